/-
  Walks: automata: which states are near; which accept.
  Walks: automata: the closure of states: what 'add' does.
  Walks: automata: the closure of states.
  Walks: automata: where a symbol leads.
  Plain laws: automata: what silent moves reach, and how far it is to the end. No program in sight.
  Plain laws: automata: the words up to a length, as the program finds them and as the reference does. No program in sight.
  Plain functions, more: a word is split by a cut, as the program does it. No program in sight.
  Plain functions, more: pieces whose parts are told at the end. No program in sight.
  Plain laws: rows and squares of truths; what is reached, by two ways. No program in sight.
  Plain laws: a square of truths is closed by passes over all triples. No program in sight.
  Plain laws: classes of what is linked, found one after the other. No program in sight.
  Plain laws: the classes are one list; lists of classes in the order of their least elements. No program in sight.
  Plain laws: labels that are pushed along links until nothing changes. No program in sight.
  Plain laws: lists in the order of a relation; a part as an ascending list; the least of a list. No program in sight.
  Plain laws: which automata are in order. No program in sight.
  Walks: automata: distances.
  Walks: automata: the graph of an automaton.
  Walks: automata: the words up to a length.
  Walks: the relation of a graph (package cut): squares, of, at, reach.
  Walks: reach, loops, fits, begin (package cut).
-/
import Derived.Test.YtgfabnhpllkebaaGreatDoorPk06
import Derived.Test.YtgfabnhpllkebaaGreatDoorMShelfD
import Derived.Test.YtgfabnhpllkebaaGreatDoorPk02
import Derived.Test.YtgfabnhpllkebaaGreatDoorPk03
namespace Go.Proofs.YtgfabnhpllkebaaGreatDoor
open Go.RowKit Go.Cb Go.En
set_option linter.all false
set_option maxRecDepth 100000
theorem ZcJ:FldT Tryz.prog 196 2 2=true:=by kernel_rfl
theorem ZpZ:NoAgg Tryz.prog 134=true:=by kernel_rfl
theorem ZaO:NoAgg Tryz.prog 139=true:=by kernel_rfl
theorem Zds:NoAgg Tryz.prog 4=true:=by kernel_rfl
theorem Zbg:SlT Tryz.prog 139 4 1=true:=by kernel_rfl
theorem Zbq:(Tryz.prog.info? 3).map (·.size)=some 1:=by kernel_rfl
def cI (x:Int):List PV:=[pInt x]
theorem ZzJ (x:Int):(cI x).length=1:=rfl
theorem Zwo (l:List Int):l.map pInt=l.flatMap cI:=by
 induction l with
 |nil=>rfl
 |cons x l ih=>rw [List.map_cons,List.flatMap_cons,ih];rfl
theorem ζL (e n:Nat) (l:List Int) (hn:n=l.length):share (.own e 1 n (l.map pInt))=pInts l:=by
 subst hn
 rw [share,ζ3,List.map_map];rfl
theorem ZkY {p:Int→Bool} {l:List Int} {k:Nat} {x:Int} (hx:l[k]? =some x) (h:p x=false):((Zmn p l k).map pInt).set (Zcv p l k).length (pInt x)=(Zmn p l (k+1)).map pInt:=by
 have h1:=ZuH (f:=cI) ZzJ hx h
 rw [Nat.mul_one,←Zwo,←Zwo] at h1
 exact h1
theorem ZuI (f :Nat) (caps:List PV) (p:Int→Bool) (l:List Int) (hl:l.length≤1000000) (hv g:Value) (hc:∀args w,(callFunc f args).run Tryz.prog w= .ok (.enter f args) w) (hf:∀s∈l,AF Tryz.prog f (pInt s::caps) (· =ζO (p s))):
 AFh False Tryz.prog 190 [(0,hv, .val hv),(1,g, .fn f caps)] [(1000,hv, .own 3 1 l.length (l.map pInt))] (fun v q h=>q= .val v∧h=[(1000,v, .own 3 1 (l.filter fun s=> !p s).length ((l.filter fun s=> !p s).map pInt))]):=by
 refine AFh.of_body 42 Tryz.func190 rfl Tryz.ntmps190 (Nat.le_of_ble_eq_true rfl) rfl ?_
 intro w0 M0 N0
 have hq:=ζL 3 l.length l rfl
 refine nav ?_
 (refine ζa ?_<;>refine xL 4 ζc ?_<;>refine ζb (nav ?_)<;>try dsimp only)
 (refine ζa ?_<;>refine xL 8 ζd ?_<;>refine xL 9 ζd ?_<;>(refine cS 10 (cB rfl Tryz.call154 (ZeL f caps p l hc hf) ⟨⟨_,_,rfl,hq▸Zq5 (l:=1000) rfl⟩,⟨_,_,rfl,Zpz (x:= .tmp 9) rfl⟩,trivial⟩) fun v10 h=>?_;cases h)<;>refine xL 5 ζc ?_<;>refine ζb (nav ?_)<;>try dsimp only)
 (refine ζa ?_<;>refine xL 11 ζd ?_<;>refine xL 12 Zag ?_<;>refine ζb (nav ?_)<;>try dsimp only)
 (first|refine cCd ?_ ?_|refine cC ?_ ?_)<;>intro hb12
 · first
   |exact Bool.noConfusion hb12
   | (
    refine nav ?_
    (refine ζa ?_<;>refine xL 13 ζd ?_<;>refine xL 4 ζc ?_<;>refine ζb (nav ?_)<;>try dsimp only)
    refine Zmy [(1000,hv,PV.own 3 1 l.length (l.map pInt))] (Tryz.results190) rfl ⟨rfl,trivial⟩ ⟨rfl,?_⟩
    rw [List.filter_eq_self.2 fun s hs=>?_]
    rcases ZmE (p:=p) (l:=l) with ⟨_,h⟩|⟨i0,x0,h,_⟩
    · rw [h s hs];rfl
    · exfalso;omega)
 · first
   |exact Bool.noConfusion hb12
   | (
    obtain ⟨i0,x0,hi0,hx0,hp0,hn0⟩:=(ZmE (p:=p) (l:=l)).resolve_left fun h=>hb12 h.1
    have hlt0:=ζe hx0
    have hk0:Zcv p l (i0+1)=l.take i0:=by rw [ZdR hx0 hp0,ZrU hn0]
    rw [hi0]
    refine nav ?_
    (refine ζa ?_<;>refine xL 14 ζd ?_<;>refine xL 15 ζM ?_<;>refine xL 6 ζc ?_<;>refine ζb (nav ?_)<;>try dsimp only)
    refine ζy (ι:={q:Nat×Nat×List PV//q.1≤l.length∧q.2.1=(Zcv p l q.1).length∧q.2.2=(Zmn p l q.1).map pInt}) (fun k=>⟨[(0,_,_),(1,_,_),(5, .int .i64 k.1.2.1,pInt k.1.2.1),(6, .int .i64 k.1.1,pInt k.1.1)],[(1000,hv, .own 3 1 l.length k.1.2.2)]⟩) (fun k=>l.length-k.1.1) ⟨(i0+1,i0,l.map pInt),hlt0,(by dsimp only;rw [hk0,List.length_take];omega),(by dsimp only;unfold Zmn;rw [hk0,List.length_take,Nat.min_eq_left (by omega),List.take_append_drop])⟩ (fun a w H=>H.weaken ⟨rfl,rfl,rfl,rfl,trivial⟩ ⟨rfl,trivial⟩) ?_
    rintro ⟨⟨k,j,row⟩,hk,hj,hr⟩
    dsimp only
    dsimp only at hk hj hr
    have hle:=Zgt p l k
    have hjl:j≤l.length:=by omega
    have hjl2:(j:Int)≤1000000:=by omega
    have hrl:row.length=l.length:=by rw [hr,List.length_map,ZuG p l hk]
    refine nav ?_
    (refine ζa ?_<;>refine xL 16 ζd ?_<;>refine xL 17 ζd ?_<;>refine xL 18 (ZaC 1000 ζn) ?_<;>refine xL 19 ζS ?_<;>refine ζb (nav ?_)<;>try dsimp only)
    (first|refine cCd ?_ ?_|refine cC ?_ ?_)<;>intro hb19
    · first
      |exact Bool.noConfusion hb19
      | (
       obtain ⟨x,hx⟩:=ζm (show k<l.length by omega)
       have e1:row[k*1]? =some (pInt x):=by rw [hr,Nat.mul_one,List.getElem?_map,Zxv hx];rfl
       have e3:j<row.length:=by rw [hrl];have:=ζe hx;omega
       refine nav ?_
       (refine ζa ?_<;>refine xL 22 ζd ?_<;>refine xL 23 ζd ?_<;>refine xL 24 (Zaw 1000 ζn) ?_<;>(refine yL 25 (ζs 1000 ζj) fun v25 h=>?_;cases h)<;>refine xL 7 ζc ?_<;>refine ζb (nav ?_)<;>try dsimp only)
       (refine ζa ?_<;>refine xL 26 ζd ?_<;>refine xL 27 ζd ?_<;>(refine cS 28 (ZcY (f:=f) (ps:=caps) rfl ⟨_,rfl⟩ hc rfl (hf x (List.mem_of_getElem? hx))) fun v28 h=>?_;cases h)<;>refine xL 29 Zak ?_<;>refine ζb (nav ?_)<;>try dsimp only)
       (first|refine cCd ?_ ?_|refine cC ?_ ?_)<;>intro hb29
       · first
         |exact Bool.noConfusion hb29
         | (
          refine nav ?_
          (refine ζa ?_<;>refine xL 30 ζd ?_<;>refine xL 31 ζd ?_<;>refine xL 32 ζd ?_<;>refine xL 33 (Zaw 1000 ζn) ?_<;>refine Zc1 1000 ζj Zbq ?_<;>refine ζb (nav ?_)<;>try dsimp only)
          (refine ζa ?_<;>refine xL 34 ζd ?_<;>refine xL 35 ζM ?_<;>refine xL 5 ζc ?_<;>refine ζb (nav ?_)<;>try dsimp only)
          (refine ζa ?_<;>refine xL 20 ζd ?_<;>refine xL 21 ζM ?_<;>refine xL 6 ζc ?_<;>refine ζb (nav ?_)<;>try dsimp only)
          first
           | (exact ζl (
               ⟨(k+1,j,row),ζe hx,(by dsimp only;rw [ZdR hx (by simpa using hb29)];exact hj),(by dsimp only;rw [hr];unfold Zmn;rw [ZdR hx (by simpa using hb29)])⟩
               ) (by dsimp only;omega) ⟨rfl,rfl,rfl,rfl,trivial⟩ ⟨rfl,trivial⟩)
           | (exact ζl (
               ⟨(k+1,j+1,row.set (j*1) (pInt x)),ζe hx,(by show j+1=(Zcv p l (k+1)).length;rw [Zju hx (by simpa using hb29)];simp [hj]),(by show row.set (j*1) (pInt x)=(Zmn p l (k+1)).map pInt;rw [hr,hj,Nat.mul_one];exact ZkY hx (by simpa using hb29))⟩
               ) (by dsimp only;omega) ⟨rfl,rfl,rfl,rfl,trivial⟩ ⟨rfl,trivial⟩))
       · first
         |exact Bool.noConfusion hb29
         | (
          refine nav ?_
          (refine ζa ?_<;>refine xL 20 ζd ?_<;>refine xL 21 ζM ?_<;>refine xL 6 ζc ?_<;>refine ζb (nav ?_)<;>try dsimp only)
          first
           | (exact ζl (
               ⟨(k+1,j,row),ζe hx,(by dsimp only;rw [ZdR hx (by simpa using hb29)];exact hj),(by dsimp only;rw [hr];unfold Zmn;rw [ZdR hx (by simpa using hb29)])⟩
               ) (by dsimp only;omega) ⟨rfl,rfl,rfl,rfl,trivial⟩ ⟨rfl,trivial⟩)
           | (exact ζl (
               ⟨(k+1,j+1,row.set (j*1) (pInt x)),ζe hx,(by show j+1=(Zcv p l (k+1)).length;rw [Zju hx (by simpa using hb29)];simp [hj]),(by show row.set (j*1) (pInt x)=(Zmn p l (k+1)).map pInt;rw [hr,hj,Nat.mul_one];exact ZkY hx (by simpa using hb29))⟩
               ) (by dsimp only;omega) ⟨rfl,rfl,rfl,rfl,trivial⟩ ⟨rfl,trivial⟩)))
    · first
      |exact Bool.noConfusion hb19
      | (
       have hkl:k=l.length:=by omega
       refine nav ?_
       (refine ζa ?_<;>refine xL 36 ζd ?_<;>refine xL 37 ζd ?_<;>refine xL 38 (ZdI (i:=j) (j:=l.length) 1000 ζn rfl rfl rfl rfl rfl hjl (Nat.le_refl _)) ?_<;>(refine Zoc 1000 ζi (by decide) rfl rfl rfl rfl rfl hjl ?_;intro cs2 hcs1 hcs2)<;>refine ζb (nav ?_)<;>try dsimp only)
       (refine ζa ?_<;>refine xL 39 ζd ?_<;>refine xL 40 ζd ?_<;>refine xL 41 (ZdI (i:=0) (j:=j) 1000 ζn rfl rfl rfl rfl rfl (Nat.zero_le _) hjl) ?_<;>refine xL 4 ζc ?_<;>refine ζb (nav ?_)<;>try dsimp only)
       refine Za7 (ZBq (l:=1000) j rfl hjl) fun _=>?_
       refine Zmy [(1000,slc hv 0 j 1,PV.own 3 1 j (cs2.take (j*1)))] (Tryz.results190) rfl ⟨rfl,trivial⟩ ⟨rfl,?_⟩
       have hF:(l.filter fun s=> !p s)=Zcv p l k:=by unfold Zcv;rw [hkl,List.take_length]
       rw [hcs2,hr,hF,←hj]
       congr 4
       unfold Zmn
       rw [List.map_append,Nat.mul_one,List.take_left' (by rw [List.length_map,hj])]))
theorem ZbY (l:List Int) (hl:l.length≤1000000):AF Tryz.prog 135 [pInts l] (· = .own 3 1 l.length (l.map pInt)):=by
 refine AF.of_body 8 Tryz.func135 rfl Tryz.ntmps135 (Nat.le_of_ble_eq_true rfl) ?_
 intro w0 M0 vs hl hv
 obtain ⟨v0,rfl⟩:=ZdL hl
 clear hl hv
 have f3:(l.map pInt).length=l.length*1:=by rw [List.length_map,Nat.mul_one]
 have f4:(l.map pInt).all En.one=true:=by rw [List.all_map,List.all_eq_true];intro x _;rfl
 refine nav ?_
 (refine ζa ?_<;>refine xL 2 ζc ?_<;>refine ζb (nav ?_)<;>try dsimp only)
 (refine ζa ?_<;>refine xL 3 ζd ?_<;>(refine yL 4 (Zrt ζn) fun v4 hv4=>?_;rcases hv4 with rfl|⟨rfl,hn0⟩)<;>refine ζb (nav ?_)<;>try dsimp only)<;>(
  (first|refine cCd ?_ ?_|refine cC ?_ ?_)<;>intro hb4
  · first
    |exact Bool.noConfusion hb4
    | (
     refine nav ?_
     (refine ζa ?_<;>refine xL 2 ζc ?_<;>refine ζb (nav ?_)<;>try dsimp only)
     have hl0:l=[]:=List.eq_nil_of_length_eq_zero hn0
     subst hl0
     refine Za7 (Zb2 200 3 1 rfl) fun _=>?_
     exact ZcO 200 (Tryz.results135) rfl rfl rfl)
  · first
    |exact Bool.noConfusion hb4
    | (
     refine nav ?_
     (refine ζa ?_<;>refine Zwc 5 ζi fun h5 ho5=>?_<;>refine xL 6 ζd ?_<;>refine Ziu 5 7 ζi (fun h7 ho7=>?_) f3 f4<;>refine xL 2 ζc ?_<;>refine ζb (nav ?_)<;>try dsimp only)
     refine ZcO 7 (Tryz.results135) rfl rfl ?_
     rw [Nat.zero_add,List.nil_append]))
def ZzK (far:List Int) (n:Int) (s:Int):Bool:=match far[s.toNat]? with
 |some d=>decide (d<0)||decide (n<d)
 |none=>false
def Zbn (l far:List Int) (n:Int):List Int:=l.filter fun s=> !ZzK far n s
theorem ZuJ (far:List Int) (n s:Int) (h0:0≤s) (h1:s<far.length):AF Tryz.prog 191 [pInt s, .sptr 0 [pInts far], .sptr 0 [pInt n]] (· =ζO (ZzK far n s)):=by
 refine AF.of_body 18 Tryz.func191 rfl Tryz.ntmps191 (Nat.le_of_ble_eq_true rfl) ?_
 intro w0 M0 vs hl hv
 obtain ⟨v0,v1,v2,rfl⟩:=Zml hl
 obtain rfl:=hv 0 _ _ rfl rfl
 clear hl hv
 obtain ⟨d,hd⟩:=ζm (show s.toNat<far.length by omega)
 have e1:(far.map pInt)[s.toNat*1]? =some (pInt d):=by rw [Nat.mul_one,List.getElem?_map,hd];rfl
 refine nav ?_
 (refine ζa ?_<;>refine xL 4 ζc ?_<;>refine ζb (nav ?_)<;>try dsimp only)
 (refine ζ4 (fun i=>([]:List Nat).elem i) [] (by kernel_rfl) ?_<;>(refine yD 0 5 rfl (Za3 ζx) fun v5 h=>?_;cases h)<;>refine xE 1 6 rfl ζd ?_<;>refine xE 2 7 rfl (ZkB ζn) ?_<;>(refine yE 3 8 rfl (Za3 ζj) fun v8 h=>?_;cases h)<;>refine xE 4 9 rfl ζS ?_<;>refine xE 5 10 rfl ζd ?_<;>(refine bDd 10 (fun hb10=>?_) (fun hb10=>?_)<;>(first|refine kD 6 11 rfl ?_|(refine yD 6 11 rfl (Za3 ζx) fun v11 h=>?_;cases h)))<;>(first|refine kD 7 12 rfl ?_|refine xD 7 12 rfl ζd ?_)<;>(first|refine kD 8 13 rfl ?_|refine xD 8 13 rfl (ZkB ζn) ?_)<;>(first|refine kD 9 14 rfl ?_|(refine yD 9 14 rfl (Za3 ζj) fun v14 h=>?_;cases h))<;>(first|refine kD 10 15 rfl ?_|(refine yD 10 15 rfl (Za3 ζj) fun v15 h=>?_;cases h))<;>(first|refine kD 11 16 rfl ?_|refine xD 11 16 rfl ZaH ?_)<;>refine xE 12 17 rfl ζF ?_<;>refine xE 13 4 rfl ζc ?_<;>refine ZaM (by kernel_rfl) (nav ?_)<;>try dsimp only)<;>(
  refine ζt (Tryz.results191) rfl ?_
  unfold ZzK
  rw [hd]
  show _=ζO (decide (d<0)||decide (n<d))
  first
   |(rw [decide_eq_true hb10];rfl)
   |(rw [decide_eq_false hb10];rfl))
theorem ZmF (l far:List Int) (n:Int) (hl:l.length≤1000000) (hs:∀s∈l,0≤s∧s<far.length):AF Tryz.prog 140 [pInts l,pInts far,pInt n] (· = .own 3 1 (Zbn l far n).length ((Zbn l far n).map pInt)):=by
 refine AF.of_body 11 Tryz.func140 rfl Tryz.ntmps140 (Nat.le_of_ble_eq_true rfl) ?_
 intro w0 M0 vs hl hv
 obtain ⟨v0,v1,v2,rfl⟩:=Zml hl
 obtain rfl:=hv 2 _ _ rfl rfl
 clear hl hv
 refine nav ?_
 (refine ζa ?_<;>refine Zue 4 fun h4=>?_<;>refine Zue 5 fun h5=>?_<;>refine xL 6 ζc ?_<;>refine ζb (nav ?_)<;>try dsimp only)
 refine ζv (ZfF (l:=4) (t:=4) (j:=0) rfl Nat.one_pos rfl) fun _=>?_
 refine ζv (ZfF (l:=5) (t:=5) (j:=0) rfl Nat.one_pos rfl) fun _=>?_
 (refine ζa ?_<;>refine xL 7 ζd ?_<;>refine cO 8 (cA Tryz.call135 (ZbY l hl)) fun v8 ho8=>?_<;>refine xL 9 ZkC ?_<;>(refine ζq (ζD (l:=8) 1000 rfl rfl) fun _=>?_;refine Za4 [(1000,_,_)] ⟨rfl,trivial⟩ ?_;refine ZeG [] 10 (Tryz.call190) (ZuI 191 [.sptr 0 [pInts far], .sptr 0 [pInt n]] (ZzK far n) l hl v8 _ (Tryz.call191) (fun s hm=>ZuJ far n s (hs s hm).1 (hs s hm).2)) ?_;rintro v10 _ _ ⟨rfl,rfl⟩)<;>refine xL 6 ζc ?_<;>refine ζb (nav ?_)<;>try dsimp only)
 exact ZcO 1000 (Tryz.results140) rfl rfl rfl
def movesOf (a:Aut) (s:Nat):List Mv:=a.moves.filter fun m=>decide (m.src=(s:Int))
def Zgh (a:Aut) (s:Int):Bool:=a.fin.any fun t=>decide (t=s)
def ZmG (a:Aut):PV:= .sl a.n.toNat ((List.range a.n.toNat).map fun s=>pMvs (movesOf a s))
def Zxx (a:Aut):PV:= .sl a.n.toNat ((List.range a.n.toNat).map fun s=>ζO (Zgh a (s:Nat)))
def pGr (a:Aut):PV:= .sptr 0 [pInt a.syms,ZmG a,Zxx a]
theorem Zdt {N k:Nat} (h:k<N) (f:Nat→PV):((List.range N).map f)[k]? =some (f k):=by
 rw [List.getElem?_map,List.getElem?_range h];rfl
theorem ZmH (a:Aut) (s:Int) (h0:0≤s) (h1:s<a.n):AF Tryz.prog 157 [pInt s, .sptr 0 [pGr a]] (· =ζO (Zgh a s)):=by
 refine AF.of_body 11 Tryz.func157 rfl Tryz.ntmps157 (Nat.le_of_ble_eq_true rfl) ?_
 intro w0 M0 vs hl hv
 obtain ⟨v0,v1,rfl⟩:=Zb3 hl
 obtain rfl:=hv 0 _ _ rfl rfl
 clear hl hv
 have e1:((List.range a.n.toNat).map fun s=>ζO (Zgh a (s:Nat)))[s.toNat*1]? =some (ζO (Zgh a s)):=by rw [Nat.mul_one,Zdt (by omega)];rw [show ((s.toNat:Nat):Int)=s by omega]
 have e2:s.toNat<a.n.toNat:=by omega
 refine nav ?_
 (refine ζa ?_<;>refine xL 3 ζc ?_<;>refine ζb (nav ?_)<;>try dsimp only)
 (refine ζa ?_<;>(refine yL 4 (Za3 ZpZ) fun v4 h=>?_;cases h)<;>refine xL 5 ZgU ?_<;>refine xL 6 (ZgS ZcJ) ?_<;>(refine yL 7 (Za3 ZaO) fun v7 h=>?_;cases h)<;>refine xL 8 ζd ?_<;>refine xL 9 (ZkB Zbg) ?_<;>(refine yL 10 (Za3 Zds) fun v10 h=>?_;cases h)<;>refine xL 3 ζc ?_<;>refine ζb (nav ?_)<;>try dsimp only)
 exact ζt Tryz.results157 rfl rfl
theorem ZfM (a:Aut) (l:List Int) (hs:∀s∈l,0≤s∧s<a.n):AF Tryz.prog 113 [pGr a,pInts l] (· =ζO (l.any (Zgh a))):=by
 refine AF.of_body 8 Tryz.func113 rfl Tryz.ntmps113 (Nat.le_of_ble_eq_true rfl) ?_
 intro w0 M0 vs hl hv
 obtain ⟨v0,v1,rfl⟩:=Zb3 hl
 clear hl hv
 refine nav ?_
 (refine ζa ?_<;>refine Zue 2 fun h2=>?_<;>refine xL 4 ζc ?_<;>refine ζb (nav ?_)<;>try dsimp only)
 refine ζv (ZfF (l:=2) (t:=2) (j:=0) rfl Nat.one_pos rfl) fun _=>?_
 (refine ζa ?_<;>refine xL 5 ζd ?_<;>refine xL 6 ZkC ?_<;>(refine cS 7 (cA Tryz.call108 (Zc2 157 [.sptr 0 [pGr a]] (Zgh a) l (Tryz.call157) (fun s hm=>ZmH a s (hs s hm).1 (hs s hm).2))) fun v7 h=>?_;cases h)<;>refine xL 4 ζc ?_<;>refine ζb (nav ?_)<;>try dsimp only)
 exact ζt Tryz.results113 rfl rfl
theorem Zix:MpT Tryz.prog 197 3 4 (.int .i64) (.bool false):=⟨Tryz.underlying197,Tryz.underlying3, .inr ⟨_,rfl⟩,by show ZeroT _ _ _;unfold ZeroT;kernel_rfl⟩
theorem ZfN:NoAgg Tryz.prog 197=true:=by kernel_rfl
theorem Zbo:(Tryz.prog.info? 36).map (·.size)=some 1:=by kernel_rfl
def Zfg (out:List Int):List (Int×Value):=out.map fun s=>(s, .bool true)
theorem ZuK (out:List Int) (s:Int):(Zdo (ikv (Zfg out)) (.int .i64 s)).getD (.bool false)= .bool (out.elem s):=by
 rw [ZnZ]
 induction out with
 |nil=>rfl
 | cons x l ih=>
   unfold Zfg at ih ⊢
   rw [List.map_cons,Zf7,List.elem_cons]
   by_cases h:s=x
   · subst h;simp
   · have h1:(s==x)=false:=by simpa using h
     rw [h1]
     simp [h,Ne.symm h]
     simpa using ih
theorem ZuL {out:List Int} {s:Int} (h:out.elem s=false):Ze5 (ikv (Zfg out)) (.int .i64 s) (.bool true)=ikv (Zfg (out++[s])):=by
 rw [Zn0]
 congr 1
 induction out with
 |nil=>rfl
 | cons x l ih=>
   rw [List.elem_cons] at h
   have h1:(s==x)=false:=by cases h2:(s==x)<;>simp_all
   have h2:l.elem s=false:=by simp_all
   have h3:¬s=x:=by simpa using h1
   unfold Zfg at ih ⊢
   rw [List.map_cons,Zrb]
   simp [h3,Ne.symm h3]
   simpa using ih h2
def ZeI (out:List Int) (s:Int):List Int:=if out.elem s then out else out++[s]
def clH (h5 h6 m r:Value) (out:List Int):List (Nat×Ent):=[(1001,h5, .own 197 1 1 [.val m]),(1002,h6, .own 36 1 1 [.val r]),(1003,m, .omap (ikv (Zfg out))),(1004,r, .own 3 1 out.length (out.map pInt))]
theorem Zhe (s:Int) (h5 h6 m r:Value) (out:List Int) (hl:out.length≤1000000) (hm:m.oneCell'=true) (hr:r.oneCell'=true):AFh False Tryz.prog 155 [(0, .int .i64 s,pInt s),(1,padd (sbase h5) 0, .val (padd (sbase h5) 0)),(2,padd (sbase h6) 0, .val (padd (sbase h6) 0))]
 (clH h5 h6 m r out) (fun v q h=>q= .val v∧∃r':Value,r'.oneCell'=true∧h=clH h5 h6 m r' (ZeI out s)):=by
 have hu:=ZuK out s
 refine AFh.of_body 14 Tryz.func155 rfl Tryz.ntmps155 (Nat.le_of_ble_eq_true rfl) rfl ?_
 intro w0 M0 N0
 refine nav ?_
 (refine ζa ?_<;>(refine yL 4 (ζs 1001 ZfN) fun v4 h=>?_;cases h)<;>refine xL 5 ζd ?_<;>refine xL 6 (Zud 1003 Zix) ?_<;>refine xL 7 Zak ?_<;>refine ζb (nav ?_)<;>try dsimp only)
 (first|refine cCd ?_ ?_|refine cC ?_ ?_)<;>intro hb7
 · first
   |exact Bool.noConfusion hb7
   | (
    have hn:out.elem s=false:=by simpa using hb7
    have hp:=ZuL hn
    refine nav ?_
    (refine ζa ?_<;>(refine yL 8 (ζs 1001 ZfN) fun v8 h=>?_;cases h)<;>refine xL 9 ζd ?_<;>(refine ZgT 1003 Zix ?_;rw [hp])<;>refine ζb (nav ?_)<;>try dsimp only)
    (refine ζa ?_<;>(refine yL 10 (ζs 1002 ζx) fun v10 h=>?_;cases h)<;>refine xL 11 ζd ?_<;>refine ζI (kk:=1) 12 ζi fun h12 ho12=>?_<;>refine ζY 1004 12 13 ζi fun h13 ho13=>?_<;>refine Zc1 1002 ζx Zbo ?_<;>refine ζb (nav ?_)<;>try dsimp only)
    first
     | (refine ZbJ (ζD (l:=13) 1004 rfl rfl) fun _=>?_
        refine Zgc (clH h5 h6 m _ (out++[s])) (Tryz.results155) ⟨rfl,rfl,rfl,?_,trivial⟩ ⟨rfl,_,ho13,?_⟩
        · rw [List.map_append,List.length_append];rfl
        · unfold ZeI;rw [hn];rfl)
     | (refine Zgc (clH h5 h6 m r out) (Tryz.results155) ⟨rfl,rfl,rfl,rfl,trivial⟩ ⟨rfl,r,hr,?_⟩
        unfold ZeI;rw [if_pos (by simpa using hb7)]))
 · first
   |exact Bool.noConfusion hb7
   | (
    refine nav ?_
    first
     | (refine ZbJ (ζD (l:=13) 1004 rfl rfl) fun _=>?_
        refine Zgc (clH h5 h6 m _ (out++[s])) (Tryz.results155) ⟨rfl,rfl,rfl,?_,trivial⟩ ⟨rfl,_,ho13,?_⟩
        · rw [List.map_append,List.length_append];rfl
        · unfold ZeI;rw [hn];rfl)
     | (refine Zgc (clH h5 h6 m r out) (Tryz.results155) ⟨rfl,rfl,rfl,rfl,trivial⟩ ⟨rfl,r,hr,?_⟩
        unfold ZeI;rw [if_pos (by simpa using hb7)]))
theorem Zbw:FldT Tryz.prog 196 1 1=true:=by kernel_rfl
theorem Zcn:NoAgg Tryz.prog 194=true:=by kernel_rfl
theorem Zco:SlT Tryz.prog 194 37 1=true:=by kernel_rfl
theorem Zp0:(Tryz.prog.info? 197).map (·.size)=some 1:=by kernel_rfl
theorem Zp1:ZeroT Tryz.prog 197 (.map none):=by unfold ZeroT;kernel_rfl
theorem ZrW:ZeroT Tryz.prog 36 (.slice none 0 0):=by unfold ZeroT;kernel_rfl
theorem nodup_len:∀(n:Nat) (L:List Int),L.Nodup→(∀s∈L,0≤s∧s<n)→L.length≤n
 |0,[],_,_=>Nat.le_refl _
 |0,x::_,_,h=>by have:=h x (List.mem_cons_self ..);omega
 | n +1,L,hn,h=>by
   have h1:=nodup_len n (L.erase (n:Int)) (hn.erase _) fun s hs=>by
    have h2:=(hn.mem_erase_iff).1 hs
    have h3:=h s h2.2
    have:=h2.1
    omega
   have h2:=List.length_erase (a:=(n:Int)) (l:=L)
   split at h2<;>omega
def OutOk (n:Int) (out:List Int):Prop:=out.Nodup∧∀s∈out,0≤s∧s<n
theorem OutOk.len {n:Int} {out:List Int} (h:OutOk n out):out.length≤n.toNat:=nodup_len _ _ h.1 fun s hs=>by have:=h.2 s hs;omega
theorem OutOk.add {n:Int} {out:List Int} {s:Int} (h:OutOk n out) (hs:0≤s∧s<n):OutOk n (ZeI out s):=by
 unfold ZeI
 split
 · exact h
 · rename_i h1
   refine ⟨?_,fun t ht=>?_⟩
   · rw [List.nodup_append]
     refine ⟨h.1,by simp,fun a ha b hb=>?_⟩
     simp only [List.mem_singleton] at hb
     subst hb
     intro e
     subst e
     exact h1 (by simpa using ha)
   · rw [List.mem_append,List.mem_singleton] at ht
     rcases ht with ht|rfl
     · exact h.2 t ht
     · exact hs
def ZaJ (l:List Int) (out:List Int):List Int:=l.foldl ZeI out
theorem OutOk.all {n:Int}:∀(l:List Int) {out:List Int},OutOk n out→(∀s∈l,0≤s∧s<n)→OutOk n (ZaJ l out)
 |[],_,h,_=>h
 |x::l,_,h,hl=>OutOk.all l (h.add (hl x (List.mem_cons_self ..))) fun s hs=>hl s (List.mem_cons_of_mem _ hs)
theorem ZmI {l:List Int} {k:Nat} {x:Int} (h:l[k]? =some x) (out:List Int):ZaJ (l.take (k+1)) out=ZeI (ZaJ (l.take k) out) x:=by
 unfold ZaJ;rw [ζH h,List.foldl_append];rfl
def Za9 (ms:List Mv):List Int:=(ms.filter fun m=>decide (m.sym= -1)).map (·.dst)
theorem Zp2 {ms:List Mv} {k:Nat} {m:Mv} (h:ms[k]? =some m) (hs:m.sym= -1):Za9 (ms.take (k+1))=Za9 (ms.take k)++[m.dst]:=by
 unfold Za9;rw [ζH h,List.filter_append,List.map_append];simp [hs]
theorem ZkZ {ms:List Mv} {k:Nat} {m:Mv} (h:ms[k]? =some m) (hs:¬m.sym= -1):Za9 (ms.take (k+1))=Za9 (ms.take k):=by
 unfold Za9;rw [ζH h,List.filter_append,List.map_append];simp [hs]
def Zhf (a:Aut) (out:List Int) (i:Nat):List Int:=match out[i]? with
 |some s=>ZaJ (Za9 (movesOf a s.toNat)) out
 |none=>out
def Zck (a:Aut) (l:List Int):Nat→List Int
 |0=>ZaJ l []
 |i+1=>Zhf a (Zck a l i) i
def Za1 (a:Aut) (l:List Int):List Int:=(Zck a l a.n.toNat).mergeSort fun x y=>decide (x≤y)
def Ziy (a:Aut):Prop:=∀m∈a.moves,0≤m.dst∧m.dst<a.n
theorem Zk0 {a:Aut} (h:Ziy a) (s:Nat):∀t∈Za9 (movesOf a s),0≤t∧t<a.n:=fun t ht=>by
 unfold Za9 movesOf at ht
 simp only [List.mem_map,List.mem_filter] at ht
 obtain ⟨m,⟨⟨h1,_⟩,_⟩,rfl⟩:=ht
 exact h m h1
theorem ZeU {a:Aut} {l:List Int} (h:Ziy a) (hl:∀s∈l,0≤s∧s<a.n):∀i,OutOk a.n (Zck a l i)
 |0=>OutOk.all l ⟨List.nodup_nil,by simp⟩ hl
 | i+1=>by
   rw [Zck,Zhf]
   split
   · exact OutOk.all _ (ZeU h hl i) (Zk0 h _)
   · exact ZeU h hl i
theorem Zk1 {a:Aut} {l:List Int} {i:Nat} (h:(Zck a l i).length≤i):∀j,Zck a l (i+j)=Zck a l i
 |0=>rfl
 | j+1=>by
   rw [←Nat.add_assoc,Zck,Zk1 h j,Zhf,List.getElem?_eq_none (by omega)]
theorem Zop {a:Aut} {l:List Int} {i n:Nat} (h:(Zck a l i).length≤i) (hi:i≤n):Zck a l n=Zck a l i:=by
 have:=Zk1 h (n-i)
 rwa [show i+(n-i)=n by omega] at this
theorem Zxy {ms:List Mv} {k:Nat} {m:Mv} (h:ms[k]? =some m) (hs:m.sym= -1) (out:List Int):ZeI (ZaJ (Za9 (ms.take k)) out) m.dst=ZaJ (Za9 (ms.take (k+1))) out:=by
 rw [Zp2 h hs];unfold ZaJ;rw [List.foldl_append];rfl
theorem ZuM {a:Aut} (h:Ziy a) (s k:Nat):∀t∈Za9 ((movesOf a s).take k),0≤t∧t<a.n:=fun t ht=>by
 refine Zk0 h s t ?_
 unfold Za9 at ht ⊢
 simp only [List.mem_map,List.mem_filter] at ht ⊢
 obtain ⟨m,⟨h1,h2⟩,h3⟩:=ht
 exact ⟨m,⟨List.mem_of_mem_take h1,h2⟩,h3⟩
theorem Zp3:Zzr Tryz.prog 156:=fun blk cap zs w hH hb hn=>Tryz.slices_Sort_int blk 0 cap zs w hH hb hn
theorem ZmJ:ZkM Tryz.prog 156:=fun p cap w=>Tryz.slices_Sort_int_none p cap w
set_option maxHeartbeats 2000000 in
theorem Zel (a : Aut) (l:List Int) (hn:a.n≤2000) (hm:Ziy a) (hl:∀s∈l,0≤s∧s<a.n):AF Tryz.prog 111 [pGr a,pInts l] (· = .own 3 1 (Za1 a l).length ((Za1 a l).map pInt)):=by
 refine AF.of_body 57 Tryz.func111 rfl Tryz.ntmps111 (Nat.le_of_ble_eq_true rfl) ?_
 intro w0 M0 vs hl hv
 obtain ⟨v0,v1,rfl⟩:=Zb3 hl
 clear hl hv
 refine Zba 1 rfl fun hlen=>?_
 refine nav ?_
 (refine ζa ?_<;>refine xL 4 ζc ?_<;>refine ζb (nav ?_)<;>try dsimp only)
 (refine ζa ?_<;>refine ZeT 13 fun h13 ho13=>?_<;>refine ζr [(.map none)] 1 5 Zp1 fun h5=>?_<;>refine Zc1 5 ZfN Zp0 ?_<;>refine ζb (nav ?_)<;>try dsimp only)
 (refine ζa ?_<;>refine ζr [(.slice none 0 0)] 1 6 ZrW fun h6=>?_<;>refine ζb (nav ?_)<;>try dsimp only)
 (refine ζa ?_<;>refine xL 14 ZkC ?_<;>refine xL 7 ζc ?_<;>refine ζb (nav ?_)<;>try dsimp only)
 refine ζv (Zb2 200 3 1 rfl) fun _=>?_
 refine ζv (ζD (l:=5) 1001 rfl rfl) fun _=>?_
 refine ζv (ζD (l:=6) 1002 rfl rfl) fun _=>?_
 refine ζv (ζD (l:=13) 1003 rfl rfl) fun _=>?_
 refine ζv (ζD (l:=200) 1004 rfl rfl) fun _=>?_
 (refine ζa ?_<;>refine xL 15 ζd ?_<;>refine xL 16 (ζV ζn) ?_<;>refine xL 17 ζd ?_<;>refine ζb (nav ?_)<;>try dsimp only)
 refine ζy (ι:={q:Nat×Value//q.1≤l.length∧q.2.oneCell'=true}) (fun k=>⟨[(0,_,_),(5,_,_),(6,_,_),(7,_,_),(15,_,_),(16,_,_),(17, .int .i64 k.1.1,pInt k.1.1)],[(1001,h5, .own 197 1 1 [.val h13]),(1002,h6, .own 36 1 1 [.val k.1.2]),(1003,h13, .omap (ikv (Zfg (ZaJ (l.take k.1.1) [])))),(1004,k.1.2, .own 3 1 (ZaJ (l.take k.1.1) []).length ((ZaJ (l.take k.1.1) []).map pInt))]⟩) (fun k=>l.length-k.1.1) ⟨(0, .slice none 0 0),Nat.zero_le _,rfl⟩ (fun a w H=>H.weaken ⟨rfl,rfl,rfl,rfl,rfl,rfl,rfl,trivial⟩ ⟨rfl,rfl,rfl,rfl,trivial⟩) ?_
 rintro ⟨⟨k,r⟩,hk,hr⟩
 dsimp only
 dsimp only at hk hr
 have hok:OutOk a.n (ZaJ (l.take k) []):=OutOk.all _ ⟨List.nodup_nil,by simp⟩ (fun s hs=>hl s (List.mem_of_mem_take hs))
 have hol:(ZaJ (l.take k) []).length≤1000000:=by have:=hok.len;omega
 refine nav ?_
 (refine ζa ?_<;>refine xL 18 ζS ?_<;>refine ζb (nav ?_)<;>try dsimp only)
 (first|refine cCd ?_ ?_|refine cC ?_ ?_)<;>intro hb18
 · first
   |exact Bool.noConfusion hb18
   | (
    obtain ⟨x,hx⟩:=ζm (show k<l.length by omega)
    have e1:=Zaf (f:=pInt) hx
    refine nav ?_
    (refine ζa ?_<;>refine xL 19 (ζJ ζn) ?_<;>(refine yL 20 (Za3 ζj) fun v20 h=>?_;cases h)<;>refine xL 9 ζc ?_<;>refine ζb (nav ?_)<;>try dsimp only)
    (refine ζa ?_<;>refine xL 21 ζd ?_<;>refine xL 22 ζd ?_<;>(refine Za4 (clH h5 h6 h13 r (ZaJ (l.take k) [])) ⟨rfl,rfl,rfl,rfl,trivial⟩ ?_;refine Zwg [] 23 (Tryz.call155) (Zhe x h5 h6 h13 r (ZaJ (l.take k) []) hol ho13 hr) ?_;rintro v23 _ _ ⟨rfl,r2,hr2,rfl⟩;rw [←ZmI hx])<;>refine ζb (nav ?_)<;>try dsimp only)
    (refine ζa ?_<;>refine xL 24 ζM ?_<;>refine xL 17 ζd ?_<;>refine ζb (nav ?_)<;>try dsimp only)
    refine ζl (
     ⟨(k+1,r2),ζe hx,hr2⟩
     ) (by dsimp only;omega) ⟨rfl,rfl,rfl,rfl,rfl,rfl,rfl,trivial⟩ ⟨rfl,rfl,rfl,rfl,trivial⟩)
 · first
   |exact Bool.noConfusion hb18
   | (
    rw [show ZaJ (l.take k) []=Zck a l 0 by rw [List.take_of_length_le (by omega)];rfl]
    refine nav ?_
    (refine ζa ?_<;>refine xL 10 ζc ?_<;>refine ζb (nav ?_)<;>try dsimp only)
    refine ζy (ι:={q:Nat×Value//q.1≤a.n.toNat∧q.2.oneCell'=true}) (fun k=>⟨[(0,_,_),(5,_,_),(6,_,_),(7,_,_),(10, .int .i64 k.1.1,pInt k.1.1)],[(1001,h5, .own 197 1 1 [.val h13]),(1002,h6, .own 36 1 1 [.val k.1.2]),(1003,h13, .omap (ikv (Zfg (Zck a l k.1.1)))),(1004,k.1.2, .own 3 1 (Zck a l k.1.1).length ((Zck a l k.1.1).map pInt))]⟩) (fun k=>a.n.toNat-k.1.1) ⟨(0,r),Nat.zero_le _,hr⟩ (fun a w H=>H.weaken ⟨rfl,rfl,rfl,rfl,rfl,trivial⟩ ⟨rfl,rfl,rfl,rfl,trivial⟩) ?_
    rintro ⟨⟨i,r3⟩,hi,hr3⟩
    dsimp only
    dsimp only at hi hr3
    have hok3:=ZeU hm hl i
    have hlen3:=hok3.len
    refine nav ?_
    (refine ζa ?_<;>refine xL 25 ζd ?_<;>(refine yL 26 (ζs 1002 ζx) fun v26 h=>?_;cases h)<;>refine xL 27 (ZaC 1004 ζn) ?_<;>refine xL 28 ζS ?_<;>refine ζb (nav ?_)<;>try dsimp only)
    (first|refine cCd ?_ ?_|refine cC ?_ ?_)<;>intro hb28
    · first
      |exact Bool.noConfusion hb28
      | (
       obtain ⟨s,hs⟩:=ζm (show i<(Zck a l i).length by omega)
       have hsr:=hok3.2 s (List.mem_of_getElem? hs)
       have e1:=Zaf (f:=pInt) hs
       have e2:((List.range a.n.toNat).map fun s=>pMvs (movesOf a s))[s.toNat*1]? =some (pMvs (movesOf a s.toNat)):=by rw [Nat.mul_one,Zdt (by omega)]
       have e2':s.toNat<a.n.toNat:=by omega
       refine nav ?_
       (refine ζ4 (fun i=>([]:List Nat).elem i) [1001,1002,1003,1004] (by kernel_rfl) ?_<;>refine xD 0 31 rfl ζd ?_<;>refine xD 1 32 rfl ZgU ?_<;>refine xD 2 33 rfl (ZgS Zbw) ?_<;>(refine yD 3 34 rfl (Za3 Zcn) fun v34 h=>?_;cases h)<;>(refine yD 4 35 rfl (ζs 1002 ζx) fun v35 h=>?_;cases h)<;>refine xD 5 36 rfl ζd ?_<;>refine xD 6 37 rfl (Zaw 1004 ζn) ?_<;>(refine yD 7 38 rfl (ζs 1004 ζj) fun v38 h=>?_;cases h)<;>refine xD 8 39 rfl (ZkB Zco) ?_<;>(refine yD 9 40 rfl (Za3 ζA) fun v40 h=>?_;cases h)<;>refine xD 10 41 rfl (ζV ζG) ?_<;>refine xE 11 42 rfl ζd ?_<;>refine ZaM (by kernel_rfl) (nav ?_)<;>try dsimp only)
       refine Zba 40 rfl fun hlen40=>?_
       refine ζy (ι:={q:Nat×Value//q.1≤(movesOf a s.toNat).length∧q.2.oneCell'=true}) (fun k=>⟨[(0,_,_),(5,_,_),(6,_,_),(7,_,_),(10,_,_),(40,_,_),(41,_,_),(42, .int .i64 k.1.1,pInt k.1.1)],[(1001,h5, .own 197 1 1 [.val h13]),(1002,h6, .own 36 1 1 [.val k.1.2]),(1003,h13, .omap (ikv (Zfg (ZaJ (Za9 ((movesOf a s.toNat).take k.1.1)) (Zck a l i))))),(1004,k.1.2, .own 3 1 (ZaJ (Za9 ((movesOf a s.toNat).take k.1.1)) (Zck a l i)).length ((ZaJ (Za9 ((movesOf a s.toNat).take k.1.1)) (Zck a l i)).map pInt))]⟩) (fun k=>(movesOf a s.toNat).length-k.1.1) ⟨(0,r3),Nat.zero_le _,hr3⟩ (fun a w H=>H.weaken ⟨rfl,rfl,rfl,rfl,rfl,rfl,rfl,rfl,trivial⟩ ⟨rfl,rfl,rfl,rfl,trivial⟩) ?_
       rintro ⟨⟨k,r4⟩,hk4,hr4⟩
       dsimp only
       dsimp only at hk4 hr4
       have hok4:OutOk a.n (ZaJ (Za9 ((movesOf a s.toNat).take k)) (Zck a l i)):=OutOk.all _ hok3 (ZuM hm _ _)
       have hol4:(ZaJ (Za9 ((movesOf a s.toNat).take k)) (Zck a l i)).length≤1000000:=by have:=hok4.len;omega
       refine nav ?_
       (refine ζa ?_<;>refine xL 43 ζS ?_<;>refine ζb (nav ?_)<;>try dsimp only)
       (first|refine cCd ?_ ?_|refine cC ?_ ?_)<;>intro hb43
       · first
         |exact Bool.noConfusion hb43
         | (
          obtain ⟨mv,hmv⟩:=ζm (show k<(movesOf a s.toNat).length by omega)
          have e3:=ζ8 ζ0 (movesOf a s.toNat) k mv hmv
          have e4:=Zaq ζ0 hmv
          refine nav ?_
          (refine ζa ?_<;>refine xL 44 (ζJ ζG) ?_<;>(refine yL 45 (Zbm ζR) fun v45 h=>?_;cases h)<;>refine ζr [(.int .i64 0),(.int .i64 0),(.int .i64 0)] 3 12 Zb5 fun h12=>?_<;>refine ζC 12 ζR ?_<;>refine ζb (nav ?_)<;>try dsimp only)
          (refine ζa ?_<;>refine xL 46 (ζh 12 ZaK) ?_<;>(refine yL 47 (ζs 12 ζj) fun v47 h=>?_;cases h)<;>refine xL 48 Zag ?_<;>refine ζb (nav ?_)<;>try dsimp only)
          (first|refine cCd ?_ ?_|refine cC ?_ ?_)<;>intro hb48
          · first
            |exact Bool.noConfusion hb48
            | (
             refine nav ?_
             (refine ζa ?_<;>refine xL 49 ζd ?_<;>refine xL 50 (ζh 12 Zal) ?_<;>(refine yL 51 (ζs 12 ζj) fun v51 h=>?_;cases h)<;>(refine Za4 (clH h5 h6 h13 r4 (ZaJ (Za9 ((movesOf a s.toNat).take k)) (Zck a l i))) ⟨rfl,rfl,rfl,rfl,trivial⟩ ?_;refine Zwg [] 52 (Tryz.call155) (Zhe mv.dst h5 h6 h13 r4 (ZaJ (Za9 ((movesOf a s.toNat).take k)) (Zck a l i)) hol4 ho13 hr4) ?_;rintro v52 _ _ ⟨rfl,r5,hr5,rfl⟩;rw [Zxy hmv hb48])<;>refine ζb (nav ?_)<;>try dsimp only)
             (refine ζa ?_<;>refine xL 53 ζM ?_<;>refine xL 42 ζd ?_<;>refine ζb (nav ?_)<;>try dsimp only)
             try rw [←ZkZ hmv (by assumption)]
             first
              | (exact ζl (
                  ⟨(k+1,r5),ζe hmv,hr5⟩
                  ) (by dsimp only;omega) ⟨rfl,rfl,rfl,rfl,rfl,rfl,rfl,rfl,trivial⟩ ⟨rfl,rfl,rfl,rfl,trivial⟩)
              | (exact ζl (
                  ⟨(k+1,r4),ζe hmv,hr4⟩
                  ) (by dsimp only;omega) ⟨rfl,rfl,rfl,rfl,rfl,rfl,rfl,rfl,trivial⟩ ⟨rfl,rfl,rfl,rfl,trivial⟩))
          · first
            |exact Bool.noConfusion hb48
            | (
             refine nav ?_
             (refine ζa ?_<;>refine xL 53 ζM ?_<;>refine xL 42 ζd ?_<;>refine ζb (nav ?_)<;>try dsimp only)
             try rw [←ZkZ hmv (by assumption)]
             first
              | (exact ζl (
                  ⟨(k+1,r5),ζe hmv,hr5⟩
                  ) (by dsimp only;omega) ⟨rfl,rfl,rfl,rfl,rfl,rfl,rfl,rfl,trivial⟩ ⟨rfl,rfl,rfl,rfl,trivial⟩)
              | (exact ζl (
                  ⟨(k+1,r4),ζe hmv,hr4⟩
                  ) (by dsimp only;omega) ⟨rfl,rfl,rfl,rfl,rfl,rfl,rfl,rfl,trivial⟩ ⟨rfl,rfl,rfl,rfl,trivial⟩)))
       · first
         |exact Bool.noConfusion hb43
         | (
          rw [show ZaJ (Za9 ((movesOf a s.toNat).take k)) (Zck a l i)=Zck a l (i+1) by rw [Zck,Zhf,hs,List.take_of_length_le (by omega)]]
          refine nav ?_
          (refine ζa ?_<;>refine xL 29 ζd ?_<;>refine xL 30 ζM ?_<;>refine xL 10 ζc ?_<;>refine ζb (nav ?_)<;>try dsimp only)
          refine ζl (
           ⟨(i+1,r4),by dsimp only;omega,hr4⟩
           ) (by dsimp only;omega) ⟨rfl,rfl,rfl,rfl,rfl,trivial⟩ ⟨rfl,rfl,rfl,rfl,trivial⟩))
    · first
      |exact Bool.noConfusion hb28
      | (
       have hE:Zck a l a.n.toNat=Zck a l i:=Zop (by omega) hi
       refine nav ?_
       (refine ζa ?_<;>(refine yL 54 (ζs 1002 ζx) fun v54 h=>?_;cases h)<;>(rcases Nat.eq_zero_or_pos (Zck a l i).length with h0|h0<;>first|(refine Zxa (zs:=Zck a l i) 1004 Zp3 (Tryz.call156) ?_ h0)|(rw [List.eq_nil_of_length_eq_zero h0];refine Zjj 1004 ZmJ (Tryz.call156) ?_))<;>refine ζb (nav ?_)<;>try dsimp only)<;>(
        (refine ζa ?_<;>(refine yL 56 (ζs 1002 ζx) fun v56 h=>?_;cases h)<;>refine xL 4 ζc ?_<;>refine ζb (nav ?_)<;>try dsimp only)
        refine ZcO 1004 (Tryz.results111) rfl rfl ?_
        unfold Za1
        rw [hE,List.length_mergeSort]
        all_goals first
         |rfl
         |(rw [List.eq_nil_of_length_eq_zero h0,List.mergeSort_nil]))))
def Zc6 (c:Int) (ms:List Mv):List Int:=(ms.filter fun m=>decide (m.sym=c)).map (·.dst)
theorem ZrX {c:Int} {ms:List Mv} {k:Nat} {m:Mv} (h:ms[k]? =some m) (hs:m.sym=c):Zc6 c (ms.take (k+1))=Zc6 c (ms.take k)++[m.dst]:=by
 unfold Zc6;rw [ζH h,List.filter_append,List.map_append];simp [hs]
theorem Zoq {c:Int} {ms:List Mv} {k:Nat} {m:Mv} (h:ms[k]? =some m) (hs:¬m.sym=c):Zc6 c (ms.take (k+1))=Zc6 c (ms.take k):=by
 unfold Zc6;rw [ζH h,List.filter_append,List.map_append];simp [hs]
def Zb6 (a:Aut) (c:Int) (l:List Int):List Int:=l.flatMap fun s=>Zc6 c (movesOf a s.toNat)
theorem Zp4 (a:Aut) (c:Int) {l:List Int} {k:Nat} {s:Int} (h:l[k]? =some s):Zb6 a c (l.take (k+1))=Zb6 a c (l.take k)++Zc6 c (movesOf a s.toNat):=by
 unfold Zb6;rw [ζH h,List.flatMap_append];simp
theorem Zk2 (c:Int) (ms:List Mv):(Zc6 c ms).length≤ms.length:=by unfold Zc6;rw [List.length_map];exact List.length_filter_le _ _
theorem Zhg (a:Aut) (s:Nat):(movesOf a s).length≤a.moves.length:=List.length_filter_le _ _
theorem Zk3 (a:Aut) (c:Int):∀l:List Int,(Zb6 a c l).length≤l.length*a.moves.length
 |[]=>by simp [Zb6]
 | x::l=>by
   have h1:=Zk3 a c l
   have h2:=Zk2 c (movesOf a x.toNat)
   have h3:=Zhg a x.toNat
   have h4:Zb6 a c (x::l)=Zc6 c (movesOf a x.toNat)++Zb6 a c l:=rfl
   rw [h4,List.length_append,List.length_cons,Nat.succ_mul]
   omega
theorem Zbr {a:Aut} (h:Ziy a) (c:Int) (l:List Int):∀t∈Zb6 a c l,0≤t∧t<a.n:=fun t ht=>by
 unfold Zb6 Zc6 movesOf at ht
 simp only [List.mem_flatMap,List.mem_map,List.mem_filter] at ht
 obtain ⟨s,_,m,⟨⟨h1,_⟩,_⟩,rfl⟩:=ht
 exact h m h1
theorem Zjx (e:Nat) (L:List Int) (x:Int):PV.own e 1 (L.length+1) (L.map pInt++[pInt x])= .own e 1 (L++[x]).length ((L++[x]).map pInt):=by simp
def ZaB (a:Aut) (c:Int) (l:List Int):List Int:=Za1 a (Zb6 a c l)
set_option maxHeartbeats 2000000 in
theorem Zjy (a :Aut) (l:List Int) (c:Int) (hn:a.n≤2000) (hmv:a.moves.length≤20000) (hm:Ziy a) (hl:∀s∈l,0≤s∧s<a.n) (hll:l.length≤2000):AF Tryz.prog 112 [pGr a,pInts l,pInt c] (· = .own 3 1 (ZaB a c l).length ((ZaB a c l).map pInt)):=by
 refine AF.of_body 44 Tryz.func112 rfl Tryz.ntmps112 (Nat.le_of_ble_eq_true rfl) ?_
 intro w0 M0 vs hl hv
 obtain ⟨v0,v1,v2,rfl⟩:=Zml hl
 obtain rfl:=hv 2 _ _ rfl rfl
 clear hl hv
 refine nav ?_
 (refine ζa ?_<;>refine xL 6 ζc ?_<;>refine ζb (nav ?_)<;>try dsimp only)
 (refine ζa ?_<;>refine xL 7 ζc ?_<;>refine ζb (nav ?_)<;>try dsimp only)
 refine ζv (Zb2 200 3 1 rfl) fun _=>?_
 (refine ζa ?_<;>refine xL 12 ζd ?_<;>refine xL 13 (ζV ζn) ?_<;>refine xL 14 ζd ?_<;>refine ζb (nav ?_)<;>try dsimp only)
 refine ζy (ι:={q:Nat×Value//q.1≤l.length∧q.2.oneCell'=true}) (fun k=>⟨[(0,_,_),(2,_,_),(12,_,_),(13,_,_),(7,k.1.2, .val k.1.2),(14, .int .i64 k.1.1,pInt k.1.1)],[(200,k.1.2, .own 3 1 (Zb6 a c (l.take k.1.1)).length ((Zb6 a c (l.take k.1.1)).map pInt))]⟩) (fun k=>l.length-k.1.1) ⟨(0, .slice none 0 0),Nat.zero_le _,rfl⟩ (fun a w H=>H.weaken ⟨rfl,rfl,rfl,rfl,rfl,rfl,trivial⟩ ⟨rfl,trivial⟩) ?_
 rintro ⟨⟨k,r⟩,hk,hr⟩
 dsimp only
 dsimp only at hk hr
 have hlk:=Zk3 a c (l.take k)
 refine nav ?_
 (refine ζa ?_<;>refine xL 15 ζS ?_<;>refine ζb (nav ?_)<;>try dsimp only)
 (first|refine cCd ?_ ?_|refine cC ?_ ?_)<;>intro hb15
 · first
   |exact Bool.noConfusion hb15
   | (
    obtain ⟨s,hs⟩:=ζm (show k<l.length by omega)
    have hsr:=hl s (List.mem_of_getElem? hs)
    have e1:=Zaf (f:=pInt) hs
    have e2:((List.range a.n.toNat).map fun s=>pMvs (movesOf a s))[s.toNat*1]? =some (pMvs (movesOf a s.toNat)):=by rw [Nat.mul_one,Zdt (by omega)]
    have e2':s.toNat<a.n.toNat:=by omega
    have hml:=Zhg a s.toNat
    have hlk2:(Zb6 a c (l.take k)).length≤40000000:=by
     refine Nat.le_trans hlk ?_
     have h5:(l.take k).length≤2000:=by rw [List.length_take];omega
     exact Nat.le_trans (Nat.mul_le_mul h5 hmv) (by decide)
    obtain ⟨A,hA⟩:∃A,A=Zb6 a c (l.take k):=⟨_,rfl⟩
    rw [←hA] at hlk2 ⊢
    refine nav ?_
    (refine ζa ?_<;>refine xL 16 (ζJ ζn) ?_<;>(refine yL 17 (Za3 ζj) fun v17 h=>?_;cases h)<;>refine xL 9 ζc ?_<;>refine ζb (nav ?_)<;>try dsimp only)
    (refine ζa ?_<;>refine xL 18 ζd ?_<;>refine xL 19 ZgU ?_<;>refine xL 20 (ZgS Zbw) ?_<;>(refine yL 21 (Za3 Zcn) fun v21 h=>?_;cases h)<;>refine xL 22 ζd ?_<;>refine xL 23 (ZkB Zco) ?_<;>(refine yL 24 (Za3 ζA) fun v24 h=>?_;cases h)<;>refine xL 25 (ζV ζG) ?_<;>refine xL 26 ζd ?_<;>refine ζb (nav ?_)<;>try dsimp only)
    rw [show A=A++Zc6 c ((movesOf a s.toNat).take 0) from (List.append_nil A).symm]
    refine ζy (ι:={q:Nat×Value//q.1≤(movesOf a s.toNat).length∧q.2.oneCell'=true}) (fun k=>⟨[(0,_,_),(2,_,_),(12,_,_),(13,_,_),(14,_,_),(24,_,_),(25,_,_),(7,k.1.2, .val k.1.2),(26, .int .i64 k.1.1,pInt k.1.1)],[(200,k.1.2, .own 3 1 (A++Zc6 c ((movesOf a s.toNat).take k.1.1)).length ((A++Zc6 c ((movesOf a s.toNat).take k.1.1)).map pInt))]⟩) (fun k=>(movesOf a s.toNat).length-k.1.1) ⟨(0,r),Nat.zero_le _,hr⟩ (fun a w H=>H.weaken ⟨rfl,rfl,rfl,rfl,rfl,rfl,rfl,rfl,rfl,trivial⟩ ⟨rfl,trivial⟩) ?_
    rintro ⟨⟨j,r4⟩,hj4,hr4⟩
    dsimp only
    dsimp only at hj4 hr4
    have hbl:=Zk2 c ((movesOf a s.toNat).take j)
    rw [List.length_take] at hbl
    have hol:(A++Zc6 c ((movesOf a s.toNat).take j)).length≤41000000:=by rw [List.length_append];omega
    refine nav ?_
    (refine ζa ?_<;>refine xL 27 ζS ?_<;>refine ζb (nav ?_)<;>try dsimp only)
    (first|refine cCd ?_ ?_|refine cC ?_ ?_)<;>intro hb27
    · first
      |exact Bool.noConfusion hb27
      | (
       obtain ⟨mv,hmv2⟩:=ζm (show j<(movesOf a s.toNat).length by omega)
       have e3:=ζ8 ζ0 (movesOf a s.toNat) j mv hmv2
       have e4:=Zaq ζ0 hmv2
       refine nav ?_
       (refine ζa ?_<;>refine xL 28 (ζJ ζG) ?_<;>(refine yL 29 (Zbm ζR) fun v29 h=>?_;cases h)<;>refine ζr [(.int .i64 0),(.int .i64 0),(.int .i64 0)] 3 11 Zb5 fun h11=>?_<;>refine ζC 11 ζR ?_<;>refine ζb (nav ?_)<;>try dsimp only)
       (refine ζa ?_<;>refine xL 30 (ζh 11 ZaK) ?_<;>(refine yL 31 (ζs 11 ζj) fun v31 h=>?_;cases h)<;>refine xL 32 ζd ?_<;>refine xL 33 Zag ?_<;>refine ζb (nav ?_)<;>try dsimp only)
       (first|refine cCd ?_ ?_|refine cC ?_ ?_)<;>intro hb33
       · first
         |exact Bool.noConfusion hb33
         | (
          refine nav ?_
          (refine ζa ?_<;>refine xL 34 ζd ?_<;>refine xL 35 (ζh 11 Zal) ?_<;>(refine yL 36 (ζs 11 ζj) fun v36 h=>?_;cases h)<;>refine ζI (kk:=1) 37 ζi fun h37 ho37=>?_<;>(refine Za4 [(200,_,_),(37,_,_)] ⟨rfl,rfl,trivial⟩ ?_;refine ζY 200 37 38 ζi fun h38 ho38=>?_;refine ζq (ζD (l:=38) 200 rfl rfl) fun _=>?_;refine Za4 [(200,h38,PV.own 3 1 (A++Zc6 c ((movesOf a s.toNat).take (j+1))).length ((A++Zc6 c ((movesOf a s.toNat).take (j+1))).map pInt))] ⟨(by rw [ZrX hmv2 hb33,←List.append_assoc,←Zjx];rfl),trivial⟩ ?_)<;>refine xL 7 ζc ?_<;>refine ζb (nav ?_)<;>try dsimp only)
          (refine ζa ?_<;>refine xL 39 ζM ?_<;>refine xL 26 ζd ?_<;>refine ζb (nav ?_)<;>try dsimp only)
          try rw [←Zoq hmv2 (by assumption)]
          first
           | (exact ζl (
               ⟨(j+1,h38),ζe hmv2,ho38⟩
               ) (by dsimp only;omega) ⟨rfl,rfl,rfl,rfl,rfl,rfl,rfl,rfl,rfl,trivial⟩ ⟨rfl,trivial⟩)
           | (exact ζl (
               ⟨(j+1,r4),ζe hmv2,hr4⟩
               ) (by dsimp only;omega) ⟨rfl,rfl,rfl,rfl,rfl,rfl,rfl,rfl,rfl,trivial⟩ ⟨rfl,trivial⟩))
       · first
         |exact Bool.noConfusion hb33
         | (
          refine nav ?_
          (refine ζa ?_<;>refine xL 39 ζM ?_<;>refine xL 26 ζd ?_<;>refine ζb (nav ?_)<;>try dsimp only)
          try rw [←Zoq hmv2 (by assumption)]
          first
           | (exact ζl (
               ⟨(j+1,h38),ζe hmv2,ho38⟩
               ) (by dsimp only;omega) ⟨rfl,rfl,rfl,rfl,rfl,rfl,rfl,rfl,rfl,trivial⟩ ⟨rfl,trivial⟩)
           | (exact ζl (
               ⟨(j+1,r4),ζe hmv2,hr4⟩
               ) (by dsimp only;omega) ⟨rfl,rfl,rfl,rfl,rfl,rfl,rfl,rfl,rfl,trivial⟩ ⟨rfl,trivial⟩)))
    · first
      |exact Bool.noConfusion hb27
      | (
       rw [show A++Zc6 c ((movesOf a s.toNat).take j)=Zb6 a c (l.take (k+1)) by rw [List.take_of_length_le (by omega),Zp4 a c hs,hA]]
       refine nav ?_
       (refine ζa ?_<;>refine xL 40 ζM ?_<;>refine xL 14 ζd ?_<;>refine ζb (nav ?_)<;>try dsimp only)
       refine ζl (
        ⟨(k+1,r4),ζe hs,hr4⟩
        ) (by dsimp only;omega) ⟨rfl,rfl,rfl,rfl,rfl,rfl,trivial⟩ ⟨rfl,trivial⟩))
 · first
   |exact Bool.noConfusion hb15
   | (
    refine nav ?_
    (refine ζa ?_<;>refine xL 41 ζd ?_<;>refine xL 42 ζd ?_<;>(refine ζq (En.freeze (l:=200) (t:=42) rfl rfl) fun _=>?_;rw [ζL _ _ _ rfl];refine cO 43 (cA Tryz.call111 (Zel a (Zb6 a c (l.take k)) hn hm (Zbr hm c _))) fun v43 ho43=>?_)<;>refine xL 6 ζc ?_<;>refine ζb (nav ?_)<;>try dsimp only)
    refine ZcO 43 (Tryz.results112) rfl rfl ?_
    rw [List.take_of_length_le (by omega)];rfl)
def Srt (l:List Int):Prop:=l.Pairwise (· < ·)
theorem ZmK:∀{l m:List Int},Srt l→Srt m→(∀x,x∈l↔x∈m)→l=m
 |[],[],_,_,_=>rfl
 |[],y::m,_,_,h=>absurd ((h y).2 (List.mem_cons_self ..)) (by simp)
 |x::l,[],_,_,h=>absurd ((h x).1 (List.mem_cons_self ..)) (by simp)
 | x ::l,y::m,hl,hm,h=>by
   have hl':=List.pairwise_cons.1 hl
   have hm':=List.pairwise_cons.1 hm
   have hxy:x=y:=by
    have h1:=(h x).1 (List.mem_cons_self ..)
    have h2:=(h y).2 (List.mem_cons_self ..)
    rcases List.mem_cons.1 h1 with e|h1
    · exact e
    · rcases List.mem_cons.1 h2 with e|h2
      · exact e.symm
      · have:=hm'.1 x h1;have:=hl'.1 y h2;omega
   subst hxy
   congr 1
   refine ZmK hl'.2 hm'.2 fun z=>⟨fun hz=>?_,fun hz=>?_⟩
   · rcases List.mem_cons.1 ((h z).1 (List.mem_cons_of_mem _ hz)) with e|h1
     · have:=hl'.1 z hz;omega
     · exact h1
   · rcases List.mem_cons.1 ((h z).2 (List.mem_cons_of_mem _ hz)) with e|h1
     · have:=hm'.1 z hz;omega
     · exact h1
theorem Srt.filter {l:List Int} (h:Srt l) (p:Int→Bool):Srt (l.filter p):=List.Pairwise.filter p h
inductive Rch (a:Aut) (l:List Int):Int→Prop
 |base {s:Int} (h:s∈l):Rch a l s
 |step {s:Int} {m:Mv} (h:Rch a l s) (hm:m∈a.moves) (hs:m.src=s) (hc:m.sym= -1):Rch a l m.dst
theorem ZrY {out:List Int} {s t:Int}:t∈ZeI out s↔t∈out∨t=s:=by
 unfold ZeI;split
 · rename_i h
   constructor
   · exact .inl
   · rintro (h1|rfl)
     · exact h1
     · simpa using h
 · simp
theorem Zc7:∀(l:List Int) {out:List Int} {t:Int},t∈ZaJ l out↔t∈out∨t∈l
 |[],out,t=>by simp [ZaJ]
 | x::l,out,t=>by
   show t∈ZaJ l (ZeI out x)↔_
   rw [Zc7 l,ZrY,List.mem_cons];exact or_assoc
theorem ZrZ (out:List Int) (s:Int):out<+:ZeI out s:=by
 unfold ZeI;split
 · exact List.prefix_refl _
 · exact List.prefix_append _ _
theorem Ziz:∀(l out:List Int),out<+:ZaJ l out
 |[],out=>List.prefix_refl _
 |x::l,out=>(ZrZ out x).trans (Ziz l (ZeI out x))
theorem Zr0 (a:Aut) (l:List Int) (i:Nat):Zck a l i<+:Zck a l (i+1):=by
 rw [Zck,Zhf];split
 · exact Ziz _ _
 · exact List.prefix_refl _
theorem Zgu (a:Aut) (l:List Int) (i:Nat):∀j,Zck a l i<+:Zck a l (i+j)
 |0=>List.prefix_refl _
 |j+1=>(Zgu a l i j).trans (Zr0 a l (i+j))
theorem Zxz {l m:List Int} (h:l<+:m) {i:Nat} {x:Int} (hx:l[i]? =some x):m[i]? =some x:=by
 obtain ⟨r,rfl⟩:=h
 rw [List.getElem?_append_left (ζe hx)];exact hx
theorem ZiA {a:Aut} {s:Int} (h0:0≤s) {t:Int}:t∈Za9 (movesOf a s.toNat)↔∃m∈a.moves,m.src=s∧m.sym= -1∧m.dst=t:=by
 unfold Za9 movesOf
 simp only [List.mem_map,List.mem_filter,decide_eq_true_eq]
 constructor
 · rintro ⟨m,⟨⟨h1,h2⟩,h3⟩,h4⟩
   exact ⟨m,h1,by omega,h3,h4⟩
 · rintro ⟨m,h1,h2,h3,h4⟩
   exact ⟨m,⟨⟨h1,by omega⟩,h3⟩,h4⟩
theorem Zem {a:Aut} {l:List Int} (h:Ziy a) (hl:∀s∈l,0≤s∧s<a.n):∀i t,t∈Zck a l i→Rch a l t
 | 0,t,ht=>by
   rw [Zck,Zc7] at ht
   exact .base (by simpa using ht)
 | i + 1,t,ht=>by
   rw [Zck,Zhf] at ht
   split at ht
   · rename_i s hs
     rcases (Zc7 _).1 ht with h1|h1
     · exact Zem h hl i t h1
     · have hsm:=List.mem_of_getElem? hs
       obtain ⟨m,h2,h3,h4,rfl⟩:=(ZiA ((ZeU h hl i).2 s hsm).1).1 h1
       exact .step (Zem h hl i s hsm) h2 h3 h4
   · exact Zem h hl i t ht
theorem Zr1 {a:Aut} {l:List Int} (h:Ziy a) (hl:∀s∈l,0≤s∧s<a.n) {t:Int} (ht:Rch a l t):t∈Zck a l a.n.toNat:=by
 induction ht with
 | base h1=>
   have h2:Zck a l 0<+:Zck a l (0+a.n.toNat):=Zgu a l 0 a.n.toNat
   rw [Nat.zero_add] at h2
   refine h2.subset ?_
   rw [Zck,Zc7];exact .inr h1
 | @step s m h1 hm hs hc ih=>
   obtain ⟨i,hi⟩:=List.getElem?_of_mem ih
   have hil:=ζe hi
   have hok:=ZeU h hl a.n.toNat
   have hlen:=hok.len
   have h3:i<(Zck a l i).length:=by
    rcases Nat.lt_or_ge i (Zck a l i).length with h4|h4
    · exact h4
    · have h5:=Zop h4 (show i≤a.n.toNat by omega)
      rw [h5] at hil;omega
   have h4:(Zck a l i)[i]? =some s:=by
    have h5:=Zgu a l i (a.n.toNat-i)
    rw [show i+(a.n.toNat-i)=a.n.toNat by omega] at h5
    obtain ⟨x,hx⟩:=ζm h3
    rw [hx,←hi];exact (Zxz h5 hx).symm
   have h5:m.dst∈Zck a l (i+1):=by
    rw [Zck,Zhf,h4]
    refine (Zc7 _).2 (.inr ((ZiA (hok.2 s ih).1).2 ⟨m,hm,hs,hc,rfl⟩))
   have h6:=Zgu a l (i+1) (a.n.toNat-(i+1))
   rw [show i+1+(a.n.toNat-(i+1))=a.n.toNat by omega] at h6
   exact h6.subset h5
theorem Zc8 {a:Aut} {l:List Int} (h:Ziy a) (hl:∀s∈l,0≤s∧s<a.n) (t:Int):t∈Za1 a l↔Rch a l t:=by
 unfold Za1
 rw [List.mem_mergeSort]
 exact ⟨Zem h hl _ t,Zr1 h hl⟩
theorem Zcw {a:Aut} {l:List Int} (h:Ziy a) (hl:∀s∈l,0≤s∧s<a.n):Srt (Za1 a l):=by
 have h1:(Za1 a l).Pairwise (fun x y=>decide (x≤y)=true):=List.pairwise_mergeSort (fun a b c h1 h2=>by simp only [decide_eq_true_eq] at*;omega) (fun a b=>by simp only [Bool.or_eq_true,decide_eq_true_eq];omega) _
 have h2:(Za1 a l).Nodup:=(List.mergeSort_perm _ _).nodup_iff.2 (ZeU h hl _).1
 unfold Srt
 exact (h1.and h2).imp fun {x y} ⟨h3,h4⟩=>by simp only [decide_eq_true_eq] at h3;omega
theorem Zwp {a:Aut} {l:List Int} (h:Ziy a) (hl:∀s∈l,0≤s∧s<a.n) {t:Int} (ht:Rch a l t):0≤t∧t<a.n:=by
 cases ht with
 |base h1=>exact hl t h1
 |step _ hm _ _=>exact h _ hm
theorem Zen {a:Aut} {l:List Int} (h:Ziy a) (hl:∀s∈l,0≤s∧s<a.n):∀t∈Za1 a l,0≤t∧t<a.n:=fun t ht=>Zwp h hl ((Zc8 h hl t).1 ht)
theorem ZdS {a:Aut} {l:List Int} (h:Ziy a) (hl:∀s∈l,0≤s∧s<a.n):(Za1 a l).length≤a.n.toNat:=by
 unfold Za1
 rw [List.length_mergeSort];exact (ZeU h hl _).len
theorem Zcx {a:Aut} {c:Int} {l:List Int} (hl:∀s∈l,0≤s∧s<a.n) {t:Int}:t∈Zb6 a c l↔∃m∈a.moves,m.src∈l∧m.sym=c∧m.dst=t:=by
 unfold Zb6 Zc6 movesOf
 simp only [List.mem_flatMap,List.mem_map,List.mem_filter,decide_eq_true_eq]
 constructor
 · rintro ⟨s,hs,m,⟨⟨h1,h2⟩,h3⟩,h4⟩
   have:=hl s hs
   exact ⟨m,h1,by rw [h2,show ((s.toNat:Nat):Int)=s by omega];exact hs,h3,h4⟩
 · rintro ⟨m,h1,h2,h3,h4⟩
   have:=hl _ h2
   exact ⟨m.src,h2,m,⟨⟨h1,by omega⟩,h3⟩,h4⟩
def ZcR (m:Mv) (d:Int):Int:=if 0≤m.sym then d+1 else d
def ZdT (far:List Int) (m:Mv):List Int:=
 match far[m.dst.toNat]?,far[m.src.toNat]? with
 |some d,some e=>if 0≤d∧(e<0∨ZcR m d<e) then far.set m.src.toNat (ZcR m d) else far
 |_,_=>far
def passF (ms:List Mv) (far:List Int):List Int:=ms.foldl ZdT far
def ZdU (a:Aut):List Int:=(List.range a.n.toNat).map fun s=>if Zgh a (s:Nat) then 0 else-1
def Zbh (a:Aut):Nat→List Int
 |0=>ZdU a
 |k+1=>passF a.moves (Zbh a k)
def Zcb (a:Aut):List Int:=Zbh a (a.n.toNat*a.n.toNat+1)
def cntD (far:List Int):Nat:=far.countP fun d=>decide (0≤d)
def wgt (n:Nat) (d:Int):Nat:=if 0≤d then d.toNat else n
def sumF (n:Nat) (far:List Int):Nat:=(far.map (wgt n)).sum
structure FarOk (n:Nat) (far:List Int):Prop where
 len:far.length=n
 lo:∀d∈far,-1≤d
 hi:∀d∈far,d<cntD far
theorem ZmL (far:List Int):cntD far≤far.length:=List.countP_le_length
theorem Zor:∀(far:List Int) (i:Nat) (e d:Int),far[i]? =some e→0≤d→cntD (far.set i d)=cntD far+(if 0≤e then 0 else 1)
 |[],i,e,d,h,_=>by simp at h
 | x::far,0,e,d,h,hd=>by
   simp only [List.getElem?_cons_zero,Option.some.injEq] at h
   subst h
   unfold cntD
   rw [List.set_cons_zero,List.countP_cons,List.countP_cons,decide_eq_true hd]
   by_cases hx:0≤x<;>simp [hx]
 | x::far,i+1,e,d,h,hd=>by
   simp only [List.getElem?_cons_succ] at h
   have:=Zor far i e d h hd
   unfold cntD at this ⊢
   rw [List.set_cons_succ,List.countP_cons,List.countP_cons,this];omega
theorem Zos:∀(n:Nat) (far:List Int) (i:Nat) (e d:Int),far[i]? =some e→sumF n (far.set i d)+wgt n e=sumF n far+wgt n d
 |n,[],i,e,d,h=>by simp at h
 | n,x::far,0,e,d,h=>by
   simp only [List.getElem?_cons_zero,Option.some.injEq] at h
   subst h
   unfold sumF
   rw [List.set_cons_zero,List.map_cons,List.map_cons,List.sum_cons,List.sum_cons];omega
 | n,x::far,i+1,e,d,h=>by
   simp only [List.getElem?_cons_succ] at h
   have:=Zos n far i e d h
   unfold sumF at this ⊢
   rw [List.set_cons_succ,List.map_cons,List.map_cons,List.sum_cons,List.sum_cons];omega
theorem ZuN (m:Mv) (d:Int):d≤ZcR m d∧ZcR m d≤d+1:=by unfold ZcR;split<;>omega
theorem Zhh {n:Nat} {far:List Int} (h:FarOk n far) {m:Mv} {d e:Int} (hd:far[m.dst.toNat]? =some d) (he:far[m.src.toNat]? =some e) (h0:0≤d) (h1:e<0∨ZcR m d<e):
 FarOk n (far.set m.src.toNat (ZcR m d))∧sumF n (far.set m.src.toNat (ZcR m d))<sumF n far:=by
 have hs:=ZuN m d
 have hdc:=h.hi d (List.mem_of_getElem? hd)
 have hec:=h.hi e (List.mem_of_getElem? he)
 have hc:=Zor far m.src.toNat e (ZcR m d) he (by omega)
 have hsum:=Zos n far m.src.toNat e (ZcR m d) he
 have hcl:=ZmL (far.set m.src.toNat (ZcR m d))
 rw [List.length_set,h.len] at hcl
 refine ⟨⟨by rw [List.length_set];exact h.len,fun x hx=>?_,fun x hx=>?_⟩,?_⟩
 · rcases List.mem_or_eq_of_mem_set hx with h2|rfl
   · exact h.lo x h2
   · omega
 · rw [hc]
   rcases List.mem_or_eq_of_mem_set hx with h2|rfl
   · have:=h.hi x h2;split<;>omega
   · split<;>omega
 · unfold wgt at hsum
   rw [if_pos (show 0≤ZcR m d by omega)] at hsum
   rcases h1 with h1|h1
   · rw [if_neg (by omega)] at hsum hc;omega
   · rw [if_pos (by omega)] at hsum;omega
theorem Zhi {n:Nat} {far:List Int} (h:FarOk n far) (m:Mv):FarOk n (ZdT far m)∧(ZdT far m=far∨sumF n (ZdT far m)<sumF n far):=by
 unfold ZdT
 split
 · rename_i d e hd he
   split
   · rename_i h1
     have:=Zhh h hd he h1.1 h1.2
     exact ⟨this.1, .inr this.2⟩
   · exact ⟨h, .inl rfl⟩
 · exact ⟨h, .inl rfl⟩
theorem Zdu {n:Nat}:∀(ms:List Mv) {far:List Int},FarOk n far→FarOk n (passF ms far)∧(passF ms far=far∨sumF n (passF ms far)<sumF n far)
 |[],far,h=>⟨h, .inl rfl⟩
 | m ::ms,far,h=>by
   obtain ⟨h1,h2⟩:=Zhi h m
   obtain ⟨h3,h4⟩:=Zdu ms h1
   refine ⟨h3,?_⟩
   show passF ms (ZdT far m)=far∨_
   rcases h2 with h2|h2
   · rw [h2] at h4
     show passF ms (ZdT far m)=far∨sumF n (passF ms (ZdT far m))<sumF n far
     rw [h2];exact h4
   · right
     show sumF n (passF ms (ZdT far m))<sumF n far
     rcases h4 with h4|h4
     · rw [h4];exact h2
     · omega
theorem Zhj {n:Nat}:∀(ms:List Mv) {far:List Int},FarOk n far→passF ms far=far→∀m∈ms,ZdT far m=far
 |[],far,h,_,m,hm=>by simp at hm
 | x ::ms,far,h,he,m,hm=>by
   obtain ⟨h1,h2⟩:=Zhi h x
   obtain ⟨h3,h4⟩:=Zdu ms h1
   have he':passF ms (ZdT far x)=far:=he
   have hx:ZdT far x=far:=by
    rcases h2 with h2|h2
    · exact h2
    · rcases h4 with h4|h4
      · rw [he'] at h4;exact h4.symm
      · rw [he'] at h4;omega
   rcases List.mem_cons.1 hm with rfl|hm
   · exact hx
   · rw [hx] at he';exact Zhj ms h he' m hm
theorem ZiB {a:Aut} {s:Nat} (h:s<a.n.toNat):(ZdU a)[s]? =some (if Zgh a (s:Nat) then 0 else-1):=by
 unfold ZdU;rw [List.getElem?_map,List.getElem?_range h];rfl
theorem Zp5 (a:Aut):FarOk a.n.toNat (ZdU a):=by
 refine ⟨by unfold ZdU;simp,fun d hd=>?_,fun d hd=>?_⟩
 · unfold ZdU at hd
   obtain ⟨s,_,rfl⟩:=List.mem_map.1 hd
   split<;>omega
 · have hd2:=hd
   unfold ZdU at hd2
   obtain ⟨s,_,hs⟩:=List.mem_map.1 hd2
   by_cases h0:0≤d
   · have h1:0<cntD (ZdU a):=List.countP_pos_iff.2 ⟨d,hd,decide_eq_true h0⟩
     split at hs<;>omega
   · omega
theorem Zdv (a:Aut):∀k,FarOk a.n.toNat (Zbh a k)
 |0=>Zp5 a
 |k+1=>(Zdu a.moves (Zdv a k)).1
theorem ZxA {n:Nat} {far:List Int} (h:FarOk n far):sumF n far≤n*n:=by
 have hc:=ZmL far
 rw [h.len] at hc
 have key:∀(l:List Int),(∀d∈l,d<(n:Int))→(l.map (wgt n)).sum≤l.length*n:=fun l=>by
  induction l with
  |nil=>intro _;simp
  | cons x l ih=>
    intro hx
    have h1:=ih fun d hd=>hx d (List.mem_cons_of_mem _ hd)
    have h2:=hx x (List.mem_cons_self ..)
    rw [List.map_cons,List.sum_cons,List.length_cons,Nat.succ_mul]
    have h3:wgt n x≤n:=by unfold wgt;split<;>omega
    omega
 have:=key far fun d hd=>by have:=h.hi d hd;omega
 rw [h.len] at this;exact this
theorem Zeo {a:Aut} {k:Nat} (h:passF a.moves (Zbh a k)=Zbh a k):∀j,Zbh a (k+j)=Zbh a k
 |0=>rfl
 |j+1=>by rw [←Nat.add_assoc,Zbh,Zeo h j,h]
theorem Zk4 (a:Aut):passF a.moves (Zcb a)=Zcb a:=by
 have key:∀k,(∃j,j≤k∧passF a.moves (Zbh a j)=Zbh a j)∨sumF a.n.toNat (Zbh a k)+k≤a.n.toNat*a.n.toNat:=fun k=>by
  induction k with
  |zero=>exact .inr (ZxA (Zdv a 0))
  | succ k ih=>
    rcases ih with ⟨j,h1,h2⟩|h
    · exact .inl ⟨j,by omega,h2⟩
    · rcases (Zdu a.moves (Zdv a k)).2 with h1|h1
      · exact .inl ⟨k,by omega,h1⟩
      · right;rw [Zbh];omega
 rcases key (a.n.toNat*a.n.toNat+1) with ⟨j,h1,h2⟩|h
 · have h3:=Zeo h2 (a.n.toNat*a.n.toNat+1-j)
   rw [show j+(a.n.toNat*a.n.toNat+1-j)=a.n.toNat*a.n.toNat+1 by omega] at h3
   unfold Zcb;rw [h3,h2]
 · omega
theorem ZxB {a:Aut} {k:Nat} (h:passF a.moves (Zbh a k)=Zbh a k):Zcb a=Zbh a k:=by
 have h1:=Zk4 a
 unfold Zcb at h1 ⊢
 rcases Nat.le_total k (a.n.toNat*a.n.toNat+1) with h2|h2
 · have h3:=Zeo h (a.n.toNat*a.n.toNat+1-k)
   rwa [show k+(a.n.toNat*a.n.toNat+1-k)=a.n.toNat*a.n.toNat+1 by omega] at h3
 · have h3:=Zeo h1 (k-(a.n.toNat*a.n.toNat+1))
   rw [show a.n.toNat*a.n.toNat+1+(k-(a.n.toNat*a.n.toNat+1))=k by omega] at h3
   exact h3.symm
theorem Zjz (a:Aut):FarOk a.n.toNat (Zcb a):=Zdv a _
theorem Zot {a:Aut} {m:Mv} (hm:m∈a.moves) {d e:Int} (hd:(Zcb a)[m.dst.toNat]? =some d) (he:(Zcb a)[m.src.toNat]? =some e) (h0:0≤d):0≤e∧e≤ZcR m d:=by
 have h1:=Zhj a.moves (Zjz a) (Zk4 a) m hm
 unfold ZdT at h1
 rw [hd,he] at h1
 dsimp only at h1
 split at h1
 · rename_i h2
   have h3:=Zhh (Zjz a) hd he h2.1 h2.2
   rw [h1] at h3
   omega
 · rename_i h2
   omega
abbrev Pf:=List Int×List Int
def ZdV (a:Aut) (S:List Int):Bool:=S.any (Zgh a)
def InS (a:Aut) (S:List Int):Prop:=∀s∈S,0≤s∧s<a.n
def Zid (a:Aut) (n:Int) (p:Pf) (c:Nat):List Pf:=if (Zbn (ZaB a c p.2) (Zcb a) (n-1)).length=0 then [] else [(p.1++[(c:Int)],Zbn (ZaB a c p.2) (Zcb a) (n-1))]
def Zie (a:Aut) (n:Int) (p:Pf):List Pf:=(List.range a.syms.toNat).flatMap (Zid a n p)
def lvP (a:Aut) (n:Nat):Nat→List Pf
 |0=>[([],Zbn (Za1 a a.start) (Zcb a) n)]
 |k+1=>(lvP a n k).flatMap (Zie a ((n:Int)-k))
def Zou (a:Aut) (l:List Pf):List (List Int):=(l.filter fun p=>ZdV a p.2).map (·.1)
def ZiC (a:Aut) (n k:Nat):List (List Int):=(List.range k).flatMap fun i=>Zou a (lvP a n i)
def ZAq (a:Aut) (n:Nat):Prop:=(∃k,k≤n∧2000<(lvP a n (k+1)).length)∨2000<(ZiC a n (n+1)).length
def ZdE (far:List Int) (b s:Int):Int:=match far[s.toNat]? with
 |some d=>if 0≤d∧(b<0∨d<b) then d else b
 |none=>b
def Zhk (far S:List Int):Int:=S.foldl (ZdE far) (-1)
def ZzL (a:Aut) (n:Int) (p:Pf) (c:Nat):List Pf:=if 0≤Zhk (Zcb a) (ZaB a c p.2)∧Zhk (Zcb a) (ZaB a c p.2)≤n-1 then [(p.1++[(c:Int)],ZaB a c p.2)] else []
def ZzM (a:Aut) (n:Int) (p:Pf):List Pf:=(List.range a.syms.toNat).flatMap (ZzL a n p)
def lvR (a:Aut) (n:Nat):Nat→List Pf
 |0=>[([],Za1 a a.start)]
 |k+1=>(lvR a n k).flatMap (ZzM a ((n:Int)-k))
theorem ZjA {a:Aut} {s:Int} (h:0≤s∧s<a.n):∃d,(Zcb a)[s.toNat]? =some d:=ζm (by rw [(Zjz a).len];omega)
theorem Zfh {a:Aut} {S:List Int} (hS:InS a S) {n:Int} {s:Int}:s∈Zbn S (Zcb a) n↔s∈S∧∃d,(Zcb a)[s.toNat]? =some d∧0≤d∧d≤n:=by
 unfold Zbn ZzK
 rw [List.mem_filter]
 constructor
 · rintro ⟨h1,h2⟩
   obtain ⟨d,hd⟩:=ZjA (hS s h1)
   rw [hd] at h2
   simp only [Bool.not_eq_true',Bool.or_eq_false_iff,decide_eq_false_iff_not] at h2
   exact ⟨h1,d,hd,by omega,by omega⟩
 · rintro ⟨h1,d,hd,h2,h3⟩
   rw [hd]
   simp only [Bool.not_eq_true',Bool.or_eq_false_iff,decide_eq_false_iff_not]
   exact ⟨h1,by omega,by omega⟩
theorem ZjB {a:Aut} {S:List Int} (hS:InS a S) (far:List Int) (n:Int):InS a (Zbn S far n):=fun s hs=>hS s ((List.mem_filter.1 hs).1)
theorem ZdW {a:Aut} (h:Ziy a) (c:Int) (S:List Int):InS a (ZaB a c S):=Zen h (Zbr h c S)
theorem Zov {a:Aut} (h:Ziy a) {c:Int} {S:List Int} {t:Int}:t∈ZaB a c S↔Rch a (Zb6 a c S) t:=Zc8 h (Zbr h c S) t
theorem ZjC {a:Aut} {S:List Int} (h:Srt S) (far:List Int) (n:Int):Srt (Zbn S far n):=h.filter _
theorem Zr2 {a:Aut} (h:Ziy a) {S:List Int} (hS:InS a S) {c:Int} (hc:0≤c) (n:Int):Zbn (ZaB a c (Zbn S (Zcb a) n)) (Zcb a) (n-1)=Zbn (ZaB a c S) (Zcb a) (n-1):=by
 refine ZmK (ZjC (a:=a) (Zcw h (Zbr h c _)) _ _) (ZjC (a:=a) (Zcw h (Zbr h c _)) _ _) fun t=>?_
 rw [Zfh (ZdW h c _),Zfh (ZdW h c _),Zov h,Zov h]
 constructor
 · rintro ⟨h1,h2⟩
   refine ⟨?_,h2⟩
   clear h2
   induction h1 with
   | base h3=>
     obtain ⟨m,h4,h5,h6,h7⟩:=(Zcx (ZjB hS _ _)).1 h3
     exact .base ((Zcx hS).2 ⟨m,h4,(List.mem_filter.1 h5).1,h6,h7⟩)
   |step _ hm hs hc ih=>exact .step ih hm hs hc
 · rintro ⟨h1,d,hd,h2,h3⟩
   refine ⟨?_,d,hd,h2,h3⟩
   induction h1 generalizing d with
   | base h3'=>
     obtain ⟨m,h4,h5,h6,rfl⟩:=(Zcx hS).1 h3'
     obtain ⟨e,he⟩:=ZjA (hS _ h5)
     have h8:=Zot h4 hd he h2
     unfold ZcR at h8
     rw [if_pos (by omega)] at h8
     exact .base ((Zcx (ZjB hS _ _)).2 ⟨m,h4,(Zfh hS).2 ⟨h5,e,he,h8.1,by omega⟩,h6,rfl⟩)
   | @step s m hr hm hs hcc ih=>
     subst hs
     obtain ⟨e,he⟩:=ZjA (Zwp h (Zbr h c _) hr)
     have h8:=Zot hm hd he h2
     unfold ZcR at h8
     rw [if_neg (by omega)] at h8
     exact .step (ih e he h8.1 (by omega)) hm rfl hcc
theorem ZiD (far:List Int):∀(S:List Int) (b:Int),-1≤b→
 (S.foldl (ZdE far) b=b∨∃s∈S,far[s.toNat]? =some (S.foldl (ZdE far) b)∧0≤S.foldl (ZdE far) b)∧
 (0≤b→0≤S.foldl (ZdE far) b∧S.foldl (ZdE far) b≤b)∧
 (∀s∈S,∀d,far[s.toNat]? =some d→0≤d→0≤S.foldl (ZdE far) b∧S.foldl (ZdE far) b≤d)
 |[],b,_=>⟨.inl rfl,fun h=>⟨h,by simp⟩,fun s hs=>by simp at hs⟩
 | x :: S,b,hb=>by
   have hb': -1≤ZdE far b x∧(ZdE far b x=b∨(far[x.toNat]? =some (ZdE far b x)∧0≤ZdE far b x))∧(0≤b→0≤ZdE far b x∧ZdE far b x≤b)∧(∀d,far[x.toNat]? =some d→0≤d→0≤ZdE far b x∧ZdE far b x≤d):=by
    unfold ZdE
    split
    · rename_i d hd
      split
      · rename_i h1
        refine ⟨by omega, .inr ⟨by first|exact hd|rfl,h1.1⟩,fun h=>by omega,fun d' hd' h=>?_⟩
        first
         |(rw [hd] at hd';cases hd';omega)
         |(cases hd';omega)
      · rename_i h1
        refine ⟨hb, .inl rfl,fun h=>by omega,fun d' hd' h=>?_⟩
        first
         |(rw [hd] at hd';cases hd';omega)
         |(cases hd';omega)
    · rename_i hd
      refine ⟨hb, .inl rfl,fun h=>by omega,fun d' hd' h=>?_⟩
      first
       |(rw [hd] at hd';cases hd')
       |cases hd'
   obtain ⟨h1,h2,h3⟩:=ZiD far S (ZdE far b x) hb'.1
   simp only [List.foldl_cons]
   refine ⟨?_,fun h=>?_,fun s hs d hd h=>?_⟩
   · rcases h1 with h1|⟨s,hs,h4⟩
     · rcases hb'.2.1 with h5|h5
       · exact .inl (by rw [h1,h5])
       · exact .inr ⟨x,List.mem_cons_self ..,by rw [h1];exact h5⟩
     · exact .inr ⟨s,List.mem_cons_of_mem _ hs,h4⟩
   · have h4:=hb'.2.2.1 h
     have h5:=h2 h4.1
     omega
   · rcases List.mem_cons.1 hs with rfl|hs
     · have h4:=hb'.2.2.2 d hd h
       have h5:=h2 h4.1
       omega
     · exact h3 s hs d hd h
theorem Zp6 {a:Aut} {S:List Int} (hS:InS a S) (n:Int):(Zbn S (Zcb a) n).length=0↔¬(0≤Zhk (Zcb a) S∧Zhk (Zcb a) S≤n):=by
 obtain ⟨h1,_,h3⟩:=ZiD (Zcb a) S (-1) (by omega)
 unfold Zhk
 constructor
 · rintro h ⟨h4,h5⟩
   rcases h1 with h1|⟨s,hs,h6,h7⟩
   · omega
   · have:s∈Zbn S (Zcb a) n:=(Zfh hS).2 ⟨hs,_,h6,h7,h5⟩
     rw [List.eq_nil_of_length_eq_zero h] at this
     simp at this
 · intro h
   rcases Nat.eq_zero_or_pos (Zbn S (Zcb a) n).length with h4|h4
   · exact h4
   · exfalso
     obtain ⟨s,hs⟩:=List.exists_mem_of_length_pos h4
     obtain ⟨h5,d,hd,h6,h7⟩:=(Zfh hS).1 hs
     have:=h3 s h5 d hd h6
     exact h ⟨this.1,by omega⟩
def Zr3 (a:Aut) (n:Int) (p:Pf):Pf:=(p.1,Zbn p.2 (Zcb a) n)
theorem ZuO {a:Aut} (h:Ziy a) {p:Pf} (hp:InS a p.2) (n:Int) (c:Nat):Zid a n (Zr3 a n p) c=(ZzL a n p c).map (Zr3 a (n-1)):=by
 unfold Zid ZzL Zr3
 dsimp only
 rw [Zr2 h hp (by omega)]
 have h1:=Zp6 (ZdW h c p.2) (n-1)
 by_cases h2:(Zbn (ZaB a c p.2) (Zcb a) (n-1)).length=0
 · rw [if_pos h2,if_neg (h1.1 h2)];rfl
 · rw [if_neg h2,if_pos (by rcases Classical.em (0≤Zhk (Zcb a) (ZaB a c p.2)∧Zhk (Zcb a) (ZaB a c p.2)≤n-1) with h3|h3;exact h3;exact absurd (h1.2 h3) h2)];rfl
theorem Zwq {a:Aut} (h:Ziy a) (hs:InS a a.start) (n:Nat):∀k,∀p∈lvR a n k,InS a p.2
 | 0,p,hp=>by
   simp only [lvR,List.mem_singleton] at hp
   subst hp
   exact Zen h hs
 | k +1,p,hp=>by
   rw [lvR] at hp
   obtain ⟨q,_,hq⟩:=List.mem_flatMap.1 hp
   obtain ⟨c,_,hc⟩:=List.mem_flatMap.1 hq
   unfold ZzL at hc
   split at hc
   · simp only [List.mem_singleton] at hc
     subst hc
     exact ZdW h c _
   · simp at hc
theorem ZeV {α β:Type} {l:List α} {f g:α→List β} (h:∀x∈l,f x=g x):l.flatMap f=l.flatMap g:=by
 induction l with
 |nil=>rfl
 |cons x l ih=>rw [List.flatMap_cons,List.flatMap_cons,h x (List.mem_cons_self ..),ih fun y hy=>h y (List.mem_cons_of_mem _ hy)]
theorem Zr4 {a:Aut} (h:Ziy a) (hs:InS a a.start) (n:Nat):∀k,lvP a n k=(lvR a n k).map (Zr3 a ((n:Int)-k))
 | 0=>by
   show [_]=[_]
   unfold Zr3
   simp
 | k+1=>by
   rw [lvP,lvR,Zr4 h hs n k,List.flatMap_map,List.map_flatMap]
   refine ZeV fun p hp=>?_
   unfold Zie ZzM
   rw [List.map_flatMap]
   refine ZeV fun c _=>?_
   rw [ZuO h (Zwq h hs n k p hp)]
   congr 2
   omega
theorem ZdX (a:Aut) (n k:Nat):ZiC a n (k+1)=ZiC a n k++Zou a (lvP a n k):=by
 unfold ZiC;rw [List.range_succ,List.flatMap_append];simp
theorem Zk5 (a:Aut) (n:Nat) {j k:Nat} (h:j≤k):(ZiC a n j).length≤(ZiC a n k).length:=by
 obtain ⟨i,rfl⟩:∃i,k=j+i:=⟨k-j,by omega⟩
 clear h
 induction i with
 |zero=>exact Nat.le_refl _
 |succ i ih=>rw [←Nat.add_assoc,ZdX,List.length_append];omega
theorem Zr5 {a:Aut} {l:List Pf} {i:Nat} {p:Pf} (h:l[i]? =some p):Zou a (l.take (i+1))=Zou a (l.take i)++(if ZdV a p.2 then [p.1] else []):=by
 unfold Zou
 rw [ζH h,List.filter_append,List.map_append]
 congr 1
 cases hb:ZdV a p.2<;>simp [hb]
theorem Zow (a:Aut) (l:List Pf):(Zou a l).length≤l.length:=by unfold Zou;rw [List.length_map];exact List.length_filter_le _ _
theorem Zox (a:Aut) (l:List Pf) (i:Nat):(Zou a (l.take i)).length≤(Zou a l).length:=by
 unfold Zou
 rw [List.length_map,List.length_map]
 exact (List.Sublist.filter _ (List.take_sublist i l)).length_le
theorem Zfi {α β:Type} (f:α→List β) (l:List α) (i:Nat):((l.take i).flatMap f).length≤(l.flatMap f).length:=by
 have:l.flatMap f=(l.take i).flatMap f++(l.drop i).flatMap f:=by rw [←List.flatMap_append,List.take_append_drop]
 rw [this,List.length_append];omega
theorem Zif {α β:Type} (f:α→List β) {l:List α} {i:Nat} {x:α} (h:l[i]? =some x):(l.take (i+1)).flatMap f=(l.take i).flatMap f++f x:=by
 rw [ζH h,List.flatMap_append];simp
theorem ZfO {β:Type} (f:Nat→List β) (k:Nat):(List.range (k+1)).flatMap f=(List.range k).flatMap f++f k:=by
 rw [List.range_succ,List.flatMap_append];simp
end Go.Proofs.YtgfabnhpllkebaaGreatDoor
namespace Go.Cb
set_option linter.all false
def InPlace (ps:List Piece):Prop:=∀(i:Nat) (q:Piece),ps[i]? =some q→q.part=(i:Int)
theorem InPlace.add {ps:List Piece} (h:InPlace ps) (i:Nat) (s:ByteArray):InPlace (Zzb ps i s):=fun j q hq=>by
 unfold Zzb at hq
 split at hq
 · rename_i p hp
   by_cases hji:j=i
   · subst hji
     have hl:=(List.getElem?_eq_some_iff.1 hp).1
     rw [List.getElem?_set_self hl] at hq
     cases hq
     exact h j p hp
   · rw [List.getElem?_set_ne (Ne.symm hji)] at hq
     exact h j q hq
 · exact h j q hq
open Go.En
def vec {α:Type} (n:Nat) (f:Nat→α):List α:=(List.range n).map f
theorem ZfP {α:Type} (n:Nat) (f:Nat→α):(vec n f).length=n:=by simp [vec]
theorem ZmM {α:Type} {n i:Nat} (f:Nat→α) (h:i<n):(vec n f)[i]? =some (f i):=by simp [vec,h]
theorem ZmN {α:Type} {n:Nat} {l:List α} {f:Nat→α} (hl:l.length=n) (h:∀i x,l[i]? =some x→x=f i):l=vec n f:=by
 apply List.ext_getElem?
 intro i
 rcases Nat.lt_or_ge i n with hi|hi
 · obtain ⟨x,hx⟩:=ζZ (show i<l.length by omega)
   rw [hx,ZmM f hi,h i x hx]
 · rw [List.getElem?_eq_none (by omega),List.getElem?_eq_none (by rw [ZfP];exact hi)]
theorem Zr6 {α:Type} {n a:Nat} (f:Nat→α) (b:α):(vec n f).set a b=vec n (fun i=>if i=a then b else f i):=by
 refine ZmN (by simp [vec]) fun i x hx=>?_
 have hi:=ζe hx
 rw [List.length_set,ZfP] at hi
 rw [List.getElem?_set] at hx
 split at hx
 · rename_i e;subst e
   split at hx
   · cases hx;simp
   · cases hx
 · rename_i e
   rw [ZmM f hi] at hx
   cases hx
   rw [if_neg (fun h=>e h.symm)]
theorem ZdY {α:Type} {n:Nat} {f g:Nat→α} (h:∀i,i<n→f i=g i):vec n f=vec n g:=
 List.map_congr_left fun i hi=>h i (List.mem_range.1 hi)
theorem Zk6 {α:Type} (n:Nat) (x:α):List.replicate n x=vec n (fun _=>x):=by
 refine ZmN (by simp) fun i y hy=>?_
 rw [List.getElem?_replicate] at hy
 split at hy
 · cases hy;rfl
 · cases hy
theorem ZxC {α β:Type} (n:Nat) (f:Nat→α) (g:α→β):(vec n f).map g=vec n (fun i=>g (f i)):=by simp [vec,Function.comp_def]
def Closed (n:Nat) (f T:Nat→Nat→Bool):Prop:=(∀i j,i<n→j<n→f i j=true→T i j=true)∧∀i j k,i<n→j<n→k<n→T i j=true→T j k=true→T i k=true
def cntF (n:Nat) (f:Nat→Bool):Nat:=((List.range n).filter fun i=> !f i).length
theorem Zk7 (n:Nat) (f:Nat→Bool):cntF (n+1) f=cntF n f+(if f n then 0 else 1):=by
 unfold cntF
 rw [List.range_succ,List.filter_append,List.length_append]
 cases h:f n<;>simp [h]
theorem Zp7 {n:Nat} {f g:Nat→Bool} (h:∀i,i<n→f i=g i):cntF n f=cntF n g:=by
 unfold cntF
 rw [List.filter_congr fun i hi=>by rw [h i (List.mem_range.1 hi)]]
theorem Zoy {f:Nat→Bool} {a:Nat} (hf:f a=false):∀{n:Nat},a<n→cntF n (fun i=>if i=a then true else f i)+1=cntF n f
 |0,h=>by omega
 | n +1,h=>by
   rw [Zk7,Zk7]
   by_cases e:n=a
   · subst e
     rw [if_pos rfl,hf]
     rw [Zp7 (f:=fun i=>if i=n then true else f i) (g:=f) fun i hi=>by rw [if_neg (by omega)]]
     simp
   · rw [if_neg e]
     have:=Zoy hf (n:=n) (by omega)
     omega
def cntM (n:Nat) (f:Nat→Nat→Bool):Nat:=((List.range n).map fun i=>cntF n (f i)).sum
structure Grows (n:Nat) (E R:Nat→Nat→Bool):Prop where
 lo:∀i j,i<n→j<n→E i j=true→R i j=true
 hi:∀T,Closed n E T→∀i j,i<n→j<n→R i j=true→T i j=true
def ZA1 (R:Nat→Nat→Bool) (a c:Nat):Nat→Nat→Bool:=fun i=>if i=a then (fun j=>if j=c then true else R a j) else R i
theorem Zr7 (R:Nat→Nat→Bool) (a c i j:Nat):ZA1 R a c i j=(if i=a∧j=c then true else R i j):=by
 unfold ZA1
 by_cases h:i=a
 · subst h
   rw [if_pos rfl]
   by_cases h2:j=c
   · rw [if_pos h2,if_pos ⟨rfl,h2⟩]
   · rw [if_neg h2,if_neg (fun h=>h2 h.2)]
 · rw [if_neg h,if_neg (fun h'=>h h'.1)]
theorem Grows.set {n:Nat} {E R:Nat→Nat→Bool} (h:Grows n E R) {a b c:Nat} (ha:a<n) (hb:b<n) (hc:c<n) (h1:R a b=true) (h2:R b c=true):Grows n E (ZA1 R a c):=by
 refine ⟨fun i j hi hj he=>?_,fun T hT i j hi hj hs=>?_⟩
 · rw [Zr7];split
   · rfl
   · exact h.lo i j hi hj he
 · rw [Zr7] at hs
   split at hs
   · rename_i hx
     rw [hx.1,hx.2]
     exact hT.2 a b c ha hb hc (h.hi T hT a b ha hb h1) (h.hi T hT b c hb hc h2)
   · exact h.hi T hT i j hi hj hs
def Before (a b c a' b' c':Nat):Prop:=a'<a∨(a'=a∧(b'<b∨(b'=b∧c'<c)))
structure Pass (n:Nat) (E R0 R:Nat→Nat→Bool) (ag:Bool) (a b c:Nat):Prop where
 gr:Grows n E R
 dn:ag=true→cntM n R<cntM n R0
 st:ag=false→R=R0∧∀a' b' c',a'<n→b'<n→c'<n→Before a b c a' b' c'→R0 a' b'=true→R0 b' c'=true→R0 a' c'=true
theorem Pass.start {n:Nat} {E R0:Nat→Nat→Bool} (h:Grows n E R0):Pass n E R0 R0 false 0 0 0:=⟨h,by simp,fun _=>⟨rfl,fun a' b' c' _ _ _ hB=>by unfold Before at hB;omega⟩⟩
theorem Pass.to {n:Nat} {E R0 R:Nat→Nat→Bool} {ag:Bool} {a b c a1 b1 c1:Nat} (h:Pass n E R0 R ag a b c) (hB:∀a' b' c',a'<n→b'<n→c'<n→Before a1 b1 c1 a' b' c'→Before a b c a' b' c'∨(ag=false→R0 a' b'=true→R0 b' c'=true→R0 a' c'=true)):Pass n E R0 R ag a1 b1 c1:=
 ⟨h.gr,h.dn,fun hg=>⟨(h.st hg).1,fun a' b' c' h1 h2 h3 h4=>by
  rcases hB a' b' c' h1 h2 h3 h4 with h5|h5
  · exact (h.st hg).2 a' b' c' h1 h2 h3 h5
  · exact h5 hg⟩⟩
theorem Pass.skip {n:Nat} {E R0 R:Nat→Nat→Bool} {ag:Bool} {a b c:Nat} (h:Pass n E R0 R ag a b c) (hx:R a b=true→R b c=true→R a c=true):Pass n E R0 R ag a b (c+1):=
 h.to fun a' b' c' _ _ _ hB=>by
  by_cases e:a'=a∧b'=b∧c'=c
  · obtain ⟨rfl,rfl,rfl⟩:=e
    exact .inr fun hg=>by rw [←(h.st hg).1];exact hx
  · exact .inl (by unfold Before at hB ⊢;omega)
theorem Pass.row {n:Nat} {E R0 R:Nat→Nat→Bool} {ag:Bool} {a b c:Nat} (h:Pass n E R0 R ag a b c) (hc:n≤c):Pass n E R0 R ag a (b+1) 0:=h.to fun a' b' c' _ _ _ hB=> .inl (by unfold Before at hB ⊢;omega)
theorem Pass.less {n:Nat} {E R0 R:Nat→Nat→Bool} {ag:Bool} {a b c:Nat} (h:Pass n E R0 R ag a b c):cntM n R+(if ag then 1 else 0)<cntM n R0+1:=by
 cases hg:ag with
 |true=>have:=h.dn hg;simp;omega
 |false=>rw [(h.st hg).1];simp
def Conn (l:List Int) (r:Int→Int→Bool) (x y:Int):Prop:=∀P:Int→Prop,(∀a b,a∈l→b∈l→(r a b=true∨r b a=true)→P a→P b)→P x→P y
theorem Conn.refl (l:List Int) (r:Int→Int→Bool) (x:Int):Conn l r x x:=fun _ _ h=>h
theorem Conn.trans {l:List Int} {r:Int→Int→Bool} {x y z:Int} (h:Conn l r x y) (k:Conn l r y z):Conn l r x z:=fun P hP hx=>k P hP (h P hP hx)
theorem Conn.step {l:List Int} {r:Int→Int→Bool} {x y:Int} (hx:x∈l) (hy:y∈l) (h:r x y=true∨r y x=true):Conn l r x y:=fun P hP hx'=>hP x y hx hy h hx'
theorem Conn.symm {l:List Int} {r:Int→Int→Bool} {x y:Int} (h:Conn l r x y):Conn l r y x:=
 h (fun z=>Conn l r z x) (fun a b ha hb hr hax=>(Conn.step hb ha hr.symm).trans hax) (Conn.refl l r x)
theorem nodup_len {α:Type} [BEq α] [LawfulBEq α]:∀{l m:List α},l.Nodup→(∀x∈l,x∈m)→l.length≤m.length
 |[],m,_,_=>Nat.zero_le _
 | x ::l,m,h,hs=>by
   rw [List.nodup_cons] at h
   have hx:=hs x (by simp)
   have h1:=nodup_len (l:=l) (m:=m.erase x) h.2 fun y hy=>by
    have hne:y≠x:=fun e=>h.1 (e▸hy)
    exact (List.mem_erase_of_ne hne).2 (hs y (by simp [hy]))
   rw [List.length_erase_of_mem hx] at h1
   have:=List.length_pos_of_mem hx
   simp only [List.length_cons]
   omega
structure Comps (l:List Int) (r:Int→Int→Bool) (cs:List (List Int)):Prop where
 mem:∀x,x∈cs.flatten↔x∈l
 nd:cs.flatten.Nodup
 ne:∀c∈cs,c≠[]
 asc:∀c∈cs,c.Pairwise (· < ·)
 conn:∀c∈cs,∀x∈c,∀y∈c,Conn l r x y
 clos:∀c∈cs,∀x∈c,∀y∈l,(r x y=true∨r y x=true)→y∈c
 ord:cs.Pairwise fun c d=>∀x y,c.head? =some x→d.head? =some y→x<y
structure Part (l:List Int) (r:Int→Int→Bool) (cs:List (List Int)) (k:Nat):Prop where
 sub:∀x∈cs.flatten,x∈l
 did:∀j x,j<k→l[j]? =some x→x∈cs.flatten
 nd:cs.flatten.Nodup
 ne:∀c∈cs,c≠[]
 asc:∀c∈cs,c.Pairwise (· < ·)
 conn:∀c∈cs,∀x∈c,∀y∈c,Conn l r x y
 clos:∀c∈cs,∀x∈c,∀y∈l,(r x y=true∨r y x=true)→y∈c
 ord:cs.Pairwise fun c d=>∀x y,c.head? =some x→d.head? =some y→x<y
 hd:∀c∈cs,∀x,c.head? =some x→∃j,j<k∧l[j]? =some x
theorem Part.start (l:List Int) (r:Int→Int→Bool):Part l r [] 0:=⟨by simp,by omega,by simp,by simp,by simp,by simp,by simp,by simp,by simp⟩
theorem Part.skip {l:List Int} {r:Int→Int→Bool} {cs:List (List Int)} {k:Nat} {x:Int} (h:Part l r cs k) (hx:l[k]? =some x) (hin:x∈cs.flatten):Part l r cs (k+1):=
 ⟨h.sub,fun j y hj hy=>by
  by_cases e:j=k
  · subst e;rw [hx] at hy;cases hy;exact hin
  · exact h.did j y (by omega) hy,h.nd,h.ne,h.asc,h.conn,h.clos,h.ord,fun c hc x hx=>let ⟨j,hj,e⟩:=h.hd c hc x hx;⟨j,by omega,e⟩⟩
structure Mk (l:List Int) (r:Int→Int→Bool) (cs:List (List Int)) (first:Int) (tk cl:List Int) (i q:Nat):Prop where
 tkm:∀z,z∈tk↔z∈cs.flatten∨z∈cl
 nd:(cs.flatten++cl).Nodup
 sub:∀z∈cl,z∈l
 con:∀z∈cl,Conn l r first z
 fst:first∈cl
 il:i≤cl.length
 did:∀j x,j<i→cl[j]? =some x→∀y∈l,(r x y=true∨r y x=true)→y∈tk
 now:∀x,cl[i]? =some x→∀p y,p<q→l[p]? =some y→(r x y=true∨r y x=true)→y∈tk
theorem Mk.start {l:List Int} {r:Int→Int→Bool} {cs:List (List Int)} {k:Nat} {x:Int} {tk:List Int} (h:Part l r cs k) (hx:l[k]? =some x) (ht:∀z,z∈tk↔z∈cs.flatten) (hn:x∉cs.flatten):Mk l r cs x (tk++[x]) [x] 0 0:=
 ⟨fun z=>by simp [ht],by
  rw [List.nodup_append]
  exact ⟨h.nd,by simp,fun a ha b hb=>by simp at hb;subst hb;exact fun e=>hn (e▸ha)⟩,fun z hz=>by simp at hz;subst hz;exact List.mem_of_getElem? hx,fun z hz=>by simp at hz;subst hz;exact Conn.refl _ _ _,by simp,by simp,by omega,by omega⟩
theorem Mk.len {l:List Int} {r:Int→Int→Bool} {cs:List (List Int)} {first:Int} {tk cl:List Int} {i q:Nat} (h:Mk l r cs first tk cl i q):cl.length≤l.length:=nodup_len (List.nodup_append.1 h.nd).2.1 h.sub
theorem Mk.take {l:List Int} {r:Int→Int→Bool} {cs:List (List Int)} {first:Int} {tk cl:List Int} {i q:Nat} {x y:Int} (h:Mk l r cs first tk cl i q) (hx:cl[i]? =some x) (hy:l[q]? =some y) (hn:y∉tk) (hr:r x y=true∨r y x=true):Mk l r cs first (tk++[y]) (cl++[y]) i (q+1):=by
 have hyl:=List.mem_of_getElem? hy
 have hxc:=List.mem_of_getElem? hx
 have hn':y∉cs.flatten∧y∉cl:=by
  have:=fun hh=>hn ((h.tkm y).2 hh)
  exact ⟨fun hh=>this (.inl hh),fun hh=>this (.inr hh)⟩
 refine ⟨fun z=>?_,?_,fun z hz=>?_,fun z hz=>?_,by simp [h.fst],by have:=h.il;simp;omega,fun j u hj hu v hv hrr=>?_,fun u hu p v hp hv hrr=>?_⟩
 · simp only [List.mem_append,List.mem_singleton,h.tkm z];exact or_assoc
 · rw [←List.append_assoc,List.nodup_append]
   refine ⟨h.nd,by simp,fun a ha b hb=>?_⟩
   simp at hb;subst hb
   intro e
   rw [List.mem_append] at ha
   rcases ha with ha|ha
   · exact hn'.1 (e▸ha)
   · exact hn'.2 (e▸ha)
 · simp only [List.mem_append,List.mem_singleton] at hz
   rcases hz with hz|rfl
   · exact h.sub z hz
   · exact hyl
 · simp only [List.mem_append,List.mem_singleton] at hz
   rcases hz with hz|rfl
   · exact h.con z hz
   · exact (h.con x hxc).trans (Conn.step (h.sub x hxc) hyl hr)
 · have hl:j<cl.length:=by have:=h.il;omega
   rw [List.getElem?_append_left hl] at hu
   rw [List.mem_append];exact .inl (h.did j u hj hu v hv hrr)
 · have hl:=ζe hx
   rw [List.getElem?_append_left hl,hx] at hu;cases hu
   rw [List.mem_append]
   by_cases e:p=q
   · subst e;rw [hy] at hv;cases hv;simp
   · exact .inl (h.now x hx p v (by omega) hv hrr)
theorem Mk.next {l:List Int} {r:Int→Int→Bool} {cs:List (List Int)} {first:Int} {tk cl:List Int} {i q:Nat} (h:Mk l r cs first tk cl i q) (hq:l.length≤q) (hi:i<cl.length):Mk l r cs first tk cl (i+1) 0:=
 ⟨h.tkm,h.nd,h.sub,h.con,h.fst,hi,fun j x hj hx y hy hr=>by
  by_cases e:j=i
  · subst e
    obtain ⟨p,hp⟩:=List.getElem?_of_mem hy
    exact h.now x hx p y (by have:=ζe hp;omega) hp hr
  · exact h.did j x (by omega) hx y hy hr,by omega⟩
theorem Zb0 {cl:List Int} {z:Int}:z∈cl.mergeSort (fun x y=>decide (x≤y))↔z∈cl:=(List.mergeSort_perm cl _).mem_iff
theorem ZuP {cl:List Int} (h:cl.Nodup):(cl.mergeSort fun x y=>decide (x≤y)).Pairwise (· < ·):=by
 have h1:=List.pairwise_mergeSort (le:=fun x y:Int=>decide (x≤y)) (fun a b c h1 h2=>by simp at*;omega) (fun a b=>by simp;omega) cl
 have h2:(cl.mergeSort fun x y=>decide (x≤y)).Nodup:=(List.mergeSort_perm cl _).nodup_iff.2 h
 exact (h1.and h2).imp fun {a b} ⟨h3,h4⟩=>by simp at h3;have:a≠b:=h4;omega
theorem Mk.done {l:List Int} {r:Int→Int→Bool} {cs:List (List Int)} {first:Int} {tk cl:List Int} {i k:Nat} (h:Mk l r cs first tk cl i 0) (hP:Part l r cs k) (hl:l.Pairwise (· < ·)) (hk:l[k]? =some first) (hi:cl.length≤i):Part l r (cs++[cl.mergeSort fun x y=>decide (x≤y)]) (k+1):=by
 have hnd:=List.nodup_append.1 h.nd
 have hflat:(cs++[cl.mergeSort fun x y=>decide (x≤y)]).flatten=cs.flatten++cl.mergeSort (fun x y=>decide (x≤y)):=by simp
 have hclos:∀x∈cl,∀y∈l,(r x y=true∨r y x=true)→y∈cl:=fun x hx y hy hr=>by
  obtain ⟨j,hj⟩:=List.getElem?_of_mem hx
  have:=h.did j x (by have:=ζe hj;omega) hj y hy hr
  rcases (h.tkm y).1 this with h1|h1
  · obtain ⟨c,hc,hyc⟩:=List.mem_flatten.1 h1
    have hxc:=hP.clos c hc y hyc x (h.sub x hx) hr.symm
    exact absurd rfl (hnd.2.2 x (List.mem_flatten.2 ⟨c,hc,hxc⟩) x hx)
  · exact h1
 have hleast:∀z∈cl,first≤z:=fun z hz=>by
  obtain ⟨j,hj⟩:=List.getElem?_of_mem (h.sub z hz)
  rcases Nat.lt_trichotomy j k with h1|h1|h1
  · have:=hP.did j z h1 hj
    exact absurd rfl (hnd.2.2 z this z hz)
  · subst h1;rw [hk] at hj;cases hj;omega
  · have:=List.pairwise_iff_getElem.1 hl k j (ζe hk) (ζe hj) h1
    have e1:=(List.getElem?_eq_some_iff.1 hk).2
    have e2:=(List.getElem?_eq_some_iff.1 hj).2
    rw [e1,e2] at this;omega
 have hasc:=ZuP hnd.2.1
 have hhead:∀x,(cl.mergeSort fun x y=>decide (x≤y)).head? =some x→x=first:=fun x hx=>by
  have hm:x∈cl:=Zb0.1 (List.mem_of_mem_head? hx)
  have hf:first∈cl.mergeSort fun x y=>decide (x≤y):=Zb0.2 h.fst
  have:=hleast x hm
  cases hs:cl.mergeSort (fun x y=>decide (x≤y)) with
  |nil=>rw [hs] at hx;cases hx
  | cons a t=>
    rw [hs] at hx hf hasc
    simp at hx;subst hx
    rw [List.pairwise_cons] at hasc
    rcases List.mem_cons.1 hf with e|e
    · exact e.symm
    · have:=hasc.1 first e;omega
 refine ⟨fun x hx=>?_,fun j x hj hx=>?_,?_,fun c hc=>?_,fun c hc=>?_,fun c hc x hx y hy=>?_,fun c hc x hx y hy hr=>?_,?_,fun c hc x hx=>?_⟩
 · rw [hflat,List.mem_append,Zb0] at hx
   rcases hx with hx|hx
   · exact hP.sub x hx
   · exact h.sub x hx
 · rw [hflat,List.mem_append,Zb0]
   by_cases e:j=k
   · subst e;rw [hk] at hx;cases hx;exact .inr h.fst
   · exact .inl (hP.did j x (by omega) hx)
 · rw [hflat,List.nodup_append]
   exact ⟨hP.nd,(List.mergeSort_perm cl _).nodup_iff.2 hnd.2.1,fun a ha b hb=>hnd.2.2 a ha b (Zb0.1 hb)⟩
 · rcases List.mem_append.1 hc with hc|hc
   · exact hP.ne c hc
   · simp at hc;subst hc;intro e
     have:=(Zb0 (cl:=cl)).2 h.fst
     rw [e] at this;simp at this
 · rcases List.mem_append.1 hc with hc|hc
   · exact hP.asc c hc
   · simp at hc;subst hc;exact hasc
 · rcases List.mem_append.1 hc with hc|hc
   · exact hP.conn c hc x hx y hy
   · simp at hc;subst hc
     exact (h.con x (Zb0.1 hx)).symm.trans (h.con y (Zb0.1 hy))
 · rcases List.mem_append.1 hc with hc|hc
   · exact hP.clos c hc x hx y hy hr
   · simp at hc;subst hc
     exact Zb0.2 (hclos x (Zb0.1 hx) y hy hr)
 · rw [List.pairwise_append]
   refine ⟨hP.ord,by simp,fun c hc d hd x y hx hy=>?_⟩
   simp at hd;subst hd
   obtain ⟨j,hj,e⟩:=hP.hd c hc x hx
   rw [hhead y hy]
   have:=List.pairwise_iff_getElem.1 hl j k (ζe e) (ζe hk) hj
   rw [(List.getElem?_eq_some_iff.1 e).2,(List.getElem?_eq_some_iff.1 hk).2] at this
   exact this
 · rcases List.mem_append.1 hc with hc|hc
   · obtain ⟨j,hj,e⟩:=hP.hd c hc x hx
     exact ⟨j,by omega,e⟩
   · simp at hc;subst hc
     rw [hhead x hx];exact ⟨k,by omega,hk⟩
def ZzN (c:List Int):Int:=c[0]?.getD 0
theorem Zr8 {c:List Int} (h:c≠[]):ZzN c∈c:=by
 cases c with
 |nil=>exact absurd rfl h
 |cons a t=>exact List.mem_cons_self
def sumTo:Nat→(Nat→Nat)→Nat
 |0,_=>0
 |n+1,f=>sumTo n f+f n
def upd {α:Type} (f:Nat→α) (a:Nat) (b:α):Nat→α:=fun i=>if i=a then b else f i
theorem Zp8 {n a b:Nat} {f:Nat→Nat} (h:n≤a):sumTo n (upd f a b)=sumTo n f:=by
 induction n with
 |zero=>rfl
 | succ n ih=>
   show sumTo n (upd f a b)+upd f a b n=sumTo n f+f n
   rw [ih (by omega)];unfold upd;rw [if_neg (by omega)]
theorem ZiE:∀{n a b:Nat} {f:Nat→Nat},a<n→b<f a→sumTo n (upd f a b)<sumTo n f
 | n +1,a,b,f,h,hb=>by
   show sumTo n (upd f a b)+upd f a b n<sumTo n f+f n
   by_cases e:a=n
   · subst e
     rw [Zp8 (Nat.le_refl _)];unfold upd;rw [if_pos rfl];omega
   · have:=ZiE (b:=b) (f:=f) (show a<n by omega) hb
     have e2:upd f a b n=f n:=by unfold upd;rw [if_neg (by omega)]
     omega
def marked (n:Nat) (I:Nat→Bool):List Int:=((List.range n).map fun i:Nat=>(i:Int)).filter fun x=>I x.toNat
theorem Zep {n:Nat} {I:Nat→Bool} {x:Int}:x∈marked n I↔∃i:Nat,i<n∧I i=true∧x=i:=by
 unfold marked
 rw [List.mem_filter,List.mem_map]
 constructor
 · rintro ⟨⟨i,hi,rfl⟩,h2⟩
   exact ⟨i,List.mem_range.1 hi,by simpa using h2,rfl⟩
 · rintro ⟨i,h1,h2,rfl⟩
   exact ⟨⟨i,List.mem_range.2 h1,rfl⟩,by simpa using h2⟩
structure LabOk (n:Nat) (I:Nat→Bool) (r:Int→Int→Bool) (lab:Nat→Nat):Prop where
 le:∀i,i<n→lab i≤i
 inn:∀i,i<n→I i=true→I (lab i)=true
 conn:∀i,i<n→I i=true→Conn (marked n I) r (lab i) i
theorem LabOk.start (n:Nat) (I:Nat→Bool) (r:Int→Int→Bool):LabOk n I r fun i=>i:=⟨fun i _=>Nat.le_refl i,fun i _ h=>h,fun i _ _=>Conn.refl _ _ _⟩
theorem LabOk.push {n:Nat} {I:Nat→Bool} {r:Int→Int→Bool} {lab:Nat→Nat} (h:LabOk n I r lab) {a b:Nat} (ha:a<n) (hb:b<n) (ia:I a=true) (ib:I b=true) (hlt:lab a<lab b) (hr:r a b=true∨r b a=true):LabOk n I r (upd lab b (lab a)):=by
 refine ⟨fun i hi=>?_,fun i hi hI=>?_,fun i hi hI=>?_⟩<;>unfold upd<;>split
 · rename_i e;subst e;have:=h.le i hi;omega
 · exact h.le i hi
 · exact h.inn a ha ia
 · exact h.inn i hi hI
 · rename_i e;subst e
   exact (h.conn a ha ia).trans (Conn.step (Zep.2 ⟨a,ha,ia,rfl⟩) (Zep.2 ⟨i,hb,ib,rfl⟩) hr)
 · exact h.conn i hi hI
def good (n:Nat) (I:Nat→Bool) (t:Nat→Nat→Bool) (lab:Nat→Nat) (a b:Nat):Prop:=a≠b→I a=true→I b=true→t a b=true→lab a=lab b
structure LabPass (n:Nat) (I:Nat→Bool) (r:Int→Int→Bool) (t:Nat→Nat→Bool) (lab0 lab:Nat→Nat) (ag:Bool) (a b:Nat):Prop where
 ok:LabOk n I r lab
 les:ag=true→sumTo n lab<sumTo n lab0
 eq:ag=false→lab=lab0∧∀x y,(x<a∧y<n∨x=a∧y<b)→good n I t lab x y
theorem LabPass.start {n:Nat} {I:Nat→Bool} {r:Int→Int→Bool} {t:Nat→Nat→Bool} {lab:Nat→Nat} (h:LabOk n I r lab):LabPass n I r t lab lab false 0 0:=⟨h,(fun e=>by cases e),fun _=>⟨rfl,fun x y h=>by omega⟩⟩
theorem LabPass.push {n:Nat} {I:Nat→Bool} {r:Int→Int→Bool} {t:Nat→Nat→Bool} {lab0 lab:Nat→Nat} {ag:Bool} {p q x y:Nat} (h:LabPass n I r t lab0 lab ag p q) (hx:x<n) (hy:y<n) (ix:I x=true) (iy:I y=true) (hlt:lab x<lab y) (hr:r x y=true∨r y x=true) (p' q':Nat):LabPass n I r t lab0 (upd lab y (lab x)) true p' q':=by
 refine ⟨h.ok.push hx hy ix iy hlt hr,fun _=>?_,fun e=>by cases e⟩
 have h1:=ZiE (n:=n) hy hlt
 cases ag with
 |true=>have:=h.les rfl;omega
 |false=>rw [←(h.eq rfl).1];exact h1
theorem LabPass.on {n:Nat} {I:Nat→Bool} {r:Int→Int→Bool} {t:Nat→Nat→Bool} {lab0 lab:Nat→Nat} {ag:Bool} {a b:Nat} (h:LabPass n I r t lab0 lab ag a b) (hg:ag=false→good n I t lab a b):LabPass n I r t lab0 lab ag a (b+1):=⟨h.ok,h.les,fun e=>⟨(h.eq e).1,fun x y hxy=>by
 by_cases e2:x=a∧y=b
 · obtain ⟨rfl,rfl⟩:=e2;exact hg e
 · exact (h.eq e).2 x y (by omega)⟩⟩
theorem LabPass.row {n:Nat} {I:Nat→Bool} {r:Int→Int→Bool} {t:Nat→Nat→Bool} {lab0 lab:Nat→Nat} {ag:Bool} {a:Nat} (h:LabPass n I r t lab0 lab ag a n):LabPass n I r t lab0 lab ag (a+1) 0:=⟨h.ok,h.les,fun e=>⟨(h.eq e).1,fun x y hxy=>(h.eq e).2 x y (by omega)⟩⟩
structure Fix (n:Nat) (I:Nat→Bool) (r:Int→Int→Bool) (t:Nat→Nat→Bool) (lab:Nat→Nat):Prop where
 ok:LabOk n I r lab
 st:∀x y,x<n→y<n→good n I t lab x y
def cls (n:Nat) (I:Nat→Bool) (lab:Nat→Nat) (c:Nat):List Int:=((List.range n).map fun i:Nat=>(i:Int)).filter fun x=>I x.toNat&&(lab x.toNat==c)
theorem Zr9 {n:Nat} {I:Nat→Bool} {lab:Nat→Nat} {c:Nat} {x:Int}:x∈cls n I lab c↔∃i:Nat,i<n∧I i=true∧lab i=c∧x=i:=by
 unfold cls
 rw [List.mem_filter,List.mem_map]
 constructor
 · rintro ⟨⟨i,hi,rfl⟩,h2⟩
   simp at h2
   exact ⟨i,List.mem_range.1 hi,h2.1,h2.2,rfl⟩
 · rintro ⟨i,h1,h2,h3,rfl⟩
   exact ⟨⟨i,List.mem_range.2 h1,rfl⟩,by simp [h2,h3]⟩
theorem Zsa (n:Nat):((List.range n).map fun i:Nat=>(i:Int)).Pairwise (· < ·):=by
 rw [List.pairwise_map]
 exact List.pairwise_lt_range.imp fun h=>by omega
theorem ZxD (n:Nat) (I:Nat→Bool) (lab:Nat→Nat) (c:Nat):(cls n I lab c).Pairwise (· < ·):=(Zsa n).filter _
theorem Fix.const {n:Nat} {I:Nat→Bool} {r:Int→Int→Bool} {t:Nat→Nat→Bool} {lab:Nat→Nat} (h:Fix n I r t lab) (ht:∀a b:Nat,a<n→b<n→I a=true→I b=true→a≠b→(r a b=true∨r b a=true)→t a b=true) {a b:Nat} (hc:Conn (marked n I) r a b):lab b=lab a:=by
 have:=hc (fun z=>lab z.toNat=lab a) (fun x y hx hy hr hz=>by
  obtain ⟨i,hi,Ii,rfl⟩:=Zep.1 hx
  obtain ⟨j,hj,Ij,rfl⟩:=Zep.1 hy
  rw [Int.toNat_natCast] at hz ⊢
  by_cases e:i=j
  · rw [←e];exact hz
  · rw [←h.st i j hi hj e Ii Ij (ht i j hi hj Ii Ij e hr)];exact hz) (by rw [Int.toNat_natCast])
 rw [Int.toNat_natCast] at this
 exact this
theorem Fix.own {n:Nat} {I:Nat→Bool} {r:Int→Int→Bool} {t:Nat→Nat→Bool} {lab:Nat→Nat} (h:Fix n I r t lab) (ht:∀a b:Nat,a<n→b<n→I a=true→I b=true→a≠b→(r a b=true∨r b a=true)→t a b=true) {c:Nat} (hc:cls n I lab c≠[]):ZzN (cls n I lab c)=c:=by
 obtain ⟨i,hi,Ii,hl,hx⟩:=Zr9.1 (Zr8 hc)
 have hle:=h.ok.le i hi
 have h1:=h.const ht (h.ok.conn i hi Ii)
 have h2:=h.ok.inn i hi Ii
 rw [hl] at h1 h2 hle
 have hcm:(c:Int)∈cls n I lab c:=Zr9.2 ⟨c,by omega,h2,by omega,rfl⟩
 have hasc:=ZxD n I lab c
 cases hd:cls n I lab c with
 |nil=>exact absurd hd hc
 | cons y m=>
   rw [hd] at hcm hasc hx
   rw [List.pairwise_cons] at hasc
   show y=(c:Int)
   have hy:y=(i:Int):=hx
   rcases List.mem_cons.1 hcm with e|e
   · exact e.symm
   · have:=hasc.1 _ e;omega
theorem LabPass.less {n:Nat} {I:Nat→Bool} {r:Int→Int→Bool} {t:Nat→Nat→Bool} {lab0 lab:Nat→Nat} {ag:Bool} {a b:Nat} (h:LabPass n I r t lab0 lab ag a b):sumTo n lab+(if ag then 1 else 0)<sumTo n lab0+(if true then 1 else 0):=by
 cases hg:ag with
 |true=>have:=h.les hg;simp;omega
 |false=>rw [(h.eq hg).1];simp
end Go.Cb
namespace Go.Proofs.YtgfabnhpllkebaaGreatDoor
open Go.RowKit Go.Cb Go.En
set_option linter.all false
theorem ZjD {a b:Int}:ZkV a b<0↔a<b:=by unfold ZkV;split<;>(try split)<;>omega
theorem ZdZ {a b:Int}:ZkV a b=0↔a=b:=by unfold ZkV;split<;>(try split)<;>omega
theorem Zeq {a b:Mv}:ZfL a b=true↔a.src<b.src∨(a.src=b.src∧(a.sym<b.sym∨(a.sym=b.sym∧a.dst<b.dst))):=by
 unfold ZfL ZeH
 rw [decide_eq_true_eq]
 by_cases h1:ZkV a.src b.src=0
 · have e1:=ZdZ.1 h1
   by_cases h2:ZkV a.sym b.sym=0
   · have e2:=ZdZ.1 h2
     have h3:=ZjD (a:=a.dst) (b:=b.dst)
     by_cases h4:ZkV a.dst b.dst=0
     · have e4:=ZdZ.1 h4
       simp only [Zcd,h1,h2,h4,if_true]
       omega
     · simp only [Zcd,h1,h2,h4,if_true,if_false]
       omega
   · have h3:=ZjD (a:=a.sym) (b:=b.sym)
     have h4:¬a.sym=b.sym:=fun e=>h2 (ZdZ.2 e)
     simp only [Zcd,h1,h2,if_true,if_false]
     omega
 · have h3:=ZjD (a:=a.src) (b:=b.src)
   have h4:¬a.src=b.src:=fun e=>h1 (ZdZ.2 e)
   simp only [Zcd,h1,if_false]
   omega
theorem Zig {α:Type} {r:α→α→Bool} {l:List α} (h:ZaU r l=true) (hi:∀a∈l,r a a=false) (ht:∀a∈l,∀b∈l,∀c∈l,r a b=true→r b c=true→r a c=true):l.Pairwise fun a b=>r a b=true:=by
 induction l with
 |nil=>exact .nil
 | cons x l ih=>
   have h1:∀i a b,(x::l)[i]? =some a→(x::l)[i+1]? =some b→r a b=true:=(Zcm r _).1 h
   have h2:=ih ((Zcm r l).2 fun i a b ha hb=>h1 (i+1) a b ha hb) (fun a ha=>hi a (List.mem_cons_of_mem _ ha)) (fun a ha b hb c hc=>ht a (List.mem_cons_of_mem _ ha) b (List.mem_cons_of_mem _ hb) c (List.mem_cons_of_mem _ hc))
   refine List.pairwise_cons.2 ⟨fun y hy=>?_,h2⟩
   cases l with
   |nil=>simp at hy
   | cons z l=>
     have h3:=h1 0 x z rfl rfl
     rcases List.mem_cons.1 hy with rfl|hy2
     · exact h3
     · exact ht x (by simp) z (by simp) y (List.mem_cons_of_mem _ hy) h3 ((List.pairwise_cons.1 h2).1 y hy2)
structure AOk (a:Aut):Prop where
 n0:0≤a.n
 n1:a.n≤2000
 s0:0≤a.syms
 s1:a.syms≤40
 ml:a.moves.length≤20000
 st:InS a a.start
 fi:InS a a.fin
 sl:a.start.length≤2000
 fl:a.fin.length≤2000
 mv:∀m∈a.moves,0≤m.src∧m.src<a.n∧0≤m.dst∧m.dst<a.n∧-1≤m.sym∧m.sym<a.syms
theorem AOk.mi {a:Aut} (h:AOk a):Ziy a:=fun m hm=>by have:=h.mv m hm;omega
theorem ZmO {n:Int} {l:List Int} (h:Zjv n l=true):∀s∈l,0≤s∧s<n:=fun s hs=>by
 unfold Zjv at h
 simp only [Bool.and_eq_true,List.all_eq_true,decide_eq_true_eq] at h
 exact h.1 s hs
theorem Zoz {n:Int} {l:List Int} (h:Zjv n l=true) (h0:0≤n) (hn:n≤2000):l.length≤2000:=by
 have h1:=ZmO h
 unfold Zjv at h
 simp only [Bool.and_eq_true] at h
 have h2:=Zig h.2 (fun a _=>by unfold ltI;exact decide_eq_false (by omega)) (fun a _ b _ c _ h1 h2=>by
  unfold ltI at*
  simp only [decide_eq_true_eq] at*
  omega)
 have:=nodup_len 2000 l (h2.imp fun h=>by unfold ltI at h;simp only [decide_eq_true_eq] at h;omega) fun s hs=>by have:=h1 s hs;omega
 exact this
theorem Zd0 {a:Aut} (h:ζ5 a=true):AOk a:=by
 unfold ζ5 at h
 simp only [Bool.and_eq_true,decide_eq_true_eq] at h
 obtain ⟨⟨⟨⟨⟨⟨⟨⟨h1,h2⟩,h3⟩,h4⟩,h5⟩,h6⟩,h7⟩,h8⟩,h9⟩:=h
 refine ⟨h1,h2,h3,h4,h5,ZmO h6,ZmO h7,Zoz h6 h1 h2,Zoz h7 h1 h2,fun m hm=>?_⟩
 have:=List.all_eq_true.1 h8 m hm
 unfold ZrV at this
 simp only [Bool.and_eq_true,decide_eq_true_eq] at this
 omega
set_option maxRecDepth 100000
theorem Zwr {a:Aut} (h:0≤a.n):ζW a= .agg [pInt (a.n.toNat:Nat),pInt a.syms,pInts a.start,pInts a.fin,pMvs a.moves]:=by
 unfold ζW;rw [show ((a.n.toNat:Nat):Int)=a.n by omega]
def FinK (a:Aut) (k:Nat) (L:List Int):Prop:=L.length=a.n.toNat∧∀s,s<a.n.toNat→L[s]? =some (if (a.fin.take k).any (fun t=>decide (t=(s:Nat))) then 0 else-1)
theorem FinK.start {a:Aut} {L:List Int} (hl:L.length=a.n.toNat) (h:∀j,j<L.length→L[j]? =some (-1)):FinK a 0 L:=⟨hl,fun s hs=>by rw [h s (by omega)];rfl⟩
theorem FinK.step {a:Aut} {k:Nat} {L:List Int} {t:Int} (h:FinK a k L) (ht:a.fin[k]? =some t) (h0:0≤t):FinK a (k+1) (L.set t.toNat 0):=by
 refine ⟨by rw [List.length_set];exact h.1,fun s hs=>?_⟩
 rw [ζH ht,List.any_append]
 by_cases e:t.toNat=s
 · subst e
   rw [List.getElem?_set_self (by rw [h.1];exact hs)]
   simp only [List.any_cons,List.any_nil,Bool.or_false]
   rw [decide_eq_true (show t=((t.toNat:Nat):Int) by omega),Bool.or_true];rfl
 · rw [List.getElem?_set_ne e,h.2 s hs]
   simp only [List.any_cons,List.any_nil,Bool.or_false]
   rw [decide_eq_false (show ¬t=(s:Int) by omega),Bool.or_false]
theorem FinK.done {a:Aut} {k:Nat} {L:List Int} (h:FinK a k L) (hk:a.fin.length≤k):L=Zbh a 0:=by
 apply List.ext_getElem?
 intro s
 rcases Nat.lt_or_ge s a.n.toNat with hs|hs
 · rw [h.2 s hs,show (Zbh a 0)[s]? =_ from ZiB hs,List.take_of_length_le hk];rfl
 · rw [List.getElem?_eq_none (by rw [h.1];exact hs),List.getElem?_eq_none (by rw [(Zdv a 0).len];exact hs)]
structure PassI (a:Aut) (far0 L:List Int) (fl:Bool) (i:Nat):Prop where
 eq:L=passF (a.moves.take i) far0
 ok:FarOk a.n.toNat L
 no:fl=false→L=far0
 yes:fl=true→sumF a.n.toNat L<sumF a.n.toNat far0
theorem PassI.start {a:Aut} {far0:List Int} (h:FarOk a.n.toNat far0):PassI a far0 far0 false 0:=⟨rfl,h,fun _=>rfl,fun h=>Bool.noConfusion h⟩
theorem PassI.set {a:Aut} {far0 L:List Int} {fl:Bool} {i:Nat} {m:Mv} {d e d':Int} (h:PassI a far0 L fl i) (hm:a.moves[i]? =some m) (hd:L[m.dst.toNat]? =some d) (he:L[m.src.toNat]? =some e) (h0:0≤d) (h1:e<0∨d'<e) (hs:d'=ZcR m d):PassI a far0 (L.set m.src.toNat d') true (i+1):=by
 subst hs
 have h2:=Zhh h.ok hd he h0 h1
 refine ⟨?_,h2.1,fun h=>Bool.noConfusion h,fun _=>?_⟩
 · rw [ζH hm]
   unfold passF
   rw [List.foldl_append]
   show _=ZdT (passF (a.moves.take i) far0) m
   rw [←h.eq]
   unfold ZdT
   rw [hd,he]
   dsimp only
   rw [if_pos ⟨h0,h1⟩]
 · cases hfl:fl
   · rw [←h.no hfl];exact h2.2
   · exact Nat.lt_trans h2.2 (h.yes hfl)
theorem PassI.skip {a:Aut} {far0 L:List Int} {fl:Bool} {i:Nat} {m:Mv} {d e:Int} (h:PassI a far0 L fl i) (hm:a.moves[i]? =some m) (hd:L[m.dst.toNat]? =some d) (he:L[m.src.toNat]? =some e) (h1:¬(0≤d∧(e<0∨ZcR m d<e))):PassI a far0 L fl (i+1):=by
 refine ⟨?_,h.ok,h.no,h.yes⟩
 rw [ζH hm]
 unfold passF
 rw [List.foldl_append]
 show _=ZdT (passF (a.moves.take i) far0) m
 rw [←h.eq]
 unfold ZdT
 rw [hd,he]
 dsimp only
 rw [if_neg h1]
theorem PassI.done {a:Aut} {far0 L:List Int} {fl:Bool} {i:Nat} (h:PassI a far0 L fl i) (hi:a.moves.length≤i):L=passF a.moves far0:=by rw [h.eq,List.take_of_length_le hi]
theorem PassI.less {a:Aut} {j i:Nat} {L:List Int} {fl:Bool} (h:PassI a (Zbh a j) L fl i) (hL:L=Zbh a (j+1)):sumF a.n.toNat (Zbh a (j+1))+(if fl then 1 else 0)<sumF a.n.toNat (Zbh a j)+(if true then 1 else 0):=by
 cases hf:fl
 · have h1:=h.no hf
   rw [hL] at h1
   rw [h1]
   simp
 · have h1:=h.yes hf
   rw [hL] at h1
   simp;omega
theorem Zws {n:Nat} {L:List Int} (h:FarOk n L) {i:Nat} {d:Int} (hd:L[i]? =some d): -1≤d∧d<n:=by
 have h1:=h.lo d (List.mem_of_getElem? hd)
 have h2:=h.hi d (List.mem_of_getElem? hd)
 have h3:=ZmL L
 rw [h.len] at h3
 omega
set_option maxHeartbeats 2000000 in
theorem Zk8 (a : Aut) (h : AOk a):AF Tryz.prog 139 [ζW a] (· = .own 3 1 a.n.toNat ((Zcb a).map pInt)):=by
 have hn0:=h.n0
 have hn1:=h.n1
 have hml:=h.ml
 have hfl:=h.fl
 rw [Zwr h.n0]
 refine AF.of_body 80 Tryz.func139 rfl Tryz.ntmps139 (Nat.le_of_ble_eq_true rfl) ?_
 intro w0 M0 vs hl hv
 obtain ⟨v0,rfl⟩:=ZdL hl
 clear hl hv
 refine nav ?_
 (refine ζa ?_<;>refine ζE 1 5 fun h1=>?_<;>refine xL 2 ζc ?_<;>refine ζb (nav ?_)<;>try dsimp only)
 (refine ζa ?_<;>refine xL 11 (ζh 1 ζP) ?_<;>(refine yL 12 (ζs 1 ζj) fun v12 h=>?_;cases h)<;>refine Ze6 13 ζi fun h13 ho13=>?_<;>refine xL 3 ζc ?_<;>refine ζb (nav ?_)<;>try dsimp only)
 rw [show List.replicate a.n.toNat (PV.val (.int .i64 0))=(List.replicate a.n.toNat (0:Int)).map pInt by rw [List.map_replicate]]
 (refine ζa ?_<;>refine xL 14 ζd ?_<;>refine xL 15 (ZaC 13 ζn) ?_<;>refine xL 16 ζd ?_<;>refine ζb (nav ?_)<;>try dsimp only)
 refine ζy (ι:={q:Nat×List Int//q.1≤a.n.toNat∧q.2.length=a.n.toNat∧∀j,j<q.1→q.2[j]? =some (-1)}) (fun k=>⟨[(1,_,_),(2,_,_),(3,_,_),(15,_,_),(16, .int .i64 k.1.1,pInt k.1.1)],[(1,_,_),(13,h13, .own 3 1 a.n.toNat (k.1.2.map pInt))]⟩) (fun k=>a.n.toNat-k.1.1) ⟨(0,List.replicate a.n.toNat 0),Nat.zero_le _,List.length_replicate,fun j hj=>by omega⟩ (fun a w H=>H.weaken ⟨rfl,rfl,rfl,rfl,rfl,trivial⟩ ⟨rfl,rfl,trivial⟩) ?_
 rintro ⟨⟨k,L⟩,hk,hLl,hL⟩
 dsimp only
 dsimp only at hk hLl hL
 have hLm:(L.map pInt).length=a.n.toNat:=by rw [List.length_map];exact hLl
 refine nav ?_
 (refine ζa ?_<;>refine xL 17 ζS ?_<;>refine ζb (nav ?_)<;>try dsimp only)
 (first|refine cCd ?_ ?_|refine cC ?_ ?_)<;>intro hb17
 · first
   |exact Bool.noConfusion hb17
   | (
    refine nav ?_
    (refine ζa ?_<;>refine xL 18 ζd ?_<;>refine xL 4 ζc ?_<;>refine ζb (nav ?_)<;>try dsimp only)
    (refine ζa ?_<;>refine xL 19 ζd ?_<;>refine xL 20 ζd ?_<;>refine xL 21 (Zaw 13 ζn) ?_<;>refine Zc1 13 ζj Zbq ?_<;>refine ζb (nav ?_)<;>try dsimp only)
    (refine ζa ?_<;>refine xL 22 ζM ?_<;>refine xL 16 ζd ?_<;>refine ζb (nav ?_)<;>try dsimp only)
    rw [Nat.mul_one,←List.map_set]
    refine ζl (
     ⟨(k+1,L.set k (-1)),by dsimp only;omega,by rw [List.length_set];exact hLl,fun j hj=>by
       dsimp only at hj ⊢
       by_cases e:k=j
       · subst e;rw [List.getElem?_set_self (by omega)]
       · rw [List.getElem?_set_ne e];exact hL j (by omega)⟩
     ) (by dsimp only;omega) ⟨rfl,rfl,rfl,rfl,rfl,trivial⟩ ⟨rfl,rfl,trivial⟩)
 · first
   |exact Bool.noConfusion hb17
   | (
    have hF0:FinK a 0 L:=FinK.start hLl fun j hj=>hL j (by omega)
    refine nav ?_
    (refine ζa ?_<;>refine xL 23 (ζh 1 ζ9) ?_<;>(refine yL 24 (ζs 1 ζx) fun v24 h=>?_;cases h)<;>refine xL 25 (ζV ζn) ?_<;>refine xL 26 ζd ?_<;>refine ζb (nav ?_)<;>try dsimp only)
    refine ζy (ι:={q:Nat×List Int//q.1≤a.fin.length∧FinK a q.1 q.2}) (fun k=>⟨[(1,_,_),(2,_,_),(3,_,_),(24,_,_),(25,_,_),(26, .int .i64 k.1.1,pInt k.1.1)],[(1,_,_),(13,h13, .own 3 1 a.n.toNat (k.1.2.map pInt))]⟩) (fun k=>a.fin.length-k.1.1) ⟨(0,L),Nat.zero_le _,hF0⟩ (fun a w H=>H.weaken ⟨rfl,rfl,rfl,rfl,rfl,rfl,trivial⟩ ⟨rfl,rfl,trivial⟩) ?_
    rintro ⟨⟨k8,L8⟩,hk8,hF8⟩
    dsimp only
    dsimp only at hk8 hF8
    have hLm8:(L8.map pInt).length=a.n.toNat:=by rw [List.length_map];exact hF8.1
    refine nav ?_
    (refine ζa ?_<;>refine xL 27 ζS ?_<;>refine ζb (nav ?_)<;>try dsimp only)
    (first|refine cCd ?_ ?_|refine cC ?_ ?_)<;>intro hb27
    · first
      |exact Bool.noConfusion hb27
      | (
       obtain ⟨t,ht⟩:=ζm (show k8<a.fin.length by omega)
       have e1:=Zaf (f:=pInt) ht
       have ht2:=h.fi t (List.mem_of_getElem? ht)
       refine nav ?_
       (refine ζa ?_<;>refine xL 28 (ζJ ζn) ?_<;>(refine yL 29 (Za3 ζj) fun v29 h=>?_;cases h)<;>refine xL 6 ζc ?_<;>refine ζb (nav ?_)<;>try dsimp only)
       (refine ζa ?_<;>refine xL 30 ζd ?_<;>refine xL 31 ζd ?_<;>refine xL 32 (ZcE 13 ζn) ?_<;>refine Zc1 13 ζj Zbq ?_<;>refine ζb (nav ?_)<;>try dsimp only)
       (refine ζa ?_<;>refine xL 33 ζM ?_<;>refine xL 26 ζd ?_<;>refine ζb (nav ?_)<;>try dsimp only)
       rw [Nat.mul_one,←List.map_set]
       refine ζl (
        ⟨(k8+1,L8.set t.toNat 0),ζe ht,hF8.step ht ht2.1⟩
        ) (by dsimp only;omega) ⟨rfl,rfl,rfl,rfl,rfl,rfl,trivial⟩ ⟨rfl,rfl,trivial⟩)
    · first
      |exact Bool.noConfusion hb27
      | (
       have hF9:=hF8.done (by omega)
       subst hF9
       refine nav ?_
       (refine ζa ?_<;>refine xL 7 ζc ?_<;>refine ζb (nav ?_)<;>try dsimp only)
       refine ζy (ι:={q:Nat×Bool//q.2=false→passF a.moves (Zbh a q.1)=Zbh a q.1}) (fun k=>⟨[(1,_,_),(2,_,_),(3,_,_),(7, .bool k.1.2,ζO k.1.2)],[(1,_,_),(13,h13, .own 3 1 a.n.toNat ((Zbh a k.1.1).map pInt))]⟩) (fun k=>sumF a.n.toNat (Zbh a k.1.1)+(if k.1.2 then 1 else 0)) ⟨(0,true),fun h=>Bool.noConfusion h⟩ (fun a w H=>H.weaken ⟨rfl,rfl,rfl,rfl,trivial⟩ ⟨rfl,rfl,trivial⟩) ?_
       rintro ⟨⟨j,ag⟩,hag⟩
       dsimp only
       dsimp only at hag
       refine nav ?_
       (refine ζa ?_<;>refine xL 34 ζd ?_<;>refine ζb (nav ?_)<;>try dsimp only)
       (first|refine cCd ?_ ?_|refine cC ?_ ?_)<;>intro hb34
       · first
         |exact Bool.noConfusion hb34
         | (
          refine nav ?_
          (refine ζa ?_<;>refine xL 7 ζc ?_<;>refine ζb (nav ?_)<;>try dsimp only)
          (refine ζa ?_<;>refine xL 35 (ζh 1 ζw) ?_<;>(refine yL 36 (ζs 1 ζA) fun v36 h=>?_;cases h)<;>refine xL 37 (ζV ζG) ?_<;>refine xL 38 ζd ?_<;>refine ζb (nav ?_)<;>try dsimp only)
          refine ζy (ι:={q:Nat×List Int×Bool//q.1≤a.moves.length∧PassI a (Zbh a j) q.2.1 q.2.2 q.1}) (fun k=>⟨[(1,_,_),(2,_,_),(3,_,_),(36,_,_),(37,_,_),(7, .bool k.1.2.2,ζO k.1.2.2),(38, .int .i64 k.1.1,pInt k.1.1)],[(1,_,_),(13,h13, .own 3 1 a.n.toNat (k.1.2.1.map pInt))]⟩) (fun k=>a.moves.length-k.1.1) ⟨(0,Zbh a j,false),Nat.zero_le _,PassI.start (Zdv a j)⟩ (fun a w H=>H.weaken ⟨rfl,rfl,rfl,rfl,rfl,rfl,rfl,trivial⟩ ⟨rfl,rfl,trivial⟩) ?_
          rintro ⟨⟨i,L2,fl⟩,hi,hP⟩
          dsimp only
          dsimp only at hi hP
          refine nav ?_
          (refine ζa ?_<;>refine xL 39 ζS ?_<;>refine ζb (nav ?_)<;>try dsimp only)
          (first|refine cCd ?_ ?_|refine cC ?_ ?_)<;>intro hb39
          · first
            |exact Bool.noConfusion hb39
            | (
             obtain ⟨m,hm⟩:=ζm (show i<a.moves.length by omega)
             have e1:=ζ8 ζ0 a.moves i m hm
             have e2:=Zaq ζ0 hm
             have hmv:=h.mv m (List.mem_of_getElem? hm)
             have hLl:=hP.ok.len
             obtain ⟨d,hd⟩:=ζm (show m.dst.toNat<L2.length by omega)
             obtain ⟨e,he⟩:=ζm (show m.src.toNat<L2.length by omega)
             have hdb:=Zws hP.ok hd
             have heb:=Zws hP.ok he
             have e3:=Zaf (f:=pInt) hd
             have e4:=Zaf (f:=pInt) he
             have hLm2:(L2.map pInt).length=a.n.toNat:=by rw [List.length_map];exact hLl
             refine nav ?_
             (refine ζa ?_<;>refine xL 40 (ζJ ζG) ?_<;>(refine yL 41 (Zbm ζR) fun v41 h=>?_;cases h)<;>refine ζr [(.int .i64 0),(.int .i64 0),(.int .i64 0)] 3 9 Zb5 fun h9=>?_<;>refine ζC 9 ζR ?_<;>refine ζb (nav ?_)<;>try dsimp only)
             (refine ζa ?_<;>refine xL 42 ζd ?_<;>refine xL 43 (ζh 9 Zal) ?_<;>(refine yL 44 (ζs 9 ζj) fun v44 h=>?_;cases h)<;>refine xL 45 (ZcE 13 ζn) ?_<;>(refine yL 46 (ζs 13 ζj) fun v46 h=>?_;cases h)<;>refine xL 47 ζS ?_<;>refine ζb (nav ?_)<;>try dsimp only)
             (first|refine cCd ?_ ?_|refine cC ?_ ?_)<;>intro hb47
             · first
               |exact Bool.noConfusion hb47
               | (
                refine nav ?_
                (refine ζa ?_<;>refine xL 78 ζM ?_<;>refine xL 38 ζd ?_<;>refine ζb (nav ?_)<;>try dsimp only)
                try rw [Nat.mul_one,←List.map_set]
                first
                 | (exact ζl (
                     ⟨(i+1,L2.set m.src.toNat (d+1),true),ζe hm,hP.set hm hd he (by omega) (by first|omega|(simp at hb72;omega)) (by omega)⟩
                     ) (by dsimp only;omega) ⟨rfl,rfl,rfl,rfl,rfl,rfl,rfl,trivial⟩ ⟨rfl,rfl,trivial⟩)
                 | (exact ζl (
                     ⟨(i+1,L2.set m.src.toNat d,true),ζe hm,hP.set hm hd he (by omega) (by first|omega|(simp at hb72;omega)) (by omega)⟩
                     ) (by dsimp only;omega) ⟨rfl,rfl,rfl,rfl,rfl,rfl,rfl,trivial⟩ ⟨rfl,rfl,trivial⟩)
                 | (exact ζl (
                     ⟨(i+1,L2,fl),ζe hm,hP.skip hm hd he (by first|omega|(simp at hb72;omega))⟩
                     ) (by dsimp only;omega) ⟨rfl,rfl,rfl,rfl,rfl,rfl,rfl,trivial⟩ ⟨rfl,rfl,trivial⟩))
             · first
               |exact Bool.noConfusion hb47
               | (
                refine nav ?_
                (refine ζa ?_<;>refine xL 48 ζd ?_<;>refine xL 49 (ζh 9 Zal) ?_<;>(refine yL 50 (ζs 9 ζj) fun v50 h=>?_;cases h)<;>refine xL 51 (ZcE 13 ζn) ?_<;>(refine yL 52 (ζs 13 ζj) fun v52 h=>?_;cases h)<;>refine xL 10 ζc ?_<;>refine ζb (nav ?_)<;>try dsimp only)
                (refine ζa ?_<;>refine xL 53 (ζh 9 ZaK) ?_<;>(refine yL 54 (ζs 9 ζj) fun v54 h=>?_;cases h)<;>refine xL 55 Zcc ?_<;>refine ζb (nav ?_)<;>try dsimp only)
                (first|refine cCd ?_ ?_|refine cC ?_ ?_)<;>intro hb55
                · first
                  |exact Bool.noConfusion hb55
                  | (
                   have hst:ZcR m d=d+1:=by unfold ZcR;rw [if_pos (by omega)]
                   refine nav ?_
                   (refine ζa ?_<;>refine xL 56 ζd ?_<;>refine xL 57 ζM ?_<;>refine xL 10 ζc ?_<;>refine ζb (nav ?_)<;>try dsimp only)
                   (refine ζa ?_<;>refine xL 58 ζd ?_<;>refine xL 59 (ζh 9 Zac) ?_<;>(refine yL 60 (ζs 9 ζj) fun v60 h=>?_;cases h)<;>refine xL 61 (ZcE 13 ζn) ?_<;>(refine yL 62 (ζs 13 ζj) fun v62 h=>?_;cases h)<;>refine xL 63 ζS ?_<;>refine xL 64 ζd ?_<;>(refine bLd 64 (fun hb64=>?_) (fun hb64=>?_)<;>(first|refine kL 65 ?_|refine xL 65 ζd ?_))<;>(first|refine kL 66 ?_|refine xL 66 ζd ?_)<;>(first|refine kL 67 ?_|refine xL 67 (ζh 9 Zac) ?_)<;>(first|refine kL 68 ?_|(refine yL 68 (ζs 9 ζj) fun v68 h=>?_;cases h))<;>(first|refine kL 69 ?_|refine xL 69 (ZcE 13 ζn) ?_)<;>(first|refine kL 70 ?_|(refine yL 70 (ζs 13 ζj) fun v70 h=>?_;cases h))<;>(first|refine kL 71 ?_|refine xL 71 ζS ?_)<;>refine xL 72 ζF ?_<;>refine ζb (nav ?_)<;>try dsimp only)<;>(
                    (first|refine cCd ?_ ?_|refine cC ?_ ?_)<;>intro hb72
                    · first
                      |exact Bool.noConfusion hb72
                      | (
                       refine nav ?_
                       (refine ζa ?_<;>refine xL 73 ζd ?_<;>refine xL 74 (ζh 9 Zac) ?_<;>(refine yL 75 (ζs 9 ζj) fun v75 h=>?_;cases h)<;>refine xL 76 ζd ?_<;>refine xL 77 (ZcE 13 ζn) ?_<;>refine Zc1 13 ζj Zbq ?_<;>refine ζb (nav ?_)<;>try dsimp only)
                       (refine ζa ?_<;>refine xL 7 ζc ?_<;>refine ζb (nav ?_)<;>try dsimp only)
                       (refine ζa ?_<;>refine xL 78 ζM ?_<;>refine xL 38 ζd ?_<;>refine ζb (nav ?_)<;>try dsimp only)
                       try rw [Nat.mul_one,←List.map_set]
                       first
                        | (exact ζl (
                            ⟨(i+1,L2.set m.src.toNat (d+1),true),ζe hm,hP.set hm hd he (by omega) (by first|omega|(simp at hb72;omega)) (by omega)⟩
                            ) (by dsimp only;omega) ⟨rfl,rfl,rfl,rfl,rfl,rfl,rfl,trivial⟩ ⟨rfl,rfl,trivial⟩)
                        | (exact ζl (
                            ⟨(i+1,L2.set m.src.toNat d,true),ζe hm,hP.set hm hd he (by omega) (by first|omega|(simp at hb72;omega)) (by omega)⟩
                            ) (by dsimp only;omega) ⟨rfl,rfl,rfl,rfl,rfl,rfl,rfl,trivial⟩ ⟨rfl,rfl,trivial⟩)
                        | (exact ζl (
                            ⟨(i+1,L2,fl),ζe hm,hP.skip hm hd he (by first|omega|(simp at hb72;omega))⟩
                            ) (by dsimp only;omega) ⟨rfl,rfl,rfl,rfl,rfl,rfl,rfl,trivial⟩ ⟨rfl,rfl,trivial⟩))
                    · first
                      |exact Bool.noConfusion hb72
                      | (
                       refine nav ?_
                       (refine ζa ?_<;>refine xL 78 ζM ?_<;>refine xL 38 ζd ?_<;>refine ζb (nav ?_)<;>try dsimp only)
                       try rw [Nat.mul_one,←List.map_set]
                       first
                        | (exact ζl (
                            ⟨(i+1,L2.set m.src.toNat (d+1),true),ζe hm,hP.set hm hd he (by omega) (by first|omega|(simp at hb72;omega)) (by omega)⟩
                            ) (by dsimp only;omega) ⟨rfl,rfl,rfl,rfl,rfl,rfl,rfl,trivial⟩ ⟨rfl,rfl,trivial⟩)
                        | (exact ζl (
                            ⟨(i+1,L2.set m.src.toNat d,true),ζe hm,hP.set hm hd he (by omega) (by first|omega|(simp at hb72;omega)) (by omega)⟩
                            ) (by dsimp only;omega) ⟨rfl,rfl,rfl,rfl,rfl,rfl,rfl,trivial⟩ ⟨rfl,rfl,trivial⟩)
                        | (exact ζl (
                            ⟨(i+1,L2,fl),ζe hm,hP.skip hm hd he (by first|omega|(simp at hb72;omega))⟩
                            ) (by dsimp only;omega) ⟨rfl,rfl,rfl,rfl,rfl,rfl,rfl,trivial⟩ ⟨rfl,rfl,trivial⟩))))
                · first
                  |exact Bool.noConfusion hb55
                  | (
                   have hst:ZcR m d=d:=by unfold ZcR;rw [if_neg (by omega)]
                   refine nav ?_
                   (refine ζa ?_<;>refine xL 58 ζd ?_<;>refine xL 59 (ζh 9 Zac) ?_<;>(refine yL 60 (ζs 9 ζj) fun v60 h=>?_;cases h)<;>refine xL 61 (ZcE 13 ζn) ?_<;>(refine yL 62 (ζs 13 ζj) fun v62 h=>?_;cases h)<;>refine xL 63 ζS ?_<;>refine xL 64 ζd ?_<;>(refine bLd 64 (fun hb64=>?_) (fun hb64=>?_)<;>(first|refine kL 65 ?_|refine xL 65 ζd ?_))<;>(first|refine kL 66 ?_|refine xL 66 ζd ?_)<;>(first|refine kL 67 ?_|refine xL 67 (ζh 9 Zac) ?_)<;>(first|refine kL 68 ?_|(refine yL 68 (ζs 9 ζj) fun v68 h=>?_;cases h))<;>(first|refine kL 69 ?_|refine xL 69 (ZcE 13 ζn) ?_)<;>(first|refine kL 70 ?_|(refine yL 70 (ζs 13 ζj) fun v70 h=>?_;cases h))<;>(first|refine kL 71 ?_|refine xL 71 ζS ?_)<;>refine xL 72 ζF ?_<;>refine ζb (nav ?_)<;>try dsimp only)<;>(
                    (first|refine cCd ?_ ?_|refine cC ?_ ?_)<;>intro hb72
                    · first
                      |exact Bool.noConfusion hb72
                      | (
                       refine nav ?_
                       (refine ζa ?_<;>refine xL 73 ζd ?_<;>refine xL 74 (ζh 9 Zac) ?_<;>(refine yL 75 (ζs 9 ζj) fun v75 h=>?_;cases h)<;>refine xL 76 ζd ?_<;>refine xL 77 (ZcE 13 ζn) ?_<;>refine Zc1 13 ζj Zbq ?_<;>refine ζb (nav ?_)<;>try dsimp only)
                       (refine ζa ?_<;>refine xL 7 ζc ?_<;>refine ζb (nav ?_)<;>try dsimp only)
                       (refine ζa ?_<;>refine xL 78 ζM ?_<;>refine xL 38 ζd ?_<;>refine ζb (nav ?_)<;>try dsimp only)
                       try rw [Nat.mul_one,←List.map_set]
                       first
                        | (exact ζl (
                            ⟨(i+1,L2.set m.src.toNat (d+1),true),ζe hm,hP.set hm hd he (by omega) (by first|omega|(simp at hb72;omega)) (by omega)⟩
                            ) (by dsimp only;omega) ⟨rfl,rfl,rfl,rfl,rfl,rfl,rfl,trivial⟩ ⟨rfl,rfl,trivial⟩)
                        | (exact ζl (
                            ⟨(i+1,L2.set m.src.toNat d,true),ζe hm,hP.set hm hd he (by omega) (by first|omega|(simp at hb72;omega)) (by omega)⟩
                            ) (by dsimp only;omega) ⟨rfl,rfl,rfl,rfl,rfl,rfl,rfl,trivial⟩ ⟨rfl,rfl,trivial⟩)
                        | (exact ζl (
                            ⟨(i+1,L2,fl),ζe hm,hP.skip hm hd he (by first|omega|(simp at hb72;omega))⟩
                            ) (by dsimp only;omega) ⟨rfl,rfl,rfl,rfl,rfl,rfl,rfl,trivial⟩ ⟨rfl,rfl,trivial⟩))
                    · first
                      |exact Bool.noConfusion hb72
                      | (
                       refine nav ?_
                       (refine ζa ?_<;>refine xL 78 ζM ?_<;>refine xL 38 ζd ?_<;>refine ζb (nav ?_)<;>try dsimp only)
                       try rw [Nat.mul_one,←List.map_set]
                       first
                        | (exact ζl (
                            ⟨(i+1,L2.set m.src.toNat (d+1),true),ζe hm,hP.set hm hd he (by omega) (by first|omega|(simp at hb72;omega)) (by omega)⟩
                            ) (by dsimp only;omega) ⟨rfl,rfl,rfl,rfl,rfl,rfl,rfl,trivial⟩ ⟨rfl,rfl,trivial⟩)
                        | (exact ζl (
                            ⟨(i+1,L2.set m.src.toNat d,true),ζe hm,hP.set hm hd he (by omega) (by first|omega|(simp at hb72;omega)) (by omega)⟩
                            ) (by dsimp only;omega) ⟨rfl,rfl,rfl,rfl,rfl,rfl,rfl,trivial⟩ ⟨rfl,rfl,trivial⟩)
                        | (exact ζl (
                            ⟨(i+1,L2,fl),ζe hm,hP.skip hm hd he (by first|omega|(simp at hb72;omega))⟩
                            ) (by dsimp only;omega) ⟨rfl,rfl,rfl,rfl,rfl,rfl,rfl,trivial⟩ ⟨rfl,rfl,trivial⟩))))))
          · first
            |exact Bool.noConfusion hb39
            | (
             have hL2:L2=Zbh a (j+1):=hP.done (by omega)
             have hms:sumF a.n.toNat (Zbh a (j+1))+(if fl then 1 else 0)<sumF a.n.toNat (Zbh a j)+(if ag then 1 else 0):=by rw [show ag=true from hb34];exact hP.less hL2
             refine nav ?_
             rw [hL2]
             refine ζl (
              ⟨(j+1,fl),fun hf=>by
                have h1:=hP.no hf
                rw [hL2] at h1
                show passF a.moves (Zbh a (j+1))=Zbh a (j+1)
                rw [h1]
                exact h1⟩
              ) (hms) ⟨rfl,rfl,rfl,rfl,trivial⟩ ⟨rfl,rfl,trivial⟩))
       · first
         |exact Bool.noConfusion hb34
         | (
          refine nav ?_
          (refine ζa ?_<;>refine xL 79 ζd ?_<;>refine xL 2 ζc ?_<;>refine ζb (nav ?_)<;>try dsimp only)
          refine ZcO 13 (Tryz.results139) rfl rfl ?_
          rw [ZxB (hag (by simpa using hb34))])))
theorem Zcp:ElT Tryz.prog 139 4 1 1 (.bool false):=⟨Tryz.underlying139,by kernel_rfl,rfl,by decide⟩
theorem ZiF:ElT Tryz.prog 194 37 1 24 (.slice none 0 0):=⟨Tryz.underlying194,by kernel_rfl,rfl,by decide⟩
theorem ζ1:ElT Tryz.prog 37 93 3 24 (.agg #[(.int .i64 0),(.int .i64 0),(.int .i64 0)]):=⟨Tryz.underlying37,by kernel_rfl,rfl,by decide⟩
theorem ZiG:Zbj Tryz.prog 196=some ((.agg #[(.int .i64 0),(.slice none 0 0),(.slice none 0 0)]),([0,1,2]:List Nat).map fun o=>(o,1)):=by kernel_rfl
theorem ZaP:(Tryz.prog.info? 37).map (·.size)=some 1:=by kernel_rfl
theorem ZuQ:(Tryz.prog.info? 4).map (·.size)=some 1:=by kernel_rfl
def Zwt (e:Nat) (l:List Mv):PV:= .own e 3 l.length (l.flatMap cMv)
theorem Zsb (e:Nat) (l:List Mv):share (Zwt e l)=pMvs l:=by
 unfold Zwt
 rw [share,ζ3,List.map_flatMap];rfl
def Zdw (ms:List Mv) (s:Nat):List Mv:=ms.filter fun m=>decide (m.src=(s:Int))
def Zc9 (e n:Nat) (ms:List Mv):List PV:=(List.range n).map fun s=>Zwt e (Zdw ms s)
theorem Zbx (e n:Nat) (ms:List Mv):(Zc9 e n ms).length=n:=by unfold Zc9;simp
theorem Zfj (e:Nat) {n s:Nat} (ms:List Mv) (h:s<n):(Zc9 e n ms)[s]? =some (Zwt e (Zdw ms s)):=by
 unfold Zc9;rw [List.getElem?_map,List.getElem?_range h];rfl
theorem ZmP (e:Nat) {n:Nat} {ms:List Mv} {m:Mv} (h0:0≤m.src) (h:m.src<n):(Zc9 e n ms).set m.src.toNat (Zwt e (Zdw ms m.src.toNat++[m]))=Zc9 e n (ms++[m]):=by
 apply List.ext_getElem?
 intro s
 rcases Nat.lt_or_ge s n with hs|hs
 · rw [Zfj e _ hs]
   by_cases e1:m.src.toNat=s
   · subst e1
     rw [List.getElem?_set_self (by rw [Zbx];exact hs)]
     congr 2
     unfold Zdw
     rw [List.filter_append]
     congr 1
     simp only [List.filter_cons,List.filter_nil]
     rw [decide_eq_true (show m.src=((m.src.toNat:Nat):Int) by omega)];rfl
   · rw [List.getElem?_set_ne e1,Zfj e _ hs]
     congr 2
     unfold Zdw
     rw [List.filter_append]
     simp only [List.filter_cons,List.filter_nil]
     rw [decide_eq_false (show ¬m.src=(s:Int) by omega)];simp
 · rw [List.getElem?_eq_none (by rw [List.length_set,Zbx];exact hs),List.getElem?_eq_none (by rw [Zbx];exact hs)]
theorem ZuR (e n:Nat):∀(i:Nat) (p p':PV),(List.replicate n (PV.val (.slice none 0 0)))[i]? =some p→(Zc9 e n [])[i]? =some p'→Zze p p':=fun i p p' h1 h2=>by
 have hi:=ζe h2
 rw [Zbx] at hi
 rw [Zfj e _ hi] at h2
 rw [List.getElem?_replicate,if_pos hi] at h1
 cases h1;cases h2
 exact .inr ⟨rfl,e,3,rfl⟩
theorem ZmQ (ms:List Mv) (s:Nat):(Zdw ms s).length≤ms.length:=List.length_filter_le _ _
def Zih (a:Aut) (k:Nat):List PV:=(List.range a.n.toNat).map fun s=>ζO ((a.fin.take k).any fun t=>decide (t=(s:Nat)))
theorem Zd1 (a:Aut) (k:Nat):(Zih a k).length=a.n.toNat:=by unfold Zih;simp
theorem ZjE {a:Aut} {k s:Nat} (h:s<a.n.toNat):(Zih a k)[s]? =some (ζO ((a.fin.take k).any fun t=>decide (t=(s:Nat)))):=by
 unfold Zih;rw [List.getElem?_map,List.getElem?_range h];rfl
theorem Zp9 {a:Aut} {k:Nat} {t:Int} (ht:a.fin[k]? =some t) (h0:0≤t):(Zih a k).set t.toNat (ζO true)=Zih a (k+1):=by
 apply List.ext_getElem?
 intro s
 rcases Nat.lt_or_ge s a.n.toNat with hs|hs
 · rw [ZjE hs]
   rw [ζH ht,List.any_append]
   simp only [List.any_cons,List.any_nil,Bool.or_false]
   by_cases e:t.toNat=s
   · subst e
     rw [List.getElem?_set_self (by rw [Zd1];exact hs),decide_eq_true (show t=((t.toNat:Nat):Int) by omega),Bool.or_true]
   · rw [List.getElem?_set_ne e,ZjE hs,decide_eq_false (show ¬t=(s:Int) by omega),Bool.or_false]
 · rw [List.getElem?_eq_none (by rw [List.length_set,Zd1];exact hs),List.getElem?_eq_none (by rw [Zd1];exact hs)]
theorem Zqa (a:Aut):List.replicate a.n.toNat (PV.val (.bool false))=Zih a 0:=by
 apply List.ext_getElem?
 intro s
 rcases Nat.lt_or_ge s a.n.toNat with hs|hs
 · rw [ZjE hs,List.getElem?_replicate,if_pos hs];rfl
 · rw [List.getElem?_eq_none (by rw [List.length_replicate];exact hs),List.getElem?_eq_none (by rw [Zd1];exact hs)]
theorem ZuS (e0 e1 e2:Nat) (a:Aut) {k1 k2:Nat} (h1:a.moves.length≤k1) (h2:a.fin.length≤k2):ZcW [pInt a.syms,PV.own e0 1 a.n.toNat (Zc9 e1 a.n.toNat (a.moves.take k1)),PV.own e2 1 a.n.toNat (Zih a k2)]=[pInt a.syms,ZmG a,Zxx a]:=by
 rw [List.take_of_length_le h1]
 simp only [ZcW,share]
 congr 1
 congr 1
 · unfold ZmG Zc9
   rw [ζ3,List.map_map]
   congr 1
   exact List.map_congr_left fun s _=>Zsb e1 _
 · congr 1
   unfold Zxx Zih
   rw [ζ3,List.map_map,List.take_of_length_le h2];rfl
theorem ZuT (e:Nat) (L:List Mv) (x:Mv):PV.own e 3 (L.length+1) (L.flatMap cMv++cMv x)=Zwt e (L++[x]):=by unfold Zwt;simp
set_option maxHeartbeats 2000000 in
theorem Zda (a:Aut) (h:AOk a):AF Tryz.prog 110 [ζW a] (· =pGr a):=by
 have hn0:=h.n0
 have hn1:=h.n1
 have hml:=h.ml
 have hfl:=h.fl
 rw [Zwr h.n0]
 refine AF.of_body 59 Tryz.func110 rfl Tryz.ntmps110 (Nat.le_of_ble_eq_true rfl) ?_
 intro w0 M0 vs hl hv
 obtain ⟨v0,rfl⟩:=ZdL hl
 clear hl hv
 refine nav ?_
 (refine ζa ?_<;>refine ζE 1 5 fun h1=>?_<;>refine xL 2 ζc ?_<;>refine ζb (nav ?_)<;>try dsimp only)
 (refine ζ4 (fun i=>([]:List Nat).elem i) [1] (by kernel_rfl) ?_<;>refine xD 0 8 rfl (ζh 1 ζ2) ?_<;>(refine yD 1 9 rfl (ζs 1 ζj) fun v9 h=>?_;cases h)<;>refine xD 2 10 rfl (ζh 1 ζP) ?_<;>(refine yD 3 11 rfl (ζs 1 ζj) fun v11 h=>?_;cases h)<;>refine xD 5 13 rfl (ζh 1 ζP) ?_<;>(refine yD 6 14 rfl (ζs 1 ζj) fun v14 h=>?_;cases h)<;>(refine Za0 4 7 (by kernel_rfl) ?_ ?_;rotate_right;(focus ((refine ζk rfl fun w9 M9 N9 DQ back=>?_)<;>refine Ze6 15 Zcp fun h15 ho15=>?_<;>refine ζb (back _ (nrm ?_))<;>(refine ζo 4 (by kernel_rfl) ?_)<;>(refine ζk rfl fun w9 M9 N9 DQ back=>?_)<;>refine Ze6 12 ZiF fun h12 ho12=>?_<;>refine ζb (back _ (nrm ?_))<;>refine xE 8 16 rfl (ζB ZiG) ?_<;>(refine ζo 9 (by kernel_rfl) ?_)<;>(refine ζk rfl fun w9 M9 N9 DQ back=>?_)<;>refine ζE 17 3 fun h17=>?_<;>refine ζb (back _ (nrm ?_))<;>(refine ζo 10 (by kernel_rfl) ?_)<;>(refine ζk rfl fun w9 M9 N9 DQ back=>?_)<;>refine xL 3 ζc ?_<;>refine ζb (back _ (nrm ?_))));rotate_right;(focus ((refine ζk rfl fun w9 M9 N9 DQ back=>?_)<;>refine Ze6 12 ZiF fun h12 ho12=>?_<;>refine ζb (back _ (nrm ?_))<;>(refine ζo 7 (by kernel_rfl) ?_)<;>(refine ζk rfl fun w9 M9 N9 DQ back=>?_)<;>refine Ze6 15 Zcp fun h15 ho15=>?_<;>refine ζb (back _ (nrm ?_))<;>refine xE 8 16 rfl (ζB ZiG) ?_<;>(refine ζo 9 (by kernel_rfl) ?_)<;>(refine ζk rfl fun w9 M9 N9 DQ back=>?_)<;>refine ζE 17 3 fun h17=>?_<;>refine ζb (back _ (nrm ?_))<;>(refine ζo 10 (by kernel_rfl) ?_)<;>(refine ζk rfl fun w9 M9 N9 DQ back=>?_)<;>refine xL 3 ζc ?_<;>refine ζb (back _ (nrm ?_)))))<;>refine ZaM (by kernel_rfl) (nav ?_)<;>try dsimp only)<;>(
  refine ζv (Zeh (l:=12) (Zc9 93 a.n.toNat []) rfl (by rw [Zbx,List.length_replicate]) (ZuR _ _)) fun _=>?_
  rw [Zqa a]
  (refine ζa ?_<;>refine xL 18 (ζh 1 ζw) ?_<;>(refine yL 19 (ζs 1 ζA) fun v19 h=>?_;cases h)<;>refine xL 20 (ζV ζG) ?_<;>refine xL 21 ζd ?_<;>refine ζb (nav ?_)<;>try dsimp only)
  refine ζy (ι:={q:Nat//q≤a.moves.length}) (fun k=>⟨[(1,_,_),(2,_,_),(3,_,_),(19,_,_),(20,_,_),(21, .int .i64 k.1,pInt k.1)],[(1,_,_),(15,_,_),(17,h17, .own 196 3 1 [pInt a.syms, .val h12, .val h15]),(12,h12, .own 37 1 a.n.toNat (Zc9 93 a.n.toNat (a.moves.take k.1)))]⟩) (fun k=>a.moves.length-k.1) ⟨0,Nat.zero_le _⟩ (fun a w H=>H.weaken ⟨rfl,rfl,rfl,rfl,rfl,rfl,trivial⟩ ⟨rfl,rfl,rfl,rfl,trivial⟩) ?_
  rintro ⟨k,hk⟩
  dsimp only
  refine nav ?_
  (refine ζa ?_<;>refine xL 22 ζS ?_<;>refine ζb (nav ?_)<;>try dsimp only)
  (first|refine cCd ?_ ?_|refine cC ?_ ?_)<;>intro hb22
  · first
    |exact Bool.noConfusion hb22
    | (
     obtain ⟨m,hm⟩:=ζm (show k<a.moves.length by omega)
     have e1:=ζ8 ζ0 a.moves k m hm
     have e2:=Zaq ζ0 hm
     have hmv:=h.mv m (List.mem_of_getElem? hm)
     have hi:m.src.toNat<a.n.toNat:=by omega
     refine nav ?_
     (refine ζa ?_<;>refine xL 23 (ζJ ζG) ?_<;>(refine yL 24 (Zbm ζR) fun v24 h=>?_;cases h)<;>refine ζr [(.int .i64 0),(.int .i64 0),(.int .i64 0)] 3 5 Zb5 fun h5=>?_<;>refine ζC 5 ζR ?_<;>refine ζb (nav ?_)<;>try dsimp only)
     refine ζv (ZeK (l:=12) (l':=201) (j:=m.src.toNat) rfl (Zfj _ _ hi) rfl rfl) fun i=>?_
     obtain ⟨m1,hm1⟩:=i
     dsimp only
     have e3:((Zc9 93 a.n.toNat (a.moves.take k)).set m.src.toNat (.val m1))[m.src.toNat*1]? =some (.val m1):=by rw [Nat.mul_one,List.getElem?_set_self (by rw [Zbx];exact hi)]
     have e4:((Zc9 93 a.n.toNat (a.moves.take k)).set m.src.toNat (.val m1)).length=a.n.toNat:=by rw [List.length_set,Zbx]
     have e5:=ZmQ (a.moves.take k) m.src.toNat
     rw [List.length_take] at e5
     (refine ζ4 (fun i=>([18]:List Nat).elem i) [5,12,17] (by kernel_rfl) ?_<;>refine xD 0 25 rfl ζd ?_<;>refine xD 1 26 rfl (Zrf 17) ?_<;>refine xD 2 27 rfl (ζh 17 Zbw) ?_<;>(refine yD 3 28 rfl (ζs 17 Zcn) fun v28 h=>?_;cases h)<;>refine xD 4 29 rfl (ζh 5 Zac) ?_<;>(refine yD 5 30 rfl (ζs 5 ζj) fun v30 h=>?_;cases h)<;>refine xD 6 31 rfl ζd ?_<;>refine xD 7 32 rfl (Zrf 17) ?_<;>refine xD 8 33 rfl (ζh 17 Zbw) ?_<;>(refine yD 9 34 rfl (ζs 17 Zcn) fun v34 h=>?_;cases h)<;>refine xD 10 35 rfl (ζh 5 Zac) ?_<;>(refine yD 11 36 rfl (ζs 5 ζj) fun v36 h=>?_;cases h)<;>refine xD 12 37 rfl (ZcE 12 Zco) ?_<;>(refine yD 13 38 rfl (ζs 12 ζA) fun v38 h=>?_;cases h)<;>(refine yE 14 39 rfl (ζp 5 ζR) fun v39 h=>?_;cases h)<;>(refine ζo 15 (by kernel_rfl) ?_)<;>(refine ζk rfl fun w9 M9 N9 DQ back=>?_)<;>refine Zar 40 ζ1 fun h40 ho40=>?_<;>refine ζb (back _ (nrm ?_))<;>(refine ζo 16 (by kernel_rfl) ?_)<;>(refine ζk rfl fun w9 M9 N9 DQ back=>?_)<;>refine ζY 201 40 41 ζ1 fun h41 ho41=>?_<;>refine ζb (back _ (nrm ?_))<;>refine xE 17 42 rfl (ZcE 12 Zco) ?_<;>(refine ζo 18 (by kernel_rfl) ?_)<;>(refine Zmq rfl rfl (by kernel_rfl) fun DQ back=>?_)<;>refine Zc1 12 ζA ZaP ?_<;>refine ζb (back _ (nav ?_))<;>try dsimp only)
     (refine ζa ?_<;>refine xL 43 ζM ?_<;>refine xL 21 ζd ?_<;>refine ζb (nav ?_)<;>try dsimp only)
     refine ZbJ (ZAK (l:=12) (l':=41) (j:=m.src.toNat) rfl (by rw [Nat.mul_one];exact List.getElem?_set_self (by rw [List.length_set,Zbx];exact hi)) rfl rfl) fun _=>?_
     rw [Nat.mul_one,List.set_set,List.set_set]
     rw [show List.take 3 (List.drop 0 (Zkr (List.map PV.val [Value.int IntKind.i64 0,Value.int IntKind.i64 0,Value.int IntKind.i64 0]) 0 (cMv m)))=cMv m from rfl]
     rw [show PV.own 93 3 ((Zdw (a.moves.take k) m.src.toNat).length+1) ((Zdw (a.moves.take k) m.src.toNat).flatMap cMv++cMv m)=Zwt 93 (Zdw (a.moves.take k) m.src.toNat++[m]) from ZuT _ _ _]
     rw [ZmP _ (by omega) (by omega),←ζH hm]
     refine ζl (
      ⟨k+1,ζe hm⟩
      ) (by dsimp only;omega) ⟨rfl,rfl,rfl,rfl,rfl,rfl,trivial⟩ ⟨rfl,rfl,rfl,rfl,trivial⟩)
  · first
    |exact Bool.noConfusion hb22
    | (
     refine nav ?_
     (refine ζa ?_<;>refine xL 44 (ζh 1 ζ9) ?_<;>(refine yL 45 (ζs 1 ζx) fun v45 h=>?_;cases h)<;>refine xL 46 (ζV ζn) ?_<;>refine xL 47 ζd ?_<;>refine ζb (nav ?_)<;>try dsimp only)
     refine ζy (ι:={q:Nat//q≤a.fin.length}) (fun k=>⟨[(1,_,_),(2,_,_),(3,_,_),(45,_,_),(46,_,_),(47, .int .i64 k.1,pInt k.1)],[(1,_,_),(12,_,_),(17,h17, .own 196 3 1 [pInt a.syms, .val h12, .val h15]),(15,h15, .own 4 1 a.n.toNat (Zih a k.1))]⟩) (fun k=>a.fin.length-k.1) ⟨0,Nat.zero_le _⟩ (fun a w H=>H.weaken ⟨rfl,rfl,rfl,rfl,rfl,rfl,trivial⟩ ⟨rfl,rfl,rfl,rfl,trivial⟩) ?_
     rintro ⟨k8,hk8⟩
     dsimp only
     refine nav ?_
     (refine ζa ?_<;>refine xL 48 ζS ?_<;>refine ζb (nav ?_)<;>try dsimp only)
     (first|refine cCd ?_ ?_|refine cC ?_ ?_)<;>intro hb48
     · first
       |exact Bool.noConfusion hb48
       | (
        obtain ⟨t,ht⟩:=ζm (show k8<a.fin.length by omega)
        have e1:=Zaf (f:=pInt) ht
        have ht2:=h.fi t (List.mem_of_getElem? ht)
        have e6:=Zd1 a k8
        refine nav ?_
        (refine ζa ?_<;>refine xL 49 (ζJ ζn) ?_<;>(refine yL 50 (Za3 ζj) fun v50 h=>?_;cases h)<;>refine xL 7 ζc ?_<;>refine ζb (nav ?_)<;>try dsimp only)
        (refine ζa ?_<;>refine xL 51 ζd ?_<;>refine xL 52 (Zrf 17) ?_<;>refine xL 53 (ζh 17 ZcJ) ?_<;>(refine yL 54 (ζs 17 ZaO) fun v54 h=>?_;cases h)<;>refine xL 55 ζd ?_<;>refine xL 56 (ZcE 15 Zbg) ?_<;>refine Zc1 15 Zds ZuQ ?_<;>refine ζb (nav ?_)<;>try dsimp only)
        (refine ζa ?_<;>refine xL 57 ζM ?_<;>refine xL 47 ζd ?_<;>refine ζb (nav ?_)<;>try dsimp only)
        rw [Nat.mul_one,Zp9 ht ht2.1]
        refine ζl (
         ⟨k8+1,ζe ht⟩
         ) (by dsimp only;omega) ⟨rfl,rfl,rfl,rfl,rfl,rfl,trivial⟩ ⟨rfl,rfl,rfl,rfl,trivial⟩)
     · first
       |exact Bool.noConfusion hb48
       | (
        refine nav ?_
        (refine ζa ?_<;>refine xL 58 ζd ?_<;>refine xL 2 ζc ?_<;>refine ζb (nav ?_)<;>try dsimp only)
        refine Za7 (ZAK (l:=17) (l':=12) (j:=1) rfl rfl rfl rfl) fun _=>?_
        refine Za7 (ZAK (l:=17) (l':=15) (j:=2) rfl rfl rfl rfl) fun _=>?_
        refine Za7 (ZfF (l:=17) (t:=2) (j:=0) rfl Nat.one_pos rfl) fun _=>?_
        refine ζt (Tryz.results110) rfl ?_
        exact congrArg (PV.sptr 0) (ZuS _ _ _ a (by omega) (by omega)))))
theorem Zhl:AggT Tryz.prog 182 2=true:=by kernel_rfl
theorem ζg:AggT Tryz.prog 39 5=true:=by kernel_rfl
theorem Zbi:ElT Tryz.prog 117 36 1 24 (.slice none 0 0):=⟨Tryz.underlying117,by kernel_rfl,rfl,by decide⟩
theorem Zdb:ElT Tryz.prog 183 182 2 48 (.agg #[(.slice none 0 0),(.slice none 0 0)]):=⟨Tryz.underlying183,by kernel_rfl,rfl,by decide⟩
theorem Zd2:FldT Tryz.prog 182 0 0=true:=by kernel_rfl
theorem Zd3:FldT Tryz.prog 182 1 1=true:=by kernel_rfl
theorem Zam:SlT Tryz.prog 117 36 1=true:=by kernel_rfl
theorem Zcq:SlT Tryz.prog 183 182 2=true:=by kernel_rfl
theorem ZfQ:Zbj Tryz.prog 182=some ((.agg #[(.slice none 0 0),(.slice none 0 0)]),([0,1]:List Nat).map fun o=>(o,1)):=by kernel_rfl
theorem Zqb:ZeroT Tryz.prog 182 (.agg #[(.slice none 0 0),(.slice none 0 0)]):=by unfold ZeroT;kernel_rfl
def cPf (p:Pf):List PV:=[pInts p.1,pInts p.2]
theorem Zsc (p:Pf):(cPf p).length=2:=rfl
theorem Zsd (e:Nat) (L:List Pf) (x:Pf):PV.own e 2 (L.length+1) (L.flatMap cPf++cPf x)= .own e 2 (L++[x]).length ((L++[x]).flatMap cPf):=by simp
theorem Zwu (e:Nat) (L:List (List Int)) (x:List Int):PV.own e 1 (L.length+1) (L.map pInts++[pInts x])= .own e 1 (L++[x]).length ((L++[x]).map pInts):=by simp
theorem ZmR (e n:Nat) (l:List (List Int)) (hn:n=l.length):share (.own e 1 n (l.map pInts))=ZkH l:=by
 subst hn
 rw [share,ζ3,List.map_map]
 unfold ZkH
 congr 1
def ZzO (a:Aut) (n:Int) (p:PV):Prop:=
 (ζ5 a=false∧p= .tup [.sl 0 [],pInt 1])∨(ζ5 a=true∧(n<0∨200<n)∧p= .tup [.sl 0 [],pInt 2])∨(ζ5 a=true∧0≤n∧n≤200∧ZAq a n.toNat∧p= .tup [.sl 0 [],pInt 5])∨(ζ5 a=true∧0≤n∧n≤200∧¬ZAq a n.toNat∧p= .tup [ZkH (ZiC a n.toNat (n.toNat+1)),pInt 0])
theorem ZuU (a:Aut) (n:Int) (p:Pf) (c:Nat):(Zid a n p c).length≤1:=by unfold Zid;split<;>simp
theorem Zhm (a:Aut) (n:Int) (p:Pf):∀c,((List.range c).flatMap (Zid a n p)).length≤c
 |0=>by simp
 | c+1=>by
   rw [ZfO,List.length_append]
   have:=Zhm a n p c
   have:=ZuU a n p c
   omega
theorem ZzP {a:Aut} (h:AOk a) (n k:Nat):∀p∈lvP a n k,InS a p.2∧p.2.length≤2000:=fun p hp=>by
 rw [Zr4 h.mi h.st] at hp
 obtain ⟨q,hq,rfl⟩:=List.mem_map.1 hp
 have h1:=Zwq h.mi h.st n k q hq
 refine ⟨ZjB h1 _ _,?_⟩
 have h2:Srt q.2:=by
  cases k with
  | zero=>
    simp only [lvR,List.mem_singleton] at hq
    subst hq
    exact Zcw h.mi h.st
  | succ k=>
    rw [lvR] at hq
    obtain ⟨r,_,hr⟩:=List.mem_flatMap.1 hq
    obtain ⟨c,_,hc⟩:=List.mem_flatMap.1 hr
    unfold ZzL at hc
    split at hc
    · simp only [List.mem_singleton] at hc
      subst hc
      exact Zcw h.mi (Zbr h.mi c _)
    · simp at hc
 have h3:Srt (Zbn q.2 (Zcb a) ((n:Int)-k)):=ZjC (a:=a) h2 _ _
 have h4:=nodup_len a.n.toNat _ (h3.imp fun h=>by omega) fun s hs=>by
  have:=ZjB h1 (Zcb a) ((n:Int)-k) s hs
  have:=h.n0
  omega
 have:=h.n1
 show (Zbn q.2 (Zcb a) ((n:Int)-k)).length≤2000
 omega
theorem ZoA {a:Aut} {n:Nat}:∀k,∀p∈lvP a n k,p.1.length=k
 | 0,p,hp=>by
   simp only [lvP,List.mem_singleton] at hp
   subst hp;rfl
 | k +1,p,hp=>by
   rw [lvP] at hp
   obtain ⟨r,hr,hr2⟩:=List.mem_flatMap.1 hp
   obtain ⟨c,_,hc⟩:=List.mem_flatMap.1 hr2
   unfold Zid at hc
   split at hc
   · simp at hc
   · simp only [List.mem_singleton] at hc
     subst hc
     rw [List.length_append,ZoA k r hr];rfl
set_option maxHeartbeats 4000000 in
theorem ZuV (a : Aut) (n : Int):AF Tryz.prog 91 [ζW a,pInt n] (ZzO a n):=by
 refine AF.of_body 109 Tryz.func91 rfl Tryz.ntmps91 (Nat.le_of_ble_eq_true rfl) ?_
 intro w0 M0 vs hl hv
 obtain ⟨v0,v1,rfl⟩:=Zb3 hl
 obtain rfl:=hv 1 _ _ rfl rfl
 clear hl hv
 refine nav ?_
 (refine ζa ?_<;>refine ζE 2 5 fun h2=>?_<;>refine xL 4 ζc ?_<;>refine xL 5 ζc ?_<;>refine ζb (nav ?_)<;>try dsimp only)
 (refine ζa ?_<;>(refine yL 16 (ζp 2 ζg) fun v16 h=>?_;cases h)<;>(refine cS 17 (cA Tryz.call107 (ZaI a)) fun v17 h=>?_;cases h)<;>refine xL 18 Zak ?_<;>refine xL 15 ζc ?_<;>refine ζb (nav ?_)<;>try dsimp only)
 (first|refine cCd ?_ ?_|refine cC ?_ ?_)<;>intro hb15
 · first
   |exact Bool.noConfusion hb15
   | (
    refine nav ?_
    (refine ζa ?_<;>refine xL 4 ζc ?_<;>refine xL 5 ζc ?_<;>refine ζb (nav ?_)<;>try dsimp only)
    refine Za7 (Zcj (t:=4) rfl) fun _=>?_
    exact Za8 (Tryz.results91) rfl rfl (.inl ⟨by simpa using hb15,rfl⟩))
 · first
   |exact Bool.noConfusion hb15
   | (
    have hok:ζ5 a=true:=by simpa using hb15
    have hA:=Zd0 hok
    have hn1:=hA.n1
    have hs1:=hA.s1
    have hs0:=hA.s0
    refine nav ?_
    (refine ζa ?_ <;> refine xL 20 ζd ?_<;>refine xL 21 ζS ?_<;>refine xL 22 ζd ?_<;>(refine bLd 22 (fun hb22=>?_) (fun hb22=>?_)<;>(first|refine kL 23 ?_|refine xL 23 ζd ?_))<;>(first|refine kL 24 ?_|refine xL 24 ZaH ?_)<;>refine xL 25 ζF ?_<;>refine xL 19 ζc ?_<;>refine ζb (nav ?_)<;>try dsimp only)<;>(
     (first|refine cCd ?_ ?_|refine cC ?_ ?_)<;>intro hb19
     · first
       |exact Bool.noConfusion hb19
       | (
        refine nav ?_
        (refine ζa ?_<;>refine xL 4 ζc ?_<;>refine xL 5 ζc ?_<;>refine ζb (nav ?_)<;>try dsimp only)
        refine Za7 (Zcj (t:=4) rfl) fun _=>?_
        exact Za8 (Tryz.results91) rfl rfl (.inr (.inl ⟨hok,by first|omega|(simp at hb19;omega),rfl⟩)))
     · first
       |exact Bool.noConfusion hb19
       | (
        have hnb:0≤n∧n≤200:=by simp at hb19;omega
        obtain ⟨N,rfl⟩:∃N:Nat,n=(N:Int):=⟨n.toNat,by omega⟩
        have hfl:=(Zjz a).len
        have hsb:Za1 a a.start=Za1 a a.start:=rfl
        have hcl:=ZdS hA.mi hA.st
        have hci:=Zen hA.mi hA.st
        refine nav ?_
        (refine ζ4 (fun i=>([]:List Nat).elem i) [2] (by kernel_rfl) ?_<;>(refine yD 0 26 rfl (ζp 2 ζg) fun v26 h=>?_;cases h)<;>(refine yD 2 28 rfl (ζp 2 ζg) fun v28 h=>?_;cases h)<;>(refine ζo 1 (by kernel_rfl) ?_)<;>(refine ζk rfl fun w9 M9 N9 DQ back=>?_)<;>(refine cS 27 (cA Tryz.call110 (Zda a hA)) fun v27 h=>?_;cases h)<;>refine ζb (back _ (nrm ?_))<;>(refine ζo 3 (by kernel_rfl) ?_)<;>(refine ζk rfl fun w9 M9 N9 DQ back=>?_)<;>(refine cO 29 (cA Tryz.call139 (Zk8 a hA)) fun v29 ho29=>?_;refine ζq (En.freeze (l:=29) (t:=29) rfl rfl) fun _=>?_;rw [ζL _ _ _ hfl.symm])<;>refine ζb (back _ (nrm ?_))<;>refine xE 4 6 rfl ζc ?_<;>refine xE 5 7 rfl ζc ?_<;>refine ZaM (by kernel_rfl) (nav ?_)<;>try dsimp only)
        (refine ζa ?_<;>refine xL 8 ζc ?_<;>refine ζb (nav ?_)<;>try dsimp only)
        (refine ζa ?_<;>refine xL 30 ζd ?_<;>refine xL 31 (ζh 2 Zab) ?_<;>(refine yL 32 (ζs 2 ζx) fun v32 h=>?_;cases h)<;>(refine cO 33 (cA Tryz.call111 (Zel a a.start hn1 hA.mi hA.st)) fun v33 ho33=>?_;refine ζq (En.freeze (l:=33) (t:=33) rfl rfl) fun _=>?_;rw [ζL _ _ _ rfl])<;>refine xL 34 ζd ?_<;>refine xL 35 ζd ?_<;>(refine cO 36 (cA Tryz.call140 (ZmF (Za1 a a.start) (Zcb a) N (by omega) (fun s hs=>by have:=hci s hs;omega))) fun v36 ho36=>?_;refine ζq (En.freeze (l:=36) (t:=36) rfl rfl) fun _=>?_;rw [ζL _ _ _ rfl])<;>refine xL 37 (ζB ZfQ) ?_<;>refine Zar 38 Zdb fun h38 ho38=>?_<;>refine xL 9 ζc ?_<;>refine ζb (nav ?_)<;>try dsimp only)
        refine ζv (Zeh (l:=38) [.own 3 1 0 [],pInts (Zbn (Za1 a a.start) (Zcb a) N)] rfl rfl (fun i p p' h1 h2=>by
         match i with
         |0=>cases h1;cases h2;exact .inr ⟨rfl,_,_,rfl⟩
         |1=>cases h1;cases h2;exact .inl rfl
         |i+2=>simp at h2)) fun _=>?_
        refine ζv (focus (l:=38) (l':=300) (j:=0) rfl rfl rfl) fun v300=>?_
        refine ζv (Zaj (l:=38) (l':=300) (j:=0) rfl rfl rfl rfl) fun _=>?_
        dsimp only [List.set]
        refine ζv (Zb2 200 36 1 rfl) fun _=>?_
        refine ζv (ζD (l:=38) 201 rfl rfl) fun _=>?_
        have hL0:[share (PV.own 3 1 0 []),pInts (Zbn (Za1 a a.start) (Zcb a) N)]=(lvP a N 0).flatMap cPf:=rfl
        rw [hL0]
        refine ζy (ι:={q:Nat×Value×Value//q.1≤N+1∧(∀j,j≤q.1→(lvP a N j).length≤2000)∧(ZiC a N q.1).length≤q.1*2000∧q.2.1.oneCell'=true∧q.2.2.oneCell'=true}) (fun k=>⟨[(2,_,_),(6,_,_),(7,_,_),(1, .int .i64 ((N:Int)-(k.1.1:Nat)),pInt ((N:Int)-(k.1.1:Nat))),(8,k.1.2.1, .val k.1.2.1),(9,k.1.2.2, .val k.1.2.2)],[(2,_,_),(200,k.1.2.1, .own 36 1 (ZiC a N k.1.1).length ((ZiC a N k.1.1).map pInts)),(201,k.1.2.2, .own 182 2 (lvP a N k.1.1).length ((lvP a N k.1.1).flatMap cPf))]⟩) (fun k=>N+1-k.1.1) ⟨(0, .slice none 0 0,h38),Nat.zero_le _,fun j hj=>by have h9:j=0:=(by dsimp only at hj;omega);subst h9;simp [lvP],by simp [ZiC],rfl,ho38⟩ (fun a w H=>H.weaken ⟨rfl,rfl,rfl,rfl,rfl,rfl,trivial⟩ ⟨rfl,rfl,rfl,trivial⟩) ?_
        rintro ⟨⟨lev,hO,hL⟩,hk,hlv,hsm,hoO,hoL⟩
        dsimp only
        dsimp only at hk hlv hsm hoO hoL
        refine nav ?_
        (refine ζa ?_<;>refine xL 39 ζd ?_<;>refine xL 40 Zcc ?_<;>refine ζb (nav ?_)<;>try dsimp only)
        (first|refine cCd ?_ ?_|refine cC ?_ ?_)<;>intro hb40
        · first
          |exact Bool.noConfusion hb40
          | (
           have hkN:lev≤N:=by omega
           have hlk:=hlv lev (Nat.le_refl _)
           have hsm2:(ZiC a N lev).length≤402000:=by omega
           have hlin:=ZzP hA N lev
           have hlw:=ZoA (a:=a) (n:=N) lev
           refine nav ?_
           (refine ζa ?_<;>refine xL 10 ζc ?_<;>refine ζb (nav ?_)<;>try dsimp only)
           (refine ζa ?_<;>refine xL 43 ζd ?_<;>refine xL 44 (ZaC 201 Zcq) ?_<;>refine xL 45 ζd ?_<;>refine ζb (nav ?_)<;>try dsimp only)
           refine ζv (Zb2 202 182 2 rfl) fun _=>?_
           refine ζy (ι:={q:Nat×Value×Value×List (List Int)×List Pf//q.1≤(lvP a N lev).length∧q.2.2.2.2.length≤2000∧q.2.1.oneCell'=true∧q.2.2.1.oneCell'=true∧q.2.2.2.1=ZiC a N lev++Zou a ((lvP a N lev).take q.1)∧q.2.2.2.2=((lvP a N lev).take q.1).flatMap (Zie a ((N:Int)-lev))}) (fun k=>⟨[(1,_,_),(2,_,_),(6,_,_),(7,_,_),(9,_,_),(43,_,_),(44,_,_),(8,k.1.2.1, .val k.1.2.1),(10,k.1.2.2.1, .val k.1.2.2.1),(45, .int .i64 k.1.1,pInt k.1.1)],[(2,_,_),(201,_,_),(200,k.1.2.1, .own 36 1 k.1.2.2.2.1.length (k.1.2.2.2.1.map pInts)),(202,k.1.2.2.1, .own 182 2 k.1.2.2.2.2.length (k.1.2.2.2.2.flatMap cPf))]⟩) (fun k=>(lvP a N lev).length-k.1.1) ⟨(0,hO, .slice none 0 0,ZiC a N lev,[]),Nat.zero_le _,Nat.zero_le _,hoO,rfl,(List.append_nil _).symm,rfl⟩ (fun a w H=>H.weaken ⟨rfl,rfl,rfl,rfl,rfl,rfl,rfl,rfl,rfl,rfl,trivial⟩ ⟨rfl,rfl,rfl,rfl,trivial⟩) ?_
           rintro ⟨⟨i,hO2,hX,O,X⟩,hi,hkl,hoO2,hoX,hOE,hXE⟩
           dsimp only
           dsimp only at hi hkl hoO2 hoX hOE hXE
           have hol:=Zow a ((lvP a N lev).take i)
           rw [List.length_take] at hol
           have hoL2:O.length≤404000:=by rw [hOE,List.length_append];omega
           refine nav ?_
           (refine ζa ?_<;>refine xL 46 ζS ?_<;>refine ζb (nav ?_)<;>try dsimp only)
           (first|refine cCd ?_ ?_|refine cC ?_ ?_)<;>intro hb46
           · first
             |exact Bool.noConfusion hb46
             | (
              obtain ⟨x,hx⟩:=ζm (show i<(lvP a N lev).length by omega)
              have e1:=ζ8 Zsc (lvP a N lev) i x hx
              have e2:=Zaq Zsc hx
              have hxi:=hlin x (List.mem_of_getElem? hx)
              have hxw:=hlw x (List.mem_of_getElem? hx)
              have hO3:=Zr5 (a:=a) hx
              have hK3:=Zif (Zie a ((N:Int)-lev)) hx
              refine nav ?_
              (refine ζa ?_<;>refine xL 47 (Zaw 201 Zcq) ?_<;>(refine yL 48 (ζp 201 Zhl) fun v48 h=>?_;cases h)<;>refine ζr [(.slice none 0 0),(.slice none 0 0)] 2 12 Zqb fun h12=>?_<;>refine ζC 12 Zhl ?_<;>refine ζb (nav ?_)<;>try dsimp only)
              (refine ζa ?_<;>refine xL 49 ζd ?_<;>refine xL 50 (ζh 12 Zd3) ?_<;>(refine yL 51 (ζs 12 ζx) fun v51 h=>?_;cases h)<;>(refine cS 52 (cA Tryz.call113 (ZfM a x.2 hxi.1)) fun v52 h=>?_;cases h)<;>refine ζb (nav ?_)<;>try dsimp only)
              (first|refine cCd ?_ ?_|refine cC ?_ ?_)<;>intro hb52
              · first
                |exact Bool.noConfusion hb52
                | (
                 rw [if_pos (show ZdV a x.2=true from hb52)] at hO3
                 have hOF:O++[x.1]=ZiC a N lev++Zou a ((lvP a N lev).take (i+1)):=by rw [hO3,hOE,List.append_assoc]
                 have hOl2:(O++[x.1]).length=O.length+1:=by rw [List.length_append];rfl
                 refine nav ?_
                 (refine ζa ?_<;>refine xL 53 ζd ?_<;>refine xL 54 (ζh 12 Zd2) ?_<;>(refine yL 55 (ζs 12 ζx) fun v55 h=>?_;cases h)<;>refine ζI (kk:=1) 56 Zbi fun h56 ho56=>?_<;>(refine ζY 200 56 57 Zbi fun h57 ho57=>?_;refine ζq (ζD (l:=57) 200 rfl rfl) fun _=>?_;rw [Zwu])<;>refine xL 8 ζc ?_<;>refine ζb (nav ?_)<;>try dsimp only)
                 (refine ζa ?_<;>refine xL 58 (ζh 2 ζ2) ?_<;>(refine yL 59 (ζs 2 ζj) fun v59 h=>?_;cases h)<;>refine xL 60 ζd ?_<;>refine ζb (nav ?_)<;>try dsimp only)
                 refine ζy (ι:={q:Nat×Value×List Pf//q.1≤a.syms.toNat∧q.2.1.oneCell'=true∧q.2.2=X++(List.range q.1).flatMap (Zid a ((N:Int)-lev) x)}) (fun k=>⟨[(1,_,_),(2,_,_),(6,_,_),(7,_,_),(8,_,_),(9,_,_),(12,_,_),(43,_,_),(44,_,_),(45,_,_),(59,_,_),(10,k.1.2.1, .val k.1.2.1),(60, .int .i64 k.1.1,pInt k.1.1)],[(2,_,_),(12,_,_),(200,_,_),(201,_,_),(202,k.1.2.1, .own 182 2 k.1.2.2.length (k.1.2.2.flatMap cPf))]⟩) (fun k=>a.syms.toNat-k.1.1) ⟨(0,hX,X),Nat.zero_le _,hoX,(List.append_nil _).symm⟩ (fun a w H=>H.weaken ⟨rfl,rfl,rfl,rfl,rfl,rfl,rfl,rfl,rfl,rfl,rfl,rfl,rfl,trivial⟩ ⟨rfl,rfl,rfl,rfl,rfl,trivial⟩) ?_
                 rintro ⟨⟨c,hX2,X2⟩,hc,hoX2,hX2E⟩
                 dsimp only
                 dsimp only at hc hoX2 hX2E
                 have hkc:=Zhm a ((N:Int)-lev) x c
                 have hkl2:X2.length≤2100:=by rw [hX2E,List.length_append];omega
                 refine nav ?_
                 (refine ζa ?_<;>refine xL 61 ζS ?_<;>refine ζb (nav ?_)<;>try dsimp only)
                 (first|refine cCd ?_ ?_|refine cC ?_ ?_)<;>intro hb61
                 · first
                   |exact Bool.noConfusion hb61
                   | (
                    have hni:=ZdW hA.mi (c:Int) x.2
                    have hnl:(ZaB a c x.2).length≤2000:=by have:=ZdS hA.mi (Zbr hA.mi (c:Int) x.2);unfold ZaB;omega
                    have hR:=ZfO (Zid a ((N:Int)-lev) x) c
                    refine nav ?_
                    (refine ζa ?_<;>refine xL 62 ζd ?_<;>refine xL 13 ζc ?_<;>refine ζb (nav ?_)<;>try dsimp only)
                    (refine ζa ?_<;>refine xL 63 ζd ?_<;>refine xL 64 (ζh 12 Zd3) ?_<;>(refine yL 65 (ζs 12 ζx) fun v65 h=>?_;cases h)<;>refine xL 66 ζd ?_<;>(refine cO 67 (cA Tryz.call112 (Zjy a x.2 c hn1 hA.ml hA.mi hxi.1 hxi.2)) fun v67 ho67=>?_;refine ζq (En.freeze (l:=67) (t:=67) rfl rfl) fun _=>?_;rw [ζL _ _ _ rfl])<;>refine xL 68 ζd ?_<;>refine xL 69 ζd ?_<;>refine xL 70 ZgQ ?_<;>(refine cO 71 (cA Tryz.call140 (ZmF (ZaB a c x.2) (Zcb a) ((N:Int)-lev-1) (by omega) (fun s hs=>by have:=hni s hs;omega))) fun v71 ho71=>?_;refine ζq (En.freeze (l:=71) (t:=71) rfl rfl) fun _=>?_;rw [ζL _ _ _ rfl])<;>refine xL 14 ζc ?_<;>refine ζb (nav ?_)<;>try dsimp only)
                    (refine ζa ?_<;>refine xL 72 ζd ?_<;>refine xL 73 (ζV ζn) ?_<;>refine xL 74 ZaH ?_<;>refine ζb (nav ?_)<;>try dsimp only)
                    (first|refine cCd ?_ ?_|refine cC ?_ ?_)<;>intro hb74
                    · first
                      |exact Bool.noConfusion hb74
                      | (
                       have hkid:Zid a ((N:Int)-lev) x c=[(x.1++[(c:Int)],Zbn (ZaB a c x.2) (Zcb a) ((N:Int)-lev-1))]:=by unfold Zid;rw [if_neg (by omega)]
                       rw [hkid] at hR
                       refine nav ?_
                       (refine ζa ?_<;>refine xL 75 ζd ?_<;>refine xL 76 (ζh 12 Zd2) ?_<;>(refine yL 77 (ζs 12 ζx) fun v77 h=>?_;cases h)<;>refine cO 78 (cA Tryz.call135 (ZbY x.1 (by omega))) fun v78 ho78=>?_<;>refine xL 79 ζd ?_<;>refine ζI (kk:=1) 80 ζi fun h80 ho80=>?_<;>(refine ζY 78 80 81 ζi fun h81 ho81=>?_;refine ζq (En.freeze (l:=81) (t:=81) rfl rfl) fun _=>?_;rw [show PV.own 3 1 (x.1.length+1) (x.1.map pInt++[pInt c])= .own 3 1 (x.1++[(c:Int)]).length ((x.1++[(c:Int)]).map pInt) from Zjx _ _ _,ζL _ _ _ rfl])<;>refine xL 82 ζd ?_<;>refine xL 83 (ζB ZfQ) ?_<;>refine Zar 84 Zdb fun h84 ho84=>?_<;>(refine ζY 202 84 85 Zdb fun h85 ho85=>?_;refine ζq (ζD (l:=85) 202 rfl rfl) fun _=>?_;refine ζq (ζN (l:=202) rfl (Zsd _ X2 (x.1++[(c:Int)],Zbn (ZaB a c x.2) (Zcb a) ((N:Int)-lev-1)))) fun _=>?_)<;>refine xL 10 ζc ?_<;>refine ζb (nav ?_)<;>try dsimp only)
                       (refine ζa ?_<;>refine xL 86 ζM ?_<;>refine xL 60 ζd ?_<;>refine ζb (nav ?_)<;>try dsimp only)
                       first
                        | (exact ζl (
                            ⟨(c+1,h85,X2++[(x.1++[(c:Int)],Zbn (ZaB a c x.2) (Zcb a) ((N:Int)-lev-1))]),by dsimp only;omega,ho85,by dsimp only;rw [hX2E,hR,List.append_assoc]⟩
                            ) (by dsimp only;omega) ⟨rfl,rfl,rfl,rfl,rfl,rfl,rfl,rfl,rfl,rfl,rfl,rfl,rfl,trivial⟩ ⟨rfl,rfl,rfl,rfl,rfl,trivial⟩)
                        | (exact ζl (
                            ⟨(c+1,hX2,X2),by dsimp only;omega,hoX2,by dsimp only;rw [hX2E,hR]⟩
                            ) (by dsimp only;omega) ⟨rfl,rfl,rfl,rfl,rfl,rfl,rfl,rfl,rfl,rfl,rfl,rfl,rfl,trivial⟩ ⟨rfl,rfl,rfl,rfl,rfl,trivial⟩))
                    · first
                      |exact Bool.noConfusion hb74
                      | (
                       have hkid:Zid a ((N:Int)-lev) x c=[]:=by unfold Zid;rw [if_pos (by omega)]
                       rw [hkid,List.append_nil] at hR
                       refine nav ?_
                       (refine ζa ?_<;>refine xL 86 ζM ?_<;>refine xL 60 ζd ?_<;>refine ζb (nav ?_)<;>try dsimp only)
                       first
                        | (exact ζl (
                            ⟨(c+1,h85,X2++[(x.1++[(c:Int)],Zbn (ZaB a c x.2) (Zcb a) ((N:Int)-lev-1))]),by dsimp only;omega,ho85,by dsimp only;rw [hX2E,hR,List.append_assoc]⟩
                            ) (by dsimp only;omega) ⟨rfl,rfl,rfl,rfl,rfl,rfl,rfl,rfl,rfl,rfl,rfl,rfl,rfl,trivial⟩ ⟨rfl,rfl,rfl,rfl,rfl,trivial⟩)
                        | (exact ζl (
                            ⟨(c+1,hX2,X2),by dsimp only;omega,hoX2,by dsimp only;rw [hX2E,hR]⟩
                            ) (by dsimp only;omega) ⟨rfl,rfl,rfl,rfl,rfl,rfl,rfl,rfl,rfl,rfl,rfl,rfl,rfl,trivial⟩ ⟨rfl,rfl,rfl,rfl,rfl,trivial⟩)))
                 · first
                   |exact Bool.noConfusion hb61
                   | (
                    have hcs:c=a.syms.toNat:=by omega
                    subst hcs
                    have hXF:X2=((lvP a N lev).take (i+1)).flatMap (Zie a ((N:Int)-lev)):=by rw [hX2E,hK3,hXE];rfl
                    refine nav ?_
                    (refine ζa ?_<;>refine xL 87 ζd ?_<;>refine xL 88 (ZaC 200 Zam) ?_<;>refine xL 89 ζd ?_<;>refine xL 90 (ZaC 202 Zcq) ?_<;>refine xL 91 ζM ?_<;>refine xL 92 ZaH ?_<;>refine xL 93 ζd ?_<;>(refine bLd 93 (fun hb93=>?_) (fun hb93=>?_)<;>(first|refine kL 94 ?_|refine xL 94 ζd ?_))<;>(first|refine kL 95 ?_|refine xL 95 (ZaC 200 Zam) ?_)<;>(first|refine kL 96 ?_|refine xL 96 ZaH ?_)<;>refine xL 97 ζF ?_<;>refine xL 98 ζd ?_<;>(first|refine xL 99 ζd ?_|(refine bLd 98 (fun hb98=>?_) (fun hb98=>?_)<;>(first|refine kL 99 ?_|refine xL 99 ζd ?_)))<;>(first|refine kL 100 ?_|refine xL 100 (ZaC 202 Zcq) ?_)<;>(first|refine kL 101 ?_|refine xL 101 ZaH ?_)<;>refine xL 102 ζF ?_<;>refine ζb (nav ?_)<;>try dsimp only)<;>(
                     (first|refine cCd ?_ ?_|refine cC ?_ ?_)<;>intro hb102
                     · first
                       |exact Bool.noConfusion hb102
                       | (
                        refine nav ?_
                        (refine ζa ?_<;>refine xL 4 ζc ?_<;>refine xL 5 ζc ?_<;>refine ζb (nav ?_)<;>try dsimp only)
                        refine Za7 (Zcj (t:=4) rfl) fun _=>?_
                        refine Za8 (Tryz.results91) rfl rfl (.inr (.inr (.inl ⟨hok,by omega,by omega,?_,rfl⟩)))
                        rw [Int.toNat_natCast]
                        have hfl2:=Zfi (Zie a ((N:Int)-lev)) (lvP a N lev) (i+1)
                        have hsm5:=Zk5 a N (show lev+1≤N+1 by omega)
                        rw [ZdX,List.length_append] at hsm5
                        have hop5:=Zox a (lvP a N lev) (i+1)
                        have hOl:=congrArg List.length hOF
                        have hXl:=congrArg List.length hXF
                        simp only [List.length_append,List.length_cons,List.length_nil] at hOl
                        by_cases hbig:2000<X2.length
                        · exact .inl ⟨lev,by omega,by rw [lvP];omega⟩
                        · refine .inr ?_
                          first
                           |omega
                           |(simp at hb102 hOl;omega))
                     · first
                       |exact Bool.noConfusion hb102
                       | (
                        refine nav ?_
                        (refine ζa ?_<;>refine xL 103 ζM ?_<;>refine xL 45 ζd ?_<;>refine ζb (nav ?_)<;>try dsimp only)
                        first
                         | (exact ζl (
                             ⟨(i+1,_,_,O++[x.1],X2),ζe hx,(by dsimp only;first|omega|(simp at hb102;omega)),(by assumption),hoX2,hOF,hXF⟩
                             ) (by dsimp only;omega) ⟨rfl,rfl,rfl,rfl,rfl,rfl,rfl,rfl,rfl,rfl,trivial⟩ ⟨rfl,rfl,rfl,rfl,trivial⟩)
                         | (exact ζl (
                             ⟨(i+1,hO2,hX2,O,X2),ζe hx,(by dsimp only;first|omega|(simp at hb102;omega)),(by assumption),hoX2,hOF,hXF⟩
                             ) (by dsimp only;omega) ⟨rfl,rfl,rfl,rfl,rfl,rfl,rfl,rfl,rfl,rfl,trivial⟩ ⟨rfl,rfl,rfl,rfl,trivial⟩)))))
              · first
                |exact Bool.noConfusion hb52
                | (
                 rw [if_neg (show ¬ZdV a x.2=true by simpa [ZdV] using hb52),List.append_nil] at hO3
                 have hOF:O=ZiC a N lev++Zou a ((lvP a N lev).take (i+1)):=by rw [hO3,hOE]
                 refine nav ?_
                 (refine ζa ?_<;>refine xL 58 (ζh 2 ζ2) ?_<;>(refine yL 59 (ζs 2 ζj) fun v59 h=>?_;cases h)<;>refine xL 60 ζd ?_<;>refine ζb (nav ?_)<;>try dsimp only)
                 refine ζy (ι:={q:Nat×Value×List Pf//q.1≤a.syms.toNat∧q.2.1.oneCell'=true∧q.2.2=X++(List.range q.1).flatMap (Zid a ((N:Int)-lev) x)}) (fun k=>⟨[(1,_,_),(2,_,_),(6,_,_),(7,_,_),(8,_,_),(9,_,_),(12,_,_),(43,_,_),(44,_,_),(45,_,_),(59,_,_),(10,k.1.2.1, .val k.1.2.1),(60, .int .i64 k.1.1,pInt k.1.1)],[(2,_,_),(12,_,_),(200,_,_),(201,_,_),(202,k.1.2.1, .own 182 2 k.1.2.2.length (k.1.2.2.flatMap cPf))]⟩) (fun k=>a.syms.toNat-k.1.1) ⟨(0,hX,X),Nat.zero_le _,hoX,(List.append_nil _).symm⟩ (fun a w H=>H.weaken ⟨rfl,rfl,rfl,rfl,rfl,rfl,rfl,rfl,rfl,rfl,rfl,rfl,rfl,trivial⟩ ⟨rfl,rfl,rfl,rfl,rfl,trivial⟩) ?_
                 rintro ⟨⟨c,hX2,X2⟩,hc,hoX2,hX2E⟩
                 dsimp only
                 dsimp only at hc hoX2 hX2E
                 have hkc:=Zhm a ((N:Int)-lev) x c
                 have hkl2:X2.length≤2100:=by rw [hX2E,List.length_append];omega
                 refine nav ?_
                 (refine ζa ?_<;>refine xL 61 ζS ?_<;>refine ζb (nav ?_)<;>try dsimp only)
                 (first|refine cCd ?_ ?_|refine cC ?_ ?_)<;>intro hb61
                 · first
                   |exact Bool.noConfusion hb61
                   | (
                    have hni:=ZdW hA.mi (c:Int) x.2
                    have hnl:(ZaB a c x.2).length≤2000:=by have:=ZdS hA.mi (Zbr hA.mi (c:Int) x.2);unfold ZaB;omega
                    have hR:=ZfO (Zid a ((N:Int)-lev) x) c
                    refine nav ?_
                    (refine ζa ?_<;>refine xL 62 ζd ?_<;>refine xL 13 ζc ?_<;>refine ζb (nav ?_)<;>try dsimp only)
                    (refine ζa ?_<;>refine xL 63 ζd ?_<;>refine xL 64 (ζh 12 Zd3) ?_<;>(refine yL 65 (ζs 12 ζx) fun v65 h=>?_;cases h)<;>refine xL 66 ζd ?_<;>(refine cO 67 (cA Tryz.call112 (Zjy a x.2 c hn1 hA.ml hA.mi hxi.1 hxi.2)) fun v67 ho67=>?_;refine ζq (En.freeze (l:=67) (t:=67) rfl rfl) fun _=>?_;rw [ζL _ _ _ rfl])<;>refine xL 68 ζd ?_<;>refine xL 69 ζd ?_<;>refine xL 70 ZgQ ?_<;>(refine cO 71 (cA Tryz.call140 (ZmF (ZaB a c x.2) (Zcb a) ((N:Int)-lev-1) (by omega) (fun s hs=>by have:=hni s hs;omega))) fun v71 ho71=>?_;refine ζq (En.freeze (l:=71) (t:=71) rfl rfl) fun _=>?_;rw [ζL _ _ _ rfl])<;>refine xL 14 ζc ?_<;>refine ζb (nav ?_)<;>try dsimp only)
                    (refine ζa ?_<;>refine xL 72 ζd ?_<;>refine xL 73 (ζV ζn) ?_<;>refine xL 74 ZaH ?_<;>refine ζb (nav ?_)<;>try dsimp only)
                    (first|refine cCd ?_ ?_|refine cC ?_ ?_)<;>intro hb74
                    · first
                      |exact Bool.noConfusion hb74
                      | (
                       have hkid:Zid a ((N:Int)-lev) x c=[(x.1++[(c:Int)],Zbn (ZaB a c x.2) (Zcb a) ((N:Int)-lev-1))]:=by unfold Zid;rw [if_neg (by omega)]
                       rw [hkid] at hR
                       refine nav ?_
                       (refine ζa ?_<;>refine xL 75 ζd ?_<;>refine xL 76 (ζh 12 Zd2) ?_<;>(refine yL 77 (ζs 12 ζx) fun v77 h=>?_;cases h)<;>refine cO 78 (cA Tryz.call135 (ZbY x.1 (by omega))) fun v78 ho78=>?_<;>refine xL 79 ζd ?_<;>refine ζI (kk:=1) 80 ζi fun h80 ho80=>?_<;>(refine ζY 78 80 81 ζi fun h81 ho81=>?_;refine ζq (En.freeze (l:=81) (t:=81) rfl rfl) fun _=>?_;rw [show PV.own 3 1 (x.1.length+1) (x.1.map pInt++[pInt c])= .own 3 1 (x.1++[(c:Int)]).length ((x.1++[(c:Int)]).map pInt) from Zjx _ _ _,ζL _ _ _ rfl])<;>refine xL 82 ζd ?_<;>refine xL 83 (ζB ZfQ) ?_<;>refine Zar 84 Zdb fun h84 ho84=>?_<;>(refine ζY 202 84 85 Zdb fun h85 ho85=>?_;refine ζq (ζD (l:=85) 202 rfl rfl) fun _=>?_;refine ζq (ζN (l:=202) rfl (Zsd _ X2 (x.1++[(c:Int)],Zbn (ZaB a c x.2) (Zcb a) ((N:Int)-lev-1)))) fun _=>?_)<;>refine xL 10 ζc ?_<;>refine ζb (nav ?_)<;>try dsimp only)
                       (refine ζa ?_<;>refine xL 86 ζM ?_<;>refine xL 60 ζd ?_<;>refine ζb (nav ?_)<;>try dsimp only)
                       first
                        | (exact ζl (
                            ⟨(c+1,h85,X2++[(x.1++[(c:Int)],Zbn (ZaB a c x.2) (Zcb a) ((N:Int)-lev-1))]),by dsimp only;omega,ho85,by dsimp only;rw [hX2E,hR,List.append_assoc]⟩
                            ) (by dsimp only;omega) ⟨rfl,rfl,rfl,rfl,rfl,rfl,rfl,rfl,rfl,rfl,rfl,rfl,rfl,trivial⟩ ⟨rfl,rfl,rfl,rfl,rfl,trivial⟩)
                        | (exact ζl (
                            ⟨(c+1,hX2,X2),by dsimp only;omega,hoX2,by dsimp only;rw [hX2E,hR]⟩
                            ) (by dsimp only;omega) ⟨rfl,rfl,rfl,rfl,rfl,rfl,rfl,rfl,rfl,rfl,rfl,rfl,rfl,trivial⟩ ⟨rfl,rfl,rfl,rfl,rfl,trivial⟩))
                    · first
                      |exact Bool.noConfusion hb74
                      | (
                       have hkid:Zid a ((N:Int)-lev) x c=[]:=by unfold Zid;rw [if_pos (by omega)]
                       rw [hkid,List.append_nil] at hR
                       refine nav ?_
                       (refine ζa ?_<;>refine xL 86 ζM ?_<;>refine xL 60 ζd ?_<;>refine ζb (nav ?_)<;>try dsimp only)
                       first
                        | (exact ζl (
                            ⟨(c+1,h85,X2++[(x.1++[(c:Int)],Zbn (ZaB a c x.2) (Zcb a) ((N:Int)-lev-1))]),by dsimp only;omega,ho85,by dsimp only;rw [hX2E,hR,List.append_assoc]⟩
                            ) (by dsimp only;omega) ⟨rfl,rfl,rfl,rfl,rfl,rfl,rfl,rfl,rfl,rfl,rfl,rfl,rfl,trivial⟩ ⟨rfl,rfl,rfl,rfl,rfl,trivial⟩)
                        | (exact ζl (
                            ⟨(c+1,hX2,X2),by dsimp only;omega,hoX2,by dsimp only;rw [hX2E,hR]⟩
                            ) (by dsimp only;omega) ⟨rfl,rfl,rfl,rfl,rfl,rfl,rfl,rfl,rfl,rfl,rfl,rfl,rfl,trivial⟩ ⟨rfl,rfl,rfl,rfl,rfl,trivial⟩)))
                 · first
                   |exact Bool.noConfusion hb61
                   | (
                    have hcs:c=a.syms.toNat:=by omega
                    subst hcs
                    have hXF:X2=((lvP a N lev).take (i+1)).flatMap (Zie a ((N:Int)-lev)):=by rw [hX2E,hK3,hXE];rfl
                    refine nav ?_
                    (refine ζa ?_<;>refine xL 87 ζd ?_<;>refine xL 88 (ZaC 200 Zam) ?_<;>refine xL 89 ζd ?_<;>refine xL 90 (ZaC 202 Zcq) ?_<;>refine xL 91 ζM ?_<;>refine xL 92 ZaH ?_<;>refine xL 93 ζd ?_<;>(refine bLd 93 (fun hb93=>?_) (fun hb93=>?_)<;>(first|refine kL 94 ?_|refine xL 94 ζd ?_))<;>(first|refine kL 95 ?_|refine xL 95 (ZaC 200 Zam) ?_)<;>(first|refine kL 96 ?_|refine xL 96 ZaH ?_)<;>refine xL 97 ζF ?_<;>refine xL 98 ζd ?_<;>(first|refine xL 99 ζd ?_|(refine bLd 98 (fun hb98=>?_) (fun hb98=>?_)<;>(first|refine kL 99 ?_|refine xL 99 ζd ?_)))<;>(first|refine kL 100 ?_|refine xL 100 (ZaC 202 Zcq) ?_)<;>(first|refine kL 101 ?_|refine xL 101 ZaH ?_)<;>refine xL 102 ζF ?_<;>refine ζb (nav ?_)<;>try dsimp only)<;>(
                     (first|refine cCd ?_ ?_|refine cC ?_ ?_)<;>intro hb102
                     · first
                       |exact Bool.noConfusion hb102
                       | (
                        refine nav ?_
                        (refine ζa ?_<;>refine xL 4 ζc ?_<;>refine xL 5 ζc ?_<;>refine ζb (nav ?_)<;>try dsimp only)
                        refine Za7 (Zcj (t:=4) rfl) fun _=>?_
                        refine Za8 (Tryz.results91) rfl rfl (.inr (.inr (.inl ⟨hok,by omega,by omega,?_,rfl⟩)))
                        rw [Int.toNat_natCast]
                        have hfl2:=Zfi (Zie a ((N:Int)-lev)) (lvP a N lev) (i+1)
                        have hsm5:=Zk5 a N (show lev+1≤N+1 by omega)
                        rw [ZdX,List.length_append] at hsm5
                        have hop5:=Zox a (lvP a N lev) (i+1)
                        have hOl:=congrArg List.length hOF
                        have hXl:=congrArg List.length hXF
                        simp only [List.length_append,List.length_cons,List.length_nil] at hOl
                        by_cases hbig:2000<X2.length
                        · exact .inl ⟨lev,by omega,by rw [lvP];omega⟩
                        · refine .inr ?_
                          first
                           |omega
                           |(simp at hb102 hOl;omega))
                     · first
                       |exact Bool.noConfusion hb102
                       | (
                        refine nav ?_
                        (refine ζa ?_<;>refine xL 103 ζM ?_<;>refine xL 45 ζd ?_<;>refine ζb (nav ?_)<;>try dsimp only)
                        first
                         | (exact ζl (
                             ⟨(i+1,_,_,O++[x.1],X2),ζe hx,(by dsimp only;first|omega|(simp at hb102;omega)),(by assumption),hoX2,hOF,hXF⟩
                             ) (by dsimp only;omega) ⟨rfl,rfl,rfl,rfl,rfl,rfl,rfl,rfl,rfl,rfl,trivial⟩ ⟨rfl,rfl,rfl,rfl,trivial⟩)
                         | (exact ζl (
                             ⟨(i+1,hO2,hX2,O,X2),ζe hx,(by dsimp only;first|omega|(simp at hb102;omega)),(by assumption),hoX2,hOF,hXF⟩
                             ) (by dsimp only;omega) ⟨rfl,rfl,rfl,rfl,rfl,rfl,rfl,rfl,rfl,rfl,trivial⟩ ⟨rfl,rfl,rfl,rfl,trivial⟩))))))
           · first
             |exact Bool.noConfusion hb46
             | (
              have hil:i=(lvP a N lev).length:=by omega
              rw [hil,List.take_length] at hOE hXE
              have hOS:O=ZiC a N (lev+1):=by rw [ZdX];exact hOE
              have hXS:X=lvP a N (lev+1):=hXE
              have hsm6:(ZiC a N (lev+1)).length≤(lev+1)*2000:=by rw [ZdX,List.length_append];have:=Zow a (lvP a N lev);omega
              have hkl6:(lvP a N (lev+1)).length≤2000:=by rw [←hXS];exact hkl
              clear hOE hXE hil
              subst hOS hXS
              refine nav ?_
              (refine ζa ?_<;>refine xL 104 ζd ?_<;>refine xL 9 ζc ?_<;>refine ζb (nav ?_)<;>try dsimp only)
              (refine ζa ?_<;>refine xL 41 ζd ?_<;>refine xL 42 ZgQ ?_<;>refine xL 1 ζc ?_<;>refine ζb (nav ?_)<;>try dsimp only)
              refine ZbJ (ζD (l:=201) 203 rfl rfl) fun _=>?_
              refine ZbJ (ζD (l:=202) 201 rfl rfl) fun _=>?_
              rw [show ((N:Int)-(lev:Nat)-1)=(N:Int)-((lev+1:Nat):Int) by omega]
              refine ζl (
               ⟨(lev+1,hO2,hX),by dsimp only;omega,fun j hj=>by
                 dsimp only at hj
                 rcases Nat.lt_or_ge lev j with h9|h9
                 · rw [show j=lev+1 by omega];exact hkl6
                 · exact hlv j h9,hsm6,hoO2,hoX⟩
               ) (by dsimp only;omega) ⟨rfl,rfl,rfl,rfl,rfl,rfl,trivial⟩ ⟨rfl,rfl,rfl,trivial⟩))
        · first
          |exact Bool.noConfusion hb40
          | (
           have hkE:lev=N+1:=by omega
           subst hkE
           refine nav ?_
           (refine ζa ?_<;>refine xL 105 ζd ?_<;>refine xL 106 (ZaC 200 Zam) ?_<;>refine xL 107 ZaH ?_<;>refine ζb (nav ?_)<;>try dsimp only)
           (first|refine cCd ?_ ?_|refine cC ?_ ?_)<;>intro hb107
           · first
             |exact Bool.noConfusion hb107
             | (
              refine nav ?_
              (refine ζa ?_<;>refine xL 4 ζc ?_<;>refine xL 5 ζc ?_<;>refine ζb (nav ?_)<;>try dsimp only)
              refine Za7 (Zcj (t:=4) rfl) fun _=>?_
              exact Za8 (Tryz.results91) rfl rfl (.inr (.inr (.inl ⟨hok,by omega,by omega, .inr (by rw [Int.toNat_natCast];omega),rfl⟩))))
           · first
             |exact Bool.noConfusion hb107
             | (
              refine nav ?_
              (refine ζa ?_<;>refine xL 108 ζd ?_<;>refine xL 4 ζc ?_<;>refine xL 5 ζc ?_<;>refine ζb (nav ?_)<;>try dsimp only)
              refine Za7 (En.freeze (l:=200) (t:=4) rfl rfl) fun _=>?_
              rw [ZmR _ _ _ rfl]
              refine Za8 (Tryz.results91) rfl rfl (.inr (.inr (.inr ⟨hok,by omega,by omega,?_,by rw [Int.toNat_natCast]⟩)))
              rw [Int.toNat_natCast]
              rintro (⟨j,h1,h2⟩|h1)
              · have:=hlv (j+1) (by omega);omega
              · omega)))))
theorem Zhn {α:Type} {n i:Nat} (f:Nat→α) (h:i<n):(vec n f)[i*1]? =some (f i):=by rw [Nat.mul_one];exact ZmM f h
end Go.Proofs.YtgfabnhpllkebaaGreatDoor
