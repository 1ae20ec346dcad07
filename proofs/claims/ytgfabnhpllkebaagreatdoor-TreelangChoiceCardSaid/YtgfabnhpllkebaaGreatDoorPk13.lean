/-
  Walks: languages of trees: the reference's automaton of a tree; activities within an alphabet.
  Walks: languages of trees: Auto, own, Accepts, in the program and in the reference.
  Walks: the reference's automata: differ, Equivalent, Included.
  Walks: languages of trees: Equivalent, in the program and in the reference.
  Plain laws: automata of trees, in a form that is evaluated; those of the examples of layer 20. No program in sight.
  Walks: process trees: the shape of a normal form; lists of strings compared.
  Walks: languages of trees: the examples of the chapter (layer 20).
  Walks: languages of trees: the statements' bounds (layer 20): how many nodes, how heavy, how long.
  The law TreelangEquivalents: Equivalent says whether two trees have the same language, with the first difference, as the reference does.
  Plain laws: the chapter's automaton, its star, what they are compared with, evaluated. No program in sight.
  Walks: awake (layer 7).
  The engine: a struct of five fields read as an argument. No program in sight.
  How the arguments of the laws read; what is handed back, as one automaton and one number; the law on Minimal and Complement (layer 7).
  The law TreelangAutos: Auto returns the automaton of the reference.
  The law TreelangChoice: a choice accepts what its parts do, and no more.
-/
import Derived.Test.YtgfabnhpllkebaaGreatDoorPk12
import Derived.Test.YtgfabnhpllkebaaGreatDoorPk08
import Derived.Test.YtgfabnhpllkebaaGreatDoorPk04
import Derived.Test.YtgfabnhpllkebaaGreatDoorPk06
import Derived.Test.YtgfabnhpllkebaaGreatDoorPk10
import Derived.Test.YtgfabnhpllkebaaGreatDoorPk05
import Derived.Test.YtgfabnhpllkebaaGreatDoorPk07
import Derived.Test.YtgfabnhpllkebaaGreatDoorPk02
import Derived.Test.YtgfabnhpllkebaaGreatDoorPk03
import Derived.Test.YtgfabnhpllkebaaGreatDoorPk09
namespace Go.Proofs.YtgfabnhpllkebaaGreatDoor
open Go.RowKit Go.Cb Go.En
set_option linter.all false
set_option maxRecDepth 100000
theorem Zi2:AggT Tryz.prog 24 3=true:=by kernel_rfl
theorem Zny:FldT Tryz.prog 24 0 0=true:=by kernel_rfl
theorem Znz:FldT Tryz.prog 24 1 1=true:=by kernel_rfl
theorem ZnA:FldT Tryz.prog 24 2 2=true:=by kernel_rfl
theorem Ztt:NoAgg Tryz.prog 22=true:=by kernel_rfl
theorem Zl7:NoAgg Tryz.prog 27=true:=by kernel_rfl
theorem ZvO:NoAgg Tryz.prog 3=true:=by kernel_rfl
theorem ZvP:NoAgg Tryz.prog 9=true:=by kernel_rfl
theorem Zl8:SlT Tryz.prog 22 24 3=true:=by kernel_rfl
structure RS (r:Option Aut) (p0 p1 p2 p3 p4:PV) (E:Int):Prop where
 r5:R5 p0 p1 p2 p3 p4
 eq:resW (lim r)= .tup [.agg [p0,p1,p2,p3,p4],pInt E]
 hc:(r=none∧E=13)∨∃A,r=some A∧E=0∧p0=pInt A.n∧p1=pInt A.syms∧p2=pInts A.start∧p3=pInts A.fin∧p4=pMvs A.moves
theorem ZvQ (r:Option Aut):∃p0 p1 p2 p3 p4 E,RS r p0 p1 p2 p3 p4 E:=by
 obtain ⟨p0,p1,p2,p3,p4,E,r5,hres,hc⟩:=ZqC r
 exact ⟨p0,p1,p2,p3,p4,E,r5,hres,hc⟩
theorem RS.no {r:Option Aut} {p0 p1 p2 p3 p4:PV} {E:Int} (h:RS r p0 p1 p2 p3 p4 E) (hE:¬E=0):r=none∧E=13:=by
 rcases h.hc with h1|⟨A,_,h1,_⟩
 · exact h1
 · exact absurd h1 hE
theorem RS.yes {r:Option Aut} {p0 p1 p2 p3 p4:PV} {E:Int} (h:RS r p0 p1 p2 p3 p4 E) (hE:E=0):∃A,r=some A∧E=0∧p0=pInt A.n∧p1=pInt A.syms∧p2=pInts A.start∧p3=pInts A.fin∧p4=pMvs A.moves:=by
 rcases h.hc with ⟨_,h1⟩|h1
 · omega
 · exact h1
def Zkh (acts:List ByteArray) (l:List ByteArray):Bool:= !(l.any fun s=>decide (Zaz acts s<0))
theorem Ztu (acts:List ByteArray) (s:ByteArray) (l:List ByteArray):Zkh acts (s::l)=(decide (0≤Zaz acts s)&&Zkh acts l):=by
 unfold Zkh
 rw [List.any_cons,Bool.not_or]
 congr 1
 by_cases h:Zaz acts s<0
 · rw [decide_eq_true h,decide_eq_false (by omega)];rfl
 · rw [decide_eq_false h,decide_eq_true (by omega)];rfl
theorem ZvR (acts l m:List ByteArray):Zkh acts (l++m)=(Zkh acts l&&Zkh acts m):=by
 unfold Zkh
 rw [List.any_append,Bool.not_or]
theorem ZBN (acts:List ByteArray) (l:List Nd):Zkh acts (Ze1 l)= !(l.any fun x=> !Zkh acts (Za5 x)):=by
 induction l with
 |nil=>rfl
 |cons x l ih=>rw [Ze1,ZvR,ih,List.any_cons,Bool.not_or,Bool.not_not]
theorem ZnB (f:Nat) (caps:List PV) (p:Nd→Bool) (l:List Nd) (hl:l.length≤140737488355328) (hc:∀args w,(callFunc f args).run Tryz.prog w= .ok (.enter f args) w) (hf:∀s∈l,AF Tryz.prog f (pTr s::caps) (· =ζO (p s))):AF Tryz.prog 93 [ZbT l, .fn f caps] (· =pInt (idx p l)):=by
 refine AF.of_body 19 Tryz.func93 rfl Tryz.ntmps93 (Nat.le_of_ble_eq_true rfl) ?_
 intro w0 M0 vs hl hv
 obtain ⟨v0,v1,rfl⟩:=Zb3 hl
 clear hl hv
 refine nav ?_
 (refine ζa ?_<;>refine xL 4 ζc ?_<;>refine ζb (nav ?_)<;>try dsimp only)
 (refine ζa ?_<;>refine xL 6 ζd ?_<;>refine xL 7 (ζV Zl8) ?_<;>refine xL 8 ζd ?_<;>refine ζb (nav ?_)<;>try dsimp only)
 refine ζy (ι:={k:Nat//k≤l.length∧∀i y,i<k→l[i]? =some y→p y=false}) (fun k=>⟨[(0,_,_),(1,_,_),(7,_,_),(8, .int .i64 k.1,pInt k.1)],[]⟩) (fun k=>l.length-k.1) ⟨0,by omega,by omega⟩ (fun a w H=>H.weaken ⟨rfl,rfl,rfl,rfl,trivial⟩ trivial) ?_
 rintro ⟨k,hk,hp⟩
 dsimp only
 refine nav ?_
 (refine ζa ?_<;>refine xL 9 ζS ?_<;>refine ζb (nav ?_)<;>try dsimp only)
 (first|refine cCd ?_ ?_|refine cC ?_ ?_)<;>intro hb9
 · first
   |exact Bool.noConfusion hb9
   | (
    obtain ⟨x,hx⟩:=ζm (show k<l.length by omega)
    have e1:=ZbX hx
    have e2:=Zc4 hx
    refine nav ?_
    (refine ζa ?_<;>refine xL 10 ζd ?_<;>refine xL 5 ζc ?_<;>refine ζb (nav ?_)<;>try dsimp only)
    (refine ζa ?_<;>refine xL 11 ζd ?_<;>refine xL 12 ζd ?_<;>refine xL 13 ζd ?_<;>refine xL 14 (ζJ Zl8) ?_<;>(refine yL 15 (Zbm Zi2) fun v15 h=>?_;cases h)<;>(refine cS 16 (ZcY (f:=f) (ps:=caps) rfl ⟨_,rfl⟩ hc rfl (hf x (List.mem_of_getElem? hx))) fun v16 h=>?_;cases h)<;>refine ζb (nav ?_)<;>try dsimp only)
    (first|refine cCd ?_ ?_|refine cC ?_ ?_)<;>intro hb16
    · first
      |exact Bool.noConfusion hb16
      | (
       refine nav ?_
       (refine ζa ?_<;>refine xL 17 ζd ?_<;>refine xL 4 ζc ?_<;>refine ζb (nav ?_)<;>try dsimp only)
       refine ζt (Tryz.results93) rfl ?_
       rw [Zdm hp hx hb16])
    · first
      |exact Bool.noConfusion hb16
      | (
       refine nav ?_
       (refine ζa ?_<;>refine xL 18 ζM ?_<;>refine xL 8 ζd ?_<;>refine ζb (nav ?_)<;>try dsimp only)
       refine ζl (
        ⟨k+1,by omega,fun i y hi hy=>by
         by_cases e:i=k
         · subst e;rw [hx] at hy;cases hy;exact hb16
         · exact hp i y (by omega) hy⟩
        ) (by dsimp only;omega) ⟨rfl,rfl,rfl,rfl,trivial⟩ trivial))
 · first
   |exact Bool.noConfusion hb9
   | (
    refine nav ?_
    (refine ζa ?_<;>refine xL 4 ζc ?_<;>refine ζb (nav ?_)<;>try dsimp only)
    refine ζt (Tryz.results93) rfl ?_
    rw [Zdn fun i y hi hy=>hp i y (by omega) hy])
theorem Zim (f:Nat) (caps:List PV) (p:Nd→Bool) (l:List Nd) (hl:l.length≤140737488355328) (hc:∀args w,(callFunc f args).run Tryz.prog w= .ok (.enter f args) w) (hf:∀s∈l,AF Tryz.prog f (pTr s::caps) (· =ζO (p s))):AF Tryz.prog 45 [ZbT l, .fn f caps] (· =ζO (l.any p)):=by
 refine AF.of_body 9 Tryz.func45 rfl Tryz.ntmps45 (Nat.le_of_ble_eq_true rfl) ?_
 intro w0 M0 vs hl hv
 obtain ⟨v0,v1,rfl⟩:=Zb3 hl
 clear hl hv
 refine nav ?_
 (refine ζa ?_<;>refine xL 4 ζc ?_<;>refine ζb (nav ?_)<;>try dsimp only)
 (refine ζa ?_<;>refine xL 5 ζd ?_<;>refine xL 6 ζd ?_<;>(refine cS 7 (cA Tryz.call93 (ZnB f caps p l hl hc hf)) fun v7 h=>?_;cases h)<;>refine xL 8 Zcc ?_<;>refine xL 4 ζc ?_<;>refine ζb (nav ?_)<;>try dsimp only)
 refine ζt (Tryz.results45) rfl ?_
 rw [Zi7]
theorem ZnC (x:Nd) (acts:List ByteArray) (h:AF Tryz.prog 62 [pTr x,Zao acts] (· =ζO (Zkh acts (Za5 x)))):AF Tryz.prog 104 [pTr x, .sptr 0 [Zao acts]] (· =ζO (!Zkh acts (Za5 x))):=by
 have e0:pTr x= .agg [pInt x.op,ZaS x.act,ZbT x.l]:=rfl
 rw [e0] at h ⊢
 refine AF.of_body 8 Tryz.func104 rfl Tryz.ntmps104 (Nat.le_of_ble_eq_true rfl) ?_
 intro w0 M0 vs hl hv
 obtain ⟨v0,v1,rfl⟩:=Zb3 hl
 clear hl hv
 refine nav ?_
 (refine ζa ?_<;>refine ζE 2 3 fun h2=>?_<;>refine xL 3 ζc ?_<;>refine ζb (nav ?_)<;>try dsimp only)
 (refine ζa ?_<;>(refine yL 4 (ζp 2 Zi2) fun v4 h=>?_;cases h)<;>(refine yL 5 (Za3 Zl7) fun v5 h=>?_;cases h)<;>(refine cS 6 (cA Tryz.call62 (h)) fun v6 h=>?_;cases h)<;>refine xL 7 Zak ?_<;>refine xL 3 ζc ?_<;>refine ζb (nav ?_)<;>try dsimp only)
 exact ζt Tryz.results104 rfl rfl
theorem ZqD (acts:List ByteArray):∀t:Nd,okT t=true→szT t≤1000→AF Tryz.prog 62 [pTr t,Zao acts] (· =ζO (Zkh acts (Za5 t))):=Nd.ind fun o a l ih hok hsz=>by
 have e0:pTr (.mk o a l)= .agg [pInt o,ZaS a,ZbT l]:=rfl
 rw [e0]
 obtain ⟨hr,hp⟩:=ZbM.1 hok
 rw [szT] at hsz
 have hlz:=Zg8 l
 refine AF.of_body 18 Tryz.func62 rfl Tryz.ntmps62 (Nat.le_of_ble_eq_true rfl) ?_
 intro w0 M0 vs hl hv
 obtain ⟨v0,v1,rfl⟩:=Zb3 hl
 clear hl hv
 refine nav ?_
 (refine ζa ?_<;>refine ζE 2 3 fun h2=>?_<;>refine Zue 3 fun h3=>?_<;>refine xL 4 ζc ?_<;>refine ζb (nav ?_)<;>try dsimp only)
 (refine ζa ?_<;>refine xL 5 (ζh 2 Zny) ?_<;>(refine yL 6 (ζs 2 ZvO) fun v6 h=>?_;cases h)<;>refine xL 7 Zag ?_<;>refine ζb (nav ?_)<;>try dsimp only)
 (first|refine cCd ?_ ?_|refine cC ?_ ?_)<;>intro hb7
 · first
   |exact Bool.noConfusion hb7
   | (
    refine nav ?_
    (refine ζa ?_<;>(refine yL 8 (ζs 3 Zl7) fun v8 h=>?_;cases h)<;>refine xL 9 (ζh 2 Znz) ?_<;>(refine yL 10 (ζs 2 ZvP) fun v10 h=>?_;cases h)<;>(refine cS 11 (cA Tryz.call67 (ZhY acts a)) fun v11 h=>?_;cases h)<;>refine xL 12 Zcc ?_<;>refine xL 4 ζc ?_<;>refine ζb (nav ?_)<;>try dsimp only)
    refine ζt (Tryz.results62) rfl ?_
    rw [Zpn hr hb7,Ztu]
    show _=ζO (_&&true)
    rw [Bool.and_true])
 · first
   |exact Bool.noConfusion hb7
   | (
    refine ζv (ZfF (l:=3) (t:=3) (j:=0) rfl Nat.one_pos rfl) fun _=>?_
    refine nav ?_
    (refine ζa ?_<;>refine xL 13 (ζh 2 ZnA) ?_<;>(refine yL 14 (ζs 2 Ztt) fun v14 h=>?_;cases h)<;>refine xL 15 ZkC ?_<;>(refine cS 16 (cA Tryz.call45 (Zim 104 [.sptr 0 [Zao acts]] (fun x=> !Zkh acts (Za5 x)) l (by omega) (Tryz.call104) (fun x hx=>ZnC x acts (ih x hx (hp x hx) (by have:=ZdN hx;omega))))) fun v16 h=>?_;cases h)<;>refine xL 17 Zak ?_<;>refine xL 4 ζc ?_<;>refine ζb (nav ?_)<;>try dsimp only)
    refine ζt (Tryz.results62) rfl ?_
    rw [show Za5 (.mk o a l)=Ze1 l by rw [Za5,if_neg hb7],ZBN])
theorem ZbE:AggT Tryz.prog 24 3=true:=by kernel_rfl
theorem ZbF:AggT Tryz.prog 39 5=true:=by kernel_rfl
theorem Zl9:ElT Tryz.prog 36 3 1 8 (.int .i64 0):=⟨Tryz.underlying36,by kernel_rfl,rfl,by decide⟩
theorem ZvS:NoAgg Tryz.prog 9=true:=by kernel_rfl
theorem Zh0:SlT Tryz.prog 27 9 1=true:=by kernel_rfl
theorem Zh1:Zbj Tryz.prog 39=some ((.agg #[(.int .i64 0),(.int .i64 0),(.slice none 0 0),(.slice none 0 0),(.slice none 0 0)]),([0,1,2,3,4]:List Nat).map fun o=>(o,1)):=by kernel_rfl
theorem Zea:ZeroT Tryz.prog 39 (.agg #[(.int .i64 0),(.int .i64 0),(.slice none 0 0),(.slice none 0 0),(.slice none 0 0)]):=by unfold ZeroT;kernel_rfl
theorem Ztv {l:List ByteArray} (h:Zci l=true):l.length≤40:=by
 unfold Zci at h
 simp only [Bool.and_eq_true,decide_eq_true_eq] at h
 exact h.1.1
theorem Zz6 {acts l:List ByteArray} (h:Zkh acts l=true):∀s∈l,s∈acts:=fun s hs=>by
 unfold Zkh at h
 rw [Bool.not_eq_true',List.any_eq_false] at h
 have h1:=h s hs
 obtain ⟨i,_,h2⟩:=ZwI (acts:=acts) (s:=s) (fun h=>h1 (decide_eq_true h))
 exact List.mem_of_getElem? h2
theorem Zpp (t:Nd) (hf:FitT t) (acts:List ByteArray) (hfa:∀s∈acts,s.size≤140737488355328):AF Tryz.prog 16 [pTr t,Zao acts] (· =resW (autTX t acts)):=by
 have e0:pTr t= .agg [pInt t.op,ZaS t.act,ZbT t.l]:=rfl
 have hV:=ZcI t hf
 have hA:=ZpG acts hfa
 rw [e0] at hV ⊢
 refine AF.of_body 25 Tryz.func16 rfl Tryz.ntmps16 (Nat.le_of_ble_eq_true rfl) ?_
 intro w0 M0 vs hl hv
 obtain ⟨v0,v1,rfl⟩:=Zb3 hl
 clear hl hv
 refine nav ?_
 (refine ζa ?_<;>refine ζE 2 3 fun h2=>?_<;>refine ζr [(.int .i64 0),(.int .i64 0),(.slice none 0 0),(.slice none 0 0),(.slice none 0 0)] 5 4 Zea fun h4=>?_<;>refine xL 5 ζc ?_<;>refine ζb (nav ?_)<;>try dsimp only)
 (refine ζa ?_<;>(refine yL 6 (ζp 2 ZbE) fun v6 h=>?_;cases h)<;>(refine cS 7 (cA Tryz.call24 (hV)) fun v7 h=>?_;cases h)<;>refine xL 8 Zak ?_<;>refine xL 9 ζd ?_<;>(refine bL 9 (fun hb9=>?_) (fun hb9=>?_)<;>(first|refine kL 10 ?_|refine xL 10 ζd ?_))<;>(first|refine kL 11 ?_|(refine cS 11 (cA Tryz.call61 (hA)) fun v11 h=>?_;cases h))<;>(first|refine kL 12 ?_|refine xL 12 Zak ?_)<;>refine xL 13 ζF ?_<;>refine ζb (nav ?_)<;>try dsimp only)<;>(
  (first|refine cCd ?_ ?_|refine cC ?_ ?_)<;>intro hb13
  · first
    |exact Bool.noConfusion hb13
    | (
     have hno:¬(ZcB t=true∧Zci acts=true):=by
      rintro ⟨h1,h2⟩
      first|(rw [h1] at hb9;simp at hb9;done)|(rw [h2] at hb13;simp at hb13;done)
     have hX:autTX t acts= .error 1:=by unfold autTX;rw [if_neg hno]
     rw [hX]
     refine nav ?_
     (refine ζa ?_<;>refine xL 14 (ζB Zh1) ?_<;>refine ζC 4 ZbF ?_<;>refine xL 5 ζc ?_<;>refine ζb (nav ?_)<;>try dsimp only)
     exact ζ6 (k:=5) 4 (by kernel_rfl) (Tryz.results16) rfl rfl rfl (Nat.le_of_ble_eq_true rfl) (by decide) rfl rfl)
  · first
    |exact Bool.noConfusion hb13
    | (
     have hv:ZcB t=true:=by first|(simpa using hb9)|(exfalso;simp_all;done)
     have ha:Zci acts=true:=by first|(simpa using hb13)|(exfalso;simp_all;done)
     have hok:=Ze7 hv
     have hsz:=Zit hv
     have hW:=ZqD acts t hok (by omega)
     rw [e0] at hW
     refine nav ?_
     (refine ζa ?_<;>(refine yL 15 (ζp 2 ZbE) fun v15 h=>?_;cases h)<;>refine xL 16 ζd ?_<;>(refine cS 17 (cA Tryz.call62 (hW)) fun v17 h=>?_;cases h)<;>refine xL 18 Zak ?_<;>refine ζb (nav ?_)<;>try dsimp only)
     (first|refine cCd ?_ ?_|refine cC ?_ ?_)<;>intro hb18
     · first
       |exact Bool.noConfusion hb18
       | (
        have hw:Zkh acts (Za5 t)=false:=by simpa using hb18
        have hX:autTX t acts= .error 8:=by
         unfold autTX
         unfold Zkh at hw
         rw [if_pos ⟨hv,ha⟩,if_pos (by simpa using hw)]
        rw [hX]
        refine nav ?_
        (refine ζa ?_<;>refine xL 19 (ζB Zh1) ?_<;>refine ζC 4 ZbF ?_<;>refine xL 5 ζc ?_<;>refine ζb (nav ?_)<;>try dsimp only)
        exact ζ6 (k:=5) 4 (by kernel_rfl) (Tryz.results16) rfl rfl rfl (Nat.le_of_ble_eq_true rfl) (by decide) rfl rfl)
     · first
       |exact Bool.noConfusion hb18
       | (
        have hw:Zkh acts (Za5 t)=true:=by simpa using hb18
        have hX:autTX t acts=lim (bldT acts t):=by
         unfold autTX
         have hw2:=hw
         unfold Zkh at hw2
         rw [Bool.not_eq_true'] at hw2
         rw [if_pos ⟨hv,ha⟩,if_neg (by rw [hw2];decide)]
        rw [hX]
        obtain ⟨p0,p1,p2,p3,p4,E,hR⟩:=ZvQ (bldT acts t)
        have hj:=Zfx acts (Ztv ha) t hok (by omega) (Zz6 hw)
        rw [hR.eq,e0] at hj
        rw [hR.eq]
        have r5:=hR.r5
        obtain ⟨o0,o1,o2,o3,o4⟩:=r5.o
        refine nav ?_
        (refine ζa ?_<;>(refine yL 20 (ζp 2 ZbE) fun v20 h=>?_;cases h)<;>refine xL 21 ζd ?_<;>(refine cP 22 (cA (Tryz.call51) hj) (fun va22 vb22 hva22 hvb22=>?_) (hsh:=r5.t E);cases hvb22)<;>refine xL 23 ζf ?_<;>refine xL 24 ζf ?_<;>refine ζC 4 ZbF ?_<;>refine xL 5 ζc ?_<;>refine ζb (nav ?_)<;>try dsimp only)
        exact ζ6 (k:=5) 4 (by kernel_rfl) (Tryz.results16) rfl rfl rfl (Nat.le_of_ble_eq_true rfl) (by decide) r5.s rfl)))
theorem Ztw (t:Nd) (hf:FitT t) {e:Int} (he:¬e=0) (hR:actR t=([],e)):AF Tryz.prog 66 [pTr t] (· = .tup [Zia,Zao [],pInt e]):=by
 have e0:pTr t= .agg [pInt t.op,ZaS t.act,ZbT t.l]:=rfl
 have hA:=ZmC t hf
 rw [hR] at hA
 dsimp only at hA
 rw [e0] at hA ⊢
 refine AF.of_body 26 Tryz.func66 rfl Tryz.ntmps66 (Nat.le_of_ble_eq_true rfl) ?_
 intro w0 M0 vs hl hv
 obtain ⟨v0,rfl⟩:=ZdL hl
 clear hl hv
 refine nav ?_
 (refine ζa ?_<;>refine ζE 1 3 fun h1=>?_<;>refine ζr [(.int .i64 0),(.int .i64 0),(.slice none 0 0),(.slice none 0 0),(.slice none 0 0)] 5 2 Zea fun h2=>?_<;>refine xL 3 ζc ?_<;>refine xL 4 ζc ?_<;>refine ζb (nav ?_)<;>try dsimp only)
 (refine ζa ?_<;>(refine yL 9 (ζp 1 ZbE) fun v9 h=>?_;cases h)<;>(refine cP 10 (cA Tryz.call25 (hA)) fun va10 vb10 hva10 h=>?_;cases h)<;>refine xL 8 ζd ?_<;>refine xL 11 ζf ?_<;>refine xL 12 ζf ?_<;>refine xL 5 ζc ?_<;>refine xL 6 ζc ?_<;>refine ζb (nav ?_)<;>try dsimp only)
 (refine ζa ?_<;>refine xL 13 ζd ?_<;>refine xL 14 ZaD ?_<;>refine ζb (nav ?_)<;>try dsimp only)
 (first|refine cCd ?_ ?_|refine cC ?_ ?_)<;>intro hb14
 · refine nav ?_
   (refine ζa ?_<;>refine xL 15 (ζB Zh1) ?_<;>refine xL 16 ζd ?_<;>refine ζC 2 ZbF ?_<;>refine xL 3 ζc ?_<;>refine xL 4 ζc ?_<;>refine ζb (nav ?_)<;>try dsimp only)
   refine Za7 (Zcj (t:=3) rfl) fun _=>?_
   exact ZrB (k:=5) 2 (by kernel_rfl) (Tryz.results66) rfl rfl rfl rfl (Nat.le_of_ble_eq_true rfl) (by decide) rfl rfl
 · exact absurd (by simpa using hb14) he
theorem Zpq (t:Nd) (hf:FitT t) {L:List ByteArray} (hR:actR t=(L,0)) {p0 p1 p2 p3 p4:PV} {E:Int} (hS:RS (bldT L t) p0 p1 p2 p3 p4 E):AF Tryz.prog 66 [pTr t] (· = .tup [.agg [p0,p1,p2,p3,p4],Zao L,pInt E]):=by
 have e0:pTr t= .agg [pInt t.op,ZaS t.act,ZbT t.l]:=rfl
 have hA:=ZmC t hf
 obtain ⟨hv,hL,hm,hn,hmem⟩:=Zka (t:=t) (by rw [hR])
 rw [hR] at hA hm hmem
 dsimp only at hA hm hmem
 have hj:=Zfx L hm t (Ze7 hv) (by have:=Zit hv;omega) (fun s hs=>(hmem s).2 hs)
 rw [hS.eq] at hj
 rw [e0] at hA hj ⊢
 have r5:=hS.r5
 obtain ⟨o0,o1,o2,o3,o4⟩:=r5.o
 refine AF.of_body 26 Tryz.func66 rfl Tryz.ntmps66 (Nat.le_of_ble_eq_true rfl) ?_
 intro w0 M0 vs hl hv
 obtain ⟨v0,rfl⟩:=ZdL hl
 clear hl hv
 refine nav ?_
 (refine ζa ?_<;>refine ζE 1 3 fun h1=>?_<;>refine ζr [(.int .i64 0),(.int .i64 0),(.slice none 0 0),(.slice none 0 0),(.slice none 0 0)] 5 2 Zea fun h2=>?_<;>refine xL 3 ζc ?_<;>refine xL 4 ζc ?_<;>refine ζb (nav ?_)<;>try dsimp only)
 (refine ζa ?_<;>(refine yL 9 (ζp 1 ZbE) fun v9 h=>?_;cases h)<;>(refine cP 10 (cA Tryz.call25 (hA)) fun va10 vb10 hva10 h=>?_;cases h)<;>refine xL 8 ζd ?_<;>refine xL 11 ζf ?_<;>refine xL 12 ζf ?_<;>refine xL 5 ζc ?_<;>refine xL 6 ζc ?_<;>refine ζb (nav ?_)<;>try dsimp only)
 (refine ζa ?_<;>refine xL 13 ζd ?_<;>refine xL 14 ZaD ?_<;>refine ζb (nav ?_)<;>try dsimp only)
 (first|refine cCd ?_ ?_|refine cC ?_ ?_)<;>intro hb14
 · exact absurd rfl hb14
 · refine nav ?_
   (refine ζa ?_<;>(refine yL 18 (ζp 1 ZbE) fun v18 h=>?_;cases h)<;>refine xL 19 ζd ?_<;>(refine cP 20 (cA (Tryz.call51) hj) (fun va20 vb20 hva20 hvb20=>?_) (hsh:=r5.t E);cases hvb20)<;>refine xL 17 ζd ?_<;>refine xL 21 ζf ?_<;>refine xL 22 ζf ?_<;>refine ζr [(.int .i64 0),(.int .i64 0),(.slice none 0 0),(.slice none 0 0),(.slice none 0 0)] 5 7 Zea fun h7=>?_<;>refine ζC 7 ZbF ?_<;>refine xL 6 ζc ?_<;>refine ζb (nav ?_)<;>try dsimp only)
   (refine ζa ?_<;>(refine yL 23 (ζp (k:=5) (ps:=[p0,p1,p2,p3,p4]) 7 (by kernel_rfl) (hsh:=r5.s)) fun v23 h=>?_;cases h)<;>refine xL 24 ζd ?_<;>refine xL 25 ζd ?_<;>refine ζC 2 ZbF ?_<;>refine xL 3 ζc ?_<;>refine xL 4 ζc ?_<;>refine ζb (nav ?_)<;>try dsimp only)
   exact ZrB (k:=5) 2 (by kernel_rfl) (Tryz.results66) rfl rfl rfl rfl (Nat.le_of_ble_eq_true rfl) (by decide) r5.s rfl
theorem Ztx (t:Nd):(∃e,¬e=0∧actR t=([],e))∨∃L,actR t=(L,0):=by
 unfold actR
 split
 · split
   · exact .inr ⟨_,rfl⟩
   · exact .inl ⟨5,by decide,rfl⟩
 · exact .inl ⟨1,by decide,rfl⟩
theorem Zyt {A:Aut} {w:List Int} (hA:ζ5 A=true) (hl:w.length≤200) (hw:∀c∈w,0≤c∧c<A.syms):ZtW A w=(ZfV A w,0):=by
 unfold ZtW
 rw [if_neg (by rw [hA];decide),if_neg (by omega),if_neg]
 · rfl
 · intro h
   obtain ⟨c,hc,h1⟩:=List.any_eq_true.1 h
   have:=hw c hc
   simp only [Bool.or_eq_true,decide_eq_true_eq] at h1
   omega
theorem R5.t3 {p0 p1 p2 p3 p4:PV} (h:R5 p0 p1 p2 p3 p4) (L:List ByteArray) (E:Int):shD (.tup [.agg [p0,p1,p2,p3,p4],Zao L,pInt E])=true:=by
 show (shD (.agg [p0,p1,p2,p3,p4])&&(true&&(true&&true)))=true
 rw [h.d];rfl
structure OwnR (t:Nd) (L:List ByteArray) (p0 p1 p2 p3 p4:PV) (E:Int):Prop where
 r5:R5 p0 p1 p2 p3 p4
 hc:(¬E=0∧actR t=(L,E))∨(actR t=(L,0)∧RS (bldT L t) p0 p1 p2 p3 p4 E)
theorem Zyu (t:Nd) (hf:FitT t):∃L p0 p1 p2 p3 p4 E,OwnR t L p0 p1 p2 p3 p4 E∧AF Tryz.prog 66 [pTr t] (· = .tup [.agg [p0,p1,p2,p3,p4],Zao L,pInt E]):=by
 rcases Ztx t with ⟨e,he,hR⟩|⟨L,hR⟩
 · exact ⟨[],_,_,_,_,_,e,⟨R5.raw, .inl ⟨he,hR⟩⟩,Ztw t hf he hR⟩
 · obtain ⟨p0,p1,p2,p3,p4,E,hS⟩:=ZvQ (bldT L t)
   exact ⟨L,p0,p1,p2,p3,p4,E,⟨hS.r5, .inr ⟨hR,hS⟩⟩,Zpq t hf hR hS⟩
theorem OwnR.no {t:Nd} {L:List ByteArray} {p0 p1 p2 p3 p4:PV} {E:Int} (h:OwnR t L p0 p1 p2 p3 p4 E) (hE:¬E=0):actR t=(L,E)∨(actR t=(L,0)∧bldT L t=none∧E=13):=by
 rcases h.hc with ⟨_,h1⟩|⟨h1,h2⟩
 · exact .inl h1
 · exact .inr ⟨h1,h2.no hE⟩
theorem OwnR.yes {t:Nd} {L:List ByteArray} {p0 p1 p2 p3 p4:PV} {E:Int} (h:OwnR t L p0 p1 p2 p3 p4 E) (hE:E=0):∃A,actR t=(L,0)∧bldT L t=some A∧E=0∧p0=pInt A.n∧p1=pInt A.syms∧p2=pInts A.start∧p3=pInts A.fin∧p4=pMvs A.moves:=by
 rcases h.hc with ⟨h1,_⟩|⟨h1,h2⟩
 · exact absurd hE h1
 · obtain ⟨A,h3⟩:=h2.yes hE
   exact ⟨A,h1,h3⟩
theorem ZvT {t:Nd} {w:List ByteArray} {L:List ByteArray} {p0 p1 p2 p3 p4:PV} {E:Int} (hv:ZcB t=true) (hl:¬200<w.length) (h:OwnR t L p0 p1 p2 p3 p4 E) (hE:¬E=0):accTX t w=(false,E):=by
 unfold accTX
 rw [if_pos hv,if_neg hl]
 rcases h.no hE with h1|⟨h1,h2,h3⟩
 · rw [h1,if_pos hE]
 · rw [h1,if_neg (fun h=>h rfl)]
   dsimp only
   rw [h2,h3]
theorem Zty {t:Nd} {w:List ByteArray} {L:List ByteArray} {A:Aut} (hv:ZcB t=true) (hl:¬200<w.length) (h1:actR t=(L,0)) (h2:bldT L t=some A):accTX t w=if (w.any fun s=>decide (Zaz L s<0))=true then (false,0) else (ZfV A (Zbl L w),0):=by
 unfold accTX
 rw [if_pos hv,if_neg hl,h1,if_neg (fun h=>h rfl)]
 dsimp only
 rw [h2]
theorem Zyv {t:Nd} {L:List ByteArray} {A:Aut} (h1:actR t=(L,0)) (h2:bldT L t=some A):IsMin A∧A.syms=L.length∧L.length≤40:=by
 obtain ⟨hv,_,hm,hn,hmem⟩:=Zka (t:=t) (by rw [h1])
 rw [h1] at hm hn hmem
 dsimp only at hm hn hmem
 obtain ⟨k1,k2,_⟩:=ZlP hn hm hv (fun s hs=>(hmem s).2 hs) h2
 exact ⟨k1,k2,hm⟩
theorem Zma (L:List ByteArray) {w:List ByteArray} {i:Nat} {s:ByteArray} (h:w[i]? =some s):Zbl L (w.take (i+1))=Zbl L (w.take i)++[Zaz L s]:=by
 unfold Zbl
 rw [ζH h,List.map_append];rfl
theorem Zh2 (L w:List ByteArray):(Zbl L w).length=w.length:=List.length_map _
set_option maxHeartbeats 1000000 in
theorem ZeZ (t : Nd) (hf:FitT t) (w:List ByteArray):AF Tryz.prog 19 [pTr t,Zao w] (· = .tup [ζO (accTX t w).1,pInt (accTX t w).2]):=by
 have e0:pTr t= .agg [pInt t.op,ZaS t.act,ZbT t.l]:=rfl
 have hV:=ZcI t hf
 obtain ⟨L,p0,p1,p2,p3,p4,E,hO,hj⟩:=Zyu t hf
 have r5:=hO.r5
 obtain ⟨o0,o1,o2,o3,o4⟩:=r5.o
 rw [e0] at hV hj ⊢
 refine AF.of_body 49 Tryz.func19 rfl Tryz.ntmps19 (Nat.le_of_ble_eq_true rfl) ?_
 intro w0 M0 vs hl hv
 obtain ⟨v0,v1,rfl⟩:=Zb3 hl
 clear hl hv
 refine Zba 1 rfl fun hlen=>?_
 refine nav ?_
 (refine ζa ?_<;>refine ζE 2 3 fun h2=>?_<;>refine xL 4 ζc ?_<;>refine xL 5 ζc ?_<;>refine ζb (nav ?_)<;>try dsimp only)
 (refine ζa ?_<;>(refine yL 13 (ζp 2 ZbE) fun v13 h=>?_;cases h)<;>(refine cS 14 (cA Tryz.call24 (hV)) fun v14 h=>?_;cases h)<;>refine xL 15 Zak ?_<;>refine ζb (nav ?_)<;>try dsimp only)
 (first|refine cCd ?_ ?_|refine cC ?_ ?_)<;>intro hb15
 · first
   |exact Bool.noConfusion hb15
   | (
    have hX:accTX t w=(false,1):=by unfold accTX;rw [if_neg (by simpa using hb15)]
    rw [hX]
    refine nav ?_
    (refine ζa ?_<;>refine xL 4 ζc ?_<;>refine xL 5 ζc ?_<;>refine ζb (nav ?_)<;>try dsimp only)
    exact Za8 (Tryz.results19) rfl rfl rfl)
 · first
   |exact Bool.noConfusion hb15
   | (
    have hv:ZcB t=true:=by simpa using hb15
    refine nav ?_
    (refine ζa ?_<;>refine xL 16 ζd ?_<;>refine xL 17 (ζV Zh0) ?_<;>refine xL 18 ZaH ?_<;>refine ζb (nav ?_)<;>try dsimp only)
    (first|refine cCd ?_ ?_|refine cC ?_ ?_)<;>intro hb18
    · first
      |exact Bool.noConfusion hb18
      | (
       have hX:accTX t w=(false,5):=by unfold accTX;rw [if_pos hv,if_pos (by omega)]
       rw [hX]
       refine nav ?_
       (refine ζa ?_<;>refine xL 4 ζc ?_<;>refine xL 5 ζc ?_<;>refine ζb (nav ?_)<;>try dsimp only)
       exact Za8 (Tryz.results19) rfl rfl rfl)
    · first
      |exact Bool.noConfusion hb18
      | (
       have hl:¬200<w.length:=by omega
       refine nav ?_
       (refine ζa ?_<;>(refine yL 20 (ζp 2 ZbE) fun v20 h=>?_;cases h)<;>(refine Zxj 21 (cA (Tryz.call66) hj) (fun va21 vb21 vc21 hva21 hvb21 hvc21=>?_) (hsh:=r5.t3 L E);cases hvc21)<;>refine xL 19 ζd ?_<;>refine xL 22 ζf ?_<;>refine xL 23 ζf ?_<;>refine xL 24 ζf ?_<;>refine ζr [(.int .i64 0),(.int .i64 0),(.slice none 0 0),(.slice none 0 0),(.slice none 0 0)] 5 6 Zea fun h6=>?_<;>refine ζC 6 ZbF ?_<;>refine xL 7 ζc ?_<;>refine xL 8 ζc ?_<;>refine ζb (nav ?_)<;>try dsimp only)
       (refine ζa ?_<;>refine xL 25 ζd ?_<;>refine xL 26 ZaD ?_<;>refine ζb (nav ?_)<;>try dsimp only)
       (first|refine cCd ?_ ?_|refine cC ?_ ?_)<;>intro hb26
       · first
         |exact Bool.noConfusion hb26
         | (
          rw [ZvT hv hl hO hb26]
          refine nav ?_
          (refine ζa ?_<;>refine xL 27 ζd ?_<;>refine xL 4 ζc ?_<;>refine xL 5 ζc ?_<;>refine ζb (nav ?_)<;>try dsimp only)
          exact Za8 (Tryz.results19) rfl rfl rfl)
       · first
         |exact Bool.noConfusion hb26
         | (
          obtain ⟨A,h1,h2,rfl,rfl,rfl,rfl,rfl,rfl⟩:=hO.yes (by simpa using hb26)
          rw [Zty hv hl h1 h2]
          obtain ⟨mA,sA,mL⟩:=Zyv h1 h2
          refine nav ?_
          (refine ζa ?_<;>refine xL 9 ζc ?_<;>refine ζb (nav ?_)<;>try dsimp only)
          (refine ζa ?_<;>refine xL 28 ζd ?_<;>refine xL 29 (ζV Zh0) ?_<;>refine xL 30 ζd ?_<;>refine ζb (nav ?_)<;>try dsimp only)
          refine ζv (Zb2 200 3 1 rfl) fun _=>?_
          refine ζy (ι:={q:Nat×Value//q.1≤w.length∧q.2.oneCell'=true∧((w.take q.1).any fun s=>decide (Zaz L s<0))=false}) (fun k=>⟨[(4,_,_),(5,_,_),(6,_,_),(7,_,_),(8,_,_),(28,_,_),(29,_,_),(9,k.1.2, .val k.1.2),(30, .int .i64 k.1.1,pInt k.1.1)],[(2,_,_),(6,_,_),(200,k.1.2, .own 3 1 (Zbl L (w.take k.1.1)).length ((Zbl L (w.take k.1.1)).map pInt))]⟩) (fun k=>w.length-k.1.1) ⟨(0, .slice none 0 0),Nat.zero_le _,rfl,rfl⟩ (fun a w H=>H.weaken ⟨rfl,rfl,rfl,rfl,rfl,rfl,rfl,rfl,rfl,trivial⟩ ⟨rfl,rfl,rfl,trivial⟩) ?_
          rintro ⟨⟨i,hv9⟩,hi,ho,hany⟩
          dsimp only
          dsimp only at hi ho hany
          have hpl:(Zbl L (w.take i)).length≤w.length:=by rw [Zh2,List.length_take];omega
          refine nav ?_
          (refine ζa ?_<;>refine xL 31 ζS ?_<;>refine ζb (nav ?_)<;>try dsimp only)
          (first|refine cCd ?_ ?_|refine cC ?_ ?_)<;>intro hb31
          · first
            |exact Bool.noConfusion hb31
            | (
             obtain ⟨s,hs⟩:=ζm (show i<w.length by omega)
             have e1:=Zaf (f:=ZaS) hs
             refine nav ?_
             (refine ζa ?_<;>refine xL 32 (ζJ Zh0) ?_<;>(refine yL 33 (Za3 ZvS) fun v33 h=>?_;cases h)<;>refine xL 11 ζc ?_<;>refine ζb (nav ?_)<;>try dsimp only)
             (refine ζa ?_<;>refine xL 34 ζd ?_<;>refine xL 35 ζd ?_<;>(refine cS 36 (cA Tryz.call67 (ZhY L s)) fun v36 h=>?_;cases h)<;>refine xL 12 ζc ?_<;>refine ζb (nav ?_)<;>try dsimp only)
             (refine ζa ?_<;>refine xL 37 ζd ?_<;>refine xL 38 ζS ?_<;>refine ζb (nav ?_)<;>try dsimp only)
             (first|refine cCd ?_ ?_|refine cC ?_ ?_)<;>intro hb38
             · first
               |exact Bool.noConfusion hb38
               | (
                have hX:(w.any fun s=>decide (Zaz L s<0))=true:=List.any_eq_true.2 ⟨s,List.mem_of_getElem? hs,decide_eq_true hb38⟩
                rw [if_pos hX]
                refine nav ?_
                (refine ζa ?_<;>refine xL 4 ζc ?_<;>refine xL 5 ζc ?_<;>refine ζb (nav ?_)<;>try dsimp only)
                exact Za8 (Tryz.results19) rfl rfl rfl)
             · first
               |exact Bool.noConfusion hb38
               | (
                refine nav ?_
                (refine ζa ?_<;>refine xL 39 ζd ?_<;>refine xL 40 ζd ?_<;>refine ζI (kk:=1) 41 Zl9 fun h41 ho41=>?_<;>(refine ζY 200 41 42 Zl9 fun h42 ho42=>?_;refine ζq (ζD (l:=42) 200 rfl rfl) fun _=>?_;refine ζq (ζN (l:=200) (p':= .own 3 1 (Zbl L (w.take (i+1))).length ((Zbl L (w.take (i+1))).map pInt)) rfl (by rw [Zma L hs];exact ZcN _ _ _)) fun _=>?_)<;>refine xL 9 ζc ?_<;>refine ζb (nav ?_)<;>try dsimp only)
                (refine ζa ?_<;>refine xL 43 ζM ?_<;>refine xL 30 ζd ?_<;>refine ζb (nav ?_)<;>try dsimp only)
                refine ζl (
                 ⟨(i+1,h42),ζe hs,ho42,by rw [ZvM hs,hany,decide_eq_false hb38];rfl⟩
                 ) (by dsimp only;omega) ⟨rfl,rfl,rfl,rfl,rfl,rfl,rfl,rfl,rfl,trivial⟩ ⟨rfl,rfl,rfl,trivial⟩))
          · first
            |exact Bool.noConfusion hb31
            | (
             have hall:w.take i=w:=List.take_of_length_le (by omega)
             rw [hall] at hany
             rw [if_neg (by rw [hany];decide)]
             refine ζv (En.freeze (l:=200) (t:=9) rfl rfl) fun _=>?_
             rw [ζL _ _ _ rfl]
             obtain ⟨u,k1,k2,k3⟩:=ZhQ hany
             have hac:ZtW A (Zbl L w)=(ZfV A (Zbl L w),0):=Zyt mA.valid (by rw [Zh2];omega) (fun c hc=>by
              rw [k2] at hc
              unfold wI at hc
              obtain ⟨x,hx,rfl⟩:=List.mem_map.1 hc
              have:=k1 x hx
              rw [sA];omega)
             have hj2:=Zm1 A (Zbl L w)
             rw [hac] at hj2
             dsimp only at hj2
             rw [←hall] at hj2
             refine nav ?_
             (refine ζa ?_<;>(refine yL 44 (ζp 6 ZbF) fun v44 h=>?_;cases h)<;>refine xL 45 ζd ?_<;>(refine cP 46 (cA Tryz.call68 (hj2)) fun va46 vb46 hva46 hvb46=>?_;cases hva46;cases hvb46)<;>refine xL 47 ζf ?_<;>refine xL 48 ζf ?_<;>refine xL 4 ζc ?_<;>refine xL 5 ζc ?_<;>refine ζb (nav ?_)<;>try dsimp only)
             refine Za8 (Tryz.results19) rfl rfl ?_
             rw [hall]))))
theorem ZaF:AggT Tryz.prog 24 3=true:=by kernel_rfl
theorem ZeD:AggT Tryz.prog 39 5=true:=by kernel_rfl
theorem ZnD:FldT Tryz.prog 24 0 0=true:=by kernel_rfl
theorem ZnE:FldT Tryz.prog 24 1 1=true:=by kernel_rfl
theorem Zh3:FldT Tryz.prog 24 2 2=true:=by kernel_rfl
theorem Ztz:MpT Tryz.prog 76 9 4 .string (.bool false):=⟨Tryz.underlying76,Tryz.underlying9, .inl rfl,by show ZeroT _ _ _;unfold ZeroT;kernel_rfl⟩
theorem Zmb:NoAgg Tryz.prog 22=true:=by kernel_rfl
theorem ZvU:NoAgg Tryz.prog 3=true:=by kernel_rfl
theorem ZvV:NoAgg Tryz.prog 9=true:=by kernel_rfl
theorem Zfy:SlT Tryz.prog 22 24 3=true:=by kernel_rfl
theorem ZtA:SlT Tryz.prog 27 9 1=true:=by kernel_rfl
theorem Zmc:ZeroT Tryz.prog 24 (.agg #[(.int .i64 0),(.string ByteArray.empty),(.slice none 0 0)]):=by unfold ZeroT;kernel_rfl
theorem Zmd:ZeroT Tryz.prog 39 (.agg #[(.int .i64 0),(.int .i64 0),(.slice none 0 0),(.slice none 0 0),(.slice none 0 0)]):=by unfold ZeroT;kernel_rfl
set_option maxHeartbeats 4000000 in
theorem Zh4:∀(t:Nd),okT t=true→szT t≤1000000→∀(ks:List ByteArray) (m V:Value),AFh False Tryz.prog 48 [(0,V,pTr t),(1,m, .val m)] [(1000,m, .omap (skv (ZdD ks)))] (fun v q h=>h=[(1000,m, .omap (skv (ZdD (colS ks (Za5 t)))))]):=Nd.ind fun o a l ih hok hs ks m V=>by
 have e0:pTr (.mk o a l)= .agg [pInt o,ZaS a,ZbT l]:=rfl
 rw [e0]
 obtain ⟨hr,hp⟩:=ZbM.1 hok
 have hsz:=ZrE (.mk o a l)
 have hlz:=Zg8 l
 simp only [Nd.l,Nd.op] at hp hsz
 obtain ⟨K,hK⟩:∃K,K=if o=1 then setK ks a else ks:=⟨_,rfl⟩
 have hres:colS ks (Za5 (.mk o a l))=colS K (Ze1 l):=by
  rw [hK,Za5]
  split<;>rfl
 rw [hres]
 refine AFh.of_body 23 Tryz.func48 rfl Tryz.ntmps48 (Nat.le_of_ble_eq_true rfl) rfl ?_
 intro w0 M0 N0
 refine nav ?_
 (refine ζa ?_<;>refine ζE 2 3 fun h2=>?_<;>refine ζb (nav ?_)<;>try dsimp only)
 (refine ζa ?_<;>refine xL 6 (ζh 2 ZnD) ?_<;>(refine yL 7 (ζs 2 ZvU) fun v7 h=>?_;cases h)<;>refine xL 8 Zag ?_<;>refine ζb (nav ?_)<;>try dsimp only)
 (first|refine cCd ?_ ?_|refine cC ?_ ?_)<;>intro hb8
 · first
   |exact Bool.noConfusion hb8
   | (
    refine nav ?_
    (refine ζa ?_<;>refine xL 9 ζd ?_<;>refine xL 10 (ζh 2 ZnE) ?_<;>(refine yL 11 (ζs 2 ZvV) fun v11 h=>?_;cases h)<;>(refine ZgT 1000 Ztz ?_;rw [Zoi,show setK ks a=K by rw [hK,if_pos (by assumption)]])<;>refine ζb (nav ?_)<;>try dsimp only)
    (refine ζa ?_<;>refine xL 12 (ζh 2 Zh3) ?_<;>(refine yL 13 (ζs 2 Zmb) fun v13 h=>?_;cases h)<;>refine xL 14 (ζV Zfy) ?_<;>refine xL 15 ζd ?_<;>refine ζb (nav ?_)<;>try dsimp only)
    refine ζy (ι:={q:Nat×List ByteArray//q.1≤l.length∧q.2=colS K (Ze1 (l.take q.1))}) (fun k=>⟨[(1,_,_),(13,_,_),(14,_,_),(15, .int .i64 k.1.1,pInt k.1.1)],[(1000,m, .omap (skv (ZdD k.1.2)))]⟩) (fun k=>l.length-k.1.1) ⟨(0,K),Nat.zero_le _,by rw [List.take_zero];rfl⟩ (fun a w H=>H.weaken ⟨rfl,rfl,rfl,rfl,trivial⟩ ⟨rfl,trivial⟩) ?_
    rintro ⟨⟨i,S⟩,hi,hS⟩
    dsimp only
    dsimp only at hi hS
    refine nav ?_
    (refine ζa ?_<;>refine xL 16 ζS ?_<;>refine ζb (nav ?_)<;>try dsimp only)
    (first|refine cCd ?_ ?_|refine cC ?_ ?_)<;>intro hb16
    · first
      |exact Bool.noConfusion hb16
      | (
       obtain ⟨x,hx⟩:=ζm (show i<l.length by omega)
       have e1:((Zjh l).drop (i*3)).take 3=[pInt x.op,ZaS x.act,ZbT x.l]:=ZbX hx
       have e2:=Zc4 hx
       have hxm:=List.mem_of_getElem? hx
       have hxs:=ZdN hxm
       have hsn:=Zfd hx
       refine nav ?_
       (refine ζa ?_<;>refine xL 17 (ζJ Zfy) ?_<;>(refine yL 18 (Zbm ZaF) fun v18 h=>?_;cases h)<;>refine ζr [(.int .i64 0),(.string ByteArray.empty),(.slice none 0 0)] 3 5 Zmc fun h5=>?_<;>refine ζC 5 ZaF ?_<;>refine ζb (nav ?_)<;>try dsimp only)
       (refine ζa ?_<;>(refine yL 19 (ζp 5 ZaF) fun v19 h=>?_;cases h)<;>refine xL 20 ζd ?_<;>(refine Za4 [(1000,m, .omap (skv (ZdD S)))] ⟨rfl,trivial⟩ ?_;refine ZeG [] 21 (Tryz.call48) (ih x hxm (hp x hxm) (by omega) S m v19) (fun v21 p21 h21 hR21=>?_);subst hR21)<;>refine ζb (nav ?_)<;>try dsimp only)
       (refine ζa ?_<;>refine xL 22 ζM ?_<;>refine xL 15 ζd ?_<;>refine ζb (nav ?_)<;>try dsimp only)
       refine ζl (
        ⟨(i+1,colS S (Za5 x)),ζe hx,by dsimp only;rw [hsn,Zfa,←hS]⟩
        ) (by dsimp only;omega) ⟨rfl,rfl,rfl,rfl,trivial⟩ ⟨rfl,trivial⟩)
    · first
      |exact Bool.noConfusion hb16
      | (
       refine nav ?_
       have hS2:S=colS K (Ze1 l):=by rw [hS,List.take_of_length_le (by omega)]
       refine Zgc [(1000,m, .omap (skv (ZdD S)))] (Tryz.results48) ⟨rfl,trivial⟩ ?_
       rw [hS2]))
 · first
   |exact Bool.noConfusion hb8
   | (
    rw [show ks=K by rw [hK,if_neg (by assumption)]]
    refine nav ?_
    (refine ζa ?_<;>refine xL 12 (ζh 2 Zh3) ?_<;>(refine yL 13 (ζs 2 Zmb) fun v13 h=>?_;cases h)<;>refine xL 14 (ζV Zfy) ?_<;>refine xL 15 ζd ?_<;>refine ζb (nav ?_)<;>try dsimp only)
    refine ζy (ι:={q:Nat×List ByteArray//q.1≤l.length∧q.2=colS K (Ze1 (l.take q.1))}) (fun k=>⟨[(1,_,_),(13,_,_),(14,_,_),(15, .int .i64 k.1.1,pInt k.1.1)],[(1000,m, .omap (skv (ZdD k.1.2)))]⟩) (fun k=>l.length-k.1.1) ⟨(0,K),Nat.zero_le _,by rw [List.take_zero];rfl⟩ (fun a w H=>H.weaken ⟨rfl,rfl,rfl,rfl,trivial⟩ ⟨rfl,trivial⟩) ?_
    rintro ⟨⟨i,S⟩,hi,hS⟩
    dsimp only
    dsimp only at hi hS
    refine nav ?_
    (refine ζa ?_<;>refine xL 16 ζS ?_<;>refine ζb (nav ?_)<;>try dsimp only)
    (first|refine cCd ?_ ?_|refine cC ?_ ?_)<;>intro hb16
    · first
      |exact Bool.noConfusion hb16
      | (
       obtain ⟨x,hx⟩:=ζm (show i<l.length by omega)
       have e1:((Zjh l).drop (i*3)).take 3=[pInt x.op,ZaS x.act,ZbT x.l]:=ZbX hx
       have e2:=Zc4 hx
       have hxm:=List.mem_of_getElem? hx
       have hxs:=ZdN hxm
       have hsn:=Zfd hx
       refine nav ?_
       (refine ζa ?_<;>refine xL 17 (ζJ Zfy) ?_<;>(refine yL 18 (Zbm ZaF) fun v18 h=>?_;cases h)<;>refine ζr [(.int .i64 0),(.string ByteArray.empty),(.slice none 0 0)] 3 5 Zmc fun h5=>?_<;>refine ζC 5 ZaF ?_<;>refine ζb (nav ?_)<;>try dsimp only)
       (refine ζa ?_<;>(refine yL 19 (ζp 5 ZaF) fun v19 h=>?_;cases h)<;>refine xL 20 ζd ?_<;>(refine Za4 [(1000,m, .omap (skv (ZdD S)))] ⟨rfl,trivial⟩ ?_;refine ZeG [] 21 (Tryz.call48) (ih x hxm (hp x hxm) (by omega) S m v19) (fun v21 p21 h21 hR21=>?_);subst hR21)<;>refine ζb (nav ?_)<;>try dsimp only)
       (refine ζa ?_<;>refine xL 22 ζM ?_<;>refine xL 15 ζd ?_<;>refine ζb (nav ?_)<;>try dsimp only)
       refine ζl (
        ⟨(i+1,colS S (Za5 x)),ζe hx,by dsimp only;rw [hsn,Zfa,←hS]⟩
        ) (by dsimp only;omega) ⟨rfl,rfl,rfl,rfl,trivial⟩ ⟨rfl,trivial⟩)
    · first
      |exact Bool.noConfusion hb16
      | (
       refine nav ?_
       have hS2:S=colS K (Ze1 l):=by rw [hS,List.take_of_length_le (by omega)]
       refine Zgc [(1000,m, .omap (skv (ZdD S)))] (Tryz.results48) ⟨rfl,trivial⟩ ?_
       rw [hS2]))
theorem Zme (par:List (Int×Int)):∀f i,(Zht par f i).length≤f
 |0,_=>Nat.le_refl _
 | f + 1,i=>by
   rw [Zht]
   split
   · split
     · exact Nat.zero_le _
     · rename_i x _ _
       rw [List.length_append,List.length_singleton]
       have:=Zme par f x.1.toNat
       omega
   · exact Nat.zero_le _
theorem ZvW {a b:Aut} (ha:IsMin a) (hb:IsMin b) (hs:a.syms=b.syms) (op:Int):(cmpX a b op).2.1.length≤2000:=by
 have hf:Zdl a b=0:=Zna ha.valid hb.valid hs
 cases hq:prodQ a b with
 |none=>rw [ZlM hf ha.red hb.red hq];exact Nat.zero_le _
 | some q=>
   obtain ⟨o,rows⟩:=q
   have hP:PQ a b o rows:=⟨ha,hb,hs,hq⟩
   have hcap:=hP.ok.2.2
   rw [ZlL (op:=op) hf ha.red hb.red hq]
   dsimp only
   unfold ZjM
   dsimp only
   cases hx:(o.map (ZbI a b op)).idxOf? true with
   |none=>exact Nat.zero_le _
   | some i=>
     obtain ⟨hi,_⟩:=Zo8.1 hx
     have hil:i<o.length:=by have:=ζe hi;rwa [List.length_map] at this
     have:=Zme (o.map (·.2)) (i+1) i
     dsimp only
     omega
structure CmpR (a b:Aut) (m:Nat) (s:Bool) (v:List Int) (e:Int):Prop where
 eq:cmpX a b 4=(s,v,e)
 inn:∀i∈v,0≤i∧i<m
 len:v.length≤2000
 nil:(¬e=0∨s=true)→v=[]
 fal:¬e=0→s=false
theorem Zz7 {a b:Aut} {m:Nat} (ha:IsMin a) (hb:IsMin b) (sa:a.syms=m) (sb:b.syms=m):∃s v e,CmpR a b m s v e:=by
 have hs:a.syms=b.syms:=by rw [sa,sb]
 have hl:=ZvW ha hb hs 4
 rcases Zs3 ha hb hs 4 with h|⟨h,_⟩|⟨u,hu,h,_⟩
 · exact ⟨_,_,_,h,fun i hi=>(by cases hi),Nat.zero_le _,fun _=>rfl,fun _=>rfl⟩
 · exact ⟨_,_,_,h,fun i hi=>(by cases hi),Nat.zero_le _,fun _=>rfl,fun h=>absurd rfl h⟩
 · rw [h] at hl
   refine ⟨_,_,_,h,fun i hi=>?_,hl,fun h=>?_,fun _=>rfl⟩
   · unfold wI at hi
     obtain ⟨x,hx,rfl⟩:=List.mem_map.1 hi
     have:=(ZlQ sa).1 hu x hx
     omega
   · rcases h with h|h
     · exact absurd rfl h
     · cases h
theorem ZvX {a b:Nd} (h:¬(ZcB a=true∧ZcB b=true)):eqTX a b=(false,[],1):=by unfold eqTX;rw [if_neg h]
theorem ZvY {a b:Nd} (h:ZcB a=true∧ZcB b=true) (hl:40<(unT a b).length):eqTX a b=(false,[],5):=by
 unfold eqTX
 rw [Zj9] at hl
 rw [if_pos h,if_neg (by omega)]
theorem ZtB {a b:Nd} (h:ZcB a=true∧ZcB b=true) (hl:(unT a b).length≤40) (hn:bldT (unT a b) a=none∨bldT (unT a b) b=none):eqTX a b=(false,[],13):=by
 unfold eqTX
 rw [Zj9] at hl
 rw [if_pos h,if_pos hl]
 rcases hn with hn|hn
 · rw [hn]
 · rw [hn];cases bldT (unT a b) a<;>rfl
theorem Zyw {a b:Nd} (h:ZcB a=true∧ZcB b=true) (hl:(unT a b).length≤40) {x y:Aut} (hx:bldT (unT a b) a=some x) (hy:bldT (unT a b) b=some y) {m:Nat} {s:Bool} {v:List Int} {e:Int} (hc:CmpR x y m s v e):eqTX a b=(s,nmI (unT a b) v,e):=by
 unfold eqTX
 rw [Zj9] at hl
 rw [if_pos h,if_pos hl,hx,hy]
 dsimp only
 rw [hc.eq]
theorem Zz8 {a b:Nd} (h:ZcB a=true∧ZcB b=true) (hl:(unT a b).length≤40):(∀A,bldT (unT a b) a=some A→IsMin A∧A.syms=(unT a b).length)∧∀A,bldT (unT a b) b=some A→IsMin A∧A.syms=(unT a b).length:=
 ⟨fun A hA=>by obtain ⟨k1,k2,_⟩:=ZlP (ZwH a b) hl h.1 (fun s hs=>Zj8.2 (.inl hs)) hA;exact ⟨k1,k2⟩,fun A hA=>by obtain ⟨k1,k2,_⟩:=ZlP (ZwH a b) hl h.2 (fun s hs=>Zj8.2 (.inr hs)) hA;exact ⟨k1,k2⟩⟩
theorem ZtC:∀t:Nd,okT t=true→∀s∈Za5 t,s.size≤40:=Nd.ind fun o a l ih h s hs=>by
 obtain ⟨hr,hp⟩:=ZbM.1 h
 rw [Za5] at hs
 have hL:s∈Ze1 l→s.size≤40:=fun hs=>by
  obtain ⟨x,hx,h1⟩:=Zdq.1 hs
  exact ih x hx (hp x hx) s h1
 split at hs
 · rcases List.mem_cons.1 hs with rfl|hs
   · exact ZrM hr
   · exact hL hs
 · exact hL hs
set_option maxHeartbeats 4000000 in
theorem Zin (a b : Nd) (hfa:FitT a) (hfb:FitT b):AF Tryz.prog 12 [pTr a,pTr b] (· = .tup [ζO (eqTX a b).1,Zao (eqTX a b).2.1,pInt (eqTX a b).2.2]):=by
 have ea:pTr a= .agg [pInt a.op,ZaS a.act,ZbT a.l]:=rfl
 have eb:pTr b= .agg [pInt b.op,ZaS b.act,ZbT b.l]:=rfl
 have hVa:=ZcI a hfa
 have hVb:=ZcI b hfb
 rw [ea] at hVa ⊢
 rw [eb] at hVb ⊢
 refine AF.of_body 70 Tryz.func12 rfl Tryz.ntmps12 (Nat.le_of_ble_eq_true rfl) ?_
 intro w0 M0 vs hl hv
 obtain ⟨v0,v1,rfl⟩:=Zb3 hl
 clear hl hv
 refine nav ?_
 (refine ζa ?_<;>refine ζE 2 3 fun h2=>?_<;>refine ζE 3 3 fun h3=>?_<;>refine xL 4 ζc ?_<;>refine xL 5 ζc ?_<;>refine xL 6 ζc ?_<;>refine ζb (nav ?_)<;>try dsimp only)
 (refine ζa ?_ <;> (refine yL 14 (ζp 2 ZaF) fun v14 h=>?_;cases h)<;>(refine cS 15 (cA Tryz.call24 (hVa)) fun v15 h=>?_;cases h)<;>refine xL 16 Zak ?_<;>refine xL 17 ζd ?_<;>(refine bL 17 (fun hb17=>?_) (fun hb17=>?_)<;>(first|refine kL 18 ?_|(refine yL 18 (ζp 3 ZaF) fun v18 h=>?_;cases h)))<;>(first|refine kL 19 ?_|(refine cS 19 (cA Tryz.call24 (hVb)) fun v19 h=>?_;cases h))<;>(first|refine kL 20 ?_|refine xL 20 Zak ?_)<;>refine xL 21 ζF ?_<;>refine ζb (nav ?_)<;>try dsimp only)<;>(
  (first|refine cCd ?_ ?_|refine cC ?_ ?_)<;>intro hb21
  · first
    |exact Bool.noConfusion hb21
    | (
     have hno:¬(ZcB a=true∧ZcB b=true):=by
      rintro ⟨h1,h2⟩
      first|(rw [h1] at hb17;simp at hb17;done)|(rw [h2] at hb21;simp at hb21;done)
     rw [ZvX hno]
     refine nav ?_
     (refine ζa ?_<;>refine xL 4 ζc ?_<;>refine xL 5 ζc ?_<;>refine xL 6 ζc ?_<;>refine ζb (nav ?_)<;>try dsimp only)
     refine Za7 (Zcj (t:=5) rfl) fun _=>?_
     exact ZpR (Tryz.results12) (.tmp rfl) (.tmp rfl) (.tmp rfl) rfl)
  · first
    |exact Bool.noConfusion hb21
    | (
     have hva:ZcB a=true:=by first|(simpa using hb17)|(exfalso;simp_all;done)
     have hvb:ZcB b=true:=by first|(simpa using hb21)|(exfalso;simp_all;done)
     have hv:ZcB a=true∧ZcB b=true:=⟨hva,hvb⟩
     have hoa:=Ze7 hva
     have hob:=Ze7 hvb
     have hsa:=Zit hva
     have hsb:=Zit hvb
     have hcol:∀V m,AFh False Tryz.prog 48 [(0,V, .agg [pInt a.op,ZaS a.act,ZbT a.l]),(1,m, .val m)] [(1000,m, .omap (skv (ZdD [])))] (fun v q h=>h=[(1000,m, .omap (skv (ZdD (colS [] (Za5 a)))))]):=fun V m=>Zh4 a hoa (by omega) [] m V
     have hcol2:∀V m,AFh False Tryz.prog 48 [(0,V, .agg [pInt b.op,ZaS b.act,ZbT b.l]),(1,m, .val m)] [(1000,m, .omap (skv (ZdD (colS [] (Za5 a)))))] (fun v q h=>h=[(1000,m, .omap (skv (ZdD (unK a b))))]):=fun V m=>Zh4 b hob (by omega) _ m V
     have hkl:(unK a b).length≤1000000:=by
      have h1:=Zjo (Za5 b) (colS [] (Za5 a))
      have h2:=Zjo (Za5 a) []
      have h3:=Zs5 a hoa
      have h4:=Zs5 b hob
      rw [List.length_nil] at h2
      unfold unK
      omega
     have hks:∀s∈unK a b,s.size≤140737488355328:=fun s hs=>by
      rcases Zs4.1 hs with h|h
      · have:=ZtC a hoa s h;omega
      · have:=ZtC b hob s h;omega
     refine nav ?_
     (refine ζa ?_<;>refine ZeT 22 fun h22 ho22=>?_<;>refine xL 7 ζc ?_<;>refine ζb (nav ?_)<;>try dsimp only)
     refine ζv (ζD (l:=22) 1000 rfl rfl) fun _=>?_
     (refine ζa ?_<;>(refine yL 23 (ζp 2 ZaF) fun v23 h=>?_;cases h)<;>refine xL 24 ζd ?_<;>(refine Za4 [(1000,h22, .omap (skv (ZdD []))),(2,_,_),(3,_,_)] ⟨rfl,rfl,rfl,trivial⟩ ?_;refine ZeG [2,3] 25 (Tryz.call48) (hcol v23 h22) (fun v25 p25 h25 hR25=>?_);subst hR25)<;>refine ζb (nav ?_)<;>try dsimp only)
     (refine ζa ?_<;>(refine yL 26 (ζp 3 ZaF) fun v26 h=>?_;cases h)<;>refine xL 27 ζd ?_<;>(refine Za4 [(1000,h22, .omap (skv (ZdD (colS [] (Za5 a))))),(2,_,_),(3,_,_)] ⟨rfl,rfl,rfl,trivial⟩ ?_;refine ZeG [2,3] 28 (Tryz.call48) (hcol2 v26 h22) (fun v28 p28 h28 hR28=>?_);subst hR28)<;>refine ζb (nav ?_)<;>try dsimp only)
     refine ζv (En.freeze (l:=1000) (t:=7) rfl rfl) fun _=>?_
     (refine ζa ?_<;>refine xL 29 ζd ?_<;>refine ZzF (k1:=95) (t:=76) 30 ZA0 (Tryz.call50) (fun g30 b30 c30 es30 hkv30 hWf30=>?_)<;>refine ZrP (ks:=unK a b) 30 31 ZuE (Tryz.call49) (fun h=>h) hWf30 hkv30.symm (ZwG a b) hkl hks (fun v31 ho31=>?_)<;>refine xL 8 ζc ?_<;>refine ζb (nav ?_)<;>try dsimp only)
     refine ζv (En.freeze (l:=31) (t:=8) rfl rfl) fun _=>?_
     rw [Ziv _ _ _ (show (unK a b).length=(Zgg (unK a b)).length from (Zfb _).symm)]
     rw [show Zgg (unK a b)=unT a b from rfl]
     (refine ζa ?_<;>refine xL 32 ζd ?_<;>refine xL 33 (ζV ZtA) ?_<;>refine xL 34 ZaH ?_<;>refine ζb (nav ?_)<;>try dsimp only)
     (first|refine cCd ?_ ?_|refine cC ?_ ?_)<;>intro hb34
     · first
       |exact Bool.noConfusion hb34
       | (
        rw [ZvY hv (by omega)]
        refine nav ?_
        (refine ζa ?_<;>refine xL 4 ζc ?_<;>refine xL 5 ζc ?_<;>refine xL 6 ζc ?_<;>refine ζb (nav ?_)<;>try dsimp only)
        refine Za7 (Zcj (t:=5) rfl) fun _=>?_
        exact ZpR (Tryz.results12) (.tmp rfl) (.tmp rfl) (.tmp rfl) rfl)
     · first
       |exact Bool.noConfusion hb34
       | (
        have hl:(unT a b).length≤40:=by omega
        obtain ⟨mina,minb⟩:=Zz8 hv hl
        obtain ⟨p0,p1,p2,p3,p4,E,hR⟩:=ZvQ (bldT (unT a b) a)
        have hj:=Zfx (unT a b) hl a hoa (by omega) (fun s hs=>Zj8.2 (.inl hs))
        rw [hR.eq,ea] at hj
        have r5:=hR.r5
        obtain ⟨o0,o1,o2,o3,o4⟩:=r5.o
        obtain ⟨q0,q1,q2,q3,q4,F,hQ⟩:=ZvQ (bldT (unT a b) b)
        have hk:=Zfx (unT a b) hl b hob (by omega) (fun s hs=>Zj8.2 (.inr hs))
        rw [hQ.eq,eb] at hk
        have s5:=hQ.r5
        obtain ⟨u0,u1,u2,u3,u4⟩:=s5.o
        refine nav ?_
        (refine ζa ?_<;>(refine yL 36 (ζp 2 ZaF) fun v36 h=>?_;cases h)<;>refine xL 37 ζd ?_<;>(refine cP 38 (cA (Tryz.call51) hj) (fun va38 vb38 hva38 hvb38=>?_) (hsh:=r5.t E);cases hvb38)<;>refine xL 35 ζd ?_<;>refine xL 39 ζf ?_<;>refine xL 40 ζf ?_<;>refine ζr [(.int .i64 0),(.int .i64 0),(.slice none 0 0),(.slice none 0 0),(.slice none 0 0)] 5 9 Zmd fun h9=>?_<;>refine ζC 9 ZeD ?_<;>refine xL 10 ζc ?_<;>refine ζb (nav ?_)<;>try dsimp only)
        (refine ζa ?_<;>refine xL 41 ζd ?_<;>refine xL 42 ZaD ?_<;>refine ζb (nav ?_)<;>try dsimp only)
        (first|refine cCd ?_ ?_|refine cC ?_ ?_)<;>intro hb42
        · first
          |exact Bool.noConfusion hb42
          | (
           obtain ⟨hn,rfl⟩:=hR.no hb42
           rw [ZtB hv hl (.inl hn)]
           refine nav ?_
           (refine ζa ?_<;>refine xL 43 ζd ?_<;>refine xL 4 ζc ?_<;>refine xL 5 ζc ?_<;>refine xL 6 ζc ?_<;>refine ζb (nav ?_)<;>try dsimp only)
           refine Za7 (Zcj (t:=5) rfl) fun _=>?_
           exact ZpR (Tryz.results12) (.tmp rfl) (.tmp rfl) (.tmp rfl) rfl)
        · first
          |exact Bool.noConfusion hb42
          | (
           obtain ⟨A,hA,rfl,rfl,rfl,rfl,rfl,rfl⟩:=hR.yes (by simpa using hb42)
           refine nav ?_
           (refine ζa ?_<;>(refine yL 45 (ζp 3 ZaF) fun v45 h=>?_;cases h)<;>refine xL 46 ζd ?_<;>(refine cP 47 (cA (Tryz.call51) hk) (fun va47 vb47 hva47 hvb47=>?_) (hsh:=s5.t F);cases hvb47)<;>refine xL 44 ζd ?_<;>refine xL 48 ζf ?_<;>refine xL 49 ζf ?_<;>refine ζr [(.int .i64 0),(.int .i64 0),(.slice none 0 0),(.slice none 0 0),(.slice none 0 0)] 5 11 Zmd fun h11=>?_<;>refine ζC 11 ZeD ?_<;>refine xL 10 ζc ?_<;>refine ζb (nav ?_)<;>try dsimp only)
           (refine ζa ?_<;>refine xL 50 ζd ?_<;>refine xL 51 ZaD ?_<;>refine ζb (nav ?_)<;>try dsimp only)
           (first|refine cCd ?_ ?_|refine cC ?_ ?_)<;>intro hb51
           · first
             |exact Bool.noConfusion hb51
             | (
              obtain ⟨hn,rfl⟩:=hQ.no hb51
              rw [ZtB hv hl (.inr hn)]
              refine nav ?_
              (refine ζa ?_<;>refine xL 52 ζd ?_<;>refine xL 4 ζc ?_<;>refine xL 5 ζc ?_<;>refine xL 6 ζc ?_<;>refine ζb (nav ?_)<;>try dsimp only)
              refine Za7 (Zcj (t:=5) rfl) fun _=>?_
              exact ZpR (Tryz.results12) (.tmp rfl) (.tmp rfl) (.tmp rfl) rfl)
           · first
             |exact Bool.noConfusion hb51
             | (
              obtain ⟨B,hB,rfl,rfl,rfl,rfl,rfl,rfl⟩:=hQ.yes (by simpa using hb51)
              obtain ⟨mA,sA⟩:=mina A hA
              obtain ⟨mB,sB⟩:=minb B hB
              obtain ⟨s,v,e,hc⟩:=Zz7 mA mB sA sB
              have hj3:AF Tryz.prog 52 [ζW A,ζW B] (· = .tup [ζO s,pInts v,pInt e]):=by
               have:=Zkf A B
               rw [hc.eq] at this
               exact this
              rw [Zyw hv hl hA hB hc]
              have hvl:=hc.len
              refine nav ?_
              (refine ζa ?_<;>(refine yL 54 (ζp 9 ZeD) fun v54 h=>?_;cases h)<;>(refine yL 55 (ζp 11 ZeD) fun v55 h=>?_;cases h)<;>(refine Zxj 56 (cA (Tryz.call52) hj3) (fun va56 vb56 vc56 hva56 hvb56 hvc56=>?_);cases hva56;cases hvc56)<;>refine xL 53 ζd ?_<;>refine xL 57 ζf ?_<;>refine xL 58 ζf ?_<;>refine xL 59 ζf ?_<;>refine xL 12 ζc ?_<;>refine xL 13 ζc ?_<;>refine xL 10 ζc ?_<;>refine ζb (nav ?_)<;>try dsimp only)
              (refine ζa ?_<;>refine xL 60 ζd ?_<;>refine xL 61 ZaD ?_<;>refine xL 62 ζd ?_<;>(refine bLd 62 (fun hb62=>?_) (fun hb62=>?_)<;>(first|refine kL 63 ?_|refine xL 63 ζd ?_))<;>refine xL 64 ζF ?_<;>refine ζb (nav ?_)<;>try dsimp only)<;>(
               (first|refine cCd ?_ ?_|refine cC ?_ ?_)<;>intro hb64
               · first
                 |exact Bool.noConfusion hb64
                 | (
                  have hvn:v=[]:=hc.nil (by first|exact .inl (by simpa using hb62)|exact .inr (by simpa using hb64))
                  subst hvn
                  refine nav ?_
                  (refine ζa ?_<;>refine xL 65 ζd ?_<;>refine xL 66 ζd ?_<;>refine xL 4 ζc ?_<;>refine xL 5 ζc ?_<;>refine xL 6 ζc ?_<;>refine ζb (nav ?_)<;>try dsimp only)
                  refine Za7 (Zcj (t:=5) rfl) fun _=>?_
                  exact ZpR (Tryz.results12) (.tmp rfl) (.tmp rfl) (.tmp rfl) rfl)
               · first
                 |exact Bool.noConfusion hb64
                 | (
                  have hs0:s=false:=by first|(simpa using hb64)|(exfalso;simp_all;done)
                  have he0:e=0:=by first|(simpa using hb62)|(exfalso;simp_all;done)
                  subst hs0 he0
                  refine nav ?_
                  (refine ζa ?_<;>refine xL 67 ζd ?_<;>refine xL 68 ζd ?_<;>(refine cS 69 (cA Tryz.call53 (Zl5 v (unT a b) (by omega) hc.inn)) fun v69 h=>?_;cases h)<;>refine xL 4 ζc ?_<;>refine xL 5 ζc ?_<;>refine xL 6 ζc ?_<;>refine ζb (nav ?_)<;>try dsimp only)
                  exact ZpR (Tryz.results12) (.tmp rfl) (.tmp rfl) (.tmp rfl) rfl)))))))
theorem Zyx (a b:Nd):unT a b=canB (Za5 a++Za5 b):=by unfold unT unK canB;rw [Zfa]
def ZyP (i:Nat) (a:Aut):Option Aut:=match (Zz1 a).upto (Zkb a a.start) i with
 |some q=>if q.1.length≤i then Zbz ⟨a.syms.toNat,q.2,q.1.map (ZdV a)⟩ else none
 |none=>none
theorem Zki {i:Nat} (hi:i≤2000) {a A:Aut} (h:ZyP i a=some A):ZcS a= .ok A:=by
 unfold ZyP at h
 split at h
 · rename_i q hq
   split at h
   · rename_i hl
     exact Zx4 i hq hl hi h
   · cases h
 · cases h
def ZAy (i:Nat) (a:Aut):Option Aut:=if ζ5 a=true then ZyP i a else none
def ZyQ (i:Nat) (X:Aut):Option Aut:=if 2000<X.n∨20000<(mkM X.moves).length then none else ZyP i (mkA X)
theorem ZtD {i:Nat} (hi:i≤2000) {a A:Aut} (h:ZAy i a=some A):Zij a= .ok A:=by
 unfold ZAy at h
 unfold Zij
 split at h
 · rename_i h1;rw [if_pos h1];exact Zki hi h
 · cases h
theorem Zkj {i:Nat} (hi:i≤2000) {a A:Aut} (h:ZyQ i a=some A):ZdG a= .ok A:=by
 unfold ZyQ at h
 unfold ZdG Zsi
 split at h
 · cases h
 · rename_i h1
   rw [if_neg h1];exact Zki hi h
def Zz9 (i:Nat) (a b:Aut):Option Aut:=if Zdl a b=0 then ZyQ i (Zer a b) else none
def ZBe (i:Nat) (a b:Aut):Option Aut:=if Zdl a b=0 then ZyQ i (ZcL a b) else none
def ZBf (i:Nat) (a:Aut):Option Aut:=if ζ5 a=true then ZyQ i (ZdH a) else none
def ZBg (i:Nat) (a b:Aut):Option Aut:=if Zdl a b=0 then (if 2000<a.n*b.n∨40000<(a.moves.length:Int)*b.n+(b.moves.length:Int)*a.n then none else ZyQ i (ZcA a b)) else none
def Zyy (i:Nat) (a b:Aut):Option Aut:=(Zz9 i b a).bind fun x=>(ZBf i x).bind fun s=>Zz9 i a s
def ZAa (i:Nat) (o:Int) (a b:Aut):Option Aut:=if o=3 then Zz9 i a b else if o=4 then ZBe i a b else if o=6 then Zyy i a b else ZBg i a b
theorem ZnF {i:Nat} (hi:i≤2000) {a b A:Aut} (h:Zz9 i a b=some A):Zlq a b= .ok A:=by
 unfold Zz9 at h
 unfold Zlq
 split at h
 · rename_i h1;rw [if_neg (fun h=>h h1)];exact Zkj hi h
 · cases h
theorem Zyz {i:Nat} (hi:i≤2000) {a b A:Aut} (h:ZBe i a b=some A):Zfn a b= .ok A:=by
 unfold ZBe at h
 unfold Zfn
 split at h
 · rename_i h1;rw [if_neg (fun h=>h h1)];exact Zkj hi h
 · cases h
theorem ZyA {i:Nat} (hi:i≤2000) {a A:Aut} (h:ZBf i a=some A):ZeW a= .ok A:=by
 unfold ZBf at h
 unfold ZeW
 split at h
 · rename_i h1;rw [if_pos h1];exact Zkj hi h
 · cases h
theorem ZyB {i:Nat} (hi:i≤2000) {a b A:Aut} (h:ZBg i a b=some A):ZjZ a b= .ok A:=by
 unfold ZBg at h
 unfold ZjZ
 split at h
 · rename_i h1
   rw [if_neg (fun h=>h h1)]
   split at h
   · cases h
   · rename_i h2;rw [if_neg h2];exact Zkj hi h
 · cases h
theorem ZvZ {i:Nat} (hi:i≤2000) {a b A:Aut} (h:Zyy i a b=some A):Zfo a b= .ok A:=by
 unfold Zyy at h
 obtain ⟨x,h1,h⟩:=Option.bind_eq_some_iff.1 h
 obtain ⟨s,h2,h3⟩:=Option.bind_eq_some_iff.1 h
 unfold Zfo
 rw [ZnF hi h1]
 dsimp only
 rw [ZyA hi h2]
 exact ZnF hi h3
theorem ZyC {i:Nat} (hi:i≤2000) {o:Int} {a b A:Aut} (h:ZAa i o a b=some A):Zcf o a b= .ok A:=by
 unfold ZAa at h
 unfold Zcf
 split at h
 · rename_i h1;rw [if_pos h1];exact ZnF hi h
 rename_i h1
 rw [if_neg h1]
 split at h
 · rename_i h2;rw [if_pos h2];exact Zyz hi h
 rename_i h2
 rw [if_neg h2]
 split at h
 · rename_i h3;rw [if_pos h3];exact ZvZ hi h
 · rename_i h3;rw [if_neg h3];exact ZyB hi h
def ZBO (i:Nat) (o:Int):List (Option Aut)→Option Aut
 |[]=>none
 |x::l=>l.foldl (fun r p=>r.bind fun a=>p.bind fun b=>ZAa i o a b) x
mutual
def ZyR (i:Nat) (acts:List ByteArray):Nd→Option Aut
 | .mk o a l=>if o=1 then ZAy i (Zf0 acts.length (Zaz acts a)) else if o=2 then ZAy i (Zqr acts.length) else ZBO i o (Zv0 i acts l)
def Zv0 (i:Nat) (acts:List ByteArray):List Nd→List (Option Aut)
 |[]=>[]
 |x::l=>ZyR i acts x::Zv0 i acts l
end
theorem Zv1 (i:Nat) (acts:List ByteArray) (l:List Nd):Zv0 i acts l=l.map (ZyR i acts):=by
 induction l with
 |nil=>rfl
 |cons x l ih=>rw [Zv0,ih];rfl
theorem ZtE {i:Nat} (hi:i≤2000) {o:Int}:∀(l m:List (Option Aut)) (r s:Option Aut) {A:Aut},l.length=m.length→(∀(k:Nat) (x y:Option Aut) (B:Aut),l[k]? =some x→m[k]? =some y→x=some B→y=some B)→(∀B,r=some B→s=some B)→l.foldl (fun r p=>r.bind fun a=>p.bind fun b=>ZAa i o a b) r=some A→m.foldl (Zd8 o) s=some A
 |[],[],r,s,A,_,_,hr,h=>hr A h
 |[],_::_,_,_,_,h,_,_,_=>by simp at h
 |_::_,[],_,_,_,h,_,_,_=>by simp at h
 | x::l,y::m,r,s,A,hl,hm,hr,h=>by
   rw [List.foldl_cons] at h ⊢
   refine ZtE hi l m _ _ (by simpa using hl) (fun k x' y' B h1 h2=>hm (k+1) x' y' B (by simpa using h1) (by simpa using h2)) (fun B hB=>?_) h
   obtain ⟨a,h1,hB⟩:=Option.bind_eq_some_iff.1 hB
   obtain ⟨b,h2,hB⟩:=Option.bind_eq_some_iff.1 hB
   have h3:=hm 0 x y b rfl rfl h2
   rw [hr a h1,h3]
   show okO (Zcf o a b)=some B
   rw [ZyC hi hB];rfl
theorem ZnG {i:Nat} (hi:i≤2000) (acts:List ByteArray):∀(t:Nd) {A:Aut},ZyR i acts t=some A→bldT acts t=some A:=Nd.ind fun o a l ih A h=>by
 rw [ZyR] at h
 rw [bldT]
 split at h
 · rename_i h1
   rw [if_pos h1]
   show okO (Zij (Zf0 acts.length (Zaz acts a)))=some A
   rw [ZtD hi h];rfl
 rename_i h1
 rw [if_neg h1]
 split at h
 · rename_i h2
   rw [if_pos h2,ZtD hi h];rfl
 rename_i h2
 rw [if_neg h2,Zne]
 rw [Zv1] at h
 cases l with
 |nil=>cases h
 | cons x l=>
   have h3:(l.map (ZyR i acts)).foldl (fun r p=>r.bind fun a=>p.bind fun b=>ZAa i o a b) (ZyR i acts x)=some A:=h
   show (l.map (bldT acts)).foldl (Zd8 o) (bldT acts x)=some A
   refine ZtE hi _ _ _ _ (by simp) (fun k x' y' B h4 h5 h6=>?_) (fun B hB=>ih x (List.mem_cons_self ..) hB) h3
   rw [List.getElem?_map,Option.map_eq_some_iff] at h4 h5
   obtain ⟨z,hz,rfl⟩:=h4
   obtain ⟨z',hz',rfl⟩:=h5
   rw [hz] at hz'
   cases hz'
   exact ih z (List.mem_cons_of_mem _ (List.mem_of_getElem? hz)) h6
def sA:ByteArray:=⟨#[97]⟩
def sB:ByteArray:=⟨#[98]⟩
def sC:ByteArray:=⟨#[99]⟩
def lfT (s:ByteArray):Nd:= .mk 1 s []
def opT (o:Int) (l:List Nd):Nd:= .mk o ByteArray.empty l
def ZnH:Nd:=opT 3 [lfT sA,opT 4 [lfT sB,opT 2 []],lfT sC]
def Zmf:Nd:=opT 5 [lfT sA,opT 6 [lfT sB,opT 2 []]]
def Zmg:Nd:=opT 6 [lfT sB,lfT sA]
def ZBy (i:Nat) (a b:Aut) (op:Int):Option (Bool×List Int×Int):=if Zdl a b=0 then (ZyP i a).bind fun A=>(ZyP i b).bind fun B=>((Zbe A B).upto ((0,0),(-1,-1)) i).bind fun q=>if q.1.length≤i then some ((ZjM A B op q).1,(ZjM A B op q).2,0) else none else none
theorem ZyD {i:Nat} (hi:i≤2000) {a b:Aut} {op:Int} {r:Bool×List Int×Int} (h:ZBy i a b op=some r):cmpX a b op=r:=by
 unfold ZBy at h
 split at h
 · rename_i hf
   obtain ⟨A,hA,h⟩:=Option.bind_eq_some_iff.1 h
   obtain ⟨B,hB,h⟩:=Option.bind_eq_some_iff.1 h
   obtain ⟨q,hq,h⟩:=Option.bind_eq_some_iff.1 h
   split at h
   · rename_i hl
     cases h
     exact Zx5 hf (Zvv i (Zki hi hA) (Zki hi hB) hq hl hi)
   · cases h
 · cases h
def ZnI:Aut:=⟨5,3,[0],[4],[⟨0,1,0⟩,⟨0,2,1⟩,⟨0,2,2⟩,⟨1,2,0⟩,⟨1,3,1⟩,⟨1,4,2⟩,⟨2,2,0⟩,⟨2,2,1⟩,⟨2,2,2⟩,⟨3,2,0⟩,⟨3,2,1⟩,⟨3,4,2⟩,⟨4,2,0⟩,⟨4,2,1⟩,⟨4,2,2⟩]⟩
def ZAb:Aut:=⟨5,2,[0],[4],[⟨0,1,0⟩,⟨0,2,1⟩,⟨1,3,0⟩,⟨1,4,1⟩,⟨2,4,0⟩,⟨2,2,1⟩,⟨3,3,0⟩,⟨3,3,1⟩,⟨4,3,0⟩,⟨4,4,1⟩]⟩
def ZAc:Aut:=⟨3,2,[0],[2],[⟨0,1,0⟩,⟨0,2,1⟩,⟨1,1,0⟩,⟨1,1,1⟩,⟨2,0,0⟩,⟨2,1,1⟩]⟩
theorem ZyE:bldT [sA,sB,sC] ZnH=some ZnI:=ZnG (i:=30) (by decide) _ _ (by kernel_rfl)
theorem ZyF:bldT [sA,sB] Zmf=some ZAb:=ZnG (i:=30) (by decide) _ _ (by kernel_rfl)
theorem ZyG:bldT [sA,sB] Zmg=some ZAc:=ZnG (i:=30) (by decide) _ _ (by kernel_rfl)
theorem Zv2:cmpX ZAb ZAc 4=(false,[1],0):=ZyD (i:=30) (by decide) (by kernel_rfl)
theorem ZnJ:ZcB ZnH=true:=by decide+kernel
theorem ZtF:ZcB Zmf=true:=by decide+kernel
theorem ZtG:ZcB Zmg=true:=by decide+kernel
theorem Zv3:Zs6 [sA,sB,sC]:=by unfold Zs6;decide+kernel
theorem ZyH:actR ZnH=([sA,sB,sC],0):=by
 have h:[sA,sB,sC]=canB (Za5 ZnH):=Zs7 Zv3 fun s=>Iff.rfl
 have h2:(colS [] (Za5 ZnH)).length=3:=by
  have:=congrArg List.length h
  unfold canB at this
  rw [Zfb] at this
  exact this.symm
 unfold actR
 rw [if_pos ZnJ,if_pos (by omega)]
 exact Prod.ext h.symm rfl
theorem ZtH:unT Zmf Zmg=[sA,sB]:=by
 rw [Zyx]
 refine (Zs7 (show Zs6 [sA,sB] by unfold Zs6;decide+kernel) fun s=>?_).symm
 rw [show Za5 Zmf++Za5 Zmg=[sA,sB,sB,sA] from rfl]
 simp only [List.mem_cons,List.not_mem_nil,or_false]
 constructor
 · rintro (h|h)
   · exact .inl h
   · exact .inr (.inl h)
 · rintro (h|h|h|h)
   · exact .inl h
   · exact .inr h
   · exact .inr h
   · exact .inl h
theorem ZyI:eqTX Zmf Zmg=(false,[sB],0):=by
 have h2:=Zj9 Zmf Zmg
 rw [ZtH] at h2
 unfold eqTX
 rw [if_pos ⟨ZtF,ZtG⟩,if_pos (by rw [←h2];decide),ZtH,ZyF,ZyG]
 dsimp only
 rw [Zv2];rfl
theorem ZyJ:ζ5 ZnI=true:=by kernel_rfl
theorem Zpr:Zcb ZnI=[2,1,-1,1,0]:=by kernel_rfl
theorem Zv4:ZA9 ZnI [2,1,-1,1,0] 5=false:=by kernel_rfl
theorem Zv5:ZAx ZnI [2,1,-1,1,0] 5 6=[[0,2],[0,1,2]]:=by kernel_rfl
theorem ZbZ:AggT Tryz.prog 24 3=true:=by kernel_rfl
theorem Zi3:AggT Tryz.prog 39 5=true:=by kernel_rfl
theorem Zeb:ElT Tryz.prog 22 24 3 48 (.agg #[(.int .i64 0),(.string ByteArray.empty),(.slice none 0 0)]):=⟨Tryz.underlying22,by kernel_rfl,rfl,by decide⟩
theorem Zh5:ElT Tryz.prog 27 9 1 16 (.string ByteArray.empty):=⟨Tryz.underlying27,by kernel_rfl,rfl,by decide⟩
theorem Zh6:ElT Tryz.prog 71 27 1 24 (.slice none 0 0):=⟨Tryz.underlying71,by kernel_rfl,rfl,by decide⟩
theorem ZtI:NoAgg Tryz.prog 36=true:=by kernel_rfl
theorem Zps:NoAgg Tryz.prog 9=true:=by kernel_rfl
theorem Zi4:SlT Tryz.prog 117 36 1=true:=by kernel_rfl
theorem Zec:SlT Tryz.prog 27 9 1=true:=by kernel_rfl
theorem Zh7:Zbj Tryz.prog 24=some ((.agg #[(.int .i64 0),(.string ByteArray.empty),(.slice none 0 0)]),([0,1,2]:List Nat).map fun o=>(o,1)):=by kernel_rfl
theorem Zh8:ZeroT Tryz.prog 24 (.agg #[(.int .i64 0),(.string ByteArray.empty),(.slice none 0 0)]):=by unfold ZeroT;kernel_rfl
theorem ZtJ:ZeroT Tryz.prog 39 (.agg #[(.int .i64 0),(.int .i64 0),(.slice none 0 0),(.slice none 0 0),(.slice none 0 0)]):=by unfold ZeroT;kernel_rfl
theorem ZqE (e:Nat) (L:List (List ByteArray)) (x:List ByteArray):PV.own e 1 (L.length+1) (L.map Zao++[Zao x])= .own e 1 (L++[x]).length ((L++[x]).map Zao):=by simp
theorem Zmh (e n:Nat) (l:List (List ByteArray)) (hn:n=l.length):share (.own e 1 n (l.map Zao))=Zio l:=by
 subst hn
 rw [share,ζ3,List.map_map];rfl
set_option maxHeartbeats 1000000 in
theorem ZqF (t :Nd) (hf:FitT t) (hv:ZcB t=true) {L:List ByteArray} {A:Aut} (hA:actR t=(L,0)) (hB:bldT L t=some A) (n:Int) (hn:0≤n∧n≤200) (W:List (List Int)) (hWl:W.length≤100000) (hWw:∀w∈W,w.length≤1000∧∀i∈w,0≤i∧i<L.length) (hW:AF Tryz.prog 91 [ζW A,pInt n] (· = .tup [ZkH W,pInt 0])):AF Tryz.prog 43 [pTr t,pInt n] (· = .tup [Zio (W.map (nmI L)),pInt 0]):=by
 have e0:pTr t= .agg [pInt t.op,ZaS t.act,ZbT t.l]:=rfl
 have hV:=ZcI t hf
 rw [hv] at hV
 have hS:RS (bldT L t) (pInt A.n) (pInt A.syms) (pInts A.start) (pInts A.fin) (pMvs A.moves) 0:=⟨R5.aut A,by rw [hB];rfl, .inr ⟨A,hB,rfl,rfl,rfl,rfl,rfl,rfl⟩⟩
 have hj:=Zpq t hf hA hS
 rw [e0] at hV hj ⊢
 refine AF.of_body 54 Tryz.func43 rfl Tryz.ntmps43 (Nat.le_of_ble_eq_true rfl) ?_
 intro w0 M0 vs hl hv
 obtain ⟨v0,v1,rfl⟩:=Zb3 hl
 obtain rfl:=hv 1 _ _ rfl rfl
 clear hl hv
 refine nav ?_
 (refine ζa ?_<;>refine ζE 2 3 fun h2=>?_<;>refine xL 4 ζc ?_<;>refine xL 5 ζc ?_<;>refine ζb (nav ?_)<;>try dsimp only)
 (refine ζa ?_<;>(refine yL 13 (ζp 2 ZbZ) fun v13 h=>?_;cases h)<;>(refine cS 14 (cA Tryz.call24 (hV)) fun v14 h=>?_;cases h)<;>refine xL 15 Zak ?_<;>refine ζb (nav ?_)<;>try dsimp only)
 (first|refine cCd ?_ ?_|refine cC ?_ ?_)<;>intro hb15
 · exact Bool.noConfusion hb15
 · refine nav ?_
   (refine ζa ?_<;>refine xL 16 ζd ?_<;>refine xL 17 ζS ?_<;>refine xL 18 ζd ?_<;>(refine bLd 18 (fun hb18=>?_) (fun hb18=>?_)<;>(first|refine kL 19 ?_|refine xL 19 ζd ?_))<;>(first|refine kL 20 ?_|refine xL 20 ZaH ?_)<;>refine xL 21 ζF ?_<;>refine ζb (nav ?_)<;>try dsimp only)<;>(
    (first|refine cCd ?_ ?_|refine cC ?_ ?_)<;>intro hb21
    · exfalso;first|omega|(simp_all;done)|(simp_all;omega)
    · refine nav ?_
      (refine ζa ?_<;>(refine yL 23 (ζp 2 ZbZ) fun v23 h=>?_;cases h)<;>(refine Zxj 24 (cA (Tryz.call66) hj) (fun va24 vb24 vc24 hva24 hvb24 hvc24=>?_);cases hvc24)<;>refine xL 22 ζd ?_<;>refine xL 25 ζf ?_<;>refine xL 26 ζf ?_<;>refine xL 27 ζf ?_<;>refine ζr [(.int .i64 0),(.int .i64 0),(.slice none 0 0),(.slice none 0 0),(.slice none 0 0)] 5 6 ZtJ fun h6=>?_<;>refine ζC 6 Zi3 ?_<;>refine xL 7 ζc ?_<;>refine xL 8 ζc ?_<;>refine ζb (nav ?_)<;>try dsimp only)
      (refine ζa ?_<;>refine xL 28 ζd ?_<;>refine xL 29 ZaD ?_<;>refine ζb (nav ?_)<;>try dsimp only)
      (first|refine cCd ?_ ?_|refine cC ?_ ?_)<;>intro hb29
      · exact absurd rfl hb29
      · refine nav ?_
        (refine ζa ?_<;>(refine yL 32 (ζp 6 Zi3) fun v32 h=>?_;cases h)<;>refine xL 33 ζd ?_<;>(refine cP 34 (cA Tryz.call91 (hW)) fun va34 vb34 hva34 h=>?_;cases h)<;>refine xL 31 ζd ?_<;>refine xL 35 ζf ?_<;>refine xL 36 ζf ?_<;>refine xL 9 ζc ?_<;>refine xL 8 ζc ?_<;>refine ζb (nav ?_)<;>try dsimp only)
        (refine ζa ?_<;>refine xL 37 ζd ?_<;>refine xL 38 ZaD ?_<;>refine ζb (nav ?_)<;>try dsimp only)
        (first|refine cCd ?_ ?_|refine cC ?_ ?_)<;>intro hb38
        · exact absurd rfl hb38
        · refine nav ?_
          (refine ζa ?_<;>refine xL 10 ζc ?_<;>refine ζb (nav ?_)<;>try dsimp only)
          (refine ζa ?_<;>refine xL 40 ζd ?_<;>refine xL 41 (ζV Zi4) ?_<;>refine xL 42 ζd ?_<;>refine ζb (nav ?_)<;>try dsimp only)
          refine ζv (Zb2 200 27 1 rfl) fun _=>?_
          refine ζy (ι:={q:Nat×Value//q.1≤W.length∧q.2.oneCell'=true}) (fun k=>⟨[(4,_,_),(5,_,_),(7,_,_),(8,_,_),(40,_,_),(41,_,_),(10,k.1.2, .val k.1.2),(42, .int .i64 k.1.1,pInt k.1.1)],[(2,_,_),(6,_,_),(200,k.1.2, .own 27 1 ((W.take k.1.1).map (nmI L)).length (((W.take k.1.1).map (nmI L)).map Zao))]⟩) (fun k=>W.length-k.1.1) ⟨(0, .slice none 0 0),Nat.zero_le _,rfl⟩ (fun a w H=>H.weaken ⟨rfl,rfl,rfl,rfl,rfl,rfl,rfl,rfl,trivial⟩ ⟨rfl,rfl,rfl,trivial⟩) ?_
          rintro ⟨⟨i,hv10⟩,hi,ho⟩
          dsimp only
          dsimp only at hi ho
          have hwl:((W.take i).map (nmI L)).length≤W.length:=by rw [List.length_map,List.length_take];omega
          refine nav ?_
          (refine ζa ?_<;>refine xL 43 ζS ?_<;>refine ζb (nav ?_)<;>try dsimp only)
          (first|refine cCd ?_ ?_|refine cC ?_ ?_)<;>intro hb43
          · first
            |exact Bool.noConfusion hb43
            | (
             obtain ⟨w,hw⟩:=ζm (show i<W.length by omega)
             have e1:=Zaf (f:=pInts) hw
             obtain ⟨hw1,hw2⟩:=hWw w (List.mem_of_getElem? hw)
             refine nav ?_
             (refine ζa ?_<;>refine xL 44 (ζJ Zi4) ?_<;>(refine yL 45 (Za3 ZtI) fun v45 h=>?_;cases h)<;>refine xL 12 ζc ?_<;>refine ζb (nav ?_)<;>try dsimp only)
             (refine ζa ?_<;>refine xL 46 ζd ?_<;>refine xL 47 ζd ?_<;>refine xL 48 ζd ?_<;>(refine cS 49 (cA Tryz.call53 (Zl5 w L (by omega) hw2)) fun v49 h=>?_;cases h)<;>refine ζI (kk:=1) 50 Zh6 fun h50 ho50=>?_<;>(refine ζY 200 50 51 Zh6 fun h51 ho51=>?_;refine ζq (ζD (l:=51) 200 rfl rfl) fun _=>?_;refine ζq (ζN (l:=200) (p':= .own 27 1 ((W.take (i+1)).map (nmI L)).length (((W.take (i+1)).map (nmI L)).map Zao)) rfl (by rw [ζH hw,List.map_append];exact ZqE _ _ _)) fun _=>?_)<;>refine xL 10 ζc ?_<;>refine ζb (nav ?_)<;>try dsimp only)
             (refine ζa ?_<;>refine xL 52 ζM ?_<;>refine xL 42 ζd ?_<;>refine ζb (nav ?_)<;>try dsimp only)
             refine ζl (
              ⟨(i+1,h51),ζe hw,ho51⟩
              ) (by dsimp only;omega) ⟨rfl,rfl,rfl,rfl,rfl,rfl,rfl,rfl,trivial⟩ ⟨rfl,rfl,rfl,trivial⟩)
          · first
            |exact Bool.noConfusion hb43
            | (
             rw [List.take_of_length_le (show W.length≤i by omega)]
             refine ζv (En.freeze (l:=200) (t:=10) rfl rfl) fun _=>?_
             rw [Zmh _ _ _ rfl]
             refine nav ?_
             (refine ζa ?_<;>refine xL 53 ζd ?_<;>refine xL 4 ζc ?_<;>refine xL 5 ζc ?_<;>refine ζb (nav ?_)<;>try dsimp only)
             exact Za8 (Tryz.results43) rfl rfl rfl))
theorem ZAd (s:ByteArray):Rr (.agg [pInt 1,ZaS s, .val (.slice none 0 0)]) (pTr (lfT s)):=Rr.agg rfl fun i a b ha hb=>by
 match i with
 |0=>cases ha;cases hb;exact Rr.rfl' _
 |1=>cases ha;cases hb;exact Rr.rfl' _
 |2=>cases ha;cases hb;exact Rr.nil
 |i+3=>simp at ha
theorem ZnK (a:List ByteArray):AF Tryz.prog 14 [Zao a,Zao a] (· =ζO true):=by
 refine AF.of_body 26 Tryz.func14 rfl Tryz.ntmps14 (Nat.le_of_ble_eq_true rfl) ?_
 intro w0 M0 vs hl hv
 obtain ⟨v0,v1,rfl⟩:=Zb3 hl
 clear hl hv
 refine Zba 0 rfl fun hlen=>?_
 refine nav ?_
 (refine ζa ?_<;>refine xL 4 ζc ?_<;>refine ζb (nav ?_)<;>try dsimp only)
 (refine ζa ?_<;>refine xL 6 ζd ?_<;>refine xL 7 (ζV Zec) ?_<;>refine xL 8 ζd ?_<;>refine xL 9 (ζV Zec) ?_<;>refine xL 10 ZaD ?_<;>refine ζb (nav ?_)<;>try dsimp only)
 (first|refine cCd ?_ ?_|refine cC ?_ ?_)<;>intro hb10
 · first
   |exact Bool.noConfusion hb10
   | (
    refine nav ?_
    (refine ζa ?_<;>refine xL 4 ζc ?_<;>refine ζb (nav ?_)<;>try dsimp only)
    exfalso;omega)
 · first
   |exact Bool.noConfusion hb10
   | (
    refine nav ?_
    (refine ζa ?_<;>refine xL 11 ζd ?_<;>refine xL 12 (ζV Zec) ?_<;>refine xL 13 ζd ?_<;>refine ζb (nav ?_)<;>try dsimp only)
    refine ζy (ι:={k:Nat//k≤a.length}) (fun k=>⟨[(0,_,_),(1,_,_),(12,_,_),(13, .int .i64 k.1,pInt k.1)],[]⟩) (fun k=>a.length-k.1) ⟨0,by omega⟩ (fun a w H=>H.weaken ⟨rfl,rfl,rfl,rfl,trivial⟩ trivial) ?_
    rintro ⟨k,hk⟩
    dsimp only
    refine nav ?_
    (refine ζa ?_<;>refine xL 14 ζS ?_<;>refine ζb (nav ?_)<;>try dsimp only)
    (first|refine cCd ?_ ?_|refine cC ?_ ?_)<;>intro hb14
    · first
      |exact Bool.noConfusion hb14
      | (
       obtain ⟨x,hx⟩:=ζm (show k<a.length by omega)
       have e1:=Zaf (f:=ZaS) hx
       refine nav ?_
       (refine ζa ?_<;>refine xL 15 ζd ?_<;>refine xL 5 ζc ?_<;>refine ζb (nav ?_)<;>try dsimp only)
       (refine ζ4 (fun i=>([]:List Nat).elem i) [] (by kernel_rfl) ?_<;>refine xD 0 16 rfl ζd ?_<;>refine xD 1 17 rfl ζd ?_<;>refine xD 2 18 rfl (ζJ Zec) ?_<;>(refine yD 3 19 rfl (Za3 Zps) fun v19 h=>?_;cases h)<;>refine xD 4 20 rfl ζd ?_<;>refine xE 5 21 rfl ζd ?_<;>refine xE 6 22 rfl (ζJ Zec) ?_<;>(refine yE 7 23 rfl (Za3 Zps) fun v23 h=>?_;cases h)<;>refine xE 8 24 rfl Zzf ?_<;>refine ZaM (by kernel_rfl) (nav ?_)<;>try dsimp only)
       (first|refine cCd ?_ ?_|refine cC ?_ ?_)<;>intro hb24
       · first
         |exact Bool.noConfusion hb24
         | (
          refine nav ?_
          (refine ζa ?_<;>refine xL 4 ζc ?_<;>refine ζb (nav ?_)<;>try dsimp only)
          exfalso;simp at hb24)
       · first
         |exact Bool.noConfusion hb24
         | (
          refine nav ?_
          (refine ζa ?_<;>refine xL 25 ζM ?_<;>refine xL 13 ζd ?_<;>refine ζb (nav ?_)<;>try dsimp only)
          refine ζl (
           ⟨k+1,ζe hx⟩
           ) (by dsimp only;omega) ⟨rfl,rfl,rfl,rfl,trivial⟩ trivial))
    · first
      |exact Bool.noConfusion hb14
      | (
       refine nav ?_
       (refine ζa ?_<;>refine xL 4 ζc ?_<;>refine ζb (nav ?_)<;>try dsimp only)
       exact ζt (Tryz.results14) rfl rfl))
theorem Zkk (s:ByteArray):AF Tryz.prog 41 [ZaS s] (· =pTr (lfT s)):=by
 refine AF.reread (p:= .agg [pInt 1,ZaS s, .val (.slice none 0 0)]) ?_ rfl (ZAd s)
 refine AF.of_body 5 Tryz.func41 rfl Tryz.ntmps41 (Nat.le_of_ble_eq_true rfl) ?_
 intro w0 M0 vs hl hv
 obtain ⟨v0,rfl⟩:=ZdL hl
 obtain rfl:=hv 0 _ _ rfl rfl
 clear hl hv
 refine nav ?_
 (refine ζa ?_<;>refine ζr [(.int .i64 0),(.string ByteArray.empty),(.slice none 0 0)] 3 2 Zh8 fun h2=>?_<;>refine ζb (nav ?_)<;>try dsimp only)
 (refine ζa ?_<;>refine xL 3 ζd ?_<;>refine xL 4 (ζB Zh7) ?_<;>refine ζC 2 ZbZ ?_<;>refine ζb (nav ?_)<;>try dsimp only)
 exact Zn3 (k:=3) 2 (by kernel_rfl) (Tryz.results41) rfl rfl (Nat.le_of_ble_eq_true rfl) (by decide) rfl rfl
theorem Zed (o:Int) (l:List Nd):AF Tryz.prog 42 [pInt o,ZbT l] (· =pTr (opT o l)):=by
 refine AF.of_body 8 Tryz.func42 rfl Tryz.ntmps42 (Nat.le_of_ble_eq_true rfl) ?_
 intro w0 M0 vs hl hv
 obtain ⟨v0,v1,rfl⟩:=Zb3 hl
 obtain rfl:=hv 0 _ _ rfl rfl
 clear hl hv
 refine nav ?_
 (refine ζa ?_<;>refine ζr [(.int .i64 0),(.string ByteArray.empty),(.slice none 0 0)] 3 4 Zh8 fun h4=>?_<;>refine ζb (nav ?_)<;>try dsimp only)
 (refine ζa ?_<;>refine xL 5 ζd ?_<;>refine xL 6 ζd ?_<;>refine xL 7 (ζB Zh7) ?_<;>refine ζC 4 ZbZ ?_<;>refine ζb (nav ?_)<;>try dsimp only)
 exact Zn3 (k:=3) 4 (by kernel_rfl) (Tryz.results42) rfl rfl (Nat.le_of_ble_eq_true rfl) (by decide) rfl rfl
theorem ZqG:AF Tryz.prog 91 [ζW ZnI,pInt 5] (· = .tup [ZkH [[0,2],[0,1,2]],pInt 0]):=(ZuV ZnI 5).mono fun p hp=>by
 rcases hp with ⟨h,_⟩|⟨_,h,_⟩|⟨_,_,_,h,_⟩|⟨_,_,_,_,h⟩
 · rw [ZyJ] at h;cases h
 · omega
 · rw [Zx1,Zpr,show (5:Int).toNat=5 from rfl,Zv4] at h;cases h
 · rw [h,Ztb,Zpr,show (5:Int).toNat=5 from rfl,Zv5]
theorem ZtK {t:Nd} (h:ZcB t=true):FitT t:=Zxl t (Ze7 h) (by have:=Zit h;omega)
theorem ZAe:AF Tryz.prog 43 [pTr ZnH,pInt 5] (· = .tup [Zio [[sA,sC],[sA,sB,sC]],pInt 0]):=
 ZqF ZnH (ZtK ZnJ) ZnJ ZyH ZyE 5 (by decide) [[0,2],[0,1,2]] (by decide) (by decide) ZqG
theorem ZAf:AF Tryz.prog 12 [pTr Zmf,pTr Zmg] (· = .tup [ζO false,Zao [sB],pInt 0]):=by
 have:=Zin Zmf Zmg (ZtK ZtF) (ZtK ZtG)
 rw [ZyI] at this
 exact this
theorem ZeE (x y:Nd):PV.sl 2 (cN x++cN y)=ZbT [x,y]:=by unfold ZbT;rw [ZgY];simp
theorem ZqH (x y z:Nd):PV.sl 3 (cN x++(cN y++cN z))=ZbT [x,y,z]:=by unfold ZbT;rw [ZgY];simp
theorem ZtL:ZgV [[sA,sC],[sA,sB,sC]] [[sA,sC],[sA,sB,sC]]=true:=by decide+kernel
set_option maxHeartbeats 4000000 in
theorem Zi5:AF Tryz.prog 10 [] (· =ζO true):=by
 have hactA:=Zkk sA
 have hactB:=Zkk sB
 have hactC:=Zkk sC
 have hS:Rr (.agg [pInt 2, .val (.string ByteArray.empty), .val (.slice none 0 0)]) (pTr (opT 2 [])):=ZzC
 refine AF.of_body 72 Tryz.func10 rfl Tryz.ntmps10 (Nat.le_of_ble_eq_true rfl) ?_
 intro w0 M0 vs hl hv
 obtain rfl:=List.eq_nil_of_length_eq_zero hl
 clear hl hv
 refine nav ?_
 (refine ζa ?_<;>refine xL 0 ζc ?_<;>refine ζb (nav ?_)<;>try dsimp only)
 (refine ζa ?_<;>refine xL 1 ζc ?_<;>refine ζb (nav ?_)<;>try dsimp only)
 (refine ζa ?_<;>refine xL 2 ζc ?_<;>refine ζb (nav ?_)<;>try dsimp only)
 (refine ζa ?_<;>(refine xL 9 (ζB Zh7) ?_;refine ζq (Zzu (t:=9) (p':=pTr (opT 2 [])) rfl hS) fun _=>?_)<;>refine ζr [(.int .i64 0),(.string ByteArray.empty),(.slice none 0 0)] 3 3 Zh8 fun h3=>?_<;>refine ζC 3 ZbZ ?_<;>refine ζb (nav ?_)<;>try dsimp only)
 (refine ζ4 (fun i=>([18]:List Nat).elem i) [3] (by kernel_rfl) ?_<;>refine xD 0 11 rfl ζd ?_<;>refine xD 1 12 rfl ζd ?_<;>refine xD 3 14 rfl ζd ?_<;>refine xD 4 15 rfl ζd ?_<;>(refine yD 6 17 rfl (ζp 3 ZbZ) fun v17 h=>?_;cases h)<;>refine xD 9 20 rfl ζd ?_<;>(refine ζo 2 (by kernel_rfl) ?_)<;>(refine Zbk (d:=13) rfl (ZcY (f:=41) (ps:=[]) rfl ⟨_,rfl⟩ (Tryz.call41) rfl hactA) fun v13 h=>?_;cases h)<;>(refine ζo 5 (by kernel_rfl) ?_)<;>(refine Zbk (d:=16) rfl (ZcY (f:=41) (ps:=[]) rfl ⟨_,rfl⟩ (Tryz.call41) rfl hactB) fun v16 h=>?_;cases h)<;>(refine ζo 7 (by kernel_rfl) ?_)<;>(refine ζk rfl fun w9 M9 N9 DQ back=>?_)<;>(refine Zg2 (kk:=3) (xs:=[_,_]) (cs:=[[_,_,_],[_,_,_]]) 18 Zeb fun h18 ho18=>?_;refine ζq (En.freeze (l:=18) (t:=18) rfl rfl) fun _=>?_;refine ζq (ZbN (t:=18) (p':=ZbT [lfT sB,opT 2 []]) rfl (Eq.trans (show _=PV.sl 2 (cN (lfT sB)++cN (opT 2 [])) from rfl) (ZeE _ _))) fun _=>?_)<;>refine ζb (back _ (nrm ?_))<;>(refine ζo 8 (by kernel_rfl) ?_)<;>(refine Zbk (d:=19) rfl (ZcY (f:=42) (ps:=[]) rfl ⟨_,rfl⟩ (Tryz.call42) rfl (Zed 4 [lfT sB,opT 2 []])) fun v19 h=>?_;cases h)<;>(refine ζo 10 (by kernel_rfl) ?_)<;>(refine Zbk (d:=21) rfl (ZcY (f:=41) (ps:=[]) rfl ⟨_,rfl⟩ (Tryz.call41) rfl hactC) fun v21 h=>?_;cases h)<;>(refine ζo 11 (by kernel_rfl) ?_)<;>(refine ζk rfl fun w9 M9 N9 DQ back=>?_)<;>(refine Zg2 (kk:=3) (xs:=[_,_,_]) (cs:=[[_,_,_],[_,_,_],[_,_,_]]) 22 Zeb fun h22 ho22=>?_;refine ζq (En.freeze (l:=22) (t:=22) rfl rfl) fun _=>?_;refine ζq (ZbN (t:=22) (p':=ZbT [lfT sA,opT 4 [lfT sB,opT 2 []],lfT sC]) rfl (Eq.trans (show _=PV.sl 3 (cN (lfT sA)++(cN (opT 4 [lfT sB,opT 2 []])++cN (lfT sC))) from rfl) (ZqH _ _ _))) fun _=>?_)<;>refine ζb (back _ (nrm ?_))<;>(refine ζo 12 (by kernel_rfl) ?_)<;>(refine Zbk (d:=23) rfl (ZcY (f:=42) (ps:=[]) rfl ⟨_,rfl⟩ (Tryz.call42) rfl (Zed 3 [lfT sA,opT 4 [lfT sB,opT 2 []],lfT sC])) fun v23 h=>?_;cases h)<;>(refine ζo 13 (by kernel_rfl) ?_)<;>(refine ζk rfl fun w9 M9 N9 DQ back=>?_)<;>(refine cP 24 (cA Tryz.call43 (ZAe)) fun va24 vb24 hva24 h=>?_;cases h)<;>refine ζb (back _ (nrm ?_))<;>refine xE 14 10 rfl ζd ?_<;>refine xD 15 25 rfl ζf ?_<;>refine xD 16 26 rfl ζf ?_<;>refine xE 17 4 rfl ζc ?_<;>refine xE 18 5 rfl ζc ?_<;>refine ZaM (by kernel_rfl) (nav ?_)<;>try dsimp only)
 (refine ζ4 (fun i=>([25]:List Nat).elem i) [3] (by kernel_rfl) ?_<;>refine xD 0 28 rfl ζd ?_<;>refine xD 1 29 rfl ζd ?_<;>refine xD 3 31 rfl ζd ?_<;>refine xD 4 32 rfl ζd ?_<;>(refine yD 6 34 rfl (ζp 3 ZbZ) fun v34 h=>?_;cases h)<;>refine xD 11 39 rfl ζd ?_<;>refine xD 12 40 rfl ζd ?_<;>refine xD 14 42 rfl ζd ?_<;>(refine ζo 2 (by kernel_rfl) ?_)<;>(refine Zbk (d:=30) rfl (ZcY (f:=41) (ps:=[]) rfl ⟨_,rfl⟩ (Tryz.call41) rfl hactA) fun v30 h=>?_;cases h)<;>(refine ζo 5 (by kernel_rfl) ?_)<;>(refine Zbk (d:=33) rfl (ZcY (f:=41) (ps:=[]) rfl ⟨_,rfl⟩ (Tryz.call41) rfl hactB) fun v33 h=>?_;cases h)<;>(refine ζo 7 (by kernel_rfl) ?_)<;>(refine ζk rfl fun w9 M9 N9 DQ back=>?_)<;>(refine Zg2 (kk:=3) (xs:=[_,_]) (cs:=[[_,_,_],[_,_,_]]) 35 Zeb fun h35 ho35=>?_;refine ζq (En.freeze (l:=35) (t:=35) rfl rfl) fun _=>?_;refine ζq (ZbN (t:=35) (p':=ZbT [lfT sB,opT 2 []]) rfl (Eq.trans (show _=PV.sl 2 (cN (lfT sB)++cN (opT 2 [])) from rfl) (ZeE _ _))) fun _=>?_)<;>refine ζb (back _ (nrm ?_))<;>(refine ζo 8 (by kernel_rfl) ?_)<;>(refine Zbk (d:=36) rfl (ZcY (f:=42) (ps:=[]) rfl ⟨_,rfl⟩ (Tryz.call42) rfl (Zed 6 [lfT sB,opT 2 []])) fun v36 h=>?_;cases h)<;>(refine ζo 9 (by kernel_rfl) ?_)<;>(refine ζk rfl fun w9 M9 N9 DQ back=>?_)<;>(refine Zg2 (kk:=3) (xs:=[_,_]) (cs:=[[_,_,_],[_,_,_]]) 37 Zeb fun h37 ho37=>?_;refine ζq (En.freeze (l:=37) (t:=37) rfl rfl) fun _=>?_;refine ζq (ZbN (t:=37) (p':=ZbT [lfT sA,opT 6 [lfT sB,opT 2 []]]) rfl (Eq.trans (show _=PV.sl 2 (cN (lfT sA)++cN (opT 6 [lfT sB,opT 2 []])) from rfl) (ZeE _ _))) fun _=>?_)<;>refine ζb (back _ (nrm ?_))<;>(refine ζo 10 (by kernel_rfl) ?_)<;>(refine Zbk (d:=38) rfl (ZcY (f:=42) (ps:=[]) rfl ⟨_,rfl⟩ (Tryz.call42) rfl (Zed 5 [lfT sA,opT 6 [lfT sB,opT 2 []]])) fun v38 h=>?_;cases h)<;>(refine ζo 13 (by kernel_rfl) ?_)<;>(refine Zbk (d:=41) rfl (ZcY (f:=41) (ps:=[]) rfl ⟨_,rfl⟩ (Tryz.call41) rfl hactB) fun v41 h=>?_;cases h)<;>(refine ζo 15 (by kernel_rfl) ?_)<;>(refine Zbk (d:=43) rfl (ZcY (f:=41) (ps:=[]) rfl ⟨_,rfl⟩ (Tryz.call41) rfl hactA) fun v43 h=>?_;cases h)<;>(refine ζo 16 (by kernel_rfl) ?_)<;>(refine ζk rfl fun w9 M9 N9 DQ back=>?_)<;>(refine Zg2 (kk:=3) (xs:=[_,_]) (cs:=[[_,_,_],[_,_,_]]) 44 Zeb fun h44 ho44=>?_;refine ζq (En.freeze (l:=44) (t:=44) rfl rfl) fun _=>?_;refine ζq (ZbN (t:=44) (p':=ZbT [lfT sB,lfT sA]) rfl (Eq.trans (show _=PV.sl 2 (cN (lfT sB)++cN (lfT sA)) from rfl) (ZeE _ _))) fun _=>?_)<;>refine ζb (back _ (nrm ?_))<;>(refine ζo 17 (by kernel_rfl) ?_)<;>(refine Zbk (d:=45) rfl (ZcY (f:=42) (ps:=[]) rfl ⟨_,rfl⟩ (Tryz.call42) rfl (Zed 6 [lfT sB,lfT sA])) fun v45 h=>?_;cases h)<;>(refine ζo 18 (by kernel_rfl) ?_)<;>(refine ζk rfl fun w9 M9 N9 DQ back=>?_)<;>(refine Zxj 46 (cA (Tryz.call12) ZAf) (fun va46 vb46 vc46 hva46 hvb46 hvc46=>?_);cases hva46;cases hvc46)<;>refine ζb (back _ (nrm ?_))<;>refine xE 19 27 rfl ζd ?_<;>refine xD 20 47 rfl ζf ?_<;>refine xD 21 48 rfl ζf ?_<;>refine xD 22 49 rfl ζf ?_<;>refine xE 23 6 rfl ζc ?_<;>refine xE 24 7 rfl ζc ?_<;>refine xE 25 8 rfl ζc ?_<;>refine ZaM (by kernel_rfl) (nav ?_)<;>try dsimp only)
 (refine ζa ?_<;>refine xL 50 ζd ?_<;>(refine Zn2 (xs:=[_,_]) 51 Zh5 fun h51 ho51=>?_;refine ζq (En.freeze (l:=51) (t:=51) rfl rfl) fun _=>?_;refine ζq (ZbN (t:=51) (p':=Zao [sA,sC]) rfl rfl) fun _=>?_)<;>(refine Zn2 (xs:=[_,_,_]) 52 Zh5 fun h52 ho52=>?_;refine ζq (En.freeze (l:=52) (t:=52) rfl rfl) fun _=>?_;refine ζq (ZbN (t:=52) (p':=Zao [sA,sB,sC]) rfl rfl) fun _=>?_)<;>(refine Zn2 (xs:=[_,_]) 53 Zh6 fun h53 ho53=>?_;refine ζq (En.freeze (l:=53) (t:=53) rfl rfl) fun _=>?_;refine ζq (ZbN (t:=53) (p':=Zio [[sA,sC],[sA,sB,sC]]) rfl rfl) fun _=>?_)<;>(refine cS 54 (cA Tryz.call44 ((ZpI [[sA,sC],[sA,sB,sC]] [[sA,sC],[sA,sB,sC]]).mono (R':=(· =ζO true)) fun p hp=>by rw [hp,ZtL])) fun v54 h=>?_;cases h)<;>refine xL 55 ζd ?_<;>refine xL 56 ζd ?_<;>refine xL 57 Zwj ?_<;>refine xL 58 ζF ?_<;>refine xL 59 ζd ?_<;>refine xL 60 ζd ?_<;>refine xL 61 Zak ?_<;>refine xL 62 ζF ?_<;>refine xL 63 ζd ?_<;>refine xL 64 ζd ?_<;>(refine ζI (kk:=1) 65 Zh5 fun h65 ho65=>?_;refine ζq (En.freeze (l:=65) (t:=65) rfl rfl) fun _=>?_;refine ζq (ZbN (t:=65) (p':=Zao [sB]) rfl rfl) fun _=>?_)<;>(refine cS 66 (cA Tryz.call14 (ZnK [sB])) fun v66 h=>?_;cases h)<;>refine xL 67 ζF ?_<;>refine xL 68 ζd ?_<;>refine xL 69 ζd ?_<;>refine xL 70 Zwj ?_<;>refine xL 71 ζF ?_<;>refine xL 0 ζc ?_<;>refine ζb (nav ?_)<;>try dsimp only)<;>(
  exact ζt Tryz.results10 rfl rfl)
theorem ZbG:AggT Tryz.prog 24 3=true:=by kernel_rfl
theorem ZnL:FldT Tryz.prog 24 0 0=true:=by kernel_rfl
theorem ZnM:FldT Tryz.prog 24 1 1=true:=by kernel_rfl
theorem Ze0:FldT Tryz.prog 24 2 2=true:=by kernel_rfl
theorem Zh9:NoAgg Tryz.prog 22=true:=by kernel_rfl
theorem Zv6:NoAgg Tryz.prog 3=true:=by kernel_rfl
theorem Zv7:NoAgg Tryz.prog 9=true:=by kernel_rfl
theorem Zee:SlT Tryz.prog 22 24 3=true:=by kernel_rfl
theorem ZtM:SlT Tryz.prog 27 9 1=true:=by kernel_rfl
theorem Zmi:ZeroT Tryz.prog 24 (.agg #[(.int .i64 0),(.string ByteArray.empty),(.slice none 0 0)]):=by unfold ZeroT;kernel_rfl
mutual
def Zpt:Nd→Int→Int→Int
 | .mk _ a l,m,d=>if 70<d∨100<(a.size:Int)∨m<(l.length:Int) then m else ZqI l m d 1
def ZqI:List Nd→Int→Int→Int→Int
 |[],m,_,n=>min n m
 |x::l,m,d,n=>if m≤n then m else ZqI l m d (n+Zpt x (m-n) (d+1))
end
theorem ZAg:∀(t:Nd) (m d:Int),1≤m→1≤Zpt t m d∧Zpt t m d≤m:=Nd.ind fun o a l ih m d hm=>by
 rw [Zpt]
 split
 · omega
 have key:∀(k:List Nd),(∀x∈k,x∈l)→∀n:Int,1≤n→1≤ZqI k m d n∧ZqI k m d n≤m:=fun k=>by
  induction k with
  |nil=>intro _ n hn;rw [ZqI];omega
  | cons x k ihk=>
    intro hk n hn
    rw [ZqI]
    split
    · omega
    · have:=ih x (hk x (List.mem_cons_self ..)) (m-n) (d+1) (by omega)
      exact ihk (fun y hy=>hk y (List.mem_cons_of_mem _ hy)) _ (by omega)
 exact key l (fun _ h=>h) 1 (Int.le_refl _)
theorem ZtN {l:List Nd} {k:Nat} {x:Nd} (hx:l[k]? =some x) (m d n:Int):ZqI (l.drop k) m d n=if m≤n then m else ZqI (l.drop (k+1)) m d (n+Zpt x (m-n) (d+1)):=by
 rw [List.drop_eq_getElem_cons (ζe hx),(List.getElem?_eq_some_iff.1 hx).2,ZqI]
mutual
def Zef:Nd→Int
 | .mk o _ l=>ZqU o l 2
def ZqU:Int→List Nd→Int→Int
 |_,[],n=>n
 |o,x::l,n=>ZqU o l (min (if o=5 then n*Zef x else n+Zef x) 100000)
end
theorem ZAh:∀(t:Nd),2≤Zef t∧Zef t≤100000:=Nd.ind fun o a l ih=>by
 rw [Zef]
 have key:∀(k:List Nd),(∀x∈k,x∈l)→∀n:Int,2≤n→n≤100000→2≤ZqU o k n∧ZqU o k n≤100000:=fun k=>by
  induction k with
  |nil=>intro _ n hn hm;rw [ZqU];exact ⟨hn,hm⟩
  | cons x k ihk=>
    intro hk n hn hm
    rw [ZqU]
    have h1:=ih x (hk x (List.mem_cons_self ..))
    refine ihk (fun y hy=>hk y (List.mem_cons_of_mem _ hy)) _ ?_ (by omega)
    split
    · have:2*2≤n*Zef x:=Int.mul_le_mul hn h1.1 (by omega) (by omega)
      omega
    · omega
 exact key l (fun _ h=>h) 2 (Int.le_refl _) (by omega)
theorem ZtO {l:List Nd} {k:Nat} {x:Nd} (o:Int) (hx:l[k]? =some x) (n:Int):ZqU o (l.drop k) n=ZqU o (l.drop (k+1)) (min (if o=5 then n*Zef x else n+Zef x) 100000):=by
 rw [List.drop_eq_getElem_cons (ζe hx),(List.getElem?_eq_some_iff.1 hx).2,ZqU]
set_option maxHeartbeats 2000000 in
theorem ZqJ :∀(t:Nd),FitT t→∀(m d:Int),1≤m→m≤1000→1≤d→d≤100→AF Tryz.prog 27 [pTr t,pInt m,pInt d] (· =pInt (Zpt t m d)):=Nd.ind fun o a l ih hf m d hm1 hm2 hd1 hd2=>by
 have e0:pTr (.mk o a l)= .agg [pInt o,ZaS a,ZbT l]:=rfl
 rw [e0]
 have hl:=hf.len
 have hp:=hf.p
 have ha:=hf.sz
 simp only [Nd.l,Nd.act] at hl hp ha
 refine AF.of_body 50 Tryz.func27 rfl Tryz.ntmps27 (Nat.le_of_ble_eq_true rfl) ?_
 intro w0 M0 vs hl hv
 obtain ⟨v0,v1,v2,rfl⟩:=Zml hl
 obtain rfl:=hv 1 _ _ rfl rfl
 obtain rfl:=hv 2 _ _ rfl rfl
 clear hl hv
 refine nav ?_
 (refine ζa ?_<;>refine ζE 3 3 fun h3=>?_<;>refine xL 6 ζc ?_<;>refine ζb (nav ?_)<;>try dsimp only)
 (refine ζa ?_<;>refine xL 10 ζd ?_<;>refine xL 11 ZaH ?_<;>refine xL 12 ζd ?_<;>(refine bLd 12 (fun hb12=>?_) (fun hb12=>?_)<;>(first|refine kL 13 ?_|refine xL 13 (ζh 3 ZnM) ?_))<;>(first|refine kL 14 ?_|(refine yL 14 (ζs 3 Zv7) fun v14 h=>?_;cases h))<;>(first|refine kL 15 ?_|refine xL 15 (ZkA Tryz.underlying9) ?_)<;>(first|refine kL 16 ?_|refine xL 16 ZaH ?_)<;>refine xL 17 ζF ?_<;>refine xL 18 ζd ?_<;>(first|refine kL 19 ?_|(refine bLd 18 (fun hb18=>?_) (fun hb18=>?_)<;>(first|refine kL 19 ?_|refine xL 19 (ζh 3 Ze0) ?_)))<;>(first|refine kL 20 ?_|(refine yL 20 (ζs 3 Zh9) fun v20 h=>?_;cases h))<;>(first|refine kL 21 ?_|refine xL 21 (ζV Zee) ?_)<;>(first|refine kL 22 ?_|refine xL 22 ζd ?_)<;>(first|refine kL 23 ?_|refine xL 23 ZaH ?_)<;>refine xL 24 ζF ?_<;>refine ζb (nav ?_)<;>try dsimp only)<;>(
  (first|refine cCd ?_ ?_|refine cC ?_ ?_)<;>intro hb24
  · first
    |exact Bool.noConfusion hb24
    | (
     have hc:70<d∨100<(a.size:Int)∨m<(l.length:Int):=by simp_all
     have hX:Zpt (.mk o a l) m d=m:=by rw [Zpt,if_pos hc]
     rw [hX]
     refine nav ?_
     (refine ζa ?_<;>refine xL 25 ζd ?_<;>refine xL 6 ζc ?_<;>refine ζb (nav ?_)<;>try dsimp only)
     exact ζt Tryz.results27 rfl rfl)
  · first
    |exact Bool.noConfusion hb24
    | (
     have hc:¬(70<d∨100<(a.size:Int)∨m<(l.length:Int)):=by simp_all
     have hX:Zpt (.mk o a l) m d=ZqI l m d 1:=by rw [Zpt,if_neg hc]
     rw [hX]
     have hd3:d≤70:=by omega
     refine nav ?_
     (refine ζa ?_<;>refine xL 7 ζc ?_<;>refine ζb (nav ?_)<;>try dsimp only)
     (refine ζa ?_<;>refine xL 26 (ζh 3 Ze0) ?_<;>(refine yL 27 (ζs 3 Zh9) fun v27 h=>?_;cases h)<;>refine xL 28 (ζV Zee) ?_<;>refine xL 29 ζd ?_<;>refine ζb (nav ?_)<;>try dsimp only)
     refine ζy (ι:={q:Nat×Int//q.1≤l.length∧1≤q.2∧q.2≤m∧ZqI (l.drop q.1) m d q.2=ZqI l m d 1}) (fun k=>⟨[(1,_,_),(2,_,_),(27,_,_),(28,_,_),(7, .int .i64 k.1.2,pInt k.1.2),(29, .int .i64 k.1.1,pInt k.1.1)],[(3,_,_)]⟩) (fun k=>l.length-k.1.1) ⟨(0,1),Nat.zero_le _,Int.le_refl _,hm1,rfl⟩ (fun a w H=>H.weaken ⟨rfl,rfl,rfl,rfl,rfl,rfl,trivial⟩ ⟨rfl,trivial⟩) ?_
     rintro ⟨⟨i,n⟩,hi,hn1,hn2,hq⟩
     dsimp only
     dsimp only at hi hn1 hn2 hq
     refine nav ?_
     (refine ζa ?_<;>refine xL 30 ζS ?_<;>refine ζb (nav ?_)<;>try dsimp only)
     (first|refine cCd ?_ ?_|refine cC ?_ ?_)<;>intro hb30
     · first
       |exact Bool.noConfusion hb30
       | (
        obtain ⟨x,hx⟩:=ζm (show i<l.length by omega)
        have e1:((Zjh l).drop (i*3)).take 3=[pInt x.op,ZaS x.act,ZbT x.l]:=ZbX hx
        have e2:=Zc4 hx
        rw [ZtN hx] at hq
        refine nav ?_
        (refine ζa ?_<;>refine xL 31 (ζJ Zee) ?_<;>(refine yL 32 (Zbm ZbG) fun v32 h=>?_;cases h)<;>refine ζr [(.int .i64 0),(.string ByteArray.empty),(.slice none 0 0)] 3 9 Zmi fun h9=>?_<;>refine ζC 9 ZbG ?_<;>refine ζb (nav ?_)<;>try dsimp only)
        (refine ζa ?_<;>refine xL 33 ζd ?_<;>refine xL 34 ζd ?_<;>refine xL 35 Zcc ?_<;>refine ζb (nav ?_)<;>try dsimp only)
        (first|refine cCd ?_ ?_|refine cC ?_ ?_)<;>intro hb35
        · first
          |exact Bool.noConfusion hb35
          | (
           refine nav ?_
           (refine ζa ?_<;>refine xL 36 ζd ?_<;>refine xL 6 ζc ?_<;>refine ζb (nav ?_)<;>try dsimp only)
           refine ζt (Tryz.results27) rfl ?_
           rw [if_pos (by omega)] at hq
           rw [←hq])
        · first
          |exact Bool.noConfusion hb35
          | (
           rw [if_neg (by omega)] at hq
           have hcb:=ZAg x (m-n) (d+1) (by omega)
           refine nav ?_
           (refine ζa ?_<;>refine xL 37 ζd ?_<;>(refine yL 38 (ζp 9 ZbG) fun v38 h=>?_;cases h)<;>refine xL 39 ζd ?_<;>refine xL 40 ζd ?_<;>refine xL 41 ZgQ ?_<;>refine xL 42 ζd ?_<;>refine xL 43 ζM ?_<;>(refine cS 44 (cA Tryz.call27 (ih x (List.mem_of_getElem? hx) (hp x (List.mem_of_getElem? hx)) (m-n) (d+1) (by omega) (by omega) (by omega) (by omega))) fun v44 h=>?_;cases h)<;>refine xL 45 ζM ?_<;>refine xL 7 ζc ?_<;>refine ζb (nav ?_)<;>try dsimp only)
           (refine ζa ?_<;>refine xL 46 ζM ?_<;>refine xL 29 ζd ?_<;>refine ζb (nav ?_)<;>try dsimp only)
           refine ζl (
            ⟨(i+1,n+Zpt x (m-n) (d+1)),ζe hx,by dsimp only;omega,by dsimp only;omega,hq⟩
            ) (by dsimp only;omega) ⟨rfl,rfl,rfl,rfl,rfl,rfl,trivial⟩ ⟨rfl,trivial⟩))
     · first
       |exact Bool.noConfusion hb30
       | (
        rw [List.drop_eq_nil_of_le (show l.length≤i by omega),ZqI] at hq
        refine nav ?_
        (refine ζa ?_<;>refine xL 47 ζd ?_<;>refine xL 48 ζd ?_<;>refine xL 49 Zxd ?_<;>refine xL 6 ζc ?_<;>refine ζb (nav ?_)<;>try dsimp only)
        refine ζt (Tryz.results27) rfl ?_
        rw [←hq]
        have hmn:(if m<n then m else n)=min n m:=by split<;>omega
        rw [←hmn])))
set_option maxHeartbeats 2000000 in
theorem ZnN :∀(t:Nd),FitT t→AF Tryz.prog 47 [pTr t] (· =pInt (Zef t)):=Nd.ind fun o a l ih hf=>by
 have e0:pTr (.mk o a l)= .agg [pInt o,ZaS a,ZbT l]:=rfl
 rw [e0]
 have hl:=hf.len
 have hp:=hf.p
 simp only [Nd.l,Nd.act] at hl hp
 refine AF.of_body 29 Tryz.func47 rfl Tryz.ntmps47 (Nat.le_of_ble_eq_true rfl) ?_
 intro w0 M0 vs hl hv
 obtain ⟨v0,rfl⟩:=ZdL hl
 clear hl hv
 refine nav ?_
 (refine ζa ?_<;>refine ζE 1 3 fun h1=>?_<;>refine xL 2 ζc ?_<;>refine ζb (nav ?_)<;>try dsimp only)
 (refine ζa ?_<;>refine xL 3 ζc ?_<;>refine ζb (nav ?_)<;>try dsimp only)
 (refine ζa ?_<;>refine xL 7 (ζh 1 Ze0) ?_<;>(refine yL 8 (ζs 1 Zh9) fun v8 h=>?_;cases h)<;>refine xL 9 (ζV Zee) ?_<;>refine xL 10 ζd ?_<;>refine ζb (nav ?_)<;>try dsimp only)
 refine ζy (ι:={q:Nat×Int//q.1≤l.length∧2≤q.2∧q.2≤100000∧ZqU o (l.drop q.1) q.2=ZqU o l 2}) (fun k=>⟨[(1,_,_),(8,_,_),(9,_,_),(3, .int .i64 k.1.2,pInt k.1.2),(10, .int .i64 k.1.1,pInt k.1.1)],[(1,_,_)]⟩) (fun k=>l.length-k.1.1) ⟨(0,2),Nat.zero_le _,Int.le_refl _,by dsimp only;omega,rfl⟩ (fun a w H=>H.weaken ⟨rfl,rfl,rfl,rfl,rfl,trivial⟩ ⟨rfl,trivial⟩) ?_
 rintro ⟨⟨i,n⟩,hi,hn1,hn2,hq⟩
 dsimp only
 dsimp only at hi hn1 hn2 hq
 refine nav ?_
 (refine ζa ?_<;>refine xL 11 ζS ?_<;>refine ζb (nav ?_)<;>try dsimp only)
 (first|refine cCd ?_ ?_|refine cC ?_ ?_)<;>intro hb11
 · first
   |exact Bool.noConfusion hb11
   | (
    obtain ⟨x,hx⟩:=ζm (show i<l.length by omega)
    have e1:((Zjh l).drop (i*3)).take 3=[pInt x.op,ZaS x.act,ZbT x.l]:=ZbX hx
    have e2:=Zc4 hx
    rw [ZtO o hx] at hq
    have hw:=ZAh x
    have hmul:2*2≤n*Zef x∧n*Zef x≤100000*100000:=⟨Int.mul_le_mul hn1 hw.1 (by omega) (by omega),Int.mul_le_mul hn2 hw.2 (by omega) (by omega)⟩
    refine nav ?_
    (refine ζa ?_<;>refine xL 12 (ζJ Zee) ?_<;>(refine yL 13 (Zbm ZbG) fun v13 h=>?_;cases h)<;>refine ζr [(.int .i64 0),(.string ByteArray.empty),(.slice none 0 0)] 3 5 Zmi fun h5=>?_<;>refine ζC 5 ZbG ?_<;>refine ζb (nav ?_)<;>try dsimp only)
    (refine ζa ?_<;>(refine yL 14 (ζp 5 ZbG) fun v14 h=>?_;cases h)<;>(refine cS 15 (cA Tryz.call47 (ih x (List.mem_of_getElem? hx) (hp x (List.mem_of_getElem? hx)))) fun v15 h=>?_;cases h)<;>refine xL 6 ζc ?_<;>refine ζb (nav ?_)<;>try dsimp only)
    (refine ζa ?_<;>refine xL 16 (ζh 1 ZnL) ?_<;>(refine yL 17 (ζs 1 Zv6) fun v17 h=>?_;cases h)<;>refine xL 18 Zag ?_<;>refine ζb (nav ?_)<;>try dsimp only)
    (first|refine cCd ?_ ?_|refine cC ?_ ?_)<;>intro hb18
    · first
      |exact Bool.noConfusion hb18
      | (
       rw [if_pos (show o=5 from hb18)] at hq
       have hmn:(if 100000<n*Zef x then 100000 else n*Zef x)=min (n*Zef x) 100000:=by split<;>omega
       rw [←hmn] at hq
       have hb:2≤(if 100000<n*Zef x then 100000 else n*Zef x)∧(if 100000<n*Zef x then 100000 else n*Zef x)≤100000:=by split<;>omega
       refine nav ?_
       (refine ζa ?_<;>refine xL 19 ζd ?_<;>refine xL 20 ζd ?_<;>refine xL 21 ZgR ?_<;>refine xL 22 Zxd ?_<;>refine xL 3 ζc ?_<;>refine ζb (nav ?_)<;>try dsimp only)
       (refine ζa ?_<;>refine xL 27 ζM ?_<;>refine xL 10 ζd ?_<;>refine ζb (nav ?_)<;>try dsimp only)
       first
        | (exact ζl (
            ⟨(i+1,if 100000<n*Zef x then 100000 else n*Zef x),ζe hx,hb.1,hb.2,hq⟩
            ) (by dsimp only;omega) ⟨rfl,rfl,rfl,rfl,rfl,trivial⟩ ⟨rfl,trivial⟩)
        | (exact ζl (
            ⟨(i+1,if 100000<n+Zef x then 100000 else n+Zef x),ζe hx,hb.1,hb.2,hq⟩
            ) (by dsimp only;omega) ⟨rfl,rfl,rfl,rfl,rfl,trivial⟩ ⟨rfl,trivial⟩))
    · first
      |exact Bool.noConfusion hb18
      | (
       rw [if_neg (show ¬o=5 from hb18)] at hq
       have hmn:(if 100000<n+Zef x then 100000 else n+Zef x)=min (n+Zef x) 100000:=by split<;>omega
       rw [←hmn] at hq
       have hb:2≤(if 100000<n+Zef x then 100000 else n+Zef x)∧(if 100000<n+Zef x then 100000 else n+Zef x)≤100000:=by split<;>omega
       refine nav ?_
       (refine ζa ?_<;>refine xL 23 ζd ?_<;>refine xL 24 ζd ?_<;>refine xL 25 ζM ?_<;>refine xL 26 Zxd ?_<;>refine xL 3 ζc ?_<;>refine ζb (nav ?_)<;>try dsimp only)
       (refine ζa ?_<;>refine xL 27 ζM ?_<;>refine xL 10 ζd ?_<;>refine ζb (nav ?_)<;>try dsimp only)
       first
        | (exact ζl (
            ⟨(i+1,if 100000<n*Zef x then 100000 else n*Zef x),ζe hx,hb.1,hb.2,hq⟩
            ) (by dsimp only;omega) ⟨rfl,rfl,rfl,rfl,rfl,trivial⟩ ⟨rfl,trivial⟩)
        | (exact ζl (
            ⟨(i+1,if 100000<n+Zef x then 100000 else n+Zef x),ζe hx,hb.1,hb.2,hq⟩
            ) (by dsimp only;omega) ⟨rfl,rfl,rfl,rfl,rfl,trivial⟩ ⟨rfl,trivial⟩)))
 · first
   |exact Bool.noConfusion hb11
   | (
    rw [List.drop_eq_nil_of_le (show l.length≤i by omega),ZqU] at hq
    refine nav ?_
    (refine ζa ?_<;>refine xL 28 ζd ?_<;>refine xL 2 ζc ?_<;>refine ζb (nav ?_)<;>try dsimp only)
    refine ζt (Tryz.results47) rfl ?_
    rw [Zef,←hq])
def ZAz (t:Nd):Bool:=decide (14≤Zpt t 14 1)||decide (200<Zef t)
theorem ZnO (t:Nd) (hf:FitT t):AF Tryz.prog 46 [pTr t] (· =ζO (ZAz t)):=by
 have e0:pTr t= .agg [pInt t.op,ZaS t.act,ZbT t.l]:=rfl
 have hC:=ZqJ t hf 14 1 (by decide) (by decide) (by decide) (by decide)
 have hW:=ZnN t hf
 rw [e0] at hC hW ⊢
 refine AF.of_body 11 Tryz.func46 rfl Tryz.ntmps46 (Nat.le_of_ble_eq_true rfl) ?_
 intro w0 M0 vs hl hv
 obtain ⟨v0,rfl⟩:=ZdL hl
 clear hl hv
 refine nav ?_
 (refine ζa ?_<;>refine ζE 1 3 fun h1=>?_<;>refine xL 2 ζc ?_<;>refine ζb (nav ?_)<;>try dsimp only)
 (refine ζa ?_<;>(refine yL 3 (ζp 1 ZbG) fun v3 h=>?_;cases h)<;>(refine cS 4 (cA Tryz.call27 (hC)) fun v4 h=>?_;cases h)<;>refine xL 5 Zcc ?_<;>refine xL 6 ζd ?_<;>(refine bLd 6 (fun hb6=>?_) (fun hb6=>?_)<;>(first|refine kL 7 ?_|(refine yL 7 (ζp 1 ZbG) fun v7 h=>?_;cases h)))<;>(first|refine kL 8 ?_|(refine cS 8 (cA Tryz.call47 (hW)) fun v8 h=>?_;cases h))<;>(first|refine kL 9 ?_|refine xL 9 ZaH ?_)<;>refine xL 10 ζF ?_<;>refine xL 2 ζc ?_<;>refine ζb (nav ?_)<;>try dsimp only)<;>(
  refine ζt (Tryz.results46) rfl ?_
  unfold ZAz
  first|(rw [show decide (14≤Zpt t 14 1)=true from hb6];rfl)|(rw [show decide (14≤Zpt t 14 1)=false from hb6];rfl)|(rw [decide_eq_true hb6];rfl)|(rw [decide_eq_false hb6];rfl))
theorem ZqK (l:List Nd) (hl:l.length≤1000) (hf:∀t∈l,FitT t):AF Tryz.prog 11 [ZbT l] (· =ζO (!l.any ZAz)):=by
 refine AF.of_body 6 Tryz.func11 rfl Tryz.ntmps11 (Nat.le_of_ble_eq_true rfl) ?_
 intro w0 M0 vs hl hv
 obtain ⟨v0,rfl⟩:=ZdL hl
 clear hl hv
 refine nav ?_
 (refine ζa ?_<;>refine xL 2 ζc ?_<;>refine ζb (nav ?_)<;>try dsimp only)
 (refine ζa ?_<;>refine xL 3 ζd ?_<;>(refine cS 4 (cA Tryz.call45 (Zjk 46 ZAz l (by omega) (Tryz.call46) (fun t ht=>ZnO t (hf t ht)))) fun v4 h=>?_;cases h)<;>refine xL 5 Zak ?_<;>refine xL 2 ζc ?_<;>refine ζb (nav ?_)<;>try dsimp only)
 exact ζt Tryz.results11 rfl rfl
def ZBz (l:List ByteArray) (n:Int):Bool:=decide ((l.length:Int)≤n)&& !(l.any fun s=>decide (100<(s.size:Int)))
theorem ZnP (s:ByteArray):AF Tryz.prog 60 [ZaS s] (· =ζO (decide (100<(s.size:Int)))):=by
 refine AF.of_body 6 Tryz.func60 rfl Tryz.ntmps60 (Nat.le_of_ble_eq_true rfl) ?_
 intro w0 M0 vs hl hv
 obtain ⟨v0,rfl⟩:=ZdL hl
 obtain rfl:=hv 0 _ _ rfl rfl
 clear hl hv
 refine nav ?_
 (refine ζa ?_<;>refine xL 2 ζc ?_<;>refine ζb (nav ?_)<;>try dsimp only)
 (refine ζa ?_<;>refine xL 3 ζd ?_<;>refine xL 4 (ZkA Tryz.underlying9) ?_<;>refine xL 5 ZaH ?_<;>refine xL 2 ζc ?_<;>refine ζb (nav ?_)<;>try dsimp only)
 exact ζt Tryz.results60 rfl rfl
theorem ZqL (l:List ByteArray) (n:Int):AF Tryz.prog 15 [Zao l,pInt n] (· =ζO (ZBz l n)):=by
 refine AF.of_body 14 Tryz.func15 rfl Tryz.ntmps15 (Nat.le_of_ble_eq_true rfl) ?_
 intro w0 M0 vs hl hv
 obtain ⟨v0,v1,rfl⟩:=Zb3 hl
 obtain rfl:=hv 1 _ _ rfl rfl
 clear hl hv
 refine nav ?_
 (refine ζa ?_<;>refine xL 4 ζc ?_<;>refine ζb (nav ?_)<;>try dsimp only)
 (refine ζa ?_<;>refine xL 5 ζd ?_<;>refine xL 6 (ζV ZtM) ?_<;>refine xL 7 ζd ?_<;>refine xL 8 Zuc ?_<;>refine xL 9 ζd ?_<;>(refine bLd 9 (fun hb9=>?_) (fun hb9=>?_)<;>(first|refine kL 10 ?_|refine xL 10 ζd ?_))<;>(first|refine kL 11 ?_|(refine cS 11 (cA Tryz.call59 (ZfH 60 [] (fun s=>decide (100<(s.size:Int))) l (Tryz.call60) (fun s hs=>ZnP s))) fun v11 h=>?_;cases h))<;>(first|refine kL 12 ?_|refine xL 12 Zak ?_)<;>refine xL 13 ζF ?_<;>refine xL 4 ζc ?_<;>refine ζb (nav ?_)<;>try dsimp only)<;>(
  refine ζt (Tryz.results15) rfl ?_
  unfold ZBz
  first|(rw [decide_eq_true hb9];rfl)|(rw [decide_eq_false hb9];rfl))
theorem ZtP {a b:Nd} (ha:FitT a) (hb:FitT b):∀t∈[a,b],FitT t:=fun t ht=>by
 rcases List.mem_cons.1 ht with rfl|ht
 · exact ha
 · rw [List.mem_singleton.1 ht];exact hb
end Go.Proofs.YtgfabnhpllkebaaGreatDoor
namespace Go.En
open Go.RowKit Go.Cb Go.ChangeShapes Go.WideShapes Go.ChangeAt
set_option linter.all false
section
variable {P:Program} {t:TypeId}
end
end Go.En
namespace Go.Proofs.YtgfabnhpllkebaaGreatDoor
open Go.RowKit Go.Cb Go.En Go.ChangeShapes Go.WideShapes Go.ChangeAt
set_option linter.all false
set_option maxRecDepth 100000
def ZBh:Except Int Aut→Aut
 | .ok a=>a
 | .error _=>ZA3
def ZBi:Except Int Aut→Int
 | .ok _=>0
 | .error e=>e
theorem ZAi (x:Except Int Aut):ZBw x= .tup [ζW (ZBh x),pInt (ZBi x)]:=by cases x<;>rfl
theorem ZwK {P:Program} {f:Nat} {ps:List PV} {x:Except Int Aut} (h:AF P f ps (· =resW x)):AF P f ps (· = .tup [ζW (ZBh x),pInt (ZBi x)]):=by
 rw [←ZAi];exact ZzX h
theorem ZAj:Dec Tryz.prog 9 1 (fun s:ByteArray=>[ZaS s]) (fun s=>s.size≤140737488355328):=ZrH Tryz.underlying9 (by kernel_rfl)
theorem ZyK:Dec Tryz.prog 27 1 (fun l=>[Zao l]) ZBp:=
 Zxn id (ZrI Tryz.underlying27 (by kernel_rfl) (by decide) (Nat.le_of_ble_eq_true (by kernel_rfl)) ZAj) (fun _=>rfl) (fun l=>by show [PV.sl l.length (l.map ZaS)]=_;rw [Zuh]) (fun _ h=>h)
open Go.RowKit Go.Cb Go.En
theorem Zax:AggT Tryz.prog 24 3=true:=by kernel_rfl
theorem ZeF:AggT Tryz.prog 39 5=true:=by kernel_rfl
theorem Zmj:ElT Tryz.prog 22 24 3 48 (.agg #[(.int .i64 0),(.string ByteArray.empty),(.slice none 0 0)]):=⟨Tryz.underlying22,by kernel_rfl,rfl,by decide⟩
theorem ZtQ:SlT Tryz.prog 36 3 1=true:=by kernel_rfl
theorem ZtR:Zbj Tryz.prog 24=some ((.agg #[(.int .i64 0),(.string ByteArray.empty),(.slice none 0 0)]),([0,1,2]:List Nat).map fun o=>(o,1)):=by kernel_rfl
theorem ZtS:ZeroT Tryz.prog 24 (.agg #[(.int .i64 0),(.string ByteArray.empty),(.slice none 0 0)]):=by unfold ZeroT;kernel_rfl
theorem Zmk:ZeroT Tryz.prog 39 (.agg #[(.int .i64 0),(.int .i64 0),(.slice none 0 0),(.slice none 0 0),(.slice none 0 0)]):=by unfold ZeroT;kernel_rfl
theorem Zv8:∀t:Nd,okT t=true→∀s∈Za5 t,ZaZ s=true:=Nd.ind fun o a l ih h s hs=>by
 obtain ⟨hr,hp⟩:=ZbM.1 h
 have hL:s∈Ze1 l→ZaZ s=true:=fun hs=>by
  obtain ⟨x,hx,h1⟩:=Zdq.1 hs
  exact ih x hx (hp x hx) s h1
 by_cases h1:o=1
 · rw [Zpn hr h1,List.mem_singleton] at hs
   subst h1 hs
   unfold rightT at hr
   simp [Nd.op,Nd.l,Nd.act] at hr
   exact hr.2
 · rw [Za5,if_neg h1] at hs
   exact hL hs
theorem ZqM {t:Nd} {L:List ByteArray} (h:actR t=(L,0)):Zci L=true∧(∀s∈L,s.size≤140737488355328)∧ZcB t=true∧L.Nodup∧L.length≤40∧∀s,s∈L↔s∈Za5 t:=by
 obtain ⟨hv,hL,hm,hn,hmem⟩:=Zka (t:=t) (by rw [h])
 rw [h] at hL hm hn hmem
 dsimp only at hL hm hn hmem
 have hok:=Ze7 hv
 refine ⟨Zvu hm (by rw [hL];exact Zpg _) (fun s hs=>Zv8 t hok s ((hmem s).1 hs)),fun s hs=>?_,hv,hn,hm,hmem⟩
 have:=ZtC t hok s ((hmem s).1 hs)
 omega
theorem Zi6 {t:Nd} {L:List ByteArray} (hv:ZcB t=true) (ha:Zci L=true) (hn:L.Nodup) (hm:L.length≤40) (hin:∀s∈Za5 t,s∈L):∃A e,ZBh (autTX t L)=A∧ZBi (autTX t L)=e∧(e=13∨(e=0∧IsMin A∧A.syms=L.length∧Zfz L A (ZbV t))):=by
 rcases Znj hv ha hn hm hin with h|⟨A,h,h2⟩
 · rw [h];exact ⟨_,_,rfl,rfl, .inl rfl⟩
 · rw [h];exact ⟨A,0,rfl,rfl, .inr ⟨rfl,h2⟩⟩
set_option maxHeartbeats 4000000 in
theorem ZqN (a b : Nd) (w:List ByteArray) (hfa:FitT a) (hfb:FitT b) (hfw:ZBp w):AF Tryz.prog 6 [pTr a,pTr b,Zao w] (· =ζO true):=by
 have ea:pTr a= .agg [pInt a.op,ZaS a.act,ZbT a.l]:=rfl
 have eb:pTr b= .agg [pInt b.op,ZaS b.act,ZbT b.l]:=rfl
 obtain ⟨c,hc⟩:∃c,c=Nd.mk 4 ByteArray.empty [a,b]:=⟨_,rfl⟩
 have hfc:FitT c:=by
  rw [hc]
  exact .mk _ (show 2≤140737488355328 by decide) (show (0:Nat)≤140737488355328 by decide) (show (-9223372036854775808:Int)≤4 by decide) (show (4:Int)≤9223372036854775807 by decide) (ZtP hfa hfb)
 have ec:pTr c= .agg [pInt 4, .val (.string ByteArray.empty),ZbT [a,b]]:=by rw [hc];rfl
 have hVa:=ZcI a hfa
 have hVb:=ZcI b hfb
 have hS:=ZqK [a,b] (show 2≤1000 by decide) (ZtP hfa hfb)
 have hAc:=ZmC c hfc
 obtain ⟨L,f,hL⟩:∃L f,actR c=(L,f):=⟨_,_,rfl⟩
 rw [hL] at hAc
 dsimp only at hAc
 have hPa:=ZeZ a hfa w
 have hPb:=ZeZ b hfb w
 have hPc:=ZeZ c hfc w
 have hwl:=hfw.1
 have hor:(accTX a w).2=0→(accTX b w).2=0→(accTX c w).2=0→(accTX c w).1=((accTX a w).1||(accTX b w).1):=fun h1 h2 h3=>by
  rw [hc] at h3 ⊢
  exact ZxY h1 h2 h3
 generalize accTX a w=ra at hPa hor
 generalize accTX b w=rb at hPb hor
 generalize accTX c w=rc at hPc hor
 obtain ⟨xa,ra⟩:=ra
 obtain ⟨xb,rb⟩:=rb
 obtain ⟨xc,rc⟩:=rc
 dsimp only at hPa hPb hPc hor
 rw [ea] at hVa hPa
 rw [eb] at hVb hPb
 rw [ec] at hAc hPc
 rw [ea,eb]
 refine AF.of_body 145 Tryz.func6 rfl Tryz.ntmps6 (Nat.le_of_ble_eq_true rfl) ?_
 intro w0 M0 vs hl hv
 obtain ⟨v0,v1,v2,rfl⟩:=Zml hl
 clear hl hv
 refine nav ?_
 (refine ζa ?_<;>refine ζE 3 3 fun h3=>?_<;>refine ζE 4 3 fun h4=>?_<;>refine xL 6 ζc ?_<;>refine ζb (nav ?_)<;>try dsimp only)
 (refine ζa ?_ <;> (refine cS 20 (cA Tryz.call10 (Zi5)) fun v20 h=>?_;cases h)<;>refine xL (v:= .bool false) (p:= .val (.bool false)) 21 (Zak (b:=true)) ?_<;>refine xL 22 ζd ?_<;>(refine yL 23 (ζp 3 Zax) fun v23 h=>?_;cases h)<;>(refine yL 24 (ζp 4 Zax) fun v24 h=>?_;cases h)<;>(refine Zg2 (kk:=3) (xs:=[_,_]) (cs:=[[_,_,_],[_,_,_]]) 25 Zmj fun h25 ho25=>?_;refine ζq (En.freeze (l:=25) (t:=25) rfl rfl) fun _=>?_;refine ζq (ZbN (t:=25) (p':=ZbT [a,b]) rfl (Eq.trans (show _=PV.sl 2 (cN a++cN b) from rfl) (ZeE a b))) fun _=>?_)<;>(refine cS 26 (cA Tryz.call11 (hS)) fun v26 h=>?_;cases h)<;>refine xL 27 Zak ?_<;>refine xL 28 ζF ?_<;>refine xL 29 ζd ?_<;>(refine bL 29 (fun hb29=>?_) (fun hb29=>?_)<;>(first|refine kL 30 ?_|refine xL 30 ζd ?_))<;>(first|refine kL 31 ?_|(refine cS 31 (cA Tryz.call15 (ZqL w 12)) fun v31 h=>?_;cases h))<;>(first|refine kL 32 ?_|refine xL 32 Zak ?_)<;>refine xL 33 ζF ?_<;>refine xL 34 ζd ?_<;>(first|refine kL 35 ?_|(refine bL 34 (fun hb34=>?_) (fun hb34=>?_)<;>(first|refine kL 35 ?_|(refine yL 35 (ζp 3 Zax) fun v35 h=>?_;cases h))))<;>(first|refine kL 36 ?_|(refine cS 36 (cA Tryz.call24 (hVa)) fun v36 h=>?_;cases h))<;>(first|refine kL 37 ?_|refine xL 37 Zak ?_)<;>refine xL 38 ζF ?_<;>refine xL 39 ζd ?_<;>(first|refine kL 40 ?_|(refine bL 39 (fun hb39=>?_) (fun hb39=>?_)<;>(first|refine kL 40 ?_|(refine yL 40 (ζp 4 Zax) fun v40 h=>?_;cases h))))<;>(first|refine kL 41 ?_|(refine cS 41 (cA Tryz.call24 (hVb)) fun v41 h=>?_;cases h))<;>(first|refine kL 42 ?_|refine xL 42 Zak ?_)<;>refine xL 43 ζF ?_<;>refine ζb (nav ?_)<;>try dsimp only)<;>(
  (first|refine cCd ?_ ?_|refine cC ?_ ?_)<;>intro hb43
  · first
    |exact Bool.noConfusion hb43
    | (
     refine nav ?_
     (refine ζa ?_<;>(refine cS 44 (cA Tryz.call10 (Zi5)) fun v44 h=>?_;cases h)<;>refine xL 6 ζc ?_<;>refine ζb (nav ?_)<;>try dsimp only)
     exact ζt (Tryz.results6) rfl rfl)
  · first
    |exact Bool.noConfusion hb43
    | (
     have hva:ZcB a=true:=by first|(simpa using hb39)|(simpa using hb38)|(exfalso;simp_all;done)
     have hvb:ZcB b=true:=by first|(simpa using hb43)|(exfalso;simp_all;done)
     refine nav ?_
     (refine ζa ?_<;>(refine yL 45 (ζp 3 Zax) fun v45 h=>?_;cases h)<;>(refine yL 46 (ζp 4 Zax) fun v46 h=>?_;cases h)<;>(refine Zg2 (kk:=3) (xs:=[_,_]) (cs:=[[_,_,_],[_,_,_]]) 47 Zmj fun h47 ho47=>?_;refine ζq (En.freeze (l:=47) (t:=47) rfl rfl) fun _=>?_;refine ζq (ZbN (t:=47) (p':=ZbT [a,b]) rfl (Eq.trans (show _=PV.sl 2 (cN a++cN b) from rfl) (ZeE a b))) fun _=>?_)<;>refine xL 48 (ζB ZtR) ?_<;>refine ζr [(.int .i64 0),(.string ByteArray.empty),(.slice none 0 0)] 3 7 ZtS fun h7=>?_<;>refine ζC 7 Zax ?_<;>refine ζb (nav ?_)<;>try dsimp only)
     (refine ζa ?_<;>(refine yL 50 (ζp 7 Zax) fun v50 h=>?_;cases h)<;>(refine cP 51 (cA Tryz.call25 (hAc)) fun va51 vb51 hva51 h=>?_;cases h)<;>refine xL 49 ζd ?_<;>refine xL 52 ζf ?_<;>refine xL 53 ζf ?_<;>refine xL 8 ζc ?_<;>refine xL 9 ζc ?_<;>refine ζb (nav ?_)<;>try dsimp only)
     (refine ζa ?_<;>refine xL 54 ζd ?_<;>refine xL 55 ZaD ?_<;>refine ζb (nav ?_)<;>try dsimp only)
     (first|refine cCd ?_ ?_|refine cC ?_ ?_)<;>intro hb55
     · first
       |exact Bool.noConfusion hb55
       | (
        refine nav ?_
        (refine ζa ?_<;>refine xL 6 ζc ?_<;>refine ζb (nav ?_)<;>try dsimp only)
        exact ζt (Tryz.results6) rfl rfl)
     · first
       |exact Bool.noConfusion hb55
       | (
        have hf0:f=0:=by simpa using hb55
        subst hf0
        obtain ⟨hal,hLs,hvc,hLn,hLm,hLi⟩:=ZqM hL
        have hLa:∀s∈Za5 a,s∈L:=fun s hs=>(hLi s).2 (by rw [hc];exact Zdq.2 ⟨a,List.mem_cons_self ..,hs⟩)
        have hLc:∀s∈Za5 c,s∈L:=fun s hs=>(hLi s).2 hs
        have hQa:=ZwK (Zpp a hfa L hLs)
        have hQc:=ZwK (Zpp c hfc L hLs)
        obtain ⟨A,e1,hA,he1,h1⟩:=Zi6 hva hal hLn hLm hLa
        obtain ⟨B,e2,hB,he2,h2⟩:=Zi6 hvc hal hLn hLm hLc
        rw [hA,he1,ea] at hQa
        rw [hB,he2,ec] at hQc
        refine nav ?_
        (refine ζa ?_<;>(refine yL 57 (ζp 3 Zax) fun v57 h=>?_;cases h)<;>refine xL 58 ζd ?_<;>(refine cP 59 (cA (Tryz.call19) hPa) (fun va59 vb59 hva59 hvb59=>?_);cases hva59;cases hvb59)<;>refine xL 56 ζd ?_<;>refine xL 60 ζf ?_<;>refine xL 61 ζf ?_<;>refine xL 10 ζc ?_<;>refine xL 11 ζc ?_<;>refine ζb (nav ?_)<;>try dsimp only)
        (refine ζa ?_<;>(refine yL 63 (ζp 4 Zax) fun v63 h=>?_;cases h)<;>refine xL 64 ζd ?_<;>(refine cP 65 (cA (Tryz.call19) hPb) (fun va65 vb65 hva65 hvb65=>?_);cases hva65;cases hvb65)<;>refine xL 62 ζd ?_<;>refine xL 66 ζf ?_<;>refine xL 67 ζf ?_<;>refine xL 12 ζc ?_<;>refine xL 13 ζc ?_<;>refine ζb (nav ?_)<;>try dsimp only)
        (refine ζa ?_<;>(refine yL 69 (ζp 7 Zax) fun v69 h=>?_;cases h)<;>refine xL 70 ζd ?_<;>(refine cP 71 (cA (Tryz.call19) hPc) (fun va71 vb71 hva71 hvb71=>?_);cases hva71;cases hvb71)<;>refine xL 68 ζd ?_<;>refine xL 72 ζf ?_<;>refine xL 73 ζf ?_<;>refine xL 14 ζc ?_<;>refine xL 15 ζc ?_<;>refine ζb (nav ?_)<;>try dsimp only)
        (refine ζa ?_<;>refine xL 74 ζd ?_<;>refine xL 75 Zag ?_<;>refine xL 76 ζd ?_<;>(refine bLd 76 (fun hb76=>?_) (fun hb76=>?_)<;>(first|refine kL 77 ?_|refine xL 77 ζd ?_))<;>(first|refine kL 78 ?_|refine xL 78 Zag ?_)<;>refine xL 79 ζF ?_<;>refine xL 80 ζd ?_<;>(first|refine kL 81 ?_|(refine bLd 80 (fun hb80=>?_) (fun hb80=>?_)<;>(first|refine kL 81 ?_|refine xL 81 ζd ?_)))<;>(first|refine kL 82 ?_|refine xL 82 Zag ?_)<;>refine xL 83 ζF ?_<;>refine xL 84 ζd ?_<;>(first|refine kL 85 ?_|(refine bLd 84 (fun hb84=>?_) (fun hb84=>?_)<;>(first|refine kL 85 ?_|refine xL 85 ζd ?_)))<;>(first|refine kL 86 ?_|refine xL 86 ζd ?_)<;>(first|refine kL 87 ?_|refine xL 87 ζd ?_)<;>(first|refine kL 88 ?_|(refine bL 87 (fun hb87=>?_) (fun hb87=>?_)<;>(first|refine kL 88 ?_|refine xL 88 ζd ?_)))<;>(first|refine kL 89 ?_|refine xL 89 ζF ?_)<;>(first|refine kL 90 ?_|refine xL 90 (Zwb Tryz.underlying4) ?_)<;>refine xL 91 ζF ?_<;>refine ζb (nav ?_)<;>try dsimp only)<;>(
         (first|refine cCd ?_ ?_|refine cC ?_ ?_)<;>intro hb91
         · exact absurd hb91 (by first|decide|(rw [hor (by simpa using hb76) (by simpa using hb80) (by simpa using hb84)];first|(rw [hb87];cases xb<;>decide)|(cases xa<;>cases xb<;>decide)|(cases xa<;>cases xb<;>simp_all)))
         · refine nav ?_
           (refine ζa ?_<;>(refine yL 93 (ζp 3 Zax) fun v93 h=>?_;cases h)<;>refine xL 94 ζd ?_<;>(refine cP 95 (cA Tryz.call16 (hQa)) fun va95 vb95 hva95 h=>?_;cases h)<;>refine xL 92 ζd ?_<;>refine xL 96 ζf ?_<;>refine xL 97 ζf ?_<;>refine ζr [(.int .i64 0),(.int .i64 0),(.slice none 0 0),(.slice none 0 0),(.slice none 0 0)] 5 16 Zmk fun h16=>?_<;>refine ζC 16 ZeF ?_<;>refine xL 11 ζc ?_<;>refine ζb (nav ?_)<;>try dsimp only)
           (refine ζa ?_<;>(refine yL 99 (ζp 7 Zax) fun v99 h=>?_;cases h)<;>refine xL 100 ζd ?_<;>(refine cP 101 (cA Tryz.call16 (hQc)) fun va101 vb101 hva101 h=>?_;cases h)<;>refine xL 98 ζd ?_<;>refine xL 102 ζf ?_<;>refine xL 103 ζf ?_<;>refine ζr [(.int .i64 0),(.int .i64 0),(.slice none 0 0),(.slice none 0 0),(.slice none 0 0)] 5 17 Zmk fun h17=>?_<;>refine ζC 17 ZeF ?_<;>refine xL 13 ζc ?_<;>refine ζb (nav ?_)<;>try dsimp only)
           (refine ζa ?_<;>refine xL 104 ζd ?_<;>refine xL 105 ZaD ?_<;>refine xL 106 ζd ?_<;>(refine bLd 106 (fun hb106=>?_) (fun hb106=>?_)<;>(first|refine kL 107 ?_|refine xL 107 ζd ?_))<;>(first|refine kL 108 ?_|refine xL 108 ZaD ?_)<;>refine xL 109 ζF ?_<;>refine ζb (nav ?_)<;>try dsimp only)<;>(
            (first|refine cCd ?_ ?_|refine cC ?_ ?_)<;>intro hb109
            · first
              |exact Bool.noConfusion hb109
              | (
               refine nav ?_
               (refine ζa ?_<;>refine xL 110 ζd ?_<;>refine xL 111 Zag ?_<;>refine xL 112 ζd ?_<;>(refine bLd 112 (fun hb112=>?_) (fun hb112=>?_)<;>(first|refine kL 113 ?_|refine xL 113 ζd ?_))<;>(first|refine kL 114 ?_|refine xL 114 Zag ?_)<;>refine xL 115 ζF ?_<;>refine xL 116 ζd ?_<;>(first|refine xL 117 ζd ?_|(refine bLd 116 (fun hb116=>?_) (fun hb116=>?_)<;>(first|refine kL 117 ?_|refine xL 117 ζd ?_)))<;>(first|refine kL 118 ?_|refine xL 118 Zag ?_)<;>(first|refine kL 119 ?_|refine xL 119 ζd ?_)<;>(first|refine kL 120 ?_|(refine bLd 119 (fun hb119=>?_) (fun hb119=>?_)<;>(first|refine kL 120 ?_|refine xL 120 ζd ?_)))<;>(first|refine kL 121 ?_|refine xL 121 Zag ?_)<;>(first|refine kL 122 ?_|refine xL 122 ζF ?_)<;>refine xL 123 ζF ?_<;>refine xL 6 ζc ?_<;>refine ζb (nav ?_)<;>try dsimp only)<;>(
                refine ζt (Tryz.results6) rfl ?_
                rcases h1 with rfl|⟨rfl,_⟩<;>rcases h2 with rfl|⟨rfl,_⟩<;>first|rfl|(exfalso;simp at hb106;done)|(exfalso;simp at hb109;done)|(exfalso;simp at hb112;done)|(exfalso;simp at hb115;done)|(exfalso;simp at hb116;done)|(exfalso;simp at hb119;done)|(exfalso;simp at hb122;done)|(exfalso;simp at hb123;done)))
            · first
              |exact Bool.noConfusion hb109
              | (
               have he10:e1=0:=by first|(simpa using hb106)|(exfalso;simp_all;done)
               have he20:e2=0:=by first|(simpa using hb109)|(exfalso;simp_all;done)
               have hmin:(IsMin A∧A.syms=L.length∧Zfz L A (ZbV a))∧(IsMin B∧B.syms=L.length∧Zfz L B (ZbV c)):=by
                constructor
                · rcases h1 with h|⟨_,h⟩
                  · rw [he10] at h;cases h
                  · exact h
                · rcases h2 with h|⟨_,h⟩
                  · rw [he20] at h;cases h
                  · exact h
               obtain ⟨⟨mA,sA,lA⟩,⟨mB,sB,lB⟩⟩:=hmin
               rw [hc] at lB
               have hX:∃s e,cmpX A B 3=(s,[],e)∧((s=true∧e=0)∨(s=false∧e=13)):=by
                rcases ZxZ mA mB sA sB lA lB with h|h
                · exact ⟨_,_,h, .inl ⟨rfl,rfl⟩⟩
                · exact ⟨_,_,h, .inr ⟨rfl,rfl⟩⟩
               obtain ⟨s,e,hX,hd⟩:=hX
               have hI:AF Tryz.prog 26 [ζW A,ζW B] (· = .tup [ζO s,pInts [],pInt e]):=by
                have:=Zno A B
                rw [hX] at this
                exact this
               refine nav ?_
               (refine ζa ?_<;>(refine yL 125 (ζp 16 ZeF) fun v125 h=>?_;cases h)<;>(refine yL 126 (ζp 17 ZeF) fun v126 h=>?_;cases h)<;>(refine Zxj 127 (cA (Tryz.call26) hI) (fun va127 vb127 vc127 hva127 hvb127 hvc127=>?_);cases hva127;cases hvc127)<;>refine xL 124 ζd ?_<;>refine xL 128 ζf ?_<;>refine xL 129 ζf ?_<;>refine xL 130 ζf ?_<;>refine xL 18 ζc ?_<;>refine xL 19 ζc ?_<;>refine xL 15 ζc ?_<;>refine ζb (nav ?_)<;>try dsimp only)
               (refine ζa ?_<;>refine xL 131 ζd ?_<;>refine xL 132 Zag ?_<;>refine xL 133 ζd ?_<;>(refine bLd 133 (fun hb133=>?_) (fun hb133=>?_)<;>(first|refine kL 134 ?_|refine xL 134 ζd ?_))<;>refine xL 135 ζF ?_<;>refine xL 136 ζd ?_<;>(first|refine kL 137 ?_|(refine bL 136 (fun hb136=>?_) (fun hb136=>?_)<;>(first|refine kL 137 ?_|refine xL 137 ζd ?_)))<;>(first|refine kL 138 ?_|refine xL 138 (ζV ZtQ) ?_)<;>(first|refine kL 139 ?_|refine xL 139 Zag ?_)<;>refine xL 140 ζF ?_<;>refine xL 141 ζd ?_<;>(first|refine kL 142 ?_|refine xL 142 ζd ?_)<;>(first|refine kL 143 ?_|refine xL 143 Zag ?_)<;>refine xL 144 ζF ?_<;>refine xL 6 ζc ?_<;>refine ζb (nav ?_)<;>try dsimp only)<;>(
                refine ζt (Tryz.results6) rfl ?_
                rcases hd with ⟨rfl,rfl⟩|⟨rfl,rfl⟩<;>first|rfl|(exfalso;simp at hb133;done)|(exfalso;simp at hb135;done)|(exfalso;simp at hb136;done)|(exfalso;simp at hb140;done)|(exfalso;simp at hb141;done)|(exfalso;simp at hb144;done))))))))
end Go.Proofs.YtgfabnhpllkebaaGreatDoor
