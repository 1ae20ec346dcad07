/-
  Walks: languages of trees: the reference's automaton of a tree; activities within an alphabet.
  Walks: languages of trees: Auto, own, Accepts, in the program and in the reference.
  Walks: the reference's automata: differ, Equivalent, Included.
  Walks: languages of trees: Equivalent, in the program and in the reference.
  Plain laws: automata of trees, in a form that is evaluated; those of the examples of layer 20. No program in sight.
  Walks: process trees: the shape of a normal form; lists of strings compared.
  Walks: languages of trees: the examples of the chapter (layer 20).
  Walks: languages of trees: the statements' bounds (layer 20): how many nodes, how heavy, how long.
  The law TreelangEquivalents: Equivalent says whether two trees have the same language, with the first difference, as the reference does.
  Walks: process trees: a tree with its parts in another order, nested, and with silent steps.
  Walks: languages of trees: slices.Concat over trees; a tree with its parts turned on (layer 20).
  Plain laws: the chapter's automaton, its star, what they are compared with, evaluated. No program in sight.
  Walks: awake (layer 7).
  The engine: a struct of five fields read as an argument. No program in sight.
  How the arguments of the laws read; what is handed back, as one automaton and one number; the law on Minimal and Complement (layer 7).
  The law TreelangAutos: Auto returns the automaton of the reference.
-/
import Derived.Test.YtgfabnhpllkebaaGreatDoorPq12
import Derived.Test.YtgfabnhpllkebaaGreatDoorPq08
import Derived.Test.YtgfabnhpllkebaaGreatDoorPq04
import Derived.Test.YtgfabnhpllkebaaGreatDoorPq06
import Derived.Test.YtgfabnhpllkebaaGreatDoorPq10
import Derived.Test.YtgfabnhpllkebaaGreatDoorPq05
import Derived.Test.YtgfabnhpllkebaaGreatDoorPq07
import Derived.Test.YtgfabnhpllkebaaGreatDoorPq02
import Derived.Test.YtgfabnhpllkebaaGreatDoorPq03
import Derived.Test.YtgfabnhpllkebaaGreatDoorPq09
import Derived.Test.YtgfabnhpllkebaaGreatDoorPq01
namespace Go.Proofs.YtgfabnhpllkebaaGreatDoor
open Go.RowKit Go.Cb Go.En
set_option linter.all false
set_option maxRecDepth 100000
structure RS (r:Option Aut) (p0 p1 p2 p3 p4:PV) (E:Int):Prop where
 r5:R5 p0 p1 p2 p3 p4
 eq:resW (lim r)= .tup [.agg [p0,p1,p2,p3,p4],pInt E]
 hc:(r=none∧E=13)∨∃A,r=some A∧E=0∧p0=pInt A.n∧p1=pInt A.syms∧p2=pInts A.start∧p3=pInts A.fin∧p4=pMvs A.moves
theorem ZCo (r:Option Aut):∃p0 p1 p2 p3 p4 E,RS r p0 p1 p2 p3 p4 E:=by
 obtain ⟨p0,p1,p2,p3,p4,E,r5,hres,hc⟩:=ZjM r
 exact ⟨p0,p1,p2,p3,p4,E,r5,hres,hc⟩
theorem RS.no {r:Option Aut} {p0 p1 p2 p3 p4:PV} {E:Int} (h:RS r p0 p1 p2 p3 p4 E) (hE:¬E=0):r=none∧E=13:=by
 rcases h.hc with h1|⟨A,_,h1,_⟩
 · exact h1
 · exact absurd h1 hE
theorem RS.yes {r:Option Aut} {p0 p1 p2 p3 p4:PV} {E:Int} (h:RS r p0 p1 p2 p3 p4 E) (hE:E=0):∃A,r=some A∧E=0∧p0=pInt A.n∧p1=pInt A.syms∧p2=pInts A.start∧p3=pInts A.fin∧p4=pMvs A.moves:=by
 rcases h.hc with ⟨_,h1⟩|h1
 · omega
 · exact h1
theorem Zmv:AggT Tryz.prog 24 3=true:=by kernel_rfl
theorem Zmw:AggT Tryz.prog 39 5=true:=by kernel_rfl
theorem Zn9:ZeroT Tryz.prog 39 (.agg #[(.int .i64 0),(.int .i64 0),(.slice none 0 0),(.slice none 0 0),(.slice none 0 0)]):=by unfold ZeroT;kernel_rfl
theorem Zzv (t:Nd) (hf:FitT t) {L:List ByteArray} (hR:actR t=(L,0)) {p0 p1 p2 p3 p4:PV} {E:Int} (hS:RS (bldT L t) p0 p1 p2 p3 p4 E):AF Tryz.prog 66 [pTr t] (· = .tup [.agg [p0,p1,p2,p3,p4],ZaY L,pInt E]):=by
 have e0:pTr t= .agg [pInt t.op,Zab t.act,Zag t.l]:=rfl
 have hA:=ZAO t hf
 obtain ⟨hv,hL,hm,hn,hmem⟩:=ZBj (t:=t) (by rw [hR])
 rw [hR] at hA hm hmem
 dsimp only at hA hm hmem
 have hj:=ZjO L hm t (ZdG hv) (by have:=ZhX hv;omega) (fun s hs=>(hmem s).2 hs)
 rw [hS.eq] at hj
 rw [e0] at hA hj ⊢
 have r5:=hS.r5
 obtain ⟨o0,o1,o2,o3,o4⟩:=r5.o
 refine AF.of_body 26 Tryz.func66 rfl Tryz.ntmps66 (Xa rfl) ?_
 intro w0 M0 vs hl hv
 obtain ⟨v0,rfl⟩:=Zco hl
 clear hl hv
 refine nav ?_
 (refine ζa ?_<;>refine ζH 1 3 fun h1=>?_<;>refine ζs [(.int .i64 0),(.int .i64 0),(.slice none 0 0),(.slice none 0 0),(.slice none 0 0)] 5 2 Zn9 fun h2=>?_<;>refine xL 3 ζc (xL 4 ζc ?_)<;>refine ζd ?_)
 (refine ζa ?_<;>(refine yL 9 (ζk 1 Zmv) fun v9 h=>?_;cases h)<;>(refine cP 10 (cA Tryz.call25 (hA)) fun va10 vb10 hva10 h=>?_;cases h)<;>refine xL 8 ζb (xL 11 ζl (xL 12 ζl (xL 5 ζc (xL 6 ζc ?_))))<;>refine ζd ?_)
 (refine ζa ?_<;>refine xL 13 ζb (xL 14 Zaz ?_)<;>refine ζd ?_)
 (first|refine cCd ?_ ?_|refine cC ?_ ?_)<;>intro hb14
 · exact absurd rfl hb14
 · refine nav ?_;(refine ζa ?_<;>(refine yL 18 (ζk 1 Zmv) fun v18 h=>?_;cases h)<;>refine xL 19 ζb ?_<;>(refine cP 20 (cA (Tryz.call51) hj) (fun va20 vb20 hva20 hvb20=>?_) (hsh:=r5.t E);cases hvb20)<;>refine xL 17 ζb (xL 21 ζl (xL 22 ζl ?_))<;>refine ζs [(.int .i64 0),(.int .i64 0),(.slice none 0 0),(.slice none 0 0),(.slice none 0 0)] 5 7 Zn9 fun h7=>?_<;>refine ζt 7 Zmw ?_<;>refine xL 6 ζc ?_<;>refine ζd ?_)
   (refine ζa ?_<;>(refine yL 23 (ζk (k:=5) (ps:=[p0,p1,p2,p3,p4]) 7 kR (hsh:=r5.s)) fun v23 h=>?_;cases h)<;>refine xL 24 ζb (xL 25 ζb ?_)<;>refine ζt 2 Zmw ?_<;>refine xL 3 ζc (xL 4 ζc ?_)<;>refine ζd ?_)
   exact ZAt (k:=5) 2 kR (Tryz.results66) rfl rfl rfl rfl (Xa rfl) (by decide) r5.s rfl
structure OwnR (t:Nd) (L:List ByteArray) (p0 p1 p2 p3 p4:PV) (E:Int):Prop where
 r5:R5 p0 p1 p2 p3 p4
 hc:(¬E=0∧actR t=(L,E))∨(actR t=(L,0)∧RS (bldT L t) p0 p1 p2 p3 p4 E)
theorem Zbk:AggT Tryz.prog 24 3=true:=by kernel_rfl
theorem Zgt:AggT Tryz.prog 39 5=true:=by kernel_rfl
theorem ZrR:FldT Tryz.prog 24 0 0=true:=by kernel_rfl
theorem ZrS:FldT Tryz.prog 24 1 1=true:=by kernel_rfl
theorem Zkk:FldT Tryz.prog 24 2 2=true:=by kernel_rfl
theorem Zwp:MpT Tryz.prog 76 9 4 .string (.bool false):=⟨Tryz.underlying76,Tryz.underlying9, .inl rfl,by show ZeroT _ _ _;unfold ZeroT;kernel_rfl⟩
theorem Zoa:NoAgg Tryz.prog 22=true:=by kernel_rfl
theorem Zzw:NoAgg Tryz.prog 3=true:=by kernel_rfl
theorem Zzx:NoAgg Tryz.prog 9=true:=by kernel_rfl
theorem ZhH:SlT Tryz.prog 22 24 3=true:=by kernel_rfl
theorem Zwq:SlT Tryz.prog 27 9 1=true:=by kernel_rfl
theorem Zob:ZeroT Tryz.prog 24 (.agg #[(.int .i64 0),(.string ByteArray.empty),(.slice none 0 0)]):=by unfold ZeroT;kernel_rfl
theorem Zoc:ZeroT Tryz.prog 39 (.agg #[(.int .i64 0),(.int .i64 0),(.slice none 0 0),(.slice none 0 0),(.slice none 0 0)]):=by unfold ZeroT;kernel_rfl
set_option maxHeartbeats 4000000 in
theorem Zkl:∀(t:Nd),okT t=true→szT t≤1000000→∀(ks:List ByteArray) (m V:Value),AFh False Tryz.prog 48 [(0,V,pTr t),(1,m, .val m)] [(1000,m, .omap (skv (Zcp ks)))] (fun v q h=>h=[(1000,m, .omap (skv (Zcp (colS ks (Zax t)))))]):=Nd.ind fun o a l ih hok hs ks m V=>by
 have e0:pTr (.mk o a l)= .agg [pInt o,Zab a,Zag l]:=rfl
 rw [e0]
 obtain ⟨hr,hp⟩:=Zbf.1 hok
 have hsz:=Zf8 (.mk o a l)
 have hlz:=Zef l
 simp only [Nd.l,Nd.op] at hp hsz
 obtain ⟨K,hK⟩:∃K,K=if o=1 then setK ks a else ks:=⟨_,rfl⟩
 have hres:colS ks (Zax (.mk o a l))=colS K (Zct l):=by
  rw [hK,Zax];split<;>rfl
 rw [hres]
 refine AFh.of_body 23 Tryz.func48 rfl Tryz.ntmps48 (Xa rfl) rfl ?_
 intro w0 M0 N0
 refine nav ?_
 (refine ζa ?_<;>refine ζH 2 3 fun h2=>?_<;>refine ζd ?_)
 (refine ζa ?_<;>refine xL 6 (ζh 2 ZrR) ?_<;>(refine yL 7 (ζq 2 Zzw) fun v7 h=>?_;cases h)<;>refine xL 8 ζ6 ?_<;>refine ζd ?_)
 (first|refine cCd ?_ ?_|refine cC ?_ ?_)<;>intro hb8
 · first
   |exact bN hb8
   | (
    refine nav ?_;(refine ζa ?_<;>refine xL 9 ζb (xL 10 (ζh 2 ZrS) ?_)<;>(refine yL 11 (ζq 2 Zzx) fun v11 h=>?_;cases h)<;>(refine ZhU 1000 Zwp ?_;rw [Zqs,show setK ks a=K by rw [hK,if_pos (by assumption)]])<;>refine ζd ?_)
    (refine ζa ?_<;>refine xL 12 (ζh 2 Zkk) ?_<;>(refine yL 13 (ζq 2 Zoa) fun v13 h=>?_;cases h)<;>refine xL 14 (ζU ZhH) (xL 15 ζb ?_)<;>refine ζd ?_)
    refine ζy (ι:={q:Nat×List ByteArray//q.1≤l.length∧q.2=colS K (Zct (l.take q.1))}) (fun k=>⟨[(1,_,_),(13,_,_),(14,_,_),(15, .int .i64 k.1.1,pInt k.1.1)],[(1000,m, .omap (skv (Zcp k.1.2)))]⟩) (fun k=>l.length-k.1.1) ⟨(0,K),Xe _,by rw [Vx];rfl⟩ (fun a w H=>H.weaken ⟨rfl,rfl,rfl,rfl,trivial⟩ ⟨rfl,trivial⟩) ?_;rintro ⟨⟨i,S⟩,hi,hS⟩;dsimp only;dsimp only at hi hS;refine nav ?_;(refine ζa ?_<;>refine xL 16 ζK ?_<;>refine ζd ?_)
    (first|refine cCd ?_ ?_|refine cC ?_ ?_)<;>intro hb16
    · first
      |exact bN hb16
      | (
       obtain ⟨x,hx⟩:=ζm (show i<l.length by omega);have e1:((ζ3 l).drop (i*3)).take 3=[pInt x.op,Zab x.act,Zag x.l]:=ζ4 hx;have e2:=Zah hx;have hxm:=Xb hx;have hxs:=ZdT hxm;have hsn:=Zhp hx;refine nav ?_;(refine ζa ?_<;>refine xL 17 (ζI ZhH) ?_<;>(refine yL 18 (ZaQ Zbk) fun v18 h=>?_;cases h)<;>refine ζs [(.int .i64 0),(.string ByteArray.empty),(.slice none 0 0)] 3 5 Zob fun h5=>?_<;>refine ζt 5 Zbk ?_<;>refine ζd ?_)
       (refine ζa ?_<;>(refine yL 19 (ζk 5 Zbk) fun v19 h=>?_;cases h)<;>refine xL 20 ζb ?_<;>(refine Zat [(1000,m, .omap (skv (Zcp S)))] ⟨rfl,trivial⟩ ?_;refine ZbO [] 21 (Tryz.call48) (ih x hxm (hp x hxm) (by omega) S m v19) (fun v21 p21 h21 hR21=>?_);subst hR21)<;>refine ζd ?_)
       (refine ζa ?_<;>refine xL 22 ζG (xL 15 ζb ?_)<;>refine ζd ?_)
       refine ζj (
        ⟨(i+1,colS S (Zax x)),ζg hx,by dsimp only;rw [hsn,ZgS,←hS]⟩
        ) (by dsimp only;omega) ⟨rfl,rfl,rfl,rfl,trivial⟩ ⟨rfl,trivial⟩)
    · first
      |exact bN hb16
      | (
       refine nav ?_;(have hS2:S=colS K (Zct l):=by rw [hS,Xo (by omega)]);refine Zcw [(1000,m, .omap (skv (Zcp S)))] (Tryz.results48) ⟨rfl,trivial⟩ ?_;rw [hS2]))
 · first
   |exact bN hb8
   | (
    rw [show ks=K by rw [hK,if_neg (by assumption)]];refine nav ?_;(refine ζa ?_<;>refine xL 12 (ζh 2 Zkk) ?_<;>(refine yL 13 (ζq 2 Zoa) fun v13 h=>?_;cases h)<;>refine xL 14 (ζU ZhH) (xL 15 ζb ?_)<;>refine ζd ?_)
    refine ζy (ι:={q:Nat×List ByteArray//q.1≤l.length∧q.2=colS K (Zct (l.take q.1))}) (fun k=>⟨[(1,_,_),(13,_,_),(14,_,_),(15, .int .i64 k.1.1,pInt k.1.1)],[(1000,m, .omap (skv (Zcp k.1.2)))]⟩) (fun k=>l.length-k.1.1) ⟨(0,K),Xe _,by rw [Vx];rfl⟩ (fun a w H=>H.weaken ⟨rfl,rfl,rfl,rfl,trivial⟩ ⟨rfl,trivial⟩) ?_;rintro ⟨⟨i,S⟩,hi,hS⟩;dsimp only;dsimp only at hi hS;refine nav ?_;(refine ζa ?_<;>refine xL 16 ζK ?_<;>refine ζd ?_)
    (first|refine cCd ?_ ?_|refine cC ?_ ?_)<;>intro hb16
    · first
      |exact bN hb16
      | (
       obtain ⟨x,hx⟩:=ζm (show i<l.length by omega);have e1:((ζ3 l).drop (i*3)).take 3=[pInt x.op,Zab x.act,Zag x.l]:=ζ4 hx;have e2:=Zah hx;have hxm:=Xb hx;have hxs:=ZdT hxm;have hsn:=Zhp hx;refine nav ?_;(refine ζa ?_<;>refine xL 17 (ζI ZhH) ?_<;>(refine yL 18 (ZaQ Zbk) fun v18 h=>?_;cases h)<;>refine ζs [(.int .i64 0),(.string ByteArray.empty),(.slice none 0 0)] 3 5 Zob fun h5=>?_<;>refine ζt 5 Zbk ?_<;>refine ζd ?_)
       (refine ζa ?_<;>(refine yL 19 (ζk 5 Zbk) fun v19 h=>?_;cases h)<;>refine xL 20 ζb ?_<;>(refine Zat [(1000,m, .omap (skv (Zcp S)))] ⟨rfl,trivial⟩ ?_;refine ZbO [] 21 (Tryz.call48) (ih x hxm (hp x hxm) (by omega) S m v19) (fun v21 p21 h21 hR21=>?_);subst hR21)<;>refine ζd ?_)
       (refine ζa ?_<;>refine xL 22 ζG (xL 15 ζb ?_)<;>refine ζd ?_)
       refine ζj (
        ⟨(i+1,colS S (Zax x)),ζg hx,by dsimp only;rw [hsn,ZgS,←hS]⟩
        ) (by dsimp only;omega) ⟨rfl,rfl,rfl,rfl,trivial⟩ ⟨rfl,trivial⟩)
    · first
      |exact bN hb16
      | (
       refine nav ?_;(have hS2:S=colS K (Zct l):=by rw [hS,Xo (by omega)]);refine Zcw [(1000,m, .omap (skv (Zcp S)))] (Tryz.results48) ⟨rfl,trivial⟩ ?_;rw [hS2]))
theorem Zod (par:List (Int×Int)):∀f i,(Zg0 par f i).length≤f
 |0,_=>Xd _
 | f + 1,i=>by
   rw [Zg0];split
   · split
     · exact Xe _
     · rename_i x _ _;rw [Xc,Xt];have:=Zod par f x.1.toNat;omega
   · exact Xe _
theorem Zzy {a b:Aut} (ha:IsMin a) (hb:IsMin b) (hs:a.syms=b.syms) (op:Int):(cmpX a b op).2.1.length≤2000:=by
 have hf:Zb4 a b=0:=Zo5 ha.valid hb.valid hs
 cases hq:prodQ a b with
 |none=>rw [ZnS hf ha.red hb.red hq];exact Xe _
 | some q=>
   obtain ⟨o,rows⟩:=q;have hP:PQ a b o rows:=⟨ha,hb,hs,hq⟩;have hcap:=hP.ok.2.2;rw [ZnR (op:=op) hf ha.red hb.red hq];dsimp only;unfold Zgk;dsimp only
   cases hx:(o.map (ZbF a b op)).idxOf? true with
   |none=>exact Xe _
   | some i=>
     obtain ⟨hi,_⟩:=Zrr.1 hx;(have hil:i<o.length:=by have:=ζg hi;rwa [Xf] at this);have:=Zod (o.map (·.2)) (i+1) i;dsimp only;omega
structure CmpR (a b:Aut) (m:Nat) (s:Bool) (v:List Int) (e:Int):Prop where
 eq:cmpX a b 4=(s,v,e)
 inn:∀i∈v,0≤i∧i<m
 len:v.length≤2000
 nil:(¬e=0∨s=true)→v=[]
 fal:¬e=0→s=false
theorem ZDA {a b:Aut} {m:Nat} (ha:IsMin a) (hb:IsMin b) (sa:a.syms=m) (sb:b.syms=m):∃s v e,CmpR a b m s v e:=by
 have hs:a.syms=b.syms:=by rw [sa,sb]
 have hl:=Zzy ha hb hs 4
 rcases Zun ha hb hs 4 with h|⟨h,_⟩|⟨u,hu,h,_⟩
 · exact ⟨_,_,_,h,fun i hi=>(by cases hi),Xe _,fun _=>rfl,fun _=>rfl⟩
 · exact ⟨_,_,_,h,fun i hi=>(by cases hi),Xe _,fun _=>rfl,fun h=>absurd rfl h⟩
 · rw [h] at hl;refine ⟨_,_,_,h,fun i hi=>?_,hl,fun h=>?_,fun _=>rfl⟩
   · unfold wI at hi;obtain ⟨x,hx,rfl⟩:=Xh.1 hi;have:=(ZnW sa).1 hu x hx;omega
   · rcases h with h|h
     · exact absurd rfl h
     · cases h
theorem Zzz {a b:Nd} (h:¬(Zbv a=true∧Zbv b=true)):eqTX a b=(false,[],1):=by unfold eqTX;rw [if_neg h]
theorem ZzA {a b:Nd} (h:Zbv a=true∧Zbv b=true) (hl:40<(unT a b).length):eqTX a b=(false,[],5):=by
 unfold eqTX
 rw [ZhB] at hl
 rw [if_pos h,if_neg (by omega)]
theorem ZuA {a b:Nd} (h:Zbv a=true∧Zbv b=true) (hl:(unT a b).length≤40) (hn:bldT (unT a b) a=none∨bldT (unT a b) b=none):eqTX a b=(false,[],13):=by
 unfold eqTX
 rw [ZhB] at hl
 rw [if_pos h,if_pos hl]
 rcases hn with hn|hn
 · rw [hn]
 · rw [hn];cases bldT (unT a b) a<;>rfl
theorem ZBQ {a b:Nd} (h:Zbv a=true∧Zbv b=true) (hl:(unT a b).length≤40) {x y:Aut} (hx:bldT (unT a b) a=some x) (hy:bldT (unT a b) b=some y) {m:Nat} {s:Bool} {v:List Int} {e:Int} (hc:CmpR x y m s v e):eqTX a b=(s,nmI (unT a b) v,e):=by
 unfold eqTX
 rw [ZhB] at hl
 rw [if_pos h,if_pos hl,hx,hy]
 dsimp only
 rw [hc.eq]
theorem ZDB {a b:Nd} (h:Zbv a=true∧Zbv b=true) (hl:(unT a b).length≤40):(∀A,bldT (unT a b) a=some A→IsMin A∧A.syms=(unT a b).length)∧∀A,bldT (unT a b) b=some A→IsMin A∧A.syms=(unT a b).length:=
 ⟨fun A hA=>by obtain ⟨k1,k2,_⟩:=Zpg (Zpf a b) hl h.1 (fun s hs=>ZhA.2 (.inl hs)) hA;exact ⟨k1,k2⟩,fun A hA=>by obtain ⟨k1,k2,_⟩:=Zpg (Zpf a b) hl h.2 (fun s hs=>ZhA.2 (.inr hs)) hA;exact ⟨k1,k2⟩⟩
theorem ZzB:∀t:Nd,okT t=true→∀s∈Zax t,s.size≤40:=Nd.ind fun o a l ih h s hs=>by
 obtain ⟨hr,hp⟩:=Zbf.1 h
 rw [Zax] at hs
 have hL:s∈Zct l→s.size≤40:=fun hs=>by
  obtain ⟨x,hx,h1⟩:=ZaS.1 hs;exact ih x hx (hp x hx) s h1
 split at hs
 · rcases Xl.1 hs with rfl|hs
   · exact Zvr hr
   · exact hL hs
 · exact hL hs
set_option maxHeartbeats 4000000 in
theorem ZeT (a b : Nd) (hfa:FitT a) (hfb:FitT b):AF Tryz.prog 12 [pTr a,pTr b] (· = .tup [ζV (eqTX a b).1,ZaY (eqTX a b).2.1,pInt (eqTX a b).2.2]):=by
 have ea:pTr a= .agg [pInt a.op,Zab a.act,Zag a.l]:=rfl
 have eb:pTr b= .agg [pInt b.op,Zab b.act,Zag b.l]:=rfl
 have hVa:=Zfs a hfa
 have hVb:=Zfs b hfb
 rw [ea] at hVa ⊢
 rw [eb] at hVb ⊢
 refine AF.of_body 70 Tryz.func12 rfl Tryz.ntmps12 (Xa rfl) ?_
 intro w0 M0 vs hl hv
 obtain ⟨v0,v1,rfl⟩:=Zbl hl
 clear hl hv
 refine nav ?_
 (refine ζa ?_<;>refine ζH 2 3 fun h2=>?_<;>refine ζH 3 3 fun h3=>?_<;>refine xL 4 ζc (xL 5 ζc (xL 6 ζc ?_))<;>refine ζd ?_)
 (refine ζa ?_ <;> (refine yL 14 (ζk 2 Zbk) fun v14 h=>?_;cases h)<;>(refine cS 15 (cA Tryz.call24 (hVa)) fun v15 h=>?_;cases h)<;>refine xL 16 Zav (xL 17 ζb ?_)<;>(refine bL 17 (fun hb17=>?_) (fun hb17=>?_)<;>(first|refine kL 18 ?_|(refine yL 18 (ζk 3 Zbk) fun v18 h=>?_;cases h)))<;>(first|refine kL 19 ?_|(refine cS 19 (cA Tryz.call24 (hVb)) fun v19 h=>?_;cases h))<;>(first|refine kL 20 ?_|refine xL 20 Zav ?_)<;>refine xL 21 ζJ ?_<;>refine ζd ?_)<;>(
  (first|refine cCd ?_ ?_|refine cC ?_ ?_)<;>intro hb21
  · first
    |exact bN hb21
    | (
     have hno:¬(Zbv a=true∧Zbv b=true):=by
      rintro ⟨h1,h2⟩
      first|(rw [h1] at hb17;simp at hb17;done)|(rw [h2] at hb21;simp at hb21;done)
     rw [Zzz hno];refine nav ?_;(refine ζa ?_<;>refine xL 4 ζc (xL 5 ζc (xL 6 ζc ?_))<;>refine ζd ?_)
     refine Za2 (Zc9 (t:=5) rfl) fun _=>?_;exact Znc (Tryz.results12) (.tmp rfl) (.tmp rfl) (.tmp rfl) rfl)
  · first
    |exact bN hb21
    | (
     have hva:Zbv a=true:=by first|(simpa using hb17)|(exfalso;simp_all;done)
     have hvb:Zbv b=true:=by first|(simpa using hb21)|(exfalso;simp_all;done)
     have hv:Zbv a=true∧Zbv b=true:=⟨hva,hvb⟩;have hoa:=ZdG hva;have hob:=ZdG hvb;have hsa:=ZhX hva;have hsb:=ZhX hvb;have hcol:∀V m,AFh False Tryz.prog 48 [(0,V, .agg [pInt a.op,Zab a.act,Zag a.l]),(1,m, .val m)] [(1000,m, .omap (skv (Zcp [])))] (fun v q h=>h=[(1000,m, .omap (skv (Zcp (colS [] (Zax a)))))]):=fun V m=>Zkl a hoa (by omega) [] m V;have hcol2:∀V m,AFh False Tryz.prog 48 [(0,V, .agg [pInt b.op,Zab b.act,Zag b.l]),(1,m, .val m)] [(1000,m, .omap (skv (Zcp (colS [] (Zax a)))))] (fun v q h=>h=[(1000,m, .omap (skv (Zcp (unK a b))))]):=fun V m=>Zkl b hob (by omega) _ m V;have hkl:(unK a b).length≤1000000:=by
      have h1:=ZiB (Zax b) (colS [] (Zax a));have h2:=ZiB (Zax a) [];have h3:=Zph a hoa;have h4:=Zph b hob;rw [Xz] at h2;unfold unK;omega
     have hks:∀s∈unK a b,s.size≤140737488355328:=fun s hs=>by
      rcases Zpe.1 hs with h|h
      · have:=ZzB a hoa s h;omega
      · have:=ZzB b hob s h;omega
     refine nav ?_;(refine ζa ?_<;>refine ZfZ 22 fun h22 ho22=>?_<;>refine xL 7 ζc ?_<;>refine ζd ?_)
     refine ζw (ζF (l:=22) 1000 rfl rfl) fun _=>?_;(refine ζa ?_<;>(refine yL 23 (ζk 2 Zbk) fun v23 h=>?_;cases h)<;>refine xL 24 ζb ?_<;>(refine Zat [(1000,h22, .omap (skv (Zcp []))),(2,_,_),(3,_,_)] ⟨rfl,rfl,rfl,trivial⟩ ?_;refine ZbO [2,3] 25 (Tryz.call48) (hcol v23 h22) (fun v25 p25 h25 hR25=>?_);subst hR25)<;>refine ζd ?_)
     (refine ζa ?_<;>(refine yL 26 (ζk 3 Zbk) fun v26 h=>?_;cases h)<;>refine xL 27 ζb ?_<;>(refine Zat [(1000,h22, .omap (skv (Zcp (colS [] (Zax a))))),(2,_,_),(3,_,_)] ⟨rfl,rfl,rfl,trivial⟩ ?_;refine ZbO [2,3] 28 (Tryz.call48) (hcol2 v26 h22) (fun v28 p28 h28 hR28=>?_);subst hR28)<;>refine ζd ?_)
     refine ζw (En.freeze (l:=1000) (t:=7) rfl rfl) fun _=>?_;(refine ζa ?_<;>refine xL 29 ζb ?_<;>refine ZDc (k1:=95) (t:=76) 30 ZEb (Tryz.call50) (fun g30 b30 c30 es30 hkv30 hWf30=>?_)<;>refine Zvu (ks:=unK a b) 30 31 ZxV (Tryz.call49) (fun h=>h) hWf30 hkv30.symm (Ztc a b) hkl hks (fun v31 ho31=>?_)<;>refine xL 8 ζc ?_<;>refine ζd ?_)
     refine ζw (En.freeze (l:=31) (t:=8) rfl rfl) fun _=>?_;rw [Zll _ _ _ (show (unK a b).length=(Zd1 (unK a b)).length from (ZgT _).symm)];rw [show Zd1 (unK a b)=unT a b from rfl];(refine ζa ?_<;>refine xL 32 ζb (xL 33 (ζU Zwq) (xL 34 ZaF ?_))<;>refine ζd ?_)
     (first|refine cCd ?_ ?_|refine cC ?_ ?_)<;>intro hb34
     · first
       |exact bN hb34
       | (
        rw [ZzA hv (by omega)];refine nav ?_;(refine ζa ?_<;>refine xL 4 ζc (xL 5 ζc (xL 6 ζc ?_))<;>refine ζd ?_)
        refine Za2 (Zc9 (t:=5) rfl) fun _=>?_;exact Znc (Tryz.results12) (.tmp rfl) (.tmp rfl) (.tmp rfl) rfl)
     · first
       |exact bN hb34
       | (
        (have hl:(unT a b).length≤40:=by omega);obtain ⟨mina,minb⟩:=ZDB hv hl;obtain ⟨p0,p1,p2,p3,p4,E,hR⟩:=ZCo (bldT (unT a b) a);have hj:=ZjO (unT a b) hl a hoa (by omega) (fun s hs=>ZhA.2 (.inl hs));rw [hR.eq,ea] at hj;have r5:=hR.r5;obtain ⟨o0,o1,o2,o3,o4⟩:=r5.o;obtain ⟨q0,q1,q2,q3,q4,F,hQ⟩:=ZCo (bldT (unT a b) b);have hk:=ZjO (unT a b) hl b hob (by omega) (fun s hs=>ZhA.2 (.inr hs));rw [hQ.eq,eb] at hk;have s5:=hQ.r5;obtain ⟨u0,u1,u2,u3,u4⟩:=s5.o;refine nav ?_;(refine ζa ?_<;>(refine yL 36 (ζk 2 Zbk) fun v36 h=>?_;cases h)<;>refine xL 37 ζb ?_<;>(refine cP 38 (cA (Tryz.call51) hj) (fun va38 vb38 hva38 hvb38=>?_) (hsh:=r5.t E);cases hvb38)<;>refine xL 35 ζb (xL 39 ζl (xL 40 ζl ?_))<;>refine ζs [(.int .i64 0),(.int .i64 0),(.slice none 0 0),(.slice none 0 0),(.slice none 0 0)] 5 9 Zoc fun h9=>?_<;>refine ζt 9 Zgt ?_<;>refine xL 10 ζc ?_<;>refine ζd ?_)
        (refine ζa ?_<;>refine xL 41 ζb (xL 42 Zaz ?_)<;>refine ζd ?_)
        (first|refine cCd ?_ ?_|refine cC ?_ ?_)<;>intro hb42
        · first
          |exact bN hb42
          | (
           obtain ⟨hn,rfl⟩:=hR.no hb42;rw [ZuA hv hl (.inl hn)];refine nav ?_;(refine ζa ?_<;>refine xL 43 ζb (xL 4 ζc (xL 5 ζc (xL 6 ζc ?_)))<;>refine ζd ?_)
           refine Za2 (Zc9 (t:=5) rfl) fun _=>?_;exact Znc (Tryz.results12) (.tmp rfl) (.tmp rfl) (.tmp rfl) rfl)
        · first
          |exact bN hb42
          | (
           obtain ⟨A,hA,rfl,rfl,rfl,rfl,rfl,rfl⟩:=hR.yes (by simpa using hb42);refine nav ?_;(refine ζa ?_<;>(refine yL 45 (ζk 3 Zbk) fun v45 h=>?_;cases h)<;>refine xL 46 ζb ?_<;>(refine cP 47 (cA (Tryz.call51) hk) (fun va47 vb47 hva47 hvb47=>?_) (hsh:=s5.t F);cases hvb47)<;>refine xL 44 ζb (xL 48 ζl (xL 49 ζl ?_))<;>refine ζs [(.int .i64 0),(.int .i64 0),(.slice none 0 0),(.slice none 0 0),(.slice none 0 0)] 5 11 Zoc fun h11=>?_<;>refine ζt 11 Zgt ?_<;>refine xL 10 ζc ?_<;>refine ζd ?_)
           (refine ζa ?_<;>refine xL 50 ζb (xL 51 Zaz ?_)<;>refine ζd ?_)
           (first|refine cCd ?_ ?_|refine cC ?_ ?_)<;>intro hb51
           · first
             |exact bN hb51
             | (
              obtain ⟨hn,rfl⟩:=hQ.no hb51;rw [ZuA hv hl (.inr hn)];refine nav ?_;(refine ζa ?_<;>refine xL 52 ζb (xL 4 ζc (xL 5 ζc (xL 6 ζc ?_)))<;>refine ζd ?_)
              refine Za2 (Zc9 (t:=5) rfl) fun _=>?_;exact Znc (Tryz.results12) (.tmp rfl) (.tmp rfl) (.tmp rfl) rfl)
           · first
             |exact bN hb51
             | (
              obtain ⟨B,hB,rfl,rfl,rfl,rfl,rfl,rfl⟩:=hQ.yes (by simpa using hb51);obtain ⟨mA,sA⟩:=mina A hA;obtain ⟨mB,sB⟩:=minb B hB;obtain ⟨s,v,e,hc⟩:=ZDA mA mB sA sB;have hj3:AF Tryz.prog 52 [ζS A,ζS B] (· = .tup [ζV s,pInts v,pInt e]):=by
               have:=ZmN A B;rw [hc.eq] at this;exact this
              rw [ZBQ hv hl hA hB hc];have hvl:=hc.len;refine nav ?_;(refine ζa ?_<;>(refine yL 54 (ζk 9 Zgt) fun v54 h=>?_;cases h)<;>(refine yL 55 (ζk 11 Zgt) fun v55 h=>?_;cases h)<;>(refine Zvb 56 (cA (Tryz.call52) hj3) (fun va56 vb56 vc56 hva56 hvb56 hvc56=>?_);cases hva56;cases hvc56)<;>refine xL 53 ζb (xL 57 ζl (xL 58 ζl (xL 59 ζl (xL 12 ζc (xL 13 ζc (xL 10 ζc ?_))))))<;>refine ζd ?_)
              (refine ζa ?_<;>refine xL 60 ζb (xL 61 Zaz (xL 62 ζb ?_))<;>(refine bLd 62 (fun hb62=>?_) (fun hb62=>?_)<;>(first|refine kL 63 ?_|refine xL 63 ζb ?_))<;>refine xL 64 ζJ ?_<;>refine ζd ?_)<;>(
               (first|refine cCd ?_ ?_|refine cC ?_ ?_)<;>intro hb64
               · first
                 |exact bN hb64
                 | (
                  have hvn:v=[]:=hc.nil (by first|exact .inl (by simpa using hb62)|exact .inr (by simpa using hb64));subst hvn;refine nav ?_;(refine ζa ?_<;>refine xL 65 ζb (xL 66 ζb (xL 4 ζc (xL 5 ζc (xL 6 ζc ?_))))<;>refine ζd ?_)
                  refine Za2 (Zc9 (t:=5) rfl) fun _=>?_;exact Znc (Tryz.results12) (.tmp rfl) (.tmp rfl) (.tmp rfl) rfl)
               · first
                 |exact bN hb64
                 | (
                  have hs0:s=false:=by first|(simpa using hb64)|(exfalso;simp_all;done)
                  have he0:e=0:=by first|(simpa using hb62)|(exfalso;simp_all;done)
                  subst hs0 he0;refine nav ?_;(refine ζa ?_<;>refine xL 67 ζb (xL 68 ζb ?_)<;>(refine cS 69 (cA Tryz.call53 (Zn8 v (unT a b) (by omega) hc.inn)) fun v69 h=>?_;cases h)<;>refine xL 4 ζc (xL 5 ζc (xL 6 ζc ?_))<;>refine ζd ?_)
                  exact Znc (Tryz.results12) (.tmp rfl) (.tmp rfl) (.tmp rfl) rfl)))))))
theorem ZBR (a b:Nd):unT a b=canB (Zax a++Zax b):=by unfold unT unK canB;rw [ZgS]
def Zwr (i:Nat) (a:Aut):Option Aut:=match (Zzb a).upto (ZiY a a.start) i with
 |some q=>if q.1.length≤i then Zb0 ⟨a.syms.toNat,q.2,q.1.map (Zc0 a)⟩ else none
 |none=>none
theorem ZkS {i:Nat} (hi:i≤2000) {a A:Aut} (h:Zwr i a=some A):ZbR a= .ok A:=by
 unfold Zwr at h
 split at h
 · rename_i q hq;split at h
   · rename_i hl;exact ZBr i hq hl hi h
   · cases h
 · cases h
def ZBS (i:Nat) (a:Aut):Option Aut:=if Zaa a=true then Zwr i a else none
def Zws (i:Nat) (X:Aut):Option Aut:=if 2000<X.n∨20000<(mkM X.moves).length then none else Zwr i (mkA X)
theorem ZuB {i:Nat} (hi:i≤2000) {a A:Aut} (h:ZBS i a=some A):Zfe a= .ok A:=by
 unfold ZBS at h
 unfold Zfe
 split at h
 · rename_i h1;rw [if_pos h1];exact ZkS hi h
 · cases h
theorem ZkT {i:Nat} (hi:i≤2000) {a A:Aut} (h:Zws i a=some A):ZdB a= .ok A:=by
 unfold Zws at h
 unfold ZdB ZlO
 split at h
 · cases h
 · rename_i h1;rw [if_neg h1];exact ZkS hi h
def ZzC (i:Nat) (a b:Aut):Option Aut:=if Zb4 a b=0 then Zws i (ZcT a b) else none
def ZDC (i:Nat) (a b:Aut):Option Aut:=if Zb4 a b=0 then Zws i (Zdv a b) else none
def ZDD (i:Nat) (a:Aut):Option Aut:=if Zaa a=true then Zws i (ZdC a) else none
def ZDE (i:Nat) (a b:Aut):Option Aut:=if Zb4 a b=0 then (if 2000<a.n*b.n∨40000<(a.moves.length:Int)*b.n+(b.moves.length:Int)*a.n then none else Zws i (ZcH a b)) else none
def ZzD (i:Nat) (a b:Aut):Option Aut:=(ZzC i b a).bind fun x=>(ZDD i x).bind fun s=>ZzC i a s
def ZzE (i:Nat) (o:Int) (a b:Aut):Option Aut:=if o=3 then ZzC i a b else if o=4 then ZDC i a b else if o=6 then ZzD i a b else ZDE i a b
theorem Zpp {i:Nat} (hi:i≤2000) {a b A:Aut} (h:ZzC i a b=some A):Zg5 a b= .ok A:=by
 unfold ZzC at h
 unfold Zg5
 split at h
 · rename_i h1;rw [if_neg (fun h=>h h1)];exact ZkT hi h
 · cases h
theorem ZBT {i:Nat} (hi:i≤2000) {a b A:Aut} (h:ZDC i a b=some A):Zgl a b= .ok A:=by
 unfold ZDC at h
 unfold Zgl
 split at h
 · rename_i h1;rw [if_neg (fun h=>h h1)];exact ZkT hi h
 · cases h
theorem ZBU {i:Nat} (hi:i≤2000) {a A:Aut} (h:ZDD i a=some A):ZeI a= .ok A:=by
 unfold ZDD at h
 unfold ZeI
 split at h
 · rename_i h1;rw [if_pos h1];exact ZkT hi h
 · cases h
theorem ZBV {i:Nat} (hi:i≤2000) {a b A:Aut} (h:ZDE i a b=some A):ZiS a b= .ok A:=by
 unfold ZDE at h
 unfold ZiS
 split at h
 · rename_i h1;rw [if_neg (fun h=>h h1)];split at h
   · cases h
   · rename_i h2;rw [if_neg h2];exact ZkT hi h
 · cases h
theorem ZzF {i:Nat} (hi:i≤2000) {a b A:Aut} (h:ZzD i a b=some A):Ze7 a b= .ok A:=by
 unfold ZzD at h
 obtain ⟨x,h1,h⟩:=XW.1 h
 obtain ⟨s,h2,h3⟩:=XW.1 h
 unfold Ze7
 rw [Zpp hi h1]
 dsimp only
 rw [ZBU hi h2]
 exact Zpp hi h3
theorem ZBW {i:Nat} (hi:i≤2000) {o:Int} {a b A:Aut} (h:ZzE i o a b=some A):Zcj o a b= .ok A:=by
 unfold ZzE at h
 unfold Zcj
 split at h
 · rename_i h1;rw [if_pos h1];exact Zpp hi h
 rename_i h1
 rw [if_neg h1]
 split at h
 · rename_i h2;rw [if_pos h2];exact ZBT hi h
 rename_i h2
 rw [if_neg h2]
 split at h
 · rename_i h3;rw [if_pos h3];exact ZzF hi h
 · rename_i h3;rw [if_neg h3];exact ZBV hi h
def ZEz (i:Nat) (o:Int):List (Option Aut)→Option Aut
 |[]=>none
 |x::l=>l.foldl (fun r p=>r.bind fun a=>p.bind fun b=>ZzE i o a b) x
mutual
def Zwt (i:Nat) (acts:List ByteArray):Nd→Option Aut
 | .mk o a l=>if o=1 then ZBS i (ZfP acts.length (Zdx acts a)) else if o=2 then ZBS i (ZjB acts.length) else ZEz i o (ZuC i acts l)
def ZuC (i:Nat) (acts:List ByteArray):List Nd→List (Option Aut)
 |[]=>[]
 |x::l=>Zwt i acts x::ZuC i acts l
end
theorem ZzG (i:Nat) (acts:List ByteArray) (l:List Nd):ZuC i acts l=l.map (Zwt i acts):=by
 induction l with
 |nil=>rfl
 |cons x l ih=>rw [ZuC,ih];rfl
theorem ZuD {i:Nat} (hi:i≤2000) {o:Int}:∀(l m:List (Option Aut)) (r s:Option Aut) {A:Aut},l.length=m.length→(∀(k:Nat) (x y:Option Aut) (B:Aut),l[k]? =some x→m[k]? =some y→x=some B→y=some B)→(∀B,r=some B→s=some B)→l.foldl (fun r p=>r.bind fun a=>p.bind fun b=>ZzE i o a b) r=some A→m.foldl (Zd7 o) s=some A
 |[],[],r,s,A,_,_,hr,h=>hr A h
 |[],_::_,_,_,_,h,_,_,_=>by simp at h
 |_::_,[],_,_,_,h,_,_,_=>by simp at h
 | x::l,y::m,r,s,A,hl,hm,hr,h=>by
   rw [Vw] at h ⊢;refine ZuD hi l m _ _ (by simpa using hl) (fun k x' y' B h1 h2=>hm (k+1) x' y' B (by simpa using h1) (by simpa using h2)) (fun B hB=>?_) h;obtain ⟨a,h1,hB⟩:=XW.1 hB;obtain ⟨b,h2,hB⟩:=XW.1 hB;have h3:=hm 0 x y b rfl rfl h2;rw [hr a h1,h3];show okO (Zcj o a b)=some B;rw [ZBW hi hB];rfl
theorem Zpq {i:Nat} (hi:i≤2000) (acts:List ByteArray):∀(t:Nd) {A:Aut},Zwt i acts t=some A→bldT acts t=some A:=Nd.ind fun o a l ih A h=>by
 rw [Zwt] at h
 rw [bldT]
 split at h
 · rename_i h1;rw [if_pos h1];show okO (Zfe (ZfP acts.length (Zdx acts a)))=some A;rw [ZuB hi h];rfl
 rename_i h1
 rw [if_neg h1]
 split at h
 · rename_i h2;rw [if_pos h2,ZuB hi h];rfl
 rename_i h2
 rw [if_neg h2,Zo9]
 rw [ZzG] at h
 cases l with
 |nil=>cases h
 | cons x l=>
   have h3:(l.map (Zwt i acts)).foldl (fun r p=>r.bind fun a=>p.bind fun b=>ZzE i o a b) (Zwt i acts x)=some A:=h;show (l.map (bldT acts)).foldl (Zd7 o) (bldT acts x)=some A;refine ZuD hi _ _ _ _ (by simp) (fun k x' y' B h4 h5 h6=>?_) (fun B hB=>ih x (Xk ..) hB) h3;rw [Xm,XC] at h4 h5;obtain ⟨z,hz,rfl⟩:=h4;obtain ⟨z',hz',rfl⟩:=h5;rw [hz] at hz'
   cases hz';exact ih z (Xn _ (Xb hz)) h6
def sA:ByteArray:=⟨#[97]⟩
def sB:ByteArray:=⟨#[98]⟩
def sC:ByteArray:=⟨#[99]⟩
def lfT (s:ByteArray):Nd:= .mk 1 s []
def opT (o:Int) (l:List Nd):Nd:= .mk o ByteArray.empty l
def Zmx:Nd:=opT 3 [lfT sA,opT 4 [lfT sB,opT 2 []],lfT sC]
def Zkm:Nd:=opT 5 [lfT sA,opT 6 [lfT sB,opT 2 []]]
def Zkn:Nd:=opT 6 [lfT sB,lfT sA]
def ZEk (i:Nat) (a b:Aut) (op:Int):Option (Bool×List Int×Int):=if Zb4 a b=0 then (Zwr i a).bind fun A=>(Zwr i b).bind fun B=>((Zbb A B).upto ((0,0),(-1,-1)) i).bind fun q=>if q.1.length≤i then some ((Zgk A B op q).1,(Zgk A B op q).2,0) else none else none
theorem ZBX {i:Nat} (hi:i≤2000) {a b:Aut} {op:Int} {r:Bool×List Int×Int} (h:ZEk i a b op=some r):cmpX a b op=r:=by
 unfold ZEk at h
 split at h
 · rename_i hf;obtain ⟨A,hA,h⟩:=XW.1 h;obtain ⟨B,hB,h⟩:=XW.1 h;obtain ⟨q,hq,h⟩:=XW.1 h;split at h
   · rename_i hl
     cases h;exact ZBs hf (Zzc i (ZkS hi hA) (ZkS hi hB) hq hl hi)
   · cases h
 · cases h
def Zmy:Aut:=⟨5,3,[0],[4],[⟨0,1,0⟩,⟨0,2,1⟩,⟨0,2,2⟩,⟨1,2,0⟩,⟨1,3,1⟩,⟨1,4,2⟩,⟨2,2,0⟩,⟨2,2,1⟩,⟨2,2,2⟩,⟨3,2,0⟩,⟨3,2,1⟩,⟨3,4,2⟩,⟨4,2,0⟩,⟨4,2,1⟩,⟨4,2,2⟩]⟩
def ZCp:Aut:=⟨5,2,[0],[4],[⟨0,1,0⟩,⟨0,2,1⟩,⟨1,3,0⟩,⟨1,4,1⟩,⟨2,4,0⟩,⟨2,2,1⟩,⟨3,3,0⟩,⟨3,3,1⟩,⟨4,3,0⟩,⟨4,4,1⟩]⟩
def ZCq:Aut:=⟨3,2,[0],[2],[⟨0,1,0⟩,⟨0,2,1⟩,⟨1,1,0⟩,⟨1,1,1⟩,⟨2,0,0⟩,⟨2,1,1⟩]⟩
theorem ZBY:bldT [sA,sB,sC] Zmx=some Zmy:=Zpq (i:=30) (by decide) _ _ kR
theorem ZBZ:bldT [sA,sB] Zkm=some ZCp:=Zpq (i:=30) (by decide) _ _ kR
theorem ZB0:bldT [sA,sB] Zkn=some ZCq:=Zpq (i:=30) (by decide) _ _ kR
theorem ZzH:cmpX ZCp ZCq 4=(false,[1],0):=ZBX (i:=30) (by decide) kR
theorem Zpr:Zbv Zmx=true:=by decide+kernel
theorem ZuE:Zbv Zkm=true:=by decide+kernel
theorem ZuF:Zbv Zkn=true:=by decide+kernel
theorem ZzI:ZmL [sA,sB,sC]:=by unfold ZmL;decide+kernel
theorem ZB1:actR Zmx=([sA,sB,sC],0):=by
 have h:[sA,sB,sC]=canB (Zax Zmx):=Zus ZzI fun s=>Iff.rfl
 have h2:(colS [] (Zax Zmx)).length=3:=by
  have:=congrArg List.length h;unfold canB at this;rw [ZgT] at this;exact this.symm
 unfold actR
 rw [if_pos Zpr,if_pos (by omega)]
 exact Prod.ext h.symm rfl
theorem ZuG:unT Zkm Zkn=[sA,sB]:=by
 rw [ZBR]
 refine (Zus (show ZmL [sA,sB] by unfold ZmL;decide+kernel) fun s=>?_).symm
 rw [show Zax Zkm++Zax Zkn=[sA,sB,sB,sA] from rfl]
 simp only [Xl,VW,or_false]
 constructor
 · rintro (h|h)
   · exact .inl h
   · exact .inr (.inl h)
 · rintro (h|h|h|h)
   · exact .inl h
   · exact .inr h
   · exact .inr h
   · exact .inl h
theorem ZB2:eqTX Zkm Zkn=(false,[sB],0):=by
 have h2:=ZhB Zkm Zkn
 rw [ZuG] at h2
 unfold eqTX
 rw [if_pos ⟨ZuE,ZuF⟩,if_pos (by rw [←h2];decide),ZuG,ZBZ,ZB0]
 dsimp only
 rw [ZzH];rfl
theorem ZB3:Zaa Zmy=true:=by kernel_rfl
theorem ZrT:Zbe Zmy=[2,1,-1,1,0]:=by kernel_rfl
theorem ZzJ:ZDv Zmy [2,1,-1,1,0] 5=false:=by kernel_rfl
theorem ZzK:ZBn Zmy [2,1,-1,1,0] 5 6=[[0,2],[0,1,2]]:=by kernel_rfl
theorem Zdb:AggT Tryz.prog 24 3=true:=by kernel_rfl
theorem Zmz:AggT Tryz.prog 39 5=true:=by kernel_rfl
theorem ZfR:ElT Tryz.prog 22 24 3 48 (.agg #[(.int .i64 0),(.string ByteArray.empty),(.slice none 0 0)]):=⟨Tryz.underlying22,by kernel_rfl,rfl,by decide⟩
theorem ZjP:ElT Tryz.prog 27 9 1 16 (.string ByteArray.empty):=⟨Tryz.underlying27,by kernel_rfl,rfl,by decide⟩
theorem ZjQ:ElT Tryz.prog 71 27 1 24 (.slice none 0 0):=⟨Tryz.underlying71,by kernel_rfl,rfl,by decide⟩
theorem Zwu:NoAgg Tryz.prog 36=true:=by kernel_rfl
theorem ZrU:NoAgg Tryz.prog 9=true:=by kernel_rfl
theorem ZmA:SlT Tryz.prog 117 36 1=true:=by kernel_rfl
theorem ZfS:SlT Tryz.prog 27 9 1=true:=by kernel_rfl
theorem ZjR:ZbX Tryz.prog 24=some ((.agg #[(.int .i64 0),(.string ByteArray.empty),(.slice none 0 0)]),([0,1,2]:List Nat).map fun o=>(o,1)):=by kernel_rfl
theorem ZjS:ZeroT Tryz.prog 24 (.agg #[(.int .i64 0),(.string ByteArray.empty),(.slice none 0 0)]):=by unfold ZeroT;kernel_rfl
theorem Zwv:ZeroT Tryz.prog 39 (.agg #[(.int .i64 0),(.int .i64 0),(.slice none 0 0),(.slice none 0 0),(.slice none 0 0)]):=by unfold ZeroT;kernel_rfl
theorem Ztl (e:Nat) (L:List (List ByteArray)) (x:List ByteArray):PV.own e 1 (L.length+1) (L.map ZaY++[ZaY x])= .own e 1 (L++[x]).length ((L++[x]).map ZaY):=by simp
theorem Zps (e n:Nat) (l:List (List ByteArray)) (hn:n=l.length):share (.own e 1 n (l.map ZaY))=Zi9 l:=by
 subst hn
 rw [share,Zai,XE];rfl
set_option maxHeartbeats 1000000 in
theorem Ztm (t :Nd) (hf:FitT t) (hv:Zbv t=true) {L:List ByteArray} {A:Aut} (hA:actR t=(L,0)) (hB:bldT L t=some A) (n:Int) (hn:0≤n∧n≤200) (W:List (List Int)) (hWl:W.length≤100000) (hWw:∀w∈W,w.length≤1000∧∀i∈w,0≤i∧i<L.length) (hW:AF Tryz.prog 91 [ζS A,pInt n] (· = .tup [Zk5 W,pInt 0])):AF Tryz.prog 43 [pTr t,pInt n] (· = .tup [Zi9 (W.map (nmI L)),pInt 0]):=by
 have e0:pTr t= .agg [pInt t.op,Zab t.act,Zag t.l]:=rfl
 have hV:=Zfs t hf
 rw [hv] at hV
 have hS:RS (bldT L t) (pInt A.n) (pInt A.syms) (pInts A.start) (pInts A.fin) (pMvs A.moves) 0:=⟨R5.aut A,by rw [hB];rfl, .inr ⟨A,hB,rfl,rfl,rfl,rfl,rfl,rfl⟩⟩
 have hj:=Zzv t hf hA hS
 rw [e0] at hV hj ⊢
 refine AF.of_body 54 Tryz.func43 rfl Tryz.ntmps43 (Xa rfl) ?_
 intro w0 M0 vs hl hv
 obtain ⟨v0,v1,rfl⟩:=Zbl hl
 obtain rfl:=hv 1 _ _ rfl rfl
 clear hl hv
 refine nav ?_
 (refine ζa ?_<;>refine ζH 2 3 fun h2=>?_<;>refine xL 4 ζc (xL 5 ζc ?_)<;>refine ζd ?_)
 (refine ζa ?_<;>(refine yL 13 (ζk 2 Zdb) fun v13 h=>?_;cases h)<;>(refine cS 14 (cA Tryz.call24 (hV)) fun v14 h=>?_;cases h)<;>refine xL 15 Zav ?_<;>refine ζd ?_)
 (first|refine cCd ?_ ?_|refine cC ?_ ?_)<;>intro hb15
 · exact bN hb15
 · refine nav ?_;(refine ζa ?_<;>refine xL 16 ζb (xL 17 ζK (xL 18 ζb ?_))<;>(refine bLd 18 (fun hb18=>?_) (fun hb18=>?_)<;>(first|refine kL 19 ?_|refine xL 19 ζb ?_))<;>(first|refine kL 20 ?_|refine xL 20 ZaF ?_)<;>refine xL 21 ζJ ?_<;>refine ζd ?_)<;>(
    (first|refine cCd ?_ ?_|refine cC ?_ ?_)<;>intro hb21
    · exfalso;first|omega|(simp_all;done)|(simp_all;omega)
    · refine nav ?_;(refine ζa ?_<;>(refine yL 23 (ζk 2 Zdb) fun v23 h=>?_;cases h)<;>(refine Zvb 24 (cA (Tryz.call66) hj) (fun va24 vb24 vc24 hva24 hvb24 hvc24=>?_);cases hvc24)<;>refine xL 22 ζb (xL 25 ζl (xL 26 ζl (xL 27 ζl ?_)))<;>refine ζs [(.int .i64 0),(.int .i64 0),(.slice none 0 0),(.slice none 0 0),(.slice none 0 0)] 5 6 Zwv fun h6=>?_<;>refine ζt 6 Zmz ?_<;>refine xL 7 ζc (xL 8 ζc ?_)<;>refine ζd ?_)
      (refine ζa ?_<;>refine xL 28 ζb (xL 29 Zaz ?_)<;>refine ζd ?_)
      (first|refine cCd ?_ ?_|refine cC ?_ ?_)<;>intro hb29
      · exact absurd rfl hb29
      · refine nav ?_;(refine ζa ?_<;>(refine yL 32 (ζk 6 Zmz) fun v32 h=>?_;cases h)<;>refine xL 33 ζb ?_<;>(refine cP 34 (cA Tryz.call91 (hW)) fun va34 vb34 hva34 h=>?_;cases h)<;>refine xL 31 ζb (xL 35 ζl (xL 36 ζl (xL 9 ζc (xL 8 ζc ?_))))<;>refine ζd ?_)
        (refine ζa ?_<;>refine xL 37 ζb (xL 38 Zaz ?_)<;>refine ζd ?_)
        (first|refine cCd ?_ ?_|refine cC ?_ ?_)<;>intro hb38
        · exact absurd rfl hb38
        · refine nav ?_;(refine ζa ?_<;>refine xL 10 ζc ?_<;>refine ζd ?_)
          (refine ζa ?_<;>refine xL 40 ζb (xL 41 (ζU ZmA) (xL 42 ζb ?_))<;>refine ζd ?_)
          refine ζw (ZbW 200 27 1 rfl) fun _=>?_;refine ζy (ι:={q:Nat×Value//q.1≤W.length∧q.2.oneCell'=true}) (fun k=>⟨[(4,_,_),(5,_,_),(7,_,_),(8,_,_),(40,_,_),(41,_,_),(10,k.1.2, .val k.1.2),(42, .int .i64 k.1.1,pInt k.1.1)],[(2,_,_),(6,_,_),(200,k.1.2, .own 27 1 ((W.take k.1.1).map (nmI L)).length (((W.take k.1.1).map (nmI L)).map ZaY))]⟩) (fun k=>W.length-k.1.1) ⟨(0, .slice none 0 0),Xe _,rfl⟩ (fun a w H=>H.weaken ⟨rfl,rfl,rfl,rfl,rfl,rfl,rfl,rfl,trivial⟩ ⟨rfl,rfl,rfl,trivial⟩) ?_;rintro ⟨⟨i,hv10⟩,hi,ho⟩;dsimp only;dsimp only at hi ho;(have hwl:((W.take i).map (nmI L)).length≤W.length:=by rw [Xf,Xu];omega);refine nav ?_;(refine ζa ?_<;>refine xL 43 ζK ?_<;>refine ζd ?_)
          (first|refine cCd ?_ ?_|refine cC ?_ ?_)<;>intro hb43
          · first
            |exact bN hb43
            | (
             obtain ⟨w,hw⟩:=ζm (show i<W.length by omega);have e1:=Zas (f:=pInts) hw;obtain ⟨hw1,hw2⟩:=hWw w (Xb hw);refine nav ?_;(refine ζa ?_<;>refine xL 44 (ζI ZmA) ?_<;>(refine yL 45 (ZaE Zwu) fun v45 h=>?_;cases h)<;>refine xL 12 ζc ?_<;>refine ζd ?_)
             (refine ζa ?_<;>refine xL 46 ζb (xL 47 ζb (xL 48 ζb ?_))<;>(refine cS 49 (cA Tryz.call53 (Zn8 w L (by omega) hw2)) fun v49 h=>?_;cases h)<;>refine ζP (kk:=1) 50 ZjQ fun h50 ho50=>?_<;>(refine ζ0 200 50 51 ZjQ fun h51 ho51=>?_;refine ζr (ζF (l:=51) 200 rfl rfl) fun _=>?_;refine ζr (ζM (l:=200) (p':= .own 27 1 ((W.take (i+1)).map (nmI L)).length (((W.take (i+1)).map (nmI L)).map ZaY)) rfl (by rw [ζQ hw,Xy];exact Ztl _ _ _)) fun _=>?_)<;>refine xL 10 ζc ?_<;>refine ζd ?_)
             (refine ζa ?_<;>refine xL 52 ζG (xL 42 ζb ?_)<;>refine ζd ?_)
             refine ζj (
              ⟨(i+1,h51),ζg hw,ho51⟩
              ) (by dsimp only;omega) ⟨rfl,rfl,rfl,rfl,rfl,rfl,rfl,rfl,trivial⟩ ⟨rfl,rfl,rfl,trivial⟩)
          · first
            |exact bN hb43
            | (
             rw [Xo (show W.length≤i by omega)];refine ζw (En.freeze (l:=200) (t:=10) rfl rfl) fun _=>?_;rw [Zps _ _ _ rfl];refine nav ?_;(refine ζa ?_<;>refine xL 53 ζb (xL 4 ζc (xL 5 ζc ?_))<;>refine ζd ?_)
             exact Zc8 (Tryz.results43) rfl rfl rfl))
theorem ZDF (s:ByteArray):Rr (.agg [pInt 1,Zab s, .val (.slice none 0 0)]) (pTr (lfT s)):=Rr.agg rfl fun i a b ha hb=>by
 match i with
 |0=>cases ha;cases hb;exact Rr.rfl' _
 |1=>cases ha;cases hb;exact Rr.rfl' _
 |2=>cases ha;cases hb;exact Rr.nil
 |i+3=>simp at ha
theorem ZrV (a:List ByteArray):AF Tryz.prog 14 [ZaY a,ZaY a] (· =ζV true):=by
 refine AF.of_body 26 Tryz.func14 rfl Tryz.ntmps14 (Xa rfl) ?_
 intro w0 M0 vs hl hv
 obtain ⟨v0,v1,rfl⟩:=Zbl hl
 clear hl hv
 refine Zb9 0 rfl fun hlen=>?_
 refine nav ?_
 (refine ζa ?_<;>refine xL 4 ζc ?_<;>refine ζd ?_)
 (refine ζa ?_<;>refine xL 6 ζb (xL 7 (ζU ZfS) (xL 8 ζb (xL 9 (ζU ZfS) (xL 10 Zaz ?_))))<;>refine ζd ?_)
 (first|refine cCd ?_ ?_|refine cC ?_ ?_)<;>intro hb10
 · first
   |exact bN hb10
   | (
    refine nav ?_;(refine ζa ?_<;>refine xL 4 ζc ?_<;>refine ζd ?_)
    exfalso;omega)
 · first
   |exact bN hb10
   | (
    refine nav ?_;(refine ζa ?_<;>refine xL 11 ζb (xL 12 (ζU ZfS) (xL 13 ζb ?_))<;>refine ζd ?_)
    refine ζy (ι:={k:Nat//k≤a.length}) (fun k=>⟨[(0,_,_),(1,_,_),(12,_,_),(13, .int .i64 k.1,pInt k.1)],[]⟩) (fun k=>a.length-k.1) ⟨0,by omega⟩ (fun a w H=>H.weaken ⟨rfl,rfl,rfl,rfl,trivial⟩ trivial) ?_;rintro ⟨k,hk⟩;dsimp only;refine nav ?_;(refine ζa ?_<;>refine xL 14 ζK ?_<;>refine ζd ?_)
    (first|refine cCd ?_ ?_|refine cC ?_ ?_)<;>intro hb14
    · first
      |exact bN hb14
      | (
       obtain ⟨x,hx⟩:=ζm (show k<a.length by omega);have e1:=Zas (f:=Zab) hx;refine nav ?_;(refine ζa ?_<;>refine xL 15 ζb (xL 5 ζc ?_)<;>refine ζd ?_)
       (refine ζY (fun i=>([]:List Nat).elem i) [] kR ?_<;>refine xD 0 16 rfl ζb ?_<;>refine xD 1 17 rfl ζb ?_<;>refine xD 2 18 rfl (ζI ZfS) ?_<;>(refine yD 3 19 rfl (ZaE ZrU) fun v19 h=>?_;cases h)<;>refine xD 4 20 rfl ζb ?_<;>refine xE 5 21 rfl ζb ?_<;>refine xE 6 22 rfl (ζI ZfS) ?_<;>(refine yE 7 23 rfl (ZaE ZrU) fun v23 h=>?_;cases h)<;>refine xE 8 24 rfl ZCH ?_<;>refine Zam kR (nav ?_)<;>try dsimp only)
       (first|refine cCd ?_ ?_|refine cC ?_ ?_)<;>intro hb24
       · first
         |exact bN hb24
         | (
          refine nav ?_;(refine ζa ?_<;>refine xL 4 ζc ?_<;>refine ζd ?_)
          exfalso;simp at hb24)
       · first
         |exact bN hb24
         | (
          refine nav ?_;(refine ζa ?_<;>refine xL 25 ζG (xL 13 ζb ?_)<;>refine ζd ?_)
          refine ζj (
           ⟨k+1,ζg hx⟩
           ) (by dsimp only;omega) ⟨rfl,rfl,rfl,rfl,trivial⟩ trivial))
    · first
      |exact bN hb14
      | (
       refine nav ?_;(refine ζa ?_<;>refine xL 4 ζc ?_<;>refine ζd ?_)
       exact ζx (Tryz.results14) rfl rfl))
theorem ZmB (s:ByteArray):AF Tryz.prog 41 [Zab s] (· =pTr (lfT s)):=by
 refine AF.reread (p:= .agg [pInt 1,Zab s, .val (.slice none 0 0)]) ?_ rfl (ZDF s)
 refine AF.of_body 5 Tryz.func41 rfl Tryz.ntmps41 (Xa rfl) ?_
 intro w0 M0 vs hl hv
 obtain ⟨v0,rfl⟩:=Zco hl
 obtain rfl:=hv 0 _ _ rfl rfl
 clear hl hv
 refine nav ?_
 (refine ζa ?_<;>refine ζs [(.int .i64 0),(.string ByteArray.empty),(.slice none 0 0)] 3 2 ZjS fun h2=>?_<;>refine ζd ?_)
 (refine ζa ?_<;>refine xL 3 ζb (xL 4 (ζB ZjR) ?_)<;>refine ζt 2 Zdb ?_<;>refine ζd ?_)
 exact ZbA (k:=3) 2 kR (Tryz.results41) rfl rfl (Xa rfl) (by decide) rfl rfl
theorem ZfT (o:Int) (l:List Nd):AF Tryz.prog 42 [pInt o,Zag l] (· =pTr (opT o l)):=by
 refine AF.of_body 8 Tryz.func42 rfl Tryz.ntmps42 (Xa rfl) ?_
 intro w0 M0 vs hl hv
 obtain ⟨v0,v1,rfl⟩:=Zbl hl
 obtain rfl:=hv 0 _ _ rfl rfl
 clear hl hv
 refine nav ?_
 (refine ζa ?_<;>refine ζs [(.int .i64 0),(.string ByteArray.empty),(.slice none 0 0)] 3 4 ZjS fun h4=>?_<;>refine ζd ?_)
 (refine ζa ?_<;>refine xL 5 ζb (xL 6 ζb (xL 7 (ζB ZjR) ?_))<;>refine ζt 4 Zdb ?_<;>refine ζd ?_)
 exact ZbA (k:=3) 4 kR (Tryz.results42) rfl rfl (Xa rfl) (by decide) rfl rfl
theorem Ztn:AF Tryz.prog 91 [ζS Zmy,pInt 5] (· = .tup [Zk5 [[0,2],[0,1,2]],pInt 0]):=(Zyj Zmy 5).mono fun p hp=>by
 rcases hp with ⟨h,_⟩|⟨_,h,_⟩|⟨_,_,_,h,_⟩|⟨_,_,_,_,h⟩
 · rw [ZB3] at h;cases h
 · omega
 · rw [ZBo,ZrT,show (5:Int).toNat=5 from rfl,ZzJ] at h;cases h
 · rw [h,Zuv,ZrT,show (5:Int).toNat=5 from rfl,ZzK]
theorem Zpt {t:Nd} (h:Zbv t=true):FitT t:=Zoy t (ZdG h) (by have:=ZhX h;omega)
theorem ZDG:AF Tryz.prog 43 [pTr Zmx,pInt 5] (· = .tup [Zi9 [[sA,sC],[sA,sB,sC]],pInt 0]):=
 Ztm Zmx (Zpt Zpr) Zpr ZB1 ZBY 5 (by decide) [[0,2],[0,1,2]] (by decide) (by decide) Ztn
theorem ZDH:AF Tryz.prog 12 [pTr Zkm,pTr Zkn] (· = .tup [ζV false,ZaY [sB],pInt 0]):=by
 have:=ZeT Zkm Zkn (Zpt ZuE) (Zpt ZuF)
 rw [ZB2] at this
 exact this
theorem Zi5 (x y:Nd):PV.sl 2 (cN x++cN y)=Zag [x,y]:=by unfold Zag;rw [ZaV];simp
theorem Zto (x y z:Nd):PV.sl 3 (cN x++(cN y++cN z))=Zag [x,y,z]:=by unfold Zag;rw [ZaV];simp
theorem Zww:Zio [[sA,sC],[sA,sB,sC]] [[sA,sC],[sA,sB,sC]]=true:=by decide+kernel
set_option maxHeartbeats 4000000 in
theorem ZmC:AF Tryz.prog 10 [] (· =ζV true):=by
 have hactA:=ZmB sA
 have hactB:=ZmB sB
 have hactC:=ZmB sC
 have hS:Rr (.agg [pInt 2, .val (.string ByteArray.empty), .val (.slice none 0 0)]) (pTr (opT 2 [])):=ZoA
 refine AF.of_body 72 Tryz.func10 rfl Tryz.ntmps10 (Xa rfl) ?_
 intro w0 M0 vs hl hv
 obtain rfl:=XO hl
 clear hl hv
 refine nav ?_
 (refine ζa ?_<;>refine xL 0 ζc ?_<;>refine ζd ?_)
 (refine ζa ?_<;>refine xL 1 ζc ?_<;>refine ζd ?_)
 (refine ζa ?_<;>refine xL 2 ζc ?_<;>refine ζd ?_)
 (refine ζa ?_<;>(refine xL 9 (ζB ZjR) ?_;refine ζr (Zlb (t:=9) (p':=pTr (opT 2 [])) rfl hS) fun _=>?_)<;>refine ζs [(.int .i64 0),(.string ByteArray.empty),(.slice none 0 0)] 3 3 ZjS fun h3=>?_<;>refine ζt 3 Zdb ?_<;>refine ζd ?_)
 (refine ζY (fun i=>([18]:List Nat).elem i) [3] kR ?_<;>refine xD 0 11 rfl ζb ?_<;>refine xD 1 12 rfl ζb ?_<;>refine xD 3 14 rfl ζb ?_<;>refine xD 4 15 rfl ζb ?_<;>(refine yD 6 17 rfl (ζk 3 Zdb) fun v17 h=>?_;cases h)<;>refine xD 9 20 rfl ζb ?_<;>(refine ζi 2 kR ?_)<;>(refine ZaM (d:=13) rfl (Zb5 (f:=41) (ps:=[]) rfl ⟨_,rfl⟩ (Tryz.call41) rfl hactA) fun v13 h=>?_;cases h)<;>(refine ζi 5 kR ?_)<;>(refine ZaM (d:=16) rfl (Zb5 (f:=41) (ps:=[]) rfl ⟨_,rfl⟩ (Tryz.call41) rfl hactB) fun v16 h=>?_;cases h)<;>(refine ζi 7 kR ?_)<;>(refine ζf rfl fun w9 M9 N9 DQ back=>?_)<;>(refine Zf5 (kk:=3) (xs:=[_,_]) (cs:=[[_,_,_],[_,_,_]]) 18 ZfR fun h18 ho18=>?_;refine ζr (En.freeze (l:=18) (t:=18) rfl rfl) fun _=>?_;refine ζr (Zbh (t:=18) (p':=Zag [lfT sB,opT 2 []]) rfl (Eq.trans (show _=PV.sl 2 (cN (lfT sB)++cN (opT 2 [])) from rfl) (Zi5 _ _))) fun _=>?_)<;>refine ζe (back _ (nrm ?_))<;>(refine ζi 8 kR ?_)<;>(refine ZaM (d:=19) rfl (Zb5 (f:=42) (ps:=[]) rfl ⟨_,rfl⟩ (Tryz.call42) rfl (ZfT 4 [lfT sB,opT 2 []])) fun v19 h=>?_;cases h)<;>(refine ζi 10 kR ?_)<;>(refine ZaM (d:=21) rfl (Zb5 (f:=41) (ps:=[]) rfl ⟨_,rfl⟩ (Tryz.call41) rfl hactC) fun v21 h=>?_;cases h)<;>(refine ζi 11 kR ?_)<;>(refine ζf rfl fun w9 M9 N9 DQ back=>?_)<;>(refine Zf5 (kk:=3) (xs:=[_,_,_]) (cs:=[[_,_,_],[_,_,_],[_,_,_]]) 22 ZfR fun h22 ho22=>?_;refine ζr (En.freeze (l:=22) (t:=22) rfl rfl) fun _=>?_;refine ζr (Zbh (t:=22) (p':=Zag [lfT sA,opT 4 [lfT sB,opT 2 []],lfT sC]) rfl (Eq.trans (show _=PV.sl 3 (cN (lfT sA)++(cN (opT 4 [lfT sB,opT 2 []])++cN (lfT sC))) from rfl) (Zto _ _ _))) fun _=>?_)<;>refine ζe (back _ (nrm ?_))<;>(refine ζi 12 kR ?_)<;>(refine ZaM (d:=23) rfl (Zb5 (f:=42) (ps:=[]) rfl ⟨_,rfl⟩ (Tryz.call42) rfl (ZfT 3 [lfT sA,opT 4 [lfT sB,opT 2 []],lfT sC])) fun v23 h=>?_;cases h)<;>(refine ζi 13 kR ?_)<;>(refine ζf rfl fun w9 M9 N9 DQ back=>?_)<;>(refine cP 24 (cA Tryz.call43 (ZDG)) fun va24 vb24 hva24 h=>?_;cases h)<;>refine ζe (back _ (nrm ?_))<;>refine xE 14 10 rfl ζb ?_<;>refine xD 15 25 rfl ζl ?_<;>refine xD 16 26 rfl ζl ?_<;>refine xE 17 4 rfl ζc ?_<;>refine xE 18 5 rfl ζc ?_<;>refine Zam kR (nav ?_)<;>try dsimp only)
 (refine ζY (fun i=>([25]:List Nat).elem i) [3] kR ?_<;>refine xD 0 28 rfl ζb ?_<;>refine xD 1 29 rfl ζb ?_<;>refine xD 3 31 rfl ζb ?_<;>refine xD 4 32 rfl ζb ?_<;>(refine yD 6 34 rfl (ζk 3 Zdb) fun v34 h=>?_;cases h)<;>refine xD 11 39 rfl ζb ?_<;>refine xD 12 40 rfl ζb ?_<;>refine xD 14 42 rfl ζb ?_<;>(refine ζi 2 kR ?_)<;>(refine ZaM (d:=30) rfl (Zb5 (f:=41) (ps:=[]) rfl ⟨_,rfl⟩ (Tryz.call41) rfl hactA) fun v30 h=>?_;cases h)<;>(refine ζi 5 kR ?_)<;>(refine ZaM (d:=33) rfl (Zb5 (f:=41) (ps:=[]) rfl ⟨_,rfl⟩ (Tryz.call41) rfl hactB) fun v33 h=>?_;cases h)<;>(refine ζi 7 kR ?_)<;>(refine ζf rfl fun w9 M9 N9 DQ back=>?_)<;>(refine Zf5 (kk:=3) (xs:=[_,_]) (cs:=[[_,_,_],[_,_,_]]) 35 ZfR fun h35 ho35=>?_;refine ζr (En.freeze (l:=35) (t:=35) rfl rfl) fun _=>?_;refine ζr (Zbh (t:=35) (p':=Zag [lfT sB,opT 2 []]) rfl (Eq.trans (show _=PV.sl 2 (cN (lfT sB)++cN (opT 2 [])) from rfl) (Zi5 _ _))) fun _=>?_)<;>refine ζe (back _ (nrm ?_))<;>(refine ζi 8 kR ?_)<;>(refine ZaM (d:=36) rfl (Zb5 (f:=42) (ps:=[]) rfl ⟨_,rfl⟩ (Tryz.call42) rfl (ZfT 6 [lfT sB,opT 2 []])) fun v36 h=>?_;cases h)<;>(refine ζi 9 kR ?_)<;>(refine ζf rfl fun w9 M9 N9 DQ back=>?_)<;>(refine Zf5 (kk:=3) (xs:=[_,_]) (cs:=[[_,_,_],[_,_,_]]) 37 ZfR fun h37 ho37=>?_;refine ζr (En.freeze (l:=37) (t:=37) rfl rfl) fun _=>?_;refine ζr (Zbh (t:=37) (p':=Zag [lfT sA,opT 6 [lfT sB,opT 2 []]]) rfl (Eq.trans (show _=PV.sl 2 (cN (lfT sA)++cN (opT 6 [lfT sB,opT 2 []])) from rfl) (Zi5 _ _))) fun _=>?_)<;>refine ζe (back _ (nrm ?_))<;>(refine ζi 10 kR ?_)<;>(refine ZaM (d:=38) rfl (Zb5 (f:=42) (ps:=[]) rfl ⟨_,rfl⟩ (Tryz.call42) rfl (ZfT 5 [lfT sA,opT 6 [lfT sB,opT 2 []]])) fun v38 h=>?_;cases h)<;>(refine ζi 13 kR ?_)<;>(refine ZaM (d:=41) rfl (Zb5 (f:=41) (ps:=[]) rfl ⟨_,rfl⟩ (Tryz.call41) rfl hactB) fun v41 h=>?_;cases h)<;>(refine ζi 15 kR ?_)<;>(refine ZaM (d:=43) rfl (Zb5 (f:=41) (ps:=[]) rfl ⟨_,rfl⟩ (Tryz.call41) rfl hactA) fun v43 h=>?_;cases h)<;>(refine ζi 16 kR ?_)<;>(refine ζf rfl fun w9 M9 N9 DQ back=>?_)<;>(refine Zf5 (kk:=3) (xs:=[_,_]) (cs:=[[_,_,_],[_,_,_]]) 44 ZfR fun h44 ho44=>?_;refine ζr (En.freeze (l:=44) (t:=44) rfl rfl) fun _=>?_;refine ζr (Zbh (t:=44) (p':=Zag [lfT sB,lfT sA]) rfl (Eq.trans (show _=PV.sl 2 (cN (lfT sB)++cN (lfT sA)) from rfl) (Zi5 _ _))) fun _=>?_)<;>refine ζe (back _ (nrm ?_))<;>(refine ζi 17 kR ?_)<;>(refine ZaM (d:=45) rfl (Zb5 (f:=42) (ps:=[]) rfl ⟨_,rfl⟩ (Tryz.call42) rfl (ZfT 6 [lfT sB,lfT sA])) fun v45 h=>?_;cases h)<;>(refine ζi 18 kR ?_)<;>(refine ζf rfl fun w9 M9 N9 DQ back=>?_)<;>(refine Zvb 46 (cA (Tryz.call12) ZDH) (fun va46 vb46 vc46 hva46 hvb46 hvc46=>?_);cases hva46;cases hvc46)<;>refine ζe (back _ (nrm ?_))<;>refine xE 19 27 rfl ζb ?_<;>refine xD 20 47 rfl ζl ?_<;>refine xD 21 48 rfl ζl ?_<;>refine xD 22 49 rfl ζl ?_<;>refine xE 23 6 rfl ζc ?_<;>refine xE 24 7 rfl ζc ?_<;>refine xE 25 8 rfl ζc ?_<;>refine Zam kR (nav ?_)<;>try dsimp only)
 (refine ζa ?_<;>refine xL 50 ζb ?_<;>(refine Zja (xs:=[_,_]) 51 ZjP fun h51 ho51=>?_;refine ζr (En.freeze (l:=51) (t:=51) rfl rfl) fun _=>?_;refine ζr (Zbh (t:=51) (p':=ZaY [sA,sC]) rfl rfl) fun _=>?_)<;>(refine Zja (xs:=[_,_,_]) 52 ZjP fun h52 ho52=>?_;refine ζr (En.freeze (l:=52) (t:=52) rfl rfl) fun _=>?_;refine ζr (Zbh (t:=52) (p':=ZaY [sA,sB,sC]) rfl rfl) fun _=>?_)<;>(refine Zja (xs:=[_,_]) 53 ZjQ fun h53 ho53=>?_;refine ζr (En.freeze (l:=53) (t:=53) rfl rfl) fun _=>?_;refine ζr (Zbh (t:=53) (p':=Zi9 [[sA,sC],[sA,sB,sC]]) rfl rfl) fun _=>?_)<;>(refine cS 54 (cA Tryz.call44 ((Zsh [[sA,sC],[sA,sB,sC]] [[sA,sC],[sA,sB,sC]]).mono (R':=(· =ζV true)) fun p hp=>by rw [hp,Zww])) fun v54 h=>?_;cases h)<;>refine xL 55 ζb (xL 56 ζb (xL 57 Zxg (xL 58 ζJ (xL 59 ζb (xL 60 ζb (xL 61 Zav (xL 62 ζJ (xL 63 ζb (xL 64 ζb ?_)))))))))<;>(refine ζP (kk:=1) 65 ZjP fun h65 ho65=>?_;refine ζr (En.freeze (l:=65) (t:=65) rfl rfl) fun _=>?_;refine ζr (Zbh (t:=65) (p':=ZaY [sB]) rfl rfl) fun _=>?_)<;>(refine cS 66 (cA Tryz.call14 (ZrV [sB])) fun v66 h=>?_;cases h)<;>refine xL 67 ζJ (xL 68 ζb (xL 69 ζb (xL 70 Zxg (xL 71 ζJ (xL 0 ζc ?_)))))<;>refine ζd ?_)<;>(
  exact ζx Tryz.results10 rfl rfl)
theorem ZcL:AggT Tryz.prog 24 3=true:=by kernel_rfl
theorem ZrW:FldT Tryz.prog 24 0 0=true:=by kernel_rfl
theorem ZrX:FldT Tryz.prog 24 1 1=true:=by kernel_rfl
theorem Zhb:FldT Tryz.prog 24 2 2=true:=by kernel_rfl
theorem ZjT:NoAgg Tryz.prog 22=true:=by kernel_rfl
theorem ZzL:NoAgg Tryz.prog 3=true:=by kernel_rfl
theorem ZzM:NoAgg Tryz.prog 9=true:=by kernel_rfl
theorem ZfU:SlT Tryz.prog 22 24 3=true:=by kernel_rfl
theorem Zoe:ZeroT Tryz.prog 24 (.agg #[(.int .i64 0),(.string ByteArray.empty),(.slice none 0 0)]):=by unfold ZeroT;kernel_rfl
mutual
def ZgB:Nd→Int→Int→Int
 | .mk _ a l,m,d=>if 70<d∨100<(a.size:Int)∨m<(l.length:Int) then m else Zhc l m d 1
def Zhc:List Nd→Int→Int→Int→Int
 |[],m,_,n=>min n m
 |x::l,m,d,n=>if m≤n then m else Zhc l m d (n+ZgB x (m-n) (d+1))
end
theorem ZzN:∀(t:Nd) (m d:Int),1≤m→1≤ZgB t m d∧ZgB t m d≤m:=Nd.ind fun o a l ih m d hm=>by
 rw [ZgB]
 split
 · omega
 have key:∀(k:List Nd),(∀x∈k,x∈l)→∀n:Int,1≤n→1≤Zhc k m d n∧Zhc k m d n≤m:=fun k=>by
  induction k with
  |nil=>intro _ n hn;rw [Zhc];omega
  | cons x k ihk=>
    intro hk n hn;rw [Zhc];split
    · omega
    · have:=ih x (hk x (Xk ..)) (m-n) (d+1) (by omega);exact ihk (fun y hy=>hk y (Xn _ hy)) _ (by omega)
 exact key l (fun _ h=>h) 1 (VG _)
theorem ZDI:∀(t:Nd) (m d:Int),1≤m→ZgB t m d<m→(szT t:Int)≤ZgB t m d:=Nd.ind fun o a l ih m d hm h=>by
 rw [ZgB] at h ⊢
 rw [szT]
 split at h
 · omega
 rename_i hc
 rw [if_neg hc]
 have key:∀(k:List Nd),(∀x∈k,x∈l)→∀n:Int,1≤n→n≤m→Zhc k m d n<m→n+szL k≤Zhc k m d n:=fun k=>by
  induction k with
  |nil=>intro _ n hn hm h;rw [Zhc] at h ⊢;rw [szL];omega
  | cons x k ihk=>
    intro hk n hn hnm h;rw [Zhc] at h ⊢;rw [szL];split at h
    · omega
    · rename_i h1;rw [if_neg h1];have hb:=ZzN x (m-n) (d+1) (by omega);have h2:=ihk (fun y hy=>hk y (Xn _ hy)) (n+ZgB x (m-n) (d+1)) (by omega) (by omega) h;have h3:=ih x (hk x (Xk ..)) (m-n) (d+1) (by omega) (by omega);push_cast
      omega
 have:=key l (fun _ h=>h) 1 (VG _) hm h
 push_cast
 omega
theorem Zwx {l:List Nd} {k:Nat} {x:Nd} (hx:l[k]? =some x) (m d n:Int):Zhc (l.drop k) m d n=if m≤n then m else Zhc (l.drop (k+1)) m d (n+ZgB x (m-n) (d+1)):=by
 rw [X7 (ζg hx),(XI.1 hx).2,Zhc]
mutual
def ZcM:Nd→Int
 | .mk o _ l=>Zkw o l 2
def Zkw:Int→List Nd→Int→Int
 |_,[],n=>n
 |o,x::l,n=>Zkw o l (min (if o=5 then n*ZcM x else n+ZcM x) 100000)
end
theorem ZDJ:∀(t:Nd),2≤ZcM t∧ZcM t≤100000:=Nd.ind fun o a l ih=>by
 rw [ZcM]
 have key:∀(k:List Nd),(∀x∈k,x∈l)→∀n:Int,2≤n→n≤100000→2≤Zkw o k n∧Zkw o k n≤100000:=fun k=>by
  induction k with
  |nil=>intro _ n hn hm;rw [Zkw];exact ⟨hn,hm⟩
  | cons x k ihk=>
    intro hk n hn hm;rw [Zkw];have h1:=ih x (hk x (Xk ..));refine ihk (fun y hy=>hk y (Xn _ hy)) _ ?_ (by omega);split
    · have:2*2≤n*ZcM x:=Int.mul_le_mul hn h1.1 (by omega) (by omega);omega
    · omega
 exact key l (fun _ h=>h) 2 (VG _) (by omega)
theorem Zwy {l:List Nd} {k:Nat} {x:Nd} (o:Int) (hx:l[k]? =some x) (n:Int):Zkw o (l.drop k) n=Zkw o (l.drop (k+1)) (min (if o=5 then n*ZcM x else n+ZcM x) 100000):=by
 rw [X7 (ζg hx),(XI.1 hx).2,Zkw]
set_option maxHeartbeats 2000000 in
theorem Ztp :∀(t:Nd),FitT t→∀(m d:Int),1≤m→m≤1000→1≤d→d≤100→AF Tryz.prog 27 [pTr t,pInt m,pInt d] (· =pInt (ZgB t m d)):=Nd.ind fun o a l ih hf m d hm1 hm2 hd1 hd2=>by
 have e0:pTr (.mk o a l)= .agg [pInt o,Zab a,Zag l]:=rfl
 rw [e0]
 have hl:=hf.len
 have hp:=hf.p
 have ha:=hf.sz
 simp only [Nd.l,Nd.act] at hl hp ha
 refine AF.of_body 50 Tryz.func27 rfl Tryz.ntmps27 (Xa rfl) ?_
 intro w0 M0 vs hl hv
 obtain ⟨v0,v1,v2,rfl⟩:=ZgF hl
 obtain rfl:=hv 1 _ _ rfl rfl
 obtain rfl:=hv 2 _ _ rfl rfl
 clear hl hv
 refine nav ?_
 (refine ζa ?_<;>refine ζH 3 3 fun h3=>?_<;>refine xL 6 ζc ?_<;>refine ζd ?_)
 (refine ζa ?_<;>refine xL 10 ζb (xL 11 ZaF (xL 12 ζb ?_))<;>(refine bLd 12 (fun hb12=>?_) (fun hb12=>?_)<;>(first|refine kL 13 ?_|refine xL 13 (ζh 3 ZrX) ?_))<;>(first|refine kL 14 ?_|(refine yL 14 (ζq 3 ZzM) fun v14 h=>?_;cases h))<;>(first|refine kL 15 ?_|refine xL 15 (Zoj Tryz.underlying9) ?_)<;>(first|refine kL 16 ?_|refine xL 16 ZaF ?_)<;>refine xL 17 ζJ (xL 18 ζb ?_)<;>(first|refine kL 19 ?_|(refine bLd 18 (fun hb18=>?_) (fun hb18=>?_)<;>(first|refine kL 19 ?_|refine xL 19 (ζh 3 Zhb) ?_)))<;>(first|refine kL 20 ?_|(refine yL 20 (ζq 3 ZjT) fun v20 h=>?_;cases h))<;>(first|refine kL 21 ?_|refine xL 21 (ζU ZfU) ?_)<;>(first|refine kL 22 ?_|refine xL 22 ζb ?_)<;>(first|refine kL 23 ?_|refine xL 23 ZaF ?_)<;>refine xL 24 ζJ ?_<;>refine ζd ?_)<;>(
  (first|refine cCd ?_ ?_|refine cC ?_ ?_)<;>intro hb24
  · first
    |exact bN hb24
    | (
     (have hc:70<d∨100<(a.size:Int)∨m<(l.length:Int):=by simp_all);(have hX:ZgB (.mk o a l) m d=m:=by rw [ZgB,if_pos hc]);rw [hX];refine nav ?_;(refine ζa ?_<;>refine xL 25 ζb (xL 6 ζc ?_)<;>refine ζd ?_)
     exact ζx Tryz.results27 rfl rfl)
  · first
    |exact bN hb24
    | (
     (have hc:¬(70<d∨100<(a.size:Int)∨m<(l.length:Int)):=by simp_all);(have hX:ZgB (.mk o a l) m d=Zhc l m d 1:=by rw [ZgB,if_neg hc]);rw [hX];(have hd3:d≤70:=by omega);refine nav ?_;(refine ζa ?_<;>refine xL 7 ζc ?_<;>refine ζd ?_)
     (refine ζa ?_<;>refine xL 26 (ζh 3 Zhb) ?_<;>(refine yL 27 (ζq 3 ZjT) fun v27 h=>?_;cases h)<;>refine xL 28 (ζU ZfU) (xL 29 ζb ?_)<;>refine ζd ?_)
     refine ζy (ι:={q:Nat×Int//q.1≤l.length∧1≤q.2∧q.2≤m∧Zhc (l.drop q.1) m d q.2=Zhc l m d 1}) (fun k=>⟨[(1,_,_),(2,_,_),(27,_,_),(28,_,_),(7, .int .i64 k.1.2,pInt k.1.2),(29, .int .i64 k.1.1,pInt k.1.1)],[(3,_,_)]⟩) (fun k=>l.length-k.1.1) ⟨(0,1),Xe _,VG _,hm1,rfl⟩ (fun a w H=>H.weaken ⟨rfl,rfl,rfl,rfl,rfl,rfl,trivial⟩ ⟨rfl,trivial⟩) ?_;rintro ⟨⟨i,n⟩,hi,hn1,hn2,hq⟩;dsimp only;dsimp only at hi hn1 hn2 hq;refine nav ?_;(refine ζa ?_<;>refine xL 30 ζK ?_<;>refine ζd ?_)
     (first|refine cCd ?_ ?_|refine cC ?_ ?_)<;>intro hb30
     · first
       |exact bN hb30
       | (
        obtain ⟨x,hx⟩:=ζm (show i<l.length by omega);have e1:((ζ3 l).drop (i*3)).take 3=[pInt x.op,Zab x.act,Zag x.l]:=ζ4 hx;have e2:=Zah hx;rw [Zwx hx] at hq;refine nav ?_;(refine ζa ?_<;>refine xL 31 (ζI ZfU) ?_<;>(refine yL 32 (ZaQ ZcL) fun v32 h=>?_;cases h)<;>refine ζs [(.int .i64 0),(.string ByteArray.empty),(.slice none 0 0)] 3 9 Zoe fun h9=>?_<;>refine ζt 9 ZcL ?_<;>refine ζd ?_)
        (refine ζa ?_<;>refine xL 33 ζb (xL 34 ζb (xL 35 ZcX ?_))<;>refine ζd ?_)
        (first|refine cCd ?_ ?_|refine cC ?_ ?_)<;>intro hb35
        · first
          |exact bN hb35
          | (
           refine nav ?_;(refine ζa ?_<;>refine xL 36 ζb (xL 6 ζc ?_)<;>refine ζd ?_)
           refine ζx (Tryz.results27) rfl ?_;rw [if_pos (by omega)] at hq;rw [←hq])
        · first
          |exact bN hb35
          | (
           rw [if_neg (by omega)] at hq;have hcb:=ZzN x (m-n) (d+1) (by omega);refine nav ?_;(refine ζa ?_<;>refine xL 37 ζb ?_<;>(refine yL 38 (ζk 9 ZcL) fun v38 h=>?_;cases h)<;>refine xL 39 ζb (xL 40 ζb (xL 41 ZeX (xL 42 ζb (xL 43 ζG ?_))))<;>(refine cS 44 (cA Tryz.call27 (ih x (Xb hx) (hp x (Xb hx)) (m-n) (d+1) (by omega) (by omega) (by omega) (by omega))) fun v44 h=>?_;cases h)<;>refine xL 45 ζG (xL 7 ζc ?_)<;>refine ζd ?_)
           (refine ζa ?_<;>refine xL 46 ζG (xL 29 ζb ?_)<;>refine ζd ?_)
           refine ζj (
            ⟨(i+1,n+ZgB x (m-n) (d+1)),ζg hx,by dsimp only;omega,by dsimp only;omega,hq⟩
            ) (by dsimp only;omega) ⟨rfl,rfl,rfl,rfl,rfl,rfl,trivial⟩ ⟨rfl,trivial⟩))
     · first
       |exact bN hb30
       | (
        rw [X0 (show l.length≤i by omega),Zhc] at hq;refine nav ?_;(refine ζa ?_<;>refine xL 47 ζb (xL 48 ζb (xL 49 Zxb (xL 6 ζc ?_)))<;>refine ζd ?_)
        refine ζx (Tryz.results27) rfl ?_;rw [←hq];(have hmn:(if m<n then m else n)=min n m:=by split<;>omega);rw [←hmn])))
set_option maxHeartbeats 2000000 in
theorem ZrY :∀(t:Nd),FitT t→AF Tryz.prog 47 [pTr t] (· =pInt (ZcM t)):=Nd.ind fun o a l ih hf=>by
 have e0:pTr (.mk o a l)= .agg [pInt o,Zab a,Zag l]:=rfl
 rw [e0]
 have hl:=hf.len
 have hp:=hf.p
 simp only [Nd.l,Nd.act] at hl hp
 refine AF.of_body 29 Tryz.func47 rfl Tryz.ntmps47 (Xa rfl) ?_
 intro w0 M0 vs hl hv
 obtain ⟨v0,rfl⟩:=Zco hl
 clear hl hv
 refine nav ?_
 (refine ζa ?_<;>refine ζH 1 3 fun h1=>?_<;>refine xL 2 ζc ?_<;>refine ζd ?_)
 (refine ζa ?_<;>refine xL 3 ζc ?_<;>refine ζd ?_)
 (refine ζa ?_<;>refine xL 7 (ζh 1 Zhb) ?_<;>(refine yL 8 (ζq 1 ZjT) fun v8 h=>?_;cases h)<;>refine xL 9 (ζU ZfU) (xL 10 ζb ?_)<;>refine ζd ?_)
 refine ζy (ι:={q:Nat×Int//q.1≤l.length∧2≤q.2∧q.2≤100000∧Zkw o (l.drop q.1) q.2=Zkw o l 2}) (fun k=>⟨[(1,_,_),(8,_,_),(9,_,_),(3, .int .i64 k.1.2,pInt k.1.2),(10, .int .i64 k.1.1,pInt k.1.1)],[(1,_,_)]⟩) (fun k=>l.length-k.1.1) ⟨(0,2),Xe _,VG _,by dsimp only;omega,rfl⟩ (fun a w H=>H.weaken ⟨rfl,rfl,rfl,rfl,rfl,trivial⟩ ⟨rfl,trivial⟩) ?_
 rintro ⟨⟨i,n⟩,hi,hn1,hn2,hq⟩
 dsimp only
 dsimp only at hi hn1 hn2 hq
 refine nav ?_
 (refine ζa ?_<;>refine xL 11 ζK ?_<;>refine ζd ?_)
 (first|refine cCd ?_ ?_|refine cC ?_ ?_)<;>intro hb11
 · first
   |exact bN hb11
   | (
    obtain ⟨x,hx⟩:=ζm (show i<l.length by omega);have e1:((ζ3 l).drop (i*3)).take 3=[pInt x.op,Zab x.act,Zag x.l]:=ζ4 hx;have e2:=Zah hx;rw [Zwy o hx] at hq;have hw:=ZDJ x;have hmul:2*2≤n*ZcM x∧n*ZcM x≤100000*100000:=⟨Int.mul_le_mul hn1 hw.1 (by omega) (by omega),Int.mul_le_mul hn2 hw.2 (by omega) (by omega)⟩;refine nav ?_;(refine ζa ?_<;>refine xL 12 (ζI ZfU) ?_<;>(refine yL 13 (ZaQ ZcL) fun v13 h=>?_;cases h)<;>refine ζs [(.int .i64 0),(.string ByteArray.empty),(.slice none 0 0)] 3 5 Zoe fun h5=>?_<;>refine ζt 5 ZcL ?_<;>refine ζd ?_)
    (refine ζa ?_<;>(refine yL 14 (ζk 5 ZcL) fun v14 h=>?_;cases h)<;>(refine cS 15 (cA Tryz.call47 (ih x (Xb hx) (hp x (Xb hx)))) fun v15 h=>?_;cases h)<;>refine xL 6 ζc ?_<;>refine ζd ?_)
    (refine ζa ?_<;>refine xL 16 (ζh 1 ZrW) ?_<;>(refine yL 17 (ζq 1 ZzL) fun v17 h=>?_;cases h)<;>refine xL 18 ζ6 ?_<;>refine ζd ?_)
    (first|refine cCd ?_ ?_|refine cC ?_ ?_)<;>intro hb18
    · first
      |exact bN hb18
      | (
       rw [if_pos (show o=5 from hb18)] at hq;(have hmn:(if 100000<n*ZcM x then 100000 else n*ZcM x)=min (n*ZcM x) 100000:=by split<;>omega);rw [←hmn] at hq;(have hb:2≤(if 100000<n*ZcM x then 100000 else n*ZcM x)∧(if 100000<n*ZcM x then 100000 else n*ZcM x)≤100000:=by split<;>omega);refine nav ?_;(refine ζa ?_<;>refine xL 19 ζb (xL 20 ζb (xL 21 ZgG (xL 22 Zxb (xL 3 ζc ?_))))<;>refine ζd ?_)
       (refine ζa ?_<;>refine xL 27 ζG (xL 10 ζb ?_)<;>refine ζd ?_)
       first
        | (exact ζj (
            ⟨(i+1,if 100000<n*ZcM x then 100000 else n*ZcM x),ζg hx,hb.1,hb.2,hq⟩
            ) (by dsimp only;omega) ⟨rfl,rfl,rfl,rfl,rfl,trivial⟩ ⟨rfl,trivial⟩)
        | (exact ζj (
            ⟨(i+1,if 100000<n+ZcM x then 100000 else n+ZcM x),ζg hx,hb.1,hb.2,hq⟩
            ) (by dsimp only;omega) ⟨rfl,rfl,rfl,rfl,rfl,trivial⟩ ⟨rfl,trivial⟩))
    · first
      |exact bN hb18
      | (
       rw [if_neg (show ¬o=5 from hb18)] at hq;(have hmn:(if 100000<n+ZcM x then 100000 else n+ZcM x)=min (n+ZcM x) 100000:=by split<;>omega);rw [←hmn] at hq;(have hb:2≤(if 100000<n+ZcM x then 100000 else n+ZcM x)∧(if 100000<n+ZcM x then 100000 else n+ZcM x)≤100000:=by split<;>omega);refine nav ?_;(refine ζa ?_<;>refine xL 23 ζb (xL 24 ζb (xL 25 ζG (xL 26 Zxb (xL 3 ζc ?_))))<;>refine ζd ?_)
       (refine ζa ?_<;>refine xL 27 ζG (xL 10 ζb ?_)<;>refine ζd ?_)
       first
        | (exact ζj (
            ⟨(i+1,if 100000<n*ZcM x then 100000 else n*ZcM x),ζg hx,hb.1,hb.2,hq⟩
            ) (by dsimp only;omega) ⟨rfl,rfl,rfl,rfl,rfl,trivial⟩ ⟨rfl,trivial⟩)
        | (exact ζj (
            ⟨(i+1,if 100000<n+ZcM x then 100000 else n+ZcM x),ζg hx,hb.1,hb.2,hq⟩
            ) (by dsimp only;omega) ⟨rfl,rfl,rfl,rfl,rfl,trivial⟩ ⟨rfl,trivial⟩)))
 · first
   |exact bN hb11
   | (
    rw [X0 (show l.length≤i by omega),Zkw] at hq;refine nav ?_;(refine ζa ?_<;>refine xL 28 ζb (xL 2 ζc ?_)<;>refine ζd ?_)
    refine ζx (Tryz.results47) rfl ?_;rw [ZcM,←hq])
def ZrZ (t:Nd):Bool:=decide (14≤ZgB t 14 1)||decide (200<ZcM t)
theorem ZDK {t:Nd} (h:ZrZ t=false):szT t≤13:=by
 unfold ZrZ at h
 simp only [Ue,decide_eq_false_iff_not] at h
 have:=ZDI t 14 1 (by decide) (by omega)
 omega
theorem Zr0 (t:Nd) (hf:FitT t):AF Tryz.prog 46 [pTr t] (· =ζV (ZrZ t)):=by
 have e0:pTr t= .agg [pInt t.op,Zab t.act,Zag t.l]:=rfl
 have hC:=Ztp t hf 14 1 (by decide) (by decide) (by decide) (by decide)
 have hW:=ZrY t hf
 rw [e0] at hC hW ⊢
 refine AF.of_body 11 Tryz.func46 rfl Tryz.ntmps46 (Xa rfl) ?_
 intro w0 M0 vs hl hv
 obtain ⟨v0,rfl⟩:=Zco hl
 clear hl hv
 refine nav ?_
 (refine ζa ?_<;>refine ζH 1 3 fun h1=>?_<;>refine xL 2 ζc ?_<;>refine ζd ?_)
 (refine ζa ?_<;>(refine yL 3 (ζk 1 ZcL) fun v3 h=>?_;cases h)<;>(refine cS 4 (cA Tryz.call27 (hC)) fun v4 h=>?_;cases h)<;>refine xL 5 ZcX (xL 6 ζb ?_)<;>(refine bLd 6 (fun hb6=>?_) (fun hb6=>?_)<;>(first|refine kL 7 ?_|(refine yL 7 (ζk 1 ZcL) fun v7 h=>?_;cases h)))<;>(first|refine kL 8 ?_|(refine cS 8 (cA Tryz.call47 (hW)) fun v8 h=>?_;cases h))<;>(first|refine kL 9 ?_|refine xL 9 ZaF ?_)<;>refine xL 10 ζJ (xL 2 ζc ?_)<;>refine ζd ?_)<;>(
  refine ζx (Tryz.results46) rfl ?_;unfold ZrZ
  first|(rw [show decide (14≤ZgB t 14 1)=true from hb6];rfl)|(rw [show decide (14≤ZgB t 14 1)=false from hb6];rfl)|(rw [decide_eq_true hb6];rfl)|(rw [decide_eq_false hb6];rfl))
theorem Ztq (l:List Nd) (hl:l.length≤1000) (hf:∀t∈l,FitT t):AF Tryz.prog 11 [Zag l] (· =ζV (!l.any ZrZ)):=by
 refine AF.of_body 6 Tryz.func11 rfl Tryz.ntmps11 (Xa rfl) ?_
 intro w0 M0 vs hl hv
 obtain ⟨v0,rfl⟩:=Zco hl
 clear hl hv
 refine nav ?_
 (refine ζa ?_<;>refine xL 2 ζc ?_<;>refine ζd ?_)
 (refine ζa ?_<;>refine xL 3 ζb ?_<;>(refine cS 4 (cA Tryz.call45 (ZmE 46 ZrZ l (by omega) (Tryz.call46) (fun t ht=>Zr0 t (hf t ht)))) fun v4 h=>?_;cases h)<;>refine xL 5 Zav (xL 2 ζc ?_)<;>refine ζd ?_)
 exact ζx Tryz.results11 rfl rfl
theorem ZB4 {a:Nd} (ha:FitT a):∀t∈[a],FitT t:=fun t ht=>by rw [Xi.1 ht];exact ha
theorem ZcN:AggT Tryz.prog 24 3=true:=by kernel_rfl
theorem Ztr:ElT Tryz.prog 160 22 1 24 (.slice none 0 0):=⟨Tryz.underlying160,by kernel_rfl,rfl,by decide⟩
theorem ZhI:ElT Tryz.prog 22 24 3 48 (.agg #[(.int .i64 0),(.string ByteArray.empty),(.slice none 0 0)]):=⟨Tryz.underlying22,by kernel_rfl,rfl,by decide⟩
theorem Zhd:FldT Tryz.prog 24 0 0=true:=by kernel_rfl
theorem Zr1:FldT Tryz.prog 24 1 1=true:=by kernel_rfl
theorem ZcO:FldT Tryz.prog 24 2 2=true:=by kernel_rfl
theorem ZcW:NoAgg Tryz.prog 22=true:=by kernel_rfl
theorem ZmD:NoAgg Tryz.prog 3=true:=by kernel_rfl
theorem ZzO:NoAgg Tryz.prog 9=true:=by kernel_rfl
theorem Zgu:SlT Tryz.prog 160 22 1=true:=by kernel_rfl
theorem ZbL:SlT Tryz.prog 22 24 3=true:=by kernel_rfl
theorem Zwz:ZbX Tryz.prog 24=some ((.agg #[(.int .i64 0),(.string ByteArray.empty),(.slice none 0 0)]),([0,1,2]:List Nat).map fun o=>(o,1)):=by kernel_rfl
theorem Zof:(Tryz.prog.info? 22).map (·.size)=some 1:=by kernel_rfl
theorem ZjU:ZeroT Tryz.prog 24 (.agg #[(.int .i64 0),(.string ByteArray.empty),(.slice none 0 0)]):=by unfold ZeroT;kernel_rfl
theorem Zts (n:Nat) (hn:n≤1000000):AF Tryz.prog 126 [.val (.slice none 0 0),pInt n] (· = .own 24 3 0 []):=by
 refine AF.of_body 27 Tryz.func126 rfl Tryz.ntmps126 (Xa rfl) ?_
 intro w0 M0 vs hl hv
 obtain ⟨v0,v1,rfl⟩:=Zbl hl
 obtain rfl:=hv 0 _ _ rfl rfl
 obtain rfl:=hv 1 _ _ rfl rfl
 clear hl hv
 refine nav ?_
 (refine ζa ?_<;>refine xL 4 ζc ?_<;>refine ζd ?_)
 (refine ζa ?_<;>refine xL 5 ζb (xL 6 ζK ?_)<;>refine ζd ?_)
 (first|refine cCd ?_ ?_|refine cC ?_ ?_)<;>intro hb6
 · exfalso;omega
 · refine nav ?_;(refine ζa ?_<;>refine xL 8 ζb (xL 9 ζb (xL 10 (Zp6 ZbL) (xL 11 ζb (xL 12 (Zp7 ZbL) (xL 13 ZeX (xL 14 ZeX (xL 1 ζc ?_)))))))<;>refine ζd ?_)
   (refine ζa ?_<;>refine xL 15 ζb (xL 16 ZaF ?_)<;>refine ζd ?_)
   (first|refine cCd ?_ ?_|refine cC ?_ ?_)<;>intro hb16
   · first
     |exact bN hb16
     | (
      (have h0:0<n:=by omega);rw [show (n:Int)-(0-0)=(n:Int) by omega];refine nav ?_;(refine ζa ?_<;>refine xL 17 ζb (xL 18 ζb (xL 19 (Zp6 ZbL) (xL 20 (Zw3 ZbL) (xL 21 ζb ?_))))<;>refine ZCV 22 ZhI Tryz.underlying3 (fun h22 ho22=>?_)<;>refine xL 23 ζb (xL 24 (Zp7 ZbL) ?_)<;>refine xL 25 (ZcP (i:=0) (j:=0) 22 ZbL rfl rfl rfl rfl rfl (Xd _) (Xe _)) ?_<;>refine xL 0 ζc ?_<;>refine ζd ?_)
      (refine ζa ?_<;>refine xL 26 ζb (xL 4 ζc ?_)<;>refine ζd ?_)
      first
       | (refine Za2 (Zw2 (l:=22) 0 rfl (Xe _)) fun _=>?_
          refine Zb8 22 (Tryz.results126) rfl rfl ?_;rw [X4,Vx])
       | (refine Za2 (ZbW 200 24 3 rfl) fun _=>?_
          exact Zb8 200 (Tryz.results126) rfl rfl rfl))
   · first
     |exact bN hb16
     | (
      refine nav ?_;(refine ζa ?_<;>refine xL 26 ζb (xL 4 ζc ?_)<;>refine ζd ?_)
      first
       | (refine Za2 (Zw2 (l:=22) 0 rfl (Xe _)) fun _=>?_
          refine Zb8 22 (Tryz.results126) rfl rfl ?_;rw [X4,Vx])
       | (refine Za2 (ZbW 200 24 3 rfl) fun _=>?_
          exact Zb8 200 (Tryz.results126) rfl rfl rfl))
def ZCr (l:List (List Nd)):PV:= .sl l.length (l.map Zag)
theorem ZhR (l:List (List Nd)) (k:Nat):((l.take k).flatten).length≤l.flatten.length:=by
 have:l.flatten=(l.take k).flatten++(l.drop k).flatten:=by rw [←List.flatten_append,Vq]
 rw [this,Xc]
 omega
theorem ZeU {l:List (List Nd)} {k:Nat} {p:List Nd} (h:l[k]? =some p):(l.take (k+1)).flatten=(l.take k).flatten++p:=by
 rw [ζQ h];simp
theorem Zpu (l:List (List Nd)) (hl:l.flatten.length≤1000000):AF Tryz.prog 79 [ZCr l] (· = .own 24 3 l.flatten.length (ζ3 l.flatten)):=by
 refine AF.of_body 36 Tryz.func79 rfl Tryz.ntmps79 (Xa rfl) ?_
 intro w0 M0 vs hl hv
 obtain ⟨v0,rfl⟩:=Zco hl
 clear hl hv
 refine Zb9 0 rfl fun hlen=>?_
 refine nav ?_
 (refine ζa ?_<;>refine xL 2 ζc ?_<;>refine ζd ?_)
 (refine ζa ?_<;>refine xL 3 ζc ?_<;>refine ζd ?_)
 (refine ζa ?_<;>refine xL 9 ζb (xL 10 (ζU Zgu) (xL 11 ζb ?_))<;>refine ζd ?_)
 refine ζy (ι:={k:Nat//k≤l.length}) (fun k=>⟨[(0,_,_),(9,_,_),(10,_,_),(3, .int .i64 ((l.take k.1).flatten.length:Nat),pInt ((l.take k.1).flatten.length:Nat)),(11, .int .i64 k.1,pInt k.1)],[]⟩) (fun k=>l.length-k.1) ⟨0,by omega⟩ (fun a w H=>H.weaken ⟨rfl,rfl,rfl,rfl,rfl,trivial⟩ trivial) ?_
 rintro ⟨k,hk⟩
 dsimp only
 refine nav ?_
 (refine ζa ?_<;>refine xL 12 ζK ?_<;>refine ζd ?_)
 (first|refine cCd ?_ ?_|refine cC ?_ ?_)<;>intro hb12
 · first
   |exact bN hb12
   | (
    obtain ⟨x,hx⟩:=ζm (show k<l.length by omega);have e1:=Zas (f:=Zag) hx;have hle:=ZhR l (k+1);rw [ZeU hx,Xc] at hle;refine nav ?_;(refine ζa ?_<;>refine xL 13 (ζI Zgu) ?_<;>(refine yL 14 (ZaE ZcW) fun v14 h=>?_;cases h)<;>refine xL 5 ζc ?_<;>refine ζd ?_)
    (refine ζa ?_<;>refine xL 15 ζb (xL 16 ζb (xL 17 (ζU ZbL) (xL 18 ζG (xL 3 ζc ?_))))<;>refine ζd ?_)
    (refine ζa ?_<;>refine xL 19 ζb (xL 20 ζK ?_)<;>refine ζd ?_)
    (first|refine cCd ?_ ?_|refine cC ?_ ?_)<;>intro hb20
    · exfalso;omega
    · refine nav ?_;(refine ζa ?_<;>refine xL 22 ζG (xL 11 ζb ?_)<;>refine ζd ?_)
      rw [show (((l.take k).flatten.length:Nat):Int)+(x.length:Int)=(((l.take (k+1)).flatten.length:Nat):Int) by rw [ZeU hx,Xc];omega];refine ζj (
       ⟨k+1,by omega⟩
       ) (by dsimp only;omega) ⟨rfl,rfl,rfl,rfl,rfl,trivial⟩ trivial)
 · first
   |exact bN hb12
   | (
    refine nav ?_;rw [show k=l.length by omega,Ua];(refine ζa ?_<;>refine xL 23 ζb ?_<;>refine cO 24 (cA Tryz.call126 (Zts l.flatten.length (by omega))) fun v24 ho24=>?_<;>refine xL 6 ζc ?_<;>refine ζd ?_)
    (refine ζa ?_<;>refine xL 25 ζb (xL 26 (ζU Zgu) (xL 27 ζb ?_))<;>refine ζd ?_)
    refine ζw (ζF (l:=24) 200 rfl rfl) fun _=>?_;refine ζy (ι:={x:Nat×Value//x.1≤l.length}) (fun k=>⟨[(25,_,_),(26,_,_),(6,k.1.2, .val k.1.2),(27, .int .i64 k.1.1,pInt k.1.1)],[(200,k.1.2, .own 24 3 (l.take k.1.1).flatten.length (ζ3 (l.take k.1.1).flatten))]⟩) (fun k=>l.length-k.1.1) ⟨(0,v24),Xe _⟩ (fun a w H=>H.weaken ⟨rfl,rfl,rfl,rfl,trivial⟩ ⟨rfl,trivial⟩) ?_;rintro ⟨⟨k,h66⟩,hk2⟩;dsimp only;dsimp only at hk2;refine nav ?_;(refine ζa ?_<;>refine xL 28 ζK ?_<;>refine ζd ?_)
    (first|refine cCd ?_ ?_|refine cC ?_ ?_)<;>intro hb28
    · first
      |exact bN hb28
      | (
       obtain ⟨x,hx⟩:=ζm (show k<l.length by omega);have e1:=Zas (f:=Zag) hx;have hle:=ZhR l (k+1);rw [ZeU hx,Xc] at hle;have e2:(ζ3 x).length=x.length*3:=ZgO x;have e3:(ζ3 x).all En.one=true:=Ziy x;refine nav ?_;(refine ζa ?_<;>refine xL 29 (ζI Zgu) ?_<;>(refine yL 30 (ZaE ZcW) fun v30 h=>?_;cases h)<;>refine xL 8 ζc ?_<;>refine ζd ?_)
       (refine ζa ?_<;>refine xL 31 ζb (xL 32 ζb ?_)<;>refine ZgL 200 33 ZhI fun h33 ho33=>?_<;>refine xL 6 ζc ?_<;>refine ζd ?_)
       (refine ζa ?_<;>refine xL 34 ζG (xL 27 ζb ?_)<;>refine ζd ?_)
       refine Zbn (ζF (l:=33) 200 rfl rfl) fun _=>?_;rw [show ζ3 (l.take k).flatten++ζ3 x=ζ3 (l.take (k+1)).flatten by rw [ZeU hx,←Zqo],show (l.take k).flatten.length+x.length=(l.take (k+1)).flatten.length by rw [ZeU hx,Xc]];refine ζj (
        ⟨(k+1,h33),by show k+1≤l.length;omega⟩
        ) (by show l.length-(k+1)<l.length-k;omega) ⟨rfl,rfl,rfl,rfl,trivial⟩ ⟨rfl,trivial⟩)
    · first
      |exact bN hb28
      | (
       refine nav ?_;(refine ζa ?_<;>refine xL 35 ζb (xL 2 ζc ?_)<;>refine ζd ?_)
       refine Zb8 200 (Tryz.results79) rfl rfl ?_;rw [show k=l.length by omega,Ua]))
theorem ZzP {P:Program} {st:St} {o:Oper} {x y:Operand} {t t':TypeId} {q q':PV} {c n j:Nat} (hn:0<n) (hj:j=c % n) (ho:o.op= .binOp .rem t x y t':=by exact rfl) (hx:ev st.slots x=some (.int .i64 (c:Int),q):=by exact rfl) (hy:ev st.slots y=some (.int .i64 (n:Int),q'):=by exact rfl):YE P st o (· = .int .i64 (j:Int)) (.val (.int .i64 (j:Int))):=by
 have h:=ZD5 (P:=P) ho hx hy (by omega)
 rwa [show ((c:Int).tmod (n:Int))=(j:Int) by rw [hj,Int.ofNat_tmod]] at h
theorem ZzQ {k:Nat} {l:List Nd} {i:Nat} {x:Nd} (h:l[i]? =some x):(l.map (ZbE k))[i]? =some (ZbE k x):=by rw [Xm,h];rfl
set_option maxHeartbeats 4000000 in
theorem ZwA (c : Nat) (hk : c ≤ 1000) : ∀ t : Nd, okT t = true → szT t ≤ 1000 → AF Tryz.prog 36 [pTr t,pInt (c:Int)] (· =pTr (ZbE c t)):=Nd.ind fun o a l ih hok hs=>by
 have e0:pTr (.mk o a l)= .agg [pInt o,Zab a,Zag l]:=rfl
 rw [e0]
 obtain ⟨hr,hp⟩:=Zbf.1 hok
 have hsz:=Zf8 (.mk o a l)
 have hlz:=Zef l
 simp only [Nd.l,Nd.op] at hp hsz
 have hres:ZbE c (.mk o a l)= .mk o a (Zmm c o l):=Zmn c o a l
 have hML:(l.map (ZbE c)).length=l.length:=Xf _
 refine AF.of_body 61 Tryz.func36 rfl Tryz.ntmps36 (Xa rfl) ?_
 intro w0 M0 vs hl hv
 obtain ⟨v0,v1,rfl⟩:=Zbl hl
 obtain rfl:=hv 1 _ _ rfl rfl
 clear hl hv
 refine nav ?_
 (refine ζa ?_<;>refine ζH 2 3 fun h2=>?_<;>refine ζs [(.int .i64 0),(.string ByteArray.empty),(.slice none 0 0)] 3 4 ZjU fun h4=>?_<;>refine ζd ?_)
 (refine ζa ?_<;>refine xL 9 (ζh 2 Zhd) ?_<;>(refine yL 10 (ζq 2 ZmD) fun v10 h=>?_;cases h)<;>refine xL 11 (ζh 2 Zr1) ?_<;>(refine yL 12 (ζq 2 ZzO) fun v12 h=>?_;cases h)<;>refine xL 13 (ζB Zwz) ?_<;>refine ζs [(.int .i64 0),(.string ByteArray.empty),(.slice none 0 0)] 3 5 ZjU fun h5=>?_<;>refine ζt 5 ZcN ?_<;>refine ζd ?_)
 (refine ζa ?_<;>refine xL 14 (ζh 2 ZcO) ?_<;>(refine yL 15 (ζq 2 ZcW) fun v15 h=>?_;cases h)<;>refine xL 16 (ζU ZbL) (xL 17 ζb ?_)<;>refine ζd ?_)
 refine ζw (Zey (l:=5) [pInt o,Zab a, .own 24 3 0 []] rfl rfl (fun i p p' h1 h2=>by
  match i with
  |0=>cases h1;cases h2;exact .inl rfl
  |1=>cases h1;cases h2;exact .inl rfl
  |2=>cases h1;cases h2;exact .inr ⟨rfl,_,_,rfl⟩
  |i+3=>simp at h2)) fun _=>?_
 refine ζw (Zez (l:=5) (l':=1000) (j:=2) rfl rfl rfl rfl) fun i=>?_
 obtain ⟨v1000,ho1000⟩:=i
 dsimp only [List.set]
 refine ζy (ι:={q:Nat×Value//q.1≤l.length∧q.2.oneCell'=true}) (fun k=>⟨[(1,_,_),(2,_,_),(4,_,_),(5,_,_),(15,_,_),(16,_,_),(17, .int .i64 k.1.1,pInt k.1.1)],[(2,_,_),(4,_,_),(5,h5, .own 24 3 1 [pInt o,Zab a, .val k.1.2]),(1000,k.1.2, .own 24 3 ((l.map (ZbE c)).take k.1.1).length (ζ3 ((l.map (ZbE c)).take k.1.1)))]⟩) (fun k=>l.length-k.1.1) ⟨(0,v1000),Xe _,ho1000⟩ (fun a w H=>H.weaken ⟨rfl,rfl,rfl,rfl,rfl,rfl,rfl,trivial⟩ ⟨rfl,rfl,rfl,rfl,trivial⟩) ?_
 rintro ⟨⟨i,hO⟩,hi,hOo⟩
 dsimp only
 dsimp only at hi hOo
 have hOq:En.one (PV.val hO)=true:=hOo
 have hsl2:((l.map (ZbE c)).take i).length≤1000000:=by rw [Xu];omega
 have hcl2:(ζ3 ((l.map (ZbE c)).take i)).length=((l.map (ZbE c)).take i).length*3:=ZgO _
 refine nav ?_
 (refine ζa ?_<;>refine xL 18 ζK ?_<;>refine ζd ?_)
 (first|refine cCd ?_ ?_|refine cC ?_ ?_)<;>intro hb18
 · first
   |exact bN hb18
   | (
    obtain ⟨x,hx⟩:=ζm (show i<l.length by omega);have e1:((ζ3 l).drop (i*3)).take 3=[pInt x.op,Zab x.act,Zag x.l]:=ζ4 hx;have e2:=Zah hx;have hxm:=Xb hx;have hxs:=ZdT hxm;have hsn:=ζQ (ZzQ (k:=c) hx);(have hsl:((l.map (ZbE c)).take (i+1)).length=((l.map (ZbE c)).take i).length+1:=by rw [hsn,Xc];rfl);refine nav ?_;(refine ζa ?_<;>refine xL 19 (ζI ZbL) ?_<;>(refine yL 20 (ZaQ ZcN) fun v20 h=>?_;cases h)<;>refine ζs [(.int .i64 0),(.string ByteArray.empty),(.slice none 0 0)] 3 7 ZjU fun h7=>?_<;>refine ζt 7 ZcN ?_<;>refine ζd ?_)
    (refine ζY (fun i=>([8]:List Nat).elem i) [5,7] kR ?_<;>refine xD 0 21 rfl (ζh 5 ZcO) ?_<;>(refine yD 1 22 rfl (ζq 5 ZcW) fun v22 h=>?_;cases h)<;>(refine yD 2 23 rfl (ζk 7 ZcN) fun v23 h=>?_;cases h)<;>refine xE 3 24 rfl ζb ?_<;>(refine ζi 4 kR ?_)<;>(refine ZaM (d:=25) rfl (cA (Tryz.call36) (ih x hxm (hp x hxm) (by omega))) fun v25 h=>?_;cases h)<;>(refine ζi 5 kR ?_)<;>(refine ζf rfl fun w9 M9 N9 DQ back=>?_)<;>refine Zaw 26 ZhI fun h26 ho26=>?_<;>refine ζe (back _ (nrm ?_))<;>(refine ζi 6 kR ?_)<;>(refine ζf rfl fun w9 M9 N9 DQ back=>?_)<;>(refine ζ0 1000 26 27 ZhI fun h27 ho27=>?_;refine ζr (ζF (l:=27) 1000 rfl rfl) fun _=>?_;refine ζr (ζM (l:=1000) (p':= .own 24 3 ((l.map (ZbE c)).take (i+1)).length (ζ3 ((l.map (ZbE c)).take (i+1)))) rfl (Eq.trans (congrArg (PV.own 24 3 _) (show _=ζ3 ((l.map (ZbE c)).take i)++cN (ZbE c x) from rfl)) (by rw [Zjh,←hsn,hsl]))) fun _=>?_;have hq27:En.one (PV.val h27)=true:=ho27)<;>refine ζe (back _ (nrm ?_))<;>refine xE 7 28 rfl (ζh 5 ZcO) ?_<;>(refine ζi 8 kR ?_)<;>(refine Zil rfl rfl kR fun DQ back=>?_)<;>refine ZbQ 5 ZcW Zof ?_<;>refine ζe (back _ (nav ?_))<;>try dsimp only)
    (refine ζa ?_<;>refine xL 29 ζG (xL 17 ζb ?_)<;>refine ζd ?_)
    refine ζj (
     ⟨(i+1,h27),ζg hx,ho27⟩
     ) (by dsimp only;omega) ⟨rfl,rfl,rfl,rfl,rfl,rfl,rfl,trivial⟩ ⟨rfl,rfl,rfl,rfl,trivial⟩)
 · first
   |exact bN hb18
   | (
    have hall:(l.map (ZbE c)).take i=l.map (ZbE c):=Xo (by omega);refine ζw (ZaI (l:=5) (l':=1000) (j:=2) rfl rfl rfl rfl) fun _=>?_;rw [Zfu _ _ _ rfl];refine ζw (ζM (l:=5) (p':= .own 24 3 1 [pInt o,Zab a,Zag (l.map (ZbE c))]) rfl (by rw [hall];rfl)) fun _=>?_;have hN:0<l.length∧(o=4∨o=5)∨Zmm c o l=l.map (ZbE c):=by
     by_cases h1:0<l.length∧(o=4∨o=5)
     · exact .inl h1
     · refine .inr ?_;unfold Zmm;split
       · rename_i h2;have hl0:l=[]:=XO (by by_cases h3:0<l.length;exact absurd ⟨h3,h2⟩ h1;omega);rw [hl0];show ZyO c []=[];unfold ZyO;simp
       · rfl
    refine nav ?_;(refine ζa ?_<;>refine xL 30 (ζh 5 ZcO) ?_<;>(refine yL 31 (ζq 5 ZcW) fun v31 h=>?_;cases h)<;>refine xL 32 (ζU ZbL) (xL 8 ζc ?_)<;>refine ζd ?_)
    (refine ζa ?_ <;> refine xL 33 ζb (xL 34 ZaF (xL 35 ζb ?_)) <;> (refine bLd 35 (fun hb35=>?_) (fun hb35=>?_)<;>(first|refine kL 36 ?_|refine xL 36 (ζh 2 Zhd) ?_))<;>(first|refine kL 37 ?_|(refine yL 37 (ζq 2 ZmD) fun v37 h=>?_;cases h))<;>(first|refine kL 38 ?_|refine xL 38 ζ6 ?_)<;>(first|refine kL 39 ?_|refine xL 39 ζb ?_)<;>(first|refine kL 40 ?_|(refine bLd 39 (fun hb39=>?_) (fun hb39=>?_)<;>(first|refine kL 40 ?_|refine xL 40 (ζh 2 Zhd) ?_)))<;>(first|refine kL 41 ?_|(refine yL 41 (ζq 2 ZmD) fun v41 h=>?_;cases h))<;>(first|refine kL 42 ?_|refine xL 42 ζ6 ?_)<;>(first|refine kL 43 ?_|refine xL 43 ζJ ?_)<;>refine xL 44 ζJ ?_<;>refine ζd ?_)<;>(
     (first|refine cCd ?_ ?_|refine cC ?_ ?_)<;>intro hb44
     · first
       |exact bN hb44
       | (
        have ho:o=4∨o=5:=by first|exact .inl (by simpa using hb39)|exact .inr (by simpa using hb44)|exact .inr (by simpa using hb43)
        have hpos : 0 < l.length := by first | omega | (rw [← hML]; simpa using hb35) | (have h9:(0:Int)<((l.map (ZbE c)).length:Nat):=by simpa using hb35
                                                                                         omega)
        (have hX:Zmm c o l=(l.map (ZbE c)).drop (c % (l.map (ZbE c)).length)++(l.map (ZbE c)).take (c % (l.map (ZbE c)).length):=by unfold Zmm;rw [if_pos ho];rfl);rw [←hML] at hpos;rw [hres,hX];generalize l.map (ZbE c)=M at hpos hML;obtain ⟨j,hj⟩:∃j,j=c % M.length:=⟨_,rfl⟩;(have hjl:j≤M.length:=by rw [hj];exact VN (Nat.mod_lt _ hpos));rw [←hj];have hcl:(ζ3 M).length=M.length*3:=ZgO M;(have hfl:[M.drop j,M.take j].flatten.length≤1000000:=by simp only [V6,List.flatten_nil,Xc,Uf,Xu,Xz];omega);(have hfe:[M.drop j,M.take j].flatten=M.drop j++M.take j:=by simp);refine nav ?_;(refine ζY (fun i=>([15]:List Nat).elem i) [5] kR ?_<;>refine xD 0 45 rfl (ζh 5 ZcO) ?_<;>(refine yD 1 46 rfl (ζq 5 ZcW) fun v46 h=>?_;cases h)<;>refine xD 2 47 rfl ζb ?_<;>refine xD 3 48 rfl ζb ?_<;>refine xD 4 49 rfl (ZzP (c:=c) (n:=M.length) (j:=j) hpos hj) ?_<;>refine xD 5 50 rfl (Zfi (i:=j) (j:=M.length) ZbL rfl rfl rfl rfl hjl (Xd _) hcl) ?_<;>refine xD 6 51 rfl (ζh 5 ZcO) ?_<;>(refine yD 7 52 rfl (ζq 5 ZcW) fun v52 h=>?_;cases h)<;>refine xD 8 53 rfl ζb ?_<;>refine xE 9 54 rfl ζb ?_<;>refine xE 10 55 rfl (ZzP (c:=c) (n:=M.length) (j:=j) hpos hj) ?_<;>refine xE 11 56 rfl (Zfi (i:=0) (j:=j) ZbL rfl rfl rfl rfl (Xe _) hjl hcl) ?_<;>(refine ζi 12 kR ?_)<;>(refine ζf rfl fun w9 M9 N9 DQ back=>?_)<;>(refine ζr (Zbh (t:=50) (p':=Zag (M.drop j)) rfl (ZxJ hjl)) fun _=>?_;refine ζr (Zbh (t:=56) (p':=Zag (M.take j)) rfl (ZxI hjl)) fun _=>?_;refine Zja (xs:=[_,_]) 57 Ztr fun h57 ho57=>?_;refine ζr (En.freeze (l:=57) (t:=57) rfl rfl) fun _=>?_;refine ζr (Zbh (t:=57) (p':=ZCr [M.drop j,M.take j]) rfl rfl) fun _=>?_)<;>refine ζe (back _ (nrm ?_))<;>(refine ζi 13 kR ?_)<;>(refine ζf rfl fun w9 M9 N9 DQ back=>?_)<;>(refine cO 58 (cA (Tryz.call79) (Zpu [M.drop j,M.take j] hfl)) fun v58 ho58=>?_;refine ζr (En.freeze (l:=58) (t:=58) rfl rfl) fun _=>?_;rw [Zfu _ _ _ rfl,hfe])<;>refine ζe (back _ (nrm ?_))<;>refine xE 14 59 rfl (ζh 5 ZcO) ?_<;>(refine ζi 15 kR ?_)<;>(refine Zil rfl rfl kR fun DQ back=>?_)<;>refine ZbQ 5 ZcW Zof ?_<;>refine ζe (back _ (nav ?_))<;>try dsimp only)
        (refine ζa ?_<;>(refine yL 60 (ζk 5 ZcN) fun v60 h=>?_;cases h)<;>refine ζt 4 ZcN ?_<;>refine ζd ?_)
        exact ZbA (k:=3) 4 kR (Tryz.results36) rfl rfl (Xa rfl) (by decide) rfl rfl)
     · first
       |exact bN hb44
       | (
        have hX:Zmm c o l=l.map (ZbE c):=by
         rcases hN with ⟨h1,h2⟩|h
         · exfalso;(have h9:(0:Int)<((l.map (ZbE c)).length:Nat):=by rw [hML];omega);rcases h2 with h2|h2<;>first|(simp_all;done)|(simp_all;omega)
         · exact h
        rw [hres,hX];refine nav ?_;(refine ζa ?_<;>(refine yL 60 (ζk 5 ZcN) fun v60 h=>?_;cases h)<;>refine ζt 4 ZcN ?_<;>refine ζd ?_)
        exact ZbA (k:=3) 4 kR (Tryz.results36) rfl rfl (Xa rfl) (by decide) rfl rfl)))
end Go.Proofs.YtgfabnhpllkebaaGreatDoor
namespace Go.En
open Go.RowKit Go.Cb Go.ChangeShapes Go.WideShapes Go.ChangeAt
set_option linter.all false
section
variable {P:Program} {t:TypeId}
end
end Go.En
namespace Go.Proofs.YtgfabnhpllkebaaGreatDoor
open Go.RowKit Go.Cb Go.En Go.ChangeShapes Go.WideShapes Go.ChangeAt
set_option linter.all false
set_option maxRecDepth 100000
theorem ZzR (x:Nd):PV.sl 1 (cN x)=Zag [x]:=by unfold Zag;rw [ZaV];simp
end Go.Proofs.YtgfabnhpllkebaaGreatDoor
