/-
  Plain laws: the automaton of a tree has its language. No program in sight.
  Walks: process trees: which nodes are right, how many there are, which trees are valid, in the program and in the reference.
  The engine: a slot's value, read otherwise. No program in sight.
  Walks: process trees: comparing them, which are the same, which are great.
  Plain: sorting in place by swaps: insertion, merging by rotations. No program in sight.
  The engine: maps keyed by pairs of numbers. No program in sight.
  The engine: three values are handed back. No program in sight.
  The engine: a row of numbers is turned round by the library. No program in sight.
  Walks: process trees: the library's stable sort, at trees.
  Walks: process trees: the library's merge in place, at trees.
  The engine: a struct that lies in cells and two values are handed back. No program in sight.
  The engine: a struct is handed back beside what is owned. No program in sight.
  The engine: the end of an owned row as a slice of its own. No program in sight.
-/
import Derived.Lib.Bytealg
import Derived.Test.YtgfabnhpllkebaaGreatDoorPk06
import Derived.Test.YtgfabnhpllkebaaGreatDoorPk03
import Derived.Test.YtgfabnhpllkebaaGreatDoorPk05
import Derived.Test.YtgfabnhpllkebaaGreatDoorPk01
import Derived.Test.YtgfabnhpllkebaaGreatDoorPk02
namespace Go.Proofs.YtgfabnhpllkebaaGreatDoor
open Go.RowKit Go.Cb Go.En
set_option linter.all false
set_option maxRecDepth 100000
variable {acts:List ByteArray}
theorem ZCS {α:Type} {l:List α} (hn:l.Nodup) {x i:Nat} (hx:x<l.length) (hi:i<l.length) (e:l[x]'hx=l[i]'hi):x=i:=by
 have h:=VY.1 hn
 rcases Nat.lt_trichotomy x i with h1|h1|h1
 · exact absurd e (h x i hx hi h1)
 · exact h1
 · exact absurd e.symm (h i x hi hx h1)
theorem ZxC {a:ByteArray} (hn:acts.Nodup) (hm:acts.length≤40) (ha:a∈acts) {A:Aut} (h:Zjp (Zhz acts.length (idx (fun x=>ZdY x a) acts))= .ok A):Zjq acts A (fun w=>w=[a]):=fun w hw=>by
 obtain ⟨i,h2,h3,_⟩:=ZhV ha
 unfold Zdk at h2
 rw [h2] at h
 have hi:=(XF.1 h3).1
 have hok:Zas (Zhz acts.length (i:Nat))=true:=Zlm hm (by omega)
 rw [(ZiB h).2.2 w hw,Zk2 (ZbW hok).toAOk (ZoG hw)]
 have key:∀{s t:Int} {v:List Int},Pth (Zhz acts.length (i:Nat)) s v t→(s=t∧v=[])∨(s=0∧t=1∧v=[(i:Int)]):=fun h=>by
  induction h with
  |nil s=>exact .inl ⟨rfl,rfl⟩
  | eps hm hs _ _=>
    cases Xi.1 hm;dsimp only at hs;omega
  | sym hm hs _ ih=>
    cases Xi.1 hm;dsimp only at ih ⊢;rcases ih with ⟨h1,h2⟩|⟨h1,_⟩
    · exact .inr ⟨rfl,h1.symm,by rw [h2]⟩
    · omega
 constructor
 · rintro ⟨s,hs,f,hf,hp⟩
   cases Xi.1 hs
   cases Xi.1 hf;rcases key hp with ⟨h1,_⟩|⟨_,_,h1⟩
   · omega
   · unfold wI at h1;rw [List.map_eq_singleton_iff] at h1;obtain ⟨x,rfl,hx⟩:=h1;(obtain rfl:x=i:=by omega);show [(acts[x]?).getD ByteArray.empty]=[a];rw [h3];rfl
 · intro h;have h:w.map (fun i=>(acts[i]?).getD ByteArray.empty)=[a]:=h;rw [List.map_eq_singleton_iff] at h;obtain ⟨x,rfl,hx⟩:=h;have hxl:=hw x (Xi.2 rfl);rw [XE hxl] at hx;have e:acts[x]'hxl=acts[i]'hi:=by rw [(XF.1 h3).2];exact hx
   obtain rfl:x=i:=ZCS hn _ _ e;refine ⟨0,Xi.2 rfl,1,Xi.2 rfl,?_⟩;exact Pth.sym (a:=Zhz acts.length (x:Nat)) (m:=⟨0,1,(x:Nat)⟩) (Xi.2 rfl) (by dsimp only;omega) (.nil 1)
theorem ZAJ (hm:acts.length≤40) {A:Aut} (h:Zjp (Zuz acts.length)= .ok A):Zjq acts A (fun w=>w=[]):=fun w hw=>by
 have hok:Zas (Zuz acts.length)=true:=ZqE hm
 rw [(ZiB h).2.2 w hw,Zk2 (ZbW hok).toAOk (ZoG hw)]
 constructor
 · rintro ⟨s,hs,f,hf,hp⟩;have e:∀{s t:Int} {v:List Int},Pth (Zuz acts.length) s v t→v=[]:=fun h=>by
    cases h with
    |nil s=>rfl
    |eps hm _ _=>cases hm
    |sym hm _ _=>cases hm
   show w.map _=[];rw [VP.1 (e hp)];rfl
 · intro h;have:w=[]:=VP.1 h;subst this;exact ⟨0,Xi.2 rfl,0,Xi.2 rfl, .nil 0⟩
theorem ZAK {o:Int} (ho:o=3∨o=4∨o=5) (a:ByteArray) (P:Lg):opG o a [P]=P:=by
 rcases ho with rfl|rfl|rfl
 · exact Zlk P
 · exact funext fun w=>propext ⟨fun ⟨A,h1,h2⟩=>by cases Xi.1 h1;exact h2,fun h=>⟨P,Xi.2 rfl,h⟩⟩
 · exact and_one P
theorem ZxD {o:Int} (ho:o=3∨o=4∨o=5) (a:ByteArray) (m:List Lg) (Q:Lg):opG o a (m++[Q])=opB o (opG o a m) Q:=by
 rcases ho with rfl|rfl|rfl
 · show Zj4 (m++[Q])=_;rw [ZoD,Zlk];rfl
 · exact funext fun w=>propext ⟨fun ⟨A,h1,h2⟩=>(Xp.1 h1).elim (fun h=> .inl ⟨A,h,h2⟩) (fun h=>by cases Xi.1 h;exact .inr h2),fun h=>h.elim (fun ⟨A,h1,h2⟩=>⟨A,X5 _ h1,h2⟩) fun h=>⟨Q,X6 _ (Xi.2 rfl),h⟩⟩
 · show ZiN (m++[Q])=_;rw [ZoE,and_one];rfl
def Zzj (acts:List ByteArray) (r:Option Aut) (P:Lg):Prop:=∀A,r=some A→IsMin A∧A.syms=acts.length∧Zjq acts A P
theorem ZqF {o:Int} (ho:o=3∨o=4∨o=5∨o=6) {r p:Option Aut} {P Q:Lg} (hr:Zzj acts r P) (hp:Zzj acts p Q):Zzj acts (Zfw o r p) (opB o P Q):=by
 match r,p with
 | some a,some b=>
   obtain ⟨ha,hsa,hP⟩:=hr a rfl;obtain ⟨hb,hsb,hQ⟩:=hp b rfl;intro A hA;obtain ⟨h1,h2,h3⟩:=(ZiR o ha hb hsa hsb).ok hA;exact ⟨h2,h3,ZxB ho ha hb hsa hsb hP hQ h1⟩
 |none,_=>exact fun A hA=>by cases hA
 |some _,none=>exact fun A hA=>by cases hA
theorem ZqG {o:Int} (ho:o=3∨o=4∨o=5) (a:ByteArray):∀(l:List Nd) (f:Nd→Option Aut) (r:Option Aut) (m:List Lg),Zzj acts r (opG o a m)→(∀x∈l,Zzj acts (f x) (Zah x))→Zzj acts ((l.map f).foldl (Zfw o) r) (opG o a (m++l.map Zah))
 |[],f,r,m,h,_=>by rw [XY,XY,XA];exact h
 | x::l,f,r,m,h,h2=>by
   have:=ZqG ho a l f (Zfw o r (f x)) (m++[Zah x]) (by rw [ZxD ho];exact ZqF (by omega) h (h2 x (Xk ..))) fun y hy=>h2 y (Xj _ hy);rw [Xw] at this;exact this
theorem Zm6 {a:ByteArray} {l:List Nd} (h:rightT (.mk 6 a l)=true):∃x y,l=[x,y]:=by
 unfold rightT at h
 simp [Nd.op,Nd.l,Nd.act] at h
 match l,h with
 |[x,y],_=>exact ⟨x,y,rfl⟩
theorem ZqH {o:Int} (ho:o=3∨o=4∨o=5) {a:ByteArray} {l:List Nd} (h:rightT (.mk o a l)=true):∃x m,l=x::m:=by
 cases l with
 |nil=>rcases ho with rfl|rfl|rfl<;>simp [rightT,Nd.op,Nd.l] at h
 |cons x m=>exact ⟨x,m,rfl⟩
theorem ZxE (hn:acts.Nodup) (hm:acts.length≤40):∀t:Nd,okT t=true→(∀s∈Zdj t,s∈acts)→Zzj acts (bldT acts t) (Zah t):=Nd.ind fun o a l ih hok ha=>by
 obtain ⟨hr,hp⟩:=Zbt.1 hok
 have hops:=ZcA hr
 simp only [Nd.op,Nd.l] at hops hp
 have hpart:∀x∈l,o≠1→Zzj acts (bldT acts x) (Zah x):=fun x hx h1=>ih x hx (hp x hx) fun s hs=>ha s (by rw [Zdj,if_neg h1];exact Zbk.2 ⟨x,hx,hs⟩)
 by_cases h1:o=1
 · subst h1;intro A hA;have hmem:a∈acts:=ha a (by rw [Zdj,if_pos rfl];exact Xk ..);rw [bldT,if_pos rfl] at hA;obtain ⟨i,h2,h3,_⟩:=ZhV hmem;have hi:=(XF.1 h3).1;obtain ⟨k1,k2,k3⟩:=(Ze7 (m:=acts.length) (Zlm hm (by unfold Zdk at h2;rw [h2];omega)) rfl).ok hA;exact ⟨k2,k3,ZxC hn hm hmem k1⟩
 by_cases h2:o=2
 · subst h2;intro A hA;rw [bldT,if_neg (by decide),if_pos rfl] at hA;obtain ⟨k1,k2,k3⟩:=(Ze7 (m:=acts.length) (ZqE hm) rfl).ok hA;exact ⟨k2,k3,ZAJ hm k1⟩
 rw [Zzi acts o a l h1 h2,ZfM]
 by_cases h6:o=6
 · subst h6;obtain ⟨x,y,rfl⟩:=Zm6 hr;exact ZqF (o:=6) (by omega) (hpart x (by simp) h1) (hpart y (by simp) h1)
 · have ho:o=3∨o=4∨o=5:=by omega
   obtain ⟨x,m,rfl⟩:=ZqH ho hr;exact ZqG ho a m (bldT acts) (bldT acts x) [Zah x] (by rw [ZAK ho];exact hpart x (Xk ..) h1) fun y hy=>hpart y (Xj _ hy) h1
theorem ZbD:AggT Tryz.prog 24 3=true:=by kernel_rfl
theorem ZiU:FldT Tryz.prog 24 0 0=true:=by kernel_rfl
theorem Zaf:FldT Tryz.prog 24 1 1=true:=by kernel_rfl
theorem ZaG:FldT Tryz.prog 24 2 2=true:=by kernel_rfl
theorem Zbp:NoAgg Tryz.prog 22=true:=by kernel_rfl
theorem ZqI:NoAgg Tryz.prog 3=true:=by kernel_rfl
theorem Za4:NoAgg Tryz.prog 9=true:=by kernel_rfl
theorem Za8:SlT Tryz.prog 22 24 3=true:=by kernel_rfl
theorem ZuF:ZeroT Tryz.prog 24 (.agg #[(.int .i64 0),(.string ByteArray.empty),(.slice none 0 0)]):=by unfold ZeroT;kernel_rfl
mutual
def cTr:Nd→List PV
 | .mk o a l=>[pInt o,Za3 a, .sl l.length (ZaB l)]
def ZaB:List Nd→List PV
 |[]=>[]
 |x::l=>cTr x++ZaB l
end
def Zce (l:List Nd):PV:= .sl l.length (ZaB l)
def cN (t:Nd):List PV:=[pInt t.op,Za3 t.act,Zce t.l]
def pTr (t:Nd):PV:= .agg (cN t)
theorem ZiV (t:Nd):(cN t).length=3:=rfl
theorem Za9 (l:List Nd):ZaB l=l.flatMap cN:=by
 induction l with
 |nil=>rfl
 | cons x l ih=>
   rw [ZaB,ih,Xv];congr 1
   cases x;rfl
theorem ζ4 {l:List Nd} {k:Nat} {x:Nd} (h:l[k]? =some x):((ZaB l).drop (k*3)).take 3=cN x:=by rw [Za9];exact Zad ZiV l k x h
theorem Zak {l:List Nd} {k:Nat} {x:Nd} (h:l[k]? =some x):k*3+3≤(ZaB l).length:=by rw [Za9];exact ZaE ZiV h
inductive FitT:Nd→Prop
 |mk (t:Nd) (h1:t.l.length≤140737488355328) (h2:t.act.size≤140737488355328) (h3: -9223372036854775808≤t.op) (h4:t.op≤9223372036854775807) (h:∀x∈t.l,FitT x):FitT t
theorem FitT.len {t:Nd}:FitT t→t.l.length≤140737488355328
 | .mk _ h _ _ _ _=>h
theorem FitT.sz {t:Nd}:FitT t→t.act.size≤140737488355328
 | .mk _ _ h _ _ _=>h
theorem FitT.p {t:Nd}:FitT t→∀x∈t.l,FitT x
 | .mk _ _ _ _ _ h=>h
theorem ZoI (a:ByteArray):(a.toList==ByteArray.toList {data:= #[]})=decide (a=ByteArray.empty):=by
 rw [Vl,decide_eq_true_eq]
 exact Zcv (a:=a) (b:=ByteArray.empty)
section
variable {o:Int} {a:ByteArray} {l:List Nd}
theorem ZeJ:rightT (.mk o a l)=if o=1 then l.isEmpty&&ZcN a else if o=2 then l.isEmpty&&decide (a=ByteArray.empty) else if o=3∨o=4∨o=5 then !l.isEmpty&&decide (a=ByteArray.empty)
 else if o=6 then decide (l.length=2)&&decide (a=ByteArray.empty) else false:=rfl
theorem Zzk (h:o=1):rightT (.mk o a l)=(decide ((l.length:Int)=0)&&ZcN a):=by
 rw [ZeJ,if_pos h]
 congr 1
 cases l<;>simp<;>omega
theorem Zzl (h:o=2):rightT (.mk o a l)=(decide ((l.length:Int)=0)&&(a.toList==ByteArray.toList {data:= #[]})):=by
 rw [ZeJ,ZoI,if_neg (by omega),if_pos h]
 congr 1
 cases l<;>simp<;>omega
theorem Zj9 (h:o=3∨o=4∨o=5):rightT (.mk o a l)=(decide (1≤(l.length:Int))&&(a.toList==ByteArray.toList {data:= #[]})):=by
 rw [ZeJ,ZoI,if_neg (by omega),if_neg (by omega),if_pos h]
 congr 1
 cases l<;>simp<;>omega
theorem Zka (h:o=6):rightT (.mk o a l)=(decide ((l.length:Int)=2)&&(a.toList==ByteArray.toList {data:= #[]})):=by
 rw [ZeJ,ZoI,if_neg (by omega),if_neg (by omega),if_neg (by omega),if_pos h]
 congr 1
 rw [Vl,decide_eq_true_eq,decide_eq_true_eq];omega
theorem Zkb (h1:o≠1) (h2:o≠2) (h3:o≠3) (h4:o≠4) (h5:o≠5) (h6:o≠6):rightT (.mk o a l)=false:=by
 rw [ZeJ,if_neg h1,if_neg h2,if_neg (by omega),if_neg h6]
end
theorem Zdl {a b:Bool} (h:a=true):ζ7 b=ζ7 (a&&b):=by rw [h];rfl
theorem ZeK {a b:Bool} (h:a=false):ζ7 false=ζ7 (a&&b):=by rw [h];rfl
theorem ZcB {a b:Bool} (h:a=true):ζ7 b=ζ7 (b&&a):=by rw [h,XD]
theorem Zdm {a b:Bool} (h:a=false):ζ7 false=ζ7 (b&&a):=by rw [h,Bool.and_false]
theorem ZxF (t : Nd) (hf:FitT t):AF Tryz.prog 117 [pTr t] (· =ζ7 (rightT t)):=by
 obtain ⟨o,a,l⟩:=t
 have hl:=hf.len
 have ha:=hf.sz
 simp only [Nd.l,Nd.act] at hl ha
 refine AF.of_body 47 Tryz.func117 rfl Tryz.ntmps117 (Xa rfl) ?_
 intro w0 M0 vs hl hv
 obtain ⟨v0,rfl⟩:=ZcP hl
 clear hl hv
 have e0:pTr (.mk o a l)= .agg [pInt o,Za3 a, .sl l.length (ZaB l)]:=rfl
 rw [e0]
 refine nav ?_
 (refine ζa ?_<;>refine ζS 1 3 fun h1=>?_<;>refine xL 2 ζc ?_<;>refine ζd ?_)
 (refine ζa ?_<;>refine xL 4 (ζe 1 ZaG) ?_<;>(refine yL 5 (ζk 1 Zbp) fun v5 h=>?_;cases h)<;>refine xL 6 (ζ9 Za8) (xL 3 ζc ?_)<;>refine ζd ?_)
 (refine ζa ?_<;>refine xL 7 (ζe 1 ZiU) ?_<;>(refine yL 8 (ζk 1 ZqI) fun v8 h=>?_;cases h)<;>refine ζd ?_)
 (refine ζa ?_<;>refine xL 10 ζY (xL 9 ζc ?_)<;>refine ζd ?_)
 (first|refine cCd ?_ ?_|refine cC ?_ ?_)<;>intro hb9
 · first
   |exact bN hb9
   | (
    refine nav ?_;(refine ζa ?_<;>refine xL 11 ζb (xL 12 ζY (xL 13 ζb ?_))<;>(refine bLd 13 (fun hb13=>?_) (fun hb13=>?_)<;>(first|refine kL 14 ?_|refine xL 14 (ζe 1 Zaf) ?_))<;>(first|refine kL 15 ?_|(refine yL 15 (ζk 1 Za4) fun v15 h=>?_;cases h))<;>(first|refine kL 16 ?_|(refine cS 16 (cA Tryz.call103 (ZwN a (by omega))) fun v16 h=>?_;cases h))<;>refine xL 17 ζv (xL 2 ζc ?_)<;>refine ζd ?_)<;>(
     refine ζp (Tryz.results117) rfl ?_;rw [Zzk hb9]
     first
      |exact Zdl (decide_eq_true hb13)
      |exact ZeK (decide_eq_false hb13)))
 · first
   |exact bN hb9
   | (
    refine nav ?_;(refine ζa ?_<;>refine xL 19 ζY (xL 18 ζc ?_)<;>refine ζd ?_)
    (first|refine cCd ?_ ?_|refine cC ?_ ?_)<;>intro hb18
    · first
      |exact bN hb18
      | (
       refine nav ?_;(refine ζa ?_<;>refine xL 20 ζb (xL 21 ζY (xL 22 ζb ?_))<;>(refine bLd 22 (fun hb22=>?_) (fun hb22=>?_)<;>(first|refine kL 23 ?_|refine xL 23 (ζe 1 Zaf) ?_))<;>(first|refine kL 24 ?_|(refine yL 24 (ζk 1 Za4) fun v24 h=>?_;cases h))<;>(first|refine kL 25 ?_|refine xL 25 ZbI ?_)<;>refine xL 26 ζv (xL 2 ζc ?_)<;>refine ζd ?_)<;>(
        refine ζp (Tryz.results117) rfl ?_;rw [Zzl hb18]
        first
         |exact Zdl (decide_eq_true hb22)
         |exact ZeK (decide_eq_false hb22)))
    · first
      |exact bN hb18
      | (
       refine nav ?_;(refine ζa ?_<;>refine xL 28 ζY (xL 27 ζc ?_)<;>refine ζd ?_)
       (first|refine cCd ?_ ?_|refine cC ?_ ?_)<;>intro hb27
       · first
         |exact bN hb27
         | (
          refine nav ?_;(first|refine cCd ?_ ?_|refine cC ?_ ?_)<;>intro hb27
          · first
            |exact bN hb27
            | (
             refine nav ?_;(refine ζa ?_<;>refine xL 31 ζb (xL 32 Zcu (xL 33 ζb ?_))<;>(refine bLd 33 (fun hb33=>?_) (fun hb33=>?_)<;>(first|refine kL 34 ?_|refine xL 34 (ζe 1 Zaf) ?_))<;>(first|refine kL 35 ?_|(refine yL 35 (ζk 1 Za4) fun v35 h=>?_;cases h))<;>(first|refine kL 36 ?_|refine xL 36 ZbI ?_)<;>refine xL 37 ζv (xL 2 ζc ?_)<;>refine ζd ?_)<;>(
              refine ζp (Tryz.results117) rfl ?_;rw [Zj9 (by omega)]
              first
               |exact Zdl (decide_eq_true hb33)
               |exact ZeK (decide_eq_false hb33)))
          · first
            |exact bN hb27
            | (
             refine nav ?_;(refine ζa ?_<;>refine xL 39 ζY (xL 38 ζc ?_)<;>refine ζd ?_)
             (first|refine cCd ?_ ?_|refine cC ?_ ?_)<;>intro hb38
             · first
               |exact bN hb38
               | (
                refine nav ?_;(refine ζa ?_<;>refine xL 40 ζb (xL 41 ζY (xL 42 ζb ?_))<;>(refine bLd 42 (fun hb42=>?_) (fun hb42=>?_)<;>(first|refine kL 43 ?_|refine xL 43 (ζe 1 Zaf) ?_))<;>(first|refine kL 44 ?_|(refine yL 44 (ζk 1 Za4) fun v44 h=>?_;cases h))<;>(first|refine kL 45 ?_|refine xL 45 ZbI ?_)<;>refine xL 46 ζv (xL 2 ζc ?_)<;>refine ζd ?_)<;>(
                 refine ζp (Tryz.results117) rfl ?_;rw [Zka hb38]
                 first
                  |exact Zdl (decide_eq_true hb42)
                  |exact ZeK (decide_eq_false hb42)))
             · first
               |exact bN hb38
               | (
                refine nav ?_;(refine ζa ?_<;>refine xL 2 ζc ?_<;>refine ζd ?_)
                refine ζp (Tryz.results117) rfl ?_;rw [Zkb (by omega) (by omega) (by omega) (by omega) (by omega) (by omega)])))
       · first
         |exact bN hb27
         | (
          refine nav ?_;(refine ζa ?_<;>refine xL 29 ζY (xL 27 ζc ?_)<;>refine ζd ?_)
          (first|refine cCd ?_ ?_|refine cC ?_ ?_)<;>intro hb27
          · first
            |exact bN hb27
            | (
             refine nav ?_;(first|refine cCd ?_ ?_|refine cC ?_ ?_)<;>intro hb27
             · first
               |exact bN hb27
               | (
                refine nav ?_;(refine ζa ?_<;>refine xL 31 ζb (xL 32 Zcu (xL 33 ζb ?_))<;>(refine bLd 33 (fun hb33=>?_) (fun hb33=>?_)<;>(first|refine kL 34 ?_|refine xL 34 (ζe 1 Zaf) ?_))<;>(first|refine kL 35 ?_|(refine yL 35 (ζk 1 Za4) fun v35 h=>?_;cases h))<;>(first|refine kL 36 ?_|refine xL 36 ZbI ?_)<;>refine xL 37 ζv (xL 2 ζc ?_)<;>refine ζd ?_)<;>(
                 refine ζp (Tryz.results117) rfl ?_;rw [Zj9 (by omega)]
                 first
                  |exact Zdl (decide_eq_true hb33)
                  |exact ZeK (decide_eq_false hb33)))
             · first
               |exact bN hb27
               | (
                refine nav ?_;(refine ζa ?_<;>refine xL 39 ζY (xL 38 ζc ?_)<;>refine ζd ?_)
                (first|refine cCd ?_ ?_|refine cC ?_ ?_)<;>intro hb38
                · first
                  |exact bN hb38
                  | (
                   refine nav ?_;(refine ζa ?_<;>refine xL 40 ζb (xL 41 ζY (xL 42 ζb ?_))<;>(refine bLd 42 (fun hb42=>?_) (fun hb42=>?_)<;>(first|refine kL 43 ?_|refine xL 43 (ζe 1 Zaf) ?_))<;>(first|refine kL 44 ?_|(refine yL 44 (ζk 1 Za4) fun v44 h=>?_;cases h))<;>(first|refine kL 45 ?_|refine xL 45 ZbI ?_)<;>refine xL 46 ζv (xL 2 ζc ?_)<;>refine ζd ?_)<;>(
                    refine ζp (Tryz.results117) rfl ?_;rw [Zka hb38]
                    first
                     |exact Zdl (decide_eq_true hb42)
                     |exact ZeK (decide_eq_false hb42)))
                · first
                  |exact bN hb38
                  | (
                   refine nav ?_;(refine ζa ?_<;>refine xL 2 ζc ?_<;>refine ζd ?_)
                   refine ζp (Tryz.results117) rfl ?_;rw [Zkb (by omega) (by omega) (by omega) (by omega) (by omega) (by omega)])))
          · first
            |exact bN hb27
            | (
             refine nav ?_;(refine ζa ?_<;>refine xL 30 ζY (xL 27 ζc ?_)<;>refine ζd ?_)
             (first|refine cCd ?_ ?_|refine cC ?_ ?_)<;>intro hb27
             · first
               |exact bN hb27
               | (
                refine nav ?_;(refine ζa ?_<;>refine xL 31 ζb (xL 32 Zcu (xL 33 ζb ?_))<;>(refine bLd 33 (fun hb33=>?_) (fun hb33=>?_)<;>(first|refine kL 34 ?_|refine xL 34 (ζe 1 Zaf) ?_))<;>(first|refine kL 35 ?_|(refine yL 35 (ζk 1 Za4) fun v35 h=>?_;cases h))<;>(first|refine kL 36 ?_|refine xL 36 ZbI ?_)<;>refine xL 37 ζv (xL 2 ζc ?_)<;>refine ζd ?_)<;>(
                 refine ζp (Tryz.results117) rfl ?_;rw [Zj9 (by omega)]
                 first
                  |exact Zdl (decide_eq_true hb33)
                  |exact ZeK (decide_eq_false hb33)))
             · first
               |exact bN hb27
               | (
                refine nav ?_;(refine ζa ?_<;>refine xL 39 ζY (xL 38 ζc ?_)<;>refine ζd ?_)
                (first|refine cCd ?_ ?_|refine cC ?_ ?_)<;>intro hb38
                · first
                  |exact bN hb38
                  | (
                   refine nav ?_;(refine ζa ?_<;>refine xL 40 ζb (xL 41 ζY (xL 42 ζb ?_))<;>(refine bLd 42 (fun hb42=>?_) (fun hb42=>?_)<;>(first|refine kL 43 ?_|refine xL 43 (ζe 1 Zaf) ?_))<;>(first|refine kL 44 ?_|(refine yL 44 (ζk 1 Za4) fun v44 h=>?_;cases h))<;>(first|refine kL 45 ?_|refine xL 45 ZbI ?_)<;>refine xL 46 ζv (xL 2 ζc ?_)<;>refine ζd ?_)<;>(
                    refine ζp (Tryz.results117) rfl ?_;rw [Zka hb38]
                    first
                     |exact Zdl (decide_eq_true hb42)
                     |exact ZeK (decide_eq_false hb42)))
                · first
                  |exact bN hb38
                  | (
                   refine nav ?_;(refine ζa ?_<;>refine xL 2 ζc ?_<;>refine ζd ?_)
                   refine ζp (Tryz.results117) rfl ?_;rw [Zkb (by omega) (by omega) (by omega) (by omega) (by omega) (by omega)]))))))
theorem ZuG (t : Nd) (hf:FitT t):AF Tryz.prog 114 [pTr t] (· =ζ7 (rightT t)):=by
 obtain ⟨o,a,l⟩:=t
 have hl:=hf.len
 have ha:=hf.sz
 simp only [Nd.l,Nd.act] at hl ha
 refine AF.of_body 51 Tryz.func114 rfl Tryz.ntmps114 (Xa rfl) ?_
 intro w0 M0 vs hl hv
 obtain ⟨v0,rfl⟩:=ZcP hl
 clear hl hv
 have e0:pTr (.mk o a l)= .agg [pInt o,Za3 a, .sl l.length (ZaB l)]:=rfl
 rw [e0]
 refine nav ?_
 (refine ζa ?_<;>refine ζS 1 3 fun h1=>?_<;>refine xL 2 ζc ?_<;>refine ζd ?_)
 (refine ζa ?_<;>refine xL 3 (ζe 1 ZiU) ?_<;>(refine yL 4 (ζk 1 ZqI) fun v4 h=>?_;cases h)<;>refine ζd ?_)
 (refine ζa ?_<;>refine xL 6 ζY (xL 5 ζc ?_)<;>refine ζd ?_)
 (first|refine cCd ?_ ?_|refine cC ?_ ?_)<;>intro hb5
 · first
   |exact bN hb5
   | (
    refine nav ?_;(refine ζa ?_<;>refine xL 7 (ζe 1 Zaf) ?_<;>(refine yL 8 (ζk 1 Za4) fun v8 h=>?_;cases h)<;>(refine cS 9 (cA Tryz.call151 (Ztj a (by omega))) fun v9 h=>?_;cases h)<;>refine xL 10 ζb ?_<;>(refine bL 10 (fun hb10=>?_) (fun hb10=>?_)<;>(first|refine kL 11 ?_|refine xL 11 (ζe 1 ZaG) ?_))<;>(first|refine kL 12 ?_|(refine yL 12 (ζk 1 Zbp) fun v12 h=>?_;cases h))<;>(first|refine kL 13 ?_|refine xL 13 (ζ9 Za8) ?_)<;>(first|refine kL 14 ?_|refine xL 14 ζY ?_)<;>refine xL 15 ζv (xL 2 ζc ?_)<;>refine ζd ?_)<;>(
     refine ζp (Tryz.results114) rfl ?_;rw [Zzk hb5]
     first
      |exact ZcB hb10
      |exact Zdm hb10))
 · first
   |exact bN hb5
   | (
    refine nav ?_;(refine ζa ?_<;>refine xL 17 ζY (xL 16 ζc ?_)<;>refine ζd ?_)
    (first|refine cCd ?_ ?_|refine cC ?_ ?_)<;>intro hb16
    · first
      |exact bN hb16
      | (
       refine nav ?_;(refine ζa ?_<;>refine xL 18 (ζe 1 Zaf) ?_<;>(refine yL 19 (ζk 1 Za4) fun v19 h=>?_;cases h)<;>refine xL 20 ZbI (xL 21 ζb ?_)<;>(refine bL 21 (fun hb21=>?_) (fun hb21=>?_)<;>(first|refine kL 22 ?_|refine xL 22 (ζe 1 ZaG) ?_))<;>(first|refine kL 23 ?_|(refine yL 23 (ζk 1 Zbp) fun v23 h=>?_;cases h))<;>(first|refine kL 24 ?_|refine xL 24 (ζ9 Za8) ?_)<;>(first|refine kL 25 ?_|refine xL 25 ζY ?_)<;>refine xL 26 ζv (xL 2 ζc ?_)<;>refine ζd ?_)<;>(
        refine ζp (Tryz.results114) rfl ?_;rw [Zzl hb16]
        first
         |exact ZcB hb21
         |exact Zdm hb21))
    · first
      |exact bN hb16
      | (
       refine nav ?_;(refine ζa ?_<;>refine xL 28 ζY (xL 27 ζc ?_)<;>refine ζd ?_)
       (first|refine cCd ?_ ?_|refine cC ?_ ?_)<;>intro hb27
       · first
         |exact bN hb27
         | (
          refine nav ?_;(first|refine cCd ?_ ?_|refine cC ?_ ?_)<;>intro hb27
          · first
            |exact bN hb27
            | (
             refine nav ?_;(refine ζa ?_<;>refine xL 31 (ζe 1 Zaf) ?_<;>(refine yL 32 (ζk 1 Za4) fun v32 h=>?_;cases h)<;>refine xL 33 ZbI (xL 34 ζb ?_)<;>(refine bL 34 (fun hb34=>?_) (fun hb34=>?_)<;>(first|refine kL 35 ?_|refine xL 35 (ζe 1 ZaG) ?_))<;>(first|refine kL 36 ?_|(refine yL 36 (ζk 1 Zbp) fun v36 h=>?_;cases h))<;>(first|refine kL 37 ?_|refine xL 37 (ζ9 Za8) ?_)<;>(first|refine kL 38 ?_|refine xL 38 Zcu ?_)<;>refine xL 39 ζv (xL 2 ζc ?_)<;>refine ζd ?_)<;>(
              refine ζp (Tryz.results114) rfl ?_;rw [Zj9 (by omega)]
              first
               |exact ZcB hb34
               |exact Zdm hb34))
          · first
            |exact bN hb27
            | (
             refine nav ?_;(refine ζa ?_<;>refine xL 41 ζY (xL 40 ζc ?_)<;>refine ζd ?_)
             (first|refine cCd ?_ ?_|refine cC ?_ ?_)<;>intro hb40
             · first
               |exact bN hb40
               | (
                refine nav ?_;(refine ζa ?_<;>refine xL 42 (ζe 1 Zaf) ?_<;>(refine yL 43 (ζk 1 Za4) fun v43 h=>?_;cases h)<;>refine xL 44 ZbI (xL 45 ζb ?_)<;>(refine bL 45 (fun hb45=>?_) (fun hb45=>?_)<;>(first|refine kL 46 ?_|refine xL 46 (ζe 1 ZaG) ?_))<;>(first|refine kL 47 ?_|(refine yL 47 (ζk 1 Zbp) fun v47 h=>?_;cases h))<;>(first|refine kL 48 ?_|refine xL 48 (ζ9 Za8) ?_)<;>(first|refine kL 49 ?_|refine xL 49 ζY ?_)<;>refine xL 50 ζv (xL 2 ζc ?_)<;>refine ζd ?_)<;>(
                 refine ζp (Tryz.results114) rfl ?_;rw [Zka hb40]
                 first
                  |exact ZcB hb45
                  |exact Zdm hb45))
             · first
               |exact bN hb40
               | (
                refine nav ?_;(refine ζa ?_<;>refine xL 2 ζc ?_<;>refine ζd ?_)
                refine ζp (Tryz.results114) rfl ?_;rw [Zkb (by omega) (by omega) (by omega) (by omega) (by omega) (by omega)])))
       · first
         |exact bN hb27
         | (
          refine nav ?_;(refine ζa ?_<;>refine xL 29 ζY (xL 27 ζc ?_)<;>refine ζd ?_)
          (first|refine cCd ?_ ?_|refine cC ?_ ?_)<;>intro hb27
          · first
            |exact bN hb27
            | (
             refine nav ?_;(first|refine cCd ?_ ?_|refine cC ?_ ?_)<;>intro hb27
             · first
               |exact bN hb27
               | (
                refine nav ?_;(refine ζa ?_<;>refine xL 31 (ζe 1 Zaf) ?_<;>(refine yL 32 (ζk 1 Za4) fun v32 h=>?_;cases h)<;>refine xL 33 ZbI (xL 34 ζb ?_)<;>(refine bL 34 (fun hb34=>?_) (fun hb34=>?_)<;>(first|refine kL 35 ?_|refine xL 35 (ζe 1 ZaG) ?_))<;>(first|refine kL 36 ?_|(refine yL 36 (ζk 1 Zbp) fun v36 h=>?_;cases h))<;>(first|refine kL 37 ?_|refine xL 37 (ζ9 Za8) ?_)<;>(first|refine kL 38 ?_|refine xL 38 Zcu ?_)<;>refine xL 39 ζv (xL 2 ζc ?_)<;>refine ζd ?_)<;>(
                 refine ζp (Tryz.results114) rfl ?_;rw [Zj9 (by omega)]
                 first
                  |exact ZcB hb34
                  |exact Zdm hb34))
             · first
               |exact bN hb27
               | (
                refine nav ?_;(refine ζa ?_<;>refine xL 41 ζY (xL 40 ζc ?_)<;>refine ζd ?_)
                (first|refine cCd ?_ ?_|refine cC ?_ ?_)<;>intro hb40
                · first
                  |exact bN hb40
                  | (
                   refine nav ?_;(refine ζa ?_<;>refine xL 42 (ζe 1 Zaf) ?_<;>(refine yL 43 (ζk 1 Za4) fun v43 h=>?_;cases h)<;>refine xL 44 ZbI (xL 45 ζb ?_)<;>(refine bL 45 (fun hb45=>?_) (fun hb45=>?_)<;>(first|refine kL 46 ?_|refine xL 46 (ζe 1 ZaG) ?_))<;>(first|refine kL 47 ?_|(refine yL 47 (ζk 1 Zbp) fun v47 h=>?_;cases h))<;>(first|refine kL 48 ?_|refine xL 48 (ζ9 Za8) ?_)<;>(first|refine kL 49 ?_|refine xL 49 ζY ?_)<;>refine xL 50 ζv (xL 2 ζc ?_)<;>refine ζd ?_)<;>(
                    refine ζp (Tryz.results114) rfl ?_;rw [Zka hb40]
                    first
                     |exact ZcB hb45
                     |exact Zdm hb45))
                · first
                  |exact bN hb40
                  | (
                   refine nav ?_;(refine ζa ?_<;>refine xL 2 ζc ?_<;>refine ζd ?_)
                   refine ζp (Tryz.results114) rfl ?_;rw [Zkb (by omega) (by omega) (by omega) (by omega) (by omega) (by omega)])))
          · first
            |exact bN hb27
            | (
             refine nav ?_;(refine ζa ?_<;>refine xL 30 ζY (xL 27 ζc ?_)<;>refine ζd ?_)
             (first|refine cCd ?_ ?_|refine cC ?_ ?_)<;>intro hb27
             · first
               |exact bN hb27
               | (
                refine nav ?_;(refine ζa ?_<;>refine xL 31 (ζe 1 Zaf) ?_<;>(refine yL 32 (ζk 1 Za4) fun v32 h=>?_;cases h)<;>refine xL 33 ZbI (xL 34 ζb ?_)<;>(refine bL 34 (fun hb34=>?_) (fun hb34=>?_)<;>(first|refine kL 35 ?_|refine xL 35 (ζe 1 ZaG) ?_))<;>(first|refine kL 36 ?_|(refine yL 36 (ζk 1 Zbp) fun v36 h=>?_;cases h))<;>(first|refine kL 37 ?_|refine xL 37 (ζ9 Za8) ?_)<;>(first|refine kL 38 ?_|refine xL 38 Zcu ?_)<;>refine xL 39 ζv (xL 2 ζc ?_)<;>refine ζd ?_)<;>(
                 refine ζp (Tryz.results114) rfl ?_;rw [Zj9 (by omega)]
                 first
                  |exact ZcB hb34
                  |exact Zdm hb34))
             · first
               |exact bN hb27
               | (
                refine nav ?_;(refine ζa ?_<;>refine xL 41 ζY (xL 40 ζc ?_)<;>refine ζd ?_)
                (first|refine cCd ?_ ?_|refine cC ?_ ?_)<;>intro hb40
                · first
                  |exact bN hb40
                  | (
                   refine nav ?_;(refine ζa ?_<;>refine xL 42 (ζe 1 Zaf) ?_<;>(refine yL 43 (ζk 1 Za4) fun v43 h=>?_;cases h)<;>refine xL 44 ZbI (xL 45 ζb ?_)<;>(refine bL 45 (fun hb45=>?_) (fun hb45=>?_)<;>(first|refine kL 46 ?_|refine xL 46 (ζe 1 ZaG) ?_))<;>(first|refine kL 47 ?_|(refine yL 47 (ζk 1 Zbp) fun v47 h=>?_;cases h))<;>(first|refine kL 48 ?_|refine xL 48 (ζ9 Za8) ?_)<;>(first|refine kL 49 ?_|refine xL 49 ζY ?_)<;>refine xL 50 ζv (xL 2 ζc ?_)<;>refine ζd ?_)<;>(
                    refine ζp (Tryz.results114) rfl ?_;rw [Zka hb40]
                    first
                     |exact ZcB hb45
                     |exact Zdm hb45))
                · first
                  |exact bN hb40
                  | (
                   refine nav ?_;(refine ζa ?_<;>refine xL 2 ζc ?_<;>refine ζd ?_)
                   refine ζp (Tryz.results114) rfl ?_;rw [Zkb (by omega) (by omega) (by omega) (by omega) (by omega) (by omega)]))))))
theorem Zkc : ∀(t:Nd),FitT t→∀(most d:Int),-4611686018427387904≤most→most≤4611686018427387904→-4611686018427387904≤d→d≤4611686018427387904→AF Tryz.prog 73 [pTr t,pInt most,pInt d] (· = .tup [pInt (if Zf8 t most d=true then (szT t:Int) else 0),ζ7 (Zf8 t most d)]):=Nd.ind fun o a l ih hf most d hm1 hm2 hd1 hd2=>by
 have hl:=hf.len
 have hp:=hf.p
 simp only [Nd.l] at hl hp
 refine AF.of_body 48 Tryz.func73 rfl Tryz.ntmps73 (Xa rfl) ?_
 intro w0 M0 vs hl hv
 obtain ⟨v0,v1,v2,rfl⟩:=ZCn hl
 obtain rfl:=hv 1 _ _ rfl rfl
 obtain rfl:=hv 2 _ _ rfl rfl
 clear hl hv
 have e0:pTr (.mk o a l)= .agg [pInt o,Za3 a, .sl l.length (ZaB l)]:=rfl
 rw [e0]
 refine nav ?_
 (refine ζa ?_<;>refine ζS 3 3 fun h3=>?_<;>refine xL 6 ζc (xL 7 ζc ?_)<;>refine ζd ?_)
 (refine ζa ?_<;>refine xL 13 ζb (xL 14 ζP (xL 15 ζb ?_))<;>(refine bLd 15 (fun hb15=>?_) (fun hb15=>?_)<;>(first|refine kL 16 ?_|refine xL 16 ζb ?_))<;>(first|refine kL 17 ?_|refine xL 17 ZaQ ?_)<;>refine xL 18 ζv (xL 19 ζb ?_)<;>(first|refine kL 20 ?_|(refine bLd 19 (fun hb19=>?_) (fun hb19=>?_)<;>(first|refine kL 20 ?_|(refine yL 20 (ζm 3 ZbD) fun v20 h=>?_;cases h))))<;>(first|refine kL 21 ?_|(refine cS 21 (cA Tryz.call117 (ZxF (.mk o a l) hf)) fun v21 h=>?_;cases h))<;>(first|refine kL 22 ?_|refine xL 22 Zaw ?_)<;>refine xL 23 ζv ?_<;>refine ζd ?_)<;>(
  (first|refine cCd ?_ ?_|refine cC ?_ ?_)<;>intro hb23
  · first
    |exact bN hb23
    | (
     refine nav ?_;(refine ζa ?_<;>refine xL 6 ζc (xL 7 ζc ?_)<;>refine ζd ?_)
     refine Zcs (Tryz.results73) rfl rfl ?_;rw [Zzf (by first|exact .inl (by omega)|exact .inr (.inl (by omega))|exact .inr (.inr (by simpa using hb23)))];rfl)
  · first
    |exact bN hb23
    | (
     (have hrt:rightT (.mk o a l)=true:=by simpa using hb23);refine nav ?_;(refine ζa ?_<;>refine xL 8 ζc ?_<;>refine ζd ?_)
     (refine ζa ?_<;>refine xL 24 (ζe 3 ZaG) ?_<;>(refine yL 25 (ζk 3 Zbp) fun v25 h=>?_;cases h)<;>refine xL 26 (ζ9 Za8) (xL 27 ζb ?_)<;>refine ζd ?_)
     refine ζD (ι:={k:Nat//k≤l.length∧((1+szL (l.take k):Nat):Int)≤most∧∀j x,j<k→l[j]? =some x→Zf8 x (most-((1+szL (l.take j):Nat):Int)) (d+1)=true}) (fun k=>⟨[(1,_,_),(2,_,_),(25,_,_),(26,_,_),(27, .int .i64 k.1,pInt k.1),(8, .int .i64 ((1+szL (l.take k.1):Nat):Int),pInt ((1+szL (l.take k.1):Nat):Int))],[(3,_,_)]⟩) (fun k=>l.length-k.1) ⟨0,by omega,by simp [szL];omega,by omega⟩ (fun a w H=>H.weaken ⟨rfl,rfl,rfl,rfl,rfl,rfl,trivial⟩ ⟨rfl,trivial⟩) ?_;rintro ⟨k,hk,hsz,hp2⟩;dsimp only;refine nav ?_;(refine ζa ?_<;>refine xL 28 ζP ?_<;>refine ζd ?_)
     (first|refine cCd ?_ ?_|refine cC ?_ ?_)<;>intro hb28
     · first
       |exact bN hb28
       | (
        obtain ⟨x,hx⟩:=ζo (show k<l.length by omega);have hxm:=Xg hx;have e1:=ζ4 hx;have e2:=Zak hx;refine nav ?_;(refine ζa ?_<;>refine xL 29 (ζW Za8) ?_<;>(refine yL 30 (Zby ZbD) fun v30 h=>?_;cases h)<;>refine ζs [(.int .i64 0),(.string ByteArray.empty),(.slice none 0 0)] 3 10 ZuF fun h10=>?_<;>refine ζt 10 ZbD ?_<;>refine ζd ?_)
        (refine ζa ?_<;>(refine yL 32 (ζm 10 ZbD) fun v32 h=>?_;cases h)<;>refine xL 33 ζb (xL 34 ζb (xL 35 ZgB (xL 36 ζb (xL 37 ζM ?_))))<;>(refine cP 38 (cA Tryz.call73 (ih x hxm (hp x hxm) (most-((1+szL (l.take k):Nat):Int)) (d+1) (by omega) (by omega) (by omega) (by omega))) fun va38 vb38 hva38 hvb38=>?_;cases hva38;cases hvb38)<;>refine xL 31 ζb (xL 39 ζl (xL 40 ζl (xL 11 ζc (xL 12 ζc ?_))))<;>refine ζd ?_)
        (refine ζa ?_<;>refine xL 41 ζb (xL 42 Zaw ?_)<;>refine ζd ?_)
        (first|refine cCd ?_ ?_|refine cC ?_ ?_)<;>intro hb42
        · first
          |exact bN hb42
          | (
           refine nav ?_;(refine ζa ?_<;>refine xL 6 ζc (xL 7 ζc ?_)<;>refine ζd ?_)
           refine Zcs (Tryz.results73) rfl rfl ?_;rw [Zqx (t:= .mk o a l) hx (by simpa [Nd.l] using hb42)];rfl)
        · first
          |exact bN hb42
          | (
           (have hmx:Zf8 x (most-((1+szL (l.take k):Nat):Int)) (d+1)=true:=by simpa using hb42);have hsn:=ZhT hx;have hbd:(szT x:Int)≤most-((1+szL (l.take k):Nat):Int):=by
            have:=hmx;unfold Zf8 at this;simp only [Xe,decide_eq_true_eq] at this;exact this.1.2
           (have hn2:((1+szL (l.take k):Nat):Int)+(szT x:Int)=((1+szL (l.take (k+1)):Nat):Int):=by omega);rw [if_pos hmx];refine nav ?_;(refine ζa ?_<;>refine xL 43 ζb (xL 44 ζb ?_)<;>(refine xL 45 ζM ?_;rw [hn2])<;>refine xL 8 ζc ?_<;>refine ζd ?_)
           (refine ζa ?_<;>refine xL 46 ζM (xL 27 ζb ?_)<;>refine ζd ?_)
           refine ζh (
            ⟨k+1,by omega,by omega,fun j y hj hy=>by
             by_cases e:j=k
             · subst e;rw [hx] at hy;cases hy;exact hmx
             · exact hp2 j y (by omega) hy⟩
            ) (by dsimp only;omega) ⟨rfl,rfl,rfl,rfl,rfl,rfl,trivial⟩ ⟨rfl,trivial⟩))
     · first
       |exact bN hb28
       | (
        refine nav ?_;(refine ζa ?_<;>refine xL 47 ζb (xL 6 ζc (xL 7 ζc ?_))<;>refine ζd ?_)
        refine Zcs (Tryz.results73) rfl rfl ?_;(have hkl:k=l.length:=by omega);subst hkl;rw [Zur (t:= .mk o a l) hrt (by omega) (by omega) fun j x hx=>hp2 j x (ζi hx) hx];rw [Xn (Xb _),if_pos rfl,szT])))
theorem Zgc (t:Nd) (hf:FitT t):AF Tryz.prog 24 [pTr t] (· =ζ7 (Zen t)):=by
 refine AF.of_body 11 Tryz.func24 rfl Tryz.ntmps24 (Xa rfl) ?_
 intro w0 M0 vs hl hv
 obtain ⟨v0,rfl⟩:=ZcP hl
 clear hl hv
 have e0:pTr t= .agg [pInt t.op,Za3 t.act,Zce t.l]:=rfl
 rw [e0]
 refine nav ?_
 (refine ζa ?_<;>refine ζS 1 3 fun h1=>?_<;>refine xL 2 ζc ?_<;>refine ζd ?_)
 (refine ζa ?_<;>(refine yL 6 (ζm 1 ZbD) fun v6 h=>?_;cases h)<;>(refine cP 7 (cA Tryz.call73 (Zkc t hf 400 1 (by omega) (by omega) (by omega) (by omega))) fun va7 vb7 hva7 hvb7=>?_;cases hva7;cases hvb7)<;>refine xL 5 ζb (xL 8 ζl (xL 9 ζl (xL 3 ζc (xL 4 ζc ?_))))<;>refine ζd ?_)
 (refine ζa ?_<;>refine xL 10 ζb (xL 2 ζc ?_)<;>refine ζd ?_)
 exact ζp Tryz.results24 rfl rfl
theorem ZAL (t:Nd) (hf:FitT t):AF Tryz.prog 82 [pTr t] (· =pInt (if Zen t=true then (szT t:Int) else 0)):=by
 refine AF.of_body 11 Tryz.func82 rfl Tryz.ntmps82 (Xa rfl) ?_
 intro w0 M0 vs hl hv
 obtain ⟨v0,rfl⟩:=ZcP hl
 clear hl hv
 have e0:pTr t= .agg [pInt t.op,Za3 t.act,Zce t.l]:=rfl
 rw [e0]
 refine nav ?_
 (refine ζa ?_<;>refine ζS 1 3 fun h1=>?_<;>refine xL 2 ζc ?_<;>refine ζd ?_)
 (refine ζa ?_<;>(refine yL 6 (ζm 1 ZbD) fun v6 h=>?_;cases h)<;>(refine cP 7 (cA Tryz.call73 (Zkc t hf 400 1 (by omega) (by omega) (by omega) (by omega))) fun va7 vb7 hva7 hvb7=>?_;cases hva7;cases hvb7)<;>refine xL 5 ζb (xL 8 ζl (xL 9 ζl (xL 3 ζc (xL 4 ζc ?_))))<;>refine ζd ?_)
 (refine ζa ?_<;>refine xL 10 ζb (xL 2 ζc ?_)<;>refine ζd ?_)
 exact ζp Tryz.results82 rfl rfl
theorem ZuH {t:Nd} {most d:Int} (h:Zf8 t most d=true):(szT t:Int)≤most:=by
 unfold Zf8 at h
 simp only [Xe,decide_eq_true_eq] at h
 exact h.1.2
def ZxG (t:Nd) (d left:Int):Int:=if Zf8 t left d=true then left-(szT t:Int) else-1
theorem ZuI : ∀(t:Nd),FitT t→∀(d left:Int),-4611686018427387904≤left→left≤4611686018427387904→-4611686018427387904≤d→d≤4611686018427387904→AF Tryz.prog 69 [pTr t,pInt d,pInt left] (· =pInt (ZxG t d left)):=Nd.ind fun o a l ih hf d left hm1 hm2 hd1 hd2=>by
 have hl:=hf.len
 have hp:=hf.p
 simp only [Nd.l] at hl hp
 refine AF.of_body 41 Tryz.func69 rfl Tryz.ntmps69 (Xa rfl) ?_
 intro w0 M0 vs hl hv
 obtain ⟨v0,v1,v2,rfl⟩:=ZCn hl
 obtain rfl:=hv 1 _ _ rfl rfl
 obtain rfl:=hv 2 _ _ rfl rfl
 clear hl hv
 have e0:pTr (.mk o a l)= .agg [pInt o,Za3 a, .sl l.length (ZaB l)]:=rfl
 rw [e0]
 refine nav ?_
 (refine ζa ?_<;>refine ζS 3 3 fun h3=>?_<;>refine xL 6 ζc ?_<;>refine ζd ?_)
 (refine ζa ?_<;>refine xL 8 ζb (xL 9 ZgA (xL 10 ζb ?_))<;>(refine bLd 10 (fun hb10=>?_) (fun hb10=>?_)<;>(first|refine kL 11 ?_|refine xL 11 ζb ?_))<;>(first|refine kL 12 ?_|refine xL 12 ZaQ ?_)<;>refine xL 13 ζv (xL 14 ζb ?_)<;>(first|refine kL 15 ?_|(refine bLd 14 (fun hb14=>?_) (fun hb14=>?_)<;>(first|refine kL 15 ?_|(refine yL 15 (ζm 3 ZbD) fun v15 h=>?_;cases h))))<;>(first|refine kL 16 ?_|(refine cS 16 (cA Tryz.call114 (ZuG (.mk o a l) hf)) fun v16 h=>?_;cases h))<;>(first|refine kL 17 ?_|refine xL 17 Zaw ?_)<;>refine xL 18 ζv ?_<;>refine ζd ?_)<;>(
  (first|refine cCd ?_ ?_|refine cC ?_ ?_)<;>intro hb18
  · first
    |exact bN hb18
    | (
     refine nav ?_;(refine ζa ?_<;>refine xL 6 ζc ?_<;>refine ζd ?_)
     refine ζp (Tryz.results69) rfl ?_;unfold ZxG;rw [Zzf (by first|exact .inl (by omega)|exact .inr (.inl (by omega))|exact .inr (.inr (by simpa using hb18)))];rfl)
  · first
    |exact bN hb18
    | (
     (have hrt:rightT (.mk o a l)=true:=by simpa using hb18);(have hc0:left-1=left-((1+szL (l.take 0):Nat):Int):=by simp [szL]);refine nav ?_;(refine ζa ?_<;>refine xL 19 ζb ?_<;>(refine xL 20 ZgB ?_;rw [hc0])<;>refine xL 2 ζc ?_<;>refine ζd ?_)
     (refine ζa ?_<;>refine xL 7 ζc ?_<;>refine ζd ?_)
     refine ζD (ι:={k:Nat//k≤l.length∧((1+szL (l.take k):Nat):Int)≤left∧∀j x,j<k→l[j]? =some x→Zf8 x (left-((1+szL (l.take j):Nat):Int)) (d+1)=true}) (fun k=>⟨[(1,_,_),(3,_,_),(7, .int .i64 k.1,pInt k.1),(2, .int .i64 (left-((1+szL (l.take k.1):Nat):Int)),pInt (left-((1+szL (l.take k.1):Nat):Int)))],[(3,_,_)]⟩) (fun k=>l.length-k.1) ⟨0,by omega,by simp [szL];omega,by omega⟩ (fun a w H=>H.weaken ⟨rfl,rfl,rfl,rfl,trivial⟩ ⟨rfl,trivial⟩) ?_;rintro ⟨k,hk,hsz,hp2⟩;dsimp only;refine nav ?_;(refine ζa ?_<;>refine xL 21 ζb (xL 22 (ζe 3 ZaG) ?_)<;>(refine yL 23 (ζk 3 Zbp) fun v23 h=>?_;cases h)<;>refine xL 24 (ζ9 Za8) (xL 25 ζP ?_)<;>refine ζd ?_)
     (first|refine cCd ?_ ?_|refine cC ?_ ?_)<;>intro hb25
     · first
       |exact bN hb25
       | (
        obtain ⟨x,hx⟩:=ζo (show k<l.length by omega);have hxm:=Xg hx;have e1:=ζ4 hx;have e2:=Zak hx;refine nav ?_;(refine ζa ?_<;>refine xL 28 (ζe 3 ZaG) ?_<;>(refine yL 29 (ζk 3 Zbp) fun v29 h=>?_;cases h)<;>refine xL 30 ζb (xL 31 (ζW Za8) ?_)<;>(refine yL 32 (Zby ZbD) fun v32 h=>?_;cases h)<;>refine xL 33 ζb (xL 34 ζM (xL 35 ζb ?_))<;>(refine cS 36 (cA Tryz.call69 (ih x hxm (hp x hxm) (d+1) (left-((1+szL (l.take k):Nat):Int)) (by omega) (by omega) (by omega) (by omega))) fun v36 h=>?_;cases h)<;>refine xL 2 ζc ?_<;>refine ζd ?_)
        have hcx:ZxG x (d+1) (left-((1+szL (l.take k):Nat):Int))<0↔Zf8 x (left-((1+szL (l.take k):Nat):Int)) (d+1)=false:=by
         unfold ZxG
         cases hmx:Zf8 x (left-((1+szL (l.take k):Nat):Int)) (d+1) with
         |true=>have:=ZuH hmx;simp;omega
         |false=>simp
        (refine ζa ?_<;>refine xL 37 ζb (xL 38 ζP ?_)<;>refine ζd ?_)
        (first|refine cCd ?_ ?_|refine cC ?_ ?_)<;>intro hb38
        · first
          |exact bN hb38
          | (
           refine nav ?_;(refine ζa ?_<;>refine xL 39 ζb (xL 6 ζc ?_)<;>refine ζd ?_)
           refine ζp (Tryz.results69) rfl ?_;have hmx:=hcx.1 hb38;unfold ZxG;rw [Zqx (t:= .mk o a l) hx hmx,hmx];rfl)
        · first
          |exact bN hb38
          | (
           have hmx:Zf8 x (left-((1+szL (l.take k):Nat):Int)) (d+1)=true:=by
            cases h:Zf8 x (left-((1+szL (l.take k):Nat):Int)) (d+1) with
            |true=>rfl
            |false=>exact absurd (hcx.2 h) hb38
           have hsn:=ZhT hx;have hbd:=ZuH hmx;have hn2:ZxG x (d+1) (left-((1+szL (l.take k):Nat):Int))=left-((1+szL (l.take (k+1)):Nat):Int):=by
            unfold ZxG;rw [if_pos hmx];omega
           rw [hn2];refine nav ?_;(refine ζa ?_<;>refine xL 26 ζb (xL 27 ζM (xL 7 ζc ?_))<;>refine ζd ?_)
           refine ζh (
            ⟨k+1,by omega,by omega,fun j y hj hy=>by
             by_cases e:j=k
             · subst e;rw [hx] at hy;cases hy;exact hmx
             · exact hp2 j y (by omega) hy⟩
            ) (by dsimp only;omega) ⟨rfl,rfl,rfl,rfl,trivial⟩ ⟨rfl,trivial⟩))
     · first
       |exact bN hb25
       | (
        refine nav ?_;(refine ζa ?_<;>refine xL 40 ζb (xL 6 ζc ?_)<;>refine ζd ?_)
        refine ζp (Tryz.results69) rfl ?_;(have hkl:k=l.length:=by omega);subst hkl;unfold ZxG;rw [Zur (t:= .mk o a l) hrt (by omega) (by omega) fun j x hx=>hp2 j x (ζi hx) hx];rw [Xn (Xb _),if_pos rfl,szT])))
theorem Zm7 (t:Nd) (hf:FitT t):AF Tryz.prog 20 [pTr t] (· =ζ7 (Zen t)):=by
 refine AF.of_body 6 Tryz.func20 rfl Tryz.ntmps20 (Xa rfl) ?_
 intro w0 M0 vs hl hv
 obtain ⟨v0,rfl⟩:=ZcP hl
 clear hl hv
 have e0:pTr t= .agg [pInt t.op,Za3 t.act,Zce t.l]:=rfl
 rw [e0]
 refine nav ?_
 (refine ζa ?_<;>refine ζS 1 3 fun h1=>?_<;>refine xL 2 ζc ?_<;>refine ζd ?_)
 (refine ζa ?_<;>(refine yL 3 (ζm 1 ZbD) fun v3 h=>?_;cases h)<;>(refine cS 4 (cA Tryz.call69 (ZuI t hf 1 400 (by omega) (by omega) (by omega) (by omega))) fun v4 h=>?_;cases h)<;>refine xL 5 Zcu (xL 2 ζc ?_)<;>refine ζd ?_)
 refine ζp (Tryz.results20) rfl (Zd1 ?_)
 rw [decide_eq_true_eq]
 unfold ZxG Zen
 cases h:Zf8 t 400 1 with
 |true=>have:=ZuH h;simp;omega
 |false=>simp
end Go.Proofs.YtgfabnhpllkebaaGreatDoor
namespace Go.En
open Go.RowKit Go.Cb
set_option linter.all false
theorem Zc9 {sL hP:List (Nat×Ent)} {t:Nat} {v:Value} {p p':PV} (hl:lk sL t=some (v,p)) (hr:Rr p p'):ZlY (⟨sL,hP⟩:St) (fun _:Unit=>⟨put t (v,p') sL,hP⟩):=fun c a w ⟨F,H⟩=>by
 refine ⟨(),F,H.toHeapF,fun s u r hs=>?_,H.size,H.df⟩
 rcases Zag hs with ⟨rfl,e1⟩|⟨_,hs'⟩
 · cases e1;exact ⟨(H.sl t _ _ hl).1,hr _ _ _ (H.sl t _ _ hl).2⟩
 · exact H.sl s u r hs'
end Go.En
namespace Go.Proofs.YtgfabnhpllkebaaGreatDoor
open Go.RowKit Go.Cb Go.En
set_option linter.all false
set_option maxRecDepth 100000
theorem Zar:AggT Tryz.prog 24 3=true:=by kernel_rfl
theorem ZuJ:ElT Tryz.prog 36 3 1 8 (.int .i64 0):=⟨Tryz.underlying36,by kernel_rfl,rfl,by decide⟩
theorem Zcg:FldT Tryz.prog 24 0 0=true:=by kernel_rfl
theorem ZbS:FldT Tryz.prog 24 1 1=true:=by kernel_rfl
theorem ZaS:FldT Tryz.prog 24 2 2=true:=by kernel_rfl
theorem ZbB:NoAgg Tryz.prog 22=true:=by kernel_rfl
theorem Zed:NoAgg Tryz.prog 3=true:=by kernel_rfl
theorem Zee:NoAgg Tryz.prog 9=true:=by kernel_rfl
theorem Zay:SlT Tryz.prog 22 24 3=true:=by kernel_rfl
theorem Zm8:SlT Tryz.prog 36 3 1=true:=by kernel_rfl
theorem ZuK:ZaZ Tryz.prog 24=some ((.agg #[(.int .i64 0),(.string ByteArray.empty),(.slice none 0 0)]),([0,1,2]:List Nat).map fun o=>(o,1)):=by kernel_rfl
theorem Zgd:ZeroT Tryz.prog 24 (.agg #[(.int .i64 0),(.string ByteArray.empty),(.slice none 0 0)]):=by unfold ZeroT;kernel_rfl
theorem ZDW {P:Program} {st:St} {o:Oper} {x y:Operand} {t t':TypeId} {a b:Int} {q q':PV} (ho:o.op= .call {callee:= .builtin .min,args:= #[x,y],argTypes:= #[t,t']}:=by exact rfl) (hx:ev st.slots x=some (.int .i64 a,q):=by exact rfl) (hy:ev st.slots y=some (.int .i64 b,q'):=by exact rfl):YE P st o (· = .int .i64 (if b<a then b else a)) (.val (.int .i64 (if b<a then b else a))):=
 y2 hx hy fun ρ w h1 h2=>by
  simp [execOp,ho,h1,h2,resolve,invoke,builtin,Builtin.min_,Builtin.min2]
theorem Zkd (s:Int):AF Tryz.prog 237 [pInt s] (· =ζ7 false):=by
 refine AF.of_body 6 Tryz.func237 rfl Tryz.ntmps237 (Xa rfl) ?_
 intro w0 M0 vs hl hv
 obtain ⟨v0,rfl⟩:=ZcP hl
 obtain rfl:=hv 0 _ _ rfl rfl
 clear hl hv
 refine nav ?_
 (refine ζa ?_<;>refine xL 2 ζc ?_<;>refine ζd ?_)
 (refine ζa ?_<;>refine xL 3 ζb (xL 4 ζb (xL 5 ZaN (xL 2 ζc ?_)))<;>refine ζd ?_)
 refine ζp (Tryz.results237) rfl ?_
 simp
theorem ZxH (a b:Int):AF Tryz.prog 205 [pInt a,pInt b] (· =pInt (Zd9 a b)):=by
 refine AF.of_body 20 Tryz.func205 rfl Tryz.ntmps205 (Xa rfl) ?_
 intro w0 M0 vs hl hv
 obtain ⟨v0,v1,rfl⟩:=ZdW hl
 obtain rfl:=hv 0 _ _ rfl rfl
 obtain rfl:=hv 1 _ _ rfl rfl
 clear hl hv
 refine nav ?_
 (refine ζa ?_<;>refine xL 4 ζc ?_<;>refine ζd ?_)
 (refine ζa ?_<;>refine xL 7 ζb ?_<;>(refine cS 8 (cA Tryz.call237 (Zkd a)) fun v8 h=>?_;cases h)<;>refine xL 5 ζc ?_<;>refine ζd ?_)
 (refine ζa ?_<;>refine xL 9 ζb ?_<;>(refine cS 10 (cA Tryz.call237 (Zkd b)) fun v10 h=>?_;cases h)<;>refine xL 6 ζc ?_<;>refine ζd ?_)
 (refine ζa ?_<;>refine xL 11 ζb ?_<;>refine ζd ?_)
 refine cCf ?_
 refine nav ?_
 (refine ζa ?_<;>refine xL 13 ζb ?_<;>refine ζd ?_)
 refine cCf ?_
 refine nav ?_
 (refine ζa ?_<;>refine xL 14 ζb (xL 15 ζb (xL 16 ζP ?_))<;>refine ζd ?_)
 (first|refine cCd ?_ ?_|refine cC ?_ ?_)<;>intro hb16
 · first
   |exact bN hb16
   | (
    refine nav ?_;(refine ζa ?_<;>refine xL 4 ζc ?_<;>refine ζd ?_)
    refine ζp (Tryz.results205) rfl ?_;rw [Zd9,if_pos hb16])
 · first
   |exact bN hb16
   | (
    refine nav ?_;(refine ζa ?_<;>refine xL 17 ζb (xL 18 ζb (xL 19 ZaQ ?_))<;>refine ζd ?_)
    (first|refine cCd ?_ ?_|refine cC ?_ ?_)<;>intro hb19
    · first
      |exact bN hb19
      | (
       refine nav ?_;(refine ζa ?_<;>refine xL 4 ζc ?_<;>refine ζd ?_)
       refine ζp (Tryz.results205) rfl ?_;rw [Zd9,if_neg (by omega),if_pos (by omega)])
    · first
      |exact bN hb19
      | (
       refine nav ?_;(refine ζa ?_<;>refine xL 4 ζc ?_<;>refine ζd ?_)
       refine ζp (Tryz.results205) rfl ?_;rw [Zd9,if_neg (by omega),if_neg (by omega)]))
def orL:List Int→Int
 |[]=>0
 |x::l=>if x≠0 then x else orL l
theorem ZuL (a b c:Int):orL [a,b,c]=or3 a b c:=by
 unfold or3
 simp only [orL]
 split
 · rfl
 · split
   · rfl
   · split<;>omega
theorem ZxI (l:List Int) (hl:l.length≤1000):AF Tryz.prog 204 [pInts l] (· =pInt (orL l)):=by
 refine AF.of_body 18 Tryz.func204 rfl Tryz.ntmps204 (Xa rfl) ?_
 intro w0 M0 vs hl hv
 obtain ⟨v0,rfl⟩:=ZcP hl
 clear hl hv
 refine nav ?_
 (refine ζa ?_<;>refine xL 2 ζc ?_<;>refine ζd ?_)
 (refine ζa ?_<;>refine xL 3 ζc ?_<;>refine ζd ?_)
 (refine ζa ?_<;>refine xL 6 ζb (xL 7 (ζ9 Zm8) (xL 8 ζb ?_))<;>refine ζd ?_)
 refine ζD (ι:={k:Nat//k≤l.length∧orL l=orL (l.drop k)}) (fun k=>⟨[(3,_,_),(6,_,_),(7,_,_),(8, .int .i64 k.1,pInt k.1)],[]⟩) (fun k=>l.length-k.1) ⟨0,by omega,rfl⟩ (fun a w H=>H.weaken ⟨rfl,rfl,rfl,rfl,trivial⟩ trivial) ?_
 rintro ⟨k,hk,hp⟩
 dsimp only
 refine nav ?_
 (refine ζa ?_<;>refine xL 9 ζP ?_<;>refine ζd ?_)
 (first|refine cCd ?_ ?_|refine cC ?_ ?_)<;>intro hb9
 · first
   |exact bN hb9
   | (
    obtain ⟨x,hx⟩:=ζo (show k<l.length by omega);have e1:=Zbd (f:=pInt) hx;(have hdr:l.drop k=x::l.drop (k+1):=by rw [Ve (ζi hx)];congr 1;exact (XF.1 hx).2);refine nav ?_;(refine ζa ?_<;>refine xL 10 (ζW Zm8) ?_<;>(refine yL 11 (Zc6 Zed) fun v11 h=>?_;cases h)<;>refine xL 5 ζc ?_<;>refine ζd ?_)
    (refine ζa ?_<;>refine xL 12 ζb (xL 13 ζb (xL 14 ZaN ?_))<;>refine ζd ?_)
    (first|refine cCd ?_ ?_|refine cC ?_ ?_)<;>intro hb14
    · first
      |exact bN hb14
      | (
       refine nav ?_;(refine ζa ?_<;>refine xL 15 ζb (xL 2 ζc ?_)<;>refine ζd ?_)
       refine ζp (Tryz.results204) rfl ?_;rw [hp,hdr,orL,if_pos hb14])
    · first
      |exact bN hb14
      | (
       refine nav ?_;(refine ζa ?_<;>refine xL 16 ζM (xL 8 ζb ?_)<;>refine ζd ?_)
       refine ζh (
        ⟨k+1,by omega,by rw [hp,hdr,orL,if_neg hb14]⟩
        ) (by dsimp only;omega) ⟨rfl,rfl,rfl,rfl,trivial⟩ trivial))
 · first
   |exact bN hb9
   | (
    refine nav ?_;(refine ζa ?_<;>refine xL 17 ζb (xL 2 ζc ?_)<;>refine ζd ?_)
    refine ζp (Tryz.results204) rfl ?_;rw [hp,Vo (by omega)];rfl)
theorem ZCT:∀a b:List UInt8,Lib.compareBytes a b=if Op.bytesLess a b=true then-1 else if (a==b)=true then 0 else 1
 |[],[]=>by simp [Lib.compareBytes,Op.bytesLess]
 |[],_::_=>by simp [Lib.compareBytes,Op.bytesLess]
 |_::_,[]=>by simp [Lib.compareBytes,Op.bytesLess]
 | x :: a,y::b=>by
   rw [Lib.compareBytes,ZCT a b];simp only [Op.bytesLess,List.cons_beq_cons];by_cases h1:x<y
   · simp [h1]
   · by_cases h2:x=y
     · subst h2;simp [h1]
     · have h3:y<x:=UInt8.lt_of_le_of_ne (UInt8.not_lt.1 h1) (Ne.symm h2);simp [h1,h2,h3]
theorem ZxJ (a b:ByteArray) (w:World):(callFunc 273 #[.string a, .string b]).run Tryz.prog w= .ok (.value (.int .i64 (Zbc a b))) w:=by
 rw [run_callFunc_extern Tryz.func273 kR kR kR (e:=Extern.BytealgCompare.compare) kR,Lib.run_compareString]
 simp only [Result.andThen]
 rw [ZCT]
 unfold Zbc Zep ZdY
 rw [ByteArray.toList_eq,ByteArray.toList_eq]
theorem ZCU {st:St} {o:Oper} {x y:Operand} {f:Nat} {u v r:Value} {p q:PV} {ats:Array TypeId} (hc:∀w,(callFunc f #[u,v]).run Tryz.prog w= .ok (.value r) w) (ho:o.op= .call {callee:= .value (.func f),args:= #[x,y],argTypes:=ats}:=by exact rfl) (hx:ev st.slots x=some (u,p):=by exact rfl) (hy:ev st.slots y=some (v,q):=by exact rfl):YE Tryz.prog st o (· =r) (.val r):=
 .exact fun M F a w H=>⟨.val _,by
  have h1:=(H.ev hx).1;have h2:=(H.ev hy).1;have hev:a.eval (.func f)= .func (.func f) #[] #[]:=rfl;simp [execOp,ho,resolve,hev,Deferred.ofValue,invoke,h1,h2,hc]⟩
theorem ZoJ (a b:ByteArray):AF Tryz.prog 250 [Za3 a,Za3 b] (· =pInt (Zbc a b)):=by
 refine AF.of_body 8 Tryz.func250 rfl Tryz.ntmps250 (Xa rfl) ?_
 intro w0 M0 vs hl hv
 obtain ⟨v0,v1,rfl⟩:=ZdW hl
 obtain rfl:=hv 0 _ _ rfl rfl
 obtain rfl:=hv 1 _ _ rfl rfl
 clear hl hv
 refine nav ?_
 (refine ζa ?_<;>refine xL 4 ζc ?_<;>refine ζd ?_)
 (refine ζa ?_<;>refine xL 5 ζb (xL 6 ζb ?_)<;>refine xL 7 (ZCU (ZxJ a b)) ?_<;>refine xL 4 ζc ?_<;>refine ζd ?_)
 exact ζp Tryz.results250 rfl rfl
theorem Zm9 (a b:ByteArray):AF Tryz.prog 215 [Za3 a,Za3 b] (· =pInt (Zbc a b)):=by
 refine AF.of_body 8 Tryz.func215 rfl Tryz.ntmps215 (Xa rfl) ?_
 intro w0 M0 vs hl hv
 obtain ⟨v0,v1,rfl⟩:=ZdW hl
 clear hl hv
 refine nav ?_
 (refine ζa ?_<;>refine xL 4 ζc ?_<;>refine ζd ?_)
 (refine ζa ?_<;>refine xL 5 ζb (xL 6 ζb ?_)<;>(refine cS 7 (cA Tryz.call250 (ZoJ a b)) fun v7 h=>?_;cases h)<;>refine xL 4 ζc ?_<;>refine ζd ?_)
 exact ζp Tryz.results215 rfl rfl
theorem ZuM {l m:List Nd} {k:Nat} {x y:Nd} (hx:l[k]? =some x) (hy:m[k]? =some y):Zem (l.drop k) (m.drop k)=if Zcm x y≠0 then Zcm x y else Zem (l.drop (k+1)) (m.drop (k+1)):=by
 rw [Ve (ζi hx),Ve (ζi hy),(XF.1 hx).2,(XF.1 hy).2,Zem]
theorem Zlp {l m:List Nd} {k:Nat} (hk:k≤l.length) (hk':k≤m.length) (h:¬(k<l.length∧k<m.length)):Zem (l.drop k) (m.drop k)=if l.length<m.length then-1 else if m.length<l.length then 1 else 0:=by
 rcases Xq k l.length with h1|h1
 · have h2:k=m.length:=by omega
   subst h2;rw [Vo (Xb m.length),Ve h1,Zem,if_neg (by omega),if_pos h1]
 · have h2:k=l.length:=by omega
   subst h2;rw [Vo (Xb l.length),if_neg (by omega:¬m.length<l.length)];rcases Xq l.length m.length with h3|h3
   · rw [Ve h3,Zem,if_pos h3]
   · (have h4:l.length=m.length:=by omega);rw [Vo (by omega),Zem,if_neg (by omega)]
theorem Zna (f:Nat) (l m:List Nd) (hl:l.length≤140737488355328) (hm:m.length≤140737488355328) (hc:∀args w,(callFunc f args).run Tryz.prog w= .ok (.enter f args) w) (hf:∀x∈l,∀y∈m,AF Tryz.prog f [pTr x,pTr y] (· =pInt (Zcm x y))):AF Tryz.prog 216 [Zce l,Zce m, .fn f []] (· =pInt (Zem l m)):=by
 refine AF.of_body 39 Tryz.func216 rfl Tryz.ntmps216 (Xa rfl) ?_
 intro w0 M0 vs hl hv
 obtain ⟨v0,v1,v2,rfl⟩:=ZCn hl
 clear hl hv
 refine nav ?_
 (refine ζa ?_<;>refine xL 6 ζc ?_<;>refine ζd ?_)
 (refine ζa ?_<;>refine xL 11 ζb (xL 12 (ζ9 Zay) (xL 13 ζb ?_))<;>refine ζd ?_)
 refine ζD (ι:={k:Nat//k≤l.length∧k≤m.length∧Zem l m=Zem (l.drop k) (m.drop k)}) (fun k=>⟨[(0,_,_),(1,_,_),(2,_,_),(11,_,_),(12,_,_),(13, .int .i64 k.1,pInt k.1)],[]⟩) (fun k=>l.length-k.1) ⟨0,by omega,by omega,rfl⟩ (fun a w H=>H.weaken ⟨rfl,rfl,rfl,rfl,rfl,rfl,trivial⟩ trivial) ?_
 rintro ⟨k,hk,hkm,hp⟩
 dsimp only
 refine nav ?_
 (refine ζa ?_<;>refine xL 14 ζP ?_<;>refine ζd ?_)
 (first|refine cCd ?_ ?_|refine cC ?_ ?_)<;>intro hb14
 · first
   |exact bN hb14
   | (
    obtain ⟨x,hx⟩:=ζo (show k<l.length by omega);have e1:=ζ4 hx;have e2:=Zak hx;refine nav ?_;(refine ζa ?_<;>refine xL 15 ζb (xL 16 (ζW Zay) ?_)<;>(refine yL 17 (Zby Zar) fun v17 h=>?_;cases h)<;>refine ζs [(.int .i64 0),(.string ByteArray.empty),(.slice none 0 0)] 3 8 Zgd fun h8=>?_<;>refine xL 7 ζc ?_<;>refine ζt 8 Zar ?_<;>refine ζd ?_)
    (refine ζa ?_<;>refine xL 18 ζb (xL 19 ζb (xL 20 (ζ9 Zay) (xL 21 Zcu ?_)))<;>refine ζd ?_)
    (first|refine cCd ?_ ?_|refine cC ?_ ?_)<;>intro hb21
    · first
      |exact bN hb21
      | (
       refine nav ?_;(refine ζa ?_<;>refine xL 6 ζc ?_<;>refine ζd ?_)
       refine ζp (Tryz.results216) rfl ?_;rw [hp,Zlp hk hkm (by omega),if_neg (by omega),if_pos (by omega)])
    · first
      |exact bN hb21
      | (
       obtain ⟨y,hy⟩:=ζo (show k<m.length by omega);have e3:=ζ4 hy;have e4:=Zak hy;have hd:=ZuM hx hy;refine nav ?_;(refine ζa ?_<;>refine xL 22 ζb (xL 23 ζb (xL 24 (ζW Zay) ?_))<;>(refine yL 25 (Zby Zar) fun v25 h=>?_;cases h)<;>refine ζs [(.int .i64 0),(.string ByteArray.empty),(.slice none 0 0)] 3 9 Zgd fun h9=>?_<;>refine ζt 9 Zar ?_<;>refine ζd ?_)
       (refine ζa ?_<;>refine xL 26 ζb ?_<;>(refine yL 27 (ζm 8 Zar) fun v27 h=>?_;cases h)<;>(refine yL 28 (ζm 9 Zar) fun v28 h=>?_;cases h)<;>(refine cS 29 (Zjr (f:=f) (ps:=[]) rfl ⟨_,rfl⟩ hc rfl (hf x (Xg hx) y (Xg hy))) fun v29 h=>?_;cases h)<;>refine xL 10 ζc ?_<;>refine ζd ?_)
       (refine ζa ?_<;>refine xL 30 ζb (xL 31 ZaN ?_)<;>refine ζd ?_)
       (first|refine cCd ?_ ?_|refine cC ?_ ?_)<;>intro hb31
       · first
         |exact bN hb31
         | (
          refine nav ?_;(refine ζa ?_<;>refine xL 32 ζb (xL 6 ζc ?_)<;>refine ζd ?_)
          refine ζp (Tryz.results216) rfl ?_;rw [hp,hd,if_pos hb31])
       · first
         |exact bN hb31
         | (
          refine nav ?_;(refine ζa ?_<;>refine xL 33 ζM (xL 13 ζb ?_)<;>refine ζd ?_)
          refine ζh (
           ⟨k+1,by omega,by omega,by rw [hp,hd,if_neg hb31]⟩
           ) (by dsimp only;omega) ⟨rfl,rfl,rfl,rfl,rfl,rfl,trivial⟩ trivial)))
 · first
   |exact bN hb14
   | (
    refine nav ?_;(refine ζa ?_<;>refine xL 34 ζb (xL 35 (ζ9 Zay) (xL 36 ζb (xL 37 (ζ9 Zay) (xL 38 ζP ?_))))<;>refine ζd ?_)
    (first|refine cCd ?_ ?_|refine cC ?_ ?_)<;>intro hb38
    · first
      |exact bN hb38
      | (
       refine nav ?_;(refine ζa ?_<;>refine xL 6 ζc ?_<;>refine ζd ?_)
       refine ζp (Tryz.results216) rfl ?_;rw [hp,Zlp hk hkm (by omega),if_pos (by omega)])
    · first
      |exact bN hb38
      | (
       refine nav ?_;(refine ζa ?_<;>refine xL 6 ζc ?_<;>refine ζd ?_)
       refine ζp (Tryz.results216) rfl ?_;rw [hp,Zlp hk hkm (by omega),if_neg (by omega),if_neg (by omega)]))
theorem ZCV:∀(t u:Nd),FitT t→FitT u→AF Tryz.prog 175 [pTr t,pTr u] (· =pInt (Zcm t u)):=Nd.ind fun o a l ih u hf hg=>by
 obtain ⟨o',a',l'⟩:=u
 have hl:=hf.len
 have hp:=hf.p
 have hl':=hg.len
 have hp':=hg.p
 simp only [Nd.l] at hl hp hl' hp'
 refine AF.of_body 22 Tryz.func175 rfl Tryz.ntmps175 (Xa rfl) ?_
 intro w0 M0 vs hl hv
 obtain ⟨v0,v1,rfl⟩:=ZdW hl
 clear hl hv
 have e0:pTr (.mk o a l)= .agg [pInt o,Za3 a, .sl l.length (ZaB l)]:=rfl
 have e1:pTr (.mk o' a' l')= .agg [pInt o',Za3 a', .sl l'.length (ZaB l')]:=rfl
 rw [e0,e1]
 refine nav ?_
 (refine ζa ?_<;>refine ζS 2 3 fun h2=>?_<;>refine ζS 3 3 fun h3=>?_<;>refine xL 4 ζc ?_<;>refine ζd ?_)
 (refine ζV (fun i=>([]:List Nat).elem i) [2,3] kR ?_<;>refine xD 0 5 rfl (ζe 2 Zcg) ?_<;>(refine yD 1 6 rfl (ζk 2 Zed) fun v6 h=>?_;cases h)<;>refine xD 2 7 rfl (ζe 3 Zcg) ?_<;>(refine yD 3 8 rfl (ζk 3 Zed) fun v8 h=>?_;cases h)<;>refine xD 5 10 rfl (ζe 2 ZbS) ?_<;>(refine yD 6 11 rfl (ζk 2 Zee) fun v11 h=>?_;cases h)<;>refine xD 7 12 rfl (ζe 3 ZbS) ?_<;>(refine yD 8 13 rfl (ζk 3 Zee) fun v13 h=>?_;cases h)<;>refine xD 10 15 rfl (ζe 2 ZaS) ?_<;>(refine yD 11 16 rfl (ζk 2 ZbB) fun v16 h=>?_;cases h)<;>refine xD 12 17 rfl (ζe 3 ZaS) ?_<;>(refine yD 13 18 rfl (ζk 3 ZbB) fun v18 h=>?_;cases h)<;>(refine ζj 4 kR ?_)<;>(refine ζg rfl fun w9 M9 N9 DQ back=>?_)<;>(refine cS 9 (cA Tryz.call205 (ZxH o o')) fun v9 h=>?_;cases h)<;>refine ζf (back _ (nrm ?_))<;>(refine ζj 9 kR ?_)<;>(refine ζg rfl fun w9 M9 N9 DQ back=>?_)<;>(refine cS 14 (cA Tryz.call215 (Zm9 a a')) fun v14 h=>?_;cases h)<;>refine ζf (back _ (nrm ?_))<;>(refine ζj 14 kR ?_)<;>(refine ζg rfl fun w9 M9 N9 DQ back=>?_)<;>(refine cS 19 (cA Tryz.call216 (Zna 175 l l' hl hl' (Tryz.call175) (fun x hx y hy=>ih x hx y (hp x hx) (hp' y hy)))) fun v19 h=>?_;cases h)<;>refine ζf (back _ (nrm ?_))<;>(refine ζj 15 kR ?_)<;>(refine ζg rfl fun w9 M9 N9 DQ back=>?_)<;>(refine Zte (xs:=[_,_,_]) 20 ZuJ fun h20 ho20=>?_;refine ζq (En.freeze (l:=20) (t:=20) rfl rfl) fun _=>?_)<;>refine ζf (back _ (nrm ?_))<;>(refine ζj 16 kR ?_)<;>(refine ζg rfl fun w9 M9 N9 DQ back=>?_)<;>(refine cS 21 (cA Tryz.call204 (ZxI [Zd9 o o',Zbc a a',Zem l l'] (by simp only [Xc,Xs];omega))) fun v21 h=>?_;cases h)<;>refine ζf (back _ (nrm ?_))<;>refine xE 17 4 rfl ζc ?_<;>refine Zae kR (nav ?_)<;>try dsimp only)
 refine ζp (Tryz.results175) rfl ?_
 rw [ZuL,Zcm]
def Zer (t u:Nd):Bool:=decide (Zcm t u=0)
theorem Zba {t u:Nd}:Zer t u=true↔t=u:=by unfold Zer;rw [decide_eq_true_eq,Zcc]
theorem Ze9 {t u:Nd} (h:t≠u):Zer t u=false:=by
 cases hs:Zer t u with
 |false=>rfl
 |true=>exact absurd (Zba.1 hs) h
theorem Zzm {o o':Int} {a a':ByteArray} {l l':List Nd} (h1:o=o') (h2:a=a') (h3:l.length=l'.length) (h4:∀(j:Nat) (x y:Nd),l[j]? =some x→l'[j]? =some y→x=y):Nd.mk o a l=Nd.mk o' a' l':=by
 have:l=l':=by
  apply Vb;intro i;rcases Xq i l.length with h|h
  · obtain ⟨x,hx⟩:=ζo h;obtain ⟨y,hy⟩:=ζo (show i<l'.length by omega);rw [hx,hy,h4 i x y hx hy]
  · rw [XI h,XI (by omega)]
 rw [h1,h2,this]
theorem ZxK : ∀ (t u:Nd),FitT t→FitT u→AF Tryz.prog 83 [pTr t,pTr u] (· =ζ7 (Zer t u)):=Nd.ind fun o a l ih u hf hg=>by
 obtain ⟨o',a',l'⟩:=u
 have hl:=hf.len
 have hp:=hf.p
 have hl':=hg.len
 have hp':=hg.p
 simp only [Nd.l] at hl hp hl' hp'
 refine AF.of_body 46 Tryz.func83 rfl Tryz.ntmps83 (Xa rfl) ?_
 intro w0 M0 vs hl hv
 obtain ⟨v0,v1,rfl⟩:=ZdW hl
 clear hl hv
 have e0:pTr (.mk o a l)= .agg [pInt o,Za3 a, .sl l.length (ZaB l)]:=rfl
 have e1:pTr (.mk o' a' l')= .agg [pInt o',Za3 a', .sl l'.length (ZaB l')]:=rfl
 rw [e0,e1]
 refine nav ?_
 (refine ζa ?_<;>refine ζS 2 3 fun h2=>?_<;>refine ζS 3 3 fun h3=>?_<;>refine xL 4 ζc ?_<;>refine ζd ?_)
 (refine ζa ?_ <;>refine xL 6 (ζe 2 Zcg) ?_<;>(refine yL 7 (ζk 2 Zed) fun v7 h=>?_;cases h)<;>refine xL 8 (ζe 3 Zcg) ?_<;>(refine yL 9 (ζk 3 Zed) fun v9 h=>?_;cases h)<;>refine xL 10 ZaN (xL 11 ζb ?_)<;>(refine bLd 11 (fun hb11=>?_) (fun hb11=>?_)<;>(first|refine kL 12 ?_|refine xL 12 (ζe 2 ZbS) ?_))<;>(first|refine kL 13 ?_|(refine yL 13 (ζk 2 Zee) fun v13 h=>?_;cases h))<;>(first|refine kL 14 ?_|refine xL 14 (ζe 3 ZbS) ?_)<;>(first|refine kL 15 ?_|(refine yL 15 (ζk 3 Zee) fun v15 h=>?_;cases h))<;>(first|refine kL 16 ?_|refine xL 16 Zy1 ?_)<;>refine xL 17 ζv (xL 18 ζb ?_)<;>(first|refine kL 19 ?_|(refine bL 18 (fun hb18=>?_) (fun hb18=>?_)<;>(first|refine kL 19 ?_|refine xL 19 (ζe 2 ZaS) ?_)))<;>(first|refine kL 20 ?_|(refine yL 20 (ζk 2 ZbB) fun v20 h=>?_;cases h))<;>(first|refine kL 21 ?_|refine xL 21 (ζ9 Zay) ?_)<;>(first|refine kL 22 ?_|refine xL 22 (ζe 3 ZaS) ?_)<;>(first|refine kL 23 ?_|(refine yL 23 (ζk 3 ZbB) fun v23 h=>?_;cases h))<;>(first|refine kL 24 ?_|refine xL 24 (ζ9 Zay) ?_)<;>(first|refine kL 25 ?_|refine xL 25 ZaN ?_)<;>refine xL 26 ζv ?_<;>refine ζd ?_)<;>(
  (first|refine cCd ?_ ?_|refine cC ?_ ?_)<;>intro hb26
  · first
    |exact bN hb26
    | (
     refine nav ?_;(refine ζa ?_<;>refine xL 4 ζc ?_<;>refine ζd ?_)
     refine ζp (Tryz.results83) rfl ?_;rw [Ze9 fun h=>?_];injection h with h1 h2 h3;subst h1 h2 h3
     first
      |omega
      |(simp at hb18;done)
      |(simp at hb26;done))
  · first
    |exact bN hb26
    | (
     (have ho:o=o':=by omega);have ha:a=a':=by
      (have:(a.toList==a'.toList)=true:=by simpa using hb18);exact Zcv.1 this
     (have hll:l.length=l'.length:=by omega);refine nav ?_;(refine ζa ?_<;>refine xL 5 ζc ?_<;>refine ζd ?_)
     refine ζD (ι:={k:Nat//k≤l.length∧∀j x y,j<k→l[j]? =some x→l'[j]? =some y→x=y}) (fun k=>⟨[(2,_,_),(3,_,_),(5, .int .i64 k.1,pInt k.1)],[(2,_,_),(3,_,_)]⟩) (fun k=>l.length-k.1) ⟨0,by omega,by omega⟩ (fun a w H=>H.weaken ⟨rfl,rfl,rfl,trivial⟩ ⟨rfl,rfl,trivial⟩) ?_;rintro ⟨k,hk,hp3⟩;dsimp only;refine nav ?_;(refine ζa ?_<;>refine xL 27 ζb (xL 28 (ζe 2 ZaS) ?_)<;>(refine yL 29 (ζk 2 ZbB) fun v29 h=>?_;cases h)<;>refine xL 30 (ζ9 Zay) (xL 31 ζP ?_)<;>refine ζd ?_)
     (first|refine cCd ?_ ?_|refine cC ?_ ?_)<;>intro hb31
     · first
       |exact bN hb31
       | (
        obtain ⟨x,hx⟩:=ζo (show k<l.length by omega);obtain ⟨y,hy⟩:=ζo (show k<l'.length by omega);have e1:=ζ4 hx;have e2:=Zak hx;have e3:=ζ4 hy;have e4:=Zak hy;have hxm:=Xg hx;have hym:=Xg hy;refine nav ?_;(refine ζV (fun i=>([]:List Nat).elem i) [2,3] kR ?_<;>refine xD 0 34 rfl (ζe 2 ZaS) ?_<;>(refine yD 1 35 rfl (ζk 2 ZbB) fun v35 h=>?_;cases h)<;>refine xD 2 36 rfl ζb ?_<;>refine xD 3 37 rfl (ζW Zay) ?_<;>(refine yD 4 38 rfl (Zby Zar) fun v38 h=>?_;cases h)<;>refine xD 5 39 rfl (ζe 3 ZaS) ?_<;>(refine yD 6 40 rfl (ζk 3 ZbB) fun v40 h=>?_;cases h)<;>refine xE 7 41 rfl ζb ?_<;>refine xE 8 42 rfl (ζW Zay) ?_<;>(refine yE 9 43 rfl (Zby Zar) fun v43 h=>?_;cases h)<;>(refine ζj 10 kR ?_)<;>(refine ζg rfl fun w9 M9 N9 DQ back=>?_)<;>(refine cS 44 (cA Tryz.call83 (ih x hxm y (hp x hxm) (hp' y hym))) fun v44 h=>?_;cases h)<;>refine ζf (back _ (nrm ?_))<;>refine xE 11 45 rfl Zaw ?_<;>refine Zae kR (nav ?_)<;>try dsimp only)
        (first|refine cCd ?_ ?_|refine cC ?_ ?_)<;>intro hb45
        · first
          |exact bN hb45
          | (
           refine nav ?_;(refine ζa ?_<;>refine xL 4 ζc ?_<;>refine ζd ?_)
           refine ζp (Tryz.results83) rfl ?_;rw [Ze9 fun h=>?_];injection h with h1 h2 h3;subst h3;rw [hx] at hy
           cases hy;rw [Zba.2 rfl] at hb45
           cases hb45)
        · first
          |exact bN hb45
          | (
           refine nav ?_;(refine ζa ?_<;>refine xL 32 ζb (xL 33 ζM (xL 5 ζc ?_))<;>refine ζd ?_)
           refine ζh (
            ⟨k +1,by omega,fun j u v hj hu hv=>by
             by_cases e:j=k
             · subst e;rw [hx] at hu;rw [hy] at hv;cases hu;cases hv;exact Zba.1 (by simpa using hb45)
             · exact hp3 j u v (by omega) hu hv⟩
            ) (by dsimp only;omega) ⟨rfl,rfl,rfl,trivial⟩ ⟨rfl,rfl,trivial⟩))
     · first
       |exact bN hb31
       | (
        refine nav ?_;(refine ζa ?_<;>refine xL 4 ζc ?_<;>refine ζd ?_)
        refine ζp (Tryz.results83) rfl ?_;rw [Zba.2 (Zzm ho ha hll fun j u v hu hv=>hp3 j u v (by have:=ζi hu;omega) hu hv)])))
def nd0:Nd:= .mk 0 ByteArray.empty []
theorem ZoK:FitT nd0:= .mk _ (Xf _) (Xf _) (by decide) (by decide) (fun x hx=>by cases hx)
def ZuN:PV:= .agg [.val (.int .i64 0), .val (.string ByteArray.empty), .val (.slice none 0 0)]
theorem Zlq:Rr ZuN (pTr nd0):=Rr.agg rfl fun i a b ha hb=>by
 match i with
 |0=>cases ha;cases hb;exact Rr.rfl' _
 |1=>cases ha;cases hb;exact Rr.rfl' _
 |2=>cases ha;cases hb;exact Rr.nil
 |i+3=>simp at ha
theorem ZuO (t:Nd) (hf:FitT t):AF Tryz.prog 39 [pTr t] (· =ζ7 (Zer t nd0)):=by
 refine AF.of_body 6 Tryz.func39 rfl Tryz.ntmps39 (Xa rfl) ?_
 intro w0 M0 vs hl hv
 obtain ⟨v0,rfl⟩:=ZcP hl
 clear hl hv
 have e0:pTr t= .agg [pInt t.op,Za3 t.act,Zce t.l]:=rfl
 rw [e0]
 refine nav ?_
 (refine ζa ?_<;>refine ζS 1 3 fun h1=>?_<;>refine xL 2 ζc ?_<;>refine ζd ?_)
 (refine ζa ?_<;>(refine yL 3 (ζm 1 Zar) fun v3 h=>?_;cases h)<;>refine xL 4 (ζB ZuK) ?_<;>(refine ζq (Zc9 (t:=4) (p':=pTr nd0) rfl Zlq) fun _=>?_;refine cS 5 (cA Tryz.call83 (ZxK t nd0 hf ZoK)) fun v5 h=>?_;cases h)<;>refine xL 2 ζc ?_<;>refine ζd ?_)
 exact ζp Tryz.results39 rfl rfl
theorem ZoL {o o':Int} {a a':ByteArray} {l l':List Nd} (h1:o=o') (h2:a=a'):Zer (.mk 0 ByteArray.empty l) (.mk 0 ByteArray.empty l')=Zer (.mk o a l) (.mk o' a' l'):=by
 subst h1 h2
 rw [Vl,Zba,Zba]
 exact ⟨fun h=>by injection h with h1 h2 h3;rw [h3],fun h=>by injection h with h1 h2 h3;rw [h3]⟩
theorem ZrZ (f :Nat) (l m:List Nd) (hl:l.length≤140737488355328) (hm:m.length≤140737488355328) (hc:∀args w,(callFunc f args).run Tryz.prog w= .ok (.enter f args) w) (hf:∀x∈l,∀y∈m,AF Tryz.prog f [pTr x,pTr y] (· =ζ7 (Zer x y))):AF Tryz.prog 217 [Zce l,Zce m, .fn f []] (· =ζ7 (Zer (.mk 0 ByteArray.empty l) (.mk 0 ByteArray.empty m))):=by
 refine AF.of_body 32 Tryz.func217 rfl Tryz.ntmps217 (Xa rfl) ?_
 intro w0 M0 vs hl hv
 obtain ⟨v0,v1,v2,rfl⟩:=ZCn hl
 clear hl hv
 refine nav ?_
 (refine ζa ?_<;>refine xL 6 ζc ?_<;>refine ζd ?_)
 (refine ζa ?_<;>refine xL 10 ζb (xL 11 (ζ9 Zay) (xL 12 ζb (xL 13 (ζ9 Zay) (xL 14 ZaN ?_))))<;>refine ζd ?_)
 (first|refine cCd ?_ ?_|refine cC ?_ ?_)<;>intro hb14
 · first
   |exact bN hb14
   | (
    refine nav ?_;(refine ζa ?_<;>refine xL 6 ζc ?_<;>refine ζd ?_)
    refine ζp (Tryz.results217) rfl ?_;rw [Ze9 fun h=>?_];injection h with h1 h2 h3;subst h3;omega)
 · first
   |exact bN hb14
   | (
    (have hll:l.length=m.length:=by omega);refine nav ?_;(refine ζa ?_<;>refine xL 15 ζb (xL 16 (ζ9 Zay) (xL 17 ζb ?_))<;>refine ζd ?_)
    refine ζD (ι:={k:Nat//k≤l.length∧∀j x y,j<k→l[j]? =some x→m[j]? =some y→x=y}) (fun k=>⟨[(1,_,_),(2,_,_),(15,_,_),(16,_,_),(17, .int .i64 k.1,pInt k.1)],[]⟩) (fun k=>l.length-k.1) ⟨0,by omega,by omega⟩ (fun a w H=>H.weaken ⟨rfl,rfl,rfl,rfl,rfl,trivial⟩ trivial) ?_;rintro ⟨k,hk,hp3⟩;dsimp only;refine nav ?_;(refine ζa ?_<;>refine xL 18 ζP ?_<;>refine ζd ?_)
    (first|refine cCd ?_ ?_|refine cC ?_ ?_)<;>intro hb18
    · first
      |exact bN hb18
      | (
       obtain ⟨x,hx⟩:=ζo (show k<l.length by omega);obtain ⟨y,hy⟩:=ζo (show k<m.length by omega);have e1:=ζ4 hx;have e2:=Zak hx;have e3:=ζ4 hy;have e4:=Zak hy;refine nav ?_;(refine ζa ?_<;>refine xL 19 ζb (xL 20 (ζW Zay) ?_)<;>(refine yL 21 (Zby Zar) fun v21 h=>?_;cases h)<;>refine ζs [(.int .i64 0),(.string ByteArray.empty),(.slice none 0 0)] 3 8 Zgd fun h8=>?_<;>refine xL 7 ζc ?_<;>refine ζt 8 Zar ?_<;>refine ζd ?_)
       (refine ζa ?_<;>refine xL 22 ζb (xL 23 ζb (xL 24 (ζW Zay) ?_))<;>(refine yL 25 (Zby Zar) fun v25 h=>?_;cases h)<;>refine ζs [(.int .i64 0),(.string ByteArray.empty),(.slice none 0 0)] 3 9 Zgd fun h9=>?_<;>refine ζt 9 Zar ?_<;>refine ζd ?_)
       (refine ζa ?_<;>refine xL 26 ζb ?_<;>(refine yL 27 (ζm 8 Zar) fun v27 h=>?_;cases h)<;>(refine yL 28 (ζm 9 Zar) fun v28 h=>?_;cases h)<;>(refine cS 29 (Zjr (f:=f) (ps:=[]) rfl ⟨_,rfl⟩ hc rfl (hf x (Xg hx) y (Xg hy))) fun v29 h=>?_;cases h)<;>refine xL 30 Zaw ?_<;>refine ζd ?_)
       (first|refine cCd ?_ ?_|refine cC ?_ ?_)<;>intro hb30
       · first
         |exact bN hb30
         | (
          refine nav ?_;(refine ζa ?_<;>refine xL 6 ζc ?_<;>refine ζd ?_)
          refine ζp (Tryz.results217) rfl ?_;rw [Ze9 fun h=>?_];injection h with h1 h2 h3;subst h3;rw [hx] at hy
          cases hy;rw [Zba.2 rfl] at hb30
          cases hb30)
       · first
         |exact bN hb30
         | (
          refine nav ?_;(refine ζa ?_<;>refine xL 31 ζM (xL 17 ζb ?_)<;>refine ζd ?_)
          refine ζh (
           ⟨k +1,by omega,fun j u v hj hu hv=>by
            by_cases e:j=k
            · subst e;rw [hx] at hu;rw [hy] at hv;cases hu;cases hv;exact Zba.1 (by simpa using hb30)
            · exact hp3 j u v (by omega) hu hv⟩
           ) (by dsimp only;omega) ⟨rfl,rfl,rfl,rfl,rfl,trivial⟩ trivial))
    · first
      |exact bN hb18
      | (
       refine nav ?_;(refine ζa ?_<;>refine xL 6 ζc ?_<;>refine ζd ?_)
       refine ζp (Tryz.results217) rfl ?_;rw [Zba.2 (Zzm rfl rfl hll fun j u v hu hv=>hp3 j u v (by have:=ζi hu;omega) hu hv)]))
theorem ZAM:∀(t u:Nd),FitT t→FitT u→AF Tryz.prog 177 [pTr t,pTr u] (· =ζ7 (Zer t u)):=Nd.ind fun o a l ih u hf hg=>by
 obtain ⟨o',a',l'⟩:=u
 have hl:=hf.len
 have hp:=hf.p
 have hl':=hg.len
 have hp':=hg.p
 simp only [Nd.l] at hl hp hl' hp'
 refine AF.of_body 24 Tryz.func177 rfl Tryz.ntmps177 (Xa rfl) ?_
 intro w0 M0 vs hl hv
 obtain ⟨v0,v1,rfl⟩:=ZdW hl
 clear hl hv
 have e0:pTr (.mk o a l)= .agg [pInt o,Za3 a, .sl l.length (ZaB l)]:=rfl
 have e1:pTr (.mk o' a' l')= .agg [pInt o',Za3 a', .sl l'.length (ZaB l')]:=rfl
 rw [e0,e1]
 refine nav ?_
 (refine ζa ?_<;>refine ζS 2 3 fun h2=>?_<;>refine ζS 3 3 fun h3=>?_<;>refine xL 4 ζc ?_<;>refine ζd ?_)
 (refine ζa ?_<;>refine xL 5 (ζe 2 Zcg) ?_<;>(refine yL 6 (ζk 2 Zed) fun v6 h=>?_;cases h)<;>refine xL 7 (ζe 3 Zcg) ?_<;>(refine yL 8 (ζk 3 Zed) fun v8 h=>?_;cases h)<;>refine xL 9 ζY (xL 10 ζb ?_)<;>(refine bLd 10 (fun hb10=>?_) (fun hb10=>?_)<;>(first|refine kL 11 ?_|refine xL 11 (ζe 2 ZbS) ?_))<;>(first|refine kL 12 ?_|(refine yL 12 (ζk 2 Zee) fun v12 h=>?_;cases h))<;>(first|refine kL 13 ?_|refine xL 13 (ζe 3 ZbS) ?_)<;>(first|refine kL 14 ?_|(refine yL 14 (ζk 3 Zee) fun v14 h=>?_;cases h))<;>(first|refine kL 15 ?_|refine xL 15 ZbI ?_)<;>refine xL 16 ζv (xL 17 ζb ?_)<;>(first|refine kL 18 ?_|(refine bL 17 (fun hb17=>?_) (fun hb17=>?_)<;>(first|refine kL 18 ?_|refine xL 18 (ζe 2 ZaS) ?_)))<;>(first|refine kL 19 ?_|(refine yL 19 (ζk 2 ZbB) fun v19 h=>?_;cases h))<;>(first|refine kL 20 ?_|refine xL 20 (ζe 3 ZaS) ?_)<;>(first|refine kL 21 ?_|(refine yL 21 (ζk 3 ZbB) fun v21 h=>?_;cases h))<;>(first|refine kL 22 ?_|(refine cS 22 (cA Tryz.call217 (ZrZ 177 l l' hl hl' (Tryz.call177) (fun x hx y hy=>ih x hx y (hp x hx) (hp' y hy)))) fun v22 h=>?_;cases h))<;>refine xL 23 ζv (xL 4 ζc ?_)<;>refine ζd ?_)<;>(
  refine ζp (Tryz.results177) rfl ?_
  first
   |(rw [Ze9 fun h=>by injection h with h1 h2 h3;omega];done)
   |(rw [Ze9 fun h=>by injection h with h1 h2 h3;subst h2;simp at hb17];done)
   |(rw [ZoL hb10 (Zcv.1 hb17)];done))
mutual
def Znb:Nd→Int→Int
 | .mk _ a l,d=>if 80<d∨100<(a.size:Int) then 1000 else min (Zl2 l (d+1) 1) 1000
def Zl2:List Nd→Int→Int→Int
 |[],_,n=>n
 |x::l,d,n=>if n<600 then Zl2 l d (n+Znb x d) else n
end
theorem ZuP {l:List Nd} {k:Nat} {x:Nd} (hx:l[k]? =some x) (d n:Int):Zl2 (l.drop k) d n=if n<600 then Zl2 (l.drop (k+1)) d (n+Znb x d) else n:=by
 rw [Ve (ζi hx),(XF.1 hx).2,Zl2]
theorem ZuQ {l:List Nd} {d n:Int} (h:¬n<600):Zl2 l d n=n:=by
 cases l with
 |nil=>rw [Zl2]
 |cons x l=>rw [Zl2,if_neg h]
theorem ZuR:∀(l:List Nd) (d n:Int),(∀x∈l,∀d,0≤Znb x d∧Znb x d≤1000)→0≤n→0≤Zl2 l d n
 |[],d,n,_,h=>by rw [Zl2];exact h
 | x::l,d,n,hx,h=>by
   rw [Zl2];split
   · exact ZuR l d _ (fun y hy=>hx y (Xj _ hy)) (by have:=(hx x (Xk ..) d).1;omega)
   · exact h
theorem ZAN:∀(t:Nd) (d:Int),0≤Znb t d∧Znb t d≤1000:=Nd.ind fun o a l ih d=>by
 rw [Znb]
 split
 · omega
 · have:=ZuR l (d+1) 1 ih (by omega);omega
theorem Zke:∀(t:Nd),FitT t→∀(d:Int),0≤d→d≤4611686018427387904→AF Tryz.prog 38 [pTr t,pInt d] (· =pInt (Znb t d)):=Nd.ind fun o a l ih hf d hd1 hd2=>by
 have hl:=hf.len
 have hp:=hf.p
 have ha:=hf.sz
 simp only [Nd.l,Nd.act] at hl hp ha
 refine AF.of_body 38 Tryz.func38 rfl Tryz.ntmps38 (Xa rfl) ?_
 intro w0 M0 vs hl hv
 obtain ⟨v0,v1,rfl⟩:=ZdW hl
 obtain rfl:=hv 1 _ _ rfl rfl
 clear hl hv
 have e0:pTr (.mk o a l)= .agg [pInt o,Za3 a, .sl l.length (ZaB l)]:=rfl
 rw [e0]
 refine nav ?_
 (refine ζa ?_<;>refine ζS 2 3 fun h2=>?_<;>refine xL 4 ζc ?_<;>refine ζd ?_)
 (refine ζa ?_<;>refine xL 5 ζc ?_<;>refine ζd ?_)
 (refine ζa ?_<;>refine xL 7 ζb (xL 8 ZaQ (xL 9 ζb ?_))<;>(refine bLd 9 (fun hb9=>?_) (fun hb9=>?_)<;>(first|refine kL 10 ?_|refine xL 10 (ζe 2 ZbS) ?_))<;>(first|refine kL 11 ?_|(refine yL 11 (ζk 2 Zee) fun v11 h=>?_;cases h))<;>(first|refine kL 12 ?_|refine xL 12 (Zbe Tryz.underlying9) ?_)<;>(first|refine kL 13 ?_|refine xL 13 ZaQ ?_)<;>refine xL 14 ζv ?_<;>refine ζd ?_)<;>(
  (first|refine cCd ?_ ?_|refine cC ?_ ?_)<;>intro hb14
  · first
    |exact bN hb14
    | (
     refine nav ?_;(refine ζa ?_<;>refine xL 4 ζc ?_<;>refine ζd ?_)
     refine ζp (Tryz.results38) rfl ?_;rw [Znb,if_pos (by omega)])
  · first
    |exact bN hb14
    | (
     (have hb:¬(80<d∨100<(a.size:Int)):=by omega);refine nav ?_;(refine ζa ?_<;>refine xL 6 ζc ?_<;>refine ζd ?_)
     refine ζD (ι:={q:Nat×Int//q.1≤l.length∧0≤q.2∧q.2≤1600∧Zl2 l (d+1) 1=Zl2 (l.drop q.1) (d+1) q.2}) (fun k=>⟨[(1,_,_),(2,_,_),(6, .int .i64 k.1.1,pInt k.1.1),(5, .int .i64 k.1.2,pInt k.1.2)],[(2,_,_)]⟩) (fun k=>l.length-k.1.1) ⟨(0,1),by dsimp only;omega,by dsimp only;omega,by dsimp only;omega,rfl⟩ (fun a w H=>H.weaken ⟨rfl,rfl,rfl,rfl,trivial⟩ ⟨rfl,trivial⟩) ?_;rintro ⟨⟨k,n⟩,hk,hn1,hn2,hq⟩;dsimp only;dsimp only at hk hn1 hn2 hq;refine nav ?_;(refine ζa ?_<;>refine xL 15 ζb (xL 16 (ζe 2 ZaS) ?_)<;>(refine yL 17 (ζk 2 ZbB) fun v17 h=>?_;cases h)<;>refine xL 18 (ζ9 Zay) (xL 19 ζP (xL 20 ζb ?_))<;>(refine bLd 20 (fun hb20=>?_) (fun hb20=>?_)<;>(first|refine kL 21 ?_|refine xL 21 ζb ?_))<;>(first|refine kL 22 ?_|refine xL 22 ζP ?_)<;>refine xL 23 ζv ?_<;>refine ζd ?_)<;>(
      (first|refine cCd ?_ ?_|refine cC ?_ ?_)<;>intro hb23
      · first
        |exact bN hb23
        | (
         obtain ⟨x,hx⟩:=ζo (show k<l.length by omega);have e1:=ζ4 hx;have e2:=Zak hx;have hxm:=Xg hx;have hbd:=ZAN x (d+1);refine nav ?_;(refine ζa ?_<;>refine xL 26 ζb (xL 27 (ζe 2 ZaS) ?_)<;>(refine yL 28 (ζk 2 ZbB) fun v28 h=>?_;cases h)<;>refine xL 29 ζb (xL 30 (ζW Zay) ?_)<;>(refine yL 31 (Zby Zar) fun v31 h=>?_;cases h)<;>refine xL 32 ζb (xL 33 ζM ?_)<;>(refine cS 34 (cA Tryz.call38 (ih x hxm (hp x hxm) (d+1) (by omega) (by omega))) fun v34 h=>?_;cases h)<;>refine xL 35 ζM (xL 5 ζc ?_)<;>refine ζd ?_)
         (refine ζa ?_<;>refine xL 24 ζb (xL 25 ζM (xL 6 ζc ?_))<;>refine ζd ?_)
         refine ζh (
          ⟨(k+1,n+Znb x (d+1)),by dsimp only;omega,by dsimp only;omega,by dsimp only;omega,by dsimp only;rw [hq,ZuP hx,if_pos (by omega)]⟩
          ) (by dsimp only;omega) ⟨rfl,rfl,rfl,rfl,trivial⟩ ⟨rfl,trivial⟩)
      · first
        |exact bN hb23
        | (
         refine nav ?_;(refine ζa ?_<;>refine xL 36 ζb (xL 37 ZDW (xL 4 ζc ?_))<;>refine ζd ?_)
         refine ζp (Tryz.results38) rfl ?_;have he:Zl2 (l.drop k) (d+1) n=n:=by
          by_cases h:n<600
          · rw [Vo (by omega),Zl2]
          · exact ZuQ h
         rw [Znb,if_neg hb,hq,he];(have hmn:(if (1000:Int)<n then 1000 else n)=min n 1000:=by split<;>omega);rw [←hmn]))))
section
variable {α:Type}
def swp (l:List α) (i j:Nat):List α:=match l[i]?,l[j]? with
 |some x,some y=>(l.set i y).set j x
 |_,_=>l
theorem Zzn {l:List α} {i j:Nat} {x y:α} (hi:l[i]? =some x) (hj:l[j]? =some y):swp l i j=(l.set i y).set j x:=by unfold swp;rw [hi,hj]
theorem ZAO (l:List α) (i j:Nat):(swp l i j).length=l.length:=by unfold swp;split<;>simp
theorem ZgR {l:List α} {i j:Nat} (hi:i<l.length) (hj:j<l.length) (k:Nat):(swp l i j)[k]? =if k=j then l[i]? else if k=i then l[j]? else l[k]? :=by
 rw [Zzn (XE hi) (XE hj),List.getElem?_set,List.getElem?_set,Xr]
 by_cases h1:k=j
 · subst h1;simp [hj,XE hi]
 · rw [if_neg (fun h=>h1 h.symm),if_neg h1];by_cases h2:k=i
   · subst h2;simp [hi,XE hj]
   · rw [if_neg (fun h=>h2 h.symm),if_neg h2]
theorem ZxL (l:List α) (i j:Nat):(swp l i j).Perm l:=by
 unfold swp
 split
 · rename_i x y hx hy;obtain ⟨hi,rfl⟩:=XF.1 hx;obtain ⟨hj,rfl⟩:=XF.1 hy;exact List.set_set_perm hi hj
 · exact List.Perm.refl _
inductive Sw (a b:Nat):List α→List α→Prop
 |refl (l:List α):Sw a b l l
 |step {l m:List α} (i j:Nat) (h:Sw a b l m) (hi:a≤i) (hi':i<b) (hj:a≤j) (hj':j<b) (hb:b≤l.length):Sw a b l (swp m i j)
theorem Sw.len {a b:Nat} {l m:List α} (h:Sw a b l m):m.length=l.length:=by
 induction h with
 |refl=>rfl
 |step i j h _ _ _ _ _ ih=>rw [ZAO,ih]
theorem Sw.perm {a b:Nat} {l m:List α} (h:Sw a b l m):m.Perm l:=by
 induction h with
 |refl=>exact List.Perm.refl _
 |step i j h _ _ _ _ _ ih=>exact (ZxL _ _ _).trans ih
theorem Sw.out {a b:Nat} {l m:List α} (h:Sw a b l m) {k:Nat} (hk:k<a∨b≤k):m[k]? =l[k]? :=by
 induction h with
 |refl=>rfl
 | step i j h hi hi' hj hj' hb ih=>
   rw [ZgR (by rw [h.len];omega) (by rw [h.len];omega),if_neg (by omega),if_neg (by omega),ih]
theorem Sw.mem {a b:Nat} {l m:List α} (h:Sw a b l m):∀{k:Nat} {x:α},a≤k→k<b→m[k]? =some x→∃k',a≤k'∧k'<b∧l[k']? =some x:=by
 induction h with
 |refl=>exact fun h1 h2 h3=>⟨_,h1,h2,h3⟩
 | step i j h hi hi' hj hj' hb ih=>
   intro k x h1 h2 h3;rw [ZgR (by rw [h.len];omega) (by rw [h.len];omega)] at h3;split at h3
   · exact ih hi hi' h3
   · split at h3
     · exact ih hj hj' h3
     · exact ih h1 h2 h3
theorem Sw.mono {a b a' b':Nat} {l m:List α} (h:Sw a b l m) (ha:a'≤a) (hb:b≤b') (hl:b'≤l.length):Sw a' b' l m:=by
 induction h with
 |refl=>exact .refl _
 |step i j h hi hi' hj hj' hb' ih=>exact .step i j ih (by omega) (by omega) (by omega) (by omega) hl
theorem Sw.trans {a b:Nat} {l m n:List α} (h:Sw a b l m) (h':Sw a b m n):Sw a b l n:=by
 induction h' with
 |refl=>exact h
 |step i j h2 hi hi' hj hj' hb ih=>exact .step i j ih hi hi' hj hj' (by rw [←h.len];exact hb)
variable (le:α→α→Prop)
def SrtS (a b:Nat) (l:List α):Prop:=∀i j x y,a≤i→i<j→j<b→l[i]? =some x→l[j]? =some y→le x y
theorem SrtS.sub {a b a' b':Nat} {l:List α} (h:SrtS le a b l) (ha:a≤a') (hb:b'≤b):SrtS le a' b' l:=fun i j x y h1 h2 h3=>h i j x y (by omega) h2 (by omega)
theorem SrtS.small {a b:Nat} (l:List α) (h:b≤a+1):SrtS le a b l:=fun i j x y h1 h2 h3=>by omega
theorem SrtS.ext {a b:Nat} {l m:List α} (h:SrtS le a b l) (he:∀k,a≤k→k<b→m[k]? =l[k]?):SrtS le a b m:=fun i j x y h1 h2 h3 hx hy=>h i j x y h1 h2 h3 (by rw [←he i (by omega) (by omega)];exact hx) (by rw [←he j (by omega) (by omega)];exact hy)
theorem SrtS.eqv (hr:∀x,le x x) {a b:Nat} {l:List α} (h:SrtS le a b l) {i j:Nat} {x y:α} (h1:a≤i) (h2:i≤j) (h3:j<b) (hx:l[i]? =some x) (hy:l[j]? =some y):le x y:=by
 rcases Xq i j with h4|h4
 · exact h i j x y h1 h4 h3 hx hy
 · have:i=j:=by omega
   subst this;rw [hx] at hy;cases hy;exact hr x
def ZCW (a i j:Nat) (l:List α):Prop:=(∀p q x y,a≤p→p<q→q≤i→p≠j→q≠j→l[p]? =some x→l[q]? =some y→le x y)∧(∀q x y,j<q→q≤i→l[j]? =some x→l[q]? =some y→le x y)
theorem ZuS {a i:Nat} {l:List α} (h:SrtS le a i l):ZCW le a i i l:=⟨fun p q x y h1 h2 h3 h4 h5=>h p q x y h1 h2 (by omega),fun q x y h1 h2=>by omega⟩
theorem ZxM {a i j:Nat} {l:List α} (h:ZCW le a i (j+1) l) (ha:a≤j) (hi:j+1≤i) (hl:i<l.length) {x y:α} (hx:l[j+1]? =some x) (hy:l[j]? =some y) (hle:le x y):ZCW le a i j (swp l (j+1) j):=by
 have hg:=ZgR (l:=l) (i:=j+1) (j:=j) (by omega) (by omega)
 refine ⟨fun p q u v h1 h2 h3 h4 h5 hu hv=>?_,fun q u v h1 h2 hu hv=>?_⟩
 · rw [hg] at hu hv;rw [if_neg h4] at hu;rw [if_neg h5] at hv;by_cases e1:p=j+1
   · rw [if_pos e1] at hu;rw [if_neg (by omega)] at hv;exact h.1 j q u v ha (by omega) h3 (by omega) (by omega) hu hv
   · rw [if_neg e1] at hu;by_cases e2:q=j+1
     · rw [if_pos e2] at hv;exact h.1 p j u v h1 (by omega) (by omega) (by omega) (by omega) hu hv
     · rw [if_neg e2] at hv;exact h.1 p q u v h1 h2 h3 (by omega) (by omega) hu hv
 · rw [hg,if_pos rfl] at hu;rw [hg,if_neg (by omega)] at hv;by_cases e2:q=j+1
   · rw [if_pos e2] at hv;rw [hu] at hx;rw [hv] at hy;cases hx;cases hy;exact hle
   · rw [if_neg e2] at hv;exact h.2 q u v (by omega) h2 hu hv
theorem ZuT (hr:∀x,le x x) (ht:∀x y z,le x y→le y z→le x z) {a i j:Nat} {l:List α} (h:ZCW le a i j l) (hj:a≤j) (hji:j≤i) (hl:i<l.length) (he:j=a∨∃k x y,j=k+1∧l[k]? =some x∧l[j]? =some y∧le x y):SrtS le a (i+1) l:=by
 intro p q x y h1 h2 h3 hx hy
 by_cases e1:p=j
 · subst e1;exact h.2 q x y h2 (by omega) hx hy
 · by_cases e2:q=j
   · subst e2;rcases he with he|⟨k,u,v,he,hu,hv,hle⟩
     · omega
     · rw [hy] at hv;cases hv;by_cases e3:p=k
       · subst e3;rw [hx] at hu;cases hu;exact hle
       · exact ht _ _ _ (h.1 p k x u h1 (by omega) (by omega) e1 (by omega) hx hu) hle
   · exact h.1 p q x y h1 h2 (by omega) e1 e2 hx hy
def Mov (a b k i:Nat) (l:List α):Prop:=(∀p q x y,a≤p→p<q→q<b→p≠k→q≠k→l[p]? =some x→l[q]? =some y→le x y)∧∀q x y,a≤q→q<b→q≠k→l[k]? =some x→l[q]? =some y→if q<i then le y x else le x y
theorem ZuU {a b k i:Nat} {l:List α} (h:Mov le a b k i l) (ha:a≤k) (hk:k+1<i) (hi:i≤b) (hl:b≤l.length):Mov le a b (k+1) i (swp l k (k+1)):=by
 have hg:=ZgR (l:=l) (i:=k) (j:=k+1) (by omega) (by omega)
 refine ⟨fun p q u v h1 h2 h3 h4 h5 hu hv=>?_,fun q u v h1 h2 h3 hu hv=>?_⟩
 · rw [hg,if_neg h4] at hu;rw [hg,if_neg h5] at hv;by_cases e1:p=k
   · rw [if_pos e1] at hu;rw [if_neg (by omega)] at hv;exact h.1 (k+1) q u v (by omega) (by omega) h3 (by omega) (by omega) hu hv
   · rw [if_neg e1] at hu;by_cases e2:q=k
     · rw [if_pos e2] at hv;exact h.1 p (k+1) u v h1 (by omega) (by omega) (by omega) (by omega) hu hv
     · rw [if_neg e2] at hv;exact h.1 p q u v h1 h2 h3 e1 e2 hu hv
 · rw [hg,if_pos rfl] at hu;rw [hg,if_neg h3] at hv;by_cases e2:q=k
   · rw [if_pos e2] at hv;have:=h.2 (k+1) u v (by omega) (by omega) (by omega) hu hv;rw [if_pos (by omega)] at this;rw [if_pos (by omega)];exact this
   · rw [if_neg e2] at hv;exact h.2 q u v h1 h2 e2 hu hv
theorem Zlr {a b k i:Nat} {l:List α} (h:Mov le a b k i l) (hk:i=k+1):SrtS le a b l:=by
 intro p q x y h1 h2 h3 hx hy
 by_cases e1:p=k
 · subst e1;have:=h.2 q x y (by omega) h3 (by omega) hx hy;rw [if_neg (by omega)] at this;exact this
 · by_cases e2:q=k
   · subst e2;have:=h.2 p y x h1 (by omega) (by omega) hy hx;rw [if_pos (by omega)] at this;exact this
   · exact h.1 p q x y h1 h2 h3 e1 e2 hx hy
theorem ZxN {a b k i:Nat} {l:List α} (h:Mov le a b (k+1) i l) (hi:a≤i) (hik:i≤k) (hk:k+1<b) (hl:b≤l.length):Mov le a b k i (swp l (k+1) k):=by
 have hg:=ZgR (l:=l) (i:=k+1) (j:=k) (by omega) (by omega)
 refine ⟨fun p q u v h1 h2 h3 h4 h5 hu hv=>?_,fun q u v h1 h2 h3 hu hv=>?_⟩
 · rw [hg,if_neg h4] at hu;rw [hg,if_neg h5] at hv;by_cases e1:p=k+1
   · rw [if_pos e1] at hu;rw [if_neg (by omega)] at hv;exact h.1 k q u v (by omega) (by omega) h3 (by omega) (by omega) hu hv
   · rw [if_neg e1] at hu;by_cases e2:q=k+1
     · rw [if_pos e2] at hv;exact h.1 p k u v h1 (by omega) (by omega) (by omega) (by omega) hu hv
     · rw [if_neg e2] at hv;exact h.1 p q u v h1 h2 h3 e1 e2 hu hv
 · rw [hg,if_pos rfl] at hu;rw [hg,if_neg h3] at hv;by_cases e2:q=k+1
   · rw [if_pos e2] at hv;have:=h.2 k u v (by omega) (by omega) (by omega) hu hv;rw [if_neg (by omega)] at this;rw [if_neg (by omega)];exact this
   · rw [if_neg e2] at hv;exact h.2 q u v h1 h2 e2 hu hv
theorem Znc {a b k:Nat} {l:List α} (h:Mov le a b k k l):SrtS le a b l:=by
 intro p q x y h1 h2 h3 hx hy
 by_cases e1:p=k
 · subst e1;have:=h.2 q x y (by omega) h3 (by omega) hx hy;rw [if_neg (by omega)] at this;exact this
 · by_cases e2:q=k
   · subst e2;have:=h.2 p y x h1 (by omega) (by omega) hy hx;rw [if_pos (by omega)] at this;exact this
   · exact h.1 p q x y h1 h2 h3 e1 e2 hx hy
theorem ZuV {a b i:Nat} {l:List α} (hs:SrtS le (a+1) b l) (hi:a+1≤i) (h1:∀q x y,a+1≤q→q<i→l[a]? =some x→l[q]? =some y→le y x) (h2:∀q x y,i≤q→q<b→l[a]? =some x→l[q]? =some y→le x y):Mov le a b a i l:=
 ⟨fun p q x y h3 h4 h5 h6 h7=>hs p q x y (by omega) h4 h5,fun q x y h3 h4 h5 hx hy=>by
  by_cases h6:q<i
  · rw [if_pos h6];exact h1 q x y (by omega) h6 hx hy
  · rw [if_neg h6];exact h2 q x y (by omega) h4 hx hy⟩
theorem ZxO {a m i:Nat} {l:List α} (hs:SrtS le a m l) (hi:i≤m) (h1:∀q x y,a≤q→q<i→l[m]? =some x→l[q]? =some y→le y x) (h2:∀q x y,i≤q→q<m→l[m]? =some x→l[q]? =some y→le x y):Mov le a (m+1) m i l:=
 ⟨fun p q x y h3 h4 h5 h6 h7=>hs p q x y h3 h4 (by omega),fun q x y h3 h4 h5 hx hy=>by
  by_cases h6:q<i
  · rw [if_pos h6];exact h1 q x y h3 h6 hx hy
  · rw [if_neg h6];exact h2 q x y (by omega) (by omega) hx hy⟩
def Zls (a m b k:Nat):Nat:=if k<a∨b≤k then k else if k-a<b-m then m+(k-a) else a+(k-a-(b-m))
def srI (a b n k:Nat):Nat:=if a≤k∧k<a+n then b+(k-a) else if b≤k∧k<b+n then a+(k-b) else k
theorem Zzo {m i j k:Nat} (hij:j<i) (him:i≤m):srI (m-i) m j (Zls (m-i+j) m (m+j) k)=Zls (m-i) m (m+j) k:=by
 unfold Zls srI
 (repeat' split)<;>omega
theorem Zzp {m i j k:Nat} (hij:i<j) (him:i≤m):srI (m-i) (m+j-i) i (Zls (m-i) m (m+j-i) k)=Zls (m-i) m (m+j) k:=by
 unfold Zls srI
 (repeat' split)<;>omega
theorem ZCX {m i k:Nat} (him:i≤m):srI (m-i) m i k=Zls (m-i) m (m+i) k:=by
 unfold Zls srI
 split<;>split<;>(try split)<;>(try split)<;>omega
theorem ZAP {l l0:List α} {a b i n:Nat} (hi:i<n) (hab:a+n≤b) (hb:b+n≤l.length) (h:∀k,l[k]? =l0[srI a b i k]?):∀k,(swp l (a+i) (b+i))[k]? =l0[srI a b (i+1) k]? :=by
 intro k
 rw [ZgR (by omega) (by omega),h,h,h]
 unfold srI
 by_cases e1:k=b+i
 · subst e1;rw [if_pos rfl,if_neg (by omega),if_neg (by omega),if_neg (by omega),if_pos (by omega)];congr 1;omega
 · rw [if_neg e1];by_cases e2:k=a+i
   · subst e2;rw [if_pos rfl,if_neg (by omega),if_neg (by omega),if_pos (by omega)];congr 1;omega
   · rw [if_neg e2];congr 1;split<;>split<;>(try split)<;>(try split)<;>omega
theorem ZAQ (a b k:Nat):srI a b 0 k=k:=by unfold srI;split<;>(try split)<;>omega
def Thr (lo hi p s r:Nat) (l:List α):Prop:=lo≤s∧s≤r∧r≤hi∧(∀c x y,lo≤c→c<s→l[c]? =some x→l[p-c]? =some y→le x y)∧(∀c x y,r≤c→c<hi→l[c]? =some x→l[p-c]? =some y→le y x)
theorem ZuW {lo hi p:Nat} (l:List α) (h:lo≤hi):Thr le lo hi p lo hi l:=⟨Xb _,h,Xb _,fun c x y h1 h2=>by omega,fun c x y h1 h2=>by omega⟩
section
variable {le}
theorem Zzq (hr:∀x,le x x) (ht:∀x y z,le x y→le y z→le x z) {a m b lo hi p s r c:Nat} {l:List α} (h:Thr le lo hi p s r l) (h1:SrtS le a m l) (h2:SrtS le m b l) (hc:s≤c) (hc':c<r) (hlo:a≤lo) (hhi:hi≤m) (hp:p<lo+b) (hp':m+hi≤p+1) (hb:b≤l.length) {x y:α} (hx:l[c]? =some x) (hy:l[p-c]? =some y) (hle:le x y):Thr le lo hi p (c+1) r l:=by
 obtain ⟨e1,e2,e3,e4,e5⟩:=h
 refine ⟨by omega,by omega,e3,fun k u v k1 k2 hu hv=>?_,e5⟩
 have a1:le u x:=h1.eqv le hr (by omega) (show k≤c by omega) (by omega) hu hx
 have a2:le y v:=h2.eqv le hr (by omega) (show p-c≤p-k by omega) (by omega) hy hv
 exact ht _ _ _ a1 (ht _ _ _ hle a2)
theorem ZqJ (hr:∀x,le x x) (ht:∀x y z,le x y→le y z→le x z) {a m b lo hi p s r c:Nat} {l:List α} (h:Thr le lo hi p s r l) (h1:SrtS le a m l) (h2:SrtS le m b l) (hc:s≤c) (hc':c<r) (hlo:a≤lo) (hhi:hi≤m) (hp:p<lo+b) (hp':m+hi≤p+1) (hb:b≤l.length) {x y:α} (hx:l[c]? =some x) (hy:l[p-c]? =some y) (hle:le y x):Thr le lo hi p s c l:=by
 obtain ⟨e1,e2,e3,e4,e5⟩:=h
 refine ⟨e1,by omega,by omega,e4,fun k u v k1 k2 hu hv=>?_⟩
 have a1:le x u:=h1.eqv le hr (by omega) (show c≤k by omega) (by omega) hx hu
 have a2:le v y:=h2.eqv le hr (by omega) (show p-k≤p-c by omega) (by omega) hv hy
 exact ht _ _ _ a2 (ht _ _ _ hle a1)
def loM (a m b:Nat):Nat:=if (a+b) / 2<m then (a+b) / 2+m-b else a
def hiM (a m b:Nat):Nat:=if (a+b) / 2<m then (a+b) / 2 else m
theorem Zzr {a m b:Nat} (h1:a<m) (h2:m<b):a≤loM a m b∧loM a m b≤hiM a m b∧hiM a m b≤m∧(a+b) / 2+m-1<loM a m b+b∧m+hiM a m b≤(a+b) / 2+m-1+1∧loM a m b≤m∧hiM a m b≤(a+b) / 2:=by
 unfold loM hiM;split<;>omega
theorem ZuX (hr:∀x,le x x) (ht:∀x y z,le x y→le y z→le x z) {a m b s:Nat} {l l1:List α} (ham:a<m) (hmb:m<b) (hb:b≤l.length) (h1:SrtS le a m l) (h2:SrtS le m b l) (h:Thr le (loM a m b) (hiM a m b) ((a+b) / 2+m-1) s s l)
 (hrot:∀k,l1[k]? =l[Zls s m ((a+b) / 2+m-s) k]?):
 SrtS le a s l1∧SrtS le s ((a+b) / 2) l1∧SrtS le ((a+b) / 2) ((a+b) / 2+m-s) l1∧SrtS le ((a+b) / 2+m-s) b l1∧a≤s∧s≤(a+b) / 2∧(a+b) / 2≤(a+b) / 2+m-s∧(a+b) / 2+m-s≤b∧
 ∀p q x y,a≤p→p<(a+b) / 2→(a+b) / 2≤q→q<b→l1[p]? =some x→l1[q]? =some y→le x y:=by
 obtain ⟨o1,o2,o3,o4,o5,o6,o7⟩:=Zzr ham hmb
 obtain ⟨e1,e2,e3,e4,e5⟩:=h
 have hM1:a≤(a+b) / 2:=by omega
 have hM2:(a+b) / 2<b:=by omega
 have hend:loM a m b=a∨loM a m b=(a+b) / 2+m-b:=by unfold loM;split<;>simp
 have hhi:hiM a m b=m∨hiM a m b=(a+b) / 2:=by unfold hiM;split<;>simp
 have hlohi:(loM a m b=a∧hiM a m b=m)∨(loM a m b=(a+b) / 2+m-b∧hiM a m b=(a+b) / 2∧(a+b) / 2<m):=by unfold loM hiM;split<;>omega
 generalize hmid:(a+b) / 2=mid at*
 have hsm:s≤m:=by omega
 have hsmid:s≤mid:=by omega
 have hE1:mid+m-s≤b:=by omega
 have g1:∀k,k<s→l1[k]? =l[k]? :=fun k hk=>by rw [hrot];congr 1;unfold Zls;rw [if_pos (by omega)]
 have g2:∀k,s≤k→k<mid→l1[k]? =l[m+(k-s)]? :=fun k hk hk'=>by rw [hrot];congr 1;unfold Zls;rw [if_neg (by omega),if_pos (by omega)]
 have g3:∀k,mid≤k→k<mid+m-s→l1[k]? =l[s+(k-mid)]? :=fun k hk hk'=>by rw [hrot];congr 1;unfold Zls;rw [if_neg (by omega),if_neg (by omega)];omega
 have g4:∀k,mid+m-s≤k→l1[k]? =l[k]? :=fun k hk=>by rw [hrot];congr 1;unfold Zls;rw [if_pos (by omega)]
 refine ⟨?_,?_,?_,?_,by omega,by omega,by omega,hE1,?_⟩
 · exact (h1.sub le (Xb _) hsm).ext le fun k h3 h4=>g1 k h4
 · intro i j x y k1 k2 k3 hx hy;rw [g2 i k1 (by omega)] at hx;rw [g2 j (by omega) k3] at hy;exact h2 _ _ x y (by omega) (by omega) (by omega) hx hy
 · intro i j x y k1 k2 k3 hx hy;rw [g3 i k1 (by omega)] at hx;rw [g3 j (by omega) k3] at hy;exact h1 _ _ x y (by omega) (by omega) (by omega) hx hy
 · exact (h2.sub le (by omega) (Xb _)).ext le fun k h3 h4=>g4 k h3
 · intro p q x y k1 k2 k3 k4 hx hy;rcases Xq p s with hp|hp
   · rw [g1 p hp] at hx;rcases Xq q (mid+m-s) with hq|hq
     · rw [g3 q k3 hq] at hy;exact h1 _ _ x y k1 (by omega) (by omega) hx hy
     · rw [g4 q hq] at hy;have hlo:loM a m b<s:=by
        rcases Xq (loM a m b) s with h6|h6
        · exact h6
        · omega
       obtain ⟨u,hu⟩:∃u,l[s-1]? =some u:=⟨_,XE (by omega)⟩;obtain ⟨v,hv⟩:∃v,l[mid+m-s]? =some v:=⟨_,XE (by omega)⟩;have a1:le x u:=h1.eqv le hr k1 (show p≤s-1 by omega) (by omega) hx hu;have a2:le u v:=e4 (s-1) u v (by omega) (by omega) hu (by rw [←hv];congr 1;omega);have a3:le v y:=h2.eqv le hr (by omega) hq k4 hv hy;exact ht _ _ _ a1 (ht _ _ _ a2 a3)
   · rw [g2 p hp k2] at hx;rcases Xq q (mid+m-s) with hq|hq
     · rw [g3 q k3 hq] at hy;have hhi2:s<hiM a m b:=by
        rcases Xq s (hiM a m b) with h6|h6
        · exact h6
        · omega
       obtain ⟨u,hu⟩:∃u,l[mid+m-s-1]? =some u:=⟨_,XE (by omega)⟩;obtain ⟨v,hv⟩:∃v,l[s]? =some v:=⟨_,XE (by omega)⟩;have a1:le x u:=h2.eqv le hr (by omega) (show m+(p-s)≤mid+m-s-1 by omega) (by omega) hx hu;have a2:le u v:=e5 s v u (Xb _) hhi2 hv (by rw [←hu];congr 1;omega);have a3:le v y:=h1.eqv le hr (by omega) (show s≤s+(q-mid) by omega) (by omega) hv hy;exact ht _ _ _ a1 (ht _ _ _ a2 a3)
     · rw [g4 q hq] at hy;exact h2 _ _ x y (by omega) (by omega) k4 hx hy
theorem Zfa {a mid b:Nat} {l1 l2 l3:List α} (h1:a≤mid) (h2:mid≤b) (hb:b≤l1.length) (hc:∀p q x y,a≤p→p<mid→mid≤q→q<b→l1[p]? =some x→l1[q]? =some y→le x y) (s1:Sw a mid l1 l2) (s2:Sw mid b l2 l3) (g1:SrtS le a mid l2) (g2:SrtS le mid b l3):SrtS le a b l3:=by
 intro i j x y k1 k2 k3 hx hy
 rcases Xq j mid with hj|hj
 · rw [s2.out (.inl (by omega))] at hx hy;exact g1 i j x y k1 k2 hj hx hy
 · rcases Xq i mid with hi|hi
   · rw [s2.out (.inl hi)] at hx;obtain ⟨p,p1,p2,p3⟩:=s1.mem k1 hi hx;obtain ⟨q,q1,q2,q3⟩:=s2.mem hj k3 hy;rw [s1.out (.inr q1)] at q3;exact hc p q x y p1 p2 q1 q2 p3 q3
   · exact g2 i j x y hi k2 k3 hx hy
end
end
end Go.Proofs.YtgfabnhpllkebaaGreatDoor
namespace Go.En
open Go.RowKit Go.Cb
set_option linter.all false
structure PiT (P:Program) (t ks s e:Nat) (z:Value):Prop where
 ht:P.underlying t=some (.map ks e)
 hu:P.underlying ks=some (.array 2 s)
 hs:P.underlying s=some (.int .i64)
 hk:P.keyType ks=true
 hk2:P.keyTypeAt 2 ks=true
 hti:P.tiled 2 ks=true
 hc2:P.cellsOf ks=2
 hc1:P.cellsOf s=1
 hf:∀a b:Int,(Value.agg #[.int .i64 a, .int .i64 b]).formed P ks=true
 hsz:∃n,P.types.size=n+1
 hz:ZeroT P e z
theorem PiT.law {P:Program} {t ks s e:Nat} {z:Value} (h:PiT P t ks s e z):WideMaps.KeyLaw P ks:=deep_law (m:=2) (by decide) h.hk2 h.hti (by rw [h.hu])
section
variable {P:Program} {c:Ctx} {ops:Array Oper} {Q:Exit→Act→World→Prop} {rest:List Oper} {sL hP:List (Nat×Ent)} {o:Oper}
end
section
variable {P:Program} {sL hP:List (Nat×Ent)} {o:Oper}
end
section
variable {P:Program} {c:Ctx} {sL hP:List (Nat×Ent)}
end
theorem ZB6 {P:Program} {c:Ctx} {ops:Array Oper} {Q:Exit→Act→World→Prop} {rest:List Oper} {sL hP:List (Nat×Ent)} {o:Oper} {p1 p2 p3:PV} (d:Nat) (hC:Zgz P c (⟨sL,hP⟩:St) o (· = .tup [p1,p2,p3])) (k:∀v1 v2 v3,vOf p1 v1→vOf p2 v2→vOf p3 v3→aL P c ops Q rest ⟨put d (.tuple [v1,v2,v3].toArray, .tup [p1,p2,p3]) sL,hP⟩) (hsh:shD (.tup [p1,p2,p3])=true:=by exact rfl) (hw:ζ2 ops sL o=some true:=by exact rfl) (hd:o.dst=some d:=by exact rfl) (hn:d<c.nt:=by exact Xa rfl):aL P c ops Q (o::rest) (⟨sL,hP⟩:St):=
 ZeW hw hC fun a w F w' v p' Fr H hR hx hT hlo hdw=>by
  subst hR;have hS:=hT.shD hsh;rw [hd];have hS':Shr (mof c hP F) w' v (.tup [p1,p2,p3]):=hS.anti fun b _ h=> .inl h
  cases hS with
  | tup vs ps hl h=>
    match vs,hl,h,hS' with
    |[v1,v2,v3],_,h,hS'=>exact k v1 v2 v3 (h 0 v1 _ rfl rfl).vOf (h 1 v2 _ rfl rfl).vOf (h 2 v3 _ rfl rfl).vOf _ _ ⟨F,ZjE H hx hn hS'⟩
open Go.RowKit Go.Cb Go.Proofs Go.Sort
section
variable {P:Program} {c:Ctx} {ops:Array Oper} {Q:Exit→Act→World→Prop} {rest:List Oper} {sL hP:List (Nat×Ent)} {o:Oper}
end
section
variable {P:Program} {sL hP:List (Nat×Ent)} {o:Oper}
end
section
variable {P:Program} {st:St} {o:Oper} {x y:Operand} {t t':TypeId} {q q':PV}
theorem ZcC {a b c:Int} (ho:o.op= .binOp .add t x y t':=by exact rfl) (hx:ev st.slots x=some (.int .i64 a,q):=by exact rfl) (hy:ev st.slots y=some (.int .i64 b,q'):=by exact rfl) (hc:a+b=c:=by omega) (h1: -9223372036854775808≤c:=by omega) (h2:c≤9223372036854775807:=by omega):YE P st o (· = .int .i64 c) (.val (.int .i64 c)):=by
 subst hc;exact ZCc ho hx hy h1 h2
theorem ZbF {a b c:Int} (ho:o.op= .binOp .sub t x y t':=by exact rfl) (hx:ev st.slots x=some (.int .i64 a,q):=by exact rfl) (hy:ev st.slots y=some (.int .i64 b,q'):=by exact rfl) (hc:a-b=c:=by omega) (h1: -9223372036854775808≤c:=by omega) (h2:c≤9223372036854775807:=by omega):YE P st o (· = .int .i64 c) (.val (.int .i64 c)):=by
 subst hc;exact ZCd ho hx hy h1 h2
theorem ZqK {a b c:Int} (ho:o.op= .binOp .mul t x y t':=by exact rfl) (hx:ev st.slots x=some (.int .i64 a,q):=by exact rfl) (hy:ev st.slots y=some (.int .i64 b,q'):=by exact rfl) (hc:a*b=c:=by omega) (h1: -9223372036854775808≤c:=by omega) (h2:c≤9223372036854775807:=by omega):YE P st o (· = .int .i64 c) (.val (.int .i64 c)):=by
 subst hc;exact ZCe ho hx hy h1 h2
theorem ZoM {a c:Int} (ho:o.op= .move x:=by exact rfl) (hx:ev st.slots x=some (.int .i64 a,q):=by exact rfl) (hc:a=c:=by omega):YE P st o (· = .int .i64 c) (.val (.int .i64 c)):=by
 subst hc;exact y1 hx (fun _ _ _=> .val _) fun ρ w h=>by simp [execOp,ho,h]
theorem ZxP {a:Nat} {s d:TypeId} {ds:TypeDesc} (hs:P.underlying s=some ds) (hd:P.underlying d=some (.int .u64)) (ha:a≤9223372036854775807) (ho:o.op= .convert s d x:=by exact rfl) (hx:ev st.slots x=some (.int .i64 (a:Int),q):=by exact rfl):YE P st o (· = .int .u64 (a:Int)) (.val (.int .u64 (a:Int))):=
 ZyX hs hd ho hx (IntWalk.u64_in _ (by omega))
theorem ZxQ {a:Nat} {s d:TypeId} {ds:TypeDesc} (hs:P.underlying s=some ds) (hd:P.underlying d=some (.int .i64)) (ha:a≤9223372036854775807) (ho:o.op= .convert s d x:=by exact rfl) (hx:ev st.slots x=some (.int .u64 (a:Int),q):=by exact rfl):YE P st o (· = .int .i64 (a:Int)) (.val (.int .i64 (a:Int))):=
 ZyX hs hd ho hx (IntWalk.i64_in _ (by omega))
theorem Zlt {a:Nat} {b:Int} {kb:IntKind} (hb:b=1) (ho:o.op= .binOp .shr t x y t':=by exact rfl) (hx:ev st.slots x=some (.int .u64 (a:Int),q):=by exact rfl) (hy:ev st.slots y=some (.int kb b,q'):=by exact rfl):YE P st o (· = .int .u64 ((a / 2:Nat):Int)) (.val (.int .u64 ((a / 2:Nat):Int))):=
 y2 hx hy fun ρ w h3 h4=>by
  subst hb;have e:(a:Int).fdiv 2=((a / 2:Nat):Int):=by
   rw [Int.fdiv_eq_ediv_of_nonneg _ (by decide)];rfl
  simp [execOp,ho,h3,h4,eqGuard,binOp,Op.shift];exact e
end
end Go.En
namespace Go.Proofs.YtgfabnhpllkebaaGreatDoor
open Go.RowKit Go.Cb Go.En
set_option linter.all false
set_option maxRecDepth 100000
theorem ζA:AggT Tryz.prog 24 3=true:=by kernel_rfl
theorem ζO:SlT Tryz.prog 22 24 3=true:=by kernel_rfl
theorem ZhX (l:List Nd):(ZaB l).length=l.length*3:=by rw [Za9];exact flat_len ZiV l
theorem ZuY:∀(ps:List PV) (a b c:List PV) (j:Nat),a.length=j→b.length=ps.length→Zhu (a++b++c) j ps=a++ps++c
 | [],a,b,c,j,ha,hb=>by
   have:b=[]:=XP hb;subst this;rfl
 | p ::ps,a,x::b,c,j,ha,hb=>by
   rw [Zhu];have h1:(a++(x::b)++c).set j p=(a++[p])++b++c:=by
    subst ha;rw [Xw,Us _ _ (Xb _),VB];simp
   rw [h1,ZuY ps (a++[p]) b c (j+1) (by simp [ha]) (by simpa using hb)];simp
theorem ZoN (L:List Nd) (k:Nat) (x:Nd) (h:k<L.length):Zhu (ZaB L) (k*3) (cN x)=ZaB (L.set k x):=by
 rw [Za9,Za9]
 have e:L=L.take k++[L[k]]++L.drop (k+1):=by
  rw [Xw,List.singleton_append,List.getElem_cons_drop,Vt]
 have e2:L.set k x=L.take k++[x]++L.drop (k+1):=by
  rw [List.set_eq_take_append_cons_drop,if_pos h,Xw];rfl
 rw [e2]
 conv=>lhs;rw [e]
 simp only [XX,Vy]
 exact ZuY (cN x) _ _ _ _ (by rw [flat_len ZiV,Xt,XV (VZ h)]) rfl
theorem Zge {L:List Nd} {i j:Nat} {x y:Nd} (hx:L[i]? =some x) (hy:L[j]? =some y):Zhu (Zhu (ZaB L) (i*3) (cN y)) (j*3) (cN x)=ZaB (swp L i j):=by
 rw [ZoN L i y (ζi hx),ZoN _ j x (by rw [Xr];exact ζi hy),Zzn hx hy]
def Zch (hv:Value) (l:List Nd):List (Nat×Ent):=[(1000,hv, .own 24 3 l.length (ZaB l))]
theorem Zlu (l:List Nd) (hl:l.length≤1000000) (a b n:Nat) (h1:a+n≤b) (h2:b+n≤l.length) (hv:Value) (fv:Value) (f:Nat):AFh False Tryz.prog 291 [(0,hv, .val hv),(1, .int .i64 (a:Int),pInt a),(2, .int .i64 (b:Int),pInt b),(3, .int .i64 (n:Int),pInt n),(4,fv, .fn f [])] (Zch hv l) (fun v q h=>∃l',(∀k,l'[k]? =l[srI a b n k]?)∧Sw a (b+n) l l'∧h=Zch hv l'):=by
 unfold Zch
 refine AFh.of_body 38 Tryz.func291 rfl Tryz.ntmps291 (Xa rfl) rfl ?_
 intro w0 M0 N0
 refine nav ?_
 (refine ζa ?_<;>refine xL 10 ζc ?_<;>refine ζd ?_)
 refine ζD (ι:={q:Nat×List Nd//q.1≤n∧(∀k,q.2[k]? =l[srI a b q.1 k]?)∧Sw a (b+n) l q.2}) (fun k=>⟨[(0,_,_),(1,_,_),(2,_,_),(3,_,_),(10, .int .i64 k.1.1,pInt k.1.1)],[(1000,hv, .own 24 3 l.length (ZaB k.1.2))]⟩) (fun k=>n-k.1.1) ⟨(0,l),Xf _,fun k=>by rw [ZAQ], .refl _⟩ (fun a w H=>H.weaken ⟨rfl,rfl,rfl,rfl,rfl,trivial⟩ ⟨rfl,trivial⟩) ?_
 rintro ⟨⟨i,L⟩,hi,hL,hS⟩
 dsimp only
 dsimp only at hi hL hS;have hLl:=hS.len
 refine nav ?_
 (refine ζa ?_<;>refine xL 11 ζb (xL 12 ζb (xL 13 ζP ?_))<;>refine ζd ?_)
 (first|refine cCd ?_ ?_|refine cC ?_ ?_)<;>intro hb13
 · first
   |exact bN hb13
   | (
    (have hin:i<n:=by omega);obtain ⟨x,hx⟩:=ζo (show a+i<L.length by omega);obtain ⟨y,hy⟩:=ζo (show b+i<L.length by omega);have e1:=ζ4 hx;have e2:=Zak hx;have e3:=ζ4 hy;have e4:=Zak hy;have hsw:=Zge hx hy;have e5:(Zhu (ZaB L) ((a+i)*3) (cN y)).length=(ZaB L).length:=ZeV _ _ _;refine nav ?_;(refine ζV (fun i=>([]:List Nat).elem i) [] kR ?_<;>refine xD 0 16 rfl ζb ?_<;>refine xD 1 17 rfl ζb ?_<;>refine xD 2 18 rfl ζb ?_<;>refine xD 3 19 rfl ((ZcC (c:=((a+i:Nat):Int)))) ?_<;>refine xD 4 20 rfl ζb ?_<;>refine xD 5 21 rfl ζb ?_<;>refine xD 6 22 rfl ζb ?_<;>refine xD 7 23 rfl ((ZcC (c:=((b+i:Nat):Int)))) ?_<;>refine xD 8 24 rfl ζb ?_<;>refine xD 9 25 rfl ζb ?_<;>refine xD 10 26 rfl ζb ?_<;>refine xD 11 27 rfl ((ZcC (c:=((b+i:Nat):Int)))) ?_<;>refine xD 14 30 rfl ζb ?_<;>refine xD 15 31 rfl ζb ?_<;>refine xD 16 32 rfl ζb ?_<;>refine xD 17 33 rfl ((ZcC (c:=((a+i:Nat):Int)))) ?_<;>(refine Zat 12 18 kR ?_ ?_;rotate_right;(focus ((refine ζg rfl fun w9 M9 N9 DQ back=>?_)<;>refine xL 34 (ζu 1000 ζO) ?_<;>refine ζf (back _ (nrm ?_))<;>(refine Zat 12 19 kR ?_ ?_;rotate_right;(focus ((refine ζg rfl fun w9 M9 N9 DQ back=>?_)<;>(refine yL 35 (ζm 1000 ζA) fun v35 h=>?_;cases h)<;>refine ζf (back _ (nrm ?_))<;>(refine ζj 12 kR ?_)<;>(refine ζg rfl fun w9 M9 N9 DQ back=>?_)<;>refine xL 28 (ζu 1000 ζO) ?_<;>refine ζf (back _ (nrm ?_))<;>(refine ζj 13 kR ?_)<;>(refine ζg rfl fun w9 M9 N9 DQ back=>?_)<;>(refine yL 29 (ζm 1000 ζA) fun v29 h=>?_;cases h)<;>refine ζf (back _ (nrm ?_))<;>refine xE 20 36 rfl (ζu 1000 ζO) ?_<;>(refine ζj 21 kR ?_)<;>(refine ζg rfl fun w9 M9 N9 DQ back=>?_)<;>refine ζt 1000 ζA ?_<;>refine ζf (back _ (nrm ?_))<;>refine xE 22 37 rfl (ζu 1000 ζO) ?_<;>(refine ζj 23 kR ?_)<;>(refine ζg rfl fun w9 M9 N9 DQ back=>?_)<;>refine ζt 1000 ζA ?_<;>refine ζf (back _ (nrm ?_))));rotate_right;(focus ((refine ζg rfl fun w9 M9 N9 DQ back=>?_)<;>refine xL 28 (ζu 1000 ζO) ?_<;>refine ζf (back _ (nrm ?_))<;>(refine Zat 13 19 kR ?_ ?_;rotate_right;(focus ((refine ζg rfl fun w9 M9 N9 DQ back=>?_)<;>(refine yL 35 (ζm 1000 ζA) fun v35 h=>?_;cases h)<;>refine ζf (back _ (nrm ?_))<;>(refine ζj 13 kR ?_)<;>(refine ζg rfl fun w9 M9 N9 DQ back=>?_)<;>(refine yL 29 (ζm 1000 ζA) fun v29 h=>?_;cases h)<;>refine ζf (back _ (nrm ?_))<;>refine xE 20 36 rfl (ζu 1000 ζO) ?_<;>(refine ζj 21 kR ?_)<;>(refine ζg rfl fun w9 M9 N9 DQ back=>?_)<;>refine ζt 1000 ζA ?_<;>refine ζf (back _ (nrm ?_))<;>refine xE 22 37 rfl (ζu 1000 ζO) ?_<;>(refine ζj 23 kR ?_)<;>(refine ζg rfl fun w9 M9 N9 DQ back=>?_)<;>refine ζt 1000 ζA ?_<;>refine ζf (back _ (nrm ?_))));rotate_right;(focus ((refine ζg rfl fun w9 M9 N9 DQ back=>?_)<;>(refine yL 29 (ζm 1000 ζA) fun v29 h=>?_;cases h)<;>refine ζf (back _ (nrm ?_))<;>(refine ζj 19 kR ?_)<;>(refine ζg rfl fun w9 M9 N9 DQ back=>?_)<;>(refine yL 35 (ζm 1000 ζA) fun v35 h=>?_;cases h)<;>refine ζf (back _ (nrm ?_))<;>refine xE 20 36 rfl (ζu 1000 ζO) ?_<;>(refine ζj 21 kR ?_)<;>(refine ζg rfl fun w9 M9 N9 DQ back=>?_)<;>refine ζt 1000 ζA ?_<;>refine ζf (back _ (nrm ?_))<;>refine xE 22 37 rfl (ζu 1000 ζO) ?_<;>(refine ζj 23 kR ?_)<;>(refine ζg rfl fun w9 M9 N9 DQ back=>?_)<;>refine ζt 1000 ζA ?_<;>refine ζf (back _ (nrm ?_))))))))));rotate_right;(focus ((refine ζg rfl fun w9 M9 N9 DQ back=>?_)<;>refine xL 28 (ζu 1000 ζO) ?_<;>refine ζf (back _ (nrm ?_))<;>(refine Zat 13 18 kR ?_ ?_;rotate_right;(focus ((refine ζg rfl fun w9 M9 N9 DQ back=>?_)<;>refine xL 34 (ζu 1000 ζO) ?_<;>refine ζf (back _ (nrm ?_))<;>(refine Zat 13 19 kR ?_ ?_;rotate_right;(focus ((refine ζg rfl fun w9 M9 N9 DQ back=>?_)<;>(refine yL 35 (ζm 1000 ζA) fun v35 h=>?_;cases h)<;>refine ζf (back _ (nrm ?_))<;>(refine ζj 13 kR ?_)<;>(refine ζg rfl fun w9 M9 N9 DQ back=>?_)<;>(refine yL 29 (ζm 1000 ζA) fun v29 h=>?_;cases h)<;>refine ζf (back _ (nrm ?_))<;>refine xE 20 36 rfl (ζu 1000 ζO) ?_<;>(refine ζj 21 kR ?_)<;>(refine ζg rfl fun w9 M9 N9 DQ back=>?_)<;>refine ζt 1000 ζA ?_<;>refine ζf (back _ (nrm ?_))<;>refine xE 22 37 rfl (ζu 1000 ζO) ?_<;>(refine ζj 23 kR ?_)<;>(refine ζg rfl fun w9 M9 N9 DQ back=>?_)<;>refine ζt 1000 ζA ?_<;>refine ζf (back _ (nrm ?_))));rotate_right;(focus ((refine ζg rfl fun w9 M9 N9 DQ back=>?_)<;>(refine yL 29 (ζm 1000 ζA) fun v29 h=>?_;cases h)<;>refine ζf (back _ (nrm ?_))<;>(refine ζj 19 kR ?_)<;>(refine ζg rfl fun w9 M9 N9 DQ back=>?_)<;>(refine yL 35 (ζm 1000 ζA) fun v35 h=>?_;cases h)<;>refine ζf (back _ (nrm ?_))<;>refine xE 20 36 rfl (ζu 1000 ζO) ?_<;>(refine ζj 21 kR ?_)<;>(refine ζg rfl fun w9 M9 N9 DQ back=>?_)<;>refine ζt 1000 ζA ?_<;>refine ζf (back _ (nrm ?_))<;>refine xE 22 37 rfl (ζu 1000 ζO) ?_<;>(refine ζj 23 kR ?_)<;>(refine ζg rfl fun w9 M9 N9 DQ back=>?_)<;>refine ζt 1000 ζA ?_<;>refine ζf (back _ (nrm ?_)))))));rotate_right;(focus ((refine ζg rfl fun w9 M9 N9 DQ back=>?_)<;>(refine yL 29 (ζm 1000 ζA) fun v29 h=>?_;cases h)<;>refine ζf (back _ (nrm ?_))<;>(refine ζj 18 kR ?_)<;>(refine ζg rfl fun w9 M9 N9 DQ back=>?_)<;>refine xL 34 (ζu 1000 ζO) ?_<;>refine ζf (back _ (nrm ?_))<;>(refine ζj 19 kR ?_)<;>(refine ζg rfl fun w9 M9 N9 DQ back=>?_)<;>(refine yL 35 (ζm 1000 ζA) fun v35 h=>?_;cases h)<;>refine ζf (back _ (nrm ?_))<;>refine xE 20 36 rfl (ζu 1000 ζO) ?_<;>(refine ζj 21 kR ?_)<;>(refine ζg rfl fun w9 M9 N9 DQ back=>?_)<;>refine ζt 1000 ζA ?_<;>refine ζf (back _ (nrm ?_))<;>refine xE 22 37 rfl (ζu 1000 ζO) ?_<;>(refine ζj 23 kR ?_)<;>(refine ζg rfl fun w9 M9 N9 DQ back=>?_)<;>refine ζt 1000 ζA ?_<;>refine ζf (back _ (nrm ?_))))))))<;>refine Zae kR (nav ?_)<;>try dsimp only)<;>(
     (refine ζa ?_<;>refine xL 14 ζb (xL 15 ζM (xL 10 ζc ?_))<;>refine ζd ?_)
     rw [hsw];refine ζh (
      ⟨(i+1,swp L (a+i) (b+i)),hin,ZAP hin h1 (by omega) hL, .step _ _ hS (by omega) (by omega) (by omega) (by omega) h2⟩
      ) (by dsimp only;omega) ⟨rfl,rfl,rfl,rfl,rfl,trivial⟩ ⟨rfl,trivial⟩))
 · first
   |exact bN hb13
   | (
    refine nav ?_;(have hin:i=n:=by omega);subst hin;refine ZbT [(1000,hv, .own 24 3 l.length (ZaB L))] (Tryz.results291) ⟨rfl,trivial⟩ ⟨L,hL,hS,?_⟩;rw [hLl])
theorem ZuZ (l :List Nd) (hl:l.length≤1000000) (a m b:Nat) (h1:a<m) (h2:m<b) (h3:b≤l.length) (hv:Value) (fv:Value) (f:Nat):AFh False Tryz.prog 272 [(0,hv, .val hv),(1, .int .i64 (a:Int),pInt a),(2, .int .i64 (m:Int),pInt m),(3, .int .i64 (b:Int),pInt b),(4,fv, .fn f [])] (Zch hv l) (fun v q h=>∃l',(∀k,l'[k]? =l[Zls a m b k]?)∧Sw a b l l'∧h=Zch hv l'):=by
 unfold Zch
 refine AFh.of_body 58 Tryz.func272 rfl Tryz.ntmps272 (Xa rfl) rfl ?_
 intro w0 M0 N0
 refine nav ?_
 (refine ζa ?_<;>refine xL 12 ζb (xL 13 ζb ?_)<;>refine xL 14 ((ZbF (c:=((m-a:Nat):Int)))) ?_<;>refine xL 10 ζc ?_<;>refine ζd ?_)
 (refine ζa ?_<;>refine xL 15 ζb (xL 16 ζb ?_)<;>refine xL 17 ((ZbF (c:=((b-m:Nat):Int)))) ?_<;>refine xL 11 ζc ?_<;>refine ζd ?_)
 refine ζD (ι:={q:Nat×Nat×List Nd//0<q.1∧0<q.2.1∧q.1≤m-a∧q.2.1≤b-m∧(∀k,q.2.2[Zls (m-q.1) m (m+q.2.1) k]? =l[Zls a m b k]?)∧Sw a b l q.2.2}) (fun k=>⟨[(0,_,_),(1,_,_),(2,_,_),(3,_,_),(4,_,_),(10, .int .i64 k.1.1,pInt k.1.1),(11, .int .i64 k.1.2.1,pInt k.1.2.1)],[(1000,hv, .own 24 3 l.length (ZaB k.1.2.2))]⟩) (fun k=>k.1.1+k.1.2.1) ⟨(m-a,b-m,l),by dsimp only;omega,by dsimp only;omega,Xb _,Xb _,fun k=>by dsimp only;rw [show m-(m-a)=a by omega,show m+(b-m)=b by omega], .refl _⟩ (fun a w H=>H.weaken ⟨rfl,rfl,rfl,rfl,rfl,rfl,rfl,trivial⟩ ⟨rfl,trivial⟩) ?_
 rintro ⟨⟨i,j,L⟩,hi0,hj0,hi,hj,hL,hS⟩
 dsimp only
 dsimp only at hi0 hj0 hi hj hL hS;have hLl:=hS.len
 refine nav ?_
 (refine ζa ?_<;>refine xL 18 ζb (xL 19 ζb (xL 20 ZaN ?_))<;>refine ζd ?_)
 (first|refine cCd ?_ ?_|refine cC ?_ ?_)<;>intro hb20
 · first
   |exact bN hb20
   | (
    refine nav ?_;(refine ζa ?_<;>refine xL 21 ζb (xL 22 ζb (xL 23 ZaQ ?_))<;>refine ζd ?_)
    (first|refine cCd ?_ ?_|refine cC ?_ ?_)<;>intro hb23
    · first
      |exact bN hb23
      | (
       refine nav ?_;(refine ζa ?_<;>refine xL 24 ζb (xL 25 ζb (xL 26 ζb ?_))<;>refine xL 27 ((ZbF (c:=((m-i:Nat):Int)))) ?_<;>refine xL 28 ζb (xL 29 ζb (xL 30 ζb ?_))<;>(refine ζ3 (Zch hv L) ⟨by rw [←hLl];rfl,trivial⟩ ?_;refine Zaa [] 31 (Tryz.call291) (Zlu L (by omega) (m-i) m j (by omega) (by omega) hv fv f) (fun v31 p31 h31 hR31=>?_);obtain ⟨L2,hL2,hS2,rfl⟩:=hR31;have hL2l:=hS2.len.trans hLl;dsimp only [Zch];rw [hL2l])<;>refine ζd ?_)
       (refine ζa ?_<;>refine xL 32 ζb (xL 33 ζb ?_)<;>refine xL 34 ((ZbF (c:=((i-j:Nat):Int)))) ?_<;>refine xL 10 ζc ?_<;>refine ζd ?_)
       first
        | (exact ζh (
            ⟨(i-j,j,L2),by dsimp only;omega,hj0,by dsimp only;omega,hj,fun k=>by
              dsimp only;rw [hL2,show m-(i-j)=m-i+j by omega,Zzo (by omega) (by omega)];exact hL k,hS.trans (hS2.mono (by omega) (by omega) (by omega))⟩
            ) (by dsimp only;omega) ⟨rfl,rfl,rfl,rfl,rfl,rfl,rfl,trivial⟩ ⟨rfl,trivial⟩)
        | (exact ζh (
            ⟨(i,j-i,L2),hi0,by dsimp only;omega,hi,by dsimp only;omega,fun k=>by
              dsimp only;rw [hL2,show m+(j-i)=m+j-i by omega,Zzp (by omega) (by omega)];exact hL k,hS.trans (hS2.mono (by omega) (by omega) (by omega))⟩
            ) (by dsimp only;omega) ⟨rfl,rfl,rfl,rfl,rfl,rfl,rfl,trivial⟩ ⟨rfl,trivial⟩))
    · first
      |exact bN hb23
      | (
       refine nav ?_;(refine ζa ?_<;>refine xL 35 ζb (xL 36 ζb (xL 37 ζb ?_))<;>refine xL 38 ((ZbF (c:=((m-i:Nat):Int)))) ?_<;>refine xL 39 ζb (xL 40 ζb ?_)<;>refine xL 41 ((ZcC (c:=((m+j:Nat):Int)))) ?_<;>refine xL 42 ζb ?_<;>refine xL 43 ((ZbF (c:=((m+j-i:Nat):Int)))) ?_<;>refine xL 44 ζb (xL 45 ζb ?_)<;>(refine ζ3 (Zch hv L) ⟨by rw [←hLl];rfl,trivial⟩ ?_;refine Zaa [] 46 (Tryz.call291) (Zlu L (by omega) (m-i) (m+j-i) i (by omega) (by omega) hv fv f) (fun v46 p46 h46 hR46=>?_);obtain ⟨L2,hL2,hS2,rfl⟩:=hR46;have hL2l:=hS2.len.trans hLl;dsimp only [Zch];rw [hL2l])<;>refine ζd ?_)
       (refine ζa ?_<;>refine xL 47 ζb (xL 48 ζb ?_)<;>refine xL 49 ((ZbF (c:=((j-i:Nat):Int)))) ?_<;>refine xL 11 ζc ?_<;>refine ζd ?_)
       first
        | (exact ζh (
            ⟨(i-j,j,L2),by dsimp only;omega,hj0,by dsimp only;omega,hj,fun k=>by
              dsimp only;rw [hL2,show m-(i-j)=m-i+j by omega,Zzo (by omega) (by omega)];exact hL k,hS.trans (hS2.mono (by omega) (by omega) (by omega))⟩
            ) (by dsimp only;omega) ⟨rfl,rfl,rfl,rfl,rfl,rfl,rfl,trivial⟩ ⟨rfl,trivial⟩)
        | (exact ζh (
            ⟨(i,j-i,L2),hi0,by dsimp only;omega,hi,by dsimp only;omega,fun k=>by
              dsimp only;rw [hL2,show m+(j-i)=m+j-i by omega,Zzp (by omega) (by omega)];exact hL k,hS.trans (hS2.mono (by omega) (by omega) (by omega))⟩
            ) (by dsimp only;omega) ⟨rfl,rfl,rfl,rfl,rfl,rfl,rfl,trivial⟩ ⟨rfl,trivial⟩)))
 · first
   |exact bN hb20
   | (
    (have hij:j=i:=by omega);subst hij;refine nav ?_;(refine ζa ?_<;>refine xL 50 ζb (xL 51 ζb (xL 52 ζb ?_))<;>refine xL 53 ((ZbF (c:=((m-j:Nat):Int)))) ?_<;>refine xL 54 ζb (xL 55 ζb (xL 56 ζb ?_))<;>(refine ζ3 (Zch hv L) ⟨by rw [←hLl];rfl,trivial⟩ ?_;refine Zaa [] 57 (Tryz.call291) (Zlu L (by omega) (m-j) m j (by omega) (by omega) hv fv f) (fun v57 p57 h57 hR57=>?_);obtain ⟨L2,hL2,hS2,rfl⟩:=hR57;have hL2l:=hS2.len.trans hLl;dsimp only [Zch])<;>refine ζd ?_)
    refine ZbT (Zch hv L2) (Tryz.results272) ⟨rfl,trivial⟩ ⟨L2,fun k=>?_,hS.trans (hS2.mono (by omega) (by omega) (by omega)),rfl⟩;rw [hL2,ZCX (by omega)];exact hL k)
theorem Zhd {a b:Nat} {l L:List Nd} (h:Sw a b l L) {x:Nd} (hx:x∈L):x∈l:=h.perm.mem_iff.1 hx
theorem Zc4 {x y:Nd} (h:¬Zcm x y<0):leT y x:=Zuo.1 h
theorem Zzs (f:Nat) (hc:∀args w,(callFunc f args).run Tryz.prog w= .ok (.enter f args) w) (l:List Nd) (hl:l.length≤1000000) (hf:∀x∈l,∀y∈l,AF Tryz.prog f [pTr x,pTr y] (· =pInt (Zcm x y))) (a b:Nat) (h1:a≤b) (h2:b≤l.length) (hv:Value) (fv:Value):AFh False Tryz.prog 248 [(0,hv, .val hv),(1, .int .i64 (a:Int),pInt a),(2, .int .i64 (b:Int),pInt b),(3,fv, .fn f [])] (Zch hv l) (fun v q h=>∃l',Sw a b l l'∧SrtS leT a b l'∧h=Zch hv l'):=by
 unfold Zch
 refine AFh.of_body 53 Tryz.func248 rfl Tryz.ntmps248 (Xa rfl) rfl ?_
 intro w0 M0 N0
 refine nav ?_
 (refine ζa ?_<;>refine xL 10 ζb ?_<;>refine xL 11 ((ZcC (c:=((a+1:Nat):Int)))) ?_<;>refine xL 8 ζc ?_<;>refine ζd ?_)
 refine ζD (ι:={q:Nat×List Nd//a+1≤q.1∧(q.1≤b∨b≤a+1)∧Sw a b l q.2∧SrtS leT a q.1 q.2}) (fun k=>⟨[(0,_,_),(1,_,_),(2,_,_),(3,_,_),(8, .int .i64 k.1.1,pInt k.1.1)],[(1000,hv, .own 24 3 l.length (ZaB k.1.2))]⟩) (fun k=>b-k.1.1) ⟨(a+1,l),Xb _,by dsimp only;omega, .refl _, .small leT _ (Xb _)⟩ (fun a w H=>H.weaken ⟨rfl,rfl,rfl,rfl,rfl,trivial⟩ ⟨rfl,trivial⟩) ?_
 rintro ⟨⟨i,L0⟩,hi1,hi2,hS0,hO0⟩
 dsimp only
 dsimp only at hi1 hi2 hS0 hO0
 refine nav ?_
 (refine ζa ?_<;>refine xL 12 ζb (xL 13 ζb (xL 14 ζP ?_))<;>refine ζd ?_)
 (first|refine cCd ?_ ?_|refine cC ?_ ?_)<;>intro hb14
 · first
   |exact bN hb14
   | (
    refine nav ?_;(refine ζa ?_<;>refine xL 17 ζb (xL 9 ζc ?_)<;>refine ζd ?_)
    refine ζD (ι:={q:Nat×List Nd//a≤q.1∧q.1≤i∧Sw a b l q.2∧ZCW leT a i q.1 q.2}) (fun k=>⟨[(0,_,_),(1,_,_),(2,_,_),(3,_,_),(8,_,_),(9, .int .i64 k.1.1,pInt k.1.1)],[(1000,hv, .own 24 3 l.length (ZaB k.1.2))]⟩) (fun k=>k.1.1) ⟨(i,L0),by dsimp only;omega,Xb _,hS0,ZuS leT hO0⟩ (fun a w H=>H.weaken ⟨rfl,rfl,rfl,rfl,rfl,rfl,trivial⟩ ⟨rfl,trivial⟩) ?_;rintro ⟨⟨j,L⟩,hj1,hj2,hS,hI⟩;dsimp only;dsimp only at hj1 hj2 hS hI;have hLl:=hS.len;refine nav ?_;(refine ζV (fun i=>([]:List Nat).elem i) [1000] kR ?_<;>refine xD 0 18 rfl ζb ?_<;>refine xE 1 19 rfl ζb ?_<;>refine xE 2 20 rfl ZaQ ?_<;>refine xE 3 21 rfl ζb ?_<;>(refine bDd 21 (fun hb21=>?_) (fun hb21=>?_)<;>(first|refine kD 4 22 rfl ?_|refine xD 4 22 rfl ζb ?_))<;>(first|refine kD 5 23 rfl ?_|(obtain ⟨k,rfl⟩:∃k,j=k+1:=⟨j-1,by omega⟩;obtain ⟨x,hx⟩:=ζo (show k+1<L.length by omega);obtain ⟨y,hy⟩:=ζo (show k<L.length by omega);have e1:=ζ4 hx;have e2:=Zak hx;have e3:=ζ4 hy;have e4:=Zak hy;have hsw:=Zge hx hy;have e5:(Zhu (ZaB L) ((k+1)*3) (cN y)).length=(ZaB L).length:=ZeV _ _ _;refine xD 5 23 rfl ζb ?_))<;>(first|refine kD 6 24 rfl ?_|refine xD 6 24 rfl ζb ?_)<;>(first|refine kD 7 25 rfl ?_|refine xD 7 25 rfl (ζu 1000 ζO) ?_)<;>(first|refine kD 8 26 rfl ?_|(refine yD 8 26 rfl (ζm 1000 ζA) fun v26 h=>?_;cases h))<;>(first|refine kD 9 27 rfl ?_|refine xD 9 27 rfl ζb ?_)<;>(first|refine kD 10 28 rfl ?_|refine xD 10 28 rfl ζb ?_)<;>(first|refine kD 11 29 rfl ?_|refine xD 11 29 rfl ((ZbF (c:=((k:Nat):Int)))) ?_)<;>(first|refine kD 12 30 rfl ?_|refine xD 12 30 rfl (ζu 1000 ζO) ?_)<;>(first|refine kD 13 31 rfl ?_|(refine yD 13 31 rfl (ζm 1000 ζA) fun v31 h=>?_;cases h))<;>(refine ζj 14 kR ?_)<;>(first|(refine Zdt (d:=32) rfl (Zjr (f:=f) (ps:=[]) rfl ⟨_,rfl⟩ hc rfl (hf x (Zhd hS (Xg hx)) y (Zhd hS (Xg hy)))) fun v32 h=>?_;cases h)|(refine ζg rfl fun w9 M9 N9 DQ back=>?_;refine kL 32 ?_;refine ζf (back _ (nrm ?_))))<;>(first|refine kD 15 33 rfl ?_|refine xD 15 33 rfl ζP ?_)<;>refine xE 16 34 rfl ζv ?_<;>refine Zae kR (nav ?_)<;>try dsimp only)<;>(
     (first|refine cCd ?_ ?_|refine cC ?_ ?_)<;>intro hb34
     · first
       |exact bN hb34
       | (
        refine nav ?_;(refine ζV (fun i=>([]:List Nat).elem i) [] kR ?_<;>refine xD 0 37 rfl ζb ?_<;>refine xD 1 38 rfl ζb ?_<;>refine xD 2 39 rfl ζb ?_<;>refine xD 3 40 rfl ζb ?_<;>refine xD 4 41 rfl ((ZbF (c:=((k:Nat):Int)))) ?_<;>refine xD 5 42 rfl ζb ?_<;>refine xD 6 43 rfl ζb ?_<;>refine xD 7 44 rfl ((ZbF (c:=((k:Nat):Int)))) ?_<;>refine xD 10 47 rfl ζb ?_<;>refine xD 11 48 rfl ζb ?_<;>(refine Zat 8 12 kR ?_ ?_;rotate_right;(focus ((refine ζg rfl fun w9 M9 N9 DQ back=>?_)<;>refine xL 49 (ζu 1000 ζO) ?_<;>refine ζf (back _ (nrm ?_))<;>(refine Zat 8 13 kR ?_ ?_;rotate_right;(focus ((refine ζg rfl fun w9 M9 N9 DQ back=>?_)<;>(refine yL 50 (ζm 1000 ζA) fun v50 h=>?_;cases h)<;>refine ζf (back _ (nrm ?_))<;>(refine ζj 8 kR ?_)<;>(refine ζg rfl fun w9 M9 N9 DQ back=>?_)<;>refine xL 45 (ζu 1000 ζO) ?_<;>refine ζf (back _ (nrm ?_))<;>(refine ζj 9 kR ?_)<;>(refine ζg rfl fun w9 M9 N9 DQ back=>?_)<;>(refine yL 46 (ζm 1000 ζA) fun v46 h=>?_;cases h)<;>refine ζf (back _ (nrm ?_))<;>refine xE 14 51 rfl (ζu 1000 ζO) ?_<;>(refine ζj 15 kR ?_)<;>(refine ζg rfl fun w9 M9 N9 DQ back=>?_)<;>refine ζt 1000 ζA ?_<;>refine ζf (back _ (nrm ?_))<;>refine xE 16 52 rfl (ζu 1000 ζO) ?_<;>(refine ζj 17 kR ?_)<;>(refine ζg rfl fun w9 M9 N9 DQ back=>?_)<;>refine ζt 1000 ζA ?_<;>refine ζf (back _ (nrm ?_))));rotate_right;(focus ((refine ζg rfl fun w9 M9 N9 DQ back=>?_)<;>refine xL 45 (ζu 1000 ζO) ?_<;>refine ζf (back _ (nrm ?_))<;>(refine Zat 9 13 kR ?_ ?_;rotate_right;(focus ((refine ζg rfl fun w9 M9 N9 DQ back=>?_)<;>(refine yL 50 (ζm 1000 ζA) fun v50 h=>?_;cases h)<;>refine ζf (back _ (nrm ?_))<;>(refine ζj 9 kR ?_)<;>(refine ζg rfl fun w9 M9 N9 DQ back=>?_)<;>(refine yL 46 (ζm 1000 ζA) fun v46 h=>?_;cases h)<;>refine ζf (back _ (nrm ?_))<;>refine xE 14 51 rfl (ζu 1000 ζO) ?_<;>(refine ζj 15 kR ?_)<;>(refine ζg rfl fun w9 M9 N9 DQ back=>?_)<;>refine ζt 1000 ζA ?_<;>refine ζf (back _ (nrm ?_))<;>refine xE 16 52 rfl (ζu 1000 ζO) ?_<;>(refine ζj 17 kR ?_)<;>(refine ζg rfl fun w9 M9 N9 DQ back=>?_)<;>refine ζt 1000 ζA ?_<;>refine ζf (back _ (nrm ?_))));rotate_right;(focus ((refine ζg rfl fun w9 M9 N9 DQ back=>?_)<;>(refine yL 46 (ζm 1000 ζA) fun v46 h=>?_;cases h)<;>refine ζf (back _ (nrm ?_))<;>(refine ζj 13 kR ?_)<;>(refine ζg rfl fun w9 M9 N9 DQ back=>?_)<;>(refine yL 50 (ζm 1000 ζA) fun v50 h=>?_;cases h)<;>refine ζf (back _ (nrm ?_))<;>refine xE 14 51 rfl (ζu 1000 ζO) ?_<;>(refine ζj 15 kR ?_)<;>(refine ζg rfl fun w9 M9 N9 DQ back=>?_)<;>refine ζt 1000 ζA ?_<;>refine ζf (back _ (nrm ?_))<;>refine xE 16 52 rfl (ζu 1000 ζO) ?_<;>(refine ζj 17 kR ?_)<;>(refine ζg rfl fun w9 M9 N9 DQ back=>?_)<;>refine ζt 1000 ζA ?_<;>refine ζf (back _ (nrm ?_))))))))));rotate_right;(focus ((refine ζg rfl fun w9 M9 N9 DQ back=>?_)<;>refine xL 45 (ζu 1000 ζO) ?_<;>refine ζf (back _ (nrm ?_))<;>(refine Zat 9 12 kR ?_ ?_;rotate_right;(focus ((refine ζg rfl fun w9 M9 N9 DQ back=>?_)<;>refine xL 49 (ζu 1000 ζO) ?_<;>refine ζf (back _ (nrm ?_))<;>(refine Zat 9 13 kR ?_ ?_;rotate_right;(focus ((refine ζg rfl fun w9 M9 N9 DQ back=>?_)<;>(refine yL 50 (ζm 1000 ζA) fun v50 h=>?_;cases h)<;>refine ζf (back _ (nrm ?_))<;>(refine ζj 9 kR ?_)<;>(refine ζg rfl fun w9 M9 N9 DQ back=>?_)<;>(refine yL 46 (ζm 1000 ζA) fun v46 h=>?_;cases h)<;>refine ζf (back _ (nrm ?_))<;>refine xE 14 51 rfl (ζu 1000 ζO) ?_<;>(refine ζj 15 kR ?_)<;>(refine ζg rfl fun w9 M9 N9 DQ back=>?_)<;>refine ζt 1000 ζA ?_<;>refine ζf (back _ (nrm ?_))<;>refine xE 16 52 rfl (ζu 1000 ζO) ?_<;>(refine ζj 17 kR ?_)<;>(refine ζg rfl fun w9 M9 N9 DQ back=>?_)<;>refine ζt 1000 ζA ?_<;>refine ζf (back _ (nrm ?_))));rotate_right;(focus ((refine ζg rfl fun w9 M9 N9 DQ back=>?_)<;>(refine yL 46 (ζm 1000 ζA) fun v46 h=>?_;cases h)<;>refine ζf (back _ (nrm ?_))<;>(refine ζj 13 kR ?_)<;>(refine ζg rfl fun w9 M9 N9 DQ back=>?_)<;>(refine yL 50 (ζm 1000 ζA) fun v50 h=>?_;cases h)<;>refine ζf (back _ (nrm ?_))<;>refine xE 14 51 rfl (ζu 1000 ζO) ?_<;>(refine ζj 15 kR ?_)<;>(refine ζg rfl fun w9 M9 N9 DQ back=>?_)<;>refine ζt 1000 ζA ?_<;>refine ζf (back _ (nrm ?_))<;>refine xE 16 52 rfl (ζu 1000 ζO) ?_<;>(refine ζj 17 kR ?_)<;>(refine ζg rfl fun w9 M9 N9 DQ back=>?_)<;>refine ζt 1000 ζA ?_<;>refine ζf (back _ (nrm ?_)))))));rotate_right;(focus ((refine ζg rfl fun w9 M9 N9 DQ back=>?_)<;>(refine yL 46 (ζm 1000 ζA) fun v46 h=>?_;cases h)<;>refine ζf (back _ (nrm ?_))<;>(refine ζj 12 kR ?_)<;>(refine ζg rfl fun w9 M9 N9 DQ back=>?_)<;>refine xL 49 (ζu 1000 ζO) ?_<;>refine ζf (back _ (nrm ?_))<;>(refine ζj 13 kR ?_)<;>(refine ζg rfl fun w9 M9 N9 DQ back=>?_)<;>(refine yL 50 (ζm 1000 ζA) fun v50 h=>?_;cases h)<;>refine ζf (back _ (nrm ?_))<;>refine xE 14 51 rfl (ζu 1000 ζO) ?_<;>(refine ζj 15 kR ?_)<;>(refine ζg rfl fun w9 M9 N9 DQ back=>?_)<;>refine ζt 1000 ζA ?_<;>refine ζf (back _ (nrm ?_))<;>refine xE 16 52 rfl (ζu 1000 ζO) ?_<;>(refine ζj 17 kR ?_)<;>(refine ζg rfl fun w9 M9 N9 DQ back=>?_)<;>refine ζt 1000 ζA ?_<;>refine ζf (back _ (nrm ?_))))))))<;>refine Zae kR (nav ?_)<;>try dsimp only)<;>(
         (refine ζa ?_<;>refine xL 35 ζb ?_<;>refine xL 36 ((ZbF (c:=((k:Nat):Int)))) ?_<;>refine xL 9 ζc ?_<;>refine ζd ?_)
         rw [hsw];refine ζh (
          ⟨(k,swp L (k+1) k),by dsimp only;omega,by dsimp only;omega, .step _ _ hS (by omega) (by omega) (by omega) (by omega) h2,ZxM leT hI (by omega) (by omega) (by omega) hx hy (by unfold leT;omega)⟩
          ) (by dsimp only;omega) ⟨rfl,rfl,rfl,rfl,rfl,rfl,trivial⟩ ⟨rfl,trivial⟩))
     · first
       |exact bN hb34
       | (
        refine nav ?_;(refine ζa ?_<;>refine xL 15 ζb (xL 16 ζM (xL 8 ζc ?_))<;>refine ζd ?_)
        first
         | (exact ζh (
             ⟨(i+1,L),by dsimp only;omega,by dsimp only;omega,hS,ZuT leT Zcn (fun _ _ _=>ZbL) hI (by omega) (by omega) (show i<L.length by omega) (.inr ⟨k,y,x,rfl,hy,hx,Zc4 (by omega)⟩)⟩
             ) (by dsimp only;omega) ⟨rfl,rfl,rfl,rfl,rfl,trivial⟩ ⟨rfl,trivial⟩)
         | (exact ζh (
             ⟨(i+1,L),by dsimp only;omega,by dsimp only;omega,hS,ZuT leT Zcn (fun _ _ _=>ZbL) hI (by omega) (by omega) (show i<L.length by omega) (.inl (by omega))⟩
             ) (by dsimp only;omega) ⟨rfl,rfl,rfl,rfl,rfl,trivial⟩ ⟨rfl,trivial⟩))))
 · first
   |exact bN hb14
   | (
    refine nav ?_;refine ZbT [(1000,hv, .own 24 3 l.length (ZaB L0))] (Tryz.results248) ⟨rfl,trivial⟩ ⟨L0,hS0,hO0.sub _ (Xb _) (by omega),by rw [hS0.len]⟩)
theorem ζy:AggT Tryz.prog 24 3=true:=by kernel_rfl
theorem ζK:SlT Tryz.prog 22 24 3=true:=by kernel_rfl
theorem Zlv {a s m:Nat} {l:List Nd} (h1:a≤s) (h2:s≤m) (h:¬(a<s∧s<m)) (g1:SrtS leT a s l) (g2:SrtS leT s m l):SrtS leT a m l:=by
 rcases Xq a s with h3|h3
 · have:s=m:=by omega
   subst this;exact g1
 · have:s=a:=by omega
   subst this;exact g2
theorem Zzt {s m e k:Nat} (h1:s≤m) (h2:m≤e) (h:¬(s<m∧m<e)):Zls s m e k=k:=by
 unfold Zls
 split
 · rfl
 · split<;>omega
def BsT (m b i j:Nat) (x:Nd) (l:List Nd):Prop:=m≤i∧i≤j∧j≤b∧(∀q y,m≤q→q<i→l[q]? =some y→leT y x)∧(∀q y,j≤q→q<b→l[q]? =some y→leT x y)
theorem ZqL (m b:Nat) (x:Nd) (l:List Nd) (h:m≤b):BsT m b m b x l:=⟨Xb _,h,Xb _,fun q y h1 h2=>by omega,fun q y h1 h2=>by omega⟩
theorem ZxR {m b i j c:Nat} {x y:Nd} {l:List Nd} (h:BsT m b i j x l) (hs:SrtS leT m b l) (h1:i≤c) (h2:c<j) (hy:l[c]? =some y) (hle:leT y x):BsT m b (c+1) j x l:=by
 obtain ⟨e1,e2,e3,e4,e5⟩:=h
 refine ⟨by omega,by omega,e3,fun q z k1 k2 hz=>?_,e5⟩
 exact ZbL (hs.eqv leT Zcn k1 (show q≤c by omega) (by omega) hz hy) hle
theorem Zlw {m b i j c:Nat} {x y:Nd} {l:List Nd} (h:BsT m b i j x l) (hs:SrtS leT m b l) (h1:i≤c) (h2:c<j) (hy:l[c]? =some y) (hle:leT x y):BsT m b i c x l:=by
 obtain ⟨e1,e2,e3,e4,e5⟩:=h
 refine ⟨e1,by omega,by omega,e4,fun q z k1 k2 hz=>?_⟩
 exact ZbL hle (hs.eqv leT Zcn (show m≤c by omega) k1 k2 hy hz)
set_option maxHeartbeats 4000000 in
theorem Zzu (f : Nat) (hc:∀args w,(callFunc f args).run Tryz.prog w= .ok (.enter f args) w) (hv:Value) (fv:Value):∀(n:Nat) (l:List Nd) (hl:l.length≤1000000) (hf:∀x∈l,∀y∈l,AF Tryz.prog f [pTr x,pTr y] (· =pInt (Zcm x y))) (a m b:Nat) (hn:b-a≤n) (h1:a<m) (h2:m<b) (h3:b≤l.length) (s1:SrtS leT a m l) (s2:SrtS leT m b l),AFh False Tryz.prog 249 [(0,hv, .val hv),(1, .int .i64 (a:Int),pInt a),(2, .int .i64 (m:Int),pInt m),(3, .int .i64 (b:Int),pInt b),(4,fv, .fn f [])] (Zch hv l) (fun v q h=>∃l',Sw a b l l'∧SrtS leT a b l'∧h=Zch hv l'):=fun n=>by
 induction n with
 |zero=>intro l hl hf a m b hn h1 h2;omega
 |succ n ih=>?_
 intro l hl hf a m b hn h1 h2 h3 s1 s2
 unfold Zch
 obtain ⟨xa,hxa⟩:=ζo (show a<l.length by omega)
 obtain ⟨xm,hxm⟩:=ζo (show m<l.length by omega)
 have ea:=ζ4 hxa
 have ea2:=Zak hxa
 have em:=ζ4 hxm
 have em2:=Zak hxm
 refine AFh.of_body 220 Tryz.func249 rfl Tryz.ntmps249 (Xa rfl) rfl ?_
 intro w0 M0 N0
 refine nav ?_
 (refine ζa ?_<;>refine xL 25 ζb (xL 26 ζb (xL 27 ZgB (xL 28 ζY ?_)))<;>refine ζd ?_)
 (first|refine cCd ?_ ?_|refine cC ?_ ?_)<;>intro hb28
 · first
   |exact bN hb28
   | (
    refine nav ?_;(refine ζa ?_<;>refine xL 29 ζb (xL 10 ζc ?_)<;>refine ζd ?_)
    (refine ζa ?_<;>refine xL 30 ζb (xL 11 ζc ?_)<;>refine ζd ?_)
    refine ζD (ι:={q:Nat×Nat//BsT m b q.1 q.2 xa l}) (fun k=>⟨[(0,_,_),(1,_,_),(2,_,_),(3,_,_),(4,_,_),(10, .int .i64 k.1.1,pInt k.1.1),(11, .int .i64 k.1.2,pInt k.1.2)],[(1000,hv, .own 24 3 l.length (ZaB l))]⟩) (fun k=>k.1.2-k.1.1) ⟨(m,b),ZqL m b xa l (by omega)⟩ (fun a w H=>H.weaken ⟨rfl,rfl,rfl,rfl,rfl,rfl,rfl,trivial⟩ ⟨rfl,trivial⟩) ?_;rintro ⟨⟨i,j⟩,hB⟩;dsimp only;dsimp only at hB;have hB1:=hB.1;have hB2:=hB.2.1;have hB3:=hB.2.2.1;refine nav ?_;(refine ζa ?_<;>refine xL 31 ζb (xL 32 ζb (xL 33 ζP ?_))<;>refine ζd ?_)
    (first|refine cCd ?_ ?_|refine cC ?_ ?_)<;>intro hb33
    · first
      |exact bN hb33
      | (
       refine nav ?_;(refine ζa ?_<;>refine xL 34 ζb (xL 35 ζb ?_)<;>refine xL 36 ((ZcC (c:=((i+j:Nat):Int)))) ?_<;>refine xL 37 ((ZxP (a:=i+j) rfl rfl (by omega))) ?_<;>refine xL 38 ((Zlt (a:=i+j) rfl)) ?_<;>refine xL 39 ((ZxQ (a:=(i+j) / 2) rfl rfl (by omega))) ?_<;>refine xL 12 ζc ?_<;>refine ζd ?_)
       obtain ⟨y,hy⟩:=ζo (show (i+j) / 2<l.length by omega);have e3:=ζ4 hy;have e4:=Zak hy;(refine ζV (fun i=>([]:List Nat).elem i) [1000] kR ?_<;>refine xD 0 40 rfl ζb ?_<;>refine xD 1 41 rfl ζb ?_<;>refine xD 2 42 rfl ζb ?_<;>refine xD 3 43 rfl (ζu 1000 ζK) ?_<;>(refine yD 4 44 rfl (ζm 1000 ζy) fun v44 h=>?_;cases h)<;>refine xD 5 45 rfl ζb ?_<;>refine xE 6 46 rfl ζb ?_<;>refine xE 7 47 rfl (ζu 1000 ζK) ?_<;>(refine yE 8 48 rfl (ζm 1000 ζy) fun v48 h=>?_;cases h)<;>(refine ζj 9 kR ?_)<;>(refine Zdt (d:=49) rfl (Zjr (f:=f) (ps:=[]) rfl ⟨_,rfl⟩ hc rfl (hf y (Xg hy) xa (Xg hxa))) fun v49 h=>?_;cases h)<;>refine xE 10 50 rfl ζP ?_<;>refine Zae kR (nav ?_)<;>try dsimp only)
       (first|refine cCd ?_ ?_|refine cC ?_ ?_)<;>intro hb50
       · first
         |exact bN hb50
         | (
          refine nav ?_;(refine ζa ?_<;>refine xL 51 ζb (xL 52 ζM (xL 10 ζc ?_))<;>refine ζd ?_)
          first
           | (exact ζh (
               ⟨((i+j) / 2+1,j),ZxR hB s2 (by omega) (by omega) hy (by unfold leT;omega)⟩
               ) (by dsimp only;omega) ⟨rfl,rfl,rfl,rfl,rfl,rfl,rfl,trivial⟩ ⟨rfl,trivial⟩)
           | (exact ζh (
               ⟨(i,(i+j) / 2),Zlw hB s2 (by omega) (by omega) hy (Zc4 (by omega))⟩
               ) (by dsimp only;omega) ⟨rfl,rfl,rfl,rfl,rfl,rfl,rfl,trivial⟩ ⟨rfl,trivial⟩))
       · first
         |exact bN hb50
         | (
          refine nav ?_;(refine ζa ?_<;>refine xL 53 ζb (xL 11 ζc ?_)<;>refine ζd ?_)
          first
           | (exact ζh (
               ⟨((i+j) / 2+1,j),ZxR hB s2 (by omega) (by omega) hy (by unfold leT;omega)⟩
               ) (by dsimp only;omega) ⟨rfl,rfl,rfl,rfl,rfl,rfl,rfl,trivial⟩ ⟨rfl,trivial⟩)
           | (exact ζh (
               ⟨(i,(i+j) / 2),Zlw hB s2 (by omega) (by omega) hy (Zc4 (by omega))⟩
               ) (by dsimp only;omega) ⟨rfl,rfl,rfl,rfl,rfl,rfl,rfl,trivial⟩ ⟨rfl,trivial⟩)))
    · first
      |exact bN hb33
      | (
       (have hij:j=i:=by omega);subst hij;have hM:Mov leT a b a j l:=ZuV leT (by rw [show a+1=m by omega];exact s2) (by omega) (fun q x y h4 h5 hx hy=>by
        rw [hxa] at hx;cases hx;exact hB.2.2.2.1 q y (by omega) h5 hy) (fun q x y h4 h5 hx hy=>by
        rw [hxa] at hx;cases hx;exact hB.2.2.2.2 q y h4 h5 hy)
       refine nav ?_;(refine ζa ?_<;>refine xL 54 ζb (xL 13 ζc ?_)<;>refine ζd ?_)
       refine ζD (ι:={q:Nat×List Nd//a≤q.1∧q.1+1≤j∧Sw a b l q.2∧Mov leT a b q.1 j q.2}) (fun k=>⟨[(0,_,_),(1,_,_),(2,_,_),(3,_,_),(4,_,_),(10,_,_),(13, .int .i64 k.1.1,pInt k.1.1)],[(1000,hv, .own 24 3 l.length (ZaB k.1.2))]⟩) (fun k=>j-k.1.1) ⟨(a,l),by dsimp only;omega,by dsimp only;omega, .refl _,hM⟩ (fun a w H=>H.weaken ⟨rfl,rfl,rfl,rfl,rfl,rfl,rfl,trivial⟩ ⟨rfl,trivial⟩) ?_;rintro ⟨⟨k,L⟩,hk1,hk2,hS,hM2⟩;dsimp only;dsimp only at hk1 hk2 hS hM2;have hLl:=hS.len;refine nav ?_;(refine ζa ?_<;>refine xL 55 ζb (xL 56 ζb ?_)<;>refine xL 57 ((ZbF (c:=((j-1:Nat):Int)))) ?_<;>refine xL 58 ζP ?_<;>refine ζd ?_)
       (first|refine cCd ?_ ?_|refine cC ?_ ?_)<;>intro hb58
       · first
         |exact bN hb58
         | (
          (have hkj:k+1<j:=by omega);obtain ⟨x,hx⟩:=ζo (show k<L.length by omega);obtain ⟨y,hy⟩:=ζo (show k+1<L.length by omega);have e1:=ζ4 hx;have e2:=Zak hx;have e3:=ζ4 hy;have e4:=Zak hy;have hsw:=Zge hx hy;have e5:(Zhu (ZaB L) (k*3) (cN y)).length=(ZaB L).length:=ZeV _ _ _;refine nav ?_;(refine ζV (fun i=>([]:List Nat).elem i) [] kR ?_<;>refine xD 0 61 rfl ζb ?_<;>refine xD 1 62 rfl ζb ?_<;>refine xD 2 63 rfl ζb ?_<;>refine xD 3 64 rfl ζb ?_<;>refine xD 4 65 rfl ((ZcC (c:=((k+1:Nat):Int)))) ?_<;>refine xD 5 66 rfl ζb ?_<;>refine xD 6 67 rfl ζb ?_<;>refine xD 7 68 rfl ((ZcC (c:=((k+1:Nat):Int)))) ?_<;>refine xD 10 71 rfl ζb ?_<;>refine xD 11 72 rfl ζb ?_<;>(refine Zat 8 12 kR ?_ ?_;rotate_right;(focus ((refine ζg rfl fun w9 M9 N9 DQ back=>?_)<;>refine xL 73 (ζu 1000 ζK) ?_<;>refine ζf (back _ (nrm ?_))<;>(refine Zat 8 13 kR ?_ ?_;rotate_right;(focus ((refine ζg rfl fun w9 M9 N9 DQ back=>?_)<;>(refine yL 74 (ζm 1000 ζy) fun v74 h=>?_;cases h)<;>refine ζf (back _ (nrm ?_))<;>(refine ζj 8 kR ?_)<;>(refine ζg rfl fun w9 M9 N9 DQ back=>?_)<;>refine xL 69 (ζu 1000 ζK) ?_<;>refine ζf (back _ (nrm ?_))<;>(refine ζj 9 kR ?_)<;>(refine ζg rfl fun w9 M9 N9 DQ back=>?_)<;>(refine yL 70 (ζm 1000 ζy) fun v70 h=>?_;cases h)<;>refine ζf (back _ (nrm ?_))<;>refine xE 14 75 rfl (ζu 1000 ζK) ?_<;>(refine ζj 15 kR ?_)<;>(refine ζg rfl fun w9 M9 N9 DQ back=>?_)<;>refine ζt 1000 ζy ?_<;>refine ζf (back _ (nrm ?_))<;>refine xE 16 76 rfl (ζu 1000 ζK) ?_<;>(refine ζj 17 kR ?_)<;>(refine ζg rfl fun w9 M9 N9 DQ back=>?_)<;>refine ζt 1000 ζy ?_<;>refine ζf (back _ (nrm ?_))));rotate_right;(focus ((refine ζg rfl fun w9 M9 N9 DQ back=>?_)<;>refine xL 69 (ζu 1000 ζK) ?_<;>refine ζf (back _ (nrm ?_))<;>(refine Zat 9 13 kR ?_ ?_;rotate_right;(focus ((refine ζg rfl fun w9 M9 N9 DQ back=>?_)<;>(refine yL 74 (ζm 1000 ζy) fun v74 h=>?_;cases h)<;>refine ζf (back _ (nrm ?_))<;>(refine ζj 9 kR ?_)<;>(refine ζg rfl fun w9 M9 N9 DQ back=>?_)<;>(refine yL 70 (ζm 1000 ζy) fun v70 h=>?_;cases h)<;>refine ζf (back _ (nrm ?_))<;>refine xE 14 75 rfl (ζu 1000 ζK) ?_<;>(refine ζj 15 kR ?_)<;>(refine ζg rfl fun w9 M9 N9 DQ back=>?_)<;>refine ζt 1000 ζy ?_<;>refine ζf (back _ (nrm ?_))<;>refine xE 16 76 rfl (ζu 1000 ζK) ?_<;>(refine ζj 17 kR ?_)<;>(refine ζg rfl fun w9 M9 N9 DQ back=>?_)<;>refine ζt 1000 ζy ?_<;>refine ζf (back _ (nrm ?_))));rotate_right;(focus ((refine ζg rfl fun w9 M9 N9 DQ back=>?_)<;>(refine yL 70 (ζm 1000 ζy) fun v70 h=>?_;cases h)<;>refine ζf (back _ (nrm ?_))<;>(refine ζj 13 kR ?_)<;>(refine ζg rfl fun w9 M9 N9 DQ back=>?_)<;>(refine yL 74 (ζm 1000 ζy) fun v74 h=>?_;cases h)<;>refine ζf (back _ (nrm ?_))<;>refine xE 14 75 rfl (ζu 1000 ζK) ?_<;>(refine ζj 15 kR ?_)<;>(refine ζg rfl fun w9 M9 N9 DQ back=>?_)<;>refine ζt 1000 ζy ?_<;>refine ζf (back _ (nrm ?_))<;>refine xE 16 76 rfl (ζu 1000 ζK) ?_<;>(refine ζj 17 kR ?_)<;>(refine ζg rfl fun w9 M9 N9 DQ back=>?_)<;>refine ζt 1000 ζy ?_<;>refine ζf (back _ (nrm ?_))))))))));rotate_right;(focus ((refine ζg rfl fun w9 M9 N9 DQ back=>?_)<;>refine xL 69 (ζu 1000 ζK) ?_<;>refine ζf (back _ (nrm ?_))<;>(refine Zat 9 12 kR ?_ ?_;rotate_right;(focus ((refine ζg rfl fun w9 M9 N9 DQ back=>?_)<;>refine xL 73 (ζu 1000 ζK) ?_<;>refine ζf (back _ (nrm ?_))<;>(refine Zat 9 13 kR ?_ ?_;rotate_right;(focus ((refine ζg rfl fun w9 M9 N9 DQ back=>?_)<;>(refine yL 74 (ζm 1000 ζy) fun v74 h=>?_;cases h)<;>refine ζf (back _ (nrm ?_))<;>(refine ζj 9 kR ?_)<;>(refine ζg rfl fun w9 M9 N9 DQ back=>?_)<;>(refine yL 70 (ζm 1000 ζy) fun v70 h=>?_;cases h)<;>refine ζf (back _ (nrm ?_))<;>refine xE 14 75 rfl (ζu 1000 ζK) ?_<;>(refine ζj 15 kR ?_)<;>(refine ζg rfl fun w9 M9 N9 DQ back=>?_)<;>refine ζt 1000 ζy ?_<;>refine ζf (back _ (nrm ?_))<;>refine xE 16 76 rfl (ζu 1000 ζK) ?_<;>(refine ζj 17 kR ?_)<;>(refine ζg rfl fun w9 M9 N9 DQ back=>?_)<;>refine ζt 1000 ζy ?_<;>refine ζf (back _ (nrm ?_))));rotate_right;(focus ((refine ζg rfl fun w9 M9 N9 DQ back=>?_)<;>(refine yL 70 (ζm 1000 ζy) fun v70 h=>?_;cases h)<;>refine ζf (back _ (nrm ?_))<;>(refine ζj 13 kR ?_)<;>(refine ζg rfl fun w9 M9 N9 DQ back=>?_)<;>(refine yL 74 (ζm 1000 ζy) fun v74 h=>?_;cases h)<;>refine ζf (back _ (nrm ?_))<;>refine xE 14 75 rfl (ζu 1000 ζK) ?_<;>(refine ζj 15 kR ?_)<;>(refine ζg rfl fun w9 M9 N9 DQ back=>?_)<;>refine ζt 1000 ζy ?_<;>refine ζf (back _ (nrm ?_))<;>refine xE 16 76 rfl (ζu 1000 ζK) ?_<;>(refine ζj 17 kR ?_)<;>(refine ζg rfl fun w9 M9 N9 DQ back=>?_)<;>refine ζt 1000 ζy ?_<;>refine ζf (back _ (nrm ?_)))))));rotate_right;(focus ((refine ζg rfl fun w9 M9 N9 DQ back=>?_)<;>(refine yL 70 (ζm 1000 ζy) fun v70 h=>?_;cases h)<;>refine ζf (back _ (nrm ?_))<;>(refine ζj 12 kR ?_)<;>(refine ζg rfl fun w9 M9 N9 DQ back=>?_)<;>refine xL 73 (ζu 1000 ζK) ?_<;>refine ζf (back _ (nrm ?_))<;>(refine ζj 13 kR ?_)<;>(refine ζg rfl fun w9 M9 N9 DQ back=>?_)<;>(refine yL 74 (ζm 1000 ζy) fun v74 h=>?_;cases h)<;>refine ζf (back _ (nrm ?_))<;>refine xE 14 75 rfl (ζu 1000 ζK) ?_<;>(refine ζj 15 kR ?_)<;>(refine ζg rfl fun w9 M9 N9 DQ back=>?_)<;>refine ζt 1000 ζy ?_<;>refine ζf (back _ (nrm ?_))<;>refine xE 16 76 rfl (ζu 1000 ζK) ?_<;>(refine ζj 17 kR ?_)<;>(refine ζg rfl fun w9 M9 N9 DQ back=>?_)<;>refine ζt 1000 ζy ?_<;>refine ζf (back _ (nrm ?_))))))))<;>refine Zae kR (nav ?_)<;>try dsimp only)<;>(
           (refine ζa ?_<;>refine xL 59 ζb (xL 60 ζM (xL 13 ζc ?_))<;>refine ζd ?_)
           rw [hsw];refine ζh (
            ⟨(k+1,swp L k (k+1)),by dsimp only;omega,by dsimp only;omega, .step _ _ hS (by omega) (by omega) (by omega) (by omega) h3,ZuU leT hM2 (by omega) (by omega) hB3 (by omega)⟩
            ) (by dsimp only;omega) ⟨rfl,rfl,rfl,rfl,rfl,rfl,rfl,trivial⟩ ⟨rfl,trivial⟩))
       · first
         |exact bN hb58
         | (
          refine nav ?_;refine ZfX (Zch hv L) (Tryz.results249) ⟨by rw [←hLl];rfl,trivial⟩ ⟨L,hS,Zlr leT hM2 (by omega),rfl⟩)))
 · first
   |exact bN hb28
   | (
    refine nav ?_;(refine ζa ?_<;>refine xL 77 ζb (xL 78 ζb (xL 79 ZgB (xL 80 ζY ?_)))<;>refine ζd ?_)
    (first|refine cCd ?_ ?_|refine cC ?_ ?_)<;>intro hb80
    · first
      |exact bN hb80
      | (
       refine nav ?_;(refine ζa ?_<;>refine xL 81 ζb (xL 14 ζc ?_)<;>refine ζd ?_)
       (refine ζa ?_<;>refine xL 82 ζb (xL 15 ζc ?_)<;>refine ζd ?_)
       refine ζD (ι:={q:Nat×Nat//BsT a m q.1 q.2 xm l}) (fun k=>⟨[(0,_,_),(1,_,_),(2,_,_),(3,_,_),(4,_,_),(14, .int .i64 k.1.1,pInt k.1.1),(15, .int .i64 k.1.2,pInt k.1.2)],[(1000,hv, .own 24 3 l.length (ZaB l))]⟩) (fun k=>k.1.2-k.1.1) ⟨(a,m),ZqL a m xm l (by omega)⟩ (fun a w H=>H.weaken ⟨rfl,rfl,rfl,rfl,rfl,rfl,rfl,trivial⟩ ⟨rfl,trivial⟩) ?_;rintro ⟨⟨i,j⟩,hB⟩;dsimp only;dsimp only at hB;have hB1:=hB.1;have hB2:=hB.2.1;have hB3:=hB.2.2.1;refine nav ?_;(refine ζa ?_<;>refine xL 83 ζb (xL 84 ζb (xL 85 ζP ?_))<;>refine ζd ?_)
       (first|refine cCd ?_ ?_|refine cC ?_ ?_)<;>intro hb85
       · first
         |exact bN hb85
         | (
          refine nav ?_;(refine ζa ?_<;>refine xL 86 ζb (xL 87 ζb ?_)<;>refine xL 88 ((ZcC (c:=((i+j:Nat):Int)))) ?_<;>refine xL 89 ((ZxP (a:=i+j) rfl rfl (by omega))) ?_<;>refine xL 90 ((Zlt (a:=i+j) rfl)) ?_<;>refine xL 91 ((ZxQ (a:=(i+j) / 2) rfl rfl (by omega))) ?_<;>refine xL 16 ζc ?_<;>refine ζd ?_)
          obtain ⟨y,hy⟩:=ζo (show (i+j) / 2<l.length by omega);have e3:=ζ4 hy;have e4:=Zak hy;(refine ζV (fun i=>([]:List Nat).elem i) [1000] kR ?_<;>refine xD 0 92 rfl ζb ?_<;>refine xD 1 93 rfl ζb ?_<;>refine xD 2 94 rfl ζb ?_<;>refine xD 3 95 rfl (ζu 1000 ζK) ?_<;>(refine yD 4 96 rfl (ζm 1000 ζy) fun v96 h=>?_;cases h)<;>refine xD 5 97 rfl ζb ?_<;>refine xE 6 98 rfl ζb ?_<;>refine xE 7 99 rfl (ζu 1000 ζK) ?_<;>(refine yE 8 100 rfl (ζm 1000 ζy) fun v100 h=>?_;cases h)<;>(refine ζj 9 kR ?_)<;>(refine Zdt (d:=101) rfl (Zjr (f:=f) (ps:=[]) rfl ⟨_,rfl⟩ hc rfl (hf xm (Xg hxm) y (Xg hy))) fun v101 h=>?_;cases h)<;>refine xE 10 102 rfl ζP ?_<;>refine xE 11 103 rfl Zaw ?_<;>refine Zae kR (nav ?_)<;>try dsimp only)
          (first|refine cCd ?_ ?_|refine cC ?_ ?_)<;>intro hb103
          · first
            |exact bN hb103
            | (
             refine nav ?_;(refine ζa ?_<;>refine xL 104 ζb (xL 105 ζM (xL 14 ζc ?_))<;>refine ζd ?_)
             first
              | (exact ζh (
                  ⟨((i+j) / 2+1,j),ZxR hB s1 (by omega) (by omega) hy (Zc4 (by simpa using hb103))⟩
                  ) (by dsimp only;omega) ⟨rfl,rfl,rfl,rfl,rfl,rfl,rfl,trivial⟩ ⟨rfl,trivial⟩)
              | (exact ζh (
                  ⟨(i,(i+j) / 2),Zlw hB s1 (by omega) (by omega) hy (by unfold leT;simp at hb103;omega)⟩
                  ) (by dsimp only;omega) ⟨rfl,rfl,rfl,rfl,rfl,rfl,rfl,trivial⟩ ⟨rfl,trivial⟩))
          · first
            |exact bN hb103
            | (
             refine nav ?_;(refine ζa ?_<;>refine xL 106 ζb (xL 15 ζc ?_)<;>refine ζd ?_)
             first
              | (exact ζh (
                  ⟨((i+j) / 2+1,j),ZxR hB s1 (by omega) (by omega) hy (Zc4 (by simpa using hb103))⟩
                  ) (by dsimp only;omega) ⟨rfl,rfl,rfl,rfl,rfl,rfl,rfl,trivial⟩ ⟨rfl,trivial⟩)
              | (exact ζh (
                  ⟨(i,(i+j) / 2),Zlw hB s1 (by omega) (by omega) hy (by unfold leT;simp at hb103;omega)⟩
                  ) (by dsimp only;omega) ⟨rfl,rfl,rfl,rfl,rfl,rfl,rfl,trivial⟩ ⟨rfl,trivial⟩)))
       · first
         |exact bN hb85
         | (
          (have hij:j=i:=by omega);subst hij;(have hbm:b=m+1:=by omega);subst hbm;have hM:Mov leT a (m+1) m j l:=ZxO leT s1 (by omega) (fun q x y h4 h5 hx hy=>by
           rw [hxm] at hx;cases hx;exact hB.2.2.2.1 q y h4 h5 hy) (fun q x y h4 h5 hx hy=>by
           rw [hxm] at hx;cases hx;exact hB.2.2.2.2 q y h4 h5 hy)
          refine nav ?_;(refine ζa ?_<;>refine xL 107 ζb (xL 17 ζc ?_)<;>refine ζd ?_)
          refine ζD (ι:={q:Nat×List Nd//j≤q.1∧q.1<m+1∧Sw a (m+1) l q.2∧Mov leT a (m+1) q.1 j q.2}) (fun k=>⟨[(0,_,_),(1,_,_),(2,_,_),(3,_,_),(4,_,_),(14,_,_),(17, .int .i64 k.1.1,pInt k.1.1)],[(1000,hv, .own 24 3 l.length (ZaB k.1.2))]⟩) (fun k=>k.1.1) ⟨(m,l),by dsimp only;omega,by dsimp only;omega, .refl _,hM⟩ (fun a w H=>H.weaken ⟨rfl,rfl,rfl,rfl,rfl,rfl,rfl,trivial⟩ ⟨rfl,trivial⟩) ?_;rintro ⟨⟨k,L⟩,hk1,hk2,hS,hM2⟩;dsimp only;dsimp only at hk1 hk2 hS hM2;have hLl:=hS.len;refine nav ?_;(refine ζa ?_<;>refine xL 108 ζb (xL 109 ζb (xL 110 ZaQ ?_))<;>refine ζd ?_)
          (first|refine cCd ?_ ?_|refine cC ?_ ?_)<;>intro hb110
          · first
            |exact bN hb110
            | (
             obtain ⟨k',rfl⟩:∃k',k=k'+1:=⟨k-1,by omega⟩;obtain ⟨x,hx⟩:=ζo (show k'+1<L.length by omega);obtain ⟨y,hy⟩:=ζo (show k'<L.length by omega);have e1:=ζ4 hx;have e2:=Zak hx;have e3:=ζ4 hy;have e4:=Zak hy;have hsw:=Zge hx hy;have e5:(Zhu (ZaB L) ((k'+1)*3) (cN y)).length=(ZaB L).length:=ZeV _ _ _;refine nav ?_;(refine ζV (fun i=>([]:List Nat).elem i) [] kR ?_<;>refine xD 0 113 rfl ζb ?_<;>refine xD 1 114 rfl ζb ?_<;>refine xD 2 115 rfl ζb ?_<;>refine xD 3 116 rfl ζb ?_<;>refine xD 4 117 rfl ((ZbF (c:=((k':Nat):Int)))) ?_<;>refine xD 5 118 rfl ζb ?_<;>refine xD 6 119 rfl ζb ?_<;>refine xD 7 120 rfl ((ZbF (c:=((k':Nat):Int)))) ?_<;>refine xD 10 123 rfl ζb ?_<;>refine xD 11 124 rfl ζb ?_<;>(refine Zat 8 12 kR ?_ ?_;rotate_right;(focus ((refine ζg rfl fun w9 M9 N9 DQ back=>?_)<;>refine xL 125 (ζu 1000 ζK) ?_<;>refine ζf (back _ (nrm ?_))<;>(refine Zat 8 13 kR ?_ ?_;rotate_right;(focus ((refine ζg rfl fun w9 M9 N9 DQ back=>?_)<;>(refine yL 126 (ζm 1000 ζy) fun v126 h=>?_;cases h)<;>refine ζf (back _ (nrm ?_))<;>(refine ζj 8 kR ?_)<;>(refine ζg rfl fun w9 M9 N9 DQ back=>?_)<;>refine xL 121 (ζu 1000 ζK) ?_<;>refine ζf (back _ (nrm ?_))<;>(refine ζj 9 kR ?_)<;>(refine ζg rfl fun w9 M9 N9 DQ back=>?_)<;>(refine yL 122 (ζm 1000 ζy) fun v122 h=>?_;cases h)<;>refine ζf (back _ (nrm ?_))<;>refine xE 14 127 rfl (ζu 1000 ζK) ?_<;>(refine ζj 15 kR ?_)<;>(refine ζg rfl fun w9 M9 N9 DQ back=>?_)<;>refine ζt 1000 ζy ?_<;>refine ζf (back _ (nrm ?_))<;>refine xE 16 128 rfl (ζu 1000 ζK) ?_<;>(refine ζj 17 kR ?_)<;>(refine ζg rfl fun w9 M9 N9 DQ back=>?_)<;>refine ζt 1000 ζy ?_<;>refine ζf (back _ (nrm ?_))));rotate_right;(focus ((refine ζg rfl fun w9 M9 N9 DQ back=>?_)<;>refine xL 121 (ζu 1000 ζK) ?_<;>refine ζf (back _ (nrm ?_))<;>(refine Zat 9 13 kR ?_ ?_;rotate_right;(focus ((refine ζg rfl fun w9 M9 N9 DQ back=>?_)<;>(refine yL 126 (ζm 1000 ζy) fun v126 h=>?_;cases h)<;>refine ζf (back _ (nrm ?_))<;>(refine ζj 9 kR ?_)<;>(refine ζg rfl fun w9 M9 N9 DQ back=>?_)<;>(refine yL 122 (ζm 1000 ζy) fun v122 h=>?_;cases h)<;>refine ζf (back _ (nrm ?_))<;>refine xE 14 127 rfl (ζu 1000 ζK) ?_<;>(refine ζj 15 kR ?_)<;>(refine ζg rfl fun w9 M9 N9 DQ back=>?_)<;>refine ζt 1000 ζy ?_<;>refine ζf (back _ (nrm ?_))<;>refine xE 16 128 rfl (ζu 1000 ζK) ?_<;>(refine ζj 17 kR ?_)<;>(refine ζg rfl fun w9 M9 N9 DQ back=>?_)<;>refine ζt 1000 ζy ?_<;>refine ζf (back _ (nrm ?_))));rotate_right;(focus ((refine ζg rfl fun w9 M9 N9 DQ back=>?_)<;>(refine yL 122 (ζm 1000 ζy) fun v122 h=>?_;cases h)<;>refine ζf (back _ (nrm ?_))<;>(refine ζj 13 kR ?_)<;>(refine ζg rfl fun w9 M9 N9 DQ back=>?_)<;>(refine yL 126 (ζm 1000 ζy) fun v126 h=>?_;cases h)<;>refine ζf (back _ (nrm ?_))<;>refine xE 14 127 rfl (ζu 1000 ζK) ?_<;>(refine ζj 15 kR ?_)<;>(refine ζg rfl fun w9 M9 N9 DQ back=>?_)<;>refine ζt 1000 ζy ?_<;>refine ζf (back _ (nrm ?_))<;>refine xE 16 128 rfl (ζu 1000 ζK) ?_<;>(refine ζj 17 kR ?_)<;>(refine ζg rfl fun w9 M9 N9 DQ back=>?_)<;>refine ζt 1000 ζy ?_<;>refine ζf (back _ (nrm ?_))))))))));rotate_right;(focus ((refine ζg rfl fun w9 M9 N9 DQ back=>?_)<;>refine xL 121 (ζu 1000 ζK) ?_<;>refine ζf (back _ (nrm ?_))<;>(refine Zat 9 12 kR ?_ ?_;rotate_right;(focus ((refine ζg rfl fun w9 M9 N9 DQ back=>?_)<;>refine xL 125 (ζu 1000 ζK) ?_<;>refine ζf (back _ (nrm ?_))<;>(refine Zat 9 13 kR ?_ ?_;rotate_right;(focus ((refine ζg rfl fun w9 M9 N9 DQ back=>?_)<;>(refine yL 126 (ζm 1000 ζy) fun v126 h=>?_;cases h)<;>refine ζf (back _ (nrm ?_))<;>(refine ζj 9 kR ?_)<;>(refine ζg rfl fun w9 M9 N9 DQ back=>?_)<;>(refine yL 122 (ζm 1000 ζy) fun v122 h=>?_;cases h)<;>refine ζf (back _ (nrm ?_))<;>refine xE 14 127 rfl (ζu 1000 ζK) ?_<;>(refine ζj 15 kR ?_)<;>(refine ζg rfl fun w9 M9 N9 DQ back=>?_)<;>refine ζt 1000 ζy ?_<;>refine ζf (back _ (nrm ?_))<;>refine xE 16 128 rfl (ζu 1000 ζK) ?_<;>(refine ζj 17 kR ?_)<;>(refine ζg rfl fun w9 M9 N9 DQ back=>?_)<;>refine ζt 1000 ζy ?_<;>refine ζf (back _ (nrm ?_))));rotate_right;(focus ((refine ζg rfl fun w9 M9 N9 DQ back=>?_)<;>(refine yL 122 (ζm 1000 ζy) fun v122 h=>?_;cases h)<;>refine ζf (back _ (nrm ?_))<;>(refine ζj 13 kR ?_)<;>(refine ζg rfl fun w9 M9 N9 DQ back=>?_)<;>(refine yL 126 (ζm 1000 ζy) fun v126 h=>?_;cases h)<;>refine ζf (back _ (nrm ?_))<;>refine xE 14 127 rfl (ζu 1000 ζK) ?_<;>(refine ζj 15 kR ?_)<;>(refine ζg rfl fun w9 M9 N9 DQ back=>?_)<;>refine ζt 1000 ζy ?_<;>refine ζf (back _ (nrm ?_))<;>refine xE 16 128 rfl (ζu 1000 ζK) ?_<;>(refine ζj 17 kR ?_)<;>(refine ζg rfl fun w9 M9 N9 DQ back=>?_)<;>refine ζt 1000 ζy ?_<;>refine ζf (back _ (nrm ?_)))))));rotate_right;(focus ((refine ζg rfl fun w9 M9 N9 DQ back=>?_)<;>(refine yL 122 (ζm 1000 ζy) fun v122 h=>?_;cases h)<;>refine ζf (back _ (nrm ?_))<;>(refine ζj 12 kR ?_)<;>(refine ζg rfl fun w9 M9 N9 DQ back=>?_)<;>refine xL 125 (ζu 1000 ζK) ?_<;>refine ζf (back _ (nrm ?_))<;>(refine ζj 13 kR ?_)<;>(refine ζg rfl fun w9 M9 N9 DQ back=>?_)<;>(refine yL 126 (ζm 1000 ζy) fun v126 h=>?_;cases h)<;>refine ζf (back _ (nrm ?_))<;>refine xE 14 127 rfl (ζu 1000 ζK) ?_<;>(refine ζj 15 kR ?_)<;>(refine ζg rfl fun w9 M9 N9 DQ back=>?_)<;>refine ζt 1000 ζy ?_<;>refine ζf (back _ (nrm ?_))<;>refine xE 16 128 rfl (ζu 1000 ζK) ?_<;>(refine ζj 17 kR ?_)<;>(refine ζg rfl fun w9 M9 N9 DQ back=>?_)<;>refine ζt 1000 ζy ?_<;>refine ζf (back _ (nrm ?_))))))))<;>refine Zae kR (nav ?_)<;>try dsimp only)<;>(
              (refine ζa ?_<;>refine xL 111 ζb ?_<;>refine xL 112 ((ZbF (c:=((k':Nat):Int)))) ?_<;>refine xL 17 ζc ?_<;>refine ζd ?_)
              rw [hsw];refine ζh (
               ⟨(k',swp L (k'+1) k'),by dsimp only;omega,by dsimp only;omega, .step _ _ hS (by omega) (by omega) (by omega) (by omega) h3,ZxN leT hM2 (by omega) (by omega) (by omega) (by omega)⟩
               ) (by dsimp only;omega) ⟨rfl,rfl,rfl,rfl,rfl,rfl,rfl,trivial⟩ ⟨rfl,trivial⟩))
          · first
            |exact bN hb110
            | (
             (have hkj:k=j:=by omega);subst hkj;refine nav ?_;refine ZfX (Zch hv L) (Tryz.results249) ⟨by rw [←hLl];rfl,trivial⟩ ⟨L,hS,Znc leT hM2,rfl⟩)))
    · first
      |exact bN hb80
      | (
       have hlo:=Zzr h1 h2;(have hmid:(a+b) / 2<b:=by omega);refine nav ?_;(refine ζa ?_<;>refine xL 129 ζb (xL 130 ζb ?_)<;>refine xL 131 ((ZcC (c:=((a+b:Nat):Int)))) ?_<;>refine xL 132 ((ZxP (a:=a+b) rfl rfl (by omega))) ?_<;>refine xL 133 ((Zlt (a:=a+b) rfl)) ?_<;>refine xL 134 ((ZxQ (a:=(a+b) / 2) rfl rfl (by omega))) ?_<;>refine xL 18 ζc ?_<;>refine ζd ?_)
       (refine ζa ?_<;>refine xL 135 ζb (xL 136 ζb ?_)<;>refine xL 137 ((ZcC (c:=(((a+b) / 2+m:Nat):Int)))) ?_<;>refine xL 19 ζc ?_<;>refine ζd ?_)
       (refine ζa ?_<;>refine xL 20 ζc (xL 21 ζc ?_)<;>refine ζd ?_)
       (refine ζa ?_<;>refine xL 138 ζb (xL 139 ζb (xL 140 ZaQ ?_))<;>refine ζd ?_)
       refine Zeu (fun _:Unit=>⟨[(0,hv, .val hv),(1, .int .i64 (a:Int),pInt a),(2, .int .i64 (m:Int),pInt m),(3, .int .i64 (b:Int),pInt b),(4,fv, .fn f []),(18, .int .i64 (((a+b) / 2:Nat):Int),pInt (((a+b) / 2:Nat):Int)),(19, .int .i64 (((a+b) / 2+m:Nat):Int),pInt (((a+b) / 2+m:Nat):Int)),(20, .int .i64 (loM a m b:Int),pInt (loM a m b)),(21, .int .i64 (hiM a m b:Int),pInt (hiM a m b))],Zch hv l⟩) ?_ ?_
       · (first|refine cCd ?_ ?_|refine cC ?_ ?_)<;>intro hb140
         · first
           |exact bN hb140
           | (
            refine nav ?_;(refine ζa ?_<;>refine xL 141 ζb (xL 142 ζb ?_)<;>(refine xL 143 ((ZbF (c:=((loM a m b:Nat):Int)) (hc:=by unfold loM;rw [if_pos (by omega)];omega))) ?_)<;>refine xL 20 ζc ?_<;>refine ζd ?_)
            (refine ζa ?_<;>(refine xL 144 ((ZoM (c:=((hiM a m b:Nat):Int)) (hc:=by unfold hiM;rw [if_pos (by omega)]))) ?_)<;>refine xL 21 ζc ?_<;>refine ζd ?_)
            exact ZaL () ⟨rfl,rfl,rfl,rfl,rfl,rfl,rfl,rfl,rfl,trivial⟩ ⟨rfl,trivial⟩)
         · first
           |exact bN hb140
           | (
            refine nav ?_;(refine ζa ?_<;>(refine xL 145 ((ZoM (c:=((loM a m b:Nat):Int)) (hc:=by unfold loM;rw [if_neg (by omega)]))) ?_)<;>refine xL 20 ζc ?_<;>refine ζd ?_)
            (refine ζa ?_<;>(refine xL 146 ((ZoM (c:=((hiM a m b:Nat):Int)) (hc:=by unfold hiM;rw [if_neg (by omega)]))) ?_)<;>refine xL 21 ζc ?_<;>refine ζd ?_)
            exact ZaL () ⟨rfl,rfl,rfl,rfl,rfl,rfl,rfl,rfl,rfl,trivial⟩ ⟨rfl,trivial⟩)
       · intro _;unfold Zch;refine nav ?_;(refine ζa ?_<;>refine xL 147 ζb ?_<;>refine xL 148 ((ZbF (c:=(((a+b) / 2+m-1:Nat):Int)))) ?_<;>refine xL 22 ζc ?_<;>refine ζd ?_)
         refine ζD (ι:={q:Nat×Nat//Thr leT (loM a m b) (hiM a m b) ((a+b) / 2+m-1) q.1 q.2 l}) (fun k=>⟨[(0,_,_),(1,_,_),(2,_,_),(3,_,_),(4,_,_),(18,_,_),(19,_,_),(22,_,_),(20, .int .i64 k.1.1,pInt k.1.1),(21, .int .i64 k.1.2,pInt k.1.2)],[(1000,hv, .own 24 3 l.length (ZaB l))]⟩) (fun k=>k.1.2-k.1.1) ⟨(loM a m b,hiM a m b),ZuW leT l hlo.2.1⟩ (fun a w H=>H.weaken ⟨rfl,rfl,rfl,rfl,rfl,rfl,rfl,rfl,rfl,rfl,trivial⟩ ⟨rfl,trivial⟩) ?_;rintro ⟨⟨i,j⟩,hT⟩;dsimp only;dsimp only at hT;have hB1:=hT.1;have hB2:=hT.2.1;have hB3:=hT.2.2.1;refine nav ?_;(refine ζa ?_<;>refine xL 149 ζb (xL 150 ζb (xL 151 ζP ?_))<;>refine ζd ?_)
         (first|refine cCd ?_ ?_|refine cC ?_ ?_)<;>intro hb151
         · first
           |exact bN hb151
           | (
            refine nav ?_;(refine ζa ?_<;>refine xL 152 ζb (xL 153 ζb ?_)<;>refine xL 154 ((ZcC (c:=((i+j:Nat):Int)))) ?_<;>refine xL 155 ((ZxP (a:=i+j) rfl rfl (by omega))) ?_<;>refine xL 156 ((Zlt (a:=i+j) rfl)) ?_<;>refine xL 157 ((ZxQ (a:=(i+j) / 2) rfl rfl (by omega))) ?_<;>refine xL 23 ζc ?_<;>refine ζd ?_)
            obtain ⟨x,hx⟩:=ζo (show (i+j) / 2<l.length by omega);have e1:=ζ4 hx;have e2:=Zak hx;obtain ⟨y,hy⟩:=ζo (show (a+b) / 2+m-1-(i+j) / 2<l.length by omega);have e3:=ζ4 hy;have e4:=Zak hy;(refine ζV (fun i=>([]:List Nat).elem i) [1000] kR ?_<;>refine xD 0 158 rfl ζb ?_<;>refine xD 1 159 rfl ζb ?_<;>refine xD 2 160 rfl ζb ?_<;>refine xD 3 161 rfl ζb ?_<;>refine xD 4 162 rfl ((ZbF (c:=(((a+b) / 2+m-1-(i+j) / 2:Nat):Int)))) ?_<;>refine xD 5 163 rfl (ζu 1000 ζK) ?_<;>(refine yD 6 164 rfl (ζm 1000 ζy) fun v164 h=>?_;cases h)<;>refine xD 7 165 rfl ζb ?_<;>refine xE 8 166 rfl ζb ?_<;>refine xE 9 167 rfl (ζu 1000 ζK) ?_<;>(refine yE 10 168 rfl (ζm 1000 ζy) fun v168 h=>?_;cases h)<;>(refine ζj 11 kR ?_)<;>(refine Zdt (d:=169) rfl (Zjr (f:=f) (ps:=[]) rfl ⟨_,rfl⟩ hc rfl (hf y (Xg hy) x (Xg hx))) fun v169 h=>?_;cases h)<;>refine xE 12 170 rfl ζP ?_<;>refine xE 13 171 rfl Zaw ?_<;>refine Zae kR (nav ?_)<;>try dsimp only)
            (first|refine cCd ?_ ?_|refine cC ?_ ?_)<;>intro hb171
            · first
              |exact bN hb171
              | (
               refine nav ?_;(refine ζa ?_<;>refine xL 172 ζb (xL 173 ζM (xL 20 ζc ?_))<;>refine ζd ?_)
               first
                | (exact ζh (
                    ⟨((i+j) / 2+1,j),Zzq Zcn (fun _ _ _=>ZbL) hT s1 s2 (by omega) (by omega) hlo.1 hlo.2.2.1 hlo.2.2.2.1 hlo.2.2.2.2.1 h3 hx hy (Zc4 (by simpa using hb171))⟩
                    ) (by dsimp only;omega) ⟨rfl,rfl,rfl,rfl,rfl,rfl,rfl,rfl,rfl,rfl,trivial⟩ ⟨rfl,trivial⟩)
                | (exact ζh (
                    ⟨(i,(i+j) / 2),ZqJ Zcn (fun _ _ _=>ZbL) hT s1 s2 (by omega) (by omega) hlo.1 hlo.2.2.1 hlo.2.2.2.1 hlo.2.2.2.2.1 h3 hx hy (by unfold leT;simp at hb171;omega)⟩
                    ) (by dsimp only;omega) ⟨rfl,rfl,rfl,rfl,rfl,rfl,rfl,rfl,rfl,rfl,trivial⟩ ⟨rfl,trivial⟩))
            · first
              |exact bN hb171
              | (
               refine nav ?_;(refine ζa ?_<;>refine xL 174 ζb (xL 21 ζc ?_)<;>refine ζd ?_)
               first
                | (exact ζh (
                    ⟨((i+j) / 2+1,j),Zzq Zcn (fun _ _ _=>ZbL) hT s1 s2 (by omega) (by omega) hlo.1 hlo.2.2.1 hlo.2.2.2.1 hlo.2.2.2.2.1 h3 hx hy (Zc4 (by simpa using hb171))⟩
                    ) (by dsimp only;omega) ⟨rfl,rfl,rfl,rfl,rfl,rfl,rfl,rfl,rfl,rfl,trivial⟩ ⟨rfl,trivial⟩)
                | (exact ζh (
                    ⟨(i,(i+j) / 2),ZqJ Zcn (fun _ _ _=>ZbL) hT s1 s2 (by omega) (by omega) hlo.1 hlo.2.2.1 hlo.2.2.2.1 hlo.2.2.2.2.1 h3 hx hy (by unfold leT;simp at hb171;omega)⟩
                    ) (by dsimp only;omega) ⟨rfl,rfl,rfl,rfl,rfl,rfl,rfl,rfl,rfl,rfl,trivial⟩ ⟨rfl,trivial⟩)))
         · first
           |exact bN hb151
           | (
            (have hij:j=i:=by omega);subst hij;(have hj1:j≤(a+b) / 2:=by omega);(have hj2:j≤m:=by omega);refine nav ?_;(refine ζa ?_<;>refine xL 175 ζb (xL 176 ζb ?_)<;>refine xL 177 ((ZbF (c:=(((a+b) / 2+m-j:Nat):Int)))) ?_<;>refine xL 24 ζc ?_<;>refine ζd ?_)
            (refine ζa ?_<;>refine xL 178 ζb (xL 179 ζb (xL 180 ζP (xL 181 ζb ?_)))<;>(refine bLd 181 (fun hb181=>?_) (fun hb181=>?_)<;>(first|refine kL 182 ?_|refine xL 182 ζb ?_))<;>(first|refine kL 183 ?_|refine xL 183 ζb ?_)<;>(first|refine kL 184 ?_|refine xL 184 ζP ?_)<;>refine xL 185 ζv ?_<;>refine ζd ?_)<;>(
             refine Zeu (fun L1:{L1:List Nd//(∀k,L1[k]? =l[Zls j m ((a+b) / 2+m-j) k]?)∧Sw a b l L1}=>⟨[(0,hv, .val hv),(1, .int .i64 (a:Int),pInt a),(2, .int .i64 (m:Int),pInt m),(3, .int .i64 (b:Int),pInt b),(4,fv, .fn f []),(18, .int .i64 (((a+b) / 2:Nat):Int),pInt (((a+b) / 2:Nat):Int)),(20, .int .i64 (j:Int),pInt j),(24, .int .i64 (((a+b) / 2+m-j:Nat):Int),pInt (((a+b) / 2+m-j:Nat):Int))],Zch hv L1.1⟩) ?_ ?_
             · (first|refine cCd ?_ ?_|refine cC ?_ ?_)<;>intro hb185
               · first
                 |exact bN hb185
                 | (
                  refine nav ?_;(refine ζa ?_<;>refine xL 186 ζb (xL 187 ζb (xL 188 ζb (xL 189 ζb (xL 190 ζb ?_))))<;>(refine ζ3 (Zch hv l) ⟨rfl,trivial⟩ ?_;refine Zaa [] 191 (Tryz.call272) (ZuZ l hl j m ((a+b) / 2+m-j) (by omega) (by omega) (by omega) hv fv f) (fun v191 p191 h191 hR191=>?_);obtain ⟨L1,hL1,hS1,rfl⟩:=hR191;have hL1l:=hS1.len;dsimp only [Zch])<;>refine ζd ?_)
                  first
                  |exact ZaL ⟨L1,hL1,hS1.mono (by omega) (by omega) h3⟩ ⟨rfl,rfl,rfl,rfl,rfl,rfl,rfl,rfl,trivial⟩ ⟨rfl,trivial⟩
                  |exact ZaL ⟨l,fun k=>by rw [Zzt (by omega) (by omega) (by omega)], .refl _⟩ ⟨rfl,rfl,rfl,rfl,rfl,rfl,rfl,rfl,trivial⟩ ⟨rfl,trivial⟩)
               · first
                 |exact bN hb185
                 | (
                  refine nav ?_
                  first
                  |exact ZaL ⟨L1,hL1,hS1.mono (by omega) (by omega) h3⟩ ⟨rfl,rfl,rfl,rfl,rfl,rfl,rfl,rfl,trivial⟩ ⟨rfl,trivial⟩
                  |exact ZaL ⟨l,fun k=>by rw [Zzt (by omega) (by omega) (by omega)], .refl _⟩ ⟨rfl,rfl,rfl,rfl,rfl,rfl,rfl,rfl,trivial⟩ ⟨rfl,trivial⟩)
             · rintro ⟨L1,hL1,hS1⟩;dsimp only;have hL1l:=hS1.len;obtain ⟨g1,g2,g3,g4,g5,g6,g7,g8,g9⟩:=ZuX Zcn (fun _ _ _=>ZbL) h1 h2 h3 s1 s2 hT hL1;have hf1:∀x∈L1,∀y∈L1,AF Tryz.prog f [pTr x,pTr y] (· =pInt (Zcm x y)):=fun x hx y hy=>hf x (Zhd hS1 hx) y (Zhd hS1 hy);unfold Zch;refine nav ?_;(refine ζa ?_<;>refine xL 192 ζb (xL 193 ζb (xL 194 ζP (xL 195 ζb ?_)))<;>(refine bLd 195 (fun hb195=>?_) (fun hb195=>?_)<;>(first|refine kL 196 ?_|refine xL 196 ζb ?_))<;>(first|refine kL 197 ?_|refine xL 197 ζb ?_)<;>(first|refine kL 198 ?_|refine xL 198 ζP ?_)<;>refine xL 199 ζv ?_<;>refine ζd ?_)<;>(
                refine Zeu (fun L2:{L2:List Nd//Sw a ((a+b) / 2) L1 L2∧SrtS leT a ((a+b) / 2) L2}=>⟨[(0,hv, .val hv),(1, .int .i64 (a:Int),pInt a),(2, .int .i64 (m:Int),pInt m),(3, .int .i64 (b:Int),pInt b),(4,fv, .fn f []),(18, .int .i64 (((a+b) / 2:Nat):Int),pInt (((a+b) / 2:Nat):Int)),(20, .int .i64 (j:Int),pInt j),(24, .int .i64 (((a+b) / 2+m-j:Nat):Int),pInt (((a+b) / 2+m-j:Nat):Int))],Zch hv L2.1⟩) ?_ ?_
                · (first|refine cCd ?_ ?_|refine cC ?_ ?_)<;>intro hb199
                  · first
                    |exact bN hb199
                    | (
                     refine nav ?_;(refine ζa ?_<;>refine xL 200 ζb (xL 201 ζb (xL 202 ζb (xL 203 ζb (xL 204 ζb ?_))))<;>(refine ζ3 (Zch hv L1) ⟨rfl,trivial⟩ ?_;refine Zaa [] 205 (Tryz.call249) (ih L1 (by omega) hf1 a j ((a+b) / 2) (by omega) (by omega) (by omega) (by omega) g1 g2) (fun v205 p205 h205 hR205=>?_);obtain ⟨L2,hS2,hO2,rfl⟩:=hR205;have hL2l:=hS2.len;dsimp only [Zch])<;>refine ζd ?_)
                     first
                     |exact ZaL ⟨L2,hS2,hO2⟩ ⟨rfl,rfl,rfl,rfl,rfl,rfl,rfl,rfl,trivial⟩ ⟨rfl,trivial⟩
                     |exact ZaL ⟨L1, .refl _,Zlv g5 g6 (by omega) g1 g2⟩ ⟨rfl,rfl,rfl,rfl,rfl,rfl,rfl,rfl,trivial⟩ ⟨rfl,trivial⟩)
                  · first
                    |exact bN hb199
                    | (
                     refine nav ?_
                     first
                     |exact ZaL ⟨L2,hS2,hO2⟩ ⟨rfl,rfl,rfl,rfl,rfl,rfl,rfl,rfl,trivial⟩ ⟨rfl,trivial⟩
                     |exact ZaL ⟨L1, .refl _,Zlv g5 g6 (by omega) g1 g2⟩ ⟨rfl,rfl,rfl,rfl,rfl,rfl,rfl,rfl,trivial⟩ ⟨rfl,trivial⟩)
                · rintro ⟨L2,hS2,hO2⟩;dsimp only;have hL2l:=hS2.len;have hf2:∀x∈L2,∀y∈L2,AF Tryz.prog f [pTr x,pTr y] (· =pInt (Zcm x y)):=fun x hx y hy=>hf1 x (Zhd hS2 hx) y (Zhd hS2 hy);have g3':SrtS leT ((a+b) / 2) ((a+b) / 2+m-j) L2:=g3.ext leT fun k k1 k2=>hS2.out (.inr k1);have g4':SrtS leT ((a+b) / 2+m-j) b L2:=g4.ext leT fun k k1 k2=>hS2.out (.inr (by omega));unfold Zch;refine nav ?_;(refine ζa ?_<;>refine xL 206 ζb (xL 207 ζb (xL 208 ζP (xL 209 ζb ?_)))<;>(refine bLd 209 (fun hb209=>?_) (fun hb209=>?_)<;>(first|refine kL 210 ?_|refine xL 210 ζb ?_))<;>(first|refine kL 211 ?_|refine xL 211 ζb ?_)<;>(first|refine kL 212 ?_|refine xL 212 ζP ?_)<;>refine xL 213 ζv ?_<;>refine ζd ?_)<;>(
                   (first|refine cCd ?_ ?_|refine cC ?_ ?_)<;>intro hb213
                   · first
                     |exact bN hb213
                     | (
                      refine nav ?_;(refine ζa ?_<;>refine xL 214 ζb (xL 215 ζb (xL 216 ζb (xL 217 ζb (xL 218 ζb ?_))))<;>(refine ζ3 (Zch hv L2) ⟨rfl,trivial⟩ ?_;refine Zaa [] 219 (Tryz.call249) (ih L2 (by omega) hf2 ((a+b) / 2) ((a+b) / 2+m-j) b (by omega) (by omega) (by omega) (by omega) g3' g4') (fun v219 p219 h219 hR219=>?_);obtain ⟨L3,hS3,hO3,rfl⟩:=hR219;have hL3l:=hS3.len;dsimp only [Zch])<;>refine ζd ?_)
                      first
                      |exact ZbT (Zch hv L3) (Tryz.results249) ⟨rfl,trivial⟩ ⟨L3,hS1.trans ((hS2.mono (Xb _) (by omega) (by omega)).trans (hS3.mono (by omega) (Xb _) (by omega))),Zfa (by omega) (by omega) (by omega) g9 hS2 hS3 hO2 hO3,rfl⟩
                      |exact ZbT (Zch hv L2) (Tryz.results249) ⟨rfl,trivial⟩ ⟨L2,hS1.trans (hS2.mono (Xb _) (by omega) (by omega)),Zfa (by omega) (by omega) (by omega) g9 hS2 (.refl _) hO2 (Zlv g7 g8 (by omega) g3' g4'),rfl⟩)
                   · first
                     |exact bN hb213
                     | (
                      refine nav ?_
                      first
                      |exact ZbT (Zch hv L3) (Tryz.results249) ⟨rfl,trivial⟩ ⟨L3,hS1.trans ((hS2.mono (Xb _) (by omega) (by omega)).trans (hS3.mono (by omega) (Xb _) (by omega))),Zfa (by omega) (by omega) (by omega) g9 hS2 hS3 hO2 hO3,rfl⟩
                      |exact ZbT (Zch hv L2) (Tryz.results249) ⟨rfl,trivial⟩ ⟨L2,hS1.trans (hS2.mono (Xb _) (by omega) (by omega)),Zfa (by omega) (by omega) (by omega) g9 hS2 (.refl _) hO2 (Zlv g7 g8 (by omega) g3' g4'),rfl⟩)))))))
end Go.Proofs.YtgfabnhpllkebaaGreatDoor
namespace Go.En
open Go.RowKit Go.Cb
set_option linter.all false
section
variable {P:Program} {c:Ctx} {sL hP:List (Nat×Ent)}
end
section
variable {P:Program} {c:Ctx} {sL hP:List (Nat×Ent)}
theorem ZqM {fn:Func} {R:Value→PV→List (Nat×Ent)→Prop} {t ty k e k' n:Nat} {h:Value} {q:PV} {cs:List PV} (l:Nat) (H':List (Nat×Ent)) (hT:AggT P ty k=true) (hr:fn.results= #[.cell t ty]) (ht:lk sL t=some (padd (sbase h) 0,q)) (hl:lk hP l=some (h, .own e k' n cs)) (hp:k≤cs.length) (hk:0<k) (hsh:(cs.take k).all isSh=true) (hsub:Sub H' hP) (hR:∀V:Value,R V (.agg (cs.take k)) H') (hdf:c.df=[]:=by exact rfl):aR c (bodyPost P fn (Zrt c R)) (⟨sL,hP⟩:St):=fun a w ⟨F,H⟩=>by
 obtain ⟨V,A,h0,h1,h2⟩:=ZfW H hT ht hl hp hk hsh
 have H2:HoldsF c (⟨sL,H'⟩:St) F a w:=H.less (fun _ _ h=>h) fun t x hx=>hsub.lk hx
 have hM:∀b,b<w.heap.size→mof c H' F b→mof c hP F b:=fun b _ hb=>by
  rcases hb with hb|⟨l,x,h1,h2⟩
  · exact .inl hb
  · exact .inr ⟨l,x,hsub.lk h1,h2⟩
 refine ⟨H.df.trans hdf,V,?_,V, .agg (cs.take k),H',F,rfl,hR _,H2.toHeapF,h2.anti hM⟩
 simp only [results,hr]
 simp at h0
 simp [h0,h1]
end
section
variable {P:Program} {st:St} {o:Oper}
theorem ZdP {t e k e' k' n a:Nat} {x y:Operand} {h:Value} {p q:PV} {cs:List PV} {kd:IntKind} {i:Int} (l:Nat) (hT:SlT P t e k=true) (ho:o.op= .indexAddr t x y) (hx:ev st.slots x=some (slc h a n k,p)) (hy:ev st.slots y=some (.int kd i,q)) (hl:lk st.heap l=some (h, .own e' k' n cs)) (h0:0≤i) (h1:(a:Int)+i<n) {m:Nat} (hm:m=(a+i.toNat)*k):
 YE P st o (· =padd (sbase h) m) (.val (padd (sbase h) m)):=
 .exact fun M F w' w H=>by
  subst hm;have hv:=(H.ev hx).1;have hi:=(H.ev hy).1;obtain ⟨g,cap,rfl,hc,_⟩:=Zds (H.tr l _ _ hl) (by omega);refine ⟨.val _,?_⟩;have hca:cap≠a:=by omega
  simp only [slc,hca,if_false,Uc,ZaY,Xx] at hv;simp [execOp,ho,hv,hi,ZfC hT h0 (show i<((n-a:Nat):Int) by omega),sbase,padd,Vi]
theorem Znd {t e k e' k' n a:Nat} {x:Operand} {h:Value} {p:PV} {cs:List PV} (l:Nat) (hT:SlT P t e k=true) (ho:o.op= .call {callee:= .builtin .len,args:= #[x],argTypes:= #[t]}) (hx:ev st.slots x=some (slc h a n k,p)) (hl:lk st.heap l=some (h, .own e' k' n cs)) {m:Nat} (hm:m=n-a):YE P st o (· = .int .i64 m) (.val (.int .i64 m)):=
 .exact fun M F w' w H=>by
  subst hm;have hv:=(H.ev hx).1;obtain ⟨xs,Fs,hrow,hlen,_⟩:=(H.tr l _ _ hl).row;rcases ZaD hrow with ⟨rfl,rfl,_⟩|⟨g,cap,rfl,h1,h2,h3⟩
  · exact ⟨.val _,by simp [execOp,ho,hv,resolve,invoke,builtin,Builtin.len_,run_underlying (SlT.und hT),goInt,slc]⟩
  · exact ⟨.val _,by simp [execOp,ho,hv,resolve,invoke,builtin,Builtin.len_,run_underlying (SlT.und hT),goInt,slc]⟩
end
end Go.En
