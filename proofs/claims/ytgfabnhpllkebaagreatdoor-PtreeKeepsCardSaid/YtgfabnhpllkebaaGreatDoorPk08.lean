/-
  Walks: process trees: the library's stable sort, and equal neighbours left out, at trees.
  Walks: process trees: normal forms. Plain: their sizes.
  The engine, last part: arguments of whatever shape, as they came in, read as plain data; and the frame of a law's row. No program in sight.
  The engine: arguments whose types lead back to themselves, read as plain data, by the depth of the reading. No program in sight.
  The engine: a cell that holds the value of a slot that is read as shared is read so too. No program in sight.
  The engine: a row of strings is sorted by the library. No program in sight.
  Process trees: the activities as a sorted list; parts of valid trees; valid trees are not great. Plain Lean.
  Plain laws: what Accepts, Equivalent, and Auto of trees answer. No program in sight.
  Plain laws: a normal form, a choice. No program in sight.
  Plain laws: lists of strings in order; a string put into its place. No program in sight.
  Walks: process trees: the normal form.
  Walks: words, moves, automata are compared; the law's bounds (layer 7).
  Plain laws: the words of an automaton, in a form that is evaluated. No program in sight.
  Plain laws: the chapter's automaton is evaluated. No program in sight.
  Walks: automata are compared; the law's bounds; the chapter's automaton (layer 7).
  Walks: automata: Star.
  Walks: automata: two automata side by side.
-/
import Derived.WalkKit
import Derived.ProofKit
import Derived.OpenShut
import Derived.ShutString
import Derived.ChangeOld
import Derived.Below
import Derived.Carry
import Derived.Deep.Slices
import Derived.Sort.EncStr
import Derived.Test.YtgfabnhpllkebaaGreatDoorPk07
import Derived.Test.YtgfabnhpllkebaaGreatDoorPk05
import Derived.Test.YtgfabnhpllkebaaGreatDoorPk02
import Derived.Test.YtgfabnhpllkebaaGreatDoorPk03
import Derived.Test.YtgfabnhpllkebaaGreatDoorPk06
import Derived.Test.YtgfabnhpllkebaaGreatDoorPk04
import Derived.Test.YtgfabnhpllkebaaGreatDoorPk01
namespace Go.Proofs.YtgfabnhpllkebaaGreatDoor
open Go.RowKit Go.Cb Go.En
set_option linter.all false
set_option maxRecDepth 100000
theorem ZcX:AggT Tryz.prog 24 3=true:=by kernel_rfl
theorem Zu0:ElT Tryz.prog 22 24 3 48 (.agg #[(.int .i64 0),(.string ByteArray.empty),(.slice none 0 0)]):=⟨Tryz.underlying22,by kernel_rfl,rfl,by decide⟩
theorem Zbb:SlT Tryz.prog 22 24 3=true:=by kernel_rfl
def Zzv (w n:Nat) (l:List Nd):Prop:=∀c,SrtS leT (c*w) (min (c*w+w) n) l
theorem ZiW {w n a:Nat} {l:List Nd} (ha:∃c,a=c*w) (hn:n<a+w) (h:∀c,c*w+w≤a→SrtS leT (c*w) (c*w+w) l) (hs:SrtS leT a n l):Zzv w n l:=fun c=>by
 obtain ⟨c0,rfl⟩:=ha
 rcases Nat.lt_trichotomy c c0 with h1|h1|h1
 · have:(c+1)*w≤c0*w:=Va w h1;rw [XS] at this;exact (h c this).sub leT (Xb _) (Nat.min_le_left _ _)
 · subst h1;rw [Ux (by omega)];exact hs
 · have:(c0+1)*w≤c*w:=Va w h1;rw [XS] at this;exact SrtS.small leT l (by have:=Nat.min_le_right (c*w+w) n;omega)
theorem ZAR {w n a:Nat} {l:List Nd} (h:Zzv w n l) (ha:∃c,a=c*(w*2)) (hn:a+w*2≤n):SrtS leT a (a+w) l∧SrtS leT (a+w) (a+w*2) l:=by
 obtain ⟨c,rfl⟩:=ha
 have e1:c*2*w=c*(w*2):=by rw [Nat.mul_assoc,VL 2 w]
 have h1:=h (c*2)
 have h2:=h (c*2+1)
 rw [XS] at h2
 rw [e1] at h1 h2
 rw [XV (by omega)] at h1 h2
 exact ⟨h1,by rw [show c*(w*2)+w*2=c*(w*2)+w+w by omega];exact h2⟩
theorem ZxS {w n a:Nat} {l:List Nd} (h:Zzv w n l) (ha:∃c,a=c*(w*2)) (hn:n<a+w*2) (hw:0<w):SrtS leT a (min (a+w) n) l∧SrtS leT (a+w) n l:=by
 obtain ⟨c,rfl⟩:=ha
 have e1:c*2*w=c*(w*2):=by rw [Nat.mul_assoc,VL 2 w]
 have h1:=h (c*2)
 have h2:=h (c*2+1)
 rw [XS] at h2
 rw [e1] at h1 h2
 exact ⟨h1,by rw [Ux (by omega)] at h2;exact h2⟩
theorem ZAS {w n:Nat} {l:List Nd} (h:Zzv w n l) (hw:n≤w):SrtS leT 0 n l:=by
 have:=h 0
 rw [Vu,Xx,Ux hw] at this;exact this
theorem ZAT {l:List Nd} (h:SrtS leT 0 l.length l):AscT l:=by
 rw [AscT,VY]
 intro i j hi hj hij
 exact h i j _ _ (Xf _) hij hj (XE hi) (XE hj)
set_option maxHeartbeats 4000000 in
theorem Zu1 (f : Nat) (hc:∀args w,(callFunc f args).run Tryz.prog w= .ok (.enter f args) w) (hv:Value) (fv:Value) (l:List Nd) (hl:l.length≤1000000) (hf:∀x∈l,∀y∈l,AF Tryz.prog f [pTr x,pTr y] (· =pInt (Zcm x y))):AFh False Tryz.prog 214 [(0,hv, .val hv),(1, .int .i64 (l.length:Int),pInt l.length),(2,fv, .fn f [])] (Zch hv l) (fun v q h=>h=Zch hv (Zxn l)):=by
 have hfp:∀{L:List Nd},Sw 0 l.length l L→∀x∈L,∀y∈L,AF Tryz.prog f [pTr x,pTr y] (· =pInt (Zcm x y)):=fun hS x hx y hy=>hf x (Zhd hS hx) y (Zhd hS hy)
 have hn:l.length≤l.length:=Xb _
 unfold Zch
 refine AFh.of_body 63 Tryz.func214 rfl Tryz.ntmps214 (Xa rfl) rfl ?_
 intro w0 M0 N0
 refine nav ?_
 (refine ζa ?_<;>refine xL 6 ζc ?_<;>refine ζd ?_)
 (refine ζa ?_<;>refine xL 10 ζb (xL 7 ζc (xL 8 ζc ?_))<;>refine ζd ?_)
 refine ζD (ι:={q:Nat×List Nd//(∃c,q.1=c*20)∧q.1≤l.length∧Sw 0 l.length l q.2∧∀c,c*20+20≤q.1→SrtS leT (c*20) (c*20+20) q.2}) (fun k=>⟨[(0,_,_),(1,_,_),(2,_,_),(6,_,_),(7, .int .i64 k.1.1,pInt k.1.1),(8, .int .i64 ((k.1.1+20:Nat):Int),pInt ((k.1.1+20:Nat):Int))],[(1000,hv, .own 24 3 l.length (ZaB k.1.2))]⟩) (fun k=>l.length-k.1.1) ⟨(0,l),⟨0,rfl⟩,Xf _, .refl _,fun c h=>by dsimp only at h;omega⟩ (fun a w H=>H.weaken ⟨rfl,rfl,rfl,rfl,rfl,rfl,trivial⟩ ⟨rfl,trivial⟩) ?_
 rintro ⟨⟨a,L⟩,ha,han,hS,hO⟩
 dsimp only
 dsimp only at ha han hS hO;have hLl:=hS.len
 refine nav ?_
 (refine ζa ?_<;>refine xL 11 ζb (xL 12 ζb (xL 13 ZgA ?_))<;>refine ζd ?_)
 (first|refine cCd ?_ ?_|refine cC ?_ ?_)<;>intro hb13
 · first
   |exact bN hb13
   | (
    refine nav ?_;(refine ζa ?_<;>refine xL 14 ζb (xL 15 ζb (xL 16 ζb (xL 17 ζb ?_)))<;>(refine ζ3 (Zch hv L) ⟨by rw [←hLl];rfl,trivial⟩ ?_;refine Zaa [] 18 (Tryz.call248) (Zzs f hc L (by omega) (hfp hS) a (a+20) (by omega) (by omega) hv fv) (fun v18 p18 h18 hR18=>?_);obtain ⟨L2,hS2,hO2,rfl⟩:=hR18;have hL2l:=hS2.len;dsimp only [Zch];rw [hL2l,hLl])<;>refine ζd ?_)
    (refine ζa ?_<;>refine xL 19 ζb (xL 7 ζc ?_)<;>refine ζd ?_)
    (refine ζa ?_<;>refine xL 20 ζb (xL 21 ζb ?_)<;>refine xL 22 ((ZcC (c:=((a+20+20:Nat):Int)))) ?_<;>refine xL 8 ζc ?_<;>refine ζd ?_)
    refine ζh (
     ⟨(a +20,L2),by obtain ⟨c,hc'⟩:=ha;exact ⟨c+1,by dsimp only;omega⟩,by dsimp only;omega,hS.trans (hS2.mono (Xf _) (by omega) (by omega)),fun c h=>by
       dsimp only at h ⊢;obtain ⟨c0,hc0⟩:=ha;rcases Xq c c0 with h1|h1
       · exact (hO c (by omega)).ext leT fun k k1 k2=>hS2.out (.inl (by omega))
       · (have:c=c0:=by omega);subst this;rw [←hc0];exact hO2⟩
     ) (by dsimp only;omega) ⟨rfl,rfl,rfl,rfl,rfl,rfl,trivial⟩ ⟨rfl,trivial⟩)
 · first
   |exact bN hb13
   | (
    (have hna:l.length<a+20:=by omega);refine nav ?_;(refine ζa ?_<;>refine xL 23 ζb (xL 24 ζb (xL 25 ζb (xL 26 ζb ?_)))<;>(refine ζ3 (Zch hv L) ⟨by rw [←hLl];rfl,trivial⟩ ?_;refine Zaa [] 27 (Tryz.call248) (Zzs f hc L (by omega) (hfp hS) a l.length (by omega) (by omega) hv fv) (fun v27 p27 h27 hR27=>?_);obtain ⟨L1,hS1,hO1,rfl⟩:=hR27;have hL1l:=hS1.len;dsimp only [Zch];rw [hL1l,hLl];have hS1':Sw 0 l.length l L1:=hS.trans (hS1.mono (Xf _) (Xb _) (by omega));have hB1:Zzv 20 l.length L1:=ZiW ha hna (fun c h=>(hO c h).ext leT fun k k1 k2=>hS1.out (.inl (by omega))) hO1)<;>refine ζd ?_)
    refine ζD (ι:={q:Nat×List Nd//1≤q.1∧q.1≤2000000∧Sw 0 l.length l q.2∧Zzv q.1 l.length q.2}) (fun k=>⟨[(0,_,_),(1,_,_),(2,_,_),(6, .int .i64 k.1.1,pInt k.1.1)],[(1000,hv, .own 24 3 l.length (ZaB k.1.2))]⟩) (fun k=>l.length-k.1.1) ⟨(20,L1),by dsimp only;omega,by dsimp only;omega,hS1',hB1⟩ (fun a w H=>H.weaken ⟨rfl,rfl,rfl,rfl,trivial⟩ ⟨rfl,trivial⟩) ?_;rintro ⟨⟨w,L⟩,hw1,hw2,hS,hB⟩;dsimp only;dsimp only at hw1 hw2 hS hB;have hLl:=hS.len;refine nav ?_;(refine ζa ?_<;>refine xL 28 ζb (xL 29 ζb (xL 30 ζP ?_))<;>refine ζd ?_)
    (first|refine cCd ?_ ?_|refine cC ?_ ?_)<;>intro hb30
    · first
      |exact bN hb30
      | (
       refine nav ?_;(refine ζa ?_<;>refine xL 31 ζb ?_<;>refine xL 32 ((ZqK (c:=((w*2:Nat):Int)))) ?_<;>refine xL 7 ζc (xL 8 ζc ?_)<;>refine ζd ?_)
       refine ζD (ι:={q:Nat×List Nd//(∃c,q.1=c*(w*2))∧q.1≤l.length∧Sw 0 l.length l q.2∧(∀c,c*(w*2)+w*2≤q.1→SrtS leT (c*(w*2)) (c*(w*2)+w*2) q.2)∧∀k,q.1≤k→q.2[k]? =L[k]? }) (fun k=>⟨[(0,_,_),(1,_,_),(2,_,_),(6,_,_),(7, .int .i64 k.1.1,pInt k.1.1),(8, .int .i64 ((w*2+k.1.1:Nat):Int),pInt ((w*2+k.1.1:Nat):Int))],[(1000,hv, .own 24 3 l.length (ZaB k.1.2))]⟩) (fun k=>l.length-k.1.1) ⟨(0,L),⟨0,(Vu _).symm⟩,Xf _,hS,fun c h=>by dsimp only at h;omega,fun _ _=>rfl⟩ (fun a w H=>H.weaken ⟨rfl,rfl,rfl,rfl,rfl,rfl,trivial⟩ ⟨rfl,trivial⟩) ?_;rintro ⟨⟨a,K⟩,ha,han,hSK,hO,hU⟩;dsimp only;dsimp only at ha han hSK hO hU;have hKl:=hSK.len;refine nav ?_;(refine ζa ?_<;>refine xL 33 ζb (xL 34 ζb (xL 35 ZgA ?_))<;>refine ζd ?_)
       (first|refine cCd ?_ ?_|refine cC ?_ ?_)<;>intro hb35
       · first
         |exact bN hb35
         | (
          (have hab:a+w*2≤l.length:=by omega);have hb2:=ZAR hB ha hab;have g1:SrtS leT a (a+w) K:=hb2.1.ext leT fun k k1 k2=>hU k k1;(have g2:SrtS leT (a+w) (w*2+a) K:=by rw [Nat.add_comm (w*2) a];exact hb2.2.ext leT fun k k1 k2=>hU k (by omega));refine nav ?_;(refine ζa ?_<;>refine xL 36 ζb (xL 37 ζb (xL 38 ζb (xL 39 ζb ?_)))<;>refine xL 40 ((ZcC (c:=((a+w:Nat):Int)))) ?_<;>refine xL 41 ζb (xL 42 ζb ?_)<;>(refine ζ3 (Zch hv K) ⟨by rw [←hKl];rfl,trivial⟩ ?_;refine Zaa [] 43 (Tryz.call249) (Zzu f hc hv fv _ K (by omega) (hfp hSK) a (a+w) (w*2+a) (Xb _) (by omega) (by omega) (by omega) g1 g2) (fun v43 p43 h43 hR43=>?_);obtain ⟨K2,hS2,hO2,rfl⟩:=hR43;have hK2l:=hS2.len;dsimp only [Zch];rw [hK2l,hKl])<;>refine ζd ?_)
          (refine ζa ?_<;>refine xL 44 ζb (xL 7 ζc ?_)<;>refine ζd ?_)
          (refine ζa ?_<;>refine xL 45 ζb (xL 46 ζb ?_)<;>refine xL 47 ((ZqK (c:=((w*2:Nat):Int)))) ?_<;>refine xL 48 ((ZcC (c:=((w*2+(w*2+a):Nat):Int)))) ?_<;>refine xL 8 ζc ?_<;>refine ζd ?_)
          refine ζh (
           ⟨(w *2+a,K2),by obtain ⟨c,hc'⟩:=ha;exact ⟨c+1,by dsimp only;rw [XS];omega⟩,by dsimp only;omega,hSK.trans (hS2.mono (Xf _) (by omega) (by omega)),fun c h=>by
             dsimp only at h ⊢;obtain ⟨c0,hc0⟩:=ha;rcases Nat.lt_trichotomy c c0 with h1|h1|h1
             · have:(c+1)*(w*2)≤c0*(w*2):=Va _ h1;rw [XS] at this;exact (hO c (by omega)).ext leT fun k k1 k2=>hS2.out (.inl (by omega))
             · subst h1;rw [←hc0,Nat.add_comm a (w*2)];exact hO2
             · have:(c0+1)*(w*2)≤c*(w*2):=Va _ h1;rw [XS] at this;omega,fun k hk=>by dsimp only at hk ⊢;rw [hS2.out (.inr hk)];exact hU k (by omega)⟩
           ) (by dsimp only;omega) ⟨rfl,rfl,rfl,rfl,rfl,rfl,trivial⟩ ⟨rfl,trivial⟩)
       · first
         |exact bN hb35
         | (
          (have hna:l.length<a+w*2:=by omega);have hb3:=ZxS hB ha hna hw1;have g1:SrtS leT a (min (a+w) l.length) K:=hb3.1.ext leT fun k k1 k2=>hU k k1;have g2:SrtS leT (a+w) l.length K:=hb3.2.ext leT fun k k1 k2=>hU k (by omega);refine nav ?_;(refine ζa ?_<;>refine xL 49 ζb (xL 50 ζb ?_)<;>refine xL 51 ((ZcC (c:=((a+w:Nat):Int)))) ?_<;>refine xL 9 ζc ?_<;>refine ζd ?_)
          (refine ζa ?_<;>refine xL 52 ζb (xL 53 ζb (xL 54 ζP ?_))<;>refine ζd ?_)
          (first|refine cCd ?_ ?_|refine cC ?_ ?_)<;>intro hb54
          · first
            |exact bN hb54
            | (
             rw [XV (by omega)] at g1;refine nav ?_;(refine ζa ?_<;>refine xL 55 ζb (xL 56 ζb (xL 57 ζb (xL 58 ζb (xL 59 ζb ?_))))<;>(refine ζ3 (Zch hv K) ⟨by rw [←hKl];rfl,trivial⟩ ?_;refine Zaa [] 60 (Tryz.call249) (Zzu f hc hv fv _ K (by omega) (hfp hSK) a (a+w) l.length (Xb _) (by omega) (by omega) (by omega) g1 g2) (fun v60 p60 h60 hR60=>?_);obtain ⟨K2,hS2,hO2,rfl⟩:=hR60;have hK2l:=hS2.len;dsimp only [Zch];rw [hK2l,hKl])<;>refine ζd ?_)
             (refine ζa ?_<;>refine xL 61 ζb ?_<;>refine xL 62 ((ZqK (c:=((w*2:Nat):Int)))) ?_<;>refine xL 6 ζc ?_<;>refine ζd ?_)
             first
              | (exact ζh (
                  ⟨(w*2,K),by dsimp only;omega,by dsimp only;omega,hSK,ZiW ha hna hO g1⟩
                  ) (by dsimp only;omega) ⟨rfl,rfl,rfl,rfl,trivial⟩ ⟨rfl,trivial⟩)
              | (exact ζh (
                  ⟨(w*2,K2),by dsimp only;omega,by dsimp only;omega,hSK.trans (hS2.mono (Xf _) (by omega) (by omega)),show Zzv (w*2) l.length K2 from ZiW ha hna (fun c h=>(hO c h).ext leT fun k k1 k2=>hS2.out (.inl (by omega))) hO2⟩
                  ) (by dsimp only;omega) ⟨rfl,rfl,rfl,rfl,trivial⟩ ⟨rfl,trivial⟩))
          · first
            |exact bN hb54
            | (
             rw [Ux (by omega)] at g1;refine nav ?_;(refine ζa ?_<;>refine xL 61 ζb ?_<;>refine xL 62 ((ZqK (c:=((w*2:Nat):Int)))) ?_<;>refine xL 6 ζc ?_<;>refine ζd ?_)
             first
              | (exact ζh (
                  ⟨(w*2,K),by dsimp only;omega,by dsimp only;omega,hSK,ZiW ha hna hO g1⟩
                  ) (by dsimp only;omega) ⟨rfl,rfl,rfl,rfl,trivial⟩ ⟨rfl,trivial⟩)
              | (exact ζh (
                  ⟨(w*2,K2),by dsimp only;omega,by dsimp only;omega,hSK.trans (hS2.mono (Xf _) (by omega) (by omega)),show Zzv (w*2) l.length K2 from ZiW ha hna (fun c h=>(hO c h).ext leT fun k k1 k2=>hS2.out (.inl (by omega))) hO2⟩
                  ) (by dsimp only;omega) ⟨rfl,rfl,rfl,rfl,trivial⟩ ⟨rfl,trivial⟩))))
    · first
      |exact bN hb30
      | (
       refine nav ?_;have hso:=ZAS hB (by omega);rw [←hLl] at hso;refine ZbT [(1000,hv, .own 24 3 l.length (ZaB L))] (Tryz.results214) ⟨rfl,trivial⟩ ?_;rw [←ZAA (ZAT hso) hS.perm];rw [hLl]))
theorem Zu2 (f:Nat) (hc:∀args w,(callFunc f args).run Tryz.prog w= .ok (.enter f args) w) (hv:Value) (fv:Value) (l:List Nd) (hl:l.length≤1000000) (hf:∀x∈l,∀y∈l,AF Tryz.prog f [pTr x,pTr y] (· =pInt (Zcm x y))):AFh False Tryz.prog 174 [(0,hv, .val hv),(1,fv, .fn f [])] (Zch hv l) (fun v q h=>h=Zch hv (Zxn l)):=by
 unfold Zch
 refine AFh.of_body 9 Tryz.func174 rfl Tryz.ntmps174 (Xa rfl) rfl ?_
 intro w0 M0 N0
 refine nav ?_
 (refine ζa ?_<;>refine xL 4 ζb (xL 5 ζb (xL 6 (Zbw 1000 Zbb) (xL 7 ζb ?_)))<;>(refine ζ3 (Zch hv l) ⟨rfl,trivial⟩ ?_;refine Zaa [] 8 (Tryz.call214) (Zu1 f hc hv fv l hl hf) (fun v8 p8 h8 hR8=>?_);subst hR8;dsimp only [Zch])<;>refine ζd ?_)
 exact ZbT (Zch hv (Zxn l)) (Tryz.results174) ⟨rfl,trivial⟩ rfl
theorem ZAU {l:List Nd} (h:1≤l.length):Zhb (l.take 1)=l.take 1:=by
 cases l with
 |nil=>simp at h
 |cons x l=>rfl
theorem ZqN {l:List Nd} (hs:AscT l) {p:Nat} {x y:Nd} (hy:l[p]? =some y) (hx:l[p+1]? =some x) (he:Zer x y=true):Zhb (l.take (p+1+1))=Zhb (l.take (p+1)):=by
 have e:=Zba.1 he
 subst e
 refine ZqB (Zeb _ (hs.sublist (Uh _ _))) (Zeb _ (hs.sublist (Uh _ _))) fun z=>?_
 rw [ZcS,ZcS,ζU hx,Xp,Xi]
 exact ⟨fun h=>h.elim id fun h=>by subst h;rw [ζU hy];exact X6 _ (Xi.2 rfl), .inl⟩
theorem Zu3 {l:List Nd} (hs:AscT l) {i j:Nat} {x y:Nd} (hij:i<j) (hx:l[i]? =some x) (hy:l[j]? =some y):leT x y:=by
 obtain ⟨h1,rfl⟩:=XF.1 hx
 obtain ⟨h2,rfl⟩:=XF.1 hy
 exact VY.1 hs i j h1 h2 hij
theorem Zu4 {l:List Nd} (hs:AscT l) {p:Nat} {x y:Nd} (hy:l[p]? =some y) (hx:l[p+1]? =some x) (he:Zer x y=false):Zhb (l.take (p+1+1))=Zhb (l.take (p+1))++[x]:=by
 have hyx:Zcm y x<0:=Zli (Zu3 hs (by omega) hy hx) fun e=>by rw [Zba.2 e.symm] at he;cases he
 refine ZqB (Zeb _ (hs.sublist (Uh _ _))) ?_ fun z=>?_
 · refine V7.2 ⟨Zeb _ (hs.sublist (Uh _ _)),Vx ..,fun z hz w hw=>?_⟩;rw [Xi.1 hw];rw [ZcS] at hz;obtain ⟨i,hi⟩:=Vc hz;have hi':=ζi hi;rw [Xt] at hi';rw [XW (by omega)] at hi;by_cases e:i=p
   · subst e;rw [hi] at hy;cases hy;exact hyx
   · have h:=Zu3 hs (show i<p by omega) hi hy;by_cases e2:z=y
     · subst e2;exact hyx
     · have:=Zli h e2;have t1:=Zf7 z y;have t2:=Zf7 y x;have:=Zum z y x (by omega) (by omega);omega
 · rw [Xp,ZcS,Xi,ζU hx,ZcS,Xp,Xi]
theorem Zkf {α β:Type} {f:α→List β} {m:Nat} (hf:∀x,(f x).length=m):∀(L:List α) (k:Nat),(L.flatMap f).take (k*m)=(L.take k).flatMap f
 |[],k=>by simp
 |x::L,0=>by simp
 | x::L,k+1=>by
   rw [Vz,Xv,Xv,←Zkf hf L k,List.take_append,Xn (by rw [hf,Vi];omega),hf,show (k+1)*m-m=k*m by rw [Vi];omega]
theorem ZxT {hv:Value} (h:hv.oneCell'=true) (i j k:Nat):(slc hv i j k).oneCell'=true:=by
 unfold slc;split
 · rfl
 · exact h
set_option maxHeartbeats 2000000 in
theorem Zne (f : Nat) (hc:∀args w,(callFunc f args).run Tryz.prog w= .ok (.enter f args) w) (fv:Value) (l:List Nd) (hl:l.length≤1000000) (hs:AscT l) (hf:∀x∈l,∀y∈l,AF Tryz.prog f [pTr x,pTr y] (· =ζ7 (Zer x y))) (hv:Value) (hvo:hv.oneCell'=true):AFh False Tryz.prog 176 [(0,hv, .val hv),(1,fv, .fn f [])] [(1000,hv, .own 24 3 l.length (ZaB l))] (fun v q h=>v.oneCell'=true∧q= .val v∧h=[(1000,v, .own 24 3 (Zhb l).length (ZaB (Zhb l)))]):=by
 refine AFh.of_body 66 Tryz.func176 rfl Tryz.ntmps176 (Xa rfl) rfl ?_
 intro w0 M0 N0
 refine nav ?_
 (refine ζa ?_<;>refine xL 4 ζc ?_<;>refine ζd ?_)
 (refine ζa ?_<;>refine xL 8 ζb (xL 9 (Zbw 1000 Zbb) (xL 10 ζP ?_))<;>refine ζd ?_)
 (first|refine cCd ?_ ?_|refine cC ?_ ?_)<;>intro hb10
 · first
   |exact bN hb10
   | (
    refine nav ?_;(refine ζa ?_<;>refine xL 11 ζb (xL 4 ζc ?_)<;>refine ζd ?_)
    refine ZfE [(1000,hv,PV.own 24 3 l.length (ZaB l))] (Tryz.results176) rfl ⟨rfl,trivial⟩ ⟨hvo,rfl,?_⟩;have hm:Zhb l=l:=by
     match l,hl,hb10 with
     |[],_,_=>rfl
     |[_],_,_=>rfl
     |_::_::_,_,h=>simp at h;omega
    rw [hm])
 · first
   |exact bN hb10
   | (
    refine nav ?_;(refine ζa ?_<;>refine xL 5 ζc ?_<;>refine ζd ?_)
    refine ζD (ι:={k:Nat//1≤k∧k≤l.length∧Zhb (l.take k)=l.take k}) (fun k=>⟨[(0,_,_),(1,_,_),(5, .int .i64 k.1,pInt k.1)],[(1000,_,_)]⟩) (fun k=>l.length-k.1) ⟨1,Xb _,by omega,ZAU (by omega)⟩ (fun a w H=>H.weaken ⟨rfl,rfl,rfl,trivial⟩ ⟨rfl,trivial⟩) ?_;rintro ⟨k1,hk1,hk,hmk⟩;dsimp only;obtain ⟨k,rfl⟩:∃k,k1=k+1:=⟨k1-1,by omega⟩;refine nav ?_;(refine ζa ?_<;>refine xL 12 ζb (xL 13 ζb (xL 14 (Zbw 1000 Zbb) (xL 15 ζP ?_)))<;>refine ζd ?_)
    (first|refine cCd ?_ ?_|refine cC ?_ ?_)<;>intro hb15
    · first
      |exact bN hb15
      | (
       obtain ⟨x,hx⟩:=ζo (show k+1<l.length by omega);obtain ⟨y,hy⟩:=ζo (show k<l.length by omega);have e1:=ζ4 hx;have e2:=Zak hx;have e3:=ζ4 hy;have e4:=Zak hy;have hlt:k+1<l.length:=ζi hx;refine nav ?_;(refine ζV (fun i=>([]:List Nat).elem i) [1000] kR ?_<;>refine xD 0 18 rfl ζb ?_<;>refine xD 1 19 rfl ζb ?_<;>refine xD 2 20 rfl ζb ?_<;>refine xD 3 21 rfl (ζu 1000 Zbb) ?_<;>(refine yD 4 22 rfl (ζm 1000 ZcX) fun v22 h=>?_;cases h)<;>refine xD 5 23 rfl ζb ?_<;>refine xE 6 24 rfl ζb ?_<;>refine xE 7 25 rfl ((ZbF (c:=((k:Nat):Int)))) ?_<;>refine xE 8 26 rfl (ζu 1000 Zbb) ?_<;>(refine yE 9 27 rfl (ζm 1000 ZcX) fun v27 h=>?_;cases h)<;>(refine ζj 10 kR ?_)<;>(refine Zdt (d:=28) rfl (Zjr (f:=f) (ps:=[]) rfl ⟨_,rfl⟩ hc rfl (hf x (Xg hx) y (Xg hy))) fun v28 h=>?_;cases h)<;>refine Zae kR (nav ?_)<;>try dsimp only)
       (first|refine cCd ?_ ?_|refine cC ?_ ?_)<;>intro hb28
       · first
         |exact bN hb28
         | (
          have hsm:=ZqN hs hy hx (by unfold Zer;simpa using hb28);(have hl1:(Zhb (l.take (k+1+1))).length=k+1:=by rw [hsm,hmk,Xt];omega);refine nav ?_;(refine ζa ?_<;>refine xL 29 ζb (xL 30 ζb ?_)<;>refine xL 31 (ZdA (i:=k+1) (j:=l.length) 1000 Zbb rfl rfl rfl rfl rfl (VZ hlt) (Xb _)) ?_<;>refine xL 6 ζc ?_<;>refine ζd ?_)
          (refine ζa ?_<;>refine xL 7 ζc ?_<;>refine ζd ?_)
          refine ζD (ι:={q:Nat×Nat×List Nd//1≤q.1∧k+1+q.1≤l.length∧q.2.1=(Zhb (l.take (k+1+q.1))).length∧q.2.2.length=l.length∧q.2.2.take q.2.1=Zhb (l.take (k+1+q.1))∧q.2.1≤k+q.1∧∀i,k+q.1≤i→q.2.2[i]? =l[i]? }) (fun k=>⟨[(0,_,_),(1,_,_),(6,_,_),(5, .int .i64 k.1.2.1,pInt k.1.2.1),(7, .int .i64 k.1.1,pInt k.1.1)],[(1000,hv, .own 24 3 l.length (ZaB k.1.2.2))]⟩) (fun k=>l.length-k.1.1) ⟨(1,k+1,l),Xb _,by dsimp only;omega,hl1.symm,rfl,by dsimp only;rw [hsm,hmk],Xb _,fun i _=>rfl⟩ (fun a w H=>H.weaken ⟨rfl,rfl,rfl,rfl,rfl,trivial⟩ ⟨rfl,trivial⟩) ?_;rintro ⟨⟨j,K,L⟩,hj1,hj,hK,hLl,hLt,hKj,hLr⟩;dsimp only;dsimp only at hj1 hj hK hLl hLt hKj hLr;obtain ⟨j',rfl⟩:∃j',j=j'+1:=⟨j-1,by omega⟩;(have hK2:(K:Int)≤1000000:=by omega);rw [show k+1+(j'+1)=k+1+j'+1 from rfl] at hK hLt;refine nav ?_;(refine ζa ?_<;>refine xL 32 ζb (xL 33 ζb ?_)<;>refine xL 34 ((Znd (a:=k+1) (m:=l.length-(k+1)) 1000 Zbb rfl rfl rfl rfl)) ?_<;>refine xL 35 ζP ?_<;>refine ζd ?_)
          (first|refine cCd ?_ ?_|refine cC ?_ ?_)<;>intro hb35
          · first
            |exact bN hb35
            | (
             obtain ⟨u,hu⟩:=ζo (show k+1+(j'+1)<l.length by omega);obtain ⟨v,hv2⟩:=ζo (show k+1+j'<l.length by omega);(have hu':L[k+1+(j'+1)]? =some u:=by rw [hLr _ (by omega)];exact hu);(have hv':L[k+1+j']? =some v:=by rw [hLr _ (by omega)];exact hv2);have g1:=ζ4 hu';have g2:=Zak hu';have g3:=ζ4 hv';have g4:=Zak hv';(have g5:K<L.length:=by omega);(have g6:K*3+3≤(ZaB L).length:=by rw [ZhX];omega);refine nav ?_;(refine ζV (fun i=>([]:List Nat).elem i) [1000] kR ?_<;>refine xD 0 38 rfl ζb ?_<;>refine xD 1 39 rfl ζb ?_<;>refine xD 2 40 rfl ζb ?_<;>refine xD 3 41 rfl ((ZdP (a:=k+1) (m:=(k+1+(j'+1))*3) 1000 Zbb rfl rfl rfl rfl (by omega) (by omega) (by omega))) ?_<;>(refine yD 4 42 rfl (ζm 1000 ZcX) fun v42 h=>?_;cases h)<;>refine xD 5 43 rfl ζb ?_<;>refine xE 6 44 rfl ζb ?_<;>refine xE 7 45 rfl ((ZbF (c:=((j':Nat):Int)))) ?_<;>refine xE 8 46 rfl ((ZdP (a:=k+1) (m:=(k+1+j')*3) 1000 Zbb rfl rfl rfl rfl (by omega) (by omega) (by omega))) ?_<;>(refine yE 9 47 rfl (ζm 1000 ZcX) fun v47 h=>?_;cases h)<;>(refine ζj 10 kR ?_)<;>(refine Zdt (d:=48) rfl (Zjr (f:=f) (ps:=[]) rfl ⟨_,rfl⟩ hc rfl (hf u (Xg hu) v (Xg hv2))) fun v48 h=>?_;cases h)<;>refine xE 11 49 rfl Zaw ?_<;>refine Zae kR (nav ?_)<;>try dsimp only)
             (first|refine cCd ?_ ?_|refine cC ?_ ?_)<;>intro hb49
             · first
               |exact bN hb49
               | (
                have hnw2:=Zu4 hs hv2 hu (by simpa using hb49);have hset:=ZoN L K u g5;(have hlen2:K+1=(Zhb (l.take (k+1+j'+1+1))).length:=by rw [hnw2,Xd,Xz,hK]);have htk2:(L.set K u).take (K+1)=Zhb (l.take (k+1+j'+1+1)):=by
                 rw [hnw2,←hLt,List.take_set,ζU (XE g5),Us _ _ (by rw [Xt];omega),Xt,XV (by omega),VB];rfl
                refine nav ?_;(refine ζa ?_<;>refine xL 50 ζb (xL 51 ζb (xL 52 ζb (xL 53 ζb ?_)))<;>refine xL 54 ((ZdP (a:=k+1) (m:=(k+1+(j'+1))*3) 1000 Zbb rfl rfl rfl rfl (by omega) (by omega) (by omega))) ?_<;>(refine yL 55 (ζm 1000 ZcX) fun v55 h=>?_;cases h)<;>refine xL 56 (ζu 1000 Zbb) ?_<;>refine ζt 1000 ZcX ?_<;>refine ζd ?_)
                (refine ζa ?_<;>refine xL 57 ζb (xL 58 ζM (xL 5 ζc ?_))<;>refine ζd ?_)
                (refine ζa ?_<;>refine xL 36 ζb (xL 37 ζM (xL 7 ζc ?_))<;>refine ζd ?_)
                try rw [hset]
                first
                 | (exact ζh (
                     ⟨(j'+1+1,K+1,L.set K u),by dsimp only;omega,by dsimp only;omega,hlen2,by dsimp only;rw [Xr];exact hLl,htk2,by dsimp only;omega,fun i hi=>by dsimp only at hi ⊢;rw [X' (by omega)];exact hLr i (by omega)⟩
                     ) (by dsimp only;omega) ⟨rfl,rfl,rfl,rfl,rfl,trivial⟩ ⟨rfl,trivial⟩)
                 | (exact ζh (
                     ⟨(j'+1+1,K,L),by dsimp only;omega,by dsimp only;omega,hK.trans (by rw [show k+1+(j'+1+1)=k+1+j'+1+1 by omega,hsm2]),hLl,hLt.trans (by rw [show k+1+(j'+1+1)=k+1+j'+1+1 by omega,hsm2]),by dsimp only;omega,fun i hi=>hLr i (by dsimp only at hi;omega)⟩
                     ) (by dsimp only;omega) ⟨rfl,rfl,rfl,rfl,rfl,trivial⟩ ⟨rfl,trivial⟩))
             · first
               |exact bN hb49
               | (
                have hsm2:=ZqN hs hv2 hu (by simpa using hb49);refine nav ?_;(refine ζa ?_<;>refine xL 36 ζb (xL 37 ζM (xL 7 ζc ?_))<;>refine ζd ?_)
                try rw [hset]
                first
                 | (exact ζh (
                     ⟨(j'+1+1,K+1,L.set K u),by dsimp only;omega,by dsimp only;omega,hlen2,by dsimp only;rw [Xr];exact hLl,htk2,by dsimp only;omega,fun i hi=>by dsimp only at hi ⊢;rw [X' (by omega)];exact hLr i (by omega)⟩
                     ) (by dsimp only;omega) ⟨rfl,rfl,rfl,rfl,rfl,trivial⟩ ⟨rfl,trivial⟩)
                 | (exact ζh (
                     ⟨(j'+1+1,K,L),by dsimp only;omega,by dsimp only;omega,hK.trans (by rw [show k+1+(j'+1+1)=k+1+j'+1+1 by omega,hsm2]),hLl,hLt.trans (by rw [show k+1+(j'+1+1)=k+1+j'+1+1 by omega,hsm2]),by dsimp only;omega,fun i hi=>hLr i (by dsimp only at hi;omega)⟩
                     ) (by dsimp only;omega) ⟨rfl,rfl,rfl,rfl,rfl,trivial⟩ ⟨rfl,trivial⟩)))
          · first
            |exact bN hb35
            | (
             have hall:l.take (k+1+j'+1)=l:=Xn (by omega);rw [hall] at hK hLt;(have hKl:K≤l.length:=by omega);refine nav ?_;(refine ζa ?_<;>refine xL 59 ζb (xL 60 ζb ?_)<;>refine xL 61 (ZdA (i:=K) (j:=l.length) 1000 Zbb rfl rfl rfl rfl rfl hKl (Xb _)) ?_<;>(refine ZpO 1000 Zu0 (by decide) rfl rfl rfl rfl rfl hKl ?_;intro cs2 hcs1 hcs2)<;>refine ζd ?_)
             (refine ζa ?_<;>refine xL 62 ζb (xL 63 ζb ?_)<;>refine xL 64 (ZdA (i:=0) (j:=K) 1000 Zbb rfl rfl rfl rfl rfl (Xf _) hKl) ?_<;>refine xL 4 ζc ?_<;>refine ζd ?_)
             refine Zcr (ZEj (l:=1000) K rfl hKl) fun _=>?_;refine ZfE [(1000,slc hv 0 K 3,PV.own 24 3 K (cs2.take (K*3)))] (Tryz.results176) rfl ⟨rfl,trivial⟩ ⟨ZxT hvo _ _ _,rfl,?_⟩;rw [hcs2,←hLt,Za9,Zkf ZiV,←Za9];rw [show (L.take K).length=K by rw [Xt];omega]))
       · first
         |exact bN hb28
         | (
          have hnw:=Zu4 hs hy hx (by unfold Zer;simpa using hb28);rw [hmk,←ζU hx] at hnw;refine nav ?_;(refine ζa ?_<;>refine xL 16 ζb (xL 17 ζM (xL 5 ζc ?_))<;>refine ζd ?_)
          refine ζh (
           ⟨k+1+1,by omega,by omega,hnw⟩
           ) (by dsimp only;omega) ⟨rfl,rfl,rfl,trivial⟩ ⟨rfl,trivial⟩))
    · first
      |exact bN hb15
      | (
       refine nav ?_;(refine ζa ?_<;>refine xL 65 ζb (xL 4 ζc ?_)<;>refine ζd ?_)
       refine ZfE [(1000,hv,PV.own 24 3 l.length (ZaB l))] (Tryz.results176) rfl ⟨rfl,trivial⟩ ⟨hvo,rfl,?_⟩;rw [Xn (show l.length≤k+1 by omega)] at hmk;rw [hmk]))
theorem Zci:AggT Tryz.prog 24 3=true:=by kernel_rfl
theorem ZiX:ElT Tryz.prog 22 24 3 48 (.agg #[(.int .i64 0),(.string ByteArray.empty),(.slice none 0 0)]):=⟨Tryz.underlying22,by kernel_rfl,rfl,by decide⟩
theorem ZiY:FldT Tryz.prog 24 0 0=true:=by kernel_rfl
theorem ZoO:FldT Tryz.prog 24 2 2=true:=by kernel_rfl
theorem Zu5:NoAgg Tryz.prog 22=true:=by kernel_rfl
theorem ZqO:NoAgg Tryz.prog 3=true:=by kernel_rfl
theorem Zgf:SlT Tryz.prog 22 24 3=true:=by kernel_rfl
theorem Znf:ZaZ Tryz.prog 24=some ((.agg #[(.int .i64 0),(.string ByteArray.empty),(.slice none 0 0)]),([0,1,2]:List Nat).map fun o=>(o,1)):=by kernel_rfl
theorem Zng:ZeroT Tryz.prog 24 (.agg #[(.int .i64 0),(.string ByteArray.empty),(.slice none 0 0)]):=by unfold ZeroT;kernel_rfl
theorem Zhe (t:Nd):szT t=1+szL t.l:=by cases t;rw [szT];rfl
theorem ZqP {l m:List Nd} (h:l.Perm m):szL l=szL m:=by
 induction h with
 |nil=>rfl
 |cons x _ ih=>rw [szL,szL,ih]
 |swap x y l=>simp only [szL];omega
 |trans _ _ h1 h2=>exact h1.trans h2
theorem Zu6:∀l:List Nd,szL (Zhb l)≤szL l
 |[]=>Xb _
 |[x]=>Xb _
 | x::y::m=>by
   have:=Zu6 (y::m);rw [Zhb];split
   · rw [szL];omega
   · rw [szL,szL];omega
theorem ZoP (op:Int) (l:List Nd):szL (ZbZ op l)≤szL l:=by
 induction l with
 |nil=>exact Xb _
 | cons x l ih=>
   unfold ZbZ at ih ⊢;rw [Xv,ZcW,szL];have:szL (if x.op=op then x.l else if x.op≠2∨op=4 then [x] else [])≤szT x:=by
    split
    · rw [Zhe];omega
    · split
      · simp [szL]
      · simp [szL]
   omega
theorem ZeL (l:List Nd):l.length≤szL l:=by
 induction l with
 |nil=>exact Xb _
 |cons x l ih=>have:=Zup x;rw [szL,Xc];omega
theorem Zu7 (op:Int) (p:List Nd):szL (Zjz op p)≤szL p:=by
 unfold Zjz
 split
 · exact Xb _
 · split
   · exact XU (Zu6 _) (Nat.le_of_eq (ZqP (Zcz p)))
   · exact Nat.le_of_eq (ZqP (Zcz p))
theorem ZCY (op:Int):∀p:List Nd,szT (Zl0 op p)≤1+szL p
 |[]=>by rw [Zl0];exact Xb _
 |[x]=>by rw [Zl0,szL];omega
 |x::y::l=>by rw [Zl0,szT];exact Xb _
theorem Zu8 (op:Int) (l:List Nd):szT (ZgO op l)≤1+szL l:=by
 unfold ZgO
 have h1:=ZCY op (Zjz op (ZbZ op l))
 have h2:=Zu7 op (ZbZ op l)
 have h3:=ZoP op l
 omega
theorem ZAV (f s:Nd):szT (Zes f s).1+szT (Zes f s).2≤szT f+szT s:=by
 unfold Zes
 split
 · split
   · rename_i a b r hl;have h1:=Zu8 4 [b,s];have h2:=Zhe f;rw [hl] at h2;simp only [szL] at h1 h2 ⊢;omega
   · exact Xb _
 · exact Xb _
theorem ZCZ (l:List Nd):szT (ZB5 l)≤1+szL l:=by
 match l with
 |[]=>exact VU 1 _
 |[x]=>exact VU 1 _
 | f::s::r=>
   have h:=ZAV f s;rw [ZB5,ZsL];split
   · exact VU 1 _
   · rw [szT];simp only [szL];omega
theorem ZC0 (o:Int) (a:ByteArray) (l:List Nd):szT (ZsM o a l)≤1+szL l:=by
 unfold ZsM
 split
 · rw [szT,szL];omega
 · split
   · exact ZCZ l
   · exact Zu8 o l
theorem Zhf:∀t:Nd,szT (ZaK t)≤szT t:=Nd.ind fun o a l ih=>by
 rw [ZaK,szT]
 have h1:=ZC0 o a (Zdi l)
 have h2:szL (Zdi l)≤szL l:=by
  clear h1;induction l with
  |nil=>exact Xb _
  | cons x l ih2=>
    rw [Zdi,szL,szL];have h3:=ih x (Xk ..);have h4:=ih2 fun y hy=>ih y (Xj _ hy);omega
 omega
theorem Zu9 {s:ByteArray} (h:ZcN s=true):s.size≤40:=by
 rcases Xq 40 s.size with h1|h1
 · rw [Zdc (.inr h1)] at h;cases h
 · exact h1
theorem Zlx {t:Nd} (h:rightT t=true):t.act.size≤40:=by
 unfold rightT at h
 split at h
 · simp only [Xe] at h;exact Zu9 h.2
 · split at h
   · simp only [Xe,decide_eq_true_eq] at h;rw [h.2];decide
   · split at h
     · simp only [Xe,decide_eq_true_eq] at h;rw [h.2];decide
     · split at h
       · simp only [Xe,decide_eq_true_eq] at h;rw [h.2];decide
       · cases h
theorem ZoQ:∀t:Nd,okT t=true→szT t≤1000000→FitT t:=Nd.ind fun o a l ih hok hs=>by
 obtain ⟨h1,h2⟩:=Zbt.1 hok
 have h3:=Zhe (.mk o a l)
 have h4:=ZeL l
 have h5:=Zlx h1
 have h6:=ZcA h1
 simp only [Nd.l,Nd.act,Nd.op] at h3 h5 h6 h2
 refine .mk _ (by show l.length≤_;omega) (by show a.size≤_;omega) (by show _≤o;omega) (by show o≤_;omega) fun x hx=>?_
 have h7:=Zea (show x∈l from hx)
 exact ih x hx (h2 x hx) (by omega)
theorem Znh {t:Nd} (h:okT t=true):okT (ZaK t)=true:=(Zuv t h).ok
theorem ZiZ {t:Nd} (h:okT t=true) (hs:szT t≤1000000):FitT (ZaK t):=ZoQ _ (Znh h) (XU (Zhf t) hs)
theorem ZxU (op:Int) {l:List Nd} {k:Nat} {x:Nd} (h:l[k]? =some x):ZbZ op (l.take (k+1))=ZbZ op (l.take k)++(if x.op=op then x.l else if x.op≠2∨op=4 then [x] else []):=by
 unfold ZbZ
 rw [ζU h,XX,Vy]
theorem ZxV {op:Int} {l:List Nd} {y:Nd} (h:y∈ZbZ op l):∃x∈l,y=x∨y∈x.l:=by
 unfold ZbZ at h
 obtain ⟨x,hx,hy⟩:=X4.1 h
 split at hy
 · exact ⟨x,hx, .inr hy⟩
 · split at hy
   · exact ⟨x,hx, .inl (Xi.1 hy)⟩
   · cases hy
theorem ZAW {op:Int} {l:List Nd} (h:∀x∈l,FitT x):∀y∈ZbZ op l,FitT y:=fun y hy=>by
 obtain ⟨x,hx,h1|h1⟩:=ZxV hy
 · rw [h1];exact h x hx
 · exact (h x hx).p y h1
theorem Zhg (op:Int) (l:List Nd) (k:Nat):(ZbZ op (l.take k)).length≤szL l:=by
 have h1:=ZeL (ZbZ op (l.take k))
 have h2:=ZoP op (l.take k)
 have h3:szL (l.take k)≤szL l:=by
  conv=>rhs;rw [←Vt k l]
  rw [ZcW];omega
 omega
theorem Zni (l:List Nd):(ZaB l).all En.one=true:=by
 rw [Za9,Xy]
 intro p hp
 obtain ⟨x,_,hx⟩:=X4.1 hp
 rcases Xm.1 hx with h|hx
 · subst h;rfl
 · rcases Xm.1 hx with h|hx
   · subst h;rfl
   · rcases Xm.1 hx with h|hx
     · subst h;rfl
     · cases hx
theorem Zi0 (l:List Nd) (x:Nd):ZaB l++cN x=ZaB (l++[x]):=by
 rw [Za9,Za9,XX,Vy]
theorem ZxW (l m:List Nd):ZaB l++ZaB m=ZaB (l++m):=by
 rw [Za9,Za9,Za9,XX]
theorem Zva:Rr (.agg [.val (.int .i64 2), .val (.string ByteArray.empty), .val (.slice none 0 0)]) (pTr ZnZ):=Rr.agg rfl fun i a b ha hb=>by
 match i with
 |0=>cases ha;cases hb;exact Rr.rfl' _
 |1=>cases ha;cases hb;exact Rr.rfl' _
 |2=>cases ha;cases hb;exact Rr.nil
 |i+3=>simp at ha
theorem Zgg (e n:Nat) (l:List Nd) (hn:n=l.length):share (.own e 3 n (ZaB l))=Zce l:=by
 subst hn
 rw [share,Zac,Za9,Uv]
 unfold Zce
 rw [Za9];rfl
def sS (op:Int) (p:List Nd):List Nd:=if op=3 then p else Zxn p
theorem ZC1 (op:Int) (p:List Nd):(sS op p).length=p.length:=by
 unfold sS;split
 · rfl
 · exact (Zcz p).length_eq
theorem ZC2 {op:Int} {p:List Nd} (h:op≠4):sS op p=Zjz op p:=by
 unfold sS Zjz
 by_cases h3:op=3
 · rw [if_pos h3,if_pos h3]
 · rw [if_neg h3,if_neg h3,if_neg h]
theorem Zzw {op:Int} {p:List Nd} {x:Nd}:x∈sS op p→x∈p:=by
 unfold sS;split
 · exact id
 · exact (Zcz p).mem_iff.1
set_option maxHeartbeats 4000000 in
theorem Zly (op :Int) (l:List Nd) (h1: -9223372036854775808≤op) (h2:op≤9223372036854775807) (hF:∀x∈l,FitT x) (hn:szL l≤1000000):AF Tryz.prog 125 [pInt op,Zce l] (· =pTr (ZgO op l)):=by
 have hll:l.length≤1000000:=XU (ZeL l) hn
 refine AF.of_body 57 Tryz.func125 rfl Tryz.ntmps125 (Xa rfl) ?_
 intro w0 M0 vs hl hv
 obtain ⟨v0,v1,rfl⟩:=ZdW hl
 obtain rfl:=hv 0 _ _ rfl rfl
 clear hl hv
 refine nav ?_
 (refine ζa ?_<;>refine ζs [(.int .i64 0),(.string ByteArray.empty),(.slice none 0 0)] 3 4 Zng fun h4=>?_<;>refine ζd ?_)
 (refine ζa ?_<;>refine xL 5 ζc ?_<;>refine ζd ?_)
 refine ζC (Zek 1000 24 3 rfl) fun _=>?_
 (refine ζa ?_<;>refine xL 8 ζb (xL 9 (ζ9 Zgf) (xL 10 ζb ?_))<;>refine ζd ?_)
 refine ζD (ι:={q:Nat×Value//q.1≤l.length∧q.2.oneCell'=true}) (fun k=>⟨[(0,_,_),(4,_,_),(8,_,_),(9,_,_),(5,k.1.2, .val k.1.2),(10, .int .i64 k.1.1,pInt k.1.1)],[(4,_,_),(1000,k.1.2, .own 24 3 (ZbZ op (l.take k.1.1)).length (ZaB (ZbZ op (l.take k.1.1))))]⟩) (fun k=>l.length-k.1.1) ⟨(0, .slice none 0 0),Xf _,rfl⟩ (fun a w H=>H.weaken ⟨rfl,rfl,rfl,rfl,rfl,rfl,trivial⟩ ⟨rfl,rfl,trivial⟩) ?_
 rintro ⟨⟨k,hO⟩,hk,hOo⟩
 dsimp only
 dsimp only at hk hOo
 have hpl:=Zhg op l k
 have hpl2:=Zhg op l (k+1)
 refine nav ?_
 (refine ζa ?_<;>refine xL 11 ζP ?_<;>refine ζd ?_)
 (first|refine cCd ?_ ?_|refine cC ?_ ?_)<;>intro hb11
 · first
   |exact bN hb11
   | (
    obtain ⟨x,hx⟩:=ζo (show k<l.length by omega);have e1:((ZaB l).drop (k*3)).take 3=[pInt x.op,Za3 x.act,Zce x.l]:=ζ4 hx;have e2:=Zak hx;have hsn:=ZxU op hx;have hxf:=hF x (Xg hx);have f1:(ZaB x.l).length=x.l.length*3:=ZhX _;have f2:=Zni x.l;refine nav ?_;(refine ζa ?_<;>refine xL 12 (ζW Zgf) ?_<;>(refine yL 13 (Zby Zci) fun v13 h=>?_;cases h)<;>refine ζs [(.int .i64 0),(.string ByteArray.empty),(.slice none 0 0)] 3 7 Zng fun h7=>?_<;>refine ζt 7 Zci ?_<;>refine ζd ?_)
    (refine ζa ?_<;>refine xL 15 (ζe 7 ZiY) ?_<;>(refine yL 16 (ζk 7 ZqO) fun v16 h=>?_;cases h)<;>refine xL 17 ζb (xL 18 ζY (xL 14 ζc ?_))<;>refine ζd ?_)
    (first|refine cCd ?_ ?_|refine cC ?_ ?_)<;>intro hb14
    · first
      |exact bN hb14
      | (
       rw [if_pos hb14] at hsn;(have hsl:(ZbZ op (l.take (k+1))).length=(ZbZ op (l.take k)).length+x.l.length:=by rw [hsn,Xd]);refine nav ?_;(refine ζa ?_<;>refine xL 19 ζb (xL 20 (ζe 7 ZoO) ?_)<;>(refine yL 21 (ζk 7 Zu5) fun v21 h=>?_;cases h)<;>(refine Zev 1000 22 ZiX (fun h22 ho22=>?_) f1 f2;refine ζq (ζJ (l:=22) 1000 rfl rfl) fun _=>?_;refine ζq (ζI (l:=1000) (p':= .own 24 3 (ZbZ op (l.take (k+1))).length (ZaB (ZbZ op (l.take (k+1))))) rfl (by rw [ZxW,←hsn,hsl])) fun _=>?_)<;>refine xL 5 ζc ?_<;>refine ζd ?_)
       (refine ζa ?_<;>refine xL 35 ζM (xL 10 ζb ?_)<;>refine ζd ?_)
       first
        | (exact ζh (
            ⟨(k+1,h22),ζi hx,ho22⟩
            ) (by dsimp only;omega) ⟨rfl,rfl,rfl,rfl,rfl,rfl,trivial⟩ ⟨rfl,rfl,trivial⟩)
        | (exact ζh (
            ⟨(k+1,h34),ζi hx,ho34⟩
            ) (by dsimp only;omega) ⟨rfl,rfl,rfl,rfl,rfl,rfl,trivial⟩ ⟨rfl,rfl,trivial⟩)
        | (exact ζh (
            ⟨(k+1,hO),ζi hx,hOo⟩
            ) (by dsimp only;omega) ⟨rfl,rfl,rfl,rfl,rfl,rfl,trivial⟩ ⟨rfl,rfl,trivial⟩))
    · first
      |exact bN hb14
      | (
       rw [if_neg hb14] at hsn;refine nav ?_;(refine ζa ?_<;>refine xL 24 (ζe 7 ZiY) ?_<;>(refine yL 25 (ζk 7 ZqO) fun v25 h=>?_;cases h)<;>refine xL 26 ZaN (xL 27 ζb ?_)<;>(refine bLd 27 (fun hb27=>?_) (fun hb27=>?_)<;>(first|refine kL 28 ?_|refine xL 28 ζb ?_))<;>(first|refine kL 29 ?_|refine xL 29 ζY ?_)<;>refine xL 30 ζv (xL 23 ζc ?_)<;>refine ζd ?_)<;>(
        (first|refine cCd ?_ ?_|refine cC ?_ ?_)<;>intro hb23
        · first
          |exact bN hb23
          | (
           rw [if_pos (by omega)] at hsn;(have hsl:(ZbZ op (l.take (k+1))).length=(ZbZ op (l.take k)).length+1:=by rw [hsn,Xd];rfl);refine nav ?_;(refine ζa ?_<;>refine xL 31 ζb ?_<;>(refine yL 32 (ζm 7 Zci) fun v32 h=>?_;cases h)<;>refine Zbi 33 ZiX fun h33 ho33=>?_<;>(refine ZbH 1000 33 34 ZiX fun h34 ho34=>?_;refine ζq (ζJ (l:=34) 1000 rfl rfl) fun _=>?_;refine ζq (ζI (l:=1000) (p':= .own 24 3 (ZbZ op (l.take (k+1))).length (ZaB (ZbZ op (l.take (k+1))))) rfl (Eq.trans (congrArg (PV.own 24 3 _) (show _=ZaB (ZbZ op (l.take k))++cN x from rfl)) (by rw [Zi0,←hsn,hsl]))) fun _=>?_)<;>refine xL 5 ζc ?_<;>refine ζd ?_)
           (refine ζa ?_<;>refine xL 35 ζM (xL 10 ζb ?_)<;>refine ζd ?_)
           first
            | (exact ζh (
                ⟨(k+1,h22),ζi hx,ho22⟩
                ) (by dsimp only;omega) ⟨rfl,rfl,rfl,rfl,rfl,rfl,trivial⟩ ⟨rfl,rfl,trivial⟩)
            | (exact ζh (
                ⟨(k+1,h34),ζi hx,ho34⟩
                ) (by dsimp only;omega) ⟨rfl,rfl,rfl,rfl,rfl,rfl,trivial⟩ ⟨rfl,rfl,trivial⟩)
            | (exact ζh (
                ⟨(k+1,hO),ζi hx,hOo⟩
                ) (by dsimp only;omega) ⟨rfl,rfl,rfl,rfl,rfl,rfl,trivial⟩ ⟨rfl,rfl,trivial⟩))
        · first
          |exact bN hb23
          | (
           rw [if_neg (by omega),XA] at hsn;refine ζC (ζI (l:=1000) (p':= .own 24 3 (ZbZ op (l.take (k+1))).length (ZaB (ZbZ op (l.take (k+1))))) rfl (by rw [hsn])) fun _=>?_;refine nav ?_;(refine ζa ?_<;>refine xL 35 ζM (xL 10 ζb ?_)<;>refine ζd ?_)
           first
            | (exact ζh (
                ⟨(k+1,h22),ζi hx,ho22⟩
                ) (by dsimp only;omega) ⟨rfl,rfl,rfl,rfl,rfl,rfl,trivial⟩ ⟨rfl,rfl,trivial⟩)
            | (exact ζh (
                ⟨(k+1,h34),ζi hx,ho34⟩
                ) (by dsimp only;omega) ⟨rfl,rfl,rfl,rfl,rfl,rfl,trivial⟩ ⟨rfl,rfl,trivial⟩)
            | (exact ζh (
                ⟨(k+1,hO),ζi hx,hOo⟩
                ) (by dsimp only;omega) ⟨rfl,rfl,rfl,rfl,rfl,rfl,trivial⟩ ⟨rfl,rfl,trivial⟩)))))
 · first
   |exact bN hb11
   | (
    rw [Xn (show l.length≤k by omega)];rw [Xn (show l.length≤k by omega)] at hpl;have hFp:=ZAW (op:=op) hF;refine nav ?_;(refine ζa ?_<;>refine xL 36 ζb (xL 37 ZaN ?_)<;>refine ζd ?_)
    refine Zeu (fun h4:Value=>⟨[(0, .int .i64 op,pInt op),(4,padd (sbase h4) 0, .val (padd (sbase h4) 0)),(5,hO, .val hO)],[(1000,hO, .own 24 3 (sS op (ZbZ op l)).length (ZaB (sS op (ZbZ op l)))),(4,h4, .own 24 3 1 [.val (.int .i64 0), .val (.string ByteArray.empty), .val (.slice none 0 0)])]⟩) ?_ ?_
    · (first|refine cCd ?_ ?_|refine cC ?_ ?_)<;>intro hb37
      · first
        |exact bN hb37
        | (
         refine nav ?_;(refine ζa ?_<;>refine xL 38 ζb ?_<;>(refine ζ3 [(1000,hO,PV.own 24 3 (ZbZ op l).length (ZaB (ZbZ op l))),(4,_,_)] ⟨rfl,rfl,trivial⟩ ?_;refine Zaa [4] 39 (Tryz.call174) (Zu2 175 (Tryz.call175) hO (.func (.func 175) #[] #[]) (ZbZ op l) (by omega) (fun x hx y hy=>ZCV x y (hFp x hx) (hFp y hy))) (fun v39 p39 h39 hR39=>?_);subst hR39;dsimp only [Zch];refine ζq (ζI (l:=1000) (p':= .own 24 3 (sS op (ZbZ op l)).length (ZaB (sS op (ZbZ op l)))) rfl (by unfold sS;rw [if_neg hb37])) fun _=>?_)<;>refine ζd ?_)
         exact ZaL _ ⟨rfl,rfl,rfl,trivial⟩ ⟨rfl,rfl,trivial⟩)
      · first
        |exact bN hb37
        | (
         refine ζC (ζI (l:=1000) (p':= .own 24 3 (sS op (ZbZ op l)).length (ZaB (sS op (ZbZ op l)))) rfl (by unfold sS;rw [if_pos (by omega)])) fun _=>?_;refine nav ?_;exact ZaL _ ⟨rfl,rfl,rfl,trivial⟩ ⟨rfl,rfl,trivial⟩)
    · rintro h4;have hsl:=ZC1 op (ZbZ op l);refine nav ?_;(refine ζa ?_<;>refine xL 40 ζb (xL 41 ζY ?_)<;>refine ζd ?_)
      refine Zeu (fun q:Value×{h:Value//h.oneCell'=true}=>⟨[(0, .int .i64 op,pInt op),(4,padd (sbase q.1) 0, .val (padd (sbase q.1) 0)),(5,q.2.1, .val q.2.1)],[(1000,q.2.1, .own 24 3 (Zjz op (ZbZ op l)).length (ZaB (Zjz op (ZbZ op l)))),(4,q.1, .own 24 3 1 [.val (.int .i64 0), .val (.string ByteArray.empty), .val (.slice none 0 0)])]⟩) ?_ ?_
      · (first|refine cCd ?_ ?_|refine cC ?_ ?_)<;>intro hb41
        · first
          |exact bN hb41
          | (
           (have hasc:AscT (sS op (ZbZ op l)):=by unfold sS;rw [if_neg (by omega)];exact ZhU _);(have hord:Zhb (sS op (ZbZ op l))=Zjz op (ZbZ op l):=by unfold sS Zjz;rw [if_neg (by omega),if_neg (by omega),if_pos (by omega)]);refine nav ?_;(refine ζa ?_<;>refine xL 42 ζb ?_<;>(refine ζ3 [(1000,hO,PV.own 24 3 (sS op (ZbZ op l)).length (ZaB (sS op (ZbZ op l)))),(4,_,_)] ⟨rfl,rfl,trivial⟩ ?_;refine Zaa [4] 43 (Tryz.call176) (Zne 177 (Tryz.call177) (.func (.func 177) #[] #[]) (sS op (ZbZ op l)) (by omega) hasc (fun x hx y hy=>ZAM x y (hFp x (Zzw hx)) (hFp y (Zzw hy))) hO hOo) ?_;rintro v43 _ _ ⟨hv43,rfl,rfl⟩;refine ζq (ζI (l:=1000) (p':= .own 24 3 (Zjz op (ZbZ op l)).length (ZaB (Zjz op (ZbZ op l)))) rfl (by rw [hord])) fun _=>?_)<;>refine xL 5 ζc ?_<;>refine ζd ?_)
           first
           |exact ZaL (h4,⟨v43,hv43⟩) ⟨rfl,rfl,rfl,trivial⟩ ⟨rfl,rfl,trivial⟩
           |exact ZaL (h4,⟨hO,hOo⟩) ⟨rfl,rfl,rfl,trivial⟩ ⟨rfl,rfl,trivial⟩)
        · first
          |exact bN hb41
          | (
           refine ζC (ζI (l:=1000) (p':= .own 24 3 (Zjz op (ZbZ op l)).length (ZaB (Zjz op (ZbZ op l)))) rfl (by rw [ZC2 (by omega)])) fun _=>?_;refine nav ?_
           first
           |exact ZaL (h4,⟨v43,hv43⟩) ⟨rfl,rfl,rfl,trivial⟩ ⟨rfl,rfl,trivial⟩
           |exact ZaL (h4,⟨hO,hOo⟩) ⟨rfl,rfl,rfl,trivial⟩ ⟨rfl,rfl,trivial⟩)
      · rintro ⟨h4,hP,hPo⟩;dsimp only;have hol:(Zjz op (ZbZ op l)).length≤1000000:=XU (ZeL _) (XU (Zu7 _ _) (XU (ZoP _ _) hn));unfold ZgO;generalize Zjz op (ZbZ op l)=p at hol ⊢;refine nav ?_;(refine ζa ?_<;>refine xL 44 ζb (xL 45 (Zbw 1000 Zgf) ?_)<;>refine ζd ?_)
        (refine ζa ?_<;>refine xL 47 ζY (xL 46 ζc ?_)<;>refine ζd ?_)
        (first|refine cCd ?_ ?_|refine cC ?_ ?_)<;>intro hb46
        · first
          |exact bN hb46
          | (
           obtain rfl:p=[]:=XP (by omega);refine nav ?_;(refine ζa ?_<;>refine xL 48 (ζB Znf) ?_<;>(refine ζq (Zc9 (t:=48) (p':=pTr ZnZ) rfl Zva) fun _=>?_;refine ζt 4 Zci ?_)<;>refine ζd ?_)
           exact ZbP (k:=3) 4 kR (Tryz.results125) rfl rfl (Xa rfl) (by decide) rfl rfl)
        · first
          |exact bN hb46
          | (
           refine nav ?_;(refine ζa ?_<;>refine xL 50 ζY (xL 49 ζc ?_)<;>refine ζd ?_)
           (first|refine cCd ?_ ?_|refine cC ?_ ?_)<;>intro hb49
           · first
             |exact bN hb49
             | (
              obtain ⟨x,rfl⟩:∃x,p=[x]:=by
               match p,hb49 with
               |[],h=>simp at h
               |[x],_=>exact ⟨x,rfl⟩
               |_::_::_,h=>simp at h;omega
              have e1:((ZaB [x]).drop (0*3)).take 3=cN x:=ζ4 (k:=0) rfl;have e2:0*3+3≤(ZaB [x]).length:=Zak (k:=0) (x:=x) rfl;refine nav ?_;(refine ζa ?_<;>refine xL 51 ζb (xL 52 (ζu 1000 Zgf) ?_)<;>(refine yL 53 (ζm 1000 Zci) fun v53 h=>?_;cases h)<;>refine ζt 4 Zci ?_<;>refine ζd ?_)
              exact ZbP (k:=3) 4 kR (Tryz.results125) rfl rfl (Xa rfl) (by decide) rfl rfl)
           · first
             |exact bN hb49
             | (
              refine nav ?_;refine ζC (En.freeze (l:=1000) (t:=5) rfl rfl) fun _=>?_;rw [Zgg _ _ _ rfl];(refine ζa ?_<;>refine xL 54 ζb (xL 55 ζb (xL 56 (ζB Znf) ?_))<;>refine ζt 4 Zci ?_<;>refine ζd ?_)
              refine ZbP (k:=3) 4 kR (Tryz.results125) rfl rfl (Xa rfl) (by decide) rfl ?_;match p,hb46,hb49 with
              |[],h,_=>simp at h
              |[x],_,h=>simp at h
              |x::y::r,_,_=>rfl)))
end Go.Proofs.YtgfabnhpllkebaaGreatDoor
namespace Go.En
open Go.RowKit Go.Cb Go.WideShapes Go.ChangeShapes Go.ChangeAt Go.Deep
set_option linter.all false
theorem Zfz {H:Type} (P:Program) (e:TypeId) {d:DataW H} {n:Nat}:∀{l:List (DataW H)},d∈l→n∈d.weights P e→n∈DataW.weightsAll P e l
 | x::l,h,hn=>by
   rw [DataW.weightsAll,Xp];rcases Xm.1 h with rfl|h
   · exact .inl hn
   · exact .inr (Zfz P e h hn)
theorem ZbC {H:Type} (P:Program) {d:DataW H} {t:TypeId} {n:Nat}:∀{ts:List TypeId} {l:List (DataW H)} (i:Nat),ts[i]? =some t→l[i]? =some d→n∈d.weights P t→n∈DataW.weightsEach P ts l
 | t'::ts,x::l,0,h1,h2,hn=>by
   simp at h1 h2;subst h1 h2;rw [DataW.weightsEach,Xp];exact .inl hn
 | t'::ts,x::l,i+1,h1,h2,hn=>by
   rw [DataW.weightsEach,Xp];exact .inr (ZbC P i (by simpa using h1) (by simpa using h2) hn)
structure Dec (P:Program) (t:TypeId) (k:Nat) {α:Type} (enc:α→List PV) (fit:α→Prop):Prop where
 size:P.cellsOf t=k
 len:∀a,(enc a).length=k
 dec:∀{H:Type} (e:TypeId×Value→H) (w:World) (spare:Nat→Bool) (held:Bool) (fuel:Nat) (cs:List Value) (x:DataW H×List MemPlace),DataW.trod e P w 0 spare held fuel t cs=some x→(∀n∈x.1.weights P t,n≤reachBytes)→
  ∃a,fit a∧cs.length=k∧∀(i:Nat) (v:Value) (p:PV),cs[i]? =some v→(enc a)[i]? =some p→Shr (fun _=>False) w v p
section
variable {P:Program} {t:TypeId}
theorem Znj {v u:Value} {p q:PV} {w:World} (h:Shr (fun _=>False) w v p) (i:Nat) (h1:[v][i]? =some u) (h2:[p][i]? =some q):Shr (fun _=>False) w u q:=by
 cases i with
 |zero=>simp at h1 h2;subst h1 h2;exact h
 |succ i=>simp at h1
theorem ZAX (ht:P.underlying t=some (.int .i64)) (hs:P.cellsOf t=1):Dec P t 1 (fun n:Int=>[pInt n]) (fun n=> -9223372036854775808≤n∧n≤9223372036854775807) where
 size:=hs
 len:=fun _=>rfl
 dec:=fun e w spare held fuel cs x h=>by
  intro hwt;obtain ⟨n,rfl,_,hw⟩:=DataW.trod_int ht h;refine ⟨n,?_,rfl,fun i v p h1 h2=>Znj (.val _) i h1 h2⟩;simpa [Lit.wf,IntKind.min,IntKind.max,IntKind.signed,IntKind.bits] using hw
theorem ZAY (ht:P.underlying t=some .string) (hs:P.cellsOf t=1):Dec P t 1 (fun s:ByteArray=>[Za3 s]) (fun s=>s.size≤140737488355328) where
 size:=hs
 len:=fun _=>rfl
 dec:=fun e w spare held fuel cs x h=>by
  intro hwt;obtain ⟨s,rfl,rfl,hw⟩:=DataW.trod_string ht h;have hsz:s.size≤reachBytes:=hwt s.size (by show s.size∈DataW.weights P t (.lit (.string s.data.toList));rw [DataW.weights];exact Xi.2 (by rw [X3];rfl));exact ⟨s,by unfold reachBytes at hsz;omega,rfl,fun i v p h1 h2=>Znj (.val _) i h1 h2⟩
section
variable {H:Type} {en:TypeId×Value→H} {w:World} {spare:Nat→Bool} {held:Bool} {r:Reach} {base:Nat} {v:Value} {d:DataW H} {ps:List MemPlace}
theorem ZEy {α:Type} {k:Nat} {enc:α→List PV} {fit:α→Prop} (D:Dec P t k enc fit) (hT:ZEf P t=true) (hv:Value.okWide P w r base t v) (h:DataW.Trod en P w 0 spare held t v d ps) (hwt:∀n∈d.weights P t,n≤reachBytes):∃a,fit a∧Shr (fun _=>False) w v (.agg (enc a)):=by
 obtain ⟨fuel,hf⟩:=h
 have:∃fs,P.underlying t=some (.struct fs):=by
  unfold ZEf at hT;split at hT
  · rename_i fs hfs;exact ⟨fs,hfs⟩
  · cases hT
 obtain ⟨fs,hfs⟩:=this
 obtain ⟨cs,rfl,hsz⟩:=okWide_struct hfs hv
 obtain ⟨a,h1,h2,h3⟩:=D.dec en w spare held fuel _ _ hf hwt
 refine ⟨a,h1,?_⟩
 have:=Shr.agg (M:=fun _=>False) (w:=w) cs.toList (enc a) (by rw [D.len a];exact h2) h3
 simpa using this
end
theorem Zhh {H:Type} {enc:TypeId×Value→H} {P:Program} (hl:laidOutB P=true) {W W':World} (hb:Below W.heap.size W W'):∀{ts:List TypeId} {vs:List Value} {ds:List (DataW H)} {ps:List MemPlace},(ts.all fun t=>P.readableRec t&&decide (t<P.types.size))=true→
 DataW.TrodAll enc P W 0 (fun _=>true) true ts vs ds ps→DataW.TrodAll enc P W' 0 (fun b=>decide (b<W.heap.size)) true ts vs ds ps
 |[],[],[],ps,_,h=>h
 | t::ts,v::vs,d::ds,ps,ht,⟨p,q,h1,h2,h3⟩=>by
   rw [XB,Xe,Xe] at ht;refine ⟨p,q,Below.trod hl ht.1.1 (of_decide_eq_true ht.1.2) h1 hb ?_,Zhh hl hb ht.2 h2,h3⟩;obtain ⟨m,hm⟩:=h1;exact DataW.trod_lt m _ _ _ hm
theorem AF.law {P:Program} {f:FuncId} {ps:List PV} (hA:AF P f ps (· = .val (.bool true))) {W:World} {vs:List Value} (hl:vs.length=ps.length) (hv:∀(i:Nat) (v:Value) (p:PV),vs[i]? =some v→ps[i]? =some p→Shr (fun _=>False) W v p) (hT:TabW W (fun _=>False) (fun _=>False)) (hE:ErrW W (fun _=>False) (fun _=>False):=by intro g hg;cases hg):
 Calls P f vs.toArray W fun e w'=>e= .returned (.bool true)∧Below W.heap.size W w':=
 (hA (fun _=>False) W vs ⟨fun _ h=>h.elim,fun _=>hT,fun _=>hE⟩ hl hv).mono fun e w' ⟨v,p,F,h1,h2,h3,h4,_⟩=>by
   subst h2;have:=(h4.sh rfl).vOf;subst this;exact ⟨h1,h3⟩
end
def ZxX (P:Program) (t:TypeId) (k:Nat) {α:Type} (enc:α→List PV) (fit:α→Prop) (fuel:Nat):Prop:=
 ∀ {H:Type} (e:TypeId×Value→H) (w:World) (spare:Nat→Bool) (held:Bool) (cs:List Value) (x:DataW H×List MemPlace),DataW.trod e P w 0 spare held fuel t cs=some x→(∀n∈x.1.weights P t,n≤reachBytes)→
  ∃a,fit a∧cs.length=k∧∀(i:Nat) (v:Value) (p:PV),cs[i]? =some v→(enc a)[i]? =some p→Shr (fun _=>False) w v p
section
variable {P:Program} {t:TypeId}
theorem Dec.toF {α:Type} {k:Nat} {enc:α→List PV} {fit:α→Prop} (D:Dec P t k enc fit) (fuel:Nat):ZxX P t k enc fit fuel:=fun e w spare held cs x h hw=>D.dec e w spare held fuel cs x h hw
theorem ZgS {H:Type} {α:Type} {e k o fuel:Nat} {enc:α→List PV} {fit:α→Prop} (hsz:P.cellsOf e=k) (hlen:∀a,(enc a).length=k) (D:ZxX P e k enc fit fuel) {en:TypeId×Value→H} {w:World} {spare:Nat→Bool} {held:Bool} {cs:List Value} {y:DataW H×List MemPlace}
 (h:DataW.trod en P w 0 spare held fuel e ((cs.drop o).take (P.cellsOf e))=some y) (hwt:∀n∈y.1.weights P e,n≤reachBytes):∃a,fit a∧∀(i:Nat) (v:Value) (p:PV),cs[o+i]? =some v→(enc a)[i]? =some p→Shr (fun _=>False) w v p:=by
 obtain ⟨a,h1,_,h3⟩:=D en w spare held _ y h hwt
 refine ⟨a,h1,fun i v p hv hp=>h3 i v p ?_ hp⟩
 have hi:i<k:=by rw [←hlen a];exact ζi hp
 rw [hsz,XW hi,Vm];exact hv
theorem Zr0 {α:Type} {e k fuel:Nat} {enc:α→List PV} {fit:α→Prop} (ht:P.underlying t=some (.slice e)) (hk:0<k) (hby:0<P.bytesOf e) (hsz:P.cellsOf e=k) (hln:∀a,(enc a).length=k) (D:∀n,n<fuel→ZxX P e k enc fit n):
 ZxX P t 1 (fun l:List α=>[PV.sl l.length (l.flatMap enc)]) (fun l=>l.length≤140737488355328∧∀x∈l,fit x) fuel:=fun en w spare held cs x h hwt=>by
 rcases DataW.trod_slice ht h with ⟨rfl,_⟩|⟨a,len,cap,elems,more,n,rfl,rfl,rfl,_,hl,hm,hel,hx,_,_⟩
 · exact ⟨[],⟨by simp,by simp⟩,rfl,fun i v p h1 h2=>Znj (.emp none 0 (by unfold maxLen;omega) (fun _=>rfl)) i h1 h2⟩
 · rcases VV len with h0|h0
   · subst h0;exact ⟨[],⟨by simp,by simp⟩,rfl,fun i v p h1 h2=>Znj (.emp (some a) cap hm (fun h=>by cases h)) i h1 h2⟩
   simp only [DataW.weights,ht] at hwt;have hlen:len≤reachBytes:=by
    have:=hwt _ (Xk ..);simp only [Xh,hel] at this;exact XU (XU (VU len _) (Nat.le_mul_of_pos_right _ hby)) this
   have hDn:ZxX P e k enc fit n:=D n (Um n);have hone:∀i,i<len→∃(y:α×(Nat→Value)),fit y.1∧∀(j:Nat) (p:PV),(enc y.1)[j]? =some p→w.cell? ((a.add (i*k)).add j)=some (y.2 j)∧Shr (fun _=>False) w (y.2 j) p:=fun i hi=>by
    have h1:=hx i hi;obtain ⟨z,hz⟩:=Zaj (show i<elems.length by omega);rw [hz] at h1;obtain ⟨cs',h2,h3⟩:=V5.1 h1;rw [hsz] at h2;obtain ⟨_,hlen',hcell⟩:=World.cells?_some h2;obtain ⟨y,hy,_,hS⟩:=hDn en w spare held cs' _ h3 (fun m hm=>hwt m (Xj _ (Xp.2 (.inl (Zfz P e (Xo.2 ⟨z,Xg hz,rfl⟩) hm)))));refine ⟨(y,fun j=>(cs'[j]?).getD undef),hy,fun j p hp=>?_⟩;(have hj:j<k:=by rw [←hln y];exact ζi hp);obtain ⟨u,hu⟩:=Zaj (show j<cs'.length by omega);have:=hcell j hj;simp only [hu,Ua];exact ⟨by rw [this,hu],hS j u p hu hp⟩
   obtain ⟨y0,hy0⟩:=hone 0 h0;have key:∀i:Nat,∃(y:α×(Nat→Value)),i<len→fit y.1∧∀(j:Nat) (p:PV),(enc y.1)[j]? =some p→w.cell? ((a.add (i*k)).add j)=some (y.2 j)∧Shr (fun _=>False) w (y.2 j) p:=fun i=>by
    by_cases hi:i<len
    · obtain ⟨y,hy⟩:=hone i hi;exact ⟨y,fun _=>hy⟩
    · exact ⟨y0,fun h=>absurd h hi⟩
   obtain ⟨Y,hY⟩:=Classical.skolem.1 key;have hspot:∃b off,a=⟨b,off,none⟩:=by
    obtain ⟨hf,hc⟩:=hY 0 h0;obtain ⟨p,hp⟩:=Zaj (show 0<(enc (Y 0).1).length by rw [hln];exact hk);have:=(hc 0 p hp).1;obtain ⟨b,off,spot⟩:=a;(have hspot:spot=none:=by simpa [Addr.add] using World.cell?_spot this);subst hspot;exact ⟨b,off,rfl⟩
   obtain ⟨b,off,rfl⟩:=hspot;have hflen:((List.range len).map fun i=>(Y i).1).length=len:=by simp
   refine ⟨(List.range len).map fun i=>(Y i).1,⟨by rw [hflen];unfold reachBytes at hlen;omega,fun x hx=>?_⟩,rfl,fun i v p h1 h2=>Znj ?_ i h1 h2⟩
   · obtain ⟨i,hi,rfl⟩:=Xo.1 hx;exact (hY i (by simpa using hi)).1
   · rw [hflen];have hat:∀(c:Nat) (p:PV),(((List.range len).map fun i=>(Y i).1).flatMap enc)[c]? =some p→c / k<len∧(enc (Y (c / k)).1)[c % k]? =some p:=fun c p hp=>by
      (have hc:c<len*k:=by have:=ζi hp;rw [flat_len hln,hflen] at this;exact this);have hq:c / k<len:=Nat.div_lt_of_lt_mul (by rw [VL];exact hc);(have hget:((List.range len).map fun i=>(Y i).1)[c / k]? =some (Y (c / k)).1:=by simp [hq]);have:=Zn0 hln hget (Nat.mod_lt c hk);rw [VL,Nat.div_add_mod] at this;exact ⟨hq,by rw [←this];exact hp⟩
     refine .sl b off len cap _ (fun c=>(Y (c / k)).2 (c % k)) hl hm (fun c hc=>⟨?_,fun h=>h⟩) (fun c p hp=>?_)
     · obtain ⟨p,hp⟩:=Zaj hc;obtain ⟨hq,hp'⟩:=hat c p hp;have:=((hY (c / k) hq).2 (c % k) p hp').1;rw [ZaY,ZaY,X9,VL,Nat.div_add_mod] at this;exact this
     · obtain ⟨hq,hp'⟩:=hat c p hp;exact ((hY (c / k) hq).2 (c % k) p hp').2
end
open Go.RowKit Go.Cb
section
variable {sL hP:List (Nat×Ent)}
end
open Go.RowKit Go.Cb Go.Proofs Go.Sort Go.ChangeShapes Go.WideShapes Go.ChangeAt
def ZAZ (P:Program) (fs:Nat):Prop:=∀(blk cap:Nat) (zs:List (List UInt8)) (w:World),Go.Sort.Holds encStr w blk 0 zs.toArray→blk<w.heap.size→zs.length<4611686018427387904→
 Calls P fs #[.slice (some ⟨blk,0,none⟩) zs.length cap] w fun e w'=>e= .returned (.tuple #[])∧∃n os,w'=grow (putRow encStr (Go.Sort.ahead w n) blk 0 (zs.mergeSort fun x y=>decide (x≤y)).toArray) os
def ZA0 (s:List UInt8):PV:= .val (encStr s)
section
variable {P:Program} {c:Ctx} {ops:Array Oper} {Q:Exit→Act→World→Prop} {rest:List Oper} {sL hP:List (Nat×Ent)} {o:Oper}
theorem ZxY {fs e d:Nat} {zs:List (List UInt8)} {h:Value} {q:PV} {x:Operand} {ats:Array TypeId} (l:Nat) (hS:ZAZ P fs) (hc:∀args w,(callFunc fs args).run P w= .ok (.enter fs args) w)
 (kk:aL P c ops Q rest ⟨put d (.tuple #[], .val (.tuple #[])) sL,put l (h, .own e 1 zs.length ((zs.mergeSort fun x y=>decide (x≤y)).map ZA0)) hP⟩)
 (hn:0<zs.length) (hn2:zs.length<4611686018427387904:=by omega) (hw:ζ2 ops sL o=some true:=by exact rfl) (hd:o.dst=some d:=by exact rfl) (hdn:d<c.nt:=by exact Xa rfl) (ho:o.op= .call {callee:= .value (.func fs),args:= #[x],argTypes:=ats}:=by exact rfl) (hx:ev sL x=some (h,q):=by exact rfl) (hl:lk hP l=some (h, .own e 1 zs.length (zs.map ZA0)):=by exact rfl):aL P c ops Q (o::rest) (⟨sL,hP⟩:St):=
 Zav hw fun a w F H=>by
  have hxv:=(H.rd.ev hx).1;have hTr:=H.tr l _ _ hl;obtain ⟨xs,Fs,hrow,hlen,hT,hdj,hb,hF⟩:=hTr.row;obtain ⟨blk,cap,hh,hc1,hc2,hc3⟩:=Zds hTr hn;have hblkF:F l blk:=(hF blk).2 (.inl (by rw [hh];rfl));have hxs:∀(j:Nat) (v:Value),xs[j]? =some v→∃z,zs[j]? =some z∧v=encStr z:=fun j v hv=>by
   obtain ⟨p,hp⟩:=Zai hv hlen.symm;have h1:=hp;rw [Xl,XH] at h1;obtain ⟨z,hz,rfl⟩:=h1;exact ⟨z,hz,((hT j v _ hv hp).sh rfl).vOf⟩
  have hHold:Go.Sort.Holds encStr w blk 0 zs.toArray:=fun j hj=>by
   simp only [VI] at hj;have hrow':=hrow;rw [hh] at hrow';obtain ⟨v,hv⟩:=Zaj (show j<xs.length by rw [←hlen,Xh];exact hj);obtain ⟨z,hz,rfl⟩:=hxs j v hv;refine ⟨?_,by rw [Xx];exact hrow'.frozenAt j⟩;rw [Xx,Zbu hrow' hv];have:zs.toArray[j]! =z:=by
    have hz':=(XF.1 hz).2;simp [hj,hz']
   rw [this]
  have hcall:=hS blk cap zs w hHold hc3 hn2;unfold Oper.wp;have hrun:(execOp a.eval o).run P w= .ok (.enter fs #[h]) w:=by
   have hev:a.eval (.func fs)= .func (.func fs) #[] #[]:=rfl;simp [execOp,ho,resolve,Deferred.ofValue,hev,invoke,hxv,hc]
  rw [hrun,Oper.upon_enter,hh];refine hcall.mono fun e' w' ⟨he',m,os,hw'⟩=>?_;subst he';have hsl:(zs.mergeSort fun x y=>decide (x≤y)).length=zs.length:=List.length_mergeSort _;generalize hsd:(zs.mergeSort fun x y=>decide (x≤y))=sd at hsl hw' kk;have hch0:Chg (fun b=>b=blk) w w':=by
   rw [hw'];refine ⟨rfl,rfl,rfl,?_,fun i hi hne=>?_⟩
   · simp [grow,putRow,mapBlock,Go.Sort.ahead]
   · have:(grow (putRow encStr (Go.Sort.ahead w m) blk 0 sd.toArray) os).heap=(w.heap.modify blk (onCells (putCells encStr 0 sd.toArray)))++os:=rfl;rw [this,Vh (by simpa using hi),VT,if_neg (fun e=>hne e.symm)]
  rw [hd];refine kk _ _ ⟨fun l'=>if l'=l then (fun b=>b=blk) else F l',?_⟩;refine H.change (fun l'=>l'=l) hdn (hch0.wid fun b hb'=> .inl ⟨l,_,rfl,hl,by rw [hb'];exact hblkF⟩) (fun l' z hne hz=>?_) (fun l' z b hT' hz hb'=>?_) (fun hmm l' u p hT' hz=>?_) (fun l1 l2 _ _ _ h1 h2 hne=>absurd (h1.trans h2.symm) hne) (fun _=> .val _) (fun _=>by rw [hw'];exact VU _ _)
  · rcases Zag hz with ⟨e1,_⟩|⟨_,e1⟩
    · exact absurd e1.symm hne
    · exact ⟨e1,by simp [hne]⟩
  · subst hT';simp only [if_true] at hb';exact .inl ⟨l',_,rfl,hl,by rw [hb'];exact hblkF⟩
  · subst hT';rw [ζ8] at hz
    cases hz;simp only [if_true];rcases hrow.2 with ⟨e1,_⟩|⟨g',cap',cur,e1,_,e3,e4,e5,e6,e7⟩
    · rw [hh] at e1;cases e1
    · rw [hh] at e1
      cases e1;have hlt:=ZbE e3;refine .own (sd.map encStr) (fun _ _=>False) ⟨by rw [Xh,hsl,XJ], .inr ⟨blk,cap,putCells encStr 0 sd.toArray cur,hh,Xf _,?_,e4,e5,by simp [putCells];omega,?_⟩⟩ (by simp) (fun t v p hv hp=>?_) (fun _ _ _ _ _ _ h=>h.elim) (fun _ _ _ h=>h.elim) (fun b=>by rw [hh];simp [Value.ownBlock,eq_comm])
      · rw [hw'];have:(grow (putRow encStr (Go.Sort.ahead w m) blk 0 sd.toArray) os).heap=(w.heap.modify blk (onCells (putCells encStr 0 sd.toArray)))++os:=rfl;rw [this,Vh (by simpa using hlt),VT,if_pos rfl,e3];rfl
      · have:=Zmc encStr sd.toArray cur (by simp only [VI];rw [hsl,e6];omega);simp only [VI] at this;rw [XJ,←hsl];exact this
      · rw [Xl,XH] at hv hp;obtain ⟨z,hz,rfl⟩:=hv;obtain ⟨z',hz',rfl⟩:=hp;rw [hz] at hz';cases hz';exact .shr (.val _) (fun _ h=>h)
theorem ZA1 {fs e d:Nat} {zs:List (List UInt8)} {h:Value} {q:PV} {x:Operand} {ats:Array TypeId} (l:Nat) (hS:ZAZ P fs) (hS0:ZpP P fs) (hc:∀args w,(callFunc fs args).run P w= .ok (.enter fs args) w)
 (kk:aL P c ops Q rest ⟨put d (.tuple #[], .val (.tuple #[])) sL,put l (h, .own e 1 zs.length ((zs.mergeSort fun x y=>decide (x≤y)).map ZA0)) hP⟩)
 (hn2:zs.length<4611686018427387904:=by omega) (hw:ζ2 ops sL o=some true:=by exact rfl) (hd:o.dst=some d:=by exact rfl) (hdn:d<c.nt:=by exact Xa rfl) (ho:o.op= .call {callee:= .value (.func fs),args:= #[x],argTypes:=ats}:=by exact rfl) (hx:ev sL x=some (h,q):=by exact rfl) (hl:lk hP l=some (h, .own e 1 zs.length (zs.map ZA0)):=by exact rfl):aL P c ops Q (o::rest) (⟨sL,hP⟩:St):=by
 rcases VV zs.length with h0|h0
 · have hz:zs=[]:=XP h0;subst hz;refine ZpQ l hS0 hc ?_ hw hd hdn ho hx hl;exact ζq (fun c a w ⟨F,H⟩=>⟨(),F,H.less (fun _ _ h=>h) fun t x hx=>by
    rcases Zag hx with ⟨rfl,e1⟩|⟨_,e1⟩
    · rw [←e1];simpa using hl
    · exact e1⟩) (fun _:Unit=>kk)
 · exact ZxY l hS hc kk h0 hn2 hw hd hdn ho hx hl
end
section
variable {P:Program} {c:Ctx} {ops:Array Oper} {Q:Exit→Act→World→Prop} {rest:List Oper} {st:St} {sL hP:List (Nat×Ent)} {o:Oper} {Z:Nat→Bool} {K:List Nat} {fuel:Nat} {listed:Array Bool}
end
end Go.En
namespace Go.Proofs.YtgfabnhpllkebaaGreatDoor
open Go.RowKit Go.Cb Go.En
set_option linter.all false
open Classical in
noncomputable def setK (ks:List ByteArray) (s:ByteArray):List ByteArray:=if s∈ks then ks else ks++[s]
noncomputable def colS (ks:List ByteArray) (l:List ByteArray):List ByteArray:=l.foldl setK ks
theorem ZxZ (ks:List ByteArray) (s x:ByteArray):x∈setK ks s↔x∈ks∨x=s:=by
 unfold setK
 split
 · rename_i h;exact ⟨.inl,fun h2=>h2.elim id fun e=>e▸h⟩
 · rw [Xp,Xi]
theorem ZA2 {ks:List ByteArray} (h:ks.Nodup) (s:ByteArray):(setK ks s).Nodup:=by
 unfold setK
 split
 · exact h
 · rename_i hn;exact VC.2 ⟨h,Vx _ s,fun a ha b hb e=>hn (by rw [Xi] at hb;rw [←hb,←e];exact ha)⟩
theorem ZqQ:∀(l ks:List ByteArray) (x:ByteArray),x∈colS ks l↔x∈ks∨x∈l
 |[],ks,x=>by simp [colS]
 | s::l,ks,x=>by
   show x∈colS (setK ks s) l↔_;rw [ZqQ l,ZxZ,Xm,or_assoc]
theorem ZoR:∀(l ks:List ByteArray),ks.Nodup→(colS ks l).Nodup
 |[],_,h=>h
 |s::l,ks,h=>ZoR l (setK ks s) (ZA2 h s)
theorem ZqR (ks l m:List ByteArray):colS ks (l++m)=colS (colS ks l) m:=VN
def Zlz (ks:List ByteArray):List (ByteArray×Value):=ks.map fun s=>(s, .bool true)
theorem Zx0 (ks:List ByteArray) (s:ByteArray):ZfT (skv (Zlz ks)) (.string s) (.bool true)=skv (Zlz (setK ks s)):=by
 rw [ZpC]
 congr 1
 unfold setK
 induction ks with
 |nil=>simp [Zlz,Zta]
 | cons x ks ih=>
   unfold Zlz at ih ⊢;rw [Xu,Zta];by_cases h:s=x
   · subst h;simp
   · simp only [h,if_false,Ne.symm h] at ih ⊢;by_cases h2:s∈ks
     · simp [h2,h] at ih ⊢;exact ih
     · simp [h2,h] at ih ⊢;exact ih
def toB (s:ByteArray):List UInt8:=s.data.toList
def ofB (l:List UInt8):ByteArray:=⟨l.toArray⟩
theorem Zvb (s:ByteArray):ofB (toB s)=s:=by cases s;simp [ofB,toB]
def Zr1 (ks:List ByteArray):List ByteArray:=((ks.map toB).mergeSort fun x y=>decide (x≤y)).map ofB
theorem Zx1 (ks:List ByteArray):((ks.map toB).mergeSort fun x y=>decide (x≤y)).map ZA0=(Zr1 ks).map Za3:=by
 unfold Zr1
 rw [XN];rfl
theorem ZA3 (ks:List ByteArray):(ks.map toB).map ZA0=ks.map Za3:=by
 rw [XN]
 refine VO fun s _=>?_
 show PV.val (.string (ofB (toB s)))=Za3 s
 rw [Zvb]
theorem ZqS (ks:List ByteArray):(Zr1 ks).length=ks.length:=by unfold Zr1;simp
theorem Zvc {l m:List ByteArray} (h:l.Perm m):Zr1 l=Zr1 m:=by
 unfold Zr1
 congr 1
 have htr:∀a b c:List UInt8,decide (a≤b)=true→decide (b≤c)=true→decide (a≤c)=true:=fun a b c h1 h2=>by
  simp only [decide_eq_true_eq] at*;exact List.le_trans h1 h2
 have hto:∀a b:List UInt8,(decide (a≤b)||decide (b≤a))=true:=fun a b=>by
  simp only [XT,decide_eq_true_eq];exact List.le_total a b
 refine List.Perm.eq_of_pairwise (le:=fun x y=>decide (x≤y)=true) (fun a b _ _ h1 h2=>?_) (UD htr hto _) (UD htr hto _) (((Uu _ _).trans (h.map toB)).trans (Uu _ _).symm)
 simp only [decide_eq_true_eq] at h1 h2
 exact List.le_antisymm h1 h2
noncomputable def actR (t:Nd):List ByteArray×Int:=if Zen t=true then (if (colS [] (Zdj t)).length≤40 then (Zr1 (colS [] (Zdj t)),0) else ([],5)) else ([],1)
theorem Zvd {t:Nd} (h:rightT t=true):t.act.size≤40:=by
 unfold rightT at h
 split at h
 · simp only [Xe] at h;have:=h.2;unfold ZcN at this;simp only [Xe,decide_eq_true_eq] at this;exact this.1.1.2
 · split at h
   · simp only [Xe,decide_eq_true_eq] at h;rw [h.2];exact Xf _
   · split at h
     · simp only [Xe,decide_eq_true_eq] at h;rw [h.2];exact Xf _
     · split at h
       · simp only [Xe,decide_eq_true_eq] at h;rw [h.2];exact Xf _
       · cases h
theorem Zzx:∀(t:Nd),okT t=true→∀d:Int,(szT t:Int)≤500→d+dpT t≤81→Znb t d=szT t:=Nd.ind fun o a l ih hok d hs hd=>by
 obtain ⟨hr,hp⟩:=Zbt.1 hok
 have ha:=Zvd hr
 simp only [Nd.l,Nd.act] at hp ha
 rw [dpT] at hd
 rw [szT] at hs ⊢
 have key:∀(m:List Nd),(∀x∈m,x∈l)→∀n:Int,0≤n→n+szL m≤501→Zl2 m (d+1) n=n+szL m:=fun m=>by
  induction m with
  |nil=>intro _ n _ _;rw [Zl2,szL];omega
  | cons x m ih2=>
    intro hm n hn hb;have hx:=hm x (Xk ..);have e6:=Zuq hx;have e7:=Zea hx;rw [szL] at hb ⊢;rw [Zl2,if_pos (by omega),ih x hx (hp x hx) (d+1) (by omega) (by omega),ih2 (fun y hy=>hm y (Xj _ hy)) _ (by omega) (by omega)];omega
 rw [Znb,if_neg (by omega),key l (fun _ h=>h) 1 (by decide) (by omega)]
 omega
set_option maxRecDepth 100000
theorem Zzy (ks:List ByteArray):(Zr1 ks).Perm ks:=by
 have h:=(Uu (ks.map toB) fun x y=>decide (x≤y)).map ofB
 have e:(ks.map toB).map ofB=ks:=by rw [XN];exact (VO fun s _=>Zvb s).trans (List.map_id ks)
 rw [e] at h
 exact h
theorem Zx2 {ks:List ByteArray} {s:ByteArray}:s∈Zr1 ks↔s∈ks:=(Zzy ks).mem_iff
theorem ZA4 {ks:List ByteArray} (h:ks.Nodup):(Zr1 ks).Nodup:=(Zzy ks).nodup_iff.2 h
theorem Zzz {acts:List ByteArray} {t:Nd} (hn:acts.Nodup) (hm:acts.length≤40) (hv:Zen t=true) (ha:∀s∈Zdj t,s∈acts) {A:Aut} (h:bldT acts t=some A):IsMin A∧A.syms=acts.length∧Zjq acts A (Zah t):=ZxE hn hm t (Zdh hv) ha A h
theorem Zve {m:Nat} {a:Aut} (h:a.syms=m) {w:List Nat}:Zdv a.syms.toNat w↔Zdv m w:=by rw [h];rfl
theorem ZA5 {t:Nd} (h:(actR t).2=0):Zen t=true∧(actR t).1=Zr1 (colS [] (Zdj t))∧(actR t).1.length≤40∧(actR t).1.Nodup∧∀s,s∈(actR t).1↔s∈Zdj t:=by
 unfold actR at h ⊢
 by_cases h1:Zen t=true
 · rw [if_pos h1] at h ⊢;by_cases h2:(colS [] (Zdj t)).length≤40
   · rw [if_pos h2] at h ⊢;dsimp only;exact ⟨h1,rfl,by rw [ZqS];exact h2,ZA4 (ZoR _ _ VG),fun s=>by rw [Zx2,ZqQ];simp⟩
   · rw [if_neg h2] at h;cases h
 · rw [if_neg h1] at h;cases h
theorem ζE:AggT Tryz.prog 24 3=true:=by kernel_rfl
theorem ZdQ:ElT Tryz.prog 22 24 3 48 (.agg #[(.int .i64 0),(.string ByteArray.empty),(.slice none 0 0)]):=⟨Tryz.underlying22,by kernel_rfl,rfl,by decide⟩
theorem ZaT:FldT Tryz.prog 24 0 0=true:=by kernel_rfl
theorem Zi1:FldT Tryz.prog 24 1 1=true:=by kernel_rfl
theorem Zc5:FldT Tryz.prog 24 2 2=true:=by kernel_rfl
theorem ZeM:NoAgg Tryz.prog 22=true:=by kernel_rfl
theorem Zcd:NoAgg Tryz.prog 3=true:=by kernel_rfl
theorem ZqT:NoAgg Tryz.prog 9=true:=by kernel_rfl
theorem ZbM:SlT Tryz.prog 22 24 3=true:=by kernel_rfl
theorem ZcD:ZaZ Tryz.prog 24=some ((.agg #[(.int .i64 0),(.string ByteArray.empty),(.slice none 0 0)]),([0,1,2]:List Nat).map fun o=>(o,1)):=by kernel_rfl
theorem Zbq:ZeroT Tryz.prog 24 (.agg #[(.int .i64 0),(.string ByteArray.empty),(.slice none 0 0)]):=by unfold ZeroT;kernel_rfl
theorem ZlA (x y:Nd):PV.sl 2 ([x,y].flatMap cN)=Zce [x,y]:=by
 unfold Zce
 rw [Za9];rfl
theorem ZeN (o:Int) (a:ByteArray):Rr (.agg [pInt o,Za3 a, .val (.slice none 0 0)]) (pTr (.mk o a [])):=Rr.agg rfl fun i x b ha hb=>by
 match i with
 |0=>cases ha;cases hb;exact Rr.rfl' _
 |1=>cases ha;cases hb;exact Rr.rfl' _
 |2=>cases ha;cases hb;exact Rr.nil
 |i+3=>simp at ha
theorem Zx3 {l:List Nd} {k:Nat} {x:Nd} (h:l[k]? =some x):(Zdi l)[k]? =some (ZaK x):=by
 rw [ZfL,Xl,h];rfl
theorem Zx4 (l:List Nd):(Zdi l).length=l.length:=by rw [ZfL,Xh]
theorem ZhY {t:Nd} (h:rightT t=true) (h6:t.op=6):∃x y,t.l=[x,y]:=by
 unfold rightT at h
 rw [h6] at h
 simp at h
 match t.l,h.1 with
 |[x,y],_=>exact ⟨x,y,rfl⟩
theorem ZgT {x y:Nd}:szL [x,y]=szT x+szT y:=by simp only [szL];omega
set_option maxHeartbeats 4000000 in
theorem Zvf : ∀ t : Nd,okT t=true→szT t≤1000000→AF Tryz.prog 78 [pTr t] (· =pTr (ZaK t)):=Nd.ind fun o a l ih hok hs=>by
 have e0:pTr (.mk o a l)= .agg [pInt o,Za3 a,Zce l]:=rfl
 rw [e0]
 obtain ⟨hr,hp⟩:=Zbt.1 hok
 have hf:=ZoQ _ hok hs
 have hsz:=Zhe (.mk o a l)
 have hlz:=ZeL l
 have hops:=ZcA hr
 simp only [Nd.l,Nd.op] at hp hsz hops
 have hnl:=Zx4 l
 have hnz:szL (Zdi l)≤szL l:=by
  have:=Zhf (.mk o a l);clear this e0 hr hf hsz hlz hnl;clear ih hok hs;induction l with
  |nil=>exact Xb _
  | cons x l ih2=>
    have h3:=Zhf x;have h4:=ih2 (fun y hy=>hp y (Xj _ hy));rw [Zdi,szL,szL];omega
 have hnf:∀y∈Zdi l,FitT y:=fun y hy=>by
  rw [ZfL] at hy;obtain ⟨x,hx,rfl⟩:=Xo.1 hy;have:=Zea hx;exact ZiZ (hp x hx) (by omega)
 refine AF.of_body 70 Tryz.func78 rfl Tryz.ntmps78 (Xa rfl) ?_
 intro w0 M0 vs hl hv
 obtain ⟨v0,rfl⟩:=ZcP hl
 clear hl hv
 refine nav ?_
 (refine ζa ?_<;>refine ζS 1 3 fun h1=>?_<;>refine ζs [(.int .i64 0),(.string ByteArray.empty),(.slice none 0 0)] 3 2 Zbq fun h2=>?_<;>refine ζd ?_)
 (refine ζa ?_<;>refine xL 3 ζc ?_<;>refine ζd ?_)
 refine ζC (Zek 200 24 3 rfl) fun _=>?_
 (refine ζa ?_<;>refine xL 8 (ζe 1 Zc5) ?_<;>(refine yL 9 (ζk 1 ZeM) fun v9 h=>?_;cases h)<;>refine xL 10 (ζ9 ZbM) (xL 11 ζb ?_)<;>refine ζd ?_)
 refine ζD (ι:={q:Nat×Value//q.1≤l.length∧q.2.oneCell'=true}) (fun k=>⟨[(1,_,_),(2,_,_),(9,_,_),(10,_,_),(3,k.1.2, .val k.1.2),(11, .int .i64 k.1.1,pInt k.1.1)],[(1,_,_),(2,_,_),(200,k.1.2, .own 24 3 ((Zdi l).take k.1.1).length (ZaB ((Zdi l).take k.1.1)))]⟩) (fun k=>l.length-k.1.1) ⟨(0, .slice none 0 0),Xf _,rfl⟩ (fun a w H=>H.weaken ⟨rfl,rfl,rfl,rfl,rfl,rfl,trivial⟩ ⟨rfl,rfl,rfl,trivial⟩) ?_
 rintro ⟨⟨k,hO⟩,hk,hOo⟩
 dsimp only
 dsimp only at hk hOo
 refine nav ?_
 (refine ζa ?_<;>refine xL 12 ζP ?_<;>refine ζd ?_)
 (first|refine cCd ?_ ?_|refine cC ?_ ?_)<;>intro hb12
 · first
   |exact bN hb12
   | (
    obtain ⟨x,hx⟩:=ζo (show k<l.length by omega);have e1:((ZaB l).drop (k*3)).take 3=[pInt x.op,Za3 x.act,Zce x.l]:=ζ4 hx;have e2:=Zak hx;have hxm:=Xg hx;have hxs:=Zea hxm;have hsn:=ζU (Zx3 hx);(have hsl:((Zdi l).take (k+1)).length=((Zdi l).take k).length+1:=by rw [hsn,Xd];rfl);(have hsl2:((Zdi l).take k).length≤1000000:=by rw [Xt];omega);refine nav ?_;(refine ζa ?_<;>refine xL 13 (ζW ZbM) ?_<;>(refine yL 14 (Zby ζE) fun v14 h=>?_;cases h)<;>refine ζs [(.int .i64 0),(.string ByteArray.empty),(.slice none 0 0)] 3 5 Zbq fun h5=>?_<;>refine ζt 5 ζE ?_<;>refine ζd ?_)
    (refine ζa ?_<;>refine xL 15 ζb ?_<;>(refine yL 16 (ζm 5 ζE) fun v16 h=>?_;cases h)<;>(refine cD 17 (cA Tryz.call78 (ih x hxm (hp x hxm) (by omega))) fun v17 hv17=>?_;clear hv17)<;>refine Zbi 18 ZdQ fun h18 ho18=>?_<;>(refine ZbH 200 18 19 ZdQ fun h19 ho19=>?_;refine ζq (ζJ (l:=19) 200 rfl rfl) fun _=>?_;refine ζq (ζI (l:=200) (p':= .own 24 3 ((Zdi l).take (k+1)).length (ZaB ((Zdi l).take (k+1)))) rfl (Eq.trans (congrArg (PV.own 24 3 _) (show _=ZaB ((Zdi l).take k)++cN (ZaK x) from rfl)) (by rw [Zi0,←hsn,hsl]))) fun _=>?_)<;>refine xL 3 ζc ?_<;>refine ζd ?_)
    (refine ζa ?_<;>refine xL 20 ζM (xL 11 ζb ?_)<;>refine ζd ?_)
    refine ζh (
     ⟨(k+1,h19),ζi hx,ho19⟩
     ) (by dsimp only;omega) ⟨rfl,rfl,rfl,rfl,rfl,rfl,trivial⟩ ⟨rfl,rfl,rfl,trivial⟩)
 · first
   |exact bN hb12
   | (
    rw [Xn (show (Zdi l).length≤k by omega)];refine nav ?_;(refine ζa ?_<;>refine xL 21 (ζe 1 ZaT) ?_<;>(refine yL 22 (ζk 1 Zcd) fun v22 h=>?_;cases h)<;>refine ζd ?_)
    (refine ζa ?_<;>refine xL 24 ζY (xL 23 ζc ?_)<;>refine ζd ?_)
    (first|refine cCd ?_ ?_|refine cC ?_ ?_)<;>intro hb23
    · first
      |exact bN hb23
      | (
       refine nav ?_;(first|refine cCd ?_ ?_|refine cC ?_ ?_)<;>intro hb23
       · first
         |exact bN hb23
         | (
          refine nav ?_;(refine ζa ?_<;>refine xL 26 (ζe 1 ZaT) ?_<;>(refine yL 27 (ζk 1 Zcd) fun v27 h=>?_;cases h)<;>refine xL 28 (ζe 1 Zi1) ?_<;>(refine yL 29 (ζk 1 ZqT) fun v29 h=>?_;cases h)<;>refine xL 30 (ζB ZcD) ?_<;>(refine ζq (Zc9 (t:=30) (p':=pTr (.mk o a [])) rfl (ZeN o a)) fun _=>?_;refine ζt 2 ζE ?_)<;>refine ζd ?_)
          refine ZbP (k:=3) 2 kR (Tryz.results78) rfl rfl (Xa rfl) (by decide) rfl ?_;rw [ZaK,ZsM,if_pos (by omega)];rfl)
       · first
         |exact bN hb23
         | (
          refine nav ?_;(refine ζa ?_<;>refine xL 32 ζY (xL 31 ζc ?_)<;>refine ζd ?_)
          (first|refine cCd ?_ ?_|refine cC ?_ ?_)<;>intro hb31
          · first
            |exact bN hb31
            | (
             obtain ⟨f0,s0,hl2⟩:=ZhY hr (show o=6 from by omega);obtain rfl:l=[f0,s0]:=hl2;(have ho6:o=6:=by omega);(have hres:ZaK (.mk o a [f0,s0])=ZsL (Zes (ZaK f0) (ZaK s0)):=by rw [ZaK,ZsM,if_neg (by omega),if_pos ho6];rfl);have hF1:=Znh (hp f0 (by simp));have hS1:=Znh (hp s0 (by simp));have hFz:=Zhf f0;have hSz:=Zhf s0;have hfF:=hnf (ZaK f0) (by simp [Zdi]);have hfS:=hnf (ZaK s0) (by simp [Zdi]);rw [ZgT] at hsz;have e3:((ZaB (Zdi [f0,s0])).drop (0*3)).take 3=[pInt (ZaK f0).op,Za3 (ZaK f0).act,Zce (ZaK f0).l]:=ζ4 (k:=0) rfl;have e4:0*3+3≤(ZaB (Zdi [f0,s0])).length:=Zak (k:=0) (x:=ZaK f0) rfl;have e5:((ZaB (Zdi [f0,s0])).drop (1*3)).take 3=[pInt (ZaK s0).op,Za3 (ZaK s0).act,Zce (ZaK s0).l]:=ζ4 (k:=1) rfl;have e6:1*3+3≤(ZaB (Zdi [f0,s0])).length:=Zak (k:=1) (x:=ZaK s0) rfl;refine nav ?_;refine Zeu (fun q:Value×Value×Value=>⟨[(2,padd (sbase q.1) 0, .val (padd (sbase q.1) 0)),(6,padd (sbase q.2.1) 0, .val (padd (sbase q.2.1) 0)),(7,padd (sbase q.2.2) 0, .val (padd (sbase q.2.2) 0))],[(2,q.1, .own 24 3 1 [.val (.int .i64 0), .val (.string ByteArray.empty), .val (.slice none 0 0)]),(6,q.2.1, .own 24 3 1 [pInt (ZaK f0).op,Za3 (ZaK f0).act,Zce (ZaK f0).l]),(7,q.2.2, .own 24 3 1 [pInt (ZaK s0).op,Za3 (ZaK s0).act,Zce (ZaK s0).l])]⟩) ?_ ?_
             · (refine ζV (fun i=>([]:List Nat).elem i) [200] kR ?_<;>refine xD 0 33 rfl ζb ?_<;>refine xD 1 34 rfl (ζu 200 ZbM) ?_<;>(refine yD 2 35 rfl (ζm 200 ζE) fun v35 h=>?_;cases h)<;>refine xD 3 36 rfl ζb ?_<;>refine xD 4 37 rfl (ζu 200 ZbM) ?_<;>(refine yD 5 38 rfl (ζm 200 ζE) fun v38 h=>?_;cases h)<;>(refine Zat 6 7 kR ?_ ?_;rotate_right;(focus ((refine ζg rfl fun w9 M9 N9 DQ back=>?_)<;>refine ζs [(.int .i64 0),(.string ByteArray.empty),(.slice none 0 0)] 3 7 Zbq fun h7=>?_<;>refine ζf (back _ (nrm ?_))<;>(refine ζj 6 kR ?_)<;>(refine ζg rfl fun w9 M9 N9 DQ back=>?_)<;>refine ζs [(.int .i64 0),(.string ByteArray.empty),(.slice none 0 0)] 3 6 Zbq fun h6=>?_<;>refine ζf (back _ (nrm ?_))<;>(refine ζj 8 kR ?_)<;>(refine ζg rfl fun w9 M9 N9 DQ back=>?_)<;>refine ζt 6 ζE ?_<;>refine ζf (back _ (nrm ?_))<;>(refine ζj 9 kR ?_)<;>(refine ζg rfl fun w9 M9 N9 DQ back=>?_)<;>refine ζt 7 ζE ?_<;>refine ζf (back _ (nrm ?_))));rotate_right;(focus ((refine ζg rfl fun w9 M9 N9 DQ back=>?_)<;>refine ζs [(.int .i64 0),(.string ByteArray.empty),(.slice none 0 0)] 3 6 Zbq fun h6=>?_<;>refine ζf (back _ (nrm ?_))<;>(refine ζj 7 kR ?_)<;>(refine ζg rfl fun w9 M9 N9 DQ back=>?_)<;>refine ζs [(.int .i64 0),(.string ByteArray.empty),(.slice none 0 0)] 3 7 Zbq fun h7=>?_<;>refine ζf (back _ (nrm ?_))<;>(refine ζj 8 kR ?_)<;>(refine ζg rfl fun w9 M9 N9 DQ back=>?_)<;>refine ζt 6 ζE ?_<;>refine ζf (back _ (nrm ?_))<;>(refine ζj 9 kR ?_)<;>(refine ζg rfl fun w9 M9 N9 DQ back=>?_)<;>refine ζt 7 ζE ?_<;>refine ζf (back _ (nrm ?_)))))<;>refine Zae kR (nav ?_)<;>try dsimp only)<;>(
                exact ZaL (_,_,_) ⟨rfl,rfl,rfl,trivial⟩ ⟨rfl,rfl,rfl,trivial⟩)
             · rintro ⟨h2,h6,h7⟩;dsimp only;clear e3 e4 e5 e6;generalize ZaK f0=F at hres hF1 hFz hfF ⊢;generalize ZaK s0=S at hres hS1 hSz hfS ⊢;refine nav ?_;(refine ζa ?_<;>refine xL 39 (ζe 6 ZaT) ?_<;>(refine yL 40 (ζk 6 Zcd) fun v40 h=>?_;cases h)<;>refine xL 41 ζY ?_<;>refine ζd ?_)
               refine Zeu (fun _:Unit=>⟨[(2,padd (sbase h2) 0, .val (padd (sbase h2) 0)),(6,padd (sbase h6) 0, .val (padd (sbase h6) 0)),(7,padd (sbase h7) 0, .val (padd (sbase h7) 0))],[(2,h2, .own 24 3 1 [.val (.int .i64 0), .val (.string ByteArray.empty), .val (.slice none 0 0)]),(6,h6, .own 24 3 1 (cN (Zes F S).1)),(7,h7, .own 24 3 1 (cN (Zes F S).2))]⟩) ?_ ?_
               · (first|refine cCd ?_ ?_|refine cC ?_ ?_)<;>intro hb41
                 · first
                   |exact bN hb41
                   | (
                    obtain ⟨A,B,hAB⟩:=ZhY (Zbt.1 hF1).1 hb41;(have hlop:Zes F S=(A,ZgO 4 [B,S]):=by unfold Zes;rw [if_pos hb41,hAB]);have hfA:=hfF.p A (by rw [hAB];simp);have hfB:=hfF.p B (by rw [hAB];simp);have hFe:=Zhe F;rw [hAB,ZgT] at hFe;rw [hAB];have e3:((ZaB [A,B]).drop (0*3)).take 3=[pInt A.op,Za3 A.act,Zce A.l]:=ζ4 (k:=0) rfl;have e4:0*3+3≤(ZaB [A,B]).length:=Zak (k:=0) (x:=A) rfl;have e5:((ZaB [A,B]).drop (1*3)).take 3=[pInt B.op,Za3 B.act,Zce B.l]:=ζ4 (k:=1) rfl;have e6:1*3+3≤(ZaB [A,B]).length:=Zak (k:=1) (x:=B) rfl;have hj:=Zly 4 [B,S] (by decide) (by decide) (fun x hx=>by simp only [Xm,V9,or_false] at hx;rcases hx with h|h<;>rw [h]<;>assumption) (by rw [ZgT];omega);refine nav ?_;(refine ζV (fun i=>([11,12]:List Nat).elem i) [6,7] kR ?_<;>refine xDT 0 42 rfl (ζe 6 Zc5) ?_<;>(refine yDT 1 43 rfl (ζk 6 ZeM) fun v43 h=>?_;cases h)<;>refine xDT 2 44 rfl (ζW ZbM) ?_<;>(refine yDT 3 45 rfl (Zby ζE) fun v45 h=>?_;cases h)<;>refine xDT 4 46 rfl (ζe 6 Zc5) ?_<;>(refine yDT 5 47 rfl (ζk 6 ZeM) fun v47 h=>?_;cases h)<;>refine xDT 6 48 rfl (ζW ZbM) ?_<;>(refine yDT 7 49 rfl (Zby ζE) fun v49 h=>?_;cases h)<;>(refine yE 8 50 rfl (ζm 7 ζE) fun v50 h=>?_;cases h)<;>(refine ζj 9 kR ?_)<;>(refine ζg rfl fun w9 M9 N9 DQ back=>?_)<;>(refine Zqd (kk:=3) (xs:=[_,_]) (cs:=[[_,_,_],[_,_,_]]) 51 ZdQ fun h51 ho51=>?_;refine ζq (En.freeze (l:=51) (t:=51) rfl rfl) fun _=>?_;refine ζq (Zel (t:=51) (p':=Zce [B,S]) rfl (Eq.trans (show _=PV.sl 2 ([B,S].flatMap cN) from rfl) (ZlA B S))) fun _=>?_)<;>refine ζf (back _ (nrm ?_))<;>(refine ζj 10 kR ?_)<;>(refine Zdt (d:=52) rfl (cA (Tryz.call125) hj) fun v52 h=>?_;cases h)<;>(refine ζj 11 kR ?_)<;>(refine Zf5 rfl rfl fun DQ back=>?_)<;>refine ζt 6 ζE ?_<;>refine ζf (back _ ?_)<;>(refine ZfI 12 kR rfl rfl fun DQ back=>?_)<;>refine ζt 7 ζE ?_<;>refine ζf (back _ ?_)<;>refine ZiE kR (nav ?_)<;>try dsimp only)
                    refine Zg2 (ζI (l:=6) (p':= .own 24 3 1 (cN (Zes F S).1)) rfl (by rw [hlop];rfl)) fun _=>?_;refine Zg2 (ζI (l:=7) (p':= .own 24 3 1 (cN (Zes F S).2)) rfl (by rw [hlop];rfl)) fun _=>?_;exact ZaL () ⟨rfl,rfl,rfl,trivial⟩ ⟨rfl,rfl,rfl,trivial⟩)
                 · first
                   |exact bN hb41
                   | (
                    (have hlop:Zes F S=(F,S):=by unfold Zes;rw [if_neg hb41]);refine ζC (ζI (l:=6) (p':= .own 24 3 1 (cN (Zes F S).1)) rfl (by rw [hlop];rfl)) fun _=>?_;refine ζC (ζI (l:=7) (p':= .own 24 3 1 (cN (Zes F S).2)) rfl (by rw [hlop];rfl)) fun _=>?_;refine nav ?_;exact ZaL () ⟨rfl,rfl,rfl,trivial⟩ ⟨rfl,rfl,rfl,trivial⟩)
               · rintro _;unfold ZsL at hres;generalize (Zes F S).1=X at hres ⊢;generalize (Zes F S).2=Y at hres ⊢;have ec:∀t:Nd,cN t=[pInt t.op,Za3 t.act,Zce t.l]:=fun _=>rfl;rw [ec,ec];refine nav ?_;(refine ζa ?_<;>refine xL 53 (ζe 6 ZaT) ?_<;>(refine yL 54 (ζk 6 Zcd) fun v54 h=>?_;cases h)<;>refine xL 55 ζY (xL 56 ζb ?_)<;>(refine bLd 56 (fun hb56=>?_) (fun hb56=>?_)<;>(first|refine kL 57 ?_|refine xL 57 (ζe 7 ZaT) ?_))<;>(first|refine kL 58 ?_|(refine yL 58 (ζk 7 Zcd) fun v58 h=>?_;cases h))<;>(first|refine kL 59 ?_|refine xL 59 ζY ?_)<;>refine xL 60 ζv ?_<;>refine ζd ?_)<;>(
                  (first|refine cCd ?_ ?_|refine cC ?_ ?_)<;>intro hb60
                  · first
                    |exact bN hb60
                    | (
                     rw [if_pos (by omega)] at hres;refine nav ?_;(refine ζa ?_<;>refine xL 61 (ζB ZcD) ?_<;>(refine ζq (Zc9 (t:=61) (p':=pTr ZnZ) rfl Zva) fun _=>?_;refine ζt 2 ζE ?_)<;>refine ζd ?_)
                     refine ZbP (k:=3) 2 kR (Tryz.results78) rfl rfl (Xa rfl) (by decide) rfl ?_;rw [hres];rfl)
                  · first
                    |exact bN hb60
                    | (
                     rw [if_neg (by omega)] at hres;refine nav ?_;(refine ζa ?_<;>(refine yL 62 (ζm 6 ζE) fun v62 h=>?_;cases h)<;>(refine yL 63 (ζm 7 ζE) fun v63 h=>?_;cases h)<;>(refine Zqd (kk:=3) (xs:=[_,_]) (cs:=[[_,_,_],[_,_,_]]) 64 ZdQ fun h64 ho64=>?_;refine ζq (En.freeze (l:=64) (t:=64) rfl rfl) fun _=>?_;refine ζq (Zel (t:=64) (p':=Zce [X,Y]) rfl (Eq.trans (show _=PV.sl 2 ([X,Y].flatMap cN) from rfl) (ZlA X Y))) fun _=>?_)<;>refine xL 65 (ζB ZcD) ?_<;>refine ζt 2 ζE ?_<;>refine ζd ?_)
                     refine ZbP (k:=3) 2 kR (Tryz.results78) rfl rfl (Xa rfl) (by decide) rfl ?_;rw [hres];rfl)))
          · first
            |exact bN hb31
            | (
             refine nav ?_;refine ζC (En.freeze (l:=200) (t:=3) rfl rfl) fun _=>?_;rw [Zgg _ _ _ rfl];(refine ζa ?_<;>refine xL 66 (ζe 1 ZaT) ?_<;>(refine yL 67 (ζk 1 Zcd) fun v67 h=>?_;cases h)<;>refine xL 68 ζb ?_<;>(refine cD 69 (cA Tryz.call125 (Zly o (Zdi l) (by omega) (by omega) hnf (by omega))) fun v69 hv69=>?_;clear hv69)<;>refine ζt 2 ζE ?_<;>refine ζd ?_)
             refine ZbP (k:=3) 2 kR (Tryz.results78) rfl rfl (Xa rfl) (by decide) rfl ?_;rw [ZaK,ZsM,if_neg (by omega),if_neg (by omega)];rfl)))
    · first
      |exact bN hb23
      | (
       refine nav ?_;(refine ζa ?_<;>refine xL 25 ζY (xL 23 ζc ?_)<;>refine ζd ?_)
       (first|refine cCd ?_ ?_|refine cC ?_ ?_)<;>intro hb23
       · first
         |exact bN hb23
         | (
          refine nav ?_;(refine ζa ?_<;>refine xL 26 (ζe 1 ZaT) ?_<;>(refine yL 27 (ζk 1 Zcd) fun v27 h=>?_;cases h)<;>refine xL 28 (ζe 1 Zi1) ?_<;>(refine yL 29 (ζk 1 ZqT) fun v29 h=>?_;cases h)<;>refine xL 30 (ζB ZcD) ?_<;>(refine ζq (Zc9 (t:=30) (p':=pTr (.mk o a [])) rfl (ZeN o a)) fun _=>?_;refine ζt 2 ζE ?_)<;>refine ζd ?_)
          refine ZbP (k:=3) 2 kR (Tryz.results78) rfl rfl (Xa rfl) (by decide) rfl ?_;rw [ZaK,ZsM,if_pos (by omega)];rfl)
       · first
         |exact bN hb23
         | (
          refine nav ?_;(refine ζa ?_<;>refine xL 32 ζY (xL 31 ζc ?_)<;>refine ζd ?_)
          (first|refine cCd ?_ ?_|refine cC ?_ ?_)<;>intro hb31
          · first
            |exact bN hb31
            | (
             obtain ⟨f0,s0,hl2⟩:=ZhY hr (show o=6 from by omega);obtain rfl:l=[f0,s0]:=hl2;(have ho6:o=6:=by omega);(have hres:ZaK (.mk o a [f0,s0])=ZsL (Zes (ZaK f0) (ZaK s0)):=by rw [ZaK,ZsM,if_neg (by omega),if_pos ho6];rfl);have hF1:=Znh (hp f0 (by simp));have hS1:=Znh (hp s0 (by simp));have hFz:=Zhf f0;have hSz:=Zhf s0;have hfF:=hnf (ZaK f0) (by simp [Zdi]);have hfS:=hnf (ZaK s0) (by simp [Zdi]);rw [ZgT] at hsz;have e3:((ZaB (Zdi [f0,s0])).drop (0*3)).take 3=[pInt (ZaK f0).op,Za3 (ZaK f0).act,Zce (ZaK f0).l]:=ζ4 (k:=0) rfl;have e4:0*3+3≤(ZaB (Zdi [f0,s0])).length:=Zak (k:=0) (x:=ZaK f0) rfl;have e5:((ZaB (Zdi [f0,s0])).drop (1*3)).take 3=[pInt (ZaK s0).op,Za3 (ZaK s0).act,Zce (ZaK s0).l]:=ζ4 (k:=1) rfl;have e6:1*3+3≤(ZaB (Zdi [f0,s0])).length:=Zak (k:=1) (x:=ZaK s0) rfl;refine nav ?_;refine Zeu (fun q:Value×Value×Value=>⟨[(2,padd (sbase q.1) 0, .val (padd (sbase q.1) 0)),(6,padd (sbase q.2.1) 0, .val (padd (sbase q.2.1) 0)),(7,padd (sbase q.2.2) 0, .val (padd (sbase q.2.2) 0))],[(2,q.1, .own 24 3 1 [.val (.int .i64 0), .val (.string ByteArray.empty), .val (.slice none 0 0)]),(6,q.2.1, .own 24 3 1 [pInt (ZaK f0).op,Za3 (ZaK f0).act,Zce (ZaK f0).l]),(7,q.2.2, .own 24 3 1 [pInt (ZaK s0).op,Za3 (ZaK s0).act,Zce (ZaK s0).l])]⟩) ?_ ?_
             · (refine ζV (fun i=>([]:List Nat).elem i) [200] kR ?_<;>refine xD 0 33 rfl ζb ?_<;>refine xD 1 34 rfl (ζu 200 ZbM) ?_<;>(refine yD 2 35 rfl (ζm 200 ζE) fun v35 h=>?_;cases h)<;>refine xD 3 36 rfl ζb ?_<;>refine xD 4 37 rfl (ζu 200 ZbM) ?_<;>(refine yD 5 38 rfl (ζm 200 ζE) fun v38 h=>?_;cases h)<;>(refine Zat 6 7 kR ?_ ?_;rotate_right;(focus ((refine ζg rfl fun w9 M9 N9 DQ back=>?_)<;>refine ζs [(.int .i64 0),(.string ByteArray.empty),(.slice none 0 0)] 3 7 Zbq fun h7=>?_<;>refine ζf (back _ (nrm ?_))<;>(refine ζj 6 kR ?_)<;>(refine ζg rfl fun w9 M9 N9 DQ back=>?_)<;>refine ζs [(.int .i64 0),(.string ByteArray.empty),(.slice none 0 0)] 3 6 Zbq fun h6=>?_<;>refine ζf (back _ (nrm ?_))<;>(refine ζj 8 kR ?_)<;>(refine ζg rfl fun w9 M9 N9 DQ back=>?_)<;>refine ζt 6 ζE ?_<;>refine ζf (back _ (nrm ?_))<;>(refine ζj 9 kR ?_)<;>(refine ζg rfl fun w9 M9 N9 DQ back=>?_)<;>refine ζt 7 ζE ?_<;>refine ζf (back _ (nrm ?_))));rotate_right;(focus ((refine ζg rfl fun w9 M9 N9 DQ back=>?_)<;>refine ζs [(.int .i64 0),(.string ByteArray.empty),(.slice none 0 0)] 3 6 Zbq fun h6=>?_<;>refine ζf (back _ (nrm ?_))<;>(refine ζj 7 kR ?_)<;>(refine ζg rfl fun w9 M9 N9 DQ back=>?_)<;>refine ζs [(.int .i64 0),(.string ByteArray.empty),(.slice none 0 0)] 3 7 Zbq fun h7=>?_<;>refine ζf (back _ (nrm ?_))<;>(refine ζj 8 kR ?_)<;>(refine ζg rfl fun w9 M9 N9 DQ back=>?_)<;>refine ζt 6 ζE ?_<;>refine ζf (back _ (nrm ?_))<;>(refine ζj 9 kR ?_)<;>(refine ζg rfl fun w9 M9 N9 DQ back=>?_)<;>refine ζt 7 ζE ?_<;>refine ζf (back _ (nrm ?_)))))<;>refine Zae kR (nav ?_)<;>try dsimp only)<;>(
                exact ZaL (_,_,_) ⟨rfl,rfl,rfl,trivial⟩ ⟨rfl,rfl,rfl,trivial⟩)
             · rintro ⟨h2,h6,h7⟩;dsimp only;clear e3 e4 e5 e6;generalize ZaK f0=F at hres hF1 hFz hfF ⊢;generalize ZaK s0=S at hres hS1 hSz hfS ⊢;refine nav ?_;(refine ζa ?_<;>refine xL 39 (ζe 6 ZaT) ?_<;>(refine yL 40 (ζk 6 Zcd) fun v40 h=>?_;cases h)<;>refine xL 41 ζY ?_<;>refine ζd ?_)
               refine Zeu (fun _:Unit=>⟨[(2,padd (sbase h2) 0, .val (padd (sbase h2) 0)),(6,padd (sbase h6) 0, .val (padd (sbase h6) 0)),(7,padd (sbase h7) 0, .val (padd (sbase h7) 0))],[(2,h2, .own 24 3 1 [.val (.int .i64 0), .val (.string ByteArray.empty), .val (.slice none 0 0)]),(6,h6, .own 24 3 1 (cN (Zes F S).1)),(7,h7, .own 24 3 1 (cN (Zes F S).2))]⟩) ?_ ?_
               · (first|refine cCd ?_ ?_|refine cC ?_ ?_)<;>intro hb41
                 · first
                   |exact bN hb41
                   | (
                    obtain ⟨A,B,hAB⟩:=ZhY (Zbt.1 hF1).1 hb41;(have hlop:Zes F S=(A,ZgO 4 [B,S]):=by unfold Zes;rw [if_pos hb41,hAB]);have hfA:=hfF.p A (by rw [hAB];simp);have hfB:=hfF.p B (by rw [hAB];simp);have hFe:=Zhe F;rw [hAB,ZgT] at hFe;rw [hAB];have e3:((ZaB [A,B]).drop (0*3)).take 3=[pInt A.op,Za3 A.act,Zce A.l]:=ζ4 (k:=0) rfl;have e4:0*3+3≤(ZaB [A,B]).length:=Zak (k:=0) (x:=A) rfl;have e5:((ZaB [A,B]).drop (1*3)).take 3=[pInt B.op,Za3 B.act,Zce B.l]:=ζ4 (k:=1) rfl;have e6:1*3+3≤(ZaB [A,B]).length:=Zak (k:=1) (x:=B) rfl;have hj:=Zly 4 [B,S] (by decide) (by decide) (fun x hx=>by simp only [Xm,V9,or_false] at hx;rcases hx with h|h<;>rw [h]<;>assumption) (by rw [ZgT];omega);refine nav ?_;(refine ζV (fun i=>([11,12]:List Nat).elem i) [6,7] kR ?_<;>refine xDT 0 42 rfl (ζe 6 Zc5) ?_<;>(refine yDT 1 43 rfl (ζk 6 ZeM) fun v43 h=>?_;cases h)<;>refine xDT 2 44 rfl (ζW ZbM) ?_<;>(refine yDT 3 45 rfl (Zby ζE) fun v45 h=>?_;cases h)<;>refine xDT 4 46 rfl (ζe 6 Zc5) ?_<;>(refine yDT 5 47 rfl (ζk 6 ZeM) fun v47 h=>?_;cases h)<;>refine xDT 6 48 rfl (ζW ZbM) ?_<;>(refine yDT 7 49 rfl (Zby ζE) fun v49 h=>?_;cases h)<;>(refine yE 8 50 rfl (ζm 7 ζE) fun v50 h=>?_;cases h)<;>(refine ζj 9 kR ?_)<;>(refine ζg rfl fun w9 M9 N9 DQ back=>?_)<;>(refine Zqd (kk:=3) (xs:=[_,_]) (cs:=[[_,_,_],[_,_,_]]) 51 ZdQ fun h51 ho51=>?_;refine ζq (En.freeze (l:=51) (t:=51) rfl rfl) fun _=>?_;refine ζq (Zel (t:=51) (p':=Zce [B,S]) rfl (Eq.trans (show _=PV.sl 2 ([B,S].flatMap cN) from rfl) (ZlA B S))) fun _=>?_)<;>refine ζf (back _ (nrm ?_))<;>(refine ζj 10 kR ?_)<;>(refine Zdt (d:=52) rfl (cA (Tryz.call125) hj) fun v52 h=>?_;cases h)<;>(refine ζj 11 kR ?_)<;>(refine Zf5 rfl rfl fun DQ back=>?_)<;>refine ζt 6 ζE ?_<;>refine ζf (back _ ?_)<;>(refine ZfI 12 kR rfl rfl fun DQ back=>?_)<;>refine ζt 7 ζE ?_<;>refine ζf (back _ ?_)<;>refine ZiE kR (nav ?_)<;>try dsimp only)
                    refine Zg2 (ζI (l:=6) (p':= .own 24 3 1 (cN (Zes F S).1)) rfl (by rw [hlop];rfl)) fun _=>?_;refine Zg2 (ζI (l:=7) (p':= .own 24 3 1 (cN (Zes F S).2)) rfl (by rw [hlop];rfl)) fun _=>?_;exact ZaL () ⟨rfl,rfl,rfl,trivial⟩ ⟨rfl,rfl,rfl,trivial⟩)
                 · first
                   |exact bN hb41
                   | (
                    (have hlop:Zes F S=(F,S):=by unfold Zes;rw [if_neg hb41]);refine ζC (ζI (l:=6) (p':= .own 24 3 1 (cN (Zes F S).1)) rfl (by rw [hlop];rfl)) fun _=>?_;refine ζC (ζI (l:=7) (p':= .own 24 3 1 (cN (Zes F S).2)) rfl (by rw [hlop];rfl)) fun _=>?_;refine nav ?_;exact ZaL () ⟨rfl,rfl,rfl,trivial⟩ ⟨rfl,rfl,rfl,trivial⟩)
               · rintro _;unfold ZsL at hres;generalize (Zes F S).1=X at hres ⊢;generalize (Zes F S).2=Y at hres ⊢;have ec:∀t:Nd,cN t=[pInt t.op,Za3 t.act,Zce t.l]:=fun _=>rfl;rw [ec,ec];refine nav ?_;(refine ζa ?_<;>refine xL 53 (ζe 6 ZaT) ?_<;>(refine yL 54 (ζk 6 Zcd) fun v54 h=>?_;cases h)<;>refine xL 55 ζY (xL 56 ζb ?_)<;>(refine bLd 56 (fun hb56=>?_) (fun hb56=>?_)<;>(first|refine kL 57 ?_|refine xL 57 (ζe 7 ZaT) ?_))<;>(first|refine kL 58 ?_|(refine yL 58 (ζk 7 Zcd) fun v58 h=>?_;cases h))<;>(first|refine kL 59 ?_|refine xL 59 ζY ?_)<;>refine xL 60 ζv ?_<;>refine ζd ?_)<;>(
                  (first|refine cCd ?_ ?_|refine cC ?_ ?_)<;>intro hb60
                  · first
                    |exact bN hb60
                    | (
                     rw [if_pos (by omega)] at hres;refine nav ?_;(refine ζa ?_<;>refine xL 61 (ζB ZcD) ?_<;>(refine ζq (Zc9 (t:=61) (p':=pTr ZnZ) rfl Zva) fun _=>?_;refine ζt 2 ζE ?_)<;>refine ζd ?_)
                     refine ZbP (k:=3) 2 kR (Tryz.results78) rfl rfl (Xa rfl) (by decide) rfl ?_;rw [hres];rfl)
                  · first
                    |exact bN hb60
                    | (
                     rw [if_neg (by omega)] at hres;refine nav ?_;(refine ζa ?_<;>(refine yL 62 (ζm 6 ζE) fun v62 h=>?_;cases h)<;>(refine yL 63 (ζm 7 ζE) fun v63 h=>?_;cases h)<;>(refine Zqd (kk:=3) (xs:=[_,_]) (cs:=[[_,_,_],[_,_,_]]) 64 ZdQ fun h64 ho64=>?_;refine ζq (En.freeze (l:=64) (t:=64) rfl rfl) fun _=>?_;refine ζq (Zel (t:=64) (p':=Zce [X,Y]) rfl (Eq.trans (show _=PV.sl 2 ([X,Y].flatMap cN) from rfl) (ZlA X Y))) fun _=>?_)<;>refine xL 65 (ζB ZcD) ?_<;>refine ζt 2 ζE ?_<;>refine ζd ?_)
                     refine ZbP (k:=3) 2 kR (Tryz.results78) rfl rfl (Xa rfl) (by decide) rfl ?_;rw [hres];rfl)))
          · first
            |exact bN hb31
            | (
             refine nav ?_;refine ζC (En.freeze (l:=200) (t:=3) rfl rfl) fun _=>?_;rw [Zgg _ _ _ rfl];(refine ζa ?_<;>refine xL 66 (ζe 1 ZaT) ?_<;>(refine yL 67 (ζk 1 Zcd) fun v67 h=>?_;cases h)<;>refine xL 68 ζb ?_<;>(refine cD 69 (cA Tryz.call125 (Zly o (Zdi l) (by omega) (by omega) hnf (by omega))) fun v69 hv69=>?_;clear hv69)<;>refine ζt 2 ζE ?_<;>refine ζd ?_)
             refine ZbP (k:=3) 2 kR (Tryz.results78) rfl rfl (Xa rfl) (by decide) rfl ?_;rw [ZaK,ZsM,if_neg (by omega),if_neg (by omega)];rfl))))
def ZhZ (t:Nd):PV×Int:=if Zen t=true then (if Zen (ZaK t)=true then (pTr (ZaK t),0) else (ZuN,5)) else (ZuN,1)
theorem Zkg (t:Nd) (hf:FitT t):AF Tryz.prog 35 [pTr t] (· = .tup [(ZhZ t).1,pInt (ZhZ t).2]):=by
 refine AF.of_body 16 Tryz.func35 rfl Tryz.ntmps35 (Xa rfl) ?_
 intro w0 M0 vs hl hv
 obtain ⟨v0,rfl⟩:=ZcP hl
 clear hl hv
 have e0:pTr t= .agg [pInt t.op,Za3 t.act,Zce t.l]:=rfl
 rw [e0]
 refine nav ?_
 (refine ζa ?_<;>refine ζS 1 3 fun h1=>?_<;>refine ζs [(.int .i64 0),(.string ByteArray.empty),(.slice none 0 0)] 3 2 Zbq fun h2=>?_<;>refine xL 3 ζc ?_<;>refine ζd ?_)
 (refine ζa ?_<;>(refine yL 5 (ζm 1 ζE) fun v5 h=>?_;cases h)<;>(refine cS 6 (cA Tryz.call24 (Zgc t hf)) fun v6 h=>?_;cases h)<;>refine xL 7 Zaw ?_<;>refine ζd ?_)
 (first|refine cCd ?_ ?_|refine cC ?_ ?_)<;>intro hb7
 · first
   |exact bN hb7
   | (
    refine nav ?_;(refine ζa ?_<;>refine xL 8 (ζB ZcD) ?_<;>refine ζt 2 ζE ?_<;>refine xL 3 ζc ?_<;>refine ζd ?_)
    refine ZaI (k:=3) 2 kR (Tryz.results35) rfl rfl rfl (Xa rfl) (by decide) rfl ?_;rw [show ZhZ t=(ZuN,1) by unfold ZhZ;rw [if_neg (by simpa using hb7)]];rfl)
 · first
   |exact bN hb7
   | (
    (have hv:Zen t=true:=by simpa using hb7);have hsz:=Zf9 hv;have hok:=Zdh hv;have hfn:=ZiZ hok (by omega);refine nav ?_;(refine ζa ?_<;>(refine yL 9 (ζm 1 ζE) fun v9 h=>?_;cases h)<;>(refine cD 10 (cA Tryz.call78 (Zvf t hok (by omega))) fun v10 hv10=>?_;clear hv10)<;>refine ζs [(.int .i64 0),(.string ByteArray.empty),(.slice none 0 0)] 3 4 Zbq fun h4=>?_<;>refine ζt 4 ζE ?_<;>refine ζd ?_)
    have e1:cN (ZaK t)=[pInt (ZaK t).op,Za3 (ZaK t).act,Zce (ZaK t).l]:=rfl;(refine ζa ?_<;>(refine yL 11 (ζm 4 ζE) fun v11 h=>?_;cases h)<;>(refine cS 12 (cA Tryz.call24 (Zgc (ZaK t) hfn)) fun v12 h=>?_;cases h)<;>refine xL 13 Zaw ?_<;>refine ζd ?_)
    (first|refine cCd ?_ ?_|refine cC ?_ ?_)<;>intro hb13
    · first
      |exact bN hb13
      | (
       refine nav ?_;(refine ζa ?_<;>refine xL 14 (ζB ZcD) ?_<;>refine ζt 2 ζE ?_<;>refine xL 3 ζc ?_<;>refine ζd ?_)
       refine ZaI (k:=3) 2 kR (Tryz.results35) rfl rfl rfl (Xa rfl) (by decide) rfl ?_;rw [show ZhZ t=(ZuN,5) by unfold ZhZ;rw [if_pos hv,if_neg (by simpa using hb13)]];rfl)
    · first
      |exact bN hb13
      | (
       refine nav ?_;(refine ζa ?_<;>(refine yL 15 (ζm 4 ζE) fun v15 h=>?_;cases h)<;>refine ζt 2 ζE ?_<;>refine xL 3 ζc ?_<;>refine ζd ?_)
       refine ZaI (k:=3) 2 kR (Tryz.results35) rfl rfl rfl (Xa rfl) (by decide) rfl ?_;rw [show ZhZ t=(pTr (ZaK t),0) by unfold ZhZ;rw [if_pos hv,if_pos (by simpa using hb13)]];rfl))
theorem ZzA {α:Type} {a b:List α} (hl:a.length=b.length) (h:∀(j:Nat) (x y:α),a[j]? =some x→b[j]? =some y→x=y):a=b:=by
 refine Vb fun j=>?_
 by_cases hj:j<a.length
 · obtain ⟨x,hx⟩:=ζo hj;obtain ⟨y,hy⟩:=ζo (show j<b.length by omega);rw [hx,hy,h j x y hx hy]
 · rw [XI (by omega),XI (by omega)]
theorem ZC3 {α:Type} {a b:List α} {j:Nat} {x y:α} (hx:a[j]? =some x) (hy:b[j]? =some y) (h:x≠y):a≠b:=fun e=>by
 subst e;rw [hx] at hy;exact h (Option.some.inj hy)
instance:DecidableEq Mv:=fun a b=>if h:eqM a b=true then .isTrue (ZcK.1 h) else .isFalse fun e=>h (ZcK.2 e)
theorem Zvg (a b:Mv):eqM a b=decide (a=b):=by
 by_cases h:a=b
 · rw [decide_eq_true h];exact ZcK.2 h
 · rw [decide_eq_false h]
   cases e:eqM a b with
   |false=>rfl
   |true=>exact absurd (ZcK.1 e) h
theorem Zgh (a b:List Int):AF Tryz.prog 65 [pInts a,pInts b] (· =ζ7 (decide (a=b))):=by
 refine AF.of_body 26 Tryz.func65 rfl Tryz.ntmps65 (Xa rfl) ?_
 intro w0 M0 vs hl hv
 obtain ⟨v0,v1,rfl⟩:=ZdW hl
 clear hl hv
 refine Zc0 0 rfl fun hlen=>?_
 refine Zc0 1 rfl fun hlen2=>?_
 refine nav ?_
 (refine ζa ?_<;>refine xL 4 ζc ?_<;>refine ζd ?_)
 (refine ζa ?_<;>refine xL 6 ζb (xL 7 (ζ9 ζx) (xL 8 ζb (xL 9 (ζ9 ζx) (xL 10 ZaN ?_))))<;>refine ζd ?_)
 (first|refine cCd ?_ ?_|refine cC ?_ ?_)<;>intro hb10
 · first
   |exact bN hb10
   | (
    refine nav ?_;(refine ζa ?_<;>refine xL 4 ζc ?_<;>refine ζd ?_)
    refine ζp (Tryz.results65) rfl ?_;rw [decide_eq_false (fun e=>by subst e;exact hb10 rfl)])
 · first
   |exact bN hb10
   | (
    (have hll:a.length=b.length:=by omega);refine nav ?_;(refine ζa ?_<;>refine xL 5 ζc ?_<;>refine ζd ?_)
    refine ζD (ι:={k:Nat//k≤a.length∧∀j x y,j<k→a[j]? =some x→b[j]? =some y→x=y}) (fun k=>⟨[(0,_,_),(1,_,_),(5, .int .i64 k.1,pInt k.1)],[]⟩) (fun k=>a.length-k.1) ⟨0,by omega,by omega⟩ (fun a w H=>H.weaken ⟨rfl,rfl,rfl,trivial⟩ trivial) ?_;rintro ⟨k,hk,hp⟩;dsimp only;refine nav ?_;(refine ζa ?_<;>refine xL 11 ζb (xL 12 ζb (xL 13 (ζ9 ζx) (xL 14 ζP ?_)))<;>refine ζd ?_)
    (first|refine cCd ?_ ?_|refine cC ?_ ?_)<;>intro hb14
    · first
      |exact bN hb14
      | (
       obtain ⟨x,hx⟩:=ζo (show k<a.length by omega);obtain ⟨y,hy⟩:=ζo (show k<b.length by omega);have e1:=Zbd (f:=pInt) hx;have e2:=Zbd (f:=pInt) hy;refine nav ?_;(refine ζV (fun i=>([]:List Nat).elem i) [] kR ?_<;>refine xD 0 17 rfl ζb ?_<;>refine xD 1 18 rfl ζb ?_<;>refine xD 2 19 rfl (ζW ζx) ?_<;>(refine yD 3 20 rfl (Zc6 ζn) fun v20 h=>?_;cases h)<;>refine xD 4 21 rfl ζb ?_<;>refine xE 5 22 rfl ζb ?_<;>refine xE 6 23 rfl (ζW ζx) ?_<;>(refine yE 7 24 rfl (Zc6 ζn) fun v24 h=>?_;cases h)<;>refine xE 8 25 rfl ZaN ?_<;>refine Zae kR (nav ?_)<;>try dsimp only)
       (first|refine cCd ?_ ?_|refine cC ?_ ?_)<;>intro hb25
       · first
         |exact bN hb25
         | (
          refine nav ?_;(refine ζa ?_<;>refine xL 4 ζc ?_<;>refine ζd ?_)
          refine ζp (Tryz.results65) rfl ?_;rw [decide_eq_false (ZC3 hx hy (by simpa using hb25))])
       · first
         |exact bN hb25
         | (
          refine nav ?_;(refine ζa ?_<;>refine xL 15 ζb (xL 16 ζM (xL 5 ζc ?_))<;>refine ζd ?_)
          refine ζh (
           ⟨k+1,ζi hx,fun j x' y' hj hx' hy'=>by
            by_cases e:j=k
            · subst e;rw [hx] at hx';rw [hy] at hy';cases hx';cases hy';simpa using hb25
            · exact hp j x' y' (by omega) hx' hy'⟩
           ) (by dsimp only;omega) ⟨rfl,rfl,rfl,trivial⟩ trivial))
    · first
      |exact bN hb14
      | (
       refine nav ?_;(refine ζa ?_<;>refine xL 4 ζc ?_<;>refine ζd ?_)
       refine ζp (Tryz.results65) rfl ?_;rw [decide_eq_true (ZzA hll fun j x y hx hy=>hp j x y (by have:=ζi hx;omega) hx hy)]))
theorem Zvh {a b:Aut} (h1:a.n=b.n) (h2:a.syms=b.syms) (h3:a.start=b.start) (h4:a.fin=b.fin) (h5:a.moves=b.moves):a=b:=by
 cases a;cases b;simp_all
instance:DecidableEq Aut:=fun a b=>if h:a.n=b.n∧a.syms=b.syms∧a.start=b.start∧a.fin=b.fin∧a.moves=b.moves then .isTrue (Zvh h.1 h.2.1 h.2.2.1 h.2.2.2.1 h.2.2.2.2) else .isFalse fun e=>h (by subst e;exact ⟨rfl,rfl,rfl,rfl,rfl⟩)
set_option maxHeartbeats 1000000 in
theorem Zvi (a b:Aut) (hm:a.moves.length≤1000000) (hm':b.moves.length≤1000000):AF Tryz.prog 18 [Zap a,Zap b] (· =ζ7 (decide (a=b))):=by
 refine AF.of_body 61 Tryz.func18 rfl Tryz.ntmps18 (Xa rfl) ?_
 intro w0 M0 vs hl hv
 obtain ⟨v0,v1,rfl⟩:=ZdW hl
 clear hl hv
 refine nav ?_
 (refine ζa ?_<;>refine ζS 2 5 fun h2=>?_<;>refine ζS 3 5 fun h3=>?_<;>refine xL 4 ζc ?_<;>refine ζd ?_)
 (refine ζa ?_ <;>refine xL 6 (ζe 2 ζX) ?_<;>(refine yL 7 (ζk 2 ζn) fun v7 h=>?_;cases h)<;>refine xL 8 (ζe 3 ζX) ?_<;>(refine yL 9 (ζk 3 ζn) fun v9 h=>?_;cases h)<;>refine xL 10 ZaN (xL 11 ζb ?_)<;>(refine bLd 11 (fun hb11=>?_) (fun hb11=>?_)<;>(first|refine kL 12 ?_|refine xL 12 (ζe 2 Zam) ?_))<;>(first|refine kL 13 ?_|(refine yL 13 (ζk 2 ζn) fun v13 h=>?_;cases h))<;>(first|refine kL 14 ?_|refine xL 14 (ζe 3 Zam) ?_)<;>(first|refine kL 15 ?_|(refine yL 15 (ζk 3 ζn) fun v15 h=>?_;cases h))<;>(first|refine kL 16 ?_|refine xL 16 ZaN ?_)<;>refine xL 17 ζv (xL 18 ζb ?_)<;>(first|refine kL 19 ?_|(refine bLd 18 (fun hb18=>?_) (fun hb18=>?_)<;>(first|refine kL 19 ?_|refine xL 19 (ζe 2 Zan) ?_)))<;>(first|refine kL 20 ?_|(refine yL 20 (ζk 2 ζH) fun v20 h=>?_;cases h))<;>(first|refine kL 21 ?_|refine xL 21 (ζe 3 Zan) ?_)<;>(first|refine kL 22 ?_|(refine yL 22 (ζk 3 ζH) fun v22 h=>?_;cases h))<;>(first|refine kL 23 ?_|(refine cS 23 (cA Tryz.call65 (Zgh a.start b.start)) fun v23 h=>?_;cases h))<;>(first|refine kL 24 ?_|refine xL 24 Zaw ?_)<;>refine xL 25 ζv (xL 26 ζb ?_)<;>(first|refine kL 27 ?_|(refine bL 26 (fun hb26=>?_) (fun hb26=>?_)<;>(first|refine kL 27 ?_|refine xL 27 (ζe 2 Zab) ?_)))<;>(first|refine kL 28 ?_|(refine yL 28 (ζk 2 ζH) fun v28 h=>?_;cases h))<;>(first|refine kL 29 ?_|refine xL 29 (ζe 3 Zab) ?_)<;>(first|refine kL 30 ?_|(refine yL 30 (ζk 3 ζH) fun v30 h=>?_;cases h))<;>(first|refine kL 31 ?_|(refine cS 31 (cA Tryz.call65 (Zgh a.fin b.fin)) fun v31 h=>?_;cases h))<;>(first|refine kL 32 ?_|refine xL 32 Zaw ?_)<;>refine xL 33 ζv (xL 34 ζb ?_)<;>(first|refine kL 35 ?_|(refine bL 34 (fun hb34=>?_) (fun hb34=>?_)<;>(first|refine kL 35 ?_|refine xL 35 (ζe 2 ζw) ?_)))<;>(first|refine kL 36 ?_|(refine yL 36 (ζk 2 ζF) fun v36 h=>?_;cases h))<;>(first|refine kL 37 ?_|refine xL 37 (ζ9 ζG) ?_)<;>(first|refine kL 38 ?_|refine xL 38 (ζe 3 ζw) ?_)<;>(first|refine kL 39 ?_|(refine yL 39 (ζk 3 ζF) fun v39 h=>?_;cases h))<;>(first|refine kL 40 ?_|refine xL 40 (ζ9 ζG) ?_)<;>(first|refine kL 41 ?_|refine xL 41 ZaN ?_)<;>refine xL 42 ζv ?_<;>refine ζd ?_)<;>(
  (first|refine cCd ?_ ?_|refine cC ?_ ?_)<;>intro hb42
  · first
    |exact bN hb42
    | (
     refine nav ?_;(refine ζa ?_<;>refine xL 4 ζc ?_<;>refine ζd ?_)
     refine ζp (Tryz.results18) rfl ?_;rw [decide_eq_false (fun e=>by
      subst e
      first
       |exact absurd rfl hb42
       |(simp at hb34;done)
       |(simp at hb26;done)
       |exact absurd rfl hb18
       |exact absurd rfl hb11)])
  · first
    |exact bN hb42
    | (
     (have q3:a.start=b.start:=by simpa using hb26);(have q4:a.fin=b.fin:=by simpa using hb34);(have hll:a.moves.length=b.moves.length:=by omega);(have q1:a.n=b.n:=by omega);(have q2:a.syms=b.syms:=by omega);refine nav ?_;(refine ζa ?_<;>refine xL 5 ζc ?_<;>refine ζd ?_)
     refine ζD (ι:={k:Nat//k≤a.moves.length∧∀j x y,j<k→a.moves[j]? =some x→b.moves[j]? =some y→x=y}) (fun k=>⟨[(2,_,_),(3,_,_),(5, .int .i64 k.1,pInt k.1)],[(2,_,_),(3,_,_)]⟩) (fun k=>a.moves.length-k.1) ⟨0,Xf _,by omega⟩ (fun a w H=>H.weaken ⟨rfl,rfl,rfl,trivial⟩ ⟨rfl,rfl,trivial⟩) ?_;rintro ⟨k,hk,hp⟩;dsimp only;refine nav ?_;(refine ζa ?_<;>refine xL 43 ζb (xL 44 (ζe 2 ζw) ?_)<;>(refine yL 45 (ζk 2 ζF) fun v45 h=>?_;cases h)<;>refine xL 46 (ζ9 ζG) (xL 47 ζP ?_)<;>refine ζd ?_)
     (first|refine cCd ?_ ?_|refine cC ?_ ?_)<;>intro hb47
     · first
       |exact bN hb47
       | (
        obtain ⟨x,hx⟩:=ζo (show k<a.moves.length by omega);obtain ⟨y,hy⟩:=ζo (show k<b.moves.length by omega);have e1:=Zad ζ0 a.moves k x hx;have e2:=ZaE ζ0 hx;have e3:=Zad ζ0 b.moves k y hy;have e4:=ZaE ζ0 hy;refine nav ?_;(refine ζV (fun i=>([]:List Nat).elem i) [2,3] kR ?_<;>refine xD 0 50 rfl (ζe 2 ζw) ?_<;>(refine yD 1 51 rfl (ζk 2 ζF) fun v51 h=>?_;cases h)<;>refine xD 2 52 rfl ζb ?_<;>refine xD 3 53 rfl (ζW ζG) ?_<;>(refine yD 4 54 rfl (Zby ζT) fun v54 h=>?_;cases h)<;>refine xD 5 55 rfl (ζe 3 ζw) ?_<;>(refine yD 6 56 rfl (ζk 3 ζF) fun v56 h=>?_;cases h)<;>refine xE 7 57 rfl ζb ?_<;>refine xE 8 58 rfl (ζW ζG) ?_<;>(refine yE 9 59 rfl (Zby ζT) fun v59 h=>?_;cases h)<;>refine xE 10 60 rfl ((ZCx (us:=vMv x) (us':=vMv y) ZCH ZCI ZCJ (ZeG x y) rfl rfl)) ?_<;>refine Zae kR (nav ?_)<;>try dsimp only)
        (first|refine cCd ?_ ?_|refine cC ?_ ?_)<;>intro hb60
        · first
          |exact bN hb60
          | (
           refine nav ?_;(refine ζa ?_<;>refine xL 4 ζc ?_<;>refine ζd ?_)
           refine ζp (Tryz.results18) rfl ?_;have hne:a.moves≠b.moves:=ZC3 hx hy (by
            have h:=hb60;rw [Zvg] at h;simpa using h)
           rw [decide_eq_false (fun e=>hne (by rw [e]))])
        · first
          |exact bN hb60
          | (
           refine nav ?_;(refine ζa ?_<;>refine xL 48 ζb (xL 49 ζM (xL 5 ζc ?_))<;>refine ζd ?_)
           refine ζh (
            ⟨k +1,ζi hx,fun j x' y' hj hx' hy'=>by
             by_cases e:j=k
             · subst e;rw [hx] at hx';rw [hy] at hy';cases hx';cases hy';have h:=hb60;rw [Zvg] at h;simpa using h
             · exact hp j x' y' (by omega) hx' hy'⟩
            ) (by dsimp only;omega) ⟨rfl,rfl,rfl,trivial⟩ ⟨rfl,rfl,trivial⟩))
     · first
       |exact bN hb47
       | (
        refine nav ?_;(refine ζa ?_<;>refine xL 4 ζc ?_<;>refine ζd ?_)
        refine ζp (Tryz.results18) rfl ?_;rw [decide_eq_true (Zvh q1 q2 q3 q4 (ZzA hll fun j x y hx hy=>hp j x y (by have:=ζi hx;omega) hx hy))])))
def ZEz (a:Aut):List PV:=[pInt a.n,pInt a.syms,pInts a.start,pInts a.fin,pMvs a.moves]
theorem Zvj {a:Aut} (h:Zas a=false):Zhy a= .error 1:=by unfold Zhy;rw [h];rfl
theorem Zx5 {a:Aut} (h:Zas a=true):Zhy a=Zfu (ZeC a):=by unfold Zhy;rw [h];rfl
def ZjB (n:Int) (l:List Int):List Mv:=l.map fun s=>⟨n,s,-1⟩
def Zvk (n:Int) (l:List Int):List Mv:=l.map fun s=>⟨s,n,-1⟩
theorem Zvl (n:Int) {l:List Int} {k:Nat} {x:Int} (h:l[k]? =some x):ZjB n (l.take (k+1))=ZjB n (l.take k)++[⟨n,x,-1⟩]:=by unfold ZjB;rw [ζU h,XC];rfl
theorem Zvm (n:Int) {l:List Int} {k:Nat} {x:Int} (h:l[k]? =some x):Zvk n (l.take (k+1))=Zvk n (l.take k)++[⟨x,n,-1⟩]:=by unfold Zvk;rw [ζU h,XC];rfl
theorem Zr2 (a:Aut):(ZeC a).moves=a.moves++ZjB a.n a.start++Zvk a.n a.fin:=rfl
theorem ZqU {a:Aut} (h:AOk a):(ZeC a).moves.length≤1000000:=by
 rw [Zr2,Xd,Xd]
 unfold ZjB Zvk
 rw [Xh,Xh]
 have:=h.ml;have:=h.sl;have:=h.fl
 omega
theorem Zvn (a:Aut) (hv:Zas a=false):AF Tryz.prog 90 [Zap a] (· = .tup [ZlZ,pInt 1]):=by
 refine AF.of_body 64 Tryz.func90 rfl Tryz.ntmps90 (Xa rfl) ?_
 intro w0 M0 vs hl hv
 obtain ⟨v0,rfl⟩:=ZcP hl
 clear hl hv
 refine nav ?_
 (refine ζa ?_<;>refine ζS 1 5 fun h1=>?_<;>refine ζs [(.int .i64 0),(.int .i64 0),(.slice none 0 0),(.slice none 0 0),(.slice none 0 0)] 5 2 ζL fun h2=>?_<;>refine xL 3 ζc ?_<;>refine ζd ?_)
 (refine ζa ?_<;>(refine yL 10 (ζm 1 ζr) fun v10 h=>?_;cases h)<;>(refine cS 11 (cA Tryz.call107 (Zbj a)) fun v11 h=>?_;cases h)<;>refine xL 12 Zaw ?_<;>refine ζd ?_)
 (first|refine cCd ?_ ?_|refine cC ?_ ?_)<;>intro hb12
 · refine nav ?_;(refine ζa ?_<;>refine xL 13 (ζB ζN) ?_<;>refine ζt 2 ζr ?_<;>refine xL 3 ζc ?_<;>refine ζd ?_)
   exact ZaI (k:=5) 2 kR (Tryz.results90) rfl rfl rfl (Xa rfl) (by decide) rfl rfl
 · rw [hv] at hb12;simp at hb12
set_option maxHeartbeats 1000000 in
theorem ZA6 (a:Aut) (hv:Zas a=true) {p0 p1 p2 p3 p4:PV} {E:Int} (r5:R5 p0 p1 p2 p3 p4) (hr:AF Tryz.prog 132 [Zap (mkA (ZeC a))] (· = .tup [.agg [p0,p1,p2,p3,p4],pInt E])):AF Tryz.prog 90 [Zap a] (· = .tup [.agg [p0,p1,p2,p3,p4],pInt E]):=by
 obtain ⟨o0,o1,o2,o3,o4⟩:=r5.o
 have h:=ZbW hv
 have hn0:=h.n0
 have hn1:=h.n1
 have hml:=h.ml
 have hsl:=h.sl
 have hfl:=h.fl
 refine AF.of_body 64 Tryz.func90 rfl Tryz.ntmps90 (Xa rfl) ?_
 intro w0 M0 vs hl hv
 obtain ⟨v0,rfl⟩:=ZcP hl
 clear hl hv
 refine nav ?_
 (refine ζa ?_<;>refine ζS 1 5 fun h1=>?_<;>refine ζs [(.int .i64 0),(.int .i64 0),(.slice none 0 0),(.slice none 0 0),(.slice none 0 0)] 5 2 ζL fun h2=>?_<;>refine xL 3 ζc ?_<;>refine ζd ?_)
 (refine ζa ?_<;>(refine yL 10 (ζm 1 ζr) fun v10 h=>?_;cases h)<;>(refine cS 11 (cA Tryz.call107 (Zbj a)) fun v11 h=>?_;cases h)<;>refine xL 12 Zaw ?_<;>refine ζd ?_)
 (first|refine cCd ?_ ?_|refine cC ?_ ?_)<;>intro hb12
 · rw [hv] at hb12;simp at hb12
 · refine nav ?_;(refine ζa ?_<;>refine xL 14 (ζe 1 ζX) ?_<;>(refine yL 15 (ζk 1 ζn) fun v15 h=>?_;cases h)<;>refine xL 4 ζc ?_<;>refine ζd ?_)
   refine Zeu (fun x:{x:Value×Value//x.1.oneCell'=true}=>⟨[(1,padd (sbase h1) 0, .val (padd (sbase h1) 0)),(2,padd (sbase h2) 0, .val (padd (sbase h2) 0)),(4, .int .i64 a.n,pInt a.n),(5,padd (sbase x.1.2) 0, .val (padd (sbase x.1.2) 0))],[(1,h1, .own 39 5 1 [pInt a.n,pInt a.syms,pInts a.start,pInts a.fin,pMvs a.moves]),(2,h2, .own 39 5 1 [pInt 0,pInt 0, .val (.slice none 0 0), .val (.slice none 0 0), .val (.slice none 0 0)]),(5,x.1.2, .own 39 5 1 [pInt (a.n+1),pInt a.syms,pInts [a.n],pInts [a.n], .val x.1.1]),(26,x.1.1, .own 93 3 a.moves.length (a.moves.flatMap cMv))]⟩) ?_ ?_
   · (refine ζV (fun i=>([]:List Nat).elem i) [1] kR ?_<;>refine xD 0 16 rfl ζb ?_<;>refine xD 1 17 rfl ζM ?_<;>refine xD 2 18 rfl (ζe 1 Zam) ?_<;>(refine yD 3 19 rfl (ζk 1 ζn) fun v19 h=>?_;cases h)<;>refine xD 4 20 rfl ζb ?_<;>refine xD 6 22 rfl ζb ?_<;>refine xD 8 24 rfl (ζe 1 ζw) ?_<;>(refine yD 9 25 rfl (ζk 1 ζF) fun v25 h=>?_;cases h)<;>(refine ZAr 5 7 10 12 kR ?_ ?_ ?_ ?_;rotate_right;(focus ((refine ζg rfl fun w9 M9 N9 DQ back=>?_)<;>refine ζs [(.int .i64 0),(.int .i64 0),(.slice none 0 0),(.slice none 0 0),(.slice none 0 0)] 5 5 ζL fun h5=>?_<;>refine ζf (back _ (nrm ?_))<;>(refine ZhD 5 7 10 kR ?_ ?_ ?_;rotate_right;(focus ((refine ζg rfl fun w9 M9 N9 DQ back=>?_)<;>refine cO 26 (cA Tryz.call138 (Zax a.moves (by omega))) fun v26 ho26=>?_<;>refine ζf (back _ (nrm ?_))<;>(refine Zat 5 7 kR ?_ ?_;rotate_right;(focus ((refine ζg rfl fun w9 M9 N9 DQ back=>?_)<;>(refine ζ6 (kk:=1) 23 ζz fun h23 ho23=>?_;refine ζq (En.freeze (l:=23) (t:=23) rfl rfl) fun _=>?_;rw [show share (PV.own 3 1 1 [PV.val (.int .i64 a.n)])=pInts [a.n] from rfl])<;>refine ζf (back _ (nrm ?_))<;>(refine ζj 5 kR ?_)<;>(refine ζg rfl fun w9 M9 N9 DQ back=>?_)<;>(refine ζ6 (kk:=1) 21 ζz fun h21 ho21=>?_;refine ζq (En.freeze (l:=21) (t:=21) rfl rfl) fun _=>?_;rw [show share (PV.own 3 1 1 [PV.val (.int .i64 a.n)])=pInts [a.n] from rfl])<;>refine ζf (back _ (nrm ?_))<;>refine xE 11 27 rfl (ζB ζN) ?_<;>(refine ζj 13 kR ?_)<;>(refine ζg rfl fun w9 M9 N9 DQ back=>?_)<;>(refine ζt 5 (m:=5) kR ?_ (h1:=by show (List.all [pInt (a.n+1),pInt a.syms,pInts [a.n],pInts [a.n],PV.val v26] En.one)=true;simp only [XB,XG,XD,Xe];exact ⟨rfl,rfl,rfl,rfl,ho26⟩))<;>refine ζf (back _ (nrm ?_))));rotate_right;(focus ((refine ζg rfl fun w9 M9 N9 DQ back=>?_)<;>(refine ζ6 (kk:=1) 21 ζz fun h21 ho21=>?_;refine ζq (En.freeze (l:=21) (t:=21) rfl rfl) fun _=>?_;rw [show share (PV.own 3 1 1 [PV.val (.int .i64 a.n)])=pInts [a.n] from rfl])<;>refine ζf (back _ (nrm ?_))<;>(refine ζj 7 kR ?_)<;>(refine ζg rfl fun w9 M9 N9 DQ back=>?_)<;>(refine ζ6 (kk:=1) 23 ζz fun h23 ho23=>?_;refine ζq (En.freeze (l:=23) (t:=23) rfl rfl) fun _=>?_;rw [show share (PV.own 3 1 1 [PV.val (.int .i64 a.n)])=pInts [a.n] from rfl])<;>refine ζf (back _ (nrm ?_))<;>refine xE 11 27 rfl (ζB ζN) ?_<;>(refine ζj 13 kR ?_)<;>(refine ζg rfl fun w9 M9 N9 DQ back=>?_)<;>(refine ζt 5 (m:=5) kR ?_ (h1:=by show (List.all [pInt (a.n+1),pInt a.syms,pInts [a.n],pInts [a.n],PV.val v26] En.one)=true;simp only [XB,XG,XD,Xe];exact ⟨rfl,rfl,rfl,rfl,ho26⟩))<;>refine ζf (back _ (nrm ?_)))))));rotate_right;(focus ((refine ζg rfl fun w9 M9 N9 DQ back=>?_)<;>(refine ζ6 (kk:=1) 23 ζz fun h23 ho23=>?_;refine ζq (En.freeze (l:=23) (t:=23) rfl rfl) fun _=>?_;rw [show share (PV.own 3 1 1 [PV.val (.int .i64 a.n)])=pInts [a.n] from rfl])<;>refine ζf (back _ (nrm ?_))<;>(refine Zat 5 10 kR ?_ ?_;rotate_right;(focus ((refine ζg rfl fun w9 M9 N9 DQ back=>?_)<;>refine cO 26 (cA Tryz.call138 (Zax a.moves (by omega))) fun v26 ho26=>?_<;>refine ζf (back _ (nrm ?_))<;>(refine ζj 5 kR ?_)<;>(refine ζg rfl fun w9 M9 N9 DQ back=>?_)<;>(refine ζ6 (kk:=1) 21 ζz fun h21 ho21=>?_;refine ζq (En.freeze (l:=21) (t:=21) rfl rfl) fun _=>?_;rw [show share (PV.own 3 1 1 [PV.val (.int .i64 a.n)])=pInts [a.n] from rfl])<;>refine ζf (back _ (nrm ?_))<;>refine xE 11 27 rfl (ζB ζN) ?_<;>(refine ζj 13 kR ?_)<;>(refine ζg rfl fun w9 M9 N9 DQ back=>?_)<;>(refine ζt 5 (m:=5) kR ?_ (h1:=by show (List.all [pInt (a.n+1),pInt a.syms,pInts [a.n],pInts [a.n],PV.val v26] En.one)=true;simp only [XB,XG,XD,Xe];exact ⟨rfl,rfl,rfl,rfl,ho26⟩))<;>refine ζf (back _ (nrm ?_))));rotate_right;(focus ((refine ζg rfl fun w9 M9 N9 DQ back=>?_)<;>(refine ζ6 (kk:=1) 21 ζz fun h21 ho21=>?_;refine ζq (En.freeze (l:=21) (t:=21) rfl rfl) fun _=>?_;rw [show share (PV.own 3 1 1 [PV.val (.int .i64 a.n)])=pInts [a.n] from rfl])<;>refine ζf (back _ (nrm ?_))<;>(refine ζj 10 kR ?_)<;>(refine ζg rfl fun w9 M9 N9 DQ back=>?_)<;>refine cO 26 (cA Tryz.call138 (Zax a.moves (by omega))) fun v26 ho26=>?_<;>refine ζf (back _ (nrm ?_))<;>refine xE 11 27 rfl (ζB ζN) ?_<;>(refine ζj 13 kR ?_)<;>(refine ζg rfl fun w9 M9 N9 DQ back=>?_)<;>(refine ζt 5 (m:=5) kR ?_ (h1:=by show (List.all [pInt (a.n+1),pInt a.syms,pInts [a.n],pInts [a.n],PV.val v26] En.one)=true;simp only [XB,XG,XD,Xe];exact ⟨rfl,rfl,rfl,rfl,ho26⟩))<;>refine ζf (back _ (nrm ?_)))))));rotate_right;(focus ((refine ζg rfl fun w9 M9 N9 DQ back=>?_)<;>(refine ζ6 (kk:=1) 21 ζz fun h21 ho21=>?_;refine ζq (En.freeze (l:=21) (t:=21) rfl rfl) fun _=>?_;rw [show share (PV.own 3 1 1 [PV.val (.int .i64 a.n)])=pInts [a.n] from rfl])<;>refine ζf (back _ (nrm ?_))<;>(refine Zat 7 10 kR ?_ ?_;rotate_right;(focus ((refine ζg rfl fun w9 M9 N9 DQ back=>?_)<;>refine cO 26 (cA Tryz.call138 (Zax a.moves (by omega))) fun v26 ho26=>?_<;>refine ζf (back _ (nrm ?_))<;>(refine ζj 7 kR ?_)<;>(refine ζg rfl fun w9 M9 N9 DQ back=>?_)<;>(refine ζ6 (kk:=1) 23 ζz fun h23 ho23=>?_;refine ζq (En.freeze (l:=23) (t:=23) rfl rfl) fun _=>?_;rw [show share (PV.own 3 1 1 [PV.val (.int .i64 a.n)])=pInts [a.n] from rfl])<;>refine ζf (back _ (nrm ?_))<;>refine xE 11 27 rfl (ζB ζN) ?_<;>(refine ζj 13 kR ?_)<;>(refine ζg rfl fun w9 M9 N9 DQ back=>?_)<;>(refine ζt 5 (m:=5) kR ?_ (h1:=by show (List.all [pInt (a.n+1),pInt a.syms,pInts [a.n],pInts [a.n],PV.val v26] En.one)=true;simp only [XB,XG,XD,Xe];exact ⟨rfl,rfl,rfl,rfl,ho26⟩))<;>refine ζf (back _ (nrm ?_))));rotate_right;(focus ((refine ζg rfl fun w9 M9 N9 DQ back=>?_)<;>(refine ζ6 (kk:=1) 23 ζz fun h23 ho23=>?_;refine ζq (En.freeze (l:=23) (t:=23) rfl rfl) fun _=>?_;rw [show share (PV.own 3 1 1 [PV.val (.int .i64 a.n)])=pInts [a.n] from rfl])<;>refine ζf (back _ (nrm ?_))<;>(refine ζj 10 kR ?_)<;>(refine ζg rfl fun w9 M9 N9 DQ back=>?_)<;>refine cO 26 (cA Tryz.call138 (Zax a.moves (by omega))) fun v26 ho26=>?_<;>refine ζf (back _ (nrm ?_))<;>refine xE 11 27 rfl (ζB ζN) ?_<;>(refine ζj 13 kR ?_)<;>(refine ζg rfl fun w9 M9 N9 DQ back=>?_)<;>(refine ζt 5 (m:=5) kR ?_ (h1:=by show (List.all [pInt (a.n+1),pInt a.syms,pInts [a.n],pInts [a.n],PV.val v26] En.one)=true;simp only [XB,XG,XD,Xe];exact ⟨rfl,rfl,rfl,rfl,ho26⟩))<;>refine ζf (back _ (nrm ?_))))))))));rotate_right;(focus ((refine ζg rfl fun w9 M9 N9 DQ back=>?_)<;>refine cO 26 (cA Tryz.call138 (Zax a.moves (by omega))) fun v26 ho26=>?_<;>refine ζf (back _ (nrm ?_))<;>(refine ZhD 5 7 12 kR ?_ ?_ ?_;rotate_right;(focus ((refine ζg rfl fun w9 M9 N9 DQ back=>?_)<;>refine ζs [(.int .i64 0),(.int .i64 0),(.slice none 0 0),(.slice none 0 0),(.slice none 0 0)] 5 5 ζL fun h5=>?_<;>refine ζf (back _ (nrm ?_))<;>(refine Zat 5 7 kR ?_ ?_;rotate_right;(focus ((refine ζg rfl fun w9 M9 N9 DQ back=>?_)<;>(refine ζ6 (kk:=1) 23 ζz fun h23 ho23=>?_;refine ζq (En.freeze (l:=23) (t:=23) rfl rfl) fun _=>?_;rw [show share (PV.own 3 1 1 [PV.val (.int .i64 a.n)])=pInts [a.n] from rfl])<;>refine ζf (back _ (nrm ?_))<;>(refine ζj 5 kR ?_)<;>(refine ζg rfl fun w9 M9 N9 DQ back=>?_)<;>(refine ζ6 (kk:=1) 21 ζz fun h21 ho21=>?_;refine ζq (En.freeze (l:=21) (t:=21) rfl rfl) fun _=>?_;rw [show share (PV.own 3 1 1 [PV.val (.int .i64 a.n)])=pInts [a.n] from rfl])<;>refine ζf (back _ (nrm ?_))<;>refine xE 11 27 rfl (ζB ζN) ?_<;>(refine ζj 13 kR ?_)<;>(refine ζg rfl fun w9 M9 N9 DQ back=>?_)<;>(refine ζt 5 (m:=5) kR ?_ (h1:=by show (List.all [pInt (a.n+1),pInt a.syms,pInts [a.n],pInts [a.n],PV.val v26] En.one)=true;simp only [XB,XG,XD,Xe];exact ⟨rfl,rfl,rfl,rfl,ho26⟩))<;>refine ζf (back _ (nrm ?_))));rotate_right;(focus ((refine ζg rfl fun w9 M9 N9 DQ back=>?_)<;>(refine ζ6 (kk:=1) 21 ζz fun h21 ho21=>?_;refine ζq (En.freeze (l:=21) (t:=21) rfl rfl) fun _=>?_;rw [show share (PV.own 3 1 1 [PV.val (.int .i64 a.n)])=pInts [a.n] from rfl])<;>refine ζf (back _ (nrm ?_))<;>(refine ζj 7 kR ?_)<;>(refine ζg rfl fun w9 M9 N9 DQ back=>?_)<;>(refine ζ6 (kk:=1) 23 ζz fun h23 ho23=>?_;refine ζq (En.freeze (l:=23) (t:=23) rfl rfl) fun _=>?_;rw [show share (PV.own 3 1 1 [PV.val (.int .i64 a.n)])=pInts [a.n] from rfl])<;>refine ζf (back _ (nrm ?_))<;>refine xE 11 27 rfl (ζB ζN) ?_<;>(refine ζj 13 kR ?_)<;>(refine ζg rfl fun w9 M9 N9 DQ back=>?_)<;>(refine ζt 5 (m:=5) kR ?_ (h1:=by show (List.all [pInt (a.n+1),pInt a.syms,pInts [a.n],pInts [a.n],PV.val v26] En.one)=true;simp only [XB,XG,XD,Xe];exact ⟨rfl,rfl,rfl,rfl,ho26⟩))<;>refine ζf (back _ (nrm ?_)))))));rotate_right;(focus ((refine ζg rfl fun w9 M9 N9 DQ back=>?_)<;>(refine ζ6 (kk:=1) 23 ζz fun h23 ho23=>?_;refine ζq (En.freeze (l:=23) (t:=23) rfl rfl) fun _=>?_;rw [show share (PV.own 3 1 1 [PV.val (.int .i64 a.n)])=pInts [a.n] from rfl])<;>refine ζf (back _ (nrm ?_))<;>(refine Zat 5 12 kR ?_ ?_;rotate_right;(focus ((refine ζg rfl fun w9 M9 N9 DQ back=>?_)<;>refine ζs [(.int .i64 0),(.int .i64 0),(.slice none 0 0),(.slice none 0 0),(.slice none 0 0)] 5 5 ζL fun h5=>?_<;>refine ζf (back _ (nrm ?_))<;>(refine ζj 5 kR ?_)<;>(refine ζg rfl fun w9 M9 N9 DQ back=>?_)<;>(refine ζ6 (kk:=1) 21 ζz fun h21 ho21=>?_;refine ζq (En.freeze (l:=21) (t:=21) rfl rfl) fun _=>?_;rw [show share (PV.own 3 1 1 [PV.val (.int .i64 a.n)])=pInts [a.n] from rfl])<;>refine ζf (back _ (nrm ?_))<;>refine xE 11 27 rfl (ζB ζN) ?_<;>(refine ζj 13 kR ?_)<;>(refine ζg rfl fun w9 M9 N9 DQ back=>?_)<;>(refine ζt 5 (m:=5) kR ?_ (h1:=by show (List.all [pInt (a.n+1),pInt a.syms,pInts [a.n],pInts [a.n],PV.val v26] En.one)=true;simp only [XB,XG,XD,Xe];exact ⟨rfl,rfl,rfl,rfl,ho26⟩))<;>refine ζf (back _ (nrm ?_))));rotate_right;(focus ((refine ζg rfl fun w9 M9 N9 DQ back=>?_)<;>(refine ζ6 (kk:=1) 21 ζz fun h21 ho21=>?_;refine ζq (En.freeze (l:=21) (t:=21) rfl rfl) fun _=>?_;rw [show share (PV.own 3 1 1 [PV.val (.int .i64 a.n)])=pInts [a.n] from rfl])<;>refine ζf (back _ (nrm ?_))<;>refine xD 11 27 rfl (ζB ζN) ?_<;>(refine ζj 12 kR ?_)<;>(refine ζg rfl fun w9 M9 N9 DQ back=>?_)<;>refine ζs [(.int .i64 0),(.int .i64 0),(.slice none 0 0),(.slice none 0 0),(.slice none 0 0)] 5 5 ζL fun h5=>?_<;>refine ζf (back _ (nrm ?_))<;>(refine ζj 13 kR ?_)<;>(refine ζg rfl fun w9 M9 N9 DQ back=>?_)<;>(refine ζt 5 (m:=5) kR ?_ (h1:=by show (List.all [pInt (a.n+1),pInt a.syms,pInts [a.n],pInts [a.n],PV.val v26] En.one)=true;simp only [XB,XG,XD,Xe];exact ⟨rfl,rfl,rfl,rfl,ho26⟩))<;>refine ζf (back _ (nrm ?_)))))));rotate_right;(focus ((refine ζg rfl fun w9 M9 N9 DQ back=>?_)<;>(refine ζ6 (kk:=1) 21 ζz fun h21 ho21=>?_;refine ζq (En.freeze (l:=21) (t:=21) rfl rfl) fun _=>?_;rw [show share (PV.own 3 1 1 [PV.val (.int .i64 a.n)])=pInts [a.n] from rfl])<;>refine ζf (back _ (nrm ?_))<;>(refine Zat 7 12 kR ?_ ?_;rotate_right;(focus ((refine ζg rfl fun w9 M9 N9 DQ back=>?_)<;>refine ζs [(.int .i64 0),(.int .i64 0),(.slice none 0 0),(.slice none 0 0),(.slice none 0 0)] 5 5 ζL fun h5=>?_<;>refine ζf (back _ (nrm ?_))<;>(refine ζj 7 kR ?_)<;>(refine ζg rfl fun w9 M9 N9 DQ back=>?_)<;>(refine ζ6 (kk:=1) 23 ζz fun h23 ho23=>?_;refine ζq (En.freeze (l:=23) (t:=23) rfl rfl) fun _=>?_;rw [show share (PV.own 3 1 1 [PV.val (.int .i64 a.n)])=pInts [a.n] from rfl])<;>refine ζf (back _ (nrm ?_))<;>refine xE 11 27 rfl (ζB ζN) ?_<;>(refine ζj 13 kR ?_)<;>(refine ζg rfl fun w9 M9 N9 DQ back=>?_)<;>(refine ζt 5 (m:=5) kR ?_ (h1:=by show (List.all [pInt (a.n+1),pInt a.syms,pInts [a.n],pInts [a.n],PV.val v26] En.one)=true;simp only [XB,XG,XD,Xe];exact ⟨rfl,rfl,rfl,rfl,ho26⟩))<;>refine ζf (back _ (nrm ?_))));rotate_right;(focus ((refine ζg rfl fun w9 M9 N9 DQ back=>?_)<;>(refine ζ6 (kk:=1) 23 ζz fun h23 ho23=>?_;refine ζq (En.freeze (l:=23) (t:=23) rfl rfl) fun _=>?_;rw [show share (PV.own 3 1 1 [PV.val (.int .i64 a.n)])=pInts [a.n] from rfl])<;>refine ζf (back _ (nrm ?_))<;>refine xD 11 27 rfl (ζB ζN) ?_<;>(refine ζj 12 kR ?_)<;>(refine ζg rfl fun w9 M9 N9 DQ back=>?_)<;>refine ζs [(.int .i64 0),(.int .i64 0),(.slice none 0 0),(.slice none 0 0),(.slice none 0 0)] 5 5 ζL fun h5=>?_<;>refine ζf (back _ (nrm ?_))<;>(refine ζj 13 kR ?_)<;>(refine ζg rfl fun w9 M9 N9 DQ back=>?_)<;>(refine ζt 5 (m:=5) kR ?_ (h1:=by show (List.all [pInt (a.n+1),pInt a.syms,pInts [a.n],pInts [a.n],PV.val v26] En.one)=true;simp only [XB,XG,XD,Xe];exact ⟨rfl,rfl,rfl,rfl,ho26⟩))<;>refine ζf (back _ (nrm ?_))))))))));rotate_right;(focus ((refine ζg rfl fun w9 M9 N9 DQ back=>?_)<;>(refine ζ6 (kk:=1) 23 ζz fun h23 ho23=>?_;refine ζq (En.freeze (l:=23) (t:=23) rfl rfl) fun _=>?_;rw [show share (PV.own 3 1 1 [PV.val (.int .i64 a.n)])=pInts [a.n] from rfl])<;>refine ζf (back _ (nrm ?_))<;>(refine ZhD 5 10 12 kR ?_ ?_ ?_;rotate_right;(focus ((refine ζg rfl fun w9 M9 N9 DQ back=>?_)<;>refine ζs [(.int .i64 0),(.int .i64 0),(.slice none 0 0),(.slice none 0 0),(.slice none 0 0)] 5 5 ζL fun h5=>?_<;>refine ζf (back _ (nrm ?_))<;>(refine Zat 5 10 kR ?_ ?_;rotate_right;(focus ((refine ζg rfl fun w9 M9 N9 DQ back=>?_)<;>refine cO 26 (cA Tryz.call138 (Zax a.moves (by omega))) fun v26 ho26=>?_<;>refine ζf (back _ (nrm ?_))<;>(refine ζj 5 kR ?_)<;>(refine ζg rfl fun w9 M9 N9 DQ back=>?_)<;>(refine ζ6 (kk:=1) 21 ζz fun h21 ho21=>?_;refine ζq (En.freeze (l:=21) (t:=21) rfl rfl) fun _=>?_;rw [show share (PV.own 3 1 1 [PV.val (.int .i64 a.n)])=pInts [a.n] from rfl])<;>refine ζf (back _ (nrm ?_))<;>refine xE 11 27 rfl (ζB ζN) ?_<;>(refine ζj 13 kR ?_)<;>(refine ζg rfl fun w9 M9 N9 DQ back=>?_)<;>(refine ζt 5 (m:=5) kR ?_ (h1:=by show (List.all [pInt (a.n+1),pInt a.syms,pInts [a.n],pInts [a.n],PV.val v26] En.one)=true;simp only [XB,XG,XD,Xe];exact ⟨rfl,rfl,rfl,rfl,ho26⟩))<;>refine ζf (back _ (nrm ?_))));rotate_right;(focus ((refine ζg rfl fun w9 M9 N9 DQ back=>?_)<;>(refine ζ6 (kk:=1) 21 ζz fun h21 ho21=>?_;refine ζq (En.freeze (l:=21) (t:=21) rfl rfl) fun _=>?_;rw [show share (PV.own 3 1 1 [PV.val (.int .i64 a.n)])=pInts [a.n] from rfl])<;>refine ζf (back _ (nrm ?_))<;>(refine ζj 10 kR ?_)<;>(refine ζg rfl fun w9 M9 N9 DQ back=>?_)<;>refine cO 26 (cA Tryz.call138 (Zax a.moves (by omega))) fun v26 ho26=>?_<;>refine ζf (back _ (nrm ?_))<;>refine xE 11 27 rfl (ζB ζN) ?_<;>(refine ζj 13 kR ?_)<;>(refine ζg rfl fun w9 M9 N9 DQ back=>?_)<;>(refine ζt 5 (m:=5) kR ?_ (h1:=by show (List.all [pInt (a.n+1),pInt a.syms,pInts [a.n],pInts [a.n],PV.val v26] En.one)=true;simp only [XB,XG,XD,Xe];exact ⟨rfl,rfl,rfl,rfl,ho26⟩))<;>refine ζf (back _ (nrm ?_)))))));rotate_right;(focus ((refine ζg rfl fun w9 M9 N9 DQ back=>?_)<;>refine cO 26 (cA Tryz.call138 (Zax a.moves (by omega))) fun v26 ho26=>?_<;>refine ζf (back _ (nrm ?_))<;>(refine Zat 5 12 kR ?_ ?_;rotate_right;(focus ((refine ζg rfl fun w9 M9 N9 DQ back=>?_)<;>refine ζs [(.int .i64 0),(.int .i64 0),(.slice none 0 0),(.slice none 0 0),(.slice none 0 0)] 5 5 ζL fun h5=>?_<;>refine ζf (back _ (nrm ?_))<;>(refine ζj 5 kR ?_)<;>(refine ζg rfl fun w9 M9 N9 DQ back=>?_)<;>(refine ζ6 (kk:=1) 21 ζz fun h21 ho21=>?_;refine ζq (En.freeze (l:=21) (t:=21) rfl rfl) fun _=>?_;rw [show share (PV.own 3 1 1 [PV.val (.int .i64 a.n)])=pInts [a.n] from rfl])<;>refine ζf (back _ (nrm ?_))<;>refine xE 11 27 rfl (ζB ζN) ?_<;>(refine ζj 13 kR ?_)<;>(refine ζg rfl fun w9 M9 N9 DQ back=>?_)<;>(refine ζt 5 (m:=5) kR ?_ (h1:=by show (List.all [pInt (a.n+1),pInt a.syms,pInts [a.n],pInts [a.n],PV.val v26] En.one)=true;simp only [XB,XG,XD,Xe];exact ⟨rfl,rfl,rfl,rfl,ho26⟩))<;>refine ζf (back _ (nrm ?_))));rotate_right;(focus ((refine ζg rfl fun w9 M9 N9 DQ back=>?_)<;>(refine ζ6 (kk:=1) 21 ζz fun h21 ho21=>?_;refine ζq (En.freeze (l:=21) (t:=21) rfl rfl) fun _=>?_;rw [show share (PV.own 3 1 1 [PV.val (.int .i64 a.n)])=pInts [a.n] from rfl])<;>refine ζf (back _ (nrm ?_))<;>refine xD 11 27 rfl (ζB ζN) ?_<;>(refine ζj 12 kR ?_)<;>(refine ζg rfl fun w9 M9 N9 DQ back=>?_)<;>refine ζs [(.int .i64 0),(.int .i64 0),(.slice none 0 0),(.slice none 0 0),(.slice none 0 0)] 5 5 ζL fun h5=>?_<;>refine ζf (back _ (nrm ?_))<;>(refine ζj 13 kR ?_)<;>(refine ζg rfl fun w9 M9 N9 DQ back=>?_)<;>(refine ζt 5 (m:=5) kR ?_ (h1:=by show (List.all [pInt (a.n+1),pInt a.syms,pInts [a.n],pInts [a.n],PV.val v26] En.one)=true;simp only [XB,XG,XD,Xe];exact ⟨rfl,rfl,rfl,rfl,ho26⟩))<;>refine ζf (back _ (nrm ?_)))))));rotate_right;(focus ((refine ζg rfl fun w9 M9 N9 DQ back=>?_)<;>(refine ζ6 (kk:=1) 21 ζz fun h21 ho21=>?_;refine ζq (En.freeze (l:=21) (t:=21) rfl rfl) fun _=>?_;rw [show share (PV.own 3 1 1 [PV.val (.int .i64 a.n)])=pInts [a.n] from rfl])<;>refine ζf (back _ (nrm ?_))<;>(refine Zat 10 12 kR ?_ ?_;rotate_right;(focus ((refine ζg rfl fun w9 M9 N9 DQ back=>?_)<;>refine ζs [(.int .i64 0),(.int .i64 0),(.slice none 0 0),(.slice none 0 0),(.slice none 0 0)] 5 5 ζL fun h5=>?_<;>refine ζf (back _ (nrm ?_))<;>(refine ζj 10 kR ?_)<;>(refine ζg rfl fun w9 M9 N9 DQ back=>?_)<;>refine cO 26 (cA Tryz.call138 (Zax a.moves (by omega))) fun v26 ho26=>?_<;>refine ζf (back _ (nrm ?_))<;>refine xE 11 27 rfl (ζB ζN) ?_<;>(refine ζj 13 kR ?_)<;>(refine ζg rfl fun w9 M9 N9 DQ back=>?_)<;>(refine ζt 5 (m:=5) kR ?_ (h1:=by show (List.all [pInt (a.n+1),pInt a.syms,pInts [a.n],pInts [a.n],PV.val v26] En.one)=true;simp only [XB,XG,XD,Xe];exact ⟨rfl,rfl,rfl,rfl,ho26⟩))<;>refine ζf (back _ (nrm ?_))));rotate_right;(focus ((refine ζg rfl fun w9 M9 N9 DQ back=>?_)<;>refine cO 26 (cA Tryz.call138 (Zax a.moves (by omega))) fun v26 ho26=>?_<;>refine ζf (back _ (nrm ?_))<;>refine xD 11 27 rfl (ζB ζN) ?_<;>(refine ζj 12 kR ?_)<;>(refine ζg rfl fun w9 M9 N9 DQ back=>?_)<;>refine ζs [(.int .i64 0),(.int .i64 0),(.slice none 0 0),(.slice none 0 0),(.slice none 0 0)] 5 5 ζL fun h5=>?_<;>refine ζf (back _ (nrm ?_))<;>(refine ζj 13 kR ?_)<;>(refine ζg rfl fun w9 M9 N9 DQ back=>?_)<;>(refine ζt 5 (m:=5) kR ?_ (h1:=by show (List.all [pInt (a.n+1),pInt a.syms,pInts [a.n],pInts [a.n],PV.val v26] En.one)=true;simp only [XB,XG,XD,Xe];exact ⟨rfl,rfl,rfl,rfl,ho26⟩))<;>refine ζf (back _ (nrm ?_))))))))));rotate_right;(focus ((refine ζg rfl fun w9 M9 N9 DQ back=>?_)<;>(refine ζ6 (kk:=1) 21 ζz fun h21 ho21=>?_;refine ζq (En.freeze (l:=21) (t:=21) rfl rfl) fun _=>?_;rw [show share (PV.own 3 1 1 [PV.val (.int .i64 a.n)])=pInts [a.n] from rfl])<;>refine ζf (back _ (nrm ?_))<;>(refine ZhD 7 10 12 kR ?_ ?_ ?_;rotate_right;(focus ((refine ζg rfl fun w9 M9 N9 DQ back=>?_)<;>refine ζs [(.int .i64 0),(.int .i64 0),(.slice none 0 0),(.slice none 0 0),(.slice none 0 0)] 5 5 ζL fun h5=>?_<;>refine ζf (back _ (nrm ?_))<;>(refine Zat 7 10 kR ?_ ?_;rotate_right;(focus ((refine ζg rfl fun w9 M9 N9 DQ back=>?_)<;>refine cO 26 (cA Tryz.call138 (Zax a.moves (by omega))) fun v26 ho26=>?_<;>refine ζf (back _ (nrm ?_))<;>(refine ζj 7 kR ?_)<;>(refine ζg rfl fun w9 M9 N9 DQ back=>?_)<;>(refine ζ6 (kk:=1) 23 ζz fun h23 ho23=>?_;refine ζq (En.freeze (l:=23) (t:=23) rfl rfl) fun _=>?_;rw [show share (PV.own 3 1 1 [PV.val (.int .i64 a.n)])=pInts [a.n] from rfl])<;>refine ζf (back _ (nrm ?_))<;>refine xE 11 27 rfl (ζB ζN) ?_<;>(refine ζj 13 kR ?_)<;>(refine ζg rfl fun w9 M9 N9 DQ back=>?_)<;>(refine ζt 5 (m:=5) kR ?_ (h1:=by show (List.all [pInt (a.n+1),pInt a.syms,pInts [a.n],pInts [a.n],PV.val v26] En.one)=true;simp only [XB,XG,XD,Xe];exact ⟨rfl,rfl,rfl,rfl,ho26⟩))<;>refine ζf (back _ (nrm ?_))));rotate_right;(focus ((refine ζg rfl fun w9 M9 N9 DQ back=>?_)<;>(refine ζ6 (kk:=1) 23 ζz fun h23 ho23=>?_;refine ζq (En.freeze (l:=23) (t:=23) rfl rfl) fun _=>?_;rw [show share (PV.own 3 1 1 [PV.val (.int .i64 a.n)])=pInts [a.n] from rfl])<;>refine ζf (back _ (nrm ?_))<;>(refine ζj 10 kR ?_)<;>(refine ζg rfl fun w9 M9 N9 DQ back=>?_)<;>refine cO 26 (cA Tryz.call138 (Zax a.moves (by omega))) fun v26 ho26=>?_<;>refine ζf (back _ (nrm ?_))<;>refine xE 11 27 rfl (ζB ζN) ?_<;>(refine ζj 13 kR ?_)<;>(refine ζg rfl fun w9 M9 N9 DQ back=>?_)<;>(refine ζt 5 (m:=5) kR ?_ (h1:=by show (List.all [pInt (a.n+1),pInt a.syms,pInts [a.n],pInts [a.n],PV.val v26] En.one)=true;simp only [XB,XG,XD,Xe];exact ⟨rfl,rfl,rfl,rfl,ho26⟩))<;>refine ζf (back _ (nrm ?_)))))));rotate_right;(focus ((refine ζg rfl fun w9 M9 N9 DQ back=>?_)<;>refine cO 26 (cA Tryz.call138 (Zax a.moves (by omega))) fun v26 ho26=>?_<;>refine ζf (back _ (nrm ?_))<;>(refine Zat 7 12 kR ?_ ?_;rotate_right;(focus ((refine ζg rfl fun w9 M9 N9 DQ back=>?_)<;>refine ζs [(.int .i64 0),(.int .i64 0),(.slice none 0 0),(.slice none 0 0),(.slice none 0 0)] 5 5 ζL fun h5=>?_<;>refine ζf (back _ (nrm ?_))<;>(refine ζj 7 kR ?_)<;>(refine ζg rfl fun w9 M9 N9 DQ back=>?_)<;>(refine ζ6 (kk:=1) 23 ζz fun h23 ho23=>?_;refine ζq (En.freeze (l:=23) (t:=23) rfl rfl) fun _=>?_;rw [show share (PV.own 3 1 1 [PV.val (.int .i64 a.n)])=pInts [a.n] from rfl])<;>refine ζf (back _ (nrm ?_))<;>refine xE 11 27 rfl (ζB ζN) ?_<;>(refine ζj 13 kR ?_)<;>(refine ζg rfl fun w9 M9 N9 DQ back=>?_)<;>(refine ζt 5 (m:=5) kR ?_ (h1:=by show (List.all [pInt (a.n+1),pInt a.syms,pInts [a.n],pInts [a.n],PV.val v26] En.one)=true;simp only [XB,XG,XD,Xe];exact ⟨rfl,rfl,rfl,rfl,ho26⟩))<;>refine ζf (back _ (nrm ?_))));rotate_right;(focus ((refine ζg rfl fun w9 M9 N9 DQ back=>?_)<;>(refine ζ6 (kk:=1) 23 ζz fun h23 ho23=>?_;refine ζq (En.freeze (l:=23) (t:=23) rfl rfl) fun _=>?_;rw [show share (PV.own 3 1 1 [PV.val (.int .i64 a.n)])=pInts [a.n] from rfl])<;>refine ζf (back _ (nrm ?_))<;>refine xD 11 27 rfl (ζB ζN) ?_<;>(refine ζj 12 kR ?_)<;>(refine ζg rfl fun w9 M9 N9 DQ back=>?_)<;>refine ζs [(.int .i64 0),(.int .i64 0),(.slice none 0 0),(.slice none 0 0),(.slice none 0 0)] 5 5 ζL fun h5=>?_<;>refine ζf (back _ (nrm ?_))<;>(refine ζj 13 kR ?_)<;>(refine ζg rfl fun w9 M9 N9 DQ back=>?_)<;>(refine ζt 5 (m:=5) kR ?_ (h1:=by show (List.all [pInt (a.n+1),pInt a.syms,pInts [a.n],pInts [a.n],PV.val v26] En.one)=true;simp only [XB,XG,XD,Xe];exact ⟨rfl,rfl,rfl,rfl,ho26⟩))<;>refine ζf (back _ (nrm ?_)))))));rotate_right;(focus ((refine ζg rfl fun w9 M9 N9 DQ back=>?_)<;>(refine ζ6 (kk:=1) 23 ζz fun h23 ho23=>?_;refine ζq (En.freeze (l:=23) (t:=23) rfl rfl) fun _=>?_;rw [show share (PV.own 3 1 1 [PV.val (.int .i64 a.n)])=pInts [a.n] from rfl])<;>refine ζf (back _ (nrm ?_))<;>(refine Zat 10 12 kR ?_ ?_;rotate_right;(focus ((refine ζg rfl fun w9 M9 N9 DQ back=>?_)<;>refine ζs [(.int .i64 0),(.int .i64 0),(.slice none 0 0),(.slice none 0 0),(.slice none 0 0)] 5 5 ζL fun h5=>?_<;>refine ζf (back _ (nrm ?_))<;>(refine ζj 10 kR ?_)<;>(refine ζg rfl fun w9 M9 N9 DQ back=>?_)<;>refine cO 26 (cA Tryz.call138 (Zax a.moves (by omega))) fun v26 ho26=>?_<;>refine ζf (back _ (nrm ?_))<;>refine xE 11 27 rfl (ζB ζN) ?_<;>(refine ζj 13 kR ?_)<;>(refine ζg rfl fun w9 M9 N9 DQ back=>?_)<;>(refine ζt 5 (m:=5) kR ?_ (h1:=by show (List.all [pInt (a.n+1),pInt a.syms,pInts [a.n],pInts [a.n],PV.val v26] En.one)=true;simp only [XB,XG,XD,Xe];exact ⟨rfl,rfl,rfl,rfl,ho26⟩))<;>refine ζf (back _ (nrm ?_))));rotate_right;(focus ((refine ζg rfl fun w9 M9 N9 DQ back=>?_)<;>refine cO 26 (cA Tryz.call138 (Zax a.moves (by omega))) fun v26 ho26=>?_<;>refine ζf (back _ (nrm ?_))<;>refine xD 11 27 rfl (ζB ζN) ?_<;>(refine ζj 12 kR ?_)<;>(refine ζg rfl fun w9 M9 N9 DQ back=>?_)<;>refine ζs [(.int .i64 0),(.int .i64 0),(.slice none 0 0),(.slice none 0 0),(.slice none 0 0)] 5 5 ζL fun h5=>?_<;>refine ζf (back _ (nrm ?_))<;>(refine ζj 13 kR ?_)<;>(refine ζg rfl fun w9 M9 N9 DQ back=>?_)<;>(refine ζt 5 (m:=5) kR ?_ (h1:=by show (List.all [pInt (a.n+1),pInt a.syms,pInts [a.n],pInts [a.n],PV.val v26] En.one)=true;simp only [XB,XG,XD,Xe];exact ⟨rfl,rfl,rfl,rfl,ho26⟩))<;>refine ζf (back _ (nrm ?_)))))))))))<;>refine Zae kR (nav ?_)<;>try dsimp only)<;>(
      exact ZaL ⟨(v26,h5),ho26⟩ ⟨rfl,rfl,rfl,rfl,trivial⟩ ⟨rfl,rfl,rfl,rfl,trivial⟩)
   · rintro ⟨⟨v26,h5⟩,ho26⟩;dsimp only at ho26 ⊢;refine ζC (ζJ (l:=26) 301 rfl rfl) fun _=>?_;refine ζC (ζI (l:=301) (p':= .own 93 3 (a.moves++ZjB a.n (a.start.take 0)).length ((a.moves++ZjB a.n (a.start.take 0)).flatMap cMv)) rfl (by rw [show ZjB a.n (a.start.take 0)=[] from rfl,XA])) fun _=>?_;refine nav ?_;(refine ζa ?_<;>refine xL 28 (ζe 1 Zan) ?_<;>(refine yL 29 (ζk 1 ζH) fun v29 h=>?_;cases h)<;>refine xL 30 (ζ9 ζx) (xL 31 ζb ?_)<;>refine ζd ?_)
     refine ζD (ι:={q:Nat×Value//q.1≤a.start.length∧q.2.oneCell'=true}) (fun k=>⟨[(1,_,_),(2,_,_),(4,_,_),(5,_,_),(29,_,_),(30,_,_),(31, .int .i64 k.1.1,pInt k.1.1)],[(1,_,_),(2,_,_),(5,h5, .own 39 5 1 [pInt (a.n+1),pInt a.syms,pInts [a.n],pInts [a.n], .val k.1.2]),(301,k.1.2, .own 93 3 (a.moves++ZjB a.n (a.start.take k.1.1)).length ((a.moves++ZjB a.n (a.start.take k.1.1)).flatMap cMv))]⟩) (fun k=>a.start.length-k.1.1) ⟨(0,v26),Xf _,ho26⟩ (fun a w H=>H.weaken ⟨rfl,rfl,rfl,rfl,rfl,rfl,rfl,trivial⟩ ⟨rfl,rfl,rfl,rfl,trivial⟩) ?_;rintro ⟨⟨k,hM⟩,hk,hMo⟩;dsimp only;dsimp only at hk hMo;(have hl1:(a.moves++ZjB a.n (a.start.take k)).length≤30000:=by unfold ZjB;rw [Xd,Xh,Xt];omega);refine nav ?_;(refine ζa ?_<;>refine xL 32 ζP ?_<;>refine ζd ?_)
     (first|refine cCd ?_ ?_|refine cC ?_ ?_)<;>intro hb32
     · first
       |exact bN hb32
       | (
        obtain ⟨x,hx⟩:=ζo (show k<a.start.length by omega);have e1:=Zbd (f:=pInt) hx;refine nav ?_;(refine ζa ?_<;>refine xL 33 (ζW ζx) ?_<;>(refine yL 34 (Zc6 ζn) fun v34 h=>?_;cases h)<;>refine xL 7 ζc ?_<;>refine ζd ?_)
        (refine ζa ?_<;>refine xL 35 (ζe 5 ζw) ?_<;>(refine yL 36 (ζk 5 ζF) fun v36 h=>?_;cases h)<;>refine xL 37 ζb (xL 38 ζb (xL 39 (ζB ZbK) ?_))<;>refine Zbi 40 ζR fun h40 ho40=>?_<;>(refine ZbH 301 40 41 ζR fun h41 ho41=>?_;refine ζq (ζJ (l:=41) 301 rfl rfl) fun _=>?_;refine ζq (ζI (l:=301) rfl ((Zcb _ (a.moves++ZjB a.n (a.start.take k)) ⟨a.n,x,-1⟩).trans (by rw [Xw,←Zvl a.n hx]))) fun _=>?_)<;>refine xL 42 (ζe 5 ζw) ?_<;>refine Zb7 5 ζF Za6 ?_<;>refine ζd ?_)
        (refine ζa ?_<;>refine xL 43 ζM (xL 31 ζb ?_)<;>refine ζd ?_)
        refine ζh (
         ⟨(k+1,h41),ζi hx,ho41⟩
         ) (by dsimp only;omega) ⟨rfl,rfl,rfl,rfl,rfl,rfl,rfl,trivial⟩ ⟨rfl,rfl,rfl,rfl,trivial⟩)
     · first
       |exact bN hb32
       | (
        rw [Xn (show a.start.length≤k by omega)];rw [show a.moves++ZjB a.n a.start=a.moves++ZjB a.n a.start++Zvk a.n (a.fin.take 0) from (XA _).symm];refine nav ?_;(refine ζa ?_<;>refine xL 44 (ζe 1 Zab) ?_<;>(refine yL 45 (ζk 1 ζH) fun v45 h=>?_;cases h)<;>refine xL 46 (ζ9 ζx) (xL 47 ζb ?_)<;>refine ζd ?_)
        refine ζD (ι:={q:Nat×Value//q.1≤a.fin.length∧q.2.oneCell'=true}) (fun k=>⟨[(1,_,_),(2,_,_),(4,_,_),(5,_,_),(45,_,_),(46,_,_),(47, .int .i64 k.1.1,pInt k.1.1)],[(1,_,_),(2,_,_),(5,h5, .own 39 5 1 [pInt (a.n+1),pInt a.syms,pInts [a.n],pInts [a.n], .val k.1.2]),(301,k.1.2, .own 93 3 (a.moves++ZjB a.n a.start++Zvk a.n (a.fin.take k.1.1)).length ((a.moves++ZjB a.n a.start++Zvk a.n (a.fin.take k.1.1)).flatMap cMv))]⟩) (fun k=>a.fin.length-k.1.1) ⟨(0,hM),Xf _,hMo⟩ (fun a w H=>H.weaken ⟨rfl,rfl,rfl,rfl,rfl,rfl,rfl,trivial⟩ ⟨rfl,rfl,rfl,rfl,trivial⟩) ?_;rintro ⟨⟨j,hM2⟩,hj,hM2o⟩;dsimp only;dsimp only at hj hM2o;(have hl2:(a.moves++ZjB a.n a.start++Zvk a.n (a.fin.take j)).length≤30000:=by unfold ZjB Zvk;rw [Xd,Xd,Xh,Xh,Xt];omega);refine nav ?_;(refine ζa ?_<;>refine xL 48 ζP ?_<;>refine ζd ?_)
        (first|refine cCd ?_ ?_|refine cC ?_ ?_)<;>intro hb48
        · first
          |exact bN hb48
          | (
           obtain ⟨y,hy⟩:=ζo (show j<a.fin.length by omega);have e1:=Zbd (f:=pInt) hy;refine nav ?_;(refine ζa ?_<;>refine xL 49 (ζW ζx) ?_<;>(refine yL 50 (Zc6 ζn) fun v50 h=>?_;cases h)<;>refine xL 9 ζc ?_<;>refine ζd ?_)
           (refine ζa ?_<;>refine xL 51 (ζe 5 ζw) ?_<;>(refine yL 52 (ζk 5 ζF) fun v52 h=>?_;cases h)<;>refine xL 53 ζb (xL 54 ζb (xL 55 (ζB ZbK) ?_))<;>refine Zbi 56 ζR fun h56 ho56=>?_<;>(refine ZbH 301 56 57 ζR fun h57 ho57=>?_;refine ζq (ζJ (l:=57) 301 rfl rfl) fun _=>?_;refine ζq (ζI (l:=301) rfl ((Zcb _ (a.moves++ZjB a.n a.start++Zvk a.n (a.fin.take j)) ⟨y,a.n,-1⟩).trans (by rw [Xw (a.moves++ZjB a.n a.start),←Zvm a.n hy]))) fun _=>?_)<;>refine xL 58 (ζe 5 ζw) ?_<;>refine Zb7 5 ζF Za6 ?_<;>refine ζd ?_)
           (refine ζa ?_<;>refine xL 59 ζM (xL 47 ζb ?_)<;>refine ζd ?_)
           refine ζh (
            ⟨(j+1,h57),ζi hy,ho57⟩
            ) (by dsimp only;omega) ⟨rfl,rfl,rfl,rfl,rfl,rfl,rfl,trivial⟩ ⟨rfl,rfl,rfl,rfl,trivial⟩)
        · first
          |exact bN hb48
          | (
           rw [Xn (show a.fin.length≤j by omega)];have hone:En.one (PV.val hM2)=true:=hM2o;refine nav ?_;refine ζC (ζJ (l:=301) 1000 rfl rfl) fun _=>?_;(refine ζa ?_<;>(refine yL 60 (ζm (k:=5) (ps:=[pInt (a.n+1),pInt a.syms,pInts [a.n],pInts [a.n],PV.val hM2]) 5 kR) fun v60 h=>?_;cases h)<;>(refine ζ3 [(1000,hM2,PV.own 93 3 (ZeC a).moves.length ((ZeC a).moves.flatMap cMv)),(1,_,_),(2,_,_),(5,_,_)] ⟨rfl,rfl,rfl,rfl,trivial⟩ ?_;refine Zaa [1,2,5] 61 (Tryz.call137) (Zov (ZeC a) (ZqU h.toAOk) (ZrG h) _ hM2 hM2o r5 hr) ?_;rintro _ _ _ ⟨⟨V1,rfl⟩,rfl,rfl⟩)<;>refine xL 62 ζl (xL 63 ζl ?_)<;>refine ζt 2 ζr ?_<;>refine xL 3 ζc ?_<;>refine ζd ?_)
           exact ZaI (k:=5) 2 kR (Tryz.results90) rfl rfl rfl (Xa rfl) (by decide) r5.s rfl))
theorem ZA7 (a:Aut):AF Tryz.prog 90 [Zap a] (· =resW (Zhy a)):=by
 cases hv:Zas a with
 |false=>rw [Zvj hv];exact Zvn a hv
 | true=>
   rw [Zx5 hv];have h:=ZbW hv;obtain ⟨p0,p1,p2,p3,p4,E,h5,h2,hr⟩:=Ze4 (ZeC a) (ZqU h.toAOk) (Zk1 h);rw [h2];exact ZA6 a hv h5 hr
theorem ZdR (l:List Int) (n:Int) (hl:l.length≤1000000) (hn:0≤n∧n≤1000000) (hb:∀x∈l,0≤x∧x≤1000000):AF Tryz.prog 136 [pInts l,pInt n] (· = .own 3 1 (Zdw n l).length ((Zdw n l).map pInt)):=by
 refine AF.of_body 22 Tryz.func136 rfl Tryz.ntmps136 (Xa rfl) ?_
 intro w0 M0 vs hl hv
 obtain ⟨v0,v1,rfl⟩:=ZdW hl
 obtain rfl:=hv 1 _ _ rfl rfl
 clear hl hv
 refine Zc0 0 rfl fun hlen=>?_
 refine nav ?_
 (refine ζa ?_<;>refine xL 4 ζc ?_<;>refine ζd ?_)
 (refine ζa ?_<;>refine xL 5 ζc ?_<;>refine ζd ?_)
 refine ζC (Zek 200 3 1 rfl) fun _=>?_
 (refine ζa ?_<;>refine xL 8 ζb (xL 9 (ζ9 ζx) (xL 10 ζb ?_))<;>refine ζd ?_)
 refine ζD (ι:={q:Nat×Value//q.1≤l.length∧q.2.oneCell'=true}) (fun k=>⟨[(1,_,_),(8,_,_),(9,_,_),(5,k.1.2, .val k.1.2),(10, .int .i64 k.1.1,pInt k.1.1)],[(200,k.1.2, .own 3 1 (Zdw n (l.take k.1.1)).length ((Zdw n (l.take k.1.1)).map pInt))]⟩) (fun k=>l.length-k.1.1) ⟨(0, .slice none 0 0),Xf _,rfl⟩ (fun a w H=>H.weaken ⟨rfl,rfl,rfl,rfl,rfl,trivial⟩ ⟨rfl,trivial⟩) ?_
 rintro ⟨⟨k,hO⟩,hk,hOo⟩
 dsimp only
 dsimp only at hk hOo
 have hal:(Zdw n (l.take k)).length≤1000000:=by rw [Zd7,Xt];omega
 refine nav ?_
 (refine ζa ?_<;>refine xL 11 ζP ?_<;>refine ζd ?_)
 (first|refine cCd ?_ ?_|refine cC ?_ ?_)<;>intro hb11
 · first
   |exact bN hb11
   | (
    obtain ⟨x,hx⟩:=ζo (show k<l.length by omega);have e1:=Zbd (f:=pInt) hx;have hxb:=hb x (Xg hx);refine nav ?_;(refine ζa ?_<;>refine xL 12 (ζW ζx) ?_<;>(refine yL 13 (Zc6 ζn) fun v13 h=>?_;cases h)<;>refine xL 7 ζc ?_<;>refine ζd ?_)
    (refine ζa ?_<;>refine xL 14 ζb (xL 15 ζb (xL 16 ζb (xL 17 ζM ?_)))<;>refine ζ6 (kk:=1) 18 ζz fun h18 ho18=>?_<;>(refine ZbH 200 18 19 ζz fun h19 ho19=>?_;refine ζq (ζJ (l:=19) 200 rfl rfl) fun _=>?_;refine ζq (ζI (l:=200) rfl ((Zqp _ (Zdw n (l.take k)) (x+n)).trans (by rw [←ZtL n hx]))) fun _=>?_)<;>refine xL 5 ζc ?_<;>refine ζd ?_)
    (refine ζa ?_<;>refine xL 20 ζM (xL 10 ζb ?_)<;>refine ζd ?_)
    refine ζh (
     ⟨(k+1,h19),ζi hx,ho19⟩
     ) (by dsimp only;omega) ⟨rfl,rfl,rfl,rfl,rfl,trivial⟩ ⟨rfl,trivial⟩)
 · first
   |exact bN hb11
   | (
    rw [Xn (show l.length≤k by omega)];refine nav ?_;(refine ζa ?_<;>refine xL 21 ζb (xL 4 ζc ?_)<;>refine ζd ?_)
    exact Zet 200 (Tryz.results136) rfl rfl rfl)
def bsM (a b:Aut):List Mv:=a.moves++ZhR a.n b.moves
theorem ZoS {a b:Aut} (ha:AOk a) (hb:AOk b):(bsM a b).length≤40000:=by
 unfold bsM
 rw [Xd,ZhS]
 have:=ha.ml;have:=hb.ml;omega
set_option maxHeartbeats 2000000 in
theorem Znk (a b:Aut) (ha:AOk a) (hb:AOk b) (V V':Value):AFh False Tryz.prog 134 [(0,V,Zap a),(1,V',Zap b)] [] (fun v q h=>∃hM:Value,hM.oneCell'=true∧q= .agg [pInt (a.n+b.n),pInt a.syms, .val (.slice none 0 0), .val (.slice none 0 0), .val hM]∧h=[(1000,hM, .own 93 3 (bsM a b).length ((bsM a b).flatMap cMv))]):=by
 have hn0:=ha.n0
 have hn1:=ha.n1
 have hm0:=hb.n0
 have hm1:=hb.n1
 have hal:=ha.ml
 have hbl:=hb.ml
 refine AFh.of_body 46 Tryz.func134 rfl Tryz.ntmps134 (Xa rfl) rfl ?_
 intro w0 M0 N0
 refine nav ?_
 (refine ζa ?_<;>refine ζS 2 5 fun h2=>?_<;>refine ζS 3 5 fun h3=>?_<;>refine ζs [(.int .i64 0),(.int .i64 0),(.slice none 0 0),(.slice none 0 0),(.slice none 0 0)] 5 4 ζL fun h4=>?_<;>refine ζd ?_)
 refine Zeu (fun x:{x:Value×Value//x.1.oneCell'=true}=>⟨[(2,padd (sbase h2) 0, .val (padd (sbase h2) 0)),(3,padd (sbase h3) 0, .val (padd (sbase h3) 0)),(4,padd (sbase h4) 0, .val (padd (sbase h4) 0)),(5,padd (sbase x.1.2) 0, .val (padd (sbase x.1.2) 0))],[(2,h2, .own 39 5 1 [pInt a.n,pInt a.syms,pInts a.start,pInts a.fin,pMvs a.moves]),(3,h3, .own 39 5 1 [pInt b.n,pInt b.syms,pInts b.start,pInts b.fin,pMvs b.moves]),(4,h4, .own 39 5 1 [pInt 0,pInt 0, .val (.slice none 0 0), .val (.slice none 0 0), .val (.slice none 0 0)]),(5,x.1.2, .own 39 5 1 [pInt (a.n+b.n),pInt a.syms, .val (.slice none 0 0), .val (.slice none 0 0), .val x.1.1]),(17,x.1.1, .own 93 3 a.moves.length (a.moves.flatMap cMv))]⟩) ?_ ?_
 · (refine ζV (fun i=>([]:List Nat).elem i) [2,3] kR ?_<;>refine xD 0 8 rfl (ζe 2 ζX) ?_<;>(refine yD 1 9 rfl (ζk 2 ζn) fun v9 h=>?_;cases h)<;>refine xD 2 10 rfl (ζe 3 ζX) ?_<;>(refine yD 3 11 rfl (ζk 3 ζn) fun v11 h=>?_;cases h)<;>refine xD 4 12 rfl ζM ?_<;>refine xD 5 13 rfl (ζe 2 Zam) ?_<;>(refine yD 6 14 rfl (ζk 2 ζn) fun v14 h=>?_;cases h)<;>refine xD 7 15 rfl (ζe 2 ζw) ?_<;>(refine yD 8 16 rfl (ζk 2 ζF) fun v16 h=>?_;cases h)<;>(refine Zat 9 11 kR ?_ ?_;rotate_right;(focus ((refine ζg rfl fun w9 M9 N9 DQ back=>?_)<;>refine ζs [(.int .i64 0),(.int .i64 0),(.slice none 0 0),(.slice none 0 0),(.slice none 0 0)] 5 5 ζL fun h5=>?_<;>refine ζf (back _ (nrm ?_))<;>(refine ζj 9 kR ?_)<;>(refine ζg rfl fun w9 M9 N9 DQ back=>?_)<;>refine cO 17 (cA Tryz.call138 (Zax a.moves (by omega))) fun v17 ho17=>?_<;>refine ζf (back _ (nrm ?_))<;>refine xE 10 18 rfl (ζB ζN) ?_<;>(refine ζj 12 kR ?_)<;>(refine ζg rfl fun w9 M9 N9 DQ back=>?_)<;>(refine ζt 5 (m:=5) kR ?_ (h1:=by show (List.all [pInt (a.n+b.n),pInt a.syms,PV.val (.slice none 0 0),PV.val (.slice none 0 0),PV.val v17] En.one)=true;simp only [XB,XG,XD,Xe];exact ⟨rfl,rfl,rfl,rfl,ho17⟩))<;>refine ζf (back _ (nrm ?_))));rotate_right;(focus ((refine ζg rfl fun w9 M9 N9 DQ back=>?_)<;>refine cO 17 (cA Tryz.call138 (Zax a.moves (by omega))) fun v17 ho17=>?_<;>refine ζf (back _ (nrm ?_))<;>refine xD 10 18 rfl (ζB ζN) ?_<;>(refine ζj 11 kR ?_)<;>(refine ζg rfl fun w9 M9 N9 DQ back=>?_)<;>refine ζs [(.int .i64 0),(.int .i64 0),(.slice none 0 0),(.slice none 0 0),(.slice none 0 0)] 5 5 ζL fun h5=>?_<;>refine ζf (back _ (nrm ?_))<;>(refine ζj 12 kR ?_)<;>(refine ζg rfl fun w9 M9 N9 DQ back=>?_)<;>(refine ζt 5 (m:=5) kR ?_ (h1:=by show (List.all [pInt (a.n+b.n),pInt a.syms,PV.val (.slice none 0 0),PV.val (.slice none 0 0),PV.val v17] En.one)=true;simp only [XB,XG,XD,Xe];exact ⟨rfl,rfl,rfl,rfl,ho17⟩))<;>refine ζf (back _ (nrm ?_)))))<;>refine Zae kR (nav ?_)<;>try dsimp only)<;>(
    exact ZaL ⟨(v17,h5),ho17⟩ ⟨rfl,rfl,rfl,rfl,trivial⟩ ⟨rfl,rfl,rfl,rfl,rfl,trivial⟩)
 · rintro ⟨⟨v17,h5⟩,ho17⟩;dsimp only at ho17 ⊢;refine ζC (ζJ (l:=17) 301 rfl rfl) fun _=>?_;refine ζC (ζI (l:=301) (p':= .own 93 3 (a.moves++ZhR a.n (b.moves.take 0)).length ((a.moves++ZhR a.n (b.moves.take 0)).flatMap cMv)) rfl (by rw [show ZhR a.n (b.moves.take 0)=[] from rfl,XA])) fun _=>?_;refine nav ?_;(refine ζa ?_<;>refine xL 19 (ζe 3 ζw) ?_<;>(refine yL 20 (ζk 3 ζF) fun v20 h=>?_;cases h)<;>refine xL 21 (ζ9 ζG) (xL 22 ζb ?_)<;>refine ζd ?_)
   refine ζD (ι:={q:Nat×Value//q.1≤b.moves.length∧q.2.oneCell'=true}) (fun k=>⟨[(2,_,_),(3,_,_),(4,_,_),(5,_,_),(20,_,_),(21,_,_),(22, .int .i64 k.1.1,pInt k.1.1)],[(2,_,_),(3,_,_),(4,_,_),(5,h5, .own 39 5 1 [pInt (a.n+b.n),pInt a.syms, .val (.slice none 0 0), .val (.slice none 0 0), .val k.1.2]),(301,k.1.2, .own 93 3 (a.moves++ZhR a.n (b.moves.take k.1.1)).length ((a.moves++ZhR a.n (b.moves.take k.1.1)).flatMap cMv))]⟩) (fun k=>b.moves.length-k.1.1) ⟨(0,v17),Xf _,ho17⟩ (fun a w H=>H.weaken ⟨rfl,rfl,rfl,rfl,rfl,rfl,rfl,trivial⟩ ⟨rfl,rfl,rfl,rfl,rfl,trivial⟩) ?_;rintro ⟨⟨k,hM⟩,hk,hMo⟩;dsimp only;dsimp only at hk hMo;have hl1:(a.moves++ZhR a.n (b.moves.take k)).length≤50000:=by rw [Xd,ZhS,Xt];omega
   have q5:En.one (PV.val hM)=true:=hMo;refine nav ?_;(refine ζa ?_<;>refine xL 23 ζP ?_<;>refine ζd ?_)
   (first|refine cCd ?_ ?_|refine cC ?_ ?_)<;>intro hb23
   · first
     |exact bN hb23
     | (
      obtain ⟨x,hx⟩:=ζo (show k<b.moves.length by omega);have e1:=Zad ζ0 b.moves k x hx;have e2:=ZaE ζ0 hx;have hxb:=hb.mv x (Xg hx);refine nav ?_;(refine ζa ?_<;>refine xL 24 (ζW ζG) ?_<;>(refine yL 25 (Zby ζT) fun v25 h=>?_;cases h)<;>refine ζs [(.int .i64 0),(.int .i64 0),(.int .i64 0)] 3 7 Zc1 fun h7=>?_<;>refine ζt 7 ζT ?_<;>refine ζd ?_)
      (refine ζa ?_<;>refine xL 26 (ζe 5 ζw) ?_<;>(refine yL 27 (ζk 5 ζF) fun v27 h=>?_;cases h)<;>refine xL 28 (ζe 7 Zaz) ?_<;>(refine yL 29 (ζk 7 ζn) fun v29 h=>?_;cases h)<;>refine xL 30 (ζe 2 ζX) ?_<;>(refine yL 31 (ζk 2 ζn) fun v31 h=>?_;cases h)<;>refine xL 32 ζM (xL 33 (ζe 7 ZaR) ?_)<;>(refine yL 34 (ζk 7 ζn) fun v34 h=>?_;cases h)<;>refine xL 35 (ζe 2 ζX) ?_<;>(refine yL 36 (ζk 2 ζn) fun v36 h=>?_;cases h)<;>refine xL 37 ζM (xL 38 (ζe 7 ZaA) ?_)<;>(refine yL 39 (ζk 7 ζn) fun v39 h=>?_;cases h)<;>refine xL 40 (ζB ZbK) ?_<;>refine Zbi 41 ζR fun h41 ho41=>?_<;>(refine ZbH 301 41 42 ζR fun h42 ho42=>?_;refine ζq (ζJ (l:=42) 301 rfl rfl) fun _=>?_;refine ζq (ζI (l:=301) rfl ((Zcb _ (a.moves++ZhR a.n (b.moves.take k)) ⟨x.src+a.n,x.dst+a.n,x.sym⟩).trans (by rw [Xw,←ZtM a.n hx]))) fun _=>?_)<;>refine xL 43 (ζe 5 ζw) ?_<;>refine Zb7 5 ζF Za6 ?_<;>refine ζd ?_)
      (refine ζa ?_<;>refine xL 44 ζM (xL 22 ζb ?_)<;>refine ζd ?_)
      refine ζh (
       ⟨(k+1,h42),ζi hx,ho42⟩
       ) (by dsimp only;omega) ⟨rfl,rfl,rfl,rfl,rfl,rfl,rfl,trivial⟩ ⟨rfl,rfl,rfl,rfl,rfl,trivial⟩)
   · first
     |exact bN hb23
     | (
      rw [Xn (show b.moves.length≤k by omega)];refine ζC (ζJ (l:=301) 1000 rfl rfl) fun _=>?_;refine nav ?_;(refine ζa ?_<;>(refine yL 45 (ζm (k:=5) (ps:=[pInt (a.n+b.n),pInt a.syms,PV.val (.slice none 0 0),PV.val (.slice none 0 0),PV.val hM]) 5 kR) fun v45 h=>?_;cases h)<;>refine ζt 4 ζr ?_<;>refine ζd ?_)
      exact ZqM (k:=5) 4 [(1000,hM,PV.own 93 3 (bsM a b).length ((bsM a b).flatMap cMv))] kR (Tryz.results134) rfl rfl (Xa rfl) (by decide) rfl ⟨rfl,trivial⟩ fun V=>⟨hM,hMo,rfl,rfl⟩)
end Go.Proofs.YtgfabnhpllkebaaGreatDoor
