/-
  Walks of functions and plain laws of the chapter, as the claim needs them.
-/
import Derived.Laws.StructEq
import Derived.Sort.EncStr
import Derived.Test.YteiincihiagidaaGreatPf05
import Derived.Test.YteiincihiagidaaGreatPf04
import Derived.Test.YteiincihiagidaaGreatPf03
import Derived.Test.YteiincihiagidaaGreatPf02
import Derived.Test.YteiincihiagidaaGreatPf01
set_option linter.all false
set_option maxRecDepth 100000
set_option maxHeartbeats 8000000
namespace Go.Proofs.YteiincihiagidaaGreat
open Go.RowKit Go.Cb Go.En Tryz
theorem Tj:MpT prog 142 9 3 .string (.int .i64 0):=⟨underlying142,underlying9, .inl rfl,by show ZeroT _ _ _;unfold ZeroT;kernel_rfl⟩
theorem Tl:PkT prog 143 146 9 3 (.int .i64 0):=⟨underlying143,underlying146,underlying9,by kernel_rfl,by kernel_rfl,by kernel_rfl,by kernel_rfl,by kernel_rfl,fun a b=>by kernel_rfl,⟨prog.types.size-1,by kernel_rfl⟩,by show ZeroT _ _ _;unfold ZeroT;kernel_rfl⟩
def ζp:PV:= .agg [.val (.slice none 0 0), .val (.slice none 0 0), .val (.slice none 0 0), .val (.slice none 0 0)]
def Zqo (l:List Var) (p:PV):Prop:=
 (validVars l=false∧p= .tup [ζp,Zc 1])∨(validVars l=true∧40<(makeM l).a.length∧p= .tup [ζp,Zc 5])∨(validVars l=true∧(makeM l).a.length≤40∧∃g,Za0 g (makeM l)∧p= .tup [GJ g,Zc 0])
theorem ZfP (m:List (BA×Int)) (s:BA):(Ka (skv (Kn m)) (.string s)).getD (.int .i64 0)= .int .i64 (iget m s):=by
 rw [Lv];exact ζf m s
theorem ζq (m:List (BA×Int)) (s:BA) (n:Int):TO (skv (Kn m)) (.string s) (.int .i64 n)=skv (Kn (Sr m s n)):=by
 rw [Ps,ζg]
theorem ZfQ {κ:Type} (m:List (κ×Int)):(Kn m).map (·.1)=m.map (·.1):=by
 unfold Kn;rw [Xt];rfl
theorem Zjq {κ:Type} {m:List (κ×Int)} {p:κ→Prop} (h:∀x∈m,p x.1):∀x∈Kn m,p x.1:=fun x hx=>by
 obtain ⟨y,hy,rfl⟩:=Xh.1 hx
 exact h y hy
theorem ZdA {m:List (Pr×Value)} {k:Pr} {v:Value} {p:Pr→Prop} (h:∀x∈m,p x.1) (hk:p k):∀x∈KS m k v,p x.1:=fun x hx=>by
 rcases (ZaW x.1).1 (Xh.2 ⟨x,hx,rfl⟩) with h1|h1
 · rw [h1];exact hk
 · obtain ⟨z,hz,hzx⟩:=Xh.1 h1;rw [←hzx];exact h z hz
def midA (st:M4) (x:Var) (j:Nat):List (BA×Int):=addAll st.a (x.acts.take j) x.count
def midQ (st:M4) (x:Var) (j:Nat):List (Pr×Int):=addAll st.q (Jg (x.acts.take j)) x.count
theorem Zjr {st:M4} {x:Var} {j:Nat} {s:BA} (hs:x.acts[j]? =some s):midA st x (j+1)=Sr (midA st x j) s (iget (midA st x j) s+x.count):=by
 unfold midA;rw [Zw hs,EH];rfl
theorem Za2 {st:M4} {x:Var} {s:BA} (hs:x.acts[0]? =some s):midQ st x (0+1)=midQ st x 0:=by
 unfold midQ;rw [Zjl hs];rfl
theorem Za3 {st:M4} {x:Var} {j:Nat} {a s:BA} (ha:x.acts[j]? =some a) (hs:x.acts[j+1]? =some s):midQ st x (j+1+1)=Sr (midQ st x (j+1)) (a,s) (iget (midQ st x (j+1)) (a,s)+x.count):=by
 unfold midQ;rw [ZfI ha hs,EH];rfl
theorem ZoU {st:M4} {x:Var} {b j:Nat} (h:KOk st b) (hx:K4 x=true):MOk (midA st x j) (b+200):=by
 unfold K4 at hx
 simp only [Xi,U8,Xm] at hx
 exact (h.a.addAll oM hx.2).mono (by rw [XG];omega)
theorem ZoV {st:M4} {x:Var} {b j:Nat} (h:KOk st b) (hx:K4 x=true):MOk (midQ st x j) (b+200)∧∀y∈midQ st x j,prOk y.1:=by
 unfold K4 at hx
 simp only [Xi,U8,Xm] at hx
 obtain ⟨⟨⟨h1,h2⟩,h3⟩,h4⟩:=hx
 have hp:=HZ (x.acts.take j)
 refine ⟨(h.q.addAll oM h4).mono (by rw [XG] at hp;omega),PQ h.k fun k hk=>?_⟩
 have:=H3 hk
 have n1:=T6 (h2 _ (VA this.1))
 have n2:=T6 (h2 _ (VA this.2))
 exact ⟨oM,oM⟩
theorem ZoW (l : List Var) (hf:ζ5 l):AF prog 67 [Yx l] (Zqo l):=by
 refine AF.b1 100 func67 rfl ntmps67 (Xa rfl) fun w0 M0 v0 _=>?_
 refine Zh ?_
 refine Zx [(.slice none 0 0),(.slice none 0 0),(.slice none 0 0),(.slice none 0 0)] 4 2 G4 fun h2=>?_;refine LA ?_;refine cV (cA call34 (GQ l hf)) ?_;refine YX ?_ ?_<;>intro hb12
 · (
 refine Zh ?_;refine xM (ZX Ti) ?_;refine Zu 2 YQ ?_;refine ZB ?_;exact YG (k:=4) 2 results67 (.inl ⟨by simpa using hb12,rfl⟩))
 · (
 (have hV:validVars l=true:=by simpa using hb12);(have hl300:l.length≤300:=by have h:=hV;simp only [validVars,Xi,U8] at h;exact h.1);have hok:∀x∈l,K4 x=true:=fun x hx=>by
  obtain ⟨i,hi⟩:=XR hx;exact RF hV hi
 have hK:=KOk.all hok;refine Zh ?_;refine cO 14 (cA call109 (ζ8)) fun v14 ho14=>?_;refine ZB ?_;refine Zq (ZoM (l:=14) rfl) fun i=>?_;obtain ⟨h14,hv14⟩:=i;subst hv14;refine Zq (S2 (l:=14) (l':=301) (j:=0) rfl rfl rfl rfl) fun i=>?_;obtain ⟨m1,hm1⟩:=i;refine Zq (S2 (l:=14) (l':=302) (j:=1) rfl rfl rfl rfl) fun i=>?_;obtain ⟨m2,hm2⟩:=i;refine Zq (S2 (l:=14) (l':=303) (j:=2) rfl rfl rfl rfl) fun i=>?_;obtain ⟨m3,hm3⟩:=i;refine Zq (S2 (l:=14) (l':=304) (j:=3) rfl rfl rfl rfl) fun i=>?_;obtain ⟨m4,hm4⟩:=i;dsimp only [List.set];refine Zi ?_;refine xL 15 Za (xL 16 (Zy Yi) (xL 17 Za ?_));refine ZF ?_;refine Yd (ι:={k:Nat//k≤l.length}) (fun k=>⟨[(2,_,_),(4,_,_),(15,_,_),(16,_,_),(17, .int .i64 k.1,Zc k.1)],[(2,_,_),(14,h14, .own 145 4 1 [.val m1, .val m2, .val m3, .val m4]),(301,m1, .omap (skv (Kn (makeM (l.take k.1)).a))),(302,m2, .omap (skv (Kn (makeM (l.take k.1)).s))),(303,m3, .omap (skv (Kn (makeM (l.take k.1)).f))),(304,m4, .omap (akv (Kn (makeM (l.take k.1)).q)))]⟩) (fun k=>l.length-k.1) ⟨0,Xg _⟩ ?_;rintro ⟨k,hk⟩;dsimp only;have hKk:=hK k hk;obtain ⟨st,hst⟩:∃st,st=makeM (l.take k):=⟨_,rfl⟩;rw [←hst] at hKk ⊢;refine Ys ?_ ?_<;>intro hb18
 · (
 obtain ⟨x,hx⟩:=gS l k;have e1:=Yu Yy l k x hx;have e2:=Y9 Yy hx;have hxo:=hok x (Xc hx);have hxo2:=hxo;unfold K4 at hxo2;simp only [Xi,U8,Xm] at hxo2;obtain ⟨⟨⟨hxl,hxn⟩,hx1⟩,hx2⟩:=hxo2;have hnx:=ζh hx;rw [←hst] at hnx;refine Zh ?_;refine xM (Zg Yi) ?_;refine yU (YD GZ) fun v20=>?_;refine Zx [(.slice none 0 0),(.int .i64 0)] 2 6 HL fun h6=>?_;refine Zu 6 GZ ?_;refine Yc ?_;refine xM (Zb 6 YL) ?_;refine yU (Ze 6 ZN) fun v22=>?_;refine xL 23 (Zy Zn) (xL 24 Za ?_);refine ZF ?_;refine Yd (ι:={j:Nat//j≤x.acts.length}) (fun k=>⟨[(2,_,_),(4,_,_),(6,_,_),(15,_,_),(16,_,_),(17,_,_),(22,_,_),(23,_,_),(24, .int .i64 k.1,Zc k.1)],[(2,_,_),(6,_,_),(14,_,_),(302,_,_),(303,_,_),(301,m1, .omap (skv (Kn (midA st x k.1)))),(304,m4, .omap (akv (Kn (midQ st x k.1))))]⟩) (fun k=>x.acts.length-k.1) ⟨0,Xg _⟩ ?_;rintro ⟨j,hj⟩;dsimp only;have hAj:=ZoU (j:=j) hKk hxo;have hQj:=ZoV (j:=j) hKk hxo;refine Ys ?_ ?_<;>intro hb25
 · (
 obtain ⟨s,hs⟩:=gS x.acts j;have e3:=Z8 (f:=Zt) hs;have hgA:=hAj.get s;have hsn:=T6 (hxn s (Xc hs));refine Zh ?_;refine xL 26 Za (xL 27 (Zg Zn) ?_);refine yV (ZG ZK) ?_;refine YJ ?_;(refine We [9] [6,14,301] ?_<;>refine gDx 0 ?_<;>refine xD 1 rfl (S3 14) ?_<;>refine xD 2 rfl (Zb 14 R1) ?_<;>(refine yD 3 rfl (Ze 14 G3) fun v32 h=>?_;cases h)<;>refine gDx 4 ?_<;>refine xD 5 rfl (Pv 301 Tj (hk:=SL _ _) (hu:=ZfP _ _)) ?_<;>refine xE 6 rfl (Zb 6 K7) ?_<;>(refine yE 7 rfl (Ze 6 ZM) fun v36 h=>?_;cases h)<;>refine gEx 8 ?_<;>(refine Z6 9 kR ?_)<;>(refine Kj rfl rfl kR fun DQ bk=>?_)<;>refine L9 301 Tj ?_<;>refine Ww (bk _ (nav ?_))<;>try dsimp only)
 rw [ζq,←Zjr hs];refine KJ ?_;refine cX ?_ ?_<;>intro hb39
 · (
 obtain ⟨j',rfl⟩:∃j',j=j'+1:=⟨j-1,oM⟩;obtain ⟨a,ha⟩:=gS x.acts (j');(have e4:(x.acts.map Zt)[(((j'+1:Nat):Int)-1).toNat*1]? =some (Zt a):=by rw [show (((j'+1:Nat):Int)-1).toNat=j' by omega];exact Z8 (f:=Zt) ha);have hgQ:=hQj.1.get (a,s);have han:=T6 (hxn a (Xc ha));have hpr:prOk (a,s):=⟨by show a.size≤_;omega,by show s.size≤_;omega⟩;(have hQn:((Kn (midQ st x (j'+1))).map (·.1)).Nodup:=by rw [ZfQ];exact hQj.1.nd);have hQk:=Zjq hQj.2;have hQg:=ζf (midQ st x (j'+1)) (a,s);refine nav ?_;(refine We [18] [6,14] ?_<;>refine gDx 0 ?_<;>refine xD 1 rfl (S3 14) ?_<;>refine xD 2 rfl (Zb 14 Hc) ?_<;>(refine yD 3 rfl (Ze 14 ζj) fun v43 h=>?_;cases h)<;>refine xD 4 rfl (Zb 6 YL) ?_<;>(refine yD 5 rfl (Ze 6 ZN) fun v45 h=>?_;cases h)<;>refine gDx 6 ?_<;>refine gDx 7 ?_<;>refine xD 8 rfl (OJ Zn) ?_<;>(refine yD 9 rfl (ZG ZK) fun v49 h=>?_;cases h)<;>refine gDx 10 ?_<;>refine xD 11 rfl (ZlY Db ζk) ?_<;>refine xD 13 rfl (Zb 6 K7) ?_<;>(refine yD 14 rfl (Ze 6 ZM) fun v54 h=>?_;cases h)<;>(refine Wm 12 16 kR ?_ ?_;rotate_right;(focus ((refine aWr fun bk=>?_)<;>(refine ζe 304 56 (k:=(a,s)) Tl hQk hQn hpr (fun b56 c56 n56 es56 hm56 hw56 he56 hj56=>?_);subst hm56)<;>refine bE bk ?_<;>refine gDx 17 ?_<;>(refine aDr 12 fun bk=>?_)<;>(first|refine xM (Zg9 304 (k:=(a,s)) (u:= .int .i64 (iget (midQ st x (j'+1)) (a,s))) Tl hQk hQn hpr hQg) ?_|refine xM (Zdt 304 (k:=(a,s)) (u:= .int .i64 (iget (midQ st x (j'+1)) (a,s))) Tl he56 (ZdA hQk hpr) (Da hQn) hpr (by rw [ZaX];exact hQg)) ?_)<;>refine bE bk ?_<;>refine gEx 15 ?_));rotate_right;(focus ((refine aWr fun bk=>?_)<;>(first|refine xM (Zg9 304 (k:=(a,s)) (u:= .int .i64 (iget (midQ st x (j'+1)) (a,s))) Tl hQk hQn hpr hQg) ?_|refine xM (Zdt 304 (k:=(a,s)) (u:= .int .i64 (iget (midQ st x (j'+1)) (a,s))) Tl he56 (ZdA hQk hpr) (Da hQn) hpr (by rw [ZaX];exact hQg)) ?_)<;>refine bE bk ?_<;>refine gDx 15 ?_<;>(refine aDr 16 fun bk=>?_)<;>(refine ζe 304 56 (k:=(a,s)) Tl hQk hQn hpr (fun b56 c56 n56 es56 hm56 hw56 he56 hj56=>?_);subst hm56)<;>refine bE bk ?_<;>refine gEx 17 ?_)))<;>(refine Z6 18 kR ?_)<;>(refine Kj rfl rfl kR fun DQ bk=>?_)<;>(refine ZfC 304 hw56 he56 (Da hQn) hj56 ?_;rw [Zjb,ζg])<;>refine Ww (bk _ (nav ?_))<;>try dsimp only)<;>(
 refine KJ ?_;try rw [←Za3 ha hs]
 try (obtain rfl:j=0:=by omega)
 try rw [←Za2 hs]
 first
  | (exact Zm (
      ⟨j'+1+1,oM⟩
      ) (by first|(show x.acts.length-(j'+1+1)<x.acts.length-(j'+1);omega)|(show x.acts.length-(0+1)<x.acts.length-0;omega)) sB sB)
  | (exact Zm (
      ⟨0+1,oM⟩
      ) (by first|(show x.acts.length-(j'+1+1)<x.acts.length-(j'+1);omega)|(show x.acts.length-(0+1)<x.acts.length-0;omega)) sB sB)))
 · (
 refine ZE ?_;try rw [←Za3 ha hs]
 try (obtain rfl:j=0:=by omega)
 try rw [←Za2 hs]
 first
  | (exact Zm (
      ⟨j'+1+1,oM⟩
      ) (by first|(show x.acts.length-(j'+1+1)<x.acts.length-(j'+1);omega)|(show x.acts.length-(0+1)<x.acts.length-0;omega)) sB sB)
  | (exact Zm (
      ⟨0+1,oM⟩
      ) (by first|(show x.acts.length-(j'+1+1)<x.acts.length-(j'+1);omega)|(show x.acts.length-(0+1)<x.acts.length-0;omega)) sB sB)))
 · (
 refine nav ?_;have hjl:j=x.acts.length:=oM;(have eA:midA st x j=(mk1 st x).a:=by unfold midA mk1;rw [hjl,XH]);(have eQ:midQ st x j=(mk1 st x).q:=by unfold midQ mk1;rw [hjl,XH]);rw [eA,eQ];refine Zi ?_;refine xM (Zb 6 YL) ?_;refine yU (Ze 6 ZN) fun v60=>?_;refine xL 61 (Zy Zn) (xL 9 Wv ?_);refine GG ?_ ?_<;>intro hb63
 · (
 obtain ⟨s0,hs0⟩:=gS x.acts 0;obtain ⟨s1,hs1⟩:=gS x.acts (x.acts.length-1);have e5:(x.acts.map Zt)[0*1]? =some (Zt s0):=Z8 (f:=Zt) hs0;(have e6:(x.acts.map Zt)[((x.acts.length:Int)-1).toNat*1]? =some (Zt s1):=by rw [show ((x.acts.length:Int)-1).toNat=x.acts.length-1 by omega];exact Z8 (f:=Zt) hs1);have hgS:=hKk.s.get s0;have hgF:=hKk.f.get s1;refine nav ?_;(refine We [12] [6,14,302] ?_<;>refine gDx 0 ?_<;>refine xD 1 rfl (S3 14) ?_<;>refine xD 2 rfl (Zb 14 Ha) ?_<;>(refine yD 3 rfl (Ze 14 G3) fun v67 h=>?_;cases h)<;>refine xD 4 rfl (Zb 6 YL) ?_<;>(refine yD 5 rfl (Ze 6 ZN) fun v69 h=>?_;cases h)<;>refine xD 6 rfl (Zg (i:=0) Zn) ?_<;>(refine yD 7 rfl (ZG ZK) fun v71 h=>?_;cases h)<;>refine xD 8 rfl (Pv 302 Tj (hk:=SL _ _) (hu:=ZfP _ _)) ?_<;>refine xE 9 rfl (Zb 6 K7) ?_<;>(refine yE 10 rfl (Ze 6 ZM) fun v74 h=>?_;cases h)<;>refine gEx 11 ?_<;>(refine Z6 12 kR ?_)<;>(refine Kj rfl rfl kR fun DQ bk=>?_)<;>refine L9 302 Tj ?_<;>refine Ww (bk _ (nav ?_))<;>try dsimp only)
 (refine We [14] [6,14,303] ?_<;>refine gDx 0 ?_<;>refine xD 1 rfl (S3 14) ?_<;>refine xD 2 rfl (Zb 14 Hb) ?_<;>(refine yD 3 rfl (Ze 14 G3) fun v79 h=>?_;cases h)<;>refine xD 4 rfl (Zb 6 YL) ?_<;>(refine yD 5 rfl (Ze 6 ZN) fun v81 h=>?_;cases h)<;>refine gDx 6 ?_<;>refine gDx 7 ?_<;>refine xD 8 rfl (OJ Zn) ?_<;>(refine yD 9 rfl (ZG ZK) fun v85 h=>?_;cases h)<;>refine xD 10 rfl (Pv 303 Tj (hk:=SL _ _) (hu:=ZfP _ _)) ?_<;>refine xE 11 rfl (Zb 6 K7) ?_<;>(refine yE 12 rfl (Ze 6 ZM) fun v88 h=>?_;cases h)<;>refine gEx 13 ?_<;>(refine Z6 14 kR ?_)<;>(refine Kj rfl rfl kR fun DQ bk=>?_)<;>refine L9 303 Tj ?_<;>refine Ww (bk _ (nav ?_))<;>try dsimp only)
 refine KJ ?_;try rw [ζq,ζq]
 try rw [show Sr st.s s0 (iget st.s s0+x.count)=(mk1 st x).s by unfold mk1;cases hc:x.acts with|nil=>rw [hc] at hs0;simp at hs0|cons z t=>rw [hc] at hs0;simp at hs0;subst hs0;rfl]
 try rw [show Sr st.f s1 (iget st.f s1+x.count)=(mk1 st x).f by unfold mk1;rw [List.getLast?_eq_getElem?,hs1];rfl]
 try rw [show st.s=(mk1 st x).s by unfold mk1;rw [show x.acts=[] from XB oM],show st.f=(mk1 st x).f by unfold mk1;rw [show x.acts=[] from XB oM];rfl]
 rw [←hnx];refine Yh (
  ⟨k+1,oM⟩
  ))
 · (
 refine ZE ?_;try rw [ζq,ζq]
 try rw [show Sr st.s s0 (iget st.s s0+x.count)=(mk1 st x).s by unfold mk1;cases hc:x.acts with|nil=>rw [hc] at hs0;simp at hs0|cons z t=>rw [hc] at hs0;simp at hs0;subst hs0;rfl]
 try rw [show Sr st.f s1 (iget st.f s1+x.count)=(mk1 st x).f by unfold mk1;rw [List.getLast?_eq_getElem?,hs1];rfl]
 try rw [show st.s=(mk1 st x).s by unfold mk1;rw [show x.acts=[] from XB oM],show st.f=(mk1 st x).f by unfold mk1;rw [show x.acts=[] from XB oM];rfl]
 rw [←hnx];refine Yh (
  ⟨k+1,oM⟩
  ))))
 · (
 refine nav ?_;obtain rfl:k=l.length:=oM;rw [XH] at hst;have hKl:=hKk;rw [hst] at hKl ⊢;have hAl:=hKl.a.len;refine Zi ?_;refine xL 91 Za (xL 92 (S3 14) (xL 93 (Zb 14 R1) ?_));refine yV (Ze 14 G3) ?_;refine xL 95 (ZgF 301 underlying142) (xL 96 Rc ?_);refine ZR ?_ ?_<;>intro hb96
 · (
 refine Zh ?_;refine xM (ZX Ti) ?_;refine Zu 2 YQ ?_;refine ZB ?_;exact YG (k:=4) 2 results67 (.inr (.inl ⟨hV,by unfold skv Kn at hb96;simp only [Xb] at hb96;omega,rfl⟩)))
 · (
 refine nav ?_;(have h40:(makeM l).a.length≤40:=by unfold skv Kn at hb96;simp only [Xb] at hb96;omega);refine Zq (fold (l:=14) (l':=301) (j:=0) rfl rfl rfl rfl) fun _=>?_;refine Zq (fold (l:=14) (l':=302) (j:=1) rfl rfl rfl rfl) fun _=>?_;refine Zq (fold (l:=14) (l':=303) (j:=2) rfl rfl rfl rfl) fun _=>?_;refine Zq (fold (l:=14) (l':=304) (j:=3) rfl rfl rfl rfl) fun _=>?_;refine Zq (T0 (l:=14) (t:=4) (j:=0) rfl Vs rfl) fun _=>?_;dsimp only [YV,share,List.set];refine GH ?_;refine cDx 99 (cA call110 ((Zl6 (makeM l) _ oM hKl).mono (R':=fun p=>∃i:{g//Za0 g (makeM l)},p=GJ i.1) fun p ⟨g,h1,h2⟩=>⟨⟨g,h1⟩,h2⟩)) (fun i v99 hv99=>?_) (fun _=>rfl);obtain ⟨g,hg⟩:=i;dsimp only [GJ];refine Zu 2 YQ ?_;refine ZB ?_;exact YG (k:=4) 2 results67 (.inr (.inr ⟨hV,h40,g,hg,rfl⟩)))))
section
variable {κ:Type} [DecidableEq κ]
structure Ord (lt:κ→κ→Bool):Prop where
 irr:∀a,lt a a=false
 tr:∀a b c,lt a b=true→lt b c=true→lt a c=true
 tot:∀a b,lt a b=false→lt b a=false→a=b
def SameK (lt:κ→κ→Bool) (L m:List (κ×Int)):Prop:=L.Perm m∧L.Pairwise fun a b=>lt a.1 b.1=true
theorem SameK.unique {lt:κ→κ→Bool} (hO:Ord lt) {L L' m:List (κ×Int)} (h:SameK lt L m) (k:SameK lt L' m):L=L':=
 ZbQ (fun a _ b _ hab hba=>by
  have:=hO.tr _ _ _ hab hba;rw [hO.irr] at this;exact Bool.noConfusion this) h.2 k.2 fun c=>by rw [h.1.mem_iff,k.1.mem_iff]
end
theorem Zq7:Ord strLt:=⟨Y2,fun _ _ _=>YY,fun _ _=>Kw⟩
def Zq8 (a b:Pr):Bool:=flwLt ⟨a.1,a.2,0⟩ ⟨b.1,b.2,0⟩
theorem Zr2:Ord Zq8:=⟨fun a=>U' (Tt _),fun a b c h1 h2=>U9 (LL (Qd h1) (Qd h2)),fun a b h1 h2=>by
 have h1:=Qe h1
 have h2:=Qe h2
 by_cases e:a.1=b.1∧a.2=b.2
 · exact Prod.ext e.1 e.2
 · exact Qc (T4 h2 e) h1⟩
def unC (c:Cnt):BA×Int:=(c.name,c.n)
def unF (f:Flw):Pr×Int:=((f.src,f.dst),f.n)
theorem Zjs {L:List Cnt} {m:List (BA×Int)}:SameC L m↔SameK strLt (L.map unC) m:=by
 unfold SameC SameK
 rw [Vq]
 constructor
 · rintro ⟨h1,h2⟩;refine ⟨?_,h2⟩;have:=h1.map unC;rw [Xt] at this;exact this.trans (List.Perm.of_eq (VP _))
 · rintro ⟨h1,h2⟩;refine ⟨?_,h2⟩;have:=h1.map mkC;rw [Xt] at this;exact (List.Perm.of_eq (VP _).symm).trans this
theorem Zjt {L:List Flw} {m:List (Pr×Int)}:SameF L m↔SameK Zq8 (L.map unF) m:=by
 unfold SameF SameK
 rw [Vq]
 have hlt:∀a b:Flw,Zq8 (unF a).1 (unF b).1=true↔KN a b<0:=fun a b=>decide_eq_true_iff
 constructor
 · rintro ⟨h1,h2⟩;refine ⟨?_,h2.imp fun h=>(hlt _ _).2 h⟩;have:=h1.map unF;rw [Xt] at this;exact this.trans (List.Perm.of_eq (VP _))
 · rintro ⟨h1,h2⟩;refine ⟨?_,h2.imp fun h=>(hlt _ _).1 h⟩;have:=h1.map mkF;rw [Xt] at this;exact (List.Perm.of_eq (VP _).symm).trans this
theorem R2 {L L':List Cnt} {m:List (BA×Int)} (h:SameC L m) (k:SameC L' m):L=L':=by
 rw [Zjs] at h k
 have:=congrArg (List.map mkC) (h.unique Zq7 k)
 rw [Xt,Xt] at this
 exact (VP L).symm.trans (this.trans (VP L'))
theorem ZbV {L L':List Flw} {m:List (Pr×Int)} (h:SameF L m) (k:SameF L' m):L=L':=by
 rw [Zjt] at h k
 have:=congrArg (List.map mkF) (h.unique Zr2 k)
 rw [Xt,Xt] at this
 exact (VP L).symm.trans (this.trans (VP L'))
structure MidG (st:M4) (x:Var) (j:Nat) (g:Dfg):Prop where
 a:SameC g.acts (midA st x j)
 s:SameC g.starts (if j=0 then st.s else (mk1 st x).s)
 f:SameC g.ends (if j=x.acts.length then (mk1 st x).f else st.f)
 q:SameF g.follows (midQ st x j)
theorem ZbW {g g':Dfg} {st:M4} (h:Za0 g st) (k:Za0 g' st):g=g':=by
 obtain ⟨a,s,f,q⟩:=g
 obtain ⟨a',s',f',q'⟩:=g'
 have e1:=R2 h.1 k.1
 have e2:=R2 h.2.1 k.2.1
 have e3:=R2 h.2.2.1 k.2.2.1
 have e4:=ZbV h.2.2.2 k.2.2.2
 dsimp only at e1 e2 e3 e4
 rw [e1,e2,e3,e4]
end Go.Proofs.YteiincihiagidaaGreat
namespace Go.En
open Go.RowKit Go.Cb
section
variable {P:Program} {st:St} {o:Oper}
end
end Go.En
namespace Go.Proofs.YteiincihiagidaaGreat
open Go.RowKit Go.Cb Go.En Tryz
theorem E5 {l:List BA} {s:BA} (h:hasStr l s=true):l[ixN l s]? =some s:=by
 obtain ⟨i,x,h1,h2,h3⟩:=ZoT (p:=fun x=>Kv x s) (l:=l) h
 unfold ixN
 rw [h1,XY,h2,KB.1 h3]
theorem ZdB {l:List BA} (h:chainB strLt l=true):l.Pairwise fun a b=>strLt a b=true:=by
 induction l with
 |nil=>exact .nil
 | cons x l ih=>
   have h1:∀i a b,(x::l)[i]? =some a→(x::l)[i+1]? =some b→strLt a b=true:=(J3 strLt _).1 h;have h2:=ih ((J3 strLt l).2 fun i a b ha hb=>h1 (i+1) a b ha hb);refine XL.2 ⟨fun y hy=>?_,h2⟩
   cases l with
   |nil=>simp at hy
   | cons z l=>
     have h3:=h1 0 x z rfl rfl;rcases Xk.1 hy with rfl|hy
     · exact h3
     · exact YY h3 ((XL.1 h2).1 y hy)
theorem Zmb {acts:List BA} (hc:chainB strLt acts=true) {s t:BA} (hs:hasStr acts s=true) (ht:hasStr acts t=true) (hlt:strLt s t=true):ixN acts s<ixN acts t:=by
 have h1:=E5 hs
 have h2:=E5 ht
 rcases VG (ixN acts s) (ixN acts t) with h3|h3|h3
 · exact h3
 · rw [h3,h2] at h1
   cases h1;rw [Y2] at hlt;cases hlt
 · exfalso;have h4:=XS.1 (ZdB hc) _ _ (Zd h2) (Zd h1) h3;rw [Xx (Zd h1)] at h1;rw [Xx (Zd h2)] at h2;injection h1 with h1;injection h2 with h2;rw [h1,h2] at h4;have:=YY hlt h4;rw [Y2] at this;cases this
theorem Zhf {acts:List BA} {s t:BA} (hs:hasStr acts s=true) (ht:hasStr acts t=true) (h:ixN acts s=ixN acts t):s=t:=by
 have h1:=E5 hs
 rw [h,E5 ht] at h1
 injection h1 with h1;exact h1.symm
structure GOk (g:Dfg):Prop where
 n40:g.acts.length≤40
 asc:chainB strLt (cnames g.acts)=true
 st:∀c∈g.starts,hasStr (cnames g.acts) c.name=true
 en:∀c∈g.ends,hasStr (cnames g.acts) c.name=true
 fl:∀f∈g.follows,hasStr (cnames g.acts) f.src=true∧hasStr (cnames g.acts) f.dst=true
 stA:chainB strLt (cnames g.starts)=true
 enA:chainB strLt (cnames g.ends)=true
 flA:chainB flwLt g.follows=true
theorem Zq9 {g:Dfg} (h:TV g=true):GOk g:=by
 have h0:=ZaB h
 have hl:(cnames g.acts).length=g.acts.length:=by simp [cnames]
 unfold TV LB CF at h
 simp only [Xi] at h
 obtain ⟨⟨⟨⟨⟨⟨⟨h1,h2⟩,h3⟩,h4⟩,h5⟩,h6⟩,h7⟩,h8⟩:=h
 exact ⟨oM,h1.2,h0.2.1,h0.2.2.1,h0.2.2.2,h2.1,h3.1,h8⟩
theorem GOk.ix {g:Dfg} (h:GOk g) {s:BA} (hs:hasStr (cnames g.acts) s=true):ixN (cnames g.acts) s<g.acts.length:=by
 have:=(HO hs).2
 simpa [cnames] using this
theorem Zra {l:List Flw} (h:chainB flwLt l=true):l.Pairwise fun a b=>KN a b<0:=by
 have h1:=ζo h (fun a _=>by unfold flwLt;exact U' (Tt a)) (fun a _ b _ c _ h1 h2=>by
  unfold flwLt at*;exact U9 (LL (Qd h1) (Qd h2)))
 exact h1.imp fun h=>Qd h
theorem GOk.flen {g:Dfg} (h:GOk g):g.follows.length≤1600:=by
 have h1:(g.follows.map fun f=>(ixN (cnames g.acts) f.src,ixN (cnames g.acts) f.dst)).Nodup:=by
  refine Vq.2 (List.Pairwise.imp_of_mem (fun {a b} ha hb hlt e=>?_) (Zra h.flA));have ha':=h.fl a ha;have hb':=h.fl b hb;have e1:=Zhf ha'.1 hb'.1 (congrArg Prod.fst e);have e2:=Zhf ha'.2 hb'.2 (congrArg Prod.snd e);rw [EG.2 ⟨e1,e2⟩] at hlt;omega
 have h2:=Zjp (n:=g.acts.length) h1 fun p hp=>by
  obtain ⟨f,hf,rfl⟩:=Xh.1 hp;exact ⟨h.ix (h.fl f hf).1,h.ix (h.fl f hf).2⟩
 rw [Xb] at h2
 have:=Nat.mul_le_mul h.n40 h.n40
 omega
theorem Zhg {g:Dfg} (h:GOk g) {l:List Cnt} (hin:∀c∈l,hasStr (cnames g.acts) c.name=true) (hA:chainB strLt (cnames l)=true):l.length≤g.acts.length:=by
 have h1:(l.map fun c=>((ixN (cnames g.acts) c.name:Nat):Int)).Nodup:=by
  have hp:=ZdB hA;unfold cnames at hp;refine Vq.2 (List.Pairwise.imp_of_mem (fun {a b} ha hb hlt e=>?_) (Vq.1 hp));have:=Zmb h.asc (hin a ha) (hin b hb) hlt;omega
 have h2:=Dd g.acts.length _ h1 fun s hs=>by
  obtain ⟨c,hc,rfl⟩:=Xh.1 hs;have:=h.ix (hin c hc);omega
 simpa using h2
section
variable {κ:Type} [DecidableEq κ]
def sumIf (p:κ→Bool) (m:List (κ×Int)):Int:=(m.map fun x=>if p x.1 then x.2 else 0).sum
def PosI (m:List (κ×Int)):Prop:=∀x∈m,1≤x.2
end
structure MInv (st:M4):Prop where
 na:∀x∈st.a.map (·.1),isName x=true
 pa:PosI st.a
 ps:PosI st.s
 pf:PosI st.f
 pq:PosI st.q
 ks:∀x∈st.s.map (·.1),x∈st.a.map (·.1)
 kf:∀x∈st.f.map (·.1),x∈st.a.map (·.1)
 kq:∀x∈st.q.map (·.1),x.1∈st.a.map (·.1)∧x.2∈st.a.map (·.1)
 fin:∀k,iget st.s k+sumIf (fun p:Pr=>decide (k=p.2)) st.q=iget st.a k
 fout:∀k,iget st.f k+sumIf (fun p:Pr=>decide (k=p.1)) st.q=iget st.a k
theorem Zrb {l:List Var} (h:validVars l=true):∀x∈l,K4 x=true:=fun x hx=>by
 obtain ⟨i,hi⟩:=XR hx
 exact RF h hi
theorem ZoX {l:List BA} {s:BA} (h:s∈l):hasStr l s=true:=Ey h
structure Ptn (n:Nat) (cs:List (List Int)):Prop where
 mem:∀x,x∈cs.flatten↔0≤x∧x<n
 nd:cs.flatten.Nodup
 ne:∀c∈cs,c≠[]
 asc:∀c∈cs,c.Pairwise (· < ·)
theorem Ptn.apart {n:Nat} {cs:List (List Int)} (h:Ptn n cs) {i j:Nat} {c d:List Int} (hc:cs[i]? =some c) (hd:cs[j]? =some d) {x:Int} (hx:x∈c) (hy:x∈d):i=j:=by
 have aux:∀{i j:Nat} {c d:List Int},i<j→cs[i]? =some c→cs[j]? =some d→x∈c→x∈d→False:=fun {i j c d} hij hc hd hx hy=>by
  have h1:=XS.1 (List.pairwise_flatten.1 h.nd).2 i j (Xr.1 hc).1 (Xr.1 hd).1 hij;rw [(Xr.1 hc).2,(Xr.1 hd).2] at h1;exact h1 x hx x hy rfl
 rcases VG i j with h1|h1|h1
 · exact (aux h1 hc hd hx hy).elim
 · exact h1
 · exact (aux h1 hd hc hy hx).elim
theorem Zju {n:Nat} {r:Int→Int→Bool} {cs:List (List Int)} (h:Comps (upTo n) r cs):Ptn n cs:=⟨fun x=>(h.mem x).trans K9,h.nd,h.ne,h.asc⟩
theorem ZdC {n:Nat} {cs ds:List (List Int)} (h:Ptn n cs) (hp:ds.Perm cs):Ptn n ds:=
 ⟨fun x=>(hp.flatten.mem_iff).trans (h.mem x),(hp.flatten.pairwise_iff fun h=>Ne.symm h).2 h.nd,fun c hc=>h.ne c (hp.mem_iff.1 hc),fun c hc=>h.asc c (hp.mem_iff.1 hc)⟩
theorem Hd {c:List Int} (h:c≠[]):hdI c∈c:=by
 cases c with
 |nil=>exact Qc rfl h
 |cons x c=>exact Xs ..
theorem ZoY {cl:List Int} (h:cl.Nodup):(cl.mergeSort fun x y=>decide (x≤y)).Pairwise (· < ·):=Zc4 h
theorem Zmc {α:Type} {ds A:List α} {x:α} (hp:ds.Perm (A++[x])) {c:α} (hc:c∈ds):c∈A∨c=x:=by
 have:=hp.mem_iff.1 hc
 rw [Xd,Xn] at this
 exact this
structure WordOk (l:List BA) (E:Nat→Nat→Bool) (S F:Nat→Bool) (w:List BA):Prop where
 mem:∀s∈w,s∈l
 e:∀(i:Nat) (a b:BA),w[i]? =some a→w[i+1]? =some b→E (ixN l a) (ixN l b)=true
 s:∀a,w[0]? =some a→S (ixN l a)=true
 f:∀a,w.getLast? =some a→F (ixN l a)=true
def psum (f:Int→List BA→Int) (ps:List Piece):Int:=(ps.map fun p=>f p.part p.word).sum
def PcOk (parts:List (List BA)) (w:List BA) (p:Piece):Prop:=0≤p.part∧p.part<parts.length∧p.word.length≤w.length∧∀s∈p.word,s∈w∧partOf parts s=p.part
def fLen (_:Int) (w:List BA):Int:=w.length
def fAt (i:Int) (k:Int) (_:List BA):Int:=if k=i then 1 else 0
def fOne (_:Int) (_:List BA):Int:=1
def fLoop (k:Int) (_:List BA):Int:=if k=0 then-1 else 1
structure Pcs (c:Cut) (w:List BA) (ps:List Piece):Prop where
 ok:∀p∈ps,PcOk c.parts w p
 len:psum fLen ps=w.length
 le:∀i,psum (fAt i) ps≤w.length
 one:c.kind=1→psum fOne ps=1
 all:(c.kind=2∨c.kind=3)→∀i:Nat,i<c.parts.length→psum (fAt i) ps=1
 loop:c.kind=4→psum fLoop ps= -1
def wtR (f:List BA→Int) (r:List Var):Int:=(r.map fun v=>v.count*f v.acts).sum
def wtO (f:Int→List BA→Int):Nat→List (List Var)→Int
 |_,[]=>0
 |k,r::rs=>wtR (f k) r+wtO f (k+1) rs
structure RowG (parts:List (List BA)) (k:Nat) (b:Int) (r:List Var):Prop where
 asc:r.Pairwise fun v w=>cmpStrs v.acts w.acts<0
 len:(r.length:Int)≤b
 ok:∀v∈r,v.acts.length≤200∧v.acts.all isName=true∧1≤v.count∧∀s∈v.acts,partOf parts s=k
theorem ζr {a b c:List BA} (h1:cmpStrs a b<0) (h2:cmpStrs b c<0):cmpStrs a c<0:=Qd (Td (U9 h1) (U9 h2))
def sumV (g:Var→Int) (l:List Var):Int:=(l.map g).sum
structure SplitG (l:List Var) (c:Cut) (out:List (List Var)):Prop where
 len:out.length=c.parts.length
 val:∀r∈out,bigVars r=false→validVars r=true
 inn:∀(k:Nat) (r:List Var),out[k]? =some r→∀v∈r,∀s∈v.acts,∃p,c.parts[k]? =some p∧s∈p
 wds:∀r∈out,∀v∈r,v.acts.length≤200∧1≤v.count
 few:∀r∈out,(r.length:Int)≤sumV (fun x=>x.acts.length) l
 tot:∀r∈out,wtR (fun _=>1) r≤sumV (fun x=>x.count*x.acts.length) l
 acts:wtO fLen 0 out=sumV (fun x=>x.count*x.acts.length) l
 one:c.kind=1→wtO fOne 0 out=sumV (fun x=>x.count*1) l
 all:(c.kind=2∨c.kind=3)→∀r∈out,wtR (fun _=>1) r=sumV (fun x=>x.count*1) l
 loop:c.kind=4→wtO fLoop 0 out=sumV (fun x=>x.count* -1) l
theorem ZfR (x y:BA):Z0 x y= -1∨Z0 x y=0∨Z0 x y=1:=by
 have:=Zif x y;omega
theorem R3 (x y:BA):(strLt x y=true∧strLt y x=false∧x≠y∧Z0 x y= -1∧Z0 y x=1)∨(x=y∧Z0 x y=0∧Z0 y x=0)∨(strLt y x=true∧strLt x y=false∧x≠y∧Z0 x y=1∧Z0 y x= -1):=by
 have hno:∀{a b:BA},strLt a b=true→strLt b a=false∧a≠b:=fun {a b} h=>by
  have h1:=Y2 a;have h2:=Y2 b;refine ⟨?_,fun e=>by subst e;rw [h] at h1;cases h1⟩
  cases h3:strLt b a with
  |false=>rfl
  |true=>rw [YY h h3] at h1;cases h1
 have heq:∀a:BA,Kv a a=true:=fun a=>KB.2 rfl
 have hne:∀{a b:BA},a≠b→Kv a b=false:=fun {a b} h=>by
  cases h1:Kv a b with
  |false=>rfl
  |true=>exact Qc (KB.1 h1) h
 unfold Z0
 cases h:strLt x y with
 | true=>
   obtain ⟨h1,h2⟩:=hno h;refine .inl ⟨rfl,h1,h2,sM,?_⟩;rw [h1,hne (Ne.symm h2)];rfl
 | false=>
   cases h':strLt y x with
   | true=>
     obtain ⟨h1,h2⟩:=hno h';refine .inr (.inr ⟨rfl,rfl,Ne.symm h2,?_,sM⟩);rw [hne (Ne.symm h2)];rfl
   | false=>
     have e:=Kw h h';subst e;refine .inr (.inl ⟨rfl,?_,?_⟩)<;>simp [heq]
theorem ZdD (x y:BA):Z0 y x= -Z0 x y:=by
 rcases R3 x y with ⟨_,_,_,h1,h2⟩|⟨_,h1,h2⟩|⟨_,_,_,h1,h2⟩<;>omega
theorem R4 (x y:BA):Z0 x y=0↔x=y:=by
 rcases R3 x y with ⟨_,_,h0,h1,h2⟩|⟨h0,h1,h2⟩|⟨_,_,h0,h1,h2⟩
 · exact ⟨fun h=>oM,fun h=>Qc h h0⟩
 · exact ⟨fun _=>h0,fun _=>h1⟩
 · exact ⟨fun h=>oM,fun h=>Qc h h0⟩
theorem H4 {x y:BA}:Z0 x y= -1↔strLt x y=true:=by
 rcases R3 x y with ⟨h0,_,_,h1,h2⟩|⟨h0,h1,h2⟩|⟨_,h0,_,h1,h2⟩
 · exact ⟨fun _=>h0,fun _=>h1⟩
 · subst h0;rw [Y2];exact ⟨fun h=>oM,fun h=>by cases h⟩
 · rw [h0];exact ⟨fun h=>oM,fun h=>by cases h⟩
theorem ZfS (x y z:BA) (h:Z0 x y= -1) (h':Z0 y z= -1):Z0 x z= -1:=H4.2 (YY (H4.1 h) (H4.1 h'))
inductive Nd where
 |mk (op:Int) (act:BA) (l:List Nd)
section
def Nd.op:Nd→Int
 | .mk o _ _=>o
def Nd.act:Nd→BA
 | .mk _ a _=>a
def Nd.l:Nd→List Nd
 | .mk _ _ l=>l
theorem Nd.ind {P:Nd→Prop} (h:∀o a l,(∀x∈l,P x)→P (.mk o a l)):∀t,P t:=fun t=>
 Nd.rec (motive_1:=P) (motive_2:=fun l=>∀x∈l,P x) (fun o a l ih=>h o a l ih) (fun _ hx=>by cases hx) (fun x l hx hl y hy=>by
  rcases Xk.1 hy with rfl|hy
  · exact hx
  · exact hl y hy) t
def LM (a b:Int):Int:=if a<b then-1 else if b<a then 1 else 0
def or3 (a b c:Int):Int:=if a≠0 then a else if b≠0 then b else c
mutual
def Kc:Nd→Nd→Int
 | .mk o a l, .mk o' a' l'=>or3 (LM o o') (Z0 a a') (JL l l')
def JL:List Nd→List Nd→Int
 |[],[]=>0
 |[],_::_=> -1
 |_::_,[]=>1
 |x::l,y::m=>if Kc x y≠0 then Kc x y else JL l m
end
theorem Zjv (a b:Int):LM a b= -1∨LM a b=0∨LM a b=1:=by unfold LM;split<;>(try split)<;>omega
theorem ZfT (a b:Int):LM b a= -LM a b:=by unfold LM;split<;>(try split)<;>(try split)<;>omega
theorem De (a b:Int):LM a b=0↔a=b:=by unfold LM;split<;>(try split)<;>omega
theorem Zmd (a b c:Int) (h:LM a b= -1) (h':LM b c= -1):LM a c= -1:=by
 unfold LM at*
 split at h
 · split at h'
   · rw [Qb oM]
   · split at h'<;>omega
 · split at h<;>omega
theorem ZoZ {a b c:Int} (ha:a= -1∨a=0∨a=1) (hb:b= -1∨b=0∨b=1) (hc:c= -1∨c=0∨c=1):or3 a b c= -1∨or3 a b c=0∨or3 a b c=1:=by unfold or3;split<;>(try split)<;>omega
theorem Zo0 (a b c:Int):or3 (-a) (-b) (-c)= -or3 a b c:=by unfold or3;split<;>split<;>(try split)<;>(try split)<;>omega
theorem Zme {a b c:Int}:or3 a b c=0↔a=0∧b=0∧c=0:=by unfold or3;split<;>(try split)<;>omega
theorem Zrc {a b c:Int}:or3 a b c= -1↔a= -1∨(a=0∧(b= -1∨(b=0∧c= -1))):=by unfold or3;split<;>(try split)<;>omega
theorem ZdE:∀(l:List Nd),(∀x∈l,∀y,Kc x y= -1∨Kc x y=0∨Kc x y=1)→∀m,JL l m= -1∨JL l m=0∨JL l m=1
 |[],_,m=>by cases m<;>simp [JL]
 | x ::l,h,m=>by
   cases m with
   |nil=>simp [JL]
   | cons y m=>
     rw [JL];split
     · exact h x (Xs ..) y
     · exact ZdE l (fun y hy=>h y (Xw _ hy)) m
theorem Za4:∀(l:List Nd),(∀x∈l,∀y,Kc y x= -Kc x y)→∀m,JL m l= -JL l m
 |[],_,m=>by cases m<;>simp [JL]
 | x ::l,h,m=>by
   cases m with
   |nil=>simp [JL]
   | cons y m=>
     rw [JL,JL,h x (Xs ..) y];have ih:=Za4 l (fun y hy=>h y (Xw _ hy)) m;by_cases h0:Kc x y=0
     · rw [Qa oM,Qa oM];exact ih
     · rw [Qb oM,Qb h0]
theorem Za5:∀(l:List Nd),(∀x∈l,∀y,Kc x y=0↔x=y)→∀m,JL l m=0↔l=m
 |[],_,m=>by cases m<;>simp [JL]
 | x :: l,h,m=>by
   cases m with
   |nil=>simp [JL]
   | cons y m=>
     rw [JL];have h1:=h x (Xs ..) y;have ih:=Za5 l (fun y hy=>h y (Xw _ hy)) m;by_cases h0:Kc x y=0
     · rw [Qa oM,ih,h1.1 h0];simp
     · rw [Qb h0];exact ⟨fun h=>Qc h h0,fun h=>Qc (h1.2 (List.cons.inj h).1) h0⟩
theorem PR:∀(x y:Nd),Kc x y= -1∨Kc x y=0∨Kc x y=1:=Nd.ind fun o a l ih y=>by
 obtain ⟨o',a',l'⟩:=y
 rw [Kc]
 exact ZoZ (Zjv _ _) (ZfR _ _) (ZdE l ih _)
theorem Za6:∀(x y:Nd),Kc y x= -Kc x y:=Nd.ind fun o a l ih y=>by
 obtain ⟨o',a',l'⟩:=y
 rw [Kc,Kc,ZfT,ZdD,Za4 l ih,Zo0]
theorem Gr:∀(x y:Nd),Kc x y=0↔x=y:=Nd.ind fun o a l ih y=>by
 obtain ⟨o',a',l'⟩:=y
 rw [Kc,Zme,De,R4,Za5 l ih]
 exact ⟨fun ⟨h1,h2,h3⟩=>by rw [h1,h2,h3],fun h=>by injection h with h1 h2 h3;exact ⟨h1,h2,h3⟩⟩
theorem Zhh :∀(l:List Nd),(∀x∈l,∀y z,Kc x y= -1→Kc y z= -1→Kc x z= -1)→∀m n,JL l m= -1→JL m n= -1→JL l n= -1
 | [],_,m,n,h1,h2=>by
   cases m with
   |nil=>rw [JL] at h1;omega
   | cons y m=>
     cases n with
     |nil=>rw [JL] at h2;omega
     |cons z n=>rw [JL]
 | x :: l, h,m,n,h1,h2=>by
   cases m with
   |nil=>rw [JL] at h1;omega
   | cons y m=>
     cases n with
     |nil=>rw [JL] at h2;omega
     | cons z n=>
       rw [JL] at h1 h2 ⊢;have ih:=Zhh l (fun y hy=>h y (Xw _ hy)) m n;by_cases h0:Kc x y=0
       · have e:=(Gr x y).1 h0;subst e;rw [Qa oM] at h1;by_cases h3:Kc x z=0
         · rw [Qa oM] at h2 ⊢;exact ih h1 h2
         · rw [Qb h3] at h2 ⊢;exact h2
       · rw [Qb h0] at h1;by_cases h3:Kc y z=0
         · have e:=(Gr y z).1 h3;subst e;rw [Qb oM];exact h1
         · rw [Qb h3] at h2;have:=h x (Xs ..) y z h1 h2;rw [Qb oM];exact this
theorem Zhi:∀(x y z:Nd),Kc x y= -1→Kc y z= -1→Kc x z= -1:=Nd.ind fun o a l ih y z h1 h2=>by
 obtain ⟨o',a',l'⟩:=y
 obtain ⟨o2,a2,l2⟩:=z
 rw [Kc,Zrc] at h1 h2 ⊢
 rcases h1 with h1|⟨e1,h1⟩
 · rcases h2 with h2|⟨e2,_⟩
   · exact .inl (Zmd _ _ _ h1 h2)
   · rw [←(De _ _).1 e2];exact .inl h1
 · rw [(De _ _).1 e1];rcases h2 with h2|⟨e2,h2⟩
   · exact .inl h2
   · refine .inr ⟨e2,?_⟩;rcases h1 with h1|⟨e1,h1⟩
     · rcases h2 with h2|⟨e2,_⟩
       · exact .inl (ZfS _ _ _ h1 h2)
       · rw [←(R4 _ _).1 e2];exact .inl h1
     · rw [(R4 _ _).1 e1];rcases h2 with h2|⟨e2,h2⟩
       · exact .inl h2
       · exact .inr ⟨e2,Zhh l ih _ _ h1 h2⟩
def leT (x y:Nd):Prop:=Kc x y≠1
theorem GM (x:Nd):leT x x:=by
 have:=(Gr x x).2 rfl
 unfold leT;omega
theorem ZdF {x y:Nd} (h:leT x y) (h':leT y x):x=y:=by
 unfold leT at*
 have:=Za6 x y
 have:=PR x y
 exact (Gr x y).1 oM
theorem Zhj {x y:Nd}:leT x y↔Kc x y= -1∨x=y:=by
 unfold leT
 have:=PR x y
 rw [←Gr x y];omega
theorem JO {x y z:Nd} (h:leT x y) (h':leT y z):leT x z:=by
 rw [Zhj] at*
 rcases h with h|rfl
 · rcases h' with h'|rfl
   · exact .inl (Zhi x y z h h')
   · exact .inl h
 · exact h'
theorem Zhk {x y:Nd}:¬Kc x y<0↔leT y x:=by
 unfold leT
 have:=Za6 x y
 have:=PR x y
 omega
end
section
mutual
def szT:Nd→Nat
 | .mk _ _ l=>1+szL l
def szL:List Nd→Nat
 |[]=>0
 |x::l=>szT x+szL l
end
mutual
def dpT:Nd→Nat
 | .mk _ _ l=>1+dpL l
def dpL:List Nd→Nat
 |[]=>0
 |x::l=>max (dpT x) (dpL l)
end
theorem Ss (l m:List Nd):szL (l++m)=szL l+szL m:=by
 induction l with
 |nil=>simp [szL]
 |cons x l ih=>rw [XV,szL,szL,ih,Vw]
theorem ζs {l:List Nd} {k:Nat} {x:Nd} (h:l[k]? =some x):szL (l.take (k+1))=szL (l.take k)+szT x:=by
 rw [List.take_add_one,h,Ss];simp [szL]
theorem Zhl (t:Nd):1≤szT t:=by cases t;rw [szT];omega
theorem Jh {l:List Nd} {x:Nd} (h:x∈l):szT x≤szL l:=by
 induction l with
 |nil=>cases h
 | cons y l ih=>
   rw [szL];rcases Xk.1 h with rfl|h
   · omega
   · have:=ih h;omega
theorem Zhm {l:List Nd} {x:Nd} (h:x∈l):dpT x≤dpL l:=by
 induction l with
 |nil=>cases h
 | cons y l ih=>
   rw [dpL];rcases Xk.1 h with rfl|h
   · omega
   · have:=ih h;omega
theorem Zrd {l:List Nd} {n:Nat}:dpL l≤n↔∀x∈l,dpT x≤n:=by
 induction l with
 |nil=>simp [dpL]
 |cons y l ih=>rw [dpL,Nat.max_le,ih];simp
def rightT (t:Nd):Bool:=
 if t.op=1 then t.l.isEmpty&&isName t.act else if t.op=2 then t.l.isEmpty&&decide (t.act=ByteArray.empty) else if t.op=3∨t.op=4∨t.op=5 then !t.l.isEmpty&&decide (t.act=ByteArray.empty)
 else if t.op=6 then decide (t.l.length=2)&&decide (t.act=ByteArray.empty) else false
mutual
def okT:Nd→Bool
 | .mk o a l=>rightT (.mk o a l)&&okL l
def okL:List Nd→Bool
 |[]=>true
 |x::l=>okT x&&okL l
end
theorem Zo1 {l:List Nd}:okL l=true↔∀x∈l,okT x=true:=by
 induction l with
 |nil=>simp [okL]
 |cons x l ih=>rw [okL,Xi,ih];simp
theorem Y3 {t:Nd}:okT t=true↔rightT t=true∧∀x∈t.l,okT x=true:=by
 obtain ⟨o,a,l⟩:=t
 rw [okT,Xi,Zo1];rfl
def LS (t:Nd) (most:Int) (d:Int):Bool:=okT t&&decide ((szT t:Int)≤most)&&decide (d+dpT t≤61)
theorem Zmf {t:Nd} {most d:Int} (h:most<1∨60<d∨rightT t=false):LS t most d=false:=by
 cases hm:LS t most d with
 |false=>rfl
 | true=>
   exfalso;unfold LS at hm;simp only [Xi,U8] at hm;obtain ⟨⟨h1,h2⟩,h3⟩:=hm;have h4:=Zhl t;have h5:1≤dpT t:=by cases t;rw [dpT];omega
   rcases h with h|h|h
   · omega
   · omega
   · rw [(Y3.1 h1).1] at h;cases h
theorem ZdG {t:Nd} {most d:Int} {k:Nat} {x:Nd} (hx:t.l[k]? =some x) (h:LS x (most-(1+szL (t.l.take k))) (d+1)=false):LS t most d=false:=by
 cases hm:LS t most d with
 |false=>rfl
 | true=>
   exfalso;unfold LS at hm h;simp only [Xi,U8] at hm;obtain ⟨⟨h1,h2⟩,h3⟩:=hm;have hmem:=Xc hx;have e1:=(Y3.1 h1).2 x hmem;have e2:szL t.l=szL (t.l.take k)+szL (t.l.drop k):=by rw [←Ss,X5]
   have e3:szT x≤szL (t.l.drop k):=Jh (Xc (show (t.l.drop k)[0]? =some x by rw [VJ];exact hx));have e4:szT t=1+szL t.l:=by cases t;rw [szT];rfl
   have e5:dpT t=1+dpL t.l:=by cases t;rw [dpT];rfl
   have e6:=Zhm hmem;rw [e1,U9 oM,U9 oM] at h
   cases h
theorem Zhn {t:Nd} {most d:Int} (hr:rightT t=true) (h1:1≤most) (h2:d≤60) (h:∀k x,t.l[k]? =some x→LS x (most-(1+szL (t.l.take k))) (d+1)=true):LS t most d=true:=by
 have e4:szT t=1+szL t.l:=by cases t;rw [szT];rfl
 have e5:dpT t=1+dpL t.l:=by cases t;rw [dpT];rfl
 unfold LS at h ⊢
 have key:∀k x,t.l[k]? =some x→okT x=true∧(szT x:Int)≤most-(1+szL (t.l.take k))∧d+1+dpT x≤61:=fun k x hx=>by
  have:=h k x hx;simp only [Xi,U8] at this;exact ⟨this.1.1,this.1.2,this.2⟩
 simp only [Xi,U8]
 refine ⟨⟨Y3.2 ⟨hr,fun x hx=>?_⟩,?_⟩,?_⟩
 · obtain ⟨k,hk⟩:=XR hx;exact (key k x hk).1
 · rw [e4];rcases hn:t.l.length with _|n
   · have:t.l=[]:=XB hn;rw [this];simp [szL];omega
   · obtain ⟨x,hx⟩:∃x,t.l[n]? =some x:=⟨_,Xx oM⟩;have e1:=(key n x hx).2.1;have e2:=ζs hx;rw [Xq (show t.l.length≤n+1 by omega)] at e2;omega
 · rw [e5];have:dpL t.l≤(60-d).toNat:=Zrd.2 fun x hx=>by
    obtain ⟨k,hk⟩:=XR hx;have:=(key k x hk).2.2;omega
   omega
def WH (t:Nd):Bool:=LS t 400 1
theorem JU {t:Nd} (h:WH t=true):okT t=true:=by unfold WH LS at h;simp only [Xi] at h;exact h.1.1
theorem R5 {t:Nd} (h:WH t=true):szT t≤400:=by unfold WH LS at h;simp only [Xi,U8] at h;omega
def ZdH (x:Nd):List Nd→List Nd
 |[]=>[x]
 |y::l=>if Kc y x<0 then y::ZdH x l else x::y::l
def ZbX (l:List Nd):List Nd:=l.foldl (fun m x=>ZdH x m) []
def TD:List Nd→List Nd
 |[]=>[]
 | x::l=>match l with
   |[]=>[x]
   |y::m=>if Kc x y=0 then TD (y::m) else x::TD (y::m)
abbrev AscT (l:List Nd):Prop:=l.Pairwise fun x y=>leT x y
abbrev StrT' (l:List Nd):Prop:=l.Pairwise fun x y=>Kc x y<0
theorem Zqp {x y:Nd} (h:Kc x y<0):leT x y:=by unfold leT;omega
theorem Zr3 {x y:Nd} (h:Kc x y<0):x≠y:=fun e=>by have:=(Gr x y).2 e;omega
theorem ζt {x y:Nd} (h:leT x y) (h':x≠y):Kc x y<0:=by
 rcases Zhj.1 h with h|h
 · omega
 · exact Qc h h'
theorem H5 (x:Nd):∀l,(ZdH x l).Perm (x::l)
 |[]=>List.Perm.refl _
 | y::l=>by
   rw [ZdH];split
   · exact ((H5 x l).cons y).trans (List.Perm.swap ..)
   · exact List.Perm.refl _
theorem ZdI (x:Nd):∀l,AscT l→AscT (ZdH x l)
 |[],_=>Vu ..
 | y ::l,h=>by
   rw [ZdH];obtain ⟨h1,h2⟩:=XL.1 h;split
   · rename_i hl;refine XL.2 ⟨fun z hz=>?_,ZdI x l h2⟩;rcases Xk.1 ((H5 x l).mem_iff.1 hz) with rfl|hz
     · exact Zqp hl
     · exact h1 z hz
   · rename_i hl;have hxy:leT x y:=Zhk.1 hl;refine XL.2 ⟨fun z hz=>?_,h⟩;rcases Xk.1 hz with rfl|hz
     · exact hxy
     · exact JO hxy (h1 z hz)
theorem ZdJ (l:List Nd):∀m,AscT m→AscT (l.foldl (fun m x=>ZdH x m) m)∧(l.foldl (fun m x=>ZdH x m) m).Perm (m++l):=by
 induction l with
 |nil=>intro m h;exact ⟨h,sM⟩
 | cons x l ih=>
   intro m h;rw [Vg];obtain ⟨h1,h2⟩:=ih _ (ZdI x m h);refine ⟨h1,h2.trans ?_⟩;exact ((H5 x m).append_right l).trans (by
    rw [XV];exact (List.perm_middle (l₁:=m) (a:=x) (l₂:=l)).symm)
theorem He (l:List Nd):AscT (ZbX l):=(ZdJ l [] List.Pairwise.nil).1
theorem Tm (l:List Nd):(ZbX l).Perm l:=by
 have:=(ZdJ l [] List.Pairwise.nil).2
 rwa [XQ] at this
theorem ZdK {l m:List Nd} (hl:AscT l) (hm:AscT m) (h:l.Perm m):l=m:=by
 exact List.Perm.eq_of_pairwise (fun a b _ _ h1 h2=>ZdF h1 h2) hl hm h
theorem Zo2 {l m:List Nd} (hm:AscT m) (h:m.Perm l):m=ZbX l:=ZdK hm (He l) (h.trans (Tm l).symm)
theorem Zho {l:List Nd} (h:StrT' l):AscT l:=h.imp fun h=>Zqp h
theorem Za7 {l:List Nd} (h:StrT' l):l.Nodup:=h.imp fun h=>Zr3 h
theorem ZdL {l m:List Nd} (hl:StrT' l) (hm:StrT' m) (h:∀z,z∈l↔z∈m):l=m:=
 ZdK (Zho hl) (Zho hm) ((U6 (Za7 hl) (Za7 hm)).2 h)
theorem LN:∀(l:List Nd) z,z∈TD l↔z∈l
 |[],z=>by simp [TD]
 |[x],z=>by simp [TD]
 | x ::y::m,z=>by
   rw [TD];split
   · rename_i h;rw [LN (y::m),(Gr x y).1 h];simp
   · rw [Xk,LN (y::m)];simp
theorem Su:∀(l:List Nd),AscT l→StrT' (TD l)
 |[],_=>List.Pairwise.nil
 |[x],_=>Vu ..
 | x ::y::m,h=>by
   rw [TD];obtain ⟨h1,h2⟩:=XL.1 h;split
   · exact Su (y::m) h2
   · rename_i hn;refine XL.2 ⟨fun z hz=>?_,Su (y::m) h2⟩;have hz':=(LN (y::m) z).1 hz;have hxz:=h1 z hz';refine ζt hxz fun e=>hn ?_;subst e;have hyx:leT y x:=by
      rcases Xk.1 hz' with h|h
      · rw [h];exact GM y
      · exact (XL.1 h2).1 _ h
     exact (Gr x y).2 (ZdF (h1 y (Xs ..)) hyx)
end
section
def ζ9:Nd:= .mk 2 ByteArray.empty []
def Ki (op:Int) (l:List Nd):List Nd:=l.flatMap fun x=>if x.op=op then x.l else if x.op≠2∨op=4 then [x] else []
def Zaa (op:Int):List Nd→Nd
 |[]=>ζ9
 |[x]=>x
 |x::y::l=> .mk op ByteArray.empty (x::y::l)
def Rm (op:Int) (p:List Nd):List Nd:=if op=3 then p else if op=4 then TD (ZbX p) else ZbX p
def Hf (op:Int) (l:List Nd):Nd:=Zaa op (Rm op (Ki op l))
def Gt (f s:Nd):Nd×Nd:=if f.op=6 then match f.l with
 |a::b::_=>(a,Hf 4 [b,s])
 |_=>(f,s) else (f,s)
def ZdM (p:Nd×Nd):Nd:=if p.1.op=2∧p.2.op=2 then ζ9 else .mk 6 ByteArray.empty [p.1,p.2]
def Zre:List Nd→Nd
 |f::s::_=>ZdM (Gt f s)
 |_=>ζ9
def Zab (o:Int) (a:BA) (l:List Nd):Nd:=if o=1∨o=2 then .mk o a [] else if o=6 then Zre l else Hf o l
mutual
def YF:Nd→Nd
 | .mk o a l=>Zab o a (JC l)
def JC:List Nd→List Nd
 |[]=>[]
 |x::l=>YF x::JC l
end
theorem E6 (l:List Nd):JC l=l.map YF:=by
 induction l with
 |nil=>rfl
 |cons x l ih=>rw [JC,ih];rfl
structure NfN (t:Nd):Prop where
 rt:rightT t=true
 two:t.op≠6→∀x∈t.l,2≤t.l.length∧x.op≠t.op
 ns:t.op=3∨t.op=5→∀x∈t.l,x.op≠2
 xo:t.op=4→StrT' t.l
 an:t.op=5→AscT t.l
 lp:t.op=6→∃a b,t.l=[a,b]∧a.op≠6∧¬(a.op=2∧b.op=2)
inductive NF:Nd→Prop
 |mk (t:Nd) (h:NfN t) (hp:∀x∈t.l,NF x):NF t
theorem NF.n {t:Nd}:NF t→NfN t
 | .mk _ h _=>h
theorem NF.p {t:Nd}:NF t→∀x∈t.l,NF x
 | .mk _ _ h=>h
theorem NF.ok {t:Nd}:NF t→okT t=true
 | .mk _ h hp=>Y3.2 ⟨h.rt,fun x hx=>NF.ok (hp x hx)⟩
theorem H6 {t:Nd} (h:rightT t=true):t.op=1∨t.op=2∨t.op=3∨t.op=4∨t.op=5∨t.op=6:=by
 unfold rightT at h
 by_cases h1:t.op=1
 · exact .inl h1
 · by_cases h2:t.op=2
   · exact .inr (.inl h2)
   · by_cases h3:t.op=3∨t.op=4∨t.op=5
     · omega
     · by_cases h4:t.op=6
       · omega
       · rw [Qa h1,Qa h2,Qa h3,Qa h4] at h;cases h
theorem Zjw:rightT ζ9=true:=by unfold rightT ζ9;simp [Nd.op,Nd.l,Nd.act]
theorem Zhp {t:Nd} (hr:rightT t=true) (hl:t.l=[]) (ho:t.op=1∨t.op=2):NF t:=
 .mk t ⟨hr,fun _ x hx=>by (rw [hl] at hx;cases hx),fun h=>oM,fun h=>oM,fun h=>oM,fun h=>oM⟩ fun x hx=>by rw [hl] at hx;cases hx
theorem Zmg:NF ζ9:=Zhp Zjw rfl (.inr rfl)
theorem Zo3 {op:Int} {l:List Nd} (hl:∀x∈l,NF x) (ho:op=3∨op=4∨op=5) {y:Nd} (hy:y∈Ki op l):NF y∧y.op≠op∧(op≠4→y.op≠2):=by
 unfold Ki at hy
 obtain ⟨x,hx,hy⟩:=X7.1 hy
 by_cases h1:x.op=op
 · rw [Qb h1] at hy;have hn:=(hl x hx).n;refine ⟨(hl x hx).p y hy,?_,fun h4=>hn.ns oM y hy⟩;rw [←h1];exact (hn.two oM y hy).2
 · rw [Qa h1] at hy;split at hy
   · rename_i h2;rw [Xn] at hy;subst hy;exact ⟨hl _ hx,h1,fun h4=>oM⟩
   · cases hy
theorem Zo4 {op:Int} {p:List Nd} {y:Nd}:y∈Rm op p↔y∈p:=by
 unfold Rm
 split
 · exact Iff.rfl
 · split
   · rw [LN,(Tm p).mem_iff]
   · rw [(Tm p).mem_iff]
theorem Zrf {op:Int} (ho:op=3∨op=4∨op=5) {p:List Nd} (hp:∀y∈p,NF y∧y.op≠op∧(op≠4→y.op≠2)) (h4:op=4→StrT' p) (h5:op=5→AscT p):NF (Zaa op p):=by
 match p,hp,h4,h5 with
 |[],_,_,_=>exact Zmg
 |[x],hp,_,_=>exact (hp x (Xs ..)).1
 | x::y::l,hp,h4,h5=>
   refine .mk _ ⟨?_,fun _ z hz=>⟨by simp [Zaa,Nd.l],(hp z hz).2.1⟩,fun h z hz=>(hp z hz).2.2 (by simp only [Zaa,Nd.op] at h;omega),fun h=>h4 h,fun h=>h5 h,fun h=>?_⟩ fun z hz=>(hp z hz).1
   · rcases ho with rfl|rfl|rfl<;>simp [rightT,Zaa,Nd.op,Nd.l,Nd.act]
   · simp only [Zaa,Nd.op] at h;omega
theorem Zhq {op:Int} (ho:op=3∨op=4∨op=5) {l:List Nd} (hl:∀x∈l,NF x):NF (Hf op l):=by
 refine Zrf ho (fun y hy=>Zo3 hl ho (Zo4.1 hy)) (fun h=>?_) (fun h=>?_)
 · subst h;unfold Rm;rw [Qa dC,Qb rfl];exact Su _ (He _)
 · subst h;unfold Rm;rw [Qa dC,Qa dC];exact He _
theorem Zo5 {p:Nd×Nd} (h1:NF p.1) (h2:NF p.2) (h6:p.1.op≠6):NF (ZdM p):=by
 unfold ZdM
 split
 · exact Zmg
 · rename_i h;refine .mk _ ⟨by simp [rightT,Nd.op,Nd.l,Nd.act],fun h=>Qc rfl h,fun h=>?_,fun h=>?_,fun h=>?_,fun _=>⟨_,_,rfl,h6,h⟩⟩ fun x hx=>?_
   · simp [Nd.op] at h
   · simp [Nd.op] at h
   · simp [Nd.op] at h
   · rcases Xk.1 hx with rfl|hx
     · exact h1
     · rcases Xk.1 hx with rfl|hx
       · exact h2
       · cases hx
theorem Zo6 {f s:Nd} (hf:NF f) (hs:NF s):NF (Gt f s).1∧NF (Gt f s).2∧(Gt f s).1.op≠6:=by
 unfold Gt
 by_cases h:f.op=6
 · rw [Qb h];obtain ⟨a,b,hl,ha,_⟩:=hf.n.lp h;rw [hl];have hp:=hf.p;rw [hl] at hp;have hb:=hp b sM;refine ⟨hp a sM,Zhq oM fun x hx=>?_,ha⟩;rcases Xk.1 hx with rfl|hx
   · exact hb
   · rw [Xn] at hx;subst hx;exact hs
 · rw [Qa h];exact ⟨hf,hs,h⟩
theorem Zrg:∀(t:Nd),okT t=true→NF (YF t):=Nd.ind fun o a l ih hok=>by
 obtain ⟨hr,hp⟩:=Y3.1 hok
 simp only [Nd.l] at hp
 have hl:∀x∈JC l,NF x:=fun x hx=>by
  rw [E6] at hx;obtain ⟨y,hy,rfl⟩:=Xh.1 hx;exact ih y hy (hp y hy)
 rw [YF]
 unfold Zab
 split
 · rename_i h;refine Zhp ?_ rfl h;unfold rightT at hr ⊢;rcases h with rfl|rfl
   · simp [Nd.op,Nd.l,Nd.act] at hr ⊢;exact hr.2
   · simp [Nd.op,Nd.l,Nd.act] at hr ⊢;exact hr.2
 · split
   · rename_i h1 h;subst h;have hlen:l.length=2:=by
      unfold rightT at hr;simp [Nd.op,Nd.l,Nd.act] at hr;exact Qd hr.1
     obtain ⟨x,y,rfl⟩:∃x y,l=[x,y]:=by
      match l,hlen with
      |[x,y],_=>exact ⟨x,y,rfl⟩
     rw [JC,JC,JC] at hl ⊢;obtain ⟨g1,g2,g3⟩:=Zo6 (hl (YF x) sM) (hl (YF y) sM);exact Zo5 g1 g2 g3
   · rename_i h1 h2;exact Zhq (by have:=H6 hr;simp only [Nd.op] at this;omega) hl
end
def mixW:List BA→List BA→List (List BA)
 |[],b=>[b]
 |x::a,[]=>[x::a]
 |x::a,y::b=>(mixW a (y::b)).map (x:: ·)++(mixW (x::a) b).map (y:: ·)
 termination_by a b=>a.length+b.length
def Gu (S T:List (List BA)):List (List BA):=S.flatMap fun a=>T.map (a++ ·)
def EU (S T:List (List BA)):List (List BA):=S.flatMap fun a=>T.flatMap (mixW a)
def BigW (S:List (List BA)):Prop:=(∃l:List (List BA),l.Nodup∧(∀w∈l,w∈S)∧300<l.length)∨∃w∈S,200<w.length
theorem BigW.map {S T:List (List BA)} (f:List BA→List BA) (hi:∀a b,f a=f b→a=b) (hl:∀a,a.length≤(f a).length) (hm:∀a∈S,f a∈T) (h:BigW S):BigW T:=by
 rcases h with ⟨l,hn,hs,hk⟩|⟨w,hw,hk⟩
 · refine .inl ⟨l.map f,?_,fun w hw=>?_,by rw [Xb];exact hk⟩
   · rw [Ui,Vq];exact (Ui.1 hn).imp fun hne e=>hne (hi _ _ e)
   · obtain ⟨a,ha,rfl⟩:=Xh.1 hw;exact hm a (hs a ha)
 · exact .inr ⟨f w,hm w hw,VY hk (hl w)⟩
theorem BigW.sub {S T:List (List BA)} (hm:∀a∈S,a∈T) (h:BigW S):BigW T:=h.map id (fun _ _ e=>e) (fun _=>Xe _) hm
theorem BigW.congr {S T:List (List BA)} (h:∀w,w∈S↔w∈T):BigW S↔BigW T:=⟨fun hb=>hb.sub fun a ha=>(h a).1 ha,fun hb=>hb.sub fun a ha=>(h a).2 ha⟩
theorem Wd {S T:List (List BA)} {w:List BA}:w∈Gu S T↔∃a∈S,∃b∈T,w=a++b:=by
 unfold Gu
 simp only [X7,Xh]
 constructor
 · rintro ⟨a,ha,b,hb,rfl⟩;exact ⟨a,ha,b,hb,rfl⟩
 · rintro ⟨a,ha,b,hb,rfl⟩;exact ⟨a,ha,b,hb,rfl⟩
theorem TE {S T:List (List BA)} {w:List BA}:w∈EU S T↔∃a∈S,∃b∈T,w∈mixW a b:=by
 unfold EU
 simp only [X7]
theorem BigW.cat_l {S T:List (List BA)} (hT:T≠[]) (h:BigW S):BigW (Gu S T):=by
 obtain ⟨b,hb⟩:=Vy T hT
 exact h.map (· ++b) (fun _ _ e=>UX e) (fun a=>sM) fun a ha=>Wd.2 ⟨a,ha,b,hb,rfl⟩
theorem BigW.cat_r {S T:List (List BA)} (hS:S≠[]) (h:BigW T):BigW (Gu S T):=by
 obtain ⟨a,ha⟩:=Vy S hS
 exact h.map (a++ ·) (fun _ _ e=>List.append_cancel_left e) (fun b=>sM) fun b hb=>Wd.2 ⟨a,ha,b,hb,rfl⟩
theorem J6 (a:List BA):mixW a []=[a]:=by cases a<;>rw [mixW]
theorem PS:∀(a b:List BA),a++b∈mixW a b
 |[],b=>by rw [mixW];simp
 |x::a,[]=>by rw [mixW];simp
 |x::a,y::b=>by rw [mixW];exact Xd.2 (.inl (Xh.2 ⟨_,PS a (y::b),rfl⟩))
theorem Df (c:List BA):∀(n:Nat) (a b w:List BA),a.length+b.length=n→w∈mixW a b→w++c∈mixW (a++c) b:=by
 intro n
 induction n using Nat.strongRecOn with
 | ind n ih=>
   intro a b w hn hw;match a,b with
   | [], b=>
     rw [mixW,Xn] at hw;subst hw;rw [XQ];clear ih hn;induction c with
     |nil=>rw [Xu];rw [mixW];simp
     | cons z c ihc=>
       clear ihc;have key:∀b:List BA,b++z::c∈mixW (z::c) b:=by
        intro b;induction b with
        |nil=>rw [mixW];simp
        |cons y b ihb=>rw [mixW];exact Xd.2 (.inr (Xh.2 ⟨_,ihb,rfl⟩))
       exact key _
   | x::a,[]=>
     rw [mixW,Xn] at hw;subst hw;rw [J6];simp
   | x ::a,y::b=>
     rw [mixW] at hw;rw [XV,mixW];rcases Xd.1 hw with h|h
     · obtain ⟨u,hu,rfl⟩:=Xh.1 h;exact Xd.2 (.inl (Xh.2 ⟨u++c,ih (a.length+(y::b).length) (by simp at hn ⊢;omega) a (y::b) u rfl hu,rfl⟩))
     · obtain ⟨u,hu,rfl⟩:=Xh.1 h;exact Xd.2 (.inr (Xh.2 ⟨u++c,ih ((x::a).length+b.length) (by simp at hn ⊢;omega) (x::a) b u rfl hu,rfl⟩))
theorem BigW.mix_l {S T:List (List BA)} (hT:T≠[]) (h:BigW S):BigW (EU S T):=by
 obtain ⟨b,hb⟩:=Vy T hT
 exact h.map (· ++b) (fun _ _ e=>UX e) (fun a=>sM) fun a ha=>TE.2 ⟨a,ha,b,hb,PS a b⟩
theorem BigW.mix_r {S T:List (List BA)} (hS:S≠[]) (h:BigW T):BigW (EU S T):=by
 obtain ⟨a,ha⟩:=Vy S hS
 exact h.map (a++ ·) (fun _ _ e=>List.append_cancel_left e) (fun b=>sM) fun b hb=>TE.2 ⟨a,ha,b,hb,PS a b⟩
theorem JD (x y:BA) (a b w:List BA):w∈mixW (x::a) (y::b)↔(∃u∈mixW a (y::b),w=x::u)∨∃u∈mixW (x::a) b,w=y::u:=by
 rw [mixW,Xd,Xh,Xh]
 constructor
 · rintro (⟨u,hu,rfl⟩|⟨u,hu,rfl⟩)
   · exact .inl ⟨u,hu,rfl⟩
   · exact .inr ⟨u,hu,rfl⟩
 · rintro (⟨u,hu,rfl⟩|⟨u,hu,rfl⟩)
   · exact .inl ⟨u,hu,rfl⟩
   · exact .inr ⟨u,hu,rfl⟩
theorem JE (b:List BA):mixW [] b=[b]:=by rw [mixW]
theorem Za8:∀(n:Nat) (a b w:List BA),a.length+b.length=n→w∈mixW a b→w∈mixW b a:=by
 intro n
 induction n using Nat.strongRecOn with
 | ind n ih=>
   intro a b w hn hw;match a,b with
   |[],b=>rw [J6];rw [JE] at hw;exact hw
   |x::a,[]=>rw [JE];rw [J6] at hw;exact hw
   | x::a,y::b=>
     rcases (JD _ _ _ _ _).1 hw with ⟨u,hu,rfl⟩|⟨u,hu,rfl⟩
     · exact (JD _ _ _ _ _).2 (.inr ⟨u,ih (a.length+(y::b).length) (by simp at hn ⊢;omega) a (y::b) u rfl hu,rfl⟩)
     · exact (JD _ _ _ _ _).2 (.inl ⟨u,ih ((x::a).length+b.length) (by simp at hn ⊢;omega) (x::a) b u rfl hu,rfl⟩)
theorem ζu (c a b w:List BA) (h:w∈mixW a b):w++c∈mixW a (b++c):=
 Za8 _ _ _ _ rfl (Df c _ b a w rfl (Za8 _ a b w rfl h))
theorem Zjx :∀(n:Nat) (a b:List BA) (x y:BA) (w:List BA),a.length+b.length=n→
 (w∈mixW (a++[x]) (b++[y])↔(∃u∈mixW a (b++[y]),w=u++[x])∨∃u∈mixW (a++[x]) b,w=u++[y]):=by
 intro n
 induction n using Nat.strongRecOn with
 | ind n ih =>
   intro a b x y w hn;constructor
   · intro hw;match a,b with
     | [],[]=>
       rcases (JD _ _ _ _ _).1 hw with ⟨u,hu,rfl⟩|⟨u,hu,rfl⟩
       · rw [JE,Xn] at hu;subst hu;exact .inr ⟨[x],by rw [XQ,J6];simp,rfl⟩
       · rw [J6,Xn] at hu;subst hu;exact .inl ⟨[y],by rw [JE];simp,rfl⟩
     | [], z::b=>
       rcases (JD _ _ _ _ _).1 hw with ⟨u,hu,rfl⟩|⟨u,hu,rfl⟩
       · rw [JE,Xn] at hu;subst hu;exact .inr ⟨x::z::b,PS [x] (z::b),rfl⟩
       · rcases (ih b.length (by simp at hn;omega) [] b x y u sM).1 hu with ⟨v,hv,rfl⟩|⟨v,hv,rfl⟩
         · rw [JE,Xn] at hv;subst hv;exact .inl ⟨z::(b++[y]),by rw [JE];simp,rfl⟩
         · exact .inr ⟨z::v,(JD x z [] b (z::v)).2 (.inr ⟨v,hv,rfl⟩),rfl⟩
     | z :: a,[]=>
       rcases (JD _ _ _ _ _).1 hw with ⟨u,hu,rfl⟩|⟨u,hu,rfl⟩
       · rcases (ih a.length (by simp at hn;omega) a [] x y u sM).1 hu with ⟨v,hv,rfl⟩|⟨v,hv,rfl⟩
         · exact .inl ⟨z::v,(JD z y a [] (z::v)).2 (.inl ⟨v,hv,rfl⟩),rfl⟩
         · rw [J6,Xn] at hv;subst hv;exact .inr ⟨z::(a++[x]),by rw [J6];simp,rfl⟩
       · rw [J6,Xn] at hu;subst hu;exact .inl ⟨y::z::a,(JD z y a [] _).2 (.inr ⟨z::a,by rw [J6];simp,rfl⟩),rfl⟩
     | z ::a,v::b=>
       rcases (JD _ _ _ _ _).1 hw with ⟨u,hu,rfl⟩|⟨u,hu,rfl⟩
       · rcases (ih (a.length+(v::b).length) (by simp at hn ⊢;omega) a (v::b) x y u rfl).1 hu with ⟨t,ht,rfl⟩|⟨t,ht,rfl⟩
         · exact .inl ⟨z::t,(JD z v a (b++[y]) (z::t)).2 (.inl ⟨t,ht,rfl⟩),rfl⟩
         · exact .inr ⟨z::t,(JD z v (a++[x]) b (z::t)).2 (.inl ⟨t,ht,rfl⟩),rfl⟩
       · rcases (ih ((z::a).length+b.length) (by simp at hn ⊢;omega) (z::a) b x y u rfl).1 hu with ⟨t,ht,rfl⟩|⟨t,ht,rfl⟩
         · exact .inl ⟨v::t,(JD z v a (b++[y]) (v::t)).2 (.inr ⟨t,ht,rfl⟩),rfl⟩
         · exact .inr ⟨v::t,(JD z v (a++[x]) b (v::t)).2 (.inr ⟨t,ht,rfl⟩),rfl⟩
   · rintro (⟨u,hu,rfl⟩|⟨u,hu,rfl⟩)
     · exact Df [x] _ a (b++[y]) u rfl hu
     · exact ζu [y] (a++[x]) b u hu
theorem Zjy (a b:List BA) (i j:Nat) (h:BigW (mixW (a.take i) (b.take j))):BigW (mixW a b):=by
 refine h.map (fun w=>(w++a.drop i)++b.drop j) (fun u v e=>UX (UX e)) (fun w=>by simp only [Xf];omega) fun w hw=>?_
 have h1:=Df (a.drop i) _ (a.take i) (b.take j) w rfl hw
 rw [X5] at h1
 have h2:=ζu (b.drop j) _ _ _ h1
 rw [X5] at h2
 exact h2
def ZdN (p q:List (List BA)):List (List BA):=Gu (Gu p q) p++p
def Jf (o:Int) (S p:List (List BA)):List (List BA):=if o=3 then Gu S p else EU S p
def ζv (o:Int) (ps:List (List (List BA))):List (List BA):=
 if o=4 then ps.flatten else if o=6 then ZdN (ps[0]?.getD []) (ps[1]?.getD []) else ps.foldl (Jf o) [[]]
mutual
def wT:Nd→List (List BA)
 | .mk o a l=>if o=1 then [[a]] else ζv o (wL l)
def wL:List Nd→List (List (List BA))
 |[]=>[]
 |x::l=>wT x::wL l
end
theorem R6 (l:List Nd):wL l=l.map wT:=by
 induction l with
 |nil=>rfl
 |cons x l ih=>rw [wL,ih];rfl
theorem Zr4 (t:Nd):wT t=if t.op=1 then [[t.act]] else ζv t.op (t.l.map wT):=by
 obtain ⟨o,a,l⟩:=t
 rw [wT,R6];rfl
mutual
def Ln:Nd→Bool
 | .mk o _ l=>decide (o=2)||ZfU l
def ZfU:List Nd→Bool
 |[]=>false
 |x::l=>Ln x||ZfU l
end
theorem Zmh {l:List Nd}:ZfU l=false↔∀x∈l,Ln x=false:=by
 induction l with
 |nil=>simp [ZfU]
 |cons x l ih=>rw [ZfU,Uc,ih];simp
theorem PT {t:Nd}:Ln t=false↔t.op≠2∧∀x∈t.l,Ln x=false:=by
 obtain ⟨o,a,l⟩:=t
 rw [Ln,Uc,Zmh]
 simp [Nd.op,Nd.l]
theorem Zo7 {S T:List (List BA)} (hS:S≠[]) (hT:T≠[]):Gu S T≠[]:=by
 obtain ⟨a,ha⟩:=Vy S hS
 obtain ⟨b,hb⟩:=Vy T hT
 exact List.ne_nil_of_mem (Wd.2 ⟨a,ha,b,hb,rfl⟩)
theorem Zo8 {S T:List (List BA)} (hS:S≠[]) (hT:T≠[]):EU S T≠[]:=by
 obtain ⟨a,ha⟩:=Vy S hS
 obtain ⟨b,hb⟩:=Vy T hT
 exact List.ne_nil_of_mem (TE.2 ⟨a,ha,b,hb,PS a b⟩)
theorem ZdO {o:Int} {S T:List (List BA)} (hS:S≠[]) (hT:T≠[]):Jf o S T≠[]:=by
 unfold Jf
 split
 · exact Zo7 hS hT
 · exact Zo8 hS hT
theorem BigW.step_l {o:Int} {S T:List (List BA)} (hT:T≠[]) (h:BigW S):BigW (Jf o S T):=by
 unfold Jf
 split
 · exact h.cat_l hT
 · exact h.mix_l hT
theorem BigW.step_r {o:Int} {S T:List (List BA)} (hS:S≠[]) (h:BigW T):BigW (Jf o S T):=by
 unfold Jf
 split
 · exact h.cat_r hS
 · exact h.mix_r hS
theorem ζw {o:Int}:∀{ps:List (List (List BA))} {S:List (List BA)},S≠[]→(∀p∈ps,p≠[])→ps.foldl (Jf o) S≠[]
 |[],S,hS,_=>hS
 |p::ps,S,hS,h=>ζw (ps:=ps) (ZdO hS (h p (Xs ..))) fun q hq=>h q (Xw _ hq)
theorem BigW.fold_l {o:Int}:∀{ps:List (List (List BA))} {S:List (List BA)},(∀p∈ps,p≠[])→BigW S→BigW (ps.foldl (Jf o) S)
 |[],S,_,h=>h
 |p::ps,S,hp,h=>BigW.fold_l (ps:=ps) (fun q hq=>hp q (Xw _ hq)) (h.step_l (hp p (Xs ..)))
theorem BigW.fold_r {o:Int}:∀{ps:List (List (List BA))} {S p:List (List BA)},S≠[]→(∀p∈ps,p≠[])→p∈ps→BigW p→BigW (ps.foldl (Jf o) S)
 |[],S,p,_,_,hm,_=>by cases hm
 | q::ps,S,p,hS,hp,hm,h=>by
   rcases Xk.1 hm with rfl|hm
   · exact BigW.fold_l (ps:=ps) (fun q hq=>hp q (Xw _ hq)) (h.step_r hS)
   · exact BigW.fold_r (ps:=ps) (ZdO hS (hp q (Xs ..))) (fun q hq=>hp q (Xw _ hq)) hm h
theorem J7 {t:Nd} (h:rightT t=true):t.op=1∧t.l=[]∨t.op=2∧t.l=[]∨(t.op=3∨t.op=4∨t.op=5)∧t.l≠[]∨t.op=6∧t.l.length=2:=by
 unfold rightT at h
 by_cases h1:t.op=1
 · rw [Qb h1,Xi] at h;exact .inl ⟨h1,UY.1 h.1⟩
 rw [Qa h1] at h
 by_cases h2:t.op=2
 · rw [Qb h2,Xi] at h;exact .inr (.inl ⟨h2,UY.1 h.1⟩)
 rw [Qa h2] at h
 by_cases h3:t.op=3∨t.op=4∨t.op=5
 · rw [Qb h3,Xi] at h;exact .inr (.inr (.inl ⟨h3,fun e=>by rw [e] at h;exact Bool.noConfusion h.1⟩))
 rw [Qa h3] at h
 by_cases h6:t.op=6
 · rw [Qb h6,Xi] at h;exact .inr (.inr (.inr ⟨h6,Qd h.1⟩))
 · rw [Qa h6] at h;exact Bool.noConfusion h
theorem Zhr:∀t:Nd,okT t=true→Ln t=false→wT t≠[]:=Nd.ind fun o a l ih hok hs=>by
 obtain ⟨hr,hp⟩:=Y3.1 hok
 obtain ⟨h2,hq⟩:=PT.1 hs
 simp only [Nd.op,Nd.l] at hp h2 hq
 have hne:∀p∈l.map wT,p≠[]:=fun p hp'=>by
  obtain ⟨x,hx,rfl⟩:=Xh.1 hp';exact ih x hx (hp x hx) (hq x hx)
 rw [wT,R6]
 rcases J7 hr with ⟨h,_⟩|⟨h,_⟩|⟨h,hl⟩|⟨h,hl⟩<;>simp only [Nd.op,Nd.l] at h
 · rw [Qb h];simp
 · exact Qc h h2
 · simp only [Nd.l] at hl;rw [Qa oM];unfold ζv;rcases (show o=4∨o=3∨o=5 by omega) with h|h|h
   · rw [Qb h];obtain ⟨x,hx⟩:=Vy l hl;obtain ⟨w,hw⟩:=Vy _ (ih x hx (hp x hx) (hq x hx));exact List.ne_nil_of_mem (Vb.2 ⟨_,Xh.2 ⟨x,hx,rfl⟩,hw⟩)
   · rw [Qa oM,Qa oM];exact ζw sM hne
   · rw [Qa oM,Qa oM];exact ζw sM hne
 · simp only [Nd.l] at hl;rw [Qa oM];unfold ζv;rw [Qa oM,Qb h];match l,hl,hne with
   | [x,y],_,hne=>
     have:=hne (wT x) sM;unfold ZdN;intro e;exact this (List.append_eq_nil_iff.1 e).2
theorem Zhs (t:Nd) (hok:okT t=true) (hs:Ln t=false) (x:Nd) (hx:x∈t.l) (hb:BigW (wT x)):BigW (wT t):=by
 obtain ⟨hr,hp⟩:=Y3.1 hok
 obtain ⟨h2,hq⟩:=PT.1 hs
 have hne:∀p∈t.l.map wT,p≠[]:=fun p hp'=>by
  obtain ⟨x,hx,rfl⟩:=Xh.1 hp';exact Zhr x (hp x hx) (hq x hx)
 have hxm:wT x∈t.l.map wT:=Xh.2 ⟨x,hx,rfl⟩
 rw [Zr4]
 rcases J7 hr with ⟨h,hl⟩|⟨h,hl⟩|⟨h,hl⟩|⟨h,hl⟩
 · rw [hl] at hx;cases hx
 · rw [hl] at hx;cases hx
 · rw [Qa oM];unfold ζv;rcases (show t.op=4∨t.op=3∨t.op=5 by omega) with h|h|h
   · rw [Qb h];exact hb.sub fun w hw=>Vb.2 ⟨_,hxm,hw⟩
   · rw [Qa oM,Qa oM];exact BigW.fold_r sM hne hxm hb
   · rw [Qa oM,Qa oM];exact BigW.fold_r sM hne hxm hb
 · rw [Qa oM];unfold ζv;rw [Qa oM,Qb h];generalize t.l=l at hx hne hxm hl;match l,hl,hx,hne with
   | [u,v],_,hx,hne=>
     have hu:=hne (wT u) sM;have hv:=hne (wT v) sM;show BigW (Gu (Gu (wT u) (wT v)) (wT u)++wT u);rcases Xk.1 hx with rfl|hx
     · exact hb.sub fun w hw=>Xd.2 (.inr hw)
     · (obtain rfl:x=v:=by simpa using hx);exact ((hb.cat_r hu).cat_l hu).sub fun w hw=>Xd.2 (.inl hw)
theorem Zht {a b:List BA} (h1:¬cmpStrs a b<0) (h2:cmpStrs a b≠0):cmpStrs b a<0:=by
 by_cases h3:cmpStrs b a<0
 · exact h3
 · exact Qc (YH.2 (Sb (U' h1) (U' h3))) h2
theorem PU (a:List BA):¬cmpStrs a a<0:=by rw [YH.2 rfl];decide
def TF (w:List BA):List (List BA)→List (List BA)
 |[]=>[w]
 |x::l=>if cmpStrs x w<0 then x::TF w l else if cmpStrs x w=0 then x::l else w::x::l
theorem Rn {w v:List BA}:∀{l:List (List BA)},v∈TF w l↔v=w∨v∈l
 |[]=>by rw [TF];simp
 | x :: l =>by
   rw [TF];split
   · rw [Xk,Rn (l:=l),Xk];constructor
     · rintro (h|h|h)
       · exact .inr (.inl h)
       · exact .inl h
       · exact .inr (.inr h)
     · rintro (h|h|h)
       · exact .inr (.inl h)
       · exact .inl h
       · exact .inr (.inr h)
   · split
     · rename_i hz;have e:=YH.1 hz;subst e;constructor
       · exact .inr
       · rintro (h|h)
         · subst h;exact Xs ..
         · exact h
     · rw [Xk]
theorem ζx {w:List BA}:∀{l:List (List BA)},(l.Pairwise fun a b=>cmpStrs a b<0)→(TF w l).Pairwise fun a b=>cmpStrs a b<0
 |[],_=>by rw [TF];exact Vu _ _
 | x :: l,h=>by
   have h1:=XL.1 h;rw [TF];split
   · rename_i hx;refine XL.2 ⟨fun v hv=>?_,ζx h1.2⟩;rcases Rn.1 hv with hv|hv
     · rw [hv];exact hx
     · exact h1.1 v hv
   · rename_i hx;split
     · exact h
     · rename_i hz;have hlt:=Zht hx hz;refine XL.2 ⟨fun v hv=>?_,h⟩;rcases Xk.1 hv with rfl|hv
       · exact hlt
       · exact ζr hlt (h1.1 v hv)
theorem ZfV {l:List (List BA)} (h:l.Pairwise fun a b=>cmpStrs a b<0):l.Nodup:=
 h.imp fun {a b} hab e=>by rw [e] at hab;exact PU b hab
theorem Za9:∀{l m:List (List BA)},(l.Pairwise fun a b=>cmpStrs a b<0)→(m.Pairwise fun a b=>cmpStrs a b<0)→(∀w,w∈l↔w∈m)→l=m
 |[],[],_,_,_=>rfl
 |[],y::m,_,_,h=>by have:=(h y).2 (Xs ..);cases this
 |x::l,[],_,_,h=>by have:=(h x).1 (Xs ..);cases this
 | x ::l,y::m,hl,hm,h=>by
   have h1:=XL.1 hl;have h2:=XL.1 hm;have e:x=y:=by
    rcases Xk.1 ((h x).1 (Xs ..)) with e|hx
    · exact e
    · rcases Xk.1 ((h y).2 (Xs ..)) with e|hy
      · exact e.symm
      · exact Qc (ζr (h1.1 y hy) (h2.1 x hx)) (PU x)
   subst e;rw [Za9 h1.2 h2.2 fun w=>⟨fun hw=>?_,fun hw=>?_⟩]
   · rcases Xk.1 ((h w).1 (Xw _ hw)) with e|hw'
     · subst e;exact Qc (h1.1 w hw) (PU w)
     · exact hw'
   · rcases Xk.1 ((h w).2 (Xw _ hw)) with e|hw'
     · subst e;exact Qc (h2.1 w hw) (PU w)
     · exact hw'
def Zac (l:List (List BA)) (w:List BA):Bool:=l.any fun v=>decide (cmpStrs v w=0)
theorem TG {l:List (List BA)} {w:List BA}:Zac l w=true↔w∈l:=by
 unfold Zac
 rw [X4]
 constructor
 · rintro ⟨v,hv,e⟩;rw [←YH.1 (Qd e)];exact hv
 · exact fun h=>⟨w,h,U9 (YH.2 rfl)⟩
def SetR (S:List (List BA)) (x:List (List BA)×Bool):Prop:=
 x.2=true∧BigW S∨x.2=false∧(x.1.Pairwise fun a b=>cmpStrs a b<0)∧(∀w,w∈x.1↔w∈S)∧¬BigW S
def Kg (x:List (List BA)×Bool) (w:List BA):List (List BA)×Bool:=
 if x.2 then x else if Zac x.1 w then x else (TF w x.1,decide (300<(TF w x.1).length)||decide (200<w.length))
theorem ZdP {l:List (List BA)} (h:l.Pairwise fun a b=>cmpStrs a b<0):BigW l↔300<l.length∨∃w∈l,200<w.length:=by
 constructor
 · rintro (⟨m,hn,hs,hk⟩|h)
   · exact .inl (VY hk (@Gk _ instBEqOfDecidableEq inferInstance _ _ hn hs))
   · exact .inr h
 · rintro (h1|h1)
   · exact .inl ⟨l,ZfV h,fun _ h=>h,h1⟩
   · exact .inr h1
theorem SetR.put {S:List (List BA)} {x:List (List BA)×Bool} (h:SetR S x) (w:List BA):SetR (S++[w]) (Kg x w):=by
 obtain ⟨l,bad⟩:=x
 rcases h with ⟨h1,hb⟩|⟨h1,ha,hm,hb⟩<;>simp only at h1<;>subst h1
 · exact .inl ⟨by simp [Kg],hb.sub fun a ha=>Xd.2 (.inl ha)⟩
 · simp only at ha hm;by_cases hw:w∈l
   · (have e:Kg (l,false) w=(l,false):=by simp [Kg,TG.2 hw]);rw [e];have hc:∀v,v∈S++[w]↔v∈S:=fun v=>by
      rw [Xd,Xn];exact ⟨fun h=>h.elim id fun h=>by subst h;exact (hm v).1 hw, .inl⟩
     exact .inr ⟨rfl,ha,fun v=>(hm v).trans (hc v).symm,fun h=>hb ((BigW.congr hc).1 h)⟩
   · (have e:Kg (l,false) w=(TF w l,decide (300<(TF w l).length)||decide (200<w.length)):=by simp [Kg,VN.2 (fun h=>hw (TG.1 h):Zac l w≠true)]);rw [e];have hc:∀v,v∈TF w l↔v∈S++[w]:=fun v=>by
      rw [Rn,Xd,Xn,hm v];exact Or.comm
     have hA:=ζx (w:=w) ha;have hB:BigW (S++[w])↔300<(TF w l).length∨200<w.length:=by
      rw [←BigW.congr hc,ZdP hA];refine or_congr Iff.rfl ⟨fun ⟨v,hv,hk⟩=>?_,fun hk=>⟨w,Rn.2 (.inl rfl),hk⟩⟩;rcases Rn.1 hv with rfl|hv
      · exact hk
      · exact Qc (.inr ⟨v,(hm v).1 hv,hk⟩) hb
     by_cases hbig:300<(TF w l).length∨200<w.length
     · refine .inl ⟨?_,hB.2 hbig⟩;show (decide (300<(TF w l).length)||decide (200<w.length))=true;rcases hbig with h|h
       · rw [U9 h];rfl
       · rw [U9 h,Bool.or_true]
     · refine .inr ⟨?_,hA,hc,fun h=>hbig (hB.1 h)⟩;show (decide (300<(TF w l).length)||decide (200<w.length))=false;rw [U' fun h=>hbig (.inl h),U' fun h=>hbig (.inr h)];rfl
theorem SetR.nil:SetR [] ([],false):= .inr ⟨rfl, .nil,fun _=>Iff.rfl,by rintro (⟨l,_,hs,hk⟩|⟨w,hw,_⟩)<;>first|(cases l with|nil=>simp at hk|cons a l=>exact Qc (hs a (Xs ..)) sM)|cases hw⟩
theorem Zmi {x:List (List BA)×Bool} (h:x.2=true) (w:List BA):Kg x w=x:=by unfold Kg;rw [Qb h]
theorem On:∀(ws:List (List BA)) {x:List (List BA)×Bool},x.2=true→ws.foldl Kg x=x
 |[],_,_=>rfl
 |w::ws,x,h=>by rw [Vg,Zmi h,On ws h]
theorem SetR.puts:∀(ws:List (List BA)) {S:List (List BA)} {x:List (List BA)×Bool},SetR S x→SetR (S++ws) (ws.foldl Kg x)
 |[],S,x,h=>by rw [Xu];exact h
 | w::ws,S,x,h=>by
   have:=SetR.puts ws (h.put w);rw [XA] at this;exact this
theorem SetR.congr {S T:List (List BA)} {x:List (List BA)×Bool} (hc:∀w,w∈S↔w∈T) (h:SetR S x):SetR T x:=by
 rcases h with ⟨h1,h2⟩|⟨h1,h2,h3,h4⟩
 · exact .inl ⟨h1,(BigW.congr hc).1 h2⟩
 · exact .inr ⟨h1,h2,fun w=>(h3 w).trans (hc w),fun h=>h4 ((BigW.congr hc).2 h)⟩
def Ro (x:List (List BA)×Bool) (first:List BA):List BA→List BA→List (List BA)×Bool
 |[],b=>Kg x (first++b)
 |u::a,[]=>Kg x (first++(u::a))
 |u::a,v::b=>if x.2 then x else Ro (Ro x (first++[u]) a (v::b)) (first++[v]) (u::a) b
 termination_by a b=>a.length+b.length
theorem E7:∀(n:Nat) (a b first:List BA) (x:List (List BA)×Bool),a.length+b.length=n→Ro x first a b=((mixW a b).map (first++ ·)).foldl Kg x:=by
 intro n
 induction n using Nat.strongRecOn with
 | ind n ih=>
   intro a b first x hn
   match a,b with
   |[],b=>rw [Ro,mixW];rfl
   |u::a,[]=>rw [Ro,mixW];rfl
   | u ::a,v::b=>
     rw [Ro,mixW];by_cases h:x.2=true
     · rw [Qb h,On _ h]
     · rw [Qa h,ih (a.length+(v::b).length) (by simp at hn ⊢;omega) a (v::b) _ _ rfl,ih ((u::a).length+b.length) (by simp at hn ⊢;omega) (u::a) b _ _ rfl,XC,Vp,Xt,Xt];(have e1:((first++ ·)∘(u:: ·):List BA→List BA)=fun w=>(first++[u])++w:=by funext w;simp);(have e2:((first++ ·)∘(v:: ·):List BA→List BA)=fun w=>(first++[v])++w:=by funext w;simp);rw [e1,e2]
def JM (o:Int) (out p:List (List BA)×Bool):List (List BA)×Bool:=
 if o=4 then p.1.foldl Kg out
 else if o=3 then (out.1.flatMap fun a=>p.1.map fun b=>a++b).foldl Kg ([],false)
 else (out.1.flatMap fun a=>p.1.flatMap fun b=>mixW a b).foldl Kg ([],false)
theorem Zjz {S P:List (List BA)} {out p:List (List BA)×Bool} (h:SetR S out) (hp:SetR P p) (hn:p.2=false):SetR (S++P) (JM 4 out p):=by
 unfold JM
 rw [Qb rfl]
 rcases hp with ⟨h1,_⟩|⟨_,_,hm,_⟩
 · rw [hn] at h1;cases h1
 · exact (SetR.puts p.1 h).congr fun w=>by rw [Xd,Xd,hm w]
theorem ZfW {o:Int} (ho:o=3∨o=5) {S P:List (List BA)} {out p:List (List BA)×Bool} (h:SetR S out) (hn:out.2=false) (hp:SetR P p) (hq:p.2=false):SetR (Jf o S P) (JM o out p):=by
 rcases hp with ⟨h1,_⟩|⟨_,_,hm,_⟩
 · rw [hq] at h1;cases h1
 rcases h with ⟨h1,_⟩|⟨_,_,hl,_⟩
 · rw [hn] at h1;cases h1
 unfold JM Jf
 rw [Qa (show ¬o=4 by omega)]
 by_cases h4:o=3
 · rw [Qb h4,Qb h4];refine (SetR.puts _ SetR.nil).congr fun w=>?_;rw [XQ,Wd];simp only [X7,Xh];constructor
   · rintro ⟨a,ha,b,hb,rfl⟩;exact ⟨a,(hl a).1 ha,b,(hm b).1 hb,rfl⟩
   · rintro ⟨a,ha,b,hb,rfl⟩;exact ⟨a,(hl a).2 ha,b,(hm b).2 hb,rfl⟩
 · rw [Qa h4,Qa h4];refine (SetR.puts _ SetR.nil).congr fun w=>?_;rw [XQ,TE];simp only [X7];constructor
   · rintro ⟨a,ha,b,hb,hw⟩;exact ⟨a,(hl a).1 ha,b,(hm b).1 hb,hw⟩
   · rintro ⟨a,ha,b,hb,hw⟩;exact ⟨a,(hl a).2 ha,b,(hm b).2 hb,hw⟩
def Zmj (p q:List (List BA)):List (List BA):=p.flatMap fun a=>a::q.flatMap fun k=>p.map fun j=>(a++k)++j
def ζy (o:Int) (ps:List (List (List BA)×Bool)):List (List BA)×Bool:=
 if o=6 then (Zmj (ps[0]?.getD ([],false)).1 (ps[1]?.getD ([],false)).1).foldl Kg ([],false)
 else (ps.drop 1).foldl (fun out p=>if out.2 then out else JM o out p) (ps[0]?.getD ([],false))
def goX (o:Int) (ps:List (List (List BA)×Bool)):List (List BA)×Bool:=(ps.find? fun p=>p.2).getD (ζy o ps)
mutual
def Z3:Nd→List (List BA)×Bool
 | .mk o a l=>if o=1 then ([[a]],false) else goX o (Zo9 l)
def Zo9:List Nd→List (List (List BA)×Bool)
 |[]=>[]
 |x::l=>Z3 x::Zo9 l
end
theorem Hg (l:List Nd):Zo9 l=l.map Z3:=by
 induction l with
 |nil=>rfl
 |cons x l ih=>rw [Zo9,ih];rfl
theorem Zmk (S:List (List BA)):Gu [[]] S=S:=by simp [Gu]
theorem Zml (S:List (List BA)):EU [[]] S=S:=by
 have e:mixW []=fun b=>[b]:=by funext b;rw [mixW]
 simp [EU,e]
theorem ZjA (o:Int) (S:List (List BA)):Jf o [[]] S=S:=by
 unfold Jf
 split
 · exact Zmk S
 · exact Zml S
theorem SetR.big {S T:List (List BA)} {x:List (List BA)×Bool} (h:SetR S x) (hb:x.2=true) (hs:BigW S→BigW T):SetR T x:=by
 rcases h with ⟨h1,h2⟩|⟨h1,_⟩
 · exact .inl ⟨h1,hs h2⟩
 · rw [hb] at h1;cases h1
theorem Oo {o:Int}:∀(ps:List (List (List BA)×Bool)) {out:List (List BA)×Bool},out.2=true→ps.foldl (fun out p=>if out.2 then out else JM o out p) out=out
 |[],_,_=>rfl
 |p::ps,out,h=>by rw [Vg,Qb h,Oo ps h]
theorem Zba:∀(l:List Nd) {S:List (List BA)} {out:List (List BA)×Bool},SetR S out→(∀x∈l,SetR (wT x) (Z3 x)∧(Z3 x).2=false)→
 SetR (S++(l.map wT).flatten) ((l.map Z3).foldl (fun out p=>if out.2 then out else JM 4 out p) out)
 |[],S,out,h,_=>by simpa using h
 | x ::l,S,out,h,hl=>by
   rw [Xj,Xj,Vg,XW,←XA];obtain ⟨h1,h2⟩:=hl x (Xs ..);by_cases hb:out.2=true
   · rw [Qb hb,Oo _ hb];exact h.big hb fun hB=>hB.sub fun w hw=>Xd.2 (.inl (Xd.2 (.inl hw)))
   · rw [Qa hb];exact Zba l (Zjz h h1 h2) fun y hy=>hl y (Xw _ hy)
theorem ζz {o:Int} (ho:o=3∨o=5):∀(l:List Nd) {S:List (List BA)} {out:List (List BA)×Bool},SetR S out→(∀x∈l,(SetR (wT x) (Z3 x)∧(Z3 x).2=false)∧wT x≠[])→
 SetR ((l.map wT).foldl (Jf o) S) ((l.map Z3).foldl (fun out p=>if out.2 then out else JM o out p) out)
 |[],S,out,h,_=>h
 | x ::l,S,out,h,hl=>by
   rw [Xj,Xj,Vg,Vg];obtain ⟨⟨h1,h2⟩,h3⟩:=hl x (Xs ..);by_cases hb:out.2=true
   · rw [Qb hb,Oo _ hb];refine h.big hb fun hB=>BigW.fold_l (fun p hp=>?_) (hB.step_l h3);obtain ⟨y,hy,rfl⟩:=Xh.1 hp;exact (hl y (Xw _ hy)).2
   · rw [Qa hb];exact ζz ho l (ZfW ho h (VN.2 hb) h1 h2) fun y hy=>hl y (Xw _ hy)
theorem ZbY:∀t:Nd,okT t=true→Ln t=false→SetR (wT t) (Z3 t):=Nd.ind fun o a l ih hok hs=>by
 have hpart:=Zhs (.mk o a l) hok hs
 obtain ⟨hr,hp⟩:=Y3.1 hok
 obtain ⟨h2,hq⟩:=PT.1 hs
 simp only [Nd.op,Nd.l] at hp h2 hq hpart
 have hS:∀x∈l,SetR (wT x) (Z3 x):=fun x hx=>ih x hx (hp x hx) (hq x hx)
 have hne:∀x∈l,wT x≠[]:=fun x hx=>Zhr x (hp x hx) (hq x hx)
 rw [Z3,Hg]
 by_cases h1:o=1
 · rw [Qb h1,wT,Qb h1];refine .inr ⟨rfl,Vu _ _,fun _=>Iff.rfl,fun hb=>?_⟩;rcases (ZdP (l:=[[a]]) (Vu _ _)).1 hb with h|⟨w,hw,h⟩
   · simp at h
   · rw [Xn] at hw;subst hw;simp at h
 rw [Qa h1]
 unfold goX
 cases hf:(l.map Z3).find? fun p=>p.2 with
 | some p=>
   have hpb:p.2=true:=by have:=List.find?_some hf;exact this
   obtain ⟨x,hx,rfl⟩:=Xh.1 (List.mem_of_find?_eq_some hf);exact (hS x hx).big hpb (hpart x hx)
 | none =>
   have hnb:∀x∈l,SetR (wT x) (Z3 x)∧(Z3 x).2=false:=fun x hx=>⟨hS x hx,by
    have:=List.find?_eq_none.1 hf (Z3 x) (Xh.2 ⟨x,hx,rfl⟩);exact VN.2 this⟩
   rw [Option.getD_none,wT,R6,Qa h1];rcases J7 hr with ⟨h,_⟩|⟨h,_⟩|⟨h,hl⟩|⟨h,hl⟩<;>simp only [Nd.op,Nd.l] at h
   · exact Qc h h1
   · exact Qc h h2
   · simp only [Nd.l] at hl
     cases l with
     |nil=>exact Qc rfl hl
     | cons x l=>
       have hx:=hnb x (Xs ..);have hr':∀y∈l,SetR (wT y) (Z3 y)∧(Z3 y).2=false:=fun y hy=>hnb y (Xw _ hy);unfold ζy ζv;rw [Qa (show ¬o=6 by omega),Qa (show ¬o=6 by omega)];by_cases h3:o=4
       · subst h3;rw [Qb rfl];exact Zba l hx.1 hr'
       · rw [Qa h3,Xj,Vg,ZjA];exact ζz oM l hx.1 fun y hy=>⟨hr' y hy,hne y (Xw _ hy)⟩
   · simp only [Nd.l] at hl;match l,hl,hnb with
     | [u,v],_,hnb=>
       obtain ⟨hu,hu2⟩:=hnb u sM;obtain ⟨hv,hv2⟩:=hnb v sM;unfold ζy ζv;rw [Qb h,Qa (show ¬o=4 by omega),Qb h];rcases hu with ⟨e,_⟩|⟨_,_,hum,_⟩
       · rw [hu2] at e;cases e
       rcases hv with ⟨e,_⟩|⟨_,_,hvm,_⟩
       · rw [hv2] at e;cases e
       refine (SetR.puts _ SetR.nil).congr fun w=>?_;show w∈[]++Zmj (Z3 u).1 (Z3 v).1↔w∈ZdN (wT u) (wT v);rw [XQ];unfold Zmj ZdN;rw [Xd,Wd];simp only [X7,Xk,Xh,Wd];constructor
       · rintro ⟨a,ha,rfl|⟨k,hk,j,hj,rfl⟩⟩
         · exact .inr ((hum _).1 ha)
         · exact .inl ⟨_,⟨a,(hum _).1 ha,k,(hvm _).1 hk,rfl⟩,j,(hum _).1 hj,rfl⟩
       · rintro (⟨_,⟨a,ha,k,hk,rfl⟩,j,hj,rfl⟩|hw)
         · exact ⟨a,(hum _).2 ha, .inr ⟨k,(hvm _).2 hk,j,(hum _).2 hj,rfl⟩⟩
         · exact ⟨w,(hum _).2 hw, .inl rfl⟩
theorem Sv {l:List (List BA)} (h:l.Nodup):BigW l↔300<l.length∨∃w∈l,200<w.length:=by
 constructor
 · rintro (⟨m,hn,hs,hk⟩|h)
   · exact .inl (VY hk (@Gk _ instBEqOfDecidableEq inferInstance _ _ hn hs))
   · exact .inr h
 · rintro (h1|h1)
   · exact .inl ⟨l,h,fun _ h=>h,h1⟩
   · exact .inr h1
def S5 (l:List (List BA)) (w:List BA):List (List BA):=if Zac l w then l else l++[w]
theorem PW {l:List (List BA)} {w v:List BA}:v∈S5 l w↔v∈l++[w]:=by
 unfold S5
 by_cases h:Zac l w=true
 · rw [Qb h,Xd,Xn];exact ⟨.inl,fun hv=>hv.elim id fun e=>by subst e;exact TG.1 h⟩
 · rw [Qa h]
theorem ζA {l:List (List BA)} {w:List BA} (h:l.Nodup):(S5 l w).Nodup:=by
 unfold S5
 by_cases hw:Zac l w=true
 · rw [Qb hw];exact h
 · rw [Qa hw,VB];refine ⟨h,Vu _ _,fun a ha b hb e=>?_⟩;rw [Xn] at hb;subst hb;subst e;exact hw (TG.2 ha)
structure SetM (S ws:List (List BA)):Prop where
 nd:ws.Nodup
 mem:∀w,w∈ws↔w∈S
 small:¬BigW S
theorem SetM.nil:SetM [] []:=⟨.nil,fun _=>Iff.rfl,fun h=>by
 rcases (Sv (l:=[]) .nil).1 h with h|⟨w,hw,_⟩
 · simp at h
 · cases hw⟩
theorem SetM.congr {S T ws:List (List BA)} (hc:∀w,w∈S↔w∈T) (h:SetM S ws):SetM T ws:=⟨h.nd,fun w=>(h.mem w).trans (hc w),fun hb=>h.small ((BigW.congr hc).2 hb)⟩
theorem SetM.big {S ws:List (List BA)} (h:SetM S ws) (w:List BA):BigW (S++[w])↔300<(S5 ws w).length∨200<w.length:=by
 have hc:∀v,v∈S5 ws w↔v∈S++[w]:=fun v=>by rw [PW,Xd,Xd,h.mem v]
 rw [←BigW.congr hc,Sv (ζA h.nd)]
 refine or_congr Iff.rfl ⟨fun ⟨v,hv,hk⟩=>?_,fun hk=>⟨w,PW.2 (Xd.2 (.inr (Xn.2 rfl))),hk⟩⟩
 rcases Xd.1 (PW.1 hv) with hv|hv
 · exact Qc (.inr ⟨v,(h.mem v).1 hv,hk⟩) h.small
 · rw [Xn] at hv;rw [←hv];exact hk
theorem SetM.add {S ws:List (List BA)} (h:SetM S ws) {w:List BA} (h1:(S5 ws w).length≤300) (h2:w.length≤200):SetM (S++[w]) (S5 ws w):=
 ⟨ζA h.nd,fun v=>by rw [PW,Xd,Xd,h.mem v],fun hb=>by have:=(h.big w).1 hb;omega⟩
theorem SetM.not {S ws:List (List BA)} (h:SetM S ws) {w:List BA} (h1:¬((S5 ws w).length≤300∧w.length≤200)):BigW (S++[w]):=(h.big w).2 oM
theorem SetM.sorted {S ws l:List (List BA)} {x:List (List BA)×Bool} (h:SetM S ws) (hp:l.Perm ws) (hl:l.Pairwise fun a b=>cmpStrs a b<0) (hx:SetR S x):x=(l,false):=by
 obtain ⟨m,b⟩:=x
 rcases hx with ⟨_,hb⟩|⟨h1,h2,h3,_⟩
 · exact Qc hb h.small
 · simp only at h1 h2 h3;subst h1;rw [Za9 h2 hl fun w=>(h3 w).trans ((h.mem w).symm.trans hp.mem_iff.symm)]
end Go.Proofs.YteiincihiagidaaGreat
namespace Go.En
open Go.RowKit Go.Cb Go.WideShapes Go.ChangeShapes Go.ChangeAt Go.Deep
def ZbZ (P:Program) (t:TypeId) (k:Nat) {α:Type} (enc:α→List PV) (fit:α→Prop) (fuel:Nat):Prop:=
 ∀ {H:Type} (e:TypeId×Value→H) (w:World) (spare:Nat→Bool) (held:Bool) (cs:List Value) (x:DataW H×List MemPlace),DataW.trod e P w 0 spare held fuel t cs=some x→(∀n∈x.1.weights P t,n≤reachBytes)→
  ∃a,fit a∧cs.length=k∧∀(i:Nat) (v:Value) (p:PV),cs[i]? =some v→(enc a)[i]? =some p→Shr (fun _=>False) w v p
section
variable {P:Program} {t:TypeId}
theorem Dec.toF {α:Type} {k:Nat} {enc:α→List PV} {fit:α→Prop} (D:Dec P t k enc fit) (fuel:Nat):ZbZ P t k enc fit fuel:=fun e w spare held cs x h hw=>D.dec e w spare held fuel cs x h hw
theorem Dg {H:Type} {α:Type} {e k o fuel:Nat} {enc:α→List PV} {fit:α→Prop} (hsz:P.cellsOf e=k) (hlen:∀a,(enc a).length=k) (D:ZbZ P e k enc fit fuel) {en:TypeId×Value→H} {w:World} {spare:Nat→Bool} {held:Bool} {cs:List Value} {y:DataW H×List MemPlace}
 (h:DataW.trod en P w 0 spare held fuel e ((cs.drop o).take (P.cellsOf e))=some y) (hwt:∀n∈y.1.weights P e,n≤reachBytes):∃a,fit a∧∀(i:Nat) (v:Value) (p:PV),cs[o+i]? =some v→(enc a)[i]? =some p→Shr (fun _=>False) w v p:=by
 obtain ⟨a,h1,_,h3⟩:=D en w spare held _ y h hwt
 refine ⟨a,h1,fun i v p hv hp=>h3 i v p ?_ hp⟩
 have hi:i<k:=by rw [←hlen a];exact Zd hp
 rw [hsz,X9 hi,VJ];exact hv
theorem ZfX {α:Type} {e k fuel:Nat} {enc:α→List PV} {fit:α→Prop} (ht:P.underlying t=some (.slice e)) (hk:0<k) (hby:0<P.bytesOf e) (hsz:P.cellsOf e=k) (hln:∀a,(enc a).length=k) (D:∀n,n<fuel→ZbZ P e k enc fit n):
 ZbZ P t 1 (fun l:List α=>[PV.sl l.length (l.flatMap enc)]) (fun l=>l.length≤140737488355328∧∀x∈l,fit x) fuel:=fun en w spare held cs x h hwt=>by
 rcases DataW.trod_slice ht h with ⟨rfl,_⟩|⟨a,len,cap,elems,more,n,rfl,rfl,rfl,_,hl,hm,hel,hx,_,_⟩
 · exact ⟨[],⟨sM,sM⟩,rfl,fun i v p h1 h2=>ζd (.emp none 0 (by unfold maxLen;omega) (fun _=>rfl)) i h1 h2⟩
 · rcases Ub len with h0|h0
   · subst h0;exact ⟨[],⟨sM,sM⟩,rfl,fun i v p h1 h2=>ζd (.emp (some a) cap hm (fun h=>by cases h)) i h1 h2⟩
   simp only [DataW.weights,ht] at hwt;have hlen:len≤reachBytes:=by
    have:=hwt _ (Xs ..);simp only [Xb,hel] at this;exact XJ (XJ (VX len _) (Nat.le_mul_of_pos_right _ hby)) this
   have hDn:ZbZ P e k enc fit n:=D n (UL n);have hone:∀i,i<len→∃(y:α×(Nat→Value)),fit y.1∧∀(j:Nat) (p:PV),(enc y.1)[j]? =some p→w.cell? ((a.add (i*k)).add j)=some (y.2 j)∧Shr (fun _=>False) w (y.2 j) p:=fun i hi=>by
    have h1:=hx i hi;obtain ⟨z,hz⟩:=Yl (show i<elems.length by omega);rw [hz] at h1;obtain ⟨cs',h2,h3⟩:=Option.bind_eq_some_iff.1 h1;rw [hsz] at h2;obtain ⟨_,hlen',hcell⟩:=World.cells?_some h2;obtain ⟨y,hy,_,hS⟩:=hDn en w spare held cs' _ h3 (fun m hm=>hwt m (Xw _ (Xd.2 (.inl (PP P e (Xh.2 ⟨z,Xc hz,rfl⟩) hm)))));refine ⟨(y,fun j=>(cs'[j]?).getD undef),hy,fun j p hp=>?_⟩;(have hj:j<k:=by rw [←hln y];exact Zd hp);obtain ⟨u,hu⟩:=Yl (show j<cs'.length by omega);have:=hcell j hj;simp only [hu,Uk];exact ⟨by rw [this,hu],hS j u p hu hp⟩
   obtain ⟨y0,hy0⟩:=hone 0 h0;have key:∀i:Nat,∃(y:α×(Nat→Value)),i<len→fit y.1∧∀(j:Nat) (p:PV),(enc y.1)[j]? =some p→w.cell? ((a.add (i*k)).add j)=some (y.2 j)∧Shr (fun _=>False) w (y.2 j) p:=fun i=>by
    by_cases hi:i<len
    · obtain ⟨y,hy⟩:=hone i hi;exact ⟨y,fun _=>hy⟩
    · exact ⟨y0,fun h=>Qc h hi⟩
   obtain ⟨Y,hY⟩:=Classical.skolem.1 key;have hspot:∃b off,a=⟨b,off,none⟩:=by
    obtain ⟨hf,hc⟩:=hY 0 h0;obtain ⟨p,hp⟩:=Yl (show 0<(enc (Y 0).1).length by rw [hln];exact hk);have:=(hc 0 p hp).1;obtain ⟨b,off,spot⟩:=a;(have hspot:spot=none:=by simpa [Addr.add] using World.cell?_spot this);subst hspot;exact ⟨b,off,rfl⟩
   obtain ⟨b,off,rfl⟩:=hspot;have hflen:((List.range len).map fun i=>(Y i).1).length=len:=sM;refine ⟨(List.range len).map fun i=>(Y i).1,⟨by rw [hflen];unfold reachBytes at hlen;omega,fun x hx=>?_⟩,rfl,fun i v p h1 h2=>ζd ?_ i h1 h2⟩
   · obtain ⟨i,hi,rfl⟩:=Xh.1 hx;exact (hY i (by simpa using hi)).1
   · rw [hflen];have hat:∀(c:Nat) (p:PV),(((List.range len).map fun i=>(Y i).1).flatMap enc)[c]? =some p→c / k<len∧(enc (Y (c / k)).1)[c % k]? =some p:=fun c p hp=>by
      (have hc:c<len*k:=by have:=Zd hp;rw [Yr hln,hflen] at this;exact this);have hq:c / k<len:=Nat.div_lt_of_lt_mul (by rw [VC];exact hc);(have hget:((List.range len).map fun i=>(Y i).1)[c / k]? =some (Y (c / k)).1:=by simp [hq]);have:=K6 hln hget (Nat.mod_lt c hk);rw [VC,Un] at this;exact ⟨hq,by rw [←this];exact hp⟩
     refine .sl b off len cap _ (fun c=>(Y (c / k)).2 (c % k)) hl hm (fun c hc=>⟨?_,fun h=>h⟩) (fun c p hp=>?_)
     · obtain ⟨p,hp⟩:=Yl hc;obtain ⟨hq,hp'⟩:=hat c p hp;have:=((hY (c / k) hq).2 (c % k) p hp').1;rw [WB,WB,Vw,VC,Un] at this;exact this
     · obtain ⟨hq,hp'⟩:=hat c p hp;exact ((hY (c / k) hq).2 (c % k) p hp').2
end
open Go.RowKit Go.Cb
section
variable {sL hP:List (Nat×Ent)}
end
open Go.RowKit Go.Cb Go.Proofs Go.Sort Go.ChangeShapes Go.WideShapes Go.ChangeAt
def Zmm (P:Program) (fs:Nat):Prop:=∀(blk cap:Nat) (zs:List (List UInt8)) (w:World),Go.Sort.Holds encStr w blk 0 zs.toArray→blk<w.heap.size→zs.length<4611686018427387904→
 Calls P fs #[.slice (some ⟨blk,0,none⟩) zs.length cap] w fun e w'=>e= .returned (.tuple #[])∧∃n os,w'=grow (putRow encStr (Go.Sort.ahead w n) blk 0 (zs.mergeSort fun x y=>decide (x≤y)).toArray) os
def ZfY (s:List UInt8):PV:= .val (encStr s)
section
variable {P:Program} {c:Ctx} {ops:Array Oper} {Q:Exit→Act→World→Prop} {rest:List Oper} {sL hP:List (Nat×Ent)} {o:Oper}
theorem Zmn {fs e d:Nat} {zs:List (List UInt8)} {h:Value} {q:PV} {x:Operand} {ats:Array TypeId} (l:Nat) (hS:Zmm P fs) (hc:∀args w,(callFunc fs args).run P w= .ok (.enter fs args) w)
 (kk:aL P c ops Q rest ⟨put d (.tuple #[], .val (.tuple #[])) sL,put l (h, .own e 1 zs.length ((zs.mergeSort fun x y=>decide (x≤y)).map ZfY)) hP⟩)
 (hn:0<zs.length) (hn2:zs.length<4611686018427387904:=by omega) (hw:ZP ops sL o=some true:=by exact rfl) (hd:o.dst=some d:=by exact rfl) (hdn:d<c.nt:=by exact Xa rfl) (ho:o.op= .call {callee:= .value (.func fs),args:= #[x],argTypes:=ats}:=by exact rfl) (hx:ev sL x=some (h,q):=by exact rfl) (hl:lk hP l=some (h, .own e 1 zs.length (zs.map ZfY)):=by exact rfl):aL P c ops Q (o::rest) (⟨sL,hP⟩:St):=
 Y4 hw fun a w F H=>by
  have hxv:=(H.rd.ev hx).1;have hTr:=H.tr l _ _ hl;obtain ⟨xs,Fs,hrow,hlen,hT,hdj,hb,hF⟩:=hTr.row;obtain ⟨blk,cap,hh,hc1,hc2,hc3⟩:=JV hTr hn;have hblkF:F l blk:=(hF blk).2 (.inl (by rw [hh];rfl));have hxs:∀(j:Nat) (v:Value),xs[j]? =some v→∃z,zs[j]? =some z∧v=encStr z:=fun j v hv=>by
   obtain ⟨p,hp⟩:=YB hv hlen.symm;have h1:=hp;rw [Xo,XP] at h1;obtain ⟨z,hz,rfl⟩:=h1;exact ⟨z,hz,((hT j v _ hv hp).sh rfl).vOf⟩
  have hHold:Go.Sort.Holds encStr w blk 0 zs.toArray:=fun j hj=>by
   simp only [Vz] at hj;have hrow':=hrow;rw [hh] at hrow';obtain ⟨v,hv⟩:=Yl (show j<xs.length by rw [←hlen,Xb];exact hj);obtain ⟨z,hz,rfl⟩:=hxs j v hv;refine ⟨?_,by rw [XE];exact hrow'.frozenAt j⟩;rw [XE,KG hrow' hv];have:zs.toArray[j]! =z:=by
    have hz':=(Xr.1 hz).2;simp [hj,hz']
   rw [this]
  have hcall:=hS blk cap zs w hHold hc3 hn2;unfold Oper.wp;have hrun:(execOp a.eval o).run P w= .ok (.enter fs #[h]) w:=by
   have hev:a.eval (.func fs)= .func (.func fs) #[] #[]:=rfl;simp [execOp,ho,resolve,Deferred.ofValue,hev,invoke,hxv,hc]
  rw [hrun,Oper.upon_enter,hh];refine hcall.mono fun e' w' ⟨he',m,os,hw'⟩=>?_;subst he';have hsl:(zs.mergeSort fun x y=>decide (x≤y)).length=zs.length:=Ug _;generalize hsd:(zs.mergeSort fun x y=>decide (x≤y))=sd at hsl hw' kk;have hch0:Chg (fun b=>b=blk) w w':=by
   rw [hw'];refine ⟨rfl,rfl,rfl,?_,fun i hi hne=>?_⟩
   · simp [grow,putRow,mapBlock,Go.Sort.ahead]
   · have:(grow (putRow encStr (Go.Sort.ahead w m) blk 0 sd.toArray) os).heap=(w.heap.modify blk (onCells (putCells encStr 0 sd.toArray)))++os:=rfl;rw [this,Vr (by simpa using hi),VW,Qa (fun e=>hne e.symm)]
  rw [hd];refine kk _ _ ⟨fun l'=>if l'=l then (fun b=>b=blk) else F l',?_⟩;refine H.change (fun l'=>l'=l) hdn (hch0.wid fun b hb'=> .inl ⟨l,_,rfl,hl,by rw [hb'];exact hblkF⟩) (fun l' z hne hz=>?_) (fun l' z b hT' hz hb'=>?_) (fun hmm l' u p hT' hz=>?_) (fun l1 l2 _ _ _ h1 h2 hne=>Qc (h1.trans h2.symm) hne) (fun _=> .val _) (fun _=>by rw [hw'];exact VX _ _)
  · rcases ZZ hz with ⟨e1,_⟩|⟨_,e1⟩
    · exact Qc e1.symm hne
    · exact ⟨e1,by simp [hne]⟩
  · subst hT';simp only [if_true] at hb';exact .inl ⟨l',_,rfl,hl,by rw [hb'];exact hblkF⟩
  · subst hT';rw [ZJ] at hz
    cases hz;simp only [if_true];rcases hrow.2 with ⟨e1,_⟩|⟨g',cap',cur,e1,_,e3,e4,e5,e6,e7⟩
    · rw [hh] at e1;cases e1
    · rw [hh] at e1
      cases e1;have hlt:=Y8 e3;refine .own (sd.map encStr) (fun _ _=>False) ⟨by rw [Xb,hsl,Xy], .inr ⟨blk,cap,putCells encStr 0 sd.toArray cur,hh,Xg _,?_,e4,e5,by simp [putCells];omega,?_⟩⟩ sM (fun t v p hv hp=>?_) (fun _ _ _ _ _ _ h=>h.elim) (fun _ _ _ h=>h.elim) (fun b=>by rw [hh];simp [Value.ownBlock,eq_comm])
      · rw [hw'];have:(grow (putRow encStr (Go.Sort.ahead w m) blk 0 sd.toArray) os).heap=(w.heap.modify blk (onCells (putCells encStr 0 sd.toArray)))++os:=rfl;rw [this,Vr (by simpa using hlt),VW,Qb rfl,e3];rfl
      · have:=HS encStr sd.toArray cur (by simp only [Vz];rw [hsl,e6];omega);simp only [Vz] at this;rw [Xy,←hsl];exact this
      · rw [Xo,XP] at hv hp;obtain ⟨z,hz,rfl⟩:=hv;obtain ⟨z',hz',rfl⟩:=hp;rw [hz] at hz';cases hz';exact .shr (.val _) (fun _ h=>h)
theorem Zpa {fs e d:Nat} {zs:List (List UInt8)} {h:Value} {q:PV} {x:Operand} {ats:Array TypeId} (l:Nat) (hS:Zmm P fs) (hS0:ZfO P fs) (hc:∀args w,(callFunc fs args).run P w= .ok (.enter fs args) w)
 (kk:aL P c ops Q rest ⟨put d (.tuple #[], .val (.tuple #[])) sL,put l (h, .own e 1 zs.length ((zs.mergeSort fun x y=>decide (x≤y)).map ZfY)) hP⟩)
 (hn2:zs.length<4611686018427387904:=by omega) (hw:ZP ops sL o=some true:=by exact rfl) (hd:o.dst=some d:=by exact rfl) (hdn:d<c.nt:=by exact Xa rfl) (ho:o.op= .call {callee:= .value (.func fs),args:= #[x],argTypes:=ats}:=by exact rfl) (hx:ev sL x=some (h,q):=by exact rfl) (hl:lk hP l=some (h, .own e 1 zs.length (zs.map ZfY)):=by exact rfl):aL P c ops Q (o::rest) (⟨sL,hP⟩:St):=by
 rcases Ub zs.length with h0|h0
 · have hz:zs=[]:=XB h0;subst hz;refine Zl9 l hS0 hc ?_ hw hd hdn ho hx hl;exact Zp (fun c a w ⟨F,H⟩=>⟨(),F,H.less (fun _ _ h=>h) fun t x hx=>by
    rcases ZZ hx with ⟨rfl,e1⟩|⟨_,e1⟩
    · rw [←e1];simpa using hl
    · exact e1⟩) (fun _:Unit=>kk)
 · exact Zmn l hS hc kk h0 hn2 hw hd hdn ho hx hl
end
section
variable {P:Program} {c:Ctx} {ops:Array Oper} {Q:Exit→Act→World→Prop} {rest:List Oper} {st:St} {sL hP:List (Nat×Ent)} {o:Oper} {Z:Nat→Bool} {K:List Nat} {fuel:Nat} {listed:Array Bool}
end
theorem Zmo (es:Array MapEntry):kvOf es=(es.toList.map (·.key)).zip (es.toList.map (·.val)):=by
 unfold kvOf
 generalize es.toList=l
 induction l with
 |nil=>rfl
 |cons x l ih=>rw [Xj,Xj,Xj,UZ,ih]
theorem Zhu {α β:Type}:∀{a a':List α} {b b':List β},a.zip b=a'.zip b'→a.length=b.length→a'.length=b'.length→a=a'∧b=b'
 |[],[],[],[],_,_,_=>⟨rfl,rfl⟩
 | x::a,x'::a',y::b,y'::b',h,h1,h2=>by
   rw [UZ,UZ] at h;injection h with h3 h4;injection h3 with h5 h6;obtain ⟨h7,h8⟩:=Zhu h4 (by simpa using h1) (by simpa using h2);rw [h5,h6,h7,h8];exact ⟨rfl,rfl⟩
 |[],_::_,[],_::_,h,_,_=>by simp at h
 |_::_,[],_::_,[],h,_,_=>by simp at h
 |[],_,_::_,_,_,h,_=>by simp at h
 |_::_,_,[],_,_,h,_=>by simp at h
 |_,[],_,_::_,_,_,h=>by simp at h
 |_,_::_,_,[],_,_,h=>by simp at h
theorem Zmp {M:BS} {w:World} {v:Value} {ks:List Value} {ps:List PV} (h:Shr M w v (.smapS ks ps)):∃b es clock,v= .map (some b)∧¬M b∧w.heap[b]? =some (.map es clock)∧WfM es clock∧ks=es.toList.map (·.key)∧es.toList.length=ps.length∧∀(i:Nat) (e:MapEntry) (p:PV),es.toList[i]? =some e→ps[i]? =some p→Shr M w e.val p:=by
 generalize hq:PV.smapS ks ps=q at h
 cases h with
 |smapS b es clock ps' hM h hW hl hT=>injection hq with h1 h2;subst h2;exact ⟨b,es,clock,rfl,hM,h,hW,h1,hl,hT⟩
 |_=>cases hq
theorem Zmq {M:BS} {w:World} {v:Value} {kv:List (Value×Value)} {F:BS} (h:Tr M w v (.omap kv) F):∃b es clock,v= .map (some b)∧w.heap[b]? =some (.map es clock)∧F b∧WfM es clock∧kvOf es=kv:=by
 generalize hp:PV.omap kv=p at h
 cases h with
 |shr h _=>subst hp;cases h
 |omap b es clock h hF hW=>injection hp with hp;exact ⟨b,es,clock,rfl,h,(hF b).2 rfl,hW,hp.symm⟩
 |_=>cases hp
theorem Zb0 {M:BS} {w:World} {vs:List Value} {ps:List PV} {F:BS} (h:Tr M w (.agg vs.toArray) (.agg ps) F) (hs:EQ ps=true):vs.length=ps.length∧∀(i:Nat) (v:Value) (p:PV),vs[i]? =some v→ps[i]? =some p→Shr M w v p:=by
 obtain ⟨Fs,h1,h2,_⟩:=h.fam
 rw [Pz] at hs
 exact ⟨h1,fun i v p hv hp=>(h2 i v p hv hp).shD (Xm.1 hs p (Xc hp))⟩
section
variable {c:Ctx} {sL hP:List (Nat×Ent)}
theorem Zb1 {F:Nat→BS} {a:Act} {w:World} (H:HoldsF c (⟨sL,hP⟩:St) F a w) {v:Value} {p:PV} (g:Nat) (hS:Shr (mof c hP F) w v p):HoldsF c (⟨sL,put g (v,p) hP⟩:St) (fun x=>if x=g then (fun _=>False) else F x) a w:=by
 refine H.retell (fun x=>x=g) (fun x y hnT hx=>?_) (fun x y b hTx hx hb'=>?_) (fun hmm x u q hTx hx=>?_) (fun x1 x2 y1 y2 b h1 h2 hne'=>Qc (h1.trans h2.symm) hne')
 · have n1:x≠g:=hnT;rw [ZY (Ne.symm n1)] at hx;exact ⟨hx,by simp [n1]⟩
 · subst hTx;simp at hb'
 · subst hTx;rw [ZJ] at hx
   cases hx;simp only [if_true];exact .shr (hS.anti hmm) (fun _ h=>h)
theorem ZjB {F:Nat→BS} {g:Nat} {x:Ent} {b:Nat} (h:mof c (put g x hP) (fun y=>if y=g then (fun _=>False) else F y) b):mof c hP F b:=by
 rcases h with h|⟨l,y,h1,h2⟩
 · exact .inl h
 · rcases ZZ h1 with ⟨rfl,_⟩|⟨hne,h3⟩
   · simp at h2
   · exact .inr ⟨l,y,h3,by simpa [Ne.symm hne] using h2⟩
theorem Zb2 {F:Nat→BS} {a:Act} {w:World} (H:HoldsF c (⟨sL,hP⟩:St) F a w) {t:Nat} {v:Value} {p q:PV} (ht:lk sL t=some (v,q)) (hS:Shr (mof c hP F) w v p):HoldsF c (⟨put t (v,p) sL,hP⟩:St) F a w:=by
 refine ⟨H.toHeapF,fun s u r hs=>?_,H.size,H.df⟩
 rcases ZZ hs with ⟨rfl,e1⟩|⟨_,hs'⟩
 · cases e1;exact ⟨(H.sl t _ _ ht).1,hS⟩
 · exact H.sl s u r hs'
theorem Tu {t:Nat} (g:Nat) {m:Value} {ks:List Value} {ps:List PV} (ht:lk sL t=some (m, .smapS ks ps)):
 J1 (⟨sL,hP⟩:St) (fun vs:{vs:List Value//vs.length=ps.length∧ks.length=ps.length}=>⟨put t (m, .smap (ks.zip vs.1)) sL,put g (.agg vs.1.toArray, .agg ps) hP⟩):=fun c a w ⟨F,H⟩=>by
 obtain ⟨b,es,clock,rfl,hM,h,hW,rfl,hl,hT⟩:=Zmp (H.sl t _ _ ht).2
 have hA:Shr (mof c hP F) w (.agg (es.toList.map (·.val)).toArray) (.agg ps):= .agg _ _ (by simpa using hl) fun i v p hv hp=>by
  rw [Xo,XP] at hv;obtain ⟨e,he,rfl⟩:=hv;exact hT i e p he hp
 refine ⟨⟨es.toList.map (·.val),by simpa using hl,by simpa using hl⟩,_,Zb2 (Zb1 H g hA) ht ?_⟩
 rw [←Zmo]
 exact .smap b es clock (fun hm=>hM (ZjB hm)) h hW
theorem Tv {t g i:Nat} {v:Value} {q p:PV} {vs:List Value} {ps:List PV} (ht:lk sL t=some (v,q)) (hg:lk hP g=some (.agg vs.toArray, .agg ps)) (hv:vs[i]? =some v) (hp:ps[i]? =some p) (hs:EQ ps=true):
 J1 (⟨sL,hP⟩:St) (fun _:Unit=>⟨put t (v,p) sL,hP⟩):=fun c a w ⟨F,H⟩=>⟨(),F,Zb2 H ht ((Zb0 (H.tr g _ _ hg) hs).2 i v p hv hp)⟩
theorem Zb3 (g:Nat):J1 (⟨sL,hP⟩:St) (fun _:Unit=>⟨sL,put g (.agg #[], .agg []) hP⟩):=fun c a w ⟨F,H⟩=>⟨(),_,Zb1 H g (v:= .agg [].toArray) (.agg [] [] rfl fun i v p hv=>by simp at hv)⟩
theorem Zpb {t g:Nat} {v:Value} {p:PV} {vs:List Value} {ps:List PV} (ht:lk sL t=some (v,p)) (hg:lk hP g=some (.agg vs.toArray, .agg ps)) (hs:EQ ps=true):
 J1 (⟨sL,hP⟩:St) (fun _:Unit=>⟨sL,put g (.agg (vs++[v]).toArray, .agg (ps++[p])) hP⟩):=fun c a w ⟨F,H⟩=>by
 obtain ⟨hl,hT⟩:=Zb0 (H.tr g _ _ hg) hs
 refine ⟨(),_,Zb1 H g (.agg _ _ (by simp [hl]) fun i x q hx hq=>?_)⟩
 rcases XD i vs.length with h|h
 · rw [X0 h] at hx;rw [X0 oM] at hq;exact hT i x q hx hq
 · rw [X' h] at hx;rw [X' oM] at hq;have hi:i-vs.length=0:=by have:=Zd hx;simpa using this
   rw [hi] at hx;rw [show i-ps.length=0 by omega] at hq
   cases hx;cases hq;exact (H.sl t _ _ ht).2
theorem Zrh {t g i:Nat} {v:Value} {p:PV} {vs:List Value} {ps:List PV} (ht:lk sL t=some (v,p)) (hg:lk hP g=some (.agg vs.toArray, .agg ps)) (hs:EQ ps=true) (hi:ps[i]? =some p):
 J1 (⟨sL,hP⟩:St) (fun _:Unit=>⟨sL,put g (.agg (vs.set i v).toArray, .agg ps) hP⟩):=fun c a w ⟨F,H⟩=>by
 obtain ⟨hl,hT⟩:=Zb0 (H.tr g _ _ hg) hs
 refine ⟨(),_,Zb1 H g (.agg _ _ (by simp [hl]) fun j x q hx hq=>?_)⟩
 by_cases hij:i=j
 · subst hij;rw [XI (by have:=Zd hi;omega)] at hx;rw [hi] at hq
   cases hx;cases hq;exact (H.sl t _ _ ht).2
 · rw [XZ hij] at hx;exact hT j x q hx hq
theorem J8 {t l g:Nat} {m:Value} {q:PV} {ks vs:List Value} {ps:List PV} (ht:lk sL t=some (m,q)) (hl:lk hP l=some (m, .omap (ks.zip vs))) (hg:lk hP g=some (.agg vs.toArray, .agg ps)) (hs:EQ ps=true) (hk:ks.length=ps.length):
 J1 (⟨sL,hP⟩:St) (fun _:Unit=>⟨put t (m, .smapS ks ps) sL,del g (del l hP)⟩):=fun c a w ⟨F,H⟩=>by
 obtain ⟨hvl,hT⟩:=Zb0 (H.tr g _ _ hg) hs
 obtain ⟨b,es,clock,rfl,hb,hFb,hW,hkv⟩:=Zmq (H.tr l _ _ hl)
 rw [Zmo] at hkv
 obtain ⟨rfl,rfl⟩:=Zhu hkv sM oM
 have hm:∀b,mof c (del g (del l hP)) F b→mof c hP F b:=by
  rintro b (h|⟨l',x,h1,h2⟩)
  · exact .inl h
  · exact .inr ⟨l',x,(YC (YC h1).2).2,h2⟩
 have H1:HoldsF c ⟨sL,del g (del l hP)⟩ F a w:=H.less (fun _ _ h=>h) (fun _ _ h=>(YC (YC h).2).2)
 refine ⟨(),F,Zb2 H1 ht (.smapS b es clock ps (fun hmb=>?_) hb hW (by simpa using hvl) fun i e p he hp=>?_)⟩
 · rcases hmb with h1|⟨l',x,h1,h2⟩
   · exact H.apart h1 hl hFb
   · exact H.dj l l' _ _ b (YC (YC h1).2).1 hl (YC (YC h1).2).2 hFb h2
 · exact (hT i e.val p (by rw [Xo,he];rfl) hp).anti fun b _=>hm b
theorem Zr5 (h:List (Nat×Ent)) (hs:Sub h hP):J1 (⟨sL,hP⟩:St) (fun _:Unit=>⟨sL,h⟩):=fun c a w ⟨F,H⟩=>⟨(),F,H.less (fun _ _ h=>h) fun t x hx=>hs.lk hx⟩
end
theorem AFh.nil1 {dd:Prop} {P:Program} {f:FuncId} {x:Ent} {h:List (Nat×Ent)} {R:Value→PV→List (Nat×Ent)→Prop} (H:AFh dd P f [(0,x),(1, .slice none 0 0, .sl 0 [])] h R):AFh dd P f [(0,x),(1, .slice none 0 0, .val (.slice none 0 0))] h R:=fun M N w F HF hv=>H M N w F HF fun i y hy=>by
 have hy:lk (put 0 x (put 1 ((.slice none 0 0:Value),PV.sl 0 []) [])) i=some y:=hy
 rcases ZZ hy with ⟨rfl,rfl⟩|⟨_,hy⟩
 · exact hv 0 _ rfl
 · rcases ZZ hy with ⟨rfl,rfl⟩|⟨_,hy⟩
   · exact .emp none 0 (by unfold maxLen;omega) (fun _=>rfl)
   · cases hy
theorem AF.shared {P:Program} {f:Nat} {ps:List PV} {p p':PV} (h:AF P f ps (· =p)) (e:share p=p'):AF P f ps (· =p'):=fun M w vs hM hl hv=>
 (h M w vs hM hl hv).mono fun e1 w' ⟨v,q,F,h1,h2,h3,h4,h5,h6⟩=>by
   subst h2 e;refine ⟨v,_,fun _=>False,h1,rfl,h3, .shr (h4.share (M':=fun b=>M b∨False) (fun b _ hb=>?_) fun b hF hb=>?_) (fun _ h=>h),fun b hb=>hb.elim,h6⟩
   · rcases hb with hb|hb
     · exact .inl hb
     · exact hb.elim
   · rcases hb with hb|hb
     · have h8:=h5 b hF;have h9:=(hM.m b hb).1;exact Qc h9 (Nat.not_lt.2 h8)
     · exact hb
end Go.En
namespace Go.Proofs.YteiincihiagidaaGreat
open Go.RowKit Go.Cb Go.En Tryz
def wks (ws:List (List BA)):List Value:=ws.map fun w=> .string (KU w)
def NmW (w:List BA):Prop:=∀s∈w,isName s=true
def NmS (ws:List (List BA)):Prop:=∀w∈ws,NmW w
def SJ (ws:List (List BA)):PV:= .smapS (wks ws) (ws.map Zs)
theorem Zbb {l m:List BA} (h1:NmW l) (h2:NmW m) (h:KU l=KU m):l=m:=Zdk h1 h2 (by
 have:=congrArg (fun s:BA=>s.data.toList) h
 simpa [KU] using this)
theorem WI:∀ws:List (List BA),EQ (ws.map Zs)=true:=fun ws=>by
 rw [Pz,Xm]
 intro p hp
 obtain ⟨w,_,rfl⟩:=Xh.1 hp
 rfl
theorem J0 (ws:List (List BA)):(wks ws).length=ws.length:=Xb ..
theorem Zhv {w:List BA} {u:Value} (hw:NmW w):∀(ws:List (List BA)) (vs:List Value),vs.length=ws.length→NmS ws→
 (w∉ws∧TO ((wks ws).zip vs) (.string (KU w)) u=(wks (ws++[w])).zip (vs++[u]))∨∃i,ws[i]? =some w∧TO ((wks ws).zip vs) (.string (KU w)) u=(wks ws).zip (vs.set i u)
 |[],[],_,_=> .inl ⟨sM,rfl⟩
 | x :: ws,v::vs,hl,hn=>by
   have hx:=hn x (Xs ..);have e0:(wks (x::ws)).zip (v::vs)=(.string (KU x),v)::(wks ws).zip vs:=rfl;rw [e0];simp only [TO,keq,ZbF];by_cases h:KU w=KU x
   · rw [Qb (by simpa using h)];obtain rfl:=Zbb hw hx h;exact .inr ⟨0,rfl,rfl⟩
   · rw [Qa (by simpa using h)];rcases Zhv hw ws vs (by simpa using hl) (fun y hy=>hn y (Xw _ hy)) with ⟨h1,h2⟩|⟨i,h1,h2⟩
     · refine .inl ⟨fun hm=>?_,by rw [h2];rfl⟩;rcases Xk.1 hm with rfl|hm
       · exact h rfl
       · exact h1 hm
     · exact .inr ⟨i+1,by simpa using h1,by rw [h2];rfl⟩
theorem Zpc {ws:List (List BA)} {w:List BA} (h:w∉ws):S5 ws w=ws++[w]:=by
 unfold S5
 rw [Qa fun h1=>h (TG.1 h1)]
theorem Zpd {ws:List (List BA)} {w:List BA} (h:w∈ws):S5 ws w=ws:=by
 unfold S5
 rw [Qb (TG.2 h)]
def Sx (ws:List (List BA)) (es:Array MapEntry) (seen:Array Nat) (D:List (List BA)):Prop:=∃L,(D++L).Perm ws∧((kvOf (leftOf es seen)).map (·.1)).Perm (wks L)
theorem Zhw {α β:Type}:∀{a:List α} {b:List β},a.length=b.length→(a.zip b).map (·.1)=a
 |[],_,_=>sM
 |x::a,y::b,h=>by rw [UZ,Xj,Zhw (by simpa using h)]
 |_::_,[],h=>by simp at h
theorem JP {ws:List (List BA)} {vs:List Value} {es:Array MapEntry} (h:(wks ws).zip vs=kvOf es) (hl:vs.length=ws.length):Sx ws es #[] []:=
 ⟨ws,List.Perm.refl _,by rw [D',←h,Zhw (by rw [J0,hl])]⟩
theorem JQ {ws:List (List BA)} {vs:List Value} {es:Array MapEntry} {seen:Array Nat} {D:List (List BA)} {e:MapEntry} {clock:Nat} (hn:NmS ws) (hW:WfM es clock) (h:(wks ws).zip vs=kvOf es) (hI:Sx ws es seen D) (he:e∈(leftOf es seen).toList):
 ∃(i:Nat) (w:List BA),ws[i]? =some w∧vs[i]? =some e.val∧e.key= .string (KU w)∧w∈ws∧Sx ws es (seen.push e.born) (D++[w]):=by
 obtain ⟨L,h1,h2⟩:=hI
 have h3:=((Tg hW he).map (·.1)).symm.trans h2
 rw [Xj] at h3
 obtain ⟨w,hw,hk⟩:=Xh.1 (h3.mem_iff.1 (Xs ..))
 have hwm:w∈ws:=h1.mem_iff.1 (Xd.2 (.inr hw))
 obtain ⟨s,r,hsr⟩:=List.append_of_mem hw
 have h4:L.Perm (w::(s++r)):=by rw [hsr];exact List.perm_middle
 have h5:(wks L).Perm (e.key::wks (s++r)):=by
  have:=h4.map fun w=>Value.string (KU w);rw [Xj,hk] at this;exact this
 have hmem:(e.key,e.val)∈kvOf es:=Xh.2 ⟨e,Km he,rfl⟩
 rw [←h] at hmem
 obtain ⟨i,hi⟩:=List.mem_iff_getElem?.1 hmem
 obtain ⟨hi1,hi2⟩:(wks ws)[i]? =some e.key∧vs[i]? =some e.val:=List.getElem?_zip_eq_some.1 hi
 unfold wks at hi1
 rw [Xo,XP] at hi1
 obtain ⟨w',hw',hk'⟩:=hi1
 have hww:w'=w:=Zbb (hn w' (Xc hw')) (hn w hwm) (by
  have:=hk'.trans hk.symm;injection this)
 subst hww
 refine ⟨i,w',hw',hi2,hk'.symm,hwm,s++r,?_,(h3.trans h5).cons_inv⟩
 rw [XA]
 exact (h4.symm.append_left D).trans h1
theorem JN {ws:List (List BA)} {es:Array MapEntry} {seen:Array Nat} {D:List (List BA)} (hI:Sx ws es seen D) (h0:leftOf es seen= #[]):D.Perm ws:=by
 obtain ⟨L,h1,h2⟩:=hI
 rw [h0] at h2
 have:L=[]:=by
  have:=h2.length_eq;rw [J0] at this;exact XB (by simpa [kvOf] using this.symm)
 rw [this,Xu] at h1
 exact h1
theorem LO {ws:List (List BA)} {es:Array MapEntry} {seen:Array Nat} {D:List (List BA)} (hI:Sx ws es seen D):∀d∈D,d∈ws:=fun d hd=>by
 obtain ⟨L,h1,_⟩:=hI
 exact h1.mem_iff.1 (Xd.2 (.inl hd))
end Go.Proofs.YteiincihiagidaaGreat
