/-
  Walks of functions and plain laws of the chapter, as the claim needs them.
-/
import Derived.Laws.StructEq
import Derived.Test.YtmkojdfiadbeeaaGreatPf06
import Derived.Test.YtmkojdfiadbeeaaGreatPf05
import Derived.Test.YtmkojdfiadbeeaaGreatPf04
import Derived.Test.YtmkojdfiadbeeaaGreatPf03
import Derived.Test.YtmkojdfiadbeeaaGreatPf02
import Derived.Test.YtmkojdfiadbeeaaGreatPf01
namespace Go.Proofs.YtmkojdfiadbeeaaGreat
open Go.RowKit Go.Cb Go.En Tryz
set_option linter.all false
theorem Zel {α:Type} {p:α→Bool}:∀{l:List α},l.any p=true→∃(i:Nat) (x:α),idx p l=(i:Int)∧l[i]? =some x∧p x=true:=fun {l} h=>by
 rcases D8 (p:=p) (l:=l) with ⟨_,h1⟩|⟨i,x,h1,h2,h3,_⟩
 · obtain ⟨x,hx,hp⟩:=XS.1 h;rw [h1 x hx] at hp;cases hp
 · exact ⟨i,x,h1,h2,h3⟩
theorem ZbF {n:Nat} {l:List (Nat×Nat)} (hn:l.Nodup) (hl:∀p∈l,p.1<n∧p.2<n):l.length≤n*n:=by
 have h1:(l.map fun p=>((p.1*n+p.2:Nat):Int)).Nodup:=by
  refine Vd.2 (List.Pairwise.imp_of_mem (fun {p q} hp hq hne e=>hne ?_) hn);have h2:=hl p hp;have h3:=hl q hq;have e2:p.1*n+p.2=q.1*n+q.2:=by exact_mod_cast e
  have e3:p.1=q.1:=by
   rcases VL p.1 q.1 with h|h|h
   · have:=Vw n (show p.1+1≤q.1 by omega);rw [Nat.succ_mul] at this;omega
   · exact h
   · have:=Vw n (show q.1+1≤p.1 by omega);rw [Nat.succ_mul] at this;omega
  rw [e3] at e2;exact Prod.ext e3 oM
 have h2:=G5 (n*n) _ h1 fun s hs=>by
  obtain ⟨p,hp,rfl⟩:=Xm.1 hs;have h2:=hl p hp;have:=Vw n (show p.1+1≤n by omega);rw [Nat.succ_mul] at this;omega
 simpa using h2
theorem P5 {α:Type} {r:α→α→Bool} {l:List α} (h:chainB r l=true) (hi:∀a∈l,r a a=false) (ht:∀a∈l,∀b∈l,∀c∈l,r a b=true→r b c=true→r a c=true):l.Pairwise fun a b=>r a b=true:=by
 induction l with
 |nil=>exact .nil
 | cons x l ih=>
   have h1:∀i a b,(x::l)[i]? =some a→(x::l)[i+1]? =some b→r a b=true:=(WN r _).1 h;have h2:=ih ((WN r l).2 fun i a b ha hb=>h1 (i+1) a b ha hb) (fun a ha=>hi a (XE _ ha)) (fun a ha b hb c hc=>ht a (XE _ ha) b (XE _ hb) c (XE _ hc));refine XB.2 ⟨fun y hy=>?_,h2⟩
   cases l with
   |nil=>simp at hy
   | cons z l=>
     have h3:=h1 0 x z rfl rfl;rcases Xn.1 hy with rfl|hy2
     · exact h3
     · exact ht x sM z sM y (XE _ hy) h3 ((XB.1 h2).1 y hy2)
structure AOk (a:Aut):Prop where
 n0:0≤a.n
 n1:a.n≤2000
 s0:0≤a.syms
 s1:a.syms≤40
 ml:a.moves.length≤20000
 st:InS a a.start
 fi:InS a a.fin
 sl:a.start.length≤2000
 fl:a.fin.length≤2000
 mv:∀m∈a.moves,0≤m.src∧m.src<a.n∧0≤m.dst∧m.dst<a.n∧-1≤m.sym∧m.sym<a.syms
set_option maxRecDepth 100000
theorem JG:PkT prog 79 82 9 3 (.int .i64 0):=⟨underlying79,underlying82,underlying9,by kernel_rfl,by kernel_rfl,by kernel_rfl,by kernel_rfl,by kernel_rfl,fun a b=>by kernel_rfl,⟨prog.types.size-1,by kernel_rfl⟩,by show ZeroT _ _ _;unfold ZeroT;kernel_rfl⟩
def P6:PV:= .agg [.val (.slice none 0 0), .val (.slice none 0 0), .val (.slice none 0 0), .val (.slice none 0 0)]
def ZeG (l:List Var) (p:PV):Prop:=
 (validVars l=false∧p= .tup [P6,Zg 1])∨(validVars l=true∧40<(Wl l).a.length∧p= .tup [P6,Zg 5])∨(validVars l=true∧(Wl l).a.length≤40∧∃g,LG g (Wl l)∧p= .tup [WS g,Zg 0])
theorem CW (m:List (ByteArray×Int)) (s:ByteArray):(YP (skv (Wa m)) (.string s)).getD (.int .i64 0)= .int .i64 (iget m s):=by
 rw [W4];exact PT m s
theorem P7 (m:List (ByteArray×Int)) (s:ByteArray) (n:Int):GN (skv (Wa m)) (.string s) (.int .i64 n)=skv (Wa (Jh m s n)):=by
 rw [TL,PU]
theorem CX {κ:Type} (m:List (κ×Int)):(Wa m).map (·.1)=m.map (·.1):=by
 unfold Wa;rw [Xs];rfl
theorem ZbG {κ:Type} {m:List (κ×Int)} {p:κ→Prop} (h:∀x∈m,p x.1):∀x∈Wa m,p x.1:=fun x hx=>by
 obtain ⟨y,hy,rfl⟩:=Xm.1 hx
 exact h y hy
theorem EG {m:List (Pr×Value)} {k:Pr} {v:Value} {p:Pr→Prop} (h:∀x∈m,p x.1) (hk:p k):∀x∈Wr m k v,p x.1:=fun x hx=>by
 rcases (Db x.1).1 (Xm.2 ⟨x,hx,rfl⟩) with h1|h1
 · rw [h1];exact hk
 · obtain ⟨z,hz,hzx⟩:=Xm.1 h1;rw [←hzx];exact h z hz
def midA (st:M4) (x:Var) (j:Nat):List (ByteArray×Int):=addAll st.a (x.acts.take j) x.count
def midQ (st:M4) (x:Var) (j:Nat):List (Pr×Int):=addAll st.q (Yl (x.acts.take j)) x.count
theorem ZbH {st:M4} {x:Var} {j:Nat} {s:ByteArray} (hs:x.acts[j]? =some s):midA st x (j+1)=Jh (midA st x j) s (iget (midA st x j) s+x.count):=by
 unfold midA;rw [Z7 hs,Rf];rfl
theorem Dj {st:M4} {x:Var} {s:ByteArray} (hs:x.acts[0]? =some s):midQ st x (0+1)=midQ st x 0:=by
 unfold midQ;rw [Zbz hs];rfl
theorem Dk {st:M4} {x:Var} {j:Nat} {a s:ByteArray} (ha:x.acts[j]? =some a) (hs:x.acts[j+1]? =some s):midQ st x (j+1+1)=Jh (midQ st x (j+1)) (a,s) (iget (midQ st x (j+1)) (a,s)+x.count):=by
 unfold midQ;rw [CS ha hs,Rf];rfl
theorem Zem {st:M4} {x:Var} {b j:Nat} (h:KOk st b) (hx:YQ x=true):MOk (midA st x j) (b+200):=by
 unfold YQ at hx
 simp only [Xd,Uw,Xf] at hx
 exact (h.a.addAll oM hx.2).mono (by rw [XW];omega)
theorem Zen {st:M4} {x:Var} {b j:Nat} (h:KOk st b) (hx:YQ x=true):MOk (midQ st x j) (b+200)∧∀y∈midQ st x j,prOk y.1:=by
 unfold YQ at hx
 simp only [Xd,Uw,Xf] at hx
 obtain ⟨⟨⟨h1,h2⟩,h3⟩,h4⟩:=hx
 have hp:=SG (x.acts.take j)
 refine ⟨(h.q.addAll oM h4).mono (by rw [XW] at hp;omega),LD h.k fun k hk=>?_⟩
 have:=Ta hk
 have n1:=Jt (h2 _ (V6 this.1))
 have n2:=Jt (h2 _ (V6 this.2))
 exact ⟨oM,oM⟩
set_option maxHeartbeats 4000000 in
theorem Zeo (l : List Var) (hf:Ru l):AF prog 13 [Wi l] (ZeG l):=by
 refine AF.of_body 100 func13 rfl ntmps13 (Xa rfl) ?_
 intro w0 M0 vs hl hv
 obtain ⟨v0,rfl⟩:=WO hl
 clear hl hv
 refine Zd ?_
 (refine ZV [(.slice none 0 0),(.slice none 0 0),(.slice none 0 0),(.slice none 0 0)] 4 2 K8 fun h2=>?_<;>refine xL 3 Zb ?_<;>refine Zh ?_)
 (refine xL 10 Za ?_<;>(refine cS 11 (cA call9 (Ks l hf)) fun v11 h=>?_;cases h)<;>refine xL 12 Yj ?_<;>refine Zc ?_)
 refine cX ?_ ?_<;>intro hb12
 · first|exact bN hb12|(
 refine Zd ?_;(refine xL 13 (Yt JF) ?_<;>refine YN 2 Z9 ?_<;>refine xL 3 Zb ?_<;>refine Zc ?_)
 exact Kz (k:=4) 2 kR (results13) rfl rfl rfl (Xa rfl) dC rfl (.inl ⟨by simpa using hb12,rfl⟩))
 · first | exact bN hb12|(
 (have hV:validVars l=true:=by simpa using hb12);(have hl300:l.length≤300:=by have h:=hV;simp only [validVars,Xd,Uw] at h;exact h.1);have hok:∀x∈l,YQ x=true:=fun x hx=>by
  obtain ⟨i,hi⟩:=XF hx;exact GM hV hi
 have hK:=KOk.all hok;refine Zd ?_;(refine cO 14 (cA call44 (Ou)) fun v14 ho14=>?_<;>refine xL 4 Zb ?_<;>refine Zc ?_)
 refine Zz (Zed (l:=14) rfl) fun i=>?_;obtain ⟨h14,hv14⟩:=i;subst hv14;refine Zz (Jj (l:=14) (l':=301) (j:=0) rfl rfl rfl rfl) fun i=>?_;obtain ⟨m1,hm1⟩:=i;refine Zz (Jj (l:=14) (l':=302) (j:=1) rfl rfl rfl rfl) fun i=>?_;obtain ⟨m2,hm2⟩:=i;refine Zz (Jj (l:=14) (l':=303) (j:=2) rfl rfl rfl rfl) fun i=>?_;obtain ⟨m3,hm3⟩:=i;refine Zz (Jj (l:=14) (l':=304) (j:=3) rfl rfl rfl rfl) fun i=>?_;obtain ⟨m4,hm4⟩:=i;dsimp only [List.set];(refine Zk ?_<;>refine xL 15 Za (xL 16 (ZF Z2) (xL 17 Za ?_))<;>refine Zc ?_)
 refine Zw (ι:={k:Nat//k≤l.length}) (fun k=>⟨[(2,_,_),(4,_,_),(15,_,_),(16,_,_),(17, .int .i64 k.1,Zg k.1)],[(2,_,_),(14,h14, .own 81 4 1 [.val m1, .val m2, .val m3, .val m4]),(301,m1, .omap (skv (Wa (Wl (l.take k.1)).a))),(302,m2, .omap (skv (Wa (Wl (l.take k.1)).s))),(303,m3, .omap (skv (Wa (Wl (l.take k.1)).f))),(304,m4, .omap (akv (Wa (Wl (l.take k.1)).q)))]⟩) (fun k=>l.length-k.1) ⟨0,XA _⟩ (fun a w H=>H.weaken ⟨rfl,rfl,rfl,rfl,rfl,trivial⟩ ⟨rfl,rfl,rfl,rfl,rfl,rfl,trivial⟩) ?_;rintro ⟨k,hk⟩;dsimp only;have hKk:=hK k hk;obtain ⟨st,hst⟩:∃st,st=Wl (l.take k):=⟨_,rfl⟩;rw [←hst] at hKk ⊢;refine Zd ?_;(refine xL 18 ZN ?_<;>refine Zc ?_)
 refine cX ?_ ?_<;>intro hb18
 · first | exact bN hb18|(
 obtain ⟨x,hx⟩:=Zj (show k<l.length by omega);have e1:=Yp Z1 l k x hx;have e2:=YI Z1 hx;have hxo:=hok x (Xb hx);have hxo2:=hxo;unfold YQ at hxo2;simp only [Xd,Uw,Xf] at hxo2;obtain ⟨⟨⟨hxl,hxn⟩,hx1⟩,hx2⟩:=hxo2;have hnx:=PY hx;rw [←hst] at hnx;refine Zd ?_;(refine xL 19 (Zn Z2) ?_<;>(refine yL 20 (Jm YJ) fun v20 h=>?_;cases h)<;>refine ZV [(.slice none 0 0),(.int .i64 0)] 2 6 Gp fun h6=>?_<;>refine YN 6 YJ ?_<;>refine Zh ?_)
 (refine xL 21 (Zm 6 Yd) ?_<;>(refine yL 22 (Zp 6 ZL) fun v22 h=>?_;cases h)<;>refine xL 23 (ZF Zu) (xL 24 Za ?_)<;>refine Zc ?_)
 refine Zw (ι:={j:Nat//j≤x.acts.length}) (fun k=>⟨[(2,_,_),(4,_,_),(6,_,_),(15,_,_),(16,_,_),(17,_,_),(22,_,_),(23,_,_),(24, .int .i64 k.1,Zg k.1)],[(2,_,_),(6,_,_),(14,_,_),(302,_,_),(303,_,_),(301,m1, .omap (skv (Wa (midA st x k.1)))),(304,m4, .omap (akv (Wa (midQ st x k.1))))]⟩) (fun k=>x.acts.length-k.1) ⟨0,XA _⟩ (fun a w H=>H.weaken ⟨rfl,rfl,rfl,rfl,rfl,rfl,rfl,rfl,rfl,trivial⟩ ⟨rfl,rfl,rfl,rfl,rfl,rfl,rfl,trivial⟩) ?_;rintro ⟨j,hj⟩;dsimp only;have hAj:=Zem (j:=j) hKk hxo;have hQj:=Zen (j:=j) hKk hxo;refine Zd ?_;(refine xL 25 ZN ?_<;>refine Zc ?_)
 refine cX ?_ ?_<;>intro hb25
 · first | exact bN hb25|(
 obtain ⟨s,hs⟩:=Zj (show j<x.acts.length by omega);have e3:=Yn (f:=ZS) hs;have hgA:=hAj.get s;have hsn:=Jt (hxn s (Xb hs));refine Zd ?_;(refine xL 26 Za (xL 27 (Zn Zu) ?_)<;>(refine yL 28 (Zt ZJ) fun v28 h=>?_;cases h)<;>refine xL 7 Zb (xL 8 Zb ?_)<;>refine Zc ?_)
 (refine ZR (fun i=>([9]:List Nat).elem i) [6,14,301] kR ?_<;>refine xD 0 29 rfl Za ?_<;>refine xD 1 30 rfl (Gf 14) ?_<;>refine xD 2 31 rfl (Zm 14 LF) ?_<;>(refine yD 3 32 rfl (Zp 14 K7) fun v32 h=>?_;cases h)<;>refine xD 4 33 rfl Za ?_<;>refine xD 5 34 rfl (Ll 301 K2 (hk:=J5 _ _) (hu:=CW _ _)) ?_<;>refine xE 6 35 rfl (Zm 6 YO) ?_<;>(refine yE 7 36 rfl (Zp 6 Zx) fun v36 h=>?_;cases h)<;>refine xE 8 37 rfl ZB ?_<;>(refine Zy 9 kR ?_)<;>(refine WP rfl rfl kR fun DQ back=>?_)<;>refine Lm 301 K2 ?_<;>refine Zr (back _ (nav ?_))<;>try dsimp only)
 rw [P7,←ZbH hs];(refine Zk ?_<;>refine xL 38 Za (xL 39 Kj ?_)<;>refine Zc ?_)
 refine cX ?_ ?_<;>intro hb39
 · first | exact bN hb39|(
 obtain ⟨j',rfl⟩:∃j',j=j'+1:=⟨j-1,oM⟩;obtain ⟨a,ha⟩:=Zj (show j'<x.acts.length by omega);(have e4:(x.acts.map ZS)[(((j'+1:Nat):Int)-1).toNat*1]? =some (ZS a):=by rw [show (((j'+1:Nat):Int)-1).toNat=j' by omega];exact Yn (f:=ZS) ha);have hgQ:=hQj.1.get (a,s);have han:=Jt (hxn a (Xb ha));have hpr:prOk (a,s):=⟨by show a.size≤_;omega,by show s.size≤_;omega⟩;(have hQn:((Wa (midQ st x (j'+1))).map (·.1)).Nodup:=by rw [CX];exact hQj.1.nd);have hQk:=ZbG hQj.2;have hQg:=PT (midQ st x (j'+1)) (a,s);refine nav ?_;(refine ZR (fun i=>([18]:List Nat).elem i) [6,14] kR ?_<;>refine xD 0 40 rfl Za ?_<;>refine xD 1 41 rfl (Gf 14) ?_<;>refine xD 2 42 rfl (Zm 14 Rj) ?_<;>(refine yD 3 43 rfl (Zp 14 Dg) fun v43 h=>?_;cases h)<;>refine xD 4 44 rfl (Zm 6 Yd) ?_<;>(refine yD 5 45 rfl (Zp 6 ZL) fun v45 h=>?_;cases h)<;>refine xD 6 46 rfl Za ?_<;>refine xD 7 47 rfl KW ?_<;>refine xD 8 48 rfl (Tf Zu) ?_<;>(refine yD 9 49 rfl (Zt ZJ) fun v49 h=>?_;cases h)<;>refine xD 10 50 rfl Za ?_<;>refine xD 11 51 rfl (Zc3 SH Dh) ?_<;>refine xD 13 53 rfl (Zm 6 YO) ?_<;>(refine yD 14 54 rfl (Zp 6 Zx) fun v54 h=>?_;cases h)<;>(refine Tm 12 16 kR ?_ ?_;rotate_right;(focus ((refine ZA rfl fun w9 M9 N9 DQ back=>?_)<;>(refine PS 304 56 (k:=(a,s)) JG hQk hQn hpr (fun b56 c56 n56 es56 hm56 hw56 he56 hj56=>?_);subst hm56)<;>refine Zr (back _ (nrm ?_))<;>refine xD 17 57 rfl Zl ?_<;>(refine Zy 12 kR ?_)<;>(refine ZA rfl fun w9 M9 N9 DQ back=>?_)<;>(first|refine xL 52 (ζO 304 (k:=(a,s)) (u:= .int .i64 (iget (midQ st x (j'+1)) (a,s))) JG hQk hQn hpr hQg) ?_|refine xL 52 (EA 304 (k:=(a,s)) (u:= .int .i64 (iget (midQ st x (j'+1)) (a,s))) JG he56 (EG hQk hpr) (Tw hQn) hpr (by rw [Dc];exact hQg)) ?_)<;>refine Zr (back _ (nrm ?_))<;>refine xE 15 55 rfl ZB ?_));rotate_right;(focus ((refine ZA rfl fun w9 M9 N9 DQ back=>?_)<;>(first|refine xL 52 (ζO 304 (k:=(a,s)) (u:= .int .i64 (iget (midQ st x (j'+1)) (a,s))) JG hQk hQn hpr hQg) ?_|refine xL 52 (EA 304 (k:=(a,s)) (u:= .int .i64 (iget (midQ st x (j'+1)) (a,s))) JG he56 (EG hQk hpr) (Tw hQn) hpr (by rw [Dc];exact hQg)) ?_)<;>refine Zr (back _ (nrm ?_))<;>refine xD 15 55 rfl ZB ?_<;>(refine Zy 16 kR ?_)<;>(refine ZA rfl fun w9 M9 N9 DQ back=>?_)<;>(refine PS 304 56 (k:=(a,s)) JG hQk hQn hpr (fun b56 c56 n56 es56 hm56 hw56 he56 hj56=>?_);subst hm56)<;>refine Zr (back _ (nrm ?_))<;>refine xE 17 57 rfl Zl ?_)))<;>(refine Zy 18 kR ?_)<;>(refine WP rfl rfl kR fun DQ back=>?_)<;>(refine CM 304 hw56 he56 (Tw hQn) hj56 ?_;rw [Zbr,PU])<;>refine Zr (back _ (nav ?_))<;>try dsimp only)<;>(
 (refine Zk ?_<;>refine xL 58 ZB (xL 24 Za ?_)<;>refine Zc ?_)
 try rw [←Dk ha hs]
 try (obtain rfl:j=0:=by omega)
 try rw [←Dj hs]
 first
  | (exact Zf (
      ⟨j'+1+1,oM⟩
      ) (by first|(show x.acts.length-(j'+1+1)<x.acts.length-(j'+1);omega)|(show x.acts.length-(0+1)<x.acts.length-0;omega)) ⟨rfl,rfl,rfl,rfl,rfl,rfl,rfl,rfl,rfl,trivial⟩ ⟨rfl,rfl,rfl,rfl,rfl,rfl,rfl,trivial⟩)
  | (exact Zf (
      ⟨0+1,oM⟩
      ) (by first|(show x.acts.length-(j'+1+1)<x.acts.length-(j'+1);omega)|(show x.acts.length-(0+1)<x.acts.length-0;omega)) ⟨rfl,rfl,rfl,rfl,rfl,rfl,rfl,rfl,rfl,trivial⟩ ⟨rfl,rfl,rfl,rfl,rfl,rfl,rfl,trivial⟩)))
 · first |exact bN hb39|(
 refine Zd ?_;(refine xL 58 ZB (xL 24 Za ?_)<;>refine Zc ?_)
 try rw [←Dk ha hs]
 try (obtain rfl:j=0:=by omega)
 try rw [←Dj hs]
 first
  | (exact Zf (
      ⟨j'+1+1,oM⟩
      ) (by first|(show x.acts.length-(j'+1+1)<x.acts.length-(j'+1);omega)|(show x.acts.length-(0+1)<x.acts.length-0;omega)) ⟨rfl,rfl,rfl,rfl,rfl,rfl,rfl,rfl,rfl,trivial⟩ ⟨rfl,rfl,rfl,rfl,rfl,rfl,rfl,trivial⟩)
  | (exact Zf (
      ⟨0+1,oM⟩
      ) (by first|(show x.acts.length-(j'+1+1)<x.acts.length-(j'+1);omega)|(show x.acts.length-(0+1)<x.acts.length-0;omega)) ⟨rfl,rfl,rfl,rfl,rfl,rfl,rfl,rfl,rfl,trivial⟩ ⟨rfl,rfl,rfl,rfl,rfl,rfl,rfl,trivial⟩)))
 · first |exact bN hb25|(
 refine nav ?_;have hjl:j=x.acts.length:=oM;(have eA:midA st x j=(mk1 st x).a:=by unfold midA mk1;rw [hjl,XD]);(have eQ:midQ st x j=(mk1 st x).q:=by unfold midQ mk1;rw [hjl,XD]);rw [eA,eQ];(refine Zk ?_<;>refine xL 59 (Zm 6 Yd) ?_<;>(refine yL 60 (Zp 6 ZL) fun v60 h=>?_;cases h)<;>refine xL 61 (ZF Zu) (xL 9 Zb ?_)<;>refine Zh ?_)
 (refine xL 62 Za (xL 63 Kj ?_)<;>refine Zc ?_)
 refine cX ?_ ?_<;>intro hb63
 · first|exact bN hb63|(
 obtain ⟨s0,hs0⟩:=Zj (show 0<x.acts.length by omega);obtain ⟨s1,hs1⟩:=Zj (show x.acts.length-1<x.acts.length by omega);have e5:(x.acts.map ZS)[0*1]? =some (ZS s0):=Yn (f:=ZS) hs0;(have e6:(x.acts.map ZS)[((x.acts.length:Int)-1).toNat*1]? =some (ZS s1):=by rw [show ((x.acts.length:Int)-1).toNat=x.acts.length-1 by omega];exact Yn (f:=ZS) hs1);have hgS:=hKk.s.get s0;have hgF:=hKk.f.get s1;refine nav ?_;(refine ZR (fun i=>([12]:List Nat).elem i) [6,14,302] kR ?_<;>refine xD 0 64 rfl Za ?_<;>refine xD 1 65 rfl (Gf 14) ?_<;>refine xD 2 66 rfl (Zm 14 Rh) ?_<;>(refine yD 3 67 rfl (Zp 14 K7) fun v67 h=>?_;cases h)<;>refine xD 4 68 rfl (Zm 6 Yd) ?_<;>(refine yD 5 69 rfl (Zp 6 ZL) fun v69 h=>?_;cases h)<;>refine xD 6 70 rfl (Zn (i:=0) Zu) ?_<;>(refine yD 7 71 rfl (Zt ZJ) fun v71 h=>?_;cases h)<;>refine xD 8 72 rfl (Ll 302 K2 (hk:=J5 _ _) (hu:=CW _ _)) ?_<;>refine xE 9 73 rfl (Zm 6 YO) ?_<;>(refine yE 10 74 rfl (Zp 6 Zx) fun v74 h=>?_;cases h)<;>refine xE 11 75 rfl ZB ?_<;>(refine Zy 12 kR ?_)<;>(refine WP rfl rfl kR fun DQ back=>?_)<;>refine Lm 302 K2 ?_<;>refine Zr (back _ (nav ?_))<;>try dsimp only)
 (refine ZR (fun i=>([14]:List Nat).elem i) [6,14,303] kR ?_<;>refine xD 0 76 rfl Za ?_<;>refine xD 1 77 rfl (Gf 14) ?_<;>refine xD 2 78 rfl (Zm 14 Ri) ?_<;>(refine yD 3 79 rfl (Zp 14 K7) fun v79 h=>?_;cases h)<;>refine xD 4 80 rfl (Zm 6 Yd) ?_<;>(refine yD 5 81 rfl (Zp 6 ZL) fun v81 h=>?_;cases h)<;>refine xD 6 82 rfl Za ?_<;>refine xD 7 83 rfl KW ?_<;>refine xD 8 84 rfl (Tf Zu) ?_<;>(refine yD 9 85 rfl (Zt ZJ) fun v85 h=>?_;cases h)<;>refine xD 10 86 rfl (Ll 303 K2 (hk:=J5 _ _) (hu:=CW _ _)) ?_<;>refine xE 11 87 rfl (Zm 6 YO) ?_<;>(refine yE 12 88 rfl (Zp 6 Zx) fun v88 h=>?_;cases h)<;>refine xE 13 89 rfl ZB ?_<;>(refine Zy 14 kR ?_)<;>(refine WP rfl rfl kR fun DQ back=>?_)<;>refine Lm 303 K2 ?_<;>refine Zr (back _ (nav ?_))<;>try dsimp only)
 (refine Zk ?_<;>refine xL 90 ZB (xL 17 Za ?_)<;>refine Zc ?_)
 try rw [P7,P7]
 try rw [show Jh st.s s0 (iget st.s s0+x.count)=(mk1 st x).s by unfold mk1;cases hc:x.acts with|nil=>rw [hc] at hs0;simp at hs0|cons z t=>rw [hc] at hs0;simp at hs0;subst hs0;rfl]
 try rw [show Jh st.f s1 (iget st.f s1+x.count)=(mk1 st x).f by unfold mk1;rw [List.getLast?_eq_getElem?,hs1];rfl]
 try rw [show st.s=(mk1 st x).s by unfold mk1;rw [show x.acts=[] from XC oM],show st.f=(mk1 st x).f by unfold mk1;rw [show x.acts=[] from XC oM];rfl]
 rw [←hnx];refine Zf (
  ⟨k+1,oM⟩
  ) (by dsimp only;omega) ⟨rfl,rfl,rfl,rfl,rfl,trivial⟩ ⟨rfl,rfl,rfl,rfl,rfl,rfl,trivial⟩)
 · first|exact bN hb63|(
 refine Zd ?_;(refine xL 90 ZB (xL 17 Za ?_)<;>refine Zc ?_)
 try rw [P7,P7]
 try rw [show Jh st.s s0 (iget st.s s0+x.count)=(mk1 st x).s by unfold mk1;cases hc:x.acts with|nil=>rw [hc] at hs0;simp at hs0|cons z t=>rw [hc] at hs0;simp at hs0;subst hs0;rfl]
 try rw [show Jh st.f s1 (iget st.f s1+x.count)=(mk1 st x).f by unfold mk1;rw [List.getLast?_eq_getElem?,hs1];rfl]
 try rw [show st.s=(mk1 st x).s by unfold mk1;rw [show x.acts=[] from XC oM],show st.f=(mk1 st x).f by unfold mk1;rw [show x.acts=[] from XC oM];rfl]
 rw [←hnx];refine Zf (
  ⟨k+1,oM⟩
  ) (by dsimp only;omega) ⟨rfl,rfl,rfl,rfl,rfl,trivial⟩ ⟨rfl,rfl,rfl,rfl,rfl,rfl,trivial⟩)))
 · first|exact bN hb18|(
 refine nav ?_;obtain rfl:k=l.length:=oM;rw [XD] at hst;have hKl:=hKk;rw [hst] at hKl ⊢;have hAl:=hKl.a.len;(refine Zk ?_<;>refine xL 91 Za (xL 92 (Gf 14) (xL 93 (Zm 14 LF) ?_))<;>(refine yL 94 (Zp 14 K7) fun v94 h=>?_;cases h)<;>refine xL 95 (ζe 301 underlying78) (xL 96 Kj ?_)<;>refine Zc ?_)
 refine cX ?_ ?_<;>intro hb96
 · first|exact bN hb96|(
 refine Zd ?_;(refine xL 97 (Yt JF) ?_<;>refine YN 2 Z9 ?_<;>refine xL 3 Zb ?_<;>refine Zc ?_)
 exact Kz (k:=4) 2 kR (results13) rfl rfl rfl (Xa rfl) dC rfl (.inr (.inl ⟨hV,by unfold skv Wa at hb96;simp only [Xc] at hb96;omega,rfl⟩)))
 · first|exact bN hb96|(
 refine nav ?_;(have h40:(Wl l).a.length≤40:=by unfold skv Wa at hb96;simp only [Xc] at hb96;omega);refine Zz (Jc (l:=14) (l':=301) (j:=0) rfl rfl rfl rfl) fun _=>?_;refine Zz (Jc (l:=14) (l':=302) (j:=1) rfl rfl rfl rfl) fun _=>?_;refine Zz (Jc (l:=14) (l':=303) (j:=2) rfl rfl rfl rfl) fun _=>?_;refine Zz (Jc (l:=14) (l':=304) (j:=3) rfl rfl rfl rfl) fun _=>?_;refine Zz (K' (l:=14) (t:=4) (j:=0) rfl X3 rfl) fun _=>?_;dsimp only [Yf,share,List.set];(refine Zk ?_<;>refine xL 98 Za ?_<;>(refine cDx 99 (cA call45 ((Zdb (Wl l) _ oM hKl).mono (R':=fun p=>∃i:{g//LG g (Wl l)},p=WS i.1) fun p ⟨g,h1,h2⟩=>⟨⟨g,h1⟩,h2⟩)) (fun i v99 hv99=>?_) (fun _=>rfl);obtain ⟨g,hg⟩:=i;dsimp only [WS])<;>refine YN 2 Z9 ?_<;>refine xL 3 Zb ?_<;>refine Zc ?_)
 exact Kz (k:=4) 2 kR (results13) rfl rfl rfl (Xa rfl) dC rfl (.inr (.inr ⟨hV,h40,g,hg,rfl⟩)))))
section
variable {κ:Type} [DecidableEq κ]
def Ry (lt:κ→κ→Bool):List (κ×Int)→κ→Int→List (κ×Int)
 |[],k,n=>[(k,n)]
 |c::t,k,n=>if lt c.1 k then c::Ry lt t k n else if c.1=k then (k,c.2+n)::t else (k,n)::c::t
structure Ord (lt:κ→κ→Bool):Prop where
 irr:∀a,lt a a=false
 tr:∀a b c,lt a b=true→lt b c=true→lt a c=true
 tot:∀a b,lt a b=false→lt b a=false→a=b
theorem SJ {m:List (κ×Int)} {k:κ} (h:∀x∈m,x.1≠k):iget m k=0:=by
 induction m with
 |nil=>rfl
 |cons x m ih=>rw [iget,Uz (fun e=>h x sM e.symm)];exact ih fun y hy=>h y (by simp [hy])
theorem SK {m:List (κ×Int)} {k:κ} {v:Int} (h:∀x∈m,x.1≠k):Jh m k v=m++[(k,v)]:=by
 induction m with
 |nil=>rfl
 |cons x m ih=>rw [Jh,Uz (fun e=>h x sM e.symm),ih fun y hy=>h y (by simp [hy])];rfl
theorem Ki (x:κ×Int) (m:List (κ×Int)) (k:κ) (n:Int):KB (x::m) k n=if k=x.1 then (k,x.2+n)::m else x::KB m k n:=by
 unfold KB
 rw [iget,Jh]
 split<;>rfl
theorem ZbI {m m':List (κ×Int)} {k:κ} {n:Int} (h:m.Perm m'):(m.map (·.1)).Nodup→(KB m k n).Perm (KB m' k n):=by
 induction h with
 |nil=>intro _;exact .refl _
 | cons x _ ih=>
   intro hn;rw [Xk,XZ] at hn;rw [Ki,Ki];split
   · rename_i h e;exact (by assumption:List.Perm _ _).cons _
   · exact (ih hn.2).cons _
 | swap x y l=>
   intro hn;rw [Xk,Xk,XZ] at hn;have hne:y.1≠x.1:=fun e=>hn.1 (by rw [e];simp);rw [Ki,Ki,Ki,Ki];by_cases e1:k=y.1
   · rw [UA e1,Uz (fun e=>hne (e1.symm.trans e)),UA e1];exact List.Perm.swap _ _ _
   · rw [Uz e1,Uz e1];split
     · exact List.Perm.swap _ _ _
     · exact List.Perm.swap _ _ _
 | trans h1 _ ih1 ih2=>
   intro hn;exact (ih1 hn).trans (ih2 (((h1.map (fun x:κ×Int=>x.1)).pairwise_iff (R:=(· ≠ ·)) fun h=>Ne.symm h).1 hn))
theorem Dl {lt:κ→κ→Bool} (hO:Ord lt) {k:κ} {n:Int}:∀{L:List (κ×Int)},L.Pairwise (fun a b=>lt a.1 b.1=true)→(Ry lt L k n).Perm (KB L k n)
 | [],_=>by
   show List.Perm [(k,n)] [(k,0+n)];rw [Int.zero_add]
 | c :: t,h=>by
   rw [XB] at h;rw [Ry,Ki];by_cases h1:lt c.1 k=true
   · rw [UA h1,Uz (fun e=>by rw [e,hO.irr] at h1;exact Bool.noConfusion h1)];exact (Dl hO h.2).cons c
   · rw [Uz h1];by_cases h2:c.1=k
     · rw [UA h2,UA h2.symm]
     · rw [Uz h2,Uz (Ne.symm h2)];have h3:lt k c.1=true:=by
        cases h4:lt k c.1 with
        |true=>rfl
        |false=>exact UB (hO.tot _ _ (by simpa using h1) h4) h2
       have h5:∀x∈t,x.1≠k:=fun x hx e=>by
        have h6:=hO.tr _ _ _ h3 (h.1 x hx);rw [e,hO.irr] at h6;exact Bool.noConfusion h6
       unfold KB;rw [SJ h5,SK h5,Int.zero_add];exact (List.Perm.swap _ _ _).trans ((Uv _ _).symm.cons c)
theorem EH {lt:κ→κ→Bool} {k:κ} {n:Int}:∀{L:List (κ×Int)} {x:κ×Int},x∈Ry lt L k n→x.1=k∨x∈L
 |[],x,h=>by simp [Ry] at h;exact .inl (by rw [h])
 | c :: t,x,h=>by
   rw [Ry] at h;split at h
   · rcases Xn.1 h with h|h
     · exact .inr (by simp [h])
     · rcases EH h with h|h
       · exact .inl h
       · exact .inr (by simp [h])
   · split at h
     · rcases Xn.1 h with h|h
       · exact .inl (by rw [h])
       · exact .inr (by simp [h])
     · rcases Xn.1 h with h|h
       · exact .inl (by rw [h])
       · exact .inr h
theorem Rm {lt:κ→κ→Bool} (hO:Ord lt) {k:κ} {n:Int}:∀{L:List (κ×Int)},L.Pairwise (fun a b=>lt a.1 b.1=true)→(Ry lt L k n).Pairwise fun a b=>lt a.1 b.1=true
 |[],_=>by simp [Ry]
 | c :: t,h=>by
   have h':=h;rw [XB] at h;rw [Ry];by_cases h1:lt c.1 k=true
   · rw [UA h1,XB];refine ⟨fun x hx=>?_,Rm hO h.2⟩;rcases EH hx with e|e
     · rw [e];exact h1
     · exact h.1 x e
   · rw [Uz h1];by_cases h2:c.1=k
     · rw [UA h2,XB];exact ⟨fun x hx=>h2▸h.1 x hx,h.2⟩
     · rw [Uz h2,XB];have h3:lt k c.1=true:=by
        cases h4:lt k c.1 with
        |true=>rfl
        |false=>exact UB (hO.tot _ _ (by simpa using h1) h4) h2
       refine ⟨fun x hx=>?_,h'⟩;rcases Xn.1 hx with e|e
       · rw [e];exact h3
       · exact hO.tr _ _ _ h3 (h.1 x e)
def SameK (lt:κ→κ→Bool) (L m:List (κ×Int)):Prop:=L.Perm m∧L.Pairwise fun a b=>lt a.1 b.1=true
theorem SameK.add {lt:κ→κ→Bool} (hO:Ord lt) {L m:List (κ×Int)} (h:SameK lt L m) (hn:(m.map (·.1)).Nodup) (k:κ) (n:Int):SameK lt (Ry lt L k n) (KB m k n):=by
 refine ⟨(Dl hO h.2).trans (ZbI h.1 ?_),Rm hO h.2⟩
 exact ((h.1.map (fun x:κ×Int=>x.1)).pairwise_iff (R:=(· ≠ ·)) fun h=>Ne.symm h).2 hn
theorem SameK.unique {lt:κ→κ→Bool} (hO:Ord lt) {L L' m:List (κ×Int)} (h:SameK lt L m) (k:SameK lt L' m):L=L':=
 ζy (fun a _ b _ hab hba=>by
  have:=hO.tr _ _ _ hab hba;rw [hO.irr] at this;exact Bool.noConfusion this) h.2 k.2 fun c=>by rw [h.1.mem_iff,k.1.mem_iff]
end
theorem Zdg:Ord strLt:=⟨Wt,fun _ _ _=>Wu,fun _ _=>KF⟩
def Zep (a b:Pr):Bool:=flwLt ⟨a.1,a.2,0⟩ ⟨b.1,b.2,0⟩
theorem ZeH:Ord Zep:=⟨fun a=>Uy (Jb _),fun a b c h1 h2=>Ux (KT (UC h1) (UC h2)),fun a b h1 h2=>by
 have h1:=UD h1
 have h2:=UD h2
 by_cases e:a.1=b.1∧a.2=b.2
 · exact Prod.ext e.1 e.2
 · exact UB (Jr h2 e) h1⟩
def unC (c:Cnt):ByteArray×Int:=(c.name,c.n)
def unF (f:Flw):Pr×Int:=((f.src,f.dst),f.n)
theorem Dm {L:List Cnt} {m:List (ByteArray×Int)}:SameC L m↔SameK strLt (L.map unC) m:=by
 unfold SameC SameK
 rw [Vd]
 constructor
 · rintro ⟨h1,h2⟩;refine ⟨?_,h2⟩;have:=h1.map unC;rw [Xs] at this;exact this.trans (List.Perm.of_eq (Vj _))
 · rintro ⟨h1,h2⟩;refine ⟨?_,h2⟩;have:=h1.map mkC;rw [Xs] at this;exact (List.Perm.of_eq (Vj _).symm).trans this
theorem Dn {L:List Flw} {m:List (Pr×Int)}:SameF L m↔SameK Zep (L.map unF) m:=by
 unfold SameF SameK
 rw [Vd]
 have hlt:∀a b:Flw,Zep (unF a).1 (unF b).1=true↔Wk a b<0:=fun a b=>decide_eq_true_iff
 constructor
 · rintro ⟨h1,h2⟩;refine ⟨?_,h2.imp fun h=>(hlt _ _).2 h⟩;have:=h1.map unF;rw [Xs] at this;exact this.trans (List.Perm.of_eq (Vj _))
 · rintro ⟨h1,h2⟩;refine ⟨?_,h2.imp fun h=>(hlt _ _).1 h⟩;have:=h1.map mkF;rw [Xs] at this;exact (List.Perm.of_eq (Vj _).symm).trans this
def ZfQ (L:List Cnt) (s:ByteArray) (n:Int):List Cnt:=(Ry strLt (L.map unC) s n).map mkC
def ZfR (L:List Flw) (p:Pr) (n:Int):List Flw:=(Ry Zep (L.map unF) p n).map mkF
theorem ZbJ {L:List Cnt} {m:List (ByteArray×Int)} (h:SameC L m) (hn:(m.map (·.1)).Nodup) (s:ByteArray) (n:Int):SameC (ZfQ L s n) (KB m s n):=by
 rw [Dm] at h ⊢
 unfold ZfQ
 rw [Xs,show (unC∘mkC)=id from rfl,Vj]
 exact h.add Zdg hn s n
theorem ZbK {L:List Flw} {m:List (Pr×Int)} (h:SameF L m) (hn:(m.map (·.1)).Nodup) (p:Pr) (n:Int):SameF (ZfR L p n) (KB m p n):=by
 rw [Dn] at h ⊢
 unfold ZfR
 rw [Xs,show (unF∘mkF)=id from rfl,Vj]
 exact h.add ZeH hn p n
theorem G6 {L L':List Cnt} {m:List (ByteArray×Int)} (h:SameC L m) (k:SameC L' m):L=L':=by
 rw [Dm] at h k
 have:=congrArg (List.map mkC) (h.unique Zdg k)
 rw [Xs,Xs] at this
 exact (Vj L).symm.trans (this.trans (Vj L'))
theorem D' {L L':List Flw} {m:List (Pr×Int)} (h:SameF L m) (k:SameF L' m):L=L':=by
 rw [Dn] at h k
 have:=congrArg (List.map mkF) (h.unique ZeH k)
 rw [Xs,Xs] at this
 exact (Vj L).symm.trans (this.trans (Vj L'))
structure MidG (st:M4) (x:Var) (j:Nat) (g:Dfg):Prop where
 a:SameC g.acts (midA st x j)
 s:SameC g.starts (if j=0 then st.s else (mk1 st x).s)
 f:SameC g.ends (if j=x.acts.length then (mk1 st x).f else st.f)
 q:SameF g.follows (midQ st x j)
theorem Ha {g g':Dfg} {st:M4} (h:LG g st) (k:LG g' st):g=g':=by
 obtain ⟨a,s,f,q⟩:=g
 obtain ⟨a',s',f',q'⟩:=g'
 have e1:=G6 h.1 k.1
 have e2:=G6 h.2.1 k.2.1
 have e3:=G6 h.2.2.1 k.2.2.1
 have e4:=D' h.2.2.2 k.2.2.2
 dsimp only at e1 e2 e3 e4
 rw [e1,e2,e3,e4]
end Go.Proofs.YtmkojdfiadbeeaaGreat
namespace Go.En
open Go.RowKit Go.Cb
set_option linter.all false
section
variable {P:Program} {st:St} {o:Oper}
end
end Go.En
namespace Go.Proofs.YtmkojdfiadbeeaaGreat
open Go.RowKit Go.Cb Go.En Tryz
set_option linter.all false
set_option maxRecDepth 100000
theorem RJ {l:List ByteArray} {s:ByteArray} (h:hasStr l s=true):l[ixN l s]? =some s:=by
 obtain ⟨i,x,h1,h2,h3⟩:=Zel (p:=fun x=>WA x s) (l:=l) h
 unfold ixN
 rw [h1,Xt,h2,WW.1 h3]
theorem EI {l:List ByteArray} (h:chainB strLt l=true):l.Pairwise fun a b=>strLt a b=true:=by
 induction l with
 |nil=>exact .nil
 | cons x l ih=>
   have h1:∀i a b,(x::l)[i]? =some a→(x::l)[i+1]? =some b→strLt a b=true:=(WN strLt _).1 h;have h2:=ih ((WN strLt l).2 fun i a b ha hb=>h1 (i+1) a b ha hb);refine XB.2 ⟨fun y hy=>?_,h2⟩
   cases l with
   |nil=>simp at hy
   | cons z l=>
     have h3:=h1 0 x z rfl rfl;rcases Xn.1 hy with rfl|hy
     · exact h3
     · exact Wu h3 ((XB.1 h2).1 y hy)
theorem Zdh {acts:List ByteArray} (hc:chainB strLt acts=true) {s t:ByteArray} (hs:hasStr acts s=true) (ht:hasStr acts t=true) (hlt:strLt s t=true):ixN acts s<ixN acts t:=by
 have h1:=RJ hs
 have h2:=RJ ht
 rcases VL (ixN acts s) (ixN acts t) with h3|h3|h3
 · exact h3
 · rw [h3,h2] at h1
   cases h1;rw [Wt] at hlt;cases hlt
 · exfalso;have h4:=XX.1 (EI hc) _ _ (Ze h2) (Ze h1) h3;rw [Xx (Ze h1)] at h1;rw [Xx (Ze h2)] at h2;injection h1 with h1;injection h2 with h2;rw [h1,h2] at h4;have:=Wu hlt h4;rw [Wt] at this;cases this
theorem ζV {acts:List ByteArray} {s t:ByteArray} (hs:hasStr acts s=true) (ht:hasStr acts t=true) (h:ixN acts s=ixN acts t):s=t:=by
 have h1:=RJ hs
 rw [h,RJ ht] at h1
 injection h1 with h1;exact h1.symm
structure GOk (g:Dfg):Prop where
 n40:g.acts.length≤40
 asc:chainB strLt (cnames g.acts)=true
 st:∀c∈g.starts,hasStr (cnames g.acts) c.name=true
 en:∀c∈g.ends,hasStr (cnames g.acts) c.name=true
 fl:∀f∈g.follows,hasStr (cnames g.acts) f.src=true∧hasStr (cnames g.acts) f.dst=true
 stA:chainB strLt (cnames g.starts)=true
 enA:chainB strLt (cnames g.ends)=true
 flA:chainB flwLt g.follows=true
theorem Zfo {g:Dfg} (h:WU g=true):GOk g:=by
 have h0:=LV h
 have hl:(cnames g.acts).length=g.acts.length:=by simp [cnames]
 unfold WU WG Sk at h
 simp only [Xd] at h
 obtain ⟨⟨⟨⟨⟨⟨⟨h1,h2⟩,h3⟩,h4⟩,h5⟩,h6⟩,h7⟩,h8⟩:=h
 exact ⟨oM,h1.2,h0.2.1,h0.2.2.1,h0.2.2.2,h2.1,h3.1,h8⟩
theorem GOk.ix {g:Dfg} (h:GOk g) {s:ByteArray} (hs:hasStr (cnames g.acts) s=true):ixN (cnames g.acts) s<g.acts.length:=by
 have:=(Sm hs).2
 simpa [cnames] using this
theorem Zfp {l:List Flw} (h:chainB flwLt l=true):l.Pairwise fun a b=>Wk a b<0:=by
 have h1:=P5 h (fun a _=>by unfold flwLt;exact Uy (Jb a)) (fun a _ b _ c _ h1 h2=>by
  unfold flwLt at*;exact Ux (KT (UC h1) (UC h2)))
 exact h1.imp fun h=>UC h
theorem GOk.flen {g:Dfg} (h:GOk g):g.follows.length≤1600:=by
 have h1:(g.follows.map fun f=>(ixN (cnames g.acts) f.src,ixN (cnames g.acts) f.dst)).Nodup:=by
  refine Vd.2 (List.Pairwise.imp_of_mem (fun {a b} ha hb hlt e=>?_) (Zfp h.flA));have ha':=h.fl a ha;have hb':=h.fl b hb;have e1:=ζV ha'.1 hb'.1 (congrArg Prod.fst e);have e2:=ζV ha'.2 hb'.2 (congrArg Prod.snd e);rw [Re.2 ⟨e1,e2⟩] at hlt;omega
 have h2:=ZbF (n:=g.acts.length) h1 fun p hp=>by
  obtain ⟨f,hf,rfl⟩:=Xm.1 hp;exact ⟨h.ix (h.fl f hf).1,h.ix (h.fl f hf).2⟩
 rw [Xc] at h2
 have:=Nat.mul_le_mul h.n40 h.n40
 omega
theorem ζW {g:Dfg} (h:GOk g) {l:List Cnt} (hin:∀c∈l,hasStr (cnames g.acts) c.name=true) (hA:chainB strLt (cnames l)=true):l.length≤g.acts.length:=by
 have h1:(l.map fun c=>((ixN (cnames g.acts) c.name:Nat):Int)).Nodup:=by
  have hp:=EI hA;unfold cnames at hp;refine Vd.2 (List.Pairwise.imp_of_mem (fun {a b} ha hb hlt e=>?_) (Vd.1 hp));have:=Zdh h.asc (hin a ha) (hin b hb) hlt;omega
 have h2:=G5 g.acts.length _ h1 fun s hs=>by
  obtain ⟨c,hc,rfl⟩:=Xm.1 hs;have:=h.ix (hin c hc);omega
 simpa using h2
theorem Hb {α:Type} {p:α→Bool} {l:List α} (h:∀x∈l,p x=true):l.all p=true:=Xf.2 h
theorem Zeq:∀{m:List (ByteArray×Int)},(m.map (·.1)).Nodup→∃L,SameC L m
 |[],_=>⟨[], .refl _, .nil⟩
 | x ::m,h=>by
   have h':=XZ.1 h;obtain ⟨L,hL⟩:=Zeq h'.2;have h2:=ZbJ hL h'.2 x.1 x.2;have h3:KB m x.1 x.2=m++[x]:=by
    have hn:∀y∈m,y.1≠x.1:=fun y hy e=>h'.1 (Xm.2 ⟨y,hy,e⟩);unfold KB;rw [SJ hn,SK hn,Int.zero_add]
   rw [h3] at h2;exact ⟨_,h2.1.trans ((Uv x m).map mkC),h2.2⟩
theorem exF:∀{m:List (Pr×Int)},(m.map (·.1)).Nodup→∃L,SameF L m
 |[],_=>⟨[], .refl _, .nil⟩
 | x ::m,h=>by
   have h':=XZ.1 h;obtain ⟨L,hL⟩:=exF h'.2;have h2:=ZbK hL h'.2 x.1 x.2;have h3:KB m x.1 x.2=m++[x]:=by
    have hn:∀y∈m,y.1≠x.1:=fun y hy e=>h'.1 (Xm.2 ⟨y,hy,e⟩);unfold KB;rw [SJ hn,SK hn,Int.zero_add]
   rw [h3] at h2;exact ⟨_,h2.1.trans ((Uv x m).map mkF),h2.2⟩
theorem exG {st:M4} {b:Nat} (h:KOk st b):∃g,LG g st:=by
 obtain ⟨A,hA⟩:=Zeq h.a.nd
 obtain ⟨S,hS⟩:=Zeq h.s.nd
 obtain ⟨F,hF⟩:=Zeq h.f.nd
 obtain ⟨Q,hQ⟩:=exF h.q.nd
 exact ⟨⟨A,S,F,Q⟩,hA,hS,hF,hQ⟩
section
variable {κ:Type} [DecidableEq κ]
theorem SL (m:List (κ×Int)) (k j:κ) (n:Int):iget (KB m k n) j=iget m j+if j=k then n else 0:=by
 induction m with
 | nil=>
   show iget [(k,0+n)] j=0+_;unfold iget iget;split<;>simp_all
 | cons x m ih=>
   rw [Ki];by_cases h:k=x.1
   · rw [UA h];subst h;rw [iget,iget];by_cases hj:j=x.1
     · rw [UA hj,UA hj,UA hj]
     · rw [Uz hj,Uz hj,Uz hj];omega
   · rw [Uz h,iget,iget];by_cases hj:j=x.1
     · rw [UA hj,UA hj,Uz (fun e=>h (e.symm.trans hj))];omega
     · rw [Uz hj,Uz hj];exact ih
def sumIf (p:κ→Bool) (m:List (κ×Int)):Int:=(m.map fun x=>if p x.1 then x.2 else 0).sum
theorem J0 (p:κ→Bool) (x:κ×Int) (m:List (κ×Int)):sumIf p (x::m)=(if p x.1 then x.2 else 0)+sumIf p m:=by unfold sumIf;rw [Xk,V0]
theorem CY (p:κ→Bool) (m:List (κ×Int)) (k:κ) (n:Int):sumIf p (KB m k n)=sumIf p m+if p k then n else 0:=by
 induction m with
 | nil=>
   show sumIf p [(k,0+n)]=0+_;rw [J0];unfold sumIf;simp
 | cons x m ih=>
   rw [Ki];by_cases h:k=x.1
   · rw [UA h,J0,J0];subst h;dsimp only;split<;>omega
   · rw [Uz h,J0,J0,ih];omega
def T8 (p:κ→Bool) (l:List κ):Int:=(l.countP p:Nat)
theorem LH (j:κ) (n:Int):∀(ks:List κ) (m:List (κ×Int)),iget (addAll m ks n) j=iget m j+n*T8 (fun k=>decide (j=k)) ks
 |[],m=>by unfold addAll T8;simp
 | k ::ks,m=>by
   show iget (addAll (KB m k n) ks n) j=_;rw [LH j n ks,SL];unfold T8;rw [V1];by_cases h:j=k
   · rw [UA h,Ux h,UA rfl];rw [show ((List.countP (fun k=>decide (j=k)) ks+1:Nat):Int)=(List.countP (fun k=>decide (j=k)) ks:Nat)+1 by omega,V2];omega
   · rw [Uz h,Uy h];simp
theorem G7 (p:κ→Bool) (n:Int):∀(ks:List κ) (m:List (κ×Int)),sumIf p (addAll m ks n)=sumIf p m+n*T8 p ks
 |[],m=>by unfold addAll T8;simp
 | k ::ks,m=>by
   show sumIf p (addAll (KB m k n) ks n)=_;rw [G7 p n ks,CY];unfold T8;rw [V1];by_cases h:p k=true
   · rw [UA h];simp only [h,if_true];rw [show ((List.countP p ks+1:Nat):Int)=(List.countP p ks:Nat)+1 by omega,V2];omega
   · rw [Uz h];simp [h]
theorem J1 {m:List (κ×Int)} {k:κ} {n:Int} {x:κ}:x∈(KB m k n).map (·.1)↔x=k∨x∈m.map (·.1):=Dd x
theorem YB {n:Int}:∀{ks:List κ} {m:List (κ×Int)} {x:κ},x∈(addAll m ks n).map (·.1)↔x∈ks∨x∈m.map (·.1)
 |[],m,x=>by unfold addAll;simp
 | k::ks,m,x=>by
   show x∈(addAll (KB m k n) ks n).map (·.1)↔_;rw [YB,J1,Xn];exact ⟨by rintro (h|h|h)<;>simp [h],by rintro ((h|h)|h)<;>simp [h]⟩
def PosI (m:List (κ×Int)):Prop:=∀x∈m,1≤x.2
theorem PosI.get {m:List (κ×Int)} (h:PosI m) (k:κ):0≤iget m k:=by
 induction m with
 |nil=>exact Int.le_refl _
 | cons x m ih=>
   rw [iget];split
   · have:=h x sM;omega
   · exact ih fun y hy=>h y (by simp [hy])
theorem PosI.add {m:List (κ×Int)} (h:PosI m) {k:κ} {n:Int} (hn:1≤n):PosI (KB m k n):=fun x hx=>by
 rcases PX hx with rfl|hx
 · have:=h.get k;dsimp only;omega
 · exact h x hx
theorem PosI.addAll {n:Int} (hn:1≤n):∀{ks:List κ} {m:List (κ×Int)},PosI m→PosI (addAll m ks n)
 |[],_,h=>h
 |k::ks,_,h=>PosI.addAll hn (ks:=ks) (h.add (k:=k) hn)
end
theorem EJ (k:ByteArray):∀(a:ByteArray) (l:List ByteArray),T8 (fun x=>decide (k=x)) (a::l)=(if k=a then 1 else 0)+T8 (fun p:Pr=>decide (k=p.2)) (Yl (a::l))
 | a,[]=>by
   unfold T8 Yl;by_cases h:k=a<;>simp [h]
 | a, b::l=>by
   have ih:=EJ k b l;rw [Yl];unfold T8 at ih ⊢;rw [V1,V1 (p:=fun p:Pr=>decide (k=p.2))];by_cases h1:k=a
   · by_cases h2:k=b
     · simp only [h1,h2,decide_true,if_true] at ih ⊢;subst h1;subst h2;simp at ih ⊢;omega
     · subst h1;simp [h2] at ih ⊢;omega
   · by_cases h2:k=b
     · subst h2;simp [h1] at ih ⊢;omega
     · simp [h1,h2] at ih ⊢;omega
theorem Do (k:ByteArray):∀(a:ByteArray) (l:List ByteArray) (z:ByteArray),(a::l).getLast? =some z→T8 (fun x=>decide (k=x)) (a::l)=(if k=z then 1 else 0)+T8 (fun p:Pr=>decide (k=p.1)) (Yl (a::l))
 | a,[],z,hz=>by
   simp at hz;subst hz;unfold T8 Yl;by_cases h:k=a<;>simp [h]
 | a,b::l,z,hz=>by
   have ih:=Do k b l z (by rw [Ur] at hz;exact hz);rw [Yl];unfold T8 at ih ⊢;rw [V1,V1 (p:=fun p:Pr=>decide (k=p.1))];by_cases h1:k=a
   · subst h1;simp at ih ⊢;omega
   · simp [h1] at ih ⊢;omega
structure MInv (st:M4):Prop where
 na:∀x∈st.a.map (·.1),isName x=true
 pa:PosI st.a
 ps:PosI st.s
 pf:PosI st.f
 pq:PosI st.q
 ks:∀x∈st.s.map (·.1),x∈st.a.map (·.1)
 kf:∀x∈st.f.map (·.1),x∈st.a.map (·.1)
 kq:∀x∈st.q.map (·.1),x.1∈st.a.map (·.1)∧x.2∈st.a.map (·.1)
 fin:∀k,iget st.s k+sumIf (fun p:Pr=>decide (k=p.2)) st.q=iget st.a k
 fout:∀k,iget st.f k+sumIf (fun p:Pr=>decide (k=p.1)) st.q=iget st.a k
theorem MInv.nil:MInv ⟨[],[],[],[]⟩:=⟨sM,by simp [PosI],by simp [PosI],by simp [PosI],by simp [PosI],sM,sM,sM,fun k=>rfl,fun k=>rfl⟩
theorem MInv.step {st:M4} {x:Var} (h:MInv st) (hx:YQ x=true):MInv (mk1 st x):=by
 unfold YQ at hx
 simp only [Xd,Uw,Xf] at hx
 obtain ⟨⟨⟨h1,h2⟩,h3⟩,h4⟩:=hx
 cases hw:x.acts with
 | nil=>
   have:mk1 st x=st:=by unfold mk1;rw [hw];rfl
   rw [this];exact h
 | cons a l=>
   obtain ⟨z,hz⟩:∃z,(a::l).getLast? =some z:=by
    cases hz:(a::l).getLast? with
    |none=>simp at hz
    |some z=>exact ⟨z,rfl⟩
   have hzm:z∈a::l:=List.mem_of_getLast? hz;have e:mk1 st x=⟨addAll st.a (a::l) x.count,KB st.s a x.count,KB st.f z x.count,addAll st.q (Yl (a::l)) x.count⟩:=by unfold mk1;rw [hw,hz]
   rw [hw] at h2;rw [e];refine ⟨fun k hk=>?_,h.pa.addAll h3,h.ps.add h3,h.pf.add h3,h.pq.addAll h3,fun k hk=>?_,fun k hk=>?_,fun k hk=>?_,fun k=>?_,fun k=>?_⟩
   · rcases YB.1 hk with h5|h5
     · exact h2 k h5
     · exact h.na k h5
   · rcases J1.1 hk with rfl|h5
     · exact YB.2 (.inl sM)
     · exact YB.2 (.inr (h.ks k h5))
   · rcases J1.1 hk with rfl|h5
     · exact YB.2 (.inl hzm)
     · exact YB.2 (.inr (h.kf k h5))
   · rcases YB.1 hk with h5|h5
     · have:=Ta h5;exact ⟨YB.2 (.inl this.1),YB.2 (.inl this.2)⟩
     · have:=h.kq k h5;exact ⟨YB.2 (.inr this.1),YB.2 (.inr this.2)⟩
   · show iget (KB st.s a x.count) k+sumIf _ (addAll st.q (Yl (a::l)) x.count)=iget (addAll st.a (a::l) x.count) k;rw [SL,G7,LH,EJ,←h.fin k,V2];split<;>omega
   · show iget (KB st.f z x.count) k+sumIf _ (addAll st.q (Yl (a::l)) x.count)=iget (addAll st.a (a::l) x.count) k;rw [SL,G7,LH,Do k a l z hz,←h.fout k,V2];split<;>omega
theorem MInv.all {l:List Var} (hl:∀x∈l,YQ x=true):MInv (Wl l):=by
 have key:∀(l:List Var) (st:M4),(∀x∈l,YQ x=true)→MInv st→MInv (l.foldl mk1 st):=fun l=>by
  induction l with
  |nil=>intro st _ h;exact h
  |cons x l ih=>intro st hl h;exact ih _ (fun y hy=>hl y (XE _ hy)) (h.step (hl x (XG ..)))
 exact key l _ hl MInv.nil
theorem P8 {l:List Var} (h:validVars l=true):∀x∈l,YQ x=true:=fun x hx=>by
 obtain ⟨i,hi⟩:=XF hx
 exact GM h hi
theorem ζX {l:List Var} (h:validVars l=true):KOk (Wl l) 60000:=by
 have hl:l.length≤300:=by have h2:=h;simp only [validVars,Xd,Uw] at h2;exact h2.1
 have:=KOk.all (P8 h) l.length (Xg _)
 rw [XD] at this
 exact ⟨this.a.mono oM,this.s.mono oM,this.f.mono oM,this.q.mono oM,this.k⟩
theorem ZbL {L:List Cnt} {m:List (ByteArray×Int)} (h:SameC L m) {c:Cnt} (hc:c∈L):(c.name,c.n)∈m:=by
 obtain ⟨x,hx,rfl⟩:=Xm.1 (h.1.mem_iff.1 hc)
 exact hx
theorem ZbM {L:List Flw} {m:List (Pr×Int)} (h:SameF L m) {c:Flw} (hc:c∈L):((c.src,c.dst),c.n)∈m:=by
 obtain ⟨x,hx,rfl⟩:=Xm.1 (h.1.mem_iff.1 hc)
 exact hx
theorem J2 {L:List Cnt} {m:List (ByteArray×Int)} (h:SameC L m) {s:ByteArray}:s∈cnames L↔s∈m.map (·.1):=by
 unfold cnames
 rw [(h.1.map (·.name)).mem_iff,Xs];rfl
theorem LI {α:Type} {r:α→α→Bool} {l:List α} (h:l.Pairwise fun a b=>r a b=true):chainB r l=true:=by
 refine (WN r l).2 fun i x y hx hy=>?_
 have h1:=Ze hy
 have h2:=XX.1 h i (i+1) oM h1 oM
 rw [Xx oM] at hx
 rw [Xx h1] at hy
 injection hx with hx
 injection hy with hy
 rw [←hx,←hy];exact h2
theorem Rn {L:List Cnt} {m:List (ByteArray×Int)} (h:SameC L m):chainB strLt (cnames L)=true:=by
 refine LI ?_
 unfold cnames
 exact Vd.2 h.2
theorem P9 {n:Int} (h1:1≤n) (h2:n≤4503599627370496):YK n=true:=by unfold YK;rw [Ux h1,Ux h2];rfl
theorem RL {l:List ByteArray} {s:ByteArray} (h:s∈l):hasStr l s=true:=S2 h
theorem Zer {st:M4} {b:Nat} {g:Dfg} (hK:KOk st b) (hb:b*1048576≤4503599627370496) (hI:MInv st) (h40:st.a.length≤40) (h:LG g st):WU g=true:=by
 obtain ⟨hA,hS,hF,hQ⟩:=h
 have hal:(cnames g.acts).length≤40:=by
  have:=hA.1.length_eq;rw [Xc] at this;unfold cnames;rw [Xc];omega
 have cnt:∀{m:List (ByteArray×Int)} {L:List Cnt},MOk m b→PosI m→SameC L m→L.all (fun c=>YK c.n)=true:=fun hm hp hL=>Hb fun c hc=>by
  have h1:=ZbL hL hc;have h2:=hp _ h1;have h3:=(hm.bd _ h1).2;dsimp only at h2 h3;exact P9 h2 oM
 have asc:∀{m:List (ByteArray×Int)} {L:List Cnt},(∀x∈m.map (·.1),x∈st.a.map (·.1))→SameC L m→Sk (cnames L) (cnames g.acts)=true:=fun hk hL=>by
  unfold Sk;rw [Rn hL,V9];exact Hb fun s hs=>RL ((J2 hA).2 (hk s ((J2 hL).1 hs)))
 unfold WU
 rw [show WG (cnames g.acts)=true by
  unfold WG;rw [Ux hal,Rn hA,Hb fun s hs=>hI.na s ((J2 hA).1 hs)];rfl]
 rw [asc hI.ks hS,asc hI.kf hF,cnt hK.a hI.pa hA,cnt hK.s hI.ps hS,cnt hK.f hI.pf hF]
 rw [show g.follows.all (JQ (cnames g.acts))=true from Hb fun f hf=>by
  have h1:=ZbM hQ hf;have h2:=hI.pq _ h1;have h3:=(hK.q.bd _ h1).2;dsimp only at h2 h3;have h4:=hI.kq (f.src,f.dst) (Xm.2 ⟨_,h1,rfl⟩);unfold JQ;rw [P9 h2 oM,RL ((J2 hA).2 h4.1),RL ((J2 hA).2 h4.2)];rfl]
 rw [show chainB flwLt g.follows=true from LI (hQ.2.imp fun h=>Ux h)];rfl
structure Ptn (n:Nat) (cs:List (List Int)):Prop where
 mem:∀x,x∈cs.flatten↔0≤x∧x<n
 nd:cs.flatten.Nodup
 ne:∀c∈cs,c≠[]
 asc:∀c∈cs,c.Pairwise (· < ·)
theorem ζY:∀{l:List ByteArray},chainB strLt l=true→l.Pairwise fun a b=>strLt a b=true
 |[],_=> .nil
 |[a],_=>List.pairwise_singleton _ _
 | a::b::l,h=>by
   simp only [chainB,Xd] at h;have ih:=ζY h.2;refine XB.2 ⟨fun c hc=>?_,ih⟩;rcases Xn.1 hc with rfl|hc
   · exact h.1
   · exact Wu h.1 ((XB.1 ih).1 c hc)
theorem G8 {l:List ByteArray} {x:Int} (h:0≤x∧x<l.length):l[x.toNat]? =some (Y7 l x):=by
 obtain ⟨y,hy⟩:∃y,l[x.toNat]? =some y:=⟨l[x.toNat]'oM,Xx oM⟩
 unfold Y7;rw [hy];rfl
theorem SN {l:List ByteArray} (hl:chainB strLt l=true) {x y:Int} (hx:0≤x∧x<l.length) (hy:0≤y∧y<l.length) (h:x<y):strLt (Y7 l x) (Y7 l y)=true:=by
 have h1:=XX.1 (ζY hl) x.toNat y.toNat oM oM oM
 have e1:=G8 hx
 have e2:=G8 hy
 rw [Xx oM] at e1 e2
 injection e1 with e1
 injection e2 with e2
 rw [e1,e2] at h1
 exact h1
theorem CZ {l:List ByteArray} (hl:chainB strLt l=true) {x y:Int} (hx:0≤x∧x<l.length) (hy:0≤y∧y<l.length) (h:Y7 l x=Y7 l y):x=y:=by
 rcases Int.lt_trichotomy x y with h1|h1|h1
 · have:=SN hl hx hy h1;rw [h,Wt] at this;cases this
 · exact h1
 · have:=SN hl hy hx h1;rw [h,Wt] at this;cases this
theorem C0 {l:List ByteArray} {s:ByteArray}:hasStr l s=true↔s∈l:=JX
theorem ZbN {l:List ByteArray} (hn:l.all isName=true) (hl:chainB strLt l=true) {c:List Int} (hc:c≠[]) (hr:∀x∈c,0≤x∧x<l.length) (ha:c.Pairwise (· < ·)):GJ (c.map (Y7 l))=true:=by
 unfold GJ
 rw [Xd,Xd]
 refine ⟨⟨?_,?_⟩,?_⟩
 · cases c with
   |nil=>exact UB rfl hc
   |cons=>rfl
 · rw [Xf];intro s hs;obtain ⟨x,hx,rfl⟩:=Xm.1 hs;exact Xf.1 hn _ (Xb (G8 (hr x hx)))
 · refine LI (Vd.2 (List.Pairwise.imp_of_mem (fun {a b} ha hb h=>?_) ha));exact SN hl (hr a ha) (hr b hb) h
theorem EK:∀{p seen:List ByteArray},(seen++p).Nodup→JL seen p=true
 |[],_,_=>rfl
 | s ::p,seen,h=>by
   rw [JL,Xd];constructor
   · cases hb:hasStr seen s
     · rfl
     · exact UB rfl ((Vg.1 h).2.2 s (JX.1 hb) s (XG ..))
   · refine EK ?_;rw [XM];exact h
theorem Ro:∀{ps:List (List ByteArray)} {seen:List ByteArray},(∀p∈ps,GJ p=true)→(seen++ps.flatten).Nodup→W3 seen ps=true
 |[],_,_,_=>rfl
 | p::ps,seen,h,hn=>by
   rw [XT,←XM] at hn;rw [W3,Xd,Xd];exact ⟨⟨h p (XG ..),EK (Vg.1 hn).1⟩,Ro (fun q hq=>h q (XE _ hq)) hn⟩
theorem P' (l:List ByteArray) (cs:List (List Int)):(Zq l cs).flatten=cs.flatten.map (Y7 l):=by
 unfold Zq;rw [List.map_flatten]
theorem Rp {l:List ByteArray} (hl:chainB strLt l=true) {cs:List (List Int)} (h:Ptn l.length cs):(Zq l cs).flatten.Nodup:=by
 rw [P']
 refine Vd.2 (List.Pairwise.imp_of_mem (fun {a b} ha hb h1 h2=>?_) h.nd)
 exact h1 (CZ hl ((h.mem a).1 ha) ((h.mem b).1 hb) h2)
theorem Hc {l:List ByteArray} (hn:l.all isName=true) (hl:chainB strLt l=true) {cs:List (List Int)} (h:Ptn l.length cs) (h2:2≤cs.length) {k:Int} (hk:1≤k∧k≤4):Z8 ⟨k,Zq l cs⟩=true:=by
 unfold Z8
 simp only [Xd,Uw]
 refine ⟨⟨⟨hk.1,hk.2⟩,by unfold Zq;rw [Xc];exact h2⟩,Ro (fun p hp=>?_) (by rw [Ve];exact Rp hl h)⟩
 unfold Zq at hp
 obtain ⟨c,hc,rfl⟩:=Xm.1 hp
 exact ZbN hn hl (h.ne c hc) (fun x hx=>(h.mem x).1 (XN.2 ⟨c,hc,hx⟩)) (h.asc c hc)
theorem ζZ {l:List ByteArray} (hl:chainB strLt l=true) {cs:List (List Int)} (h:Ptn l.length cs) {k:Nat} {c:List Int} (hc:cs[k]? =some c) {x:Int} (hx:x∈c):partOf (Zq l cs) (Y7 l x)=k:=
 Ed (Rp hl h) (p:=c.map (Y7 l)) (by unfold Zq;rw [Xl,hc];rfl) (Xm.2 ⟨x,hx,rfl⟩)
theorem Zdi {l:List ByteArray} (hl:chainB strLt l=true) {cs:List (List Int)} (h:Ptn l.length cs) {k:Nat} {c:List Int} (hc:cs[k]? =some c) {i:Nat} (hx:(i:Int)∈c) (kd:Int):atF ⟨kd,Zq l cs⟩ l i=k:=by
 have:=ζZ hl h hc hx
 exact this
theorem Zdj {n:Nat} {cs:List (List Int)} (h:Ptn n cs) {i:Nat} (hi:i<n):∃k c,cs[k]? =some c∧(i:Int)∈c∧k<cs.length:=by
 obtain ⟨c,hc,hx⟩:=XN.1 ((h.mem i).2 ⟨oM,oM⟩)
 obtain ⟨k,hk⟩:=XF hc
 exact ⟨k,c,hk,hx,(Xh.1 hk).1⟩
theorem Hd {l:List ByteArray} (hl:chainB strLt l=true) {cs:List (List Int)} (h:Ptn l.length cs) {i:Nat} (hi:i<l.length) (kd:Int):∃k c,cs[k]? =some c∧(i:Int)∈c∧k<cs.length∧atF ⟨kd,Zq l cs⟩ l i=k:=by
 obtain ⟨k,c,h1,h2,h3⟩:=Zdj h hi
 exact ⟨k,c,h1,h2,h3,Zdi hl h h1 h2 kd⟩
theorem Ptn.apart {n:Nat} {cs:List (List Int)} (h:Ptn n cs) {i j:Nat} {c d:List Int} (hc:cs[i]? =some c) (hd:cs[j]? =some d) {x:Int} (hx:x∈c) (hy:x∈d):i=j:=by
 have aux:∀{i j:Nat} {c d:List Int},i<j→cs[i]? =some c→cs[j]? =some d→x∈c→x∈d→False:=fun {i j c d} hij hc hd hx hy=>by
  have h1:=XX.1 (VX.1 h.nd).2 i j (Xh.1 hc).1 (Xh.1 hd).1 hij;rw [(Xh.1 hc).2,(Xh.1 hd).2] at h1;exact h1 x hx x hy rfl
 rcases VL i j with h1|h1|h1
 · exact (aux h1 hc hd hx hy).elim
 · exact h1
 · exact (aux h1 hd hc hy hx).elim
theorem Zes {n:Nat} {cs:List (List Int)} (h:Ptn n cs):cs.flatten.length=n:=by
 have h1:cs.flatten.Perm (upTo n):=by
  refine (List.perm_ext_iff_of_nodup h.nd ?_).2 fun x=>?_
  · exact (JW n).imp fun h=>oM
  · rw [h.mem,Yk]
 rw [h1.length_eq,W8]
theorem Zet {l:List ByteArray} (hl:chainB strLt l=true) {cs:List (List Int)} (h:Ptn l.length cs) {E:Nat→Nat→Bool} {S F:Nat→Bool} {kd:Int}
 (hends:∀(k:Nat) (c:List Int),cs[k]? =some c→(kd=3→Gh c S=true∧Gh c F=true)∧(kd=4→0<k→Gh c S=false∧Gh c F=false))
 (hpair:∀(i j:Nat) (c d:List Int),i<j→cs[i]? =some c→cs[j]? =some d→∀x∈c,∀y∈d,Je l.length E (ZT l.length E) S F kd x.toNat y.toNat (decide (i=0))=true):
 Zct l l.length E S F ⟨kd,Zq l cs⟩=true:=by
 unfold Zct
 simp only [Xd]
 have hall:∀(p:Nat→Bool) (n:Nat),(∀i,i<n→p i=true)→Lb n p=true:=fun p n hp=>Xf.2 fun i hi=>hp i (XJ.1 hi)
 refine ⟨⟨hall _ _ fun i hi=>?_,?_,hall _ _ fun k hk=>?_⟩,hall _ _ fun a ha=>hall _ _ fun b hb=>?_⟩
 · obtain ⟨k,c,_,_,_,h4⟩:=Hd hl h hi kd;rw [h4];exact Ux oM
 · rw [Uw,P',Xc,Zes h]
 · have hk:k<cs.length:=by unfold Zq at hk;rw [Xc] at hk;exact hk
   obtain ⟨c,hc⟩:∃c,cs[k]? =some c:=⟨_,Xx hk⟩;have h1:=hends k c hc;have conv:∀f:Nat→Bool,JU l.length (fun a=>decide (atF ⟨kd,Zq l cs⟩ l a=k)&&f a)=Gh c f:=fun f=>by
    rw [VK];unfold JU Gh;rw [XS,XS];constructor
    · rintro ⟨a,ha,hb⟩;rw [Xd,Uw] at hb;obtain ⟨k',c',h2,h3,_,h4⟩:=Hd hl h (XJ.1 ha) kd;rw [h4] at hb;(have:k'=k:=by have:=hb.1;omega);subst this;rw [h2] at hc;cases hc;exact ⟨a,h3,by simpa using hb.2⟩
    · rintro ⟨x,hx,hb⟩;have hr:=(h.mem x).1 (XN.2 ⟨c,Xb hc,hx⟩);have hxe:((x.toNat:Nat):Int)=x:=oM;refine ⟨x.toNat,XJ.2 oM,?_⟩;rw [Xd,Uw];exact ⟨Zdi hl h hc (by rw [hxe];exact hx) kd,hb⟩
   unfold S7;rw [conv S,conv F];by_cases h3:kd=3
   · rw [(h1.1 h3).1,(h1.1 h3).2];subst h3;simp
   · by_cases h4:kd=4
     · by_cases h0:0<k
       · rw [(h1.2 h4 h0).1,(h1.2 h4 h0).2];subst h4;simp
       · subst h4;simp;omega
     · simp [h3,h4]
 · obtain ⟨i,c,h1,h2,_,h4⟩:=Hd hl h ha kd;obtain ⟨j,d,h5,h6,_,h8⟩:=Hd hl h hb kd;rw [h4,h8];by_cases hij:(i:Int)<j
   · have:=hpair i j c d oM h1 h5 _ h2 _ h6;rw [Xt,Xt] at this;rw [show decide ((i:Int)=0)=decide (i=0) from decide_eq_decide.2 oM,this];simp
   · rw [Uy hij];rfl
theorem Dp {n:Nat} {r:Int→Int→Bool} {cs:List (List Int)} (h:Comps (upTo n) r cs):Ptn n cs:=⟨fun x=>(h.mem x).trans Yk,h.nd,h.ne,h.asc⟩
theorem Zdk {n:Nat} {cs ds:List (List Int)} (h:Ptn n cs) (hp:ds.Perm cs):Ptn n ds:=
 ⟨fun x=>(hp.flatten.mem_iff).trans (h.mem x),(hp.flatten.pairwise_iff fun h=>Ne.symm h).2 h.nd,fun c hc=>h.ne c (hp.mem_iff.1 hc),fun c hc=>h.asc c (hp.mem_iff.1 hc)⟩
theorem Zdl {l:List Int} {r:Int→Int→Bool} {cs:List (List Int)} (h:Comps l r cs) {i j:Nat} {c d:List Int} (hij:i≠j) (hc:cs[i]? =some c) (hd:cs[j]? =some d) {x y:Int} (hx:x∈c) (hy:y∈d):r x y=false∧r y x=false:=by
 have key:¬(r x y=true∨r y x=true):=fun hr=>by
  have hyl:y∈l:=(h.mem y).1 (XN.2 ⟨d,Xb hd,hy⟩);have h1:=h.clos c (Xb hc) x hx y hyl hr;have aux:∀{i j:Nat} {c d:List Int},i<j→cs[i]? =some c→cs[j]? =some d→y∈c→y∈d→False:=fun {i j c d} hij hc hd hx hy=>by
   have h1:=XX.1 (VX.1 h.nd).2 i j (Xh.1 hc).1 (Xh.1 hd).1 hij;rw [(Xh.1 hc).2,(Xh.1 hd).2] at h1;exact h1 y hx y hy rfl
  rcases Nat.lt_or_gt_of_ne hij with h2|h2
  · exact aux h2 hc hd h1 hy
  · exact aux h2 hd hc hy h1
 constructor
 · cases hb:r x y
   · rfl
   · exact UB (.inl hb) key
 · cases hb:r y x
   · rfl
   · exact UB (.inr hb) key
theorem Gd {l:List ByteArray} {k:Int} {cs:List (List Int)} {c:Cut} (h:some c=Lw l k cs):2≤cs.length∧c=⟨k,Zq l cs⟩:=by
 unfold Lw at h
 split at h
 · cases h
 · cases h;exact ⟨oM,rfl⟩
def G' (l:List ByteArray) (E:Nat→Nat→Bool) (S F:Nat→Bool) (kd:Int) (cs:List (List Int)):Prop:=
 Ptn l.length cs∧2≤cs.length∧(1≤kd∧kd≤4)∧(∀(k:Nat) (c:List Int),cs[k]? =some c→(kd=3→Gh c S=true∧Gh c F=true)∧(kd=4→0<k→Gh c S=false∧Gh c F=false))∧
  ∀(i j:Nat) (c d:List Int),i<j→cs[i]? =some c→cs[j]? =some d→∀x∈c,∀y∈d,Je l.length E (ZT l.length E) S F kd x.toNat y.toNat (decide (i=0))=true
theorem ZbO {l:List ByteArray} {E:Nat→Nat→Bool} {S F:Nat→Bool} {cs:List (List Int)} (h:Comps (upTo l.length) (T1 E) cs) (h2:2≤cs.length):G' l E S F 1 cs:=by
 refine ⟨Dp h,h2,dC,fun k c hc=>⟨fun h=>oM,fun h=>oM⟩,fun i j c d hij hc hd x hx y hy=>?_⟩
 have:=Zdl h oM hc hd hx hy
 unfold T1 at this
 unfold Je
 rw [UA rfl,this.1,this.2];rfl
theorem ζ0 {n:Nat} {E:Nat→Nat→Bool} {ds:List (List Int)} (h:Comps (upTo n) (relS (ZT n E)) ds) {c:List Int} (hc:c∈ds) {b:Int} (hb:0≤b∧b<n) (hbc:b∉c) {x y:Int} (hx:x∈c) (hy:y∈c) (hxb:ZT n E x.toNat b.toNat=true):ZT n E y.toNat b.toNat=true:=by
 have hcl:=(Jq n E).2
 have hin:∀{z},z∈c→0≤z∧z<n:=fun hz=>Yk.1 ((h.mem _).1 (XN.2 ⟨c,hc,hz⟩))
 have hne:∀{z},z∈c→ZT n E z.toNat b.toNat≠ZT n E b.toNat z.toNat:=fun hz he=>hbc (h.clos c hc _ hz b (Yk.2 hb) (.inl (by unfold relS;rw [he];exact beq_self_eq_true _)))
 refine (h.conn c hc x hx y hy (fun z=>z∈c∧ZT n E z.toNat b.toNat=true) (fun u v hu hv hr ⟨h1,h2⟩=>?_) ⟨hx,hxb⟩).2
 have hvc:v∈c:=h.clos c hc u h1 v hv hr
 refine ⟨hvc,?_⟩
 have hr':ZT n E u.toNat v.toNat=ZT n E v.toNat u.toNat:=by
  unfold relS at hr;rcases hr with h3|h3
  · exact eq_of_beq h3
  · exact (eq_of_beq h3).symm
 cases h3:ZT n E v.toNat b.toNat
 · exfalso;have h4:ZT n E b.toNat v.toNat=true:=by
    have:=hne hvc;rw [h3] at this
    cases h5:ZT n E b.toNat v.toNat
    · exact UB h5.symm this
    · rfl
   have iu:=hin h1;have iv:=hin hvc;have h5:=hcl u.toNat b.toNat v.toNat oM oM oM h2 h4;have h6:=hcl b.toNat v.toNat u.toNat oM oM oM h4 (hr'▸h5);exact hne h1 (h2.trans h6.symm)
 · rfl
theorem J3 {c:List Int} (h:c≠[]):hdI c∈c:=by
 cases c with
 |nil=>exact UB rfl h
 |cons x c=>exact XG ..
theorem ZbP {l:List ByteArray} {E:Nat→Nat→Bool} {S F:Nat→Bool} {cs:List (List Int)} (h:SeqCs l.length (ZT l.length E) cs) (h2:2≤cs.length):G' l E S F 2 cs:=by
 obtain ⟨⟨ds,hds,hp⟩,ho⟩:=h
 have hP:=Zdk (Dp hds) hp
 refine ⟨hP,h2,dC,fun k c hc=>⟨fun h=>oM,fun h=>oM⟩,fun i j c d hij hc hd x hx y hy=>?_⟩
 have hcm:c∈ds:=hp.mem_iff.1 (Xb hc)
 have hdm:d∈ds:=hp.mem_iff.1 (Xb hd)
 have hcn:=hP.ne c (Xb hc)
 have hdn:=hP.ne d (Xb hd)
 have hin:∀{c:List Int},c∈ds→∀{z},z∈c→0≤z∧z<l.length:=fun hc _ hz=>Yk.1 ((hds.mem _).1 (XN.2 ⟨_,hc,hz⟩))
 have hapc:∀{z},z∈c→z∉d:=fun hz hz'=>by have:=hP.apart hc hd hz hz';omega
 have hhne:hdI c≠hdI d:=fun he=>hapc (J3 hcn) (he▸J3 hdn)
 have h3:=ho i j c d hij hc hd
 rw [Tq] at h3
 have h4:ZT l.length E (hdI d).toNat (hdI c).toNat=false:=by
  cases h5:ZT l.length E (hdI d).toNat (hdI c).toNat
  · rfl
  · exact UB ⟨Ne.symm hhne,h5⟩ h3
 have h5:ZT l.length E (hdI c).toNat (hdI d).toNat=true:=by
  have h6:=Gr hds hcm hdm hhne;rw [h4] at h6
  cases h7:ZT l.length E (hdI c).toNat (hdI d).toNat
  · exact UB h7 h6
  · rfl
 have h6:ZT l.length E x.toNat (hdI d).toNat=true:=ζ0 hds hcm (hin hdm (J3 hdn)) (fun hz=>hapc hz (J3 hdn)) (J3 hcn) hx h5
 have hne:∀{z w:Int},z∈c→w∈d→ZT l.length E z.toNat w.toNat≠ZT l.length E w.toNat z.toNat:=fun {z w} hz hw he=>by
  have:=hds.clos c hcm z hz w (Yk.2 (hin hdm hw)) (.inl (by unfold relS;rw [he];exact beq_self_eq_true _));exact hapc this hw
 have h7:ZT l.length E y.toNat x.toNat=false:=by
  cases h8:ZT l.length E y.toNat x.toNat
  · rfl
  · have h9:=ζ0 hds hdm (hin hcm hx) (hapc hx) hy (J3 hdn) h8;exact UB (h6.trans h9.symm) (hne hx (J3 hdn))
 have h8:ZT l.length E x.toNat y.toNat=true:=by
  have:=hne hx hy;rw [h7] at this
  cases h9:ZT l.length E x.toNat y.toNat
  · exact UB h9 this
  · rfl
 unfold Je
 rw [Uz dC,UA rfl,h8,h7];rfl
theorem Gz {c:List Int} {f:Nat→Bool}:Gh c f=true↔∃x∈c,f x.toNat=true:=by unfold Gh;rw [XS]
theorem ζ1 {cl:List Int} (h:cl.Nodup):(cl.mergeSort fun x y=>decide (x≤y)).Pairwise (· < ·):=H8 h
theorem He {α:Type} {ds A:List α} {x:α} (hp:ds.Perm (A++[x])) {c:α} (hc:c∈ds):c∈A∨c=x:=by
 have:=hp.mem_iff.1 hc
 rw [Xv,XR] at this
 exact this
theorem ZbQ {l:List ByteArray} {E:Nat→Nat→Bool} {S F:Nat→Bool} {cs ds:List (List Int)} {i0:Nat} {c0:List Int} (h:Comps (upTo l.length) (Sv E) cs) (h0:cs[i0]? =some c0) (hi:idx (Yi S F) cs=(i0:Nat)) (hd:AndCs cs i0 c0 (Yi S F) ds) (h2:2≤ds.length):G' l E S F 3 ds:=by
 have hpre:=ζz hi
 have hW:Yi S F c0=true:=hpre.2 c0 h0
 have h3:=OX (i0:=i0) (W:=Yi S F) (cs:=cs) hpre.2 cs.length (Xg _)
 have h4:=Ec h0 hW hpre.1 cs.length (Xg _)
 rw [XD] at h3 h4
 rw [UA (Xh.1 h0).1] at h4
 have hp:=hd.perm
 rw [h3] at hp
 generalize hA:selA i0 (Yi S F) true cs=A at hp h4
 have hfl:(A++[(c0++(cs.filter fun c=> !Yi S F c).flatten).mergeSort fun x y=>decide (x≤y)]).flatten.Perm cs.flatten:=by
  refine List.Perm.trans ?_ (Sx (Gt (Yi S F) cs));rw [h4,Vi,Vi,Vi,List.flatten_singleton,List.flatten_singleton];refine ((Vq (c0++(cs.filter fun c=> !Yi S F c).flatten) (fun x y=>decide (x≤y))).append_left A.flatten).trans ?_;rw [←XM];exact (Ui).append_right _
 have hflat:ds.flatten.Perm cs.flatten:=hp.flatten.trans hfl
 have hAm:∀c∈A,c∈cs∧Yi S F c=true:=fun c hc=>by
  have:c∈cs.filter (Yi S F):=by rw [h4];exact List.mem_append_right _ hc
  exact XU.1 this
 have hc0:c0∈cs:=Xb h0
 have hnd:(c0++(cs.filter fun c=> !Yi S F c).flatten).Nodup:=by
  have h5:((cs.filter (Yi S F)++cs.filter fun c=> !Yi S F c).flatten).Nodup:=((Sx (Gt (Yi S F) cs)).pairwise_iff fun h=>Ne.symm h).2 h.nd;rw [h4,Vi,Vi,List.flatten_singleton,XM] at h5;exact h5.sublist (List.Sublist.append_left (List.sublist_append_right _ _) c0)
 have hP:Ptn l.length ds:=by
  refine ⟨fun x=>?_,(hflat.pairwise_iff fun h=>Ne.symm h).2 h.nd,fun c hc=>?_,fun c hc=>?_⟩
  · rw [hflat.mem_iff,h.mem,Yk]
  · rcases He hp hc with h5|h5
    · exact h.ne c (hAm c h5).1
    · rw [h5];intro he;have h6:=congrArg List.length he;rw [VN,Xe] at h6;have h7:=h.ne c0 hc0
      cases c0 with
      |nil=>exact h7 rfl
      |cons=>simp at h6
  · rcases He hp hc with h5|h5
    · exact h.asc c (hAm c h5).1
    · rw [h5];exact ζ1 hnd
 have hclos:∀c∈ds,∀x∈c,∀y:Int,0≤y∧y<l.length→(Sv E x y=true∨Sv E y x=true)→y∈c:=fun c hc x hx y hy hr=>by
  rcases He hp hc with h5|h5
  · exact h.clos c (hAm c h5).1 x hx y (Yk.2 hy) hr
  · rw [h5,(Vq _ _).mem_iff,Xv] at hx ⊢;rcases hx with hx|hx
    · exact .inl (h.clos c0 hc0 x hx y (Yk.2 hy) hr)
    · obtain ⟨q,hq,hx⟩:=XN.1 hx;exact .inr (XN.2 ⟨q,hq,h.clos q (XU.1 hq).1 x hx y (Yk.2 hy) hr⟩)
 refine ⟨hP,h2,dC,fun k c hc=>⟨fun _=>?_,fun h=>oM⟩,fun i j c d hij hc hdj x hx y hy=>?_⟩
 · have hwh:∀c,Yi S F c=true→Gh c S=true∧Gh c F=true:=fun c hc=>by unfold Yi at hc;rw [Xd] at hc;exact hc
   rcases He hp (Xb hc) with h5|h5
   · exact hwh c (hAm c h5).2
   · obtain ⟨h6,h7⟩:=hwh c0 hW;rw [Gz] at h6 h7 ⊢;rw [Gz];obtain ⟨x,hx,hx'⟩:=h6;obtain ⟨y,hy,hy'⟩:=h7;rw [h5];exact ⟨⟨x,(Vq _ _).mem_iff.2 (List.mem_append_left _ hx),hx'⟩,⟨y,(Vq _ _).mem_iff.2 (List.mem_append_left _ hy),hy'⟩⟩
 · have hin:0≤y∧y<l.length:=(hP.mem y).1 (XN.2 ⟨d,Xb hdj,hy⟩);have hne:¬(Sv E x y=true∨Sv E y x=true):=fun hr=>by
    have:=hP.apart hc hdj (hclos c (Xb hc) x hx y hin hr) hy;omega
   have hxy:x≠y:=fun he=>by
    have:=hP.apart hc hdj hx (he▸hy);omega
   have h5:Sv E x y=false:=by
    cases h6:Sv E x y
    · rfl
    · exact UB (.inl h6) hne
   unfold Sv at h5;rw [Ux hxy,V9] at h5;unfold Je;rw [Uz dC,Uz dC,UA rfl];simpa using h5
theorem ζ2 {n:Nat} {S F:Nat→Bool} {x:Int}:x∈inL n S F↔(0≤x∧x<n)∧(S x.toNat=true∨F x.toNat=true):=by
 unfold inL Oo;rw [XU,Yk,X9]
theorem Oa {n:Nat} {S F:Nat→Bool} {x:Int}:x∈Sw n S F↔(0≤x∧x<n)∧S x.toNat=false∧F x.toNat=false:=by
 unfold Sw Oo;rw [XU,Yk]
 simp
theorem C1 {l:List ByteArray} {E:Nat→Nat→Bool} {S F:Nat→Bool} {cs:List (List Int)} (hin:inL l.length S F≠[]) (h:Comps (Sw l.length S F) (T1 E) cs) (h2:2≤(K6 l.length E S F cs).length):G' l E S F 4 (K6 l.length E S F cs):=by
 have hfp:=Sx (Gt (fun c=>Ld l.length E S F c) cs)
 have hperm:(K6 l.length E S F cs).flatten.Perm (inL l.length S F++cs.flatten):=by
  unfold K6;rw [XT];refine ((Vq _ _).append_right _).trans ?_;rw [XM];refine List.Perm.append_left _ (List.Perm.trans ?_ hfp);rw [Vi];exact Ui
 have hndin:(inL l.length S F).Nodup:=by
  unfold inL;exact ((JW l.length).imp fun h=>by omega:(upTo l.length).Nodup).sublist List.filter_sublist
 have hnd:(inL l.length S F++cs.flatten).Nodup:=by
  refine Vg.2 ⟨hndin,h.nd,fun x hx y hy he=>?_⟩;subst he;have h3:=(ζ2.1 hx).2;have h4:=(Oa.1 ((h.mem x).1 hy)).2;rw [h4.1,h4.2] at h3;simp at h3
 have hrow0:(inL l.length S F++(cs.filter fun c=> !Ld l.length E S F c).flatten).Nodup:=by
  have h5:((cs.filter (fun c=>Ld l.length E S F c)).flatten++(inL l.length S F++(cs.filter fun c=> !Ld l.length E S F c).flatten)).Nodup:=by
   refine (List.Perm.pairwise_iff (fun h=>Ne.symm h) ?_).2 hnd;refine List.Perm.trans ?_ (hfp.append_left _);rw [Vi,←XM,←XM];exact (Ui).append_right _
  exact (Vg.1 h5).2.1
 have hP :Ptn l.length (K6 l.length E S F cs):=by
  refine ⟨fun x=>?_,(hperm.pairwise_iff fun h=>Ne.symm h).2 hnd,fun c hc=>?_,fun c hc=>?_⟩
  · rw [hperm.mem_iff,Xv,ζ2,h.mem,Oa];constructor
    · rintro (h3|h3)
      · exact h3.1
      · exact h3.1
    · intro h3
      cases hs:S x.toNat
      · cases hf:F x.toNat
        · exact .inr ⟨h3,rfl,rfl⟩
        · exact .inl ⟨h3, .inr rfl⟩
      · exact .inl ⟨h3, .inl rfl⟩
  · unfold K6 at hc;rcases Xn.1 hc with rfl|hc
    · intro he;have h6:=congrArg List.length he;rw [VN,Xe] at h6
      cases hi:inL l.length S F with
      |nil=>exact hin hi
      |cons a b=>rw [hi] at h6;simp at h6
    · exact h.ne c (XU.1 hc).1
  · unfold K6 at hc;rcases Xn.1 hc with rfl|hc
    · exact ζ1 hrow0
    · exact h.asc c (XU.1 hc).1
 have hget:∀(k:Nat) (c:List Int),(K6 l.length E S F cs)[k]? =some c→0<k→c∈cs∧Ld l.length E S F c=true:=fun k c hc hk=>by
  obtain ⟨k',rfl⟩:∃k',k=k'+1:=⟨k-1,oM⟩;unfold K6 at hc;rw [XO] at hc;exact XU.1 (Xb hc)
 have hsep:∀{c d:List Int},c∈cs→d∈cs→∀{x y:Int},x∈c→y∈d→(∀{z},z∈c→z∉d)→E x.toNat y.toNat=false∧E y.toNat x.toNat=false:=fun {c d} hc hd {x y} hx hy hap=>by
  have key:¬(T1 E x y=true∨T1 E y x=true):=fun hr=>hap (h.clos c hc x hx y ((h.mem y).1 (XN.2 ⟨d,hd,hy⟩)) hr) hy;unfold T1 at key;constructor
  · cases hb:E x.toNat y.toNat
    · rfl
    · exact UB (.inl hb) key
  · cases hb:E y.toNat x.toNat
    · rfl
    · exact UB (.inr hb) key
 refine ⟨hP,h2,dC,fun k c hc=>⟨fun h=>oM,fun _ hk=>?_⟩,fun i j c d hij hc hdj x hx y hy=>?_⟩
 · obtain ⟨h3,_⟩:=hget k c hc hk;have h4:∀x∈c,S x.toNat=false∧F x.toNat=false:=fun x hx=>(Oa.1 ((h.mem x).1 (XN.2 ⟨c,h3,hx⟩))).2;constructor
   · cases hb:Gh c S
     · rfl
     · obtain ⟨x,hx,hx'⟩:=Gz.1 hb;rw [(h4 x hx).1] at hx';cases hx'
   · cases hb:Gh c F
     · rfl
     · obtain ⟨x,hx,hx'⟩:=Gz.1 hb;rw [(h4 x hx).2] at hx';cases hx'
 · obtain ⟨h3,h4⟩:=hget j d hdj oM;unfold Je;rw [Uz dC,Uz dC,Uz dC];by_cases hi:i=0
   · subst hi;rw [UA (Ux rfl)];unfold K6 at hc;rw [List.getElem?_cons_zero] at hc
     cases hc;rw [(Vq _ _).mem_iff,Xv] at hx;rcases hx with hx|hx
     · unfold Ld at h4;exact Xf.1 (Xf.1 h4 y hy) x hx
     · obtain ⟨q,hq,hx⟩:=XN.1 hx;have hq':=XU.1 hq;have h5:=hsep hq'.1 h3 hx hy fun {z} hz hz'=>by
        have e:q=d:=by
         obtain ⟨a,ha⟩:=XF hq'.1;obtain ⟨b,hb⟩:=XF h3;have hab:a=b:=by
          rcases VL a b with h6|h6|h6
          · have h7:=XX.1 (VX.1 h.nd).2 a b (Xh.1 ha).1 (Xh.1 hb).1 h6;rw [(Xh.1 ha).2,(Xh.1 hb).2] at h7;exact UB rfl (h7 z hz z hz')
          · exact h6
          · have h7:=XX.1 (VX.1 h.nd).2 b a (Xh.1 hb).1 (Xh.1 ha).1 h6;rw [(Xh.1 ha).2,(Xh.1 hb).2] at h7;exact UB rfl (h7 z hz' z hz)
         subst hab;rw [ha] at hb;cases hb;rfl
        subst e;rw [h4] at hq';exact UB hq'.2 dC
       unfold YV endsB S1;rw [h5.1,h5.2];rfl
   · rw [Uz (by simp [hi])];obtain ⟨h5,_⟩:=hget i c hc oM;(have:=hsep h5 h3 hx hy fun {z} hz hz'=>by have:=hP.apart hc hdj hz hz';omega);rw [this.1,this.2];rfl
theorem Ob {l:List ByteArray} {E:Nat→Nat→Bool} {S F:Nat→Bool} {c:Cut}:∀{k:Nat},k<4→PF l l.length E S F k (some c)→∃cs,c=⟨((k+1:Nat):Int),Zq l cs⟩∧G' l E S F ((k+1:Nat):Int) cs
 | 0,_,h=>by
   obtain ⟨cs,h1,h2⟩:=h;obtain ⟨h3,rfl⟩:=Gd h2;exact ⟨cs,rfl,ZbO h1 h3⟩
 | 1,_,h=>by
   obtain ⟨cs,h1,h2⟩:=h;obtain ⟨h3,rfl⟩:=Gd h2;exact ⟨cs,rfl,ZbP h1 h3⟩
 | 2, _,h=>by
   obtain ⟨cs,h1,h2⟩:=h;rcases h2 with ⟨_,h2⟩|⟨i0,c0,ds,h4,h5,h6,h7⟩
   · cases h2
   · obtain ⟨h3,rfl⟩:=Gd h7;exact ⟨ds,rfl,ZbQ h1 h4 h5 h6 h3⟩
 | 3, _,h=>by
   rcases h with ⟨_,h2⟩|⟨cs,h4,h5,h7⟩
   · cases h2
   · obtain ⟨h3,rfl⟩:=Gd h7;exact ⟨_,rfl,C1 h4 h5 h3⟩
 |k+4,hk,_=>UB hk oM
theorem EL {l:List ByteArray} {E:Nat→Nat→Bool} {S F:Nat→Bool} {c:Cut} (h:ZeE (PF l l.length E S F) (some c)):∃k,k<4∧PF l l.length E S F k (some c):=by
 rcases h with ⟨k,c',hk,_,h2,h3⟩|⟨_,h2⟩
 · cases h3;exact ⟨k,hk,h2⟩
 · cases h2
theorem ZbR {g:Dfg} {E:Nat→Nat→Bool} {S F:Nat→Bool} {kd:Int} {cs:List (List Int)} (hg:WU g=true) (hE:E=KR (cnames g.acts) g.follows) (hS:S=Wn (cnames g.acts) g.starts) (hF:F=Wn (cnames g.acts) g.ends) (h:G' (cnames g.acts) E S F kd cs):O' g ⟨kd,Zq (cnames g.acts) cs⟩=true:=by
 have ha:WG (cnames g.acts)=true:=by
  unfold WU at hg;simp only [Xd] at hg;exact hg.1.1.1.1.1.1.1
 unfold WG at ha
 simp only [Xd] at ha
 obtain ⟨h1,h2,h3,h4,h5⟩:=h
 have hl:(cnames g.acts).length=g.acts.length:=by unfold cnames;rw [Xc]
 unfold O'
 rw [hg,Hc ha.1.2 ha.2 h1 h2 h3,←hE,←hS,←hF]
 have:=Zet (kd:=kd) ha.2 h1 h4 h5
 rw [hl] at this
 rw [this];rfl
theorem ZbS {P:M4→Prop} {l:List Var} (h1:∀st x,P st→P (mk1 st x)):∀st,P st→P (l.foldl mk1 st):=by
 induction l with
 |nil=>exact fun _ h=>h
 |cons x l ih=>exact fun st h=>ih _ (h1 st x h)
theorem Tb {P:M4→Prop} {l:List Var} {x:Var} (hx:x∈l) (h1:∀st y,P st→P (mk1 st y)) (h2:∀st,P (mk1 st x)):P (Wl l):=by
 unfold Wl
 generalize (⟨[],[],[],[]⟩:M4)=st
 induction l generalizing st with
 |nil=>simp at hx
 | cons y l ih=>
   rw [List.foldl_cons];rcases Xn.1 hx with rfl|hx
   · exact ZbS h1 _ (h2 st)
   · exact ih hx _
theorem ZfS {l:List Var} {x:Var} (hx:x∈l) {s:ByteArray} (hs:s∈x.acts):s∈(Wl l).a.map (·.1):=
 Tb (P:=fun st=>s∈st.a.map (·.1)) hx (fun st y h=>YB.2 (.inr h)) fun st=>YB.2 (.inl hs)
theorem ZfT {l:List Var} {x:Var} (hx:x∈l) {p:Pr} (hs:p∈Yl x.acts):p∈(Wl l).q.map (·.1):=
 Tb (P:=fun st=>p∈st.q.map (·.1)) hx (fun st y h=>YB.2 (.inr h)) fun st=>YB.2 (.inl hs)
theorem Zf8 {l:List Var} {x:Var} (hx:x∈l) {s:ByteArray} (hs:x.acts[0]? =some s):s∈(Wl l).s.map (·.1):=
 Tb (P:=fun st=>s∈st.s.map (·.1)) hx (fun st y h=>by
  unfold mk1;dsimp only;split
  · exact h
  · exact J1.2 (.inr h)) fun st=>by
  unfold mk1;dsimp only
  cases ha:x.acts with
  |nil=>rw [ha] at hs;cases hs
  |cons a t=>rw [ha] at hs;cases hs;exact J1.2 (.inl rfl)
theorem Zf9 {l:List Var} {x:Var} (hx:x∈l) {s:ByteArray} (hs:x.acts.getLast? =some s):s∈(Wl l).f.map (·.1):=
 Tb (P:=fun st=>s∈st.f.map (·.1)) hx (fun st y h=>by
  unfold mk1;dsimp only;split
  · exact J1.2 (.inr h)
  · exact h) fun st=>by
  unfold mk1;dsimp only;rw [hs];exact J1.2 (.inl rfl)
theorem EM:∀{l:List ByteArray} {i:Nat} {a b:ByteArray},l[i]? =some a→l[i+1]? =some b→(a,b)∈Yl l
 |[],i,a,b,h,_=>by simp at h
 |[x],i,a,b,_,h=>by simp at h
 | x::y::l,0,a,b,h,k=>by
   cases h;cases k;rw [Yl];exact XG ..
 | x::y::l,i+1,a,b,h,k=>by
   rw [XO] at h k;rw [Yl];exact XE _ (EM h k)
structure WordOk (l:List ByteArray) (E:Nat→Nat→Bool) (S F:Nat→Bool) (w:List ByteArray):Prop where
 mem:∀s∈w,s∈l
 e:∀(i:Nat) (a b:ByteArray),w[i]? =some a→w[i+1]? =some b→E (ixN l a) (ixN l b)=true
 s:∀a,w[0]? =some a→S (ixN l a)=true
 f:∀a,w.getLast? =some a→F (ixN l a)=true
theorem Dq {l:List Var} {g:Dfg} (h:LG g (Wl l)) {x:Var} (hx:x∈l):WordOk (cnames g.acts) (KR (cnames g.acts) g.follows) (Wn (cnames g.acts) g.starts) (Wn (cnames g.acts) g.ends) x.acts:=by
 obtain ⟨h1,h2,h3,h4⟩:=h
 have inC:∀{L:List Cnt} {m:List (ByteArray×Int)},SameC L m→∀{s},s∈m.map (·.1)→∃c∈L,c.name=s:=fun {L m} h {s} hs=>by
  obtain ⟨y,hy,rfl⟩:=Xm.1 hs;exact ⟨mkC y,h.1.mem_iff.2 (Xm.2 ⟨y,hy,rfl⟩),rfl⟩
 refine ⟨fun s hs=>?_,fun i a b ha hb=>?_,fun a ha=>?_,fun a ha=>?_⟩
 · obtain ⟨c,hc,rfl⟩:=inC h1 (ZfS hx hs);exact Xm.2 ⟨c,hc,rfl⟩
 · obtain ⟨y,hy,hye⟩:=Xm.1 (ZfT hx (EM ha hb));unfold KR;rw [XS];refine ⟨mkF y,h4.1.mem_iff.2 (Xm.2 ⟨y,hy,rfl⟩),?_⟩;obtain ⟨⟨y1,y2⟩,yn⟩:=y
   cases hye;unfold mkF;simp
 · obtain ⟨c,hc,rfl⟩:=inC h2 (Zf8 hx ha);unfold Wn;rw [XS];exact ⟨c,hc,sM⟩
 · obtain ⟨c,hc,rfl⟩:=inC h3 (Zf9 hx ha);unfold Wn;rw [XS];exact ⟨c,hc,sM⟩
theorem Oc {l:List ByteArray} {s:ByteArray} (h:s∈l):ixN l s<l.length∧Y7 l (ixN l s:Nat)=s:=by
 have h1:0≤idx (fun x=>WA x s) l:=by
  have:=GC (fun x=>WA x s) l;have h2:(l.any fun x=>WA x s)=true:=XS.2 ⟨s,h,WW.2 rfl⟩;rw [h2] at this;exact UC this
 have h2:=ζz (p:=fun x=>WA x s) (l:=l) (i0:=ixN l s) (by unfold ixN;omega)
 have h3:ixN l s<l.length:=by
  unfold ixN idx at*
  cases hf:l.findIdx? (fun x=>WA x s) with
  |none=>rw [hf] at h1;dsimp only at h1;omega
  | some i=>
    obtain ⟨hi,_⟩:=VC.1 hf;dsimp only;omega
 refine ⟨h3,?_⟩
 obtain ⟨y,hy⟩:∃y,l[ixN l s]? =some y:=⟨_,Xx h3⟩
 unfold Y7
 rw [Xt,hy]
 exact WW.1 (h2.2 y hy)
theorem LJ {l:List ByteArray} (hl:chainB strLt l=true) {cs:List (List Int)} (h:Ptn l.length cs) {s:ByteArray} (hs:s∈l):∃(k:Nat) (c:List Int),cs[k]? =some c∧((ixN l s:Nat):Int)∈c∧k<cs.length∧partOf (Zq l cs) s=k:=by
 obtain ⟨h1,h2⟩:=Oc hs
 obtain ⟨k,c,h3,h4,h5⟩:=Zdj h h1
 have h6:=ζZ hl h h3 h4
 rw [h2] at h6
 exact ⟨k,c,h3,h4,h5,h6⟩
theorem C2 {l:List ByteArray} {E:Nat→Nat→Bool} {S F:Nat→Bool} {kd:Int} {cs:List (List Int)} (hl:chainB strLt l=true) (h:G' l E S F kd cs) {a b:ByteArray} (ha:a∈l) (hb:b∈l) (he:E (ixN l a) (ixN l b)=true):
 (kd=1→partOf (Zq l cs) a=partOf (Zq l cs) b)∧(kd=2→partOf (Zq l cs) a≤partOf (Zq l cs) b)∧(kd=4→partOf (Zq l cs) a≠partOf (Zq l cs) b→partOf (Zq l cs) a=0∨partOf (Zq l cs) b=0):=by
 obtain ⟨i,c,hc,hac,_,hpa⟩:=LJ hl h.1 ha
 obtain ⟨j,d,hd,hbd,_,hpb⟩:=LJ hl h.1 hb
 rw [hpa,hpb]
 have h5:=h.2.2.2.2
 have l1:i<j→Je l.length E (ZT l.length E) S F kd (ixN l a) (ixN l b) (decide (i=0))=true:=fun hij=>by
  have:=h5 i j c d hij hc hd _ hac _ hbd;rw [Xt,Xt] at this;exact this
 have l2:j<i→Je l.length E (ZT l.length E) S F kd (ixN l b) (ixN l a) (decide (j=0))=true:=fun hij=>by
  have:=h5 j i d c hij hd hc _ hbd _ hac;rw [Xt,Xt] at this;exact this
 refine ⟨fun hk=>?_,fun hk=>?_,fun hk hne=>?_⟩
 · subst hk;unfold Je at l1 l2;rw [UA rfl,he] at l1 l2;rcases VL i j with h6|h6|h6
   · have:=l1 h6;simp at this
   · rw [h6]
   · have:=l2 h6;simp at this
 · subst hk;unfold Je at l2;rw [Uz dC,UA rfl] at l2;have hr:ZT l.length E (ixN l a) (ixN l b)=true:=(Jq l.length E).1 _ _ (Oc ha).1 (Oc hb).1 he;rw [hr] at l2;rcases XY j i with h6|h6
   · have:=l2 h6;simp at this
   · omega
 · subst hk;unfold Je at l1 l2;rw [Uz dC,Uz dC,Uz dC,he] at l1 l2;by_cases h0:i=0
   · exact .inl oM
   · by_cases h1:j=0
     · exact .inr oM
     · exfalso;rcases Nat.lt_or_gt_of_ne (show i≠j by omega) with h6|h6
       · have:=l1 h6;rw [Uz (by simp [h0])] at this;simp at this
       · have:=l2 h6;rw [Uz (by simp [h1])] at this;simp at this
theorem Dr {l:List ByteArray} {E:Nat→Nat→Bool} {S F:Nat→Bool} {cs:List (List Int)} (hl:chainB strLt l=true) (h:G' l E S F 4 cs) {a:ByteArray} (ha:a∈l) (he:S (ixN l a)=true∨F (ixN l a)=true):partOf (Zq l cs) a=0:=by
 obtain ⟨i,c,hc,hac,_,hpa⟩:=LJ hl h.1 ha
 rw [hpa]
 rcases Vx i with h0|h0
 · omega
 · have:=(h.2.2.2.1 i c hc).2 rfl h0;rcases he with he|he
   · have h1:Gh c S=true:=Gz.2 ⟨_,hac,by rw [Xt];exact he⟩;rw [this.1] at h1;cases h1
   · have h1:Gh c F=true:=Gz.2 ⟨_,hac,by rw [Xt];exact he⟩;rw [this.2] at h1;cases h1
def psum (f:Int→List ByteArray→Int) (ps:List Piece):Int:=(ps.map fun p=>f p.part p.word).sum
theorem GA (f:Int→List ByteArray→Int) (p:Piece) (ps:List Piece):psum f (p::ps)=f p.part p.word+psum f ps:=by unfold psum;rw [Xk,V0]
theorem LK (f:Int→List ByteArray→Int) (ps qs:List Piece):psum f (ps++qs)=psum f ps+psum f qs:=by unfold psum;rw [X1,List.sum_append]
theorem Ko (f:Int→List ByteArray→Int) (p:Piece):psum f [p]=f p.part p.word:=by rw [GA];show _+0=_;omega
def PcOk (parts:List (List ByteArray)) (w:List ByteArray) (p:Piece):Prop:=0≤p.part∧p.part<parts.length∧p.word.length≤w.length∧∀s∈p.word,s∈w∧partOf parts s=p.part
def fLen (_:Int) (w:List ByteArray):Int:=w.length
def fAt (i:Int) (k:Int) (_:List ByteArray):Int:=if k=i then 1 else 0
def fOne (_:Int) (_:List ByteArray):Int:=1
def fLoop (k:Int) (_:List ByteArray):Int:=if k=0 then-1 else 1
structure Pcs (c:Cut) (w:List ByteArray) (ps:List Piece):Prop where
 ok:∀p∈ps,PcOk c.parts w p
 len:psum fLen ps=w.length
 le:∀i,psum (fAt i) ps≤w.length
 one:c.kind=1→psum fOne ps=1
 all:(c.kind=2∨c.kind=3)→∀i:Nat,i<c.parts.length→psum (fAt i) ps=1
 loop:c.kind=4→psum fLoop ps= -1
theorem ZbT {ps:List Piece} {i:Nat} {s:ByteArray} (k:Nat) {q:Piece} (hq:ps[k]? =some q):(Wg ps i s)[k]? =some ⟨q.part,q.word++(if i=k then [s] else [])⟩:=by
 unfold Wg
 by_cases h:i=k
 · subst h;rw [hq,UA rfl];dsimp only;rw [Xp (Xh.1 hq).1]
 · rw [Uz h,Xu]
   cases hi:ps[i]? with
   |none=>exact hq
   | some p=>
     dsimp only;rw [X0 h];exact hq
theorem ζ3 {kd:Int} {parts:List (List ByteArray)}:∀{ws:List ByteArray} {ps:List Piece} {first:Bool} {last:Int},(∀s∈ws,0≤partOf parts s)→
 (∀s,ws[0]? =some s→KC kd first (partOf parts s) last=false)→(∀(i:Nat) (a b:ByteArray),ws[i]? =some a→ws[i+1]? =some b→KC kd false (partOf parts b) (partOf parts a)=false)→
 ∃ps' last',Yw kd parts first last ps ws=some (ps',last')∧ps'.length=ps.length∧(∀(k:Nat) (q:Piece),ps[k]? =some q→ps'[k]? =some ⟨q.part,q.word++ws.filter fun s=>decide (partOf parts s=k)⟩)∧last'=(match ws.getLast? with|some s=>partOf parts s|none=>last)
 |[],ps,first,last,_,_,_=>⟨ps,last,rfl,rfl,fun k q hq=>by rw [List.filter_nil,Xu];exact hq,rfl⟩
 | s :: ws,ps,first,last,h0,h1,h2=>by
   rw [Yw,h1 s rfl,Uz dC];obtain ⟨ps',last',e1,e2,e3,e4⟩:=ζ3 (kd:=kd) (ws:=ws) (ps:=Wg ps (partOf parts s).toNat s) (first:=false) (last:=partOf parts s) (fun t ht=>h0 t (XE _ ht)) (fun t ht=>h2 0 s t rfl (by rw [XO];exact ht)) (fun i a b ha hb=>h2 (i+1) a b (by rw [XO];exact ha) (by rw [XO];exact hb));refine ⟨ps',last',e1,by rw [e2,LP],fun k q hq=>?_,?_⟩
   · rw [e3 k _ (ZbT k hq)];have hs:=h0 s (XG ..);by_cases hk:(partOf parts s).toNat=k
     · rw [UA hk,Vz (by rw [Uw];omega),XM];rfl
     · rw [Uz hk,Xu,VA (by rw [Uw];omega)]
   · rw [e4]
     cases ws with
     |nil=>rfl
     | cons t ws=>
       rw [Ur]
       cases hl:(t::ws).getLast? with
       |some u=>rfl
       |none=>simp at hl
theorem Zdm {n k:Nat} (h:k<n):(YS n)[k]? =some ⟨k,[]⟩:=by
 unfold YS;rw [Xl,List.getElem?_range h];rfl
theorem Zdn (n:Nat):(YS n).length=n:=by unfold YS;rw [Xc,VF]
theorem Zeu {parts:List (List ByteArray)} {ws:List ByteArray} {ps':List Piece} (h1:ps'.length=(YS parts.length).length) (h2:∀(k:Nat) (q:Piece),(YS parts.length)[k]? =some q→ps'[k]? =some ⟨q.part,q.word++ws.filter fun s=>decide (partOf parts s=k)⟩):
 ps'=(List.range parts.length).map fun k:Nat=>(⟨(k:Int),ws.filter fun s=>decide (partOf parts s=k)⟩:Piece):=by
 rw [Zdn] at h1
 refine VI fun k=>?_
 by_cases hk:k<parts.length
 · rw [h2 k _ (Zdm hk),Xl,List.getElem?_range hk];rfl
 · rw [X8 oM,X8 (by rw [Xc,VF];omega)]
def J4 (n:Nat) (f:Nat→Int):Int:=((List.range n).map f).sum
theorem KL (n:Nat) (f:Nat→Int):J4 (n+1) f=J4 n f+f n:=by
 unfold J4;rw [List.range_succ,X1,List.sum_append];simp
theorem Zdo (n:Nat) (f g:Nat→Int):J4 n (fun k=>f k+g k)=J4 n f+J4 n g:=by
 induction n with
 |zero=>rfl
 |succ n ih=>rw [KL,KL,KL,ih];omega
theorem ζ4 (n:Nat) (a:Int) (h:0≤a):J4 n (fun k=>if a=k then 1 else 0)=if a<n then 1 else 0:=by
 induction n with
 |zero=>rw [Uz oM];rfl
 | succ n ih=>
   rw [KL,ih];by_cases h1:a=n
   · rw [Uz oM,UA h1,UA oM];rfl
   · rw [Uz h1];by_cases h2:a<n
     · rw [UA h2,UA oM];rfl
     · rw [Uz h2,Uz oM];rfl
theorem Tx {n:Nat} {f g:Nat→Int} (h:∀k,k<n→f k=g k):J4 n f=J4 n g:=by
 induction n with
 |zero=>rfl
 |succ n ih=>rw [KL,KL,ih fun k hk=>h k oM,h n oM]
theorem Od (f:Int→List ByteArray→Int) (n:Nat) (g:Nat→List ByteArray):psum f ((List.range n).map fun k:Nat=>(⟨(k:Int),g k⟩:Piece))=J4 n fun k=>f k (g k):=by
 unfold psum J4;rw [Xs];rfl
theorem EN {parts:List (List ByteArray)} {n:Nat}:∀{ws:List ByteArray},(∀s∈ws,0≤partOf parts s∧partOf parts s<n)→J4 n (fun k=>((ws.filter fun s=>decide (partOf parts s=k)).length:Int))=ws.length
 | [],_=>by
   have:∀n,J4 n (fun _=>(0:Int))=0:=fun n=>by
    induction n with
    |zero=>rfl
    |succ n ih=>rw [KL,ih];rfl
   exact this n
 | s ::ws,h=>by
   have hs:=h s (XG ..);have ih:=EN (ws:=ws) fun t ht=>h t (XE _ ht);rw [Tx (g:=fun k=>(if partOf parts s=(k:Int) then 1 else 0)+((ws.filter fun s=>decide (partOf parts s=k)).length:Int)),Zdo,ih,ζ4 n _ hs.1,UA hs.2,Xi]
   · omega
   · intro k _;by_cases hk:partOf parts s=(k:Int)
     · rw [UA hk,Vz (by rw [Uw];exact hk),Xi];omega
     · rw [Uz hk,VA (by rw [Uw];exact hk)];omega
theorem Zev {c:Cut} {ws:List ByteArray} (hw:ws≠[]) (hk:c.kind=2∨c.kind=3) (h:∀s∈ws,0≤partOf c.parts s∧partOf c.parts s<c.parts.length):Pcs c ws ((List.range c.parts.length).map fun k:Nat=>(⟨(k:Int),ws.filter fun s=>decide (partOf c.parts s=k)⟩:Piece)):=by
 have hone:∀i:Int,0≤i→psum (fAt i) ((List.range c.parts.length).map fun k:Nat=>(⟨(k:Int),ws.filter fun s=>decide (partOf c.parts s=k)⟩:Piece))=if i<c.parts.length then 1 else 0:=fun i hi=>by
  rw [Od,←ζ4 _ _ hi];refine Tx fun k _=>?_;unfold fAt;by_cases h1:(k:Int)=i
  · rw [UA h1,UA h1.symm]
  · rw [Uz h1,Uz (Ne.symm h1)]
 have hpos:(1:Int)≤ws.length:=by
  cases ws with
  |nil=>exact UB rfl hw
  |cons=>rw [Xi];omega
 refine ⟨fun p hp=>?_,?_,fun i=>?_,fun h=>oM,fun _ i hi=>?_,fun h=>oM⟩
 · obtain ⟨k,hk,rfl⟩:=Xm.1 hp;have:=XJ.1 hk;refine ⟨by show 0≤(k:Int);omega,by show (k:Int)<_;omega,VP _ _,fun s hs=>?_⟩;have:=XU.1 hs;exact ⟨this.1,UC this.2⟩
 · rw [Od];exact EN h
 · by_cases hi:0≤i
   · rw [hone i hi];split<;>omega
   · have:psum (fAt i) ((List.range c.parts.length).map fun k:Nat=>(⟨(k:Int),ws.filter fun s=>decide (partOf c.parts s=k)⟩:Piece))=J4 c.parts.length fun _=>0:=by
      rw [Od];refine Tx fun k _=>?_;unfold fAt;rw [Uz oM]
     rw [this];have:∀n,J4 n (fun _=>(0:Int))=0:=fun n=>by
      induction n with
      |zero=>rfl
      |succ n ih=>rw [KL,ih];rfl
     rw [this];omega
 · rw [hone i oM,UA oM]
theorem Du (A:List Piece) (q:Piece):(A++[q])[(A++[q]).length-1]? =some q:=by
 rw [Xe,Xo,VZ,Vb (Xg _)];simp
theorem ZbU (A:List Piece) (q r:Piece):(A++[q]).set ((A++[q]).length-1) r=A++[r]:=by
 rw [Xe,Xo,VZ,Vh _ _ (Xg _)];simp
theorem SO {parts : List (List ByteArray)} {w:List ByteArray}:∀{ws:List ByteArray} {A:List Piece} {q:Piece},(∀s∈ws,s∈w∧0≤partOf parts s∧partOf parts s<parts.length)→
 (∀s,ws[0]? =some s→q.part≠partOf parts s→q.part=0∨partOf parts s=0)→(∀(i:Nat) (a b:ByteArray),ws[i]? =some a→ws[i+1]? =some b→partOf parts a≠partOf parts b→partOf parts a=0∨partOf parts b=0)→
 (∀p∈A++[q],PcOk parts w p)→psum fLoop (A++[q])=(if q.part=0 then-1 else 0)→psum fLen (A++[q])+ws.length=w.length→(A++[q]).length+ws.length≤w.length→
 (∀p,(A++[q])[0]? =some p→p.part=0)→
 ∃A' q',Y5 parts (A++[q]) ws=some (A'++[q'])∧(∀p∈A'++[q'],PcOk parts w p)∧psum fLoop (A'++[q'])=(if q'.part=0 then-1 else 0)∧psum fLen (A'++[q'])=w.length∧(A'++[q']).length≤w.length∧(∀p,(A'++[q'])[0]? =some p→p.part=0)∧q'.part=(match ws.getLast? with|some s=>partOf parts s|none=>q.part)
 |[],A,q,_,_,_,h1,h2,h3,h4,h5=>⟨A,q,rfl,h1,h2,by rw [Xr] at h3;omega,by rw [Xr] at h4;omega,h5,rfl⟩
 | s :: ws, A, q, g1, g2,g3,h1,h2,h3,h4,h5=>by
   have hs:=g1 s (XG ..);have n1:∀t∈ws,t∈w∧0≤partOf parts t∧partOf parts t<parts.length:=fun t ht=>g1 t (XE _ ht);have n3:∀(i:Nat) (a b:ByteArray),ws[i]? =some a→ws[i+1]? =some b→partOf parts a≠partOf parts b→partOf parts a=0∨partOf parts b=0:=fun i a b ha hb=>g3 (i+1) a b (by rw [XO];exact ha) (by rw [XO];exact hb);have n2:∀t,ws[0]? =some t→partOf parts s≠partOf parts t→partOf parts s=0∨partOf parts t=0:=fun t ht=>g3 0 s t rfl (by rw [XO];exact ht);have hlast:∀x:Int,(match (s::ws).getLast? with|some s=>partOf parts s|none=>x)=(match ws.getLast? with|some s=>partOf parts s|none=>partOf parts s):=fun x=>by
    cases ws with
    |nil=>rfl
    | cons t ws=>
      rw [Ur]
      cases hl:(t::ws).getLast? with
      |some u=>rfl
      |none=>simp at hl
   rw [Y5,WE,Du];dsimp only;rw [Xi] at h3 h4;by_cases hp:q.part=partOf parts s
   · rw [UA hp, ZbU];dsimp only;have hq:=h1 q sM;have hlen : q.word.length+1≤w.length:=by
      rw [LK,Ko] at h3;have h6 : 0 ≤ psum fLen A:=by
       clear h1 h2 h3 h4 h5;induction A with
       |nil=>exact Int.le_refl _
       | cons a A ih => rw [GA];have:0≤fLen a.part a.word:=by unfold fLen;omega
                        omega
      unfold fLen at h3 h6;omega
     obtain ⟨A',q',e1,e2,e3,e4,e5,e6,e7⟩:=SO (ws:=ws) (A:=A) (q:=⟨q.part,q.word++[s]⟩) n1 (fun t ht=>by rw [hp];exact n2 t ht) n3
      (fun p hp'=>by
        rcases Xv.1 hp' with h6|h6
        · exact h1 p (List.mem_append_left _ h6)
        · rw [XR] at h6;subst h6;refine ⟨hq.1,hq.2.1,by rw [Xe];exact hlen,fun t ht=>?_⟩;rcases Xv.1 ht with h7|h7
          · exact hq.2.2.2 t h7
          · rw [XR] at h7;subst h7;exact ⟨hs.1,hp.symm⟩)
      (by rw [LK,Ko] at h2 ⊢;exact h2)
      (by rw [LK,Ko] at h3 ⊢;unfold fLen at h3 ⊢;rw [Xe,Xo];omega)
      (by rw [Xe,Xo] at h4 ⊢;omega)
      (fun p hp'=>by
        cases A with
        |nil=>cases hp';exact h5 q rfl
        |cons a A=>exact h5 p hp')
     exact ⟨A',q',e1,e2,e3,e4,e5,e6,by rw [e7,hlast];cases ws.getLast? with|none=>exact hp|some _=>rfl⟩
   · have hz:=g2 s rfl hp;rw [Uz hp,Uz (by rcases hz with h|h<;>simp [h])];dsimp only;obtain ⟨A',q',e1,e2,e3,e4,e5,e6,e7⟩:=SO (ws:=ws) (A:=A++[q]) (q:=⟨partOf parts s,[s]⟩) n1 n2 n3
      (fun p hp'=>by
        rcases Xv.1 hp' with h6|h6
        · exact h1 p h6
        · rw [XR] at h6;subst h6;refine ⟨hs.2.1,hs.2.2,?_,fun t ht=>?_⟩
          · rw [Xo];have:=List.length_pos_of_mem hs.1;omega
          · rw [XR] at ht;subst ht;exact ⟨hs.1,rfl⟩)
      (by
        rw [LK,Ko,h2];unfold fLoop;dsimp only;by_cases h0:partOf parts s=0
        · rw [Uz (by rw [←h0];exact hp),UA h0,UA h0];rfl
        · rcases hz with h|h
          · rw [UA h,Uz h0,Uz h0];rfl
          · exact UB h h0)
      (by rw [LK,Ko];show _+(([s].length:Nat):Int)+_=_;rw [Xo];omega)
      (by rw [Xe (bs:=[_]),Xo];omega)
      (fun p hp'=>by
        refine h5 p ?_;rw [X7 (by rw [Xe,Xo];omega)] at hp';exact hp')
     exact ⟨A',q',e1,e2,e3,e4,e5,e6,by rw [e7,hlast]⟩
theorem Zdp (l:List ByteArray) (cs:List (List Int)):(Zq l cs).length=cs.length:=by unfold Zq;rw [Xc]
theorem EO {l:List ByteArray} {E:Nat→Nat→Bool} {S F:Nat→Bool} {kd:Int} {cs:List (List Int)} (hl:chainB strLt l=true) (h:G' l E S F kd cs) {w:List ByteArray} (hw:WordOk l E S F w) (hne:w≠[]):
 ∃ps,Yq ⟨kd,Zq l cs⟩ w=some ps∧Pcs ⟨kd,Zq l cs⟩ w ps:=by
 have hin:∀s∈w,0≤partOf (Zq l cs) s∧partOf (Zq l cs) s<(Zq l cs).length:=fun s hs=>by
  obtain ⟨k,c,_,_,h1,h2⟩:=LJ hl h.1 (hw.mem s hs);rw [h2,Zdp];omega
 have hstep:∀(i:Nat) (a b:ByteArray),w[i]? =some a→w[i+1]? =some b→(kd=1→partOf (Zq l cs) a=partOf (Zq l cs) b)∧(kd=2→partOf (Zq l cs) a≤partOf (Zq l cs) b)∧(kd=4→partOf (Zq l cs) a≠partOf (Zq l cs) b→partOf (Zq l cs) a=0∨partOf (Zq l cs) b=0):=fun i a b ha hb=>
  C2 hl h (hw.mem a (Xb ha)) (hw.mem b (Xb hb)) (hw.e i a b ha hb)
 by_cases h4:kd=4
 · subst h4
   cases w with
   |nil=>exact UB rfl hne
   | cons s ws=>
     have hs:=hin s (XG ..);have hs0:partOf (Zq l cs) s=0:=Dr hl h (hw.mem s (XG ..)) (.inl (hw.s s rfl));obtain ⟨A',q',e1,e2,e3,e4,e5,e6,e7⟩:=SO (parts:=Zq l cs) (w:=s::ws) (ws:=ws) (A:=[]) (q:=⟨partOf (Zq l cs) s,[s]⟩)
      (fun t ht=>⟨XE _ ht,hin t (XE _ ht)⟩)
      (fun t ht=>(hstep 0 s t rfl (by rw [XO];exact ht)).2.2 rfl)
      (fun i a b ha hb=>(hstep (i+1) a b (by rw [XO];exact ha) (by rw [XO];exact hb)).2.2 rfl)
      (fun p hp=>by
        rw [Ve,XR] at hp;subst hp;exact ⟨hs.1,hs.2,by rw [Xo,Xi];omega,fun t ht=>by rw [XR] at ht;subst ht;exact ⟨XG ..,rfl⟩⟩)
      (by rw [Ve,Ko];unfold fLoop;dsimp only;rw [UA hs0,UA hs0])
      (by rw [Ve,Ko];show (([s].length:Nat):Int)+_=_;rw [Xo,Xi];omega)
      (by rw [Ve,Xo,Xi];omega)
      (fun p hp=>by rw [Ve] at hp;cases hp;exact hs0)
     have hq0:q'.part=0:=by
      rw [e7]
      cases hg:ws.getLast? with
      |none=>exact hs0
      | some t=>
        dsimp only;have hgl:(s::ws).getLast? =some t:=by
         cases ws with
         |nil=>simp at hg
         |cons u ws=>rw [Ur];exact hg
        exact Dr hl h (hw.mem t (List.mem_of_getLast? hgl)) (.inr (hw.f t hgl))
     refine ⟨A'++[q'],?_,e2,e4,fun i=>?_,fun h=>UB (show (4:Int)=1 from h) dC,fun h=>UB (show (4:Int)=2∨(4:Int)=3 from h) dC,fun _=>(by rw [e3,UA hq0])⟩
     · unfold Yq;rw [UA rfl];unfold JM;rw [Uz hne,Y5];show (match (match WE (Zq l cs) [] s with|none=>none|some ps'=>Y5 (Zq l cs) ps' ws) with|none=>none|some ps=>if Go.Cb.endsB ps then some ps else none)=_;have e0:WE (Zq l cs) [] s=some ([]++[⟨partOf (Zq l cs) s,[s]⟩]):=rfl;rw [e0];dsimp only;rw [e1];dsimp only;have hb:Go.Cb.endsB (A'++[q'])=true:=by
        unfold Go.Cb.endsB;rw [Du];obtain ⟨p,hp⟩:∃p,(A'++[q'])[0]? =some p:=⟨(A'++[q'])[0]'sM,Xx sM⟩;rw [hp];dsimp only;rw [e6 p hp,hq0];rfl
       rw [hb,UA rfl]
     · refine Int.le_trans (?_:_≤((A'++[q']).length:Int)) (by exact_mod_cast e5);clear e1 e2 e3 e4 e5 e6 e7;generalize A'++[q']=L;induction L with
       |nil=>exact Int.le_refl _
       | cons p L ih=>
         rw [GA,Xi];(have:fAt i p.part p.word≤1:=by unfold fAt;split<;>omega);omega
 · have hkd:=h.2.2.1;obtain ⟨ps',last',e1,e2,e3,e4⟩:=ζ3 (kd:=kd) (parts:=Zq l cs) (ws:=w) (ps:=YS (Zq l cs).length) (first:=true) (last:=0) (fun s hs=>(hin s hs).1)
    (fun s hs=>by
      have:=hin s (Xb hs);unfold KC;rw [Uy oM];simp)
    (fun i a b ha hb=>by
      obtain ⟨g1,g2,_⟩:=hstep i a b ha hb;unfold KC;by_cases k1:kd=1
      · rw [g1 k1];subst k1;simp
      · by_cases k2:kd=2
        · have:=g2 k2;rw [Uy oM];subst k2;simp
        · simp [k1,k2])
   have e5:=Zeu e2 e3;by_cases k1:kd=1
   · subst k1;obtain ⟨s,ws,rfl⟩:∃s ws,w=s::ws:=by
      cases w with
      |nil=>exact UB rfl hne
      |cons s ws=>exact ⟨s,ws,rfl⟩
     have hsame:∀t∈s::ws,partOf (Zq l cs) t=partOf (Zq l cs) s:=fun t ht=>by
      obtain ⟨i,hi⟩:=XF ht;clear ht e4 e1;induction i generalizing t with
      |zero=>cases hi;rfl
      | succ i ih=>
        obtain ⟨u,hu⟩:∃u,(s::ws)[i]? =some u:=⟨_,Xx (by have:=(Xh.1 hi).1;omega)⟩;rw [←ih u hu];exact ((hstep i u t hu hi).1 rfl).symm
     have hs:=hin s (XG ..);have hlast:last'=partOf (Zq l cs) s:=by
      rw [e4]
      cases hg:(s::ws).getLast? with
      |none=>simp at hg
      |some t=>exact hsame t (List.mem_of_getLast? hg)
     have hpc:(ps'.drop last'.toNat).take 1=[⟨partOf (Zq l cs) s,s::ws⟩]:=by
      have h6:ps'[last'.toNat]? =some ⟨partOf (Zq l cs) s,s::ws⟩:=by
       rw [e5,Xl,List.getElem?_range (by rw [hlast];omega),hlast];show some (Piece.mk _ _)=_;rw [show (((partOf (Zq l cs) s).toNat:Nat):Int)=partOf (Zq l cs) s by omega,Uq.2 fun t ht=>Ux (hsame t ht)]
      have h7:last'.toNat<ps'.length:=(Xh.1 h6).1;rw [Vm h7,List.take_succ_cons,V5];rw [Xx h7] at h6;injection h6 with h6;rw [h6]
     refine ⟨[⟨partOf (Zq l cs) s,s::ws⟩],?_,fun p hp=>?_,?_,fun i=>?_,fun _=>?_,fun h=>UB (show (1:Int)=2∨(1:Int)=3 from h) dC,fun h=>UB (show (1:Int)=4 from h) dC⟩
     · unfold Yq;rw [Uz (show ¬((1:Int)=4) by decide)];dsimp only;rw [e1];dsimp only;rw [UA rfl,Uz sM,hpc]
     · rw [XR] at hp;subst hp;exact ⟨hs.1,hs.2,Xg _,fun t ht=>⟨ht,hsame t ht⟩⟩
     · rw [Ko];rfl
     · rw [Ko];unfold fAt;rw [Xi];split<;>omega
     · rw [Ko];rfl
   · refine ⟨ps',?_,by rw [e5];exact Zev (c:=⟨kd,Zq l cs⟩) hne (show kd=2∨kd=3 by omega) hin⟩;unfold Yq;rw [Uz h4];dsimp only;rw [e1];dsimp only;rw [Uz k1]
def wtR (f:List ByteArray→Int) (r:List Var):Int:=(r.map fun v=>v.count*f v.acts).sum
theorem Ka (f:List ByteArray→Int) (x:Var) (r:List Var):wtR f (x::r)=x.count*f x.acts+wtR f r:=by unfold wtR;rw [Xk,V0]
def wtO (f:Int→List ByteArray→Int):Nat→List (List Var)→Int
 |_,[]=>0
 |k,r::rs=>wtR (f k) r+wtO f (k+1) rs
theorem ζ5 (f:List ByteArray→Int) (w:List ByteArray) (n:Int):∀r:List Var,wtR f (YF r w n)=wtR f r+n*f w
 |[]=>by rw [YF,Ka];unfold wtR;simp
 | x :: r=>by
   rw [YF];split
   · rw [Ka,Ka,ζ5 f w n r];omega
   · split
     · rename_i h1 h2;have:=YM.1 h2;rw [Ka,Ka,this];show (x.count+n)*f w+_=_;rw [Int.add_mul];omega
     · rw [Ka];show n*f w+_=_;omega
theorem ζ6 (f:Int→List ByteArray→Int):∀(out:List (List Var)) (k0 i:Nat) (r r':List Var),out[i]? =some r→wtO f k0 (out.set i r')=wtO f k0 out+(wtR (f ((k0+i:Nat):Int)) r'-wtR (f ((k0+i:Nat):Int)) r)
 |[],_,_,_,_,h=>by simp at h
 | r0::out,k0,0,r,r',h=>by
   cases h;rw [List.set_cons_zero,wtO,wtO];show _=_+(wtR (f (k0:Int)) r'-wtR (f (k0:Int)) r0);omega
 | r0::out,k0,i+1,r,r',h=>by
   rw [XO] at h;rw [Un,wtO,wtO,ζ6 f out (k0+1) i r r' h,show k0+1+i=k0+(i+1) by omega];omega
structure RowG (parts:List (List ByteArray)) (k:Nat) (b:Int) (r:List Var):Prop where
 asc:r.Pairwise fun v w=>cmpStrs v.acts w.acts<0
 len:(r.length:Int)≤b
 ok:∀v∈r,v.acts.length≤200∧v.acts.all isName=true∧1≤v.count∧∀s∈v.acts,partOf parts s=k
theorem Oe {a b c:List ByteArray} (h1:cmpStrs a b<0) (h2:cmpStrs b c<0):cmpStrs a c<0:=UC (K1 (Ux h1) (Ux h2))
theorem Hf {w:List ByteArray} {n:Int}:∀{r:List Var} {v:Var},v∈YF r w n→v∈r∨(v.acts=w∧(v.count=n∨∃x∈r,v.count=x.count+n))
 | [],v,h=>by
   rw [YF,XR] at h;subst h;exact .inr ⟨rfl, .inl rfl⟩
 | x :: r,v,h=>by
   rw [YF] at h;split at h
   · rcases Xn.1 h with rfl|h
     · exact .inl (XG ..)
     · rcases Hf h with h|⟨h1,h2⟩
       · exact .inl (XE _ h)
       · exact .inr ⟨h1,h2.imp id fun ⟨y,hy,h⟩=>⟨y,XE _ hy,h⟩⟩
   · split at h
     · rcases Xn.1 h with rfl|h
       · exact .inr ⟨rfl, .inr ⟨x,XG ..,rfl⟩⟩
       · exact .inl (XE _ h)
     · rcases Xn.1 h with rfl|h
       · exact .inr ⟨rfl, .inl rfl⟩
       · exact .inl h
theorem Of (w:List ByteArray) (n:Int):∀r:List Var,(YF r w n).length≤r.length+1
 |[]=>by rw [YF];simp
 | x::r=>by
   rw [YF];have:=Of w n r;split
   · rw [Xi,Xi];omega
   · split<;>simp
theorem ζ7 {w:List ByteArray} {n:Int}:∀{r:List Var},(r.Pairwise fun v w=>cmpStrs v.acts w.acts<0)→(YF r w n).Pairwise fun v w=>cmpStrs v.acts w.acts<0
 |[],_=>by rw [YF];exact List.pairwise_singleton _ _
 | x :: r,h=>by
   have h1:=XB.1 h;rw [YF];split
   · rename_i hx;refine XB.2 ⟨fun v hv=>?_,ζ7 h1.2⟩;rcases Hf hv with hv|⟨hv,_⟩
     · exact h1.1 v hv
     · rw [hv];exact hx
   · rename_i hx;split
     · rename_i hz;have:=YM.1 hz;exact XB.2 ⟨fun v hv=>by show cmpStrs w v.acts<0;rw [←this];exact h1.1 v hv,h1.2⟩
     · rename_i hz;have hlt:cmpStrs w x.acts<0:=by
        by_cases h2:cmpStrs w x.acts<0
        · exact h2
        · exact UB (YM.2 (JB (Uy hx) (Uy h2))) hz
       refine XB.2 ⟨fun v hv=>?_,h⟩;rcases Xn.1 hv with rfl|hv
       · exact hlt
       · exact Oe hlt (h1.1 v hv)
theorem RowG.add {parts:List (List ByteArray)} {k:Nat} {b:Int} {r:List Var} (h:RowG parts k b r) {w:List ByteArray} {n:Int} (hn:1≤n) (hl:w.length≤200) (hw:w.all isName=true) (hp:∀s∈w,partOf parts s=k):RowG parts k (b+1) (YF r w n):=by
 refine ⟨ζ7 h.asc,?_,fun v hv=>?_⟩
 · have:=Of w n r;have:=h.len;omega
 · rcases Hf hv with hv|⟨h1,h2⟩
   · exact h.ok v hv
   · refine ⟨by rw [h1];exact hl,by rw [h1];exact hw,?_,by rw [h1];exact hp⟩;rcases h2 with h2|⟨x,hx,h2⟩
     · omega
     · have:=(h.ok x hx).2.2.1;omega
theorem RowG.mono {parts:List (List ByteArray)} {k:Nat} {b b':Int} {r:List Var} (h:RowG parts k b r) (hb:b≤b'):RowG parts k b' r:=⟨h.asc,Int.le_trans h.len hb,h.ok⟩
def C3 (parts:List (List ByteArray)) (B:Nat→Int) (out:List (List Var)):Prop:=out.length=parts.length∧∀(k:Nat) (r:List Var),out[k]? =some r→RowG parts k (B k) r
theorem Zdq {parts:List (List ByteArray)} {B:Nat→Int} {out:List (List Var)} (h:C3 parts B out) {w:List ByteArray} (hw:w.length≤200∧w.all isName=true) {n:Int} (hn:1≤n) {p:Piece} (hp:PcOk parts w p):
 C3 parts (fun k=>B k+fAt k p.part p.word) (YR n out p)∧∀f,wtO f 0 (YR n out p)=wtO f 0 out+n*f p.part p.word:=by
 obtain ⟨h1,h2,h3,h4⟩:=hp
 obtain ⟨r,hr⟩:∃r,out[p.part.toNat]? =some r:=Zj (by rw [h.1];omega)
 have e0:YR n out p=out.set p.part.toNat (YF r p.word n):=by unfold YR;rw [hr]
 have e1:((p.part.toNat:Nat):Int)=p.part:=oM
 rw [e0]
 refine ⟨⟨by rw [Xj];exact h.1,fun k r' hr'=>?_⟩,fun f=>?_⟩
 · by_cases hk:p.part.toNat=k
   · subst hk;rw [Xp (Xh.1 hr).1] at hr'
     cases hr';(have:fAt ((p.part.toNat:Nat):Int) p.part p.word=1:=by unfold fAt;rw [UA e1.symm]);dsimp only;rw [this];refine (h.2 _ r hr).add hn oM (Xf.2 fun s hs=>Xf.1 hw.2 s (h4 s hs).1) fun s hs=>?_;rw [e1];exact (h4 s hs).2
   · rw [X0 hk] at hr';refine (h.2 k r' hr').mono ?_;dsimp only;unfold fAt;split<;>omega
 · rw [ζ6 f out 0 _ r _ hr,ζ5,Xy,e1];omega
theorem Dv {parts:List (List ByteArray)} {w:List ByteArray} (hw:w.length≤200∧w.all isName=true) {n:Int} (hn:1≤n):∀{ps:List Piece} {B:Nat→Int} {out:List (List Var)},C3 parts B out→(∀p∈ps,PcOk parts w p)→
 C3 parts (fun k=>B k+psum (fAt k) ps) (ps.foldl (YR n) out)∧∀f,wtO f 0 (ps.foldl (YR n) out)=wtO f 0 out+n*psum f ps
 |[],B,out,h,_=>⟨⟨h.1,fun k r hr=>(h.2 k r hr).mono (by show _≤_+0;omega)⟩,fun f=>by show _=_+n*0;rw [Int.mul_zero];exact (Int.add_zero _).symm⟩
 | p::ps,B,out,h,hp=>by
   obtain ⟨h1,h2⟩:=Zdq h hw hn (hp p (XG ..));obtain ⟨h3,h4⟩:=Dv hw hn h1 fun q hq=>hp q (XE _ hq);rw [List.foldl_cons];refine ⟨⟨h3.1,fun k r hr=>(h3.2 k r hr).mono ?_⟩,fun f=>?_⟩
   · dsimp only;rw [GA];omega
   · rw [h4,h2,GA,V2];omega
def sumV (g:Var→Int) (l:List Var):Int:=(l.map g).sum
theorem K9 (g:Var→Int) (x:Var) (l:List Var):sumV g (x::l)=g x+sumV g l:=by unfold sumV;rw [Xk,V0]
theorem EP {c:Cut}:∀{l:List Var} {B:Nat→Int} {out:List (List Var)},(∀x∈l,YQ x=true∧∃ps,Yq c x.acts=some ps∧Pcs c x.acts ps)→C3 c.parts B out→
 ∃out',Y6 c out l=some out'∧C3 c.parts (fun k=>B k+sumV (fun x=>x.acts.length) l) out'∧(∀f (g:Var→Int),(∀x∈l,∀ps,Pcs c x.acts ps→psum f ps=g x)→wtO f 0 out'=wtO f 0 out+sumV (fun x=>x.count*g x) l)∧∀f (g:Var→Int),(∀x∈l,∀ps,Pcs c x.acts ps→psum f ps≤g x)→wtO f 0 out'≤wtO f 0 out+sumV (fun x=>x.count*g x) l
 |[],B,out,_,h=>⟨out,rfl,⟨h.1,fun k r hr=>(h.2 k r hr).mono (by show _≤_+0;omega)⟩,fun f g _=>(by show _=_+0;omega),fun f g _=>(by show _≤_+0;omega)⟩
 | x ::l,B,out,hx,h=>by
   obtain ⟨hok,ps,hs,hP⟩:=hx x (XG ..);unfold YQ at hok;simp only [Xd,Uw] at hok;obtain ⟨h1,h2⟩:=Dv (parts:=c.parts) ⟨hok.1.1.1,hok.1.1.2⟩ hok.1.2 h hP.ok;obtain ⟨out',e1,e2,e3,e4⟩:=EP (l:=l) (fun y hy=>hx y (XE _ hy)) h1;refine ⟨out',by rw [Y6,hs];exact e1,⟨e2.1,fun k r hr=>(e2.2 k r hr).mono ?_⟩,fun f g hg=>?_,fun f g hg=>?_⟩
   · dsimp only;rw [K9];have:=hP.le k;omega
   · rw [e3 f g fun y hy=>hg y (XE _ hy),h2,K9,hg x (XG ..) ps hP];omega
   · have h3:=e4 f g fun y hy=>hg y (XE _ hy);rw [h2] at h3;rw [K9];have h4:x.count*psum f ps≤x.count*g x:=Int.mul_le_mul_of_nonneg_left (hg x (XG ..) ps hP) oM;omega
theorem C4 (i:Int):∀(out:List (List Var)) (k0:Nat),(k0:Int)≤i→wtO (fAt i) k0 out=(match out[i.toNat-k0]? with|some r=>wtR (fun _=>1) r|none=>0)
 |[],k0,_=>rfl
 | r :: out,k0,h=>by
   rw [wtO];by_cases hk:(k0:Int)=i
   · have h0:wtO (fAt i) (k0+1) out=0:=by
      have aux:∀(out:List (List Var)) (k1:Nat),i<(k1:Int)→wtO (fAt i) k1 out=0:=fun out=>by
       induction out with
       |nil=>intro _ _;rfl
       | cons r out ih=>
         intro k1 h1;rw [wtO,ih (k1+1) oM];have:wtR (fAt i (k1:Int)) r=0:=by
          unfold wtR fAt;rw [Uz oM];induction r with
          |nil=>rfl
          |cons v r ihr=>rw [Xk,V0,ihr];omega
         rw [this];rfl
      exact aux out (k0+1) oM
     rw [h0,show i.toNat-k0=0 by omega,List.getElem?_cons_zero];(have:wtR (fAt i (k0:Int)) r=wtR (fun _=>1) r:=by unfold wtR fAt;rw [UA hk]);rw [this];show _+0=wtR _ r;omega
   · rw [C4 i out (k0+1) oM,show i.toNat-k0=(i.toNat-(k0+1))+1 by omega,XO];have:wtR (fAt i (k0:Int)) r=0:=by
      unfold wtR fAt;rw [Uz hk];induction r with
      |nil=>rfl
      |cons v r ihr=>rw [Xk,V0,ihr];omega
     rw [this];omega
structure SplitG (l:List Var) (c:Cut) (out:List (List Var)):Prop where
 len:out.length=c.parts.length
 val:∀r∈out,bigVars r=false→validVars r=true
 inn:∀(k:Nat) (r:List Var),out[k]? =some r→∀v∈r,∀s∈v.acts,∃p,c.parts[k]? =some p∧s∈p
 wds:∀r∈out,∀v∈r,v.acts.length≤200∧1≤v.count
 few:∀r∈out,(r.length:Int)≤sumV (fun x=>x.acts.length) l
 tot:∀r∈out,wtR (fun _=>1) r≤sumV (fun x=>x.count*x.acts.length) l
 acts:wtO fLen 0 out=sumV (fun x=>x.count*x.acts.length) l
 one:c.kind=1→wtO fOne 0 out=sumV (fun x=>x.count*1) l
 all:(c.kind=2∨c.kind=3)→∀r∈out,wtR (fun _=>1) r=sumV (fun x=>x.count*1) l
 loop:c.kind=4→wtO fLoop 0 out=sumV (fun x=>x.count* -1) l
theorem EQ {r:List Var} (h3:r.length≤300) (ha:r.Pairwise fun v w=>cmpStrs v.acts w.acts<0) (ho:∀v∈r,YQ v=true):validVars r=true:=Te h3 fun j hj=>by
 obtain ⟨x,hx⟩:=Zj hj
 rcases Vx j with h0|h0
 · subst h0;unfold KP;rw [hx];dsimp only;rw [ho x (Xb hx)];rfl
 · obtain ⟨y,hy⟩:=Zj (show j-1<r.length by omega);rw [GH hx hy h0,ho x (Xb hx)];have:=XX.1 ha (j-1) j oM hj oM;rw [(Xh.1 hx).2,(Xh.1 hy).2] at this;rw [Ux this];rfl
theorem Hg {l:List Var} {c:Cut} (hv:validVars l=true) (hf:Z8 c=true) (hx:∀x∈l,∃ps,Yq c x.acts=some ps∧Pcs c x.acts ps) (hin:WZ c.parts l=true) (hfew:sumV (fun x=>x.acts.length) l≤300):
 ∃out,SplitG l c out∧((out.any bigVars=true∧Wz l c=([],6))∨(out.any bigVars=false∧Wz l c=(out,0))):=by
 have hB0:C3 c.parts (fun _=>0) (List.replicate c.parts.length []):=⟨Xw,fun k r hr=>by
  have:=Xb hr;rw [Vl this];exact ⟨.nil,sM,fun v hv=>by simp at hv⟩⟩
 have hw0:∀(f:Int→List ByteArray→Int) (n k:Nat),wtO f k (List.replicate n [])=0:=fun f n=>by
  induction n with
  |zero=>intro k;rfl
  |succ n ih=>intro k;rw [List.replicate_succ,wtO,ih];rfl
 obtain ⟨out,e1,e2,e3,e4⟩:=EP (fun x hxl=>⟨P8 hv x hxl,hx x hxl⟩) hB0
 have hrow:∀r∈out,∃k,RowG c.parts k (0+sumV (fun x=>x.acts.length) l) r:=fun r hr=>by
  obtain ⟨k,hk⟩:=XF hr;exact ⟨k,e2.2 k r hk⟩
 have hmany:out.any Wh=false:=by
  rw [Ub];intro r hr;obtain ⟨k,hk⟩:=hrow r hr;have:=hk.len;unfold Wh;rw [Uw];omega
 refine ⟨out,⟨e2.1,fun r hr hb=>?_,fun k r hr v hvr s hs=>?_,fun r hr v hvr=>?_,fun r hr=>?_,fun r hr=>?_,?_,fun hk=>?_,fun hk r hr=>?_,fun hk=>?_⟩,?_⟩
 · obtain ⟨k,hk⟩:=hrow r hr;have:=hk.len;refine EQ oM hk.asc fun v hvr=>?_;have h1:=hk.ok v hvr;have h2:¬1048576<v.count:=fun h=>by
    have:bigVars r=true:=XS.2 ⟨v,hvr,Ux h⟩;rw [hb] at this;cases this
   unfold YQ;simp only [Xd,Uw];exact ⟨⟨⟨h1.1,h1.2.1⟩,h1.2.2.1⟩,oM⟩
 · have h1:=((e2.2 k r hr).ok v hvr).2.2.2 s hs;have h2:=Cx (ps:=c.parts) (s:=s) oM;rw [h1,Xt] at h2;obtain ⟨p,hp⟩:=Zj (show k<c.parts.length by rw [←e2.1];exact (Xh.1 hr).1);rw [hp] at h2;exact ⟨p,hp,JX.1 h2⟩
 · obtain ⟨k,hk⟩:=hrow r hr;exact ⟨(hk.ok v hvr).1,(hk.ok v hvr).2.2.1⟩
 · obtain ⟨k,hk⟩:=hrow r hr;have:=hk.len;omega
 · obtain ⟨k,hkr⟩:=XF hr;have h1:=e4 (fAt k) (fun x=>x.acts.length) fun x _ ps h=>h.le k;rw [hw0,C4 _ _ _ oM,show ((k:Int).toNat-0)=k by omega,hkr] at h1;have h2:wtR (fun _=>1) r≤0+sumV (fun x=>x.count*x.acts.length) l:=h1;omega
 · rw [e3 fLen (fun x=>x.acts.length) fun x _ ps h=>h.len,hw0];omega
 · rw [e3 fOne (fun _=>1) fun x _ ps h=>h.one hk,hw0];omega
 · obtain ⟨k,hkr⟩:=XF hr;have h1:=e3 (fAt k) (fun _=>1) fun x _ ps h=>h.all hk k (by rw [←e2.1];exact (Xh.1 hkr).1);rw [hw0,C4 _ _ _ oM,show ((k:Int).toNat-0)=k by omega,hkr] at h1;have h2:wtR (fun _=>1) r=0+sumV (fun x=>x.count*1) l:=h1;omega
 · rw [e3 fLoop (fun _=> -1) fun x _ ps h=>h.loop hk,hw0];omega
 · unfold Wz;rw [hv,hf,hin,e1];dsimp only
   cases hb:out.any bigVars
   · exact .inr ⟨rfl,by simp [hmany]⟩
   · exact .inl ⟨rfl,sM⟩
theorem Zdr {l:List Var} (h:validVars l=true):l.Pairwise fun v w=>cmpStrs v.acts w.acts<0:=by
 have hst:∀j x y,l[j]? =some x→l[j+1]? =some y→cmpStrs x.acts y.acts<0:=fun j x y hx hy=>by
  unfold validVars at h;rw [Xd,Xf] at h;have:=h.2 (j+1) (XJ.2 (Xh.1 hy).1);rw [GH hy (by rw [VZ];exact hx) oM,Xd] at this;exact UC this.2
 clear h
 induction l with
 |nil=>exact .nil
 | cons v l ih=>
   have ih':=ih fun j x y hx hy=>hst (j+1) x y (by rw [XO];exact hx) (by rw [XO];exact hy);refine XB.2 ⟨fun w hw=>?_,ih'⟩
   cases l with
   |nil=>simp at hw
   | cons u l=>
     have h0:=hst 0 v u rfl rfl;rcases Xn.1 hw with rfl|hw
     · exact h0
     · exact Oe h0 ((XB.1 ih').1 w hw)
theorem Hh {l:List Var} (h:validVars l=true) (p:Var→Bool):validVars (l.filter p)=true:=by
 have h3:l.length≤300:=by
  unfold validVars at h;rw [Xd] at h;exact UC h.1
 exact EQ (XP (VP _ _) h3) ((Zdr h).filter _) fun v hv=>P8 h v (XU.1 hv).1
theorem RN {g:Var→Int} {b:Int}:∀{l:List Var},(∀x∈l,g x≤b)→sumV g l≤l.length*b
 |[],_=>by unfold sumV;simp
 | x::l,h=>by
   rw [K9,Xi];have h1:=RN (l:=l) fun y hy=>h y (XE _ hy);have h2:=h x (XG ..);have:((l.length+1:Nat):Int)*b=l.length*b+b:=by rw [Int.natCast_add,Int.add_mul];omega
   rw [this];omega
theorem ZbV {l:List Var} {g:Dfg} {c:Cut} {kd:Int} {cs:List (List Int)} (hv:validVars l=true) (hne:∀x∈l,x.acts≠[]) (hfew:sumV (fun x=>x.acts.length) l≤300) (hg:LG g (Wl l)) (hok:WU g=true)
 (hc:c=⟨kd,Zq (cnames g.acts) cs⟩) (hF:G' (cnames g.acts) (KR (cnames g.acts) g.follows) (Wn (cnames g.acts) g.starts) (Wn (cnames g.acts) g.ends) kd cs):
 O' g c=true∧Z8 c=true∧∃out,SplitG l c out∧((out.any bigVars=true∧Wz l c=([],6))∨(out.any bigVars=false∧Wz l c=(out,0))):=by
 subst hc
 have h1:=ZbR hok rfl rfl rfl hF
 have hf:Z8 ⟨kd,Zq (cnames g.acts) cs⟩=true:=by
  unfold O' at h1;rw [Xd,Xd] at h1;exact h1.1.2
 have hl:chainB strLt (cnames g.acts)=true:=by
  unfold WU WG at hok;simp only [Xd] at hok;exact hok.1.1.1.1.1.1.1.2
 refine ⟨h1,hf,Hg hv hf (fun x hx=>EO hl hF (Dq hg hx) (hne x hx)) ?_ hfew⟩
 unfold WZ
 rw [Xf]
 intro x hx
 rw [Xf]
 intro s hs
 obtain ⟨k,_,_,_,_,h2⟩:=LJ hl hF.1 ((Dq hg hx).mem s hs)
 rw [h2]
 exact Ux oM
theorem ZbW:NoAgg prog 22=true:=by kernel_rfl
theorem SP:SlT prog 45 22 1=true:=by kernel_rfl
theorem Zds:ZeroT prog 3 (.int .i64 0):=by unfold ZeroT;kernel_rfl
theorem Zdt (g:Var→Int) (a b:List Var):sumV g (a++b)=sumV g a+sumV g b:=by unfold sumV;rw [X1,List.sum_append]
theorem SQ (g:Var→Int) {l:List Var} {k:Nat} {x:Var} (h:l[k]? =some x):sumV g (l.take (k+1))=sumV g (l.take k)+g x:=by
 rw [Z7 h,Zdt,K9];show _+(_+0)=_;omega
theorem ζ8 (f:List ByteArray→Int) (a b:List Var):wtR f (a++b)=wtR f a+wtR f b:=by unfold wtR;rw [X1,List.sum_append]
theorem T9 (f:List ByteArray→Int) {l:List Var} {k:Nat} {x:Var} (h:l[k]? =some x):wtR f (l.take (k+1))=wtR f (l.take k)+x.count*f x.acts:=by
 rw [Z7 h,ζ8,Ka];show _+(_+0)=_;omega
theorem ζ9 (f:Int→List ByteArray→Int):∀(k:Nat) (a b:List (List Var)),wtO f k (a++b)=wtO f k a+wtO f (k+a.length) b
 |k,[],b=>by show wtO f k b=0+wtO f (k+0) b;rw [VT];omega
 | k,r::a,b=>by
   rw [X2,wtO,wtO,ζ9 f (k+1) a b,Xi,show k+1+a.length=k+(a.length+1) by omega];omega
theorem Kp (f:Int→List ByteArray→Int) {l:List (List Var)} {k:Nat} {r:List Var} (h:l[k]? =some r):wtO f 0 (l.take (k+1))=wtO f 0 (l.take k)+wtR (f (k:Nat)) r:=by
 have hk:=Ze h
 rw [Z7 h,ζ9,wtO,XW,Ua oM,Xy];show _+(_+0)=_;omega
theorem RO {a A:Int} {n:Nat} (h0:0≤a) (h1:a≤A) (h2:n≤200):0≤a*n∧a*n≤200*A:=by
 have h3:0≤a*(n:Int):=Int.mul_nonneg h0 oM
 have h4:a*(n:Int)≤a*200:=Int.mul_le_mul_of_nonneg_left oM h0
 exact ⟨h3,oM⟩
theorem Zaa {g:Var→Int} {b:Int} (hb:0≤b):∀{l:List Var},(∀x∈l,0≤g x∧g x≤b)→∀k:Nat,k≤l.length→0≤sumV g (l.take k)∧sumV g (l.take k)≤k*b:=fun {l} h k=>by
 induction k with
 |zero=>intro _;rw [V5];show 0≤(0:Int)∧(0:Int)≤((0:Nat):Int)*b;omega
 | succ k ih=>
   intro hk;obtain ⟨x,hx⟩:=Zj (show k<l.length by omega);have h1:=ih oM;have h2:=h x (Xb hx);rw [SQ g hx,show ((k+1:Nat):Int)*b=k*b+b by rw [Int.natCast_add,Int.add_mul];omega];omega
theorem Zdu {r:List Var} {A:Int} (hr:∀v∈r,v.acts.length≤200∧1≤v.count) (hA:wtR (fun _=>1) r≤A) (k:Nat) (hk:k≤r.length):
 0≤wtR (fun _=>1) (r.take k)∧wtR (fun _=>1) (r.take k)≤A∧0≤wtR (fLen 0) (r.take k)∧wtR (fLen 0) (r.take k)≤200*A:=by
 have hpos:∀l:List Var,(∀v∈l,v.acts.length≤200∧1≤v.count)→0≤wtR (fun _=>1) l∧0≤wtR (fLen 0) l∧wtR (fLen 0) l≤200*wtR (fun _=>1) l:=fun l=>by
  induction l with
  |nil=>intro _;show 0≤(0:Int)∧0≤(0:Int)∧(0:Int)≤200*0;omega
  | cons v l ih=>
    intro h;have h1:=ih fun w hw=>h w (XE _ hw);have h2:=h v (XG ..);have h3:=RO (a:=v.count) (A:=v.count) (n:=v.acts.length) oM (Int.le_refl _) h2.1;rw [Ka,Ka];show 0≤v.count*1+_∧0≤v.count*(v.acts.length:Int)+_∧v.count*(v.acts.length:Int)+_≤200*(v.count*1+_);omega
 have h1:=hpos (r.take k) fun v hv=>hr v (V6 hv)
 have h2:=hpos (r.drop k) fun v hv=>hr v (List.mem_of_mem_drop hv)
 have h3:=ζ8 (fun _=>1) (r.take k) (r.drop k)
 rw [Um] at h3
 omega
def Og (kd:Int):Int→List ByteArray→Int:=if kd=4 then fLoop else fOne
theorem GB (kd:Int) (k:Nat) (r:List Var):wtR (Og kd k) r=if kd=4∧k=0 then-wtR (fun _=>1) r else wtR (fun _=>1) r:=by
 have hc:∀(a:Int) (l:List Var),wtR (fun _=>a) l=a*wtR (fun _=>1) l:=fun a l=>by
  induction l with
  |nil=>show (0:Int)=a*0;omega
  |cons v l ih=>rw [Ka,Ka,ih,V2,Int.mul_one,Int.mul_comm]
 unfold Og
 by_cases h4:kd=4
 · rw [UA h4];by_cases h0:k=0
   · subst h0;rw [UA ⟨h4,rfl⟩,show fLoop ((0:Nat):Int)=(fun _=>(-1:Int)) from rfl,hc];omega
   · rw [Uz (fun h=>h0 h.2),show fLoop ((k:Nat):Int)=(fun _=>(1:Int)) from funext fun _=>Uz oM]
 · rw [Uz h4,Uz (fun h=>h4 h.1)];rfl
theorem Zfq {kd A:Int} {out:List (List Var)} (hA:0≤A) (hr:∀r∈out,(∀v∈r,v.acts.length≤200∧1≤v.count)∧wtR (fun _=>1) r≤A):∀k:Nat,k≤out.length→
 0≤wtO fLen 0 (out.take k)∧wtO fLen 0 (out.take k)≤k*(200*A)∧-(k*A)≤wtO (Og kd) 0 (out.take k)∧wtO (Og kd) 0 (out.take k)≤k*A:=fun k=>by
 induction k with
 |zero=>intro _;rw [V5];show 0≤(0:Int)∧(0:Int)≤((0:Nat):Int)*_∧-(((0:Nat):Int)*A)≤(0:Int)∧(0:Int)≤((0:Nat):Int)*A;omega
 | succ k ih=>
   intro hk;obtain ⟨r,hx⟩:=Zj (show k<out.length by omega);have h1:=ih oM;have h2:=hr r (Xb hx);have h3:=Zdu h2.1 h2.2 r.length (Xg _);rw [XD] at h3;rw [Kp _ hx,Kp _ hx,GB,show fLen (k:Nat)=fLen 0 from rfl,show ((k+1:Nat):Int)*A=k*A+A by rw [Int.natCast_add,Int.add_mul];omega,show ((k+1:Nat):Int)*(200*A)=k*(200*A)+200*A by rw [Int.natCast_add,Int.add_mul];omega];split<;>omega
theorem ER (x:Var):AF prog 12 [.agg (Wd x)] (· =Zo (decide (x.acts.length=0))):=by
 refine AF.of_body 7 func12 rfl ntmps12 (Xa rfl) ?_
 intro w0 M0 vs hl hv
 obtain ⟨v0,rfl⟩:=WO hl
 clear hl hv
 refine Zd ?_
 (refine Yr 1 2 fun h1=>?_<;>refine xL 2 Zb ?_<;>refine Zh ?_)
 (refine xL 3 (Zm 1 Yd) ?_<;>(refine yL 4 (Zp 1 ZL) fun v4 h=>?_;cases h)<;>refine xL 5 (ZF Zu) (xL 6 YY (xL 2 Zb ?_))<;>refine Zc ?_)
 refine Zi (results12) rfl ?_
 show Zo (decide ((x.acts.length:Int)=0))=_
 exact congrArg Zo (decide_eq_decide.2 oM)
theorem ES (c:Cut) (k:Nat) (p:List ByteArray) (s:ByteArray) (hp:c.parts[k]? =some p):AF prog 72 [ZS s, .sptr 0 [Zg c.kind,Kx c.parts], .sptr 0 [Zg (k:Nat)]] (· =Zo (!hasStr p s)):=by
 refine AF.of_body 13 func72 rfl ntmps72 (Xa rfl) ?_
 intro w0 M0 vs hl hv
 obtain ⟨v0,v1,v2,rfl⟩:=RX hl
 clear hl hv
 have e1:=Yn (f:=ZQ) hp
 have e2:=Ze hp
 refine Zd ?_
 (refine xL 4 Zb ?_<;>refine Zh ?_)
 (refine xL 5 (Ye KG) ?_<;>(refine yL 6 (Zt JC) fun v6 h=>?_;cases h)<;>(refine yL 7 (Zt Zx) fun v7 h=>?_;cases h)<;>refine xL 8 (Zn L0) ?_<;>(refine yL 9 (Zt ZL) fun v9 h=>?_;cases h)<;>refine xL 10 Za ?_<;>(refine cS 11 (cA call73 (KQ p s)) fun v11 h=>?_;cases h)<;>refine xL 12 Yj (xL 4 Zb ?_)<;>refine Zc ?_)
 exact Zi results72 rfl rfl
theorem C5 (l : List Var) (out:List (List Var)) (c:Cut) (h:SplitG l c out) (hb:out.any bigVars=false) (hl:l.length≤12) (hx:∀x∈l,1≤x.count∧x.count≤1048576∧x.acts.length≤200) (hp:c.parts.length≤1000000) (hs:∀p∈c.parts,∀s∈p,s.size≤140737488355328):AF prog 21 [Wi l,E5 out,RV c] (· =Zo true):=by
 have hAb:=Zaa (g:=fun x=>x.count*x.acts.length) (b:=209715200) dC (fun x hm=>by have:=hx x hm;exact RO oM this.2.1 this.2.2)
 have hWb:=Zaa (g:=fun x=>x.count*1) (b:=1048576) dC (fun x hm=>by have:=hx x hm;show 0≤x.count*1∧x.count*1≤1048576;omega)
 have hol:out.length≤1000000:=by rw [h.len];exact hp
 have hA1:=hAb l.length (Xg _)
 have hA2:=hWb l.length (Xg _)
 rw [XD] at hA1 hA2
 have hact:=h.acts
 have hone:=h.one
 have hall:=h.all
 have hloop:=h.loop
 have hneg:sumV (fun x=>x.count* -1) l= -sumV (fun x=>x.count*1) l:=by
  clear hA1 hA2 hact hone hall hloop hAb hWb h hx hl;induction l with
  |nil=>rfl
  |cons x l ih=>rw [K9,K9,ih];omega
 have hr:∀r∈out,(∀v∈r,v.acts.length≤200∧1≤v.count)∧wtR (fun _=>1) r≤2516582400:=fun r hr=>⟨h.wds r hr,by have:=h.tot r hr;omega⟩
 have hO:=Zfq (kd:=c.kind) (A:=2516582400) dC hr
 have hfl2:∀r∈out,r.length≤2400:=fun r hm=>by
  have h1:=h.few r hm;have hfew:sumV (fun x=>(x.acts.length:Int)) l≤l.length*200:=RN fun x hm=>by have:=(hx x hm).2.2;omega
  omega
 have hval:∀r∈out,Ru r∧validVars r=true:=fun r hm=>by
  obtain ⟨i,hi⟩:=XF hm;have h1:=h.few r hm;have hbg:=Ub.1 hb r hm;have hfew:sumV (fun x=>(x.acts.length:Int)) l≤l.length*200:=RN fun x hm=>by have:=(hx x hm).2.2;omega
  refine ⟨⟨oM,fun v hv=>⟨⟨by have:=(h.wds r hm v hv).1;omega,fun s hsm=>?_⟩,?_,?_⟩⟩,h.val r hm (by simpa using hbg)⟩
  · obtain ⟨p,hp1,hp2⟩:=h.inn i r hi v hv s hsm;exact hs p (Xb hp1) s hp2
  · have:=(h.wds r hm v hv).2;omega
  · unfold bigVars at hbg;simp only [XS,Uw,not_exists,not_and] at hbg;have:=hbg v hv;omega
 refine AF.of_body 122 func21 rfl ntmps21 (Xa rfl) ?_
 intro w0 M0 vs hl hv
 obtain ⟨v0,v1,v2,rfl⟩:=RX hl
 clear hl hv
 refine Zd ?_
 (refine Yr 5 2 fun h5=>?_<;>refine xL 6 Zb ?_<;>refine Zc ?_)
 refine Zz (K' (l:=5) (t:=5) (j:=0) rfl X3 rfl) fun _=>?_
 (refine Zk ?_<;>refine xL 7 Zb (xL 8 Zb ?_)<;>refine Zh ?_)
 (refine xL 18 Za (xL 19 (ZF Z2) (xL 20 Za ?_))<;>refine Zc ?_)
 refine Zw (ι:={q:Nat×Int×Int//q.1≤l.length∧q.2.1=sumV (fun x=>x.count*x.acts.length) (l.take q.1)∧q.2.2=sumV (fun x=>x.count*1) (l.take q.1)}) (fun k=>⟨[(1,_,_),(5,_,_),(6,_,_),(18,_,_),(19,_,_),(7, .int .i64 k.1.2.1,Zg k.1.2.1),(8, .int .i64 k.1.2.2,Zg k.1.2.2),(20, .int .i64 k.1.1,Zg k.1.1)],[]⟩) (fun k=>l.length-k.1.1) ⟨(0,0,0),oM,rfl,rfl⟩ (fun a w H=>H.weaken ⟨rfl,rfl,rfl,rfl,rfl,rfl,rfl,rfl,trivial⟩ trivial) ?_
 rintro ⟨⟨k,a,w⟩,hk,ha,hw⟩
 dsimp only
 dsimp only at hk ha hw
 have hab:=hAb k hk
 have hwb:=hWb k hk
 rw [←ha] at hab
 rw [←hw] at hwb
 refine Zd ?_
 (refine xL 21 ZN ?_<;>refine Zc ?_)
 refine cX ?_ ?_<;>intro hb21
 · first|exact bN hb21|(
 obtain ⟨x,hxg⟩:=Zj (show k<l.length by omega);have e1:=Yp Z1 l k x hxg;have e2:=YI Z1 hxg;have hxx:=hx x (Xb hxg);have hpr:=RO (a:=x.count) oM hxx.2.1 hxx.2.2;refine Zd ?_;(refine xL 22 (Zn Z2) ?_<;>(refine yL 23 (Jm YJ) fun v23 h=>?_;cases h)<;>refine ZV [(.slice none 0 0),(.int .i64 0)] 2 10 Gp fun h10=>?_<;>refine YN 10 YJ ?_<;>refine Zc ?_)
 (refine ZR (fun i=>([]:List Nat).elem i) [10] kR ?_<;>refine xD 0 24 rfl Za ?_<;>refine xD 1 25 rfl (Zm 10 YO) ?_<;>(refine yD 2 26 rfl (Zp 10 Zx) fun v26 h=>?_;cases h)<;>refine xD 3 27 rfl (Zm 10 Yd) ?_<;>(refine yD 4 28 rfl (Zp 10 ZL) fun v28 h=>?_;cases h)<;>refine xD 5 29 rfl (ZF Zu) ?_<;>refine xD 6 30 rfl (Zcd (h1:=by omega) (h2:=by omega)) ?_<;>refine xD 7 31 rfl ZB ?_<;>refine xD 8 32 rfl Za ?_<;>refine xD 9 33 rfl (Zm 10 YO) ?_<;>(refine yD 10 34 rfl (Zp 10 Zx) fun v34 h=>?_;cases h)<;>refine xD 11 35 rfl ZB ?_<;>refine xE 12 7 rfl Zb ?_<;>refine xE 13 8 rfl Zb ?_<;>refine YU kR (nav ?_)<;>try dsimp only)
 (refine Zk ?_<;>refine xL 36 ZB (xL 20 Za ?_)<;>refine Zc ?_)
 refine Zf (
  ⟨(k+1,a+x.count*x.acts.length,w+x.count),Ze hxg,by dsimp only;rw [SQ _ hxg,ha],by dsimp only;rw [SQ _ hxg,hw,Int.mul_one]⟩
  ) (by dsimp only;omega) ⟨rfl,rfl,rfl,rfl,rfl,rfl,rfl,rfl,trivial⟩ trivial)
 · first | exact bN hb21 |(
 obtain rfl:k=l.length:=oM;rw [XD] at ha hw;refine Zd ?_;(refine xL 11 Zb (xL 12 Zb ?_)<;>refine Zh ?_)
 (refine xL 37 Za (xL 38 (ZF SP) (xL 39 Za ?_))<;>refine Zc ?_)
 refine Zw (ι:={q:Nat×Int×Int//q.1≤out.length∧q.2.1=wtO fLen 0 (out.take q.1)∧q.2.2=wtO (Og c.kind) 0 (out.take q.1)}) (fun k=>⟨[(1,_,_),(5,_,_),(6,_,_),(7,_,_),(8,_,_),(37,_,_),(38,_,_),(11, .int .i64 k.1.2.1,Zg k.1.2.1),(12, .int .i64 k.1.2.2,Zg k.1.2.2),(39, .int .i64 k.1.1,Zg k.1.1)],[]⟩) (fun k=>out.length-k.1.1) ⟨(0,0,0),oM,rfl,rfl⟩ (fun a w H=>H.weaken ⟨rfl,rfl,rfl,rfl,rfl,rfl,rfl,rfl,rfl,rfl,trivial⟩ trivial) ?_;rintro ⟨⟨k2,n,sm⟩,hk2,hn,hsm⟩;dsimp only;dsimp only at hk2 hn hsm;have hob:=hO k2 hk2;rw [←hn,←hsm] at hob;refine Zd ?_;(refine xL 40 ZN ?_<;>refine Zc ?_)
 refine cX ?_ ?_<;>intro hb40
 · first | exact bN hb40|(
 obtain ⟨r,hrg⟩:=Zj (show k2<out.length by omega);have e3:=Yn (f:=Wi) hrg;have hrm:=Xb hrg;have hrb:=Zdu (hr r hrm).1 (hr r hrm).2;have hrl:=hfl2 r hrm;refine Zd ?_;(refine xL 41 Za (xL 42 (Zn SP) ?_)<;>(refine yL 43 (Zt ZbW) fun v43 h=>?_;cases h)<;>refine ZV [(.int .i64 0)] 1 13 Zds fun h13=>?_<;>refine Rs 13 Zx H4 ?_<;>refine xL 14 Zb ?_<;>refine Zc ?_)
 refine Zz (K' (l:=13) (t:=13) (j:=0) rfl X3 rfl) fun _=>?_;(refine Zk ?_<;>refine xL 44 Za ?_<;>(refine cS 45 (cA call9 ((Ks r (hval r hrm).1).mono (R':=(· =Zo true)) fun p hp=>by rw [hp,(hval r hrm).2])) fun v45 h=>?_;cases h)<;>refine xL 46 Yj ?_<;>refine Zc ?_)
 refine cX ?_ ?_<;>intro hb46
 · first|exact bN hb46|(
 exact UB hb46 dC
 refine Zd ?_;(refine xL 6 Zb ?_<;>refine Zc ?_)
 exact Zi results21 rfl rfl)
 · first | exact bN hb46|(
 refine Zd ?_;(refine xL 15 Zb ?_<;>refine Zh ?_)
 (refine xL 47 Za (xL 48 (ZF Z2) (xL 49 Za ?_))<;>refine Zc ?_)
 refine Zw (ι:={q:Nat×Int×Int//q.1≤r.length∧q.2.1=n+wtR (fLen 0) (r.take q.1)∧q.2.2=wtR (fun _=>1) (r.take q.1)}) (fun k=>⟨[(1,_,_),(5,_,_),(6,_,_),(7,_,_),(8,_,_),(12,_,_),(13,_,_),(14,_,_),(37,_,_),(38,_,_),(39,_,_),(47,_,_),(48,_,_),(11, .int .i64 k.1.2.1,Zg k.1.2.1),(15, .int .i64 k.1.2.2,Zg k.1.2.2),(49, .int .i64 k.1.1,Zg k.1.1)],[]⟩) (fun k=>r.length-k.1.1) ⟨(0,n,0),oM,by show n=n+0;omega,rfl⟩ (fun a w H=>H.weaken ⟨rfl,rfl,rfl,rfl,rfl,rfl,rfl,rfl,rfl,rfl,rfl,rfl,rfl,rfl,rfl,rfl,trivial⟩ trivial) ?_;rintro ⟨⟨j,m,hr0⟩,hj,hm,hh⟩;dsimp only;dsimp only at hj hm hh;have hjb:=hrb j hj;rw [←hh] at hjb;refine Zd ?_;(refine xL 50 ZN ?_<;>refine Zc ?_)
 refine cX ?_ ?_<;>intro hb50
 · first |exact bN hb50|(
 obtain ⟨v,hvg⟩:=Zj (show j<r.length by omega);have e4:=Yp Z1 r j v hvg;have e5:=YI Z1 hvg;have hvm:=Xb hvg;have hjb2:=hrb (j+1) (Ze hvg);rw [T9 _ hvg,T9 _ hvg] at hjb2;have hpv:=RO (a:=v.count) (Int.le_trans dC ((hr r hrm).1 v hvm).2) (Int.le_refl _) ((hr r hrm).1 v hvm).1;have hfl:fLen 0 v.acts=v.acts.length:=rfl;rw [hfl] at hjb2;obtain ⟨p,hpg⟩:∃p,c.parts[k2]? =some p:=Zj (by rw [←h.len];omega);refine Zd ?_;(refine xL 51 (Zn Z2) ?_<;>(refine yL 52 (Jm YJ) fun v52 h=>?_;cases h)<;>refine ZV [(.slice none 0 0),(.int .i64 0)] 2 17 Gp fun h17=>?_<;>refine YN 17 YJ ?_<;>refine Zc ?_)
 (refine ZR (fun i=>([]:List Nat).elem i) [17] kR ?_<;>refine xD 0 53 rfl Za ?_<;>refine xD 1 54 rfl (Zm 17 YO) ?_<;>(refine yD 2 55 rfl (Zp 17 Zx) fun v55 h=>?_;cases h)<;>refine xD 3 56 rfl (Zm 17 Yd) ?_<;>(refine yD 4 57 rfl (Zp 17 ZL) fun v57 h=>?_;cases h)<;>refine xD 5 58 rfl (ZF Zu) ?_<;>refine xD 6 59 rfl (Zcd (h1:=by omega) (h2:=by omega)) ?_<;>refine xD 7 60 rfl ZB ?_<;>refine xD 8 61 rfl Za ?_<;>refine xD 9 62 rfl (Zm 17 YO) ?_<;>(refine yD 10 63 rfl (Zp 17 Zx) fun v63 h=>?_;cases h)<;>refine xD 11 64 rfl ZB ?_<;>refine xE 12 11 rfl Zb ?_<;>refine xE 13 15 rfl Zb ?_<;>refine YU kR (nav ?_)<;>try dsimp only)
 (refine Zk ?_<;>refine xL 65 (Zm 17 Yd) ?_<;>(refine yL 66 (Zp 17 ZL) fun v66 h=>?_;cases h)<;>refine xL 67 JO ?_<;>(refine cS 68 (cA call27 ((W0 72 [.sptr 0 [Zg c.kind,Kx c.parts], .sptr 0 [Zg (k2:Nat)]] (fun s=> !hasStr p s) v.acts (call72) (fun s _=>ES c k2 p s hpg)).mono (R':=(· =Zo false)) fun q hq=>by rw [hq,Ub.2 fun s hsm=>?_];obtain ⟨p',hp1,hp2⟩:=h.inn k2 r hrg v hvm s hsm;rw [hpg] at hp1;cases hp1;rw [C0.2 hp2];decide)) fun v68 h=>?_;cases h)<;>refine Zc ?_)
 refine cX ?_ ?_<;>intro hb68
 · first|exact bN hb68|(
 exact UB hb68 dC
 refine Zd ?_;(refine xL 6 Zb ?_<;>refine Zc ?_)
 exact Zi results21 rfl rfl)
 · first|exact bN hb68|(
 refine Zd ?_;(refine xL 69 ZB (xL 49 Za ?_)<;>refine Zc ?_)
 refine Zf (
  ⟨(j+1,m+v.count*v.acts.length,hr0+v.count),Ze hvg,by dsimp only;rw [T9 _ hvg,hm,hfl,Int.add_assoc],by dsimp only;rw [T9 _ hvg,hh,Int.mul_one]⟩
  ) (by dsimp only;omega) ⟨rfl,rfl,rfl,rfl,rfl,rfl,rfl,rfl,rfl,rfl,rfl,rfl,rfl,rfl,rfl,rfl,trivial⟩ trivial))
 · first | exact bN hb50|(
 obtain rfl:j=r.length:=oM;rw [XD] at hm hh;refine Zd ?_;(refine xL 70 Za (xL 71 Za (xL 72 ZB (xL 12 Zb ?_)))<;>refine Zh ?_)
 (refine xL 73 (Ye Wv) ?_<;>(refine yL 74 (Zt Zx) fun v74 h=>?_;cases h)<;>refine xL 75 YY (xL 76 Za ?_)<;>(refine bLd 76 (fun hb76=>?_) (fun hb76=>?_)<;>(first|refine kL 77 ?_|refine xL 77 (Ye Wv) ?_))<;>(first|refine kL 78 ?_|(refine yL 78 (Zt Zx) fun v78 h=>?_;cases h))<;>(first|refine kL 79 ?_|refine xL 79 YY ?_)<;>refine xL 80 Zv (xL 81 Za ?_)<;>(first|refine xL 82 Za ?_|(refine bLd 81 (fun hb81=>?_) (fun hb81=>?_)<;>(first|refine kL 82 ?_|refine xL 82 Za ?_)))<;>(first|refine kL 83 ?_|refine xL 83 Za ?_)<;>(first|refine kL 84 ?_|refine xL 84 Y9 ?_)<;>refine xL 85 Zv ?_<;>refine Zc ?_)<;>(
 refine cX ?_ ?_<;>intro hb85
 · first
    |exact bN hb85
    |(simp at hb85;done)
    |(have h85:=hall oM r hrm;rw [←hh,←hw] at h85;exact UB h85 (by first|exact hb85|simpa using hb85))
 · refine Zd ?_;(refine xL 86 (Ye Wv) ?_<;>(refine yL 87 (Zt Zx) fun v87 h=>?_;cases h)<;>refine xL 88 YY (xL 89 Za ?_)<;>(refine bLd 89 (fun hb89=>?_) (fun hb89=>?_)<;>(first|refine kL 90 ?_|(refine yL 90 (Zt Zx) fun v90 h=>?_;cases h)))<;>(first|refine kL 91 ?_|refine xL 91 YY ?_)<;>refine xL 92 Zv ?_<;>refine Zc ?_)<;>(
 refine cX ?_ ?_<;>intro hb92
 · first |exact bN hb92|(
 refine Zd ?_;(refine xL 93 Za (xL 94 Za (xL 95 Zcd (xL 96 KW (xL 12 Zb ?_))))<;>refine Zh ?_)
 (refine xL 97 ZB (xL 39 Za ?_)<;>refine Zc ?_)
 first
  | (exact Zf (
      ⟨(k2+1,m,sm+hr0-2*hr0),Ze hrg,(by dsimp only;rw [Kp _ hrg,hm,hn];rfl),(by dsimp only;rw [Kp _ hrg,GB,UA ⟨oM,oM⟩,←hsm,←hh];omega)⟩
      ) (by dsimp only;omega) ⟨rfl,rfl,rfl,rfl,rfl,rfl,rfl,rfl,rfl,rfl,trivial⟩ trivial)
  | (exact Zf (
      ⟨(k2+1,m,sm+hr0),Ze hrg,(by dsimp only;rw [Kp _ hrg,hm,hn];rfl),(by dsimp only;rw [Kp _ hrg,GB,Uz oM,←hsm,←hh])⟩
      ) (by dsimp only;omega) ⟨rfl,rfl,rfl,rfl,rfl,rfl,rfl,rfl,rfl,rfl,trivial⟩ trivial))
 · first |exact bN hb92|(
 refine Zd ?_;(refine xL 97 ZB (xL 39 Za ?_)<;>refine Zc ?_)
 first
  | (exact Zf (
      ⟨(k2+1,m,sm+hr0-2*hr0),Ze hrg,(by dsimp only;rw [Kp _ hrg,hm,hn];rfl),(by dsimp only;rw [Kp _ hrg,GB,UA ⟨oM,oM⟩,←hsm,←hh];omega)⟩
      ) (by dsimp only;omega) ⟨rfl,rfl,rfl,rfl,rfl,rfl,rfl,rfl,rfl,rfl,trivial⟩ trivial)
  | (exact Zf (
      ⟨(k2+1,m,sm+hr0),Ze hrg,(by dsimp only;rw [Kp _ hrg,hm,hn];rfl),(by dsimp only;rw [Kp _ hrg,GB,Uz oM,←hsm,←hh])⟩
      ) (by dsimp only;omega) ⟨rfl,rfl,rfl,rfl,rfl,rfl,rfl,rfl,rfl,rfl,trivial⟩ trivial)))))))
 · first|exact bN hb40|(
 have hk3:k2=out.length:=oM;rw [hk3,XD] at hn hsm;(have hna:n=a:=by rw [hn,ha,hact]);(have h1':c.kind=1→sm=w:=fun h1=>by rw [hsm,hw,←hone h1];unfold Og;rw [Uz oM]);(have h4':c.kind=4→sm= -w:=fun h1=>by rw [hsm,hw,←hneg,←hloop h1];unfold Og;rw [UA h1]);refine Zd ?_;(refine xL 98 Za (xL 99 Za (xL 100 YY (xL 101 Za ?_)))<;>(refine bLd 101 (fun hb101=>?_) (fun hb101=>?_)<;>(first|refine kL 102 ?_|refine xL 102 (Ye Wv) ?_))<;>(first|refine kL 103 ?_|(refine yL 103 (Zt Zx) fun v103 h=>?_;cases h))<;>(first|refine kL 104 ?_|refine xL 104 Y9 ?_)<;>(first|refine kL 105 ?_|refine xL 105 Za ?_)<;>(first|refine kL 106 ?_|(refine bLd 105 (fun hb105=>?_) (fun hb105=>?_)<;>(first|refine kL 106 ?_|refine xL 106 Za ?_)))<;>(first|refine kL 107 ?_|refine xL 107 Za ?_)<;>(first|refine kL 108 ?_|refine xL 108 YY ?_)<;>(first|refine kL 109 ?_|refine xL 109 Zv ?_)<;>refine xL 110 Zv (xL 111 Za ?_)<;>(first|refine kL 112 ?_|refine xL 112 (Ye Wv) ?_|(refine bLd 111 (fun hb111=>?_) (fun hb111=>?_)<;>(first|refine kL 112 ?_|refine xL 112 (Ye Wv) ?_)))<;>(first|refine kL 113 ?_|(refine yL 113 (Zt Zx) fun v113 h=>?_;cases h))<;>(first|refine kL 114 ?_|refine xL 114 Y9 ?_)<;>(first|refine kL 115 ?_|refine xL 115 Za ?_)<;>(first|refine kL 116 ?_|(refine bLd 115 (fun hb115=>?_) (fun hb115=>?_)<;>(first|refine kL 116 ?_|refine xL 116 Za ?_)))<;>(first|refine kL 117 ?_|refine xL 117 Za ?_)<;>(first|refine kL 118 ?_|refine xL 118 ZfF ?_)<;>(first|refine kL 119 ?_|refine xL 119 YY ?_)<;>(first|refine kL 120 ?_|refine xL 120 Zv ?_)<;>refine xL 121 Zv (xL 6 Zb ?_)<;>refine Zc ?_)<;>(
 refine Zi (results21) rfl ?_
 first
  |rfl
  |(show Zo (decide _)=_;rw [Ux oM])
  |(exfalso;omega))))
end Go.Proofs.YtmkojdfiadbeeaaGreat
namespace Go.En
open Go.RowKit Go.Cb
set_option linter.all false
section
variable {P:Program} {c:Ctx} {ops:Array Oper} {Q:Exit→Act→World→Prop} {rest:List Oper} {sL hP:List (Nat×Ent)} {o:Oper}
end
def Rr (p p':PV):Prop:=∀(M:BS) (w:World) (v:Value),Shr M w v p→Shr M w v p'
theorem Rr.rfl' (p:PV):Rr p p:=fun _ _ _ h=>h
theorem Rr.nil:Rr (.val (.slice none 0 0)) (.sl 0 []):=fun M w v h=>by
 cases h with
 |val=>exact .emp none 0 (by unfold maxLen;omega) (fun _=>rfl)
theorem Rr.agg {ps ps':List PV} (hl:ps.length=ps'.length) (h:∀(i:Nat) (p p':PV),ps[i]? =some p→ps'[i]? =some p'→Rr p p'):Rr (.agg ps) (.agg ps'):=fun M w v hv=>by
 cases hv with
 | agg vs ps hvl hT=>
   refine .agg vs ps' oM fun i x q hx hq=>?_;obtain ⟨p,hp⟩:=Yh hq hl.symm;exact h i p q hp hq M w x (hT i x p hx hp)
theorem Rr.tup {ps ps':List PV} (hl:ps.length=ps'.length) (h:∀(i:Nat) (p p':PV),ps[i]? =some p→ps'[i]? =some p'→Rr p p'):Rr (.tup ps) (.tup ps'):=fun M w v hv=>by
 cases hv with
 | tup vs ps hvl hT=>
   refine .tup vs ps' oM fun i x q hx hq=>?_;obtain ⟨p,hp⟩:=Yh hq hl.symm;exact h i p q hp hq M w x (hT i x p hx hp)
theorem Rr.tup2 {p p' q:PV} (h:Rr p p'):Rr (.tup [p,q]) (.tup [p',q]):=Rr.tup rfl fun i a b ha hb=>by
 match i with
 |0=>cases ha;cases hb;exact h
 |1=>cases ha;cases hb;exact Rr.rfl' _
 |i+2=>simp at ha
theorem AF.reread {P:Program} {f:Nat} {ps:List PV} {p p':PV} (h:AF P f ps (· =p)) (hs:shD p=true) (hr:Rr p p'):AF P f ps (· =p'):=fun M w vs hM hl hv=>
 (h M w vs hM hl hv).mono fun e w' ⟨v,q,F,h1,h2,h3,h4,h5,h6⟩=>by
   subst h2;refine ⟨v,p',fun _=>False,h1,rfl,h3, .shr (hr _ _ _ ((h4.shD hs).anti fun b _ hb=>?_)) (fun _ h=>h),fun b hb=>hb.elim,h6⟩;rcases hb with hb|hb
   · exact .inl hb
   · exact hb.elim
end Go.En
namespace Go.Proofs.YtmkojdfiadbeeaaGreat
open Go.RowKit Go.Cb Go.En Tryz
set_option linter.all false
set_option maxRecDepth 100000
def g0:Dfg:=⟨[],[],[],[]⟩
theorem Zdv:Rr P6 (WS g0):=Rr.agg rfl fun i a b ha hb=>by
 match i with
 |0=>cases ha;cases hb;exact Rr.nil
 |1=>cases ha;cases hb;exact Rr.nil
 |2=>cases ha;cases hb;exact Rr.nil
 |3=>cases ha;cases hb;exact Rr.nil
 |i+4=>simp [P6] at ha
theorem Dw (e:Int):Rr (.tup [P6,Zg e]) (.tup [WS g0,Zg e]):=Rr.tup2 Zdv
def Zdw (l:List Var) (g:Dfg) (e:Int):Prop:=(validVars l=false∧g=g0∧e=1)∨(validVars l=true∧40<(Wl l).a.length∧g=g0∧e=5)∨(validVars l=true∧(Wl l).a.length≤40∧LG g (Wl l)∧e=0)
theorem Zew (l:List Var):∃g e,Zdw l g e:=by
 cases hv:validVars l with
 |false=>exact ⟨g0,1, .inl ⟨hv,rfl,rfl⟩⟩
 | true=>
   by_cases h:40<(Wl l).a.length
   · exact ⟨g0,5, .inr (.inl ⟨hv,h,rfl,rfl⟩)⟩
   · obtain ⟨g,hg⟩:=exG (ζX hv);exact ⟨g,0, .inr (.inr ⟨hv,oM,hg,rfl⟩)⟩
theorem Zex {f:Nat} {l:List Var} {g:Dfg} {e:Int} (h:AF prog f [Wi l] (ZeG l)) (hm:Zdw l g e):AF prog f [Wi l] (· = .tup [WS g,Zg e]):=by
 rcases hm with ⟨h1,rfl,rfl⟩|⟨h1,h2,rfl,rfl⟩|⟨h1,h2,h3,rfl⟩
 · refine AF.reread (p:= .tup [P6,Zg 1]) (h.mono fun p hp=>?_) rfl (Dw 1);rcases hp with ⟨_,hp⟩|⟨h4,_⟩|⟨h4,_⟩
   · exact hp
   · rw [h1] at h4;cases h4
   · rw [h1] at h4;cases h4
 · refine AF.reread (p:= .tup [P6,Zg 5]) (h.mono fun p hp=>?_) rfl (Dw 5);rcases hp with ⟨h4,_⟩|⟨_,_,hp⟩|⟨_,h4,_⟩
   · rw [h1] at h4;cases h4
   · exact hp
   · omega
 · refine h.mono fun p hp=>?_;rcases hp with ⟨h4,_⟩|⟨_,h4,_⟩|⟨_,_,g',h4,hp⟩
   · rw [h1] at h4;cases h4
   · omega
   · rw [hp,Ha h4 h3]
theorem Zdx {l:List Var} {g:Dfg} (h:Zdw l g 0):WU g=true∧validVars l=true∧LG g (Wl l):=by
 rcases h with ⟨_,_,h⟩|⟨_,_,_,h⟩|⟨h1,h2,h3,_⟩
 · cases h
 · cases h
 · exact ⟨Zer (ζX h1) dC (MInv.all (P8 h1)) h2 h3,h1,h3⟩
theorem ET {l:List ByteArray} {s:ByteArray} (h:hasStr l s=true):s∈l:=by
 unfold hasStr at h
 obtain ⟨x,hx,hs⟩:=XS.1 h
 rw [←WW.1 hs];exact hx
theorem Zey {g:Dfg} (h:WU g=true):Zcl g∧g.acts.length≤1000000∧g.starts.length≤1000000∧g.ends.length≤1000000∧g.follows.length≤1000000:=by
 have hG:=Zfo h
 have h40:=hG.n40
 have h1:=ζW hG hG.st hG.stA
 have h2:=ζW hG hG.en hG.enA
 have h3:=hG.flen
 unfold WU WG at h
 simp only [Xd,Xf] at h
 obtain ⟨⟨⟨⟨⟨⟨⟨⟨⟨g1,g2⟩,g3⟩,g4⟩,g5⟩,g6⟩,g7⟩,g8⟩,g9⟩,g10⟩:=h
 have nm:∀s,hasStr (cnames g.acts) s=true→s.size≤140737488355328:=fun s hs=>by
  have:=Jt (g2 s (ET hs));omega
 have ct:∀n,YK n=true→-9223372036854775808≤n∧n≤9223372036854775807:=fun n hn=>by
  unfold YK at hn;simp only [Xd,Uw] at hn;omega
 refine ⟨⟨⟨oM,fun c hc=>⟨nm _ (RL (Xm.2 ⟨c,hc,rfl⟩)),ct _ (g6 c hc)⟩⟩,⟨oM,fun c hc=>⟨nm _ (hG.st c hc),ct _ (g7 c hc)⟩⟩,⟨oM,fun c hc=>⟨nm _ (hG.en c hc),ct _ (g8 c hc)⟩⟩,⟨oM,fun c hc=>?_⟩⟩,oM,oM,oM,oM⟩
 have h5:=g9 c hc
 unfold JQ at h5
 simp only [Xd] at h5
 exact ⟨nm _ (hG.fl c hc).1,nm _ (hG.fl c hc).2,ct _ h5.1.1⟩
end Go.Proofs.YtmkojdfiadbeeaaGreat
