/-
  Walks of functions and plain laws of the chapter, as the claim needs them.
-/
import Derived.Test.YtmkojdfiadbeeaaGreatPf08
import Derived.Test.YtmkojdfiadbeeaaGreatPf07
import Derived.Test.YtmkojdfiadbeeaaGreatPf03
import Derived.Test.YtmkojdfiadbeeaaGreatPf05
import Derived.Test.YtmkojdfiadbeeaaGreatPf01
namespace Go.Proofs.YtmkojdfiadbeeaaGreat
open Go.RowKit Go.Cb Go.En Tryz
set_option linter.all false
section
variable {κ:Type} [DecidableEq κ]
structure Ord (lt:κ→κ→Bool):Prop where
 irr:∀a,lt a a=false
 tr:∀a b c,lt a b=true→lt b c=true→lt a c=true
 tot:∀a b,lt a b=false→lt b a=false→a=b
def SameK (lt:κ→κ→Bool) (L m:List (κ×Int)):Prop:=L.Perm m∧L.Pairwise fun a b=>lt a.1 b.1=true
theorem SameK.unique {lt:κ→κ→Bool} (hO:Ord lt) {L L' m:List (κ×Int)} (h:SameK lt L m) (k:SameK lt L' m):L=L':=
 E6 (fun a _ b _ hab hba=>by
  have:=hO.tr _ _ _ hab hba;rw [hO.irr] at this;exact Bool.noConfusion this) h.2 k.2 fun c=>by rw [h.1.mem_iff,k.1.mem_iff]
end
theorem Zj5:Ord strLt:=⟨Wt,fun _ _ _=>Wy,fun _ _=>KE⟩
def Zj6 (a b:Pr):Bool:=flwLt ⟨a.1,a.2,0⟩ ⟨b.1,b.2,0⟩
theorem ZkA:Ord Zj6:=⟨fun a=>Uz (J2 _),fun a b c h1 h2=>Uy (JF (UD h1) (UD h2)),fun a b h1 h2=>by
 have h1:=UE h1
 have h2:=UE h2
 by_cases e:a.1=b.1∧a.2=b.2
 · exact Prod.ext e.1 e.2
 · exact UC (Gy h2 e) h1⟩
def unC (c:Cnt):ByteArray×Int:=(c.name,c.n)
def unF (f:Flw):Pr×Int:=((f.src,f.dst),f.n)
theorem ZeL {L:List Cnt} {m:List (ByteArray×Int)}:SameC L m↔SameK strLt (L.map unC) m:=by
 unfold SameC SameK
 rw [Vn]
 constructor
 · rintro ⟨h1,h2⟩;refine ⟨?_,h2⟩;have:=h1.map unC;rw [Xt] at this;exact this.trans (List.Perm.of_eq (VB _))
 · rintro ⟨h1,h2⟩;refine ⟨?_,h2⟩;have:=h1.map mkC;rw [Xt] at this;exact (List.Perm.of_eq (VB _).symm).trans this
theorem ZeM {L:List Flw} {m:List (Pr×Int)}:SameF L m↔SameK Zj6 (L.map unF) m:=by
 unfold SameF SameK
 rw [Vn]
 have hlt:∀a b:Flw,Zj6 (unF a).1 (unF b).1=true↔WG a b<0:=fun a b=>decide_eq_true_iff
 constructor
 · rintro ⟨h1,h2⟩;refine ⟨?_,h2.imp fun h=>(hlt _ _).2 h⟩;have:=h1.map unF;rw [Xt] at this;exact this.trans (List.Perm.of_eq (VB _))
 · rintro ⟨h1,h2⟩;refine ⟨?_,h2.imp fun h=>(hlt _ _).1 h⟩;have:=h1.map mkF;rw [Xt] at this;exact (List.Perm.of_eq (VB _).symm).trans this
theorem Tp {L L':List Cnt} {m:List (ByteArray×Int)} (h:SameC L m) (k:SameC L' m):L=L':=by
 rw [ZeL] at h k
 have:=congrArg (List.map mkC) (h.unique Zj5 k)
 rw [Xt,Xt] at this
 exact (VB L).symm.trans (this.trans (VB L'))
theorem Cc {L L':List Flw} {m:List (Pr×Int)} (h:SameF L m) (k:SameF L' m):L=L':=by
 rw [ZeM] at h k
 have:=congrArg (List.map mkF) (h.unique ZkA k)
 rw [Xt,Xt] at this
 exact (VB L).symm.trans (this.trans (VB L'))
set_option maxRecDepth 100000
theorem Pt (l : List Var) (hf:Hd l):AF prog 31 [Z4 l] (· =ZB (validVars l)):=by
 refine AF.of_body 62 func31 rfl ntmps31 (Xa rfl) ?_
 intro w0 M0 vs hl hv
 obtain ⟨v0,rfl⟩:=YG hl
 clear hl hv
 refine Y2 0 rfl fun hlen=>?_
 refine Zd ?_
 (refine xL 2 Zb ?_<;>refine Zi ?_)
 (refine xL 4 Za (xL 5 (ZF ZQ) (xL 6 YV ?_))<;>refine Zc ?_)
 refine cX ?_ ?_<;>intro hb6
 · first|exact bN hb6|(
 refine Zd ?_;(refine xL 2 Zb ?_<;>refine Zc ?_)
 refine Zl (results31) rfl ?_;rw [show validVars l=false by unfold validVars;rw [Uz (show ¬l.length≤300 by omega)];simp])
 · first | exact bN hb6|(
 refine Zd ?_;(refine xL 3 Zb ?_<;>refine Zc ?_)
 refine Zy (ι:={k:Nat//k≤l.length∧∀j,j<k→Jp l j=true}) (fun k=>⟨[(0,_,_),(3, .int .i64 k.1,Zf k.1)],[]⟩) (fun k=>l.length-k.1) ⟨0,oM,oM⟩ (fun a w H=>H.weaken ⟨rfl,rfl,trivial⟩ trivial) ?_;rintro ⟨k,hk,hp⟩;dsimp only;refine Zd ?_;(refine xL 7 Za (xL 8 Za (xL 9 (ZF ZQ) (xL 10 ZI ?_)))<;>refine Zc ?_)
 refine cX ?_ ?_<;>intro hb10
 · first | exact bN hb10|(
 have hlt:k<l.length:=oM;obtain ⟨x,hx⟩:=Zm hlt;obtain ⟨y,hy⟩:=Zm (show k-1<l.length by omega);(have e1:(l.flatMap Wn)[k*2+0]? =some (ZT x.acts):=by rw [WU Ys hx (j:=0) dC];rfl);(have e2:(l.flatMap Wn)[k*2+1]? =some (Zf x.count):=by rw [WU Ys hx (j:=1) dC];rfl);(have e3:(l.flatMap Wn)[((k:Int)-1).toNat*2+0]? =some (ZT y.acts):=by rw [show ((k:Int)-1).toNat*2+0=(k-1)*2+0 by omega];exact WU Ys hy dC);have hfx:=hf.2 x (Xb hx);have hxl:=hfx.1.1;refine Zd ?_;(refine xL 13 Za (xL 14 Za (xL 15 (Zv ZQ) (xL 16 (YN Z3) ?_)))<;>(refine yL 17 (ZN ZX) fun v17 h=>?_;cases h)<;>refine xL 18 (ZF Zx) (xL 19 YV (xL 20 Za ?_))<;>(refine bLd 20 (fun hb20=>?_) (fun hb20=>?_)<;>(first|refine kL 21 ?_|refine xL 21 Za ?_))<;>(first|refine kL 22 ?_|refine xL 22 Za ?_)<;>(first|refine kL 23 ?_|refine xL 23 (Zv ZQ) ?_)<;>(first|refine kL 24 ?_|refine xL 24 (YN Z3) ?_)<;>(first|refine kL 25 ?_|(refine yL 25 (ZN ZX) fun v25 h=>?_;cases h))<;>(first|refine kL 26 ?_|(refine cS 26 (cA call88 (CF x.acts hfx.1.2)) fun v26 h=>?_;cases h))<;>(first|refine kL 27 ?_|refine xL 27 Yd ?_)<;>refine xL 28 Zt (xL 29 Za ?_)<;>(first|refine kL 30 ?_|(refine bL 29 (fun hb29=>?_) (fun hb29=>?_)<;>(first|refine kL 30 ?_|refine xL 30 Za ?_)))<;>(first|refine kL 31 ?_|refine xL 31 Za ?_)<;>(first|refine kL 32 ?_|refine xL 32 (Zv ZQ) ?_)<;>(first|refine kL 33 ?_|refine xL 33 (YN WW) ?_)<;>(first|refine kL 34 ?_|(refine yL 34 (ZN Ya) fun v34 h=>?_;cases h))<;>(first|refine kL 35 ?_|refine xL 35 ZI ?_)<;>refine xL 36 Zt (xL 37 Za ?_)<;>(first|refine kL 38 ?_|(refine bLd 37 (fun hb37=>?_) (fun hb37=>?_)<;>(first|refine kL 38 ?_|refine xL 38 Za ?_)))<;>(first|refine kL 39 ?_|refine xL 39 Za ?_)<;>(first|refine kL 40 ?_|refine xL 40 (Zv ZQ) ?_)<;>(first|refine kL 41 ?_|refine xL 41 (YN WW) ?_)<;>(first|refine kL 42 ?_|(refine yL 42 (ZN Ya) fun v42 h=>?_;cases h))<;>(first|refine kL 43 ?_|refine xL 43 YV ?_)<;>refine xL 44 Zt ?_<;>refine Zc ?_)<;>(
 refine cX ?_ ?_<;>intro hb44
 · first|exact bN hb44|(
 refine Zd ?_;(refine xL 2 Zb ?_<;>refine Zc ?_)
 refine Zl (results31) rfl ?_;rw [GO hlt]
 first
  |exact Km hx (Jz (.inl oM))
  |exact Km hx (Jz (.inr (.inl (by simpa using hb28))))
  |exact Km hx (Jz (.inr (.inl (by simpa using hb29))))
  |exact Km hx (Jz (.inr (.inr (.inl oM))))
  |exact Km hx (Jz (.inr (.inr (.inr oM)))))
 · first | exact bN hb44|(
 refine nav ?_;(refine ZM (fun i=>([]:List Nat).elem i) [] kR ?_<;>refine xE 0 45 rfl Za ?_<;>refine xE 1 46 rfl YV ?_<;>refine xE 2 47 rfl Za ?_<;>(refine bDd 47 (fun hb47=>?_) (fun hb47=>?_)<;>(first|refine kD 3 48 rfl ?_|refine xD 3 48 rfl Za ?_))<;>(first|refine kD 4 49 rfl ?_|refine xD 4 49 rfl Za ?_)<;>(first|refine kD 5 50 rfl ?_|refine xD 5 50 rfl KD ?_)<;>(first|refine kD 6 51 rfl ?_|refine xD 6 51 rfl (Ts ZQ) ?_)<;>(first|refine kD 7 52 rfl ?_|refine xD 7 52 rfl (YN Z3) ?_)<;>(first|refine kD 8 53 rfl ?_|(refine yD 8 53 rfl (ZN ZX) fun v53 h=>?_;cases h))<;>(first|refine kD 9 54 rfl ?_|refine xD 9 54 rfl Za ?_)<;>(first|refine kD 10 55 rfl ?_|refine xD 10 55 rfl Za ?_)<;>(first|refine kD 11 56 rfl ?_|refine xD 11 56 rfl (Zv ZQ) ?_)<;>(first|refine kD 12 57 rfl ?_|refine xD 12 57 rfl (YN Z3) ?_)<;>(first|refine kD 13 58 rfl ?_|(refine yD 13 58 rfl (ZN ZX) fun v58 h=>?_;cases h))<;>(refine Zk 14 kR ?_)<;>(first|(refine YH (d:=59) rfl (cA call89 (Zax y.acts x.acts)) fun v59 h=>?_;cases h)|(refine Zg rfl fun w9 M9 N9 DQ back=>?_;refine kL 59 ?_;refine Ze (back _ (nrm ?_))))<;>(first|refine kD 15 60 rfl ?_|refine xD 15 60 rfl Kj ?_)<;>refine xE 16 61 rfl Zt ?_<;>refine Ym kR (nav ?_)<;>try dsimp only)<;>(
 refine cX ?_ ?_<;>intro hb61
 · first|exact bN hb61|(
 refine Zd ?_;(refine xL 2 Zb ?_<;>refine Zc ?_)
 refine Zl (results31) rfl ?_;rw [GO hlt];exact O3 hx hy oM oM)
 · first |exact bN hb61|(
 refine Zd ?_;(refine xL 11 Za (xL 12 ZH (xL 3 Zb ?_))<;>refine Zc ?_)
 refine Zh (
  ⟨k + 1,oM,fun j hj=>by
   by_cases e:j=k
   · subst e
     first
      |exact TD hx hy (RZ oM (by simpa using hb28) oM oM) oM
      |exact TD hx hy (RZ oM (by simpa using hb29) oM oM) oM
   · exact hp j oM⟩
  ) (by dsimp only;omega) ⟨rfl,rfl,trivial⟩ trivial)))))
 · first|exact bN hb10|(
 refine Zd ?_;(refine xL 2 Zb ?_<;>refine Zc ?_)
 refine Zl (results31) rfl ?_;rw [Ss oM (fun j hj=>hp j oM)]))
structure MidG (st:M4) (x:Var) (j:Nat) (g:Dfg):Prop where
 a:SameC g.acts (midA st x j)
 s:SameC g.starts (if j=0 then st.s else (mk1 st x).s)
 f:SameC g.ends (if j=x.acts.length then (mk1 st x).f else st.f)
 q:SameF g.follows (midQ st x j)
theorem Cd {g g':Dfg} {st:M4} (h:Er g st) (k:Er g' st):g=g':=by
 obtain ⟨a,s,f,q⟩:=g
 obtain ⟨a',s',f',q'⟩:=g'
 have e1:=Tp h.1 k.1
 have e2:=Tp h.2.1 k.2.1
 have e3:=Tp h.2.2.1 k.2.2.1
 have e4:=Cc h.2.2.2 k.2.2.2
 dsimp only at e1 e2 e3 e4
 rw [e1,e2,e3,e4]
theorem Ow {l:List ByteArray} {s:ByteArray} (h:hasStr l s=true):l[ixN l s]? =some s:=by
 obtain ⟨i,x,h1,h2,h3⟩:=Ziw (p:=fun x=>Ka x s) (l:=l) h
 unfold ixN
 rw [h1,XL,h2,WL.1 h3]
theorem ζW {l:List ByteArray} (h:chainB strLt l=true):l.Pairwise fun a b=>strLt a b=true:=by
 induction l with
 |nil=>exact .nil
 | cons x l ih=>
   have h1:∀i a b,(x::l)[i]? =some a→(x::l)[i+1]? =some b→strLt a b=true:=(KB strLt _).1 h;have h2:=ih ((KB strLt l).2 fun i a b ha hb=>h1 (i+1) a b ha hb);refine XE.2 ⟨fun y hy=>?_,h2⟩
   cases l with
   |nil=>simp at hy
   | cons z l=>
     have h3:=h1 0 x z rfl rfl;rcases Xi.1 hy with rfl|hy
     · exact h3
     · exact Wy h3 ((XE.1 h2).1 y hy)
theorem ZgW {acts:List ByteArray} (hc:chainB strLt acts=true) {s t:ByteArray} (hs:hasStr acts s=true) (ht:hasStr acts t=true) (hlt:strLt s t=true):ixN acts s<ixN acts t:=by
 have h1:=Ow hs
 have h2:=Ow ht
 rcases Vz (ixN acts s) (ixN acts t) with h3|h3|h3
 · exact h3
 · rw [h3,h2] at h1
   cases h1;rw [Wt] at hlt;cases hlt
 · exfalso;have h4:=XT.1 (ζW hc) _ _ (Zj h2) (Zj h1) h3;rw [Xp (Zj h1)] at h1;rw [Xp (Zj h2)] at h2;injection h1 with h1;injection h2 with h2;rw [h1,h2] at h4;have:=Wy hlt h4;rw [Wt] at this;cases this
theorem ZcJ {acts:List ByteArray} {s t:ByteArray} (hs:hasStr acts s=true) (ht:hasStr acts t=true) (h:ixN acts s=ixN acts t):s=t:=by
 have h1:=Ow hs
 rw [h,Ow ht] at h1
 injection h1 with h1;exact h1.symm
structure GOk (g:Dfg):Prop where
 n40:g.acts.length≤40
 asc:chainB strLt (cnames g.acts)=true
 st:∀c∈g.starts,hasStr (cnames g.acts) c.name=true
 en:∀c∈g.ends,hasStr (cnames g.acts) c.name=true
 fl:∀f∈g.follows,hasStr (cnames g.acts) f.src=true∧hasStr (cnames g.acts) f.dst=true
 stA:chainB strLt (cnames g.starts)=true
 enA:chainB strLt (cnames g.ends)=true
 flA:chainB flwLt g.follows=true
theorem Zj7 {g:Dfg} (h:Gq g=true):GOk g:=by
 have h0:=HV h
 have hl:(cnames g.acts).length=g.acts.length:=by simp [cnames]
 unfold Gq WJ Dk at h
 simp only [Xe] at h
 obtain ⟨⟨⟨⟨⟨⟨⟨h1,h2⟩,h3⟩,h4⟩,h5⟩,h6⟩,h7⟩,h8⟩:=h
 exact ⟨oM,h1.2,h0.2.1,h0.2.2.1,h0.2.2.2,h2.1,h3.1,h8⟩
theorem GOk.ix {g:Dfg} (h:GOk g) {s:ByteArray} (hs:hasStr (cnames g.acts) s=true):ixN (cnames g.acts) s<g.acts.length:=by
 have:=(R9 hs).2
 simpa [cnames] using this
theorem Zj8 {l:List Flw} (h:chainB flwLt l=true):l.Pairwise fun a b=>WG a b<0:=by
 have h1:=DV h (fun a _=>by unfold flwLt;exact Uz (J2 a)) (fun a _ b _ c _ h1 h2=>by
  unfold flwLt at*;exact Uy (JF (UD h1) (UD h2)))
 exact h1.imp fun h=>UD h
theorem GOk.flen {g:Dfg} (h:GOk g):g.follows.length≤1600:=by
 have h1:(g.follows.map fun f=>(ixN (cnames g.acts) f.src,ixN (cnames g.acts) f.dst)).Nodup:=by
  refine Vn.2 (List.Pairwise.imp_of_mem (fun {a b} ha hb hlt e=>?_) (Zj8 h.flA));have ha':=h.fl a ha;have hb':=h.fl b hb;have e1:=ZcJ ha'.1 hb'.1 (congrArg Prod.fst e);have e2:=ZcJ ha'.2 hb'.2 (congrArg Prod.snd e);rw [P0.2 ⟨e1,e2⟩] at hlt;omega
 have h2:=ZeI (n:=g.acts.length) h1 fun p hp=>by
  obtain ⟨f,hf,rfl⟩:=Xr.1 hp;exact ⟨h.ix (h.fl f hf).1,h.ix (h.fl f hf).2⟩
 rw [Xd] at h2
 have:=Nat.mul_le_mul h.n40 h.n40
 omega
theorem ZcK {g:Dfg} (h:GOk g) {l:List Cnt} (hin:∀c∈l,hasStr (cnames g.acts) c.name=true) (hA:chainB strLt (cnames l)=true):l.length≤g.acts.length:=by
 have h1:(l.map fun c=>((ixN (cnames g.acts) c.name:Nat):Int)).Nodup:=by
  have hp:=ζW hA;unfold cnames at hp;refine Vn.2 (List.Pairwise.imp_of_mem (fun {a b} ha hb hlt e=>?_) (Vn.1 hp));have:=ZgW h.asc (hin a ha) (hin b hb) hlt;omega
 have h2:=SP g.acts.length _ h1 fun s hs=>by
  obtain ⟨c,hc,rfl⟩:=Xr.1 hs;have:=h.ix (hin c hc);omega
 simpa using h2
section
variable {κ:Type} [DecidableEq κ]
def sumIf (p:κ→Bool) (m:List (κ×Int)):Int:=(m.map fun x=>if p x.1 then x.2 else 0).sum
def PosI (m:List (κ×Int)):Prop:=∀x∈m,1≤x.2
end
structure MInv (st:M4):Prop where
 na:∀x∈st.a.map (·.1),isName x=true
 pa:PosI st.a
 ps:PosI st.s
 pf:PosI st.f
 pq:PosI st.q
 ks:∀x∈st.s.map (·.1),x∈st.a.map (·.1)
 kf:∀x∈st.f.map (·.1),x∈st.a.map (·.1)
 kq:∀x∈st.q.map (·.1),x.1∈st.a.map (·.1)∧x.2∈st.a.map (·.1)
 fin:∀k,iget st.s k+sumIf (fun p:Pr=>decide (k=p.2)) st.q=iget st.a k
 fout:∀k,iget st.f k+sumIf (fun p:Pr=>decide (k=p.1)) st.q=iget st.a k
theorem Zj9 {l:List Var} (h:validVars l=true):∀x∈l,WT x=true:=fun x hx=>by
 obtain ⟨i,hi⟩:=XP hx
 exact LX h hi
theorem ZiA {l:List ByteArray} {s:ByteArray} (h:s∈l):hasStr l s=true:=ζr h
structure Ptn (n:Nat) (cs:List (List Int)):Prop where
 mem:∀x,x∈cs.flatten↔0≤x∧x<n
 nd:cs.flatten.Nodup
 ne:∀c∈cs,c≠[]
 asc:∀c∈cs,c.Pairwise (· < ·)
theorem Ptn.apart {n:Nat} {cs:List (List Int)} (h:Ptn n cs) {i j:Nat} {c d:List Int} (hc:cs[i]? =some c) (hd:cs[j]? =some d) {x:Int} (hx:x∈c) (hy:x∈d):i=j:=by
 have aux:∀{i j:Nat} {c d:List Int},i<j→cs[i]? =some c→cs[j]? =some d→x∈c→x∈d→False:=fun {i j c d} hij hc hd hx hy=>by
  have h1:=XT.1 (List.pairwise_flatten.1 h.nd).2 i j (Xl.1 hc).1 (Xl.1 hd).1 hij;rw [(Xl.1 hc).2,(Xl.1 hd).2] at h1;exact h1 x hx x hy rfl
 rcases Vz i j with h1|h1|h1
 · exact (aux h1 hc hd hx hy).elim
 · exact h1
 · exact (aux h1 hd hc hy hx).elim
theorem ZeN {n:Nat} {r:Int→Int→Bool} {cs:List (List Int)} (h:Comps (upTo n) r cs):Ptn n cs:=⟨fun x=>(h.mem x).trans W0,h.nd,h.ne,h.asc⟩
theorem ζX {n:Nat} {cs ds:List (List Int)} (h:Ptn n cs) (hp:ds.Perm cs):Ptn n ds:=
 ⟨fun x=>(hp.flatten.mem_iff).trans (h.mem x),(hp.flatten.pairwise_iff fun h=>Ne.symm h).2 h.nd,fun c hc=>h.ne c (hp.mem_iff.1 hc),fun c hc=>h.asc c (hp.mem_iff.1 hc)⟩
theorem Ry {c:List Int} (h:c≠[]):hdI c∈c:=by
 cases c with
 |nil=>exact UC rfl h
 |cons x c=>exact XQ ..
theorem ZiB {cl:List Int} (h:cl.Nodup):(cl.mergeSort fun x y=>decide (x≤y)).Pairwise (· < ·):=ζv h
theorem ZgX {α:Type} {ds A:List α} {x:α} (hp:ds.Perm (A++[x])) {c:α} (hc:c∈ds):c∈A∨c=x:=by
 have:=hp.mem_iff.1 hc
 rw [Xz,XB] at this
 exact this
structure WordOk (l:List ByteArray) (E:Nat→Nat→Bool) (S F:Nat→Bool) (w:List ByteArray):Prop where
 mem:∀s∈w,s∈l
 e:∀(i:Nat) (a b:ByteArray),w[i]? =some a→w[i+1]? =some b→E (ixN l a) (ixN l b)=true
 s:∀a,w[0]? =some a→S (ixN l a)=true
 f:∀a,w.getLast? =some a→F (ixN l a)=true
def psum (f:Int→List ByteArray→Int) (ps:List Piece):Int:=(ps.map fun p=>f p.part p.word).sum
def PcOk (parts:List (List ByteArray)) (w:List ByteArray) (p:Piece):Prop:=0≤p.part∧p.part<parts.length∧p.word.length≤w.length∧∀s∈p.word,s∈w∧partOf parts s=p.part
def fLen (_:Int) (w:List ByteArray):Int:=w.length
def fAt (i:Int) (k:Int) (_:List ByteArray):Int:=if k=i then 1 else 0
def fOne (_:Int) (_:List ByteArray):Int:=1
def fLoop (k:Int) (_:List ByteArray):Int:=if k=0 then-1 else 1
structure Pcs (c:Cut) (w:List ByteArray) (ps:List Piece):Prop where
 ok:∀p∈ps,PcOk c.parts w p
 len:psum fLen ps=w.length
 le:∀i,psum (fAt i) ps≤w.length
 one:c.kind=1→psum fOne ps=1
 all:(c.kind=2∨c.kind=3)→∀i:Nat,i<c.parts.length→psum (fAt i) ps=1
 loop:c.kind=4→psum fLoop ps= -1
def wtR (f:List ByteArray→Int) (r:List Var):Int:=(r.map fun v=>v.count*f v.acts).sum
def wtO (f:Int→List ByteArray→Int):Nat→List (List Var)→Int
 |_,[]=>0
 |k,r::rs=>wtR (f k) r+wtO f (k+1) rs
structure RowG (parts:List (List ByteArray)) (k:Nat) (b:Int) (r:List Var):Prop where
 asc:r.Pairwise fun v w=>cmpStrs v.acts w.acts<0
 len:(r.length:Int)≤b
 ok:∀v∈r,v.acts.length≤200∧v.acts.all isName=true∧1≤v.count∧∀s∈v.acts,partOf parts s=k
def sumV (g:Var→Int) (l:List Var):Int:=(l.map g).sum
structure SplitG (l:List Var) (c:Cut) (out:List (List Var)):Prop where
 len:out.length=c.parts.length
 val:∀r∈out,bigVars r=false→validVars r=true
 inn:∀(k:Nat) (r:List Var),out[k]? =some r→∀v∈r,∀s∈v.acts,∃p,c.parts[k]? =some p∧s∈p
 wds:∀r∈out,∀v∈r,v.acts.length≤200∧1≤v.count
 few:∀r∈out,(r.length:Int)≤sumV (fun x=>x.acts.length) l
 tot:∀r∈out,wtR (fun _=>1) r≤sumV (fun x=>x.count*x.acts.length) l
 acts:wtO fLen 0 out=sumV (fun x=>x.count*x.acts.length) l
 one:c.kind=1→wtO fOne 0 out=sumV (fun x=>x.count*1) l
 all:(c.kind=2∨c.kind=3)→∀r∈out,wtR (fun _=>1) r=sumV (fun x=>x.count*1) l
 loop:c.kind=4→wtO fLoop 0 out=sumV (fun x=>x.count* -1) l
theorem Eu {α:Type} {r:α→α→Prop} (hr:∀a b,r a b→¬r b a):∀{l m:List α},l.Perm m→l.Pairwise r→m.Pairwise r→l=m
 |[],m,h,_,_=>(List.nil_perm.1 h).symm
 |a::l,[],h,_,_=>by simp at h
 | a ::l,b::m,h,hl,hm=>by
   have h1:=XE.1 hl;have h2:=XE.1 hm;have e:a=b:=by
    rcases Xi.1 (h.mem_iff.1 (XQ ..)) with h3|h3
    · exact h3
    · rcases Xi.1 (h.mem_iff.2 (XQ ..)) with h4|h4
      · exact h4.symm
      · exact UC (h2.1 a h3) (hr _ _ (h1.1 b h4))
   subst e;rw [Eu hr (List.perm_cons a |>.1 h) h1.2 h2.2]
theorem ZeO {n:Nat} {E:Nat→Nat→Bool} {cs:List (List Int)} (h:SeqCs n (Y9 n E) cs):cs.Pairwise (Zgt (Y9 n E)):=by
 obtain ⟨⟨ds,hds,hp⟩,ho⟩:=h
 have hP:=ζX (ZeN hds) hp
 rw [XT]
 intro i j hi hj hij
 have h1:=ho i j _ _ hij (Xp hi) (Xp hj)
 have hcm:=hp.mem_iff.1 (XY hi)
 have hdm:=hp.mem_iff.1 (XY hj)
 have hne:hdI cs[i]≠hdI cs[j]:=fun he=>by
  have:=hP.apart (Xp hi) (Xp hj) (Ry (hP.ne _ (XY hi))) (he▸Ry (hP.ne _ (XY hj)));omega
 rw [Ti] at h1
 have h2:=JX hds hcm hdm hne
 show Y9 n E (hdI cs[i]).toNat (hdI cs[j]).toNat=true
 cases h3:Y9 n E (hdI cs[j]).toNat (hdI cs[i]).toNat
 · rw [h3] at h2
   cases h4:Y9 n E (hdI cs[i]).toNat (hdI cs[j]).toNat
   · exact UC h4 h2
   · rfl
 · exact UC ⟨Ne.symm hne,h3⟩ h1
theorem Zbn {n:Nat} {E:Nat→Nat→Bool} {cs ds:List (List Int)} (h:SeqCs n (Y9 n E) cs) (k:SeqCs n (Y9 n E) ds):cs=ds:=by
 obtain ⟨qs,hq,hp⟩:=h.cl
 exact Zim hq hp (ZeO h) k
theorem Zbo {n:Nat} {r:Int→Int→Bool} {cs ds es:List (List Int)} {i0:Nat} {c0:List Int} {W:List Int→Bool} (hP:Ptn n ds) (h:AndCs cs i0 c0 W ds) (k:AndCs cs i0 c0 W es):ds=es:=by
 have hp:ds.Perm es:=h.perm.trans k.perm.symm
 have hPe:=ζX hP hp.symm
 have hlt:∀{ds:List (List Int)},Ptn n ds→headsLe ds→ds.Pairwise fun c d=>YX c<YX d:=fun {ds} hP ho=>by
  rw [XT];intro i j hi hj hij;have h1:=ho i j _ _ hij (Xp hi) (Xp hj);have hne:YX ds[i]≠YX ds[j]:=fun he=>by
   have:=hP.apart (Xp hi) (Xp hj) (Ry (hP.ne _ (XY hi))) ((show hdI ds[i]=hdI ds[j] from he)▸Ry (hP.ne _ (XY hj)));omega
  omega
 exact Eu (fun a b h1 h2=>oM) hp (hlt hP h.ord) (hlt hPe k.ord)
theorem Hk {n:Nat} {E:Nat→Nat→Bool} {W:List Int→Bool} {cs ds:List (List Int)} {i0:Nat} {c0:List Int} (h:Comps (upTo n) (Za0 E) cs) (h0:cs[i0]? =some c0) (hi:idx W cs=(i0:Nat)) (hd:AndCs cs i0 c0 W ds):Ptn n ds:=by
 have hpre:=Zin hi
 have hW:W c0=true:=hpre.2 c0 h0
 have h3:=Eb (i0:=i0) (W:=W) (cs:=cs) hpre.2 cs.length (Xc _)
 have h4:=ζB h0 hW hpre.1 cs.length (Xc _)
 rw [XI] at h3 h4
 rw [UB (Xl.1 h0).1] at h4
 have hp:=hd.perm
 rw [h3] at hp
 generalize hA:selA i0 W true cs=A at hp h4
 have hfl:(A++[(c0++(cs.filter fun c=> !W c).flatten).mergeSort fun x y=>decide (x≤y)]).flatten.Perm cs.flatten:=by
  refine List.Perm.trans ?_ (Ec (Sk W cs));rw [h4,VA,VA,VA,List.flatten_singleton,List.flatten_singleton];refine ((Ur (c0++(cs.filter fun c=> !W c).flatten) (fun x y=>decide (x≤y))).append_left A.flatten).trans ?_;rw [←XM];exact (List.perm_append_comm).append_right _
 have hflat:ds.flatten.Perm cs.flatten:=hp.flatten.trans hfl
 have hAm:∀c∈A,c∈cs:=fun c hc=>by
  have:c∈cs.filter W:=by rw [h4];exact List.mem_append_right _ hc
  exact (Vr.1 this).1
 have hnd:(c0++(cs.filter fun c=> !W c).flatten).Nodup:=by
  have h5:((cs.filter W++cs.filter fun c=> !W c).flatten).Nodup:=((Ec (Sk W cs)).pairwise_iff fun h=>Ne.symm h).2 h.nd;rw [h4,VA,VA,List.flatten_singleton,XM] at h5;exact h5.sublist (List.Sublist.append_left (List.sublist_append_right _ _) c0)
 refine ⟨fun x=>by rw [hflat.mem_iff,h.mem,W0],(hflat.pairwise_iff fun h=>Ne.symm h).2 h.nd,fun c hc=>?_,fun c hc=>?_⟩
 · rcases ZgX hp hc with h5|h5
   · exact h.ne c (hAm c h5)
   · rw [h5];intro he;have h6:=congrArg List.length he;rw [VT,Xf] at h6;have h7:=h.ne c0 (Xb h0)
     cases c0 with
     |nil=>exact h7 rfl
     |cons=>simp at h6
 · rcases ZgX hp hc with h5|h5
   · exact h.asc c (hAm c h5)
   · rw [h5];exact ZiB hnd
theorem ZeP {l:List ByteArray} {n:Nat} {E:Nat→Nat→Bool} {S F:Nat→Bool} {o o':Option Cut}:∀{k:Nat},Sq l n E S F k o→Sq l n E S F k o'→o=o'
 | 0,h,h'=>by
   obtain ⟨cs,h1,h2⟩:=h;obtain ⟨ds,h3,h4⟩:=h';rw [h2,h4,h1.unique h3 fun _ _ _ _=>Iff.rfl]
 | 1,h,h'=>by
   obtain ⟨cs,h1,h2⟩:=h;obtain ⟨ds,h3,h4⟩:=h';rw [h2,h4,Zbn h1 h3]
 | 2, h,h'=>by
   obtain ⟨cs,h1,h2⟩:=h;obtain ⟨cs',h3,h4⟩:=h';have e:=h1.unique h3 fun _ _ _ _=>Iff.rfl;subst e;rcases h2 with ⟨h5,h6⟩|⟨i0,c0,ds,g1,g2,g3,g4⟩
   · rcases h4 with ⟨_,h8⟩|⟨i1,c1,es,k1,k2,k3,k4⟩
     · rw [h6,h8]
     · omega
   · rcases h4 with ⟨h7,h8⟩|⟨i1,c1,es,k1,k2,k3,k4⟩
     · omega
     · have:i0=i1:=oM;subst this;rw [g1] at k1;cases k1;rw [g4,k4,Zbo (r:=Za0 E) (Hk h1 g1 g2 g3) g3 k3]
 | k +3,h,h'=>by
   rcases h with ⟨h1,h2⟩|⟨cs,h1,h2,h3⟩
   · rcases h' with ⟨h4,h5⟩|⟨ds,h4,h5,h6⟩
     · rw [h2,h5]
     · exact UC h1 h4
   · rcases h' with ⟨h4,h5⟩|⟨ds,h4,h5,h6⟩
     · exact UC h4 h1
     · rw [h3,h6,h2.unique h5 fun _ _ _ _=>Iff.rfl]
theorem Zbp {Q:Nat→Option Cut→Prop} (h:∀{k o o'},Q k o→Q k o'→o=o') {o o':Option Cut} (h1:Rv Q o) (h2:Rv Q o'):o=o':=by
 rcases h1 with ⟨k,c,hk,h3,h4,rfl⟩|⟨h3,rfl⟩
 · rcases h2 with ⟨j,d,hj,h5,h6,rfl⟩|⟨h5,rfl⟩
   · have:k=j:=by
      rcases Vz k j with h7|h7|h7
      · cases h h4 (h5 k h7)
      · exact h7
      · cases h h6 (h3 j h7)
     subst this;exact h h4 h6
   · cases h h4 (h5 k hk)
 · rcases h2 with ⟨j,d,hj,h5,h6,rfl⟩|⟨h5,rfl⟩
   · cases h h6 (h3 j hj)
   · rfl
def ZcL (r:Int→Int→Bool) (l:List Int):Nat→List Int→List Int
 |0,c=>c
 |k+1,c=>ZcL r l k (c++l.filter fun y=>c.any fun x=>r x y||r y x)
theorem SQ {r:Int→Int→Bool} {l:List Int} {a:Int}:∀(k:Nat) (c:List Int),(∀x∈c,x∈l∧Conn l r a x)→∀x∈ZcL r l k c,x∈l∧Conn l r a x
 |0,c,h=>h
 | k +1,c,h=>by
   rw [ZcL];refine SQ k _ fun x hx=>?_;rcases Xz.1 hx with hx|hx
   · exact h x hx
   · obtain ⟨h1,h2⟩:=Vr.1 hx;obtain ⟨y,hy,h3⟩:=Vs.1 h2;rw [X9] at h3;exact ⟨h1,(h y hy).2.trans (Conn.step (h y hy).1 h1 h3)⟩
def Zbq (l:List Int) (r:Int→Int→Bool) (cs:List (List Int)):Bool:=
 l.all (fun x=>cs.flatten.contains x)&&cs.flatten.all (fun x=>l.contains x)&&decide cs.flatten.Nodup&&cs.all (fun c=> !c.isEmpty)&&cs.all (fun c=>decide (c.Pairwise (· < ·)))&&
  cs.all (fun c=>c.all fun x=>(ZcL r l c.length (c.take 1)).contains x)&&cs.all (fun c=>c.all fun x=>l.all fun y=> !(r x y||r y x)||c.contains y)&&decide ((cs.map YX).Pairwise (· < ·))
theorem Jl {l:List Int} {r:Int→Int→Bool} {cs:List (List Int)} (h:Zbq l r cs=true):Comps l r cs:=by
 unfold Zbq at h
 simp only [Xe,Xj,Ux,List.contains_iff_mem] at h
 obtain ⟨⟨⟨⟨⟨⟨⟨h1,h2⟩,h3⟩,h4⟩,h5⟩,h6⟩,h7⟩,h8⟩:=h
 refine ⟨fun x=>⟨h2 x,h1 x⟩,h3,fun c hc he=>?_,h5,fun c hc x hx y hy=>?_,fun c hc x hx y hy hr=>?_,?_⟩
 · have:=h4 c hc;rw [he] at this;simp at this
 · have hin:∀z∈c.take 1,z∈l∧Conn l r (YX c) z:=fun z hz=>by
    cases c with
    |nil=>simp at hx
    | cons a c=>
      rw [List.take_succ_cons,V7,XB] at hz;subst hz;exact ⟨h2 z (Vm.2 ⟨_,hc,XQ ..⟩),Conn.refl l r z⟩
   have g1:=(SQ c.length _ hin x (h6 c hc x hx)).2;have g2:=(SQ c.length _ hin y (h6 c hc y hy)).2;exact g1.symm.trans g2
 · have:=h7 c hc x hx y hy;rw [X9,Bool.not_eq_true',Bool.or_eq_false_iff] at this;rcases this with ⟨g1,g2⟩|g
   · rcases hr with hr|hr
     · rw [g1] at hr;cases hr
     · rw [g2] at hr;cases hr
   · exact List.contains_iff_mem.1 g
 · rw [Vn] at h8;refine h8.imp fun {c d} h x y hx hy=>?_;unfold YX at h;rw [List.head?_eq_getElem?] at hx hy;rw [hx,hy] at h;exact h
def Gt (l:List Var):List Var:=l.map fun v=>⟨v.acts,1⟩
theorem Pu (l:List Var):(Gt l).length=l.length:=by unfold Gt;rw [Xd]
structure GoodL (l:List Var):Prop where
 val:validVars l=true
 one:∀v∈l,v.count=1
 few:sumV (fun x=>x.acts.length) l≤300
 act:(makeM l).a.length≤40
theorem ZgY:(prog.info? 3).map (·.size)=some 1:=by kernel_rfl
def Kz (l:List Var):Option Nd:=match l with
 |[]=>some sil
 | [x]=>match x.acts with
   |[]=>some sil
   |[s]=>some (lf s)
   |_=>none
 |_=>none
theorem Ev {l:List Var} (h:l.length=0∨∃x,l[0]? =some x∧l.length=1∧x.acts.length=0):Kz l=some sil:=by
 rcases h with h|⟨x,hx,h1,h2⟩
 · have:=Xw h;subst this;rfl
 · obtain ⟨y,rfl⟩:=VK.1 h1
   cases hx;have:=Xw h2;unfold Kz;dsimp only;rw [this]
theorem ζY {l:List Var} {x:Var} {s:ByteArray} (hx:l[0]? =some x) (h1:l.length=1) (h2:x.acts=[s]):Kz l=some (lf s):=by
 obtain ⟨y,rfl⟩:=VK.1 h1
 cases hx
 unfold Kz;dsimp only;rw [h2]
theorem DY {l:List Var} (h0:l.length≠0) (h:l.length=1→∀x,l[0]? =some x→2≤x.acts.length):Kz l=none:=by
 match l with
 |[]=>simp at h0
 | [x]=>
   have:=h rfl x rfl;unfold Kz;dsimp only;match hx:x.acts with
   |[]=>rw [hx] at this;simp at this
   |[s]=>rw [hx] at this;simp at this
   |_::_::_=>rfl
 |_::_::_=>rfl
def Gu (l:List Var):PV:=match Kz l with
 |some t=> .tup [pTr t,ZB true]
 |none=> .tup [Jd,ZB false]
theorem ZeQ:AF prog 85 [Z4 []] (· =Gu []):=by
 refine AF.of_body 42 func85 rfl ntmps85 (Xa rfl) ?_
 intro w0 M0 vs hl hv
 obtain ⟨v0,rfl⟩:=YG hl
 clear hl hv
 refine Zd ?_
 (refine ZA [(.int .i64 0),(.string ByteArray.empty),(.slice none 0 0)] 3 2 Z8 fun h2=>?_<;>refine xL 3 Zb ?_<;>refine Zi ?_)
 (refine xL 5 Za (xL 6 (ZF ZQ) (xL 7 ZU (xL 8 Za ?_)))<;>refine kL 9 ?_<;>refine kL 10 ?_<;>refine kL 11 ?_<;>refine kL 12 ?_<;>refine kL 13 ?_<;>refine kL 14 ?_<;>refine kL 15 ?_<;>refine kL 16 ?_<;>refine kL 17 ?_<;>refine kL 18 ?_<;>refine kL 19 ?_<;>refine xL 20 Zt (xL 4 Zb ?_)<;>refine Zc ?_)<;>(try (exact UC rfl hb8))<;>(
 refine cX ?_ ?_<;>intro hb4
 · first|exact bN hb4|(
 refine Zd ?_;((refine cD 21 (cA call121 (LJ)) fun v21 hv21=>?_;clear hv21)<;>refine Zw 2 Zs ?_<;>refine xL 3 Zb ?_<;>refine Zc ?_)
 exact Yn (k:=3) 2 kR (results85) rfl rfl rfl (Xa rfl) dC rfl rfl)
 · first
   |exact bN hb4
   |skip)
theorem Zbr (x:Var) (l:List Var):AF prog 85 [Z4 (x::l)] (· =Gu (x::l)):=by
 have e1:((x::l).flatMap Wn)[0*2+0]? =some (ZT x.acts):=rfl
 have e2:0*2+2≤((x::l).flatMap Wn).length:=by rw [Xo,Xf];show 2≤2+_;omega
 have e3:0<(x::l).length:=VX _
 refine AF.of_body 42 func85 rfl ntmps85 (Xa rfl) ?_
 intro w0 M0 vs hl hv
 obtain ⟨v0,rfl⟩:=YG hl
 clear hl hv
 refine Zd ?_
 (refine ZA [(.int .i64 0),(.string ByteArray.empty),(.slice none 0 0)] 3 2 Z8 fun h2=>?_<;>refine xL 3 Zb ?_<;>refine Zi ?_)
 (refine xL 5 Za (xL 6 (ZF ZQ) (xL 7 ZU (xL 8 Za (xL 9 Za (xL 10 (ZF ZQ) (xL 11 ZU (xL 12 Za ?_)))))))<;>(refine bLd 12 (fun hb12=>?_) (fun hb12=>?_)<;>(first|refine kL 13 ?_|refine xL 13 Za ?_))<;>(first|refine kL 14 ?_|refine xL 14 (Zv ZQ) ?_)<;>(first|refine kL 15 ?_|refine xL 15 (YN Z3) ?_)<;>(first|refine kL 16 ?_|(refine yL 16 (ZN ZX) fun v16 h=>?_;cases h))<;>(first|refine kL 17 ?_|refine xL 17 (ZF Zx) ?_)<;>(first|refine kL 18 ?_|refine xL 18 ZU ?_)<;>refine xL 19 Zt (xL 20 Zt (xL 4 Zb ?_))<;>refine Zc ?_)<;>(
 refine cX ?_ ?_<;>intro hb4
 · first|exact bN hb4|(
 refine Zd ?_;((refine cD 21 (cA call121 (LJ)) fun v21 hv21=>?_;clear hv21)<;>refine Zw 2 Zs ?_<;>refine xL 3 Zb ?_<;>refine Zc ?_)
 refine Yn (k:=3) 2 kR (results85) rfl rfl rfl (Xa rfl) dC rfl ?_;unfold Gu;rw [Ev (.inr ⟨x,rfl,oM,oM⟩)];rfl)
 · first |exact bN hb4|(
 refine Zd ?_;(refine xL 23 Za (xL 24 (ZF ZQ) (xL 25 ZU (xL 26 Za ?_)))<;>(refine bLd 26 (fun hb26=>?_) (fun hb26=>?_)<;>(first|refine kL 27 ?_|refine xL 27 Za ?_))<;>(first|refine kL 28 ?_|refine xL 28 (Zv ZQ) ?_)<;>(first|refine kL 29 ?_|refine xL 29 (YN Z3) ?_)<;>(first|refine kL 30 ?_|(refine yL 30 (ZN ZX) fun v30 h=>?_;cases h))<;>(first|refine kL 31 ?_|refine xL 31 (ZF Zx) ?_)<;>(first|refine kL 32 ?_|refine xL 32 ZU ?_)<;>refine xL 33 Zt (xL 22 Zb ?_)<;>refine Zc ?_)<;>(
 refine cX ?_ ?_<;>intro hb22
 · first|exact bN hb22|(
 obtain ⟨s,hs⟩:∃s,x.acts=[s]:=VK.1 oM;(have e4:(x.acts.map ZD)[0]? =some (ZD s):=by rw [hs];rfl);have e5:0<x.acts.length:=oM;refine Zd ?_;(refine xL 34 Za (xL 35 (Zv ZQ) (xL 36 (YN Z3) ?_))<;>(refine yL 37 (ZN ZX) fun v37 h=>?_;cases h)<;>refine xL 38 (Zv Zx) ?_<;>(refine yL 39 (ZN ZP) fun v39 h=>?_;cases h)<;>(refine cD 40 (cA call131 (Zci s)) fun v40 hv40=>?_;clear hv40)<;>refine Zw 2 Zs ?_<;>refine xL 3 Zb ?_<;>refine Zc ?_)
 refine Yn (k:=3) 2 kR (results85) rfl rfl rfl (Xa rfl) dC rfl ?_;unfold Gu;rw [ζY (x:=x) (s:=s) rfl oM hs];rfl)
 · first|exact bN hb22|(
 refine Zd ?_;(refine xL 41 (ZO YC) ?_<;>refine Zw 2 Zs ?_<;>refine xL 3 Zb ?_<;>refine Zc ?_)
 refine Yn (k:=3) 2 kR (results85) rfl rfl rfl (Xa rfl) dC rfl ?_;unfold Gu;rw [DY sM fun h1 y hy=>by cases hy;omega];rfl))))
theorem ZcM (l:List Var):AF prog 85 [Z4 l] (· =Gu l):=by
 cases l with
 |nil=>exact ZeQ
 |cons x l=>exact Zbr x l
theorem ζZ:AF prog 32 [Z4 []] (· =Gu []):=by
 refine AF.of_body 40 func32 rfl ntmps32 (Xa rfl) ?_
 intro w0 M0 vs hl hv
 obtain ⟨v0,rfl⟩:=YG hl
 clear hl hv
 refine Zd ?_
 (refine ZA [(.int .i64 0),(.string ByteArray.empty),(.slice none 0 0)] 3 2 Z8 fun h2=>?_<;>refine xL 3 Zb ?_<;>refine Zi ?_)
 (refine xL 4 Za (xL 5 (ZF ZQ) (xL 6 ZU (xL 7 Za ?_)))<;>refine kL 8 ?_<;>refine kL 9 ?_<;>refine kL 10 ?_<;>refine kL 11 ?_<;>refine kL 12 ?_<;>refine kL 13 ?_<;>refine kL 14 ?_<;>refine kL 15 ?_<;>refine kL 16 ?_<;>refine kL 17 ?_<;>refine kL 18 ?_<;>refine xL 19 Zt ?_<;>refine Zc ?_)<;>(try (exact UC rfl hb7))<;>(
 refine cX ?_ ?_<;>intro hb19
 · first|exact bN hb19|(
 refine Zd ?_;((refine cD 20 (cA call90 (Lc)) fun v20 hv20=>?_;clear hv20)<;>refine Zw 2 Zs ?_<;>refine xL 3 Zb ?_<;>refine Zc ?_)
 exact Yn (k:=3) 2 kR (results32) rfl rfl rfl (Xa rfl) dC rfl rfl)
 · first
   |exact bN hb19
   |skip)
theorem Ce (x:Var) (l:List Var):AF prog 32 [Z4 (x::l)] (· =Gu (x::l)):=by
 have e1:((x::l).flatMap Wn)[0*2+0]? =some (ZT x.acts):=rfl
 have e2:0*2+2≤((x::l).flatMap Wn).length:=by rw [Xo,Xf];show 2≤2+_;omega
 have e3:0<(x::l).length:=VX _
 refine AF.of_body 40 func32 rfl ntmps32 (Xa rfl) ?_
 intro w0 M0 vs hl hv
 obtain ⟨v0,rfl⟩:=YG hl
 clear hl hv
 refine Zd ?_
 (refine ZA [(.int .i64 0),(.string ByteArray.empty),(.slice none 0 0)] 3 2 Z8 fun h2=>?_<;>refine xL 3 Zb ?_<;>refine Zi ?_)
 (refine xL 4 Za (xL 5 (ZF ZQ) (xL 6 ZU (xL 7 Za (xL 8 Za (xL 9 (ZF ZQ) (xL 10 ZU (xL 11 Za ?_)))))))<;>(refine bLd 11 (fun hb11=>?_) (fun hb11=>?_)<;>(first|refine kL 12 ?_|refine xL 12 Za ?_))<;>(first|refine kL 13 ?_|refine xL 13 (Zv ZQ) ?_)<;>(first|refine kL 14 ?_|refine xL 14 (YN Z3) ?_)<;>(first|refine kL 15 ?_|(refine yL 15 (ZN ZX) fun v15 h=>?_;cases h))<;>(first|refine kL 16 ?_|refine xL 16 (ZF Zx) ?_)<;>(first|refine kL 17 ?_|refine xL 17 ZU ?_)<;>refine xL 18 Zt (xL 19 Zt ?_)<;>refine Zc ?_)<;>(
 refine cX ?_ ?_<;>intro hb19
 · first|exact bN hb19|(
 refine Zd ?_;((refine cD 20 (cA call90 (Lc)) fun v20 hv20=>?_;clear hv20)<;>refine Zw 2 Zs ?_<;>refine xL 3 Zb ?_<;>refine Zc ?_)
 refine Yn (k:=3) 2 kR (results32) rfl rfl rfl (Xa rfl) dC rfl ?_;unfold Gu;rw [Ev (.inr ⟨x,rfl,oM,oM⟩)];rfl)
 · first |exact bN hb19|(
 refine Zd ?_;(refine xL 21 Za (xL 22 (ZF ZQ) (xL 23 ZU (xL 24 Za ?_)))<;>(refine bLd 24 (fun hb24=>?_) (fun hb24=>?_)<;>(first|refine kL 25 ?_|refine xL 25 Za ?_))<;>(first|refine kL 26 ?_|refine xL 26 (Zv ZQ) ?_)<;>(first|refine kL 27 ?_|refine xL 27 (YN Z3) ?_)<;>(first|refine kL 28 ?_|(refine yL 28 (ZN ZX) fun v28 h=>?_;cases h))<;>(first|refine kL 29 ?_|refine xL 29 (ZF Zx) ?_)<;>(first|refine kL 30 ?_|refine xL 30 ZU ?_)<;>refine xL 31 Zt ?_<;>refine Zc ?_)<;>(
 refine cX ?_ ?_<;>intro hb31
 · first|exact bN hb31|(
 obtain ⟨s,hs⟩:∃s,x.acts=[s]:=VK.1 oM;(have e4:(x.acts.map ZD)[0]? =some (ZD s):=by rw [hs];rfl);have e5:0<x.acts.length:=oM;refine Zd ?_;(refine xL 32 Za (xL 33 (Zv ZQ) (xL 34 (YN Z3) ?_))<;>(refine yL 35 (ZN ZX) fun v35 h=>?_;cases h)<;>refine xL 36 (Zv Zx) ?_<;>(refine yL 37 (ZN ZP) fun v37 h=>?_;cases h)<;>(refine cD 38 (cA call91 (Dh s)) fun v38 hv38=>?_;clear hv38)<;>refine Zw 2 Zs ?_<;>refine xL 3 Zb ?_<;>refine Zc ?_)
 refine Yn (k:=3) 2 kR (results32) rfl rfl rfl (Xa rfl) dC rfl ?_;unfold Gu;rw [ζY (x:=x) (s:=s) rfl oM hs];rfl)
 · first|exact bN hb31|(
 refine Zd ?_;(refine xL 39 (ZO YC) ?_<;>refine Zw 2 Zs ?_<;>refine xL 3 Zb ?_<;>refine Zc ?_)
 refine Yn (k:=3) 2 kR (results32) rfl rfl rfl (Xa rfl) dC rfl ?_;unfold Gu;rw [DY sM fun h1 y hy=>by cases hy;omega];rfl))))
theorem ZeR (l:List Var):AF prog 32 [Z4 l] (· =Gu l):=by
 cases l with
 |nil=>exact ζZ
 |cons x l=>exact Ce x l
theorem Zbs {l:List Var} {k:Nat} {x:Var} (hx:l[k]? =some x):Gt (l.take (k+1))=Gt (l.take k)++[⟨x.acts,1⟩]:=by
 unfold Gt;rw [ZW hx,X1];rfl
theorem ZgZ {l:List Var} {k:Nat} {x:Var} (hx:l[k]? =some x):((Gt (l.take k)++l.drop k).flatMap Wn).set (k*2+1) (Zf 1)=(Gt (l.take (k+1))++l.drop (k+1)).flatMap Wn:=by
 have hk:=Zj hx
 have hA:((Gt (l.take k)).flatMap Wn).length=k*2:=by rw [Yr Ys,Pu,XF,X' oM]
 have hd:l.drop k=x::l.drop (k+1):=by rw [X4 hk];rw [Xp hk] at hx;injection hx with hx;rw [hx]
 rw [Zbs hx,hd,Va,Xo,Va,Va,Vk _ _ oM,hA,show k*2+1-k*2=1 by omega]
 simp [Wn]
theorem ZcN (l:List Var) (hl:l.length≤1000000):AF prog 78 [Z4 l] (· =Z4 (Gt l)):=by
 refine AF.of_body 18 func78 rfl ntmps78 (Xa rfl) ?_
 intro w0 M0 vs hl hv
 obtain ⟨v0,rfl⟩:=YG hl
 clear hl hv
 refine Zd ?_
 (refine xL 2 Zb ?_<;>refine Zi ?_)
 (refine xL 5 Za ?_<;>refine cO 6 (cA call11 (DU l hl)) fun v6 ho6=>?_<;>refine xL 3 Zb ?_<;>refine Zc ?_)
 refine ZE (Z5 (l:=6) 200 rfl rfl) fun _=>?_
 (refine Zo ?_<;>refine xL 7 Za (xL 8 (Y7 200 ZQ) (xL 9 Za ?_))<;>refine Zc ?_)
 refine Zy (ι:={q:Nat×List PV//q.1≤l.length∧q.2=(Gt (l.take q.1)++l.drop q.1).flatMap Wn}) (fun k=>⟨[(3,_,_),(7,_,_),(8,_,_),(9, .int .i64 k.1.1,Zf k.1.1)],[(200,v6, .own 28 2 l.length k.1.2)]⟩) (fun k=>l.length-k.1.1) ⟨(0,l.flatMap Wn),Xn _,rfl⟩ (fun a w H=>H.weaken ⟨rfl,rfl,rfl,rfl,trivial⟩ ⟨rfl,trivial⟩) ?_
 rintro ⟨⟨k,row⟩,hk,hr⟩
 dsimp only
 dsimp only at hk hr
 have hrl:row.length=l.length*2:=by rw [hr,Yr Ys,Xf,Pu,XF,Ub];omega
 refine Zd ?_
 (refine xL 10 ZI ?_<;>refine Zc ?_)
 refine cX ?_ ?_<;>intro hb10
 · first|exact bN hb10|(
 obtain ⟨x,hx⟩:=Zm (show k<l.length by omega);refine Zd ?_;(refine xL 11 Za (xL 4 Zb ?_)<;>refine Zi ?_)
 (refine xL 12 Za (xL 13 Za (xL 14 (Zq 200 ZQ) (xL 15 (Zn 200 WW) ?_)))<;>refine P5 200 Ya ZgY ?_<;>refine Zi ?_)
 (refine xL 16 ZH (xL 9 Za ?_)<;>refine Zc ?_)
 refine Zh (
  ⟨(k+1,row.set (k*2+1) (Zf 1)),by show k+1≤l.length;omega,by dsimp only;rw [hr];exact ZgZ hx⟩
  ) (by dsimp only;omega) ⟨rfl,rfl,rfl,rfl,trivial⟩ ⟨rfl,trivial⟩)
 · first|exact bN hb10|(
 obtain rfl:k=l.length:=oM;(have hr2:row=(Gt l).flatMap Wn:=by rw [hr,XI,List.drop_length,Xu]);refine Zd ?_;(refine xL 17 Za (xL 2 Zb ?_)<;>refine Zc ?_)
 refine YP (En.freeze (l:=200) (t:=2) rfl rfl) fun _=>?_;refine Zl (results78) rfl ?_;rw [hr2];exact Zbk _ _ _ (Pu l).symm)
def g0:Dfg:=⟨[],[],[],[]⟩
theorem Zg0:Rr DW (KZ g0):=Rr.agg rfl fun i a b ha hb=>by
 match i with
 |0=>cases ha;cases hb;exact Rr.nil
 |1=>cases ha;cases hb;exact Rr.nil
 |2=>cases ha;cases hb;exact Rr.nil
 |3=>cases ha;cases hb;exact Rr.nil
 |i+4=>simp [DW] at ha
theorem Ew (e:Int):Rr (.tup [DW,Zf e]) (.tup [KZ g0,Zf e]):=Rr.tup2 Zg0
def Ex (l:List Var) (g:Dfg) (e:Int):Prop:=(validVars l=false∧g=g0∧e=1)∨(validVars l=true∧40<(makeM l).a.length∧g=g0∧e=5)∨(validVars l=true∧(makeM l).a.length≤40∧Er g (makeM l)∧e=0)
theorem ZiC {f:Nat} {l:List Var} {g:Dfg} {e:Int} (h:AF prog f [Z4 l] (Zi7 l)) (hm:Ex l g e):AF prog f [Z4 l] (· = .tup [KZ g,Zf e]):=by
 rcases hm with ⟨h1,rfl,rfl⟩|⟨h1,h2,rfl,rfl⟩|⟨h1,h2,h3,rfl⟩
 · refine AF.reread (p:= .tup [DW,Zf 1]) (h.mono fun p hp=>?_) rfl (Ew 1);rcases hp with ⟨_,hp⟩|⟨h4,_⟩|⟨h4,_⟩
   · exact hp
   · rw [h1] at h4;cases h4
   · rw [h1] at h4;cases h4
 · refine AF.reread (p:= .tup [DW,Zf 5]) (h.mono fun p hp=>?_) rfl (Ew 5);rcases hp with ⟨h4,_⟩|⟨_,_,hp⟩|⟨_,h4,_⟩
   · rw [h1] at h4;cases h4
   · exact hp
   · omega
 · refine h.mono fun p hp=>?_;rcases hp with ⟨h4,_⟩|⟨_,h4,_⟩|⟨_,_,g',h4,hp⟩
   · rw [h1] at h4;cases h4
   · omega
   · rw [hp,Cd h4 h3]
theorem ζ0 {l:List ByteArray} {s:ByteArray} (h:hasStr l s=true):s∈l:=by
 unfold hasStr at h
 obtain ⟨x,hx,hs⟩:=Vs.1 h
 rw [←WL.1 hs];exact hx
theorem ZiD {g:Dfg} (h:Gq g=true):ZjK g∧g.acts.length≤1000000∧g.starts.length≤1000000∧g.ends.length≤1000000∧g.follows.length≤1000000:=by
 have hG:=Zj7 h
 have h40:=hG.n40
 have h1:=ZcK hG hG.st hG.stA
 have h2:=ZcK hG hG.en hG.enA
 have h3:=hG.flen
 unfold Gq WJ at h
 simp only [Xe,Xj] at h
 obtain ⟨⟨⟨⟨⟨⟨⟨⟨⟨g1,g2⟩,g3⟩,g4⟩,g5⟩,g6⟩,g7⟩,g8⟩,g9⟩,g10⟩:=h
 have nm:∀s,hasStr (cnames g.acts) s=true→s.size≤140737488355328:=fun s hs=>by
  have:=Lh (g2 s (ζ0 hs));omega
 have ct:∀n,Wp n=true→-9223372036854775808≤n∧n≤9223372036854775807:=fun n hn=>by
  unfold Wp at hn;simp only [Xe,Ux] at hn;omega
 refine ⟨⟨⟨oM,fun c hc=>⟨nm _ (ZiA (Xr.2 ⟨c,hc,rfl⟩)),ct _ (g6 c hc)⟩⟩,⟨oM,fun c hc=>⟨nm _ (hG.st c hc),ct _ (g7 c hc)⟩⟩,⟨oM,fun c hc=>⟨nm _ (hG.en c hc),ct _ (g8 c hc)⟩⟩,⟨oM,fun c hc=>?_⟩⟩,oM,oM,oM,oM⟩
 have h5:=g9 c hc
 unfold LM at h5
 simp only [Xe] at h5
 exact ⟨nm _ (hG.fl c hc).1,nm _ (hG.fl c hc).2,ct _ h5.1.1⟩
end Go.Proofs.YtmkojdfiadbeeaaGreat
