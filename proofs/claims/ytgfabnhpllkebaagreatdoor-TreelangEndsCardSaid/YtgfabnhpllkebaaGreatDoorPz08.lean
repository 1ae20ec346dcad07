/-
  Walks of functions and plain laws of the chapter, as the claim needs them.
-/
import Derived.Test.YtgfabnhpllkebaaGreatDoorPz07
import Derived.Test.YtgfabnhpllkebaaGreatDoorPz06
import Derived.Test.YtgfabnhpllkebaaGreatDoorPz03
import Derived.Test.YtgfabnhpllkebaaGreatDoorMShelfE
import Derived.Test.YtgfabnhpllkebaaGreatDoorPz01
namespace Go.Proofs.YtgfabnhpllkebaaGreatDoor
open Go.RowKit Go.Cb Go.En Tryz
set_option linter.all false
set_option maxRecDepth 100000
def Zl2 (l:List Int) (n:Int):Bool:=l.any fun t=>decide (t=n)
theorem Zhu {l:List Int} {n:Int}:Zl2 l n=true↔n∈l:=by unfold Zl2;simp
def Wa (n:Nat) (f:Nat→Bool):List Int:=((List.range n).filter f).map fun i:Nat=>(i:Int)
theorem Jb (k:Nat) (f:Nat→Bool):Wa (k+1) f=Wa k f++(if f k then [(k:Int)] else []):=by
 unfold Wa
 rw [V4,Vd,Xr]
 congr 1
 cases h:f k<;>simp [h]
theorem P9 (n:Nat) (f:Nat→Bool):(Wa n f).length≤n:=by
 unfold Wa
 rw [Xd]
 have:=VJ f (List.range n)
 simpa using this
theorem P' {n:Nat} {f:Nat→Bool} {t:Int}:t∈Wa n f↔0≤t∧t<n∧f t.toNat=true:=by
 unfold Wa
 simp only [Xg,XY,Vi]
 constructor
 · rintro ⟨i,⟨h1,h2⟩,rfl⟩;exact ⟨oM,oM,by simpa using h2⟩
 · rintro ⟨h1,h2,h3⟩;exact ⟨t.toNat,⟨oM,h3⟩,oM⟩
theorem ZaP (n:Nat) (f:Nat→Bool):Srt (Wa n f):=by
 unfold Wa Srt
 refine Um.2 (List.Pairwise.filter _ ?_)
 exact (List.pairwise_lt_range (n:=n)).imp fun h=>oM
structure MkI (a:Aut) (l:List Int) (f:Nat→Bool):Prop where
 base:∀s∈l,f s.toNat=true
 snd:∀i:Nat,i<a.n.toNat→f i=true→Rch a l (i:Nat)
structure PassB (a:Aut) (l:List Int) (f0 f:Nat→Bool) (fl:Bool) (i:Nat):Prop where
 mki:MkI a l f
 no:fl=false→f=f0∧∀j m,j<i→a.moves[j]? =some m→m.sym<0→f m.src.toNat=true→f m.dst.toNat=true
 yes:fl=true→cntF a.n.toNat f<cntF a.n.toNat f0
theorem DT {n:Nat} {L:List Nat} (h:L.Nodup) (hl:∀s∈L,s<n):L.length≤n:=by
 have:=nodup_len n (L.map fun x:Nat=>(x:Int)) (Um.2 (h.imp fun h1 h2=>h1 oM)) fun s hs=>by
  obtain ⟨x,hx,rfl⟩:=Xg.1 hs;have:=hl x hx;omega
 simpa using this
structure Tab where
 m:Nat
 rows:List (List Nat)
 fin:List Bool
structure TOk (t:Tab):Prop where
 fl:t.fin.length=t.rows.length
 rl:∀r∈t.rows,r.length=t.m
 to:∀r∈t.rows,∀x∈r,x<t.rows.length
 pos:0<t.rows.length
 n1:t.rows.length≤2000
 m1:t.m≤40
def Jw (a:Aut):Srch (List Int) (List Int):=⟨id,2000,a.syms.toNat,fun _ l s=>YD a (s:Nat) l⟩
def J5 (a:Aut):Option Tab:=((Jw a).all (Y0 a a.start)).map fun q=>⟨a.syms.toNat,q.2,q.1.map (KF a)⟩
def SetOk (a:Aut) (l:List Int):Prop:=InS a l∧Srt l
theorem SetOk.len {a:Aut} (h:AOk a) {l:List Int} (hl:SetOk a l):l.length≤2000:=by
 have h4:=nodup_len a.n.toNat l (hl.2.imp fun h=>oM) fun s hs=>by
  have:=hl.1 s hs;have:=h.n0;omega
 have:=h.n1
 omega
theorem DU {a:Aut} (h:AOk a) (c:Int) (l:List Int):SetOk a (YD a c l):=⟨LQ h.mi c l,Jr h.mi (Kr h.mi c l)⟩
theorem EJ {a:Aut} (h:AOk a):SetOk a (Y0 a a.start):=⟨TB h.mi h.st,Jr h.mi h.st⟩
theorem ζc {a:Aut} (h:AOk a) {i:Nat} {o:List (List Int)} {rows:List (List Nat)} (hu:(Jw a).upto (Y0 a a.start) i=some (o,rows)):(Jw a).Ok (SetOk a) (Y0 a a.start) o rows∧(i≤o.length→rows.length=i)∧(o.length≤i→rows.length=o.length):=
 Srch.ok (P:=SetOk a) (show 1≤2000 by decide) (EJ h) (fun _ _ s _ _=>DU h s _) hu
theorem ζd {a:Aut} (h:AOk a) {t:Tab} (ht:J5 a=some t):TOk t:=by
 unfold J5 at ht
 obtain ⟨⟨o,rows⟩,h1,rfl⟩:=XA.1 ht
 obtain ⟨h2,h3,h4⟩:=ζc h h1
 have hcap:o.length≤2000:=h2.cap
 have h5:=h4 hcap
 have hp:=h2.pos
 have hs:=h.s1
 refine ⟨by simp [h5],h2.len,fun r hr x hx=>?_,by dsimp only;omega,by dsimp only;omega,by dsimp only;omega⟩
 obtain ⟨i,hi⟩:=X4 hr
 obtain ⟨t,ht⟩:=X4 hx
 dsimp only at hi
 obtain ⟨y,hy⟩:=Zp (show i<o.length by have:=Zf hi;omega)
 have:=(h2.to i y r t x hy hi ht).1
 dsimp only;omega
section
variable {κ:Type} [DecidableEq κ]
def Y1 (k:Nat→κ):Nat→List κ
 |0=>[]
 |s+1=>if k s∈Y1 k s then Y1 k s else Y1 k s++[k s]
theorem Zhv (k:Nat→κ) (s:Nat):Y1 k s<+:Y1 k (s+1):=by
 rw [Y1];split
 · exact Vt _
 · exact Un _ _
theorem EK (k:Nat→κ) (s:Nat):∀t,Y1 k s<+:Y1 k (s+t)
 |0=>Vt _
 |t+1=>(EK k s t).trans (Zhv k (s+t))
theorem DV (k:Nat→κ):∀s,(Y1 k s).length≤s
 |0=>Xj _
 | s+1=>by
   have:=DV k s;rw [Y1];split
   · omega
   · rw [Xb,Xs];omega
theorem JM {k:Nat→κ}:∀{s:Nat} {x:κ},x∈Y1 k s↔∃i,i<s∧k i=x
 |0,x=>by simp [Y1]
 | s + 1,x=>by
   have ih:=JM (k:=k) (s:=s) (x:=x);rw [Y1];split
   · rename_i h;rw [ih];constructor
     · rintro ⟨i,h1,h2⟩;exact ⟨i,oM,h2⟩
     · rintro ⟨i,h1,h2⟩;by_cases e:i=s
       · subst e;subst h2;exact ih.1 h
       · exact ⟨i,oM,h2⟩
   · rw [Xh,ih,Xl];constructor
     · rintro (⟨i,h1,h2⟩|h)
       · exact ⟨i,oM,h2⟩
       · exact ⟨s,oM,h.symm⟩
     · rintro ⟨i,h1,h2⟩;by_cases e:i=s
       · subst e;exact .inr h2.symm
       · exact .inl ⟨i,oM,h2⟩
theorem ζe (k:Nat→κ):∀s,(Y1 k s).Nodup
 |0=>XN
 | s +1=>by
   rw [Y1];split
   · exact ζe k s
   · rename_i h;rw [Vx];exact ⟨ζe k s,sM,fun a ha b hb e=>h (by rw [Xl.1 hb] at e;rw [←e];exact ha)⟩
theorem OS {l:List κ} {x:κ}:posK id l x<l.length↔x∈l:=by
 rw [OO]
 constructor
 · rintro ⟨y,h1,rfl⟩;exact h1
 · exact fun h=>⟨x,h,rfl⟩
theorem ZaQ {k:Nat→κ} {s:Nat} (h:posK id (Y1 k s) (k s)<(Y1 k s).length):Y1 k (s+1)=Y1 k s:=by rw [Y1,UT (OS.1 h)]
theorem ZaR {k:Nat→κ} {s:Nat} (h:¬posK id (Y1 k s) (k s)<(Y1 k s).length):Y1 k (s+1)=Y1 k s++[k s]:=by rw [Y1,US fun h1=>h (OS.2 h1)]
theorem Rp {k:Nat→κ} {s n:Nat} (h:s<n):posK id (Y1 k n) (k s)=posK id (Y1 k (s+1)) (k s)∧posK id (Y1 k n) (k s)<(Y1 k n).length:=by
 have h1:k s∈Y1 k (s+1):=JM.2 ⟨s,oM,rfl⟩
 have h2:=EK k (s+1) (n-(s+1))
 rw [show s+1+(n-(s+1))=n by omega] at h2
 obtain ⟨e,he⟩:=h2
 exact ⟨by rw [←he,Rk e (OS.2 h1)],OS.2 (JM.2 ⟨s,h,rfl⟩)⟩
end
def YO (rows:List (List Nat)) (c:Nat→Nat) (s:Nat):List Nat:=c s::((rows[s]?).getD []).map c
def JN (rows:List (List Nat)) (c:Nat→Nat) (s:Nat):Nat:=posK id (Y1 (YO rows c) rows.length) (YO rows c s)
def Pb (rows:List (List Nat)) (c:Nat→Nat):Nat:=(Y1 (YO rows c) rows.length).length
def Sq (rows:List (List Nat)):Nat→(Nat→Nat)→Nat→(Nat→Nat)
 |0,c,_=>c
 |f+1,c,k=>if Pb rows c=k then JN rows c else Sq rows f (JN rows c) (Pb rows c)
def Rq (fin:List Bool) (s:Nat):Nat:=if (fin[s]?).getD false then 1 else 0
def WM (t:Tab):Nat→Nat:=Sq t.rows (t.rows.length+2) (Rq t.fin) 0
structure COk (n:Nat) (c:Nat→Nat) (k:Nat):Prop where
 hit:∀v,v<k→∃s,s<n∧c s=v
 le:k≤n
 bd:∀s,s<n→c s≤n
theorem COk.start (fin:List Bool) (n:Nat):COk n (Rq fin) 0:=⟨fun v h=>oM,Xf _,fun s h=>by unfold Rq;split<;>omega⟩
theorem COk.grow {rows:List (List Nat)} {c:Nat→Nat} {k:Nat} (h:COk rows.length c k):k≤Pb rows c:=by
 have h1:∀v,v<k→v∈(Y1 (YO rows c) rows.length).map fun l=>l.headD 0:=fun v hv=>by
  obtain ⟨s,hs,rfl⟩:=h.hit v hv;exact Xg.2 ⟨YO rows c s,JM.2 ⟨s,hs,rfl⟩,rfl⟩
 have h2:∀(n:Nat) (L:List Nat),(∀v,v<n→v∈L)→n≤L.length:=fun n=>by
  induction n with
  |zero=>exact fun _ _=>Xf _
  | succ n ih=>
    intro L hL;have h3:=ih (L.erase n) fun v hv=>(UG oM).2 (hL v oM);rw [UH (hL n oM)] at h3;have:=UI (hL n oM);omega
 have:=h2 k _ h1
 rwa [Xd] at this
theorem COk.next {rows:List (List Nat)} {c:Nat→Nat} {k:Nat} (h:COk rows.length c k):COk rows.length (JN rows c) (Pb rows c):=by
 have hl:=DV (YO rows c) rows.length
 refine ⟨fun v hv=>?_,hl,fun s hs=>?_⟩
 · obtain ⟨x,hx⟩:=Zp hv;obtain ⟨s,hs,rfl⟩:=JM.1 (Xc hx);refine ⟨s,hs,?_⟩;have hn:((Y1 (YO rows c) rows.length).map id).Nodup:=by rw [List.map_id];exact ζe _ _
   exact Gm hn hx
 · have:=(Rp (k:=YO rows c) hs).2;show posK _ _ _≤_;omega
def toT (t:Tab) (x s:Nat):Nat:=((((t.rows[x]?).getD [])[s]?).getD 0)
def minW (t:Tab):Srch Nat Nat:=⟨WM t,t.rows.length,t.m,fun _ x s=>toT t x s⟩
theorem Pd {t:Tab} {x s n:Nat} {r:List Nat} (h:t.rows[x]? =some r) (h2:r[s]? =some n):toT t x s=n:=by
 unfold toT;rw [h];show ((r[s]?).getD 0)=n;rw [h2];rfl
theorem Kt {t:Tab} (h:TOk t) {x s:Nat}:toT t x s<t.rows.length:=by
 unfold toT
 cases h1:t.rows[x]? with
 |none=>simpa using h.pos
 | some r=>
   show ((r[s]?).getD 0)<_
   cases h2:r[s]? with
   |none=>simpa using h.pos
   |some n=>exact h.to r (Xc h1) n (Xc h2)
theorem LV {α β:Type} {f:α→β}:∀{l:List α},(l.map f).Nodup→l.Nodup
 |[],_=>XN
 | x::l,h=>by
   rw [Xp,Vc] at h;exact Vc.2 ⟨fun h1=>h.1 (List.mem_map_of_mem h1),LV h.2⟩
theorem Pe {t:Tab} (h:TOk t) {o:List Nat} (hm:(minW t).Met (· <t.rows.length) 0 o) {x:Nat} (hx:x<t.rows.length) (hn:¬posK (minW t).key o ((minW t).key x)<o.length):o.length<t.rows.length:=by
 have h1:(o++[x]).Nodup:=by
  rw [Vx];refine ⟨LV hm.nd,sM,fun a ha b hb e=>hn (OO.2 ⟨x,?_,rfl⟩)⟩;rw [Xl.1 hb] at e;rw [←e];exact ha
 have:=DT h1 fun s hs=>by
  rcases Xh.1 hs with hs|hs
  · exact hm.p s hs
  · rw [Xl.1 hs];exact hx
 rw [Xb,Xs] at this
 omega
theorem ZdH {t:Tab} (h:TOk t) {i x:Nat} {o:List Nat} (hm:(minW t).Met (· <t.rows.length) 0 o):∀s,s≤t.m→∃q,(minW t).row i x o s=some q
 |0,_=>⟨_,rfl⟩
 | s+1,hs=>by
   obtain ⟨⟨o1,r1⟩,h1⟩:=ZdH h hm s oM;obtain ⟨h2,_⟩:=hm.row (fun s _=>Kt h) (show s≤(minW t).m from (by show s≤t.m;omega)) h1;by_cases hp:posK (minW t).key o1 ((minW t).key ((minW t).step i x s))<o1.length
   · exact ⟨_,Srch.row_snoc h1 (WQ hp)⟩
   · exact ⟨_,Srch.row_snoc h1 (WR hp (Pe h h2 (Kt h) hp))⟩
theorem ZcM {t:Tab} (h:TOk t) {i:Nat} {o:List Nat} {rows:List (List Nat)} (hu:(minW t).upto 0 i=some (o,rows)):(minW t).Ok (· <t.rows.length) 0 o rows∧(i≤o.length→rows.length=i)∧(o.length≤i→rows.length=o.length):=
 Srch.ok (W:=minW t) (P:=(· <t.rows.length)) h.pos h.pos (fun _ _ s _ _=>Kt h) hu
theorem ZaS {t:Tab} (h:TOk t):∀i,∃q,(minW t).upto 0 i=some q
 |0=>⟨_,rfl⟩
 | i +1=>by
   obtain ⟨⟨o,rows⟩,h1⟩:=ZaS h i
   cases hx:o[i]? with
   |none=>exact ⟨_,Srch.upto_stop h1 (Uh.1 hx) 1⟩
   | some x=>
     obtain ⟨⟨o',r⟩,h2⟩:=ZdH h (i:=i) (x:=x) (ZcM h h1).1.toMet t.m (Xj _);exact ⟨_,Srch.upto_snoc h1 hx h2⟩
theorem ZjS {t:Tab} (h:TOk t):∃q,(minW t).all 0=some q:=ZaS h _
def Yk (i:Nat) (r:List Nat):List Mv:=r.zipIdx.map fun p=>⟨(i:Nat),(p.1:Nat),(p.2:Nat)⟩
def ZV (rows:List (List Nat)):List Mv:=rows.zipIdx.flatMap fun p=>Yk p.2 p.1
theorem Ku (i:Nat) (r:List Nat) (n:Nat):Yk i (r++[n])=Yk i r++[⟨(i:Nat),(n:Nat),(r.length:Nat)⟩]:=by
 unfold Yk;rw [List.zipIdx_append,Xr];simp
theorem Gc (i:Nat) (r:List Nat):(Yk i r).length=r.length:=by unfold Yk;simp
theorem Oa (rows:List (List Nat)) (r:List Nat):ZV (rows++[r])=ZV rows++Yk rows.length r:=by
 unfold ZV;rw [List.zipIdx_append,XR];simp
theorem ZcN {m:Nat}:∀(rows:List (List Nat)),(∀r∈rows,r.length=m)→(ZV rows).length=rows.length*m:=by
 intro rows
 have key:∀(L:List (List Nat)) (k:Nat),(∀r∈L,r.length=m)→((L.zipIdx k).flatMap fun p=>Yk p.2 p.1).length=L.length*m:=by
  intro L;induction L with
  |nil=>intro k _;simp
  | cons r L ih=>
    intro k h;rw [VP,Xu,Xb,ih (k+1) (fun r hr=>h r (Xn _ hr)),Gc,h r (Xi ..),Xk,X5];omega
 exact key rows 0
def Jg (t:Tab) (o:List Nat) (i:Nat):Bool:=(t.fin[(o[i]?).getD 0]?).getD false
def Wv (t:Tab) (q:List Nat×List (List Nat)):Aut:=⟨(q.1.length:Nat),(t.m:Nat),[0],Wa q.1.length (Jg t q.1),ZV q.2⟩
def WS (t:Tab):Option Aut:=((minW t).all 0).bind fun q=>if 20000<(ZV q.2).length then none else some (Wv t q)
def Ll:PV:= .agg [pInt 0,pInt 0, .val (.slice none 0 0), .val (.slice none 0 0), .val (.slice none 0 0)]
def resW:Except Int Aut→PV
 | .ok a=> .tup [ZO a,pInt 0]
 | .error e=> .tup [Ll,pInt e]
def lim (x:Option Aut):Except Int Aut:=match x with
 |some a=> .ok a
 |none=> .error 13
def WH (a:Aut):Except Int Aut:=match J5 a with
 |some t=>lim (WS t)
 |none=> .error 13
def GZ (a:Aut):Except Int Aut:=if Z4 a then WH a else .error 1
def Zhw (l:List UInt8):Nat:=l.foldl (fun v b=>v*10+(b.toNat-48)) 0
theorem Zfb (l:List UInt8) (b:UInt8):Zhw (l++[b])=Zhw l*10+(b.toNat-48):=by unfold Zhw;rw [Vn];rfl
theorem ζf {u:Nat} (h:u<10):(UInt8.ofNat (48+u)).toNat=48+u:=by
 rw [UInt8.toNat_ofNat'];omega
theorem ZaT (u:Nat):Zhw (Lib.decDigits u)=u:=by
 induction u using Nat.strongRecOn with
 | _ u ih=>
   rw [Lib.decDigits];split
   · rename_i h;show 0*10+((UInt8.ofNat (48+u)).toNat-48)=u;rw [ζf h];omega
   · rw [Zfb,ih (u / 10) oM,ζf oM];omega
theorem Zhx (u:Nat):∀b∈Lib.decDigits u,b≠32:=by
 induction u using Nat.strongRecOn with
 | _ u ih=>
   have key:∀v:Nat,v<10→UInt8.ofNat (48+v)≠32:=fun v hv e=>by
    have:=congrArg UInt8.toNat e;rw [ζf hv] at this;have h32:(32:UInt8).toNat=32:=rfl;omega
   rw [Lib.decDigits];split
   · rename_i h;intro b hb;rw [Xl.1 hb];exact key u h
   · intro b hb;rcases Xh.1 hb with hb|hb
     · exact ih (u / 10) oM b hb
     · rw [Xl.1 hb];exact key _ oM
theorem ZaU:∀{a b c d:List UInt8},(∀x∈a,x≠32)→(∀x∈b,x≠32)→a++32::c=b++32::d→a=b∧c=d
 |[],[],c,d,_,_,h=>⟨rfl,(List.cons.inj h).2⟩
 |[],y::b,c,d,_,hb,h=>UU (List.cons.inj h).1.symm (hb y (Xi ..))
 |x::a,[],c,d,ha,_,h=>UU (List.cons.inj h).1 (ha x (Xi ..))
 | x::a,y::b,c,d,ha,hb,h=>by
   obtain ⟨h1,h2⟩:=List.cons.inj h;obtain ⟨h3,h4⟩:=ZaU (fun z hz=>ha z (Xn _ hz)) (fun z hz=>hb z (Xn _ hz)) h2;exact ⟨by rw [h1,h3],h4⟩
def JU (l:List Int):List UInt8:=l.flatMap fun s=>Lib.itoa s++[32]
def Lm (l:List Int):ByteArray:=⟨(JU l).toArray⟩
theorem ZaV:∀{l m:List Int},(∀x∈l,0≤x)→(∀x∈m,0≤x)→JU l=JU m→l=m
 |[],[],_,_,_=>rfl
 | [],y::m,_,_,h=>by
   have:=congrArg List.length h;simp only [JU,Xu,XK,Xb,Xk,XC] at this;omega
 | x::l,[],_,_,h=>by
   have:=congrArg List.length h;simp only [JU,Xu,XK,Xb,Xk,XC] at this;omega
 | x ::l,y::m,hl,hm,h=>by
   have hx:=hl x (Xi ..);have hy:=hm y (Xi ..);have e1:Lib.itoa x=Lib.decDigits x.toNat:=by unfold Lib.itoa;rw [US oM]
   have e2:Lib.itoa y=Lib.decDigits y.toNat:=by unfold Lib.itoa;rw [US oM]
   have h':Lib.decDigits x.toNat++32::JU l=Lib.decDigits y.toNat++32::JU m:=by
    have:JU (x::l)=Lib.itoa x++[32]++JU l:=rfl;rw [this,show JU (y::m)=Lib.itoa y++[32]++JU m from rfl,e1,e2] at h;simpa using h
   obtain ⟨h1,h2⟩:=ZaU (Zhx _) (Zhx _) h';have h3:=congrArg Zhw h1;rw [ZaT,ZaT] at h3;rw [ZaV (fun z hz=>hl z (Xn _ hz)) (fun z hz=>hm z (Xn _ hz)) h2,show x=y by omega]
theorem Zl3 {l m:List UInt8} (h:(⟨l.toArray⟩:ByteArray)=⟨m.toArray⟩):l=m:=by
 have:=ByteArray.mk.inj h
 simpa using this
theorem ZaW {l m:List Int} (hl:∀x∈l,0≤x) (hm:∀x∈m,0≤x):Lm l=Lm m↔l=m:=
 ⟨fun h=>ZaV hl hm (Zl3 h),fun h=>by rw [h]⟩
def toI (l:List Nat):List Int:=l.map fun x:Nat=>(x:Int)
theorem ZjT {l m:List Nat}:toI l=toI m↔l=m:=by
 unfold toI
 constructor
 · intro h;have:=congrArg (List.map Int.toNat) h;simpa [XI,Function.comp_def] using this
 · intro h;rw [h]
def eqM (a b:Mv):Bool:=decide (a.src=b.src)&&decide (a.dst=b.dst)&&decide (a.sym=b.sym)
theorem GN {a b:Mv}:eqM a b=true↔a=b:=by
 unfold eqM
 simp only [Xe,UP]
 cases a;cases b
 simp only [Mv.mk.injEq,and_assoc]
theorem Gt (a:Mv):Jo a a=false:=by
 cases h:Jo a a with
 |false=>rfl
 |true=>have:=Lj.1 h;omega
theorem Rs {a b c:Mv} (h1:Jo a b=true) (h2:Jo b c=true):Jo a c=true:=by
 rw [Lj] at h1 h2 ⊢;omega
theorem DW {a b:Mv} (h1:Jo a b=false) (h2:Jo b a=false):a=b:=by
 have e1:¬Jo a b=true:=by rw [h1];simp
 have e2:¬Jo b a=true:=by rw [h2];simp
 rw [Lj] at e1 e2
 rw [←GN];unfold eqM
 simp only [Xe,UP];omega
def AscM (l:List Mv):Prop:=l.Pairwise fun a b=>Jo a b=true
theorem DX:∀{l m:List Mv},AscM l→AscM m→(∀x,x∈l↔x∈m)→l=m
 |[],[],_,_,_=>rfl
 |[],y::m,_,_,h=>UU ((h y).2 (Xi ..)) sM
 |x::l,[],_,_,h=>UU ((h x).1 (Xi ..)) sM
 | x :: l,y::m,hl,hm,h=>by
   have hl':=XP.1 hl;have hm':=XP.1 hm;have hxy:x=y:=by
    rcases Xq.1 ((h x).1 (Xi ..)) with e|h1
    · exact e
    · rcases Xq.1 ((h y).2 (Xi ..)) with e|h2
      · exact e.symm
      · have h3:=Rs (hm'.1 x h1) (hl'.1 y h2);rw [Gt] at h3;cases h3
   subst hxy;congr 1;refine DX hl'.2 hm'.2 fun z=>⟨fun hz=>?_,fun hz=>?_⟩
   · rcases Xq.1 ((h z).1 (Xn _ hz)) with e|h1
     · have h3:=hl'.1 z hz;rw [e,Gt] at h3;cases h3
     · exact h1
   · rcases Xq.1 ((h z).2 (Xn _ hz)) with e|h1
     · have h3:=hm'.1 z hz;rw [e,Gt] at h3;cases h3
     · exact h1
def ZaX (m:Mv):List Mv→List Mv
 |[]=>[m]
 |x::l=>if Jo m x then m::x::l else if eqM m x then x::l else x::ZaX m l
theorem DY {m y:Mv}:∀{l:List Mv},y∈ZaX m l↔y=m∨y∈l
 |[]=>by simp [ZaX]
 | x :: l =>by
   rw [ZaX];split
   · simp
   · split
     · rename_i h;rw [GN] at h;subst h;simp
     · rw [Xq,DY,Xq];constructor
       · rintro (h|h|h)
         · exact .inr (.inl h)
         · exact .inl h
         · exact .inr (.inr h)
       · rintro (h|h|h)
         · exact .inr (.inl h)
         · exact .inl h
         · exact .inr (.inr h)
theorem ZaY {m:Mv}:∀{l:List Mv},AscM l→AscM (ZaX m l)
 |[],_=>by simp [ZaX,AscM]
 | x :: l,h=>by
   have h':=XP.1 h;rw [ZaX];split
   · rename_i hm;refine XP.2 ⟨fun z hz=>?_,h⟩;rcases Xq.1 hz with rfl|hz
     · exact hm
     · exact Rs hm (h'.1 z hz)
   · rename_i hm;split
     · exact h
     · rename_i he;refine XP.2 ⟨fun z hz=>?_,ZaY h'.2⟩;rcases DY.1 hz with rfl|hz
       · cases hxz:Jo x z with
         |true=>rfl
         |false=>exact UU (GN.2 (DW (by simpa using hm) hxz)) he
       · exact h'.1 z hz
def mkM:List Mv→List Mv
 |[]=>[]
 |x::l=>ZaX x (mkM l)
theorem KM {y:Mv}:∀{l:List Mv},y∈mkM l↔y∈l
 |[]=>by simp [mkM]
 |x::l=>by rw [mkM,DY,KM,Xq]
theorem J6:∀l,AscM (mkM l)
 |[]=> .nil
 |x::l=>ZaY (J6 l)
theorem ZcO {l m:List Mv} (hl:AscM l) (h:∀x,x∈l↔x∈m):l=mkM m:=DX hl (J6 m) fun x=>by rw [h,KM]
theorem ZjU {l m:List Mv} (hl:AscM l) (h:∀x∈l,x∈m):l.length≤m.length:=by
 induction l generalizing m with
 |nil=>exact Xf _
 | cons x l ih=>
   have h':=XP.1 hl;obtain ⟨a,b,rfl⟩:=List.append_of_mem (h x (Xi ..));have :=ih (m:=a++b) h'.2 fun y hy=>by
    rcases Xh.1 (h y (Xn _ hy)) with h1|h1
    · exact XZ _ h1
    · rcases Xq.1 h1 with rfl|h1
      · have:=h'.1 y hy;rw [Gt] at this;cases this
      · exact Ve _ h1
   simp only [Xb,Xk] at this ⊢;omega
theorem ζg (l:List Mv):(mkM l).length≤l.length:=ZjU (J6 l) fun x h=>KM.1 h
def DZ (a:Aut):Except Int Aut:=if 2000<a.n∨20000<a.moves.length then .error 13 else WH a
def Jh (a:Aut):Except Int Aut:=DZ {a with moves:=mkM a.moves}
def Ji (a:Aut):Aut:=⟨a.n+1,a.syms,[a.n],[a.n],a.moves++(a.start.map fun s=>⟨a.n,s,-1⟩)++a.fin.map fun s=>⟨s,a.n,-1⟩⟩
def Gu (a:Aut):Except Int Aut:=if Z4 a then Jh (Ji a) else .error 1
def stepA (A:Aut) (i s:Nat):Nat:=(((A.moves[i*A.syms.toNat+s]?).map Mv.dst).getD 0).toNat
def Ot (op:Int) (x y:Bool):Bool:=if op=1 then x&&y else if op=2 then x||y else if op=3 then x&& !y else x !=y
def Y7 (A B:Aut):Srch ((Nat×Nat)×(Int×Int)) (Nat×Nat):=⟨Prod.fst,2000,A.syms.toNat,fun i x s=>((stepA A x.1.1 s,stepA B x.1.2 s),((i:Nat),(s:Nat)))⟩
def prodQ (A B:Aut):Option (List ((Nat×Nat)×(Int×Int))×List (List Nat)):=(Y7 A B).all ((0,0),(-1,-1))
def Wz (A B:Aut) (op:Int) (x:(Nat×Nat)×(Int×Int)):Bool:=Ot op (J3 A (x.1.1:Nat)) (J3 B (x.1.2:Nat))
def Td (A B:Aut) (op:Int) (q:List ((Nat×Nat)×(Int×Int))×List (List Nat)):Tab:=⟨A.syms.toNat,q.2,q.1.map (Wz A B op)⟩
def Ln (a b:Aut):Except Int (Aut×Aut×List ((Nat×Nat)×(Int×Int))×List (List Nat)):=match WH a,WH b with
 | .ok A, .ok B=>match prodQ A B with
   |some q=> .ok (A,B,q)
   |none=> .error 13
 |_,_=> .error 13
def WW (a b:Aut):Int:=if Z4 a=false∨Z4 b=false then 1 else if ¬a.syms=b.syms then 29 else 0
def TE (par:List (Int×Int)):Nat→Nat→List Int
 |0,_=>[]
 | f+1,i=>match par[i]? with
   |some x=>if x.1<0 then [] else TE par f x.1.toNat++[x.2]
   |none=>[]
def LW (A B:Aut) (op:Int) (q:List ((Nat×Nat)×(Int×Int))×List (List Nat)):Bool×List Int:=
 match (q.1.map (Wz A B op)).idxOf? true with
 |some i=>(false,TE (q.1.map (·.2)) (i+1) i)
 |none=>(true,[])
def cmpX (a b:Aut) (op:Int):Bool×List Int×Int:=if ¬WW a b=0 then (false,[],WW a b) else match Ln a b with
 | .ok (A,B,q)=>((LW A B op q).1,(LW A B op q).2,0)
 | .error e=>(false,[],e)
theorem ZaZ {t:Tab} {A:Aut} (h:WS t=some A):∃o rows,(minW t).all 0=some (o,rows)∧A=Wv t (o,rows)∧(ZV rows).length≤20000:=by
 unfold WS at h
 obtain ⟨⟨o,rows⟩,h1,h2⟩:=XU.1 h
 dsimp only at h2
 split at h2
 · cases h2
 · cases h2;exact ⟨o,rows,h1,rfl,oM⟩
structure Fin (t:Tab) (o:List Nat) (rows:List (List Nat)):Prop where
 ok:(minW t).Ok (· <t.rows.length) 0 o rows
 len:rows.length=o.length
 n1:o.length≤2000
 pos:0<o.length
theorem SG {t:Tab} (h:TOk t) {o:List Nat} {rows:List (List Nat)} (hu:(minW t).all 0=some (o,rows)):Fin t o rows:=by
 obtain ⟨h1,_,h3⟩:=ZcM h hu
 have hc:o.length≤t.rows.length:=h1.cap
 have:=h.n1
 exact ⟨h1,h3 hc,oM,h1.pos⟩
theorem EL {i:Nat} {r:List Nat} {m:Mv} (h:m∈Yk i r):∃n s:Nat,r[s]? =some n∧m=⟨(i:Nat),(n:Nat),(s:Nat)⟩:=by
 unfold Yk at h
 obtain ⟨p,hp,rfl⟩:=Xg.1 h
 exact ⟨p.1,p.2,by have:=UJ.1 hp;exact this,rfl⟩
theorem SH {rows:List (List Nat)} {m:Mv} (h:m∈ZV rows):∃(i s n:Nat) (r:List Nat),rows[i]? =some r∧r[s]? =some n∧m=⟨(i:Nat),(n:Nat),(s:Nat)⟩:=by
 unfold ZV at h
 obtain ⟨p,hp,hm⟩:=XT.1 h
 obtain ⟨n,s,h1,h2⟩:=EL hm
 exact ⟨p.2,s,n,p.1,UJ.1 hp,h1,h2⟩
theorem Rt {t:Tab} (ht:TOk t) {o:List Nat} {rows:List (List Nat)} (h:Fin t o rows) (hm:(ZV rows).length≤20000):AOk (Wv t (o,rows)):=by
 have hp:=h.pos
 have hn:=h.n1
 have hm1:=ht.m1
 have hll:=P9 o.length (Jg t o)
 refine ⟨by show (0:Int)≤(o.length:Nat);omega,by show ((o.length:Nat):Int)≤2000;omega,by show (0:Int)≤(t.m:Nat);omega,by show ((t.m:Nat):Int)≤40;omega,hm,fun s hs=>?_,fun s hs=>?_,by show [(0:Int)].length≤2000;simp,by show (Wa o.length (Jg t o)).length≤2000;omega,fun m hmm=>?_⟩
 · rw [show s=0 from Xl.1 hs];exact ⟨VA _,by show (0:Int)<(o.length:Nat);omega⟩
 · obtain ⟨h1,h2,_⟩:=P'.1 hs;exact ⟨h1,h2⟩
 · obtain ⟨i,s,n,r,h1,h2,rfl⟩:=SH hmm;have h3:i<rows.length:=Zf h1;have h4:=Zf h2;have h5:r.length=t.m:=h.ok.len r (Xc h1);obtain ⟨x,hx⟩:=Zp (show i<o.length by rw [←h.len];exact h3);have h6:=(h.ok.to i x r s n hx h1 h2).1;have h7:=h.len;refine ⟨by show (0:Int)≤(i:Nat);omega,by show ((i:Nat):Int)<(o.length:Nat);omega,by show (0:Int)≤(n:Nat);omega,by show ((n:Nat):Int)<(o.length:Nat);omega,by show (-1:Int)≤(s:Nat);omega,by show ((s:Nat):Int)<(t.m:Nat);omega⟩
theorem ζh {a A:Aut} (h:AOk a) (hr:WH a= .ok A):∃t o rows,J5 a=some t∧TOk t∧(minW t).all 0=some (o,rows)∧Fin t o rows∧A=Wv t (o,rows)∧(ZV rows).length≤20000:=by
 unfold WH at hr
 split at hr
 · rename_i t ht
   cases hl:WS t with
   |none=>rw [hl] at hr;cases hr
   | some B=>
     rw [hl] at hr;cases hr;obtain ⟨o,rows,h1,h2,h3⟩:=ZaZ hl;have hT:=ζd h ht;exact ⟨t,o,rows,ht,hT,h1,SG hT h1,h2,h3⟩
 · cases hr
theorem ZjV {a A:Aut} (h:GZ a= .ok A):Z4 a=true∧WH a= .ok A:=by
 unfold GZ at h
 split at h
 · rename_i h1;exact ⟨h1,h⟩
 · cases h
def Rel2 {α β:Type} (R:α→β→Prop) (o:List α) (o':List β):Prop:=o.length=o'.length∧∀(i:Nat) (x:α) (y:β),o[i]? =some x→o'[i]? =some y→R x y
theorem Rel2.snoc {α β:Type} {R:α→β→Prop} {o:List α} {o':List β} {x:α} {y:β} (h:Rel2 R o o') (hr:R x y):Rel2 R (o++[x]) (o'++[y]):=by
 refine ⟨by rw [Xb,Xb,h.1];rfl,fun i a b ha hb=>?_⟩
 rw [VU] at ha hb
 have hl:=h.1
 split at ha
 · rename_i h1;rw [UT oM] at hb;exact h.2 i a b ha hb
 · rename_i h1;rw [US oM] at hb;have h2:=Zf ha;simp only [Xs] at h2;have h3:i=o.length:=oM;rw [h3,VE] at ha;rw [show i-o'.length=0 by omega] at hb;simp only [Vs,Option.some.injEq] at ha hb;rw [←ha,←hb];exact hr
section
variable {α β κ κ':Type} [DecidableEq κ] [DecidableEq κ']
theorem Za0 {f:α→κ} {g:β→κ'} {k:κ} {k':κ'}:∀{o:List α} {o':List β},o.length=o'.length→(∀(i:Nat) (x:α) (y:β),o[i]? =some x→o'[i]? =some y→(f x=k↔g y=k'))→posK f o k=posK g o' k'
 |[],[],_,_=>rfl
 |[],_::_,h,_=>by simp at h
 |_::_,[],h,_=>by simp at h
 | x::o,y::o',h,hk=>by
   have h0:=hk 0 x y rfl rfl;have ih:=Za0 (f:=f) (g:=g) (k:=k) (k':=k') (o:=o) (o':=o') (by simpa using h) fun i a b ha hb=>hk (i+1) a b (by simpa using ha) (by simpa using hb);rw [posK,posK,ih];by_cases e:f x=k
   · rw [UT e,UT (h0.1 e)]
   · rw [US e,US fun e2=>e (h0.2 e2)]
variable {W:Srch α κ} {W':Srch β κ'} {R:α→β→Prop}
theorem Srch.sim_row (hc:W.cap≤W'.cap) (hk:∀x x' y y',R x y→R x' y'→(W.key x=W.key x'↔W'.key y=W'.key y')) (hs:∀i x y s,R x y→s<W.m→R (W.step i x s) (W'.step i y s)) {i:Nat} {x:α} {y:β} (hxy:R x y) {o:List α} {o':List β} (ho:Rel2 R o o'):
 ∀{s:Nat} {p:List α} {r:List Nat},s≤W.m→W.row i x o s=some (p,r)→∃p',W'.row i y o' s=some (p',r)∧Rel2 R p p'
 | 0,p,r,_,h=>by
   rw [Srch.row] at h;cases h;exact ⟨o',rfl,ho⟩
 | s + 1,p,r,hsm,h=>by
   rw [Srch.row,XU] at h;obtain ⟨⟨p1,r1⟩,h1,h2⟩:=h;obtain ⟨⟨p2,n⟩,h3,h4⟩:=XA.1 h2
   cases h4;dsimp only at h3 ⊢;obtain ⟨p1',h5,h6⟩:=Srch.sim_row hc hk hs hxy ho oM h1;have hst:=hs i x y s hxy oM;have hpos:posK W.key p1 (W.key (W.step i x s))=posK W'.key p1' (W'.key (W'.step i y s)):=Za0 h6.1 fun j a b ha hb=>hk a _ b _ (h6.2 j a b ha hb) hst;by_cases hp:posK W.key p1 (W.key (W.step i x s))<p1.length
   · rw [WQ hp] at h3;cases h3;(have hp':posK W'.key p1' (W'.key (W'.step i y s))<p1'.length:=by rw [←hpos,←h6.1];exact hp);exact ⟨p1',by rw [Srch.row_snoc h5 (WQ hp'),hpos],h6⟩
   · (have hp':¬posK W'.key p1' (W'.key (W'.step i y s))<p1'.length:=by rw [←hpos,←h6.1];exact hp);by_cases hcap:p1.length<W.cap
     · rw [WR hp hcap] at h3;cases h3;exact ⟨p1'++[W'.step i y s],by rw [Srch.row_snoc h5 (WR hp' (by have:=h6.1;omega)),h6.1],h6.snoc hst⟩
     · rw [Dr hp oM] at h3;cases h3
theorem Srch.sim (hm:W.m=W'.m) (hc:W.cap≤W'.cap) (hk:∀x x' y y',R x y→R x' y'→(W.key x=W.key x'↔W'.key y=W'.key y')) (hs:∀i x y s,R x y→s<W.m→R (W.step i x s) (W'.step i y s)) {x0:α} {y0:β} (h0:R x0 y0):
 ∀{i:Nat} {o:List α} {rows:List (List Nat)},W.upto x0 i=some (o,rows)→∃o',W'.upto y0 i=some (o',rows)∧Rel2 R o o'
 | 0,o,rows,h=>by
   rw [Srch.upto] at h;cases h;refine ⟨[y0],rfl,rfl,fun i x y hx hy=>?_⟩;match i with
   |0=>simp at hx hy;subst hx hy;exact h0
   |i+1=>simp at hx
 | i +1,o,rows,h=>by
   rw [Srch.upto,XU] at h;obtain ⟨⟨o1,rows1⟩,h1,h2⟩:=h;obtain ⟨o1',h3,h4⟩:=Srch.sim hm hc hk hs h0 h1;dsimp only at h2
   cases hx:o1[i]? with
   | none=>
     rw [hx] at h2;cases h2;have h5:=Uh.1 hx;exact ⟨o1',Srch.upto_stop h3 (by dsimp only;have:=h4.1;omega) 1,h4⟩
   | some x=>
     rw [hx] at h2;obtain ⟨⟨o2,r⟩,h5,h6⟩:=XA.1 h2
     cases h6;have hil:=Zf hx;obtain ⟨y,hy⟩:=Zp (show i<o1'.length by have:=h4.1;omega);obtain ⟨p',h7,h8⟩:=Srch.sim_row hc hk hs (h4.2 i x y hx hy) h4 (Xj _) h5;rw [hm] at h7;exact ⟨p',Srch.upto_snoc h3 hy h7,h8⟩
end
section
variable {κ κ':Type} [DecidableEq κ] [DecidableEq κ']
end
theorem Zl4 {t:Tab} {o:List Nat} {rows:List (List Nat)} {i:Nat} (hi:i<o.length):J3 (Wv t (o,rows)) (i:Nat)=Jg t o i:=by
 rw [VY]
 have:J3 (Wv t (o,rows)) (i:Nat)=true↔((i:Nat):Int)∈Wa o.length (Jg t o):=by
  show Zl2 (Wa o.length (Jg t o)) (i:Nat)=true↔_;exact Zhu
 rw [this,P',XS]
 constructor
 · exact fun h=>h.2.2
 · exact fun h=>⟨oM,oM,h⟩
theorem TF {f g:Nat→Bool}:∀n:Nat,(∀i,i<n→f i=g i)→Wa n f=Wa n g
 |0,_=>rfl
 |n+1,h=>by rw [Jb,Jb,TF n fun i hi=>h i oM,h n oM]
structure PreA (a:Aut):Prop where
 n0:0≤a.n
 s0:0≤a.syms
 s1:a.syms≤40
 st:InS a a.start
 fi:InS a a.fin
 sn:a.start.Nodup
 fn:a.fin.Nodup
 mv:∀m∈a.moves,0≤m.src∧m.src<a.n∧0≤m.dst∧m.dst<a.n∧-1≤m.sym∧m.sym<a.syms
def mkA (a:Aut):Aut:={a with moves:=mkM a.moves}
theorem PreA.aok {a:Aut} (h:PreA a) (hb:¬(2000<(mkA a).n∨20000<(mkA a).moves.length)):AOk (mkA a):=by
 have hn:¬2000<a.n:=fun h=>hb (.inl h)
 have hl:∀{l:List Int},l.Nodup→InS a l→l.length≤2000:=fun {l} h1 h2=>by
  have:=nodup_len a.n.toNat l h1 fun s hs=>by have:=h2 s hs;have:=h.n0;omega
  omega
 exact ⟨h.n0,by show a.n≤2000;omega,h.s0,h.s1,by have:=hb;omega,h.st,h.fi,hl h.sn h.st,hl h.fn h.fi,fun m hm=>h.mv m (KM.1 hm)⟩
theorem Za1 {n:Int} {l:List Int} (h:LL n l=true):Srt l:=by
 unfold LL at h
 rw [Xe] at h
 have:=h.2
 clear h
 induction l with
 |nil=>exact .nil
 | cons x l ih=>
   cases l with
   |nil=>exact VI ..
   | cons y l=>
     rw [Ws,Xe] at this;have h1:=ih this.2;(have hxy:x<y:=by have:=this.1;unfold ltI at this;simpa using this);refine XP.2 ⟨fun z hz=>?_,h1⟩;rcases Xq.1 hz with rfl|hz
     · exact hxy
     · exact Int.lt_trans hxy ((XP.1 h1).1 z hz)
theorem EM:∀{l:List Mv},Ws Jo l=true→AscM l
 |[],_=> .nil
 |[x],_=>VI ..
 | x::y::l,h=>by
   rw [Ws,Xe] at h;have h1:=EM h.2;refine XP.2 ⟨fun z hz=>?_,h1⟩;rcases Xq.1 hz with rfl|hz
   · exact h.1
   · exact Rs h.1 ((XP.1 h1).1 z hz)
theorem WB {l:List Int} (h:Srt l):l.Nodup:=h.imp fun h=>oM
structure VOk (a:Aut):Prop extends AOk a where
 ss:Srt a.start
 fs:Srt a.fin
 ms:AscM a.moves
theorem WT {a:Aut} (h:Z4 a=true):VOk a:=by
 have h':=h
 unfold Z4 at h'
 simp only [Xe,UP] at h'
 obtain ⟨⟨⟨⟨⟨⟨⟨⟨_,_⟩,_⟩,_⟩,_⟩,h6⟩,h7⟩,_⟩,h9⟩:=h'
 exact ⟨GY h,Za1 h6,Za1 h7,EM h9⟩
theorem SI {l:List Mv} (h:AscM l):l.Nodup:=h.imp fun {a b} h1 e=>by rw [e,Gt] at h1;cases h1
theorem Gd {α β:Type} {f:α→β} {l:List α} (h:l.Nodup) (hf:∀x∈l,∀y∈l,f x=f y→x=y):(l.map f).Nodup:=by
 induction l with
 |nil=>exact XN
 | cons x l ih=>
   rw [Vc] at h;rw [Xp,Vc];refine ⟨fun hm=>?_,ih h.2 fun y hy z hz=>hf y (Xn _ hy) z (Xn _ hz)⟩;obtain ⟨y,hy,e⟩:=Xg.1 hm;have:=hf y (Xn _ hy) x (Xi ..) e;rw [this] at hy;exact h.1 hy
theorem D1 {a:Aut} (h:VOk a):PreA (Ji a):=by
 have hn:=h.n0
 refine ⟨by show 0≤a.n+1;omega,h.s0,h.s1,fun s hs=>?_,fun s hs=>?_,by show [a.n].Nodup;simp,by show [a.n].Nodup;simp,fun m hm=>?_⟩
 · rw [show s=a.n from Xl.1 hs];exact ⟨hn,by show a.n<a.n+1;omega⟩
 · rw [show s=a.n from Xl.1 hs];exact ⟨hn,by show a.n<a.n+1;omega⟩
 · have hs:=h.s0;show 0≤m.src∧m.src<a.n+1∧0≤m.dst∧m.dst<a.n+1∧-1≤m.sym∧m.sym<a.syms;have hm':m∈a.moves++(a.start.map fun s=>(⟨a.n,s,-1⟩:Mv))++a.fin.map fun s=>(⟨s,a.n,-1⟩:Mv):=hm;rcases Xh.1 hm' with hm|hm
   · rcases Xh.1 hm with hm|hm
     · have:=h.mv m hm;omega
     · obtain ⟨s,hs,rfl⟩:=Xg.1 hm;have:=h.st s hs;dsimp only;omega
   · obtain ⟨s,hs,rfl⟩:=Xg.1 hm;have:=h.fi s hs;dsimp only;omega
theorem ZcP {a:Aut} (h:VOk a):(Ji a).moves.Nodup:=by
 show (a.moves++(a.start.map fun s=>(⟨a.n,s,-1⟩:Mv))++a.fin.map fun s=>(⟨s,a.n,-1⟩:Mv)).Nodup
 rw [Vx,Vx]
 refine ⟨⟨SI h.ms,Gd (WB h.ss) fun x _ y _ e=>(Mv.mk.inj e).2.1,fun x hx y hy e=>?_⟩,Gd (WB h.fs) fun x _ y _ e=>(Mv.mk.inj e).1,fun x hx y hy e=>?_⟩
 · obtain ⟨s,hs,rfl⟩:=Xg.1 hy;have:=h.mv x hx;rw [e] at this;dsimp only at this;omega
 · obtain ⟨s,hs,rfl⟩:=Xg.1 hy;have h1:=h.fi s hs;rcases Xh.1 hx with hx|hx
   · have:=h.mv x hx;rw [e] at this;dsimp only at this;omega
   · obtain ⟨s',hs',e'⟩:=Xg.1 hx;rw [e] at e';have:=(Mv.mk.inj e').1;omega
theorem Za2 {i:Nat} {r:List Nat} {s n:Nat} (h:r[s]? =some n):(Yk i r)[s]? =some ⟨(i:Nat),(n:Nat),(s:Nat)⟩:=by
 unfold Yk
 rw [Xm,List.getElem?_zipIdx,h]
 show some (⟨(i:Nat),(n:Nat),((0+s:Nat):Int)⟩:Mv)=_
 rw [Xv]
def TG (k:Nat) (rows:List (List Nat)):List Mv:=(rows.zipIdx k).flatMap fun p=>Yk p.2 p.1
theorem JO (k:Nat) (r:List Nat) (rows:List (List Nat)):TG k (r::rows)=Yk k r++TG (k+1) rows:=by
 unfold TG;rw [VP,Xu]
theorem Pg {m:Nat}:∀{rows:List (List Nat)} {k i s n:Nat} {r:List Nat},(∀r∈rows,r.length=m)→rows[i]? =some r→r[s]? =some n→(TG k rows)[i*m+s]? =some ⟨((k+i:Nat):Int),(n:Nat),(s:Nat)⟩
 |[],_,_,_,_,_,_,h,_=>by simp at h
 | x::rows,k,0,s,n,r,hl,hr,hs=>by
   simp only [Vs,Option.some.injEq] at hr;subst hr;rw [JO,VB,Xv,X9 (by rw [Gc];exact Zf hs),Za2 hs];rfl
 | x::rows,k,i+1,s,n,r,hl,hr,hs=>by
   simp only [Vr] at hr;have hx:=hl x (Xi ..);rw [JO,Vf (by rw [Gc,hx,X5];omega),Gc,hx,show (i+1)*m+s-m=i*m+s by rw [X5];omega,Pg (fun r hr=>hl r (Xn _ hr)) hr hs];rw [show k+1+i=k+(i+1) by omega]
theorem T4 {i:Nat} {r:List Nat}:∀m∈Yk i r,m.src=(i:Nat):=fun m hm=>by
 obtain ⟨n,s,_,rfl⟩:=EL hm
 rfl
theorem D2 {k:Nat} {rows:List (List Nat)}:∀m∈TG k rows,(k:Int)≤m.src:=fun m hm=>by
 unfold TG at hm
 obtain ⟨p,hp,hm⟩:=XT.1 hm
 rw [T4 m hm]
 have:=List.mem_zipIdx hp
 omega
theorem Ph:∀{rows:List (List Nat)} {k i:Nat} {r:List Nat},rows[i]? =some r→(TG k rows).filter (fun m=>decide (m.src=((k+i:Nat):Int)))=Yk (k+i) r
 |[],_,_,_,h=>by simp at h
 | x ::rows,k,0,r,h=>by
   simp only [Vs,Option.some.injEq] at h;subst h;rw [VN,JO,Vd,UC.2 fun m hm=>UQ (T4 m hm),List.filter_eq_nil_iff.2 fun m hm=>by
    have:=D2 m hm;simp only [UP];omega,Xy]
 | x ::rows,k,i+1,r,h=>by
   simp only [Vr] at h;rw [JO,Vd,List.filter_eq_nil_iff.2 fun m hm=>by
    have:=T4 m hm;simp only [UP];omega,Vp,show k+(i+1)=k+1+i by omega]
   exact Ph h
structure DetA (A:Aut):Prop where
 ok:AOk A
 pos:0<A.n.toNat
 mo:∀i s,i<A.n.toNat→s<A.syms.toNat→∃x:Mv,(movesOf A i)[s]? =some x∧A.moves[i*A.syms.toNat+s]? =some x∧x.dst=(stepA A i s:Nat)
 ml:∀i,i<A.n.toNat→(movesOf A i).length=A.syms.toNat
 sl:∀i s,i<A.n.toNat→s<A.syms.toNat→stepA A i s<A.n.toNat
theorem D3 {A:Aut} {i s:Nat} {x:Mv} (h:A.moves[i*A.syms.toNat+s]? =some x):stepA A i s=x.dst.toNat:=by
 unfold stepA;rw [h];rfl
theorem Zlp {t:Tab} (ht:TOk t) {o:List Nat} {rows:List (List Nat)} (h:Fin t o rows) (hm:(ZV rows).length≤20000):DetA (Wv t (o,rows)):=by
 have hok:=Rt ht h hm
 have hn:(Wv t (o,rows)).n.toNat=o.length:=XS _
 have hs:(Wv t (o,rows)).syms.toNat=t.m:=XS _
 have key:∀i s,i<o.length→s<t.m→∃(r:List Nat) (n:Nat),rows[i]? =some r∧r[s]? =some n∧n<o.length∧(Wv t (o,rows)).moves[i*t.m+s]? =some ⟨(i:Nat),(n:Nat),(s:Nat)⟩∧movesOf (Wv t (o,rows)) i=Yk i r:=fun i s hi hs=>by
  obtain ⟨r,hr⟩:=Zp (show i<rows.length by rw [h.len];exact hi);have hrl:r.length=t.m:=h.ok.len r (Xc hr);obtain ⟨n,hn⟩:=Zp (show s<r.length by omega);obtain ⟨x,hx⟩:=Zp hi;refine ⟨r,n,hr,hn,(h.ok.to i x r s n hx hr hn).1,?_,?_⟩
  · have:=Pg (k:=0) h.ok.len hr hn;rw [Xv] at this;exact this
  · have:=Ph (k:=0) hr;rw [Xv] at this;exact this
 refine ⟨hok,by rw [hn];exact h.pos,fun i s hi hs'=>?_,fun i hi=>?_,fun i s hi hs'=>?_⟩
 · rw [hn] at hi;rw [hs] at hs' ⊢;obtain ⟨r,n,h1,h2,h3,h4,h5⟩:=key i s hi hs';refine ⟨_,by rw [h5];exact Za2 h2,h4,?_⟩;rw [D3 (by rw [hs];exact h4)];show ((n:Nat):Int)=(((n:Nat):Int).toNat:Nat);rw [XS]
 · rw [hn] at hi;obtain ⟨r,hr⟩:=Zp (show i<rows.length by rw [h.len];exact hi);have:=Ph (k:=0) hr;rw [Xv] at this;show ((ZV rows).filter fun m=>decide (m.src=(i:Int))).length=_;rw [show ((ZV rows).filter fun m=>decide (m.src=(i:Int)))=Yk i r from this,Gc,hs];exact h.ok.len r (Xc hr)
 · rw [hn] at hi ⊢;rw [hs] at hs';obtain ⟨r,n,h1,h2,h3,h4,h5⟩:=key i s hi hs';rw [D3 (by rw [hs];exact h4)];show ((n:Nat):Int).toNat<_;rw [XS];exact h3
theorem TH {a A:Aut} (h:AOk a) (hr:WH a= .ok A):DetA A∧A.syms=a.syms:=by
 obtain ⟨t,o,rows,hs,hT,_,hF,rfl,hm⟩:=ζh h hr
 refine ⟨Zlp hT hF hm,?_⟩
 unfold J5 at hs
 obtain ⟨q,_,rfl⟩:=XA.1 hs
 show ((a.syms.toNat:Nat):Int)=a.syms
 have:=h.s0
 omega
def ζi (A B:Aut) (x:(Nat×Nat)×(Int×Int)):Prop:=x.1.1<A.n.toNat∧x.1.2<B.n.toNat
theorem Ru {A B:Aut} (hA:DetA A) (hB:DetA B) (hs:A.syms=B.syms) {i:Nat} {o:List ((Nat×Nat)×(Int×Int))} {rows:List (List Nat)} (hu:(Y7 A B).upto ((0,0),(-1,-1)) i=some (o,rows)):(Y7 A B).Ok (ζi A B) ((0,0),(-1,-1)) o rows∧(i≤o.length→rows.length=i)∧(o.length≤i→rows.length=o.length):=
 Srch.ok (W:=Y7 A B) (P:=ζi A B) (show 1≤2000 by decide) ⟨hA.pos,hB.pos⟩ (fun i x s hx hsm=>⟨hA.sl _ _ hx.1 hsm,hB.sl _ _ hx.2 (by have:s<A.syms.toNat:=hsm;rw [←hs];exact this)⟩) hu
def D4 (t:Tab) (x:Nat) (w:List Nat):Nat:=w.foldl (toT t) x
def D5 (t:Tab) (x:Nat) (w:List Nat):Bool:=(t.fin[D4 t x w]?).getD false
def WU (m:Nat) (w:List Nat):Prop:=∀c∈w,c<m
def SameL (t:Tab) (x:Nat) (t':Tab) (x':Nat):Prop:=∀w,WU t.m w→D5 t x w=D5 t' x' w
theorem Ge (t:Tab) (x c:Nat) (w:List Nat):D5 t x (c::w)=D5 t (toT t x c) w:=rfl
theorem SameL.step {t t':Tab} {x x' s:Nat} (h:SameL t x t' x') (hs:s<t.m):SameL t (toT t x s) t' (toT t' x' s):=fun w hw=>by
 have:=h (s::w) fun c hc=>by
  rcases Xq.1 hc with rfl|hc
  · exact hs
  · exact hw c hc
 rw [Ge,Ge] at this;exact this
theorem SameL.symm {t t':Tab} {x x':Nat} (hm:t.m=t'.m) (h:SameL t x t' x'):SameL t' x' t x:=fun w hw=>(h w (by rw [hm];exact hw)).symm
theorem SameL.trans {t t' t'':Tab} {x x' x'':Nat} (hm:t.m=t'.m) (h:SameL t x t' x') (h':SameL t' x' t'' x''):SameL t x t'' x'':=fun w hw=>(h w hw).trans (h' w (by rw [←hm];exact hw))
section
variable {t:Tab}
theorem ZdI (h:TOk t) {c:Nat→Nat} {x:Nat} (hx:x<t.rows.length):((t.rows[x]?).getD []).map c=(List.range t.m).map fun s=>c (toT t x s):=by
 obtain ⟨r,hr⟩:=Zp hx
 have hl:=h.rl r (Xc hr)
 rw [hr]
 refine Vq fun s=>?_
 show (r.map c)[s]? =_
 rw [Xm,Xm]
 by_cases hs:s<t.m
 · obtain ⟨n,hn⟩:=Zp (show s<r.length by omega);rw [hn,V6 hs];show some (c n)=some (c (toT t x s));rw [Pd hr hn]
 · rw [XL oM,XL (by rw [Us];omega)];rfl
theorem ζj {m:Nat} {f g:Nat→Nat}:(List.range m).map f=(List.range m).map g↔∀s,s<m→f s=g s:=by
 constructor
 · intro h s hs;have h2:((List.range m).map f)[s]? =((List.range m).map g)[s]? :=by rw [h]
   rw [Xm,Xm,V6 hs] at h2;simpa using h2
 · intro h;exact VH fun s hs=>h s (Vi.1 hs)
theorem ζk (h:TOk t) {c:Nat→Nat} {x y:Nat} (hx:x<t.rows.length) (hy:y<t.rows.length):YO t.rows c x=YO t.rows c y↔c x=c y∧∀s,s<t.m→c (toT t x s)=c (toT t y s):=by
 unfold YO
 rw [ZdI h hx,ZdI h hy,List.cons.injEq,ζj]
theorem Rv {c:Nat→Nat} {x y:Nat} (hx:x<t.rows.length) (hy:y<t.rows.length):JN t.rows c x=JN t.rows c y↔YO t.rows c x=YO t.rows c y:=by
 constructor
 · intro h;obtain ⟨z,h1,h2⟩:=Rj (Rp (k:=YO t.rows c) hx).2;obtain ⟨z',h3,h4⟩:=Rj (Rp (k:=YO t.rows c) hy).2;have h5:posK id (Y1 (YO t.rows c) t.rows.length) (YO t.rows c x)=posK id (Y1 (YO t.rows c) t.rows.length) (YO t.rows c y):=h;rw [h5,h3] at h1
   cases h1;exact h2.symm.trans h4
 · intro h;unfold JN;rw [h]
structure CL (t:Tab) (c:Nat→Nat):Prop where
 co:∀x y,x<t.rows.length→y<t.rows.length→SameL t x t y→c x=c y
 fi:∀x y,x<t.rows.length→y<t.rows.length→c x=c y→t.fin[x]? =t.fin[y]?
theorem CL.next (h:TOk t) {c:Nat→Nat} (hc:CL t c):CL t (JN t.rows c):=
 ⟨fun x y hx hy hl=>(Rv hx hy).2 ((ζk h hx hy).2 ⟨hc.co x y hx hy hl,fun s hs=>hc.co _ _ (Kt h) (Kt h) (hl.step hs)⟩),
  fun x y hx hy he=>hc.fi x y hx hy ((ζk h hx hy).1 ((Rv hx hy).1 he)).1⟩
structure CS (t:Tab) (c:Nat→Nat):Prop extends CL t c where
 st:∀x y s,x<t.rows.length→y<t.rows.length→s<t.m→c x=c y→c (toT t x s)=c (toT t y s)
theorem CS.lang (h:TOk t) {c:Nat→Nat} (hc:CS t c) {x y:Nat} (hx:x<t.rows.length) (hy:y<t.rows.length) (he:c x=c y):SameL t x t y:=fun w=>by
 induction w generalizing x y with
 | nil=>
   intro _;have:=hc.fi x y hx hy he;show (t.fin[x]?).getD false=(t.fin[y]?).getD false;rw [this]
 | cons s w ih=>
   intro hw;rw [Ge,Ge];exact ih (Kt h) (Kt h) (hc.st x y s hx hy (hw s (Xi ..)) he) fun c hc=>hw c (Xn _ hc)
theorem ZcQ:∀{k:Nat} {L:List Nat},(∀v,v<k→v∈L)→L.length=k→L.Nodup:=fun {k}=>by
 induction k with
 |zero=>intro L _ hl;rw [XO hl];exact XN
 | succ k ih=>
   intro L hL hl;have hm:=hL k oM;obtain ⟨A,B,rfl⟩:=List.append_of_mem hm;have h1:(A++B).Nodup:=ih (fun v hv=>by
    have:=hL v oM;rcases Xh.1 this with h|h
    · exact XZ _ h
    · rcases Xq.1 h with h|h
      · omega
      · exact Ve _ h) (by simp only [Xb,Xk] at hl ⊢;omega)
   have h2:k∉A++B:=fun h3=>by
    have h4:∀v,v<k+1→v∈A++B:=fun v hv=>by
     by_cases e:v=k
     · rw [e];exact h3
     · have:=hL v hv;rcases Xh.1 this with h|h
       · exact XZ _ h
       · rcases Xq.1 h with h|h
         · exact UU h e
         · exact Ve _ h
    have h5:=DT (n:=k+1) (L:=List.range (k+1)) List.nodup_range fun s hs=>Vi.1 hs;have key:∀(M:List Nat) (n:Nat),M.Nodup→(∀v,v<n→v∈M)→n≤M.length:=fun M n _ hv=>by
     induction n generalizing M with
     |zero=>exact Xf _
     | succ n ih2=>
       have h6:=ih2 (M.erase n) ((by assumption:M.Nodup).erase _) fun v hv'=>(UG oM).2 (hv v oM);rw [UH (hv n oM)] at h6;have:=UI (hv n oM);omega
    have:=key _ _ h1 h4;simp only [Xb,Xk] at hl this;omega
   have hp:(A++k::B).Perm (k::(A++B)):=List.perm_middle;rw [hp.nodup_iff,Vc];exact ⟨h2,h1⟩
theorem EN {α β:Type} {f:α→β}:∀{l:List α},(l.map f).Nodup→∀x∈l,∀y∈l,f x=f y→x=y
 |[],_,x,hx,_,_,_=>by cases hx
 | z ::l,h,x,hx,y,hy,e=>by
   rw [Xp,Vc] at h;rcases Xq.1 hx with h1|h1
   · rcases Xq.1 hy with h2|h2
     · rw [h1,h2]
     · exact UU (Xg.2 ⟨y,h2,by rw [←e,h1]⟩) h.1
   · rcases Xq.1 hy with h2|h2
     · exact UU (Xg.2 ⟨x,h1,by rw [e,h2]⟩) h.1
     · exact EN h.2 x h1 y h2 e
theorem Zfc {c:Nat→Nat} {k:Nat} (hk:COk t.rows.length c k) (he:Pb t.rows c=k) {x y:Nat} (hx:x<t.rows.length) (hy:y<t.rows.length) (hxy:c x=c y):YO t.rows c x=YO t.rows c y:=by
 have h1:∀v,v<k→v∈(Y1 (YO t.rows c) t.rows.length).map fun l=>l.headD 0:=fun v hv=>by
  obtain ⟨s,hs,rfl⟩:=hk.hit v hv;exact Xg.2 ⟨YO t.rows c s,JM.2 ⟨s,hs,rfl⟩,rfl⟩
 have h2:=ZcQ h1 (by rw [Xd];exact he)
 exact EN h2 _ (JM.2 ⟨x,hx,rfl⟩) _ (JM.2 ⟨y,hy,rfl⟩) hxy
theorem Za3 (h:TOk t):∀{f:Nat} {c:Nat→Nat} {k:Nat},COk t.rows.length c k→CL t c→t.rows.length<f+k→CS t (Sq t.rows f c k)
 |0,c,k,hk,_,hf=>by have:=hk.le;omega
 | f +1,c,k,hk,hc,hf=>by
   rw [Sq];split
   · rename_i he;refine ⟨hc.next h,fun x y s hx hy hs hxy=>?_⟩;have h1:=((ζk h hx hy).1 ((Rv hx hy).1 hxy)).2 s hs;exact (Rv (Kt h) (Kt h)).2 (Zfc hk he (Kt h) (Kt h) h1)
   · rename_i he;have:=hk.grow;exact Za3 h hk.next (hc.next h) oM
theorem ZjW (h:TOk t):CL t (Rq t.fin):=by
 refine ⟨fun x y hx hy hl=>?_,fun x y hx hy he=>?_⟩
 · have:=hl [] fun c hc=>by cases hc
   have h1:(t.fin[x]?).getD false=(t.fin[y]?).getD false:=this;unfold Rq;rw [h1]
 · have hf:=h.fl;obtain ⟨b,hb⟩:=Zp (show x<t.fin.length by omega);obtain ⟨b',hb'⟩:=Zp (show y<t.fin.length by omega);unfold Rq at he;rw [hb,hb'] at he ⊢
   cases b<;>cases b'<;>simp_all
theorem ZcR (h:TOk t):CS t (WM t):=by
 unfold WM
 exact Za3 h (COk.start t.fin _) (ZjW h) oM
theorem ζl (h:TOk t) {x y:Nat} (hx:x<t.rows.length) (hy:y<t.rows.length):WM t x=WM t y↔SameL t x t y:=
 ⟨fun e=>(ZcR h).lang h hx hy e,fun e=>(ZcR h).co x y hx hy e⟩
end
section
variable {t t':Tab}
theorem EO (h:TOk t) (h':TOk t') (hm:t.m=t'.m) (hL:SameL t 0 t' 0) (hle:t.rows.length≤t'.rows.length):WS t=WS t':=by
 obtain ⟨⟨o,rows⟩,h1⟩:=ZjS h
 have hF:=SG h h1
 have h2:(minW t).upto 0 t'.rows.length=some (o,rows):=by
  have hc:o.length≤t.rows.length:=hF.ok.cap;have h3:=Srch.upto_stop h1 hc (t'.rows.length-t.rows.length);have e:(minW t).cap+(t'.rows.length-t.rows.length)=t'.rows.length:=by show t.rows.length+_=_;omega
  rw [e] at h3;exact h3
 obtain ⟨o',h3,h4⟩:=Srch.sim (W:=minW t) (W':=minW t') (R:=fun x y=>x<t.rows.length∧y<t'.rows.length∧SameL t x t' y) hm hle
  (fun x x' y y' hx hx'=>by
    show WM t x=WM t x'↔WM t' y=WM t' y';rw [ζl h hx.1 hx'.1,ζl h' hx.2.1 hx'.2.1];constructor
    · exact fun e=>((hx.2.2.symm hm).trans hm.symm e).trans hm.symm hx'.2.2
    · exact fun e=>(hx.2.2.trans hm e).trans hm (hx'.2.2.symm hm))
  (fun i x y s hx hs=>⟨Kt h,Kt h',hx.2.2.step hs⟩) ⟨h.pos,h'.pos,hL⟩ h2
 have h5:(minW t').all 0=some (o',rows):=h3
 unfold WS
 rw [h1,h5]
 show (if 20000<(ZV rows).length then none else some (Wv t (o,rows)))=(if 20000<(ZV rows).length then none else some (Wv t' (o',rows)))
 have e:Wv t (o,rows)=Wv t' (o',rows):=by
  unfold Wv;dsimp only;rw [h4.1,hm];congr 1;refine TF _ fun i hi=>?_;obtain ⟨x,hx⟩:=Zp (show i<o.length by rw [h4.1];exact hi);obtain ⟨y,hy⟩:=Zp hi;have h6:=(h4.2 i x y hx hy).2.2 [] fun c hc=>by cases hc
  unfold Jg;rw [hx,hy];exact h6
 rw [e]
theorem ZcS (h:TOk t) (h':TOk t') (hm:t.m=t'.m) (hL:SameL t 0 t' 0):WS t=WS t':=by
 rcases Nat.le_total t.rows.length t'.rows.length with h1|h1
 · exact EO h h' hm hL h1
 · exact (EO h' h hm.symm (hL.symm hm) h1).symm
end
def ZmZ (a:Aut) (w:List Int):List Int:=w.foldl (fun S c=>YD a c S) (Y0 a a.start)
def wI (w:List Nat):List Int:=w.map fun c:Nat=>(c:Int)
def Ob (a:Aut) (S:List Int) (w:List Int):List Int:=w.foldl (fun S c=>YD a c S) S
def LX (a:Aut) (w:List Int):Bool:=KF a (ZmZ a w)
theorem D6 (a:Aut) (w:List Int):LX a w=KF a (Ob a (Y0 a a.start) w):=rfl
theorem Za4 {a:Aut} (h:AOk a) {o:List (List Int)} {rows:List (List Nat)} (hu:(Jw a).all (Y0 a a.start)=some (o,rows)):∀(w:List Nat) (i:Nat) (S:List Int),WU a.syms.toNat w→o[i]? =some S→D5 ⟨a.syms.toNat,rows,o.map (KF a)⟩ i w=KF a (Ob a S (wI w)):=by
 obtain ⟨h2,h3,h4⟩:=ζc h hu
 have hcap:o.length≤2000:=h2.cap
 have h5:=h4 hcap
 intro w
 induction w with
 | nil=>
   intro i S _ hi;show ((o.map (KF a))[i]?).getD false=KF a S;rw [Xm,hi];rfl
 | cons c w ih=>
   intro i S hw hi;have hc:c<a.syms.toNat:=hw c (Xi ..);obtain ⟨r,hr⟩:=Zp (show i<rows.length by have:=Zf hi;omega);have hl:r.length=a.syms.toNat:=h2.len r (Xc hr);obtain ⟨n,hn⟩:=Zp (show c<r.length by omega);obtain ⟨h6,h7⟩:=h2.to i S r c n hi hr hn;obtain ⟨T,hT,hT2⟩:=Rj (f:=(Jw a).key) (l:=o) (k:=(Jw a).key ((Jw a).step i S c)) (by rw [h7];exact h6);rw [h7] at hT;have hT3:T=YD a (c:Nat) S:=hT2;rw [Ge,Pd hr hn,ih n T (fun c hc=>hw c (Xn _ hc)) hT,hT3];rfl
theorem Za5 {a:Aut} (h:AOk a) {t:Tab} (ht:J5 a=some t) {w:List Nat} (hw:WU a.syms.toNat w):D5 t 0 w=LX a (wI w):=by
 unfold J5 at ht
 obtain ⟨⟨o,rows⟩,h1,rfl⟩:=XA.1 ht
 obtain ⟨h2,_,_⟩:=ζc h h1
 exact Za4 h h1 w 0 _ hw h2.zero
theorem Zm0 {a:Aut} {t:Tab} (ht:J5 a=some t):t.m=a.syms.toNat:=by
 unfold J5 at ht
 obtain ⟨q,_,rfl⟩:=XA.1 ht
 rfl
section
variable {t:Tab} {o:List Nat} {rows:List (List Nat)}
theorem D7 (h:Fin t o rows) {i s:Nat} (hi:i<o.length) (hs:s<t.m):∃(r:List Nat) (n x y:Nat),rows[i]? =some r∧r[s]? =some n∧o[i]? =some x∧o[n]? =some y∧WM t y=WM t (toT t x s):=by
 obtain ⟨r,hr⟩:=Zp (show i<rows.length by rw [h.len];exact hi)
 have hrl:r.length=t.m:=h.ok.len r (Xc hr)
 obtain ⟨n,hn⟩:=Zp (show s<r.length by omega)
 obtain ⟨x,hx⟩:=Zp hi
 obtain ⟨h6,h7⟩:=h.ok.to i x r s n hx hr hn
 obtain ⟨y,hy,hy2⟩:=Rj (f:=(minW t).key) (l:=o) (k:=(minW t).key ((minW t).step i x s)) (by rw [h7];exact h6)
 rw [h7] at hy
 exact ⟨r,n,x,y,hr,hn,hx,hy,hy2⟩
theorem Za6 {i s n:Nat} {r:List Nat} (h1:rows[i]? =some r) (h2:r[s]? =some n):(⟨(i:Nat),(n:Nat),(s:Nat)⟩:Mv)∈ZV rows:=by
 unfold ZV
 refine XT.2 ⟨(r,i),UJ.2 h1,?_⟩
 unfold Yk
 exact Xg.2 ⟨(n,s),UJ.2 h2,rfl⟩
theorem EP (hok:AOk (Wv t (o,rows))) {i:Nat} (hi:i<o.length) {l:List Int} (hl:∀x,x∈l↔x=(i:Int)):Y0 (Wv t (o,rows)) l=[(i:Int)]:=by
 have hin:∀s∈l,0≤s∧s<(Wv t (o,rows)).n:=fun s hs=>by
  rw [(hl s).1 hs];exact ⟨oM,by show ((i:Nat):Int)<(o.length:Nat);omega⟩
 refine C6 (Jr hok.mi hin) (VI ..) fun x=>?_
 rw [Gb hok.mi hin,Xl]
 constructor
 · intro h;induction h with
   |base h=>exact (hl _).1 h
   | step _ hm hs hd ih=>
     obtain ⟨_,s,_,_,_,_,rfl⟩:=SH hm;have h1:((s:Nat):Int)= -1:=hd;omega
 · intro h;subst h;exact .base ((hl _).2 rfl)
theorem Pi (h:Fin t o rows) (hok:AOk (Wv t (o,rows))) {i s n:Nat} {r:List Nat} (hr:rows[i]? =some r) (hn:r[s]? =some n) (hno:n<o.length):YD (Wv t (o,rows)) (s:Nat) [(i:Int)]=[(n:Int)]:=by
 have hi:i<o.length:=by rw [←h.len];exact Zf hr
 refine EP hok hno fun x=>?_
 have hin:∀s∈[(i:Int)],0≤s∧s<(Wv t (o,rows)).n:=fun s hs=>by
  rw [Xl.1 hs];exact ⟨oM,by show ((i:Nat):Int)<(o.length:Nat);omega⟩
 rw [Js hin]
 constructor
 · rintro ⟨m,hm,h1,h2,rfl⟩;obtain ⟨i',s',n',r',h3,h4,rfl⟩:=SH hm;have h1:((i':Nat):Int)=i:=Xl.1 h1;have h2:((s':Nat):Int)=s:=h2;have e1:i'=i:=oM;have e2:s'=s:=oM;subst e1 e2;rw [hr] at h3;cases h3;rw [hn] at h4;cases h4;rfl
 · rintro rfl;exact ⟨_,Za6 hr hn,Xl.2 rfl,rfl,rfl⟩
theorem Zhy (h:Fin t o rows) {i x:Nat} (hx:o[i]? =some x):KF (Wv t (o,rows)) [(i:Int)]=(t.fin[x]?).getD false:=by
 show (J3 (Wv t (o,rows)) (i:Int)||false)=_
 rw [Vz,Zl4 (Zf hx)]
 unfold Jg;rw [hx];rfl
theorem ZjX (ht:TOk t) (h:Fin t o rows) (hok:AOk (Wv t (o,rows))):∀(w:List Nat) (i x:Nat),WU t.m w→o[i]? =some x→KF (Wv t (o,rows)) (Ob (Wv t (o,rows)) [(i:Int)] (wI w))=D5 t x w:=by
 intro w
 induction w with
 |nil=>intro i x _ hx;exact Zhy h hx
 | cons c w ih=>
   intro i x hw hx;obtain ⟨r,n,x',y,hr,hn,hx',hy,hc⟩:=D7 h (Zf hx) (hw c (Xi ..));rw [hx] at hx';cases hx';show KF _ (Ob _ (YD _ (c:Nat) [(i:Int)]) (wI w))=D5 t (toT t x c) w;have hw':WU t.m w:=fun c hc=>hw c (Xn _ hc);rw [Pi h hok hr hn (Zf hy),ih n y hw' hy];exact (ζl ht (h.ok.p y (Xc hy)) (Kt ht)).1 hc w hw'
theorem SJ (h:Fin t o rows) (hok:AOk (Wv t (o,rows))):Y0 (Wv t (o,rows)) (Wv t (o,rows)).start=[((0:Nat):Int)]:=EP hok h.pos fun x=>Xl
theorem EQ (ht:TOk t) (h:Fin t o rows) (hok:AOk (Wv t (o,rows))) {w:List Nat} (hw:WU t.m w):LX (Wv t (o,rows)) (wI w)=D5 t 0 w:=by
 rw [D6,SJ h hok]
 exact ZjX ht h hok w 0 0 hw h.ok.zero
theorem Zfd (ht:TOk t) (hu:(minW t).all 0=some (o,rows)) (hm:(ZV rows).length≤20000):WH (Wv t (o,rows))= .ok (Wv t (o,rows)):=by
 have h:=SG ht hu
 have hok:=Rt ht h hm
 have hn1:=ht.n1
 have hcap:o.length≤t.rows.length:=h.ok.cap
 have h2:(minW t).upto 0 2000=some (o,rows):=by
  have h3:=Srch.upto_stop hu hcap (2000-t.rows.length);have e:(minW t).cap+(2000-t.rows.length)=2000:=by show t.rows.length+_=_;omega
  rw [e] at h3;exact h3
 have hsy:(Wv t (o,rows)).syms.toNat=t.m:=XS _
 obtain ⟨o',h3,h4⟩:=Srch.sim (W:=minW t) (W':=Jw (Wv t (o,rows))) (R:=fun x S=>x<t.rows.length∧∃(i z:Nat),S=[(i:Int)]∧o[i]? =some z∧WM t z=WM t x) hsy.symm hn1
  (fun x x' S S' ⟨hx,i,z,e,hz,hc⟩ ⟨hx',i',z',e',hz',hc'⟩=>by
    show WM t x=WM t x'↔S=S';rw [e,e',←hc,←hc'];constructor
    · intro e2;have h5:posK (minW t).key o (WM t z)=i:=Gm h.ok.nd hz;have h6:posK (minW t).key o (WM t z')=i':=Gm h.ok.nd hz';rw [←h5,←h6,e2]
    · intro e2;(have:i=i':=by have:=(List.cons.inj e2).1;omega);subst this;rw [hz] at hz';cases hz';rfl)
  (fun i x S s ⟨hx,j,z,e,hz,hc⟩ hs=>by
    have hs:s<t.m:=hs;obtain ⟨r,n,z',y,hr,hn,hz',hy,hc2⟩:=D7 h (Zf hz) hs;rw [hz] at hz';cases hz';refine ⟨Kt ht,n,y,?_,hy,?_⟩
    · show YD _ (s:Nat) S=_;rw [e,Pi h hok hr hn (Zf hy)]
    · rw [hc2];exact (ZcR ht).st z x s (h.ok.p z (Xc hz)) hx hs hc)
  (show (0:Nat)<t.rows.length∧_ from ⟨ht.pos,0,0,SJ h hok,h.ok.zero,rfl⟩) h2
 have h5:J5 (Wv t (o,rows))=some ⟨t.m,rows,o'.map (KF (Wv t (o,rows)))⟩:=by
  unfold J5;rw [show (Jw (Wv t (o,rows))).all (Y0 (Wv t (o,rows)) (Wv t (o,rows)).start)=some (o',rows) from h3,hsy];rfl
 have h6:=ζd hok h5
 have h7:WS ⟨t.m,rows,o'.map (KF (Wv t (o,rows)))⟩=WS t:=ZcS h6 ht rfl fun w hw=>by
  have hw:WU t.m w:=hw;rw [Za5 hok h5 (by rw [hsy];exact hw),EQ ht h hok hw]
 unfold WH
 rw [h5]
 dsimp only
 rw [h7]
 unfold WS
 rw [hu]
 show lim (if 20000<(ZV rows).length then none else some (Wv t (o,rows)))=_
 rw [US oM];rfl
end
theorem ER {a A:Aut} (h:AOk a) (hr:WH a= .ok A) {w:List Nat} (hw:WU a.syms.toNat w):LX A (wI w)=LX a (wI w):=by
 obtain ⟨t,o,rows,hs,hT,_,hF,rfl,hm⟩:=ζh h hr
 rw [EQ hT hF (Rt hT hF hm) (by rw [Zm0 hs];exact hw),Za5 h hs hw]
def IsMin (A:Aut):Prop:=∃t o rows,TOk t∧(minW t).all 0=some (o,rows)∧A=Wv t (o,rows)∧(ZV rows).length≤20000
theorem Za7 {a A:Aut} (h:AOk a) (hr:WH a= .ok A):IsMin A:=by
 obtain ⟨t,o,rows,hs,hT,hu,hF,e,hm⟩:=ζh h hr
 exact ⟨t,o,rows,hT,hu,e,hm⟩
section
variable {A B:Aut}
theorem IsMin.aok (h:IsMin A):AOk A:=by
 obtain ⟨t,o,rows,hT,hu,rfl,hm⟩:=h
 exact Rt hT (SG hT hu) hm
theorem IsMin.det (h:IsMin A):DetA A:=by
 obtain ⟨t,o,rows,hT,hu,rfl,hm⟩:=h
 exact Zlp hT (SG hT hu) hm
theorem IsMin.red (h:IsMin A):WH A= .ok A:=by
 obtain ⟨t,o,rows,hT,hu,rfl,hm⟩:=h
 exact Zfd hT hu hm
theorem IsMin.start (h:IsMin A):Y0 A A.start=[((0:Nat):Int)]:=by
 have hok:=h.aok
 obtain ⟨t,o,rows,hT,hu,rfl,hm⟩:=h
 exact SJ (SG hT hu) hok
theorem IsMin.next (h:IsMin A) {i s:Nat} (hi:i<A.n.toNat) (hs:s<A.syms.toNat):YD A (s:Nat) [(i:Int)]=[((stepA A i s:Nat):Int)]∧stepA A i s<A.n.toNat:=by
 have hok:=h.aok
 have hd:=h.det
 refine ⟨?_,hd.sl i s hi hs⟩
 obtain ⟨t,o,rows,hT,hu,rfl,hm⟩:=h
 have hF:=SG hT hu
 have e1:(Wv t (o,rows)).n.toNat=o.length:=XS _
 have e2:(Wv t (o,rows)).syms.toNat=t.m:=XS _
 rw [e1] at hi
 rw [e2] at hs
 obtain ⟨r,n,x,y,hr,hn,hx,hy,_⟩:=D7 hF hi hs
 have h1:=Pg (k:=0) hF.ok.len hr hn
 rw [Xv] at h1
 have h2:stepA (Wv t (o,rows)) i s=n:=by
  rw [D3 (x:=⟨(i:Nat),(n:Nat),(s:Nat)⟩) (by rw [e2];exact h1)];exact XS _
 rw [h2]
 exact Pi hF hok hr hn (Zf hy)
theorem ZjY (hA:IsMin A) (hB:IsMin B) (hs:A.syms=B.syms) {op:Int} {o:List ((Nat×Nat)×(Int×Int))} {rows:List (List Nat)} (hu:prodQ A B=some (o,rows)):∀(w:List Nat) (i:Nat) (p:(Nat×Nat)×(Int×Int)),WU A.syms.toNat w→o[i]? =some p→D5 (Td A B op (o,rows)) i w=Ot op (KF A (Ob A [((p.1.1:Nat):Int)] (wI w))) (KF B (Ob B [((p.1.2:Nat):Int)] (wI w))):=by
 obtain ⟨h1,_,h3⟩:=Ru hA.det hB.det hs hu
 have hcap:o.length≤2000:=h1.cap
 have h5:=h3 hcap
 intro w
 induction w with
 | nil=>
   intro i p _ hi;show ((o.map (Wz A B op))[i]?).getD false=Ot op (J3 A _||false) (J3 B _||false);rw [Xm,hi,Vz,Vz];rfl
 | cons c w ih=>
   intro i p hw hi;have hc:c<A.syms.toNat:=hw c (Xi ..);have hp:=h1.p p (Xc hi);obtain ⟨r,hr⟩:=Zp (show i<rows.length by have:=Zf hi;omega);have hl:r.length=A.syms.toNat:=h1.len r (Xc hr);obtain ⟨n,hn⟩:=Zp (show c<r.length by omega);obtain ⟨h6,h7⟩:=h1.to i p r c n hi hr hn;obtain ⟨q,hq,hq2⟩:=Rj (f:=(Y7 A B).key) (l:=o) (k:=(Y7 A B).key ((Y7 A B).step i p c)) (by rw [h7];exact h6);rw [h7] at hq;have hq3:q.1=(stepA A p.1.1 c,stepA B p.1.2 c):=hq2;rw [Ge,Pd (t:=Td A B op (o,rows)) hr hn,ih n q (fun c hc=>hw c (Xn _ hc)) hq,hq3];dsimp only;rw [←(hA.next hp.1 hc).1,←(hB.next hp.2 (by rw [←hs];exact hc)).1];rfl
theorem Zfe (hA:IsMin A) (hB:IsMin B) (hs:A.syms=B.syms) {op:Int} {q:List ((Nat×Nat)×(Int×Int))×List (List Nat)} (hu:prodQ A B=some q) {w:List Nat} (hw:WU A.syms.toNat w):D5 (Td A B op q) 0 w=Ot op (LX A (wI w)) (LX B (wI w)):=by
 obtain ⟨h1,_,_⟩:=Ru hA.det hB.det hs hu
 rw [D6,D6,hA.start,hB.start]
 exact ZjY hA hB hs hu w 0 _ hw h1.zero
end
theorem ES {a A:Aut} (h:AOk a) (hr:WH a= .ok A):A.syms=a.syms:=(TH h hr).2
theorem Pj {a C:Aut} (h:GZ a= .ok C):IsMin C∧C.syms=a.syms∧∀w,WU a.syms.toNat w→LX C (wI w)=LX a (wI w):=by
 obtain ⟨h1,h2⟩:=ZjV h
 have ha:=GY h1
 exact ⟨Za7 ha h2,ES ha h2,fun w hw=>ER ha h2 hw⟩
inductive Pth (a:Aut):Int→List Int→Int→Prop
 |nil (s:Int):Pth a s [] s
 |eps {m:Mv} {w:List Int} {t:Int} (hm:m∈a.moves) (hs:m.sym= -1) (h:Pth a m.dst w t):Pth a m.src w t
 |sym {m:Mv} {w:List Int} {t:Int} (hm:m∈a.moves) (hs:¬m.sym= -1) (h:Pth a m.dst w t):Pth a m.src (m.sym::w) t
section
variable {a:Aut}
theorem Pth.app {s x t:Int} {u v:List Int} (h:Pth a s u x) (h':Pth a x v t):Pth a s (u++v) t:=by
 induction h with
 |nil s=>exact h'
 |eps hm hs _ ih=>exact .eps hm hs (ih h')
 |sym hm hs _ ih=>exact .sym hm hs (ih h')
theorem Pth.cons {s t c:Int} {w:List Int} (h:Pth a s (c::w) t):∃m∈a.moves,Pth a s [] m.src∧m.sym=c∧¬m.sym= -1∧Pth a m.dst w t:=by
 generalize e:c::w=v at h
 induction h with
 |nil s=>cases e
 | eps hm hs _ ih=>
   obtain ⟨m',h1,h2,h3⟩:=ih e;exact ⟨m',h1, .eps hm hs h2,h3⟩
 | sym hm hs h _=>
   cases e;exact ⟨_,hm, .nil _,rfl,hs,h⟩
theorem ζm {S:List Int} {t:Int}:Rch a S t↔∃s∈S,Pth a s [] t:=by
 constructor
 · intro h;induction h with
   |base h=>exact ⟨_,h, .nil _⟩
   | step _ hm hs hc ih=>
     obtain ⟨s,h1,h2⟩:=ih;have:=h2.app (hs▸Pth.eps hm hc (.nil _));exact ⟨s,h1,this⟩
 · rintro ⟨s,h1,h2⟩;have key:∀{x y:Int} {v:List Int},Pth a x v y→v=[]→Rch a S x→Rch a S y:=fun h=>by
    induction h with
    |nil s=>exact fun _ h=>h
    |eps hm hs _ ih=>exact fun e h=>ih e (.step h hm rfl hs)
    |sym hm hs _ ih=>exact fun e=>by cases e
   exact key h2 rfl (.base h1)
theorem Za8 (h:AOk a):∀{w:List Int} {S:List Int} {t:Int},(∀c∈w,¬c= -1)→InS a S→(t∈Ob a (Y0 a S) w↔∃s∈S,Pth a s w t)
 | [],S,t,_,hS=>by
   show t∈Y0 a S↔_;rw [Gb h.mi hS,ζm]
 | c ::w,S,t,hw,hS=>by
   have hc:=TB h.mi hS;show t∈Ob a (Y0 a (Kq a c (Y0 a S))) w↔_;rw [Za8 h (fun c hc=>hw c (Xn _ hc)) (Kr h.mi c _)];constructor
   · rintro ⟨x,h1,h2⟩;obtain ⟨m,hm,h3,h4,rfl⟩:=(Js hc).1 h1;obtain ⟨s,h5,h6⟩:=ζm.1 ((Gb h.mi hS _).1 h3);refine ⟨s,h5,?_⟩;have:=h6.app (Pth.sym hm (by rw [h4];exact hw c (Xi ..)) h2);rw [h4] at this;exact this
   · rintro ⟨s,h1,h2⟩;obtain ⟨m,hm,h3,h4,_,h5⟩:=h2.cons;exact ⟨m.dst,(Js hc).2 ⟨m,hm,(Gb h.mi hS _).2 (ζm.2 ⟨s,h1,h3⟩),h4,rfl⟩,h5⟩
def Lng (a:Aut) (w:List Int):Prop:=∃s∈a.start,∃f∈a.fin,Pth a s w f
theorem OT (h:AOk a) {w:List Int} (hw:∀c∈w,0≤c):LX a w=true↔Lng a w:=by
 unfold LX KF
 rw [VW]
 have key:∀t,t∈ZmZ a w↔∃s∈a.start,Pth a s w t:=fun t=>Za8 h (fun c hc=>by have:=hw c hc;omega) h.st
 constructor
 · rintro ⟨t,h1,h2⟩;obtain ⟨s,h3,h4⟩:=(key t).1 h1;unfold J3 at h2;obtain ⟨f,h5,h6⟩:=VW.1 h2;rw [UP] at h6;subst h6;exact ⟨s,h3,f,h5,h4⟩
 · rintro ⟨s,h3,f,h5,h4⟩;refine ⟨f,(key f).2 ⟨s,h3,h4⟩,?_⟩;unfold J3;exact VW.2 ⟨f,h5,sM⟩
theorem Pth.mono {b:Aut} (hs:∀m∈a.moves,m∈b.moves) {s t:Int} {w:List Int} (h:Pth a s w t):Pth b s w t:=by
 induction h with
 |nil s=>exact .nil s
 |eps hm h1 _ ih=>exact .eps (hs _ hm) h1 ih
 |sym hm h1 _ ih=>exact .sym (hs _ hm) h1 ih
theorem Zl5 {w:List Int}:Lng (mkA a) w↔Lng a w:=by
 have h1:∀m,m∈(mkA a).moves↔m∈a.moves:=fun m=>KM
 constructor
 · rintro ⟨s,hs,f,hf,h⟩;exact ⟨s,hs,f,hf,h.mono fun m hm=>(h1 m).1 hm⟩
 · rintro ⟨s,hs,f,hf,h⟩;exact ⟨s,hs,f,hf,h.mono fun m hm=>(h1 m).2 hm⟩
end
theorem Gv {X C:Aut} (hp:PreA X) (h:Jh X= .ok C):IsMin C∧C.syms=X.syms∧∀w,WU X.syms.toNat w→(LX C (wI w)=true↔Lng X (wI w)):=by
 unfold Jh DZ at h
 split at h
 · cases h
 · rename_i hb;have hok:=hp.aok hb;have h:WH (mkA X)= .ok C:=h;have hsy:C.syms=(mkA X).syms:=ES hok h;refine ⟨Za7 hok h,hsy,fun w hw=>?_⟩;rw [ER hok h (show WU (mkA X).syms.toNat w from hw),OT hok,Zl5];intro c hc;obtain ⟨n,_,rfl⟩:=Xg.1 hc;omega
def WI (n:Int) (l:List Int):List Int:=l.map (· +n)
def J7 (n:Int) (l:List Mv):List Mv:=l.map fun m=>⟨m.src+n,m.dst+n,m.sym⟩
def G0 (n f:Int) (l:List Int):List Mv:=l.map fun s=>⟨f,s+n,-1⟩
def TI (n:Int) (F l:List Int):List Mv:=F.flatMap fun f=>G0 n f l
def Jc (a b:Aut):Aut:=⟨a.n+b.n,a.syms,a.start++WI a.n b.start,a.fin++WI a.n b.fin,a.moves++J7 a.n b.moves⟩
def Kz (a b:Aut):Aut:=⟨a.n+b.n,a.syms,a.start,WI a.n b.fin,a.moves++J7 a.n b.moves++TI a.n a.fin b.start⟩
theorem Zff (n:Int) {l:List Int} {k:Nat} {x:Int} (h:l[k]? =some x):WI n (l.take (k+1))=WI n (l.take k)++[x+n]:=by unfold WI;rw [ZE h,Xr];rfl
theorem Zfg (n:Int) {l:List Mv} {k:Nat} {x:Mv} (h:l[k]? =some x):J7 n (l.take (k+1))=J7 n (l.take k)++[⟨x.src+n,x.dst+n,x.sym⟩]:=by unfold J7;rw [ZE h,Xr];rfl
theorem ET (n f:Int) {l:List Int} {k:Nat} {x:Int} (h:l[k]? =some x):G0 n f (l.take (k+1))=G0 n f (l.take k)++[⟨f,x+n,-1⟩]:=by unfold G0;rw [ZE h,Xr];rfl
theorem Zfh (n:Int) {F:List Int} {k:Nat} {f:Int} (l:List Int) (h:F[k]? =some f):TI n (F.take (k+1)) l=TI n (F.take k) l++G0 n f l:=by unfold TI;rw [ZE h,XR,V3]
theorem Gw (n:Int) (l:List Int):(WI n l).length=l.length:=Xd _
theorem Rw (n:Int) (l:List Mv):(J7 n l).length=l.length:=Xd _
theorem D8 (n:Int) (l:List Int):∀F:List Int,(TI n F l).length=F.length*l.length
 |[]=>by simp [TI]
 | f::F=>by
   have:=D8 n l F;unfold TI at this ⊢;rw [Xu,Xb,this,Xk,X5,Nat.add_comm];unfold G0;rw [Xd]
theorem D9 {n:Int} {l:List Int} (h:l.Nodup):(WI n l).Nodup:=Gd h fun x _ y _ e=>oM
theorem T5 {α:Type} {l m:List α} (h1:l.Nodup) (h2:m.Nodup) (h:∀x∈l,x∉m):(l++m).Nodup:=Vx.2 ⟨h1,h2,fun x hx y hy e=>h x hx (e▸hy)⟩
theorem Ka {n x:Int} {l:List Int}:x∈WI n l↔∃y∈l,y+n=x:=by unfold WI;rw [Xg]
theorem JP {n:Int} {x:Mv} {l:List Mv}:x∈J7 n l↔∃m∈l,(⟨m.src+n,m.dst+n,m.sym⟩:Mv)=x:=by unfold J7;rw [Xg]
theorem Lo {n:Int} {x:Mv} {F l:List Int}:x∈TI n F l↔∃f∈F,∃s∈l,(⟨f,s+n,-1⟩:Mv)=x:=by
 unfold TI G0
 simp only [XT,Xg]
section
variable {a b:Aut}
theorem EU (ha:VOk a) {l m:List Int} (hl:InS a l) (hm:InS b m) (h1:l.Nodup) (h2:m.Nodup):(l++WI a.n m).Nodup:=
 T5 h1 (D9 h2) fun x hx hx'=>by
  obtain ⟨y,hy,rfl⟩:=Ka.1 hx';have h3:=hl _ hx;have h4:=hm y hy;omega
theorem Zhz (ha:VOk a) (hb:VOk b) {l m:List Int} (hl:InS a l) (hm:InS b m):∀x∈l++WI a.n m,0≤x∧x<a.n+b.n:=fun x hx=>by
 have h1:=ha.n0
 have h2:=hb.n0
 rcases Xh.1 hx with hx|hx
 · have:=hl x hx;omega
 · obtain ⟨y,hy,rfl⟩:=Ka.1 hx;have:=hm y hy;omega
theorem ZdJ (ha:VOk a) (hb:VOk b) (hs:a.syms=b.syms):∀m∈a.moves++J7 a.n b.moves,0≤m.src∧m.src<a.n+b.n∧0≤m.dst∧m.dst<a.n+b.n∧-1≤m.sym∧m.sym<a.syms:=fun m hm=>by
 have h1:=ha.n0
 have h2:=hb.n0
 rcases Xh.1 hm with hm|hm
 · have:=ha.mv m hm;omega
 · obtain ⟨y,hy,rfl⟩:=JP.1 hm;have:=hb.mv y hy;dsimp only;omega
theorem D' (ha:VOk a) (hb:VOk b):(a.moves++J7 a.n b.moves).Nodup:=
 T5 (SI ha.ms) (Gd (SI hb.ms) fun x _ y _ e=>by
  have e:=Mv.mk.inj e
  cases x;cases y;simp only [Mv.mk.injEq] at e ⊢;omega) fun x hx hx'=>by
   obtain ⟨y,hy,rfl⟩:=JP.1 hx';have h3:=ha.mv _ hx;have h4:=hb.mv y hy;dsimp only at h3;omega
theorem Pk (ha:VOk a) (hb:VOk b) (hs:a.syms=b.syms):PreA (Jc a b):=by
 have h1:=ha.n0
 have h2:=hb.n0
 exact ⟨by show 0≤a.n+b.n;omega,ha.s0,ha.s1,Zhz ha hb ha.st hb.st,Zhz ha hb ha.fi hb.fi,EU ha ha.st hb.st (WB ha.ss) (WB hb.ss),EU ha ha.fi hb.fi (WB ha.fs) (WB hb.fs),ZdJ ha hb hs⟩
theorem EW (ha:VOk a) (hb:VOk b):(Kz a b).moves.Nodup:=by
 show (a.moves++J7 a.n b.moves++TI a.n a.fin b.start).Nodup
 refine T5 (D' ha hb) ?_ fun x hx hx'=>?_
 · have key:∀F:List Int,F.Nodup→(TI a.n F b.start).Nodup:=fun F=>by
    induction F with
    |nil=>exact fun _=>XN
    | cons f F ih=>
      intro h;rw [Vc] at h;show (G0 a.n f b.start++TI a.n F b.start).Nodup;refine T5 (Gd (WB hb.ss) fun x _ y _ e=>by have:=(Mv.mk.inj e).2.1;omega) (ih h.2) fun x hx hx'=>?_;obtain ⟨f',hf',s',_,rfl⟩:=Lo.1 hx';unfold G0 at hx;obtain ⟨s,_,e⟩:=Xg.1 hx;have:=(Mv.mk.inj e).1;subst this;exact h.1 hf'
   exact key _ (WB ha.fs)
 · obtain ⟨f,hf,s,hs,rfl⟩:=Lo.1 hx';have h3:=ha.fi f hf;have h4:=hb.st s hs;rcases Xh.1 hx with hx|hx
   · have h5:=ha.mv _ hx;dsimp only at h5;omega
   · obtain ⟨y,hy,e⟩:=JP.1 hx;have h5:=hb.mv y hy;have h6:=(Mv.mk.inj e).1;omega
theorem OU (ha:VOk a) (hb:VOk b) (hs:a.syms=b.syms):PreA (Kz a b):=by
 have h1:=ha.n0
 have h2:=hb.n0
 refine ⟨by show 0≤a.n+b.n;omega,ha.s0,ha.s1,fun x hx=>?_,fun x hx=>?_,WB ha.ss,D9 (WB hb.fs),fun m hm=>?_⟩
 · have:=ha.st x hx;show 0≤x∧x<a.n+b.n;omega
 · obtain ⟨y,hy,rfl⟩:=Ka.1 hx;have:=hb.fi y hy;show 0≤y+a.n∧y+a.n<a.n+b.n;omega
 · have hm':m∈a.moves++J7 a.n b.moves++TI a.n a.fin b.start:=hm;rcases Xh.1 hm' with hm|hm
   · exact ZdJ ha hb hs m hm
   · obtain ⟨f,hf,s,hs',rfl⟩:=Lo.1 hm;have h3:=ha.fi f hf;have h4:=hb.st s hs';have h5:=ha.s0;show 0≤f∧f<a.n+b.n∧0≤s+a.n∧s+a.n<a.n+b.n∧-1≤(-1:Int)∧(-1:Int)<a.syms;omega
end
def LY (a b:Aut):Except Int Aut:=if ¬WW a b=0 then .error (WW a b) else Jh (Jc a b)
def TJ (a b:Aut):Except Int Aut:=if ¬WW a b=0 then .error (WW a b) else Jh (Kz a b)
theorem Ha:ElT prog 170 5 1 1 (.int .u8 0):=⟨underlying170,by kernel_rfl,rfl,dC⟩
theorem Zfi {l:List Int} {k:Nat} {x:Int} (h:l[k]? =some x):JU (l.take (k+1))=JU (l.take k)++Lib.itoa x++[32]:=by
 unfold JU;rw [ZE h,XR];simp
theorem ZdK:∀(k u:Nat),u<10^(k+1)→Lib.nDigits u≤k+1
 |0,u,h=>by rw [Lib.nDigits_small (by simpa using h)];omega
 | k +1,u,h=>by
   by_cases h1:u<10
   · rw [Lib.nDigits_small h1];omega
   · rw [Lib.nDigits_big h1];have:=ZdK k (u / 10) (by rw [Nat.pow_succ] at h;omega);omega
theorem Za9 {x:Int} (h0:0≤x) (h1:x≤1000000):(Lib.itoa x).length≤21:=by
 unfold Lib.itoa
 rw [US oM,Lib.decDigits_length]
 have:=ZdK 6 x.toNat oM
 omega
theorem Zba:∀{l:List Int},(∀x∈l,0≤x∧x≤1000000)→(JU l).length≤l.length*22
 |[],_=>Xj _
 | x::l,h=>by
   have h1:=Zba fun y hy=>h y (Xn _ hy);have hx:=h x (Xi ..);have h2:=Za9 hx.1 hx.2;have:JU (x::l)=Lib.itoa x++[32]++JU l:=rfl;rw [this,Xb,Xb];simp only [Xk,XC];omega
theorem ZhA (e:Nat) {l:List Int} {k:Nat} {x:Int} (h:l[k]? =some x):PV.own e 1 ((JU (l.take k)).length+(Lib.itoa x).length+1) ((JU (l.take k)++Lib.itoa x).map Sm++[PV.val (.int .u8 32)])= .own e 1 (JU (l.take (k+1))).length ((JU (l.take (k+1))).map Sm):=by
 rw [Zfi h]
 simp only [Xr,Xb,Xk,XC,Xv,Xp,Vg]
 rfl
theorem ZjZ:prog.globalNamed "internal/strconv.uint64pow10"=Zge:=by kernel_rfl
theorem Zfj:Zdx prog 260 5:=fun B n i h0 h1 sv xs w hown hBw hlim htab=>Tryz.strconv_AppendInt_10 B n i h0 h1 sv xs w hown hBw hlim htab
theorem Hb (l:List Int) (hl:l.length≤1000000) (h0:∀x∈l,0≤x∧x≤1000000):AF prog 231 [pInts l] (· = .val (.string (Lm l))):=by
 refine AFd.of_bodyS 20 func231 rfl ntmps231 (Xa rfl) ?_
 intro w0 M0 vs hl hv hS
 obtain ⟨v0,rfl⟩:=WL hl
 clear hl hv
 have hs0:=hS 0 v0 _ rfl rfl
 clear hS
 refine Ze ?_
 (refine xL 2 Za ?_<;>refine Zg ?_)
 (refine xL 3 Za ?_<;>refine Zc ?_)
 refine Zx (KB 200 5 1 rfl) fun _=>?_
 (refine Zt ?_<;>refine xL 6 Zb (xL 7 (ZR Zu) (xL 8 Zb ?_))<;>refine Zc ?_)
 refine ZD (ι:={q:Nat×Value//q.1≤l.length∧q.2.oneCell'=true}) (fun k=>⟨[(6,_,_),(7,_,_),(3,k.1.2, .val k.1.2),(8, .int .i64 k.1.1,pInt k.1.1)],[(200,k.1.2, .own 5 1 (JU (l.take k.1.1)).length ((JU (l.take k.1.1)).map Sm))]⟩) (fun k=>l.length-k.1.1) ⟨(0, .slice none 0 0),Xf _,rfl⟩ (fun a w H=>H.weaken ⟨rfl,rfl,rfl,rfl,trivial⟩ ⟨rfl,trivial⟩) ?_
 rintro ⟨⟨k,r⟩,hk,hr⟩
 dsimp only
 dsimp only at hk hr
 have hkl:=Zba (l:=l.take k) (fun x hx=>h0 x (List.mem_of_mem_take hx))
 rw [Xx] at hkl
 refine Ze ?_
 (refine xL 9 ZQ ?_<;>refine Zc ?_)
 refine cX ?_ ?_<;>intro hb9
 · first|exact bN hb9|(
 obtain ⟨x,hx⟩:=Zp (show k<l.length by omega);have e1:=Ym (f:=pInt) hx;have hx0:=h0 x (Xc hx);have hil:=Za9 hx0.1 hx0.2;refine Ze ?_;(refine xL 10 (ZF Zu) ?_<;>(refine yL 11 (Yo Zo) fun v11 h=>?_;cases h)<;>refine xL 5 Za ?_<;>refine Zg ?_)
 (refine xL 12 Zb (xL 13 Zb ?_)<;>refine ZgJ (i:=x) (bs:=JU (l.take k)) (n:=(JU (l.take k)).length) 200 14 [6,7,8] Zfj (call260) (fun _ h=>h) (fun h=>h) ZjZ rfl ⟨hs0, .val _, .val _,trivial⟩ oM oM oM fun h14 ho14=>?_<;>refine ZJ (kk:=1) 15 Ha fun h15 ho15=>?_<;>(refine ZU 14 15 16 Ha fun h16 ho16=>?_;refine Zr (Zy (l:=16) 200 rfl rfl) fun _=>?_;refine Zr (ZP (l:=200) rfl (ZhA _ hx)) fun _=>?_)<;>refine xL 3 Za ?_<;>refine Zg ?_)
 (refine xL 17 ZH (xL 8 Zb ?_)<;>refine Zc ?_)
 refine Zn (
  ⟨(k+1,h16),Zf hx,ho16⟩
  ) (by dsimp only;omega) ⟨rfl,rfl,rfl,rfl,trivial⟩ ⟨rfl,trivial⟩)
 · first|exact bN hb9|(
 refine Ze ?_;(refine xL 18 Zb (xL 19 (ZlS 200 underlying170 underlying5 underlying9) (xL 2 Za ?_))<;>refine Zc ?_)
 refine Zv (results231) rfl ?_;rw [Xo oM];rfl)
theorem Wn:AggT prog 147 3=true:=by kernel_rfl
theorem WF:FldT prog 147 1 1=true:=by kernel_rfl
theorem W5:FldT prog 147 2 2=true:=by kernel_rfl
theorem Gx:MpT prog 251 9 3 .string (.int .i64 0):=⟨underlying251,underlying9, .inl rfl,by show ZeroT _ _ _;unfold ZeroT;kernel_rfl⟩
theorem Kv:NoAgg prog 117=true:=by kernel_rfl
theorem Hc:Ke prog 147=some ((.agg #[(.int .i64 0),(.slice none 0 0),(.slice none 0 0)]),([0,1,2]:List Nat).map fun o=>(o,1)):=by kernel_rfl
theorem Hd:(prog.info? 117).map (·.size)=some 1:=by kernel_rfl
theorem He:(prog.info? 139).map (·.size)=some 1:=by kernel_rfl
theorem Gy:ZeroT prog 147 (.agg #[(.int .i64 0),(.slice none 0 0),(.slice none 0 0)]):=by unfold ZeroT;kernel_rfl
def Lp (r:List Nat):PV:=pInts (toI r)
def Te (r:List Nat) (j:Nat):Int:=((r[j]?).getD 0:Nat)
theorem EX (m:Nat):vec m (fun j=>pInt (Te [] j))=List.replicate m (PV.val (.int .i64 0)):=by rw [EI];rfl
theorem Pl {m:Nat} {r:List Nat} (n:Nat) (h:r.length<m):(vec m fun j=>pInt (Te r j)).set (r.length*1) (pInt (n:Nat))=vec m fun j=>pInt (Te (r++[n]) j):=by
 rw [Xw,ZdE]
 refine Lh fun i hi=>?_
 unfold Te
 by_cases e:i=r.length
 · subst e;rw [UT rfl];simp
 · rw [US e,VU];split
   · rfl
   · rw [XL oM,XL (by simp;omega)]
theorem ZcT (r:List Nat):(vec r.length fun j=>pInt (Te r j))=(toI r).map pInt:=by
 symm
 refine C9 (by simp [toI]) fun i x hx=>?_
 unfold toI at hx
 rw [XI,Xm,XA] at hx
 obtain ⟨y,hy,rfl⟩:=hx
 unfold Te;rw [hy];rfl
theorem EY (e m:Nat) (r:List Nat) (h:r.length=m):share (.own e 1 m (vec m fun j=>pInt (Te r j)))=Lp r:=by
 subst h
 rw [ZcT,ZX _ _ _ (by simp [toI])];rfl
theorem EZ (e:Nat) (L:List (List Nat)) (x:List Nat):PV.own e 1 (L.length+1) (L.map Lp++[Lp x])= .own e 1 (L++[x]).length ((L++[x]).map Lp):=sM
theorem Hf (e:Nat) (L:List Bool) (x:Bool):PV.own e 1 (L.length+1) (L.map ZM++[ZM x])= .own e 1 (L++[x]).length ((L++[x]).map ZM):=sM
theorem Oc (e n:Nat) (l:List (List Nat)) (hn:n=l.length):share (.own e 1 n (l.map Lp))= .sl l.length (l.map Lp):=by
 subst hn
 rw [share,Yb,XI]
 congr 1
theorem Rx (e n:Nat) (l:List Bool) (hn:n=l.length):share (.own e 1 n (l.map ZM))= .sl l.length (l.map ZM):=by
 subst hn
 rw [share,Yb,XI];rfl
def Zbb (t:Tab):PV:= .agg [pInt (t.m:Nat), .sl t.rows.length (t.rows.map Lp), .sl t.fin.length (t.fin.map ZM)]
def Znj (a:Aut) (p:PV):Prop:=(∃t,J5 a=some t∧p= .tup [Zbb t,ZM true])∨(J5 a=none∧∃u1 u2 u3:Value,u1.oneCell'=true∧u2.oneCell'=true∧u3.oneCell'=true∧p= .tup [.agg [.val u1, .val u2, .val u3],ZM false])
section
variable {α:Type}
def TK (f:α→ByteArray) (o:List α) (x:α):Nat:=if posK f o (f x)<o.length then posK f o (f x) else 0
theorem Zbc (f:α→ByteArray) (o:List α) (x:α):(WZ (skv (YJ f 0 o)) (.string (f x))).getD (.int .i64 0)= .int .i64 (TK f o x:Nat)∧(WZ (skv (YJ f 0 o)) (.string (f x))).isSome=decide (posK f o (f x)<o.length):=by
 rw [Zgo,Tz]
 unfold TK
 by_cases h:posK f o (f x)<o.length
 · rw [UT h,UT h,UQ h,Xv];exact ⟨rfl,rfl⟩
 · rw [US h,US h,UR h];exact ⟨rfl,rfl⟩
end
section
variable {α:Type} {P:Program} {sL hP:List (Nat×Ent)} {o:Oper}
theorem ZhB {t ks e:Nat} {kd:TypeDesc} {z:Value} {x y:Operand} {m:Value} {f:α→ByteArray} {L:List α} {a:α} {p q:PV} (l:Nat) (hT:MpT P t ks e kd z) (hz:z= .int .i64 0) (hkd:kd= .string) (ho:o.op= .lookup t x y true:=by exact rfl) (hx:ev sL x=some (m,p):=by exact rfl) (hl:lk hP l=some (m, .omap (skv (YJ f 0 L))):=by exact rfl) (hy:ev sL y=some (.string (f a),q):=by exact rfl):
 YE P (⟨sL,hP⟩:St) o (· = .tuple [.int .i64 (TK f L a:Nat), .bool (decide (posK f L (f a)<L.length))].toArray) (.tup [.val (.int .i64 (TK f L a:Nat)), .val (.bool (decide (posK f L (f a)<L.length)))]):=by
 subst hz hkd
 have h:=ζ7 (sL:=sL) (hP:=hP) (o:=o) l hT ho hx hl hy (S1 _ _)
 rw [(Zbc f L a).1,(Zbc f L a).2] at h
 exact h
end
theorem Zl6 {o:List (List Int)} {x:List Int} (h:∀l∈o,∀s∈l,0≤s) (hx:∀s∈x,0≤s):posK Lm o (Lm x)=posK id o x:=Ty fun l hl=>ZaW (h l hl) hx
theorem ZhC (x:List Int):K5 [] (.string (Lm x)) (.int .i64 0)=skv (YJ Lm 0 [x]):=rfl
theorem Zbd {α:Type} {f:α→ByteArray} {o:List α} {x:α} (h:¬posK f o (f x)<o.length):K5 (skv (YJ f 0 o)) (.string (f x)) (.int .i64 (o.length:Nat))=skv (YJ f 0 (o++[x])):=by
 have:=Dq f x o 0 h
 rw [Xv] at this
 rw [ζ4,this]
theorem SetOk.nn {a:Aut} {l:List Int} (h:SetOk a l):∀s∈l,0≤s:=fun s hs=>(h.1 s hs).1
theorem SetOk.bd {a:Aut} (ha:AOk a) {l:List Int} (h:SetOk a l):∀s∈l,0≤s∧s≤1000000:=fun s hs=>by have:=h.1 s hs;have:=ha.n1;omega
set_option maxHeartbeats 4000000 in
theorem SK (a : Aut) (h:AOk a):AF prog 185 [ZO a] (Znj a):=by
 have hn1:=h.n1
 have hs0:=h.s0
 have hs1:=h.s1
 have hsN:((a.syms.toNat:Nat):Int)=a.syms:=oM
 have hst:=EJ h
 refine AF.of_body 96 func185 rfl ntmps185 (Xa rfl) ?_
 intro w0 M0 vs hl hv
 obtain ⟨v0,rfl⟩:=WL hl
 clear hl hv
 refine Ze ?_
 (refine ZG 1 5 fun h1=>?_<;>refine Zw [(.int .i64 0),(.slice none 0 0),(.slice none 0 0)] 3 2 Gy fun h2=>?_<;>refine xL 3 Za ?_<;>refine Zg ?_)
 ((refine yL 14 (Zs 1 Zm) fun v14 h=>?_;cases h)<;>(refine cS 15 (cA call110 (LR a h)) fun v15 h=>?_;cases h)<;>refine xL 4 Za ?_<;>refine Zg ?_)
 (refine xL 16 (Zd 1 Yl) ?_<;>(refine yL 17 (Zk 1 Zo) fun v17 h=>?_;cases h)<;>refine xL 18 (ZL Hc) ?_<;>refine Zw [(.int .i64 0),(.slice none 0 0),(.slice none 0 0)] 3 5 Gy fun h5=>?_<;>refine ZA 5 Wn ?_<;>refine Zc ?_)
 refine Zx (G6 (l:=5) [pInt a.syms, .own 36 1 0 [], .own 4 1 0 []] rfl rfl (fun i p p' h1 h2=>by
  match i with
  |0=>cases h1;cases h2;exact .inl rfl
  |1=>cases h1;cases h2;exact .inr ⟨rfl,_,_,rfl⟩
  |2=>cases h1;cases h2;exact .inr ⟨rfl,_,_,rfl⟩
  |i+3=>simp at h2)) fun _=>?_
 refine Zx (GR (l:=5) (l':=301) (j:=1) rfl rfl rfl rfl) fun i=>?_
 obtain ⟨v301,ho301⟩:=i
 refine Zx (GR (l:=5) (l':=302) (j:=2) rfl rfl rfl rfl) fun i=>?_
 obtain ⟨v302,ho302⟩:=i
 dsimp only [List.set]
 (refine Zt ?_<;>refine xL 19 Zb (xL 20 (Zd 1 YA) ?_)<;>(refine yL 21 (Zk 1 ZB) fun v21 h=>?_;cases h)<;>(refine cO 22 (cA call111 (SC a a.start hn1 h.mi h.st)) fun v22 ho22=>?_;refine Zr (En.freeze (l:=22) (t:=22) rfl rfl) fun _=>?_;rw [ZX _ _ _ rfl])<;>refine ZJ (kk:=1) 23 W4 fun h23 ho23=>?_<;>refine xL 6 Za ?_<;>refine Zc ?_)
 refine Zx (Zy (l:=23) 303 rfl rfl) fun _=>?_
 obtain ⟨x0,hx0⟩:∃x0,x0=Y0 a a.start:=⟨_,rfl⟩
 rw [←hx0] at hst ⊢
 have hst2:=hst.len h
 (refine Zt ?_<;>refine JZ 24 fun h24 ho24=>?_<;>refine xL 25 Zb ?_<;>refine xL 26 (YL (i:=0) 303 YF) ?_<;>(refine yL 27 (Zk 303 ZB) fun v27 h=>?_;cases h)<;>(refine cS 28 (cA call231 (Hb x0 oM (hst.bd h))) fun v28 h=>?_;cases h)<;>(refine ZgK 24 Gx ?_;rw [ZhC])<;>refine xL 29 Zb (xL 7 Za ?_)<;>refine Zc ?_)
 refine Zx (Zy (l:=24) 304 rfl rfl) fun _=>?_
 (refine Zt ?_<;>refine xL 8 Za ?_<;>refine Zc ?_)
 refine ZD (ι:={q:Nat×Value×Value×Value×List (List Int)×List (List Nat)//(Jw a).upto x0 q.1=some (q.2.2.2.2.1,q.2.2.2.2.2)∧q.1≤q.2.2.2.2.1.length∧q.2.1.oneCell'=true∧q.2.2.1.oneCell'=true∧q.2.2.2.1.oneCell'=true}) (fun k=>⟨[(1,_,_),(2,_,_),(3,_,_),(4,_,_),(5,_,_),(7,_,_),(6,k.1.2.2.2.1, .val k.1.2.2.2.1),(8, .int .i64 k.1.1,pInt k.1.1)],[(1,_,_),(2,_,_),(304,h24, .omap (skv (YJ Lm 0 k.1.2.2.2.2.1))),(5,h5, .own 147 3 1 [pInt a.syms, .val k.1.2.1, .val k.1.2.2.1]),(301,k.1.2.1, .own 36 1 k.1.2.2.2.2.2.length (k.1.2.2.2.2.2.map Lp)),(302,k.1.2.2.1, .own 4 1 ((k.1.2.2.2.2.1.take k.1.1).map (KF a)).length (((k.1.2.2.2.2.1.take k.1.1).map (KF a)).map ZM)),(303,k.1.2.2.2.1, .own 36 1 k.1.2.2.2.2.1.length (k.1.2.2.2.2.1.map pInts))]⟩) (fun k=>2000-k.1.1) ⟨(0,v301,v302,h23,[x0],[]),rfl,Xf _,ho301,ho302,ho23⟩ (fun a w H=>H.weaken ⟨rfl,rfl,rfl,rfl,rfl,rfl,rfl,rfl,trivial⟩ ⟨rfl,rfl,rfl,rfl,rfl,rfl,rfl,trivial⟩) ?_
 rintro ⟨⟨i,r1,r2,r3,o,rows⟩,hU,hi,hr1,hr2,hr3⟩
 dsimp only
 dsimp only at hU hi hr1 hr2 hr3
 have hU':=hU
 rw [hx0] at hU'
 obtain ⟨hOk,hRl,_⟩:=ζc h hU'
 have hRl:=hRl hi
 have hcap:o.length≤2000:=hOk.cap
 have hOp:=hOk.p
 have hone1:En.one (PV.val r1)=true:=hr1
 have hone2:En.one (PV.val r2)=true:=hr2
 have hfl:((o.take i).map (KF a)).length≤2000:=by rw [Xd,Xx];omega
 refine Ze ?_
 (refine xL 30 Zb (xL 31 Zb (xL 32 (YN 303 YF) (xL 33 ZQ ?_)))<;>refine Zc ?_)
 refine cX ?_ ?_<;>intro hb33
 · first | exact bN hb33|(
 obtain ⟨x,hx⟩:=Zp (show i<o.length by omega);have hxs:=hOp x (Xc hx);have hxl:=hxs.len h;refine Ze ?_;(refine xL 36 (Zd 1 Yl) ?_<;>(refine yL 37 (Zk 1 Zo) fun v37 h=>?_;cases h)<;>(refine LJ (n:=a.syms.toNat) 38 Zl (fun h38 ho38=>?_) (hx:=by rw [hsN];exact rfl) (hy:=by rw [hsN];exact rfl) (hb:=by omega))<;>refine xL 9 Za ?_<;>refine Zc ?_)
 rw [←EX];(refine Zt ?_<;>refine xL 39 Zb (xL 40 (YN 38 Zu) (xL 41 Zb ?_))<;>refine Zc ?_)
 refine ZD (ι:={q:Nat×Value×List (List Int)×List Nat//(Jw a).row i x o q.1=some (q.2.2.1,q.2.2.2)∧q.1≤a.syms.toNat∧q.2.1.oneCell'=true}) (fun k=>⟨[(1,_,_),(2,_,_),(3,_,_),(4,_,_),(5,_,_),(7,_,_),(8,_,_),(9,_,_),(40,_,_),(6,k.1.2.1, .val k.1.2.1),(41, .int .i64 k.1.1,pInt k.1.1)],[(1,_,_),(2,_,_),(5,_,_),(301,_,_),(302,_,_),(303,k.1.2.1, .own 36 1 k.1.2.2.1.length (k.1.2.2.1.map pInts)),(304,h24, .omap (skv (YJ Lm 0 k.1.2.2.1))),(38,h38, .own 3 1 a.syms.toNat (vec a.syms.toNat fun j=>pInt (Te k.1.2.2.2 j)))]⟩) (fun k=>a.syms.toNat-k.1.1) ⟨(0,r3,o,[]),rfl,Xf _,hr3⟩ (fun a w H=>H.weaken ⟨rfl,rfl,rfl,rfl,rfl,rfl,rfl,rfl,rfl,rfl,rfl,trivial⟩ ⟨rfl,rfl,rfl,rfl,rfl,rfl,rfl,rfl,trivial⟩) ?_;rintro ⟨⟨s,r3',o',r⟩,hW,hs,hr3'⟩;dsimp only;dsimp only at hW hs hr3';obtain ⟨hMt,hpr,hrl,_⟩:=hOk.toMet.row (fun s _=>DU h s x) (show s≤(Jw a).m from hs) hW;have hcap':o'.length≤2000:=hMt.cap;have hx':=Ko hpr hx;have hil:=Zf hx';refine Ze ?_;(refine xL 42 ZQ ?_<;>refine Zc ?_)
 refine cX ?_ ?_<;>intro hb42
 · first | exact bN hb42|(
 have hset:=DU h (s:Nat) x;obtain ⟨set,hse⟩:∃set,set=YD a (s:Nat) x:=⟨_,rfl⟩;rw [←hse] at hset;have hsl:=hset.len h;have hkid:=Zl6 (fun l hl=>(hMt.p l hl).nn) hset.nn;have e1:=Ym (f:=pInts) hx';have e2:=T2 a.syms.toNat (fun j=>pInt (Te r j));refine Ze ?_;(refine xL 43 Zb (xL 10 Za ?_)<;>refine Zg ?_)
 (refine xL 44 Zb (xL 45 Zb (xL 46 Zb (xL 47 (YL 303 YF) ?_)))<;>(refine yL 48 (Zk 303 ZB) fun v48 h=>?_;cases h)<;>refine xL 49 Zb ?_<;>(refine cO 50 (cA call112 (C5 a x s hn1 h.ml h.mi hxs.1 hxl)) fun v50 ho50=>?_;refine Zr (En.freeze (l:=50) (t:=50) rfl rfl) fun _=>?_;rw [ZX _ _ _ rfl,←hse])<;>refine xL 11 Za ?_<;>refine Zg ?_)
 (refine xL 52 Zb (xL 53 Zb ?_)<;>(refine cS 54 (cA call231 (Hb set oM (hset.bd h))) fun v54 h=>?_;cases h)<;>refine xL 55 (ZhB (f:=Lm) (L:=o') (a:=set) 304 Gx rfl rfl) ?_<;>refine xL 51 Zb (xL 56 Zi (xL 57 Zi (xL 12 Za (xL 13 Za ?_))))<;>refine Zg ?_)
 (refine xL 58 Zb (xL 59 Yg ?_)<;>refine Zc ?_)
 refine cX ?_ ?_<;>intro hb59
 · first | exact bN hb59|(
 (have hnew:¬posK Lm o' (Lm set)<o'.length:=by simpa using hb59);have hnew2:¬posK (Jw a).key o' ((Jw a).key ((Jw a).step i x s))<o'.length:=by
  show ¬posK id o' (YD a (s:Nat) x)<o'.length;rw [←hse,←hkid];exact hnew
 refine Ze ?_;(refine xL 60 Zb (xL 61 (YN 303 YF) (xL 12 Za ?_))<;>refine Zg ?_)
 (refine xL 62 Zb (xL 63 WK ?_)<;>refine Zc ?_)
 refine cX ?_ ?_<;>intro hb63
 · first|exact bN hb63|(
 refine Ze ?_;((refine yL 64 (Zs (k:=3) (ps:=[pInt a.syms,PV.val r1,PV.val r2]) 5 kR) fun v64 h=>?_;cases h)<;>refine ZA 2 Wn ?_<;>refine xL 3 Za ?_<;>refine Zc ?_)
 refine Ys (k:=3) 2 kR (results185) rfl rfl rfl (Xa rfl) dC rfl (.inr ⟨?_,_,_,_,rfl,hr1,hr2,rfl⟩);have hv:=Dr hnew2 (show (Jw a).cap≤o'.length by show 2000≤o'.length;omega);have h1:=Srch.row_fails (Srch.row_out hW hv) (show s+1≤(Jw a).m by show s+1≤a.syms.toNat;omega);have h2:=Srch.all_none (Srch.upto_out hU hx h1) (show i+1≤(Jw a).cap by show i+1≤2000;omega);unfold J5;rw [←hx0,h2];rfl)
 · first |exact bN hb63|(
 refine Ze ?_;(refine xL 65 Zb (xL 66 Zb ?_)<;>(refine cS 67 (cA call231 (Hb set oM (hset.bd h))) fun v67 h=>?_;cases h)<;>refine xL 68 Zb ?_<;>(refine GU 304 Gx ?_;rw [Zbd hnew])<;>refine Zg ?_)
 (refine xL 69 Zb (xL 70 Zb ?_)<;>refine ZJ (kk:=1) 71 W4 fun h71 ho71=>?_<;>(refine ZU 303 71 72 W4 fun h72 ho72=>?_;refine Zr (Zy (l:=72) 303 rfl rfl) fun _=>?_;refine Zr (ZP (l:=303) rfl (Zhr _ o' set)) fun _=>?_)<;>refine xL 6 Za ?_<;>refine Zg ?_)
 (refine xL 73 Zb (xL 74 Zb (xL 75 Zb (xL 76 (YL 38 Zu) ?_)))<;>refine YZ 38 Zo W9 ?_<;>refine Zg ?_)
 (refine xL 77 ZH (xL 41 Zb ?_)<;>refine Zc ?_)
 rw [show s*1=r.length*1 by omega,Pl _ oM]
 first
  | (exact Zn (
      ⟨(s+1,h72,o'++[set],r++[o'.length]),(by dsimp only;rw [hse];exact Srch.row_snoc hW (WR hnew2 (show o'.length<2000 by omega))),(by dsimp only;omega),ho72⟩
      ) (by dsimp only;omega) ⟨rfl,rfl,rfl,rfl,rfl,rfl,rfl,rfl,rfl,rfl,rfl,trivial⟩ ⟨rfl,rfl,rfl,rfl,rfl,rfl,rfl,rfl,trivial⟩)
  | (exact Zn (
      ⟨(s+1,r3',o',r++[TK Lm o' set]),(by dsimp only;rw [hnum];exact Srch.row_snoc hW (WQ hold2)),(by dsimp only;omega),hr3'⟩
      ) (by dsimp only;omega) ⟨rfl,rfl,rfl,rfl,rfl,rfl,rfl,rfl,rfl,rfl,rfl,trivial⟩ ⟨rfl,rfl,rfl,rfl,rfl,rfl,rfl,rfl,trivial⟩)))
 · first |exact bN hb59|(
 (have hold:posK Lm o' (Lm set)<o'.length:=by simpa using hb59);have hold2:posK (Jw a).key o' ((Jw a).key ((Jw a).step i x s))<o'.length:=by
  show posK id o' (YD a (s:Nat) x)<o'.length;rw [←hse,←hkid];exact hold
 have hnum:TK Lm o' set=posK (Jw a).key o' ((Jw a).key ((Jw a).step i x s)):=by
  show TK Lm o' set=posK id o' (YD a (s:Nat) x);unfold TK;rw [UT hold,hkid,hse]
 refine Ze ?_;(refine xL 73 Zb (xL 74 Zb (xL 75 Zb (xL 76 (YL 38 Zu) ?_)))<;>refine YZ 38 Zo W9 ?_<;>refine Zg ?_)
 (refine xL 77 ZH (xL 41 Zb ?_)<;>refine Zc ?_)
 rw [show s*1=r.length*1 by omega,Pl _ oM]
 first
  | (exact Zn (
      ⟨(s+1,h72,o'++[set],r++[o'.length]),(by dsimp only;rw [hse];exact Srch.row_snoc hW (WR hnew2 (show o'.length<2000 by omega))),(by dsimp only;omega),ho72⟩
      ) (by dsimp only;omega) ⟨rfl,rfl,rfl,rfl,rfl,rfl,rfl,rfl,rfl,rfl,rfl,trivial⟩ ⟨rfl,rfl,rfl,rfl,rfl,rfl,rfl,rfl,trivial⟩)
  | (exact Zn (
      ⟨(s+1,r3',o',r++[TK Lm o' set]),(by dsimp only;rw [hnum];exact Srch.row_snoc hW (WQ hold2)),(by dsimp only;omega),hr3'⟩
      ) (by dsimp only;omega) ⟨rfl,rfl,rfl,rfl,rfl,rfl,rfl,rfl,rfl,rfl,rfl,trivial⟩ ⟨rfl,rfl,rfl,rfl,rfl,rfl,rfl,rfl,trivial⟩)))
 · first|exact bN hb42|(
 have hsm:s=a.syms.toNat:=oM;subst hsm;have hU2:=Srch.upto_snoc hU hx hW;have e1:=Ym (f:=pInts) hx';have htk:o'.take (i+1)=(o.take i)++[x]:=by
  rw [ZE hx'];obtain ⟨e,rfl⟩:=hpr;rw [Uv hi]
 refine nav ?_;refine Zx (En.freeze (l:=38) (t:=9) rfl rfl) fun _=>?_;rw [EY _ _ _ hrl];(refine Z5 (fun i=>([16,17,18]:List Nat).elem i) [5,303] kR ?_<;>refine xDT 0 78 rfl (Zd 5 WF) ?_<;>(refine yDT 1 79 rfl (Zk 5 Kv) fun v79 h=>?_;cases h)<;>refine xDT 2 80 rfl Zb ?_<;>refine xDT 5 83 rfl (Zd 5 W5) ?_<;>(refine yDT 6 84 rfl (Zk 5 Wt) fun v84 h=>?_;cases h)<;>refine xDT 7 85 rfl Zb ?_<;>refine xDT 8 86 rfl Zb ?_<;>refine xDT 9 87 rfl Zb ?_<;>refine xDT 10 88 rfl (YL 303 YF) ?_<;>(refine yDT 11 89 rfl (Zk 303 ZB) fun v89 h=>?_;cases h)<;>(refine Zq 3 kR ?_)<;>(refine Zj rfl fun w9 M9 N9 DQ back=>?_)<;>refine ZJ (kk:=1) 81 W4 fun h81 ho81=>?_<;>refine Zh (back _ (nrm ?_))<;>(refine Zq 4 kR ?_)<;>(refine Zj rfl fun w9 M9 N9 DQ back=>?_)<;>refine ZU 301 81 82 W4 fun h82 ho82=>?_<;>refine Zh (back _ (nrm ?_))<;>refine xDT 15 93 rfl (Zd 5 WF) ?_<;>(refine Zq 12 kR ?_)<;>(refine WE (d:=90) rfl (cA call113 (Dx a x hxs.1)) fun v90 h=>?_;cases h)<;>(refine Zq 13 kR ?_)<;>(refine Zj rfl fun w9 M9 N9 DQ back=>?_)<;>refine ZJ (kk:=1) 91 Jt fun h91 ho91=>?_<;>refine Zh (back _ (nrm ?_))<;>(refine Zq 14 kR ?_)<;>(refine Zj rfl fun w9 M9 N9 DQ back=>?_)<;>refine ZU 302 91 92 Jt fun h92 ho92=>?_<;>refine Zh (back _ (nrm ?_))<;>(refine Zq 16 kR ?_)<;>(refine Rc rfl rfl fun DQ back=>?_)<;>refine YZ 5 Kv Hd ?_<;>refine Zh (back _ ?_)<;>(refine J1 17 kR rfl rfl fun DQ back=>?_)<;>refine xL 94 (Zd 5 W5) ?_<;>refine Zh (back _ ?_)<;>(refine J1 18 kR rfl rfl fun DQ back=>?_)<;>refine YZ 5 Wt He ?_<;>refine Zh (back _ ?_)<;>refine OJ kR (nav ?_)<;>try dsimp only)
 refine Zx (Zy (l:=82) 301 rfl rfl) fun _=>?_;refine Zx (Zy (l:=92) 302 rfl rfl) fun _=>?_;refine Zx (ZP (l:=301) rfl (EZ _ rows r)) fun _=>?_;refine Zx (ZP (l:=302) rfl (Hf _ ((o.take i).map (KF a)) (KF a x))) fun _=>?_;rw [show ((o.take i).map (KF a))++[KF a x]=(o'.take (i+1)).map (KF a) by rw [htk,Xr];rfl];(refine Zt ?_<;>refine xL 34 Zb (xL 35 ZH (xL 8 Za ?_))<;>refine Zc ?_)
 refine Zn (
  ⟨(i+1,h82,h92,r3',o',rows++[r]),hU2,(by dsimp only;omega),ho82,ho92,hr3'⟩
  ) (by dsimp only;omega) ⟨rfl,rfl,rfl,rfl,rfl,rfl,rfl,rfl,trivial⟩ ⟨rfl,rfl,rfl,rfl,rfl,rfl,rfl,trivial⟩))
 · first|exact bN hb33|(
 have hio:i=o.length:=oM;subst hio;refine nav ?_;refine Zx (Z0 (l:=5) (l':=301) (j:=1) rfl rfl rfl rfl) fun _=>?_;refine Zx (Z0 (l:=5) (l':=302) (j:=2) rfl rfl rfl rfl) fun _=>?_;rw [Oc _ _ _ rfl,Rx _ _ _ rfl];(refine Zt ?_<;>(refine yL 95 (Zs 5 Wn) fun v95 h=>?_;cases h)<;>refine ZA 2 Wn ?_<;>refine xL 3 Za ?_<;>refine Zc ?_)
 refine Ys (k:=3) 2 kR (results185) rfl rfl rfl (Xa rfl) dC rfl (.inl ⟨⟨a.syms.toNat,rows,o.map (KF a)⟩,?_,?_⟩)
 · unfold J5;rw [←hx0,Srch.all_some hU (Xj _) (show o.length≤(Jw a).cap from hcap)];rfl
 · unfold Zbb;dsimp only;rw [UE,hsN];rfl)
def Ry (l:List Nat):ByteArray:=Lm (toI l)
theorem ZhD (l:List Nat):∀x∈toI l,0≤x:=fun x hx=>by
 unfold toI at hx
 obtain ⟨y,_,rfl⟩:=Xg.1 hx
 omega
theorem Zj0 (o:List (List Nat)) (x:List Nat):posK Ry o (Ry x)=posK id o x:=Ty fun l _=>by
 unfold Ry
 rw [ZaW (ZhD l) (ZhD x),ZjT];rfl
theorem KA {α:Type} (f:α→ByteArray) (o:List α):(skv (YJ f 0 o)).length=o.length:=by unfold skv;rw [Xd,Zaw]
theorem ZhE {α:Type} {f:α→ByteArray} {o:List α} {x:α} (h:¬posK f o (f x)<o.length):K5 (skv (YJ f 0 o)) (.string (f x)) (.int .i64 ((skv (YJ f 0 o)).length:Nat))=skv (YJ f 0 (o++[x])):=by
 rw [KA,Zbd h]
def Rz (s:Nat) (f:Nat→Nat) (j:Nat):Int:=if j<s then (f j:Nat) else 0
theorem E0 (n:Nat) (f:Nat→Nat):List.replicate n (PV.val (.int .i64 0))=vec n fun j=>pInt (Rz 0 f j):=by
 rw [EI]
 refine Lh fun i _=>?_
 unfold Rz;rw [US oM]
theorem Lq {n s:Nat} {f:Nat→Nat} {x:Int} (hx:x=(f s:Nat)):(vec n fun j=>pInt (Rz s f j)).set (s*1) (pInt x)=vec n fun j=>pInt (Rz (s+1) f j):=by
 rw [Xw,ZdE]
 refine Lh fun i hi=>?_
 unfold Rz
 by_cases e:i=s
 · subst e;rw [UT rfl,UT oM,hx]
 · rw [US e];by_cases e2:i<s
   · rw [UT e2,UT oM]
   · rw [US e2,US oM]
theorem E1 {n s:Nat} {f:Nat→Nat} (hx:f s=0):(vec n fun j=>pInt (Rz s f j))=vec n fun j=>pInt (Rz (s+1) f j):=by
 refine Lh fun i hi=>?_
 unfold Rz
 by_cases e:i=s
 · subst e;rw [US oM,UT oM,hx];rfl
 · by_cases e2:i<s
   · rw [UT e2,UT oM]
   · rw [US e2,US oM]
theorem E2 (n:Nat) (f:Nat→Nat):(vec n fun j=>pInt (Rz n f j))=vec n fun j=>pInt (f j:Nat):=by
 refine Lh fun i hi=>?_
 unfold Rz;rw [UT hi]
theorem GO (l:List Nat):(toI l).length=l.length:=by simp [toI]
theorem ZhF (l:List Nat) (x:Nat):toI (l++[x])=toI l++[(x:Int)]:=by simp [toI]
theorem Hg (e:Nat) (L:List Nat) (x:Nat):PV.own e 1 (L.length+1) ((toI L).map pInt++[pInt (x:Nat)])= .own e 1 (L++[x]).length ((toI (L++[x])).map pInt):=by simp [ZhF]
def Ou (c:Nat→Nat) (s:Nat) (r:List Nat) (u:Nat):List Nat:=c s::(r.take u).map c
theorem Zfk {c:Nat→Nat} {s:Nat} {r:List Nat} {u x:Nat} (h:r[u]? =some x):Ou c s r u++[c x]=Ou c s r (u+1):=by
 unfold Ou;rw [ZE h,Xr];rfl
theorem Zfl {rows:List (List Nat)} {c:Nat→Nat} {s:Nat} {r:List Nat} {u:Nat} (h:rows[s]? =some r) (hu:r.length≤u):Ou c s r u=YO rows c s:=by
 unfold Ou YO;rw [h,Xo hu];rfl
theorem ZhG (c:Nat→Nat) (s:Nat) (r:List Nat) (u:Nat) (h:u≤r.length):(Ou c s r u).length=u+1:=by unfold Ou;rw [Xk,Xd,Xx];omega
theorem Zj1 {t:Tab} (ht:TOk t) {c:Nat→Nat} (hc:∀s,s<t.rows.length→c s≤t.rows.length) {s:Nat} (hs:s<t.rows.length):∀x∈toI (YO t.rows c s),0≤x∧x≤2000:=fun x hx=>by
 unfold toI at hx
 obtain ⟨y,hy,rfl⟩:=Xg.1 hx
 have hn:=ht.n1
 have key:∀z,z<t.rows.length→c z≤2000:=fun z hz=>by have:=hc z hz;omega
 unfold YO at hy
 rcases Xq.1 hy with rfl|hy
 · have:=key s hs;omega
 · obtain ⟨z,hz,rfl⟩:=Xg.1 hy;obtain ⟨r,hr⟩:=Zp hs;rw [hr] at hz;have:=key z (ht.to r (Xc hr) z hz);omega
theorem Zbe {rows:List (List Nat)} {c:Nat→Nat} {s:Nat} (hs:s<rows.length):JN rows c s=posK id (Y1 (YO rows c) (s+1)) (YO rows c s):=(Rp (k:=YO rows c) hs).1
theorem Zfm {rows:List (List Nat)} {c:Nat→Nat} {s:Nat} (hs:s<rows.length) (h:posK id (Y1 (YO rows c) s) (YO rows c s)<(Y1 (YO rows c) s).length):JN rows c s=posK id (Y1 (YO rows c) s) (YO rows c s):=by rw [Zbe hs,ZaQ h]
theorem Zfn {rows:List (List Nat)} {c:Nat→Nat} {s:Nat} (hs:s<rows.length) (h:¬posK id (Y1 (YO rows c) s) (YO rows c s)<(Y1 (YO rows c) s).length):JN rows c s=(Y1 (YO rows c) s).length:=by
 rw [Zbe hs,ZaR h];exact Dp h
theorem ZcU {rows:List (List Nat)} {f:Nat} {c:Nat→Nat} {k:Nat} (h:Pb rows c=k):Sq rows (f+1) c k=JN rows c:=by rw [Sq,UT h]
theorem ZcV {rows:List (List Nat)} {f:Nat} {c:Nat→Nat} {k:Nat} (h:¬Pb rows c=k):Sq rows (f+1) c k=Sq rows f (JN rows c) (Pb rows c):=by rw [Sq,US h]
set_option maxHeartbeats 4000000 in
theorem ZcW (t :Tab) (ht:TOk t):AF prog 232 [Zbb t] (· = .own 3 1 t.rows.length (vec t.rows.length fun s=>pInt (WM t s:Nat))):=by
 have hn1:=ht.n1
 have hfl:=ht.fl
 have hm1:=ht.m1
 refine AF.of_body 92 func232 rfl ntmps232 (Xa rfl) ?_
 intro w0 M0 vs hl hv
 obtain ⟨v0,rfl⟩:=WL hl
 clear hl hv
 refine Ze ?_
 (refine ZG 1 3 fun h1=>?_<;>refine xL 2 Za ?_<;>refine Zg ?_)
 (refine xL 16 (Zd 1 WF) ?_<;>(refine yL 17 (Zk 1 Kv) fun v17 h=>?_;cases h)<;>refine xL 18 (ZR YF) ?_<;>refine LJ 19 Zl fun h19 ho19=>?_<;>refine xL 3 Za ?_<;>refine Zc ?_)
 refine Zx (Zy (l:=19) 303 rfl rfl) fun _=>?_
 rw [E0 _ (Rq t.fin)]
 (refine Zt ?_<;>refine xL 20 (Zd 1 W5) ?_<;>(refine yL 21 (Zk 1 Wt) fun v21 h=>?_;cases h)<;>refine xL 22 (ZR W2) (xL 23 Zb ?_)<;>refine Zc ?_)
 refine ZD (ι:={s:Nat//s≤t.fin.length}) (fun k=>⟨[(1,_,_),(3,_,_),(21,_,_),(22,_,_),(23, .int .i64 k.1,pInt k.1)],[(1,_,_),(303,h19, .own 3 1 t.rows.length (vec t.rows.length fun j=>pInt (Rz k.1 (Rq t.fin) j)))]⟩) (fun k=>t.fin.length-k.1) ⟨0,Xf _⟩ (fun a w H=>H.weaken ⟨rfl,rfl,rfl,rfl,rfl,trivial⟩ ⟨rfl,rfl,trivial⟩) ?_
 rintro ⟨s,hs⟩
 dsimp only
 refine Ze ?_
 (refine xL 24 ZQ ?_<;>refine Zc ?_)
 refine cX ?_ ?_<;>intro hb24
 · first |exact bN hb24|(
 obtain ⟨b,hb⟩:=Zp (show s<t.fin.length by omega);have e1:=Ym (f:=ZM) hb;have e2:=T2 t.rows.length (fun j=>pInt (Rz s (Rq t.fin) j));refine Ze ?_;(refine xL 25 Zb (xL 26 (ZF W2) ?_)<;>(refine yL 27 (Yo Gn) fun v27 h=>?_;cases h)<;>refine xL 4 Za (xL 5 Za ?_)<;>refine Zg ?_)
 (refine xL 28 Zb ?_<;>refine Zc ?_)
 refine cX ?_ ?_<;>intro hb28
 · first|exact bN hb28|(
 refine Ze ?_;(refine xL 29 Zb (xL 30 Zb (xL 31 (YL 303 Zu) ?_))<;>refine YZ 303 Zo W9 ?_<;>refine Zg ?_)
 (refine xL 32 ZH (xL 23 Zb ?_)<;>refine Zc ?_)
 try rw [Lq (x:=1) (by unfold Rq;rw [hb];show (1:Int)=((if b=true then 1 else 0:Nat):Int);rw [UT hb28];rfl)]
 try rw [E1 (by unfold Rq;rw [hb];show (if b=true then 1 else 0)=0;rw [US (by simpa using hb28)])]
 refine Zn (
  ⟨s+1,oM⟩
  ) (by dsimp only;omega) ⟨rfl,rfl,rfl,rfl,rfl,trivial⟩ ⟨rfl,rfl,trivial⟩)
 · first|exact bN hb28|(
 refine Ze ?_;(refine xL 32 ZH (xL 23 Zb ?_)<;>refine Zc ?_)
 try rw [Lq (x:=1) (by unfold Rq;rw [hb];show (1:Int)=((if b=true then 1 else 0:Nat):Int);rw [UT hb28];rfl)]
 try rw [E1 (by unfold Rq;rw [hb];show (if b=true then 1 else 0)=0;rw [US (by simpa using hb28)])]
 refine Zn (
  ⟨s+1,oM⟩
  ) (by dsimp only;omega) ⟨rfl,rfl,rfl,rfl,rfl,trivial⟩ ⟨rfl,rfl,trivial⟩))
 · first | exact bN hb24|(
 have hsn:s=t.rows.length:=oM;subst hsn;rw [E2];refine Ze ?_;(refine xL 6 Za ?_<;>refine Zc ?_)
 refine ZD (ι:={q:Value×(Nat→Nat)×Nat×Nat//COk t.rows.length q.2.1 q.2.2.1∧Sq t.rows q.2.2.2 q.2.1 q.2.2.1=WM t∧t.rows.length+2≤q.2.2.2+q.2.2.1∧q.1.oneCell'=true}) (fun k=>⟨[(1,_,_),(3,k.1.1, .val k.1.1),(6, .int .i64 k.1.2.2.1,pInt k.1.2.2.1)],[(1,_,_),(303,k.1.1, .own 3 1 t.rows.length (vec t.rows.length fun j=>pInt (k.1.2.1 j:Nat)))]⟩) (fun k=>t.rows.length+2-k.1.2.2.1) ⟨(h19,Rq t.fin,0,t.rows.length+2),COk.start _ _,rfl,by dsimp only;omega,ho19⟩ (fun a w H=>H.weaken ⟨rfl,rfl,rfl,trivial⟩ ⟨rfl,rfl,trivial⟩) ?_;rintro ⟨⟨hv3,c,cnt,fuel⟩,hC,hit,hfu,hv3o⟩;dsimp only;dsimp only at hC hit hfu hv3o;have hle:=hC.le;have hbd:=hC.bd;obtain ⟨f,rfl⟩:∃f,fuel=f+1:=⟨fuel-1,oM⟩;have hgr:=hC.grow;have hnx:=hC.next
 refine Ze ?_;(refine JZ 33 fun h33 ho33=>?_<;>refine xL 7 Za ?_<;>refine Zg ?_)
 (refine xL 34 Zb (xL 35 (YN 303 Zu) ?_)<;>refine LJ 36 Zl fun h36 ho36=>?_<;>refine xL 8 Za ?_<;>refine Zc ?_)
 refine Zx (Zy (l:=33) 304 rfl rfl) fun _=>?_;refine Zx (Zy (l:=36) 305 rfl rfl) fun _=>?_;rw [E0 _ (JN t.rows c)];refine Zx (ZP (l:=304) (p':= .omap (skv (YJ Ry 0 (Y1 (YO t.rows c) 0)))) rfl rfl) fun _=>?_;(refine Zt ?_<;>refine xL 37 (Zd 1 WF) ?_<;>(refine yL 38 (Zk 1 Kv) fun v38 h=>?_;cases h)<;>refine xL 39 (ZR YF) (xL 40 Zb ?_)<;>refine Zc ?_)
 refine ZD (ι:={s:Nat//s≤t.rows.length}) (fun k=>⟨[(1,_,_),(3,_,_),(6,_,_),(7,_,_),(8,_,_),(38,_,_),(39,_,_),(40, .int .i64 k.1,pInt k.1)],[(1,_,_),(303,_,_),(304,h33, .omap (skv (YJ Ry 0 (Y1 (YO t.rows c) k.1)))),(305,h36, .own 3 1 t.rows.length (vec t.rows.length fun j=>pInt (Rz k.1 (JN t.rows c) j)))]⟩) (fun k=>t.rows.length-k.1) ⟨0,Xf _⟩ (fun a w H=>H.weaken ⟨rfl,rfl,rfl,rfl,rfl,rfl,rfl,rfl,trivial⟩ ⟨rfl,rfl,rfl,rfl,trivial⟩) ?_;rintro ⟨s,hs⟩;dsimp only;refine Ze ?_;(refine xL 41 ZQ ?_<;>refine Zc ?_)
 refine cX ?_ ?_<;>intro hb41
 · first | exact bN hb41|(
 have hlt:s<t.rows.length:=oM;obtain ⟨r,hr⟩:=Zp hlt;have e1:=Ym (f:=Lp) hr;have hrl:=ht.rl r (Xc hr);have hrt:=ht.to r (Xc hr);have htl:=GO r;have e2:=Ro (fun j=>pInt (c j:Nat)) hlt;have e3:=T2 t.rows.length (fun j=>pInt (Rz s (JN t.rows c) j));have hkl:=DV (YO t.rows c) s;refine Ze ?_;(refine xL 42 Zb (xL 43 (ZF YF) ?_)<;>(refine yL 44 (Yo ZB) fun v44 h=>?_;cases h)<;>refine xL 9 Za (xL 10 Za ?_)<;>refine Zg ?_)
 (refine xL 45 Zb (xL 46 Zb (xL 47 (YL 303 Zu) ?_))<;>(refine yL 48 (Zk 303 Zo) fun v48 h=>?_;cases h)<;>refine ZJ (kk:=1) 49 Zl fun h49 ho49=>?_<;>refine xL 11 Za ?_<;>refine Zc ?_)
 refine Zx (Zy (l:=49) 306 rfl rfl) fun _=>?_;refine Zx (ZP (l:=306) (p':= .own 3 1 (Ou c s r 0).length ((toI (Ou c s r 0)).map pInt)) rfl rfl) fun _=>?_;refine WY 10 rfl fun hlen10=>?_;(refine Zt ?_<;>refine xL 50 Zb (xL 51 (ZR Zu) (xL 52 Zb ?_))<;>refine Zc ?_)
 refine ZD (ι:={q:Nat×Value//q.1≤r.length∧q.2.oneCell'=true}) (fun k=>⟨[(1,_,_),(3,_,_),(6,_,_),(7,_,_),(8,_,_),(9,_,_),(38,_,_),(39,_,_),(40,_,_),(50,_,_),(51,_,_),(11,k.1.2, .val k.1.2),(52, .int .i64 k.1.1,pInt k.1.1)],[(1,_,_),(303,_,_),(304,_,_),(305,_,_),(306,k.1.2, .own 3 1 (Ou c s r k.1.1).length ((toI (Ou c s r k.1.1)).map pInt))]⟩) (fun k=>r.length-k.1.1) ⟨(0,h49),Xf _,ho49⟩ (fun a w H=>H.weaken ⟨rfl,rfl,rfl,rfl,rfl,rfl,rfl,rfl,rfl,rfl,rfl,rfl,rfl,trivial⟩ ⟨rfl,rfl,rfl,rfl,rfl,trivial⟩) ?_;rintro ⟨⟨u,hv⟩,hu,hvo⟩;dsimp only;dsimp only at hu hvo;have hkpl:=ZhG c s r u hu;refine Ze ?_;(refine xL 53 ZQ ?_<;>refine Zc ?_)
 refine cX ?_ ?_<;>intro hb53
 · first|exact bN hb53|(
 obtain ⟨x,hx⟩:=Zp (show u<r.length by omega);have hxn:=hrt x (Xc hx);(have e4:((toI r).map pInt)[u*1]? =some (pInt (x:Nat)):=by rw [Xw,Xm];unfold toI;rw [Xm,hx];rfl);have e5:=Ro (fun j=>pInt (c j:Nat)) hxn;refine Ze ?_;(refine xL 54 (ZF Zu) ?_<;>(refine yL 55 (Yo Zo) fun v55 h=>?_;cases h)<;>refine xL 13 Za ?_<;>refine Zg ?_)
 (refine xL 56 Zb (xL 57 Zb (xL 58 Zb (xL 59 (YL 303 Zu) ?_)))<;>(refine yL 60 (Zk 303 Zo) fun v60 h=>?_;cases h)<;>refine ZJ (kk:=1) 61 Zl fun h61 ho61=>?_<;>(refine ZU 306 61 62 Zl fun h62 ho62=>?_;refine Zr (Zy (l:=62) 306 rfl rfl) fun _=>?_;refine Zr (ZP (l:=306) rfl ((Hg _ (Ou c s r u) (c x)).trans (by rw [Zfk hx]))) fun _=>?_)<;>refine xL 11 Za ?_<;>refine Zg ?_)
 (refine xL 63 ZH (xL 52 Zb ?_)<;>refine Zc ?_)
 refine Zn (
  ⟨(u+1,h62),Zf hx,ho62⟩
  ) (by dsimp only;omega) ⟨rfl,rfl,rfl,rfl,rfl,rfl,rfl,rfl,rfl,rfl,rfl,rfl,rfl,trivial⟩ ⟨rfl,rfl,rfl,rfl,rfl,trivial⟩)
 · first |exact bN hb53|(
 have hK:=Zfl (c:=c) hr (show r.length≤u by omega);rw [hK];have hkb:=Zj1 ht hbd hlt;(have hkl2:(YO t.rows c s).length≤1000:=by rw [←hK,hkpl];omega);have hid:=Zj0 (Y1 (YO t.rows c) s) (YO t.rows c s);refine nav ?_;refine Zx (En.freeze (l:=306) (t:=11) rfl rfl) fun _=>?_;rw [ZX _ _ _ (by rw [GO])];(refine Zt ?_<;>refine xL 65 Zb (xL 66 Zb ?_)<;>(refine cS 67 (cA call231 (Hb (toI (YO t.rows c s)) (by rw [GO];omega) (fun x hx=>by have:=hkb x hx;omega))) fun v67 h=>?_;cases h)<;>refine xL 68 (ZhB (f:=Ry) (L:=Y1 (YO t.rows c) s) (a:=YO t.rows c s) 304 Gx rfl rfl) ?_<;>refine xL 64 Zb (xL 69 Zi (xL 70 Zi (xL 14 Za (xL 15 Za ?_))))<;>refine Zg ?_)
 (refine xL 71 Zb (xL 72 Yg ?_)<;>refine Zc ?_)
 refine cX ?_ ?_<;>intro hb72
 · first|exact bN hb72|(
 (have hnew:¬posK Ry (Y1 (YO t.rows c) s) (Ry (YO t.rows c s))<(Y1 (YO t.rows c) s).length:=by simpa using hb72);have hnew2:=hnew;rw [hid] at hnew2;have hnn:=Zfn hlt hnew2;have hff:=ZaR hnew2;refine Ze ?_;(refine xL 73 Zb (xL 74 (OG 304 underlying251) (xL 14 Za ?_))<;>refine Zg ?_)
 (refine xL 75 Zb (xL 76 Zb ?_)<;>(refine cS 77 (cA call231 (Hb (toI (YO t.rows c s)) (by rw [GO];omega) (fun x hx=>by have:=hkb x hx;omega))) fun v77 h=>?_;cases h)<;>refine xL 78 Zb ?_<;>(refine GU 304 Gx ?_;rw [show K5 (skv (YJ Ry 0 (Y1 (YO t.rows c) s))) (.string (Lm (toI (YO t.rows c s)))) (.int .i64 ((skv (YJ Ry 0 (Y1 (YO t.rows c) s))).length:Nat))=skv (YJ Ry 0 (Y1 (YO t.rows c) (s+1))) by rw [hff];exact ZhE hnew])<;>refine Zg ?_)
 (refine xL 79 Zb (xL 80 Zb (xL 81 Zb (xL 82 (YL 305 Zu) ?_)))<;>refine YZ 305 Zo W9 ?_<;>refine Zg ?_)
 (refine xL 83 ZH (xL 40 Zb ?_)<;>refine Zc ?_)
 try rw [Lq (by rw [KA,hnn])]
 try rw [Lq hnum,←hfo]
 refine Zn (
  ⟨s+1,oM⟩
  ) (by dsimp only;omega) ⟨rfl,rfl,rfl,rfl,rfl,rfl,rfl,rfl,trivial⟩ ⟨rfl,rfl,rfl,rfl,trivial⟩)
 · first|exact bN hb72|(
 (have hold:posK Ry (Y1 (YO t.rows c) s) (Ry (YO t.rows c s))<(Y1 (YO t.rows c) s).length:=by simpa using hb72);have hold2:=hold;rw [hid] at hold2;have hno:=Zfm hlt hold2;have hfo:=ZaQ hold2;(have hnum:(TK Ry (Y1 (YO t.rows c) s) (YO t.rows c s):Int)=(JN t.rows c s:Nat):=by unfold TK;rw [UT hold,hid,hno]);refine Ze ?_;(refine xL 79 Zb (xL 80 Zb (xL 81 Zb (xL 82 (YL 305 Zu) ?_)))<;>refine YZ 305 Zo W9 ?_<;>refine Zg ?_)
 (refine xL 83 ZH (xL 40 Zb ?_)<;>refine Zc ?_)
 try rw [Lq (by rw [KA,hnn])]
 try rw [Lq hnum,←hfo]
 refine Zn (
  ⟨s+1,oM⟩
  ) (by dsimp only;omega) ⟨rfl,rfl,rfl,rfl,rfl,rfl,rfl,rfl,trivial⟩ ⟨rfl,rfl,rfl,rfl,trivial⟩)))
 · first |exact bN hb41|(
 have hsn:s=t.rows.length:=oM;subst hsn;rw [E2];refine nav ?_;refine Zx (Zy (l:=303) 302 rfl rfl) fun _=>?_;refine Zx (Zy (l:=305) 303 rfl rfl) fun _=>?_;(refine Zt ?_<;>refine xL 84 Zb (xL 3 Za ?_)<;>refine Zg ?_)
 (refine xL 85 Zb (xL 86 (OG 304 underlying251) (xL 87 Zb (xL 88 Z3 ?_)))<;>refine Zc ?_)
 refine cX ?_ ?_<;>intro hb88
 · first|exact bN hb88|(
 (have hcc:Pb t.rows c=cnt:=by rw [KA] at hb88;unfold Pb;omega);refine Ze ?_;(refine xL 89 Zb (xL 2 Za ?_)<;>refine Zc ?_)
 refine JB 303 (results232) rfl rfl ?_;rw [←hit,ZcU hcc])
 · first|exact bN hb88|(
 (have hcc:¬Pb t.rows c=cnt:=by rw [KA] at hb88;unfold Pb;omega);refine Ze ?_;(refine xL 90 Zb (xL 91 (OG 304 underlying251) (xL 6 Za ?_))<;>refine Zc ?_)
 rw [KA];refine Zn (
  ⟨(h36,JN t.rows c,Pb t.rows c,f),hnx,by dsimp only;rw [←hit,ZcV hcc],by dsimp only;omega,ho36⟩
  ) (by have:=hnx.le;dsimp only;omega) ⟨rfl,rfl,rfl,trivial⟩ ⟨rfl,rfl,trivial⟩)))
end Go.Proofs.YtgfabnhpllkebaaGreatDoor
