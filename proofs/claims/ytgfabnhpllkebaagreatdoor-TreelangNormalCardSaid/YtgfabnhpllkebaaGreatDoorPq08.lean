/-
  Walks: the reference's automata: comparing moves, which are valid, sets of states.
  Walks: the reference's automata: closures, where a symbol leads, what is final, what is near.
  Walks: the reference's automata: distances, the words up to a length.
  Walks: the reference's automata: the words up to a length.
  Plain laws: tables, their classes, their minimal automata. No program in sight.
  Plain laws: lists of numbers as texts. No program in sight.
  Plain laws: moves in order; products of automata; the first word of a product. No program in sight.
  Plain laws: what minimal automata are like; complements. No program in sight.
  Plain laws: searches that go alike; the least automaton of a table whose final states are turned. No program in sight.
  Plain laws: automata that operations make. No program in sight.
  Plain laws: minimal automata are deterministic and complete; their products. No program in sight.
  Plain laws: the language of a table; classes are those of languages; the minimal automaton is told by the language. No program in sight.
  Walks: which words an automaton accepts.
  Plain laws: the language of an automaton; minimal automata of automata. No program in sight.
  Plain laws: what the operations' results accept; ways. No program in sight.
  Plain laws: automata side by side; unions, concatenations, reversals. No program in sight.
  Walks: automata: sets of states as texts.
  Walks: automata: the subset automaton.
  Walks: automata: the classes of a table's states.
-/
import Derived.Test.YtgfabnhpllkebaaGreatDoorPq07
import Derived.Test.YtgfabnhpllkebaaGreatDoorPq06
import Derived.Test.YtgfabnhpllkebaaGreatDoorPq03
import Derived.Test.YtgfabnhpllkebaaGreatDoorMShelfE
import Derived.Test.YtgfabnhpllkebaaGreatDoorPq01
namespace Go.Proofs.YtgfabnhpllkebaaGreatDoor
open Go.RowKit Go.Cb Go.En
set_option linter.all false
set_option maxRecDepth 100000
def ZDi (l:List Int) (n:Int):Bool:=l.any fun t=>decide (t=n)
theorem Zyk {l:List Int} {n:Int}:ZDi l n=true↔n∈l:=by unfold ZDi;simp
def Zbg (n:Nat) (f:Nat→Bool):List Int:=((List.range n).filter f).map fun i:Nat=>(i:Int)
theorem Zdu (k:Nat) (f:Nat→Bool):Zbg (k+1) f=Zbg k f++(if f k then [(k:Int)] else []):=by
 unfold Zbg
 rw [Uo,Vh,Xy]
 congr 1
 cases h:f k<;>simp [h]
theorem Zkc (n:Nat) (f:Nat→Bool):(Zbg n f).length≤n:=by
 unfold Zbg
 rw [Xf]
 have:=V9 f (List.range n)
 simpa using this
theorem Zkd {n:Nat} {f:Nat→Bool} {t:Int}:t∈Zbg n f↔0≤t∧t<n∧f t.toNat=true:=by
 unfold Zbg
 simp only [Xh,Vr,Vd]
 constructor
 · rintro ⟨i,⟨h1,h2⟩,rfl⟩;exact ⟨by omega,by omega,by simpa using h2⟩
 · rintro ⟨h1,h2,h3⟩;exact ⟨t.toNat,⟨by omega,h3⟩,by omega⟩
theorem ZqR (n:Nat) (f:Nat→Bool):Srt (Zbg n f):=by
 unfold Zbg Srt
 refine Ul.2 (List.Pairwise.filter _ ?_)
 exact (List.pairwise_lt_range (n:=n)).imp fun h=>by omega
structure MkI (a:Aut) (l:List Int) (f:Nat→Bool):Prop where
 base:∀s∈l,f s.toNat=true
 snd:∀i:Nat,i<a.n.toNat→f i=true→Rch a l (i:Nat)
structure PassB (a:Aut) (l:List Int) (f0 f:Nat→Bool) (fl:Bool) (i:Nat):Prop where
 mki:MkI a l f
 no:fl=false→f=f0∧∀j m,j<i→a.moves[j]? =some m→m.sym<0→f m.src.toNat=true→f m.dst.toNat=true
 yes:fl=true→cntF a.n.toNat f<cntF a.n.toNat f0
theorem ZlI {n:Nat} {L:List Nat} (h:L.Nodup) (hl:∀s∈L,s<n):L.length≤n:=by
 have:=nodup_len n (L.map fun x:Nat=>(x:Int)) (Ul.2 (h.imp fun h1 h2=>h1 (by omega))) fun s hs=>by
  obtain ⟨x,hx,rfl⟩:=Xh.1 hs;have:=hl x hx;omega
 simpa using this
structure Tab where
 m:Nat
 rows:List (List Nat)
 fin:List Bool
structure TOk (t:Tab):Prop where
 fl:t.fin.length=t.rows.length
 rl:∀r∈t.rows,r.length=t.m
 to:∀r∈t.rows,∀x∈r,x<t.rows.length
 pos:0<t.rows.length
 n1:t.rows.length≤2000
 m1:t.m≤40
def ZdS (a:Aut):Srch (List Int) (List Int):=⟨id,2000,a.syms.toNat,fun _ l s=>ZaL a (s:Nat) l⟩
def Zej (a:Aut):Option Tab:=((ZdS a).all (Za3 a a.start)).map fun q=>⟨a.syms.toNat,q.2,q.1.map (Zc0 a)⟩
def SetOk (a:Aut) (l:List Int):Prop:=InS a l∧Srt l
theorem SetOk.len {a:Aut} (h:AOk a) {l:List Int} (hl:SetOk a l):l.length≤2000:=by
 have h4:=nodup_len a.n.toNat l (hl.2.imp fun h=>by omega) fun s hs=>by
  have:=hl.1 s hs;have:=h.n0;omega
 have:=h.n1
 omega
theorem ZlJ {a:Aut} (h:AOk a) (c:Int) (l:List Int):SetOk a (ZaL a c l):=⟨Zgf h.mi c l,ZdN h.mi (ZcC h.mi c l)⟩
theorem Znq {a:Aut} (h:AOk a):SetOk a (Za3 a a.start):=⟨ZgX h.mi h.st,ZdN h.mi h.st⟩
theorem ZoN {a:Aut} (h:AOk a) {i:Nat} {o:List (List Int)} {rows:List (List Nat)} (hu:(ZdS a).upto (Za3 a a.start) i=some (o,rows)):(ZdS a).Ok (SetOk a) (Za3 a a.start) o rows∧(i≤o.length→rows.length=i)∧(o.length≤i→rows.length=o.length):=
 Srch.ok (P:=SetOk a) (show 1≤2000 by decide) (Znq h) (fun _ _ s _ _=>ZlJ h s _) hu
theorem ZoO {a:Aut} (h:AOk a) {t:Tab} (ht:Zej a=some t):TOk t:=by
 unfold Zej at ht
 obtain ⟨⟨o,rows⟩,h1,rfl⟩:=XC.1 ht
 obtain ⟨h2,h3,h4⟩:=ZoN h h1
 have hcap:o.length≤2000:=h2.cap
 have h5:=h4 hcap
 have hp:=h2.pos
 have hs:=h.s1
 refine ⟨by simp [h5],h2.len,fun r hr x hx=>?_,by dsimp only;omega,by dsimp only;omega,by dsimp only;omega⟩
 obtain ⟨i,hi⟩:=Ve hr
 obtain ⟨t,ht⟩:=Ve hx
 dsimp only at hi
 obtain ⟨y,hy⟩:=ζm (show i<o.length by have:=ζg hi;omega)
 have:=(h2.to i y r t x hy hi ht).1
 dsimp only;omega
section
variable {κ:Type} [DecidableEq κ]
def Za4 (k:Nat→κ):Nat→List κ
 |0=>[]
 |s+1=>if k s∈Za4 k s then Za4 k s else Za4 k s++[k s]
theorem Zyl (k:Nat→κ) (s:Nat):Za4 k s<+:Za4 k (s+1):=by
 rw [Za4];split
 · exact Vu _
 · exact Um _ _
theorem Znr (k:Nat→κ) (s:Nat):∀t,Za4 k s<+:Za4 k (s+t)
 |0=>Vu _
 |t+1=>(Znr k s t).trans (Zyl k (s+t))
theorem ZlK (k:Nat→κ):∀s,(Za4 k s).length≤s
 |0=>Xd _
 | s+1=>by
   have:=ZlK k s;rw [Za4];split
   · omega
   · rw [Xc,Xt];omega
theorem Zd3 {k:Nat→κ}:∀{s:Nat} {x:κ},x∈Za4 k s↔∃i,i<s∧k i=x
 |0,x=>by simp [Za4]
 | s + 1,x=>by
   have ih:=Zd3 (k:=k) (s:=s) (x:=x);rw [Za4];split
   · rename_i h;rw [ih];constructor
     · rintro ⟨i,h1,h2⟩;exact ⟨i,by omega,h2⟩
     · rintro ⟨i,h1,h2⟩;by_cases e:i=s
       · subst e;subst h2;exact ih.1 h
       · exact ⟨i,by omega,h2⟩
   · rw [Xs,ih,Xi];constructor
     · rintro (⟨i,h1,h2⟩|h)
       · exact ⟨i,by omega,h2⟩
       · exact ⟨s,by omega,h.symm⟩
     · rintro ⟨i,h1,h2⟩;by_cases e:i=s
       · subst e;exact .inr h2.symm
       · exact .inl ⟨i,by omega,h2⟩
theorem ZoP (k:Nat→κ):∀s,(Za4 k s).Nodup
 |0=>Vg
 | s +1=>by
   rw [Za4];split
   · exact ZoP k s
   · rename_i h;rw [VB];exact ⟨ZoP k s,by simp,fun a ha b hb e=>h (by rw [Xi.1 hb] at e;rw [←e];exact ha)⟩
theorem ZkN {l:List κ} {x:κ}:posK id l x<l.length↔x∈l:=by
 rw [ZkK]
 constructor
 · rintro ⟨y,h1,rfl⟩;exact h1
 · exact fun h=>⟨x,h,rfl⟩
theorem ZqS {k:Nat→κ} {s:Nat} (h:posK id (Za4 k s) (k s)<(Za4 k s).length):Za4 k (s+1)=Za4 k s:=by rw [Za4,if_pos (ZkN.1 h)]
theorem ZqT {k:Nat→κ} {s:Nat} (h:¬posK id (Za4 k s) (k s)<(Za4 k s).length):Za4 k (s+1)=Za4 k s++[k s]:=by rw [Za4,if_neg fun h1=>h (ZkN.2 h1)]
theorem ZiI {k:Nat→κ} {s n:Nat} (h:s<n):posK id (Za4 k n) (k s)=posK id (Za4 k (s+1)) (k s)∧posK id (Za4 k n) (k s)<(Za4 k n).length:=by
 have h1:k s∈Za4 k (s+1):=Zd3.2 ⟨s,by omega,rfl⟩
 have h2:=Znr k (s+1) (n-(s+1))
 rw [show s+1+(n-(s+1))=n by omega] at h2
 obtain ⟨e,he⟩:=h2
 exact ⟨by rw [←he,ZiD e (ZkN.2 h1)],ZkN.2 (Zd3.2 ⟨s,h,rfl⟩)⟩
end
def ZaW (rows:List (List Nat)) (c:Nat→Nat) (s:Nat):List Nat:=c s::((rows[s]?).getD []).map c
def Zd4 (rows:List (List Nat)) (c:Nat→Nat) (s:Nat):Nat:=posK id (Za4 (ZaW rows c) rows.length) (ZaW rows c s)
def Zjn (rows:List (List Nat)) (c:Nat→Nat):Nat:=(Za4 (ZaW rows c) rows.length).length
def ZhQ (rows:List (List Nat)):Nat→(Nat→Nat)→Nat→(Nat→Nat)
 |0,c,_=>c
 |f+1,c,k=>if Zjn rows c=k then Zd4 rows c else ZhQ rows f (Zd4 rows c) (Zjn rows c)
def ZiJ (fin:List Bool) (s:Nat):Nat:=if (fin[s]?).getD false then 1 else 0
def ZbU (t:Tab):Nat→Nat:=ZhQ t.rows (t.rows.length+2) (ZiJ t.fin) 0
structure COk (n:Nat) (c:Nat→Nat) (k:Nat):Prop where
 hit:∀v,v<k→∃s,s<n∧c s=v
 le:k≤n
 bd:∀s,s<n→c s≤n
theorem COk.start (fin:List Bool) (n:Nat):COk n (ZiJ fin) 0:=⟨fun v h=>by omega,Xe _,fun s h=>by unfold ZiJ;split<;>omega⟩
theorem COk.grow {rows:List (List Nat)} {c:Nat→Nat} {k:Nat} (h:COk rows.length c k):k≤Zjn rows c:=by
 have h1:∀v,v<k→v∈(Za4 (ZaW rows c) rows.length).map fun l=>l.headD 0:=fun v hv=>by
  obtain ⟨s,hs,rfl⟩:=h.hit v hv;exact Xh.2 ⟨ZaW rows c s,Zd3.2 ⟨s,hs,rfl⟩,rfl⟩
 have h2:∀(n:Nat) (L:List Nat),(∀v,v<n→v∈L)→n≤L.length:=fun n=>by
  induction n with
  |zero=>exact fun _ _=>Xe _
  | succ n ih=>
    intro L hL;have h3:=ih (L.erase n) fun v hv=>(List.mem_erase_of_ne (by omega)).2 (hL v (by omega));rw [UM (hL n (by omega))] at h3;have:=List.length_pos_of_mem (hL n (by omega));omega
 have:=h2 k _ h1
 rwa [Xf] at this
theorem COk.next {rows:List (List Nat)} {c:Nat→Nat} {k:Nat} (h:COk rows.length c k):COk rows.length (Zd4 rows c) (Zjn rows c):=by
 have hl:=ZlK (ZaW rows c) rows.length
 refine ⟨fun v hv=>?_,hl,fun s hs=>?_⟩
 · obtain ⟨x,hx⟩:=ζm hv;obtain ⟨s,hs,rfl⟩:=Zd3.1 (Xb hx);refine ⟨s,hs,?_⟩;have hn:((Za4 (ZaW rows c) rows.length).map id).Nodup:=by rw [List.map_id];exact ZoP _ _
   exact ZeC hn hx
 · have:=(ZiI (k:=ZaW rows c) hs).2;show posK _ _ _≤_;omega
def toT (t:Tab) (x s:Nat):Nat:=((((t.rows[x]?).getD [])[s]?).getD 0)
def minW (t:Tab):Srch Nat Nat:=⟨ZbU t,t.rows.length,t.m,fun _ x s=>toT t x s⟩
theorem Zjo {t:Tab} {x s n:Nat} {r:List Nat} (h:t.rows[x]? =some r) (h2:r[s]? =some n):toT t x s=n:=by
 unfold toT;rw [h];show ((r[s]?).getD 0)=n;rw [h2];rfl
theorem ZcE {t:Tab} (h:TOk t) {x s:Nat}:toT t x s<t.rows.length:=by
 unfold toT
 cases h1:t.rows[x]? with
 |none=>simpa using h.pos
 | some r=>
   show ((r[s]?).getD 0)<_
   cases h2:r[s]? with
   |none=>simpa using h.pos
   |some n=>exact h.to r (Xb h1) n (Xb h2)
theorem Zgj {α β:Type} {f:α→β}:∀{l:List α},(l.map f).Nodup→l.Nodup
 |[],_=>Vg
 | x::l,h=>by
   rw [Xq,Vf] at h;exact Vf.2 ⟨fun h1=>h.1 (UC h1),Zgj h.2⟩
theorem Zjp {t:Tab} (h:TOk t) {o:List Nat} (hm:(minW t).Met (· <t.rows.length) 0 o) {x:Nat} (hx:x<t.rows.length) (hn:¬posK (minW t).key o ((minW t).key x)<o.length):o.length<t.rows.length:=by
 have h1:(o++[x]).Nodup:=by
  rw [VB];refine ⟨Zgj hm.nd,by simp,fun a ha b hb e=>hn (ZkK.2 ⟨x,?_,rfl⟩)⟩;rw [Xi.1 hb] at e;rw [←e];exact ha
 have:=ZlI h1 fun s hs=>by
  rcases Xs.1 hs with hs|hs
  · exact hm.p s hs
  · rw [Xi.1 hs];exact hx
 rw [Xc,Xt] at this
 omega
theorem Zt9 {t:Tab} (h:TOk t) {i x:Nat} {o:List Nat} (hm:(minW t).Met (· <t.rows.length) 0 o):∀s,s≤t.m→∃q,(minW t).row i x o s=some q
 |0,_=>⟨_,rfl⟩
 | s+1,hs=>by
   obtain ⟨⟨o1,r1⟩,h1⟩:=Zt9 h hm s (by omega);obtain ⟨h2,_⟩:=hm.row (fun s _=>ZcE h) (show s≤(minW t).m from (by show s≤t.m;omega)) h1;by_cases hp:posK (minW t).key o1 ((minW t).key ((minW t).step i x s))<o1.length
   · exact ⟨_,Srch.row_snoc h1 (ZbY hp)⟩
   · exact ⟨_,Srch.row_snoc h1 (ZbZ hp (Zjp h h2 (ZcE h) hp))⟩
theorem ZsS {t:Tab} (h:TOk t) {i:Nat} {o:List Nat} {rows:List (List Nat)} (hu:(minW t).upto 0 i=some (o,rows)):(minW t).Ok (· <t.rows.length) 0 o rows∧(i≤o.length→rows.length=i)∧(o.length≤i→rows.length=o.length):=
 Srch.ok (W:=minW t) (P:=(· <t.rows.length)) h.pos h.pos (fun _ _ s _ _=>ZcE h) hu
theorem ZqU {t:Tab} (h:TOk t):∀i,∃q,(minW t).upto 0 i=some q
 |0=>⟨_,rfl⟩
 | i +1=>by
   obtain ⟨⟨o,rows⟩,h1⟩:=ZqU h i
   cases hx:o[i]? with
   |none=>exact ⟨_,Srch.upto_stop h1 (Uh.1 hx) 1⟩
   | some x=>
     obtain ⟨⟨o',r⟩,h2⟩:=Zt9 h (i:=i) (x:=x) (ZsS h h1).1.toMet t.m (Xd _);exact ⟨_,Srch.upto_snoc h1 hx h2⟩
theorem ZAZ {t:Tab} (h:TOk t):∃q,(minW t).all 0=some q:=ZqU h _
def Zan (i:Nat) (r:List Nat):List Mv:=r.zipIdx.map fun p=>⟨(i:Nat),(p.1:Nat),(p.2:Nat)⟩
def ζ1 (rows:List (List Nat)):List Mv:=rows.zipIdx.flatMap fun p=>Zan p.2 p.1
theorem ZcF (i:Nat) (r:List Nat) (n:Nat):Zan i (r++[n])=Zan i r++[⟨(i:Nat),(n:Nat),(r.length:Nat)⟩]:=by
 unfold Zan;rw [List.zipIdx_append,Xy];simp
theorem Zes (i:Nat) (r:List Nat):(Zan i r).length=r.length:=by unfold Zan;simp
theorem Zke (rows:List (List Nat)) (r:List Nat):ζ1 (rows++[r])=ζ1 rows++Zan rows.length r:=by
 unfold ζ1;rw [List.zipIdx_append,XS];simp
theorem ZsT {m:Nat}:∀(rows:List (List Nat)),(∀r∈rows,r.length=m)→(ζ1 rows).length=rows.length*m:=by
 intro rows
 have key:∀(L:List (List Nat)) (k:Nat),(∀r∈L,r.length=m)→((L.zipIdx k).flatMap fun p=>Zan p.2 p.1).length=L.length*m:=by
  intro L;induction L with
  |nil=>intro k _;simp
  | cons r L ih=>
    intro k h;rw [VS,Xr,Xc,ih (k+1) (fun r hr=>h r (Xn _ hr)),Zes,h r (Xk ..),Xj,XQ];omega
 exact key rows 0
def ZdA (t:Tab) (o:List Nat) (i:Nat):Bool:=(t.fin[(o[i]?).getD 0]?).getD false
def ZbC (t:Tab) (q:List Nat×List (List Nat)):Aut:=⟨(q.1.length:Nat),(t.m:Nat),[0],Zbg q.1.length (ZdA t q.1),ζ1 q.2⟩
def Zb0 (t:Tab):Option Aut:=((minW t).all 0).bind fun q=>if 20000<(ζ1 q.2).length then none else some (ZbC t q)
def ZfG:PV:= .agg [pInt 0,pInt 0, .val (.slice none 0 0), .val (.slice none 0 0), .val (.slice none 0 0)]
def resW:Except Int Aut→PV
 | .ok a=> .tup [ζS a,pInt 0]
 | .error e=> .tup [ZfG,pInt e]
def lim (x:Option Aut):Except Int Aut:=match x with
 |some a=> .ok a
 |none=> .error 13
def ZbR (a:Aut):Except Int Aut:=match Zej a with
 |some t=>lim (Zb0 t)
 |none=> .error 13
def Zfe (a:Aut):Except Int Aut:=if Zaa a then ZbR a else .error 1
def Zym (l:List UInt8):Nat:=l.foldl (fun v b=>v*10+(b.toNat-48)) 0
theorem ZvF (l:List UInt8) (b:UInt8):Zym (l++[b])=Zym l*10+(b.toNat-48):=by unfold Zym;rw [VE];rfl
theorem ZoQ {u:Nat} (h:u<10):(UInt8.ofNat (48+u)).toNat=48+u:=by
 rw [UInt8.toNat_ofNat'];omega
theorem ZqV (u:Nat):Zym (Lib.decDigits u)=u:=by
 induction u using Nat.strongRecOn with
 | _ u ih=>
   rw [Lib.decDigits];split
   · rename_i h;show 0*10+((UInt8.ofNat (48+u)).toNat-48)=u;rw [ZoQ h];omega
   · rw [ZvF,ih (u / 10) (by omega),ZoQ (by omega)];omega
theorem Zyn (u:Nat):∀b∈Lib.decDigits u,b≠32:=by
 induction u using Nat.strongRecOn with
 | _ u ih=>
   have key:∀v:Nat,v<10→UInt8.ofNat (48+v)≠32:=fun v hv e=>by
    have:=congrArg UInt8.toNat e;rw [ZoQ hv] at this;have h32:(32:UInt8).toNat=32:=rfl;omega
   rw [Lib.decDigits];split
   · rename_i h;intro b hb;rw [Xi.1 hb];exact key u h
   · intro b hb;rcases Xs.1 hb with hb|hb
     · exact ih (u / 10) (by omega) b hb
     · rw [Xi.1 hb];exact key _ (by omega)
theorem ZqW:∀{a b c d:List UInt8},(∀x∈a,x≠32)→(∀x∈b,x≠32)→a++32::c=b++32::d→a=b∧c=d
 |[],[],c,d,_,_,h=>⟨rfl,(List.cons.inj h).2⟩
 |[],y::b,c,d,_,hb,h=>absurd (List.cons.inj h).1.symm (hb y (Xk ..))
 |x::a,[],c,d,ha,_,h=>absurd (List.cons.inj h).1 (ha x (Xk ..))
 | x::a,y::b,c,d,ha,hb,h=>by
   obtain ⟨h1,h2⟩:=List.cons.inj h;obtain ⟨h3,h4⟩:=ZqW (fun z hz=>ha z (Xn _ hz)) (fun z hz=>hb z (Xn _ hz)) h2;exact ⟨by rw [h1,h3],h4⟩
def Zd9 (l:List Int):List UInt8:=l.flatMap fun s=>Lib.itoa s++[32]
def ZfH (l:List Int):ByteArray:=⟨(Zd9 l).toArray⟩
theorem ZqX:∀{l m:List Int},(∀x∈l,0≤x)→(∀x∈m,0≤x)→Zd9 l=Zd9 m→l=m
 |[],[],_,_,_=>rfl
 | [],y::m,_,_,h=>by
   have:=congrArg List.length h;simp only [Zd9,Xr,XL,Xc,Xj,Xz] at this;omega
 | x::l,[],_,_,h=>by
   have:=congrArg List.length h;simp only [Zd9,Xr,XL,Xc,Xj,Xz] at this;omega
 | x ::l,y::m,hl,hm,h=>by
   have hx:=hl x (Xk ..);have hy:=hm y (Xk ..);have e1:Lib.itoa x=Lib.decDigits x.toNat:=by unfold Lib.itoa;rw [if_neg (by omega)]
   have e2:Lib.itoa y=Lib.decDigits y.toNat:=by unfold Lib.itoa;rw [if_neg (by omega)]
   have h':Lib.decDigits x.toNat++32::Zd9 l=Lib.decDigits y.toNat++32::Zd9 m:=by
    have:Zd9 (x::l)=Lib.itoa x++[32]++Zd9 l:=rfl;rw [this,show Zd9 (y::m)=Lib.itoa y++[32]++Zd9 m from rfl,e1,e2] at h;simpa using h
   obtain ⟨h1,h2⟩:=ZqW (Zyn _) (Zyn _) h';have h3:=congrArg Zym h1;rw [ZqV,ZqV] at h3;rw [ZqX (fun z hz=>hl z (Xn _ hz)) (fun z hz=>hm z (Xn _ hz)) h2,show x=y by omega]
theorem ZDj {l m:List UInt8} (h:(⟨l.toArray⟩:ByteArray)=⟨m.toArray⟩):l=m:=by
 have:=ByteArray.mk.inj h
 simpa using this
theorem ZqY {l m:List Int} (hl:∀x∈l,0≤x) (hm:∀x∈m,0≤x):ZfH l=ZfH m↔l=m:=
 ⟨fun h=>ZqX hl hm (ZDj h),fun h=>by rw [h]⟩
def toI (l:List Nat):List Int:=l.map fun x:Nat=>(x:Int)
theorem ZA0 {l m:List Nat}:toI l=toI m↔l=m:=by
 unfold toI
 constructor
 · intro h;have:=congrArg (List.map Int.toNat) h;simpa [XE,Function.comp_def] using this
 · intro h;rw [h]
def eqM (a b:Mv):Bool:=decide (a.src=b.src)&&decide (a.dst=b.dst)&&decide (a.sym=b.sym)
theorem Ze5 {a b:Mv}:eqM a b=true↔a=b:=by
 unfold eqM
 simp only [Xg,decide_eq_true_eq]
 cases a;cases b
 simp only [Mv.mk.injEq,and_assoc]
theorem ZeH (a:Mv):ZdK a a=false:=by
 cases h:ZdK a a with
 |false=>rfl
 |true=>have:=ZfE.1 h;omega
theorem ZiK {a b c:Mv} (h1:ZdK a b=true) (h2:ZdK b c=true):ZdK a c=true:=by
 rw [ZfE] at h1 h2 ⊢;omega
theorem ZlL {a b:Mv} (h1:ZdK a b=false) (h2:ZdK b a=false):a=b:=by
 have e1:¬ZdK a b=true:=by rw [h1];simp
 have e2:¬ZdK b a=true:=by rw [h2];simp
 rw [ZfE] at e1 e2
 rw [←Ze5];unfold eqM
 simp only [Xg,decide_eq_true_eq];omega
def AscM (l:List Mv):Prop:=l.Pairwise fun a b=>ZdK a b=true
theorem ZlM:∀{l m:List Mv},AscM l→AscM m→(∀x,x∈l↔x∈m)→l=m
 |[],[],_,_,_=>rfl
 |[],y::m,_,_,h=>absurd ((h y).2 (Xk ..)) (by simp)
 |x::l,[],_,_,h=>absurd ((h x).1 (Xk ..)) (by simp)
 | x :: l,y::m,hl,hm,h=>by
   have hl':=XK.1 hl;have hm':=XK.1 hm;have hxy:x=y:=by
    rcases Xl.1 ((h x).1 (Xk ..)) with e|h1
    · exact e
    · rcases Xl.1 ((h y).2 (Xk ..)) with e|h2
      · exact e.symm
      · have h3:=ZiK (hm'.1 x h1) (hl'.1 y h2);rw [ZeH] at h3;cases h3
   subst hxy;congr 1;refine ZlM hl'.2 hm'.2 fun z=>⟨fun hz=>?_,fun hz=>?_⟩
   · rcases Xl.1 ((h z).1 (Xn _ hz)) with e|h1
     · have h3:=hl'.1 z hz;rw [e,ZeH] at h3;cases h3
     · exact h1
   · rcases Xl.1 ((h z).2 (Xn _ hz)) with e|h1
     · have h3:=hm'.1 z hz;rw [e,ZeH] at h3;cases h3
     · exact h1
def ZqZ (m:Mv):List Mv→List Mv
 |[]=>[m]
 |x::l=>if ZdK m x then m::x::l else if eqM m x then x::l else x::ZqZ m l
theorem ZlN {m y:Mv}:∀{l:List Mv},y∈ZqZ m l↔y=m∨y∈l
 |[]=>by simp [ZqZ]
 | x :: l =>by
   rw [ZqZ];split
   · simp
   · split
     · rename_i h;rw [Ze5] at h;subst h;simp
     · rw [Xl,ZlN,Xl];constructor
       · rintro (h|h|h)
         · exact .inr (.inl h)
         · exact .inl h
         · exact .inr (.inr h)
       · rintro (h|h|h)
         · exact .inr (.inl h)
         · exact .inl h
         · exact .inr (.inr h)
theorem Zq0 {m:Mv}:∀{l:List Mv},AscM l→AscM (ZqZ m l)
 |[],_=>by simp [ZqZ,AscM]
 | x :: l,h=>by
   have h':=XK.1 h;rw [ZqZ];split
   · rename_i hm;refine XK.2 ⟨fun z hz=>?_,h⟩;rcases Xl.1 hz with rfl|hz
     · exact hm
     · exact ZiK hm (h'.1 z hz)
   · rename_i hm;split
     · exact h
     · rename_i he;refine XK.2 ⟨fun z hz=>?_,Zq0 h'.2⟩;rcases ZlN.1 hz with rfl|hz
       · cases hxz:ZdK x z with
         |true=>rfl
         |false=>exact absurd (Ze5.2 (ZlL (by simpa using hm) hxz)) he
       · exact h'.1 z hz
def mkM:List Mv→List Mv
 |[]=>[]
 |x::l=>ZqZ x (mkM l)
theorem Zc6 {y:Mv}:∀{l:List Mv},y∈mkM l↔y∈l
 |[]=>by simp [mkM]
 |x::l=>by rw [mkM,ZlN,Zc6,Xl]
theorem Zek:∀l,AscM (mkM l)
 |[]=> .nil
 |x::l=>Zq0 (Zek l)
theorem ZsU {l m:List Mv} (hl:AscM l) (h:∀x,x∈l↔x∈m):l=mkM m:=ZlM hl (Zek m) fun x=>by rw [h,Zc6]
theorem ZA1 {l m:List Mv} (hl:AscM l) (h:∀x∈l,x∈m):l.length≤m.length:=by
 induction l generalizing m with
 |nil=>exact Xe _
 | cons x l ih=>
   have h':=XK.1 hl;obtain ⟨a,b,rfl⟩:=List.append_of_mem (h x (Xk ..));have :=ih (m:=a++b) h'.2 fun y hy=>by
    rcases Xs.1 (h y (Xn _ hy)) with h1|h1
    · exact Vb _ h1
    · rcases Xl.1 h1 with rfl|h1
      · have:=h'.1 y hy;rw [ZeH] at this;cases this
      · exact X3 _ h1
   simp only [Xc,Xj] at this ⊢;omega
theorem ZoR (l:List Mv):(mkM l).length≤l.length:=ZA1 (Zek l) fun x h=>Zc6.1 h
def ZlO (a:Aut):Except Int Aut:=if 2000<a.n∨20000<a.moves.length then .error 13 else ZbR a
def ZdB (a:Aut):Except Int Aut:=ZlO {a with moves:=mkM a.moves}
def ZdC (a:Aut):Aut:=⟨a.n+1,a.syms,[a.n],[a.n],a.moves++(a.start.map fun s=>⟨a.n,s,-1⟩)++a.fin.map fun s=>⟨s,a.n,-1⟩⟩
def ZeI (a:Aut):Except Int Aut:=if Zaa a then ZdB (ZdC a) else .error 1
def stepA (A:Aut) (i s:Nat):Nat:=(((A.moves[i*A.syms.toNat+s]?).map Mv.dst).getD 0).toNat
def Zkt (op:Int) (x y:Bool):Bool:=if op=1 then x&&y else if op=2 then x||y else if op=3 then x&& !y else x !=y
def Zbb (A B:Aut):Srch ((Nat×Nat)×(Int×Int)) (Nat×Nat):=⟨Prod.fst,2000,A.syms.toNat,fun i x s=>((stepA A x.1.1 s,stepA B x.1.2 s),((i:Nat),(s:Nat)))⟩
def prodQ (A B:Aut):Option (List ((Nat×Nat)×(Int×Int))×List (List Nat)):=(Zbb A B).all ((0,0),(-1,-1))
def ZbF (A B:Aut) (op:Int) (x:(Nat×Nat)×(Int×Int)):Bool:=Zkt op (Zeh A (x.1.1:Nat)) (Zeh B (x.1.2:Nat))
def Zgv (A B:Aut) (op:Int) (q:List ((Nat×Nat)×(Int×Int))×List (List Nat)):Tab:=⟨A.syms.toNat,q.2,q.1.map (ZbF A B op)⟩
def ZfI (a b:Aut):Except Int (Aut×Aut×List ((Nat×Nat)×(Int×Int))×List (List Nat)):=match ZbR a,ZbR b with
 | .ok A, .ok B=>match prodQ A B with
   |some q=> .ok (A,B,q)
   |none=> .error 13
 |_,_=> .error 13
def Zb4 (a b:Aut):Int:=if Zaa a=false∨Zaa b=false then 1 else if ¬a.syms=b.syms then 29 else 0
def Zg0 (par:List (Int×Int)):Nat→Nat→List Int
 |0,_=>[]
 | f+1,i=>match par[i]? with
   |some x=>if x.1<0 then [] else Zg0 par f x.1.toNat++[x.2]
   |none=>[]
def Zgk (A B:Aut) (op:Int) (q:List ((Nat×Nat)×(Int×Int))×List (List Nat)):Bool×List Int:=
 match (q.1.map (ZbF A B op)).idxOf? true with
 |some i=>(false,Zg0 (q.1.map (·.2)) (i+1) i)
 |none=>(true,[])
def cmpX (a b:Aut) (op:Int):Bool×List Int×Int:=if ¬Zb4 a b=0 then (false,[],Zb4 a b) else match ZfI a b with
 | .ok (A,B,q)=>((Zgk A B op q).1,(Zgk A B op q).2,0)
 | .error e=>(false,[],e)
theorem Zq1 {t:Tab} {A:Aut} (h:Zb0 t=some A):∃o rows,(minW t).all 0=some (o,rows)∧A=ZbC t (o,rows)∧(ζ1 rows).length≤20000:=by
 unfold Zb0 at h
 obtain ⟨⟨o,rows⟩,h1,h2⟩:=XW.1 h
 dsimp only at h2
 split at h2
 · cases h2
 · cases h2;exact ⟨o,rows,h1,rfl,by omega⟩
structure Fin (t:Tab) (o:List Nat) (rows:List (List Nat)):Prop where
 ok:(minW t).Ok (· <t.rows.length) 0 o rows
 len:rows.length=o.length
 n1:o.length≤2000
 pos:0<o.length
theorem Zh8 {t:Tab} (h:TOk t) {o:List Nat} {rows:List (List Nat)} (hu:(minW t).all 0=some (o,rows)):Fin t o rows:=by
 obtain ⟨h1,_,h3⟩:=ZsS h hu
 have hc:o.length≤t.rows.length:=h1.cap
 have:=h.n1
 exact ⟨h1,h3 hc,by omega,h1.pos⟩
theorem Zns {i:Nat} {r:List Nat} {m:Mv} (h:m∈Zan i r):∃n s:Nat,r[s]? =some n∧m=⟨(i:Nat),(n:Nat),(s:Nat)⟩:=by
 unfold Zan at h
 obtain ⟨p,hp,rfl⟩:=Xh.1 h
 exact ⟨p.1,p.2,by have:=UF.1 hp;exact this,rfl⟩
theorem Zh9 {rows:List (List Nat)} {m:Mv} (h:m∈ζ1 rows):∃(i s n:Nat) (r:List Nat),rows[i]? =some r∧r[s]? =some n∧m=⟨(i:Nat),(n:Nat),(s:Nat)⟩:=by
 unfold ζ1 at h
 obtain ⟨p,hp,hm⟩:=XR.1 h
 obtain ⟨n,s,h1,h2⟩:=Zns hm
 exact ⟨p.2,s,n,p.1,UF.1 hp,h1,h2⟩
theorem ZiL {t:Tab} (ht:TOk t) {o:List Nat} {rows:List (List Nat)} (h:Fin t o rows) (hm:(ζ1 rows).length≤20000):AOk (ZbC t (o,rows)):=by
 have hp:=h.pos
 have hn:=h.n1
 have hm1:=ht.m1
 have hll:=Zkc o.length (ZdA t o)
 refine ⟨by show (0:Int)≤(o.length:Nat);omega,by show ((o.length:Nat):Int)≤2000;omega,by show (0:Int)≤(t.m:Nat);omega,by show ((t.m:Nat):Int)≤40;omega,hm,fun s hs=>?_,fun s hs=>?_,by show [(0:Int)].length≤2000;simp,by show (Zbg o.length (ZdA t o)).length≤2000;omega,fun m hmm=>?_⟩
 · rw [show s=0 from Xi.1 hs];exact ⟨VG _,by show (0:Int)<(o.length:Nat);omega⟩
 · obtain ⟨h1,h2,_⟩:=Zkd.1 hs;exact ⟨h1,h2⟩
 · obtain ⟨i,s,n,r,h1,h2,rfl⟩:=Zh9 hmm;have h3:i<rows.length:=ζg h1;have h4:=ζg h2;have h5:r.length=t.m:=h.ok.len r (Xb h1);obtain ⟨x,hx⟩:=ζm (show i<o.length by rw [←h.len];exact h3);have h6:=(h.ok.to i x r s n hx h1 h2).1;have h7:=h.len;refine ⟨by show (0:Int)≤(i:Nat);omega,by show ((i:Nat):Int)<(o.length:Nat);omega,by show (0:Int)≤(n:Nat);omega,by show ((n:Nat):Int)<(o.length:Nat);omega,by show (-1:Int)≤(s:Nat);omega,by show ((s:Nat):Int)<(t.m:Nat);omega⟩
theorem ZoS {a A:Aut} (h:AOk a) (hr:ZbR a= .ok A):∃t o rows,Zej a=some t∧TOk t∧(minW t).all 0=some (o,rows)∧Fin t o rows∧A=ZbC t (o,rows)∧(ζ1 rows).length≤20000:=by
 unfold ZbR at hr
 split at hr
 · rename_i t ht
   cases hl:Zb0 t with
   |none=>rw [hl] at hr;cases hr
   | some B=>
     rw [hl] at hr;cases hr;obtain ⟨o,rows,h1,h2,h3⟩:=Zq1 hl;have hT:=ZoO h ht;exact ⟨t,o,rows,ht,hT,h1,Zh8 hT h1,h2,h3⟩
 · cases hr
theorem ZA2 {a A:Aut} (h:Zfe a= .ok A):Zaa a=true∧ZbR a= .ok A:=by
 unfold Zfe at h
 split at h
 · rename_i h1;exact ⟨h1,h⟩
 · cases h
def Rel2 {α β:Type} (R:α→β→Prop) (o:List α) (o':List β):Prop:=o.length=o'.length∧∀(i:Nat) (x:α) (y:β),o[i]? =some x→o'[i]? =some y→R x y
theorem Rel2.snoc {α β:Type} {R:α→β→Prop} {o:List α} {o':List β} {x:α} {y:β} (h:Rel2 R o o') (hr:R x y):Rel2 R (o++[x]) (o'++[y]):=by
 refine ⟨by rw [Xc,Xc,h.1];rfl,fun i a b ha hb=>?_⟩
 rw [VX] at ha hb
 have hl:=h.1
 split at ha
 · rename_i h1;rw [if_pos (by omega)] at hb;exact h.2 i a b ha hb
 · rename_i h1;rw [if_neg (by omega)] at hb;have h2:=ζg ha;simp only [Xt] at h2;have h3:i=o.length:=by omega
   rw [h3,VA] at ha;rw [show i-o'.length=0 by omega] at hb;simp only [Vt,Option.some.injEq] at ha hb;rw [←ha,←hb];exact hr
section
variable {α β κ κ':Type} [DecidableEq κ] [DecidableEq κ']
theorem Zq2 {f:α→κ} {g:β→κ'} {k:κ} {k':κ'}:∀{o:List α} {o':List β},o.length=o'.length→(∀(i:Nat) (x:α) (y:β),o[i]? =some x→o'[i]? =some y→(f x=k↔g y=k'))→posK f o k=posK g o' k'
 |[],[],_,_=>rfl
 |[],_::_,h,_=>by simp at h
 |_::_,[],h,_=>by simp at h
 | x::o,y::o',h,hk=>by
   have h0:=hk 0 x y rfl rfl;have ih:=Zq2 (f:=f) (g:=g) (k:=k) (k':=k') (o:=o) (o':=o') (by simpa using h) fun i a b ha hb=>hk (i+1) a b (by simpa using ha) (by simpa using hb);rw [posK,posK,ih];by_cases e:f x=k
   · rw [if_pos e,if_pos (h0.1 e)]
   · rw [if_neg e,if_neg fun e2=>e (h0.2 e2)]
variable {W:Srch α κ} {W':Srch β κ'} {R:α→β→Prop}
theorem Srch.sim_row (hc:W.cap≤W'.cap) (hk:∀x x' y y',R x y→R x' y'→(W.key x=W.key x'↔W'.key y=W'.key y')) (hs:∀i x y s,R x y→s<W.m→R (W.step i x s) (W'.step i y s)) {i:Nat} {x:α} {y:β} (hxy:R x y) {o:List α} {o':List β} (ho:Rel2 R o o'):
 ∀{s:Nat} {p:List α} {r:List Nat},s≤W.m→W.row i x o s=some (p,r)→∃p',W'.row i y o' s=some (p',r)∧Rel2 R p p'
 | 0,p,r,_,h=>by
   rw [Srch.row] at h;cases h;exact ⟨o',rfl,ho⟩
 | s + 1,p,r,hsm,h=>by
   rw [Srch.row,XW] at h;obtain ⟨⟨p1,r1⟩,h1,h2⟩:=h;obtain ⟨⟨p2,n⟩,h3,h4⟩:=XC.1 h2
   cases h4;dsimp only at h3 ⊢;obtain ⟨p1',h5,h6⟩:=Srch.sim_row hc hk hs hxy ho (by omega) h1;have hst:=hs i x y s hxy (by omega);have hpos:posK W.key p1 (W.key (W.step i x s))=posK W'.key p1' (W'.key (W'.step i y s)):=Zq2 h6.1 fun j a b ha hb=>hk a _ b _ (h6.2 j a b ha hb) hst;by_cases hp:posK W.key p1 (W.key (W.step i x s))<p1.length
   · rw [ZbY hp] at h3;cases h3;(have hp':posK W'.key p1' (W'.key (W'.step i y s))<p1'.length:=by rw [←hpos,←h6.1];exact hp);exact ⟨p1',by rw [Srch.row_snoc h5 (ZbY hp'),hpos],h6⟩
   · (have hp':¬posK W'.key p1' (W'.key (W'.step i y s))<p1'.length:=by rw [←hpos,←h6.1];exact hp);by_cases hcap:p1.length<W.cap
     · rw [ZbZ hp hcap] at h3;cases h3;exact ⟨p1'++[W'.step i y s],by rw [Srch.row_snoc h5 (ZbZ hp' (by have:=h6.1;omega)),h6.1],h6.snoc hst⟩
     · rw [Zlo hp (by omega)] at h3;cases h3
theorem Srch.sim (hm:W.m=W'.m) (hc:W.cap≤W'.cap) (hk:∀x x' y y',R x y→R x' y'→(W.key x=W.key x'↔W'.key y=W'.key y')) (hs:∀i x y s,R x y→s<W.m→R (W.step i x s) (W'.step i y s)) {x0:α} {y0:β} (h0:R x0 y0):
 ∀{i:Nat} {o:List α} {rows:List (List Nat)},W.upto x0 i=some (o,rows)→∃o',W'.upto y0 i=some (o',rows)∧Rel2 R o o'
 | 0,o,rows,h=>by
   rw [Srch.upto] at h;cases h;refine ⟨[y0],rfl,rfl,fun i x y hx hy=>?_⟩;match i with
   |0=>simp at hx hy;subst hx hy;exact h0
   |i+1=>simp at hx
 | i +1,o,rows,h=>by
   rw [Srch.upto,XW] at h;obtain ⟨⟨o1,rows1⟩,h1,h2⟩:=h;obtain ⟨o1',h3,h4⟩:=Srch.sim hm hc hk hs h0 h1;dsimp only at h2
   cases hx:o1[i]? with
   | none=>
     rw [hx] at h2;cases h2;have h5:=Uh.1 hx;exact ⟨o1',Srch.upto_stop h3 (by dsimp only;have:=h4.1;omega) 1,h4⟩
   | some x=>
     rw [hx] at h2;obtain ⟨⟨o2,r⟩,h5,h6⟩:=XC.1 h2
     cases h6;have hil:=ζg hx;obtain ⟨y,hy⟩:=ζm (show i<o1'.length by have:=h4.1;omega);obtain ⟨p',h7,h8⟩:=Srch.sim_row hc hk hs (h4.2 i x y hx hy) h4 (Xd _) h5;rw [hm] at h7;exact ⟨p',Srch.upto_snoc h3 hy h7,h8⟩
end
section
variable {κ κ':Type} [DecidableEq κ] [DecidableEq κ']
end
theorem ZDk {t:Tab} {o:List Nat} {rows:List (List Nat)} {i:Nat} (hi:i<o.length):Zeh (ZbC t (o,rows)) (i:Nat)=ZdA t o i:=by
 rw [VI]
 have:Zeh (ZbC t (o,rows)) (i:Nat)=true↔((i:Nat):Int)∈Zbg o.length (ZdA t o):=by
  show ZDi (Zbg o.length (ZdA t o)) (i:Nat)=true↔_;exact Zyk
 rw [this,Zkd,XT]
 constructor
 · exact fun h=>h.2.2
 · exact fun h=>⟨by omega,by omega,h⟩
theorem Zg1 {f g:Nat→Bool}:∀n:Nat,(∀i,i<n→f i=g i)→Zbg n f=Zbg n g
 |0,_=>rfl
 |n+1,h=>by rw [Zdu,Zdu,Zg1 n fun i hi=>h i (by omega),h n (by omega)]
structure PreA (a:Aut):Prop where
 n0:0≤a.n
 s0:0≤a.syms
 s1:a.syms≤40
 st:InS a a.start
 fi:InS a a.fin
 sn:a.start.Nodup
 fn:a.fin.Nodup
 mv:∀m∈a.moves,0≤m.src∧m.src<a.n∧0≤m.dst∧m.dst<a.n∧-1≤m.sym∧m.sym<a.syms
def mkA (a:Aut):Aut:={a with moves:=mkM a.moves}
theorem PreA.aok {a:Aut} (h:PreA a) (hb:¬(2000<(mkA a).n∨20000<(mkA a).moves.length)):AOk (mkA a):=by
 have hn:¬2000<a.n:=fun h=>hb (.inl h)
 have hl:∀{l:List Int},l.Nodup→InS a l→l.length≤2000:=fun {l} h1 h2=>by
  have:=nodup_len a.n.toNat l h1 fun s hs=>by have:=h2 s hs;have:=h.n0;omega
  omega
 exact ⟨h.n0,by show a.n≤2000;omega,h.s0,h.s1,by have:=hb;omega,h.st,h.fi,hl h.sn h.st,hl h.fn h.fi,fun m hm=>h.mv m (Zc6.1 hm)⟩
theorem Zq3 {n:Int} {l:List Int} (h:Zga n l=true):Srt l:=by
 unfold Zga at h
 rw [Xg] at h
 have:=h.2
 clear h
 induction l with
 |nil=>exact .nil
 | cons x l ih=>
   cases l with
   |nil=>exact VC ..
   | cons y l=>
     rw [Zbz,Xg] at this;have h1:=ih this.2;(have hxy:x<y:=by have:=this.1;unfold ltI at this;simpa using this);refine XK.2 ⟨fun z hz=>?_,h1⟩;rcases Xl.1 hz with rfl|hz
     · exact hxy
     · exact Int.lt_trans hxy ((XK.1 h1).1 z hz)
theorem Znt:∀{l:List Mv},Zbz ZdK l=true→AscM l
 |[],_=> .nil
 |[x],_=>VC ..
 | x::y::l,h=>by
   rw [Zbz,Xg] at h;have h1:=Znt h.2;refine XK.2 ⟨fun z hz=>?_,h1⟩;rcases Xl.1 hz with rfl|hz
   · exact h.1
   · exact ZiK h.1 ((XK.1 h1).1 z hz)
theorem ZbK {l:List Int} (h:Srt l):l.Nodup:=h.imp fun h=>by omega
structure VOk (a:Aut):Prop extends AOk a where
 ss:Srt a.start
 fs:Srt a.fin
 ms:AscM a.moves
theorem Zb1 {a:Aut} (h:Zaa a=true):VOk a:=by
 have h':=h
 unfold Zaa at h'
 simp only [Xg,decide_eq_true_eq] at h'
 obtain ⟨⟨⟨⟨⟨⟨⟨⟨_,_⟩,_⟩,_⟩,_⟩,h6⟩,h7⟩,_⟩,h9⟩:=h'
 exact ⟨Zfd h,Zq3 h6,Zq3 h7,Znt h9⟩
theorem Zia {l:List Mv} (h:AscM l):l.Nodup:=h.imp fun {a b} h1 e=>by rw [e,ZeH] at h1;cases h1
theorem Zet {α β:Type} {f:α→β} {l:List α} (h:l.Nodup) (hf:∀x∈l,∀y∈l,f x=f y→x=y):(l.map f).Nodup:=by
 induction l with
 |nil=>exact Vg
 | cons x l ih=>
   rw [Vf] at h;rw [Xq,Vf];refine ⟨fun hm=>?_,ih h.2 fun y hy z hz=>hf y (Xn _ hy) z (Xn _ hz)⟩;obtain ⟨y,hy,e⟩:=Xh.1 hm;have:=hf y (Xn _ hy) x (Xk ..) e;rw [this] at hy;exact h.1 hy
theorem ZlP {a:Aut} (h:VOk a):PreA (ZdC a):=by
 have hn:=h.n0
 refine ⟨by show 0≤a.n+1;omega,h.s0,h.s1,fun s hs=>?_,fun s hs=>?_,by show [a.n].Nodup;simp,by show [a.n].Nodup;simp,fun m hm=>?_⟩
 · rw [show s=a.n from Xi.1 hs];exact ⟨hn,by show a.n<a.n+1;omega⟩
 · rw [show s=a.n from Xi.1 hs];exact ⟨hn,by show a.n<a.n+1;omega⟩
 · have hs:=h.s0;show 0≤m.src∧m.src<a.n+1∧0≤m.dst∧m.dst<a.n+1∧-1≤m.sym∧m.sym<a.syms;have hm':m∈a.moves++(a.start.map fun s=>(⟨a.n,s,-1⟩:Mv))++a.fin.map fun s=>(⟨s,a.n,-1⟩:Mv):=hm;rcases Xs.1 hm' with hm|hm
   · rcases Xs.1 hm with hm|hm
     · have:=h.mv m hm;omega
     · obtain ⟨s,hs,rfl⟩:=Xh.1 hm;have:=h.st s hs;dsimp only;omega
   · obtain ⟨s,hs,rfl⟩:=Xh.1 hm;have:=h.fi s hs;dsimp only;omega
theorem ZsV {a:Aut} (h:VOk a):(ZdC a).moves.Nodup:=by
 show (a.moves++(a.start.map fun s=>(⟨a.n,s,-1⟩:Mv))++a.fin.map fun s=>(⟨s,a.n,-1⟩:Mv)).Nodup
 rw [VB,VB]
 refine ⟨⟨Zia h.ms,Zet (ZbK h.ss) fun x _ y _ e=>(Mv.mk.inj e).2.1,fun x hx y hy e=>?_⟩,Zet (ZbK h.fs) fun x _ y _ e=>(Mv.mk.inj e).1,fun x hx y hy e=>?_⟩
 · obtain ⟨s,hs,rfl⟩:=Xh.1 hy;have:=h.mv x hx;rw [e] at this;dsimp only at this;omega
 · obtain ⟨s,hs,rfl⟩:=Xh.1 hy;have h1:=h.fi s hs;rcases Xs.1 hx with hx|hx
   · have:=h.mv x hx;rw [e] at this;dsimp only at this;omega
   · obtain ⟨s',hs',e'⟩:=Xh.1 hx;rw [e] at e';have:=(Mv.mk.inj e').1;omega
theorem Zq4 {i:Nat} {r:List Nat} {s n:Nat} (h:r[s]? =some n):(Zan i r)[s]? =some ⟨(i:Nat),(n:Nat),(s:Nat)⟩:=by
 unfold Zan
 rw [Xm,List.getElem?_zipIdx,h]
 show some (⟨(i:Nat),(n:Nat),((0+s:Nat):Int)⟩:Mv)=_
 rw [Xw]
def Zg2 (k:Nat) (rows:List (List Nat)):List Mv:=(rows.zipIdx k).flatMap fun p=>Zan p.2 p.1
theorem Zd5 (k:Nat) (r:List Nat) (rows:List (List Nat)):Zg2 k (r::rows)=Zan k r++Zg2 (k+1) rows:=by
 unfold Zg2;rw [VS,Xr]
theorem Zjq {m:Nat}:∀{rows:List (List Nat)} {k i s n:Nat} {r:List Nat},(∀r∈rows,r.length=m)→rows[i]? =some r→r[s]? =some n→(Zg2 k rows)[i*m+s]? =some ⟨((k+i:Nat):Int),(n:Nat),(s:Nat)⟩
 |[],_,_,_,_,_,_,h,_=>by simp at h
 | x::rows,k,0,s,n,r,hl,hr,hs=>by
   simp only [Vt,Option.some.injEq] at hr;subst hr;rw [Zd5,X4,Xw,Vc (by rw [Zes];exact ζg hs),Zq4 hs];rfl
 | x::rows,k,i+1,s,n,r,hl,hr,hs=>by
   simp only [VV] at hr;have hx:=hl x (Xk ..);rw [Zd5,Vl (by rw [Zes,hx,XQ];omega),Zes,hx,show (i+1)*m+s-m=i*m+s by rw [XQ];omega,Zjq (fun r hr=>hl r (Xn _ hr)) hr hs];rw [show k+1+i=k+(i+1) by omega]
theorem Zhs {i:Nat} {r:List Nat}:∀m∈Zan i r,m.src=(i:Nat):=fun m hm=>by
 obtain ⟨n,s,_,rfl⟩:=Zns hm
 rfl
theorem ZlQ {k:Nat} {rows:List (List Nat)}:∀m∈Zg2 k rows,(k:Int)≤m.src:=fun m hm=>by
 unfold Zg2 at hm
 obtain ⟨p,hp,hm⟩:=XR.1 hm
 rw [Zhs m hm]
 have:=List.mem_zipIdx hp
 omega
theorem Zjr:∀{rows:List (List Nat)} {k i:Nat} {r:List Nat},rows[i]? =some r→(Zg2 k rows).filter (fun m=>decide (m.src=((k+i:Nat):Int)))=Zan (k+i) r
 |[],_,_,_,h=>by simp at h
 | x ::rows,k,0,r,h=>by
   simp only [Vt,Option.some.injEq] at h;subst h;rw [VP,Zd5,Vh,Uy.2 fun m hm=>decide_eq_true (Zhs m hm),List.filter_eq_nil_iff.2 fun m hm=>by
    have:=ZlQ m hm;simp only [decide_eq_true_eq];omega,XB]
 | x ::rows,k,i+1,r,h=>by
   simp only [VV] at h;rw [Zd5,Vh,List.filter_eq_nil_iff.2 fun m hm=>by
    have:=Zhs m hm;simp only [decide_eq_true_eq];omega,Vy,show k+(i+1)=k+1+i by omega]
   exact Zjr h
structure DetA (A:Aut):Prop where
 ok:AOk A
 pos:0<A.n.toNat
 mo:∀i s,i<A.n.toNat→s<A.syms.toNat→∃x:Mv,(movesOf A i)[s]? =some x∧A.moves[i*A.syms.toNat+s]? =some x∧x.dst=(stepA A i s:Nat)
 ml:∀i,i<A.n.toNat→(movesOf A i).length=A.syms.toNat
 sl:∀i s,i<A.n.toNat→s<A.syms.toNat→stepA A i s<A.n.toNat
theorem ZlR {A:Aut} {i s:Nat} {x:Mv} (h:A.moves[i*A.syms.toNat+s]? =some x):stepA A i s=x.dst.toNat:=by
 unfold stepA;rw [h];rfl
theorem ZCm {t:Tab} (ht:TOk t) {o:List Nat} {rows:List (List Nat)} (h:Fin t o rows) (hm:(ζ1 rows).length≤20000):DetA (ZbC t (o,rows)):=by
 have hok:=ZiL ht h hm
 have hn:(ZbC t (o,rows)).n.toNat=o.length:=XT _
 have hs:(ZbC t (o,rows)).syms.toNat=t.m:=XT _
 have key:∀i s,i<o.length→s<t.m→∃(r:List Nat) (n:Nat),rows[i]? =some r∧r[s]? =some n∧n<o.length∧(ZbC t (o,rows)).moves[i*t.m+s]? =some ⟨(i:Nat),(n:Nat),(s:Nat)⟩∧movesOf (ZbC t (o,rows)) i=Zan i r:=fun i s hi hs=>by
  obtain ⟨r,hr⟩:=ζm (show i<rows.length by rw [h.len];exact hi);have hrl:r.length=t.m:=h.ok.len r (Xb hr);obtain ⟨n,hn⟩:=ζm (show s<r.length by omega);obtain ⟨x,hx⟩:=ζm hi;refine ⟨r,n,hr,hn,(h.ok.to i x r s n hx hr hn).1,?_,?_⟩
  · have:=Zjq (k:=0) h.ok.len hr hn;rw [Xw] at this;exact this
  · have:=Zjr (k:=0) hr;rw [Xw] at this;exact this
 refine ⟨hok,by rw [hn];exact h.pos,fun i s hi hs'=>?_,fun i hi=>?_,fun i s hi hs'=>?_⟩
 · rw [hn] at hi;rw [hs] at hs' ⊢;obtain ⟨r,n,h1,h2,h3,h4,h5⟩:=key i s hi hs';refine ⟨_,by rw [h5];exact Zq4 h2,h4,?_⟩;rw [ZlR (by rw [hs];exact h4)];show ((n:Nat):Int)=(((n:Nat):Int).toNat:Nat);rw [XT]
 · rw [hn] at hi;obtain ⟨r,hr⟩:=ζm (show i<rows.length by rw [h.len];exact hi);have:=Zjr (k:=0) hr;rw [Xw] at this;show ((ζ1 rows).filter fun m=>decide (m.src=(i:Int))).length=_;rw [show ((ζ1 rows).filter fun m=>decide (m.src=(i:Int)))=Zan i r from this,Zes,hs];exact h.ok.len r (Xb hr)
 · rw [hn] at hi ⊢;rw [hs] at hs';obtain ⟨r,n,h1,h2,h3,h4,h5⟩:=key i s hi hs';rw [ZlR (by rw [hs];exact h4)];show ((n:Nat):Int).toNat<_;rw [XT];exact h3
theorem Zg3 {a A:Aut} (h:AOk a) (hr:ZbR a= .ok A):DetA A∧A.syms=a.syms:=by
 obtain ⟨t,o,rows,hs,hT,_,hF,rfl,hm⟩:=ZoS h hr
 refine ⟨ZCm hT hF hm,?_⟩
 unfold Zej at hs
 obtain ⟨q,_,rfl⟩:=XC.1 hs
 show ((a.syms.toNat:Nat):Int)=a.syms
 have:=h.s0
 omega
def ZoT (A B:Aut) (x:(Nat×Nat)×(Int×Int)):Prop:=x.1.1<A.n.toNat∧x.1.2<B.n.toNat
theorem ZiM {A B:Aut} (hA:DetA A) (hB:DetA B) (hs:A.syms=B.syms) {i:Nat} {o:List ((Nat×Nat)×(Int×Int))} {rows:List (List Nat)} (hu:(Zbb A B).upto ((0,0),(-1,-1)) i=some (o,rows)):(Zbb A B).Ok (ZoT A B) ((0,0),(-1,-1)) o rows∧(i≤o.length→rows.length=i)∧(o.length≤i→rows.length=o.length):=
 Srch.ok (W:=Zbb A B) (P:=ZoT A B) (show 1≤2000 by decide) ⟨hA.pos,hB.pos⟩ (fun i x s hx hsm=>⟨hA.sl _ _ hx.1 hsm,hB.sl _ _ hx.2 (by have:s<A.syms.toNat:=hsm;rw [←hs];exact this)⟩) hu
def ZlS (t:Tab) (x:Nat) (w:List Nat):Nat:=w.foldl (toT t) x
def ZlT (t:Tab) (x:Nat) (w:List Nat):Bool:=(t.fin[ZlS t x w]?).getD false
def Zb2 (m:Nat) (w:List Nat):Prop:=∀c∈w,c<m
def SameL (t:Tab) (x:Nat) (t':Tab) (x':Nat):Prop:=∀w,Zb2 t.m w→ZlT t x w=ZlT t' x' w
theorem Zeu (t:Tab) (x c:Nat) (w:List Nat):ZlT t x (c::w)=ZlT t (toT t x c) w:=rfl
theorem SameL.step {t t':Tab} {x x' s:Nat} (h:SameL t x t' x') (hs:s<t.m):SameL t (toT t x s) t' (toT t' x' s):=fun w hw=>by
 have:=h (s::w) fun c hc=>by
  rcases Xl.1 hc with rfl|hc
  · exact hs
  · exact hw c hc
 rw [Zeu,Zeu] at this;exact this
theorem SameL.symm {t t':Tab} {x x':Nat} (hm:t.m=t'.m) (h:SameL t x t' x'):SameL t' x' t x:=fun w hw=>(h w (by rw [hm];exact hw)).symm
theorem SameL.trans {t t' t'':Tab} {x x' x'':Nat} (hm:t.m=t'.m) (h:SameL t x t' x') (h':SameL t' x' t'' x''):SameL t x t'' x'':=fun w hw=>(h w hw).trans (h' w (by rw [←hm];exact hw))
section
variable {t:Tab}
theorem Zua (h:TOk t) {c:Nat→Nat} {x:Nat} (hx:x<t.rows.length):((t.rows[x]?).getD []).map c=(List.range t.m).map fun s=>c (toT t x s):=by
 obtain ⟨r,hr⟩:=ζm hx
 have hl:=h.rl r (Xb hr)
 rw [hr]
 refine Vn fun s=>?_
 show (r.map c)[s]? =_
 rw [Xm,Xm]
 by_cases hs:s<t.m
 · obtain ⟨n,hn⟩:=ζm (show s<r.length by omega);rw [hn,Ub hs];show some (c n)=some (c (toT t x s));rw [Zjo hr hn]
 · rw [XN (by omega),XN (by rw [Uq];omega)];rfl
theorem ZoU {m:Nat} {f g:Nat→Nat}:(List.range m).map f=(List.range m).map g↔∀s,s<m→f s=g s:=by
 constructor
 · intro h s hs;have h2:((List.range m).map f)[s]? =((List.range m).map g)[s]? :=by rw [h]
   rw [Xm,Xm,Ub hs] at h2;simpa using h2
 · intro h;exact Vs fun s hs=>h s (Vd.1 hs)
theorem ZoV (h:TOk t) {c:Nat→Nat} {x y:Nat} (hx:x<t.rows.length) (hy:y<t.rows.length):ZaW t.rows c x=ZaW t.rows c y↔c x=c y∧∀s,s<t.m→c (toT t x s)=c (toT t y s):=by
 unfold ZaW
 rw [Zua h hx,Zua h hy,List.cons.injEq,ZoU]
theorem ZiN {c:Nat→Nat} {x y:Nat} (hx:x<t.rows.length) (hy:y<t.rows.length):Zd4 t.rows c x=Zd4 t.rows c y↔ZaW t.rows c x=ZaW t.rows c y:=by
 constructor
 · intro h;obtain ⟨z,h1,h2⟩:=ZiC (ZiI (k:=ZaW t.rows c) hx).2;obtain ⟨z',h3,h4⟩:=ZiC (ZiI (k:=ZaW t.rows c) hy).2;have h5:posK id (Za4 (ZaW t.rows c) t.rows.length) (ZaW t.rows c x)=posK id (Za4 (ZaW t.rows c) t.rows.length) (ZaW t.rows c y):=h;rw [h5,h3] at h1
   cases h1;exact h2.symm.trans h4
 · intro h;unfold Zd4;rw [h]
structure CL (t:Tab) (c:Nat→Nat):Prop where
 co:∀x y,x<t.rows.length→y<t.rows.length→SameL t x t y→c x=c y
 fi:∀x y,x<t.rows.length→y<t.rows.length→c x=c y→t.fin[x]? =t.fin[y]?
theorem CL.next (h:TOk t) {c:Nat→Nat} (hc:CL t c):CL t (Zd4 t.rows c):=
 ⟨fun x y hx hy hl=>(ZiN hx hy).2 ((ZoV h hx hy).2 ⟨hc.co x y hx hy hl,fun s hs=>hc.co _ _ (ZcE h) (ZcE h) (hl.step hs)⟩),
  fun x y hx hy he=>hc.fi x y hx hy ((ZoV h hx hy).1 ((ZiN hx hy).1 he)).1⟩
structure CS (t:Tab) (c:Nat→Nat):Prop extends CL t c where
 st:∀x y s,x<t.rows.length→y<t.rows.length→s<t.m→c x=c y→c (toT t x s)=c (toT t y s)
theorem CS.lang (h:TOk t) {c:Nat→Nat} (hc:CS t c) {x y:Nat} (hx:x<t.rows.length) (hy:y<t.rows.length) (he:c x=c y):SameL t x t y:=fun w=>by
 induction w generalizing x y with
 | nil=>
   intro _;have:=hc.fi x y hx hy he;show (t.fin[x]?).getD false=(t.fin[y]?).getD false;rw [this]
 | cons s w ih=>
   intro hw;rw [Zeu,Zeu];exact ih (ZcE h) (ZcE h) (hc.st x y s hx hy (hw s (Xk ..)) he) fun c hc=>hw c (Xn _ hc)
theorem ZsW:∀{k:Nat} {L:List Nat},(∀v,v<k→v∈L)→L.length=k→L.Nodup:=fun {k}=>by
 induction k with
 |zero=>intro L _ hl;rw [XO hl];exact Vg
 | succ k ih=>
   intro L hL hl;have hm:=hL k (by omega);obtain ⟨A,B,rfl⟩:=List.append_of_mem hm;have h1:(A++B).Nodup:=ih (fun v hv=>by
    have:=hL v (by omega);rcases Xs.1 this with h|h
    · exact Vb _ h
    · rcases Xl.1 h with h|h
      · omega
      · exact X3 _ h) (by simp only [Xc,Xj] at hl ⊢;omega)
   have h2:k∉A++B:=fun h3=>by
    have h4:∀v,v<k+1→v∈A++B:=fun v hv=>by
     by_cases e:v=k
     · rw [e];exact h3
     · have:=hL v hv;rcases Xs.1 this with h|h
       · exact Vb _ h
       · rcases Xl.1 h with h|h
         · exact absurd h e
         · exact X3 _ h
    have h5:=ZlI (n:=k+1) (L:=List.range (k+1)) List.nodup_range fun s hs=>Vd.1 hs;have key:∀(M:List Nat) (n:Nat),M.Nodup→(∀v,v<n→v∈M)→n≤M.length:=fun M n _ hv=>by
     induction n generalizing M with
     |zero=>exact Xe _
     | succ n ih2=>
       have h6:=ih2 (M.erase n) ((by assumption:M.Nodup).erase _) fun v hv'=>(List.mem_erase_of_ne (by omega)).2 (hv v (by omega));rw [UM (hv n (by omega))] at h6;have:=List.length_pos_of_mem (hv n (by omega));omega
    have:=key _ _ h1 h4;simp only [Xc,Xj] at hl this;omega
   have hp:(A++k::B).Perm (k::(A++B)):=List.perm_middle;rw [hp.nodup_iff,Vf];exact ⟨h2,h1⟩
theorem Znu {α β:Type} {f:α→β}:∀{l:List α},(l.map f).Nodup→∀x∈l,∀y∈l,f x=f y→x=y
 |[],_,x,hx,_,_,_=>by cases hx
 | z ::l,h,x,hx,y,hy,e=>by
   rw [Xq,Vf] at h;rcases Xl.1 hx with h1|h1
   · rcases Xl.1 hy with h2|h2
     · rw [h1,h2]
     · exact absurd (Xh.2 ⟨y,h2,by rw [←e,h1]⟩) h.1
   · rcases Xl.1 hy with h2|h2
     · exact absurd (Xh.2 ⟨x,h1,by rw [e,h2]⟩) h.1
     · exact Znu h.2 x h1 y h2 e
theorem ZvG {c:Nat→Nat} {k:Nat} (hk:COk t.rows.length c k) (he:Zjn t.rows c=k) {x y:Nat} (hx:x<t.rows.length) (hy:y<t.rows.length) (hxy:c x=c y):ZaW t.rows c x=ZaW t.rows c y:=by
 have h1:∀v,v<k→v∈(Za4 (ZaW t.rows c) t.rows.length).map fun l=>l.headD 0:=fun v hv=>by
  obtain ⟨s,hs,rfl⟩:=hk.hit v hv;exact Xh.2 ⟨ZaW t.rows c s,Zd3.2 ⟨s,hs,rfl⟩,rfl⟩
 have h2:=ZsW h1 (by rw [Xf];exact he)
 exact Znu h2 _ (Zd3.2 ⟨x,hx,rfl⟩) _ (Zd3.2 ⟨y,hy,rfl⟩) hxy
theorem Zq5 (h:TOk t):∀{f:Nat} {c:Nat→Nat} {k:Nat},COk t.rows.length c k→CL t c→t.rows.length<f+k→CS t (ZhQ t.rows f c k)
 |0,c,k,hk,_,hf=>by have:=hk.le;omega
 | f +1,c,k,hk,hc,hf=>by
   rw [ZhQ];split
   · rename_i he;refine ⟨hc.next h,fun x y s hx hy hs hxy=>?_⟩;have h1:=((ZoV h hx hy).1 ((ZiN hx hy).1 hxy)).2 s hs;exact (ZiN (ZcE h) (ZcE h)).2 (ZvG hk he (ZcE h) (ZcE h) h1)
   · rename_i he;have:=hk.grow;exact Zq5 h hk.next (hc.next h) (by omega)
theorem ZA3 (h:TOk t):CL t (ZiJ t.fin):=by
 refine ⟨fun x y hx hy hl=>?_,fun x y hx hy he=>?_⟩
 · have:=hl [] fun c hc=>by cases hc
   have h1:(t.fin[x]?).getD false=(t.fin[y]?).getD false:=this;unfold ZiJ;rw [h1]
 · have hf:=h.fl;obtain ⟨b,hb⟩:=ζm (show x<t.fin.length by omega);obtain ⟨b',hb'⟩:=ζm (show y<t.fin.length by omega);unfold ZiJ at he;rw [hb,hb'] at he ⊢
   cases b<;>cases b'<;>simp_all
theorem ZsX (h:TOk t):CS t (ZbU t):=by
 unfold ZbU
 exact Zq5 h (COk.start t.fin _) (ZA3 h) (by omega)
theorem ZoW (h:TOk t) {x y:Nat} (hx:x<t.rows.length) (hy:y<t.rows.length):ZbU t x=ZbU t y↔SameL t x t y:=
 ⟨fun e=>(ZsX h).lang h hx hy e,fun e=>(ZsX h).co x y hx hy e⟩
end
section
variable {t t':Tab}
theorem Znv (h:TOk t) (h':TOk t') (hm:t.m=t'.m) (hL:SameL t 0 t' 0) (hle:t.rows.length≤t'.rows.length):Zb0 t=Zb0 t':=by
 obtain ⟨⟨o,rows⟩,h1⟩:=ZAZ h
 have hF:=Zh8 h h1
 have h2:(minW t).upto 0 t'.rows.length=some (o,rows):=by
  have hc:o.length≤t.rows.length:=hF.ok.cap;have h3:=Srch.upto_stop h1 hc (t'.rows.length-t.rows.length);have e:(minW t).cap+(t'.rows.length-t.rows.length)=t'.rows.length:=by show t.rows.length+_=_;omega
  rw [e] at h3;exact h3
 obtain ⟨o',h3,h4⟩:=Srch.sim (W:=minW t) (W':=minW t') (R:=fun x y=>x<t.rows.length∧y<t'.rows.length∧SameL t x t' y) hm hle
  (fun x x' y y' hx hx'=>by
    show ZbU t x=ZbU t x'↔ZbU t' y=ZbU t' y';rw [ZoW h hx.1 hx'.1,ZoW h' hx.2.1 hx'.2.1];constructor
    · exact fun e=>((hx.2.2.symm hm).trans hm.symm e).trans hm.symm hx'.2.2
    · exact fun e=>(hx.2.2.trans hm e).trans hm (hx'.2.2.symm hm))
  (fun i x y s hx hs=>⟨ZcE h,ZcE h',hx.2.2.step hs⟩) ⟨h.pos,h'.pos,hL⟩ h2
 have h5:(minW t').all 0=some (o',rows):=h3
 unfold Zb0
 rw [h1,h5]
 show (if 20000<(ζ1 rows).length then none else some (ZbC t (o,rows)))=(if 20000<(ζ1 rows).length then none else some (ZbC t' (o',rows)))
 have e:ZbC t (o,rows)=ZbC t' (o',rows):=by
  unfold ZbC;dsimp only;rw [h4.1,hm];congr 1;refine Zg1 _ fun i hi=>?_;obtain ⟨x,hx⟩:=ζm (show i<o.length by rw [h4.1];exact hi);obtain ⟨y,hy⟩:=ζm hi;have h6:=(h4.2 i x y hx hy).2.2 [] fun c hc=>by cases hc
  unfold ZdA;rw [hx,hy];exact h6
 rw [e]
theorem ZsY (h:TOk t) (h':TOk t') (hm:t.m=t'.m) (hL:SameL t 0 t' 0):Zb0 t=Zb0 t':=by
 rcases Nat.le_total t.rows.length t'.rows.length with h1|h1
 · exact Znv h h' hm hL h1
 · exact (Znv h' h hm.symm (hL.symm hm) h1).symm
end
def ZEc (a:Aut) (w:List Int):List Int:=w.foldl (fun S c=>ZaL a c S) (Za3 a a.start)
def wI (w:List Nat):List Int:=w.map fun c:Nat=>(c:Int)
def Zkf (a:Aut) (S:List Int) (w:List Int):List Int:=w.foldl (fun S c=>ZaL a c S) S
def ZeV (a:Aut) (w:List Int):Bool:=Zc0 a (ZEc a w)
theorem ZlU (a:Aut) (w:List Int):ZeV a w=Zc0 a (Zkf a (Za3 a a.start) w):=rfl
theorem Zq6 {a:Aut} (h:AOk a) {o:List (List Int)} {rows:List (List Nat)} (hu:(ZdS a).all (Za3 a a.start)=some (o,rows)):∀(w:List Nat) (i:Nat) (S:List Int),Zb2 a.syms.toNat w→o[i]? =some S→ZlT ⟨a.syms.toNat,rows,o.map (Zc0 a)⟩ i w=Zc0 a (Zkf a S (wI w)):=by
 obtain ⟨h2,h3,h4⟩:=ZoN h hu
 have hcap:o.length≤2000:=h2.cap
 have h5:=h4 hcap
 intro w
 induction w with
 | nil=>
   intro i S _ hi;show ((o.map (Zc0 a))[i]?).getD false=Zc0 a S;rw [Xm,hi];rfl
 | cons c w ih=>
   intro i S hw hi;have hc:c<a.syms.toNat:=hw c (Xk ..);obtain ⟨r,hr⟩:=ζm (show i<rows.length by have:=ζg hi;omega);have hl:r.length=a.syms.toNat:=h2.len r (Xb hr);obtain ⟨n,hn⟩:=ζm (show c<r.length by omega);obtain ⟨h6,h7⟩:=h2.to i S r c n hi hr hn;obtain ⟨T,hT,hT2⟩:=ZiC (f:=(ZdS a).key) (l:=o) (k:=(ZdS a).key ((ZdS a).step i S c)) (by rw [h7];exact h6);rw [h7] at hT;have hT3:T=ZaL a (c:Nat) S:=hT2;rw [Zeu,Zjo hr hn,ih n T (fun c hc=>hw c (Xn _ hc)) hT,hT3];rfl
theorem Zq7 {a:Aut} (h:AOk a) {t:Tab} (ht:Zej a=some t) {w:List Nat} (hw:Zb2 a.syms.toNat w):ZlT t 0 w=ZeV a (wI w):=by
 unfold Zej at ht
 obtain ⟨⟨o,rows⟩,h1,rfl⟩:=XC.1 ht
 obtain ⟨h2,_,_⟩:=ZoN h h1
 exact Zq6 h h1 w 0 _ hw h2.zero
theorem ZEd {a:Aut} {t:Tab} (ht:Zej a=some t):t.m=a.syms.toNat:=by
 unfold Zej at ht
 obtain ⟨q,_,rfl⟩:=XC.1 ht
 rfl
section
variable {t:Tab} {o:List Nat} {rows:List (List Nat)}
theorem ZlV (h:Fin t o rows) {i s:Nat} (hi:i<o.length) (hs:s<t.m):∃(r:List Nat) (n x y:Nat),rows[i]? =some r∧r[s]? =some n∧o[i]? =some x∧o[n]? =some y∧ZbU t y=ZbU t (toT t x s):=by
 obtain ⟨r,hr⟩:=ζm (show i<rows.length by rw [h.len];exact hi)
 have hrl:r.length=t.m:=h.ok.len r (Xb hr)
 obtain ⟨n,hn⟩:=ζm (show s<r.length by omega)
 obtain ⟨x,hx⟩:=ζm hi
 obtain ⟨h6,h7⟩:=h.ok.to i x r s n hx hr hn
 obtain ⟨y,hy,hy2⟩:=ZiC (f:=(minW t).key) (l:=o) (k:=(minW t).key ((minW t).step i x s)) (by rw [h7];exact h6)
 rw [h7] at hy
 exact ⟨r,n,x,y,hr,hn,hx,hy,hy2⟩
theorem Zq8 {i s n:Nat} {r:List Nat} (h1:rows[i]? =some r) (h2:r[s]? =some n):(⟨(i:Nat),(n:Nat),(s:Nat)⟩:Mv)∈ζ1 rows:=by
 unfold ζ1
 refine XR.2 ⟨(r,i),UF.2 h1,?_⟩
 unfold Zan
 exact Xh.2 ⟨(n,s),UF.2 h2,rfl⟩
theorem Znw (hok:AOk (ZbC t (o,rows))) {i:Nat} (hi:i<o.length) {l:List Int} (hl:∀x,x∈l↔x=(i:Int)):Za3 (ZbC t (o,rows)) l=[(i:Int)]:=by
 have hin:∀s∈l,0≤s∧s<(ZbC t (o,rows)).n:=fun s hs=>by
  rw [(hl s).1 hs];exact ⟨by omega,by show ((i:Nat):Int)<(o.length:Nat);omega⟩
 refine ZoH (ZdN hok.mi hin) (VC ..) fun x=>?_
 rw [Zer hok.mi hin,Xi]
 constructor
 · intro h;induction h with
   |base h=>exact (hl _).1 h
   | step _ hm hs hd ih=>
     obtain ⟨_,s,_,_,_,_,rfl⟩:=Zh9 hm;have h1:((s:Nat):Int)= -1:=hd;omega
 · intro h;subst h;exact .base ((hl _).2 rfl)
theorem Zjs (h:Fin t o rows) (hok:AOk (ZbC t (o,rows))) {i s n:Nat} {r:List Nat} (hr:rows[i]? =some r) (hn:r[s]? =some n) (hno:n<o.length):ZaL (ZbC t (o,rows)) (s:Nat) [(i:Int)]=[(n:Int)]:=by
 have hi:i<o.length:=by rw [←h.len];exact ζg hr
 refine Znw hok hno fun x=>?_
 have hin:∀s∈[(i:Int)],0≤s∧s<(ZbC t (o,rows)).n:=fun s hs=>by
  rw [Xi.1 hs];exact ⟨by omega,by show ((i:Nat):Int)<(o.length:Nat);omega⟩
 rw [ZdO hin]
 constructor
 · rintro ⟨m,hm,h1,h2,rfl⟩;obtain ⟨i',s',n',r',h3,h4,rfl⟩:=Zh9 hm;have h1:((i':Nat):Int)=i:=Xi.1 h1;have h2:((s':Nat):Int)=s:=h2;have e1:i'=i:=by omega
   have e2:s'=s:=by omega
   subst e1 e2;rw [hr] at h3;cases h3;rw [hn] at h4;cases h4;rfl
 · rintro rfl;exact ⟨_,Zq8 hr hn,Xi.2 rfl,rfl,rfl⟩
theorem Zyo (h:Fin t o rows) {i x:Nat} (hx:o[i]? =some x):Zc0 (ZbC t (o,rows)) [(i:Int)]=(t.fin[x]?).getD false:=by
 show (Zeh (ZbC t (o,rows)) (i:Int)||false)=_
 rw [VF,ZDk (ζg hx)]
 unfold ZdA;rw [hx];rfl
theorem ZA4 (ht:TOk t) (h:Fin t o rows) (hok:AOk (ZbC t (o,rows))):∀(w:List Nat) (i x:Nat),Zb2 t.m w→o[i]? =some x→Zc0 (ZbC t (o,rows)) (Zkf (ZbC t (o,rows)) [(i:Int)] (wI w))=ZlT t x w:=by
 intro w
 induction w with
 |nil=>intro i x _ hx;exact Zyo h hx
 | cons c w ih=>
   intro i x hw hx;obtain ⟨r,n,x',y,hr,hn,hx',hy,hc⟩:=ZlV h (ζg hx) (hw c (Xk ..));rw [hx] at hx';cases hx';show Zc0 _ (Zkf _ (ZaL _ (c:Nat) [(i:Int)]) (wI w))=ZlT t (toT t x c) w;have hw':Zb2 t.m w:=fun c hc=>hw c (Xn _ hc);rw [Zjs h hok hr hn (ζg hy),ih n y hw' hy];exact (ZoW ht (h.ok.p y (Xb hy)) (ZcE ht)).1 hc w hw'
theorem Zib (h:Fin t o rows) (hok:AOk (ZbC t (o,rows))):Za3 (ZbC t (o,rows)) (ZbC t (o,rows)).start=[((0:Nat):Int)]:=Znw hok h.pos fun x=>Xi
theorem Znx (ht:TOk t) (h:Fin t o rows) (hok:AOk (ZbC t (o,rows))) {w:List Nat} (hw:Zb2 t.m w):ZeV (ZbC t (o,rows)) (wI w)=ZlT t 0 w:=by
 rw [ZlU,Zib h hok]
 exact ZA4 ht h hok w 0 0 hw h.ok.zero
theorem ZvH (ht:TOk t) (hu:(minW t).all 0=some (o,rows)) (hm:(ζ1 rows).length≤20000):ZbR (ZbC t (o,rows))= .ok (ZbC t (o,rows)):=by
 have h:=Zh8 ht hu
 have hok:=ZiL ht h hm
 have hn1:=ht.n1
 have hcap:o.length≤t.rows.length:=h.ok.cap
 have h2:(minW t).upto 0 2000=some (o,rows):=by
  have h3:=Srch.upto_stop hu hcap (2000-t.rows.length);have e:(minW t).cap+(2000-t.rows.length)=2000:=by show t.rows.length+_=_;omega
  rw [e] at h3;exact h3
 have hsy:(ZbC t (o,rows)).syms.toNat=t.m:=XT _
 obtain ⟨o',h3,h4⟩:=Srch.sim (W:=minW t) (W':=ZdS (ZbC t (o,rows))) (R:=fun x S=>x<t.rows.length∧∃(i z:Nat),S=[(i:Int)]∧o[i]? =some z∧ZbU t z=ZbU t x) hsy.symm hn1
  (fun x x' S S' ⟨hx,i,z,e,hz,hc⟩ ⟨hx',i',z',e',hz',hc'⟩=>by
    show ZbU t x=ZbU t x'↔S=S';rw [e,e',←hc,←hc'];constructor
    · intro e2;have h5:posK (minW t).key o (ZbU t z)=i:=ZeC h.ok.nd hz;have h6:posK (minW t).key o (ZbU t z')=i':=ZeC h.ok.nd hz';rw [←h5,←h6,e2]
    · intro e2;(have:i=i':=by have:=(List.cons.inj e2).1;omega);subst this;rw [hz] at hz';cases hz';rfl)
  (fun i x S s ⟨hx,j,z,e,hz,hc⟩ hs=>by
    have hs:s<t.m:=hs;obtain ⟨r,n,z',y,hr,hn,hz',hy,hc2⟩:=ZlV h (ζg hz) hs;rw [hz] at hz';cases hz';refine ⟨ZcE ht,n,y,?_,hy,?_⟩
    · show ZaL _ (s:Nat) S=_;rw [e,Zjs h hok hr hn (ζg hy)]
    · rw [hc2];exact (ZsX ht).st z x s (h.ok.p z (Xb hz)) hx hs hc)
  (show (0:Nat)<t.rows.length∧_ from ⟨ht.pos,0,0,Zib h hok,h.ok.zero,rfl⟩) h2
 have h5:Zej (ZbC t (o,rows))=some ⟨t.m,rows,o'.map (Zc0 (ZbC t (o,rows)))⟩:=by
  unfold Zej;rw [show (ZdS (ZbC t (o,rows))).all (Za3 (ZbC t (o,rows)) (ZbC t (o,rows)).start)=some (o',rows) from h3,hsy];rfl
 have h6:=ZoO hok h5
 have h7:Zb0 ⟨t.m,rows,o'.map (Zc0 (ZbC t (o,rows)))⟩=Zb0 t:=ZsY h6 ht rfl fun w hw=>by
  have hw:Zb2 t.m w:=hw;rw [Zq7 hok h5 (by rw [hsy];exact hw),Znx ht h hok hw]
 unfold ZbR
 rw [h5]
 dsimp only
 rw [h7]
 unfold Zb0
 rw [hu]
 show lim (if 20000<(ζ1 rows).length then none else some (ZbC t (o,rows)))=_
 rw [if_neg (by omega)];rfl
end
theorem Zny {a A:Aut} (h:AOk a) (hr:ZbR a= .ok A) {w:List Nat} (hw:Zb2 a.syms.toNat w):ZeV A (wI w)=ZeV a (wI w):=by
 obtain ⟨t,o,rows,hs,hT,_,hF,rfl,hm⟩:=ZoS h hr
 rw [Znx hT hF (ZiL hT hF hm) (by rw [ZEd hs];exact hw),Zq7 h hs hw]
def IsMin (A:Aut):Prop:=∃t o rows,TOk t∧(minW t).all 0=some (o,rows)∧A=ZbC t (o,rows)∧(ζ1 rows).length≤20000
theorem Zq9 {a A:Aut} (h:AOk a) (hr:ZbR a= .ok A):IsMin A:=by
 obtain ⟨t,o,rows,hs,hT,hu,hF,e,hm⟩:=ZoS h hr
 exact ⟨t,o,rows,hT,hu,e,hm⟩
section
variable {A B:Aut}
theorem IsMin.aok (h:IsMin A):AOk A:=by
 obtain ⟨t,o,rows,hT,hu,rfl,hm⟩:=h
 exact ZiL hT (Zh8 hT hu) hm
theorem IsMin.det (h:IsMin A):DetA A:=by
 obtain ⟨t,o,rows,hT,hu,rfl,hm⟩:=h
 exact ZCm hT (Zh8 hT hu) hm
theorem IsMin.red (h:IsMin A):ZbR A= .ok A:=by
 obtain ⟨t,o,rows,hT,hu,rfl,hm⟩:=h
 exact ZvH hT hu hm
theorem IsMin.start (h:IsMin A):Za3 A A.start=[((0:Nat):Int)]:=by
 have hok:=h.aok
 obtain ⟨t,o,rows,hT,hu,rfl,hm⟩:=h
 exact Zib (Zh8 hT hu) hok
theorem IsMin.next (h:IsMin A) {i s:Nat} (hi:i<A.n.toNat) (hs:s<A.syms.toNat):ZaL A (s:Nat) [(i:Int)]=[((stepA A i s:Nat):Int)]∧stepA A i s<A.n.toNat:=by
 have hok:=h.aok
 have hd:=h.det
 refine ⟨?_,hd.sl i s hi hs⟩
 obtain ⟨t,o,rows,hT,hu,rfl,hm⟩:=h
 have hF:=Zh8 hT hu
 have e1:(ZbC t (o,rows)).n.toNat=o.length:=XT _
 have e2:(ZbC t (o,rows)).syms.toNat=t.m:=XT _
 rw [e1] at hi
 rw [e2] at hs
 obtain ⟨r,n,x,y,hr,hn,hx,hy,_⟩:=ZlV hF hi hs
 have h1:=Zjq (k:=0) hF.ok.len hr hn
 rw [Xw] at h1
 have h2:stepA (ZbC t (o,rows)) i s=n:=by
  rw [ZlR (x:=⟨(i:Nat),(n:Nat),(s:Nat)⟩) (by rw [e2];exact h1)];exact XT _
 rw [h2]
 exact Zjs hF hok hr hn (ζg hy)
theorem ZA5 (hA:IsMin A) (hB:IsMin B) (hs:A.syms=B.syms) {op:Int} {o:List ((Nat×Nat)×(Int×Int))} {rows:List (List Nat)} (hu:prodQ A B=some (o,rows)):∀(w:List Nat) (i:Nat) (p:(Nat×Nat)×(Int×Int)),Zb2 A.syms.toNat w→o[i]? =some p→ZlT (Zgv A B op (o,rows)) i w=Zkt op (Zc0 A (Zkf A [((p.1.1:Nat):Int)] (wI w))) (Zc0 B (Zkf B [((p.1.2:Nat):Int)] (wI w))):=by
 obtain ⟨h1,_,h3⟩:=ZiM hA.det hB.det hs hu
 have hcap:o.length≤2000:=h1.cap
 have h5:=h3 hcap
 intro w
 induction w with
 | nil=>
   intro i p _ hi;show ((o.map (ZbF A B op))[i]?).getD false=Zkt op (Zeh A _||false) (Zeh B _||false);rw [Xm,hi,VF,VF];rfl
 | cons c w ih=>
   intro i p hw hi;have hc:c<A.syms.toNat:=hw c (Xk ..);have hp:=h1.p p (Xb hi);obtain ⟨r,hr⟩:=ζm (show i<rows.length by have:=ζg hi;omega);have hl:r.length=A.syms.toNat:=h1.len r (Xb hr);obtain ⟨n,hn⟩:=ζm (show c<r.length by omega);obtain ⟨h6,h7⟩:=h1.to i p r c n hi hr hn;obtain ⟨q,hq,hq2⟩:=ZiC (f:=(Zbb A B).key) (l:=o) (k:=(Zbb A B).key ((Zbb A B).step i p c)) (by rw [h7];exact h6);rw [h7] at hq;have hq3:q.1=(stepA A p.1.1 c,stepA B p.1.2 c):=hq2;rw [Zeu,Zjo (t:=Zgv A B op (o,rows)) hr hn,ih n q (fun c hc=>hw c (Xn _ hc)) hq,hq3];dsimp only;rw [←(hA.next hp.1 hc).1,←(hB.next hp.2 (by rw [←hs];exact hc)).1];rfl
theorem ZvI (hA:IsMin A) (hB:IsMin B) (hs:A.syms=B.syms) {op:Int} {q:List ((Nat×Nat)×(Int×Int))×List (List Nat)} (hu:prodQ A B=some q) {w:List Nat} (hw:Zb2 A.syms.toNat w):ZlT (Zgv A B op q) 0 w=Zkt op (ZeV A (wI w)) (ZeV B (wI w)):=by
 obtain ⟨h1,_,_⟩:=ZiM hA.det hB.det hs hu
 rw [ZlU,ZlU,hA.start,hB.start]
 exact ZA5 hA hB hs hu w 0 _ hw h1.zero
end
theorem Znz {a A:Aut} (h:AOk a) (hr:ZbR a= .ok A):A.syms=a.syms:=(Zg3 h hr).2
theorem Zjt {a C:Aut} (h:Zfe a= .ok C):IsMin C∧C.syms=a.syms∧∀w,Zb2 a.syms.toNat w→ZeV C (wI w)=ZeV a (wI w):=by
 obtain ⟨h1,h2⟩:=ZA2 h
 have ha:=Zfd h1
 exact ⟨Zq9 ha h2,Znz ha h2,fun w hw=>Zny ha h2 hw⟩
inductive Pth (a:Aut):Int→List Int→Int→Prop
 |nil (s:Int):Pth a s [] s
 |eps {m:Mv} {w:List Int} {t:Int} (hm:m∈a.moves) (hs:m.sym= -1) (h:Pth a m.dst w t):Pth a m.src w t
 |sym {m:Mv} {w:List Int} {t:Int} (hm:m∈a.moves) (hs:¬m.sym= -1) (h:Pth a m.dst w t):Pth a m.src (m.sym::w) t
section
variable {a:Aut}
theorem Pth.app {s x t:Int} {u v:List Int} (h:Pth a s u x) (h':Pth a x v t):Pth a s (u++v) t:=by
 induction h with
 |nil s=>exact h'
 |eps hm hs _ ih=>exact .eps hm hs (ih h')
 |sym hm hs _ ih=>exact .sym hm hs (ih h')
theorem Pth.cons {s t c:Int} {w:List Int} (h:Pth a s (c::w) t):∃m∈a.moves,Pth a s [] m.src∧m.sym=c∧¬m.sym= -1∧Pth a m.dst w t:=by
 generalize e:c::w=v at h
 induction h with
 |nil s=>cases e
 | eps hm hs _ ih=>
   obtain ⟨m',h1,h2,h3⟩:=ih e;exact ⟨m',h1, .eps hm hs h2,h3⟩
 | sym hm hs h _=>
   cases e;exact ⟨_,hm, .nil _,rfl,hs,h⟩
theorem ZoX {S:List Int} {t:Int}:Rch a S t↔∃s∈S,Pth a s [] t:=by
 constructor
 · intro h;induction h with
   |base h=>exact ⟨_,h, .nil _⟩
   | step _ hm hs hc ih=>
     obtain ⟨s,h1,h2⟩:=ih;have:=h2.app (hs▸Pth.eps hm hc (.nil _));exact ⟨s,h1,this⟩
 · rintro ⟨s,h1,h2⟩;have key:∀{x y:Int} {v:List Int},Pth a x v y→v=[]→Rch a S x→Rch a S y:=fun h=>by
    induction h with
    |nil s=>exact fun _ h=>h
    |eps hm hs _ ih=>exact fun e h=>ih e (.step h hm rfl hs)
    |sym hm hs _ ih=>exact fun e=>by cases e
   exact key h2 rfl (.base h1)
theorem Zra (h:AOk a):∀{w:List Int} {S:List Int} {t:Int},(∀c∈w,¬c= -1)→InS a S→(t∈Zkf a (Za3 a S) w↔∃s∈S,Pth a s w t)
 | [],S,t,_,hS=>by
   show t∈Za3 a S↔_;rw [Zer h.mi hS,ZoX]
 | c ::w,S,t,hw,hS=>by
   have hc:=ZgX h.mi hS;show t∈Zkf a (Za3 a (Zch a c (Za3 a S))) w↔_;rw [Zra h (fun c hc=>hw c (Xn _ hc)) (ZcC h.mi c _)];constructor
   · rintro ⟨x,h1,h2⟩;obtain ⟨m,hm,h3,h4,rfl⟩:=(ZdO hc).1 h1;obtain ⟨s,h5,h6⟩:=ZoX.1 ((Zer h.mi hS _).1 h3);refine ⟨s,h5,?_⟩;have:=h6.app (Pth.sym hm (by rw [h4];exact hw c (Xk ..)) h2);rw [h4] at this;exact this
   · rintro ⟨s,h1,h2⟩;obtain ⟨m,hm,h3,h4,_,h5⟩:=h2.cons;exact ⟨m.dst,(ZdO hc).2 ⟨m,hm,(Zer h.mi hS _).2 (ZoX.2 ⟨s,h1,h3⟩),h4,rfl⟩,h5⟩
def Lng (a:Aut) (w:List Int):Prop:=∃s∈a.start,∃f∈a.fin,Pth a s w f
theorem ZkO (h:AOk a) {w:List Int} (hw:∀c∈w,0≤c):ZeV a w=true↔Lng a w:=by
 unfold ZeV Zc0
 rw [UG]
 have key:∀t,t∈ZEc a w↔∃s∈a.start,Pth a s w t:=fun t=>Zra h (fun c hc=>by have:=hw c hc;omega) h.st
 constructor
 · rintro ⟨t,h1,h2⟩;obtain ⟨s,h3,h4⟩:=(key t).1 h1;unfold Zeh at h2;obtain ⟨f,h5,h6⟩:=UG.1 h2;rw [decide_eq_true_eq] at h6;subst h6;exact ⟨s,h3,f,h5,h4⟩
 · rintro ⟨s,h3,f,h5,h4⟩;refine ⟨f,(key f).2 ⟨s,h3,h4⟩,?_⟩;unfold Zeh;exact UG.2 ⟨f,h5,by simp⟩
theorem Pth.mono {b:Aut} (hs:∀m∈a.moves,m∈b.moves) {s t:Int} {w:List Int} (h:Pth a s w t):Pth b s w t:=by
 induction h with
 |nil s=>exact .nil s
 |eps hm h1 _ ih=>exact .eps (hs _ hm) h1 ih
 |sym hm h1 _ ih=>exact .sym (hs _ hm) h1 ih
theorem ZDl {w:List Int}:Lng (mkA a) w↔Lng a w:=by
 have h1:∀m,m∈(mkA a).moves↔m∈a.moves:=fun m=>Zc6
 constructor
 · rintro ⟨s,hs,f,hf,h⟩;exact ⟨s,hs,f,hf,h.mono fun m hm=>(h1 m).1 hm⟩
 · rintro ⟨s,hs,f,hf,h⟩;exact ⟨s,hs,f,hf,h.mono fun m hm=>(h1 m).2 hm⟩
end
theorem ZeJ {X C:Aut} (hp:PreA X) (h:ZdB X= .ok C):IsMin C∧C.syms=X.syms∧∀w,Zb2 X.syms.toNat w→(ZeV C (wI w)=true↔Lng X (wI w)):=by
 unfold ZdB ZlO at h
 split at h
 · cases h
 · rename_i hb;have hok:=hp.aok hb;have h:ZbR (mkA X)= .ok C:=h;have hsy:C.syms=(mkA X).syms:=Znz hok h;refine ⟨Zq9 hok h,hsy,fun w hw=>?_⟩;rw [Zny hok h (show Zb2 (mkA X).syms.toNat w from hw),ZkO hok,ZDl];intro c hc;obtain ⟨n,_,rfl⟩:=Xh.1 hc;omega
def ZbS (n:Int) (l:List Int):List Int:=l.map (· +n)
def Zel (n:Int) (l:List Mv):List Mv:=l.map fun m=>⟨m.src+n,m.dst+n,m.sym⟩
def Zff (n f:Int) (l:List Int):List Mv:=l.map fun s=>⟨f,s+n,-1⟩
def Zg4 (n:Int) (F l:List Int):List Mv:=F.flatMap fun f=>Zff n f l
def Zdv (a b:Aut):Aut:=⟨a.n+b.n,a.syms,a.start++ZbS a.n b.start,a.fin++ZbS a.n b.fin,a.moves++Zel a.n b.moves⟩
def ZcT (a b:Aut):Aut:=⟨a.n+b.n,a.syms,a.start,ZbS a.n b.fin,a.moves++Zel a.n b.moves++Zg4 a.n a.fin b.start⟩
theorem ZvJ (n:Int) {l:List Int} {k:Nat} {x:Int} (h:l[k]? =some x):ZbS n (l.take (k+1))=ZbS n (l.take k)++[x+n]:=by unfold ZbS;rw [ζQ h,Xy];rfl
theorem ZvK (n:Int) {l:List Mv} {k:Nat} {x:Mv} (h:l[k]? =some x):Zel n (l.take (k+1))=Zel n (l.take k)++[⟨x.src+n,x.dst+n,x.sym⟩]:=by unfold Zel;rw [ζQ h,Xy];rfl
theorem ZnA (n f:Int) {l:List Int} {k:Nat} {x:Int} (h:l[k]? =some x):Zff n f (l.take (k+1))=Zff n f (l.take k)++[⟨f,x+n,-1⟩]:=by unfold Zff;rw [ζQ h,Xy];rfl
theorem ZvL (n:Int) {F:List Int} {k:Nat} {f:Int} (l:List Int) (h:F[k]? =some f):Zg4 n (F.take (k+1)) l=Zg4 n (F.take k) l++Zff n f l:=by unfold Zg4;rw [ζQ h,XS,VD]
theorem ZeK (n:Int) (l:List Int):(ZbS n l).length=l.length:=Xf _
theorem ZiO (n:Int) (l:List Mv):(Zel n l).length=l.length:=Xf _
theorem ZlW (n:Int) (l:List Int):∀F:List Int,(Zg4 n F l).length=F.length*l.length
 |[]=>by simp [Zg4]
 | f::F=>by
   have:=ZlW n l F;unfold Zg4 at this ⊢;rw [Xr,Xc,this,Xj,XQ,Nat.add_comm];unfold Zff;rw [Xf]
theorem ZlX {n:Int} {l:List Int} (h:l.Nodup):(ZbS n l).Nodup:=Zet h fun x _ y _ e=>by omega
theorem Zht {α:Type} {l m:List α} (h1:l.Nodup) (h2:m.Nodup) (h:∀x∈l,x∉m):(l++m).Nodup:=VB.2 ⟨h1,h2,fun x hx y hy e=>h x hx (e▸hy)⟩
theorem Zci {n x:Int} {l:List Int}:x∈ZbS n l↔∃y∈l,y+n=x:=by unfold ZbS;rw [Xh]
theorem Zd6 {n:Int} {x:Mv} {l:List Mv}:x∈Zel n l↔∃m∈l,(⟨m.src+n,m.dst+n,m.sym⟩:Mv)=x:=by unfold Zel;rw [Xh]
theorem ZfJ {n:Int} {x:Mv} {F l:List Int}:x∈Zg4 n F l↔∃f∈F,∃s∈l,(⟨f,s+n,-1⟩:Mv)=x:=by
 unfold Zg4 Zff
 simp only [XR,Xh]
section
variable {a b:Aut}
theorem ZnB (ha:VOk a) {l m:List Int} (hl:InS a l) (hm:InS b m) (h1:l.Nodup) (h2:m.Nodup):(l++ZbS a.n m).Nodup:=
 Zht h1 (ZlX h2) fun x hx hx'=>by
  obtain ⟨y,hy,rfl⟩:=Zci.1 hx';have h3:=hl _ hx;have h4:=hm y hy;omega
theorem Zyp (ha:VOk a) (hb:VOk b) {l m:List Int} (hl:InS a l) (hm:InS b m):∀x∈l++ZbS a.n m,0≤x∧x<a.n+b.n:=fun x hx=>by
 have h1:=ha.n0
 have h2:=hb.n0
 rcases Xs.1 hx with hx|hx
 · have:=hl x hx;omega
 · obtain ⟨y,hy,rfl⟩:=Zci.1 hx;have:=hm y hy;omega
theorem Zub (ha:VOk a) (hb:VOk b) (hs:a.syms=b.syms):∀m∈a.moves++Zel a.n b.moves,0≤m.src∧m.src<a.n+b.n∧0≤m.dst∧m.dst<a.n+b.n∧-1≤m.sym∧m.sym<a.syms:=fun m hm=>by
 have h1:=ha.n0
 have h2:=hb.n0
 rcases Xs.1 hm with hm|hm
 · have:=ha.mv m hm;omega
 · obtain ⟨y,hy,rfl⟩:=Zd6.1 hm;have:=hb.mv y hy;dsimp only;omega
theorem ZlY (ha:VOk a) (hb:VOk b):(a.moves++Zel a.n b.moves).Nodup:=
 Zht (Zia ha.ms) (Zet (Zia hb.ms) fun x _ y _ e=>by
  have e:=Mv.mk.inj e
  cases x;cases y;simp only [Mv.mk.injEq] at e ⊢;omega) fun x hx hx'=>by
   obtain ⟨y,hy,rfl⟩:=Zd6.1 hx';have h3:=ha.mv _ hx;have h4:=hb.mv y hy;dsimp only at h3;omega
theorem Zju (ha:VOk a) (hb:VOk b) (hs:a.syms=b.syms):PreA (Zdv a b):=by
 have h1:=ha.n0
 have h2:=hb.n0
 exact ⟨by show 0≤a.n+b.n;omega,ha.s0,ha.s1,Zyp ha hb ha.st hb.st,Zyp ha hb ha.fi hb.fi,ZnB ha ha.st hb.st (ZbK ha.ss) (ZbK hb.ss),ZnB ha ha.fi hb.fi (ZbK ha.fs) (ZbK hb.fs),Zub ha hb hs⟩
theorem ZnC (ha:VOk a) (hb:VOk b):(ZcT a b).moves.Nodup:=by
 show (a.moves++Zel a.n b.moves++Zg4 a.n a.fin b.start).Nodup
 refine Zht (ZlY ha hb) ?_ fun x hx hx'=>?_
 · have key:∀F:List Int,F.Nodup→(Zg4 a.n F b.start).Nodup:=fun F=>by
    induction F with
    |nil=>exact fun _=>Vg
    | cons f F ih=>
      intro h;rw [Vf] at h;show (Zff a.n f b.start++Zg4 a.n F b.start).Nodup;refine Zht (Zet (ZbK hb.ss) fun x _ y _ e=>by have:=(Mv.mk.inj e).2.1;omega) (ih h.2) fun x hx hx'=>?_;obtain ⟨f',hf',s',_,rfl⟩:=ZfJ.1 hx';unfold Zff at hx;obtain ⟨s,_,e⟩:=Xh.1 hx;have:=(Mv.mk.inj e).1;subst this;exact h.1 hf'
   exact key _ (ZbK ha.fs)
 · obtain ⟨f,hf,s,hs,rfl⟩:=ZfJ.1 hx';have h3:=ha.fi f hf;have h4:=hb.st s hs;rcases Xs.1 hx with hx|hx
   · have h5:=ha.mv _ hx;dsimp only at h5;omega
   · obtain ⟨y,hy,e⟩:=Zd6.1 hx;have h5:=hb.mv y hy;have h6:=(Mv.mk.inj e).1;omega
theorem ZkP (ha:VOk a) (hb:VOk b) (hs:a.syms=b.syms):PreA (ZcT a b):=by
 have h1:=ha.n0
 have h2:=hb.n0
 refine ⟨by show 0≤a.n+b.n;omega,ha.s0,ha.s1,fun x hx=>?_,fun x hx=>?_,ZbK ha.ss,ZlX (ZbK hb.fs),fun m hm=>?_⟩
 · have:=ha.st x hx;show 0≤x∧x<a.n+b.n;omega
 · obtain ⟨y,hy,rfl⟩:=Zci.1 hx;have:=hb.fi y hy;show 0≤y+a.n∧y+a.n<a.n+b.n;omega
 · have hm':m∈a.moves++Zel a.n b.moves++Zg4 a.n a.fin b.start:=hm;rcases Xs.1 hm' with hm|hm
   · exact Zub ha hb hs m hm
   · obtain ⟨f,hf,s,hs',rfl⟩:=ZfJ.1 hm;have h3:=ha.fi f hf;have h4:=hb.st s hs';have h5:=ha.s0;show 0≤f∧f<a.n+b.n∧0≤s+a.n∧s+a.n<a.n+b.n∧-1≤(-1:Int)∧(-1:Int)<a.syms;omega
end
def Zgl (a b:Aut):Except Int Aut:=if ¬Zb4 a b=0 then .error (Zb4 a b) else ZdB (Zdv a b)
def Zg5 (a b:Aut):Except Int Aut:=if ¬Zb4 a b=0 then .error (Zb4 a b) else ZdB (ZcT a b)
theorem ZlZ:ElT Tryz.prog 170 5 1 1 (.int .u8 0):=⟨Tryz.underlying170,by kernel_rfl,rfl,by decide⟩
theorem ZvM {l:List Int} {k:Nat} {x:Int} (h:l[k]? =some x):Zd9 (l.take (k+1))=Zd9 (l.take k)++Lib.itoa x++[32]:=by
 unfold Zd9;rw [ζQ h,XS];simp
theorem Zuc:∀(k u:Nat),u<10^(k+1)→Lib.nDigits u≤k+1
 |0,u,h=>by rw [Lib.nDigits_small (by simpa using h)];omega
 | k +1,u,h=>by
   by_cases h1:u<10
   · rw [Lib.nDigits_small h1];omega
   · rw [Lib.nDigits_big h1];have:=Zuc k (u / 10) (by rw [Nat.pow_succ] at h;omega);omega
theorem Zrb {x:Int} (h0:0≤x) (h1:x≤1000000):(Lib.itoa x).length≤21:=by
 unfold Lib.itoa
 rw [if_neg (by omega),Lib.decDigits_length]
 have:=Zuc 6 x.toNat (by omega)
 omega
theorem Zrc:∀{l:List Int},(∀x∈l,0≤x∧x≤1000000)→(Zd9 l).length≤l.length*22
 |[],_=>Xd _
 | x::l,h=>by
   have h1:=Zrc fun y hy=>h y (Xn _ hy);have hx:=h x (Xk ..);have h2:=Zrb hx.1 hx.2;have:Zd9 (x::l)=Lib.itoa x++[32]++Zd9 l:=rfl;rw [this,Xc,Xc];simp only [Xj,Xz];omega
theorem Zyq (e:Nat) {l:List Int} {k:Nat} {x:Int} (h:l[k]? =some x):PV.own e 1 ((Zd9 (l.take k)).length+(Lib.itoa x).length+1) ((Zd9 (l.take k)++Lib.itoa x).map ZhM++[PV.val (.int .u8 32)])= .own e 1 (Zd9 (l.take (k+1))).length ((Zd9 (l.take (k+1))).map ZhM):=by
 rw [ZvM h]
 simp only [Xy,Xc,Xj,Xz,Xw,Xq,X8]
 rfl
theorem ZA6:Tryz.prog.globalNamed "internal/strconv.uint64pow10"=ZwC:=by kernel_rfl
theorem ZvN:ZtO Tryz.prog 260 5:=fun B n i h0 h1 sv xs w hown hBw hlim htab=>Tryz.strconv_AppendInt_10 B n i h0 h1 sv xs w hown hBw hlim htab
theorem Zl0 (l:List Int) (hl:l.length≤1000000) (h0:∀x∈l,0≤x∧x≤1000000):AF Tryz.prog 231 [pInts l] (· = .val (.string (ZfH l))):=by
 refine AFd.of_bodyS 20 Tryz.func231 rfl Tryz.ntmps231 (Xa rfl) ?_
 intro w0 M0 vs hl hv hS
 obtain ⟨v0,rfl⟩:=Zco hl
 clear hl hv
 have hs0:=hS 0 v0 _ rfl rfl
 clear hS
 refine nav ?_
 (refine ζa ?_<;>refine xL 2 ζc ?_<;>refine ζd ?_)
 (refine ζa ?_<;>refine xL 3 ζc ?_<;>refine ζd ?_)
 refine ζw (ZbW 200 5 1 rfl) fun _=>?_
 (refine ζa ?_<;>refine xL 6 ζb (xL 7 (ζU ζu) (xL 8 ζb ?_))<;>refine ζd ?_)
 refine ζy (ι:={q:Nat×Value//q.1≤l.length∧q.2.oneCell'=true}) (fun k=>⟨[(6,_,_),(7,_,_),(3,k.1.2, .val k.1.2),(8, .int .i64 k.1.1,pInt k.1.1)],[(200,k.1.2, .own 5 1 (Zd9 (l.take k.1.1)).length ((Zd9 (l.take k.1.1)).map ZhM))]⟩) (fun k=>l.length-k.1.1) ⟨(0, .slice none 0 0),Xe _,rfl⟩ (fun a w H=>H.weaken ⟨rfl,rfl,rfl,rfl,trivial⟩ ⟨rfl,trivial⟩) ?_
 rintro ⟨⟨k,r⟩,hk,hr⟩
 dsimp only
 dsimp only at hk hr
 have hkl:=Zrc (l:=l.take k) (fun x hx=>h0 x (List.mem_of_mem_take hx))
 rw [Xu] at hkl
 refine nav ?_
 (refine ζa ?_<;>refine xL 9 ζK ?_<;>refine ζd ?_)
 (first|refine cCd ?_ ?_|refine cC ?_ ?_)<;>intro hb9
 · first
   |exact bN hb9
   | (
    obtain ⟨x,hx⟩:=ζm (show k<l.length by omega);have e1:=Zas (f:=pInt) hx;have hx0:=h0 x (Xb hx);have hil:=Zrb hx0.1 hx0.2;refine nav ?_;(refine ζa ?_<;>refine xL 10 (ζI ζu) ?_<;>(refine yL 11 (ZaE ζp) fun v11 h=>?_;cases h)<;>refine xL 5 ζc ?_<;>refine ζd ?_)
    (refine ζa ?_<;>refine xL 12 ζb (xL 13 ζb ?_)<;>refine Zxh (i:=x) (bs:=Zd9 (l.take k)) (n:=(Zd9 (l.take k)).length) 200 14 [6,7,8] ZvN (Tryz.call260) (fun _ h=>h) (fun h=>h) ZA6 rfl ⟨hs0, .val _, .val _,trivial⟩ (by omega) (by omega) (by omega) fun h14 ho14=>?_<;>refine ζP (kk:=1) 15 ZlZ fun h15 ho15=>?_<;>(refine ζ0 14 15 16 ZlZ fun h16 ho16=>?_;refine ζr (ζF (l:=16) 200 rfl rfl) fun _=>?_;refine ζr (ζM (l:=200) rfl (Zyq _ hx)) fun _=>?_)<;>refine xL 3 ζc ?_<;>refine ζd ?_)
    (refine ζa ?_<;>refine xL 17 ζG (xL 8 ζb ?_)<;>refine ζd ?_)
    refine ζj (
     ⟨(k+1,h16),ζg hx,ho16⟩
     ) (by dsimp only;omega) ⟨rfl,rfl,rfl,rfl,trivial⟩ ⟨rfl,trivial⟩)
 · first
   |exact bN hb9
   | (
    refine nav ?_;(refine ζa ?_<;>refine xL 18 ζb (xL 19 (ZC1 200 Tryz.underlying170 Tryz.underlying5 Tryz.underlying9) (xL 2 ζc ?_))<;>refine ζd ?_)
    refine ζx (Tryz.results231) rfl ?_;rw [Xo (by omega)];rfl)
theorem Zbt:AggT Tryz.prog 147 3=true:=by kernel_rfl
theorem ZbP:FldT Tryz.prog 147 1 1=true:=by kernel_rfl
theorem Zcd:FldT Tryz.prog 147 2 2=true:=by kernel_rfl
theorem ZeL:MpT Tryz.prog 251 9 3 .string (.int .i64 0):=⟨Tryz.underlying251,Tryz.underlying9, .inl rfl,by show ZeroT _ _ _;unfold ZeroT;kernel_rfl⟩
theorem ZcG:NoAgg Tryz.prog 117=true:=by kernel_rfl
theorem Zl1:ZbX Tryz.prog 147=some ((.agg #[(.int .i64 0),(.slice none 0 0),(.slice none 0 0)]),([0,1,2]:List Nat).map fun o=>(o,1)):=by kernel_rfl
theorem Zl2:(Tryz.prog.info? 117).map (·.size)=some 1:=by kernel_rfl
theorem Zl3:(Tryz.prog.info? 139).map (·.size)=some 1:=by kernel_rfl
theorem ZeM:ZeroT Tryz.prog 147 (.agg #[(.int .i64 0),(.slice none 0 0),(.slice none 0 0)]):=by unfold ZeroT;kernel_rfl
def ZfK (r:List Nat):PV:=pInts (toI r)
def Zgw (r:List Nat) (j:Nat):Int:=((r[j]?).getD 0:Nat)
theorem ZnD (m:Nat):vec m (fun j=>pInt (Zgw [] j))=List.replicate m (PV.val (.int .i64 0)):=by rw [Znp];rfl
theorem Zjv {m:Nat} {r:List Nat} (n:Nat) (h:r.length<m):(vec m fun j=>pInt (Zgw r j)).set (r.length*1) (pInt (n:Nat))=vec m fun j=>pInt (Zgw (r++[n]) j):=by
 rw [Xx,Zt6]
 refine ZfC fun i hi=>?_
 unfold Zgw
 by_cases e:i=r.length
 · subst e;rw [if_pos rfl];simp
 · rw [if_neg e,VX];split
   · rfl
   · rw [XN (by omega),XN (by simp;omega)]
theorem ZsZ (r:List Nat):(vec r.length fun j=>pInt (Zgw r j))=(toI r).map pInt:=by
 symm
 refine ZoK (by simp [toI]) fun i x hx=>?_
 unfold toI at hx
 rw [XE,Xm,XC] at hx
 obtain ⟨y,hy,rfl⟩:=hx
 unfold Zgw;rw [hy];rfl
theorem ZnE (e m:Nat) (r:List Nat) (h:r.length=m):share (.own e 1 m (vec m fun j=>pInt (Zgw r j)))=ZfK r:=by
 subst h
 rw [ZsZ,ζ2 _ _ _ (by simp [toI])];rfl
theorem ZnF (e:Nat) (L:List (List Nat)) (x:List Nat):PV.own e 1 (L.length+1) (L.map ZfK++[ZfK x])= .own e 1 (L++[x]).length ((L++[x]).map ZfK):=by simp
theorem Zl4 (e:Nat) (L:List Bool) (x:Bool):PV.own e 1 (L.length+1) (L.map ζV++[ζV x])= .own e 1 (L++[x]).length ((L++[x]).map ζV):=by simp
theorem Zkg (e n:Nat) (l:List (List Nat)) (hn:n=l.length):share (.own e 1 n (l.map ZfK))= .sl l.length (l.map ZfK):=by
 subst hn
 rw [share,Zai,XE]
 congr 1
theorem ZiP (e n:Nat) (l:List Bool) (hn:n=l.length):share (.own e 1 n (l.map ζV))= .sl l.length (l.map ζV):=by
 subst hn
 rw [share,Zai,XE];rfl
def Zrd (t:Tab):PV:= .agg [pInt (t.m:Nat), .sl t.rows.length (t.rows.map ZfK), .sl t.fin.length (t.fin.map ζV)]
def ZEx (a:Aut) (p:PV):Prop:=(∃t,Zej a=some t∧p= .tup [Zrd t,ζV true])∨(Zej a=none∧∃u1 u2 u3:Value,u1.oneCell'=true∧u2.oneCell'=true∧u3.oneCell'=true∧p= .tup [.agg [.val u1, .val u2, .val u3],ζV false])
section
variable {α:Type}
def Zg6 (f:α→ByteArray) (o:List α) (x:α):Nat:=if posK f o (f x)<o.length then posK f o (f x) else 0
theorem Zre (f:α→ByteArray) (o:List α) (x:α):(Zca (skv (ZaT f 0 o)) (.string (f x))).getD (.int .i64 0)= .int .i64 (Zg6 f o x:Nat)∧(Zca (skv (ZaT f 0 o)) (.string (f x))).isSome=decide (posK f o (f x)<o.length):=by
 rw [ZwN,ZgV]
 unfold Zg6
 by_cases h:posK f o (f x)<o.length
 · rw [if_pos h,if_pos h,decide_eq_true h,Xw];exact ⟨rfl,rfl⟩
 · rw [if_neg h,if_neg h,decide_eq_false h];exact ⟨rfl,rfl⟩
end
section
variable {α:Type} {P:Program} {sL hP:List (Nat×Ent)} {o:Oper}
theorem Zyr {t ks e:Nat} {kd:TypeDesc} {z:Value} {x y:Operand} {m:Value} {f:α→ByteArray} {L:List α} {a:α} {p q:PV} (l:Nat) (hT:MpT P t ks e kd z) (hz:z= .int .i64 0) (hkd:kd= .string) (ho:o.op= .lookup t x y true:=by exact rfl) (hx:ev sL x=some (m,p):=by exact rfl) (hl:lk hP l=some (m, .omap (skv (ZaT f 0 L))):=by exact rfl) (hy:ev sL y=some (.string (f a),q):=by exact rfl):
 YE P (⟨sL,hP⟩:St) o (· = .tuple [.int .i64 (Zg6 f L a:Nat), .bool (decide (posK f L (f a)<L.length))].toArray) (.tup [.val (.int .i64 (Zg6 f L a:Nat)), .val (.bool (decide (posK f L (f a)<L.length)))]):=by
 subst hz hkd
 have h:=ZpM (sL:=sL) (hP:=hP) (o:=o) l hT ho hx hl hy (Zii _ _)
 rw [(Zre f L a).1,(Zre f L a).2] at h
 exact h
end
theorem ZDm {o:List (List Int)} {x:List Int} (h:∀l∈o,∀s∈l,0≤s) (hx:∀s∈x,0≤s):posK ZfH o (ZfH x)=posK id o x:=ZgU fun l hl=>ZqY (h l hl) hx
theorem Zys (x:List Int):Zdn [] (.string (ZfH x)) (.int .i64 0)=skv (ZaT ZfH 0 [x]):=rfl
theorem Zrf {α:Type} {f:α→ByteArray} {o:List α} {x:α} (h:¬posK f o (f x)<o.length):Zdn (skv (ZaT f 0 o)) (.string (f x)) (.int .i64 (o.length:Nat))=skv (ZaT f 0 (o++[x])):=by
 have:=Zln f x o 0 h
 rw [Xw] at this
 rw [ZpI,this]
theorem SetOk.nn {a:Aut} {l:List Int} (h:SetOk a l):∀s∈l,0≤s:=fun s hs=>(h.1 s hs).1
theorem SetOk.bd {a:Aut} (ha:AOk a) {l:List Int} (h:SetOk a l):∀s∈l,0≤s∧s≤1000000:=fun s hs=>by have:=h.1 s hs;have:=ha.n1;omega
set_option maxHeartbeats 4000000 in
theorem Zic (a : Aut) (h:AOk a):AF Tryz.prog 185 [ζS a] (ZEx a):=by
 have hn1:=h.n1
 have hs0:=h.s0
 have hs1:=h.s1
 have hsN:((a.syms.toNat:Nat):Int)=a.syms:=by omega
 have hst:=Znq h
 refine AF.of_body 96 Tryz.func185 rfl Tryz.ntmps185 (Xa rfl) ?_
 intro w0 M0 vs hl hv
 obtain ⟨v0,rfl⟩:=Zco hl
 clear hl hv
 refine nav ?_
 (refine ζa ?_<;>refine ζH 1 5 fun h1=>?_<;>refine ζs [(.int .i64 0),(.slice none 0 0),(.slice none 0 0)] 3 2 ZeM fun h2=>?_<;>refine xL 3 ζc ?_<;>refine ζd ?_)
 (refine ζa ?_<;>(refine yL 14 (ζk 1 ζo) fun v14 h=>?_;cases h)<;>(refine cS 15 (cA Tryz.call110 (Zgg a h)) fun v15 h=>?_;cases h)<;>refine xL 4 ζc ?_<;>refine ζd ?_)
 (refine ζa ?_<;>refine xL 16 (ζh 1 Zao) ?_<;>(refine yL 17 (ζq 1 ζp) fun v17 h=>?_;cases h)<;>refine xL 18 (ζB Zl1) ?_<;>refine ζs [(.int .i64 0),(.slice none 0 0),(.slice none 0 0)] 3 5 ZeM fun h5=>?_<;>refine ζt 5 Zbt ?_<;>refine ζd ?_)
 refine ζw (Zey (l:=5) [pInt a.syms, .own 36 1 0 [], .own 4 1 0 []] rfl rfl (fun i p p' h1 h2=>by
  match i with
  |0=>cases h1;cases h2;exact .inl rfl
  |1=>cases h1;cases h2;exact .inr ⟨rfl,_,_,rfl⟩
  |2=>cases h1;cases h2;exact .inr ⟨rfl,_,_,rfl⟩
  |i+3=>simp at h2)) fun _=>?_
 refine ζw (Zez (l:=5) (l':=301) (j:=1) rfl rfl rfl rfl) fun i=>?_
 obtain ⟨v301,ho301⟩:=i
 refine ζw (Zez (l:=5) (l':=302) (j:=2) rfl rfl rfl rfl) fun i=>?_
 obtain ⟨v302,ho302⟩:=i
 dsimp only [List.set]
 (refine ζa ?_<;>refine xL 19 ζb (xL 20 (ζh 1 ZaJ) ?_)<;>(refine yL 21 (ζq 1 ζD) fun v21 h=>?_;cases h)<;>(refine cO 22 (cA Tryz.call111 (Zh4 a a.start hn1 h.mi h.st)) fun v22 ho22=>?_;refine ζr (En.freeze (l:=22) (t:=22) rfl rfl) fun _=>?_;rw [ζ2 _ _ _ rfl])<;>refine ζP (kk:=1) 23 Zcc fun h23 ho23=>?_<;>refine xL 6 ζc ?_<;>refine ζd ?_)
 refine ζw (ζF (l:=23) 303 rfl rfl) fun _=>?_
 obtain ⟨x0,hx0⟩:∃x0,x0=Za3 a a.start:=⟨_,rfl⟩
 rw [←hx0] at hst ⊢
 have hst2:=hst.len h
 (refine ζa ?_<;>refine ZfZ 24 fun h24 ho24=>?_<;>refine xL 25 ζb ?_<;>refine xL 26 (ζv (i:=0) 303 ZaN) ?_<;>(refine yL 27 (ζq 303 ζD) fun v27 h=>?_;cases h)<;>(refine cS 28 (cA Tryz.call231 (Zl0 x0 (by omega) (hst.bd h))) fun v28 h=>?_;cases h)<;>(refine Zxi 24 ZeL ?_;rw [Zys])<;>refine xL 29 ζb (xL 7 ζc ?_)<;>refine ζd ?_)
 refine ζw (ζF (l:=24) 304 rfl rfl) fun _=>?_
 (refine ζa ?_<;>refine xL 8 ζc ?_<;>refine ζd ?_)
 refine ζy (ι:={q:Nat×Value×Value×Value×List (List Int)×List (List Nat)//(ZdS a).upto x0 q.1=some (q.2.2.2.2.1,q.2.2.2.2.2)∧q.1≤q.2.2.2.2.1.length∧q.2.1.oneCell'=true∧q.2.2.1.oneCell'=true∧q.2.2.2.1.oneCell'=true}) (fun k=>⟨[(1,_,_),(2,_,_),(3,_,_),(4,_,_),(5,_,_),(7,_,_),(6,k.1.2.2.2.1, .val k.1.2.2.2.1),(8, .int .i64 k.1.1,pInt k.1.1)],[(1,_,_),(2,_,_),(304,h24, .omap (skv (ZaT ZfH 0 k.1.2.2.2.2.1))),(5,h5, .own 147 3 1 [pInt a.syms, .val k.1.2.1, .val k.1.2.2.1]),(301,k.1.2.1, .own 36 1 k.1.2.2.2.2.2.length (k.1.2.2.2.2.2.map ZfK)),(302,k.1.2.2.1, .own 4 1 ((k.1.2.2.2.2.1.take k.1.1).map (Zc0 a)).length (((k.1.2.2.2.2.1.take k.1.1).map (Zc0 a)).map ζV)),(303,k.1.2.2.2.1, .own 36 1 k.1.2.2.2.2.1.length (k.1.2.2.2.2.1.map pInts))]⟩) (fun k=>2000-k.1.1) ⟨(0,v301,v302,h23,[x0],[]),rfl,Xe _,ho301,ho302,ho23⟩ (fun a w H=>H.weaken ⟨rfl,rfl,rfl,rfl,rfl,rfl,rfl,rfl,trivial⟩ ⟨rfl,rfl,rfl,rfl,rfl,rfl,rfl,trivial⟩) ?_
 rintro ⟨⟨i,r1,r2,r3,o,rows⟩,hU,hi,hr1,hr2,hr3⟩
 dsimp only
 dsimp only at hU hi hr1 hr2 hr3
 have hU':=hU
 rw [hx0] at hU'
 obtain ⟨hOk,hRl,_⟩:=ZoN h hU'
 have hRl:=hRl hi
 have hcap:o.length≤2000:=hOk.cap
 have hOp:=hOk.p
 have hone1:En.one (PV.val r1)=true:=hr1
 have hone2:En.one (PV.val r2)=true:=hr2
 have hfl:((o.take i).map (Zc0 a)).length≤2000:=by rw [Xf,Xu];omega
 refine nav ?_
 (refine ζa ?_<;>refine xL 30 ζb (xL 31 ζb (xL 32 (ZaH 303 ZaN) (xL 33 ζK ?_)))<;>refine ζd ?_)
 (first|refine cCd ?_ ?_|refine cC ?_ ?_)<;>intro hb33
 · first
   |exact bN hb33
   | (
    obtain ⟨x,hx⟩:=ζm (show i<o.length by omega);have hxs:=hOp x (Xb hx);have hxl:=hxs.len h;refine nav ?_;(refine ζa ?_<;>refine xL 36 (ζh 1 Zao) ?_<;>(refine yL 37 (ζq 1 ζp) fun v37 h=>?_;cases h)<;>(refine ZfY (n:=a.syms.toNat) 38 ζn (fun h38 ho38=>?_) (hx:=by rw [hsN];exact rfl) (hy:=by rw [hsN];exact rfl) (hb:=by omega))<;>refine xL 9 ζc ?_<;>refine ζd ?_)
    rw [←ZnD];(refine ζa ?_<;>refine xL 39 ζb (xL 40 (ZaH 38 ζu) (xL 41 ζb ?_))<;>refine ζd ?_)
    refine ζy (ι:={q:Nat×Value×List (List Int)×List Nat//(ZdS a).row i x o q.1=some (q.2.2.1,q.2.2.2)∧q.1≤a.syms.toNat∧q.2.1.oneCell'=true}) (fun k=>⟨[(1,_,_),(2,_,_),(3,_,_),(4,_,_),(5,_,_),(7,_,_),(8,_,_),(9,_,_),(40,_,_),(6,k.1.2.1, .val k.1.2.1),(41, .int .i64 k.1.1,pInt k.1.1)],[(1,_,_),(2,_,_),(5,_,_),(301,_,_),(302,_,_),(303,k.1.2.1, .own 36 1 k.1.2.2.1.length (k.1.2.2.1.map pInts)),(304,h24, .omap (skv (ZaT ZfH 0 k.1.2.2.1))),(38,h38, .own 3 1 a.syms.toNat (vec a.syms.toNat fun j=>pInt (Zgw k.1.2.2.2 j)))]⟩) (fun k=>a.syms.toNat-k.1.1) ⟨(0,r3,o,[]),rfl,Xe _,hr3⟩ (fun a w H=>H.weaken ⟨rfl,rfl,rfl,rfl,rfl,rfl,rfl,rfl,rfl,rfl,rfl,trivial⟩ ⟨rfl,rfl,rfl,rfl,rfl,rfl,rfl,rfl,trivial⟩) ?_;rintro ⟨⟨s,r3',o',r⟩,hW,hs,hr3'⟩;dsimp only;dsimp only at hW hs hr3';obtain ⟨hMt,hpr,hrl,_⟩:=hOk.toMet.row (fun s _=>ZlJ h s x) (show s≤(ZdS a).m from hs) hW;have hcap':o'.length≤2000:=hMt.cap;have hx':=ZcA hpr hx;have hil:=ζg hx';refine nav ?_;(refine ζa ?_<;>refine xL 42 ζK ?_<;>refine ζd ?_)
    (first|refine cCd ?_ ?_|refine cC ?_ ?_)<;>intro hb42
    · first
      |exact bN hb42
      | (
       have hset:=ZlJ h (s:Nat) x;obtain ⟨set,hse⟩:∃set,set=ZaL a (s:Nat) x:=⟨_,rfl⟩;rw [←hse] at hset;have hsl:=hset.len h;have hkid:=ZDm (fun l hl=>(hMt.p l hl).nn) hset.nn;have e1:=Zas (f:=pInts) hx';have e2:=Zhq a.syms.toNat (fun j=>pInt (Zgw r j));refine nav ?_;(refine ζa ?_<;>refine xL 43 ζb (xL 10 ζc ?_)<;>refine ζd ?_)
       (refine ζa ?_<;>refine xL 44 ζb (xL 45 ζb (xL 46 ζb (xL 47 (ζv 303 ZaN) ?_)))<;>(refine yL 48 (ζq 303 ζD) fun v48 h=>?_;cases h)<;>refine xL 49 ζb ?_<;>(refine cO 50 (cA Tryz.call112 (ZoG a x s hn1 h.ml h.mi hxs.1 hxl)) fun v50 ho50=>?_;refine ζr (En.freeze (l:=50) (t:=50) rfl rfl) fun _=>?_;rw [ζ2 _ _ _ rfl,←hse])<;>refine xL 11 ζc ?_<;>refine ζd ?_)
       (refine ζa ?_<;>refine xL 52 ζb (xL 53 ζb ?_)<;>(refine cS 54 (cA Tryz.call231 (Zl0 set (by omega) (hset.bd h))) fun v54 h=>?_;cases h)<;>refine xL 55 (Zyr (f:=ZfH) (L:=o') (a:=set) 304 ZeL rfl rfl) ?_<;>refine xL 51 ζb (xL 56 ζl (xL 57 ζl (xL 12 ζc (xL 13 ζc ?_))))<;>refine ζd ?_)
       (refine ζa ?_<;>refine xL 58 ζb (xL 59 Zav ?_)<;>refine ζd ?_)
       (first|refine cCd ?_ ?_|refine cC ?_ ?_)<;>intro hb59
       · first
         |exact bN hb59
         | (
          (have hnew:¬posK ZfH o' (ZfH set)<o'.length:=by simpa using hb59);have hnew2:¬posK (ZdS a).key o' ((ZdS a).key ((ZdS a).step i x s))<o'.length:=by
           show ¬posK id o' (ZaL a (s:Nat) x)<o'.length;rw [←hse,←hkid];exact hnew
          refine nav ?_;(refine ζa ?_<;>refine xL 60 ζb (xL 61 (ZaH 303 ZaN) (xL 12 ζc ?_))<;>refine ζd ?_)
          (refine ζa ?_<;>refine xL 62 ζb (xL 63 ZcX ?_)<;>refine ζd ?_)
          (first|refine cCd ?_ ?_|refine cC ?_ ?_)<;>intro hb63
          · first
            |exact bN hb63
            | (
             refine nav ?_;(refine ζa ?_<;>(refine yL 64 (ζk (k:=3) (ps:=[pInt a.syms,PV.val r1,PV.val r2]) 5 kR) fun v64 h=>?_;cases h)<;>refine ζt 2 Zbt ?_<;>refine xL 3 ζc ?_<;>refine ζd ?_)
             refine Zaf (k:=3) 2 kR (Tryz.results185) rfl rfl rfl (Xa rfl) (by decide) rfl (.inr ⟨?_,_,_,_,rfl,hr1,hr2,rfl⟩);have hv:=Zlo hnew2 (show (ZdS a).cap≤o'.length by show 2000≤o'.length;omega);have h1:=Srch.row_fails (Srch.row_out hW hv) (show s+1≤(ZdS a).m by show s+1≤a.syms.toNat;omega);have h2:=Srch.all_none (Srch.upto_out hU hx h1) (show i+1≤(ZdS a).cap by show i+1≤2000;omega);unfold Zej;rw [←hx0,h2];rfl)
          · first
            |exact bN hb63
            | (
             refine nav ?_;(refine ζa ?_<;>refine xL 65 ζb (xL 66 ζb ?_)<;>(refine cS 67 (cA Tryz.call231 (Zl0 set (by omega) (hset.bd h))) fun v67 h=>?_;cases h)<;>refine xL 68 ζb ?_<;>(refine ZhU 304 ZeL ?_;rw [Zrf hnew])<;>refine ζd ?_)
             (refine ζa ?_<;>refine xL 69 ζb (xL 70 ζb ?_)<;>refine ζP (kk:=1) 71 Zcc fun h71 ho71=>?_<;>(refine ζ0 303 71 72 Zcc fun h72 ho72=>?_;refine ζr (ζF (l:=72) 303 rfl rfl) fun _=>?_;refine ζr (ζM (l:=303) rfl (Zyh _ o' set)) fun _=>?_)<;>refine xL 6 ζc ?_<;>refine ζd ?_)
             (refine ζa ?_<;>refine xL 73 ζb (xL 74 ζb (xL 75 ζb (xL 76 (ζv 38 ζu) ?_)))<;>refine ZbQ 38 ζp Zcg ?_<;>refine ζd ?_)
             (refine ζa ?_<;>refine xL 77 ζG (xL 41 ζb ?_)<;>refine ζd ?_)
             rw [show s*1=r.length*1 by omega,Zjv _ (by omega)]
             first
              | (exact ζj (
                  ⟨(s+1,h72,o'++[set],r++[o'.length]),(by dsimp only;rw [hse];exact Srch.row_snoc hW (ZbZ hnew2 (show o'.length<2000 by omega))),(by dsimp only;omega),ho72⟩
                  ) (by dsimp only;omega) ⟨rfl,rfl,rfl,rfl,rfl,rfl,rfl,rfl,rfl,rfl,rfl,trivial⟩ ⟨rfl,rfl,rfl,rfl,rfl,rfl,rfl,rfl,trivial⟩)
              | (exact ζj (
                  ⟨(s+1,r3',o',r++[Zg6 ZfH o' set]),(by dsimp only;rw [hnum];exact Srch.row_snoc hW (ZbY hold2)),(by dsimp only;omega),hr3'⟩
                  ) (by dsimp only;omega) ⟨rfl,rfl,rfl,rfl,rfl,rfl,rfl,rfl,rfl,rfl,rfl,trivial⟩ ⟨rfl,rfl,rfl,rfl,rfl,rfl,rfl,rfl,trivial⟩)))
       · first
         |exact bN hb59
         | (
          (have hold:posK ZfH o' (ZfH set)<o'.length:=by simpa using hb59);have hold2:posK (ZdS a).key o' ((ZdS a).key ((ZdS a).step i x s))<o'.length:=by
           show posK id o' (ZaL a (s:Nat) x)<o'.length;rw [←hse,←hkid];exact hold
          have hnum:Zg6 ZfH o' set=posK (ZdS a).key o' ((ZdS a).key ((ZdS a).step i x s)):=by
           show Zg6 ZfH o' set=posK id o' (ZaL a (s:Nat) x);unfold Zg6;rw [if_pos hold,hkid,hse]
          refine nav ?_;(refine ζa ?_<;>refine xL 73 ζb (xL 74 ζb (xL 75 ζb (xL 76 (ζv 38 ζu) ?_)))<;>refine ZbQ 38 ζp Zcg ?_<;>refine ζd ?_)
          (refine ζa ?_<;>refine xL 77 ζG (xL 41 ζb ?_)<;>refine ζd ?_)
          rw [show s*1=r.length*1 by omega,Zjv _ (by omega)]
          first
           | (exact ζj (
               ⟨(s+1,h72,o'++[set],r++[o'.length]),(by dsimp only;rw [hse];exact Srch.row_snoc hW (ZbZ hnew2 (show o'.length<2000 by omega))),(by dsimp only;omega),ho72⟩
               ) (by dsimp only;omega) ⟨rfl,rfl,rfl,rfl,rfl,rfl,rfl,rfl,rfl,rfl,rfl,trivial⟩ ⟨rfl,rfl,rfl,rfl,rfl,rfl,rfl,rfl,trivial⟩)
           | (exact ζj (
               ⟨(s+1,r3',o',r++[Zg6 ZfH o' set]),(by dsimp only;rw [hnum];exact Srch.row_snoc hW (ZbY hold2)),(by dsimp only;omega),hr3'⟩
               ) (by dsimp only;omega) ⟨rfl,rfl,rfl,rfl,rfl,rfl,rfl,rfl,rfl,rfl,rfl,trivial⟩ ⟨rfl,rfl,rfl,rfl,rfl,rfl,rfl,rfl,trivial⟩)))
    · first
      |exact bN hb42
      | (
       (have hsm:s=a.syms.toNat:=by omega);subst hsm;have hU2:=Srch.upto_snoc hU hx hW;have e1:=Zas (f:=pInts) hx';have htk:o'.take (i+1)=(o.take i)++[x]:=by
        rw [ζQ hx'];obtain ⟨e,rfl⟩:=hpr;rw [Ut hi]
       refine nav ?_;refine ζw (En.freeze (l:=38) (t:=9) rfl rfl) fun _=>?_;rw [ZnE _ _ _ hrl];(refine ζY (fun i=>([16,17,18]:List Nat).elem i) [5,303] kR ?_<;>refine xDT 0 78 rfl (ζh 5 ZbP) ?_<;>(refine yDT 1 79 rfl (ζq 5 ZcG) fun v79 h=>?_;cases h)<;>refine xDT 2 80 rfl ζb ?_<;>refine xDT 5 83 rfl (ζh 5 Zcd) ?_<;>(refine yDT 6 84 rfl (ζq 5 ZbB) fun v84 h=>?_;cases h)<;>refine xDT 7 85 rfl ζb ?_<;>refine xDT 8 86 rfl ζb ?_<;>refine xDT 9 87 rfl ζb ?_<;>refine xDT 10 88 rfl (ζv 303 ZaN) ?_<;>(refine yDT 11 89 rfl (ζq 303 ζD) fun v89 h=>?_;cases h)<;>(refine ζi 3 kR ?_)<;>(refine ζf rfl fun w9 M9 N9 DQ back=>?_)<;>refine ζP (kk:=1) 81 Zcc fun h81 ho81=>?_<;>refine ζe (back _ (nrm ?_))<;>(refine ζi 4 kR ?_)<;>(refine ζf rfl fun w9 M9 N9 DQ back=>?_)<;>refine ζ0 301 81 82 Zcc fun h82 ho82=>?_<;>refine ζe (back _ (nrm ?_))<;>refine xDT 15 93 rfl (ζh 5 ZbP) ?_<;>(refine ζi 12 kR ?_)<;>(refine ZaM (d:=90) rfl (cA Tryz.call113 (Zlu a x hxs.1)) fun v90 h=>?_;cases h)<;>(refine ζi 13 kR ?_)<;>(refine ζf rfl fun w9 M9 N9 DQ back=>?_)<;>refine ζP (kk:=1) 91 ZdP fun h91 ho91=>?_<;>refine ζe (back _ (nrm ?_))<;>(refine ζi 14 kR ?_)<;>(refine ζf rfl fun w9 M9 N9 DQ back=>?_)<;>refine ζ0 302 91 92 ZdP fun h92 ho92=>?_<;>refine ζe (back _ (nrm ?_))<;>(refine ζi 16 kR ?_)<;>(refine Zft rfl rfl fun DQ back=>?_)<;>refine ZbQ 5 ZcG Zl2 ?_<;>refine ζe (back _ ?_)<;>(refine Zdt 17 kR rfl rfl fun DQ back=>?_)<;>refine xL 94 (ζh 5 Zcd) ?_<;>refine ζe (back _ ?_)<;>(refine Zdt 18 kR rfl rfl fun DQ back=>?_)<;>refine ZbQ 5 ZbB Zl3 ?_<;>refine ζe (back _ ?_)<;>refine Zhj kR (nav ?_)<;>try dsimp only)
       refine ζw (ζF (l:=82) 301 rfl rfl) fun _=>?_;refine ζw (ζF (l:=92) 302 rfl rfl) fun _=>?_;refine ζw (ζM (l:=301) rfl (ZnF _ rows r)) fun _=>?_;refine ζw (ζM (l:=302) rfl (Zl4 _ ((o.take i).map (Zc0 a)) (Zc0 a x))) fun _=>?_;rw [show ((o.take i).map (Zc0 a))++[Zc0 a x]=(o'.take (i+1)).map (Zc0 a) by rw [htk,Xy];rfl];(refine ζa ?_<;>refine xL 34 ζb (xL 35 ζG (xL 8 ζc ?_))<;>refine ζd ?_)
       refine ζj (
        ⟨(i+1,h82,h92,r3',o',rows++[r]),hU2,(by dsimp only;omega),ho82,ho92,hr3'⟩
        ) (by dsimp only;omega) ⟨rfl,rfl,rfl,rfl,rfl,rfl,rfl,rfl,trivial⟩ ⟨rfl,rfl,rfl,rfl,rfl,rfl,rfl,trivial⟩))
 · first
   |exact bN hb33
   | (
    (have hio:i=o.length:=by omega);subst hio;refine nav ?_;refine ζw (ZaI (l:=5) (l':=301) (j:=1) rfl rfl rfl rfl) fun _=>?_;refine ζw (ZaI (l:=5) (l':=302) (j:=2) rfl rfl rfl rfl) fun _=>?_;rw [Zkg _ _ _ rfl,ZiP _ _ _ rfl];(refine ζa ?_<;>(refine yL 95 (ζk 5 Zbt) fun v95 h=>?_;cases h)<;>refine ζt 2 Zbt ?_<;>refine xL 3 ζc ?_<;>refine ζd ?_)
    refine Zaf (k:=3) 2 kR (Tryz.results185) rfl rfl rfl (Xa rfl) (by decide) rfl (.inl ⟨⟨a.syms.toNat,rows,o.map (Zc0 a)⟩,?_,?_⟩)
    · unfold Zej;rw [←hx0,Srch.all_some hU (Xd _) (show o.length≤(ZdS a).cap from hcap)];rfl
    · unfold Zrd;dsimp only;rw [Ua,hsN];rfl)
def ZiQ (l:List Nat):ByteArray:=ZfH (toI l)
theorem Zyt (l:List Nat):∀x∈toI l,0≤x:=fun x hx=>by
 unfold toI at hx
 obtain ⟨y,_,rfl⟩:=Xh.1 hx
 omega
theorem ZA7 (o:List (List Nat)) (x:List Nat):posK ZiQ o (ZiQ x)=posK id o x:=ZgU fun l _=>by
 unfold ZiQ
 rw [ZqY (Zyt l) (Zyt x),ZA0];rfl
theorem ZcU {α:Type} (f:α→ByteArray) (o:List α):(skv (ZaT f 0 o)).length=o.length:=by unfold skv;rw [Xf,Zqy]
theorem Zyu {α:Type} {f:α→ByteArray} {o:List α} {x:α} (h:¬posK f o (f x)<o.length):Zdn (skv (ZaT f 0 o)) (.string (f x)) (.int .i64 ((skv (ZaT f 0 o)).length:Nat))=skv (ZaT f 0 (o++[x])):=by
 rw [ZcU,Zrf h]
def ZiR (s:Nat) (f:Nat→Nat) (j:Nat):Int:=if j<s then (f j:Nat) else 0
theorem ZnG (n:Nat) (f:Nat→Nat):List.replicate n (PV.val (.int .i64 0))=vec n fun j=>pInt (ZiR 0 f j):=by
 rw [Znp]
 refine ZfC fun i _=>?_
 unfold ZiR;rw [if_neg (by omega)]
theorem ZfL {n s:Nat} {f:Nat→Nat} {x:Int} (hx:x=(f s:Nat)):(vec n fun j=>pInt (ZiR s f j)).set (s*1) (pInt x)=vec n fun j=>pInt (ZiR (s+1) f j):=by
 rw [Xx,Zt6]
 refine ZfC fun i hi=>?_
 unfold ZiR
 by_cases e:i=s
 · subst e;rw [if_pos rfl,if_pos (by omega),hx]
 · rw [if_neg e];by_cases e2:i<s
   · rw [if_pos e2,if_pos (by omega)]
   · rw [if_neg e2,if_neg (by omega)]
theorem ZnH {n s:Nat} {f:Nat→Nat} (hx:f s=0):(vec n fun j=>pInt (ZiR s f j))=vec n fun j=>pInt (ZiR (s+1) f j):=by
 refine ZfC fun i hi=>?_
 unfold ZiR
 by_cases e:i=s
 · subst e;rw [if_neg (by omega),if_pos (by omega),hx];rfl
 · by_cases e2:i<s
   · rw [if_pos e2,if_pos (by omega)]
   · rw [if_neg e2,if_neg (by omega)]
theorem ZnI (n:Nat) (f:Nat→Nat):(vec n fun j=>pInt (ZiR n f j))=vec n fun j=>pInt (f j:Nat):=by
 refine ZfC fun i hi=>?_
 unfold ZiR;rw [if_pos hi]
theorem Ze6 (l:List Nat):(toI l).length=l.length:=by simp [toI]
theorem Zyv (l:List Nat) (x:Nat):toI (l++[x])=toI l++[(x:Int)]:=by simp [toI]
theorem Zl5 (e:Nat) (L:List Nat) (x:Nat):PV.own e 1 (L.length+1) ((toI L).map pInt++[pInt (x:Nat)])= .own e 1 (L++[x]).length ((toI (L++[x])).map pInt):=by simp [Zyv]
def Zku (c:Nat→Nat) (s:Nat) (r:List Nat) (u:Nat):List Nat:=c s::(r.take u).map c
theorem ZvO {c:Nat→Nat} {s:Nat} {r:List Nat} {u x:Nat} (h:r[u]? =some x):Zku c s r u++[c x]=Zku c s r (u+1):=by
 unfold Zku;rw [ζQ h,Xy];rfl
theorem ZvP {rows:List (List Nat)} {c:Nat→Nat} {s:Nat} {r:List Nat} {u:Nat} (h:rows[s]? =some r) (hu:r.length≤u):Zku c s r u=ZaW rows c s:=by
 unfold Zku ZaW;rw [h,Xo hu];rfl
theorem Zyw (c:Nat→Nat) (s:Nat) (r:List Nat) (u:Nat) (h:u≤r.length):(Zku c s r u).length=u+1:=by unfold Zku;rw [Xj,Xf,Xu];omega
theorem ZA8 {t:Tab} (ht:TOk t) {c:Nat→Nat} (hc:∀s,s<t.rows.length→c s≤t.rows.length) {s:Nat} (hs:s<t.rows.length):∀x∈toI (ZaW t.rows c s),0≤x∧x≤2000:=fun x hx=>by
 unfold toI at hx
 obtain ⟨y,hy,rfl⟩:=Xh.1 hx
 have hn:=ht.n1
 have key:∀z,z<t.rows.length→c z≤2000:=fun z hz=>by have:=hc z hz;omega
 unfold ZaW at hy
 rcases Xl.1 hy with rfl|hy
 · have:=key s hs;omega
 · obtain ⟨z,hz,rfl⟩:=Xh.1 hy;obtain ⟨r,hr⟩:=ζm hs;rw [hr] at hz;have:=key z (ht.to r (Xb hr) z hz);omega
theorem Zrg {rows:List (List Nat)} {c:Nat→Nat} {s:Nat} (hs:s<rows.length):Zd4 rows c s=posK id (Za4 (ZaW rows c) (s+1)) (ZaW rows c s):=(ZiI (k:=ZaW rows c) hs).1
theorem ZvQ {rows:List (List Nat)} {c:Nat→Nat} {s:Nat} (hs:s<rows.length) (h:posK id (Za4 (ZaW rows c) s) (ZaW rows c s)<(Za4 (ZaW rows c) s).length):Zd4 rows c s=posK id (Za4 (ZaW rows c) s) (ZaW rows c s):=by rw [Zrg hs,ZqS h]
theorem ZvR {rows:List (List Nat)} {c:Nat→Nat} {s:Nat} (hs:s<rows.length) (h:¬posK id (Za4 (ZaW rows c) s) (ZaW rows c s)<(Za4 (ZaW rows c) s).length):Zd4 rows c s=(Za4 (ZaW rows c) s).length:=by
 rw [Zrg hs,ZqT h];exact Zlm h
theorem Zs0 {rows:List (List Nat)} {f:Nat} {c:Nat→Nat} {k:Nat} (h:Zjn rows c=k):ZhQ rows (f+1) c k=Zd4 rows c:=by rw [ZhQ,if_pos h]
theorem Zs1 {rows:List (List Nat)} {f:Nat} {c:Nat→Nat} {k:Nat} (h:¬Zjn rows c=k):ZhQ rows (f+1) c k=ZhQ rows f (Zd4 rows c) (Zjn rows c):=by rw [ZhQ,if_neg h]
set_option maxHeartbeats 4000000 in
theorem Zs2 (t :Tab) (ht:TOk t):AF Tryz.prog 232 [Zrd t] (· = .own 3 1 t.rows.length (vec t.rows.length fun s=>pInt (ZbU t s:Nat))):=by
 have hn1:=ht.n1
 have hfl:=ht.fl
 have hm1:=ht.m1
 refine AF.of_body 92 Tryz.func232 rfl Tryz.ntmps232 (Xa rfl) ?_
 intro w0 M0 vs hl hv
 obtain ⟨v0,rfl⟩:=Zco hl
 clear hl hv
 refine nav ?_
 (refine ζa ?_<;>refine ζH 1 3 fun h1=>?_<;>refine xL 2 ζc ?_<;>refine ζd ?_)
 (refine ζa ?_<;>refine xL 16 (ζh 1 ZbP) ?_<;>(refine yL 17 (ζq 1 ZcG) fun v17 h=>?_;cases h)<;>refine xL 18 (ζU ZaN) ?_<;>refine ZfY 19 ζn fun h19 ho19=>?_<;>refine xL 3 ζc ?_<;>refine ζd ?_)
 refine ζw (ζF (l:=19) 303 rfl rfl) fun _=>?_
 rw [ZnG _ (ZiJ t.fin)]
 (refine ζa ?_<;>refine xL 20 (ζh 1 Zcd) ?_<;>(refine yL 21 (ζq 1 ZbB) fun v21 h=>?_;cases h)<;>refine xL 22 (ζU Zcb) (xL 23 ζb ?_)<;>refine ζd ?_)
 refine ζy (ι:={s:Nat//s≤t.fin.length}) (fun k=>⟨[(1,_,_),(3,_,_),(21,_,_),(22,_,_),(23, .int .i64 k.1,pInt k.1)],[(1,_,_),(303,h19, .own 3 1 t.rows.length (vec t.rows.length fun j=>pInt (ZiR k.1 (ZiJ t.fin) j)))]⟩) (fun k=>t.fin.length-k.1) ⟨0,Xe _⟩ (fun a w H=>H.weaken ⟨rfl,rfl,rfl,rfl,rfl,trivial⟩ ⟨rfl,rfl,trivial⟩) ?_
 rintro ⟨s,hs⟩
 dsimp only
 refine nav ?_
 (refine ζa ?_<;>refine xL 24 ζK ?_<;>refine ζd ?_)
 (first|refine cCd ?_ ?_|refine cC ?_ ?_)<;>intro hb24
 · first
   |exact bN hb24
   | (
    obtain ⟨b,hb⟩:=ζm (show s<t.fin.length by omega);have e1:=Zas (f:=ζV) hb;have e2:=Zhq t.rows.length (fun j=>pInt (ZiR s (ZiJ t.fin) j));refine nav ?_;(refine ζa ?_<;>refine xL 25 ζb (xL 26 (ζI Zcb) ?_)<;>(refine yL 27 (ZaE ZeD) fun v27 h=>?_;cases h)<;>refine xL 4 ζc (xL 5 ζc ?_)<;>refine ζd ?_)
    (refine ζa ?_<;>refine xL 28 ζb ?_<;>refine ζd ?_)
    (first|refine cCd ?_ ?_|refine cC ?_ ?_)<;>intro hb28
    · first
      |exact bN hb28
      | (
       refine nav ?_;(refine ζa ?_<;>refine xL 29 ζb (xL 30 ζb (xL 31 (ζv 303 ζu) ?_))<;>refine ZbQ 303 ζp Zcg ?_<;>refine ζd ?_)
       (refine ζa ?_<;>refine xL 32 ζG (xL 23 ζb ?_)<;>refine ζd ?_)
       try rw [ZfL (x:=1) (by unfold ZiJ;rw [hb];show (1:Int)=((if b=true then 1 else 0:Nat):Int);rw [if_pos hb28];rfl)]
       try rw [ZnH (by unfold ZiJ;rw [hb];show (if b=true then 1 else 0)=0;rw [if_neg (by simpa using hb28)])]
       refine ζj (
        ⟨s+1,by omega⟩
        ) (by dsimp only;omega) ⟨rfl,rfl,rfl,rfl,rfl,trivial⟩ ⟨rfl,rfl,trivial⟩)
    · first
      |exact bN hb28
      | (
       refine nav ?_;(refine ζa ?_<;>refine xL 32 ζG (xL 23 ζb ?_)<;>refine ζd ?_)
       try rw [ZfL (x:=1) (by unfold ZiJ;rw [hb];show (1:Int)=((if b=true then 1 else 0:Nat):Int);rw [if_pos hb28];rfl)]
       try rw [ZnH (by unfold ZiJ;rw [hb];show (if b=true then 1 else 0)=0;rw [if_neg (by simpa using hb28)])]
       refine ζj (
        ⟨s+1,by omega⟩
        ) (by dsimp only;omega) ⟨rfl,rfl,rfl,rfl,rfl,trivial⟩ ⟨rfl,rfl,trivial⟩))
 · first
   |exact bN hb24
   | (
    (have hsn:s=t.rows.length:=by omega);subst hsn;rw [ZnI];refine nav ?_;(refine ζa ?_<;>refine xL 6 ζc ?_<;>refine ζd ?_)
    refine ζy (ι:={q:Value×(Nat→Nat)×Nat×Nat//COk t.rows.length q.2.1 q.2.2.1∧ZhQ t.rows q.2.2.2 q.2.1 q.2.2.1=ZbU t∧t.rows.length+2≤q.2.2.2+q.2.2.1∧q.1.oneCell'=true}) (fun k=>⟨[(1,_,_),(3,k.1.1, .val k.1.1),(6, .int .i64 k.1.2.2.1,pInt k.1.2.2.1)],[(1,_,_),(303,k.1.1, .own 3 1 t.rows.length (vec t.rows.length fun j=>pInt (k.1.2.1 j:Nat)))]⟩) (fun k=>t.rows.length+2-k.1.2.2.1) ⟨(h19,ZiJ t.fin,0,t.rows.length+2),COk.start _ _,rfl,by dsimp only;omega,ho19⟩ (fun a w H=>H.weaken ⟨rfl,rfl,rfl,trivial⟩ ⟨rfl,rfl,trivial⟩) ?_;rintro ⟨⟨hv3,c,cnt,fuel⟩,hC,hit,hfu,hv3o⟩;dsimp only;dsimp only at hC hit hfu hv3o;have hle:=hC.le;have hbd:=hC.bd;obtain ⟨f,rfl⟩:∃f,fuel=f+1:=⟨fuel-1,by omega⟩;have hgr:=hC.grow;have hnx:=hC.next
    refine nav ?_;(refine ζa ?_<;>refine ZfZ 33 fun h33 ho33=>?_<;>refine xL 7 ζc ?_<;>refine ζd ?_)
    (refine ζa ?_<;>refine xL 34 ζb (xL 35 (ZaH 303 ζu) ?_)<;>refine ZfY 36 ζn fun h36 ho36=>?_<;>refine xL 8 ζc ?_<;>refine ζd ?_)
    refine ζw (ζF (l:=33) 304 rfl rfl) fun _=>?_;refine ζw (ζF (l:=36) 305 rfl rfl) fun _=>?_;rw [ZnG _ (Zd4 t.rows c)];refine ζw (ζM (l:=304) (p':= .omap (skv (ZaT ZiQ 0 (Za4 (ZaW t.rows c) 0)))) rfl rfl) fun _=>?_;(refine ζa ?_<;>refine xL 37 (ζh 1 ZbP) ?_<;>(refine yL 38 (ζq 1 ZcG) fun v38 h=>?_;cases h)<;>refine xL 39 (ζU ZaN) (xL 40 ζb ?_)<;>refine ζd ?_)
    refine ζy (ι:={s:Nat//s≤t.rows.length}) (fun k=>⟨[(1,_,_),(3,_,_),(6,_,_),(7,_,_),(8,_,_),(38,_,_),(39,_,_),(40, .int .i64 k.1,pInt k.1)],[(1,_,_),(303,_,_),(304,h33, .omap (skv (ZaT ZiQ 0 (Za4 (ZaW t.rows c) k.1)))),(305,h36, .own 3 1 t.rows.length (vec t.rows.length fun j=>pInt (ZiR k.1 (Zd4 t.rows c) j)))]⟩) (fun k=>t.rows.length-k.1) ⟨0,Xe _⟩ (fun a w H=>H.weaken ⟨rfl,rfl,rfl,rfl,rfl,rfl,rfl,rfl,trivial⟩ ⟨rfl,rfl,rfl,rfl,trivial⟩) ?_;rintro ⟨s,hs⟩;dsimp only;refine nav ?_;(refine ζa ?_<;>refine xL 41 ζK ?_<;>refine ζd ?_)
    (first|refine cCd ?_ ?_|refine cC ?_ ?_)<;>intro hb41
    · first
      |exact bN hb41
      | (
       (have hlt:s<t.rows.length:=by omega);obtain ⟨r,hr⟩:=ζm hlt;have e1:=Zas (f:=ZfK) hr;have hrl:=ht.rl r (Xb hr);have hrt:=ht.to r (Xb hr);have htl:=Ze6 r;have e2:=ZiH (fun j=>pInt (c j:Nat)) hlt;have e3:=Zhq t.rows.length (fun j=>pInt (ZiR s (Zd4 t.rows c) j));have hkl:=ZlK (ZaW t.rows c) s;refine nav ?_;(refine ζa ?_<;>refine xL 42 ζb (xL 43 (ζI ZaN) ?_)<;>(refine yL 44 (ZaE ζD) fun v44 h=>?_;cases h)<;>refine xL 9 ζc (xL 10 ζc ?_)<;>refine ζd ?_)
       (refine ζa ?_<;>refine xL 45 ζb (xL 46 ζb (xL 47 (ζv 303 ζu) ?_))<;>(refine yL 48 (ζq 303 ζp) fun v48 h=>?_;cases h)<;>refine ζP (kk:=1) 49 ζn fun h49 ho49=>?_<;>refine xL 11 ζc ?_<;>refine ζd ?_)
       refine ζw (ζF (l:=49) 306 rfl rfl) fun _=>?_;refine ζw (ζM (l:=306) (p':= .own 3 1 (Zku c s r 0).length ((toI (Zku c s r 0)).map pInt)) rfl rfl) fun _=>?_;refine Zb9 10 rfl fun hlen10=>?_;(refine ζa ?_<;>refine xL 50 ζb (xL 51 (ζU ζu) (xL 52 ζb ?_))<;>refine ζd ?_)
       refine ζy (ι:={q:Nat×Value//q.1≤r.length∧q.2.oneCell'=true}) (fun k=>⟨[(1,_,_),(3,_,_),(6,_,_),(7,_,_),(8,_,_),(9,_,_),(38,_,_),(39,_,_),(40,_,_),(50,_,_),(51,_,_),(11,k.1.2, .val k.1.2),(52, .int .i64 k.1.1,pInt k.1.1)],[(1,_,_),(303,_,_),(304,_,_),(305,_,_),(306,k.1.2, .own 3 1 (Zku c s r k.1.1).length ((toI (Zku c s r k.1.1)).map pInt))]⟩) (fun k=>r.length-k.1.1) ⟨(0,h49),Xe _,ho49⟩ (fun a w H=>H.weaken ⟨rfl,rfl,rfl,rfl,rfl,rfl,rfl,rfl,rfl,rfl,rfl,rfl,rfl,trivial⟩ ⟨rfl,rfl,rfl,rfl,rfl,trivial⟩) ?_;rintro ⟨⟨u,hv⟩,hu,hvo⟩;dsimp only;dsimp only at hu hvo;have hkpl:=Zyw c s r u hu;refine nav ?_;(refine ζa ?_<;>refine xL 53 ζK ?_<;>refine ζd ?_)
       (first|refine cCd ?_ ?_|refine cC ?_ ?_)<;>intro hb53
       · first
         |exact bN hb53
         | (
          obtain ⟨x,hx⟩:=ζm (show u<r.length by omega);have hxn:=hrt x (Xb hx);(have e4:((toI r).map pInt)[u*1]? =some (pInt (x:Nat)):=by rw [Xx,Xm];unfold toI;rw [Xm,hx];rfl);have e5:=ZiH (fun j=>pInt (c j:Nat)) hxn;refine nav ?_;(refine ζa ?_<;>refine xL 54 (ζI ζu) ?_<;>(refine yL 55 (ZaE ζp) fun v55 h=>?_;cases h)<;>refine xL 13 ζc ?_<;>refine ζd ?_)
          (refine ζa ?_<;>refine xL 56 ζb (xL 57 ζb (xL 58 ζb (xL 59 (ζv 303 ζu) ?_)))<;>(refine yL 60 (ζq 303 ζp) fun v60 h=>?_;cases h)<;>refine ζP (kk:=1) 61 ζn fun h61 ho61=>?_<;>(refine ζ0 306 61 62 ζn fun h62 ho62=>?_;refine ζr (ζF (l:=62) 306 rfl rfl) fun _=>?_;refine ζr (ζM (l:=306) rfl ((Zl5 _ (Zku c s r u) (c x)).trans (by rw [ZvO hx]))) fun _=>?_)<;>refine xL 11 ζc ?_<;>refine ζd ?_)
          (refine ζa ?_<;>refine xL 63 ζG (xL 52 ζb ?_)<;>refine ζd ?_)
          refine ζj (
           ⟨(u+1,h62),ζg hx,ho62⟩
           ) (by dsimp only;omega) ⟨rfl,rfl,rfl,rfl,rfl,rfl,rfl,rfl,rfl,rfl,rfl,rfl,rfl,trivial⟩ ⟨rfl,rfl,rfl,rfl,rfl,trivial⟩)
       · first
         |exact bN hb53
         | (
          have hK:=ZvP (c:=c) hr (show r.length≤u by omega);rw [hK];have hkb:=ZA8 ht hbd hlt;(have hkl2:(ZaW t.rows c s).length≤1000:=by rw [←hK,hkpl];omega);have hid:=ZA7 (Za4 (ZaW t.rows c) s) (ZaW t.rows c s);refine nav ?_;refine ζw (En.freeze (l:=306) (t:=11) rfl rfl) fun _=>?_;rw [ζ2 _ _ _ (by rw [Ze6])];(refine ζa ?_<;>refine xL 65 ζb (xL 66 ζb ?_)<;>(refine cS 67 (cA Tryz.call231 (Zl0 (toI (ZaW t.rows c s)) (by rw [Ze6];omega) (fun x hx=>by have:=hkb x hx;omega))) fun v67 h=>?_;cases h)<;>refine xL 68 (Zyr (f:=ZiQ) (L:=Za4 (ZaW t.rows c) s) (a:=ZaW t.rows c s) 304 ZeL rfl rfl) ?_<;>refine xL 64 ζb (xL 69 ζl (xL 70 ζl (xL 14 ζc (xL 15 ζc ?_))))<;>refine ζd ?_)
          (refine ζa ?_<;>refine xL 71 ζb (xL 72 Zav ?_)<;>refine ζd ?_)
          (first|refine cCd ?_ ?_|refine cC ?_ ?_)<;>intro hb72
          · first
            |exact bN hb72
            | (
             (have hnew:¬posK ZiQ (Za4 (ZaW t.rows c) s) (ZiQ (ZaW t.rows c s))<(Za4 (ZaW t.rows c) s).length:=by simpa using hb72);have hnew2:=hnew;rw [hid] at hnew2;have hnn:=ZvR hlt hnew2;have hff:=ZqT hnew2;refine nav ?_;(refine ζa ?_<;>refine xL 73 ζb (xL 74 (ZkB 304 Tryz.underlying251) (xL 14 ζc ?_))<;>refine ζd ?_)
             (refine ζa ?_<;>refine xL 75 ζb (xL 76 ζb ?_)<;>(refine cS 77 (cA Tryz.call231 (Zl0 (toI (ZaW t.rows c s)) (by rw [Ze6];omega) (fun x hx=>by have:=hkb x hx;omega))) fun v77 h=>?_;cases h)<;>refine xL 78 ζb ?_<;>(refine ZhU 304 ZeL ?_;rw [show Zdn (skv (ZaT ZiQ 0 (Za4 (ZaW t.rows c) s))) (.string (ZfH (toI (ZaW t.rows c s)))) (.int .i64 ((skv (ZaT ZiQ 0 (Za4 (ZaW t.rows c) s))).length:Nat))=skv (ZaT ZiQ 0 (Za4 (ZaW t.rows c) (s+1))) by rw [hff];exact Zyu hnew])<;>refine ζd ?_)
             (refine ζa ?_<;>refine xL 79 ζb (xL 80 ζb (xL 81 ζb (xL 82 (ζv 305 ζu) ?_)))<;>refine ZbQ 305 ζp Zcg ?_<;>refine ζd ?_)
             (refine ζa ?_<;>refine xL 83 ζG (xL 40 ζb ?_)<;>refine ζd ?_)
             try rw [ZfL (by rw [ZcU,hnn])]
             try rw [ZfL hnum,←hfo]
             refine ζj (
              ⟨s+1,by omega⟩
              ) (by dsimp only;omega) ⟨rfl,rfl,rfl,rfl,rfl,rfl,rfl,rfl,trivial⟩ ⟨rfl,rfl,rfl,rfl,trivial⟩)
          · first
            |exact bN hb72
            | (
             (have hold:posK ZiQ (Za4 (ZaW t.rows c) s) (ZiQ (ZaW t.rows c s))<(Za4 (ZaW t.rows c) s).length:=by simpa using hb72);have hold2:=hold;rw [hid] at hold2;have hno:=ZvQ hlt hold2;have hfo:=ZqS hold2;(have hnum:(Zg6 ZiQ (Za4 (ZaW t.rows c) s) (ZaW t.rows c s):Int)=(Zd4 t.rows c s:Nat):=by unfold Zg6;rw [if_pos hold,hid,hno]);refine nav ?_;(refine ζa ?_<;>refine xL 79 ζb (xL 80 ζb (xL 81 ζb (xL 82 (ζv 305 ζu) ?_)))<;>refine ZbQ 305 ζp Zcg ?_<;>refine ζd ?_)
             (refine ζa ?_<;>refine xL 83 ζG (xL 40 ζb ?_)<;>refine ζd ?_)
             try rw [ZfL (by rw [ZcU,hnn])]
             try rw [ZfL hnum,←hfo]
             refine ζj (
              ⟨s+1,by omega⟩
              ) (by dsimp only;omega) ⟨rfl,rfl,rfl,rfl,rfl,rfl,rfl,rfl,trivial⟩ ⟨rfl,rfl,rfl,rfl,trivial⟩)))
    · first
      |exact bN hb41
      | (
       (have hsn:s=t.rows.length:=by omega);subst hsn;rw [ZnI];refine nav ?_;refine ζw (ζF (l:=303) 302 rfl rfl) fun _=>?_;refine ζw (ζF (l:=305) 303 rfl rfl) fun _=>?_;(refine ζa ?_<;>refine xL 84 ζb (xL 3 ζc ?_)<;>refine ζd ?_)
       (refine ζa ?_<;>refine xL 85 ζb (xL 86 (ZkB 304 Tryz.underlying251) (xL 87 ζb (xL 88 ζ6 ?_)))<;>refine ζd ?_)
       (first|refine cCd ?_ ?_|refine cC ?_ ?_)<;>intro hb88
       · first
         |exact bN hb88
         | (
          (have hcc:Zjn t.rows c=cnt:=by rw [ZcU] at hb88;unfold Zjn;omega);refine nav ?_;(refine ζa ?_<;>refine xL 89 ζb (xL 2 ζc ?_)<;>refine ζd ?_)
          refine Zb8 303 (Tryz.results232) rfl rfl ?_;rw [←hit,Zs0 hcc])
       · first
         |exact bN hb88
         | (
          (have hcc:¬Zjn t.rows c=cnt:=by rw [ZcU] at hb88;unfold Zjn;omega);refine nav ?_;(refine ζa ?_<;>refine xL 90 ζb (xL 91 (ZkB 304 Tryz.underlying251) (xL 6 ζc ?_))<;>refine ζd ?_)
          rw [ZcU];refine ζj (
           ⟨(h36,Zd4 t.rows c,Zjn t.rows c,f),hnx,by dsimp only;rw [←hit,Zs1 hcc],by dsimp only;omega,ho36⟩
           ) (by have:=hnx.le;dsimp only;omega) ⟨rfl,rfl,rfl,trivial⟩ ⟨rfl,rfl,trivial⟩)))
end Go.Proofs.YtgfabnhpllkebaaGreatDoor
