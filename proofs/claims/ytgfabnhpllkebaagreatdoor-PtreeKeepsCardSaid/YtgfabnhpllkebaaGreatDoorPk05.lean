/-
  Plain laws: searches that go alike; the least automaton of a table whose final states are turned. No program in sight.
  Plain laws: automata that operations make. No program in sight.
  Plain laws: minimal automata are deterministic and complete; their products. No program in sight.
  Plain laws: the language of a table; classes are those of languages; the minimal automaton is told by the language. No program in sight.
  The engine: literals of structs. No program in sight.
  The engine: a contract's result, read otherwise. No program in sight.
  The engine: fields of struct values, elements of arrays that are shared. No program in sight.
  The engine: remainders, bits. No program in sight.
  Walks: which words an automaton accepts.
  Plain laws: the language of an automaton; minimal automata of automata. No program in sight.
  Plain laws: what the operations' results accept; ways. No program in sight.
  Plain laws: automata side by side; unions, concatenations, reversals. No program in sight.
  The engine: arrays of two numbers are compared. No program in sight.
  The engine: numerals are appended to a row of bytes; the library's table. No program in sight.
  Walks: automata: sets of states as texts.
  Walks: automata: the subset automaton.
  Walks: automata: the classes of a table's states.
  Walks: automata: the minimal automaton of a table.
  Walks: automata: the minimal automaton of an automaton.
  Walks: automata: Minimal and Complement.
  The engine: quotients; a struct and a value are handed back beside what is owned. No program in sight.
  Walks: the reference's automata: lists of numbers as texts.
  Walks: the reference's automata: the subset automaton. Its final states are handed over.
-/
import Derived.DeepKeys3
import Derived.Lib.AppendIntMem
import Derived.Lib.OthersKept
import Derived.Laws.BytesArg
import Derived.Test.YtgfabnhpllkebaaGreatDoorPk04
import Derived.Test.YtgfabnhpllkebaaGreatDoorMShelfE
import Derived.Test.YtgfabnhpllkebaaGreatDoorPk01
namespace Go.Proofs.YtgfabnhpllkebaaGreatDoor
open Go.RowKit Go.Cb Go.En
set_option linter.all false
def Rel2 {α β:Type} (R:α→β→Prop) (o:List α) (o':List β):Prop:=o.length=o'.length∧∀(i:Nat) (x:α) (y:β),o[i]? =some x→o'[i]? =some y→R x y
theorem Rel2.snoc {α β:Type} {R:α→β→Prop} {o:List α} {o':List β} {x:α} {y:β} (h:Rel2 R o o') (hr:R x y):Rel2 R (o++[x]) (o'++[y]):=by
 refine ⟨by rw [Xd,Xd,h.1];rfl,fun i a b ha hb=>?_⟩
 rw [Up] at ha hb
 have hl:=h.1
 split at ha
 · rename_i h1;rw [if_pos (by omega)] at hb;exact h.2 i a b ha hb
 · rename_i h1;rw [if_neg (by omega)] at hb;have h2:=ζi ha;simp only [Xz] at h2;have h3:i=o.length:=by omega
   rw [h3,VB] at ha;rw [show i-o'.length=0 by omega] at hb;simp only [VE,Option.some.injEq] at ha hb;rw [←ha,←hb];exact hr
section
variable {α β κ κ':Type} [DecidableEq κ] [DecidableEq κ']
theorem Zp6 {f:α→κ} {g:β→κ'} {k:κ} {k':κ'}:∀{o:List α} {o':List β},o.length=o'.length→(∀(i:Nat) (x:α) (y:β),o[i]? =some x→o'[i]? =some y→(f x=k↔g y=k'))→posK f o k=posK g o' k'
 |[],[],_,_=>rfl
 |[],_::_,h,_=>by simp at h
 |_::_,[],h,_=>by simp at h
 | x::o,y::o',h,hk=>by
   have h0:=hk 0 x y rfl rfl;have ih:=Zp6 (f:=f) (g:=g) (k:=k) (k':=k') (o:=o) (o':=o') (by simpa using h) fun i a b ha hb=>hk (i+1) a b (by simpa using ha) (by simpa using hb);rw [posK,posK,ih];by_cases e:f x=k
   · rw [if_pos e,if_pos (h0.1 e)]
   · rw [if_neg e,if_neg fun e2=>e (h0.2 e2)]
variable {W:Srch α κ} {W':Srch β κ'} {R:α→β→Prop}
theorem Srch.sim_row (hc:W.cap≤W'.cap) (hk:∀x x' y y',R x y→R x' y'→(W.key x=W.key x'↔W'.key y=W'.key y')) (hs:∀i x y s,R x y→s<W.m→R (W.step i x s) (W'.step i y s)) {i:Nat} {x:α} {y:β} (hxy:R x y) {o:List α} {o':List β} (ho:Rel2 R o o'):
 ∀{s:Nat} {p:List α} {r:List Nat},s≤W.m→W.row i x o s=some (p,r)→∃p',W'.row i y o' s=some (p',r)∧Rel2 R p p'
 | 0,p,r,_,h=>by
   rw [Srch.row] at h;cases h;exact ⟨o',rfl,ho⟩
 | s + 1,p,r,hsm,h=>by
   rw [Srch.row,V5] at h;obtain ⟨⟨p1,r1⟩,h1,h2⟩:=h;obtain ⟨⟨p2,n⟩,h3,h4⟩:=XH.1 h2
   cases h4;dsimp only at h3 ⊢;obtain ⟨p1',h5,h6⟩:=Srch.sim_row hc hk hs hxy ho (by omega) h1;have hst:=hs i x y s hxy (by omega);have hpos:posK W.key p1 (W.key (W.step i x s))=posK W'.key p1' (W'.key (W'.step i y s)):=Zp6 h6.1 fun j a b ha hb=>hk a _ b _ (h6.2 j a b ha hb) hst;by_cases hp:posK W.key p1 (W.key (W.step i x s))<p1.length
   · rw [Zb8 hp] at h3;cases h3;(have hp':posK W'.key p1' (W'.key (W'.step i y s))<p1'.length:=by rw [←hpos,←h6.1];exact hp);exact ⟨p1',by rw [Srch.row_snoc h5 (Zb8 hp'),hpos],h6⟩
   · (have hp':¬posK W'.key p1' (W'.key (W'.step i y s))<p1'.length:=by rw [←hpos,←h6.1];exact hp);by_cases hcap:p1.length<W.cap
     · rw [Zb9 hp hcap] at h3;cases h3;exact ⟨p1'++[W'.step i y s],by rw [Srch.row_snoc h5 (Zb9 hp' (by have:=h6.1;omega)),h6.1],h6.snoc hst⟩
     · rw [ZpI hp (by omega)] at h3;cases h3
theorem Srch.sim (hm:W.m=W'.m) (hc:W.cap≤W'.cap) (hk:∀x x' y y',R x y→R x' y'→(W.key x=W.key x'↔W'.key y=W'.key y')) (hs:∀i x y s,R x y→s<W.m→R (W.step i x s) (W'.step i y s)) {x0:α} {y0:β} (h0:R x0 y0):
 ∀{i:Nat} {o:List α} {rows:List (List Nat)},W.upto x0 i=some (o,rows)→∃o',W'.upto y0 i=some (o',rows)∧Rel2 R o o'
 | 0,o,rows,h=>by
   rw [Srch.upto] at h;cases h;refine ⟨[y0],rfl,rfl,fun i x y hx hy=>?_⟩;match i with
   |0=>simp at hx hy;subst hx hy;exact h0
   |i+1=>simp at hx
 | i +1,o,rows,h=>by
   rw [Srch.upto,V5] at h;obtain ⟨⟨o1,rows1⟩,h1,h2⟩:=h;obtain ⟨o1',h3,h4⟩:=Srch.sim hm hc hk hs h0 h1;dsimp only at h2
   cases hx:o1[i]? with
   | none=>
     rw [hx] at h2;cases h2;have h5:=V6.1 hx;exact ⟨o1',Srch.upto_stop h3 (by dsimp only;have:=h4.1;omega) 1,h4⟩
   | some x=>
     rw [hx] at h2;obtain ⟨⟨o2,r⟩,h5,h6⟩:=XH.1 h2
     cases h6;have hil:=ζi hx;obtain ⟨y,hy⟩:=ζo (show i<o1'.length by have:=h4.1;omega);obtain ⟨p',h7,h8⟩:=Srch.sim_row hc hk hs (h4.2 i x y hx hy) h4 (Xb _) h5;rw [hm] at h7;exact ⟨p',Srch.upto_snoc h3 hy h7,h8⟩
end
section
variable {κ κ':Type} [DecidableEq κ] [DecidableEq κ']
end
theorem ZCB {t:Tab} {o:List Nat} {rows:List (List Nat)} {i:Nat} (hi:i<o.length):ZsJ (Zc7 t (o,rows)) (i:Nat)=Zeq t o i:=by
 rw [Vl]
 have:ZsJ (Zc7 t (o,rows)) (i:Nat)=true↔((i:Nat):Int)∈Za7 o.length (Zeq t o):=by
  show ZDP (Za7 o.length (Zeq t o)) (i:Nat)=true↔_;exact ZwY
 rw [this,Ziw,X8]
 constructor
 · exact fun h=>h.2.2
 · exact fun h=>⟨by omega,by omega,h⟩
theorem Zfy {f g:Nat→Bool}:∀n:Nat,(∀i,i<n→f i=g i)→Za7 n f=Za7 n g
 |0,_=>rfl
 |n+1,h=>by rw [Zcx,Zcx,Zfy n fun i hi=>h i (by omega),h n (by omega)]
structure PreA (a:Aut):Prop where
 n0:0≤a.n
 s0:0≤a.syms
 s1:a.syms≤40
 st:InS a a.start
 fi:InS a a.fin
 sn:a.start.Nodup
 fn:a.fin.Nodup
 mv:∀m∈a.moves,0≤m.src∧m.src<a.n∧0≤m.dst∧m.dst<a.n∧-1≤m.sym∧m.sym<a.syms
def mkA (a:Aut):Aut:={a with moves:=mkM a.moves}
theorem PreA.aok {a:Aut} (h:PreA a) (hb:¬(2000<(mkA a).n∨20000<(mkA a).moves.length)):AOk (mkA a):=by
 have hn:¬2000<a.n:=fun h=>hb (.inl h)
 have hl:∀{l:List Int},l.Nodup→InS a l→l.length≤2000:=fun {l} h1 h2=>by
  have:=nodup_len a.n.toNat l h1 fun s hs=>by have:=h2 s hs;have:=h.n0;omega
  omega
 exact ⟨h.n0,by show a.n≤2000;omega,h.s0,h.s1,by have:=hb;omega,h.st,h.fi,hl h.sn h.st,hl h.fn h.fi,fun m hm=>h.mv m (ZcL.1 hm)⟩
theorem Zp7 {n:Int} {l:List Int} (h:ZkS n l=true):Srt l:=by
 unfold ZkS at h
 rw [Xe] at h
 have:=h.2
 clear h
 induction l with
 |nil=>exact .nil
 | cons x l ih=>
   cases l with
   |nil=>exact Vx ..
   | cons y l=>
     rw [Zbz,Xe] at this;have h1:=ih this.2;(have hxy:x<y:=by have:=this.1;unfold ltI at this;simpa using this);refine XO.2 ⟨fun z hz=>?_,h1⟩;rcases Xm.1 hz with rfl|hz
     · exact hxy
     · exact Int.lt_trans hxy ((XO.1 h1).1 z hz)
theorem Zmv:∀{l:List Mv},Zbz Zd3 l=true→AscM l
 |[],_=> .nil
 |[x],_=>Vx ..
 | x::y::l,h=>by
   rw [Zbz,Xe] at h;have h1:=Zmv h.2;refine XO.2 ⟨fun z hz=>?_,h1⟩;rcases Xm.1 hz with rfl|hz
   · exact h.1
   · exact ZfH h.1 ((XO.1 h1).1 z hz)
theorem Zbo {l:List Int} (h:Srt l):l.Nodup:=h.imp fun h=>by omega
structure VOk (a:Aut):Prop extends AOk a where
 ss:Srt a.start
 fs:Srt a.fin
 ms:AscM a.moves
theorem ZbW {a:Aut} (h:Zas a=true):VOk a:=by
 have h':=h
 unfold Zas at h'
 simp only [Xe,decide_eq_true_eq] at h'
 obtain ⟨⟨⟨⟨⟨⟨⟨⟨_,_⟩,_⟩,_⟩,_⟩,h6⟩,h7⟩,_⟩,h9⟩:=h'
 exact ⟨Zty h,Zp7 h6,Zp7 h7,Zmv h9⟩
theorem ZgI {l:List Mv} (h:AscM l):l.Nodup:=h.imp fun {a b} h1 e=>by rw [e,Zd5] at h1;cases h1
theorem ZeD {α β:Type} {f:α→β} {l:List α} (h:l.Nodup) (hf:∀x∈l,∀y∈l,f x=f y→x=y):(l.map f).Nodup:=by
 induction l with
 |nil=>exact VG
 | cons x l ih=>
   rw [Vs] at h;rw [Xu,Vs];refine ⟨fun hm=>?_,ih h.2 fun y hy z hz=>hf y (Xj _ hy) z (Xj _ hz)⟩;obtain ⟨y,hy,e⟩:=Xo.1 hm;have:=hf y (Xj _ hy) x (Xk ..) e;rw [this] at hy;exact h.1 hy
theorem Zk1 {a:Aut} (h:VOk a):PreA (ZeC a):=by
 have hn:=h.n0
 refine ⟨by show 0≤a.n+1;omega,h.s0,h.s1,fun s hs=>?_,fun s hs=>?_,by show [a.n].Nodup;simp,by show [a.n].Nodup;simp,fun m hm=>?_⟩
 · rw [show s=a.n from Xi.1 hs];exact ⟨hn,by show a.n<a.n+1;omega⟩
 · rw [show s=a.n from Xi.1 hs];exact ⟨hn,by show a.n<a.n+1;omega⟩
 · have hs:=h.s0;show 0≤m.src∧m.src<a.n+1∧0≤m.dst∧m.dst<a.n+1∧-1≤m.sym∧m.sym<a.syms;have hm':m∈a.moves++(a.start.map fun s=>(⟨a.n,s,-1⟩:Mv))++a.fin.map fun s=>(⟨s,a.n,-1⟩:Mv):=hm;rcases Xp.1 hm' with hm|hm
   · rcases Xp.1 hm with hm|hm
     · have:=h.mv m hm;omega
     · obtain ⟨s,hs,rfl⟩:=Xo.1 hm;have:=h.st s hs;dsimp only;omega
   · obtain ⟨s,hs,rfl⟩:=Xo.1 hm;have:=h.fi s hs;dsimp only;omega
theorem ZrG {a:Aut} (h:VOk a):(ZeC a).moves.Nodup:=by
 show (a.moves++(a.start.map fun s=>(⟨a.n,s,-1⟩:Mv))++a.fin.map fun s=>(⟨s,a.n,-1⟩:Mv)).Nodup
 rw [VC,VC]
 refine ⟨⟨ZgI h.ms,ZeD (Zbo h.ss) fun x _ y _ e=>(Mv.mk.inj e).2.1,fun x hx y hy e=>?_⟩,ZeD (Zbo h.fs) fun x _ y _ e=>(Mv.mk.inj e).1,fun x hx y hy e=>?_⟩
 · obtain ⟨s,hs,rfl⟩:=Xo.1 hy;have:=h.mv x hx;rw [e] at this;dsimp only at this;omega
 · obtain ⟨s,hs,rfl⟩:=Xo.1 hy;have h1:=h.fi s hs;rcases Xp.1 hx with hx|hx
   · have:=h.mv x hx;rw [e] at this;dsimp only at this;omega
   · obtain ⟨s',hs',e'⟩:=Xo.1 hx;rw [e] at e';have:=(Mv.mk.inj e').1;omega
theorem Zp8 {i:Nat} {r:List Nat} {s n:Nat} (h:r[s]? =some n):(ZaC i r)[s]? =some ⟨(i:Nat),(n:Nat),(s:Nat)⟩:=by
 unfold ZaC
 rw [Xl,List.getElem?_zipIdx,h]
 show some (⟨(i:Nat),(n:Nat),((0+s:Nat):Int)⟩:Mv)=_
 rw [Xx]
def Zg7 (k:Nat) (rows:List (List Nat)):List Mv:=(rows.zipIdx k).flatMap fun p=>ZaC p.2 p.1
theorem Zc3 (k:Nat) (r:List Nat) (rows:List (List Nat)):Zg7 k (r::rows)=ZaC k r++Zg7 (k+1) rows:=by
 unfold Zg7;rw [VJ,Xv]
theorem Zmw {m:Nat}:∀{rows:List (List Nat)} {k i s n:Nat} {r:List Nat},(∀r∈rows,r.length=m)→rows[i]? =some r→r[s]? =some n→(Zg7 k rows)[i*m+s]? =some ⟨((k+i:Nat):Int),(n:Nat),(s:Nat)⟩
 |[],_,_,_,_,_,_,h,_=>by simp at h
 | x::rows,k,0,s,n,r,hl,hr,hs=>by
   simp only [VE,Option.some.injEq] at hr;subst hr;rw [Zc3,Vu,Xx,X2 (by rw [ZdH];exact ζi hs),Zp8 hs];rfl
 | x::rows,k,i+1,s,n,r,hl,hr,hs=>by
   simp only [Ud] at hr;have hx:=hl x (Xk ..);rw [Zc3,Vp (by rw [ZdH,hx,XS];omega),ZdH,hx,show (i+1)*m+s-m=i*m+s by rw [XS];omega,Zmw (fun r hr=>hl r (Xj _ hr)) hr hs];rw [show k+1+i=k+(i+1) by omega]
theorem Zf3 {i:Nat} {r:List Nat}:∀m∈ZaC i r,m.src=(i:Nat):=fun m hm=>by
 obtain ⟨n,s,_,rfl⟩:=Zmu hm
 rfl
theorem ZjV {k:Nat} {rows:List (List Nat)}:∀m∈Zg7 k rows,(k:Int)≤m.src:=fun m hm=>by
 unfold Zg7 at hm
 obtain ⟨p,hp,hm⟩:=X4.1 hm
 rw [Zf3 m hm]
 have:=List.mem_zipIdx hp
 omega
theorem ZiA:∀{rows:List (List Nat)} {k i:Nat} {r:List Nat},rows[i]? =some r→(Zg7 k rows).filter (fun m=>decide (m.src=((k+i:Nat):Int)))=ZaC (k+i) r
 |[],_,_,_,h=>by simp at h
 | x ::rows,k,0,r,h=>by
   simp only [VE,Option.some.injEq] at h;subst h;rw [Vd,Zc3,VF,List.filter_eq_self.2 fun m hm=>decide_eq_true (Zf3 m hm),List.filter_eq_nil_iff.2 fun m hm=>by
    have:=ZjV m hm;simp only [decide_eq_true_eq];omega,XA]
 | x ::rows,k,i+1,r,h=>by
   simp only [Ud] at h;rw [Zc3,VF,List.filter_eq_nil_iff.2 fun m hm=>by
    have:=Zf3 m hm;simp only [decide_eq_true_eq];omega,Vf,show k+(i+1)=k+1+i by omega]
   exact ZiA h
structure DetA (A:Aut):Prop where
 ok:AOk A
 pos:0<A.n.toNat
 mo:∀i s,i<A.n.toNat→s<A.syms.toNat→∃x:Mv,(movesOf A i)[s]? =some x∧A.moves[i*A.syms.toNat+s]? =some x∧x.dst=(stepA A i s:Nat)
 ml:∀i,i<A.n.toNat→(movesOf A i).length=A.syms.toNat
 sl:∀i s,i<A.n.toNat→s<A.syms.toNat→stepA A i s<A.n.toNat
theorem Zp9 {A:Aut} {i s:Nat} {x:Mv} (h:A.moves[i*A.syms.toNat+s]? =some x):stepA A i s=x.dst.toNat:=by
 unfold stepA;rw [h];rfl
theorem ZDR {t:Tab} (ht:TOk t) {o:List Nat} {rows:List (List Nat)} (h:Fin t o rows) (hm:(ζ1 rows).length≤20000):DetA (Zc7 t (o,rows)):=by
 have hok:=ZhO ht h hm
 have hn:(Zc7 t (o,rows)).n.toNat=o.length:=X8 _
 have hs:(Zc7 t (o,rows)).syms.toNat=t.m:=X8 _
 have key:∀i s,i<o.length→s<t.m→∃(r:List Nat) (n:Nat),rows[i]? =some r∧r[s]? =some n∧n<o.length∧(Zc7 t (o,rows)).moves[i*t.m+s]? =some ⟨(i:Nat),(n:Nat),(s:Nat)⟩∧movesOf (Zc7 t (o,rows)) i=ZaC i r:=fun i s hi hs=>by
  obtain ⟨r,hr⟩:=ζo (show i<rows.length by rw [h.len];exact hi);have hrl:r.length=t.m:=h.ok.len r (Xg hr);obtain ⟨n,hn⟩:=ζo (show s<r.length by omega);obtain ⟨x,hx⟩:=ζo hi;refine ⟨r,n,hr,hn,(h.ok.to i x r s n hx hr hn).1,?_,?_⟩
  · have:=Zmw (k:=0) h.ok.len hr hn;rw [Xx] at this;exact this
  · have:=ZiA (k:=0) hr;rw [Xx] at this;exact this
 refine ⟨hok,by rw [hn];exact h.pos,fun i s hi hs'=>?_,fun i hi=>?_,fun i s hi hs'=>?_⟩
 · rw [hn] at hi;rw [hs] at hs' ⊢;obtain ⟨r,n,h1,h2,h3,h4,h5⟩:=key i s hi hs';refine ⟨_,by rw [h5];exact Zp8 h2,h4,?_⟩;rw [Zp9 (by rw [hs];exact h4)];show ((n:Nat):Int)=(((n:Nat):Int).toNat:Nat);rw [X8]
 · rw [hn] at hi;obtain ⟨r,hr⟩:=ζo (show i<rows.length by rw [h.len];exact hi);have:=ZiA (k:=0) hr;rw [Xx] at this;show ((ζ1 rows).filter fun m=>decide (m.src=(i:Int))).length=_;rw [show ((ζ1 rows).filter fun m=>decide (m.src=(i:Int)))=ZaC i r from this,ZdH,hs];exact h.ok.len r (Xg hr)
 · rw [hn] at hi ⊢;rw [hs] at hs';obtain ⟨r,n,h1,h2,h3,h4,h5⟩:=key i s hi hs';rw [Zp9 (by rw [hs];exact h4)];show ((n:Nat):Int).toNat<_;rw [X8];exact h3
theorem Zw0 {a A:Aut} (h:AOk a) (hr:Zhw a= .ok A):DetA A∧A.syms=a.syms:=by
 obtain ⟨t,o,rows,hs,hT,_,hF,rfl,hm⟩:=Ziz h hr
 refine ⟨ZDR hT hF hm,?_⟩
 unfold Zjo at hs
 obtain ⟨q,_,rfl⟩:=XH.1 hs
 show ((a.syms.toNat:Nat):Int)=a.syms
 have:=h.s0
 omega
def ZEw (t:Tab) (x:Nat) (w:List Nat):Nat:=w.foldl (toT t) x
def Zw1 (t:Tab) (x:Nat) (w:List Nat):Bool:=(t.fin[ZEw t x w]?).getD false
def Zdv (m:Nat) (w:List Nat):Prop:=∀c∈w,c<m
def SameL (t:Tab) (x:Nat) (t':Tab) (x':Nat):Prop:=∀w,Zdv t.m w→Zw1 t x w=Zw1 t' x' w
theorem ZeE (t:Tab) (x c:Nat) (w:List Nat):Zw1 t x (c::w)=Zw1 t (toT t x c) w:=rfl
theorem SameL.step {t t':Tab} {x x' s:Nat} (h:SameL t x t' x') (hs:s<t.m):SameL t (toT t x s) t' (toT t' x' s):=fun w hw=>by
 have:=h (s::w) fun c hc=>by
  rcases Xm.1 hc with rfl|hc
  · exact hs
  · exact hw c hc
 rw [ZeE,ZeE] at this;exact this
theorem SameL.symm {t t':Tab} {x x':Nat} (hm:t.m=t'.m) (h:SameL t x t' x'):SameL t' x' t x:=fun w hw=>(h w (by rw [hm];exact hw)).symm
theorem SameL.trans {t t' t'':Tab} {x x' x'':Nat} (hm:t.m=t'.m) (h:SameL t x t' x') (h':SameL t' x' t'' x''):SameL t x t'' x'':=fun w hw=>(h w hw).trans (h' w (by rw [←hm];exact hw))
section
variable {t:Tab}
theorem ZtG (h:TOk t) {c:Nat→Nat} {x:Nat} (hx:x<t.rows.length):((t.rows[x]?).getD []).map c=(List.range t.m).map fun s=>c (toT t x s):=by
 obtain ⟨r,hr⟩:=ζo hx
 have hl:=h.rl r (Xg hr)
 rw [hr]
 refine Vb fun s=>?_
 show (r.map c)[s]? =_
 rw [Xl,Xl]
 by_cases hs:s<t.m
 · obtain ⟨n,hn⟩:=ζo (show s<r.length by omega);rw [hn,Ue hs];show some (c n)=some (c (toT t x s));rw [ZpZ hr hn]
 · rw [XI (by omega),XI (by rw [Uj];omega)];rfl
theorem Zmx {m:Nat} {f g:Nat→Nat}:(List.range m).map f=(List.range m).map g↔∀s,s<m→f s=g s:=by
 constructor
 · intro h s hs;have h2:((List.range m).map f)[s]? =((List.range m).map g)[s]? :=by rw [h]
   rw [Xl,Xl,Ue hs] at h2;simpa using h2
 · intro h;exact VO fun s hs=>h s (Vk.1 hs)
theorem Zom (h:TOk t) {c:Nat→Nat} {x y:Nat} (hx:x<t.rows.length) (hy:y<t.rows.length):Zb2 t.rows c x=Zb2 t.rows c y↔c x=c y∧∀s,s<t.m→c (toT t x s)=c (toT t y s):=by
 unfold Zb2
 rw [ZtG h hx,ZtG h hy,List.cons.injEq,Zmx]
theorem ZhP {c:Nat→Nat} {x y:Nat} (hx:x<t.rows.length) (hy:y<t.rows.length):ZeB t.rows c x=ZeB t.rows c y↔Zb2 t.rows c x=Zb2 t.rows c y:=by
 constructor
 · intro h;obtain ⟨z,h1,h2⟩:=ZkN (ZhL (k:=Zb2 t.rows c) hx).2;obtain ⟨z',h3,h4⟩:=ZkN (ZhL (k:=Zb2 t.rows c) hy).2;have h5:posK id (Zcf (Zb2 t.rows c) t.rows.length) (Zb2 t.rows c x)=posK id (Zcf (Zb2 t.rows c) t.rows.length) (Zb2 t.rows c y):=h;rw [h5,h3] at h1
   cases h1;exact h2.symm.trans h4
 · intro h;unfold ZeB;rw [h]
structure CL (t:Tab) (c:Nat→Nat):Prop where
 co:∀x y,x<t.rows.length→y<t.rows.length→SameL t x t y→c x=c y
 fi:∀x y,x<t.rows.length→y<t.rows.length→c x=c y→t.fin[x]? =t.fin[y]?
theorem CL.next (h:TOk t) {c:Nat→Nat} (hc:CL t c):CL t (ZeB t.rows c):=
 ⟨fun x y hx hy hl=>(ZhP hx hy).2 ((Zom h hx hy).2 ⟨hc.co x y hx hy hl,fun s hs=>hc.co _ _ (Zcy h) (Zcy h) (hl.step hs)⟩),
  fun x y hx hy he=>hc.fi x y hx hy ((Zom h hx hy).1 ((ZhP hx hy).1 he)).1⟩
structure CS (t:Tab) (c:Nat→Nat):Prop extends CL t c where
 st:∀x y s,x<t.rows.length→y<t.rows.length→s<t.m→c x=c y→c (toT t x s)=c (toT t y s)
theorem CS.lang (h:TOk t) {c:Nat→Nat} (hc:CS t c) {x y:Nat} (hx:x<t.rows.length) (hy:y<t.rows.length) (he:c x=c y):SameL t x t y:=fun w=>by
 induction w generalizing x y with
 | nil=>
   intro _;have:=hc.fi x y hx hy he;show (t.fin[x]?).getD false=(t.fin[y]?).getD false;rw [this]
 | cons s w ih=>
   intro hw;rw [ZeE,ZeE];exact ih (Zcy h) (Zcy h) (hc.st x y s hx hy (hw s (Xk ..)) he) fun c hc=>hw c (Xj _ hc)
theorem ZrH:∀{k:Nat} {L:List Nat},(∀v,v<k→v∈L)→L.length=k→L.Nodup:=fun {k}=>by
 induction k with
 |zero=>intro L _ hl;rw [XP hl];exact VG
 | succ k ih=>
   intro L hL hl;have hm:=hL k (by omega);obtain ⟨A,B,rfl⟩:=List.append_of_mem hm;have h1:(A++B).Nodup:=ih (fun v hv=>by
    have:=hL v (by omega);rcases Xp.1 this with h|h
    · exact X5 _ h
    · rcases Xm.1 h with h|h
      · omega
      · exact X6 _ h) (by simp only [Xd,Xc] at hl ⊢;omega)
   have h2:k∉A++B:=fun h3=>by
    have h4:∀v,v<k+1→v∈A++B:=fun v hv=>by
     by_cases e:v=k
     · rw [e];exact h3
     · have:=hL v hv;rcases Xp.1 this with h|h
       · exact X5 _ h
       · rcases Xm.1 h with h|h
         · exact absurd h e
         · exact X6 _ h
    have h5:=ZjT (n:=k+1) (L:=List.range (k+1)) List.nodup_range fun s hs=>Vk.1 hs;have key:∀(M:List Nat) (n:Nat),M.Nodup→(∀v,v<n→v∈M)→n≤M.length:=fun M n _ hv=>by
     induction n generalizing M with
     |zero=>exact Xf _
     | succ n ih2=>
       have h6:=ih2 (M.erase n) ((by assumption:M.Nodup).erase _) fun v hv'=>(List.mem_erase_of_ne (by omega)).2 (hv v (by omega));rw [UF (hv n (by omega))] at h6;have:=List.length_pos_of_mem (hv n (by omega));omega
    have:=key _ _ h1 h4;simp only [Xd,Xc] at hl this;omega
   have hp:(A++k::B).Perm (k::(A++B)):=List.perm_middle;rw [hp.nodup_iff,Vs];exact ⟨h2,h1⟩
theorem Zmy {α β:Type} {f:α→β}:∀{l:List α},(l.map f).Nodup→∀x∈l,∀y∈l,f x=f y→x=y
 |[],_,x,hx,_,_,_=>by cases hx
 | z ::l,h,x,hx,y,hy,e=>by
   rw [Xu,Vs] at h;rcases Xm.1 hx with h1|h1
   · rcases Xm.1 hy with h2|h2
     · rw [h1,h2]
     · exact absurd (Xo.2 ⟨y,h2,by rw [←e,h1]⟩) h.1
   · rcases Xm.1 hy with h2|h2
     · exact absurd (Xo.2 ⟨x,h1,by rw [e,h2]⟩) h.1
     · exact Zmy h.2 x h1 y h2 e
theorem ZtH {c:Nat→Nat} {k:Nat} (hk:COk t.rows.length c k) (he:ZrE t.rows c=k) {x y:Nat} (hx:x<t.rows.length) (hy:y<t.rows.length) (hxy:c x=c y):Zb2 t.rows c x=Zb2 t.rows c y:=by
 have h1:∀v,v<k→v∈(Zcf (Zb2 t.rows c) t.rows.length).map fun l=>l.headD 0:=fun v hv=>by
  obtain ⟨s,hs,rfl⟩:=hk.hit v hv;exact Xo.2 ⟨Zb2 t.rows c s,Zde.2 ⟨s,hs,rfl⟩,rfl⟩
 have h2:=ZrH h1 (by rw [Xh];exact he)
 exact Zmy h2 _ (Zde.2 ⟨x,hx,rfl⟩) _ (Zde.2 ⟨y,hy,rfl⟩) hxy
theorem Zqa (h:TOk t):∀{f:Nat} {c:Nat→Nat} {k:Nat},COk t.rows.length c k→CL t c→t.rows.length<f+k→CS t (Zjw t.rows f c k)
 |0,c,k,hk,_,hf=>by have:=hk.le;omega
 | f +1,c,k,hk,hc,hf=>by
   rw [Zjw];split
   · rename_i he;refine ⟨hc.next h,fun x y s hx hy hs hxy=>?_⟩;have h1:=((Zom h hx hy).1 ((ZhP hx hy).1 hxy)).2 s hs;exact (ZhP (Zcy h) (Zcy h)).2 (ZtH hk he (Zcy h) (Zcy h) h1)
   · rename_i he;have:=hk.grow;exact Zqa h hk.next (hc.next h) (by omega)
theorem ZAi (h:TOk t):CL t (ZpY t.fin):=by
 refine ⟨fun x y hx hy hl=>?_,fun x y hx hy he=>?_⟩
 · have:=hl [] fun c hc=>by cases hc
   have h1:(t.fin[x]?).getD false=(t.fin[y]?).getD false:=this;unfold ZpY;rw [h1]
 · have hf:=h.fl;obtain ⟨b,hb⟩:=ζo (show x<t.fin.length by omega);obtain ⟨b',hb'⟩:=ζo (show y<t.fin.length by omega);unfold ZpY at he;rw [hb,hb'] at he ⊢
   cases b<;>cases b'<;>simp_all
theorem ZtI (h:TOk t):CS t (Zdy t):=by
 unfold Zdy
 exact Zqa h (COk.start t.fin _) (ZAi h) (by omega)
theorem Zon (h:TOk t) {x y:Nat} (hx:x<t.rows.length) (hy:y<t.rows.length):Zdy t x=Zdy t y↔SameL t x t y:=
 ⟨fun e=>(ZtI h).lang h hx hy e,fun e=>(ZtI h).co x y hx hy e⟩
end
section
variable {t t':Tab}
theorem Zmz (h:TOk t) (h':TOk t') (hm:t.m=t'.m) (hL:SameL t 0 t' 0) (hle:t.rows.length≤t'.rows.length):ZbJ t=ZbJ t':=by
 obtain ⟨⟨o,rows⟩,h1⟩:=ZAe h
 have hF:=Zp5 h h1
 have h2:(minW t).upto 0 t'.rows.length=some (o,rows):=by
  have hc:o.length≤t.rows.length:=hF.ok.cap;have h3:=Srch.upto_stop h1 hc (t'.rows.length-t.rows.length);have e:(minW t).cap+(t'.rows.length-t.rows.length)=t'.rows.length:=by show t.rows.length+_=_;omega
  rw [e] at h3;exact h3
 obtain ⟨o',h3,h4⟩:=Srch.sim (W:=minW t) (W':=minW t') (R:=fun x y=>x<t.rows.length∧y<t'.rows.length∧SameL t x t' y) hm hle
  (fun x x' y y' hx hx'=>by
    show Zdy t x=Zdy t x'↔Zdy t' y=Zdy t' y';rw [Zon h hx.1 hx'.1,Zon h' hx.2.1 hx'.2.1];constructor
    · exact fun e=>((hx.2.2.symm hm).trans hm.symm e).trans hm.symm hx'.2.2
    · exact fun e=>(hx.2.2.trans hm e).trans hm (hx'.2.2.symm hm))
  (fun i x y s hx hs=>⟨Zcy h,Zcy h',hx.2.2.step hs⟩) ⟨h.pos,h'.pos,hL⟩ h2
 have h5:(minW t').all 0=some (o',rows):=h3
 unfold ZbJ
 rw [h1,h5]
 show (if 20000<(ζ1 rows).length then none else some (Zc7 t (o,rows)))=(if 20000<(ζ1 rows).length then none else some (Zc7 t' (o',rows)))
 have e:Zc7 t (o,rows)=Zc7 t' (o',rows):=by
  unfold Zc7;dsimp only;rw [h4.1,hm];congr 1;refine Zfy _ fun i hi=>?_;obtain ⟨x,hx⟩:=ζo (show i<o.length by rw [h4.1];exact hi);obtain ⟨y,hy⟩:=ζo hi;have h6:=(h4.2 i x y hx hy).2.2 [] fun c hc=>by cases hc
  unfold Zeq;rw [hx,hy];exact h6
 rw [e]
theorem ZjW (h:TOk t) (h':TOk t') (hm:t.m=t'.m) (hL:SameL t 0 t' 0):ZbJ t=ZbJ t':=by
 rcases Nat.le_total t.rows.length t'.rows.length with h1|h1
 · exact Zmz h h' hm hL h1
 · exact (Zmz h' h hm.symm (hL.symm hm) h1).symm
end
end Go.Proofs.YtgfabnhpllkebaaGreatDoor
namespace Go.En
open Go.RowKit Go.Cb
set_option linter.all false
section
variable {P:Program} {c:Ctx} {ops:Array Oper} {Q:Exit→Act→World→Prop} {rest:List Oper} {sL hP:List (Nat×Ent)} {o:Oper}
theorem Zqb:∀(l:List Value) (j off:Nat) (cells:Array Value),(l.zipIdx j).foldl (fun cs x=>cs.setIfInBounds (off+x.2) x.1) cells=(l.zipIdx (off+j)).foldl (fun cs x=>cs.setIfInBounds (0+x.2) x.1) cells
 |[],j,off,cells=>rfl
 | x::l,j,off,cells=>by
   simp only [VJ,VK];rw [Zqb l (j+1) off,Xx,X9]
theorem Zqc:∀(l:List Value) (i:Nat) (cells:Array Value),i+l.length≤cells.size→(l.zipIdx i).foldl (fun cs x=>cs.setIfInBounds (0+x.2) x.1) cells=(cells.toList.take i++l++cells.toList.drop (i+l.length)).toArray
 | [],i,cells,h=>by
   simp only [List.zipIdx_nil,List.foldl_nil,XA,Xs,Vd,Vt,Vq]
 | x::l,i,cells,h=>by
   simp only [VJ,VK];simp only [Xc] at h;rw [Zqc l (i+1) _ (by simp;omega)];congr 1;rw [Xx,Uz,Uk (by simp;omega)];simp only [List.getElem_set_self,Xc];rw [Ul (by omega),List.drop_set_of_lt (by omega),show i+1+l.length=i+(l.length+1) by omega];simp
theorem Zy7 (kk:Nat):∀(vs:List (List Value)) (i:Nat) (cells:Array Value),cells.size=(i+vs.length)*kk→(∀v∈vs,v.length=kk)→Instr.fill (fun i=>some (i*kk,kk)) cells (((vs.map fun v=>Value.agg v.toArray).zipIdx i).map fun x=>(x.2,x.1))=some (cells.toList.take (i*kk)++vs.flatten).toArray
 | [],i,cells,h,_=>by
   simp only [XY,List.zipIdx_nil,Instr.fill,List.flatten_nil,XA];simp only [Xs,Vd] at h;rw [Xn (by simp;omega)]
 | v ::vs,i,cells,h,h1=>by
   have hv:=h1 v (by simp);have hcs:(Value.agg v.toArray).cells=v.toArray:=rfl;have hle:(i+1)*kk≤cells.size:=by rw [h];exact Va _ (by simp)
   rw [XS] at hle;have hc:¬((Value.agg v.toArray).cells.size≠kk||decide (i*kk+(Value.agg v.toArray).cells.size>cells.size))=true:=by rw [hcs];simp;omega
   simp only [Xu,VJ,Instr.fill,hc,if_false];rw [hcs,←Array.foldl_toList,Array.toList_zipIdx,Zqb,Zqc _ _ _ (by simp;omega)];have:=Zy7 kk vs (i+1) (cells.toList.take (i*kk+0)++v++cells.toList.drop (i*kk+0+v.length)).toArray (by
    simp only [VI,Xd,Xt,XQ,X3];rw [XV (by omega)];rw [Xc] at h;rw [h,show i+1+vs.length=i+(vs.length+1) by omega] at*;omega) (fun u hu=>h1 u (by simp [hu]))
   simp only [Vq] at this ⊢;rw [this];congr 2;rw [Ug,←Xw];congr 1;rw [UA (by simp;rw [XS,XV (by omega)];omega)];rw [Xn (by simp;rw [XS,XV (by omega)];omega)];simp
theorem Zqd {t e kk bytes m:Nat} {z:Value} {xs:List Operand} {parts:Array (Nat×Operand)} {es:List Ent} {cs:List (List PV)} (d:Nat) (hT:ElT P t e kk bytes z)
 (k:∀h:Value,h.oneCell'=true→aL P c ops Q rest ⟨put d (h, .val h) sL,put d (h, .own e kk m cs.flatten) hP⟩) (hw:ζ2 ops sL o=some true:=by exact rfl) (hd:o.dst=some d:=by exact rfl) (hn:d<c.nt:=by exact Xa rfl) (ho:o.op= .buildSlice t m parts:=by exact rfl) (hpt:parts=((xs.zipIdx).map fun x=>(x.2,x.1)).toArray:=by exact rfl) (hx:evL sL xs=some es:=by exact rfl)
 (hcs:es.map (·.2)=cs.map PV.agg:=by exact rfl) (hck:∀q∈cs,q.length=kk:=by simp) (hm:es.length=m:=by exact rfl) (hm0:0<m:=by decide) (hm1:m≤1000:=by decide) (hk0:kk≤1000:=by decide) (hl:lk hP d=none:=by exact rfl):aL P c ops Q (o::rest) (⟨sL,hP⟩:St):=
 Zav hw fun a w F H=>by
  obtain ⟨i,hi1,hi2,hi3,hi4⟩:=hT.info;obtain ⟨he,hS⟩:=Zb6 H.rd hx;have hkp:=hT.hk;have key : ∀(es:List Ent) (cs:List (List PV)),es.map (·.2)=cs.map PV.agg→(∀q∈cs,q.length=kk)→(∀(i:Nat) (x:Value) (q:PV),(es.map (·.1))[i]? =some x→(es.map (·.2))[i]? =some q→Shr (mof c hP F) w x q)→∃us:List (List Value),es.map (·.1)=us.map (fun v=>Value.agg v.toArray)∧us.length=es.length∧(∀u∈us,u.length=kk)∧us.flatten.length=cs.flatten.length∧∀(i:Nat) (x:Value) (q:PV),us.flatten[i]? =some x→cs.flatten[i]? =some q→Shr (mof c hP F) w x q:=fun es=>by
   induction es with
   | nil=>
     intro cs h1 _ _
     cases cs with
     |nil=>exact ⟨[],rfl,rfl,by simp,rfl,by simp⟩
     |cons q cs=>simp at h1
   | cons e0 es ih=>
     intro cs h1 h2 h3
     cases cs with
     |nil=>simp at h1
     | cons q cs=>
       simp only [Xu,List.cons.injEq] at h1;obtain ⟨us,g1,g2,g3,g4,g5⟩:=ih cs h1.2 (fun u hu=>h2 u (Xj _ hu)) (fun i x q hx hq=>h3 (i+1) x q (by simpa using hx) (by simpa using hq));have h4:=h3 0 e0.1 e0.2 rfl rfl;rw [h1.1] at h4;generalize hv0:e0.1=v0 at h4;have hqk:=h2 q (Xk ..)
       cases h4 with
       | agg vs ps hvl hTT=>
         refine ⟨vs::us,by rw [Xu,Xu,hv0,g1],by simp [g2],fun u hu=>?_,by rw [Ug,Ug,Xd,Xd,g4,hvl],fun i x r hx hr=>?_⟩
         · rcases Xm.1 hu with rfl|hu
           · omega
           · exact g3 u hu
         · rw [Ug] at hx hr;rcases Xq i vs.length with hi|hi
           · rw [X2 hi] at hx;rw [X2 (by omega)] at hr;exact hTT i x r hx hr
           · rw [Vp hi] at hx;rw [Vp (by omega)] at hr;refine g5 (i-vs.length) x r hx ?_;rw [hvl];exact hr
  obtain ⟨us,u1,u2,u3,u4,u5⟩:=key es cs hcs hck hS;have hfl:us.flatten.length=m*kk:=by
   have:∀us:List (List Value),(∀u∈us,u.length=kk)→us.flatten.length=us.length*kk:=fun us=>by
    induction us with
    |nil=>intro _;simp
    | cons u us ih=>
      intro h;rw [Ug,Xd,h u (Xk ..),ih fun v hv=>h v (Xj _ hv),Xc,XS];omega
   rw [this us u3,u2,hm]
  have hmk:m*kk≤1000000:=XU (Uf hm1 hk0) (by decide);have hmk0:0<m*kk:=Nat.mul_pos hm0 hkp;obtain ⟨F',H'⟩:=ZaO (e:=e) (k:=kk) (n:=m) (cap:=m) (cur:=us.flatten.toArray) (v:= .slice (some ⟨w.heap.size,0,none⟩) m m) H hl hn (vs:=us.flatten) (ps:=cs.flatten) u4 u5 (by first|omega|exact hfl|(rw [hfl])|(rw [VL];exact hfl)) (Xb _) (by unfold maxLen;omega) (by simp;rw [←List.length_flatten,hfl]) (Xn (by simp;rw [←List.length_flatten,hfl];omega));have hf:=Zy7 kk us 0 ((Array.range (m*i.size)).map (z.cells[· % z.cells.size]!)) (by simp [hi3,u2,hm]) u3;have hpe:(parts.map fun (i,x)=>(i,a.eval x)).toList=((us.map fun v=>Value.agg v.toArray).zipIdx 0).map fun x=>(x.2,x.1):=by
   rw [hpt,←u1,←he];simp [List.zipIdx_map]
  have hr:=run_buildSlice (P:=P) w t e m (parts.map fun (i,x)=>(i,a.eval x)) us.flatten.toArray i z hT.ht hi1 hi2 (by rw [hi3];omega) (by rw [hi3];omega) (by rw [hpe,hi3];rw [hi3] at hf;simpa using hf);unfold Oper.wp execOp;simp only [ho,Sem.run_bind,hr,Result.andThen_ok,Sem.run_pure,Oper.upon,hd];exact k (.slice (some ⟨w.heap.size,0,none⟩) m m) rfl _ _ ⟨F',H'⟩
end
def Rr (p p':PV):Prop:=∀(M:BS) (w:World) (v:Value),Shr M w v p→Shr M w v p'
theorem Rr.rfl' (p:PV):Rr p p:=fun _ _ _ h=>h
theorem Rr.nil:Rr (.val (.slice none 0 0)) (.sl 0 []):=fun M w v h=>by
 cases h with
 |val=>exact .emp none 0 (by unfold maxLen;omega) (fun _=>rfl)
theorem Rr.agg {ps ps':List PV} (hl:ps.length=ps'.length) (h:∀(i:Nat) (p p':PV),ps[i]? =some p→ps'[i]? =some p'→Rr p p'):Rr (.agg ps) (.agg ps'):=fun M w v hv=>by
 cases hv with
 | agg vs ps hvl hT=>
   refine .agg vs ps' (by omega) fun i x q hx hq=>?_;obtain ⟨p,hp⟩:=Zai hq hl.symm;exact h i p q hp hq M w x (hT i x p hx hp)
theorem Rr.tup {ps ps':List PV} (hl:ps.length=ps'.length) (h:∀(i:Nat) (p p':PV),ps[i]? =some p→ps'[i]? =some p'→Rr p p'):Rr (.tup ps) (.tup ps'):=fun M w v hv=>by
 cases hv with
 | tup vs ps hvl hT=>
   refine .tup vs ps' (by omega) fun i x q hx hq=>?_;obtain ⟨p,hp⟩:=Zai hq hl.symm;exact h i p q hp hq M w x (hT i x p hx hp)
theorem Rr.tup2 {p p' q:PV} (h:Rr p p'):Rr (.tup [p,q]) (.tup [p',q]):=Rr.tup rfl fun i a b ha hb=>by
 match i with
 |0=>cases ha;cases hb;exact h
 |1=>cases ha;cases hb;exact Rr.rfl' _
 |i+2=>simp at ha
theorem AF.reread {P:Program} {f:Nat} {ps:List PV} {p p':PV} (h:AF P f ps (· =p)) (hs:shD p=true) (hr:Rr p p'):AF P f ps (· =p'):=fun M w vs hM hl hv=>
 (h M w vs hM hl hv).mono fun e w' ⟨v,q,F,h1,h2,h3,h4,h5,h6⟩=>by
   subst h2;refine ⟨v,p',fun _=>False,h1,rfl,h3, .shr (hr _ _ _ ((h4.shD hs).anti fun b _ hb=>?_)) (fun _ h=>h),fun b hb=>hb.elim,h6⟩;rcases hb with hb|hb
   · exact .inl hb
   · exact hb.elim
section
variable {P:Program} {st:St} {o:Oper}
end
section
variable {P:Program} {st:St} {o:Oper} {x y:Operand} {q q':PV} {t t':TypeId}
end
end Go.En
namespace Go.Proofs.YtgfabnhpllkebaaGreatDoor
open Go.RowKit Go.Cb Go.En
set_option linter.all false
set_option maxRecDepth 100000
def ZEl (a:Aut) (w:List Int):List Int:=w.foldl (fun S c=>ZfG a c S) (ZcJ a a.start)
def wI (w:List Nat):List Int:=w.map fun c:Nat=>(c:Int)
def ZrI (a:Aut) (S:List Int) (w:List Int):List Int:=w.foldl (fun S c=>ZfG a c S) S
def Zoo (a:Aut) (w:List Int):Bool:=Zjn a (ZEl a w)
theorem Zw2 (a:Aut) (w:List Int):Zoo a w=Zjn a (ZrI a (ZcJ a a.start) w):=rfl
theorem Zop {a:Aut} (h:AOk a) {o:List (List Int)} {rows:List (List Nat)} (hu:(Zhv a).all (ZcJ a a.start)=some (o,rows)):∀(w:List Nat) (i:Nat) (S:List Int),Zdv a.syms.toNat w→o[i]? =some S→Zw1 ⟨a.syms.toNat,rows,o.map (Zjn a)⟩ i w=Zjn a (ZrI a S (wI w)):=by
 obtain ⟨h2,h3,h4⟩:=ZpV h hu
 have hcap:o.length≤2000:=h2.cap
 have h5:=h4 hcap
 intro w
 induction w with
 | nil=>
   intro i S _ hi;show ((o.map (Zjn a))[i]?).getD false=Zjn a S;rw [Xl,hi];rfl
 | cons c w ih=>
   intro i S hw hi;have hc:c<a.syms.toNat:=hw c (Xk ..);obtain ⟨r,hr⟩:=ζo (show i<rows.length by have:=ζi hi;omega);have hl:r.length=a.syms.toNat:=h2.len r (Xg hr);obtain ⟨n,hn⟩:=ζo (show c<r.length by omega);obtain ⟨h6,h7⟩:=h2.to i S r c n hi hr hn;obtain ⟨T,hT,hT2⟩:=ZkN (f:=(Zhv a).key) (l:=o) (k:=(Zhv a).key ((Zhv a).step i S c)) (by rw [h7];exact h6);rw [h7] at hT;have hT3:T=ZfG a (c:Nat) S:=hT2;rw [ZeE,ZpZ hr hn,ih n T (fun c hc=>hw c (Xj _ hc)) hT,hT3];rfl
theorem ZhQ {a:Aut} (h:AOk a) {t:Tab} (ht:Zjo a=some t) {w:List Nat} (hw:Zdv a.syms.toNat w):Zw1 t 0 w=Zoo a (wI w):=by
 unfold Zjo at ht
 obtain ⟨⟨o,rows⟩,h1,rfl⟩:=XH.1 ht
 obtain ⟨h2,_,_⟩:=ZpV h h1
 exact Zop h h1 w 0 _ hw h2.zero
theorem Zw3 {a:Aut} {t:Tab} (ht:Zjo a=some t):t.m=a.syms.toNat:=by
 unfold Zjo at ht
 obtain ⟨q,_,rfl⟩:=XH.1 ht
 rfl
section
variable {t:Tab} {o:List Nat} {rows:List (List Nat)}
theorem Zqe (h:Fin t o rows) {i s:Nat} (hi:i<o.length) (hs:s<t.m):∃(r:List Nat) (n x y:Nat),rows[i]? =some r∧r[s]? =some n∧o[i]? =some x∧o[n]? =some y∧Zdy t y=Zdy t (toT t x s):=by
 obtain ⟨r,hr⟩:=ζo (show i<rows.length by rw [h.len];exact hi)
 have hrl:r.length=t.m:=h.ok.len r (Xg hr)
 obtain ⟨n,hn⟩:=ζo (show s<r.length by omega)
 obtain ⟨x,hx⟩:=ζo hi
 obtain ⟨h6,h7⟩:=h.ok.to i x r s n hx hr hn
 obtain ⟨y,hy,hy2⟩:=ZkN (f:=(minW t).key) (l:=o) (k:=(minW t).key ((minW t).step i x s)) (by rw [h7];exact h6)
 rw [h7] at hy
 exact ⟨r,n,x,y,hr,hn,hx,hy,hy2⟩
theorem Zoq {i s n:Nat} {r:List Nat} (h1:rows[i]? =some r) (h2:r[s]? =some n):(⟨(i:Nat),(n:Nat),(s:Nat)⟩:Mv)∈ζ1 rows:=by
 unfold ζ1
 refine X4.2 ⟨(r,i),Uw.2 h1,?_⟩
 unfold ZaC
 exact Xo.2 ⟨(n,s),Uw.2 h2,rfl⟩
theorem ZmA (hok:AOk (Zc7 t (o,rows))) {i:Nat} (hi:i<o.length) {l:List Int} (hl:∀x,x∈l↔x=(i:Int)):ZcJ (Zc7 t (o,rows)) l=[(i:Int)]:=by
 have hin:∀s∈l,0≤s∧s<(Zc7 t (o,rows)).n:=fun s hs=>by
  rw [(hl s).1 hs];exact ⟨by omega,by show ((i:Nat):Int)<(o.length:Nat);omega⟩
 refine Zts (Ziq hok.mi hin) (Vx ..) fun x=>?_
 rw [Zex hok.mi hin,Xi]
 constructor
 · intro h;induction h with
   |base h=>exact (hl _).1 h
   | step _ hm hs hd ih=>
     obtain ⟨_,s,_,_,_,_,rfl⟩:=ZgH hm;have h1:((s:Nat):Int)= -1:=hd;omega
 · intro h;subst h;exact .base ((hl _).2 rfl)
theorem ZmB (h:Fin t o rows) (hok:AOk (Zc7 t (o,rows))) {i s n:Nat} {r:List Nat} (hr:rows[i]? =some r) (hn:r[s]? =some n) (hno:n<o.length):ZfG (Zc7 t (o,rows)) (s:Nat) [(i:Int)]=[(n:Int)]:=by
 have hi:i<o.length:=by rw [←h.len];exact ζi hr
 refine ZmA hok hno fun x=>?_
 have hin:∀s∈[(i:Int)],0≤s∧s<(Zc7 t (o,rows)).n:=fun s hs=>by
  rw [Xi.1 hs];exact ⟨by omega,by show ((i:Nat):Int)<(o.length:Nat);omega⟩
 rw [Zir hin]
 constructor
 · rintro ⟨m,hm,h1,h2,rfl⟩;obtain ⟨i',s',n',r',h3,h4,rfl⟩:=ZgH hm;have h1:((i':Nat):Int)=i:=Xi.1 h1;have h2:((s':Nat):Int)=s:=h2;have e1:i'=i:=by omega
   have e2:s'=s:=by omega
   subst e1 e2;rw [hr] at h3;cases h3;rw [hn] at h4;cases h4;rfl
 · rintro rfl;exact ⟨_,Zoq hr hn,Xi.2 rfl,rfl,rfl⟩
theorem Zw4 (h:Fin t o rows) {i x:Nat} (hx:o[i]? =some x):Zjn (Zc7 t (o,rows)) [(i:Int)]=(t.fin[x]?).getD false:=by
 show (ZsJ (Zc7 t (o,rows)) (i:Int)||false)=_
 rw [Bool.or_false,ZCB (ζi hx)]
 unfold Zeq;rw [hx];rfl
theorem ZAj (ht:TOk t) (h:Fin t o rows) (hok:AOk (Zc7 t (o,rows))):∀(w:List Nat) (i x:Nat),Zdv t.m w→o[i]? =some x→Zjn (Zc7 t (o,rows)) (ZrI (Zc7 t (o,rows)) [(i:Int)] (wI w))=Zw1 t x w:=by
 intro w
 induction w with
 |nil=>intro i x _ hx;exact Zw4 h hx
 | cons c w ih=>
   intro i x hw hx;obtain ⟨r,n,x',y,hr,hn,hx',hy,hc⟩:=Zqe h (ζi hx) (hw c (Xk ..));rw [hx] at hx';cases hx';show Zjn _ (ZrI _ (ZfG _ (c:Nat) [(i:Int)]) (wI w))=Zw1 t (toT t x c) w;have hw':Zdv t.m w:=fun c hc=>hw c (Xj _ hc);rw [ZmB h hok hr hn (ζi hy),ih n y hw' hy];exact (Zon ht (h.ok.p y (Xg hy)) (Zcy ht)).1 hc w hw'
theorem ZjX (h:Fin t o rows) (hok:AOk (Zc7 t (o,rows))):ZcJ (Zc7 t (o,rows)) (Zc7 t (o,rows)).start=[((0:Nat):Int)]:=ZmA hok h.pos fun x=>Xi
theorem ZmC (ht:TOk t) (h:Fin t o rows) (hok:AOk (Zc7 t (o,rows))) {w:List Nat} (hw:Zdv t.m w):Zoo (Zc7 t (o,rows)) (wI w)=Zw1 t 0 w:=by
 rw [Zw2,ZjX h hok]
 exact ZAj ht h hok w 0 0 hw h.ok.zero
theorem ZtJ (ht:TOk t) (hu:(minW t).all 0=some (o,rows)) (hm:(ζ1 rows).length≤20000):Zhw (Zc7 t (o,rows))= .ok (Zc7 t (o,rows)):=by
 have h:=Zp5 ht hu
 have hok:=ZhO ht h hm
 have hn1:=ht.n1
 have hcap:o.length≤t.rows.length:=h.ok.cap
 have h2:(minW t).upto 0 2000=some (o,rows):=by
  have h3:=Srch.upto_stop hu hcap (2000-t.rows.length);have e:(minW t).cap+(2000-t.rows.length)=2000:=by show t.rows.length+_=_;omega
  rw [e] at h3;exact h3
 have hsy:(Zc7 t (o,rows)).syms.toNat=t.m:=X8 _
 obtain ⟨o',h3,h4⟩:=Srch.sim (W:=minW t) (W':=Zhv (Zc7 t (o,rows))) (R:=fun x S=>x<t.rows.length∧∃(i z:Nat),S=[(i:Int)]∧o[i]? =some z∧Zdy t z=Zdy t x) hsy.symm hn1
  (fun x x' S S' ⟨hx,i,z,e,hz,hc⟩ ⟨hx',i',z',e',hz',hc'⟩=>by
    show Zdy t x=Zdy t x'↔S=S';rw [e,e',←hc,←hc'];constructor
    · intro e2;have h5:posK (minW t).key o (Zdy t z)=i:=ZhH h.ok.nd hz;have h6:posK (minW t).key o (Zdy t z')=i':=ZhH h.ok.nd hz';rw [←h5,←h6,e2]
    · intro e2;(have:i=i':=by have:=(List.cons.inj e2).1;omega);subst this;rw [hz] at hz';cases hz';rfl)
  (fun i x S s ⟨hx,j,z,e,hz,hc⟩ hs=>by
    have hs:s<t.m:=hs;obtain ⟨r,n,z',y,hr,hn,hz',hy,hc2⟩:=Zqe h (ζi hz) hs;rw [hz] at hz';cases hz';refine ⟨Zcy ht,n,y,?_,hy,?_⟩
    · show ZfG _ (s:Nat) S=_;rw [e,ZmB h hok hr hn (ζi hy)]
    · rw [hc2];exact (ZtI ht).st z x s (h.ok.p z (Xg hz)) hx hs hc)
  (show (0:Nat)<t.rows.length∧_ from ⟨ht.pos,0,0,ZjX h hok,h.ok.zero,rfl⟩) h2
 have h5:Zjo (Zc7 t (o,rows))=some ⟨t.m,rows,o'.map (Zjn (Zc7 t (o,rows)))⟩:=by
  unfold Zjo;rw [show (Zhv (Zc7 t (o,rows))).all (ZcJ (Zc7 t (o,rows)) (Zc7 t (o,rows)).start)=some (o',rows) from h3,hsy];rfl
 have h6:=Zog hok h5
 have h7:ZbJ ⟨t.m,rows,o'.map (Zjn (Zc7 t (o,rows)))⟩=ZbJ t:=ZjW h6 ht rfl fun w hw=>by
  have hw:Zdv t.m w:=hw;rw [ZhQ hok h5 (by rw [hsy];exact hw),ZmC ht h hok hw]
 unfold Zhw
 rw [h5]
 dsimp only
 rw [h7]
 unfold ZbJ
 rw [hu]
 show lim (if 20000<(ζ1 rows).length then none else some (Zc7 t (o,rows)))=_
 rw [if_neg (by omega)];rfl
end
theorem ZmD {a A:Aut} (h:AOk a) (hr:Zhw a= .ok A) {w:List Nat} (hw:Zdv a.syms.toNat w):Zoo A (wI w)=Zoo a (wI w):=by
 obtain ⟨t,o,rows,hs,hT,_,hF,rfl,hm⟩:=Ziz h hr
 rw [ZmC hT hF (ZhO hT hF hm) (by rw [Zw3 hs];exact hw),ZhQ h hs hw]
theorem ZtK {a b A B:Aut} (h:AOk a) (h':AOk b) (hs:a.syms=b.syms) (hL:∀w,Zdv a.syms.toNat w→Zoo a (wI w)=Zoo b (wI w)) (hr:Zhw a= .ok A) (hr':Zhw b= .ok B):A=B:=by
 obtain ⟨t,o,rows,hs1,hT,hu,hF,rfl,hm⟩:=Ziz h hr
 obtain ⟨t',o',rows',hs1',hT',hu',hF',rfl,hm'⟩:=Ziz h' hr'
 have h1:ZbJ t=ZbJ t':=ZjW hT hT' (by rw [Zw3 hs1,Zw3 hs1',hs]) fun w hw=>by
  rw [Zw3 hs1] at hw;rw [ZhQ h hs1 hw,ZhQ h' hs1' (by rw [←hs];exact hw)];exact hL w hw
 unfold ZbJ at h1
 rw [hu,hu'] at h1
 have h2:(if 20000<(ζ1 rows).length then none else some (Zc7 t (o,rows)))=(if 20000<(ζ1 rows').length then none else some (Zc7 t' (o',rows'))):=h1
 rw [if_neg (by omega),if_neg (by omega)] at h2
 exact Option.some.inj h2
def IsMin (A:Aut):Prop:=∃t o rows,TOk t∧(minW t).all 0=some (o,rows)∧A=Zc7 t (o,rows)∧(ζ1 rows).length≤20000
theorem Zqf {a A:Aut} (h:AOk a) (hr:Zhw a= .ok A):IsMin A:=by
 obtain ⟨t,o,rows,hs,hT,hu,hF,e,hm⟩:=Ziz h hr
 exact ⟨t,o,rows,hT,hu,e,hm⟩
section
variable {A B:Aut}
theorem IsMin.aok (h:IsMin A):AOk A:=by
 obtain ⟨t,o,rows,hT,hu,rfl,hm⟩:=h
 exact ZhO hT (Zp5 hT hu) hm
theorem IsMin.red (h:IsMin A):Zhw A= .ok A:=by
 obtain ⟨t,o,rows,hT,hu,rfl,hm⟩:=h
 exact ZtJ hT hu hm
theorem IsMin.uniq (hA:IsMin A) (hB:IsMin B) (hs:A.syms=B.syms) (hL:∀w,Zdv A.syms.toNat w→Zoo A (wI w)=Zoo B (wI w)):A=B:=ZtK hA.aok hB.aok hs hL hA.red hB.red
end
theorem ZmE {a A:Aut} (h:AOk a) (hr:Zhw a= .ok A):A.syms=a.syms:=(Zw0 h hr).2
theorem ZiB {a C:Aut} (h:Zjp a= .ok C):IsMin C∧C.syms=a.syms∧∀w,Zdv a.syms.toNat w→Zoo C (wI w)=Zoo a (wI w):=by
 obtain ⟨h1,h2⟩:=ZAh h
 have ha:=Zty h1
 exact ⟨Zqf ha h2,ZmE ha h2,fun w hw=>ZmD ha h2 hw⟩
inductive Pth (a:Aut):Int→List Int→Int→Prop
 |nil (s:Int):Pth a s [] s
 |eps {m:Mv} {w:List Int} {t:Int} (hm:m∈a.moves) (hs:m.sym= -1) (h:Pth a m.dst w t):Pth a m.src w t
 |sym {m:Mv} {w:List Int} {t:Int} (hm:m∈a.moves) (hs:¬m.sym= -1) (h:Pth a m.dst w t):Pth a m.src (m.sym::w) t
section
variable {a:Aut}
theorem Pth.app {s x t:Int} {u v:List Int} (h:Pth a s u x) (h':Pth a x v t):Pth a s (u++v) t:=by
 induction h with
 |nil s=>exact h'
 |eps hm hs _ ih=>exact .eps hm hs (ih h')
 |sym hm hs _ ih=>exact .sym hm hs (ih h')
theorem Pth.cons {s t c:Int} {w:List Int} (h:Pth a s (c::w) t):∃m∈a.moves,Pth a s [] m.src∧m.sym=c∧¬m.sym= -1∧Pth a m.dst w t:=by
 generalize e:c::w=v at h
 induction h with
 |nil s=>cases e
 | eps hm hs _ ih=>
   obtain ⟨m',h1,h2,h3⟩:=ih e;exact ⟨m',h1, .eps hm hs h2,h3⟩
 | sym hm hs h _=>
   cases e;exact ⟨_,hm, .nil _,rfl,hs,h⟩
theorem Zor {S:List Int} {t:Int}:Rch a S t↔∃s∈S,Pth a s [] t:=by
 constructor
 · intro h;induction h with
   |base h=>exact ⟨_,h, .nil _⟩
   | step _ hm hs hc ih=>
     obtain ⟨s,h1,h2⟩:=ih;have:=h2.app (hs▸Pth.eps hm hc (.nil _));exact ⟨s,h1,this⟩
 · rintro ⟨s,h1,h2⟩;have key:∀{x y:Int} {v:List Int},Pth a x v y→v=[]→Rch a S x→Rch a S y:=fun h=>by
    induction h with
    |nil s=>exact fun _ h=>h
    |eps hm hs _ ih=>exact fun e h=>ih e (.step h hm rfl hs)
    |sym hm hs _ ih=>exact fun e=>by cases e
   exact key h2 rfl (.base h1)
theorem Zqg (h:AOk a):∀{w:List Int} {S:List Int} {t:Int},(∀c∈w,¬c= -1)→InS a S→(t∈ZrI a (ZcJ a S) w↔∃s∈S,Pth a s w t)
 | [],S,t,_,hS=>by
   show t∈ZcJ a S↔_;rw [Zex h.mi hS,Zor]
 | c ::w,S,t,hw,hS=>by
   have hc:=ZkV h.mi hS;show t∈ZrI a (ZcJ a (Zdu a c (ZcJ a S))) w↔_;rw [Zqg h (fun c hc=>hw c (Xj _ hc)) (ZhJ h.mi c _)];constructor
   · rintro ⟨x,h1,h2⟩;obtain ⟨m,hm,h3,h4,rfl⟩:=(Zir hc).1 h1;obtain ⟨s,h5,h6⟩:=Zor.1 ((Zex h.mi hS _).1 h3);refine ⟨s,h5,?_⟩;have:=h6.app (Pth.sym hm (by rw [h4];exact hw c (Xk ..)) h2);rw [h4] at this;exact this
   · rintro ⟨s,h1,h2⟩;obtain ⟨m,hm,h3,h4,_,h5⟩:=h2.cons;exact ⟨m.dst,(Zir hc).2 ⟨m,hm,(Zex h.mi hS _).2 (Zor.2 ⟨s,h1,h3⟩),h4,rfl⟩,h5⟩
def Lng (a:Aut) (w:List Int):Prop:=∃s∈a.start,∃f∈a.fin,Pth a s w f
theorem Zk2 (h:AOk a) {w:List Int} (hw:∀c∈w,0≤c):Zoo a w=true↔Lng a w:=by
 unfold Zoo Zjn
 rw [List.any_eq_true]
 have key:∀t,t∈ZEl a w↔∃s∈a.start,Pth a s w t:=fun t=>Zqg h (fun c hc=>by have:=hw c hc;omega) h.st
 constructor
 · rintro ⟨t,h1,h2⟩;obtain ⟨s,h3,h4⟩:=(key t).1 h1;unfold ZsJ at h2;obtain ⟨f,h5,h6⟩:=List.any_eq_true.1 h2;rw [decide_eq_true_eq] at h6;subst h6;exact ⟨s,h3,f,h5,h4⟩
 · rintro ⟨s,h3,f,h5,h4⟩;refine ⟨f,(key f).2 ⟨s,h3,h4⟩,?_⟩;unfold ZsJ;exact List.any_eq_true.2 ⟨f,h5,by simp⟩
theorem Pth.mono {b:Aut} (hs:∀m∈a.moves,m∈b.moves) {s t:Int} {w:List Int} (h:Pth a s w t):Pth b s w t:=by
 induction h with
 |nil s=>exact .nil s
 |eps hm h1 _ ih=>exact .eps (hs _ hm) h1 ih
 |sym hm h1 _ ih=>exact .sym (hs _ hm) h1 ih
theorem ZCC {w:List Int}:Lng (mkA a) w↔Lng a w:=by
 have h1:∀m,m∈(mkA a).moves↔m∈a.moves:=fun m=>ZcL
 constructor
 · rintro ⟨s,hs,f,hf,h⟩;exact ⟨s,hs,f,hf,h.mono fun m hm=>(h1 m).1 hm⟩
 · rintro ⟨s,hs,f,hf,h⟩;exact ⟨s,hs,f,hf,h.mono fun m hm=>(h1 m).2 hm⟩
end
theorem ZdI {X C:Aut} (hp:PreA X) (h:Zfu X= .ok C):IsMin C∧C.syms=X.syms∧∀w,Zdv X.syms.toNat w→(Zoo C (wI w)=true↔Lng X (wI w)):=by
 unfold Zfu Zws at h
 split at h
 · cases h
 · rename_i hb;have hok:=hp.aok hb;have h:Zhw (mkA X)= .ok C:=h;have hsy:C.syms=(mkA X).syms:=ZmE hok h;refine ⟨Zqf hok h,hsy,fun w hw=>?_⟩;rw [ZmD hok h (show Zdv (mkA X).syms.toNat w from hw),Zk2 hok,ZCC];intro c hc;obtain ⟨n,_,rfl⟩:=Xo.1 hc;omega
def Zdw (n:Int) (l:List Int):List Int:=l.map (· +n)
def ZhR (n:Int) (l:List Mv):List Mv:=l.map fun m=>⟨m.src+n,m.dst+n,m.sym⟩
def Zjx (n f:Int) (l:List Int):List Mv:=l.map fun s=>⟨f,s+n,-1⟩
def ZmF (n:Int) (F l:List Int):List Mv:=F.flatMap fun f=>Zjx n f l
def ZdJ (a b:Aut):Aut:=⟨a.n+b.n,a.syms,a.start++Zdw a.n b.start,a.fin++Zdw a.n b.fin,a.moves++ZhR a.n b.moves⟩
def Zfv (a b:Aut):Aut:=⟨a.n+b.n,a.syms,a.start,Zdw a.n b.fin,a.moves++ZhR a.n b.moves++ZmF a.n a.fin b.start⟩
theorem ZtL (n:Int) {l:List Int} {k:Nat} {x:Int} (h:l[k]? =some x):Zdw n (l.take (k+1))=Zdw n (l.take k)++[x+n]:=by unfold Zdw;rw [ζU h,XC];rfl
theorem ZtM (n:Int) {l:List Mv} {k:Nat} {x:Mv} (h:l[k]? =some x):ZhR n (l.take (k+1))=ZhR n (l.take k)++[⟨x.src+n,x.dst+n,x.sym⟩]:=by unfold ZhR;rw [ζU h,XC];rfl
theorem ZmG (n f:Int) {l:List Int} {k:Nat} {x:Int} (h:l[k]? =some x):Zjx n f (l.take (k+1))=Zjx n f (l.take k)++[⟨f,x+n,-1⟩]:=by unfold Zjx;rw [ζU h,XC];rfl
theorem ZtN (n:Int) {F:List Int} {k:Nat} {f:Int} (l:List Int) (h:F[k]? =some f):ZmF n (F.take (k+1)) l=ZmF n (F.take k) l++Zjx n f l:=by unfold ZmF;rw [ζU h,XX,Vy]
theorem Zd7 (n:Int) (l:List Int):(Zdw n l).length=l.length:=Xh _
theorem ZhS (n:Int) (l:List Mv):(ZhR n l).length=l.length:=Xh _
theorem Zk3 (n:Int) (l:List Int):∀F:List Int,(ZmF n F l).length=F.length*l.length
 |[]=>by simp [ZmF]
 | f::F=>by
   have:=Zk3 n l F;unfold ZmF at this ⊢;rw [Xv,Xd,this,Xc,XS,Nat.add_comm];unfold Zjx;rw [Xh]
theorem ZjY {n:Int} {l:List Int} (h:l.Nodup):(Zdw n l).Nodup:=ZeD h fun x _ y _ e=>by omega
theorem Zf4 {α:Type} {l m:List α} (h1:l.Nodup) (h2:m.Nodup) (h:∀x∈l,x∉m):(l++m).Nodup:=VC.2 ⟨h1,h2,fun x hx y hy e=>h x hx (e▸hy)⟩
theorem ZbQ {n x:Int} {l:List Int}:x∈Zdw n l↔∃y∈l,y+n=x:=by unfold Zdw;rw [Xo]
theorem Zdf {n:Int} {x:Mv} {l:List Mv}:x∈ZhR n l↔∃m∈l,(⟨m.src+n,m.dst+n,m.sym⟩:Mv)=x:=by unfold ZhR;rw [Xo]
theorem Ze1 {n:Int} {x:Mv} {F l:List Int}:x∈ZmF n F l↔∃f∈F,∃s∈l,(⟨f,s+n,-1⟩:Mv)=x:=by
 unfold ZmF Zjx
 simp only [X4,Xo]
section
variable {a b:Aut}
theorem ZmH (ha:VOk a) {l m:List Int} (hl:InS a l) (hm:InS b m) (h1:l.Nodup) (h2:m.Nodup):(l++Zdw a.n m).Nodup:=
 Zf4 h1 (ZjY h2) fun x hx hx'=>by
  obtain ⟨y,hy,rfl⟩:=ZbQ.1 hx';have h3:=hl _ hx;have h4:=hm y hy;omega
theorem Zy8 (ha:VOk a) (hb:VOk b) {l m:List Int} (hl:InS a l) (hm:InS b m):∀x∈l++Zdw a.n m,0≤x∧x<a.n+b.n:=fun x hx=>by
 have h1:=ha.n0
 have h2:=hb.n0
 rcases Xp.1 hx with hx|hx
 · have:=hl x hx;omega
 · obtain ⟨y,hy,rfl⟩:=ZbQ.1 hx;have:=hm y hy;omega
theorem ZtO (ha:VOk a) (hb:VOk b) (hs:a.syms=b.syms):∀m∈a.moves++ZhR a.n b.moves,0≤m.src∧m.src<a.n+b.n∧0≤m.dst∧m.dst<a.n+b.n∧-1≤m.sym∧m.sym<a.syms:=fun m hm=>by
 have h1:=ha.n0
 have h2:=hb.n0
 rcases Xp.1 hm with hm|hm
 · have:=ha.mv m hm;omega
 · obtain ⟨y,hy,rfl⟩:=Zdf.1 hm;have:=hb.mv y hy;dsimp only;omega
theorem ZjZ (ha:VOk a) (hb:VOk b):(a.moves++ZhR a.n b.moves).Nodup:=
 Zf4 (ZgI ha.ms) (ZeD (ZgI hb.ms) fun x _ y _ e=>by
  have e:=Mv.mk.inj e
  cases x;cases y;simp only [Mv.mk.injEq] at e ⊢;omega) fun x hx hx'=>by
   obtain ⟨y,hy,rfl⟩:=Zdf.1 hx';have h3:=ha.mv _ hx;have h4:=hb.mv y hy;dsimp only at h3;omega
theorem ZiC (ha:VOk a) (hb:VOk b) (hs:a.syms=b.syms):PreA (ZdJ a b):=by
 have h1:=ha.n0
 have h2:=hb.n0
 exact ⟨by show 0≤a.n+b.n;omega,ha.s0,ha.s1,Zy8 ha hb ha.st hb.st,Zy8 ha hb ha.fi hb.fi,ZmH ha ha.st hb.st (Zbo ha.ss) (Zbo hb.ss),ZmH ha ha.fi hb.fi (Zbo ha.fs) (Zbo hb.fs),ZtO ha hb hs⟩
theorem ZmI (ha:VOk a) (hb:VOk b):(Zfv a b).moves.Nodup:=by
 show (a.moves++ZhR a.n b.moves++ZmF a.n a.fin b.start).Nodup
 refine Zf4 (ZjZ ha hb) ?_ fun x hx hx'=>?_
 · have key:∀F:List Int,F.Nodup→(ZmF a.n F b.start).Nodup:=fun F=>by
    induction F with
    |nil=>exact fun _=>VG
    | cons f F ih=>
      intro h;rw [Vs] at h;show (Zjx a.n f b.start++ZmF a.n F b.start).Nodup;refine Zf4 (ZeD (Zbo hb.ss) fun x _ y _ e=>by have:=(Mv.mk.inj e).2.1;omega) (ih h.2) fun x hx hx'=>?_;obtain ⟨f',hf',s',_,rfl⟩:=Ze1.1 hx';unfold Zjx at hx;obtain ⟨s,_,e⟩:=Xo.1 hx;have:=(Mv.mk.inj e).1;subst this;exact h.1 hf'
   exact key _ (Zbo ha.fs)
 · obtain ⟨f,hf,s,hs,rfl⟩:=Ze1.1 hx';have h3:=ha.fi f hf;have h4:=hb.st s hs;rcases Xp.1 hx with hx|hx
   · have h5:=ha.mv _ hx;dsimp only at h5;omega
   · obtain ⟨y,hy,e⟩:=Zdf.1 hx;have h5:=hb.mv y hy;have h6:=(Mv.mk.inj e).1;omega
theorem Zk4 (ha:VOk a) (hb:VOk b) (hs:a.syms=b.syms):PreA (Zfv a b):=by
 have h1:=ha.n0
 have h2:=hb.n0
 refine ⟨by show 0≤a.n+b.n;omega,ha.s0,ha.s1,fun x hx=>?_,fun x hx=>?_,Zbo ha.ss,ZjY (Zbo hb.fs),fun m hm=>?_⟩
 · have:=ha.st x hx;show 0≤x∧x<a.n+b.n;omega
 · obtain ⟨y,hy,rfl⟩:=ZbQ.1 hx;have:=hb.fi y hy;show 0≤y+a.n∧y+a.n<a.n+b.n;omega
 · have hm':m∈a.moves++ZhR a.n b.moves++ZmF a.n a.fin b.start:=hm;rcases Xp.1 hm' with hm|hm
   · exact ZtO ha hb hs m hm
   · obtain ⟨f,hf,s,hs',rfl⟩:=Ze1.1 hm;have h3:=ha.fi f hf;have h4:=hb.st s hs';have h5:=ha.s0;show 0≤f∧f<a.n+b.n∧0≤s+a.n∧s+a.n<a.n+b.n∧-1≤(-1:Int)∧(-1:Int)<a.syms;omega
end
def ZiD (a b:Aut):Except Int Aut:=if ¬ZgG a b=0 then .error (ZgG a b) else Zfu (ZdJ a b)
def ZtP (a b:Aut):Except Int Aut:=if ¬ZgG a b=0 then .error (ZgG a b) else Zfu (Zfv a b)
end Go.Proofs.YtgfabnhpllkebaaGreatDoor
namespace Go.En
open Go.RowKit Go.Cb
set_option linter.all false
section
variable {P:Program} {st:St} {o:Oper}
theorem Zg8 {x y:Operand} {q q':PV} {t t':TypeId} {k:IntKind} {a:Int} (ho:o.op= .binOp .eql t x y t':=by exact rfl) (hx:ev st.slots x=some (.int k a,q):=by exact rfl) (hy:ev st.slots y=some (.int k a,q'):=by exact rfl):YE P st o (· = .bool true) (.val (.bool true)):=by
 have h:=ζY (P:=P) ho hx hy
 rwa [decide_eq_true rfl] at h
end
theorem ZtQ {P:Program} {g:Nat} (hg:P.globalNamed "internal/strconv.uint64pow10"=some g) (ht:ZB9=some g) {w:World} {M N:BS} (h:TabW w M N) {B:Nat} (hB:g<B):Lib.TabBelow P B w "internal/strconv.uint64pow10" .u64 Lib.pow10Tab:=fun w' hb=>by
 obtain ⟨⟨ty,at',h1⟩,_,_⟩:=h g ht
 have h2:=(hb.block g hB).trans h1
 unfold Lib.TabIs World.var?
 rw [hg,Vn,h2]
theorem ZAk {P:Program} {g:Nat} (hg:P.globalNamed "internal/strconv.uint64pow10"=some g) (ht:ZB9=some g) {w:World} (h:Lib.TabIs P w "internal/strconv.uint64pow10" .u64 Lib.pow10Tab):TabW w (fun _=>False) (fun _=>False):=fun g' hg'=>by
 obtain rfl:g=g':=Option.some.inj (ht.symm.trans hg')
 unfold Lib.TabIs World.var? at h
 rw [hg,Vn] at h
 split at h
 · rename_i cs ty at' hc
   cases h;exact ⟨⟨ty,at',hc⟩,fun h=>h,fun h=>h⟩
 · cases h
def ZrJ (K:List Nat) (s:List (Nat×Ent)):List (Nat×Ent):=K.filterMap fun t=>(lk s t).map fun x=>(t,x)
theorem Zk5 {s:List (Nat×Ent)} {t:Nat} {x:Ent}:∀{K:List Nat},lk (ZrJ K s) t=some x→lk s t=some x∧(t,x)∈ZrJ K s
 |[],h=>by simp [ZrJ,lk] at h
 | k :: K,h=>by
   unfold ZrJ at h ⊢;rw [List.filterMap_cons] at h ⊢
   cases hk:lk s k with
   | none=>
     rw [hk] at h;simp only [Option.map_none] at h ⊢;exact Zk5 (K:=K) h
   | some y=>
     rw [hk] at h;simp only [Uc] at h ⊢;rw [lk] at h
     cases hb:Nat.beq k t
     · rw [hb,cond_false] at h;obtain ⟨h1,h2⟩:=Zk5 (K:=K) h;exact ⟨h1,Xj _ h2⟩
     · rw [hb,cond_true] at h;have:=XR hb;subst this
       cases h;exact ⟨hk,Xk ..⟩
def ShrL (M:BS) (w:World):List (Nat×Ent)→Prop
 |[]=>True
 |x::l=>Shr M w x.2.1 x.2.2∧ShrL M w l
theorem ShrL.at {M:BS} {w:World}:∀{l:List (Nat×Ent)} {x:Nat×Ent},ShrL M w l→x∈l→Shr M w x.2.1 x.2.2
 | y::l,x,h,hx=>by
   rcases Xm.1 hx with rfl|hx
   · exact h.1
   · exact ShrL.at h.2 hx
def ZaV (b:UInt8):PV:= .val (.int .u8 (b.toNat:Nat))
theorem Zk6 {M:BS} {w:World} {bs:List UInt8} {xs:List Value} {Fs:Nat→BS} (hlen:(bs.map ZaV).length=xs.length) (hT:∀(i:Nat) (x:Value) (p:PV),xs[i]? =some x→(bs.map ZaV)[i]? =some p→Tr M w x p (Fs i)):xs=Lib.byteCells bs:=by
 apply Vb
 intro j
 unfold Lib.byteCells
 rw [Xl]
 cases hj:bs[j]? with
 | none=>
   have:=V6.1 hj;rw [Xh] at hlen;exact XI (by omega)
 | some b=>
   have hp:(bs.map ZaV)[j]? =some (ZaV b):=by rw [Xl,hj];rfl
   obtain ⟨v,hv⟩:=Zai hp hlen;rw [hv];have:=((hT j v _ hv hp).sh rfl).vOf;exact congrArg some this
theorem Zos (bs:List UInt8):strOfNums (bs.map fun b:UInt8=>(b.toNat:Int))=⟨bs.toArray⟩:=by
 unfold strOfNums
 rw [XN]
 congr 2
 conv=>rhs;rw [←List.map_id bs]
 refine VO fun b _=>?_
 simp
theorem ZCD {P:Program} {sL hP:List (Nat×Ent)} {o:Oper} {s d e e' n:Nat} {x:Operand} {h:Value} {q:PV} {bs:List UInt8} (l:Nat) (hs:P.underlying s=some (.slice e')) (he:P.underlying e'=some (.int .u8)) (hd:P.underlying d=some .string) (ho:o.op= .convert s d x:=by exact rfl) (hx:ev sL x=some (h,q):=by exact rfl) (hl:lk hP l=some (h, .own e 1 n (bs.map ZaV)):=by exact rfl):YE P (⟨sL,hP⟩:St) o (· = .string ⟨bs.toArray⟩) (.val (.string ⟨bs.toArray⟩)):=fun M F a w H=>by
 have hv:=(H.ev hx).1
 obtain ⟨xs,Fs,hrow,hlen,hTr,hdj,hb,hF'⟩:=(H.tr l _ _ hl).row
 have hxs:=Zk6 hlen hTr
 subst hxs
 refine ⟨.string ⟨bs.toArray⟩,rfl, .val _,fun N W hch hN hF=>?_⟩
 rcases ZaD hrow with ⟨h1,h2,h3⟩|⟨g,cap,h1,h2,h3,h4⟩
 · have hbn:bs=[]:=by
    unfold Lib.byteCells at h3;exact VP.1 h3
   subst hbn;rw [h1] at hv;have:=run_convert_bytes_nil W s e' hs he 0 0 d hd;simp [execOp,ho,hv,this];rfl
 · have hrow2:=hrow;rw [h1] at hrow2;have hn:n=bs.length:=by
    have:=hrow.1;simp [Lib.byteCells] at this;omega
   have:=run_convert_bytes_arg (P:=P) W s e' hs he g 0 n cap (bs.map fun b:UInt8=>(b.toNat:Int)) (by rw [Xh,hn]) (fun i hi=>by
    obtain ⟨b,hb'⟩:=ζo (show i<bs.length by omega);(have hc:(Lib.byteCells bs)[i]? =some (.int .u8 (b.toNat:Nat)):=by unfold Lib.byteCells;rw [Xl,hb'];rfl);have h5:=Zgx hch (hF l _ g hl ((hF' g).2 (.inl (by rw [h1];rfl)))) (Zbu hrow2 hc);rw [Xx,h5];simp [List.getD,hb']) d hd
   rw [Zos] at this;rw [h1] at hv;simp [execOp,ho,hv,this]
def ZtR (P:Program) (f e:Nat):Prop:=∀(B n:Nat) (i:Int) (_: -9223372036854775808≤i) (_:i≤9223372036854775807) (sv:Value) (xs:List Value) (w:World) (_:w.ownsRow B e 1 sv n xs) (_:B≤w.heap.size) (_:n+21≤140737488355328) (_:Lib.TabBelow P B w "internal/strconv.uint64pow10" .u64 Lib.pow10Tab),
 Calls P f #[sv, .int .i64 i, .int .i64 10] w fun q w'=>∃v',q= .returned v'∧w'.ownsRow B e 1 v' (n+(Lib.itoa i).length) (xs++Lib.byteCells (Lib.itoa i))∧Below B w w'∧Lib.OthersKept e none w w'
section
variable {P:Program} {c:Ctx} {ops:Array Oper} {Q:Exit→Act→World→Prop} {rest:List Oper} {sL hP:List (Nat×Ent)} {o:Oper}
theorem Zw5 {f e n g:Nat} {h:Value} {q q2 q3:PV} {x y z:Operand} {ats:Array TypeId} {bs:List UInt8} {i:Int} (l d:Nat) (K:List Nat) (hA:ZtR P f e) (hc:∀args w,(callFunc f args).run P w= .ok (.enter f args) w)
 (hN:∀b,¬c.N0 b) (hdr:¬c.dr) (hg:P.globalNamed "internal/strconv.uint64pow10"=some g) (ht:ZB9=some g)
 (hS:ShrL c.M0 c.w0 (ZrJ K sL)) (hi0: -9223372036854775808≤i) (hi1:i≤9223372036854775807) (hlim:n+21≤140737488355328)
 (k:∀h':Value,h'.oneCell'=true→aL P c ops Q rest ⟨put d (h', .val h') (ZrJ K sL),[(d,h', .own e 1 (n+(Lib.itoa i).length) ((bs++Lib.itoa i).map ZaV))]⟩)
 (hw:ζ2 ops sL o=some true:=by exact rfl) (hd:o.dst=some d:=by exact rfl) (hdn:d<c.nt:=by exact Xa rfl) (ho:o.op= .call {callee:= .value (.func f),args:= #[x,y,z],argTypes:=ats}:=by exact rfl)
 (hx:ev sL x=some (h,q):=by exact rfl) (hl:lk hP l=some (h, .own e 1 n (bs.map ZaV)):=by exact rfl) (hy:ev sL y=some (.int .i64 i,q2):=by exact rfl) (hz:ev sL z=some (.int .i64 10,q3):=by exact rfl):aL P c ops Q (o::rest) (⟨sL,hP⟩:St):=
 Zav hw fun a w F H=>by
  have hxv:=(H.rd.ev hx).1;have hyv:=(H.rd.ev hy).1;have hzv:=(H.rd.ev hz).1;have hTr:=H.tr l _ _ hl;obtain ⟨xs,Fs,hrow,hlen,hT,hdj,hb,hF⟩:=hTr.row;have hxs:xs=Lib.byteCells bs:=Zk6 hlen hT;subst hxs;have hw0:c.w0.heap.size≤w.heap.size:=H.ext.size;have hrowB:w.ownsRow c.w0.heap.size e 1 h n (Lib.byteCells bs):=by
   refine ⟨hrow.1,?_⟩;rcases hrow.2 with h1|⟨g',cap,cur,e1,e2,r⟩
   · exact .inl h1
   · refine .inr ⟨g',cap,cur,e1,?_,r⟩;exact (H.lo l _ g' hl ((hF g').2 (.inl (by rw [e1];rfl)))).resolve_right (hN g')
  obtain ⟨⟨ty,at',hgb⟩,_,_⟩:=H.m0.tb hdr g ht;have hcall:=hA c.w0.heap.size n i hi0 hi1 h (Lib.byteCells bs) w hrowB hw0 hlim (ZtQ hg ht (H.mok.tb hdr) (ZbE hgb));unfold Oper.wp;have hrun:(execOp a.eval o).run P w= .ok (.enter f #[h, .int .i64 i, .int .i64 10]) w:=by
   have hev:a.eval (.func f)= .func (.func f) #[] #[]:=rfl;simp [execOp,ho,resolve,Deferred.ofValue,hev,invoke,hxv,hyv,hzv,hc]
  rw [hrun,Oper.upon_enter];refine hcall.mono fun e' w' ⟨v',he',hown,hbel,_⟩=>?_;subst he';rw [hd];have hch:Chg c.N0 c.w0 w':=⟨hbel.os.trans H.ext.os,hbel.tape.trans H.ext.tape,hbel.output.trans H.ext.output,XU hw0 hbel.size,fun i hi hne=>(hbel.block i hi).trans (H.ext.block i hi hne)⟩;have hone:v'.oneCell'=true:=by
   rcases hown.2 with ⟨h1,_⟩|⟨g',cap',cur,e1,_⟩
   · rw [h1];rfl
   · rw [e1];rfl
  have hlow:∀b,v'.ownBlock=some b→c.w0.heap.size≤b:=fun b hb'=>by
   rcases hown.2 with ⟨h1,_⟩|⟨g',cap',cur,e1,e2,_⟩
   · rw [h1] at hb';simp [Value.ownBlock] at hb'
   · rw [e1] at hb';simp [Value.ownBlock] at hb';omega
  have hown0:w'.ownsRow 0 e 1 v' (n+(Lib.itoa i).length) (Lib.byteCells (bs++Lib.itoa i)):=by
   rw [show Lib.byteCells (bs++Lib.itoa i)=Lib.byteCells bs++Lib.byteCells (Lib.itoa i) from XC];refine ⟨hown.1,?_⟩;rcases hown.2 with h1|⟨g',cap,cur,e1,e2,r⟩
   · exact .inl h1
   · exact .inr ⟨g',cap,cur,e1,Xf _,r⟩
  refine k v' hone _ _ ⟨fun l' b=>l'=d∧v'.ownBlock=some b,⟨⟨fun l' u p hl'=>?_,fun l' z b _ hb'=> .inl (hlow b hb'.2),fun l1 l2 z1 z2 b hne h1 h2 hb1 hb2=>hne (hb1.1.trans hb2.1.symm),H.m0,hch,fun h=>absurd h hdr⟩,fun t u p ht'=>?_,?_,H.df⟩⟩
  · simp only [lk] at hl'
    cases hb:Nat.beq d l'
    · rw [hb] at hl';cases hl'
    · rw [hb] at hl';have:=XR hb;subst this
      cases hl';refine .own (Lib.byteCells (bs++Lib.itoa i)) (fun _ _=>False) hown0 (by simp [Lib.byteCells]) (fun t v p hv hp=>?_) (fun _ _ _ _ _ _ h=>h.elim) (fun _ _ _ h=>h.elim) (fun b=>by simp);unfold Lib.byteCells at hv;rw [Xl,XH] at hv hp;obtain ⟨b1,hb1,rfl⟩:=hv;obtain ⟨b2,hb2,rfl⟩:=hp;rw [hb1] at hb2;cases hb2;exact .shr (.val _) (fun _ h=>h)
  · rcases Zag ht' with ⟨rfl,e1⟩|⟨hne,e1⟩
    · cases e1;exact ⟨by simp [Act.put,H.size,hdn], .val _⟩
    · obtain ⟨h1,h2⟩:=Zk5 e1;have h3:=(H.sl t u p h1).1;refine ⟨by simpa [Act.put,Ur,hne] using h3,(hS.at h2).to hch (fun b _ h=>absurd h (hN b)) fun b hb' hm=>?_⟩;rcases hm with h4|⟨l',z,h4,h5⟩
      · exact h4
      · have:=hlow b h5.2;omega
  · simpa [Act.put] using H.size
theorem ZAl {t ks e:Nat} {kd:TypeDesc} {z:Value} {x y u:Operand} {m k v:Value} {kv:List (Value×Value)} {p q r:PV} (l:Nat) (hw:ζ2 ops sL o=some true) (hd:o.dst=none) (hT:MpT P t ks e kd z) (ho:o.op= .insert t x y u) (hx:ev sL x=some (m,p)) (hl:lk hP l=some (m, .omap kv)) (hy:ev sL y=some (k,q)) (hu:ev sL u=some (v,r)) (hk:kok kd k kv) (hbits:bits k=true)
 (kk:aL P c ops Q rest ⟨sL,put l (m, .omap (ZfT kv k v)) hP⟩):aL P c ops Q (o::rest) (⟨sL,hP⟩:St):=
 Zav hw fun a w F H=>by
  have hxv:=(H.rd.ev hx).1;have hyv:=(H.rd.ev hy).1;have huv:=(H.rd.ev hu).1;obtain ⟨b,es,clock,rfl,rfl,hb,hFb,hWf⟩:=(H.tr l _ _ hl).mapW;have hm:=Zn1 (kvOf es) k;have main:∀(es':Array MapEntry) (clock':Nat),WfM es' clock'→kvOf es'=ZfT (kvOf es) k v→Holds c ⟨sL,put l (.map (some b), .omap (ZfT (kvOf es) k v)) hP⟩ a {w with heap:=w.heap.setIfInBounds b (.map es' clock')}:=fun es' clock' hW' he=>by
   have hlt:=ZbE hb;have hch:Chg (fun x=>x=b) w {w with heap:=w.heap.setIfInBounds b (.map es' clock')}:=⟨rfl,rfl,rfl,by simp,fun i hi hne=>by
    rw [UB (fun e=>hne e.symm)]⟩
   refine ⟨F,H.change0 (fun l'=>l'=l) (hch.wid fun x hx=> .inl ⟨l,_,rfl,hl,(hFb x).2 hx⟩) (fun l' x hne hx'=>?_) (fun l' x b' hT' hx' hb'=>?_) (fun hmm l' u q hT' hx'=>?_) (fun l1 l2 _ _ _ h1 h2 hne=>absurd (h1.trans h2.symm) hne)⟩
   · rcases Zag hx' with ⟨e1,_⟩|⟨_,e1⟩
     · exact absurd e1.symm hne
     · exact ⟨e1,rfl⟩
   · subst hT';exact .inl ⟨l',_,rfl,hl,hb'⟩
   · subst hT';rw [ζ8] at hx'
     cases hx';rw [←he];exact .omap b es' clock' (by simp [hlt]) hFb hW'
  unfold Oper.wp execOp
  cases h1:ZhC (kvOf es) k with
  | none=>
    rw [h1] at hm
    cases h2:ZdZ (kvOf es) k with
    |some v=>rw [h2] at hm;simp at hm
    | none=>
      simp [ho,hxv,hyv,huv,Instr.mapUpdate,run_underlying hT.ht,getObj,setObj,Sem.run,hb,Zct hT.hk hT.hkd,ZbR hT.hk hk,h1,h2,Oper.upon,hd,Act.put];exact kk _ _ (main _ _ (Zs8 hWf) (Zs9 h1))
  | some j =>
    rw [h1] at hm
    cases h2:ZdZ (kvOf es) k with
    |none=>rw [h2] at hm;simp at hm
    | some v0=>
      have hj:∃e0,es[j]? =some e0∧keq k e0.key=true:=by
       have key:∀(l:List MapEntry) (j:Nat),ZhC (l.map fun x=>(x.key,x.val)) k=some j→∃e0,l[j]? =some e0∧keq k e0.key=true:=by
        intro l;induction l with
        |nil=>intro j h;simp [ZhC] at h
        | cons e l ih=>
          intro j h;simp only [Xu,ZhC] at h;split at h
          · rename_i hk;cases h;exact ⟨e,rfl,hk⟩
          · rw [XH] at h;obtain ⟨j',h1,rfl⟩:=h;obtain ⟨e0,h3,h4⟩:=ih j' h1;exact ⟨e0,by simpa using h3,h4⟩
       obtain ⟨e0,h3,h4⟩:=key es.toList j h1;exact ⟨e0,by simpa using h3,h4⟩
      obtain ⟨e0,h3,h4⟩:=hj;have hb0:bits e0.key=true:=by
       cases k<;>simp [bits] at hbits<;>(generalize e0.key=y at h4 ⊢;cases y<;>simp_all [keq,bits])
      have hsb:=Zl9 hb0 h4;simp [ho,hxv,hyv,huv,Instr.mapUpdate,run_underlying hT.ht,getObj,setObj,Sem.run,hb,Zct hT.hk hT.hkd,ZbR hT.hk hk,h1,h2,h3,Instr.keyThatStays,hsb,Oper.upon,hd,Act.put];exact kk _ _ (main _ _ (Zl7 _ (fun _=>rfl) hWf) (Zl8 h1))
theorem Zy9 {t ks e:Nat} {kd:TypeDesc} {z:Value} {x y u:Operand} {m k v:Value} {kv:List (Value×Value)} {p q r:PV} (l:Nat) (hT:MpT P t ks e kd z) (kk:aL P c ops Q rest ⟨sL,put l (m, .omap (ZfT kv k v)) hP⟩) (hw:ζ2 ops sL o=some true:=by exact rfl) (hd:o.dst=none:=by exact rfl) (ho:o.op= .insert t x y u:=by exact rfl) (hx:ev sL x=some (m,p):=by exact rfl) (hl:lk hP l=some (m, .omap kv):=by exact rfl) (hy:ev sL y=some (k,q):=by exact rfl) (hu:ev sL u=some (v,r):=by exact rfl) (hk:kok kd k kv:=by first|exact Zie _ _|exact Zif _ _|exact ZkI _ _|assumption) (hbits:bits k=true:=by exact rfl):aL P c ops Q (o::rest) (⟨sL,hP⟩:St):=
 ZAl l hw hd hT ho hx hl hy hu hk hbits kk
end
section
variable {P:Program} {ops:Array Oper} {Q:Exit→Act→World→Prop} {md:Region.Mode} {C:World→Prop} {Z:Nat→Bool}
def Zg9 (md:Region.Mode) (ops:Array Oper):Nat→Nat→Nat→Bool
 |0,_,_=>false
 | n+1,z,i=>match ops[z]? with
   |some oz=>oz.after.any fun e=>Region.binds md e&&(e.on==i||Zg9 md ops n e.on i)
   |none=>false
def Zdx (md:Region.Mode) (ops:Array Oper) (Z:Nat→Bool) (i:Nat):Bool:=(List.range ops.size).all fun z=> !Z z||Zg9 md ops ops.size z i
def Zd8 (md:Region.Mode) (ops:Array Oper) (listed:Array Bool):Bool:=(List.range ops.size).all fun k=> !(listed.getD k false)||(match ops[k]? with
 |some o=>o.after.all fun e=> !Region.binds md e||listed.getD e.on false
 |none=>true)
def ClosedL (md:Region.Mode) (ops:Array Oper) (listed:Array Bool):Prop:=∀(k:Nat) (o:Oper),ops[k]? =some o→listed.getD k false=true→∀e∈o.after,Region.binds md e=true→listed.getD e.on false=true
theorem Zha {listed:Array Bool} (h:Zd8 md ops listed=true):ClosedL md ops listed:=fun k o ho hk e he hb=>by
 have hks:k<ops.size:=by
  rcases Xq k ops.size with h'|h'
  · exact h'
  · rw [XZ h'] at ho;cases ho
 have:=Xy.1 h k (Vk.2 hks)
 rw [hk,ho] at this
 simp only [Bool.not_true,Bool.false_or] at this
 have:=(Array.all_eq_true'.1 this) e he
 rw [hb] at this
 simpa using this
theorem ClosedL.reach {listed:Array Bool} (h:ClosedL md ops listed) {i:Nat}:∀(n z:Nat),listed.getD z false=true→Zg9 md ops n z i=true→listed.getD i false=true
 |0,_,_,hr=>by simp [Zg9] at hr
 | n +1,z,hz,hr=>by
   rw [Zg9] at hr;split at hr
   · rename_i oz ho;obtain ⟨e,he,hb⟩:=Array.any_eq_true'.1 hr;simp only [Xe,XT,beq_iff_eq] at hb;have h1:=h z oz ho hz e he hb.1;rcases hb.2 with h2|h2
     · rw [←h2];exact h1
     · exact ClosedL.reach h n e.on h1 h2
   · cases hr
theorem ClosedL.ready {listed:Array Bool} (h:ClosedL md ops listed) {i j n:Nat} (hj:j∈Region.ready md ops listed) (hr:Zg9 md ops n j i=true):listed.getD i false=true:=by
 obtain ⟨_,oj,hoj,hall⟩:=mem_ready.1 hj
 cases n with
 |zero=>simp [Zg9] at hr
 | succ n=>
   rw [Zg9,hoj] at hr;obtain ⟨e,he,hb⟩:=Array.any_eq_true'.1 hr;simp only [Xe,XT,beq_iff_eq] at hb;have h1:=hall e he hb.1;rcases hb.2 with h2|h2
   · rw [←h2];exact h1
   · exact h.reach n e.on h1 h2
theorem ClosedL.set {listed:Array Bool} (h:ClosedL md ops listed) {j:Nat} (hj:j∈Region.ready md ops listed):ClosedL md ops (listed.setIfInBounds j true):=fun k o ho hk e he hb=>by
 obtain ⟨_,oj,hoj,hall⟩:=mem_ready.1 hj
 by_cases hkj:k=j
 · subst hkj;rw [hoj] at ho;cases ho;exact getD_set_true (hall e he hb)
 · rw [getD_set_ne false (Ne.symm hkj)] at hk;exact getD_set_true (h k o ho hk e he hb)
theorem Zk7 {i:Nat} {oi:Oper} {v:Value} (hi:ops[i]? =some oi) (hz:Zdx md ops Z i=true)
 (hsel:∀(j:Nat) (o:Oper) cs b,ops[j]? =some o→o.op≠ .select cs b):
 ∀ (fuel:Nat) (listed:Array Bool) (a:Act) (w:World),ClosedL md ops listed→
  (∀j oj,ops[j]? =some oj→j≠i→listed.getD j true=false→(∀e∈oj.after,Region.binds md e=true→e.on≠i)→oi.apart ops oj=true)→
  i∈Region.ready md ops listed→YieldsC P ops C oi v a→C w→
  ZcO P md ops Q C Z fuel (listed.setIfInBounds i true) (a.put oi.dst v) w→ZcO P md ops Q C Z (fuel+1) listed a w:=by
 intro fuel
 induction fuel with
 | zero=>
   intro listed a w _ _ hr hy hC H;refine ⟨fun h=>(by rw [h] at hr;cases hr),fun j hj=>?_⟩;by_cases hji:j=i
   · subst hji;exact YieldsIf.wpOp hi hy.ifS hC ⟨.inr hC,H⟩
   · have:=ready_mono hj hji;rw [H.1] at this
     cases this
 | succ fuel ih=>
   intro listed a w hcl hfree hr hy hC H;refine ⟨fun h=>(by rw [h] at hr;cases hr),fun j hj=>?_⟩;by_cases hji:j=i
   · subst hji;exact YieldsIf.wpOp hi hy.ifS hC ⟨.inr hC,H⟩
   · have h1:=H.2 j (ready_mono hj hji);obtain ⟨hjun,oj,hoj,hall⟩:=mem_ready.1 hj;have hnot:∀e∈oj.after,Region.binds md e=true→e.on≠i:=fun e he hb heq=>by
      have h1:=hall e he hb;have h0:=(mem_ready.1 hr).1;rw [heq] at h1;rcases Xq i listed.size with h'|h'
      · simp [h'] at h0 h1;rw [h0] at h1;cases h1
      · simp [XZ h'] at h1
     have hjz:Z j=false:=by
      cases hZ:Z j
      · rfl
      · exfalso;have hjs:j<ops.size:=by
         rcases Xq j ops.size with h'|h'
         · exact h'
         · rw [XZ h'] at hoj;cases hoj
        have:=Xy.1 hz j (Vk.2 hjs);rw [hZ] at this;simp only [Bool.not_true,Bool.false_or] at this;have h0:=(mem_ready.1 hr).1;have h1:=hcl.ready hj this;rcases Xq i listed.size with h'|h'
        · simp [h'] at h0 h1;rw [h0] at h1;cases h1
        · simp [XZ h'] at h1
     have h2:=wpOp_putIf hoj (hfree j oj hoj hji hjun hnot) (fun cs b=>hsel i oi cs b hi) (fun cs b=>hsel j oj cs b hoj) (fun c a w h=>h) hy.ifS h1;have hfree':∀k ok,ops[k]? =some ok→k≠i→(listed.setIfInBounds j true).getD k true=false→
      (∀e∈ok.after,Region.binds md e=true→e.on≠i)→oi.apart ops ok=true:=fun k ok hk hki hun hno=>by
      refine hfree k ok hk hki ?_ hno;by_cases hjk:j=k
      · subst hjk;exact hjun
      · rw [getD_set_ne true hjk] at hun;exact hun
     refine wpOp_mono (fun a' w' h3=>?_) h2;obtain ⟨hy',hor,hK⟩:=h3;have hC':C w':=by
      rcases hor with h|h
      · rw [hjz] at h;cases h
      · exact h
     refine ⟨.inr hC',ih (listed.setIfInBounds j true) a' w' (hcl.set hj) hfree' (ready_mono hr (Ne.symm hji)) hy' hC' ?_⟩;rw [UC _ _ hji];exact hK
end
section
variable {P:Program} {c:Ctx} {ops:Array Oper} {Q:Exit→Act→World→Prop} {Z:Nat→Bool} {K:List Nat} {fuel:Nat} {listed:Array Bool} {sL hP:List (Nat×Ent)} {o:Oper}
theorem ZCE {V:Value→Prop} {p:PV} (i d:Nat) (ho:ops[i]? =some o) (hck:(Region.noSelect ops&&(Region.ready .any ops listed).contains i&&Region.free .any ops listed i&&Zdx .any ops Z i&&Zd8 .any ops listed)=true) (hw:ζ2 ops sL o=some true) (hd:o.dst=some d) (hn:d<c.nt) (hy:YE P ⟨sL,ZaP K hP⟩ o V p)
 (k:∀v,V v→aD P c ops Q Z K fuel (listed.setIfInBounds i true) ⟨put d (v,p) sL,hP⟩):aD P c ops Q Z K (fuel+1) listed (⟨sL,hP⟩:St):=fun a w F H C hC=>by
 simp only [Xe] at hck
 obtain ⟨⟨⟨⟨hs,hr⟩,hf⟩,hz⟩,hcl⟩:=hck
 obtain ⟨v,hV,hS,hrun⟩:=hy _ F a w (H.rdK K)
 refine Zdb hC _ _ _ _ ?_
 refine Zk7 ho hz (Region.noSelect_spec hs) _ listed a w (Zha hcl) (Region.free_spec ho hf) (by simpa using hr) (v:=v) (.inl ⟨Zb5 H.rd hw,fun W hW=>?_⟩) (Chg.rfl' _ _) ?_
 · exact hrun _ W hW (fun b ⟨l,x,_,h1,h2⟩=> .inr ⟨l,x,h1,h2⟩) (fun l x b hl hFb ⟨l',x',h1,h2,h3⟩=>by
    obtain ⟨h4,h5⟩:=Zd0.1 hl;exact H.dj l l' _ _ b (fun e=>by rw [e,h1] at h4;cases h4) h5 h2 hFb h3)
 · rw [hd];exact k v hV _ w F (H.put hn hS) _ (fun W h=>h)
theorem ZDS {v:Value} {p:PV} (i d:Nat) (ho:ops[i]? =some o) (hck:(Region.noSelect ops&&(Region.ready .any ops listed).contains i&&Region.free .any ops listed i&&Zdx .any ops Z i&&Zd8 .any ops listed)=true) (hw:ζ2 ops sL o=some true) (hd:o.dst=some d) (hn:d<c.nt) (hy:YE P ⟨sL,ZaP K hP⟩ o (· =v) p)
 (k:aD P c ops Q Z K fuel (listed.setIfInBounds i true) ⟨put d (v,p) sL,hP⟩):aD P c ops Q Z K (fuel+1) listed (⟨sL,hP⟩:St):=ZCE i d ho hck hw hd hn hy fun u hu=>by cases hu;exact k
theorem xDT {v:Value} {p:PV} (i:Nat) (d:Nat) (ho:ops[i]? =some o) (hy:YE P ⟨sL,ZaP K hP⟩ o (· =v) p) (k:aD P c ops Q Z K fuel (listed.setIfInBounds i true) ⟨put d (v,p) sL,hP⟩) (hck:(Region.noSelect ops&&(Region.ready .any ops listed).contains i&&Region.free .any ops listed i&&Zdx .any ops Z i&&Zd8 .any ops listed)=true:=by kernel_rfl) (hw:ζ2 ops sL o=some true:=by exact rfl) (hd:o.dst=some d:=by exact rfl) (hn:d<c.nt:=by exact Xa rfl):aD P c ops Q Z K (fuel+1) listed (⟨sL,hP⟩:St):=
 ZDS i d ho hck hw hd hn hy k
theorem yDT {V:Value→Prop} {p:PV} (i:Nat) (d:Nat) (ho:ops[i]? =some o) (hy:YE P ⟨sL,ZaP K hP⟩ o V p) (k:∀v,V v→aD P c ops Q Z K fuel (listed.setIfInBounds i true) ⟨put d (v,p) sL,hP⟩) (hck:(Region.noSelect ops&&(Region.ready .any ops listed).contains i&&Region.free .any ops listed i&&Zdx .any ops Z i&&Zd8 .any ops listed)=true:=by kernel_rfl) (hw:ζ2 ops sL o=some true:=by exact rfl) (hd:o.dst=some d:=by exact rfl) (hn:d<c.nt:=by exact Xa rfl):aD P c ops Q Z K (fuel+1) listed (⟨sL,hP⟩:St):=
 ZCE i d ho hck hw hd hn hy k
end
def aDZ (P:Program) (c:Ctx) (ops:Array Oper) (Q:Exit→Act→World→Prop) (Z:Nat→Bool) (fuel:Nat) (listed:Array Bool) (st:St):Prop:=
 ∀a w F,HoldsF c st F a w→∀C:World→Prop,ZcO P .any ops Q C Z fuel listed a w
section
variable {P:Program} {c:Ctx} {ops:Array Oper} {Q:Exit→Act→World→Prop} {Z:Nat→Bool} {K:List Nat} {fuel:Nat} {listed:Array Bool} {sL hP:List (Nat×Ent)} {o:Oper}
theorem Zf5 {i:Nat} (ho:ops[i]? =some o) (hZ:Z i=true) (h:∀DQ:Exit→Act→World→Prop,(∀st':St,aDZ P c ops Q Z fuel (listed.setIfInBounds i true) st'→aN c DQ st')→aL P c ops DQ [o] (⟨sL,hP⟩:St)):aW P c ops Q Z K fuel listed (⟨sL,hP⟩:St) i:=fun a w F H C hC=>by
 refine Zcp (Q':=fun _ a' w'=>(Z i=true∨C w')∧ZcO P .any ops Q C Z fuel (listed.setIfInBounds i true) a' w') ho (fun a' w' hq=>hq) ?_
 exact h _ (fun st' hN a' w' ⟨F',H'⟩=>⟨.inl hZ,hN a' w' F' H' C⟩) a w ⟨F,H⟩
theorem ZfI (i:Nat) (hr:Region.ready .any ops listed=[i]) (ho:ops[i]? =some o) (hZ:Z i=true) (h:∀DQ:Exit→Act→World→Prop,(∀st':St,aDZ P c ops Q Z fuel (listed.setIfInBounds i true) st'→aN c DQ st')→aL P c ops DQ [o] (⟨sL,hP⟩:St)):aDZ P c ops Q Z (fuel+1) listed (⟨sL,hP⟩:St):=fun a w F H C=>
 ⟨(fun hn=>by rw [hr] at hn;cases hn),fun j hj=>by
   rw [hr] at hj;obtain rfl:j=i:=by simpa using hj
   refine Zcp (Q':=fun _ a' w'=>(Z j=true∨C w')∧ZcO P .any ops Q C Z fuel (listed.setIfInBounds j true) a' w') ho (fun a' w' hq=>hq) ?_;exact h _ (fun st' hN a' w' ⟨F',H'⟩=>⟨.inl hZ,hN a' w' F' H' C⟩) a w ⟨F,H⟩⟩
theorem ZiE (hr:Region.ready .any ops listed=[]) (h:aN c Q (⟨sL,hP⟩:St)):aDZ P c ops Q Z fuel listed (⟨sL,hP⟩:St):=fun a w F H C=>by
 cases fuel with
 |zero=>exact ⟨hr,h a w ⟨F,H⟩⟩
 |succ n=>exact ⟨fun _=>h a w ⟨F,H⟩,fun i hi=>by rw [hr] at hi;cases hi⟩
end
end Go.En
namespace Go.Proofs.YtgfabnhpllkebaaGreatDoor
open Go.RowKit Go.Cb Go.En
set_option linter.all false
set_option maxRecDepth 100000
theorem Zj0:ElT Tryz.prog 170 5 1 1 (.int .u8 0):=⟨Tryz.underlying170,by kernel_rfl,rfl,by decide⟩
theorem ZtS {l:List Int} {k:Nat} {x:Int} (h:l[k]? =some x):Zhx (l.take (k+1))=Zhx (l.take k)++Lib.itoa x++[32]:=by
 unfold Zhx;rw [ζU h,XX];simp
theorem ZtT:∀(k u:Nat),u<10^(k+1)→Lib.nDigits u≤k+1
 |0,u,h=>by rw [Lib.nDigits_small (by simpa using h)];omega
 | k +1,u,h=>by
   by_cases h1:u<10
   · rw [Lib.nDigits_small h1];omega
   · rw [Lib.nDigits_big h1];have:=ZtT k (u / 10) (by rw [Nat.pow_succ] at h;omega);omega
theorem Zqh {x:Int} (h0:0≤x) (h1:x≤1000000):(Lib.itoa x).length≤21:=by
 unfold Lib.itoa
 rw [if_neg (by omega),Lib.decDigits_length]
 have:=ZtT 6 x.toNat (by omega)
 omega
theorem Zqi:∀{l:List Int},(∀x∈l,0≤x∧x≤1000000)→(Zhx l).length≤l.length*22
 |[],_=>Xb _
 | x::l,h=>by
   have h1:=Zqi fun y hy=>h y (Xj _ hy);have hx:=h x (Xk ..);have h2:=Zqh hx.1 hx.2;have:Zhx (x::l)=Lib.itoa x++[32]++Zhx l:=rfl;rw [this,Xd,Xd];simp only [Xc,Xs];omega
theorem Zw6 (e:Nat) {l:List Int} {k:Nat} {x:Int} (h:l[k]? =some x):PV.own e 1 ((Zhx (l.take k)).length+(Lib.itoa x).length+1) ((Zhx (l.take k)++Lib.itoa x).map ZaV++[PV.val (.int .u8 32)])= .own e 1 (Zhx (l.take (k+1))).length ((Zhx (l.take (k+1))).map ZaV):=by
 rw [ZtS h]
 simp only [XC,Xd,Xc,Xs,Xx,Xu,XY]
 rfl
theorem ZAm:Tryz.prog.globalNamed "internal/strconv.uint64pow10"=ZB9:=by kernel_rfl
theorem ZtU:ZtR Tryz.prog 260 5:=fun B n i h0 h1 sv xs w hown hBw hlim htab=>Tryz.strconv_AppendInt_10 B n i h0 h1 sv xs w hown hBw hlim htab
theorem ZmJ (l:List Int) (hl:l.length≤1000000) (h0:∀x∈l,0≤x∧x≤1000000):AF Tryz.prog 231 [pInts l] (· = .val (.string (ZjU l))):=by
 refine AFd.of_bodyS 20 Tryz.func231 rfl Tryz.ntmps231 (Xa rfl) ?_
 intro w0 M0 vs hl hv hS
 obtain ⟨v0,rfl⟩:=ZcP hl
 clear hl hv
 have hs0:=hS 0 v0 _ rfl rfl
 clear hS
 refine nav ?_
 (refine ζa ?_<;>refine xL 2 ζc ?_<;>refine ζd ?_)
 (refine ζa ?_<;>refine xL 3 ζc ?_<;>refine ζd ?_)
 refine ζC (Zek 200 5 1 rfl) fun _=>?_
 (refine ζa ?_<;>refine xL 6 ζb (xL 7 (ζ9 ζx) (xL 8 ζb ?_))<;>refine ζd ?_)
 refine ζD (ι:={q:Nat×Value//q.1≤l.length∧q.2.oneCell'=true}) (fun k=>⟨[(6,_,_),(7,_,_),(3,k.1.2, .val k.1.2),(8, .int .i64 k.1.1,pInt k.1.1)],[(200,k.1.2, .own 5 1 (Zhx (l.take k.1.1)).length ((Zhx (l.take k.1.1)).map ZaV))]⟩) (fun k=>l.length-k.1.1) ⟨(0, .slice none 0 0),Xf _,rfl⟩ (fun a w H=>H.weaken ⟨rfl,rfl,rfl,rfl,trivial⟩ ⟨rfl,trivial⟩) ?_
 rintro ⟨⟨k,r⟩,hk,hr⟩
 dsimp only
 dsimp only at hk hr
 have hkl:=Zqi (l:=l.take k) (fun x hx=>h0 x (VX hx))
 rw [Xt] at hkl
 refine nav ?_
 (refine ζa ?_<;>refine xL 9 ζP ?_<;>refine ζd ?_)
 (first|refine cCd ?_ ?_|refine cC ?_ ?_)<;>intro hb9
 · first
   |exact bN hb9
   | (
    obtain ⟨x,hx⟩:=ζo (show k<l.length by omega);have e1:=Zbd (f:=pInt) hx;have hx0:=h0 x (Xg hx);have hil:=Zqh hx0.1 hx0.2;refine nav ?_;(refine ζa ?_<;>refine xL 10 (ζW ζx) ?_<;>(refine yL 11 (Zc6 ζn) fun v11 h=>?_;cases h)<;>refine xL 5 ζc ?_<;>refine ζd ?_)
    (refine ζa ?_<;>refine xL 12 ζb (xL 13 ζb ?_)<;>refine Zw5 (i:=x) (bs:=Zhx (l.take k)) (n:=(Zhx (l.take k)).length) 200 14 [6,7,8] ZtU (Tryz.call260) (fun _ h=>h) (fun h=>h) ZAm rfl ⟨hs0, .val _, .val _,trivial⟩ (by omega) (by omega) (by omega) fun h14 ho14=>?_<;>refine ζ6 (kk:=1) 15 Zj0 fun h15 ho15=>?_<;>(refine ZbH 14 15 16 Zj0 fun h16 ho16=>?_;refine ζq (ζJ (l:=16) 200 rfl rfl) fun _=>?_;refine ζq (ζI (l:=200) rfl (Zw6 _ hx)) fun _=>?_)<;>refine xL 3 ζc ?_<;>refine ζd ?_)
    (refine ζa ?_<;>refine xL 17 ζM (xL 8 ζb ?_)<;>refine ζd ?_)
    refine ζh (
     ⟨(k+1,h16),ζi hx,ho16⟩
     ) (by dsimp only;omega) ⟨rfl,rfl,rfl,rfl,trivial⟩ ⟨rfl,trivial⟩)
 · first
   |exact bN hb9
   | (
    refine nav ?_;(refine ζa ?_<;>refine xL 18 ζb (xL 19 (ZCD 200 Tryz.underlying170 Tryz.underlying5 Tryz.underlying9) (xL 2 ζc ?_))<;>refine ζd ?_)
    refine ζp (Tryz.results231) rfl ?_;rw [Xn (by omega)];rfl)
theorem Za1:AggT Tryz.prog 147 3=true:=by kernel_rfl
theorem ζr:AggT Tryz.prog 39 5=true:=by kernel_rfl
theorem ZdK:ElT Tryz.prog 117 36 1 24 (.slice none 0 0):=⟨Tryz.underlying117,by kernel_rfl,rfl,by decide⟩
theorem ZbX:FldT Tryz.prog 147 1 1=true:=by kernel_rfl
theorem Zdg:FldT Tryz.prog 147 2 2=true:=by kernel_rfl
theorem ZdL:MpT Tryz.prog 251 9 3 .string (.int .i64 0):=⟨Tryz.underlying251,Tryz.underlying9, .inl rfl,by show ZeroT _ _ _;unfold ZeroT;kernel_rfl⟩
theorem ZcV:NoAgg Tryz.prog 117=true:=by kernel_rfl
theorem Zbr:SlT Tryz.prog 117 36 1=true:=by kernel_rfl
theorem ZrK:ZaZ Tryz.prog 147=some ((.agg #[(.int .i64 0),(.slice none 0 0),(.slice none 0 0)]),([0,1,2]:List Nat).map fun o=>(o,1)):=by kernel_rfl
theorem ZrL:(Tryz.prog.info? 117).map (·.size)=some 1:=by kernel_rfl
theorem ZrM:(Tryz.prog.info? 139).map (·.size)=some 1:=by kernel_rfl
theorem Ze2:(Tryz.prog.info? 3).map (·.size)=some 1:=by kernel_rfl
theorem ZdM:ZeroT Tryz.prog 147 (.agg #[(.int .i64 0),(.slice none 0 0),(.slice none 0 0)]):=by unfold ZeroT;kernel_rfl
def Zjy (r:List Nat):PV:=pInts (toI r)
def Zk8 (r:List Nat) (j:Nat):Int:=((r[j]?).getD 0:Nat)
theorem ZtV (m:Nat):vec m (fun j=>pInt (Zk8 [] j))=List.replicate m (PV.val (.int .i64 0)):=by rw [Zmr];rfl
theorem ZmK {m:Nat} {r:List Nat} (n:Nat) (h:r.length<m):(vec m fun j=>pInt (Zk8 r j)).set (r.length*1) (pInt (n:Nat))=vec m fun j=>pInt (Zk8 (r++[n]) j):=by
 rw [XJ,Ztx]
 refine Zey fun i hi=>?_
 unfold Zk8
 by_cases e:i=r.length
 · subst e;rw [if_pos rfl];simp
 · rw [if_neg e,Up];split
   · rfl
   · rw [XI (by omega),XI (by simp;omega)]
theorem ZrN (r:List Nat):(vec r.length fun j=>pInt (Zk8 r j))=(toI r).map pInt:=by
 symm
 refine Zoa (by simp [toI]) fun i x hx=>?_
 unfold toI at hx
 rw [XN,Xl,XH] at hx
 obtain ⟨y,hy,rfl⟩:=hx
 unfold Zk8;rw [hy];rfl
theorem ZtW (e m:Nat) (r:List Nat) (h:r.length=m):share (.own e 1 m (vec m fun j=>pInt (Zk8 r j)))=Zjy r:=by
 subst h
 rw [ZrN,Zaq _ _ _ (by simp [toI])];rfl
theorem ZtX (e:Nat) (L:List (List Nat)) (x:List Nat):PV.own e 1 (L.length+1) (L.map Zjy++[Zjy x])= .own e 1 (L++[x]).length ((L++[x]).map Zjy):=by simp
theorem ZrO (e:Nat) (L:List Bool) (x:Bool):PV.own e 1 (L.length+1) (L.map ζ7++[ζ7 x])= .own e 1 (L++[x]).length ((L++[x]).map ζ7):=by simp
theorem Zot (e n:Nat) (l:List (List Nat)) (hn:n=l.length):share (.own e 1 n (l.map Zjy))= .sl l.length (l.map Zjy):=by
 subst hn
 rw [share,Zac,XN]
 congr 1
theorem ZmL (e n:Nat) (l:List Bool) (hn:n=l.length):share (.own e 1 n (l.map ζ7))= .sl l.length (l.map ζ7):=by
 subst hn
 rw [share,Zac,XN];rfl
def Zza (t:Tab):PV:= .agg [pInt (t.m:Nat), .sl t.rows.length (t.rows.map Zjy), .sl t.fin.length (t.fin.map ζ7)]
def ZEx (a:Aut) (p:PV):Prop:=(∃t,Zjo a=some t∧p= .tup [Zza t,ζ7 true])∨(Zjo a=none∧∃u1 u2 u3:Value,u1.oneCell'=true∧u2.oneCell'=true∧u3.oneCell'=true∧p= .tup [.agg [.val u1, .val u2, .val u3],ζ7 false])
section
variable {α:Type}
def ZiF (f:α→ByteArray) (o:List α) (x:α):Nat:=if posK f o (f x)<o.length then posK f o (f x) else 0
theorem Zqj (f:α→ByteArray) (o:List α) (x:α):(ZdZ (skv (ZdC f 0 o)) (.string (f x))).getD (.int .i64 0)= .int .i64 (ZiF f o x:Nat)∧(ZdZ (skv (ZdC f 0 o)) (.string (f x))).isSome=decide (posK f o (f x)<o.length):=by
 rw [ZwG,ZkP]
 unfold ZiF
 by_cases h:posK f o (f x)<o.length
 · rw [if_pos h,if_pos h,decide_eq_true h,Xx];exact ⟨rfl,rfl⟩
 · rw [if_neg h,if_neg h,decide_eq_false h];exact ⟨rfl,rfl⟩
end
section
variable {α:Type} {P:Program} {sL hP:List (Nat×Ent)} {o:Oper}
theorem Zzb {t ks e:Nat} {kd:TypeDesc} {z:Value} {x y:Operand} {m:Value} {f:α→ByteArray} {L:List α} {a:α} {p q:PV} (l:Nat) (hT:MpT P t ks e kd z) (hz:z= .int .i64 0) (hkd:kd= .string) (ho:o.op= .lookup t x y true:=by exact rfl) (hx:ev sL x=some (m,p):=by exact rfl) (hl:lk hP l=some (m, .omap (skv (ZdC f 0 L))):=by exact rfl) (hy:ev sL y=some (.string (f a),q):=by exact rfl):
 YE P (⟨sL,hP⟩:St) o (· = .tuple [.int .i64 (ZiF f L a:Nat), .bool (decide (posK f L (f a)<L.length))].toArray) (.tup [.val (.int .i64 (ZiF f L a:Nat)), .val (.bool (decide (posK f L (f a)<L.length)))]):=by
 subst hz hkd
 have h:=ZpF (sL:=sL) (hP:=hP) (o:=o) l hT ho hx hl hy (Zie _ _)
 rw [(Zqj f L a).1,(Zqj f L a).2] at h
 exact h
end
theorem ZCF {o:List (List Int)} {x:List Int} (h:∀l∈o,∀s∈l,0≤s) (hx:∀s∈x,0≤s):posK ZjU o (ZjU x)=posK id o x:=ZhG fun l hl=>Zp4 (h l hl) hx
theorem Zw7 (x:List Int):ZfT [] (.string (ZjU x)) (.int .i64 0)=skv (ZdC ZjU 0 [x]):=rfl
theorem Zqk {α:Type} {f:α→ByteArray} {o:List α} {x:α} (h:¬posK f o (f x)<o.length):ZfT (skv (ZdC f 0 o)) (.string (f x)) (.int .i64 (o.length:Nat))=skv (ZdC f 0 (o++[x])):=by
 have:=ZkQ f x o 0 h
 rw [Xx] at this
 rw [ZpC,this]
theorem SetOk.nn {a:Aut} {l:List Int} (h:SetOk a l):∀s∈l,0≤s:=fun s hs=>(h.1 s hs).1
theorem SetOk.bd {a:Aut} (ha:AOk a) {l:List Int} (h:SetOk a l):∀s∈l,0≤s∧s≤1000000:=fun s hs=>by have:=h.1 s hs;have:=ha.n1;omega
set_option maxHeartbeats 4000000 in
theorem ZgJ (a : Aut) (h:AOk a):AF Tryz.prog 185 [Zap a] (ZEx a):=by
 have hn1:=h.n1
 have hs0:=h.s0
 have hs1:=h.s1
 have hsN:((a.syms.toNat:Nat):Int)=a.syms:=by omega
 have hst:=Zms h
 refine AF.of_body 96 Tryz.func185 rfl Tryz.ntmps185 (Xa rfl) ?_
 intro w0 M0 vs hl hv
 obtain ⟨v0,rfl⟩:=ZcP hl
 clear hl hv
 refine nav ?_
 (refine ζa ?_<;>refine ζS 1 5 fun h1=>?_<;>refine ζs [(.int .i64 0),(.slice none 0 0),(.slice none 0 0)] 3 2 ZdM fun h2=>?_<;>refine xL 3 ζc ?_<;>refine ζd ?_)
 (refine ζa ?_<;>(refine yL 14 (ζm 1 ζr) fun v14 h=>?_;cases h)<;>(refine cS 15 (cA Tryz.call110 (ZrD a h)) fun v15 h=>?_;cases h)<;>refine xL 4 ζc ?_<;>refine ζd ?_)
 (refine ζa ?_<;>refine xL 16 (ζe 1 Zam) ?_<;>(refine yL 17 (ζk 1 ζn) fun v17 h=>?_;cases h)<;>refine xL 18 (ζB ZrK) ?_<;>refine ζs [(.int .i64 0),(.slice none 0 0),(.slice none 0 0)] 3 5 ZdM fun h5=>?_<;>refine ζt 5 Za1 ?_<;>refine ζd ?_)
 refine ζC (ZfU (l:=5) [pInt a.syms, .own 36 1 0 [], .own 4 1 0 []] rfl rfl (fun i p p' h1 h2=>by
  match i with
  |0=>cases h1;cases h2;exact .inl rfl
  |1=>cases h1;cases h2;exact .inr ⟨rfl,_,_,rfl⟩
  |2=>cases h1;cases h2;exact .inr ⟨rfl,_,_,rfl⟩
  |i+3=>simp at h2)) fun _=>?_
 refine ζC (ZfV (l:=5) (l':=301) (j:=1) rfl rfl rfl rfl) fun i=>?_
 obtain ⟨v301,ho301⟩:=i
 refine ζC (ZfV (l:=5) (l':=302) (j:=2) rfl rfl rfl rfl) fun i=>?_
 obtain ⟨v302,ho302⟩:=i
 dsimp only [List.set]
 (refine ζa ?_<;>refine xL 19 ζb (xL 20 (ζe 1 Zan) ?_)<;>(refine yL 21 (ζk 1 ζH) fun v21 h=>?_;cases h)<;>(refine cO 22 (cA Tryz.call111 (ZjO a a.start hn1 h.mi h.st)) fun v22 ho22=>?_;refine ζq (En.freeze (l:=22) (t:=22) rfl rfl) fun _=>?_;rw [Zaq _ _ _ rfl])<;>refine ζ6 (kk:=1) 23 ZdK fun h23 ho23=>?_<;>refine xL 6 ζc ?_<;>refine ζd ?_)
 refine ζC (ζJ (l:=23) 303 rfl rfl) fun _=>?_
 obtain ⟨x0,hx0⟩:∃x0,x0=ZcJ a a.start:=⟨_,rfl⟩
 rw [←hx0] at hst ⊢
 have hst2:=hst.len h
 (refine ζa ?_<;>refine Zii 24 fun h24 ho24=>?_<;>refine xL 25 ζb ?_<;>refine xL 26 (ζu (i:=0) 303 Zbr) ?_<;>(refine yL 27 (ζk 303 ζH) fun v27 h=>?_;cases h)<;>(refine cS 28 (cA Tryz.call231 (ZmJ x0 (by omega) (hst.bd h))) fun v28 h=>?_;cases h)<;>(refine Zy9 24 ZdL ?_;rw [Zw7])<;>refine xL 29 ζb (xL 7 ζc ?_)<;>refine ζd ?_)
 refine ζC (ζJ (l:=24) 304 rfl rfl) fun _=>?_
 (refine ζa ?_<;>refine xL 8 ζc ?_<;>refine ζd ?_)
 refine ζD (ι:={q:Nat×Value×Value×Value×List (List Int)×List (List Nat)//(Zhv a).upto x0 q.1=some (q.2.2.2.2.1,q.2.2.2.2.2)∧q.1≤q.2.2.2.2.1.length∧q.2.1.oneCell'=true∧q.2.2.1.oneCell'=true∧q.2.2.2.1.oneCell'=true}) (fun k=>⟨[(1,_,_),(2,_,_),(3,_,_),(4,_,_),(5,_,_),(7,_,_),(6,k.1.2.2.2.1, .val k.1.2.2.2.1),(8, .int .i64 k.1.1,pInt k.1.1)],[(1,_,_),(2,_,_),(304,h24, .omap (skv (ZdC ZjU 0 k.1.2.2.2.2.1))),(5,h5, .own 147 3 1 [pInt a.syms, .val k.1.2.1, .val k.1.2.2.1]),(301,k.1.2.1, .own 36 1 k.1.2.2.2.2.2.length (k.1.2.2.2.2.2.map Zjy)),(302,k.1.2.2.1, .own 4 1 ((k.1.2.2.2.2.1.take k.1.1).map (Zjn a)).length (((k.1.2.2.2.2.1.take k.1.1).map (Zjn a)).map ζ7)),(303,k.1.2.2.2.1, .own 36 1 k.1.2.2.2.2.1.length (k.1.2.2.2.2.1.map pInts))]⟩) (fun k=>2000-k.1.1) ⟨(0,v301,v302,h23,[x0],[]),rfl,Xf _,ho301,ho302,ho23⟩ (fun a w H=>H.weaken ⟨rfl,rfl,rfl,rfl,rfl,rfl,rfl,rfl,trivial⟩ ⟨rfl,rfl,rfl,rfl,rfl,rfl,rfl,trivial⟩) ?_
 rintro ⟨⟨i,r1,r2,r3,o,rows⟩,hU,hi,hr1,hr2,hr3⟩
 dsimp only
 dsimp only at hU hi hr1 hr2 hr3
 have hU':=hU
 rw [hx0] at hU'
 obtain ⟨hOk,hRl,_⟩:=ZpV h hU'
 have hRl:=hRl hi
 have hcap:o.length≤2000:=hOk.cap
 have hOp:=hOk.p
 have hone1:En.one (PV.val r1)=true:=hr1
 have hone2:En.one (PV.val r2)=true:=hr2
 have hfl:((o.take i).map (Zjn a)).length≤2000:=by rw [Xh,Xt];omega
 refine nav ?_
 (refine ζa ?_<;>refine xL 30 ζb (xL 31 ζb (xL 32 (Zbw 303 Zbr) (xL 33 ζP ?_)))<;>refine ζd ?_)
 (first|refine cCd ?_ ?_|refine cC ?_ ?_)<;>intro hb33
 · first
   |exact bN hb33
   | (
    obtain ⟨x,hx⟩:=ζo (show i<o.length by omega);have hxs:=hOp x (Xg hx);have hxl:=hxs.len h;refine nav ?_;(refine ζa ?_<;>refine xL 36 (ζe 1 Zam) ?_<;>(refine yL 37 (ζk 1 ζn) fun v37 h=>?_;cases h)<;>(refine Zih (n:=a.syms.toNat) 38 ζz (fun h38 ho38=>?_) (hx:=by rw [hsN];exact rfl) (hy:=by rw [hsN];exact rfl) (hb:=by omega))<;>refine xL 9 ζc ?_<;>refine ζd ?_)
    rw [←ZtV];(refine ζa ?_<;>refine xL 39 ζb (xL 40 (Zbw 38 ζx) (xL 41 ζb ?_))<;>refine ζd ?_)
    refine ζD (ι:={q:Nat×Value×List (List Int)×List Nat//(Zhv a).row i x o q.1=some (q.2.2.1,q.2.2.2)∧q.1≤a.syms.toNat∧q.2.1.oneCell'=true}) (fun k=>⟨[(1,_,_),(2,_,_),(3,_,_),(4,_,_),(5,_,_),(7,_,_),(8,_,_),(9,_,_),(40,_,_),(6,k.1.2.1, .val k.1.2.1),(41, .int .i64 k.1.1,pInt k.1.1)],[(1,_,_),(2,_,_),(5,_,_),(301,_,_),(302,_,_),(303,k.1.2.1, .own 36 1 k.1.2.2.1.length (k.1.2.2.1.map pInts)),(304,h24, .omap (skv (ZdC ZjU 0 k.1.2.2.1))),(38,h38, .own 3 1 a.syms.toNat (vec a.syms.toNat fun j=>pInt (Zk8 k.1.2.2.2 j)))]⟩) (fun k=>a.syms.toNat-k.1.1) ⟨(0,r3,o,[]),rfl,Xf _,hr3⟩ (fun a w H=>H.weaken ⟨rfl,rfl,rfl,rfl,rfl,rfl,rfl,rfl,rfl,rfl,rfl,trivial⟩ ⟨rfl,rfl,rfl,rfl,rfl,rfl,rfl,rfl,trivial⟩) ?_;rintro ⟨⟨s,r3',o',r⟩,hW,hs,hr3'⟩;dsimp only;dsimp only at hW hs hr3';obtain ⟨hMt,hpr,hrl,_⟩:=hOk.toMet.row (fun s _=>ZkY h s x) (show s≤(Zhv a).m from hs) hW;have hcap':o'.length≤2000:=hMt.cap;have hx':=ZhE hpr hx;have hil:=ζi hx';refine nav ?_;(refine ζa ?_<;>refine xL 42 ζP ?_<;>refine ζd ?_)
    (first|refine cCd ?_ ?_|refine cC ?_ ?_)<;>intro hb42
    · first
      |exact bN hb42
      | (
       have hset:=ZkY h (s:Nat) x;obtain ⟨set,hse⟩:∃set,set=ZfG a (s:Nat) x:=⟨_,rfl⟩;rw [←hse] at hset;have hsl:=hset.len h;have hkid:=ZCF (fun l hl=>(hMt.p l hl).nn) hset.nn;have e1:=Zbd (f:=pInts) hx';have e2:=Zis a.syms.toNat (fun j=>pInt (Zk8 r j));refine nav ?_;(refine ζa ?_<;>refine xL 43 ζb (xL 10 ζc ?_)<;>refine ζd ?_)
       (refine ζa ?_<;>refine xL 44 ζb (xL 45 ζb (xL 46 ζb (xL 47 (ζu 303 Zbr) ?_)))<;>(refine yL 48 (ζk 303 ζH) fun v48 h=>?_;cases h)<;>refine xL 49 ζb ?_<;>(refine cO 50 (cA Tryz.call112 (ZAa a x s hn1 h.ml h.mi hxs.1 hxl)) fun v50 ho50=>?_;refine ζq (En.freeze (l:=50) (t:=50) rfl rfl) fun _=>?_;rw [Zaq _ _ _ rfl,←hse])<;>refine xL 11 ζc ?_<;>refine ζd ?_)
       (refine ζa ?_<;>refine xL 52 ζb (xL 53 ζb ?_)<;>(refine cS 54 (cA Tryz.call231 (ZmJ set (by omega) (hset.bd h))) fun v54 h=>?_;cases h)<;>refine xL 55 (Zzb (f:=ZjU) (L:=o') (a:=set) 304 ZdL rfl rfl) ?_<;>refine xL 51 ζb (xL 56 ζl (xL 57 ζl (xL 12 ζc (xL 13 ζc ?_))))<;>refine ζd ?_)
       (refine ζa ?_<;>refine xL 58 ζb (xL 59 Zaw ?_)<;>refine ζd ?_)
       (first|refine cCd ?_ ?_|refine cC ?_ ?_)<;>intro hb59
       · first
         |exact bN hb59
         | (
          (have hnew:¬posK ZjU o' (ZjU set)<o'.length:=by simpa using hb59);have hnew2:¬posK (Zhv a).key o' ((Zhv a).key ((Zhv a).step i x s))<o'.length:=by
           show ¬posK id o' (ZfG a (s:Nat) x)<o'.length;rw [←hse,←hkid];exact hnew
          refine nav ?_;(refine ζa ?_<;>refine xL 60 ζb (xL 61 (Zbw 303 Zbr) (xL 12 ζc ?_))<;>refine ζd ?_)
          (refine ζa ?_<;>refine xL 62 ζb (xL 63 Zcu ?_)<;>refine ζd ?_)
          (first|refine cCd ?_ ?_|refine cC ?_ ?_)<;>intro hb63
          · first
            |exact bN hb63
            | (
             refine nav ?_;(refine ζa ?_<;>(refine yL 64 (ζm (k:=3) (ps:=[pInt a.syms,PV.val r1,PV.val r2]) 5 kR) fun v64 h=>?_;cases h)<;>refine ζt 2 Za1 ?_<;>refine xL 3 ζc ?_<;>refine ζd ?_)
             refine ZaI (k:=3) 2 kR (Tryz.results185) rfl rfl rfl (Xa rfl) (by decide) rfl (.inr ⟨?_,_,_,_,rfl,hr1,hr2,rfl⟩);have hv:=ZpI hnew2 (show (Zhv a).cap≤o'.length by show 2000≤o'.length;omega);have h1:=Srch.row_fails (Srch.row_out hW hv) (show s+1≤(Zhv a).m by show s+1≤a.syms.toNat;omega);have h2:=Srch.all_none (Srch.upto_out hU hx h1) (show i+1≤(Zhv a).cap by show i+1≤2000;omega);unfold Zjo;rw [←hx0,h2];rfl)
          · first
            |exact bN hb63
            | (
             refine nav ?_;(refine ζa ?_<;>refine xL 65 ζb (xL 66 ζb ?_)<;>(refine cS 67 (cA Tryz.call231 (ZmJ set (by omega) (hset.bd h))) fun v67 h=>?_;cases h)<;>refine xL 68 ζb ?_<;>(refine ZjI 304 ZdL ?_;rw [Zqk hnew])<;>refine ζd ?_)
             (refine ζa ?_<;>refine xL 69 ζb (xL 70 ζb ?_)<;>refine ζ6 (kk:=1) 71 ZdK fun h71 ho71=>?_<;>(refine ZbH 303 71 72 ZdK fun h72 ho72=>?_;refine ζq (ζJ (l:=72) 303 rfl rfl) fun _=>?_;refine ζq (ζI (l:=303) rfl (ZCy _ o' set)) fun _=>?_)<;>refine xL 6 ζc ?_<;>refine ζd ?_)
             (refine ζa ?_<;>refine xL 73 ζb (xL 74 ζb (xL 75 ζb (xL 76 (ζu 38 ζx) ?_)))<;>refine Zb7 38 ζn Ze2 ?_<;>refine ζd ?_)
             (refine ζa ?_<;>refine xL 77 ζM (xL 41 ζb ?_)<;>refine ζd ?_)
             rw [show s*1=r.length*1 by omega,ZmK _ (by omega)]
             first
              | (exact ζh (
                  ⟨(s+1,h72,o'++[set],r++[o'.length]),(by dsimp only;rw [hse];exact Srch.row_snoc hW (Zb9 hnew2 (show o'.length<2000 by omega))),(by dsimp only;omega),ho72⟩
                  ) (by dsimp only;omega) ⟨rfl,rfl,rfl,rfl,rfl,rfl,rfl,rfl,rfl,rfl,rfl,trivial⟩ ⟨rfl,rfl,rfl,rfl,rfl,rfl,rfl,rfl,trivial⟩)
              | (exact ζh (
                  ⟨(s+1,r3',o',r++[ZiF ZjU o' set]),(by dsimp only;rw [hnum];exact Srch.row_snoc hW (Zb8 hold2)),(by dsimp only;omega),hr3'⟩
                  ) (by dsimp only;omega) ⟨rfl,rfl,rfl,rfl,rfl,rfl,rfl,rfl,rfl,rfl,rfl,trivial⟩ ⟨rfl,rfl,rfl,rfl,rfl,rfl,rfl,rfl,trivial⟩)))
       · first
         |exact bN hb59
         | (
          (have hold:posK ZjU o' (ZjU set)<o'.length:=by simpa using hb59);have hold2:posK (Zhv a).key o' ((Zhv a).key ((Zhv a).step i x s))<o'.length:=by
           show posK id o' (ZfG a (s:Nat) x)<o'.length;rw [←hse,←hkid];exact hold
          have hnum:ZiF ZjU o' set=posK (Zhv a).key o' ((Zhv a).key ((Zhv a).step i x s)):=by
           show ZiF ZjU o' set=posK id o' (ZfG a (s:Nat) x);unfold ZiF;rw [if_pos hold,hkid,hse]
          refine nav ?_;(refine ζa ?_<;>refine xL 73 ζb (xL 74 ζb (xL 75 ζb (xL 76 (ζu 38 ζx) ?_)))<;>refine Zb7 38 ζn Ze2 ?_<;>refine ζd ?_)
          (refine ζa ?_<;>refine xL 77 ζM (xL 41 ζb ?_)<;>refine ζd ?_)
          rw [show s*1=r.length*1 by omega,ZmK _ (by omega)]
          first
           | (exact ζh (
               ⟨(s+1,h72,o'++[set],r++[o'.length]),(by dsimp only;rw [hse];exact Srch.row_snoc hW (Zb9 hnew2 (show o'.length<2000 by omega))),(by dsimp only;omega),ho72⟩
               ) (by dsimp only;omega) ⟨rfl,rfl,rfl,rfl,rfl,rfl,rfl,rfl,rfl,rfl,rfl,trivial⟩ ⟨rfl,rfl,rfl,rfl,rfl,rfl,rfl,rfl,trivial⟩)
           | (exact ζh (
               ⟨(s+1,r3',o',r++[ZiF ZjU o' set]),(by dsimp only;rw [hnum];exact Srch.row_snoc hW (Zb8 hold2)),(by dsimp only;omega),hr3'⟩
               ) (by dsimp only;omega) ⟨rfl,rfl,rfl,rfl,rfl,rfl,rfl,rfl,rfl,rfl,rfl,trivial⟩ ⟨rfl,rfl,rfl,rfl,rfl,rfl,rfl,rfl,trivial⟩)))
    · first
      |exact bN hb42
      | (
       (have hsm:s=a.syms.toNat:=by omega);subst hsm;have hU2:=Srch.upto_snoc hU hx hW;have e1:=Zbd (f:=pInts) hx';have htk:o'.take (i+1)=(o.take i)++[x]:=by
        rw [ζU hx'];obtain ⟨e,rfl⟩:=hpr;rw [UA hi]
       refine nav ?_;refine ζC (En.freeze (l:=38) (t:=9) rfl rfl) fun _=>?_;rw [ZtW _ _ _ hrl];(refine ζV (fun i=>([16,17,18]:List Nat).elem i) [5,303] kR ?_<;>refine xDT 0 78 rfl (ζe 5 ZbX) ?_<;>(refine yDT 1 79 rfl (ζk 5 ZcV) fun v79 h=>?_;cases h)<;>refine xDT 2 80 rfl ζb ?_<;>refine xDT 5 83 rfl (ζe 5 Zdg) ?_<;>(refine yDT 6 84 rfl (ζk 5 ZcU) fun v84 h=>?_;cases h)<;>refine xDT 7 85 rfl ζb ?_<;>refine xDT 8 86 rfl ζb ?_<;>refine xDT 9 87 rfl ζb ?_<;>refine xDT 10 88 rfl (ζu 303 Zbr) ?_<;>(refine yDT 11 89 rfl (ζk 303 ζH) fun v89 h=>?_;cases h)<;>(refine ζj 3 kR ?_)<;>(refine ζg rfl fun w9 M9 N9 DQ back=>?_)<;>refine ζ6 (kk:=1) 81 ZdK fun h81 ho81=>?_<;>refine ζf (back _ (nrm ?_))<;>(refine ζj 4 kR ?_)<;>(refine ζg rfl fun w9 M9 N9 DQ back=>?_)<;>refine ZbH 301 81 82 ZdK fun h82 ho82=>?_<;>refine ζf (back _ (nrm ?_))<;>refine xDT 15 93 rfl (ζe 5 ZbX) ?_<;>(refine ζj 12 kR ?_)<;>(refine Zdt (d:=90) rfl (cA Tryz.call113 (Zrv a x hxs.1)) fun v90 h=>?_;cases h)<;>(refine ζj 13 kR ?_)<;>(refine ζg rfl fun w9 M9 N9 DQ back=>?_)<;>refine ζ6 (kk:=1) 91 Ze0 fun h91 ho91=>?_<;>refine ζf (back _ (nrm ?_))<;>(refine ζj 14 kR ?_)<;>(refine ζg rfl fun w9 M9 N9 DQ back=>?_)<;>refine ZbH 302 91 92 Ze0 fun h92 ho92=>?_<;>refine ζf (back _ (nrm ?_))<;>(refine ζj 16 kR ?_)<;>(refine Zf5 rfl rfl fun DQ back=>?_)<;>refine Zb7 5 ZcV ZrL ?_<;>refine ζf (back _ ?_)<;>(refine ZfI 17 kR rfl rfl fun DQ back=>?_)<;>refine xL 94 (ζe 5 Zdg) ?_<;>refine ζf (back _ ?_)<;>(refine ZfI 18 kR rfl rfl fun DQ back=>?_)<;>refine Zb7 5 ZcU ZrM ?_<;>refine ζf (back _ ?_)<;>refine ZiE kR (nav ?_)<;>try dsimp only)
       refine ζC (ζJ (l:=82) 301 rfl rfl) fun _=>?_;refine ζC (ζJ (l:=92) 302 rfl rfl) fun _=>?_;refine ζC (ζI (l:=301) rfl (ZtX _ rows r)) fun _=>?_;refine ζC (ζI (l:=302) rfl (ZrO _ ((o.take i).map (Zjn a)) (Zjn a x))) fun _=>?_;rw [show ((o.take i).map (Zjn a))++[Zjn a x]=(o'.take (i+1)).map (Zjn a) by rw [htk,XC];rfl];(refine ζa ?_<;>refine xL 34 ζb (xL 35 ζM (xL 8 ζc ?_))<;>refine ζd ?_)
       refine ζh (
        ⟨(i+1,h82,h92,r3',o',rows++[r]),hU2,(by dsimp only;omega),ho82,ho92,hr3'⟩
        ) (by dsimp only;omega) ⟨rfl,rfl,rfl,rfl,rfl,rfl,rfl,rfl,trivial⟩ ⟨rfl,rfl,rfl,rfl,rfl,rfl,rfl,trivial⟩))
 · first
   |exact bN hb33
   | (
    (have hio:i=o.length:=by omega);subst hio;refine nav ?_;refine ζC (ZaW (l:=5) (l':=301) (j:=1) rfl rfl rfl rfl) fun _=>?_;refine ζC (ZaW (l:=5) (l':=302) (j:=2) rfl rfl rfl rfl) fun _=>?_;rw [Zot _ _ _ rfl,ZmL _ _ _ rfl];(refine ζa ?_<;>(refine yL 95 (ζm 5 Za1) fun v95 h=>?_;cases h)<;>refine ζt 2 Za1 ?_<;>refine xL 3 ζc ?_<;>refine ζd ?_)
    refine ZaI (k:=3) 2 kR (Tryz.results185) rfl rfl rfl (Xa rfl) (by decide) rfl (.inl ⟨⟨a.syms.toNat,rows,o.map (Zjn a)⟩,?_,?_⟩)
    · unfold Zjo;rw [←hx0,Srch.all_some hU (Xb _) (show o.length≤(Zhv a).cap from hcap)];rfl
    · unfold Zza;dsimp only;rw [List.take_length,hsN];rfl)
def Zql (l:List Nat):ByteArray:=ZjU (toI l)
theorem Zzc (l:List Nat):∀x∈toI l,0≤x:=fun x hx=>by
 unfold toI at hx
 obtain ⟨y,_,rfl⟩:=Xo.1 hx
 omega
theorem ZAn (o:List (List Nat)) (x:List Nat):posK Zql o (Zql x)=posK id o x:=ZhG fun l _=>by
 unfold Zql
 rw [Zp4 (Zzc l) (Zzc x),ZAf];rfl
theorem ZbY {α:Type} (f:α→ByteArray) (o:List α):(skv (ZdC f 0 o)).length=o.length:=by unfold skv;rw [Xh,ZpH]
theorem Zw8 {α:Type} {f:α→ByteArray} {o:List α} {x:α} (h:¬posK f o (f x)<o.length):ZfT (skv (ZdC f 0 o)) (.string (f x)) (.int .i64 ((skv (ZdC f 0 o)).length:Nat))=skv (ZdC f 0 (o++[x])):=by
 rw [ZbY,Zqk h]
def Zqm (s:Nat) (f:Nat→Nat) (j:Nat):Int:=if j<s then (f j:Nat) else 0
theorem ZmM (n:Nat) (f:Nat→Nat):List.replicate n (PV.val (.int .i64 0))=vec n fun j=>pInt (Zqm 0 f j):=by
 rw [Zmr]
 refine Zey fun i _=>?_
 unfold Zqm;rw [if_neg (by omega)]
theorem Ze3 {n s:Nat} {f:Nat→Nat} {x:Int} (hx:x=(f s:Nat)):(vec n fun j=>pInt (Zqm s f j)).set (s*1) (pInt x)=vec n fun j=>pInt (Zqm (s+1) f j):=by
 rw [XJ,Ztx]
 refine Zey fun i hi=>?_
 unfold Zqm
 by_cases e:i=s
 · subst e;rw [if_pos rfl,if_pos (by omega),hx]
 · rw [if_neg e];by_cases e2:i<s
   · rw [if_pos e2,if_pos (by omega)]
   · rw [if_neg e2,if_neg (by omega)]
theorem ZmN {n s:Nat} {f:Nat→Nat} (hx:f s=0):(vec n fun j=>pInt (Zqm s f j))=vec n fun j=>pInt (Zqm (s+1) f j):=by
 refine Zey fun i hi=>?_
 unfold Zqm
 by_cases e:i=s
 · subst e;rw [if_neg (by omega),if_pos (by omega),hx];rfl
 · by_cases e2:i<s
   · rw [if_pos e2,if_pos (by omega)]
   · rw [if_neg e2,if_neg (by omega)]
theorem ZmO (n:Nat) (f:Nat→Nat):(vec n fun j=>pInt (Zqm n f j))=vec n fun j=>pInt (f j:Nat):=by
 refine Zey fun i hi=>?_
 unfold Zqm;rw [if_pos hi]
theorem ZeF (l:List Nat):(toI l).length=l.length:=by simp [toI]
theorem Zw9 (l:List Nat) (x:Nat):toI (l++[x])=toI l++[(x:Int)]:=by simp [toI]
theorem Zk9 (e:Nat) (L:List Nat) (x:Nat):PV.own e 1 (L.length+1) ((toI L).map pInt++[pInt (x:Nat)])= .own e 1 (L++[x]).length ((toI (L++[x])).map pInt):=by simp [Zw9]
def ZsK (c:Nat→Nat) (s:Nat) (r:List Nat) (u:Nat):List Nat:=c s::(r.take u).map c
theorem ZtY {c:Nat→Nat} {s:Nat} {r:List Nat} {u x:Nat} (h:r[u]? =some x):ZsK c s r u++[c x]=ZsK c s r (u+1):=by
 unfold ZsK;rw [ζU h,XC];rfl
theorem ZtZ {rows:List (List Nat)} {c:Nat→Nat} {s:Nat} {r:List Nat} {u:Nat} (h:rows[s]? =some r) (hu:r.length≤u):ZsK c s r u=Zb2 rows c s:=by
 unfold ZsK Zb2;rw [h,Xn hu];rfl
theorem Zxa (c:Nat→Nat) (s:Nat) (r:List Nat) (u:Nat) (h:u≤r.length):(ZsK c s r u).length=u+1:=by unfold ZsK;rw [Xc,Xh,Xt];omega
theorem ZAo {t:Tab} (ht:TOk t) {c:Nat→Nat} (hc:∀s,s<t.rows.length→c s≤t.rows.length) {s:Nat} (hs:s<t.rows.length):∀x∈toI (Zb2 t.rows c s),0≤x∧x≤2000:=fun x hx=>by
 unfold toI at hx
 obtain ⟨y,hy,rfl⟩:=Xo.1 hx
 have hn:=ht.n1
 have key:∀z,z<t.rows.length→c z≤2000:=fun z hz=>by have:=hc z hz;omega
 unfold Zb2 at hy
 rcases Xm.1 hy with rfl|hy
 · have:=key s hs;omega
 · obtain ⟨z,hz,rfl⟩:=Xo.1 hy;obtain ⟨r,hr⟩:=ζo hs;rw [hr] at hz;have:=key z (ht.to r (Xg hr) z hz);omega
theorem Zqn {rows:List (List Nat)} {c:Nat→Nat} {s:Nat} (hs:s<rows.length):ZeB rows c s=posK id (Zcf (Zb2 rows c) (s+1)) (Zb2 rows c s):=(ZhL (k:=Zb2 rows c) hs).1
theorem Zt0 {rows:List (List Nat)} {c:Nat→Nat} {s:Nat} (hs:s<rows.length) (h:posK id (Zcf (Zb2 rows c) s) (Zb2 rows c s)<(Zcf (Zb2 rows c) s).length):ZeB rows c s=posK id (Zcf (Zb2 rows c) s) (Zb2 rows c s):=by rw [Zqn hs,ZpW h]
theorem Zt1 {rows:List (List Nat)} {c:Nat→Nat} {s:Nat} (hs:s<rows.length) (h:¬posK id (Zcf (Zb2 rows c) s) (Zb2 rows c s)<(Zcf (Zb2 rows c) s).length):ZeB rows c s=(Zcf (Zb2 rows c) s).length:=by
 rw [Zqn hs,ZpX h];exact ZkO h
theorem ZrP {rows:List (List Nat)} {f:Nat} {c:Nat→Nat} {k:Nat} (h:ZrE rows c=k):Zjw rows (f+1) c k=ZeB rows c:=by rw [Zjw,if_pos h]
theorem ZrQ {rows:List (List Nat)} {f:Nat} {c:Nat→Nat} {k:Nat} (h:¬ZrE rows c=k):Zjw rows (f+1) c k=Zjw rows f (ZeB rows c) (ZrE rows c):=by rw [Zjw,if_neg h]
set_option maxHeartbeats 4000000 in
theorem ZrR (t :Tab) (ht:TOk t):AF Tryz.prog 232 [Zza t] (· = .own 3 1 t.rows.length (vec t.rows.length fun s=>pInt (Zdy t s:Nat))):=by
 have hn1:=ht.n1
 have hfl:=ht.fl
 have hm1:=ht.m1
 refine AF.of_body 92 Tryz.func232 rfl Tryz.ntmps232 (Xa rfl) ?_
 intro w0 M0 vs hl hv
 obtain ⟨v0,rfl⟩:=ZcP hl
 clear hl hv
 refine nav ?_
 (refine ζa ?_<;>refine ζS 1 3 fun h1=>?_<;>refine xL 2 ζc ?_<;>refine ζd ?_)
 (refine ζa ?_<;>refine xL 16 (ζe 1 ZbX) ?_<;>(refine yL 17 (ζk 1 ZcV) fun v17 h=>?_;cases h)<;>refine xL 18 (ζ9 Zbr) ?_<;>refine Zih 19 ζz fun h19 ho19=>?_<;>refine xL 3 ζc ?_<;>refine ζd ?_)
 refine ζC (ζJ (l:=19) 303 rfl rfl) fun _=>?_
 rw [ZmM _ (ZpY t.fin)]
 (refine ζa ?_<;>refine xL 20 (ζe 1 Zdg) ?_<;>(refine yL 21 (ζk 1 ZcU) fun v21 h=>?_;cases h)<;>refine xL 22 (ζ9 ZdD) (xL 23 ζb ?_)<;>refine ζd ?_)
 refine ζD (ι:={s:Nat//s≤t.fin.length}) (fun k=>⟨[(1,_,_),(3,_,_),(21,_,_),(22,_,_),(23, .int .i64 k.1,pInt k.1)],[(1,_,_),(303,h19, .own 3 1 t.rows.length (vec t.rows.length fun j=>pInt (Zqm k.1 (ZpY t.fin) j)))]⟩) (fun k=>t.fin.length-k.1) ⟨0,Xf _⟩ (fun a w H=>H.weaken ⟨rfl,rfl,rfl,rfl,rfl,trivial⟩ ⟨rfl,rfl,trivial⟩) ?_
 rintro ⟨s,hs⟩
 dsimp only
 refine nav ?_
 (refine ζa ?_<;>refine xL 24 ζP ?_<;>refine ζd ?_)
 (first|refine cCd ?_ ?_|refine cC ?_ ?_)<;>intro hb24
 · first
   |exact bN hb24
   | (
    obtain ⟨b,hb⟩:=ζo (show s<t.fin.length by omega);have e1:=Zbd (f:=ζ7) hb;have e2:=Zis t.rows.length (fun j=>pInt (Zqm s (ZpY t.fin) j));refine nav ?_;(refine ζa ?_<;>refine xL 25 ζb (xL 26 (ζW ZdD) ?_)<;>(refine yL 27 (Zc6 ZhI) fun v27 h=>?_;cases h)<;>refine xL 4 ζc (xL 5 ζc ?_)<;>refine ζd ?_)
    (refine ζa ?_<;>refine xL 28 ζb ?_<;>refine ζd ?_)
    (first|refine cCd ?_ ?_|refine cC ?_ ?_)<;>intro hb28
    · first
      |exact bN hb28
      | (
       refine nav ?_;(refine ζa ?_<;>refine xL 29 ζb (xL 30 ζb (xL 31 (ζu 303 ζx) ?_))<;>refine Zb7 303 ζn Ze2 ?_<;>refine ζd ?_)
       (refine ζa ?_<;>refine xL 32 ζM (xL 23 ζb ?_)<;>refine ζd ?_)
       try rw [Ze3 (x:=1) (by unfold ZpY;rw [hb];show (1:Int)=((if b=true then 1 else 0:Nat):Int);rw [if_pos hb28];rfl)]
       try rw [ZmN (by unfold ZpY;rw [hb];show (if b=true then 1 else 0)=0;rw [if_neg (by simpa using hb28)])]
       refine ζh (
        ⟨s+1,by omega⟩
        ) (by dsimp only;omega) ⟨rfl,rfl,rfl,rfl,rfl,trivial⟩ ⟨rfl,rfl,trivial⟩)
    · first
      |exact bN hb28
      | (
       refine nav ?_;(refine ζa ?_<;>refine xL 32 ζM (xL 23 ζb ?_)<;>refine ζd ?_)
       try rw [Ze3 (x:=1) (by unfold ZpY;rw [hb];show (1:Int)=((if b=true then 1 else 0:Nat):Int);rw [if_pos hb28];rfl)]
       try rw [ZmN (by unfold ZpY;rw [hb];show (if b=true then 1 else 0)=0;rw [if_neg (by simpa using hb28)])]
       refine ζh (
        ⟨s+1,by omega⟩
        ) (by dsimp only;omega) ⟨rfl,rfl,rfl,rfl,rfl,trivial⟩ ⟨rfl,rfl,trivial⟩))
 · first
   |exact bN hb24
   | (
    (have hsn:s=t.rows.length:=by omega);subst hsn;rw [ZmO];refine nav ?_;(refine ζa ?_<;>refine xL 6 ζc ?_<;>refine ζd ?_)
    refine ζD (ι:={q:Value×(Nat→Nat)×Nat×Nat//COk t.rows.length q.2.1 q.2.2.1∧Zjw t.rows q.2.2.2 q.2.1 q.2.2.1=Zdy t∧t.rows.length+2≤q.2.2.2+q.2.2.1∧q.1.oneCell'=true}) (fun k=>⟨[(1,_,_),(3,k.1.1, .val k.1.1),(6, .int .i64 k.1.2.2.1,pInt k.1.2.2.1)],[(1,_,_),(303,k.1.1, .own 3 1 t.rows.length (vec t.rows.length fun j=>pInt (k.1.2.1 j:Nat)))]⟩) (fun k=>t.rows.length+2-k.1.2.2.1) ⟨(h19,ZpY t.fin,0,t.rows.length+2),COk.start _ _,rfl,by dsimp only;omega,ho19⟩ (fun a w H=>H.weaken ⟨rfl,rfl,rfl,trivial⟩ ⟨rfl,rfl,trivial⟩) ?_;rintro ⟨⟨hv3,c,cnt,fuel⟩,hC,hit,hfu,hv3o⟩;dsimp only;dsimp only at hC hit hfu hv3o;have hle:=hC.le;have hbd:=hC.bd;obtain ⟨f,rfl⟩:∃f,fuel=f+1:=⟨fuel-1,by omega⟩;have hgr:=hC.grow;have hnx:=hC.next
    refine nav ?_;(refine ζa ?_<;>refine Zii 33 fun h33 ho33=>?_<;>refine xL 7 ζc ?_<;>refine ζd ?_)
    (refine ζa ?_<;>refine xL 34 ζb (xL 35 (Zbw 303 ζx) ?_)<;>refine Zih 36 ζz fun h36 ho36=>?_<;>refine xL 8 ζc ?_<;>refine ζd ?_)
    refine ζC (ζJ (l:=33) 304 rfl rfl) fun _=>?_;refine ζC (ζJ (l:=36) 305 rfl rfl) fun _=>?_;rw [ZmM _ (ZeB t.rows c)];refine ζC (ζI (l:=304) (p':= .omap (skv (ZdC Zql 0 (Zcf (Zb2 t.rows c) 0)))) rfl rfl) fun _=>?_;(refine ζa ?_<;>refine xL 37 (ζe 1 ZbX) ?_<;>(refine yL 38 (ζk 1 ZcV) fun v38 h=>?_;cases h)<;>refine xL 39 (ζ9 Zbr) (xL 40 ζb ?_)<;>refine ζd ?_)
    refine ζD (ι:={s:Nat//s≤t.rows.length}) (fun k=>⟨[(1,_,_),(3,_,_),(6,_,_),(7,_,_),(8,_,_),(38,_,_),(39,_,_),(40, .int .i64 k.1,pInt k.1)],[(1,_,_),(303,_,_),(304,h33, .omap (skv (ZdC Zql 0 (Zcf (Zb2 t.rows c) k.1)))),(305,h36, .own 3 1 t.rows.length (vec t.rows.length fun j=>pInt (Zqm k.1 (ZeB t.rows c) j)))]⟩) (fun k=>t.rows.length-k.1) ⟨0,Xf _⟩ (fun a w H=>H.weaken ⟨rfl,rfl,rfl,rfl,rfl,rfl,rfl,rfl,trivial⟩ ⟨rfl,rfl,rfl,rfl,trivial⟩) ?_;rintro ⟨s,hs⟩;dsimp only;refine nav ?_;(refine ζa ?_<;>refine xL 41 ζP ?_<;>refine ζd ?_)
    (first|refine cCd ?_ ?_|refine cC ?_ ?_)<;>intro hb41
    · first
      |exact bN hb41
      | (
       (have hlt:s<t.rows.length:=by omega);obtain ⟨r,hr⟩:=ζo hlt;have e1:=Zbd (f:=Zjy) hr;have hrl:=ht.rl r (Xg hr);have hrt:=ht.to r (Xg hr);have htl:=ZeF r;have e2:=Zit (fun j=>pInt (c j:Nat)) hlt;have e3:=Zis t.rows.length (fun j=>pInt (Zqm s (ZeB t.rows c) j));have hkl:=ZkZ (Zb2 t.rows c) s;refine nav ?_;(refine ζa ?_<;>refine xL 42 ζb (xL 43 (ζW Zbr) ?_)<;>(refine yL 44 (Zc6 ζH) fun v44 h=>?_;cases h)<;>refine xL 9 ζc (xL 10 ζc ?_)<;>refine ζd ?_)
       (refine ζa ?_<;>refine xL 45 ζb (xL 46 ζb (xL 47 (ζu 303 ζx) ?_))<;>(refine yL 48 (ζk 303 ζn) fun v48 h=>?_;cases h)<;>refine ζ6 (kk:=1) 49 ζz fun h49 ho49=>?_<;>refine xL 11 ζc ?_<;>refine ζd ?_)
       refine ζC (ζJ (l:=49) 306 rfl rfl) fun _=>?_;refine ζC (ζI (l:=306) (p':= .own 3 1 (ZsK c s r 0).length ((toI (ZsK c s r 0)).map pInt)) rfl rfl) fun _=>?_;refine Zc0 10 rfl fun hlen10=>?_;(refine ζa ?_<;>refine xL 50 ζb (xL 51 (ζ9 ζx) (xL 52 ζb ?_))<;>refine ζd ?_)
       refine ζD (ι:={q:Nat×Value//q.1≤r.length∧q.2.oneCell'=true}) (fun k=>⟨[(1,_,_),(3,_,_),(6,_,_),(7,_,_),(8,_,_),(9,_,_),(38,_,_),(39,_,_),(40,_,_),(50,_,_),(51,_,_),(11,k.1.2, .val k.1.2),(52, .int .i64 k.1.1,pInt k.1.1)],[(1,_,_),(303,_,_),(304,_,_),(305,_,_),(306,k.1.2, .own 3 1 (ZsK c s r k.1.1).length ((toI (ZsK c s r k.1.1)).map pInt))]⟩) (fun k=>r.length-k.1.1) ⟨(0,h49),Xf _,ho49⟩ (fun a w H=>H.weaken ⟨rfl,rfl,rfl,rfl,rfl,rfl,rfl,rfl,rfl,rfl,rfl,rfl,rfl,trivial⟩ ⟨rfl,rfl,rfl,rfl,rfl,trivial⟩) ?_;rintro ⟨⟨u,hv⟩,hu,hvo⟩;dsimp only;dsimp only at hu hvo;have hkpl:=Zxa c s r u hu;refine nav ?_;(refine ζa ?_<;>refine xL 53 ζP ?_<;>refine ζd ?_)
       (first|refine cCd ?_ ?_|refine cC ?_ ?_)<;>intro hb53
       · first
         |exact bN hb53
         | (
          obtain ⟨x,hx⟩:=ζo (show u<r.length by omega);have hxn:=hrt x (Xg hx);(have e4:((toI r).map pInt)[u*1]? =some (pInt (x:Nat)):=by rw [XJ,Xl];unfold toI;rw [Xl,hx];rfl);have e5:=Zit (fun j=>pInt (c j:Nat)) hxn;refine nav ?_;(refine ζa ?_<;>refine xL 54 (ζW ζx) ?_<;>(refine yL 55 (Zc6 ζn) fun v55 h=>?_;cases h)<;>refine xL 13 ζc ?_<;>refine ζd ?_)
          (refine ζa ?_<;>refine xL 56 ζb (xL 57 ζb (xL 58 ζb (xL 59 (ζu 303 ζx) ?_)))<;>(refine yL 60 (ζk 303 ζn) fun v60 h=>?_;cases h)<;>refine ζ6 (kk:=1) 61 ζz fun h61 ho61=>?_<;>(refine ZbH 306 61 62 ζz fun h62 ho62=>?_;refine ζq (ζJ (l:=62) 306 rfl rfl) fun _=>?_;refine ζq (ζI (l:=306) rfl ((Zk9 _ (ZsK c s r u) (c x)).trans (by rw [ZtY hx]))) fun _=>?_)<;>refine xL 11 ζc ?_<;>refine ζd ?_)
          (refine ζa ?_<;>refine xL 63 ζM (xL 52 ζb ?_)<;>refine ζd ?_)
          refine ζh (
           ⟨(u+1,h62),ζi hx,ho62⟩
           ) (by dsimp only;omega) ⟨rfl,rfl,rfl,rfl,rfl,rfl,rfl,rfl,rfl,rfl,rfl,rfl,rfl,trivial⟩ ⟨rfl,rfl,rfl,rfl,rfl,trivial⟩)
       · first
         |exact bN hb53
         | (
          have hK:=ZtZ (c:=c) hr (show r.length≤u by omega);rw [hK];have hkb:=ZAo ht hbd hlt;(have hkl2:(Zb2 t.rows c s).length≤1000:=by rw [←hK,hkpl];omega);have hid:=ZAn (Zcf (Zb2 t.rows c) s) (Zb2 t.rows c s);refine nav ?_;refine ζC (En.freeze (l:=306) (t:=11) rfl rfl) fun _=>?_;rw [Zaq _ _ _ (by rw [ZeF])];(refine ζa ?_<;>refine xL 65 ζb (xL 66 ζb ?_)<;>(refine cS 67 (cA Tryz.call231 (ZmJ (toI (Zb2 t.rows c s)) (by rw [ZeF];omega) (fun x hx=>by have:=hkb x hx;omega))) fun v67 h=>?_;cases h)<;>refine xL 68 (Zzb (f:=Zql) (L:=Zcf (Zb2 t.rows c) s) (a:=Zb2 t.rows c s) 304 ZdL rfl rfl) ?_<;>refine xL 64 ζb (xL 69 ζl (xL 70 ζl (xL 14 ζc (xL 15 ζc ?_))))<;>refine ζd ?_)
          (refine ζa ?_<;>refine xL 71 ζb (xL 72 Zaw ?_)<;>refine ζd ?_)
          (first|refine cCd ?_ ?_|refine cC ?_ ?_)<;>intro hb72
          · first
            |exact bN hb72
            | (
             (have hnew:¬posK Zql (Zcf (Zb2 t.rows c) s) (Zql (Zb2 t.rows c s))<(Zcf (Zb2 t.rows c) s).length:=by simpa using hb72);have hnew2:=hnew;rw [hid] at hnew2;have hnn:=Zt1 hlt hnew2;have hff:=ZpX hnew2;refine nav ?_;(refine ζa ?_<;>refine xL 73 ζb (xL 74 (ZkK 304 Tryz.underlying251) (xL 14 ζc ?_))<;>refine ζd ?_)
             (refine ζa ?_<;>refine xL 75 ζb (xL 76 ζb ?_)<;>(refine cS 77 (cA Tryz.call231 (ZmJ (toI (Zb2 t.rows c s)) (by rw [ZeF];omega) (fun x hx=>by have:=hkb x hx;omega))) fun v77 h=>?_;cases h)<;>refine xL 78 ζb ?_<;>(refine ZjI 304 ZdL ?_;rw [show ZfT (skv (ZdC Zql 0 (Zcf (Zb2 t.rows c) s))) (.string (ZjU (toI (Zb2 t.rows c s)))) (.int .i64 ((skv (ZdC Zql 0 (Zcf (Zb2 t.rows c) s))).length:Nat))=skv (ZdC Zql 0 (Zcf (Zb2 t.rows c) (s+1))) by rw [hff];exact Zw8 hnew])<;>refine ζd ?_)
             (refine ζa ?_<;>refine xL 79 ζb (xL 80 ζb (xL 81 ζb (xL 82 (ζu 305 ζx) ?_)))<;>refine Zb7 305 ζn Ze2 ?_<;>refine ζd ?_)
             (refine ζa ?_<;>refine xL 83 ζM (xL 40 ζb ?_)<;>refine ζd ?_)
             try rw [Ze3 (by rw [ZbY,hnn])]
             try rw [Ze3 hnum,←hfo]
             refine ζh (
              ⟨s+1,by omega⟩
              ) (by dsimp only;omega) ⟨rfl,rfl,rfl,rfl,rfl,rfl,rfl,rfl,trivial⟩ ⟨rfl,rfl,rfl,rfl,trivial⟩)
          · first
            |exact bN hb72
            | (
             (have hold:posK Zql (Zcf (Zb2 t.rows c) s) (Zql (Zb2 t.rows c s))<(Zcf (Zb2 t.rows c) s).length:=by simpa using hb72);have hold2:=hold;rw [hid] at hold2;have hno:=Zt0 hlt hold2;have hfo:=ZpW hold2;(have hnum:(ZiF Zql (Zcf (Zb2 t.rows c) s) (Zb2 t.rows c s):Int)=(ZeB t.rows c s:Nat):=by unfold ZiF;rw [if_pos hold,hid,hno]);refine nav ?_;(refine ζa ?_<;>refine xL 79 ζb (xL 80 ζb (xL 81 ζb (xL 82 (ζu 305 ζx) ?_)))<;>refine Zb7 305 ζn Ze2 ?_<;>refine ζd ?_)
             (refine ζa ?_<;>refine xL 83 ζM (xL 40 ζb ?_)<;>refine ζd ?_)
             try rw [Ze3 (by rw [ZbY,hnn])]
             try rw [Ze3 hnum,←hfo]
             refine ζh (
              ⟨s+1,by omega⟩
              ) (by dsimp only;omega) ⟨rfl,rfl,rfl,rfl,rfl,rfl,rfl,rfl,trivial⟩ ⟨rfl,rfl,rfl,rfl,trivial⟩)))
    · first
      |exact bN hb41
      | (
       (have hsn:s=t.rows.length:=by omega);subst hsn;rw [ZmO];refine nav ?_;refine ζC (ζJ (l:=303) 302 rfl rfl) fun _=>?_;refine ζC (ζJ (l:=305) 303 rfl rfl) fun _=>?_;(refine ζa ?_<;>refine xL 84 ζb (xL 3 ζc ?_)<;>refine ζd ?_)
       (refine ζa ?_<;>refine xL 85 ζb (xL 86 (ZkK 304 Tryz.underlying251) (xL 87 ζb (xL 88 ζY ?_)))<;>refine ζd ?_)
       (first|refine cCd ?_ ?_|refine cC ?_ ?_)<;>intro hb88
       · first
         |exact bN hb88
         | (
          (have hcc:ZrE t.rows c=cnt:=by rw [ZbY] at hb88;unfold ZrE;omega);refine nav ?_;(refine ζa ?_<;>refine xL 89 ζb (xL 2 ζc ?_)<;>refine ζd ?_)
          refine Zet 303 (Tryz.results232) rfl rfl ?_;rw [←hit,ZrP hcc])
       · first
         |exact bN hb88
         | (
          (have hcc:¬ZrE t.rows c=cnt:=by rw [ZbY] at hb88;unfold ZrE;omega);refine nav ?_;(refine ζa ?_<;>refine xL 90 ζb (xL 91 (ZkK 304 Tryz.underlying251) (xL 6 ζc ?_))<;>refine ζd ?_)
          rw [ZbY];refine ζh (
           ⟨(h36,ZeB t.rows c,ZrE t.rows c,f),hnx,by dsimp only;rw [←hit,ZrQ hcc],by dsimp only;omega,ho36⟩
           ) (by have:=hnx.le;dsimp only;omega) ⟨rfl,rfl,rfl,trivial⟩ ⟨rfl,rfl,trivial⟩)))
theorem ZmP:FldT Tryz.prog 147 0 0=true:=by kernel_rfl
theorem ZdN:MpT Tryz.prog 279 3 3 (.int .i64) (.int .i64 0):=⟨Tryz.underlying279,Tryz.underlying3, .inr ⟨_,rfl⟩,by show ZeroT _ _ _;unfold ZeroT;kernel_rfl⟩
theorem ζN:ZaZ Tryz.prog 39=some ((.agg #[(.int .i64 0),(.int .i64 0),(.slice none 0 0),(.slice none 0 0),(.slice none 0 0)]),([0,1,2,3,4]:List Nat).map fun o=>(o,1)):=by kernel_rfl
theorem ZbK:ZaZ Tryz.prog 93=some ((.agg #[(.int .i64 0),(.int .i64 0),(.int .i64 0)]),([0,1,2]:List Nat).map fun o=>(o,1)):=by kernel_rfl
theorem ζL:ZeroT Tryz.prog 39 (.agg #[(.int .i64 0),(.int .i64 0),(.slice none 0 0),(.slice none 0 0),(.slice none 0 0)]):=by unfold ZeroT;kernel_rfl
section
variable {α:Type}
def Zbf (f:α→Int) (o:List α) (x:α):Nat:=if posK f o (f x)<o.length then posK f o (f x) else 0
theorem ZmQ (f:α→Int) (o:List α) (x:α):(ZdZ (ikv (ZdC f 0 o)) (.int .i64 (f x))).getD (.int .i64 0)= .int .i64 (Zbf f o x:Nat)∧(ZdZ (ikv (ZdC f 0 o)) (.int .i64 (f x))).isSome=decide (posK f o (f x)<o.length):=by
 rw [ZpD,ZkP]
 unfold Zbf
 by_cases h:posK f o (f x)<o.length
 · rw [if_pos h,if_pos h,decide_eq_true h,Xx];exact ⟨rfl,rfl⟩
 · rw [if_neg h,if_neg h,decide_eq_false h];exact ⟨rfl,rfl⟩
theorem Zqo {f:α→Int} {o:List α} {x:α} (h:¬posK f o (f x)<o.length):ZfT (ikv (ZdC f 0 o)) (.int .i64 (f x)) (.int .i64 (o.length:Nat))=ikv (ZdC f 0 (o++[x])):=by
 have:=ZkQ f x o 0 h
 rw [Xx] at this
 rw [ZpE,this]
end
section
variable {α:Type} {P:Program} {sL hP:List (Nat×Ent)} {o:Oper}
theorem Zt2 {t ks e:Nat} {kd:TypeDesc} {z:Value} {x y:Operand} {m:Value} {f:α→Int} {L:List α} {a:α} {p q:PV} (l:Nat) (hT:MpT P t ks e kd z) (hz:z= .int .i64 0) (hkd:kd= .int .i64) (ho:o.op= .lookup t x y true:=by exact rfl) (hx:ev sL x=some (m,p):=by exact rfl) (hl:lk hP l=some (m, .omap (ikv (ZdC f 0 L))):=by exact rfl) (hy:ev sL y=some (.int .i64 (f a),q):=by exact rfl):
 YE P (⟨sL,hP⟩:St) o (· = .tuple [.int .i64 (Zbf f L a:Nat), .bool (decide (posK f L (f a)<L.length))].toArray) (.tup [.val (.int .i64 (Zbf f L a:Nat)), .val (.bool (decide (posK f L (f a)<L.length)))]):=by
 subst hz hkd
 have h:=ZpF (sL:=sL) (hP:=hP) (o:=o) l hT ho hx hl hy (Zif _ _)
 rw [(ZmQ f L a).1,(ZmQ f L a).2] at h
 exact h
end
def ZdO (t:Tab) (x:Nat):Int:=(Zdy t x:Nat)
theorem Zt3 (t:Tab) (o:List Nat) (x:Nat):posK (ZdO t) o (ZdO t x)=posK (Zdy t) o (Zdy t x):=ZhG fun y _=>by unfold ZdO;omega
theorem ZfJ {t:Tab} {o o':List Nat} (h:o<+:o'):∀k,k≤o.length→Za7 k (Zeq t o)=Za7 k (Zeq t o')
 |0,_=>rfl
 | k+1,hk=>by
   rw [Zcx,Zcx,ZfJ h k (by omega)];obtain ⟨x,hx⟩:=ζo (show k<o.length by omega);unfold Zeq;rw [hx,ZhE h hx]
theorem Zcb (e:Nat) (L:List Mv) (x:Mv):PV.own e 3 (L.length+1) (L.flatMap cMv++cMv x)= .own e 3 (L++[x]).length ((L++[x]).flatMap cMv):=by simp
theorem Zf6 (e n:Nat) (l:List Mv) (hn:n=l.length):share (.own e 3 n (l.flatMap cMv))=pMvs l:=by
 subst hn
 rw [share,Zac,Uv];rfl
theorem Zqp (e:Nat) (L:List Int) (x:Int):PV.own e 1 (L.length+1) (L.map pInt++[pInt x])= .own e 1 (L++[x]).length ((L++[x]).map pInt):=by simp
theorem Zt4 {rows:List (List Nat)} {r:List Nat} {n m:Nat} (h:∀x∈rows,x.length=m) (hm:m≤40) (hn:rows.length≤2000) (hr:r.length≤m):(ζ1 rows++ZaC n r).length≤80040:=by
 rw [Xd,ZrF rows h,ZdH]
 have:rows.length*m≤2000*40:=Uf hn hm
 omega
set_option maxHeartbeats 4000000 in
theorem ZrS (t : Tab) (ht:TOk t):AF Tryz.prog 186 [Zza t] (· =resW (lim (ZbJ t))):=by
 have hn1:=ht.n1
 have hfl:=ht.fl
 have hm1:=ht.m1
 have hpos:=ht.pos
 refine AF.of_body 101 Tryz.func186 rfl Tryz.ntmps186 (Xa rfl) ?_
 intro w0 M0 vs hl hv
 obtain ⟨v0,rfl⟩:=ZcP hl
 clear hl hv
 refine nav ?_
 (refine ζa ?_<;>refine ζS 1 3 fun h1=>?_<;>refine ζs [(.int .i64 0),(.int .i64 0),(.slice none 0 0),(.slice none 0 0),(.slice none 0 0)] 5 2 ζL fun h2=>?_<;>refine xL 3 ζc ?_<;>refine ζd ?_)
 (refine ζa ?_<;>(refine yL 13 (ζm 1 Za1) fun v13 h=>?_;cases h)<;>(refine cO 14 (cA Tryz.call232 (ZrR t ht)) fun v14 ho14=>?_;refine ζq (En.freeze (l:=14) (t:=14) rfl rfl) fun _=>?_;rw [show share (.own 3 1 t.rows.length (vec t.rows.length fun s=>pInt (Zdy t s:Nat)))= .sl t.rows.length (vec t.rows.length fun s=>pInt (Zdy t s:Nat)) by rw [share,Zac,ZAd];rfl])<;>refine xL 4 ζc ?_<;>refine ζd ?_)
 have e1:=Zit (fun s=>pInt (Zdy t s:Nat)) hpos
 (refine ζa ?_<;>refine Zii 15 fun h15 ho15=>?_<;>refine xL 16 ζb ?_<;>refine xL 17 (ζW (i:=0) ζx) ?_<;>(refine yL 18 (Zc6 ζn) fun v18 h=>?_;cases h)<;>(refine Zy9 15 ZdN ?_;rw [show ZfT [] (.int .i64 ((Zdy t 0:Nat):Int)) (.int .i64 0)=ikv (ZdC (ZdO t) 0 [0]) from rfl])<;>refine xL 19 ζb (xL 5 ζc ?_)<;>refine ζd ?_)
 (refine ζa ?_<;>refine ζ6 (kk:=1) 20 ζz fun h20 ho20=>?_<;>refine xL 6 ζc ?_<;>refine ζd ?_)
 refine ζC (ζJ (l:=15) 304 rfl rfl) fun _=>?_
 refine ζC (ζJ (l:=20) 303 rfl rfl) fun _=>?_
 refine ζC (ζI (l:=303) (p':= .own 3 1 ([0]:List Nat).length ((toI [0]).map pInt)) rfl rfl) fun _=>?_
 (refine ζa ?_<;>refine xL 21 (ζe 1 ZmP) ?_<;>(refine yL 22 (ζk 1 ζn) fun v22 h=>?_;cases h)<;>(refine ζ6 (kk:=1) 23 ζz fun h23 ho23=>?_;refine ζq (En.freeze (l:=23) (t:=23) rfl rfl) fun _=>?_;rw [show share (PV.own 3 1 1 [PV.val (.int .i64 0)])=pInts [0] from rfl])<;>refine xL 24 (ζB ζN) ?_<;>refine ζs [(.int .i64 0),(.int .i64 0),(.slice none 0 0),(.slice none 0 0),(.slice none 0 0)] 5 7 ζL fun h7=>?_<;>refine ζt 7 ζr ?_<;>refine ζd ?_)
 refine ζC (ZfU (l:=7) [pInt 0,pInt (t.m:Nat),pInts [0], .own 3 1 0 [], .own 93 3 0 []] rfl rfl (fun i p p' h1 h2=>by
  match i with
  |0=>cases h1;cases h2;exact .inl rfl
  |1=>cases h1;cases h2;exact .inl rfl
  |2=>cases h1;cases h2;exact .inl rfl
  |3=>cases h1;cases h2;exact .inr ⟨rfl,_,_,rfl⟩
  |4=>cases h1;cases h2;exact .inr ⟨rfl,_,_,rfl⟩
  |i+5=>simp at h2)) fun _=>?_
 refine ζC (ZfV (l:=7) (l':=301) (j:=3) rfl rfl rfl rfl) fun i=>?_
 obtain ⟨v301,ho301⟩:=i
 refine ζC (ZfV (l:=7) (l':=302) (j:=4) rfl rfl rfl rfl) fun i=>?_
 obtain ⟨v302,ho302⟩:=i
 dsimp only [List.set]
 (refine ζa ?_<;>refine xL 8 ζc ?_<;>refine ζd ?_)
 refine ζD (ι:={q:Nat×Value×Value×Value×List Nat×List (List Nat)//(minW t).upto 0 q.1=some (q.2.2.2.2.1,q.2.2.2.2.2)∧q.1≤q.2.2.2.2.1.length∧q.2.1.oneCell'=true∧q.2.2.1.oneCell'=true∧q.2.2.2.1.oneCell'=true}) (fun k=>⟨[(1,_,_),(2,_,_),(3,_,_),(4,_,_),(5,_,_),(7,_,_),(6,k.1.2.2.2.1, .val k.1.2.2.2.1),(8, .int .i64 k.1.1,pInt k.1.1)],[(1,_,_),(2,_,_),(7,h7, .own 39 5 1 [pInt 0,pInt (t.m:Nat),pInts [0], .val k.1.2.1, .val k.1.2.2.1]),(301,k.1.2.1, .own 3 1 (Za7 k.1.1 (Zeq t k.1.2.2.2.2.1)).length ((Za7 k.1.1 (Zeq t k.1.2.2.2.2.1)).map pInt)),(302,k.1.2.2.1, .own 93 3 (ζ1 k.1.2.2.2.2.2).length ((ζ1 k.1.2.2.2.2.2).flatMap cMv)),(303,k.1.2.2.2.1, .own 3 1 k.1.2.2.2.2.1.length ((toI k.1.2.2.2.2.1).map pInt)),(304,h15, .omap (ikv (ZdC (ZdO t) 0 k.1.2.2.2.2.1)))]⟩) (fun k=>2000-k.1.1) ⟨(0,v301,v302,h20,[0],[]),rfl,Xf _,ho301,ho302,ho20⟩ (fun a w H=>H.weaken ⟨rfl,rfl,rfl,rfl,rfl,rfl,rfl,rfl,trivial⟩ ⟨rfl,rfl,rfl,rfl,rfl,rfl,rfl,trivial⟩) ?_
 rintro ⟨⟨i,hF,hM,hO,o,rows⟩,hU,hi,hFo,hMo,hOo⟩
 dsimp only
 dsimp only at hU hi hFo hMo hOo
 obtain ⟨hOk,hRl,_⟩:=ZtC ht hU
 have hRl:=hRl hi
 have hcap:o.length≤t.rows.length:=hOk.cap
 have hrw:=hOk.len
 have htl:=ZeF o
 have hll:=Ziv i (Zeq t o)
 refine nav ?_
 (refine ζa ?_<;>refine xL 25 ζb (xL 26 ζb (xL 27 (Zbw 303 ζx) (xL 28 ζP ?_)))<;>refine ζd ?_)
 (first|refine cCd ?_ ?_|refine cC ?_ ?_)<;>intro hb28
 · first
   |exact bN hb28
   | (
    obtain ⟨x,hx⟩:=ζo (show i<o.length by omega);have hxn:x<t.rows.length:=hOk.p x (Xg hx);(have e1:((toI o).map pInt)[i*1]? =some (pInt (x:Nat)):=by rw [XJ,Xl];unfold toI;rw [Xl,hx];rfl);obtain ⟨b,hb⟩:=ζo (show x<t.fin.length by omega);have e2:=Zbd (f:=ζ7) hb;obtain ⟨row,hrow⟩:=ζo hxn;have e3:=Zbd (f:=Zjy) hrow;have hrl:=ht.rl row (Xg hrow);have hrt:=ht.to row (Xg hrow);have hrtl:=ZeF row;(have hfa:Zeq t o i=b:=by unfold Zeq;rw [hx];show (t.fin[x]?).getD false=b;rw [hb];rfl);have hL1:=Zcx i (Zeq t o);rw [hfa] at hL1;refine nav ?_;(refine ζV (fun i=>([]:List Nat).elem i) [1,303] kR ?_<;>refine xD 0 31 rfl (ζe 1 Zdg) ?_<;>(refine yD 1 32 rfl (ζk 1 ZcU) fun v32 h=>?_;cases h)<;>refine xD 2 33 rfl ζb ?_<;>refine xE 3 34 rfl ζb ?_<;>refine xE 4 35 rfl (ζu 303 ζx) ?_<;>(refine yE 5 36 rfl (ζk 303 ζn) fun v36 h=>?_;cases h)<;>refine xE 6 37 rfl (ζW ZdD) ?_<;>(refine yE 7 38 rfl (Zc6 ZhI) fun v38 h=>?_;cases h)<;>refine Zae kR (nav ?_)<;>try dsimp only)
    (first|refine cCd ?_ ?_|refine cC ?_ ?_)<;>intro hb38
    · first
      |exact bN hb38
      | (
       rw [if_pos hb38] at hL1;refine nav ?_;(refine ζa ?_<;>refine xL 39 (ζe 7 Zab) ?_<;>(refine yL 40 (ζk 7 ζH) fun v40 h=>?_;cases h)<;>refine xL 41 ζb ?_<;>refine ζ6 (kk:=1) 42 ζz fun h42 ho42=>?_<;>(refine ZbH 301 42 43 ζz fun h43 ho43=>?_;refine ζq (ζJ (l:=43) 301 rfl rfl) fun _=>?_;refine ζq (ζI (l:=301) rfl (Zqp _ (Za7 i (Zeq t o)) i)) fun _=>?_)<;>refine xL 44 (ζe 7 Zab) ?_<;>refine Zb7 7 ζH Zcw ?_<;>refine ζd ?_)
       (refine ζV (fun i=>([]:List Nat).elem i) [1,303] kR ?_<;>refine xD 0 45 rfl (ζe 1 ZbX) ?_<;>(refine yD 1 46 rfl (ζk 1 ZcV) fun v46 h=>?_;cases h)<;>refine xD 2 47 rfl ζb ?_<;>refine xD 3 48 rfl ζb ?_<;>refine xD 4 49 rfl (ζu 303 ζx) ?_<;>(refine yD 5 50 rfl (ζk 303 ζn) fun v50 h=>?_;cases h)<;>refine xD 6 51 rfl (ζW Zbr) ?_<;>(refine yD 7 52 rfl (Zc6 ζH) fun v52 h=>?_;cases h)<;>refine xD 8 53 rfl (ζ9 ζx) ?_<;>refine xE 9 54 rfl ζb ?_<;>refine Zae kR (nav ?_)<;>try dsimp only)
       rw [←hL1];rw [show ζ1 rows=ζ1 rows++ZaC i ([]:List Nat) from (XA _).symm];refine ζD (ι:={q:Nat×Value×Value×List Nat×List Nat//(minW t).row i x o q.1=some (q.2.2.2.1,q.2.2.2.2)∧q.1≤t.m∧q.2.1.oneCell'=true∧q.2.2.1.oneCell'=true}) (fun k=>⟨[(1,_,_),(2,_,_),(3,_,_),(4,_,_),(5,_,_),(7,_,_),(8,_,_),(52,_,_),(53,_,_),(6,k.1.2.2.1, .val k.1.2.2.1),(54, .int .i64 k.1.1,pInt k.1.1)],[(1,_,_),(2,_,_),(301,_,_),(7,h7, .own 39 5 1 [pInt 0,pInt (t.m:Nat),pInts [0],_, .val k.1.2.1]),(302,k.1.2.1, .own 93 3 (ζ1 rows++ZaC i k.1.2.2.2.2).length ((ζ1 rows++ZaC i k.1.2.2.2.2).flatMap cMv)),(303,k.1.2.2.1, .own 3 1 k.1.2.2.2.1.length ((toI k.1.2.2.2.1).map pInt)),(304,h15, .omap (ikv (ZdC (ZdO t) 0 k.1.2.2.2.1)))]⟩) (fun k=>t.m-k.1.1) ⟨(0,hM,hO,o,[]),rfl,Xf _,hMo,hOo⟩ (fun a w H=>H.weaken ⟨rfl,rfl,rfl,rfl,rfl,rfl,rfl,rfl,rfl,rfl,rfl,trivial⟩ ⟨rfl,rfl,rfl,rfl,rfl,rfl,rfl,trivial⟩) ?_;rintro ⟨⟨s,hM',hO',o',r⟩,hW,hs,hM'o,hO'o⟩;dsimp only;dsimp only at hW hs hM'o hO'o;obtain ⟨hMt,hpr,hrl2,_⟩:=hOk.toMet.row (fun s _=>Zcy ht) (show s≤(minW t).m from hs) hW;have hcap':o'.length≤t.rows.length:=hMt.cap;have htl':=ZeF o';have hmr:=Zt4 (n:=i) hrw hm1 (by omega) (show r.length≤t.m by omega);refine nav ?_;(refine ζa ?_<;>refine xL 55 ζP ?_<;>refine ζd ?_)
       (first|refine cCd ?_ ?_|refine cC ?_ ?_)<;>intro hb55
       · first
         |exact bN hb55
         | (
          obtain ⟨y,hy⟩:=ζo (show s<row.length by omega);have hyn:=hrt y (Xg hy);(have e4:((toI row).map pInt)[s*1]? =some (pInt (y:Nat)):=by rw [XJ,Xl];unfold toI;rw [Xl,hy];rfl);have e5:=Zit (fun s=>pInt (Zdy t s:Nat)) hyn;have hto:(minW t).step i x s=y:=ZpZ hrow hy;have hid:=Zt3 t o' y;refine nav ?_;(refine ζa ?_<;>refine xL 56 ζb (xL 57 (ζW ζx) ?_)<;>(refine yL 58 (Zc6 ζn) fun v58 h=>?_;cases h)<;>refine xL 9 ζc (xL 10 ζc ?_)<;>refine ζd ?_)
          (refine ζa ?_<;>refine xL 60 ζb (xL 61 ζb (xL 62 ζb (xL 63 (ζW ζx) ?_)))<;>(refine yL 64 (Zc6 ζn) fun v64 h=>?_;cases h)<;>refine xL 65 (Zt2 (f:=ZdO t) (L:=o') (a:=y) 304 ZdN rfl rfl) ?_<;>refine xL 59 ζb (xL 66 ζl (xL 67 ζl (xL 11 ζc (xL 12 ζc ?_))))<;>refine ζd ?_)
          (refine ζa ?_<;>refine xL 68 ζb (xL 69 Zaw ?_)<;>refine ζd ?_)
          (first|refine cCd ?_ ?_|refine cC ?_ ?_)<;>intro hb69
          · first
            |exact bN hb69
            | (
             (have hnew:¬posK (ZdO t) o' (ZdO t y)<o'.length:=by simpa using hb69);have hnew2:¬posK (minW t).key o' ((minW t).key ((minW t).step i x s))<o'.length:=by
              rw [hto];show ¬posK (Zdy t) o' (Zdy t y)<o'.length;rw [←hid];exact hnew
             have hroom:=Zix ht hMt (show (minW t).step i x s<t.rows.length by rw [hto];exact hyn) hnew2;refine nav ?_;(refine ζa ?_<;>refine xL 70 ζb (xL 71 (Zbw 303 ζx) (xL 11 ζc ?_))<;>refine ζd ?_)
             (refine ζa ?_<;>refine xL 72 ζb (xL 73 ζb (xL 74 ζb (xL 75 (ζW ζx) ?_)))<;>(refine yL 76 (Zc6 ζn) fun v76 h=>?_;cases h)<;>refine xL 77 ζb ?_<;>(refine ZjI 304 ZdN ?_;rw [show ZfT (ikv (ZdC (ZdO t) 0 o')) (.int .i64 ((Zdy t y:Nat):Int)) (.int .i64 ((o'.length:Nat):Int))=ikv (ZdC (ZdO t) 0 (o'++[y])) from Zqo hnew])<;>refine ζd ?_)
             (refine ζa ?_<;>refine xL 78 ζb (xL 79 ζb ?_)<;>refine ζ6 (kk:=1) 80 ζz fun h80 ho80=>?_<;>(refine ZbH 303 80 81 ζz fun h81 ho81=>?_;refine ζq (ζJ (l:=81) 303 rfl rfl) fun _=>?_;refine ζq (ζI (l:=303) rfl (Zk9 _ o' y)) fun _=>?_)<;>refine xL 6 ζc ?_<;>refine ζd ?_)
             (refine ζa ?_<;>refine xL 82 (ζe 7 ζw) ?_<;>(refine yL 83 (ζk 7 ζF) fun v83 h=>?_;cases h)<;>refine xL 84 ζb (xL 85 ζb (xL 86 ζb (xL 87 (ζB ZbK) ?_)))<;>refine Zbi 88 ζR fun h88 ho88=>?_<;>(refine ZbH 302 88 89 ζR fun h89 ho89=>?_;refine ζq (ζJ (l:=89) 302 rfl rfl) fun _=>?_;first|refine ζq (ζI (l:=302) rfl (Zcb _ (ζ1 rows++ZaC i r) ⟨(i:Nat),(o'.length:Nat),(s:Nat)⟩)) fun _=>?_|refine ζq (ζI (l:=302) rfl (Zcb _ (ζ1 rows++ZaC i r) ⟨(i:Nat),(Zbf (ZdO t) o' y:Nat),(s:Nat)⟩)) fun _=>?_)<;>refine xL 90 (ζe 7 ζw) ?_<;>refine Zb7 7 ζF Za6 ?_<;>refine ζd ?_)
             (refine ζa ?_<;>refine xL 91 ζM (xL 54 ζb ?_)<;>refine ζd ?_)
             try rw [show (ζ1 rows++ZaC i r)++[(⟨(i:Nat),(o'.length:Nat),(s:Nat)⟩:Mv)]=ζ1 rows++ZaC i (r++[o'.length]) by rw [ZbV,hrl2,Xw]]
             try rw [show (ζ1 rows++ZaC i r)++[(⟨(i:Nat),(Zbf (ZdO t) o' y:Nat),(s:Nat)⟩:Mv)]=ζ1 rows++ZaC i (r++[Zbf (ZdO t) o' y]) by rw [ZbV,hrl2,Xw]]
             first
              | (exact ζh (
                  ⟨(s+1,h89,h81,o'++[y],r++[o'.length]),(by dsimp only;exact (by have h9:=Srch.row_snoc hW (Zb9 hnew2 hroom);rwa [hto] at h9)),(by dsimp only;omega),ho89,ho81⟩
                  ) (by dsimp only;omega) ⟨rfl,rfl,rfl,rfl,rfl,rfl,rfl,rfl,rfl,rfl,rfl,trivial⟩ ⟨rfl,rfl,rfl,rfl,rfl,rfl,rfl,trivial⟩)
              | (exact ζh (
                  ⟨(s+1,h89,hO',o',r++[Zbf (ZdO t) o' y]),(by dsimp only;rw [hnum];exact Srch.row_snoc hW (Zb8 hold2)),(by dsimp only;omega),ho89,hO'o⟩
                  ) (by dsimp only;omega) ⟨rfl,rfl,rfl,rfl,rfl,rfl,rfl,rfl,rfl,rfl,rfl,trivial⟩ ⟨rfl,rfl,rfl,rfl,rfl,rfl,rfl,trivial⟩))
          · first
            |exact bN hb69
            | (
             (have hold:posK (ZdO t) o' (ZdO t y)<o'.length:=by simpa using hb69);have hold2:posK (minW t).key o' ((minW t).key ((minW t).step i x s))<o'.length:=by
              rw [hto];show posK (Zdy t) o' (Zdy t y)<o'.length;rw [←hid];exact hold
             have hnum:Zbf (ZdO t) o' y=posK (minW t).key o' ((minW t).key ((minW t).step i x s)):=by
              rw [hto];show Zbf (ZdO t) o' y=posK (Zdy t) o' (Zdy t y);unfold Zbf;rw [if_pos hold,hid]
             refine nav ?_;(refine ζa ?_<;>refine xL 82 (ζe 7 ζw) ?_<;>(refine yL 83 (ζk 7 ζF) fun v83 h=>?_;cases h)<;>refine xL 84 ζb (xL 85 ζb (xL 86 ζb (xL 87 (ζB ZbK) ?_)))<;>refine Zbi 88 ζR fun h88 ho88=>?_<;>(refine ZbH 302 88 89 ζR fun h89 ho89=>?_;refine ζq (ζJ (l:=89) 302 rfl rfl) fun _=>?_;first|refine ζq (ζI (l:=302) rfl (Zcb _ (ζ1 rows++ZaC i r) ⟨(i:Nat),(o'.length:Nat),(s:Nat)⟩)) fun _=>?_|refine ζq (ζI (l:=302) rfl (Zcb _ (ζ1 rows++ZaC i r) ⟨(i:Nat),(Zbf (ZdO t) o' y:Nat),(s:Nat)⟩)) fun _=>?_)<;>refine xL 90 (ζe 7 ζw) ?_<;>refine Zb7 7 ζF Za6 ?_<;>refine ζd ?_)
             (refine ζa ?_<;>refine xL 91 ζM (xL 54 ζb ?_)<;>refine ζd ?_)
             try rw [show (ζ1 rows++ZaC i r)++[(⟨(i:Nat),(o'.length:Nat),(s:Nat)⟩:Mv)]=ζ1 rows++ZaC i (r++[o'.length]) by rw [ZbV,hrl2,Xw]]
             try rw [show (ζ1 rows++ZaC i r)++[(⟨(i:Nat),(Zbf (ZdO t) o' y:Nat),(s:Nat)⟩:Mv)]=ζ1 rows++ZaC i (r++[Zbf (ZdO t) o' y]) by rw [ZbV,hrl2,Xw]]
             first
              | (exact ζh (
                  ⟨(s+1,h89,h81,o'++[y],r++[o'.length]),(by dsimp only;exact (by have h9:=Srch.row_snoc hW (Zb9 hnew2 hroom);rwa [hto] at h9)),(by dsimp only;omega),ho89,ho81⟩
                  ) (by dsimp only;omega) ⟨rfl,rfl,rfl,rfl,rfl,rfl,rfl,rfl,rfl,rfl,rfl,trivial⟩ ⟨rfl,rfl,rfl,rfl,rfl,rfl,rfl,trivial⟩)
              | (exact ζh (
                  ⟨(s+1,h89,hO',o',r++[Zbf (ZdO t) o' y]),(by dsimp only;rw [hnum];exact Srch.row_snoc hW (Zb8 hold2)),(by dsimp only;omega),ho89,hO'o⟩
                  ) (by dsimp only;omega) ⟨rfl,rfl,rfl,rfl,rfl,rfl,rfl,rfl,rfl,rfl,rfl,trivial⟩ ⟨rfl,rfl,rfl,rfl,rfl,rfl,rfl,trivial⟩)))
       · first
         |exact bN hb55
         | (
          (have hsm:s=t.m:=by omega);subst hsm;have hU2:=Srch.upto_snoc hU hx hW;rw [show ζ1 rows++ZaC i r=ζ1 (rows++[r]) by rw [Ziy,hRl]];rw [ZfJ hpr (i+1) (by omega)];refine nav ?_;(refine ζa ?_<;>refine xL 29 ζb (xL 30 ζM (xL 8 ζc ?_))<;>refine ζd ?_)
          first
           | (exact ζh (
               ⟨(i+1,h43,hM',hO',o',rows++[r]),hU2,(by dsimp only;have:=hpr.length_le;omega),ho43,hM'o,hO'o⟩
               ) (by dsimp only;omega) ⟨rfl,rfl,rfl,rfl,rfl,rfl,rfl,rfl,trivial⟩ ⟨rfl,rfl,rfl,rfl,rfl,rfl,rfl,trivial⟩)
           | (exact ζh (
               ⟨(i+1,hF,hM',hO',o',rows++[r]),hU2,(by dsimp only;have:=hpr.length_le;omega),hFo,hM'o,hO'o⟩
               ) (by dsimp only;omega) ⟨rfl,rfl,rfl,rfl,rfl,rfl,rfl,rfl,trivial⟩ ⟨rfl,rfl,rfl,rfl,rfl,rfl,rfl,trivial⟩)))
    · first
      |exact bN hb38
      | (
       rw [if_neg (by simpa using hb38),XA] at hL1;refine nav ?_;(refine ζV (fun i=>([]:List Nat).elem i) [1,303] kR ?_<;>refine xD 0 45 rfl (ζe 1 ZbX) ?_<;>(refine yD 1 46 rfl (ζk 1 ZcV) fun v46 h=>?_;cases h)<;>refine xD 2 47 rfl ζb ?_<;>refine xD 3 48 rfl ζb ?_<;>refine xD 4 49 rfl (ζu 303 ζx) ?_<;>(refine yD 5 50 rfl (ζk 303 ζn) fun v50 h=>?_;cases h)<;>refine xD 6 51 rfl (ζW Zbr) ?_<;>(refine yD 7 52 rfl (Zc6 ζH) fun v52 h=>?_;cases h)<;>refine xD 8 53 rfl (ζ9 ζx) ?_<;>refine xE 9 54 rfl ζb ?_<;>refine Zae kR (nav ?_)<;>try dsimp only)
       rw [←hL1];rw [show ζ1 rows=ζ1 rows++ZaC i ([]:List Nat) from (XA _).symm];refine ζD (ι:={q:Nat×Value×Value×List Nat×List Nat//(minW t).row i x o q.1=some (q.2.2.2.1,q.2.2.2.2)∧q.1≤t.m∧q.2.1.oneCell'=true∧q.2.2.1.oneCell'=true}) (fun k=>⟨[(1,_,_),(2,_,_),(3,_,_),(4,_,_),(5,_,_),(7,_,_),(8,_,_),(52,_,_),(53,_,_),(6,k.1.2.2.1, .val k.1.2.2.1),(54, .int .i64 k.1.1,pInt k.1.1)],[(1,_,_),(2,_,_),(301,_,_),(7,h7, .own 39 5 1 [pInt 0,pInt (t.m:Nat),pInts [0],_, .val k.1.2.1]),(302,k.1.2.1, .own 93 3 (ζ1 rows++ZaC i k.1.2.2.2.2).length ((ζ1 rows++ZaC i k.1.2.2.2.2).flatMap cMv)),(303,k.1.2.2.1, .own 3 1 k.1.2.2.2.1.length ((toI k.1.2.2.2.1).map pInt)),(304,h15, .omap (ikv (ZdC (ZdO t) 0 k.1.2.2.2.1)))]⟩) (fun k=>t.m-k.1.1) ⟨(0,hM,hO,o,[]),rfl,Xf _,hMo,hOo⟩ (fun a w H=>H.weaken ⟨rfl,rfl,rfl,rfl,rfl,rfl,rfl,rfl,rfl,rfl,rfl,trivial⟩ ⟨rfl,rfl,rfl,rfl,rfl,rfl,rfl,trivial⟩) ?_;rintro ⟨⟨s,hM',hO',o',r⟩,hW,hs,hM'o,hO'o⟩;dsimp only;dsimp only at hW hs hM'o hO'o;obtain ⟨hMt,hpr,hrl2,_⟩:=hOk.toMet.row (fun s _=>Zcy ht) (show s≤(minW t).m from hs) hW;have hcap':o'.length≤t.rows.length:=hMt.cap;have htl':=ZeF o';have hmr:=Zt4 (n:=i) hrw hm1 (by omega) (show r.length≤t.m by omega);refine nav ?_;(refine ζa ?_<;>refine xL 55 ζP ?_<;>refine ζd ?_)
       (first|refine cCd ?_ ?_|refine cC ?_ ?_)<;>intro hb55
       · first
         |exact bN hb55
         | (
          obtain ⟨y,hy⟩:=ζo (show s<row.length by omega);have hyn:=hrt y (Xg hy);(have e4:((toI row).map pInt)[s*1]? =some (pInt (y:Nat)):=by rw [XJ,Xl];unfold toI;rw [Xl,hy];rfl);have e5:=Zit (fun s=>pInt (Zdy t s:Nat)) hyn;have hto:(minW t).step i x s=y:=ZpZ hrow hy;have hid:=Zt3 t o' y;refine nav ?_;(refine ζa ?_<;>refine xL 56 ζb (xL 57 (ζW ζx) ?_)<;>(refine yL 58 (Zc6 ζn) fun v58 h=>?_;cases h)<;>refine xL 9 ζc (xL 10 ζc ?_)<;>refine ζd ?_)
          (refine ζa ?_<;>refine xL 60 ζb (xL 61 ζb (xL 62 ζb (xL 63 (ζW ζx) ?_)))<;>(refine yL 64 (Zc6 ζn) fun v64 h=>?_;cases h)<;>refine xL 65 (Zt2 (f:=ZdO t) (L:=o') (a:=y) 304 ZdN rfl rfl) ?_<;>refine xL 59 ζb (xL 66 ζl (xL 67 ζl (xL 11 ζc (xL 12 ζc ?_))))<;>refine ζd ?_)
          (refine ζa ?_<;>refine xL 68 ζb (xL 69 Zaw ?_)<;>refine ζd ?_)
          (first|refine cCd ?_ ?_|refine cC ?_ ?_)<;>intro hb69
          · first
            |exact bN hb69
            | (
             (have hnew:¬posK (ZdO t) o' (ZdO t y)<o'.length:=by simpa using hb69);have hnew2:¬posK (minW t).key o' ((minW t).key ((minW t).step i x s))<o'.length:=by
              rw [hto];show ¬posK (Zdy t) o' (Zdy t y)<o'.length;rw [←hid];exact hnew
             have hroom:=Zix ht hMt (show (minW t).step i x s<t.rows.length by rw [hto];exact hyn) hnew2;refine nav ?_;(refine ζa ?_<;>refine xL 70 ζb (xL 71 (Zbw 303 ζx) (xL 11 ζc ?_))<;>refine ζd ?_)
             (refine ζa ?_<;>refine xL 72 ζb (xL 73 ζb (xL 74 ζb (xL 75 (ζW ζx) ?_)))<;>(refine yL 76 (Zc6 ζn) fun v76 h=>?_;cases h)<;>refine xL 77 ζb ?_<;>(refine ZjI 304 ZdN ?_;rw [show ZfT (ikv (ZdC (ZdO t) 0 o')) (.int .i64 ((Zdy t y:Nat):Int)) (.int .i64 ((o'.length:Nat):Int))=ikv (ZdC (ZdO t) 0 (o'++[y])) from Zqo hnew])<;>refine ζd ?_)
             (refine ζa ?_<;>refine xL 78 ζb (xL 79 ζb ?_)<;>refine ζ6 (kk:=1) 80 ζz fun h80 ho80=>?_<;>(refine ZbH 303 80 81 ζz fun h81 ho81=>?_;refine ζq (ζJ (l:=81) 303 rfl rfl) fun _=>?_;refine ζq (ζI (l:=303) rfl (Zk9 _ o' y)) fun _=>?_)<;>refine xL 6 ζc ?_<;>refine ζd ?_)
             (refine ζa ?_<;>refine xL 82 (ζe 7 ζw) ?_<;>(refine yL 83 (ζk 7 ζF) fun v83 h=>?_;cases h)<;>refine xL 84 ζb (xL 85 ζb (xL 86 ζb (xL 87 (ζB ZbK) ?_)))<;>refine Zbi 88 ζR fun h88 ho88=>?_<;>(refine ZbH 302 88 89 ζR fun h89 ho89=>?_;refine ζq (ζJ (l:=89) 302 rfl rfl) fun _=>?_;first|refine ζq (ζI (l:=302) rfl (Zcb _ (ζ1 rows++ZaC i r) ⟨(i:Nat),(o'.length:Nat),(s:Nat)⟩)) fun _=>?_|refine ζq (ζI (l:=302) rfl (Zcb _ (ζ1 rows++ZaC i r) ⟨(i:Nat),(Zbf (ZdO t) o' y:Nat),(s:Nat)⟩)) fun _=>?_)<;>refine xL 90 (ζe 7 ζw) ?_<;>refine Zb7 7 ζF Za6 ?_<;>refine ζd ?_)
             (refine ζa ?_<;>refine xL 91 ζM (xL 54 ζb ?_)<;>refine ζd ?_)
             try rw [show (ζ1 rows++ZaC i r)++[(⟨(i:Nat),(o'.length:Nat),(s:Nat)⟩:Mv)]=ζ1 rows++ZaC i (r++[o'.length]) by rw [ZbV,hrl2,Xw]]
             try rw [show (ζ1 rows++ZaC i r)++[(⟨(i:Nat),(Zbf (ZdO t) o' y:Nat),(s:Nat)⟩:Mv)]=ζ1 rows++ZaC i (r++[Zbf (ZdO t) o' y]) by rw [ZbV,hrl2,Xw]]
             first
              | (exact ζh (
                  ⟨(s+1,h89,h81,o'++[y],r++[o'.length]),(by dsimp only;exact (by have h9:=Srch.row_snoc hW (Zb9 hnew2 hroom);rwa [hto] at h9)),(by dsimp only;omega),ho89,ho81⟩
                  ) (by dsimp only;omega) ⟨rfl,rfl,rfl,rfl,rfl,rfl,rfl,rfl,rfl,rfl,rfl,trivial⟩ ⟨rfl,rfl,rfl,rfl,rfl,rfl,rfl,trivial⟩)
              | (exact ζh (
                  ⟨(s+1,h89,hO',o',r++[Zbf (ZdO t) o' y]),(by dsimp only;rw [hnum];exact Srch.row_snoc hW (Zb8 hold2)),(by dsimp only;omega),ho89,hO'o⟩
                  ) (by dsimp only;omega) ⟨rfl,rfl,rfl,rfl,rfl,rfl,rfl,rfl,rfl,rfl,rfl,trivial⟩ ⟨rfl,rfl,rfl,rfl,rfl,rfl,rfl,trivial⟩))
          · first
            |exact bN hb69
            | (
             (have hold:posK (ZdO t) o' (ZdO t y)<o'.length:=by simpa using hb69);have hold2:posK (minW t).key o' ((minW t).key ((minW t).step i x s))<o'.length:=by
              rw [hto];show posK (Zdy t) o' (Zdy t y)<o'.length;rw [←hid];exact hold
             have hnum:Zbf (ZdO t) o' y=posK (minW t).key o' ((minW t).key ((minW t).step i x s)):=by
              rw [hto];show Zbf (ZdO t) o' y=posK (Zdy t) o' (Zdy t y);unfold Zbf;rw [if_pos hold,hid]
             refine nav ?_;(refine ζa ?_<;>refine xL 82 (ζe 7 ζw) ?_<;>(refine yL 83 (ζk 7 ζF) fun v83 h=>?_;cases h)<;>refine xL 84 ζb (xL 85 ζb (xL 86 ζb (xL 87 (ζB ZbK) ?_)))<;>refine Zbi 88 ζR fun h88 ho88=>?_<;>(refine ZbH 302 88 89 ζR fun h89 ho89=>?_;refine ζq (ζJ (l:=89) 302 rfl rfl) fun _=>?_;first|refine ζq (ζI (l:=302) rfl (Zcb _ (ζ1 rows++ZaC i r) ⟨(i:Nat),(o'.length:Nat),(s:Nat)⟩)) fun _=>?_|refine ζq (ζI (l:=302) rfl (Zcb _ (ζ1 rows++ZaC i r) ⟨(i:Nat),(Zbf (ZdO t) o' y:Nat),(s:Nat)⟩)) fun _=>?_)<;>refine xL 90 (ζe 7 ζw) ?_<;>refine Zb7 7 ζF Za6 ?_<;>refine ζd ?_)
             (refine ζa ?_<;>refine xL 91 ζM (xL 54 ζb ?_)<;>refine ζd ?_)
             try rw [show (ζ1 rows++ZaC i r)++[(⟨(i:Nat),(o'.length:Nat),(s:Nat)⟩:Mv)]=ζ1 rows++ZaC i (r++[o'.length]) by rw [ZbV,hrl2,Xw]]
             try rw [show (ζ1 rows++ZaC i r)++[(⟨(i:Nat),(Zbf (ZdO t) o' y:Nat),(s:Nat)⟩:Mv)]=ζ1 rows++ZaC i (r++[Zbf (ZdO t) o' y]) by rw [ZbV,hrl2,Xw]]
             first
              | (exact ζh (
                  ⟨(s+1,h89,h81,o'++[y],r++[o'.length]),(by dsimp only;exact (by have h9:=Srch.row_snoc hW (Zb9 hnew2 hroom);rwa [hto] at h9)),(by dsimp only;omega),ho89,ho81⟩
                  ) (by dsimp only;omega) ⟨rfl,rfl,rfl,rfl,rfl,rfl,rfl,rfl,rfl,rfl,rfl,trivial⟩ ⟨rfl,rfl,rfl,rfl,rfl,rfl,rfl,trivial⟩)
              | (exact ζh (
                  ⟨(s+1,h89,hO',o',r++[Zbf (ZdO t) o' y]),(by dsimp only;rw [hnum];exact Srch.row_snoc hW (Zb8 hold2)),(by dsimp only;omega),ho89,hO'o⟩
                  ) (by dsimp only;omega) ⟨rfl,rfl,rfl,rfl,rfl,rfl,rfl,rfl,rfl,rfl,rfl,trivial⟩ ⟨rfl,rfl,rfl,rfl,rfl,rfl,rfl,trivial⟩)))
       · first
         |exact bN hb55
         | (
          (have hsm:s=t.m:=by omega);subst hsm;have hU2:=Srch.upto_snoc hU hx hW;rw [show ζ1 rows++ZaC i r=ζ1 (rows++[r]) by rw [Ziy,hRl]];rw [ZfJ hpr (i+1) (by omega)];refine nav ?_;(refine ζa ?_<;>refine xL 29 ζb (xL 30 ζM (xL 8 ζc ?_))<;>refine ζd ?_)
          first
           | (exact ζh (
               ⟨(i+1,h43,hM',hO',o',rows++[r]),hU2,(by dsimp only;have:=hpr.length_le;omega),ho43,hM'o,hO'o⟩
               ) (by dsimp only;omega) ⟨rfl,rfl,rfl,rfl,rfl,rfl,rfl,rfl,trivial⟩ ⟨rfl,rfl,rfl,rfl,rfl,rfl,rfl,trivial⟩)
           | (exact ζh (
               ⟨(i+1,hF,hM',hO',o',rows++[r]),hU2,(by dsimp only;have:=hpr.length_le;omega),hFo,hM'o,hO'o⟩
               ) (by dsimp only;omega) ⟨rfl,rfl,rfl,rfl,rfl,rfl,rfl,rfl,trivial⟩ ⟨rfl,rfl,rfl,rfl,rfl,rfl,rfl,trivial⟩))))
 · first
   |exact bN hb28
   | (
    (have hio:i=o.length:=by omega);subst hio;have hA:=Srch.all_some hU (Xb _) (show o.length≤(minW t).cap from hcap);refine nav ?_;(refine ζa ?_<;>refine xL 92 ζb (xL 93 (Zbw 303 ζx) (xL 94 (ζe 7 ζX) ?_))<;>refine Zb7 7 ζn Ze2 ?_<;>refine ζd ?_)
    (refine ζa ?_<;>refine xL 95 (ζe 7 ζw) ?_<;>(refine yL 96 (ζk 7 ζF) fun v96 h=>?_;cases h)<;>refine xL 97 (Zbw 302 ζG) (xL 98 ZaQ ?_)<;>refine ζd ?_)
    (first|refine cCd ?_ ?_|refine cC ?_ ?_)<;>intro hb98
    · first
      |exact bN hb98
      | (
       refine nav ?_;(refine ζa ?_<;>refine xL 99 (ζB ζN) ?_<;>refine ζt 2 ζr ?_<;>refine xL 3 ζc ?_<;>refine ζd ?_)
       refine ZaI (k:=5) 2 kR (Tryz.results186) rfl rfl rfl (Xa rfl) (by decide) rfl ?_;unfold ZbJ;rw [hA,Vn,if_pos (by dsimp only;omega)];rfl)
    · first
      |exact bN hb98
      | (
       refine nav ?_;refine ζC (ZaW (l:=7) (l':=301) (j:=3) rfl rfl rfl rfl) fun _=>?_;refine ζC (ZaW (l:=7) (l':=302) (j:=4) rfl rfl rfl rfl) fun _=>?_;rw [Zaq _ _ _ rfl,Zf6 _ _ _ rfl];(refine ζa ?_<;>(refine yL 100 (ζm 7 ζr) fun v100 h=>?_;cases h)<;>refine ζt 2 ζr ?_<;>refine xL 3 ζc ?_<;>refine ζd ?_)
       refine ZaI (k:=5) 2 kR (Tryz.results186) rfl rfl rfl (Xa rfl) (by decide) rfl ?_;unfold ZbJ;rw [hA,Vn,if_neg (by dsimp only;omega)];rfl))
theorem Zxb {a:Aut} (h:2000<a.n∨20000<a.moves.length):Zws a= .error 13:=by unfold Zws;rw [if_pos h]
theorem ZAp {a:Aut} (h:¬(2000<a.n∨20000<a.moves.length)):Zws a=Zhw a:=by unfold Zws;rw [if_neg h]
theorem Zt5 (x:Option Aut):(∃A,x=some A∧resW (lim x)= .tup [Zap A,pInt 0])∨(x=none∧resW (lim x)= .tup [ZlZ,pInt 13]):=by
 cases x with
 |none=>exact .inr ⟨rfl,rfl⟩
 |some A=>exact .inl ⟨A,rfl,rfl⟩
theorem ZmR (x:Except Int Aut):(∃A,x= .ok A∧resW x= .tup [Zap A,pInt 0])∨(∃e,x= .error e∧resW x= .tup [ZlZ,pInt e]):=by
 cases x with
 |error e=>exact .inr ⟨e,rfl,rfl⟩
 |ok A=>exact .inl ⟨A,rfl,rfl⟩
theorem Zt6 {a:Aut} {t:Tab} (h:Zjo a=some t):Zhw a=lim (ZbJ t):=by unfold Zhw;rw [h]
theorem Zt7 {a:Aut} (h:Zjo a=none):Zhw a= .error 13:=by unfold Zhw;rw [h]
theorem ZmS (a:Aut) (hl:a.moves.length≤1000000) (hb:2000<a.n∨20000<a.moves.length):AF Tryz.prog 132 [Zap a] (· = .tup [ZlZ,pInt 13]):=by
 refine AF.of_body 28 Tryz.func132 rfl Tryz.ntmps132 (Xa rfl) ?_
 intro w0 M0 vs hl hv
 obtain ⟨v0,rfl⟩:=ZcP hl
 clear hl hv
 refine nav ?_
 (refine ζa ?_<;>refine ζS 1 5 fun h1=>?_<;>refine ζs [(.int .i64 0),(.int .i64 0),(.slice none 0 0),(.slice none 0 0),(.slice none 0 0)] 5 2 ζL fun h2=>?_<;>refine xL 3 ζc ?_<;>refine ζd ?_)
 (refine ζa ?_<;>refine xL 6 (ζe 1 ζX) ?_<;>(refine yL 7 (ζk 1 ζn) fun v7 h=>?_;cases h)<;>refine xL 8 ZaQ (xL 9 ζb ?_)<;>(refine bLd 9 (fun hb9=>?_) (fun hb9=>?_)<;>(first|refine kL 10 ?_|refine xL 10 (ζe 1 ζw) ?_))<;>(first|refine kL 11 ?_|(refine yL 11 (ζk 1 ζF) fun v11 h=>?_;cases h))<;>(first|refine kL 12 ?_|refine xL 12 (ζ9 ζG) ?_)<;>(first|refine kL 13 ?_|refine xL 13 ZaQ ?_)<;>refine xL 14 ζv ?_<;>refine ζd ?_)<;>(
  (first|refine cCd ?_ ?_|refine cC ?_ ?_)<;>intro hb14
  · refine nav ?_;(refine ζa ?_<;>refine xL 15 (ζB ζN) ?_<;>refine ζt 2 ζr ?_<;>refine xL 3 ζc ?_<;>refine ζd ?_)
    exact ZaI (k:=5) 2 kR (Tryz.results132) rfl rfl rfl (Xa rfl) (by decide) rfl rfl
  · exfalso
    first
     |omega
     |(simp at hb14;done)
     |(simp at hb14;omega))
theorem Zla (a:Aut) (h:AOk a) (hs:Zjo a=none):AF Tryz.prog 132 [Zap a] (· = .tup [ZlZ,pInt 13]):=by
 have hn1:=h.n1
 have hml:=h.ml
 have hS:AF Tryz.prog 185 [Zap a] (fun p=>∃i:{i:Value×Value×Value//i.1.oneCell'=true∧i.2.1.oneCell'=true∧i.2.2.oneCell'=true},p= .tup [.agg [.val i.1.1, .val i.1.2.1, .val i.1.2.2],ζ7 false]):=(ZgJ a h).mono fun p hp=>by
  rcases hp with ⟨t,h1,_⟩|⟨_,u1,u2,u3,o1,o2,o3,h2⟩
  · rw [hs] at h1;cases h1
  · exact ⟨⟨(u1,u2,u3),o1,o2,o3⟩,h2⟩
 refine AF.of_body 28 Tryz.func132 rfl Tryz.ntmps132 (Xa rfl) ?_
 intro w0 M0 vs hl hv
 obtain ⟨v0,rfl⟩:=ZcP hl
 clear hl hv
 refine nav ?_
 (refine ζa ?_<;>refine ζS 1 5 fun h1=>?_<;>refine ζs [(.int .i64 0),(.int .i64 0),(.slice none 0 0),(.slice none 0 0),(.slice none 0 0)] 5 2 ζL fun h2=>?_<;>refine xL 3 ζc ?_<;>refine ζd ?_)
 (refine ζa ?_<;>refine xL 6 (ζe 1 ζX) ?_<;>(refine yL 7 (ζk 1 ζn) fun v7 h=>?_;cases h)<;>refine xL 8 ZaQ (xL 9 ζb ?_)<;>(refine bLd 9 (fun hb9=>?_) (fun hb9=>?_)<;>(first|refine kL 10 ?_|refine xL 10 (ζe 1 ζw) ?_))<;>(first|refine kL 11 ?_|(refine yL 11 (ζk 1 ζF) fun v11 h=>?_;cases h))<;>(first|refine kL 12 ?_|refine xL 12 (ζ9 ζG) ?_)<;>(first|refine kL 13 ?_|refine xL 13 ZaQ ?_)<;>refine xL 14 ζv ?_<;>refine ζd ?_)<;>(
  (first|refine cCd ?_ ?_|refine cC ?_ ?_)<;>intro hb14
  · exfalso
    first
     |omega
     |(simp at hb14;done)
     |(simp at hb14;omega)
  · refine nav ?_;(refine ζa ?_<;>(refine yL 17 (ζm 1 ζr) fun v17 h=>?_;cases h)<;>(refine cPx 18 (cA Tryz.call185 hS) (fun i va18 vb18 hva18 hvb18=>?_) (fun _=>rfl);cases hvb18;obtain ⟨⟨u1,u2,u3⟩,o1,o2,o3⟩:=i;dsimp only at o1 o2 o3 hva18 ⊢;have q1:En.one (PV.val u1)=true:=o1;have q2:En.one (PV.val u2)=true:=o2;have q3:En.one (PV.val u3)=true:=o3)<;>refine xL 16 ζb (xL 19 ζl (xL 20 ζl ?_))<;>refine ζs [(.int .i64 0),(.slice none 0 0),(.slice none 0 0)] 3 4 ZdM fun h4=>?_<;>refine ζt 4 Za1 ?_<;>refine xL 5 ζc ?_<;>refine ζd ?_)
    (refine ζa ?_<;>refine xL 21 ζb (xL 22 Zaw ?_)<;>refine ζd ?_)
    refine cCt ?_;refine nav ?_;(refine ζa ?_<;>refine xL 23 (ζB ζN) ?_<;>refine ζt 2 ζr ?_<;>refine xL 3 ζc ?_<;>refine ζd ?_)
    exact ZaI (k:=5) 2 kR (Tryz.results132) rfl rfl rfl (Xa rfl) (by decide) rfl rfl)
theorem Zou (a:Aut) (h:AOk a) {t:Tab} (hs:Zjo a=some t) {A:Aut} (hm:AF Tryz.prog 186 [Zza t] (· = .tup [Zap A,pInt 0])):AF Tryz.prog 132 [Zap a] (· = .tup [Zap A,pInt 0]):=by
 have hn1:=h.n1
 have hml:=h.ml
 have hS:AF Tryz.prog 185 [Zap a] (· = .tup [Zza t,ζ7 true]):=(ZgJ a h).mono fun p hp=>by
  rcases hp with ⟨t',h1,h2⟩|⟨h1,_⟩
  · rw [hs] at h1;cases h1;exact h2
  · rw [hs] at h1;cases h1
 refine AF.of_body 28 Tryz.func132 rfl Tryz.ntmps132 (Xa rfl) ?_
 intro w0 M0 vs hl hv
 obtain ⟨v0,rfl⟩:=ZcP hl
 clear hl hv
 refine nav ?_
 (refine ζa ?_<;>refine ζS 1 5 fun h1=>?_<;>refine ζs [(.int .i64 0),(.int .i64 0),(.slice none 0 0),(.slice none 0 0),(.slice none 0 0)] 5 2 ζL fun h2=>?_<;>refine xL 3 ζc ?_<;>refine ζd ?_)
 (refine ζa ?_<;>refine xL 6 (ζe 1 ζX) ?_<;>(refine yL 7 (ζk 1 ζn) fun v7 h=>?_;cases h)<;>refine xL 8 ZaQ (xL 9 ζb ?_)<;>(refine bLd 9 (fun hb9=>?_) (fun hb9=>?_)<;>(first|refine kL 10 ?_|refine xL 10 (ζe 1 ζw) ?_))<;>(first|refine kL 11 ?_|(refine yL 11 (ζk 1 ζF) fun v11 h=>?_;cases h))<;>(first|refine kL 12 ?_|refine xL 12 (ζ9 ζG) ?_)<;>(first|refine kL 13 ?_|refine xL 13 ZaQ ?_)<;>refine xL 14 ζv ?_<;>refine ζd ?_)<;>(
  (first|refine cCd ?_ ?_|refine cC ?_ ?_)<;>intro hb14
  · exfalso
    first
     |omega
     |(simp at hb14;done)
     |(simp at hb14;omega)
  · refine nav ?_;(refine ζa ?_<;>(refine yL 17 (ζm 1 ζr) fun v17 h=>?_;cases h)<;>(refine cP 18 (cA Tryz.call185 (hS)) fun va18 vb18 hva18 h=>?_;cases h)<;>refine xL 16 ζb (xL 19 ζl (xL 20 ζl ?_))<;>refine ζs [(.int .i64 0),(.slice none 0 0),(.slice none 0 0)] 3 4 ZdM fun h4=>?_<;>refine ζt 4 Za1 ?_<;>refine xL 5 ζc ?_<;>refine ζd ?_)
    (refine ζa ?_<;>refine xL 21 ζb (xL 22 Zaw ?_)<;>refine ζd ?_)
    refine cCf ?_;refine nav ?_;(refine ζa ?_<;>(refine yL 24 (ζm 4 Za1) fun v24 h=>?_;cases h)<;>(refine cP 25 (cA Tryz.call186 (hm)) fun va25 vb25 hva25 h=>?_;cases h)<;>refine xL 26 ζl (xL 27 ζl ?_)<;>refine ζt 2 ζr ?_<;>refine xL 3 ζc ?_<;>refine ζd ?_)
    exact ZaI (k:=5) 2 kR (Tryz.results132) rfl rfl rfl (Xa rfl) (by decide) rfl rfl)
theorem ZmT (a:Aut) (h:AOk a) {t:Tab} (hs:Zjo a=some t) (hm:AF Tryz.prog 186 [Zza t] (· = .tup [ZlZ,pInt 13])):AF Tryz.prog 132 [Zap a] (· = .tup [ZlZ,pInt 13]):=by
 have hn1:=h.n1
 have hml:=h.ml
 have hS:AF Tryz.prog 185 [Zap a] (· = .tup [Zza t,ζ7 true]):=(ZgJ a h).mono fun p hp=>by
  rcases hp with ⟨t',h1,h2⟩|⟨h1,_⟩
  · rw [hs] at h1;cases h1;exact h2
  · rw [hs] at h1;cases h1
 refine AF.of_body 28 Tryz.func132 rfl Tryz.ntmps132 (Xa rfl) ?_
 intro w0 M0 vs hl hv
 obtain ⟨v0,rfl⟩:=ZcP hl
 clear hl hv
 refine nav ?_
 (refine ζa ?_<;>refine ζS 1 5 fun h1=>?_<;>refine ζs [(.int .i64 0),(.int .i64 0),(.slice none 0 0),(.slice none 0 0),(.slice none 0 0)] 5 2 ζL fun h2=>?_<;>refine xL 3 ζc ?_<;>refine ζd ?_)
 (refine ζa ?_<;>refine xL 6 (ζe 1 ζX) ?_<;>(refine yL 7 (ζk 1 ζn) fun v7 h=>?_;cases h)<;>refine xL 8 ZaQ (xL 9 ζb ?_)<;>(refine bLd 9 (fun hb9=>?_) (fun hb9=>?_)<;>(first|refine kL 10 ?_|refine xL 10 (ζe 1 ζw) ?_))<;>(first|refine kL 11 ?_|(refine yL 11 (ζk 1 ζF) fun v11 h=>?_;cases h))<;>(first|refine kL 12 ?_|refine xL 12 (ζ9 ζG) ?_)<;>(first|refine kL 13 ?_|refine xL 13 ZaQ ?_)<;>refine xL 14 ζv ?_<;>refine ζd ?_)<;>(
  (first|refine cCd ?_ ?_|refine cC ?_ ?_)<;>intro hb14
  · exfalso
    first
     |omega
     |(simp at hb14;done)
     |(simp at hb14;omega)
  · refine nav ?_;(refine ζa ?_<;>(refine yL 17 (ζm 1 ζr) fun v17 h=>?_;cases h)<;>(refine cP 18 (cA Tryz.call185 (hS)) fun va18 vb18 hva18 h=>?_;cases h)<;>refine xL 16 ζb (xL 19 ζl (xL 20 ζl ?_))<;>refine ζs [(.int .i64 0),(.slice none 0 0),(.slice none 0 0)] 3 4 ZdM fun h4=>?_<;>refine ζt 4 Za1 ?_<;>refine xL 5 ζc ?_<;>refine ζd ?_)
    (refine ζa ?_<;>refine xL 21 ζb (xL 22 Zaw ?_)<;>refine ζd ?_)
    refine cCf ?_;refine nav ?_;(refine ζa ?_<;>(refine yL 24 (ζm 4 Za1) fun v24 h=>?_;cases h)<;>(refine cP 25 (cA Tryz.call186 (hm)) fun va25 vb25 hva25 h=>?_;cases h)<;>refine xL 26 ζl (xL 27 ζl ?_)<;>refine ζt 2 ζr ?_<;>refine xL 3 ζc ?_<;>refine ζd ?_)
    exact ZaI (k:=5) 2 kR (Tryz.results132) rfl rfl rfl (Xa rfl) (by decide) rfl rfl)
theorem Zj1 (a:Aut) (h:AOk a):AF Tryz.prog 132 [Zap a] (· =resW (Zhw a)):=by
 rcases hs:Zjo a with _|t
 · rw [Zt7 hs];exact Zla a h hs
 · have hm:=ZrS t (Zog h hs);rw [Zt6 hs];rcases Zt5 (ZbJ t) with ⟨A,_,h2⟩|⟨_,h2⟩
   · rw [h2] at hm ⊢;exact Zou a h hs hm
   · rw [h2] at hm ⊢;exact ZmT a h hs hm
theorem ZrT (a:Aut) (hl:a.moves.length≤1000000) (h:¬(2000<a.n∨20000<a.moves.length)→AOk a):AF Tryz.prog 132 [Zap a] (· =resW (Zws a)):=by
 by_cases hb:2000<a.n∨20000<a.moves.length
 · rw [Zxb hb];exact ZmS a hl hb
 · rw [ZAp hb];exact Zj1 a (h hb)
theorem ZAq (e:Int):Rr (.tup [ZlZ,pInt e]) (.tup [Zap ZtD,pInt e]):=Rr.tup2 (Rr.agg rfl fun i p p' h1 h2=>by
 match i with
 |0=>cases h1;cases h2;exact Rr.rfl' _
 |1=>cases h1;cases h2;exact Rr.rfl' _
 |2=>cases h1;cases h2;exact Rr.nil
 |3=>cases h1;cases h2;exact Rr.nil
 |4=>cases h1;cases h2;exact Rr.nil
 |i+5=>simp at h1)
theorem ZCG {P:Program} {f:Nat} {ps:List PV} {x:Except Int Aut} (h:AF P f ps (· =resW x)):AF P f ps (· =ZEk x):=by
 cases x with
 |ok A=>exact h
 |error e=>exact h.reread rfl (ZAq e)
theorem Zlb (a:Aut) (hv:Zas a=false):AF Tryz.prog 84 [Zap a] (· = .tup [ZlZ,pInt 1]):=by
 refine AF.of_body 12 Tryz.func84 rfl Tryz.ntmps84 (Xa rfl) ?_
 intro w0 M0 vs hl hv
 obtain ⟨v0,rfl⟩:=ZcP hl
 clear hl hv
 refine nav ?_
 (refine ζa ?_<;>refine ζS 1 5 fun h1=>?_<;>refine ζs [(.int .i64 0),(.int .i64 0),(.slice none 0 0),(.slice none 0 0),(.slice none 0 0)] 5 2 ζL fun h2=>?_<;>refine xL 3 ζc ?_<;>refine ζd ?_)
 (refine ζa ?_<;>(refine yL 4 (ζm 1 ζr) fun v4 h=>?_;cases h)<;>(refine cS 5 (cA Tryz.call107 (Zbj a)) fun v5 h=>?_;cases h)<;>refine xL 6 Zaw ?_<;>refine ζd ?_)
 (first|refine cCd ?_ ?_|refine cC ?_ ?_)<;>intro hb6
 · refine nav ?_;(refine ζa ?_<;>refine xL 7 (ζB ζN) ?_<;>refine ζt 2 ζr ?_<;>refine xL 3 ζc ?_<;>refine ζd ?_)
   exact ZaI (k:=5) 2 kR (Tryz.results84) rfl rfl rfl (Xa rfl) (by decide) rfl rfl
 · rw [hv] at hb6;simp at hb6
theorem ZmU (a:Aut) (hv:Zas a=true) {A:Aut} (hm:AF Tryz.prog 132 [Zap a] (· = .tup [Zap A,pInt 0])):AF Tryz.prog 84 [Zap a] (· = .tup [Zap A,pInt 0]):=by
 refine AF.of_body 12 Tryz.func84 rfl Tryz.ntmps84 (Xa rfl) ?_
 intro w0 M0 vs hl hv
 obtain ⟨v0,rfl⟩:=ZcP hl
 clear hl hv
 refine nav ?_
 (refine ζa ?_<;>refine ζS 1 5 fun h1=>?_<;>refine ζs [(.int .i64 0),(.int .i64 0),(.slice none 0 0),(.slice none 0 0),(.slice none 0 0)] 5 2 ζL fun h2=>?_<;>refine xL 3 ζc ?_<;>refine ζd ?_)
 (refine ζa ?_<;>(refine yL 4 (ζm 1 ζr) fun v4 h=>?_;cases h)<;>(refine cS 5 (cA Tryz.call107 (Zbj a)) fun v5 h=>?_;cases h)<;>refine xL 6 Zaw ?_<;>refine ζd ?_)
 (first|refine cCd ?_ ?_|refine cC ?_ ?_)<;>intro hb6
 · rw [hv] at hb6;simp at hb6
 · refine nav ?_;(refine ζa ?_<;>(refine yL 8 (ζm 1 ζr) fun v8 h=>?_;cases h)<;>(refine cP 9 (cA Tryz.call132 (hm)) fun va9 vb9 hva9 h=>?_;cases h)<;>refine xL 10 ζl (xL 11 ζl ?_)<;>refine ζt 2 ζr ?_<;>refine xL 3 ζc ?_<;>refine ζd ?_)
   exact ZaI (k:=5) 2 kR (Tryz.results84) rfl rfl rfl (Xa rfl) (by decide) rfl rfl
theorem Zlc (a:Aut) (hv:Zas a=true) {e:Int} (hm:AF Tryz.prog 132 [Zap a] (· = .tup [ZlZ,pInt e])):AF Tryz.prog 84 [Zap a] (· = .tup [ZlZ,pInt e]):=by
 refine AF.of_body 12 Tryz.func84 rfl Tryz.ntmps84 (Xa rfl) ?_
 intro w0 M0 vs hl hv
 obtain ⟨v0,rfl⟩:=ZcP hl
 clear hl hv
 refine nav ?_
 (refine ζa ?_<;>refine ζS 1 5 fun h1=>?_<;>refine ζs [(.int .i64 0),(.int .i64 0),(.slice none 0 0),(.slice none 0 0),(.slice none 0 0)] 5 2 ζL fun h2=>?_<;>refine xL 3 ζc ?_<;>refine ζd ?_)
 (refine ζa ?_<;>(refine yL 4 (ζm 1 ζr) fun v4 h=>?_;cases h)<;>(refine cS 5 (cA Tryz.call107 (Zbj a)) fun v5 h=>?_;cases h)<;>refine xL 6 Zaw ?_<;>refine ζd ?_)
 (first|refine cCd ?_ ?_|refine cC ?_ ?_)<;>intro hb6
 · rw [hv] at hb6;simp at hb6
 · refine nav ?_;(refine ζa ?_<;>(refine yL 8 (ζm 1 ζr) fun v8 h=>?_;cases h)<;>(refine cP 9 (cA Tryz.call132 (hm)) fun va9 vb9 hva9 h=>?_;cases h)<;>refine xL 10 ζl (xL 11 ζl ?_)<;>refine ζt 2 ζr ?_<;>refine xL 3 ζc ?_<;>refine ζd ?_)
   exact ZaI (k:=5) 2 kR (Tryz.results84) rfl rfl rfl (Xa rfl) (by decide) rfl rfl
theorem ZiG (a:Aut):AF Tryz.prog 84 [Zap a] (· =resW (Zjp a)):=by
 unfold Zjp
 cases hv:Zas a with
 |false=>rw [if_neg (by simp)];exact Zlb a hv
 | true=>
   rw [if_pos rfl];have hm:=Zj1 a (Zty hv);rcases ZmR (Zhw a) with ⟨A,_,h2⟩|⟨e,_,h2⟩
   · rw [h2] at hm ⊢;exact ZmU a hv hm
   · rw [h2] at hm ⊢;exact Zlc a hv hm
end Go.Proofs.YtgfabnhpllkebaaGreatDoor
namespace Go.En
open Go.RowKit Go.Cb
set_option linter.all false
section
variable {P:Program} {st:St} {o:Oper} {x y:Operand} {q q':PV} {t t':TypeId}
end
section
variable {P:Program} {c:Ctx} {sL hP:List (Nat×Ent)}
theorem Zt8 {fn:Func} {R:Value→PV→List (Nat×Ent)→Prop} {t ty s k e k' n:Nat} {h u:Value} {q p:PV} {cs:List PV} (l:Nat) (H':List (Nat×Ent)) (hT:AggT P ty k=true) (hr:fn.results= #[.cell t ty, .tmp s]) (ht:lk sL t=some (padd (sbase h) 0,q)) (hl:lk hP l=some (h, .own e k' n cs)) (hs:lk sL s=some (u,p)) (hp:k≤cs.length) (hk:0<k) (hsh:(cs.take k).all isSh=true) (hsub:Sub H' hP) (hR:∀V:Value,R (.tuple [V,u].toArray) (.tup [.agg (cs.take k),p]) H') (hdf:c.df=[]:=by exact rfl):aR c (bodyPost P fn (Zrt c R)) (⟨sL,hP⟩:St):=fun a w ⟨F,H⟩=>by
 obtain ⟨V,A,h0,h1,h2⟩:=ZfW H hT ht hl hp hk hsh
 obtain ⟨h3,h4⟩:=H.sl s _ _ hs
 have H2:HoldsF c (⟨sL,H'⟩:St) F a w:=H.less (fun _ _ h=>h) fun t x hx=>hsub.lk hx
 have hM:∀b,b<w.heap.size→mof c H' F b→mof c hP F b:=fun b _ hb=>by
  rcases hb with hb|⟨l,x,h1,h2⟩
  · exact .inl hb
  · exact .inr ⟨l,x,hsub.lk h1,h2⟩
 refine ⟨H.df.trans hdf, .tuple #[V,u],?_, .tuple #[V,u], .tup [.agg (cs.take k),p],H',F,rfl,hR _,H2.toHeapF, .tup [V,u] _ rfl fun i v q' hv hq'=>?_⟩
 · simp only [results,hr];simp at h0;simp [h0,h1,X0,h3]
 · match i with
   |0=>simp at hv hq';subst hv hq';exact h2.anti hM
   |1=>simp at hv hq';subst hv hq';exact h4.anti hM
   |i+2=>simp at hv
end
end Go.En
namespace Go.Proofs.YtgfabnhpllkebaaGreatDoor
open Go.RowKit Go.Cb Go.En
set_option linter.all false
set_option maxRecDepth 100000
section
variable {α:Type}
end
end Go.Proofs.YtgfabnhpllkebaaGreatDoor
