/-
  Walks: the reference's automata: comparing moves, which are valid, sets of states.
  Walks: the reference's automata: closures, where a symbol leads, what is final, what is near.
  Walks: the reference's automata: distances, the words up to a length.
  Walks: the reference's automata: the words up to a length.
  Plain laws: tables, their classes, their minimal automata. No program in sight.
  Plain laws: lists of numbers as texts. No program in sight.
  Plain laws: moves in order; products of automata; the first word of a product. No program in sight.
  Plain laws: what minimal automata are like; complements. No program in sight.
  Plain laws: searches that go alike; the least automaton of a table whose final states are turned. No program in sight.
  Plain laws: automata that operations make. No program in sight.
  Plain laws: minimal automata are deterministic and complete; their products. No program in sight.
  Plain laws: the language of a table; classes are those of languages; the minimal automaton is told by the language. No program in sight.
  Walks: which words an automaton accepts.
  Plain laws: the language of an automaton; minimal automata of automata. No program in sight.
  Plain laws: what the operations' results accept; ways. No program in sight.
  Plain laws: automata side by side; unions, concatenations, reversals. No program in sight.
  Walks: automata: sets of states as texts.
  Walks: automata: the subset automaton.
  Walks: automata: the classes of a table's states.
-/
import Derived.Test.YtgfabnhpllkebaaGreatDoorPk07
import Derived.Test.YtgfabnhpllkebaaGreatDoorPk06
import Derived.Test.YtgfabnhpllkebaaGreatDoorPk03
import Derived.Test.YtgfabnhpllkebaaGreatDoorMShelfE
namespace Go.Proofs.YtgfabnhpllkebaaGreatDoor
open Go.RowKit Go.Cb Go.En
set_option linter.all false
set_option maxRecDepth 100000
def ZAr (l:List Int) (n:Int):Bool:=l.any fun t=>decide (t=n)
theorem ZjF {l:List Int} {n:Int}:ZAr l n=true↔n∈l:=by unfold ZAr;simp
def ZaQ (n:Nat) (f:Nat→Bool):List Int:=((List.range n).filter f).map fun i:Nat=>(i:Int)
theorem Zb7 (k:Nat) (f:Nat→Bool):ZaQ (k+1) f=ZaQ k f++(if f k then [(k:Int)] else []):=by
 unfold ZaQ
 rw [List.range_succ,List.filter_append,List.map_append]
 congr 1
 cases h:f k<;>simp [h]
theorem Zho (n:Nat) (f:Nat→Bool):(ZaQ n f).length≤n:=by
 unfold ZaQ
 rw [List.length_map]
 have:=List.length_filter_le f (List.range n)
 simpa using this
theorem Zhp {n:Nat} {f:Nat→Bool} {t:Int}:t∈ZaQ n f↔0≤t∧t<n∧f t.toNat=true:=by
 unfold ZaQ
 simp only [List.mem_map,List.mem_filter,List.mem_range]
 constructor
 · rintro ⟨i,⟨h1,h2⟩,rfl⟩
   exact ⟨by omega,by omega,by simpa using h2⟩
 · rintro ⟨h1,h2,h3⟩
   exact ⟨t.toNat,⟨by omega,h3⟩,by omega⟩
theorem ZmS (n:Nat) (f:Nat→Bool):Srt (ZaQ n f):=by
 unfold ZaQ Srt
 refine List.pairwise_map.2 (List.Pairwise.filter _ ?_)
 exact (List.pairwise_lt_range (n:=n)).imp fun h=>by omega
def ZzQ (l:List Int) (i:Nat):Bool:=ZAr l (i:Nat)
structure MkI (a:Aut) (l:List Int) (f:Nat→Bool):Prop where
 base:∀s∈l,f s.toNat=true
 snd:∀i:Nat,i<a.n.toNat→f i=true→Rch a l (i:Nat)
def ZA2 (a:Aut) (f:Nat→Bool):Prop:=∀m∈a.moves,m.sym<0→f m.src.toNat=true→f m.dst.toNat=true
theorem MkI.start {a:Aut} {l:List Int} (hl:InS a l):MkI a l (ZzQ l):=by
 refine ⟨fun s hs=>?_,fun i _ h=> .base (ZjF.1 h)⟩
 unfold ZzQ
 rw [ZjF,show ((s.toNat:Nat):Int)=s by have:=hl s hs;omega]
 exact hs
def ZAs (f:Nat→Bool) (i:Nat):Nat→Bool:=fun j=>if j=i then true else f j
structure PassB (a:Aut) (l:List Int) (f0 f:Nat→Bool) (fl:Bool) (i:Nat):Prop where
 mki:MkI a l f
 no:fl=false→f=f0∧∀j m,j<i→a.moves[j]? =some m→m.sym<0→f m.src.toNat=true→f m.dst.toNat=true
 yes:fl=true→cntF a.n.toNat f<cntF a.n.toNat f0
theorem PassB.start {a:Aut} {l:List Int} {f:Nat→Bool} (h:MkI a l f):PassB a l f f false 0:=⟨h,fun _=>⟨rfl,fun j m hj=>by omega⟩,fun h=>Bool.noConfusion h⟩
theorem PassB.set {a:Aut} {l:List Int} {f0 f:Nat→Bool} {fl:Bool} {i:Nat} {m:Mv} (hA:AOk a) (hl:InS a l) (h:PassB a l f0 f fl i) (hm:a.moves[i]? =some m) (h1:m.sym<0) (h2:f m.src.toNat=true) (h3:f m.dst.toNat=false):PassB a l f0 (ZAs f m.dst.toNat) true (i+1):=by
 have hmv:=hA.mv m (List.mem_of_getElem? hm)
 refine ⟨⟨fun s hs=>?_,fun j hj hf=>?_⟩,fun h=>Bool.noConfusion h,fun _=>?_⟩
 · unfold ZAs;split
   · rfl
   · exact h.mki.base s hs
 · unfold ZAs at hf
   split at hf
   · rename_i e
     have h4:=h.mki.snd m.src.toNat (by omega) h2
     have h5:=Rch.step h4 (List.mem_of_getElem? hm) (by omega) (by omega)
     rw [e,show ((m.dst.toNat:Nat):Int)=m.dst by omega];exact h5
   · exact h.mki.snd j hj hf
 · have h4:=Zoy h3 (n:=a.n.toNat) (by omega)
   have h5:cntF a.n.toNat (ZAs f m.dst.toNat)+1=cntF a.n.toNat f:=h4
   cases hfl:fl
   · have:=(h.no hfl).1
     rw [this] at h5 ⊢;omega
   · have:=h.yes hfl;omega
theorem PassB.skip {a:Aut} {l:List Int} {f0 f:Nat→Bool} {fl:Bool} {i:Nat} {m:Mv} (h:PassB a l f0 f fl i) (hm:a.moves[i]? =some m) (h1:m.sym<0→f m.src.toNat=true→f m.dst.toNat=true):PassB a l f0 f fl (i+1):=
 ⟨h.mki,fun hf=>⟨(h.no hf).1,fun j x hj hx=>by
  by_cases e:j=i
  · subst e;rw [hm] at hx;cases hx;exact h1
  · exact (h.no hf).2 j x (by omega) hx⟩,h.yes⟩
theorem PassB.clos {a:Aut} {l:List Int} {f0 f:Nat→Bool} {i:Nat} (h:PassB a l f0 f false i) (hi:a.moves.length≤i):ZA2 a f:=fun m hm=>by
 obtain ⟨j,hj⟩:=List.getElem?_of_mem hm
 exact (h.no rfl).2 j m (by have:=ζe hj;omega) hj
theorem PassB.less {a:Aut} {l:List Int} {f0 f:Nat→Bool} {fl:Bool} {i:Nat} (h:PassB a l f0 f fl i):cntF a.n.toNat f+(if fl then 1 else 0)<cntF a.n.toNat f0+(if true then 1 else 0):=by
 cases hf:fl
 · have h1:=(h.no hf).1
   rw [h1];simp
 · have h1:=h.yes hf
   simp;omega
def FinJ (a:Aut) (k:Nat) (L:List Int):Prop:=L.length=a.n.toNat∧∀s,s<k→L[s]? =some (if Zgh a (s:Nat) then 0 else-1)
theorem FinJ.step {a:Aut} {k:Nat} {L:List Int} {d:Int} (h:FinJ a k L) (hk:k<a.n.toNat) (hd:d=if Zgh a (k:Nat) then 0 else-1):FinJ a (k+1) (L.set k d):=by
 refine ⟨by rw [List.length_set];exact h.1,fun s hs=>?_⟩
 by_cases e:k=s
 · subst e
   rw [List.getElem?_set_self (by rw [h.1];exact hk),hd]
 · rw [List.getElem?_set_ne e];exact h.2 s (by omega)
theorem FinJ.done {a:Aut} {k:Nat} {L:List Int} (h:FinJ a k L) (hk:a.n.toNat≤k):L=Zbh a 0:=by
 apply List.ext_getElem?
 intro s
 rcases Nat.lt_or_ge s a.n.toNat with hs|hs
 · rw [h.2 s (by omega),show (Zbh a 0)[s]? =_ from ZiB hs]
 · rw [List.getElem?_eq_none (by rw [h.1];exact hs),List.getElem?_eq_none (by rw [(Zdv a 0).len];exact hs)]
theorem ZiH {n:Nat} {L:List Nat} (h:L.Nodup) (hl:∀s∈L,s<n):L.length≤n:=by
 have:=nodup_len n (L.map fun x:Nat=>(x:Int)) (List.pairwise_map.2 (h.imp fun h1 h2=>h1 (by omega))) fun s hs=>by
  obtain ⟨x,hx,rfl⟩:=List.mem_map.1 hs
  have:=hl x hx
  omega
 simpa using this
structure Tab where
 m:Nat
 rows:List (List Nat)
 fin:List Bool
structure TOk (t:Tab):Prop where
 fl:t.fin.length=t.rows.length
 rl:∀r∈t.rows,r.length=t.m
 to:∀r∈t.rows,∀x∈r,x<t.rows.length
 pos:0<t.rows.length
 n1:t.rows.length≤2000
 m1:t.m≤40
def ZfR (a:Aut):Srch (List Int) (List Int):=⟨id,2000,a.syms.toNat,fun _ l s=>ZaB a (s:Nat) l⟩
def Zgv (a:Aut):Option Tab:=((ZfR a).all (Za1 a a.start)).map fun q=>⟨a.syms.toNat,q.2,q.1.map (ZdV a)⟩
def SetOk (a:Aut) (l:List Int):Prop:=InS a l∧Srt l
theorem SetOk.len {a:Aut} (h:AOk a) {l:List Int} (hl:SetOk a l):l.length≤2000:=by
 have h4:=nodup_len a.n.toNat l (hl.2.imp fun h=>by omega) fun s hs=>by
  have:=hl.1 s hs
  have:=h.n0
  omega
 have:=h.n1
 omega
theorem ZjG {a:Aut} (h:AOk a) (c:Int) (l:List Int):SetOk a (ZaB a c l):=⟨ZdW h.mi c l,Zcw h.mi (Zbr h.mi c l)⟩
theorem Zk9 {a:Aut} (h:AOk a):SetOk a (Za1 a a.start):=⟨Zen h.mi h.st,Zcw h.mi h.st⟩
theorem ZoB {a:Aut} (h:AOk a) {i:Nat} {o:List (List Int)} {rows:List (List Nat)} (hu:(ZfR a).upto (Za1 a a.start) i=some (o,rows)):(ZfR a).Ok (SetOk a) (Za1 a a.start) o rows∧(i≤o.length→rows.length=i)∧(o.length≤i→rows.length=o.length):=
 Srch.ok (P:=SetOk a) (show 1≤2000 by decide) (Zk9 h) (fun _ _ s _ _=>ZjG h s _) hu
theorem ZmT {a:Aut} (h:AOk a) {t:Tab} (ht:Zgv a=some t):TOk t:=by
 unfold Zgv at ht
 obtain ⟨⟨o,rows⟩,h1,rfl⟩:=Option.map_eq_some_iff.1 ht
 obtain ⟨h2,h3,h4⟩:=ZoB h h1
 have hcap:o.length≤2000:=h2.cap
 have h5:=h4 hcap
 have hp:=h2.pos
 have hs:=h.s1
 refine ⟨by simp [h5],h2.len,fun r hr x hx=>?_,by dsimp only;omega,by dsimp only;omega,by dsimp only;omega⟩
 obtain ⟨i,hi⟩:=List.getElem?_of_mem hr
 obtain ⟨t,ht⟩:=List.getElem?_of_mem hx
 dsimp only at hi
 obtain ⟨y,hy⟩:=ζm (show i<o.length by have:=ζe hi;omega)
 have:=(h2.to i y r t x hy hi ht).1
 dsimp only;omega
section
variable {κ:Type} [DecidableEq κ]
def ZbW (k:Nat→κ):Nat→List κ
 |0=>[]
 |s+1=>if k s∈ZbW k s then ZbW k s else ZbW k s++[k s]
theorem ZuW (k:Nat→κ) (s:Nat):ZbW k s<+:ZbW k (s+1):=by
 rw [ZbW];split
 · exact List.prefix_refl _
 · exact List.prefix_append _ _
theorem Zla (k:Nat→κ) (s:Nat):∀t,ZbW k s<+:ZbW k (s+t)
 |0=>List.prefix_refl _
 |t+1=>(Zla k s t).trans (ZuW k (s+t))
theorem ZjH (k:Nat→κ):∀s,(ZbW k s).length≤s
 |0=>Nat.le_refl _
 | s+1=>by
   have:=ZjH k s
   rw [ZbW];split
   · omega
   · rw [List.length_append,List.length_singleton];omega
theorem ZcK {k:Nat→κ}:∀{s:Nat} {x:κ},x∈ZbW k s↔∃i,i<s∧k i=x
 |0,x=>by simp [ZbW]
 | s + 1,x=>by
   have ih:=ZcK (k:=k) (s:=s) (x:=x)
   rw [ZbW];split
   · rename_i h
     rw [ih]
     constructor
     · rintro ⟨i,h1,h2⟩;exact ⟨i,by omega,h2⟩
     · rintro ⟨i,h1,h2⟩
       by_cases e:i=s
       · subst e;subst h2;exact ih.1 h
       · exact ⟨i,by omega,h2⟩
   · rw [List.mem_append,ih,List.mem_singleton]
     constructor
     · rintro (⟨i,h1,h2⟩|h)
       · exact ⟨i,by omega,h2⟩
       · exact ⟨s,by omega,h.symm⟩
     · rintro ⟨i,h1,h2⟩
       by_cases e:i=s
       · subst e;exact .inr h2.symm
       · exact .inl ⟨i,by omega,h2⟩
theorem ZmU (k:Nat→κ):∀s,(ZbW k s).Nodup
 |0=>List.nodup_nil
 | s +1=>by
   rw [ZbW];split
   · exact ZmU k s
   · rename_i h
     rw [List.nodup_append]
     exact ⟨ZmU k s,by simp,fun a ha b hb e=>h (by rw [List.mem_singleton.1 hb] at e;rw [←e];exact ha)⟩
theorem ZjI {l:List κ} {x:κ}:posK id l x<l.length↔x∈l:=by
 rw [Zjq]
 constructor
 · rintro ⟨y,h1,rfl⟩;exact h1
 · exact fun h=>⟨x,h,rfl⟩
theorem ZoC {k:Nat→κ} {s:Nat} (h:posK id (ZbW k s) (k s)<(ZbW k s).length):ZbW k (s+1)=ZbW k s:=by rw [ZbW,if_pos (ZjI.1 h)]
theorem ZoD {k:Nat→κ} {s:Nat} (h:¬posK id (ZbW k s) (k s)<(ZbW k s).length):ZbW k (s+1)=ZbW k s++[k s]:=by rw [ZbW,if_neg fun h1=>h (ZjI.2 h1)]
theorem Zgw {k:Nat→κ} {s n:Nat} (h:s<n):posK id (ZbW k n) (k s)=posK id (ZbW k (s+1)) (k s)∧posK id (ZbW k n) (k s)<(ZbW k n).length:=by
 have h1:k s∈ZbW k (s+1):=ZcK.2 ⟨s,by omega,rfl⟩
 have h2:=Zla k (s+1) (n-(s+1))
 rw [show s+1+(n-(s+1))=n by omega] at h2
 obtain ⟨e,he⟩:=h2
 exact ⟨by rw [←he,Zgs e (ZjI.2 h1)],ZjI.2 (ZcK.2 ⟨s,h,rfl⟩)⟩
end
def ZbH (rows:List (List Nat)) (c:Nat→Nat) (s:Nat):List Nat:=c s::((rows[s]?).getD []).map c
def Zd4 (rows:List (List Nat)) (c:Nat→Nat) (s:Nat):Nat:=posK id (ZbW (ZbH rows c) rows.length) (ZbH rows c s)
def Zqc (rows:List (List Nat)) (c:Nat→Nat):Nat:=(ZbW (ZbH rows c) rows.length).length
def Zii (rows:List (List Nat)):Nat→(Nat→Nat)→Nat→(Nat→Nat)
 |0,c,_=>c
 |f+1,c,k=>if Zqc rows c=k then Zd4 rows c else Zii rows f (Zd4 rows c) (Zqc rows c)
def ZoE (fin:List Bool) (s:Nat):Nat:=if (fin[s]?).getD false then 1 else 0
def ZcV (t:Tab):Nat→Nat:=Zii t.rows (t.rows.length+2) (ZoE t.fin) 0
structure COk (n:Nat) (c:Nat→Nat) (k:Nat):Prop where
 hit:∀v,v<k→∃s,s<n∧c s=v
 le:k≤n
 bd:∀s,s<n→c s≤n
theorem COk.start (fin:List Bool) (n:Nat):COk n (ZoE fin) 0:=⟨fun v h=>by omega,Nat.zero_le _,fun s h=>by unfold ZoE;split<;>omega⟩
theorem COk.grow {rows:List (List Nat)} {c:Nat→Nat} {k:Nat} (h:COk rows.length c k):k≤Zqc rows c:=by
 have h1:∀v,v<k→v∈(ZbW (ZbH rows c) rows.length).map fun l=>l.headD 0:=fun v hv=>by
  obtain ⟨s,hs,rfl⟩:=h.hit v hv
  exact List.mem_map.2 ⟨ZbH rows c s,ZcK.2 ⟨s,hs,rfl⟩,rfl⟩
 have h2:∀(n:Nat) (L:List Nat),(∀v,v<n→v∈L)→n≤L.length:=fun n=>by
  induction n with
  |zero=>exact fun _ _=>Nat.zero_le _
  | succ n ih=>
    intro L hL
    have h3:=ih (L.erase n) fun v hv=>(List.mem_erase_of_ne (by omega)).2 (hL v (by omega))
    rw [List.length_erase_of_mem (hL n (by omega))] at h3
    have:=List.length_pos_of_mem (hL n (by omega))
    omega
 have:=h2 k _ h1
 rwa [List.length_map] at this
theorem COk.next {rows:List (List Nat)} {c:Nat→Nat} {k:Nat} (h:COk rows.length c k):COk rows.length (Zd4 rows c) (Zqc rows c):=by
 have hl:=ZjH (ZbH rows c) rows.length
 refine ⟨fun v hv=>?_,hl,fun s hs=>?_⟩
 · obtain ⟨x,hx⟩:=ζm hv
   obtain ⟨s,hs,rfl⟩:=ZcK.1 (List.mem_of_getElem? hx)
   refine ⟨s,hs,?_⟩
   have hn:((ZbW (ZbH rows c) rows.length).map id).Nodup:=by rw [List.map_id];exact ZmU _ _
   exact Zdr hn hx
 · have:=(Zgw (k:=ZbH rows c) hs).2
   show posK _ _ _≤_
   omega
def toT (t:Tab) (x s:Nat):Nat:=((((t.rows[x]?).getD [])[s]?).getD 0)
def minW (t:Tab):Srch Nat Nat:=⟨ZcV t,t.rows.length,t.m,fun _ x s=>toT t x s⟩
theorem ZiI {t:Tab} {x s n:Nat} {r:List Nat} (h:t.rows[x]? =some r) (h2:r[s]? =some n):toT t x s=n:=by
 unfold toT;rw [h];show ((r[s]?).getD 0)=n;rw [h2];rfl
theorem Zb8 {t:Tab} (h:TOk t) {x s:Nat}:toT t x s<t.rows.length:=by
 unfold toT
 cases h1:t.rows[x]? with
 |none=>simpa using h.pos
 | some r=>
   show ((r[s]?).getD 0)<_
   cases h2:r[s]? with
   |none=>simpa using h.pos
   |some n=>exact h.to r (List.mem_of_getElem? h1) n (List.mem_of_getElem? h2)
theorem Zd5 {α β:Type} {f:α→β}:∀{l:List α},(l.map f).Nodup→l.Nodup
 |[],_=>List.nodup_nil
 | x::l,h=>by
   rw [List.map_cons,List.nodup_cons] at h
   exact List.nodup_cons.2 ⟨fun h1=>h.1 (List.mem_map_of_mem h1),Zd5 h.2⟩
theorem Zhq {t:Tab} (h:TOk t) {o:List Nat} (hm:(minW t).Met (· <t.rows.length) 0 o) {x:Nat} (hx:x<t.rows.length) (hn:¬posK (minW t).key o ((minW t).key x)<o.length):o.length<t.rows.length:=by
 have h1:(o++[x]).Nodup:=by
  rw [List.nodup_append]
  refine ⟨Zd5 hm.nd,by simp,fun a ha b hb e=>hn (Zjq.2 ⟨x,?_,rfl⟩)⟩
  rw [List.mem_singleton.1 hb] at e
  rw [←e];exact ha
 have:=ZiH h1 fun s hs=>by
  rcases List.mem_append.1 hs with hs|hs
  · exact hm.p s hs
  · rw [List.mem_singleton.1 hs];exact hx
 rw [List.length_append,List.length_singleton] at this
 omega
theorem Zse {t:Tab} (h:TOk t) {i x:Nat} {o:List Nat} (hm:(minW t).Met (· <t.rows.length) 0 o):∀s,s≤t.m→∃q,(minW t).row i x o s=some q
 |0,_=>⟨_,rfl⟩
 | s+1,hs=>by
   obtain ⟨⟨o1,r1⟩,h1⟩:=Zse h hm s (by omega)
   obtain ⟨h2,_⟩:=hm.row (fun s _=>Zb8 h) (show s≤(minW t).m from (by show s≤t.m;omega)) h1
   by_cases hp:posK (minW t).key o1 ((minW t).key ((minW t).step i x s))<o1.length
   · exact ⟨_,Srch.row_snoc h1 (Zbc hp)⟩
   · exact ⟨_,Srch.row_snoc h1 (Zbd hp (Zhq h h2 (Zb8 h) hp))⟩
theorem Zsf {t:Tab} (h:TOk t) {i:Nat} {o:List Nat} {rows:List (List Nat)} (hu:(minW t).upto 0 i=some (o,rows)):(minW t).Ok (· <t.rows.length) 0 o rows∧(i≤o.length→rows.length=i)∧(o.length≤i→rows.length=o.length):=
 Srch.ok (W:=minW t) (P:=(· <t.rows.length)) h.pos h.pos (fun _ _ s _ _=>Zb8 h) hu
theorem ZoF {t:Tab} (h:TOk t):∀i,∃q,(minW t).upto 0 i=some q
 |0=>⟨_,rfl⟩
 | i +1=>by
   obtain ⟨⟨o,rows⟩,h1⟩:=ZoF h i
   cases hx:o[i]? with
   |none=>exact ⟨_,Srch.upto_stop h1 (List.getElem?_eq_none_iff.1 hx) 1⟩
   | some x=>
     obtain ⟨⟨o',r⟩,h2⟩:=Zse h (i:=i) (x:=x) (Zsf h h1).1.toMet t.m (Nat.le_refl _)
     exact ⟨_,Srch.upto_snoc h1 hx h2⟩
theorem ZxE {t:Tab} (h:TOk t):∃q,(minW t).all 0=some q:=ZoF h _
def Zap (i:Nat) (r:List Nat):List Mv:=r.zipIdx.map fun p=>⟨(i:Nat),(p.1:Nat),(p.2:Nat)⟩
def ζT (rows:List (List Nat)):List Mv:=rows.zipIdx.flatMap fun p=>Zap p.2 p.1
theorem Zby (i:Nat) (r:List Nat) (n:Nat):Zap i (r++[n])=Zap i r++[⟨(i:Nat),(n:Nat),(r.length:Nat)⟩]:=by
 unfold Zap;rw [List.zipIdx_append,List.map_append];simp
theorem Zdc (i:Nat) (r:List Nat):(Zap i r).length=r.length:=by unfold Zap;simp
theorem Zhr (rows:List (List Nat)) (r:List Nat):ζT (rows++[r])=ζT rows++Zap rows.length r:=by
 unfold ζT;rw [List.zipIdx_append,List.flatMap_append];simp
theorem Zqd {m:Nat}:∀(rows:List (List Nat)),(∀r∈rows,r.length=m)→(ζT rows).length=rows.length*m:=by
 intro rows
 have key:∀(L:List (List Nat)) (k:Nat),(∀r∈L,r.length=m)→((L.zipIdx k).flatMap fun p=>Zap p.2 p.1).length=L.length*m:=by
  intro L
  induction L with
  |nil=>intro k _;simp
  | cons r L ih=>
    intro k h
    rw [List.zipIdx_cons,List.flatMap_cons,List.length_append,ih (k+1) (fun r hr=>h r (List.mem_cons_of_mem _ hr)),Zdc,h r (List.mem_cons_self ..),List.length_cons,Nat.succ_mul]
    omega
 exact key rows 0
def ZdF (t:Tab) (o:List Nat) (i:Nat):Bool:=(t.fin[(o[i]?).getD 0]?).getD false
def Zcy (t:Tab) (q:List Nat×List (List Nat)):Aut:=⟨(q.1.length:Nat),(t.m:Nat),[0],ZaQ q.1.length (ZdF t q.1),ζT q.2⟩
def Zbz (t:Tab):Option Aut:=((minW t).all 0).bind fun q=>if 20000<(ζT q.2).length then none else some (Zcy t q)
def ZA3:Aut:=⟨0,0,[],[],[]⟩
def ZBw:Except Int Aut→PV
 | .ok a=> .tup [ζW a,pInt 0]
 | .error e=> .tup [ζW ZA3,pInt e]
def Zia:PV:= .agg [pInt 0,pInt 0, .val (.slice none 0 0), .val (.slice none 0 0), .val (.slice none 0 0)]
def resW:Except Int Aut→PV
 | .ok a=> .tup [ζW a,pInt 0]
 | .error e=> .tup [Zia,pInt e]
def lim (x:Option Aut):Except Int Aut:=match x with
 |some a=> .ok a
 |none=> .error 13
def ZcS (a:Aut):Except Int Aut:=match Zgv a with
 |some t=>lim (Zbz t)
 |none=> .error 13
def Zij (a:Aut):Except Int Aut:=if ζ5 a then ZcS a else .error 1
def ZzR (l:List UInt8):Nat:=l.foldl (fun v b=>v*10+(b.toNat-48)) 0
theorem Zsg (l:List UInt8) (b:UInt8):ZzR (l++[b])=ZzR l*10+(b.toNat-48):=by unfold ZzR;rw [List.foldl_append];rfl
theorem ZmV {u:Nat} (h:u<10):(UInt8.ofNat (48+u)).toNat=48+u:=by
 rw [UInt8.toNat_ofNat'];omega
theorem ZoG (u:Nat):ZzR (Lib.decDigits u)=u:=by
 induction u using Nat.strongRecOn with
 | _ u ih=>
   rw [Lib.decDigits]
   split
   · rename_i h
     show 0*10+((UInt8.ofNat (48+u)).toNat-48)=u
     rw [ZmV h];omega
   · rw [Zsg,ih (u / 10) (by omega),ZmV (by omega)];omega
theorem Zwv (u:Nat):∀b∈Lib.decDigits u,b≠32:=by
 induction u using Nat.strongRecOn with
 | _ u ih=>
   have key:∀v:Nat,v<10→UInt8.ofNat (48+v)≠32:=fun v hv e=>by
    have:=congrArg UInt8.toNat e
    rw [ZmV hv] at this
    have h32:(32:UInt8).toNat=32:=rfl
    omega
   rw [Lib.decDigits]
   split
   · rename_i h
     intro b hb
     rw [List.mem_singleton.1 hb];exact key u h
   · intro b hb
     rcases List.mem_append.1 hb with hb|hb
     · exact ih (u / 10) (by omega) b hb
     · rw [List.mem_singleton.1 hb];exact key _ (by omega)
theorem ZoH:∀{a b c d:List UInt8},(∀x∈a,x≠32)→(∀x∈b,x≠32)→a++32::c=b++32::d→a=b∧c=d
 |[],[],c,d,_,_,h=>⟨rfl,(List.cons.inj h).2⟩
 |[],y::b,c,d,_,hb,h=>absurd (List.cons.inj h).1.symm (hb y (List.mem_cons_self ..))
 |x::a,[],c,d,ha,_,h=>absurd (List.cons.inj h).1 (ha x (List.mem_cons_self ..))
 | x::a,y::b,c,d,ha,hb,h=>by
   obtain ⟨h1,h2⟩:=List.cons.inj h
   obtain ⟨h3,h4⟩:=ZoH (fun z hz=>ha z (List.mem_cons_of_mem _ hz)) (fun z hz=>hb z (List.mem_cons_of_mem _ hz)) h2
   exact ⟨by rw [h1,h3],h4⟩
def Zgm (l:List Int):List UInt8:=l.flatMap fun s=>Lib.itoa s++[32]
def ZiJ (l:List Int):ByteArray:=⟨(Zgm l).toArray⟩
theorem ZoI:∀{l m:List Int},(∀x∈l,0≤x)→(∀x∈m,0≤x)→Zgm l=Zgm m→l=m
 |[],[],_,_,_=>rfl
 | [],y::m,_,_,h=>by
   have:=congrArg List.length h
   simp only [Zgm,List.flatMap_cons,List.flatMap_nil,List.length_append,List.length_cons,List.length_nil] at this
   omega
 | x::l,[],_,_,h=>by
   have:=congrArg List.length h
   simp only [Zgm,List.flatMap_cons,List.flatMap_nil,List.length_append,List.length_cons,List.length_nil] at this
   omega
 | x ::l,y::m,hl,hm,h=>by
   have hx:=hl x (List.mem_cons_self ..)
   have hy:=hm y (List.mem_cons_self ..)
   have e1:Lib.itoa x=Lib.decDigits x.toNat:=by unfold Lib.itoa;rw [if_neg (by omega)]
   have e2:Lib.itoa y=Lib.decDigits y.toNat:=by unfold Lib.itoa;rw [if_neg (by omega)]
   have h':Lib.decDigits x.toNat++32::Zgm l=Lib.decDigits y.toNat++32::Zgm m:=by
    have:Zgm (x::l)=Lib.itoa x++[32]++Zgm l:=rfl
    rw [this,show Zgm (y::m)=Lib.itoa y++[32]++Zgm m from rfl,e1,e2] at h
    simpa using h
   obtain ⟨h1,h2⟩:=ZoH (Zwv _) (Zwv _) h'
   have h3:=congrArg ZzR h1
   rw [ZoG,ZoG] at h3
   rw [ZoI (fun z hz=>hl z (List.mem_cons_of_mem _ hz)) (fun z hz=>hm z (List.mem_cons_of_mem _ hz)) h2,show x=y by omega]
theorem ZzS {l m:List UInt8} (h:(⟨l.toArray⟩:ByteArray)=⟨m.toArray⟩):l=m:=by
 have:=ByteArray.mk.inj h
 simpa using this
theorem ZoJ {l m:List Int} (hl:∀x∈l,0≤x) (hm:∀x∈m,0≤x):ZiJ l=ZiJ m↔l=m:=
 ⟨fun h=>ZoI hl hm (ZzS h),fun h=>by rw [h]⟩
def toI (l:List Nat):List Int:=l.map fun x:Nat=>(x:Int)
theorem ZxF {l m:List Nat}:toI l=toI m↔l=m:=by
 unfold toI
 constructor
 · intro h
   have:=congrArg (List.map Int.toNat) h
   simpa [List.map_map,Function.comp_def] using this
 · intro h;rw [h]
def eqM (a b:Mv):Bool:=decide (a.src=b.src)&&decide (a.dst=b.dst)&&decide (a.sym=b.sym)
theorem Zd6 {a b:Mv}:eqM a b=true↔a=b:=by
 unfold eqM
 simp only [Bool.and_eq_true,decide_eq_true_eq]
 cases a;cases b
 simp only [Mv.mk.injEq,and_assoc]
theorem Zdx (a:Mv):ZfL a a=false:=by
 cases h:ZfL a a with
 |false=>rfl
 |true=>have:=Zeq.1 h;omega
theorem Zhs {a b c:Mv} (h1:ZfL a b=true) (h2:ZfL b c=true):ZfL a c=true:=by
 rw [Zeq] at h1 h2 ⊢;omega
theorem ZjJ {a b:Mv} (h1:ZfL a b=false) (h2:ZfL b a=false):a=b:=by
 have e1:¬ZfL a b=true:=by rw [h1];simp
 have e2:¬ZfL b a=true:=by rw [h2];simp
 rw [Zeq] at e1 e2
 rw [←Zd6];unfold eqM
 simp only [Bool.and_eq_true,decide_eq_true_eq];omega
def AscM (l:List Mv):Prop:=l.Pairwise fun a b=>ZfL a b=true
theorem ZjK:∀{l m:List Mv},AscM l→AscM m→(∀x,x∈l↔x∈m)→l=m
 |[],[],_,_,_=>rfl
 |[],y::m,_,_,h=>absurd ((h y).2 (List.mem_cons_self ..)) (by simp)
 |x::l,[],_,_,h=>absurd ((h x).1 (List.mem_cons_self ..)) (by simp)
 | x :: l,y::m,hl,hm,h=>by
   have hl':=List.pairwise_cons.1 hl
   have hm':=List.pairwise_cons.1 hm
   have hxy:x=y:=by
    rcases List.mem_cons.1 ((h x).1 (List.mem_cons_self ..)) with e|h1
    · exact e
    · rcases List.mem_cons.1 ((h y).2 (List.mem_cons_self ..)) with e|h2
      · exact e.symm
      · have h3:=Zhs (hm'.1 x h1) (hl'.1 y h2)
        rw [Zdx] at h3;cases h3
   subst hxy
   congr 1
   refine ZjK hl'.2 hm'.2 fun z=>⟨fun hz=>?_,fun hz=>?_⟩
   · rcases List.mem_cons.1 ((h z).1 (List.mem_cons_of_mem _ hz)) with e|h1
     · have h3:=hl'.1 z hz
       rw [e,Zdx] at h3;cases h3
     · exact h1
   · rcases List.mem_cons.1 ((h z).2 (List.mem_cons_of_mem _ hz)) with e|h1
     · have h3:=hm'.1 z hz
       rw [e,Zdx] at h3;cases h3
     · exact h1
def Zww (m:Mv):List Mv→List Mv
 |[]=>[m]
 |x::l=>if ZfL m x then m::x::l else if eqM m x then x::l else x::Zww m l
theorem ZjL {m y:Mv}:∀{l:List Mv},y∈Zww m l↔y=m∨y∈l
 |[]=>by simp [Zww]
 | x :: l =>by
   rw [Zww];split
   · simp
   · split
     · rename_i h
       rw [Zd6] at h;subst h
       simp
     · rw [List.mem_cons,ZjL,List.mem_cons]
       constructor
       · rintro (h|h|h)
         · exact .inr (.inl h)
         · exact .inl h
         · exact .inr (.inr h)
       · rintro (h|h|h)
         · exact .inr (.inl h)
         · exact .inl h
         · exact .inr (.inr h)
theorem ZoK {m:Mv}:∀{l:List Mv},AscM l→AscM (Zww m l)
 |[],_=>by simp [Zww,AscM]
 | x :: l,h=>by
   have h':=List.pairwise_cons.1 h
   rw [Zww];split
   · rename_i hm
     refine List.pairwise_cons.2 ⟨fun z hz=>?_,h⟩
     rcases List.mem_cons.1 hz with rfl|hz
     · exact hm
     · exact Zhs hm (h'.1 z hz)
   · rename_i hm
     split
     · exact h
     · rename_i he
       refine List.pairwise_cons.2 ⟨fun z hz=>?_,ZoK h'.2⟩
       rcases ZjL.1 hz with rfl|hz
       · cases hxz:ZfL x z with
         |true=>rfl
         |false=>exact absurd (Zd6.2 (ZjJ (by simpa using hm) hxz)) he
       · exact h'.1 z hz
def mkM:List Mv→List Mv
 |[]=>[]
 |x::l=>Zww x (mkM l)
theorem Zce {y:Mv}:∀{l:List Mv},y∈mkM l↔y∈l
 |[]=>by simp [mkM]
 |x::l=>by rw [mkM,ZjL,Zce,List.mem_cons]
theorem Zdy:∀l,AscM (mkM l)
 |[]=> .nil
 |x::l=>ZoK (Zdy l)
theorem Zsh {l m:List Mv} (hl:AscM l) (h:∀x,x∈l↔x∈m):l=mkM m:=ZjK hl (Zdy m) fun x=>by rw [h,Zce]
theorem ZxG {l m:List Mv} (hl:AscM l) (h:∀x∈l,x∈m):l.length≤m.length:=by
 induction l generalizing m with
 |nil=>exact Nat.zero_le _
 | cons x l ih=>
   have h':=List.pairwise_cons.1 hl
   obtain ⟨a,b,rfl⟩:=List.append_of_mem (h x (List.mem_cons_self ..))
   have :=ih (m:=a++b) h'.2 fun y hy=>by
    rcases List.mem_append.1 (h y (List.mem_cons_of_mem _ hy)) with h1|h1
    · exact List.mem_append_left _ h1
    · rcases List.mem_cons.1 h1 with rfl|h1
      · have:=h'.1 y hy
        rw [Zdx] at this;cases this
      · exact List.mem_append_right _ h1
   simp only [List.length_append,List.length_cons] at this ⊢
   omega
theorem ZmW (l:List Mv):(mkM l).length≤l.length:=ZxG (Zdy l) fun x h=>Zce.1 h
def Zsi (a:Aut):Except Int Aut:=if 2000<a.n∨20000<a.moves.length then .error 13 else ZcS a
def ZdG (a:Aut):Except Int Aut:=Zsi {a with moves:=mkM a.moves}
def ZdH (a:Aut):Aut:=⟨a.n+1,a.syms,[a.n],[a.n],a.moves++(a.start.map fun s=>⟨a.n,s,-1⟩)++a.fin.map fun s=>⟨s,a.n,-1⟩⟩
def ZeW (a:Aut):Except Int Aut:=if ζ5 a then ZdG (ZdH a) else .error 1
def stepA (A:Aut) (i s:Nat):Nat:=(((A.moves[i*A.syms.toNat+s]?).map Mv.dst).getD 0).toNat
def ZqQ (op:Int) (x y:Bool):Bool:=if op=1 then x&&y else if op=2 then x||y else if op=3 then x&& !y else x !=y
def Zbe (A B:Aut):Srch ((Nat×Nat)×(Int×Int)) (Nat×Nat):=⟨Prod.fst,2000,A.syms.toNat,fun i x s=>((stepA A x.1.1 s,stepA B x.1.2 s),((i:Nat),(s:Nat)))⟩
def prodQ (A B:Aut):Option (List ((Nat×Nat)×(Int×Int))×List (List Nat)):=(Zbe A B).all ((0,0),(-1,-1))
def ZbI (A B:Aut) (op:Int) (x:(Nat×Nat)×(Int×Int)):Bool:=ZqQ op (Zgh A (x.1.1:Nat)) (Zgh B (x.1.2:Nat))
def Zgn (A B:Aut) (op:Int) (q:List ((Nat×Nat)×(Int×Int))×List (List Nat)):Tab:=⟨A.syms.toNat,q.2,q.1.map (ZbI A B op)⟩
def ZfS (a b:Aut):Except Int (Aut×Aut×List ((Nat×Nat)×(Int×Int))×List (List Nat)):=match ZcS a,ZcS b with
 | .ok A, .ok B=>match prodQ A B with
   |some q=> .ok (A,B,q)
   |none=> .error 13
 |_,_=> .error 13
def Zdl (a b:Aut):Int:=if ζ5 a=false∨ζ5 b=false then 1 else if ¬a.syms=b.syms then 29 else 0
def Zht (par:List (Int×Int)):Nat→Nat→List Int
 |0,_=>[]
 | f+1,i=>match par[i]? with
   |some x=>if x.1<0 then [] else Zht par f x.1.toNat++[x.2]
   |none=>[]
def ZjM (A B:Aut) (op:Int) (q:List ((Nat×Nat)×(Int×Int))×List (List Nat)):Bool×List Int:=
 match (q.1.map (ZbI A B op)).idxOf? true with
 |some i=>(false,Zht (q.1.map (·.2)) (i+1) i)
 |none=>(true,[])
def cmpX (a b:Aut) (op:Int):Bool×List Int×Int:=if ¬Zdl a b=0 then (false,[],Zdl a b) else match ZfS a b with
 | .ok (A,B,q)=>((ZjM A B op q).1,(ZjM A B op q).2,0)
 | .error e=>(false,[],e)
theorem ZmX {t:Tab} {A:Aut} (h:Zbz t=some A):∃o rows,(minW t).all 0=some (o,rows)∧A=Zcy t (o,rows)∧(ζT rows).length≤20000:=by
 unfold Zbz at h
 obtain ⟨⟨o,rows⟩,h1,h2⟩:=Option.bind_eq_some_iff.1 h
 dsimp only at h2
 split at h2
 · cases h2
 · cases h2
   exact ⟨o,rows,h1,rfl,by omega⟩
structure Fin (t:Tab) (o:List Nat) (rows:List (List Nat)):Prop where
 ok:(minW t).Ok (· <t.rows.length) 0 o rows
 len:rows.length=o.length
 n1:o.length≤2000
 pos:0<o.length
theorem Zhu {t:Tab} (h:TOk t) {o:List Nat} {rows:List (List Nat)} (hu:(minW t).all 0=some (o,rows)):Fin t o rows:=by
 obtain ⟨h1,_,h3⟩:=Zsf h hu
 have hc:o.length≤t.rows.length:=h1.cap
 have:=h.n1
 exact ⟨h1,h3 hc,by omega,h1.pos⟩
theorem Zlb {i:Nat} {r:List Nat} {m:Mv} (h:m∈Zap i r):∃n s:Nat,r[s]? =some n∧m=⟨(i:Nat),(n:Nat),(s:Nat)⟩:=by
 unfold Zap at h
 obtain ⟨p,hp,rfl⟩:=List.mem_map.1 h
 exact ⟨p.1,p.2,by have:=List.mem_zipIdx_iff_getElem?.1 hp;exact this,rfl⟩
theorem ZfT {rows:List (List Nat)} {m:Mv} (h:m∈ζT rows):∃(i s n:Nat) (r:List Nat),rows[i]? =some r∧r[s]? =some n∧m=⟨(i:Nat),(n:Nat),(s:Nat)⟩:=by
 unfold ζT at h
 obtain ⟨p,hp,hm⟩:=List.mem_flatMap.1 h
 obtain ⟨n,s,h1,h2⟩:=Zlb hm
 exact ⟨p.2,s,n,p.1,List.mem_zipIdx_iff_getElem?.1 hp,h1,h2⟩
theorem Zgx {t:Tab} (ht:TOk t) {o:List Nat} {rows:List (List Nat)} (h:Fin t o rows) (hm:(ζT rows).length≤20000):AOk (Zcy t (o,rows)):=by
 have hp:=h.pos
 have hn:=h.n1
 have hm1:=ht.m1
 have hll:=Zho o.length (ZdF t o)
 refine ⟨by show (0:Int)≤(o.length:Nat);omega,by show ((o.length:Nat):Int)≤2000;omega,by show (0:Int)≤(t.m:Nat);omega,by show ((t.m:Nat):Int)≤40;omega,hm,fun s hs=>?_,fun s hs=>?_,by show [(0:Int)].length≤2000;simp,by show (ZaQ o.length (ZdF t o)).length≤2000;omega,fun m hmm=>?_⟩
 · rw [show s=0 from List.mem_singleton.1 hs]
   exact ⟨Int.le_refl _,by show (0:Int)<(o.length:Nat);omega⟩
 · obtain ⟨h1,h2,_⟩:=Zhp.1 hs
   exact ⟨h1,h2⟩
 · obtain ⟨i,s,n,r,h1,h2,rfl⟩:=ZfT hmm
   have h3:i<rows.length:=ζe h1
   have h4:=ζe h2
   have h5:r.length=t.m:=h.ok.len r (List.mem_of_getElem? h1)
   obtain ⟨x,hx⟩:=ζm (show i<o.length by rw [←h.len];exact h3)
   have h6:=(h.ok.to i x r s n hx h1 h2).1
   have h7:=h.len
   refine ⟨by show (0:Int)≤(i:Nat);omega,by show ((i:Nat):Int)<(o.length:Nat);omega,by show (0:Int)≤(n:Nat);omega,by show ((n:Nat):Int)<(o.length:Nat);omega,by show (-1:Int)≤(s:Nat);omega,by show ((s:Nat):Int)<(t.m:Nat);omega⟩
theorem ZmY {a A:Aut} (h:AOk a) (hr:ZcS a= .ok A):∃t o rows,Zgv a=some t∧TOk t∧(minW t).all 0=some (o,rows)∧Fin t o rows∧A=Zcy t (o,rows)∧(ζT rows).length≤20000:=by
 unfold ZcS at hr
 split at hr
 · rename_i t ht
   cases hl:Zbz t with
   |none=>rw [hl] at hr;cases hr
   | some B=>
     rw [hl] at hr;cases hr
     obtain ⟨o,rows,h1,h2,h3⟩:=ZmX hl
     have hT:=ZmT h ht
     exact ⟨t,o,rows,ht,hT,h1,Zhu hT h1,h2,h3⟩
 · cases hr
theorem ZxH {a A:Aut} (h:Zij a= .ok A):ζ5 a=true∧ZcS a= .ok A:=by
 unfold Zij at h
 split at h
 · rename_i h1;exact ⟨h1,h⟩
 · cases h
def Rel2 {α β:Type} (R:α→β→Prop) (o:List α) (o':List β):Prop:=o.length=o'.length∧∀(i:Nat) (x:α) (y:β),o[i]? =some x→o'[i]? =some y→R x y
theorem Rel2.snoc {α β:Type} {R:α→β→Prop} {o:List α} {o':List β} {x:α} {y:β} (h:Rel2 R o o') (hr:R x y):Rel2 R (o++[x]) (o'++[y]):=by
 refine ⟨by rw [List.length_append,List.length_append,h.1];rfl,fun i a b ha hb=>?_⟩
 rw [List.getElem?_append] at ha hb
 have hl:=h.1
 split at ha
 · rename_i h1
   rw [if_pos (by omega)] at hb
   exact h.2 i a b ha hb
 · rename_i h1
   rw [if_neg (by omega)] at hb
   have h2:=ζe ha
   simp only [List.length_singleton] at h2
   have h3:i=o.length:=by omega
   rw [h3,Nat.sub_self] at ha
   rw [show i-o'.length=0 by omega] at hb
   simp only [List.getElem?_cons_zero,Option.some.injEq] at ha hb
   rw [←ha,←hb];exact hr
section
variable {α β κ κ':Type} [DecidableEq κ] [DecidableEq κ']
theorem ZoL {f:α→κ} {g:β→κ'} {k:κ} {k':κ'}:∀{o:List α} {o':List β},o.length=o'.length→(∀(i:Nat) (x:α) (y:β),o[i]? =some x→o'[i]? =some y→(f x=k↔g y=k'))→posK f o k=posK g o' k'
 |[],[],_,_=>rfl
 |[],_::_,h,_=>by simp at h
 |_::_,[],h,_=>by simp at h
 | x::o,y::o',h,hk=>by
   have h0:=hk 0 x y rfl rfl
   have ih:=ZoL (f:=f) (g:=g) (k:=k) (k':=k') (o:=o) (o':=o') (by simpa using h) fun i a b ha hb=>hk (i+1) a b (by simpa using ha) (by simpa using hb)
   rw [posK,posK,ih]
   by_cases e:f x=k
   · rw [if_pos e,if_pos (h0.1 e)]
   · rw [if_neg e,if_neg fun e2=>e (h0.2 e2)]
variable {W:Srch α κ} {W':Srch β κ'} {R:α→β→Prop}
theorem Srch.sim_row (hc:W.cap≤W'.cap) (hk:∀x x' y y',R x y→R x' y'→(W.key x=W.key x'↔W'.key y=W'.key y')) (hs:∀i x y s,R x y→s<W.m→R (W.step i x s) (W'.step i y s)) {i:Nat} {x:α} {y:β} (hxy:R x y) {o:List α} {o':List β} (ho:Rel2 R o o'):
 ∀{s:Nat} {p:List α} {r:List Nat},s≤W.m→W.row i x o s=some (p,r)→∃p',W'.row i y o' s=some (p',r)∧Rel2 R p p'
 | 0,p,r,_,h=>by
   rw [Srch.row] at h;cases h
   exact ⟨o',rfl,ho⟩
 | s + 1,p,r,hsm,h=>by
   rw [Srch.row,Option.bind_eq_some_iff] at h
   obtain ⟨⟨p1,r1⟩,h1,h2⟩:=h
   obtain ⟨⟨p2,n⟩,h3,h4⟩:=Option.map_eq_some_iff.1 h2
   cases h4
   dsimp only at h3 ⊢
   obtain ⟨p1',h5,h6⟩:=Srch.sim_row hc hk hs hxy ho (by omega) h1
   have hst:=hs i x y s hxy (by omega)
   have hpos:posK W.key p1 (W.key (W.step i x s))=posK W'.key p1' (W'.key (W'.step i y s)):=ZoL h6.1 fun j a b ha hb=>hk a _ b _ (h6.2 j a b ha hb) hst
   by_cases hp:posK W.key p1 (W.key (W.step i x s))<p1.length
   · rw [Zbc hp] at h3;cases h3
     have hp':posK W'.key p1' (W'.key (W'.step i y s))<p1'.length:=by rw [←hpos,←h6.1];exact hp
     exact ⟨p1',by rw [Srch.row_snoc h5 (Zbc hp'),hpos],h6⟩
   · have hp':¬posK W'.key p1' (W'.key (W'.step i y s))<p1'.length:=by rw [←hpos,←h6.1];exact hp
     by_cases hcap:p1.length<W.cap
     · rw [Zbd hp hcap] at h3;cases h3
       exact ⟨p1'++[W'.step i y s],by rw [Srch.row_snoc h5 (Zbd hp' (by have:=h6.1;omega)),h6.1],h6.snoc hst⟩
     · rw [Zjt hp (by omega)] at h3;cases h3
theorem Srch.sim (hm:W.m=W'.m) (hc:W.cap≤W'.cap) (hk:∀x x' y y',R x y→R x' y'→(W.key x=W.key x'↔W'.key y=W'.key y')) (hs:∀i x y s,R x y→s<W.m→R (W.step i x s) (W'.step i y s)) {x0:α} {y0:β} (h0:R x0 y0):
 ∀{i:Nat} {o:List α} {rows:List (List Nat)},W.upto x0 i=some (o,rows)→∃o',W'.upto y0 i=some (o',rows)∧Rel2 R o o'
 | 0,o,rows,h=>by
   rw [Srch.upto] at h;cases h
   refine ⟨[y0],rfl,rfl,fun i x y hx hy=>?_⟩
   match i with
   |0=>simp at hx hy;subst hx hy;exact h0
   |i+1=>simp at hx
 | i +1,o,rows,h=>by
   rw [Srch.upto,Option.bind_eq_some_iff] at h
   obtain ⟨⟨o1,rows1⟩,h1,h2⟩:=h
   obtain ⟨o1',h3,h4⟩:=Srch.sim hm hc hk hs h0 h1
   dsimp only at h2
   cases hx:o1[i]? with
   | none=>
     rw [hx] at h2;cases h2
     have h5:=List.getElem?_eq_none_iff.1 hx
     exact ⟨o1',Srch.upto_stop h3 (by dsimp only;have:=h4.1;omega) 1,h4⟩
   | some x=>
     rw [hx] at h2
     obtain ⟨⟨o2,r⟩,h5,h6⟩:=Option.map_eq_some_iff.1 h2
     cases h6
     have hil:=ζe hx
     obtain ⟨y,hy⟩:=ζm (show i<o1'.length by have:=h4.1;omega)
     obtain ⟨p',h7,h8⟩:=Srch.sim_row hc hk hs (h4.2 i x y hx hy) h4 (Nat.le_refl _) h5
     rw [hm] at h7
     exact ⟨p',Srch.upto_snoc h3 hy h7,h8⟩
end
section
variable {κ κ':Type} [DecidableEq κ] [DecidableEq κ']
end
theorem ZzT {t:Tab} {o:List Nat} {rows:List (List Nat)} {i:Nat} (hi:i<o.length):Zgh (Zcy t (o,rows)) (i:Nat)=ZdF t o i:=by
 rw [Bool.eq_iff_iff]
 have:Zgh (Zcy t (o,rows)) (i:Nat)=true↔((i:Nat):Int)∈ZaQ o.length (ZdF t o):=by
  show ZAr (ZaQ o.length (ZdF t o)) (i:Nat)=true↔_
  exact ZjF
 rw [this,Zhp,Int.toNat_natCast]
 constructor
 · exact fun h=>h.2.2
 · exact fun h=>⟨by omega,by omega,h⟩
theorem ZeM {f g:Nat→Bool}:∀n:Nat,(∀i,i<n→f i=g i)→ZaQ n f=ZaQ n g
 |0,_=>rfl
 |n+1,h=>by rw [Zb7,Zb7,ZeM n fun i hi=>h i (by omega),h n (by omega)]
structure PreA (a:Aut):Prop where
 n0:0≤a.n
 s0:0≤a.syms
 s1:a.syms≤40
 st:InS a a.start
 fi:InS a a.fin
 sn:a.start.Nodup
 fn:a.fin.Nodup
 mv:∀m∈a.moves,0≤m.src∧m.src<a.n∧0≤m.dst∧m.dst<a.n∧-1≤m.sym∧m.sym<a.syms
def mkA (a:Aut):Aut:={a with moves:=mkM a.moves}
theorem PreA.aok {a:Aut} (h:PreA a) (hb:¬(2000<(mkA a).n∨20000<(mkA a).moves.length)):AOk (mkA a):=by
 have hn:¬2000<a.n:=fun h=>hb (.inl h)
 have hl:∀{l:List Int},l.Nodup→InS a l→l.length≤2000:=fun {l} h1 h2=>by
  have:=nodup_len a.n.toNat l h1 fun s hs=>by have:=h2 s hs;have:=h.n0;omega
  omega
 exact ⟨h.n0,by show a.n≤2000;omega,h.s0,h.s1,by have:=hb;omega,h.st,h.fi,hl h.sn h.st,hl h.fn h.fi,fun m hm=>h.mv m (Zce.1 hm)⟩
theorem ZoM {n:Int} {l:List Int} (h:Zjv n l=true):Srt l:=by
 unfold Zjv at h
 rw [Bool.and_eq_true] at h
 have:=h.2
 clear h
 induction l with
 |nil=>exact .nil
 | cons x l ih=>
   cases l with
   |nil=>exact List.pairwise_singleton ..
   | cons y l=>
     rw [ZaU,Bool.and_eq_true] at this
     have h1:=ih this.2
     have hxy:x<y:=by have:=this.1;unfold ltI at this;simpa using this
     refine List.pairwise_cons.2 ⟨fun z hz=>?_,h1⟩
     rcases List.mem_cons.1 hz with rfl|hz
     · exact hxy
     · exact Int.lt_trans hxy ((List.pairwise_cons.1 h1).1 z hz)
theorem Zlc:∀{l:List Mv},ZaU ZfL l=true→AscM l
 |[],_=> .nil
 |[x],_=>List.pairwise_singleton ..
 | x::y::l,h=>by
   rw [ZaU,Bool.and_eq_true] at h
   have h1:=Zlc h.2
   refine List.pairwise_cons.2 ⟨fun z hz=>?_,h1⟩
   rcases List.mem_cons.1 hz with rfl|hz
   · exact h.1
   · exact Zhs h.1 ((List.pairwise_cons.1 h1).1 z hz)
theorem Za2 {l:List Int} (h:Srt l):l.Nodup:=h.imp fun h=>by omega
structure VOk (a:Aut):Prop extends AOk a where
 ss:Srt a.start
 fs:Srt a.fin
 ms:AscM a.moves
theorem ZbA {a:Aut} (h:ζ5 a=true):VOk a:=by
 have h':=h
 unfold ζ5 at h'
 simp only [Bool.and_eq_true,decide_eq_true_eq] at h'
 obtain ⟨⟨⟨⟨⟨⟨⟨⟨_,_⟩,_⟩,_⟩,_⟩,h6⟩,h7⟩,_⟩,h9⟩:=h'
 exact ⟨Zd0 h,ZoM h6,ZoM h7,Zlc h9⟩
theorem ZfU {l:List Mv} (h:AscM l):l.Nodup:=h.imp fun {a b} h1 e=>by rw [e,Zdx] at h1;cases h1
theorem Zdd {α β:Type} {f:α→β} {l:List α} (h:l.Nodup) (hf:∀x∈l,∀y∈l,f x=f y→x=y):(l.map f).Nodup:=by
 induction l with
 |nil=>exact List.nodup_nil
 | cons x l ih=>
   rw [List.nodup_cons] at h
   rw [List.map_cons,List.nodup_cons]
   refine ⟨fun hm=>?_,ih h.2 fun y hy z hz=>hf y (List.mem_cons_of_mem _ hy) z (List.mem_cons_of_mem _ hz)⟩
   obtain ⟨y,hy,e⟩:=List.mem_map.1 hm
   have:=hf y (List.mem_cons_of_mem _ hy) x (List.mem_cons_self ..) e
   rw [this] at hy
   exact h.1 hy
theorem ZjN {a:Aut} (h:VOk a):PreA (ZdH a):=by
 have hn:=h.n0
 refine ⟨by show 0≤a.n+1;omega,h.s0,h.s1,fun s hs=>?_,fun s hs=>?_,by show [a.n].Nodup;simp,by show [a.n].Nodup;simp,fun m hm=>?_⟩
 · rw [show s=a.n from List.mem_singleton.1 hs]
   exact ⟨hn,by show a.n<a.n+1;omega⟩
 · rw [show s=a.n from List.mem_singleton.1 hs]
   exact ⟨hn,by show a.n<a.n+1;omega⟩
 · have hs:=h.s0
   show 0≤m.src∧m.src<a.n+1∧0≤m.dst∧m.dst<a.n+1∧-1≤m.sym∧m.sym<a.syms
   have hm':m∈a.moves++(a.start.map fun s=>(⟨a.n,s,-1⟩:Mv))++a.fin.map fun s=>(⟨s,a.n,-1⟩:Mv):=hm
   rcases List.mem_append.1 hm' with hm|hm
   · rcases List.mem_append.1 hm with hm|hm
     · have:=h.mv m hm;omega
     · obtain ⟨s,hs,rfl⟩:=List.mem_map.1 hm
       have:=h.st s hs
       dsimp only;omega
   · obtain ⟨s,hs,rfl⟩:=List.mem_map.1 hm
     have:=h.fi s hs
     dsimp only;omega
theorem Zqe {a:Aut} (h:VOk a):(ZdH a).moves.Nodup:=by
 show (a.moves++(a.start.map fun s=>(⟨a.n,s,-1⟩:Mv))++a.fin.map fun s=>(⟨s,a.n,-1⟩:Mv)).Nodup
 rw [List.nodup_append,List.nodup_append]
 refine ⟨⟨ZfU h.ms,Zdd (Za2 h.ss) fun x _ y _ e=>(Mv.mk.inj e).2.1,fun x hx y hy e=>?_⟩,Zdd (Za2 h.fs) fun x _ y _ e=>(Mv.mk.inj e).1,fun x hx y hy e=>?_⟩
 · obtain ⟨s,hs,rfl⟩:=List.mem_map.1 hy
   have:=h.mv x hx
   rw [e] at this
   dsimp only at this;omega
 · obtain ⟨s,hs,rfl⟩:=List.mem_map.1 hy
   have h1:=h.fi s hs
   rcases List.mem_append.1 hx with hx|hx
   · have:=h.mv x hx
     rw [e] at this
     dsimp only at this;omega
   · obtain ⟨s',hs',e'⟩:=List.mem_map.1 hx
     rw [e] at e'
     have:=(Mv.mk.inj e').1
     omega
theorem ZoN {i:Nat} {r:List Nat} {s n:Nat} (h:r[s]? =some n):(Zap i r)[s]? =some ⟨(i:Nat),(n:Nat),(s:Nat)⟩:=by
 unfold Zap
 rw [List.getElem?_map,List.getElem?_zipIdx,h]
 show some (⟨(i:Nat),(n:Nat),((0+s:Nat):Int)⟩:Mv)=_
 rw [Nat.zero_add]
def Zgi (k:Nat) (rows:List (List Nat)):List Mv:=(rows.zipIdx k).flatMap fun p=>Zap p.2 p.1
theorem Zcz (k:Nat) (r:List Nat) (rows:List (List Nat)):Zgi k (r::rows)=Zap k r++Zgi (k+1) rows:=by
 unfold Zgi;rw [List.zipIdx_cons,List.flatMap_cons]
theorem Zhv {m:Nat}:∀{rows:List (List Nat)} {k i s n:Nat} {r:List Nat},(∀r∈rows,r.length=m)→rows[i]? =some r→r[s]? =some n→(Zgi k rows)[i*m+s]? =some ⟨((k+i:Nat):Int),(n:Nat),(s:Nat)⟩
 |[],_,_,_,_,_,_,h,_=>by simp at h
 | x::rows,k,0,s,n,r,hl,hr,hs=>by
   simp only [List.getElem?_cons_zero,Option.some.injEq] at hr
   subst hr
   rw [Zcz,Nat.zero_mul,Nat.zero_add,List.getElem?_append_left (by rw [Zdc];exact ζe hs),ZoN hs];rfl
 | x::rows,k,i+1,s,n,r,hl,hr,hs=>by
   simp only [List.getElem?_cons_succ] at hr
   have hx:=hl x (List.mem_cons_self ..)
   rw [Zcz,List.getElem?_append_right (by rw [Zdc,hx,Nat.succ_mul];omega),Zdc,hx,show (i+1)*m+s-m=i*m+s by rw [Nat.succ_mul];omega,Zhv (fun r hr=>hl r (List.mem_cons_of_mem _ hr)) hr hs]
   rw [show k+1+i=k+(i+1) by omega]
theorem Zfk {i:Nat} {r:List Nat}:∀m∈Zap i r,m.src=(i:Nat):=fun m hm=>by
 obtain ⟨n,s,_,rfl⟩:=Zlb hm
 rfl
theorem ZiK {k:Nat} {rows:List (List Nat)}:∀m∈Zgi k rows,(k:Int)≤m.src:=fun m hm=>by
 unfold Zgi at hm
 obtain ⟨p,hp,hm⟩:=List.mem_flatMap.1 hm
 rw [Zfk m hm]
 have:=List.mem_zipIdx hp
 omega
theorem Zhw:∀{rows:List (List Nat)} {k i:Nat} {r:List Nat},rows[i]? =some r→(Zgi k rows).filter (fun m=>decide (m.src=((k+i:Nat):Int)))=Zap (k+i) r
 |[],_,_,_,h=>by simp at h
 | x ::rows,k,0,r,h=>by
   simp only [List.getElem?_cons_zero,Option.some.injEq] at h
   subst h
   rw [Nat.add_zero,Zcz,List.filter_append,List.filter_eq_self.2 fun m hm=>decide_eq_true (Zfk m hm),List.filter_eq_nil_iff.2 fun m hm=>by
    have:=ZiK m hm
    simp only [decide_eq_true_eq];omega,List.append_nil]
 | x ::rows,k,i+1,r,h=>by
   simp only [List.getElem?_cons_succ] at h
   rw [Zcz,List.filter_append,List.filter_eq_nil_iff.2 fun m hm=>by
    have:=Zfk m hm
    simp only [decide_eq_true_eq];omega,List.nil_append,show k+(i+1)=k+1+i by omega]
   exact Zhw h
structure DetA (A:Aut):Prop where
 ok:AOk A
 pos:0<A.n.toNat
 mo:∀i s,i<A.n.toNat→s<A.syms.toNat→∃x:Mv,(movesOf A i)[s]? =some x∧A.moves[i*A.syms.toNat+s]? =some x∧x.dst=(stepA A i s:Nat)
 ml:∀i,i<A.n.toNat→(movesOf A i).length=A.syms.toNat
 sl:∀i s,i<A.n.toNat→s<A.syms.toNat→stepA A i s<A.n.toNat
theorem ZjO {A:Aut} {i s:Nat} {x:Mv} (h:A.moves[i*A.syms.toNat+s]? =some x):stepA A i s=x.dst.toNat:=by
 unfold stepA;rw [h];rfl
theorem ZzU {t:Tab} (ht:TOk t) {o:List Nat} {rows:List (List Nat)} (h:Fin t o rows) (hm:(ζT rows).length≤20000):DetA (Zcy t (o,rows)):=by
 have hok:=Zgx ht h hm
 have hn:(Zcy t (o,rows)).n.toNat=o.length:=Int.toNat_natCast _
 have hs:(Zcy t (o,rows)).syms.toNat=t.m:=Int.toNat_natCast _
 have key:∀i s,i<o.length→s<t.m→∃(r:List Nat) (n:Nat),rows[i]? =some r∧r[s]? =some n∧n<o.length∧(Zcy t (o,rows)).moves[i*t.m+s]? =some ⟨(i:Nat),(n:Nat),(s:Nat)⟩∧movesOf (Zcy t (o,rows)) i=Zap i r:=fun i s hi hs=>by
  obtain ⟨r,hr⟩:=ζm (show i<rows.length by rw [h.len];exact hi)
  have hrl:r.length=t.m:=h.ok.len r (List.mem_of_getElem? hr)
  obtain ⟨n,hn⟩:=ζm (show s<r.length by omega)
  obtain ⟨x,hx⟩:=ζm hi
  refine ⟨r,n,hr,hn,(h.ok.to i x r s n hx hr hn).1,?_,?_⟩
  · have:=Zhv (k:=0) h.ok.len hr hn
    rw [Nat.zero_add] at this
    exact this
  · have:=Zhw (k:=0) hr
    rw [Nat.zero_add] at this
    exact this
 refine ⟨hok,by rw [hn];exact h.pos,fun i s hi hs'=>?_,fun i hi=>?_,fun i s hi hs'=>?_⟩
 · rw [hn] at hi
   rw [hs] at hs' ⊢
   obtain ⟨r,n,h1,h2,h3,h4,h5⟩:=key i s hi hs'
   refine ⟨_,by rw [h5];exact ZoN h2,h4,?_⟩
   rw [ZjO (by rw [hs];exact h4)]
   show ((n:Nat):Int)=(((n:Nat):Int).toNat:Nat)
   rw [Int.toNat_natCast]
 · rw [hn] at hi
   obtain ⟨r,hr⟩:=ζm (show i<rows.length by rw [h.len];exact hi)
   have:=Zhw (k:=0) hr
   rw [Nat.zero_add] at this
   show ((ζT rows).filter fun m=>decide (m.src=(i:Int))).length=_
   rw [show ((ζT rows).filter fun m=>decide (m.src=(i:Int)))=Zap i r from this,Zdc,hs]
   exact h.ok.len r (List.mem_of_getElem? hr)
 · rw [hn] at hi ⊢
   rw [hs] at hs'
   obtain ⟨r,n,h1,h2,h3,h4,h5⟩:=key i s hi hs'
   rw [ZjO (by rw [hs];exact h4)]
   show ((n:Nat):Int).toNat<_
   rw [Int.toNat_natCast];exact h3
theorem Zfl {a A:Aut} (h:AOk a) (hr:ZcS a= .ok A):DetA A∧A.syms=a.syms:=by
 obtain ⟨t,o,rows,hs,hT,_,hF,rfl,hm⟩:=ZmY h hr
 refine ⟨ZzU hT hF hm,?_⟩
 unfold Zgv at hs
 obtain ⟨q,_,rfl⟩:=Option.map_eq_some_iff.1 hs
 show ((a.syms.toNat:Nat):Int)=a.syms
 have:=h.s0
 omega
def ZoO (A B:Aut) (x:(Nat×Nat)×(Int×Int)):Prop:=x.1.1<A.n.toNat∧x.1.2<B.n.toNat
theorem Zhx {A B:Aut} (hA:DetA A) (hB:DetA B) (hs:A.syms=B.syms) {i:Nat} {o:List ((Nat×Nat)×(Int×Int))} {rows:List (List Nat)} (hu:(Zbe A B).upto ((0,0),(-1,-1)) i=some (o,rows)):(Zbe A B).Ok (ZoO A B) ((0,0),(-1,-1)) o rows∧(i≤o.length→rows.length=i)∧(o.length≤i→rows.length=o.length):=
 Srch.ok (W:=Zbe A B) (P:=ZoO A B) (show 1≤2000 by decide) ⟨hA.pos,hB.pos⟩ (fun i x s hx hsm=>⟨hA.sl _ _ hx.1 hsm,hB.sl _ _ hx.2 (by have:s<A.syms.toNat:=hsm;rw [←hs];exact this)⟩) hu
def Zsj (t:Tab) (x:Nat) (w:List Nat):Nat:=w.foldl (toT t) x
def Zsk (t:Tab) (x:Nat) (w:List Nat):Bool:=(t.fin[Zsj t x w]?).getD false
def ZbU (m:Nat) (w:List Nat):Prop:=∀c∈w,c<m
def SameL (t:Tab) (x:Nat) (t':Tab) (x':Nat):Prop:=∀w,ZbU t.m w→Zsk t x w=Zsk t' x' w
theorem Zde (t:Tab) (x c:Nat) (w:List Nat):Zsk t x (c::w)=Zsk t (toT t x c) w:=rfl
theorem SameL.step {t t':Tab} {x x' s:Nat} (h:SameL t x t' x') (hs:s<t.m):SameL t (toT t x s) t' (toT t' x' s):=fun w hw=>by
 have:=h (s::w) fun c hc=>by
  rcases List.mem_cons.1 hc with rfl|hc
  · exact hs
  · exact hw c hc
 rw [Zde,Zde] at this;exact this
theorem SameL.symm {t t':Tab} {x x':Nat} (hm:t.m=t'.m) (h:SameL t x t' x'):SameL t' x' t x:=fun w hw=>(h w (by rw [hm];exact hw)).symm
theorem SameL.trans {t t' t'':Tab} {x x' x'':Nat} (hm:t.m=t'.m) (h:SameL t x t' x') (h':SameL t' x' t'' x''):SameL t x t'' x'':=fun w hw=>(h w hw).trans (h' w (by rw [←hm];exact hw))
section
variable {t:Tab}
theorem Zsl (h:TOk t) {c:Nat→Nat} {x:Nat} (hx:x<t.rows.length):((t.rows[x]?).getD []).map c=(List.range t.m).map fun s=>c (toT t x s):=by
 obtain ⟨r,hr⟩:=ζm hx
 have hl:=h.rl r (List.mem_of_getElem? hr)
 rw [hr]
 refine List.ext_getElem? fun s=>?_
 show (r.map c)[s]? =_
 rw [List.getElem?_map,List.getElem?_map]
 by_cases hs:s<t.m
 · obtain ⟨n,hn⟩:=ζm (show s<r.length by omega)
   rw [hn,List.getElem?_range hs]
   show some (c n)=some (c (toT t x s))
   rw [ZiI hr hn]
 · rw [List.getElem?_eq_none (by omega),List.getElem?_eq_none (by rw [List.length_range];omega)];rfl
theorem Zld {m:Nat} {f g:Nat→Nat}:(List.range m).map f=(List.range m).map g↔∀s,s<m→f s=g s:=by
 constructor
 · intro h s hs
   have h2:((List.range m).map f)[s]? =((List.range m).map g)[s]? :=by rw [h]
   rw [List.getElem?_map,List.getElem?_map,List.getElem?_range hs] at h2
   simpa using h2
 · intro h
   exact List.map_congr_left fun s hs=>h s (List.mem_range.1 hs)
theorem ZmZ (h:TOk t) {c:Nat→Nat} {x y:Nat} (hx:x<t.rows.length) (hy:y<t.rows.length):ZbH t.rows c x=ZbH t.rows c y↔c x=c y∧∀s,s<t.m→c (toT t x s)=c (toT t y s):=by
 unfold ZbH
 rw [Zsl h hx,Zsl h hy,List.cons.injEq,Zld]
theorem Zgy {c:Nat→Nat} {x y:Nat} (hx:x<t.rows.length) (hy:y<t.rows.length):Zd4 t.rows c x=Zd4 t.rows c y↔ZbH t.rows c x=ZbH t.rows c y:=by
 constructor
 · intro h
   obtain ⟨z,h1,h2⟩:=Zha (Zgw (k:=ZbH t.rows c) hx).2
   obtain ⟨z',h3,h4⟩:=Zha (Zgw (k:=ZbH t.rows c) hy).2
   have h5:posK id (ZbW (ZbH t.rows c) t.rows.length) (ZbH t.rows c x)=posK id (ZbW (ZbH t.rows c) t.rows.length) (ZbH t.rows c y):=h
   rw [h5,h3] at h1
   cases h1
   exact h2.symm.trans h4
 · intro h
   unfold Zd4;rw [h]
structure CL (t:Tab) (c:Nat→Nat):Prop where
 co:∀x y,x<t.rows.length→y<t.rows.length→SameL t x t y→c x=c y
 fi:∀x y,x<t.rows.length→y<t.rows.length→c x=c y→t.fin[x]? =t.fin[y]?
theorem CL.next (h:TOk t) {c:Nat→Nat} (hc:CL t c):CL t (Zd4 t.rows c):=
 ⟨fun x y hx hy hl=>(Zgy hx hy).2 ((ZmZ h hx hy).2 ⟨hc.co x y hx hy hl,fun s hs=>hc.co _ _ (Zb8 h) (Zb8 h) (hl.step hs)⟩),
  fun x y hx hy he=>hc.fi x y hx hy ((ZmZ h hx hy).1 ((Zgy hx hy).1 he)).1⟩
structure CS (t:Tab) (c:Nat→Nat):Prop extends CL t c where
 st:∀x y s,x<t.rows.length→y<t.rows.length→s<t.m→c x=c y→c (toT t x s)=c (toT t y s)
theorem CS.lang (h:TOk t) {c:Nat→Nat} (hc:CS t c) {x y:Nat} (hx:x<t.rows.length) (hy:y<t.rows.length) (he:c x=c y):SameL t x t y:=fun w=>by
 induction w generalizing x y with
 | nil=>
   intro _
   have:=hc.fi x y hx hy he
   show (t.fin[x]?).getD false=(t.fin[y]?).getD false
   rw [this]
 | cons s w ih=>
   intro hw
   rw [Zde,Zde]
   exact ih (Zb8 h) (Zb8 h) (hc.st x y s hx hy (hw s (List.mem_cons_self ..)) he) fun c hc=>hw c (List.mem_cons_of_mem _ hc)
theorem Zqf:∀{k:Nat} {L:List Nat},(∀v,v<k→v∈L)→L.length=k→L.Nodup:=fun {k}=>by
 induction k with
 |zero=>intro L _ hl;rw [List.eq_nil_of_length_eq_zero hl];exact List.nodup_nil
 | succ k ih=>
   intro L hL hl
   have hm:=hL k (by omega)
   obtain ⟨A,B,rfl⟩:=List.append_of_mem hm
   have h1:(A++B).Nodup:=ih (fun v hv=>by
    have:=hL v (by omega)
    rcases List.mem_append.1 this with h|h
    · exact List.mem_append_left _ h
    · rcases List.mem_cons.1 h with h|h
      · omega
      · exact List.mem_append_right _ h) (by simp only [List.length_append,List.length_cons] at hl ⊢;omega)
   have h2:k∉A++B:=fun h3=>by
    have h4:∀v,v<k+1→v∈A++B:=fun v hv=>by
     by_cases e:v=k
     · rw [e];exact h3
     · have:=hL v hv
       rcases List.mem_append.1 this with h|h
       · exact List.mem_append_left _ h
       · rcases List.mem_cons.1 h with h|h
         · exact absurd h e
         · exact List.mem_append_right _ h
    have h5:=ZiH (n:=k+1) (L:=List.range (k+1)) List.nodup_range fun s hs=>List.mem_range.1 hs
    have key:∀(M:List Nat) (n:Nat),M.Nodup→(∀v,v<n→v∈M)→n≤M.length:=fun M n _ hv=>by
     induction n generalizing M with
     |zero=>exact Nat.zero_le _
     | succ n ih2=>
       have h6:=ih2 (M.erase n) ((by assumption:M.Nodup).erase _) fun v hv'=>(List.mem_erase_of_ne (by omega)).2 (hv v (by omega))
       rw [List.length_erase_of_mem (hv n (by omega))] at h6
       have:=List.length_pos_of_mem (hv n (by omega))
       omega
    have:=key _ _ h1 h4
    simp only [List.length_append,List.length_cons] at hl this
    omega
   have hp:(A++k::B).Perm (k::(A++B)):=List.perm_middle
   rw [hp.nodup_iff,List.nodup_cons]
   exact ⟨h2,h1⟩
theorem Zle {α β:Type} {f:α→β}:∀{l:List α},(l.map f).Nodup→∀x∈l,∀y∈l,f x=f y→x=y
 |[],_,x,hx,_,_,_=>by cases hx
 | z ::l,h,x,hx,y,hy,e=>by
   rw [List.map_cons,List.nodup_cons] at h
   rcases List.mem_cons.1 hx with h1|h1
   · rcases List.mem_cons.1 hy with h2|h2
     · rw [h1,h2]
     · exact absurd (List.mem_map.2 ⟨y,h2,by rw [←e,h1]⟩) h.1
   · rcases List.mem_cons.1 hy with h2|h2
     · exact absurd (List.mem_map.2 ⟨x,h1,by rw [e,h2]⟩) h.1
     · exact Zle h.2 x h1 y h2 e
theorem Zsm {c:Nat→Nat} {k:Nat} (hk:COk t.rows.length c k) (he:Zqc t.rows c=k) {x y:Nat} (hx:x<t.rows.length) (hy:y<t.rows.length) (hxy:c x=c y):ZbH t.rows c x=ZbH t.rows c y:=by
 have h1:∀v,v<k→v∈(ZbW (ZbH t.rows c) t.rows.length).map fun l=>l.headD 0:=fun v hv=>by
  obtain ⟨s,hs,rfl⟩:=hk.hit v hv
  exact List.mem_map.2 ⟨ZbH t.rows c s,ZcK.2 ⟨s,hs,rfl⟩,rfl⟩
 have h2:=Zqf h1 (by rw [List.length_map];exact he)
 exact Zle h2 _ (ZcK.2 ⟨x,hx,rfl⟩) _ (ZcK.2 ⟨y,hy,rfl⟩) hxy
theorem ZoP (h:TOk t):∀{f:Nat} {c:Nat→Nat} {k:Nat},COk t.rows.length c k→CL t c→t.rows.length<f+k→CS t (Zii t.rows f c k)
 |0,c,k,hk,_,hf=>by have:=hk.le;omega
 | f +1,c,k,hk,hc,hf=>by
   rw [Zii]
   split
   · rename_i he
     refine ⟨hc.next h,fun x y s hx hy hs hxy=>?_⟩
     have h1:=((ZmZ h hx hy).1 ((Zgy hx hy).1 hxy)).2 s hs
     exact (Zgy (Zb8 h) (Zb8 h)).2 (Zsm hk he (Zb8 h) (Zb8 h) h1)
   · rename_i he
     have:=hk.grow
     exact ZoP h hk.next (hc.next h) (by omega)
theorem ZxI (h:TOk t):CL t (ZoE t.fin):=by
 refine ⟨fun x y hx hy hl=>?_,fun x y hx hy he=>?_⟩
 · have:=hl [] fun c hc=>by cases hc
   have h1:(t.fin[x]?).getD false=(t.fin[y]?).getD false:=this
   unfold ZoE;rw [h1]
 · have hf:=h.fl
   obtain ⟨b,hb⟩:=ζm (show x<t.fin.length by omega)
   obtain ⟨b',hb'⟩:=ζm (show y<t.fin.length by omega)
   unfold ZoE at he
   rw [hb,hb'] at he ⊢
   cases b<;>cases b'<;>simp_all
theorem Zsn (h:TOk t):CS t (ZcV t):=by
 unfold ZcV
 exact ZoP h (COk.start t.fin _) (ZxI h) (by omega)
theorem Zm0 (h:TOk t) {x y:Nat} (hx:x<t.rows.length) (hy:y<t.rows.length):ZcV t x=ZcV t y↔SameL t x t y:=
 ⟨fun e=>(Zsn h).lang h hx hy e,fun e=>(Zsn h).co x y hx hy e⟩
end
section
variable {t t':Tab}
theorem Zlf (h:TOk t) (h':TOk t') (hm:t.m=t'.m) (hL:SameL t 0 t' 0) (hle:t.rows.length≤t'.rows.length):Zbz t=Zbz t':=by
 obtain ⟨⟨o,rows⟩,h1⟩:=ZxE h
 have hF:=Zhu h h1
 have h2:(minW t).upto 0 t'.rows.length=some (o,rows):=by
  have hc:o.length≤t.rows.length:=hF.ok.cap
  have h3:=Srch.upto_stop h1 hc (t'.rows.length-t.rows.length)
  have e:(minW t).cap+(t'.rows.length-t.rows.length)=t'.rows.length:=by show t.rows.length+_=_;omega
  rw [e] at h3;exact h3
 obtain ⟨o',h3,h4⟩:=Srch.sim (W:=minW t) (W':=minW t') (R:=fun x y=>x<t.rows.length∧y<t'.rows.length∧SameL t x t' y) hm hle
  (fun x x' y y' hx hx'=>by
    show ZcV t x=ZcV t x'↔ZcV t' y=ZcV t' y'
    rw [Zm0 h hx.1 hx'.1,Zm0 h' hx.2.1 hx'.2.1]
    constructor
    · exact fun e=>((hx.2.2.symm hm).trans hm.symm e).trans hm.symm hx'.2.2
    · exact fun e=>(hx.2.2.trans hm e).trans hm (hx'.2.2.symm hm))
  (fun i x y s hx hs=>⟨Zb8 h,Zb8 h',hx.2.2.step hs⟩) ⟨h.pos,h'.pos,hL⟩ h2
 have h5:(minW t').all 0=some (o',rows):=h3
 unfold Zbz
 rw [h1,h5]
 show (if 20000<(ζT rows).length then none else some (Zcy t (o,rows)))=(if 20000<(ζT rows).length then none else some (Zcy t' (o',rows)))
 have e:Zcy t (o,rows)=Zcy t' (o',rows):=by
  unfold Zcy
  dsimp only
  rw [h4.1,hm]
  congr 1
  refine ZeM _ fun i hi=>?_
  obtain ⟨x,hx⟩:=ζm (show i<o.length by rw [h4.1];exact hi)
  obtain ⟨y,hy⟩:=ζm hi
  have h6:=(h4.2 i x y hx hy).2.2 [] fun c hc=>by cases hc
  unfold ZdF
  rw [hx,hy]
  exact h6
 rw [e]
theorem Zqg (h:TOk t) (h':TOk t') (hm:t.m=t'.m) (hL:SameL t 0 t' 0):Zbz t=Zbz t':=by
 rcases Nat.le_total t.rows.length t'.rows.length with h1|h1
 · exact Zlf h h' hm hL h1
 · exact (Zlf h' h hm.symm (hL.symm hm) h1).symm
end
def ZqR (a:Aut) (w:List Int):List Int:=w.foldl (fun S c=>ZaB a c S) (Za1 a a.start)
theorem Zso {a:Aut} {w:List Int} {k:Nat} {c:Int} (h:w[k]? =some c):ZqR a (w.take (k+1))=ZaB a c (ZqR a (w.take k)):=by unfold ZqR;rw [ζH h,List.foldl_append];rfl
theorem ZxJ {a:Aut} (h:AOk a):∀w:List Int,InS a (ZqR a w)∧(ZqR a w).length≤2000:=fun w=>by
 have key:∀(w:List Int) (S:List Int),InS a S∧S.length≤2000→InS a (w.foldl (fun S c=>ZaB a c S) S)∧(w.foldl (fun S c=>ZaB a c S) S).length≤2000:=fun w=>by
  induction w with
  |nil=>intro S hS;exact hS
  | cons c w ih=>
    intro S hS
    have h1:=ZdS h.mi (Zbr h.mi c S)
    have h2:=h.n1
    exact ih _ ⟨ZdW h.mi c S,by show (Za1 a (Zb6 a c S)).length≤2000;omega⟩
 have h1:=ZdS h.mi h.st
 have h2:=h.n1
 exact key w _ ⟨Zen h.mi h.st,by omega⟩
def ZtW (a:Aut) (w:List Int):Bool×Int:=if ζ5 a=false then (false,1) else if 200<w.length then (false,5) else if (w.any fun s=>decide (s<0)||decide (a.syms≤s))=true then (false,2) else (ZdV a (ZqR a w),0)
theorem Zlg (a:Aut) (s:Int):AF Tryz.prog 109 [pInt s, .sptr 0 [pInt a.n,pInt a.syms,pInts a.start,pInts a.fin,pMvs a.moves]] (· =ζO (decide (s<0)||decide (a.syms≤s))):=by
 refine AF.of_body 12 Tryz.func109 rfl Tryz.ntmps109 (Nat.le_of_ble_eq_true rfl) ?_
 intro w0 M0 vs hl hv
 obtain ⟨v0,v1,rfl⟩:=Zb3 hl
 obtain rfl:=hv 0 _ _ rfl rfl
 clear hl hv
 refine nav ?_
 (refine ζa ?_<;>refine xL 3 ζc ?_<;>refine ζb (nav ?_)<;>try dsimp only)
 (refine ζa ?_<;>refine xL 4 ζd ?_<;>refine xL 5 ζS ?_<;>refine xL 6 ζd ?_<;>(refine bLd 6 (fun hb6=>?_) (fun hb6=>?_)<;>(first|refine kL 7 ?_|refine xL 7 ζd ?_))<;>(first|refine kL 8 ?_|refine xL 8 (ZgS ζ2) ?_)<;>(first|refine kL 9 ?_|(refine yL 9 (Za3 ζj) fun v9 h=>?_;cases h))<;>(first|refine kL 10 ?_|refine xL 10 Zcc ?_)<;>refine xL 11 ζF ?_<;>refine xL 3 ζc ?_<;>refine ζb (nav ?_)<;>try dsimp only)<;>(
  refine ζt (Tryz.results109) rfl ?_
  show ζO _=ζO _
  first
   |(rw [decide_eq_true (show s<0 by assumption)];rfl)
   |(rw [decide_eq_false (show ¬s<0 by assumption)];rfl))
set_option maxHeartbeats 2000000 in
theorem Zm1 (a :Aut) (w:List Int):AF Tryz.prog 68 [ζW a,pInts w] (· = .tup [ζO (ZtW a w).1,pInt (ZtW a w).2]):=by
 refine AF.of_body 42 Tryz.func68 rfl Tryz.ntmps68 (Nat.le_of_ble_eq_true rfl) ?_
 intro w0 M0 vs hl hv
 obtain ⟨v0,v1,rfl⟩:=Zb3 hl
 clear hl hv
 refine nav ?_
 (refine ζa ?_<;>refine ζE 2 5 fun h2=>?_<;>refine xL 4 ζc ?_<;>refine xL 5 ζc ?_<;>refine ζb (nav ?_)<;>try dsimp only)
 (refine ζa ?_<;>(refine yL 11 (ζp 2 ζg) fun v11 h=>?_;cases h)<;>(refine cS 12 (cA Tryz.call107 (ZaI a)) fun v12 h=>?_;cases h)<;>refine xL 13 Zak ?_<;>refine xL 10 ζc ?_<;>refine ζb (nav ?_)<;>try dsimp only)
 (first|refine cCd ?_ ?_|refine cC ?_ ?_)<;>intro hb10
 · first
   |exact Bool.noConfusion hb10
   | (
    have hok:ζ5 a=false:=by simpa using hb10
    refine nav ?_
    (refine ζa ?_<;>refine xL 4 ζc ?_<;>refine xL 5 ζc ?_<;>refine ζb (nav ?_)<;>try dsimp only)
    refine Za8 (Tryz.results68) rfl rfl ?_
    unfold ZtW
    rw [if_pos hok])
 · first
   |exact Bool.noConfusion hb10
   | (
    have hok:ζ5 a=true:=by simpa using hb10
    have hA:=Zd0 hok
    have hn1:=hA.n1
    refine nav ?_
    (refine ζa ?_<;>refine xL 15 ζd ?_<;>refine xL 16 (ζV ζn) ?_<;>refine xL 17 ZaH ?_<;>refine xL 14 ζc ?_<;>refine ζb (nav ?_)<;>try dsimp only)
    (first|refine cCd ?_ ?_|refine cC ?_ ?_)<;>intro hb14
    · first
      |exact Bool.noConfusion hb14
      | (
       refine nav ?_
       (refine ζa ?_<;>refine xL 4 ζc ?_<;>refine xL 5 ζc ?_<;>refine ζb (nav ?_)<;>try dsimp only)
       refine Za8 (Tryz.results68) rfl rfl ?_
       unfold ZtW
       rw [if_neg (by rw [hok];decide),if_pos (by omega)])
    · first
      |exact Bool.noConfusion hb14
      | (
       refine nav ?_
       refine ζv (ZfF (l:=2) (t:=2) (j:=0) rfl Nat.one_pos rfl) fun _=>?_
       (refine ζa ?_<;>refine xL 19 ζd ?_<;>refine xL 20 ZkC ?_<;>(refine cS 21 (cA Tryz.call108 (Zc2 109 [.sptr 0 [pInt a.n,pInt a.syms,pInts a.start,pInts a.fin,pMvs a.moves]] (fun s=>decide (s<0)||decide (a.syms≤s)) w (Tryz.call109) (fun s _=>Zlg a s))) fun v21 h=>?_;cases h)<;>refine xL 18 ζc ?_<;>refine ζb (nav ?_)<;>try dsimp only)
       (first|refine cCd ?_ ?_|refine cC ?_ ?_)<;>intro hb18
       · first
         |exact Bool.noConfusion hb18
         | (
          refine nav ?_
          (refine ζa ?_<;>refine xL 4 ζc ?_<;>refine xL 5 ζc ?_<;>refine ζb (nav ?_)<;>try dsimp only)
          refine Za8 (Tryz.results68) rfl rfl ?_
          unfold ZtW
          rw [if_neg (by rw [hok];decide),if_neg (by omega),if_pos hb18])
       · first
         |exact Bool.noConfusion hb18
         | (
          have hax:ZtW a w=(ZdV a (ZqR a w),0):=by
           unfold ZtW
           rw [if_neg (by rw [hok];decide),if_neg (by omega),if_neg (by rw [hb18];decide)]
          refine nav ?_
          (refine ζa ?_<;>(refine yL 22 (Zbm ζg) fun v22 h=>?_;cases h)<;>(refine cS 23 (cA Tryz.call110 (Zda a hA)) fun v23 h=>?_;cases h)<;>refine xL 6 ζc ?_<;>refine ζb (nav ?_)<;>try dsimp only)
          (refine ζa ?_<;>refine xL 24 ζd ?_<;>refine xL 25 (ZgS Zab) ?_<;>(refine yL 26 (Za3 ζx) fun v26 h=>?_;cases h)<;>(refine cO 27 (cA Tryz.call111 (Zel a a.start hn1 hA.mi hA.st)) fun v27 ho27=>?_;refine ζq (En.freeze (l:=27) (t:=27) rfl rfl) fun _=>?_;rw [ζL _ _ _ rfl])<;>refine xL 7 ζc ?_<;>refine ζb (nav ?_)<;>try dsimp only)
          (refine ζa ?_<;>refine xL 28 ζd ?_<;>refine xL 29 (ζV ζn) ?_<;>refine xL 30 ζd ?_<;>refine ζb (nav ?_)<;>try dsimp only)
          refine ζy (ι:={q:Nat×Value//q.1≤w.length}) (fun k=>⟨[(6,_,_),(28,_,_),(29,_,_),(7,k.1.2,pInts (ZqR a (w.take k.1.1))),(30, .int .i64 k.1.1,pInt k.1.1)],[]⟩) (fun k=>w.length-k.1.1) ⟨(0,v27),Nat.zero_le _⟩ (fun a w H=>H.weaken ⟨rfl,rfl,rfl,rfl,rfl,trivial⟩ trivial) ?_
          rintro ⟨⟨k,v⟩,hk⟩
          dsimp only
          dsimp only at hk
          have hrun:=ZxJ hA (w.take k)
          refine nav ?_
          (refine ζa ?_<;>refine xL 31 ζS ?_<;>refine ζb (nav ?_)<;>try dsimp only)
          (first|refine cCd ?_ ?_|refine cC ?_ ?_)<;>intro hb31
          · first
            |exact Bool.noConfusion hb31
            | (
             obtain ⟨c,hc⟩:=ζm (show k<w.length by omega)
             have e1:=Zaf (f:=pInt) hc
             refine nav ?_
             (refine ζa ?_<;>refine xL 32 (ζJ ζn) ?_<;>(refine yL 33 (Za3 ζj) fun v33 h=>?_;cases h)<;>refine xL 9 ζc ?_<;>refine ζb (nav ?_)<;>try dsimp only)
             (refine ζa ?_<;>refine xL 34 ζd ?_<;>refine xL 35 ζd ?_<;>refine xL 36 ζd ?_<;>(refine cO 37 (cA Tryz.call112 (Zjy a (ZqR a (w.take k)) c hn1 hA.ml hA.mi hrun.1 hrun.2)) fun v37 ho37=>?_;refine ζq (En.freeze (l:=37) (t:=37) rfl rfl) fun _=>?_;rw [ζL _ _ _ rfl])<;>refine xL 7 ζc ?_<;>refine ζb (nav ?_)<;>try dsimp only)
             (refine ζa ?_<;>refine xL 38 ζM ?_<;>refine xL 30 ζd ?_<;>refine ζb (nav ?_)<;>try dsimp only)
             rw [←Zso hc]
             refine ζl (
              ⟨(k+1,v37),ζe hc⟩
              ) (by dsimp only;omega) ⟨rfl,rfl,rfl,rfl,rfl,trivial⟩ trivial)
          · first
            |exact Bool.noConfusion hb31
            | (
             obtain rfl:k=w.length:=by omega
             rw [List.take_length] at hrun ⊢
             refine nav ?_
             (refine ζa ?_<;>refine xL 39 ζd ?_<;>refine xL 40 ζd ?_<;>(refine cS 41 (cA Tryz.call113 (ZfM a (ZqR a w) hrun.1)) fun v41 h=>?_;cases h)<;>refine xL 4 ζc ?_<;>refine xL 5 ζc ?_<;>refine ζb (nav ?_)<;>try dsimp only)
             refine Za8 (Tryz.results68) rfl rfl ?_
             rw [hax];rfl))))
def wI (w:List Nat):List Int:=w.map fun c:Nat=>(c:Int)
def Zlh (a:Aut) (S:List Int) (w:List Int):List Int:=w.foldl (fun S c=>ZaB a c S) S
def ZfV (a:Aut) (w:List Int):Bool:=ZdV a (ZqR a w)
theorem ZjP (a:Aut) (w:List Int):ZfV a w=ZdV a (Zlh a (Za1 a a.start) w):=rfl
theorem Zm2 {a:Aut} (h:AOk a) {o:List (List Int)} {rows:List (List Nat)} (hu:(ZfR a).all (Za1 a a.start)=some (o,rows)):∀(w:List Nat) (i:Nat) (S:List Int),ZbU a.syms.toNat w→o[i]? =some S→Zsk ⟨a.syms.toNat,rows,o.map (ZdV a)⟩ i w=ZdV a (Zlh a S (wI w)):=by
 obtain ⟨h2,h3,h4⟩:=ZoB h hu
 have hcap:o.length≤2000:=h2.cap
 have h5:=h4 hcap
 intro w
 induction w with
 | nil=>
   intro i S _ hi
   show ((o.map (ZdV a))[i]?).getD false=ZdV a S
   rw [List.getElem?_map,hi];rfl
 | cons c w ih=>
   intro i S hw hi
   have hc:c<a.syms.toNat:=hw c (List.mem_cons_self ..)
   obtain ⟨r,hr⟩:=ζm (show i<rows.length by have:=ζe hi;omega)
   have hl:r.length=a.syms.toNat:=h2.len r (List.mem_of_getElem? hr)
   obtain ⟨n,hn⟩:=ζm (show c<r.length by omega)
   obtain ⟨h6,h7⟩:=h2.to i S r c n hi hr hn
   obtain ⟨T,hT,hT2⟩:=Zha (f:=(ZfR a).key) (l:=o) (k:=(ZfR a).key ((ZfR a).step i S c)) (by rw [h7];exact h6)
   rw [h7] at hT
   have hT3:T=ZaB a (c:Nat) S:=hT2
   rw [Zde,ZiI hr hn,ih n T (fun c hc=>hw c (List.mem_cons_of_mem _ hc)) hT,hT3]
   rfl
theorem ZoQ {a:Aut} (h:AOk a) {t:Tab} (ht:Zgv a=some t) {w:List Nat} (hw:ZbU a.syms.toNat w):Zsk t 0 w=ZfV a (wI w):=by
 unfold Zgv at ht
 obtain ⟨⟨o,rows⟩,h1,rfl⟩:=Option.map_eq_some_iff.1 ht
 obtain ⟨h2,_,_⟩:=ZoB h h1
 exact Zm2 h h1 w 0 _ hw h2.zero
theorem ZA4 {a:Aut} {t:Tab} (ht:Zgv a=some t):t.m=a.syms.toNat:=by
 unfold Zgv at ht
 obtain ⟨q,_,rfl⟩:=Option.map_eq_some_iff.1 ht
 rfl
section
variable {t:Tab} {o:List Nat} {rows:List (List Nat)}
theorem ZjQ (h:Fin t o rows) {i s:Nat} (hi:i<o.length) (hs:s<t.m):∃(r:List Nat) (n x y:Nat),rows[i]? =some r∧r[s]? =some n∧o[i]? =some x∧o[n]? =some y∧ZcV t y=ZcV t (toT t x s):=by
 obtain ⟨r,hr⟩:=ζm (show i<rows.length by rw [h.len];exact hi)
 have hrl:r.length=t.m:=h.ok.len r (List.mem_of_getElem? hr)
 obtain ⟨n,hn⟩:=ζm (show s<r.length by omega)
 obtain ⟨x,hx⟩:=ζm hi
 obtain ⟨h6,h7⟩:=h.ok.to i x r s n hx hr hn
 obtain ⟨y,hy,hy2⟩:=Zha (f:=(minW t).key) (l:=o) (k:=(minW t).key ((minW t).step i x s)) (by rw [h7];exact h6)
 rw [h7] at hy
 exact ⟨r,n,x,y,hr,hn,hx,hy,hy2⟩
theorem Zm3 {i s n:Nat} {r:List Nat} (h1:rows[i]? =some r) (h2:r[s]? =some n):(⟨(i:Nat),(n:Nat),(s:Nat)⟩:Mv)∈ζT rows:=by
 unfold ζT
 refine List.mem_flatMap.2 ⟨(r,i),List.mem_zipIdx_iff_getElem?.2 h1,?_⟩
 unfold Zap
 exact List.mem_map.2 ⟨(n,s),List.mem_zipIdx_iff_getElem?.2 h2,rfl⟩
theorem Zli (hok:AOk (Zcy t (o,rows))) {i:Nat} (hi:i<o.length) {l:List Int} (hl:∀x,x∈l↔x=(i:Int)):Za1 (Zcy t (o,rows)) l=[(i:Int)]:=by
 have hin:∀s∈l,0≤s∧s<(Zcy t (o,rows)).n:=fun s hs=>by
  rw [(hl s).1 hs]
  exact ⟨by omega,by show ((i:Nat):Int)<(o.length:Nat);omega⟩
 refine ZmK (Zcw hok.mi hin) (List.pairwise_singleton ..) fun x=>?_
 rw [Zc8 hok.mi hin,List.mem_singleton]
 constructor
 · intro h
   induction h with
   |base h=>exact (hl _).1 h
   | step _ hm hs hd ih=>
     obtain ⟨_,s,_,_,_,_,rfl⟩:=ZfT hm
     have h1:((s:Nat):Int)= -1:=hd
     omega
 · intro h
   subst h
   exact .base ((hl _).2 rfl)
theorem Zhy (h:Fin t o rows) (hok:AOk (Zcy t (o,rows))) {i s n:Nat} {r:List Nat} (hr:rows[i]? =some r) (hn:r[s]? =some n) (hno:n<o.length):ZaB (Zcy t (o,rows)) (s:Nat) [(i:Int)]=[(n:Int)]:=by
 have hi:i<o.length:=by rw [←h.len];exact ζe hr
 refine Zli hok hno fun x=>?_
 have hin:∀s∈[(i:Int)],0≤s∧s<(Zcy t (o,rows)).n:=fun s hs=>by
  rw [List.mem_singleton.1 hs]
  exact ⟨by omega,by show ((i:Nat):Int)<(o.length:Nat);omega⟩
 rw [Zcx hin]
 constructor
 · rintro ⟨m,hm,h1,h2,rfl⟩
   obtain ⟨i',s',n',r',h3,h4,rfl⟩:=ZfT hm
   have h1:((i':Nat):Int)=i:=List.mem_singleton.1 h1
   have h2:((s':Nat):Int)=s:=h2
   have e1:i'=i:=by omega
   have e2:s'=s:=by omega
   subst e1 e2
   rw [hr] at h3;cases h3
   rw [hn] at h4;cases h4
   rfl
 · rintro rfl
   exact ⟨_,Zm3 hr hn,List.mem_singleton.2 rfl,rfl,rfl⟩
theorem ZuX (h:Fin t o rows) {i x:Nat} (hx:o[i]? =some x):ZdV (Zcy t (o,rows)) [(i:Int)]=(t.fin[x]?).getD false:=by
 show (Zgh (Zcy t (o,rows)) (i:Int)||false)=_
 rw [Bool.or_false,ZzT (ζe hx)]
 unfold ZdF;rw [hx];rfl
theorem ZxK (ht:TOk t) (h:Fin t o rows) (hok:AOk (Zcy t (o,rows))):∀(w:List Nat) (i x:Nat),ZbU t.m w→o[i]? =some x→ZdV (Zcy t (o,rows)) (Zlh (Zcy t (o,rows)) [(i:Int)] (wI w))=Zsk t x w:=by
 intro w
 induction w with
 |nil=>intro i x _ hx;exact ZuX h hx
 | cons c w ih=>
   intro i x hw hx
   obtain ⟨r,n,x',y,hr,hn,hx',hy,hc⟩:=ZjQ h (ζe hx) (hw c (List.mem_cons_self ..))
   rw [hx] at hx';cases hx'
   show ZdV _ (Zlh _ (ZaB _ (c:Nat) [(i:Int)]) (wI w))=Zsk t (toT t x c) w
   have hw':ZbU t.m w:=fun c hc=>hw c (List.mem_cons_of_mem _ hc)
   rw [Zhy h hok hr hn (ζe hy),ih n y hw' hy]
   exact (Zm0 ht (h.ok.p y (List.mem_of_getElem? hy)) (Zb8 ht)).1 hc w hw'
theorem ZfW (h:Fin t o rows) (hok:AOk (Zcy t (o,rows))):Za1 (Zcy t (o,rows)) (Zcy t (o,rows)).start=[((0:Nat):Int)]:=Zli hok h.pos fun x=>List.mem_singleton
theorem Zlj (ht:TOk t) (h:Fin t o rows) (hok:AOk (Zcy t (o,rows))) {w:List Nat} (hw:ZbU t.m w):ZfV (Zcy t (o,rows)) (wI w)=Zsk t 0 w:=by
 rw [ZjP,ZfW h hok]
 exact ZxK ht h hok w 0 0 hw h.ok.zero
theorem Zsp (ht:TOk t) (hu:(minW t).all 0=some (o,rows)) (hm:(ζT rows).length≤20000):ZcS (Zcy t (o,rows))= .ok (Zcy t (o,rows)):=by
 have h:=Zhu ht hu
 have hok:=Zgx ht h hm
 have hn1:=ht.n1
 have hcap:o.length≤t.rows.length:=h.ok.cap
 have h2:(minW t).upto 0 2000=some (o,rows):=by
  have h3:=Srch.upto_stop hu hcap (2000-t.rows.length)
  have e:(minW t).cap+(2000-t.rows.length)=2000:=by show t.rows.length+_=_;omega
  rw [e] at h3;exact h3
 have hsy:(Zcy t (o,rows)).syms.toNat=t.m:=Int.toNat_natCast _
 obtain ⟨o',h3,h4⟩:=Srch.sim (W:=minW t) (W':=ZfR (Zcy t (o,rows))) (R:=fun x S=>x<t.rows.length∧∃(i z:Nat),S=[(i:Int)]∧o[i]? =some z∧ZcV t z=ZcV t x) hsy.symm hn1
  (fun x x' S S' ⟨hx,i,z,e,hz,hc⟩ ⟨hx',i',z',e',hz',hc'⟩=>by
    show ZcV t x=ZcV t x'↔S=S'
    rw [e,e',←hc,←hc']
    constructor
    · intro e2
      have h5:posK (minW t).key o (ZcV t z)=i:=Zdr h.ok.nd hz
      have h6:posK (minW t).key o (ZcV t z')=i':=Zdr h.ok.nd hz'
      rw [←h5,←h6,e2]
    · intro e2
      have:i=i':=by have:=(List.cons.inj e2).1;omega
      subst this
      rw [hz] at hz';cases hz';rfl)
  (fun i x S s ⟨hx,j,z,e,hz,hc⟩ hs=>by
    have hs:s<t.m:=hs
    obtain ⟨r,n,z',y,hr,hn,hz',hy,hc2⟩:=ZjQ h (ζe hz) hs
    rw [hz] at hz';cases hz'
    refine ⟨Zb8 ht,n,y,?_,hy,?_⟩
    · show ZaB _ (s:Nat) S=_
      rw [e,Zhy h hok hr hn (ζe hy)]
    · rw [hc2]
      exact (Zsn ht).st z x s (h.ok.p z (List.mem_of_getElem? hz)) hx hs hc)
  (show (0:Nat)<t.rows.length∧_ from ⟨ht.pos,0,0,ZfW h hok,h.ok.zero,rfl⟩) h2
 have h5:Zgv (Zcy t (o,rows))=some ⟨t.m,rows,o'.map (ZdV (Zcy t (o,rows)))⟩:=by
  unfold Zgv
  rw [show (ZfR (Zcy t (o,rows))).all (Za1 (Zcy t (o,rows)) (Zcy t (o,rows)).start)=some (o',rows) from h3,hsy]
  rfl
 have h6:=ZmT hok h5
 have h7:Zbz ⟨t.m,rows,o'.map (ZdV (Zcy t (o,rows)))⟩=Zbz t:=Zqg h6 ht rfl fun w hw=>by
  have hw:ZbU t.m w:=hw
  rw [ZoQ hok h5 (by rw [hsy];exact hw),Zlj ht h hok hw]
 unfold ZcS
 rw [h5]
 dsimp only
 rw [h7]
 unfold Zbz
 rw [hu]
 show lim (if 20000<(ζT rows).length then none else some (Zcy t (o,rows)))=_
 rw [if_neg (by omega)];rfl
end
theorem Zlk {a A:Aut} (h:AOk a) (hr:ZcS a= .ok A) {w:List Nat} (hw:ZbU a.syms.toNat w):ZfV A (wI w)=ZfV a (wI w):=by
 obtain ⟨t,o,rows,hs,hT,_,hF,rfl,hm⟩:=ZmY h hr
 rw [Zlj hT hF (Zgx hT hF hm) (by rw [ZA4 hs];exact hw),ZoQ h hs hw]
def IsMin (A:Aut):Prop:=∃t o rows,TOk t∧(minW t).all 0=some (o,rows)∧A=Zcy t (o,rows)∧(ζT rows).length≤20000
theorem ZoR {a A:Aut} (h:AOk a) (hr:ZcS a= .ok A):IsMin A:=by
 obtain ⟨t,o,rows,hs,hT,hu,hF,e,hm⟩:=ZmY h hr
 exact ⟨t,o,rows,hT,hu,e,hm⟩
section
variable {A B:Aut}
theorem IsMin.aok (h:IsMin A):AOk A:=by
 obtain ⟨t,o,rows,hT,hu,rfl,hm⟩:=h
 exact Zgx hT (Zhu hT hu) hm
theorem IsMin.det (h:IsMin A):DetA A:=by
 obtain ⟨t,o,rows,hT,hu,rfl,hm⟩:=h
 exact ZzU hT (Zhu hT hu) hm
theorem IsMin.red (h:IsMin A):ZcS A= .ok A:=by
 obtain ⟨t,o,rows,hT,hu,rfl,hm⟩:=h
 exact Zsp hT hu hm
theorem IsMin.start (h:IsMin A):Za1 A A.start=[((0:Nat):Int)]:=by
 have hok:=h.aok
 obtain ⟨t,o,rows,hT,hu,rfl,hm⟩:=h
 exact ZfW (Zhu hT hu) hok
theorem IsMin.next (h:IsMin A) {i s:Nat} (hi:i<A.n.toNat) (hs:s<A.syms.toNat):ZaB A (s:Nat) [(i:Int)]=[((stepA A i s:Nat):Int)]∧stepA A i s<A.n.toNat:=by
 have hok:=h.aok
 have hd:=h.det
 refine ⟨?_,hd.sl i s hi hs⟩
 obtain ⟨t,o,rows,hT,hu,rfl,hm⟩:=h
 have hF:=Zhu hT hu
 have e1:(Zcy t (o,rows)).n.toNat=o.length:=Int.toNat_natCast _
 have e2:(Zcy t (o,rows)).syms.toNat=t.m:=Int.toNat_natCast _
 rw [e1] at hi
 rw [e2] at hs
 obtain ⟨r,n,x,y,hr,hn,hx,hy,_⟩:=ZjQ hF hi hs
 have h1:=Zhv (k:=0) hF.ok.len hr hn
 rw [Nat.zero_add] at h1
 have h2:stepA (Zcy t (o,rows)) i s=n:=by
  rw [ZjO (x:=⟨(i:Nat),(n:Nat),(s:Nat)⟩) (by rw [e2];exact h1)]
  exact Int.toNat_natCast _
 rw [h2]
 exact Zhy hF hok hr hn (ζe hy)
theorem ZxL (hA:IsMin A) (hB:IsMin B) (hs:A.syms=B.syms) {op:Int} {o:List ((Nat×Nat)×(Int×Int))} {rows:List (List Nat)} (hu:prodQ A B=some (o,rows)):∀(w:List Nat) (i:Nat) (p:(Nat×Nat)×(Int×Int)),ZbU A.syms.toNat w→o[i]? =some p→Zsk (Zgn A B op (o,rows)) i w=ZqQ op (ZdV A (Zlh A [((p.1.1:Nat):Int)] (wI w))) (ZdV B (Zlh B [((p.1.2:Nat):Int)] (wI w))):=by
 obtain ⟨h1,_,h3⟩:=Zhx hA.det hB.det hs hu
 have hcap:o.length≤2000:=h1.cap
 have h5:=h3 hcap
 intro w
 induction w with
 | nil=>
   intro i p _ hi
   show ((o.map (ZbI A B op))[i]?).getD false=ZqQ op (Zgh A _||false) (Zgh B _||false)
   rw [List.getElem?_map,hi,Bool.or_false,Bool.or_false];rfl
 | cons c w ih=>
   intro i p hw hi
   have hc:c<A.syms.toNat:=hw c (List.mem_cons_self ..)
   have hp:=h1.p p (List.mem_of_getElem? hi)
   obtain ⟨r,hr⟩:=ζm (show i<rows.length by have:=ζe hi;omega)
   have hl:r.length=A.syms.toNat:=h1.len r (List.mem_of_getElem? hr)
   obtain ⟨n,hn⟩:=ζm (show c<r.length by omega)
   obtain ⟨h6,h7⟩:=h1.to i p r c n hi hr hn
   obtain ⟨q,hq,hq2⟩:=Zha (f:=(Zbe A B).key) (l:=o) (k:=(Zbe A B).key ((Zbe A B).step i p c)) (by rw [h7];exact h6)
   rw [h7] at hq
   have hq3:q.1=(stepA A p.1.1 c,stepA B p.1.2 c):=hq2
   rw [Zde,ZiI (t:=Zgn A B op (o,rows)) hr hn,ih n q (fun c hc=>hw c (List.mem_cons_of_mem _ hc)) hq,hq3]
   dsimp only
   rw [←(hA.next hp.1 hc).1,←(hB.next hp.2 (by rw [←hs];exact hc)).1]
   rfl
theorem Zsq (hA:IsMin A) (hB:IsMin B) (hs:A.syms=B.syms) {op:Int} {q:List ((Nat×Nat)×(Int×Int))×List (List Nat)} (hu:prodQ A B=some q) {w:List Nat} (hw:ZbU A.syms.toNat w):Zsk (Zgn A B op q) 0 w=ZqQ op (ZfV A (wI w)) (ZfV B (wI w)):=by
 obtain ⟨h1,_,_⟩:=Zhx hA.det hB.det hs hu
 rw [ZjP,ZjP,hA.start,hB.start]
 exact ZxL hA hB hs hu w 0 _ hw h1.zero
end
theorem Zll {a A:Aut} (h:AOk a) (hr:ZcS a= .ok A):A.syms=a.syms:=(Zfl h hr).2
theorem Zhz {a C:Aut} (h:Zij a= .ok C):IsMin C∧C.syms=a.syms∧∀w,ZbU a.syms.toNat w→ZfV C (wI w)=ZfV a (wI w):=by
 obtain ⟨h1,h2⟩:=ZxH h
 have ha:=Zd0 h1
 exact ⟨ZoR ha h2,Zll ha h2,fun w hw=>Zlk ha h2 hw⟩
inductive Pth (a:Aut):Int→List Int→Int→Prop
 |nil (s:Int):Pth a s [] s
 |eps {m:Mv} {w:List Int} {t:Int} (hm:m∈a.moves) (hs:m.sym= -1) (h:Pth a m.dst w t):Pth a m.src w t
 |sym {m:Mv} {w:List Int} {t:Int} (hm:m∈a.moves) (hs:¬m.sym= -1) (h:Pth a m.dst w t):Pth a m.src (m.sym::w) t
section
variable {a:Aut}
theorem Pth.app {s x t:Int} {u v:List Int} (h:Pth a s u x) (h':Pth a x v t):Pth a s (u++v) t:=by
 induction h with
 |nil s=>exact h'
 |eps hm hs _ ih=>exact .eps hm hs (ih h')
 |sym hm hs _ ih=>exact .sym hm hs (ih h')
theorem Pth.cons {s t c:Int} {w:List Int} (h:Pth a s (c::w) t):∃m∈a.moves,Pth a s [] m.src∧m.sym=c∧¬m.sym= -1∧Pth a m.dst w t:=by
 generalize e:c::w=v at h
 induction h with
 |nil s=>cases e
 | eps hm hs _ ih=>
   obtain ⟨m',h1,h2,h3⟩:=ih e
   exact ⟨m',h1, .eps hm hs h2,h3⟩
 | sym hm hs h _=>
   cases e
   exact ⟨_,hm, .nil _,rfl,hs,h⟩
theorem Zm4 {S:List Int} {t:Int}:Rch a S t↔∃s∈S,Pth a s [] t:=by
 constructor
 · intro h
   induction h with
   |base h=>exact ⟨_,h, .nil _⟩
   | step _ hm hs hc ih=>
     obtain ⟨s,h1,h2⟩:=ih
     have:=h2.app (hs▸Pth.eps hm hc (.nil _))
     exact ⟨s,h1,this⟩
 · rintro ⟨s,h1,h2⟩
   have key:∀{x y:Int} {v:List Int},Pth a x v y→v=[]→Rch a S x→Rch a S y:=fun h=>by
    induction h with
    |nil s=>exact fun _ h=>h
    |eps hm hs _ ih=>exact fun e h=>ih e (.step h hm rfl hs)
    |sym hm hs _ ih=>exact fun e=>by cases e
   exact key h2 rfl (.base h1)
theorem ZoS (h:AOk a):∀{w:List Int} {S:List Int} {t:Int},(∀c∈w,¬c= -1)→InS a S→(t∈Zlh a (Za1 a S) w↔∃s∈S,Pth a s w t)
 | [],S,t,_,hS=>by
   show t∈Za1 a S↔_
   rw [Zc8 h.mi hS,Zm4]
 | c ::w,S,t,hw,hS=>by
   have hc:=Zen h.mi hS
   show t∈Zlh a (Za1 a (Zb6 a c (Za1 a S))) w↔_
   rw [ZoS h (fun c hc=>hw c (List.mem_cons_of_mem _ hc)) (Zbr h.mi c _)]
   constructor
   · rintro ⟨x,h1,h2⟩
     obtain ⟨m,hm,h3,h4,rfl⟩:=(Zcx hc).1 h1
     obtain ⟨s,h5,h6⟩:=Zm4.1 ((Zc8 h.mi hS _).1 h3)
     refine ⟨s,h5,?_⟩
     have:=h6.app (Pth.sym hm (by rw [h4];exact hw c (List.mem_cons_self ..)) h2)
     rw [h4] at this;exact this
   · rintro ⟨s,h1,h2⟩
     obtain ⟨m,hm,h3,h4,_,h5⟩:=h2.cons
     exact ⟨m.dst,(Zcx hc).2 ⟨m,hm,(Zc8 h.mi hS _).2 (Zm4.2 ⟨s,h1,h3⟩),h4,rfl⟩,h5⟩
def Lng (a:Aut) (w:List Int):Prop:=∃s∈a.start,∃f∈a.fin,Pth a s w f
theorem ZjR (h:AOk a) {w:List Int} (hw:∀c∈w,0≤c):ZfV a w=true↔Lng a w:=by
 unfold ZfV ZdV
 rw [List.any_eq_true]
 have key:∀t,t∈ZqR a w↔∃s∈a.start,Pth a s w t:=fun t=>ZoS h (fun c hc=>by have:=hw c hc;omega) h.st
 constructor
 · rintro ⟨t,h1,h2⟩
   obtain ⟨s,h3,h4⟩:=(key t).1 h1
   unfold Zgh at h2
   obtain ⟨f,h5,h6⟩:=List.any_eq_true.1 h2
   rw [decide_eq_true_eq] at h6
   subst h6
   exact ⟨s,h3,f,h5,h4⟩
 · rintro ⟨s,h3,f,h5,h4⟩
   refine ⟨f,(key f).2 ⟨s,h3,h4⟩,?_⟩
   unfold Zgh
   exact List.any_eq_true.2 ⟨f,h5,by simp⟩
theorem Pth.mono {b:Aut} (hs:∀m∈a.moves,m∈b.moves) {s t:Int} {w:List Int} (h:Pth a s w t):Pth b s w t:=by
 induction h with
 |nil s=>exact .nil s
 |eps hm h1 _ ih=>exact .eps (hs _ hm) h1 ih
 |sym hm h1 _ ih=>exact .sym (hs _ hm) h1 ih
theorem ZzV {w:List Int}:Lng (mkA a) w↔Lng a w:=by
 have h1:∀m,m∈(mkA a).moves↔m∈a.moves:=fun m=>Zce
 constructor
 · rintro ⟨s,hs,f,hf,h⟩;exact ⟨s,hs,f,hf,h.mono fun m hm=>(h1 m).1 hm⟩
 · rintro ⟨s,hs,f,hf,h⟩;exact ⟨s,hs,f,hf,h.mono fun m hm=>(h1 m).2 hm⟩
end
theorem Zdf {X C:Aut} (hp:PreA X) (h:ZdG X= .ok C):IsMin C∧C.syms=X.syms∧∀w,ZbU X.syms.toNat w→(ZfV C (wI w)=true↔Lng X (wI w)):=by
 unfold ZdG Zsi at h
 split at h
 · cases h
 · rename_i hb
   have hok:=hp.aok hb
   have h:ZcS (mkA X)= .ok C:=h
   have hsy:C.syms=(mkA X).syms:=Zll hok h
   refine ⟨ZoR hok h,hsy,fun w hw=>?_⟩
   rw [Zlk hok h (show ZbU (mkA X).syms.toNat w from hw),ZjR hok,ZzV]
   intro c hc
   obtain ⟨n,_,rfl⟩:=List.mem_map.1 hc
   omega
def ZcT (n:Int) (l:List Int):List Int:=l.map (· +n)
def Zgz (n:Int) (l:List Mv):List Mv:=l.map fun m=>⟨m.src+n,m.dst+n,m.sym⟩
def Zik (n f:Int) (l:List Int):List Mv:=l.map fun s=>⟨f,s+n,-1⟩
def Zlm (n:Int) (F l:List Int):List Mv:=F.flatMap fun f=>Zik n f l
def ZcL (a b:Aut):Aut:=⟨a.n+b.n,a.syms,a.start++ZcT a.n b.start,a.fin++ZcT a.n b.fin,a.moves++Zgz a.n b.moves⟩
def Zer (a b:Aut):Aut:=⟨a.n+b.n,a.syms,a.start,ZcT a.n b.fin,a.moves++Zgz a.n b.moves++Zlm a.n a.fin b.start⟩
theorem Zsr (n:Int) {l:List Int} {k:Nat} {x:Int} (h:l[k]? =some x):ZcT n (l.take (k+1))=ZcT n (l.take k)++[x+n]:=by unfold ZcT;rw [ζH h,List.map_append];rfl
theorem Zss (n:Int) {l:List Mv} {k:Nat} {x:Mv} (h:l[k]? =some x):Zgz n (l.take (k+1))=Zgz n (l.take k)++[⟨x.src+n,x.dst+n,x.sym⟩]:=by unfold Zgz;rw [ζH h,List.map_append];rfl
theorem Zln (n f:Int) {l:List Int} {k:Nat} {x:Int} (h:l[k]? =some x):Zik n f (l.take (k+1))=Zik n f (l.take k)++[⟨f,x+n,-1⟩]:=by unfold Zik;rw [ζH h,List.map_append];rfl
theorem Zst (n:Int) {F:List Int} {k:Nat} {f:Int} (l:List Int) (h:F[k]? =some f):Zlm n (F.take (k+1)) l=Zlm n (F.take k) l++Zik n f l:=by unfold Zlm;rw [ζH h,List.flatMap_append,List.flatMap_singleton]
theorem Zdz (n:Int) (l:List Int):(ZcT n l).length=l.length:=List.length_map _
theorem ZgA (n:Int) (l:List Mv):(Zgz n l).length=l.length:=List.length_map _
theorem ZjS (n:Int) (l:List Int):∀F:List Int,(Zlm n F l).length=F.length*l.length
 |[]=>by simp [Zlm]
 | f::F=>by
   have:=ZjS n l F
   unfold Zlm at this ⊢
   rw [List.flatMap_cons,List.length_append,this,List.length_cons,Nat.succ_mul,Nat.add_comm]
   unfold Zik;rw [List.length_map]
theorem ZiL {n:Int} {l:List Int} (h:l.Nodup):(ZcT n l).Nodup:=Zdd h fun x _ y _ e=>by omega
theorem Zfm {α:Type} {l m:List α} (h1:l.Nodup) (h2:m.Nodup) (h:∀x∈l,x∉m):(l++m).Nodup:=List.nodup_append.2 ⟨h1,h2,fun x hx y hy e=>h x hx (e▸hy)⟩
theorem Zbs {n x:Int} {l:List Int}:x∈ZcT n l↔∃y∈l,y+n=x:=by unfold ZcT;rw [List.mem_map]
theorem ZcM {n:Int} {x:Mv} {l:List Mv}:x∈Zgz n l↔∃m∈l,(⟨m.src+n,m.dst+n,m.sym⟩:Mv)=x:=by unfold Zgz;rw [List.mem_map]
theorem Zes {n:Int} {x:Mv} {F l:List Int}:x∈Zlm n F l↔∃f∈F,∃s∈l,(⟨f,s+n,-1⟩:Mv)=x:=by
 unfold Zlm Zik
 simp only [List.mem_flatMap,List.mem_map]
section
variable {a b:Aut}
theorem Zlo (ha:VOk a) {l m:List Int} (hl:InS a l) (hm:InS b m) (h1:l.Nodup) (h2:m.Nodup):(l++ZcT a.n m).Nodup:=
 Zfm h1 (ZiL h2) fun x hx hx'=>by
  obtain ⟨y,hy,rfl⟩:=Zbs.1 hx'
  have h3:=hl _ hx
  have h4:=hm y hy
  omega
theorem Zwx (ha:VOk a) (hb:VOk b) {l m:List Int} (hl:InS a l) (hm:InS b m):∀x∈l++ZcT a.n m,0≤x∧x<a.n+b.n:=fun x hx=>by
 have h1:=ha.n0
 have h2:=hb.n0
 rcases List.mem_append.1 hx with hx|hx
 · have:=hl x hx;omega
 · obtain ⟨y,hy,rfl⟩:=Zbs.1 hx
   have:=hm y hy
   omega
theorem Zsu (ha:VOk a) (hb:VOk b) (hs:a.syms=b.syms):∀m∈a.moves++Zgz a.n b.moves,0≤m.src∧m.src<a.n+b.n∧0≤m.dst∧m.dst<a.n+b.n∧-1≤m.sym∧m.sym<a.syms:=fun m hm=>by
 have h1:=ha.n0
 have h2:=hb.n0
 rcases List.mem_append.1 hm with hm|hm
 · have:=ha.mv m hm;omega
 · obtain ⟨y,hy,rfl⟩:=ZcM.1 hm
   have:=hb.mv y hy
   dsimp only;omega
theorem ZiM (ha:VOk a) (hb:VOk b):(a.moves++Zgz a.n b.moves).Nodup:=
 Zfm (ZfU ha.ms) (Zdd (ZfU hb.ms) fun x _ y _ e=>by
  have e:=Mv.mk.inj e
  cases x;cases y
  simp only [Mv.mk.injEq] at e ⊢
  omega) fun x hx hx'=>by
   obtain ⟨y,hy,rfl⟩:=ZcM.1 hx'
   have h3:=ha.mv _ hx
   have h4:=hb.mv y hy
   dsimp only at h3
   omega
theorem ZhA (ha:VOk a) (hb:VOk b) (hs:a.syms=b.syms):PreA (ZcL a b):=by
 have h1:=ha.n0
 have h2:=hb.n0
 exact ⟨by show 0≤a.n+b.n;omega,ha.s0,ha.s1,Zwx ha hb ha.st hb.st,Zwx ha hb ha.fi hb.fi,Zlo ha ha.st hb.st (Za2 ha.ss) (Za2 hb.ss),Zlo ha ha.fi hb.fi (Za2 ha.fs) (Za2 hb.fs),Zsu ha hb hs⟩
theorem Zlp (ha:VOk a) (hb:VOk b):(Zer a b).moves.Nodup:=by
 show (a.moves++Zgz a.n b.moves++Zlm a.n a.fin b.start).Nodup
 refine Zfm (ZiM ha hb) ?_ fun x hx hx'=>?_
 · have key:∀F:List Int,F.Nodup→(Zlm a.n F b.start).Nodup:=fun F=>by
    induction F with
    |nil=>exact fun _=>List.nodup_nil
    | cons f F ih=>
      intro h
      rw [List.nodup_cons] at h
      show (Zik a.n f b.start++Zlm a.n F b.start).Nodup
      refine Zfm (Zdd (Za2 hb.ss) fun x _ y _ e=>by have:=(Mv.mk.inj e).2.1;omega) (ih h.2) fun x hx hx'=>?_
      obtain ⟨f',hf',s',_,rfl⟩:=Zes.1 hx'
      unfold Zik at hx
      obtain ⟨s,_,e⟩:=List.mem_map.1 hx
      have:=(Mv.mk.inj e).1
      subst this
      exact h.1 hf'
   exact key _ (Za2 ha.fs)
 · obtain ⟨f,hf,s,hs,rfl⟩:=Zes.1 hx'
   have h3:=ha.fi f hf
   have h4:=hb.st s hs
   rcases List.mem_append.1 hx with hx|hx
   · have h5:=ha.mv _ hx
     dsimp only at h5
     omega
   · obtain ⟨y,hy,e⟩:=ZcM.1 hx
     have h5:=hb.mv y hy
     have h6:=(Mv.mk.inj e).1
     omega
theorem ZjT (ha:VOk a) (hb:VOk b) (hs:a.syms=b.syms):PreA (Zer a b):=by
 have h1:=ha.n0
 have h2:=hb.n0
 refine ⟨by show 0≤a.n+b.n;omega,ha.s0,ha.s1,fun x hx=>?_,fun x hx=>?_,Za2 ha.ss,ZiL (Za2 hb.fs),fun m hm=>?_⟩
 · have:=ha.st x hx
   show 0≤x∧x<a.n+b.n;omega
 · obtain ⟨y,hy,rfl⟩:=Zbs.1 hx
   have:=hb.fi y hy
   show 0≤y+a.n∧y+a.n<a.n+b.n;omega
 · have hm':m∈a.moves++Zgz a.n b.moves++Zlm a.n a.fin b.start:=hm
   rcases List.mem_append.1 hm' with hm|hm
   · exact Zsu ha hb hs m hm
   · obtain ⟨f,hf,s,hs',rfl⟩:=Zes.1 hm
     have h3:=ha.fi f hf
     have h4:=hb.st s hs'
     have h5:=ha.s0
     show 0≤f∧f<a.n+b.n∧0≤s+a.n∧s+a.n<a.n+b.n∧-1≤(-1:Int)∧(-1:Int)<a.syms
     omega
end
def Zfn (a b:Aut):Except Int Aut:=if ¬Zdl a b=0 then .error (Zdl a b) else ZdG (ZcL a b)
def Zlq (a b:Aut):Except Int Aut:=if ¬Zdl a b=0 then .error (Zdl a b) else ZdG (Zer a b)
theorem ZiN:ElT Tryz.prog 170 5 1 1 (.int .u8 0):=⟨Tryz.underlying170,by kernel_rfl,rfl,by decide⟩
theorem Zsv {l:List Int} {k:Nat} {x:Int} (h:l[k]? =some x):Zgm (l.take (k+1))=Zgm (l.take k)++Lib.itoa x++[32]:=by
 unfold Zgm;rw [ζH h,List.flatMap_append];simp
theorem Zsw:∀(k u:Nat),u<10^(k+1)→Lib.nDigits u≤k+1
 |0,u,h=>by rw [Lib.nDigits_small (by simpa using h)];omega
 | k +1,u,h=>by
   by_cases h1:u<10
   · rw [Lib.nDigits_small h1];omega
   · rw [Lib.nDigits_big h1]
     have:=Zsw k (u / 10) (by rw [Nat.pow_succ] at h;omega)
     omega
theorem ZoT {x:Int} (h0:0≤x) (h1:x≤1000000):(Lib.itoa x).length≤21:=by
 unfold Lib.itoa
 rw [if_neg (by omega),Lib.decDigits_length]
 have:=Zsw 6 x.toNat (by omega)
 omega
theorem ZoU:∀{l:List Int},(∀x∈l,0≤x∧x≤1000000)→(Zgm l).length≤l.length*22
 |[],_=>Nat.le_refl _
 | x::l,h=>by
   have h1:=ZoU fun y hy=>h y (List.mem_cons_of_mem _ hy)
   have hx:=h x (List.mem_cons_self ..)
   have h2:=ZoT hx.1 hx.2
   have:Zgm (x::l)=Lib.itoa x++[32]++Zgm l:=rfl
   rw [this,List.length_append,List.length_append]
   simp only [List.length_cons,List.length_nil]
   omega
theorem ZuY (e:Nat) {l:List Int} {k:Nat} {x:Int} (h:l[k]? =some x):PV.own e 1 ((Zgm (l.take k)).length+(Lib.itoa x).length+1) ((Zgm (l.take k)++Lib.itoa x).map Zic++[PV.val (.int .u8 32)])= .own e 1 (Zgm (l.take (k+1))).length ((Zgm (l.take (k+1))).map Zic):=by
 rw [Zsv h]
 simp only [List.map_append,List.length_append,List.length_cons,List.length_nil,Nat.zero_add,List.map_cons,List.map_nil]
 rfl
theorem ZxM:Tryz.prog.globalNamed "internal/strconv.uint64pow10"=ZyT:=by kernel_rfl
theorem Zsx:Zrv Tryz.prog 260 5:=fun B n i h0 h1 sv xs w hown hBw hlim htab=>Tryz.strconv_AppendInt_10 B n i h0 h1 sv xs w hown hBw hlim htab
theorem Zlr (l:List Int) (hl:l.length≤1000000) (h0:∀x∈l,0≤x∧x≤1000000):AF Tryz.prog 231 [pInts l] (· = .val (.string (ZiJ l))):=by
 refine AFd.of_bodyS 20 Tryz.func231 rfl Tryz.ntmps231 (Nat.le_of_ble_eq_true rfl) ?_
 intro w0 M0 vs hl hv hS
 obtain ⟨v0,rfl⟩:=ZdL hl
 clear hl hv
 have hs0:=hS 0 v0 _ rfl rfl
 clear hS
 refine nav ?_
 (refine ζa ?_<;>refine xL 2 ζc ?_<;>refine ζb (nav ?_)<;>try dsimp only)
 (refine ζa ?_<;>refine xL 3 ζc ?_<;>refine ζb (nav ?_)<;>try dsimp only)
 refine ζv (Zb2 200 5 1 rfl) fun _=>?_
 (refine ζa ?_<;>refine xL 6 ζd ?_<;>refine xL 7 (ζV ζn) ?_<;>refine xL 8 ζd ?_<;>refine ζb (nav ?_)<;>try dsimp only)
 refine ζy (ι:={q:Nat×Value//q.1≤l.length∧q.2.oneCell'=true}) (fun k=>⟨[(6,_,_),(7,_,_),(3,k.1.2, .val k.1.2),(8, .int .i64 k.1.1,pInt k.1.1)],[(200,k.1.2, .own 5 1 (Zgm (l.take k.1.1)).length ((Zgm (l.take k.1.1)).map Zic))]⟩) (fun k=>l.length-k.1.1) ⟨(0, .slice none 0 0),Nat.zero_le _,rfl⟩ (fun a w H=>H.weaken ⟨rfl,rfl,rfl,rfl,trivial⟩ ⟨rfl,trivial⟩) ?_
 rintro ⟨⟨k,r⟩,hk,hr⟩
 dsimp only
 dsimp only at hk hr
 have hkl:=ZoU (l:=l.take k) (fun x hx=>h0 x (List.mem_of_mem_take hx))
 rw [List.length_take] at hkl
 refine nav ?_
 (refine ζa ?_<;>refine xL 9 ζS ?_<;>refine ζb (nav ?_)<;>try dsimp only)
 (first|refine cCd ?_ ?_|refine cC ?_ ?_)<;>intro hb9
 · first
   |exact Bool.noConfusion hb9
   | (
    obtain ⟨x,hx⟩:=ζm (show k<l.length by omega)
    have e1:=Zaf (f:=pInt) hx
    have hx0:=h0 x (List.mem_of_getElem? hx)
    have hil:=ZoT hx0.1 hx0.2
    refine nav ?_
    (refine ζa ?_<;>refine xL 10 (ζJ ζn) ?_<;>(refine yL 11 (Za3 ζj) fun v11 h=>?_;cases h)<;>refine xL 5 ζc ?_<;>refine ζb (nav ?_)<;>try dsimp only)
    (refine ζa ?_<;>refine xL 12 ζd ?_<;>refine xL 13 ζd ?_<;>refine Zuo (i:=x) (bs:=Zgm (l.take k)) (n:=(Zgm (l.take k)).length) 200 14 [6,7,8] Zsx (Tryz.call260) (fun _ h=>h) (fun h=>h) ZxM rfl ⟨hs0, .val _, .val _,trivial⟩ (by omega) (by omega) (by omega) fun h14 ho14=>?_<;>refine ζI (kk:=1) 15 ZiN fun h15 ho15=>?_<;>(refine ζY 14 15 16 ZiN fun h16 ho16=>?_;refine ζq (ζD (l:=16) 200 rfl rfl) fun _=>?_;refine ζq (ζN (l:=200) rfl (ZuY _ hx)) fun _=>?_)<;>refine xL 3 ζc ?_<;>refine ζb (nav ?_)<;>try dsimp only)
    (refine ζa ?_<;>refine xL 17 ζM ?_<;>refine xL 8 ζd ?_<;>refine ζb (nav ?_)<;>try dsimp only)
    refine ζl (
     ⟨(k+1,h16),ζe hx,ho16⟩
     ) (by dsimp only;omega) ⟨rfl,rfl,rfl,rfl,trivial⟩ ⟨rfl,trivial⟩)
 · first
   |exact Bool.noConfusion hb9
   | (
    refine nav ?_
    (refine ζa ?_<;>refine xL 18 ζd ?_<;>refine xL 19 (Zzy 200 Tryz.underlying170 Tryz.underlying5 Tryz.underlying9) ?_<;>refine xL 2 ζc ?_<;>refine ζb (nav ?_)<;>try dsimp only)
    refine ζt (Tryz.results231) rfl ?_
    rw [List.take_of_length_le (by omega)];rfl)
theorem ZaL:AggT Tryz.prog 147 3=true:=by kernel_rfl
theorem ZaV:FldT Tryz.prog 147 1 1=true:=by kernel_rfl
theorem Zbf:FldT Tryz.prog 147 2 2=true:=by kernel_rfl
theorem Zdg:MpT Tryz.prog 251 9 3 .string (.int .i64 0):=⟨Tryz.underlying251,Tryz.underlying9, .inl rfl,by show ZeroT _ _ _;unfold ZeroT;kernel_rfl⟩
theorem ZbB:NoAgg Tryz.prog 117=true:=by kernel_rfl
theorem ZiO:Zbj Tryz.prog 147=some ((.agg #[(.int .i64 0),(.slice none 0 0),(.slice none 0 0)]),([0,1,2]:List Nat).map fun o=>(o,1)):=by kernel_rfl
theorem ZiP:(Tryz.prog.info? 117).map (·.size)=some 1:=by kernel_rfl
theorem ZiQ:(Tryz.prog.info? 139).map (·.size)=some 1:=by kernel_rfl
theorem Zdh:ZeroT Tryz.prog 147 (.agg #[(.int .i64 0),(.slice none 0 0),(.slice none 0 0)]):=by unfold ZeroT;kernel_rfl
def ZfX (r:List Nat):PV:=pInts (toI r)
def Zgo (r:List Nat) (j:Nat):Int:=((r[j]?).getD 0:Nat)
theorem Zls (m:Nat):vec m (fun j=>pInt (Zgo [] j))=List.replicate m (PV.val (.int .i64 0)):=by rw [Zk6];rfl
theorem ZhB {m:Nat} {r:List Nat} (n:Nat) (h:r.length<m):(vec m fun j=>pInt (Zgo r j)).set (r.length*1) (pInt (n:Nat))=vec m fun j=>pInt (Zgo (r++[n]) j):=by
 rw [Nat.mul_one,Zr6]
 refine ZdY fun i hi=>?_
 unfold Zgo
 by_cases e:i=r.length
 · subst e;rw [if_pos rfl];simp
 · rw [if_neg e,List.getElem?_append]
   split
   · rfl
   · rw [List.getElem?_eq_none (by omega),List.getElem?_eq_none (by simp;omega)]
theorem Zqh (r:List Nat):(vec r.length fun j=>pInt (Zgo r j))=(toI r).map pInt:=by
 symm
 refine ZmN (by simp [toI]) fun i x hx=>?_
 unfold toI at hx
 rw [List.map_map,List.getElem?_map,Option.map_eq_some_iff] at hx
 obtain ⟨y,hy,rfl⟩:=hx
 unfold Zgo;rw [hy];rfl
theorem Zlt (e m:Nat) (r:List Nat) (h:r.length=m):share (.own e 1 m (vec m fun j=>pInt (Zgo r j)))=ZfX r:=by
 subst h
 rw [Zqh,ζL _ _ _ (by simp [toI])];rfl
theorem Zlu (e:Nat) (L:List (List Nat)) (x:List Nat):PV.own e 1 (L.length+1) (L.map ZfX++[ZfX x])= .own e 1 (L++[x]).length ((L++[x]).map ZfX):=by simp
theorem ZiR (e:Nat) (L:List Bool) (x:Bool):PV.own e 1 (L.length+1) (L.map ζO++[ζO x])= .own e 1 (L++[x]).length ((L++[x]).map ζO):=by simp
theorem ZhC (e n:Nat) (l:List (List Nat)) (hn:n=l.length):share (.own e 1 n (l.map ZfX))= .sl l.length (l.map ZfX):=by
 subst hn
 rw [share,ζ3,List.map_map]
 congr 1
theorem Zgj (e n:Nat) (l:List Bool) (hn:n=l.length):share (.own e 1 n (l.map ζO))= .sl l.length (l.map ζO):=by
 subst hn
 rw [share,ζ3,List.map_map];rfl
def Zwy (t:Tab):PV:= .agg [pInt (t.m:Nat), .sl t.rows.length (t.rows.map ZfX), .sl t.fin.length (t.fin.map ζO)]
def ZBK (a:Aut) (p:PV):Prop:=(∃t,Zgv a=some t∧p= .tup [Zwy t,ζO true])∨(Zgv a=none∧∃u1 u2 u3:Value,u1.oneCell'=true∧u2.oneCell'=true∧u3.oneCell'=true∧p= .tup [.agg [.val u1, .val u2, .val u3],ζO false])
section
variable {α:Type}
def ZhD (f:α→ByteArray) (o:List α) (x:α):Nat:=if posK f o (f x)<o.length then posK f o (f x) else 0
theorem ZoV (f:α→ByteArray) (o:List α) (x:α):(Zdo (skv (Zbv f 0 o)) (.string (f x))).getD (.int .i64 0)= .int .i64 (ZhD f o x:Nat)∧(Zdo (skv (Zbv f 0 o)) (.string (f x))).isSome=decide (posK f o (f x)<o.length):=by
 rw [Zua,Zff]
 unfold ZhD
 by_cases h:posK f o (f x)<o.length
 · rw [if_pos h,if_pos h,decide_eq_true h,Nat.zero_add];exact ⟨rfl,rfl⟩
 · rw [if_neg h,if_neg h,decide_eq_false h];exact ⟨rfl,rfl⟩
end
section
variable {α:Type} {P:Program} {sL hP:List (Nat×Ent)} {o:Oper}
theorem Zwz {t ks e:Nat} {kd:TypeDesc} {z:Value} {x y:Operand} {m:Value} {f:α→ByteArray} {L:List α} {a:α} {p q:PV} (l:Nat) (hT:MpT P t ks e kd z) (hz:z= .int .i64 0) (hkd:kd= .string) (ho:o.op= .lookup t x y true:=by exact rfl) (hx:ev sL x=some (m,p):=by exact rfl) (hl:lk hP l=some (m, .omap (skv (Zbv f 0 L))):=by exact rfl) (hy:ev sL y=some (.string (f a),q):=by exact rfl):
 YE P (⟨sL,hP⟩:St) o (· = .tuple [.int .i64 (ZhD f L a:Nat), .bool (decide (posK f L (f a)<L.length))].toArray) (.tup [.val (.int .i64 (ZhD f L a:Nat)), .val (.bool (decide (posK f L (f a)<L.length)))]):=by
 subst hz hkd
 have h:=Zn1 (sL:=sL) (hP:=hP) (o:=o) l hT ho hx hl hy (ZgN _ _)
 rw [(ZoV f L a).1,(ZoV f L a).2] at h
 exact h
end
theorem ZzW {o:List (List Int)} {x:List Int} (h:∀l∈o,∀s∈l,0≤s) (hx:∀s∈x,0≤s):posK ZiJ o (ZiJ x)=posK id o x:=Zfe fun l hl=>ZoJ (h l hl) hx
theorem ZuZ (x:List Int):Ze5 [] (.string (ZiJ x)) (.int .i64 0)=skv (Zbv ZiJ 0 [x]):=rfl
theorem ZoW {α:Type} {f:α→ByteArray} {o:List α} {x:α} (h:¬posK f o (f x)<o.length):Ze5 (skv (Zbv f 0 o)) (.string (f x)) (.int .i64 (o.length:Nat))=skv (Zbv f 0 (o++[x])):=by
 have:=Zjs f x o 0 h
 rw [Nat.zero_add] at this
 rw [ZnY,this]
theorem SetOk.nn {a:Aut} {l:List Int} (h:SetOk a l):∀s∈l,0≤s:=fun s hs=>(h.1 s hs).1
theorem SetOk.bd {a:Aut} (ha:AOk a) {l:List Int} (h:SetOk a l):∀s∈l,0≤s∧s≤1000000:=fun s hs=>by have:=h.1 s hs;have:=ha.n1;omega
set_option maxHeartbeats 4000000 in
theorem ZfY (a : Aut) (h:AOk a):AF Tryz.prog 185 [ζW a] (ZBK a):=by
 have hn1:=h.n1
 have hs0:=h.s0
 have hs1:=h.s1
 have hsN:((a.syms.toNat:Nat):Int)=a.syms:=by omega
 have hst:=Zk9 h
 refine AF.of_body 96 Tryz.func185 rfl Tryz.ntmps185 (Nat.le_of_ble_eq_true rfl) ?_
 intro w0 M0 vs hl hv
 obtain ⟨v0,rfl⟩:=ZdL hl
 clear hl hv
 refine nav ?_
 (refine ζa ?_<;>refine ζE 1 5 fun h1=>?_<;>refine ζr [(.int .i64 0),(.slice none 0 0),(.slice none 0 0)] 3 2 Zdh fun h2=>?_<;>refine xL 3 ζc ?_<;>refine ζb (nav ?_)<;>try dsimp only)
 (refine ζa ?_<;>(refine yL 14 (ζp 1 ζg) fun v14 h=>?_;cases h)<;>(refine cS 15 (cA Tryz.call110 (Zda a h)) fun v15 h=>?_;cases h)<;>refine xL 4 ζc ?_<;>refine ζb (nav ?_)<;>try dsimp only)
 (refine ζa ?_<;>refine xL 16 (ζh 1 ζ2) ?_<;>(refine yL 17 (ζs 1 ζj) fun v17 h=>?_;cases h)<;>refine xL 18 (ζB ZiO) ?_<;>refine ζr [(.int .i64 0),(.slice none 0 0),(.slice none 0 0)] 3 5 Zdh fun h5=>?_<;>refine ζC 5 ZaL ?_<;>refine ζb (nav ?_)<;>try dsimp only)
 refine ζv (Zeh (l:=5) [pInt a.syms, .own 36 1 0 [], .own 4 1 0 []] rfl rfl (fun i p p' h1 h2=>by
  match i with
  |0=>cases h1;cases h2;exact .inl rfl
  |1=>cases h1;cases h2;exact .inr ⟨rfl,_,_,rfl⟩
  |2=>cases h1;cases h2;exact .inr ⟨rfl,_,_,rfl⟩
  |i+3=>simp at h2)) fun _=>?_
 refine ζv (ZeK (l:=5) (l':=301) (j:=1) rfl rfl rfl rfl) fun i=>?_
 obtain ⟨v301,ho301⟩:=i
 refine ζv (ZeK (l:=5) (l':=302) (j:=2) rfl rfl rfl rfl) fun i=>?_
 obtain ⟨v302,ho302⟩:=i
 dsimp only [List.set]
 (refine ζa ?_<;>refine xL 19 ζd ?_<;>refine xL 20 (ζh 1 Zab) ?_<;>(refine yL 21 (ζs 1 ζx) fun v21 h=>?_;cases h)<;>(refine cO 22 (cA Tryz.call111 (Zel a a.start hn1 h.mi h.st)) fun v22 ho22=>?_;refine ζq (En.freeze (l:=22) (t:=22) rfl rfl) fun _=>?_;rw [ζL _ _ _ rfl])<;>refine ζI (kk:=1) 23 Zbi fun h23 ho23=>?_<;>refine xL 6 ζc ?_<;>refine ζb (nav ?_)<;>try dsimp only)
 refine ζv (ζD (l:=23) 303 rfl rfl) fun _=>?_
 obtain ⟨x0,hx0⟩:∃x0,x0=Za1 a a.start:=⟨_,rfl⟩
 rw [←hx0] at hst ⊢
 have hst2:=hst.len h
 (refine ζa ?_<;>refine ZeT 24 fun h24 ho24=>?_<;>refine xL 25 ζd ?_<;>refine xL 26 (Zaw (i:=0) 303 Zam) ?_<;>(refine yL 27 (ζs 303 ζx) fun v27 h=>?_;cases h)<;>(refine cS 28 (cA Tryz.call231 (Zlr x0 (by omega) (hst.bd h))) fun v28 h=>?_;cases h)<;>(refine Zwk 24 Zdg ?_;rw [ZuZ])<;>refine xL 29 ζd ?_<;>refine xL 7 ζc ?_<;>refine ζb (nav ?_)<;>try dsimp only)
 refine ζv (ζD (l:=24) 304 rfl rfl) fun _=>?_
 (refine ζa ?_<;>refine xL 8 ζc ?_<;>refine ζb (nav ?_)<;>try dsimp only)
 refine ζy (ι:={q:Nat×Value×Value×Value×List (List Int)×List (List Nat)//(ZfR a).upto x0 q.1=some (q.2.2.2.2.1,q.2.2.2.2.2)∧q.1≤q.2.2.2.2.1.length∧q.2.1.oneCell'=true∧q.2.2.1.oneCell'=true∧q.2.2.2.1.oneCell'=true}) (fun k=>⟨[(1,_,_),(2,_,_),(3,_,_),(4,_,_),(5,_,_),(7,_,_),(6,k.1.2.2.2.1, .val k.1.2.2.2.1),(8, .int .i64 k.1.1,pInt k.1.1)],[(1,_,_),(2,_,_),(304,h24, .omap (skv (Zbv ZiJ 0 k.1.2.2.2.2.1))),(5,h5, .own 147 3 1 [pInt a.syms, .val k.1.2.1, .val k.1.2.2.1]),(301,k.1.2.1, .own 36 1 k.1.2.2.2.2.2.length (k.1.2.2.2.2.2.map ZfX)),(302,k.1.2.2.1, .own 4 1 ((k.1.2.2.2.2.1.take k.1.1).map (ZdV a)).length (((k.1.2.2.2.2.1.take k.1.1).map (ZdV a)).map ζO)),(303,k.1.2.2.2.1, .own 36 1 k.1.2.2.2.2.1.length (k.1.2.2.2.2.1.map pInts))]⟩) (fun k=>2000-k.1.1) ⟨(0,v301,v302,h23,[x0],[]),rfl,Nat.zero_le _,ho301,ho302,ho23⟩ (fun a w H=>H.weaken ⟨rfl,rfl,rfl,rfl,rfl,rfl,rfl,rfl,trivial⟩ ⟨rfl,rfl,rfl,rfl,rfl,rfl,rfl,trivial⟩) ?_
 rintro ⟨⟨i,r1,r2,r3,o,rows⟩,hU,hi,hr1,hr2,hr3⟩
 dsimp only
 dsimp only at hU hi hr1 hr2 hr3
 have hU':=hU
 rw [hx0] at hU'
 obtain ⟨hOk,hRl,_⟩:=ZoB h hU'
 have hRl:=hRl hi
 have hcap:o.length≤2000:=hOk.cap
 have hOp:=hOk.p
 have hone1:En.one (PV.val r1)=true:=hr1
 have hone2:En.one (PV.val r2)=true:=hr2
 have hfl:((o.take i).map (ZdV a)).length≤2000:=by rw [List.length_map,List.length_take];omega
 refine nav ?_
 (refine ζa ?_<;>refine xL 30 ζd ?_<;>refine xL 31 ζd ?_<;>refine xL 32 (ZaC 303 Zam) ?_<;>refine xL 33 ζS ?_<;>refine ζb (nav ?_)<;>try dsimp only)
 (first|refine cCd ?_ ?_|refine cC ?_ ?_)<;>intro hb33
 · first
   |exact Bool.noConfusion hb33
   | (
    obtain ⟨x,hx⟩:=ζm (show i<o.length by omega)
    have hxs:=hOp x (List.mem_of_getElem? hx)
    have hxl:=hxs.len h
    refine nav ?_
    (refine ζa ?_<;>refine xL 36 (ζh 1 ζ2) ?_<;>(refine yL 37 (ζs 1 ζj) fun v37 h=>?_;cases h)<;>(refine Ze6 (n:=a.syms.toNat) 38 ζi (fun h38 ho38=>?_) (hx:=by rw [hsN];exact rfl) (hy:=by rw [hsN];exact rfl) (hb:=by omega))<;>refine xL 9 ζc ?_<;>refine ζb (nav ?_)<;>try dsimp only)
    rw [←Zls]
    (refine ζa ?_<;>refine xL 39 ζd ?_<;>refine xL 40 (ZaC 38 ζn) ?_<;>refine xL 41 ζd ?_<;>refine ζb (nav ?_)<;>try dsimp only)
    refine ζy (ι:={q:Nat×Value×List (List Int)×List Nat//(ZfR a).row i x o q.1=some (q.2.2.1,q.2.2.2)∧q.1≤a.syms.toNat∧q.2.1.oneCell'=true}) (fun k=>⟨[(1,_,_),(2,_,_),(3,_,_),(4,_,_),(5,_,_),(7,_,_),(8,_,_),(9,_,_),(40,_,_),(6,k.1.2.1, .val k.1.2.1),(41, .int .i64 k.1.1,pInt k.1.1)],[(1,_,_),(2,_,_),(5,_,_),(301,_,_),(302,_,_),(303,k.1.2.1, .own 36 1 k.1.2.2.1.length (k.1.2.2.1.map pInts)),(304,h24, .omap (skv (Zbv ZiJ 0 k.1.2.2.1))),(38,h38, .own 3 1 a.syms.toNat (vec a.syms.toNat fun j=>pInt (Zgo k.1.2.2.2 j)))]⟩) (fun k=>a.syms.toNat-k.1.1) ⟨(0,r3,o,[]),rfl,Nat.zero_le _,hr3⟩ (fun a w H=>H.weaken ⟨rfl,rfl,rfl,rfl,rfl,rfl,rfl,rfl,rfl,rfl,rfl,trivial⟩ ⟨rfl,rfl,rfl,rfl,rfl,rfl,rfl,rfl,trivial⟩) ?_
    rintro ⟨⟨s,r3',o',r⟩,hW,hs,hr3'⟩
    dsimp only
    dsimp only at hW hs hr3'
    obtain ⟨hMt,hpr,hrl,_⟩:=hOk.toMet.row (fun s _=>ZjG h s x) (show s≤(ZfR a).m from hs) hW
    have hcap':o'.length≤2000:=hMt.cap
    have hx':=ZbO hpr hx
    have hil:=ζe hx'
    refine nav ?_
    (refine ζa ?_<;>refine xL 42 ζS ?_<;>refine ζb (nav ?_)<;>try dsimp only)
    (first|refine cCd ?_ ?_|refine cC ?_ ?_)<;>intro hb42
    · first
      |exact Bool.noConfusion hb42
      | (
       have hset:=ZjG h (s:Nat) x
       obtain ⟨set,hse⟩:∃set,set=ZaB a (s:Nat) x:=⟨_,rfl⟩
       rw [←hse] at hset
       have hsl:=hset.len h
       have hkid:=ZzW (fun l hl=>(hMt.p l hl).nn) hset.nn
       have e1:=Zaf (f:=pInts) hx'
       have e2:=ZfP a.syms.toNat (fun j=>pInt (Zgo r j))
       refine nav ?_
       (refine ζa ?_<;>refine xL 43 ζd ?_<;>refine xL 10 ζc ?_<;>refine ζb (nav ?_)<;>try dsimp only)
       (refine ζa ?_<;>refine xL 44 ζd ?_<;>refine xL 45 ζd ?_<;>refine xL 46 ζd ?_<;>refine xL 47 (Zaw 303 Zam) ?_<;>(refine yL 48 (ζs 303 ζx) fun v48 h=>?_;cases h)<;>refine xL 49 ζd ?_<;>(refine cO 50 (cA Tryz.call112 (Zjy a x s hn1 h.ml h.mi hxs.1 hxl)) fun v50 ho50=>?_;refine ζq (En.freeze (l:=50) (t:=50) rfl rfl) fun _=>?_;rw [ζL _ _ _ rfl,←hse])<;>refine xL 11 ζc ?_<;>refine ζb (nav ?_)<;>try dsimp only)
       (refine ζa ?_<;>refine xL 52 ζd ?_<;>refine xL 53 ζd ?_<;>(refine cS 54 (cA Tryz.call231 (Zlr set (by omega) (hset.bd h))) fun v54 h=>?_;cases h)<;>refine xL 55 (Zwz (f:=ZiJ) (L:=o') (a:=set) 304 Zdg rfl rfl) ?_<;>refine xL 51 ζd ?_<;>refine xL 56 ζf ?_<;>refine xL 57 ζf ?_<;>refine xL 12 ζc ?_<;>refine xL 13 ζc ?_<;>refine ζb (nav ?_)<;>try dsimp only)
       (refine ζa ?_<;>refine xL 58 ζd ?_<;>refine xL 59 Zak ?_<;>refine ζb (nav ?_)<;>try dsimp only)
       (first|refine cCd ?_ ?_|refine cC ?_ ?_)<;>intro hb59
       · first
         |exact Bool.noConfusion hb59
         | (
          have hnew:¬posK ZiJ o' (ZiJ set)<o'.length:=by simpa using hb59
          have hnew2:¬posK (ZfR a).key o' ((ZfR a).key ((ZfR a).step i x s))<o'.length:=by
           show ¬posK id o' (ZaB a (s:Nat) x)<o'.length
           rw [←hse,←hkid];exact hnew
          refine nav ?_
          (refine ζa ?_<;>refine xL 60 ζd ?_<;>refine xL 61 (ZaC 303 Zam) ?_<;>refine xL 12 ζc ?_<;>refine ζb (nav ?_)<;>try dsimp only)
          (refine ζa ?_<;>refine xL 62 ζd ?_<;>refine xL 63 Zcc ?_<;>refine ζb (nav ?_)<;>try dsimp only)
          (first|refine cCd ?_ ?_|refine cC ?_ ?_)<;>intro hb63
          · first
            |exact Bool.noConfusion hb63
            | (
             refine nav ?_
             (refine ζa ?_<;>(refine yL 64 (ζp (k:=3) (ps:=[pInt a.syms,PV.val r1,PV.val r2]) 5 (by kernel_rfl)) fun v64 h=>?_;cases h)<;>refine ζC 2 ZaL ?_<;>refine xL 3 ζc ?_<;>refine ζb (nav ?_)<;>try dsimp only)
             refine ζ6 (k:=3) 2 (by kernel_rfl) (Tryz.results185) rfl rfl rfl (Nat.le_of_ble_eq_true rfl) (by decide) rfl (.inr ⟨?_,_,_,_,rfl,hr1,hr2,rfl⟩)
             have hv:=Zjt hnew2 (show (ZfR a).cap≤o'.length by show 2000≤o'.length;omega)
             have h1:=Srch.row_fails (Srch.row_out hW hv) (show s+1≤(ZfR a).m by show s+1≤a.syms.toNat;omega)
             have h2:=Srch.all_none (Srch.upto_out hU hx h1) (show i+1≤(ZfR a).cap by show i+1≤2000;omega)
             unfold Zgv
             rw [←hx0,h2];rfl)
          · first
            |exact Bool.noConfusion hb63
            | (
             refine nav ?_
             (refine ζa ?_<;>refine xL 65 ζd ?_<;>refine xL 66 ζd ?_<;>(refine cS 67 (cA Tryz.call231 (Zlr set (by omega) (hset.bd h))) fun v67 h=>?_;cases h)<;>refine xL 68 ζd ?_<;>(refine ZgT 304 Zdg ?_;rw [ZoW hnew])<;>refine ζb (nav ?_)<;>try dsimp only)
             (refine ζa ?_<;>refine xL 69 ζd ?_<;>refine xL 70 ζd ?_<;>refine ζI (kk:=1) 71 Zbi fun h71 ho71=>?_<;>(refine ζY 303 71 72 Zbi fun h72 ho72=>?_;refine ζq (ζD (l:=72) 303 rfl rfl) fun _=>?_;refine ζq (ζN (l:=303) rfl (Zwu _ o' set)) fun _=>?_)<;>refine xL 6 ζc ?_<;>refine ζb (nav ?_)<;>try dsimp only)
             (refine ζa ?_<;>refine xL 73 ζd ?_<;>refine xL 74 ζd ?_<;>refine xL 75 ζd ?_<;>refine xL 76 (Zaw 38 ζn) ?_<;>refine Zc1 38 ζj Zbq ?_<;>refine ζb (nav ?_)<;>try dsimp only)
             (refine ζa ?_<;>refine xL 77 ζM ?_<;>refine xL 41 ζd ?_<;>refine ζb (nav ?_)<;>try dsimp only)
             rw [show s*1=r.length*1 by omega,ZhB _ (by omega)]
             first
              | (exact ζl (
                  ⟨(s+1,h72,o'++[set],r++[o'.length]),(by dsimp only;rw [hse];exact Srch.row_snoc hW (Zbd hnew2 (show o'.length<2000 by omega))),(by dsimp only;omega),ho72⟩
                  ) (by dsimp only;omega) ⟨rfl,rfl,rfl,rfl,rfl,rfl,rfl,rfl,rfl,rfl,rfl,trivial⟩ ⟨rfl,rfl,rfl,rfl,rfl,rfl,rfl,rfl,trivial⟩)
              | (exact ζl (
                  ⟨(s+1,r3',o',r++[ZhD ZiJ o' set]),(by dsimp only;rw [hnum];exact Srch.row_snoc hW (Zbc hold2)),(by dsimp only;omega),hr3'⟩
                  ) (by dsimp only;omega) ⟨rfl,rfl,rfl,rfl,rfl,rfl,rfl,rfl,rfl,rfl,rfl,trivial⟩ ⟨rfl,rfl,rfl,rfl,rfl,rfl,rfl,rfl,trivial⟩)))
       · first
         |exact Bool.noConfusion hb59
         | (
          have hold:posK ZiJ o' (ZiJ set)<o'.length:=by simpa using hb59
          have hold2:posK (ZfR a).key o' ((ZfR a).key ((ZfR a).step i x s))<o'.length:=by
           show posK id o' (ZaB a (s:Nat) x)<o'.length
           rw [←hse,←hkid];exact hold
          have hnum:ZhD ZiJ o' set=posK (ZfR a).key o' ((ZfR a).key ((ZfR a).step i x s)):=by
           show ZhD ZiJ o' set=posK id o' (ZaB a (s:Nat) x)
           unfold ZhD
           rw [if_pos hold,hkid,hse]
          refine nav ?_
          (refine ζa ?_<;>refine xL 73 ζd ?_<;>refine xL 74 ζd ?_<;>refine xL 75 ζd ?_<;>refine xL 76 (Zaw 38 ζn) ?_<;>refine Zc1 38 ζj Zbq ?_<;>refine ζb (nav ?_)<;>try dsimp only)
          (refine ζa ?_<;>refine xL 77 ζM ?_<;>refine xL 41 ζd ?_<;>refine ζb (nav ?_)<;>try dsimp only)
          rw [show s*1=r.length*1 by omega,ZhB _ (by omega)]
          first
           | (exact ζl (
               ⟨(s+1,h72,o'++[set],r++[o'.length]),(by dsimp only;rw [hse];exact Srch.row_snoc hW (Zbd hnew2 (show o'.length<2000 by omega))),(by dsimp only;omega),ho72⟩
               ) (by dsimp only;omega) ⟨rfl,rfl,rfl,rfl,rfl,rfl,rfl,rfl,rfl,rfl,rfl,trivial⟩ ⟨rfl,rfl,rfl,rfl,rfl,rfl,rfl,rfl,trivial⟩)
           | (exact ζl (
               ⟨(s+1,r3',o',r++[ZhD ZiJ o' set]),(by dsimp only;rw [hnum];exact Srch.row_snoc hW (Zbc hold2)),(by dsimp only;omega),hr3'⟩
               ) (by dsimp only;omega) ⟨rfl,rfl,rfl,rfl,rfl,rfl,rfl,rfl,rfl,rfl,rfl,trivial⟩ ⟨rfl,rfl,rfl,rfl,rfl,rfl,rfl,rfl,trivial⟩)))
    · first
      |exact Bool.noConfusion hb42
      | (
       have hsm:s=a.syms.toNat:=by omega
       subst hsm
       have hU2:=Srch.upto_snoc hU hx hW
       have e1:=Zaf (f:=pInts) hx'
       have htk:o'.take (i+1)=(o.take i)++[x]:=by
        rw [ζH hx']
        obtain ⟨e,rfl⟩:=hpr
        rw [List.take_append_of_le_length hi]
       refine nav ?_
       refine ζv (En.freeze (l:=38) (t:=9) rfl rfl) fun _=>?_
       rw [Zlt _ _ _ hrl]
       (refine ζ4 (fun i=>([16,17,18]:List Nat).elem i) [5,303] (by kernel_rfl) ?_<;>refine xDT 0 78 rfl (ζh 5 ZaV) ?_<;>(refine yDT 1 79 rfl (ζs 5 ZbB) fun v79 h=>?_;cases h)<;>refine xDT 2 80 rfl ζd ?_<;>refine xDT 5 83 rfl (ζh 5 Zbf) ?_<;>(refine yDT 6 84 rfl (ζs 5 ZaO) fun v84 h=>?_;cases h)<;>refine xDT 7 85 rfl ζd ?_<;>refine xDT 8 86 rfl ζd ?_<;>refine xDT 9 87 rfl ζd ?_<;>refine xDT 10 88 rfl (Zaw 303 Zam) ?_<;>(refine yDT 11 89 rfl (ζs 303 ζx) fun v89 h=>?_;cases h)<;>(refine ζo 3 (by kernel_rfl) ?_)<;>(refine ζk rfl fun w9 M9 N9 DQ back=>?_)<;>refine ζI (kk:=1) 81 Zbi fun h81 ho81=>?_<;>refine ζb (back _ (nrm ?_))<;>(refine ζo 4 (by kernel_rfl) ?_)<;>(refine ζk rfl fun w9 M9 N9 DQ back=>?_)<;>refine ζY 301 81 82 Zbi fun h82 ho82=>?_<;>refine ζb (back _ (nrm ?_))<;>refine xDT 15 93 rfl (ζh 5 ZaV) ?_<;>(refine ζo 12 (by kernel_rfl) ?_)<;>(refine Zbk (d:=90) rfl (cA Tryz.call113 (ZfM a x hxs.1)) fun v90 h=>?_;cases h)<;>(refine ζo 13 (by kernel_rfl) ?_)<;>(refine ζk rfl fun w9 M9 N9 DQ back=>?_)<;>refine ζI (kk:=1) 91 Zcp fun h91 ho91=>?_<;>refine ζb (back _ (nrm ?_))<;>(refine ζo 14 (by kernel_rfl) ?_)<;>(refine ζk rfl fun w9 M9 N9 DQ back=>?_)<;>refine ζY 302 91 92 Zcp fun h92 ho92=>?_<;>refine ζb (back _ (nrm ?_))<;>(refine ζo 16 (by kernel_rfl) ?_)<;>(refine Zgq rfl rfl fun DQ back=>?_)<;>refine Zc1 5 ZbB ZiP ?_<;>refine ζb (back _ ?_)<;>(refine Zdp 17 (by kernel_rfl) rfl rfl fun DQ back=>?_)<;>refine xL 94 (ζh 5 Zbf) ?_<;>refine ζb (back _ ?_)<;>(refine Zdp 18 (by kernel_rfl) rfl rfl fun DQ back=>?_)<;>refine Zc1 5 ZaO ZiQ ?_<;>refine ζb (back _ ?_)<;>refine Zjn (by kernel_rfl) (nav ?_)<;>try dsimp only)
       refine ζv (ζD (l:=82) 301 rfl rfl) fun _=>?_
       refine ζv (ζD (l:=92) 302 rfl rfl) fun _=>?_
       refine ζv (ζN (l:=301) rfl (Zlu _ rows r)) fun _=>?_
       refine ζv (ζN (l:=302) rfl (ZiR _ ((o.take i).map (ZdV a)) (ZdV a x))) fun _=>?_
       rw [show ((o.take i).map (ZdV a))++[ZdV a x]=(o'.take (i+1)).map (ZdV a) by rw [htk,List.map_append];rfl]
       (refine ζa ?_<;>refine xL 34 ζd ?_<;>refine xL 35 ζM ?_<;>refine xL 8 ζc ?_<;>refine ζb (nav ?_)<;>try dsimp only)
       refine ζl (
        ⟨(i+1,h82,h92,r3',o',rows++[r]),hU2,(by dsimp only;omega),ho82,ho92,hr3'⟩
        ) (by dsimp only;omega) ⟨rfl,rfl,rfl,rfl,rfl,rfl,rfl,rfl,trivial⟩ ⟨rfl,rfl,rfl,rfl,rfl,rfl,rfl,trivial⟩))
 · first
   |exact Bool.noConfusion hb33
   | (
    have hio:i=o.length:=by omega
    subst hio
    refine nav ?_
    refine ζv (Zaj (l:=5) (l':=301) (j:=1) rfl rfl rfl rfl) fun _=>?_
    refine ζv (Zaj (l:=5) (l':=302) (j:=2) rfl rfl rfl rfl) fun _=>?_
    rw [ZhC _ _ _ rfl,Zgj _ _ _ rfl]
    (refine ζa ?_<;>(refine yL 95 (ζp 5 ZaL) fun v95 h=>?_;cases h)<;>refine ζC 2 ZaL ?_<;>refine xL 3 ζc ?_<;>refine ζb (nav ?_)<;>try dsimp only)
    refine ζ6 (k:=3) 2 (by kernel_rfl) (Tryz.results185) rfl rfl rfl (Nat.le_of_ble_eq_true rfl) (by decide) rfl (.inl ⟨⟨a.syms.toNat,rows,o.map (ZdV a)⟩,?_,?_⟩)
    · unfold Zgv
      rw [←hx0,Srch.all_some hU (Nat.le_refl _) (show o.length≤(ZfR a).cap from hcap)];rfl
    · unfold Zwy
      dsimp only
      rw [List.take_length,hsN];rfl)
def ZoX (l:List Nat):ByteArray:=ZiJ (toI l)
theorem ZwA (l:List Nat):∀x∈toI l,0≤x:=fun x hx=>by
 unfold toI at hx
 obtain ⟨y,_,rfl⟩:=List.mem_map.1 hx
 omega
theorem ZxN (o:List (List Nat)) (x:List Nat):posK ZoX o (ZoX x)=posK id o x:=Zfe fun l _=>by
 unfold ZoX
 rw [ZoJ (ZwA l) (ZwA x),ZxF];rfl
theorem ZbC {α:Type} (f:α→ByteArray) (o:List α):(skv (Zbv f 0 o)).length=o.length:=by unfold skv;rw [List.length_map,Zom]
theorem Zu0 {α:Type} {f:α→ByteArray} {o:List α} {x:α} (h:¬posK f o (f x)<o.length):Ze5 (skv (Zbv f 0 o)) (.string (f x)) (.int .i64 ((skv (Zbv f 0 o)).length:Nat))=skv (Zbv f 0 (o++[x])):=by
 rw [ZbC,ZoW h]
def ZoY (s:Nat) (f:Nat→Nat) (j:Nat):Int:=if j<s then (f j:Nat) else 0
theorem Zlv (n:Nat) (f:Nat→Nat):List.replicate n (PV.val (.int .i64 0))=vec n fun j=>pInt (ZoY 0 f j):=by
 rw [Zk6]
 refine ZdY fun i _=>?_
 unfold ZoY;rw [if_neg (by omega)]
theorem Zet {n s:Nat} {f:Nat→Nat} {x:Int} (hx:x=(f s:Nat)):(vec n fun j=>pInt (ZoY s f j)).set (s*1) (pInt x)=vec n fun j=>pInt (ZoY (s+1) f j):=by
 rw [Nat.mul_one,Zr6]
 refine ZdY fun i hi=>?_
 unfold ZoY
 by_cases e:i=s
 · subst e;rw [if_pos rfl,if_pos (by omega),hx]
 · rw [if_neg e]
   by_cases e2:i<s
   · rw [if_pos e2,if_pos (by omega)]
   · rw [if_neg e2,if_neg (by omega)]
theorem Zlw {n s:Nat} {f:Nat→Nat} (hx:f s=0):(vec n fun j=>pInt (ZoY s f j))=vec n fun j=>pInt (ZoY (s+1) f j):=by
 refine ZdY fun i hi=>?_
 unfold ZoY
 by_cases e:i=s
 · subst e;rw [if_neg (by omega),if_pos (by omega),hx];rfl
 · by_cases e2:i<s
   · rw [if_pos e2,if_pos (by omega)]
   · rw [if_neg e2,if_neg (by omega)]
theorem Zlx (n:Nat) (f:Nat→Nat):(vec n fun j=>pInt (ZoY n f j))=vec n fun j=>pInt (f j:Nat):=by
 refine ZdY fun i hi=>?_
 unfold ZoY;rw [if_pos hi]
theorem Zd7 (l:List Nat):(toI l).length=l.length:=by simp [toI]
theorem Zu1 (l:List Nat) (x:Nat):toI (l++[x])=toI l++[(x:Int)]:=by simp [toI]
theorem ZjU (e:Nat) (L:List Nat) (x:Nat):PV.own e 1 (L.length+1) ((toI L).map pInt++[pInt (x:Nat)])= .own e 1 (L++[x]).length ((toI (L++[x])).map pInt):=by simp [Zu1]
def ZqS (c:Nat→Nat) (s:Nat) (r:List Nat) (u:Nat):List Nat:=c s::(r.take u).map c
theorem Zsy {c:Nat→Nat} {s:Nat} {r:List Nat} {u x:Nat} (h:r[u]? =some x):ZqS c s r u++[c x]=ZqS c s r (u+1):=by
 unfold ZqS;rw [ζH h,List.map_append];rfl
theorem Zsz {rows:List (List Nat)} {c:Nat→Nat} {s:Nat} {r:List Nat} {u:Nat} (h:rows[s]? =some r) (hu:r.length≤u):ZqS c s r u=ZbH rows c s:=by
 unfold ZqS ZbH;rw [h,List.take_of_length_le hu];rfl
theorem Zu2 (c:Nat→Nat) (s:Nat) (r:List Nat) (u:Nat) (h:u≤r.length):(ZqS c s r u).length=u+1:=by unfold ZqS;rw [List.length_cons,List.length_map,List.length_take];omega
theorem ZxO {t:Tab} (ht:TOk t) {c:Nat→Nat} (hc:∀s,s<t.rows.length→c s≤t.rows.length) {s:Nat} (hs:s<t.rows.length):∀x∈toI (ZbH t.rows c s),0≤x∧x≤2000:=fun x hx=>by
 unfold toI at hx
 obtain ⟨y,hy,rfl⟩:=List.mem_map.1 hx
 have hn:=ht.n1
 have key:∀z,z<t.rows.length→c z≤2000:=fun z hz=>by have:=hc z hz;omega
 unfold ZbH at hy
 rcases List.mem_cons.1 hy with rfl|hy
 · have:=key s hs;omega
 · obtain ⟨z,hz,rfl⟩:=List.mem_map.1 hy
   obtain ⟨r,hr⟩:=ζm hs
   rw [hr] at hz
   have:=key z (ht.to r (List.mem_of_getElem? hr) z hz)
   omega
theorem ZoZ {rows:List (List Nat)} {c:Nat→Nat} {s:Nat} (hs:s<rows.length):Zd4 rows c s=posK id (ZbW (ZbH rows c) (s+1)) (ZbH rows c s):=(Zgw (k:=ZbH rows c) hs).1
theorem ZsA {rows:List (List Nat)} {c:Nat→Nat} {s:Nat} (hs:s<rows.length) (h:posK id (ZbW (ZbH rows c) s) (ZbH rows c s)<(ZbW (ZbH rows c) s).length):Zd4 rows c s=posK id (ZbW (ZbH rows c) s) (ZbH rows c s):=by rw [ZoZ hs,ZoC h]
theorem ZsB {rows:List (List Nat)} {c:Nat→Nat} {s:Nat} (hs:s<rows.length) (h:¬posK id (ZbW (ZbH rows c) s) (ZbH rows c s)<(ZbW (ZbH rows c) s).length):Zd4 rows c s=(ZbW (ZbH rows c) s).length:=by
 rw [ZoZ hs,ZoD h];exact Zjr h
theorem Zqi {rows:List (List Nat)} {f:Nat} {c:Nat→Nat} {k:Nat} (h:Zqc rows c=k):Zii rows (f+1) c k=Zd4 rows c:=by rw [Zii,if_pos h]
theorem Zqj {rows:List (List Nat)} {f:Nat} {c:Nat→Nat} {k:Nat} (h:¬Zqc rows c=k):Zii rows (f+1) c k=Zii rows f (Zd4 rows c) (Zqc rows c):=by rw [Zii,if_neg h]
set_option maxHeartbeats 4000000 in
theorem Zqk (t :Tab) (ht:TOk t):AF Tryz.prog 232 [Zwy t] (· = .own 3 1 t.rows.length (vec t.rows.length fun s=>pInt (ZcV t s:Nat))):=by
 have hn1:=ht.n1
 have hfl:=ht.fl
 have hm1:=ht.m1
 refine AF.of_body 92 Tryz.func232 rfl Tryz.ntmps232 (Nat.le_of_ble_eq_true rfl) ?_
 intro w0 M0 vs hl hv
 obtain ⟨v0,rfl⟩:=ZdL hl
 clear hl hv
 refine nav ?_
 (refine ζa ?_<;>refine ζE 1 3 fun h1=>?_<;>refine xL 2 ζc ?_<;>refine ζb (nav ?_)<;>try dsimp only)
 (refine ζa ?_<;>refine xL 16 (ζh 1 ZaV) ?_<;>(refine yL 17 (ζs 1 ZbB) fun v17 h=>?_;cases h)<;>refine xL 18 (ζV Zam) ?_<;>refine Ze6 19 ζi fun h19 ho19=>?_<;>refine xL 3 ζc ?_<;>refine ζb (nav ?_)<;>try dsimp only)
 refine ζv (ζD (l:=19) 303 rfl rfl) fun _=>?_
 rw [Zlv _ (ZoE t.fin)]
 (refine ζa ?_<;>refine xL 20 (ζh 1 Zbf) ?_<;>(refine yL 21 (ζs 1 ZaO) fun v21 h=>?_;cases h)<;>refine xL 22 (ζV Zbg) ?_<;>refine xL 23 ζd ?_<;>refine ζb (nav ?_)<;>try dsimp only)
 refine ζy (ι:={s:Nat//s≤t.fin.length}) (fun k=>⟨[(1,_,_),(3,_,_),(21,_,_),(22,_,_),(23, .int .i64 k.1,pInt k.1)],[(1,_,_),(303,h19, .own 3 1 t.rows.length (vec t.rows.length fun j=>pInt (ZoY k.1 (ZoE t.fin) j)))]⟩) (fun k=>t.fin.length-k.1) ⟨0,Nat.zero_le _⟩ (fun a w H=>H.weaken ⟨rfl,rfl,rfl,rfl,rfl,trivial⟩ ⟨rfl,rfl,trivial⟩) ?_
 rintro ⟨s,hs⟩
 dsimp only
 refine nav ?_
 (refine ζa ?_<;>refine xL 24 ζS ?_<;>refine ζb (nav ?_)<;>try dsimp only)
 (first|refine cCd ?_ ?_|refine cC ?_ ?_)<;>intro hb24
 · first
   |exact Bool.noConfusion hb24
   | (
    obtain ⟨b,hb⟩:=ζm (show s<t.fin.length by omega)
    have e1:=Zaf (f:=ζO) hb
    have e2:=ZfP t.rows.length (fun j=>pInt (ZoY s (ZoE t.fin) j))
    refine nav ?_
    (refine ζa ?_<;>refine xL 25 ζd ?_<;>refine xL 26 (ζJ Zbg) ?_<;>(refine yL 27 (Za3 Zds) fun v27 h=>?_;cases h)<;>refine xL 4 ζc ?_<;>refine xL 5 ζc ?_<;>refine ζb (nav ?_)<;>try dsimp only)
    (refine ζa ?_<;>refine xL 28 ζd ?_<;>refine ζb (nav ?_)<;>try dsimp only)
    (first|refine cCd ?_ ?_|refine cC ?_ ?_)<;>intro hb28
    · first
      |exact Bool.noConfusion hb28
      | (
       refine nav ?_
       (refine ζa ?_<;>refine xL 29 ζd ?_<;>refine xL 30 ζd ?_<;>refine xL 31 (Zaw 303 ζn) ?_<;>refine Zc1 303 ζj Zbq ?_<;>refine ζb (nav ?_)<;>try dsimp only)
       (refine ζa ?_<;>refine xL 32 ζM ?_<;>refine xL 23 ζd ?_<;>refine ζb (nav ?_)<;>try dsimp only)
       try rw [Zet (x:=1) (by unfold ZoE;rw [hb];show (1:Int)=((if b=true then 1 else 0:Nat):Int);rw [if_pos hb28];rfl)]
       try rw [Zlw (by unfold ZoE;rw [hb];show (if b=true then 1 else 0)=0;rw [if_neg (by simpa using hb28)])]
       refine ζl (
        ⟨s+1,by omega⟩
        ) (by dsimp only;omega) ⟨rfl,rfl,rfl,rfl,rfl,trivial⟩ ⟨rfl,rfl,trivial⟩)
    · first
      |exact Bool.noConfusion hb28
      | (
       refine nav ?_
       (refine ζa ?_<;>refine xL 32 ζM ?_<;>refine xL 23 ζd ?_<;>refine ζb (nav ?_)<;>try dsimp only)
       try rw [Zet (x:=1) (by unfold ZoE;rw [hb];show (1:Int)=((if b=true then 1 else 0:Nat):Int);rw [if_pos hb28];rfl)]
       try rw [Zlw (by unfold ZoE;rw [hb];show (if b=true then 1 else 0)=0;rw [if_neg (by simpa using hb28)])]
       refine ζl (
        ⟨s+1,by omega⟩
        ) (by dsimp only;omega) ⟨rfl,rfl,rfl,rfl,rfl,trivial⟩ ⟨rfl,rfl,trivial⟩))
 · first
   |exact Bool.noConfusion hb24
   | (
    have hsn:s=t.rows.length:=by omega
    subst hsn
    rw [Zlx]
    refine nav ?_
    (refine ζa ?_<;>refine xL 6 ζc ?_<;>refine ζb (nav ?_)<;>try dsimp only)
    refine ζy (ι:={q:Value×(Nat→Nat)×Nat×Nat//COk t.rows.length q.2.1 q.2.2.1∧Zii t.rows q.2.2.2 q.2.1 q.2.2.1=ZcV t∧t.rows.length+2≤q.2.2.2+q.2.2.1∧q.1.oneCell'=true}) (fun k=>⟨[(1,_,_),(3,k.1.1, .val k.1.1),(6, .int .i64 k.1.2.2.1,pInt k.1.2.2.1)],[(1,_,_),(303,k.1.1, .own 3 1 t.rows.length (vec t.rows.length fun j=>pInt (k.1.2.1 j:Nat)))]⟩) (fun k=>t.rows.length+2-k.1.2.2.1) ⟨(h19,ZoE t.fin,0,t.rows.length+2),COk.start _ _,rfl,by dsimp only;omega,ho19⟩ (fun a w H=>H.weaken ⟨rfl,rfl,rfl,trivial⟩ ⟨rfl,rfl,trivial⟩) ?_
    rintro ⟨⟨hv3,c,cnt,fuel⟩,hC,hit,hfu,hv3o⟩
    dsimp only
    dsimp only at hC hit hfu hv3o
    have hle:=hC.le
    have hbd:=hC.bd
    obtain ⟨f,rfl⟩:∃f,fuel=f+1:=⟨fuel-1,by omega⟩
    have hgr:=hC.grow
    have hnx:=hC.next
    refine nav ?_
    (refine ζa ?_<;>refine ZeT 33 fun h33 ho33=>?_<;>refine xL 7 ζc ?_<;>refine ζb (nav ?_)<;>try dsimp only)
    (refine ζa ?_<;>refine xL 34 ζd ?_<;>refine xL 35 (ZaC 303 ζn) ?_<;>refine Ze6 36 ζi fun h36 ho36=>?_<;>refine xL 8 ζc ?_<;>refine ζb (nav ?_)<;>try dsimp only)
    refine ζv (ζD (l:=33) 304 rfl rfl) fun _=>?_
    refine ζv (ζD (l:=36) 305 rfl rfl) fun _=>?_
    rw [Zlv _ (Zd4 t.rows c)]
    refine ζv (ζN (l:=304) (p':= .omap (skv (Zbv ZoX 0 (ZbW (ZbH t.rows c) 0)))) rfl rfl) fun _=>?_
    (refine ζa ?_<;>refine xL 37 (ζh 1 ZaV) ?_<;>(refine yL 38 (ζs 1 ZbB) fun v38 h=>?_;cases h)<;>refine xL 39 (ζV Zam) ?_<;>refine xL 40 ζd ?_<;>refine ζb (nav ?_)<;>try dsimp only)
    refine ζy (ι:={s:Nat//s≤t.rows.length}) (fun k=>⟨[(1,_,_),(3,_,_),(6,_,_),(7,_,_),(8,_,_),(38,_,_),(39,_,_),(40, .int .i64 k.1,pInt k.1)],[(1,_,_),(303,_,_),(304,h33, .omap (skv (Zbv ZoX 0 (ZbW (ZbH t.rows c) k.1)))),(305,h36, .own 3 1 t.rows.length (vec t.rows.length fun j=>pInt (ZoY k.1 (Zd4 t.rows c) j)))]⟩) (fun k=>t.rows.length-k.1) ⟨0,Nat.zero_le _⟩ (fun a w H=>H.weaken ⟨rfl,rfl,rfl,rfl,rfl,rfl,rfl,rfl,trivial⟩ ⟨rfl,rfl,rfl,rfl,trivial⟩) ?_
    rintro ⟨s,hs⟩
    dsimp only
    refine nav ?_
    (refine ζa ?_<;>refine xL 41 ζS ?_<;>refine ζb (nav ?_)<;>try dsimp only)
    (first|refine cCd ?_ ?_|refine cC ?_ ?_)<;>intro hb41
    · first
      |exact Bool.noConfusion hb41
      | (
       have hlt:s<t.rows.length:=by omega
       obtain ⟨r,hr⟩:=ζm hlt
       have e1:=Zaf (f:=ZfX) hr
       have hrl:=ht.rl r (List.mem_of_getElem? hr)
       have hrt:=ht.to r (List.mem_of_getElem? hr)
       have htl:=Zd7 r
       have e2:=Zhn (fun j=>pInt (c j:Nat)) hlt
       have e3:=ZfP t.rows.length (fun j=>pInt (ZoY s (Zd4 t.rows c) j))
       have hkl:=ZjH (ZbH t.rows c) s
       refine nav ?_
       (refine ζa ?_<;>refine xL 42 ζd ?_<;>refine xL 43 (ζJ Zam) ?_<;>(refine yL 44 (Za3 ζx) fun v44 h=>?_;cases h)<;>refine xL 9 ζc ?_<;>refine xL 10 ζc ?_<;>refine ζb (nav ?_)<;>try dsimp only)
       (refine ζa ?_<;>refine xL 45 ζd ?_<;>refine xL 46 ζd ?_<;>refine xL 47 (Zaw 303 ζn) ?_<;>(refine yL 48 (ζs 303 ζj) fun v48 h=>?_;cases h)<;>refine ζI (kk:=1) 49 ζi fun h49 ho49=>?_<;>refine xL 11 ζc ?_<;>refine ζb (nav ?_)<;>try dsimp only)
       refine ζv (ζD (l:=49) 306 rfl rfl) fun _=>?_
       refine ζv (ζN (l:=306) (p':= .own 3 1 (ZqS c s r 0).length ((toI (ZqS c s r 0)).map pInt)) rfl rfl) fun _=>?_
       refine Zba 10 rfl fun hlen10=>?_
       (refine ζa ?_<;>refine xL 50 ζd ?_<;>refine xL 51 (ζV ζn) ?_<;>refine xL 52 ζd ?_<;>refine ζb (nav ?_)<;>try dsimp only)
       refine ζy (ι:={q:Nat×Value//q.1≤r.length∧q.2.oneCell'=true}) (fun k=>⟨[(1,_,_),(3,_,_),(6,_,_),(7,_,_),(8,_,_),(9,_,_),(38,_,_),(39,_,_),(40,_,_),(50,_,_),(51,_,_),(11,k.1.2, .val k.1.2),(52, .int .i64 k.1.1,pInt k.1.1)],[(1,_,_),(303,_,_),(304,_,_),(305,_,_),(306,k.1.2, .own 3 1 (ZqS c s r k.1.1).length ((toI (ZqS c s r k.1.1)).map pInt))]⟩) (fun k=>r.length-k.1.1) ⟨(0,h49),Nat.zero_le _,ho49⟩ (fun a w H=>H.weaken ⟨rfl,rfl,rfl,rfl,rfl,rfl,rfl,rfl,rfl,rfl,rfl,rfl,rfl,trivial⟩ ⟨rfl,rfl,rfl,rfl,rfl,trivial⟩) ?_
       rintro ⟨⟨u,hv⟩,hu,hvo⟩
       dsimp only
       dsimp only at hu hvo
       have hkpl:=Zu2 c s r u hu
       refine nav ?_
       (refine ζa ?_<;>refine xL 53 ζS ?_<;>refine ζb (nav ?_)<;>try dsimp only)
       (first|refine cCd ?_ ?_|refine cC ?_ ?_)<;>intro hb53
       · first
         |exact Bool.noConfusion hb53
         | (
          obtain ⟨x,hx⟩:=ζm (show u<r.length by omega)
          have hxn:=hrt x (List.mem_of_getElem? hx)
          have e4:((toI r).map pInt)[u*1]? =some (pInt (x:Nat)):=by rw [Nat.mul_one,List.getElem?_map];unfold toI;rw [List.getElem?_map,hx];rfl
          have e5:=Zhn (fun j=>pInt (c j:Nat)) hxn
          refine nav ?_
          (refine ζa ?_<;>refine xL 54 (ζJ ζn) ?_<;>(refine yL 55 (Za3 ζj) fun v55 h=>?_;cases h)<;>refine xL 13 ζc ?_<;>refine ζb (nav ?_)<;>try dsimp only)
          (refine ζa ?_<;>refine xL 56 ζd ?_<;>refine xL 57 ζd ?_<;>refine xL 58 ζd ?_<;>refine xL 59 (Zaw 303 ζn) ?_<;>(refine yL 60 (ζs 303 ζj) fun v60 h=>?_;cases h)<;>refine ζI (kk:=1) 61 ζi fun h61 ho61=>?_<;>(refine ζY 306 61 62 ζi fun h62 ho62=>?_;refine ζq (ζD (l:=62) 306 rfl rfl) fun _=>?_;refine ζq (ζN (l:=306) rfl ((ZjU _ (ZqS c s r u) (c x)).trans (by rw [Zsy hx]))) fun _=>?_)<;>refine xL 11 ζc ?_<;>refine ζb (nav ?_)<;>try dsimp only)
          (refine ζa ?_<;>refine xL 63 ζM ?_<;>refine xL 52 ζd ?_<;>refine ζb (nav ?_)<;>try dsimp only)
          refine ζl (
           ⟨(u+1,h62),ζe hx,ho62⟩
           ) (by dsimp only;omega) ⟨rfl,rfl,rfl,rfl,rfl,rfl,rfl,rfl,rfl,rfl,rfl,rfl,rfl,trivial⟩ ⟨rfl,rfl,rfl,rfl,rfl,trivial⟩)
       · first
         |exact Bool.noConfusion hb53
         | (
          have hK:=Zsz (c:=c) hr (show r.length≤u by omega)
          rw [hK]
          have hkb:=ZxO ht hbd hlt
          have hkl2:(ZbH t.rows c s).length≤1000:=by rw [←hK,hkpl];omega
          have hid:=ZxN (ZbW (ZbH t.rows c) s) (ZbH t.rows c s)
          refine nav ?_
          refine ζv (En.freeze (l:=306) (t:=11) rfl rfl) fun _=>?_
          rw [ζL _ _ _ (by rw [Zd7])]
          (refine ζa ?_<;>refine xL 65 ζd ?_<;>refine xL 66 ζd ?_<;>(refine cS 67 (cA Tryz.call231 (Zlr (toI (ZbH t.rows c s)) (by rw [Zd7];omega) (fun x hx=>by have:=hkb x hx;omega))) fun v67 h=>?_;cases h)<;>refine xL 68 (Zwz (f:=ZoX) (L:=ZbW (ZbH t.rows c) s) (a:=ZbH t.rows c s) 304 Zdg rfl rfl) ?_<;>refine xL 64 ζd ?_<;>refine xL 69 ζf ?_<;>refine xL 70 ζf ?_<;>refine xL 14 ζc ?_<;>refine xL 15 ζc ?_<;>refine ζb (nav ?_)<;>try dsimp only)
          (refine ζa ?_<;>refine xL 71 ζd ?_<;>refine xL 72 Zak ?_<;>refine ζb (nav ?_)<;>try dsimp only)
          (first|refine cCd ?_ ?_|refine cC ?_ ?_)<;>intro hb72
          · first
            |exact Bool.noConfusion hb72
            | (
             have hnew:¬posK ZoX (ZbW (ZbH t.rows c) s) (ZoX (ZbH t.rows c s))<(ZbW (ZbH t.rows c) s).length:=by simpa using hb72
             have hnew2:=hnew
             rw [hid] at hnew2
             have hnn:=ZsB hlt hnew2
             have hff:=ZoD hnew2
             refine nav ?_
             (refine ζa ?_<;>refine xL 73 ζd ?_<;>refine xL 74 (Zje 304 Tryz.underlying251) ?_<;>refine xL 14 ζc ?_<;>refine ζb (nav ?_)<;>try dsimp only)
             (refine ζa ?_<;>refine xL 75 ζd ?_<;>refine xL 76 ζd ?_<;>(refine cS 77 (cA Tryz.call231 (Zlr (toI (ZbH t.rows c s)) (by rw [Zd7];omega) (fun x hx=>by have:=hkb x hx;omega))) fun v77 h=>?_;cases h)<;>refine xL 78 ζd ?_<;>(refine ZgT 304 Zdg ?_;rw [show Ze5 (skv (Zbv ZoX 0 (ZbW (ZbH t.rows c) s))) (.string (ZiJ (toI (ZbH t.rows c s)))) (.int .i64 ((skv (Zbv ZoX 0 (ZbW (ZbH t.rows c) s))).length:Nat))=skv (Zbv ZoX 0 (ZbW (ZbH t.rows c) (s+1))) by rw [hff];exact Zu0 hnew])<;>refine ζb (nav ?_)<;>try dsimp only)
             (refine ζa ?_<;>refine xL 79 ζd ?_<;>refine xL 80 ζd ?_<;>refine xL 81 ζd ?_<;>refine xL 82 (Zaw 305 ζn) ?_<;>refine Zc1 305 ζj Zbq ?_<;>refine ζb (nav ?_)<;>try dsimp only)
             (refine ζa ?_<;>refine xL 83 ζM ?_<;>refine xL 40 ζd ?_<;>refine ζb (nav ?_)<;>try dsimp only)
             try rw [Zet (by rw [ZbC,hnn])]
             try rw [Zet hnum,←hfo]
             refine ζl (
              ⟨s+1,by omega⟩
              ) (by dsimp only;omega) ⟨rfl,rfl,rfl,rfl,rfl,rfl,rfl,rfl,trivial⟩ ⟨rfl,rfl,rfl,rfl,trivial⟩)
          · first
            |exact Bool.noConfusion hb72
            | (
             have hold:posK ZoX (ZbW (ZbH t.rows c) s) (ZoX (ZbH t.rows c s))<(ZbW (ZbH t.rows c) s).length:=by simpa using hb72
             have hold2:=hold
             rw [hid] at hold2
             have hno:=ZsA hlt hold2
             have hfo:=ZoC hold2
             have hnum:(ZhD ZoX (ZbW (ZbH t.rows c) s) (ZbH t.rows c s):Int)=(Zd4 t.rows c s:Nat):=by unfold ZhD;rw [if_pos hold,hid,hno]
             refine nav ?_
             (refine ζa ?_<;>refine xL 79 ζd ?_<;>refine xL 80 ζd ?_<;>refine xL 81 ζd ?_<;>refine xL 82 (Zaw 305 ζn) ?_<;>refine Zc1 305 ζj Zbq ?_<;>refine ζb (nav ?_)<;>try dsimp only)
             (refine ζa ?_<;>refine xL 83 ζM ?_<;>refine xL 40 ζd ?_<;>refine ζb (nav ?_)<;>try dsimp only)
             try rw [Zet (by rw [ZbC,hnn])]
             try rw [Zet hnum,←hfo]
             refine ζl (
              ⟨s+1,by omega⟩
              ) (by dsimp only;omega) ⟨rfl,rfl,rfl,rfl,rfl,rfl,rfl,rfl,trivial⟩ ⟨rfl,rfl,rfl,rfl,trivial⟩)))
    · first
      |exact Bool.noConfusion hb41
      | (
       have hsn:s=t.rows.length:=by omega
       subst hsn
       rw [Zlx]
       refine nav ?_
       refine ζv (ζD (l:=303) 302 rfl rfl) fun _=>?_
       refine ζv (ζD (l:=305) 303 rfl rfl) fun _=>?_
       (refine ζa ?_<;>refine xL 84 ζd ?_<;>refine xL 3 ζc ?_<;>refine ζb (nav ?_)<;>try dsimp only)
       (refine ζa ?_<;>refine xL 85 ζd ?_<;>refine xL 86 (Zje 304 Tryz.underlying251) ?_<;>refine xL 87 ζd ?_<;>refine xL 88 Zag ?_<;>refine ζb (nav ?_)<;>try dsimp only)
       (first|refine cCd ?_ ?_|refine cC ?_ ?_)<;>intro hb88
       · first
         |exact Bool.noConfusion hb88
         | (
          have hcc:Zqc t.rows c=cnt:=by rw [ZbC] at hb88;unfold Zqc;omega
          refine nav ?_
          (refine ζa ?_<;>refine xL 89 ζd ?_<;>refine xL 2 ζc ?_<;>refine ζb (nav ?_)<;>try dsimp only)
          refine ZcO 303 (Tryz.results232) rfl rfl ?_
          rw [←hit,Zqi hcc])
       · first
         |exact Bool.noConfusion hb88
         | (
          have hcc:¬Zqc t.rows c=cnt:=by rw [ZbC] at hb88;unfold Zqc;omega
          refine nav ?_
          (refine ζa ?_<;>refine xL 90 ζd ?_<;>refine xL 91 (Zje 304 Tryz.underlying251) ?_<;>refine xL 6 ζc ?_<;>refine ζb (nav ?_)<;>try dsimp only)
          rw [ZbC]
          refine ζl (
           ⟨(h36,Zd4 t.rows c,Zqc t.rows c,f),hnx,by dsimp only;rw [←hit,Zqj hcc],by dsimp only;omega,ho36⟩
           ) (by have:=hnx.le;dsimp only;omega) ⟨rfl,rfl,rfl,trivial⟩ ⟨rfl,rfl,trivial⟩)))
end Go.Proofs.YtgfabnhpllkebaaGreatDoor
