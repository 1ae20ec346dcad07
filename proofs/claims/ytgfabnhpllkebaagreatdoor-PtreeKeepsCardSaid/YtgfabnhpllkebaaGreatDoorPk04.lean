/-
  Plain laws: rows and squares of truths; what is reached, by two ways. No program in sight.
  Plain laws: a square of truths is closed by passes over all triples. No program in sight.
  Plain laws: classes of what is linked, found one after the other. No program in sight.
  Plain laws: the classes are one list; lists of classes in the order of their least elements. No program in sight.
  Plain laws: labels that are pushed along links until nothing changes. No program in sight.
  Plain laws: lists in the order of a relation; a part as an ascending list; the least of a list. No program in sight.
  Plain laws: which automata are in order. No program in sight.
  Walks: automata: distances.
  Walks: automata: the graph of an automaton.
  The engine: structs of plain values are compared. No program in sight.
  The engine: what an owned thing reads as, written otherwise. No program in sight.
  Walks: automata: the words up to a length.
  Walks: the relation of a graph (package cut): squares, of, at, reach.
  Walks: reach, loops, fits, begin (package cut).
  Walks: the reference's automata: comparing moves, which are valid, sets of states.
  Walks: the reference's automata: closures, where a symbol leads, what is final, what is near.
  Walks: the reference's automata: distances, the words up to a length.
  Walks: the reference's automata: the words up to a length.
  Plain laws: tables, their classes, their minimal automata. No program in sight.
  Plain laws: lists of numbers as texts. No program in sight.
  Plain laws: moves in order; products of automata; the first word of a product. No program in sight.
  Plain laws: what minimal automata are like; complements. No program in sight.
-/
import Derived.Laws.StructEq
import Derived.Test.YtgfabnhpllkebaaGreatDoorPk03
import Derived.Test.YtgfabnhpllkebaaGreatDoorPk02
import Derived.Test.YtgfabnhpllkebaaGreatDoorPk01
namespace Go.Cb
open Go.En
set_option linter.all false
def vec {α:Type} (n:Nat) (f:Nat→α):List α:=(List.range n).map f
theorem Zis {α:Type} (n:Nat) (f:Nat→α):(vec n f).length=n:=by simp [vec]
theorem Zn9 {α:Type} {n i:Nat} (f:Nat→α) (h:i<n):(vec n f)[i]? =some (f i):=by simp [vec,h]
theorem Zoa {α:Type} {n:Nat} {l:List α} {f:Nat→α} (hl:l.length=n) (h:∀i x,l[i]? =some x→x=f i):l=vec n f:=by
 apply Vb
 intro i
 rcases Xq i n with hi|hi
 · obtain ⟨x,hx⟩:=Zaj (show i<l.length by omega);rw [hx,Zn9 f hi,h i x hx]
 · rw [XI (by omega),XI (by rw [Zis];exact hi)]
theorem Ztx {α:Type} {n a:Nat} (f:Nat→α) (b:α):(vec n f).set a b=vec n (fun i=>if i=a then b else f i):=by
 refine Zoa (by simp [vec]) fun i x hx=>?_
 have hi:=ζi hx
 rw [Xr,Zis] at hi
 rw [List.getElem?_set] at hx
 split at hx
 · rename_i e;subst e;split at hx
   · cases hx;simp
   · cases hx
 · rename_i e;rw [Zn9 f hi] at hx
   cases hx;rw [if_neg (fun h=>e h.symm)]
theorem Zey {α:Type} {n:Nat} {f g:Nat→α} (h:∀i,i<n→f i=g i):vec n f=vec n g:=
 VO fun i hi=>h i (Vk.1 hi)
theorem Zmr {α:Type} (n:Nat) (x:α):List.replicate n x=vec n (fun _=>x):=by
 refine Zoa (by simp) fun i y hy=>?_
 rw [UE] at hy
 split at hy
 · cases hy;rfl
 · cases hy
theorem ZAd {α β:Type} (n:Nat) (f:Nat→α) (g:α→β):(vec n f).map g=vec n (fun i=>g (f i)):=by simp [vec,Function.comp_def]
def Closed (n:Nat) (f T:Nat→Nat→Bool):Prop:=(∀i j,i<n→j<n→f i j=true→T i j=true)∧∀i j k,i<n→j<n→k<n→T i j=true→T j k=true→T i k=true
def cntF (n:Nat) (f:Nat→Bool):Nat:=((List.range n).filter fun i=> !f i).length
def cntM (n:Nat) (f:Nat→Nat→Bool):Nat:=((List.range n).map fun i=>cntF n (f i)).sum
structure Grows (n:Nat) (E R:Nat→Nat→Bool):Prop where
 lo:∀i j,i<n→j<n→E i j=true→R i j=true
 hi:∀T,Closed n E T→∀i j,i<n→j<n→R i j=true→T i j=true
def Before (a b c a' b' c':Nat):Prop:=a'<a∨(a'=a∧(b'<b∨(b'=b∧c'<c)))
structure Pass (n:Nat) (E R0 R:Nat→Nat→Bool) (ag:Bool) (a b c:Nat):Prop where
 gr:Grows n E R
 dn:ag=true→cntM n R<cntM n R0
 st:ag=false→R=R0∧∀a' b' c',a'<n→b'<n→c'<n→Before a b c a' b' c'→R0 a' b'=true→R0 b' c'=true→R0 a' c'=true
def Conn (l:List Int) (r:Int→Int→Bool) (x y:Int):Prop:=∀P:Int→Prop,(∀a b,a∈l→b∈l→(r a b=true∨r b a=true)→P a→P b)→P x→P y
theorem nodup_len {α:Type} [BEq α] [LawfulBEq α]:∀{l m:List α},l.Nodup→(∀x∈l,x∈m)→l.length≤m.length
 |[],m,_,_=>Xf _
 | x ::l,m,h,hs=>by
   rw [Vs] at h;have hx:=hs x (by simp);have h1:=nodup_len (l:=l) (m:=m.erase x) h.2 fun y hy=>by
    have hne:y≠x:=fun e=>h.1 (e▸hy);exact (List.mem_erase_of_ne hne).2 (hs y (by simp [hy]))
   rw [UF hx] at h1;have:=List.length_pos_of_mem hx;simp only [Xc];omega
structure Comps (l:List Int) (r:Int→Int→Bool) (cs:List (List Int)):Prop where
 mem:∀x,x∈cs.flatten↔x∈l
 nd:cs.flatten.Nodup
 ne:∀c∈cs,c≠[]
 asc:∀c∈cs,c.Pairwise (· < ·)
 conn:∀c∈cs,∀x∈c,∀y∈c,Conn l r x y
 clos:∀c∈cs,∀x∈c,∀y∈l,(r x y=true∨r y x=true)→y∈c
 ord:cs.Pairwise fun c d=>∀x y,c.head? =some x→d.head? =some y→x<y
structure Part (l:List Int) (r:Int→Int→Bool) (cs:List (List Int)) (k:Nat):Prop where
 sub:∀x∈cs.flatten,x∈l
 did:∀j x,j<k→l[j]? =some x→x∈cs.flatten
 nd:cs.flatten.Nodup
 ne:∀c∈cs,c≠[]
 asc:∀c∈cs,c.Pairwise (· < ·)
 conn:∀c∈cs,∀x∈c,∀y∈c,Conn l r x y
 clos:∀c∈cs,∀x∈c,∀y∈l,(r x y=true∨r y x=true)→y∈c
 ord:cs.Pairwise fun c d=>∀x y,c.head? =some x→d.head? =some y→x<y
 hd:∀c∈cs,∀x,c.head? =some x→∃j,j<k∧l[j]? =some x
structure Mk (l:List Int) (r:Int→Int→Bool) (cs:List (List Int)) (first:Int) (tk cl:List Int) (i q:Nat):Prop where
 tkm:∀z,z∈tk↔z∈cs.flatten∨z∈cl
 nd:(cs.flatten++cl).Nodup
 sub:∀z∈cl,z∈l
 con:∀z∈cl,Conn l r first z
 fst:first∈cl
 il:i≤cl.length
 did:∀j x,j<i→cl[j]? =some x→∀y∈l,(r x y=true∨r y x=true)→y∈tk
 now:∀x,cl[i]? =some x→∀p y,p<q→l[p]? =some y→(r x y=true∨r y x=true)→y∈tk
def sumTo:Nat→(Nat→Nat)→Nat
 |0,_=>0
 |n+1,f=>sumTo n f+f n
def marked (n:Nat) (I:Nat→Bool):List Int:=((List.range n).map fun i:Nat=>(i:Int)).filter fun x=>I x.toNat
structure LabOk (n:Nat) (I:Nat→Bool) (r:Int→Int→Bool) (lab:Nat→Nat):Prop where
 le:∀i,i<n→lab i≤i
 inn:∀i,i<n→I i=true→I (lab i)=true
 conn:∀i,i<n→I i=true→Conn (marked n I) r (lab i) i
def good (n:Nat) (I:Nat→Bool) (t:Nat→Nat→Bool) (lab:Nat→Nat) (a b:Nat):Prop:=a≠b→I a=true→I b=true→t a b=true→lab a=lab b
structure LabPass (n:Nat) (I:Nat→Bool) (r:Int→Int→Bool) (t:Nat→Nat→Bool) (lab0 lab:Nat→Nat) (ag:Bool) (a b:Nat):Prop where
 ok:LabOk n I r lab
 les:ag=true→sumTo n lab<sumTo n lab0
 eq:ag=false→lab=lab0∧∀x y,(x<a∧y<n∨x=a∧y<b)→good n I t lab x y
structure Fix (n:Nat) (I:Nat→Bool) (r:Int→Int→Bool) (t:Nat→Nat→Bool) (lab:Nat→Nat):Prop where
 ok:LabOk n I r lab
 st:∀x y,x<n→y<n→good n I t lab x y
end Go.Cb
namespace Go.Proofs.YtgfabnhpllkebaaGreatDoor
open Go.RowKit Go.Cb Go.En
set_option linter.all false
theorem ZkW {a b:Int}:Zmj a b<0↔a<b:=by unfold Zmj;split<;>(try split)<;>omega
theorem Zez {a b:Int}:Zmj a b=0↔a=b:=by unfold Zmj;split<;>(try split)<;>omega
theorem ZcQ {a b:Mv}:Zd3 a b=true↔a.src<b.src∨(a.src=b.src∧(a.sym<b.sym∨(a.sym=b.sym∧a.dst<b.dst))):=by
 unfold Zd3 Zfs
 rw [decide_eq_true_eq]
 by_cases h1:Zmj a.src b.src=0
 · have e1:=Zez.1 h1;by_cases h2:Zmj a.sym b.sym=0
   · have e2:=Zez.1 h2;have h3:=ZkW (a:=a.dst) (b:=b.dst);by_cases h4:Zmj a.dst b.dst=0
     · have e4:=Zez.1 h4;simp only [ZcI,h1,h2,h4,if_true];omega
     · simp only [ZcI,h1,h2,h4,if_true,if_false];omega
   · have h3:=ZkW (a:=a.sym) (b:=b.sym);have h4:¬a.sym=b.sym:=fun e=>h2 (Zez.2 e);simp only [ZcI,h1,h2,if_true,if_false];omega
 · have h3:=ZkW (a:=a.src) (b:=b.src);have h4:¬a.src=b.src:=fun e=>h1 (Zez.2 e);simp only [ZcI,h1,if_false];omega
theorem Zju {α:Type} {r:α→α→Bool} {l:List α} (h:Zbz r l=true) (hi:∀a∈l,r a a=false) (ht:∀a∈l,∀b∈l,∀c∈l,r a b=true→r b c=true→r a c=true):l.Pairwise fun a b=>r a b=true:=by
 induction l with
 |nil=>exact .nil
 | cons x l ih=>
   have h1:∀i a b,(x::l)[i]? =some a→(x::l)[i+1]? =some b→r a b=true:=(ZdB r _).1 h;have h2:=ih ((ZdB r l).2 fun i a b ha hb=>h1 (i+1) a b ha hb) (fun a ha=>hi a (Xj _ ha)) (fun a ha b hb c hc=>ht a (Xj _ ha) b (Xj _ hb) c (Xj _ hc));refine XO.2 ⟨fun y hy=>?_,h2⟩
   cases l with
   |nil=>simp at hy
   | cons z l=>
     have h3:=h1 0 x z rfl rfl;rcases Xm.1 hy with rfl|hy2
     · exact h3
     · exact ht x (by simp) z (by simp) y (Xj _ hy) h3 ((XO.1 h2).1 y hy2)
structure AOk (a:Aut):Prop where
 n0:0≤a.n
 n1:a.n≤2000
 s0:0≤a.syms
 s1:a.syms≤40
 ml:a.moves.length≤20000
 st:InS a a.start
 fi:InS a a.fin
 sl:a.start.length≤2000
 fl:a.fin.length≤2000
 mv:∀m∈a.moves,0≤m.src∧m.src<a.n∧0≤m.dst∧m.dst<a.n∧-1≤m.sym∧m.sym<a.syms
theorem AOk.mi {a:Aut} (h:AOk a):ZpR a:=fun m hm=>by have:=h.mv m hm;omega
theorem Zob {n:Int} {l:List Int} (h:ZkS n l=true):∀s∈l,0≤s∧s<n:=fun s hs=>by
 unfold ZkS at h
 simp only [Xe,Xy,decide_eq_true_eq] at h
 exact h.1 s hs
theorem ZpU {n:Int} {l:List Int} (h:ZkS n l=true) (h0:0≤n) (hn:n≤2000):l.length≤2000:=by
 have h1:=Zob h
 unfold ZkS at h
 simp only [Xe] at h
 have h2:=Zju h.2 (fun a _=>by unfold ltI;exact decide_eq_false (by omega)) (fun a _ b _ c _ h1 h2=>by
  unfold ltI at*;simp only [decide_eq_true_eq] at*;omega)
 have:=nodup_len 2000 l (h2.imp fun h=>by unfold ltI at h;simp only [decide_eq_true_eq] at h;omega) fun s hs=>by have:=h1 s hs;omega
 exact this
theorem Zty {a:Aut} (h:Zas a=true):AOk a:=by
 unfold Zas at h
 simp only [Xe,decide_eq_true_eq] at h
 obtain ⟨⟨⟨⟨⟨⟨⟨⟨h1,h2⟩,h3⟩,h4⟩,h5⟩,h6⟩,h7⟩,h8⟩,h9⟩:=h
 refine ⟨h1,h2,h3,h4,h5,Zob h6,Zob h7,ZpU h6 h1 h2,ZpU h7 h1 h2,fun m hm=>?_⟩
 have:=Xy.1 h8 m hm
 unfold Ztp at this
 simp only [Xe,decide_eq_true_eq] at this
 omega
set_option maxRecDepth 100000
theorem ZCw {a:Aut} (h:0≤a.n):Zap a= .agg [pInt (a.n.toNat:Nat),pInt a.syms,pInts a.start,pInts a.fin,pMvs a.moves]:=by
 unfold Zap;rw [show ((a.n.toNat:Nat):Int)=a.n by omega]
structure PassI (a:Aut) (far0 L:List Int) (fl:Bool) (i:Nat):Prop where
 eq:L=passF (a.moves.take i) far0
 ok:FarOk a.n.toNat L
 no:fl=false→L=far0
 yes:fl=true→sumF a.n.toNat L<sumF a.n.toNat far0
theorem Ze0:ElT Tryz.prog 139 4 1 1 (.bool false):=⟨Tryz.underlying139,by kernel_rfl,rfl,by decide⟩
theorem ZjR:ElT Tryz.prog 194 37 1 24 (.slice none 0 0):=⟨Tryz.underlying194,by kernel_rfl,rfl,by decide⟩
theorem ζR:ElT Tryz.prog 37 93 3 24 (.agg #[(.int .i64 0),(.int .i64 0),(.int .i64 0)]):=⟨Tryz.underlying37,by kernel_rfl,rfl,by decide⟩
theorem ZjS:ZaZ Tryz.prog 196=some ((.agg #[(.int .i64 0),(.slice none 0 0),(.slice none 0 0)]),([0,1,2]:List Nat).map fun o=>(o,1)):=by kernel_rfl
theorem Za6:(Tryz.prog.info? 37).map (·.size)=some 1:=by kernel_rfl
theorem ZwU:(Tryz.prog.info? 4).map (·.size)=some 1:=by kernel_rfl
def Zy4 (e:Nat) (l:List Mv):PV:= .own e 3 l.length (l.flatMap cMv)
theorem Ztz (e:Nat) (l:List Mv):share (Zy4 e l)=pMvs l:=by
 unfold Zy4
 rw [share,Zac,Uv];rfl
def Zd4 (ms:List Mv) (s:Nat):List Mv:=ms.filter fun m=>decide (m.src=(s:Int))
def ZdG (e n:Nat) (ms:List Mv):List PV:=(List.range n).map fun s=>Zy4 e (Zd4 ms s)
theorem ZbU (e n:Nat) (ms:List Mv):(ZdG e n ms).length=n:=by unfold ZdG;simp
theorem ZfZ (e:Nat) {n s:Nat} (ms:List Mv) (h:s<n):(ZdG e n ms)[s]? =some (Zy4 e (Zd4 ms s)):=by
 unfold ZdG;rw [Xl,Ue h];rfl
theorem Zoc (e:Nat) {n:Nat} {ms:List Mv} {m:Mv} (h0:0≤m.src) (h:m.src<n):(ZdG e n ms).set m.src.toNat (Zy4 e (Zd4 ms m.src.toNat++[m]))=ZdG e n (ms++[m]):=by
 apply Vb
 intro s
 rcases Xq s n with hs|hs
 · rw [ZfZ e _ hs];by_cases e1:m.src.toNat=s
   · subst e1;rw [X1 (by rw [ZbU];exact hs)];congr 2;unfold Zd4;rw [VF];congr 1;simp only [List.filter_cons,List.filter_nil];rw [decide_eq_true (show m.src=((m.src.toNat:Nat):Int) by omega)];rfl
   · rw [X' e1,ZfZ e _ hs];congr 2;unfold Zd4;rw [VF];simp only [List.filter_cons,List.filter_nil];rw [decide_eq_false (show ¬m.src=(s:Int) by omega)];simp
 · rw [XI (by rw [Xr,ZbU];exact hs),XI (by rw [ZbU];exact hs)]
theorem ZwV (e n:Nat):∀(i:Nat) (p p':PV),(List.replicate n (PV.val (.slice none 0 0)))[i]? =some p→(ZdG e n [])[i]? =some p'→ZCp p p':=fun i p p' h1 h2=>by
 have hi:=ζi h2
 rw [ZbU] at hi
 rw [ZfZ e _ hi] at h2
 rw [UE,if_pos hi] at h1
 cases h1;cases h2
 exact .inr ⟨rfl,e,3,rfl⟩
theorem Zod (ms:List Mv) (s:Nat):(Zd4 ms s).length≤ms.length:=Ut _ _
def Zjv (a:Aut) (k:Nat):List PV:=(List.range a.n.toNat).map fun s=>ζ7 ((a.fin.take k).any fun t=>decide (t=(s:Nat)))
theorem ZeA (a:Aut) (k:Nat):(Zjv a k).length=a.n.toNat:=by unfold Zjv;simp
theorem ZkX {a:Aut} {k s:Nat} (h:s<a.n.toNat):(Zjv a k)[s]? =some (ζ7 ((a.fin.take k).any fun t=>decide (t=(s:Nat)))):=by
 unfold Zjv;rw [Xl,Ue h];rfl
theorem ZrB {a:Aut} {k:Nat} {t:Int} (ht:a.fin[k]? =some t) (h0:0≤t):(Zjv a k).set t.toNat (ζ7 true)=Zjv a (k+1):=by
 apply Vb
 intro s
 rcases Xq s a.n.toNat with hs|hs
 · rw [ZkX hs];rw [ζU ht,List.any_append];simp only [List.any_cons,List.any_nil,Bool.or_false];by_cases e:t.toNat=s
   · subst e;rw [X1 (by rw [ZeA];exact hs),decide_eq_true (show t=((t.toNat:Nat):Int) by omega),Bool.or_true]
   · rw [X' e,ZkX hs,decide_eq_false (show ¬t=(s:Int) by omega),Bool.or_false]
 · rw [XI (by rw [Xr,ZeA];exact hs),XI (by rw [ZeA];exact hs)]
theorem ZrC (a:Aut):List.replicate a.n.toNat (PV.val (.bool false))=Zjv a 0:=by
 apply Vb
 intro s
 rcases Xq s a.n.toNat with hs|hs
 · rw [ZkX hs,UE,if_pos hs];rfl
 · rw [XI (by rw [XK];exact hs),XI (by rw [ZeA];exact hs)]
theorem ZwW (e0 e1 e2:Nat) (a:Aut) {k1 k2:Nat} (h1:a.moves.length≤k1) (h2:a.fin.length≤k2):Zdz [pInt a.syms,PV.own e0 1 a.n.toNat (ZdG e1 a.n.toNat (a.moves.take k1)),PV.own e2 1 a.n.toNat (Zjv a k2)]=[pInt a.syms,Zn5 a,Zz8 a]:=by
 rw [Xn h1]
 simp only [Zdz,share]
 congr 1
 congr 1
 · unfold Zn5 ZdG;rw [Zac,XN];congr 1;exact VO fun s _=>Ztz e1 _
 · congr 1;unfold Zz8 Zjv;rw [Zac,XN,Xn h2];rfl
theorem ZwX (e:Nat) (L:List Mv) (x:Mv):PV.own e 3 (L.length+1) (L.flatMap cMv++cMv x)=Zy4 e (L++[x]):=by unfold Zy4;simp
set_option maxHeartbeats 2000000 in
theorem ZrD (a:Aut) (h:AOk a):AF Tryz.prog 110 [Zap a] (· =pGr a):=by
 have hn0:=h.n0
 have hn1:=h.n1
 have hml:=h.ml
 have hfl:=h.fl
 rw [ZCw h.n0]
 refine AF.of_body 59 Tryz.func110 rfl Tryz.ntmps110 (Xa rfl) ?_
 intro w0 M0 vs hl hv
 obtain ⟨v0,rfl⟩:=ZcP hl
 clear hl hv
 refine nav ?_
 (refine ζa ?_<;>refine ζS 1 5 fun h1=>?_<;>refine xL 2 ζc ?_<;>refine ζd ?_)
 (refine ζV (fun i=>([]:List Nat).elem i) [1] kR ?_<;>refine xD 0 8 rfl (ζe 1 Zam) ?_<;>(refine yD 1 9 rfl (ζk 1 ζn) fun v9 h=>?_;cases h)<;>refine xD 2 10 rfl (ζe 1 ζX) ?_<;>(refine yD 3 11 rfl (ζk 1 ζn) fun v11 h=>?_;cases h)<;>refine xD 5 13 rfl (ζe 1 ζX) ?_<;>(refine yD 6 14 rfl (ζk 1 ζn) fun v14 h=>?_;cases h)<;>(refine Zat 4 7 kR ?_ ?_;rotate_right;(focus ((refine ζg rfl fun w9 M9 N9 DQ back=>?_)<;>refine Zih 15 Ze0 fun h15 ho15=>?_<;>refine ζf (back _ (nrm ?_))<;>(refine ζj 4 kR ?_)<;>(refine ζg rfl fun w9 M9 N9 DQ back=>?_)<;>refine Zih 12 ZjR fun h12 ho12=>?_<;>refine ζf (back _ (nrm ?_))<;>refine xE 8 16 rfl (ζB ZjS) ?_<;>(refine ζj 9 kR ?_)<;>(refine ζg rfl fun w9 M9 N9 DQ back=>?_)<;>refine ζS 17 3 fun h17=>?_<;>refine ζf (back _ (nrm ?_))<;>(refine ζj 10 kR ?_)<;>(refine ζg rfl fun w9 M9 N9 DQ back=>?_)<;>refine xL 3 ζc ?_<;>refine ζf (back _ (nrm ?_))));rotate_right;(focus ((refine ζg rfl fun w9 M9 N9 DQ back=>?_)<;>refine Zih 12 ZjR fun h12 ho12=>?_<;>refine ζf (back _ (nrm ?_))<;>(refine ζj 7 kR ?_)<;>(refine ζg rfl fun w9 M9 N9 DQ back=>?_)<;>refine Zih 15 Ze0 fun h15 ho15=>?_<;>refine ζf (back _ (nrm ?_))<;>refine xE 8 16 rfl (ζB ZjS) ?_<;>(refine ζj 9 kR ?_)<;>(refine ζg rfl fun w9 M9 N9 DQ back=>?_)<;>refine ζS 17 3 fun h17=>?_<;>refine ζf (back _ (nrm ?_))<;>(refine ζj 10 kR ?_)<;>(refine ζg rfl fun w9 M9 N9 DQ back=>?_)<;>refine xL 3 ζc ?_<;>refine ζf (back _ (nrm ?_)))))<;>refine Zae kR (nav ?_)<;>try dsimp only)<;>(
  refine ζC (ZfU (l:=12) (ZdG 93 a.n.toNat []) rfl (by rw [ZbU,XK]) (ZwV _ _)) fun _=>?_;rw [ZrC a];(refine ζa ?_<;>refine xL 18 (ζe 1 ζw) ?_<;>(refine yL 19 (ζk 1 ζF) fun v19 h=>?_;cases h)<;>refine xL 20 (ζ9 ζG) (xL 21 ζb ?_)<;>refine ζd ?_)
  refine ζD (ι:={q:Nat//q≤a.moves.length}) (fun k=>⟨[(1,_,_),(2,_,_),(3,_,_),(19,_,_),(20,_,_),(21, .int .i64 k.1,pInt k.1)],[(1,_,_),(15,_,_),(17,h17, .own 196 3 1 [pInt a.syms, .val h12, .val h15]),(12,h12, .own 37 1 a.n.toNat (ZdG 93 a.n.toNat (a.moves.take k.1)))]⟩) (fun k=>a.moves.length-k.1) ⟨0,Xf _⟩ (fun a w H=>H.weaken ⟨rfl,rfl,rfl,rfl,rfl,rfl,trivial⟩ ⟨rfl,rfl,rfl,rfl,trivial⟩) ?_;rintro ⟨k,hk⟩;dsimp only;refine nav ?_;(refine ζa ?_<;>refine xL 22 ζP ?_<;>refine ζd ?_)
  (first|refine cCd ?_ ?_|refine cC ?_ ?_)<;>intro hb22
  · first
    |exact bN hb22
    | (
     obtain ⟨m,hm⟩:=ζo (show k<a.moves.length by omega);have e1:=Zad ζ0 a.moves k m hm;have e2:=ZaE ζ0 hm;have hmv:=h.mv m (Xg hm);(have hi:m.src.toNat<a.n.toNat:=by omega);refine nav ?_;(refine ζa ?_<;>refine xL 23 (ζW ζG) ?_<;>(refine yL 24 (Zby ζT) fun v24 h=>?_;cases h)<;>refine ζs [(.int .i64 0),(.int .i64 0),(.int .i64 0)] 3 5 Zc1 fun h5=>?_<;>refine ζt 5 ζT ?_<;>refine ζd ?_)
     refine ζC (ZfV (l:=12) (l':=201) (j:=m.src.toNat) rfl (ZfZ _ _ hi) rfl rfl) fun i=>?_;obtain ⟨m1,hm1⟩:=i;dsimp only;(have e3:((ZdG 93 a.n.toNat (a.moves.take k)).set m.src.toNat (.val m1))[m.src.toNat*1]? =some (.val m1):=by rw [XJ,X1 (by rw [ZbU];exact hi)]);(have e4:((ZdG 93 a.n.toNat (a.moves.take k)).set m.src.toNat (.val m1)).length=a.n.toNat:=by rw [Xr,ZbU]);have e5:=Zod (a.moves.take k) m.src.toNat;rw [Xt] at e5;(refine ζV (fun i=>([18]:List Nat).elem i) [5,12,17] kR ?_<;>refine xD 0 25 rfl ζb ?_<;>refine xD 1 26 rfl (ζQ 17) ?_<;>refine xD 2 27 rfl (ζe 17 Zdd) ?_<;>(refine yD 3 28 rfl (ζk 17 ZeX) fun v28 h=>?_;cases h)<;>refine xD 4 29 rfl (ζe 5 Zaz) ?_<;>(refine yD 5 30 rfl (ζk 5 ζn) fun v30 h=>?_;cases h)<;>refine xD 6 31 rfl ζb ?_<;>refine xD 7 32 rfl (ζQ 17) ?_<;>refine xD 8 33 rfl (ζe 17 Zdd) ?_<;>(refine yD 9 34 rfl (ζk 17 ZeX) fun v34 h=>?_;cases h)<;>refine xD 10 35 rfl (ζe 5 Zaz) ?_<;>(refine yD 11 36 rfl (ζk 5 ζn) fun v36 h=>?_;cases h)<;>refine xD 12 37 rfl (Zma 12 ZeY) ?_<;>(refine yD 13 38 rfl (ζk 12 ζF) fun v38 h=>?_;cases h)<;>(refine yE 14 39 rfl (ζm 5 ζT) fun v39 h=>?_;cases h)<;>(refine ζj 15 kR ?_)<;>(refine ζg rfl fun w9 M9 N9 DQ back=>?_)<;>refine Zbi 40 ζR fun h40 ho40=>?_<;>refine ζf (back _ (nrm ?_))<;>(refine ζj 16 kR ?_)<;>(refine ζg rfl fun w9 M9 N9 DQ back=>?_)<;>refine ZbH 201 40 41 ζR fun h41 ho41=>?_<;>refine ζf (back _ (nrm ?_))<;>refine xE 17 42 rfl (Zma 12 ZeY) ?_<;>(refine ζj 18 kR ?_)<;>(refine ZkJ rfl rfl kR fun DQ back=>?_)<;>refine Zb7 12 ζF Za6 ?_<;>refine ζf (back _ (nav ?_))<;>try dsimp only)
     (refine ζa ?_<;>refine xL 43 ζM (xL 21 ζb ?_)<;>refine ζd ?_)
     refine Zg2 (ZDI (l:=12) (l':=41) (j:=m.src.toNat) rfl (by rw [XJ];exact X1 (by rw [Xr,ZbU];exact hi)) rfl rfl) fun _=>?_;rw [XJ,List.set_set,List.set_set];rw [show List.take 3 (List.drop 0 (Zhu (List.map PV.val [Value.int IntKind.i64 0,Value.int IntKind.i64 0,Value.int IntKind.i64 0]) 0 (cMv m)))=cMv m from rfl];rw [show PV.own 93 3 ((Zd4 (a.moves.take k) m.src.toNat).length+1) ((Zd4 (a.moves.take k) m.src.toNat).flatMap cMv++cMv m)=Zy4 93 (Zd4 (a.moves.take k) m.src.toNat++[m]) from ZwX _ _ _];rw [Zoc _ (by omega) (by omega),←ζU hm];refine ζh (
      ⟨k+1,ζi hm⟩
      ) (by dsimp only;omega) ⟨rfl,rfl,rfl,rfl,rfl,rfl,trivial⟩ ⟨rfl,rfl,rfl,rfl,trivial⟩)
  · first
    |exact bN hb22
    | (
     refine nav ?_;(refine ζa ?_<;>refine xL 44 (ζe 1 Zab) ?_<;>(refine yL 45 (ζk 1 ζH) fun v45 h=>?_;cases h)<;>refine xL 46 (ζ9 ζx) (xL 47 ζb ?_)<;>refine ζd ?_)
     refine ζD (ι:={q:Nat//q≤a.fin.length}) (fun k=>⟨[(1,_,_),(2,_,_),(3,_,_),(45,_,_),(46,_,_),(47, .int .i64 k.1,pInt k.1)],[(1,_,_),(12,_,_),(17,h17, .own 196 3 1 [pInt a.syms, .val h12, .val h15]),(15,h15, .own 4 1 a.n.toNat (Zjv a k.1))]⟩) (fun k=>a.fin.length-k.1) ⟨0,Xf _⟩ (fun a w H=>H.weaken ⟨rfl,rfl,rfl,rfl,rfl,rfl,trivial⟩ ⟨rfl,rfl,rfl,rfl,trivial⟩) ?_;rintro ⟨k8,hk8⟩;dsimp only;refine nav ?_;(refine ζa ?_<;>refine xL 48 ζP ?_<;>refine ζd ?_)
     (first|refine cCd ?_ ?_|refine cC ?_ ?_)<;>intro hb48
     · first
       |exact bN hb48
       | (
        obtain ⟨t,ht⟩:=ζo (show k8<a.fin.length by omega);have e1:=Zbd (f:=pInt) ht;have ht2:=h.fi t (Xg ht);have e6:=ZeA a k8;refine nav ?_;(refine ζa ?_<;>refine xL 49 (ζW ζx) ?_<;>(refine yL 50 (Zc6 ζn) fun v50 h=>?_;cases h)<;>refine xL 7 ζc ?_<;>refine ζd ?_)
        (refine ζa ?_<;>refine xL 51 ζb (xL 52 (ζQ 17) (xL 53 (ζe 17 Zg5) ?_))<;>(refine yL 54 (ζk 17 ZcU) fun v54 h=>?_;cases h)<;>refine xL 55 ζb (xL 56 (Zma 15 ZdD) ?_)<;>refine Zb7 15 ZhI ZwU ?_<;>refine ζd ?_)
        (refine ζa ?_<;>refine xL 57 ζM (xL 47 ζb ?_)<;>refine ζd ?_)
        rw [XJ,ZrB ht ht2.1];refine ζh (
         ⟨k8+1,ζi ht⟩
         ) (by dsimp only;omega) ⟨rfl,rfl,rfl,rfl,rfl,rfl,trivial⟩ ⟨rfl,rfl,rfl,rfl,trivial⟩)
     · first
       |exact bN hb48
       | (
        refine nav ?_;(refine ζa ?_<;>refine xL 58 ζb (xL 2 ζc ?_)<;>refine ζd ?_)
        refine Zcr (ZDI (l:=17) (l':=12) (j:=1) rfl rfl rfl rfl) fun _=>?_;refine Zcr (ZDI (l:=17) (l':=15) (j:=2) rfl rfl rfl rfl) fun _=>?_;refine Zcr (Ztg (l:=17) (t:=2) (j:=0) rfl Nat.one_pos rfl) fun _=>?_;refine ζp (Tryz.results110) rfl ?_;exact congrArg (PV.sptr 0) (ZwW _ _ _ a (by omega) (by omega)))))
end Go.Proofs.YtgfabnhpllkebaaGreatDoor
namespace Go.En
open Go.RowKit Go.Cb
set_option linter.all false
section
variable {P:Program} {st:St} {o:Oper}
theorem Zf0 {M:BS} {w:World} {v:Value} {us:List Value} (h:Shr M w v (.agg (us.map PV.val))):v= .agg us.toArray:=by
 generalize hp:PV.agg (us.map PV.val)=p at h
 cases h with
 | agg vs ps hl hT=>
   cases hp;congr 2;apply Vb;intro i;rw [Xh] at hl;rcases Xq i us.length with hi|hi
   · obtain ⟨u,hu⟩:=Zaj hi;obtain ⟨x,hx⟩:=Zai hu hl.symm;have h1:=hT i x (.val u) hx (by rw [Xl,hu];rfl);have h2:x=u:=h1.vOf;rw [hx,hu,h2]
   · rw [XI hi,XI (by omega)]
 |_=>cases hp
theorem ZtA {t r:Nat} {x y:Operand} {v v':Value} {us us':List Value} {b:Bool} (ht:P.underlying t=some (.struct (P.fieldsOf t))) (hp:P.stoodInHeld t=false) (hg:P.eqGuardType P.depth t=false)
 (hE:∀w,(Op.eqFields 9999 us.toArray us'.toArray (P.fieldsOf t).toList).run P w= .ok b w) (hx:ev st.slots x=some (v, .agg (us.map PV.val))) (hy:ev st.slots y=some (v', .agg (us'.map PV.val))) (ho:o.op= .binOp .eql t x y r:=by exact rfl):YE P st o (· = .bool b) (.val (.bool b)):=
 .exact fun M F a w H=>⟨.val _,by
  obtain ⟨h1,h2⟩:=H.ev hx;obtain ⟨h3,h4⟩:=H.ev hy;have e1:=Zf0 h2;have e2:=Zf0 h4;subst e1 e2;have hr:(Op.equalIn 10000 t (.agg us.toArray) (.agg us'.toArray)).run P w= .ok b w:=by rw [run_equalIn_struct w 9999 t _ _ ht hp];exact hE w
  simp [execOp,ho,h1,h3,run_eqGuard_agg w .eql t x y us.toArray us'.toArray hg,run_eql_struct,hr]⟩
theorem ZCx {t r:Nat} {x y:Operand} {v v':Value} {us us':List Value} {b:Bool} (ht:P.underlying t=some (.struct (P.fieldsOf t))) (hp:P.stoodInHeld t=false) (hg:P.eqGuardType P.depth t=false)
 (hE:∀w,(Op.eqFields 9999 us.toArray us'.toArray (P.fieldsOf t).toList).run P w= .ok b w) (hx:ev st.slots x=some (v, .agg (us.map PV.val))) (hy:ev st.slots y=some (v', .agg (us'.map PV.val))) (ho:o.op= .binOp .neq t x y r:=by exact rfl):YE P st o (· = .bool (!b)) (.val (.bool (!b))):=
 .exact fun M F a w H=>⟨.val _,by
  obtain ⟨h1,h2⟩:=H.ev hx;obtain ⟨h3,h4⟩:=H.ev hy;have e1:=Zf0 h2;have e2:=Zf0 h4;subst e1 e2;have hr:(Op.equalIn 10000 t (.agg us.toArray) (.agg us'.toArray)).run P w= .ok b w:=by rw [run_equalIn_struct w 9999 t _ _ ht hp];exact hE w
  simp [execOp,ho,h1,h3,run_eqGuard_agg w .neq t x y us.toArray us'.toArray hg,run_neq_struct,hr]⟩
end
theorem ζI {sL hP:List (Nat×Ent)} {l:Nat} {h:Value} {p p':PV} (hl:lk hP l=some (h,p)) (e:p=p'):ZlY (⟨sL,hP⟩:St) (fun _:Unit=>⟨sL,put l (h,p') hP⟩):=fun c a w ⟨F,H⟩=>by
 subst e
 refine ⟨(),F,H.less (fun t x h=>h) fun t x ht=>?_⟩
 rcases Zag ht with ⟨rfl,e1⟩|⟨_,h1⟩
 · rw [hl,e1]
 · exact h1
theorem Zel {sL hP:List (Nat×Ent)} {t:Nat} {v:Value} {p p':PV} (hl:lk sL t=some (v,p)) (e:p=p'):ZlY (⟨sL,hP⟩:St) (fun _:Unit=>⟨put t (v,p') sL,hP⟩):=fun c a w ⟨F,H⟩=>by
 subst e
 refine ⟨(),F,H.less (fun s x ht=>?_) (fun t x h=>h)⟩
 rcases Zag ht with ⟨rfl,e1⟩|⟨_,h1⟩
 · rw [hl,e1]
 · exact h1
theorem Zy5 {sL hP:List (Nat×Ent)} {t:Nat} {q:PV} (ht:lk sL t=some (.slice none 0 0,q)):ZlY (⟨sL,hP⟩:St) (fun _:Unit=>⟨put t (.slice none 0 0, .sl 0 []) sL,hP⟩):=fun c a w ⟨F,H⟩=>by
 refine ⟨(),F,H.toHeapF,fun s u r hs=>?_,H.size,H.df⟩
 rcases Zag hs with ⟨rfl,e1⟩|⟨_,hs'⟩
 · cases e1;exact ⟨(H.sl t _ _ ht).1, .emp none 0 (by unfold maxLen;omega) (fun _=>rfl)⟩
 · exact H.sl s u r hs'
end Go.En
namespace Go.Proofs.YtgfabnhpllkebaaGreatDoor
open Go.RowKit Go.Cb Go.En
set_option linter.all false
set_option maxRecDepth 100000
theorem ZCy (e:Nat) (L:List (List Int)) (x:List Int):PV.own e 1 (L.length+1) (L.map pInts++[pInts x])= .own e 1 (L++[x]).length ((L++[x]).map pInts):=by simp
theorem Zit {α:Type} {n i:Nat} (f:Nat→α) (h:i<n):(vec n f)[i*1]? =some (f i):=by rw [XJ];exact Zn9 f h
theorem Ziu {a b:Mv} {x:Bool} (h:x=true↔Zd3 a b=true):ζ7 x=ζ7 (Zd3 a b):=by rw [Vl.2 h]
theorem Zoe (a b:Mv):AF Tryz.prog 187 [.agg (cMv a), .agg (cMv b)] (· =ζ7 (Zd3 a b)):=by
 refine AF.of_body 30 Tryz.func187 rfl Tryz.ntmps187 (Xa rfl) ?_
 intro w0 M0 vs hl hv
 obtain ⟨v0,v1,rfl⟩:=ZdW hl
 clear hl hv
 refine nav ?_
 (refine ζa ?_<;>refine ζS 2 3 fun h2=>?_<;>refine ζS 3 3 fun h3=>?_<;>refine xL 4 ζc ?_<;>refine ζd ?_)
 (refine ζa ?_<;>refine xL 5 (ζe 2 Zaz) ?_<;>(refine yL 6 (ζk 2 ζn) fun v6 h=>?_;cases h)<;>refine xL 7 (ζe 3 Zaz) ?_<;>(refine yL 8 (ζk 3 ζn) fun v8 h=>?_;cases h)<;>refine xL 9 ZaN ?_<;>refine ζd ?_)
 (first|refine cCd ?_ ?_|refine cC ?_ ?_)<;>intro hb9
 · first
   |exact bN hb9
   | (
    refine nav ?_;(refine ζa ?_<;>refine xL 10 (ζe 2 Zaz) ?_<;>(refine yL 11 (ζk 2 ζn) fun v11 h=>?_;cases h)<;>refine xL 12 (ζe 3 Zaz) ?_<;>(refine yL 13 (ζk 3 ζn) fun v13 h=>?_;cases h)<;>refine xL 14 ζP (xL 4 ζc ?_)<;>refine ζd ?_)
    refine ζp (Tryz.results187) rfl (Ziu ?_);rw [ZcQ,decide_eq_true_eq];omega)
 · first
   |exact bN hb9
   | (
    refine nav ?_;(refine ζa ?_<;>refine xL 15 (ζe 2 ZaA) ?_<;>(refine yL 16 (ζk 2 ζn) fun v16 h=>?_;cases h)<;>refine xL 17 (ζe 3 ZaA) ?_<;>(refine yL 18 (ζk 3 ζn) fun v18 h=>?_;cases h)<;>refine xL 19 ZaN ?_<;>refine ζd ?_)
    (first|refine cCd ?_ ?_|refine cC ?_ ?_)<;>intro hb19
    · first
      |exact bN hb19
      | (
       refine nav ?_;(refine ζa ?_<;>refine xL 20 (ζe 2 ZaA) ?_<;>(refine yL 21 (ζk 2 ζn) fun v21 h=>?_;cases h)<;>refine xL 22 (ζe 3 ZaA) ?_<;>(refine yL 23 (ζk 3 ζn) fun v23 h=>?_;cases h)<;>refine xL 24 ζP (xL 4 ζc ?_)<;>refine ζd ?_)
       refine ζp (Tryz.results187) rfl (Ziu ?_);rw [ZcQ,decide_eq_true_eq];omega)
    · first
      |exact bN hb19
      | (
       refine nav ?_;(refine ζa ?_<;>refine xL 25 (ζe 2 ZaR) ?_<;>(refine yL 26 (ζk 2 ζn) fun v26 h=>?_;cases h)<;>refine xL 27 (ζe 3 ZaR) ?_<;>(refine yL 28 (ζk 3 ζn) fun v28 h=>?_;cases h)<;>refine xL 29 ζP (xL 4 ζc ?_)<;>refine ζd ?_)
       refine ζp (Tryz.results187) rfl (Ziu ?_);rw [ZcQ,decide_eq_true_eq];omega))
def ZDP (l:List Int) (n:Int):Bool:=l.any fun t=>decide (t=n)
theorem ZwY {l:List Int} {n:Int}:ZDP l n=true↔n∈l:=by unfold ZDP;simp
def Za7 (n:Nat) (f:Nat→Bool):List Int:=((List.range n).filter f).map fun i:Nat=>(i:Int)
theorem Zcx (k:Nat) (f:Nat→Bool):Za7 (k+1) f=Za7 k f++(if f k then [(k:Int)] else []):=by
 unfold Za7
 rw [List.range_succ,VF,XC]
 congr 1
 cases h:f k<;>simp [h]
theorem Ziv (n:Nat) (f:Nat→Bool):(Za7 n f).length≤n:=by
 unfold Za7
 rw [Xh]
 have:=Ut f (List.range n)
 simpa using this
theorem Ziw {n:Nat} {f:Nat→Bool} {t:Int}:t∈Za7 n f↔0≤t∧t<n∧f t.toNat=true:=by
 unfold Za7
 simp only [Xo,VW,Vk]
 constructor
 · rintro ⟨i,⟨h1,h2⟩,rfl⟩;exact ⟨by omega,by omega,by simpa using h2⟩
 · rintro ⟨h1,h2,h3⟩;exact ⟨t.toNat,⟨by omega,h3⟩,by omega⟩
theorem Zof (n:Nat) (f:Nat→Bool):Srt (Za7 n f):=by
 unfold Za7 Srt
 refine List.pairwise_map.2 (List.Pairwise.filter _ ?_)
 exact (List.pairwise_lt_range (n:=n)).imp fun h=>by omega
structure MkI (a:Aut) (l:List Int) (f:Nat→Bool):Prop where
 base:∀s∈l,f s.toNat=true
 snd:∀i:Nat,i<a.n.toNat→f i=true→Rch a l (i:Nat)
structure PassB (a:Aut) (l:List Int) (f0 f:Nat→Bool) (fl:Bool) (i:Nat):Prop where
 mki:MkI a l f
 no:fl=false→f=f0∧∀j m,j<i→a.moves[j]? =some m→m.sym<0→f m.src.toNat=true→f m.dst.toNat=true
 yes:fl=true→cntF a.n.toNat f<cntF a.n.toNat f0
theorem ZjT {n:Nat} {L:List Nat} (h:L.Nodup) (hl:∀s∈L,s<n):L.length≤n:=by
 have:=nodup_len n (L.map fun x:Nat=>(x:Int)) (List.pairwise_map.2 (h.imp fun h1 h2=>h1 (by omega))) fun s hs=>by
  obtain ⟨x,hx,rfl⟩:=Xo.1 hs;have:=hl x hx;omega
 simpa using this
structure Tab where
 m:Nat
 rows:List (List Nat)
 fin:List Bool
structure TOk (t:Tab):Prop where
 fl:t.fin.length=t.rows.length
 rl:∀r∈t.rows,r.length=t.m
 to:∀r∈t.rows,∀x∈r,x<t.rows.length
 pos:0<t.rows.length
 n1:t.rows.length≤2000
 m1:t.m≤40
def Zhv (a:Aut):Srch (List Int) (List Int):=⟨id,2000,a.syms.toNat,fun _ l s=>ZfG a (s:Nat) l⟩
def Zjo (a:Aut):Option Tab:=((Zhv a).all (ZcJ a a.start)).map fun q=>⟨a.syms.toNat,q.2,q.1.map (Zjn a)⟩
def SetOk (a:Aut) (l:List Int):Prop:=InS a l∧Srt l
theorem SetOk.len {a:Aut} (h:AOk a) {l:List Int} (hl:SetOk a l):l.length≤2000:=by
 have h4:=nodup_len a.n.toNat l (hl.2.imp fun h=>by omega) fun s hs=>by
  have:=hl.1 s hs;have:=h.n0;omega
 have:=h.n1
 omega
theorem ZkY {a:Aut} (h:AOk a) (c:Int) (l:List Int):SetOk a (ZfG a c l):=⟨ZAc h.mi c l,Ziq h.mi (ZhJ h.mi c l)⟩
theorem Zms {a:Aut} (h:AOk a):SetOk a (ZcJ a a.start):=⟨ZkV h.mi h.st,Ziq h.mi h.st⟩
theorem ZpV {a:Aut} (h:AOk a) {i:Nat} {o:List (List Int)} {rows:List (List Nat)} (hu:(Zhv a).upto (ZcJ a a.start) i=some (o,rows)):(Zhv a).Ok (SetOk a) (ZcJ a a.start) o rows∧(i≤o.length→rows.length=i)∧(o.length≤i→rows.length=o.length):=
 Srch.ok (P:=SetOk a) (show 1≤2000 by decide) (Zms h) (fun _ _ s _ _=>ZkY h s _) hu
theorem Zog {a:Aut} (h:AOk a) {t:Tab} (ht:Zjo a=some t):TOk t:=by
 unfold Zjo at ht
 obtain ⟨⟨o,rows⟩,h1,rfl⟩:=XH.1 ht
 obtain ⟨h2,h3,h4⟩:=ZpV h h1
 have hcap:o.length≤2000:=h2.cap
 have h5:=h4 hcap
 have hp:=h2.pos
 have hs:=h.s1
 refine ⟨by simp [h5],h2.len,fun r hr x hx=>?_,by dsimp only;omega,by dsimp only;omega,by dsimp only;omega⟩
 obtain ⟨i,hi⟩:=Vc hr
 obtain ⟨t,ht⟩:=Vc hx
 dsimp only at hi
 obtain ⟨y,hy⟩:=ζo (show i<o.length by have:=ζi hi;omega)
 have:=(h2.to i y r t x hy hi ht).1
 dsimp only;omega
section
variable {κ:Type} [DecidableEq κ]
def Zcf (k:Nat→κ):Nat→List κ
 |0=>[]
 |s+1=>if k s∈Zcf k s then Zcf k s else Zcf k s++[k s]
theorem ZwZ (k:Nat→κ) (s:Nat):Zcf k s<+:Zcf k (s+1):=by
 rw [Zcf];split
 · exact VM _
 · exact List.prefix_append _ _
theorem Zmt (k:Nat→κ) (s:Nat):∀t,Zcf k s<+:Zcf k (s+t)
 |0=>VM _
 |t+1=>(Zmt k s t).trans (ZwZ k (s+t))
theorem ZkZ (k:Nat→κ):∀s,(Zcf k s).length≤s
 |0=>Xb _
 | s+1=>by
   have:=ZkZ k s;rw [Zcf];split
   · omega
   · rw [Xd,Xz];omega
theorem Zde {k:Nat→κ}:∀{s:Nat} {x:κ},x∈Zcf k s↔∃i,i<s∧k i=x
 |0,x=>by simp [Zcf]
 | s + 1,x=>by
   have ih:=Zde (k:=k) (s:=s) (x:=x);rw [Zcf];split
   · rename_i h;rw [ih];constructor
     · rintro ⟨i,h1,h2⟩;exact ⟨i,by omega,h2⟩
     · rintro ⟨i,h1,h2⟩;by_cases e:i=s
       · subst e;subst h2;exact ih.1 h
       · exact ⟨i,by omega,h2⟩
   · rw [Xp,ih,Xi];constructor
     · rintro (⟨i,h1,h2⟩|h)
       · exact ⟨i,by omega,h2⟩
       · exact ⟨s,by omega,h.symm⟩
     · rintro ⟨i,h1,h2⟩;by_cases e:i=s
       · subst e;exact .inr h2.symm
       · exact .inl ⟨i,by omega,h2⟩
theorem Zoh (k:Nat→κ):∀s,(Zcf k s).Nodup
 |0=>VG
 | s +1=>by
   rw [Zcf];split
   · exact Zoh k s
   · rename_i h;rw [VC];exact ⟨Zoh k s,by simp,fun a ha b hb e=>h (by rw [Xi.1 hb] at e;rw [←e];exact ha)⟩
theorem Zk0 {l:List κ} {x:κ}:posK id l x<l.length↔x∈l:=by
 rw [ZkM]
 constructor
 · rintro ⟨y,h1,rfl⟩;exact h1
 · exact fun h=>⟨x,h,rfl⟩
theorem ZpW {k:Nat→κ} {s:Nat} (h:posK id (Zcf k s) (k s)<(Zcf k s).length):Zcf k (s+1)=Zcf k s:=by rw [Zcf,if_pos (Zk0.1 h)]
theorem ZpX {k:Nat→κ} {s:Nat} (h:¬posK id (Zcf k s) (k s)<(Zcf k s).length):Zcf k (s+1)=Zcf k s++[k s]:=by rw [Zcf,if_neg fun h1=>h (Zk0.2 h1)]
theorem ZhL {k:Nat→κ} {s n:Nat} (h:s<n):posK id (Zcf k n) (k s)=posK id (Zcf k (s+1)) (k s)∧posK id (Zcf k n) (k s)<(Zcf k n).length:=by
 have h1:k s∈Zcf k (s+1):=Zde.2 ⟨s,by omega,rfl⟩
 have h2:=Zmt k (s+1) (n-(s+1))
 rw [show s+1+(n-(s+1))=n by omega] at h2
 obtain ⟨e,he⟩:=h2
 exact ⟨by rw [←he,ZhF e (Zk0.2 h1)],Zk0.2 (Zde.2 ⟨s,h,rfl⟩)⟩
end
def Zb2 (rows:List (List Nat)) (c:Nat→Nat) (s:Nat):List Nat:=c s::((rows[s]?).getD []).map c
def ZeB (rows:List (List Nat)) (c:Nat→Nat) (s:Nat):Nat:=posK id (Zcf (Zb2 rows c) rows.length) (Zb2 rows c s)
def ZrE (rows:List (List Nat)) (c:Nat→Nat):Nat:=(Zcf (Zb2 rows c) rows.length).length
def Zjw (rows:List (List Nat)):Nat→(Nat→Nat)→Nat→(Nat→Nat)
 |0,c,_=>c
 |f+1,c,k=>if ZrE rows c=k then ZeB rows c else Zjw rows f (ZeB rows c) (ZrE rows c)
def ZpY (fin:List Bool) (s:Nat):Nat:=if (fin[s]?).getD false then 1 else 0
def Zdy (t:Tab):Nat→Nat:=Zjw t.rows (t.rows.length+2) (ZpY t.fin) 0
structure COk (n:Nat) (c:Nat→Nat) (k:Nat):Prop where
 hit:∀v,v<k→∃s,s<n∧c s=v
 le:k≤n
 bd:∀s,s<n→c s≤n
theorem COk.start (fin:List Bool) (n:Nat):COk n (ZpY fin) 0:=⟨fun v h=>by omega,Xf _,fun s h=>by unfold ZpY;split<;>omega⟩
theorem COk.grow {rows:List (List Nat)} {c:Nat→Nat} {k:Nat} (h:COk rows.length c k):k≤ZrE rows c:=by
 have h1:∀v,v<k→v∈(Zcf (Zb2 rows c) rows.length).map fun l=>l.headD 0:=fun v hv=>by
  obtain ⟨s,hs,rfl⟩:=h.hit v hv;exact Xo.2 ⟨Zb2 rows c s,Zde.2 ⟨s,hs,rfl⟩,rfl⟩
 have h2:∀(n:Nat) (L:List Nat),(∀v,v<n→v∈L)→n≤L.length:=fun n=>by
  induction n with
  |zero=>exact fun _ _=>Xf _
  | succ n ih=>
    intro L hL;have h3:=ih (L.erase n) fun v hv=>(List.mem_erase_of_ne (by omega)).2 (hL v (by omega));rw [UF (hL n (by omega))] at h3;have:=List.length_pos_of_mem (hL n (by omega));omega
 have:=h2 k _ h1
 rwa [Xh] at this
theorem COk.next {rows:List (List Nat)} {c:Nat→Nat} {k:Nat} (h:COk rows.length c k):COk rows.length (ZeB rows c) (ZrE rows c):=by
 have hl:=ZkZ (Zb2 rows c) rows.length
 refine ⟨fun v hv=>?_,hl,fun s hs=>?_⟩
 · obtain ⟨x,hx⟩:=ζo hv;obtain ⟨s,hs,rfl⟩:=Zde.1 (Xg hx);refine ⟨s,hs,?_⟩;have hn:((Zcf (Zb2 rows c) rows.length).map id).Nodup:=by rw [List.map_id];exact Zoh _ _
   exact ZhH hn hx
 · have:=(ZhL (k:=Zb2 rows c) hs).2;show posK _ _ _≤_;omega
def toT (t:Tab) (x s:Nat):Nat:=((((t.rows[x]?).getD [])[s]?).getD 0)
def minW (t:Tab):Srch Nat Nat:=⟨Zdy t,t.rows.length,t.m,fun _ x s=>toT t x s⟩
theorem ZpZ {t:Tab} {x s n:Nat} {r:List Nat} (h:t.rows[x]? =some r) (h2:r[s]? =some n):toT t x s=n:=by
 unfold toT;rw [h];show ((r[s]?).getD 0)=n;rw [h2];rfl
theorem Zcy {t:Tab} (h:TOk t) {x s:Nat}:toT t x s<t.rows.length:=by
 unfold toT
 cases h1:t.rows[x]? with
 |none=>simpa using h.pos
 | some r=>
   show ((r[s]?).getD 0)<_
   cases h2:r[s]? with
   |none=>simpa using h.pos
   |some n=>exact h.to r (Xg h1) n (Xg h2)
theorem Zg6 {α β:Type} {f:α→β}:∀{l:List α},(l.map f).Nodup→l.Nodup
 |[],_=>VG
 | x::l,h=>by
   rw [Xu,Vs] at h;exact Vs.2 ⟨fun h1=>h.1 (List.mem_map_of_mem h1),Zg6 h.2⟩
theorem Zix {t:Tab} (h:TOk t) {o:List Nat} (hm:(minW t).Met (· <t.rows.length) 0 o) {x:Nat} (hx:x<t.rows.length) (hn:¬posK (minW t).key o ((minW t).key x)<o.length):o.length<t.rows.length:=by
 have h1:(o++[x]).Nodup:=by
  rw [VC];refine ⟨Zg6 hm.nd,by simp,fun a ha b hb e=>hn (ZkM.2 ⟨x,?_,rfl⟩)⟩;rw [Xi.1 hb] at e;rw [←e];exact ha
 have:=ZjT h1 fun s hs=>by
  rcases Xp.1 hs with hs|hs
  · exact hm.p s hs
  · rw [Xi.1 hs];exact hx
 rw [Xd,Xz] at this
 omega
theorem ZtB {t:Tab} (h:TOk t) {i x:Nat} {o:List Nat} (hm:(minW t).Met (· <t.rows.length) 0 o):∀s,s≤t.m→∃q,(minW t).row i x o s=some q
 |0,_=>⟨_,rfl⟩
 | s+1,hs=>by
   obtain ⟨⟨o1,r1⟩,h1⟩:=ZtB h hm s (by omega);obtain ⟨h2,_⟩:=hm.row (fun s _=>Zcy h) (show s≤(minW t).m from (by show s≤t.m;omega)) h1;by_cases hp:posK (minW t).key o1 ((minW t).key ((minW t).step i x s))<o1.length
   · exact ⟨_,Srch.row_snoc h1 (Zb8 hp)⟩
   · exact ⟨_,Srch.row_snoc h1 (Zb9 hp (Zix h h2 (Zcy h) hp))⟩
theorem ZtC {t:Tab} (h:TOk t) {i:Nat} {o:List Nat} {rows:List (List Nat)} (hu:(minW t).upto 0 i=some (o,rows)):(minW t).Ok (· <t.rows.length) 0 o rows∧(i≤o.length→rows.length=i)∧(o.length≤i→rows.length=o.length):=
 Srch.ok (W:=minW t) (P:=(· <t.rows.length)) h.pos h.pos (fun _ _ s _ _=>Zcy h) hu
theorem Zp0 {t:Tab} (h:TOk t):∀i,∃q,(minW t).upto 0 i=some q
 |0=>⟨_,rfl⟩
 | i +1=>by
   obtain ⟨⟨o,rows⟩,h1⟩:=Zp0 h i
   cases hx:o[i]? with
   |none=>exact ⟨_,Srch.upto_stop h1 (V6.1 hx) 1⟩
   | some x=>
     obtain ⟨⟨o',r⟩,h2⟩:=ZtB h (i:=i) (x:=x) (ZtC h h1).1.toMet t.m (Xb _);exact ⟨_,Srch.upto_snoc h1 hx h2⟩
theorem ZAe {t:Tab} (h:TOk t):∃q,(minW t).all 0=some q:=Zp0 h _
def ZaC (i:Nat) (r:List Nat):List Mv:=r.zipIdx.map fun p=>⟨(i:Nat),(p.1:Nat),(p.2:Nat)⟩
def ζ1 (rows:List (List Nat)):List Mv:=rows.zipIdx.flatMap fun p=>ZaC p.2 p.1
theorem ZbV (i:Nat) (r:List Nat) (n:Nat):ZaC i (r++[n])=ZaC i r++[⟨(i:Nat),(n:Nat),(r.length:Nat)⟩]:=by
 unfold ZaC;rw [List.zipIdx_append,XC];simp
theorem ZdH (i:Nat) (r:List Nat):(ZaC i r).length=r.length:=by unfold ZaC;simp
theorem Ziy (rows:List (List Nat)) (r:List Nat):ζ1 (rows++[r])=ζ1 rows++ZaC rows.length r:=by
 unfold ζ1;rw [List.zipIdx_append,XX];simp
theorem ZrF {m:Nat}:∀(rows:List (List Nat)),(∀r∈rows,r.length=m)→(ζ1 rows).length=rows.length*m:=by
 intro rows
 have key:∀(L:List (List Nat)) (k:Nat),(∀r∈L,r.length=m)→((L.zipIdx k).flatMap fun p=>ZaC p.2 p.1).length=L.length*m:=by
  intro L;induction L with
  |nil=>intro k _;simp
  | cons r L ih=>
    intro k h;rw [VJ,Xv,Xd,ih (k+1) (fun r hr=>h r (Xj _ hr)),ZdH,h r (Xk ..),Xc,XS];omega
 exact key rows 0
def Zeq (t:Tab) (o:List Nat) (i:Nat):Bool:=(t.fin[(o[i]?).getD 0]?).getD false
def Zc7 (t:Tab) (q:List Nat×List (List Nat)):Aut:=⟨(q.1.length:Nat),(t.m:Nat),[0],Za7 q.1.length (Zeq t q.1),ζ1 q.2⟩
def ZbJ (t:Tab):Option Aut:=((minW t).all 0).bind fun q=>if 20000<(ζ1 q.2).length then none else some (Zc7 t q)
def ZtD:Aut:=⟨0,0,[],[],[]⟩
def ZEk:Except Int Aut→PV
 | .ok a=> .tup [Zap a,pInt 0]
 | .error e=> .tup [Zap ZtD,pInt e]
def ZlZ:PV:= .agg [pInt 0,pInt 0, .val (.slice none 0 0), .val (.slice none 0 0), .val (.slice none 0 0)]
def resW:Except Int Aut→PV
 | .ok a=> .tup [Zap a,pInt 0]
 | .error e=> .tup [ZlZ,pInt e]
def lim (x:Option Aut):Except Int Aut:=match x with
 |some a=> .ok a
 |none=> .error 13
def Zhw (a:Aut):Except Int Aut:=match Zjo a with
 |some t=>lim (ZbJ t)
 |none=> .error 13
def Zjp (a:Aut):Except Int Aut:=if Zas a then Zhw a else .error 1
def ZCz (l:List UInt8):Nat:=l.foldl (fun v b=>v*10+(b.toNat-48)) 0
theorem ZtE (l:List UInt8) (b:UInt8):ZCz (l++[b])=ZCz l*10+(b.toNat-48):=by unfold ZCz;rw [VN];rfl
theorem Zoi {u:Nat} (h:u<10):(UInt8.ofNat (48+u)).toNat=48+u:=by
 rw [UInt8.toNat_ofNat'];omega
theorem Zp1 (u:Nat):ZCz (Lib.decDigits u)=u:=by
 induction u using Nat.strongRecOn with
 | _ u ih=>
   rw [Lib.decDigits];split
   · rename_i h;show 0*10+((UInt8.ofNat (48+u)).toNat-48)=u;rw [Zoi h];omega
   · rw [ZtE,ih (u / 10) (by omega),Zoi (by omega)];omega
theorem Zy6 (u:Nat):∀b∈Lib.decDigits u,b≠32:=by
 induction u using Nat.strongRecOn with
 | _ u ih=>
   have key:∀v:Nat,v<10→UInt8.ofNat (48+v)≠32:=fun v hv e=>by
    have:=congrArg UInt8.toNat e;rw [Zoi hv] at this;have h32:(32:UInt8).toNat=32:=rfl;omega
   rw [Lib.decDigits];split
   · rename_i h;intro b hb;rw [Xi.1 hb];exact key u h
   · intro b hb;rcases Xp.1 hb with hb|hb
     · exact ih (u / 10) (by omega) b hb
     · rw [Xi.1 hb];exact key _ (by omega)
theorem Zp2:∀{a b c d:List UInt8},(∀x∈a,x≠32)→(∀x∈b,x≠32)→a++32::c=b++32::d→a=b∧c=d
 |[],[],c,d,_,_,h=>⟨rfl,(List.cons.inj h).2⟩
 |[],y::b,c,d,_,hb,h=>absurd (List.cons.inj h).1.symm (hb y (Xk ..))
 |x::a,[],c,d,ha,_,h=>absurd (List.cons.inj h).1 (ha x (Xk ..))
 | x::a,y::b,c,d,ha,hb,h=>by
   obtain ⟨h1,h2⟩:=List.cons.inj h;obtain ⟨h3,h4⟩:=Zp2 (fun z hz=>ha z (Xj _ hz)) (fun z hz=>hb z (Xj _ hz)) h2;exact ⟨by rw [h1,h3],h4⟩
def Zhx (l:List Int):List UInt8:=l.flatMap fun s=>Lib.itoa s++[32]
def ZjU (l:List Int):ByteArray:=⟨(Zhx l).toArray⟩
theorem Zp3:∀{l m:List Int},(∀x∈l,0≤x)→(∀x∈m,0≤x)→Zhx l=Zhx m→l=m
 |[],[],_,_,_=>rfl
 | [],y::m,_,_,h=>by
   have:=congrArg List.length h;simp only [Zhx,Xv,XL,Xd,Xc,Xs] at this;omega
 | x::l,[],_,_,h=>by
   have:=congrArg List.length h;simp only [Zhx,Xv,XL,Xd,Xc,Xs] at this;omega
 | x ::l,y::m,hl,hm,h=>by
   have hx:=hl x (Xk ..);have hy:=hm y (Xk ..);have e1:Lib.itoa x=Lib.decDigits x.toNat:=by unfold Lib.itoa;rw [if_neg (by omega)]
   have e2:Lib.itoa y=Lib.decDigits y.toNat:=by unfold Lib.itoa;rw [if_neg (by omega)]
   have h':Lib.decDigits x.toNat++32::Zhx l=Lib.decDigits y.toNat++32::Zhx m:=by
    have:Zhx (x::l)=Lib.itoa x++[32]++Zhx l:=rfl;rw [this,show Zhx (y::m)=Lib.itoa y++[32]++Zhx m from rfl,e1,e2] at h;simpa using h
   obtain ⟨h1,h2⟩:=Zp2 (Zy6 _) (Zy6 _) h';have h3:=congrArg ZCz h1;rw [Zp1,Zp1] at h3;rw [Zp3 (fun z hz=>hl z (Xj _ hz)) (fun z hz=>hm z (Xj _ hz)) h2,show x=y by omega]
theorem ZCA {l m:List UInt8} (h:(⟨l.toArray⟩:ByteArray)=⟨m.toArray⟩):l=m:=by
 have:=ByteArray.mk.inj h
 simpa using this
theorem Zp4 {l m:List Int} (hl:∀x∈l,0≤x) (hm:∀x∈m,0≤x):ZjU l=ZjU m↔l=m:=
 ⟨fun h=>Zp3 hl hm (ZCA h),fun h=>by rw [h]⟩
def toI (l:List Nat):List Int:=l.map fun x:Nat=>(x:Int)
theorem ZAf {l m:List Nat}:toI l=toI m↔l=m:=by
 unfold toI
 constructor
 · intro h;have:=congrArg (List.map Int.toNat) h;simpa [XN,Function.comp_def] using this
 · intro h;rw [h]
def eqM (a b:Mv):Bool:=decide (a.src=b.src)&&decide (a.dst=b.dst)&&decide (a.sym=b.sym)
theorem ZcK {a b:Mv}:eqM a b=true↔a=b:=by
 unfold eqM
 simp only [Xe,decide_eq_true_eq]
 cases a;cases b
 simp only [Mv.mk.injEq,and_assoc]
theorem Zd5 (a:Mv):Zd3 a a=false:=by
 cases h:Zd3 a a with
 |false=>rfl
 |true=>have:=ZcQ.1 h;omega
theorem ZfH {a b c:Mv} (h1:Zd3 a b=true) (h2:Zd3 b c=true):Zd3 a c=true:=by
 rw [ZcQ] at h1 h2 ⊢;omega
theorem ZhM {a b:Mv} (h1:Zd3 a b=false) (h2:Zd3 b a=false):a=b:=by
 have e1:¬Zd3 a b=true:=by rw [h1];simp
 have e2:¬Zd3 b a=true:=by rw [h2];simp
 rw [ZcQ] at e1 e2
 rw [←ZcK];unfold eqM
 simp only [Xe,decide_eq_true_eq];omega
def AscM (l:List Mv):Prop:=l.Pairwise fun a b=>Zd3 a b=true
theorem Zf1:∀{l m:List Mv},AscM l→AscM m→(∀x,x∈l↔x∈m)→l=m
 |[],[],_,_,_=>rfl
 |[],y::m,_,_,h=>absurd ((h y).2 (Xk ..)) (by simp)
 |x::l,[],_,_,h=>absurd ((h x).1 (Xk ..)) (by simp)
 | x :: l,y::m,hl,hm,h=>by
   have hl':=XO.1 hl;have hm':=XO.1 hm;have hxy:x=y:=by
    rcases Xm.1 ((h x).1 (Xk ..)) with e|h1
    · exact e
    · rcases Xm.1 ((h y).2 (Xk ..)) with e|h2
      · exact e.symm
      · have h3:=ZfH (hm'.1 x h1) (hl'.1 y h2);rw [Zd5] at h3;cases h3
   subst hxy;congr 1;refine Zf1 hl'.2 hm'.2 fun z=>⟨fun hz=>?_,fun hz=>?_⟩
   · rcases Xm.1 ((h z).1 (Xj _ hz)) with e|h1
     · have h3:=hl'.1 z hz;rw [e,Zd5] at h3;cases h3
     · exact h1
   · rcases Xm.1 ((h z).2 (Xj _ hz)) with e|h1
     · have h3:=hm'.1 z hz;rw [e,Zd5] at h3;cases h3
     · exact h1
def Zoj (m:Mv):List Mv→List Mv
 |[]=>[m]
 |x::l=>if Zd3 m x then m::x::l else if eqM m x then x::l else x::Zoj m l
theorem Zf2 {m y:Mv}:∀{l:List Mv},y∈Zoj m l↔y=m∨y∈l
 |[]=>by simp [Zoj]
 | x :: l =>by
   rw [Zoj];split
   · simp
   · split
     · rename_i h;rw [ZcK] at h;subst h;simp
     · rw [Xm,Zf2,Xm];constructor
       · rintro (h|h|h)
         · exact .inr (.inl h)
         · exact .inl h
         · exact .inr (.inr h)
       · rintro (h|h|h)
         · exact .inr (.inl h)
         · exact .inl h
         · exact .inr (.inr h)
theorem ZhN {m:Mv}:∀{l:List Mv},AscM l→AscM (Zoj m l)
 |[],_=>by simp [Zoj,AscM]
 | x :: l,h=>by
   have h':=XO.1 h;rw [Zoj];split
   · rename_i hm;refine XO.2 ⟨fun z hz=>?_,h⟩;rcases Xm.1 hz with rfl|hz
     · exact hm
     · exact ZfH hm (h'.1 z hz)
   · rename_i hm;split
     · exact h
     · rename_i he;refine XO.2 ⟨fun z hz=>?_,ZhN h'.2⟩;rcases Zf2.1 hz with rfl|hz
       · cases hxz:Zd3 x z with
         |true=>rfl
         |false=>exact absurd (ZcK.2 (ZhM (by simpa using hm) hxz)) he
       · exact h'.1 z hz
def mkM:List Mv→List Mv
 |[]=>[]
 |x::l=>Zoj x (mkM l)
theorem ZcL {y:Mv}:∀{l:List Mv},y∈mkM l↔y∈l
 |[]=>by simp [mkM]
 |x::l=>by rw [mkM,Zf2,ZcL,Xm]
theorem Zd6:∀l,AscM (mkM l)
 |[]=> .nil
 |x::l=>ZhN (Zd6 l)
theorem ZtF {l m:List Mv} (hl:AscM l) (h:∀x,x∈l↔x∈m):l=mkM m:=Zf1 hl (Zd6 m) fun x=>by rw [h,ZcL]
theorem ZAg {l m:List Mv} (hl:AscM l) (h:∀x∈l,x∈m):l.length≤m.length:=by
 induction l generalizing m with
 |nil=>exact Xf _
 | cons x l ih=>
   have h':=XO.1 hl;obtain ⟨a,b,rfl⟩:=List.append_of_mem (h x (Xk ..));have :=ih (m:=a++b) h'.2 fun y hy=>by
    rcases Xp.1 (h y (Xj _ hy)) with h1|h1
    · exact X5 _ h1
    · rcases Xm.1 h1 with rfl|h1
      · have:=h'.1 y hy;rw [Zd5] at this;cases this
      · exact X6 _ h1
   simp only [Xd,Xc] at this ⊢;omega
theorem Zok (l:List Mv):(mkM l).length≤l.length:=ZAg (Zd6 l) fun x h=>ZcL.1 h
def Zws (a:Aut):Except Int Aut:=if 2000<a.n∨20000<a.moves.length then .error 13 else Zhw a
def Zfu (a:Aut):Except Int Aut:=Zws {a with moves:=mkM a.moves}
def ZeC (a:Aut):Aut:=⟨a.n+1,a.syms,[a.n],[a.n],a.moves++(a.start.map fun s=>⟨a.n,s,-1⟩)++a.fin.map fun s=>⟨s,a.n,-1⟩⟩
def Zhy (a:Aut):Except Int Aut:=if Zas a then Zfu (ZeC a) else .error 1
def stepA (A:Aut) (i s:Nat):Nat:=(((A.moves[i*A.syms.toNat+s]?).map Mv.dst).getD 0).toNat
def ZDQ (A B:Aut):Srch ((Nat×Nat)×(Int×Int)) (Nat×Nat):=⟨Prod.fst,2000,A.syms.toNat,fun i x s=>((stepA A x.1.1 s,stepA B x.1.2 s),((i:Nat),(s:Nat)))⟩
def prodQ (A B:Aut):Option (List ((Nat×Nat)×(Int×Int))×List (List Nat)):=(ZDQ A B).all ((0,0),(-1,-1))
def ZgG (a b:Aut):Int:=if Zas a=false∨Zas b=false then 1 else if ¬a.syms=b.syms then 29 else 0
theorem Zol {t:Tab} {A:Aut} (h:ZbJ t=some A):∃o rows,(minW t).all 0=some (o,rows)∧A=Zc7 t (o,rows)∧(ζ1 rows).length≤20000:=by
 unfold ZbJ at h
 obtain ⟨⟨o,rows⟩,h1,h2⟩:=V5.1 h
 dsimp only at h2
 split at h2
 · cases h2
 · cases h2;exact ⟨o,rows,h1,rfl,by omega⟩
structure Fin (t:Tab) (o:List Nat) (rows:List (List Nat)):Prop where
 ok:(minW t).Ok (· <t.rows.length) 0 o rows
 len:rows.length=o.length
 n1:o.length≤2000
 pos:0<o.length
theorem Zp5 {t:Tab} (h:TOk t) {o:List Nat} {rows:List (List Nat)} (hu:(minW t).all 0=some (o,rows)):Fin t o rows:=by
 obtain ⟨h1,_,h3⟩:=ZtC h hu
 have hc:o.length≤t.rows.length:=h1.cap
 have:=h.n1
 exact ⟨h1,h3 hc,by omega,h1.pos⟩
theorem Zmu {i:Nat} {r:List Nat} {m:Mv} (h:m∈ZaC i r):∃n s:Nat,r[s]? =some n∧m=⟨(i:Nat),(n:Nat),(s:Nat)⟩:=by
 unfold ZaC at h
 obtain ⟨p,hp,rfl⟩:=Xo.1 h
 exact ⟨p.1,p.2,by have:=Uw.1 hp;exact this,rfl⟩
theorem ZgH {rows:List (List Nat)} {m:Mv} (h:m∈ζ1 rows):∃(i s n:Nat) (r:List Nat),rows[i]? =some r∧r[s]? =some n∧m=⟨(i:Nat),(n:Nat),(s:Nat)⟩:=by
 unfold ζ1 at h
 obtain ⟨p,hp,hm⟩:=X4.1 h
 obtain ⟨n,s,h1,h2⟩:=Zmu hm
 exact ⟨p.2,s,n,p.1,Uw.1 hp,h1,h2⟩
theorem ZhO {t:Tab} (ht:TOk t) {o:List Nat} {rows:List (List Nat)} (h:Fin t o rows) (hm:(ζ1 rows).length≤20000):AOk (Zc7 t (o,rows)):=by
 have hp:=h.pos
 have hn:=h.n1
 have hm1:=ht.m1
 have hll:=Ziv o.length (Zeq t o)
 refine ⟨by show (0:Int)≤(o.length:Nat);omega,by show ((o.length:Nat):Int)≤2000;omega,by show (0:Int)≤(t.m:Nat);omega,by show ((t.m:Nat):Int)≤40;omega,hm,fun s hs=>?_,fun s hs=>?_,by show [(0:Int)].length≤2000;simp,by show (Za7 o.length (Zeq t o)).length≤2000;omega,fun m hmm=>?_⟩
 · rw [show s=0 from Xi.1 hs];exact ⟨Int.le_refl _,by show (0:Int)<(o.length:Nat);omega⟩
 · obtain ⟨h1,h2,_⟩:=Ziw.1 hs;exact ⟨h1,h2⟩
 · obtain ⟨i,s,n,r,h1,h2,rfl⟩:=ZgH hmm;have h3:i<rows.length:=ζi h1;have h4:=ζi h2;have h5:r.length=t.m:=h.ok.len r (Xg h1);obtain ⟨x,hx⟩:=ζo (show i<o.length by rw [←h.len];exact h3);have h6:=(h.ok.to i x r s n hx h1 h2).1;have h7:=h.len;refine ⟨by show (0:Int)≤(i:Nat);omega,by show ((i:Nat):Int)<(o.length:Nat);omega,by show (0:Int)≤(n:Nat);omega,by show ((n:Nat):Int)<(o.length:Nat);omega,by show (-1:Int)≤(s:Nat);omega,by show ((s:Nat):Int)<(t.m:Nat);omega⟩
theorem Ziz {a A:Aut} (h:AOk a) (hr:Zhw a= .ok A):∃t o rows,Zjo a=some t∧TOk t∧(minW t).all 0=some (o,rows)∧Fin t o rows∧A=Zc7 t (o,rows)∧(ζ1 rows).length≤20000:=by
 unfold Zhw at hr
 split at hr
 · rename_i t ht
   cases hl:ZbJ t with
   |none=>rw [hl] at hr;cases hr
   | some B=>
     rw [hl] at hr;cases hr;obtain ⟨o,rows,h1,h2,h3⟩:=Zol hl;have hT:=Zog h ht;exact ⟨t,o,rows,ht,hT,h1,Zp5 hT h1,h2,h3⟩
 · cases hr
theorem ZAh {a A:Aut} (h:Zjp a= .ok A):Zas a=true∧Zhw a= .ok A:=by
 unfold Zjp at h
 split at h
 · rename_i h1;exact ⟨h1,h⟩
 · cases h
end Go.Proofs.YtgfabnhpllkebaaGreatDoor
