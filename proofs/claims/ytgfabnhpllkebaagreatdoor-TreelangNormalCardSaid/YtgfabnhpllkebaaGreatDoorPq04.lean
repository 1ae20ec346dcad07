/-
  The engine: maps keyed by pairs of numbers. No program in sight.
  The engine: a call that hands back one of a family of pairs. No program in sight.
  The engine: three values are handed back. No program in sight.
  The engine: a row of numbers is turned round by the library. No program in sight.
  The engine: a struct that lies in cells and two values are handed back. No program in sight.
  The engine: a struct is handed back beside what is owned. No program in sight.
  The engine: the end of an owned row as a slice of its own. No program in sight.
  The engine: ways that split meet again behind what splits them; shifts and bits. No program in sight.
  The engine: functions that may panic. No program in sight.
  The engine: regions that draw their order, in which an operation may panic. No program in sight.
  The engine: what builders of strings want: pointers compared and seen as others, strings appended to bytes, strings seen in bytes. No program in sight.
  The engine: strings cut, structs built of structs, values in interfaces. No program in sight.
  Walks: the lexer of the program: letters, digits, lengths, symbols, literals, going on.
  Walks: the lexer of the program: symbols and literals.
  Plain: sorting in place by swaps: insertion, merging by rotations. No program in sight.
  Walks: process trees: the library's stable sort, at trees.
  Walks: process trees: the library's merge in place, at trees.
  Walks: process trees: the library's stable sort, and equal neighbours left out, at trees.
-/
import Derived.Recover
import Derived.Lib.Builder
import Derived.Lib.UnsafeStr
import Derived.Lib.AppendStr
import Derived.Laws.Externs
import Derived.Laws.Slices
import Derived.Test.YtgfabnhpllkebaaGreatDoorPq03
import Derived.Test.YtgfabnhpllkebaaGreatDoorPq01
namespace Go.En
open Go.RowKit Go.Cb
set_option linter.all false
abbrev Pi2:=Int×Int
def Zgz (k:Pi2):Value:= .agg #[.int .i64 k.1, .int .i64 k.2]
theorem Zxj {a b:Pi2} (h:Zgz a=Zgz b):a=b:=by
 simp [Zgz] at h
 exact Prod.ext h.1 h.2
def ZhJ (m:List (Pi2×Value)):List (Value×Value):=m.map fun x=>(Zgz x.1,x.2)
def Zlf (k:Pi2):Prop:=(0≤k.1∧k.1≤1000000)∧(0≤k.2∧k.2≤1000000)
structure PiT (P:Program) (t ks s e:Nat) (z:Value):Prop where
 ht:P.underlying t=some (.map ks e)
 hu:P.underlying ks=some (.array 2 s)
 hs:P.underlying s=some (.int .i64)
 hk:P.keyType ks=true
 hk2:P.keyTypeAt 2 ks=true
 hti:P.tiled 2 ks=true
 hc2:P.cellsOf ks=2
 hc1:P.cellsOf s=1
 hf:∀a b:Int,(Value.agg #[.int .i64 a, .int .i64 b]).formed P ks=true
 hsz:∃n,P.types.size=n+1
 hz:ZeroT P e z
theorem PiT.law {P:Program} {t ks s e:Nat} {z:Value} (h:PiT P t ks s e z):WideMaps.KeyLaw P ks:=deep_law (m:=2) (by decide) h.hk2 h.hti (by rw [h.hu])
theorem PiT.key {P:Program} {t ks s e:Nat} {z:Value} (h:PiT P t ks s e z) {k:Pi2} (hk:Zlf k):∃l,keyOf P ks (Zgz k)=some l:=by
 obtain ⟨n,hn⟩:=h.hsz
 have hl:∀c:Int,(0≤c∧c≤1000000)→P.keyLits (n+1) s [.int .i64 c]=some [.int .i64 c]:=fun c hc=>by
  unfold Program.keyLits;rw [h.hs];dsimp only;rw [if_pos ⟨rfl,by simp [Lit.wf,IntKind.min,IntKind.max,IntKind.signed,IntKind.bits];omega⟩]
 unfold keyOf
 rw [h.hu]
 dsimp only
 rw [h.hk,show (Zgz k).formed P ks=true from h.hf _ _,hn]
 refine ⟨.string (keyBytes [.int .i64 k.1, .int .i64 k.2]),?_⟩
 rw [if_pos (show (true&&true)=true from rfl)]
 unfold Program.keyLits
 rw [h.hu]
 dsimp only [Zgz,Value.cells]
 rw [h.hc2,h.hc1]
 rw [if_pos (by rfl)]
 rw [show List.range 2=[0,1] from rfl]
 simp only [List.mapM_cons,List.mapM_nil,X4,Nat.one_mul,VQ,List.drop_succ_cons,List.take_succ_cons,Vx,hl _ hk.1,hl _ hk.2]
 rfl
theorem Zsu {m:List (Pi2×Value)} {k:Pi2} (h:∀x∈m,x.1≠k):ZdW m k=none:=by
 induction m with
 |nil=>rfl
 | cons x m ih=>
   rw [ZdW,if_neg (fun e=>h x (by simp) e.symm)];exact ih fun y hy=>h y (by simp [hy])
theorem Zsv {m:List (Pi2×Value)} (hn:(m.map (·.1)).Nodup) {j:Nat} {k:Pi2} {v:Value} (h:m[j]? =some (k,v)):ZdW m k=some v:=by
 induction m generalizing j with
 |nil=>simp at h
 | cons x m ih=>
   rw [Xq,Vf] at hn
   cases j with
   |zero=>simp at h;subst h;rw [ZdW,if_pos rfl]
   | succ j=>
     rw [VV] at h;rw [ZdW,if_neg (fun e=>hn.1 (Xh.2 ⟨_,Xb h,e⟩))];exact ih hn.2 h
theorem ZAs {es:Array MapEntry} {m:List (Pi2×Value)} (h:kvOf es=ZhJ m) {j:Nat} {e:MapEntry} {k:Pi2} (he:es[j]? =some e) (hk:e.key=Zgz k):m[j]? =some (k,e.val):=by
 have h1:(kvOf es)[j]? =some (Zgz k,e.val):=by
  unfold kvOf;rw [Xm,Uv,he,←hk];rfl
 rw [h] at h1
 unfold ZhJ at h1
 rw [Xm,XC] at h1
 obtain ⟨⟨k',v'⟩,h2,h3⟩:=h1
 obtain ⟨h4,h5⟩:=Prod.mk.inj h3
 dsimp only at h4 h5
 rw [h2,Zxj h4,h5]
theorem Zva {es:Array MapEntry} {m:List (Pi2×Value)} (h:kvOf es=ZhJ m):∀e∈es.toList,∃x∈m,e.key=Zgz x.1:=fun e he=>by
 have h1:(e.key,e.val)∈kvOf es:=Xh.2 ⟨e,he,rfl⟩
 rw [h] at h1
 obtain ⟨x,hx,hxe⟩:=Xh.1 h1
 exact ⟨x,hx,(Prod.mk.inj hxe).1.symm⟩
theorem ZtQ {P:Program} {t ks s e:Nat} {z:Value} (hT:PiT P t ks s e z) {es:Array MapEntry} {m:List (Pi2×Value)} (h:kvOf es=ZhJ m) (hm:∀x∈m,Zlf x.1) (hn:(m.map (·.1)).Nodup) {k:Pi2} (hk:Zlf k) (w:World):
 (ZdW m k=none∧(Instr.findKey ks (Zgz k) es.toList).run P w= .ok none w)∨∃(j:Nat) (e0:MapEntry),es[j]? =some e0∧e0.key=Zgz k∧ZdW m k=some e0.val∧(Instr.findKey ks (Zgz k) es.toList).run P w= .ok (some (j,e0.val)) w:=by
 obtain ⟨l,hl⟩:=hT.key hk
 have hall:∀e∈es.toList,∃l,keyOf P ks e.key=some l:=fun e he=>by
  obtain ⟨x,hx,hxe⟩:=Zva h e he;rw [hxe];exact hT.key (hm x hx)
 rcases hT.law.find w hl es.toList hall with ⟨h1,h2⟩|⟨j,e0,h1,h2,h3⟩
 · refine .inl ⟨Zsu fun x hx e=>?_,h1⟩;obtain ⟨i,hi⟩:=Ve hx;have h4:(kvOf es)[i]? =some (Zgz x.1,x.2):=by rw [h];unfold ZhJ;rw [Xm,hi];rfl
   unfold kvOf at h4;rw [Xm,XC] at h4;obtain ⟨e0,h5,h6⟩:=h4;exact h2 e0 (Xb h5) (by rw [(Prod.mk.inj h6).1,e])
 · have h4:es[j]? =some e0:=by rw [←Uv];exact h2
   exact .inr ⟨j,e0,h4,h3,Zsv hn (ZAs h h4 h3),h1⟩
section
variable {P:Program} {c:Ctx} {ops:Array Oper} {Q:Exit→Act→World→Prop} {rest:List Oper} {sL hP:List (Nat×Ent)} {o:Oper}
theorem Zxk {t ks s e:Nat} {z:Value} (hT:PiT P t ks s e z) {b clock:Nat} {es:Array MapEntry} {m:List (Pi2×Value)} (h:kvOf es=ZhJ m) (hm:∀x∈m,Zlf x.1) (hn:(m.map (·.1)).Nodup) {k:Pi2} (hk:Zlf k) {w:World} (hb:w.heap[b]? =some (.map es clock)):(Instr.lookup t (.map (some b)) (Zgz k) true).run P w= .ok (.tuple [(ZdW m k).getD z, .bool (ZdW m k).isSome].toArray) w:=by
 obtain ⟨l,hl⟩:=hT.key hk
 have hck:=fun em=>hT.law.check w em hl
 unfold Instr.lookup
 simp only [Sem.run_bind,run_underlying hT.ht,Result.andThen_ok,getObj,Sem.run,hb,hck]
 rcases ZtQ hT h hm hn hk w with ⟨h1,h2⟩|⟨j,e0,h3,h4,h1,h2⟩
 · simp [h1,h2,hck,ZeroT.run hT.hz]
 · simp [h1,h2,hck]
theorem Zxl {t ks s e:Nat} {z u:Value} {x y:Operand} {mv:Value} {V:Value} {m:List (Pi2×Value)} {k:Pi2} {b:Bool} {p:PV} (l:Nat) (hT:PiT P t ks s e z) (hm:∀x∈m,Zlf x.1) (hn:(m.map (·.1)).Nodup) (hk:Zlf k) (hu:(ZdW m k).getD z=u) (hb:(ZdW m k).isSome=b) (ho:o.op= .lookup t x y true:=by exact rfl) (hx:ev sL x=some (mv,p):=by exact rfl) (hl:lk hP l=some (mv, .omap (ZhJ m)):=by exact rfl) (hy:ev sL y=some (V, .agg [.val (.int .i64 k.1), .val (.int .i64 k.2)]):=by exact rfl):YE P (⟨sL,hP⟩:St) o (· = .tuple [u, .bool b].toArray) (.tup [.val u, .val (.bool b)]):= .exact fun M F a w H=>by
 subst hu hb
 have hv:=(H.ev hx).1
 obtain ⟨hkv,hS⟩:=H.ev hy
 have hV:V=Zgz k:=Zeo (us:=[.int .i64 k.1, .int .i64 k.2]) hS
 rw [hV] at hkv
 obtain ⟨b,es,clock,rfl,he,h,_⟩:=(H.tr l _ _ hl).map
 refine ⟨.tup [(ZdW m k).getD z, .bool (ZdW m k).isSome] _ rfl fun i x p hx hp=>?_,by simp [execOp,ho,hv,hkv,Zxk hT he.symm hm hn hk h]⟩
 match i with
 |0=>simp at hx hp;subst hx hp;exact .val _
 |1=>simp at hx hp;subst hx hp;exact .val _
 |i+2=>simp at hx
theorem ZtR {t ks s e:Nat} {z:Value} {x y u:Operand} {mv V v:Value} {m:List (Pi2×Value)} {k:Pi2} {p r:PV} (l:Nat) (hT:PiT P t ks s e z) (hm:∀x∈m,Zlf x.1) (hn:(m.map (·.1)).Nodup) (hk:Zlf k) (hno:ZdW m k=none)
 (kk:aL P c ops Q rest ⟨sL,put l (mv, .omap (ZhJ (m++[(k,v)]))) hP⟩) (hw:ζZ ops sL o=some true:=by exact rfl) (hd:o.dst=none:=by exact rfl) (ho:o.op= .mapUpdate t x y u∨o.op= .insert t x y u:=by first|exact .inl rfl|exact .inr rfl) (hx:ev sL x=some (mv,p):=by exact rfl) (hl:lk hP l=some (mv, .omap (ZhJ m)):=by exact rfl) (hy:ev sL y=some (V, .agg [.val (.int .i64 k.1), .val (.int .i64 k.2)]):=by exact rfl) (hu:ev sL u=some (v,r):=by exact rfl):aL P c ops Q (o::rest) (⟨sL,hP⟩:St):=
 ZaG hw fun a w F H=>by
  have hxv:=(H.rd.ev hx).1;obtain ⟨hyv,hS⟩:=H.rd.ev hy;have hV:V=Zgz k:=Zeo (us:=[.int .i64 k.1, .int .i64 k.2]) hS;rw [hV] at hyv;have huv:=(H.rd.ev hu).1;obtain ⟨b,es,clock,rfl,he,hb,hFb,hWf⟩:=(H.tr l _ _ hl).mapW;obtain ⟨lt',hlt'⟩:=hT.key hk;have hck:=hT.law.check w false hlt';have main:∀(es':Array MapEntry) (clock':Nat),WfM es' clock'→kvOf es'=ZhJ (m++[(k,v)])→Holds c ⟨sL,put l (.map (some b), .omap (ZhJ (m++[(k,v)]))) hP⟩ a {w with heap:=w.heap.setIfInBounds b (.map es' clock')}:=fun es' clock' hW' he'=>by
   have hlt:=Za8 hb;have hch:Chg (fun x=>x=b) w {w with heap:=w.heap.setIfInBounds b (.map es' clock')}:=⟨rfl,rfl,rfl,by simp,fun i hi hne=>by
    rw [Uu (fun e=>hne e.symm)]⟩
   refine ⟨F,H.change0 (fun l'=>l'=l) (hch.wid fun x hx=> .inl ⟨l,_,rfl,hl,(hFb x).2 hx⟩) (fun l' x hne hx'=>?_) (fun l' x b' hT' hx' hb'=>?_) (fun hmm l' u q hT' hx'=>?_) (fun l1 l2 _ _ _ h1 h2 hne=>absurd (h1.trans h2.symm) hne)⟩
   · rcases Zak hx' with ⟨e1,_⟩|⟨_,e1⟩
     · exact absurd e1.symm hne
     · exact ⟨e1,rfl⟩
   · subst hT';exact .inl ⟨l',_,rfl,hl,hb'⟩
   · subst hT';rw [ζ9] at hx'
     cases hx';rw [←he'];exact .omap b es' clock' (by simp [hlt]) hFb hW'
  unfold Oper.wp;rcases ZtQ hT he.symm hm hn hk w with ⟨h1,h2⟩|⟨j,e0,h3,h4,h1,h2⟩
  · have hkv:kvOf (es.push {key:=Zgz k,val:=v,born:=clock})=ZhJ (m++[(k,v)]):=by
     unfold ZhJ at he ⊢;rw [Xy,he];simp [kvOf]
    unfold execOp;rcases ho with ho|ho
    · simp [ho,hxv,hyv,huv,Instr.mapUpdate,run_underlying hT.ht,getObj,setObj,Sem.run,hb,hck,h2,Oper.upon,hd,Act.put];exact kk _ _ (main _ _ (Zkz hWf) hkv)
    · simp [ho,hxv,hyv,huv,Instr.mapUpdate,run_underlying hT.ht,getObj,setObj,Sem.run,hb,hck,h2,Oper.upon,hd,Act.put];exact kk _ _ (main _ _ (Zkz hWf) hkv)
  · rw [hno] at h1;cases h1
end
section
variable {P:Program} {sL hP:List (Nat×Ent)} {o:Oper}
theorem Zsw {t:Nat} {x y u:Operand} {V vy vu z z0 z1 z2 z3 z4:Value} {p0 p1 p2 py pu:PV} (hT:ZbX P t=some (z,[(0,3),(3,1),(4,1)])) (hzs:z.cells= #[z0,z1,z2,z3,z4]) (hy1:vy.oneCell'=true) (hu1:vu.oneCell'=true) (ho:o.op= .build t #[(0,x),(1,y),(2,u)]:=by exact rfl) (hx:ev sL x=some (V, .agg [p0,p1,p2]):=by exact rfl) (hy:ev sL y=some (vy,py):=by exact rfl) (hu:ev sL u=some (vu,pu):=by exact rfl):YE P (⟨sL,hP⟩:St) o (fun _=>True) (.agg [p0,p1,p2,py,pu]):=fun M F a w H=>by
 obtain ⟨hx1,hx2⟩:=H.ev hx
 obtain ⟨hy2,hy3⟩:=H.ev hy
 obtain ⟨hu2,hu3⟩:=H.ev hu
 generalize hp:PV.agg [p0,p1,p2]=p at hx2
 cases hx2 with
 | agg vs ps hl hV=>
   cases hp;match vs,hl,hV with
   | [a0, a1,a2],_,hV=>
     have s0:=hV 0 a0 p0 rfl rfl;have s1:=hV 1 a1 p1 rfl rfl;have s2:=hV 2 a2 p2 rfl rfl;refine ⟨.agg [a0,a1,a2,vy,vu].toArray,trivial, .agg _ _ rfl fun i v q hv hq=>?_,fun N W _ _ _=>?_⟩
     · match i with
       |0=>simp at hv hq;subst hv hq;exact s0
       |1=>simp at hv hq;subst hv hq;exact s1
       |2=>simp at hv hq;subst hv hq;exact s2
       |3=>simp at hv hq;subst hv hq;exact hy3
       |4=>simp at hv hq;subst hv hq;exact hu3
       |i+5=>simp at hv
     · have c1:=ZbV hy1;have c2:=ZbV hu1;have hb:P.built t [(0,Value.agg [a0,a1,a2].toArray),(1,vy),(2,vu)]=some [a0,a1,a2,vy,vu].toArray:=by
        unfold ZbX at hT;split at hT
        · rename_i i fs hi hf;split at hT
          · rename_i z' pl hz hpl
            cases hT;unfold Program.built;simp only [hi,hf,hz,hpl,hzs];have h0:(Value.agg #[a0,a1,a2]).cells= #[a0,a1,a2]:=rfl;simp [Instr.fill,h0,c1,c2,Array.zipIdx]
          · cases hT
        · cases hT
       have:=run_build (P:=P) W t #[(0,Value.agg [a0,a1,a2].toArray),(1,vy),(2,vu)] _ hb;simp [execOp,ho,hx1,hy2,hu2,this]
 |_=>cases hp
end
theorem cPx {P:Program} {c:Ctx} {ops:Array Oper} {Q:Exit→Act→World→Prop} {rest:List Oper} {sL hP:List (Nat×Ent)} {o:Oper} {ι:Type} {p1 p2:ι→PV} (d:Nat) (hC:Zew P c (⟨sL,hP⟩:St) o (fun p=>∃i,p= .tup [p1 i,p2 i])) (k:∀i v1 v2,vOf (p1 i) v1→vOf (p2 i) v2→aL P c ops Q rest ⟨put d (.tuple [v1,v2].toArray, .tup [p1 i,p2 i]) sL,hP⟩) (hsh:∀i,shD (.tup [p1 i,p2 i])=true) (hw:ζZ ops sL o=some true:=by exact rfl) (hd:o.dst=some d:=by exact rfl) (hn:d<c.nt:=by exact Xa rfl):aL P c ops Q (o::rest) (⟨sL,hP⟩:St):=
 Zfk hw hC fun a w F w' v p' Fr H hR hx hT hlo hdw=>by
  obtain ⟨i,rfl⟩:=hR;have hS:=hT.shD (hsh i);rw [hd];have hS':Shr (mof c hP F) w' v (.tup [p1 i,p2 i]):=hS.anti fun b _ h=> .inl h
  cases hS with
  | tup vs ps hl h=>
    match vs,hl,h,hS' with
    |[v1,v2],_,h,hS'=>exact k i v1 v2 (h 0 v1 _ rfl rfl).vOf (h 1 v2 _ rfl rfl).vOf _ _ ⟨F,Zi8 H hx hn hS'⟩
section
variable {P:Program} {c:Ctx} {sL hP:List (Nat×Ent)}
theorem ZkD {fn:Func} {R:PV→Prop} {t s r:Nat} {v u x:Value} {p q g:PV} (hr:fn.results= #[.tmp t, .tmp s, .tmp r]) (ht:lk sL t=some (v,p)) (hs:lk sL s=some (u,q)) (hx:lk sL r=some (x,g)) (hR:R (.tup [p,q,g])) (hN:∀b,¬c.N0 b:=by intro _ h;exact h) (hdf:c.df=[]:=by exact rfl):aR c (bodyPost P fn (Zfj c R)) (⟨sL,hP⟩:St):=fun a w ⟨F,H⟩=>by
 obtain ⟨h1,h2⟩:=H.sl t v p ht
 obtain ⟨h3,h4⟩:=H.sl s u q hs
 obtain ⟨h5,h6⟩:=H.sl r x g hx
 have hM:∀b,b<w.heap.size→(c.M0 b∨False)→mof c hP F b:=fun b _ hb=>by
  rcases hb with hb|hb
  · exact .inl hb
  · exact hb.elim
 refine ⟨H.df.trans hdf, .tuple [v,u,x].toArray,?_,_,_,fun _=>False,rfl,hR,H.ext.ext (fun b _=>hN b), .shr (.tup [v,u,x] [p,q,g] rfl fun i x r hx hr=>?_) (fun _ h=>h),fun _ h=>h.elim,H.dw⟩
 · simp [results,hr,XY,h1,h3,h5]
 · match i with
   |0=>simp at hx hr;subst hx hr;exact h2.anti hM
   |1=>simp at hx hr;subst hx hr;exact h4.anti hM
   |2=>simp at hx hr;subst hx hr;exact h6.anti hM
   |i+3=>simp at hx
end
theorem Zvb {P:Program} {c:Ctx} {ops:Array Oper} {Q:Exit→Act→World→Prop} {rest:List Oper} {sL hP:List (Nat×Ent)} {o:Oper} {p1 p2 p3:PV} (d:Nat) (hC:Zew P c (⟨sL,hP⟩:St) o (· = .tup [p1,p2,p3])) (k:∀v1 v2 v3,vOf p1 v1→vOf p2 v2→vOf p3 v3→aL P c ops Q rest ⟨put d (.tuple [v1,v2,v3].toArray, .tup [p1,p2,p3]) sL,hP⟩) (hsh:shD (.tup [p1,p2,p3])=true:=by exact rfl) (hw:ζZ ops sL o=some true:=by exact rfl) (hd:o.dst=some d:=by exact rfl) (hn:d<c.nt:=by exact Xa rfl):aL P c ops Q (o::rest) (⟨sL,hP⟩:St):=
 Zfk hw hC fun a w F w' v p' Fr H hR hx hT hlo hdw=>by
  subst hR;have hS:=hT.shD hsh;rw [hd];have hS':Shr (mof c hP F) w' v (.tup [p1,p2,p3]):=hS.anti fun b _ h=> .inl h
  cases hS with
  | tup vs ps hl h=>
    match vs,hl,h,hS' with
    |[v1,v2,v3],_,h,hS'=>exact k v1 v2 v3 (h 0 v1 _ rfl rfl).vOf (h 1 v2 _ rfl rfl).vOf (h 2 v3 _ rfl rfl).vOf _ _ ⟨F,Zi8 H hx hn hS'⟩
open Go.RowKit Go.Cb Go.Proofs Go.Sort
def ZD7 (P:Program) (fs:Nat):Prop:=∀(blk cap:Nat) (zs:List Int) (w:World),Go.Sort.Holds (Value.int .i64) w blk 0 zs.toArray→blk<w.heap.size→zs.length<4611686018427387904→
 Calls P fs #[.slice (some ⟨blk,0,none⟩) zs.length cap] w fun e w'=>e= .returned (.tuple #[])∧∃n os,w'=grow (putRow (Value.int .i64) (Go.Sort.ahead w n) blk 0 zs.reverse.toArray) os
section
variable {P:Program} {c:Ctx} {ops:Array Oper} {Q:Exit→Act→World→Prop} {rest:List Oper} {sL hP:List (Nat×Ent)} {o:Oper}
theorem ZC2 {fs e d:Nat} {zs:List Int} {h:Value} {q:PV} {x:Operand} {ats:Array TypeId} (l:Nat) (hS:ZD7 P fs) (hc:∀args w,(callFunc fs args).run P w= .ok (.enter fs args) w)
 (kk:aL P c ops Q rest ⟨put d (.tuple #[], .val (.tuple #[])) sL,put l (h, .own e 1 zs.length (zs.reverse.map pInt)) hP⟩)
 (hn:0<zs.length) (hn2:zs.length<4611686018427387904:=by omega) (hw:ζZ ops sL o=some true:=by exact rfl) (hd:o.dst=some d:=by exact rfl) (hdn:d<c.nt:=by exact Xa rfl) (ho:o.op= .call {callee:= .value (.func fs),args:= #[x],argTypes:=ats}:=by exact rfl) (hx:ev sL x=some (h,q):=by exact rfl) (hl:lk hP l=some (h, .own e 1 zs.length (zs.map pInt)):=by exact rfl):aL P c ops Q (o::rest) (⟨sL,hP⟩:St):=
 ZaG hw fun a w F H=>by
  have hxv:=(H.rd.ev hx).1;have hTr:=H.tr l _ _ hl;obtain ⟨xs,Fs,hrow,hlen,hT,hdj,hb,hF⟩:=hTr.row;obtain ⟨blk,cap,hh,hc1,hc2,hc3⟩:=Zdk hTr hn;have hblkF:F l blk:=(hF blk).2 (.inl (by rw [hh];rfl));have hxs:∀(j:Nat) (v:Value),xs[j]? =some v→∃z,zs[j]? =some z∧v= .int .i64 z:=fun j v hv=>by
   obtain ⟨p,hp⟩:=Zar hv hlen.symm;have h1:=hp;rw [Xm,XC] at h1;obtain ⟨z,hz,rfl⟩:=h1;exact ⟨z,hz,((hT j v _ hv hp).sh rfl).vOf⟩
  have hHold:Go.Sort.Holds (Value.int .i64) w blk 0 zs.toArray:=fun j hj=>by
   simp only [Vk] at hj;have hrow':=hrow;rw [hh] at hrow';obtain ⟨v,hv⟩:=Zap (show j<xs.length by rw [←hlen,Xf];exact hj);obtain ⟨z,hz,rfl⟩:=hxs j v hv;refine ⟨?_,by rw [Xw];exact hrow'.frozenAt j⟩;rw [Xw,ZbM hrow' hv];have:zs.toArray[j]! =z:=by
    have hz':=(XI.1 hz).2;simp [hj,hz']
   rw [this]
  have hcall:=hS blk cap zs w hHold hc3 hn2;unfold Oper.wp;have hrun:(execOp a.eval o).run P w= .ok (.enter fs #[h]) w:=by
   have hev:a.eval (.func fs)= .func (.func fs) #[] #[]:=rfl;simp [execOp,ho,resolve,Deferred.ofValue,hev,invoke,hxv,hc]
  rw [hrun,Oper.upon_enter,hh];refine hcall.mono fun e' w' ⟨he',m,os,hw'⟩=>?_;subst he';have hsl:zs.reverse.length=zs.length:=List.length_reverse;generalize hsd:zs.reverse=sd at hsl hw' kk;have hch0:Chg (fun b=>b=blk) w w':=by
   rw [hw'];refine ⟨rfl,rfl,rfl,?_,fun i hi hne=>?_⟩
   · simp [grow,putRow,mapBlock,Go.Sort.ahead]
   · have:(grow (putRow (Value.int .i64) (Go.Sort.ahead w m) blk 0 sd.toArray) os).heap=(w.heap.modify blk (onCells (putCells (Value.int .i64) 0 sd.toArray)))++os:=rfl;rw [this,Vm (by simpa using hi),VJ,if_neg (fun e=>hne e.symm)]
  rw [hd];refine kk _ _ ⟨fun l'=>if l'=l then (fun b=>b=blk) else F l',?_⟩;refine H.change (fun l'=>l'=l) hdn (hch0.wid fun b hb'=> .inl ⟨l,_,rfl,hl,by rw [hb'];exact hblkF⟩) (fun l' z hne hz=>?_) (fun l' z b hT' hz hb'=>?_) (fun hmm l' u p hT' hz=>?_) (fun l1 l2 _ _ _ h1 h2 hne=>absurd (h1.trans h2.symm) hne) (fun _=> .val _) (fun _=>by rw [hw'];exact VL _ _)
  · rcases Zak hz with ⟨e1,_⟩|⟨_,e1⟩
    · exact absurd e1.symm hne
    · exact ⟨e1,by simp [hne]⟩
  · subst hT';simp only [if_true] at hb';exact .inl ⟨l',_,rfl,hl,by rw [hb'];exact hblkF⟩
  · subst hT';rw [ζ9] at hz
    cases hz;simp only [if_true];rcases hrow.2 with ⟨e1,_⟩|⟨g',cap',cur,e1,_,e3,e4,e5,e6,e7⟩
    · rw [hh] at e1;cases e1
    · rw [hh] at e1
      cases e1;have hlt:=Za8 e3;refine .own (sd.map (Value.int .i64)) (fun _ _=>False) ⟨by rw [Xf,hsl,Xx], .inr ⟨blk,cap,putCells (Value.int .i64) 0 sd.toArray cur,hh,Xe _,?_,e4,e5,by simp [putCells];omega,?_⟩⟩ (by simp) (fun t v p hv hp=>?_) (fun _ _ _ _ _ _ h=>h.elim) (fun _ _ _ h=>h.elim) (fun b=>by rw [hh];simp [Value.ownBlock,eq_comm])
      · rw [hw'];have:(grow (putRow (Value.int .i64) (Go.Sort.ahead w m) blk 0 sd.toArray) os).heap=(w.heap.modify blk (onCells (putCells (Value.int .i64) 0 sd.toArray)))++os:=rfl;rw [this,Vm (by simpa using hlt),VJ,if_pos rfl,e3];rfl
      · have:=Zjf (Value.int .i64) sd.toArray cur (by simp only [Vk];rw [hsl,e6];omega);simp only [Vk] at this;rw [Xx,←hsl];exact this
      · rw [Xm,XC] at hv hp;obtain ⟨z,hz,rfl⟩:=hv;obtain ⟨z',hz',rfl⟩:=hp;rw [hz] at hz';cases hz';exact .shr (.val _) (fun _ h=>h)
end
section
variable {P:Program} {sL hP:List (Nat×Ent)} {o:Oper}
theorem Ziv {t:Nat} {z:Value} {zs:List Value} {pl:List (Nat×Nat)} (hT:ZbX P t=some (z,pl)) (hzs:z.cells=zs.toArray) (ho:o.op= .build t #[]:=by exact rfl):YE P (⟨sL,hP⟩:St) o (· = .agg zs.toArray) (.agg (zs.map .val)):=
 .exact fun M F a w H=>by
  refine ⟨.agg _ _ (by simp) fun i v q hv hq=>?_,?_⟩
  · rw [Xm,hv] at hq
    cases hq;exact .val _
  have hb:P.built t []=some zs.toArray:=by
   unfold ZbX at hT;split at hT
   · rename_i i fs hi hf;split at hT
     · rename_i z' pl hz hpl
       cases hT;unfold Program.built;simp only [hi,hf,hz,hpl,hzs];rfl
     · cases hT
   · cases hT
  have:=run_build (P:=P) w t #[] _ hb;simp [execOp,ho,this]
end
section
variable {P:Program} {c:Ctx} {sL hP:List (Nat×Ent)}
theorem ZAt {fn:Func} {R:PV→Prop} {t ty s r k e k' n:Nat} {h u x:Value} {q p g:PV} {cs:List PV} (l:Nat) (hT:AggT P ty k=true) (hr:fn.results= #[.cell t ty, .tmp s, .tmp r]) (ht:lk sL t=some (padd (sbase h) 0,q)) (hl:lk hP l=some (h, .own e k' n cs)) (hs:lk sL s=some (u,p)) (hx:lk sL r=some (x,g)) (hp:k≤cs.length) (hk:0<k) (hsh:(cs.take k).all isSh=true) (hR:R (.tup [.agg (cs.take k),p,g])) (hN:∀b,¬c.N0 b:=by intro _ h;exact h) (hdf:c.df=[]:=by exact rfl):aR c (bodyPost P fn (Zfj c R)) (⟨sL,hP⟩:St):=fun a w ⟨F,H⟩=>by
 obtain ⟨V,A,h0,h1,h2⟩:=Zfn H hT ht hl hp hk hsh
 obtain ⟨h3,h4⟩:=H.sl s _ _ hs
 obtain ⟨h5,h6⟩:=H.sl r _ _ hx
 have hM:∀b,b<w.heap.size→(c.M0 b∨False)→mof c hP F b:=fun b _ hb=>by
  rcases hb with hb|hb
  · exact .inl hb
  · exact hb.elim
 refine ⟨H.df.trans hdf, .tuple #[V,u,x],?_, .tuple #[V,u,x],_,fun _=>False,rfl,hR,H.ext.ext (fun b _=>hN b), .shr (.tup [V,u,x] _ rfl fun i v q' hv hq'=>?_) (fun _ h=>h),fun _ h=>h.elim,H.dw⟩
 · simp only [results,hr];simp at h0;simp [h0,h1,XY,h3,h5]
 · match i with
   |0=>simp at hv hq';subst hv hq';exact h2.anti hM
   |1=>simp at hv hq';subst hv hq';exact h4.anti hM
   |2=>simp at hv hq';subst hv hq';exact h6.anti hM
   |i+3=>simp at hv
end
section
variable {P:Program} {c:Ctx} {sL hP:List (Nat×Ent)}
theorem ZC3 {fn:Func} {R:Value→PV→List (Nat×Ent)→Prop} {t ty k e k' n:Nat} {h:Value} {q:PV} {cs:List PV} (l:Nat) (H':List (Nat×Ent)) (hT:AggT P ty k=true) (hr:fn.results= #[.cell t ty]) (ht:lk sL t=some (padd (sbase h) 0,q)) (hl:lk hP l=some (h, .own e k' n cs)) (hp:k≤cs.length) (hk:0<k) (hsh:(cs.take k).all isSh=true) (hsub:Sub H' hP) (hR:∀V:Value,R V (.agg (cs.take k)) H') (hdf:c.df=[]:=by exact rfl):aR c (bodyPost P fn (Zoo c R)) (⟨sL,hP⟩:St):=fun a w ⟨F,H⟩=>by
 obtain ⟨V,A,h0,h1,h2⟩:=Zfn H hT ht hl hp hk hsh
 have H2:HoldsF c (⟨sL,H'⟩:St) F a w:=H.less (fun _ _ h=>h) fun t x hx=>hsub.lk hx
 have hM:∀b,b<w.heap.size→mof c H' F b→mof c hP F b:=fun b _ hb=>by
  rcases hb with hb|⟨l,x,h1,h2⟩
  · exact .inl hb
  · exact .inr ⟨l,x,hsub.lk h1,h2⟩
 refine ⟨H.df.trans hdf,V,?_,V, .agg (cs.take k),H',F,rfl,hR _,H2.toHeapF,h2.anti hM⟩
 simp only [results,hr]
 simp at h0
 simp [h0,h1]
end
section
variable {P:Program} {st:St} {o:Oper}
theorem Zep {t e k e' k' n a:Nat} {x y:Operand} {h:Value} {p q:PV} {cs:List PV} {kd:IntKind} {i:Int} (l:Nat) (hT:SlT P t e k=true) (ho:o.op= .indexAddr t x y) (hx:ev st.slots x=some (slc h a n k,p)) (hy:ev st.slots y=some (.int kd i,q)) (hl:lk st.heap l=some (h, .own e' k' n cs)) (h0:0≤i) (h1:(a:Int)+i<n) {m:Nat} (hm:m=(a+i.toNat)*k):
 YE P st o (· =padd (sbase h) m) (.val (padd (sbase h) m)):=
 .exact fun M F w' w H=>by
  subst hm;have hv:=(H.ev hx).1;have hi:=(H.ev hy).1;obtain ⟨g,cap,rfl,hc,_⟩:=Zdk (H.tr l _ _ hl) (by omega);refine ⟨.val _,?_⟩;have hca:cap≠a:=by omega
  simp only [slc,hca,if_false,Ud,Za9,Xw] at hv;simp [execOp,ho,hv,hi,ZgE hT h0 (show i<((n-a:Nat):Int) by omega),sbase,padd,X9]
theorem Zm9 {t e k e' k' n a:Nat} {x:Operand} {h:Value} {p:PV} {cs:List PV} (l:Nat) (hT:SlT P t e k=true) (ho:o.op= .call {callee:= .builtin .len,args:= #[x],argTypes:= #[t]}) (hx:ev st.slots x=some (slc h a n k,p)) (hl:lk st.heap l=some (h, .own e' k' n cs)) {m:Nat} (hm:m=n-a):YE P st o (· = .int .i64 m) (.val (.int .i64 m)):=
 .exact fun M F w' w H=>by
  subst hm;have hv:=(H.ev hx).1;obtain ⟨xs,Fs,hrow,hlen,_⟩:=(H.tr l _ _ hl).row;rcases ZaX hrow with ⟨rfl,rfl,_⟩|⟨g,cap,rfl,h1,h2,h3⟩
  · exact ⟨.val _,by simp [execOp,ho,hv,resolve,invoke,builtin,Builtin.len_,run_underlying (SlT.und hT),goInt,slc]⟩
  · exact ⟨.val _,by simp [execOp,ho,hv,resolve,invoke,builtin,Builtin.len_,run_underlying (SlT.und hT),goInt,slc]⟩
end
section
variable {P:Program} {c:Ctx} {Q:Exit→Act→World→Prop} {sL hP:List (Nat×Ent)}
end
section
variable {P:Program} {st:St} {o:Oper} {x y:Operand} {q q':PV} {t t':TypeId}
theorem and_one {a:Nat} (h:a<128):IntKind.wrap .i64 ((BitVec.ofInt 64 (a:Int)&&& BitVec.ofInt 64 1).toNat:Nat)=((a % 2:Nat):Int):=by
 have key:∀a:Fin 128,IntKind.wrap .i64 ((BitVec.ofInt 64 ((a:Nat):Int)&&& BitVec.ofInt 64 1).toNat:Nat)=(((a:Nat) % 2:Nat):Int):=by decide
 exact key ⟨a,h⟩
end
section
variable {P:Program}
end
section
variable {P:Program} {c:Ctx} {ops:Array Oper} {Q:Exit→Act→World→Prop} {rest:List Oper} {sL hP:List (Nat×Ent)} {o:Oper}
end
section
variable {P:Program} {ops:Array Oper} {Q:Exit→Act→World→Prop} {Pp:List PanicEntry→World→Prop} {md:Region.Mode} {C:World→Prop} {Z:Nat→Bool}
end
section
variable {P:Program} {c:Ctx} {ops:Array Oper} {Q:Exit→Act→World→Prop} {Pp:List PanicEntry→World→Prop} {Z:Nat→Bool} {K:List Nat} {fuel:Nat} {listed:Array Bool} {sL hP:List (Nat×Ent)} {o:Oper}
end
section
variable {P:Program} {st:St} {o:Oper} {x y:Operand} {q q':PV} {t t':TypeId}
end
section
variable {P:Program} {c:Ctx} {ops:Array Oper} {Q:Exit→Act→World→Prop} {rest:List Oper} {sL hP:List (Nat×Ent)} {o:Oper}
end
section
variable {P:Program} {st:St} {o:Oper} {x y u:Operand} {q q' q2:PV} {t t':TypeId}
end
section
variable {P:Program} {c:Ctx} {ops:Array Oper} {Q:Exit→Act→World→Prop} {rest:List Oper} {sL hP:List (Nat×Ent)}
end
section
variable {P:Program} {sL hP:List (Nat×Ent)} {o:Oper}
end
end Go.En
namespace Go.Proofs.YtgfabnhpllkebaaGreatDoor
open Go.RowKit Go.Cb Go.En
set_option linter.all false
set_option maxRecDepth 100000
section
variable {α:Type}
def swp (l:List α) (i j:Nat):List α:=match l[i]?,l[j]? with
 |some x,some y=>(l.set i y).set j x
 |_,_=>l
theorem Zxm {l:List α} {i j:Nat} {x y:α} (hi:l[i]? =some x) (hj:l[j]? =some y):swp l i j=(l.set i y).set j x:=by unfold swp;rw [hi,hj]
theorem ZAu (l:List α) (i j:Nat):(swp l i j).length=l.length:=by unfold swp;split<;>simp
theorem Zhk {l:List α} {i j:Nat} (hi:i<l.length) (hj:j<l.length) (k:Nat):(swp l i j)[k]? =if k=j then l[i]? else if k=i then l[j]? else l[k]? :=by
 rw [Zxm (XM hi) (XM hj),List.getElem?_set,List.getElem?_set,Xp]
 by_cases h1:k=j
 · subst h1;simp [hj,XM hi]
 · rw [if_neg (fun h=>h1 h.symm),if_neg h1];by_cases h2:k=i
   · subst h2;simp [hi,XM hj]
   · rw [if_neg (fun h=>h2 h.symm),if_neg h2]
theorem Zxn (l:List α) (i j:Nat):(swp l i j).Perm l:=by
 unfold swp
 split
 · rename_i x y hx hy;obtain ⟨hi,rfl⟩:=XI.1 hx;obtain ⟨hj,rfl⟩:=XI.1 hy;exact List.set_set_perm hi hj
 · exact List.Perm.refl _
inductive Sw (a b:Nat):List α→List α→Prop
 |refl (l:List α):Sw a b l l
 |step {l m:List α} (i j:Nat) (h:Sw a b l m) (hi:a≤i) (hi':i<b) (hj:a≤j) (hj':j<b) (hb:b≤l.length):Sw a b l (swp m i j)
theorem Sw.len {a b:Nat} {l m:List α} (h:Sw a b l m):m.length=l.length:=by
 induction h with
 |refl=>rfl
 |step i j h _ _ _ _ _ ih=>rw [ZAu,ih]
theorem Sw.perm {a b:Nat} {l m:List α} (h:Sw a b l m):m.Perm l:=by
 induction h with
 |refl=>exact List.Perm.refl _
 |step i j h _ _ _ _ _ ih=>exact (Zxn _ _ _).trans ih
theorem Sw.out {a b:Nat} {l m:List α} (h:Sw a b l m) {k:Nat} (hk:k<a∨b≤k):m[k]? =l[k]? :=by
 induction h with
 |refl=>rfl
 | step i j h hi hi' hj hj' hb ih=>
   rw [Zhk (by rw [h.len];omega) (by rw [h.len];omega),if_neg (by omega),if_neg (by omega),ih]
theorem Sw.mem {a b:Nat} {l m:List α} (h:Sw a b l m):∀{k:Nat} {x:α},a≤k→k<b→m[k]? =some x→∃k',a≤k'∧k'<b∧l[k']? =some x:=by
 induction h with
 |refl=>exact fun h1 h2 h3=>⟨_,h1,h2,h3⟩
 | step i j h hi hi' hj hj' hb ih=>
   intro k x h1 h2 h3;rw [Zhk (by rw [h.len];omega) (by rw [h.len];omega)] at h3;split at h3
   · exact ih hi hi' h3
   · split at h3
     · exact ih hj hj' h3
     · exact ih h1 h2 h3
theorem Sw.mono {a b a' b':Nat} {l m:List α} (h:Sw a b l m) (ha:a'≤a) (hb:b≤b') (hl:b'≤l.length):Sw a' b' l m:=by
 induction h with
 |refl=>exact .refl _
 |step i j h hi hi' hj hj' hb' ih=>exact .step i j ih (by omega) (by omega) (by omega) (by omega) hl
theorem Sw.trans {a b:Nat} {l m n:List α} (h:Sw a b l m) (h':Sw a b m n):Sw a b l n:=by
 induction h' with
 |refl=>exact h
 |step i j h2 hi hi' hj hj' hb ih=>exact .step i j ih hi hi' hj hj' (by rw [←h.len];exact hb)
variable (le:α→α→Prop)
def SrtS (a b:Nat) (l:List α):Prop:=∀i j x y,a≤i→i<j→j<b→l[i]? =some x→l[j]? =some y→le x y
theorem SrtS.sub {a b a' b':Nat} {l:List α} (h:SrtS le a b l) (ha:a≤a') (hb:b'≤b):SrtS le a' b' l:=fun i j x y h1 h2 h3=>h i j x y (by omega) h2 (by omega)
theorem SrtS.small {a b:Nat} (l:List α) (h:b≤a+1):SrtS le a b l:=fun i j x y h1 h2 h3=>by omega
theorem SrtS.ext {a b:Nat} {l m:List α} (h:SrtS le a b l) (he:∀k,a≤k→k<b→m[k]? =l[k]?):SrtS le a b m:=fun i j x y h1 h2 h3 hx hy=>h i j x y h1 h2 h3 (by rw [←he i (by omega) (by omega)];exact hx) (by rw [←he j (by omega) (by omega)];exact hy)
theorem SrtS.eqv (hr:∀x,le x x) {a b:Nat} {l:List α} (h:SrtS le a b l) {i j:Nat} {x y:α} (h1:a≤i) (h2:i≤j) (h3:j<b) (hx:l[i]? =some x) (hy:l[j]? =some y):le x y:=by
 rcases Xv i j with h4|h4
 · exact h i j x y h1 h4 h3 hx hy
 · have:i=j:=by omega
   subst this;rw [hx] at hy;cases hy;exact hr x
def Zxo (a i j:Nat) (l:List α):Prop:=(∀p q x y,a≤p→p<q→q≤i→p≠j→q≠j→l[p]? =some x→l[q]? =some y→le x y)∧(∀q x y,j<q→q≤i→l[j]? =some x→l[q]? =some y→le x y)
theorem Zvc {a i:Nat} {l:List α} (h:SrtS le a i l):Zxo le a i i l:=⟨fun p q x y h1 h2 h3 h4 h5=>h p q x y h1 h2 (by omega),fun q x y h1 h2=>by omega⟩
theorem Zxp {a i j:Nat} {l:List α} (h:Zxo le a i (j+1) l) (ha:a≤j) (hi:j+1≤i) (hl:i<l.length) {x y:α} (hx:l[j+1]? =some x) (hy:l[j]? =some y) (hle:le x y):Zxo le a i j (swp l (j+1) j):=by
 have hg:=Zhk (l:=l) (i:=j+1) (j:=j) (by omega) (by omega)
 refine ⟨fun p q u v h1 h2 h3 h4 h5 hu hv=>?_,fun q u v h1 h2 hu hv=>?_⟩
 · rw [hg] at hu hv;rw [if_neg h4] at hu;rw [if_neg h5] at hv;by_cases e1:p=j+1
   · rw [if_pos e1] at hu;rw [if_neg (by omega)] at hv;exact h.1 j q u v ha (by omega) h3 (by omega) (by omega) hu hv
   · rw [if_neg e1] at hu;by_cases e2:q=j+1
     · rw [if_pos e2] at hv;exact h.1 p j u v h1 (by omega) (by omega) (by omega) (by omega) hu hv
     · rw [if_neg e2] at hv;exact h.1 p q u v h1 h2 h3 (by omega) (by omega) hu hv
 · rw [hg,if_pos rfl] at hu;rw [hg,if_neg (by omega)] at hv;by_cases e2:q=j+1
   · rw [if_pos e2] at hv;rw [hu] at hx;rw [hv] at hy;cases hx;cases hy;exact hle
   · rw [if_neg e2] at hv;exact h.2 q u v (by omega) h2 hu hv
theorem ZtS (hr:∀x,le x x) (ht:∀x y z,le x y→le y z→le x z) {a i j:Nat} {l:List α} (h:Zxo le a i j l) (hj:a≤j) (hji:j≤i) (hl:i<l.length) (he:j=a∨∃k x y,j=k+1∧l[k]? =some x∧l[j]? =some y∧le x y):SrtS le a (i+1) l:=by
 intro p q x y h1 h2 h3 hx hy
 by_cases e1:p=j
 · subst e1;exact h.2 q x y h2 (by omega) hx hy
 · by_cases e2:q=j
   · subst e2;rcases he with he|⟨k,u,v,he,hu,hv,hle⟩
     · omega
     · rw [hy] at hv;cases hv;by_cases e3:p=k
       · subst e3;rw [hx] at hu;cases hu;exact hle
       · exact ht _ _ _ (h.1 p k x u h1 (by omega) (by omega) e1 (by omega) hx hu) hle
   · exact h.1 p q x y h1 h2 (by omega) e1 e2 hx hy
def Mov (a b k i:Nat) (l:List α):Prop:=(∀p q x y,a≤p→p<q→q<b→p≠k→q≠k→l[p]? =some x→l[q]? =some y→le x y)∧∀q x y,a≤q→q<b→q≠k→l[k]? =some x→l[q]? =some y→if q<i then le y x else le x y
theorem Zvd {a b k i:Nat} {l:List α} (h:Mov le a b k i l) (ha:a≤k) (hk:k+1<i) (hi:i≤b) (hl:b≤l.length):Mov le a b (k+1) i (swp l k (k+1)):=by
 have hg:=Zhk (l:=l) (i:=k) (j:=k+1) (by omega) (by omega)
 refine ⟨fun p q u v h1 h2 h3 h4 h5 hu hv=>?_,fun q u v h1 h2 h3 hu hv=>?_⟩
 · rw [hg,if_neg h4] at hu;rw [hg,if_neg h5] at hv;by_cases e1:p=k
   · rw [if_pos e1] at hu;rw [if_neg (by omega)] at hv;exact h.1 (k+1) q u v (by omega) (by omega) h3 (by omega) (by omega) hu hv
   · rw [if_neg e1] at hu;by_cases e2:q=k
     · rw [if_pos e2] at hv;exact h.1 p (k+1) u v h1 (by omega) (by omega) (by omega) (by omega) hu hv
     · rw [if_neg e2] at hv;exact h.1 p q u v h1 h2 h3 e1 e2 hu hv
 · rw [hg,if_pos rfl] at hu;rw [hg,if_neg h3] at hv;by_cases e2:q=k
   · rw [if_pos e2] at hv;have:=h.2 (k+1) u v (by omega) (by omega) (by omega) hu hv;rw [if_pos (by omega)] at this;rw [if_pos (by omega)];exact this
   · rw [if_neg e2] at hv;exact h.2 q u v h1 h2 e2 hu hv
theorem ZmG {a b k i:Nat} {l:List α} (h:Mov le a b k i l) (hk:i=k+1):SrtS le a b l:=by
 intro p q x y h1 h2 h3 hx hy
 by_cases e1:p=k
 · subst e1;have:=h.2 q x y (by omega) h3 (by omega) hx hy;rw [if_neg (by omega)] at this;exact this
 · by_cases e2:q=k
   · subst e2;have:=h.2 p y x h1 (by omega) (by omega) hy hx;rw [if_pos (by omega)] at this;exact this
   · exact h.1 p q x y h1 h2 h3 e1 e2 hx hy
theorem Zxq {a b k i:Nat} {l:List α} (h:Mov le a b (k+1) i l) (hi:a≤i) (hik:i≤k) (hk:k+1<b) (hl:b≤l.length):Mov le a b k i (swp l (k+1) k):=by
 have hg:=Zhk (l:=l) (i:=k+1) (j:=k) (by omega) (by omega)
 refine ⟨fun p q u v h1 h2 h3 h4 h5 hu hv=>?_,fun q u v h1 h2 h3 hu hv=>?_⟩
 · rw [hg,if_neg h4] at hu;rw [hg,if_neg h5] at hv;by_cases e1:p=k+1
   · rw [if_pos e1] at hu;rw [if_neg (by omega)] at hv;exact h.1 k q u v (by omega) (by omega) h3 (by omega) (by omega) hu hv
   · rw [if_neg e1] at hu;by_cases e2:q=k+1
     · rw [if_pos e2] at hv;exact h.1 p k u v h1 (by omega) (by omega) (by omega) (by omega) hu hv
     · rw [if_neg e2] at hv;exact h.1 p q u v h1 h2 h3 e1 e2 hu hv
 · rw [hg,if_pos rfl] at hu;rw [hg,if_neg h3] at hv;by_cases e2:q=k+1
   · rw [if_pos e2] at hv;have:=h.2 k u v (by omega) (by omega) (by omega) hu hv;rw [if_neg (by omega)] at this;rw [if_neg (by omega)];exact this
   · rw [if_neg e2] at hv;exact h.2 q u v h1 h2 e2 hu hv
theorem Zos {a b k:Nat} {l:List α} (h:Mov le a b k k l):SrtS le a b l:=by
 intro p q x y h1 h2 h3 hx hy
 by_cases e1:p=k
 · subst e1;have:=h.2 q x y (by omega) h3 (by omega) hx hy;rw [if_neg (by omega)] at this;exact this
 · by_cases e2:q=k
   · subst e2;have:=h.2 p y x h1 (by omega) (by omega) hy hx;rw [if_pos (by omega)] at this;exact this
   · exact h.1 p q x y h1 h2 h3 e1 e2 hx hy
theorem Zve {a b i:Nat} {l:List α} (hs:SrtS le (a+1) b l) (hi:a+1≤i) (h1:∀q x y,a+1≤q→q<i→l[a]? =some x→l[q]? =some y→le y x) (h2:∀q x y,i≤q→q<b→l[a]? =some x→l[q]? =some y→le x y):Mov le a b a i l:=
 ⟨fun p q x y h3 h4 h5 h6 h7=>hs p q x y (by omega) h4 h5,fun q x y h3 h4 h5 hx hy=>by
  by_cases h6:q<i
  · rw [if_pos h6];exact h1 q x y (by omega) h6 hx hy
  · rw [if_neg h6];exact h2 q x y (by omega) h4 hx hy⟩
theorem Zxr {a m i:Nat} {l:List α} (hs:SrtS le a m l) (hi:i≤m) (h1:∀q x y,a≤q→q<i→l[m]? =some x→l[q]? =some y→le y x) (h2:∀q x y,i≤q→q<m→l[m]? =some x→l[q]? =some y→le x y):Mov le a (m+1) m i l:=
 ⟨fun p q x y h3 h4 h5 h6 h7=>hs p q x y h3 h4 (by omega),fun q x y h3 h4 h5 hx hy=>by
  by_cases h6:q<i
  · rw [if_pos h6];exact h1 q x y h3 h6 hx hy
  · rw [if_neg h6];exact h2 q x y (by omega) (by omega) hx hy⟩
def Zf6 (a m b k:Nat):Nat:=if k<a∨b≤k then k else if k-a<b-m then m+(k-a) else a+(k-a-(b-m))
def srI (a b n k:Nat):Nat:=if a≤k∧k<a+n then b+(k-a) else if b≤k∧k<b+n then a+(k-b) else k
theorem Zxs {m i j k:Nat} (hij:j<i) (him:i≤m):srI (m-i) m j (Zf6 (m-i+j) m (m+j) k)=Zf6 (m-i) m (m+j) k:=by
 unfold Zf6 srI
 (repeat' split)<;>omega
theorem Zxt {m i j k:Nat} (hij:i<j) (him:i≤m):srI (m-i) (m+j-i) i (Zf6 (m-i) m (m+j-i) k)=Zf6 (m-i) m (m+j) k:=by
 unfold Zf6 srI
 (repeat' split)<;>omega
theorem ZC4 {m i k:Nat} (him:i≤m):srI (m-i) m i k=Zf6 (m-i) m (m+i) k:=by
 unfold Zf6 srI
 split<;>split<;>(try split)<;>(try split)<;>omega
theorem ZAv {l l0:List α} {a b i n:Nat} (hi:i<n) (hab:a+n≤b) (hb:b+n≤l.length) (h:∀k,l[k]? =l0[srI a b i k]?):∀k,(swp l (a+i) (b+i))[k]? =l0[srI a b (i+1) k]? :=by
 intro k
 rw [Zhk (by omega) (by omega),h,h,h]
 unfold srI
 by_cases e1:k=b+i
 · subst e1;rw [if_pos rfl,if_neg (by omega),if_neg (by omega),if_neg (by omega),if_pos (by omega)];congr 1;omega
 · rw [if_neg e1];by_cases e2:k=a+i
   · subst e2;rw [if_pos rfl,if_neg (by omega),if_neg (by omega),if_pos (by omega)];congr 1;omega
   · rw [if_neg e2];congr 1;split<;>split<;>(try split)<;>(try split)<;>omega
theorem ZAw (a b k:Nat):srI a b 0 k=k:=by unfold srI;split<;>(try split)<;>omega
def Thr (lo hi p s r:Nat) (l:List α):Prop:=lo≤s∧s≤r∧r≤hi∧(∀c x y,lo≤c→c<s→l[c]? =some x→l[p-c]? =some y→le x y)∧(∀c x y,r≤c→c<hi→l[c]? =some x→l[p-c]? =some y→le y x)
theorem Zvf {lo hi p:Nat} (l:List α) (h:lo≤hi):Thr le lo hi p lo hi l:=⟨Xd _,h,Xd _,fun c x y h1 h2=>by omega,fun c x y h1 h2=>by omega⟩
section
variable {le}
theorem Zxu (hr:∀x,le x x) (ht:∀x y z,le x y→le y z→le x z) {a m b lo hi p s r c:Nat} {l:List α} (h:Thr le lo hi p s r l) (h1:SrtS le a m l) (h2:SrtS le m b l) (hc:s≤c) (hc':c<r) (hlo:a≤lo) (hhi:hi≤m) (hp:p<lo+b) (hp':m+hi≤p+1) (hb:b≤l.length) {x y:α} (hx:l[c]? =some x) (hy:l[p-c]? =some y) (hle:le x y):Thr le lo hi p (c+1) r l:=by
 obtain ⟨e1,e2,e3,e4,e5⟩:=h
 refine ⟨by omega,by omega,e3,fun k u v k1 k2 hu hv=>?_,e5⟩
 have a1:le u x:=h1.eqv le hr (by omega) (show k≤c by omega) (by omega) hu hx
 have a2:le y v:=h2.eqv le hr (by omega) (show p-c≤p-k by omega) (by omega) hy hv
 exact ht _ _ _ a1 (ht _ _ _ hle a2)
theorem Zqi (hr:∀x,le x x) (ht:∀x y z,le x y→le y z→le x z) {a m b lo hi p s r c:Nat} {l:List α} (h:Thr le lo hi p s r l) (h1:SrtS le a m l) (h2:SrtS le m b l) (hc:s≤c) (hc':c<r) (hlo:a≤lo) (hhi:hi≤m) (hp:p<lo+b) (hp':m+hi≤p+1) (hb:b≤l.length) {x y:α} (hx:l[c]? =some x) (hy:l[p-c]? =some y) (hle:le y x):Thr le lo hi p s c l:=by
 obtain ⟨e1,e2,e3,e4,e5⟩:=h
 refine ⟨e1,by omega,by omega,e4,fun k u v k1 k2 hu hv=>?_⟩
 have a1:le x u:=h1.eqv le hr (by omega) (show c≤k by omega) (by omega) hx hu
 have a2:le v y:=h2.eqv le hr (by omega) (show p-k≤p-c by omega) (by omega) hv hy
 exact ht _ _ _ a2 (ht _ _ _ hle a1)
def loM (a m b:Nat):Nat:=if (a+b) / 2<m then (a+b) / 2+m-b else a
def hiM (a m b:Nat):Nat:=if (a+b) / 2<m then (a+b) / 2 else m
theorem Zxv {a m b:Nat} (h1:a<m) (h2:m<b):a≤loM a m b∧loM a m b≤hiM a m b∧hiM a m b≤m∧(a+b) / 2+m-1<loM a m b+b∧m+hiM a m b≤(a+b) / 2+m-1+1∧loM a m b≤m∧hiM a m b≤(a+b) / 2:=by
 unfold loM hiM;split<;>omega
theorem Zvg (hr:∀x,le x x) (ht:∀x y z,le x y→le y z→le x z) {a m b s:Nat} {l l1:List α} (ham:a<m) (hmb:m<b) (hb:b≤l.length) (h1:SrtS le a m l) (h2:SrtS le m b l) (h:Thr le (loM a m b) (hiM a m b) ((a+b) / 2+m-1) s s l)
 (hrot:∀k,l1[k]? =l[Zf6 s m ((a+b) / 2+m-s) k]?):
 SrtS le a s l1∧SrtS le s ((a+b) / 2) l1∧SrtS le ((a+b) / 2) ((a+b) / 2+m-s) l1∧SrtS le ((a+b) / 2+m-s) b l1∧a≤s∧s≤(a+b) / 2∧(a+b) / 2≤(a+b) / 2+m-s∧(a+b) / 2+m-s≤b∧
 ∀p q x y,a≤p→p<(a+b) / 2→(a+b) / 2≤q→q<b→l1[p]? =some x→l1[q]? =some y→le x y:=by
 obtain ⟨o1,o2,o3,o4,o5,o6,o7⟩:=Zxv ham hmb
 obtain ⟨e1,e2,e3,e4,e5⟩:=h
 have hM1:a≤(a+b) / 2:=by omega
 have hM2:(a+b) / 2<b:=by omega
 have hend:loM a m b=a∨loM a m b=(a+b) / 2+m-b:=by unfold loM;split<;>simp
 have hhi:hiM a m b=m∨hiM a m b=(a+b) / 2:=by unfold hiM;split<;>simp
 have hlohi:(loM a m b=a∧hiM a m b=m)∨(loM a m b=(a+b) / 2+m-b∧hiM a m b=(a+b) / 2∧(a+b) / 2<m):=by unfold loM hiM;split<;>omega
 generalize hmid:(a+b) / 2=mid at*
 have hsm:s≤m:=by omega
 have hsmid:s≤mid:=by omega
 have hE1:mid+m-s≤b:=by omega
 have g1:∀k,k<s→l1[k]? =l[k]? :=fun k hk=>by rw [hrot];congr 1;unfold Zf6;rw [if_pos (by omega)]
 have g2:∀k,s≤k→k<mid→l1[k]? =l[m+(k-s)]? :=fun k hk hk'=>by rw [hrot];congr 1;unfold Zf6;rw [if_neg (by omega),if_pos (by omega)]
 have g3:∀k,mid≤k→k<mid+m-s→l1[k]? =l[s+(k-mid)]? :=fun k hk hk'=>by rw [hrot];congr 1;unfold Zf6;rw [if_neg (by omega),if_neg (by omega)];omega
 have g4:∀k,mid+m-s≤k→l1[k]? =l[k]? :=fun k hk=>by rw [hrot];congr 1;unfold Zf6;rw [if_pos (by omega)]
 refine ⟨?_,?_,?_,?_,by omega,by omega,by omega,hE1,?_⟩
 · exact (h1.sub le (Xd _) hsm).ext le fun k h3 h4=>g1 k h4
 · intro i j x y k1 k2 k3 hx hy;rw [g2 i k1 (by omega)] at hx;rw [g2 j (by omega) k3] at hy;exact h2 _ _ x y (by omega) (by omega) (by omega) hx hy
 · intro i j x y k1 k2 k3 hx hy;rw [g3 i k1 (by omega)] at hx;rw [g3 j (by omega) k3] at hy;exact h1 _ _ x y (by omega) (by omega) (by omega) hx hy
 · exact (h2.sub le (by omega) (Xd _)).ext le fun k h3 h4=>g4 k h3
 · intro p q x y k1 k2 k3 k4 hx hy;rcases Xv p s with hp|hp
   · rw [g1 p hp] at hx;rcases Xv q (mid+m-s) with hq|hq
     · rw [g3 q k3 hq] at hy;exact h1 _ _ x y k1 (by omega) (by omega) hx hy
     · rw [g4 q hq] at hy;have hlo:loM a m b<s:=by
        rcases Xv (loM a m b) s with h6|h6
        · exact h6
        · omega
       obtain ⟨u,hu⟩:∃u,l[s-1]? =some u:=⟨_,XM (by omega)⟩;obtain ⟨v,hv⟩:∃v,l[mid+m-s]? =some v:=⟨_,XM (by omega)⟩;have a1:le x u:=h1.eqv le hr k1 (show p≤s-1 by omega) (by omega) hx hu;have a2:le u v:=e4 (s-1) u v (by omega) (by omega) hu (by rw [←hv];congr 1;omega);have a3:le v y:=h2.eqv le hr (by omega) hq k4 hv hy;exact ht _ _ _ a1 (ht _ _ _ a2 a3)
   · rw [g2 p hp k2] at hx;rcases Xv q (mid+m-s) with hq|hq
     · rw [g3 q k3 hq] at hy;have hhi2:s<hiM a m b:=by
        rcases Xv s (hiM a m b) with h6|h6
        · exact h6
        · omega
       obtain ⟨u,hu⟩:∃u,l[mid+m-s-1]? =some u:=⟨_,XM (by omega)⟩;obtain ⟨v,hv⟩:∃v,l[s]? =some v:=⟨_,XM (by omega)⟩;have a1:le x u:=h2.eqv le hr (by omega) (show m+(p-s)≤mid+m-s-1 by omega) (by omega) hx hu;have a2:le u v:=e5 s v u (Xd _) hhi2 hv (by rw [←hu];congr 1;omega);have a3:le v y:=h1.eqv le hr (by omega) (show s≤s+(q-mid) by omega) (by omega) hv hy;exact ht _ _ _ a1 (ht _ _ _ a2 a3)
     · rw [g4 q hq] at hy;exact h2 _ _ x y (by omega) (by omega) k4 hx hy
theorem Zf7 {a mid b:Nat} {l1 l2 l3:List α} (h1:a≤mid) (h2:mid≤b) (hb:b≤l1.length) (hc:∀p q x y,a≤p→p<mid→mid≤q→q<b→l1[p]? =some x→l1[q]? =some y→le x y) (s1:Sw a mid l1 l2) (s2:Sw mid b l2 l3) (g1:SrtS le a mid l2) (g2:SrtS le mid b l3):SrtS le a b l3:=by
 intro i j x y k1 k2 k3 hx hy
 rcases Xv j mid with hj|hj
 · rw [s2.out (.inl (by omega))] at hx hy;exact g1 i j x y k1 k2 hj hx hy
 · rcases Xv i mid with hi|hi
   · rw [s2.out (.inl hi)] at hx;obtain ⟨p,p1,p2,p3⟩:=s1.mem k1 hi hx;obtain ⟨q,q1,q2,q3⟩:=s2.mem hj k3 hy;rw [s1.out (.inr q1)] at q3;exact hc p q x y p1 p2 q1 q2 p3 q3
   · exact g2 i j x y hi k2 k3 hx hy
end
end
end Go.Proofs.YtgfabnhpllkebaaGreatDoor
namespace Go.En
open Go.RowKit Go.Cb
set_option linter.all false
section
variable {P:Program} {st:St} {o:Oper} {x y:Operand} {t t':TypeId} {q q':PV}
theorem Zcx {a b c:Int} (ho:o.op= .binOp .add t x y t':=by exact rfl) (hx:ev st.slots x=some (.int .i64 a,q):=by exact rfl) (hy:ev st.slots y=some (.int .i64 b,q'):=by exact rfl) (hc:a+b=c:=by omega) (h1: -9223372036854775808≤c:=by omega) (h2:c≤9223372036854775807:=by omega):YE P st o (· = .int .i64 c) (.val (.int .i64 c)):=by
 subst hc;exact ZB6 ho hx hy h1 h2
theorem ZbG {a b c:Int} (ho:o.op= .binOp .sub t x y t':=by exact rfl) (hx:ev st.slots x=some (.int .i64 a,q):=by exact rfl) (hy:ev st.slots y=some (.int .i64 b,q'):=by exact rfl) (hc:a-b=c:=by omega) (h1: -9223372036854775808≤c:=by omega) (h2:c≤9223372036854775807:=by omega):YE P st o (· = .int .i64 c) (.val (.int .i64 c)):=by
 subst hc;exact ZB7 ho hx hy h1 h2
theorem Zot {a b c:Int} (ho:o.op= .binOp .mul t x y t':=by exact rfl) (hx:ev st.slots x=some (.int .i64 a,q):=by exact rfl) (hy:ev st.slots y=some (.int .i64 b,q'):=by exact rfl) (hc:a*b=c:=by omega) (h1: -9223372036854775808≤c:=by omega) (h2:c≤9223372036854775807:=by omega):YE P st o (· = .int .i64 c) (.val (.int .i64 c)):=by
 subst hc;exact ZB8 ho hx hy h1 h2
theorem Zou {a c:Int} (ho:o.op= .move x:=by exact rfl) (hx:ev st.slots x=some (.int .i64 a,q):=by exact rfl) (hc:a=c:=by omega):YE P st o (· = .int .i64 c) (.val (.int .i64 c)):=by
 subst hc;exact y1 hx (fun _ _ _=> .val _) fun ρ w h=>by simp [execOp,ho,h]
theorem ZtT {a:Nat} {s d:TypeId} {ds:TypeDesc} (hs:P.underlying s=some ds) (hd:P.underlying d=some (.int .u64)) (ha:a≤9223372036854775807) (ho:o.op= .convert s d x:=by exact rfl) (hx:ev st.slots x=some (.int .i64 (a:Int),q):=by exact rfl):YE P st o (· = .int .u64 (a:Int)) (.val (.int .u64 (a:Int))):=
 Zr4 hs hd ho hx (IntWalk.u64_in _ (by omega))
theorem ZtU {a:Nat} {s d:TypeId} {ds:TypeDesc} (hs:P.underlying s=some ds) (hd:P.underlying d=some (.int .i64)) (ha:a≤9223372036854775807) (ho:o.op= .convert s d x:=by exact rfl) (hx:ev st.slots x=some (.int .u64 (a:Int),q):=by exact rfl):YE P st o (· = .int .i64 (a:Int)) (.val (.int .i64 (a:Int))):=
 Zr4 hs hd ho hx (IntWalk.i64_in _ (by omega))
theorem ZkE {a:Nat} {b:Int} {kb:IntKind} (hb:b=1) (ho:o.op= .binOp .shr t x y t':=by exact rfl) (hx:ev st.slots x=some (.int .u64 (a:Int),q):=by exact rfl) (hy:ev st.slots y=some (.int kb b,q'):=by exact rfl):YE P st o (· = .int .u64 ((a / 2:Nat):Int)) (.val (.int .u64 ((a / 2:Nat):Int))):=
 y2 hx hy fun ρ w h3 h4=>by
  subst hb;have e:(a:Int).fdiv 2=((a / 2:Nat):Int):=by
   rw [Int.fdiv_eq_ediv_of_nonneg _ (by decide)];rfl
  simp [execOp,ho,h3,h4,eqGuard,binOp,Op.shift];exact e
end
end Go.En
namespace Go.Proofs.YtgfabnhpllkebaaGreatDoor
open Go.RowKit Go.Cb Go.En
set_option linter.all false
set_option maxRecDepth 100000
theorem ζC:AggT Tryz.prog 24 3=true:=by kernel_rfl
theorem ζW:SlT Tryz.prog 22 24 3=true:=by kernel_rfl
theorem ZgO (l:List Nd):(ζ3 l).length=l.length*3:=by rw [ZaV];exact flat_len Zfb l
theorem ZtV:∀(ps:List PV) (a b c:List PV) (j:Nat),a.length=j→b.length=ps.length→ZdU (a++b++c) j ps=a++ps++c
 | [],a,b,c,j,ha,hb=>by
   have:b=[]:=XO hb;subst this;rfl
 | p ::ps,a,x::b,c,j,ha,hb=>by
   rw [ZdU];have h1:(a++(x::b)++c).set j p=(a++[p])++b++c:=by
    subst ha;rw [XA,Uz _ _ (Xd _),VA];simp
   rw [h1,ZtV ps (a++[p]) b c (j+1) (by simp [ha]) (by simpa using hb)];simp
theorem Zov (L:List Nd) (k:Nat) (x:Nd) (h:k<L.length):ZdU (ζ3 L) (k*3) (cN x)=ζ3 (L.set k x):=by
 rw [ZaV,ZaV]
 have e:L=L.take k++[L[k]]++L.drop (k+1):=by
  rw [XA,List.singleton_append,List.getElem_cons_drop,Vq]
 have e2:L.set k x=L.take k++[x]++L.drop (k+1):=by
  rw [List.set_eq_take_append_cons_drop,if_pos h,XA];rfl
 rw [e2]
 conv=>lhs;rw [e]
 simp only [XS,VD]
 exact ZtV (cN x) _ _ _ _ (by rw [flat_len Zfb,Xu,XU (VN h)]) rfl
theorem Zhl {L:List Nd} {i j:Nat} {x y:Nd} (hx:L[i]? =some x) (hy:L[j]? =some y):ZdU (ZdU (ζ3 L) (i*3) (cN y)) (j*3) (cN x)=ζ3 (swp L i j):=by
 rw [Zov L i y (ζg hx),Zov _ j x (by rw [Xp];exact ζg hy),Zxm hx hy]
def Za6 (hv:Value) (l:List Nd):List (Nat×Ent):=[(1000,hv, .own 24 3 l.length (ζ3 l))]
theorem Zlg (l:List Nd) (hl:l.length≤1000000) (a b n:Nat) (h1:a+n≤b) (h2:b+n≤l.length) (hv:Value) (fv:Value) (f:Nat):AFh False Tryz.prog 291 [(0,hv, .val hv),(1, .int .i64 (a:Int),pInt a),(2, .int .i64 (b:Int),pInt b),(3, .int .i64 (n:Int),pInt n),(4,fv, .fn f [])] (Za6 hv l) (fun v q h=>∃l',(∀k,l'[k]? =l[srI a b n k]?)∧Sw a (b+n) l l'∧h=Za6 hv l'):=by
 unfold Za6
 refine AFh.of_body 38 Tryz.func291 rfl Tryz.ntmps291 (Xa rfl) rfl ?_
 intro w0 M0 N0
 refine nav ?_
 (refine ζa ?_<;>refine xL 10 ζc ?_<;>refine ζd ?_)
 refine ζy (ι:={q:Nat×List Nd//q.1≤n∧(∀k,q.2[k]? =l[srI a b q.1 k]?)∧Sw a (b+n) l q.2}) (fun k=>⟨[(0,_,_),(1,_,_),(2,_,_),(3,_,_),(10, .int .i64 k.1.1,pInt k.1.1)],[(1000,hv, .own 24 3 l.length (ζ3 k.1.2))]⟩) (fun k=>n-k.1.1) ⟨(0,l),Xe _,fun k=>by rw [ZAw], .refl _⟩ (fun a w H=>H.weaken ⟨rfl,rfl,rfl,rfl,rfl,trivial⟩ ⟨rfl,trivial⟩) ?_
 rintro ⟨⟨i,L⟩,hi,hL,hS⟩
 dsimp only
 dsimp only at hi hL hS;have hLl:=hS.len
 refine nav ?_
 (refine ζa ?_<;>refine xL 11 ζb (xL 12 ζb (xL 13 ζK ?_))<;>refine ζd ?_)
 (first|refine cCd ?_ ?_|refine cC ?_ ?_)<;>intro hb13
 · first
   |exact bN hb13
   | (
    (have hin:i<n:=by omega);obtain ⟨x,hx⟩:=ζm (show a+i<L.length by omega);obtain ⟨y,hy⟩:=ζm (show b+i<L.length by omega);have e1:=ζ4 hx;have e2:=Zah hx;have e3:=ζ4 hy;have e4:=Zah hy;have hsw:=Zhl hx hy;have e5:(ZdU (ζ3 L) ((a+i)*3) (cN y)).length=(ζ3 L).length:=Zfh _ _ _;refine nav ?_;(refine ζY (fun i=>([]:List Nat).elem i) [] kR ?_<;>refine xD 0 16 rfl ζb ?_<;>refine xD 1 17 rfl ζb ?_<;>refine xD 2 18 rfl ζb ?_<;>refine xD 3 19 rfl ((Zcx (c:=((a+i:Nat):Int)))) ?_<;>refine xD 4 20 rfl ζb ?_<;>refine xD 5 21 rfl ζb ?_<;>refine xD 6 22 rfl ζb ?_<;>refine xD 7 23 rfl ((Zcx (c:=((b+i:Nat):Int)))) ?_<;>refine xD 8 24 rfl ζb ?_<;>refine xD 9 25 rfl ζb ?_<;>refine xD 10 26 rfl ζb ?_<;>refine xD 11 27 rfl ((Zcx (c:=((b+i:Nat):Int)))) ?_<;>refine xD 14 30 rfl ζb ?_<;>refine xD 15 31 rfl ζb ?_<;>refine xD 16 32 rfl ζb ?_<;>refine xD 17 33 rfl ((Zcx (c:=((a+i:Nat):Int)))) ?_<;>(refine Zad 12 18 kR ?_ ?_;rotate_right;(focus ((refine ζf rfl fun w9 M9 N9 DQ back=>?_)<;>refine xL 34 (ζv 1000 ζW) ?_<;>refine ζe (back _ (nrm ?_))<;>(refine Zad 12 19 kR ?_ ?_;rotate_right;(focus ((refine ζf rfl fun w9 M9 N9 DQ back=>?_)<;>(refine yL 35 (ζk 1000 ζC) fun v35 h=>?_;cases h)<;>refine ζe (back _ (nrm ?_))<;>(refine ζi 12 kR ?_)<;>(refine ζf rfl fun w9 M9 N9 DQ back=>?_)<;>refine xL 28 (ζv 1000 ζW) ?_<;>refine ζe (back _ (nrm ?_))<;>(refine ζi 13 kR ?_)<;>(refine ζf rfl fun w9 M9 N9 DQ back=>?_)<;>(refine yL 29 (ζk 1000 ζC) fun v29 h=>?_;cases h)<;>refine ζe (back _ (nrm ?_))<;>refine xE 20 36 rfl (ζv 1000 ζW) ?_<;>(refine ζi 21 kR ?_)<;>(refine ζf rfl fun w9 M9 N9 DQ back=>?_)<;>refine ζt 1000 ζC ?_<;>refine ζe (back _ (nrm ?_))<;>refine xE 22 37 rfl (ζv 1000 ζW) ?_<;>(refine ζi 23 kR ?_)<;>(refine ζf rfl fun w9 M9 N9 DQ back=>?_)<;>refine ζt 1000 ζC ?_<;>refine ζe (back _ (nrm ?_))));rotate_right;(focus ((refine ζf rfl fun w9 M9 N9 DQ back=>?_)<;>refine xL 28 (ζv 1000 ζW) ?_<;>refine ζe (back _ (nrm ?_))<;>(refine Zad 13 19 kR ?_ ?_;rotate_right;(focus ((refine ζf rfl fun w9 M9 N9 DQ back=>?_)<;>(refine yL 35 (ζk 1000 ζC) fun v35 h=>?_;cases h)<;>refine ζe (back _ (nrm ?_))<;>(refine ζi 13 kR ?_)<;>(refine ζf rfl fun w9 M9 N9 DQ back=>?_)<;>(refine yL 29 (ζk 1000 ζC) fun v29 h=>?_;cases h)<;>refine ζe (back _ (nrm ?_))<;>refine xE 20 36 rfl (ζv 1000 ζW) ?_<;>(refine ζi 21 kR ?_)<;>(refine ζf rfl fun w9 M9 N9 DQ back=>?_)<;>refine ζt 1000 ζC ?_<;>refine ζe (back _ (nrm ?_))<;>refine xE 22 37 rfl (ζv 1000 ζW) ?_<;>(refine ζi 23 kR ?_)<;>(refine ζf rfl fun w9 M9 N9 DQ back=>?_)<;>refine ζt 1000 ζC ?_<;>refine ζe (back _ (nrm ?_))));rotate_right;(focus ((refine ζf rfl fun w9 M9 N9 DQ back=>?_)<;>(refine yL 29 (ζk 1000 ζC) fun v29 h=>?_;cases h)<;>refine ζe (back _ (nrm ?_))<;>(refine ζi 19 kR ?_)<;>(refine ζf rfl fun w9 M9 N9 DQ back=>?_)<;>(refine yL 35 (ζk 1000 ζC) fun v35 h=>?_;cases h)<;>refine ζe (back _ (nrm ?_))<;>refine xE 20 36 rfl (ζv 1000 ζW) ?_<;>(refine ζi 21 kR ?_)<;>(refine ζf rfl fun w9 M9 N9 DQ back=>?_)<;>refine ζt 1000 ζC ?_<;>refine ζe (back _ (nrm ?_))<;>refine xE 22 37 rfl (ζv 1000 ζW) ?_<;>(refine ζi 23 kR ?_)<;>(refine ζf rfl fun w9 M9 N9 DQ back=>?_)<;>refine ζt 1000 ζC ?_<;>refine ζe (back _ (nrm ?_))))))))));rotate_right;(focus ((refine ζf rfl fun w9 M9 N9 DQ back=>?_)<;>refine xL 28 (ζv 1000 ζW) ?_<;>refine ζe (back _ (nrm ?_))<;>(refine Zad 13 18 kR ?_ ?_;rotate_right;(focus ((refine ζf rfl fun w9 M9 N9 DQ back=>?_)<;>refine xL 34 (ζv 1000 ζW) ?_<;>refine ζe (back _ (nrm ?_))<;>(refine Zad 13 19 kR ?_ ?_;rotate_right;(focus ((refine ζf rfl fun w9 M9 N9 DQ back=>?_)<;>(refine yL 35 (ζk 1000 ζC) fun v35 h=>?_;cases h)<;>refine ζe (back _ (nrm ?_))<;>(refine ζi 13 kR ?_)<;>(refine ζf rfl fun w9 M9 N9 DQ back=>?_)<;>(refine yL 29 (ζk 1000 ζC) fun v29 h=>?_;cases h)<;>refine ζe (back _ (nrm ?_))<;>refine xE 20 36 rfl (ζv 1000 ζW) ?_<;>(refine ζi 21 kR ?_)<;>(refine ζf rfl fun w9 M9 N9 DQ back=>?_)<;>refine ζt 1000 ζC ?_<;>refine ζe (back _ (nrm ?_))<;>refine xE 22 37 rfl (ζv 1000 ζW) ?_<;>(refine ζi 23 kR ?_)<;>(refine ζf rfl fun w9 M9 N9 DQ back=>?_)<;>refine ζt 1000 ζC ?_<;>refine ζe (back _ (nrm ?_))));rotate_right;(focus ((refine ζf rfl fun w9 M9 N9 DQ back=>?_)<;>(refine yL 29 (ζk 1000 ζC) fun v29 h=>?_;cases h)<;>refine ζe (back _ (nrm ?_))<;>(refine ζi 19 kR ?_)<;>(refine ζf rfl fun w9 M9 N9 DQ back=>?_)<;>(refine yL 35 (ζk 1000 ζC) fun v35 h=>?_;cases h)<;>refine ζe (back _ (nrm ?_))<;>refine xE 20 36 rfl (ζv 1000 ζW) ?_<;>(refine ζi 21 kR ?_)<;>(refine ζf rfl fun w9 M9 N9 DQ back=>?_)<;>refine ζt 1000 ζC ?_<;>refine ζe (back _ (nrm ?_))<;>refine xE 22 37 rfl (ζv 1000 ζW) ?_<;>(refine ζi 23 kR ?_)<;>(refine ζf rfl fun w9 M9 N9 DQ back=>?_)<;>refine ζt 1000 ζC ?_<;>refine ζe (back _ (nrm ?_)))))));rotate_right;(focus ((refine ζf rfl fun w9 M9 N9 DQ back=>?_)<;>(refine yL 29 (ζk 1000 ζC) fun v29 h=>?_;cases h)<;>refine ζe (back _ (nrm ?_))<;>(refine ζi 18 kR ?_)<;>(refine ζf rfl fun w9 M9 N9 DQ back=>?_)<;>refine xL 34 (ζv 1000 ζW) ?_<;>refine ζe (back _ (nrm ?_))<;>(refine ζi 19 kR ?_)<;>(refine ζf rfl fun w9 M9 N9 DQ back=>?_)<;>(refine yL 35 (ζk 1000 ζC) fun v35 h=>?_;cases h)<;>refine ζe (back _ (nrm ?_))<;>refine xE 20 36 rfl (ζv 1000 ζW) ?_<;>(refine ζi 21 kR ?_)<;>(refine ζf rfl fun w9 M9 N9 DQ back=>?_)<;>refine ζt 1000 ζC ?_<;>refine ζe (back _ (nrm ?_))<;>refine xE 22 37 rfl (ζv 1000 ζW) ?_<;>(refine ζi 23 kR ?_)<;>(refine ζf rfl fun w9 M9 N9 DQ back=>?_)<;>refine ζt 1000 ζC ?_<;>refine ζe (back _ (nrm ?_))))))))<;>refine Zam kR (nav ?_)<;>try dsimp only)<;>(
     (refine ζa ?_<;>refine xL 14 ζb (xL 15 ζG (xL 10 ζc ?_))<;>refine ζd ?_)
     rw [hsw];refine ζj (
      ⟨(i+1,swp L (a+i) (b+i)),hin,ZAv hin h1 (by omega) hL, .step _ _ hS (by omega) (by omega) (by omega) (by omega) h2⟩
      ) (by dsimp only;omega) ⟨rfl,rfl,rfl,rfl,rfl,trivial⟩ ⟨rfl,trivial⟩))
 · first
   |exact bN hb13
   | (
    refine nav ?_;(have hin:i=n:=by omega);subst hin;refine Zcw [(1000,hv, .own 24 3 l.length (ζ3 L))] (Tryz.results291) ⟨rfl,trivial⟩ ⟨L,hL,hS,?_⟩;rw [hLl])
theorem Zvh (l :List Nd) (hl:l.length≤1000000) (a m b:Nat) (h1:a<m) (h2:m<b) (h3:b≤l.length) (hv:Value) (fv:Value) (f:Nat):AFh False Tryz.prog 272 [(0,hv, .val hv),(1, .int .i64 (a:Int),pInt a),(2, .int .i64 (m:Int),pInt m),(3, .int .i64 (b:Int),pInt b),(4,fv, .fn f [])] (Za6 hv l) (fun v q h=>∃l',(∀k,l'[k]? =l[Zf6 a m b k]?)∧Sw a b l l'∧h=Za6 hv l'):=by
 unfold Za6
 refine AFh.of_body 58 Tryz.func272 rfl Tryz.ntmps272 (Xa rfl) rfl ?_
 intro w0 M0 N0
 refine nav ?_
 (refine ζa ?_<;>refine xL 12 ζb (xL 13 ζb ?_)<;>refine xL 14 ((ZbG (c:=((m-a:Nat):Int)))) ?_<;>refine xL 10 ζc ?_<;>refine ζd ?_)
 (refine ζa ?_<;>refine xL 15 ζb (xL 16 ζb ?_)<;>refine xL 17 ((ZbG (c:=((b-m:Nat):Int)))) ?_<;>refine xL 11 ζc ?_<;>refine ζd ?_)
 refine ζy (ι:={q:Nat×Nat×List Nd//0<q.1∧0<q.2.1∧q.1≤m-a∧q.2.1≤b-m∧(∀k,q.2.2[Zf6 (m-q.1) m (m+q.2.1) k]? =l[Zf6 a m b k]?)∧Sw a b l q.2.2}) (fun k=>⟨[(0,_,_),(1,_,_),(2,_,_),(3,_,_),(4,_,_),(10, .int .i64 k.1.1,pInt k.1.1),(11, .int .i64 k.1.2.1,pInt k.1.2.1)],[(1000,hv, .own 24 3 l.length (ζ3 k.1.2.2))]⟩) (fun k=>k.1.1+k.1.2.1) ⟨(m-a,b-m,l),by dsimp only;omega,by dsimp only;omega,Xd _,Xd _,fun k=>by dsimp only;rw [show m-(m-a)=a by omega,show m+(b-m)=b by omega], .refl _⟩ (fun a w H=>H.weaken ⟨rfl,rfl,rfl,rfl,rfl,rfl,rfl,trivial⟩ ⟨rfl,trivial⟩) ?_
 rintro ⟨⟨i,j,L⟩,hi0,hj0,hi,hj,hL,hS⟩
 dsimp only
 dsimp only at hi0 hj0 hi hj hL hS;have hLl:=hS.len
 refine nav ?_
 (refine ζa ?_<;>refine xL 18 ζb (xL 19 ζb (xL 20 Zaz ?_))<;>refine ζd ?_)
 (first|refine cCd ?_ ?_|refine cC ?_ ?_)<;>intro hb20
 · first
   |exact bN hb20
   | (
    refine nav ?_;(refine ζa ?_<;>refine xL 21 ζb (xL 22 ζb (xL 23 ZaF ?_))<;>refine ζd ?_)
    (first|refine cCd ?_ ?_|refine cC ?_ ?_)<;>intro hb23
    · first
      |exact bN hb23
      | (
       refine nav ?_;(refine ζa ?_<;>refine xL 24 ζb (xL 25 ζb (xL 26 ζb ?_))<;>refine xL 27 ((ZbG (c:=((m-i:Nat):Int)))) ?_<;>refine xL 28 ζb (xL 29 ζb (xL 30 ζb ?_))<;>(refine Zat (Za6 hv L) ⟨by rw [←hLl];rfl,trivial⟩ ?_;refine ZbO [] 31 (Tryz.call291) (Zlg L (by omega) (m-i) m j (by omega) (by omega) hv fv f) (fun v31 p31 h31 hR31=>?_);obtain ⟨L2,hL2,hS2,rfl⟩:=hR31;have hL2l:=hS2.len.trans hLl;dsimp only [Za6];rw [hL2l])<;>refine ζd ?_)
       (refine ζa ?_<;>refine xL 32 ζb (xL 33 ζb ?_)<;>refine xL 34 ((ZbG (c:=((i-j:Nat):Int)))) ?_<;>refine xL 10 ζc ?_<;>refine ζd ?_)
       first
        | (exact ζj (
            ⟨(i-j,j,L2),by dsimp only;omega,hj0,by dsimp only;omega,hj,fun k=>by
              dsimp only;rw [hL2,show m-(i-j)=m-i+j by omega,Zxs (by omega) (by omega)];exact hL k,hS.trans (hS2.mono (by omega) (by omega) (by omega))⟩
            ) (by dsimp only;omega) ⟨rfl,rfl,rfl,rfl,rfl,rfl,rfl,trivial⟩ ⟨rfl,trivial⟩)
        | (exact ζj (
            ⟨(i,j-i,L2),hi0,by dsimp only;omega,hi,by dsimp only;omega,fun k=>by
              dsimp only;rw [hL2,show m+(j-i)=m+j-i by omega,Zxt (by omega) (by omega)];exact hL k,hS.trans (hS2.mono (by omega) (by omega) (by omega))⟩
            ) (by dsimp only;omega) ⟨rfl,rfl,rfl,rfl,rfl,rfl,rfl,trivial⟩ ⟨rfl,trivial⟩))
    · first
      |exact bN hb23
      | (
       refine nav ?_;(refine ζa ?_<;>refine xL 35 ζb (xL 36 ζb (xL 37 ζb ?_))<;>refine xL 38 ((ZbG (c:=((m-i:Nat):Int)))) ?_<;>refine xL 39 ζb (xL 40 ζb ?_)<;>refine xL 41 ((Zcx (c:=((m+j:Nat):Int)))) ?_<;>refine xL 42 ζb ?_<;>refine xL 43 ((ZbG (c:=((m+j-i:Nat):Int)))) ?_<;>refine xL 44 ζb (xL 45 ζb ?_)<;>(refine Zat (Za6 hv L) ⟨by rw [←hLl];rfl,trivial⟩ ?_;refine ZbO [] 46 (Tryz.call291) (Zlg L (by omega) (m-i) (m+j-i) i (by omega) (by omega) hv fv f) (fun v46 p46 h46 hR46=>?_);obtain ⟨L2,hL2,hS2,rfl⟩:=hR46;have hL2l:=hS2.len.trans hLl;dsimp only [Za6];rw [hL2l])<;>refine ζd ?_)
       (refine ζa ?_<;>refine xL 47 ζb (xL 48 ζb ?_)<;>refine xL 49 ((ZbG (c:=((j-i:Nat):Int)))) ?_<;>refine xL 11 ζc ?_<;>refine ζd ?_)
       first
        | (exact ζj (
            ⟨(i-j,j,L2),by dsimp only;omega,hj0,by dsimp only;omega,hj,fun k=>by
              dsimp only;rw [hL2,show m-(i-j)=m-i+j by omega,Zxs (by omega) (by omega)];exact hL k,hS.trans (hS2.mono (by omega) (by omega) (by omega))⟩
            ) (by dsimp only;omega) ⟨rfl,rfl,rfl,rfl,rfl,rfl,rfl,trivial⟩ ⟨rfl,trivial⟩)
        | (exact ζj (
            ⟨(i,j-i,L2),hi0,by dsimp only;omega,hi,by dsimp only;omega,fun k=>by
              dsimp only;rw [hL2,show m+(j-i)=m+j-i by omega,Zxt (by omega) (by omega)];exact hL k,hS.trans (hS2.mono (by omega) (by omega) (by omega))⟩
            ) (by dsimp only;omega) ⟨rfl,rfl,rfl,rfl,rfl,rfl,rfl,trivial⟩ ⟨rfl,trivial⟩)))
 · first
   |exact bN hb20
   | (
    (have hij:j=i:=by omega);subst hij;refine nav ?_;(refine ζa ?_<;>refine xL 50 ζb (xL 51 ζb (xL 52 ζb ?_))<;>refine xL 53 ((ZbG (c:=((m-j:Nat):Int)))) ?_<;>refine xL 54 ζb (xL 55 ζb (xL 56 ζb ?_))<;>(refine Zat (Za6 hv L) ⟨by rw [←hLl];rfl,trivial⟩ ?_;refine ZbO [] 57 (Tryz.call291) (Zlg L (by omega) (m-j) m j (by omega) (by omega) hv fv f) (fun v57 p57 h57 hR57=>?_);obtain ⟨L2,hL2,hS2,rfl⟩:=hR57;have hL2l:=hS2.len.trans hLl;dsimp only [Za6])<;>refine ζd ?_)
    refine Zcw (Za6 hv L2) (Tryz.results272) ⟨rfl,trivial⟩ ⟨L2,fun k=>?_,hS.trans (hS2.mono (by omega) (by omega) (by omega)),rfl⟩;rw [hL2,ZC4 (by omega)];exact hL k)
theorem ZgP {a b:Nat} {l L:List Nd} (h:Sw a b l L) {x:Nd} (hx:x∈L):x∈l:=h.perm.mem_iff.1 hx
theorem ZdI {x y:Nd} (h:¬Za7 x y<0):leT y x:=ZtH.1 h
theorem Zxw (f:Nat) (hc:∀args w,(callFunc f args).run Tryz.prog w= .ok (.enter f args) w) (l:List Nd) (hl:l.length≤1000000) (hf:∀x∈l,∀y∈l,AF Tryz.prog f [pTr x,pTr y] (· =pInt (Za7 x y))) (a b:Nat) (h1:a≤b) (h2:b≤l.length) (hv:Value) (fv:Value):AFh False Tryz.prog 248 [(0,hv, .val hv),(1, .int .i64 (a:Int),pInt a),(2, .int .i64 (b:Int),pInt b),(3,fv, .fn f [])] (Za6 hv l) (fun v q h=>∃l',Sw a b l l'∧SrtS leT a b l'∧h=Za6 hv l'):=by
 unfold Za6
 refine AFh.of_body 53 Tryz.func248 rfl Tryz.ntmps248 (Xa rfl) rfl ?_
 intro w0 M0 N0
 refine nav ?_
 (refine ζa ?_<;>refine xL 10 ζb ?_<;>refine xL 11 ((Zcx (c:=((a+1:Nat):Int)))) ?_<;>refine xL 8 ζc ?_<;>refine ζd ?_)
 refine ζy (ι:={q:Nat×List Nd//a+1≤q.1∧(q.1≤b∨b≤a+1)∧Sw a b l q.2∧SrtS leT a q.1 q.2}) (fun k=>⟨[(0,_,_),(1,_,_),(2,_,_),(3,_,_),(8, .int .i64 k.1.1,pInt k.1.1)],[(1000,hv, .own 24 3 l.length (ζ3 k.1.2))]⟩) (fun k=>b-k.1.1) ⟨(a+1,l),Xd _,by dsimp only;omega, .refl _, .small leT _ (Xd _)⟩ (fun a w H=>H.weaken ⟨rfl,rfl,rfl,rfl,rfl,trivial⟩ ⟨rfl,trivial⟩) ?_
 rintro ⟨⟨i,L0⟩,hi1,hi2,hS0,hO0⟩
 dsimp only
 dsimp only at hi1 hi2 hS0 hO0
 refine nav ?_
 (refine ζa ?_<;>refine xL 12 ζb (xL 13 ζb (xL 14 ζK ?_))<;>refine ζd ?_)
 (first|refine cCd ?_ ?_|refine cC ?_ ?_)<;>intro hb14
 · first
   |exact bN hb14
   | (
    refine nav ?_;(refine ζa ?_<;>refine xL 17 ζb (xL 9 ζc ?_)<;>refine ζd ?_)
    refine ζy (ι:={q:Nat×List Nd//a≤q.1∧q.1≤i∧Sw a b l q.2∧Zxo leT a i q.1 q.2}) (fun k=>⟨[(0,_,_),(1,_,_),(2,_,_),(3,_,_),(8,_,_),(9, .int .i64 k.1.1,pInt k.1.1)],[(1000,hv, .own 24 3 l.length (ζ3 k.1.2))]⟩) (fun k=>k.1.1) ⟨(i,L0),by dsimp only;omega,Xd _,hS0,Zvc leT hO0⟩ (fun a w H=>H.weaken ⟨rfl,rfl,rfl,rfl,rfl,rfl,trivial⟩ ⟨rfl,trivial⟩) ?_;rintro ⟨⟨j,L⟩,hj1,hj2,hS,hI⟩;dsimp only;dsimp only at hj1 hj2 hS hI;have hLl:=hS.len;refine nav ?_;(refine ζY (fun i=>([]:List Nat).elem i) [1000] kR ?_<;>refine xD 0 18 rfl ζb ?_<;>refine xE 1 19 rfl ζb ?_<;>refine xE 2 20 rfl ZaF ?_<;>refine xE 3 21 rfl ζb ?_<;>(refine bDd 21 (fun hb21=>?_) (fun hb21=>?_)<;>(first|refine kD 4 22 rfl ?_|refine xD 4 22 rfl ζb ?_))<;>(first|refine kD 5 23 rfl ?_|(obtain ⟨k,rfl⟩:∃k,j=k+1:=⟨j-1,by omega⟩;obtain ⟨x,hx⟩:=ζm (show k+1<L.length by omega);obtain ⟨y,hy⟩:=ζm (show k<L.length by omega);have e1:=ζ4 hx;have e2:=Zah hx;have e3:=ζ4 hy;have e4:=Zah hy;have hsw:=Zhl hx hy;have e5:(ZdU (ζ3 L) ((k+1)*3) (cN y)).length=(ζ3 L).length:=Zfh _ _ _;refine xD 5 23 rfl ζb ?_))<;>(first|refine kD 6 24 rfl ?_|refine xD 6 24 rfl ζb ?_)<;>(first|refine kD 7 25 rfl ?_|refine xD 7 25 rfl (ζv 1000 ζW) ?_)<;>(first|refine kD 8 26 rfl ?_|(refine yD 8 26 rfl (ζk 1000 ζC) fun v26 h=>?_;cases h))<;>(first|refine kD 9 27 rfl ?_|refine xD 9 27 rfl ζb ?_)<;>(first|refine kD 10 28 rfl ?_|refine xD 10 28 rfl ζb ?_)<;>(first|refine kD 11 29 rfl ?_|refine xD 11 29 rfl ((ZbG (c:=((k:Nat):Int)))) ?_)<;>(first|refine kD 12 30 rfl ?_|refine xD 12 30 rfl (ζv 1000 ζW) ?_)<;>(first|refine kD 13 31 rfl ?_|(refine yD 13 31 rfl (ζk 1000 ζC) fun v31 h=>?_;cases h))<;>(refine ζi 14 kR ?_)<;>(first|(refine ZaM (d:=32) rfl (Zb5 (f:=f) (ps:=[]) rfl ⟨_,rfl⟩ hc rfl (hf x (ZgP hS (Xb hx)) y (ZgP hS (Xb hy)))) fun v32 h=>?_;cases h)|(refine ζf rfl fun w9 M9 N9 DQ back=>?_;refine kL 32 ?_;refine ζe (back _ (nrm ?_))))<;>(first|refine kD 15 33 rfl ?_|refine xD 15 33 rfl ζK ?_)<;>refine xE 16 34 rfl ζJ ?_<;>refine Zam kR (nav ?_)<;>try dsimp only)<;>(
     (first|refine cCd ?_ ?_|refine cC ?_ ?_)<;>intro hb34
     · first
       |exact bN hb34
       | (
        refine nav ?_;(refine ζY (fun i=>([]:List Nat).elem i) [] kR ?_<;>refine xD 0 37 rfl ζb ?_<;>refine xD 1 38 rfl ζb ?_<;>refine xD 2 39 rfl ζb ?_<;>refine xD 3 40 rfl ζb ?_<;>refine xD 4 41 rfl ((ZbG (c:=((k:Nat):Int)))) ?_<;>refine xD 5 42 rfl ζb ?_<;>refine xD 6 43 rfl ζb ?_<;>refine xD 7 44 rfl ((ZbG (c:=((k:Nat):Int)))) ?_<;>refine xD 10 47 rfl ζb ?_<;>refine xD 11 48 rfl ζb ?_<;>(refine Zad 8 12 kR ?_ ?_;rotate_right;(focus ((refine ζf rfl fun w9 M9 N9 DQ back=>?_)<;>refine xL 49 (ζv 1000 ζW) ?_<;>refine ζe (back _ (nrm ?_))<;>(refine Zad 8 13 kR ?_ ?_;rotate_right;(focus ((refine ζf rfl fun w9 M9 N9 DQ back=>?_)<;>(refine yL 50 (ζk 1000 ζC) fun v50 h=>?_;cases h)<;>refine ζe (back _ (nrm ?_))<;>(refine ζi 8 kR ?_)<;>(refine ζf rfl fun w9 M9 N9 DQ back=>?_)<;>refine xL 45 (ζv 1000 ζW) ?_<;>refine ζe (back _ (nrm ?_))<;>(refine ζi 9 kR ?_)<;>(refine ζf rfl fun w9 M9 N9 DQ back=>?_)<;>(refine yL 46 (ζk 1000 ζC) fun v46 h=>?_;cases h)<;>refine ζe (back _ (nrm ?_))<;>refine xE 14 51 rfl (ζv 1000 ζW) ?_<;>(refine ζi 15 kR ?_)<;>(refine ζf rfl fun w9 M9 N9 DQ back=>?_)<;>refine ζt 1000 ζC ?_<;>refine ζe (back _ (nrm ?_))<;>refine xE 16 52 rfl (ζv 1000 ζW) ?_<;>(refine ζi 17 kR ?_)<;>(refine ζf rfl fun w9 M9 N9 DQ back=>?_)<;>refine ζt 1000 ζC ?_<;>refine ζe (back _ (nrm ?_))));rotate_right;(focus ((refine ζf rfl fun w9 M9 N9 DQ back=>?_)<;>refine xL 45 (ζv 1000 ζW) ?_<;>refine ζe (back _ (nrm ?_))<;>(refine Zad 9 13 kR ?_ ?_;rotate_right;(focus ((refine ζf rfl fun w9 M9 N9 DQ back=>?_)<;>(refine yL 50 (ζk 1000 ζC) fun v50 h=>?_;cases h)<;>refine ζe (back _ (nrm ?_))<;>(refine ζi 9 kR ?_)<;>(refine ζf rfl fun w9 M9 N9 DQ back=>?_)<;>(refine yL 46 (ζk 1000 ζC) fun v46 h=>?_;cases h)<;>refine ζe (back _ (nrm ?_))<;>refine xE 14 51 rfl (ζv 1000 ζW) ?_<;>(refine ζi 15 kR ?_)<;>(refine ζf rfl fun w9 M9 N9 DQ back=>?_)<;>refine ζt 1000 ζC ?_<;>refine ζe (back _ (nrm ?_))<;>refine xE 16 52 rfl (ζv 1000 ζW) ?_<;>(refine ζi 17 kR ?_)<;>(refine ζf rfl fun w9 M9 N9 DQ back=>?_)<;>refine ζt 1000 ζC ?_<;>refine ζe (back _ (nrm ?_))));rotate_right;(focus ((refine ζf rfl fun w9 M9 N9 DQ back=>?_)<;>(refine yL 46 (ζk 1000 ζC) fun v46 h=>?_;cases h)<;>refine ζe (back _ (nrm ?_))<;>(refine ζi 13 kR ?_)<;>(refine ζf rfl fun w9 M9 N9 DQ back=>?_)<;>(refine yL 50 (ζk 1000 ζC) fun v50 h=>?_;cases h)<;>refine ζe (back _ (nrm ?_))<;>refine xE 14 51 rfl (ζv 1000 ζW) ?_<;>(refine ζi 15 kR ?_)<;>(refine ζf rfl fun w9 M9 N9 DQ back=>?_)<;>refine ζt 1000 ζC ?_<;>refine ζe (back _ (nrm ?_))<;>refine xE 16 52 rfl (ζv 1000 ζW) ?_<;>(refine ζi 17 kR ?_)<;>(refine ζf rfl fun w9 M9 N9 DQ back=>?_)<;>refine ζt 1000 ζC ?_<;>refine ζe (back _ (nrm ?_))))))))));rotate_right;(focus ((refine ζf rfl fun w9 M9 N9 DQ back=>?_)<;>refine xL 45 (ζv 1000 ζW) ?_<;>refine ζe (back _ (nrm ?_))<;>(refine Zad 9 12 kR ?_ ?_;rotate_right;(focus ((refine ζf rfl fun w9 M9 N9 DQ back=>?_)<;>refine xL 49 (ζv 1000 ζW) ?_<;>refine ζe (back _ (nrm ?_))<;>(refine Zad 9 13 kR ?_ ?_;rotate_right;(focus ((refine ζf rfl fun w9 M9 N9 DQ back=>?_)<;>(refine yL 50 (ζk 1000 ζC) fun v50 h=>?_;cases h)<;>refine ζe (back _ (nrm ?_))<;>(refine ζi 9 kR ?_)<;>(refine ζf rfl fun w9 M9 N9 DQ back=>?_)<;>(refine yL 46 (ζk 1000 ζC) fun v46 h=>?_;cases h)<;>refine ζe (back _ (nrm ?_))<;>refine xE 14 51 rfl (ζv 1000 ζW) ?_<;>(refine ζi 15 kR ?_)<;>(refine ζf rfl fun w9 M9 N9 DQ back=>?_)<;>refine ζt 1000 ζC ?_<;>refine ζe (back _ (nrm ?_))<;>refine xE 16 52 rfl (ζv 1000 ζW) ?_<;>(refine ζi 17 kR ?_)<;>(refine ζf rfl fun w9 M9 N9 DQ back=>?_)<;>refine ζt 1000 ζC ?_<;>refine ζe (back _ (nrm ?_))));rotate_right;(focus ((refine ζf rfl fun w9 M9 N9 DQ back=>?_)<;>(refine yL 46 (ζk 1000 ζC) fun v46 h=>?_;cases h)<;>refine ζe (back _ (nrm ?_))<;>(refine ζi 13 kR ?_)<;>(refine ζf rfl fun w9 M9 N9 DQ back=>?_)<;>(refine yL 50 (ζk 1000 ζC) fun v50 h=>?_;cases h)<;>refine ζe (back _ (nrm ?_))<;>refine xE 14 51 rfl (ζv 1000 ζW) ?_<;>(refine ζi 15 kR ?_)<;>(refine ζf rfl fun w9 M9 N9 DQ back=>?_)<;>refine ζt 1000 ζC ?_<;>refine ζe (back _ (nrm ?_))<;>refine xE 16 52 rfl (ζv 1000 ζW) ?_<;>(refine ζi 17 kR ?_)<;>(refine ζf rfl fun w9 M9 N9 DQ back=>?_)<;>refine ζt 1000 ζC ?_<;>refine ζe (back _ (nrm ?_)))))));rotate_right;(focus ((refine ζf rfl fun w9 M9 N9 DQ back=>?_)<;>(refine yL 46 (ζk 1000 ζC) fun v46 h=>?_;cases h)<;>refine ζe (back _ (nrm ?_))<;>(refine ζi 12 kR ?_)<;>(refine ζf rfl fun w9 M9 N9 DQ back=>?_)<;>refine xL 49 (ζv 1000 ζW) ?_<;>refine ζe (back _ (nrm ?_))<;>(refine ζi 13 kR ?_)<;>(refine ζf rfl fun w9 M9 N9 DQ back=>?_)<;>(refine yL 50 (ζk 1000 ζC) fun v50 h=>?_;cases h)<;>refine ζe (back _ (nrm ?_))<;>refine xE 14 51 rfl (ζv 1000 ζW) ?_<;>(refine ζi 15 kR ?_)<;>(refine ζf rfl fun w9 M9 N9 DQ back=>?_)<;>refine ζt 1000 ζC ?_<;>refine ζe (back _ (nrm ?_))<;>refine xE 16 52 rfl (ζv 1000 ζW) ?_<;>(refine ζi 17 kR ?_)<;>(refine ζf rfl fun w9 M9 N9 DQ back=>?_)<;>refine ζt 1000 ζC ?_<;>refine ζe (back _ (nrm ?_))))))))<;>refine Zam kR (nav ?_)<;>try dsimp only)<;>(
         (refine ζa ?_<;>refine xL 35 ζb ?_<;>refine xL 36 ((ZbG (c:=((k:Nat):Int)))) ?_<;>refine xL 9 ζc ?_<;>refine ζd ?_)
         rw [hsw];refine ζj (
          ⟨(k,swp L (k+1) k),by dsimp only;omega,by dsimp only;omega, .step _ _ hS (by omega) (by omega) (by omega) (by omega) h2,Zxp leT hI (by omega) (by omega) (by omega) hx hy (by unfold leT;omega)⟩
          ) (by dsimp only;omega) ⟨rfl,rfl,rfl,rfl,rfl,rfl,trivial⟩ ⟨rfl,trivial⟩))
     · first
       |exact bN hb34
       | (
        refine nav ?_;(refine ζa ?_<;>refine xL 15 ζb (xL 16 ζG (xL 8 ζc ?_))<;>refine ζd ?_)
        first
         | (exact ζj (
             ⟨(i+1,L),by dsimp only;omega,by dsimp only;omega,hS,ZtS leT Zc2 (fun _ _ _=>Zck) hI (by omega) (by omega) (show i<L.length by omega) (.inr ⟨k,y,x,rfl,hy,hx,ZdI (by omega)⟩)⟩
             ) (by dsimp only;omega) ⟨rfl,rfl,rfl,rfl,rfl,trivial⟩ ⟨rfl,trivial⟩)
         | (exact ζj (
             ⟨(i+1,L),by dsimp only;omega,by dsimp only;omega,hS,ZtS leT Zc2 (fun _ _ _=>Zck) hI (by omega) (by omega) (show i<L.length by omega) (.inl (by omega))⟩
             ) (by dsimp only;omega) ⟨rfl,rfl,rfl,rfl,rfl,trivial⟩ ⟨rfl,trivial⟩))))
 · first
   |exact bN hb14
   | (
    refine nav ?_;refine Zcw [(1000,hv, .own 24 3 l.length (ζ3 L0))] (Tryz.results248) ⟨rfl,trivial⟩ ⟨L0,hS0,hO0.sub _ (Xd _) (by omega),by rw [hS0.len]⟩)
theorem ζz:AggT Tryz.prog 24 3=true:=by kernel_rfl
theorem ζT:SlT Tryz.prog 22 24 3=true:=by kernel_rfl
theorem ZkF {a s m:Nat} {l:List Nd} (h1:a≤s) (h2:s≤m) (h:¬(a<s∧s<m)) (g1:SrtS leT a s l) (g2:SrtS leT s m l):SrtS leT a m l:=by
 rcases Xv a s with h3|h3
 · have:s=m:=by omega
   subst this;exact g1
 · have:s=a:=by omega
   subst this;exact g2
theorem Zxx {s m e k:Nat} (h1:s≤m) (h2:m≤e) (h:¬(s<m∧m<e)):Zf6 s m e k=k:=by
 unfold Zf6
 split
 · rfl
 · split<;>omega
def BsT (m b i j:Nat) (x:Nd) (l:List Nd):Prop:=m≤i∧i≤j∧j≤b∧(∀q y,m≤q→q<i→l[q]? =some y→leT y x)∧(∀q y,j≤q→q<b→l[q]? =some y→leT x y)
theorem Zqj (m b:Nat) (x:Nd) (l:List Nd) (h:m≤b):BsT m b m b x l:=⟨Xd _,h,Xd _,fun q y h1 h2=>by omega,fun q y h1 h2=>by omega⟩
theorem ZtW {m b i j c:Nat} {x y:Nd} {l:List Nd} (h:BsT m b i j x l) (hs:SrtS leT m b l) (h1:i≤c) (h2:c<j) (hy:l[c]? =some y) (hle:leT y x):BsT m b (c+1) j x l:=by
 obtain ⟨e1,e2,e3,e4,e5⟩:=h
 refine ⟨by omega,by omega,e3,fun q z k1 k2 hz=>?_,e5⟩
 exact Zck (hs.eqv leT Zc2 k1 (show q≤c by omega) (by omega) hz hy) hle
theorem ZkG {m b i j c:Nat} {x y:Nd} {l:List Nd} (h:BsT m b i j x l) (hs:SrtS leT m b l) (h1:i≤c) (h2:c<j) (hy:l[c]? =some y) (hle:leT x y):BsT m b i c x l:=by
 obtain ⟨e1,e2,e3,e4,e5⟩:=h
 refine ⟨e1,by omega,by omega,e4,fun q z k1 k2 hz=>?_⟩
 exact Zck hle (hs.eqv leT Zc2 (show m≤c by omega) k1 k2 hy hz)
set_option maxHeartbeats 4000000 in
theorem Zxy (f : Nat) (hc:∀args w,(callFunc f args).run Tryz.prog w= .ok (.enter f args) w) (hv:Value) (fv:Value):∀(n:Nat) (l:List Nd) (hl:l.length≤1000000) (hf:∀x∈l,∀y∈l,AF Tryz.prog f [pTr x,pTr y] (· =pInt (Za7 x y))) (a m b:Nat) (hn:b-a≤n) (h1:a<m) (h2:m<b) (h3:b≤l.length) (s1:SrtS leT a m l) (s2:SrtS leT m b l),AFh False Tryz.prog 249 [(0,hv, .val hv),(1, .int .i64 (a:Int),pInt a),(2, .int .i64 (m:Int),pInt m),(3, .int .i64 (b:Int),pInt b),(4,fv, .fn f [])] (Za6 hv l) (fun v q h=>∃l',Sw a b l l'∧SrtS leT a b l'∧h=Za6 hv l'):=fun n=>by
 induction n with
 |zero=>intro l hl hf a m b hn h1 h2;omega
 |succ n ih=>?_
 intro l hl hf a m b hn h1 h2 h3 s1 s2
 unfold Za6
 obtain ⟨xa,hxa⟩:=ζm (show a<l.length by omega)
 obtain ⟨xm,hxm⟩:=ζm (show m<l.length by omega)
 have ea:=ζ4 hxa
 have ea2:=Zah hxa
 have em:=ζ4 hxm
 have em2:=Zah hxm
 refine AFh.of_body 220 Tryz.func249 rfl Tryz.ntmps249 (Xa rfl) rfl ?_
 intro w0 M0 N0
 refine nav ?_
 (refine ζa ?_<;>refine xL 25 ζb (xL 26 ζb (xL 27 ZeX (xL 28 ζ6 ?_)))<;>refine ζd ?_)
 (first|refine cCd ?_ ?_|refine cC ?_ ?_)<;>intro hb28
 · first
   |exact bN hb28
   | (
    refine nav ?_;(refine ζa ?_<;>refine xL 29 ζb (xL 10 ζc ?_)<;>refine ζd ?_)
    (refine ζa ?_<;>refine xL 30 ζb (xL 11 ζc ?_)<;>refine ζd ?_)
    refine ζy (ι:={q:Nat×Nat//BsT m b q.1 q.2 xa l}) (fun k=>⟨[(0,_,_),(1,_,_),(2,_,_),(3,_,_),(4,_,_),(10, .int .i64 k.1.1,pInt k.1.1),(11, .int .i64 k.1.2,pInt k.1.2)],[(1000,hv, .own 24 3 l.length (ζ3 l))]⟩) (fun k=>k.1.2-k.1.1) ⟨(m,b),Zqj m b xa l (by omega)⟩ (fun a w H=>H.weaken ⟨rfl,rfl,rfl,rfl,rfl,rfl,rfl,trivial⟩ ⟨rfl,trivial⟩) ?_;rintro ⟨⟨i,j⟩,hB⟩;dsimp only;dsimp only at hB;have hB1:=hB.1;have hB2:=hB.2.1;have hB3:=hB.2.2.1;refine nav ?_;(refine ζa ?_<;>refine xL 31 ζb (xL 32 ζb (xL 33 ζK ?_))<;>refine ζd ?_)
    (first|refine cCd ?_ ?_|refine cC ?_ ?_)<;>intro hb33
    · first
      |exact bN hb33
      | (
       refine nav ?_;(refine ζa ?_<;>refine xL 34 ζb (xL 35 ζb ?_)<;>refine xL 36 ((Zcx (c:=((i+j:Nat):Int)))) ?_<;>refine xL 37 ((ZtT (a:=i+j) rfl rfl (by omega))) ?_<;>refine xL 38 ((ZkE (a:=i+j) rfl)) ?_<;>refine xL 39 ((ZtU (a:=(i+j) / 2) rfl rfl (by omega))) ?_<;>refine xL 12 ζc ?_<;>refine ζd ?_)
       obtain ⟨y,hy⟩:=ζm (show (i+j) / 2<l.length by omega);have e3:=ζ4 hy;have e4:=Zah hy;(refine ζY (fun i=>([]:List Nat).elem i) [1000] kR ?_<;>refine xD 0 40 rfl ζb ?_<;>refine xD 1 41 rfl ζb ?_<;>refine xD 2 42 rfl ζb ?_<;>refine xD 3 43 rfl (ζv 1000 ζT) ?_<;>(refine yD 4 44 rfl (ζk 1000 ζz) fun v44 h=>?_;cases h)<;>refine xD 5 45 rfl ζb ?_<;>refine xE 6 46 rfl ζb ?_<;>refine xE 7 47 rfl (ζv 1000 ζT) ?_<;>(refine yE 8 48 rfl (ζk 1000 ζz) fun v48 h=>?_;cases h)<;>(refine ζi 9 kR ?_)<;>(refine ZaM (d:=49) rfl (Zb5 (f:=f) (ps:=[]) rfl ⟨_,rfl⟩ hc rfl (hf y (Xb hy) xa (Xb hxa))) fun v49 h=>?_;cases h)<;>refine xE 10 50 rfl ζK ?_<;>refine Zam kR (nav ?_)<;>try dsimp only)
       (first|refine cCd ?_ ?_|refine cC ?_ ?_)<;>intro hb50
       · first
         |exact bN hb50
         | (
          refine nav ?_;(refine ζa ?_<;>refine xL 51 ζb (xL 52 ζG (xL 10 ζc ?_))<;>refine ζd ?_)
          first
           | (exact ζj (
               ⟨((i+j) / 2+1,j),ZtW hB s2 (by omega) (by omega) hy (by unfold leT;omega)⟩
               ) (by dsimp only;omega) ⟨rfl,rfl,rfl,rfl,rfl,rfl,rfl,trivial⟩ ⟨rfl,trivial⟩)
           | (exact ζj (
               ⟨(i,(i+j) / 2),ZkG hB s2 (by omega) (by omega) hy (ZdI (by omega))⟩
               ) (by dsimp only;omega) ⟨rfl,rfl,rfl,rfl,rfl,rfl,rfl,trivial⟩ ⟨rfl,trivial⟩))
       · first
         |exact bN hb50
         | (
          refine nav ?_;(refine ζa ?_<;>refine xL 53 ζb (xL 11 ζc ?_)<;>refine ζd ?_)
          first
           | (exact ζj (
               ⟨((i+j) / 2+1,j),ZtW hB s2 (by omega) (by omega) hy (by unfold leT;omega)⟩
               ) (by dsimp only;omega) ⟨rfl,rfl,rfl,rfl,rfl,rfl,rfl,trivial⟩ ⟨rfl,trivial⟩)
           | (exact ζj (
               ⟨(i,(i+j) / 2),ZkG hB s2 (by omega) (by omega) hy (ZdI (by omega))⟩
               ) (by dsimp only;omega) ⟨rfl,rfl,rfl,rfl,rfl,rfl,rfl,trivial⟩ ⟨rfl,trivial⟩)))
    · first
      |exact bN hb33
      | (
       (have hij:j=i:=by omega);subst hij;have hM:Mov leT a b a j l:=Zve leT (by rw [show a+1=m by omega];exact s2) (by omega) (fun q x y h4 h5 hx hy=>by
        rw [hxa] at hx;cases hx;exact hB.2.2.2.1 q y (by omega) h5 hy) (fun q x y h4 h5 hx hy=>by
        rw [hxa] at hx;cases hx;exact hB.2.2.2.2 q y h4 h5 hy)
       refine nav ?_;(refine ζa ?_<;>refine xL 54 ζb (xL 13 ζc ?_)<;>refine ζd ?_)
       refine ζy (ι:={q:Nat×List Nd//a≤q.1∧q.1+1≤j∧Sw a b l q.2∧Mov leT a b q.1 j q.2}) (fun k=>⟨[(0,_,_),(1,_,_),(2,_,_),(3,_,_),(4,_,_),(10,_,_),(13, .int .i64 k.1.1,pInt k.1.1)],[(1000,hv, .own 24 3 l.length (ζ3 k.1.2))]⟩) (fun k=>j-k.1.1) ⟨(a,l),by dsimp only;omega,by dsimp only;omega, .refl _,hM⟩ (fun a w H=>H.weaken ⟨rfl,rfl,rfl,rfl,rfl,rfl,rfl,trivial⟩ ⟨rfl,trivial⟩) ?_;rintro ⟨⟨k,L⟩,hk1,hk2,hS,hM2⟩;dsimp only;dsimp only at hk1 hk2 hS hM2;have hLl:=hS.len;refine nav ?_;(refine ζa ?_<;>refine xL 55 ζb (xL 56 ζb ?_)<;>refine xL 57 ((ZbG (c:=((j-1:Nat):Int)))) ?_<;>refine xL 58 ζK ?_<;>refine ζd ?_)
       (first|refine cCd ?_ ?_|refine cC ?_ ?_)<;>intro hb58
       · first
         |exact bN hb58
         | (
          (have hkj:k+1<j:=by omega);obtain ⟨x,hx⟩:=ζm (show k<L.length by omega);obtain ⟨y,hy⟩:=ζm (show k+1<L.length by omega);have e1:=ζ4 hx;have e2:=Zah hx;have e3:=ζ4 hy;have e4:=Zah hy;have hsw:=Zhl hx hy;have e5:(ZdU (ζ3 L) (k*3) (cN y)).length=(ζ3 L).length:=Zfh _ _ _;refine nav ?_;(refine ζY (fun i=>([]:List Nat).elem i) [] kR ?_<;>refine xD 0 61 rfl ζb ?_<;>refine xD 1 62 rfl ζb ?_<;>refine xD 2 63 rfl ζb ?_<;>refine xD 3 64 rfl ζb ?_<;>refine xD 4 65 rfl ((Zcx (c:=((k+1:Nat):Int)))) ?_<;>refine xD 5 66 rfl ζb ?_<;>refine xD 6 67 rfl ζb ?_<;>refine xD 7 68 rfl ((Zcx (c:=((k+1:Nat):Int)))) ?_<;>refine xD 10 71 rfl ζb ?_<;>refine xD 11 72 rfl ζb ?_<;>(refine Zad 8 12 kR ?_ ?_;rotate_right;(focus ((refine ζf rfl fun w9 M9 N9 DQ back=>?_)<;>refine xL 73 (ζv 1000 ζT) ?_<;>refine ζe (back _ (nrm ?_))<;>(refine Zad 8 13 kR ?_ ?_;rotate_right;(focus ((refine ζf rfl fun w9 M9 N9 DQ back=>?_)<;>(refine yL 74 (ζk 1000 ζz) fun v74 h=>?_;cases h)<;>refine ζe (back _ (nrm ?_))<;>(refine ζi 8 kR ?_)<;>(refine ζf rfl fun w9 M9 N9 DQ back=>?_)<;>refine xL 69 (ζv 1000 ζT) ?_<;>refine ζe (back _ (nrm ?_))<;>(refine ζi 9 kR ?_)<;>(refine ζf rfl fun w9 M9 N9 DQ back=>?_)<;>(refine yL 70 (ζk 1000 ζz) fun v70 h=>?_;cases h)<;>refine ζe (back _ (nrm ?_))<;>refine xE 14 75 rfl (ζv 1000 ζT) ?_<;>(refine ζi 15 kR ?_)<;>(refine ζf rfl fun w9 M9 N9 DQ back=>?_)<;>refine ζt 1000 ζz ?_<;>refine ζe (back _ (nrm ?_))<;>refine xE 16 76 rfl (ζv 1000 ζT) ?_<;>(refine ζi 17 kR ?_)<;>(refine ζf rfl fun w9 M9 N9 DQ back=>?_)<;>refine ζt 1000 ζz ?_<;>refine ζe (back _ (nrm ?_))));rotate_right;(focus ((refine ζf rfl fun w9 M9 N9 DQ back=>?_)<;>refine xL 69 (ζv 1000 ζT) ?_<;>refine ζe (back _ (nrm ?_))<;>(refine Zad 9 13 kR ?_ ?_;rotate_right;(focus ((refine ζf rfl fun w9 M9 N9 DQ back=>?_)<;>(refine yL 74 (ζk 1000 ζz) fun v74 h=>?_;cases h)<;>refine ζe (back _ (nrm ?_))<;>(refine ζi 9 kR ?_)<;>(refine ζf rfl fun w9 M9 N9 DQ back=>?_)<;>(refine yL 70 (ζk 1000 ζz) fun v70 h=>?_;cases h)<;>refine ζe (back _ (nrm ?_))<;>refine xE 14 75 rfl (ζv 1000 ζT) ?_<;>(refine ζi 15 kR ?_)<;>(refine ζf rfl fun w9 M9 N9 DQ back=>?_)<;>refine ζt 1000 ζz ?_<;>refine ζe (back _ (nrm ?_))<;>refine xE 16 76 rfl (ζv 1000 ζT) ?_<;>(refine ζi 17 kR ?_)<;>(refine ζf rfl fun w9 M9 N9 DQ back=>?_)<;>refine ζt 1000 ζz ?_<;>refine ζe (back _ (nrm ?_))));rotate_right;(focus ((refine ζf rfl fun w9 M9 N9 DQ back=>?_)<;>(refine yL 70 (ζk 1000 ζz) fun v70 h=>?_;cases h)<;>refine ζe (back _ (nrm ?_))<;>(refine ζi 13 kR ?_)<;>(refine ζf rfl fun w9 M9 N9 DQ back=>?_)<;>(refine yL 74 (ζk 1000 ζz) fun v74 h=>?_;cases h)<;>refine ζe (back _ (nrm ?_))<;>refine xE 14 75 rfl (ζv 1000 ζT) ?_<;>(refine ζi 15 kR ?_)<;>(refine ζf rfl fun w9 M9 N9 DQ back=>?_)<;>refine ζt 1000 ζz ?_<;>refine ζe (back _ (nrm ?_))<;>refine xE 16 76 rfl (ζv 1000 ζT) ?_<;>(refine ζi 17 kR ?_)<;>(refine ζf rfl fun w9 M9 N9 DQ back=>?_)<;>refine ζt 1000 ζz ?_<;>refine ζe (back _ (nrm ?_))))))))));rotate_right;(focus ((refine ζf rfl fun w9 M9 N9 DQ back=>?_)<;>refine xL 69 (ζv 1000 ζT) ?_<;>refine ζe (back _ (nrm ?_))<;>(refine Zad 9 12 kR ?_ ?_;rotate_right;(focus ((refine ζf rfl fun w9 M9 N9 DQ back=>?_)<;>refine xL 73 (ζv 1000 ζT) ?_<;>refine ζe (back _ (nrm ?_))<;>(refine Zad 9 13 kR ?_ ?_;rotate_right;(focus ((refine ζf rfl fun w9 M9 N9 DQ back=>?_)<;>(refine yL 74 (ζk 1000 ζz) fun v74 h=>?_;cases h)<;>refine ζe (back _ (nrm ?_))<;>(refine ζi 9 kR ?_)<;>(refine ζf rfl fun w9 M9 N9 DQ back=>?_)<;>(refine yL 70 (ζk 1000 ζz) fun v70 h=>?_;cases h)<;>refine ζe (back _ (nrm ?_))<;>refine xE 14 75 rfl (ζv 1000 ζT) ?_<;>(refine ζi 15 kR ?_)<;>(refine ζf rfl fun w9 M9 N9 DQ back=>?_)<;>refine ζt 1000 ζz ?_<;>refine ζe (back _ (nrm ?_))<;>refine xE 16 76 rfl (ζv 1000 ζT) ?_<;>(refine ζi 17 kR ?_)<;>(refine ζf rfl fun w9 M9 N9 DQ back=>?_)<;>refine ζt 1000 ζz ?_<;>refine ζe (back _ (nrm ?_))));rotate_right;(focus ((refine ζf rfl fun w9 M9 N9 DQ back=>?_)<;>(refine yL 70 (ζk 1000 ζz) fun v70 h=>?_;cases h)<;>refine ζe (back _ (nrm ?_))<;>(refine ζi 13 kR ?_)<;>(refine ζf rfl fun w9 M9 N9 DQ back=>?_)<;>(refine yL 74 (ζk 1000 ζz) fun v74 h=>?_;cases h)<;>refine ζe (back _ (nrm ?_))<;>refine xE 14 75 rfl (ζv 1000 ζT) ?_<;>(refine ζi 15 kR ?_)<;>(refine ζf rfl fun w9 M9 N9 DQ back=>?_)<;>refine ζt 1000 ζz ?_<;>refine ζe (back _ (nrm ?_))<;>refine xE 16 76 rfl (ζv 1000 ζT) ?_<;>(refine ζi 17 kR ?_)<;>(refine ζf rfl fun w9 M9 N9 DQ back=>?_)<;>refine ζt 1000 ζz ?_<;>refine ζe (back _ (nrm ?_)))))));rotate_right;(focus ((refine ζf rfl fun w9 M9 N9 DQ back=>?_)<;>(refine yL 70 (ζk 1000 ζz) fun v70 h=>?_;cases h)<;>refine ζe (back _ (nrm ?_))<;>(refine ζi 12 kR ?_)<;>(refine ζf rfl fun w9 M9 N9 DQ back=>?_)<;>refine xL 73 (ζv 1000 ζT) ?_<;>refine ζe (back _ (nrm ?_))<;>(refine ζi 13 kR ?_)<;>(refine ζf rfl fun w9 M9 N9 DQ back=>?_)<;>(refine yL 74 (ζk 1000 ζz) fun v74 h=>?_;cases h)<;>refine ζe (back _ (nrm ?_))<;>refine xE 14 75 rfl (ζv 1000 ζT) ?_<;>(refine ζi 15 kR ?_)<;>(refine ζf rfl fun w9 M9 N9 DQ back=>?_)<;>refine ζt 1000 ζz ?_<;>refine ζe (back _ (nrm ?_))<;>refine xE 16 76 rfl (ζv 1000 ζT) ?_<;>(refine ζi 17 kR ?_)<;>(refine ζf rfl fun w9 M9 N9 DQ back=>?_)<;>refine ζt 1000 ζz ?_<;>refine ζe (back _ (nrm ?_))))))))<;>refine Zam kR (nav ?_)<;>try dsimp only)<;>(
           (refine ζa ?_<;>refine xL 59 ζb (xL 60 ζG (xL 13 ζc ?_))<;>refine ζd ?_)
           rw [hsw];refine ζj (
            ⟨(k+1,swp L k (k+1)),by dsimp only;omega,by dsimp only;omega, .step _ _ hS (by omega) (by omega) (by omega) (by omega) h3,Zvd leT hM2 (by omega) (by omega) hB3 (by omega)⟩
            ) (by dsimp only;omega) ⟨rfl,rfl,rfl,rfl,rfl,rfl,rfl,trivial⟩ ⟨rfl,trivial⟩))
       · first
         |exact bN hb58
         | (
          refine nav ?_;refine Zsq (Za6 hv L) (Tryz.results249) ⟨by rw [←hLl];rfl,trivial⟩ ⟨L,hS,ZmG leT hM2 (by omega),rfl⟩)))
 · first
   |exact bN hb28
   | (
    refine nav ?_;(refine ζa ?_<;>refine xL 77 ζb (xL 78 ζb (xL 79 ZeX (xL 80 ζ6 ?_)))<;>refine ζd ?_)
    (first|refine cCd ?_ ?_|refine cC ?_ ?_)<;>intro hb80
    · first
      |exact bN hb80
      | (
       refine nav ?_;(refine ζa ?_<;>refine xL 81 ζb (xL 14 ζc ?_)<;>refine ζd ?_)
       (refine ζa ?_<;>refine xL 82 ζb (xL 15 ζc ?_)<;>refine ζd ?_)
       refine ζy (ι:={q:Nat×Nat//BsT a m q.1 q.2 xm l}) (fun k=>⟨[(0,_,_),(1,_,_),(2,_,_),(3,_,_),(4,_,_),(14, .int .i64 k.1.1,pInt k.1.1),(15, .int .i64 k.1.2,pInt k.1.2)],[(1000,hv, .own 24 3 l.length (ζ3 l))]⟩) (fun k=>k.1.2-k.1.1) ⟨(a,m),Zqj a m xm l (by omega)⟩ (fun a w H=>H.weaken ⟨rfl,rfl,rfl,rfl,rfl,rfl,rfl,trivial⟩ ⟨rfl,trivial⟩) ?_;rintro ⟨⟨i,j⟩,hB⟩;dsimp only;dsimp only at hB;have hB1:=hB.1;have hB2:=hB.2.1;have hB3:=hB.2.2.1;refine nav ?_;(refine ζa ?_<;>refine xL 83 ζb (xL 84 ζb (xL 85 ζK ?_))<;>refine ζd ?_)
       (first|refine cCd ?_ ?_|refine cC ?_ ?_)<;>intro hb85
       · first
         |exact bN hb85
         | (
          refine nav ?_;(refine ζa ?_<;>refine xL 86 ζb (xL 87 ζb ?_)<;>refine xL 88 ((Zcx (c:=((i+j:Nat):Int)))) ?_<;>refine xL 89 ((ZtT (a:=i+j) rfl rfl (by omega))) ?_<;>refine xL 90 ((ZkE (a:=i+j) rfl)) ?_<;>refine xL 91 ((ZtU (a:=(i+j) / 2) rfl rfl (by omega))) ?_<;>refine xL 16 ζc ?_<;>refine ζd ?_)
          obtain ⟨y,hy⟩:=ζm (show (i+j) / 2<l.length by omega);have e3:=ζ4 hy;have e4:=Zah hy;(refine ζY (fun i=>([]:List Nat).elem i) [1000] kR ?_<;>refine xD 0 92 rfl ζb ?_<;>refine xD 1 93 rfl ζb ?_<;>refine xD 2 94 rfl ζb ?_<;>refine xD 3 95 rfl (ζv 1000 ζT) ?_<;>(refine yD 4 96 rfl (ζk 1000 ζz) fun v96 h=>?_;cases h)<;>refine xD 5 97 rfl ζb ?_<;>refine xE 6 98 rfl ζb ?_<;>refine xE 7 99 rfl (ζv 1000 ζT) ?_<;>(refine yE 8 100 rfl (ζk 1000 ζz) fun v100 h=>?_;cases h)<;>(refine ζi 9 kR ?_)<;>(refine ZaM (d:=101) rfl (Zb5 (f:=f) (ps:=[]) rfl ⟨_,rfl⟩ hc rfl (hf xm (Xb hxm) y (Xb hy))) fun v101 h=>?_;cases h)<;>refine xE 10 102 rfl ζK ?_<;>refine xE 11 103 rfl Zav ?_<;>refine Zam kR (nav ?_)<;>try dsimp only)
          (first|refine cCd ?_ ?_|refine cC ?_ ?_)<;>intro hb103
          · first
            |exact bN hb103
            | (
             refine nav ?_;(refine ζa ?_<;>refine xL 104 ζb (xL 105 ζG (xL 14 ζc ?_))<;>refine ζd ?_)
             first
              | (exact ζj (
                  ⟨((i+j) / 2+1,j),ZtW hB s1 (by omega) (by omega) hy (ZdI (by simpa using hb103))⟩
                  ) (by dsimp only;omega) ⟨rfl,rfl,rfl,rfl,rfl,rfl,rfl,trivial⟩ ⟨rfl,trivial⟩)
              | (exact ζj (
                  ⟨(i,(i+j) / 2),ZkG hB s1 (by omega) (by omega) hy (by unfold leT;simp at hb103;omega)⟩
                  ) (by dsimp only;omega) ⟨rfl,rfl,rfl,rfl,rfl,rfl,rfl,trivial⟩ ⟨rfl,trivial⟩))
          · first
            |exact bN hb103
            | (
             refine nav ?_;(refine ζa ?_<;>refine xL 106 ζb (xL 15 ζc ?_)<;>refine ζd ?_)
             first
              | (exact ζj (
                  ⟨((i+j) / 2+1,j),ZtW hB s1 (by omega) (by omega) hy (ZdI (by simpa using hb103))⟩
                  ) (by dsimp only;omega) ⟨rfl,rfl,rfl,rfl,rfl,rfl,rfl,trivial⟩ ⟨rfl,trivial⟩)
              | (exact ζj (
                  ⟨(i,(i+j) / 2),ZkG hB s1 (by omega) (by omega) hy (by unfold leT;simp at hb103;omega)⟩
                  ) (by dsimp only;omega) ⟨rfl,rfl,rfl,rfl,rfl,rfl,rfl,trivial⟩ ⟨rfl,trivial⟩)))
       · first
         |exact bN hb85
         | (
          (have hij:j=i:=by omega);subst hij;(have hbm:b=m+1:=by omega);subst hbm;have hM:Mov leT a (m+1) m j l:=Zxr leT s1 (by omega) (fun q x y h4 h5 hx hy=>by
           rw [hxm] at hx;cases hx;exact hB.2.2.2.1 q y h4 h5 hy) (fun q x y h4 h5 hx hy=>by
           rw [hxm] at hx;cases hx;exact hB.2.2.2.2 q y h4 h5 hy)
          refine nav ?_;(refine ζa ?_<;>refine xL 107 ζb (xL 17 ζc ?_)<;>refine ζd ?_)
          refine ζy (ι:={q:Nat×List Nd//j≤q.1∧q.1<m+1∧Sw a (m+1) l q.2∧Mov leT a (m+1) q.1 j q.2}) (fun k=>⟨[(0,_,_),(1,_,_),(2,_,_),(3,_,_),(4,_,_),(14,_,_),(17, .int .i64 k.1.1,pInt k.1.1)],[(1000,hv, .own 24 3 l.length (ζ3 k.1.2))]⟩) (fun k=>k.1.1) ⟨(m,l),by dsimp only;omega,by dsimp only;omega, .refl _,hM⟩ (fun a w H=>H.weaken ⟨rfl,rfl,rfl,rfl,rfl,rfl,rfl,trivial⟩ ⟨rfl,trivial⟩) ?_;rintro ⟨⟨k,L⟩,hk1,hk2,hS,hM2⟩;dsimp only;dsimp only at hk1 hk2 hS hM2;have hLl:=hS.len;refine nav ?_;(refine ζa ?_<;>refine xL 108 ζb (xL 109 ζb (xL 110 ZaF ?_))<;>refine ζd ?_)
          (first|refine cCd ?_ ?_|refine cC ?_ ?_)<;>intro hb110
          · first
            |exact bN hb110
            | (
             obtain ⟨k',rfl⟩:∃k',k=k'+1:=⟨k-1,by omega⟩;obtain ⟨x,hx⟩:=ζm (show k'+1<L.length by omega);obtain ⟨y,hy⟩:=ζm (show k'<L.length by omega);have e1:=ζ4 hx;have e2:=Zah hx;have e3:=ζ4 hy;have e4:=Zah hy;have hsw:=Zhl hx hy;have e5:(ZdU (ζ3 L) ((k'+1)*3) (cN y)).length=(ζ3 L).length:=Zfh _ _ _;refine nav ?_;(refine ζY (fun i=>([]:List Nat).elem i) [] kR ?_<;>refine xD 0 113 rfl ζb ?_<;>refine xD 1 114 rfl ζb ?_<;>refine xD 2 115 rfl ζb ?_<;>refine xD 3 116 rfl ζb ?_<;>refine xD 4 117 rfl ((ZbG (c:=((k':Nat):Int)))) ?_<;>refine xD 5 118 rfl ζb ?_<;>refine xD 6 119 rfl ζb ?_<;>refine xD 7 120 rfl ((ZbG (c:=((k':Nat):Int)))) ?_<;>refine xD 10 123 rfl ζb ?_<;>refine xD 11 124 rfl ζb ?_<;>(refine Zad 8 12 kR ?_ ?_;rotate_right;(focus ((refine ζf rfl fun w9 M9 N9 DQ back=>?_)<;>refine xL 125 (ζv 1000 ζT) ?_<;>refine ζe (back _ (nrm ?_))<;>(refine Zad 8 13 kR ?_ ?_;rotate_right;(focus ((refine ζf rfl fun w9 M9 N9 DQ back=>?_)<;>(refine yL 126 (ζk 1000 ζz) fun v126 h=>?_;cases h)<;>refine ζe (back _ (nrm ?_))<;>(refine ζi 8 kR ?_)<;>(refine ζf rfl fun w9 M9 N9 DQ back=>?_)<;>refine xL 121 (ζv 1000 ζT) ?_<;>refine ζe (back _ (nrm ?_))<;>(refine ζi 9 kR ?_)<;>(refine ζf rfl fun w9 M9 N9 DQ back=>?_)<;>(refine yL 122 (ζk 1000 ζz) fun v122 h=>?_;cases h)<;>refine ζe (back _ (nrm ?_))<;>refine xE 14 127 rfl (ζv 1000 ζT) ?_<;>(refine ζi 15 kR ?_)<;>(refine ζf rfl fun w9 M9 N9 DQ back=>?_)<;>refine ζt 1000 ζz ?_<;>refine ζe (back _ (nrm ?_))<;>refine xE 16 128 rfl (ζv 1000 ζT) ?_<;>(refine ζi 17 kR ?_)<;>(refine ζf rfl fun w9 M9 N9 DQ back=>?_)<;>refine ζt 1000 ζz ?_<;>refine ζe (back _ (nrm ?_))));rotate_right;(focus ((refine ζf rfl fun w9 M9 N9 DQ back=>?_)<;>refine xL 121 (ζv 1000 ζT) ?_<;>refine ζe (back _ (nrm ?_))<;>(refine Zad 9 13 kR ?_ ?_;rotate_right;(focus ((refine ζf rfl fun w9 M9 N9 DQ back=>?_)<;>(refine yL 126 (ζk 1000 ζz) fun v126 h=>?_;cases h)<;>refine ζe (back _ (nrm ?_))<;>(refine ζi 9 kR ?_)<;>(refine ζf rfl fun w9 M9 N9 DQ back=>?_)<;>(refine yL 122 (ζk 1000 ζz) fun v122 h=>?_;cases h)<;>refine ζe (back _ (nrm ?_))<;>refine xE 14 127 rfl (ζv 1000 ζT) ?_<;>(refine ζi 15 kR ?_)<;>(refine ζf rfl fun w9 M9 N9 DQ back=>?_)<;>refine ζt 1000 ζz ?_<;>refine ζe (back _ (nrm ?_))<;>refine xE 16 128 rfl (ζv 1000 ζT) ?_<;>(refine ζi 17 kR ?_)<;>(refine ζf rfl fun w9 M9 N9 DQ back=>?_)<;>refine ζt 1000 ζz ?_<;>refine ζe (back _ (nrm ?_))));rotate_right;(focus ((refine ζf rfl fun w9 M9 N9 DQ back=>?_)<;>(refine yL 122 (ζk 1000 ζz) fun v122 h=>?_;cases h)<;>refine ζe (back _ (nrm ?_))<;>(refine ζi 13 kR ?_)<;>(refine ζf rfl fun w9 M9 N9 DQ back=>?_)<;>(refine yL 126 (ζk 1000 ζz) fun v126 h=>?_;cases h)<;>refine ζe (back _ (nrm ?_))<;>refine xE 14 127 rfl (ζv 1000 ζT) ?_<;>(refine ζi 15 kR ?_)<;>(refine ζf rfl fun w9 M9 N9 DQ back=>?_)<;>refine ζt 1000 ζz ?_<;>refine ζe (back _ (nrm ?_))<;>refine xE 16 128 rfl (ζv 1000 ζT) ?_<;>(refine ζi 17 kR ?_)<;>(refine ζf rfl fun w9 M9 N9 DQ back=>?_)<;>refine ζt 1000 ζz ?_<;>refine ζe (back _ (nrm ?_))))))))));rotate_right;(focus ((refine ζf rfl fun w9 M9 N9 DQ back=>?_)<;>refine xL 121 (ζv 1000 ζT) ?_<;>refine ζe (back _ (nrm ?_))<;>(refine Zad 9 12 kR ?_ ?_;rotate_right;(focus ((refine ζf rfl fun w9 M9 N9 DQ back=>?_)<;>refine xL 125 (ζv 1000 ζT) ?_<;>refine ζe (back _ (nrm ?_))<;>(refine Zad 9 13 kR ?_ ?_;rotate_right;(focus ((refine ζf rfl fun w9 M9 N9 DQ back=>?_)<;>(refine yL 126 (ζk 1000 ζz) fun v126 h=>?_;cases h)<;>refine ζe (back _ (nrm ?_))<;>(refine ζi 9 kR ?_)<;>(refine ζf rfl fun w9 M9 N9 DQ back=>?_)<;>(refine yL 122 (ζk 1000 ζz) fun v122 h=>?_;cases h)<;>refine ζe (back _ (nrm ?_))<;>refine xE 14 127 rfl (ζv 1000 ζT) ?_<;>(refine ζi 15 kR ?_)<;>(refine ζf rfl fun w9 M9 N9 DQ back=>?_)<;>refine ζt 1000 ζz ?_<;>refine ζe (back _ (nrm ?_))<;>refine xE 16 128 rfl (ζv 1000 ζT) ?_<;>(refine ζi 17 kR ?_)<;>(refine ζf rfl fun w9 M9 N9 DQ back=>?_)<;>refine ζt 1000 ζz ?_<;>refine ζe (back _ (nrm ?_))));rotate_right;(focus ((refine ζf rfl fun w9 M9 N9 DQ back=>?_)<;>(refine yL 122 (ζk 1000 ζz) fun v122 h=>?_;cases h)<;>refine ζe (back _ (nrm ?_))<;>(refine ζi 13 kR ?_)<;>(refine ζf rfl fun w9 M9 N9 DQ back=>?_)<;>(refine yL 126 (ζk 1000 ζz) fun v126 h=>?_;cases h)<;>refine ζe (back _ (nrm ?_))<;>refine xE 14 127 rfl (ζv 1000 ζT) ?_<;>(refine ζi 15 kR ?_)<;>(refine ζf rfl fun w9 M9 N9 DQ back=>?_)<;>refine ζt 1000 ζz ?_<;>refine ζe (back _ (nrm ?_))<;>refine xE 16 128 rfl (ζv 1000 ζT) ?_<;>(refine ζi 17 kR ?_)<;>(refine ζf rfl fun w9 M9 N9 DQ back=>?_)<;>refine ζt 1000 ζz ?_<;>refine ζe (back _ (nrm ?_)))))));rotate_right;(focus ((refine ζf rfl fun w9 M9 N9 DQ back=>?_)<;>(refine yL 122 (ζk 1000 ζz) fun v122 h=>?_;cases h)<;>refine ζe (back _ (nrm ?_))<;>(refine ζi 12 kR ?_)<;>(refine ζf rfl fun w9 M9 N9 DQ back=>?_)<;>refine xL 125 (ζv 1000 ζT) ?_<;>refine ζe (back _ (nrm ?_))<;>(refine ζi 13 kR ?_)<;>(refine ζf rfl fun w9 M9 N9 DQ back=>?_)<;>(refine yL 126 (ζk 1000 ζz) fun v126 h=>?_;cases h)<;>refine ζe (back _ (nrm ?_))<;>refine xE 14 127 rfl (ζv 1000 ζT) ?_<;>(refine ζi 15 kR ?_)<;>(refine ζf rfl fun w9 M9 N9 DQ back=>?_)<;>refine ζt 1000 ζz ?_<;>refine ζe (back _ (nrm ?_))<;>refine xE 16 128 rfl (ζv 1000 ζT) ?_<;>(refine ζi 17 kR ?_)<;>(refine ζf rfl fun w9 M9 N9 DQ back=>?_)<;>refine ζt 1000 ζz ?_<;>refine ζe (back _ (nrm ?_))))))))<;>refine Zam kR (nav ?_)<;>try dsimp only)<;>(
              (refine ζa ?_<;>refine xL 111 ζb ?_<;>refine xL 112 ((ZbG (c:=((k':Nat):Int)))) ?_<;>refine xL 17 ζc ?_<;>refine ζd ?_)
              rw [hsw];refine ζj (
               ⟨(k',swp L (k'+1) k'),by dsimp only;omega,by dsimp only;omega, .step _ _ hS (by omega) (by omega) (by omega) (by omega) h3,Zxq leT hM2 (by omega) (by omega) (by omega) (by omega)⟩
               ) (by dsimp only;omega) ⟨rfl,rfl,rfl,rfl,rfl,rfl,rfl,trivial⟩ ⟨rfl,trivial⟩))
          · first
            |exact bN hb110
            | (
             (have hkj:k=j:=by omega);subst hkj;refine nav ?_;refine Zsq (Za6 hv L) (Tryz.results249) ⟨by rw [←hLl];rfl,trivial⟩ ⟨L,hS,Zos leT hM2,rfl⟩)))
    · first
      |exact bN hb80
      | (
       have hlo:=Zxv h1 h2;(have hmid:(a+b) / 2<b:=by omega);refine nav ?_;(refine ζa ?_<;>refine xL 129 ζb (xL 130 ζb ?_)<;>refine xL 131 ((Zcx (c:=((a+b:Nat):Int)))) ?_<;>refine xL 132 ((ZtT (a:=a+b) rfl rfl (by omega))) ?_<;>refine xL 133 ((ZkE (a:=a+b) rfl)) ?_<;>refine xL 134 ((ZtU (a:=(a+b) / 2) rfl rfl (by omega))) ?_<;>refine xL 18 ζc ?_<;>refine ζd ?_)
       (refine ζa ?_<;>refine xL 135 ζb (xL 136 ζb ?_)<;>refine xL 137 ((Zcx (c:=(((a+b) / 2+m:Nat):Int)))) ?_<;>refine xL 19 ζc ?_<;>refine ζd ?_)
       (refine ζa ?_<;>refine xL 20 ζc (xL 21 ζc ?_)<;>refine ζd ?_)
       (refine ζa ?_<;>refine xL 138 ζb (xL 139 ζb (xL 140 ZaF ?_))<;>refine ζd ?_)
       refine Zd8 (fun _:Unit=>⟨[(0,hv, .val hv),(1, .int .i64 (a:Int),pInt a),(2, .int .i64 (m:Int),pInt m),(3, .int .i64 (b:Int),pInt b),(4,fv, .fn f []),(18, .int .i64 (((a+b) / 2:Nat):Int),pInt (((a+b) / 2:Nat):Int)),(19, .int .i64 (((a+b) / 2+m:Nat):Int),pInt (((a+b) / 2+m:Nat):Int)),(20, .int .i64 (loM a m b:Int),pInt (loM a m b)),(21, .int .i64 (hiM a m b:Int),pInt (hiM a m b))],Za6 hv l⟩) ?_ ?_
       · (first|refine cCd ?_ ?_|refine cC ?_ ?_)<;>intro hb140
         · first
           |exact bN hb140
           | (
            refine nav ?_;(refine ζa ?_<;>refine xL 141 ζb (xL 142 ζb ?_)<;>(refine xL 143 ((ZbG (c:=((loM a m b:Nat):Int)) (hc:=by unfold loM;rw [if_pos (by omega)];omega))) ?_)<;>refine xL 20 ζc ?_<;>refine ζd ?_)
            (refine ζa ?_<;>(refine xL 144 ((Zou (c:=((hiM a m b:Nat):Int)) (hc:=by unfold hiM;rw [if_pos (by omega)]))) ?_)<;>refine xL 21 ζc ?_<;>refine ζd ?_)
            exact ZaA () ⟨rfl,rfl,rfl,rfl,rfl,rfl,rfl,rfl,rfl,trivial⟩ ⟨rfl,trivial⟩)
         · first
           |exact bN hb140
           | (
            refine nav ?_;(refine ζa ?_<;>(refine xL 145 ((Zou (c:=((loM a m b:Nat):Int)) (hc:=by unfold loM;rw [if_neg (by omega)]))) ?_)<;>refine xL 20 ζc ?_<;>refine ζd ?_)
            (refine ζa ?_<;>(refine xL 146 ((Zou (c:=((hiM a m b:Nat):Int)) (hc:=by unfold hiM;rw [if_neg (by omega)]))) ?_)<;>refine xL 21 ζc ?_<;>refine ζd ?_)
            exact ZaA () ⟨rfl,rfl,rfl,rfl,rfl,rfl,rfl,rfl,rfl,trivial⟩ ⟨rfl,trivial⟩)
       · intro _;unfold Za6;refine nav ?_;(refine ζa ?_<;>refine xL 147 ζb ?_<;>refine xL 148 ((ZbG (c:=(((a+b) / 2+m-1:Nat):Int)))) ?_<;>refine xL 22 ζc ?_<;>refine ζd ?_)
         refine ζy (ι:={q:Nat×Nat//Thr leT (loM a m b) (hiM a m b) ((a+b) / 2+m-1) q.1 q.2 l}) (fun k=>⟨[(0,_,_),(1,_,_),(2,_,_),(3,_,_),(4,_,_),(18,_,_),(19,_,_),(22,_,_),(20, .int .i64 k.1.1,pInt k.1.1),(21, .int .i64 k.1.2,pInt k.1.2)],[(1000,hv, .own 24 3 l.length (ζ3 l))]⟩) (fun k=>k.1.2-k.1.1) ⟨(loM a m b,hiM a m b),Zvf leT l hlo.2.1⟩ (fun a w H=>H.weaken ⟨rfl,rfl,rfl,rfl,rfl,rfl,rfl,rfl,rfl,rfl,trivial⟩ ⟨rfl,trivial⟩) ?_;rintro ⟨⟨i,j⟩,hT⟩;dsimp only;dsimp only at hT;have hB1:=hT.1;have hB2:=hT.2.1;have hB3:=hT.2.2.1;refine nav ?_;(refine ζa ?_<;>refine xL 149 ζb (xL 150 ζb (xL 151 ζK ?_))<;>refine ζd ?_)
         (first|refine cCd ?_ ?_|refine cC ?_ ?_)<;>intro hb151
         · first
           |exact bN hb151
           | (
            refine nav ?_;(refine ζa ?_<;>refine xL 152 ζb (xL 153 ζb ?_)<;>refine xL 154 ((Zcx (c:=((i+j:Nat):Int)))) ?_<;>refine xL 155 ((ZtT (a:=i+j) rfl rfl (by omega))) ?_<;>refine xL 156 ((ZkE (a:=i+j) rfl)) ?_<;>refine xL 157 ((ZtU (a:=(i+j) / 2) rfl rfl (by omega))) ?_<;>refine xL 23 ζc ?_<;>refine ζd ?_)
            obtain ⟨x,hx⟩:=ζm (show (i+j) / 2<l.length by omega);have e1:=ζ4 hx;have e2:=Zah hx;obtain ⟨y,hy⟩:=ζm (show (a+b) / 2+m-1-(i+j) / 2<l.length by omega);have e3:=ζ4 hy;have e4:=Zah hy;(refine ζY (fun i=>([]:List Nat).elem i) [1000] kR ?_<;>refine xD 0 158 rfl ζb ?_<;>refine xD 1 159 rfl ζb ?_<;>refine xD 2 160 rfl ζb ?_<;>refine xD 3 161 rfl ζb ?_<;>refine xD 4 162 rfl ((ZbG (c:=(((a+b) / 2+m-1-(i+j) / 2:Nat):Int)))) ?_<;>refine xD 5 163 rfl (ζv 1000 ζT) ?_<;>(refine yD 6 164 rfl (ζk 1000 ζz) fun v164 h=>?_;cases h)<;>refine xD 7 165 rfl ζb ?_<;>refine xE 8 166 rfl ζb ?_<;>refine xE 9 167 rfl (ζv 1000 ζT) ?_<;>(refine yE 10 168 rfl (ζk 1000 ζz) fun v168 h=>?_;cases h)<;>(refine ζi 11 kR ?_)<;>(refine ZaM (d:=169) rfl (Zb5 (f:=f) (ps:=[]) rfl ⟨_,rfl⟩ hc rfl (hf y (Xb hy) x (Xb hx))) fun v169 h=>?_;cases h)<;>refine xE 12 170 rfl ζK ?_<;>refine xE 13 171 rfl Zav ?_<;>refine Zam kR (nav ?_)<;>try dsimp only)
            (first|refine cCd ?_ ?_|refine cC ?_ ?_)<;>intro hb171
            · first
              |exact bN hb171
              | (
               refine nav ?_;(refine ζa ?_<;>refine xL 172 ζb (xL 173 ζG (xL 20 ζc ?_))<;>refine ζd ?_)
               first
                | (exact ζj (
                    ⟨((i+j) / 2+1,j),Zxu Zc2 (fun _ _ _=>Zck) hT s1 s2 (by omega) (by omega) hlo.1 hlo.2.2.1 hlo.2.2.2.1 hlo.2.2.2.2.1 h3 hx hy (ZdI (by simpa using hb171))⟩
                    ) (by dsimp only;omega) ⟨rfl,rfl,rfl,rfl,rfl,rfl,rfl,rfl,rfl,rfl,trivial⟩ ⟨rfl,trivial⟩)
                | (exact ζj (
                    ⟨(i,(i+j) / 2),Zqi Zc2 (fun _ _ _=>Zck) hT s1 s2 (by omega) (by omega) hlo.1 hlo.2.2.1 hlo.2.2.2.1 hlo.2.2.2.2.1 h3 hx hy (by unfold leT;simp at hb171;omega)⟩
                    ) (by dsimp only;omega) ⟨rfl,rfl,rfl,rfl,rfl,rfl,rfl,rfl,rfl,rfl,trivial⟩ ⟨rfl,trivial⟩))
            · first
              |exact bN hb171
              | (
               refine nav ?_;(refine ζa ?_<;>refine xL 174 ζb (xL 21 ζc ?_)<;>refine ζd ?_)
               first
                | (exact ζj (
                    ⟨((i+j) / 2+1,j),Zxu Zc2 (fun _ _ _=>Zck) hT s1 s2 (by omega) (by omega) hlo.1 hlo.2.2.1 hlo.2.2.2.1 hlo.2.2.2.2.1 h3 hx hy (ZdI (by simpa using hb171))⟩
                    ) (by dsimp only;omega) ⟨rfl,rfl,rfl,rfl,rfl,rfl,rfl,rfl,rfl,rfl,trivial⟩ ⟨rfl,trivial⟩)
                | (exact ζj (
                    ⟨(i,(i+j) / 2),Zqi Zc2 (fun _ _ _=>Zck) hT s1 s2 (by omega) (by omega) hlo.1 hlo.2.2.1 hlo.2.2.2.1 hlo.2.2.2.2.1 h3 hx hy (by unfold leT;simp at hb171;omega)⟩
                    ) (by dsimp only;omega) ⟨rfl,rfl,rfl,rfl,rfl,rfl,rfl,rfl,rfl,rfl,trivial⟩ ⟨rfl,trivial⟩)))
         · first
           |exact bN hb151
           | (
            (have hij:j=i:=by omega);subst hij;(have hj1:j≤(a+b) / 2:=by omega);(have hj2:j≤m:=by omega);refine nav ?_;(refine ζa ?_<;>refine xL 175 ζb (xL 176 ζb ?_)<;>refine xL 177 ((ZbG (c:=(((a+b) / 2+m-j:Nat):Int)))) ?_<;>refine xL 24 ζc ?_<;>refine ζd ?_)
            (refine ζa ?_<;>refine xL 178 ζb (xL 179 ζb (xL 180 ζK (xL 181 ζb ?_)))<;>(refine bLd 181 (fun hb181=>?_) (fun hb181=>?_)<;>(first|refine kL 182 ?_|refine xL 182 ζb ?_))<;>(first|refine kL 183 ?_|refine xL 183 ζb ?_)<;>(first|refine kL 184 ?_|refine xL 184 ζK ?_)<;>refine xL 185 ζJ ?_<;>refine ζd ?_)<;>(
             refine Zd8 (fun L1:{L1:List Nd//(∀k,L1[k]? =l[Zf6 j m ((a+b) / 2+m-j) k]?)∧Sw a b l L1}=>⟨[(0,hv, .val hv),(1, .int .i64 (a:Int),pInt a),(2, .int .i64 (m:Int),pInt m),(3, .int .i64 (b:Int),pInt b),(4,fv, .fn f []),(18, .int .i64 (((a+b) / 2:Nat):Int),pInt (((a+b) / 2:Nat):Int)),(20, .int .i64 (j:Int),pInt j),(24, .int .i64 (((a+b) / 2+m-j:Nat):Int),pInt (((a+b) / 2+m-j:Nat):Int))],Za6 hv L1.1⟩) ?_ ?_
             · (first|refine cCd ?_ ?_|refine cC ?_ ?_)<;>intro hb185
               · first
                 |exact bN hb185
                 | (
                  refine nav ?_;(refine ζa ?_<;>refine xL 186 ζb (xL 187 ζb (xL 188 ζb (xL 189 ζb (xL 190 ζb ?_))))<;>(refine Zat (Za6 hv l) ⟨rfl,trivial⟩ ?_;refine ZbO [] 191 (Tryz.call272) (Zvh l hl j m ((a+b) / 2+m-j) (by omega) (by omega) (by omega) hv fv f) (fun v191 p191 h191 hR191=>?_);obtain ⟨L1,hL1,hS1,rfl⟩:=hR191;have hL1l:=hS1.len;dsimp only [Za6])<;>refine ζd ?_)
                  first
                  |exact ZaA ⟨L1,hL1,hS1.mono (by omega) (by omega) h3⟩ ⟨rfl,rfl,rfl,rfl,rfl,rfl,rfl,rfl,trivial⟩ ⟨rfl,trivial⟩
                  |exact ZaA ⟨l,fun k=>by rw [Zxx (by omega) (by omega) (by omega)], .refl _⟩ ⟨rfl,rfl,rfl,rfl,rfl,rfl,rfl,rfl,trivial⟩ ⟨rfl,trivial⟩)
               · first
                 |exact bN hb185
                 | (
                  refine nav ?_
                  first
                  |exact ZaA ⟨L1,hL1,hS1.mono (by omega) (by omega) h3⟩ ⟨rfl,rfl,rfl,rfl,rfl,rfl,rfl,rfl,trivial⟩ ⟨rfl,trivial⟩
                  |exact ZaA ⟨l,fun k=>by rw [Zxx (by omega) (by omega) (by omega)], .refl _⟩ ⟨rfl,rfl,rfl,rfl,rfl,rfl,rfl,rfl,trivial⟩ ⟨rfl,trivial⟩)
             · rintro ⟨L1,hL1,hS1⟩;dsimp only;have hL1l:=hS1.len;obtain ⟨g1,g2,g3,g4,g5,g6,g7,g8,g9⟩:=Zvg Zc2 (fun _ _ _=>Zck) h1 h2 h3 s1 s2 hT hL1;have hf1:∀x∈L1,∀y∈L1,AF Tryz.prog f [pTr x,pTr y] (· =pInt (Za7 x y)):=fun x hx y hy=>hf x (ZgP hS1 hx) y (ZgP hS1 hy);unfold Za6;refine nav ?_;(refine ζa ?_<;>refine xL 192 ζb (xL 193 ζb (xL 194 ζK (xL 195 ζb ?_)))<;>(refine bLd 195 (fun hb195=>?_) (fun hb195=>?_)<;>(first|refine kL 196 ?_|refine xL 196 ζb ?_))<;>(first|refine kL 197 ?_|refine xL 197 ζb ?_)<;>(first|refine kL 198 ?_|refine xL 198 ζK ?_)<;>refine xL 199 ζJ ?_<;>refine ζd ?_)<;>(
                refine Zd8 (fun L2:{L2:List Nd//Sw a ((a+b) / 2) L1 L2∧SrtS leT a ((a+b) / 2) L2}=>⟨[(0,hv, .val hv),(1, .int .i64 (a:Int),pInt a),(2, .int .i64 (m:Int),pInt m),(3, .int .i64 (b:Int),pInt b),(4,fv, .fn f []),(18, .int .i64 (((a+b) / 2:Nat):Int),pInt (((a+b) / 2:Nat):Int)),(20, .int .i64 (j:Int),pInt j),(24, .int .i64 (((a+b) / 2+m-j:Nat):Int),pInt (((a+b) / 2+m-j:Nat):Int))],Za6 hv L2.1⟩) ?_ ?_
                · (first|refine cCd ?_ ?_|refine cC ?_ ?_)<;>intro hb199
                  · first
                    |exact bN hb199
                    | (
                     refine nav ?_;(refine ζa ?_<;>refine xL 200 ζb (xL 201 ζb (xL 202 ζb (xL 203 ζb (xL 204 ζb ?_))))<;>(refine Zat (Za6 hv L1) ⟨rfl,trivial⟩ ?_;refine ZbO [] 205 (Tryz.call249) (ih L1 (by omega) hf1 a j ((a+b) / 2) (by omega) (by omega) (by omega) (by omega) g1 g2) (fun v205 p205 h205 hR205=>?_);obtain ⟨L2,hS2,hO2,rfl⟩:=hR205;have hL2l:=hS2.len;dsimp only [Za6])<;>refine ζd ?_)
                     first
                     |exact ZaA ⟨L2,hS2,hO2⟩ ⟨rfl,rfl,rfl,rfl,rfl,rfl,rfl,rfl,trivial⟩ ⟨rfl,trivial⟩
                     |exact ZaA ⟨L1, .refl _,ZkF g5 g6 (by omega) g1 g2⟩ ⟨rfl,rfl,rfl,rfl,rfl,rfl,rfl,rfl,trivial⟩ ⟨rfl,trivial⟩)
                  · first
                    |exact bN hb199
                    | (
                     refine nav ?_
                     first
                     |exact ZaA ⟨L2,hS2,hO2⟩ ⟨rfl,rfl,rfl,rfl,rfl,rfl,rfl,rfl,trivial⟩ ⟨rfl,trivial⟩
                     |exact ZaA ⟨L1, .refl _,ZkF g5 g6 (by omega) g1 g2⟩ ⟨rfl,rfl,rfl,rfl,rfl,rfl,rfl,rfl,trivial⟩ ⟨rfl,trivial⟩)
                · rintro ⟨L2,hS2,hO2⟩;dsimp only;have hL2l:=hS2.len;have hf2:∀x∈L2,∀y∈L2,AF Tryz.prog f [pTr x,pTr y] (· =pInt (Za7 x y)):=fun x hx y hy=>hf1 x (ZgP hS2 hx) y (ZgP hS2 hy);have g3':SrtS leT ((a+b) / 2) ((a+b) / 2+m-j) L2:=g3.ext leT fun k k1 k2=>hS2.out (.inr k1);have g4':SrtS leT ((a+b) / 2+m-j) b L2:=g4.ext leT fun k k1 k2=>hS2.out (.inr (by omega));unfold Za6;refine nav ?_;(refine ζa ?_<;>refine xL 206 ζb (xL 207 ζb (xL 208 ζK (xL 209 ζb ?_)))<;>(refine bLd 209 (fun hb209=>?_) (fun hb209=>?_)<;>(first|refine kL 210 ?_|refine xL 210 ζb ?_))<;>(first|refine kL 211 ?_|refine xL 211 ζb ?_)<;>(first|refine kL 212 ?_|refine xL 212 ζK ?_)<;>refine xL 213 ζJ ?_<;>refine ζd ?_)<;>(
                   (first|refine cCd ?_ ?_|refine cC ?_ ?_)<;>intro hb213
                   · first
                     |exact bN hb213
                     | (
                      refine nav ?_;(refine ζa ?_<;>refine xL 214 ζb (xL 215 ζb (xL 216 ζb (xL 217 ζb (xL 218 ζb ?_))))<;>(refine Zat (Za6 hv L2) ⟨rfl,trivial⟩ ?_;refine ZbO [] 219 (Tryz.call249) (ih L2 (by omega) hf2 ((a+b) / 2) ((a+b) / 2+m-j) b (by omega) (by omega) (by omega) (by omega) g3' g4') (fun v219 p219 h219 hR219=>?_);obtain ⟨L3,hS3,hO3,rfl⟩:=hR219;have hL3l:=hS3.len;dsimp only [Za6])<;>refine ζd ?_)
                      first
                      |exact Zcw (Za6 hv L3) (Tryz.results249) ⟨rfl,trivial⟩ ⟨L3,hS1.trans ((hS2.mono (Xd _) (by omega) (by omega)).trans (hS3.mono (by omega) (Xd _) (by omega))),Zf7 (by omega) (by omega) (by omega) g9 hS2 hS3 hO2 hO3,rfl⟩
                      |exact Zcw (Za6 hv L2) (Tryz.results249) ⟨rfl,trivial⟩ ⟨L2,hS1.trans (hS2.mono (Xd _) (by omega) (by omega)),Zf7 (by omega) (by omega) (by omega) g9 hS2 (.refl _) hO2 (ZkF g7 g8 (by omega) g3' g4'),rfl⟩)
                   · first
                     |exact bN hb213
                     | (
                      refine nav ?_
                      first
                      |exact Zcw (Za6 hv L3) (Tryz.results249) ⟨rfl,trivial⟩ ⟨L3,hS1.trans ((hS2.mono (Xd _) (by omega) (by omega)).trans (hS3.mono (by omega) (Xd _) (by omega))),Zf7 (by omega) (by omega) (by omega) g9 hS2 hS3 hO2 hO3,rfl⟩
                      |exact Zcw (Za6 hv L2) (Tryz.results249) ⟨rfl,trivial⟩ ⟨L2,hS1.trans (hS2.mono (Xd _) (by omega) (by omega)),Zf7 (by omega) (by omega) (by omega) g9 hS2 (.refl _) hO2 (ZkF g7 g8 (by omega) g3' g4'),rfl⟩)))))))
theorem ZdJ:AggT Tryz.prog 24 3=true:=by kernel_rfl
theorem Zvi:ElT Tryz.prog 22 24 3 48 (.agg #[(.int .i64 0),(.string ByteArray.empty),(.slice none 0 0)]):=⟨Tryz.underlying22,by kernel_rfl,rfl,by decide⟩
theorem Zbx:SlT Tryz.prog 22 24 3=true:=by kernel_rfl
def Zqk (w n:Nat) (l:List Nd):Prop:=∀c,SrtS leT (c*w) (min (c*w+w) n) l
theorem Ziw {w n a:Nat} {l:List Nd} (ha:∃c,a=c*w) (hn:n<a+w) (h:∀c,c*w+w≤a→SrtS leT (c*w) (c*w+w) l) (hs:SrtS leT a n l):Zqk w n l:=fun c=>by
 obtain ⟨c0,rfl⟩:=ha
 rcases Nat.lt_trichotomy c c0 with h1|h1|h1
 · have:(c+1)*w≤c0*w:=X' w h1;rw [XQ] at this;exact (h c this).sub leT (Xd _) (Nat.min_le_left _ _)
 · subst h1;rw [UA (by omega)];exact hs
 · have:(c0+1)*w≤c*w:=X' w h1;rw [XQ] at this;exact SrtS.small leT l (by have:=Nat.min_le_right (c*w+w) n;omega)
theorem ZAx {w n a:Nat} {l:List Nd} (h:Zqk w n l) (ha:∃c,a=c*(w*2)) (hn:a+w*2≤n):SrtS leT a (a+w) l∧SrtS leT (a+w) (a+w*2) l:=by
 obtain ⟨c,rfl⟩:=ha
 have e1:c*2*w=c*(w*2):=by rw [Nat.mul_assoc,VK 2 w]
 have h1:=h (c*2)
 have h2:=h (c*2+1)
 rw [XQ] at h2
 rw [e1] at h1 h2
 rw [XU (by omega)] at h1 h2
 exact ⟨h1,by rw [show c*(w*2)+w*2=c*(w*2)+w+w by omega];exact h2⟩
theorem Zxz {w n a:Nat} {l:List Nd} (h:Zqk w n l) (ha:∃c,a=c*(w*2)) (hn:n<a+w*2) (hw:0<w):SrtS leT a (min (a+w) n) l∧SrtS leT (a+w) n l:=by
 obtain ⟨c,rfl⟩:=ha
 have e1:c*2*w=c*(w*2):=by rw [Nat.mul_assoc,VK 2 w]
 have h1:=h (c*2)
 have h2:=h (c*2+1)
 rw [XQ] at h2
 rw [e1] at h1 h2
 exact ⟨h1,by rw [UA (by omega)] at h2;exact h2⟩
theorem ZAy {w n:Nat} {l:List Nd} (h:Zqk w n l) (hw:n≤w):SrtS leT 0 n l:=by
 have:=h 0
 rw [X4,Xw,UA hw] at this;exact this
theorem ZAz {l:List Nd} (h:SrtS leT 0 l.length l):AscT l:=by
 rw [AscT,V7]
 intro i j hi hj hij
 exact h i j _ _ (Xe _) hij hj (XM hi) (XM hj)
set_option maxHeartbeats 4000000 in
theorem Zvj (f : Nat) (hc:∀args w,(callFunc f args).run Tryz.prog w= .ok (.enter f args) w) (hv:Value) (fv:Value) (l:List Nd) (hl:l.length≤1000000) (hf:∀x∈l,∀y∈l,AF Tryz.prog f [pTr x,pTr y] (· =pInt (Za7 x y))):AFh False Tryz.prog 214 [(0,hv, .val hv),(1, .int .i64 (l.length:Int),pInt l.length),(2,fv, .fn f [])] (Za6 hv l) (fun v q h=>h=Za6 hv (Zol l)):=by
 have hfp:∀{L:List Nd},Sw 0 l.length l L→∀x∈L,∀y∈L,AF Tryz.prog f [pTr x,pTr y] (· =pInt (Za7 x y)):=fun hS x hx y hy=>hf x (ZgP hS hx) y (ZgP hS hy)
 have hn:l.length≤l.length:=Xd _
 unfold Za6
 refine AFh.of_body 63 Tryz.func214 rfl Tryz.ntmps214 (Xa rfl) rfl ?_
 intro w0 M0 N0
 refine nav ?_
 (refine ζa ?_<;>refine xL 6 ζc ?_<;>refine ζd ?_)
 (refine ζa ?_<;>refine xL 10 ζb (xL 7 ζc (xL 8 ζc ?_))<;>refine ζd ?_)
 refine ζy (ι:={q:Nat×List Nd//(∃c,q.1=c*20)∧q.1≤l.length∧Sw 0 l.length l q.2∧∀c,c*20+20≤q.1→SrtS leT (c*20) (c*20+20) q.2}) (fun k=>⟨[(0,_,_),(1,_,_),(2,_,_),(6,_,_),(7, .int .i64 k.1.1,pInt k.1.1),(8, .int .i64 ((k.1.1+20:Nat):Int),pInt ((k.1.1+20:Nat):Int))],[(1000,hv, .own 24 3 l.length (ζ3 k.1.2))]⟩) (fun k=>l.length-k.1.1) ⟨(0,l),⟨0,rfl⟩,Xe _, .refl _,fun c h=>by dsimp only at h;omega⟩ (fun a w H=>H.weaken ⟨rfl,rfl,rfl,rfl,rfl,rfl,trivial⟩ ⟨rfl,trivial⟩) ?_
 rintro ⟨⟨a,L⟩,ha,han,hS,hO⟩
 dsimp only
 dsimp only at ha han hS hO;have hLl:=hS.len
 refine nav ?_
 (refine ζa ?_<;>refine xL 11 ζb (xL 12 ζb (xL 13 ZpL ?_))<;>refine ζd ?_)
 (first|refine cCd ?_ ?_|refine cC ?_ ?_)<;>intro hb13
 · first
   |exact bN hb13
   | (
    refine nav ?_;(refine ζa ?_<;>refine xL 14 ζb (xL 15 ζb (xL 16 ζb (xL 17 ζb ?_)))<;>(refine Zat (Za6 hv L) ⟨by rw [←hLl];rfl,trivial⟩ ?_;refine ZbO [] 18 (Tryz.call248) (Zxw f hc L (by omega) (hfp hS) a (a+20) (by omega) (by omega) hv fv) (fun v18 p18 h18 hR18=>?_);obtain ⟨L2,hS2,hO2,rfl⟩:=hR18;have hL2l:=hS2.len;dsimp only [Za6];rw [hL2l,hLl])<;>refine ζd ?_)
    (refine ζa ?_<;>refine xL 19 ζb (xL 7 ζc ?_)<;>refine ζd ?_)
    (refine ζa ?_<;>refine xL 20 ζb (xL 21 ζb ?_)<;>refine xL 22 ((Zcx (c:=((a+20+20:Nat):Int)))) ?_<;>refine xL 8 ζc ?_<;>refine ζd ?_)
    refine ζj (
     ⟨(a +20,L2),by obtain ⟨c,hc'⟩:=ha;exact ⟨c+1,by dsimp only;omega⟩,by dsimp only;omega,hS.trans (hS2.mono (Xe _) (by omega) (by omega)),fun c h=>by
       dsimp only at h ⊢;obtain ⟨c0,hc0⟩:=ha;rcases Xv c c0 with h1|h1
       · exact (hO c (by omega)).ext leT fun k k1 k2=>hS2.out (.inl (by omega))
       · (have:c=c0:=by omega);subst this;rw [←hc0];exact hO2⟩
     ) (by dsimp only;omega) ⟨rfl,rfl,rfl,rfl,rfl,rfl,trivial⟩ ⟨rfl,trivial⟩)
 · first
   |exact bN hb13
   | (
    (have hna:l.length<a+20:=by omega);refine nav ?_;(refine ζa ?_<;>refine xL 23 ζb (xL 24 ζb (xL 25 ζb (xL 26 ζb ?_)))<;>(refine Zat (Za6 hv L) ⟨by rw [←hLl];rfl,trivial⟩ ?_;refine ZbO [] 27 (Tryz.call248) (Zxw f hc L (by omega) (hfp hS) a l.length (by omega) (by omega) hv fv) (fun v27 p27 h27 hR27=>?_);obtain ⟨L1,hS1,hO1,rfl⟩:=hR27;have hL1l:=hS1.len;dsimp only [Za6];rw [hL1l,hLl];have hS1':Sw 0 l.length l L1:=hS.trans (hS1.mono (Xe _) (Xd _) (by omega));have hB1:Zqk 20 l.length L1:=Ziw ha hna (fun c h=>(hO c h).ext leT fun k k1 k2=>hS1.out (.inl (by omega))) hO1)<;>refine ζd ?_)
    refine ζy (ι:={q:Nat×List Nd//1≤q.1∧q.1≤2000000∧Sw 0 l.length l q.2∧Zqk q.1 l.length q.2}) (fun k=>⟨[(0,_,_),(1,_,_),(2,_,_),(6, .int .i64 k.1.1,pInt k.1.1)],[(1000,hv, .own 24 3 l.length (ζ3 k.1.2))]⟩) (fun k=>l.length-k.1.1) ⟨(20,L1),by dsimp only;omega,by dsimp only;omega,hS1',hB1⟩ (fun a w H=>H.weaken ⟨rfl,rfl,rfl,rfl,trivial⟩ ⟨rfl,trivial⟩) ?_;rintro ⟨⟨w,L⟩,hw1,hw2,hS,hB⟩;dsimp only;dsimp only at hw1 hw2 hS hB;have hLl:=hS.len;refine nav ?_;(refine ζa ?_<;>refine xL 28 ζb (xL 29 ζb (xL 30 ζK ?_))<;>refine ζd ?_)
    (first|refine cCd ?_ ?_|refine cC ?_ ?_)<;>intro hb30
    · first
      |exact bN hb30
      | (
       refine nav ?_;(refine ζa ?_<;>refine xL 31 ζb ?_<;>refine xL 32 ((Zot (c:=((w*2:Nat):Int)))) ?_<;>refine xL 7 ζc (xL 8 ζc ?_)<;>refine ζd ?_)
       refine ζy (ι:={q:Nat×List Nd//(∃c,q.1=c*(w*2))∧q.1≤l.length∧Sw 0 l.length l q.2∧(∀c,c*(w*2)+w*2≤q.1→SrtS leT (c*(w*2)) (c*(w*2)+w*2) q.2)∧∀k,q.1≤k→q.2[k]? =L[k]? }) (fun k=>⟨[(0,_,_),(1,_,_),(2,_,_),(6,_,_),(7, .int .i64 k.1.1,pInt k.1.1),(8, .int .i64 ((w*2+k.1.1:Nat):Int),pInt ((w*2+k.1.1:Nat):Int))],[(1000,hv, .own 24 3 l.length (ζ3 k.1.2))]⟩) (fun k=>l.length-k.1.1) ⟨(0,L),⟨0,(X4 _).symm⟩,Xe _,hS,fun c h=>by dsimp only at h;omega,fun _ _=>rfl⟩ (fun a w H=>H.weaken ⟨rfl,rfl,rfl,rfl,rfl,rfl,trivial⟩ ⟨rfl,trivial⟩) ?_;rintro ⟨⟨a,K⟩,ha,han,hSK,hO,hU⟩;dsimp only;dsimp only at ha han hSK hO hU;have hKl:=hSK.len;refine nav ?_;(refine ζa ?_<;>refine xL 33 ζb (xL 34 ζb (xL 35 ZpL ?_))<;>refine ζd ?_)
       (first|refine cCd ?_ ?_|refine cC ?_ ?_)<;>intro hb35
       · first
         |exact bN hb35
         | (
          (have hab:a+w*2≤l.length:=by omega);have hb2:=ZAx hB ha hab;have g1:SrtS leT a (a+w) K:=hb2.1.ext leT fun k k1 k2=>hU k k1;(have g2:SrtS leT (a+w) (w*2+a) K:=by rw [Nat.add_comm (w*2) a];exact hb2.2.ext leT fun k k1 k2=>hU k (by omega));refine nav ?_;(refine ζa ?_<;>refine xL 36 ζb (xL 37 ζb (xL 38 ζb (xL 39 ζb ?_)))<;>refine xL 40 ((Zcx (c:=((a+w:Nat):Int)))) ?_<;>refine xL 41 ζb (xL 42 ζb ?_)<;>(refine Zat (Za6 hv K) ⟨by rw [←hKl];rfl,trivial⟩ ?_;refine ZbO [] 43 (Tryz.call249) (Zxy f hc hv fv _ K (by omega) (hfp hSK) a (a+w) (w*2+a) (Xd _) (by omega) (by omega) (by omega) g1 g2) (fun v43 p43 h43 hR43=>?_);obtain ⟨K2,hS2,hO2,rfl⟩:=hR43;have hK2l:=hS2.len;dsimp only [Za6];rw [hK2l,hKl])<;>refine ζd ?_)
          (refine ζa ?_<;>refine xL 44 ζb (xL 7 ζc ?_)<;>refine ζd ?_)
          (refine ζa ?_<;>refine xL 45 ζb (xL 46 ζb ?_)<;>refine xL 47 ((Zot (c:=((w*2:Nat):Int)))) ?_<;>refine xL 48 ((Zcx (c:=((w*2+(w*2+a):Nat):Int)))) ?_<;>refine xL 8 ζc ?_<;>refine ζd ?_)
          refine ζj (
           ⟨(w *2+a,K2),by obtain ⟨c,hc'⟩:=ha;exact ⟨c+1,by dsimp only;rw [XQ];omega⟩,by dsimp only;omega,hSK.trans (hS2.mono (Xe _) (by omega) (by omega)),fun c h=>by
             dsimp only at h ⊢;obtain ⟨c0,hc0⟩:=ha;rcases Nat.lt_trichotomy c c0 with h1|h1|h1
             · have:(c+1)*(w*2)≤c0*(w*2):=X' _ h1;rw [XQ] at this;exact (hO c (by omega)).ext leT fun k k1 k2=>hS2.out (.inl (by omega))
             · subst h1;rw [←hc0,Nat.add_comm a (w*2)];exact hO2
             · have:(c0+1)*(w*2)≤c*(w*2):=X' _ h1;rw [XQ] at this;omega,fun k hk=>by dsimp only at hk ⊢;rw [hS2.out (.inr hk)];exact hU k (by omega)⟩
           ) (by dsimp only;omega) ⟨rfl,rfl,rfl,rfl,rfl,rfl,trivial⟩ ⟨rfl,trivial⟩)
       · first
         |exact bN hb35
         | (
          (have hna:l.length<a+w*2:=by omega);have hb3:=Zxz hB ha hna hw1;have g1:SrtS leT a (min (a+w) l.length) K:=hb3.1.ext leT fun k k1 k2=>hU k k1;have g2:SrtS leT (a+w) l.length K:=hb3.2.ext leT fun k k1 k2=>hU k (by omega);refine nav ?_;(refine ζa ?_<;>refine xL 49 ζb (xL 50 ζb ?_)<;>refine xL 51 ((Zcx (c:=((a+w:Nat):Int)))) ?_<;>refine xL 9 ζc ?_<;>refine ζd ?_)
          (refine ζa ?_<;>refine xL 52 ζb (xL 53 ζb (xL 54 ζK ?_))<;>refine ζd ?_)
          (first|refine cCd ?_ ?_|refine cC ?_ ?_)<;>intro hb54
          · first
            |exact bN hb54
            | (
             rw [XU (by omega)] at g1;refine nav ?_;(refine ζa ?_<;>refine xL 55 ζb (xL 56 ζb (xL 57 ζb (xL 58 ζb (xL 59 ζb ?_))))<;>(refine Zat (Za6 hv K) ⟨by rw [←hKl];rfl,trivial⟩ ?_;refine ZbO [] 60 (Tryz.call249) (Zxy f hc hv fv _ K (by omega) (hfp hSK) a (a+w) l.length (Xd _) (by omega) (by omega) (by omega) g1 g2) (fun v60 p60 h60 hR60=>?_);obtain ⟨K2,hS2,hO2,rfl⟩:=hR60;have hK2l:=hS2.len;dsimp only [Za6];rw [hK2l,hKl])<;>refine ζd ?_)
             (refine ζa ?_<;>refine xL 61 ζb ?_<;>refine xL 62 ((Zot (c:=((w*2:Nat):Int)))) ?_<;>refine xL 6 ζc ?_<;>refine ζd ?_)
             first
              | (exact ζj (
                  ⟨(w*2,K),by dsimp only;omega,by dsimp only;omega,hSK,Ziw ha hna hO g1⟩
                  ) (by dsimp only;omega) ⟨rfl,rfl,rfl,rfl,trivial⟩ ⟨rfl,trivial⟩)
              | (exact ζj (
                  ⟨(w*2,K2),by dsimp only;omega,by dsimp only;omega,hSK.trans (hS2.mono (Xe _) (by omega) (by omega)),show Zqk (w*2) l.length K2 from Ziw ha hna (fun c h=>(hO c h).ext leT fun k k1 k2=>hS2.out (.inl (by omega))) hO2⟩
                  ) (by dsimp only;omega) ⟨rfl,rfl,rfl,rfl,trivial⟩ ⟨rfl,trivial⟩))
          · first
            |exact bN hb54
            | (
             rw [UA (by omega)] at g1;refine nav ?_;(refine ζa ?_<;>refine xL 61 ζb ?_<;>refine xL 62 ((Zot (c:=((w*2:Nat):Int)))) ?_<;>refine xL 6 ζc ?_<;>refine ζd ?_)
             first
              | (exact ζj (
                  ⟨(w*2,K),by dsimp only;omega,by dsimp only;omega,hSK,Ziw ha hna hO g1⟩
                  ) (by dsimp only;omega) ⟨rfl,rfl,rfl,rfl,trivial⟩ ⟨rfl,trivial⟩)
              | (exact ζj (
                  ⟨(w*2,K2),by dsimp only;omega,by dsimp only;omega,hSK.trans (hS2.mono (Xe _) (by omega) (by omega)),show Zqk (w*2) l.length K2 from Ziw ha hna (fun c h=>(hO c h).ext leT fun k k1 k2=>hS2.out (.inl (by omega))) hO2⟩
                  ) (by dsimp only;omega) ⟨rfl,rfl,rfl,rfl,trivial⟩ ⟨rfl,trivial⟩))))
    · first
      |exact bN hb30
      | (
       refine nav ?_;have hso:=ZAy hB (by omega);rw [←hLl] at hso;refine Zcw [(1000,hv, .own 24 3 l.length (ζ3 L))] (Tryz.results214) ⟨rfl,trivial⟩ ?_;rw [←ZAg (ZAz hso) hS.perm];rw [hLl]))
theorem Zvk (f:Nat) (hc:∀args w,(callFunc f args).run Tryz.prog w= .ok (.enter f args) w) (hv:Value) (fv:Value) (l:List Nd) (hl:l.length≤1000000) (hf:∀x∈l,∀y∈l,AF Tryz.prog f [pTr x,pTr y] (· =pInt (Za7 x y))):AFh False Tryz.prog 174 [(0,hv, .val hv),(1,fv, .fn f [])] (Za6 hv l) (fun v q h=>h=Za6 hv (Zol l)):=by
 unfold Za6
 refine AFh.of_body 9 Tryz.func174 rfl Tryz.ntmps174 (Xa rfl) rfl ?_
 intro w0 M0 N0
 refine nav ?_
 (refine ζa ?_<;>refine xL 4 ζb (xL 5 ζb (xL 6 (ZaH 1000 Zbx) (xL 7 ζb ?_)))<;>(refine Zat (Za6 hv l) ⟨rfl,trivial⟩ ?_;refine ZbO [] 8 (Tryz.call214) (Zvj f hc hv fv l hl hf) (fun v8 p8 h8 hR8=>?_);subst hR8;dsimp only [Za6])<;>refine ζd ?_)
 exact Zcw (Za6 hv (Zol l)) (Tryz.results174) ⟨rfl,trivial⟩ rfl
theorem ZAA {l:List Nd} (h:1≤l.length):ZdX (l.take 1)=l.take 1:=by
 cases l with
 |nil=>simp at h
 |cons x l=>rfl
theorem Zql {l:List Nd} (hs:AscT l) {p:Nat} {x y:Nd} (hy:l[p]? =some y) (hx:l[p+1]? =some x) (he:Ze2 x y=true):ZdX (l.take (p+1+1))=ZdX (l.take (p+1)):=by
 have e:=Zdd.1 he
 subst e
 refine Zp4 (ZeA _ (hs.sublist (Ui _ _))) (ZeA _ (hs.sublist (Ui _ _))) fun z=>?_
 rw [Zds,Zds,ζQ hx,Xs,Xi]
 exact ⟨fun h=>h.elim id fun h=>by subst h;rw [ζQ hy];exact X3 _ (Xi.2 rfl), .inl⟩
theorem ZtX {l:List Nd} (hs:AscT l) {i j:Nat} {x y:Nd} (hij:i<j) (hx:l[i]? =some x) (hy:l[j]? =some y):leT x y:=by
 obtain ⟨h1,rfl⟩:=XI.1 hx
 obtain ⟨h2,rfl⟩:=XI.1 hy
 exact V7.1 hs i j h1 h2 hij
theorem ZtY {l:List Nd} (hs:AscT l) {p:Nat} {x y:Nd} (hy:l[p]? =some y) (hx:l[p+1]? =some x) (he:Ze2 x y=false):ZdX (l.take (p+1+1))=ZdX (l.take (p+1))++[x]:=by
 have hyx:Za7 y x<0:=Zk4 (ZtX hs (by omega) hy hx) fun e=>by rw [Zdd.2 e.symm] at he;cases he
 refine Zp4 (ZeA _ (hs.sublist (Ui _ _))) ?_ fun z=>?_
 · refine UB.2 ⟨ZeA _ (hs.sublist (Ui _ _)),VC ..,fun z hz w hw=>?_⟩;rw [Xi.1 hw];rw [Zds] at hz;obtain ⟨i,hi⟩:=Ve hz;have hi':=ζg hi;rw [Xu] at hi';rw [XZ (by omega)] at hi;by_cases e:i=p
   · subst e;rw [hi] at hy;cases hy;exact hyx
   · have h:=ZtX hs (show i<p by omega) hi hy;by_cases e2:z=y
     · subst e2;exact hyx
     · have:=Zk4 h e2;have t1:=ZgJ z y;have t2:=ZgJ y x;have:=ZtF z y x (by omega) (by omega);omega
 · rw [Xs,Zds,Xi,ζQ hx,Zds,Xs,Xi]
theorem ZhY {α β:Type} {f:α→List β} {m:Nat} (hf:∀x,(f x).length=m):∀(L:List α) (k:Nat),(L.flatMap f).take (k*m)=(L.take k).flatMap f
 |[],k=>by simp
 |x::L,0=>by simp
 | x::L,k+1=>by
   rw [List.take_succ_cons,Xr,Xr,←ZhY hf L k,List.take_append,Xo (by rw [hf,X9];omega),hf,show (k+1)*m-m=k*m by rw [X9];omega]
theorem ZxA {hv:Value} (h:hv.oneCell'=true) (i j k:Nat):(slc hv i j k).oneCell'=true:=by
 unfold slc;split
 · rfl
 · exact h
set_option maxHeartbeats 2000000 in
theorem Zow (f : Nat) (hc:∀args w,(callFunc f args).run Tryz.prog w= .ok (.enter f args) w) (fv:Value) (l:List Nd) (hl:l.length≤1000000) (hs:AscT l) (hf:∀x∈l,∀y∈l,AF Tryz.prog f [pTr x,pTr y] (· =ζV (Ze2 x y))) (hv:Value) (hvo:hv.oneCell'=true):AFh False Tryz.prog 176 [(0,hv, .val hv),(1,fv, .fn f [])] [(1000,hv, .own 24 3 l.length (ζ3 l))] (fun v q h=>v.oneCell'=true∧q= .val v∧h=[(1000,v, .own 24 3 (ZdX l).length (ζ3 (ZdX l)))]):=by
 refine AFh.of_body 66 Tryz.func176 rfl Tryz.ntmps176 (Xa rfl) rfl ?_
 intro w0 M0 N0
 refine nav ?_
 (refine ζa ?_<;>refine xL 4 ζc ?_<;>refine ζd ?_)
 (refine ζa ?_<;>refine xL 8 ζb (xL 9 (ZaH 1000 Zbx) (xL 10 ζK ?_))<;>refine ζd ?_)
 (first|refine cCd ?_ ?_|refine cC ?_ ?_)<;>intro hb10
 · first
   |exact bN hb10
   | (
    refine nav ?_;(refine ζa ?_<;>refine xL 11 ζb (xL 4 ζc ?_)<;>refine ζd ?_)
    refine ZhL [(1000,hv,PV.own 24 3 l.length (ζ3 l))] (Tryz.results176) rfl ⟨rfl,trivial⟩ ⟨hvo,rfl,?_⟩;have hm:ZdX l=l:=by
     match l,hl,hb10 with
     |[],_,_=>rfl
     |[_],_,_=>rfl
     |_::_::_,_,h=>simp at h;omega
    rw [hm])
 · first
   |exact bN hb10
   | (
    refine nav ?_;(refine ζa ?_<;>refine xL 5 ζc ?_<;>refine ζd ?_)
    refine ζy (ι:={k:Nat//1≤k∧k≤l.length∧ZdX (l.take k)=l.take k}) (fun k=>⟨[(0,_,_),(1,_,_),(5, .int .i64 k.1,pInt k.1)],[(1000,_,_)]⟩) (fun k=>l.length-k.1) ⟨1,Xd _,by omega,ZAA (by omega)⟩ (fun a w H=>H.weaken ⟨rfl,rfl,rfl,trivial⟩ ⟨rfl,trivial⟩) ?_;rintro ⟨k1,hk1,hk,hmk⟩;dsimp only;obtain ⟨k,rfl⟩:∃k,k1=k+1:=⟨k1-1,by omega⟩;refine nav ?_;(refine ζa ?_<;>refine xL 12 ζb (xL 13 ζb (xL 14 (ZaH 1000 Zbx) (xL 15 ζK ?_)))<;>refine ζd ?_)
    (first|refine cCd ?_ ?_|refine cC ?_ ?_)<;>intro hb15
    · first
      |exact bN hb15
      | (
       obtain ⟨x,hx⟩:=ζm (show k+1<l.length by omega);obtain ⟨y,hy⟩:=ζm (show k<l.length by omega);have e1:=ζ4 hx;have e2:=Zah hx;have e3:=ζ4 hy;have e4:=Zah hy;have hlt:k+1<l.length:=ζg hx;refine nav ?_;(refine ζY (fun i=>([]:List Nat).elem i) [1000] kR ?_<;>refine xD 0 18 rfl ζb ?_<;>refine xD 1 19 rfl ζb ?_<;>refine xD 2 20 rfl ζb ?_<;>refine xD 3 21 rfl (ζv 1000 Zbx) ?_<;>(refine yD 4 22 rfl (ζk 1000 ZdJ) fun v22 h=>?_;cases h)<;>refine xD 5 23 rfl ζb ?_<;>refine xE 6 24 rfl ζb ?_<;>refine xE 7 25 rfl ((ZbG (c:=((k:Nat):Int)))) ?_<;>refine xE 8 26 rfl (ζv 1000 Zbx) ?_<;>(refine yE 9 27 rfl (ζk 1000 ZdJ) fun v27 h=>?_;cases h)<;>(refine ζi 10 kR ?_)<;>(refine ZaM (d:=28) rfl (Zb5 (f:=f) (ps:=[]) rfl ⟨_,rfl⟩ hc rfl (hf x (Xb hx) y (Xb hy))) fun v28 h=>?_;cases h)<;>refine Zam kR (nav ?_)<;>try dsimp only)
       (first|refine cCd ?_ ?_|refine cC ?_ ?_)<;>intro hb28
       · first
         |exact bN hb28
         | (
          have hsm:=Zql hs hy hx (by unfold Ze2;simpa using hb28);(have hl1:(ZdX (l.take (k+1+1))).length=k+1:=by rw [hsm,hmk,Xu];omega);refine nav ?_;(refine ζa ?_<;>refine xL 29 ζb (xL 30 ζb ?_)<;>refine xL 31 (ZcP (i:=k+1) (j:=l.length) 1000 Zbx rfl rfl rfl rfl rfl (VN hlt) (Xd _)) ?_<;>refine xL 6 ζc ?_<;>refine ζd ?_)
          (refine ζa ?_<;>refine xL 7 ζc ?_<;>refine ζd ?_)
          refine ζy (ι:={q:Nat×Nat×List Nd//1≤q.1∧k+1+q.1≤l.length∧q.2.1=(ZdX (l.take (k+1+q.1))).length∧q.2.2.length=l.length∧q.2.2.take q.2.1=ZdX (l.take (k+1+q.1))∧q.2.1≤k+q.1∧∀i,k+q.1≤i→q.2.2[i]? =l[i]? }) (fun k=>⟨[(0,_,_),(1,_,_),(6,_,_),(5, .int .i64 k.1.2.1,pInt k.1.2.1),(7, .int .i64 k.1.1,pInt k.1.1)],[(1000,hv, .own 24 3 l.length (ζ3 k.1.2.2))]⟩) (fun k=>l.length-k.1.1) ⟨(1,k+1,l),Xd _,by dsimp only;omega,hl1.symm,rfl,by dsimp only;rw [hsm,hmk],Xd _,fun i _=>rfl⟩ (fun a w H=>H.weaken ⟨rfl,rfl,rfl,rfl,rfl,trivial⟩ ⟨rfl,trivial⟩) ?_;rintro ⟨⟨j,K,L⟩,hj1,hj,hK,hLl,hLt,hKj,hLr⟩;dsimp only;dsimp only at hj1 hj hK hLl hLt hKj hLr;obtain ⟨j',rfl⟩:∃j',j=j'+1:=⟨j-1,by omega⟩;(have hK2:(K:Int)≤1000000:=by omega);rw [show k+1+(j'+1)=k+1+j'+1 from rfl] at hK hLt;refine nav ?_;(refine ζa ?_<;>refine xL 32 ζb (xL 33 ζb ?_)<;>refine xL 34 ((Zm9 (a:=k+1) (m:=l.length-(k+1)) 1000 Zbx rfl rfl rfl rfl)) ?_<;>refine xL 35 ζK ?_<;>refine ζd ?_)
          (first|refine cCd ?_ ?_|refine cC ?_ ?_)<;>intro hb35
          · first
            |exact bN hb35
            | (
             obtain ⟨u,hu⟩:=ζm (show k+1+(j'+1)<l.length by omega);obtain ⟨v,hv2⟩:=ζm (show k+1+j'<l.length by omega);(have hu':L[k+1+(j'+1)]? =some u:=by rw [hLr _ (by omega)];exact hu);(have hv':L[k+1+j']? =some v:=by rw [hLr _ (by omega)];exact hv2);have g1:=ζ4 hu';have g2:=Zah hu';have g3:=ζ4 hv';have g4:=Zah hv';(have g5:K<L.length:=by omega);(have g6:K*3+3≤(ζ3 L).length:=by rw [ZgO];omega);refine nav ?_;(refine ζY (fun i=>([]:List Nat).elem i) [1000] kR ?_<;>refine xD 0 38 rfl ζb ?_<;>refine xD 1 39 rfl ζb ?_<;>refine xD 2 40 rfl ζb ?_<;>refine xD 3 41 rfl ((Zep (a:=k+1) (m:=(k+1+(j'+1))*3) 1000 Zbx rfl rfl rfl rfl (by omega) (by omega) (by omega))) ?_<;>(refine yD 4 42 rfl (ζk 1000 ZdJ) fun v42 h=>?_;cases h)<;>refine xD 5 43 rfl ζb ?_<;>refine xE 6 44 rfl ζb ?_<;>refine xE 7 45 rfl ((ZbG (c:=((j':Nat):Int)))) ?_<;>refine xE 8 46 rfl ((Zep (a:=k+1) (m:=(k+1+j')*3) 1000 Zbx rfl rfl rfl rfl (by omega) (by omega) (by omega))) ?_<;>(refine yE 9 47 rfl (ζk 1000 ZdJ) fun v47 h=>?_;cases h)<;>(refine ζi 10 kR ?_)<;>(refine ZaM (d:=48) rfl (Zb5 (f:=f) (ps:=[]) rfl ⟨_,rfl⟩ hc rfl (hf u (Xb hu) v (Xb hv2))) fun v48 h=>?_;cases h)<;>refine xE 11 49 rfl Zav ?_<;>refine Zam kR (nav ?_)<;>try dsimp only)
             (first|refine cCd ?_ ?_|refine cC ?_ ?_)<;>intro hb49
             · first
               |exact bN hb49
               | (
                have hnw2:=ZtY hs hv2 hu (by simpa using hb49);have hset:=Zov L K u g5;(have hlen2:K+1=(ZdX (l.take (k+1+j'+1+1))).length:=by rw [hnw2,Xc,Xt,hK]);have htk2:(L.set K u).take (K+1)=ZdX (l.take (k+1+j'+1+1)):=by
                 rw [hnw2,←hLt,List.take_set,ζQ (XM g5),Uz _ _ (by rw [Xu];omega),Xu,XU (by omega),VA];rfl
                refine nav ?_;(refine ζa ?_<;>refine xL 50 ζb (xL 51 ζb (xL 52 ζb (xL 53 ζb ?_)))<;>refine xL 54 ((Zep (a:=k+1) (m:=(k+1+(j'+1))*3) 1000 Zbx rfl rfl rfl rfl (by omega) (by omega) (by omega))) ?_<;>(refine yL 55 (ζk 1000 ZdJ) fun v55 h=>?_;cases h)<;>refine xL 56 (ζv 1000 Zbx) ?_<;>refine ζt 1000 ZdJ ?_<;>refine ζd ?_)
                (refine ζa ?_<;>refine xL 57 ζb (xL 58 ζG (xL 5 ζc ?_))<;>refine ζd ?_)
                (refine ζa ?_<;>refine xL 36 ζb (xL 37 ζG (xL 7 ζc ?_))<;>refine ζd ?_)
                try rw [hset]
                first
                 | (exact ζj (
                     ⟨(j'+1+1,K+1,L.set K u),by dsimp only;omega,by dsimp only;omega,hlen2,by dsimp only;rw [Xp];exact hLl,htk2,by dsimp only;omega,fun i hi=>by dsimp only at hi ⊢;rw [X6 (by omega)];exact hLr i (by omega)⟩
                     ) (by dsimp only;omega) ⟨rfl,rfl,rfl,rfl,rfl,trivial⟩ ⟨rfl,trivial⟩)
                 | (exact ζj (
                     ⟨(j'+1+1,K,L),by dsimp only;omega,by dsimp only;omega,hK.trans (by rw [show k+1+(j'+1+1)=k+1+j'+1+1 by omega,hsm2]),hLl,hLt.trans (by rw [show k+1+(j'+1+1)=k+1+j'+1+1 by omega,hsm2]),by dsimp only;omega,fun i hi=>hLr i (by dsimp only at hi;omega)⟩
                     ) (by dsimp only;omega) ⟨rfl,rfl,rfl,rfl,rfl,trivial⟩ ⟨rfl,trivial⟩))
             · first
               |exact bN hb49
               | (
                have hsm2:=Zql hs hv2 hu (by simpa using hb49);refine nav ?_;(refine ζa ?_<;>refine xL 36 ζb (xL 37 ζG (xL 7 ζc ?_))<;>refine ζd ?_)
                try rw [hset]
                first
                 | (exact ζj (
                     ⟨(j'+1+1,K+1,L.set K u),by dsimp only;omega,by dsimp only;omega,hlen2,by dsimp only;rw [Xp];exact hLl,htk2,by dsimp only;omega,fun i hi=>by dsimp only at hi ⊢;rw [X6 (by omega)];exact hLr i (by omega)⟩
                     ) (by dsimp only;omega) ⟨rfl,rfl,rfl,rfl,rfl,trivial⟩ ⟨rfl,trivial⟩)
                 | (exact ζj (
                     ⟨(j'+1+1,K,L),by dsimp only;omega,by dsimp only;omega,hK.trans (by rw [show k+1+(j'+1+1)=k+1+j'+1+1 by omega,hsm2]),hLl,hLt.trans (by rw [show k+1+(j'+1+1)=k+1+j'+1+1 by omega,hsm2]),by dsimp only;omega,fun i hi=>hLr i (by dsimp only at hi;omega)⟩
                     ) (by dsimp only;omega) ⟨rfl,rfl,rfl,rfl,rfl,trivial⟩ ⟨rfl,trivial⟩)))
          · first
            |exact bN hb35
            | (
             have hall:l.take (k+1+j'+1)=l:=Xo (by omega);rw [hall] at hK hLt;(have hKl:K≤l.length:=by omega);refine nav ?_;(refine ζa ?_<;>refine xL 59 ζb (xL 60 ζb ?_)<;>refine xL 61 (ZcP (i:=K) (j:=l.length) 1000 Zbx rfl rfl rfl rfl rfl hKl (Xd _)) ?_<;>(refine Zk8 1000 Zvi (by decide) rfl rfl rfl rfl rfl hKl ?_;intro cs2 hcs1 hcs2)<;>refine ζd ?_)
             (refine ζa ?_<;>refine xL 62 ζb (xL 63 ζb ?_)<;>refine xL 64 (ZcP (i:=0) (j:=K) 1000 Zbx rfl rfl rfl rfl rfl (Xe _) hKl) ?_<;>refine xL 4 ζc ?_<;>refine ζd ?_)
             refine Za2 (Zw2 (l:=1000) K rfl hKl) fun _=>?_;refine ZhL [(1000,slc hv 0 K 3,PV.own 24 3 K (cs2.take (K*3)))] (Tryz.results176) rfl ⟨rfl,trivial⟩ ⟨ZxA hvo _ _ _,rfl,?_⟩;rw [hcs2,←hLt,ZaV,ZhY Zfb,←ZaV];rw [show (L.take K).length=K by rw [Xu];omega]))
       · first
         |exact bN hb28
         | (
          have hnw:=ZtY hs hy hx (by unfold Ze2;simpa using hb28);rw [hmk,←ζQ hx] at hnw;refine nav ?_;(refine ζa ?_<;>refine xL 16 ζb (xL 17 ζG (xL 5 ζc ?_))<;>refine ζd ?_)
          refine ζj (
           ⟨k+1+1,by omega,by omega,hnw⟩
           ) (by dsimp only;omega) ⟨rfl,rfl,rfl,trivial⟩ ⟨rfl,trivial⟩))
    · first
      |exact bN hb15
      | (
       refine nav ?_;(refine ζa ?_<;>refine xL 65 ζb (xL 4 ζc ?_)<;>refine ζd ?_)
       refine ZhL [(1000,hv,PV.own 24 3 l.length (ζ3 l))] (Tryz.results176) rfl ⟨rfl,trivial⟩ ⟨hvo,rfl,?_⟩;rw [Xo (show l.length≤k+1 by omega)] at hmk;rw [hmk]))
end Go.Proofs.YtgfabnhpllkebaaGreatDoor
