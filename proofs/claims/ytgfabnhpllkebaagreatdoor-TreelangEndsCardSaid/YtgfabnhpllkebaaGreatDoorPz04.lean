/-
  Walks of functions and plain laws of the chapter, as the claim needs them.
-/
import Derived.Recover
import Derived.Lib.Builder
import Derived.Lib.UnsafeStr
import Derived.Lib.AppendStr
import Derived.Laws.Externs
import Derived.Laws.Slices
import Derived.Test.YtgfabnhpllkebaaGreatDoorPz03
import Derived.Test.YtgfabnhpllkebaaGreatDoorPz01
namespace Go.En
open Go.RowKit Go.Cb
set_option linter.all false
abbrev Pi2:=Int×Int
def Ti (k:Pi2):Value:= .agg #[.int .i64 k.1, .int .i64 k.2]
theorem ZgL {a b:Pi2} (h:Ti a=Ti b):a=b:=by
 simp [Ti] at h
 exact Prod.ext h.1 h.2
def Si (m:List (Pi2×Value)):List (Value×Value):=m.map fun x=>(Ti x.1,x.2)
def Dl (k:Pi2):Prop:=(0≤k.1∧k.1≤1000000)∧(0≤k.2∧k.2≤1000000)
structure PiT (P:Program) (t ks s e:Nat) (z:Value):Prop where
 ht:P.underlying t=some (.map ks e)
 hu:P.underlying ks=some (.array 2 s)
 hs:P.underlying s=some (.int .i64)
 hk:P.keyType ks=true
 hk2:P.keyTypeAt 2 ks=true
 hti:P.tiled 2 ks=true
 hc2:P.cellsOf ks=2
 hc1:P.cellsOf s=1
 hf:∀a b:Int,(Value.agg #[.int .i64 a, .int .i64 b]).formed P ks=true
 hsz:∃n,P.types.size=n+1
 hz:ZeroT P e z
theorem PiT.law {P:Program} {t ks s e:Nat} {z:Value} (h:PiT P t ks s e z):WideMaps.KeyLaw P ks:=deep_law (m:=2) dC h.hk2 h.hti (by rw [h.hu])
theorem PiT.key {P:Program} {t ks s e:Nat} {z:Value} (h:PiT P t ks s e z) {k:Pi2} (hk:Dl k):∃l,keyOf P ks (Ti k)=some l:=by
 obtain ⟨n,hn⟩:=h.hsz
 have hl:∀c:Int,(0≤c∧c≤1000000)→P.keyLits (n+1) s [.int .i64 c]=some [.int .i64 c]:=fun c hc=>by
  unfold Program.keyLits;rw [h.hs];dsimp only;rw [UT ⟨rfl,by simp [Lit.wf,IntKind.min,IntKind.max,IntKind.signed,IntKind.bits];omega⟩]
 unfold keyOf
 rw [h.hu]
 dsimp only
 rw [h.hk,show (Ti k).formed P ks=true from h.hf _ _,hn]
 refine ⟨.string (keyBytes [.int .i64 k.1, .int .i64 k.2]),?_⟩
 rw [UT (show (true&&true)=true from rfl)]
 unfold Program.keyLits
 rw [h.hu]
 dsimp only [Ti,Value.cells]
 rw [h.hc2,h.hc1]
 rw [UT (by rfl)]
 rw [show List.range 2=[0,1] from rfl]
 simp only [List.mapM_cons,List.mapM_nil,VB,Nat.one_mul,VX,List.drop_succ_cons,Uj,XQ,hl _ hk.1,hl _ hk.2]
 rfl
theorem Zco {m:List (Pi2×Value)} {k:Pi2} (h:∀x∈m,x.1≠k):JF m k=none:=by
 induction m with
 |nil=>rfl
 | cons x m ih=>
   rw [JF,US (fun e=>h x sM e.symm)];exact ih fun y hy=>h y (by simp [hy])
theorem Zcp {m:List (Pi2×Value)} (hn:(m.map (·.1)).Nodup) {j:Nat} {k:Pi2} {v:Value} (h:m[j]? =some (k,v)):JF m k=some v:=by
 induction m generalizing j with
 |nil=>simp at h
 | cons x m ih=>
   rw [Xp,Vc] at hn
   cases j with
   |zero=>simp at h;subst h;rw [JF,UT rfl]
   | succ j=>
     rw [Vr] at h;rw [JF,US (fun e=>hn.1 (Xg.2 ⟨_,Xc h,e⟩))];exact ih hn.2 h
theorem Zjw {es:Array MapEntry} {m:List (Pi2×Value)} (h:kvOf es=Si m) {j:Nat} {e:MapEntry} {k:Pi2} (he:es[j]? =some e) (hk:e.key=Ti k):m[j]? =some (k,e.val):=by
 have h1:(kvOf es)[j]? =some (Ti k,e.val):=by
  unfold kvOf;rw [Xm,Uz,he,←hk];rfl
 rw [h] at h1
 unfold Si at h1
 rw [Xm,XA] at h1
 obtain ⟨⟨k',v'⟩,h2,h3⟩:=h1
 obtain ⟨h4,h5⟩:=Prod.mk.inj h3
 dsimp only at h4 h5
 rw [h2,ZgL h4,h5]
theorem ZeQ {es:Array MapEntry} {m:List (Pi2×Value)} (h:kvOf es=Si m):∀e∈es.toList,∃x∈m,e.key=Ti x.1:=fun e he=>by
 have h1:(e.key,e.val)∈kvOf es:=Xg.2 ⟨e,he,rfl⟩
 rw [h] at h1
 obtain ⟨x,hx,hxe⟩:=Xg.1 h1
 exact ⟨x,hx,(Prod.mk.inj hxe).1.symm⟩
theorem Zdz {P:Program} {t ks s e:Nat} {z:Value} (hT:PiT P t ks s e z) {es:Array MapEntry} {m:List (Pi2×Value)} (h:kvOf es=Si m) (hm:∀x∈m,Dl x.1) (hn:(m.map (·.1)).Nodup) {k:Pi2} (hk:Dl k) (w:World):
 (JF m k=none∧(Instr.findKey ks (Ti k) es.toList).run P w= .ok none w)∨∃(j:Nat) (e0:MapEntry),es[j]? =some e0∧e0.key=Ti k∧JF m k=some e0.val∧(Instr.findKey ks (Ti k) es.toList).run P w= .ok (some (j,e0.val)) w:=by
 obtain ⟨l,hl⟩:=hT.key hk
 have hall:∀e∈es.toList,∃l,keyOf P ks e.key=some l:=fun e he=>by
  obtain ⟨x,hx,hxe⟩:=ZeQ h e he;rw [hxe];exact hT.key (hm x hx)
 rcases hT.law.find w hl es.toList hall with ⟨h1,h2⟩|⟨j,e0,h1,h2,h3⟩
 · refine .inl ⟨Zco fun x hx e=>?_,h1⟩;obtain ⟨i,hi⟩:=X4 hx;have h4:(kvOf es)[i]? =some (Ti x.1,x.2):=by rw [h];unfold Si;rw [Xm,hi];rfl
   unfold kvOf at h4;rw [Xm,XA] at h4;obtain ⟨e0,h5,h6⟩:=h4;exact h2 e0 (Xc h5) (by rw [(Prod.mk.inj h6).1,e])
 · have h4:es[j]? =some e0:=by rw [←Uz];exact h2
   exact .inr ⟨j,e0,h4,h3,Zcp hn (Zjw h h4 h3),h1⟩
section
variable {P:Program} {c:Ctx} {ops:Array Oper} {Q:Exit→Act→World→Prop} {rest:List Oper} {sL hP:List (Nat×Ent)} {o:Oper}
theorem ZgM {t ks s e:Nat} {z:Value} (hT:PiT P t ks s e z) {b clock:Nat} {es:Array MapEntry} {m:List (Pi2×Value)} (h:kvOf es=Si m) (hm:∀x∈m,Dl x.1) (hn:(m.map (·.1)).Nodup) {k:Pi2} (hk:Dl k) {w:World} (hb:w.heap[b]? =some (.map es clock)):(Instr.lookup t (.map (some b)) (Ti k) true).run P w= .ok (.tuple [(JF m k).getD z, .bool (JF m k).isSome].toArray) w:=by
 obtain ⟨l,hl⟩:=hT.key hk
 have hck:=fun em=>hT.law.check w em hl
 unfold Instr.lookup
 simp only [Sem.run_bind,run_underlying hT.ht,Result.andThen_ok,getObj,Sem.run,hb,hck]
 rcases Zdz hT h hm hn hk w with ⟨h1,h2⟩|⟨j,e0,h3,h4,h1,h2⟩
 · simp [h1,h2,hck,ZeroT.run hT.hz]
 · simp [h1,h2,hck]
theorem ZgN {t ks s e:Nat} {z u:Value} {x y:Operand} {mv:Value} {V:Value} {m:List (Pi2×Value)} {k:Pi2} {b:Bool} {p:PV} (l:Nat) (hT:PiT P t ks s e z) (hm:∀x∈m,Dl x.1) (hn:(m.map (·.1)).Nodup) (hk:Dl k) (hu:(JF m k).getD z=u) (hb:(JF m k).isSome=b) (ho:o.op= .lookup t x y true:=by exact rfl) (hx:ev sL x=some (mv,p):=by exact rfl) (hl:lk hP l=some (mv, .omap (Si m)):=by exact rfl) (hy:ev sL y=some (V, .agg [.val (.int .i64 k.1), .val (.int .i64 k.2)]):=by exact rfl):YE P (⟨sL,hP⟩:St) o (· = .tuple [u, .bool b].toArray) (.tup [.val u, .val (.bool b)]):= .exact fun M F a w H=>by
 subst hu hb
 have hv:=(H.ev hx).1
 obtain ⟨hkv,hS⟩:=H.ev hy
 have hV:V=Ti k:=Ga (us:=[.int .i64 k.1, .int .i64 k.2]) hS
 rw [hV] at hkv
 obtain ⟨b,es,clock,rfl,he,h,_⟩:=(H.tr l _ _ hl).map
 refine ⟨.tup [(JF m k).getD z, .bool (JF m k).isSome] _ rfl fun i x p hx hp=>?_,by simp [execOp,ho,hv,hkv,ZgM hT he.symm hm hn hk h]⟩
 match i with
 |0=>simp at hx hp;subst hx hp;exact .val _
 |1=>simp at hx hp;subst hx hp;exact .val _
 |i+2=>simp at hx
theorem ZdA {t ks s e:Nat} {z:Value} {x y u:Operand} {mv V v:Value} {m:List (Pi2×Value)} {k:Pi2} {p r:PV} (l:Nat) (hT:PiT P t ks s e z) (hm:∀x∈m,Dl x.1) (hn:(m.map (·.1)).Nodup) (hk:Dl k) (hno:JF m k=none)
 (kk:aL P c ops Q rest ⟨sL,put l (mv, .omap (Si (m++[(k,v)]))) hP⟩) (hw:ZT ops sL o=some true:=by exact rfl) (hd:o.dst=none:=by exact rfl) (ho:o.op= .mapUpdate t x y u∨o.op= .insert t x y u:=by first|exact .inl rfl|exact .inr rfl) (hx:ev sL x=some (mv,p):=by exact rfl) (hl:lk hP l=some (mv, .omap (Si m)):=by exact rfl) (hy:ev sL y=some (V, .agg [.val (.int .i64 k.1), .val (.int .i64 k.2)]):=by exact rfl) (hu:ev sL u=some (v,r):=by exact rfl):aL P c ops Q (o::rest) (⟨sL,hP⟩:St):=
 Yy hw fun a w F H=>by
  have hxv:=(H.rd.ev hx).1;obtain ⟨hyv,hS⟩:=H.rd.ev hy;have hV:V=Ti k:=Ga (us:=[.int .i64 k.1, .int .i64 k.2]) hS;rw [hV] at hyv;have huv:=(H.rd.ev hu).1;obtain ⟨b,es,clock,rfl,he,hb,hFb,hWf⟩:=(H.tr l _ _ hl).mapW;obtain ⟨lt',hlt'⟩:=hT.key hk;have hck:=hT.law.check w false hlt';have main:∀(es':Array MapEntry) (clock':Nat),WfM es' clock'→kvOf es'=Si (m++[(k,v)])→Holds c ⟨sL,put l (.map (some b), .omap (Si (m++[(k,v)]))) hP⟩ a {w with heap:=w.heap.setIfInBounds b (.map es' clock')}:=fun es' clock' hW' he'=>by
   have hlt:=Yu hb;have hch:Chg (fun x=>x=b) w {w with heap:=w.heap.setIfInBounds b (.map es' clock')}:=⟨rfl,rfl,rfl,sM,fun i hi hne=>by
    rw [Uw (fun e=>hne e.symm)]⟩
   refine ⟨F,H.change0 (fun l'=>l'=l) (hch.wid fun x hx=> .inl ⟨l,_,rfl,hl,(hFb x).2 hx⟩) (fun l' x hne hx'=>?_) (fun l' x b' hT' hx' hb'=>?_) (fun hmm l' u q hT' hx'=>?_) (fun l1 l2 _ _ _ h1 h2 hne=>UU (h1.trans h2.symm) hne)⟩
   · rcases Ya hx' with ⟨e1,_⟩|⟨_,e1⟩
     · exact UU e1.symm hne
     · exact ⟨e1,rfl⟩
   · subst hT';exact .inl ⟨l',_,rfl,hl,hb'⟩
   · subst hT';rw [ZW] at hx'
     cases hx';rw [←he'];exact .omap b es' clock' (by simp [hlt]) hFb hW'
  unfold Oper.wp;rcases Zdz hT he.symm hm hn hk w with ⟨h1,h2⟩|⟨j,e0,h3,h4,h1,h2⟩
  · have hkv:kvOf (es.push {key:=Ti k,val:=v,born:=clock})=Si (m++[(k,v)]):=by
     unfold Si at he ⊢;rw [Xr,he];simp [kvOf]
    unfold execOp;rcases ho with ho|ho
    · simp [ho,hxv,hyv,huv,Instr.mapUpdate,run_underlying hT.ht,getObj,setObj,Sem.run,hb,hck,h2,Oper.upon,hd,Act.put];exact kk _ _ (main _ _ (OD hWf) hkv)
    · simp [ho,hxv,hyv,huv,Instr.mapUpdate,run_underlying hT.ht,getObj,setObj,Sem.run,hb,hck,h2,Oper.upon,hd,Act.put];exact kk _ _ (main _ _ (OD hWf) hkv)
  · rw [hno] at h1;cases h1
end
section
variable {P:Program} {sL hP:List (Nat×Ent)} {o:Oper}
theorem Zcq {t:Nat} {x y u:Operand} {V vy vu z z0 z1 z2 z3 z4:Value} {p0 p1 p2 py pu:PV} (hT:Ke P t=some (z,[(0,3),(3,1),(4,1)])) (hzs:z.cells= #[z0,z1,z2,z3,z4]) (hy1:vy.oneCell'=true) (hu1:vu.oneCell'=true) (ho:o.op= .build t #[(0,x),(1,y),(2,u)]:=by exact rfl) (hx:ev sL x=some (V, .agg [p0,p1,p2]):=by exact rfl) (hy:ev sL y=some (vy,py):=by exact rfl) (hu:ev sL u=some (vu,pu):=by exact rfl):YE P (⟨sL,hP⟩:St) o (fun _=>True) (.agg [p0,p1,p2,py,pu]):=fun M F a w H=>by
 obtain ⟨hx1,hx2⟩:=H.ev hx
 obtain ⟨hy2,hy3⟩:=H.ev hy
 obtain ⟨hu2,hu3⟩:=H.ev hu
 generalize hp:PV.agg [p0,p1,p2]=p at hx2
 cases hx2 with
 | agg vs ps hl hV=>
   cases hp;match vs,hl,hV with
   | [a0, a1,a2],_,hV=>
     have s0:=hV 0 a0 p0 rfl rfl;have s1:=hV 1 a1 p1 rfl rfl;have s2:=hV 2 a2 p2 rfl rfl;refine ⟨.agg [a0,a1,a2,vy,vu].toArray,trivial, .agg _ _ rfl fun i v q hv hq=>?_,fun N W _ _ _=>?_⟩
     · match i with
       |0=>simp at hv hq;subst hv hq;exact s0
       |1=>simp at hv hq;subst hv hq;exact s1
       |2=>simp at hv hq;subst hv hq;exact s2
       |3=>simp at hv hq;subst hv hq;exact hy3
       |4=>simp at hv hq;subst hv hq;exact hu3
       |i+5=>simp at hv
     · have c1:=WN hy1;have c2:=WN hu1;have hb:P.built t [(0,Value.agg [a0,a1,a2].toArray),(1,vy),(2,vu)]=some [a0,a1,a2,vy,vu].toArray:=by
        unfold Ke at hT;split at hT
        · rename_i i fs hi hf;split at hT
          · rename_i z' pl hz hpl
            cases hT;unfold Program.built;simp only [hi,hf,hz,hpl,hzs];have h0:(Value.agg #[a0,a1,a2]).cells= #[a0,a1,a2]:=rfl;simp [Instr.fill,h0,c1,c2,Array.zipIdx]
          · cases hT
        · cases hT
       have:=run_build (P:=P) W t #[(0,Value.agg [a0,a1,a2].toArray),(1,vy),(2,vu)] _ hb;simp [execOp,ho,hx1,hy2,hu2,this]
 |_=>cases hp
end
theorem cPx {P:Program} {c:Ctx} {ops:Array Oper} {Q:Exit→Act→World→Prop} {rest:List Oper} {sL hP:List (Nat×Ent)} {o:Oper} {ι:Type} {p1 p2:ι→PV} (d:Nat) (hC:Gf P c (⟨sL,hP⟩:St) o (fun p=>∃i,p= .tup [p1 i,p2 i])) (k:∀i v1 v2,vOf (p1 i) v1→vOf (p2 i) v2→aL P c ops Q rest ⟨put d (.tuple [v1,v2].toArray, .tup [p1 i,p2 i]) sL,hP⟩) (hsh:∀i,shD (.tup [p1 i,p2 i])=true) (hw:ZT ops sL o=some true:=by exact rfl) (hd:o.dst=some d:=by exact rfl) (hn:d<c.nt:=by exact Xa rfl):aL P c ops Q (o::rest) (⟨sL,hP⟩:St):=
 G4 hw hC fun a w F w' v p' Fr H hR hx hT hlo hdw=>by
  obtain ⟨i,rfl⟩:=hR;have hS:=hT.shD (hsh i);rw [hd];have hS':Shr (mof c hP F) w' v (.tup [p1 i,p2 i]):=hS.anti fun b _ h=> .inl h
  cases hS with
  | tup vs ps hl h=>
    match vs,hl,h,hS' with
    |[v1,v2],_,h,hS'=>exact k i v1 v2 (h 0 v1 _ rfl rfl).vOf (h 1 v2 _ rfl rfl).vOf _ _ ⟨F,RV H hx hn hS'⟩
theorem cDx {P:Program} {c:Ctx} {ops:Array Oper} {Q:Exit→Act→World→Prop} {rest:List Oper} {sL hP:List (Nat×Ent)} {o:Oper} {ι:Type} {p:ι→PV} (d:Nat) (hC:Gf P c (⟨sL,hP⟩:St) o (fun q=>∃i,q=p i)) (k:∀i v,vOf (p i) v→aL P c ops Q rest ⟨put d (v,p i) sL,hP⟩) (hsh:∀i,shD (p i)=true) (hw:ZT ops sL o=some true:=by exact rfl) (hd:o.dst=some d:=by exact rfl) (hn:d<c.nt:=by exact Xa rfl):aL P c ops Q (o::rest) (⟨sL,hP⟩:St):=
 G4 hw hC fun a w F w' v p' Fr H hR hx hT hlo hdw=>by
  obtain ⟨i,rfl⟩:=hR;have hS:=hT.shD (hsh i);rw [hd];exact k i v hS.vOf _ _ ⟨F,RV H hx hn (hS.anti fun b _ h=> .inl h)⟩
section
variable {P:Program} {c:Ctx} {sL hP:List (Nat×Ent)}
theorem OK {fn:Func} {R:PV→Prop} {t s r:Nat} {v u x:Value} {p q g:PV} (hr:fn.results= #[.tmp t, .tmp s, .tmp r]) (ht:lk sL t=some (v,p)) (hs:lk sL s=some (u,q)) (hx:lk sL r=some (x,g)) (hR:R (.tup [p,q,g])) (hN:∀b,¬c.N0 b:=by intro _ h;exact h) (hdf:c.df=[]:=by exact rfl):aR c (bodyPost P fn (GI c R)) (⟨sL,hP⟩:St):=fun a w ⟨F,H⟩=>by
 obtain ⟨h1,h2⟩:=H.sl t v p ht
 obtain ⟨h3,h4⟩:=H.sl s u q hs
 obtain ⟨h5,h6⟩:=H.sl r x g hx
 have hM:∀b,b<w.heap.size→(c.M0 b∨False)→mof c hP F b:=fun b _ hb=>by
  rcases hb with hb|hb
  · exact .inl hb
  · exact hb.elim
 refine ⟨H.df.trans hdf, .tuple [v,u,x].toArray,?_,_,_,fun _=>False,rfl,hR,H.ext.ext (fun b _=>hN b), .shr (.tup [v,u,x] [p,q,g] rfl fun i x r hx hr=>?_) (fun _ h=>h),fun _ h=>h.elim,H.dw⟩
 · simp [results,hr,X0,h1,h3,h5]
 · match i with
   |0=>simp at hx hr;subst hx hr;exact h2.anti hM
   |1=>simp at hx hr;subst hx hr;exact h4.anti hM
   |2=>simp at hx hr;subst hx hr;exact h6.anti hM
   |i+3=>simp at hx
end
theorem Zjx {P:Program} {c:Ctx} {ops:Array Oper} {Q:Exit→Act→World→Prop} {rest:List Oper} {sL hP:List (Nat×Ent)} {o:Oper} {p1 p2 p3:PV} (d:Nat) (hC:Gf P c (⟨sL,hP⟩:St) o (· = .tup [p1,p2,p3])) (k:∀v1 v2 v3,vOf p1 v1→vOf p2 v2→vOf p3 v3→aL P c ops Q rest ⟨put d (.tuple [v1,v2,v3].toArray, .tup [p1,p2,p3]) sL,hP⟩) (hsh:shD (.tup [p1,p2,p3])=true:=by exact rfl) (hw:ZT ops sL o=some true:=by exact rfl) (hd:o.dst=some d:=by exact rfl) (hn:d<c.nt:=by exact Xa rfl):aL P c ops Q (o::rest) (⟨sL,hP⟩:St):=
 G4 hw hC fun a w F w' v p' Fr H hR hx hT hlo hdw=>by
  subst hR;have hS:=hT.shD hsh;rw [hd];have hS':Shr (mof c hP F) w' v (.tup [p1,p2,p3]):=hS.anti fun b _ h=> .inl h
  cases hS with
  | tup vs ps hl h=>
    match vs,hl,h,hS' with
    |[v1,v2,v3],_,h,hS'=>exact k v1 v2 v3 (h 0 v1 _ rfl rfl).vOf (h 1 v2 _ rfl rfl).vOf (h 2 v3 _ rfl rfl).vOf _ _ ⟨F,RV H hx hn hS'⟩
open Go.RowKit Go.Cb Go.Proofs Go.Sort
def ZmU (P:Program) (fs:Nat):Prop:=∀(blk cap:Nat) (zs:List Int) (w:World),Go.Sort.Holds (Value.int .i64) w blk 0 zs.toArray→blk<w.heap.size→zs.length<4611686018427387904→
 Calls P fs #[.slice (some ⟨blk,0,none⟩) zs.length cap] w fun e w'=>e= .returned (.tuple #[])∧∃n os,w'=grow (putRow (Value.int .i64) (Go.Sort.ahead w n) blk 0 zs.reverse.toArray) os
section
variable {P:Program} {c:Ctx} {ops:Array Oper} {Q:Exit→Act→World→Prop} {rest:List Oper} {sL hP:List (Nat×Ent)} {o:Oper}
theorem ZlT {fs e d:Nat} {zs:List Int} {h:Value} {q:PV} {x:Operand} {ats:Array TypeId} (l:Nat) (hS:ZmU P fs) (hc:∀args w,(callFunc fs args).run P w= .ok (.enter fs args) w)
 (kk:aL P c ops Q rest ⟨put d (.tuple #[], .val (.tuple #[])) sL,put l (h, .own e 1 zs.length (zs.reverse.map pInt)) hP⟩)
 (hn:0<zs.length) (hn2:zs.length<4611686018427387904:=by omega) (hw:ZT ops sL o=some true:=by exact rfl) (hd:o.dst=some d:=by exact rfl) (hdn:d<c.nt:=by exact Xa rfl) (ho:o.op= .call {callee:= .value (.func fs),args:= #[x],argTypes:=ats}:=by exact rfl) (hx:ev sL x=some (h,q):=by exact rfl) (hl:lk hP l=some (h, .own e 1 zs.length (zs.map pInt)):=by exact rfl):aL P c ops Q (o::rest) (⟨sL,hP⟩:St):=
 Yy hw fun a w F H=>by
  have hxv:=(H.rd.ev hx).1;have hTr:=H.tr l _ _ hl;obtain ⟨xs,Fs,hrow,hlen,hT,hdj,hb,hF⟩:=hTr.row;obtain ⟨blk,cap,hh,hc1,hc2,hc3⟩:=K3 hTr hn;have hblkF:F l blk:=(hF blk).2 (.inl (by rw [hh];rfl));have hxs:∀(j:Nat) (v:Value),xs[j]? =some v→∃z,zs[j]? =some z∧v= .int .i64 z:=fun j v hv=>by
   obtain ⟨p,hp⟩:=Yh hv hlen.symm;have h1:=hp;rw [Xm,XA] at h1;obtain ⟨z,hz,rfl⟩:=h1;exact ⟨z,hz,((hT j v _ hv hp).sh rfl).vOf⟩
  have hHold:Go.Sort.Holds (Value.int .i64) w blk 0 zs.toArray:=fun j hj=>by
   simp only [X8] at hj;have hrow':=hrow;rw [hh] at hrow';obtain ⟨v,hv⟩:=Yi (show j<xs.length by rw [←hlen,Xd];exact hj);obtain ⟨z,hz,rfl⟩:=hxs j v hv;refine ⟨?_,by rw [Xv];exact hrow'.frozenAt j⟩;rw [Xv,Wq hrow' hv];have:zs.toArray[j]! =z:=by
    have hz':=(XM.1 hz).2;simp [hj,hz']
   rw [this]
  have hcall:=hS blk cap zs w hHold hc3 hn2;unfold Oper.wp;have hrun:(execOp a.eval o).run P w= .ok (.enter fs #[h]) w:=by
   have hev:a.eval (.func fs)= .func (.func fs) #[] #[]:=rfl;simp [execOp,ho,resolve,Deferred.ofValue,hev,invoke,hxv,hc]
  rw [hrun,Oper.upon_enter,hh];refine hcall.mono fun e' w' ⟨he',m,os,hw'⟩=>?_;subst he';have hsl:zs.reverse.length=zs.length:=List.length_reverse;generalize hsd:zs.reverse=sd at hsl hw' kk;have hch0:Chg (fun b=>b=blk) w w':=by
   rw [hw'];refine ⟨rfl,rfl,rfl,?_,fun i hi hne=>?_⟩
   · simp [grow,putRow,mapBlock,Go.Sort.ahead]
   · have:(grow (putRow (Value.int .i64) (Go.Sort.ahead w m) blk 0 sd.toArray) os).heap=(w.heap.modify blk (onCells (putCells (Value.int .i64) 0 sd.toArray)))++os:=rfl;rw [this,Vh (by simpa using hi),VG,US (fun e=>hne e.symm)]
  rw [hd];refine kk _ _ ⟨fun l'=>if l'=l then (fun b=>b=blk) else F l',?_⟩;refine H.change (fun l'=>l'=l) hdn (hch0.wid fun b hb'=> .inl ⟨l,_,rfl,hl,by rw [hb'];exact hblkF⟩) (fun l' z hne hz=>?_) (fun l' z b hT' hz hb'=>?_) (fun hmm l' u p hT' hz=>?_) (fun l1 l2 _ _ _ h1 h2 hne=>UU (h1.trans h2.symm) hne) (fun _=> .val _) (fun _=>by rw [hw'];exact Ue _ _)
  · rcases Ya hz with ⟨e1,_⟩|⟨_,e1⟩
    · exact UU e1.symm hne
    · exact ⟨e1,by simp [hne]⟩
  · subst hT';simp only [if_true] at hb';exact .inl ⟨l',_,rfl,hl,by rw [hb'];exact hblkF⟩
  · subst hT';rw [ZW] at hz
    cases hz;simp only [if_true];rcases hrow.2 with ⟨e1,_⟩|⟨g',cap',cur,e1,_,e3,e4,e5,e6,e7⟩
    · rw [hh] at e1;cases e1
    · rw [hh] at e1
      cases e1;have hlt:=Yu e3;refine .own (sd.map (Value.int .i64)) (fun _ _=>False) ⟨by rw [Xd,hsl,Xw], .inr ⟨blk,cap,putCells (Value.int .i64) 0 sd.toArray cur,hh,Xf _,?_,e4,e5,by simp [putCells];omega,?_⟩⟩ sM (fun t v p hv hp=>?_) (fun _ _ _ _ _ _ h=>h.elim) (fun _ _ _ h=>h.elim) (fun b=>by rw [hh];simp [Value.ownBlock,eq_comm])
      · rw [hw'];have:(grow (putRow (Value.int .i64) (Go.Sort.ahead w m) blk 0 sd.toArray) os).heap=(w.heap.modify blk (onCells (putCells (Value.int .i64) 0 sd.toArray)))++os:=rfl;rw [this,Vh (by simpa using hlt),VG,UT rfl,e3];rfl
      · have:=R3 (Value.int .i64) sd.toArray cur (by simp only [X8];rw [hsl,e6];omega);simp only [X8] at this;rw [Xw,←hsl];exact this
      · rw [Xm,XA] at hv hp;obtain ⟨z,hz,rfl⟩:=hv;obtain ⟨z',hz',rfl⟩:=hp;rw [hz] at hz';cases hz';exact .shr (.val _) (fun _ h=>h)
end
section
variable {P:Program} {sL hP:List (Nat×Ent)} {o:Oper}
theorem Re {t:Nat} {z:Value} {zs:List Value} {pl:List (Nat×Nat)} (hT:Ke P t=some (z,pl)) (hzs:z.cells=zs.toArray) (ho:o.op= .build t #[]:=by exact rfl):YE P (⟨sL,hP⟩:St) o (· = .agg zs.toArray) (.agg (zs.map .val)):=
 .exact fun M F a w H=>by
  refine ⟨.agg _ _ sM fun i v q hv hq=>?_,?_⟩
  · rw [Xm,hv] at hq
    cases hq;exact .val _
  have hb:P.built t []=some zs.toArray:=by
   unfold Ke at hT;split at hT
   · rename_i i fs hi hf;split at hT
     · rename_i z' pl hz hpl
       cases hT;unfold Program.built;simp only [hi,hf,hz,hpl,hzs];rfl
     · cases hT
   · cases hT
  have:=run_build (P:=P) w t #[] _ hb;simp [execOp,ho,this]
end
section
variable {P:Program} {c:Ctx} {sL hP:List (Nat×Ent)}
theorem Zjy {fn:Func} {R:PV→Prop} {t ty s r k e k' n:Nat} {h u x:Value} {q p g:PV} {cs:List PV} (l:Nat) (hT:AggT P ty k=true) (hr:fn.results= #[.cell t ty, .tmp s, .tmp r]) (ht:lk sL t=some (padd (sbase h) 0,q)) (hl:lk hP l=some (h, .own e k' n cs)) (hs:lk sL s=some (u,p)) (hx:lk sL r=some (x,g)) (hp:k≤cs.length) (hk:0<k) (hsh:(cs.take k).all isSh=true) (hR:R (.tup [.agg (cs.take k),p,g])) (hN:∀b,¬c.N0 b:=by intro _ h;exact h) (hdf:c.df=[]:=by exact rfl):aR c (bodyPost P fn (GI c R)) (⟨sL,hP⟩:St):=fun a w ⟨F,H⟩=>by
 obtain ⟨V,A,h0,h1,h2⟩:=G8 H hT ht hl hp hk hsh
 obtain ⟨h3,h4⟩:=H.sl s _ _ hs
 obtain ⟨h5,h6⟩:=H.sl r _ _ hx
 have hM:∀b,b<w.heap.size→(c.M0 b∨False)→mof c hP F b:=fun b _ hb=>by
  rcases hb with hb|hb
  · exact .inl hb
  · exact hb.elim
 refine ⟨H.df.trans hdf, .tuple #[V,u,x],?_, .tuple #[V,u,x],_,fun _=>False,rfl,hR,H.ext.ext (fun b _=>hN b), .shr (.tup [V,u,x] _ rfl fun i v q' hv hq'=>?_) (fun _ h=>h),fun _ h=>h.elim,H.dw⟩
 · simp only [results,hr];simp at h0;simp [h0,h1,X0,h3,h5]
 · match i with
   |0=>simp at hv hq';subst hv hq';exact h2.anti hM
   |1=>simp at hv hq';subst hv hq';exact h4.anti hM
   |2=>simp at hv hq';subst hv hq';exact h6.anti hM
   |i+3=>simp at hv
end
section
variable {P:Program} {c:Ctx} {sL hP:List (Nat×Ent)}
theorem ZlU {fn:Func} {R:Value→PV→List (Nat×Ent)→Prop} {t ty k e k' n:Nat} {h:Value} {q:PV} {cs:List PV} (l:Nat) (H':List (Nat×Ent)) (hT:AggT P ty k=true) (hr:fn.results= #[.cell t ty]) (ht:lk sL t=some (padd (sbase h) 0,q)) (hl:lk hP l=some (h, .own e k' n cs)) (hp:k≤cs.length) (hk:0<k) (hsh:(cs.take k).all isSh=true) (hsub:Sub H' hP) (hR:∀V:Value,R V (.agg (cs.take k)) H') (hdf:c.df=[]:=by exact rfl):aR c (bodyPost P fn (CY c R)) (⟨sL,hP⟩:St):=fun a w ⟨F,H⟩=>by
 obtain ⟨V,A,h0,h1,h2⟩:=G8 H hT ht hl hp hk hsh
 have H2:HoldsF c (⟨sL,H'⟩:St) F a w:=H.less (fun _ _ h=>h) fun t x hx=>hsub.lk hx
 have hM:∀b,b<w.heap.size→mof c H' F b→mof c hP F b:=fun b _ hb=>by
  rcases hb with hb|⟨l,x,h1,h2⟩
  · exact .inl hb
  · exact .inr ⟨l,x,hsub.lk h1,h2⟩
 refine ⟨H.df.trans hdf,V,?_,V, .agg (cs.take k),H',F,rfl,hR _,H2.toHeapF,h2.anti hM⟩
 simp only [results,hr]
 simp at h0
 simp [h0,h1]
end
section
variable {P:Program} {st:St} {o:Oper}
theorem R4 {t e k e' k' n a:Nat} {x y:Operand} {h:Value} {p q:PV} {cs:List PV} {kd:IntKind} {i:Int} (l:Nat) (hT:SlT P t e k=true) (ho:o.op= .indexAddr t x y) (hx:ev st.slots x=some (slc h a n k,p)) (hy:ev st.slots y=some (.int kd i,q)) (hl:lk st.heap l=some (h, .own e' k' n cs)) (h0:0≤i) (h1:(a:Int)+i<n) {m:Nat} (hm:m=(a+i.toNat)*k):
 YE P st o (· =padd (sbase h) m) (.val (padd (sbase h) m)):=
 .exact fun M F w' w H=>by
  subst hm;have hv:=(H.ev hx).1;have hi:=(H.ev hy).1;obtain ⟨g,cap,rfl,hc,_⟩:=K3 (H.tr l _ _ hl) oM;refine ⟨.val _,?_⟩;have hca:cap≠a:=oM;simp only [slc,hca,if_false,Uc,Y4,Xv] at hv;simp [execOp,ho,hv,hi,Tm hT h0 (show i<((n-a:Nat):Int) by omega),sbase,padd,VF]
theorem ZeR {t e k e' k' n a:Nat} {x:Operand} {h:Value} {p:PV} {cs:List PV} (l:Nat) (hT:SlT P t e k=true) (ho:o.op= .call {callee:= .builtin .len,args:= #[x],argTypes:= #[t]}) (hx:ev st.slots x=some (slc h a n k,p)) (hl:lk st.heap l=some (h, .own e' k' n cs)) {m:Nat} (hm:m=n-a):YE P st o (· = .int .i64 m) (.val (.int .i64 m)):=
 .exact fun M F w' w H=>by
  subst hm;have hv:=(H.ev hx).1;obtain ⟨xs,Fs,hrow,hlen,_⟩:=(H.tr l _ _ hl).row;rcases YG hrow with ⟨rfl,rfl,_⟩|⟨g,cap,rfl,h1,h2,h3⟩
  · exact ⟨.val _,by simp [execOp,ho,hv,resolve,invoke,builtin,Builtin.len_,run_underlying (SlT.und hT),goInt,slc]⟩
  · exact ⟨.val _,by simp [execOp,ho,hv,resolve,invoke,builtin,Builtin.len_,run_underlying (SlT.und hT),goInt,slc]⟩
end
section
variable {P:Program} {c:Ctx} {Q:Exit→Act→World→Prop} {sL hP:List (Nat×Ent)}
end
section
variable {P:Program} {st:St} {o:Oper} {x y:Operand} {q q':PV} {t t':TypeId}
theorem and_one {a:Nat} (h:a<128):IntKind.wrap .i64 ((BitVec.ofInt 64 (a:Int)&&& BitVec.ofInt 64 1).toNat:Nat)=((a % 2:Nat):Int):=by
 have key:∀a:Fin 128,IntKind.wrap .i64 ((BitVec.ofInt 64 ((a:Nat):Int)&&& BitVec.ofInt 64 1).toNat:Nat)=(((a:Nat) % 2:Nat):Int):=dC
 exact key ⟨a,h⟩
end
section
variable {P:Program}
end
section
variable {P:Program} {c:Ctx} {ops:Array Oper} {Q:Exit→Act→World→Prop} {rest:List Oper} {sL hP:List (Nat×Ent)} {o:Oper}
end
section
variable {P:Program} {ops:Array Oper} {Q:Exit→Act→World→Prop} {Pp:List PanicEntry→World→Prop} {md:Region.Mode} {C:World→Prop} {Z:Nat→Bool}
end
section
variable {P:Program} {c:Ctx} {ops:Array Oper} {Q:Exit→Act→World→Prop} {Pp:List PanicEntry→World→Prop} {Z:Nat→Bool} {K:List Nat} {fuel:Nat} {listed:Array Bool} {sL hP:List (Nat×Ent)} {o:Oper}
end
section
variable {P:Program} {st:St} {o:Oper} {x y:Operand} {q q':PV} {t t':TypeId}
end
section
variable {P:Program} {c:Ctx} {ops:Array Oper} {Q:Exit→Act→World→Prop} {rest:List Oper} {sL hP:List (Nat×Ent)} {o:Oper}
end
section
variable {P:Program} {st:St} {o:Oper} {x y u:Operand} {q q' q2:PV} {t t':TypeId}
end
section
variable {P:Program} {c:Ctx} {ops:Array Oper} {Q:Exit→Act→World→Prop} {rest:List Oper} {sL hP:List (Nat×Ent)}
end
section
variable {P:Program} {sL hP:List (Nat×Ent)} {o:Oper}
end
end Go.En
namespace Go.Proofs.YtgfabnhpllkebaaGreatDoor
open Go.RowKit Go.Cb Go.En Tryz
set_option linter.all false
set_option maxRecDepth 100000
section
variable {α:Type}
def swp (l:List α) (i j:Nat):List α:=match l[i]?,l[j]? with
 |some x,some y=>(l.set i y).set j x
 |_,_=>l
inductive Sw (a b:Nat):List α→List α→Prop
 |refl (l:List α):Sw a b l l
 |step {l m:List α} (i j:Nat) (h:Sw a b l m) (hi:a≤i) (hi':i<b) (hj:a≤j) (hj':j<b) (hb:b≤l.length):Sw a b l (swp m i j)
variable (le:α→α→Prop)
section
variable {le}
end
end
end Go.Proofs.YtgfabnhpllkebaaGreatDoor
namespace Go.En
open Go.RowKit Go.Cb
set_option linter.all false
section
variable {P:Program} {st:St} {o:Oper} {x y:Operand} {t t':TypeId} {q q':PV}
theorem ZgO {a b c:Int} (ho:o.op= .binOp .sub t x y t':=by exact rfl) (hx:ev st.slots x=some (.int .i64 a,q):=by exact rfl) (hy:ev st.slots y=some (.int .i64 b,q'):=by exact rfl) (hc:a-b=c:=by omega) (h1: -9223372036854775808≤c:=by omega) (h2:c≤9223372036854775807:=by omega):YE P st o (· = .int .i64 c) (.val (.int .i64 c)):=by
 subst hc;exact Zlb ho hx hy h1 h2
end
end Go.En
namespace Go.Proofs.YtgfabnhpllkebaaGreatDoor
open Go.RowKit Go.Cb Go.En Tryz
set_option linter.all false
set_option maxRecDepth 100000
end Go.Proofs.YtgfabnhpllkebaaGreatDoor
