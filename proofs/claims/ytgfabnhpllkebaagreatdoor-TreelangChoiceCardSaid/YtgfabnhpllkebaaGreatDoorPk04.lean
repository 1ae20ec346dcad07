/-
  The engine: maps keyed by pairs of numbers. No program in sight.
  The engine: a call that hands back one of a family of pairs. No program in sight.
  The engine: three values are handed back. No program in sight.
  The engine: a row of numbers is turned round by the library. No program in sight.
  The engine: a struct that lies in cells and two values are handed back. No program in sight.
  The engine: a struct is handed back beside what is owned. No program in sight.
  The engine: the end of an owned row as a slice of its own. No program in sight.
  The engine: ways that split meet again behind what splits them; shifts and bits. No program in sight.
  The engine: functions that may panic. No program in sight.
  The engine: regions that draw their order, in which an operation may panic. No program in sight.
  The engine: what builders of strings want: pointers compared and seen as others, strings appended to bytes, strings seen in bytes. No program in sight.
  The engine: strings cut, structs built of structs, values in interfaces. No program in sight.
  Walks: the lexer of the program: letters, digits, lengths, symbols, literals, going on.
  Walks: the lexer of the program: symbols and literals.
  Plain: sorting in place by swaps: insertion, merging by rotations. No program in sight.
  Walks: process trees: the library's stable sort, at trees.
  Walks: process trees: the library's merge in place, at trees.
  Walks: process trees: the library's stable sort, and equal neighbours left out, at trees.
-/
import Derived.Recover
import Derived.Lib.Builder
import Derived.Lib.UnsafeStr
import Derived.Lib.AppendStr
import Derived.Laws.Externs
import Derived.Laws.Slices
import Derived.Test.YtgfabnhpllkebaaGreatDoorPk03
import Derived.Test.YtgfabnhpllkebaaGreatDoorPk01
namespace Go.En
open Go.RowKit Go.Cb
set_option linter.all false
abbrev Pi2:=Int×Int
def Zko (k:Pi2):Value:= .agg #[.int .i64 k.1, .int .i64 k.2]
theorem Zup {a b:Pi2} (h:Zko a=Zko b):a=b:=by
 simp [Zko] at h
 exact Prod.ext h.1 h.2
def Zmm (m:List (Pi2×Value)):List (Value×Value):=m.map fun x=>(Zko x.1,x.2)
def Zrx (k:Pi2):Prop:=(0≤k.1∧k.1≤1000000)∧(0≤k.2∧k.2≤1000000)
structure PiT (P:Program) (t ks s e:Nat) (z:Value):Prop where
 ht:P.underlying t=some (.map ks e)
 hu:P.underlying ks=some (.array 2 s)
 hs:P.underlying s=some (.int .i64)
 hk:P.keyType ks=true
 hk2:P.keyTypeAt 2 ks=true
 hti:P.tiled 2 ks=true
 hc2:P.cellsOf ks=2
 hc1:P.cellsOf s=1
 hf:∀a b:Int,(Value.agg #[.int .i64 a, .int .i64 b]).formed P ks=true
 hsz:∃n,P.types.size=n+1
 hz:ZeroT P e z
theorem PiT.law {P:Program} {t ks s e:Nat} {z:Value} (h:PiT P t ks s e z):WideMaps.KeyLaw P ks:=deep_law (m:=2) (by decide) h.hk2 h.hti (by rw [h.hu])
theorem PiT.key {P:Program} {t ks s e:Nat} {z:Value} (h:PiT P t ks s e z) {k:Pi2} (hk:Zrx k):∃l,keyOf P ks (Zko k)=some l:=by
 obtain ⟨n,hn⟩:=h.hsz
 have hl:∀c:Int,(0≤c∧c≤1000000)→P.keyLits (n+1) s [.int .i64 c]=some [.int .i64 c]:=fun c hc=>by
  unfold Program.keyLits
  rw [h.hs]
  dsimp only
  rw [if_pos ⟨rfl,by simp [Lit.wf,IntKind.min,IntKind.max,IntKind.signed,IntKind.bits];omega⟩]
 unfold keyOf
 rw [h.hu]
 dsimp only
 rw [h.hk,show (Zko k).formed P ks=true from h.hf _ _,hn]
 refine ⟨.string (keyBytes [.int .i64 k.1, .int .i64 k.2]),?_⟩
 rw [if_pos (show (true&&true)=true from rfl)]
 unfold Program.keyLits
 rw [h.hu]
 dsimp only [Zko,Value.cells]
 rw [h.hc2,h.hc1]
 rw [if_pos (by rfl)]
 rw [show List.range 2=[0,1] from rfl]
 simp only [List.mapM_cons,List.mapM_nil,Nat.zero_mul,Nat.one_mul,List.drop_zero,List.drop_succ_cons,List.take_succ_cons,List.take_zero,hl _ hk.1,hl _ hk.2]
 rfl
theorem ZpN {m:List (Pi2×Value)} {k:Pi2} (h:∀x∈m,x.1≠k):Zf7 m k=none:=by
 induction m with
 |nil=>rfl
 | cons x m ih=>
   rw [Zf7,if_neg (fun e=>h x (by simp) e.symm)]
   exact ih fun y hy=>h y (by simp [hy])
theorem ZpO {m:List (Pi2×Value)} (hn:(m.map (·.1)).Nodup) {j:Nat} {k:Pi2} {v:Value} (h:m[j]? =some (k,v)):Zf7 m k=some v:=by
 induction m generalizing j with
 |nil=>simp at h
 | cons x m ih=>
   rw [List.map_cons,List.nodup_cons] at hn
   cases j with
   |zero=>simp at h;subst h;rw [Zf7,if_pos rfl]
   | succ j=>
     rw [List.getElem?_cons_succ] at h
     rw [Zf7,if_neg (fun e=>hn.1 (List.mem_map.2 ⟨_,List.mem_of_getElem? h,e⟩))]
     exact ih hn.2 h
theorem Zxi {es:Array MapEntry} {m:List (Pi2×Value)} (h:kvOf es=Zmm m) {j:Nat} {e:MapEntry} {k:Pi2} (he:es[j]? =some e) (hk:e.key=Zko k):m[j]? =some (k,e.val):=by
 have h1:(kvOf es)[j]? =some (Zko k,e.val):=by
  unfold kvOf
  rw [List.getElem?_map,Array.getElem?_toList,he,←hk];rfl
 rw [h] at h1
 unfold Zmm at h1
 rw [List.getElem?_map,Option.map_eq_some_iff] at h1
 obtain ⟨⟨k',v'⟩,h2,h3⟩:=h1
 obtain ⟨h4,h5⟩:=Prod.mk.inj h3
 dsimp only at h4 h5
 rw [h2,Zup h4,h5]
theorem Zry {es:Array MapEntry} {m:List (Pi2×Value)} (h:kvOf es=Zmm m):∀e∈es.toList,∃x∈m,e.key=Zko x.1:=fun e he=>by
 have h1:(e.key,e.val)∈kvOf es:=List.mem_map.2 ⟨e,he,rfl⟩
 rw [h] at h1
 obtain ⟨x,hx,hxe⟩:=List.mem_map.1 h1
 exact ⟨x,hx,(Prod.mk.inj hxe).1.symm⟩
theorem Zrz {P:Program} {t ks s e:Nat} {z:Value} (hT:PiT P t ks s e z) {es:Array MapEntry} {m:List (Pi2×Value)} (h:kvOf es=Zmm m) (hm:∀x∈m,Zrx x.1) (hn:(m.map (·.1)).Nodup) {k:Pi2} (hk:Zrx k) (w:World):
 (Zf7 m k=none∧(Instr.findKey ks (Zko k) es.toList).run P w= .ok none w)∨∃(j:Nat) (e0:MapEntry),es[j]? =some e0∧e0.key=Zko k∧Zf7 m k=some e0.val∧(Instr.findKey ks (Zko k) es.toList).run P w= .ok (some (j,e0.val)) w:=by
 obtain ⟨l,hl⟩:=hT.key hk
 have hall:∀e∈es.toList,∃l,keyOf P ks e.key=some l:=fun e he=>by
  obtain ⟨x,hx,hxe⟩:=Zry h e he
  rw [hxe];exact hT.key (hm x hx)
 rcases hT.law.find w hl es.toList hall with ⟨h1,h2⟩|⟨j,e0,h1,h2,h3⟩
 · refine .inl ⟨ZpN fun x hx e=>?_,h1⟩
   obtain ⟨i,hi⟩:=List.getElem?_of_mem hx
   have h4:(kvOf es)[i]? =some (Zko x.1,x.2):=by rw [h];unfold Zmm;rw [List.getElem?_map,hi];rfl
   unfold kvOf at h4
   rw [List.getElem?_map,Option.map_eq_some_iff] at h4
   obtain ⟨e0,h5,h6⟩:=h4
   exact h2 e0 (List.mem_of_getElem? h5) (by rw [(Prod.mk.inj h6).1,e])
 · have h4:es[j]? =some e0:=by rw [←Array.getElem?_toList];exact h2
   exact .inr ⟨j,e0,h4,h3,ZpO hn (Zxi h h4 h3),h1⟩
section
variable {P:Program} {c:Ctx} {ops:Array Oper} {Q:Exit→Act→World→Prop} {rest:List Oper} {sL hP:List (Nat×Ent)} {o:Oper}
theorem Zuq {t ks s e:Nat} {z:Value} (hT:PiT P t ks s e z) {b clock:Nat} {es:Array MapEntry} {m:List (Pi2×Value)} (h:kvOf es=Zmm m) (hm:∀x∈m,Zrx x.1) (hn:(m.map (·.1)).Nodup) {k:Pi2} (hk:Zrx k) {w:World} (hb:w.heap[b]? =some (.map es clock)):(Instr.lookup t (.map (some b)) (Zko k) true).run P w= .ok (.tuple [(Zf7 m k).getD z, .bool (Zf7 m k).isSome].toArray) w:=by
 obtain ⟨l,hl⟩:=hT.key hk
 have hck:=fun em=>hT.law.check w em hl
 unfold Instr.lookup
 simp only [Sem.run_bind,run_underlying hT.ht,Result.andThen_ok,getObj,Sem.run,hb,hck]
 rcases Zrz hT h hm hn hk w with ⟨h1,h2⟩|⟨j,e0,h3,h4,h1,h2⟩
 · simp [h1,h2,hck,ZeroT.run hT.hz]
 · simp [h1,h2,hck]
theorem Zur {t ks s e:Nat} {z u:Value} {x y:Operand} {mv:Value} {V:Value} {m:List (Pi2×Value)} {k:Pi2} {b:Bool} {p:PV} (l:Nat) (hT:PiT P t ks s e z) (hm:∀x∈m,Zrx x.1) (hn:(m.map (·.1)).Nodup) (hk:Zrx k) (hu:(Zf7 m k).getD z=u) (hb:(Zf7 m k).isSome=b) (ho:o.op= .lookup t x y true:=by exact rfl) (hx:ev sL x=some (mv,p):=by exact rfl) (hl:lk hP l=some (mv, .omap (Zmm m)):=by exact rfl) (hy:ev sL y=some (V, .agg [.val (.int .i64 k.1), .val (.int .i64 k.2)]):=by exact rfl):YE P (⟨sL,hP⟩:St) o (· = .tuple [u, .bool b].toArray) (.tup [.val u, .val (.bool b)]):= .exact fun M F a w H=>by
 subst hu hb
 have hv:=(H.ev hx).1
 obtain ⟨hkv,hS⟩:=H.ev hy
 have hV:V=Zko k:=Zc5 (us:=[.int .i64 k.1, .int .i64 k.2]) hS
 rw [hV] at hkv
 obtain ⟨b,es,clock,rfl,he,h,_⟩:=(H.tr l _ _ hl).map
 refine ⟨.tup [(Zf7 m k).getD z, .bool (Zf7 m k).isSome] _ rfl fun i x p hx hp=>?_,by simp [execOp,ho,hv,hkv,Zuq hT he.symm hm hn hk h]⟩
 match i with
 |0=>simp at hx hp;subst hx hp;exact .val _
 |1=>simp at hx hp;subst hx hp;exact .val _
 |i+2=>simp at hx
theorem ZrA {t ks s e:Nat} {z:Value} {x y u:Operand} {mv V v:Value} {m:List (Pi2×Value)} {k:Pi2} {p r:PV} (l:Nat) (hT:PiT P t ks s e z) (hm:∀x∈m,Zrx x.1) (hn:(m.map (·.1)).Nodup) (hk:Zrx k) (hno:Zf7 m k=none)
 (kk:aL P c ops Q rest ⟨sL,put l (mv, .omap (Zmm (m++[(k,v)]))) hP⟩) (hw:ζX ops sL o=some true:=by exact rfl) (hd:o.dst=none:=by exact rfl) (ho:o.op= .mapUpdate t x y u∨o.op= .insert t x y u:=by first|exact .inl rfl|exact .inr rfl) (hx:ev sL x=some (mv,p):=by exact rfl) (hl:lk hP l=some (mv, .omap (Zmm m)):=by exact rfl) (hy:ev sL y=some (V, .agg [.val (.int .i64 k.1), .val (.int .i64 k.2)]):=by exact rfl) (hu:ev sL u=some (v,r):=by exact rfl):aL P c ops Q (o::rest) (⟨sL,hP⟩:St):=
 Zas hw fun a w F H=>by
  have hxv:=(H.rd.ev hx).1
  obtain ⟨hyv,hS⟩:=H.rd.ev hy
  have hV:V=Zko k:=Zc5 (us:=[.int .i64 k.1, .int .i64 k.2]) hS
  rw [hV] at hyv
  have huv:=(H.rd.ev hu).1
  obtain ⟨b,es,clock,rfl,he,hb,hFb,hWf⟩:=(H.tr l _ _ hl).mapW
  obtain ⟨lt',hlt'⟩:=hT.key hk
  have hck:=hT.law.check w false hlt'
  have main:∀(es':Array MapEntry) (clock':Nat),WfM es' clock'→kvOf es'=Zmm (m++[(k,v)])→Holds c ⟨sL,put l (.map (some b), .omap (Zmm (m++[(k,v)]))) hP⟩ a {w with heap:=w.heap.setIfInBounds b (.map es' clock')}:=fun es' clock' hW' he'=>by
   have hlt:=ZaT hb
   have hch:Chg (fun x=>x=b) w {w with heap:=w.heap.setIfInBounds b (.map es' clock')}:=⟨rfl,rfl,rfl,by simp,fun i hi hne=>by
    rw [Array.getElem?_setIfInBounds_ne (fun e=>hne e.symm)]⟩
   refine ⟨F,H.change0 (fun l'=>l'=l) (hch.wid fun x hx=> .inl ⟨l,_,rfl,hl,(hFb x).2 hx⟩) (fun l' x hne hx'=>?_) (fun l' x b' hT' hx' hb'=>?_) (fun hmm l' u q hT' hx'=>?_) (fun l1 l2 _ _ _ h1 h2 hne=>absurd (h1.trans h2.symm) hne)⟩
   · rcases Zaa hx' with ⟨e1,_⟩|⟨_,e1⟩
     · exact absurd e1.symm hne
     · exact ⟨e1,rfl⟩
   · subst hT';exact .inl ⟨l',_,rfl,hl,hb'⟩
   · subst hT'
     rw [ζQ] at hx'
     cases hx'
     rw [←he']
     exact .omap b es' clock' (by simp [hlt]) hFb hW'
  unfold Oper.wp
  rcases Zrz hT he.symm hm hn hk w with ⟨h1,h2⟩|⟨j,e0,h3,h4,h1,h2⟩
  · have hkv:kvOf (es.push {key:=Zko k,val:=v,born:=clock})=Zmm (m++[(k,v)]):=by
     unfold Zmm at he ⊢
     rw [List.map_append,he]
     simp [kvOf]
    unfold execOp
    rcases ho with ho|ho
    · simp [ho,hxv,hyv,huv,Instr.mapUpdate,run_underlying hT.ht,getObj,setObj,Sem.run,hb,hck,h2,Oper.upon,hd,Act.put]
      exact kk _ _ (main _ _ (Zjb hWf) hkv)
    · simp [ho,hxv,hyv,huv,Instr.mapUpdate,run_underlying hT.ht,getObj,setObj,Sem.run,hb,hck,h2,Oper.upon,hd,Act.put]
      exact kk _ _ (main _ _ (Zjb hWf) hkv)
  · rw [hno] at h1;cases h1
end
section
variable {P:Program} {sL hP:List (Nat×Ent)} {o:Oper}
theorem ZpP {t:Nat} {x y u:Operand} {V vy vu z z0 z1 z2 z3 z4:Value} {p0 p1 p2 py pu:PV} (hT:Zbj P t=some (z,[(0,3),(3,1),(4,1)])) (hzs:z.cells= #[z0,z1,z2,z3,z4]) (hy1:vy.oneCell'=true) (hu1:vu.oneCell'=true) (ho:o.op= .build t #[(0,x),(1,y),(2,u)]:=by exact rfl) (hx:ev sL x=some (V, .agg [p0,p1,p2]):=by exact rfl) (hy:ev sL y=some (vy,py):=by exact rfl) (hu:ev sL u=some (vu,pu):=by exact rfl):YE P (⟨sL,hP⟩:St) o (fun _=>True) (.agg [p0,p1,p2,py,pu]):=fun M F a w H=>by
 obtain ⟨hx1,hx2⟩:=H.ev hx
 obtain ⟨hy2,hy3⟩:=H.ev hy
 obtain ⟨hu2,hu3⟩:=H.ev hu
 generalize hp:PV.agg [p0,p1,p2]=p at hx2
 cases hx2 with
 | agg vs ps hl hV=>
   cases hp
   match vs,hl,hV with
   | [a0, a1,a2],_,hV=>
     have s0:=hV 0 a0 p0 rfl rfl
     have s1:=hV 1 a1 p1 rfl rfl
     have s2:=hV 2 a2 p2 rfl rfl
     refine ⟨.agg [a0,a1,a2,vy,vu].toArray,trivial, .agg _ _ rfl fun i v q hv hq=>?_,fun N W _ _ _=>?_⟩
     · match i with
       |0=>simp at hv hq;subst hv hq;exact s0
       |1=>simp at hv hq;subst hv hq;exact s1
       |2=>simp at hv hq;subst hv hq;exact s2
       |3=>simp at hv hq;subst hv hq;exact hy3
       |4=>simp at hv hq;subst hv hq;exact hu3
       |i+5=>simp at hv
     · have c1:=ZaY hy1
       have c2:=ZaY hu1
       have hb:P.built t [(0,Value.agg [a0,a1,a2].toArray),(1,vy),(2,vu)]=some [a0,a1,a2,vy,vu].toArray:=by
        unfold Zbj at hT
        split at hT
        · rename_i i fs hi hf
          split at hT
          · rename_i z' pl hz hpl
            cases hT
            unfold Program.built
            simp only [hi,hf,hz,hpl,hzs]
            have h0:(Value.agg #[a0,a1,a2]).cells= #[a0,a1,a2]:=rfl
            simp [Instr.fill,h0,c1,c2,Array.zipIdx]
          · cases hT
        · cases hT
       have:=run_build (P:=P) W t #[(0,Value.agg [a0,a1,a2].toArray),(1,vy),(2,vu)] _ hb
       simp [execOp,ho,hx1,hy2,hu2,this]
 |_=>cases hp
end
theorem cPx {P:Program} {c:Ctx} {ops:Array Oper} {Q:Exit→Act→World→Prop} {rest:List Oper} {sL hP:List (Nat×Ent)} {o:Oper} {ι:Type} {p1 p2:ι→PV} (d:Nat) (hC:Ze3 P c (⟨sL,hP⟩:St) o (fun p=>∃i,p= .tup [p1 i,p2 i])) (k:∀i v1 v2,vOf (p1 i) v1→vOf (p2 i) v2→aL P c ops Q rest ⟨put d (.tuple [v1,v2].toArray, .tup [p1 i,p2 i]) sL,hP⟩) (hsh:∀i,shD (.tup [p1 i,p2 i])=true) (hw:ζX ops sL o=some true:=by exact rfl) (hd:o.dst=some d:=by exact rfl) (hn:d<c.nt:=by exact Nat.le_of_ble_eq_true rfl):aL P c ops Q (o::rest) (⟨sL,hP⟩:St):=
 Ze4 hw hC fun a w F w' v p' Fr H hR hx hT hlo hdw=>by
  obtain ⟨i,rfl⟩:=hR
  have hS:=hT.shD (hsh i)
  rw [hd]
  have hS':Shr (mof c hP F) w' v (.tup [p1 i,p2 i]):=hS.anti fun b _ h=> .inl h
  cases hS with
  | tup vs ps hl h=>
    match vs,hl,h,hS' with
    |[v1,v2],_,h,hS'=>exact k i v1 v2 (h 0 v1 _ rfl rfl).vOf (h 1 v2 _ rfl rfl).vOf _ _ ⟨F,Zkv H hx hn hS'⟩
section
variable {P:Program} {c:Ctx} {sL hP:List (Nat×Ent)}
theorem Zg5 {fn:Func} {R:PV→Prop} {t s r:Nat} {v u x:Value} {p q g:PV} (hr:fn.results= #[.tmp t, .tmp s, .tmp r]) (ht:lk sL t=some (v,p)) (hs:lk sL s=some (u,q)) (hx:lk sL r=some (x,g)) (hR:R (.tup [p,q,g])) (hN:∀b,¬c.N0 b:=by intro _ h;exact h) (hdf:c.df=[]:=by exact rfl):aR c (bodyPost P fn (ZfC c R)) (⟨sL,hP⟩:St):=fun a w ⟨F,H⟩=>by
 obtain ⟨h1,h2⟩:=H.sl t v p ht
 obtain ⟨h3,h4⟩:=H.sl s u q hs
 obtain ⟨h5,h6⟩:=H.sl r x g hx
 have hM:∀b,b<w.heap.size→(c.M0 b∨False)→mof c hP F b:=fun b _ hb=>by
  rcases hb with hb|hb
  · exact .inl hb
  · exact hb.elim
 refine ⟨H.df.trans hdf, .tuple [v,u,x].toArray,?_,_,_,fun _=>False,rfl,hR,H.ext.ext (fun b _=>hN b), .shr (.tup [v,u,x] [p,q,g] rfl fun i x r hx hr=>?_) (fun _ h=>h),fun _ h=>h.elim,H.dw⟩
 · simp [results,hr,Array.getD_eq_getD_getElem?,h1,h3,h5]
 · match i with
   |0=>simp at hx hr;subst hx hr;exact h2.anti hM
   |1=>simp at hx hr;subst hx hr;exact h4.anti hM
   |2=>simp at hx hr;subst hx hr;exact h6.anti hM
   |i+3=>simp at hx
end
theorem Zxj {P:Program} {c:Ctx} {ops:Array Oper} {Q:Exit→Act→World→Prop} {rest:List Oper} {sL hP:List (Nat×Ent)} {o:Oper} {p1 p2 p3:PV} (d:Nat) (hC:Ze3 P c (⟨sL,hP⟩:St) o (· = .tup [p1,p2,p3])) (k:∀v1 v2 v3,vOf p1 v1→vOf p2 v2→vOf p3 v3→aL P c ops Q rest ⟨put d (.tuple [v1,v2,v3].toArray, .tup [p1,p2,p3]) sL,hP⟩) (hsh:shD (.tup [p1,p2,p3])=true:=by exact rfl) (hw:ζX ops sL o=some true:=by exact rfl) (hd:o.dst=some d:=by exact rfl) (hn:d<c.nt:=by exact Nat.le_of_ble_eq_true rfl):aL P c ops Q (o::rest) (⟨sL,hP⟩:St):=
 Ze4 hw hC fun a w F w' v p' Fr H hR hx hT hlo hdw=>by
  subst hR
  have hS:=hT.shD hsh
  rw [hd]
  have hS':Shr (mof c hP F) w' v (.tup [p1,p2,p3]):=hS.anti fun b _ h=> .inl h
  cases hS with
  | tup vs ps hl h=>
    match vs,hl,h,hS' with
    |[v1,v2,v3],_,h,hS'=>exact k v1 v2 v3 (h 0 v1 _ rfl rfl).vOf (h 1 v2 _ rfl rfl).vOf (h 2 v3 _ rfl rfl).vOf _ _ ⟨F,Zkv H hx hn hS'⟩
open Go.RowKit Go.Cb Go.Proofs Go.Sort
def ZBt (P:Program) (fs:Nat):Prop:=∀(blk cap:Nat) (zs:List Int) (w:World),Go.Sort.Holds (Value.int .i64) w blk 0 zs.toArray→blk<w.heap.size→zs.length<4611686018427387904→
 Calls P fs #[.slice (some ⟨blk,0,none⟩) zs.length cap] w fun e w'=>e= .returned (.tuple #[])∧∃n os,w'=grow (putRow (Value.int .i64) (Go.Sort.ahead w n) blk 0 zs.reverse.toArray) os
section
variable {P:Program} {c:Ctx} {ops:Array Oper} {Q:Exit→Act→World→Prop} {rest:List Oper} {sL hP:List (Nat×Ent)} {o:Oper}
theorem ZzA {fs e d:Nat} {zs:List Int} {h:Value} {q:PV} {x:Operand} {ats:Array TypeId} (l:Nat) (hS:ZBt P fs) (hc:∀args w,(callFunc fs args).run P w= .ok (.enter fs args) w)
 (kk:aL P c ops Q rest ⟨put d (.tuple #[], .val (.tuple #[])) sL,put l (h, .own e 1 zs.length (zs.reverse.map pInt)) hP⟩)
 (hn:0<zs.length) (hn2:zs.length<4611686018427387904:=by omega) (hw:ζX ops sL o=some true:=by exact rfl) (hd:o.dst=some d:=by exact rfl) (hdn:d<c.nt:=by exact Nat.le_of_ble_eq_true rfl) (ho:o.op= .call {callee:= .value (.func fs),args:= #[x],argTypes:=ats}:=by exact rfl) (hx:ev sL x=some (h,q):=by exact rfl) (hl:lk hP l=some (h, .own e 1 zs.length (zs.map pInt)):=by exact rfl):aL P c ops Q (o::rest) (⟨sL,hP⟩:St):=
 Zas hw fun a w F H=>by
  have hxv:=(H.rd.ev hx).1
  have hTr:=H.tr l _ _ hl
  obtain ⟨xs,Fs,hrow,hlen,hT,hdj,hb,hF⟩:=hTr.row
  obtain ⟨blk,cap,hh,hc1,hc2,hc3⟩:=Zcr hTr hn
  have hblkF:F l blk:=(hF blk).2 (.inl (by rw [hh];rfl))
  have hxs:∀(j:Nat) (v:Value),xs[j]? =some v→∃z,zs[j]? =some z∧v= .int .i64 z:=fun j v hv=>by
   obtain ⟨p,hp⟩:=ζ7 hv hlen.symm
   have h1:=hp
   rw [List.getElem?_map,Option.map_eq_some_iff] at h1
   obtain ⟨z,hz,rfl⟩:=h1
   exact ⟨z,hz,((hT j v _ hv hp).sh rfl).vOf⟩
  have hHold:Go.Sort.Holds (Value.int .i64) w blk 0 zs.toArray:=fun j hj=>by
   simp only [List.size_toArray] at hj
   have hrow':=hrow
   rw [hh] at hrow'
   obtain ⟨v,hv⟩:=ζZ (show j<xs.length by rw [←hlen,List.length_map];exact hj)
   obtain ⟨z,hz,rfl⟩:=hxs j v hv
   refine ⟨?_,by rw [Nat.zero_add];exact hrow'.frozenAt j⟩
   rw [Nat.zero_add,Za6 hrow' hv]
   have:zs.toArray[j]! =z:=by
    have hz':=(List.getElem?_eq_some_iff.1 hz).2
    simp [hj,hz']
   rw [this]
  have hcall:=hS blk cap zs w hHold hc3 hn2
  unfold Oper.wp
  have hrun:(execOp a.eval o).run P w= .ok (.enter fs #[h]) w:=by
   have hev:a.eval (.func fs)= .func (.func fs) #[] #[]:=rfl
   simp [execOp,ho,resolve,Deferred.ofValue,hev,invoke,hxv,hc]
  rw [hrun,Oper.upon_enter,hh]
  refine hcall.mono fun e' w' ⟨he',m,os,hw'⟩=>?_
  subst he'
  have hsl:zs.reverse.length=zs.length:=List.length_reverse
  generalize hsd:zs.reverse=sd at hsl hw' kk
  have hch0:Chg (fun b=>b=blk) w w':=by
   rw [hw']
   refine ⟨rfl,rfl,rfl,?_,fun i hi hne=>?_⟩
   · simp [grow,putRow,mapBlock,Go.Sort.ahead]
   · have:(grow (putRow (Value.int .i64) (Go.Sort.ahead w m) blk 0 sd.toArray) os).heap=(w.heap.modify blk (onCells (putCells (Value.int .i64) 0 sd.toArray)))++os:=rfl
     rw [this,Array.getElem?_append_left (by simpa using hi),Array.getElem?_modify,if_neg (fun e=>hne e.symm)]
  rw [hd]
  refine kk _ _ ⟨fun l'=>if l'=l then (fun b=>b=blk) else F l',?_⟩
  refine H.change (fun l'=>l'=l) hdn (hch0.wid fun b hb'=> .inl ⟨l,_,rfl,hl,by rw [hb'];exact hblkF⟩) (fun l' z hne hz=>?_) (fun l' z b hT' hz hb'=>?_) (fun hmm l' u p hT' hz=>?_) (fun l1 l2 _ _ _ h1 h2 hne=>absurd (h1.trans h2.symm) hne) (fun _=> .val _) (fun _=>by rw [hw'];exact Nat.le_add_right _ _)
  · rcases Zaa hz with ⟨e1,_⟩|⟨_,e1⟩
    · exact absurd e1.symm hne
    · exact ⟨e1,by simp [hne]⟩
  · subst hT'
    simp only [if_true] at hb'
    exact .inl ⟨l',_,rfl,hl,by rw [hb'];exact hblkF⟩
  · subst hT'
    rw [ζQ] at hz
    cases hz
    simp only [if_true]
    rcases hrow.2 with ⟨e1,_⟩|⟨g',cap',cur,e1,_,e3,e4,e5,e6,e7⟩
    · rw [hh] at e1;cases e1
    · rw [hh] at e1
      cases e1
      have hlt:=ZaT e3
      refine .own (sd.map (Value.int .i64)) (fun _ _=>False) ⟨by rw [List.length_map,hsl,Nat.mul_one], .inr ⟨blk,cap,putCells (Value.int .i64) 0 sd.toArray cur,hh,Nat.zero_le _,?_,e4,e5,by simp [putCells];omega,?_⟩⟩ (by simp) (fun t v p hv hp=>?_) (fun _ _ _ _ _ _ h=>h.elim) (fun _ _ _ h=>h.elim) (fun b=>by rw [hh];simp [Value.ownBlock,eq_comm])
      · rw [hw']
        have:(grow (putRow (Value.int .i64) (Go.Sort.ahead w m) blk 0 sd.toArray) os).heap=(w.heap.modify blk (onCells (putCells (Value.int .i64) 0 sd.toArray)))++os:=rfl
        rw [this,Array.getElem?_append_left (by simpa using hlt),Array.getElem?_modify,if_pos rfl,e3]
        rfl
      · have:=ZgZ (Value.int .i64) sd.toArray cur (by simp only [List.size_toArray];rw [hsl,e6];omega)
        simp only [List.size_toArray] at this
        rw [Nat.mul_one,←hsl];exact this
      · rw [List.getElem?_map,Option.map_eq_some_iff] at hv hp
        obtain ⟨z,hz,rfl⟩:=hv
        obtain ⟨z',hz',rfl⟩:=hp
        rw [hz] at hz';cases hz'
        exact .shr (.val _) (fun _ h=>h)
end
section
variable {P:Program} {sL hP:List (Nat×Ent)} {o:Oper}
theorem Zgr {t:Nat} {z:Value} {zs:List Value} {pl:List (Nat×Nat)} (hT:Zbj P t=some (z,pl)) (hzs:z.cells=zs.toArray) (ho:o.op= .build t #[]:=by exact rfl):YE P (⟨sL,hP⟩:St) o (· = .agg zs.toArray) (.agg (zs.map .val)):=
 .exact fun M F a w H=>by
  refine ⟨.agg _ _ (by simp) fun i v q hv hq=>?_,?_⟩
  · rw [List.getElem?_map,hv] at hq
    cases hq
    exact .val _
  have hb:P.built t []=some zs.toArray:=by
   unfold Zbj at hT
   split at hT
   · rename_i i fs hi hf
     split at hT
     · rename_i z' pl hz hpl
       cases hT
       unfold Program.built
       simp only [hi,hf,hz,hpl,hzs]
       rfl
     · cases hT
   · cases hT
  have:=run_build (P:=P) w t #[] _ hb
  simp [execOp,ho,this]
end
section
variable {P:Program} {c:Ctx} {sL hP:List (Nat×Ent)}
theorem ZrB {fn:Func} {R:PV→Prop} {t ty s r k e k' n:Nat} {h u x:Value} {q p g:PV} {cs:List PV} (l:Nat) (hT:AggT P ty k=true) (hr:fn.results= #[.cell t ty, .tmp s, .tmp r]) (ht:lk sL t=some (padd (sbase h) 0,q)) (hl:lk hP l=some (h, .own e k' n cs)) (hs:lk sL s=some (u,p)) (hx:lk sL r=some (x,g)) (hp:k≤cs.length) (hk:0<k) (hsh:(cs.take k).all isSh=true) (hR:R (.tup [.agg (cs.take k),p,g])) (hN:∀b,¬c.N0 b:=by intro _ h;exact h) (hdf:c.df=[]:=by exact rfl):aR c (bodyPost P fn (ZfC c R)) (⟨sL,hP⟩:St):=fun a w ⟨F,H⟩=>by
 obtain ⟨V,A,h0,h1,h2⟩:=Zej H hT ht hl hp hk hsh
 obtain ⟨h3,h4⟩:=H.sl s _ _ hs
 obtain ⟨h5,h6⟩:=H.sl r _ _ hx
 have hM:∀b,b<w.heap.size→(c.M0 b∨False)→mof c hP F b:=fun b _ hb=>by
  rcases hb with hb|hb
  · exact .inl hb
  · exact hb.elim
 refine ⟨H.df.trans hdf, .tuple #[V,u,x],?_, .tuple #[V,u,x],_,fun _=>False,rfl,hR,H.ext.ext (fun b _=>hN b), .shr (.tup [V,u,x] _ rfl fun i v q' hv hq'=>?_) (fun _ h=>h),fun _ h=>h.elim,H.dw⟩
 · simp only [results,hr]
   simp at h0
   simp [h0,h1,Array.getD_eq_getD_getElem?,h3,h5]
 · match i with
   |0=>simp at hv hq';subst hv hq';exact h2.anti hM
   |1=>simp at hv hq';subst hv hq';exact h4.anti hM
   |2=>simp at hv hq';subst hv hq';exact h6.anti hM
   |i+3=>simp at hv
end
section
variable {P:Program} {c:Ctx} {sL hP:List (Nat×Ent)}
theorem ZzB {fn:Func} {R:Value→PV→List (Nat×Ent)→Prop} {t ty k e k' n:Nat} {h:Value} {q:PV} {cs:List PV} (l:Nat) (H':List (Nat×Ent)) (hT:AggT P ty k=true) (hr:fn.results= #[.cell t ty]) (ht:lk sL t=some (padd (sbase h) 0,q)) (hl:lk hP l=some (h, .own e k' n cs)) (hp:k≤cs.length) (hk:0<k) (hsh:(cs.take k).all isSh=true) (hsub:Sub H' hP) (hR:∀V:Value,R V (.agg (cs.take k)) H') (hdf:c.df=[]:=by exact rfl):aR c (bodyPost P fn (ZtU c R)) (⟨sL,hP⟩:St):=fun a w ⟨F,H⟩=>by
 obtain ⟨V,A,h0,h1,h2⟩:=Zej H hT ht hl hp hk hsh
 have H2:HoldsF c (⟨sL,H'⟩:St) F a w:=H.less (fun _ _ h=>h) fun t x hx=>hsub.lk hx
 have hM:∀b,b<w.heap.size→mof c H' F b→mof c hP F b:=fun b _ hb=>by
  rcases hb with hb|⟨l,x,h1,h2⟩
  · exact .inl hb
  · exact .inr ⟨l,x,hsub.lk h1,h2⟩
 refine ⟨H.df.trans hdf,V,?_,V, .agg (cs.take k),H',F,rfl,hR _,H2.toHeapF,h2.anti hM⟩
 simp only [results,hr]
 simp at h0
 simp [h0,h1]
end
section
variable {P:Program} {st:St} {o:Oper}
theorem Zg6 {t e k e' k' n a:Nat} {x y:Operand} {h:Value} {p q:PV} {cs:List PV} {kd:IntKind} {i:Int} (l:Nat) (hT:SlT P t e k=true) (ho:o.op= .indexAddr t x y) (hx:ev st.slots x=some (slc h a n k,p)) (hy:ev st.slots y=some (.int kd i,q)) (hl:lk st.heap l=some (h, .own e' k' n cs)) (h0:0≤i) (h1:(a:Int)+i<n) {m:Nat} (hm:m=(a+i.toNat)*k):
 YE P st o (· =padd (sbase h) m) (.val (padd (sbase h) m)):=
 .exact fun M F w' w H=>by
  subst hm
  have hv:=(H.ev hx).1
  have hi:=(H.ev hy).1
  obtain ⟨g,cap,rfl,hc,_⟩:=Zcr (H.tr l _ _ hl) (by omega)
  refine ⟨.val _,?_⟩
  have hca:cap≠a:=by omega
  simp only [slc,hca,if_false,Option.map_some,Zav,Nat.zero_add] at hv
  simp [execOp,ho,hv,hi,ZeP hT h0 (show i<((n-a:Nat):Int) by omega),sbase,padd,Nat.add_mul]
theorem ZrC {t e k e' k' n a:Nat} {x:Operand} {h:Value} {p:PV} {cs:List PV} (l:Nat) (hT:SlT P t e k=true) (ho:o.op= .call {callee:= .builtin .len,args:= #[x],argTypes:= #[t]}) (hx:ev st.slots x=some (slc h a n k,p)) (hl:lk st.heap l=some (h, .own e' k' n cs)) {m:Nat} (hm:m=n-a):YE P st o (· = .int .i64 m) (.val (.int .i64 m)):=
 .exact fun M F w' w H=>by
  subst hm
  have hv:=(H.ev hx).1
  obtain ⟨xs,Fs,hrow,hlen,_⟩:=(H.tr l _ _ hl).row
  rcases Zau hrow with ⟨rfl,rfl,_⟩|⟨g,cap,rfl,h1,h2,h3⟩
  · exact ⟨.val _,by simp [execOp,ho,hv,resolve,invoke,builtin,Builtin.len_,run_underlying (SlT.und hT),goInt,slc]⟩
  · exact ⟨.val _,by simp [execOp,ho,hv,resolve,invoke,builtin,Builtin.len_,run_underlying (SlT.und hT),goInt,slc]⟩
end
section
variable {P:Program} {c:Ctx} {Q:Exit→Act→World→Prop} {sL hP:List (Nat×Ent)}
end
section
variable {P:Program} {st:St} {o:Oper} {x y:Operand} {q q':PV} {t t':TypeId}
theorem and_one {a:Nat} (h:a<128):IntKind.wrap .i64 ((BitVec.ofInt 64 (a:Int)&&& BitVec.ofInt 64 1).toNat:Nat)=((a % 2:Nat):Int):=by
 have key:∀a:Fin 128,IntKind.wrap .i64 ((BitVec.ofInt 64 ((a:Nat):Int)&&& BitVec.ofInt 64 1).toNat:Nat)=(((a:Nat) % 2:Nat):Int):=by decide
 exact key ⟨a,h⟩
end
def ZAm (c:Ctx) (R:Value→PV→List (Nat×Ent)→Prop) (Rp:List PanicEntry→List (Nat×Ent)→Prop) (e:Ending) (w':World):Prop:=
 ZtU c R e w'∨∃ch h F,e= .panicked ch∧Rp ch h∧HeapF c h F w'
def AFp (dd:Prop) (P:Program) (f:FuncId) (ar h:List (Nat×Ent)) (R:Value→PV→List (Nat×Ent)→Prop) (Rp:List PanicEntry→List (Nat×Ent)→Prop):Prop:=
 ∀(M N:BS) (w:World) (F:Nat→BS),HeapF ⟨w,M,N,0,dd,[]⟩ h F w→(∀i x,lk ar i=some x→Shr (mof ⟨w,M,N,0,dd,[]⟩ h F) w x.1 x.2)→Calls P f (ar.map (·.2.1)).toArray w (ZAm ⟨w,M,N,0,dd,[]⟩ R Rp)
def aP (c:Ctx) (Q:Exit→Act→World→Prop) (ch:List PanicEntry) (st:St):Prop:=∀a w F,HoldsF c st F a w→Q (.panic ch) a w
section
variable {P:Program}
theorem AFp.of_body {dd:Prop} {f:FuncId} {fn:Func} {code:Code} {ar h:List (Nat×Ent)} {R:Value→PV→List (Nat×Ent)→Prop} {Rp:List PanicEntry→List (Nat×Ent)→Prop} (nt:Nat) (hf:P.funcs[f]? =some fn) (hb:fn.body=some code) (hnt:fn.ntmps=nt) (hn:ar.length≤nt) (ho:ZcP 0 ar=true)
 (H:∀(w0:World) (M0 N0:BS),aC P ⟨w0,M0,N0,nt,dd,[]⟩ code (bodyPost P fn (ZAm ⟨w0,M0,N0,nt,dd,[]⟩ R Rp)) ⟨ar,h⟩):AFp dd P f ar h R Rp:=fun M N w F HF hv=>by
 subst hnt
 refine calls_of_wp hf hb ?_
 refine wp_mono (H w M N _ w ⟨F,⟨HF.nt rfl rfl rfl id HF.m0,fun t v p ht=>?_,?_,rfl⟩⟩) fun e a w' hq=>?_
 · obtain ⟨_,h1⟩:=ZfI ar 0 t (v,p) ho ht
   refine ⟨?_,hv t (v,p) ht⟩
   simp only [Nat.sub_zero] at h1
   have:=ζe h1
   rw [Array.getElem?_append_left (by simpa using this)]
   simpa using h1
 · simp;omega
 · have key:∀e w',ZAm ⟨w,M,N,fn.ntmps,dd,[]⟩ R Rp e w'→ZAm ⟨w,M,N,0,dd,[]⟩ R Rp e w':=fun _ _ h=>by
    rcases h with ⟨v',p,h',F',h3,h4,h5,h6⟩|⟨ch,h',F',h3,h4,h5⟩
    · exact .inl ⟨v',p,h',F',h3,h4,h5.nt rfl rfl rfl id h5.m0,h6⟩
    · exact .inr ⟨ch,h',F',h3,h4,h5.nt rfl rfl rfl id h5.m0⟩
   cases e with
   |ret=>obtain ⟨h1,v,h2,h3⟩:=hq;exact ⟨h1,v,h2,key _ _ h3⟩
   |normal=>obtain ⟨h1,v,h2,h3⟩:=hq;exact ⟨h1,v,h2,key _ _ h3⟩
   |panic ch=>obtain ⟨h1,h3⟩:=hq;exact ⟨h1,key _ _ h3⟩
   |outgrown=>exact key _ _ hq
   |_=>exact hq.elim
theorem AFp.imp {dd:Prop} {f:FuncId} {ar h:List (Nat×Ent)} {R R':Value→PV→List (Nat×Ent)→Prop} {Rp Rp':List PanicEntry→List (Nat×Ent)→Prop} (H:AFp dd P f ar h R Rp) (h1:∀v p h,R v p h→R' v p h) (h2:∀ch h,Rp ch h→Rp' ch h):AFp dd P f ar h R' Rp':=fun M N w F HF hv=>(H M N w F HF hv).mono fun _ _ h=>by
 rcases h with ⟨v',p,h',F',h3,h4,h5,h6⟩|⟨ch,h',F',h3,h4,h5⟩
 · exact .inl ⟨v',p,h',F',h3,h1 _ _ _ h4,h5,h6⟩
 · exact .inr ⟨ch,h',F',h3,h2 _ _ h4,h5⟩
end
section
variable {P:Program} {c:Ctx} {ops:Array Oper} {Q:Exit→Act→World→Prop} {rest:List Oper} {sL hP:List (Nat×Ent)} {o:Oper}
theorem aP.less {ch:List PanicEntry} {st st':St} (h:aP c Q ch st') (hs:Sub st'.slots st.slots) (hh:Sub st'.heap st.heap):aP c Q ch st:=fun a w F H=>h a w F (H.less (fun t x hx=>hs.lk hx) fun t x hx=>hh.lk hx)
end
section
variable {P:Program} {ops:Array Oper} {Q:Exit→Act→World→Prop} {Pp:List PanicEntry→World→Prop} {md:Region.Mode} {C:World→Prop} {Z:Nat→Bool}
end
section
variable {P:Program} {c:Ctx} {ops:Array Oper} {Q:Exit→Act→World→Prop} {Pp:List PanicEntry→World→Prop} {Z:Nat→Bool} {K:List Nat} {fuel:Nat} {listed:Array Bool} {sL hP:List (Nat×Ent)} {o:Oper}
end
def ZAn (b:Nat):Value:= .slice (some ⟨b,0,none⟩) 1 1
section
variable {P:Program} {st:St} {o:Oper} {x y:Operand} {q q':PV} {t t':TypeId}
end
section
variable {P:Program} {c:Ctx} {ops:Array Oper} {Q:Exit→Act→World→Prop} {rest:List Oper} {sL hP:List (Nat×Ent)} {o:Oper}
end
section
variable {P:Program} {st:St} {o:Oper} {x y u:Operand} {q q' q2:PV} {t t':TypeId}
end
section
variable {P:Program} {c:Ctx} {ops:Array Oper} {Q:Exit→Act→World→Prop} {rest:List Oper} {sL hP:List (Nat×Ent)}
end
def Zg7:PV→List PV
 | .agg ps=>ps
 |p=>[p]
def spl {α:Type}:List α→Nat→List α→List α
 |cs,_,[]=>cs
 |cs,o,x::xs=>spl (cs.set o x) (o+1) xs
def ZtV {α:Type} (offs:List (Nat×Nat)):List α→List (Nat×List α)→List α
 |cs,[]=>cs
 |cs,(i,xs)::r=>ZtV offs (spl cs (offs.getD i (0,0)).1 xs) r
theorem Zek {α:Type}:∀(xs cs:List α) (o:Nat),(spl cs o xs).length=cs.length
 |[],_,_=>rfl
 |x::xs,cs,o=>by rw [spl,Zek xs,List.length_set]
def ZAo:PV→Bool
 | .agg _=>true
 |_=>false
def okP (offs:List (Nat×Nat)) (n:Nat) (e:Nat×Ent):Bool:=match offs[e.1]? with
 |some (o,k)=>decide ((Zg7 e.2.2).length=k)&&decide (o+k≤n)&&(one e.2.2||ZAo e.2.2)
 |none=>false
theorem Zog (off:Nat):∀(xs:List Value) (k:Nat) (cs:Array Value),((xs.zipIdx k).foldl (fun cs (c,j)=>cs.setIfInBounds (off+j) c) cs).toList=spl cs.toList (off+k) xs
 |[],_,_=>rfl
 | x::xs,k,cs=>by
   rw [List.zipIdx_cons,List.foldl_cons,Zog off xs (k+1),spl,Array.toList_setIfInBounds]
   rfl
theorem Zwl (offs:List (Nat×Nat)):∀(ps:List (Nat×Value)) (cs:List Value),(∀x∈ps,∃o,offs[x.1]? =some (o,x.2.cells.size)∧o+x.2.cells.size≤cs.length)→Instr.fill (offs.toArray[·]?) cs.toArray ps=some (ZtV offs cs (ps.map fun x=>(x.1,x.2.cells.toList))).toArray
 |[],cs,_=>rfl
 | (i,v)::ps,cs,h=>by
   obtain ⟨o,h1,h2⟩:=h (i,v) (by simp)
   have hpl:offs.toArray[i]? =some (o,v.cells.size):=by simpa using h1
   have hc:¬(v.cells.size≠v.cells.size||decide (o+v.cells.size>cs.toArray.size))=true:=by simp at h2 ⊢;omega
   simp only [Instr.fill,hpl,hc,if_false]
   have e:(v.cells.zipIdx.foldl (fun cs (c,j)=>cs.setIfInBounds (o+j) c) cs.toArray)=(spl cs o v.cells.toList).toArray:=by
    apply Array.toList_inj.1
    have:=Zog o v.cells.toList 0 cs.toArray
    rw [←Array.foldl_toList,Array.toList_zipIdx]
    exact this
   rw [e]
   have hg:offs.getD i (0,0)=(o,v.cells.size):=by rw [List.getD_eq_getElem?_getD,h1];rfl
   have:=Zwl offs ps (spl cs o v.cells.toList) fun x hx=>by rw [Zek];exact h x (by simp [hx])
   rw [this,List.map_cons,ZtV,hg]
   rfl
theorem ZrD (M:BS) (w:World):∀(us:List Value) (qs:List PV) (vs:List Value) (ps:List PV) (o:Nat),us.length=qs.length→(∀(i:Nat) (x:Value) (q:PV),us[i]? =some x→qs[i]? =some q→Shr M w x q)→vs.length=ps.length→(∀(i:Nat) (x:Value) (q:PV),vs[i]? =some x→ps[i]? =some q→Shr M w x q)→
 ∀(i:Nat) (x:Value) (q:PV),(spl vs o us)[i]? =some x→(spl ps o qs)[i]? =some q→Shr M w x q
 |[],[],vs,ps,o,_,_,_,h=>h
 |[],_::_,_,_,_,h,_,_,_=>by simp at h
 |_::_,[],_,_,_,h,_,_,_=>by simp at h
 | a ::us,b::qs,vs,ps,o,hl,hu,hl2,h=>by
   rw [spl,spl]
   refine ZrD M w us qs _ _ _ (by simpa using hl) (fun i x q hx hq=>hu (i+1) x q (by simpa using hx) (by simpa using hq)) (by simpa using hl2) fun i x q hx hq=>?_
   by_cases hij:o=i
   · subst hij
     have h1:o<vs.length:=by have:=ζe hx;simpa using this
     rw [List.getElem?_set_self h1] at hx
     rw [List.getElem?_set_self (by omega)] at hq
     cases hx;cases hq
     exact hu 0 a b rfl rfl
   · rw [List.getElem?_set_ne hij] at hx hq
     exact h i x q hx hq
theorem ZkP {M:BS} {w:World} {v:Value} {p:PV} (h:Shr M w v p) (hp:(one p||ZAo p)=true):v.cells.toList.length=(Zg7 p).length∧∀(i:Nat) (x:Value) (q:PV),v.cells.toList[i]? =some x→(Zg7 p)[i]? =some q→Shr M w x q:=by
 by_cases h1:one p=true
 · have hv:=h.one h1
   have hc:v.cells.toList=[v]:=by rw [ZaY hv]
   have hpc:Zg7 p=[p]:=by cases p<;>first|rfl|cases h1
   rw [hc,hpc]
   refine ⟨rfl,fun i x q hx hq=>?_⟩
   match i with
   |0=>cases hx;cases hq;exact h
   |i+1=>simp at hx
 · rw [Bool.or_eq_true] at hp
   have hp:=hp.resolve_left h1
   cases h with
   |agg us ps hl hV=>exact ⟨hl,hV⟩
   |_=>cases hp
theorem Zoh (M:BS) (w:World) (offs:List (Nat×Nat)):∀(es:List (Nat×Ent)) (vs:List Value) (ps:List PV),vs.length=ps.length→(∀(i:Nat) (x:Value) (q:PV),vs[i]? =some x→ps[i]? =some q→Shr M w x q)→(∀x∈es,Shr M w x.2.1 x.2.2∧(one x.2.2||ZAo x.2.2)=true)→
 (ZtV offs vs (es.map fun x=>(x.1,x.2.1.cells.toList))).length=(ZtV offs ps (es.map fun x=>(x.1,Zg7 x.2.2))).length∧∀(i:Nat) (x:Value) (q:PV),(ZtV offs vs (es.map fun x=>(x.1,x.2.1.cells.toList)))[i]? =some x→(ZtV offs ps (es.map fun x=>(x.1,Zg7 x.2.2)))[i]? =some q→Shr M w x q
 |[],vs,ps,hl,h,_=>⟨hl,h⟩
 | (j,v,p)::es,vs,ps,hl,h,he=>by
   obtain ⟨h1,h2⟩:=he (j,v,p) (by simp)
   obtain ⟨h3,h4⟩:=ZkP h1 h2
   exact Zoh M w offs es _ _ (by rw [Zek,Zek];exact hl) (ZrD M w _ _ _ _ _ h3 h4 hl h) fun x hx=>he x (by simp [hx])
section
variable {P:Program} {sL hP:List (Nat×Ent)} {o:Oper}
theorem ZAp {t:Nat} {parts:Array (Nat×Operand)} {z:Value} {offs:List (Nat×Nat)} {zs:List Value} {es:List (Nat×Ent)} (hT:Zbj P t=some (z,offs)) (hzs:z.cells=zs.toArray:=by exact rfl) (ho:o.op= .build t parts:=by exact rfl) (hx:evP sL parts.toList=some es:=by exact rfl) (hok:es.all (okP offs zs.length)=true:=by exact rfl):YE P (⟨sL,hP⟩:St) o (fun _=>True) (.agg (ZtV offs (zs.map .val) (es.map fun x=>(x.1,Zg7 x.2.2)))):=fun M F a w H=>by
 obtain ⟨h2,h3⟩:=Zi8 H hx
 have hok':∀x∈es,okP offs zs.length x=true:=fun x hx=>List.all_eq_true.1 hok x hx
 have hag:∀x∈es,(one x.2.2||ZAo x.2.2)=true:=fun x hx=>by
  have:=hok' x hx
  unfold okP at this
  split at this
  · simp only [Bool.and_eq_true] at this;exact this.2
  · cases this
 obtain ⟨h4,h5⟩:=Zoh M w offs es zs (zs.map .val) (by simp) (fun i x q hx hq=>by
  rw [List.getElem?_map,hx] at hq
  simp at hq
  subst hq
  exact .val _) fun x hx=>⟨h3 x hx,hag x hx⟩
 refine ⟨.agg (ZtV offs zs (es.map fun x=>(x.1,x.2.1.cells.toList))).toArray,trivial, .agg _ _ h4 h5,fun N W _ _ _=>?_⟩
 have hb :P.built t ((parts.map fun (i,x)=>(i,a.eval x)).toList)=some (ZtV offs zs (es.map fun x=>(x.1,x.2.1.cells.toList))).toArray:=by
  have hpe:(parts.map fun (i,x)=>(i,a.eval x)).toList=es.map fun x=>(x.1,x.2.1):=by rw [Array.toList_map,←h2]
  rw [hpe]
  unfold Zbj at hT
  split at hT
  · rename_i i fs hi hf
    split at hT
    · rename_i z' pl hz hpl
      cases hT
      unfold Program.built
      simp only [hi,hf,hz,hpl,hzs]
      have:=Zwl offs (es.map fun x=>(x.1,x.2.1)) zs fun x hx=>by
       rw [List.mem_map] at hx
       obtain ⟨y,hy,rfl⟩:=hx
       have h6:=hok' y hy
       have h7:=(ZkP (h3 y hy) (hag y hy)).1
       unfold okP at h6
       split at h6
       · rename_i o k hok
         simp only [Bool.and_eq_true,decide_eq_true_eq] at h6
         have h8:y.2.1.cells.size=k:=by rw [←h6.1.1,←h7,Array.length_toList]
         exact ⟨o,by rw [h8];exact hok,by rw [h8];exact h6.1.2⟩
       · cases h6
      rw [this,List.map_map]
      rfl
    · cases hT
  · cases hT
 have:=run_build (P:=P) W t (parts.map fun (i,x)=>(i,a.eval x)) _ hb
 simp only [execOp,ho]
 simp [this]
end
end Go.En
namespace Go.Proofs.YtgfabnhpllkebaaGreatDoor
open Go.RowKit Go.Cb Go.En
set_option linter.all false
set_option maxRecDepth 100000
section
variable {α:Type}
def swp (l:List α) (i j:Nat):List α:=match l[i]?,l[j]? with
 |some x,some y=>(l.set i y).set j x
 |_,_=>l
theorem Zxk (l:List α) (i j:Nat):(swp l i j).length=l.length:=by unfold swp;split<;>simp
inductive Sw (a b:Nat):List α→List α→Prop
 |refl (l:List α):Sw a b l l
 |step {l m:List α} (i j:Nat) (h:Sw a b l m) (hi:a≤i) (hi':i<b) (hj:a≤j) (hj':j<b) (hb:b≤l.length):Sw a b l (swp m i j)
theorem Sw.len {a b:Nat} {l m:List α} (h:Sw a b l m):m.length=l.length:=by
 induction h with
 |refl=>rfl
 |step i j h _ _ _ _ _ ih=>rw [Zxk,ih]
theorem Sw.mono {a b a' b':Nat} {l m:List α} (h:Sw a b l m) (ha:a'≤a) (hb:b≤b') (hl:b'≤l.length):Sw a' b' l m:=by
 induction h with
 |refl=>exact .refl _
 |step i j h hi hi' hj hj' hb' ih=>exact .step i j ih (by omega) (by omega) (by omega) (by omega) hl
theorem Sw.trans {a b:Nat} {l m n:List α} (h:Sw a b l m) (h':Sw a b m n):Sw a b l n:=by
 induction h' with
 |refl=>exact h
 |step i j h2 hi hi' hj hj' hb ih=>exact .step i j ih hi hi' hj hj' (by rw [←h.len];exact hb)
theorem Sw.one {a b i j:Nat} {l:List α} (hi:a≤i) (hi':i<b) (hj:a≤j) (hj':j<b) (hb:b≤l.length):Sw a b l (swp l i j):= .step i j (.refl l) hi hi' hj hj' hb
variable (le:α→α→Prop)
def SrtS (a b:Nat) (l:List α):Prop:=∀i j x y,a≤i→i<j→j<b→l[i]? =some x→l[j]? =some y→le x y
theorem SrtS.sub {a b a' b':Nat} {l:List α} (h:SrtS le a b l) (ha:a≤a') (hb:b'≤b):SrtS le a' b' l:=fun i j x y h1 h2 h3=>h i j x y (by omega) h2 (by omega)
theorem SrtS.ext {a b:Nat} {l m:List α} (h:SrtS le a b l) (he:∀k,a≤k→k<b→m[k]? =l[k]?):SrtS le a b m:=fun i j x y h1 h2 h3 hx hy=>h i j x y h1 h2 h3 (by rw [←he i (by omega) (by omega)];exact hx) (by rw [←he j (by omega) (by omega)];exact hy)
section
variable {le}
end
end
end Go.Proofs.YtgfabnhpllkebaaGreatDoor
namespace Go.En
open Go.RowKit Go.Cb
set_option linter.all false
section
variable {P:Program} {st:St} {o:Oper} {x y:Operand} {t t':TypeId} {q q':PV}
end
end Go.En
namespace Go.Proofs.YtgfabnhpllkebaaGreatDoor
open Go.RowKit Go.Cb Go.En
set_option linter.all false
set_option maxRecDepth 100000
end Go.Proofs.YtgfabnhpllkebaaGreatDoor
