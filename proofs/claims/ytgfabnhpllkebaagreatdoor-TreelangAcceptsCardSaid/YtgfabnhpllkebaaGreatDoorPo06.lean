/-
  Walks of functions and plain laws of the chapter, as the claim needs them.
-/
import Derived.Recover
import Derived.WalkKit
import Derived.ProofKit
import Derived.OpenShut
import Derived.ShutString
import Derived.ChangeOld
import Derived.Below
import Derived.Carry
import Derived.Deep.Slices
import Derived.Sort.EncStr
import Derived.Test.YtgfabnhpllkebaaGreatDoorPo05
import Derived.Test.YtgfabnhpllkebaaGreatDoorPo02
import Derived.Test.YtgfabnhpllkebaaGreatDoorPo03
import Derived.Test.YtgfabnhpllkebaaGreatDoorMShelfU
import Derived.Test.YtgfabnhpllkebaaGreatDoorMShelfW
import Derived.Test.YtgfabnhpllkebaaGreatDoorPo04
import Derived.Test.YtgfabnhpllkebaaGreatDoorMShelfC
import Derived.Test.YtgfabnhpllkebaaGreatDoorPo01
namespace Go.Proofs.YtgfabnhpllkebaaGreatDoor
open Go.RowKit Go.Cb Go.En Tryz
set_option linter.all false
set_option maxRecDepth 100000
end Go.Proofs.YtgfabnhpllkebaaGreatDoor
namespace Go.En
open Go.RowKit Go.Cb
set_option linter.all false
section
variable {P:Program} {c:Ctx} {ops:Array Oper} {Q:Exit→Act→World→Prop} {rest:List Oper} {sL hP:List (Nat×Ent)} {o:Oper}
end
section
variable {P:Program}
end
section
variable {P:Program} {c:Ctx} {sL hP:List (Nat×Ent)}
end
section
variable {P:Program} {c:Ctx} {sL hP:List (Nat×Ent)}
end
section
variable {P:Program} {c:Ctx} {ops:Array Oper} {Q:Exit→Act→World→Prop} {rest:List Oper} {sL hP:List (Nat×Ent)} {o:Oper}
end
end Go.En
namespace Go.Proofs.YtgfabnhpllkebaaGreatDoor
open Go.RowKit Go.Cb Go.En Tryz
set_option linter.all false
set_option maxRecDepth 100000
def z3:List PV:=[.val (.int .i64 0), .val (.string ByteArray.empty), .val (.slice none 0 0)]
end Go.Proofs.YtgfabnhpllkebaaGreatDoor
namespace Go.En
open Go.RowKit Go.Cb Go.WideShapes Go.ChangeShapes Go.ChangeAt Go.Deep
set_option linter.all false
theorem G2 {H:Type} (P:Program) (e:TypeId) {d:DataW H} {n:Nat}:∀{l:List (DataW H)},d∈l→n∈d.weights P e→n∈DataW.weightsAll P e l
 | x::l,h,hn=>by
   rw [DataW.weightsAll,Xp];rcases Xs.1 h with rfl|h
   · exact .inl hn
   · exact .inr (G2 P e h hn)
theorem WX {H:Type} (P:Program) {d:DataW H} {t:TypeId} {n:Nat}:∀{ts:List TypeId} {l:List (DataW H)} (i:Nat),ts[i]? =some t→l[i]? =some d→n∈d.weights P t→n∈DataW.weightsEach P ts l
 | t'::ts,x::l,0,h1,h2,hn=>by
   simp at h1 h2;subst h1 h2;rw [DataW.weightsEach,Xp];exact .inl hn
 | t'::ts,x::l,i+1,h1,h2,hn=>by
   rw [DataW.weightsEach,Xp];exact .inr (WX P i (by simpa using h1) (by simpa using h2) hn)
structure Dec (P:Program) (t:TypeId) (k:Nat) {α:Type} (enc:α→List PV) (fit:α→Prop):Prop where
 size:P.cellsOf t=k
 len:∀a,(enc a).length=k
 dec:∀{H:Type} (e:TypeId×Value→H) (w:World) (spare:Nat→Bool) (held:Bool) (fuel:Nat) (cs:List Value) (x:DataW H×List MemPlace),DataW.trod e P w 0 spare held fuel t cs=some x→(∀n∈x.1.weights P t,n≤reachBytes)→
  ∃a,fit a∧cs.length=k∧∀(i:Nat) (v:Value) (p:PV),cs[i]? =some v→(enc a)[i]? =some p→Shr (fun _=>False) w v p
section
variable {P:Program} {t:TypeId}
theorem So {v u:Value} {p q:PV} {w:World} (h:Shr (fun _=>False) w v p) (i:Nat) (h1:[v][i]? =some u) (h2:[p][i]? =some q):Shr (fun _=>False) w u q:=by
 cases i with
 |zero=>simp at h1 h2;subst h1 h2;exact h
 |succ i=>simp at h1
theorem ZlV (ht:P.underlying t=some (.int .i64)) (hs:P.cellsOf t=1):Dec P t 1 (fun n:Int=>[pInt n]) (fun n=> -9223372036854775808≤n∧n≤9223372036854775807) where
 size:=hs
 len:=fun _=>rfl
 dec:=fun e w spare held fuel cs x h=>by
  intro hwt;obtain ⟨n,rfl,_,hw⟩:=DataW.trod_int ht h;refine ⟨n,?_,rfl,fun i v p h1 h2=>So (.val _) i h1 h2⟩;simpa [Lit.wf,IntKind.min,IntKind.max,IntKind.signed,IntKind.bits] using hw
theorem ZfS (ht:P.underlying t=some .string) (hs:P.cellsOf t=1):Dec P t 1 (fun s:ByteArray=>[Yl s]) (fun s=>s.size≤140737488355328) where
 size:=hs
 len:=fun _=>rfl
 dec:=fun e w spare held fuel cs x h=>by
  intro hwt;obtain ⟨s,rfl,rfl,hw⟩:=DataW.trod_string ht h;have hsz:s.size≤reachBytes:=hwt s.size (by show s.size∈DataW.weights P t (.lit (.string s.data.toList));rw [DataW.weights];exact Xi.2 (by rw [VH];rfl));exact ⟨s,by unfold reachBytes at hsz;omega,rfl,fun i v p h1 h2=>So (.val _) i h1 h2⟩
theorem Zhb {α:Type} {e k:Nat} {enc:α→List PV} {fit:α→Prop} (ht:P.underlying t=some (.slice e)) (hs:P.cellsOf t=1) (hk:0<k) (hby:0<P.bytesOf e) (D:Dec P e k enc fit):
 Dec P t 1 (fun l:List α=>[PV.sl l.length (l.flatMap enc)]) (fun l=>l.length≤140737488355328∧∀x∈l,fit x) where
 size:=hs
 len:=fun _=>rfl
 dec := fun en w spare held fuel cs x h=>by
  intro hwt;rcases open_slice ht h with ⟨rfl,_⟩|⟨a,len,cap,m,n,Dt,Pl,rfl,_,hl,hm,hmm,rfl,hx⟩
  · exact ⟨[],⟨sM,sM⟩,rfl,fun i v p h1 h2=>So (.emp none 0 (by unfold maxLen;omega) (fun _=>rfl)) i h1 h2⟩
  · rcases X7 len with h0|h0
    · subst h0;exact ⟨[],⟨sM,sM⟩,rfl,fun i v p h1 h2=>So (.emp (some a) cap hm (fun h=>by cases h)) i h1 h2⟩
    (have hlm:len≤m:=by rw [hmm];split<;>omega);simp only [DataW.weights,ht] at hwt;have hlen:len≤reachBytes:=by
     have:=hwt _ (Xm ..);simp only [Xe,Ul] at this;exact XL (XL (Uf len _) (Nat.le_mul_of_pos_right _ hby)) this
    have hwi:∀i,i<len→∀n∈(Dt i).weights P e,n≤reachBytes:=fun i hi n hn=>hwt n (Xn _ (Xp.2 (.inl (G2 P e (Xk.2 ⟨i,by simpa using hi,rfl⟩) hn))));have key:∀i:Nat,∃(y:α×(Nat→Value)),i<len→fit y.1∧∀(j:Nat) (p:PV),(enc y.1)[j]? =some p→w.cell? ((a.add (i*k)).add j)=some (y.2 j)∧Shr (fun _=>False) w (y.2 j) p:=fun i=>by
     obtain ⟨cs0,h10,h20⟩:=hx 0 oM;obtain ⟨y0,_⟩:=D.dec en w spare held n cs0 _ h20 (hwi 0 h0);by_cases hi:i<len
     · obtain ⟨cs',h1,h2⟩:=hx i oM;rw [D.size] at h1;obtain ⟨_,hlen,hcell⟩:=World.cells?_some h1;obtain ⟨y,hy,_,hS⟩:=D.dec en w spare held n cs' _ h2 (hwi i hi);refine ⟨(y,fun j=>(cs'[j]?).getD undef),fun _=>⟨hy,fun j p hp=>?_⟩⟩;(have hj:j<k:=by rw [←D.len y];exact Zf hp);obtain ⟨u,hu⟩:=Ys (show j<cs'.length by omega);have:=hcell j hj;simp only [hu,Uk];exact ⟨by rw [this,hu],hS j u p hu hp⟩
     · exact ⟨(y0,fun _=>undef),fun h=>UU h hi⟩
    obtain ⟨Y,hY⟩:=Classical.skolem.1 key;have hspot:∃b off,a=⟨b,off,none⟩:=by
     obtain ⟨hf,hc⟩:=hY 0 h0;obtain ⟨p,hp⟩:=Ys (show 0<(enc (Y 0).1).length by rw [D.len];exact hk);have:=(hc 0 p hp).1;obtain ⟨b,off,spot⟩:=a;(have hspot:spot=none:=by simpa [Addr.add] using World.cell?_spot this);subst hspot;exact ⟨b,off,rfl⟩
    obtain ⟨b,off,rfl⟩:=hspot;have hflen:((List.range len).map fun i=>(Y i).1).length=len:=sM;refine ⟨(List.range len).map fun i=>(Y i).1,⟨by rw [hflen];unfold reachBytes at hlen;omega,fun x hx=>?_⟩,rfl,fun i v p h1 h2=>So ?_ i h1 h2⟩
    · obtain ⟨i,hi,rfl⟩:=Xk.1 hx;exact (hY i (by simpa using hi)).1
    · rw [hflen];have hat:∀(c:Nat) (p:PV),(((List.range len).map fun i=>(Y i).1).flatMap enc)[c]? =some p→c / k<len∧(enc (Y (c / k)).1)[c % k]? =some p:=fun c p hp=>by
       (have hc:c<len*k:=by have:=Zf hp;rw [flat_len D.len,hflen] at this;exact this);have hq:c / k<len:=Nat.div_lt_of_lt_mul (by rw [VG];exact hc);(have hget:((List.range len).map fun i=>(Y i).1)[c / k]? =some (Y (c / k)).1:=by simp [hq]);have:=Lv D.len hget (Nat.mod_lt c hk);rw [VG,Ue] at this;exact ⟨hq,by rw [←this];exact hp⟩
      refine .sl b off len cap _ (fun c=>(Y (c / k)).2 (c % k)) hl hm (fun c hc=>⟨?_,fun h=>h⟩) (fun c p hp=>?_)
      · obtain ⟨p,hp⟩:=Ys hc;obtain ⟨hq,hp'⟩:=hat c p hp;have:=((hY (c / k) hq).2 (c % k) p hp').1;rw [Y2,Y2,XY,VG,Ue] at this;exact this
      · obtain ⟨hq,hp'⟩:=hat c p hp;exact ((hY (c / k) hq).2 (c % k) p hp').2
theorem ZlW {α β:Type} {k:Nat} {enc:α→List PV} {enc':β→List PV} {fit:α→Prop} {fit':β→Prop} (g:α→β) (D:Dec P t k enc fit) (hl:∀b,(enc' b).length=k) (he:∀a,enc' (g a)=enc a) (h:∀a,fit a→fit' (g a)):Dec P t k enc' fit':=
 ⟨D.size,hl,fun e w s hd f cs x hx hy=>let ⟨a,h1,h2,h3⟩:=D.dec e w s hd f cs x hx hy;⟨g a,h a h1,h2,by rw [he];exact h3⟩⟩
section
variable {H:Type} {en:TypeId×Value→H} {w:World} {spare:Nat→Bool} {held:Bool} {r:Reach} {base:Nat} {v:Value} {d:DataW H} {ps:List MemPlace}
theorem ZeG (hT:NoAgg P t=true) (h:Value.okWide P w r base t v):v.cells= #[v]:=by
 unfold NoAgg at hT
 unfold Value.okWide at h
 cases v<;>first|rfl|skip
 rename_i cs
 exfalso
 cases hu:P.underlying t with
 |none=>rw [hu] at hT;simp at hT
 | some dd=>
   rw [hu] at hT h
   cases dd<;>simp_all [Cell.okWide,Cell.ok]
theorem Zpw {α:Type} {f:α→PV} {fit:α→Prop} (D:Dec P t 1 (fun a=>[f a]) fit) (hT:NoAgg P t=true) (hv:Value.okWide P w r base t v) (h:DataW.Trod en P w 0 spare held t v d ps) (hwt:∀n∈d.weights P t,n≤reachBytes):∃a,fit a∧Shr (fun _=>False) w v (f a):=by
 obtain ⟨fuel,hf⟩:=h
 rw [ZeG hT hv] at hf
 obtain ⟨a,h1,_,h3⟩:=D.dec en w spare held fuel _ _ hf hwt
 exact ⟨a,h1,h3 0 v (f a) rfl rfl⟩
theorem Zpx {α:Type} {k:Nat} {enc:α→List PV} {fit:α→Prop} (D:Dec P t k enc fit) (hT:ZoN P t=true) (hv:Value.okWide P w r base t v) (h:DataW.Trod en P w 0 spare held t v d ps) (hwt:∀n∈d.weights P t,n≤reachBytes):∃a,fit a∧Shr (fun _=>False) w v (.agg (enc a)):=by
 obtain ⟨fuel,hf⟩:=h
 have:∃fs,P.underlying t=some (.struct fs):=by
  unfold ZoN at hT;split at hT
  · rename_i fs hfs;exact ⟨fs,hfs⟩
  · cases hT
 obtain ⟨fs,hfs⟩:=this
 obtain ⟨cs,rfl,hsz⟩:=okWide_struct hfs hv
 obtain ⟨a,h1,h2,h3⟩:=D.dec en w spare held fuel _ _ hf hwt
 refine ⟨a,h1,?_⟩
 have:=Shr.agg (M:=fun _=>False) (w:=w) cs.toList (enc a) (by rw [D.len a];exact h2) h3
 simpa using this
end
theorem PY {H:Type} {enc:TypeId×Value→H} {P:Program} (hl:laidOutB P=true) {W W':World} (hb:Below W.heap.size W W'):∀{ts:List TypeId} {vs:List Value} {ds:List (DataW H)} {ps:List MemPlace},(ts.all fun t=>P.readableRec t&&decide (t<P.types.size))=true→
 DataW.TrodAll enc P W 0 (fun _=>true) true ts vs ds ps→DataW.TrodAll enc P W' 0 (fun b=>decide (b<W.heap.size)) true ts vs ds ps
 |[],[],[],ps,_,h=>h
 | t::ts,v::vs,d::ds,ps,ht,⟨p,q,h1,h2,h3⟩=>by
   rw [XE,Xf,Xf] at ht;refine ⟨p,q,Below.trod hl ht.1.1 (UV ht.1.2) h1 hb ?_,PY hl hb ht.2 h2,h3⟩;obtain ⟨m,hm⟩:=h1;exact DataW.trod_lt m _ _ _ hm
theorem AF.law {P:Program} {f:FuncId} {ps:List PV} (hA:AF P f ps (· = .val (.bool true))) {W:World} {vs:List Value} (hl:vs.length=ps.length) (hv:∀(i:Nat) (v:Value) (p:PV),vs[i]? =some v→ps[i]? =some p→Shr (fun _=>False) W v p) (hT:TabW W (fun _=>False) (fun _=>False)) (hE:ErrW W (fun _=>False) (fun _=>False):=by intro g hg;cases hg):
 Calls P f vs.toArray W fun e w'=>e= .returned (.bool true)∧Below W.heap.size W w':=
 (hA (fun _=>False) W vs ⟨fun _ h=>h.elim,fun _=>hT,fun _=>hE⟩ hl hv).mono fun e w' ⟨v,p,F,h1,h2,h3,h4,_⟩=>by
   subst h2;have:=(h4.sh rfl).vOf;subst this;exact ⟨h1,h3⟩
end
def ZaQ (P:Program) (t:TypeId) (k:Nat) {α:Type} (enc:α→List PV) (fit:α→Prop) (fuel:Nat):Prop:=
 ∀ {H:Type} (e:TypeId×Value→H) (w:World) (spare:Nat→Bool) (held:Bool) (cs:List Value) (x:DataW H×List MemPlace),DataW.trod e P w 0 spare held fuel t cs=some x→(∀n∈x.1.weights P t,n≤reachBytes)→
  ∃a,fit a∧cs.length=k∧∀(i:Nat) (v:Value) (p:PV),cs[i]? =some v→(enc a)[i]? =some p→Shr (fun _=>False) w v p
section
variable {P:Program} {t:TypeId}
theorem Dec.toF {α:Type} {k:Nat} {enc:α→List PV} {fit:α→Prop} (D:Dec P t k enc fit) (fuel:Nat):ZaQ P t k enc fit fuel:=fun e w spare held cs x h hw=>D.dec e w spare held fuel cs x h hw
theorem RZ {H:Type} {α:Type} {e k o fuel:Nat} {enc:α→List PV} {fit:α→Prop} (hsz:P.cellsOf e=k) (hlen:∀a,(enc a).length=k) (D:ZaQ P e k enc fit fuel) {en:TypeId×Value→H} {w:World} {spare:Nat→Bool} {held:Bool} {cs:List Value} {y:DataW H×List MemPlace}
 (h:DataW.trod en P w 0 spare held fuel e ((cs.drop o).take (P.cellsOf e))=some y) (hwt:∀n∈y.1.weights P e,n≤reachBytes):∃a,fit a∧∀(i:Nat) (v:Value) (p:PV),cs[o+i]? =some v→(enc a)[i]? =some p→Shr (fun _=>False) w v p:=by
 obtain ⟨a,h1,_,h3⟩:=D en w spare held _ y h hwt
 refine ⟨a,h1,fun i v p hv hp=>h3 i v p ?_ hp⟩
 have hi:i<k:=by rw [←hlen a];exact Zf hp
 rw [hsz,XZ hi,Vm];exact hv
theorem ZeH {α:Type} {e k fuel:Nat} {enc:α→List PV} {fit:α→Prop} (ht:P.underlying t=some (.slice e)) (hk:0<k) (hby:0<P.bytesOf e) (hsz:P.cellsOf e=k) (hln:∀a,(enc a).length=k) (D:∀n,n<fuel→ZaQ P e k enc fit n):
 ZaQ P t 1 (fun l:List α=>[PV.sl l.length (l.flatMap enc)]) (fun l=>l.length≤140737488355328∧∀x∈l,fit x) fuel:=fun en w spare held cs x h hwt=>by
 rcases DataW.trod_slice ht h with ⟨rfl,_⟩|⟨a,len,cap,elems,more,n,rfl,rfl,rfl,_,hl,hm,hel,hx,_,_⟩
 · exact ⟨[],⟨sM,sM⟩,rfl,fun i v p h1 h2=>So (.emp none 0 (by unfold maxLen;omega) (fun _=>rfl)) i h1 h2⟩
 · rcases X7 len with h0|h0
   · subst h0;exact ⟨[],⟨sM,sM⟩,rfl,fun i v p h1 h2=>So (.emp (some a) cap hm (fun h=>by cases h)) i h1 h2⟩
   simp only [DataW.weights,ht] at hwt;have hlen:len≤reachBytes:=by
    have:=hwt _ (Xm ..);simp only [Xe,hel] at this;exact XL (XL (Uf len _) (Nat.le_mul_of_pos_right _ hby)) this
   have hDn:ZaQ P e k enc fit n:=D n (Nat.lt_succ_self n);have hone:∀i,i<len→∃(y:α×(Nat→Value)),fit y.1∧∀(j:Nat) (p:PV),(enc y.1)[j]? =some p→w.cell? ((a.add (i*k)).add j)=some (y.2 j)∧Shr (fun _=>False) w (y.2 j) p:=fun i hi=>by
    have h1:=hx i hi;obtain ⟨z,hz⟩:=Ys (show i<elems.length by omega);rw [hz] at h1;obtain ⟨cs',h2,h3⟩:=XW.1 h1;rw [hsz] at h2;obtain ⟨_,hlen',hcell⟩:=World.cells?_some h2;obtain ⟨y,hy,_,hS⟩:=hDn en w spare held cs' _ h3 (fun m hm=>hwt m (Xn _ (Xp.2 (.inl (G2 P e (Xk.2 ⟨z,Xc hz,rfl⟩) hm)))));refine ⟨(y,fun j=>(cs'[j]?).getD undef),hy,fun j p hp=>?_⟩;(have hj:j<k:=by rw [←hln y];exact Zf hp);obtain ⟨u,hu⟩:=Ys (show j<cs'.length by omega);have:=hcell j hj;simp only [hu,Uk];exact ⟨by rw [this,hu],hS j u p hu hp⟩
   obtain ⟨y0,hy0⟩:=hone 0 h0;have key:∀i:Nat,∃(y:α×(Nat→Value)),i<len→fit y.1∧∀(j:Nat) (p:PV),(enc y.1)[j]? =some p→w.cell? ((a.add (i*k)).add j)=some (y.2 j)∧Shr (fun _=>False) w (y.2 j) p:=fun i=>by
    by_cases hi:i<len
    · obtain ⟨y,hy⟩:=hone i hi;exact ⟨y,fun _=>hy⟩
    · exact ⟨y0,fun h=>UU h hi⟩
   obtain ⟨Y,hY⟩:=Classical.skolem.1 key;have hspot:∃b off,a=⟨b,off,none⟩:=by
    obtain ⟨hf,hc⟩:=hY 0 h0;obtain ⟨p,hp⟩:=Ys (show 0<(enc (Y 0).1).length by rw [hln];exact hk);have:=(hc 0 p hp).1;obtain ⟨b,off,spot⟩:=a;(have hspot:spot=none:=by simpa [Addr.add] using World.cell?_spot this);subst hspot;exact ⟨b,off,rfl⟩
   obtain ⟨b,off,rfl⟩:=hspot;have hflen:((List.range len).map fun i=>(Y i).1).length=len:=sM;refine ⟨(List.range len).map fun i=>(Y i).1,⟨by rw [hflen];unfold reachBytes at hlen;omega,fun x hx=>?_⟩,rfl,fun i v p h1 h2=>So ?_ i h1 h2⟩
   · obtain ⟨i,hi,rfl⟩:=Xk.1 hx;exact (hY i (by simpa using hi)).1
   · rw [hflen];have hat:∀(c:Nat) (p:PV),(((List.range len).map fun i=>(Y i).1).flatMap enc)[c]? =some p→c / k<len∧(enc (Y (c / k)).1)[c % k]? =some p:=fun c p hp=>by
      (have hc:c<len*k:=by have:=Zf hp;rw [flat_len hln,hflen] at this;exact this);have hq:c / k<len:=Nat.div_lt_of_lt_mul (by rw [VG];exact hc);(have hget:((List.range len).map fun i=>(Y i).1)[c / k]? =some (Y (c / k)).1:=by simp [hq]);have:=Lv hln hget (Nat.mod_lt c hk);rw [VG,Ue] at this;exact ⟨hq,by rw [←this];exact hp⟩
     refine .sl b off len cap _ (fun c=>(Y (c / k)).2 (c % k)) hl hm (fun c hc=>⟨?_,fun h=>h⟩) (fun c p hp=>?_)
     · obtain ⟨p,hp⟩:=Ys hc;obtain ⟨hq,hp'⟩:=hat c p hp;have:=((hY (c / k) hq).2 (c % k) p hp').1;rw [Y2,Y2,XY,VG,Ue] at this;exact this
     · obtain ⟨hq,hp'⟩:=hat c p hp;exact ((hY (c / k) hq).2 (c % k) p hp').2
end
end Go.En
namespace Go.Proofs.YtgfabnhpllkebaaGreatDoor
open Go.RowKit Go.Cb Go.En Go.ChangeShapes Go.WideShapes Go.ChangeAt Tryz
set_option linter.all false
set_option maxRecDepth 100000
theorem Zo8:Dec prog 3 1 (fun n:Int=>[pInt n]) (fun n=> -9223372036854775808≤n∧n≤9223372036854775807):=ZlV underlying3 kR
theorem Zo9:Dec prog 9 1 (fun s:ByteArray=>[Yl s]) (fun s=>s.size≤140737488355328):=ZfS underlying9 kR
theorem Zhc (fuel:Nat):ZaQ prog 24 3 cN FitT fuel:=by
 induction fuel using Nat.strongRecOn with
 | _ fuel ih=>
   intro H e w spare held cs x h hwt;obtain ⟨xs,n,rfl,rfl,hlen,hxl,hf⟩:=DataW.trod_struct underlying24 h;simp only [DataW.weights,underlying24] at hwt;match xs,hxl with
   |[y0,y1,y2],_=>
   have g0:DataW.trod e prog w 0 spare held n 3 ((cs.drop 0).take (prog.cellsOf 3))=some y0:=hf 0 _ rfl;have g1:DataW.trod e prog w 0 spare held n 9 ((cs.drop 1).take (prog.cellsOf 9))=some y1:=hf 1 _ rfl;have g2:DataW.trod e prog w 0 spare held n 22 ((cs.drop 2).take (prog.cellsOf 22))=some y2:=hf 2 _ rfl;have hD0:ZaQ prog 3 1 (fun n:Int=>[pInt n]) (fun n=> -9223372036854775808≤n∧n≤9223372036854775807) n:=Dec.toF Zo8 n;have hD1:ZaQ prog 9 1 (fun s:ByteArray=>[Yl s]) (fun s=>s.size≤140737488355328) n:=Dec.toF Zo9 n;have hsl:ZaQ prog 22 1 (fun l:List Nd=>[PV.sl l.length (l.flatMap cN)]) (fun l=>l.length≤140737488355328∧∀x∈l,FitT x) n:=
    ZeH underlying22 dC (Xa kR) kR ZaL (fun m hm=>ih m oM)
   obtain ⟨a,ha,A⟩:=RZ (k:=1) (enc:=fun n:Int=>[pInt n]) (fit:=fun n:Int=> -9223372036854775808≤n∧n≤9223372036854775807) kR (fun _=>rfl) hD0 g0 (fun n hn=>hwt n (WX prog 0 rfl rfl hn));obtain ⟨b,hb,B⟩:=RZ (k:=1) (enc:=fun s:ByteArray=>[Yl s]) (fit:=fun s:ByteArray=>s.size≤140737488355328) kR (fun _=>rfl) hD1 g1 (fun n hn=>hwt n (WX prog 1 rfl rfl hn));obtain ⟨l,hl,C⟩:=RZ (k:=1) (enc:=fun l:List Nd=>[PV.sl l.length (l.flatMap cN)]) (fit:=fun l:List Nd=>l.length≤140737488355328∧∀x∈l,FitT x) kR (fun _=>rfl) hsl g2 (fun n hn=>hwt n (WX prog 2 rfl rfl hn));refine ⟨.mk a b l, .mk _ hl.1 hb ha.1 ha.2 hl.2,by rw [hlen];kernel_rfl,fun i v p hv hp=>?_⟩;match i with
   |0=>exact A 0 v p hv (by simpa [cN,Nd.op] using hp)
   |1=>exact B 0 v p hv (by simpa [cN,Nd.act] using hp)
   |2=>exact C 0 v p hv (by rw [←hp];show some _=some _;unfold Y0;rw [Ra];rfl)
   |i+3=>simp [cN] at hp
theorem Zpa:Dec prog 24 3 cN FitT where
 size:=by kernel_rfl
 len:=ZaL
 dec:=fun e w spare held fuel cs x h hw=>Zhc fuel e w spare held cs x h hw
open Go.RowKit Go.Cb Go.En
mutual
def YY:Nd→List ByteArray
 | .mk o a l=>if o=1 then a::JH l else JH l
def JH:List Nd→List ByteArray
 |[]=>[]
 |x::l=>YY x++JH l
end
theorem Sp {l:List Nd} {s:ByteArray}:s∈JH l↔∃x∈l,s∈YY x:=by
 induction l with
 |nil=>simp [JH]
 |cons x l ih=>rw [JH,Xp,ih];simp
end Go.Proofs.YtgfabnhpllkebaaGreatDoor
namespace Go.En
open Go.RowKit Go.Cb
set_option linter.all false
section
variable {sL hP:List (Nat×Ent)}
end
open Go.RowKit Go.Cb Go.Proofs Go.Sort Go.ChangeShapes Go.WideShapes Go.ChangeAt
def Zjb (P:Program) (fs:Nat):Prop:=∀(blk cap:Nat) (zs:List (List UInt8)) (w:World),Go.Sort.Holds encStr w blk 0 zs.toArray→blk<w.heap.size→zs.length<4611686018427387904→
 Calls P fs #[.slice (some ⟨blk,0,none⟩) zs.length cap] w fun e w'=>e= .returned (.tuple #[])∧∃n os,w'=grow (putRow encStr (Go.Sort.ahead w n) blk 0 (zs.mergeSort fun x y=>decide (x≤y)).toArray) os
def ZeI (s:List UInt8):PV:= .val (encStr s)
section
variable {P:Program} {c:Ctx} {ops:Array Oper} {Q:Exit→Act→World→Prop} {rest:List Oper} {sL hP:List (Nat×Ent)} {o:Oper}
theorem Zjc {fs e d:Nat} {zs:List (List UInt8)} {h:Value} {q:PV} {x:Operand} {ats:Array TypeId} (l:Nat) (hS:Zjb P fs) (hc:∀args w,(callFunc fs args).run P w= .ok (.enter fs args) w)
 (kk:aL P c ops Q rest ⟨put d (.tuple #[], .val (.tuple #[])) sL,put l (h, .own e 1 zs.length ((zs.mergeSort fun x y=>decide (x≤y)).map ZeI)) hP⟩)
 (hn:0<zs.length) (hn2:zs.length<4611686018427387904:=by omega) (hw:Z8 ops sL o=some true:=by exact rfl) (hd:o.dst=some d:=by exact rfl) (hdn:d<c.nt:=by exact Xa rfl) (ho:o.op= .call {callee:= .value (.func fs),args:= #[x],argTypes:=ats}:=by exact rfl) (hx:ev sL x=some (h,q):=by exact rfl) (hl:lk hP l=some (h, .own e 1 zs.length (zs.map ZeI)):=by exact rfl):aL P c ops Q (o::rest) (⟨sL,hP⟩:St):=
 YS hw fun a w F H=>by
  have hxv:=(H.rd.ev hx).1;have hTr:=H.tr l _ _ hl;obtain ⟨xs,Fs,hrow,hlen,hT,hdj,hb,hF⟩:=hTr.row;obtain ⟨blk,cap,hh,hc1,hc2,hc3⟩:=JJ hTr hn;have hblkF:F l blk:=(hF blk).2 (.inl (by rw [hh];rfl));have hxs:∀(j:Nat) (v:Value),xs[j]? =some v→∃z,zs[j]? =some z∧v=encStr z:=fun j v hv=>by
   obtain ⟨p,hp⟩:=YH hv hlen.symm;have h1:=hp;rw [Xh,XA] at h1;obtain ⟨z,hz,rfl⟩:=h1;exact ⟨z,hz,((hT j v _ hv hp).sh rfl).vOf⟩
  have hHold:Go.Sort.Holds encStr w blk 0 zs.toArray:=fun j hj=>by
   simp only [Vn] at hj;have hrow':=hrow;rw [hh] at hrow';obtain ⟨v,hv⟩:=Ys (show j<xs.length by rw [←hlen,Xe];exact hj);obtain ⟨z,hz,rfl⟩:=hxs j v hv;refine ⟨?_,by rw [Xv];exact hrow'.frozenAt j⟩;rw [Xv,WZ hrow' hv];have:zs.toArray[j]! =z:=by
    have hz':=(XK.1 hz).2;simp [hj,hz']
   rw [this]
  have hcall:=hS blk cap zs w hHold hc3 hn2;unfold Oper.wp;have hrun:(execOp a.eval o).run P w= .ok (.enter fs #[h]) w:=by
   have hev:a.eval (.func fs)= .func (.func fs) #[] #[]:=rfl;simp [execOp,ho,resolve,Deferred.ofValue,hev,invoke,hxv,hc]
  rw [hrun,Oper.upon_enter,hh];refine hcall.mono fun e' w' ⟨he',m,os,hw'⟩=>?_;subst he';have hsl:(zs.mergeSort fun x y=>decide (x≤y)).length=zs.length:=UC _;generalize hsd:(zs.mergeSort fun x y=>decide (x≤y))=sd at hsl hw' kk;have hch0:Chg (fun b=>b=blk) w w':=by
   rw [hw'];refine ⟨rfl,rfl,rfl,?_,fun i hi hne=>?_⟩
   · simp [grow,putRow,mapBlock,Go.Sort.ahead]
   · have:(grow (putRow encStr (Go.Sort.ahead w m) blk 0 sd.toArray) os).heap=(w.heap.modify blk (onCells (putCells encStr 0 sd.toArray)))++os:=rfl;rw [this,Vp (by simpa using hi),VP,US (fun e=>hne e.symm)]
  rw [hd];refine kk _ _ ⟨fun l'=>if l'=l then (fun b=>b=blk) else F l',?_⟩;refine H.change (fun l'=>l'=l) hdn (hch0.wid fun b hb'=> .inl ⟨l,_,rfl,hl,by rw [hb'];exact hblkF⟩) (fun l' z hne hz=>?_) (fun l' z b hT' hz hb'=>?_) (fun hmm l' u p hT' hz=>?_) (fun l1 l2 _ _ _ h1 h2 hne=>UU (h1.trans h2.symm) hne) (fun _=> .val _) (fun _=>by rw [hw'];exact Uf _ _)
  · rcases Yt hz with ⟨e1,_⟩|⟨_,e1⟩
    · exact UU e1.symm hne
    · exact ⟨e1,by simp [hne]⟩
  · subst hT';simp only [if_true] at hb';exact .inl ⟨l',_,rfl,hl,by rw [hb'];exact hblkF⟩
  · subst hT';rw [Yf] at hz
    cases hz;simp only [if_true];rcases hrow.2 with ⟨e1,_⟩|⟨g',cap',cur,e1,_,e3,e4,e5,e6,e7⟩
    · rw [hh] at e1;cases e1
    · rw [hh] at e1
      cases e1;have hlt:=Wm e3;refine .own (sd.map encStr) (fun _ _=>False) ⟨by rw [Xe,hsl,Xq], .inr ⟨blk,cap,putCells encStr 0 sd.toArray cur,hh,Xd _,?_,e4,e5,by simp [putCells];omega,?_⟩⟩ sM (fun t v p hv hp=>?_) (fun _ _ _ _ _ _ h=>h.elim) (fun _ _ _ h=>h.elim) (fun b=>by rw [hh];simp [Value.ownBlock,eq_comm])
      · rw [hw'];have:(grow (putRow encStr (Go.Sort.ahead w m) blk 0 sd.toArray) os).heap=(w.heap.modify blk (onCells (putCells encStr 0 sd.toArray)))++os:=rfl;rw [this,Vp (by simpa using hlt),VP,UT rfl,e3];rfl
      · have:=OM encStr sd.toArray cur (by simp only [Vn];rw [hsl,e6];omega);simp only [Vn] at this;rw [Xq,←hsl];exact this
      · rw [Xh,XA] at hv hp;obtain ⟨z,hz,rfl⟩:=hv;obtain ⟨z',hz',rfl⟩:=hp;rw [hz] at hz';cases hz';exact .shr (.val _) (fun _ h=>h)
theorem ZlX {fs e d:Nat} {zs:List (List UInt8)} {h:Value} {q:PV} {x:Operand} {ats:Array TypeId} (l:Nat) (hS:Zjb P fs) (hS0:H5 P fs) (hc:∀args w,(callFunc fs args).run P w= .ok (.enter fs args) w)
 (kk:aL P c ops Q rest ⟨put d (.tuple #[], .val (.tuple #[])) sL,put l (h, .own e 1 zs.length ((zs.mergeSort fun x y=>decide (x≤y)).map ZeI)) hP⟩)
 (hn2:zs.length<4611686018427387904:=by omega) (hw:Z8 ops sL o=some true:=by exact rfl) (hd:o.dst=some d:=by exact rfl) (hdn:d<c.nt:=by exact Xa rfl) (ho:o.op= .call {callee:= .value (.func fs),args:= #[x],argTypes:=ats}:=by exact rfl) (hx:ev sL x=some (h,q):=by exact rfl) (hl:lk hP l=some (h, .own e 1 zs.length (zs.map ZeI)):=by exact rfl):aL P c ops Q (o::rest) (⟨sL,hP⟩:St):=by
 rcases X7 zs.length with h0|h0
 · have hz:zs=[]:=XR h0;subst hz;refine H6 l hS0 hc ?_ hw hd hdn ho hx hl;exact Zs (fun c a w ⟨F,H⟩=>⟨(),F,H.less (fun _ _ h=>h) fun t x hx=>by
    rcases Yt hx with ⟨rfl,e1⟩|⟨_,e1⟩
    · rw [←e1];simpa using hl
    · exact e1⟩) (fun _:Unit=>kk)
 · exact Zjc l hS hc kk h0 hn2 hw hd hdn ho hx hl
end
section
variable {P:Program} {c:Ctx} {ops:Array Oper} {Q:Exit→Act→World→Prop} {rest:List Oper} {st:St} {sL hP:List (Nat×Ent)} {o:Oper} {Z:Nat→Bool} {K:List Nat} {fuel:Nat} {listed:Array Bool}
end
end Go.En
namespace Go.Proofs.YtgfabnhpllkebaaGreatDoor
open Go.RowKit Go.Cb Go.En Tryz
set_option linter.all false
open Classical in
noncomputable def setK (ks:List ByteArray) (s:ByteArray):List ByteArray:=if s∈ks then ks else ks++[s]
noncomputable def colS (ks:List ByteArray) (l:List ByteArray):List ByteArray:=l.foldl setK ks
theorem Zjd (ks:List ByteArray) (s x:ByteArray):x∈setK ks s↔x∈ks∨x=s:=by
 unfold setK
 split
 · rename_i h;exact ⟨.inl,fun h2=>h2.elim id fun e=>e▸h⟩
 · rw [Xp,Xi]
theorem ZlY {ks:List ByteArray} (h:ks.Nodup) (s:ByteArray):(setK ks s).Nodup:=by
 unfold setK
 split
 · exact h
 · rename_i hn;exact VE.2 ⟨h,Vq _ s,fun a ha b hb e=>hn (by rw [Xi] at hb;rw [←hb,←e];exact ha)⟩
theorem G3:∀(l ks:List ByteArray) (x:ByteArray),x∈colS ks l↔x∈ks∨x∈l
 |[],ks,x=>by simp [colS]
 | s::l,ks,x=>by
   show x∈colS (setK ks s) l↔_;rw [G3 l,Zjd,Xs,or_assoc]
theorem LB:∀(l ks:List ByteArray),ks.Nodup→(colS ks l).Nodup
 |[],_,h=>h
 |s::l,ks,h=>LB l (setK ks s) (ZlY h s)
theorem Sq (ks l m:List ByteArray):colS ks (l++m)=colS (colS ks l) m:=Vv
theorem PZ:∀(l ks:List ByteArray),(colS ks l).length≤ks.length+l.length
 |[],ks=>Xg _
 | s ::l,ks=>by
   show (colS (setK ks s) l).length≤_;have h1:=PZ l (setK ks s);have h2:(setK ks s).length≤ks.length+1:=by
    unfold setK;split
    · omega
    · rw [Xb];simp
   rw [Xl];omega
def KC (ks:List ByteArray):List (ByteArray×Value):=ks.map fun s=>(s, .bool true)
theorem Zcf (ks:List ByteArray) (s:ByteArray):K' (skv (KC ks)) (.string s) (.bool true)=skv (KC (setK ks s)):=by
 rw [HQ]
 congr 1
 unfold setK
 induction ks with
 |nil=>simp [KC,HP]
 | cons x ks ih=>
   unfold KC at ih ⊢;rw [Xw,HP];by_cases h:s=x
   · subst h;simp
   · simp only [h,if_false,Ne.symm h] at ih ⊢;by_cases h2:s∈ks
     · simp [h2,h] at ih ⊢;exact ih
     · simp [h2,h] at ih ⊢;exact ih
def toB (s:ByteArray):List UInt8:=s.data.toList
def ofB (l:List UInt8):ByteArray:=⟨l.toArray⟩
theorem Hx (s:ByteArray):ofB (toB s)=s:=by cases s;simp [ofB,toB]
theorem ZfT (l:List UInt8):toB (ofB l)=l:=by simp [ofB,toB]
def J2 (ks:List ByteArray):List ByteArray:=((ks.map toB).mergeSort fun x y=>decide (x≤y)).map ofB
theorem Zje (ks:List ByteArray):((ks.map toB).mergeSort fun x y=>decide (x≤y)).map ZeI=(J2 ks).map Yl:=by
 unfold J2
 rw [XH];rfl
theorem ZlZ (ks:List ByteArray):(ks.map toB).map ZeI=ks.map Yl:=by
 rw [XH]
 refine VQ fun s _=>?_
 show PV.val (.string (ofB (toB s)))=Yl s
 rw [Hx]
theorem G4 (ks:List ByteArray):(J2 ks).length=ks.length:=by unfold J2;simp
theorem ζe {l m:List ByteArray} (h:l.Perm m):J2 l=J2 m:=by
 unfold J2
 congr 1
 have htr:∀a b c:List UInt8,decide (a≤b)=true→decide (b≤c)=true→decide (a≤c)=true:=fun a b c h1 h2=>by
  simp only [UP] at*;exact List.le_trans h1 h2
 have hto:∀a b:List UInt8,(decide (a≤b)||decide (b≤a))=true:=fun a b=>by
  simp only [X5,UP];exact List.le_total a b
 refine List.Perm.eq_of_pairwise (le:=fun x y=>decide (x≤y)=true) (fun a b _ _ h1 h2=>?_) (Ur htr hto _) (Ur htr hto _) (((Us _ _).trans (h.map toB)).trans (Us _ _).symm)
 simp only [UP] at h1 h2
 exact List.le_antisymm h1 h2
noncomputable def actR (t:Nd):List ByteArray×Int:=if Ke t=true then (if (colS [] (YY t)).length≤40 then (J2 (colS [] (YY t)),0) else ([],5)) else ([],1)
theorem Zhd {l m:List ByteArray} (h:∀s,s∈l↔s∈m):(colS [] l).Perm (colS [] m):=
 (List.perm_ext_iff_of_nodup (LB l [] Vb) (LB m [] Vb)).2 fun s=>by rw [G3,G3,h]
theorem Zhe {t:Nd} (h:rightT t=true):t.act.size≤40:=by
 unfold rightT at h
 split at h
 · simp only [Xf] at h;have:=h.2;unfold Jl at this;simp only [Xf,UP] at this;exact this.1.1.2
 · split at h
   · simp only [Xf,UP] at h;rw [h.2];exact Xd _
   · split at h
     · simp only [Xf,UP] at h;rw [h.2];exact Xd _
     · split at h
       · simp only [Xf,UP] at h;rw [h.2];exact Xd _
       · cases h
set_option maxRecDepth 100000
theorem KR:AggT prog 24 3=true:=by kernel_rfl
theorem ζf:ElT prog 27 9 1 16 (.string ByteArray.empty):=⟨underlying27,by kernel_rfl,rfl,dC⟩
theorem Zcg:FldT prog 24 0 0=true:=by kernel_rfl
theorem Zch:FldT prog 24 1 1=true:=by kernel_rfl
theorem DD:FldT prog 24 2 2=true:=by kernel_rfl
theorem Zhf:MpT prog 76 9 4 .string (.bool false):=⟨underlying76,underlying9, .inl rfl,by show ZeroT _ _ _;unfold ZeroT;kernel_rfl⟩
theorem ζg:NoAgg prog 22=true:=by kernel_rfl
theorem Zjf:NoAgg prog 3=true:=by kernel_rfl
theorem Zjg:NoAgg prog 9=true:=by kernel_rfl
theorem Rc:SlT prog 22 24 3=true:=by kernel_rfl
theorem ζh:ZeroT prog 24 (.agg #[(.int .i64 0),(.string ByteArray.empty),(.slice none 0 0)]):=by unfold ZeroT;kernel_rfl
theorem Zhg:Zjb prog 75:=fun blk cap zs w hH hb hn=>Tryz.slices_Sort_string blk 0 cap zs w hH hb hn
theorem ZeJ:H5 prog 75:=Tryz.slices_Sort_string_none
theorem L4 {l:List Nd} {k:Nat} {x:Nd} (h:l[k]? =some x):JH (l.take (k+1))=JH (l.take k)++YY x:=by
 have e:∀m:List Nd,JH m=m.flatMap YY:=fun m=>by
  induction m with
  |nil=>rfl
  |cons y m ih=>rw [JH,ih,Xz]
 rw [e,e,ZR h,XN,VS]
set_option maxHeartbeats 4000000 in
theorem ZeK:∀(t:Nd),okT t=true→szT t≤1000000→∀(ks:List ByteArray) (m V:Value),AFh False prog 74 [(0,m, .val m),(1,V,pTr t)] [(1000,m, .omap (skv (KC ks)))] (fun v q h=>h=[(1000,m, .omap (skv (KC (colS ks (YY t)))))]):=Nd.ind fun o a l ih hok hs ks m V=>by
 have e0:pTr (.mk o a l)= .agg [pInt o,Yl a,Y0 l]:=rfl
 rw [e0]
 obtain ⟨hr,hp⟩:=Jh.1 hok
 have hsz:=ZeE (.mk o a l)
 have hlz:=Rb l
 simp only [Nd.l,Nd.op] at hp hsz
 obtain ⟨K,hK⟩:∃K,K=if o=1 then setK ks a else ks:=⟨_,rfl⟩
 have hres:colS ks (YY (.mk o a l))=colS K (JH l):=by
  rw [hK,YY];split<;>rfl
 rw [hres]
 refine AFh.of_body 23 func74 rfl ntmps74 (Xa rfl) rfl ?_
 intro w0 M0 N0
 refine Ze ?_
 (refine ZB 3 3 fun h3=>?_<;>refine Zi ?_)
 (refine xL 6 (Zd 3 Zcg) ?_<;>(refine yL 7 (Zk 3 Zjf) fun v7 h=>?_;cases h)<;>refine xL 8 Ye ?_<;>refine Zc ?_)
 refine cX ?_ ?_<;>intro hb8
 · first |exact bN hb8|(
 refine Ze ?_;(refine xL 9 Zb (xL 10 (Zd 3 Zch) ?_)<;>(refine yL 11 (Zk 3 Zjg) fun v11 h=>?_;cases h)<;>(refine LN 1000 Zhf ?_;rw [Zcf,show setK ks a=K by rw [hK,UT (by assumption)]])<;>refine Zi ?_)
 (refine xL 12 (Zd 3 DD) ?_<;>(refine yL 13 (Zk 3 ζg) fun v13 h=>?_;cases h)<;>refine xL 14 (ZT Rc) (xL 15 Zb ?_)<;>refine Zc ?_)
 refine ZD (ι:={q:Nat×List ByteArray//q.1≤l.length∧q.2=colS K (JH (l.take q.1))}) (fun k=>⟨[(0,_,_),(13,_,_),(14,_,_),(15, .int .i64 k.1.1,pInt k.1.1)],[(1000,m, .omap (skv (KC k.1.2)))]⟩) (fun k=>l.length-k.1.1) ⟨(0,K),Xd _,by rw [VN];rfl⟩ (fun a w H=>H.weaken ⟨rfl,rfl,rfl,rfl,trivial⟩ ⟨rfl,trivial⟩) ?_;rintro ⟨⟨i,S⟩,hi,hS⟩;dsimp only;dsimp only at hi hS;refine Ze ?_;(refine xL 16 ZP ?_<;>refine Zc ?_)
 refine cX ?_ ?_<;>intro hb16
 · first|exact bN hb16|(
 obtain ⟨x,hx⟩:=Zt (show i<l.length by omega);have e1:((Lo l).drop (i*3)).take 3=[pInt x.op,Yl x.act,Y0 x.l]:=KF hx;have e2:=JO hx;have hxm:=Xc hx;have hxs:=Lw hxm;have hsn:=L4 hx;refine Ze ?_;(refine xL 17 (ZI Rc) ?_<;>(refine yL 18 (Wn KR) fun v18 h=>?_;cases h)<;>refine Zw [(.int .i64 0),(.string ByteArray.empty),(.slice none 0 0)] 3 5 ζh fun h5=>?_<;>refine ZE 5 KR ?_<;>refine Zi ?_)
 (refine xL 19 Zb ?_<;>(refine yL 20 (Zu 5 KR) fun v20 h=>?_;cases h)<;>(refine WQ [(1000,m, .omap (skv (KC S)))] ⟨rfl,trivial⟩ ?_;refine JP [] 21 (call74) (ih x hxm (hp x hxm) oM S m v20) (fun v21 p21 h21 hR21=>?_);subst hR21)<;>refine Zi ?_)
 (refine xL 22 ZG (xL 15 Zb ?_)<;>refine Zc ?_)
 refine Zm (
  ⟨(i+1,colS S (YY x)),Zf hx,by dsimp only;rw [hsn,Sq,←hS]⟩
  ) (by dsimp only;omega) ⟨rfl,rfl,rfl,rfl,trivial⟩ ⟨rfl,trivial⟩)
 · first|exact bN hb16|(
 refine nav ?_;(have hS2:S=colS K (JH l):=by rw [hS,Xj oM]);refine Sm [(1000,m, .omap (skv (KC S)))] (results74) ⟨rfl,trivial⟩ ?_;rw [hS2]))
 · first |exact bN hb8|(
 rw [show ks=K by rw [hK,US (by assumption)]];refine Ze ?_;(refine xL 12 (Zd 3 DD) ?_<;>(refine yL 13 (Zk 3 ζg) fun v13 h=>?_;cases h)<;>refine xL 14 (ZT Rc) (xL 15 Zb ?_)<;>refine Zc ?_)
 refine ZD (ι:={q:Nat×List ByteArray//q.1≤l.length∧q.2=colS K (JH (l.take q.1))}) (fun k=>⟨[(0,_,_),(13,_,_),(14,_,_),(15, .int .i64 k.1.1,pInt k.1.1)],[(1000,m, .omap (skv (KC k.1.2)))]⟩) (fun k=>l.length-k.1.1) ⟨(0,K),Xd _,by rw [VN];rfl⟩ (fun a w H=>H.weaken ⟨rfl,rfl,rfl,rfl,trivial⟩ ⟨rfl,trivial⟩) ?_;rintro ⟨⟨i,S⟩,hi,hS⟩;dsimp only;dsimp only at hi hS;refine Ze ?_;(refine xL 16 ZP ?_<;>refine Zc ?_)
 refine cX ?_ ?_<;>intro hb16
 · first|exact bN hb16|(
 obtain ⟨x,hx⟩:=Zt (show i<l.length by omega);have e1:((Lo l).drop (i*3)).take 3=[pInt x.op,Yl x.act,Y0 x.l]:=KF hx;have e2:=JO hx;have hxm:=Xc hx;have hxs:=Lw hxm;have hsn:=L4 hx;refine Ze ?_;(refine xL 17 (ZI Rc) ?_<;>(refine yL 18 (Wn KR) fun v18 h=>?_;cases h)<;>refine Zw [(.int .i64 0),(.string ByteArray.empty),(.slice none 0 0)] 3 5 ζh fun h5=>?_<;>refine ZE 5 KR ?_<;>refine Zi ?_)
 (refine xL 19 Zb ?_<;>(refine yL 20 (Zu 5 KR) fun v20 h=>?_;cases h)<;>(refine WQ [(1000,m, .omap (skv (KC S)))] ⟨rfl,trivial⟩ ?_;refine JP [] 21 (call74) (ih x hxm (hp x hxm) oM S m v20) (fun v21 p21 h21 hR21=>?_);subst hR21)<;>refine Zi ?_)
 (refine xL 22 ZG (xL 15 Zb ?_)<;>refine Zc ?_)
 refine Zm (
  ⟨(i+1,colS S (YY x)),Zf hx,by dsimp only;rw [hsn,Sq,←hS]⟩
  ) (by dsimp only;omega) ⟨rfl,rfl,rfl,rfl,trivial⟩ ⟨rfl,trivial⟩)
 · first|exact bN hb16|(
 refine nav ?_;(have hS2:S=colS K (JH l):=by rw [hS,Xj oM]);refine Sm [(1000,m, .omap (skv (KC S)))] (results74) ⟨rfl,trivial⟩ ?_;rw [hS2]))
def Zn6:Value×Value→ByteArray
 |(.string s,_)=>s
 |_=>ByteArray.empty
theorem Zjh (ks:List ByteArray):(skv (KC ks)).map Zn6=ks:=by
 unfold skv KC
 rw [XH,XH]
 exact (VQ fun s _=>rfl).trans (List.map_id ks)
theorem Zji {ks:List ByteArray} {k v:Value} (h:(k,v)∈skv (KC ks)):∃s,s∈ks∧k= .string s∧v= .bool true:=by
 unfold skv KC at h
 rw [XH] at h
 obtain ⟨s,hs,e⟩:=Xk.1 h
 cases e
 exact ⟨s,hs,rfl,rfl⟩
theorem Zci (ks:List ByteArray):(skv (KC ks)).length=ks.length:=by unfold skv KC;rw [Xe,Xe]
theorem Zjj {es:Array MapEntry} {seen:Array Nat} {e:MapEntry} {clock:Nat} (hW:WfM es clock) (he:e∈(leftOf es seen).toList):(leftOf es (seen.push e.born)).size<(leftOf es seen).size:=by
 have h:=(C9 hW he).length_eq
 rw [Xl,HO,HO] at h
 omega
theorem Zjk {es:Array MapEntry} {seen:Array Nat} {e:MapEntry} (he:e∈(leftOf es seen).toList):(e.key,e.val)∈kvOf es:=Xk.2 ⟨e,Zb7 he,rfl⟩
theorem Ea (e n:Nat) (l:List ByteArray) (h:n=l.length):share (.own e 1 n (l.map Yl))=Yq l:=by
 subst h
 rw [share,Yk,XH];rfl
set_option maxHeartbeats 4000000 in
theorem ZfU (t :Nd) (hf:FitT t):AF prog 25 [pTr t] (· = .tup [Yq (actR t).1,pInt (actR t).2]):=by
 have e0:pTr t= .agg [pInt t.op,Yl t.act,Y0 t.l]:=rfl
 have hV:=Sl t hf
 rw [e0] at hV ⊢
 refine AF.of_body 30 func25 rfl ntmps25 (Xa rfl) ?_
 intro w0 M0 vs hl hv
 obtain ⟨v0,rfl⟩:=Wl hl
 clear hl hv
 refine Ze ?_
 (refine ZB 1 3 fun h1=>?_<;>refine xL 2 Za (xL 3 Za ?_)<;>refine Zi ?_)
 ((refine yL 7 (Zu 1 KR) fun v7 h=>?_;cases h)<;>(refine cS 8 (cA call24 (hV)) fun v8 h=>?_;cases h)<;>refine xL 9 Ya ?_<;>refine Zc ?_)
 refine cX ?_ ?_<;>intro hb9
 · first|exact bN hb9|(
 refine Ze ?_;(refine xL 2 Za (xL 3 Za ?_)<;>refine Zc ?_)
 refine Y3 (Ks (t:=2) rfl) fun _=>?_;refine Wb (results25) rfl rfl ?_;rw [show actR t=([],1) by unfold actR;rw [US (by simpa using hb9)]];rfl)
 · first | exact bN hb9|(
 (have hv:Ke t=true:=by simpa using hb9);have hok:=Sj hv;have hsz:=RV hv;obtain ⟨ks,hks⟩:∃ks,ks=colS [] (YY t):=⟨_,rfl⟩;(have hR:actR t=if ks.length≤40 then (J2 ks,0) else ([],5):=by unfold actR;rw [UT hv,hks]);(have hnd:ks.Nodup:=by rw [hks];exact LB _ _ Vb);refine Ze ?_;(refine GI 10 fun h10 ho10=>?_<;>refine xL 4 Za ?_<;>refine Zc ?_)
 refine Zq (ZC (l:=10) 1000 rfl rfl) fun _=>?_;(refine Zv ?_<;>refine xL 11 Zb ?_<;>(refine yL 12 (Zu 1 KR) fun v12 h=>?_;cases h)<;>(refine WQ [(1000,h10, .omap (skv (KC []))),(1,_,_)] ⟨rfl,rfl,trivial⟩ ?_;refine JP [1] 13 (call74) (ZeK t hok oM [] h10 v12) (fun v13 p13 h13 hR13=>?_);subst hR13;rw [←hks])<;>refine Zi ?_)
 (refine xL 14 Zb (xL 15 (Hr 1000 underlying76) (xL 16 Yr ?_))<;>refine Zc ?_)
 refine cX ?_ ?_<;>intro hb16
 · first|exact bN hb16|(
 refine Ze ?_;(refine xL 2 Za (xL 3 Za ?_)<;>refine Zc ?_)
 refine Y3 (Ks (t:=2) rfl) fun _=>?_;refine Wb (results25) rfl rfl ?_;rw [Zci] at hb16;rw [hR,US oM];rfl)
 · first | exact bN hb16|(
 rw [Zci] at hb16;rw [UT oM] at hR;refine Ze ?_;(refine xL 5 Za ?_<;>refine Zc ?_)
 refine Zq (En.freeze (l:=1000) (t:=4) rfl rfl) fun _=>?_;(refine Zv ?_<;>refine xL 17 Zb ?_<;>refine ZiT 18 underlying76 (fun b18 r18 c18 es18 hkv18 hWf18=>?_)<;>refine Zc ?_)
 refine Zq (KB 200 9 1 rfl) fun _=>?_;refine ZD (ι:={x:Value×Array Nat×List ByteArray//x.1.oneCell'=true∧(x.2.2++(kvOf (leftOf es18 x.2.1)).map Zn6).Perm ks}) (fun k=>⟨[(18,_,_),(5,k.1.1, .val k.1.1)],[(18,itv r18,itP b18 r18 c18 es18 k.1.2.1),(200,k.1.1, .own 9 1 k.1.2.2.length (k.1.2.2.map Yl))]⟩) (fun k=>(leftOf es18 k.1.2.1).size) ⟨(.slice none 0 0,#[],[]),rfl,by rw [ZiU,←hkv18,Zjh];exact .refl _⟩ (fun a w H=>H.weaken ⟨rfl,rfl,trivial⟩ ⟨rfl,rfl,trivial⟩) ?_;rintro ⟨⟨hov,seen,L⟩,ho,hp⟩;dsimp only;dsimp only at ho hp;have hLl:L.length≤40:=by
  have:=hp.length_eq;rw [Xb] at this;omega
 have hLm:(L.map Yl).length=L.length:=Xe _;refine Ze ?_;(refine ZlO 18 19 hWf18 (fun hlf18=>?_) (fun e18 hle18=>?_)<;>refine xL 20 Zj ?_<;>refine Zc ?_)<;>(
 refine cX ?_ ?_<;>intro hb20
 · first|exact bN hb20|(
 refine Ze ?_;(refine xL 21 (ZlP 18 hWf18 (Zb7 hle18)) ?_<;>refine xL 22 Zj (xL 6 Za ?_)<;>refine Zc ?_)
 obtain ⟨s,hmem,hks,hvs⟩:=Zji (hkv18▸Zjk hle18);rw [hks];(refine Zv ?_<;>refine xL 23 Zb (xL 24 Zb ?_)<;>refine ZO (kk:=1) 25 ζf fun h25 ho25=>?_<;>refine ZW 200 25 26 ζf fun h26 ho26=>?_<;>refine xL 5 Za ?_<;>refine Zc ?_)
 refine Kq (ZC (l:=26) 200 rfl rfl) fun _=>?_;rw [show L.map Yl++[_]=(L++[s]).map Yl from (by rw [Xu];rfl),show L.length+1=(L++[s]).length by simp];refine Zm (
  ⟨(h26,seen.push e18.born,L++[s]),ho26,by
    refine .trans ?_ hp;have h1:=(C9 hWf18 hle18).map Zn6;rw [Xw,hks,hvs] at h1;show (L++[_]++_).Perm _;rw [Xy];exact h1.symm.append_left L⟩
  ) (Zjj hWf18 hle18) ⟨rfl,rfl,trivial⟩ ⟨rfl,rfl,trivial⟩)
 · first|exact bN hb20|(
 refine nav ?_;have hp0:L.Perm ks:=by
  rw [hlf18] at hp;have h1:kvOf (#[]:Array MapEntry)=[]:=rfl;rw [h1,Vd,Xr] at hp;exact hp
 have hLL:(L.map toB).length=L.length:=Xe _;refine Zq (ZH (l:=200) (p':= .own 9 1 (L.map toB).length ((L.map toB).map ZeI)) rfl (by rw [ZlZ,hLL])) fun _=>?_;(refine Zv ?_<;>refine xL 27 Zb ?_<;>refine ZlX (zs:=L.map toB) 200 Zhg ZeJ (call75) ?_<;>refine Zc ?_)
 rw [Zje,ζe hp0];refine Zq (En.freeze (l:=200) (t:=5) rfl rfl) fun _=>?_;rw [Ea _ _ _ (by rw [G4,hLL,hp0.length_eq])];(refine Zv ?_<;>refine xL 29 Zb (xL 2 Za (xL 3 Za ?_))<;>refine Zc ?_)
 refine Wb (results25) rfl rfl ?_;rw [hR]))))
def kyv (k1 g:Nat):Value:= .func (.func k1) #[] #[.pointer (some ⟨g,0,none⟩)]
def kyP (g b clock t:Nat) (es:Array MapEntry):PV:= .oblk (itv g) g (.cells #[.map (some b)] t) [(b, .map es clock)]
def kyE (g b clock t:Nat) (es:Array MapEntry):Ent:=(itv g,kyP g b clock t es)
def Znw (P:Program) (f k1 t:Nat):Prop:=∀(b:Nat) (w:World),Calls P f #[.map (some b)] w fun e w'=>e= .returned (kyv k1 w.heap.size)∧w'=w.alloc (.cells #[.map (some b)] t)
def Zcj (P:Program) (f k1 t T:Nat):Prop:=∀(g b clock:Nat) (es:Array MapEntry) (ks:List ByteArray) (w:World),w.heap[g]? =some (.cells #[.map (some b)] t)→w.heap[b]? =some (.map es clock)→WfM es clock→kvOf es=skv (KC ks)→ks.Nodup→ks.length≤1000000→(∀s∈ks,s.size≤140737488355328)→
 Calls P f #[kyv k1 g] w fun e w'=>∃v,e= .returned v∧w'.ownsRow w.heap.size T 1 v ks.length ((J2 ks).map Value.string)∧Below w.heap.size w w'
section
variable {P:Program} {c:Ctx} {ops:Array Oper} {Q:Exit→Act→World→Prop} {rest:List Oper} {sL hP:List (Nat×Ent)} {o:Oper}
theorem Zn7 {f k1 t:Nat} {x:Operand} {m:Value} {kv:List (Value×Value)} {ats:Array TypeId} (d:Nat) (hA:Znw P f k1 t) (hc:∀args w,(callFunc f args).run P w= .ok (.enter f args) w)
 (k:∀(g b clock:Nat) (es:Array MapEntry),kv=kvOf es→WfM es clock→aL P c ops Q rest ⟨put d (kyv k1 g, .val (kyv k1 g)) sL,put d (kyE g b clock t es) hP⟩)
 (hw:Z8 ops sL o=some true:=by exact rfl) (hd:o.dst=some d:=by exact rfl) (hn:d<c.nt:=by exact Xa rfl) (ho:o.op= .call {callee:= .value (.func f),args:= #[x],argTypes:=ats}:=by exact rfl) (hx:ev sL x=some (m, .smap kv):=by exact rfl) (hl:lk hP d=none:=by exact rfl):aL P c ops Q (o::rest) (⟨sL,hP⟩:St):=
 YS hw fun a w F H=>by
  obtain ⟨hv,hS⟩:=H.rd.ev hx
  cases hS with
  | smap b es clock hM h hW=>
    have key:HoldsF c ⟨put d (kyv k1 w.heap.size, .val (kyv k1 w.heap.size)) sL,put d (kyE w.heap.size b clock t es) hP⟩ (fun l'=>if l'=d then (fun x=>x=w.heap.size) else F l') (a.put (some d) (kyv k1 w.heap.size)) (w.alloc (.cells #[.map (some b)] t)):=by
     refine H.change (fun l'=>l'=d) hn ((Ext.alloc _ _).chg) (fun l' x hne hx'=>?_) (fun l' x b' hT hx' hb=>?_) (fun hm l' u q hT hx'=>?_) (fun l1 l2 _ _ _ h1 h2 hne=>UU (h1.trans h2.symm) hne) (fun hm=> .val _)
     · rcases Yt hx' with ⟨e1,_⟩|⟨_,e1⟩
       · exact UU e1.symm hne
       · exact ⟨e1,by simp [hne]⟩
     · subst hT;simp only [if_true] at hb;exact .inr (by rw [hb];exact Xg _)
     · subst hT;rw [Yf] at hx';unfold kyE kyP at hx'
       cases hx';simp only [if_true];refine .oblk w.heap.size rfl ?_ (fun p hp=>?_) (fun x=>Iff.rfl)
       · show (w.heap.push _)[w.heap.size]? =_;simp
       · rw [Xi] at hp;subst hp;exact ⟨(Ext.alloc w _).block h,fun hb=>hM (hm b (Wm h) hb)⟩
    have hrun:(execOp a.eval o).run P w= .ok (.enter f #[.map (some b)]) w:=by
     have hev:a.eval (.func f)= .func (.func f) #[] #[]:=rfl;simp [execOp,ho,resolve,Deferred.ofValue,hev,invoke,hv,hc]
    unfold Oper.wp;rw [hrun,Oper.upon_enter];refine (hA b w).mono fun e' w' ⟨he,hw'⟩=>?_;subst he hw';rw [hd];exact k _ _ _ _ rfl hW _ _ ⟨_,key⟩
theorem Zhh {f k1 t T g b clock:Nat} {es:Array MapEntry} {q:PV} {x:Operand} {ats:Array TypeId} {ks:List ByteArray} (l d:Nat) (hA:Zcj P f k1 t T) (hc:∀args w,(callFunc f args).run P w= .ok (.enter f args) w) (hdr:¬c.dr)
 (hW:WfM es clock) (hkv:kvOf es=skv (KC ks)) (hnd:ks.Nodup) (hlen:ks.length≤1000000) (hsz:∀s∈ks,s.size≤140737488355328)
 (k:∀v:Value,v.oneCell'=true→aL P c ops Q rest ⟨put d (v, .val v) sL,put d (v, .own T 1 ks.length ((J2 ks).map Yl)) hP⟩)
 (hw:Z8 ops sL o=some true:=by exact rfl) (hd:o.dst=some d:=by exact rfl) (hn:d<c.nt:=by exact Xa rfl) (ho:o.op= .call {callee:= .value (.func f),args:= #[x],argTypes:=ats}:=by exact rfl) (hx:ev sL x=some (kyv k1 g,q):=by exact rfl) (hl:lk hP l=some (kyE g b clock t es):=by exact rfl) (hld:lk hP d=none:=by exact rfl):aL P c ops Q (o::rest) (⟨sL,hP⟩:St):=
 YS hw fun a w F H=>by
  have hv:=(H.rd.ev hx).1;obtain ⟨h,hs,hF⟩:=(H.tr l _ _ hl).blk;obtain ⟨hb,_⟩:=hs (b, .map es clock) sM;dsimp only at hb;have hrun:(execOp a.eval o).run P w= .ok (.enter f #[kyv k1 g]) w:=by
   have hev:a.eval (.func f)= .func (.func f) #[] #[]:=rfl;simp [execOp,ho,resolve,Deferred.ofValue,hev,invoke,hv,hc]
  unfold Oper.wp;rw [hrun,Oper.upon_enter];refine (hA g b clock es ks w h hb hW hkv hnd hlen hsz).mono fun e' w' ⟨v,he,hown,hbel⟩=>?_;subst he;rw [hd];have hone:v.oneCell'=true:=by
   rcases hown.2 with ⟨h1,_⟩|⟨g',cap',cur,e1,_⟩
   · rw [h1];rfl
   · rw [e1];rfl
  have hlow:∀b,v.ownBlock=some b→w.heap.size≤b:=fun b hb'=>by
   rcases hown.2 with ⟨h1,_⟩|⟨g',cap',cur,e1,e2,_⟩
   · rw [h1] at hb';simp [Value.ownBlock] at hb'
   · rw [e1] at hb';simp [Value.ownBlock] at hb';omega
  have hown0:w'.ownsRow 0 T 1 v ks.length ((J2 ks).map Value.string):=by
   refine ⟨hown.1,?_⟩;rcases hown.2 with h1|⟨g',cap,cur,e1,e2,r⟩
   · exact .inl h1
   · exact .inr ⟨g',cap,cur,e1,Xd _,r⟩
  have hch:Chg (fun b=>∃l x,l=d∧lk hP l=some x∧F l b) w w':=⟨hbel.os,hbel.tape,hbel.output,hbel.size,fun i hi _=>hbel.block i hi⟩;refine k v hone _ _ ⟨fun l'=>if l'=d then (fun b=>v.ownBlock=some b) else F l',H.change (fun l'=>l'=d) hn hch (fun l' x hne hx'=>?_) (fun l' x b' hT hx' hb=>?_) (fun hm l' u q hT hx'=>?_) (fun l1 l2 _ _ _ h1 h2 hne=>UU (h1.trans h2.symm) hne) (fun hm=> .val _) (fun h=>UU h hdr)⟩
  · rcases Yt hx' with ⟨e1,_⟩|⟨_,e1⟩
    · exact UU e1.symm hne
    · exact ⟨e1,by simp [hne]⟩
  · subst hT;simp only [if_true] at hb;exact .inr (hlow b' hb)
  · subst hT;rw [Yf] at hx'
    cases hx';simp only [if_true];refine .own ((J2 ks).map Value.string) (fun _ _=>False) hown0 sM (fun t v p hv hp=>?_) (fun _ _ _ _ _ _ h=>h.elim) (fun _ _ _ h=>h.elim) (fun b=>sM);rw [Xh,XA] at hv hp;obtain ⟨b1,hb1,rfl⟩:=hv;obtain ⟨b2,hb2,rfl⟩:=hp;rw [hb1] at hb2;cases hb2;exact .shr (.val _) (fun _ h=>h)
end
open Go.Maps Go.Sort Go.Shelf in
def rdK (_:Value):Option (DataW Unit×List MemPlace):=some (.lit (.bool true),[])
section
open Go.WideElems Go.MapKept Go.WideMaps
theorem Zn8 {P:Program} {k:TypeId} (hk:P.underlying k=some .string) {s:ByteArray} (hs:s.size≤maxLen):rg P k rdK ⟨.string s, .bool true,0⟩=(.string s.data.toList, .lit (.bool true)):=by
 have:rd P k rdK ⟨.string s, .bool true,0⟩=some (.string s.data.toList, .lit (.bool true)):=rd_mk (R:=rdK) (val:= .bool true) (born:=0) (yv:=(.lit (.bool true),[])) (keyOf_string_mk hk hs) rfl
 exact rg_of this
theorem Zl0 {P:Program} {k:TypeId} (hk:P.underlying k=some .string) {w:World} {b clock:Nat} {es:Array MapEntry} {ks:List ByteArray} (hb:w.heap[b]? =some (.map es clock)) (hW:WfM es clock) (hkv:kvOf es=skv (KC ks)) (hnd:ks.Nodup) (hlen:ks.length≤1000000) (hsz:∀s∈ks,s.size≤140737488355328):∃D0,w.ownsMap P k rdK b ks.length D0∧(strKeys D0).Perm (ks.map toB)∧Maps.size D0=ks.length:=by
 have hml:∀s∈ks,s.size≤maxLen:=fun s hs=>by have:=hsz s hs;unfold maxLen;omega
 have hkv2:es.toList.map (fun x=>(x.key,x.val))=ks.map fun s=>(Value.string s,Value.bool true):=by
  have:kvOf es=ks.map fun s=>(Value.string s,Value.bool true):=by rw [hkv];unfold skv KC;rw [XH];rfl
  exact this
 have hsize:es.size=ks.length:=by have:=congrArg List.length hkv2;simpa using this
 have hrg:es.toList.map (rg P k rdK)=ks.map fun s=>(Lit.string s.data.toList,(.lit (.bool true):DataW Unit)):=by
  have h1:es.toList.map (rg P k rdK)=(es.toList.map fun x=>(x.key,x.val)).map fun p=>rg P k rdK ⟨p.1,p.2,0⟩:=by
   rw [XH];rfl
  rw [h1,hkv2,XH];exact VQ fun s hs=>Zn8 hk (hml s hs)
 have hread:∀x∈es.toList,∃y,rd P k rdK x=some y:=fun x hx=>by
  have:(x.key,x.val)∈es.toList.map (fun x=>(x.key,x.val)):=Xk.2 ⟨x,hx,rfl⟩;rw [hkv2] at this;obtain ⟨s,hs,e⟩:=Xk.1 this;obtain ⟨xk,xv,xb⟩:=x
  cases e;exact ⟨_,rd_mk (R:=rdK) (yv:=(.lit (.bool true),[])) (keyOf_string_mk hk (hml s hs)) rfl⟩
 refine ⟨.map ((es.toList.map (rg P k rdK)).foldr DataW.insert []),⟨es,clock,hb,⟨by rw [hsize];unfold maxLen;omega,?_,hread⟩,by rw [hsize];exact Xg _,rfl⟩,?_,?_⟩
 · refine ⟨hW.1,hW.2,?_⟩;have h3:es.toList.map (·.key)=ks.map Value.string:=by
    have:=congrArg (List.map Prod.fst) hkv2;rw [XH,XH] at this;exact this
   rw [h3];exact V8.2 (hnd.imp fun h e=>h (by cases e;rfl))
 · rw [hrg];have h2:=(WideShapes.sorted_perm (ks.map fun s=>(Lit.string s.data.toList,(.lit (.bool true):DataW Unit)))).map fun p=>strOf p.1;rw [XH] at h2;exact h2
 · show List.length _=_;rw [(WideShapes.sorted_perm _).length_eq,Xe,VH,hsize]
end
theorem Zpb:Znw prog 50 95 76:=fun b w=>callsIn_wide.1 (AnyZ.keys_in (ρ:=Tryz.keysA_ren) Tryz.keysA Fence.wide 5 trivial rfl (some b) w)
theorem Zn9 (m:Nat):AnyZ.SortsIn prog Tryz.sortedA_ren Fence.wide m:=
 ⟨fun blk off cap ss W hH hblk hsz=>callsIn_wide.2 (Tryz.slices_Sort_string blk off cap ss W hH hblk hsz),fun p cap W=>callsIn_wide.2 (Tryz.slices_Sort_string_none p cap W)⟩
theorem Zjl:Zcj prog 49 95 76 9:=fun g b clock es ks w hg hb hW hkv hnd hlen hsz=>by
 obtain ⟨D0,hown,hperm,hsize⟩:=Zl0 (P:=prog) (k:=9) underlying9 hb hW hkv hnd hlen hsz
 have hseq:SeqGives Fence.wide 2 prog 95 #[.pointer (some ⟨g,0,none⟩)] encStr (fun ss=>ss.Perm (strKeys D0)) (Maps.size D0) w:=
  AnyZ.keys_gives (ρ:=Tryz.keysA_ren) {Tryz.keysA with} Fence.wide _ trivial rfl oM g b _ D0 w (Wm hg) (by simp [World.cell?,hg]) hown
 have cS:=AnyZ.sorted_in (ρ:=Tryz.sortedA_ren) Tryz.sortedA Fence.wide 5 trivial trivial trivial trivial rfl oM (Zn9 _) (call75) 95 #[.pointer (some ⟨g,0,none⟩)] trivial (call95) _ _ (by rw [hsize];unfold maxLen;omega) (by rw [hsize];omega) _ hseq
 refine (callsIn_wide.1 cS).mono ?_
 rintro e w' ⟨v,ss,rfl,hS,hrow,_,hbel⟩
 have hp:=hS.trans hperm
 refine ⟨v,rfl,?_,hbel⟩
 have e1:(ss.mergeSort fun x y=>decide (x≤y)).map encStr=(J2 ks).map Value.string:=by
  rw [mergeSort_of_perm hp];unfold J2;rw [XH];rfl
 have e2:ss.length=ks.length:=by rw [hp.length_eq,Xe]
 rw [e1,e2] at hrow
 exact hrow
theorem Kg {α:Type} {l m:List α} (h:l<+:m) {i:Nat} {x:α} (hx:l[i]? =some x):m[i]? =some x:=by
 obtain ⟨r,rfl⟩:=h
 rw [Vj (Zf hx)];exact hx
section
variable {α κ:Type} [DecidableEq κ]
def posK (f:α→κ):List α→κ→Nat
 |[],_=>0
 |x::l,k=>if f x=k then 0 else posK f l k+1
theorem Re {f:α→κ}:∀{l:List α} {k:κ},posK f l k<l.length↔∃x∈l,f x=k
 |[],k=>by simp [posK]
 | x :: l,k=>by
   have:=Re (f:=f) (l:=l) (k:=k);rw [posK,Xl];split
   · rename_i h;exact ⟨fun _=>⟨x,Xm ..,h⟩,fun _=>oM⟩
   · rename_i h;rw [UF,this];constructor
     · rintro ⟨y,h1,h2⟩;exact ⟨y,Xn _ h1,h2⟩
     · rintro ⟨y,h1,h2⟩;rcases Xs.1 h1 with rfl|h1
       · exact UU h2 h
       · exact ⟨y,h1,h2⟩
theorem Zck {f:α→κ}:∀{l:List α} {k:κ} {x:α},l[posK f l k]? =some x→f x=k
 |[],k,x,h=>by simp [posK] at h
 | y ::l,k,x,h=>by
   rw [posK] at h;split at h
   · rename_i h1;simp only [Vw,Option.some.injEq] at h;subst h;exact h1
   · simp only [V7] at h;exact Zck h
theorem P0 {f:α→κ} {l:List α} {k:κ} (h:posK f l k<l.length):∃x,l[posK f l k]? =some x∧f x=k:=by
 obtain ⟨x,hx⟩:=Zt h
 exact ⟨x,hx,Zck hx⟩
theorem Sr {f:α→κ}:∀{l:List α} {k:κ} (m:List α),posK f l k<l.length→posK f (l++m) k=posK f l k
 |[],k,m,h=>by simp at h
 | x ::l,k,m,h=>by
   rw [Ve,posK,posK];rw [posK] at h;split
   · rfl
   · rename_i h1;rw [US h1,Xl,UF] at h;rw [Sr m h]
theorem P1 {f:α→κ}:∀{l:List α} {x:α},¬posK f l (f x)<l.length→posK f (l++[x]) (f x)=l.length
 |[],x,_=>by simp [posK]
 | y ::l,x,h=>by
   rw [posK] at h;rw [Ve,posK];split
   · rename_i h1;rw [UT h1,Xl] at h;omega
   · rename_i h1;rw [US h1,Xl,UF] at h;rw [P1 h,Xl]
theorem G5 {κ':Type} [DecidableEq κ'] {f:α→κ} {g:α→κ'}:∀{l:List α} {k:κ} {k':κ'},(∀x∈l,f x=k↔g x=k')→posK f l k=posK g l k'
 |[],_,_,_=>rfl
 | x::l,k,k',h=>by
   rw [posK,posK,G5 fun y hy=>h y (Xn _ hy)];have h1:=h x (Xm ..);by_cases h2:f x=k
   · rw [UT h2,UT (h1.1 h2)]
   · rw [US h2,US fun h3=>h2 (h1.2 h3)]
theorem G6 {f:α→κ}:∀{l:List α} {i:Nat} {x:α},(l.map f).Nodup→l[i]? =some x→posK f l (f x)=i
 |[],i,x,_,h=>by simp at h
 | y::l,0,x,_,h=>by
   simp only [Vw,Option.some.injEq] at h;subst h;rw [posK,UT rfl]
 | y::l,i+1,x,hn,h=>by
   simp only [V7] at h;rw [Xw,Vf] at hn;rw [posK,US fun e=>hn.1 (by rw [e];exact List.mem_map_of_mem (Xc h)),G6 hn.2 h]
def YM (f:α→κ):Nat→List α→List (κ×Value)
 |_,[]=>[]
 |off,x::l=>(f x, .int .i64 (off:Nat))::YM f (off+1) l
theorem L5 (f:α→κ):∀(l:List α) (off:Nat) (k:κ),Gm (YM f off l) k=if posK f l k<l.length then some (.int .i64 ((off+posK f l k:Nat):Int)) else none
 |[],off,k=>by simp [YM,Gm,posK]
 | x :: l,off,k=>by
   rw [YM,Gm,posK,L5 f l (off+1) k];by_cases h:f x=k
   · rw [UT h.symm,UT h,UT sM];simp
   · rw [US (fun e=>h e.symm),US h,Xl];by_cases h2:posK f l k<l.length
     · rw [UT h2,UT oM];congr 3;omega
     · rw [US h2,US oM]
theorem P2 (f:α→κ) (x:α):∀(l:List α) (off:Nat),¬posK f l (f x)<l.length→HP (YM f off l) (f x) (.int .i64 ((off+l.length:Nat):Int))=YM f off (l++[x])
 |[],off,_=>by simp [YM,HP]
 | y ::l,off,h=>by
   rw [posK] at h;split at h
   · rename_i h1;rw [Xl] at h;omega
   · rename_i h1;rw [Xl,UF] at h;rw [YM,HP,US (fun e=>h1 e.symm),Ve,YM,←P2 f x l (off+1) h,Xl];congr 4;omega
theorem Zcl (f:α→κ):∀(l:List α) (off:Nat),(YM f off l).length=l.length
 |[],_=>rfl
 |x::l,off=>by rw [YM,Xl,Zcl f l,Xl]
def visit (f:α→κ) (cap:Nat) (o:List α) (x:α):Option (List α×Nat):=
 if posK f o (f x)<o.length then some (o,posK f o (f x)) else if cap≤o.length then none else some (o++[x],o.length)
theorem Wc {f:α→κ} {cap:Nat} {o:List α} {x:α} (h:posK f o (f x)<o.length):visit f cap o x=some (o,posK f o (f x)):=by unfold visit;rw [UT h]
theorem Wd {f:α→κ} {cap:Nat} {o:List α} {x:α} (h:¬posK f o (f x)<o.length) (hc:o.length<cap):visit f cap o x=some (o++[x],o.length):=by unfold visit;rw [US h,US oM]
theorem P3 {f:α→κ} {cap:Nat} {o:List α} {x:α} (h:¬posK f o (f x)<o.length) (hc:cap≤o.length):visit f cap o x=none:=by unfold visit;rw [US h,UT hc]
end
structure Srch (α κ:Type) where
 key:α→κ
 cap:Nat
 m:Nat
 step:Nat→α→Nat→α
section
variable {α κ:Type} [DecidableEq κ] (W:Srch α κ)
def Srch.row (i:Nat) (x:α) (o:List α):Nat→Option (List α×List Nat)
 |0=>some (o,[])
 |s+1=>(Srch.row i x o s).bind fun q=>(visit W.key W.cap q.1 (W.step i x s)).map fun v=>(v.1,q.2++[v.2])
def Srch.upto (x0:α):Nat→Option (List α×List (List Nat))
 |0=>some ([x0],[])
 | i+1=>(Srch.upto x0 i).bind fun q=>match q.1[i]? with
   |none=>some q
   |some x=>(W.row i x q.1 W.m).map fun v=>(v.1,q.2++[v.2])
def Srch.all (x0:α):Option (List α×List (List Nat)):=W.upto x0 W.cap
variable {W}
theorem Srch.row_snoc {i:Nat} {x:α} {o o' o'':List α} {r:List Nat} {s n:Nat} (h:W.row i x o s=some (o',r)) (hv:visit W.key W.cap o' (W.step i x s)=some (o'',n)):W.row i x o (s+1)=some (o'',r++[n]):=by
 rw [Srch.row,h,Vc,hv];rfl
theorem Srch.row_out {i:Nat} {x:α} {o o':List α} {r:List Nat} {s:Nat} (h:W.row i x o s=some (o',r)) (hv:visit W.key W.cap o' (W.step i x s)=none):W.row i x o (s+1)=none:=by
 rw [Srch.row,h,Vc,hv];rfl
theorem Srch.row_none {i:Nat} {x:α} {o:List α} {s:Nat} (h:W.row i x o s=none):∀t,W.row i x o (s+t)=none
 |0=>h
 |t+1=>by rw [←XY,Srch.row,Srch.row_none h t];rfl
theorem Srch.upto_none {x0:α} {i:Nat} (h:W.upto x0 i=none):∀t,W.upto x0 (i+t)=none
 |0=>h
 |t+1=>by rw [←XY,Srch.upto,Srch.upto_none h t];rfl
theorem Srch.upto_stop {x0:α} {i:Nat} {q:List α×List (List Nat)} (h:W.upto x0 i=some q) (hl:q.1.length≤i):∀t,W.upto x0 (i+t)=some q
 |0=>h
 |t+1=>by rw [←XY,Srch.upto,Srch.upto_stop h hl t,Vc,XM oM]
theorem Srch.upto_snoc {x0 x:α} {i:Nat} {o o':List α} {rows:List (List Nat)} {r:List Nat} (h:W.upto x0 i=some (o,rows)) (hx:o[i]? =some x) (hr:W.row i x o W.m=some (o',r)):W.upto x0 (i+1)=some (o',rows++[r]):=by
 rw [Srch.upto,h,Vc];dsimp only;rw [hx];dsimp only;rw [hr];rfl
theorem Srch.upto_out {x0 x:α} {i:Nat} {o:List α} {rows:List (List Nat)} (h:W.upto x0 i=some (o,rows)) (hx:o[i]? =some x) (hr:W.row i x o W.m=none):W.upto x0 (i+1)=none:=by
 rw [Srch.upto,h,Vc];dsimp only;rw [hx];dsimp only;rw [hr];rfl
structure Srch.Met (W:Srch α κ) (P:α→Prop) (x0:α) (o:List α):Prop where
 zero:o[0]? =some x0
 cap:o.length≤W.cap
 nd:(o.map W.key).Nodup
 p:∀x∈o,P x
theorem Srch.Met.start {P:α→Prop} {x0:α} (hc:1≤W.cap) (hP:P x0):W.Met P x0 [x0]:=⟨rfl,hc,sM,by simpa using hP⟩
theorem Srch.Met.pos {P:α→Prop} {x0:α} {o:List α} (h:W.Met P x0 o):0<o.length:=Zf h.zero
theorem OO {f:α→κ} {cap:Nat} {o o':List α} {x:α} {n:Nat} (h:visit f cap o x=some (o',n)):o<+:o'∧n<o'.length∧posK f o' (f x)=n:=by
 unfold visit at h
 split at h
 · rename_i h1
   cases h;exact ⟨Vx _,h1,rfl⟩
 · rename_i h1;split at h
   · cases h
   · cases h;exact ⟨Ut _ _,sM,P1 h1⟩
theorem Srch.Met.visit {P:α→Prop} {x0 x:α} {o o':List α} {n:Nat} (h:W.Met P x0 o) (hx:P x) (hv:visit W.key W.cap o x=some (o',n)):W.Met P x0 o':=by
 unfold Go.Proofs.YtgfabnhpllkebaaGreatDoor.visit at hv
 split at hv
 · cases hv;exact h
 · rename_i h1;split at hv
   · cases hv
   · rename_i h2
     cases hv;refine ⟨?_,by rw [Xb,Xx];omega,?_,fun y hy=>?_⟩
     · rw [Vj h.pos];exact h.zero
     · rw [Xu,VE];refine ⟨h.nd,sM,fun a ha b hb e=>h1 (Re.2 ?_)⟩;subst e;obtain ⟨y,hy,rfl⟩:=Xk.1 ha;simp at hb;exact ⟨y,hy,hb⟩
     · rcases Xp.1 hy with hy|hy
       · exact h.p y hy
       · rw [Xi.1 hy];exact hx
theorem Srch.Met.row {P:α→Prop} {x0 x:α} {i:Nat} {o:List α} (h:W.Met P x0 o) (hx:∀s,s<W.m→P (W.step i x s)):∀{s:Nat} {o':List α} {r:List Nat},s≤W.m→W.row i x o s=some (o',r)→W.Met P x0 o'∧o<+:o'∧r.length=s∧∀(t n:Nat),r[t]? =some n→n<o'.length∧posK W.key o' (W.key (W.step i x t))=n
 | 0,o',r,_,hr=>by
   rw [Srch.row] at hr;cases hr;exact ⟨h,Vx _,rfl,fun t n ht=>by simp at ht⟩
 | s + 1,o',r,hs,hr=>by
   rw [Srch.row,XW] at hr;obtain ⟨⟨o1,r1⟩,h1,h2⟩:=hr;obtain ⟨⟨o2,n⟩,h3,h4⟩:=XA.1 h2
   cases h4;dsimp only at h3 ⊢;obtain ⟨h5,h6,h7,h8⟩:=Srch.Met.row h hx oM h1;obtain ⟨h9,h10,h11⟩:=OO h3;refine ⟨h5.visit (hx s oM) h3,h6.trans h9,by rw [Xb,h7];rfl,fun t n' ht=>?_⟩;rw [V9] at ht;split at ht
   · obtain ⟨h12,h13⟩:=h8 t n' ht;obtain ⟨e,rfl⟩:=h9;refine ⟨by rw [Xb];omega,?_⟩;rw [Sr e (by rw [h13];exact h12)];exact h13
   · have h14:t=s:=by
      have:=Zf ht;simp only [Xx] at this;omega
     subst h14;rw [h7,V3] at ht;simp only [Vw,Option.some.injEq] at ht;subst ht;exact ⟨h10,h11⟩
structure Srch.Ok (W:Srch α κ) (P:α→Prop) (x0:α) (o:List α) (rows:List (List Nat)):Prop extends W.Met P x0 o where
 len:∀r∈rows,r.length=W.m
 to:∀(i:Nat) (x:α) (r:List Nat) (t n:Nat),o[i]? =some x→rows[i]? =some r→r[t]? =some n→n<o.length∧posK W.key o (W.key (W.step i x t))=n
theorem Srch.ok {P:α→Prop} {x0:α} (hc:1≤W.cap) (h0:P x0) (hP:∀i x s,P x→s<W.m→P (W.step i x s)):∀{i:Nat} {o:List α} {rows:List (List Nat)},W.upto x0 i=some (o,rows)→W.Ok P x0 o rows∧(i≤o.length→rows.length=i)∧(o.length≤i→rows.length=o.length)
 | 0,o,rows,h=>by
   rw [Srch.upto] at h;cases h;exact ⟨⟨Srch.Met.start hc h0,sM,sM⟩,fun _=>rfl,fun h=>by simp at h⟩
 | i + 1, o,rows,h=>by
   rw [Srch.upto,XW] at h;obtain ⟨⟨o1,rows1⟩,h1,h2⟩:=h;obtain ⟨h3,h4,h4'⟩:=Srch.ok hc h0 hP h1;dsimp only at h2
   cases hx:o1[i]? with
   | none=>
     rw [hx] at h2;cases h2;have:=Up.1 hx;exact ⟨h3,fun h5=>oM,fun _=>h4' this⟩
   | some x=>
     rw [hx] at h2;obtain ⟨⟨o2,r⟩,h5,h6⟩:=XA.1 h2
     cases h6;dsimp only;have hil:=Zf hx;have h4:=h4 oM;obtain ⟨h7,h8,h9,h10⟩:=h3.toMet.row (fun s hs=>hP i x s (h3.p x (Xc hx)) hs) (Xg _) h5;have hle:=h8.length_le;refine ⟨⟨h7,fun r' hr'=>?_,fun j y r' t n hj hr' ht=>?_⟩,fun _=>by rw [Xb,h4];rfl,fun _=>by rw [Xb,h4,Xx];omega⟩
     · rcases Xp.1 hr' with hr'|hr'
       · exact h3.len r' hr'
       · rw [Xi.1 hr'];exact h9
     · rw [V9] at hr';split at hr'
       · rename_i hjl;obtain ⟨z,hz⟩:=Zt (show j<o1.length by omega);have hzy:=Kg h8 hz;rw [hzy] at hj;cases hj;obtain ⟨h12,h13⟩:=h3.to j y r' t n hz hr' ht;obtain ⟨e,rfl⟩:=h8;refine ⟨by rw [Xb];omega,?_⟩;rw [Sr e (by rw [h13];exact h12)];exact h13
       · have hj2:j=i:=by
          have:=Zf hr';simp only [Xx] at this;omega
         subst hj2;rw [h4,V3] at hr';simp only [Vw,Option.some.injEq] at hr';subst hr';have hzy:=Kg h8 hx;rw [hzy] at hj;cases hj;exact h10 t n ht
theorem Srch.all_some {x0:α} {i:Nat} {q:List α×List (List Nat)} (h:W.upto x0 i=some q) (hl:q.1.length≤i) (hi:i≤W.cap):W.all x0=some q:=by
 have:=Srch.upto_stop h hl (W.cap-i)
 rw [show i+(W.cap-i)=W.cap by omega] at this
 exact this
theorem Srch.all_none {x0:α} {i:Nat} (h:W.upto x0 i=none) (hi:i≤W.cap):W.all x0=none:=by
 have:=Srch.upto_none h (W.cap-i)
 rw [show i+(W.cap-i)=W.cap by omega] at this
 exact this
theorem Srch.row_fails {i:Nat} {x:α} {o:List α} {s:Nat} (h:W.row i x o s=none) (hs:s≤W.m):W.row i x o W.m=none:=by
 have:=Srch.row_none h (W.m-s)
 rwa [show s+(W.m-s)=W.m by omega] at this
end
theorem R1 (e n:Nat) (l:List ByteArray):share (.own e 1 n (l.map Yl))= .sl n (l.map Yl):=by
 rw [share,Yk,XH];rfl
def Ji:List Int→Int
 |[]=>0
 |x::l=>if x=0 then Ji l else x
section
variable {κ:Type} [DecidableEq κ]
end
end Go.Proofs.YtgfabnhpllkebaaGreatDoor
namespace Go.En
open Go.RowKit Go.Cb
theorem AFg.exact2 {P:Program} {g:Nat} {p q:PV} {x:Value} (h:AFg P g [p,q] (· = .val x)) {M:BS} {W:World} {u v:Value} (hu:Shr M W u p) (hv:Shr M W v q):
 Calls P g #[u,v] W fun e w'=>e= .returned x∧∃q os',w'=Go.Sort.grow (W.drewN q) os':=h.exact (vs:=[u,v]) rfl fun i a r h1 h2=>by
 match i with
 |0=>simp at h1 h2;subst h1 h2;exact hu
 |1=>simp at h1 h2;subst h1 h2;exact hv
 |i+2=>simp at h1
end Go.En
namespace Go.Proofs.YtgfabnhpllkebaaGreatDoor
open Go.RowKit Go.Cb Go.En Tryz
set_option linter.all false
set_option maxRecDepth 100000
theorem Zl1 (l:List Int):AFg prog 204 [pInts l] (· =pInt (Ji l)):=by
 refine AFg.of_body 18 func204 rfl ntmps204 (Xa rfl) ?_
 intro w0 M0 vs hl hv
 obtain ⟨v0,rfl⟩:=Wl hl
 clear hl hv
 refine YZ 0 rfl fun hlen=>?_
 refine Ze ?_
 (refine xL 2 Za ?_<;>refine Zi ?_)
 (refine xL 3 Za ?_<;>refine Zi ?_)
 (refine xL 6 Zb (xL 7 (ZT Zp) (xL 8 Zb ?_))<;>refine Zc ?_)
 refine ZD (ι:={k:Nat//k≤l.length∧Ji l=Ji (l.drop k)}) (fun k=>⟨[(3,_,_),(6,_,_),(7,_,_),(8, .int .i64 k.1,pInt k.1)],[]⟩) (fun k=>l.length-k.1) ⟨0,oM,rfl⟩ (fun a w H=>H.weaken ⟨rfl,rfl,rfl,rfl,trivial⟩ trivial) ?_
 rintro ⟨k,hk,hp⟩
 dsimp only
 refine Ze ?_
 (refine xL 9 ZP ?_<;>refine Zc ?_)
 refine cX ?_ ?_<;>intro hb9
 · first |exact bN hb9|(
 obtain ⟨x,hx⟩:=Zt (show k<l.length by omega);have e1:=Z7 (f:=pInt) hx;(have hs:Ji (l.drop k)=if x=0 then Ji (l.drop (k+1)) else x:=by rw [PF hx,Ji]);refine Ze ?_;(refine xL 10 (ZI Zp) ?_<;>(refine yL 11 (Z9 Zg) fun v11 h=>?_;cases h)<;>refine xL 5 Za ?_<;>refine Zi ?_)
 (refine xL 12 Zb (xL 13 Zb (xL 14 Yv ?_))<;>refine Zc ?_)
 refine cX ?_ ?_<;>intro hb14
 · first|exact bN hb14|(
 refine Ze ?_;(refine xL 15 Zb (xL 2 Za ?_)<;>refine Zc ?_)
 refine Zz (results204) rfl ?_;rw [hp,hs,US hb14])
 · first|exact bN hb14|(
 refine Ze ?_;(refine xL 16 ZG (xL 8 Zb ?_)<;>refine Zc ?_)
 refine Zm (
  ⟨k+1,oM,by rw [hp,hs,UT (by simpa using hb14)]⟩
  ) (by dsimp only;omega) ⟨rfl,rfl,rfl,rfl,trivial⟩ trivial))
 · first|exact bN hb9|(
 refine Ze ?_;(refine xL 17 Zb (xL 2 Za ?_)<;>refine Zc ?_)
 refine Zz (results204) rfl ?_;rw [hp,Vr oM];rfl)
structure M4 where
 a:List (ByteArray×Int)
 s:List (ByteArray×Int)
 f:List (ByteArray×Int)
 q:List (Pr×Int)
section
variable {κ:Type} [DecidableEq κ]
structure MOk (m:List (κ×Int)) (b:Nat):Prop where
 nd:(m.map (·.1)).Nodup
 len:m.length≤b
 bd:∀x∈m,0≤x.2∧x.2≤b*1048576
end
structure KOk (st:M4) (b:Nat):Prop where
 a:MOk st.a b
 s:MOk st.s b
 f:MOk st.f b
 q:MOk st.q b
 k:∀x∈st.q,prOk x.1
end Go.Proofs.YtgfabnhpllkebaaGreatDoor
namespace Go.En
open Go.RowKit Go.Cb
end Go.En
namespace Go.Proofs.YtgfabnhpllkebaaGreatDoor
open Go.RowKit Go.Cb Go.En Tryz
set_option linter.all false
set_option maxRecDepth 100000
theorem ZaR {α:Type}:∀(ps:List PV) (a b c:List PV) (j:Nat),a.length=j→b.length=ps.length→Se (a++b++c) j ps=a++ps++c
 | [],a,b,c,j,ha,hb=>by
   have:b=[]:=XR hb;subst this;rfl
 | p ::ps,a,x::b,c,j,ha,hb=>by
   rw [Se];have h1:(a++(x::b)++c).set j p=(a++[p])++b++c:=by
    subst ha;rw [Xy,List.set_append_right _ _ (Xg _),V3];simp
   rw [h1,ZaR (α:=α) ps (a++[p]) b c (j+1) (by simp [ha]) (by simpa using hb)];simp
def KS {α:Type} (p:α→Bool) (l:List α) (k:Nat):List α:=(l.take k).filter fun s=> !p s
theorem L6 {α:Type} {p:α→Bool} {l:List α} {k:Nat} {x:α} (hx:l[k]? =some x) (h:p x=true):KS p l (k+1)=KS p l k:=by
 unfold KS;rw [ZR hx,XU];simp [h]
theorem Eb {α:Type} {p:α→Bool} {l:List α} {k:Nat} {x:α} (hx:l[k]? =some x) (h:p x=false):KS p l (k+1)=KS p l k++[x]:=by
 unfold KS;rw [ZR hx,XU];simp [h]
theorem P4 {α:Type} (p:α→Bool) (l:List α) (k:Nat):(KS p l k).length≤k:=by
 unfold KS
 have h1:=Vg (fun s=> !p s) (l.take k)
 rw [Xo] at h1
 omega
def RD {α:Type} (p:α→Bool) (l:List α) (k:Nat):List α:=KS p l k++l.drop (KS p l k).length
theorem Zl2 {α:Type} {p:α→Bool} {l:List α} {k:Nat} {x:α} (hx:l[k]? =some x):(RD p l k)[k]? =some x:=by
 have h:=P4 p l k
 unfold RD
 rw [Vo h,Vm,show (KS p l k).length+(k-(KS p l k).length)=k by omega]
 exact hx
theorem Zjm {α:Type} (p:α→Bool) (l:List α) {k:Nat} (hk:k≤l.length):(RD p l k).length=l.length:=by
 have h:=P4 p l k
 unfold RD
 rw [Xb,Ug];omega
theorem Zjn {α:Type} {f:α→List PV} {m:Nat} (hf:∀x,(f x).length=m) {p:α→Bool} {l:List α} {k:Nat} {x:α} (hx:l[k]? =some x) (h:p x=false):
 Se ((RD p l k).flatMap f) ((KS p l k).length*m) (f x)=(RD p l (k+1)).flatMap f:=by
 have hl:=P4 p l k
 have hlt:=Zf hx
 unfold RD
 rw [Eb hx h,Xb,Xx,VL (show (KS p l k).length<l.length by omega)]
 rw [XN,Xz,←Xy,ZaR (α:=α) _ _ _ _ _ (flat_len hf _) (by rw [hf,hf]),XN,XN]
 simp
theorem ZaS {α:Type} {p:α→Bool} {l:List α}:(idx p l= -1∧∀s∈l,p s=false)∨∃i x,idx p l=(i:Nat)∧l[i]? =some x∧p x=true∧∀j y,j<i→l[j]? =some y→p y=false:=by
 unfold idx
 cases h:l.findIdx? p with
 |none=>exact .inl ⟨rfl,by rw [UJ] at h;exact h⟩
 | some i=>
   rw [UK] at h;obtain ⟨hi,hp,hn⟩:=h;exact .inr ⟨i,l[i],rfl,sM,hp,fun j y hj hy=>by
    have:=hn j hj;obtain ⟨hj',rfl⟩:=XK.1 hy;simpa using this⟩
theorem Zhi {α:Type} {p:α→Bool} {l:List α} {k:Nat} (h:∀j y,j<k→l[j]? =some y→p y=false):KS p l k=l.take k:=by
 unfold KS
 rw [UE]
 intro a ha
 obtain ⟨i,hi,rfl⟩:=VK ha
 rw [Xo] at hi
 have:=h i _ oM (by rw [XX (by omega:i<l.length)])
 simp [List.getElem_take,this]
theorem ZX:AggT prog 93 3=true:=by kernel_rfl
theorem Zn:ElT prog 36 3 1 8 (.int .i64 0):=⟨underlying36,by kernel_rfl,rfl,dC⟩
theorem ZQ:FldT prog 39 0 0=true:=by kernel_rfl
theorem Z3:FldT prog 39 1 1=true:=by kernel_rfl
theorem Z1:FldT prog 39 2 2=true:=by kernel_rfl
theorem Z0:FldT prog 39 3 3=true:=by kernel_rfl
theorem Zx:FldT prog 39 4 4=true:=by kernel_rfl
theorem Yb:FldT prog 93 0 0=true:=by kernel_rfl
theorem Yg:FldT prog 93 1 1=true:=by kernel_rfl
theorem Yj:FldT prog 93 2 2=true:=by kernel_rfl
theorem Zy:NoAgg prog 36=true:=by kernel_rfl
theorem ZA:NoAgg prog 37=true:=by kernel_rfl
theorem ZK:SlT prog 37 93 3=true:=by kernel_rfl
theorem Kh:ZeroT prog 93 (.agg #[(.int .i64 0),(.int .i64 0),(.int .i64 0)]):=by unfold ZeroT;kernel_rfl
structure Mv where
 src:Int
 dst:Int
 sym:Int
structure Aut where
 n:Int
 syms:Int
 start:List Int
 fin:List Int
 moves:List Mv
def cMv (m:Mv):List PV:=[pInt m.src,pInt m.dst,pInt m.sym]
theorem Z2 (m:Mv):(cMv m).length=3:=rfl
theorem LC (L:List Mv):(L.flatMap cMv).all En.one=true:=by rw [List.all_flatMap,XB];intro x _;rfl
def pMvs (l:List Mv):PV:= .sl l.length (l.flatMap cMv)
def ZN (a:Aut):PV:= .agg [pInt a.n,pInt a.syms,pInts a.start,pInts a.fin,pMvs a.moves]
def Ss (a b:Int):Int:=if a<b then-1 else if b<a then 1 else 0
def GB (a b:Mv):Int:=Ji [Ss a.src b.src,Ss a.sym b.sym,Ss a.dst b.dst]
def ltI (a b:Int):Bool:=decide (a<b)
def Ka (a b:Mv):Bool:=decide (GB a b<0)
def Lp (n:Int) (l:List Int):Bool:=l.all (fun x=>decide (0≤x)&&decide (x<n))&&Wv ltI l
def RE (a:Aut) (m:Mv):Bool:=decide (0≤m.src)&&decide (m.src<a.n)&&decide (0≤m.dst)&&decide (m.dst<a.n)&&decide (-1≤m.sym)&&decide (m.sym<a.syms)
def Z4 (a:Aut):Bool:=decide (0≤a.n)&&decide (a.n≤2000)&&decide (0≤a.syms)&&decide (a.syms≤40)&&decide (a.moves.length≤20000)&&Lp a.n a.start&&Lp a.n a.fin&&a.moves.all (RE a)&&Wv Ka a.moves
theorem Ec (s:Int):AFg prog 237 [pInt s] (· =ZM false):=by
 refine AFg.of_body 6 func237 rfl ntmps237 (Xa rfl) ?_
 intro w0 M0 vs hl hv
 obtain ⟨v0,rfl⟩:=Wl hl
 obtain rfl:=hv 0 _ _ rfl rfl
 clear hl hv
 refine Ze ?_
 (refine xL 2 Za ?_<;>refine Zi ?_)
 (refine xL 3 Zb (xL 4 Zb (xL 5 Yv (xL 2 Za ?_)))<;>refine Zc ?_)
 refine Zz (results237) rfl ?_
 simp
theorem Ed (a b:Int):AFg prog 205 [pInt a,pInt b] (· =pInt (Ss a b)):=by
 refine AFg.of_body 20 func205 rfl ntmps205 (Xa rfl) ?_
 intro w0 M0 vs hl hv
 obtain ⟨v0,v1,rfl⟩:=YI hl
 obtain rfl:=hv 0 _ _ rfl rfl
 obtain rfl:=hv 1 _ _ rfl rfl
 clear hl hv
 refine Ze ?_
 (refine xL 4 Za ?_<;>refine Zi ?_)
 (refine xL 7 Zb ?_<;>(refine cS 8 (cA call237 (Ec a)) fun v8 h=>?_;cases h)<;>refine xL 5 Za ?_<;>refine Zi ?_)
 (refine xL 9 Zb ?_<;>(refine cS 10 (cA call237 (Ec b)) fun v10 h=>?_;cases h)<;>refine xL 6 Za ?_<;>refine Zi ?_)
 (refine xL 11 Zb ?_<;>refine Zc ?_)
 refine cCf ?_
 refine Ze ?_
 (refine xL 13 Zb ?_<;>refine Zc ?_)
 refine cCf ?_
 refine Ze ?_
 (refine xL 14 Zb (xL 15 Zb (xL 16 ZP ?_))<;>refine Zc ?_)
 refine cX ?_ ?_<;>intro hb16
 · first|exact bN hb16|(
 refine Ze ?_;(refine xL 4 Za ?_<;>refine Zc ?_)
 refine Zz (results205) rfl ?_;rw [Ss,UT hb16])
 · first|exact bN hb16|(
 refine Ze ?_;(refine xL 17 Zb (xL 18 Zb (xL 19 Yr ?_))<;>refine Zc ?_)
 refine cX ?_ ?_<;>intro hb19
 · first|exact bN hb19|(
 refine Ze ?_;(refine xL 4 Za ?_<;>refine Zc ?_)
 refine Zz (results205) rfl ?_;rw [Ss,US oM,UT oM])
 · first|exact bN hb19|(
 refine Ze ?_;(refine xL 4 Za ?_<;>refine Zc ?_)
 refine Zz (results205) rfl ?_;rw [Ss,US oM,US oM]))
theorem DF (a b:Mv):AFg prog 153 [.agg (cMv a), .agg (cMv b)] (· =pInt (GB a b)):=by
 refine AFg.of_body 22 func153 rfl ntmps153 (Xa rfl) ?_
 intro w0 M0 vs hl hv
 obtain ⟨v0,v1,rfl⟩:=YI hl
 clear hl hv
 refine Ze ?_
 (refine ZB 2 3 fun h2=>?_<;>refine ZB 3 3 fun h3=>?_<;>refine xL 4 Za ?_<;>refine Zc ?_)
 (refine ZZ (fun i=>([]:List Nat).elem i) [2,3] kR ?_<;>refine xD 0 5 rfl (Zd 2 Yb) ?_<;>(refine yD 1 6 rfl (Zk 2 Zg) fun v6 h=>?_;cases h)<;>refine xD 2 7 rfl (Zd 3 Yb) ?_<;>(refine yD 3 8 rfl (Zk 3 Zg) fun v8 h=>?_;cases h)<;>refine xD 5 10 rfl (Zd 2 Yj) ?_<;>(refine yD 6 11 rfl (Zk 2 Zg) fun v11 h=>?_;cases h)<;>refine xD 7 12 rfl (Zd 3 Yj) ?_<;>(refine yD 8 13 rfl (Zk 3 Zg) fun v13 h=>?_;cases h)<;>refine xD 10 15 rfl (Zd 2 Yg) ?_<;>(refine yD 11 16 rfl (Zk 2 Zg) fun v16 h=>?_;cases h)<;>refine xD 12 17 rfl (Zd 3 Yg) ?_<;>(refine yD 13 18 rfl (Zk 3 Zg) fun v18 h=>?_;cases h)<;>(refine Zr 4 kR ?_)<;>(refine Zo rfl fun w9 M9 N9 DQ back=>?_)<;>(refine cS 9 (cA call205 (Ed a.src b.src)) fun v9 h=>?_;cases h)<;>refine Zl (back _ (nrm ?_))<;>(refine Zr 9 kR ?_)<;>(refine Zo rfl fun w9 M9 N9 DQ back=>?_)<;>(refine cS 14 (cA call205 (Ed a.sym b.sym)) fun v14 h=>?_;cases h)<;>refine Zl (back _ (nrm ?_))<;>(refine Zr 14 kR ?_)<;>(refine Zo rfl fun w9 M9 N9 DQ back=>?_)<;>(refine cS 19 (cA call205 (Ed a.dst b.dst)) fun v19 h=>?_;cases h)<;>refine Zl (back _ (nrm ?_))<;>(refine Zr 15 kR ?_)<;>(refine Zo rfl fun w9 M9 N9 DQ back=>?_)<;>refine HT (xs:=[_,_,_]) 20 Zn fun h20 ho20=>?_<;>refine Zl (back _ (nrm ?_))<;>(refine Zr 16 kR ?_)<;>(refine Zo rfl fun w9 M9 N9 DQ back=>?_)<;>(refine Zs (En.freeze (l:=20) (t:=20) rfl rfl) fun _=>?_;refine cS 21 (cA call204 (Zl1 [Ss a.src b.src,Ss a.sym b.sym,Ss a.dst b.dst])) fun v21 h=>?_;cases h)<;>refine Zl (back _ (nrm ?_))<;>refine xE 17 4 rfl Za ?_<;>refine Yw kR (nav ?_)<;>try dsimp only)
 exact Zz results153 rfl rfl
theorem ζi (l :List Int) (n:Int):AF prog 152 [pInts l,pInt n] (· =ZM (Lp n l)):=by
 refine AF.of_body 35 func152 rfl ntmps152 (Xa rfl) ?_
 intro w0 M0 vs hl hv
 obtain ⟨v0,v1,rfl⟩:=YI hl
 obtain rfl:=hv 1 _ _ rfl rfl
 clear hl hv
 refine YZ 0 rfl fun hlen=>?_
 refine Ze ?_
 (refine xL 4 Za ?_<;>refine Zi ?_)
 (refine xL 7 Zb (xL 8 (ZT Zp) (xL 9 Zb ?_))<;>refine Zc ?_)
 refine ZD (ι:={k:Nat//k≤l.length∧∀j x,j<k→l[j]? =some x→(0≤x∧x<n)∧∀y,1≤j→l[j-1]? =some y→ltI y x=true}) (fun k=>⟨[(0,_,_),(1,_,_),(7,_,_),(8,_,_),(9, .int .i64 k.1,pInt k.1)],[]⟩) (fun k=>l.length-k.1) ⟨0,oM,oM⟩ (fun a w H=>H.weaken ⟨rfl,rfl,rfl,rfl,rfl,trivial⟩ trivial) ?_
 rintro ⟨k,hk,hp⟩
 dsimp only
 refine Ze ?_
 (refine xL 10 ZP ?_<;>refine Zc ?_)
 refine cX ?_ ?_<;>intro hb10
 · first | exact bN hb10|(
 obtain ⟨x,hx⟩:=Zt (show k<l.length by omega);obtain ⟨y,hy⟩:=Zt (show k-1<l.length by omega);have e1:=Z7 (f:=pInt) hx;(have e2:(l.map pInt)[((k:Int)-1).toNat*1]? =some (pInt y):=by rw [show ((k:Int)-1).toNat*1=k-1 by omega];exact (by rw [Xh,hy];rfl));refine Ze ?_;(refine xL 11 Zb (xL 12 (ZI Zp) ?_)<;>(refine yL 13 (Z9 Zg) fun v13 h=>?_;cases h)<;>refine xL 5 Za (xL 6 Za ?_)<;>refine Zi ?_)
 (refine xL 14 Zb (xL 15 ZP (xL 16 Zb ?_))<;>(refine bLd 16 (fun hb16=>?_) (fun hb16=>?_)<;>(first|refine kL 17 ?_|refine xL 17 Zb ?_))<;>(first|refine kL 18 ?_|refine xL 18 Zb ?_)<;>(first|refine kL 19 ?_|refine xL 19 Wi ?_)<;>refine xL 20 ZF (xL 21 Zb ?_)<;>(first|refine kL 22 ?_|(refine bLd 21 (fun hb21=>?_) (fun hb21=>?_)<;>(first|refine kL 22 ?_|refine xL 22 Zb ?_)))<;>(first|refine kL 23 ?_|refine xL 23 Yr ?_)<;>(first|refine kL 24 ?_|refine xL 24 Zb ?_)<;>(first|refine kL 25 ?_|(refine bLd 24 (fun hb24=>?_) (fun hb24=>?_)<;>(first|refine kL 25 ?_|refine xL 25 Zb ?_)))<;>(first|refine kL 26 ?_|refine xL 26 Zb ?_)<;>(first|refine kL 27 ?_|refine xL 27 K7 ?_)<;>(first|refine kL 28 ?_|refine xL 28 (Sg Zp) ?_)<;>(first|refine kL 29 ?_|(refine yL 29 (Z9 Zg) fun v29 h=>?_;cases h))<;>(first|refine kL 30 ?_|refine xL 30 Zb ?_)<;>(first|refine kL 31 ?_|refine xL 31 Wi ?_)<;>(first|refine kL 32 ?_|refine xL 32 ZF ?_)<;>refine xL 33 ZF ?_<;>refine Zc ?_)<;>(
 refine cX ?_ ?_<;>intro hb33
 · first|exact bN hb33|(
 refine Ze ?_;(refine xL 4 Za ?_<;>refine Zc ?_)
 refine Zz (results152) rfl ?_;unfold Lp
 first
  |rw [PO hx (by simp;omega)];rfl
  |rw [Lu oM hy hx (by unfold ltI;simpa using hb33),Bool.and_false])
 · first |exact bN hb33|(
 refine Ze ?_;(refine xL 34 ZG (xL 9 Zb ?_)<;>refine Zc ?_)
 refine Zm (
  ⟨k + 1,oM,fun j z hj hz=>by
   by_cases e:j=k
   · subst e;rw [hx] at hz;cases hz;refine ⟨⟨oM,oM⟩,fun y' h1 hy'=>?_⟩;rw [hy] at hy';cases hy';unfold ltI
     first
      |omega
      |(simp;omega)
   · exact hp j z oM hz⟩
  ) (by dsimp only;omega) ⟨rfl,rfl,rfl,rfl,rfl,trivial⟩ trivial)))
 · first|exact bN hb10|(
 refine Ze ?_;(refine xL 4 Za ?_<;>refine Zc ?_)
 refine Zz (results152) rfl ?_;have h1:l.all (fun x=>decide (0≤x)&&decide (x<n))=true:=by
  rw [XB];intro z hz;obtain ⟨j,hj,rfl⟩:=VK hz;have h2:=(hp j _ oM (XX hj)).1;simp [h2.1,h2.2]
 have h2:Wv ltI l=true:=TC fun j x y h1 hy hx=>(hp j x (by have:=Zf hx;omega) hx).2 y h1 hy;unfold Lp;rw [h1,h2];rfl)
theorem Su {a:Aut} (h:a.n<0∨2000<a.n∨a.syms<0∨40<a.syms∨20000<a.moves.length∨Lp a.n a.start=false∨Lp a.n a.fin=false∨a.moves.all (RE a)=false∨Wv Ka a.moves=false):Z4 a=false:=by
 unfold Z4
 rcases h with h|h|h|h|h|h|h|h|h
 · rw [UR (by omega:¬0≤a.n)];simp
 · rw [UR (by omega:¬a.n≤2000)];simp
 · rw [UR (by omega:¬0≤a.syms)];simp
 · rw [UR (by omega:¬a.syms≤40)];simp
 · rw [UR (by omega:¬a.moves.length≤20000)];simp
 · rw [h];simp
 · rw [h];simp
 · rw [h];simp
 · rw [h];simp
theorem Wo (a : Aut):AF prog 107 [ZN a] (· =ZM (Z4 a)):=by
 refine AF.of_body 103 func107 rfl ntmps107 (Xa rfl) ?_
 intro w0 M0 vs hl hv
 obtain ⟨v0,rfl⟩:=Wl hl
 clear hl hv
 refine Ze ?_
 (refine ZB 1 5 fun h1=>?_<;>refine xL 2 Za ?_<;>refine Zi ?_)
 (refine xL 5 (Zd 1 ZQ) ?_<;>(refine yL 6 (Zk 1 Zg) fun v6 h=>?_;cases h)<;>refine xL 7 ZP (xL 8 Zb ?_)<;>(refine bLd 8 (fun hb8=>?_) (fun hb8=>?_)<;>(first|refine kL 9 ?_|refine xL 9 (Zd 1 ZQ) ?_))<;>(first|refine kL 10 ?_|(refine yL 10 (Zk 1 Zg) fun v10 h=>?_;cases h))<;>(first|refine kL 11 ?_|refine xL 11 Yr ?_)<;>refine xL 12 ZF (xL 13 Zb ?_)<;>(first|refine kL 14 ?_|(refine bLd 13 (fun hb13=>?_) (fun hb13=>?_)<;>(first|refine kL 14 ?_|refine xL 14 (Zd 1 Z3) ?_)))<;>(first|refine kL 15 ?_|(refine yL 15 (Zk 1 Zg) fun v15 h=>?_;cases h))<;>(first|refine kL 16 ?_|refine xL 16 ZP ?_)<;>refine xL 17 ZF (xL 18 Zb ?_)<;>(first|refine kL 19 ?_|(refine bLd 18 (fun hb18=>?_) (fun hb18=>?_)<;>(first|refine kL 19 ?_|refine xL 19 (Zd 1 Z3) ?_)))<;>(first|refine kL 20 ?_|(refine yL 20 (Zk 1 Zg) fun v20 h=>?_;cases h))<;>(first|refine kL 21 ?_|refine xL 21 Yr ?_)<;>refine xL 22 ZF (xL 23 Zb ?_)<;>(first|refine kL 24 ?_|(refine bLd 23 (fun hb23=>?_) (fun hb23=>?_)<;>(first|refine kL 24 ?_|refine xL 24 (Zd 1 Zx) ?_)))<;>(first|refine kL 25 ?_|(refine yL 25 (Zk 1 ZA) fun v25 h=>?_;cases h))<;>(first|refine kL 26 ?_|refine xL 26 (ZT ZK) ?_)<;>(first|refine kL 27 ?_|refine xL 27 Yr ?_)<;>refine xL 28 ZF (xL 29 Zb ?_)<;>(first|refine kL 30 ?_|(refine bLd 29 (fun hb29=>?_) (fun hb29=>?_)<;>(first|refine kL 30 ?_|refine xL 30 (Zd 1 Z1) ?_)))<;>(first|refine kL 31 ?_|(refine yL 31 (Zk 1 Zy) fun v31 h=>?_;cases h))<;>(first|refine kL 32 ?_|refine xL 32 (Zd 1 ZQ) ?_)<;>(first|refine kL 33 ?_|(refine yL 33 (Zk 1 Zg) fun v33 h=>?_;cases h))<;>(first|refine kL 34 ?_|(refine cS 34 (cA call152 (ζi a.start a.n)) fun v34 h=>?_;cases h))<;>(first|refine kL 35 ?_|refine xL 35 Ya ?_)<;>refine xL 36 ZF (xL 37 Zb ?_)<;>(first|refine kL 38 ?_|(refine bL 37 (fun hb37=>?_) (fun hb37=>?_)<;>(first|refine kL 38 ?_|refine xL 38 (Zd 1 Z0) ?_)))<;>(first|refine kL 39 ?_|(refine yL 39 (Zk 1 Zy) fun v39 h=>?_;cases h))<;>(first|refine kL 40 ?_|refine xL 40 (Zd 1 ZQ) ?_)<;>(first|refine kL 41 ?_|(refine yL 41 (Zk 1 Zg) fun v41 h=>?_;cases h))<;>(first|refine kL 42 ?_|(refine cS 42 (cA call152 (ζi a.fin a.n)) fun v42 h=>?_;cases h))<;>(first|refine kL 43 ?_|refine xL 43 Ya ?_)<;>refine xL 44 ZF ?_<;>refine Zc ?_)<;>(
 refine cX ?_ ?_<;>intro hb44
 · first|exact bN hb44|(
 refine Ze ?_;(refine xL 2 Za ?_<;>refine Zc ?_)
 refine Zz (results107) rfl ?_
 first
  |(rw [Su oM])
  |(rw [Su (.inr (.inr (.inr (.inr (.inr (.inl (by simpa using hb37)))))))])
  |(rw [Su (.inr (.inr (.inr (.inr (.inr (.inr (.inl (by simpa using hb44))))))))]))
 · first | exact bN hb44|(
 refine Ze ?_;(refine xL 45 (Zd 1 Zx) ?_<;>(refine yL 46 (Zk 1 ZA) fun v46 h=>?_;cases h)<;>refine xL 47 (ZT ZK) (xL 48 Zb ?_)<;>refine Zc ?_)
 refine ZD (ι:={k:Nat//k≤a.moves.length∧∀j x,j<k→a.moves[j]? =some x→RE a x=true∧∀y,1≤j→a.moves[j-1]? =some y→Ka y x=true}) (fun k=>⟨[(1,_,_),(45,_,_),(46,_,_),(47,_,_),(48, .int .i64 k.1,pInt k.1)],[(1,_,_)]⟩) (fun k=>a.moves.length-k.1) ⟨0,oM,oM⟩ (fun a w H=>H.weaken ⟨rfl,rfl,rfl,rfl,rfl,trivial⟩ ⟨rfl,trivial⟩) ?_;rintro ⟨k,hk,hp⟩;dsimp only;refine Ze ?_;(refine xL 49 ZP ?_<;>refine Zc ?_)
 refine cX ?_ ?_<;>intro hb49
 · first | exact bN hb49|(
 obtain ⟨x,hx⟩:=Zt (show k<a.moves.length by omega);obtain ⟨y,hy⟩:=Zt (show k-1<a.moves.length by omega);have e1:=Ym Z2 a.moves k x hx;have e2:=YK Z2 hx;(have e3:((a.moves.flatMap cMv).drop (((k:Int)-1).toNat*3)).take 3=cMv y:=by rw [show ((k:Int)-1).toNat*3=(k-1)*3 by omega];exact Ym Z2 a.moves (k-1) y hy);have e4:=YK Z2 hy;refine Ze ?_;(refine xL 50 Zb (xL 51 (ZI ZK) ?_)<;>(refine yL 52 (Wn ZX) fun v52 h=>?_;cases h)<;>refine Zw [(.int .i64 0),(.int .i64 0),(.int .i64 0)] 3 4 Kh fun h4=>?_<;>refine xL 3 Za ?_<;>refine ZE 4 ZX ?_<;>refine Zc ?_)
 (refine ZZ (fun i=>([]:List Nat).elem i) [1,4] kR ?_<;>refine xE 0 53 rfl (Zd 4 Yb) ?_<;>(refine yE 1 54 rfl (Zk 4 Zg) fun v54 h=>?_;cases h)<;>refine xE 2 55 rfl ZP ?_<;>refine xE 3 56 rfl Zb ?_<;>(refine bDd 56 (fun hb56=>?_) (fun hb56=>?_)<;>(first|refine kD 4 57 rfl ?_|refine xD 4 57 rfl (Zd 4 Yb) ?_))<;>(first|refine kD 5 58 rfl ?_|(refine yD 5 58 rfl (Zk 4 Zg) fun v58 h=>?_;cases h))<;>(first|refine kD 6 59 rfl ?_|refine xD 6 59 rfl (Zd 1 ZQ) ?_)<;>(first|refine kD 7 60 rfl ?_|(refine yD 7 60 rfl (Zk 1 Zg) fun v60 h=>?_;cases h))<;>(first|refine kD 8 61 rfl ?_|refine xD 8 61 rfl Wi ?_)<;>refine xE 9 62 rfl ZF ?_<;>refine xE 10 63 rfl Zb ?_<;>(first|refine kD 11 64 rfl ?_|(refine bDd 63 (fun hb63=>?_) (fun hb63=>?_)<;>(first|refine kD 11 64 rfl ?_|refine xD 11 64 rfl (Zd 4 Yg) ?_)))<;>(first|refine kD 12 65 rfl ?_|(refine yD 12 65 rfl (Zk 4 Zg) fun v65 h=>?_;cases h))<;>(first|refine kD 13 66 rfl ?_|refine xD 13 66 rfl ZP ?_)<;>refine xE 14 67 rfl ZF ?_<;>refine xE 15 68 rfl Zb ?_<;>(first|refine kD 16 69 rfl ?_|(refine bDd 68 (fun hb68=>?_) (fun hb68=>?_)<;>(first|refine kD 16 69 rfl ?_|refine xD 16 69 rfl (Zd 4 Yg) ?_)))<;>(first|refine kD 17 70 rfl ?_|(refine yD 17 70 rfl (Zk 4 Zg) fun v70 h=>?_;cases h))<;>(first|refine kD 18 71 rfl ?_|refine xD 18 71 rfl (Zd 1 ZQ) ?_)<;>(first|refine kD 19 72 rfl ?_|(refine yD 19 72 rfl (Zk 1 Zg) fun v72 h=>?_;cases h))<;>(first|refine kD 20 73 rfl ?_|refine xD 20 73 rfl Wi ?_)<;>refine xE 21 74 rfl ZF ?_<;>refine xE 22 75 rfl Zb ?_<;>(first|refine kD 23 76 rfl ?_|(refine bDd 75 (fun hb75=>?_) (fun hb75=>?_)<;>(first|refine kD 23 76 rfl ?_|refine xD 23 76 rfl (Zd 4 Yj) ?_)))<;>(first|refine kD 24 77 rfl ?_|(refine yD 24 77 rfl (Zk 4 Zg) fun v77 h=>?_;cases h))<;>(first|refine kD 25 78 rfl ?_|refine xD 25 78 rfl ZP ?_)<;>refine xE 26 79 rfl ZF ?_<;>refine xE 27 80 rfl Zb ?_<;>(first|refine kD 28 81 rfl ?_|(refine bDd 80 (fun hb80=>?_) (fun hb80=>?_)<;>(first|refine kD 28 81 rfl ?_|refine xD 28 81 rfl (Zd 4 Yj) ?_)))<;>(first|refine kD 29 82 rfl ?_|(refine yD 29 82 rfl (Zk 4 Zg) fun v82 h=>?_;cases h))<;>(first|refine kD 30 83 rfl ?_|refine xD 30 83 rfl (Zd 1 Z3) ?_)<;>(first|refine kD 31 84 rfl ?_|(refine yD 31 84 rfl (Zk 1 Zg) fun v84 h=>?_;cases h))<;>(first|refine kD 32 85 rfl ?_|refine xD 32 85 rfl Wi ?_)<;>refine xE 33 86 rfl ZF ?_<;>refine xE 34 87 rfl Zb ?_<;>(first|refine kD 35 88 rfl ?_|(refine bDd 87 (fun hb87=>?_) (fun hb87=>?_)<;>(first|refine kD 35 88 rfl ?_|refine xD 35 88 rfl Zb ?_)))<;>(first|refine kD 36 89 rfl ?_|refine xD 36 89 rfl Yr ?_)<;>(first|refine kD 37 90 rfl ?_|refine xD 37 90 rfl Zb ?_)<;>(first|refine kD 38 91 rfl ?_|(refine bDd 90 (fun hb90=>?_) (fun hb90=>?_)<;>(first|refine kD 38 91 rfl ?_|refine xD 38 91 rfl (Zd 1 Zx) ?_)))<;>(first|refine kD 39 92 rfl ?_|(refine yD 39 92 rfl (Zk 1 ZA) fun v92 h=>?_;cases h))<;>(first|refine kD 40 93 rfl ?_|refine xD 40 93 rfl Zb ?_)<;>(first|refine kD 41 94 rfl ?_|refine xD 41 94 rfl K7 ?_)<;>(first|refine kD 42 95 rfl ?_|refine xD 42 95 rfl (Sg ZK) ?_)<;>(first|refine kD 43 96 rfl ?_|(refine yD 43 96 rfl (Wn ZX) fun v96 h=>?_;cases h))<;>(first|refine kD 44 97 rfl ?_|(refine yD 44 97 rfl (Zu 4 ZX) fun v97 h=>?_;cases h))<;>(refine Zr 45 kR ?_)<;>(refine Zo rfl fun w9 M9 N9 DQ back=>?_)<;>(first|refine kL 98 ?_|(refine cS 98 (cA call153 ((DF y x).af)) fun v98 h=>?_;cases h))<;>refine Zl (back _ (nrm ?_))<;>(first|refine kD 46 99 rfl ?_|refine xD 46 99 rfl Wi ?_)<;>(first|refine kD 47 100 rfl ?_|refine xD 47 100 rfl ZF ?_)<;>refine xE 48 101 rfl ZF ?_<;>refine Yw kR (nav ?_)<;>try dsimp only)<;>(
 refine cX ?_ ?_<;>intro hb101
 · first|exact bN hb101|(
 refine Ze ?_;(refine xL 2 Za ?_<;>refine Zc ?_)
 refine Zz (results107) rfl ?_
 first
  |rw [Su (.inr (.inr (.inr (.inr (.inr (.inr (.inr (.inl (PO hx (show RE a x=false by unfold RE;simp only [Bool.and_eq_false_iff,decide_eq_false_iff_not];omega))))))))))]
  |rw [Su (.inr (.inr (.inr (.inr (.inr (.inr (.inr (.inr (Lu oM hy hx (show Ka y x=false from UR oM))))))))))])
 · first |exact bN hb101|(
 refine Ze ?_;(refine xL 102 ZG (xL 48 Zb ?_)<;>refine Zc ?_)
 refine Zm (
  ⟨k +1,oM,fun j z hj hz=>by
   by_cases e:j=k
   · subst e;rw [hx] at hz;cases hz;refine ⟨by unfold RE;simp only [Xf,UP];omega,fun y' h1 hy'=>?_⟩;rw [hy] at hy';cases hy'
     first|omega|exact UQ oM
   · exact hp j z oM hz⟩
  ) (by dsimp only;omega) ⟨rfl,rfl,rfl,rfl,rfl,trivial⟩ ⟨rfl,trivial⟩)))
 · first|exact bN hb49|(
 refine Ze ?_;(refine xL 2 Za ?_<;>refine Zc ?_)
 refine Zz (results107) rfl ?_;have h7:a.moves.all (RE a)=true:=ZfK fun j x hj=>(hp j x (by have:=Zf hj;omega) hj).1;have h8:Wv Ka a.moves=true:=TC fun j x y h1 hy hx=>(hp j x (by have:=Zf hx;omega) hx).2 y h1 hy;(have h1:Lp a.n a.start=true:=by simpa using hb37);(have h2:Lp a.n a.fin=true:=by simpa using hb44);unfold Z4;rw [h1,h2,h7,h8,UQ (by omega:0≤a.n),UQ (by omega:a.n≤2000),UQ (by omega:0≤a.syms),UQ (by omega:a.syms≤40),UQ (by omega:a.moves.length≤20000)];rfl)))
end Go.Proofs.YtgfabnhpllkebaaGreatDoor
