/-
  Walks of functions and plain laws of the chapter, as the claim needs them.
-/
import Derived.Recover
import Derived.WalkKit
import Derived.ProofKit
import Derived.OpenShut
import Derived.ShutString
import Derived.ChangeOld
import Derived.Below
import Derived.Carry
import Derived.Deep.Slices
import Derived.Sort.EncStr
import Derived.Test.YtgfabnhpllkebaaGreatDoorPe05
import Derived.Test.YtgfabnhpllkebaaGreatDoorPe02
import Derived.Test.YtgfabnhpllkebaaGreatDoorPe03
import Derived.Test.YtgfabnhpllkebaaGreatDoorMShelfU
import Derived.Test.YtgfabnhpllkebaaGreatDoorMShelfW
import Derived.Test.YtgfabnhpllkebaaGreatDoorPe04
import Derived.Test.YtgfabnhpllkebaaGreatDoorMShelfC
import Derived.Test.YtgfabnhpllkebaaGreatDoorPe01
namespace Go.Proofs.YtgfabnhpllkebaaGreatDoor
open Go.RowKit Go.Cb Go.En Tryz
set_option linter.all false
set_option maxRecDepth 100000
end Go.Proofs.YtgfabnhpllkebaaGreatDoor
namespace Go.En
open Go.RowKit Go.Cb
set_option linter.all false
section
variable {P:Program} {c:Ctx} {ops:Array Oper} {Q:Exit→Act→World→Prop} {rest:List Oper} {sL hP:List (Nat×Ent)} {o:Oper}
end
section
variable {P:Program}
end
section
variable {P:Program} {c:Ctx} {sL hP:List (Nat×Ent)}
end
section
variable {P:Program} {c:Ctx} {sL hP:List (Nat×Ent)}
end
section
variable {P:Program} {c:Ctx} {ops:Array Oper} {Q:Exit→Act→World→Prop} {rest:List Oper} {sL hP:List (Nat×Ent)} {o:Oper}
end
end Go.En
namespace Go.Proofs.YtgfabnhpllkebaaGreatDoor
open Go.RowKit Go.Cb Go.En Tryz
set_option linter.all false
set_option maxRecDepth 100000
def z3:List PV:=[.val (.int .i64 0), .val (.string ByteArray.empty), .val (.slice none 0 0)]
end Go.Proofs.YtgfabnhpllkebaaGreatDoor
namespace Go.En
open Go.RowKit Go.Cb Go.WideShapes Go.ChangeShapes Go.ChangeAt Go.Deep
set_option linter.all false
theorem SC {H:Type} (P:Program) (e:TypeId) {d:DataW H} {n:Nat}:∀{l:List (DataW H)},d∈l→n∈d.weights P e→n∈DataW.weightsAll P e l
 | x::l,h,hn=>by
   rw [DataW.weightsAll,Xq];rcases Xt.1 h with rfl|h
   · exact .inl hn
   · exact .inr (SC P e h hn)
theorem W5 {H:Type} (P:Program) {d:DataW H} {t:TypeId} {n:Nat}:∀{ts:List TypeId} {l:List (DataW H)} (i:Nat),ts[i]? =some t→l[i]? =some d→n∈d.weights P t→n∈DataW.weightsEach P ts l
 | t'::ts,x::l,0,h1,h2,hn=>by
   simp at h1 h2;subst h1 h2;rw [DataW.weightsEach,Xq];exact .inl hn
 | t'::ts,x::l,i+1,h1,h2,hn=>by
   rw [DataW.weightsEach,Xq];exact .inr (W5 P i (by simpa using h1) (by simpa using h2) hn)
structure Dec (P:Program) (t:TypeId) (k:Nat) {α:Type} (enc:α→List PV) (fit:α→Prop):Prop where
 size:P.cellsOf t=k
 len:∀a,(enc a).length=k
 dec:∀{H:Type} (e:TypeId×Value→H) (w:World) (spare:Nat→Bool) (held:Bool) (fuel:Nat) (cs:List Value) (x:DataW H×List MemPlace),DataW.trod e P w 0 spare held fuel t cs=some x→(∀n∈x.1.weights P t,n≤reachBytes)→
  ∃a,fit a∧cs.length=k∧∀(i:Nat) (v:Value) (p:PV),cs[i]? =some v→(enc a)[i]? =some p→Shr (fun _=>False) w v p
section
variable {P:Program} {t:TypeId}
theorem Et {v u:Value} {p q:PV} {w:World} (h:Shr (fun _=>False) w v p) (i:Nat) (h1:[v][i]? =some u) (h2:[p][i]? =some q):Shr (fun _=>False) w u q:=by
 cases i with
 |zero=>simp at h1 h2;subst h1 h2;exact h
 |succ i=>simp at h1
theorem Zme (ht:P.underlying t=some (.int .i64)) (hs:P.cellsOf t=1):Dec P t 1 (fun n:Int=>[pInt n]) (fun n=> -9223372036854775808≤n∧n≤9223372036854775807) where
 size:=hs
 len:=fun _=>rfl
 dec:=fun e w spare held fuel cs x h=>by
  intro hwt;obtain ⟨n,rfl,_,hw⟩:=DataW.trod_int ht h;refine ⟨n,?_,rfl,fun i v p h1 h2=>Et (.val _) i h1 h2⟩;simpa [Lit.wf,IntKind.min,IntKind.max,IntKind.signed,IntKind.bits] using hw
theorem Zmf (ht:P.underlying t=some .string) (hs:P.cellsOf t=1):Dec P t 1 (fun s:ByteArray=>[Yv s]) (fun s=>s.size≤140737488355328) where
 size:=hs
 len:=fun _=>rfl
 dec:=fun e w spare held fuel cs x h=>by
  intro hwt;obtain ⟨s,rfl,rfl,hw⟩:=DataW.trod_string ht h;have hsz:s.size≤reachBytes:=hwt s.size (by show s.size∈DataW.weights P t (.lit (.string s.data.toList));rw [DataW.weights];exact Xi.2 (by rw [VG];rfl));exact ⟨s,by unfold reachBytes at hsz;omega,rfl,fun i v p h1 h2=>Et (.val _) i h1 h2⟩
section
variable {H:Type} {en:TypeId×Value→H} {w:World} {spare:Nat→Bool} {held:Bool} {r:Reach} {base:Nat} {v:Value} {d:DataW H} {ps:List MemPlace}
theorem Zpm {α:Type} {k:Nat} {enc:α→List PV} {fit:α→Prop} (D:Dec P t k enc fit) (hT:Zo2 P t=true) (hv:Value.okWide P w r base t v) (h:DataW.Trod en P w 0 spare held t v d ps) (hwt:∀n∈d.weights P t,n≤reachBytes):∃a,fit a∧Shr (fun _=>False) w v (.agg (enc a)):=by
 obtain ⟨fuel,hf⟩:=h
 have:∃fs,P.underlying t=some (.struct fs):=by
  unfold Zo2 at hT;split at hT
  · rename_i fs hfs;exact ⟨fs,hfs⟩
  · cases hT
 obtain ⟨fs,hfs⟩:=this
 obtain ⟨cs,rfl,hsz⟩:=okWide_struct hfs hv
 obtain ⟨a,h1,h2,h3⟩:=D.dec en w spare held fuel _ _ hf hwt
 refine ⟨a,h1,?_⟩
 have:=Shr.agg (M:=fun _=>False) (w:=w) cs.toList (enc a) (by rw [D.len a];exact h2) h3
 simpa using this
end
theorem Ob {H:Type} {enc:TypeId×Value→H} {P:Program} (hl:laidOutB P=true) {W W':World} (hb:Below W.heap.size W W'):∀{ts:List TypeId} {vs:List Value} {ds:List (DataW H)} {ps:List MemPlace},(ts.all fun t=>P.readableRec t&&decide (t<P.types.size))=true→
 DataW.TrodAll enc P W 0 (fun _=>true) true ts vs ds ps→DataW.TrodAll enc P W' 0 (fun b=>decide (b<W.heap.size)) true ts vs ds ps
 |[],[],[],ps,_,h=>h
 | t::ts,v::vs,d::ds,ps,ht,⟨p,q,h1,h2,h3⟩=>by
   rw [XE,Xf,Xf] at ht;refine ⟨p,q,Below.trod hl ht.1.1 (UW ht.1.2) h1 hb ?_,Ob hl hb ht.2 h2,h3⟩;obtain ⟨m,hm⟩:=h1;exact DataW.trod_lt m _ _ _ hm
theorem AF.law {P:Program} {f:FuncId} {ps:List PV} (hA:AF P f ps (· = .val (.bool true))) {W:World} {vs:List Value} (hl:vs.length=ps.length) (hv:∀(i:Nat) (v:Value) (p:PV),vs[i]? =some v→ps[i]? =some p→Shr (fun _=>False) W v p) (hT:TabW W (fun _=>False) (fun _=>False)) (hE:ErrW W (fun _=>False) (fun _=>False):=by intro g hg;cases hg):
 Calls P f vs.toArray W fun e w'=>e= .returned (.bool true)∧Below W.heap.size W w':=
 (hA (fun _=>False) W vs ⟨fun _ h=>h.elim,fun _=>hT,fun _=>hE⟩ hl hv).mono fun e w' ⟨v,p,F,h1,h2,h3,h4,_⟩=>by
   subst h2;have:=(h4.sh rfl).vOf;subst this;exact ⟨h1,h3⟩
end
def Za1 (P:Program) (t:TypeId) (k:Nat) {α:Type} (enc:α→List PV) (fit:α→Prop) (fuel:Nat):Prop:=
 ∀ {H:Type} (e:TypeId×Value→H) (w:World) (spare:Nat→Bool) (held:Bool) (cs:List Value) (x:DataW H×List MemPlace),DataW.trod e P w 0 spare held fuel t cs=some x→(∀n∈x.1.weights P t,n≤reachBytes)→
  ∃a,fit a∧cs.length=k∧∀(i:Nat) (v:Value) (p:PV),cs[i]? =some v→(enc a)[i]? =some p→Shr (fun _=>False) w v p
section
variable {P:Program} {t:TypeId}
theorem Dec.toF {α:Type} {k:Nat} {enc:α→List PV} {fit:α→Prop} (D:Dec P t k enc fit) (fuel:Nat):Za1 P t k enc fit fuel:=fun e w spare held cs x h hw=>D.dec e w spare held fuel cs x h hw
theorem Pl {H:Type} {α:Type} {e k o fuel:Nat} {enc:α→List PV} {fit:α→Prop} (hsz:P.cellsOf e=k) (hlen:∀a,(enc a).length=k) (D:Za1 P e k enc fit fuel) {en:TypeId×Value→H} {w:World} {spare:Nat→Bool} {held:Bool} {cs:List Value} {y:DataW H×List MemPlace}
 (h:DataW.trod en P w 0 spare held fuel e ((cs.drop o).take (P.cellsOf e))=some y) (hwt:∀n∈y.1.weights P e,n≤reachBytes):∃a,fit a∧∀(i:Nat) (v:Value) (p:PV),cs[o+i]? =some v→(enc a)[i]? =some p→Shr (fun _=>False) w v p:=by
 obtain ⟨a,h1,_,h3⟩:=D en w spare held _ y h hwt
 refine ⟨a,h1,fun i v p hv hp=>h3 i v p ?_ hp⟩
 have hi:i<k:=by rw [←hlen a];exact Zh hp
 rw [hsz,XZ hi,Vm];exact hv
theorem Ze7 {α:Type} {e k fuel:Nat} {enc:α→List PV} {fit:α→Prop} (ht:P.underlying t=some (.slice e)) (hk:0<k) (hby:0<P.bytesOf e) (hsz:P.cellsOf e=k) (hln:∀a,(enc a).length=k) (D:∀n,n<fuel→Za1 P e k enc fit n):
 Za1 P t 1 (fun l:List α=>[PV.sl l.length (l.flatMap enc)]) (fun l=>l.length≤140737488355328∧∀x∈l,fit x) fuel:=fun en w spare held cs x h hwt=>by
 rcases DataW.trod_slice ht h with ⟨rfl,_⟩|⟨a,len,cap,elems,more,n,rfl,rfl,rfl,_,hl,hm,hel,hx,_,_⟩
 · exact ⟨[],⟨sM,sM⟩,rfl,fun i v p h1 h2=>Et (.emp none 0 (by unfold maxLen;omega) (fun _=>rfl)) i h1 h2⟩
 · rcases Vb len with h0|h0
   · subst h0;exact ⟨[],⟨sM,sM⟩,rfl,fun i v p h1 h2=>Et (.emp (some a) cap hm (fun h=>by cases h)) i h1 h2⟩
   simp only [DataW.weights,ht] at hwt;have hlen:len≤reachBytes:=by
    have:=hwt _ (Xm ..);simp only [Xe,hel] at this;exact XN (XN (Ul len _) (Nat.le_mul_of_pos_right _ hby)) this
   have hDn:Za1 P e k enc fit n:=D n (Nat.lt_succ_self n);have hone:∀i,i<len→∃(y:α×(Nat→Value)),fit y.1∧∀(j:Nat) (p:PV),(enc y.1)[j]? =some p→w.cell? ((a.add (i*k)).add j)=some (y.2 j)∧Shr (fun _=>False) w (y.2 j) p:=fun i hi=>by
    have h1:=hx i hi;obtain ⟨z,hz⟩:=YJ (show i<elems.length by omega);rw [hz] at h1;obtain ⟨cs',h2,h3⟩:=XX.1 h1;rw [hsz] at h2;obtain ⟨_,hlen',hcell⟩:=World.cells?_some h2;obtain ⟨y,hy,_,hS⟩:=hDn en w spare held cs' _ h3 (fun m hm=>hwt m (Xo _ (Xq.2 (.inl (SC P e (Xl.2 ⟨z,Xc hz,rfl⟩) hm)))));refine ⟨(y,fun j=>(cs'[j]?).getD undef),hy,fun j p hp=>?_⟩;(have hj:j<k:=by rw [←hln y];exact Zh hp);obtain ⟨u,hu⟩:=YJ (show j<cs'.length by omega);have:=hcell j hj;simp only [hu,Uv];exact ⟨by rw [this,hu],hS j u p hu hp⟩
   obtain ⟨y0,hy0⟩:=hone 0 h0;have key:∀i:Nat,∃(y:α×(Nat→Value)),i<len→fit y.1∧∀(j:Nat) (p:PV),(enc y.1)[j]? =some p→w.cell? ((a.add (i*k)).add j)=some (y.2 j)∧Shr (fun _=>False) w (y.2 j) p:=fun i=>by
    by_cases hi:i<len
    · obtain ⟨y,hy⟩:=hone i hi;exact ⟨y,fun _=>hy⟩
    · exact ⟨y0,fun h=>UV h hi⟩
   obtain ⟨Y,hY⟩:=Classical.skolem.1 key;have hspot:∃b off,a=⟨b,off,none⟩:=by
    obtain ⟨hf,hc⟩:=hY 0 h0;obtain ⟨p,hp⟩:=YJ (show 0<(enc (Y 0).1).length by rw [hln];exact hk);have:=(hc 0 p hp).1;obtain ⟨b,off,spot⟩:=a;(have hspot:spot=none:=by simpa [Addr.add] using World.cell?_spot this);subst hspot;exact ⟨b,off,rfl⟩
   obtain ⟨b,off,rfl⟩:=hspot;have hflen:((List.range len).map fun i=>(Y i).1).length=len:=sM;refine ⟨(List.range len).map fun i=>(Y i).1,⟨by rw [hflen];unfold reachBytes at hlen;omega,fun x hx=>?_⟩,rfl,fun i v p h1 h2=>Et ?_ i h1 h2⟩
   · obtain ⟨i,hi,rfl⟩:=Xl.1 hx;exact (hY i (by simpa using hi)).1
   · rw [hflen];have hat:∀(c:Nat) (p:PV),(((List.range len).map fun i=>(Y i).1).flatMap enc)[c]? =some p→c / k<len∧(enc (Y (c / k)).1)[c % k]? =some p:=fun c p hp=>by
      (have hc:c<len*k:=by have:=Zh hp;rw [flat_len hln,hflen] at this;exact this);have hq:c / k<len:=Nat.div_lt_of_lt_mul (by rw [Ue];exact hc);(have hget:((List.range len).map fun i=>(Y i).1)[c / k]? =some (Y (c / k)).1:=by simp [hq]);have:=Gv hln hget (Nat.mod_lt c hk);rw [Ue,Nat.div_add_mod] at this;exact ⟨hq,by rw [←this];exact hp⟩
     refine .sl b off len cap _ (fun c=>(Y (c / k)).2 (c % k)) hl hm (fun c hc=>⟨?_,fun h=>h⟩) (fun c p hp=>?_)
     · obtain ⟨p,hp⟩:=YJ hc;obtain ⟨hq,hp'⟩:=hat c p hp;have:=((hY (c / k) hq).2 (c % k) p hp').1;rw [Wv,Wv,X3,Ue,Nat.div_add_mod] at this;exact this
     · obtain ⟨hq,hp'⟩:=hat c p hp;exact ((hY (c / k) hq).2 (c % k) p hp').2
end
end Go.En
namespace Go.Proofs.YtgfabnhpllkebaaGreatDoor
open Go.RowKit Go.Cb Go.En Go.ChangeShapes Go.WideShapes Go.ChangeAt Tryz
set_option linter.all false
set_option maxRecDepth 100000
theorem Zpn:Dec prog 3 1 (fun n:Int=>[pInt n]) (fun n=> -9223372036854775808≤n∧n≤9223372036854775807):=Zme underlying3 kR
theorem Zpo:Dec prog 9 1 (fun s:ByteArray=>[Yv s]) (fun s=>s.size≤140737488355328):=Zmf underlying9 kR
theorem ZhB (fuel:Nat):Za1 prog 24 3 cN FitT fuel:=by
 induction fuel using Nat.strongRecOn with
 | _ fuel ih=>
   intro H e w spare held cs x h hwt;obtain ⟨xs,n,rfl,rfl,hlen,hxl,hf⟩:=DataW.trod_struct underlying24 h;simp only [DataW.weights,underlying24] at hwt;match xs,hxl with
   |[y0,y1,y2],_=>
   have g0:DataW.trod e prog w 0 spare held n 3 ((cs.drop 0).take (prog.cellsOf 3))=some y0:=hf 0 _ rfl;have g1:DataW.trod e prog w 0 spare held n 9 ((cs.drop 1).take (prog.cellsOf 9))=some y1:=hf 1 _ rfl;have g2:DataW.trod e prog w 0 spare held n 22 ((cs.drop 2).take (prog.cellsOf 22))=some y2:=hf 2 _ rfl;have hD0:Za1 prog 3 1 (fun n:Int=>[pInt n]) (fun n=> -9223372036854775808≤n∧n≤9223372036854775807) n:=Dec.toF Zpn n;have hD1:Za1 prog 9 1 (fun s:ByteArray=>[Yv s]) (fun s=>s.size≤140737488355328) n:=Dec.toF Zpo n;have hsl:Za1 prog 22 1 (fun l:List Nd=>[PV.sl l.length (l.flatMap cN)]) (fun l=>l.length≤140737488355328∧∀x∈l,FitT x) n:=
    Ze7 underlying22 dC (Xa kR) kR ZaW (fun m hm=>ih m oM)
   obtain ⟨a,ha,A⟩:=Pl (k:=1) (enc:=fun n:Int=>[pInt n]) (fit:=fun n:Int=> -9223372036854775808≤n∧n≤9223372036854775807) kR (fun _=>rfl) hD0 g0 (fun n hn=>hwt n (W5 prog 0 rfl rfl hn));obtain ⟨b,hb,B⟩:=Pl (k:=1) (enc:=fun s:ByteArray=>[Yv s]) (fit:=fun s:ByteArray=>s.size≤140737488355328) kR (fun _=>rfl) hD1 g1 (fun n hn=>hwt n (W5 prog 1 rfl rfl hn));obtain ⟨l,hl,C⟩:=Pl (k:=1) (enc:=fun l:List Nd=>[PV.sl l.length (l.flatMap cN)]) (fit:=fun l:List Nd=>l.length≤140737488355328∧∀x∈l,FitT x) kR (fun _=>rfl) hsl g2 (fun n hn=>hwt n (W5 prog 2 rfl rfl hn));refine ⟨.mk a b l, .mk _ hl.1 hb ha.1 ha.2 hl.2,by rw [hlen];kernel_rfl,fun i v p hv hp=>?_⟩;match i with
   |0=>exact A 0 v p hv (by simpa [cN,Nd.op] using hp)
   |1=>exact B 0 v p hv (by simpa [cN,Nd.act] using hp)
   |2=>exact C 0 v p hv (by rw [←hp];show some _=some _;unfold Wl;rw [P7];rfl)
   |i+3=>simp [cN] at hp
theorem ZnK:Dec prog 24 3 cN FitT where
 size:=by kernel_rfl
 len:=ZaW
 dec:=fun e w spare held fuel cs x h hw=>ZhB fuel e w spare held cs x h hw
open Go.RowKit Go.Cb Go.En
mutual
def Y2:Nd→List ByteArray
 | .mk o a l=>if o=1 then a::JR l else JR l
def JR:List Nd→List ByteArray
 |[]=>[]
 |x::l=>Y2 x++JR l
end
theorem SD {l:List Nd} {s:ByteArray}:s∈JR l↔∃x∈l,s∈Y2 x:=by
 induction l with
 |nil=>simp [JR]
 |cons x l ih=>rw [JR,Xq,ih];simp
end Go.Proofs.YtgfabnhpllkebaaGreatDoor
namespace Go.En
open Go.RowKit Go.Cb
set_option linter.all false
section
variable {sL hP:List (Nat×Ent)}
end
open Go.RowKit Go.Cb Go.Proofs Go.Sort Go.ChangeShapes Go.WideShapes Go.ChangeAt
def Zjz (P:Program) (fs:Nat):Prop:=∀(blk cap:Nat) (zs:List (List UInt8)) (w:World),Go.Sort.Holds encStr w blk 0 zs.toArray→blk<w.heap.size→zs.length<4611686018427387904→
 Calls P fs #[.slice (some ⟨blk,0,none⟩) zs.length cap] w fun e w'=>e= .returned (.tuple #[])∧∃n os,w'=grow (putRow encStr (Go.Sort.ahead w n) blk 0 (zs.mergeSort fun x y=>decide (x≤y)).toArray) os
def Ze8 (s:List UInt8):PV:= .val (encStr s)
section
variable {P:Program} {c:Ctx} {ops:Array Oper} {Q:Exit→Act→World→Prop} {rest:List Oper} {sL hP:List (Nat×Ent)} {o:Oper}
theorem ZjA {fs e d:Nat} {zs:List (List UInt8)} {h:Value} {q:PV} {x:Operand} {ats:Array TypeId} (l:Nat) (hS:Zjz P fs) (hc:∀args w,(callFunc fs args).run P w= .ok (.enter fs args) w)
 (kk:aL P c ops Q rest ⟨put d (.tuple #[], .val (.tuple #[])) sL,put l (h, .own e 1 zs.length ((zs.mergeSort fun x y=>decide (x≤y)).map Ze8)) hP⟩)
 (hn:0<zs.length) (hn2:zs.length<4611686018427387904:=by omega) (hw:Ye ops sL o=some true:=by exact rfl) (hd:o.dst=some d:=by exact rfl) (hdn:d<c.nt:=by exact Xa rfl) (ho:o.op= .call {callee:= .value (.func fs),args:= #[x],argTypes:=ats}:=by exact rfl) (hx:ev sL x=some (h,q):=by exact rfl) (hl:lk hP l=some (h, .own e 1 zs.length (zs.map Ze8)):=by exact rfl):aL P c ops Q (o::rest) (⟨sL,hP⟩:St):=
 Y4 hw fun a w F H=>by
  have hxv:=(H.rd.ev hx).1;have hTr:=H.tr l _ _ hl;obtain ⟨xs,Fs,hrow,hlen,hT,hdj,hb,hF⟩:=hTr.row;obtain ⟨blk,cap,hh,hc1,hc2,hc3⟩:=JW hTr hn;have hblkF:F l blk:=(hF blk).2 (.inl (by rw [hh];rfl));have hxs:∀(j:Nat) (v:Value),xs[j]? =some v→∃z,zs[j]? =some z∧v=encStr z:=fun j v hv=>by
   obtain ⟨p,hp⟩:=YS hv hlen.symm;have h1:=hp;rw [Xg,XB] at h1;obtain ⟨z,hz,rfl⟩:=h1;exact ⟨z,hz,((hT j v _ hv hp).sh rfl).vOf⟩
  have hHold:Go.Sort.Holds encStr w blk 0 zs.toArray:=fun j hj=>by
   simp only [Vn] at hj;have hrow':=hrow;rw [hh] at hrow';obtain ⟨v,hv⟩:=YJ (show j<xs.length by rw [←hlen,Xe];exact hj);obtain ⟨z,hz,rfl⟩:=hxs j v hv;refine ⟨?_,by rw [Xw];exact hrow'.frozenAt j⟩;rw [Xw,W9 hrow' hv];have:zs.toArray[j]! =z:=by
    have hz':=(XK.1 hz).2;simp [hj,hz']
   rw [this]
  have hcall:=hS blk cap zs w hHold hc3 hn2;unfold Oper.wp;have hrun:(execOp a.eval o).run P w= .ok (.enter fs #[h]) w:=by
   have hev:a.eval (.func fs)= .func (.func fs) #[] #[]:=rfl;simp [execOp,ho,resolve,Deferred.ofValue,hev,invoke,hxv,hc]
  rw [hrun,Oper.upon_enter,hh];refine hcall.mono fun e' w' ⟨he',m,os,hw'⟩=>?_;subst he';have hsl:(zs.mergeSort fun x y=>decide (x≤y)).length=zs.length:=UC _;generalize hsd:(zs.mergeSort fun x y=>decide (x≤y))=sd at hsl hw' kk;have hch0:Chg (fun b=>b=blk) w w':=by
   rw [hw'];refine ⟨rfl,rfl,rfl,?_,fun i hi hne=>?_⟩
   · simp [grow,putRow,mapBlock,Go.Sort.ahead]
   · have:(grow (putRow encStr (Go.Sort.ahead w m) blk 0 sd.toArray) os).heap=(w.heap.modify blk (onCells (putCells encStr 0 sd.toArray)))++os:=rfl;rw [this,Vp (by simpa using hi),VP,UT (fun e=>hne e.symm)]
  rw [hd];refine kk _ _ ⟨fun l'=>if l'=l then (fun b=>b=blk) else F l',?_⟩;refine H.change (fun l'=>l'=l) hdn (hch0.wid fun b hb'=> .inl ⟨l,_,rfl,hl,by rw [hb'];exact hblkF⟩) (fun l' z hne hz=>?_) (fun l' z b hT' hz hb'=>?_) (fun hmm l' u p hT' hz=>?_) (fun l1 l2 _ _ _ h1 h2 hne=>UV (h1.trans h2.symm) hne) (fun _=> .val _) (fun _=>by rw [hw'];exact Ul _ _)
  · rcases YB hz with ⟨e1,_⟩|⟨_,e1⟩
    · exact UV e1.symm hne
    · exact ⟨e1,by simp [hne]⟩
  · subst hT';simp only [if_true] at hb';exact .inl ⟨l',_,rfl,hl,by rw [hb'];exact hblkF⟩
  · subst hT';rw [Yl] at hz
    cases hz;simp only [if_true];rcases hrow.2 with ⟨e1,_⟩|⟨g',cap',cur,e1,_,e3,e4,e5,e6,e7⟩
    · rw [hh] at e1;cases e1
    · rw [hh] at e1
      cases e1;have hlt:=Wu e3;refine .own (sd.map encStr) (fun _ _=>False) ⟨by rw [Xe,hsl,Xp], .inr ⟨blk,cap,putCells encStr 0 sd.toArray cur,hh,Xd _,?_,e4,e5,by simp [putCells];omega,?_⟩⟩ sM (fun t v p hv hp=>?_) (fun _ _ _ _ _ _ h=>h.elim) (fun _ _ _ h=>h.elim) (fun b=>by rw [hh];simp [Value.ownBlock,eq_comm])
      · rw [hw'];have:(grow (putRow encStr (Go.Sort.ahead w m) blk 0 sd.toArray) os).heap=(w.heap.modify blk (onCells (putCells encStr 0 sd.toArray)))++os:=rfl;rw [this,Vp (by simpa using hlt),VP,UU rfl,e3];rfl
      · have:=OX encStr sd.toArray cur (by simp only [Vn];rw [hsl,e6];omega);simp only [Vn] at this;rw [Xp,←hsl];exact this
      · rw [Xg,XB] at hv hp;obtain ⟨z,hz,rfl⟩:=hv;obtain ⟨z',hz',rfl⟩:=hp;rw [hz] at hz';cases hz';exact .shr (.val _) (fun _ h=>h)
theorem Zmg {fs e d:Nat} {zs:List (List UInt8)} {h:Value} {q:PV} {x:Operand} {ats:Array TypeId} (l:Nat) (hS:Zjz P fs) (hS0:Eo P fs) (hc:∀args w,(callFunc fs args).run P w= .ok (.enter fs args) w)
 (kk:aL P c ops Q rest ⟨put d (.tuple #[], .val (.tuple #[])) sL,put l (h, .own e 1 zs.length ((zs.mergeSort fun x y=>decide (x≤y)).map Ze8)) hP⟩)
 (hn2:zs.length<4611686018427387904:=by omega) (hw:Ye ops sL o=some true:=by exact rfl) (hd:o.dst=some d:=by exact rfl) (hdn:d<c.nt:=by exact Xa rfl) (ho:o.op= .call {callee:= .value (.func fs),args:= #[x],argTypes:=ats}:=by exact rfl) (hx:ev sL x=some (h,q):=by exact rfl) (hl:lk hP l=some (h, .own e 1 zs.length (zs.map Ze8)):=by exact rfl):aL P c ops Q (o::rest) (⟨sL,hP⟩:St):=by
 rcases Vb zs.length with h0|h0
 · have hz:zs=[]:=XR h0;subst hz;refine Ep l hS0 hc ?_ hw hd hdn ho hx hl;exact Zu (fun c a w ⟨F,H⟩=>⟨(),F,H.less (fun _ _ h=>h) fun t x hx=>by
    rcases YB hx with ⟨rfl,e1⟩|⟨_,e1⟩
    · rw [←e1];simpa using hl
    · exact e1⟩) (fun _:Unit=>kk)
 · exact ZjA l hS hc kk h0 hn2 hw hd hdn ho hx hl
end
section
variable {P:Program} {c:Ctx} {ops:Array Oper} {Q:Exit→Act→World→Prop} {rest:List Oper} {st:St} {sL hP:List (Nat×Ent)} {o:Oper} {Z:Nat→Bool} {K:List Nat} {fuel:Nat} {listed:Array Bool}
end
end Go.En
namespace Go.Proofs.YtgfabnhpllkebaaGreatDoor
open Go.RowKit Go.Cb Go.En Tryz
set_option linter.all false
open Classical in
noncomputable def setK (ks:List ByteArray) (s:ByteArray):List ByteArray:=if s∈ks then ks else ks++[s]
noncomputable def colS (ks:List ByteArray) (l:List ByteArray):List ByteArray:=l.foldl setK ks
theorem ZjB (ks:List ByteArray) (s x:ByteArray):x∈setK ks s↔x∈ks∨x=s:=by
 unfold setK
 split
 · rename_i h;exact ⟨.inl,fun h2=>h2.elim id fun e=>e▸h⟩
 · rw [Xq,Xi]
theorem Zmh {ks:List ByteArray} (h:ks.Nodup) (s:ByteArray):(setK ks s).Nodup:=by
 unfold setK
 split
 · exact h
 · rename_i hn;exact VE.2 ⟨h,Vq _ s,fun a ha b hb e=>hn (by rw [Xi] at hb;rw [←hb,←e];exact ha)⟩
theorem Lm:∀(l ks:List ByteArray) (x:ByteArray),x∈colS ks l↔x∈ks∨x∈l
 |[],ks,x=>by simp [colS]
 | s::l,ks,x=>by
   show x∈colS (setK ks s) l↔_;rw [Lm l,ZjB,Xt,or_assoc]
theorem L0:∀(l ks:List ByteArray),ks.Nodup→(colS ks l).Nodup
 |[],_,h=>h
 |s::l,ks,h=>L0 l (setK ks s) (Zmh h s)
theorem SE (ks l m:List ByteArray):colS ks (l++m)=colS (colS ks l) m:=VH
theorem Oc:∀(l ks:List ByteArray),(colS ks l).length≤ks.length+l.length
 |[],ks=>Xh _
 | s ::l,ks=>by
   show (colS (setK ks s) l).length≤_;have h1:=Oc l (setK ks s);have h2:(setK ks s).length≤ks.length+1:=by
    unfold setK;split
    · omega
    · rw [Xb];simp
   rw [Xk];omega
def KI (ks:List ByteArray):List (ByteArray×Value):=ks.map fun s=>(s, .bool true)
theorem Zcu (ks:List ByteArray) (s:ByteArray):Jg (skv (KI ks)) (.string s) (.bool true)=skv (KI (setK ks s)):=by
 rw [Ed]
 congr 1
 unfold setK
 induction ks with
 |nil=>simp [KI,Ec]
 | cons x ks ih=>
   unfold KI at ih ⊢;rw [Xx,Ec];by_cases h:s=x
   · subst h;simp
   · simp only [h,if_false,Ne.symm h] at ih ⊢;by_cases h2:s∈ks
     · simp [h2,h] at ih ⊢;exact ih
     · simp [h2,h] at ih ⊢;exact ih
def toB (s:ByteArray):List UInt8:=s.data.toList
def ofB (l:List UInt8):ByteArray:=⟨l.toArray⟩
theorem HS (s:ByteArray):ofB (toB s)=s:=by cases s;simp [ofB,toB]
theorem Zgo (l:List UInt8):toB (ofB l)=l:=by simp [ofB,toB]
def Gc (ks:List ByteArray):List ByteArray:=((ks.map toB).mergeSort fun x y=>decide (x≤y)).map ofB
theorem ZjC (ks:List ByteArray):((ks.map toB).mergeSort fun x y=>decide (x≤y)).map Ze8=(Gc ks).map Yv:=by
 unfold Gc
 rw [XG];rfl
theorem Zmi (ks:List ByteArray):(ks.map toB).map Ze8=ks.map Yv:=by
 rw [XG]
 refine VQ fun s _=>?_
 show PV.val (.string (ofB (toB s)))=Yv s
 rw [HS]
theorem Ln (ks:List ByteArray):(Gc ks).length=ks.length:=by unfold Gc;simp
theorem ζw {l m:List ByteArray} (h:l.Perm m):Gc l=Gc m:=by
 unfold Gc
 congr 1
 have htr:∀a b c:List UInt8,decide (a≤b)=true→decide (b≤c)=true→decide (a≤c)=true:=fun a b c h1 h2=>by
  simp only [UQ] at*;exact List.le_trans h1 h2
 have hto:∀a b:List UInt8,(decide (a≤b)||decide (b≤a))=true:=fun a b=>by
  simp only [Va,UQ];exact List.le_total a b
 refine List.Perm.eq_of_pairwise (le:=fun x y=>decide (x≤y)=true) (fun a b _ _ h1 h2=>?_) (Up htr hto _) (Up htr hto _) (((Uq _ _).trans (h.map toB)).trans (Uq _ _).symm)
 simp only [UQ] at h1 h2
 exact List.le_antisymm h1 h2
noncomputable def actR (t:Nd):List ByteArray×Int:=if Kc t=true then (if (colS [] (Y2 t)).length≤40 then (Gc (colS [] (Y2 t)),0) else ([],5)) else ([],1)
theorem ZhC {l m:List ByteArray} (h:∀s,s∈l↔s∈m):(colS [] l).Perm (colS [] m):=
 (UN (L0 l [] Vc) (L0 m [] Vc)).2 fun s=>by rw [Lm,Lm,h]
theorem ZhD {t:Nd} (h:rightT t=true):t.act.size≤40:=by
 unfold rightT at h
 split at h
 · simp only [Xf] at h;have:=h.2;unfold Jw at this;simp only [Xf,UQ] at this;exact this.1.1.2
 · split at h
   · simp only [Xf,UQ] at h;rw [h.2];exact Xd _
   · split at h
     · simp only [Xf,UQ] at h;rw [h.2];exact Xd _
     · split at h
       · simp only [Xf,UQ] at h;rw [h.2];exact Xd _
       · cases h
set_option maxRecDepth 100000
theorem KY:AggT prog 24 3=true:=by kernel_rfl
theorem ζx:ElT prog 27 9 1 16 (.string ByteArray.empty):=⟨underlying27,by kernel_rfl,rfl,dC⟩
theorem Zcv:FldT prog 24 0 0=true:=by kernel_rfl
theorem Zcw:FldT prog 24 1 1=true:=by kernel_rfl
theorem DX:FldT prog 24 2 2=true:=by kernel_rfl
theorem ZhE:MpT prog 76 9 4 .string (.bool false):=⟨underlying76,underlying9, .inl rfl,by show ZeroT _ _ _;unfold ZeroT;kernel_rfl⟩
theorem ζy:NoAgg prog 22=true:=by kernel_rfl
theorem ZjD:NoAgg prog 3=true:=by kernel_rfl
theorem ZjE:NoAgg prog 9=true:=by kernel_rfl
theorem Ru:SlT prog 22 24 3=true:=by kernel_rfl
theorem ζz:ZeroT prog 24 (.agg #[(.int .i64 0),(.string ByteArray.empty),(.slice none 0 0)]):=by unfold ZeroT;kernel_rfl
theorem ZhF:Zjz prog 75:=fun blk cap zs w hH hb hn=>Tryz.slices_Sort_string blk 0 cap zs w hH hb hn
theorem Ze9:Eo prog 75:=Tryz.slices_Sort_string_none
theorem Ts {l:List Nd} {k:Nat} {x:Nd} (h:l[k]? =some x):JR (l.take (k+1))=JR (l.take k)++Y2 x:=by
 have e:∀m:List Nd,JR m=m.flatMap Y2:=fun m=>by
  induction m with
  |nil=>rfl
  |cons y m ih=>rw [JR,ih,Xz]
 rw [e,e,ZR h,XM,VS]
set_option maxHeartbeats 4000000 in
theorem Zfa:∀(t:Nd),okT t=true→szT t≤1000000→∀(ks:List ByteArray) (m V:Value),AFh False prog 74 [(0,m, .val m),(1,V,pTr t)] [(1000,m, .omap (skv (KI ks)))] (fun v q h=>h=[(1000,m, .omap (skv (KI (colS ks (Y2 t)))))]):=Nd.ind fun o a l ih hok hs ks m V=>by
 have e0:pTr (.mk o a l)= .agg [pInt o,Yv a,Wl l]:=rfl
 rw [e0]
 obtain ⟨hr,hp⟩:=Js.1 hok
 have hsz:=Ze5 (.mk o a l)
 have hlz:=Rt l
 simp only [Nd.l,Nd.op] at hp hsz
 obtain ⟨K,hK⟩:∃K,K=if o=1 then setK ks a else ks:=⟨_,rfl⟩
 have hres:colS ks (Y2 (.mk o a l))=colS K (JR l):=by
  rw [hK,Y2];split<;>rfl
 rw [hres]
 refine AFh.of_body 23 func74 rfl ntmps74 (Xa rfl) rfl ?_
 intro w0 M0 N0
 refine Ze ?_
 (refine ZB 3 3 fun h3=>?_<;>refine Zk ?_)
 (refine xL 6 (Zd 3 Zcv) ?_<;>(refine yL 7 (Zl 3 ZjD) fun v7 h=>?_;cases h)<;>refine xL 8 Yf ?_<;>refine Zc ?_)
 refine cX ?_ ?_<;>intro hb8
 · first |exact bN hb8|(
 refine Ze ?_;(refine xL 9 Zb (xL 10 (Zd 3 Zcw) ?_)<;>(refine yL 11 (Zl 3 ZjE) fun v11 h=>?_;cases h)<;>(refine GU 1000 ZhE ?_;rw [Zcu,show setK ks a=K by rw [hK,UU (by assumption)]])<;>refine Zk ?_)
 (refine xL 12 (Zd 3 DX) ?_<;>(refine yL 13 (Zl 3 ζy) fun v13 h=>?_;cases h)<;>refine xL 14 (ZW Ru) (xL 15 Zb ?_)<;>refine Zc ?_)
 refine ZE (ι:={q:Nat×List ByteArray//q.1≤l.length∧q.2=colS K (JR (l.take q.1))}) (fun k=>⟨[(0,_,_),(13,_,_),(14,_,_),(15, .int .i64 k.1.1,pInt k.1.1)],[(1000,m, .omap (skv (KI k.1.2)))]⟩) (fun k=>l.length-k.1.1) ⟨(0,K),Xd _,by rw [VC];rfl⟩ (fun a w H=>H.weaken ⟨rfl,rfl,rfl,rfl,trivial⟩ ⟨rfl,trivial⟩) ?_;rintro ⟨⟨i,S⟩,hi,hS⟩;dsimp only;dsimp only at hi hS;refine Ze ?_;(refine xL 16 ZQ ?_<;>refine Zc ?_)
 refine cX ?_ ?_<;>intro hb16
 · first|exact bN hb16|(
 obtain ⟨x,hx⟩:=Zw (show i<l.length by omega);have e1:((LN l).drop (i*3)).take 3=[pInt x.op,Yv x.act,Wl x.l]:=KN hx;have e2:=J2 hx;have hxm:=Xc hx;have hxs:=LW hxm;have hsn:=Ts hx;refine Ze ?_;(refine xL 17 (ZH Ru) ?_<;>(refine yL 18 (WA KY) fun v18 h=>?_;cases h)<;>refine Zv [(.int .i64 0),(.string ByteArray.empty),(.slice none 0 0)] 3 5 ζz fun h5=>?_<;>refine Zz 5 KY ?_<;>refine Zk ?_)
 (refine xL 19 Zb ?_<;>(refine yL 20 (Zs 5 KY) fun v20 h=>?_;cases h)<;>(refine WY [(1000,m, .omap (skv (KI S)))] ⟨rfl,trivial⟩ ?_;refine J3 [] 21 (call74) (ih x hxm (hp x hxm) oM S m v20) (fun v21 p21 h21 hR21=>?_);subst hR21)<;>refine Zk ?_)
 (refine xL 22 ZK (xL 15 Zb ?_)<;>refine Zc ?_)
 refine Zn (
  ⟨(i+1,colS S (Y2 x)),Zh hx,by dsimp only;rw [hsn,SE,←hS]⟩
  ) (by dsimp only;omega) ⟨rfl,rfl,rfl,rfl,trivial⟩ ⟨rfl,trivial⟩)
 · first|exact bN hb16|(
 refine nav ?_;(have hS2:S=colS K (JR l):=by rw [hS,Xj oM]);refine SA [(1000,m, .omap (skv (KI S)))] (results74) ⟨rfl,trivial⟩ ?_;rw [hS2]))
 · first |exact bN hb8|(
 rw [show ks=K by rw [hK,UT (by assumption)]];refine Ze ?_;(refine xL 12 (Zd 3 DX) ?_<;>(refine yL 13 (Zl 3 ζy) fun v13 h=>?_;cases h)<;>refine xL 14 (ZW Ru) (xL 15 Zb ?_)<;>refine Zc ?_)
 refine ZE (ι:={q:Nat×List ByteArray//q.1≤l.length∧q.2=colS K (JR (l.take q.1))}) (fun k=>⟨[(0,_,_),(13,_,_),(14,_,_),(15, .int .i64 k.1.1,pInt k.1.1)],[(1000,m, .omap (skv (KI k.1.2)))]⟩) (fun k=>l.length-k.1.1) ⟨(0,K),Xd _,by rw [VC];rfl⟩ (fun a w H=>H.weaken ⟨rfl,rfl,rfl,rfl,trivial⟩ ⟨rfl,trivial⟩) ?_;rintro ⟨⟨i,S⟩,hi,hS⟩;dsimp only;dsimp only at hi hS;refine Ze ?_;(refine xL 16 ZQ ?_<;>refine Zc ?_)
 refine cX ?_ ?_<;>intro hb16
 · first|exact bN hb16|(
 obtain ⟨x,hx⟩:=Zw (show i<l.length by omega);have e1:((LN l).drop (i*3)).take 3=[pInt x.op,Yv x.act,Wl x.l]:=KN hx;have e2:=J2 hx;have hxm:=Xc hx;have hxs:=LW hxm;have hsn:=Ts hx;refine Ze ?_;(refine xL 17 (ZH Ru) ?_<;>(refine yL 18 (WA KY) fun v18 h=>?_;cases h)<;>refine Zv [(.int .i64 0),(.string ByteArray.empty),(.slice none 0 0)] 3 5 ζz fun h5=>?_<;>refine Zz 5 KY ?_<;>refine Zk ?_)
 (refine xL 19 Zb ?_<;>(refine yL 20 (Zs 5 KY) fun v20 h=>?_;cases h)<;>(refine WY [(1000,m, .omap (skv (KI S)))] ⟨rfl,trivial⟩ ?_;refine J3 [] 21 (call74) (ih x hxm (hp x hxm) oM S m v20) (fun v21 p21 h21 hR21=>?_);subst hR21)<;>refine Zk ?_)
 (refine xL 22 ZK (xL 15 Zb ?_)<;>refine Zc ?_)
 refine Zn (
  ⟨(i+1,colS S (Y2 x)),Zh hx,by dsimp only;rw [hsn,SE,←hS]⟩
  ) (by dsimp only;omega) ⟨rfl,rfl,rfl,rfl,trivial⟩ ⟨rfl,trivial⟩)
 · first|exact bN hb16|(
 refine nav ?_;(have hS2:S=colS K (JR l):=by rw [hS,Xj oM]);refine SA [(1000,m, .omap (skv (KI S)))] (results74) ⟨rfl,trivial⟩ ?_;rw [hS2]))
def Zok:Value×Value→ByteArray
 |(.string s,_)=>s
 |_=>ByteArray.empty
theorem ZjF (ks:List ByteArray):(skv (KI ks)).map Zok=ks:=by
 unfold skv KI
 rw [XG,XG]
 exact (VQ fun s _=>rfl).trans (List.map_id ks)
theorem ZjG {ks:List ByteArray} {k v:Value} (h:(k,v)∈skv (KI ks)):∃s,s∈ks∧k= .string s∧v= .bool true:=by
 unfold skv KI at h
 rw [XG] at h
 obtain ⟨s,hs,e⟩:=Xl.1 h
 cases e
 exact ⟨s,hs,rfl,rfl⟩
theorem Zcx (ks:List ByteArray):(skv (KI ks)).length=ks.length:=by unfold skv KI;rw [Xe,Xe]
theorem ZjH {es:Array MapEntry} {seen:Array Nat} {e:MapEntry} {clock:Nat} (hW:WfM es clock) (he:e∈(leftOf es seen).toList):(leftOf es (seen.push e.born)).size<(leftOf es seen).size:=by
 have h:=(ζs hW he).length_eq
 rw [Xk,Eb,Eb] at h
 omega
theorem ZjI {es:Array MapEntry} {seen:Array Nat} {e:MapEntry} (he:e∈(leftOf es seen).toList):(e.key,e.val)∈kvOf es:=Xl.2 ⟨e,Zcm he,rfl⟩
theorem Eu (e n:Nat) (l:List ByteArray) (h:n=l.length):share (.own e 1 n (l.map Yv))=YF l:=by
 subst h
 rw [share,Yr,XG];rfl
set_option maxHeartbeats 4000000 in
theorem Zmj (t :Nd) (hf:FitT t):AF prog 25 [pTr t] (· = .tup [YF (actR t).1,pInt (actR t).2]):=by
 have e0:pTr t= .agg [pInt t.op,Yv t.act,Wl t.l]:=rfl
 have hV:=P8 t hf
 rw [e0] at hV ⊢
 refine AF.of_body 30 func25 rfl ntmps25 (Xa rfl) ?_
 intro w0 M0 vs hl hv
 obtain ⟨v0,rfl⟩:=WE hl
 clear hl hv
 refine Ze ?_
 (refine ZB 1 3 fun h1=>?_<;>refine xL 2 Za (xL 3 Za ?_)<;>refine Zk ?_)
 ((refine yL 7 (Zs 1 KY) fun v7 h=>?_;cases h)<;>(refine cS 8 (cA call24 (hV)) fun v8 h=>?_;cases h)<;>refine xL 9 Z' ?_<;>refine Zc ?_)
 refine cX ?_ ?_<;>intro hb9
 · first|exact bN hb9|(
 refine Ze ?_;(refine xL 2 Za (xL 3 Za ?_)<;>refine Zc ?_)
 refine YG (Y' (t:=2) rfl) fun _=>?_;refine KH (results25) rfl rfl ?_;rw [show actR t=([],1) by unfold actR;rw [UT (by simpa using hb9)]];rfl)
 · first | exact bN hb9|(
 (have hv:Kc t=true:=by simpa using hb9);have hok:=Tc hv;have hsz:=TU hv;obtain ⟨ks,hks⟩:∃ks,ks=colS [] (Y2 t):=⟨_,rfl⟩;(have hR:actR t=if ks.length≤40 then (Gc ks,0) else ([],5):=by unfold actR;rw [UU hv,hks]);(have hnd:ks.Nodup:=by rw [hks];exact L0 _ _ Vc);refine Ze ?_;(refine Gw 10 fun h10 ho10=>?_<;>refine xL 4 Za ?_<;>refine Zc ?_)
 refine Zq (ZD (l:=10) 1000 rfl rfl) fun _=>?_;(refine Zt ?_<;>refine xL 11 Zb ?_<;>(refine yL 12 (Zs 1 KY) fun v12 h=>?_;cases h)<;>(refine WY [(1000,h10, .omap (skv (KI []))),(1,_,_)] ⟨rfl,rfl,trivial⟩ ?_;refine J3 [1] 13 (call74) (Zfa t hok oM [] h10 v12) (fun v13 p13 h13 hR13=>?_);subst hR13;rw [←hks])<;>refine Zk ?_)
 (refine xL 14 Zb (xL 15 (HN 1000 underlying76) (xL 16 Yz ?_))<;>refine Zc ?_)
 refine cX ?_ ?_<;>intro hb16
 · first|exact bN hb16|(
 refine Ze ?_;(refine xL 2 Za (xL 3 Za ?_)<;>refine Zc ?_)
 refine YG (Y' (t:=2) rfl) fun _=>?_;refine KH (results25) rfl rfl ?_;rw [Zcx] at hb16;rw [hR,UT oM];rfl)
 · first | exact bN hb16|(
 rw [Zcx] at hb16;rw [UU oM] at hR;refine Ze ?_;(refine xL 5 Za ?_<;>refine Zc ?_)
 refine Zq (En.freeze (l:=1000) (t:=4) rfl rfl) fun _=>?_;(refine Zt ?_<;>refine xL 17 Zb ?_<;>refine Zji 18 underlying76 (fun b18 r18 c18 es18 hkv18 hWf18=>?_)<;>refine Zc ?_)
 refine Zq (KT 200 9 1 rfl) fun _=>?_;refine ZE (ι:={x:Value×Array Nat×List ByteArray//x.1.oneCell'=true∧(x.2.2++(kvOf (leftOf es18 x.2.1)).map Zok).Perm ks}) (fun k=>⟨[(18,_,_),(5,k.1.1, .val k.1.1)],[(18,itv r18,itP b18 r18 c18 es18 k.1.2.1),(200,k.1.1, .own 9 1 k.1.2.2.length (k.1.2.2.map Yv))]⟩) (fun k=>(leftOf es18 k.1.2.1).size) ⟨(.slice none 0 0,#[],[]),rfl,by rw [Zjj,←hkv18,ZjF];exact .refl _⟩ (fun a w H=>H.weaken ⟨rfl,rfl,trivial⟩ ⟨rfl,rfl,trivial⟩) ?_;rintro ⟨⟨hov,seen,L⟩,ho,hp⟩;dsimp only;dsimp only at ho hp;have hLl:L.length≤40:=by
  have:=hp.length_eq;rw [Xb] at this;omega
 have hLm:(L.map Yv).length=L.length:=Xe _;refine Ze ?_;(refine Zl7 18 19 hWf18 (fun hlf18=>?_) (fun e18 hle18=>?_)<;>refine xL 20 Zi ?_<;>refine Zc ?_)<;>(
 refine cX ?_ ?_<;>intro hb20
 · first|exact bN hb20|(
 refine Ze ?_;(refine xL 21 (Zl8 18 hWf18 (Zcm hle18)) ?_<;>refine xL 22 Zi (xL 6 Za ?_)<;>refine Zc ?_)
 obtain ⟨s,hmem,hks,hvs⟩:=ZjG (hkv18▸ZjI hle18);rw [hks];(refine Zt ?_<;>refine xL 23 Zb (xL 24 Zb ?_)<;>refine ZM (kk:=1) 25 ζx fun h25 ho25=>?_<;>refine ZY 200 25 26 ζx fun h26 ho26=>?_<;>refine xL 5 Za ?_<;>refine Zc ?_)
 refine Kn (ZD (l:=26) 200 rfl rfl) fun _=>?_;rw [show L.map Yv++[_]=(L++[s]).map Yv from (by rw [Xs];rfl),show L.length+1=(L++[s]).length by simp];refine Zn (
  ⟨(h26,seen.push e18.born,L++[s]),ho26,by
    refine .trans ?_ hp;have h1:=(ζs hWf18 hle18).map Zok;rw [Xx,hks,hvs] at h1;show (L++[_]++_).Perm _;rw [Xu];exact h1.symm.append_left L⟩
  ) (ZjH hWf18 hle18) ⟨rfl,rfl,trivial⟩ ⟨rfl,rfl,trivial⟩)
 · first|exact bN hb20|(
 refine nav ?_;have hp0:L.Perm ks:=by
  rw [hlf18] at hp;have h1:kvOf (#[]:Array MapEntry)=[]:=rfl;rw [h1,X',Xr] at hp;exact hp
 have hLL:(L.map toB).length=L.length:=Xe _;refine Zq (ZF (l:=200) (p':= .own 9 1 (L.map toB).length ((L.map toB).map Ze8)) rfl (by rw [Zmi,hLL])) fun _=>?_;(refine Zt ?_<;>refine xL 27 Zb ?_<;>refine Zmg (zs:=L.map toB) 200 ZhF Ze9 (call75) ?_<;>refine Zc ?_)
 rw [ZjC,ζw hp0];refine Zq (En.freeze (l:=200) (t:=5) rfl rfl) fun _=>?_;rw [Eu _ _ _ (by rw [Ln,hLL,hp0.length_eq])];(refine Zt ?_<;>refine xL 29 Zb (xL 2 Za (xL 3 Za ?_))<;>refine Zc ?_)
 refine KH (results25) rfl rfl ?_;rw [hR]))))
def kyv (k1 g:Nat):Value:= .func (.func k1) #[] #[.pointer (some ⟨g,0,none⟩)]
def kyP (g b clock t:Nat) (es:Array MapEntry):PV:= .oblk (itv g) g (.cells #[.map (some b)] t) [(b, .map es clock)]
def kyE (g b clock t:Nat) (es:Array MapEntry):Ent:=(itv g,kyP g b clock t es)
def ZnL (P:Program) (f k1 t:Nat):Prop:=∀(b:Nat) (w:World),Calls P f #[.map (some b)] w fun e w'=>e= .returned (kyv k1 w.heap.size)∧w'=w.alloc (.cells #[.map (some b)] t)
def Zcy (P:Program) (f k1 t T:Nat):Prop:=∀(g b clock:Nat) (es:Array MapEntry) (ks:List ByteArray) (w:World),w.heap[g]? =some (.cells #[.map (some b)] t)→w.heap[b]? =some (.map es clock)→WfM es clock→kvOf es=skv (KI ks)→ks.Nodup→ks.length≤1000000→(∀s∈ks,s.size≤140737488355328)→
 Calls P f #[kyv k1 g] w fun e w'=>∃v,e= .returned v∧w'.ownsRow w.heap.size T 1 v ks.length ((Gc ks).map Value.string)∧Below w.heap.size w w'
section
variable {P:Program} {c:Ctx} {ops:Array Oper} {Q:Exit→Act→World→Prop} {rest:List Oper} {sL hP:List (Nat×Ent)} {o:Oper}
theorem Zol {f k1 t:Nat} {x:Operand} {m:Value} {kv:List (Value×Value)} {ats:Array TypeId} (d:Nat) (hA:ZnL P f k1 t) (hc:∀args w,(callFunc f args).run P w= .ok (.enter f args) w)
 (k:∀(g b clock:Nat) (es:Array MapEntry),kv=kvOf es→WfM es clock→aL P c ops Q rest ⟨put d (kyv k1 g, .val (kyv k1 g)) sL,put d (kyE g b clock t es) hP⟩)
 (hw:Ye ops sL o=some true:=by exact rfl) (hd:o.dst=some d:=by exact rfl) (hn:d<c.nt:=by exact Xa rfl) (ho:o.op= .call {callee:= .value (.func f),args:= #[x],argTypes:=ats}:=by exact rfl) (hx:ev sL x=some (m, .smap kv):=by exact rfl) (hl:lk hP d=none:=by exact rfl):aL P c ops Q (o::rest) (⟨sL,hP⟩:St):=
 Y4 hw fun a w F H=>by
  obtain ⟨hv,hS⟩:=H.rd.ev hx
  cases hS with
  | smap b es clock hM h hW=>
    have key:HoldsF c ⟨put d (kyv k1 w.heap.size, .val (kyv k1 w.heap.size)) sL,put d (kyE w.heap.size b clock t es) hP⟩ (fun l'=>if l'=d then (fun x=>x=w.heap.size) else F l') (a.put (some d) (kyv k1 w.heap.size)) (w.alloc (.cells #[.map (some b)] t)):=by
     refine H.change (fun l'=>l'=d) hn ((Ext.alloc _ _).chg) (fun l' x hne hx'=>?_) (fun l' x b' hT hx' hb=>?_) (fun hm l' u q hT hx'=>?_) (fun l1 l2 _ _ _ h1 h2 hne=>UV (h1.trans h2.symm) hne) (fun hm=> .val _)
     · rcases YB hx' with ⟨e1,_⟩|⟨_,e1⟩
       · exact UV e1.symm hne
       · exact ⟨e1,by simp [hne]⟩
     · subst hT;simp only [if_true] at hb;exact .inr (by rw [hb];exact Xh _)
     · subst hT;rw [Yl] at hx';unfold kyE kyP at hx'
       cases hx';simp only [if_true];refine .oblk w.heap.size rfl ?_ (fun p hp=>?_) (fun x=>Iff.rfl)
       · show (w.heap.push _)[w.heap.size]? =_;simp
       · rw [Xi] at hp;subst hp;exact ⟨(Ext.alloc w _).block h,fun hb=>hM (hm b (Wu h) hb)⟩
    have hrun:(execOp a.eval o).run P w= .ok (.enter f #[.map (some b)]) w:=by
     have hev:a.eval (.func f)= .func (.func f) #[] #[]:=rfl;simp [execOp,ho,resolve,Deferred.ofValue,hev,invoke,hv,hc]
    unfold Oper.wp;rw [hrun,Oper.upon_enter];refine (hA b w).mono fun e' w' ⟨he,hw'⟩=>?_;subst he hw';rw [hd];exact k _ _ _ _ rfl hW _ _ ⟨_,key⟩
theorem ZhG {f k1 t T g b clock:Nat} {es:Array MapEntry} {q:PV} {x:Operand} {ats:Array TypeId} {ks:List ByteArray} (l d:Nat) (hA:Zcy P f k1 t T) (hc:∀args w,(callFunc f args).run P w= .ok (.enter f args) w) (hdr:¬c.dr)
 (hW:WfM es clock) (hkv:kvOf es=skv (KI ks)) (hnd:ks.Nodup) (hlen:ks.length≤1000000) (hsz:∀s∈ks,s.size≤140737488355328)
 (k:∀v:Value,v.oneCell'=true→aL P c ops Q rest ⟨put d (v, .val v) sL,put d (v, .own T 1 ks.length ((Gc ks).map Yv)) hP⟩)
 (hw:Ye ops sL o=some true:=by exact rfl) (hd:o.dst=some d:=by exact rfl) (hn:d<c.nt:=by exact Xa rfl) (ho:o.op= .call {callee:= .value (.func f),args:= #[x],argTypes:=ats}:=by exact rfl) (hx:ev sL x=some (kyv k1 g,q):=by exact rfl) (hl:lk hP l=some (kyE g b clock t es):=by exact rfl) (hld:lk hP d=none:=by exact rfl):aL P c ops Q (o::rest) (⟨sL,hP⟩:St):=
 Y4 hw fun a w F H=>by
  have hv:=(H.rd.ev hx).1;obtain ⟨h,hs,hF⟩:=(H.tr l _ _ hl).blk;obtain ⟨hb,_⟩:=hs (b, .map es clock) sM;dsimp only at hb;have hrun:(execOp a.eval o).run P w= .ok (.enter f #[kyv k1 g]) w:=by
   have hev:a.eval (.func f)= .func (.func f) #[] #[]:=rfl;simp [execOp,ho,resolve,Deferred.ofValue,hev,invoke,hv,hc]
  unfold Oper.wp;rw [hrun,Oper.upon_enter];refine (hA g b clock es ks w h hb hW hkv hnd hlen hsz).mono fun e' w' ⟨v,he,hown,hbel⟩=>?_;subst he;rw [hd];have hone:v.oneCell'=true:=by
   rcases hown.2 with ⟨h1,_⟩|⟨g',cap',cur,e1,_⟩
   · rw [h1];rfl
   · rw [e1];rfl
  have hlow:∀b,v.ownBlock=some b→w.heap.size≤b:=fun b hb'=>by
   rcases hown.2 with ⟨h1,_⟩|⟨g',cap',cur,e1,e2,_⟩
   · rw [h1] at hb';simp [Value.ownBlock] at hb'
   · rw [e1] at hb';simp [Value.ownBlock] at hb';omega
  have hown0:w'.ownsRow 0 T 1 v ks.length ((Gc ks).map Value.string):=by
   refine ⟨hown.1,?_⟩;rcases hown.2 with h1|⟨g',cap,cur,e1,e2,r⟩
   · exact .inl h1
   · exact .inr ⟨g',cap,cur,e1,Xd _,r⟩
  have hch:Chg (fun b=>∃l x,l=d∧lk hP l=some x∧F l b) w w':=⟨hbel.os,hbel.tape,hbel.output,hbel.size,fun i hi _=>hbel.block i hi⟩;refine k v hone _ _ ⟨fun l'=>if l'=d then (fun b=>v.ownBlock=some b) else F l',H.change (fun l'=>l'=d) hn hch (fun l' x hne hx'=>?_) (fun l' x b' hT hx' hb=>?_) (fun hm l' u q hT hx'=>?_) (fun l1 l2 _ _ _ h1 h2 hne=>UV (h1.trans h2.symm) hne) (fun hm=> .val _) (fun h=>UV h hdr)⟩
  · rcases YB hx' with ⟨e1,_⟩|⟨_,e1⟩
    · exact UV e1.symm hne
    · exact ⟨e1,by simp [hne]⟩
  · subst hT;simp only [if_true] at hb;exact .inr (hlow b' hb)
  · subst hT;rw [Yl] at hx'
    cases hx';simp only [if_true];refine .own ((Gc ks).map Value.string) (fun _ _=>False) hown0 sM (fun t v p hv hp=>?_) (fun _ _ _ _ _ _ h=>h.elim) (fun _ _ _ h=>h.elim) (fun b=>sM);rw [Xg,XB] at hv hp;obtain ⟨b1,hb1,rfl⟩:=hv;obtain ⟨b2,hb2,rfl⟩:=hp;rw [hb1] at hb2;cases hb2;exact .shr (.val _) (fun _ h=>h)
end
open Go.Maps Go.Sort Go.Shelf in
def rdK (_:Value):Option (DataW Unit×List MemPlace):=some (.lit (.bool true),[])
section
open Go.WideElems Go.MapKept Go.WideMaps
theorem Zom {P:Program} {k:TypeId} (hk:P.underlying k=some .string) {s:ByteArray} (hs:s.size≤maxLen):rg P k rdK ⟨.string s, .bool true,0⟩=(.string s.data.toList, .lit (.bool true)):=by
 have:rd P k rdK ⟨.string s, .bool true,0⟩=some (.string s.data.toList, .lit (.bool true)):=rd_mk (R:=rdK) (val:= .bool true) (born:=0) (yv:=(.lit (.bool true),[])) (keyOf_string_mk hk hs) rfl
 exact rg_of this
theorem Zmk {P:Program} {k:TypeId} (hk:P.underlying k=some .string) {w:World} {b clock:Nat} {es:Array MapEntry} {ks:List ByteArray} (hb:w.heap[b]? =some (.map es clock)) (hW:WfM es clock) (hkv:kvOf es=skv (KI ks)) (hnd:ks.Nodup) (hlen:ks.length≤1000000) (hsz:∀s∈ks,s.size≤140737488355328):∃D0,w.ownsMap P k rdK b ks.length D0∧(strKeys D0).Perm (ks.map toB)∧Maps.size D0=ks.length:=by
 have hml:∀s∈ks,s.size≤maxLen:=fun s hs=>by have:=hsz s hs;unfold maxLen;omega
 have hkv2:es.toList.map (fun x=>(x.key,x.val))=ks.map fun s=>(Value.string s,Value.bool true):=by
  have:kvOf es=ks.map fun s=>(Value.string s,Value.bool true):=by rw [hkv];unfold skv KI;rw [XG];rfl
  exact this
 have hsize:es.size=ks.length:=by have:=congrArg List.length hkv2;simpa using this
 have hrg:es.toList.map (rg P k rdK)=ks.map fun s=>(Lit.string s.data.toList,(.lit (.bool true):DataW Unit)):=by
  have h1:es.toList.map (rg P k rdK)=(es.toList.map fun x=>(x.key,x.val)).map fun p=>rg P k rdK ⟨p.1,p.2,0⟩:=by
   rw [XG];rfl
  rw [h1,hkv2,XG];exact VQ fun s hs=>Zom hk (hml s hs)
 have hread:∀x∈es.toList,∃y,rd P k rdK x=some y:=fun x hx=>by
  have:(x.key,x.val)∈es.toList.map (fun x=>(x.key,x.val)):=Xl.2 ⟨x,hx,rfl⟩;rw [hkv2] at this;obtain ⟨s,hs,e⟩:=Xl.1 this;obtain ⟨xk,xv,xb⟩:=x
  cases e;exact ⟨_,rd_mk (R:=rdK) (yv:=(.lit (.bool true),[])) (keyOf_string_mk hk (hml s hs)) rfl⟩
 refine ⟨.map ((es.toList.map (rg P k rdK)).foldr DataW.insert []),⟨es,clock,hb,⟨by rw [hsize];unfold maxLen;omega,?_,hread⟩,by rw [hsize];exact Xh _,rfl⟩,?_,?_⟩
 · refine ⟨hW.1,hW.2,?_⟩;have h3:es.toList.map (·.key)=ks.map Value.string:=by
    have:=congrArg (List.map Prod.fst) hkv2;rw [XG,XG] at this;exact this
   rw [h3];exact V8.2 (hnd.imp fun h e=>h (by cases e;rfl))
 · rw [hrg];have h2:=(WideShapes.sorted_perm (ks.map fun s=>(Lit.string s.data.toList,(.lit (.bool true):DataW Unit)))).map fun p=>strOf p.1;rw [XG] at h2;exact h2
 · show List.length _=_;rw [(WideShapes.sorted_perm _).length_eq,Xe,VG,hsize]
end
theorem Zpp:ZnL prog 50 95 76:=fun b w=>callsIn_wide.1 (AnyZ.keys_in (ρ:=Tryz.keysA_ren) Tryz.keysA Fence.wide 5 trivial rfl (some b) w)
theorem Zon (m:Nat):AnyZ.SortsIn prog Tryz.sortedA_ren Fence.wide m:=
 ⟨fun blk off cap ss W hH hblk hsz=>callsIn_wide.2 (Tryz.slices_Sort_string blk off cap ss W hH hblk hsz),fun p cap W=>callsIn_wide.2 (Tryz.slices_Sort_string_none p cap W)⟩
theorem ZjJ:Zcy prog 49 95 76 9:=fun g b clock es ks w hg hb hW hkv hnd hlen hsz=>by
 obtain ⟨D0,hown,hperm,hsize⟩:=Zmk (P:=prog) (k:=9) underlying9 hb hW hkv hnd hlen hsz
 have hseq:SeqGives Fence.wide 2 prog 95 #[.pointer (some ⟨g,0,none⟩)] encStr (fun ss=>ss.Perm (strKeys D0)) (Maps.size D0) w:=
  AnyZ.keys_gives (ρ:=Tryz.keysA_ren) {Tryz.keysA with} Fence.wide _ trivial rfl oM g b _ D0 w (Wu hg) (by simp [World.cell?,hg]) hown
 have cS:=AnyZ.sorted_in (ρ:=Tryz.sortedA_ren) Tryz.sortedA Fence.wide 5 trivial trivial trivial trivial rfl oM (Zon _) (call75) 95 #[.pointer (some ⟨g,0,none⟩)] trivial (call95) _ _ (by rw [hsize];unfold maxLen;omega) (by rw [hsize];omega) _ hseq
 refine (callsIn_wide.1 cS).mono ?_
 rintro e w' ⟨v,ss,rfl,hS,hrow,_,hbel⟩
 have hp:=hS.trans hperm
 refine ⟨v,rfl,?_,hbel⟩
 have e1:(ss.mergeSort fun x y=>decide (x≤y)).map encStr=(Gc ks).map Value.string:=by
  rw [mergeSort_of_perm hp];unfold Gc;rw [XG];rfl
 have e2:ss.length=ks.length:=by rw [hp.length_eq,Xe]
 rw [e1,e2] at hrow
 exact hrow
theorem Kd {α:Type} {l m:List α} (h:l<+:m) {i:Nat} {x:α} (hx:l[i]? =some x):m[i]? =some x:=by
 obtain ⟨r,rfl⟩:=h
 rw [Vj (Zh hx)];exact hx
section
variable {α κ:Type} [DecidableEq κ]
def posK (f:α→κ):List α→κ→Nat
 |[],_=>0
 |x::l,k=>if f x=k then 0 else posK f l k+1
theorem Rv {f:α→κ}:∀{l:List α} {k:κ},posK f l k<l.length↔∃x∈l,f x=k
 |[],k=>by simp [posK]
 | x :: l,k=>by
   have:=Rv (f:=f) (l:=l) (k:=k);rw [posK,Xk];split
   · rename_i h;exact ⟨fun _=>⟨x,Xm ..,h⟩,fun _=>oM⟩
   · rename_i h;rw [UF,this];constructor
     · rintro ⟨y,h1,h2⟩;exact ⟨y,Xo _ h1,h2⟩
     · rintro ⟨y,h1,h2⟩;rcases Xt.1 h1 with rfl|h1
       · exact UV h2 h
       · exact ⟨y,h1,h2⟩
theorem Zcz {f:α→κ}:∀{l:List α} {k:κ} {x:α},l[posK f l k]? =some x→f x=k
 |[],k,x,h=>by simp [posK] at h
 | y ::l,k,x,h=>by
   rw [posK] at h;split at h
   · rename_i h1;simp only [Vx,Option.some.injEq] at h;subst h;exact h1
   · simp only [V7] at h;exact Zcz h
theorem Od {f:α→κ} {l:List α} {k:κ} (h:posK f l k<l.length):∃x,l[posK f l k]? =some x∧f x=k:=by
 obtain ⟨x,hx⟩:=Zw h
 exact ⟨x,hx,Zcz hx⟩
theorem SF {f:α→κ}:∀{l:List α} {k:κ} (m:List α),posK f l k<l.length→posK f (l++m) k=posK f l k
 |[],k,m,h=>by simp at h
 | x ::l,k,m,h=>by
   rw [Ve,posK,posK];rw [posK] at h;split
   · rfl
   · rename_i h1;rw [UT h1,Xk,UF] at h;rw [SF m h]
theorem Oe {f:α→κ}:∀{l:List α} {x:α},¬posK f l (f x)<l.length→posK f (l++[x]) (f x)=l.length
 |[],x,_=>by simp [posK]
 | y ::l,x,h=>by
   rw [posK] at h;rw [Ve,posK];split
   · rename_i h1;rw [UU h1,Xk] at h;omega
   · rename_i h1;rw [UT h1,Xk,UF] at h;rw [Oe h,Xk]
theorem GH {κ':Type} [DecidableEq κ'] {f:α→κ} {g:α→κ'}:∀{l:List α} {k:κ} {k':κ'},(∀x∈l,f x=k↔g x=k')→posK f l k=posK g l k'
 |[],_,_,_=>rfl
 | x::l,k,k',h=>by
   rw [posK,posK,GH fun y hy=>h y (Xo _ hy)];have h1:=h x (Xm ..);by_cases h2:f x=k
   · rw [UU h2,UU (h1.1 h2)]
   · rw [UT h2,UT fun h3=>h2 (h1.2 h3)]
theorem Lo {f:α→κ}:∀{l:List α} {i:Nat} {x:α},(l.map f).Nodup→l[i]? =some x→posK f l (f x)=i
 |[],i,x,_,h=>by simp at h
 | y::l,0,x,_,h=>by
   simp only [Vx,Option.some.injEq] at h;subst h;rw [posK,UU rfl]
 | y::l,i+1,x,hn,h=>by
   simp only [V7] at h;rw [Xx,Vf] at hn;rw [posK,UT fun e=>hn.1 (by rw [e];exact List.mem_map_of_mem (Xc h)),Lo hn.2 h]
def YT (f:α→κ):Nat→List α→List (κ×Value)
 |_,[]=>[]
 |off,x::l=>(f x, .int .i64 (off:Nat))::YT f (off+1) l
theorem Tt (f:α→κ):∀(l:List α) (off:Nat) (k:κ),GC (YT f off l) k=if posK f l k<l.length then some (.int .i64 ((off+posK f l k:Nat):Int)) else none
 |[],off,k=>by simp [YT,GC,posK]
 | x :: l,off,k=>by
   rw [YT,GC,posK,Tt f l (off+1) k];by_cases h:f x=k
   · rw [UU h.symm,UU h,UU sM];simp
   · rw [UT (fun e=>h e.symm),UT h,Xk];by_cases h2:posK f l k<l.length
     · rw [UU h2,UU oM];congr 3;omega
     · rw [UT h2,UT oM]
theorem Of (f:α→κ) (x:α):∀(l:List α) (off:Nat),¬posK f l (f x)<l.length→Ec (YT f off l) (f x) (.int .i64 ((off+l.length:Nat):Int))=YT f off (l++[x])
 |[],off,_=>by simp [YT,Ec]
 | y ::l,off,h=>by
   rw [posK] at h;split at h
   · rename_i h1;rw [Xk] at h;omega
   · rename_i h1;rw [Xk,UF] at h;rw [YT,Ec,UT (fun e=>h1 e.symm),Ve,YT,←Of f x l (off+1) h,Xk];congr 4;omega
theorem ZcA (f:α→κ):∀(l:List α) (off:Nat),(YT f off l).length=l.length
 |[],_=>rfl
 |x::l,off=>by rw [YT,Xk,ZcA f l,Xk]
def visit (f:α→κ) (cap:Nat) (o:List α) (x:α):Option (List α×Nat):=
 if posK f o (f x)<o.length then some (o,posK f o (f x)) else if cap≤o.length then none else some (o++[x],o.length)
theorem Wb {f:α→κ} {cap:Nat} {o:List α} {x:α} (h:posK f o (f x)<o.length):visit f cap o x=some (o,posK f o (f x)):=by unfold visit;rw [UU h]
theorem Wc {f:α→κ} {cap:Nat} {o:List α} {x:α} (h:¬posK f o (f x)<o.length) (hc:o.length<cap):visit f cap o x=some (o++[x],o.length):=by unfold visit;rw [UT h,UT oM]
theorem SG {f:α→κ} {cap:Nat} {o:List α} {x:α} (h:¬posK f o (f x)<o.length) (hc:cap≤o.length):visit f cap o x=none:=by unfold visit;rw [UT h,UU hc]
end
structure Srch (α κ:Type) where
 key:α→κ
 cap:Nat
 m:Nat
 step:Nat→α→Nat→α
section
variable {α κ:Type} [DecidableEq κ] (W:Srch α κ)
def Srch.row (i:Nat) (x:α) (o:List α):Nat→Option (List α×List Nat)
 |0=>some (o,[])
 |s+1=>(Srch.row i x o s).bind fun q=>(visit W.key W.cap q.1 (W.step i x s)).map fun v=>(v.1,q.2++[v.2])
def Srch.upto (x0:α):Nat→Option (List α×List (List Nat))
 |0=>some ([x0],[])
 | i+1=>(Srch.upto x0 i).bind fun q=>match q.1[i]? with
   |none=>some q
   |some x=>(W.row i x q.1 W.m).map fun v=>(v.1,q.2++[v.2])
def Srch.all (x0:α):Option (List α×List (List Nat)):=W.upto x0 W.cap
variable {W}
theorem Srch.row_snoc {i:Nat} {x:α} {o o' o'':List α} {r:List Nat} {s n:Nat} (h:W.row i x o s=some (o',r)) (hv:visit W.key W.cap o' (W.step i x s)=some (o'',n)):W.row i x o (s+1)=some (o'',r++[n]):=by
 rw [Srch.row,h,Vd,hv];rfl
theorem Srch.row_out {i:Nat} {x:α} {o o':List α} {r:List Nat} {s:Nat} (h:W.row i x o s=some (o',r)) (hv:visit W.key W.cap o' (W.step i x s)=none):W.row i x o (s+1)=none:=by
 rw [Srch.row,h,Vd,hv];rfl
theorem Srch.row_none {i:Nat} {x:α} {o:List α} {s:Nat} (h:W.row i x o s=none):∀t,W.row i x o (s+t)=none
 |0=>h
 |t+1=>by rw [←X3,Srch.row,Srch.row_none h t];rfl
theorem Srch.upto_none {x0:α} {i:Nat} (h:W.upto x0 i=none):∀t,W.upto x0 (i+t)=none
 |0=>h
 |t+1=>by rw [←X3,Srch.upto,Srch.upto_none h t];rfl
theorem Srch.upto_stop {x0:α} {i:Nat} {q:List α×List (List Nat)} (h:W.upto x0 i=some q) (hl:q.1.length≤i):∀t,W.upto x0 (i+t)=some q
 |0=>h
 |t+1=>by rw [←X3,Srch.upto,Srch.upto_stop h hl t,Vd,XL oM]
theorem Srch.upto_snoc {x0 x:α} {i:Nat} {o o':List α} {rows:List (List Nat)} {r:List Nat} (h:W.upto x0 i=some (o,rows)) (hx:o[i]? =some x) (hr:W.row i x o W.m=some (o',r)):W.upto x0 (i+1)=some (o',rows++[r]):=by
 rw [Srch.upto,h,Vd];dsimp only;rw [hx];dsimp only;rw [hr];rfl
theorem Srch.upto_out {x0 x:α} {i:Nat} {o:List α} {rows:List (List Nat)} (h:W.upto x0 i=some (o,rows)) (hx:o[i]? =some x) (hr:W.row i x o W.m=none):W.upto x0 (i+1)=none:=by
 rw [Srch.upto,h,Vd];dsimp only;rw [hx];dsimp only;rw [hr];rfl
structure Srch.Met (W:Srch α κ) (P:α→Prop) (x0:α) (o:List α):Prop where
 zero:o[0]? =some x0
 cap:o.length≤W.cap
 nd:(o.map W.key).Nodup
 p:∀x∈o,P x
theorem Srch.Met.start {P:α→Prop} {x0:α} (hc:1≤W.cap) (hP:P x0):W.Met P x0 [x0]:=⟨rfl,hc,sM,by simpa using hP⟩
theorem Srch.Met.pos {P:α→Prop} {x0:α} {o:List α} (h:W.Met P x0 o):0<o.length:=Zh h.zero
theorem O0 {f:α→κ} {cap:Nat} {o o':List α} {x:α} {n:Nat} (h:visit f cap o x=some (o',n)):o<+:o'∧n<o'.length∧posK f o' (f x)=n:=by
 unfold visit at h
 split at h
 · rename_i h1
   cases h;exact ⟨Vy _,h1,rfl⟩
 · rename_i h1;split at h
   · cases h
   · cases h;exact ⟨Ur _ _,sM,Oe h1⟩
theorem Srch.Met.visit {P:α→Prop} {x0 x:α} {o o':List α} {n:Nat} (h:W.Met P x0 o) (hx:P x) (hv:visit W.key W.cap o x=some (o',n)):W.Met P x0 o':=by
 unfold Go.Proofs.YtgfabnhpllkebaaGreatDoor.visit at hv
 split at hv
 · cases hv;exact h
 · rename_i h1;split at hv
   · cases hv
   · rename_i h2
     cases hv;refine ⟨?_,by rw [Xb,Xy];omega,?_,fun y hy=>?_⟩
     · rw [Vj h.pos];exact h.zero
     · rw [Xs,VE];refine ⟨h.nd,sM,fun a ha b hb e=>h1 (Rv.2 ?_)⟩;subst e;obtain ⟨y,hy,rfl⟩:=Xl.1 ha;simp at hb;exact ⟨y,hy,hb⟩
     · rcases Xq.1 hy with hy|hy
       · exact h.p y hy
       · rw [Xi.1 hy];exact hx
theorem Srch.Met.row {P:α→Prop} {x0 x:α} {i:Nat} {o:List α} (h:W.Met P x0 o) (hx:∀s,s<W.m→P (W.step i x s)):∀{s:Nat} {o':List α} {r:List Nat},s≤W.m→W.row i x o s=some (o',r)→W.Met P x0 o'∧o<+:o'∧r.length=s∧∀(t n:Nat),r[t]? =some n→n<o'.length∧posK W.key o' (W.key (W.step i x t))=n
 | 0,o',r,_,hr=>by
   rw [Srch.row] at hr;cases hr;exact ⟨h,Vy _,rfl,fun t n ht=>by simp at ht⟩
 | s + 1,o',r,hs,hr=>by
   rw [Srch.row,XX] at hr;obtain ⟨⟨o1,r1⟩,h1,h2⟩:=hr;obtain ⟨⟨o2,n⟩,h3,h4⟩:=XB.1 h2
   cases h4;dsimp only at h3 ⊢;obtain ⟨h5,h6,h7,h8⟩:=Srch.Met.row h hx oM h1;obtain ⟨h9,h10,h11⟩:=O0 h3;refine ⟨h5.visit (hx s oM) h3,h6.trans h9,by rw [Xb,h7];rfl,fun t n' ht=>?_⟩;rw [V9] at ht;split at ht
   · obtain ⟨h12,h13⟩:=h8 t n' ht;obtain ⟨e,rfl⟩:=h9;refine ⟨by rw [Xb];omega,?_⟩;rw [SF e (by rw [h13];exact h12)];exact h13
   · have h14:t=s:=by
      have:=Zh ht;simp only [Xy] at this;omega
     subst h14;rw [h7,VZ] at ht;simp only [Vx,Option.some.injEq] at ht;subst ht;exact ⟨h10,h11⟩
structure Srch.Ok (W:Srch α κ) (P:α→Prop) (x0:α) (o:List α) (rows:List (List Nat)):Prop extends W.Met P x0 o where
 len:∀r∈rows,r.length=W.m
 to:∀(i:Nat) (x:α) (r:List Nat) (t n:Nat),o[i]? =some x→rows[i]? =some r→r[t]? =some n→n<o.length∧posK W.key o (W.key (W.step i x t))=n
theorem Srch.ok {P:α→Prop} {x0:α} (hc:1≤W.cap) (h0:P x0) (hP:∀i x s,P x→s<W.m→P (W.step i x s)):∀{i:Nat} {o:List α} {rows:List (List Nat)},W.upto x0 i=some (o,rows)→W.Ok P x0 o rows∧(i≤o.length→rows.length=i)∧(o.length≤i→rows.length=o.length)
 | 0,o,rows,h=>by
   rw [Srch.upto] at h;cases h;exact ⟨⟨Srch.Met.start hc h0,sM,sM⟩,fun _=>rfl,fun h=>by simp at h⟩
 | i + 1, o,rows,h=>by
   rw [Srch.upto,XX] at h;obtain ⟨⟨o1,rows1⟩,h1,h2⟩:=h;obtain ⟨h3,h4,h4'⟩:=Srch.ok hc h0 hP h1;dsimp only at h2
   cases hx:o1[i]? with
   | none=>
     rw [hx] at h2;cases h2;have:=Un.1 hx;exact ⟨h3,fun h5=>oM,fun _=>h4' this⟩
   | some x=>
     rw [hx] at h2;obtain ⟨⟨o2,r⟩,h5,h6⟩:=XB.1 h2
     cases h6;dsimp only;have hil:=Zh hx;have h4:=h4 oM;obtain ⟨h7,h8,h9,h10⟩:=h3.toMet.row (fun s hs=>hP i x s (h3.p x (Xc hx)) hs) (Xh _) h5;have hle:=h8.length_le;refine ⟨⟨h7,fun r' hr'=>?_,fun j y r' t n hj hr' ht=>?_⟩,fun _=>by rw [Xb,h4];rfl,fun _=>by rw [Xb,h4,Xy];omega⟩
     · rcases Xq.1 hr' with hr'|hr'
       · exact h3.len r' hr'
       · rw [Xi.1 hr'];exact h9
     · rw [V9] at hr';split at hr'
       · rename_i hjl;obtain ⟨z,hz⟩:=Zw (show j<o1.length by omega);have hzy:=Kd h8 hz;rw [hzy] at hj;cases hj;obtain ⟨h12,h13⟩:=h3.to j y r' t n hz hr' ht;obtain ⟨e,rfl⟩:=h8;refine ⟨by rw [Xb];omega,?_⟩;rw [SF e (by rw [h13];exact h12)];exact h13
       · have hj2:j=i:=by
          have:=Zh hr';simp only [Xy] at this;omega
         subst hj2;rw [h4,VZ] at hr';simp only [Vx,Option.some.injEq] at hr';subst hr';have hzy:=Kd h8 hx;rw [hzy] at hj;cases hj;exact h10 t n ht
theorem Srch.all_some {x0:α} {i:Nat} {q:List α×List (List Nat)} (h:W.upto x0 i=some q) (hl:q.1.length≤i) (hi:i≤W.cap):W.all x0=some q:=by
 have:=Srch.upto_stop h hl (W.cap-i)
 rw [show i+(W.cap-i)=W.cap by omega] at this
 exact this
theorem Srch.all_none {x0:α} {i:Nat} (h:W.upto x0 i=none) (hi:i≤W.cap):W.all x0=none:=by
 have:=Srch.upto_none h (W.cap-i)
 rw [show i+(W.cap-i)=W.cap by omega] at this
 exact this
theorem Srch.row_fails {i:Nat} {x:α} {o:List α} {s:Nat} (h:W.row i x o s=none) (hs:s≤W.m):W.row i x o W.m=none:=by
 have:=Srch.row_none h (W.m-s)
 rwa [show s+(W.m-s)=W.m by omega] at this
end
theorem Lp (e n:Nat) (l:List ByteArray):share (.own e 1 n (l.map Yv))= .sl n (l.map Yv):=by
 rw [share,Yr,XG];rfl
def Jt:List Int→Int
 |[]=>0
 |x::l=>if x=0 then Jt l else x
section
variable {κ:Type} [DecidableEq κ]
end
end Go.Proofs.YtgfabnhpllkebaaGreatDoor
namespace Go.En
open Go.RowKit Go.Cb
theorem AFg.exact2 {P:Program} {g:Nat} {p q:PV} {x:Value} (h:AFg P g [p,q] (· = .val x)) {M:BS} {W:World} {u v:Value} (hu:Shr M W u p) (hv:Shr M W v q):
 Calls P g #[u,v] W fun e w'=>e= .returned x∧∃q os',w'=Go.Sort.grow (W.drewN q) os':=h.exact (vs:=[u,v]) rfl fun i a r h1 h2=>by
 match i with
 |0=>simp at h1 h2;subst h1 h2;exact hu
 |1=>simp at h1 h2;subst h1 h2;exact hv
 |i+2=>simp at h1
end Go.En
namespace Go.Proofs.YtgfabnhpllkebaaGreatDoor
open Go.RowKit Go.Cb Go.En Tryz
set_option linter.all false
set_option maxRecDepth 100000
theorem Zml (l:List Int):AFg prog 204 [pInts l] (· =pInt (Jt l)):=by
 refine AFg.of_body 18 func204 rfl ntmps204 (Xa rfl) ?_
 intro w0 M0 vs hl hv
 obtain ⟨v0,rfl⟩:=WE hl
 clear hl hv
 refine Wm 0 rfl fun hlen=>?_
 refine Ze ?_
 (refine xL 2 Za ?_<;>refine Zk ?_)
 (refine xL 3 Za ?_<;>refine Zk ?_)
 (refine xL 6 Zb (xL 7 (ZW Zr) (xL 8 Zb ?_))<;>refine Zc ?_)
 refine ZE (ι:={k:Nat//k≤l.length∧Jt l=Jt (l.drop k)}) (fun k=>⟨[(3,_,_),(6,_,_),(7,_,_),(8, .int .i64 k.1,pInt k.1)],[]⟩) (fun k=>l.length-k.1) ⟨0,oM,rfl⟩ (fun a w H=>H.weaken ⟨rfl,rfl,rfl,rfl,trivial⟩ trivial) ?_
 rintro ⟨k,hk,hp⟩
 dsimp only
 refine Ze ?_
 (refine xL 9 ZQ ?_<;>refine Zc ?_)
 refine cX ?_ ?_<;>intro hb9
 · first |exact bN hb9|(
 obtain ⟨x,hx⟩:=Zw (show k<l.length by omega);have e1:=Yb (f:=pInt) hx;(have hs:Jt (l.drop k)=if x=0 then Jt (l.drop (k+1)) else x:=by rw [PX hx,Jt]);refine Ze ?_;(refine xL 10 (ZH Zr) ?_<;>(refine yL 11 (Ya Zg) fun v11 h=>?_;cases h)<;>refine xL 5 Za ?_<;>refine Zk ?_)
 (refine xL 12 Zb (xL 13 Zb (xL 14 Yn ?_))<;>refine Zc ?_)
 refine cX ?_ ?_<;>intro hb14
 · first|exact bN hb14|(
 refine Ze ?_;(refine xL 15 Zb (xL 2 Za ?_)<;>refine Zc ?_)
 refine ZA (results204) rfl ?_;rw [hp,hs,UT hb14])
 · first|exact bN hb14|(
 refine Ze ?_;(refine xL 16 ZK (xL 8 Zb ?_)<;>refine Zc ?_)
 refine Zn (
  ⟨k+1,oM,by rw [hp,hs,UU (by simpa using hb14)]⟩
  ) (by dsimp only;omega) ⟨rfl,rfl,rfl,rfl,trivial⟩ trivial))
 · first|exact bN hb9|(
 refine Ze ?_;(refine xL 17 Zb (xL 2 Za ?_)<;>refine Zc ?_)
 refine ZA (results204) rfl ?_;rw [hp,Vs oM];rfl)
structure M4 where
 a:List (ByteArray×Int)
 s:List (ByteArray×Int)
 f:List (ByteArray×Int)
 q:List (Pr×Int)
section
variable {κ:Type} [DecidableEq κ]
structure MOk (m:List (κ×Int)) (b:Nat):Prop where
 nd:(m.map (·.1)).Nodup
 len:m.length≤b
 bd:∀x∈m,0≤x.2∧x.2≤b*1048576
end
structure KOk (st:M4) (b:Nat):Prop where
 a:MOk st.a b
 s:MOk st.s b
 f:MOk st.f b
 q:MOk st.q b
 k:∀x∈st.q,prOk x.1
end Go.Proofs.YtgfabnhpllkebaaGreatDoor
namespace Go.En
open Go.RowKit Go.Cb
end Go.En
namespace Go.Proofs.YtgfabnhpllkebaaGreatDoor
open Go.RowKit Go.Cb Go.En Tryz
set_option linter.all false
set_option maxRecDepth 100000
theorem Za2 {α:Type}:∀(ps:List PV) (a b c:List PV) (j:Nat),a.length=j→b.length=ps.length→Sv (a++b++c) j ps=a++ps++c
 | [],a,b,c,j,ha,hb=>by
   have:b=[]:=XR hb;subst this;rfl
 | p ::ps,a,x::b,c,j,ha,hb=>by
   rw [Sv];have h1:(a++(x::b)++c).set j p=(a++[p])++b++c:=by
    subst ha;rw [Xu,List.set_append_right _ _ (Xh _),VZ];simp
   rw [h1,Za2 (α:=α) ps (a++[p]) b c (j+1) (by simp [ha]) (by simpa using hb)];simp
def KZ {α:Type} (p:α→Bool) (l:List α) (k:Nat):List α:=(l.take k).filter fun s=> !p s
theorem Tu {α:Type} {p:α→Bool} {l:List α} {k:Nat} {x:α} (hx:l[k]? =some x) (h:p x=true):KZ p l (k+1)=KZ p l k:=by
 unfold KZ;rw [ZR hx,XV];simp [h]
theorem Ev {α:Type} {p:α→Bool} {l:List α} {k:Nat} {x:α} (hx:l[k]? =some x) (h:p x=false):KZ p l (k+1)=KZ p l k++[x]:=by
 unfold KZ;rw [ZR hx,XV];simp [h]
theorem Og {α:Type} (p:α→Bool) (l:List α) (k:Nat):(KZ p l k).length≤k:=by
 unfold KZ
 have h1:=Vg (fun s=> !p s) (l.take k)
 rw [Xn] at h1
 omega
def RZ {α:Type} (p:α→Bool) (l:List α) (k:Nat):List α:=KZ p l k++l.drop (KZ p l k).length
theorem Zmm {α:Type} {p:α→Bool} {l:List α} {k:Nat} {x:α} (hx:l[k]? =some x):(RZ p l k)[k]? =some x:=by
 have h:=Og p l k
 unfold RZ
 rw [Vo h,Vm,show (KZ p l k).length+(k-(KZ p l k).length)=k by omega]
 exact hx
theorem ZjK {α:Type} (p:α→Bool) (l:List α) {k:Nat} (hk:k≤l.length):(RZ p l k).length=l.length:=by
 have h:=Og p l k
 unfold RZ
 rw [Xb,Uf];omega
theorem ZjL {α:Type} {f:α→List PV} {m:Nat} (hf:∀x,(f x).length=m) {p:α→Bool} {l:List α} {k:Nat} {x:α} (hx:l[k]? =some x) (h:p x=false):
 Sv ((RZ p l k).flatMap f) ((KZ p l k).length*m) (f x)=(RZ p l (k+1)).flatMap f:=by
 have hl:=Og p l k
 have hlt:=Zh hx
 unfold RZ
 rw [Ev hx h,Xb,Xy,VM (show (KZ p l k).length<l.length by omega)]
 rw [XM,Xz,←Xu,Za2 (α:=α) _ _ _ _ _ (flat_len hf _) (by rw [hf,hf]),XM,XM]
 simp
theorem Za3 {α:Type} {p:α→Bool} {l:List α}:(idx p l= -1∧∀s∈l,p s=false)∨∃i x,idx p l=(i:Nat)∧l[i]? =some x∧p x=true∧∀j y,j<i→l[j]? =some y→p y=false:=by
 unfold idx
 cases h:l.findIdx? p with
 |none=>exact .inl ⟨rfl,by rw [UJ] at h;exact h⟩
 | some i=>
   rw [UK] at h;obtain ⟨hi,hp,hn⟩:=h;exact .inr ⟨i,l[i],rfl,sM,hp,fun j y hj hy=>by
    have:=hn j hj;obtain ⟨hj',rfl⟩:=XK.1 hy;simpa using this⟩
theorem ZhH {α:Type} {p:α→Bool} {l:List α} {k:Nat} (h:∀j y,j<k→l[j]? =some y→p y=false):KZ p l k=l.take k:=by
 unfold KZ
 rw [UE]
 intro a ha
 obtain ⟨i,hi,rfl⟩:=VL ha
 rw [Xn] at hi
 have:=h i _ oM (by rw [XY (by omega:i<l.length)])
 simp [List.getElem_take,this]
theorem Z3:AggT prog 93 3=true:=by kernel_rfl
theorem Zo:ElT prog 36 3 1 8 (.int .i64 0):=⟨underlying36,by kernel_rfl,rfl,dC⟩
theorem ZS:FldT prog 39 0 0=true:=by kernel_rfl
theorem ZT:FldT prog 39 1 1=true:=by kernel_rfl
theorem Z9:FldT prog 39 2 2=true:=by kernel_rfl
theorem Z2:FldT prog 39 3 3=true:=by kernel_rfl
theorem Zx:FldT prog 39 4 4=true:=by kernel_rfl
theorem Yd:FldT prog 93 0 0=true:=by kernel_rfl
theorem Yi:FldT prog 93 1 1=true:=by kernel_rfl
theorem Yp:FldT prog 93 2 2=true:=by kernel_rfl
theorem Zy:NoAgg prog 36=true:=by kernel_rfl
theorem ZC:NoAgg prog 37=true:=by kernel_rfl
theorem ZL:SlT prog 37 93 3=true:=by kernel_rfl
theorem Ko:ZeroT prog 93 (.agg #[(.int .i64 0),(.int .i64 0),(.int .i64 0)]):=by unfold ZeroT;kernel_rfl
structure Mv where
 src:Int
 dst:Int
 sym:Int
structure Aut where
 n:Int
 syms:Int
 start:List Int
 fin:List Int
 moves:List Mv
def cMv (m:Mv):List PV:=[pInt m.src,pInt m.dst,pInt m.sym]
theorem Z5 (m:Mv):(cMv m).length=3:=rfl
theorem L1 (L:List Mv):(L.flatMap cMv).all En.one=true:=by rw [List.all_flatMap,XA];intro x _;rfl
def pMvs (l:List Mv):PV:= .sl l.length (l.flatMap cMv)
def ZJ (a:Aut):PV:= .agg [pInt a.n,pInt a.syms,pInts a.start,pInts a.fin,pMvs a.moves]
def SH (a b:Int):Int:=if a<b then-1 else if b<a then 1 else 0
def GY (a b:Mv):Int:=Jt [SH a.src b.src,SH a.sym b.sym,SH a.dst b.dst]
def ltI (a b:Int):Bool:=decide (a<b)
def Kj (a b:Mv):Bool:=decide (GY a b<0)
def LO (n:Int) (l:List Int):Bool:=l.all (fun x=>decide (0≤x)&&decide (x<n))&&WC ltI l
def R1 (a:Aut) (m:Mv):Bool:=decide (0≤m.src)&&decide (m.src<a.n)&&decide (0≤m.dst)&&decide (m.dst<a.n)&&decide (-1≤m.sym)&&decide (m.sym<a.syms)
def Z1 (a:Aut):Bool:=decide (0≤a.n)&&decide (a.n≤2000)&&decide (0≤a.syms)&&decide (a.syms≤40)&&decide (a.moves.length≤20000)&&LO a.n a.start&&LO a.n a.fin&&a.moves.all (R1 a)&&WC Kj a.moves
theorem Ew (s:Int):AFg prog 237 [pInt s] (· =ZN false):=by
 refine AFg.of_body 6 func237 rfl ntmps237 (Xa rfl) ?_
 intro w0 M0 vs hl hv
 obtain ⟨v0,rfl⟩:=WE hl
 obtain rfl:=hv 0 _ _ rfl rfl
 clear hl hv
 refine Ze ?_
 (refine xL 2 Za ?_<;>refine Zk ?_)
 (refine xL 3 Zb (xL 4 Zb (xL 5 Yn (xL 2 Za ?_)))<;>refine Zc ?_)
 refine ZA (results237) rfl ?_
 simp
theorem Ex (a b:Int):AFg prog 205 [pInt a,pInt b] (· =pInt (SH a b)):=by
 refine AFg.of_body 20 func205 rfl ntmps205 (Xa rfl) ?_
 intro w0 M0 vs hl hv
 obtain ⟨v0,v1,rfl⟩:=YX hl
 obtain rfl:=hv 0 _ _ rfl rfl
 obtain rfl:=hv 1 _ _ rfl rfl
 clear hl hv
 refine Ze ?_
 (refine xL 4 Za ?_<;>refine Zk ?_)
 (refine xL 7 Zb ?_<;>(refine cS 8 (cA call237 (Ew a)) fun v8 h=>?_;cases h)<;>refine xL 5 Za ?_<;>refine Zk ?_)
 (refine xL 9 Zb ?_<;>(refine cS 10 (cA call237 (Ew b)) fun v10 h=>?_;cases h)<;>refine xL 6 Za ?_<;>refine Zk ?_)
 (refine xL 11 Zb ?_<;>refine Zc ?_)
 refine cCf ?_
 refine Ze ?_
 (refine xL 13 Zb ?_<;>refine Zc ?_)
 refine cCf ?_
 refine Ze ?_
 (refine xL 14 Zb (xL 15 Zb (xL 16 ZQ ?_))<;>refine Zc ?_)
 refine cX ?_ ?_<;>intro hb16
 · first|exact bN hb16|(
 refine Ze ?_;(refine xL 4 Za ?_<;>refine Zc ?_)
 refine ZA (results205) rfl ?_;rw [SH,UU hb16])
 · first|exact bN hb16|(
 refine Ze ?_;(refine xL 17 Zb (xL 18 Zb (xL 19 Yz ?_))<;>refine Zc ?_)
 refine cX ?_ ?_<;>intro hb19
 · first|exact bN hb19|(
 refine Ze ?_;(refine xL 4 Za ?_<;>refine Zc ?_)
 refine ZA (results205) rfl ?_;rw [SH,UT oM,UU oM])
 · first|exact bN hb19|(
 refine Ze ?_;(refine xL 4 Za ?_<;>refine Zc ?_)
 refine ZA (results205) rfl ?_;rw [SH,UT oM,UT oM]))
theorem DY (a b:Mv):AFg prog 153 [.agg (cMv a), .agg (cMv b)] (· =pInt (GY a b)):=by
 refine AFg.of_body 22 func153 rfl ntmps153 (Xa rfl) ?_
 intro w0 M0 vs hl hv
 obtain ⟨v0,v1,rfl⟩:=YX hl
 clear hl hv
 refine Ze ?_
 (refine ZB 2 3 fun h2=>?_<;>refine ZB 3 3 fun h3=>?_<;>refine xL 4 Za ?_<;>refine Zc ?_)
 (refine ZZ (fun i=>([]:List Nat).elem i) [2,3] kR ?_<;>refine xD 0 5 rfl (Zd 2 Yd) ?_<;>(refine yD 1 6 rfl (Zl 2 Zg) fun v6 h=>?_;cases h)<;>refine xD 2 7 rfl (Zd 3 Yd) ?_<;>(refine yD 3 8 rfl (Zl 3 Zg) fun v8 h=>?_;cases h)<;>refine xD 5 10 rfl (Zd 2 Yp) ?_<;>(refine yD 6 11 rfl (Zl 2 Zg) fun v11 h=>?_;cases h)<;>refine xD 7 12 rfl (Zd 3 Yp) ?_<;>(refine yD 8 13 rfl (Zl 3 Zg) fun v13 h=>?_;cases h)<;>refine xD 10 15 rfl (Zd 2 Yi) ?_<;>(refine yD 11 16 rfl (Zl 2 Zg) fun v16 h=>?_;cases h)<;>refine xD 12 17 rfl (Zd 3 Yi) ?_<;>(refine yD 13 18 rfl (Zl 3 Zg) fun v18 h=>?_;cases h)<;>(refine Zp 4 kR ?_)<;>(refine Zm rfl fun w9 M9 N9 DQ back=>?_)<;>(refine cS 9 (cA call205 (Ex a.src b.src)) fun v9 h=>?_;cases h)<;>refine Zj (back _ (nrm ?_))<;>(refine Zp 9 kR ?_)<;>(refine Zm rfl fun w9 M9 N9 DQ back=>?_)<;>(refine cS 14 (cA call205 (Ex a.sym b.sym)) fun v14 h=>?_;cases h)<;>refine Zj (back _ (nrm ?_))<;>(refine Zp 14 kR ?_)<;>(refine Zm rfl fun w9 M9 N9 DQ back=>?_)<;>(refine cS 19 (cA call205 (Ex a.dst b.dst)) fun v19 h=>?_;cases h)<;>refine Zj (back _ (nrm ?_))<;>(refine Zp 15 kR ?_)<;>(refine Zm rfl fun w9 M9 N9 DQ back=>?_)<;>refine Ph (xs:=[_,_,_]) 20 Zo fun h20 ho20=>?_<;>refine Zj (back _ (nrm ?_))<;>(refine Zp 16 kR ?_)<;>(refine Zm rfl fun w9 M9 N9 DQ back=>?_)<;>(refine Zu (En.freeze (l:=20) (t:=20) rfl rfl) fun _=>?_;refine cS 21 (cA call204 (Zml [SH a.src b.src,SH a.sym b.sym,SH a.dst b.dst])) fun v21 h=>?_;cases h)<;>refine Zj (back _ (nrm ?_))<;>refine xE 17 4 rfl Za ?_<;>refine YC kR (nav ?_)<;>try dsimp only)
 exact ZA results153 rfl rfl
theorem ζA (l :List Int) (n:Int):AF prog 152 [pInts l,pInt n] (· =ZN (LO n l)):=by
 refine AF.of_body 35 func152 rfl ntmps152 (Xa rfl) ?_
 intro w0 M0 vs hl hv
 obtain ⟨v0,v1,rfl⟩:=YX hl
 obtain rfl:=hv 1 _ _ rfl rfl
 clear hl hv
 refine Wm 0 rfl fun hlen=>?_
 refine Ze ?_
 (refine xL 4 Za ?_<;>refine Zk ?_)
 (refine xL 7 Zb (xL 8 (ZW Zr) (xL 9 Zb ?_))<;>refine Zc ?_)
 refine ZE (ι:={k:Nat//k≤l.length∧∀j x,j<k→l[j]? =some x→(0≤x∧x<n)∧∀y,1≤j→l[j-1]? =some y→ltI y x=true}) (fun k=>⟨[(0,_,_),(1,_,_),(7,_,_),(8,_,_),(9, .int .i64 k.1,pInt k.1)],[]⟩) (fun k=>l.length-k.1) ⟨0,oM,oM⟩ (fun a w H=>H.weaken ⟨rfl,rfl,rfl,rfl,rfl,trivial⟩ trivial) ?_
 rintro ⟨k,hk,hp⟩
 dsimp only
 refine Ze ?_
 (refine xL 10 ZQ ?_<;>refine Zc ?_)
 refine cX ?_ ?_<;>intro hb10
 · first | exact bN hb10|(
 obtain ⟨x,hx⟩:=Zw (show k<l.length by omega);obtain ⟨y,hy⟩:=Zw (show k-1<l.length by omega);have e1:=Yb (f:=pInt) hx;(have e2:(l.map pInt)[((k:Int)-1).toNat*1]? =some (pInt y):=by rw [show ((k:Int)-1).toNat*1=k-1 by omega];exact (by rw [Xg,hy];rfl));refine Ze ?_;(refine xL 11 Zb (xL 12 (ZH Zr) ?_)<;>(refine yL 13 (Ya Zg) fun v13 h=>?_;cases h)<;>refine xL 5 Za (xL 6 Za ?_)<;>refine Zk ?_)
 (refine xL 14 Zb (xL 15 ZQ (xL 16 Zb ?_))<;>(refine bLd 16 (fun hb16=>?_) (fun hb16=>?_)<;>(first|refine kL 17 ?_|refine xL 17 Zb ?_))<;>(first|refine kL 18 ?_|refine xL 18 Zb ?_)<;>(first|refine kL 19 ?_|refine xL 19 Ww ?_)<;>refine xL 20 ZG (xL 21 Zb ?_)<;>(first|refine kL 22 ?_|(refine bLd 21 (fun hb21=>?_) (fun hb21=>?_)<;>(first|refine kL 22 ?_|refine xL 22 Zb ?_)))<;>(first|refine kL 23 ?_|refine xL 23 Yz ?_)<;>(first|refine kL 24 ?_|refine xL 24 Zb ?_)<;>(first|refine kL 25 ?_|(refine bLd 24 (fun hb24=>?_) (fun hb24=>?_)<;>(first|refine kL 25 ?_|refine xL 25 Zb ?_)))<;>(first|refine kL 26 ?_|refine xL 26 Zb ?_)<;>(first|refine kL 27 ?_|refine xL 27 KM ?_)<;>(first|refine kL 28 ?_|refine xL 28 (Si Zr) ?_)<;>(first|refine kL 29 ?_|(refine yL 29 (Ya Zg) fun v29 h=>?_;cases h))<;>(first|refine kL 30 ?_|refine xL 30 Zb ?_)<;>(first|refine kL 31 ?_|refine xL 31 Ww ?_)<;>(first|refine kL 32 ?_|refine xL 32 ZG ?_)<;>refine xL 33 ZG ?_<;>refine Zc ?_)<;>(
 refine cX ?_ ?_<;>intro hb33
 · first|exact bN hb33|(
 refine Ze ?_;(refine xL 4 Za ?_<;>refine Zc ?_)
 refine ZA (results152) rfl ?_;unfold LO
 first
  |rw [P3 hx (by simp;omega)];rfl
  |rw [LU oM hy hx (by unfold ltI;simpa using hb33),Bool.and_false])
 · first |exact bN hb33|(
 refine Ze ?_;(refine xL 34 ZK (xL 9 Zb ?_)<;>refine Zc ?_)
 refine Zn (
  ⟨k + 1,oM,fun j z hj hz=>by
   by_cases e:j=k
   · subst e;rw [hx] at hz;cases hz;refine ⟨⟨oM,oM⟩,fun y' h1 hy'=>?_⟩;rw [hy] at hy';cases hy';unfold ltI
     first
      |omega
      |(simp;omega)
   · exact hp j z oM hz⟩
  ) (by dsimp only;omega) ⟨rfl,rfl,rfl,rfl,rfl,trivial⟩ trivial)))
 · first|exact bN hb10|(
 refine Ze ?_;(refine xL 4 Za ?_<;>refine Zc ?_)
 refine ZA (results152) rfl ?_;have h1:l.all (fun x=>decide (0≤x)&&decide (x<n))=true:=by
  rw [XA];intro z hz;obtain ⟨j,hj,rfl⟩:=VL hz;have h2:=(hp j _ oM (XY hj)).1;simp [h2.1,h2.2]
 have h2:WC ltI l=true:=TS fun j x y h1 hy hx=>(hp j x (by have:=Zh hx;omega) hx).2 y h1 hy;unfold LO;rw [h1,h2];rfl)
theorem SI {a:Aut} (h:a.n<0∨2000<a.n∨a.syms<0∨40<a.syms∨20000<a.moves.length∨LO a.n a.start=false∨LO a.n a.fin=false∨a.moves.all (R1 a)=false∨WC Kj a.moves=false):Z1 a=false:=by
 unfold Z1
 rcases h with h|h|h|h|h|h|h|h|h
 · rw [US (by omega:¬0≤a.n)];simp
 · rw [US (by omega:¬a.n≤2000)];simp
 · rw [US (by omega:¬0≤a.syms)];simp
 · rw [US (by omega:¬a.syms≤40)];simp
 · rw [US (by omega:¬a.moves.length≤20000)];simp
 · rw [h];simp
 · rw [h];simp
 · rw [h];simp
 · rw [h];simp
theorem WH (a : Aut):AF prog 107 [ZJ a] (· =ZN (Z1 a)):=by
 refine AF.of_body 103 func107 rfl ntmps107 (Xa rfl) ?_
 intro w0 M0 vs hl hv
 obtain ⟨v0,rfl⟩:=WE hl
 clear hl hv
 refine Ze ?_
 (refine ZB 1 5 fun h1=>?_<;>refine xL 2 Za ?_<;>refine Zk ?_)
 (refine xL 5 (Zd 1 ZS) ?_<;>(refine yL 6 (Zl 1 Zg) fun v6 h=>?_;cases h)<;>refine xL 7 ZQ (xL 8 Zb ?_)<;>(refine bLd 8 (fun hb8=>?_) (fun hb8=>?_)<;>(first|refine kL 9 ?_|refine xL 9 (Zd 1 ZS) ?_))<;>(first|refine kL 10 ?_|(refine yL 10 (Zl 1 Zg) fun v10 h=>?_;cases h))<;>(first|refine kL 11 ?_|refine xL 11 Yz ?_)<;>refine xL 12 ZG (xL 13 Zb ?_)<;>(first|refine kL 14 ?_|(refine bLd 13 (fun hb13=>?_) (fun hb13=>?_)<;>(first|refine kL 14 ?_|refine xL 14 (Zd 1 ZT) ?_)))<;>(first|refine kL 15 ?_|(refine yL 15 (Zl 1 Zg) fun v15 h=>?_;cases h))<;>(first|refine kL 16 ?_|refine xL 16 ZQ ?_)<;>refine xL 17 ZG (xL 18 Zb ?_)<;>(first|refine kL 19 ?_|(refine bLd 18 (fun hb18=>?_) (fun hb18=>?_)<;>(first|refine kL 19 ?_|refine xL 19 (Zd 1 ZT) ?_)))<;>(first|refine kL 20 ?_|(refine yL 20 (Zl 1 Zg) fun v20 h=>?_;cases h))<;>(first|refine kL 21 ?_|refine xL 21 Yz ?_)<;>refine xL 22 ZG (xL 23 Zb ?_)<;>(first|refine kL 24 ?_|(refine bLd 23 (fun hb23=>?_) (fun hb23=>?_)<;>(first|refine kL 24 ?_|refine xL 24 (Zd 1 Zx) ?_)))<;>(first|refine kL 25 ?_|(refine yL 25 (Zl 1 ZC) fun v25 h=>?_;cases h))<;>(first|refine kL 26 ?_|refine xL 26 (ZW ZL) ?_)<;>(first|refine kL 27 ?_|refine xL 27 Yz ?_)<;>refine xL 28 ZG (xL 29 Zb ?_)<;>(first|refine kL 30 ?_|(refine bLd 29 (fun hb29=>?_) (fun hb29=>?_)<;>(first|refine kL 30 ?_|refine xL 30 (Zd 1 Z9) ?_)))<;>(first|refine kL 31 ?_|(refine yL 31 (Zl 1 Zy) fun v31 h=>?_;cases h))<;>(first|refine kL 32 ?_|refine xL 32 (Zd 1 ZS) ?_)<;>(first|refine kL 33 ?_|(refine yL 33 (Zl 1 Zg) fun v33 h=>?_;cases h))<;>(first|refine kL 34 ?_|(refine cS 34 (cA call152 (ζA a.start a.n)) fun v34 h=>?_;cases h))<;>(first|refine kL 35 ?_|refine xL 35 Z' ?_)<;>refine xL 36 ZG (xL 37 Zb ?_)<;>(first|refine kL 38 ?_|(refine bL 37 (fun hb37=>?_) (fun hb37=>?_)<;>(first|refine kL 38 ?_|refine xL 38 (Zd 1 Z2) ?_)))<;>(first|refine kL 39 ?_|(refine yL 39 (Zl 1 Zy) fun v39 h=>?_;cases h))<;>(first|refine kL 40 ?_|refine xL 40 (Zd 1 ZS) ?_)<;>(first|refine kL 41 ?_|(refine yL 41 (Zl 1 Zg) fun v41 h=>?_;cases h))<;>(first|refine kL 42 ?_|(refine cS 42 (cA call152 (ζA a.fin a.n)) fun v42 h=>?_;cases h))<;>(first|refine kL 43 ?_|refine xL 43 Z' ?_)<;>refine xL 44 ZG ?_<;>refine Zc ?_)<;>(
 refine cX ?_ ?_<;>intro hb44
 · first|exact bN hb44|(
 refine Ze ?_;(refine xL 2 Za ?_<;>refine Zc ?_)
 refine ZA (results107) rfl ?_
 first
  |(rw [SI oM])
  |(rw [SI (.inr (.inr (.inr (.inr (.inr (.inl (by simpa using hb37)))))))])
  |(rw [SI (.inr (.inr (.inr (.inr (.inr (.inr (.inl (by simpa using hb44))))))))]))
 · first | exact bN hb44|(
 refine Ze ?_;(refine xL 45 (Zd 1 Zx) ?_<;>(refine yL 46 (Zl 1 ZC) fun v46 h=>?_;cases h)<;>refine xL 47 (ZW ZL) (xL 48 Zb ?_)<;>refine Zc ?_)
 refine ZE (ι:={k:Nat//k≤a.moves.length∧∀j x,j<k→a.moves[j]? =some x→R1 a x=true∧∀y,1≤j→a.moves[j-1]? =some y→Kj y x=true}) (fun k=>⟨[(1,_,_),(45,_,_),(46,_,_),(47,_,_),(48, .int .i64 k.1,pInt k.1)],[(1,_,_)]⟩) (fun k=>a.moves.length-k.1) ⟨0,oM,oM⟩ (fun a w H=>H.weaken ⟨rfl,rfl,rfl,rfl,rfl,trivial⟩ ⟨rfl,trivial⟩) ?_;rintro ⟨k,hk,hp⟩;dsimp only;refine Ze ?_;(refine xL 49 ZQ ?_<;>refine Zc ?_)
 refine cX ?_ ?_<;>intro hb49
 · first | exact bN hb49|(
 obtain ⟨x,hx⟩:=Zw (show k<a.moves.length by omega);obtain ⟨y,hy⟩:=Zw (show k-1<a.moves.length by omega);have e1:=Yt Z5 a.moves k x hx;have e2:=YV Z5 hx;(have e3:((a.moves.flatMap cMv).drop (((k:Int)-1).toNat*3)).take 3=cMv y:=by rw [show ((k:Int)-1).toNat*3=(k-1)*3 by omega];exact Yt Z5 a.moves (k-1) y hy);have e4:=YV Z5 hy;refine Ze ?_;(refine xL 50 Zb (xL 51 (ZH ZL) ?_)<;>(refine yL 52 (WA Z3) fun v52 h=>?_;cases h)<;>refine Zv [(.int .i64 0),(.int .i64 0),(.int .i64 0)] 3 4 Ko fun h4=>?_<;>refine xL 3 Za ?_<;>refine Zz 4 Z3 ?_<;>refine Zc ?_)
 (refine ZZ (fun i=>([]:List Nat).elem i) [1,4] kR ?_<;>refine xE 0 53 rfl (Zd 4 Yd) ?_<;>(refine yE 1 54 rfl (Zl 4 Zg) fun v54 h=>?_;cases h)<;>refine xE 2 55 rfl ZQ ?_<;>refine xE 3 56 rfl Zb ?_<;>(refine bDd 56 (fun hb56=>?_) (fun hb56=>?_)<;>(first|refine kD 4 57 rfl ?_|refine xD 4 57 rfl (Zd 4 Yd) ?_))<;>(first|refine kD 5 58 rfl ?_|(refine yD 5 58 rfl (Zl 4 Zg) fun v58 h=>?_;cases h))<;>(first|refine kD 6 59 rfl ?_|refine xD 6 59 rfl (Zd 1 ZS) ?_)<;>(first|refine kD 7 60 rfl ?_|(refine yD 7 60 rfl (Zl 1 Zg) fun v60 h=>?_;cases h))<;>(first|refine kD 8 61 rfl ?_|refine xD 8 61 rfl Ww ?_)<;>refine xE 9 62 rfl ZG ?_<;>refine xE 10 63 rfl Zb ?_<;>(first|refine kD 11 64 rfl ?_|(refine bDd 63 (fun hb63=>?_) (fun hb63=>?_)<;>(first|refine kD 11 64 rfl ?_|refine xD 11 64 rfl (Zd 4 Yi) ?_)))<;>(first|refine kD 12 65 rfl ?_|(refine yD 12 65 rfl (Zl 4 Zg) fun v65 h=>?_;cases h))<;>(first|refine kD 13 66 rfl ?_|refine xD 13 66 rfl ZQ ?_)<;>refine xE 14 67 rfl ZG ?_<;>refine xE 15 68 rfl Zb ?_<;>(first|refine kD 16 69 rfl ?_|(refine bDd 68 (fun hb68=>?_) (fun hb68=>?_)<;>(first|refine kD 16 69 rfl ?_|refine xD 16 69 rfl (Zd 4 Yi) ?_)))<;>(first|refine kD 17 70 rfl ?_|(refine yD 17 70 rfl (Zl 4 Zg) fun v70 h=>?_;cases h))<;>(first|refine kD 18 71 rfl ?_|refine xD 18 71 rfl (Zd 1 ZS) ?_)<;>(first|refine kD 19 72 rfl ?_|(refine yD 19 72 rfl (Zl 1 Zg) fun v72 h=>?_;cases h))<;>(first|refine kD 20 73 rfl ?_|refine xD 20 73 rfl Ww ?_)<;>refine xE 21 74 rfl ZG ?_<;>refine xE 22 75 rfl Zb ?_<;>(first|refine kD 23 76 rfl ?_|(refine bDd 75 (fun hb75=>?_) (fun hb75=>?_)<;>(first|refine kD 23 76 rfl ?_|refine xD 23 76 rfl (Zd 4 Yp) ?_)))<;>(first|refine kD 24 77 rfl ?_|(refine yD 24 77 rfl (Zl 4 Zg) fun v77 h=>?_;cases h))<;>(first|refine kD 25 78 rfl ?_|refine xD 25 78 rfl ZQ ?_)<;>refine xE 26 79 rfl ZG ?_<;>refine xE 27 80 rfl Zb ?_<;>(first|refine kD 28 81 rfl ?_|(refine bDd 80 (fun hb80=>?_) (fun hb80=>?_)<;>(first|refine kD 28 81 rfl ?_|refine xD 28 81 rfl (Zd 4 Yp) ?_)))<;>(first|refine kD 29 82 rfl ?_|(refine yD 29 82 rfl (Zl 4 Zg) fun v82 h=>?_;cases h))<;>(first|refine kD 30 83 rfl ?_|refine xD 30 83 rfl (Zd 1 ZT) ?_)<;>(first|refine kD 31 84 rfl ?_|(refine yD 31 84 rfl (Zl 1 Zg) fun v84 h=>?_;cases h))<;>(first|refine kD 32 85 rfl ?_|refine xD 32 85 rfl Ww ?_)<;>refine xE 33 86 rfl ZG ?_<;>refine xE 34 87 rfl Zb ?_<;>(first|refine kD 35 88 rfl ?_|(refine bDd 87 (fun hb87=>?_) (fun hb87=>?_)<;>(first|refine kD 35 88 rfl ?_|refine xD 35 88 rfl Zb ?_)))<;>(first|refine kD 36 89 rfl ?_|refine xD 36 89 rfl Yz ?_)<;>(first|refine kD 37 90 rfl ?_|refine xD 37 90 rfl Zb ?_)<;>(first|refine kD 38 91 rfl ?_|(refine bDd 90 (fun hb90=>?_) (fun hb90=>?_)<;>(first|refine kD 38 91 rfl ?_|refine xD 38 91 rfl (Zd 1 Zx) ?_)))<;>(first|refine kD 39 92 rfl ?_|(refine yD 39 92 rfl (Zl 1 ZC) fun v92 h=>?_;cases h))<;>(first|refine kD 40 93 rfl ?_|refine xD 40 93 rfl Zb ?_)<;>(first|refine kD 41 94 rfl ?_|refine xD 41 94 rfl KM ?_)<;>(first|refine kD 42 95 rfl ?_|refine xD 42 95 rfl (Si ZL) ?_)<;>(first|refine kD 43 96 rfl ?_|(refine yD 43 96 rfl (WA Z3) fun v96 h=>?_;cases h))<;>(first|refine kD 44 97 rfl ?_|(refine yD 44 97 rfl (Zs 4 Z3) fun v97 h=>?_;cases h))<;>(refine Zp 45 kR ?_)<;>(refine Zm rfl fun w9 M9 N9 DQ back=>?_)<;>(first|refine kL 98 ?_|(refine cS 98 (cA call153 ((DY y x).af)) fun v98 h=>?_;cases h))<;>refine Zj (back _ (nrm ?_))<;>(first|refine kD 46 99 rfl ?_|refine xD 46 99 rfl Ww ?_)<;>(first|refine kD 47 100 rfl ?_|refine xD 47 100 rfl ZG ?_)<;>refine xE 48 101 rfl ZG ?_<;>refine YC kR (nav ?_)<;>try dsimp only)<;>(
 refine cX ?_ ?_<;>intro hb101
 · first|exact bN hb101|(
 refine Ze ?_;(refine xL 2 Za ?_<;>refine Zc ?_)
 refine ZA (results107) rfl ?_
 first
  |rw [SI (.inr (.inr (.inr (.inr (.inr (.inr (.inr (.inl (P3 hx (show R1 a x=false by unfold R1;simp only [Bool.and_eq_false_iff,decide_eq_false_iff_not];omega))))))))))]
  |rw [SI (.inr (.inr (.inr (.inr (.inr (.inr (.inr (.inr (LU oM hy hx (show Kj y x=false from US oM))))))))))])
 · first |exact bN hb101|(
 refine Ze ?_;(refine xL 102 ZK (xL 48 Zb ?_)<;>refine Zc ?_)
 refine Zn (
  ⟨k +1,oM,fun j z hj hz=>by
   by_cases e:j=k
   · subst e;rw [hx] at hz;cases hz;refine ⟨by unfold R1;simp only [Xf,UQ];omega,fun y' h1 hy'=>?_⟩;rw [hy] at hy';cases hy'
     first|omega|exact UR oM
   · exact hp j z oM hz⟩
  ) (by dsimp only;omega) ⟨rfl,rfl,rfl,rfl,rfl,trivial⟩ ⟨rfl,trivial⟩)))
 · first|exact bN hb49|(
 refine Ze ?_;(refine xL 2 Za ?_<;>refine Zc ?_)
 refine ZA (results107) rfl ?_;have h7:a.moves.all (R1 a)=true:=Zgg fun j x hj=>(hp j x (by have:=Zh hj;omega) hj).1;have h8:WC Kj a.moves=true:=TS fun j x y h1 hy hx=>(hp j x (by have:=Zh hx;omega) hx).2 y h1 hy;(have h1:LO a.n a.start=true:=by simpa using hb37);(have h2:LO a.n a.fin=true:=by simpa using hb44);unfold Z1;rw [h1,h2,h7,h8,UR (by omega:0≤a.n),UR (by omega:a.n≤2000),UR (by omega:0≤a.syms),UR (by omega:a.syms≤40),UR (by omega:a.moves.length≤20000)];rfl)))
end Go.Proofs.YtgfabnhpllkebaaGreatDoor
