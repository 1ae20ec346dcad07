/-
  Walks of functions and plain laws of the chapter, as the claim needs them.
-/
import Derived.WalkKit
import Derived.ProofKit
import Derived.OpenShut
import Derived.ShutString
import Derived.ChangeOld
import Derived.Below
import Derived.Carry
import Derived.Deep.Slices
import Derived.Sort.EncStr
import Derived.Test.YtmkojdfiadbeeaaGreatPf04
import Derived.Test.YtmkojdfiadbeeaaGreatPf03
import Derived.Test.YtmkojdfiadbeeaaGreatPf02
import Derived.Test.YtmkojdfiadbeeaaGreatPf01
namespace Go.Proofs.YtmkojdfiadbeeaaGreat
open Go.RowKit Go.Cb Go.En Tryz
set_option linter.all false
set_option maxRecDepth 100000
def ζi (t:Nd):Nd:=if Jx t=true then (if Jx (Yg t)=true then Yg t else nd0) else nd0
theorem Zch {p q:PV} {r:PV} (h:Rr p q):Rr (.tup [p,r]) (.tup [q,r]):=Rr.tup rfl fun i a b ha hb=>by
 match i with
 |0=>cases ha;cases hb;exact h
 |1=>cases ha;cases hb;exact Rr.rfl' _
 |i+2=>simp at ha
theorem Zh3 (t:Nd):Rr (TH t).1 (pTr (ζi t)):=by
 unfold TH ζi
 split
 · split
   · exact Rr.rfl' _
   · exact JB
 · exact JB
theorem Zh4 (t:Nd):shD (.tup [(TH t).1,Zf (TH t).2])=true:=by
 unfold TH
 split
 · split<;>rfl
 · rfl
theorem Zga {t:Nd} (hf:FitT t):FitT (ζi t):=by
 unfold ζi
 split
 · rename_i h;split
   · exact T' (ZaC h) (by have:=ZaD h;omega)
   · exact Oi
 · exact Oi
end Go.Proofs.YtmkojdfiadbeeaaGreat
namespace Go.En
open Go.RowKit Go.Cb Go.WideShapes Go.ChangeShapes Go.ChangeAt Go.Deep
set_option linter.all false
theorem TI {H:Type} (P:Program) (e:TypeId) {d:DataW H} {n:Nat}:∀{l:List (DataW H)},d∈l→n∈d.weights P e→n∈DataW.weightsAll P e l
 | x::l,h,hn=>by
   rw [DataW.weightsAll,Xz];rcases Xi.1 h with rfl|h
   · exact .inl hn
   · exact .inr (TI P e h hn)
theorem Kr {H:Type} (P:Program) {d:DataW H} {t:TypeId} {n:Nat}:∀{ts:List TypeId} {l:List (DataW H)} (i:Nat),ts[i]? =some t→l[i]? =some d→n∈d.weights P t→n∈DataW.weightsEach P ts l
 | t'::ts,x::l,0,h1,h2,hn=>by
   simp at h1 h2;subst h1 h2;rw [DataW.weightsEach,Xz];exact .inl hn
 | t'::ts,x::l,i+1,h1,h2,hn=>by
   rw [DataW.weightsEach,Xz];exact .inr (Kr P i (by simpa using h1) (by simpa using h2) hn)
structure Dec (P:Program) (t:TypeId) (k:Nat) {α:Type} (enc:α→List PV) (fit:α→Prop):Prop where
 size:P.cellsOf t=k
 len:∀a,(enc a).length=k
 dec:∀{H:Type} (e:TypeId×Value→H) (w:World) (spare:Nat→Bool) (held:Bool) (fuel:Nat) (cs:List Value) (x:DataW H×List MemPlace),DataW.trod e P w 0 spare held fuel t cs=some x→(∀n∈x.1.weights P t,n≤reachBytes)→
  ∃a,fit a∧cs.length=k∧∀(i:Nat) (v:Value) (p:PV),cs[i]? =some v→(enc a)[i]? =some p→Shr (fun _=>False) w v p
section
variable {P:Program} {t:TypeId}
theorem Df {v u:Value} {p q:PV} {w:World} (h:Shr (fun _=>False) w v p) (i:Nat) (h1:[v][i]? =some u) (h2:[p][i]? =some q):Shr (fun _=>False) w u q:=by
 cases i with
 |zero=>simp at h1 h2;subst h1 h2;exact h
 |succ i=>simp at h1
theorem Zh5 (ht:P.underlying t=some (.int .i64)) (hs:P.cellsOf t=1):Dec P t 1 (fun n:Int=>[Zf n]) (fun n=> -9223372036854775808≤n∧n≤9223372036854775807) where
 size:=hs
 len:=fun _=>rfl
 dec:=fun e w spare held fuel cs x h=>by
  intro hwt;obtain ⟨n,rfl,_,hw⟩:=DataW.trod_int ht h;refine ⟨n,?_,rfl,fun i v p h1 h2=>Df (.val _) i h1 h2⟩;simpa [Lit.wf,IntKind.min,IntKind.max,IntKind.signed,IntKind.bits] using hw
theorem Zh6 (ht:P.underlying t=some .string) (hs:P.cellsOf t=1):Dec P t 1 (fun s:ByteArray=>[ZD s]) (fun s=>s.size≤140737488355328) where
 size:=hs
 len:=fun _=>rfl
 dec:=fun e w spare held fuel cs x h=>by
  intro hwt;obtain ⟨s,rfl,rfl,hw⟩:=DataW.trod_string ht h;have hsz:s.size≤reachBytes:=hwt s.size (by show s.size∈DataW.weights P t (.lit (.string s.data.toList));rw [DataW.weights];exact XB.2 (by rw [XU];rfl));exact ⟨s,by unfold reachBytes at hsz;omega,rfl,fun i v p h1 h2=>Df (.val _) i h1 h2⟩
theorem HQ {α:Type} {e k:Nat} {enc:α→List PV} {fit:α→Prop} (ht:P.underlying t=some (.slice e)) (hs:P.cellsOf t=1) (hk:0<k) (hby:0<P.bytesOf e) (D:Dec P e k enc fit):
 Dec P t 1 (fun l:List α=>[PV.sl l.length (l.flatMap enc)]) (fun l=>l.length≤140737488355328∧∀x∈l,fit x) where
 size:=hs
 len:=fun _=>rfl
 dec := fun en w spare held fuel cs x h=>by
  intro hwt;rcases open_slice ht h with ⟨rfl,_⟩|⟨a,len,cap,m,n,Dt,Pl,rfl,_,hl,hm,hmm,rfl,hx⟩
  · exact ⟨[],⟨sM,sM⟩,rfl,fun i v p h1 h2=>Df (.emp none 0 (by unfold maxLen;omega) (fun _=>rfl)) i h1 h2⟩
  · rcases VQ len with h0|h0
    · subst h0;exact ⟨[],⟨sM,sM⟩,rfl,fun i v p h1 h2=>Df (.emp (some a) cap hm (fun h=>by cases h)) i h1 h2⟩
    (have hlm:len≤m:=by rw [hmm];split<;>omega);simp only [DataW.weights,ht] at hwt;have hlen:len≤reachBytes:=by
     have:=hwt _ (XQ ..);simp only [Xd,V3] at this;exact XG (XG (VI len _) (Nat.le_mul_of_pos_right _ hby)) this
    have hwi:∀i,i<len→∀n∈(Dt i).weights P e,n≤reachBytes:=fun i hi n hn=>hwt n (XS _ (Xz.2 (.inl (TI P e (Xr.2 ⟨i,by simpa using hi,rfl⟩) hn))));have key:∀i:Nat,∃(y:α×(Nat→Value)),i<len→fit y.1∧∀(j:Nat) (p:PV),(enc y.1)[j]? =some p→w.cell? ((a.add (i*k)).add j)=some (y.2 j)∧Shr (fun _=>False) w (y.2 j) p:=fun i=>by
     obtain ⟨cs0,h10,h20⟩:=hx 0 oM;obtain ⟨y0,_⟩:=D.dec en w spare held n cs0 _ h20 (hwi 0 h0);by_cases hi:i<len
     · obtain ⟨cs',h1,h2⟩:=hx i oM;rw [D.size] at h1;obtain ⟨_,hlen,hcell⟩:=World.cells?_some h1;obtain ⟨y,hy,_,hS⟩:=D.dec en w spare held n cs' _ h2 (hwi i hi);refine ⟨(y,fun j=>(cs'[j]?).getD undef),fun _=>⟨hy,fun j p hp=>?_⟩⟩;(have hj:j<k:=by rw [←D.len y];exact Zj hp);obtain ⟨u,hu⟩:=Yf (show j<cs'.length by omega);have:=hcell j hj;simp only [hu,VZ];exact ⟨by rw [this,hu],hS j u p hu hp⟩
     · exact ⟨(y0,fun _=>undef),fun h=>UC h hi⟩
    obtain ⟨Y,hY⟩:=Classical.skolem.1 key;have hspot:∃b off,a=⟨b,off,none⟩:=by
     obtain ⟨hf,hc⟩:=hY 0 h0;obtain ⟨p,hp⟩:=Yf (show 0<(enc (Y 0).1).length by rw [D.len];exact hk);have:=(hc 0 p hp).1;obtain ⟨b,off,spot⟩:=a;(have hspot:spot=none:=by simpa [Addr.add] using World.cell?_spot this);subst hspot;exact ⟨b,off,rfl⟩
    obtain ⟨b,off,rfl⟩:=hspot;have hflen:((List.range len).map fun i=>(Y i).1).length=len:=sM;refine ⟨(List.range len).map fun i=>(Y i).1,⟨by rw [hflen];unfold reachBytes at hlen;omega,fun x hx=>?_⟩,rfl,fun i v p h1 h2=>Df ?_ i h1 h2⟩
    · obtain ⟨i,hi,rfl⟩:=Xr.1 hx;exact (hY i (by simpa using hi)).1
    · rw [hflen];have hat:∀(c:Nat) (p:PV),(((List.range len).map fun i=>(Y i).1).flatMap enc)[c]? =some p→c / k<len∧(enc (Y (c / k)).1)[c % k]? =some p:=fun c p hp=>by
       (have hc:c<len*k:=by have:=Zj hp;rw [Yr D.len,hflen] at this;exact this);have hq:c / k<len:=Nat.div_lt_of_lt_mul (by rw [Vl];exact hc);(have hget:((List.range len).map fun i=>(Y i).1)[c / k]? =some (Y (c / k)).1:=by simp [hq]);have:=WU D.len hget (Nat.mod_lt c hk);rw [Vl,VP] at this;exact ⟨hq,by rw [←this];exact hp⟩
      refine .sl b off len cap _ (fun c=>(Y (c / k)).2 (c % k)) hl hm (fun c hc=>⟨?_,fun h=>h⟩) (fun c p hp=>?_)
      · obtain ⟨p,hp⟩:=Yf hc;obtain ⟨hq,hp'⟩:=hat c p hp;have:=((hY (c / k) hq).2 (c % k) p hp').1;rw [YR,YR,Vf,Vl,VP] at this;exact this
      · obtain ⟨hq,hp'⟩:=hat c p hp;exact ((hY (c / k) hq).2 (c % k) p hp').2
theorem HR {H:Type} {α:Type} {e k o:Nat} {enc:α→List PV} {fit:α→Prop} (D:Dec P e k enc fit) {en:TypeId×Value→H} {w:World} {spare:Nat→Bool} {held:Bool} {n:Nat} {cs:List Value} {y:DataW H×List MemPlace}
 (h:DataW.trod en P w 0 spare held n e ((cs.drop o).take (P.cellsOf e))=some y) (hwt:∀n∈y.1.weights P e,n≤reachBytes):∃a,fit a∧∀(i:Nat) (v:Value) (p:PV),cs[o+i]? =some v→(enc a)[i]? =some p→Shr (fun _=>False) w v p:=by
 obtain ⟨a,h1,_,h3⟩:=D.dec en w spare held n _ y h hwt
 refine ⟨a,h1,fun i v p hv hp=>h3 i v p ?_ hp⟩
 have hi:i<k:=by rw [←D.len a];exact Zj hp
 rw [D.size,XZ hi,Vu];exact hv
theorem EY {α β:Type} {k:Nat} {enc:α→List PV} {enc':β→List PV} {fit:α→Prop} {fit':β→Prop} (g:α→β) (D:Dec P t k enc fit) (hl:∀b,(enc' b).length=k) (he:∀a,enc' (g a)=enc a) (h:∀a,fit a→fit' (g a)):Dec P t k enc' fit':=
 ⟨D.size,hl,fun e w s hd f cs x hx hy=>let ⟨a,h1,h2,h3⟩:=D.dec e w s hd f cs x hx hy;⟨g a,h a h1,h2,by rw [he];exact h3⟩⟩
theorem Zgb {cs:List Value} {A B:List PV} {k:Nat} {w:World} (hA:A.length=k) (h1:∀(i:Nat) (v:Value) (p:PV),cs[i]? =some v→A[i]? =some p→Shr (fun _=>False) w v p)
 (h2:∀(i:Nat) (v:Value) (p:PV),cs[k+i]? =some v→B[i]? =some p→Shr (fun _=>False) w v p) (i:Nat) (v:Value) (p:PV) (hv:cs[i]? =some v) (hp:(A++B)[i]? =some p):Shr (fun _=>False) w v p:=by
 rcases Xv i k with h|h
 · rw [X5 oM] at hp;exact h1 i v p hv hp
 · rw [Vh oM] at hp;exact h2 (i-k) v p (by rw [Nat.add_sub_cancel' h];exact hv) (by rw [←hA];exact hp)
theorem ζj {α β:Type} {f0 f1:Field} {k0 k1:Nat} {enc0:α→List PV} {enc1:β→List PV} {fit0:α→Prop} {fit1:β→Prop} (ht:P.underlying t=some (.struct #[f0,f1])) (hs:P.cellsOf t=k0+k1)
 (D0:Dec P f0.type k0 enc0 fit0) (D1:Dec P f1.type k1 enc1 fit1) (ho0:f0.offset=0) (ho1:f1.offset=k0):Dec P t (k0+k1) (fun x:α×β=>enc0 x.1++enc1 x.2) (fun x=>fit0 x.1∧fit1 x.2) where
 size:=hs
 len:=fun x=>by rw [Xf,D0.len,D1.len]
 dec:=fun e w spare held fuel cs x h=>by
  intro hwt;obtain ⟨xs,n,_,rfl,hlen,hxl,hf⟩:=DataW.trod_struct ht h;simp only [DataW.weights,ht] at hwt;have g0:=hf 0 f0 rfl;have g1:=hf 1 f1 rfl;match xs,hxl with
  |[y0,y1],_=>
  rw [ho0] at g0;rw [ho1] at g1;obtain ⟨a,ha,A⟩:=HR D0 g0 (fun n hn=>hwt n (Kr P 0 sM sM hn));obtain ⟨b,hb,B⟩:=HR D1 g1 (fun n hn=>hwt n (Kr P 1 sM sM hn));refine ⟨(a,b),⟨ha,hb⟩,by rw [hlen,hs],Zgb (D0.len a) (fun i v p hv hp=>A i v p (by rw [Xx];exact hv) hp) B⟩
section
variable {H:Type} {en:TypeId×Value→H} {w:World} {spare:Nat→Bool} {held:Bool} {r:Reach} {base:Nat} {v:Value} {d:DataW H} {ps:List MemPlace}
theorem ZaP (hT:NoAgg P t=true) (h:Value.okWide P w r base t v):v.cells= #[v]:=by
 unfold NoAgg at hT
 unfold Value.okWide at h
 cases v<;>first|rfl|skip
 rename_i cs
 exfalso
 cases hu:P.underlying t with
 |none=>rw [hu] at hT;simp at hT
 | some dd=>
   rw [hu] at hT h
   cases dd<;>simp_all [Cell.okWide,Cell.ok]
theorem Zkv {α:Type} {f:α→PV} {fit:α→Prop} (D:Dec P t 1 (fun a=>[f a]) fit) (hT:NoAgg P t=true) (hv:Value.okWide P w r base t v) (h:DataW.Trod en P w 0 spare held t v d ps) (hwt:∀n∈d.weights P t,n≤reachBytes):∃a,fit a∧Shr (fun _=>False) w v (f a):=by
 obtain ⟨fuel,hf⟩:=h
 rw [ZaP hT hv] at hf
 obtain ⟨a,h1,_,h3⟩:=D.dec en w spare held fuel _ _ hf hwt
 exact ⟨a,h1,h3 0 v (f a) rfl rfl⟩
end
theorem Rk {H:Type} {enc:TypeId×Value→H} {P:Program} (hl:laidOutB P=true) {W W':World} (hb:Below W.heap.size W W'):∀{ts:List TypeId} {vs:List Value} {ds:List (DataW H)} {ps:List MemPlace},(ts.all fun t=>P.readableRec t&&decide (t<P.types.size))=true→
 DataW.TrodAll enc P W 0 (fun _=>true) true ts vs ds ps→DataW.TrodAll enc P W' 0 (fun b=>decide (b<W.heap.size)) true ts vs ds ps
 |[],[],[],ps,_,h=>h
 | t::ts,v::vs,d::ds,ps,ht,⟨p,q,h1,h2,h3⟩=>by
   rw [V',Xe,Xe] at ht;refine ⟨p,q,Below.trod hl ht.1.1 (UD ht.1.2) h1 hb ?_,Rk hl hb ht.2 h2,h3⟩;obtain ⟨m,hm⟩:=h1;exact DataW.trod_lt m _ _ _ hm
theorem AF.law {P:Program} {f:FuncId} {ps:List PV} (hA:AF P f ps (· = .val (.bool true))) {W:World} {vs:List Value} (hl:vs.length=ps.length) (hv:∀(i:Nat) (v:Value) (p:PV),vs[i]? =some v→ps[i]? =some p→Shr (fun _=>False) W v p) (hT:TabW W (fun _=>False) (fun _=>False)) (hE:ErrW W (fun _=>False) (fun _=>False):=by intro g hg;cases hg):
 Calls P f vs.toArray W fun e w'=>e= .returned (.bool true)∧Below W.heap.size W w':=
 (hA (fun _=>False) W vs ⟨fun _ h=>h.elim,fun _=>hT,fun _=>hE⟩ hl hv).mono fun e w' ⟨v,p,F,h1,h2,h3,h4,_⟩=>by
   subst h2;have:=(h4.sh rfl).vOf;subst this;exact ⟨h1,h3⟩
end
section
variable {P:Program} {t:TypeId}
end
open Go.RowKit Go.Cb
section
variable {sL hP:List (Nat×Ent)}
end
open Go.RowKit Go.Cb Go.Proofs Go.Sort Go.ChangeShapes Go.WideShapes Go.ChangeAt
section
variable {P:Program} {c:Ctx} {ops:Array Oper} {Q:Exit→Act→World→Prop} {rest:List Oper} {sL hP:List (Nat×Ent)} {o:Oper}
end
section
variable {P:Program} {c:Ctx} {ops:Array Oper} {Q:Exit→Act→World→Prop} {rest:List Oper} {st:St} {sL hP:List (Nat×Ent)} {o:Oper} {Z:Nat→Bool} {K:List Nat} {fuel:Nat} {listed:Array Bool}
end
end Go.En
namespace Go.Proofs.YtmkojdfiadbeeaaGreat
open Go.RowKit Go.Cb Go.En Tryz
set_option linter.all false
set_option maxRecDepth 100000
theorem Zs:AggT prog 51 3=true:=by kernel_rfl
theorem YC:K6 prog 51=some ((.agg #[(.int .i64 0),(.string ByteArray.empty),(.slice none 0 0)]),([0,1,2]:List Nat).map fun o=>(o,1)):=by kernel_rfl
theorem Z8:ZeroT prog 51 (.agg #[(.int .i64 0),(.string ByteArray.empty),(.slice none 0 0)]):=by unfold ZeroT;kernel_rfl
def Y5 (o:Int) (l:List Nd):Nd:= .mk o ByteArray.empty l
def lf (s:ByteArray):Nd:= .mk 1 s []
def sil:Nd:=Y5 2 []
def Rl (acts:List ByteArray):Nd:=match acts with
 |[s]=>Y5 6 [lf s,sil]
 |l=>Y5 6 [Y5 4 (l.map lf),sil]
theorem Dg {l:List ByteArray} (h:l.length≠1):Rl l=Y5 6 [Y5 4 (l.map lf),sil]:=by
 match l with
 |[]=>rfl
 |[s]=>simp at h
 |_::_::_=>rfl
theorem Oq (o:Int) (a:ByteArray):Rr (.agg [Zf o,ZD a, .val (.slice none 0 0)]) (pTr (.mk o a [])):=Rr.agg rfl fun i x y ha hb=>by
 match i with
 |0=>cases ha;cases hb;exact Rr.rfl' _
 |1=>cases ha;cases hb;exact Rr.rfl' _
 |2=>cases ha;cases hb;exact Rr.nil
 |i+3=>simp at ha
theorem LI (x y:Nd):PV.sl 2 [Zf x.op,ZD x.act,Y4 x.l,Zf y.op,ZD y.act,Y4 y.l]=Y4 [x,y]:=by
 show PV.sl 2 (cN x++(cN y++[]))=PV.sl 2 (Z6 [x,y])
 rw [Y3];rfl
theorem J1 (o:Int) (l:List Nd):AF prog 120 [Zf o,Y4 l] (· =pTr (Y5 o l)):=by
 refine AF.of_body 8 func120 rfl ntmps120 (Xa rfl) ?_
 intro w0 M0 vs hl hv
 obtain ⟨v0,v1,rfl⟩:=W7 hl
 obtain rfl:=hv 0 _ _ rfl rfl
 clear hl hv
 refine Zd ?_
 (refine ZA [(.int .i64 0),(.string ByteArray.empty),(.slice none 0 0)] 3 4 Z8 fun h4=>?_<;>refine Zi ?_)
 (refine xL 5 Za (xL 6 Za (xL 7 (ZO YC) ?_))<;>refine Zw 4 Zs ?_<;>refine Zc ?_)
 exact YK (k:=3) 4 kR (results120) rfl rfl (Xa rfl) dC rfl rfl
theorem Zh7 (s:ByteArray):AF prog 131 [ZD s] (· = .agg [Zf 1,ZD s, .val (.slice none 0 0)]):=by
 refine AF.of_body 5 func131 rfl ntmps131 (Xa rfl) ?_
 intro w0 M0 vs hl hv
 obtain ⟨v0,rfl⟩:=YG hl
 obtain rfl:=hv 0 _ _ rfl rfl
 clear hl hv
 refine Zd ?_
 (refine ZA [(.int .i64 0),(.string ByteArray.empty),(.slice none 0 0)] 3 2 Z8 fun h2=>?_<;>refine Zi ?_)
 (refine xL 3 Za (xL 4 (ZO YC) ?_)<;>refine Zw 2 Zs ?_<;>refine Zc ?_)
 exact YK (k:=3) 2 kR (results131) rfl rfl (Xa rfl) dC rfl rfl
theorem Zci (s:ByteArray):AF prog 131 [ZD s] (· =pTr (lf s)):=(Zh7 s).reread rfl (Oq 1 s)
theorem ZdM:AF prog 121 [] (· = .agg [Zf 2,ZD ByteArray.empty, .val (.slice none 0 0)]):=by
 refine AF.of_body 2 func121 rfl ntmps121 (Xa rfl) ?_
 intro w0 M0 vs hl hv
 obtain rfl:=Xw hl
 clear hl hv
 refine Zd ?_
 (refine ZA [(.int .i64 0),(.string ByteArray.empty),(.slice none 0 0)] 3 0 Z8 fun h0=>?_<;>refine Zi ?_)
 (refine xL 1 (ZO YC) ?_<;>refine Zw 0 Zs ?_<;>refine Zc ?_)
 exact YK (k:=3) 0 kR (results121) rfl rfl (Xa rfl) dC rfl rfl
theorem LJ:AF prog 121 [] (· =pTr sil):=ZdM.reread rfl (Oq 2 _)
theorem ζk:AF prog 90 [] (· = .agg [Zf 2,ZD ByteArray.empty, .val (.slice none 0 0)]):=by
 refine AF.of_body 2 func90 rfl ntmps90 (Xa rfl) ?_
 intro w0 M0 vs hl hv
 obtain rfl:=Xw hl
 clear hl hv
 refine Zd ?_
 (refine ZA [(.int .i64 0),(.string ByteArray.empty),(.slice none 0 0)] 3 0 Z8 fun h0=>?_<;>refine Zi ?_)
 (refine xL 1 (ZO YC) ?_<;>refine Zw 0 Zs ?_<;>refine Zc ?_)
 exact YK (k:=3) 0 kR (results90) rfl rfl (Xa rfl) dC rfl rfl
theorem Lc:AF prog 90 [] (· =pTr sil):=ζk.reread rfl (Oq 2 _)
theorem Zgc (s:ByteArray):AF prog 91 [ZD s] (· = .agg [Zf 1,ZD s, .val (.slice none 0 0)]):=by
 refine AF.of_body 5 func91 rfl ntmps91 (Xa rfl) ?_
 intro w0 M0 vs hl hv
 obtain ⟨v0,rfl⟩:=YG hl
 obtain rfl:=hv 0 _ _ rfl rfl
 clear hl hv
 refine Zd ?_
 (refine ZA [(.int .i64 0),(.string ByteArray.empty),(.slice none 0 0)] 3 2 Z8 fun h2=>?_<;>refine Zi ?_)
 (refine xL 3 Za (xL 4 (ZO YC) ?_)<;>refine Zw 2 Zs ?_<;>refine Zc ?_)
 exact YK (k:=3) 2 kR (results91) rfl rfl (Xa rfl) dC rfl rfl
theorem Dh (s:ByteArray):AF prog 91 [ZD s] (· =pTr (lf s)):=(Zgc s).reread rfl (Oq 1 s)
theorem WP:ElT prog 49 51 3 48 (.agg #[(.int .i64 0),(.string ByteArray.empty),(.slice none 0 0)]):=⟨underlying49,by kernel_rfl,rfl,dC⟩
theorem Gd:FldT prog 51 2 2=true:=by kernel_rfl
theorem LK:NoAgg prog 49=true:=by kernel_rfl
theorem Jf:SlT prog 49 51 3=true:=by kernel_rfl
theorem ZdN:(prog.info? 49).map (·.size)=some 1:=by kernel_rfl
theorem Zgd (l:List ByteArray) (k:Nat) {x:ByteArray} (hx:l[k]? =some x):((l.take k).map lf).flatMap cN++cN (lf x)=((l.take (k+1)).map lf).flatMap cN:=by
 rw [ZW hx,X1,Va];simp
theorem Zge (l:List ByteArray) (k:Nat) (h:k≤l.length):(((l.take k).map lf).flatMap cN).length=k*3:=by
 rw [Yr Tb,Xd,XF,X' h]
theorem HS (l:List ByteArray) (hl:l.length≤1000000):AF prog 87 [ZT l] (· =pTr (Rl l)):=by
 refine AF.of_body 32 func87 rfl ntmps87 (Xa rfl) ?_
 intro w0 M0 vs hl hv
 obtain ⟨v0,rfl⟩:=YG hl
 clear hl hv
 refine Zd ?_
 (refine ZA [(.int .i64 0),(.string ByteArray.empty),(.slice none 0 0)] 3 2 Z8 fun h2=>?_<;>refine Zi ?_)
 (refine xL 3 Zb ?_<;>refine Zi ?_)
 (refine xL 6 Za (xL 7 (ZF Zx) (xL 8 Za ?_))<;>refine Zc ?_)
 refine ZE (W3 200 51 3 rfl) fun _=>?_
 refine Zy (ι:={x:Nat×Value//x.1≤l.length}) (fun k=>⟨[(2,_,_),(6,_,_),(7,_,_),(3,k.1.2, .val k.1.2),(8, .int .i64 k.1.1,Zf k.1.1)],[(2,_,_),(200,k.1.2, .own 51 3 k.1.1 (((l.take k.1.1).map lf).flatMap cN))]⟩) (fun k=>l.length-k.1.1) ⟨(0, .slice none 0 0),oM⟩ (fun a w H=>H.weaken ⟨rfl,rfl,rfl,rfl,rfl,trivial⟩ ⟨rfl,rfl,trivial⟩) ?_
 rintro ⟨⟨k,h3⟩,hk⟩
 dsimp only
 dsimp only at hk
 refine Zd ?_
 (refine xL 9 ZI ?_<;>refine Zc ?_)
 refine cX ?_ ?_<;>intro hb9
 · first|exact bN hb9|(
 obtain ⟨x,hx⟩:=Zm (show k<l.length by omega);have e1:=Yq (f:=ZD) hx;have e3:=Zge l k hk;refine Zd ?_;(refine xL 10 (Zv Zx) ?_<;>(refine yL 11 (ZN ZP) fun v11 h=>?_;cases h)<;>refine xL 5 Zb ?_<;>refine Zi ?_)
 (refine xL 12 Za (xL 13 Za ?_)<;>(refine cD 14 (cA call131 (Zci x)) fun v14 hv14=>?_;clear hv14)<;>refine Ju 15 WP fun h15 ho15=>?_<;>refine Kd 200 15 16 WP fun h16 ho16=>?_<;>refine xL 3 Zb ?_<;>refine Zi ?_)
 (refine xL 17 ZH (xL 8 Za ?_)<;>refine Zc ?_)
 refine Yh (Z5 (l:=16) 200 rfl rfl) fun _=>?_;rw [show ((l.take k).map lf).flatMap cN++_=((l.take (k+1)).map lf).flatMap cN from Zgd l k hx];refine Zh (
  ⟨(k+1,h16),by show k+1≤l.length;omega⟩
  ) (by dsimp only;omega) ⟨rfl,rfl,rfl,rfl,rfl,trivial⟩ ⟨rfl,rfl,trivial⟩)
 · first|exact bN hb9|(
 obtain rfl:k=l.length:=oM;rw [XI];refine nav ?_;refine ZE (En.freeze (l:=200) (t:=3) rfl rfl) fun _=>?_;rw [←Y3,GC _ _ _ (by rw [Xd])];(refine Zo ?_<;>refine xL 18 Za (xL 19 (ZF Jf) (xL 20 ZU ?_))<;>refine Zc ?_)
 refine cX ?_ ?_<;>intro hb20
 · first|exact bN hb20|(
 obtain ⟨x,rfl⟩:∃x,l=[x]:=VK.1 (by have:=hb20;rw [Xd] at this;omega);have e1:((Z6 ([x].map lf)).drop (0*3)).take 3=cN (lf x):=rfl;have e2:0<([x].map lf).length:=X8;refine nav ?_;(refine ZM (fun i=>([]:List Nat).elem i) [] kR ?_<;>refine xD 0 21 rfl Za ?_<;>refine xD 1 22 rfl (Zv Jf) ?_<;>(refine yD 2 23 rfl (Wl Zs) fun v23 h=>?_;cases h)<;>(refine Zk 3 kR ?_)<;>(refine YH (d:=24) rfl (cA call121 LJ) fun v24 h=>?_;cases h)<;>(refine Zk 4 kR ?_)<;>(refine Zg rfl fun w9 M9 N9 DQ back=>?_)<;>(refine JR (kk:=3) (xs:=[_,_]) (cs:=[[_,_,_],[_,_,_]]) 25 WP fun h25 ho25=>?_;refine ZJ (En.freeze (l:=25) (t:=25) rfl rfl) fun _=>?_;refine ZJ (JA (t:=25) (p':=Y4 [lf x,sil]) rfl (Eq.trans (show _=PV.sl 2 ([lf x,sil].flatMap cN) from rfl) (LI (lf x) sil))) fun _=>?_)<;>refine Ze (back _ (nrm ?_))<;>(refine Zk 5 kR ?_)<;>(refine YH (d:=26) rfl (cA call120 (J1 6 [lf x,sil])) fun v26 h=>?_;cases h)<;>(refine Zk 6 kR ?_)<;>(refine Zg rfl fun w9 M9 N9 DQ back=>?_)<;>refine Zw 2 Zs ?_<;>refine Ze (back _ (nrm ?_))<;>refine Ym kR (nav ?_)<;>try dsimp only)
 refine YK (k:=3) 2 kR (results87) rfl rfl (Xa rfl) dC rfl ?_;rfl)
 · first|exact bN hb20|(
 refine Zd ?_;(refine xL 27 Za ?_<;>(refine cD 28 (cA call120 (J1 4 (l.map lf))) fun v28 hv28=>?_;clear hv28)<;>(refine cD 29 (cA call121 (LJ)) fun v29 hv29=>?_;clear hv29)<;>(refine JR (kk:=3) (xs:=[_,_]) (cs:=[[_,_,_],[_,_,_]]) 30 WP fun h30 ho30=>?_;refine ZJ (En.freeze (l:=30) (t:=30) rfl rfl) fun _=>?_;refine ZJ (JA (t:=30) (p':=Y4 [Y5 4 (l.map lf),sil]) rfl (Eq.trans (show _=PV.sl 2 ([Y5 4 (l.map lf),sil].flatMap cN) from rfl) (LI (Y5 4 (l.map lf)) sil))) fun _=>?_)<;>(refine cD 31 (cA call120 (J1 6 [Y5 4 (l.map lf),sil])) fun v31 hv31=>?_;clear hv31)<;>refine Zw 2 Zs ?_<;>refine Zc ?_)
 refine YK (k:=3) 2 kR (results87) rfl rfl (Xa rfl) dC rfl ?_;rw [Dg (by have:=hb20;rw [Xd] at this;omega)];rfl))
theorem ζl (l:List ByteArray) (hl:l.length≤1000000):AF prog 34 [ZT l] (· =pTr (Rl l)):=by
 refine AF.of_body 36 func34 rfl ntmps34 (Xa rfl) ?_
 intro w0 M0 vs hl hv
 obtain ⟨v0,rfl⟩:=YG hl
 clear hl hv
 refine Zd ?_
 (refine ZA [(.int .i64 0),(.string ByteArray.empty),(.slice none 0 0)] 3 2 Z8 fun h2=>?_<;>refine Zi ?_)
 (refine xL 5 Za (xL 6 (ZF Zx) (xL 7 ZU ?_))<;>refine Zc ?_)
 refine cX ?_ ?_<;>intro hb7
 · first|exact bN hb7|(
 obtain ⟨x,rfl⟩:∃x,l=[x]:=VK.1 oM;have e1:([x].map ZD)[0]? =some (ZD x):=rfl;have e2:0<[x].length:=X8;refine Zd ?_;(refine xL 8 Za (xL 9 (Zv Zx) ?_)<;>(refine yL 10 (ZN ZP) fun v10 h=>?_;cases h)<;>(refine cD 11 (cA call91 (Dh x)) fun v11 hv11=>?_;clear hv11)<;>(refine cD 12 (cA call90 (Lc)) fun v12 hv12=>?_;clear hv12)<;>(refine JR (kk:=3) (xs:=[_,_]) (cs:=[[_,_,_],[_,_,_]]) 13 WP fun h13 ho13=>?_;refine ZJ (En.freeze (l:=13) (t:=13) rfl rfl) fun _=>?_;refine ZJ (JA (t:=13) (p':=Y4 [lf x,sil]) rfl (Eq.trans (show _=PV.sl 2 ([lf x,sil].flatMap cN) from rfl) (LI (lf x) sil))) fun _=>?_)<;>refine xL 14 (ZO YC) ?_<;>refine Zw 2 Zs ?_<;>refine Zc ?_)
 refine YK (k:=3) 2 kR (results34) rfl rfl (Xa rfl) dC rfl ?_;rfl)
 · first |exact bN hb7|(
 refine Zd ?_;(refine xL 15 (ZO YC) ?_<;>refine ZA [(.int .i64 0),(.string ByteArray.empty),(.slice none 0 0)] 3 3 Z8 fun h3=>?_<;>refine Zw 3 Zs ?_<;>refine Zi ?_)
 (refine xL 4 Zb ?_<;>refine Zc ?_)
 refine ZE (W3 200 51 3 rfl) fun _=>?_;refine Zy (ι:={x:Nat×Value//x.1≤l.length}) (fun k=>⟨[(0,_,_),(2,_,_),(3,_,_),(4, .int .i64 k.1.1,Zf k.1.1)],[(2,_,_),(3,h3, .own 51 3 1 [Zf 4,ZD ByteArray.empty, .val k.1.2]),(200,k.1.2, .own 51 3 k.1.1 (((l.take k.1.1).map lf).flatMap cN))]⟩) (fun k=>l.length-k.1.1) ⟨(0, .slice none 0 0),oM⟩ (fun a w H=>H.weaken ⟨rfl,rfl,rfl,rfl,trivial⟩ ⟨rfl,rfl,rfl,trivial⟩) ?_;rintro ⟨⟨k,h33⟩,hk⟩;dsimp only;dsimp only at hk;refine Zd ?_;(refine xL 16 Za (xL 17 Za (xL 18 (ZF Zx) (xL 19 ZI ?_)))<;>refine Zc ?_)
 refine cX ?_ ?_<;>intro hb19
 · first|exact bN hb19|(
 obtain ⟨x,hx⟩:=Zm (show k<l.length by omega);have e1:=Yq (f:=ZD) hx;have e3:=Zge l k hk;refine nav ?_;(refine ZM (fun i=>([10]:List Nat).elem i) [3] kR ?_<;>refine xD 0 22 rfl (Zn 3 Gd) ?_<;>(refine yD 1 23 rfl (Zr 3 LK) fun v23 h=>?_;cases h)<;>refine xD 2 24 rfl Za ?_<;>refine xE 3 25 rfl Za ?_<;>refine xE 4 26 rfl (Zv Zx) ?_<;>(refine yE 5 27 rfl (ZN ZP) fun v27 h=>?_;cases h)<;>(refine Zk 6 kR ?_)<;>(refine YH (d:=28) rfl (cA call91 (Dh x)) fun v28 h=>?_;cases h)<;>(refine Zk 7 kR ?_)<;>(refine Zg rfl fun w9 M9 N9 DQ back=>?_)<;>refine Ju 29 WP fun h29 ho29=>?_<;>refine Ze (back _ (nrm ?_))<;>(refine Zk 8 kR ?_)<;>(refine Zg rfl fun w9 M9 N9 DQ back=>?_)<;>refine Kd 200 29 30 WP fun h30 ho30=>?_<;>refine Ze (back _ (nrm ?_))<;>refine xE 9 31 rfl (Zn 3 Gd) ?_<;>(refine Zk 10 kR ?_)<;>(refine W8 rfl rfl kR fun DQ back=>?_)<;>refine P5 3 LK ZdN ?_<;>refine Ze (back _ (nav ?_))<;>try dsimp only)
 (refine Zo ?_<;>refine xL 20 Za (xL 21 ZH (xL 4 Zb ?_))<;>refine Zc ?_)
 refine Yh (Z5 (l:=30) 200 rfl rfl) fun _=>?_;rw [show ((l.take k).map lf).flatMap cN++_=((l.take (k+1)).map lf).flatMap cN from Zgd l k hx];refine Zh (
  ⟨(k+1,h30),by show k+1≤l.length;omega⟩
  ) (by dsimp only;omega) ⟨rfl,rfl,rfl,rfl,trivial⟩ ⟨rfl,rfl,rfl,trivial⟩)
 · first|exact bN hb19|(
 obtain rfl:k=l.length:=oM;rw [XI];refine nav ?_;refine ZE (KA (l:=3) (l':=200) (j:=2) rfl rfl rfl rfl) fun _=>?_;rw [←Y3,GC _ _ _ (by rw [Xd])];(refine ZM (fun i=>([]:List Nat).elem i) [3] kR ?_<;>(refine yD 0 32 rfl (Zu 3 Zs) fun v32 h=>?_;cases h)<;>(refine Zk 1 kR ?_)<;>(refine YH (d:=33) rfl (cA call90 Lc) fun v33 h=>?_;cases h)<;>(refine Zk 2 kR ?_)<;>(refine Zg rfl fun w9 M9 N9 DQ back=>?_)<;>(refine JR (kk:=3) (xs:=[_,_]) (cs:=[[_,_,_],[_,_,_]]) 34 WP fun h34 ho34=>?_;refine ZJ (En.freeze (l:=34) (t:=34) rfl rfl) fun _=>?_;refine ZJ (JA (t:=34) (p':=Y4 [Y5 4 (l.map lf),sil]) rfl (Eq.trans (show _=PV.sl 2 ([Y5 4 (l.map lf),sil].flatMap cN) from rfl) (LI (Y5 4 (l.map lf)) sil))) fun _=>?_)<;>refine Ze (back _ (nrm ?_))<;>refine xE 3 35 rfl (ZO YC) ?_<;>(refine Zk 4 kR ?_)<;>(refine Zg rfl fun w9 M9 N9 DQ back=>?_)<;>refine Zw 2 Zs ?_<;>refine Ze (back _ (nrm ?_))<;>refine Ym kR (nav ?_)<;>try dsimp only)
 refine YK (k:=3) 2 kR (results34) rfl rfl (Xa rfl) dC rfl ?_;rw [Dg oM];rfl))
theorem Jg:AggT prog 136 3=true:=by kernel_rfl
theorem ZaQ:ElT prog 190 31 1 24 (.slice none 0 0):=⟨underlying190,by kernel_rfl,rfl,dC⟩
theorem Wm:ElT prog 26 9 1 16 (.string ByteArray.empty):=⟨underlying26,by kernel_rfl,rfl,dC⟩
theorem WF:ElT prog 90 3 1 8 (.int .i64 0):=⟨underlying90,by kernel_rfl,rfl,dC⟩
theorem KR:FldT prog 136 0 0=true:=by kernel_rfl
theorem KS:FldT prog 136 1 1=true:=by kernel_rfl
theorem EZ:FldT prog 136 2 2=true:=by kernel_rfl
theorem Kn:FldT prog 169 0 0=true:=by kernel_rfl
theorem E0:FldT prog 169 1 1=true:=by kernel_rfl
theorem Ge:FldT prog 34 0 0=true:=by kernel_rfl
theorem TJ:FldT prog 34 1 1=true:=by kernel_rfl
theorem TK:FldT prog 34 2 2=true:=by kernel_rfl
theorem Jh:FldT prog 34 3 3=true:=by kernel_rfl
theorem WQ:NoAgg prog 31=true:=by kernel_rfl
theorem GF:NoAgg prog 32=true:=by kernel_rfl
theorem Di:SlT prog 190 31 1=true:=by kernel_rfl
theorem LL:SlT prog 32 136 3=true:=by kernel_rfl
theorem Dj:ZeroT prog 136 (.agg #[(.string ByteArray.empty),(.string ByteArray.empty),(.int .i64 0)]):=by unfold ZeroT;kernel_rfl
theorem GY:ZeroT prog 169 (.agg #[(.string ByteArray.empty),(.int .i64 0)]):=by unfold ZeroT;kernel_rfl
def cnames (l:List Cnt):List ByteArray:=l.map (·.name)
def Wp (n:Int):Bool:=decide (1≤n)&&decide (n≤4503599627370496)
def Dk (l all:List ByteArray):Bool:=chainB strLt l&&l.all (hasStr all)
def WG (a b:Flw):Int:=if ZS a.src b.src=0 then ZS a.dst b.dst else ZS a.src b.src
def LM (acts:List ByteArray) (f:Flw):Bool:=Wp f.n&&hasStr acts f.src&&hasStr acts f.dst
def flwLt (a b:Flw):Bool:=decide (WG a b<0)
def Gq (g:Dfg):Bool:=WJ (cnames g.acts)&&Dk (cnames g.starts) (cnames g.acts)&&Dk (cnames g.ends) (cnames g.acts)&&g.acts.all (fun c=>Wp c.n)&&g.starts.all (fun c=>Wp c.n)&&g.ends.all (fun c=>Wp c.n)&&g.follows.all (LM (cnames g.acts))&&chainB flwLt g.follows
def ZaR (l:List Cnt):Prop:=l.length≤140737488355328∧∀c∈l,c.name.size≤140737488355328∧-9223372036854775808≤c.n∧c.n≤9223372036854775807
def ZjJ (l:List Flw):Prop:=l.length≤140737488355328∧∀c∈l,c.src.size≤140737488355328∧c.dst.size≤140737488355328∧-9223372036854775808≤c.n∧c.n≤9223372036854775807
def ZjK (g:Dfg):Prop:=ZaR g.acts∧ZaR g.starts∧ZaR g.ends∧ZjJ g.follows
theorem GZ (e n:Nat) (l:List ByteArray):share (.own e 1 n (l.map ZD))= .sl n (l.map ZD):=by
 rw [share,Z7,Xt];rfl
theorem TL {l:List Cnt} {k:Nat} {x:Cnt} (h:l[k]? =some x):cnames (l.take (k+1))=cnames (l.take k)++[x.name]:=by
 unfold cnames;rw [ZW h,X1];rfl
theorem Dl (l:List Cnt) (hl0:l.length≤1000000):AF prog 142 [JI l] (· =ZT (cnames l)):=by
 refine AF.of_body 19 func142 rfl ntmps142 (Xa rfl) ?_
 intro w0 M0 vs hl hv
 obtain ⟨v0,rfl⟩:=YG hl
 clear hl hv
 refine Zd ?_
 (refine xL 2 Zb ?_<;>refine Zi ?_)
 (refine xL 3 Zb ?_<;>refine Zi ?_)
 (refine xL 6 Za (xL 7 (ZF WB) (xL 8 Za ?_))<;>refine Zc ?_)
 refine ZE (W3 200 9 1 rfl) fun _=>?_
 refine Zy (ι:={x:Nat×Value//x.1≤l.length}) (fun k=>⟨[(6,_,_),(7,_,_),(3,k.1.2, .val k.1.2),(8, .int .i64 k.1.1,Zf k.1.1)],[(200,k.1.2, .own 9 1 k.1.1 ((cnames (l.take k.1.1)).map ZD))]⟩) (fun k=>l.length-k.1.1) ⟨(0, .slice none 0 0),oM⟩ (fun a w H=>H.weaken ⟨rfl,rfl,rfl,rfl,trivial⟩ ⟨rfl,trivial⟩) ?_
 rintro ⟨⟨k,h3⟩,hk⟩
 dsimp only
 dsimp only at hk
 refine Zd ?_
 (refine xL 9 ZI ?_<;>refine Zc ?_)
 refine cX ?_ ?_<;>intro hb9
 · first|exact bN hb9|(
 obtain ⟨x,hx⟩:=Zm (show k<l.length by omega);have e1:=Yz Kf l k x hx;have e2:=YT Kf hx;(have e3:((cnames (l.take k)).map ZD).length=k:=by simp [cnames];omega);refine Zd ?_;(refine xL 10 (Zv WB) ?_<;>(refine yL 11 (Wl Wh) fun v11 h=>?_;cases h)<;>refine ZA [(.string ByteArray.empty),(.int .i64 0)] 2 5 GY fun h5=>?_<;>refine Zw 5 Wh ?_<;>refine Zi ?_)
 (refine xL 12 Za (xL 13 (Zn 5 Kn) ?_)<;>(refine yL 14 (Zr 5 ZP) fun v14 h=>?_;cases h)<;>refine W4 (kk:=1) 15 Wm fun h15 ho15=>?_<;>refine Kd 200 15 16 Wm fun h16 ho16=>?_<;>refine xL 3 Zb ?_<;>refine Zi ?_)
 (refine xL 17 ZH (xL 8 Za ?_)<;>refine Zc ?_)
 refine Yh (Z5 (l:=16) 200 rfl rfl) fun _=>?_;rw [show (cnames (l.take k)).map ZD++[ZD x.name]=(cnames (l.take (k+1))).map ZD by rw [TL hx,X1];rfl];refine Zh (
  ⟨(k+1,h16),by show k+1≤l.length;omega⟩
  ) (by dsimp only;omega) ⟨rfl,rfl,rfl,rfl,trivial⟩ ⟨rfl,trivial⟩)
 · first|exact bN hb9|(
 refine Zd ?_;(refine xL 18 Za (xL 2 Zb ?_)<;>refine Zc ?_)
 refine YP (En.freeze (l:=200) (t:=2) rfl rfl) fun _=>?_;refine Zl (results142) rfl ?_;obtain rfl:k=l.length:=oM;rw [XI,GZ];unfold ZT cnames;rw [Xd])
theorem Dm (l all:List ByteArray):AF prog 143 [ZT l,ZT all] (· =ZB (Dk l all)):=by
 refine AF.of_body 32 func143 rfl ntmps143 (Xa rfl) ?_
 intro w0 M0 vs hl hv
 obtain ⟨v0,v1,rfl⟩:=W7 hl
 clear hl hv
 refine Y2 0 rfl fun hlen=>?_
 refine Zd ?_
 (refine xL 4 Zb ?_<;>refine Zi ?_)
 (refine xL 7 Za (xL 8 (ZF Zx) (xL 9 Za ?_))<;>refine Zc ?_)
 refine Zy (ι:={k:Nat//k≤l.length∧∀j x,j<k→l[j]? =some x→hasStr all x=true∧∀y,1≤j→l[j-1]? =some y→strLt y x=true}) (fun k=>⟨[(0,_,_),(1,_,_),(7,_,_),(8,_,_),(9, .int .i64 k.1,Zf k.1)],[]⟩) (fun k=>l.length-k.1) ⟨0,oM,oM⟩ (fun a w H=>H.weaken ⟨rfl,rfl,rfl,rfl,rfl,trivial⟩ trivial) ?_
 rintro ⟨k,hk,hp⟩
 dsimp only
 refine Zd ?_
 (refine xL 10 ZI ?_<;>refine Zc ?_)
 refine cX ?_ ?_<;>intro hb10
 · first | exact bN hb10|(
 obtain ⟨x,hx⟩:=Zm (show k<l.length by omega);obtain ⟨y,hy⟩:=Zm (show k-1<l.length by omega);have e1:=Yq (f:=ZD) hx;(have e2:(l.map ZD)[((k:Int)-1).toNat*1]? =some (ZD y):=by rw [show ((k:Int)-1).toNat*1=k-1 by omega];exact (by rw [Xm,hy];rfl));refine Zd ?_;(refine xL 11 Za (xL 12 (Zv Zx) ?_)<;>(refine yL 13 (ZN ZP) fun v13 h=>?_;cases h)<;>refine xL 5 Zb (xL 6 Zb ?_)<;>refine Zi ?_)
 (refine xL 14 Za (xL 15 YV (xL 16 Za ?_))<;>(refine bLd 16 (fun hb16=>?_) (fun hb16=>?_)<;>(first|refine kL 17 ?_|refine xL 17 Za ?_))<;>(first|refine kL 18 ?_|refine xL 18 Za ?_)<;>(first|refine kL 19 ?_|refine xL 19 KD ?_)<;>(first|refine kL 20 ?_|refine xL 20 (Ts Zx) ?_)<;>(first|refine kL 21 ?_|(refine yL 21 (ZN ZP) fun v21 h=>?_;cases h))<;>(first|refine kL 22 ?_|refine xL 22 Za ?_)<;>(first|refine kL 23 ?_|refine xL 23 EH ?_)<;>refine xL 24 Zt (xL 25 Za ?_)<;>(first|refine xL 26 Za ?_|(refine bL 25 (fun hb25=>?_) (fun hb25=>?_)<;>(first|refine kL 26 ?_|refine xL 26 Za ?_)))<;>(first|refine kL 27 ?_|refine xL 27 Za ?_)<;>(first|refine kL 28 ?_|(refine cS 28 (cA call73 (GQ all x)) fun v28 h=>?_;cases h))<;>(first|refine kL 29 ?_|refine xL 29 Yd ?_)<;>refine xL 30 Zt ?_<;>refine Zc ?_)<;>(
 refine cX ?_ ?_<;>intro hb30
 · first|exact bN hb30|(
 refine Zd ?_;(refine xL 4 Zb ?_<;>refine Zc ?_)
 refine Zl (results143) rfl ?_;unfold Dk
 first
  |rw [G5 oM hy hx (by simpa [strLt] using hb25)];rfl
  |rw [Ly hx (by simpa using hb30)];simp)
 · first |exact bN hb30|(
 refine Zd ?_;(refine xL 31 ZH (xL 9 Za ?_)<;>refine Zc ?_)
 refine Zh (
  ⟨k +1,oM,fun j z hj hz=>by
   by_cases e:j=k
   · subst e;rw [hx] at hz;cases hz;refine ⟨by simpa using hb30,fun y' h1 hy'=>?_⟩;rw [hy] at hy';cases hy'
     first|omega|simpa [strLt] using hb25
   · exact hp j z oM hz⟩
  ) (by dsimp only;omega) ⟨rfl,rfl,rfl,rfl,rfl,trivial⟩ trivial)))
 · first|exact bN hb10|(
 refine Zd ?_;(refine xL 4 Zb ?_<;>refine Zc ?_)
 refine Zl (results143) rfl ?_;have h1:l.all (hasStr all)=true:=Og fun j x hj=>(hp j x (by have:=Zj hj;omega) hj).1;have h2:chainB strLt l=true:=GP fun j x y h1 hy hx=>(hp j x (by have:=Zj hx;omega) hx).2 y h1 hy;unfold Dk;rw [h1,h2];rfl)
def Wu:List Int→Int
 |[]=>0
 |x::l=>if x=0 then Wu l else x
theorem Zh8 (l:List Int):AF prog 141 [pInts l] (· =Zf (Wu l)):=by
 refine AF.of_body 18 func141 rfl ntmps141 (Xa rfl) ?_
 intro w0 M0 vs hl hv
 obtain ⟨v0,rfl⟩:=YG hl
 clear hl hv
 refine Y2 0 rfl fun hlen=>?_
 refine Zd ?_
 (refine xL 2 Zb ?_<;>refine Zi ?_)
 (refine xL 3 Zb ?_<;>refine Zi ?_)
 (refine xL 6 Za (xL 7 (ZF Yb) (xL 8 Za ?_))<;>refine Zc ?_)
 refine Zy (ι:={k:Nat//k≤l.length∧Wu l=Wu (l.drop k)}) (fun k=>⟨[(3,_,_),(6,_,_),(7,_,_),(8, .int .i64 k.1,Zf k.1)],[]⟩) (fun k=>l.length-k.1) ⟨0,oM,rfl⟩ (fun a w H=>H.weaken ⟨rfl,rfl,rfl,rfl,trivial⟩ trivial) ?_
 rintro ⟨k,hk,hp⟩
 dsimp only
 refine Zd ?_
 (refine xL 9 ZI ?_<;>refine Zc ?_)
 refine cX ?_ ?_<;>intro hb9
 · first |exact bN hb9|(
 obtain ⟨x,hx⟩:=Zm (show k<l.length by omega);have e1:=Yq (f:=Zf) hx;(have hs:Wu (l.drop k)=if x=0 then Wu (l.drop (k+1)) else x:=by rw [Ws hx,Wu]);refine Zd ?_;(refine xL 10 (Zv Yb) ?_<;>(refine yL 11 (ZN Ya) fun v11 h=>?_;cases h)<;>refine xL 5 Zb ?_<;>refine Zi ?_)
 (refine xL 12 Za (xL 13 Za (xL 14 Wg ?_))<;>refine Zc ?_)
 refine cX ?_ ?_<;>intro hb14
 · first|exact bN hb14|(
 refine Zd ?_;(refine xL 15 Za (xL 2 Zb ?_)<;>refine Zc ?_)
 refine Zl (results141) rfl ?_;rw [hp,hs,UA hb14])
 · first|exact bN hb14|(
 refine Zd ?_;(refine xL 16 ZH (xL 8 Za ?_)<;>refine Zc ?_)
 refine Zh (
  ⟨k+1,oM,by rw [hp,hs,UB (by simpa using hb14)]⟩
  ) (by dsimp only;omega) ⟨rfl,rfl,rfl,rfl,trivial⟩ trivial))
 · first|exact bN hb9|(
 refine Zd ?_;(refine xL 17 Za (xL 2 Zb ?_)<;>refine Zc ?_)
 refine Zl (results141) rfl ?_;rw [hp,XH oM];rfl)
theorem ZaS (a b:Flw):AF prog 102 [.agg (RU a), .agg (RU b)] (· =Zf (WG a b)):=by
 refine AF.of_body 17 func102 rfl ntmps102 (Xa rfl) ?_
 intro w0 M0 vs hl hv
 obtain ⟨v0,v1,rfl⟩:=W7 hl
 clear hl hv
 refine Zd ?_
 (refine Yi 2 3 fun h2=>?_<;>refine Yi 3 3 fun h3=>?_<;>refine xL 4 Zb ?_<;>refine Zc ?_)
 (refine ZM (fun i=>([]:List Nat).elem i) [2,3] kR ?_<;>refine xD 0 5 rfl (Zn 2 KR) ?_<;>(refine yD 1 6 rfl (Zr 2 ZP) fun v6 h=>?_;cases h)<;>refine xD 2 7 rfl (Zn 3 KR) ?_<;>(refine yD 3 8 rfl (Zr 3 ZP) fun v8 h=>?_;cases h)<;>refine xD 5 10 rfl (Zn 2 KS) ?_<;>(refine yD 6 11 rfl (Zr 2 ZP) fun v11 h=>?_;cases h)<;>refine xD 7 12 rfl (Zn 3 KS) ?_<;>(refine yD 8 13 rfl (Zr 3 ZP) fun v13 h=>?_;cases h)<;>(refine Zk 4 kR ?_)<;>(refine Zg rfl fun w9 M9 N9 DQ back=>?_)<;>(refine cS 9 (cA call137 (TB a.src b.src)) fun v9 h=>?_;cases h)<;>refine Ze (back _ (nrm ?_))<;>(refine Zk 9 kR ?_)<;>(refine Zg rfl fun w9 M9 N9 DQ back=>?_)<;>(refine cS 14 (cA call137 (TB a.dst b.dst)) fun v14 h=>?_;cases h)<;>refine Ze (back _ (nrm ?_))<;>(refine Zk 10 kR ?_)<;>(refine Zg rfl fun w9 M9 N9 DQ back=>?_)<;>refine L4 (xs:=[_,_]) 15 WF fun h15 ho15=>?_<;>refine Ze (back _ (nrm ?_))<;>(refine Zk 11 kR ?_)<;>(refine Zg rfl fun w9 M9 N9 DQ back=>?_)<;>(refine ZJ (En.freeze (l:=15) (t:=15) rfl rfl) fun _=>?_;refine cS 16 (cA call141 (Zh8 [ZS a.src b.src,ZS a.dst b.dst])) fun v16 h=>?_;cases h)<;>refine Ze (back _ (nrm ?_))<;>refine xE 12 4 rfl Zb ?_<;>refine Ym kR (nav ?_)<;>try dsimp only)
 refine Zl (results102) rfl ?_
 unfold WG Wu Wu Wu
 by_cases h:ZS a.src b.src=0
 · rw [UB h,UB h];split<;>simp_all
 · rw [UA h,UA h]
theorem Dn (n:Int):AF prog 146 [Zf n] (· =ZB (Wp n)):=by
 refine AF.of_body 9 func146 rfl ntmps146 (Xa rfl) ?_
 intro w0 M0 vs hl hv
 obtain ⟨v0,rfl⟩:=YG hl
 obtain rfl:=hv 0 _ _ rfl rfl
 clear hl hv
 refine Zd ?_
 (refine xL 2 Zb ?_<;>refine Zi ?_)
 (refine xL 3 Za (xL 4 Kj (xL 5 Za ?_))<;>(refine bLd 5 (fun hb5=>?_) (fun hb5=>?_)<;>(first|refine kL 6 ?_|refine xL 6 Za ?_))<;>(first|refine kL 7 ?_|refine xL 7 Tq ?_)<;>refine xL 8 Zt (xL 2 Zb ?_)<;>refine Zc ?_)<;>(
 refine Zl (results146) rfl (Lw ?_);simp only [Wp,Xe,Ux,true_iff,false_iff,Vo]<;>omega)
theorem ZdO (c:Cnt):AF prog 145 [.agg (RS c)] (· =ZB (!Wp c.n)):=by
 refine AF.of_body 7 func145 rfl ntmps145 (Xa rfl) ?_
 intro w0 M0 vs hl hv
 obtain ⟨v0,rfl⟩:=YG hl
 clear hl hv
 refine Zd ?_
 (refine Yi 1 2 fun h1=>?_<;>refine xL 2 Zb ?_<;>refine Zi ?_)
 (refine xL 3 (Zn 1 E0) ?_<;>(refine yL 4 (Zr 1 Ya) fun v4 h=>?_;cases h)<;>(refine cS 5 (cA call146 (Dn c.n)) fun v5 h=>?_;cases h)<;>refine xL 6 Yd (xL 2 Zb ?_)<;>refine Zc ?_)
 exact Zl results145 rfl rfl
theorem Ll {g:Dfg} (h:WJ (cnames g.acts)=false∨Dk (cnames g.starts) (cnames g.acts)=false∨Dk (cnames g.ends) (cnames g.acts)=false∨g.acts.all (fun c=>Wp c.n)=false∨g.starts.all (fun c=>Wp c.n)=false∨g.ends.all (fun c=>Wp c.n)=false∨g.follows.all (LM (cnames g.acts))=false∨chainB flwLt g.follows=false):Gq g=false:=by
 unfold Gq
 rcases h with h|h|h|h|h|h|h|h<;>rw [h]<;>simp
theorem Zcj {α:Type} {p:α→Bool} {l:List α}:(l.any fun c=> !p c)= !l.all p:=by
 induction l with
 |nil=>rfl
 |cons x l ih=>rw [List.any_cons,V',ih,Bool.not_and]
theorem Zgf (g : Dfg) (hf:ZjK g) (ha:g.acts.length≤1000000) (hs:g.starts.length≤1000000) (he:g.ends.length≤1000000):AF prog 103 [KZ g] (· =ZB (Gq g)):=by
 refine AF.of_body 87 func103 rfl ntmps103 (Xa rfl) ?_
 intro w0 M0 vs hl hv
 obtain ⟨v0,rfl⟩:=YG hl
 clear hl hv
 refine Zd ?_
 (refine Yi 1 4 fun h1=>?_<;>refine xL 2 Zb ?_<;>refine Zi ?_)
 (refine xL 8 (Zn 1 Ge) ?_<;>(refine yL 9 (Zr 1 WQ) fun v9 h=>?_;cases h)<;>(refine cS 10 (cA call142 (Dl g.acts ha)) fun v10 h=>?_;cases h)<;>refine xL 3 Zb ?_<;>refine Zi ?_)
 (refine xL 11 Za ?_<;>(refine cS 12 (cA call86 (OM (cnames g.acts) (fun s hs=>by obtain ⟨c,hc,rfl⟩:=Xr.1 hs;exact (hf.1.2 c hc).1))) fun v12 h=>?_;cases h)<;>refine xL 13 Yd (xL 14 Za ?_)<;>(refine bL 14 (fun hb14=>?_) (fun hb14=>?_)<;>(first|refine kL 15 ?_|refine xL 15 (Zn 1 TJ) ?_))<;>(first|refine kL 16 ?_|(refine yL 16 (Zr 1 WQ) fun v16 h=>?_;cases h))<;>(first|refine kL 17 ?_|(refine cS 17 (cA call142 (Dl g.starts hs)) fun v17 h=>?_;cases h))<;>(first|refine kL 18 ?_|refine xL 18 Za ?_)<;>(first|refine kL 19 ?_|(refine cS 19 (cA call143 (Dm (cnames g.starts) (cnames g.acts))) fun v19 h=>?_;cases h))<;>(first|refine kL 20 ?_|refine xL 20 Yd ?_)<;>refine xL 21 Zt (xL 22 Za ?_)<;>(first|refine kL 23 ?_|(refine bL 22 (fun hb22=>?_) (fun hb22=>?_)<;>(first|refine kL 23 ?_|refine xL 23 (Zn 1 TK) ?_)))<;>(first|refine kL 24 ?_|(refine yL 24 (Zr 1 WQ) fun v24 h=>?_;cases h))<;>(first|refine kL 25 ?_|(refine cS 25 (cA call142 (Dl g.ends he)) fun v25 h=>?_;cases h))<;>(first|refine kL 26 ?_|refine xL 26 Za ?_)<;>(first|refine kL 27 ?_|(refine cS 27 (cA call143 (Dm (cnames g.ends) (cnames g.acts))) fun v27 h=>?_;cases h))<;>(first|refine kL 28 ?_|refine xL 28 Yd ?_)<;>refine xL 29 Zt ?_<;>refine Zc ?_)<;>(
 refine cX ?_ ?_<;>intro hb29
 · first|exact bN hb29|(
 refine Zd ?_;(refine xL 2 Zb ?_<;>refine Zc ?_)
 refine Zl (results103) rfl ?_
 first
  |rw [Ll (.inl (by simpa using hb14))]
  |rw [Ll (.inr (.inl (by simpa using hb22)))]
  |rw [Ll (.inr (.inr (.inl (by simpa using hb29))))])
 · first | exact bN hb29|(
 refine Zd ?_;(refine xL 30 (Zn 1 Ge) ?_<;>(refine yL 31 (Zr 1 WQ) fun v31 h=>?_;cases h)<;>refine xL 32 (Zn 1 TJ) ?_<;>(refine yL 33 (Zr 1 WQ) fun v33 h=>?_;cases h)<;>refine xL 34 (Zn 1 TK) ?_<;>(refine yL 35 (Zr 1 WQ) fun v35 h=>?_;cases h)<;>refine L4 (xs:=[_,_,_]) 36 ZaQ fun h36 ho36=>?_<;>refine xL 37 (Y7 36 Di) (xL 38 Za ?_)<;>refine Zc ?_)
 (have h1:WJ (cnames g.acts)=true:=by simpa using hb14);(have h2:Dk (cnames g.starts) (cnames g.acts)=true:=by simpa using hb22);(have h3:Dk (cnames g.ends) (cnames g.acts)=true:=by simpa using hb29);refine Zy (ι:={k:Nat//k≤3∧∀j x,j<k→[g.acts,g.starts,g.ends][j]? =some x→x.all (fun c=>Wp c.n)=true}) (fun k=>⟨[(1,_,_),(3,_,_),(36,_,_),(37,_,_),(38, .int .i64 k.1,Zf k.1)],[(1,_,_),(36,_,_)]⟩) (fun k=>3-k.1) ⟨0,oM,oM⟩ (fun a w H=>H.weaken ⟨rfl,rfl,rfl,rfl,rfl,trivial⟩ ⟨rfl,rfl,trivial⟩) ?_;rintro ⟨k,hk,hp⟩;dsimp only;refine Zd ?_;(refine xL 39 ZI ?_<;>refine Zc ?_)
 refine cX ?_ ?_<;>intro hb39
 · first |exact bN hb39|(
 obtain ⟨x,hx⟩:=Zm (l:=[g.acts,g.starts,g.ends]) (i:=k) (by show k<3;omega);have e1:([JI g.acts,JI g.starts,JI g.ends]:List PV)[k*1]? =some (JI x):=Yq (f:=JI) hx;refine Zd ?_;(refine xL 40 (Zq 36 Di) ?_<;>(refine yL 41 (Zr 36 WQ) fun v41 h=>?_;cases h)<;>refine xL 5 Zb ?_<;>refine Zi ?_)
 (refine xL 42 Za ?_<;>(refine cS 43 (cA call144 (Sp 145 [] (fun c=> !Wp c.n) x (call145) (fun c _=>ZdO c))) fun v43 h=>?_;cases h)<;>refine Zc ?_)
 refine cX ?_ ?_<;>intro hb43
 · first|exact bN hb43|(
 refine Zd ?_;(refine xL 2 Zb ?_<;>refine Zc ?_)
 refine Zl (results103) rfl ?_;rw [Zcj,Bool.not_eq_true'] at hb43;match k,hk,hx with
 |0,_,hx=>cases hx;rw [Ll (.inr (.inr (.inr (.inl hb43))))]
 |1,_,hx=>cases hx;rw [Ll (.inr (.inr (.inr (.inr (.inl hb43)))))]
 |2,_,hx=>cases hx;rw [Ll (.inr (.inr (.inr (.inr (.inr (.inl hb43))))))]
 |k+3,hk,hx=>omega)
 · first|exact bN hb43|(
 refine Zd ?_;(refine xL 44 ZH (xL 38 Za ?_)<;>refine Zc ?_)
 refine Zh (
  ⟨k+1,oM,fun j z hj hz=>by
   by_cases e:j=k
   · subst e;rw [hx] at hz;cases hz;rw [Zcj] at hb43;simpa using hb43
   · exact hp j z oM hz⟩
  ) (by dsimp only;omega) ⟨rfl,rfl,rfl,rfl,rfl,trivial⟩ ⟨rfl,rfl,trivial⟩))
 · first | exact bN hb39|(
 refine Zd ?_;(refine xL 45 (Zn 1 Jh) ?_<;>(refine yL 46 (Zr 1 GF) fun v46 h=>?_;cases h)<;>refine xL 47 (ZF LL) (xL 48 Za ?_)<;>refine Zc ?_)
 obtain rfl:k=3:=oM;have h4:=hp 0 g.acts oM rfl;have h5:=hp 1 g.starts oM rfl;have h6:=hp 2 g.ends oM rfl;clear hp;refine Zy (ι:={k:Nat//k≤g.follows.length∧∀j x,j<k→g.follows[j]? =some x→LM (cnames g.acts) x=true∧∀y,1≤j→g.follows[j-1]? =some y→flwLt y x=true}) (fun k=>⟨[(1,_,_),(3,_,_),(46,_,_),(47,_,_),(48, .int .i64 k.1,Zf k.1)],[(1,_,_)]⟩) (fun k=>g.follows.length-k.1) ⟨0,oM,oM⟩ (fun a w H=>H.weaken ⟨rfl,rfl,rfl,rfl,rfl,trivial⟩ ⟨rfl,trivial⟩) ?_;rintro ⟨k,hk,hp⟩;dsimp only;refine Zd ?_;(refine xL 49 ZI ?_<;>refine Zc ?_)
 refine cX ?_ ?_<;>intro hb49
 · first | exact bN hb49|(
 obtain ⟨x,hx⟩:=Zm (show k<g.follows.length by omega);obtain ⟨y,hy⟩:=Zm (show k-1<g.follows.length by omega);have e1:=Yz GV g.follows k x hx;have e2:=YT GV hx;(have e3:((g.follows.flatMap RU).drop (((k:Int)-1).toNat*3)).take 3=RU y:=by rw [show ((k:Int)-1).toNat*3=(k-1)*3 by omega];exact Yz GV g.follows (k-1) y hy);have e4:=YT GV hy;have hlf:=hf.2.2.2.1;refine Zd ?_;(refine xL 50 Za (xL 51 (Zv LL) ?_)<;>(refine yL 52 (Wl Jg) fun v52 h=>?_;cases h)<;>refine ZA [(.string ByteArray.empty),(.string ByteArray.empty),(.int .i64 0)] 3 7 Dj fun h7=>?_<;>refine xL 6 Zb ?_<;>refine Zw 7 Jg ?_<;>refine Zc ?_)
 (refine ZM (fun i=>([]:List Nat).elem i) [1,7] kR ?_<;>refine xE 0 53 rfl (Zn 7 EZ) ?_<;>(refine yE 1 54 rfl (Zr 7 Ya) fun v54 h=>?_;cases h)<;>(refine Zk 2 kR ?_)<;>(refine Zg rfl fun w9 M9 N9 DQ back=>?_)<;>(refine cS 55 (cA call146 (Dn x.n)) fun v55 h=>?_;cases h)<;>refine Ze (back _ (nrm ?_))<;>refine xE 3 56 rfl Yd ?_<;>refine xE 4 57 rfl Za ?_<;>(refine bD 57 (fun hb57=>?_) (fun hb57=>?_)<;>(first|refine kD 5 58 rfl ?_|refine xD 5 58 rfl Za ?_))<;>(first|refine kD 6 59 rfl ?_|refine xD 6 59 rfl YV ?_)<;>(first|refine kD 7 60 rfl ?_|refine xD 7 60 rfl Za ?_)<;>(first|refine kD 8 61 rfl ?_|(refine bDd 60 (fun hb60=>?_) (fun hb60=>?_)<;>(first|refine kD 8 61 rfl ?_|refine xD 8 61 rfl (Zn 1 Jh) ?_)))<;>(first|refine kD 9 62 rfl ?_|(refine yD 9 62 rfl (Zr 1 GF) fun v62 h=>?_;cases h))<;>(first|refine kD 10 63 rfl ?_|refine xD 10 63 rfl Za ?_)<;>(first|refine kD 11 64 rfl ?_|refine xD 11 64 rfl KD ?_)<;>(first|refine kD 12 65 rfl ?_|refine xD 12 65 rfl (Ts LL) ?_)<;>(first|refine kD 13 66 rfl ?_|(refine yD 13 66 rfl (Wl Jg) fun v66 h=>?_;cases h))<;>(first|refine kD 14 67 rfl ?_|(refine yD 14 67 rfl (Zu 7 Jg) fun v67 h=>?_;cases h))<;>(refine Zk 15 kR ?_)<;>(refine Zg rfl fun w9 M9 N9 DQ back=>?_)<;>(first|refine kL 68 ?_|(refine cS 68 (cA call102 (ZaS y x)) fun v68 h=>?_;cases h))<;>refine Ze (back _ (nrm ?_))<;>(first|refine kD 16 69 rfl ?_|refine xD 16 69 rfl Kj ?_)<;>(first|refine kD 17 70 rfl ?_|refine xD 17 70 rfl Zt ?_)<;>refine xE 18 71 rfl Zt ?_<;>refine xE 19 72 rfl Za ?_<;>(first|refine kD 20 73 rfl ?_|refine xD 20 73 rfl Za ?_|(refine bDd 72 (fun hb72=>?_) (fun hb72=>?_)<;>(first|refine kD 20 73 rfl ?_|refine xD 20 73 rfl Za ?_)))<;>(first|refine kD 21 74 rfl ?_|refine xD 21 74 rfl (Zn 7 KR) ?_)<;>(first|refine kD 22 75 rfl ?_|(refine yD 22 75 rfl (Zr 7 ZP) fun v75 h=>?_;cases h))<;>(refine Zk 23 kR ?_)<;>(refine Zg rfl fun w9 M9 N9 DQ back=>?_)<;>(first|refine kL 76 ?_|(refine cS 76 (cA call73 (GQ (cnames g.acts) x.src)) fun v76 h=>?_;cases h))<;>refine Ze (back _ (nrm ?_))<;>(first|refine kD 24 77 rfl ?_|refine xD 24 77 rfl Yd ?_)<;>refine xE 25 78 rfl Zt ?_<;>refine xE 26 79 rfl Za ?_<;>(first|refine kD 27 80 rfl ?_|(refine bD 79 (fun hb79=>?_) (fun hb79=>?_)<;>(first|refine kD 27 80 rfl ?_|refine xD 27 80 rfl Za ?_)))<;>(first|refine kD 28 81 rfl ?_|refine xD 28 81 rfl (Zn 7 KS) ?_)<;>(first|refine kD 29 82 rfl ?_|(refine yD 29 82 rfl (Zr 7 ZP) fun v82 h=>?_;cases h))<;>(refine Zk 30 kR ?_)<;>(refine Zg rfl fun w9 M9 N9 DQ back=>?_)<;>(first|refine kL 83 ?_|(refine cS 83 (cA call73 (GQ (cnames g.acts) x.dst)) fun v83 h=>?_;cases h))<;>refine Ze (back _ (nrm ?_))<;>(first|refine kD 31 84 rfl ?_|refine xD 31 84 rfl Yd ?_)<;>refine xE 32 85 rfl Zt ?_<;>refine Ym kR (nav ?_)<;>try dsimp only)<;>(
 refine cX ?_ ?_<;>intro hb85
 · first|exact bN hb85|(
 refine Zd ?_;(refine xL 2 Zb ?_<;>refine Zc ?_)
 refine Zl (results103) rfl ?_
 first
  |rw [Ll (.inr (.inr (.inr (.inr (.inr (.inr (.inl (Ly hx (show LM (cnames g.acts) x=false by unfold LM;rw [show Wp x.n=false by simpa using hb57];rfl)))))))))]
  |rw [Ll (.inr (.inr (.inr (.inr (.inr (.inr (.inr (G5 oM hy hx (show flwLt y x=false from Uz oM)))))))))]
  |rw [Ll (.inr (.inr (.inr (.inr (.inr (.inr (.inl (Ly hx (show LM (cnames g.acts) x=false by unfold LM;rw [show hasStr (cnames g.acts) x.src=false by simpa using hb79];simp)))))))))]
  |rw [Ll (.inr (.inr (.inr (.inr (.inr (.inr (.inl (Ly hx (show LM (cnames g.acts) x=false by unfold LM;rw [show hasStr (cnames g.acts) x.dst=false by simpa using hb85];simp)))))))))])
 · first |exact bN hb85|(
 refine Zd ?_;(refine xL 86 ZH (xL 48 Za ?_)<;>refine Zc ?_)
 refine Zh (
  ⟨k +1,oM,fun j z hj hz=>by
   by_cases e:j=k
   · subst e;rw [hx] at hz;cases hz;refine ⟨by unfold LM;rw [show Wp x.n=true by simpa using hb57,show hasStr (cnames g.acts) x.src=true by simpa using hb79,show hasStr (cnames g.acts) x.dst=true by simpa using hb85];rfl,fun y' h1 hy'=>?_⟩;rw [hy] at hy';cases hy'
     first|omega|exact Uy oM
   · exact hp j z oM hz⟩
  ) (by dsimp only;omega) ⟨rfl,rfl,rfl,rfl,rfl,trivial⟩ ⟨rfl,trivial⟩)))
 · first|exact bN hb49|(
 refine Zd ?_;(refine xL 2 Zb ?_<;>refine Zc ?_)
 refine Zl (results103) rfl ?_;have h7:g.follows.all (LM (cnames g.acts))=true:=Og fun j x hj=>(hp j x (by have:=Zj hj;omega) hj).1;have h8:chainB flwLt g.follows=true:=GP fun j x y h1 hy hx=>(hp j x (by have:=Zj hx;omega) hx).2 y h1 hy;unfold Gq;rw [h1,h2,h3,h4,h5,h6,h7,h8];rfl))))
end Go.Proofs.YtmkojdfiadbeeaaGreat
namespace Go.Cb
set_option linter.all false
theorem Rm {α:Type} {l:List α} {i:Nat} {x:α} (h:l[i]? =some x):l.set i x=l:=by
 obtain ⟨hi,rfl⟩:=Xl.1 h
 exact List.set_getElem_self hi
theorem PO {parts:List (List ByteArray)} {m:Nat}:∀(ws:List ByteArray) (ps:List Piece) (q:Piece),ps[m]? =some q→
 splitGo 1 parts false m ps ws=if (ws.any fun s=>partOf parts s !=m) then none else some (ps.set m ⟨q.part,q.word++ws⟩,(m:Int))
 | [],ps,q,h=>by
   rw [splitGo,List.any_nil,UA sM,Xu];rw [show (⟨q.part,q.word⟩:Piece)=q from rfl,Rm h]
 | s ::l,ps,q,h=>by
   rw [splitGo,List.any_cons];by_cases hp:partOf parts s=(m:Int)
   · have hm:m<ps.length:=(Xl.1 h).1;(have hb:Gp 1 false (partOf parts s) (m:Int)=false:=by unfold Gp;rw [hp];simp);(have hn:(partOf parts s !=(m:Int))=false:=by rw [hp];simp);rw [hb,hn,hp,XL,JN h,UA sM,PO l _ ⟨q.part,q.word++[s]⟩ (by rw [Xs hm]),XK];simp
   · (have hn:(partOf parts s !=(m:Int))=true:=by simpa using hp);(have hb:Gp 1 false (partOf parts s) (m:Int)=true:=by unfold Gp;rw [hn];rfl);rw [hb,hn];rfl
theorem ζm {c:Cut} {s:ByteArray} {l:List ByteArray} (hk:c.kind=1) (hs:0≤partOf c.parts s):
 Y1 c (s::l)=if ((s::l).any fun t=>partOf c.parts t !=partOf c.parts s) then none else some [⟨partOf c.parts s,s::l⟩]:=by
 obtain ⟨m,hm⟩:∃m:Nat,partOf c.parts s=m:=⟨(partOf c.parts s).toNat,oM⟩
 have hlt:m<c.parts.length:=by have:=RG c.parts s;omega
 have h0:(initPs c.parts.length)[m]? =some ⟨(m:Int),[]⟩:=by simp [initPs,hlt]
 unfold Y1
 rw [UA oM,hk,splitGo]
 have hb:Gp 1 true (partOf c.parts s) 0=false:=by unfold Gp;simp
 rw [hb,UA sM,hm,XL,JN h0,PO l _ ⟨(m:Int),[]++[s]⟩ (by rw [Xs (by rw [LW];exact hlt)]),List.any_cons,hm]
 rw [show ((m:Int)!=(m:Int))=false by simp,V9]
 cases l.any fun t=>partOf c.parts t !=(m:Int)
 · simp only [Vo,if_false,if_true,XK];rw [UA sM,XL];congr 1;have hg:((initPs c.parts.length).set m ⟨(m:Int),[]++[s]++l⟩)[m]? =some ⟨(m:Int),[]++[s]++l⟩:=by rw [Xs (by rw [LW];exact hlt)]
   rw [Ws hg];rfl
 · rfl
theorem P7 {c:Cut} (hk:c.kind=1):Y1 c []=none:=by
 unfold Y1
 rw [UA oM,hk,splitGo]
 rfl
def Yy (ps:List Piece):List Piece:=ps.map fun q=>(⟨0,q.word⟩:Piece)
theorem SG (ps:List Piece):(Yy ps).length=ps.length:=by simp [Yy]
theorem R7 {ps:List Piece} {i:Nat} {q:Piece} (h:ps[i]? =some q):(Yy ps)[i]? =some ⟨0,q.word⟩:=by simp [Yy,h]
theorem SH {ps:List Piece} {i:Nat} {q:Piece} (s:ByteArray) (h:ps[i]? =some q):(Yy ps).set i ⟨0,q.word++[s]⟩=Yy (W6 ps i s):=by
 rw [JN h]
 unfold Yy
 rw [List.map_set]
theorem ζn (n:Nat):Yy (initPs n)=List.replicate n ⟨0,[]⟩:=by
 unfold Yy initPs
 rw [Xt]
 apply List.ext_getElem
 · simp
 · intro i h1 h2;simp
def InPlace (ps:List Piece):Prop:=∀(i:Nat) (q:Piece),ps[i]? =some q→q.part=(i:Int)
theorem E1 (n:Nat):InPlace (initPs n):=fun i q h=>by
 obtain ⟨hi,rfl⟩:=Xl.1 h
 simp [initPs]
theorem InPlace.add {ps:List Piece} (h:InPlace ps) (i:Nat) (s:ByteArray):InPlace (W6 ps i s):=fun j q hq=>by
 unfold W6 at hq
 split at hq
 · rename_i p hp;by_cases hji:j=i
   · subst hji;have hl:=(Xl.1 hp).1;rw [Xs hl] at hq
     cases hq;exact h j p hp
   · rw [X0 (Ne.symm hji)] at hq;exact h j q hq
 · exact h j q hq
theorem ZdP {ps:List Piece} (h:InPlace ps) {j:Nat} {q:Piece} (hq:ps[j]? =some q):(ps.take j++(Yy ps).drop j).set j ⟨(j:Int),q.word⟩=ps.take (j+1)++(Yy ps).drop (j+1):=by
 have hl:=(Xl.1 hq).1
 have hpt:=h j q hq
 have htl:(ps.take j).length=j:=by simp;omega
 rw [Vk _ _ oM,htl,X6,Ws (R7 hq),List.set_cons_zero,ZW hq,XM]
 congr 1
 rw [←hpt]
 rfl
theorem Zh9 {ps:List Piece} {j:Nat} {q:Piece} (hq:ps[j]? =some q):(ps.take j++(Yy ps).drop j)[j]? =some ⟨0,q.word⟩:=by
 have hl:=(Xl.1 hq).1
 have htl:(ps.take j).length=j:=by simp;omega
 rw [Vh oM,htl,X6,Ws (R7 hq)]
 rfl
theorem Zgg (ps:List Piece) (j:Nat) (hj:j≤ps.length):(ps.take j++(Yy ps).drop j).length=ps.length:=by
 rw [Xf,XF,Ub,SG];omega
open Go.En
def vec {α:Type} (n:Nat) (f:Nat→α):List α:=(List.range n).map f
theorem Ko {α:Type} (n:Nat) (f:Nat→α):(vec n f).length=n:=by simp [vec]
theorem Tf {α:Type} {n i:Nat} (f:Nat→α) (h:i<n):(vec n f)[i]? =some (f i):=by simp [vec,h]
theorem Zck {α:Type} {n:Nat} {l:List α} {f:Nat→α} (hl:l.length=n) (h:∀i x,l[i]? =some x→x=f i):l=vec n f:=by
 apply VG
 intro i
 rcases Xv i n with hi|hi
 · obtain ⟨x,hx⟩:=Yf (show i<l.length by omega);rw [hx,Tf f hi,h i x hx]
 · rw [Vb oM,Vb (by rw [Ko];exact hi)]
theorem Ld {α:Type} {n a:Nat} (f:Nat→α) (b:α):(vec n f).set a b=vec n (fun i=>if i=a then b else f i):=by
 refine Zck (by simp [vec]) fun i x hx=>?_
 have hi:=Zj hx
 rw [Xh,Ko] at hi
 rw [List.getElem?_set] at hx
 split at hx
 · rename_i e;subst e;split at hx
   · cases hx;simp
   · cases hx
 · rename_i e;rw [Tf f hi] at hx
   cases hx;rw [UA (fun h=>e h.symm)]
theorem Yo {α:Type} {n:Nat} {f g:Nat→α} (h:∀i,i<n→f i=g i):vec n f=vec n g:=
 List.map_congr_left fun i hi=>h i (XV.1 hi)
theorem R8 {α:Type} (n:Nat) (x:α):List.replicate n x=vec n (fun _=>x):=by
 refine Zck sM fun i y hy=>?_
 rw [List.getElem?_replicate] at hy
 split at hy
 · cases hy;rfl
 · cases hy
theorem Ot {α β:Type} (n:Nat) (f:Nat→α) (g:α→β):(vec n f).map g=vec n (fun i=>g (f i)):=by simp [vec,Function.comp_def]
theorem Zgh {α:Type} (n:Nat) (f:Nat→α):vec (n+1) f=vec n f++[f n]:=by simp [vec,List.range_succ]
abbrev Wv (n:Nat) (f:Nat→Bool):PV:= .sl n (vec n fun i=>ZB (f i))
abbrev E2 (n:Nat) (f:Nat→Nat→Bool):PV:= .sl n (vec n fun i=>Wv n (f i))
abbrev YL (e n:Nat) (f:Nat→Bool):PV:= .own e 1 n (vec n fun i=>ZB (f i))
abbrev Zia (e e' n:Nat) (f:Nat→Nat→Bool):PV:= .own e 1 n (vec n fun i=>YL e' n (f i))
theorem TM (e n:Nat) (f:Nat→Bool):share (YL e n f)=Wv n f:=by
 rw [share,Z7,Ot];rfl
theorem HT (e e' n:Nat) (f:Nat→Nat→Bool):share (Zia e e' n f)=E2 n f:=by
 rw [share,Z7,Ot]
 show PV.sl n _=PV.sl n _
 congr 1
 exact Yo fun i _=>TM e' n (f i)
def Closed (n:Nat) (f T:Nat→Nat→Bool):Prop:=(∀i j,i<n→j<n→f i j=true→T i j=true)∧∀i j k,i<n→j<n→k<n→T i j=true→T j k=true→T i k=true
def war (f:Nat→Nat→Bool):Nat→Nat→Nat→Bool
 |0=>f
 |k+1=>fun i j=>war f k i j||(war f k i k&&war f k k j)
theorem ζo (f:Nat→Nat→Bool) (i j:Nat):∀k,f i j=true→war f k i j=true
 |0,h=>h
 |k+1,h=>by simp only [war,X9];exact .inl (ζo f i j k h)
theorem Zcl (f:Nat→Nat→Bool) (k i:Nat):war f (k+1) i k=war f k i k:=by
 simp only [war];cases war f k i k<;>simp
theorem Zcm (f:Nat→Nat→Bool) (k j:Nat):war f (k+1) k j=war f k k j:=by
 simp only [war];cases war f k k j<;>simp
theorem Ou (f:Nat→Nat→Bool):∀k m i j,m<k→war f k i m=true→war f k m j=true→war f k i j=true
 |0,m,i,j,hm,_,_=>oM
 | k + 1,m,i,j,hm,h1,h2=>by
   by_cases e:m=k
   · subst e;rw [Zcl] at h1;rw [Zcm] at h2;simp only [war,h1,h2,Bool.and_self,Bool.or_true]
   · have hm':m<k:=oM;simp only [war,X9,Xe] at h1 h2 ⊢;rcases h1 with h1|⟨h1,h1'⟩
     · rcases h2 with h2|⟨h2,h2'⟩
       · exact .inl (Ou f k m i j hm' h1 h2)
       · exact .inr ⟨Ou f k m i k hm' h1 h2,h2'⟩
     · rcases h2 with h2|⟨h2,h2'⟩
       · exact .inr ⟨h1,Ou f k m k j hm' h1' h2⟩
       · exact .inr ⟨h1,h2'⟩
def Y9 (n:Nat) (f:Nat→Nat→Bool):Nat→Nat→Bool:=war f n
theorem Rn (n:Nat) (f:Nat→Nat→Bool):Closed n f (Y9 n f):=⟨fun i j _ _ h=>ζo f i j n h,fun i j k _ hj _ h1 h2=>Ou f n j i k hj h1 h2⟩
def ZkN (n:Nat) (f:Nat→Bool):Nat:=((List.range n).filter fun i=> !f i).length
def cntM (n:Nat) (f:Nat→Nat→Bool):Nat:=((List.range n).map fun i=>ZkN n (f i)).sum
end Go.Cb
namespace Go.Proofs.YtmkojdfiadbeeaaGreat
open Go.RowKit Go.Cb Go.En Tryz
set_option linter.all false
set_option maxRecDepth 100000
theorem Kg:ElT prog 92 4 1 1 (.bool false):=⟨underlying92,by kernel_rfl,rfl,dC⟩
theorem ZdQ:ElT prog 93 92 1 24 (.slice none 0 0):=⟨underlying93,by kernel_rfl,rfl,dC⟩
theorem WY:FldT prog 95 0 0=true:=by kernel_rfl
theorem WA:FldT prog 95 1 1=true:=by kernel_rfl
theorem Gf:FldT prog 95 2 2=true:=by kernel_rfl
theorem Gg:FldT prog 95 3 3=true:=by kernel_rfl
theorem Yv:NoAgg prog 4=true:=by kernel_rfl
theorem Z1:NoAgg prog 92=true:=by kernel_rfl
theorem Y':NoAgg prog 93=true:=by kernel_rfl
theorem Yc:SlT prog 92 4 1=true:=by kernel_rfl
theorem Yk:SlT prog 93 92 1=true:=by kernel_rfl
theorem GG:K6 prog 95=some ((.agg #[(.slice none 0 0),(.slice none 0 0),(.slice none 0 0),(.slice none 0 0)]),([0,1,2,3]:List Nat).map fun o=>(o,1)):=by kernel_rfl
theorem ZdR:(prog.info? 26).map (·.size)=some 1:=by kernel_rfl
theorem Ro:(prog.info? 4).map (·.size)=some 1:=by kernel_rfl
theorem ZdS:(prog.info? 92).map (·.size)=some 1:=by kernel_rfl
theorem Zgi {α:Type} {n k:Nat} (p z q:α):((vec n fun i=>if i<k then p else z).set k q).set k p=vec n fun i=>if i<k+1 then p else z:=by
 rw [Ld,Ld]
 refine Yo fun i hi=>?_
 by_cases e:i=k
 · subst e;rw [UB rfl,UB oM]
 · rw [UA e,UA e];by_cases h:i<k
   · rw [UB h,UB oM]
   · rw [UA h,UA oM]
theorem GH (n:Nat) (hn:n≤1000000):AF prog 105 [Zf n] (· =Zia 92 4 n (fun _ _=>false)):=by
 refine AF.of_body 19 func105 rfl ntmps105 (Xa rfl) ?_
 intro w0 M0 vs hl hv
 obtain ⟨v0,rfl⟩:=YG hl
 obtain rfl:=hv 0 _ _ rfl rfl
 clear hl hv
 refine Zd ?_
 (refine xL 2 Zb ?_<;>refine Zi ?_)
 (refine xL 5 Za ?_<;>refine Jt 6 ZdQ fun h6 ho6=>?_<;>refine xL 3 Zb ?_<;>refine Zi ?_)
 (refine xL 7 Za (xL 8 (Y7 6 Yk) (xL 9 Za ?_))<;>refine Zc ?_)
 rw [show List.replicate n (PV.val (.slice none 0 0))=vec n (fun i=>if i<0 then YL 4 n (fun _=>false) else .val (.slice none 0 0)) by rw [R8];exact Yo fun i _=>by rw [UA oM]]
 refine Zy (ι:={k:Nat//k≤n}) (fun k=>⟨[(0,_,_),(3,_,_),(8,_,_),(9, .int .i64 k.1,Zf k.1)],[(6,h6, .own 92 1 n (vec n fun i=>if i<k.1 then YL 4 n (fun _=>false) else .val (.slice none 0 0)))]⟩) (fun k=>n-k.1) ⟨0,oM⟩ (fun a w H=>H.weaken ⟨rfl,rfl,rfl,rfl,trivial⟩ ⟨rfl,trivial⟩) ?_
 rintro ⟨k,hk⟩
 dsimp only
 refine Zd ?_
 (refine xL 10 ZI ?_<;>refine Zc ?_)
 refine cX ?_ ?_<;>intro hb10
 · first|exact bN hb10|(
 have hlt:k<n:=oM;have hl0:=Ko n (fun i=>if i<k then YL 4 n (fun _=>false) else PV.val (.slice none 0 0));refine Zd ?_;(refine xL 11 Za (xL 4 Zb ?_)<;>refine Zi ?_)
 (refine xL 12 Za (xL 13 Za (xL 14 Za ?_))<;>refine Jt 15 Kg fun h15 ho15=>?_<;>refine xL 16 (Zq 6 Yk) ?_<;>refine Zks 6 k Z1 ZdS ?_<;>refine Zi ?_)
 (refine xL 17 ZH (xL 9 Za ?_)<;>refine Zc ?_)
 refine Yh (J5 (l:=6) (l':=15) (j:=k) rfl (Xs (by rw [Ko];omega)) rfl rfl) fun _=>?_;rw [show List.replicate n (PV.val (.bool false))=vec n (fun _=>ZB false) from R8 _ _,Zgi];refine Zh (
  ⟨k+1,oM⟩
  ) (by dsimp only;omega) ⟨rfl,rfl,rfl,rfl,trivial⟩ ⟨rfl,trivial⟩)
 · first|exact bN hb10|(
 refine Zd ?_;(refine xL 18 Za (xL 2 Zb ?_)<;>refine Zc ?_)
 refine T2 6 (results105) rfl rfl ?_;obtain rfl:k=n:=oM;show PV.own _ _ _ _=PV.own _ _ _ _;congr 1;exact Yo fun i hi=>by rw [UB hi])
def ixN (l:List ByteArray) (s:ByteArray):Nat:=(idx (fun x=>Ka x s) l).toNat
theorem R9 {l:List ByteArray} {s:ByteArray} (h:hasStr l s=true):idx (fun x=>Ka x s) l=(ixN l s:Int)∧ixN l s<l.length:=by
 have h1:=Zak (fun x=>Ka x s) l
 have h2:0≤idx (fun x=>Ka x s) l:=by
  have:=T0 (fun x=>Ka x s) l;rw [show l.any (fun x=>Ka x s)=true from h] at this;exact UD this
 unfold ixN
 omega
theorem Zcn (l:List ByteArray) (rest:List PV) (s:ByteArray) (h:hasStr l s=true):AF prog 147 [.sptr 0 (ZT l::rest),ZD s] (· =Zf (ixN l s:Nat)):=by
 refine AF.of_body 11 func147 rfl ntmps147 (Xa rfl) ?_
 intro w0 M0 vs hl hv
 obtain ⟨v0,v1,rfl⟩:=W7 hl
 obtain rfl:=hv 1 _ _ rfl rfl
 clear hl hv
 refine Zd ?_
 (refine xL 4 Zb ?_<;>refine Zi ?_)
 (refine xL 5 Za (xL 6 Y0 (xL 7 (YN WY) ?_))<;>(refine yL 8 (ZN ZX) fun v8 h=>?_;cases h)<;>refine xL 9 Za ?_<;>(refine cS 10 (cA call116 (PH l s)) fun v10 h=>?_;cases h)<;>refine xL 4 Zb ?_<;>refine Zc ?_)
 refine Zl (results147) rfl ?_
 rw [(R9 h).1]
def JC (acts:List ByteArray) (l:List Flw) (i j:Nat):Bool:=l.any fun f=>ixN acts f.src==i&&ixN acts f.dst==j
def WI (acts:List ByteArray) (l:List Cnt) (i:Nat):Bool:=l.any fun c=>ixN acts c.name==i
theorem ZaT {acts:List ByteArray} {l:List Flw} {k:Nat} {f:Flw} (h:l[k]? =some f) (i j:Nat):JC acts (l.take (k+1)) i j=(JC acts (l.take k) i j||(ixN acts f.src==i&&ixN acts f.dst==j)):=by
 unfold JC;rw [ZW h,List.any_append];simp
theorem ZaU {acts:List ByteArray} {l:List Cnt} {k:Nat} {c:Cnt} (h:l[k]? =some c) (i:Nat):WI acts (l.take (k+1)) i=(WI acts (l.take k) i||(ixN acts c.name==i)):=by
 unfold WI;rw [ZW h,List.any_append];simp
theorem ZdT {acts:List ByteArray} {l:List Flw} {k:Nat} {f:Flw} (h:l[k]? =some f) (i j:Nat):JC acts (l.take (k+1)) i j=if i=ixN acts f.src then (if j=ixN acts f.dst then true else JC acts (l.take k) (ixN acts f.src) j) else JC acts (l.take k) i j:=by
 rw [ZaT h]
 generalize ixN acts f.src=a
 generalize ixN acts f.dst=b
 by_cases h1:i=a
 · subst h1;rw [UB rfl];by_cases h2:j=b
   · subst h2;simp
   · rw [UA h2,show (b==j)=false from beq_eq_false_iff_ne.2 (Ne.symm h2)];simp
 · rw [UA h1,show (a==i)=false from beq_eq_false_iff_ne.2 (Ne.symm h1)];simp
theorem HU {acts:List ByteArray} {l:List Cnt} {k:Nat} {c:Cnt} (h:l[k]? =some c) (i:Nat):WI acts (l.take (k+1)) i=if i=ixN acts c.name then true else WI acts (l.take k) i:=by
 rw [ZaU h]
 generalize ixN acts c.name=a
 by_cases h1:i=a
 · subst h1;simp
 · rw [UA h1,show (a==i)=false from beq_eq_false_iff_ne.2 (Ne.symm h1)];simp
def Zkw (g:Dfg):List PV:=[ZT (cnames g.acts),E2 g.acts.length (JC (cnames g.acts) g.follows),Wv g.acts.length (WI (cnames g.acts) g.starts),Wv g.acts.length (WI (cnames g.acts) g.ends)]
def Zib (g:Dfg):PV:= .sptr 0 (Zkw g)
theorem HV {g:Dfg} (h:Gq g=true):(cnames g.acts).length≤40∧(∀c∈g.starts,hasStr (cnames g.acts) c.name=true)∧(∀c∈g.ends,hasStr (cnames g.acts) c.name=true)∧(∀f∈g.follows,hasStr (cnames g.acts) f.src=true∧hasStr (cnames g.acts) f.dst=true):=by
 unfold Gq WJ Dk at h
 simp only [Xe,Xj,Ux] at h
 obtain ⟨⟨⟨⟨⟨⟨⟨h1,h2⟩,h3⟩,h4⟩,h5⟩,h6⟩,h7⟩,h8⟩:=h
 refine ⟨h1.1.1,fun c hc=>h2.2 _ (Xr.2 ⟨c,hc,rfl⟩),fun c hc=>h3.2 _ (Xr.2 ⟨c,hc,rfl⟩),fun f hf=>?_⟩
 have:=h7 f hf
 unfold LM at this
 simp only [Xe] at this
 exact ⟨this.1.2,this.2⟩
theorem Zgj {e e' n a b:Nat} {f f':Nat→Nat→Bool} (hf:∀i j,i<n→j<n→f' i j=if i=a then (if j=b then true else f a j) else f i j):(vec n fun i=>YL e' n (f i)).set a (.own e' 1 n ((vec n fun j=>ZB (f a j)).set (b*1) (ZB true)))=vec n fun i=>YL e' n (f' i):=by
 rw [XO,Ld,Ld]
 refine Yo fun i hi=>?_
 by_cases h:i=a
 · subst h;rw [UB rfl];show PV.own _ _ _ _=PV.own _ _ _ _;congr 1;refine Yo fun j hj=>?_;rw [hf i j hi hj,UB rfl];split<;>rfl
 · rw [UA h];show PV.own _ _ _ _=PV.own _ _ _ _;congr 1;refine Yo fun j hj=>?_;rw [hf i j hi hj,UA h]
theorem Do {n a:Nat} {f f':Nat→Bool} (hf:∀i,i<n→f' i=if i=a then true else f i):(vec n fun i=>ZB (f i)).set (a*1) (ZB true)=vec n fun i=>ZB (f' i):=by
 rw [XO,Ld]
 refine Yo fun i hi=>?_
 rw [hf i hi];split<;>rfl
theorem Sb {sL hP:List (Nat×Ent)} {l e k e' n:Nat} {h:Value} {acts:List ByteArray} {rest:List PV} (hl:lk hP l=some (h, .own e k 1 (.own e' 1 n (acts.map ZD)::rest))) (hn:n=acts.length):Sr (⟨sL,hP⟩:St) (padd (sbase h) 0) (.sptr 0 (ZT acts::Yt rest)):=by
 have:=Hq (sL:=sL) (j:=0) hl X8
 rw [Yt,GZ,hn] at this
 exact this
theorem E3 {n i:Nat} {e:Nat} (f:Nat→Nat→Bool) (h:i<n):(vec n fun i=>YL e n (f i))[i]? =some (YL e n (f i)):=Tf _ h
theorem Zco {Hs:List Value} {i:Nat} {v:Value} (h:Hs[i]? =some v):(Hs.map PV.val)[i*1]? =some (.val v):=by rw [XO,Xm,h];rfl
set_option maxHeartbeats 1000000 in
theorem Zkx (g : Dfg) (hg:Gq g=true) (hfl:g.follows.length≤140737488355328) (hsl:g.starts.length≤140737488355328) (hel:g.ends.length≤140737488355328):AF prog 104 [KZ g] (· =Zib g):=by
 obtain ⟨hn40,hst,hen,hfo⟩:=HV hg
 have hna:(cnames g.acts).length=g.acts.length:=by simp [cnames]
 refine AF.of_body 101 func104 rfl ntmps104 (Xa rfl) ?_
 intro w0 M0 vs hl hv
 obtain ⟨v0,rfl⟩:=YG hl
 clear hl hv
 refine Zd ?_
 (refine Yi 1 4 fun h1=>?_<;>refine xL 2 Zb ?_<;>refine Zi ?_)
 (refine xL 13 (Zn 1 Ge) ?_<;>(refine yL 14 (Zr 1 WQ) fun v14 h=>?_;cases h)<;>refine xL 15 (ZF WB) (xL 3 Zb ?_)<;>refine Zc ?_)
 refine Js (fun x:{x:Value×Value×Value×Value×Value//x.2.2.2.2.oneCell'=true}=>⟨[(1,padd (sbase h1) 0, .val (padd (sbase h1) 0)),(4,padd (sbase x.1.1) 0, .val (padd (sbase x.1.1) 0))],[(1,h1, .own 34 4 1 [JI g.acts,JI g.starts,JI g.ends,ZbU g.follows]),(23,x.1.1, .own 95 4 1 [.val (.slice none 0 0), .val x.1.2.1, .val x.1.2.2.1, .val x.1.2.2.2.1]),(17,x.1.2.1,Zia 92 4 g.acts.length (fun _ _=>false)),(19,x.1.2.2.1, .own 4 1 g.acts.length (List.replicate g.acts.length (.val (.bool false)))),(21,x.1.2.2.2.1, .own 4 1 g.acts.length (List.replicate g.acts.length (.val (.bool false))))]⟩) ?_ ?_
 · (refine ZM (fun i=>([]:List Nat).elem i) [] kR ?_<;>refine xD 0 16 rfl Za ?_<;>refine xD 2 18 rfl Za ?_<;>refine xD 4 20 rfl Za ?_<;>(refine Zfo 1 3 5 kR ?_ ?_ ?_;rotate_right;(focus ((refine Zg rfl fun w9 M9 N9 DQ back=>?_)<;>refine Jt 21 Kg fun h21 ho21=>?_<;>refine Ze (back _ (nrm ?_))<;>(refine YU 1 3 kR ?_ ?_;rotate_right;(focus ((refine Zg rfl fun w9 M9 N9 DQ back=>?_)<;>refine Jt 19 Kg fun h19 ho19=>?_<;>refine Ze (back _ (nrm ?_))<;>(refine Zk 1 kR ?_)<;>(refine Zg rfl fun w9 M9 N9 DQ back=>?_)<;>refine cO 17 (cA call105 (GH g.acts.length oM)) fun v17 ho17=>?_<;>refine Ze (back _ (nrm ?_))<;>refine xE 6 22 rfl (ZO GG) ?_<;>(refine Zk 7 kR ?_)<;>(refine Zg rfl fun w9 M9 N9 DQ back=>?_)<;>refine Yi 23 4 fun h23=>?_<;>refine Ze (back _ (nrm ?_))<;>refine xE 8 4 rfl Zb ?_));rotate_right;(focus ((refine Zg rfl fun w9 M9 N9 DQ back=>?_)<;>refine cO 17 (cA call105 (GH g.acts.length oM)) fun v17 ho17=>?_<;>refine Ze (back _ (nrm ?_))<;>(refine Zk 3 kR ?_)<;>(refine Zg rfl fun w9 M9 N9 DQ back=>?_)<;>refine Jt 19 Kg fun h19 ho19=>?_<;>refine Ze (back _ (nrm ?_))<;>refine xE 6 22 rfl (ZO GG) ?_<;>(refine Zk 7 kR ?_)<;>(refine Zg rfl fun w9 M9 N9 DQ back=>?_)<;>refine Yi 23 4 fun h23=>?_<;>refine Ze (back _ (nrm ?_))<;>refine xE 8 4 rfl Zb ?_)))));rotate_right;(focus ((refine Zg rfl fun w9 M9 N9 DQ back=>?_)<;>refine Jt 19 Kg fun h19 ho19=>?_<;>refine Ze (back _ (nrm ?_))<;>(refine YU 1 5 kR ?_ ?_;rotate_right;(focus ((refine Zg rfl fun w9 M9 N9 DQ back=>?_)<;>refine Jt 21 Kg fun h21 ho21=>?_<;>refine Ze (back _ (nrm ?_))<;>(refine Zk 1 kR ?_)<;>(refine Zg rfl fun w9 M9 N9 DQ back=>?_)<;>refine cO 17 (cA call105 (GH g.acts.length oM)) fun v17 ho17=>?_<;>refine Ze (back _ (nrm ?_))<;>refine xE 6 22 rfl (ZO GG) ?_<;>(refine Zk 7 kR ?_)<;>(refine Zg rfl fun w9 M9 N9 DQ back=>?_)<;>refine Yi 23 4 fun h23=>?_<;>refine Ze (back _ (nrm ?_))<;>refine xE 8 4 rfl Zb ?_));rotate_right;(focus ((refine Zg rfl fun w9 M9 N9 DQ back=>?_)<;>refine cO 17 (cA call105 (GH g.acts.length oM)) fun v17 ho17=>?_<;>refine Ze (back _ (nrm ?_))<;>(refine Zk 5 kR ?_)<;>(refine Zg rfl fun w9 M9 N9 DQ back=>?_)<;>refine Jt 21 Kg fun h21 ho21=>?_<;>refine Ze (back _ (nrm ?_))<;>refine xE 6 22 rfl (ZO GG) ?_<;>(refine Zk 7 kR ?_)<;>(refine Zg rfl fun w9 M9 N9 DQ back=>?_)<;>refine Yi 23 4 fun h23=>?_<;>refine Ze (back _ (nrm ?_))<;>refine xE 8 4 rfl Zb ?_)))));rotate_right;(focus ((refine Zg rfl fun w9 M9 N9 DQ back=>?_)<;>refine cO 17 (cA call105 (GH g.acts.length oM)) fun v17 ho17=>?_<;>refine Ze (back _ (nrm ?_))<;>(refine YU 3 5 kR ?_ ?_;rotate_right;(focus ((refine Zg rfl fun w9 M9 N9 DQ back=>?_)<;>refine Jt 21 Kg fun h21 ho21=>?_<;>refine Ze (back _ (nrm ?_))<;>(refine Zk 3 kR ?_)<;>(refine Zg rfl fun w9 M9 N9 DQ back=>?_)<;>refine Jt 19 Kg fun h19 ho19=>?_<;>refine Ze (back _ (nrm ?_))<;>refine xE 6 22 rfl (ZO GG) ?_<;>(refine Zk 7 kR ?_)<;>(refine Zg rfl fun w9 M9 N9 DQ back=>?_)<;>refine Yi 23 4 fun h23=>?_<;>refine Ze (back _ (nrm ?_))<;>refine xE 8 4 rfl Zb ?_));rotate_right;(focus ((refine Zg rfl fun w9 M9 N9 DQ back=>?_)<;>refine Jt 19 Kg fun h19 ho19=>?_<;>refine Ze (back _ (nrm ?_))<;>(refine Zk 5 kR ?_)<;>(refine Zg rfl fun w9 M9 N9 DQ back=>?_)<;>refine Jt 21 Kg fun h21 ho21=>?_<;>refine Ze (back _ (nrm ?_))<;>refine xE 6 22 rfl (ZO GG) ?_<;>(refine Zk 7 kR ?_)<;>(refine Zg rfl fun w9 M9 N9 DQ back=>?_)<;>refine Yi 23 4 fun h23=>?_<;>refine Ze (back _ (nrm ?_))<;>refine xE 8 4 rfl Zb ?_))))))<;>refine Ym kR (nav ?_)<;>try dsimp only)<;>(
 exact YM ⟨(h23,v17,h19,h21, .bool true),rfl⟩ ⟨rfl,rfl,trivial⟩ ⟨rfl,rfl,rfl,rfl,rfl,trivial⟩)
 · rintro ⟨⟨h23, h17,h19,h21,_⟩,_⟩;dsimp only;refine Zd ?_;(refine xL 24 (Zn 1 Ge) ?_<;>(refine yL 25 (Zr 1 WQ) fun v25 h=>?_;cases h)<;>refine xL 26 (ZF WB) (xL 27 Za ?_)<;>refine Zc ?_)
   refine ZE (W3 200 9 1 rfl) fun _=>?_;refine Zy (ι:={x:Nat×Value//x.1≤g.acts.length}) (fun k=>⟨[(1,_,_),(4,_,_),(25,_,_),(26,_,_),(27, .int .i64 k.1.1,Zf k.1.1)],[(1,_,_),(17,_,_),(19,_,_),(21,_,_),(23,h23, .own 95 4 1 [.val k.1.2, .val h17, .val h19, .val h21]),(200,k.1.2, .own 9 1 k.1.1 ((cnames (g.acts.take k.1.1)).map ZD))]⟩) (fun k=>g.acts.length-k.1.1) ⟨(0, .slice none 0 0),oM⟩ (fun a w H=>H.weaken ⟨rfl,rfl,rfl,rfl,rfl,trivial⟩ ⟨rfl,rfl,rfl,rfl,rfl,rfl,trivial⟩) ?_;rintro ⟨⟨k,h3⟩,hk⟩;dsimp only;dsimp only at hk;refine Zd ?_;(refine xL 28 ZI ?_<;>refine Zc ?_)
   refine cX ?_ ?_<;>intro hb28
   · first|exact bN hb28|(
 obtain ⟨x,hx⟩:=Zm (show k<g.acts.length by omega);have e1:=Yz Kf g.acts k x hx;have e2:=YT Kf hx;(have e3:((cnames (g.acts.take k)).map ZD).length=k:=by simp [cnames];omega);refine Zd ?_;(refine xL 29 (Zv WB) ?_<;>(refine yL 30 (Wl Wh) fun v30 h=>?_;cases h)<;>refine ZA [(.string ByteArray.empty),(.int .i64 0)] 2 6 GY fun h6=>?_<;>refine Zw 6 Wh ?_<;>refine Zc ?_)
 (refine ZM (fun i=>([11]:List Nat).elem i) [23,6] kR ?_<;>refine xD 0 31 rfl Za ?_<;>refine xD 1 32 rfl Za ?_<;>refine xD 2 33 rfl (Lk 23) ?_<;>refine xD 3 34 rfl (Zn 23 WY) ?_<;>(refine yD 4 35 rfl (Zr 23 ZX) fun v35 h=>?_;cases h)<;>refine xE 5 36 rfl (Zn 6 Kn) ?_<;>(refine yE 6 37 rfl (Zr 6 ZP) fun v37 h=>?_;cases h)<;>(refine Zk 7 kR ?_)<;>(refine Zg rfl fun w9 M9 N9 DQ back=>?_)<;>refine W4 (kk:=1) 38 Wm fun h38 ho38=>?_<;>refine Ze (back _ (nrm ?_))<;>(refine Zk 8 kR ?_)<;>(refine Zg rfl fun w9 M9 N9 DQ back=>?_)<;>refine Kd 200 38 39 Wm fun h39 ho39=>?_<;>refine Ze (back _ (nrm ?_))<;>refine xE 9 40 rfl (Lk 23) ?_<;>refine xE 10 41 rfl (Zn 23 WY) ?_<;>(refine Zk 11 kR ?_)<;>(refine W8 rfl rfl kR fun DQ back=>?_)<;>refine P5 23 ZX ZdR ?_<;>refine Ze (back _ (nav ?_))<;>try dsimp only)
 (refine Zo ?_<;>refine xL 42 ZH (xL 27 Za ?_)<;>refine Zc ?_)
 refine Yh (Z5 (l:=39) 200 rfl rfl) fun _=>?_;rw [show (cnames (g.acts.take k)).map ZD++[ZD x.name]=(cnames (g.acts.take (k+1))).map ZD by rw [TL hx,X1];rfl];refine Zh (
  ⟨(k+1,h39),by show k+1≤g.acts.length;omega⟩
  ) (by dsimp only;omega) ⟨rfl,rfl,rfl,rfl,rfl,trivial⟩ ⟨rfl,rfl,rfl,rfl,rfl,rfl,trivial⟩)
   · first | exact bN hb28|(
 refine Zd ?_;(refine xL 43 (Zn 1 Jh) ?_<;>(refine yL 44 (Zr 1 GF) fun v44 h=>?_;cases h)<;>refine xL 45 (ZF LL) (xL 46 Za ?_)<;>refine Zc ?_)
 obtain rfl:k=g.acts.length:=oM;rw [XI];refine ZE (J5 (l:=23) (l':=200) (j:=0) rfl rfl rfl rfl) fun _=>?_;refine ZE (Zfk (l:=17) 201 rfl rfl) fun Hs=>?_;obtain ⟨Hs,hHs⟩:=Hs;rw [Ko] at hHs;dsimp only;refine Zy (ι:={k:Nat//k≤g.follows.length}) (fun k=>⟨[(1,_,_),(4,_,_),(44,_,_),(45,_,_),(46, .int .i64 k.1,Zf k.1)],[(1,_,_),(23,_,_),(17,_,_),(19,_,_),(21,_,_),(201, .agg Hs.toArray, .agg (vec g.acts.length fun i=>YL 4 g.acts.length (JC (cnames g.acts) (g.follows.take k.1) i)))]⟩) (fun k=>g.follows.length-k.1) ⟨0,oM⟩ (fun a w H=>H.weaken ⟨rfl,rfl,rfl,rfl,rfl,trivial⟩ ⟨rfl,rfl,rfl,rfl,rfl,rfl,trivial⟩) ?_;rintro ⟨k,hk⟩;dsimp only;refine Zd ?_;(refine xL 47 ZI ?_<;>refine Zc ?_)
 refine cX ?_ ?_<;>intro hb47
 · first|exact bN hb47|(
 obtain ⟨x,hx⟩:=Zm (show k<g.follows.length by omega);have e1:=Yz GV g.follows k x hx;have e2:=YT GV hx;have hxa:=(hfo x (Xb hx)).1;have hxb:=(hfo x (Xb hx)).2;have ha:=(R9 hxa).2;have hb:=(R9 hxb).2;rw [hna] at ha hb;obtain ⟨ra,hra⟩:=Zm (show ixN (cnames g.acts) x.src<Hs.length by omega);have e3:=Zco hra;have e4:=E3 (e:=4) (JC (cnames g.acts) (g.follows.take k)) ha;have e5:=Ko g.acts.length (fun j=>ZB (JC (cnames g.acts) (g.follows.take k) (ixN (cnames g.acts) x.src) j));refine Zd ?_;(refine xL 48 (Zv LL) ?_<;>(refine yL 49 (Wl Jg) fun v49 h=>?_;cases h)<;>refine ZA [(.string ByteArray.empty),(.string ByteArray.empty),(.int .i64 0)] 3 8 Dj fun h8=>?_<;>refine Zw 8 Jg ?_<;>refine Zc ?_)
 (refine ZM (fun i=>([15]:List Nat).elem i) [23,8,17,201] kR ?_<;>refine xD 0 50 rfl Za ?_<;>refine xD 1 51 rfl (Lk 23) ?_<;>refine xD 2 52 rfl (Zn 23 WA) ?_<;>(refine yD 3 53 rfl (Zr 23 Y') fun v53 h=>?_;cases h)<;>refine xD 4 54 rfl Za ?_<;>refine xD 5 55 rfl (Zn 8 KR) ?_<;>(refine yD 6 56 rfl (Zr 8 ZP) fun v56 h=>?_;cases h)<;>refine xD 10 60 rfl Za ?_<;>refine xD 11 61 rfl (Zn 8 KS) ?_<;>(refine yD 12 62 rfl (Zr 8 ZP) fun v62 h=>?_;cases h)<;>(refine Zk 7 kR ?_)<;>(refine YH (d:=57) rfl (cB rfl call147 (Zcn (cnames g.acts) _ x.src hxa) ⟨⟨_,_,rfl,Sb (l:=23) rfl hna.symm⟩,⟨_,_,rfl,JM (x:= .tmp 56) rfl⟩,trivial⟩) fun v57 h=>?_;cases h)<;>refine xD 8 58 rfl (Zq 17 Yk) ?_<;>(refine yD 9 59 rfl (Zr 17 Z1) fun v59 h=>?_;cases h)<;>(refine Zk 13 kR ?_)<;>(refine YH (d:=63) rfl (cB rfl call147 (Zcn (cnames g.acts) _ x.dst hxb) ⟨⟨_,_,rfl,Sb (l:=23) rfl hna.symm⟩,⟨_,_,rfl,JM (x:= .tmp 62) rfl⟩,trivial⟩) fun v63 h=>?_;cases h)<;>refine xE 14 64 rfl (OH 201 Yc) ?_<;>(refine Zk 15 kR ?_)<;>(refine W8 rfl rfl kR fun DQ back=>?_)<;>refine Zi1 201 Yv Ro ?_<;>refine Ze (back _ (nav ?_))<;>try dsimp only)
 (refine Zo ?_<;>refine xL 65 ZH (xL 46 Za ?_)<;>refine Zc ?_)
 rw [Zgj (e:=0) (f':=JC (cnames g.acts) (g.follows.take (k+1))) fun i j _ _=>ZdT hx i j];refine Zh (
  ⟨k+1,oM⟩
  ) (by dsimp only;omega) ⟨rfl,rfl,rfl,rfl,rfl,trivial⟩ ⟨rfl,rfl,rfl,rfl,rfl,rfl,trivial⟩)
 · first | exact bN hb47|(
 refine Zd ?_;(refine xL 66 (Zn 1 TJ) ?_<;>(refine yL 67 (Zr 1 WQ) fun v67 h=>?_;cases h)<;>refine xL 68 (ZF WB) (xL 69 Za ?_)<;>refine Zc ?_)
 obtain rfl:k=g.follows.length:=oM;rw [XI,show List.replicate g.acts.length (PV.val (.bool false))=vec g.acts.length (fun i=>ZB (WI (cnames g.acts) [] i)) from R8 _ _];refine Zy (ι:={k:Nat//k≤g.starts.length}) (fun k=>⟨[(1,_,_),(4,_,_),(67,_,_),(68,_,_),(69, .int .i64 k.1,Zf k.1)],[(1,_,_),(23,_,_),(17,_,_),(201,_,_),(21,_,_),(19,h19,YL 4 g.acts.length (WI (cnames g.acts) (g.starts.take k.1)))]⟩) (fun k=>g.starts.length-k.1) ⟨0,oM⟩ (fun a w H=>H.weaken ⟨rfl,rfl,rfl,rfl,rfl,trivial⟩ ⟨rfl,rfl,rfl,rfl,rfl,rfl,trivial⟩) ?_;rintro ⟨k,hk⟩;dsimp only;refine Zd ?_;(refine xL 70 ZI ?_<;>refine Zc ?_)
 refine cX ?_ ?_<;>intro hb70
 · first|exact bN hb70|(
 obtain ⟨x,hx⟩:=Zm (show k<g.starts.length by omega);have e1:=Yz Kf g.starts k x hx;have e2:=YT Kf hx;have hxa:=hst x (Xb hx);have ha:=(R9 hxa).2;rw [hna] at ha;have e5:=Ko g.acts.length (fun j=>ZB (WI (cnames g.acts) (g.starts.take k) j));refine Zd ?_;(refine xL 71 (Zv WB) ?_<;>(refine yL 72 (Wl Wh) fun v72 h=>?_;cases h)<;>refine ZA [(.string ByteArray.empty),(.int .i64 0)] 2 10 GY fun h10=>?_<;>refine Zw 10 Wh ?_<;>refine Zc ?_)
 (refine ZM (fun i=>([9]:List Nat).elem i) [23,10,19] kR ?_<;>refine xD 0 73 rfl Za ?_<;>refine xD 1 74 rfl (Lk 23) ?_<;>refine xD 2 75 rfl (Zn 23 Gf) ?_<;>(refine yD 3 76 rfl (Zr 23 Z1) fun v76 h=>?_;cases h)<;>refine xD 4 77 rfl Za ?_<;>refine xE 5 78 rfl (Zn 10 Kn) ?_<;>(refine yE 6 79 rfl (Zr 10 ZP) fun v79 h=>?_;cases h)<;>(refine Zk 7 kR ?_)<;>(refine YH (d:=80) rfl (cB rfl call147 (Zcn (cnames g.acts) _ x.name hxa) ⟨⟨_,_,rfl,Sb (l:=23) rfl hna.symm⟩,⟨_,_,rfl,JM (x:= .tmp 79) rfl⟩,trivial⟩) fun v80 h=>?_;cases h)<;>refine xE 8 81 rfl (Zq 19 Yc) ?_<;>(refine Zk 9 kR ?_)<;>(refine W8 rfl rfl kR fun DQ back=>?_)<;>refine P5 19 Yv Ro ?_<;>refine Ze (back _ (nav ?_))<;>try dsimp only)
 (refine Zo ?_<;>refine xL 82 ZH (xL 69 Za ?_)<;>refine Zc ?_)
 rw [Do (f':=WI (cnames g.acts) (g.starts.take (k+1))) fun i _=>HU hx i];refine Zh (
  ⟨k+1,oM⟩
  ) (by dsimp only;omega) ⟨rfl,rfl,rfl,rfl,rfl,trivial⟩ ⟨rfl,rfl,rfl,rfl,rfl,rfl,trivial⟩)
 · first |exact bN hb70|(
 refine Zd ?_;(refine xL 83 (Zn 1 TK) ?_<;>(refine yL 84 (Zr 1 WQ) fun v84 h=>?_;cases h)<;>refine xL 85 (ZF WB) (xL 86 Za ?_)<;>refine Zc ?_)
 obtain rfl:k=g.starts.length:=oM;rw [XI];refine Zy (ι:={k:Nat//k≤g.ends.length}) (fun k=>⟨[(1,_,_),(4,_,_),(84,_,_),(85,_,_),(86, .int .i64 k.1,Zf k.1)],[(1,_,_),(23,_,_),(17,_,_),(201,_,_),(19,_,_),(21,h21,YL 4 g.acts.length (WI (cnames g.acts) (g.ends.take k.1)))]⟩) (fun k=>g.ends.length-k.1) ⟨0,oM⟩ (fun a w H=>H.weaken ⟨rfl,rfl,rfl,rfl,rfl,trivial⟩ ⟨rfl,rfl,rfl,rfl,rfl,rfl,trivial⟩) ?_;rintro ⟨k,hk⟩;dsimp only;refine Zd ?_;(refine xL 87 ZI ?_<;>refine Zc ?_)
 refine cX ?_ ?_<;>intro hb87
 · first|exact bN hb87|(
 obtain ⟨x,hx⟩:=Zm (show k<g.ends.length by omega);have e1:=Yz Kf g.ends k x hx;have e2:=YT Kf hx;have hxa:=hen x (Xb hx);have ha:=(R9 hxa).2;rw [hna] at ha;have e5:=Ko g.acts.length (fun j=>ZB (WI (cnames g.acts) (g.ends.take k) j));refine Zd ?_;(refine xL 88 (Zv WB) ?_<;>(refine yL 89 (Wl Wh) fun v89 h=>?_;cases h)<;>refine ZA [(.string ByteArray.empty),(.int .i64 0)] 2 12 GY fun h12=>?_<;>refine Zw 12 Wh ?_<;>refine Zc ?_)
 (refine ZM (fun i=>([9]:List Nat).elem i) [23,12,21] kR ?_<;>refine xD 0 90 rfl Za ?_<;>refine xD 1 91 rfl (Lk 23) ?_<;>refine xD 2 92 rfl (Zn 23 Gg) ?_<;>(refine yD 3 93 rfl (Zr 23 Z1) fun v93 h=>?_;cases h)<;>refine xD 4 94 rfl Za ?_<;>refine xE 5 95 rfl (Zn 12 Kn) ?_<;>(refine yE 6 96 rfl (Zr 12 ZP) fun v96 h=>?_;cases h)<;>(refine Zk 7 kR ?_)<;>(refine YH (d:=97) rfl (cB rfl call147 (Zcn (cnames g.acts) _ x.name hxa) ⟨⟨_,_,rfl,Sb (l:=23) rfl hna.symm⟩,⟨_,_,rfl,JM (x:= .tmp 96) rfl⟩,trivial⟩) fun v97 h=>?_;cases h)<;>refine xE 8 98 rfl (Zq 21 Yc) ?_<;>(refine Zk 9 kR ?_)<;>(refine W8 rfl rfl kR fun DQ back=>?_)<;>refine P5 21 Yv Ro ?_<;>refine Ze (back _ (nav ?_))<;>try dsimp only)
 (refine Zo ?_<;>refine xL 99 ZH (xL 86 Za ?_)<;>refine Zc ?_)
 rw [Do (f':=WI (cnames g.acts) (g.ends.take (k+1))) fun i _=>HU hx i];refine Zh (
  ⟨k+1,oM⟩
  ) (by dsimp only;omega) ⟨rfl,rfl,rfl,rfl,rfl,trivial⟩ ⟨rfl,rfl,rfl,rfl,rfl,rfl,trivial⟩)
 · first|exact bN hb87|(
 refine Zd ?_;(refine xL 100 Za (xL 2 Zb ?_)<;>refine Zc ?_)
 obtain rfl:k=g.ends.length:=oM;rw [XI];refine YP (Zfl (l:=17) (l':=201) rfl rfl rfl rfl) fun _=>?_;refine YP (J5 (l:=23) (l':=17) (j:=1) rfl rfl rfl rfl) fun _=>?_;refine YP (J5 (l:=23) (l':=19) (j:=2) rfl rfl rfl rfl) fun _=>?_;refine YP (J5 (l:=23) (l':=21) (j:=3) rfl rfl rfl rfl) fun _=>?_;refine YP (G8 (l:=23) (t:=2) (j:=0) rfl X8 rfl) fun _=>?_;refine Zl (results104) rfl ?_;show PV.sptr 0 (Yt [_,Zia 92 4 _ _,YL _ _ _,YL _ _ _])=Zib g;rw [Yt,Yt,Yt,Yt,Yt,HT,TM,TM,GZ];unfold Zib Zkw ZT;rw [hna]))))
theorem YA:AggT prog 34 4=true:=by kernel_rfl
def Kh (E:Nat→Nat→Bool) (k i j a b:Nat):Bool:=if a<i∨(a=i∧b<j) then war E (k+1) a b else war E k a b
theorem ZdU (E:Nat→Nat→Bool) (k i j a:Nat):Kh E k i j a k=war E k a k:=by
 unfold Kh
 split
 · rw [Zcl]
 · rfl
theorem ZdV (E:Nat→Nat→Bool) (k i j b:Nat):Kh E k i j k b=war E k k b:=by
 unfold Kh
 split
 · rw [Zcm]
 · rfl
theorem ZaV (E:Nat→Nat→Bool) (k i j:Nat):Kh E k i j i j=war E k i j:=by unfold Kh;rw [UA oM]
theorem ZaW {e n k i j:Nat} {E:Nat→Nat→Bool} {x:Bool} (hx:x=war E (k+1) i j):(vec n fun a=>YL e n (Kh E k i j a)).set i (.own e 1 n ((vec n fun b=>ZB (Kh E k i j i b)).set (j*1) (ZB x)))=vec n fun a=>YL e n (Kh E k i (j+1) a):=by
 subst hx
 rw [XO,Ld,Ld]
 refine Yo fun a ha=>?_
 by_cases h:a=i
 · subst h;rw [UB rfl];show PV.own _ _ _ _=PV.own _ _ _ _;congr 1;refine Yo fun b hb=>?_;by_cases h2:b=j
   · subst h2;rw [UB rfl];unfold Kh;rw [UB oM]
   · rw [UA h2];unfold Kh;by_cases h3:b<j
     · rw [UB oM,UB oM]
     · rw [UA oM,UA oM]
 · rw [UA h];show PV.own _ _ _ _=PV.own _ _ _ _;congr 1;refine Yo fun b hb=>?_;unfold Kh;by_cases h3:a<i
   · rw [UB oM,UB oM]
   · rw [UA oM,UA oM]
theorem ZjL {E:Nat→Nat→Bool} {k i j:Nat} (h:war E k i j=true):true=war E (k+1) i j:=by simp [war,h]
theorem ZjM {E:Nat→Nat→Bool} {k i j:Nat} (h:war E k i j=false) (h2:war E k i k=true):war E k k j=war E (k+1) i j:=by simp [war,h,h2]
theorem ZjN {E:Nat→Nat→Bool} {k i j:Nat} (h:war E k i j=false) (h2:war E k i k=false):false=war E (k+1) i j:=by simp [war,h,h2]
theorem ZaX {n k i:Nat} {E:Nat→Nat→Bool} (e:Nat):(vec n fun a=>YL e n (Kh E k i n a))=vec n fun a=>YL e n (Kh E k (i+1) 0 a):=by
 refine Yo fun a ha=>?_
 show PV.own _ _ _ _=PV.own _ _ _ _
 congr 1
 refine Yo fun b hb=>?_
 unfold Kh
 by_cases h:a≤i
 · rw [UB oM,UB oM]
 · rw [UA oM,UA oM]
theorem ZdW {n k:Nat} {E:Nat→Nat→Bool} (e:Nat):(vec n fun a=>YL e n (Kh E k n 0 a))=vec n fun a=>YL e n (war E (k+1) a):=by
 refine Yo fun a ha=>?_
 show PV.own _ _ _ _=PV.own _ _ _ _
 congr 1
 refine Yo fun b hb=>?_
 unfold Kh
 rw [UB oM]
theorem ζp {n k:Nat} {E:Nat→Nat→Bool} (e:Nat):(vec n fun a=>YL e n (war E k a))=vec n fun a=>YL e n (Kh E k 0 0 a):=by
 refine Yo fun a ha=>?_
 show PV.own _ _ _ _=PV.own _ _ _ _
 congr 1
 refine Yo fun b hb=>?_
 unfold Kh
 rw [UA oM]
theorem Yp {α:Type} {n i:Nat} (f:Nat→α) (h:i<n):(vec n f)[i*1]? =some (f i):=by rw [XO];exact Tf f h
theorem Zic {α:Type} {n:Nat} {f:Nat→α} {p:α→Bool} (h:∀i,p (f i)=true):(vec n f).all p=true:=by
 unfold vec;rw [List.all_map,Xj];exact fun i _=>h i
theorem ZdX {e n k:Nat} {E:Nat→Nat→Bool} (v:Value):(((vec n fun i=>YL e n (fun j=>if i<k then E i j else false)).set k (.val v)).set k (.own e 1 n (vec n fun j=>ZB (E k j))))=vec n fun i=>YL e n (fun j=>if i<k+1 then E i j else false):=by
 rw [XK,Ld]
 refine Yo fun a ha=>?_
 by_cases h:a=k
 · subst h;rw [UB rfl];show PV.own _ _ _ _=PV.own _ _ _ _;congr 1;exact Yo fun b hb=>by dsimp only;rw [UB oM]
 · rw [UA h];show PV.own _ _ _ _=PV.own _ _ _ _;congr 1;refine Yo fun b hb=>?_;dsimp only;by_cases h3:a<k
   · rw [UB h3,UB oM]
   · rw [UA h3,UA oM]
set_option maxHeartbeats 1000000 in
theorem ζq (l : List ByteArray) (n:Nat) (E:Nat→Nat→Bool) (s f:PV) (hl:l.length=n) (hn:n≤1000):AF prog 51 [.sptr 0 [ZT l,E2 n E,s,f]] (· =E2 n (Y9 n E)):=by
 refine AF.of_body 82 func51 rfl ntmps51 (Xa rfl) ?_
 intro w0 M0 vs hl hv
 obtain ⟨v0,rfl⟩:=YG hl
 clear hl hv
 refine Zd ?_
 (refine xL 2 Zb ?_<;>refine Zi ?_)
 (refine xL 8 Za (xL 9 Y0 (xL 10 (YN WY) ?_))<;>(refine yL 11 (ZN ZX) fun v11 h=>?_;cases h)<;>refine xL 12 (ZF Zx) ?_<;>refine cO 13 (cA call105 (GH l.length oM)) fun v13 ho13=>?_<;>refine xL 3 Zb ?_<;>refine Zi ?_)
 (refine xL 14 Za (xL 15 (Y7 13 Yk) (xL 16 Za ?_))<;>refine Zc ?_)
 rw [hl]
 refine ZE (Zfk (l:=13) 200 rfl rfl) fun Hs=>?_
 obtain ⟨Hs,hHs⟩:=Hs
 rw [Ko] at hHs
 dsimp only
 rw [show (vec n fun i=>YL 4 n (fun _=>false))=vec n (fun i=>YL 4 n (fun j=>if i<0 then E i j else false)) from Yo fun i _=>by congr 1]
 refine Zy (ι:={k:Nat//k≤n}) (fun k=>⟨[(0,_,_),(3,_,_),(15,_,_),(16, .int .i64 k.1,Zf k.1)],[(13,_,_),(200, .agg Hs.toArray, .agg (vec n fun i=>YL 4 n (fun j=>if i<k.1 then E i j else false)))]⟩) (fun k=>n-k.1) ⟨0,oM⟩ (fun a w H=>H.weaken ⟨rfl,rfl,rfl,rfl,trivial⟩ ⟨rfl,rfl,trivial⟩) ?_
 rintro ⟨k,hk⟩
 dsimp only
 refine Zd ?_
 (refine xL 17 ZI ?_<;>refine Zc ?_)
 refine cX ?_ ?_<;>intro hb17
 · first|exact bN hb17|(
 have hlt:k<n:=oM;obtain ⟨rk,hrk⟩:=Zm (show k<Hs.length by omega);have e1:=Zco hrk;have e2:=Yp (fun i=>Wv n (E i)) hlt;refine ZE (ZbJ (l:=200) (i:=k) 201 rfl hrk (Tf _ hlt) rfl) fun _=>?_;refine Zd ?_;(refine xL 18 Za (xL 4 Zb ?_)<;>refine Zc ?_)
 (refine ZM (fun i=>([]:List Nat).elem i) [13] kR ?_<;>refine xD 0 19 rfl Za ?_<;>refine xD 1 20 rfl Za ?_<;>refine xD 2 21 rfl (Zq 13 Yk) ?_<;>(refine yD 3 22 rfl (Zr 13 Z1) fun v22 h=>?_;cases h)<;>refine xD 4 23 rfl Za ?_<;>refine xD 5 24 rfl Y0 ?_<;>refine xD 6 25 rfl (YN WA) ?_<;>(refine yD 7 26 rfl (ZN Y') fun v26 h=>?_;cases h)<;>refine xE 8 27 rfl Za ?_<;>refine xE 9 28 rfl (Zv Yk) ?_<;>(refine yE 10 29 rfl (ZN Z1) fun v29 h=>?_;cases h)<;>(refine Zk 11 kR ?_)<;>(refine Zg rfl fun w9 M9 N9 DQ back=>?_)<;>refine Zjs 201 30 Yc ?_ (Ko _ _) (Zic fun _=>rfl)<;>refine Ze (back _ (nrm ?_))<;>refine Ym kR (nav ?_)<;>try dsimp only)
 (refine Zo ?_<;>refine xL 31 ZH (xL 16 Za ?_)<;>refine Zc ?_)
 refine Yh (ZbK (l:=200) (l':=201) (i:=k) rfl hrk (Xs (by rw [Ko];omega)) rfl rfl) fun _=>?_;rw [ZdX];refine Zh (
  ⟨k+1,oM⟩
  ) (by dsimp only;omega) ⟨rfl,rfl,rfl,rfl,trivial⟩ ⟨rfl,rfl,trivial⟩)
 · first | exact bN hb17|(
 refine Zd ?_;(refine xL 32 Za (xL 33 (Y7 13 Yk) (xL 34 Za ?_))<;>refine Zc ?_)
 rw [show (vec n fun i=>YL 4 n (fun j=>if i<k then E i j else false))=vec n (fun i=>YL 4 n (war E 0 i)) from Yo fun i hi=>by
  show PV.own _ _ _ _=PV.own _ _ _ _;congr 1;exact Yo fun j _=>by dsimp only;rw [UB (show i<k by omega)];rfl]
 refine Zy (ι:={m:Nat//m≤n}) (fun k=>⟨[(0,_,_),(3,_,_),(33,_,_),(34, .int .i64 k.1,Zf k.1)],[(13,_,_),(200, .agg Hs.toArray, .agg (vec n fun i=>YL 4 n (war E k.1 i)))]⟩) (fun k=>n-k.1) ⟨0,oM⟩ (fun a w H=>H.weaken ⟨rfl,rfl,rfl,rfl,trivial⟩ ⟨rfl,rfl,trivial⟩) ?_;rintro ⟨m,hm⟩;dsimp only;refine Zd ?_;(refine xL 35 ZI ?_<;>refine Zc ?_)
 refine cX ?_ ?_<;>intro hb35
 · first | exact bN hb35|(
 refine Zd ?_;(refine xL 36 Za (xL 5 Zb ?_)<;>refine Zi ?_)
 (refine xL 37 Za (xL 38 (Y7 13 Yk) (xL 39 Za ?_))<;>refine Zc ?_)
 rw [ζp];refine Zy (ι:={i:Nat//i≤n}) (fun k=>⟨[(0,_,_),(3,_,_),(33,_,_),(34,_,_),(5,_,_),(38,_,_),(39, .int .i64 k.1,Zf k.1)],[(13,_,_),(200, .agg Hs.toArray, .agg (vec n fun a=>YL 4 n (Kh E m k.1 0 a)))]⟩) (fun k=>n-k.1) ⟨0,oM⟩ (fun a w H=>H.weaken ⟨rfl,rfl,rfl,rfl,rfl,rfl,rfl,trivial⟩ ⟨rfl,rfl,trivial⟩) ?_;rintro ⟨i,hi⟩;dsimp only;refine Zd ?_;(refine xL 40 ZI ?_<;>refine Zc ?_)
 refine cX ?_ ?_<;>intro hb40
 · first |exact bN hb40|(
 refine Zd ?_;(refine xL 41 Za (xL 6 Zb ?_)<;>refine Zi ?_)
 (refine xL 42 Za (xL 43 (Y7 13 Yk) (xL 44 Za ?_))<;>refine Zc ?_)
 refine Zy (ι:={j:Nat//j≤n}) (fun k=>⟨[(0,_,_),(3,_,_),(33,_,_),(34,_,_),(5,_,_),(38,_,_),(39,_,_),(6,_,_),(43,_,_),(44, .int .i64 k.1,Zf k.1)],[(13,_,_),(200, .agg Hs.toArray, .agg (vec n fun a=>YL 4 n (Kh E m i k.1 a)))]⟩) (fun k=>n-k.1) ⟨0,oM⟩ (fun a w H=>H.weaken ⟨rfl,rfl,rfl,rfl,rfl,rfl,rfl,rfl,rfl,rfl,trivial⟩ ⟨rfl,rfl,trivial⟩) ?_;rintro ⟨j,hj⟩;dsimp only;refine Zd ?_;(refine xL 45 ZI ?_<;>refine Zc ?_)
 refine cX ?_ ?_<;>intro hb45
 · first|exact bN hb45|(
 have hmn:m<n:=oM;have hin:i<n:=oM;have hjn:j<n:=oM;obtain ⟨ri,hri⟩:=Zm (show i<Hs.length by omega);obtain ⟨rm,hrm⟩:=Zm (show m<Hs.length by omega);have e1:=Zco hri;have e2:=Zco hrm;have e3:=E3 (e:=4) (Kh E m i j) hin;have e4:=E3 (e:=4) (Kh E m i j) hmn;(have e5:(vec n fun b=>ZB (Kh E m i j i b))[j*1]? =some (ZB (war E m i j)):=by rw [Yp _ hjn,ZaV]);(have e6:(vec n fun b=>ZB (Kh E m i j i b))[m*1]? =some (ZB (war E m i m)):=by rw [Yp _ hmn,ZdU]);(have e7:(vec n fun b=>ZB (Kh E m i j m b))[j*1]? =some (ZB (war E m m j)):=by rw [Yp _ hjn,ZdV]);have e8:=Ko n (fun b=>ZB (Kh E m i j i b));refine Zd ?_;(refine xL 46 Za (xL 7 Zb ?_)<;>refine Zc ?_)
 (refine ZM (fun i=>([31]:List Nat).elem i) [13,200] kR ?_<;>refine xD 0 47 rfl Za ?_<;>refine xD 1 48 rfl Za ?_<;>refine xD 2 49 rfl (Zq 13 Yk) ?_<;>(refine yD 3 50 rfl (Zr 13 Z1) fun v50 h=>?_;cases h)<;>refine xD 4 51 rfl Za ?_<;>refine xD 5 52 rfl Za ?_<;>refine xD 6 53 rfl Za ?_<;>refine xD 7 54 rfl (Zq 13 Yk) ?_<;>(refine yD 8 55 rfl (Zr 13 Z1) fun v55 h=>?_;cases h)<;>refine xE 9 56 rfl Za ?_<;>refine xE 10 57 rfl (OH 200 Yc) ?_<;>(refine yE 11 58 rfl (Zfn 200 Yv) fun v58 h=>?_;cases h)<;>refine xE 12 59 rfl Za ?_<;>(refine bD 59 (fun hb59=>?_) (fun hb59=>?_)<;>(first|refine kD 13 60 rfl ?_|refine xD 13 60 rfl Za ?_))<;>(first|refine kD 14 61 rfl ?_|refine xD 14 61 rfl Za ?_)<;>(first|refine kD 15 62 rfl ?_|refine xD 15 62 rfl (Zq 13 Yk) ?_)<;>(first|refine kD 16 63 rfl ?_|(refine yD 16 63 rfl (Zr 13 Z1) fun v63 h=>?_;cases h))<;>(first|refine kD 17 64 rfl ?_|refine xD 17 64 rfl Za ?_)<;>(first|refine kD 18 65 rfl ?_|refine xD 18 65 rfl (OH 200 Yc) ?_)<;>(first|refine kD 19 66 rfl ?_|(refine yD 19 66 rfl (Zfn 200 Yv) fun v66 h=>?_;cases h))<;>(first|refine kD 20 67 rfl ?_|refine xD 20 67 rfl Za ?_)<;>(first|refine kD 21 68 rfl ?_|(refine bD 67 (fun hb67=>?_) (fun hb67=>?_)<;>(first|refine kD 21 68 rfl ?_|refine xD 21 68 rfl Za ?_)))<;>(first|refine kD 22 69 rfl ?_|refine xD 22 69 rfl Za ?_)<;>(first|refine kD 23 70 rfl ?_|refine xD 23 70 rfl (Zq 13 Yk) ?_)<;>(first|refine kD 24 71 rfl ?_|(refine yD 24 71 rfl (Zr 13 Z1) fun v71 h=>?_;cases h))<;>(first|refine kD 25 72 rfl ?_|refine xD 25 72 rfl Za ?_)<;>(first|refine kD 26 73 rfl ?_|refine xD 26 73 rfl (OH 200 Yc) ?_)<;>(first|refine kD 27 74 rfl ?_|(refine yD 27 74 rfl (Zfn 200 Yv) fun v74 h=>?_;cases h))<;>(first|refine kD 28 75 rfl ?_|refine xD 28 75 rfl Zt ?_)<;>refine xE 29 76 rfl Zt ?_<;>refine xE 30 77 rfl (OH 200 Yc) ?_<;>(refine Zk 31 kR ?_)<;>(refine W8 rfl rfl kR fun DQ back=>?_)<;>refine Zi1 200 Yv Ro ?_<;>refine Ze (back _ (nav ?_))<;>try dsimp only)<;>(
 (refine Zo ?_<;>refine xL 78 ZH (xL 44 Za ?_)<;>refine Zc ?_)
 rw [ZaW (by first|exact ZjL hb59|exact ZjM hb59 hb67|exact ZjN hb59 hb67)];refine Zh (
  ⟨j+1,oM⟩
  ) (by dsimp only;omega) ⟨rfl,rfl,rfl,rfl,rfl,rfl,rfl,rfl,rfl,rfl,trivial⟩ ⟨rfl,rfl,trivial⟩))
 · first|exact bN hb45|(
 refine Zd ?_;(refine xL 79 ZH (xL 39 Za ?_)<;>refine Zc ?_)
 rw [show j=n by omega,ZaX];refine Zh (
  ⟨i+1,oM⟩
  ) (by dsimp only;omega) ⟨rfl,rfl,rfl,rfl,rfl,rfl,rfl,trivial⟩ ⟨rfl,rfl,trivial⟩))
 · first|exact bN hb40|(
 refine Zd ?_;(refine xL 80 ZH (xL 34 Za ?_)<;>refine Zc ?_)
 rw [show i=n by omega,ZdW];refine Zh (
  ⟨m+1,oM⟩
  ) (by dsimp only;omega) ⟨rfl,rfl,rfl,rfl,trivial⟩ ⟨rfl,rfl,trivial⟩))
 · first|exact bN hb35|(
 refine Zd ?_;(refine xL 81 Za (xL 2 Zb ?_)<;>refine Zc ?_)
 rw [show m=n by omega];refine YP (Zfl (l:=13) (l':=200) rfl rfl rfl rfl) fun _=>?_;refine YP (En.freeze (l:=13) (t:=2) rfl rfl) fun _=>?_;refine Zl (results51) rfl ?_;exact HT _ _ n (war E n)))
def Zid (n:Nat) (p:Nat→Bool):Bool:=(List.range n).all p
theorem HW {n k:Nat} {p:Nat→Bool} (hk:k<n) (h:p k=false):Zid n p=false:=VE.2 ⟨k,XV.2 hk,by rw [h];simp⟩
theorem Rp {n:Nat} {p:Nat→Bool} (h:∀j,j<n→p j=true):Zid n p=true:=Xj.2 fun j hj=>h j (XV.1 hj)
def endsB (n:Nat) (E:Nat→Nat→Bool) (F:Nat→Bool) (a b:Nat):Bool:= !E a b||(F a&&Zid n fun x=> !F x||E x b)
def Dp (n:Nat) (E:Nat→Nat→Bool) (S:Nat→Bool) (a b:Nat):Bool:= !E b a||(S a&&Zid n fun x=> !S x||E b x)
def Ww (n:Nat) (E:Nat→Nat→Bool) (S F:Nat→Bool) (a b:Nat):Bool:=endsB n E F a b&&Dp n E S a b
def K9 (l:List ByteArray) (n:Nat) (E:Nat→Nat→Bool) (S F:Nat→Bool):PV:= .sptr 0 [ZT l,E2 n E,Wv n S,Wv n F]
set_option maxHeartbeats 1000000 in
theorem Zgk (l : List ByteArray) (n:Nat) (E:Nat→Nat→Bool) (S F:Nat→Bool) (a b:Nat) (hl:l.length=n) (hn:n≤1000) (ha:a<n) (hb:b<n):AF prog 63 [K9 l n E S F,Zf a,Zf b] (· =ZB (Ww n E S F a b)):=by
 have ea:=Yp (fun i=>Wv n (E i)) ha
 have eb:=Yp (fun i=>Wv n (E i)) hb
 have eab:=Yp (fun j=>ZB (E a j)) hb
 have eba:=Yp (fun j=>ZB (E b j)) ha
 have fa:=Yp (fun j=>ZB (F j)) ha
 have sa:=Yp (fun j=>ZB (S j)) ha
 refine AF.of_body 103 func63 rfl ntmps63 (Xa rfl) ?_
 intro w0 M0 vs hl hv
 obtain ⟨v0,v1,v2,rfl⟩:=RI hl
 obtain rfl:=hv 1 _ _ rfl rfl
 obtain rfl:=hv 2 _ _ rfl rfl
 clear hl hv
 dsimp only [K9]
 refine Zd ?_
 (refine xL 6 Zb ?_<;>refine Zi ?_)
 (refine xL 9 Za (xL 10 Y0 (xL 11 (YN WA) ?_))<;>(refine yL 12 (ZN Y') fun v12 h=>?_;cases h)<;>refine xL 13 Za (xL 14 (Zv Yk) ?_)<;>(refine yL 15 (ZN Z1) fun v15 h=>?_;cases h)<;>refine xL 16 Za (xL 17 (Zv Yc) ?_)<;>(refine yL 18 (ZN Yv) fun v18 h=>?_;cases h)<;>refine Zc ?_)
 refine Js (fun x:{x:Unit//endsB n E F a b=true}=>⟨[(0,v0,K9 l n E S F),(1, .int .i64 a,Zf a),(2, .int .i64 b,Zf b)],[]⟩) ?_ ?_
 · refine cX ?_ ?_ <;>intro hb18
   · first | exact bN hb18|(
 refine Zd ?_;(refine xL 19 Za (xL 20 Y0 (xL 21 (YN Gg) ?_))<;>(refine yL 22 (ZN Z1) fun v22 h=>?_;cases h)<;>refine xL 23 Za (xL 24 (Zv Yc) ?_)<;>(refine yL 25 (ZN Yv) fun v25 h=>?_;cases h)<;>refine xL 26 Yd ?_<;>refine Zc ?_)
 refine cX ?_ ?_<;>intro hb26
 · first|exact bN hb26|(
 refine Zd ?_;(refine xL 6 Zb ?_<;>refine Zc ?_)
 refine Zl (results63) rfl ?_;rw [show Ww n E S F a b=false by unfold Ww endsB;rw [hb18,show F a=false by simpa using hb26];simp])
 · first | exact bN hb26|(
 refine Zd ?_;(refine xL 27 Za (xL 28 Y0 (xL 29 (YN WY) ?_))<;>(refine yL 30 (ZN ZX) fun v30 h=>?_;cases h)<;>refine xL 31 (ZF Zx) (xL 32 Za ?_)<;>refine Zc ?_)
 refine Zy (ι:={k:Nat//k≤n∧∀j,j<k→(!F j||E j b)=true}) (fun k=>⟨[(0,_,_),(1,_,_),(2,_,_),(31,_,_),(32, .int .i64 k.1,Zf k.1)],[]⟩) (fun k=>n-k.1) ⟨0,oM,oM⟩ (fun a w H=>H.weaken ⟨rfl,rfl,rfl,rfl,rfl,trivial⟩ trivial) ?_;rintro ⟨k,hk,hp⟩;dsimp only;refine Zd ?_;(refine xL 33 ZI ?_<;>refine Zc ?_)
 refine cX ?_ ?_<;>intro hb33
 · first | exact bN hb33|(
 have hlt:k<n:=oM;have fk:=Yp (fun j=>ZB (F j)) hlt;have ek:=Yp (fun i=>Wv n (E i)) hlt;have ekb:=Yp (fun j=>ZB (E k j)) hb;refine Zd ?_;(refine xL 34 Za (xL 7 Zb ?_)<;>refine Zi ?_)
 (refine xL 35 Za (xL 36 Y0 (xL 37 (YN Gg) ?_))<;>(refine yL 38 (ZN Z1) fun v38 h=>?_;cases h)<;>refine xL 39 Za (xL 40 (Zv Yc) ?_)<;>(refine yL 41 (ZN Yv) fun v41 h=>?_;cases h)<;>refine xL 42 Za ?_<;>(refine bL 42 (fun hb42=>?_) (fun hb42=>?_)<;>(first|refine kL 43 ?_|refine xL 43 Za ?_))<;>(first|refine kL 44 ?_|refine xL 44 Y0 ?_)<;>(first|refine kL 45 ?_|refine xL 45 (YN WA) ?_)<;>(first|refine kL 46 ?_|(refine yL 46 (ZN Y') fun v46 h=>?_;cases h))<;>(first|refine kL 47 ?_|refine xL 47 Za ?_)<;>(first|refine kL 48 ?_|refine xL 48 (Zv Yk) ?_)<;>(first|refine kL 49 ?_|(refine yL 49 (ZN Z1) fun v49 h=>?_;cases h))<;>(first|refine kL 50 ?_|refine xL 50 Za ?_)<;>(first|refine kL 51 ?_|refine xL 51 (Zv Yc) ?_)<;>(first|refine kL 52 ?_|(refine yL 52 (ZN Yv) fun v52 h=>?_;cases h))<;>(first|refine kL 53 ?_|refine xL 53 Yd ?_)<;>refine xL 54 Zt ?_<;>refine Zc ?_)<;>(
 refine cX ?_ ?_<;>intro hb54
 · first|exact bN hb54|(
 refine Zd ?_;(refine xL 6 Zb ?_<;>refine Zc ?_)
 refine Zl (results63) rfl ?_;rw [show Ww n E S F a b=false by unfold Ww endsB;rw [hb18,HW hlt (by rw [hb42,show E k b=false by simpa using hb54];rfl)];simp])
 · first |exact bN hb54|(
 refine Zd ?_;(refine xL 55 ZH (xL 32 Za ?_)<;>refine Zc ?_)
 refine Zh (
  ⟨k +1,oM,fun j hj=>by
   by_cases e:j=k
   · subst e
     first|(rw [hb42];simpa using hb54)|(rw [hb42];rfl)
   · exact hp j oM⟩
  ) (by dsimp only;omega) ⟨rfl,rfl,rfl,rfl,rfl,trivial⟩ trivial)))
 · first|exact bN hb33|(
 refine nav ?_;refine YM ⟨(),?_⟩ ⟨rfl,rfl,rfl,trivial⟩ trivial
 first
  |(unfold endsB;rw [hb18,show F a=true by simpa using hb26,Rp fun j hj=>hp j oM];rfl)
  |(unfold endsB;rw [hb18];rfl))))
   · first|exact bN hb18|(
 refine nav ?_;refine YM ⟨(),?_⟩ ⟨rfl,rfl,rfl,trivial⟩ trivial
 first
  |(unfold endsB;rw [hb18,show F a=true by simpa using hb26,Rp fun j hj=>hp j oM];rfl)
  |(unfold endsB;rw [hb18];rfl))
 · rintro ⟨_, hends⟩;dsimp only [K9];refine Zd ?_;(refine xL 56 Za (xL 57 Y0 (xL 58 (YN WA) ?_))<;>(refine yL 59 (ZN Y') fun v59 h=>?_;cases h)<;>refine xL 60 Za (xL 61 (Zv Yk) ?_)<;>(refine yL 62 (ZN Z1) fun v62 h=>?_;cases h)<;>refine xL 63 Za (xL 64 (Zv Yc) ?_)<;>(refine yL 65 (ZN Yv) fun v65 h=>?_;cases h)<;>refine Zc ?_)
   refine cX ?_ ?_<;>intro hb65
   · first | exact bN hb65|(
 refine Zd ?_;(refine xL 66 Za (xL 67 Y0 (xL 68 (YN Gf) ?_))<;>(refine yL 69 (ZN Z1) fun v69 h=>?_;cases h)<;>refine xL 70 Za (xL 71 (Zv Yc) ?_)<;>(refine yL 72 (ZN Yv) fun v72 h=>?_;cases h)<;>refine xL 73 Yd ?_<;>refine Zc ?_)
 refine cX ?_ ?_<;>intro hb73
 · first|exact bN hb73|(
 refine Zd ?_;(refine xL 6 Zb ?_<;>refine Zc ?_)
 refine Zl (results63) rfl ?_;rw [show Ww n E S F a b=false by unfold Ww Dp;rw [hb65,show S a=false by simpa using hb73];simp])
 · first | exact bN hb73|(
 refine Zd ?_;(refine xL 74 Za (xL 75 Y0 (xL 76 (YN WY) ?_))<;>(refine yL 77 (ZN ZX) fun v77 h=>?_;cases h)<;>refine xL 78 (ZF Zx) (xL 79 Za ?_)<;>refine Zc ?_)
 refine Zy (ι:={k:Nat//k≤n∧∀j,j<k→(!S j||E b j)=true}) (fun k=>⟨[(0,_,_),(1,_,_),(2,_,_),(78,_,_),(79, .int .i64 k.1,Zf k.1)],[]⟩) (fun k=>n-k.1) ⟨0,oM,oM⟩ (fun a w H=>H.weaken ⟨rfl,rfl,rfl,rfl,rfl,trivial⟩ trivial) ?_;rintro ⟨k,hk,hp⟩;dsimp only;refine Zd ?_;(refine xL 80 ZI ?_<;>refine Zc ?_)
 refine cX ?_ ?_<;>intro hb80
 · first | exact bN hb80|(
 have hlt:k<n:=oM;have fk:=Yp (fun j=>ZB (S j)) hlt;have ekb:=Yp (fun j=>ZB (E b j)) hlt;refine Zd ?_;(refine xL 81 Za (xL 8 Zb ?_)<;>refine Zi ?_)
 (refine xL 82 Za (xL 83 Y0 (xL 84 (YN Gf) ?_))<;>(refine yL 85 (ZN Z1) fun v85 h=>?_;cases h)<;>refine xL 86 Za (xL 87 (Zv Yc) ?_)<;>(refine yL 88 (ZN Yv) fun v88 h=>?_;cases h)<;>refine xL 89 Za ?_<;>(refine bL 89 (fun hb89=>?_) (fun hb89=>?_)<;>(first|refine kL 90 ?_|refine xL 90 Za ?_))<;>(first|refine kL 91 ?_|refine xL 91 Y0 ?_)<;>(first|refine kL 92 ?_|refine xL 92 (YN WA) ?_)<;>(first|refine kL 93 ?_|(refine yL 93 (ZN Y') fun v93 h=>?_;cases h))<;>(first|refine kL 94 ?_|refine xL 94 Za ?_)<;>(first|refine kL 95 ?_|refine xL 95 (Zv Yk) ?_)<;>(first|refine kL 96 ?_|(refine yL 96 (ZN Z1) fun v96 h=>?_;cases h))<;>(first|refine kL 97 ?_|refine xL 97 Za ?_)<;>(first|refine kL 98 ?_|refine xL 98 (Zv Yc) ?_)<;>(first|refine kL 99 ?_|(refine yL 99 (ZN Yv) fun v99 h=>?_;cases h))<;>(first|refine kL 100 ?_|refine xL 100 Yd ?_)<;>refine xL 101 Zt ?_<;>refine Zc ?_)<;>(
 refine cX ?_ ?_<;>intro hb101
 · first|exact bN hb101|(
 refine Zd ?_;(refine xL 6 Zb ?_<;>refine Zc ?_)
 refine Zl (results63) rfl ?_;rw [show Ww n E S F a b=false by unfold Ww Dp;rw [hb65,HW hlt (by rw [hb89,show E b k=false by simpa using hb101];rfl)];simp])
 · first |exact bN hb101|(
 refine Zd ?_;(refine xL 102 ZH (xL 79 Za ?_)<;>refine Zc ?_)
 refine Zh (
  ⟨k +1,oM,fun j hj=>by
   by_cases e:j=k
   · subst e
     first|(rw [hb89];simpa using hb101)|(rw [hb89];rfl)
   · exact hp j oM⟩
  ) (by dsimp only;omega) ⟨rfl,rfl,rfl,rfl,rfl,trivial⟩ trivial)))
 · first|exact bN hb80|(
 refine Zd ?_;(refine xL 6 Zb ?_<;>refine Zc ?_)
 refine Zl (results63) rfl ?_
 first
  |rw [show Ww n E S F a b=true by unfold Ww Dp;rw [hends,hb65,show S a=true by simpa using hb73,Rp fun j hj=>hp j oM];rfl]
  |rw [show Ww n E S F a b=true by unfold Ww Dp;rw [hends,hb65];rfl])))
   · first|exact bN hb65|(
 refine Zd ?_;(refine xL 6 Zb ?_<;>refine Zc ?_)
 refine Zl (results63) rfl ?_
 first
  |rw [show Ww n E S F a b=true by unfold Ww Dp;rw [hends,hb65,show S a=true by simpa using hb73,Rp fun j hj=>hp j oM];rfl]
  |rw [show Ww n E S F a b=true by unfold Ww Dp;rw [hends,hb65];rfl])
def E4 (g:Dfg) (p:PV):Prop:=p=if Gq g then .tup [Zib g,Zf 0] else .tup [.val (.pointer none),Zf 1]
theorem Zgl (g:Dfg) (hf:ZjK g) (ha:g.acts.length≤1000000) (hs:g.starts.length≤1000000) (he:g.ends.length≤1000000):AF prog 46 [KZ g] (E4 g):=by
 refine AF.of_body 9 func46 rfl ntmps46 (Xa rfl) ?_
 intro w0 M0 vs hl hv
 obtain ⟨v0,rfl⟩:=YG hl
 clear hl hv
 refine Zd ?_
 (refine Yi 1 4 fun h1=>?_<;>refine xL 2 Zb (xL 3 Zb ?_)<;>refine Zi ?_)
 ((refine yL 4 (Zu 1 YA) fun v4 h=>?_;cases h)<;>(refine cS 5 (cA call103 (Zgf g hf ha hs he)) fun v5 h=>?_;cases h)<;>refine xL 6 Yd ?_<;>refine Zc ?_)
 refine cX ?_ ?_<;>intro hb6
 · first|exact bN hb6|(
 refine Zd ?_;(refine xL 2 Zb (xL 3 Zb ?_)<;>refine Zc ?_)
 refine YO (results46) rfl rfl ?_;unfold E4;rw [show Gq g=false by simpa using hb6];rfl)
 · first|exact bN hb6|(
 refine Zd ?_;((refine yL 7 (Zu 1 YA) fun v7 h=>?_;cases h)<;>(refine cS 8 (cA call104 (Zkx g (by simpa using hb6) hf.2.2.2.1 hf.2.1.1 hf.2.2.1.1)) fun v8 h=>?_;cases h)<;>refine xL 2 Zb (xL 3 Zb ?_)<;>refine Zc ?_)
 refine YO (results46) rfl rfl ?_;unfold E4;rw [show Gq g=true by simpa using hb6];rfl)
theorem ζr {l:List ByteArray} {s:ByteArray} (h:s∈l):hasStr l s=true:=by unfold hasStr;rw [Vs];exact ⟨s,h,WL.2 rfl⟩
end Go.Proofs.YtmkojdfiadbeeaaGreat
namespace Go.Cb
open Go.En
set_option linter.all false
structure Grows (n:Nat) (E R:Nat→Nat→Bool):Prop where
 lo:∀i j,i<n→j<n→E i j=true→R i j=true
 hi:∀T,Closed n E T→∀i j,i<n→j<n→R i j=true→T i j=true
def Before (a b c a' b' c':Nat):Prop:=a'<a∨(a'=a∧(b'<b∨(b'=b∧c'<c)))
structure Pass (n:Nat) (E R0 R:Nat→Nat→Bool) (ag:Bool) (a b c:Nat):Prop where
 gr:Grows n E R
 dn:ag=true→cntM n R<cntM n R0
 st:ag=false→R=R0∧∀a' b' c',a'<n→b'<n→c'<n→Before a b c a' b' c'→R0 a' b'=true→R0 b' c'=true→R0 a' c'=true
end Go.Cb
