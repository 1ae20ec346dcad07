/-
  Walks: the reference's automata: the classes of a table's states.
  Walks: the reference's automata: the automaton of a table.
  Walks: the reference's automata: the least automaton of a table.
  Walks: the reference's automata: Minimal and Complement.
  Walks: automata: moves are sorted, each is kept once.
  The engine: four operations that come up together. No program in sight.
  Walks: automata: what an operation made is minimized; Star.
  Plain laws: what the reference finishes; a move put in its place. No program in sight.
  Plain laws: shuffles. No program in sight.
  Plain laws: the words of unions, concatenations, stars, reversals, shuffles. No program in sight.
  Plain laws: how what a search has met was met; ways back; turning round. No program in sight.
  Plain laws: searches go by ages; first words of products. No program in sight.
  Plain laws: minimal automata are unique; first differences. No program in sight.
  Plain: process trees: their order, valid ones, normal forms. No program in sight.
  Process trees: turned trees have the same normal form; a normal form is its own, and has the tree's activities. Plain Lean.
  The languages of process trees; a normal form has the tree's language. Plain Lean.
  Trees with the parts of choices and mixtures in another order have the same language. Plain Lean.
  Plain laws: automata of trees. No program in sight.
  Plain laws: the operations on automata are those on languages of names. No program in sight.
-/
import Derived.Test.YtgfabnhpllkebaaGreatDoorPk05
import Derived.Test.YtgfabnhpllkebaaGreatDoorMShelfF
import Derived.Test.YtgfabnhpllkebaaGreatDoorPk03
import Derived.Test.YtgfabnhpllkebaaGreatDoorPk02
import Derived.Test.YtgfabnhpllkebaaGreatDoorPk01
namespace Go.Proofs.YtgfabnhpllkebaaGreatDoor
open Go.RowKit Go.Cb Go.En
set_option linter.all false
set_option maxRecDepth 100000
theorem Zqq {P:Program} {c:Ctx} {sL hP:List (Nat×Ent)} {ops:Array Oper} {Q:Exit→Act→World→Prop} {o:Oper} {rest:List Oper} {fs g k e d l:Nat} {cs:List PV} {h:Value} {q q':PV} {x y:Operand} {ats:Array TypeId} (hS:∀(p:Option Addr) (cap:Nat) (fv:Value) (w:World),Calls P fs #[.slice p 0 cap,fv] w fun e w'=>e= .returned (.tuple #[])∧w'=w)
 (hw:ζ2 ops sL o=some true) (hd:o.dst=some d) (hdn:d<c.nt) (ho:o.op= .call {callee:= .value (.func fs),args:= #[x,y],argTypes:=ats}) (hc:∀args w,(callFunc fs args).run P w= .ok (.enter fs args) w) (hx:ev sL x=some (h,q)) (hy:ev sL y=some (.func (.func g) #[] #[],q')) (hl:lk hP l=some (h, .own e k 0 cs))
 (kk:aL P c ops Q rest ⟨put d (.tuple #[], .val (.tuple #[])) sL,hP⟩):aL P c ops Q (o::rest) (⟨sL,hP⟩:St):=
 Zav hw fun a w F H=>by
  have hxv:=(H.rd.ev hx).1;have hyv:=(H.rd.ev hy).1;obtain ⟨xs,Fs,hrow,_⟩:=(H.tr l _ _ hl).row;obtain ⟨p,cap,rfl⟩:∃p cap,h= .slice p 0 cap:=by
   rcases ZaD hrow with ⟨h1,_⟩|⟨g,cap,h1,_⟩
   · exact ⟨_,_,h1⟩
   · exact ⟨_,_,h1⟩
  unfold Oper.wp;have hrun:(execOp a.eval o).run P w= .ok (.enter fs #[.slice p 0 cap, .func (.func g) #[] #[]]) w:=by
   have hev:a.eval (.func fs)= .func (.func fs) #[] #[]:=rfl;simp [execOp,ho,resolve,Deferred.ofValue,hev,invoke,hxv,hyv,hc]
  rw [hrun,Oper.upon_enter];refine (hS p cap _ w).mono fun e' w' ⟨he',hw'⟩=>?_;subst he' hw';rw [hd];exact kk _ _ ⟨F,H.put hdn (.val _)⟩
theorem ZcR {a b:Mv}:Zfs a b<0↔Zd3 a b=true:=by unfold Zd3;rw [decide_eq_true_eq]
theorem ZmV (a:Mv):¬Zfs a a<0:=fun h=>by have:=ZcR.1 h;rw [Zd5] at this;cases this
theorem Zqr (a b c:Mv) (h1:Zfs a b<0) (h2:Zfs b c<0):Zfs a c<0:=ZcR.2 (ZfH (ZcR.1 h1) (ZcR.1 h2))
theorem Zqs (a b c:Mv) (h1:¬Zfs a b<0) (h2:¬Zfs b c<0):¬Zfs a c<0:=fun h=>by
 rw [ZcR,ZcQ] at h1 h2 h
 omega
def ZmW (l:List Mv):Prop:=∀(i j:Nat) (a b:Mv),i<j→l[i]? =some a→l[j]? =some b→¬Zfs b a<0
theorem ZrU {l:List Mv} (h:ZmW l) (hn:l.Nodup):AscM l:=by
 unfold AscM
 rw [VY]
 intro i j hi hj hij
 have h1:=h i j l[i] l[j] hij (XE hi) (XE hj)
 rw [ZcR] at h1
 cases h2:Zd3 l[i] l[j] with
 |true=>rfl
 | false=>
   have h3:=ZhM h2 (by simpa using h1);exact absurd (List.getElem_inj hn |>.1 h3) (by omega)
theorem Zxc {l:List Mv} (h:AscM l) {k:Nat} {x y:Mv} (hy:l[k]? =some y) (hx:l[k+1]? =some x):eqM x y=false:=by
 have h1:=VY.1 h k (k+1) (ζi hy) (ζi hx) (by omega)
 rw [(XF.1 hy).2,(XF.1 hx).2] at h1
 cases h2:eqM x y with
 |false=>rfl
 |true=>rw [ZcK.1 h2,Zd5] at h1;cases h1
theorem ZCH:Tryz.prog.underlying 93=some (.struct (Tryz.prog.fieldsOf 93)):=by kernel_rfl
theorem ZCI:Tryz.prog.stoodInHeld 93=false:=by kernel_rfl
theorem ZCJ:Tryz.prog.eqGuardType Tryz.prog.depth 93=false:=by kernel_rfl
def vMv (m:Mv):List Value:=[Value.int .i64 m.src, .int .i64 m.dst, .int .i64 m.sym]
theorem ZeG (x y:Mv) (w:World):(Op.eqFields 9999 (vMv x).toArray (vMv y).toArray (Tryz.prog.fieldsOf 93).toList).run Tryz.prog w= .ok (eqM x y) w:=by
 unfold vMv eqM
 simp only [Program.fieldsOf,Tryz.underlying93]
 simp [Op.eqFields,part,run_equalIn_int w 9998 3 .i64 .i64 x.src y.src Tryz.underlying3,run_equalIn_int w 9998 3 .i64 .i64 x.dst y.dst Tryz.underlying3,run_equalIn_int w 9998 3 .i64 .i64 x.sym y.sym Tryz.underlying3]
 by_cases h1:x.src=y.src<;>by_cases h2:x.dst=y.dst<;>by_cases h3:x.sym=y.sym<;>simp [h1,h2,h3]
theorem Zax (l:List Mv) (hl:l.length≤1000000):AF Tryz.prog 138 [pMvs l] (· = .own 93 3 l.length (l.flatMap cMv)):=by
 refine AF.of_body 8 Tryz.func138 rfl Tryz.ntmps138 (Xa rfl) ?_
 intro w0 M0 vs hl hv
 obtain ⟨v0,rfl⟩:=ZcP hl
 clear hl hv
 have f3:(l.flatMap cMv).length=l.length*3:=flat_len ζ0 l
 have f4:(l.flatMap cMv).all En.one=true:=Zto l
 refine nav ?_
 (refine ζa ?_<;>refine xL 2 ζc ?_<;>refine ζd ?_)
 (refine ζa ?_<;>refine xL 3 ζb ?_<;>(refine yL 4 (Ztm ζG) fun v4 hv4=>?_;rcases hv4 with rfl|⟨rfl,hn0⟩)<;>refine ζd ?_)<;>(
  (first|refine cCd ?_ ?_|refine cC ?_ ?_)<;>intro hb4
  · first
    |exact bN hb4
    | (
     refine nav ?_;(refine ζa ?_<;>refine xL 2 ζc ?_<;>refine ζd ?_)
     have hl0:l=[]:=XP hn0;subst hl0;refine Zcr (Zek 200 93 3 rfl) fun _=>?_;exact Zet 200 (Tryz.results138) rfl rfl rfl)
  · first
    |exact bN hb4
    | (
     refine nav ?_;(refine ζa ?_<;>refine Zmb 5 ζR fun h5 ho5=>?_<;>refine xL 6 ζb ?_<;>refine Zev 5 7 ζR (fun h7 ho7=>?_) f3 f4<;>refine xL 2 ζc ?_<;>refine ζd ?_)
     refine Zet 7 (Tryz.results138) rfl rfl ?_;rw [Xx,Vf]))
theorem Zzd:AggT Tryz.prog 93 3=true:=by kernel_rfl
theorem Zqt:ZCq Tryz.prog 188 153 3:=fun enc hk h1 cf hO blk cap d w hcmp hH hblk hsz=>
 AnyQ.slices_SortFunc Tryz.sortMvL 3 (fun w=>AggT.run Zzd w) (fun w=>AggT.size Zzd w) enc hk h1 cf hO 153 #[] blk 0 cap d w (Tryz.call153) hcmp hH hblk hsz
theorem ZiH (p:Option Addr) (cap:Nat) (fv:Value) (w:World):Calls Tryz.prog 188 #[.slice p 0 cap,fv] w fun e w'=>e= .returned (.tuple #[])∧w'=w:=(AnyF.slices_SortFunc_none Tryz.sortMvL p cap fv w).mono fun e w' ⟨h1,h2⟩=>⟨h1,h2⟩
theorem ZmX (x y:Mv) (M:BS) (W:World) (u v:Value) (hu:Shr M W u (.agg (cMv x))) (hv:Shr M W v (.agg (cMv y))):Calls Tryz.prog 153 #[u,v] W fun e w'=>e= .returned (.int .i64 (Zfs x y))∧∃q os',w'=Go.Sort.grow (W.drewN q) os':=(Zim x y).exact2 hu hv
theorem Zld (l:List Mv) (hl:l.length≤1000000) (ha:AscM l) (hv:Value):AFh False Tryz.prog 189 [(0,hv, .val hv)] [(1000,hv, .own 93 3 l.length (l.flatMap cMv))] (fun v q h=>v=hv∧q= .val hv∧h=[(1000,hv, .own 93 3 l.length (l.flatMap cMv))]):=by
 refine AFh.of_body 61 Tryz.func189 rfl Tryz.ntmps189 (Xa rfl) rfl ?_
 intro w0 M0 N0
 refine nav ?_
 (refine ζa ?_<;>refine xL 2 ζc ?_<;>refine ζd ?_)
 (refine ζa ?_<;>refine xL 6 ζb (xL 7 (Zbw 1000 ζG) (xL 8 ζP ?_))<;>refine ζd ?_)
 (first|refine cCd ?_ ?_|refine cC ?_ ?_)<;>intro hb8
 · first
   |exact bN hb8
   | (
    refine nav ?_;(refine ζa ?_<;>refine xL 9 ζb (xL 2 ζc ?_)<;>refine ζd ?_)
    exact ZfE [(1000,hv,PV.own 93 3 l.length (l.flatMap cMv))] (Tryz.results189) rfl ⟨rfl,trivial⟩ ⟨rfl,rfl,rfl⟩)
 · first
   |exact bN hb8
   | (
    refine nav ?_;(refine ζa ?_<;>refine xL 3 ζc ?_<;>refine ζd ?_)
    refine ζD (ι:={k:Nat//1≤k∧k≤l.length}) (fun k=>⟨[(0,_,_),(3, .int .i64 k.1,pInt k.1)],[(1000,_,_)]⟩) (fun k=>l.length-k.1) ⟨1,Xb _,by omega⟩ (fun a w H=>H.weaken ⟨rfl,rfl,trivial⟩ ⟨rfl,trivial⟩) ?_;rintro ⟨k1,hk1,hk⟩;dsimp only;obtain ⟨k,rfl⟩:∃k,k1=k+1:=⟨k1-1,by omega⟩;refine nav ?_;(refine ζa ?_<;>refine xL 10 ζb (xL 11 ζb (xL 12 (Zbw 1000 ζG) (xL 13 ζP ?_)))<;>refine ζd ?_)
    (first|refine cCd ?_ ?_|refine cC ?_ ?_)<;>intro hb13
    · first
      |exact bN hb13
      | (
       obtain ⟨x,hx⟩:=ζo (show k+1<l.length by omega);obtain ⟨y,hy⟩:=ζo (show k<l.length by omega);have e1:=Zad ζ0 l (k+1) x hx;have e2:=ZaE ζ0 hx;(have e3:((l.flatMap cMv).drop ((((k+1:Nat):Int)-1).toNat*3)).take 3=cMv y:=by rw [show (((k+1:Nat):Int)-1).toNat*3=k*3 by omega];exact Zad ζ0 l k y hy);have e4:=ZaE ζ0 hy;have hne:=Zxc ha hy hx;refine nav ?_;(refine ζV (fun i=>([]:List Nat).elem i) [1000] kR ?_<;>refine xD 0 16 rfl ζb ?_<;>refine xD 1 17 rfl ζb ?_<;>refine xD 2 18 rfl (ζu 1000 ζG) ?_<;>(refine yD 3 19 rfl (ζm 1000 ζT) fun v19 h=>?_;cases h)<;>refine xD 4 20 rfl ζb ?_<;>refine xE 5 21 rfl ζb ?_<;>refine xE 6 22 rfl ZgB ?_<;>refine xE 7 23 rfl (Zma 1000 ζG) ?_<;>(refine yE 8 24 rfl (ζm 1000 ζT) fun v24 h=>?_;cases h)<;>refine xE 9 25 rfl ((ZtA (us:=vMv x) (us':=vMv y) ZCH ZCI ZCJ (ZeG x y) rfl rfl)) ?_<;>refine Zae kR (nav ?_)<;>try dsimp only)
       (first|refine cCd ?_ ?_|refine cC ?_ ?_)<;>intro hb25
       · rw [hne] at hb25;cases hb25
       · refine nav ?_;(refine ζa ?_<;>refine xL 14 ζb (xL 15 ζM (xL 3 ζc ?_))<;>refine ζd ?_)
         refine ζh (
          ⟨k+1+1,by omega,by omega⟩
          ) (by dsimp only;omega) ⟨rfl,rfl,trivial⟩ ⟨rfl,trivial⟩)
    · first
      |exact bN hb13
      | (
       refine nav ?_;(refine ζa ?_<;>refine xL 60 ζb (xL 2 ζc ?_)<;>refine ζd ?_)
       exact ZfE [(1000,hv,PV.own 93 3 l.length (l.flatMap cMv))] (Tryz.results189) rfl ⟨rfl,trivial⟩ ⟨rfl,rfl,rfl⟩))
end Go.Proofs.YtgfabnhpllkebaaGreatDoor
namespace Go.En
open Go.RowKit Go.Cb
set_option linter.all false
section
variable {P:Program} {c:Ctx} {ops:Array Oper} {Q:Exit→Act→World→Prop} {Z:Nat→Bool} {K:List Nat} {fuel:Nat} {listed:Array Bool} {sL hP:List (Nat×Ent)} {o:Oper}
theorem ZAr (i j k l:Nat) (hr:Region.ready .any ops listed=[i,j,k,l]) (h:aW P c ops Q Z K fuel listed (⟨sL,hP⟩:St) i) (h':aW P c ops Q Z K fuel listed (⟨sL,hP⟩:St) j) (h'':aW P c ops Q Z K fuel listed (⟨sL,hP⟩:St) k) (h3:aW P c ops Q Z K fuel listed (⟨sL,hP⟩:St) l):aD P c ops Q Z K (fuel+1) listed (⟨sL,hP⟩:St):=fun a w F H C hC=>
 ⟨(fun hn=>by rw [hr] at hn;cases hn),fun m hm=>by
   rw [hr] at hm;rcases (by simpa using hm:m=i∨m=j∨m=k∨m=l) with rfl|rfl|rfl|rfl
   · exact h a w F H C hC
   · exact h' a w F H C hC
   · exact h'' a w F H C hC
   · exact h3 a w F H C hC⟩
end
end Go.En
namespace Go.Proofs.YtgfabnhpllkebaaGreatDoor
open Go.RowKit Go.Cb Go.En
set_option linter.all false
set_option maxRecDepth 100000
theorem Zt9 {l r:List Mv} (hp:r.Perm l) (hs:ZmW r) (hn:l.Nodup):r=mkM l:=ZtF (ZrU hs (hp.nodup_iff.2 hn)) fun x=>hp.mem_iff
theorem Zj2 {l:List Mv} (hn:l.Nodup):(mkM l).length=l.length:=by
 refine Nat.le_antisymm (Zok l) ?_
 have : ∀{l:List Mv} {m:List Mv},l.Nodup→(∀x∈l,x∈m)→l.length≤m.length:=fun {l}=>by
  induction l with
  |nil=>intro m _ _;exact Xf _
  | cons x l ih=>
    intro m h hm;rw [Vs] at h;obtain ⟨a,b,rfl⟩:=List.append_of_mem (hm x (Xk ..));have:=ih (m:=a++b) h.2 fun y hy=>by
     rcases Xp.1 (hm y (Xj _ hy)) with h1|h1
     · exact X5 _ h1
     · rcases Xm.1 h1 with rfl|h1
       · exact absurd hy h.1
       · exact X6 _ h1
    simp only [Xd,Xc] at this ⊢;omega
 exact this hn fun x hx=>ZcL.2 hx
structure R5 (p0 p1 p2 p3 p4:PV):Prop where
 o:En.one p0=true∧En.one p1=true∧En.one p2=true∧En.one p3=true∧En.one p4=true
 s:[p0,p1,p2,p3,p4].all isSh=true
 d:shD (.agg [p0,p1,p2,p3,p4])=true
theorem R5.aut (A:Aut):R5 (pInt A.n) (pInt A.syms) (pInts A.start) (pInts A.fin) (pMvs A.moves):=⟨⟨rfl,rfl,rfl,rfl,rfl⟩,rfl,rfl⟩
theorem R5.raw:R5 (pInt 0) (pInt 0) (.val (.slice none 0 0)) (.val (.slice none 0 0)) (.val (.slice none 0 0)):=⟨⟨rfl,rfl,rfl,rfl,rfl⟩,rfl,rfl⟩
theorem R5.t {p0 p1 p2 p3 p4:PV} (h:R5 p0 p1 p2 p3 p4) (E:Int):shD (.tup [.agg [p0,p1,p2,p3,p4],pInt E])=true:=by
 show (shD (.agg [p0,p1,p2,p3,p4])&&(true&&true))=true
 rw [h.d];rfl
theorem Zov (a:Aut) (hl:a.moves.length≤1000000) (hnd:a.moves.Nodup) (V hM:Value) (hMo:hM.oneCell'=true) {p0 p1 p2 p3 p4:PV} {E:Int} (h5:R5 p0 p1 p2 p3 p4) (hr:AF Tryz.prog 132 [Zap (mkA a)] (· = .tup [.agg [p0,p1,p2,p3,p4],pInt E])):AFh False Tryz.prog 137 [(0,V, .agg [pInt a.n,pInt a.syms,pInts a.start,pInts a.fin, .val hM])] [(1000,hM, .own 93 3 a.moves.length (a.moves.flatMap cMv))] (fun v q h=>(∃V1:Value,v= .tuple [V1, .int .i64 E].toArray)∧q= .tup [.agg [p0,p1,p2,p3,p4],pInt E]∧h=[]):=by
 obtain ⟨o0,o1,o2,o3,o4⟩:=h5.o
 refine AFh.of_body 15 Tryz.func137 rfl Tryz.ntmps137 (Xa rfl) rfl ?_
 intro w0 M0 N0
 have hone:En.one (PV.val hM)=true:=hMo
 refine nav ?_
 (refine ζa ?_<;>refine ζS 1 5 fun h1=>?_<;>refine ζs [(.int .i64 0),(.int .i64 0),(.slice none 0 0),(.slice none 0 0),(.slice none 0 0)] 5 2 ζL fun h2=>?_<;>refine xL 3 ζc ?_<;>refine ζd ?_)
 (refine ζa ?_<;>refine xL 4 (ζe 1 ζw) ?_<;>(refine yL 5 (ζk 1 ζF) fun v5 h=>?_;cases h)<;>(rcases VV a.moves.length with h0|h0<;>first|(refine ζq (ζI (l:=1000) (p':= .own 93 3 0 []) rfl (by rw [XP h0];rfl)) fun _=>?_;refine Zqq (l:=1000) ZiH rfl rfl (Xa rfl) rfl (Tryz.call188) rfl rfl rfl ?_;refine ζq (ζI (l:=1000) (p':= .own 93 3 (mkM a.moves).length ((mkM a.moves).flatMap cMv)) rfl (by rw [XP h0];rfl)) fun _=>?_)|(refine Ztc (l:=1000) (β:=Mv) (f:=cMv) (cmp:=Zfs) (rows:=a.moves) Zqt ζ0 (by decide) (fun _=>rfl) ZmV Zqr Zqs (fun x y M W u v _ _ hu hv=>ZmX x y M W u v hu hv) h0 (by omega) rfl rfl (Xa rfl) rfl (Tryz.call188) rfl rfl rfl (fun rows' hperm hord=>?_);refine ζq (ζI (l:=1000) (p':= .own 93 3 (mkM a.moves).length ((mkM a.moves).flatMap cMv)) rfl (by rw [Zt9 hperm hord hnd,Zj2 hnd])) fun _=>?_))<;>refine ζd ?_)<;>(
  (refine ζa ?_<;>refine xL 7 (ζe 1 ζw) ?_<;>(refine yL 8 (ζk 1 ζF) fun v8 h=>?_;cases h)<;>(refine ζ3 [(1000,hM,PV.own 93 3 (mkM a.moves).length ((mkM a.moves).flatMap cMv)),(1,_,_),(2,_,_)] ⟨rfl,rfl,rfl,trivial⟩ ?_;refine Zaa [1,2] 9 (Tryz.call189) (Zld (mkM a.moves) (by have:=Zok a.moves;omega) (Zd6 _) hM) ?_;rintro v9 _ _ ⟨hv9,rfl,rfl⟩;have hv9':=hv9.symm;subst hv9')<;>refine xL 10 (ζe 1 ζw) ?_<;>refine Zb7 1 ζF Za6 ?_<;>refine ζd ?_)
  refine ζC (ZaW (l:=1) (l':=1000) (j:=4) rfl rfl rfl rfl) fun _=>?_;rw [Zf6 _ _ _ rfl];(refine ζa ?_<;>(refine yL 11 (ζm 1 ζr) fun v11 h=>?_;cases h)<;>(refine cP 12 (cA Tryz.call132 hr) (fun va12 vb12 hva12 hvb12=>?_) (hsh:=h5.t E);cases hvb12)<;>refine xL 13 ζl (xL 14 ζl ?_)<;>refine ζt 2 ζr ?_<;>refine xL 3 ζc ?_<;>refine ζd ?_)
  exact Zt8 (k:=5) 2 [] kR (Tryz.results137) rfl rfl rfl (Xa rfl) (by decide) h5.s trivial fun V=>⟨⟨V,rfl⟩,rfl,rfl⟩)
theorem Zow (a:Aut) (hl:a.moves.length≤1000000) (h:PreA a):AF Tryz.prog 132 [Zap (mkA a)] (· =resW (Zfu a)):=
 ZrT (mkA a) (by have:=Zok a.moves;show (mkM a.moves).length≤1000000;omega) h.aok
theorem Ze4 (a:Aut) (hl:a.moves.length≤1000000) (h:PreA a):∃p0 p1 p2 p3 p4 E,R5 p0 p1 p2 p3 p4∧resW (Zfu a)= .tup [.agg [p0,p1,p2,p3,p4],pInt E]∧AF Tryz.prog 132 [Zap (mkA a)] (· = .tup [.agg [p0,p1,p2,p3,p4],pInt E]):=by
 have hr:=Zow a hl h
 rcases ZmR (Zfu a) with ⟨A,_,h2⟩|⟨e,_,h2⟩
 · rw [h2] at hr ⊢;exact ⟨_,_,_,_,_,_,R5.aut A,rfl,hr⟩
 · rw [h2] at hr ⊢;exact ⟨_,_,_,_,_,_,R5.raw,rfl,hr⟩
theorem ZgK {α β:Type} {f:α→List β} {m:Nat} (hf:∀x,(f x).length=m):∀(L:List α) (k:Nat),(L.flatMap f).take (k*m)=(L.take k).flatMap f
 |[],k=>by simp
 |x::L,0=>by simp
 | x::L,k+1=>by
   rw [Vz,Xv,Xv,←ZgK hf L k,List.take_append,Xn (by rw [hf,Vi];omega),hf,show (k+1)*m-m=k*m by rw [Vi];omega]
theorem ZgL {α β:Type} {f:α→List β} {m:Nat} (hf:∀x,(f x).length=m):∀(L:List α) (k:Nat),(L.flatMap f).drop (k*m)=(L.drop k).flatMap f
 |[],k=>by simp
 |x::L,0=>by simp
 | x::L,k+1=>by
   rw [List.drop_succ_cons,Xv,←ZgL hf L k,List.drop_append,List.drop_of_length_le (by rw [hf,Vi];omega),hf,show (k+1)*m-m=k*m by rw [Vi];omega,Vf]
theorem ZiI:∀{l:List Mv},AscM l→Zbz Zd3 l=true
 |[],_=>rfl
 |[_],_=>rfl
 | x::y::l,h=>by
   have h':=XO.1 h;rw [Zbz,Xe];exact ⟨h'.1 y (Xk ..),ZiI h'.2⟩
theorem ZmY:∀{l:List Int},Srt l→Zbz ltI l=true
 |[],_=>rfl
 |[_],_=>rfl
 | x::y::l,h=>by
   have h':=XO.1 h;rw [Zbz,Xe];exact ⟨by unfold ltI;simpa using h'.1 y (Xk ..),ZmY h'.2⟩
theorem Zxd {a:Aut} {l:List Int} (h:InS a l) (hs:Srt l):ZkS a.n l=true:=by
 unfold ZkS
 rw [Xe,Xy]
 refine ⟨fun x hx=>?_,ZmY hs⟩
 have:=h x hx
 simp [this.1,this.2]
theorem ZDT {a:Aut} (h:PreA a) (hs:Srt a.start) (hf:Srt a.fin) (hn:¬2000<a.n) (hm:¬20000<(mkM a.moves).length):Zas (mkA a)=true:=by
 have h1:=h.n0
 have h2:=h.s0
 have h3:=h.s1
 unfold Zas
 simp only [Xe,decide_eq_true_eq]
 refine ⟨⟨⟨⟨⟨⟨⟨⟨h1,by show a.n≤2000;omega⟩,h2⟩,h3⟩,by show (mkM a.moves).length≤20000;omega⟩,Zxd h.st hs⟩,Zxd h.fi hf⟩,?_⟩,ZiI (Zd6 _)⟩
 rw [Xy]
 intro m hm'
 have hm':m∈mkM a.moves:=hm'
 have:=h.mv m (ZcL.1 hm')
 unfold Ztp
 simp only [Xe,decide_eq_true_eq]
 show ((((0≤m.src∧m.src<a.n)∧0≤m.dst)∧m.dst<a.n)∧-1≤m.sym)∧m.sym<a.syms
 omega
def Zua (b:Aut):Except Int Aut:=if 2000<b.n∨20000<b.moves.length then .error 13 else Zjp b
theorem Zub {a:Aut} (h:PreA a) (hs:Srt a.start) (hf:Srt a.fin):Zfu a=Zua (mkA a):=by
 unfold Zfu Zws Zua Zjp
 show (if 2000<a.n∨20000<(mkM a.moves).length then _ else Zhw (mkA a))=(if 2000<a.n∨20000<(mkM a.moves).length then _ else _)
 by_cases hb:2000<a.n∨20000<(mkM a.moves).length
 · rw [if_pos hb,if_pos hb]
 · rw [if_neg hb,if_neg hb,if_pos (ZDT h hs hf (fun h=>hb (.inl h)) (fun h=>hb (.inr h)))]
section
variable {a b:Aut}
theorem Zqu {n:Int} {l:List Int} (h:Srt l):Srt (Zdw n l):=List.pairwise_map.2 (h.imp fun h=>by omega)
theorem Zxe (ha:VOk a) (hb:VOk b) (hs:a.syms=b.syms):Zfu (Zfv a b)=Zua (mkA (Zfv a b)):=Zub (Zk4 ha hb hs) ha.ss (Zqu hb.fs)
theorem Zox (a b:Aut):(Zfv a b).moves.length=a.moves.length+b.moves.length+a.fin.length*b.start.length:=by
 show (a.moves++ZhR a.n b.moves++ZmF a.n a.fin b.start).length=_
 rw [Xd,Xd,ZhS,Zk3]
theorem Zuc (ha:VOk a) (hb:VOk b) (h:2000<a.n+b.n∨20000<a.moves.length+b.moves.length+a.fin.length*b.start.length):Zua (mkA (Zfv a b))= .error 13:=by
 unfold Zua
 rw [if_pos]
 show 2000<a.n+b.n∨20000<(mkM (Zfv a b).moves).length
 rw [Zj2 (ZmI ha hb),Zox];exact h
end
theorem ZAs {l:List Mv} {m:Mv} (h:AscM l) (hm:m∈l):Zoj m l=l:=Zf1 (ZhN h) h fun x=>by
 rw [Zf2]
 exact ⟨fun h=>by rcases h with rfl|h<;>assumption, .inr⟩
theorem Zud {l:List Mv} {m:Mv} {i:Nat} (h:AscM l) (hi:i≤l.length) (h1:∀(j:Nat) (x:Mv),i≤j→l[j]? =some x→Zd3 m x=true) (h2:∀x,0<i→l[i-1]? =some x→Zd3 m x=false∧x≠m):
 Zoj m l=l.take i++[m]++l.drop i:=by
 refine Zf1 (ZhN h) ?_ fun x=>?_
 · have hlo:∀x∈l.take i,Zd3 x m=true:=fun x hx=>by
    obtain ⟨j,hj⟩:=Vc hx;have hj':=(XF.1 hj).1;rw [Xt] at hj';rw [XW (by omega)] at hj;obtain ⟨y,hy⟩:∃y,l[i-1]? =some y:=⟨l[i-1],XE (by omega)⟩;obtain ⟨h3,hym⟩:=h2 y (by omega) hy;have h4:Zd3 y m=true:=by
     cases h5:Zd3 y m with
     |true=>rfl
     |false=>exact absurd (ZhM h5 h3) hym
    by_cases hji:j=i-1
    · subst hji;rw [hj] at hy;cases hy;exact h4
    · refine ZfH ?_ h4;obtain ⟨h6,h7⟩:=XF.1 hj;obtain ⟨h8,h9⟩:=XF.1 hy;rw [←h7,←h9];exact VY.1 h j (i-1) h6 h8 (by omega)
   have hhi:∀x∈l.drop i,Zd3 m x=true:=fun x hx=>by
    obtain ⟨j,hj⟩:=Vc hx;rw [Vm] at hj;exact h1 (i+j) x (by omega) hj
   have hta:AscM (l.take i):=h.sublist (Uh ..);have hdr:AscM (l.drop i):=h.sublist (List.drop_sublist ..);refine V7.2 ⟨V7.2 ⟨hta,Vx ..,fun x hx y hy=>by rw [Xi.1 hy];exact hlo x hx⟩,hdr,fun x hx y hy=>?_⟩;rcases Xp.1 hx with hx|hx
   · exact ZfH (hlo x hx) (hhi y hy)
   · rw [Xi.1 hx];exact hhi y hy
 · rw [Zf2];constructor
   · rintro (rfl|h)
     · simp
     · rw [←Vt i l] at h;rcases Xp.1 h with h|h
       · exact X5 _ (X5 _ h)
       · exact X6 _ h
   · intro h;rcases Xp.1 h with h|h
     · rcases Xp.1 h with h|h
       · exact .inr (VX h)
       · exact .inl (Xi.1 h)
     · exact .inr (Ui h)
def shL (m:Int) (x:Mv):List Mv:=(List.range m.toNat).map fun j=>⟨x.src*m+(j:Nat),x.dst*m+(j:Nat),x.sym⟩
def shR (n m:Int) (x:Mv):List Mv:=(List.range n.toNat).map fun i=>⟨(i:Nat)*m+x.src,(i:Nat)*m+x.dst,x.sym⟩
def shI (m:Int) (l k:List Int):List Int:=l.flatMap fun i=>Zdw (i*m) k
def shM (n m:Int) (l k:List Mv):List Mv:=l.flatMap (shL m)++k.flatMap (shR n m)
def Zc8 (a b:Aut):Aut:=⟨a.n*b.n,a.syms,shI b.n a.start b.start,shI b.n a.fin b.fin,shM a.n b.n a.moves b.moves⟩
def Zoy (a b:Aut):Except Int Aut:=if ¬ZgG a b=0 then .error (ZgG a b) else if 2000<a.n*b.n∨40000<(a.moves.length:Int)*b.n+(b.moves.length:Int)*a.n then .error 13 else Zfu (Zc8 a b)
theorem Zue {m i j i' j':Int} (h:i<i') (h0:0≤j) (h1:j<m) (h2:0≤j'):i*m+j<i'*m+j':=by
 have h3:(i+1)*m≤i'*m:=Int.mul_le_mul_of_nonneg_right (by omega) (by omega)
 rw [Int.add_mul,Int.one_mul] at h3
 omega
theorem ZiJ {m i j i' j':Int} (h:i*m+j=i'*m+j') (h1:0≤j∧j<m) (h2:0≤j'∧j'<m):i=i'∧j=j':=by
 have h3:i=i':=by
  rcases Int.lt_trichotomy i i' with h3|h3|h3
  · have:=Zue h3 h1.1 h1.2 h2.1;omega
  · exact h3
  · have:=Zue h3 h2.1 h2.2 h1.1;omega
 subst h3
 exact ⟨rfl,by omega⟩
theorem ZmZ {n m i j:Int} (hi:0≤i∧i<n) (hj:0≤j∧j<m):0≤i*m+j∧i*m+j<n*m:=by
 have h3:(i+1)*m≤n*m:=Int.mul_le_mul_of_nonneg_right (by omega) (by omega)
 have h4:0≤i*m:=Int.mul_nonneg hi.1 (by omega)
 rw [Int.add_mul,Int.one_mul] at h3
 omega
theorem ZgM {m x:Int} {l k:List Int}:x∈shI m l k↔∃i∈l,∃j∈k,i*m+j=x:=by
 unfold shI
 simp only [X4,ZbQ]
 constructor
 · rintro ⟨i,h1,j,h2,h3⟩;exact ⟨i,h1,j,h2,by omega⟩
 · rintro ⟨i,h1,j,h2,h3⟩;exact ⟨i,h1,j,h2,by omega⟩
theorem ZAt {m:Int} {x y:Mv}:y∈shL m x↔∃j:Nat,(j:Int)<m∧(⟨x.src*m+(j:Nat),x.dst*m+(j:Nat),x.sym⟩:Mv)=y:=by
 unfold shL
 rw [Xo]
 constructor
 · rintro ⟨j,h1,h2⟩;rw [Vk] at h1;exact ⟨j,by omega,h2⟩
 · rintro ⟨j,h1,h2⟩;exact ⟨j,by rw [Vk];omega,h2⟩
theorem ZAu {n m:Int} {x y:Mv}:y∈shR n m x↔∃i:Nat,(i:Int)<n∧(⟨(i:Nat)*m+x.src,(i:Nat)*m+x.dst,x.sym⟩:Mv)=y:=by
 unfold shR
 rw [Xo]
 constructor
 · rintro ⟨j,h1,h2⟩;rw [Vk] at h1;exact ⟨j,by omega,h2⟩
 · rintro ⟨j,h1,h2⟩;exact ⟨j,by rw [Vk];omega,h2⟩
theorem Zuf {m:Int} {l k:List Int} (hk:∀j∈k,0≤j∧j<m) (h1:Srt l) (h2:Srt k):Srt (shI m l k):=by
 induction l with
 |nil=>exact .nil
 | cons i l ih=>
   have h:=XO.1 h1;show Srt (Zdw (i*m) k++shI m l k);refine V7.2 ⟨Zqu h2,ih h.2,fun x hx y hy=>?_⟩;obtain ⟨j,hj,rfl⟩:=ZbQ.1 hx;obtain ⟨i',hi',j',hj',rfl⟩:=ZgM.1 hy;have:=Zue (h.1 i' hi') (hk j hj).1 (hk j hj).2 (hk j' hj').1;omega
section
variable {a b:Aut}
theorem ZfK {x:Mv}:x∈shM a.n b.n a.moves b.moves↔(∃y∈a.moves,∃j:Nat,(j:Int)<b.n∧(⟨y.src*b.n+(j:Nat),y.dst*b.n+(j:Nat),y.sym⟩:Mv)=x)∨∃y∈b.moves,∃i:Nat,(i:Int)<a.n∧(⟨(i:Nat)*b.n+y.src,(i:Nat)*b.n+y.dst,y.sym⟩:Mv)=x:=by
 unfold shM
 simp only [Xp,X4,ZAt,ZAu]
theorem Zle (ha:VOk a) (hb:VOk b) (hs:a.syms=b.syms):PreA (Zc8 a b):=by
 have h1:=ha.n0
 have h2:=hb.n0
 have hI:∀{l k:List Int},InS a l→InS b k→∀x∈shI b.n l k,0≤x∧x<a.n*b.n:=fun hl hk x hx=>by
  obtain ⟨i,hi,j,hj,rfl⟩:=ZgM.1 hx;exact ZmZ (hl i hi) (hk j hj)
 refine ⟨Int.mul_nonneg h1 h2,ha.s0,ha.s1,hI ha.st hb.st,hI ha.fi hb.fi,Zbo (Zuf hb.st ha.ss hb.ss),Zbo (Zuf hb.fi ha.fs hb.fs),fun x hx=>?_⟩
 rcases ZfK.1 hx with ⟨y,hy,j,hj,rfl⟩|⟨y,hy,i,hi,rfl⟩
 · have h3:=ha.mv y hy;have h4:=ZmZ (m:=b.n) (n:=a.n) (i:=y.src) (j:=j) ⟨h3.1,h3.2.1⟩ ⟨by omega,hj⟩;have h5:=ZmZ (m:=b.n) (n:=a.n) (i:=y.dst) (j:=j) ⟨h3.2.2.1,h3.2.2.2.1⟩ ⟨by omega,hj⟩;exact ⟨h4.1,h4.2,h5.1,h5.2,h3.2.2.2.2⟩
 · have h3:=hb.mv y hy;have h4:=ZmZ (m:=b.n) (n:=a.n) (i:=i) (j:=y.src) ⟨by omega,hi⟩ ⟨h3.1,h3.2.1⟩;have h5:=ZmZ (m:=b.n) (n:=a.n) (i:=i) (j:=y.dst) ⟨by omega,hi⟩ ⟨h3.2.2.1,h3.2.2.2.1⟩;exact ⟨h4.1,h4.2,h5.1,h5.2,h3.2.2.2.2.1,by have:=h3.2.2.2.2.2;show y.sym<a.syms;omega⟩
theorem Zoz (m:Int) (x:Mv):(shL m x).length=m.toNat:=by unfold shL;simp
theorem Zug (n m:Int) (x:Mv):(shR n m x).length=n.toNat:=by unfold shR;simp
theorem flat_len {α β:Type} {f:α→List β} {n:Nat} (h:∀x,(f x).length=n):∀l:List α,(l.flatMap f).length=l.length*n
 |[]=>by simp
 |x::l=>by rw [Xv,Xd,h,flat_len h l,Xc,XS,Nat.add_comm]
end
section
variable {a b:Aut}
theorem Zlf {X a:Aut} {n:Int} (hX:∀(s:Int) (m:Mv),0≤s∧s<a.n→m∈X.moves→m.src=s+n→∃m'∈a.moves,m'.src=s∧m.dst=m'.dst+n∧m.sym=m'.sym) (ha:∀m∈a.moves,0≤m.dst∧m.dst<a.n) {s y:Int} {w:List Int} (hs:0≤s∧s<a.n) (h:Pth X (s+n) w y):∃t,y=t+n∧(0≤t∧t<a.n)∧Pth a s w t:=by
 generalize e:s+n=x at h
 induction h generalizing s with
 |nil x=>exact ⟨s,e.symm,hs, .nil s⟩
 | eps hm h1 _ ih=>
   obtain ⟨m',h2,h3,h4,h5⟩:=hX s _ hs hm e.symm;obtain ⟨t,h6,h7,h8⟩:=ih (ha m' h2) h4.symm;exact ⟨t,h6,h7,h3▸Pth.eps h2 (by rw [←h5];exact h1) h8⟩
 | sym hm h1 _ ih=>
   obtain ⟨m',h2,h3,h4,h5⟩:=hX s _ hs hm e.symm;obtain ⟨t,h6,h7,h8⟩:=ih (ha m' h2) h4.symm;refine ⟨t,h6,h7,?_⟩;rw [h5];exact h3▸Pth.sym h2 (by rw [←h5];exact h1) h8
theorem Zlg {X a:Aut} {n:Int} (hX:∀m∈a.moves,(⟨m.src+n,m.dst+n,m.sym⟩:Mv)∈X.moves) {s t:Int} {w:List Int} (h:Pth a s w t):Pth X (s+n) w (t+n):=by
 induction h with
 |nil x=>exact .nil _
 |eps hm h1 _ ih=>exact .eps (hX _ hm) h1 ih
 |sym hm h1 _ ih=>exact .sym (hX _ hm) h1 ih
theorem Zm0 (ha:VOk a) {x:Int} {m:Mv} {l:List Mv} (hl:∀m∈l,m.src<a.n) (hx:0≤x) (hm:m∈a.moves++ZhR a.n b.moves++l) (hs:m.src=x+a.n):∃m'∈b.moves,m'.src=x∧m.dst=m'.dst+a.n∧m.sym=m'.sym:=by
 rcases Xp.1 hm with hm|hm
 · rcases Xp.1 hm with hm|hm
   · have:=ha.mv m hm;omega
   · obtain ⟨y,hy,rfl⟩:=Zdf.1 hm;exact ⟨y,hy,by dsimp only at hs;omega,rfl,rfl⟩
 · have:=hl m hm;omega
theorem Zuh (ha:VOk a) (hb:VOk b) {w:List Int}:Lng (ZdJ a b) w↔Lng a w∨Lng b w:=by
 have hmL:∀(s:Int) (m:Mv),0≤s∧s<a.n→m∈(ZdJ a b).moves→m.src=s+0→∃m'∈a.moves,m'.src=s∧m.dst=m'.dst+0∧m.sym=m'.sym:=fun s m hs hm e=>by
  rcases Xp.1 (show m∈a.moves++ZhR a.n b.moves from hm) with hm|hm
  · exact ⟨m,hm,by omega,by omega,rfl⟩
  · obtain ⟨y,hy,rfl⟩:=Zdf.1 hm;have:=hb.mv y hy;dsimp only at e;omega
 have hmR:∀(s:Int) (m:Mv),0≤s∧s<b.n→m∈(ZdJ a b).moves→m.src=s+a.n→∃m'∈b.moves,m'.src=s∧m.dst=m'.dst+a.n∧m.sym=m'.sym:=fun s m hs hm e=>Zm0 (l:=[]) ha (fun m hm=>by cases hm) hs.1 (by rw [XA];exact hm) e
 have hinA:∀m∈a.moves,(⟨m.src+0,m.dst+0,m.sym⟩:Mv)∈(ZdJ a b).moves:=fun m hm=>by
  rw [V8,V8];exact X5 _ hm
 have hinB:∀m∈b.moves,(⟨m.src+a.n,m.dst+a.n,m.sym⟩:Mv)∈(ZdJ a b).moves:=fun m hm=>X6 _ (Zdf.2 ⟨m,hm,rfl⟩)
 have hda:∀m∈a.moves,0≤m.dst∧m.dst<a.n:=fun m hm=>by have:=ha.mv m hm;omega
 have hdb:∀m∈b.moves,0≤m.dst∧m.dst<b.n:=fun m hm=>by have:=hb.mv m hm;omega
 constructor
 · rintro ⟨s,hs,f,hf,h⟩;rcases Xp.1 (show s∈a.start++Zdw a.n b.start from hs) with hs|hs
   · obtain ⟨t,e,h1,h2⟩:=Zlf (n:=0) hmL hda (ha.st s hs) (by rw [V8];exact h);rw [V8] at e;subst e;rcases Xp.1 (show f∈a.fin++Zdw a.n b.fin from hf) with hf|hf
     · exact .inl ⟨s,hs,f,hf,h2⟩
     · obtain ⟨y,hy,rfl⟩:=ZbQ.1 hf;have:=hb.fi y hy;omega
   · obtain ⟨y,hy,rfl⟩:=ZbQ.1 hs;obtain ⟨t,rfl,h1,h2⟩:=Zlf hmR hdb (hb.st y hy) h;rcases Xp.1 (show t+a.n∈a.fin++Zdw a.n b.fin from hf) with hf|hf
     · have:=ha.fi _ hf;omega
     · obtain ⟨z,hz,e⟩:=ZbQ.1 hf;(have:z=t:=by omega);subst this;exact .inr ⟨y,hy,z,hz,h2⟩
 · rintro (⟨s,hs,f,hf,h⟩|⟨s,hs,f,hf,h⟩)
   · have:=Zlg (n:=0) hinA h;rw [V8,V8] at this;exact ⟨s,X5 _ hs,f,X5 _ hf,this⟩
   · exact ⟨s+a.n,X6 _ (ZbQ.2 ⟨s,hs,rfl⟩),f+a.n,X6 _ (ZbQ.2 ⟨f,hf,rfl⟩),Zlg hinB h⟩
theorem Zze {m:Mv} (ha:VOk a) (hb:VOk b) (hm:m∈(Zfv a b).moves) (hs:m.src<a.n):m∈a.moves∨∃f∈a.fin,∃s∈b.start,(⟨f,s+a.n,-1⟩:Mv)=m:=by
 rcases Xp.1 (show m∈a.moves++ZhR a.n b.moves++ZmF a.n a.fin b.start from hm) with hm|hm
 · rcases Xp.1 hm with hm|hm
   · exact .inl hm
   · obtain ⟨y,hy,rfl⟩:=Zdf.1 hm;have:=hb.mv y hy;dsimp only at hs;omega
 · exact .inr (Ze1.1 hm)
theorem Zui (ha:VOk a) (hb:VOk b) {s y:Int} {w:List Int} (hs:0≤s∧s<b.n) (h:Pth (Zfv a b) (s+a.n) w y):∃t,y=t+a.n∧Pth b s w t:=by
 obtain ⟨t,h1,_,h2⟩:=Zlf (X:=Zfv a b) (a:=b) (n:=a.n) (fun s m hs hm e=>Zm0 (l:=ZmF a.n a.fin b.start) ha (fun m hm=>by
  obtain ⟨f,hf,s,_,rfl⟩:=Ze1.1 hm;exact (ha.fi f hf).2) hs.1 hm e) (fun m hm=>by have:=hb.mv m hm;omega) hs h
 exact ⟨t,h1,h2⟩
theorem Zxf (ha:VOk a) (hb:VOk b) {s y:Int} {w:List Int} (hs:s<a.n) (hy:a.n≤y) (h:Pth (Zfv a b) s w y):∃u v f s',w=u++v∧Pth a s u f∧f∈a.fin∧s'∈b.start∧Pth (Zfv a b) (s'+a.n) v y:=by
 induction h with
 |nil x=>omega
 | eps hm h1 h ih=>
   rcases Zze ha hb hm hs with h2|⟨f,hf,s',hs',rfl⟩
   · obtain ⟨u,v,f,s',e,h3,h4⟩:=ih (by have:=ha.mv _ h2;omega) hy;exact ⟨u,v,f,s',e, .eps h2 h1 h3,h4⟩
   · exact ⟨[],_,f,s',rfl, .nil _,hf,hs',h⟩
 | sym hm h1 h ih=>
   rcases Zze ha hb hm hs with h2|⟨f,hf,s',hs',rfl⟩
   · obtain ⟨u,v,f,s',e,h3,h4⟩:=ih (by have:=ha.mv _ h2;omega) hy;exact ⟨_::u,v,f,s',by rw [e];rfl, .sym h2 h1 h3,h4⟩
   · exact absurd rfl h1
theorem ZAv (ha:VOk a) (hb:VOk b) {w:List Int}:Lng (Zfv a b) w↔∃u v,w=u++v∧Lng a u∧Lng b v:=by
 constructor
 · rintro ⟨s,hs,f,hf,h⟩;obtain ⟨y,hy,rfl⟩:=ZbQ.1 (show f∈Zdw a.n b.fin from hf);have hyb:=hb.fi y hy;obtain ⟨u,v,f,s',e,h1,h2,h3,h4⟩:=Zxf ha hb (ha.st s hs).2 (by omega) h;obtain ⟨t,e2,h5⟩:=Zui ha hb (hb.st s' h3) h4;have:t=y:=by omega
   subst this;exact ⟨u,v,e,⟨s,hs,f,h2,h1⟩,⟨s',h3,t,hy,h5⟩⟩
 · rintro ⟨u,v,rfl,⟨s,hs,f,hf,h⟩,⟨s',hs',f',hf',h'⟩⟩;refine ⟨s,hs,f'+a.n,ZbQ.2 ⟨f',hf',rfl⟩,?_⟩;have h1:Pth (Zfv a b) s u f:=h.mono fun m hm=>X5 _ (X5 _ hm);have h2:Pth (Zfv a b) (s'+a.n) v (f'+a.n):=Zlg (fun m hm=>X5 _ (X6 _ (Zdf.2 ⟨m,hm,rfl⟩))) h';have h3:Pth (Zfv a b) f v (f'+a.n):=Pth.eps (m:=⟨f,s'+a.n,-1⟩) (X6 _ (Ze1.2 ⟨f,hf,s',hs',rfl⟩)) rfl h2;exact h1.app h3
inductive Star (L:List Int→Prop):List Int→Prop
 |nil:Star L []
 |app {u v:List Int} (h:L u) (h':Star L v):Star L (u++v)
theorem Ze5 {m:Mv}:m∈(ZeC a).moves↔m∈a.moves∨(∃s∈a.start,(⟨a.n,s,-1⟩:Mv)=m)∨∃s∈a.fin,(⟨s,a.n,-1⟩:Mv)=m:=by
 show m∈a.moves++(a.start.map fun s=>(⟨a.n,s,-1⟩:Mv))++a.fin.map (fun s=>(⟨s,a.n,-1⟩:Mv))↔_
 simp only [Xp,Xo,or_assoc]
theorem Zxg (ha:VOk a) {x y:Int} {w:List Int} (h:Pth (ZeC a) x w y) (hy:y=a.n):(x=a.n→Star (Lng a) w)∧(x<a.n→∃u v f,w=u++v∧f∈a.fin∧Pth a x u f∧Star (Lng a) v):=by
 induction h with
 |nil x=>exact ⟨fun _=> .nil,fun h=>by omega⟩
 | eps hm h1 _ ih=>
   have ih:=ih hy;refine ⟨fun e=>?_,fun e=>?_⟩
   · rcases Ze5.1 hm with h2|⟨s,hs,rfl⟩|⟨s,hs,rfl⟩
     · have:=ha.mv _ h2;omega
     · obtain ⟨u,v,f,rfl,hf,h3,h4⟩:=ih.2 (ha.st s hs).2;exact .app ⟨s,hs,f,hf,h3⟩ h4
     · have:=ha.fi s hs;dsimp only at e;omega
   · rcases Ze5.1 hm with h2|⟨s,hs,rfl⟩|⟨s,hs,rfl⟩
     · obtain ⟨u,v,f,e2,hf,h3,h4⟩:=ih.2 (by have:=ha.mv _ h2;omega);exact ⟨u,v,f,e2,hf, .eps h2 h1 h3,h4⟩
     · dsimp only at e;omega
     · exact ⟨[],_,s,rfl,hs, .nil _,ih.1 rfl⟩
 | sym hm h1 _ ih=>
   have ih:=ih hy;rcases Ze5.1 hm with h2|⟨s,hs,rfl⟩|⟨s,hs,rfl⟩
   · refine ⟨fun e=>by have:=ha.mv _ h2;omega,fun e=>?_⟩;obtain ⟨u,v,f,e2,hf,h3,h4⟩:=ih.2 (by have:=ha.mv _ h2;omega);exact ⟨_::u,v,f,by rw [e2];rfl,hf, .sym h2 h1 h3,h4⟩
   · exact absurd rfl h1
   · exact absurd rfl h1
theorem Zxh (ha:VOk a) {w:List Int}:Lng (ZeC a) w↔Star (Lng a) w:=by
 constructor
 · rintro ⟨s,hs,f,hf,h⟩;have hs:s=a.n:=Xi.1 hs;have hf:f=a.n:=Xi.1 hf;exact (Zxg ha h hf).1 hs
 · intro h;refine ⟨a.n,Xi.2 rfl,a.n,Xi.2 rfl,?_⟩;induction h with
   |nil=>exact .nil _
   | app h _ ih=>
     obtain ⟨s,hs,f,hf,h⟩:=h;have h1:Pth (ZeC a) s _ f:=h.mono fun m hm=>Ze5.2 (.inl hm);have h2:Pth (ZeC a) f _ a.n:=Pth.eps (m:=⟨f,a.n,-1⟩) (Ze5.2 (.inr (.inr ⟨f,hf,rfl⟩))) rfl ih;exact Pth.eps (m:=⟨a.n,s,-1⟩) (Ze5.2 (.inr (.inl ⟨s,hs,rfl⟩))) rfl (h1.app h2)
inductive Mix:List Int→List Int→List Int→Prop
 |nil:Mix [] [] []
 |one {w u v:List Int} (c:Int) (h:Mix w u v):Mix (c::w) (c::u) v
 |two {w u v:List Int} (c:Int) (h:Mix w u v):Mix (c::w) u (c::v)
theorem Zxi (ha:VOk a) (hb:VOk b) {x y:Int} {w:List Int} (h:Pth (Zc8 a b) x w y):∀i j,(0≤i∧i<a.n)→(0≤j∧j<b.n)→x=i*b.n+j→∃i' j' u v,(0≤i'∧i'<a.n)∧(0≤j'∧j'<b.n)∧y=i'*b.n+j'∧Mix w u v∧Pth a i u i'∧Pth b j v j':=by
 induction h with
 |nil x=>exact fun i j hi hj e=>⟨i,j,[],[],hi,hj,e, .nil, .nil _, .nil _⟩
 | eps hm h1 _ ih=>
   intro i j hi hj e;rcases ZfK.1 hm with ⟨z,hz,k,hk,rfl⟩|⟨z,hz,k,hk,rfl⟩
   · have h2:=ha.mv z hz;obtain ⟨rfl,e2⟩:=ZiJ e ⟨by omega,hk⟩ hj;obtain ⟨i',j',u,v,h3,h4,h5,h6,h7,h8⟩:=ih z.dst k ⟨h2.2.2.1,h2.2.2.2.1⟩ ⟨by omega,hk⟩ rfl;exact ⟨i',j',u,v,h3,h4,h5,h6, .eps hz h1 h7,e2▸h8⟩
   · have h2:=hb.mv z hz;obtain ⟨e2,rfl⟩:=ZiJ e ⟨h2.1,h2.2.1⟩ hj;obtain ⟨i',j',u,v,h3,h4,h5,h6,h7,h8⟩:=ih k z.dst ⟨by omega,hk⟩ ⟨h2.2.2.1,h2.2.2.2.1⟩ rfl;exact ⟨i',j',u,v,h3,h4,h5,h6,e2▸h7, .eps hz h1 h8⟩
 | sym hm h1 _ ih=>
   intro i j hi hj e;rcases ZfK.1 hm with ⟨z,hz,k,hk,rfl⟩|⟨z,hz,k,hk,rfl⟩
   · have h2:=ha.mv z hz;obtain ⟨rfl,e2⟩:=ZiJ e ⟨by omega,hk⟩ hj;obtain ⟨i',j',u,v,h3,h4,h5,h6,h7,h8⟩:=ih z.dst k ⟨h2.2.2.1,h2.2.2.2.1⟩ ⟨by omega,hk⟩ rfl;exact ⟨i',j',_::u,v,h3,h4,h5, .one _ h6, .sym hz h1 h7,e2▸h8⟩
   · have h2:=hb.mv z hz;obtain ⟨e2,rfl⟩:=ZiJ e ⟨h2.1,h2.2.1⟩ hj;obtain ⟨i',j',u,v,h3,h4,h5,h6,h7,h8⟩:=ih k z.dst ⟨by omega,hk⟩ ⟨h2.2.2.1,h2.2.2.2.1⟩ rfl;exact ⟨i',j',u,_::v,h3,h4,h5, .two _ h6,e2▸h7, .sym hz h1 h8⟩
theorem Zlh (hb:VOk b) {i i' j:Int} {u:List Int} (hj:0≤j∧j<b.n) (h:Pth a i u i'):Pth (Zc8 a b) (i*b.n+j) u (i'*b.n+j):=by
 have e:((j.toNat:Nat):Int)=j:=VS hj.1
 induction h with
 |nil s=>exact .nil _
 | @eps m w t hm h1 _ ih=>exact Pth.eps (m:=⟨m.src*b.n+j,m.dst*b.n+j,m.sym⟩) (ZfK.2 (.inl ⟨m,hm,j.toNat,by omega,by rw [e]⟩)) h1 ih
 | @sym m w t hm h1 _ ih=>exact Pth.sym (m:=⟨m.src*b.n+j,m.dst*b.n+j,m.sym⟩) (ZfK.2 (.inl ⟨m,hm,j.toNat,by omega,by rw [e]⟩)) h1 ih
theorem ZiK {i j j':Int} {u:List Int} (hi:0≤i∧i<a.n) (h:Pth b j u j'):Pth (Zc8 a b) (i*b.n+j) u (i*b.n+j'):=by
 have e:((i.toNat:Nat):Int)=i:=VS hi.1
 induction h with
 |nil s=>exact .nil _
 | @eps m w t hm h1 _ ih=>exact Pth.eps (m:=⟨i*b.n+m.src,i*b.n+m.dst,m.sym⟩) (ZfK.2 (.inr ⟨m,hm,i.toNat,by omega,by rw [e]⟩)) h1 ih
 | @sym m w t hm h1 _ ih=>exact Pth.sym (m:=⟨i*b.n+m.src,i*b.n+m.dst,m.sym⟩) (ZfK.2 (.inr ⟨m,hm,i.toNat,by omega,by rw [e]⟩)) h1 ih
theorem ZCK (ha:AOk a) {s t:Int} {w:List Int} (h:Pth a s w t) (hs:0≤s∧s<a.n):0≤t∧t<a.n:=by
 induction h with
 |nil s=>exact hs
 |eps hm _ _ ih=>exact ih (by have:=ha.mv _ hm;omega)
 |sym hm _ _ ih=>exact ih (by have:=ha.mv _ hm;omega)
theorem Zxj (ha:VOk a) (hb:VOk b) {w u v:List Int} (hm:Mix w u v):∀{i i' j j':Int},(0≤i∧i<a.n)→(0≤j∧j<b.n)→Pth a i u i'→Pth b j v j'→Pth (Zc8 a b) (i*b.n+j) w (i'*b.n+j'):=by
 induction hm with
 | nil=>
   intro i i' j j' hi hj h1 h2;have h3:=(Zlh hb hj h1).app (ZiK (ZCK ha.toAOk h1 hi) h2);exact h3
 | one c _ ih=>
   intro i i' j j' hi hj h1 h2;obtain ⟨m,hm,h3,rfl,h4,h5⟩:=h1.cons;have h6:=ha.mv m hm;have h7:Pth a m.src [m.sym] m.dst:= .sym hm h4 (.nil _);have h8:=(Zlh hb hj h3).app ((Zlh hb hj h7).app (ih ⟨h6.2.2.1,h6.2.2.2.1⟩ hj h5 h2));exact h8
 | two c _ ih=>
   intro i i' j j' hi hj h1 h2;obtain ⟨m,hm,h3,rfl,h4,h5⟩:=h2.cons;have h6:=hb.mv m hm;have h7:Pth b m.src [m.sym] m.dst:= .sym hm h4 (.nil _);have h8:=(ZiK hi h3).app ((ZiK hi h7).app (ih hi ⟨h6.2.2.1,h6.2.2.2.1⟩ h1 h5));exact h8
theorem Zxk (ha:VOk a) (hb:VOk b) {w:List Int}:Lng (Zc8 a b) w↔∃u v,Mix w u v∧Lng a u∧Lng b v:=by
 constructor
 · rintro ⟨s,hs,f,hf,h⟩;obtain ⟨i,hi,j,hj,rfl⟩:=ZgM.1 (show s∈shI b.n a.start b.start from hs);obtain ⟨i',hi',j',hj',rfl⟩:=ZgM.1 (show f∈shI b.n a.fin b.fin from hf);obtain ⟨i2,j2,u,v,h1,h2,h3,h4,h5,h6⟩:=Zxi ha hb h i j (ha.st i hi) (hb.st j hj) rfl;obtain ⟨rfl,rfl⟩:=ZiJ h3 (hb.fi j' hj') h2;exact ⟨u,v,h4,⟨i,hi,i',hi',h5⟩,⟨j,hj,j',hj',h6⟩⟩
 · rintro ⟨u,v,hm,⟨i,hi,i',hi',h5⟩,⟨j,hj,j',hj',h6⟩⟩;exact ⟨_,ZgM.2 ⟨i,hi,j,hj,rfl⟩,_,ZgM.2 ⟨i',hi',j',hj',rfl⟩,Zxj ha hb hm (ha.st i hi) (hb.st j hj) h5 h6⟩
end
section
variable {α κ:Type} [DecidableEq κ] {W:Srch α κ}
end
section
variable {α κ:Type} [DecidableEq κ] {W:Srch α κ} {g:α→Int}
structure Srch.Aged (g:α→Int) (i:Nat) (o:List α) (rows:List (List Nat)):Prop where
 mono:∀(j k:Nat) (x y:α),j≤k→o[j]? =some x→o[k]? =some y→g x≤g y
 lt:∀(j:Nat) (x:α),o[j]? =some x→g x<(i:Nat)
 len:i≤o.length→rows.length=i
 to:∀(p:Nat) (r:List Nat) (c n:Nat),rows[p]? =some r→r[c]? =some n→∃x,o[n]? =some x∧g x≤(p:Nat)
end
abbrev PrS2:=(Nat×Nat)×(Int×Int)
structure PQ (A B:Aut) (o:List PrS2) (rows:List (List Nat)):Prop where
 mA:IsMin A
 mB:IsMin B
 sy:A.syms=B.syms
 hu:prodQ A B=some (o,rows)
section
variable {A B:Aut} {o:List PrS2} {rows:List (List Nat)}
end
theorem Zuj (i:Nat) (r:List Nat):AscM (ZaC i r):=by
 unfold AscM
 rw [VY]
 intro j k hj hk hjk
 unfold ZaC at hj hk ⊢
 rw [Xh,List.length_zipIdx] at hj hk
 rw [ZcQ,List.getElem_map,List.getElem_map,List.getElem_zipIdx,List.getElem_zipIdx]
 dsimp only
 omega
theorem Zj3:∀(rows:List (List Nat)) (k:Nat),AscM (Zg7 k rows)
 |[],_=> .nil
 | r::rows,k=>by
   rw [Zc3];refine V7.2 ⟨Zuj k r,Zj3 rows (k+1),fun x hx y hy=>?_⟩;have h1:=Zf3 x hx;have h2:=ZjV y hy;rw [ZcQ];omega
theorem IsMin.valid {A:Aut} (h:IsMin A):Zas A=true:=by
 have hok:=h.aok
 obtain ⟨t,o,rows,hT,hu,rfl,hm⟩:=h
 have h1:=hok.n0
 have h2:=hok.n1
 have h3:=hok.s0
 have h4:=hok.s1
 have h5:=hok.ml
 unfold Zas
 simp only [Xe,decide_eq_true_eq]
 refine ⟨⟨⟨⟨⟨⟨⟨⟨h1,h2⟩,h3⟩,h4⟩,h5⟩,Zxd hok.st (Vx ..)⟩,Zxd hok.fi (Zof _ _)⟩,?_⟩,ZiI (Zj3 rows 0)⟩
 rw [Xy]
 intro m hm'
 have:=hok.mv m hm'
 unfold Ztp
 simp only [Xe,decide_eq_true_eq]
 omega
theorem ZAw {a b:Aut} (h1:Zas a=true) (h2:Zas b=true) (h:a.syms=b.syms):ZgG a b=0:=by unfold ZgG;rw [if_neg (by rw [h1,h2];simp),if_neg (fun e=>e h)]
section
variable {A B:Aut} {o:List PrS2} {rows:List (List Nat)}
end
theorem ZrV (x y:ByteArray):Zbc x y= -1∨Zbc x y=0∨Zbc x y=1:=by
 have:=Zs4 x y;omega
theorem ZeH (x y:ByteArray):(Zep x y=true∧Zep y x=false∧x≠y∧Zbc x y= -1∧Zbc y x=1)∨(x=y∧Zbc x y=0∧Zbc y x=0)∨(Zep y x=true∧Zep x y=false∧x≠y∧Zbc x y=1∧Zbc y x= -1):=by
 have hno:∀{a b:ByteArray},Zep a b=true→Zep b a=false∧a≠b:=fun {a b} h=>by
  have h1:=Zew a;have h2:=Zew b;refine ⟨?_,fun e=>by subst e;rw [h] at h1;cases h1⟩
  cases h3:Zep b a with
  |false=>rfl
  |true=>rw [Zij h h3] at h1;cases h1
 have heq:∀a:ByteArray,ZdY a a=true:=fun a=>Zcv.2 rfl
 have hne:∀{a b:ByteArray},a≠b→ZdY a b=false:=fun {a b} h=>by
  cases h1:ZdY a b with
  |false=>rfl
  |true=>exact absurd (Zcv.1 h1) h
 unfold Zbc
 cases h:Zep x y with
 | true=>
   obtain ⟨h1,h2⟩:=hno h;refine .inl ⟨rfl,h1,h2,by simp,?_⟩;rw [h1,hne (Ne.symm h2)];rfl
 | false=>
   cases h':Zep y x with
   | true=>
     obtain ⟨h1,h2⟩:=hno h';refine .inr (.inr ⟨rfl,rfl,Ne.symm h2,?_,by simp⟩);rw [hne (Ne.symm h2)];rfl
   | false=>
     have e:=Zn3 h h';subst e;refine .inr (.inl ⟨rfl,?_,?_⟩)<;>simp [heq]
theorem ZoA (x y:ByteArray):Zbc y x= -Zbc x y:=by
 rcases ZeH x y with ⟨_,_,_,h1,h2⟩|⟨_,h1,h2⟩|⟨_,_,_,h1,h2⟩<;>omega
theorem ZeI (x y:ByteArray):Zbc x y=0↔x=y:=by
 rcases ZeH x y with ⟨_,_,h0,h1,h2⟩|⟨h0,h1,h2⟩|⟨_,_,h0,h1,h2⟩
 · exact ⟨fun h=>by omega,fun h=>absurd h h0⟩
 · exact ⟨fun _=>h0,fun _=>h1⟩
 · exact ⟨fun h=>by omega,fun h=>absurd h h0⟩
theorem ZiL {x y:ByteArray}:Zbc x y= -1↔Zep x y=true:=by
 rcases ZeH x y with ⟨h0,_,_,h1,h2⟩|⟨h0,h1,h2⟩|⟨_,h0,_,h1,h2⟩
 · exact ⟨fun _=>h0,fun _=>h1⟩
 · subst h0;rw [Zew];exact ⟨fun h=>by omega,fun h=>by cases h⟩
 · rw [h0];exact ⟨fun h=>by omega,fun h=>by cases h⟩
theorem ZrW (x y z:ByteArray) (h:Zbc x y= -1) (h':Zbc y z= -1):Zbc x z= -1:=ZiL.2 (Zij (ZiL.1 h) (ZiL.1 h'))
inductive Nd where
 |mk (op:Int) (act:ByteArray) (l:List Nd)
section
def Nd.op:Nd→Int
 | .mk o _ _=>o
def Nd.act:Nd→ByteArray
 | .mk _ a _=>a
def Nd.l:Nd→List Nd
 | .mk _ _ l=>l
theorem Nd.ind {P:Nd→Prop} (h:∀o a l,(∀x∈l,P x)→P (.mk o a l)):∀t,P t:=fun t=>
 Nd.rec (motive_1:=P) (motive_2:=fun l=>∀x∈l,P x) (fun o a l ih=>h o a l ih) (fun _ hx=>by cases hx) (fun x l hx hl y hy=>by
  rcases Xm.1 hy with rfl|hy
  · exact hx
  · exact hl y hy) t
def Zd9 (a b:Int):Int:=if a<b then-1 else if b<a then 1 else 0
def or3 (a b c:Int):Int:=if a≠0 then a else if b≠0 then b else c
mutual
def Zcm:Nd→Nd→Int
 | .mk o a l, .mk o' a' l'=>or3 (Zd9 o o') (Zbc a a') (Zem l l')
def Zem:List Nd→List Nd→Int
 |[],[]=>0
 |[],_::_=> -1
 |_::_,[]=>1
 |x::l,y::m=>if Zcm x y≠0 then Zcm x y else Zem l m
end
theorem Zuk (a b:Int):Zd9 a b= -1∨Zd9 a b=0∨Zd9 a b=1:=by unfold Zd9;split<;>(try split)<;>omega
theorem ZrX (a b:Int):Zd9 b a= -Zd9 a b:=by unfold Zd9;split<;>(try split)<;>(try split)<;>omega
theorem ZgN (a b:Int):Zd9 a b=0↔a=b:=by unfold Zd9;split<;>(try split)<;>omega
theorem Zxl (a b c:Int) (h:Zd9 a b= -1) (h':Zd9 b c= -1):Zd9 a c= -1:=by
 unfold Zd9 at*
 split at h
 · split at h'
   · rw [if_pos (by omega)]
   · split at h'<;>omega
 · split at h<;>omega
theorem ZAx {a b c:Int} (ha:a= -1∨a=0∨a=1) (hb:b= -1∨b=0∨b=1) (hc:c= -1∨c=0∨c=1):or3 a b c= -1∨or3 a b c=0∨or3 a b c=1:=by unfold or3;split<;>(try split)<;>omega
theorem ZAy (a b c:Int):or3 (-a) (-b) (-c)= -or3 a b c:=by unfold or3;split<;>split<;>(try split)<;>(try split)<;>omega
theorem Zxm {a b c:Int}:or3 a b c=0↔a=0∧b=0∧c=0:=by unfold or3;split<;>(try split)<;>omega
theorem ZCL {a b c:Int}:or3 a b c= -1↔a= -1∨(a=0∧(b= -1∨(b=0∧c= -1))):=by unfold or3;split<;>(try split)<;>omega
theorem Zqv:∀(l:List Nd),(∀x∈l,∀y,Zcm x y= -1∨Zcm x y=0∨Zcm x y=1)→∀m,Zem l m= -1∨Zem l m=0∨Zem l m=1
 |[],_,m=>by cases m<;>simp [Zem]
 | x ::l,h,m=>by
   cases m with
   |nil=>simp [Zem]
   | cons y m=>
     rw [Zem];split
     · exact h x (Xk ..) y
     · exact Zqv l (fun y hy=>h y (Xj _ hy)) m
theorem Zm1:∀(l:List Nd),(∀x∈l,∀y,Zcm y x= -Zcm x y)→∀m,Zem m l= -Zem l m
 |[],_,m=>by cases m<;>simp [Zem]
 | x ::l,h,m=>by
   cases m with
   |nil=>simp [Zem]
   | cons y m=>
     rw [Zem,Zem,h x (Xk ..) y];have ih:=Zm1 l (fun y hy=>h y (Xj _ hy)) m;by_cases h0:Zcm x y=0
     · rw [if_neg (by omega),if_neg (by omega)];exact ih
     · rw [if_pos (by omega),if_pos h0]
theorem Zm2:∀(l:List Nd),(∀x∈l,∀y,Zcm x y=0↔x=y)→∀m,Zem l m=0↔l=m
 |[],_,m=>by cases m<;>simp [Zem]
 | x :: l,h,m=>by
   cases m with
   |nil=>simp [Zem]
   | cons y m=>
     rw [Zem];have h1:=h x (Xk ..) y;have ih:=Zm2 l (fun y hy=>h y (Xj _ hy)) m;by_cases h0:Zcm x y=0
     · rw [if_neg (by omega),ih,h1.1 h0];simp
     · rw [if_pos h0];exact ⟨fun h=>absurd h h0,fun h=>absurd (h1.2 (List.cons.inj h).1) h0⟩
theorem Zf7:∀(x y:Nd),Zcm x y= -1∨Zcm x y=0∨Zcm x y=1:=Nd.ind fun o a l ih y=>by
 obtain ⟨o',a',l'⟩:=y
 rw [Zcm]
 exact ZAx (Zuk _ _) (ZrV _ _) (Zqv l ih _)
theorem Zm3:∀(x y:Nd),Zcm y x= -Zcm x y:=Nd.ind fun o a l ih y=>by
 obtain ⟨o',a',l'⟩:=y
 rw [Zcm,Zcm,ZrX,ZoA,Zm1 l ih,ZAy]
theorem Zcc:∀(x y:Nd),Zcm x y=0↔x=y:=Nd.ind fun o a l ih y=>by
 obtain ⟨o',a',l'⟩:=y
 rw [Zcm,Zxm,ZgN,ZeI,Zm2 l ih]
 exact ⟨fun ⟨h1,h2,h3⟩=>by rw [h1,h2,h3],fun h=>by injection h with h1 h2 h3;exact ⟨h1,h2,h3⟩⟩
theorem Zul :∀(l:List Nd),(∀x∈l,∀y z,Zcm x y= -1→Zcm y z= -1→Zcm x z= -1)→∀m n,Zem l m= -1→Zem m n= -1→Zem l n= -1
 | [],_,m,n,h1,h2=>by
   cases m with
   |nil=>rw [Zem] at h1;omega
   | cons y m=>
     cases n with
     |nil=>rw [Zem] at h2;omega
     |cons z n=>rw [Zem]
 | x :: l, h,m,n,h1,h2=>by
   cases m with
   |nil=>rw [Zem] at h1;omega
   | cons y m=>
     cases n with
     |nil=>rw [Zem] at h2;omega
     | cons z n=>
       rw [Zem] at h1 h2 ⊢;have ih:=Zul l (fun y hy=>h y (Xj _ hy)) m n;by_cases h0:Zcm x y=0
       · have e:=(Zcc x y).1 h0;subst e;rw [if_neg (by omega)] at h1;by_cases h3:Zcm x z=0
         · rw [if_neg (by omega)] at h2 ⊢;exact ih h1 h2
         · rw [if_pos h3] at h2 ⊢;exact h2
       · rw [if_pos h0] at h1;by_cases h3:Zcm y z=0
         · have e:=(Zcc y z).1 h3;subst e;rw [if_pos (by omega)];exact h1
         · rw [if_pos h3] at h2;have:=h x (Xk ..) y z h1 h2;rw [if_pos (by omega)];exact this
theorem Zum:∀(x y z:Nd),Zcm x y= -1→Zcm y z= -1→Zcm x z= -1:=Nd.ind fun o a l ih y z h1 h2=>by
 obtain ⟨o',a',l'⟩:=y
 obtain ⟨o2,a2,l2⟩:=z
 rw [Zcm,ZCL] at h1 h2 ⊢
 rcases h1 with h1|⟨e1,h1⟩
 · rcases h2 with h2|⟨e2,_⟩
   · exact .inl (Zxl _ _ _ h1 h2)
   · rw [←(ZgN _ _).1 e2];exact .inl h1
 · rw [(ZgN _ _).1 e1];rcases h2 with h2|⟨e2,h2⟩
   · exact .inl h2
   · refine .inr ⟨e2,?_⟩;rcases h1 with h1|⟨e1,h1⟩
     · rcases h2 with h2|⟨e2,_⟩
       · exact .inl (ZrW _ _ _ h1 h2)
       · rw [←(ZeI _ _).1 e2];exact .inl h1
     · rw [(ZeI _ _).1 e1];rcases h2 with h2|⟨e2,h2⟩
       · exact .inl h2
       · exact .inr ⟨e2,Zul l ih _ _ h1 h2⟩
def leT (x y:Nd):Prop:=Zcm x y≠1
theorem Zcn (x:Nd):leT x x:=by
 have:=(Zcc x x).2 rfl
 unfold leT;omega
theorem Zqw {x y:Nd} (h:leT x y) (h':leT y x):x=y:=by
 unfold leT at*
 have:=Zm3 x y
 have:=Zf7 x y
 exact (Zcc x y).1 (by omega)
theorem Zun {x y:Nd}:leT x y↔Zcm x y= -1∨x=y:=by
 unfold leT
 have:=Zf7 x y
 rw [←Zcc x y];omega
theorem ZbL {x y z:Nd} (h:leT x y) (h':leT y z):leT x z:=by
 rw [Zun] at*
 rcases h with h|rfl
 · rcases h' with h'|rfl
   · exact .inl (Zum x y z h h')
   · exact .inl h
 · exact h'
theorem Zuo {x y:Nd}:¬Zcm x y<0↔leT y x:=by
 unfold leT
 have:=Zm3 x y
 have:=Zf7 x y
 omega
end
section
mutual
def szT:Nd→Nat
 | .mk _ _ l=>1+szL l
def szL:List Nd→Nat
 |[]=>0
 |x::l=>szT x+szL l
end
mutual
def dpT:Nd→Nat
 | .mk _ _ l=>1+dpL l
def dpL:List Nd→Nat
 |[]=>0
 |x::l=>max (dpT x) (dpL l)
end
theorem ZcW (l m:List Nd):szL (l++m)=szL l+szL m:=by
 induction l with
 |nil=>simp [szL]
 |cons x l ih=>rw [Vj,szL,szL,ih,X9]
theorem ZhT {l:List Nd} {k:Nat} {x:Nd} (h:l[k]? =some x):szL (l.take (k+1))=szL (l.take k)+szT x:=by
 rw [List.take_add_one,h,ZcW];simp [szL]
theorem Zup (t:Nd):1≤szT t:=by cases t;rw [szT];omega
theorem Zea {l:List Nd} {x:Nd} (h:x∈l):szT x≤szL l:=by
 induction l with
 |nil=>cases h
 | cons y l ih=>
   rw [szL];rcases Xm.1 h with rfl|h
   · omega
   · have:=ih h;omega
theorem Zuq {l:List Nd} {x:Nd} (h:x∈l):dpT x≤dpL l:=by
 induction l with
 |nil=>cases h
 | cons y l ih=>
   rw [dpL];rcases Xm.1 h with rfl|h
   · omega
   · have:=ih h;omega
theorem ZCM {l:List Nd} {n:Nat}:dpL l≤n↔∀x∈l,dpT x≤n:=by
 induction l with
 |nil=>simp [dpL]
 |cons y l ih=>rw [dpL,Nat.max_le,ih];simp
def rightT (t:Nd):Bool:=
 if t.op=1 then t.l.isEmpty&&ZcN t.act else if t.op=2 then t.l.isEmpty&&decide (t.act=ByteArray.empty) else if t.op=3∨t.op=4∨t.op=5 then !t.l.isEmpty&&decide (t.act=ByteArray.empty)
 else if t.op=6 then decide (t.l.length=2)&&decide (t.act=ByteArray.empty) else false
mutual
def okT:Nd→Bool
 | .mk o a l=>rightT (.mk o a l)&&okL l
def okL:List Nd→Bool
 |[]=>true
 |x::l=>okT x&&okL l
end
theorem ZAz {l:List Nd}:okL l=true↔∀x∈l,okT x=true:=by
 induction l with
 |nil=>simp [okL]
 |cons x l ih=>rw [okL,Xe,ih];simp
theorem Zbt {t:Nd}:okT t=true↔rightT t=true∧∀x∈t.l,okT x=true:=by
 obtain ⟨o,a,l⟩:=t
 rw [okT,Xe,ZAz];rfl
def Zf8 (t:Nd) (most:Int) (d:Int):Bool:=okT t&&decide ((szT t:Int)≤most)&&decide (d+dpT t≤61)
theorem Zzf {t:Nd} {most d:Int} (h:most<1∨60<d∨rightT t=false):Zf8 t most d=false:=by
 cases hm:Zf8 t most d with
 |false=>rfl
 | true=>
   exfalso;unfold Zf8 at hm;simp only [Xe,decide_eq_true_eq] at hm;obtain ⟨⟨h1,h2⟩,h3⟩:=hm;have h4:=Zup t;have h5:1≤dpT t:=by cases t;rw [dpT];omega
   rcases h with h|h|h
   · omega
   · omega
   · rw [(Zbt.1 h1).1] at h;cases h
theorem Zqx {t:Nd} {most d:Int} {k:Nat} {x:Nd} (hx:t.l[k]? =some x) (h:Zf8 x (most-(1+szL (t.l.take k))) (d+1)=false):Zf8 t most d=false:=by
 cases hm:Zf8 t most d with
 |false=>rfl
 | true=>
   exfalso;unfold Zf8 at hm h;simp only [Xe,decide_eq_true_eq] at hm;obtain ⟨⟨h1,h2⟩,h3⟩:=hm;have hmem:=Xg hx;have e1:=(Zbt.1 h1).2 x hmem;have e2:szL t.l=szL (t.l.take k)+szL (t.l.drop k):=by rw [←ZcW,Vt]
   have e3:szT x≤szL (t.l.drop k):=Zea (Xg (show (t.l.drop k)[0]? =some x by rw [Vm];exact hx));have e4:szT t=1+szL t.l:=by cases t;rw [szT];rfl
   have e5:dpT t=1+dpL t.l:=by cases t;rw [dpT];rfl
   have e6:=Zuq hmem;rw [e1,decide_eq_true (by omega),decide_eq_true (by omega)] at h
   cases h
theorem Zur {t:Nd} {most d:Int} (hr:rightT t=true) (h1:1≤most) (h2:d≤60) (h:∀k x,t.l[k]? =some x→Zf8 x (most-(1+szL (t.l.take k))) (d+1)=true):Zf8 t most d=true:=by
 have e4:szT t=1+szL t.l:=by cases t;rw [szT];rfl
 have e5:dpT t=1+dpL t.l:=by cases t;rw [dpT];rfl
 unfold Zf8 at h ⊢
 have key:∀k x,t.l[k]? =some x→okT x=true∧(szT x:Int)≤most-(1+szL (t.l.take k))∧d+1+dpT x≤61:=fun k x hx=>by
  have:=h k x hx;simp only [Xe,decide_eq_true_eq] at this;exact ⟨this.1.1,this.1.2,this.2⟩
 simp only [Xe,decide_eq_true_eq]
 refine ⟨⟨Zbt.2 ⟨hr,fun x hx=>?_⟩,?_⟩,?_⟩
 · obtain ⟨k,hk⟩:=Vc hx;exact (key k x hk).1
 · rw [e4];rcases hn:t.l.length with _|n
   · have:t.l=[]:=XP hn;rw [this];simp [szL];omega
   · obtain ⟨x,hx⟩:∃x,t.l[n]? =some x:=⟨_,XE (by omega)⟩;have e1:=(key n x hx).2.1;have e2:=ZhT hx;rw [Xn (show t.l.length≤n+1 by omega)] at e2;omega
 · rw [e5];have:dpL t.l≤(60-d).toNat:=ZCM.2 fun x hx=>by
    obtain ⟨k,hk⟩:=Vc hx;have:=(key k x hk).2.2;omega
   omega
def Zen (t:Nd):Bool:=Zf8 t 400 1
theorem Zdh {t:Nd} (h:Zen t=true):okT t=true:=by unfold Zen Zf8 at h;simp only [Xe] at h;exact h.1.1
theorem Zf9 {t:Nd} (h:Zen t=true):szT t≤400:=by unfold Zen Zf8 at h;simp only [Xe,decide_eq_true_eq] at h;omega
def Zzg (x:Nd):List Nd→List Nd
 |[]=>[x]
 |y::l=>if Zcm y x<0 then y::Zzg x l else x::y::l
def Zxn (l:List Nd):List Nd:=l.foldl (fun m x=>Zzg x m) []
def Zhb:List Nd→List Nd
 |[]=>[]
 | x::l=>match l with
   |[]=>[x]
   |y::m=>if Zcm x y=0 then Zhb (y::m) else x::Zhb (y::m)
abbrev AscT (l:List Nd):Prop:=l.Pairwise fun x y=>leT x y
abbrev StrT' (l:List Nd):Prop:=l.Pairwise fun x y=>Zcm x y<0
theorem ZCN {x y:Nd} (h:Zcm x y<0):leT x y:=by unfold leT;omega
theorem ZDU {x y:Nd} (h:Zcm x y<0):x≠y:=fun e=>by have:=(Zcc x y).2 e;omega
theorem Zli {x y:Nd} (h:leT x y) (h':x≠y):Zcm x y<0:=by
 rcases Zun.1 h with h|h
 · omega
 · exact absurd h h'
theorem ZiM (x:Nd):∀l,(Zzg x l).Perm (x::l)
 |[]=>List.Perm.refl _
 | y::l=>by
   rw [Zzg];split
   · exact ((ZiM x l).cons y).trans (List.Perm.swap ..)
   · exact List.Perm.refl _
theorem Zqy (x:Nd):∀l,AscT l→AscT (Zzg x l)
 |[],_=>Vx ..
 | y ::l,h=>by
   rw [Zzg];obtain ⟨h1,h2⟩:=XO.1 h;split
   · rename_i hl;refine XO.2 ⟨fun z hz=>?_,Zqy x l h2⟩;rcases Xm.1 ((ZiM x l).mem_iff.1 hz) with rfl|hz
     · exact ZCN hl
     · exact h1 z hz
   · rename_i hl;have hxy:leT x y:=Zuo.1 hl;refine XO.2 ⟨fun z hz=>?_,h⟩;rcases Xm.1 hz with rfl|hz
     · exact hxy
     · exact ZbL hxy (h1 z hz)
theorem Zqz (l:List Nd):∀m,AscT m→AscT (l.foldl (fun m x=>Zzg x m) m)∧(l.foldl (fun m x=>Zzg x m) m).Perm (m++l):=by
 induction l with
 |nil=>intro m h;exact ⟨h,by simp⟩
 | cons x l ih=>
   intro m h;rw [VK];obtain ⟨h1,h2⟩:=ih _ (Zqy x m h);refine ⟨h1,h2.trans ?_⟩;exact ((ZiM x m).append_right l).trans (by
    rw [Vj];exact (List.perm_middle (l₁:=m) (a:=x) (l₂:=l)).symm)
theorem ZhU (l:List Nd):AscT (Zxn l):=(Zqz l [] List.Pairwise.nil).1
theorem Zcz (l:List Nd):(Zxn l).Perm l:=by
 have:=(Zqz l [] List.Pairwise.nil).2
 rwa [Vf] at this
theorem ZqA {l m:List Nd} (hl:AscT l) (hm:AscT m) (h:l.Perm m):l=m:=by
 exact List.Perm.eq_of_pairwise (fun a b _ _ h1 h2=>Zqw h1 h2) hl hm h
theorem ZAA {l m:List Nd} (hm:AscT m) (h:m.Perm l):m=Zxn l:=ZqA hm (ZhU l) (h.trans (Zcz l).symm)
theorem Zus {l:List Nd} (h:StrT' l):AscT l:=h.imp fun h=>ZCN h
theorem Zm4 {l:List Nd} (h:StrT' l):l.Nodup:=h.imp fun h=>ZDU h
theorem ZqB {l m:List Nd} (hl:StrT' l) (hm:StrT' m) (h:∀z,z∈l↔z∈m):l=m:=
 ZqA (Zus hl) (Zus hm) ((List.perm_ext_iff_of_nodup (Zm4 hl) (Zm4 hm)).2 h)
theorem ZcS:∀(l:List Nd) z,z∈Zhb l↔z∈l
 |[],z=>by simp [Zhb]
 |[x],z=>by simp [Zhb]
 | x ::y::m,z=>by
   rw [Zhb];split
   · rename_i h;rw [ZcS (y::m),(Zcc x y).1 h];simp
   · rw [Xm,ZcS (y::m)];simp
theorem Zeb:∀(l:List Nd),AscT l→StrT' (Zhb l)
 |[],_=>List.Pairwise.nil
 |[x],_=>Vx ..
 | x ::y::m,h=>by
   rw [Zhb];obtain ⟨h1,h2⟩:=XO.1 h;split
   · exact Zeb (y::m) h2
   · rename_i hn;refine XO.2 ⟨fun z hz=>?_,Zeb (y::m) h2⟩;have hz':=(ZcS (y::m) z).1 hz;have hxz:=h1 z hz';refine Zli hxz fun e=>hn ?_;subst e;have hyx:leT y x:=by
      rcases Xm.1 hz' with h|h
      · rw [h];exact Zcn y
      · exact (XO.1 h2).1 _ h
     exact (Zcc x y).2 (Zqw (h1 y (Xk ..)) hyx)
end
section
def ZnZ:Nd:= .mk 2 ByteArray.empty []
def ZbZ (op:Int) (l:List Nd):List Nd:=l.flatMap fun x=>if x.op=op then x.l else if x.op≠2∨op=4 then [x] else []
def Zl0 (op:Int):List Nd→Nd
 |[]=>ZnZ
 |[x]=>x
 |x::y::l=> .mk op ByteArray.empty (x::y::l)
def Zjz (op:Int) (p:List Nd):List Nd:=if op=3 then p else if op=4 then Zhb (Zxn p) else Zxn p
def ZgO (op:Int) (l:List Nd):Nd:=Zl0 op (Zjz op (ZbZ op l))
def Zes (f s:Nd):Nd×Nd:=if f.op=6 then match f.l with
 |a::b::_=>(a,ZgO 4 [b,s])
 |_=>(f,s) else (f,s)
def ZsL (p:Nd×Nd):Nd:=if p.1.op=2∧p.2.op=2 then ZnZ else .mk 6 ByteArray.empty [p.1,p.2]
def ZB5:List Nd→Nd
 |f::s::_=>ZsL (Zes f s)
 |_=>ZnZ
def ZsM (o:Int) (a:ByteArray) (l:List Nd):Nd:=if o=1∨o=2 then .mk o a [] else if o=6 then ZB5 l else ZgO o l
mutual
def ZaK:Nd→Nd
 | .mk o a l=>ZsM o a (Zdi l)
def Zdi:List Nd→List Nd
 |[]=>[]
 |x::l=>ZaK x::Zdi l
end
theorem ZfL (l:List Nd):Zdi l=l.map ZaK:=by
 induction l with
 |nil=>rfl
 |cons x l ih=>rw [Zdi,ih];rfl
structure NfN (t:Nd):Prop where
 rt:rightT t=true
 two:t.op≠6→∀x∈t.l,2≤t.l.length∧x.op≠t.op
 ns:t.op=3∨t.op=5→∀x∈t.l,x.op≠2
 xo:t.op=4→StrT' t.l
 an:t.op=5→AscT t.l
 lp:t.op=6→∃a b,t.l=[a,b]∧a.op≠6∧¬(a.op=2∧b.op=2)
inductive NF:Nd→Prop
 |mk (t:Nd) (h:NfN t) (hp:∀x∈t.l,NF x):NF t
theorem NF.n {t:Nd}:NF t→NfN t
 | .mk _ h _=>h
theorem NF.p {t:Nd}:NF t→∀x∈t.l,NF x
 | .mk _ _ h=>h
theorem NF.ok {t:Nd}:NF t→okT t=true
 | .mk _ h hp=>Zbt.2 ⟨h.rt,fun x hx=>NF.ok (hp x hx)⟩
theorem ZcA {t:Nd} (h:rightT t=true):t.op=1∨t.op=2∨t.op=3∨t.op=4∨t.op=5∨t.op=6:=by
 unfold rightT at h
 by_cases h1:t.op=1
 · exact .inl h1
 · by_cases h2:t.op=2
   · exact .inr (.inl h2)
   · by_cases h3:t.op=3∨t.op=4∨t.op=5
     · omega
     · by_cases h4:t.op=6
       · omega
       · rw [if_neg h1,if_neg h2,if_neg h3,if_neg h4] at h;cases h
theorem Zut:rightT ZnZ=true:=by unfold rightT ZnZ;simp [Nd.op,Nd.l,Nd.act]
theorem Zuu {t:Nd} (hr:rightT t=true) (hl:t.l=[]) (ho:t.op=1∨t.op=2):NF t:=
 .mk t ⟨hr,fun _ x hx=>by (rw [hl] at hx;cases hx),fun h=>by omega,fun h=>by omega,fun h=>by omega,fun h=>by omega⟩ fun x hx=>by rw [hl] at hx;cases hx
theorem Zzh:NF ZnZ:=Zuu Zut rfl (.inr rfl)
theorem ZAB {op:Int} {l:List Nd} (hl:∀x∈l,NF x) (ho:op=3∨op=4∨op=5) {y:Nd} (hy:y∈ZbZ op l):NF y∧y.op≠op∧(op≠4→y.op≠2):=by
 unfold ZbZ at hy
 obtain ⟨x,hx,hy⟩:=X4.1 hy
 by_cases h1:x.op=op
 · rw [if_pos h1] at hy;have hn:=(hl x hx).n;refine ⟨(hl x hx).p y hy,?_,fun h4=>hn.ns (by omega) y hy⟩;rw [←h1];exact (hn.two (by omega) y hy).2
 · rw [if_neg h1] at hy;split at hy
   · rename_i h2;rw [Xi] at hy;subst hy;exact ⟨hl _ hx,h1,fun h4=>by omega⟩
   · cases hy
theorem ZgP {op:Int} {p:List Nd} {y:Nd}:y∈Zjz op p↔y∈p:=by
 unfold Zjz
 split
 · exact Iff.rfl
 · split
   · rw [ZcS,(Zcz p).mem_iff]
   · rw [(Zcz p).mem_iff]
theorem ZCO {op:Int} (ho:op=3∨op=4∨op=5) {p:List Nd} (hp:∀y∈p,NF y∧y.op≠op∧(op≠4→y.op≠2)) (h4:op=4→StrT' p) (h5:op=5→AscT p):NF (Zl0 op p):=by
 match p,hp,h4,h5 with
 |[],_,_,_=>exact Zzh
 |[x],hp,_,_=>exact (hp x (Xk ..)).1
 | x::y::l,hp,h4,h5=>
   refine .mk _ ⟨?_,fun _ z hz=>⟨by simp [Zl0,Nd.l],(hp z hz).2.1⟩,fun h z hz=>(hp z hz).2.2 (by simp only [Zl0,Nd.op] at h;omega),fun h=>h4 h,fun h=>h5 h,fun h=>?_⟩ fun z hz=>(hp z hz).1
   · rcases ho with rfl|rfl|rfl<;>simp [rightT,Zl0,Nd.op,Nd.l,Nd.act]
   · simp only [Zl0,Nd.op] at h;omega
theorem ZoB {op:Int} (ho:op=3∨op=4∨op=5) {l:List Nd} (hl:∀x∈l,NF x):NF (ZgO op l):=by
 refine ZCO ho (fun y hy=>ZAB hl ho (ZgP.1 hy)) (fun h=>?_) (fun h=>?_)
 · subst h;unfold Zjz;rw [if_neg (by decide),if_pos rfl];exact Zeb _ (ZhU _)
 · subst h;unfold Zjz;rw [if_neg (by decide),if_neg (by decide)];exact ZhU _
theorem ZAC {p:Nd×Nd} (h1:NF p.1) (h2:NF p.2) (h6:p.1.op≠6):NF (ZsL p):=by
 unfold ZsL
 split
 · exact Zzh
 · rename_i h;refine .mk _ ⟨by simp [rightT,Nd.op,Nd.l,Nd.act],fun h=>absurd rfl h,fun h=>?_,fun h=>?_,fun h=>?_,fun _=>⟨_,_,rfl,h6,h⟩⟩ fun x hx=>?_
   · simp [Nd.op] at h
   · simp [Nd.op] at h
   · simp [Nd.op] at h
   · rcases Xm.1 hx with rfl|hx
     · exact h1
     · rcases Xm.1 hx with rfl|hx
       · exact h2
       · cases hx
theorem ZAD {f s:Nd} (hf:NF f) (hs:NF s):NF (Zes f s).1∧NF (Zes f s).2∧(Zes f s).1.op≠6:=by
 unfold Zes
 by_cases h:f.op=6
 · rw [if_pos h];obtain ⟨a,b,hl,ha,_⟩:=hf.n.lp h;rw [hl];have hp:=hf.p;rw [hl] at hp;have hb:=hp b (by simp);refine ⟨hp a (by simp),ZoB (by omega) fun x hx=>?_,ha⟩;rcases Xm.1 hx with rfl|hx
   · exact hb
   · rw [Xi] at hx;subst hx;exact hs
 · rw [if_neg h];exact ⟨hf,hs,h⟩
theorem Zuv:∀(t:Nd),okT t=true→NF (ZaK t):=Nd.ind fun o a l ih hok=>by
 obtain ⟨hr,hp⟩:=Zbt.1 hok
 simp only [Nd.l] at hp
 have hl:∀x∈Zdi l,NF x:=fun x hx=>by
  rw [ZfL] at hx;obtain ⟨y,hy,rfl⟩:=Xo.1 hx;exact ih y hy (hp y hy)
 rw [ZaK]
 unfold ZsM
 split
 · rename_i h;refine Zuu ?_ rfl h;unfold rightT at hr ⊢;rcases h with rfl|rfl
   · simp [Nd.op,Nd.l,Nd.act] at hr ⊢;exact hr.2
   · simp [Nd.op,Nd.l,Nd.act] at hr ⊢;exact hr.2
 · split
   · rename_i h1 h;subst h;have hlen:l.length=2:=by
      unfold rightT at hr;simp [Nd.op,Nd.l,Nd.act] at hr;exact of_decide_eq_true hr.1
     obtain ⟨x,y,rfl⟩:∃x y,l=[x,y]:=by
      match l,hlen with
      |[x,y],_=>exact ⟨x,y,rfl⟩
     rw [Zdi,Zdi,Zdi] at hl ⊢;obtain ⟨g1,g2,g3⟩:=ZAD (hl (ZaK x) (by simp)) (hl (ZaK y) (by simp));exact ZAC g1 g2 g3
   · rename_i h1 h2;exact ZoB (by have:=ZcA hr;simp only [Nd.op] at this;omega) hl
end
theorem ZCP {l:List Nd} (hl:∀x∈l,NF x) (hne:l≠[]):ZbZ 4 l≠[]:=by
 cases l with
 |nil=>exact absurd rfl hne
 | cons x m=>
   unfold ZbZ;rw [Xv];intro h;have h1:=(List.append_eq_nil_iff.1 h).1;by_cases hx:x.op=4
   · rw [if_pos hx] at h1;have hr:=(hl x (by simp)).n.rt;unfold rightT at hr;rw [if_neg (by omega),if_neg (by omega),if_pos (by omega),h1] at hr;simp at hr
   · rw [if_neg hx,if_pos (.inr rfl)] at h1;cases h1
mutual
def Zdj:Nd→List ByteArray
 | .mk o a l=>if o=1 then a::Zgw l else Zgw l
def Zgw:List Nd→List ByteArray
 |[]=>[]
 |x::l=>Zdj x++Zgw l
end
theorem Zbk {l:List Nd} {s:ByteArray}:s∈Zgw l↔∃x∈l,s∈Zdj x:=by
 induction l with
 |nil=>simp [Zgw]
 |cons x l ih=>rw [Zgw,Xp,ih];simp
theorem Zhc {x:Nd} (h:x.op≠1):Zdj x=Zgw x.l:=by
 obtain ⟨o,a,l⟩:=x
 rw [Zdj,if_neg (show ¬o=1 from h)];rfl
theorem Zuw:Zdj ZnZ=[]:=rfl
theorem Zlj {x:Nd} (h:rightT x=true) (h2:x.op=2):Zdj x=[]:=by
 unfold rightT at h
 rw [h2] at h
 simp at h
 rw [Zhc (by omega),h.1];rfl
theorem ZAE {op:Int} (ho:op=3∨op=4∨op=5) {l:List Nd} (hl:∀x∈l,rightT x=true) {s:ByteArray}:s∈Zgw (ZbZ op l)↔s∈Zgw l:=by
 rw [Zbk,Zbk]
 unfold ZbZ
 constructor
 · rintro ⟨y,hy,hs⟩;obtain ⟨x,hx,hy⟩:=X4.1 hy;refine ⟨x,hx,?_⟩;split at hy
   · rename_i h;rw [Zhc (by omega),Zbk];exact ⟨y,hy,hs⟩
   · split at hy
     · rw [Xi] at hy;subst hy;exact hs
     · cases hy
 · rintro ⟨x,hx,hs⟩;by_cases h1:x.op=op
   · rw [Zhc (by omega),Zbk] at hs;obtain ⟨y,hy,hs⟩:=hs;exact ⟨y,X4.2 ⟨x,hx,by rw [if_pos h1];exact hy⟩,hs⟩
   · by_cases h2:x.op≠2∨op=4
     · exact ⟨x,X4.2 ⟨x,hx,by rw [if_neg h1,if_pos h2];simp⟩,hs⟩
     · rw [Zlj (hl x hx) (by omega)] at hs;cases hs
theorem ZAF {op:Int} (ho:op=3∨op=4∨op=5) {p:List Nd} {s:ByteArray}:s∈Zdj (Zl0 op p)↔s∈Zgw p:=by
 match p with
 |[]=>rw [Zl0,Zuw,Zgw]
 |[x]=>rw [Zl0,Zgw,Zgw,XA]
 |x::y::l=>rw [Zl0,Zhc (by simp only [Nd.op];omega)];rfl
theorem ZqC {op:Int} (ho:op=3∨op=4∨op=5) {l:List Nd} (hl:∀x∈l,rightT x=true) {s:ByteArray}:s∈Zdj (ZgO op l)↔s∈Zgw l:=by
 rw [ZgO,ZAF ho,←ZAE ho hl,Zbk,Zbk]
 exact ⟨fun ⟨x,hx,hs⟩=>⟨x,ZgP.1 hx,hs⟩,fun ⟨x,hx,hs⟩=>⟨x,ZgP.2 hx,hs⟩⟩
theorem ZAG:∀(t:Nd),okT t=true→∀s,s∈Zdj (ZaK t)↔s∈Zdj t:=Nd.ind fun o a l ih hok s=>by
 obtain ⟨hr,hp⟩:=Zbt.1 hok
 simp only [Nd.l] at hp
 have hnf:∀x∈Zdi l,NF x:=fun x hx=>by
  rw [ZfL] at hx;obtain ⟨y,hy,rfl⟩:=Xo.1 hx;exact Zuv y (hp y hy)
 have hL:s∈Zgw (Zdi l)↔s∈Zgw l:=by
  rw [Zbk,Zbk,ZfL];constructor
  · rintro ⟨y,hy,hs⟩;obtain ⟨x,hx,rfl⟩:=Xo.1 hy;exact ⟨x,hx,(ih x hx (hp x hx) s).1 hs⟩
  · rintro ⟨x,hx,hs⟩;exact ⟨ZaK x,List.mem_map_of_mem hx,(ih x hx (hp x hx) s).2 hs⟩
 have hops:=ZcA hr
 simp only [Nd.op] at hops
 rw [ZaK]
 unfold ZsM
 by_cases h12:o=1∨o=2
 · rw [if_pos h12];have hl:l=[]:=by
    unfold rightT at hr;simp only [Nd.op,Nd.l,Nd.act] at hr;rcases h12 with rfl|rfl
    · simp at hr;exact hr.1
    · simp at hr;exact hr.1
   rw [hl]
 · rw [if_neg h12];by_cases h6:o=6
   · rw [if_pos h6];subst h6;obtain ⟨x,y,rfl⟩:∃x y,l=[x,y]:=by
      unfold rightT at hr;simp [Nd.op,Nd.l,Nd.act] at hr;match l,hr.1 with
      |[x,y],_=>exact ⟨x,y,rfl⟩
     rw [Zdi,Zdi,Zdi] at hL hnf ⊢;rw [Zhc (x:= .mk 6 a [x,y]) (by simp [Nd.op])];show _↔s∈Zgw [x,y];rw [←hL,ZB5];have hF:=hnf (ZaK x) (by simp);have hS:=hnf (ZaK y) (by simp);generalize ZaK x=F at hF ⊢;generalize ZaK y=S at hS ⊢;have hE:∀p:Nd×Nd,rightT p.1=true→rightT p.2=true→(s∈Zdj (ZsL p)↔s∈Zdj p.1∨s∈Zdj p.2):=fun p h1 h2=>by
      unfold ZsL;split
      · rename_i h;rw [Zuw,Zlj h1 h.1,Zlj h2 h.2];simp
      · rw [Zhc (by simp [Nd.op])];show s∈Zgw [p.1,p.2]↔_;rw [Zbk];simp
     (have hSS:s∈Zgw [F,S]↔s∈Zdj F∨s∈Zdj S:=by rw [Zbk];simp);rw [hSS];unfold Zes;by_cases hf6:F.op=6
     · rw [if_pos hf6];obtain ⟨A,B,hAB,_⟩:=hF.n.lp hf6;rw [hAB];have hpp:=hF.p;rw [hAB] at hpp;have hB:=hpp B (by simp);rw [hE _ (hpp A (by simp)).n.rt (ZoB (by omega) (fun z hz=>by
        simp only [Xm,V9,or_false] at hz;rcases hz with rfl|rfl
        · exact hB
        · exact hS)).n.rt,ZqC (by omega) (fun z hz=>by
        simp only [Xm,V9,or_false] at hz;rcases hz with rfl|rfl
        · exact hB.n.rt
        · exact hS.n.rt),Zhc (x:=F) (by omega),hAB,Zbk,Zbk]
       simp [or_assoc]
     · rw [if_neg hf6,hE _ hF.n.rt hS.n.rt]
   · rw [if_neg h6,ZqC (by omega) (fun x hx=>(hnf x hx).n.rt),hL,Zhc (by simp only [Nd.op];omega)];rfl
abbrev Lg:=List ByteArray→Prop
def Zj4:List Lg→Lg
 |[]=>fun w=>w=[]
 |A::m=>fun w=>∃u v,w=u++v∧A u∧Zj4 m v
def Zl1 (m:List Lg):Lg:=fun w=>∃A∈m,A w
inductive Shf:List ByteArray→List ByteArray→List ByteArray→Prop
 |nil:Shf [] [] []
 |left {a:ByteArray} {u v w:List ByteArray} (h:Shf u v w):Shf (a::u) v (a::w)
 |right {a:ByteArray} {u v w:List ByteArray} (h:Shf u v w):Shf u (a::v) (a::w)
def ZiN:List Lg→Lg
 |[]=>fun w=>w=[]
 |A::m=>fun w=>∃u v,Shf u v w∧A u∧ZiN m v
inductive LpG (A B:Lg):Lg
 |one {w:List ByteArray} (h:A w):LpG A B w
 |more {u v z:List ByteArray} (h1:LpG A B u) (h2:B v) (h3:A z):LpG A B (u++(v++z))
def lpG:List Lg→Lg
 |A::B::_=>LpG A B
 |_=>fun _=>False
def opG (o:Int) (a:ByteArray) (m:List Lg):Lg:=if o=1 then (fun w=>w=[a]) else if o=2 then (fun w=>w=[]) else if o=3 then Zj4 m else if o=4 then Zl1 m else if o=5 then ZiN m else lpG m
mutual
def Zah:Nd→Lg
 | .mk o a l=>opG o a (Zxo l)
def Zxo:List Nd→List Lg
 |[]=>[]
 |x::l=>Zah x::Zxo l
end
theorem Zxp (l:List Nd):Zxo l=l.map Zah:=by
 induction l with
 |nil=>rfl
 |cons x l ih=>rw [Zxo,ih];rfl
theorem ZfM (o:Int) (a:ByteArray) (l:List Nd):Zah (.mk o a l)=opG o a (l.map Zah):=by rw [Zah,Zxp]
theorem ZiO (x:Nd):Zah x=opG x.op x.act (x.l.map Zah):=by obtain ⟨o,a,l⟩:=x;exact ZfM o a l
theorem Ze6 {x:Nd} (h:x.op=2):Zah x=fun w=>w=[]:=by rw [ZiO,h];rfl
theorem ZoC:∀w,Shf w [] w
 |[]=> .nil
 |a::w=> .left (ZoC w)
theorem Zec {u v w:List ByteArray} (h:Shf u v w):Shf v u w:=by
 induction h with
 |nil=>exact .nil
 |left _ ih=>exact .right ih
 |right _ ih=>exact .left ih
theorem Zj5 {u w:List ByteArray} (h:Shf u [] w):w=u:=by
 generalize hv:([]:List ByteArray)=v at h
 induction h with
 |nil=>rfl
 |left _ ih=>rw [ih hv]
 |right _ _=>cases hv
theorem ZiP {u v w:List ByteArray} (h:Shf u v w):∀{s z:List ByteArray},Shf s z v→∃x,Shf u s x∧Shf x z w:=by
 induction h with
 |nil=>intro s z h2;cases h2;exact ⟨[], .nil, .nil⟩
 | left _ ih=>
   intro s z h2;obtain ⟨x,h3,h4⟩:=ih h2;exact ⟨_, .left h3, .left h4⟩
 | right _ ih=>
   intro s z h2
   cases h2 with
   |left h2=>obtain ⟨x,h3,h4⟩:=ih h2;exact ⟨_, .right h3, .left h4⟩
   |right h2=>obtain ⟨x,h3,h4⟩:=ih h2;exact ⟨x,h3, .right h4⟩
theorem Zj6 {x z w u s:List ByteArray} (h1:Shf x z w) (h2:Shf u s x):∃v,Shf u v w∧Shf s z v:=by
 obtain ⟨v,h3,h4⟩:=ZiP (Zec h1) (Zec h2)
 exact ⟨v,Zec h4,Zec h3⟩
theorem ZoD:∀(m n:List Lg),Zj4 (m++n)=fun w=>∃u v,w=u++v∧Zj4 m u∧Zj4 n v
 |[],n=>funext fun w=>propext ⟨fun h=>⟨[],w,rfl,rfl,h⟩,fun ⟨u,v,h1,h2,h3⟩=>by cases h2;rw [h1];exact h3⟩
 | A ::m,n=>funext fun w=>propext (by
   show (∃u v,w=u++v∧A u∧Zj4 (m++n) v)↔∃u v,w=u++v∧(∃u2 v2,u=u2++v2∧A u2∧Zj4 m v2)∧Zj4 n v;rw [ZoD m n];constructor
   · rintro ⟨u,v,rfl,h1,u2,v2,rfl,h2,h3⟩;exact ⟨u++u2,v2,by rw [Xw],⟨u,u2,rfl,h1,h2⟩,h3⟩
   · rintro ⟨u,v,rfl,⟨u2,v2,rfl,h1,h2⟩,h3⟩;exact ⟨u2,v2++v,by rw [Xw],h1,v2,v,rfl,h2,h3⟩)
theorem ZoE:∀(m n:List Lg),ZiN (m++n)=fun w=>∃u v,Shf u v w∧ZiN m u∧ZiN n v
 |[],n=>funext fun w=>propext ⟨fun h=>⟨[],w,Zec (ZoC w),rfl,h⟩,fun ⟨u,v,h1,h2,h3⟩=>by cases h2;rw [Zj5 (Zec h1)];exact h3⟩
 | A ::m,n=>funext fun w=>propext (by
   show (∃u v,Shf u v w∧A u∧ZiN (m++n) v)↔∃u v,Shf u v w∧(∃u2 v2,Shf u2 v2 u∧A u2∧ZiN m v2)∧ZiN n v;rw [ZoE m n];constructor
   · rintro ⟨u,v,h0,h1,u2,v2,h4,h2,h3⟩;obtain ⟨x,h5,h6⟩:=ZiP h0 h4;exact ⟨x,v2,h6,⟨u,u2,h5,h1,h2⟩,h3⟩
   · rintro ⟨u,v,h0,⟨u2,v2,h4,h1,h2⟩,h3⟩;obtain ⟨x,h5,h6⟩:=Zj6 h0 h4;exact ⟨u2,x,h5,h1,v2,v,h6,h2,h3⟩)
theorem Zlk (A:Lg):Zj4 [A]=A:=funext fun w=>propext ⟨fun ⟨u,v,h1,h2,h3⟩=>by cases h3;rw [h1,XA];exact h2,fun h=>⟨w,[],(XA w).symm,h,rfl⟩⟩
theorem and_one (A:Lg):ZiN [A]=A:=funext fun w=>propext ⟨fun ⟨u,v,h1,h2,h3⟩=>by cases h3;rw [Zj5 h1];exact h2,fun h=>⟨w,[],ZoC w,h,rfl⟩⟩
theorem Zxq (A B:Lg) (m:List Lg):ZiN (A::B::m)=ZiN (B::A::m):=by
 have key:∀A B:Lg,∀w,ZiN (A::B::m) w→ZiN (B::A::m) w:=fun A B w=>by
  rintro ⟨u,v,h0,h1,u2,v2,h4,h2,h3⟩;obtain ⟨x,h5,h6⟩:=ZiP h0 h4;obtain ⟨y,h7,h8⟩:=Zj6 h6 (Zec h5);exact ⟨u2,y,h7,h2,u,v2,h8,h1,h3⟩
 exact funext fun w=>propext ⟨key A B w,key B A w⟩
theorem Zxr {m n:List Lg} (h:m.Perm n):ZiN m=ZiN n:=by
 induction h with
 |nil=>rfl
 |cons A _ ih=>exact funext fun w=>by show (∃u v,Shf u v w∧A u∧ZiN _ v)=_;rw [ih];rfl
 |swap A B m=>exact Zxq B A m
 |trans _ _ h1 h2=>exact h1.trans h2
theorem ZAH {m n:List Lg} (h:∀A,A∈m↔A∈n):Zl1 m=Zl1 n:=funext fun w=>propext ⟨fun ⟨A,h1,h2⟩=>⟨A,(h A).1 h1,h2⟩,fun ⟨A,h1,h2⟩=>⟨A,(h A).2 h1,h2⟩⟩
theorem Zxs {op:Int} (ho:op=3∨op=4∨op=5) {p:List Nd} (h4:op=4→p≠[]):Zah (Zl0 op p)=opG op ByteArray.empty (p.map Zah):=by
 match p with
 | []=>
   rw [Zl0,Ze6 rfl];rcases ho with rfl|rfl|rfl
   · rfl
   · exact absurd rfl (h4 rfl)
   · rfl
 | [x]=>
   rw [Zl0];rcases ho with rfl|rfl|rfl
   · exact (Zlk _).symm
   · exact funext fun w=>propext ⟨fun h=>⟨_,Xi.2 rfl,h⟩,fun ⟨A,h1,h2⟩=>by rw [List.map_singleton,Xi] at h1;rw [←h1];exact h2⟩
   · exact (and_one _).symm
 |x::y::l=>rw [Zl0,ZfM]
theorem Zxt {op:Int} (ho:op=3∨op=4∨op=5) (p:List Nd) (a:ByteArray):opG op a ((Zjz op p).map Zah)=opG op a (p.map Zah):=by
 rcases ho with rfl|rfl|rfl
 · rfl
 · exact ZAH fun A=>by
    rw [Xo,Xo];exact ⟨fun ⟨x,h1,h2⟩=>⟨x,ZgP.1 h1,h2⟩,fun ⟨x,h1,h2⟩=>⟨x,ZgP.2 h1,h2⟩⟩
 · exact Zxr ((Zcz p).map Zah)
theorem ZqD {op:Int} (ho:op=3∨op=4∨op=5) (a:ByteArray):∀l:List Nd,opG op a ((ZbZ op l).map Zah)=opG op a (l.map Zah)
 |[]=>rfl
 | x :: l =>by
   have ih:=ZqD ho a l;have e:ZbZ op (x::l)=(if x.op=op then x.l else if x.op≠2∨op=4 then [x] else [])++ZbZ op l:=rfl;rw [e,XC];rcases ho with rfl|rfl|rfl
   · show Zj4 (_++_)=Zj4 (Zah x::l.map Zah);have ih:Zj4 ((ZbZ 3 l).map Zah)=Zj4 (l.map Zah):=ih;rw [ZoD,ih];by_cases h3:x.op=3
     · rw [if_pos h3];(have:Zj4 (x.l.map Zah)=Zah x:=by rw [ZiO x,h3];rfl);rw [this];rfl
     · rw [if_neg h3];by_cases h2:x.op=2
       · rw [if_neg (by omega),Ze6 h2];rfl
       · rw [if_pos (.inl h2)];have:Zj4 ([x].map Zah)=Zah x:=Zlk _;rw [this];rfl
   · show Zl1 (_++_)=Zl1 (Zah x::l.map Zah);have ih:Zl1 ((ZbZ 4 l).map Zah)=Zl1 (l.map Zah):=ih;have hap:∀m n:List Lg,Zl1 (m++n)=fun w=>Zl1 m w∨Zl1 n w:=fun m n=>funext fun w=>propext (by
      constructor
      · rintro ⟨A,h1,h2⟩;rcases Xp.1 h1 with h|h
        · exact .inl ⟨A,h,h2⟩
        · exact .inr ⟨A,h,h2⟩
      · rintro (⟨A,h1,h2⟩|⟨A,h1,h2⟩)
        · exact ⟨A,Xp.2 (.inl h1),h2⟩
        · exact ⟨A,Xp.2 (.inr h1),h2⟩)
     have hx1:Zl1 [Zah x]=Zah x:=funext fun w=>propext ⟨fun ⟨A,h1,h2⟩=>by rw [Xi] at h1;rw [←h1];exact h2,fun h=>⟨_,Xi.2 rfl,h⟩⟩;rw [hap,ih,show Zah x::l.map Zah=[Zah x]++l.map Zah from rfl,hap,hx1];by_cases h3:x.op=4
     · rw [if_pos h3];(have:Zl1 (x.l.map Zah)=Zah x:=by rw [ZiO x,h3];rfl);rw [this]
     · rw [if_neg h3,if_pos (.inr rfl)];rw [show [x].map Zah=[Zah x] from rfl,hx1]
   · show ZiN (_++_)=ZiN (Zah x::l.map Zah);have ih:ZiN ((ZbZ 5 l).map Zah)=ZiN (l.map Zah):=ih;rw [ZoE,ih];by_cases h3:x.op=5
     · rw [if_pos h3];(have:ZiN (x.l.map Zah)=Zah x:=by rw [ZiO x,h3];rfl);rw [this];rfl
     · rw [if_neg h3];by_cases h2:x.op=2
       · rw [if_neg (by omega),Ze6 h2];rfl
       · rw [if_pos (.inl h2)];have:ZiN ([x].map Zah)=Zah x:=and_one _;rw [this];rfl
theorem Zga {op:Int} (ho:op=3∨op=4∨op=5) (a:ByteArray) {l:List Nd} (hl:∀x∈l,NF x) (hne:l≠[]):Zah (ZgO op l)=opG op a (l.map Zah):=by
 have hop:∀m,opG op ByteArray.empty m=opG op a m:=fun m=>by rcases ho with rfl|rfl|rfl<;>rfl
 rw [ZgO,Zxs ho (fun h4 h=>?_),Zxt ho,ZqD ho,hop]
 subst h4
 obtain ⟨y,hy⟩:=List.exists_mem_of_ne_nil _ (ZCP hl hne)
 have:=(ZgP (op:=4)).2 hy
 rw [h] at this;cases this
theorem ZDV {P Q S:Lg}:LpG (LpG P Q) S=LpG P (Zl1 [Q,S]):=by
 have hxQ:∀{w},Q w→Zl1 [Q,S] w:=fun h=>⟨Q,by simp,h⟩
 have hxS:∀{w},S w→Zl1 [Q,S] w:=fun h=>⟨S,by simp,h⟩
 have lift:∀{w},LpG P Q w→LpG P (Zl1 [Q,S]) w:=fun h=>by
  induction h with
  |one h=>exact .one h
  |more _ h2 h3 ih=>exact .more ih (hxQ h2) h3
 have join:∀{u v z},LpG P (Zl1 [Q,S]) u→S v→LpG P Q z→LpG P (Zl1 [Q,S]) (u++(v++z)):=fun {u v z} h1 h2 h3=>by
  induction h3 with
  |one h=>exact .more h1 (hxS h2) h
  | @more u' v' z' _ h5 h6 ih=>
    rw [show u++(v++(u'++(v'++z')))=(u++(v++u'))++(v'++z') by simp only [Xw]];exact .more ih (hxQ h5) h6
 refine funext fun w=>propext ⟨fun h=>?_,fun h=>?_⟩
 · induction h with
   |one h=>exact lift h
   |more _ h2 h3 ih=>exact join ih h2 h3
 · induction h with
   |one h=>exact .one (.one h)
   | @more u v z _ h2 h3 ih=>
     obtain ⟨A,hA,h4⟩:=h2;simp only [Xm,V9,or_false] at hA;rcases hA with rfl|rfl
     · clear join lift
       cases ih with
       |one h=>exact .one (.more h h4 h3)
       | @more u' v' z' h5 h6 h7=>
         rw [show (u'++(v'++z'))++(v++z)=u'++(v'++(z'++(v++z))) by simp only [Xw]];exact .more h5 h6 (.more h7 h4 h3)
     · exact .more ih h4 (.one h3)
theorem ZCQ:LpG (fun w=>w=[]) (fun w=>w=[])=fun w=>w=[]:=funext fun w=>propext ⟨fun h=>by
 induction h with
 |one h=>exact h
 |more _ h2 h3 ih=>rw [ih,h2,h3];rfl,fun h=> .one h⟩
theorem Zux (p:Nd×Nd):Zah (ZsL p)=LpG (Zah p.1) (Zah p.2):=by
 unfold ZsL
 split
 · rename_i h;rw [Ze6 rfl,Ze6 h.1,Ze6 h.2,ZCQ]
 · rw [ZfM];rfl
theorem Zxu {f s:Nd} (hf:NF f) (hs:NF s):Zah (ZB5 [f,s])=LpG (Zah f) (Zah s):=by
 rw [ZB5,Zux]
 unfold Zes
 split
 · rename_i h6;obtain ⟨a,b,hl,_,_⟩:=hf.n.lp h6;have hb:NF b:=hf.p b (by rw [hl];simp);rw [hl];dsimp only;rw [Zga (.inr (.inl rfl)) ByteArray.empty (fun x hx=>by simp only [Xm,V9,or_false] at hx;rcases hx with rfl|rfl<;>assumption) (by simp),ZiO f,h6,hl];exact ZDV.symm
 · rfl
theorem Zuy:∀t:Nd,okT t=true→Zah (ZaK t)=Zah t:=Nd.ind fun o a l ih hok=>by
 obtain ⟨hr,hp⟩:=Zbt.1 hok
 simp only [Nd.l] at hp
 have hmap:(l.map ZaK).map Zah=l.map Zah:=by
  rw [XN];exact VO fun x hx=>ih x hx (hp x hx)
 have hnf:∀x∈l.map ZaK,NF x:=fun x hx=>by
  obtain ⟨y,hy,rfl⟩:=Xo.1 hx;exact Zuv y (hp y hy)
 rw [ZaK,ZfM,ZfL,←hmap]
 unfold ZsM
 rcases ZcA hr with h|h|h|h|h|h<;>simp only [Nd.op] at h<;>subst h
 · rw [if_pos (.inl rfl),ZfM];rfl
 · rw [if_pos (.inr rfl),ZfM];rfl
 · rw [if_neg (by decide),if_neg (by decide)];exact Zga (.inl rfl) a hnf (fun h=>by have:l=[]:=VP.1 h;subst this;simp [rightT,Nd.op,Nd.l] at hr)
 · rw [if_neg (by decide),if_neg (by decide)];exact Zga (.inr (.inl rfl)) a hnf (fun h=>by have:l=[]:=VP.1 h;subst this;simp [rightT,Nd.op,Nd.l] at hr)
 · rw [if_neg (by decide),if_neg (by decide)];exact Zga (.inr (.inr rfl)) a hnf (fun h=>by have:l=[]:=VP.1 h;subst this;simp [rightT,Nd.op,Nd.l] at hr)
 · rw [if_neg (by decide),if_pos rfl];have hlen:l.length=2:=by
    unfold rightT at hr;simp [Nd.op,Nd.l] at hr;exact of_decide_eq_true hr.1
   match l,hlen with
   |[f,s],_=>exact Zxu (hnf _ (by simp)) (hnf _ (by simp))
inductive StG (A:Lg):Lg
 |nil:StG A []
 |cons {u v:List ByteArray} (h1:A u) (h2:StG A v):StG A (u++v)
theorem Zxv {A:Lg} {u v:List ByteArray} (h:StG A u) (h2:A v):StG A (u++v):=by
 induction h with
 |nil=>have:=StG.cons h2 (StG.nil (A:=A));rw [XA] at this;exact this
 |cons h1 _ ih=>rw [Xw];exact .cons h1 ih
theorem ZAI (A B:Lg):LpG A B=fun w=>∃u v,w=u++v∧A u∧StG (Zj4 [B,A]) v:=by
 have h2:∀{x y:List ByteArray},B x→A y→Zj4 [B,A] (x++y):=fun {x y} hx hy=>⟨x,y,rfl,hx,y,[],(XA y).symm,hy,rfl⟩
 refine funext fun w=>propext ⟨fun h=>?_,fun ⟨u,v,e,hu,hv⟩=>?_⟩
 · induction h with
   | @one w h=>exact ⟨w,[],(XA w).symm,h, .nil⟩
   | more _ hb ha ih=>
     obtain ⟨u,v,rfl,h3,h4⟩:=ih;exact ⟨u,_,Xw ..,h3,Zxv h4 (h2 hb ha)⟩
 · subst e;have key:∀v,StG (Zj4 [B,A]) v→∀u,LpG A B u→LpG A B (u++v):=fun v hv=>by
    induction hv with
    |nil=>intro u h;rw [XA];exact h
    | cons h1 _ ih=>
      intro u h;obtain ⟨x,y,rfl,hx,y2,z,rfl,hy,hz⟩:=h1
      cases hz;rw [XA,←Xw];exact ih _ (.more h hx hy)
   exact key v hv u (.one hu)
def Zhz (m:Nat) (k:Int):Aut:=⟨2,m,[0],[1],[⟨0,1,k⟩]⟩
def Zuz (m:Nat):Aut:=⟨1,m,[0],[0],[]⟩
def okO (x:Except Int Aut):Option Aut:=match x with
 | .ok a=>some a
 | .error _=>none
def Zll (a b:Aut):Except Int Aut:=match ZtP b a with
 | .error e=> .error e
 | .ok x=>match Zhy x with
   | .error e=> .error e
   | .ok s=>ZtP a s
def ZjA (o:Int) (a b:Aut):Except Int Aut:=if o=3 then ZtP a b else if o=4 then ZiD a b else if o=6 then Zll a b else Zoy a b
def Zfw (o:Int) (r p:Option Aut):Option Aut:=match r,p with
 |some a,some b=>okO (ZjA o a b)
 |_,_=>none
def foldX (o:Int):List (Option Aut)→Option Aut
 |[]=>none
 |x::l=>l.foldl (Zfw o) x
mutual
def bldT (acts:List ByteArray):Nd→Option Aut
 | .mk o a l=>if o=1 then okO (Zjp (Zhz acts.length (idx (fun x=>ZdY x a) acts))) else if o=2 then okO (Zjp (Zuz acts.length)) else foldX o (ZDw acts l)
def ZDw (acts:List ByteArray):List Nd→List (Option Aut)
 |[]=>[]
 |x::l=>bldT acts x::ZDw acts l
end
theorem ZuA (acts:List ByteArray) (l:List Nd):ZDw acts l=l.map (bldT acts):=by
 induction l with
 |nil=>rfl
 |cons x l ih=>rw [ZDw,ih];rfl
theorem Zzi (acts:List ByteArray) (o:Int) (a:ByteArray) (l:List Nd) (h1:o≠1) (h2:o≠2):bldT acts (.mk o a l)=foldX o (l.map (bldT acts)):=by rw [bldT,if_neg h1,if_neg h2,ZuA]
theorem ZoF (o:Int) (r:Option Aut):Zfw o r none=none:=by cases r<;>rfl
def MinO (m:Nat) (x:Except Int Aut):Prop:=x= .error 13∨∃C,x= .ok C∧IsMin C∧C.syms=m
theorem MinO.lim {m:Nat} {x:Except Int Aut} (h:MinO m x):x=Go.Proofs.YtgfabnhpllkebaaGreatDoor.lim (okO x):=by
 rcases h with rfl|⟨C,rfl,_⟩<;>rfl
theorem MinO.ok {m:Nat} {x:Except Int Aut} (h:MinO m x) {C:Aut} (hc:okO x=some C):x= .ok C∧IsMin C∧C.syms=m:=by
 rcases h with rfl|⟨D,rfl,h1,h2⟩
 · cases hc
 · cases hc;exact ⟨rfl,h1,h2⟩
theorem Zj7 {a:Aut} {e:Int} (h:Zhw a= .error e):e=13:=by
 unfold Zhw at h
 cases ht:Zjo a with
 |none=>rw [ht] at h;cases h;rfl
 | some t=>
   rw [ht] at h
   cases hl:ZbJ t with
   |none=>simp only [hl,Go.Proofs.YtgfabnhpllkebaaGreatDoor.lim] at h;cases h;rfl
   |some A=>simp only [hl,Go.Proofs.YtgfabnhpllkebaaGreatDoor.lim] at h;cases h
theorem Zxw {a:Aut} {e:Int} (h:Zws a= .error e):e=13:=by
 unfold Zws at h
 split at h
 · cases h;rfl
 · exact Zj7 h
theorem Zgb {X:Aut} (hp:PreA X) {m:Nat} (hs:X.syms=m):MinO m (Zfu X):=by
 cases h:Zfu X with
 |error e=>exact .inl (by rw [Zxw h])
 |ok C=>obtain ⟨h1,h2,_⟩:=ZdI hp h;exact .inr ⟨C,rfl,h1,by rw [h2,hs]⟩
theorem Ze7 {a:Aut} (h:Zas a=true) {m:Nat} (hs:a.syms=m):MinO m (Zjp a):=by
 cases h1:Zjp a with
 | error e=>
   unfold Zjp at h1;rw [if_pos h] at h1;exact .inl (by rw [Zj7 h1])
 |ok C=>obtain ⟨h3,h2,_⟩:=ZiB h1;exact .inr ⟨C,rfl,h3,by rw [h2,hs]⟩
variable {m:Nat} {a b:Aut}
theorem ZgQ (ha:IsMin a) (hb:IsMin b) (hsa:a.syms=m) (hsb:b.syms=m):ZgG a b=0:=ZAw ha.valid hb.valid (by rw [hsa,hsb])
theorem Ze8 (ha:IsMin a) (hb:IsMin b) (hsa:a.syms=m) (hsb:b.syms=m):MinO m (ZtP a b):=by
 unfold ZtP
 rw [if_neg (fun h=>h (ZgQ ha hb hsa hsb))]
 exact Zgb (Zk4 (ZbW ha.valid) (ZbW hb.valid) (by rw [hsa,hsb])) hsa
theorem ZrY (ha:IsMin a) (hb:IsMin b) (hsa:a.syms=m) (hsb:b.syms=m):MinO m (ZiD a b):=by
 unfold ZiD
 rw [if_neg (fun h=>h (ZgQ ha hb hsa hsb))]
 exact Zgb (ZiC (ZbW ha.valid) (ZbW hb.valid) (by rw [hsa,hsb])) hsa
theorem ZuB (ha:IsMin a) (hb:IsMin b) (hsa:a.syms=m) (hsb:b.syms=m):MinO m (Zoy a b):=by
 unfold Zoy
 rw [if_neg (fun h=>h (ZgQ ha hb hsa hsb))]
 split
 · exact .inl rfl
 · exact Zgb (Zle (ZbW ha.valid) (ZbW hb.valid) (by rw [hsa,hsb])) hsa
theorem ZiQ (ha:IsMin a) (hsa:a.syms=m):MinO m (Zhy a):=by
 unfold Zhy
 rw [if_pos ha.valid]
 exact Zgb (Zk1 (ZbW ha.valid)) hsa
theorem ZuC (ha:IsMin a) (hb:IsMin b) (hsa:a.syms=m) (hsb:b.syms=m):MinO m (Zll a b):=by
 unfold Zll
 rcases Ze8 hb ha hsb hsa with h|⟨C,h,hC,hs⟩
 · rw [h];exact .inl rfl
 · rw [h];dsimp only;rcases ZiQ hC hs with h2|⟨D,h2,hD,hs2⟩
   · rw [h2];exact .inl rfl
   · rw [h2];exact Ze8 ha hD hsa hs2
theorem ZiR (o:Int) (ha:IsMin a) (hb:IsMin b) (hsa:a.syms=m) (hsb:b.syms=m):MinO m (ZjA o a b):=by
 unfold ZjA
 split
 · exact Ze8 ha hb hsa hsb
 split
 · exact ZrY ha hb hsa hsb
 split
 · exact ZuC ha hb hsa hsb
 · exact ZuB ha hb hsa hsb
theorem Zlm {k:Int} (hm:m≤40) (hk:0≤k∧k<m):Zas (Zhz m k)=true:=by
 unfold Zas Zhz ZkS Ztp
 simp [Zbz]
 omega
theorem ZqE (hm:m≤40):Zas (Zuz m)=true:=by
 unfold Zas Zuz ZkS
 simp [Zbz]
 omega
def BldOk (m:Nat) (r:Option Aut):Prop:=∀A,r=some A→IsMin A∧A.syms=m
theorem BldOk.of {x:Except Int Aut} (h:MinO m x):BldOk m (okO x):=fun A hA=>(h.ok hA).2
theorem ZuD (o:Int) {r p:Option Aut} (hr:BldOk m r) (hp:BldOk m p):BldOk m (Zfw o r p):=by
 match r,p with
 | some a,some b=>
   obtain ⟨ha,hsa⟩:=hr a rfl;obtain ⟨hb,hsb⟩:=hp b rfl;exact BldOk.of (ZiR o ha hb hsa hsb)
 |none,_=>exact fun A hA=>by cases hA
 |some _,none=>exact fun A hA=>by cases hA
theorem Zm5 (o:Int):∀{l:List (Option Aut)} {r:Option Aut},BldOk m r→(∀x∈l,BldOk m x)→BldOk m (l.foldl (Zfw o) r)
 |[],_,h,_=>h
 | x::l,r,h,h2=>by
   rw [VK];exact Zm5 o (ZuD o h (h2 x (Xk ..))) fun y hy=>h2 y (Xj _ hy)
theorem Zxx (o:Int) {l:List (Option Aut)} (h:∀x∈l,BldOk m x):BldOk m (foldX o l):=by
 cases l with
 |nil=>exact fun A hA=>by cases hA
 |cons x l=>exact Zm5 o (h x (Xk ..)) fun y hy=>h y (Xj _ hy)
def Zdk (acts:List ByteArray) (a:ByteArray):Int:=idx (fun x=>ZdY x a) acts
theorem Zj8 {a b:ByteArray}:ZdY a b=true↔a=b:=Zcv
theorem ZhV {acts:List ByteArray} {a:ByteArray} (h:a∈acts):∃i:Nat,Zdk acts a=i∧acts[i]? =some a∧∀j y,j<i→acts[j]? =some y→y≠a:=by
 unfold Zdk
 obtain ⟨k,hk⟩:=Vc h
 have key:∀n:Nat,(∃i:Nat,i≤n∧acts[i]? =some a)→∃i:Nat,acts[i]? =some a∧∀(j:Nat) (y:ByteArray),j<i→acts[j]? =some y→y≠a:=by
  intro n;induction n with
  |zero=>rintro ⟨i,hi,h⟩;exact ⟨i,h,fun j y hj=>by omega⟩
  | succ n ih=>
    rintro ⟨i,hi,h⟩;by_cases h2:∃i:Nat,i≤n∧acts[i]? =some a
    · exact ih h2
    · exact ⟨i,h,fun j y hj hy e=>h2 ⟨j,by omega,by rw [hy,e]⟩⟩
 obtain ⟨i,hi,hb⟩:=key k ⟨k,Xb _,hk⟩
 refine ⟨i,ZkD (fun j y hj hy=>?_) hi (Zj8.2 rfl),hi,hb⟩
 cases hs:ZdY y a
 · rfl
 · exact absurd (Zj8.1 hs) (hb j y hj hy)
theorem ZCR {acts:List ByteArray} (hm:acts.length≤40):∀t:Nd,(∀s∈Zdj t,s∈acts)→BldOk acts.length (bldT acts t):=Nd.ind fun o a l ih ha=>by
 rw [bldT]
 split
 · rename_i h1;obtain ⟨i,h2,h3,_⟩:=ZhV (ha a (by rw [Zdj,if_pos h1];exact Xk ..));have hi:=(XF.1 h3).1;refine BldOk.of (Ze7 (Zlm hm ?_) rfl);unfold Zdk at h2;rw [h2];omega
 split
 · exact BldOk.of (Ze7 (ZqE hm) rfl)
 · rename_i h1 h2;rw [ZuA];refine Zxx o fun r hr=>?_;obtain ⟨x,hx,rfl⟩:=Xo.1 hr;refine ih x hx fun s hs=>ha s ?_;rw [Zdj,if_neg h1];exact Zbk.2 ⟨x,hx,hs⟩
def nmW (acts:List ByteArray) (w:List Nat):List ByteArray:=w.map fun i=>(acts[i]?).getD ByteArray.empty
def Zjq (acts:List ByteArray) (A:Aut) (P:Lg):Prop:=∀w:List Nat,Zdv acts.length w→(Zoo A (wI w)=true↔P (nmW acts w))
def opB (o:Int) (P Q:Lg):Lg:=if o=3 then fun w=>∃u v,w=u++v∧P u∧Q v else if o=4 then fun w=>P w∨Q w else if o=6 then LpG P Q else fun w=>∃u v,Shf u v w∧P u∧Q v
theorem Zln {w:List Nat} {u v:List Int}:wI w=u++v↔∃w1 w2,w=w1++w2∧u=wI w1∧v=wI w2:=by
 unfold wI
 rw [List.map_eq_append_iff]
 exact ⟨fun ⟨a,b,h1,h2,h3⟩=>⟨a,b,h1,h2.symm,h3.symm⟩,fun ⟨a,b,h1,h2,h3⟩=>⟨a,b,h1,h2.symm,h3.symm⟩⟩
theorem Zlo {acts:List ByteArray} {w:List Nat} {u v:List ByteArray}:nmW acts w=u++v↔∃w1 w2,w=w1++w2∧u=nmW acts w1∧v=nmW acts w2:=by
 unfold nmW
 rw [List.map_eq_append_iff]
 exact ⟨fun ⟨a,b,h1,h2,h3⟩=>⟨a,b,h1,h2.symm,h3.symm⟩,fun ⟨a,b,h1,h2,h3⟩=>⟨a,b,h1,h2.symm,h3.symm⟩⟩
theorem ZhW {m:Nat} {u v:List Nat}:Zdv m (u++v)↔Zdv m u∧Zdv m v:=⟨fun h=>⟨fun c hc=>h c (X5 _ hc),fun c hc=>h c (X6 _ hc)⟩,fun h c hc=>(Xp.1 hc).elim (h.1 c) (h.2 c)⟩
theorem ZoG {m:Nat} {w:List Nat} (_:Zdv m w):∀c∈wI w,0≤c:=fun c hc=>by
 unfold wI at hc
 obtain ⟨x,_,rfl⟩:=Xo.1 hc
 exact Int.natCast_nonneg x
variable {acts:List ByteArray} {a b C:Aut} {P Q:Lg}
theorem ZcM (ha:IsMin a) (hP:Zjq acts a P) {w:List Nat} (hw:Zdv acts.length w):Lng a (wI w)↔P (nmW acts w):=by
 rw [←Zk2 ha.aok (ZoG hw)];exact hP w hw
theorem ZoH (ha:IsMin a) (hb:IsMin b) (hsa:a.syms=acts.length) (hsb:b.syms=acts.length) (hP:Zjq acts a P) (hQ:Zjq acts b Q) (h:ZtP a b= .ok C):Zjq acts C (opB 3 P Q):=fun w hw=>by
 unfold ZtP at h
 rw [if_neg (fun h=>h (ZgQ ha hb hsa hsb))] at h
 have hva:=ZbW ha.valid
 have hvb:=ZbW hb.valid
 obtain ⟨_,_,h3⟩:=ZdI (Zk4 hva hvb (by rw [hsa,hsb])) h
 have e:(Zfv a b).syms.toNat=acts.length:=by show a.syms.toNat=_;rw [hsa];rfl
 rw [h3 w (by rw [e];exact hw),ZAv hva hvb]
 show _↔∃u v,nmW acts w=u++v∧P u∧Q v
 constructor
 · rintro ⟨u,v,e1,h1,h2⟩;obtain ⟨w1,w2,rfl,rfl,rfl⟩:=Zln.1 e1;obtain ⟨hw1,hw2⟩:=ZhW.1 hw;exact ⟨_,_,Zlo.2 ⟨w1,w2,rfl,rfl,rfl⟩,(ZcM ha hP hw1).1 h1,(ZcM hb hQ hw2).1 h2⟩
 · rintro ⟨u,v,e1,h1,h2⟩;obtain ⟨w1,w2,rfl,rfl,rfl⟩:=Zlo.1 e1;obtain ⟨hw1,hw2⟩:=ZhW.1 hw;exact ⟨_,_,Zln.2 ⟨w1,w2,rfl,rfl,rfl⟩,(ZcM ha hP hw1).2 h1,(ZcM hb hQ hw2).2 h2⟩
theorem ZuE (ha:IsMin a) (hb:IsMin b) (hsa:a.syms=acts.length) (hsb:b.syms=acts.length) (hP:Zjq acts a P) (hQ:Zjq acts b Q) (h:ZiD a b= .ok C):Zjq acts C (opB 4 P Q):=fun w hw=>by
 unfold ZiD at h
 rw [if_neg (fun h=>h (ZgQ ha hb hsa hsb))] at h
 have hva:=ZbW ha.valid
 have hvb:=ZbW hb.valid
 obtain ⟨_,_,h3⟩:=ZdI (ZiC hva hvb (by rw [hsa,hsb])) h
 have e:(ZdJ a b).syms.toNat=acts.length:=by show a.syms.toNat=_;rw [hsa];rfl
 rw [h3 w (by rw [e];exact hw),Zuh hva hvb,ZcM ha hP hw,ZcM hb hQ hw]
 rfl
theorem ZiS:∀{w:List Nat} {u v:List Int},Mix (wI w) u v→∃w1 w2,u=wI w1∧v=wI w2∧(∀c∈w1,c∈w)∧(∀c∈w2,c∈w)∧Shf (nmW acts w1) (nmW acts w2) (nmW acts w)
 | [],_,_,h=>by
   cases h;exact ⟨[],[],rfl,rfl,fun _ h=>h,fun _ h=>h, .nil⟩
 | c ::w,_,_,h=>by
   cases h with
   | one _ h=>
     obtain ⟨w1,w2,rfl,rfl,h1,h2,h3⟩:=ZiS h;exact ⟨c::w1,w2,rfl,rfl,fun x hx=>(Xm.1 hx).elim (fun e=>by rw [e];exact Xk ..) fun h=>Xj _ (h1 x h),fun x hx=>Xj _ (h2 x hx), .left h3⟩
   | two _ h=>
     obtain ⟨w1,w2,rfl,rfl,h1,h2,h3⟩:=ZiS h;exact ⟨w1,c::w2,rfl,rfl,fun x hx=>Xj _ (h1 x hx),fun x hx=>(Xm.1 hx).elim (fun e=>by rw [e];exact Xk ..) fun h=>Xj _ (h2 x h), .right h3⟩
theorem ZiT:∀{w:List Nat} {u v:List ByteArray},Shf u v (nmW acts w)→∃w1 w2,u=nmW acts w1∧v=nmW acts w2∧(∀c∈w1,c∈w)∧(∀c∈w2,c∈w)∧Mix (wI w) (wI w1) (wI w2)
 | [],_,_,h=>by
   cases h;exact ⟨[],[],rfl,rfl,fun _ h=>h,fun _ h=>h, .nil⟩
 | c ::w,_,_,h=>by
   cases h with
   | left h=>
     obtain ⟨w1,w2,rfl,rfl,h1,h2,h3⟩:=ZiT h;exact ⟨c::w1,w2,rfl,rfl,fun x hx=>(Xm.1 hx).elim (fun e=>by rw [e];exact Xk ..) fun h=>Xj _ (h1 x h),fun x hx=>Xj _ (h2 x hx), .one _ h3⟩
   | right h=>
     obtain ⟨w1,w2,rfl,rfl,h1,h2,h3⟩:=ZiT h;exact ⟨w1,c::w2,rfl,rfl,fun x hx=>Xj _ (h1 x hx),fun x hx=>(Xm.1 hx).elim (fun e=>by rw [e];exact Xk ..) fun h=>Xj _ (h2 x h), .two _ h3⟩
theorem Zxy (ha:IsMin a) (hb:IsMin b) (hsa:a.syms=acts.length) (hsb:b.syms=acts.length) (hP:Zjq acts a P) (hQ:Zjq acts b Q) (h:Zoy a b= .ok C):Zjq acts C (opB 5 P Q):=fun w hw=>by
 unfold Zoy at h
 rw [if_neg (fun h=>h (ZgQ ha hb hsa hsb))] at h
 split at h
 · cases h
 have hva:=ZbW ha.valid
 have hvb:=ZbW hb.valid
 obtain ⟨_,_,h3⟩:=ZdI (Zle hva hvb (by rw [hsa,hsb])) h
 have e:(Zc8 a b).syms.toNat=acts.length:=by show a.syms.toNat=_;rw [hsa];rfl
 rw [h3 w (by rw [e];exact hw),Zxk hva hvb]
 show _↔∃u v,Shf u v (nmW acts w)∧P u∧Q v
 constructor
 · rintro ⟨u,v,e1,h1,h2⟩;obtain ⟨w1,w2,rfl,rfl,k1,k2,k3⟩:=ZiS (acts:=acts) e1;exact ⟨_,_,k3,(ZcM ha hP fun c hc=>hw c (k1 c hc)).1 h1,(ZcM hb hQ fun c hc=>hw c (k2 c hc)).1 h2⟩
 · rintro ⟨u,v,e1,h1,h2⟩;obtain ⟨w1,w2,rfl,rfl,k1,k2,k3⟩:=ZiT e1;exact ⟨_,_,k3,(ZcM ha hP fun c hc=>hw c (k1 c hc)).2 h1,(ZcM hb hQ fun c hc=>hw c (k2 c hc)).2 h2⟩
theorem Zxz (ha:IsMin a) (hsa:a.syms=acts.length) (hP:Zjq acts a P) (h:Zhy a= .ok C):Zjq acts C (StG P):=fun w hw=>by
 unfold Zhy at h
 rw [if_pos ha.valid] at h
 have hva:=ZbW ha.valid
 obtain ⟨_,_,h3⟩:=ZdI (Zk1 hva) h
 have e:(ZeC a).syms.toNat=acts.length:=by show a.syms.toNat=_;rw [hsa];rfl
 rw [h3 w (by rw [e];exact hw),Zxh hva]
 constructor
 · intro h;generalize hx:wI w=x at h;induction h generalizing w with
   | nil=>
     have:w=[]:=VP.1 hx;rw [this];exact .nil
   | app h1 _ ih=>
     obtain ⟨w1,w2,rfl,rfl,rfl⟩:=Zln.1 hx;obtain ⟨hw1,hw2⟩:=ZhW.1 hw;rw [show nmW acts (w1++w2)=nmW acts w1++nmW acts w2 from XC];exact .cons ((ZcM ha hP hw1).1 h1) (ih w2 hw2 rfl)
 · intro h;generalize hx:nmW acts w=x at h;induction h generalizing w with
   | nil=>
     have:w=[]:=VP.1 hx;rw [this];exact .nil
   | cons h1 _ ih=>
     obtain ⟨w1,w2,rfl,rfl,rfl⟩:=Zlo.1 hx;obtain ⟨hw1,hw2⟩:=ZhW.1 hw;rw [show wI (w1++w2)=wI w1++wI w2 from XC];exact .app ((ZcM ha hP hw1).2 h1) (ih w2 hw2 rfl)
theorem ZxA (ha:IsMin a) (hb:IsMin b) (hsa:a.syms=acts.length) (hsb:b.syms=acts.length) (hP:Zjq acts a P) (hQ:Zjq acts b Q) (h:Zll a b= .ok C):Zjq acts C (opB 6 P Q):=by
 unfold Zll at h
 rcases Ze8 hb ha hsb hsa with h1|⟨X,h1,hX,hs1⟩
 · rw [h1] at h;cases h
 rw [h1] at h
 dsimp only at h
 rcases ZiQ hX hs1 with h2|⟨Y,h2,hY,hs2⟩
 · rw [h2] at h;cases h
 rw [h2] at h
 dsimp only at h
 have:=ZoH ha hY hsa hs2 hP (Zxz hX hs1 (ZoH hb ha hsb hsa hQ hP h1) h2) h
 have e:opB 6 P Q=opB 3 P (StG (opB 3 Q P)):=by
  have e2:opB 3 Q P=Zj4 [Q,P]:=funext fun w=>propext ⟨fun ⟨u,v,h1,h2,h3⟩=>⟨u,v,h1,h2,v,[],(XA v).symm,h3,rfl⟩,fun ⟨u,v,h1,h2,v2,z,h3,h4,h5⟩=>⟨u,v,h1,h2,by cases h5;rw [h3,XA];exact h4⟩⟩;rw [e2];exact ZAI P Q
 rw [e];exact this
theorem ZxB {o:Int} (ho:o=3∨o=4∨o=5∨o=6) (ha:IsMin a) (hb:IsMin b) (hsa:a.syms=acts.length) (hsb:b.syms=acts.length) (hP:Zjq acts a P) (hQ:Zjq acts b Q) (h:ZjA o a b= .ok C):Zjq acts C (opB o P Q):=by
 rcases ho with rfl|rfl|rfl|rfl
 · exact ZoH ha hb hsa hsb hP hQ h
 · exact ZuE ha hb hsa hsb hP hQ h
 · exact Zxy ha hb hsa hsb hP hQ h
 · exact ZxA ha hb hsa hsb hP hQ h
end Go.Proofs.YtgfabnhpllkebaaGreatDoor
