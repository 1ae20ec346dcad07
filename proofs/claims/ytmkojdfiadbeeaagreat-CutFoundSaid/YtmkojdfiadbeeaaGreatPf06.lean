/-
  Walks of functions and plain laws of the chapter, as the claim needs them.
-/
import Derived.WalkKit
import Derived.ProofKit
import Derived.OpenShut
import Derived.ShutString
import Derived.ChangeOld
import Derived.Below
import Derived.Carry
import Derived.Deep.Slices
import Derived.Maps.RangeRun
import Derived.DeepKeys3
import Derived.Lib.SliceRun
import Derived.Test.YtmkojdfiadbeeaaGreatPf05
import Derived.Test.YtmkojdfiadbeeaaGreatPf02
import Derived.Test.YtmkojdfiadbeeaaGreatPf04
import Derived.Test.YtmkojdfiadbeeaaGreatPf03
import Derived.Test.YtmkojdfiadbeeaaGreatMShelfC
import Derived.Test.YtmkojdfiadbeeaaGreatMShelfD
import Derived.Test.YtmkojdfiadbeeaaGreatPf01
namespace Go.Proofs.YtmkojdfiadbeeaaGreat
open Go.RowKit Go.Cb Go.En Tryz
set_option linter.all false
set_option maxRecDepth 100000
theorem Ra:AggT prog 114 2=true:=by kernel_rfl
theorem G2:AggT prog 28 2=true:=by kernel_rfl
theorem PN:AggT prog 42 2=true:=by kernel_rfl
theorem CE:ElT prog 109 78 1 8 (.map none):=⟨underlying109,by kernel_rfl,rfl,dC⟩
theorem O3:ElT prog 22 28 2 32 (.agg #[(.slice none 0 0),(.int .i64 0)]):=⟨underlying22,by kernel_rfl,rfl,dC⟩
theorem Za9:ElT prog 45 22 1 24 (.slice none 0 0):=⟨underlying45,by kernel_rfl,rfl,dC⟩
theorem Kh:FldT prog 114 0 0=true:=by kernel_rfl
theorem T4:FldT prog 114 1 1=true:=by kernel_rfl
theorem Lz:FldT prog 28 0 0=true:=by kernel_rfl
theorem LA:FldT prog 28 1 1=true:=by kernel_rfl
theorem Rb:FldT prog 42 0 0=true:=by kernel_rfl
theorem Gb:FldT prog 42 1 1=true:=by kernel_rfl
theorem SA:MpT prog 78 9 3 .string (.int .i64 0):=⟨underlying78,underlying9, .inl rfl,by show ZeroT _ _ _;unfold ZeroT;kernel_rfl⟩
theorem JE:NoAgg prog 22=true:=by kernel_rfl
theorem Gw:NoAgg prog 26=true:=by kernel_rfl
theorem W9:NoAgg prog 3=true:=by kernel_rfl
theorem L6:NoAgg prog 40=true:=by kernel_rfl
theorem SB:NoAgg prog 78=true:=by kernel_rfl
theorem ZcO:NoAgg prog 9=true:=by kernel_rfl
theorem G3:SlT prog 109 78 1=true:=by kernel_rfl
theorem PO:SlT prog 110 114 2=true:=by kernel_rfl
theorem KI:SlT prog 22 28 2=true:=by kernel_rfl
theorem O4:SlT prog 26 9 1=true:=by kernel_rfl
theorem L8:SlT prog 40 26 1=true:=by kernel_rfl
theorem KJ:SlT prog 45 22 1=true:=by kernel_rfl
theorem Zba:KY prog 28=some ((.agg #[(.slice none 0 0),(.int .i64 0)]),([0,1]:List Nat).map fun o=>(o,1)):=by kernel_rfl
theorem Zbb:(prog.info? 22).map (·.size)=some 1:=by kernel_rfl
theorem ZcP:(prog.info? 3).map (·.size)=some 1:=by kernel_rfl
theorem Zbc:(prog.info? 78).map (·.size)=some 1:=by kernel_rfl
theorem CF:ZeroT prog 114 (.agg #[(.int .i64 0),(.slice none 0 0)]):=by unfold ZeroT;kernel_rfl
theorem O5:ZeroT prog 28 (.agg #[(.slice none 0 0),(.int .i64 0)]):=by unfold ZeroT;kernel_rfl
theorem O6 {sL hP:List (Nat×Ent)} {t:Nat} {q:PV} (ht:lk sL t=some (.slice none 0 0,q)):Ge (⟨sL,hP⟩:St) (fun _:Unit=>⟨put t (.slice none 0 0, .sl 0 []) sL,hP⟩):=fun c a w ⟨F,H⟩=>by
 refine ⟨(),F,H.toHeapF,fun s u r hs=>?_,H.size,H.df⟩
 rcases Z0 hs with ⟨rfl,e1⟩|⟨_,hs'⟩
 · cases e1;exact ⟨(H.sl t _ _ ht).1, .emp none 0 (by unfold maxLen;omega) (fun _=>rfl)⟩
 · exact H.sl s u r hs'
theorem Zbd (parts:List (List ByteArray)) (s:ByteArray):(YP (skv (ZP 0 parts)) (.string s)).isSome=decide (0≤partOf parts s):=by
 rw [W4,JS,Uh,Kt]
theorem CG {parts:List (List ByteArray)} {l:List Var} {x:Var} {s:ByteArray} (hx:x∈l) (hs:s∈x.acts) (h:¬0≤partOf parts s):WZ parts l=false:=by
 cases hI:WZ parts l with
 |false=>rfl
 | true=>
   unfold WZ at hI;rw [Xf] at hI;have:=hI x hx;rw [Xf] at this;exact UB (UC (this s hs)) h
def RSp (x:List (List Var)×Int) (p:PV):Prop:=p= .tup [E5 x.1,Zg x.2]
theorem L9 {l:List Var} {c:Cut} {n:Int} (h:Wz l c=([],n)):RSp (Wz l c) (.tup [.sl 0 [],Zg n]):=by rw [h];rfl
theorem Es {l:List Var} {c:Cut} (h:(validVars l&&Z8 c)=false):Wz l c=([],1):=by unfold Wz;rw [UA h]
theorem ZcQ {l:List Var} {c:Cut} (h1:validVars l=true) (h2:Z8 c=true) (h:WZ c.parts l=false):Wz l c=([],8):=by unfold Wz;rw [h1,h2];simp [h]
def KA (e:Nat) (r:List Var):PV:= .own e 2 r.length (r.flatMap Wd)
def oAt (r:List Var):PV:= .omap (skv (Le Jn 0 r))
theorem CH (n e:Nat):∀(i:Nat) (p p':PV),(List.replicate n (PV.val (.slice none 0 0)))[i]? =some p→((List.replicate n ([]:List Var)).map (KA e))[i]? =some p'→ζc p p':=fun i p p' h1 h2=>by
 rw [List.map_replicate] at h2
 have e1:=Vl (Xb h1)
 have e2:=Vl (Xb h2)
 exact .inr ⟨e1,_,_,e2⟩
theorem Zbe {n k:Nat} {v:PV} (hk:k<n):(((List.replicate k (PV.omap [])++List.replicate (n-k) (PV.val (.map none))).set k v).set k (.omap []))=List.replicate (k+1) (PV.omap [])++List.replicate (n-(k+1)) (PV.val (.map none)):=by
 rw [XK,Vh _ _ sM,Xw,Vc,show n-k=(n-(k+1))+1 by omega,List.replicate_succ,List.set_cons_zero,List.replicate_succ',XM]
 rfl
theorem ZcR (n:Nat):List.replicate n (PV.omap [])++List.replicate (n-n) (PV.val (.map none))=(List.replicate n ([]:List Var)).map oAt:=by
 rw [Vc,List.map_replicate];simp;exact .inr rfl
theorem Zbf {parts:List (List ByteArray)} {s:ByteArray} (h:0≤partOf parts s):YT (ZP 0 parts) s=some (.int .i64 (partOf parts s)):=by
 have h1:=Kt parts s
 rw [Ux h] at h1
 obtain ⟨n,hn⟩:=Option.isSome_iff_exists.1 h1
 rw [JS,Tn,hn];rfl
theorem Et {c:Cut} (h:Z8 c=true):1≤c.kind∧c.kind≤4∧2≤c.parts.length:=by
 simp only [Z8,Xd,Uw] at h
 exact ⟨h.1.1.1,h.1.1.2,h.1.2⟩
theorem Zbg {l:List Var} {c:Cut} (h1:validVars l=true) (h2:Z8 c=true) (h3:WZ c.parts l=true) (h:Y6 c (List.replicate c.parts.length []) l=none):Wz l c=([],19):=by unfold Wz;rw [h1,h2,h3,h];simp
theorem Eu {c:Cut} {S:List (List Var)} {l:List Var} {k:Nat} {x:Var} (hx:l[k]? =some x):Y6 c S (l.drop k)=match Yq c x.acts with|none=>none|some ps=>Y6 c (ps.foldl (YR x.count) S) (l.drop (k+1)):=by
 rw [YZ hx,Y6]
 cases Yq c x.acts<;>rfl
def Zfd (l:List Var) (c:Cut) (x:Nat×List (List Var)):Prop:=x.1≤l.length∧x.2.length=c.parts.length∧WR x.2∧∃S,RelR x.2 S∧GL (x.1*1000300) S∧Y6 c (List.replicate c.parts.length []) l=Y6 c S (l.drop x.1)
theorem Zfe (l:List Var) (c:Cut):Zfd l c (0,List.replicate c.parts.length []):=⟨sM,sM,Zfc _,_,ZcM _,by rw [Vr];exact E3 _,rfl⟩
def Zbh (c:Cut) (S:List (List Var)) (ps:List Piece) (cnt:Int) (k:Nat) (y:Nat×List (List Var)):Prop:=y.1≤ps.length∧y.2.length=c.parts.length∧WR y.2∧∃S',RelR y.2 S'∧GL (k*1000300+y.1) S'∧ps.foldl (YR cnt) S=(ps.drop y.1).foldl (YR cnt) S'
theorem Zbi {c:Cut} {S R:List (List Var)} {ps:List Piece} {cnt:Int} {k i:Nat} {p:Piece} (h:Zbh c S ps cnt k (i,R)) (hp:ps[i]? =some p) (hw:WOk p.word) (h0:0≤cnt) (h1:cnt≤1048576):Zbh c S ps cnt k (i+1,PM cnt R p):=by
 obtain ⟨a1,a2,a3,S',a4,a5,a6⟩:=h
 have hlt:=Ze hp
 refine ⟨hlt,by show (PM cnt R p).length=_;rw [Eo];exact a2,a3.put hw,YR cnt S' p,a4.put,?_,?_⟩
 · have h9:=Hw (p:=p) h0 h1 a5;dsimp only at h9 ⊢;rw [Vt] at h9;exact h9
 rw [a6]
 show (ps.drop i).foldl _ _=_
 rw [YZ hp];rfl
theorem Zff {c:Cut} {S R:List (List Var)} {k:Nat} (ps:List Piece) (cnt:Int) (h1:R.length=c.parts.length) (h2:WR R) (h3:RelR R S) (h4:GL (k*1000300) S):Zbh c S ps cnt k (0,R):=by
 refine ⟨XA _,h1,h2,S,h3,?_,?_⟩
 · dsimp only;rw [VT];exact h4
 · dsimp only;rw [Va]
theorem ZcS {l:List Var} {c:Cut} {S R:List (List Var)} {ps:List Piece} {cnt:Int} {k i:Nat} (h:Zbh c S ps cnt k (i,R)) (hi:ps.length≤i) (hk:k<l.length) (hp:ps.length≤1000300) (hsp:Y6 c (List.replicate c.parts.length []) l=Y6 c (ps.foldl (YR cnt) S) (l.drop (k+1))):Zfd l c (k+1,R):=by
 obtain ⟨a1,a2,a3,S',a4,a5,a6⟩:=h
 refine ⟨hk,a2,a3,S',a4,fun r hr=>?_,?_⟩
 · have:=a5 r hr;have h2:k*1000300+i≤(k+1)*1000300:=by rw [Vf];change i≤ps.length at a1;omega
   exact ⟨XP this.1 h2,fun x hx=>⟨(this.2 x hx).1,Int.le_trans (this.2 x hx).2 (Int.mul_le_mul_of_nonneg_right (Int.ofNat_le.2 h2) dC)⟩⟩
 · rw [hsp,a6];show Y6 c ((ps.drop i).foldl _ _) _=_;rw [XI hi];rfl
theorem Zbj (a b:List ByteArray) (ha:WOk a) (hb:WOk b) (h:Jn a=Jn b):a=b:=by
 refine ZcJ ha hb ?_
 have:=congrArg (fun s:ByteArray=>s.data.toList) h
 simpa [Jn] using this
structure Met (r:List Var) (pw:List ByteArray) (cnt:Int) (hd:Value) (r':List Var) (ix:Nat) (z:Var):Prop where
 one:hd.oneCell'=true
 at_:r'[ix]? =some z
 acts:z.acts=pw
 set:r'.set ix ⟨pw,z.count+cnt⟩=bump r pw cnt
 lo:0≤z.count
 hi:z.count≤400000000000000
 len:r'.length≤400000000
theorem Rc (r:List Var):Yf (r.flatMap Wd)=r.flatMap Wd:=by
 induction r with
 |nil=>rfl
 |cons x r ih=>rw [Xq,Tg,ih];rfl
theorem CI (e n:Nat) (k:Nat) (T:List (List Var)) (h:n=T.length):share (.own e k n (T.map (KA 28)))=E5 T:=by
 subst h
 have:Yf (T.map (KA 28))=T.map Wi:=by
  rw [ZZ,Xs];refine List.map_congr_left fun r _=>?_;show share (.own _ 2 r.length (r.flatMap Wd))=_;simp only [share,Rc];rfl
 simp only [share,this];rfl
theorem Zbk {sL hP:List (Nat×Ent)} {e l:Nat} {h:Value} {r:List Var} (hl:lk hP l=some (h, .own e 2 r.length (r.flatMap Wd))):Td (⟨sL,hP⟩:St) h (Wi r):=by
 have:=OA (sL:=sL) hl
 simp only [share,Rc] at this
 exact this
theorem ζG {w:List ByteArray} (h:WOk w):DK w:=⟨by have:=h.1;omega,fun s hs=>by have:=(Tv (h.2 s hs)).2.2;omega⟩
theorem Zea (a:Var):¬cmpStrs a.acts a.acts<0:=fun h=>by have:=GY a.acts;unfold ltW at this;simp [h] at this
theorem Zfg (a b c:Var) (h1:cmpStrs a.acts b.acts<0) (h2:cmpStrs b.acts c.acts<0):cmpStrs a.acts c.acts<0:=UC (K1 (Ux h1) (Ux h2))
theorem Zfh (a b c:Var) (h1:¬cmpStrs a.acts b.acts<0) (h2:¬cmpStrs b.acts c.acts<0):¬cmpStrs a.acts c.acts<0:=fun h=>by
 by_cases h3:cmpStrs b.acts a.acts<0
 · exact h2 (UC (K1 (Ux h3) (Ux h)))
 · have:=JB (a:=a.acts) (b:=b.acts) (Uy h1) (Uy h3);rw [this] at h;exact h2 h
theorem Zfi {r r':List Var} (hn:Nodup r) (hp:r'.Perm r) (hs:∀(i j:Nat) (a b:Var),i<j→r'[i]? =some a→r'[j]? =some b→¬cmpStrs b.acts a.acts<0):Asc r':=by
 have hn':Nodup r':=hn.perm hp.symm
 refine XX.2 fun i j hi hj hij=>?_
 have h1:=hs i j _ _ hij (Xx hi) (Xx hj)
 have h2:=(XX.1 hn') i j hi hj hij
 cases h3:ltW r'[i].acts r'[j].acts with
 |true=>rfl
 |false=>exact UB (JB h3 (Uy h1)) h2
theorem ZcT {P:Program} {c:Ctx} {sL hP:List (Nat×Ent)} {ops:Array Oper} {Q:Exit→Act→World→Prop} {o:Oper} {rest:List Oper} {fs g k e d l:Nat} {cs:List PV} {h:Value} {q q':PV} {x y:Operand} {ats:Array TypeId} (hS:∀(p:Option Addr) (cap:Nat) (fv:Value) (w:World),Calls P fs #[.slice p 0 cap,fv] w fun e w'=>e= .returned (.tuple #[])∧w'=w)
 (hw:ZK ops sL o=some true) (hd:o.dst=some d) (hdn:d<c.nt) (ho:o.op= .call {callee:= .value (.func fs),args:= #[x,y],argTypes:=ats}) (hc:∀args w,(callFunc fs args).run P w= .ok (.enter fs args) w) (hx:ev sL x=some (h,q)) (hy:ev sL y=some (.func (.func g) #[] #[],q')) (hl:lk hP l=some (h, .own e k 0 cs))
 (kk:aL P c ops Q rest ⟨put d (.tuple #[], .val (.tuple #[])) sL,hP⟩):aL P c ops Q (o::rest) (⟨sL,hP⟩:St):=
 YH hw fun a w F H=>by
  have hxv:=(H.rd.ev hx).1;have hyv:=(H.rd.ev hy).1;obtain ⟨xs,Fs,hrow,_⟩:=(H.tr l _ _ hl).row;obtain ⟨p,cap,rfl⟩:∃p cap,h= .slice p 0 cap:=by
   rcases Y2 hrow with ⟨h1,_⟩|⟨g,cap,h1,_⟩
   · exact ⟨_,_,h1⟩
   · exact ⟨_,_,h1⟩
  unfold Oper.wp;have hrun:(execOp a.eval o).run P w= .ok (.enter fs #[.slice p 0 cap, .func (.func g) #[] #[]]) w:=by
   have hev:a.eval (.func fs)= .func (.func fs) #[] #[]:=rfl;simp [execOp,ho,resolve,Deferred.ofValue,hev,invoke,hxv,hyv,hc]
  rw [hrun,Oper.upon_enter];refine (hS p cap _ w).mono fun e' w' ⟨he',hw'⟩=>?_;subst he' hw';rw [hd];exact kk _ _ ⟨F,H.put hdn (.val _)⟩
theorem ZcU {l:List Var} {c:Cut} {S:List (List Var)} (h1:validVars l=true) (h2:Z8 c=true) (h3:WZ c.parts l=true) (h:Y6 c (List.replicate c.parts.length []) l=some S) (h4:S.any bigVars=true):Wz l c=([],6):=by unfold Wz;rw [h1,h2,h3,h];simp only [];simp [h4]
theorem ZcV {l:List Var} {c:Cut} {S:List (List Var)} (h1:validVars l=true) (h2:Z8 c=true) (h3:WZ c.parts l=true) (h:Y6 c (List.replicate c.parts.length []) l=some S) (h4:S.any bigVars=false) (h5:S.any Wh=true):Wz l c=([],5):=by unfold Wz;rw [h1,h2,h3,h];simp only [];rw [h4,h5];rfl
theorem ZcW {l:List Var} {c:Cut} {S:List (List Var)} (h1:validVars l=true) (h2:Z8 c=true) (h3:WZ c.parts l=true) (h:Y6 c (List.replicate c.parts.length []) l=some S) (h4:S.any bigVars=false) (h5:S.any Wh=false):Wz l c=(S,0):=by unfold Wz;rw [h1,h2,h3,h];simp only [];rw [h4,h5];rfl
theorem ZcX {f:List Var→Bool} {R:List (List Var)} (h:∀(i:Nat) (r:List Var),R[i]? =some r→f r=false):R.any f=false:=by
 rw [Ub]
 intro r hr
 obtain ⟨i,hi⟩:=XF hr
 rw [h i r hi];simp
theorem ζH {f:List Var→Bool} {R:List (List Var)} {i:Nat} {r:List Var} (hr:R[i]? =some r) (h:f r=true):R.any f=true:=XS.2 ⟨r,Xb hr,h⟩
set_option maxHeartbeats 1000000 in
theorem Ev (l : List Var) (c:Cut) (hl0:Ru l) (hs:∀p∈c.parts,∀s∈p,s.size≤140737488355328) (hn1:c.parts.length≤1000000):
 AF prog 20 [Wi l,RV c] (RSp (Wz l c)):=by
 refine AF.of_body 190 func20 rfl ntmps20 (Xa rfl) ?_
 intro w0 M0 vs hl hv
 obtain ⟨v0,v1,rfl⟩:=WT hl
 clear hl hv
 refine Zd ?_
 (refine Yr 3 2 fun h3=>?_<;>refine xL 4 Zb (xL 5 Zb ?_)<;>refine Zc ?_)
 refine (Bool.eq_false_or_eq_true (Z8 c)).elim (fun hF=>?_) (fun hF=>?_)
 · (refine Zk ?_ <;> (refine yL 31 (YG 3 PN) fun v31 h=>?_;cases h)<;>(refine TG (R:=(· = .tup [.omap (skv (ZP 0 c.parts)),Zo true])) 32 32 201 rfl rfl (Xa rfl) rfl rfl rfl (JJ rfl (call64) rfl ((Lu c hs).mono fun p ⟨q,e1,e2,_⟩=>by rw [e1,e2 hF,hF])) ?_;rintro p' rfl;refine ⟨_,_,rfl,rfl,rfl,?_⟩;intro h32 v201 _ hv201 ho32 _;cases hv201)<;>refine xL 30 Za (xL 33 Zl (xL 34 Zl (xL 6 Zb (xL 7 Zb ?_))))<;>refine Zc ?_)
   refine Zz (En.freeze (l:=32) (t:=6) rfl rfl) fun _=>?_;(refine Zk ?_<;>refine xL 35 Za (xL 36 Yj (xL 37 Za (xL 38 Za ?_)))<;>(refine TF 39 rfl rfl (Xa rfl) (JJ rfl (call9) rfl (Ks l hl0)) ?_;rintro p' rfl;refine ⟨rfl,?_⟩;intro v39 hv39;cases hv39)<;>refine xL 40 Yj (xL 41 Zv ?_)<;>refine Zc ?_)
   refine ZM rfl ?_ ?_
   · intro hb;refine Zd ?_;(refine xL 4 Zb (xL 5 Zb ?_)<;>refine Zc ?_)
     refine Y4 (O6 (t:=4) rfl) fun _=>?_;refine Wp (results20) rfl rfl (L9 (Es ?_))
     cases h:validVars l
     · rfl
     · rw [h] at hb;cases hb
   · intro hb;have hV:validVars l=true:=by
      cases h:validVars l
      · rw [h] at hb;cases hb
      · rfl
     refine Zd ?_;(refine xL 42 Za (xL 43 (ZF KI) (xL 44 Za ?_))<;>refine Zc ?_)
     refine Y0 42 rfl fun hlen=>?_;refine Zw (ι:={k:Nat//k≤l.length∧∀(j:Nat) (x:Var),j<k→l[j]? =some x→∀s∈x.acts,0≤partOf c.parts s}) (fun k=>⟨[(0,v0,Wi l),(3,ZH (Zs h3) 0, .val (ZH (Zs h3) 0)),(6,h32, .smap (skv (ZP 0 c.parts))),(42,v0,Wi l),(43, .int .i64 l.length,Zg l.length),(44, .int .i64 k.1,Zg k.1)],[(3,h3, .own 42 2 1 [Zg c.kind,Kx c.parts])]⟩) (fun k=>l.length-k.1) ⟨0,oM,fun j x hj=>oM⟩ (fun a w H=>H.weaken ⟨rfl,rfl,rfl,rfl,rfl,rfl,trivial⟩ ⟨rfl,trivial⟩) ?_;rintro ⟨k,hk,hpre⟩;dsimp only;refine Zd ?_;(refine xL 45 ZN ?_<;>refine Zc ?_)
     refine ZM rfl ?_ ?_
     · intro hb5;(have hlt:k<l.length:=by have:=UC hb5;omega);obtain ⟨x,hx⟩:=Zj hlt;have hD:=Yp Z1 l k x hx;have hfit:=YI Z1 hx;refine Zd ?_;(refine xL 46 (Zn KI) ?_<;>(refine yL 47 (Jm G2) fun v47 h=>?_;cases h)<;>refine ZV [(.slice none 0 0),(.int .i64 0)] 2 9 O5 fun h9=>?_<;>refine YN 9 G2 ?_<;>refine Zh ?_)
       (refine xL 48 (Zm 9 Lz) ?_<;>(refine yL 49 (Zp 9 Gw) fun v49 h=>?_;cases h)<;>refine xL 50 (ZF O4) (xL 51 Za ?_)<;>refine Zc ?_)
       refine Y0 49 rfl fun hlenx=>?_;refine Zw (ι:={j:Nat//j≤x.acts.length∧∀(m:Nat) (s:ByteArray),m<j→x.acts[m]? =some s→0≤partOf c.parts s}) (fun j=>⟨[(0,v0,Wi l),(3,ZH (Zs h3) 0, .val (ZH (Zs h3) 0)),(6,h32, .smap (skv (ZP 0 c.parts))),(42,v0,Wi l),(43, .int .i64 l.length,Zg l.length),(44, .int .i64 k,Zg k),(49,v49,ZQ x.acts),(50, .int .i64 x.acts.length,Zg x.acts.length),(51, .int .i64 j.1,Zg j.1)],[(3,h3, .own 42 2 1 [Zg c.kind,Kx c.parts])]⟩) (fun j=>x.acts.length-j.1) ⟨0,oM,fun m s hm=>oM⟩ (fun a w H=>H.weaken ⟨rfl,rfl,rfl,rfl,rfl,rfl,rfl,rfl,rfl,trivial⟩ ⟨rfl,trivial⟩) ?_;rintro ⟨j,hj,hprej⟩;dsimp only;refine Zd ?_;(refine xL 52 ZN ?_<;>refine Zc ?_)
       refine ZM rfl ?_ ?_
       · intro hb8;(have hltj:j<x.acts.length:=by have:=UC hb8;omega);obtain ⟨s,hsj⟩:=Zj hltj;have e2:=Yn (f:=ZS) hsj;have hlook:=Zbd c.parts s;refine Zd ?_;(refine xL 53 (Zn O4) ?_<;>(refine yL 54 (Zt ZcO) fun v54 h=>?_;cases h)<;>refine xL 11 Zb ?_<;>refine Zh ?_)
         (refine xL 56 Za (xL 57 Za (xL 58 (ZdO SA) (xL 55 Za (xL 59 Zl (xL 60 Zl (xL 12 Zb (xL 13 Zb ?_)))))))<;>refine Zh ?_)
         (refine xL 61 Za (xL 62 Yj ?_)<;>refine Zc ?_)
         refine ZM rfl ?_ ?_
         · intro hb11;refine Zd ?_;(refine xL 4 Zb (xL 5 Zb ?_)<;>refine Zc ?_)
           refine Y4 (O6 (t:=4) rfl) fun _=>?_;refine Wp (results20) rfl rfl (L9 (ZcQ hV hF (CG (Xb hx) (Xb hsj) ?_)));rw [hlook] at hb11;simpa using hb11
         · intro hb11;refine Zd ?_;(refine xL 63 ZB (xL 51 Za ?_)<;>refine Zc ?_)
           refine Zf ⟨j+1,oM,fun m s' hm hs'=>?_⟩ (by show x.acts.length-(j+1)<x.acts.length-j;omega) ⟨rfl,rfl,rfl,rfl,rfl,rfl,rfl,rfl,rfl,trivial⟩ ⟨rfl,trivial⟩;by_cases e:m=j
           · subst e;rw [hsj] at hs';cases hs';rw [hlook] at hb11;simpa using hb11
           · exact hprej m s' oM hs'
       · intro hb8;(have hgej:x.acts.length≤j:=by have:=UD hb8;omega);refine Zd ?_;(refine xL 64 ZB (xL 44 Za ?_)<;>refine Zc ?_)
         refine Zf ⟨k+1,oM,fun j' x' hj' hx'=>?_⟩ (by show l.length-(k+1)<l.length-k;omega) ⟨rfl,rfl,rfl,rfl,rfl,rfl,trivial⟩ ⟨rfl,trivial⟩;by_cases e:j'=k
         · subst e;rw [hx] at hx';cases hx';intro s hs';obtain ⟨m,hm⟩:=XF hs';exact hprej m s (by have:=Ze hm;omega) hm
         · exact hpre j' x' oM hx'
     · intro hb5;(have hge:l.length≤k:=by have:=UD hb5;omega);have hP:∀x∈l,∀s∈x.acts,0≤partOf c.parts s:=fun x hx=>by
        obtain ⟨j,hj⟩:=XF hx;exact hpre j x (by have:=Ze hj;omega) hj
       refine nav ?_;clear hpre hge hb5 hk;(refine Zk ?_<;>refine xL 65 (Zm 3 Gb) ?_<;>(refine yL 66 (Zp 3 L6) fun v66 h=>?_;cases h)<;>refine xL 67 (ZF L8) ?_<;>refine Ky 68 Za9 fun h68 ho68=>?_<;>refine xL 14 Zb ?_<;>refine Zh ?_)
       (refine xL 69 (Zm 3 Gb) ?_<;>(refine yL 70 (Zp 3 L6) fun v70 h=>?_;cases h)<;>refine xL 71 (ZF L8) ?_<;>refine Ky 72 CE fun h72 ho72=>?_<;>refine xL 15 Zb ?_<;>refine Zc ?_)
       refine Zz (TN (l:=68) ((List.replicate c.parts.length ([]:List Var)).map (KA 28)) rfl sM (CH _ _)) fun _=>?_;(refine Zk ?_<;>refine xL 73 Za (xL 74 (Wj 72 G3) (xL 75 Za ?_))<;>refine Zc ?_)
       refine Zw (ι:={k:Nat//k≤c.parts.length}) (fun k=>⟨[(0,v0,Wi l),(3,ZH (Zs h3) 0, .val (ZH (Zs h3) 0)),(6,h32, .smap (skv (ZP 0 c.parts))),(14,h68, .val h68),(15,h72, .val h72),(73,h72, .val h72),(74, .int .i64 c.parts.length,Zg c.parts.length),(75, .int .i64 k.1,Zg k.1)],[(3,h3, .own 42 2 1 [Zg c.kind,Kx c.parts]),(68,h68, .own 22 1 c.parts.length ((List.replicate c.parts.length ([]:List Var)).map (KA 28))),(72,h72, .own 78 1 c.parts.length (List.replicate k.1 (.omap [])++List.replicate (c.parts.length-k.1) (.val (.map none))))]⟩) (fun k=>c.parts.length-k.1) ⟨0,oM⟩ (fun a w H=>H.weaken ⟨rfl,rfl,rfl,rfl,rfl,rfl,rfl,rfl,trivial⟩ ⟨rfl,rfl,rfl,trivial⟩) ?_;rintro ⟨k,hk⟩;dsimp only;refine Zd ?_;(refine xL 76 ZN ?_<;>refine Zc ?_)
       refine ZM rfl ?_ ?_
       · intro hb18;(have hlt:k<c.parts.length:=by have:=UC hb18;omega);refine Zd ?_;(refine xL 77 Za (xL 16 Zb ?_)<;>refine Zh ?_)
         (refine xL 78 Za (xL 79 Za ?_)<;>refine GR 80 fun h80 ho80=>?_<;>refine xL 81 (Z4 72 G3) ?_<;>(refine Kr 72 k rfl rfl SB Zbc rfl rfl rfl (by assumption) rfl oM (by simp;omega) ?_)<;>refine Zc ?_)
         refine Zz (Jc (l:=72) (l':=80) (j:=k) rfl (Xp (by simp;omega)) rfl rfl) fun _=>?_;(refine Zk ?_<;>refine xL 82 ZB (xL 75 Za ?_)<;>refine Zc ?_)
         exact Zf ⟨k+1,oM⟩ (by show c.parts.length-(k+1)<c.parts.length-k;omega) ⟨rfl,rfl,rfl,rfl,rfl,rfl,rfl,rfl,trivial⟩ ⟨rfl,rfl,by show some _=some _;rw [Zbe hlt],trivial⟩
       · intro hb18;(have hge:k=c.parts.length:=by have:=UD hb18;omega);refine Zd ?_;(refine xL 83 Za (xL 84 (ZF KI) (xL 85 Za ?_))<;>refine Zc ?_)
         refine Zw (ι:={x:Nat×List (List Var)//Zfd l c x}) (fun x=>⟨[(0,v0,Wi l),(3,ZH (Zs h3) 0, .val (ZH (Zs h3) 0)),(6,h32, .smap (skv (ZP 0 c.parts))),(14,h68, .val h68),(15,h72, .val h72),(83,v0,Wi l),(84, .int .i64 l.length,Zg l.length),(85, .int .i64 x.1.1,Zg x.1.1)],[(3,h3, .own 42 2 1 [Zg c.kind,Kx c.parts]),(68,h68, .own 22 1 c.parts.length (x.1.2.map (KA 28))),(72,h72, .own 78 1 c.parts.length (x.1.2.map oAt))]⟩) (fun x=>l.length-x.1.1) ⟨(0,List.replicate c.parts.length []),Zfe l c⟩ (fun a w H=>H.weaken ⟨rfl,rfl,rfl,rfl,rfl,rfl,rfl,rfl,trivial⟩ ⟨rfl,rfl,by show some _=some _;rw [hge,ZcR],trivial⟩) ?_;clear hge hb18 hk;rintro ⟨⟨k,R⟩,hI⟩;dsimp only;obtain ⟨hk,hRl,hWR,S,hRS,hSok,hsp⟩:=id hI;dsimp only at hk hRl hWR hRS hSok hsp;refine Zd ?_;(refine xL 86 ZN ?_<;>refine Zc ?_)
         refine ZM rfl ?_ ?_
         · intro hb23;(have hlt:k<l.length:=by have:=UC hb23;omega);obtain ⟨x,hx⟩:=Zj hlt;have hD:=Yp Z1 l k x hx;have hfit:=YI Z1 hx;have hin:=hP x (Xb hx);have hok:=GM hV hx;have hcnt:=Hx hok;(have hxl:x.acts.length≤200:=by simp only [YQ,Xd,Uw] at hok;exact hok.1.1.1);have hkind:=Et hF;have hCS:=ZcG c x.acts (ZP 0 c.parts) (fun t ht=>Zbf (hin t ht)) hin oM oM hn1 hkind.1 hkind.2.1;rw [Eu hx] at hsp;refine Zd ?_;(refine xL 87 (Zn KI) ?_<;>(refine yL 88 (Jm G2) fun v88 h=>?_;cases h)<;>refine ZV [(.slice none 0 0),(.int .i64 0)] 2 18 O5 fun h18=>?_<;>refine YN 18 G2 ?_<;>refine Zc ?_)
           refine (show Yq c x.acts=none∨∃ps,Yq c x.acts=some ps by cases Yq c x.acts with|none=>exact .inl rfl|some ps=>exact .inr ⟨ps,rfl⟩).elim (fun hO=>?_) (fun hO=>hO.elim fun ps hO=>?_)
           · rw [hO] at hCS hsp;(refine Zk ?_<;>refine xL 90 (Zm 18 Lz) ?_<;>(refine yL 91 (Zp 18 Gw) fun v91 h=>?_;cases h)<;>refine xL 92 (Zm 3 Rb) ?_<;>(refine yL 93 (Zp 3 W9) fun v93 h=>?_;cases h)<;>refine xL 94 (Zm 3 Gb) ?_<;>(refine yL 95 (Zp 3 L6) fun v95 h=>?_;cases h)<;>refine xL 96 (ZF L8) (xL 97 Za ?_)<;>(refine TG (R:=(· = .tup [.val (.slice none 0 0),Zo false])) 98 202 203 rfl rfl (Xa rfl) rfl rfl rfl (JJ rfl (call66) rfl hCS) ?_;rintro p' rfl;refine ⟨_,_,rfl,rfl,rfl,?_⟩;intro v202 v203 hv202 hv203 _ _;cases hv202;cases hv203)<;>refine xL 89 Za (xL 99 Zl (xL 100 Zl (xL 19 Zb (xL 20 Zb ?_))))<;>refine Zh ?_)
             (refine xL 101 Za (xL 102 Yj ?_)<;>refine Zc ?_)
             refine ZM rfl ?_ (fun h=>by cases h);intro _;refine Zd ?_;(refine xL 4 Zb (xL 5 Zb ?_)<;>refine Zc ?_)
             refine Y4 (O6 (t:=4) rfl) fun _=>?_;refine Wp (results20) rfl rfl (L9 (Zbg hV hF ?_ hsp));unfold WZ;rw [Xf];intro x hx;rw [Xf];exact fun s hs=>Ux (hP x hx s hs)
           · rw [hO] at hCS hsp;(refine Zk ?_<;>refine xL 90 (Zm 18 Lz) ?_<;>(refine yL 91 (Zp 18 Gw) fun v91 h=>?_;cases h)<;>refine xL 92 (Zm 3 Rb) ?_<;>(refine yL 93 (Zp 3 W9) fun v93 h=>?_;cases h)<;>refine xL 94 (Zm 3 Gb) ?_<;>(refine yL 95 (Zp 3 L6) fun v95 h=>?_;cases h)<;>refine xL 96 (ZF L8) (xL 97 Za ?_)<;>(refine TG (R:=(· = .tup [RI ps,Zo true])) 98 202 203 rfl rfl (Xa rfl) rfl rfl rfl (JJ rfl (call66) rfl hCS) ?_;rintro p' rfl;refine ⟨_,_,rfl,rfl,rfl,?_⟩;intro v202 v203 hv202 hv203 _ _;cases hv203)<;>refine xL 89 Za (xL 99 Zl (xL 100 Zl (xL 19 Zb (xL 20 Zb ?_))))<;>refine Zh ?_)
             (refine xL 101 Za (xL 102 Yj ?_)<;>refine Zc ?_)
             refine ZM rfl (fun h=>by cases h) ?_;intro _;refine nav ?_;have hPS:=E2 oM hin hO;have hWP:=Em hok hO;(have hpl:ps.length≤1000300:=by have:=hPS.1;omega);(have hk300:l.length≤300:=by simp only [validVars,Xd,Uw] at hV;exact hV.1);(refine Zk ?_<;>refine xL 103 Za (xL 104 (ZF PO) (xL 105 Za ?_))<;>refine Zc ?_)
             refine Zw (ι:={y:Nat×List (List Var)//Zbh c S ps x.count k y}) (fun y=>⟨[(0,v0,Wi l),(3,ZH (Zs h3) 0, .val (ZH (Zs h3) 0)),(6,h32, .smap (skv (ZP 0 c.parts))),(14,h68, .val h68),(15,h72, .val h72),(83,v0,Wi l),(84, .int .i64 l.length,Zg l.length),(85, .int .i64 k,Zg k),(18,ZH (Zs h18) 0, .val (ZH (Zs h18) 0)),(103,v202,RI ps),(104, .int .i64 ps.length,Zg ps.length),(105, .int .i64 y.1.1,Zg y.1.1)],[(3,h3, .own 42 2 1 [Zg c.kind,Kx c.parts]),(18,h18, .own 28 2 1 [ZQ x.acts,Zg x.count]),(68,h68, .own 22 1 c.parts.length (y.1.2.map (KA 28))),(72,h72, .own 78 1 c.parts.length (y.1.2.map oAt))]⟩) (fun y=>ps.length-y.1.1) ⟨(0,R),Zff ps x.count hRl hWR hRS hSok⟩ (fun a w H=>H.weaken ⟨rfl,rfl,rfl,rfl,rfl,rfl,rfl,rfl,rfl,rfl,rfl,rfl,trivial⟩ ⟨rfl,rfl,rfl,rfl,trivial⟩) ?_;rintro ⟨⟨i,R'⟩,hIP⟩;dsimp only;refine Zd ?_;(refine xL 106 ZN ?_<;>refine Zc ?_)
             refine ZM rfl ?_ ?_
             · intro hb29;(have hlti:i<ps.length:=by have:=UC hb29;omega);obtain ⟨⟨pp,pw⟩,hp⟩:=Zj hlti;have hpm:=Xb hp;have hpw:WOk pw:=hWP _ hpm;have hpr:=hPS.2 _ hpm;dsimp only at hpr;obtain ⟨pn,rfl⟩:∃pn:Nat,pp=(pn:Int):=⟨pp.toNat,oM⟩;obtain ⟨b1,b2,b3,S',b4,b5,b6⟩:=id hIP;dsimp only at b1 b2 b3 b4 b5 b6;obtain ⟨r,hr⟩:∃r,R'[pn]? =some r:=Zj oM;have hput:PM x.count R' ⟨(pn:Int),pw⟩=R'.set pn (bump r pw x.count):=Za8 hr;have hRok:=b4.ok b5 r (Xb hr);have hD2:=Yp PH ps i _ hp;have hfit2:=YI PH hp;have hWr:∀y∈r,WOk y.acts:=b3 r (Xb hr);refine Zd ?_;(refine xL 107 (Zn PO) ?_<;>(refine yL 108 (Jm Ra) fun v108 h=>?_;cases h)<;>refine ZV [(.int .i64 0),(.slice none 0 0)] 2 22 CF fun h22=>?_<;>refine YN 22 Ra ?_<;>refine Zh ?_)
               (refine xL 109 (Zm 22 T4) ?_<;>(refine yL 110 (Zp 22 Gw) fun v110 h=>?_;cases h)<;>(refine TF 111 rfl rfl (Xa rfl) (JJ rfl (call67) rfl (Zfb pw (by have:=hpw.1;omega) (ZcL hpw))) ?_;rintro p' rfl;refine ⟨rfl,?_⟩;intro v111 hv111;cases hv111)<;>refine xL 23 Zb ?_<;>refine Zc ?_)
               (have hcA:(R'.map oAt)[pn]? =some (oAt r):=by rw [Xl,hr];rfl);(have hcR:(R'.map (KA 28))[pn]? =some (KA 28 r):=by rw [Xl,hr];rfl);refine Zz (Jj (l:=72) (l':=600) (j:=pn) rfl hcA rfl rfl) fun v=>?_;obtain ⟨m,hm⟩:=v;dsimp only;refine Zz (Jj (l:=68) (l':=601) (j:=pn) rfl hcR rfl rfl) fun v=>?_;obtain ⟨hd,hhd⟩:=v;dsimp only;have hc72:((R'.map oAt).set pn (.val m))[pn]? =some (.val m):=Xp (by rw [Xc];omega);have hc68:((R'.map (KA 28)).set pn (.val hd))[pn]? =some (.val hd):=Xp (by rw [Xc];omega);(refine Zk ?_<;>refine xL 113 Za (xL 114 (Zm 22 Kh) ?_)<;>(refine yL 115 (Zp 22 W9) fun v115 h=>?_;cases h)<;>refine xL 116 (Z4 72 G3) ?_<;>(refine Rq 117 rfl rfl (Xa rfl) (Y8 72 pn SB rfl rfl rfl (by first|rfl|omega) hc72 rfl) ?_;intro v117 hv117;cases hv117)<;>refine xL 118 Za (xL 119 (R4 600 SA) (xL 112 Za (xL 120 Zl (xL 121 Zl (xL 24 Zb (xL 25 Zb ?_))))))<;>refine Zh ?_)
               (refine xL 122 Za (xL 123 Yj ?_)<;>refine Zc ?_)
               have hbnd:r.length≤400000000∧∀y∈r,0≤y.count∧y.count≤400000000000000:=by
                refine ⟨by have:=hRok.1;omega,fun y hy=>?_⟩;have:=hRok.2 y hy;exact ⟨this.1,by have:=this.2;omega⟩
               refine R2 (ι:={y:Value×List Var×Nat×Var//Met r pw x.count y.1 y.2.1 y.2.2.1 y.2.2.2}) (fun y=>⟨[(0,v0,Wi l),(3,ZH (Zs h3) 0, .val (ZH (Zs h3) 0)),(6,h32, .smap (skv (ZP 0 c.parts))),(14,h68, .val h68),(15,h72, .val h72),(83,v0,Wi l),(84, .int .i64 l.length,Zg l.length),(85, .int .i64 k,Zg k),(18,ZH (Zs h18) 0, .val (ZH (Zs h18) 0)),(103,v202,RI ps),(104, .int .i64 ps.length,Zg ps.length),(105, .int .i64 i,Zg i),(22,ZH (Zs h22) 0, .val (ZH (Zs h22) 0)),(24, .int .i64 y.1.2.2.1,Zg y.1.2.2.1)],[(3,h3, .own 42 2 1 [Zg c.kind,Kx c.parts]),(18,h18, .own 28 2 1 [ZQ x.acts,Zg x.count]),(22,h22, .own 114 2 1 [Zg pn,ZQ pw]),(68,h68, .own 22 1 c.parts.length ((R'.map (KA 28)).set pn (.val y.1.1))),(72,h72, .own 78 1 c.parts.length ((R'.map oAt).set pn (.val m))),(600,m,oAt (bump r pw x.count)),(601,y.1.1,KA 28 y.1.2.1)]⟩) ?_ ?_
               · refine ZM rfl ?_ ?_
                 · intro hb33;have hmg:YT (Le Jn 0 r) (Jn pw)=none:=by
                    rw [←W4]
                    cases h:YP (skv (Le Jn 0 r)) (.string (Jn pw)) with
                    |none=>rfl
                    |some v=>rw [h] at hb33;cases hb33
                   obtain ⟨hnew,hat⟩:=O2 hmg;have hat':=hat x.count;rw [Xy] at hat';have hrb:=hbnd.1;have hpwl:=hpw.1;have hfr:=YC Z1 r;unfold KA;refine Zd ?_;(refine xL 124 Za (xL 125 (Zm 22 Kh) ?_)<;>(refine yL 126 (Zp 22 W9) fun v126 h=>?_;cases h)<;>refine xL 127 (Z4 68 KJ) ?_<;>(refine Rq 128 rfl rfl (Xa rfl) (Y8 68 pn JE rfl rfl rfl (by first|rfl|omega) hc68 rfl) ?_;intro v128 hv128;cases hv128)<;>refine xL 129 (Wj 601 KI) (xL 24 Zb ?_)<;>refine Zh ?_)
                   (refine xL 130 Za (xL 131 (Zm 22 Kh) ?_)<;>(refine yL 132 (Zp 22 W9) fun v132 h=>?_;cases h)<;>refine xL 133 (Z4 72 G3) ?_<;>(refine Rq 134 rfl rfl (Xa rfl) (Y8 72 pn SB rfl rfl rfl (by first|rfl|omega) hc72 rfl) ?_;intro v134 hv134;cases hv134)<;>refine xL 135 Za (xL 136 Za ?_)<;>refine Lm 600 SA ?_<;>refine Zc ?_)
                   (refine ZR (fun i=>([15]:List Nat).elem i) [22,68] kR ?_<;>refine xD 0 137 rfl Za ?_<;>refine xD 1 138 rfl (Zm 22 Kh) ?_<;>(refine yD 2 139 rfl (Zp 22 W9) fun v139 h=>?_;cases h)<;>refine xD 3 140 rfl Za ?_<;>refine xD 4 141 rfl (Zm 22 Kh) ?_<;>(refine yD 5 142 rfl (Zp 22 W9) fun v142 h=>?_;cases h)<;>refine xD 6 143 rfl (Z4 68 KJ) ?_<;>(refine Oi 7 144 rfl kR rfl rfl (Xa rfl) (Y8 68 pn JE rfl rfl rfl (by first|rfl|omega) hc68 rfl) ?_;intro v144 hv144;cases hv144)<;>refine xE 8 145 rfl (Zm 22 T4) ?_<;>(refine yE 9 146 rfl (Zp 22 Gw) fun v146 h=>?_;cases h)<;>(refine Zy 10 kR ?_)<;>(refine ZA rfl fun w9 M9 N9 DQ back=>?_)<;>(refine TF 147 rfl rfl (Xa rfl) (JJ rfl (call68) rfl (Zd9 pw oM)) ?_;rintro p' rfl;refine ⟨rfl,?_⟩;intro v147 hv147;clear hv147)<;>refine Zr (back _ (nrm ?_))<;>refine xE 11 148 rfl (Yt Zba) ?_<;>(refine Zy 12 kR ?_)<;>(refine ZA rfl fun w9 M9 N9 DQ back=>?_)<;>refine LQ 149 O3 fun h149 ho149=>?_<;>refine Zr (back _ (nrm ?_))<;>(refine Zy 13 kR ?_)<;>(refine ZA rfl fun w9 M9 N9 DQ back=>?_)<;>refine Km 601 149 150 O3 fun h150 ho150=>?_<;>refine Zr (back _ (nrm ?_))<;>refine xE 14 151 rfl (Z4 68 KJ) ?_<;>(refine Zy 15 kR ?_)<;>(refine WP rfl rfl kR fun DQ back=>?_)<;>(refine Kr 68 pn rfl rfl JE Zbb rfl rfl rfl (by assumption) rfl (by first|rfl|omega) (by rw [Xj,Xc];omega) ?_)<;>refine Zr (back _ (nav ?_))<;>try dsimp only)
                   refine Ys (Yb (l:=150) 601 rfl rfl) fun _=>?_;(have hrow3:r.flatMap Wd++[ZQ pw,Zg 0]=(r++[(⟨pw,0⟩:Var)]).flatMap Wd:=by rw [VQ];rfl);refine T' ⟨(h150,r++[⟨pw,0⟩],r.length,⟨pw,0⟩),ho150,sM,rfl,ZcN hnew,by show (0:Int)≤0;decide,by show (0:Int)≤400000000000000;decide,by simp;omega⟩ ⟨rfl,rfl,rfl,rfl,rfl,rfl,rfl,rfl,rfl,rfl,rfl,rfl,rfl,rfl,trivial⟩ ⟨rfl,rfl,rfl,?_,rfl,?_,?_,trivial⟩
                   · show some _=some _;rw [XK]
                   · show some _=some _;unfold oAt;rw [hat',TL]
                   · show some _=some _;rw [←hrow3];simp;rfl
                 · intro hb33;obtain ⟨v,hmg⟩:∃v,YT (Le Jn 0 r) (Jn pw)=some v:=by
                    rw [←W4]
                    cases h:YP (skv (Le Jn 0 r)) (.string (Jn pw)) with
                    |none=>rw [h] at hb33;cases hb33
                    |some v=>exact ⟨v,rfl⟩
                   obtain ⟨ix,z,hv,hz,hzw,hset⟩:=O1 hpw Zbj hWr hmg;rw [Xy] at hv;have hzb:=hbnd.2 z (Xb hz);refine nav ?_;refine T' ⟨(hd,r,ix,z),hhd,hz,hzw,(hset _).1,hzb.1,hzb.2,hbnd.1⟩ ⟨rfl,rfl,rfl,rfl,rfl,rfl,rfl,rfl,rfl,rfl,rfl,rfl,rfl,?_,trivial⟩ ⟨rfl,rfl,rfl,rfl,rfl,?_,rfl,trivial⟩
                   · show some _=some _;rw [W4,hmg,hv];rfl
                   · show some _=some _;unfold oAt;rw [(hset _).2]
               · rintro ⟨⟨hd',r',ix,z⟩,hM⟩;obtain ⟨m1,m2,m3,m4,m5,m6,m7⟩:=id hM;dsimp only at m1 m2 m3 m4 m5 m6 m7 ⊢;have hc1:((R'.map (KA 28)).set pn (.val hd'))[pn]? =some (.val hd'):=Xp (by rw [Xc];omega);(have hcz:(r'.flatMap Wd)[ix*2+1]? =some (Zg z.count):=by rw [Wm Z1 m2 (j:=1) dC];rfl);have hixl:=Ze m2;have hfl:=YC Z1 r';unfold KA;refine nav ?_;(refine ZR (fun i=>([14]:List Nat).elem i) [18,22,68,601] kR ?_<;>refine xD 0 152 rfl Za ?_<;>refine xD 1 153 rfl (Zm 22 Kh) ?_<;>(refine yD 2 154 rfl (Zp 22 W9) fun v154 h=>?_;cases h)<;>refine xD 3 155 rfl (Z4 68 KJ) ?_<;>(refine Oi 4 156 rfl kR rfl rfl (Xa rfl) (Y8 68 pn JE rfl rfl rfl (by first|rfl|omega) hc1 rfl) ?_;intro v156 hv156;cases hv156)<;>refine xD 5 157 rfl Za ?_<;>refine xD 6 158 rfl (Z4 601 KI) ?_<;>refine xD 7 159 rfl (Zm 601 LA) ?_<;>(refine Oi 8 160 rfl kR rfl rfl (Xa rfl) (Y8 601 (ix*2+1) W9 rfl rfl rfl (by first|rfl|omega) hcz rfl) ?_;intro v160 hv160;cases hv160)<;>refine xE 9 161 rfl (Zm 18 LA) ?_<;>(refine yE 10 162 rfl (Zp 18 W9) fun v162 h=>?_;cases h)<;>refine xE 11 163 rfl ZB ?_<;>refine xE 12 164 rfl (Z4 601 KI) ?_<;>refine xE 13 165 rfl (Zm 601 LA) ?_<;>(refine Zy 14 kR ?_)<;>(refine WP rfl rfl kR fun DQ back=>?_)<;>(refine Kr 601 (ix*2+1) rfl rfl W9 ZcP rfl rfl rfl rfl rfl (by first|rfl|omega) (by rw [hfl];omega) ?_)<;>refine Zr (back _ (nav ?_))<;>try dsimp only)
                 have hset2:(r'.flatMap Wd).set (ix*2+1) (Zg (z.count+x.count))=(bump r pw x.count).flatMap Wd:=by
                  rw [Jg Z1 r' ix 1 z ⟨pw,z.count+x.count⟩ _ m2 dC (by simp [Wd,m3]),m4]
                 (have hlen2:r'.length=(bump r pw x.count).length:=by rw [←m4,Xj]);refine Zz (Jc (l:=68) (l':=601) (j:=pn) rfl hc1 rfl rfl) fun _=>?_;refine Zz (Jc (l:=72) (l':=600) (j:=pn) rfl hc72 rfl rfl) fun _=>?_;(refine Zk ?_<;>refine xL 166 ZB (xL 105 Za ?_)<;>refine Zc ?_)
                 have hIP2:Zbh c S ps x.count k (i+1,R'.set pn (bump r pw x.count)):=hput▸Zbi hIP hp hpw oM hcnt.2;have hrows:((R'.map (KA 28)).set pn (.val hd')).set pn (.own 28 2 r'.length ((r'.flatMap Wd).set (ix*2+1) (Zg (z.count+x.count))))=(R'.set pn (bump r pw x.count)).map (KA 28):=by
                  rw [XK,hset2,hlen2,List.map_set];rfl
                 have hats:((R'.map oAt).set pn (.val m)).set pn (oAt (bump r pw x.count))=(R'.set pn (bump r pw x.count)).map oAt:=by
                  rw [XK,List.map_set]
                 exact Zf ⟨(i+1,R'.set pn (bump r pw x.count)),hIP2⟩ (by show ps.length-(i+1)<ps.length-i;omega) ⟨rfl,rfl,rfl,rfl,rfl,rfl,rfl,rfl,rfl,rfl,rfl,rfl,trivial⟩ ⟨rfl,rfl,congrArg (fun cs=>some (h68,PV.own 22 1 c.parts.length cs)) hrows,congrArg (fun cs=>some (h72,PV.own 78 1 c.parts.length cs)) hats,trivial⟩
             · intro hb29;(have hgei:ps.length≤i:=by have:=UD hb29;omega);refine Zd ?_;(refine xL 167 ZB (xL 85 Za ?_)<;>refine Zc ?_)
               exact Zf ⟨(k+1,R'),ZcS hIP hgei hlt hpl hsp⟩ (by show l.length-(k+1)<l.length-k;omega) ⟨rfl,rfl,rfl,rfl,rfl,rfl,rfl,rfl,trivial⟩ ⟨rfl,rfl,rfl,trivial⟩
         · intro hb23;(have hge:l.length≤k:=by have:=UD hb23;omega);(have hall:Y6 c (List.replicate c.parts.length []) l=some S:=by rw [hsp,XI hge];rfl);have hIn:WZ c.parts l=true:=by
            unfold WZ;rw [Xf];intro x hx;rw [Xf];exact fun s hs=>Ux (hP x hx s hs)
           refine Zd ?_;(refine xL 168 Za (xL 169 (Wj 68 KJ) (xL 170 Za ?_))<;>refine Zc ?_)
           refine Zw (ι:={j:Nat//j≤c.parts.length∧∀(i:Nat) (r:List Var),i<j→R[i]? =some r→bigVars r=false}) (fun j=>⟨[(14,h68, .val h68),(168,h68, .val h68),(169, .int .i64 c.parts.length,Zg c.parts.length),(170, .int .i64 j.1,Zg j.1)],[(68,h68, .own 22 1 c.parts.length (R.map (KA 28)))]⟩) (fun j=>c.parts.length-j.1) ⟨0,oM,fun i r hi=>oM⟩ (fun a w H=>H.weaken ⟨rfl,rfl,rfl,rfl,trivial⟩ ⟨rfl,trivial⟩) ?_;rintro ⟨j,hj,hbig⟩;dsimp only;refine Zd ?_;(refine xL 171 ZN ?_<;>refine Zc ?_)
           refine ZM rfl ?_ ?_
           · intro hb41;(have hltj:j<c.parts.length:=by have:=UC hb41;omega);obtain ⟨r,hr⟩:∃r,R[j]? =some r:=Zj oM;(have hcR:(R.map (KA 28))[j]? =some (KA 28 r):=by rw [Xl,hr];rfl);refine Zz (Jj (l:=68) (l':=601) (j:=j) rfl hcR rfl rfl) fun v=>?_;obtain ⟨hd,hhd⟩:=v;dsimp only;have hc68:((R.map (KA 28)).set j (.val hd))[j]? =some (.val hd):=Xp (by rw [Xc];omega);refine Zd ?_;(refine xL 172 (Z4 68 KJ) ?_<;>(refine Rq 173 rfl rfl (Xa rfl) (Y8 68 j JE rfl rfl rfl (by first|rfl|omega) hc68 rfl) ?_;intro v173 hv173;cases hv173)<;>refine xL 27 Zb ?_<;>refine Zh ?_)
             (refine xL 174 Za ?_<;>(refine TF 175 rfl rfl (Xa rfl) (Zb3 rfl (call38) (ps:=[Wi r, .fn 69 []]) ⟨⟨_,_,rfl,Zbk (l:=601) rfl⟩,⟨_,_,rfl,Kw (x:= .func 69) rfl⟩,trivial⟩ (J7 69 [] (fun x=>decide (1048576<x.count)) r (call69) (fun x _=>Za5 x)) (fun p hp=>by rw [hp];rfl)) ?_;rintro p' rfl;refine ⟨rfl,?_⟩;intro v175 hv175;cases hv175)<;>refine Zc ?_)
             refine ZM rfl ?_ ?_
             · intro hb43;refine Zd ?_;(refine xL 4 Zb (xL 5 Zb ?_)<;>refine Zc ?_)
               refine Y4 (O6 (t:=4) rfl) fun _=>?_;refine Wp (results20) rfl rfl (L9 (ZcU hV hF hIn hall ?_));rw [←hRS.any bigVars fun _ _ h=>Ep h];exact ζH hr hb43
             · intro hb43;refine Zd ?_;(refine xL 176 ZB (xL 170 Za ?_)<;>refine Zc ?_)
               refine Ys (Jc (l:=68) (l':=601) (j:=j) rfl hc68 rfl rfl) fun _=>?_;have hcs:((R.map (KA 28)).set j (.val hd)).set j (KA 28 r)=R.map (KA 28):=by
                rw [XK];exact TT hcR
               refine Zf ⟨j+1,oM,fun i r' hi hr'=>?_⟩ (by show c.parts.length-(j+1)<c.parts.length-j;omega) ⟨rfl,rfl,rfl,rfl,trivial⟩ ⟨by show some _=some _;rw [hcs],trivial⟩;by_cases e:i=j
               · subst e;rw [hr] at hr';cases hr';exact hb43
               · exact hbig i r' oM hr'
           · intro hb41;(have hgej:c.parts.length≤j:=by have:=UD hb41;omega);have hB:S.any bigVars=false:=by
              rw [←hRS.any bigVars fun _ _ h=>Ep h];exact ZcX fun i r hr=>hbig i r (by have:=Ze hr;omega) hr
             refine nav ?_;clear hbig hgej hb41 hj;(refine Zk ?_<;>refine xL 177 Za (xL 178 (Wj 68 KJ) (xL 179 Za ?_))<;>refine Zc ?_)
             refine Zw (ι:={y:Nat×List (List Var)//y.1≤c.parts.length∧y.2.length=R.length∧(∀(i:Nat) (r t:List Var),R[i]? =some r→y.2[i]? =some t→(i<y.1→Asc t∧t.Perm r)∧(y.1≤i→t=r))∧∀(i:Nat) (r:List Var),i<y.1→R[i]? =some r→Wh r=false}) (fun y=>⟨[(14,h68, .val h68),(177,h68, .val h68),(178, .int .i64 c.parts.length,Zg c.parts.length),(179, .int .i64 y.1.1,Zg y.1.1)],[(68,h68, .own 22 1 c.parts.length (y.1.2.map (KA 28)))]⟩) (fun y=>c.parts.length-y.1.1) ⟨(0,R),sM,rfl,fun i r t hr ht=>⟨fun h=>by simp at h,fun _=>by dsimp only at ht;rw [hr] at ht;cases ht;rfl⟩,fun i r h=>by simp at h⟩ (fun a w H=>H.weaken ⟨rfl,rfl,rfl,rfl,trivial⟩ ⟨rfl,trivial⟩) ?_;rintro ⟨⟨j,T⟩,hj,hTl,hT,hmany⟩;dsimp only at hj hTl hT hmany ⊢;refine Zd ?_;(refine xL 180 ZN ?_<;>refine Zc ?_)
             refine ZM rfl ?_ ?_
             · intro hb47;(have hltj:j<c.parts.length:=by have:=UC hb47;omega);obtain ⟨r,hr⟩:∃r,R[j]? =some r:=Zj oM;have hTr:T[j]? =some r:=by
                obtain ⟨t,ht⟩:∃t,T[j]? =some t:=Zj oM;rw [ht,(hT j r t hr ht).2 (Xg _)]
               (have hcR:(T.map (KA 28))[j]? =some (KA 28 r):=by rw [Xl,hTr];rfl);refine Zz (Jj (l:=68) (l':=601) (j:=j) rfl hcR rfl rfl) fun v=>?_;obtain ⟨hd,hhd⟩:=v;dsimp only;have hc68:((T.map (KA 28)).set j (.val hd))[j]? =some (.val hd):=Xp (by rw [Xc];omega);have hWr:∀y∈r,WOk y.acts:=hWR r (Xb hr);obtain ⟨sj,hsj⟩:∃s,S[j]? =some s:=Zj (by have:=hRS.1;omega);have hnd:Nodup r:=((hRS.2 j r sj hr hsj).1.nodup).perm (hRS.2 j r sj hr hsj).2.symm;have hnext:∀t',Asc t'→t'.Perm r→∀(i:Nat) (r0 t:List Var),R[i]? =some r0→(T.set j t')[i]? =some t→(i<j+1→Asc t∧t.Perm r0)∧(j+1≤i→t=r0):=fun t' h1 h2 i r0 t hr0 ht=>by
                by_cases e:i=j
                · subst e;rw [Xp oM] at ht;rw [hr] at hr0
                  cases ht;cases hr0;exact ⟨fun _=>⟨h1,h2⟩,fun h=>oM⟩
                · rw [X0 (Ne.symm e)] at ht;have:=hT i r0 t hr0 ht;exact ⟨fun h=>this.1 oM,fun h=>this.2 oM⟩
               have hcs:∀t':List Var,t'.length=r.length→((T.map (KA 28)).set j (.val hd)).set j (.own 28 2 r.length (t'.flatMap Wd))=(T.set j t').map (KA 28):=fun t' h=>by
                rw [XK,←h,List.map_set];rfl
               unfold KA;refine Zd ?_;(refine xL 181 (Z4 68 KJ) ?_<;>(refine Rq 182 rfl rfl (Xa rfl) (Y8 68 j JE rfl rfl rfl (by first|rfl|omega) hc68 rfl) ?_;intro v182 hv182;cases hv182)<;>refine xL 29 Zb ?_<;>refine Zh ?_)
               (refine xL 183 Za (xL 184 (Wj 601 KI) (xL 185 Kj ?_))<;>refine Zc ?_)
               refine ZM rfl ?_ ?_
               · intro hb49;refine Zd ?_;(refine xL 4 Zb (xL 5 Zb ?_)<;>refine Zc ?_)
                 refine Y4 (O6 (t:=4) rfl) fun _=>?_;refine Wp (results20) rfl rfl (L9 (ZcV hV hF hIn hall hB ?_));rw [←hRS.any Wh fun _ _ h=>O0 h];exact ζH hr (by unfold Wh;have:=UC hb49;exact Ux oM)
               · intro hb49;(have hle:r.length≤300:=by have:=UD hb49;omega);have hm1:∀(i:Nat) (r0:List Var),i<j+1→R[i]? =some r0→Wh r0=false:=fun i r0 hi hr0=>by
                  by_cases e:i=j
                  · subst e;rw [hr] at hr0;cases hr0;unfold Wh;exact Uy oM
                  · exact hmany i r0 oM hr0
                 refine (show r=[]∨0<r.length by cases r with|nil=>exact .inl rfl|cons=>exact .inr sM).elim (fun h0=>?_) (fun h0=>?_)
                 · (have hl0:r.length=0:=by rw [h0];rfl);refine Zd ?_;(refine xL 186 Za ?_<;>(refine ZcT (l:=601) D6 rfl rfl (Xa rfl) rfl (call70) rfl rfl (by rw [hl0];rfl) ?_)<;>refine Zc ?_)
                   refine Zz (Jc (l:=68) (l':=601) (j:=j) rfl hc68 rfl rfl) fun _=>?_;(refine Zk ?_<;>refine xL 188 ZB (xL 179 Za ?_)<;>refine Zc ?_)
                   exact Zf ⟨(j+1,T.set j r),by show j+1≤_;omega,by show (T.set j r).length=_;rw [Xj];exact hTl,hnext r (by rw [h0];exact List.Pairwise.nil) (.refl _),hm1⟩ (by show c.parts.length-(j+1)<c.parts.length-j;omega) ⟨rfl,rfl,rfl,rfl,trivial⟩ ⟨congrArg (fun cs=>some (h68,PV.own 22 1 c.parts.length cs)) (hcs r rfl),trivial⟩
                 · refine Zd ?_;(refine xL 186 Za ?_<;>(refine DV (l:=601) (f:=Wd) (rows:=r) (cmp:=fun a b:Var=>cmpStrs a.acts b.acts) Za7 Z1 dC (fun _=>rfl) Zea Zfg Zfh (fun x y M W u v hx hy hu hv=>Za6 x y (ζG (hWr x hx)) (ζG (hWr y hy)) M W u v hu hv) h0 oM rfl rfl (Xa rfl) rfl (call70) rfl rfl rfl ?_;intro r2 hp2 hs2)<;>refine Zc ?_)
                   refine Zz (Jc (l:=68) (l':=601) (j:=j) rfl hc68 rfl rfl) fun _=>?_;(refine Zk ?_<;>refine xL 188 ZB (xL 179 Za ?_)<;>refine Zc ?_)
                   exact Zf ⟨(j+1,T.set j r2),by show j+1≤_;omega,by show (T.set j r2).length=_;rw [Xj];exact hTl,hnext r2 (Zfi hnd hp2 hs2) hp2,hm1⟩ (by show c.parts.length-(j+1)<c.parts.length-j;omega) ⟨rfl,rfl,rfl,rfl,trivial⟩ ⟨congrArg (fun cs=>some (h68,PV.own 22 1 c.parts.length cs)) (hcs r2 hp2.length_eq),trivial⟩
             · intro hb47;(have hgej:c.parts.length≤j:=by have:=UD hb47;omega);have hM:S.any Wh=false:=by
                rw [←hRS.any Wh fun _ _ h=>O0 h];exact ZcX fun i r hr=>hmany i r (by have:=Ze hr;omega) hr
               have hTS:T=S:=hRS.sorted hTl fun i r t hr ht=>(hT i r t hr ht).1 (by have:=Ze hr;omega);refine Zd ?_;(refine xL 189 Za (xL 4 Zb (xL 5 Zb ?_))<;>refine Zc ?_)
               refine Y4 (En.freeze (l:=68) (t:=4) rfl rfl) fun _=>?_;refine Wp (results20) rfl rfl ?_;rw [ZcW hV hF hIn hall hB hM,CI _ _ _ _ oM,hTS];rfl
 · (refine Zk ?_<;>(refine yL 31 (YG 3 PN) fun v31 h=>?_;cases h)<;>(refine TG (R:=fun p=>∃q,p= .tup [q,Zo false]∧W2 q=true) 32 32 201 rfl rfl (Xa rfl) rfl rfl rfl (JJ rfl (call64) rfl ((Lu c hs).mono fun p ⟨q,e1,_,e3⟩=>⟨q,by rw [e1,hF],by rcases e3 with rfl|⟨es,rfl⟩<;>rfl⟩)) ?_;rintro p' ⟨q,rfl,hq⟩;refine ⟨_,_,rfl,hq,rfl,?_⟩;intro h32 v201 _ hv201 ho32 _;cases hv201)<;>refine xL 30 Za (xL 33 Zl (xL 34 Zl (xL 6 Zb (xL 7 Zb ?_))))<;>refine Zh ?_)
   (refine xL 35 Za (xL 36 Yj (xL 37 Za ?_))<;>refine kL 38 ?_<;>refine kL 39 ?_<;>refine kL 40 ?_<;>refine xL 41 Zv ?_<;>refine Zc ?_)
   refine ZM rfl ?_ (fun h=>by cases h);intro _;refine Zd ?_;(refine xL 4 Zb (xL 5 Zb ?_)<;>refine Zc ?_)
   refine Y4 (O6 (t:=4) rfl) fun _=>?_;refine Wp (results20) rfl rfl (L9 (Es ?_));rw [hF];simp
theorem CJ:AggT prog 42 2=true:=by kernel_rfl
theorem SC:ElT prog 22 28 2 32 (.agg #[(.slice none 0 0),(.int .i64 0)]):=⟨underlying22,by kernel_rfl,rfl,dC⟩
theorem Gx:ElT prog 26 9 1 16 (.string ByteArray.empty):=⟨underlying26,by kernel_rfl,rfl,dC⟩
theorem Zbl:ElT prog 40 26 1 24 (.slice none 0 0):=⟨underlying40,by kernel_rfl,rfl,dC⟩
theorem O7:NoAgg prog 22=true:=by kernel_rfl
theorem SD:SlT prog 45 22 1=true:=by kernel_rfl
theorem SE:KY prog 28=some ((.agg #[(.slice none 0 0),(.int .i64 0)]),([0,1]:List Nat).map fun o=>(o,1)):=by kernel_rfl
theorem Zbm:KY prog 42=some ((.agg #[(.int .i64 0),(.slice none 0 0)]),([0,1]:List Nat).map fun o=>(o,1)):=by kernel_rfl
theorem Zbn:ZeroT prog 42 (.agg #[(.int .i64 0),(.slice none 0 0)]):=by unfold ZeroT;kernel_rfl
theorem ZcY:AggT prog 42 2=true:=by kernel_rfl
def exA:ByteArray:=⟨#[97]⟩
def exB:ByteArray:=⟨#[98]⟩
def exL:List Var:=[⟨[exA,exB,exA],3⟩]
def exC:Cut:=⟨4,[[exA],[exB]]⟩
theorem ZcZ:Wz exL exC=([[⟨[exA],6⟩],[⟨[exB],3⟩]],0):=by kernel_rfl
theorem ζI:AF prog 7 [] (· =Zo true):=by
 refine AF.of_body 41 func7 rfl ntmps7 (Xa rfl) ?_
 intro w0 M0 vs hl hv
 have:vs=[]:=XC hl
 subst this
 clear hl hv
 refine Zd ?_
 (refine xL 0 Zb ?_<;>refine Zh ?_)
 (refine WF (kk:=1) 4 Gx fun h4 ho4=>?_<;>(refine Yg (En.freeze (l:=4) (t:=4) rfl rfl) fun _=>?_;refine Rz (kk:=1) 5 Gx rfl rfl (Xa rfl) rfl rfl rfl rfl ?_;intro h5 ho5;refine Yg (En.freeze (l:=5) (t:=5) rfl rfl) fun _=>?_)<;>(refine Tz (xs:=[_,_]) 6 Zbl rfl rfl (Xa rfl) rfl rfl rfl rfl rfl dC dC rfl ?_;intro h6 ho6;refine Yg (En.freeze (l:=6) (t:=6) rfl rfl) fun _=>?_)<;>refine xL 7 (Yt Zbm) ?_<;>refine ZV [(.int .i64 0),(.slice none 0 0)] 2 1 Zbn fun h1=>?_<;>refine YN 1 CJ ?_<;>refine Zc ?_)
 have hfl:Ru exL:=⟨dC,fun x hx=>by
  simp [exL] at hx;subst hx;exact ⟨⟨dC,fun s hs=>by simp at hs;rcases hs with rfl|rfl|rfl<;>decide⟩,dC,dC⟩⟩
 have hCS:=Ev exL exC hfl (fun p hp s hs=>by
  simp [exC] at hp;rcases hp with rfl|rfl<;>simp at hs<;>subst hs<;>decide) dC
 rw [ZcZ] at hCS
 (refine Zk ?_<;>(refine Tz (xs:=[_,_,_]) 9 Gx rfl rfl (Xa rfl) rfl rfl rfl rfl rfl dC dC rfl ?_;intro h9 ho9;refine Yg (En.freeze (l:=9) (t:=9) rfl rfl) fun _=>?_)<;>refine xL 10 (Yt SE) ?_<;>(refine Ty 11 SC rfl rfl (Xa rfl) rfl rfl rfl dC rfl ?_;intro h11 ho11;refine Yg (En.freeze (l:=11) (t:=11) rfl rfl) fun _=>?_)<;>(refine Rq 12 rfl rfl (Xa rfl) (RU (ps:=[Zg exC.kind,Kx exC.parts]) 1 ZcY rfl rfl rfl (Xg 2) dC rfl rfl) ?_;intro v12 _)<;>(refine TG (R:=RSp ([[⟨[exA],6⟩],[⟨[exB],3⟩]],0)) 13 202 203 rfl rfl (Xa rfl) rfl rfl rfl (JJ rfl (call20) rfl hCS) ?_;rintro p' rfl;refine ⟨_,_,rfl,rfl,rfl,?_⟩;intro v202 v203 hv202 hv203 _ _;cases hv203)<;>refine xL 8 Za (xL 14 Zl (xL 15 Zl (xL 2 Zb (xL 3 Zb ?_))))<;>refine Zc ?_)
 have fexA:Ru [⟨[exA],6⟩]:=⟨dC,fun x hx=>by
  simp at hx;subst hx;exact ⟨⟨dC,fun s hs=>by simp at hs;subst hs;decide⟩,dC,dC⟩⟩
 have fexB:Ru [⟨[exB],3⟩]:=⟨dC,fun x hx=>by
  simp at hx;subst hx;exact ⟨⟨dC,fun s hs=>by simp at hs;subst hs;decide⟩,dC,dC⟩⟩
 (refine Zk ?_<;>refine xL 16 Za (xL 17 YY (xL 18 Za (xL 19 Za (xL 20 (ZF SD) (xL 21 YY (xL 22 Zv (xL 23 Za (xL 24 Za (xL 25 (Zn SD) ?_)))))))))<;>(refine yL 26 (Zt O7) fun v26 h=>?_;cases h)<;>(refine Rz (kk:=1) 27 Gx rfl rfl (Xa rfl) rfl rfl rfl rfl ?_;intro h27 ho27;refine Yg (En.freeze (l:=27) (t:=27) rfl rfl) fun _=>?_)<;>refine xL 28 (Yt SE) ?_<;>(refine Ty 29 SC rfl rfl (Xa rfl) rfl rfl rfl dC rfl ?_;intro h29 ho29;refine Yg (En.freeze (l:=29) (t:=29) rfl rfl) fun _=>?_)<;>(refine TF 30 rfl rfl (Xa rfl) (JJ rfl (call37) rfl (G9 [⟨[exA],6⟩] [⟨[exA],6⟩] fexA fexA)) ?_;rintro p' rfl;refine ⟨rfl,?_⟩;intro v30 hv30;cases hv30)<;>refine xL 31 Zv (xL 32 Za ?_)<;>(refine bL 32 (fun hb32=>?_) (fun hb32=>?_)<;>(first|refine kL 33 ?_|refine xL 33 Za ?_))<;>(first|refine kL 34 ?_|refine xL 34 (Zn SD) ?_)<;>(first|refine kL 35 ?_|(refine yL 35 (Zt O7) fun v35 h=>?_;cases h))<;>(first|refine kL 36 ?_|(refine Rz (kk:=1) 36 Gx rfl rfl (Xa rfl) rfl rfl rfl rfl ?_;intro h36 ho36;refine Yg (En.freeze (l:=36) (t:=36) rfl rfl) fun _=>?_))<;>(first|refine kL 37 ?_|refine xL 37 (Yt SE) ?_)<;>(first|refine kL 38 ?_|(refine Ty 38 SC rfl rfl (Xa rfl) rfl rfl rfl dC rfl ?_;intro h38 ho38;refine Yg (En.freeze (l:=38) (t:=38) rfl rfl) fun _=>?_))<;>(first|refine kL 39 ?_|(refine TF 39 rfl rfl (Xa rfl) (JJ rfl (call37) rfl (G9 [⟨[exB],3⟩] [⟨[exB],3⟩] fexB fexB)) ?_;rintro p' rfl;refine ⟨rfl,?_⟩;intro v39 hv39;cases hv39))<;>refine xL 40 Zv (xL 0 Zb ?_)<;>refine Zc ?_)
 · refine Zi (results7) rfl ?_;show Zo (We [⟨[exB],3⟩] [⟨[exB],3⟩])=_;rw [show We [⟨[exB],3⟩] [⟨[exB],3⟩]=true by kernel_rfl]
 · rw [show We [⟨[exA],6⟩] [⟨[exA],6⟩]=true by kernel_rfl] at hb32
   cases hb32
end Go.Proofs.YtmkojdfiadbeeaaGreat
namespace Go.En
open Go.RowKit Go.Cb Go.WideShapes Go.ChangeShapes Go.ChangeAt Go.Deep
set_option linter.all false
theorem LB {H:Type} (P:Program) (e:TypeId) {d:DataW H} {n:Nat}:∀{l:List (DataW H)},d∈l→n∈d.weights P e→n∈DataW.weightsAll P e l
 | x::l,h,hn=>by
   rw [DataW.weightsAll,Xv];rcases Xn.1 h with rfl|h
   · exact .inl hn
   · exact .inr (LB P e h hn)
theorem Ku {H:Type} (P:Program) {d:DataW H} {t:TypeId} {n:Nat}:∀{ts:List TypeId} {l:List (DataW H)} (i:Nat),ts[i]? =some t→l[i]? =some d→n∈d.weights P t→n∈DataW.weightsEach P ts l
 | t'::ts,x::l,0,h1,h2,hn=>by
   simp at h1 h2;subst h1 h2;rw [DataW.weightsEach,Xv];exact .inl hn
 | t'::ts,x::l,i+1,h1,h2,hn=>by
   rw [DataW.weightsEach,Xv];exact .inr (Ku P i (by simpa using h1) (by simpa using h2) hn)
structure Dec (P:Program) (t:TypeId) (k:Nat) {α:Type} (enc:α→List PV) (fit:α→Prop):Prop where
 size:P.cellsOf t=k
 len:∀a,(enc a).length=k
 dec:∀{H:Type} (e:TypeId×Value→H) (w:World) (spare:Nat→Bool) (held:Bool) (fuel:Nat) (cs:List Value) (x:DataW H×List MemPlace),DataW.trod e P w 0 spare held fuel t cs=some x→(∀n∈x.1.weights P t,n≤reachBytes)→
  ∃a,fit a∧cs.length=k∧∀(i:Nat) (v:Value) (p:PV),cs[i]? =some v→(enc a)[i]? =some p→Shr (fun _=>False) w v p
section
variable {P:Program} {t:TypeId}
theorem PP {v u:Value} {p q:PV} {w:World} (h:Shr (fun _=>False) w v p) (i:Nat) (h1:[v][i]? =some u) (h2:[p][i]? =some q):Shr (fun _=>False) w u q:=by
 cases i with
 |zero=>simp at h1 h2;subst h1 h2;exact h
 |succ i=>simp at h1
theorem Zeb (ht:P.underlying t=some (.int .i64)) (hs:P.cellsOf t=1):Dec P t 1 (fun n:Int=>[Zg n]) (fun n=> -9223372036854775808≤n∧n≤9223372036854775807) where
 size:=hs
 len:=fun _=>rfl
 dec:=fun e w spare held fuel cs x h=>by
  intro hwt;obtain ⟨n,rfl,_,hw⟩:=DataW.trod_int ht h;refine ⟨n,?_,rfl,fun i v p h1 h2=>PP (.val _) i h1 h2⟩;simpa [Lit.wf,IntKind.min,IntKind.max,IntKind.signed,IntKind.bits] using hw
theorem Zec (ht:P.underlying t=some .string) (hs:P.cellsOf t=1):Dec P t 1 (fun s:ByteArray=>[ZS s]) (fun s=>s.size≤140737488355328) where
 size:=hs
 len:=fun _=>rfl
 dec:=fun e w spare held fuel cs x h=>by
  intro hwt;obtain ⟨s,rfl,rfl,hw⟩:=DataW.trod_string ht h;have hsz:s.size≤reachBytes:=hwt s.size (by show s.size∈DataW.weights P t (.lit (.string s.data.toList));rw [DataW.weights];exact XR.2 (by rw [X4];rfl));exact ⟨s,by unfold reachBytes at hsz;omega,rfl,fun i v p h1 h2=>PP (.val _) i h1 h2⟩
theorem O8 {α:Type} {e k:Nat} {enc:α→List PV} {fit:α→Prop} (ht:P.underlying t=some (.slice e)) (hs:P.cellsOf t=1) (hk:0<k) (hby:0<P.bytesOf e) (D:Dec P e k enc fit):
 Dec P t 1 (fun l:List α=>[PV.sl l.length (l.flatMap enc)]) (fun l=>l.length≤140737488355328∧∀x∈l,fit x) where
 size:=hs
 len:=fun _=>rfl
 dec := fun en w spare held fuel cs x h=>by
  intro hwt;rcases open_slice ht h with ⟨rfl,_⟩|⟨a,len,cap,m,n,Dt,Pl,rfl,_,hl,hm,hmm,rfl,hx⟩
  · exact ⟨[],⟨sM,sM⟩,rfl,fun i v p h1 h2=>PP (.emp none 0 (by unfold maxLen;omega) (fun _=>rfl)) i h1 h2⟩
  · rcases Vx len with h0|h0
    · subst h0;exact ⟨[],⟨sM,sM⟩,rfl,fun i v p h1 h2=>PP (.emp (some a) cap hm (fun h=>by cases h)) i h1 h2⟩
    (have hlm:len≤m:=by rw [hmm];split<;>omega);simp only [DataW.weights,ht] at hwt;have hlen:len≤reachBytes:=by
     have:=hwt _ (XG ..);simp only [Xc,VF] at this;exact XP (XP (Ul len _) (Nat.le_mul_of_pos_right _ hby)) this
    have hwi:∀i,i<len→∀n∈(Dt i).weights P e,n≤reachBytes:=fun i hi n hn=>hwt n (XE _ (Xv.2 (.inl (LB P e (Xm.2 ⟨i,by simpa using hi,rfl⟩) hn))));have key:∀i:Nat,∃(y:α×(Nat→Value)),i<len→fit y.1∧∀(j:Nat) (p:PV),(enc y.1)[j]? =some p→w.cell? ((a.add (i*k)).add j)=some (y.2 j)∧Shr (fun _=>False) w (y.2 j) p:=fun i=>by
     obtain ⟨cs0,h10,h20⟩:=hx 0 oM;obtain ⟨y0,_⟩:=D.dec en w spare held n cs0 _ h20 (hwi 0 h0);by_cases hi:i<len
     · obtain ⟨cs',h1,h2⟩:=hx i oM;rw [D.size] at h1;obtain ⟨_,hlen,hcell⟩:=World.cells?_some h1;obtain ⟨y,hy,_,hS⟩:=D.dec en w spare held n cs' _ h2 (hwi i hi);refine ⟨(y,fun j=>(cs'[j]?).getD undef),fun _=>⟨hy,fun j p hp=>?_⟩⟩;(have hj:j<k:=by rw [←D.len y];exact Ze hp);obtain ⟨u,hu⟩:=Z6 (show j<cs'.length by omega);have:=hcell j hj;simp only [hu,V3];exact ⟨by rw [this,hu],hS j u p hu hp⟩
     · exact ⟨(y0,fun _=>undef),fun h=>UB h hi⟩
    obtain ⟨Y,hY⟩:=Classical.skolem.1 key;have hspot:∃b off,a=⟨b,off,none⟩:=by
     obtain ⟨hf,hc⟩:=hY 0 h0;obtain ⟨p,hp⟩:=Z6 (show 0<(enc (Y 0).1).length by rw [D.len];exact hk);have:=(hc 0 p hp).1;obtain ⟨b,off,spot⟩:=a;(have hspot:spot=none:=by simpa [Addr.add] using World.cell?_spot this);subst hspot;exact ⟨b,off,rfl⟩
    obtain ⟨b,off,rfl⟩:=hspot;have hflen:((List.range len).map fun i=>(Y i).1).length=len:=sM;refine ⟨(List.range len).map fun i=>(Y i).1,⟨by rw [hflen];unfold reachBytes at hlen;omega,fun x hx=>?_⟩,rfl,fun i v p h1 h2=>PP ?_ i h1 h2⟩
    · obtain ⟨i,hi,rfl⟩:=Xm.1 hx;exact (hY i (by simpa using hi)).1
    · rw [hflen];have hat:∀(c:Nat) (p:PV),(((List.range len).map fun i=>(Y i).1).flatMap enc)[c]? =some p→c / k<len∧(enc (Y (c / k)).1)[c % k]? =some p:=fun c p hp=>by
       (have hc:c<len*k:=by have:=Ze hp;rw [YC D.len,hflen] at this;exact this);have hq:c / k<len:=Nat.div_lt_of_lt_mul (by rw [VJ];exact hc);(have hget:((List.range len).map fun i=>(Y i).1)[c / k]? =some (Y (c / k)).1:=by simp [hq]);have:=Wm D.len hget (Nat.mod_lt c hk);rw [VJ,VV] at this;exact ⟨hq,by rw [←this];exact hp⟩
      refine .sl b off len cap _ (fun c=>(Y (c / k)).2 (c % k)) hl hm (fun c hc=>⟨?_,fun h=>h⟩) (fun c p hp=>?_)
      · obtain ⟨p,hp⟩:=Z6 hc;obtain ⟨hq,hp'⟩:=hat c p hp;have:=((hY (c / k) hq).2 (c % k) p hp').1;rw [Y3,Y3,Vt,VJ,VV] at this;exact this
      · obtain ⟨hq,hp'⟩:=hat c p hp;exact ((hY (c / k) hq).2 (c % k) p hp').2
theorem O9 {H:Type} {α:Type} {e k o:Nat} {enc:α→List PV} {fit:α→Prop} (D:Dec P e k enc fit) {en:TypeId×Value→H} {w:World} {spare:Nat→Bool} {held:Bool} {n:Nat} {cs:List Value} {y:DataW H×List MemPlace}
 (h:DataW.trod en P w 0 spare held n e ((cs.drop o).take (P.cellsOf e))=some y) (hwt:∀n∈y.1.weights P e,n≤reachBytes):∃a,fit a∧∀(i:Nat) (v:Value) (p:PV),cs[o+i]? =some v→(enc a)[i]? =some p→Shr (fun _=>False) w v p:=by
 obtain ⟨a,h1,_,h3⟩:=D.dec en w spare held n _ y h hwt
 refine ⟨a,h1,fun i v p hv hp=>h3 i v p ?_ hp⟩
 have hi:i<k:=by rw [←D.len a];exact Ze hp
 rw [D.size,X6 hi,VE];exact hv
theorem D7 {α β:Type} {k:Nat} {enc:α→List PV} {enc':β→List PV} {fit:α→Prop} {fit':β→Prop} (g:α→β) (D:Dec P t k enc fit) (hl:∀b,(enc' b).length=k) (he:∀a,enc' (g a)=enc a) (h:∀a,fit a→fit' (g a)):Dec P t k enc' fit':=
 ⟨D.size,hl,fun e w s hd f cs x hx hy=>let ⟨a,h1,h2,h3⟩:=D.dec e w s hd f cs x hx hy;⟨g a,h a h1,h2,by rw [he];exact h3⟩⟩
theorem Zc0 {cs:List Value} {A B:List PV} {k:Nat} {w:World} (hA:A.length=k) (h1:∀(i:Nat) (v:Value) (p:PV),cs[i]? =some v→A[i]? =some p→Shr (fun _=>False) w v p)
 (h2:∀(i:Nat) (v:Value) (p:PV),cs[k+i]? =some v→B[i]? =some p→Shr (fun _=>False) w v p) (i:Nat) (v:Value) (p:PV) (hv:cs[i]? =some v) (hp:(A++B)[i]? =some p):Shr (fun _=>False) w v p:=by
 rcases XY i k with h|h
 · rw [X7 oM] at hp;exact h1 i v p hv hp
 · rw [Vb oM] at hp;exact h2 (i-k) v p (by rw [Nat.add_sub_cancel' h];exact hv) (by rw [←hA];exact hp)
theorem Ew {α β:Type} {f0 f1:Field} {k0 k1:Nat} {enc0:α→List PV} {enc1:β→List PV} {fit0:α→Prop} {fit1:β→Prop} (ht:P.underlying t=some (.struct #[f0,f1])) (hs:P.cellsOf t=k0+k1)
 (D0:Dec P f0.type k0 enc0 fit0) (D1:Dec P f1.type k1 enc1 fit1) (ho0:f0.offset=0) (ho1:f1.offset=k0):Dec P t (k0+k1) (fun x:α×β=>enc0 x.1++enc1 x.2) (fun x=>fit0 x.1∧fit1 x.2) where
 size:=hs
 len:=fun x=>by rw [Xe,D0.len,D1.len]
 dec:=fun e w spare held fuel cs x h=>by
  intro hwt;obtain ⟨xs,n,_,rfl,hlen,hxl,hf⟩:=DataW.trod_struct ht h;simp only [DataW.weights,ht] at hwt;have g0:=hf 0 f0 rfl;have g1:=hf 1 f1 rfl;match xs,hxl with
  |[y0,y1],_=>
  rw [ho0] at g0;rw [ho1] at g1;obtain ⟨a,ha,A⟩:=O9 D0 g0 (fun n hn=>hwt n (Ku P 0 sM sM hn));obtain ⟨b,hb,B⟩:=O9 D1 g1 (fun n hn=>hwt n (Ku P 1 sM sM hn));refine ⟨(a,b),⟨ha,hb⟩,by rw [hlen,hs],Zc0 (D0.len a) (fun i v p hv hp=>A i v p (by rw [Xy];exact hv) hp) B⟩
section
variable {H:Type} {en:TypeId×Value→H} {w:World} {spare:Nat→Bool} {held:Bool} {r:Reach} {base:Nat} {v:Value} {d:DataW H} {ps:List MemPlace}
theorem CK (hT:NoAgg P t=true) (h:Value.okWide P w r base t v):v.cells= #[v]:=by
 unfold NoAgg at hT
 unfold Value.okWide at h
 cases v<;>first|rfl|skip
 rename_i cs
 exfalso
 cases hu:P.underlying t with
 |none=>rw [hu] at hT;simp at hT
 | some dd=>
   rw [hu] at hT h
   cases dd<;>simp_all [Cell.okWide,Cell.ok]
theorem Zf5 {α:Type} {f:α→PV} {fit:α→Prop} (D:Dec P t 1 (fun a=>[f a]) fit) (hT:NoAgg P t=true) (hv:Value.okWide P w r base t v) (h:DataW.Trod en P w 0 spare held t v d ps) (hwt:∀n∈d.weights P t,n≤reachBytes):∃a,fit a∧Shr (fun _=>False) w v (f a):=by
 obtain ⟨fuel,hf⟩:=h
 rw [CK hT hv] at hf
 obtain ⟨a,h1,_,h3⟩:=D.dec en w spare held fuel _ _ hf hwt
 exact ⟨a,h1,h3 0 v (f a) rfl rfl⟩
end
theorem T5 {H:Type} {enc:TypeId×Value→H} {P:Program} (hl:laidOutB P=true) {W W':World} (hb:Below W.heap.size W W'):∀{ts:List TypeId} {vs:List Value} {ds:List (DataW H)} {ps:List MemPlace},(ts.all fun t=>P.readableRec t&&decide (t<P.types.size))=true→
 DataW.TrodAll enc P W 0 (fun _=>true) true ts vs ds ps→DataW.TrodAll enc P W' 0 (fun b=>decide (b<W.heap.size)) true ts vs ds ps
 |[],[],[],ps,_,h=>h
 | t::ts,v::vs,d::ds,ps,ht,⟨p,q,h1,h2,h3⟩=>by
   rw [V7,Xd,Xd] at ht;refine ⟨p,q,Below.trod hl ht.1.1 (UC ht.1.2) h1 hb ?_,T5 hl hb ht.2 h2,h3⟩;obtain ⟨m,hm⟩:=h1;exact DataW.trod_lt m _ _ _ hm
theorem AF.law {P:Program} {f:FuncId} {ps:List PV} (hA:AF P f ps (· = .val (.bool true))) {W:World} {vs:List Value} (hl:vs.length=ps.length) (hv:∀(i:Nat) (v:Value) (p:PV),vs[i]? =some v→ps[i]? =some p→Shr (fun _=>False) W v p) (hT:TabW W (fun _=>False) (fun _=>False)) (hE:ErrW W (fun _=>False) (fun _=>False):=by intro g hg;cases hg):
 Calls P f vs.toArray W fun e w'=>e= .returned (.bool true)∧Below W.heap.size W w':=
 (hA (fun _=>False) W vs ⟨fun _ h=>h.elim,fun _=>hT,fun _=>hE⟩ hl hv).mono fun e w' ⟨v,p,F,h1,h2,h3,h4,_⟩=>by
   subst h2;have:=(h4.sh rfl).vOf;subst this;exact ⟨h1,h3⟩
end
end Go.En
namespace Go.Proofs.YtmkojdfiadbeeaaGreat
open Go.RowKit Go.Cb Go.En Go.ChangeShapes Go.WideShapes Go.ChangeAt Tryz
set_option linter.all false
set_option maxRecDepth 100000
theorem Ex {n:Nat} {p:Nat→Bool}:Lb n p=true↔∀i,i<n→p i=true:=by
 unfold Lb;rw [Xf]
 exact ⟨fun h i hi=>h i (XJ.2 hi),fun h i hi=>h i (XJ.1 hi)⟩
theorem PQ {n:Nat} {p:Nat→Bool}:JU n p=true↔∃i,i<n∧p i=true:=by
 unfold JU;rw [XS]
 exact ⟨fun ⟨i,hi,h⟩=>⟨i,XJ.1 hi,h⟩,fun ⟨i,hi,h⟩=>⟨i,XJ.2 hi,h⟩⟩
theorem Zfj (c:Cut) (l:List ByteArray) (i:Nat):atF c l i<c.parts.length:=(Dz _ _).2
theorem Zbo {l : List ByteArray} {n:Nat} {E:Nat→Nat→Bool} {S F:Nat→Bool} {c:Cut} (hF:Z8 c=true):K3 l n E S F c=Zct l n E S F c:=by
 have hk:1≤c.kind∧c.kind≤4:=by
  unfold Z8 at hF;simp only [Xd,Uw] at hF;exact ⟨hF.1.1.1,hF.1.1.2⟩
 have hlt:=Zfj c l
 generalize hat:atF c l=A at hlt
 generalize hR:ZT n E=R
 unfold K3 Zct
 rw [hat,hR,VK]
 simp only [Xd,Uw,X9,Vy,decide_eq_false_iff_not,Ex]
 have core : (∀ i,i<n→0≤A i)→(((∀i,i<n→okA n E R S F c.kind A i=true)∧(¬c.kind=3∨∀i,i<c.parts.length→okP n S F A i=true))↔
  ((∀i,i<c.parts.length→S7 n S F c.kind A i=true)∧∀i,i<n→∀j,j<n→¬A i<A j∨Je n E R S F c.kind i j (decide (A i=0))=true)):=fun h0=>by
  have okA':∀a,okA n E R S F c.kind A a=true↔(¬(c.kind=4∧A a≠0∧(S a=true∨F a=true))∧∀b,b<n→A a=A b∨JR n E R S F c.kind A a b=true):=fun a=>by
   unfold okA;simp only [Xd,Vy,Ex,X9,Uw];rw [←X'];simp only [Xd,Uw,X9,and_assoc]
  have endOk':∀i:Nat,S7 n S F c.kind A i=true↔((c.kind=3→(∃a,a<n∧A a=i∧S a=true)∧(∃a,a<n∧A a=i∧F a=true))∧(c.kind=4→0<i→(∀a,a<n→A a=i→S a=false)∧(∀a,a<n→A a=i→F a=false))):=fun i=>by
   have hs:∀X:Nat→Bool,JU n (fun a=>decide (A a=i)&&X a)=true↔∃a,a<n∧A a=i∧X a=true:=fun X=>by
    rw [PQ];simp only [Xd,Uw]
   have hn:∀X:Nat→Bool,JU n (fun a=>decide (A a=i)&&X a)=false↔∀a,a<n→A a=i→X a=false:=fun X=>by
    rw [←X',hs];constructor
    · intro h a ha hai;rw [←X'];exact fun hx=>h ⟨a,ha,hai,hx⟩
    · rintro h ⟨a,ha,hai,hx⟩;rw [h a ha hai] at hx;cases hx
   constructor
   · intro h;refine ⟨fun h3=>⟨?_,?_⟩,fun h4 hi=>⟨?_,?_⟩⟩
     · rw [←hs];rw [←Bool.not_eq_false];intro hx;rw [TY rfl rfl (.inl ⟨h3, .inl hx⟩)] at h;cases h
     · rw [←hs];rw [←Bool.not_eq_false];intro hx;rw [TY rfl rfl (.inl ⟨h3, .inr hx⟩)] at h;cases h
     · rw [←hn];rw [←X'];intro hx;rw [TY rfl rfl (.inr ⟨h4,hi, .inl hx⟩)] at h;cases h
     · rw [←hn];rw [←X'];intro hx;rw [TY rfl rfl (.inr ⟨h4,hi, .inr hx⟩)] at h;cases h
   · rintro ⟨h1,h2⟩;exact ZaP rfl rfl (fun h3=>⟨(hs S).2 (h1 h3).1,(hs F).2 (h1 h3).2⟩) (fun h4 hi=>⟨(hn S).2 (h2 h4 hi).1,(hn F).2 (h2 h4 hi).2⟩)
  have okP':∀i:Nat,okP n S F A i=true↔(∃a,a<n∧A a=i∧S a=true)∧(∃a,a<n∧A a=i∧F a=true):=fun i=>by
   unfold okP;rw [Xd,PQ,PQ];simp only [Xd,Uw]
  simp only [okA',endOk',okP'];have hkc:c.kind=1∨c.kind=2∨c.kind=3∨c.kind=4:=oM;constructor
  · rintro ⟨h1,h2⟩;refine ⟨fun i hi=>⟨fun h3=>(h2.resolve_left (fun h=>h h3)) i hi,fun h4 h0i=>⟨fun a ha hai=>?_,fun a ha hai=>?_⟩⟩,fun i hi j hj=>?_⟩
    · rw [←X'];exact fun hx=>(h1 a ha).1 ⟨h4,oM, .inl hx⟩
    · rw [←X'];exact fun hx=>(h1 a ha).1 ⟨h4,oM, .inr hx⟩
    · by_cases hij:A i<A j
      · right
        have f1:=((h1 i hi).2 j hj).resolve_left oM;have f2:=((h1 j hj).2 i hi).resolve_left oM;unfold JR at f1 f2;unfold Je;have:=h0 i hi;rcases hkc with h|h|h|h
        · rw [UA h] at f1 f2 ⊢;rw [f1,f2];rfl
        · rw [Uz oM,UA h] at f1 f2 ⊢;rw [Uy (show ¬A j<A i by omega),Bool.false_or] at f1;exact f1
        · rw [Uz oM,Uz oM,UA h] at f1 f2 ⊢;rw [f1,f2];rfl
        · rw [Uz oM,Uz oM,Uz oM] at f1 f2 ⊢;by_cases hz:A i=0
          · rw [Uz oM,UA hz] at f1;rw [Ux hz,UA rfl];exact f1
          · rw [UA ⟨hz,oM⟩] at f1;rw [UA ⟨oM,hz⟩] at f2;rw [Uy hz,Uz sM,f1,f2];rfl
      · exact .inl hij
  · rintro ⟨h1, h2⟩;refine ⟨fun a ha=>⟨?_,fun b hb=>?_⟩,?_⟩
    · rintro ⟨h4,hz,hx⟩;have h00:=h0 a ha;have hla:=hlt a;have:=(h1 (A a).toNat oM).2 h4 oM;rcases hx with hx|hx
      · rw [this.1 a ha oM] at hx;cases hx
      · rw [this.2 a ha oM] at hx;cases hx
    · by_cases hab:A a=A b
      · exact .inl hab
      · right
        have h0a:=h0 a ha;have h0b:=h0 b hb;have g1:A a<A b→Je n E R S F c.kind a b (decide (A a=0))=true:=fun h=>(h2 a ha b hb).resolve_left (fun h'=>h' h);have g2:A b<A a→Je n E R S F c.kind b a (decide (A b=0))=true:=fun h=>(h2 b hb a ha).resolve_left (fun h'=>h' h);unfold Je at g1 g2;unfold JR;rcases hkc with h|h|h|h
        · rw [UA h] at g1 g2 ⊢;simp only [Xd] at g1 g2;rcases Uo hab with hl|hl
          · exact (g1 hl).1
          · exact (g2 hl).2
        · rw [Uz oM,UA h] at g1 g2 ⊢;rcases Uo hab with hl|hl
          · rw [g1 hl];simp
          · rw [Ux hl];rfl
        · rw [Uz oM,Uz oM,UA h] at g1 g2 ⊢;simp only [Xd] at g1 g2;rcases Uo hab with hl|hl
          · exact (g1 hl).1
          · exact (g2 hl).2
        · rw [Uz oM,Uz oM,Uz oM] at g1 g2 ⊢;by_cases hz:A a=0
          · rw [Uz oM,UA hz];have:=g1 oM;rw [Ux hz,UA rfl] at this;exact this
          · by_cases hzb:A b=0
            · rw [Uz oM,Uz hz]
            · rw [UA ⟨hz,hzb⟩];rcases Uo hab with hl|hl
              · have:=g1 hl;rw [Uy hz,Uz sM,Xd] at this;exact this.1
              · have:=g2 hl;rw [Uy hzb,Uz sM,Xd] at this;exact this.2
    · by_cases h3:c.kind=3
      · exact .inr fun i hi=>(h1 i hi).1 h3
      · exact .inl h3
 constructor
 · rintro ⟨⟨⟨h1,h2⟩,h3⟩,h4⟩;obtain ⟨h5,h6⟩:=(core h2).1 ⟨h3,h4⟩;exact ⟨⟨h2,h1,h5⟩,h6⟩
 · rintro ⟨⟨h2,h1,h5⟩,h6⟩;obtain ⟨h3,h4⟩:=(core h2).2 ⟨h5,h6⟩;exact ⟨⟨⟨h1,h2⟩,h3⟩,h4⟩
def O' (g:Dfg) (c:Cut):Bool:=WU g&&Z8 c&&Zct (cnames g.acts) g.acts.length (KR (cnames g.acts) g.follows) (Wn (cnames g.acts) g.starts) (Wn (cnames g.acts) g.ends) c
theorem Zc1 (g:Dfg) (c:Cut) (hf:Zcl g) (ha:g.acts.length≤1000000) (hst:g.starts.length≤1000000) (he:g.ends.length≤1000000) (hs:∀p∈c.parts,∀s∈p,s.size≤140737488355328) (hpl:c.parts.length≤1000000):AF prog 19 [WS g,RV c] (· =Zo (O' g c)):=by
 have hb:=HS g hf ha hst he
 unfold Ps at hb
 unfold O'
 cases hd:WU g with
 | false=>
   rw [hd] at hb;exact ZaO g c hb hs
 | true=>
   rw [hd] at hb;have hna:(cnames g.acts).length=g.acts.length:=by simp [cnames]
   have h40:=(LV hd).1
   cases hF:Z8 c with
   |false=>exact Rx g (cnames g.acts) g.acts.length _ _ _ c hb hF hs
   | true=>
     rw [←Zbo hF];exact H7 g (cnames g.acts) g.acts.length _ _ _ c hb hna oM hF hs hpl
theorem Zf6:Dec prog 9 1 (fun s:ByteArray=>[ZS s]) (fun s=>s.size≤140737488355328):=Zec underlying9 kR
theorem ZfO:Dec prog 26 1 (fun l=>[ZQ l]) DK:=
 D7 id (O8 underlying26 kR dC (Xa kR) Zf6) (fun _=>rfl) (fun l=>by show [PV.sl l.length (l.map ZS)]=_;rw [HJ]) (fun _ h=>h)
theorem Zf7:Dec prog 3 1 (fun n:Int=>[Zg n]) (fun n=> -9223372036854775808≤n∧n≤9223372036854775807):=Zeb underlying3 kR
end Go.Proofs.YtmkojdfiadbeeaaGreat
namespace Go.En
open Go.RowKit Go.Cb
open Go.ChangeMaps (setBlock)
set_option linter.all false
def itv (r:Nat):Value:= .pointer (some ⟨r,0,none⟩)
def itP (b r clock:Nat) (es:Array MapEntry) (seen:Array Nat):PV:= .oblk (itv r) r (.mapIter (some b) clock seen clock) [(b, .map es clock)]
def itE (b r clock:Nat) (es:Array MapEntry) (seen:Array Nat):Ent:=(itv r,itP b r clock es seen)
theorem Tr.blk {M:BS} {w:World} {v u:Value} {r:Nat} {ob:Obj} {sh:List (Nat×Obj)} {F:BS} (H:Tr M w v (.oblk u r ob sh) F):w.heap[r]? =some ob∧(∀p∈sh,w.heap[p.1]? =some p.2∧¬M p.1)∧∀x,F x↔x=r:=by
 cases H with
 |shr h _=>cases h
 |oblk _ h1 h hs hF=>exact ⟨h,hs,hF⟩
section
variable {P:Program} {c:Ctx} {ops:Array Oper} {Q:Exit→Act→World→Prop} {rest:List Oper} {sL hP:List (Nat×Ent)} {o:Oper}
theorem Ey {t ks e:Nat} {x:Operand} {m:Value} {kv:List (Value×Value)} (d:Nat) (ht:P.underlying t=some (.map ks e)) (k:∀(b r clock:Nat) (es:Array MapEntry),kv=kvOf es→WfM es clock→aL P c ops Q rest ⟨put d (itv r, .val (itv r)) sL,put d (itE b r clock es #[]) hP⟩)
 (hw:ZK ops sL o=some true:=by exact rfl) (hd:o.dst=some d:=by exact rfl) (hn:d<c.nt:=by exact Xa rfl) (ho:o.op= .range t x:=by exact rfl) (hx:ev sL x=some (m, .smap kv):=by exact rfl) (hl:lk hP d=none:=by exact rfl):aL P c ops Q (o::rest) (⟨sL,hP⟩:St):=
 YH hw fun a w F H=>by
  obtain ⟨hv,hS⟩:=H.rd.ev hx
  cases hS with
  | smap b es clock hM h hW=>
    have key:HoldsF c ⟨put d (itv w.heap.size, .val (itv w.heap.size)) sL,put d (itE b w.heap.size clock es #[]) hP⟩ (fun l'=>if l'=d then (fun x=>x=w.heap.size) else F l') (a.put (some d) (itv w.heap.size)) (w.alloc (.mapIter (some b) clock #[] clock)):=by
     refine H.change (fun l'=>l'=d) hn ((Ext.alloc _ _).chg) (fun l' x hne hx'=>?_) (fun l' x b' hT hx' hb=>?_) (fun hm l' u q hT hx'=>?_) (fun l1 l2 _ _ _ h1 h2 hne=>UB (h1.trans h2.symm) hne) (fun hm=> .val _)
     · rcases Z0 hx' with ⟨e1,_⟩|⟨_,e1⟩
       · exact UB e1.symm hne
       · exact ⟨e1,by simp [hne]⟩
     · subst hT;simp only [if_true] at hb;exact .inr (by rw [hb];exact Xg _)
     · subst hT;rw [ZD] at hx';unfold itE itP at hx'
       cases hx';simp only [if_true];refine .oblk w.heap.size rfl ?_ (fun p hp=>?_) (fun x=>Iff.rfl)
       · show (w.heap.push _)[w.heap.size]? =_;simp
       · rw [XR] at hp;subst hp;exact ⟨(Ext.alloc w _).block h,fun hb=>hM (hm b (Wo h) hb)⟩
    have hrun:(execOp a.eval o).run P w= .ok (.value (itv w.heap.size)) (w.alloc (.mapIter (some b) clock #[] clock)):=by
     simp [execOp,ho,hv,Instr.range,run_underlying ht,getObj,newObj,Sem.run,h,itv]
    unfold Oper.wp;rw [hrun,Oper.upon_value,hd];exact k _ _ _ _ rfl hW _ _ ⟨_,key⟩
theorem ζJ {x:Operand} {q:PV} {b r clock:Nat} {es:Array MapEntry} {seen:Array Nat} (l d:Nat) (hW:WfM es clock)
 (k0:leftOf es seen= #[]→aL P c ops Q rest ⟨put d (.tuple [.bool false].toArray, .tup [.val (.bool false)]) sL,hP⟩)
 (k1:∀e∈(leftOf es seen).toList,aL P c ops Q rest ⟨put d (.tuple [.bool true,e.key,e.val].toArray, .tup [.val (.bool true), .val e.key, .val e.val]) sL,put l (itE b r clock es (seen.push e.born)) hP⟩)
 (hw:ZK ops sL o=some true:=by exact rfl) (hd:o.dst=some d:=by exact rfl) (hn:d<c.nt:=by exact Xa rfl) (ho:o.op= .next x false:=by exact rfl) (hx:ev sL x=some (itv r,q):=by exact rfl) (hl:lk hP l=some (itE b r clock es seen):=by exact rfl):aL P c ops Q (o::rest) (⟨sL,hP⟩:St):=
 YH hw fun a w F H=>by
  have hv:=(H.rd.ev hx).1;obtain ⟨h,hs,hF⟩:=(H.tr l _ _ hl).blk;obtain ⟨hb,hMb⟩:=hs (b, .map es clock) sM;dsimp only at hb hMb;rcases run_next_at (P:=P) w o.type r b clock clock seen es clock h hb (fun x hx=>hW.1 x hx) (Xg _) with ⟨h0,hr⟩|⟨e,he,w1,hw1,hr⟩
  · have hrun:(execOp a.eval o).run P w= .ok (.value (.tuple [.bool false].toArray)) w:=by
     simp [execOp,ho,hv,itv,hr]
    unfold Oper.wp;rw [hrun,Oper.upon_value,hd];refine k0 (Array.eq_empty_of_size_eq_zero h0) _ _ ⟨F,H.put hn (.tup _ _ rfl fun i x p hx hp=>?_)⟩;match i with
    |0=>simp at hx hp;subst hx hp;exact .val _
    |i+1=>simp at hx
  · have hrun:(execOp a.eval o).run P w= .ok (.value (.tuple [.bool true,e.key,e.val].toArray)) (setBlock w1 r (.mapIter (some b) clock (seen.push e.born) clock)):=by
     simp [execOp,ho,hv,itv,hr]
    unfold Oper.wp;rw [hrun,Oper.upon_value,hd];have hlt:=Wo h;have hh:w1.heap=w.heap:=by rcases hw1 with rfl|rfl<;>rfl
    (have hbr:b≠r:=fun e=>by subst e;exact hMb (.inr ⟨l,_,hl,(hF b).2 rfl⟩));have hch:Chg (fun x=>x=r) w (setBlock w1 r (.mapIter (some b) clock (seen.push e.born) clock)):=by
     refine ⟨by rcases hw1 with rfl|rfl<;>rfl,by rcases hw1 with rfl|rfl<;>rfl,by rcases hw1 with rfl|rfl<;>rfl,?_,fun i hi hne=>?_⟩
     · show _≤(w1.heap.setIfInBounds r _).size;rw [hh];simp
     · show (w1.heap.setIfInBounds r _)[i]? =_;rw [hh,Uf (fun e=>hne e.symm)]
    refine k1 e he _ _ ⟨F,H.change (fun l'=>l'=l) hn (hch.wid fun x hx=> .inl ⟨l,_,rfl,hl,(hF x).2 hx⟩) (fun l' x hne hx'=>?_) (fun l' x b' hT' hx' hb'=>?_) (fun hmm l' u q hT' hx'=>?_) (fun l1 l2 _ _ _ h1 h2 hne=>UB (h1.trans h2.symm) hne) (fun _=> .tup _ _ rfl fun i x p hx hp=>?_) (fun _=>?_)⟩
    · rcases Z0 hx' with ⟨e1,_⟩|⟨_,e1⟩
      · exact UB e1.symm hne
      · exact ⟨e1,rfl⟩
    · subst hT';exact .inl ⟨l',_,rfl,hl,hb'⟩
    · subst hT';rw [ZD] at hx';unfold itE itP at hx'
      cases hx';refine .oblk r rfl ?_ (fun p hp=>?_) hF
      · show (w1.heap.setIfInBounds r _)[r]? =_;rw [hh];simp [hlt]
      · rw [XR] at hp;subst hp;exact ⟨(hch.block b (Wo hb) hbr).trans hb,fun hm=>hMb (hmm b (Wo hb) hm)⟩
    · match i with
      |0=>simp at hx hp;subst hx hp;exact .val _
      |1=>simp at hx hp;subst hx hp;exact .val _
      |2=>simp at hx hp;subst hx hp;exact .val _
      |i+3=>simp at hx
    · rcases hw1 with rfl|rfl
      · exact Xg _
      · exact Vs _
theorem ζK {st:St} {x:Operand} {q:PV} {b r clock:Nat} {es:Array MapEntry} {seen:Array Nat} {e:MapEntry} (l:Nat) (hW:WfM es clock) (he:e∈es.toList) (ho:o.op= .entry x:=by exact rfl) (hx:ev st.slots x=some (itv r,q):=by exact rfl) (hl:lk st.heap l=some (itE b r clock es (seen.push e.born)):=by exact rfl):YE P st o (· = .tuple [e.key,e.val].toArray) (.tup [.val e.key, .val e.val]):= .exact fun M F a w H=>by
 have hv:=(H.ev hx).1
 obtain ⟨h,hs,hF⟩:=(H.tr l _ _ hl).blk
 obtain ⟨hb,hMb⟩:=hs (b, .map es clock) sM
 have hr:=run_entry_at (P:=P) w r b clock seen es clock e h hb he hW.2
 refine ⟨.tup _ _ rfl fun i x p hx hp=>?_,by simp [execOp,ho,hv,itv,hr]⟩
 match i with
 |0=>simp at hx hp;subst hx hp;exact .val _
 |1=>simp at hx hp;subst hx hp;exact .val _
 |i+2=>simp at hx
end
theorem Ez (es:Array MapEntry):leftOf es #[]=es:=by
 unfold leftOf
 exact Array.filter_eq_self.2 fun x _=>sM
theorem PR {es:Array MapEntry} {seen:Array Nat} {e:MapEntry} (h:e∈(leftOf es seen).toList):e∈es.toList:=by
 unfold leftOf at h
 rw [Up] at h
 exact (XU.1 h).1
theorem Da {e:MapEntry}:∀{L:List MapEntry},(L.map (·.born)).Nodup→e∈L→L.Perm (e::L.filter fun x=> !(x.born==e.born))
 | a ::L,hn,he=>by
   rw [Xk,XZ] at hn;rcases Xn.1 he with rfl|he
   · rw [VA sM];rw [Uq.2 fun x hx=>?_];have:x.born≠e.born:=fun h=>hn.1 (Xm.2 ⟨x,hx,h⟩);simpa using this
   · have:a.born≠e.born:=fun h=>hn.1 (Xm.2 ⟨e,he,h.symm⟩);rw [Vz (by simpa using this)];exact ((Da hn.2 he).cons a).trans (List.Perm.swap _ _ _)
theorem SF {es:Array MapEntry} {seen:Array Nat} {e:MapEntry} {clock:Nat} (hW:WfM es clock) (he:e∈(leftOf es seen).toList):(kvOf (leftOf es seen)).Perm ((e.key,e.val)::kvOf (leftOf es (seen.push e.born))):=by
 have h1:((leftOf es seen).toList.map (·.born)).Nodup:=by
  unfold leftOf;rw [Up];exact hW.2.sublist (List.filter_sublist.map _)
 have h2:=(Da h1 he).map fun x=>(x.key,x.val)
 unfold kvOf
 refine h2.trans ?_
 rw [Xk]
 refine List.Perm.cons _ (List.Perm.of_eq ?_)
 congr 1
 unfold leftOf
 rw [Up,Up,List.filter_filter]
 refine List.filter_congr fun x _=>?_
 rw [Array.contains_push]
 cases seen.contains x.born<;>simp [Bool.beq_comm]
def ArrT (P:Program) (t len:Nat):Bool:=match P.underlying t with
 |some (.array n e)=>Nat.beq n len&&(match P.info? e with|some i=>Nat.beq i.size 1|none=>false)
 |_=>false
theorem ArrT.run {P:Program} {t len:Nat} (h:ArrT P t len=true):∃e i,P.underlying t=some (.array len e)∧P.info? e=some i∧i.size=1:=by
 unfold ArrT at h
 split at h
 · rename_i n e hu;rw [Xd] at h;obtain ⟨h1,h2⟩:=h;split at h2
   · rename_i i hi;have e1:=XH h1;subst e1;exact ⟨e,i,hu,hi,XH h2⟩
   · cases h2
 · cases h
section
variable {P:Program} {st:St} {o:Oper}
theorem Zc2 {t len j e' k' n i:Nat} {x y:Operand} {h:Value} {kd:IntKind} {p q:PV} {cs:List PV} (l:Nat) (hT:ArrT P t len=true) (ho:o.op= .indexAddr t x y:=by exact rfl) (hx:ev st.slots x=some (ZH (Zs h) j,p):=by exact rfl) (hy:ev st.slots y=some (.int kd (i:Int),q):=by exact rfl) (hl:lk st.heap l=some (h, .own e' k' n cs):=by exact rfl) (hn:0<n:=by first|omega|exact Xa rfl) (hi:i<len:=by first|omega|exact Xa rfl):YE P st o (· =ZH (Zs h) (j+i)) (.val (ZH (Zs h) (j+i))):=
 .exact fun M F a w H=>by
  have hv:=(H.ev hx).1;have hyv:=(H.ev hy).1;obtain ⟨g,cap,rfl,_⟩:=Kq (H.tr l _ _ hl) hn;obtain ⟨e,inf,hu,hinf,hs1⟩:=ArrT.run hT;refine ⟨.val _,?_⟩;simp only [Zs,ZH] at hv ⊢;simp [execOp,ho,hv,hyv,Instr.indexAt,asIntOf,run_underlying hu,Instr.sureAddr,sizeOf,typeInfo,hinf,hs1,hi,Y3]
theorem Zc3 {t:Nat} {x y:Operand} {v0 v1:Value} {p0 p1:PV} {z:Value} (hT:ArrT P t 2=true) (hz:ZeroT P t z) (ho:o.op= .build t #[(0,x),(1,y)]:=by exact rfl) (hx:ev st.slots x=some (v0,p0):=by exact rfl) (hy:ev st.slots y=some (v1,p1):=by exact rfl) (h0:v0.oneCell'=true:=by exact rfl) (h1:v1.oneCell'=true:=by exact rfl) (hzs:z.cells.size=2:=by exact rfl):YE P st o (· = .agg [v0,v1].toArray) (.agg [p0,p1]):=
 .exact fun M F a w H=>by
  obtain ⟨hv,hS0⟩:=H.ev hx;obtain ⟨hyv,hS1⟩:=H.ev hy;obtain ⟨e,inf,hu,hinf,hs1⟩:=ArrT.run hT;have c0:=Kb h0;have c1:=Kb h1;obtain ⟨a0,a1,hza⟩:∃a0 a1,z.cells= #[a0,a1]:=by
   generalize z.cells=A at hzs;obtain ⟨L⟩:=A;match L,hzs with
   |[a0,a1],_=>exact ⟨a0,a1,rfl⟩
  refine ⟨.agg _ _ rfl fun i u r hu hr=>?_,?_⟩
  · match i with
    |0=>simp at hu hr;subst hu hr;exact hS0
    |1=>simp at hu hr;subst hu hr;exact hS1
    |i+2=>simp at hu
  · simp [execOp,ho,hv,hyv,Instr.build,run_underlying hu,ZeroT.run hz,sizeOf,typeInfo,hinf,hs1,Instr.fill,c0,c1,hza]
end
abbrev Pr:=ByteArray×ByteArray
def KU (k:Pr):Value:= .agg #[.string k.1, .string k.2]
theorem Zc4 {a b:Pr} (h:KU a=KU b):a=b:=by
 simp [KU] at h
 exact Prod.ext h.1 h.2
def akv (m:List (Pr×Value)):List (Value×Value):=m.map fun x=>(KU x.1,x.2)
def prOk (k:Pr):Prop:=k.1.size≤140737488355328∧k.2.size≤140737488355328
structure PkT (P:Program) (t ks s e:Nat) (z:Value):Prop where
 ht:P.underlying t=some (.map ks e)
 hu:P.underlying ks=some (.array 2 s)
 hs:P.underlying s=some .string
 hk:P.keyType ks=true
 hk2:P.keyTypeAt 2 ks=true
 hti:P.tiled 2 ks=true
 hc2:P.cellsOf ks=2
 hc1:P.cellsOf s=1
 hf:∀a b:ByteArray,(Value.agg #[.string a, .string b]).formed P ks=true
 hsz:∃n,P.types.size=n+1
 hz:ZeroT P e z
theorem PkT.law {P:Program} {t ks s e:Nat} {z:Value} (h:PkT P t ks s e z):WideMaps.KeyLaw P ks:=deep_law (m:=2) dC h.hk2 h.hti (by rw [h.hu])
theorem PkT.key {P:Program} {t ks s e:Nat} {z:Value} (h:PkT P t ks s e z) {k:Pr} (hk:prOk k):∃l,keyOf P ks (KU k)=some l:=by
 obtain ⟨n,hn⟩:=h.hsz
 have hl:∀c:ByteArray,c.size≤140737488355328→P.keyLits (n+1) s [.string c]=some [.string c.data.toList]:=fun c hc=>by
  unfold Program.keyLits;rw [h.hs];dsimp only;rw [UA (XP hc dC)]
 unfold keyOf
 rw [h.hu]
 dsimp only
 rw [h.hk,show (KU k).formed P ks=true from h.hf _ _,hn]
 refine ⟨.string (keyBytes [.string k.1.data.toList, .string k.2.data.toList]),?_⟩
 rw [UA (show (true&&true)=true from rfl)]
 unfold Program.keyLits
 rw [h.hu]
 dsimp only [KU,Value.cells]
 rw [h.hc2,h.hc1]
 rw [UA (by rfl)]
 rw [show List.range 2=[0,1] from rfl]
 simp only [List.mapM_cons,List.mapM_nil,Vr,Nat.one_mul,Va,List.drop_succ_cons,List.take_succ_cons,V5,hl _ hk.1,hl _ hk.2]
 rfl
theorem Zbp {m:List (Pr×Value)} {k:Pr} (h:∀x∈m,x.1≠k):YT m k=none:=by
 induction m with
 |nil=>rfl
 | cons x m ih=>
   rw [YT,Uz (fun e=>h x sM e.symm)];exact ih fun y hy=>h y (by simp [hy])
theorem Zbq {m:List (Pr×Value)} (hn:(m.map (·.1)).Nodup) {j:Nat} {k:Pr} {v:Value} (h:m[j]? =some (k,v)):YT m k=some v:=by
 induction m generalizing j with
 |nil=>simp at h
 | cons x m ih=>
   rw [Xk,XZ] at hn
   cases j with
   |zero=>simp at h;subst h;rw [YT,UA rfl]
   | succ j=>
     rw [XO] at h;rw [YT,Uz (fun e=>hn.1 (Xm.2 ⟨_,Xb h,e⟩))];exact ih hn.2 h
theorem Zc5 {m:List (Pr×Value)} {k:Pr} {v:Value} (h:YT m k=none):Wr m k v=m++[(k,v)]:=by
 induction m with
 |nil=>rfl
 | cons x m ih=>
   rw [YT] at h;split at h
   · cases h
   · rename_i hne;rw [Wr,Uz hne,X2,ih h]
theorem ζL {m:List (Pr×Value)} (hn:(m.map (·.1)).Nodup) {j:Nat} {k:Pr} {u v:Value} (h:m[j]? =some (k,u)):Wr m k v=m.set j (k,v):=by
 induction m generalizing j with
 |nil=>simp at h
 | cons x m ih=>
   rw [Xk,XZ] at hn
   cases j with
   |zero=>simp at h;subst h;rw [Wr,UA rfl];rfl
   | succ j=>
     rw [XO] at h;rw [Wr,Uz (fun e=>hn.1 (Xm.2 ⟨_,Xb h,e⟩)),Un,ih hn.2 h]
theorem Db {m:List (Pr×Value)} {k:Pr} {v:Value}:∀x,x∈(Wr m k v).map (·.1)↔x=k∨x∈m.map (·.1):=by
 induction m with
 |nil=>intro x;simp [Wr]
 | cons y m ih=>
   intro x;rw [Wr];split
   · rename_i e;subst e;simp
   · rw [Xk,Xn,ih,Xk,Xn];constructor
     · rintro (h|h|h)
       · exact .inr (.inl h)
       · exact .inl h
       · exact .inr (.inr h)
     · rintro (h|h|h)
       · exact .inr (.inl h)
       · exact .inl h
       · exact .inr (.inr h)
theorem Tw {m:List (Pr×Value)} {k:Pr} {v:Value} (hn:(m.map (·.1)).Nodup):((Wr m k v).map (·.1)).Nodup:=by
 induction m with
 |nil=>simp [Wr]
 | cons y m ih=>
   rw [Wr];rw [Xk,XZ] at hn;split
   · rename_i e;rw [Xk,XZ];dsimp only;rw [e];exact hn
   · rename_i e;rw [Xk,XZ];refine ⟨fun h=>?_,ih hn.2⟩;rcases (Db _).1 h with h|h
     · exact e h.symm
     · exact hn.1 h
theorem Dc {m:List (Pr×Value)} {k:Pr} {v:Value}:YT (Wr m k v) k=some v:=by
 induction m with
 |nil=>rw [Wr,YT,UA rfl]
 | cons y m ih=>
   rw [Wr];split
   · rw [YT,UA rfl]
   · rename_i e;rw [YT,Uz e];exact ih
theorem Zbr {m:List (Pr×Value)} {k:Pr} {u v:Value}:Wr (Wr m k u) k v=Wr m k v:=by
 induction m with
 |nil=>show Wr [(k,u)] k v=[(k,v)];rw [Wr,UA rfl]
 | cons y m ih=>
   rw [Wr];split
   · rename_i e;rw [Wr,UA rfl,Wr,UA e]
   · rename_i e;rw [Wr,Uz e,ih,Wr,Uz e]
theorem CL {es:Array MapEntry} {m:List (Pr×Value)} (h:kvOf es=akv m) {j:Nat} {e:MapEntry} {k:Pr} (he:es[j]? =some e) (hk:e.key=KU k):m[j]? =some (k,e.val):=by
 have h1:(kvOf es)[j]? =some (KU k,e.val):=by
  unfold kvOf;rw [Xl,VM,he,←hk];rfl
 rw [h] at h1
 unfold akv at h1
 rw [Xl,XQ] at h1
 obtain ⟨⟨k',v'⟩,h2,h3⟩:=h1
 obtain ⟨h4,h5⟩:=Prod.mk.inj h3
 dsimp only at h4 h5
 rw [h2,Zc4 h4,h5]
theorem Zc6 {es:Array MapEntry} {m:List (Pr×Value)} (h:kvOf es=akv m):∀e∈es.toList,∃x∈m,e.key=KU x.1:=fun e he=>by
 have h1:(e.key,e.val)∈kvOf es:=Xm.2 ⟨e,he,rfl⟩
 rw [h] at h1
 obtain ⟨x,hx,hxe⟩:=Xm.1 h1
 exact ⟨x,hx,(Prod.mk.inj hxe).1.symm⟩
theorem ζM {P:Program} {t ks s e:Nat} {z:Value} (hT:PkT P t ks s e z) {es:Array MapEntry} {m:List (Pr×Value)} (h:kvOf es=akv m) (hm:∀x∈m,prOk x.1) (hn:(m.map (·.1)).Nodup) {k:Pr} (hk:prOk k) (w:World):
 (YT m k=none∧(Instr.findKey ks (KU k) es.toList).run P w= .ok none w)∨∃(j:Nat) (e0:MapEntry),es[j]? =some e0∧e0.key=KU k∧YT m k=some e0.val∧(Instr.findKey ks (KU k) es.toList).run P w= .ok (some (j,e0.val)) w:=by
 obtain ⟨l,hl⟩:=hT.key hk
 have hall:∀e∈es.toList,∃l,keyOf P ks e.key=some l:=fun e he=>by
  obtain ⟨x,hx,hxe⟩:=Zc6 h e he;rw [hxe];exact hT.key (hm x hx)
 rcases hT.law.find w hl es.toList hall with ⟨h1,h2⟩|⟨j,e0,h1,h2,h3⟩
 · refine .inl ⟨Zbp fun x hx e=>?_,h1⟩;obtain ⟨i,hi⟩:=XF hx;have h4:(kvOf es)[i]? =some (KU x.1,x.2):=by rw [h];unfold akv;rw [Xl,hi];rfl
   unfold kvOf at h4;rw [Xl,XQ] at h4;obtain ⟨e0,h5,h6⟩:=h4;exact h2 e0 (Xb h5) (by rw [(Prod.mk.inj h6).1,e])
 · have h4:es[j]? =some e0:=by rw [←VM];exact h2
   exact .inr ⟨j,e0,h4,h3,Zbq hn (CL h h4 h3),h1⟩
section
variable {P:Program} {c:Ctx} {ops:Array Oper} {Q:Exit→Act→World→Prop} {rest:List Oper} {sL hP:List (Nat×Ent)} {o:Oper}
theorem ζN {t ks s e:Nat} {z:Value} (hT:PkT P t ks s e z) {b clock:Nat} {es:Array MapEntry} {m:List (Pr×Value)} (h:kvOf es=akv m) (hm:∀x∈m,prOk x.1) (hn:(m.map (·.1)).Nodup) {k:Pr} (hk:prOk k) {w:World} (hb:w.heap[b]? =some (.map es clock)):(Instr.lookup t (.map (some b)) (KU k) false).run P w= .ok ((YT m k).getD z) w:=by
 obtain ⟨l,hl⟩:=hT.key hk
 have hck:=fun em=>hT.law.check w em hl
 unfold Instr.lookup
 simp only [Sem.run_bind,run_underlying hT.ht,Result.andThen_ok,getObj,Sem.run,hb,hck]
 rcases ζM hT h hm hn hk w with ⟨h1,h2⟩|⟨j,e0,h3,h4,h1,h2⟩
 · simp [h1,h2,hck,ZeroT.run hT.hz]
 · simp [h1,h2,hck]
theorem ζO {st:St} {t ks s e:Nat} {z u:Value} {x y:Operand} {mv:Value} {m:List (Pr×Value)} {k:Pr} {p q:PV} (l:Nat) (hT:PkT P t ks s e z) (hm:∀x∈m,prOk x.1) (hn:(m.map (·.1)).Nodup) (hk:prOk k) (hu:(YT m k).getD z=u) (ho:o.op= .lookup t x y false:=by exact rfl) (hx:ev st.slots x=some (mv,p):=by exact rfl) (hl:lk st.heap l=some (mv, .omap (akv m)):=by exact rfl) (hy:ev st.slots y=some (KU k,q):=by exact rfl):YE P st o (· =u) (.val u):= .exact fun M F a w H=>by
 subst hu
 have hv:=(H.ev hx).1
 have hkv:=(H.ev hy).1
 obtain ⟨b,es,clock,rfl,he,h,_⟩:=(H.tr l _ _ hl).map
 exact ⟨.val _,by simp [execOp,ho,hv,hkv,ζN hT he.symm hm hn hk h]⟩
theorem EA {st:St} {t ks s e b clock:Nat} {es:Array MapEntry} {z u:Value} {x y:Operand} {m:List (Pr×Value)} {k:Pr} {p q:PV} (l:Nat) (hT:PkT P t ks s e z) (he:kvOf es=akv m) (hm:∀x∈m,prOk x.1) (hn:(m.map (·.1)).Nodup) (hk:prOk k) (hu:(YT m k).getD z=u) (ho:o.op= .lookup t x y false:=by exact rfl) (hx:ev st.slots x=some (.map (some b),p):=by exact rfl) (hl:lk st.heap l=some (.map (some b), .oblk (.map (some b)) b (.map es clock) []):=by exact rfl) (hy:ev st.slots y=some (KU k,q):=by exact rfl):YE P st o (· =u) (.val u):= .exact fun M F a w H=>by
 subst hu
 have hv:=(H.ev hx).1
 have hkv:=(H.ev hy).1
 obtain ⟨h,_,_⟩:=(H.tr l _ _ hl).blk
 exact ⟨.val _,by simp [execOp,ho,hv,hkv,ζN hT he hm hn hk h]⟩
theorem EB {es:Array MapEntry} {j:Nat} {e0:MapEntry} {f:MapEntry→MapEntry} (h:es[j]? =some e0) (hf:f e0=e0):es.modify j f=es:=by
 apply Array.ext'
 rw [Ud]
 rw [←VM] at h
 have key:∀(l:List MapEntry) (j:Nat),l[j]? =some e0→l.modify j f=l:=fun l=>by
  induction l with
  |nil=>intro j h;simp
  | cons a l ih=>
    intro j h
    cases j with
    |zero=>simp at h;subst h;simp [hf]
    |succ j=>rw [XO] at h;rw [Ue,ih j h]
 exact key _ _ h
theorem Zbs {es:Array MapEntry} {m:List (Pr×Value)} {j:Nat} {e0:MapEntry} {k:Pr} {v:Value} (he:kvOf es=akv m) (hn:(m.map (·.1)).Nodup) (h:es[j]? =some e0) (hk:e0.key=KU k):kvOf (es.modify j fun e=>{e with val:=v})=akv (Wr m k v):=by
 rw [ζL hn (CL he h hk)]
 have h1:kvOf (es.modify j fun e=>{e with val:=v})=(kvOf es).set j (KU k,v):=by
  unfold kvOf;rw [Ud];rw [←VM] at h;have key:∀(l:List MapEntry) (j:Nat),l[j]? =some e0→(l.modify j fun e=>{e with val:=v}).map (fun x=>(x.key,x.val))=(l.map fun x=>(x.key,x.val)).set j (KU k,v):=fun l=>by
   induction l with
   |nil=>intro j h;simp at h
   | cons a l ih=>
     intro j h
     cases j with
     |zero=>simp at h;subst h;simp [hk]
     |succ j=>rw [XO] at h;rw [Ue,Xk,ih j h,Xk,Un]
  exact key _ _ h
 rw [h1,he]
 unfold akv
 rw [List.map_set]
theorem Zbt {es:Array MapEntry} {j:Nat} {e0:MapEntry} (hn:(es.toList.map (·.born)).Nodup) (h:es[j]? =some e0):es.findIdx? (fun e=>(e.born:Int)==(e0.born:Int))=some j:=by
 rw [←VM] at h
 obtain ⟨L⟩:=es
 rw [List.findIdx?_toArray]
 have key:∀(l:List MapEntry) (j:Nat),(l.map (·.born)).Nodup→l[j]? =some e0→l.findIdx? (fun e=>(e.born:Int)==(e0.born:Int))=some j:=fun l=>by
  induction l with
  |nil=>intro j _ h;simp at h
  | cons a l ih=>
    intro j hn h;rw [Xk,XZ] at hn
    cases j with
    |zero=>simp at h;subst h;simp [List.findIdx?_cons]
    | succ j=>
      rw [XO] at h;have hne:a.born≠e0.born:=fun e=>hn.1 (Xm.2 ⟨e0,Xb h,e.symm⟩);have hf:((a.born:Int)==(e0.born:Int))=false:=beq_eq_false_iff_ne.2 fun e=>hne (by exact_mod_cast e);rw [List.findIdx?_cons,hf];simp [ih j hn.2 h]
 exact key _ _ hn h
theorem PS {t ks s e:Nat} {z:Value} {x y:Operand} {mv:Value} {m:List (Pr×Value)} {k:Pr} {p q:PV} (l d:Nat) (hT:PkT P t ks s e z) (hm:∀x∈m,prOk x.1) (hn:(m.map (·.1)).Nodup) (hk:prOk k)
 (kk:∀(b clock born:Nat) (es:Array MapEntry),mv= .map (some b)→WfM es clock→kvOf es=akv (Wr m k ((YT m k).getD z))→(∃(j:Nat) (e0:MapEntry),es[j]? =some e0∧e0.key=KU k∧e0.born=born)→aL P c ops Q rest ⟨put d (.tuple [(YT m k).getD z, .int .i64 born].toArray, .tup [.val ((YT m k).getD z), .val (.int .i64 born)]) sL,put l (mv, .oblk mv b (.map es clock) []) hP⟩)
 (hw:ZK ops sL o=some true:=by exact rfl) (hd:o.dst=some d:=by exact rfl) (hdn:d<c.nt:=by exact Xa rfl) (ho:o.op= .mapEntry t x y:=by exact rfl) (hx:ev sL x=some (mv,p):=by exact rfl) (hl:lk hP l=some (mv, .omap (akv m)):=by exact rfl) (hy:ev sL y=some (KU k,q):=by exact rfl):aL P c ops Q (o::rest) (⟨sL,hP⟩:St):=
 YH hw fun a w F H=>by
  have hxv:=(H.rd.ev hx).1;have hyv:=(H.rd.ev hy).1;obtain ⟨b,es,clock,rfl,he,hb,hFb,hWf⟩:=(H.tr l _ _ hl).mapW;obtain ⟨lt',hlt'⟩:=hT.key hk;have hck:=hT.law.check w false hlt';have hst:=hT.law.stays w hlt';have hblt:=Wo hb;have main:∀(es':Array MapEntry) (clock' born:Nat),WfM es' clock'→kvOf es'=akv (Wr m k ((YT m k).getD z))→(∃(j:Nat) (e0:MapEntry),es'[j]? =some e0∧e0.key=KU k∧e0.born=born)→wpList P ops Q rest (a.put (some d) (.tuple [(YT m k).getD z, .int .i64 born].toArray)) {w with heap:=w.heap.setIfInBounds b (.map es' clock')}:=fun es' clock' born hW' he' hj=>by
   have hch:Chg (fun x=>x=b) w {w with heap:=w.heap.setIfInBounds b (.map es' clock')}:=⟨rfl,rfl,rfl,sM,fun i hi hne=>by
    rw [Uf (fun e=>hne e.symm)]⟩
   refine kk b clock' born es' rfl hW' he' hj _ _ ⟨F,H.change (fun l'=>l'=l) hdn (hch.wid fun x hx=> .inl ⟨l,_,rfl,hl,(hFb x).2 hx⟩) (fun l' x hne hx'=>?_) (fun l' x b' hT' hx' hb'=>?_) (fun hmm l' u q hT' hx'=>?_) (fun l1 l2 _ _ _ h1 h2 hne=>UB (h1.trans h2.symm) hne) (fun _=> .tup _ _ rfl fun i x p hx hp=>?_)⟩
   · rcases Z0 hx' with ⟨e1,_⟩|⟨_,e1⟩
     · exact UB e1.symm hne
     · exact ⟨e1,rfl⟩
   · subst hT';exact .inl ⟨l',_,rfl,hl,hb'⟩
   · subst hT';rw [ZD] at hx'
     cases hx';exact .oblk b rfl (by simp [hblt]) (fun p hp=>by simp at hp) hFb
   · match i with
     |0=>simp at hx hp;subst hx hp;exact .val _
     |1=>simp at hx hp;subst hx hp;exact .val _
     |i+2=>simp at hx
  rcases ζM hT he.symm hm hn hk w with ⟨h1,h2⟩|⟨j,e0,h3,h4,h1,h2⟩
  · have hrun:(execOp a.eval o).run P w= .ok (.value (.tuple [(YT m k).getD z, .int .i64 clock].toArray)) {w with heap:=w.heap.setIfInBounds b (.map (es.push {key:=KU k,val:=z,born:=clock}) (clock+1))}:=by
     simp [execOp,ho,hxv,hyv,Instr.mapEntry,run_underlying hT.ht,getObj,setObj,Sem.run,hb,hck,h1,h2,ZeroT.run hT.hz,goInt]
    unfold Oper.wp;rw [hrun,Oper.upon_value,hd];refine main _ _ _ (ζb hWf) ?_ ⟨es.size,{key:=KU k,val:=z,born:=clock},sM,rfl,rfl⟩;rw [h1,Option.getD_none,Zc5 h1];unfold akv at he ⊢;rw [X1,he];simp [kvOf]
  · have hmod:es.modify j (fun e=>{e with key:=KU k})=es:=EB h3 (by rw [←h4]);have hrun:(execOp a.eval o).run P w= .ok (.value (.tuple [(YT m k).getD z, .int .i64 e0.born].toArray)) {w with heap:=w.heap.setIfInBounds b (.map es clock)}:=by
     simp [execOp,ho,hxv,hyv,Instr.mapEntry,run_underlying hT.ht,getObj,setObj,Sem.run,hb,hck,h1,h2,h3,h4,hst,hmod,goInt]
    unfold Oper.wp;rw [hrun,Oper.upon_value,hd];refine main _ _ _ hWf ?_ ⟨j,e0,h3,h4,rfl⟩;have h5:=CL he.symm h3 h4;obtain ⟨hj5,hje⟩:=Xh.1 h5;rw [h1,V3,ζL hn h5,←hje,List.set_getElem_self,he]
theorem CM {t b clock born:Nat} {es:Array MapEntry} {x y u:Operand} {m:List (Pr×Value)} {k:Pr} {v:Value} {p q r:PV} (l:Nat) (hW:WfM es clock) (he:kvOf es=akv m) (hn:(m.map (·.1)).Nodup) (hj:∃(j:Nat) (e0:MapEntry),es[j]? =some e0∧e0.key=KU k∧e0.born=born)
 (kk:aL P c ops Q rest ⟨sL,put l (.map (some b), .omap (akv (Wr m k v))) hP⟩)
 (hw:ZK ops sL o=some true:=by exact rfl) (hd:o.dst=none:=by exact rfl) (ho:o.op= .entryStore t x y u:=by exact rfl) (hx:ev sL x=some (.map (some b),p):=by exact rfl) (hl:lk hP l=some (.map (some b), .oblk (.map (some b)) b (.map es clock) []):=by exact rfl) (hy:ev sL y=some (.int .i64 born,q):=by exact rfl) (hu:ev sL u=some (v,r):=by exact rfl):aL P c ops Q (o::rest) (⟨sL,hP⟩:St):=
 YH hw fun a w F H=>by
  have hxv:=(H.rd.ev hx).1;have hyv:=(H.rd.ev hy).1;have huv:=(H.rd.ev hu).1;obtain ⟨hb,_,hFb⟩:=(H.tr l _ _ hl).blk;have hblt:=Wo hb;obtain ⟨j,e0,h3,h4,rfl⟩:=hj;have hfi:=Zbt hW.2 h3;have hkv:=Zbs (v:=v) he hn h3 h4;have hch:Chg (fun x=>x=b) w {w with heap:=w.heap.setIfInBounds b (.map (es.modify j fun e=>{e with val:=v}) clock)}:=⟨rfl,rfl,rfl,sM,fun i hi hne=>by
   rw [Uf (fun e=>hne e.symm)]⟩
  have key:HoldsF c ⟨sL,put l (.map (some b), .omap (akv (Wr m k v))) hP⟩ F a {w with heap:=w.heap.setIfInBounds b (.map (es.modify j fun e=>{e with val:=v}) clock)}:=by
   refine H.change0 (fun l'=>l'=l) (hch.wid fun x hx=> .inl ⟨l,_,rfl,hl,(hFb x).2 hx⟩) (fun l' x hne hx'=>?_) (fun l' x b' hT' hx' hb'=>?_) (fun hmm l' u q hT' hx'=>?_) (fun l1 l2 _ _ _ h1 h2 hne=>UB (h1.trans h2.symm) hne)
   · rcases Z0 hx' with ⟨e1,_⟩|⟨_,e1⟩
     · exact UB e1.symm hne
     · exact ⟨e1,rfl⟩
   · subst hT';exact .inl ⟨l',_,rfl,hl,hb'⟩
   · subst hT';rw [ZD] at hx'
     cases hx';rw [←hkv];exact .omap b _ clock (by simp [hblt]) hFb (OF _ (fun _=>rfl) hW)
  unfold Oper.wp execOp;simp [ho,hxv,hyv,huv,Instr.entryStore,getObj,setObj,Sem.run,hb,hfi,asInt,asIntOf,Oper.upon,hd,Act.put];exact kk _ _ ⟨F,key⟩
end
section
variable {P:Program} {c:Ctx} {ops:Array Oper} {Q:Exit→Act→World→Prop} {rest:List Oper} {sL hP:List (Nat×Ent)} {o:Oper}
theorem Zc7 {fn:Func} {R:PV→Prop} {t e k:Nat} {h:Value} {q:PV} {cs:List PV} (l:Nat) (hr:fn.results= #[.tmp t]) (ht:lk sL t=some (ZH (Zs h) 0,q)) (hl:lk hP l=some (h, .own e k 1 cs)) (hR:R (.obox e k cs)) (hN:∀b,¬c.N0 b:=by intro _ h;exact h) (hdf:c.df=[]:=by exact rfl):aR c (bodyPost P fn (JI c R)) (⟨sL,hP⟩:St):=fun a w ⟨F,H⟩=>by
 obtain ⟨h1,h2⟩:=H.sl t _ q ht
 have hT:=H.tr l _ _ hl
 obtain ⟨g,cap,rfl,_⟩:=Kq hT X3
 refine ⟨H.df.trans hdf,ZH (Zs (.slice (some ⟨g,0,none⟩) 1 cap)) 0,?_,_, .obox e k cs,F l,rfl,hR,H.ext.ext (fun b _=>hN b),(Tr.obox g cap hT).anti fun b _ hb=>?_,fun b hb=>(H.lo l _ b hl hb).resolve_right (hN b),H.dw⟩
 · simp [results,hr,Vk,h1]
 · rcases hb with hb|hb
   · exact .inl hb
   · exact .inr ⟨l,_,hl,hb⟩
theorem Zed {l e k:Nat} {v:Value} {cs:List PV} (hl:lk hP l=some (v, .obox e k cs)):Ge (⟨sL,hP⟩:St) (fun h:{h:Value//v=ZH (Zs h) 0}=>⟨sL,put l (h.1, .own e k 1 cs) hP⟩):=fun c a w ⟨F,H⟩=>by
 have hT:=H.tr l _ _ hl
 cases hT with
 |shr h _=>cases h
 | obox g cap h=>
   refine ⟨⟨.slice (some ⟨g,0,none⟩) 1 cap,rfl⟩,F,?_⟩;refine H.retell (fun x=>x=l) (fun x y hnT hx=>?_) (fun x y b hTx hx hb'=>?_) (fun hmm x u q hTx hx=>?_) (fun x1 x2 y1 y2 b h1 h2 hne'=>UB (h1.trans h2.symm) hne')
   · have n1:x≠l:=hnT;rw [ZU (Ne.symm n1)] at hx;exact ⟨hx,rfl⟩
   · subst hTx;exact ⟨x,_,rfl,hl,hb'⟩
   · subst hTx;rw [ZD] at hx
     cases hx;exact h.anti hmm
end
end Go.En
namespace Go.Proofs.YtmkojdfiadbeeaaGreat
open Go.RowKit Go.Cb Go.En Tryz
set_option linter.all false
section
variable {κ:Type} [DecidableEq κ]
def iget:List (κ×Int)→κ→Int
 |[],_=>0
 |x::l,k=>if k=x.1 then x.2 else iget l k
def Jh:List (κ×Int)→κ→Int→List (κ×Int)
 |[],k,v=>[(k,v)]
 |x::l,k,v=>if k=x.1 then (k,v)::l else x::Jh l k v
def KB (m:List (κ×Int)) (k:κ) (n:Int):List (κ×Int):=Jh m k (iget m k+n)
def Wa (m:List (κ×Int)):List (κ×Value):=m.map fun x=>(x.1, .int .i64 x.2)
theorem PT (m:List (κ×Int)) (k:κ):(YT (Wa m) k).getD (.int .i64 0)= .int .i64 (iget m k):=by
 induction m with
 |nil=>rfl
 | cons x m ih=>
   show (YT ((x.1,Value.int .i64 x.2)::Wa m) k).getD _=_;rw [YT,iget];split
   · rfl
   · exact ih
theorem PU (m:List (κ×Int)) (k:κ) (v:Int):Wr (Wa m) k (.int .i64 v)=Wa (Jh m k v):=by
 induction m with
 |nil=>rfl
 | cons x m ih=>
   show Wr ((x.1,Value.int .i64 x.2)::Wa m) k _=_;rw [Wr,Jh];split
   · rfl
   · rw [ih];rfl
theorem Dd {m:List (κ×Int)} {k:κ} {v:Int}:∀x,x∈(Jh m k v).map (·.1)↔x=k∨x∈m.map (·.1):=by
 induction m with
 |nil=>intro x;simp [Jh]
 | cons y m ih=>
   intro x;rw [Jh];split
   · rename_i e;subst e;simp
   · rw [Xk,Xn,ih,Xk,Xn];constructor
     · rintro (h|h|h)
       · exact .inr (.inl h)
       · exact .inl h
       · exact .inr (.inr h)
     · rintro (h|h|h)
       · exact .inr (.inl h)
       · exact .inl h
       · exact .inr (.inr h)
theorem CN {m:List (κ×Int)} {k:κ} {v:Int} (hn:(m.map (·.1)).Nodup):((Jh m k v).map (·.1)).Nodup:=by
 induction m with
 |nil=>simp [Jh]
 | cons y m ih=>
   rw [Jh];rw [Xk,XZ] at hn;split
   · rename_i e;rw [Xk,XZ];dsimp only;rw [e];exact hn
   · rename_i e;rw [Xk,XZ];refine ⟨fun h=>?_,ih hn.2⟩;rcases (Dd _).1 h with h|h
     · exact e h.symm
     · exact hn.1 h
theorem Zc8 (m:List (κ×Int)) (k:κ) (v:Int):(Jh m k v).length≤m.length+1:=by
 induction m with
 |nil=>simp [Jh]
 |cons y m ih=>rw [Jh];split<;>simp<;>omega
end
def mkC (x:ByteArray×Int):Cnt:=⟨x.1,x.2⟩
def mkF (x:Pr×Int):Flw:=⟨x.1.1,x.1.2,x.2⟩
def Zfk:Value×Value→Cnt
 |(.string s, .int _ n)=>⟨s,n⟩
 |_=>⟨ByteArray.empty,0⟩
theorem Zee (m:List (ByteArray×Int)):(skv (Wa m)).map Zfk=m.map mkC:=by
 unfold skv Wa
 rw [Xs,Xs]
 rfl
theorem Zef {m:List (ByteArray×Int)} {x:Value×Value} (h:x∈skv (Wa m)):∃s n,(s,n)∈m∧x.1= .string s∧x.2= .int .i64 n:=by
 unfold skv Wa at h
 rw [Xs] at h
 obtain ⟨y,hy,rfl⟩:=Xm.1 h
 exact ⟨y.1,y.2,hy,rfl,rfl⟩
def Zfl:Value×Value→Flw
 |(.agg ⟨[.string a, .string b]⟩, .int _ n)=>⟨a,b,n⟩
 |_=>⟨ByteArray.empty,ByteArray.empty,0⟩
theorem Zeg (m:List (Pr×Int)):(akv (Wa m)).map Zfl=m.map mkF:=by
 unfold akv Wa
 rw [Xs,Xs]
 rfl
theorem Zeh {m:List (Pr×Int)} {x:Value×Value} (h:x∈akv (Wa m)):∃k n,(k,n)∈m∧x.1=KU k∧x.2= .int .i64 n:=by
 unfold akv Wa at h
 rw [Xs] at h
 obtain ⟨y,hy,rfl⟩:=Xm.1 h
 exact ⟨y.1,y.2,hy,rfl,rfl⟩
def SameC (L:List Cnt) (m:List (ByteArray×Int)):Prop:=L.Perm (m.map mkC)∧L.Pairwise fun a b=>strLt a.name b.name=true
def SameF (L:List Flw) (m:List (Pr×Int)):Prop:=L.Perm (m.map mkF)∧L.Pairwise fun a b=>Wk a b<0
theorem EC {L rows:List Cnt} {m:List (ByteArray×Int)} (hn:(m.map (·.1)).Nodup) (hp:L.Perm (m.map mkC)) (hr:rows.Perm L) (ho:∀(i j:Nat) (a b:Cnt),i<j→rows[i]? =some a→rows[j]? =some b→¬Ya b.name a.name<0):SameC rows m:=by
 refine ⟨hr.trans hp,?_⟩
 have h1:(rows.map (·.name)).Nodup:=by
  have h2:=((hr.trans hp).map (·.name));rw [Xs] at h2;exact (h2.pairwise_iff (R:=(· ≠ ·)) fun h=>Ne.symm h).2 hn
 rw [List.nodup_iff_pairwise_ne,Vd] at h1
 rw [XX] at h1 ⊢
 intro i j hi hj hij
 have h3:=h1 i j hi hj hij
 have h4:=ho i j _ _ hij (Xx hi) (Xx hj)
 rw [K0] at h4
 cases h5:strLt rows[i].name rows[j].name with
 |true=>rfl
 |false=>exact UB (KF h5 (by simpa using h4)) h3
theorem Re {a b:Flw}:Wk a b=0↔a.src=b.src∧a.dst=b.dst:=by
 unfold Wk
 by_cases h:Ya a.src b.src=0
 · rw [UA h,Wc];exact ⟨fun h2=>⟨Wc.1 h,h2⟩,fun h2=>h2.2⟩
 · rw [Uz h];exact ⟨fun h2=>UB h2 h,fun h2=>UB (Wc.2 h2.1) h⟩
theorem G4 {a b:Flw}:Wk a b<0↔strLt a.src b.src=true∨(a.src=b.src∧strLt a.dst b.dst=true):=by
 unfold Wk
 by_cases h:Ya a.src b.src=0
 · rw [UA h,K0];have h1:=Wc.1 h;constructor
   · exact fun h2=> .inr ⟨h1,h2⟩
   · rintro (h2|h2)
     · rw [h1,Wt] at h2;exact UB h2 dC
     · exact h2.2
 · rw [Uz h,K0];constructor
   · exact fun h2=> .inl h2
   · rintro (h2|h2)
     · exact h2
     · exact UB (Wc.2 h2.1) h
theorem Jr {a b:Flw} (h:¬Wk b a<0) (hne:¬(a.src=b.src∧a.dst=b.dst)):Wk a b<0:=by
 rw [G4] at h ⊢
 cases h1:strLt a.src b.src with
 |true=>exact .inl rfl
 | false=>
   have h2:strLt b.src a.src=false:=by
    cases h3:strLt b.src a.src with
    |false=>rfl
    |true=>exact UB (.inl h3) h
   have h4:=KF h1 h2;refine .inr ⟨h4,?_⟩
   cases h5:strLt a.dst b.dst with
   |true=>rfl
   | false=>
     have h6:strLt b.dst a.dst=false:=by
      cases h7:strLt b.dst a.dst with
      |false=>rfl
      |true=>exact UB (.inr ⟨h4.symm,h7⟩) h
     exact UB ⟨h4,KF h5 h6⟩ hne
theorem KT {a b c:Flw} (h:Wk a b<0) (k:Wk b c<0):Wk a c<0:=by
 rw [G4] at h k ⊢
 rcases h with h|⟨h1,h2⟩
 · rcases k with k|⟨k1,k2⟩
   · exact .inl (Wu h k)
   · exact .inl (k1▸h)
 · rcases k with k|⟨k1,k2⟩
   · exact .inl (h1▸k)
   · exact .inr ⟨h1.trans k1,Wu h2 k2⟩
theorem Jb (a:Flw):¬Wk a a<0:=by rw [Re.2 ⟨rfl,rfl⟩];decide
theorem Zbu {a b c:Flw} (h:¬Wk a b<0) (k:¬Wk b c<0):¬Wk a c<0:=fun hc=>by
 by_cases e1:b.src=a.src∧b.dst=a.dst
 · refine k ?_;rw [G4] at hc ⊢;rw [e1.1,e1.2];exact hc
 · by_cases e2:c.src=b.src∧c.dst=b.dst
   · refine h ?_;rw [G4] at hc ⊢;rw [←e2.1,←e2.2];exact hc
   · have h1:=Jr h e1;have h2:=Jr k e2;exact Jb _ (KT hc (KT h2 h1))
theorem ED {L rows:List Flw} {m:List (Pr×Int)} (hn:(m.map (·.1)).Nodup) (hp:L.Perm (m.map mkF)) (hr:rows.Perm L) (ho:∀(i j:Nat) (a b:Flw),i<j→rows[i]? =some a→rows[j]? =some b→¬Wk b a<0):SameF rows m:=by
 refine ⟨hr.trans hp,?_⟩
 have h1:(rows.map fun f=>((f.src,f.dst):Pr)).Nodup:=by
  have h2:=((hr.trans hp).map fun f=>((f.src,f.dst):Pr));rw [Xs] at h2;exact (h2.pairwise_iff (R:=(· ≠ ·)) fun h=>Ne.symm h).2 hn
 rw [List.nodup_iff_pairwise_ne,Vd] at h1
 rw [XX] at h1 ⊢
 intro i j hi hj hij
 have h3:=h1 i j hi hj hij
 have h4:=ho i j _ _ hij (Xx hi) (Xx hj)
 exact Jr h4 fun e=>h3 (Prod.ext e.1 e.2)
theorem Zbv {a b c:ByteArray} (h:Ya a b<0) (k:Ya b c<0):Ya a c<0:=by
 rw [K0] at h k ⊢;exact Wu h k
theorem CO (a:ByteArray):¬Ya a a<0:=by rw [Wc.2 rfl];decide
theorem Zbw {a b c:ByteArray} (h:¬Ya a b<0) (k:¬Ya b c<0):¬Ya a c<0:=fun hc=>by
 rw [K0] at h k hc
 by_cases e:strLt b a=true
 · exact k (Wu e hc)
 · have h1:a=b:=KF (by simpa using h) (by simpa using e);rw [h1] at hc;exact k hc
end Go.Proofs.YtmkojdfiadbeeaaGreat
namespace Go.En
open Go.RowKit Go.Cb
theorem AFg.exact2 {P:Program} {g:Nat} {p q:PV} {x:Value} (h:AFg P g [p,q] (· = .val x)) {M:BS} {W:World} {u v:Value} (hu:Shr M W u p) (hv:Shr M W v q):
 Calls P g #[u,v] W fun e w'=>e= .returned x∧∃q os',w'=Go.Sort.grow (W.drewN q) os':=h.exact (vs:=[u,v]) rfl fun i a r h1 h2=>by
 match i with
 |0=>simp at h1 h2;subst h1 h2;exact hu
 |1=>simp at h1 h2;subst h1 h2;exact hv
 |i+2=>simp at h1
end Go.En
namespace Go.Proofs.YtmkojdfiadbeeaaGreat
open Go.RowKit Go.Cb Go.En Tryz
set_option linter.all false
set_option maxRecDepth 100000
theorem De:ElT prog 31 169 2 24 (.agg #[(.string ByteArray.empty),(.int .i64 0)]):=⟨underlying31,by kernel_rfl,rfl,dC⟩
theorem CP:KY prog 169=some ((.agg #[(.string ByteArray.empty),(.int .i64 0)]),([0,1]:List Nat).map fun o=>(o,1)):=by kernel_rfl
theorem PW (s:ByteArray):AFg prog 198 [ZS s] (· =Zo false):=by
 refine AFg.of_body 6 func198 rfl ntmps198 (Xa rfl) ?_
 intro w0 M0 vs hl hv
 obtain ⟨v0,rfl⟩:=WO hl
 obtain rfl:=hv 0 _ _ rfl rfl
 clear hl hv
 refine Zd ?_
 (refine xL 2 Zb ?_<;>refine Zh ?_)
 (refine xL 3 Za (xL 4 Za (xL 5 Zcc (xL 2 Zb ?_)))<;>refine Zc ?_)
 refine Zi (results198) rfl ?_
 simp
theorem LC (a b:ByteArray):AFg prog 137 [ZS a,ZS b] (· =Zg (Ya a b)):=by
 refine AFg.of_body 20 func137 rfl ntmps137 (Xa rfl) ?_
 intro w0 M0 vs hl hv
 obtain ⟨v0,v1,rfl⟩:=WT hl
 obtain rfl:=hv 0 _ _ rfl rfl
 obtain rfl:=hv 1 _ _ rfl rfl
 clear hl hv
 refine Zd ?_
 (refine xL 4 Zb ?_<;>refine Zh ?_)
 (refine xL 7 Za ?_<;>(refine cS 8 (cA call198 (PW a)) fun v8 h=>?_;cases h)<;>refine xL 5 Zb ?_<;>refine Zh ?_)
 (refine xL 9 Za ?_<;>(refine cS 10 (cA call198 (PW b)) fun v10 h=>?_;cases h)<;>refine xL 6 Zb ?_<;>refine Zh ?_)
 (refine xL 11 Za ?_<;>refine Zc ?_)
 refine cCf ?_
 refine Zd ?_
 (refine xL 13 Za ?_<;>refine Zc ?_)
 refine cCf ?_
 refine Zd ?_
 (refine xL 14 Za (xL 15 Za (xL 16 E7 ?_))<;>refine Zc ?_)
 refine cX ?_ ?_<;>intro hb16
 · first|exact bN hb16|(
 refine Zd ?_;(refine xL 4 Zb ?_<;>refine Zc ?_)
 refine Zi (results137) rfl ?_;rw [Sc hb16])
 · first|exact bN hb16|(
 refine Zd ?_;(refine xL 17 Za (xL 18 Za (xL 19 E9 ?_))<;>refine Zc ?_)
 refine cX ?_ ?_<;>intro hb19
 · first|exact bN hb19|(
 refine Zd ?_;(refine xL 4 Zb ?_<;>refine Zc ?_)
 refine Zi (results137) rfl ?_;rw [Sd hb19])
 · first|exact bN hb19|(
 refine Zd ?_;(refine xL 4 Zb ?_<;>refine Zc ?_)
 refine Zi (results137) rfl ?_;rw [Se hb16 hb19]))
theorem Zei (l:List Int):AFg prog 141 [pInts l] (· =Zg (Wb l)):=by
 refine AFg.of_body 18 func141 rfl ntmps141 (Xa rfl) ?_
 intro w0 M0 vs hl hv
 obtain ⟨v0,rfl⟩:=WO hl
 clear hl hv
 refine Y0 0 rfl fun hlen=>?_
 refine Zd ?_
 (refine xL 2 Zb ?_<;>refine Zh ?_)
 (refine xL 3 Zb ?_<;>refine Zh ?_)
 (refine xL 6 Za (xL 7 (ZF ZE) (xL 8 Za ?_))<;>refine Zc ?_)
 refine Zw (ι:={k:Nat//k≤l.length∧Wb l=Wb (l.drop k)}) (fun k=>⟨[(3,_,_),(6,_,_),(7,_,_),(8, .int .i64 k.1,Zg k.1)],[]⟩) (fun k=>l.length-k.1) ⟨0,oM,rfl⟩ (fun a w H=>H.weaken ⟨rfl,rfl,rfl,rfl,trivial⟩ trivial) ?_
 rintro ⟨k,hk,hp⟩
 dsimp only
 refine Zd ?_
 (refine xL 9 ZN ?_<;>refine Zc ?_)
 refine cX ?_ ?_<;>intro hb9
 · first |exact bN hb9|(
 obtain ⟨x,hx⟩:=Zj (show k<l.length by omega);have e1:=Yn (f:=Zg) hx;(have hs:Wb (l.drop k)=if x=0 then Wb (l.drop (k+1)) else x:=by rw [YZ hx,Wb]);refine Zd ?_;(refine xL 10 (Zn ZE) ?_<;>(refine yL 11 (Zt Zx) fun v11 h=>?_;cases h)<;>refine xL 5 Zb ?_<;>refine Zh ?_)
 (refine xL 12 Za (xL 13 Za (xL 14 Y9 ?_))<;>refine Zc ?_)
 refine cX ?_ ?_<;>intro hb14
 · first|exact bN hb14|(
 refine Zd ?_;(refine xL 15 Za (xL 2 Zb ?_)<;>refine Zc ?_)
 refine Zi (results141) rfl ?_;rw [hp,hs,Uz hb14])
 · first|exact bN hb14|(
 refine Zd ?_;(refine xL 16 ZB (xL 8 Za ?_)<;>refine Zc ?_)
 refine Zf (
  ⟨k+1,oM,by rw [hp,hs,UA (by simpa using hb14)]⟩
  ) (by dsimp only;omega) ⟨rfl,rfl,rfl,rfl,trivial⟩ trivial))
 · first|exact bN hb9|(
 refine Zd ?_;(refine xL 17 Za (xL 2 Zb ?_)<;>refine Zc ?_)
 refine Zi (results141) rfl ?_;rw [hp,XI oM];rfl)
theorem CQ (a b:Flw):AFg prog 102 [.agg (Sg a), .agg (Sg b)] (· =Zg (Wk a b)):=by
 refine AFg.of_body 17 func102 rfl ntmps102 (Xa rfl) ?_
 intro w0 M0 vs hl hv
 obtain ⟨v0,v1,rfl⟩:=WT hl
 clear hl hv
 refine Zd ?_
 (refine Yr 2 3 fun h2=>?_<;>refine Yr 3 3 fun h3=>?_<;>refine xL 4 Zb ?_<;>refine Zc ?_)
 (refine ZR (fun i=>([]:List Nat).elem i) [2,3] kR ?_<;>refine xD 0 5 rfl (Zm 2 Kd) ?_<;>(refine yD 1 6 rfl (Zp 2 ZJ) fun v6 h=>?_;cases h)<;>refine xD 2 7 rfl (Zm 3 Kd) ?_<;>(refine yD 3 8 rfl (Zp 3 ZJ) fun v8 h=>?_;cases h)<;>refine xD 5 10 rfl (Zm 2 Ke) ?_<;>(refine yD 6 11 rfl (Zp 2 ZJ) fun v11 h=>?_;cases h)<;>refine xD 7 12 rfl (Zm 3 Ke) ?_<;>(refine yD 8 13 rfl (Zp 3 ZJ) fun v13 h=>?_;cases h)<;>(refine Zy 4 kR ?_)<;>(refine ZA rfl fun w9 M9 N9 DQ back=>?_)<;>(refine cS 9 (cA call137 (LC a.src b.src)) fun v9 h=>?_;cases h)<;>refine Zr (back _ (nrm ?_))<;>(refine Zy 9 kR ?_)<;>(refine ZA rfl fun w9 M9 N9 DQ back=>?_)<;>(refine cS 14 (cA call137 (LC a.dst b.dst)) fun v14 h=>?_;cases h)<;>refine Zr (back _ (nrm ?_))<;>(refine Zy 10 kR ?_)<;>(refine ZA rfl fun w9 M9 N9 DQ back=>?_)<;>refine E' (xs:=[_,_]) 15 Y' fun h15 ho15=>?_<;>refine Zr (back _ (nrm ?_))<;>(refine Zy 11 kR ?_)<;>(refine ZA rfl fun w9 M9 N9 DQ back=>?_)<;>(refine Yg (En.freeze (l:=15) (t:=15) rfl rfl) fun _=>?_;refine cS 16 (cA call141 (Zei [Ya a.src b.src,Ya a.dst b.dst])) fun v16 h=>?_;cases h)<;>refine Zr (back _ (nrm ?_))<;>refine xE 12 4 rfl Zb ?_<;>refine YU kR (nav ?_)<;>try dsimp only)
 refine Zi (results102) rfl ?_
 unfold Wk Wb Wb Wb
 by_cases h:Ya a.src b.src=0
 · rw [UA h,UA h];split<;>simp_all
 · rw [Uz h,Uz h]
theorem Zc9 (a b:Cnt):AFg prog 139 [.agg (Sf a), .agg (Sf b)] (· =Zg (Ya a.name b.name)):=by
 refine AFg.of_body 10 func139 rfl ntmps139 (Xa rfl) ?_
 intro w0 M0 vs hl hv
 obtain ⟨v0,v1,rfl⟩:=WT hl
 clear hl hv
 refine Zd ?_
 (refine Yr 2 2 fun h2=>?_<;>refine Yr 3 2 fun h3=>?_<;>refine xL 4 Zb ?_<;>refine Zh ?_)
 (refine xL 5 (Zm 2 Kf) ?_<;>(refine yL 6 (Zp 2 ZJ) fun v6 h=>?_;cases h)<;>refine xL 7 (Zm 3 Kf) ?_<;>(refine yL 8 (Zp 3 ZJ) fun v8 h=>?_;cases h)<;>(refine cS 9 (cA call137 (LC a.name b.name)) fun v9 h=>?_;cases h)<;>refine xL 4 Zb ?_<;>refine Zc ?_)
 exact Zi results139 rfl rfl
theorem ζP:AggT prog 169 2=true:=by kernel_rfl
theorem Zbx:ζp prog 138 139 2:=fun enc hk h1 cf hO blk cap d w hcmp hH hblk hsz=>
 AnyQ.slices_SortFunc Tryz.sortCntL 2 (fun w=>AggT.run ζP w) (fun w=>AggT.size ζP w) enc hk h1 cf hO 139 #[] blk 0 cap d w (call139) hcmp hH hblk hsz
theorem CR (caps:List PV):AF prog 138 [.sl 0 [], .fn 139 caps] (· = .val (.tuple #[])):=fun M w vs hM hlen hv=>by
 obtain ⟨v,fv,rfl⟩:=WT hlen
 have hS:=hv 0 v _ rfl rfl
 cases hS with
 | emp a c hc ha=>
   refine (AnyF.slices_SortFunc_none Tryz.sortCntL a c fv w).mono fun e w' ⟨h1,h2⟩=>?_;rw [h1,h2];exact ⟨_,_,fun _=>False,rfl,rfl,Ext.rfl' _, .shr (.val _) (fun _ h=>h),fun b hb=>hb.elim,fun h=>h.elim⟩
 | sl b off n c cs vs' hnc hc hcell hT=>
   refine (AnyF.slices_SortFunc_none Tryz.sortCntL _ c fv w).mono fun e w' ⟨h1,h2⟩=>?_;rw [h1,h2];exact ⟨_,_,fun _=>False,rfl,rfl,Ext.rfl' _, .shr (.val _) (fun _ h=>h),fun b hb=>hb.elim,fun h=>h.elim⟩
theorem ζQ {es:Array MapEntry} {seen:Array Nat} {e:MapEntry} {clock:Nat} (hW:WfM es clock) (he:e∈(leftOf es seen).toList):(leftOf es (seen.push e.born)).size<(leftOf es seen).size:=by
 have h:=(SF hW he).length_eq
 rw [Xi,RY,RY] at h
 omega
theorem ζR {es:Array MapEntry} {seen:Array Nat} {e:MapEntry} (he:e∈(leftOf es seen).toList):(e.key,e.val)∈kvOf es:=Xm.2 ⟨e,PR he,rfl⟩
theorem EE {α:Type} {f:α→List PV} {L:List α} {c:α} {ps:List PV} (h:ps=f c):L.flatMap f++ps=(L++[c]).flatMap f:=by
 rw [VQ,h];simp
set_option maxHeartbeats 1000000 in
theorem Js (m:List (ByteArray×Int)) (hn:(m.map (·.1)).Nodup) (hl:m.length≤1000000):AF prog 100 [.smap (skv (Wa m))] (fun p=>∃L,SameC L m∧p= .own 169 2 L.length (L.flatMap Sf)):=by
 refine AF.of_body 22 func100 rfl ntmps100 (Xa rfl) ?_
 intro w0 M0 vs hl hv
 obtain ⟨v0,rfl⟩:=WO hl
 clear hl hv
 refine Zd ?_
 (refine xL 2 Zb ?_<;>refine Zh ?_)
 (refine xL 3 Zb ?_<;>refine Zh ?_)
 (refine xL 6 Za ?_<;>refine Ey 7 underlying78 (fun b7 r7 c7 es7 hkv7 hWf7=>?_)<;>refine Zc ?_)
 refine Zz (Kl 200 169 2 rfl) fun _=>?_
 refine Zw (ι:={x:Value×Array Nat×List Cnt//x.1.oneCell'=true∧(x.2.2=[]→x.1= .slice none 0 0)∧(x.2.2++(kvOf (leftOf es7 x.2.1)).map Zfk).Perm (m.map mkC)}) (fun k=>⟨[(7,_,_),(3,k.1.1, .val k.1.1)],[(7,itv r7,itP b7 r7 c7 es7 k.1.2.1),(200,k.1.1, .own 169 2 k.1.2.2.length (k.1.2.2.flatMap Sf))]⟩) (fun k=>(leftOf es7 k.1.2.1).size) ⟨(.slice none 0 0,#[],[]),rfl,fun _=>rfl,by rw [Ez,←hkv7,Zee];exact .refl _⟩ (fun a w H=>H.weaken ⟨rfl,rfl,trivial⟩ ⟨rfl,rfl,trivial⟩) ?_
 rintro ⟨⟨hov,seen,L⟩,ho,hnil,hp⟩
 dsimp only
 dsimp only at ho hnil hp
 have hLl:L.length≤1000000:=by
  have:=hp.length_eq;rw [Xe,Xc (f:=mkC)] at this;omega
 have hLm:(L.flatMap Sf).length=L.length*2:=YC W5 L
 refine Zd ?_
 (refine ζJ 7 8 hWf7 (fun hlf7=>?_) (fun e7 hle7=>?_)<;>refine xL 9 Zl ?_<;>refine Zc ?_)<;>(
 refine cX ?_ ?_<;>intro hb9
 · first|exact bN hb9|(
 refine Zd ?_;(refine xL 10 (ζK 7 hWf7 (PR hle7)) ?_<;>refine xL 11 Zl (xL 12 Zl (xL 4 Zb (xL 5 Zb ?_)))<;>refine Zc ?_)
 obtain ⟨s,n,hmem,hks,hvs⟩:=Zef (hkv7▸ζR hle7);dsimp only at hks hvs;rw [hks,hvs];(refine Zk ?_<;>refine xL 13 Za (xL 14 Za (xL 15 Za (xL 16 (Yt CP) ?_)))<;>refine LQ 17 De fun h17 ho17=>?_<;>refine Km 200 17 18 De fun h18 ho18=>?_<;>refine xL 3 Zb ?_<;>refine Zc ?_)
 refine Ys (Yb (l:=18) 200 rfl rfl) fun _=>?_;rw [EE (f:=Sf) (L:=L) (c:=(⟨s,n⟩:Cnt)) (by rfl),show L.length+1=(L++[(⟨s,n⟩:Cnt)]).length by simp];refine Zf (
  ⟨(h18,seen.push e7.born,L++[⟨s,n⟩]),ho18,fun h=>UB h sM,by
    refine .trans ?_ hp;have h1:=(SF hWf7 hle7).map Zfk;rw [Xk,hks,hvs] at h1;show (L++[_]++_).Perm _;rw [XM];exact h1.symm.append_left L⟩
  ) (ζQ hWf7 hle7) ⟨rfl,rfl,trivial⟩ ⟨rfl,rfl,trivial⟩)
 · first |exact bN hb9|(
 refine nav ?_;have hp0:L.Perm (m.map mkC):=by
  rw [hlf7] at hp;have h1:kvOf (#[]:Array MapEntry)=[]:=rfl;rw [h1,Vn,Xu] at hp;exact hp
 (refine Zk ?_<;>refine xL 19 Za ?_<;>(by_cases hL:L=[]<;>first|(subst hL;obtain rfl:=hnil rfl;refine Yg (En.freeze (l:=200) (t:=19) rfl rfl) fun _=>?_;refine cS 20 (cA call138 (CR [])) fun v20 h=>?_;cases h)|(refine DV (l:=200) (β:=Cnt) (f:=Sf) (cmp:=fun a b=>Ya a.name b.name) (rows:=L) Zbx (fun _=>rfl) dC (fun _=>rfl) (fun a=>CO _) (fun a b c=>Zbv) (fun a b c=>Zbw) (fun x y M W u v _ _ hu hv=>(Zc9 x y).exact2 hu hv) (X5.2 hL) oM rfl rfl (Xa rfl) rfl (call138) rfl rfl rfl (fun rows' hperm hord=>?_)))<;>refine Zc ?_)<;>(
 (refine Zk ?_<;>refine xL 21 Za (xL 2 Zb ?_)<;>refine Zc ?_)
 first
  |exact LN 200 (results100) rfl rfl ⟨rows',EC hn hp0 hperm hord,by rw [hperm.length_eq]⟩
  | (refine Y4 (Kl 201 169 2 rfl) fun _=>?_
     exact LN 201 (results100) rfl rfl ⟨[],EC hn hp0 (.refl _) (fun i j a b _ h=>by simp at h),rfl⟩))))
structure M4 where
 a:List (ByteArray×Int)
 s:List (ByteArray×Int)
 f:List (ByteArray×Int)
 q:List (Pr×Int)
def Yl:List ByteArray→List Pr
 |a::b::l=>(a,b)::Yl (b::l)
 |_=>[]
section
variable {κ:Type} [DecidableEq κ]
def addAll (m:List (κ×Int)) (ks:List κ) (c:Int):List (κ×Int):=ks.foldl (fun m k=>KB m k c) m
theorem Rf (m:List (κ×Int)) (ks:List κ) (k:κ) (c:Int):addAll m (ks++[k]) c=KB (addAll m ks c) k c:=by
 unfold addAll;rw [List.foldl_append];rfl
structure MOk (m:List (κ×Int)) (b:Nat):Prop where
 nd:(m.map (·.1)).Nodup
 len:m.length≤b
 bd:∀x∈m,0≤x.2∧x.2≤b*1048576
theorem MOk.nil:MOk ([]:List (κ×Int)) 0:=⟨List.nodup_nil,Xg _,fun x h=>by simp at h⟩
theorem MOk.mono {m:List (κ×Int)} {b b':Nat} (h:MOk m b) (hb:b≤b'):MOk m b':=⟨h.nd,XP h.len hb,fun x hx=>by
 have:=h.bd x hx
 have h2:(b:Int)*1048576≤b'*1048576:=oM
 omega⟩
theorem MOk.get {m:List (κ×Int)} {b:Nat} (h:MOk m b) (k:κ):0≤iget m k∧iget m k≤b*1048576:=by
 have key:∀(m:List (κ×Int)),(∀x∈m,0≤x.2∧x.2≤(b:Int)*1048576)→0≤iget m k∧iget m k≤b*1048576:=fun m=>by
  induction m with
  |nil=>intro _;rw [iget];omega
  | cons x m ih=>
    intro h;rw [iget];split
    · exact h x sM
    · exact ih fun y hy=>h y (by simp [hy])
 exact key m h.bd
theorem PX {m:List (κ×Int)} {k:κ} {v:Int} {x:κ×Int} (h:x∈Jh m k v):x=(k,v)∨x∈m:=by
 induction m with
 |nil=>rw [Jh,XR] at h;exact .inl h
 | cons y m ih=>
   rw [Jh] at h;split at h
   · rcases Xn.1 h with h|h
     · exact .inl h
     · exact .inr (by simp [h])
   · rcases Xn.1 h with h|h
     · exact .inr (by simp [h])
     · rcases ih h with h|h
       · exact .inl h
       · exact .inr (by simp [h])
theorem MOk.add {m:List (κ×Int)} {b:Nat} (h:MOk m b) {k:κ} {n:Int} (h0:0≤n) (h1:n≤1048576):MOk (KB m k n) (b+1):=by
 refine ⟨CN h.nd,XP (Zc8 _ _ _) (Nat.succ_le_succ h.len),fun x hx=>?_⟩
 rcases PX hx with rfl|hx
 · have:=h.get k;dsimp only;omega
 · have:=h.bd x hx;omega
theorem MOk.addAll {n:Int} (h0:0≤n) (h1:n≤1048576):∀{ks:List κ} {b:Nat} {m:List (κ×Int)},MOk m b→MOk (addAll m ks n) (b+ks.length)
 |[],b,m,h=>h
 | k::ks,b,m,h=>by
   have:=MOk.addAll h0 h1 (ks:=ks) (h.add (k:=k) h0 h1);rw [Xi,show b+(ks.length+1)=b+1+ks.length by omega];exact this
theorem Zby {m:List (κ×Int)} {k:κ} {n:Int} {p:κ→Prop} (h:∀x∈m,p x.1) (hk:p k):∀x∈KB m k n,p x.1:=fun x hx=>by
 rcases PX hx with rfl|hx
 · exact hk
 · exact h x hx
theorem LD {c:Int} {p:κ→Prop}:∀{ks:List κ} {m:List (κ×Int)},(∀x∈m,p x.1)→(∀k∈ks,p k)→∀x∈addAll m ks c,p x.1
 |[],m,h,_=>h
 |k::ks,m,h,hk=>LD (ks:=ks) (Zby h (hk k sM)) fun y hy=>hk y (by simp [hy])
end
def mk1 (st:M4) (x:Var):M4:=⟨addAll st.a x.acts x.count,(match x.acts with|[]=>st.s|s::_=>KB st.s s x.count),(match x.acts.getLast? with|some s=>KB st.f s x.count|none=>st.f),addAll st.q (Yl x.acts) x.count⟩
def Wl (l:List Var):M4:=l.foldl mk1 ⟨[],[],[],[]⟩
theorem PY {l:List Var} {k:Nat} {x:Var} (h:l[k]? =some x):Wl (l.take (k+1))=mk1 (Wl (l.take k)) x:=by
 unfold Wl;rw [Z7 h,List.foldl_append];rfl
theorem SG:∀l:List ByteArray,(Yl l).length≤l.length
 |[]=>Xg _
 |[a]=>XA _
 |a::b::l=>by rw [Yl,Xi,Xi];have:=SG (b::l);omega
theorem Ta:∀{l:List ByteArray} {p:Pr},p∈Yl l→p.1∈l∧p.2∈l
 |[],p,h=>by simp [Yl] at h
 |[a],p,h=>by simp [Yl] at h
 | a ::b::l,p,h=>by
   rw [Yl] at h;rcases Xn.1 h with rfl|h
   · exact ⟨sM,sM⟩
   · have:=Ta h;exact ⟨XE _ this.1,XE _ this.2⟩
theorem PZ:∀(l:List ByteArray) (a b:ByteArray),Yl (l++[a]++[b])=Yl (l++[a])++[(a,b)]
 |[],a,b=>rfl
 |[x],a,b=>rfl
 | x::y::l,a,b=>by
   show (x,y)::Yl (y::l++[a]++[b])=(x,y)::Yl (y::l++[a])++[(a,b)];rw [PZ (y::l) a b];rfl
theorem CS {w:List ByteArray} {j:Nat} {a b:ByteArray} (ha:w[j]? =some a) (hb:w[j+1]? =some b):Yl (w.take (j+1+1))=Yl (w.take (j+1))++[(a,b)]:=by
 rw [Z7 hb,Z7 ha];exact PZ _ _ _
theorem Zbz {w:List ByteArray} {b:ByteArray} (hb:w[0]? =some b):Yl (w.take (0+1))=[]:=by
 rw [Z7 hb];rfl
theorem Jt {s:ByteArray} (h:isName s=true):s.size≤40:=by
 unfold isName at h
 simp only [Xd,Uw,Xf] at h
 exact h.1.1.2
structure KOk (st:M4) (b:Nat):Prop where
 a:MOk st.a b
 s:MOk st.s b
 f:MOk st.f b
 q:MOk st.q b
 k:∀x∈st.q,prOk x.1
theorem KOk.step {st:M4} {b:Nat} {x:Var} (h:KOk st b) (hx:YQ x=true):KOk (mk1 st x) (b+200):=by
 unfold YQ at hx
 simp only [Xd,Uw,Xf] at hx
 obtain ⟨⟨⟨h1,h2⟩,h3⟩,h4⟩:=hx
 have hp:=SG x.acts
 refine ⟨(h.a.addAll oM h4).mono oM,?_,?_,(h.q.addAll oM h4).mono oM,LD h.k fun k hk=>?_⟩
 · unfold mk1;dsimp only;split
   · exact h.s.mono oM
   · exact (h.s.add oM h4).mono oM
 · unfold mk1;dsimp only;split
   · exact (h.f.add oM h4).mono oM
   · exact h.f.mono oM
 · have:=Ta hk;have n1:=Jt (h2 _ this.1);have n2:=Jt (h2 _ this.2);exact ⟨oM,oM⟩
theorem KOk.all {l:List Var} (hl:∀x∈l,YQ x=true):∀k,k≤l.length→KOk (Wl (l.take k)) (k*200)
 |0,_=>⟨MOk.nil,MOk.nil,MOk.nil,MOk.nil,fun x h=>by simp [Wl] at h⟩
 | k+1,hk=>by
   obtain ⟨x,hx⟩:=Zj (show k<l.length by omega);rw [PY hx,Vf];exact (KOk.all hl k oM).step (hl x (Xb hx))
end Go.Proofs.YtmkojdfiadbeeaaGreat
namespace Go.En
open Go.RowKit Go.Cb
theorem Zda {sL hP:List (Nat×Ent)} {t:Nat} {vs:List Value} {q:PV} (ht:lk sL t=some (.agg vs.toArray,q)):Ge (⟨sL,hP⟩:St) (fun _:Unit=>⟨put t (.agg vs.toArray, .agg (vs.map .val)) sL,hP⟩):=fun c a w ⟨F,H⟩=>by
 refine ⟨(),F,H.toHeapF,fun s u r hs=>?_,H.size,H.df⟩
 rcases Z0 hs with ⟨rfl,e⟩|⟨_,e⟩
 · cases e;refine ⟨(H.sl _ _ _ ht).1, .agg _ _ (by rw [Xc]) fun i v p hv hp=>?_⟩;rw [Xl,hv] at hp
   cases hp;exact .val _
 · exact H.sl s u r e
end Go.En
namespace Go.Proofs.YtmkojdfiadbeeaaGreat
open Go.RowKit Go.Cb Go.En Tryz
set_option linter.all false
set_option maxRecDepth 100000
theorem SH:ArrT prog 82 2=true:=by kernel_rfl
theorem Df:ElT prog 32 136 3 40 (.agg #[(.string ByteArray.empty),(.string ByteArray.empty),(.int .i64 0)]):=⟨underlying32,by kernel_rfl,rfl,dC⟩
theorem LF:FldT prog 81 0 0=true:=by kernel_rfl
theorem Rh:FldT prog 81 1 1=true:=by kernel_rfl
theorem Ri:FldT prog 81 2 2=true:=by kernel_rfl
theorem Rj:FldT prog 81 3 3=true:=by kernel_rfl
theorem K7:NoAgg prog 78=true:=by kernel_rfl
theorem Dg:NoAgg prog 79=true:=by kernel_rfl
theorem CU:KY prog 136=some ((.agg #[(.string ByteArray.empty),(.string ByteArray.empty),(.int .i64 0)]),([0,1,2]:List Nat).map fun o=>(o,1)):=by kernel_rfl
theorem JF:KY prog 34=some ((.agg #[(.slice none 0 0),(.slice none 0 0),(.slice none 0 0),(.slice none 0 0)]),([0,1,2,3]:List Nat).map fun o=>(o,1)):=by kernel_rfl
theorem ZbA:KY prog 81=some ((.agg #[(.map none),(.map none),(.map none),(.map none)]),([0,1,2,3]:List Nat).map fun o=>(o,1)):=by kernel_rfl
theorem ZbB:(prog.info? 32).map (·.size)=some 1:=by kernel_rfl
theorem K8:ZeroT prog 34 (.agg #[(.slice none 0 0),(.slice none 0 0),(.slice none 0 0),(.slice none 0 0)]):=by unfold ZeroT;kernel_rfl
theorem Dh:ZeroT prog 82 (.agg #[(.string ByteArray.empty),(.string ByteArray.empty)]):=by unfold ZeroT;kernel_rfl
theorem Ou:AF prog 44 [] (· = .obox 81 4 [.omap [], .omap [], .omap [], .omap []]):=by
 refine AF.of_body 7 func44 rfl ntmps44 (Xa rfl) ?_
 intro w0 M0 vs hl hv
 obtain rfl:=XC hl
 clear hl hv
 refine Zd ?_
 (refine xL 0 Zb ?_<;>refine Zh ?_)
 (refine GR 1 fun h1 ho1=>?_<;>refine GR 2 fun h2 ho2=>?_<;>refine GR 3 fun h3 ho3=>?_<;>refine GR 4 fun h4 ho4=>?_<;>refine xL 5 (Yt ZbA) ?_<;>refine Yr 6 4 fun h6=>?_<;>refine xL 0 Zb ?_<;>refine Zc ?_)
 refine Y4 (Jc (l:=6) (l':=1) (j:=0) rfl rfl rfl rfl) fun _=>?_
 refine Y4 (Jc (l:=6) (l':=2) (j:=1) rfl rfl rfl rfl) fun _=>?_
 refine Y4 (Jc (l:=6) (l':=3) (j:=2) rfl rfl rfl rfl) fun _=>?_
 refine Y4 (Jc (l:=6) (l':=4) (j:=3) rfl rfl rfl rfl) fun _=>?_
 exact Zc7 6 (results44) rfl rfl rfl
theorem ζS:AggT prog 136 3=true:=by kernel_rfl
theorem Zfm:AggT prog 82 2=true:=by kernel_rfl
theorem ZbC:ζp prog 101 102 3:=fun enc hk h1 cf hO blk cap d w hcmp hH hblk hsz=>
 AnyQ.slices_SortFunc Tryz.sortFlwL 3 (fun w=>AggT.run ζS w) (fun w=>AggT.size ζS w) enc hk h1 cf hO 102 #[] blk 0 cap d w (call102) hcmp hH hblk hsz
theorem CV (caps:List PV):AF prog 101 [.sl 0 [], .fn 102 caps] (· = .val (.tuple #[])):=fun M w vs hM hlen hv=>by
 obtain ⟨v,fv,rfl⟩:=WT hlen
 have hS:=hv 0 v _ rfl rfl
 cases hS with
 | emp a c hc ha=>
   refine (AnyF.slices_SortFunc_none Tryz.sortFlwL a c fv w).mono fun e w' ⟨h1,h2⟩=>?_;rw [h1,h2];exact ⟨_,_,fun _=>False,rfl,rfl,Ext.rfl' _, .shr (.val _) (fun _ h=>h),fun b hb=>hb.elim,fun h=>h.elim⟩
 | sl b off n c cs vs' hnc hc hcell hT=>
   refine (AnyF.slices_SortFunc_none Tryz.sortFlwL _ c fv w).mono fun e w' ⟨h1,h2⟩=>?_;rw [h1,h2];exact ⟨_,_,fun _=>False,rfl,rfl,Ext.rfl' _, .shr (.val _) (fun _ h=>h),fun b hb=>hb.elim,fun h=>h.elim⟩
theorem Wy (e n:Nat) (l:List Cnt) (hn:n=l.length):share (.own e 2 n (l.flatMap Sf))=KX l:=by
 subst hn
 rw [share,ZZ,List.map_flatMap];rfl
theorem P0 (e n:Nat) (l:List Flw) (hn:n=l.length):share (.own e 3 n (l.flatMap Sg))=ζi l:=by
 subst hn
 rw [share,ZZ,List.map_flatMap];rfl
def LG (g:Dfg) (st:M4):Prop:=SameC g.acts st.a∧SameC g.starts st.s∧SameC g.ends st.f∧SameF g.follows st.q
set_option maxHeartbeats 2000000 in
theorem Zdb (st:M4) (b:Nat) (hb:b≤1000000) (hk:KOk st b):AF prog 45 [.sptr 0 [.smap (skv (Wa st.a)), .smap (skv (Wa st.s)), .smap (skv (Wa st.f)), .smap (akv (Wa st.q))]] (fun p=>∃g,LG g st∧p=WS g):=by
 have l1:=hk.a.len
 have l2:=hk.s.len
 have l3:=hk.f.len
 have l4:=hk.q.len
 refine AF.of_body 47 func45 rfl ntmps45 (Xa rfl) ?_
 intro w0 M0 vs hl hv
 obtain ⟨v0,rfl⟩:=WO hl
 clear hl hv
 refine Zd ?_
 (refine ZV [(.slice none 0 0),(.slice none 0 0),(.slice none 0 0),(.slice none 0 0)] 4 2 K8 fun h2=>?_<;>refine Zc ?_)
 (refine ZR (fun i=>([17]:List Nat).elem i) [] kR ?_<;>refine xD 0 6 rfl Za ?_<;>refine xD 1 7 rfl Yc ?_<;>refine xD 2 8 rfl (Ye LF) ?_<;>(refine yD 3 9 rfl (Zt K7) fun v9 h=>?_;cases h)<;>refine xD 5 11 rfl Za ?_<;>refine xD 6 12 rfl Yc ?_<;>refine xD 7 13 rfl (Ye Rh) ?_<;>(refine yD 8 14 rfl (Zt K7) fun v14 h=>?_;cases h)<;>refine xD 10 16 rfl Za ?_<;>refine xD 11 17 rfl Yc ?_<;>refine xD 12 18 rfl (Ye Ri) ?_<;>(refine yD 13 19 rfl (Zt K7) fun v19 h=>?_;cases h)<;>(refine Tm 4 16 kR ?_ ?_;rotate_right;(focus ((refine ZA rfl fun w9 M9 N9 DQ back=>?_)<;>refine ZV [(.slice none 0 0),(.slice none 0 0),(.slice none 0 0),(.slice none 0 0)] 4 3 K8 fun h3=>?_<;>refine Zr (back _ (nrm ?_))<;>(refine Zy 4 kR ?_)<;>(refine ZA rfl fun w9 M9 N9 DQ back=>?_)<;>(refine JK 10 rfl rfl (Xa rfl) rfl (cA call100 (Js st.a hk.a.nd oM)) ?_;rintro p' ⟨La,hLa,rfl⟩;refine ⟨rfl,fun h10 ho10=>?_⟩;refine Yg (En.freeze (l:=10) (t:=10) rfl rfl) fun _=>?_;rw [Wy _ _ _ rfl])<;>refine Zr (back _ (nrm ?_))<;>(refine Zy 9 kR ?_)<;>(refine ZA rfl fun w9 M9 N9 DQ back=>?_)<;>(refine JK 15 rfl rfl (Xa rfl) rfl (cA call100 (Js st.s hk.s.nd oM)) ?_;rintro p' ⟨Ls,hLs,rfl⟩;refine ⟨rfl,fun h15 ho15=>?_⟩;refine Yg (En.freeze (l:=15) (t:=15) rfl rfl) fun _=>?_;rw [Wy _ _ _ rfl])<;>refine Zr (back _ (nrm ?_))<;>(refine Zy 14 kR ?_)<;>(refine ZA rfl fun w9 M9 N9 DQ back=>?_)<;>(refine JK 20 rfl rfl (Xa rfl) rfl (cA call100 (Js st.f hk.f.nd oM)) ?_;rintro p' ⟨Lf,hLf,rfl⟩;refine ⟨rfl,fun h20 ho20=>?_⟩;refine Yg (En.freeze (l:=20) (t:=20) rfl rfl) fun _=>?_;rw [Wy _ _ _ rfl])<;>refine Zr (back _ (nrm ?_))<;>refine xE 15 21 rfl (Yt JF) ?_));rotate_right;(focus ((refine ZA rfl fun w9 M9 N9 DQ back=>?_)<;>(refine JK 10 rfl rfl (Xa rfl) rfl (cA call100 (Js st.a hk.a.nd oM)) ?_;rintro p' ⟨La,hLa,rfl⟩;refine ⟨rfl,fun h10 ho10=>?_⟩;refine Yg (En.freeze (l:=10) (t:=10) rfl rfl) fun _=>?_;rw [Wy _ _ _ rfl])<;>refine Zr (back _ (nrm ?_))<;>(refine Tm 9 16 kR ?_ ?_;rotate_right;(focus ((refine ZA rfl fun w9 M9 N9 DQ back=>?_)<;>refine ZV [(.slice none 0 0),(.slice none 0 0),(.slice none 0 0),(.slice none 0 0)] 4 3 K8 fun h3=>?_<;>refine Zr (back _ (nrm ?_))<;>(refine Zy 9 kR ?_)<;>(refine ZA rfl fun w9 M9 N9 DQ back=>?_)<;>(refine JK 15 rfl rfl (Xa rfl) rfl (cA call100 (Js st.s hk.s.nd oM)) ?_;rintro p' ⟨Ls,hLs,rfl⟩;refine ⟨rfl,fun h15 ho15=>?_⟩;refine Yg (En.freeze (l:=15) (t:=15) rfl rfl) fun _=>?_;rw [Wy _ _ _ rfl])<;>refine Zr (back _ (nrm ?_))<;>(refine Zy 14 kR ?_)<;>(refine ZA rfl fun w9 M9 N9 DQ back=>?_)<;>(refine JK 20 rfl rfl (Xa rfl) rfl (cA call100 (Js st.f hk.f.nd oM)) ?_;rintro p' ⟨Lf,hLf,rfl⟩;refine ⟨rfl,fun h20 ho20=>?_⟩;refine Yg (En.freeze (l:=20) (t:=20) rfl rfl) fun _=>?_;rw [Wy _ _ _ rfl])<;>refine Zr (back _ (nrm ?_))<;>refine xE 15 21 rfl (Yt JF) ?_));rotate_right;(focus ((refine ZA rfl fun w9 M9 N9 DQ back=>?_)<;>(refine JK 15 rfl rfl (Xa rfl) rfl (cA call100 (Js st.s hk.s.nd oM)) ?_;rintro p' ⟨Ls,hLs,rfl⟩;refine ⟨rfl,fun h15 ho15=>?_⟩;refine Yg (En.freeze (l:=15) (t:=15) rfl rfl) fun _=>?_;rw [Wy _ _ _ rfl])<;>refine Zr (back _ (nrm ?_))<;>(refine Tm 14 16 kR ?_ ?_;rotate_right;(focus ((refine ZA rfl fun w9 M9 N9 DQ back=>?_)<;>refine ZV [(.slice none 0 0),(.slice none 0 0),(.slice none 0 0),(.slice none 0 0)] 4 3 K8 fun h3=>?_<;>refine Zr (back _ (nrm ?_))<;>(refine Zy 14 kR ?_)<;>(refine ZA rfl fun w9 M9 N9 DQ back=>?_)<;>(refine JK 20 rfl rfl (Xa rfl) rfl (cA call100 (Js st.f hk.f.nd oM)) ?_;rintro p' ⟨Lf,hLf,rfl⟩;refine ⟨rfl,fun h20 ho20=>?_⟩;refine Yg (En.freeze (l:=20) (t:=20) rfl rfl) fun _=>?_;rw [Wy _ _ _ rfl])<;>refine Zr (back _ (nrm ?_))<;>refine xE 15 21 rfl (Yt JF) ?_));rotate_right;(focus ((refine ZA rfl fun w9 M9 N9 DQ back=>?_)<;>(refine JK 20 rfl rfl (Xa rfl) rfl (cA call100 (Js st.f hk.f.nd oM)) ?_;rintro p' ⟨Lf,hLf,rfl⟩;refine ⟨rfl,fun h20 ho20=>?_⟩;refine Yg (En.freeze (l:=20) (t:=20) rfl rfl) fun _=>?_;rw [Wy _ _ _ rfl])<;>refine Zr (back _ (nrm ?_))<;>refine xD 15 21 rfl (Yt JF) ?_<;>(refine Zy 16 kR ?_)<;>(refine ZA rfl fun w9 M9 N9 DQ back=>?_)<;>refine ZV [(.slice none 0 0),(.slice none 0 0),(.slice none 0 0),(.slice none 0 0)] 4 3 K8 fun h3=>?_<;>refine Zr (back _ (nrm ?_)))))))))))<;>(refine Zy 17 kR ?_)<;>(refine WP rfl rfl kR fun DQ back=>?_)<;>refine YN 3 Z9 ?_<;>refine Zr (back _ (nav ?_))<;>try dsimp only)<;>(
 (refine Zk ?_<;>refine xL 22 Za (xL 23 Yc (xL 24 (Ye Rj) ?_))<;>(refine yL 25 (Zt Dg) fun v25 h=>?_;cases h)<;>refine Ey 26 underlying79 (fun b26 r26 c26 es26 hkv26 hWf26=>?_)<;>refine Zc ?_)
 refine Zz (Kl 200 136 3 rfl) fun _=>?_;refine Zw (ι:={x:Value×Array Nat×List Flw//x.1.oneCell'=true∧(x.2.2=[]→x.1= .slice none 0 0)∧(x.2.2++(kvOf (leftOf es26 x.2.1)).map Zfl).Perm (st.q.map mkF)}) (fun k=>⟨[(2,_,_),(3,_,_),(26,_,_)],[(2,_,_),(3,h3, .own 34 4 1 [KX La,KX Ls,KX Lf, .val k.1.1]),(26,itv r26,itP b26 r26 c26 es26 k.1.2.1),(200,k.1.1, .own 136 3 k.1.2.2.length (k.1.2.2.flatMap Sg))]⟩) (fun k=>(leftOf es26 k.1.2.1).size) ⟨(.slice none 0 0,#[],[]),rfl,fun _=>rfl,by rw [Ez,←hkv26,Zeg];exact .refl _⟩ (fun a w H=>H.weaken ⟨rfl,rfl,rfl,trivial⟩ ⟨rfl,rfl,rfl,rfl,trivial⟩) ?_;rintro ⟨⟨hov,seen,L⟩,ho,hnil,hp⟩;dsimp only;dsimp only at ho hnil hp;have hLl:L.length≤1000000:=by
  have:=hp.length_eq;rw [Xe,Xc (f:=mkF)] at this;omega
 have hLm:(L.flatMap Sg).length=L.length*3:=YC JP L;refine Zd ?_;(refine ζJ 26 27 hWf26 (fun hlf26=>?_) (fun e26 hle26=>?_)<;>refine xL 28 Zl ?_<;>refine Zc ?_)<;>(
 refine cX ?_ ?_<;>intro hb28
 · first|exact bN hb28|(
 refine nav ?_;obtain ⟨kk,n,hmem,hks,hvs⟩:=Zeh (hkv26▸ζR hle26);dsimp only at hks hvs;(refine Zk ?_<;>refine xL 29 (ζK 26 hWf26 (PR hle26)) ?_<;>refine xL 30 Zl (xL 31 Zl ?_)<;>refine ZV [(.string ByteArray.empty),(.string ByteArray.empty)] 2 4 Dh fun h4=>?_<;>(rw [hks];refine Yg (Zda (t:=30) (vs:=[.string kk.1, .string kk.2]) rfl) fun _=>?_;refine YN 4 Zfm ?_)<;>refine xL 5 Zb ?_<;>refine Zc ?_)
 rw [hvs];(refine Zk ?_<;>refine xL 32 (Zm 3 KE) ?_<;>(refine yL 33 (Zp 3 Jx) fun v33 h=>?_;cases h)<;>refine xL 34 (Zc2 4 SH) ?_<;>(refine yL 35 (Zp 4 ZJ) fun v35 h=>?_;cases h)<;>refine xL 36 (Zc2 4 SH) ?_<;>(refine yL 37 (Zp 4 ZJ) fun v37 h=>?_;cases h)<;>refine xL 38 Za (xL 39 (Yt CU) ?_)<;>refine LQ 40 Df fun h40 ho40=>?_<;>refine Km 200 40 41 Df fun h41 ho41=>?_<;>refine xL 42 (Zm 3 KE) ?_<;>refine Rs 3 Jx ZbB ?_<;>refine Zc ?_)
 refine Ys (Yb (l:=41) 200 rfl rfl) fun _=>?_;rw [EE (f:=Sg) (L:=L) (c:=(⟨kk.1,kk.2,n⟩:Flw)) (by rfl),show L.length+1=(L++[(⟨kk.1,kk.2,n⟩:Flw)]).length by simp];refine Zf (
  ⟨(h41,seen.push e26.born,L++[⟨kk.1,kk.2,n⟩]),ho41,fun h=>UB h sM,by
    refine .trans ?_ hp;have h1:=(SF hWf26 hle26).map Zfl;rw [Xk,hks,hvs] at h1;show (L++[_]++_).Perm _;rw [XM];exact h1.symm.append_left L⟩
  ) (ζQ hWf26 hle26) ⟨rfl,rfl,rfl,trivial⟩ ⟨rfl,rfl,rfl,rfl,trivial⟩)
 · first|exact bN hb28|(
 refine nav ?_;have hp0:L.Perm (st.q.map mkF):=by
  rw [hlf26] at hp;have h1:kvOf (#[]:Array MapEntry)=[]:=rfl;rw [h1,Vn,Xu] at hp;exact hp
 (refine Zk ?_<;>refine xL 43 (Zm 3 KE) ?_<;>(refine yL 44 (Zp 3 Jx) fun v44 h=>?_;cases h)<;>(by_cases hL:L=[]<;>first|(subst hL;obtain rfl:=hnil rfl;refine Yg (En.freeze (l:=200) (t:=44) rfl rfl) fun _=>?_;refine cS 45 (cA call101 (CV [])) fun v45 hv45=>?_;cases hv45;refine Yg (Kl 201 136 3 rfl) fun _=>?_;refine Yg (Kv (l:=3) (l':=201) (j:=3) rfl rfl rfl rfl) fun _=>?_;rw [show share (.own 136 3 0 [])=ζi [] from P0 _ 0 [] rfl];have hF:SameF [] st.q:=ED hk.q.nd hp0 (.refl _) (fun i j a b _ h=>by simp at h))|(refine DV (l:=200) (β:=Flw) (f:=Sg) (cmp:=Wk) (rows:=L) ZbC (fun _=>rfl) dC (fun _=>rfl) (fun a=>Jb a) (fun a b c=>KT) (fun a b c=>Zbu) (fun x y M W u v _ _ hu hv=>(CQ x y).exact2 hu hv) (X5.2 hL) oM rfl rfl (Xa rfl) rfl (call101) rfl rfl rfl (fun rows' hperm hord=>?_);refine Yg (Kv (l:=3) (l':=200) (j:=3) rfl rfl rfl rfl) fun _=>?_;rw [P0 _ _ _ hperm.length_eq.symm];have hF:SameF rows' st.q:=ED hk.q.nd hp0 hperm hord))<;>refine Zc ?_)<;>(
 (refine Zk ?_<;>(refine yL 46 (YG 3 Z9) fun v46 h=>?_;cases h)<;>refine YN 2 Z9 ?_<;>refine Zc ?_)
 exact Zck (k:=4) 2 kR (results45) rfl rfl (Xa rfl) dC rfl ⟨⟨La,Ls,Lf,_⟩,⟨hLa,hLs,hLf,hF⟩,rfl⟩))))
end Go.Proofs.YtmkojdfiadbeeaaGreat
namespace Go.En
open Go.RowKit Go.Cb
set_option linter.all false
def Zdc (c:Ctx) (R:Value→PV→List (Nat×Ent)→Prop) (e:Ending) (w':World):Prop:=∃v p h F,e= .returned v∧R v p h∧HeapF c h F w'∧Shr (mof c h F) w' v p
def AFh (dd:Prop) (P:Program) (f:FuncId) (ar h:List (Nat×Ent)) (R:Value→PV→List (Nat×Ent)→Prop):Prop:=
 ∀(M N:BS) (w:World) (F:Nat→BS),HeapF ⟨w,M,N,0,dd,[]⟩ h F w→(∀i x,lk ar i=some x→Shr (mof ⟨w,M,N,0,dd,[]⟩ h F) w x.1 x.2)→Calls P f (ar.map (·.2.1)).toArray w (Zdc ⟨w,M,N,0,dd,[]⟩ R)
theorem HeapF.nt {c c':Ctx} {h:List (Nat×Ent)} {F:Nat→BS} {w:World} (H:HeapF c h F w) (h0:c'.w0=c.w0) (h1:c'.M0=c.M0) (h2:c'.N0=c.N0) (h3:c'.dr→c.dr) (hm:M0k c'.w0 c'.M0 c'.N0 c'.dr):HeapF c' h F w:=by
 obtain ⟨w0,M0,N0,nt,dr,df⟩:=c
 obtain ⟨w0',M0',N0',nt',dr'⟩:=c'
 simp only at h0 h1 h2 h3
 subst h0 h1 h2
 exact ⟨H.tr,H.lo,H.dj,hm,H.ext,fun h=>H.dw (h3 h)⟩
def Gc:Nat→List (Nat×Ent)→Bool
 |_,[]=>true
 |i,(j,_)::l=>Nat.beq i j&&Gc (i+1) l
theorem P1:∀(l:List (Nat×Ent)) (i t:Nat) (x:Ent),Gc i l=true→lk l t=some x→i≤t∧(l.map (·.2.1))[t-i]? =some x.1
 |[],_,_,_,_,h=>by simp [lk] at h
 | (j,y)::l,i,t,x,ho,h=>by
   simp only [Gc,Xd] at ho;obtain ⟨h1,h2⟩:=ho;have h1:=XH h1;subst h1;simp only [lk] at h
   cases hb:Nat.beq i t
   · rw [hb] at h;obtain ⟨h3,h4⟩:=P1 l (i+1) t x h2 h;have:t-i=(t-(i+1))+1:=oM;exact ⟨oM,by rw [this];simpa using h4⟩
   · rw [hb] at h;have:i=t:=XH hb;subst this
     cases h;simp
theorem Rk:∀(l:List (Nat×Ent)) (i t:Nat) (x:Ent),Gc i l=true→lk l t=some x→i≤t∧(l[t-i]?).map (·.2)=some x
 |[],_,_,_,_,h=>by simp [lk] at h
 | (j,y)::l,i,t,x,ho,h=>by
   simp only [Gc,Xd] at ho;obtain ⟨h1,h2⟩:=ho;have h1:=XH h1;subst h1;simp only [lk] at h
   cases hb:Nat.beq i t
   · rw [hb] at h;obtain ⟨h3,h4⟩:=Rk l (i+1) t x h2 h;have:t-i=(t-(i+1))+1:=oM;exact ⟨oM,by rw [this];simpa using h4⟩
   · rw [hb] at h;have:i=t:=XH hb;subst this
     cases h;simp
section
variable {P:Program}
theorem AFh.of_body {dd:Prop} {f:FuncId} {fn:Func} {code:Code} {ar h:List (Nat×Ent)} {R:Value→PV→List (Nat×Ent)→Prop} (nt:Nat) (hf:P.funcs[f]? =some fn) (hb:fn.body=some code) (hnt:fn.ntmps=nt) (hn:ar.length≤nt) (ho:Gc 0 ar=true)
 (H:∀(w0:World) (M0 N0:BS),aC P ⟨w0,M0,N0,nt,dd,[]⟩ code (bodyPost P fn (Zdc ⟨w0,M0,N0,nt,dd,[]⟩ R)) ⟨ar,h⟩):AFh dd P f ar h R:=fun M N w F HF hv=>by
 subst hnt
 refine calls_of_wp hf hb ?_
 refine wp_mono (H w M N _ w ⟨F,⟨HF.nt rfl rfl rfl id HF.m0,fun t v p ht=>?_,?_,rfl⟩⟩) fun e a w' hq=>?_
 · obtain ⟨_,h1⟩:=P1 ar 0 t (v,p) ho ht;refine ⟨?_,hv t (v,p) ht⟩;simp only [Vv] at h1;have:=Ze h1;rw [Vo (by simpa using this)];simpa using h1
 · simp;omega
 · have key:∀e w',Zdc ⟨w,M,N,fn.ntmps,dd,[]⟩ R e w'→Zdc ⟨w,M,N,0,dd,[]⟩ R e w':=fun _ _ ⟨v',p,h',F',h3,h4,h5,h6⟩=>⟨v',p,h',F',h3,h4,h5.nt rfl rfl rfl id h5.m0,h6⟩
   cases e with
   |ret=>obtain ⟨h1,v,h2,h3⟩:=hq;exact ⟨h1,v,h2,key _ _ h3⟩
   |normal=>obtain ⟨h1,v,h2,h3⟩:=hq;exact ⟨h1,v,h2,key _ _ h3⟩
   |panic ch=>obtain ⟨h1,h3⟩:=hq;exact ⟨h1,key _ _ h3⟩
   |outgrown=>exact key _ _ hq
   |_=>exact hq.elim
end
section
variable {P:Program} {c:Ctx} {ops:Array Oper} {Q:Exit→Act→World→Prop} {rest:List Oper} {sL hP:List (Nat×Ent)} {o:Oper}
theorem ZeF {fn:Func} {R:Value→PV→List (Nat×Ent)→Prop} {t:Nat} {v:Value} {p:PV} (h:List (Nat×Ent)) (hr:fn.results= #[.tmp t]) (ht:lk sL t=some (v,p)) (hs:Sub h hP) (hR:R v p h) (hdf:c.df=[]:=by exact rfl):aR c (bodyPost P fn (Zdc c R)) (⟨sL,hP⟩:St):=fun a w ⟨F,H0⟩=>by
 have H:HoldsF c (⟨sL,h⟩:St) F a w:=H0.less (fun _ _ h=>h) fun t x hx=>hs.lk hx
 obtain ⟨h1,h2⟩:=H.sl t v p ht
 refine ⟨H.df.trans hdf,v,?_,v,p,h,F,rfl,hR,H.toHeapF,h2⟩
 simp [results,hr,Vk,h1]
theorem Zfn {dd:Prop} {f:Nat} {ar:List (Nat×Ent)} {R:Value→PV→List (Nat×Ent)→Prop} (K:List Nat) (d:Nat) (hw:ZK ops sL o=some true) (hd:o.dst=some d) (hn:d<c.nt)
 (hE:∀a w F,HoldsF c (⟨sL,hP⟩:St) F a w→(execOp a.eval o).run P w= .ok (.enter f (ar.map (·.2.1)).toArray) w∧∀(i:Nat) (x:Value) (q:PV),((ar.map (·.2)).map (·.1))[i]? =some x→((ar.map (·.2)).map (·.2))[i]? =some q→Shr (mof c hP F) w x q)
 (hA:AFh dd P f ar (Ji K hP) R) (hio:Gc 0 ar=true) (hdd:c.dr→dd)
 (k:∀v p h,R v p h→aL P c ops Q rest ⟨put d (v,p) sL,h++KV K hP⟩):aL P c ops Q (o::rest) (⟨sL,hP⟩:St):=
 YH hw fun a w F H=>by
  obtain ⟨hr,h2⟩:=hE a w F H;have hfr:=H.frame K;have hin:∀b,mof ⟨w,fun b=>c.M0 b∨∃l x,K.elem l=true∧lk hP l=some x∧F l b,nK K hP F,c.nt,c.dr,c.df⟩ (Ji K hP) F b→mof c hP F b:=by
   rintro b ((h|⟨l,x,_,h1,h2⟩)|⟨l,x,h1,h2⟩)
   · exact .inl h
   · exact .inr ⟨l,x,h1,h2⟩
   · exact .inr ⟨l,x,(Kc.1 h1).2,h2⟩
  have hcall:=hA (fun b=>c.M0 b∨∃l x,K.elem l=true∧lk hP l=some x∧F l b) (nK K hP F) w F
   ⟨hfr.tr,hfr.lo,hfr.dj,hfr.m0.up hdd,hfr.ext,fun _=>Xg _⟩
   (fun i x hi=>by
     obtain ⟨_,h3⟩:=Rk ar 0 i x hio hi;rw [Vv] at h3;exact (h2 i x.1 x.2 (by rw [Xl,Xl,h3];rfl) (by rw [Xl,Xl,h3];rfl)).anti fun b _ hb=>hin b hb)
  unfold Oper.wp;rw [hr,Oper.upon_enter];refine hcall.mono fun e w' ⟨v,p,h,F',e1,e2,e3,e4⟩=>?_;subst e1;have hch:Chg (nK K hP F) w w':=e3.ext;have hlow:∀b,b<w.heap.size→mof ⟨w,fun b=>c.M0 b∨∃l x,K.elem l=true∧lk hP l=some x∧F l b,nK K hP F,0,dd,[]⟩ h F' b→mof c hP F b:=by
   rintro b hlt ((h1|⟨l,x,_,h1,h2⟩)|⟨l,x,h1,h2⟩)
   · exact .inl h1
   · exact .inr ⟨l,x,h1,h2⟩
   · rcases e3.lo l x b h1 h2 with h3|⟨l',x',_,h3,h4⟩
     · exact UB hlt (by simp only at h3;omega)
     · exact .inr ⟨l',x',h3,h4⟩
  have H':HoldsF ⟨w,fun b=>c.M0 b∨∃l x,K.elem l=true∧lk hP l=some x∧F l b,nK K hP F,c.nt,c.dr,c.df⟩ (⟨put d (v,p) sL,h⟩:St) F' (a.put o.dst v) w':=by
   refine ⟨e3.nt rfl rfl rfl hdd hfr.m0,fun t u q ht=>?_,by rw [hd];simpa [Act.put] using H.size,by rw [hd];exact H.df⟩;rw [hd];rcases Z0 ht with ⟨rfl,e⟩|⟨hne,e⟩
   · cases e;refine ⟨?_,e4⟩;simp [Act.put,H.size,hn]
   · obtain ⟨h3,h4⟩:=H.sl t u q e;refine ⟨?_,h4.to hch (fun b _ ⟨l,x,_,h5,h6⟩=> .inr ⟨l,x,h5,h6⟩) (fun b hlt hb=>hlow b hlt hb)⟩;simpa [Act.put,Array.getElem?_setIfInBounds,hne] using h3
  obtain ⟨H2,_,_⟩:=H.unframe H';exact k v p h e2 _ _ ⟨_,H2⟩
theorem ZfP {dd:Prop} {f:Nat} {ar h0:List (Nat×Ent)} {R:Value→PV→List (Nat×Ent)→Prop} {xs:Array Operand} {ats:Array TypeId} (K:List Nat) (d:Nat) (hc:∀args w,(callFunc f args).run P w= .ok (.enter f args) w) (hA:AFh dd P f ar h0 R)
 (k:∀v p h,R v p h→aL P c ops Q rest ⟨put d (v,p) sL,h++KV K hP⟩) (hw:ZK ops sL o=some true:=by exact rfl) (hd:o.dst=some d:=by exact rfl) (hn:d<c.nt:=by exact Xa rfl)
 (ho:o.op= .call {callee:= .value (.func f),args:=xs,argTypes:=ats}:=by exact rfl) (hx:evL sL xs.toList=some (ar.map (·.2)):=by exact rfl) (hh0:h0=Ji K hP:=by exact rfl) (hio:Gc 0 ar=true:=by exact rfl) (hdd:c.dr→dd:=by first|exact id|exact fun h=>h.elim|exact fun _=>trivial):aL P c ops Q (o::rest) (⟨sL,hP⟩:St):=by
 subst hh0
 refine Zfn K d hw hd hn (fun a w F H=>?_) hA hio hdd k
 obtain ⟨h1,h2⟩:=Gk H.rd hx
 refine ⟨?_,h2⟩
 have hargs:xs.map a.eval=(ar.map (·.2.1)).toArray:=by
  rw [show ar.map (·.2.1)=(ar.map (·.2)).map (·.1) by rw [Xs];rfl,←h1,←VG,VU]
 simp [execOp,ho,resolve,Act.eval,Deferred.ofValue,invoke,hargs,hc]
theorem Rl {l e k n g cap:Nat} {h:Value} {a:Act} (hh:h= .slice (some ⟨g,0,none⟩) n cap) (zs:List Value) (h1:zs.all Value.oneCell'=true):
 ∀ (m i j:Nat) (cs:List PV) (w:World) (F:Nat→BS) (hp:List (Nat×Ent)),HoldsF c ⟨sL,hp⟩ F a w→lk hp l=some (h, .own e k n cs)→i+m=zs.length→j+i+m≤cs.length→
  ∃w' F' hp',(storeCells ⟨g,j,none⟩ (zs.drop i) i).run P w= .ok () w'∧HoldsF c ⟨sL,hp'⟩ F' a w'∧lk hp' l=some (h, .own e k n (Jo cs (j+i) ((zs.drop i).map PV.val)))∧∀l',l'≠l→lk hp' l'=lk hp l'
 | 0,i,j,cs,w,F,hp,H,hl,hi,hj=>by
   refine ⟨w,F,hp,?_,H,?_,fun _ _=>rfl⟩
   · rw [XI oM];rfl
   · rw [XI (by omega:zs.length≤i)];exact hl
 | m +1,i,j,cs,w,F,hp,H,hl,hi,hj=>by
   have hi':i<zs.length:=oM;obtain ⟨v,hv⟩:=Z6 hi';have hv1:v.oneCell'=true:=Xf.1 h1 v (Xb hv);obtain ⟨F1,H1⟩:=LM H hl hh (show j+i<cs.length by omega) (Shr.val v);obtain ⟨w',F',hp2,hr,H2,hl2,hsame⟩:=Rl hh zs h1 m (i+1) j (cs.set (j+i) (.val v)) _ F1 _ H1 (ZD _ _ _) oM (by simp;omega);refine ⟨w',F',hp2,?_,H2,?_,fun l' hne=>by rw [hsame l' hne,ZU (Ne.symm hne)]⟩
   · obtain ⟨xs,Fs,hrow,hlen,_⟩:=(H.tr l _ _ hl).row;subst hh;obtain ⟨z,hz⟩:=Z6 (show j+i<xs.length by omega);have hcell:=WC hrow hz;have hfr:=hrow.frozenAt (j+i);rw [Vm (Ze hv),show zs[i]'(Ze hv)=v from (Xh.1 hv).2,storeCells];simp only [Sem.run_bind,run_store _ _ _ _ _ hv1,Y3,hcell,hfr,Vu,if_false,Result.andThen_ok];exact hr
   · rw [hl2,Vm hi',show zs[i]'hi'=v from (Xh.1 hv).2,Xk,Jo,Vt]
theorem Di:∀(ps cs:List PV) (j:Nat),(Jo cs j ps).take j=cs.take j
 |[],_,_=>rfl
 | p::ps,cs,j=>by
   rw [Jo];have h:=Di ps (cs.set j p) (j+1);have h2:=congrArg (List.take j) h;rw [List.take_take,List.take_take,Ua (Vs j)] at h2;rw [h2,List.take_set_of_le (Xg j)]
theorem ZbD {z:Value} (h:z.cells.toList.all Value.oneCell'=true) (m:Nat):(Builtin.zeroCells z.cells m).toList.all Value.oneCell'=true:=by
 rw [Xf]
 intro v hv
 unfold Builtin.zeroCells at hv
 rw [VG,Xm] at hv
 obtain ⟨i,_,rfl⟩:=hv
 rw [getElem!_def]
 cases hc:z.cells[i % z.cells.size]? with
 |none=>rfl
 |some u=>exact Xf.1 h u (by rw [←VM] at hc;exact Xb hc)
theorem Zdd {t e kk bytes n i:Nat} {z:Value} {x:Operand} {h:Value} {q:PV} {cs:List PV} (l:Nat) (hT:ElT P t e kk bytes z) (hz0:z.cells.toList.all Value.oneCell'=true) (hw:ZK ops sL o=some true) (hd:o.dst=none)
 (ho:o.op= .call {callee:= .builtin .clear,args:= #[x],argTypes:= #[t]}) (hx:ev sL x=some (slc h i n kk,q)) (hl:lk hP l=some (h, .own e kk n cs)) (hi:i≤n)
 (k:∀cs',cs'.length=cs.length→cs'.take (i*kk)=cs.take (i*kk)→aL P c ops Q rest ⟨sL,put l (h, .own e kk n cs') hP⟩):aL P c ops Q (o::rest) (⟨sL,hP⟩:St):=
 YH hw fun a w F H=>by
  have hxv:=(H.rd.ev hx).1;obtain ⟨xs,Fs,hrow,hlen,_⟩:=(H.tr l _ _ hl).row;obtain ⟨inf,hi1,hi2,hi3,hi4⟩:=hT.info;have hback:Holds c ⟨sL,put l (h, .own e kk n cs) hP⟩ a w:=⟨F,H.less (fun _ _ h=>h) fun t x hx=>by
   rcases Z0 hx with ⟨rfl,rfl⟩|⟨hne,e1⟩
   · exact hl
   · exact e1⟩
  rcases Y2 hrow with ⟨rfl,rfl,rfl⟩|⟨g,cap,rfl,hc1,hc2,hc3⟩
  · have hi0:i=0:=oM;subst hi0;unfold Oper.wp execOp;simp [ho,hxv,resolve,invoke,builtin,Builtin.clear_,slc,run_underlying hT.ht,Oper.upon,hd,Act.put];exact k cs rfl rfl _ _ hback
  · rcases XY i n with hlt|hge
    · (have hlen':cs.length=n*kk:=by rw [hlen,hrow.1]);(have hzs:(Builtin.zeroCells z.cells (n-i)).toList.length=(n-i)*kk:=by rw [X4,size_zeroCells,hT.hz]);(have hmul:i*kk+(n-i)*kk=n*kk:=by rw [←Vf];congr 1;omega);obtain ⟨w',F',hp',hr,H',hl',hsame⟩:=Rl (P:=P) rfl (Builtin.zeroCells z.cells (n-i)).toList (ZbD hz0 _) _ 0 (i*kk) cs w F hP H hl (Xy _) oM;simp only [Va,VT] at hr hl';have hcap:cap≠i:=oM;obtain ⟨m,hm⟩:∃m,n-i=m+1:=⟨n-i-1,oM⟩;simp only [slc,hcap,if_false,Option.map_some,Y3,Xy,hm] at hxv;rw [hm] at hr hl';unfold Oper.wp execOp;simp [ho,hxv,resolve,invoke,builtin,Builtin.clear_,run_underlying hT.ht,zeroValue,typeInfo,hi1,hi2,hr,Oper.upon,hd,Act.put];refine k (Jo cs (i*kk) ((Builtin.zeroCells z.cells (m+1)).toList.map PV.val)) (Hn _ _ _) (Di _ _ _) _ _ ⟨F',H'.less (fun _ _ h=>h) fun t x hx=>?_⟩;rcases Z0 hx with ⟨rfl,rfl⟩|⟨hne,e1⟩
      · exact hl'
      · show lk hp' t=_;rw [hsame t (Ne.symm hne)];exact e1
    · have hin:i=n:=oM;subst hin;by_cases hca:cap=i
      all_goals
       unfold Oper.wp execOp;simp [ho,hxv,resolve,invoke,builtin,Builtin.clear_,slc,hca,run_underlying hT.ht,Oper.upon,hd,Act.put];exact k cs rfl rfl _ _ hback
theorem Zej {t e k r n:Nat} {x y:Operand} {v:Value} {q:PV} {cs:List PV} {st:St} (hT:SlT P t e k=true) (ho:o.op= .binOp .eql t x y r:=by exact rfl) (hx:ev st.slots x=some (v, .sl n cs):=by exact rfl) (hy:ev st.slots y=some (.slice none 0 0,q):=by exact rfl):
 YE P st o (fun u=>u= .bool false∨(u= .bool true∧n=0)) (.val (.bool (match v with| .slice a _ _=>a.isNone|_=>false))):=fun M F a w H=>by
 obtain ⟨hv,hS⟩:=H.ev hx
 have hyv:=(H.ev hy).1
 cases hS with
 | emp ad cp hc ha=>
   refine ⟨.bool ad.isNone,?_, .val _,fun N W _ _ _=>?_⟩
   · cases ad with
     |none=>exact .inr ⟨rfl,rfl⟩
     |some _=>exact .inl rfl
   · simp [execOp,ho,hv,hyv,eqGuard,Go.Lib.run_eql_slice_nil W t e ad _ _ 0 0 (SlT.und hT)]
 | sl b off n cp cs vs hn hc hcell hT'=>
   refine ⟨.bool false, .inl rfl, .val _,fun N W _ _ _=>?_⟩;simp [execOp,ho,hv,hyv,eqGuard,Go.Lib.run_eql_slice_nil W t e (some ⟨b,off,none⟩) _ _ 0 0 (SlT.und hT)]
theorem Zek {l:List Oper} (h:List (Nat×Ent)) (hs:Sub h hP) (k:aL P c ops Q l ⟨sL,h⟩):aL P c ops Q l (⟨sL,hP⟩:St):=fun a w ⟨F,H⟩=>k a w ⟨F,H.less (fun _ _ h=>h) fun t x hx=>hs.lk hx⟩
end
end Go.En
namespace Go.Proofs.YtmkojdfiadbeeaaGreat
open Go.RowKit Go.Cb Go.En Tryz
set_option linter.all false
set_option maxRecDepth 100000
theorem SI:ElT prog 22 28 2 32 (.agg #[(.slice none 0 0),(.int .i64 0)]):=⟨underlying22,by kernel_rfl,rfl,dC⟩
theorem ζT {α:Type}:∀(ps:List PV) (a b c:List PV) (j:Nat),a.length=j→b.length=ps.length→Jo (a++b++c) j ps=a++ps++c
 | [],a,b,c,j,ha,hb=>by
   have:b=[]:=XC hb;subst this;rfl
 | p ::ps,a,x::b,c,j,ha,hb=>by
   rw [Jo];have h1:(a++(x::b)++c).set j p=(a++[p])++b++c:=by
    subst ha;rw [XM,Vh _ _ (Xg _),Vc];simp
   rw [h1,ζT (α:=α) ps (a++[p]) b c (j+1) (by simp [ha]) (by simpa using hb)];simp
def Kk {α:Type} (p:α→Bool) (l:List α) (k:Nat):List α:=(l.take k).filter fun s=> !p s
theorem Gy {α:Type} {p:α→Bool} {l:List α} {k:Nat} {x:α} (hx:l[k]? =some x) (h:p x=true):Kk p l (k+1)=Kk p l k:=by
 unfold Kk;rw [Z7 hx,VY];simp [h]
theorem P2 {α:Type} {p:α→Bool} {l:List α} {k:Nat} {x:α} (hx:l[k]? =some x) (h:p x=false):Kk p l (k+1)=Kk p l k++[x]:=by
 unfold Kk;rw [Z7 hx,VY];simp [h]
theorem T6 {α:Type} (p:α→Bool) (l:List α) (k:Nat):(Kk p l k).length≤k:=by
 unfold Kk
 have h1:=VP (fun s=> !p s) (l.take k)
 rw [XW] at h1
 omega
def T7 {α:Type} (p:α→Bool) (l:List α) (k:Nat):List α:=Kk p l k++l.drop (Kk p l k).length
theorem ζU {α:Type} {p:α→Bool} {l:List α} {k:Nat} {x:α} (hx:l[k]? =some x):(T7 p l k)[k]? =some x:=by
 have h:=T6 p l k
 unfold T7
 rw [Vb h,VE,show (Kk p l k).length+(k-(Kk p l k).length)=k by omega]
 exact hx
theorem Zde {α:Type} (p:α→Bool) (l:List α) {k:Nat} (hk:k≤l.length):(T7 p l k).length=l.length:=by
 have h:=T6 p l k
 unfold T7
 rw [Xe,List.length_drop];omega
theorem EF {α:Type} {f:α→List PV} {m:Nat} (hf:∀x,(f x).length=m) {p:α→Bool} {l:List α} {k:Nat} {x:α} (hx:l[k]? =some x) (h:p x=false):
 Jo ((T7 p l k).flatMap f) ((Kk p l k).length*m) (f x)=(T7 p l (k+1)).flatMap f:=by
 have hl:=T6 p l k
 have hlt:=Ze hx
 unfold T7
 rw [P2 hx h,Xe,Xo,Vm (show (Kk p l k).length<l.length by omega)]
 rw [VQ,Xq,←XM,ζT (α:=α) _ _ _ _ _ (YC hf _) (by rw [hf,hf]),VQ,VQ]
 simp
theorem D8 {α:Type} {p:α→Bool} {l:List α}:(idx p l= -1∧∀s∈l,p s=false)∨∃i x,idx p l=(i:Nat)∧l[i]? =some x∧p x=true∧∀j y,j<i→l[j]? =some y→p y=false:=by
 unfold idx
 cases h:l.findIdx? p with
 |none=>exact .inl ⟨rfl,by rw [Us] at h;exact h⟩
 | some i=>
   rw [VC] at h;obtain ⟨hi,hp,hn⟩:=h;exact .inr ⟨i,l[i],rfl,sM,hp,fun j y hj hy=>by
    have:=hn j hj;obtain ⟨hj',rfl⟩:=Xh.1 hy;simpa using this⟩
theorem ZbE {α:Type} {p:α→Bool} {l:List α} {k:Nat} (h:∀j y,j<k→l[j]? =some y→p y=false):Kk p l k=l.take k:=by
 unfold Kk
 rw [Uq]
 intro a ha
 obtain ⟨i,hi,rfl⟩:=VD ha
 rw [XW] at hi
 have:=h i _ oM (by rw [Xx (by omega:i<l.length)])
 simp [List.getElem_take,this]
theorem Zdf (L:List Var):(L.flatMap Wd).all En.one=true:=by rw [List.all_flatMap,Xf];intro x _;rfl
theorem P3 (e n:Nat) (l:List Var) (hn:n=l.length):share (.own e 2 n (l.flatMap Wd))=Wi l:=by
 subst hn
 rw [share,ZZ,List.map_flatMap];rfl
theorem D9 (f : Nat) (caps:List PV) (p:Var→Bool) (l:List Var) (hl:l.length≤1000000) (hv g:Value) (hc:∀args w,(callFunc f args).run prog w= .ok (.enter f args) w) (hf:∀s∈l,AF prog f (.agg (Wd s)::caps) (· =Zo (p s))):
 AFh False prog 10 [(0,hv, .val hv),(1,g, .fn f caps)] [(1000,hv, .own 28 2 l.length (l.flatMap Wd))] (fun v q h=>q= .val v∧h=[(1000,v, .own 28 2 (l.filter fun s=> !p s).length ((l.filter fun s=> !p s).flatMap Wd))]):=by
 refine AFh.of_body 42 func10 rfl ntmps10 (Xa rfl) rfl ?_
 intro w0 M0 N0
 have hq:=P3 28 l.length l rfl
 refine Zd ?_
 (refine xL 4 Zb ?_<;>refine Zh ?_)
 (refine xL 8 Za (xL 9 Za ?_)<;>(refine cS 10 (cB rfl call43 (Lp f caps p l hc hf) ⟨⟨_,_,rfl,hq▸OA (l:=1000) rfl⟩,⟨_,_,rfl,Kw (x:= .tmp 9) rfl⟩,trivial⟩) fun v10 h=>?_;cases h)<;>refine xL 5 Zb ?_<;>refine Zh ?_)
 (refine xL 11 Za (xL 12 YY ?_)<;>refine Zc ?_)
 refine cX ?_ ?_<;>intro hb12
 · first|exact bN hb12|(
 refine Zd ?_;(refine xL 13 Za (xL 4 Zb ?_)<;>refine Zc ?_)
 refine ZeF [(1000,hv,PV.own 28 2 l.length (l.flatMap Wd))] (results10) rfl ⟨rfl,trivial⟩ ⟨rfl,?_⟩;rw [Uq.2 fun s hs=>?_];rcases D8 (p:=p) (l:=l) with ⟨_,h⟩|⟨i0,x0,h,_⟩
 · rw [h s hs];rfl
 · exfalso;omega)
 · first | exact bN hb12|(
 obtain ⟨i0,x0,hi0,hx0,hp0,hn0⟩:=(D8 (p:=p) (l:=l)).resolve_left fun h=>hb12 h.1;have hlt0:=Ze hx0;(have hk0:Kk p l (i0+1)=l.take i0:=by rw [Gy hx0 hp0,ZbE hn0]);rw [hi0];refine Zd ?_;(refine xL 14 Za (xL 15 ZB (xL 6 Zb ?_))<;>refine Zc ?_)
 refine Zw (ι:={q:Nat×Nat×List PV//q.1≤l.length∧q.2.1=(Kk p l q.1).length∧q.2.2=(T7 p l q.1).flatMap Wd}) (fun k=>⟨[(0,_,_),(1,_,_),(5, .int .i64 k.1.2.1,Zg k.1.2.1),(6, .int .i64 k.1.1,Zg k.1.1)],[(1000,hv, .own 28 2 l.length k.1.2.2)]⟩) (fun k=>l.length-k.1.1) ⟨(i0+1,i0,l.flatMap Wd),hlt0,(by dsimp only;rw [hk0,XW];omega),(by dsimp only;unfold T7;rw [hk0,XW,Ua oM,Um])⟩ (fun a w H=>H.weaken ⟨rfl,rfl,rfl,rfl,trivial⟩ ⟨rfl,trivial⟩) ?_;rintro ⟨⟨k,j,row⟩,hk,hj,hr⟩;dsimp only;dsimp only at hk hj hr;have hle:=T6 p l k;have hjl:j≤l.length:=oM;have hjl2:(j:Int)≤1000000:=oM;(have hrl:row.length=l.length*2:=by rw [hr,YC Z1,Zde p l hk]);refine Zd ?_;(refine xL 16 Za (xL 17 Za (xL 18 (Wj 1000 Z2) (xL 19 ZN ?_)))<;>refine Zc ?_)
 refine cX ?_ ?_<;>intro hb19
 · first | exact bN hb19|(
 obtain ⟨x,hx⟩:=Zj (show k<l.length by omega);(have e1:(row.drop (k*2)).take 2=Wd x:=by rw [hr];exact Yp Z1 _ _ _ (ζU hx));(have e2:k*2+2≤row.length:=by rw [hr];exact YI Z1 (ζU hx));(have e3:j*2+2≤row.length:=by rw [hrl];have:=Ze hx;omega);refine Zd ?_;(refine xL 22 Za (xL 23 Za (xL 24 (Z4 1000 Z2) ?_))<;>(refine yL 25 (YG 1000 YJ) fun v25 h=>?_;cases h)<;>refine ZV [(.slice none 0 0),(.int .i64 0)] 2 7 Gp fun h7=>?_<;>refine YN 7 YJ ?_<;>refine Zh ?_)
 (refine xL 26 Za ?_<;>(refine yL 27 (YG 7 YJ) fun v27 h=>?_;cases h)<;>(refine cS 28 (Li (f:=f) (ps:=caps) rfl ⟨_,rfl⟩ hc rfl (hf x (Xb hx))) fun v28 h=>?_;cases h)<;>refine xL 29 Yj ?_<;>refine Zc ?_)
 refine cX ?_ ?_<;>intro hb29
 · first |exact bN hb29|(
 refine Zd ?_;(refine xL 30 Za (xL 31 Za ?_)<;>(refine yL 32 (YG 7 YJ) fun v32 h=>?_;cases h)<;>refine xL 33 (Z4 1000 Z2) ?_<;>refine YN 1000 YJ ?_<;>refine Zh ?_)
 (refine xL 34 Za (xL 35 ZB (xL 5 Zb ?_))<;>refine Zh ?_)
 (refine xL 20 Za (xL 21 ZB (xL 6 Zb ?_))<;>refine Zc ?_)
 first
  | (exact Zf (
      ⟨(k+1,j,row),Ze hx,(by dsimp only;rw [Gy hx (by simpa using hb29)];exact hj),(by dsimp only;rw [hr];unfold T7;rw [Gy hx (by simpa using hb29)])⟩
      ) (by dsimp only;omega) ⟨rfl,rfl,rfl,rfl,trivial⟩ ⟨rfl,trivial⟩)
  | (exact Zf (
      ⟨(k+1,j+1,Jo row (j*2) (Wd x)),Ze hx,(by show j+1=(Kk p l (k+1)).length;rw [P2 hx (by simpa using hb29)];simp [hj]),(by show Jo row (j*2) (Wd x)=(T7 p l (k+1)).flatMap Wd;rw [hr,hj];exact EF Z1 hx (by simpa using hb29))⟩
      ) (by dsimp only;omega) ⟨rfl,rfl,rfl,rfl,trivial⟩ ⟨rfl,trivial⟩))
 · first |exact bN hb29|(
 refine Zd ?_;(refine xL 20 Za (xL 21 ZB (xL 6 Zb ?_))<;>refine Zc ?_)
 first
  | (exact Zf (
      ⟨(k+1,j,row),Ze hx,(by dsimp only;rw [Gy hx (by simpa using hb29)];exact hj),(by dsimp only;rw [hr];unfold T7;rw [Gy hx (by simpa using hb29)])⟩
      ) (by dsimp only;omega) ⟨rfl,rfl,rfl,rfl,trivial⟩ ⟨rfl,trivial⟩)
  | (exact Zf (
      ⟨(k+1,j+1,Jo row (j*2) (Wd x)),Ze hx,(by show j+1=(Kk p l (k+1)).length;rw [P2 hx (by simpa using hb29)];simp [hj]),(by show Jo row (j*2) (Wd x)=(T7 p l (k+1)).flatMap Wd;rw [hr,hj];exact EF Z1 hx (by simpa using hb29))⟩
      ) (by dsimp only;omega) ⟨rfl,rfl,rfl,rfl,trivial⟩ ⟨rfl,trivial⟩)))
 · first|exact bN hb19|(
 have hkl:k=l.length:=oM;refine Zd ?_;(refine xL 36 Za (xL 37 Za ?_)<;>refine xL 38 (Oz (i:=j) (j:=l.length) 1000 Z2 rfl rfl rfl rfl rfl hjl (Xg _)) ?_<;>(refine Zdd 1000 SI dC rfl rfl rfl rfl rfl hjl ?_;intro cs2 hcs1 hcs2)<;>refine Zh ?_)
 (refine xL 39 Za (xL 40 Za ?_)<;>refine xL 41 (Oz (i:=0) (j:=j) 1000 Z2 rfl rfl rfl rfl rfl (XA _) hjl) ?_<;>refine xL 4 Zb ?_<;>refine Zc ?_)
 refine Y4 (Zf3 (l:=1000) j rfl hjl) fun _=>?_;refine ZeF [(1000,slc hv 0 j 2,PV.own 28 2 j (cs2.take (j*2)))] (results10) rfl ⟨rfl,trivial⟩ ⟨rfl,?_⟩;(have hF:(l.filter fun s=> !p s)=Kk p l k:=by unfold Kk;rw [hkl,XD]);rw [hcs2,hr,hF,←hj];congr 4;unfold T7;rw [VQ,List.take_left' (by rw [YC Z1,hj])]))
theorem P4 (l:List Var) (hl:l.length≤1000000):AF prog 11 [Wi l] (· = .own 28 2 l.length (l.flatMap Wd)):=by
 refine AF.of_body 8 func11 rfl ntmps11 (Xa rfl) ?_
 intro w0 M0 vs hl hv
 obtain ⟨v0,rfl⟩:=WO hl
 clear hl hv
 have f3:(l.flatMap Wd).length=l.length*2:=YC Z1 l
 have f4:(l.flatMap Wd).all En.one=true:=Zdf l
 refine Zd ?_
 (refine xL 2 Zb ?_<;>refine Zh ?_)
 (refine xL 3 Za ?_<;>(refine yL 4 (Zej Z2) fun v4 hv4=>?_;rcases hv4 with rfl|⟨rfl,hn0⟩)<;>refine Zc ?_)<;>(
 refine cX ?_ ?_<;>intro hb4
 · first|exact bN hb4|(
 refine Zd ?_;(refine xL 2 Zb ?_<;>refine Zc ?_)
 have hl0:l=[]:=XC hn0;subst hl0;refine Y4 (Kl 200 28 2 rfl) fun _=>?_;exact LN 200 (results11) rfl rfl rfl)
 · first|exact bN hb4|(
 refine Zd ?_;(refine ZeX 5 SI fun h5 ho5=>?_<;>refine xL 6 Za ?_<;>refine DW 5 7 SI (fun h7 ho7=>?_) f3 f4<;>refine xL 2 Zb ?_<;>refine Zc ?_)
 refine LN 7 (results11) rfl rfl ?_;rw [Xy,Ve]))
structure Mv where
 src:Int
 dst:Int
 sym:Int
structure Aut where
 n:Int
 syms:Int
 start:List Int
 fin:List Int
 moves:List Mv
theorem G5:∀(n:Nat) (L:List Int),L.Nodup→(∀s∈L,0≤s∧s<n)→L.length≤n
 |0,[],_,_=>Xg _
 |0,x::_,_,h=>by have:=h x (XG ..);omega
 | n +1,L,hn,h=>by
   have h1:=G5 n (L.erase (n:Int)) (hn.erase _) fun s hs=>by
    have h2:=(hn.mem_erase_iff).1 hs;have h3:=h s h2.2;have:=h2.1;omega
   have h2:=List.length_erase (a:=(n:Int)) (l:=L);split at h2<;>omega
inductive Rch (a:Aut) (l:List Int):Int→Prop
 |base {s:Int} (h:s∈l):Rch a l s
 |step {s:Int} {m:Mv} (h:Rch a l s) (hm:m∈a.moves) (hs:m.src=s) (hc:m.sym= -1):Rch a l m.dst
def cntD (far:List Int):Nat:=far.countP fun d=>decide (0≤d)
structure FarOk (n:Nat) (far:List Int):Prop where
 len:far.length=n
 lo:∀d∈far,-1≤d
 hi:∀d∈far,d<cntD far
def InS (a:Aut) (S:List Int):Prop:=∀s∈S,0≤s∧s<a.n
end Go.Proofs.YtmkojdfiadbeeaaGreat
