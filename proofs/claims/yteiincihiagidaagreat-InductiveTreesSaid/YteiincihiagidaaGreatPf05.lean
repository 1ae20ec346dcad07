/-
  Walks of functions and plain laws of the chapter, as the claim needs them.
-/
import Derived.WalkKit
import Derived.ProofKit
import Derived.OpenShut
import Derived.ShutString
import Derived.ChangeOld
import Derived.Below
import Derived.Carry
import Derived.Deep.Slices
import Derived.Maps.RangeRun
import Derived.DeepKeys3
import Derived.Lib.SliceRun
import Derived.Test.YteiincihiagidaaGreatPf04
import Derived.Test.YteiincihiagidaaGreatPf02
import Derived.Test.YteiincihiagidaaGreatPf03
import Derived.Test.YteiincihiagidaaGreatMShelfC
import Derived.Test.YteiincihiagidaaGreatMShelfD
import Derived.Test.YteiincihiagidaaGreatPf01
set_option linter.all false
set_option maxRecDepth 100000
set_option maxHeartbeats 8000000
namespace Go.Proofs.YteiincihiagidaaGreat
open Go.RowKit Go.Cb Go.En Tryz
theorem ED:AggT prog 104 2=true:=kR
theorem EE:AggT prog 156 2=true:=kR
theorem RX:AggT prog 41 2=true:=kR
theorem Zfu:ElT prog 110 30 1 24 (.slice none 0 0):=⟨underlying110,by kernel_rfl,rfl,dC⟩
theorem Zfv:ElT prog 151 142 1 8 (.map none):=⟨underlying151,by kernel_rfl,rfl,dC⟩
theorem ZaR:ElT prog 30 41 2 32 (.agg #[(.slice none 0 0),(.int .i64 0)]):=⟨underlying30,by kernel_rfl,rfl,dC⟩
theorem D7:FldT prog 104 0 0=true:=kR
theorem T3:FldT prog 104 1 1=true:=kR
theorem Gm:FldT prog 156 0 0=true:=kR
theorem D8:FldT prog 156 1 1=true:=kR
theorem PN:FldT prog 41 0 0=true:=kR
theorem PO:FldT prog 41 1 1=true:=kR
theorem O9:MpT prog 142 9 3 .string (.int .i64 0):=⟨underlying142,underlying9, .inl rfl,by show ZeroT _ _ _;unfold ZeroT;kernel_rfl⟩
theorem O':NoAgg prog 142=true:=kR
theorem Sd:NoAgg prog 30=true:=kR
theorem Rl:NoAgg prog 39=true:=kR
theorem J4:NoAgg prog 3=true:=kR
theorem Oj:NoAgg prog 56=true:=kR
theorem ZlK:NoAgg prog 9=true:=kR
theorem J5:SlT prog 110 30 1=true:=kR
theorem RY:SlT prog 151 142 1=true:=kR
theorem ζc:SlT prog 152 156 2=true:=kR
theorem G':SlT prog 30 41 2=true:=kR
theorem ZaS:SlT prog 39 9 1=true:=kR
theorem Ol:SlT prog 56 39 1=true:=kR
theorem ZiZ:J2 prog 41=some ((.agg #[(.slice none 0 0),(.int .i64 0)]),([0,1]:List Nat).map fun o=>(o,1)):=kR
theorem Zfw:(prog.info? 142).map (·.size)=some 1:=kR
theorem Zi0:(prog.info? 30).map (·.size)=some 1:=kR
theorem ZlL:(prog.info? 3).map (·.size)=some 1:=kR
theorem Zfx:ZeroT prog 156 (.agg #[(.int .i64 0),(.slice none 0 0)]):=by unfold ZeroT;kernel_rfl
theorem ZaT:ZeroT prog 41 (.agg #[(.slice none 0 0),(.int .i64 0)]):=by unfold ZeroT;kernel_rfl
theorem ZaU {sL hP:List (Nat×Ent)} {t:Nat} {q:PV} (ht:lk sL t=some (.slice none 0 0,q)):J1 (⟨sL,hP⟩:St) (fun _:Unit=>⟨put t (.slice none 0 0, .sl 0 []) sL,hP⟩):=fun c a w ⟨F,H⟩=>by
 refine ⟨(),F,H.toHeapF,fun s u r hs=>?_,H.size,H.df⟩
 rcases ZZ hs with ⟨rfl,e1⟩|⟨_,hs'⟩
 · cases e1;exact ⟨(H.sl t _ _ ht).1, .emp none 0 (by unfold maxLen;omega) (fun _=>rfl)⟩
 · exact H.sl s u r hs'
theorem Zi1 (parts:List (List BA)) (s:BA):(Ka (skv (YA 0 parts)) (.string s)).isSome=decide (0≤partOf parts s):=by
 rw [Lv,O2,Option.isSome_map,Pb]
theorem Zfy {parts:List (List BA)} {l:List Var} {x:Var} {s:BA} (hx:x∈l) (hs:s∈x.acts) (h:¬0≤partOf parts s):GP parts l=false:=by
 cases hI:GP parts l with
 |false=>rfl
 | true=>
   unfold GP at hI;rw [Xm] at hI;have:=hI x hx;rw [Xm] at this;exact Qc (Qd (this s hs)) h
def RSp (x:List (List Var)×Int) (p:PV):Prop:=p= .tup [ZeV x.1,Zc x.2]
theorem Om {l:List Var} {c:Cut} {n:Int} (h:GA l c=([],n)):RSp (GA l c) (.tup [.sl 0 [],Zc n]):=by rw [h];rfl
theorem Zdq {l:List Var} {c:Cut} (h:(validVars l&&WC c)=false):GA l c=([],1):=by unfold GA;rw [Qb h]
theorem ZlM {l:List Var} {c:Cut} (h1:validVars l=true) (h2:WC c=true) (h:GP c.parts l=false):GA l c=([],8):=by unfold GA;rw [h1,h2];simp [h]
def G2 (e:Nat) (r:List Var):PV:= .own e 2 r.length (r.flatMap WM)
def oAt (r:List Var):PV:= .omap (skv (Pg KU 0 r))
theorem Zfz (n e:Nat):∀(i:Nat) (p p':PV),(List.replicate n (PV.val (.slice none 0 0)))[i]? =some p→((List.replicate n ([]:List Var)).map (G2 e))[i]? =some p'→ZgE p p':=fun i p p' h1 h2=>by
 rw [List.map_replicate] at h2
 have e1:=VS (Xc h1)
 have e2:=VS (Xc h2)
 exact .inr ⟨e1,_,_,e2⟩
theorem Zi2 {n k:Nat} {v:PV} (hk:k<n):(((List.replicate k (PV.omap [])++List.replicate (n-k) (PV.val (.map none))).set k v).set k (.omap []))=List.replicate (k+1) (PV.omap [])++List.replicate (n-(k+1)) (PV.val (.map none)):=by
 rw [X2,VE _ _ sM,XN,Vm,show n-k=(n-(k+1))+1 by omega,List.replicate_succ,List.set_cons_zero,List.replicate_succ',XA]
 rfl
theorem ZlN (n:Nat):List.replicate n (PV.omap [])++List.replicate (n-n) (PV.val (.map none))=(List.replicate n ([]:List Var)).map oAt:=by
 rw [Vm,List.map_replicate];simp;exact .inr rfl
theorem Zi3 {parts:List (List BA)} {s:BA} (h:0≤partOf parts s):WX (YA 0 parts) s=some (.int .i64 (partOf parts s)):=by
 have h1:=Pb parts s
 rw [U9 h] at h1
 obtain ⟨n,hn⟩:=Option.isSome_iff_exists.1 h1
 rw [O2,Ze9,hn];rfl
theorem Zdr {c:Cut} (h:WC c=true):1≤c.kind∧c.kind≤4∧2≤c.parts.length:=by
 simp only [WC,Xi,U8] at h
 exact ⟨h.1.1.1,h.1.1.2,h.1.2⟩
theorem Zi4 {l:List Var} {c:Cut} (h1:validVars l=true) (h2:WC c=true) (h3:GP c.parts l=true) (h:KH c (List.replicate c.parts.length []) l=none):GA l c=([],19):=by unfold GA;rw [h1,h2,h3,h];simp
theorem Zds {c:Cut} {S:List (List Var)} {l:List Var} {k:Nat} {x:Var} (hx:l[k]? =some x):KH c S (l.drop k)=match WU c x.acts with|none=>none|some ps=>KH c (ps.foldl (JI x.count) S) (l.drop (k+1)):=by
 rw [Jw hx,KH]
 cases WU c x.acts<;>rfl
def Zq0 (l:List Var) (c:Cut) (x:Nat×List (List Var)):Prop:=x.1≤l.length∧x.2.length=c.parts.length∧WR x.2∧∃S,RelR x.2 S∧RE (x.1*1000300) S∧KH c (List.replicate c.parts.length []) l=KH c S (l.drop x.1)
theorem Zq1 (l:List Var) (c:Cut):Zq0 l c (0,List.replicate c.parts.length []):=⟨sM,sM,ZqZ _,_,ZlI _,by rw [X8];exact ZeS _,rfl⟩
def Zi5 (c:Cut) (S:List (List Var)) (ps:List Piece) (cnt:Int) (k:Nat) (y:Nat×List (List Var)):Prop:=y.1≤ps.length∧y.2.length=c.parts.length∧WR y.2∧∃S',RelR y.2 S'∧RE (k*1000300+y.1) S'∧ps.foldl (JI cnt) S=(ps.drop y.1).foldl (JI cnt) S'
theorem Zi6 {c:Cut} {S R:List (List Var)} {ps:List Piece} {cnt:Int} {k i:Nat} {p:Piece} (h:Zi5 c S ps cnt k (i,R)) (hp:ps[i]? =some p) (hw:WOk p.word) (h0:0≤cnt) (h1:cnt≤1048576):Zi5 c S ps cnt k (i+1,ζb cnt R p):=by
 obtain ⟨a1,a2,a3,S',a4,a5,a6⟩:=h
 have hlt:=Zd hp
 refine ⟨hlt,by show (ζb cnt R p).length=_;rw [Zdn];exact a2,a3.put hw,JI cnt S' p,a4.put,?_,?_⟩
 · have h9:=ZcE (p:=p) h0 h1 a5;dsimp only at h9 ⊢;rw [Vw] at h9;exact h9
 rw [a6]
 show (ps.drop i).foldl _ _=_
 rw [Jw hp];rfl
theorem Zq2 {c:Cut} {S R:List (List Var)} {k:Nat} (ps:List Piece) (cnt:Int) (h1:R.length=c.parts.length) (h2:WR R) (h3:RelR R S) (h4:RE (k*1000300) S):Zi5 c S ps cnt k (0,R):=by
 refine ⟨Xg _,h1,h2,S,h3,?_,?_⟩
 · dsimp only;rw [VZ];exact h4
 · dsimp only;rw [Vk]
theorem ZlO {l:List Var} {c:Cut} {S R:List (List Var)} {ps:List Piece} {cnt:Int} {k i:Nat} (h:Zi5 c S ps cnt k (i,R)) (hi:ps.length≤i) (hk:k<l.length) (hp:ps.length≤1000300) (hsp:KH c (List.replicate c.parts.length []) l=KH c (ps.foldl (JI cnt) S) (l.drop (k+1))):Zq0 l c (k+1,R):=by
 obtain ⟨a1,a2,a3,S',a4,a5,a6⟩:=h
 refine ⟨hk,a2,a3,S',a4,fun r hr=>?_,?_⟩
 · have:=a5 r hr;have h2:k*1000300+i≤(k+1)*1000300:=by rw [X1];change i≤ps.length at a1;omega
   exact ⟨XJ this.1 h2,fun x hx=>⟨(this.2 x hx).1,Int.le_trans (this.2 x hx).2 (Int.mul_le_mul_of_nonneg_right (Int.ofNat_le.2 h2) dC)⟩⟩
 · rw [hsp,a6];show KH c ((ps.drop i).foldl _ _) _=_;rw [XU hi];rfl
theorem Zi7 (a b:List BA) (ha:WOk a) (hb:WOk b) (h:KU a=KU b):a=b:=by
 refine Zdk ha.2 hb.2 ?_
 have:=congrArg (fun s:BA=>s.data.toList) h
 simpa [KU] using this
structure Met (r:List Var) (pw:List BA) (cnt:Int) (hd:Value) (r':List Var) (ix:Nat) (z:Var):Prop where
 one:hd.oneCell'=true
 at_:r'[ix]? =some z
 acts:z.acts=pw
 set:r'.set ix ⟨pw,z.count+cnt⟩=bump r pw cnt
 lo:0≤z.count
 hi:z.count≤400000000000000
 len:r'.length≤400000000
theorem EF (r:List Var):YV (r.flatMap WM)=r.flatMap WM:=by
 induction r with
 |nil=>rfl
 |cons x r ih=>rw [Xv,ON,ih];rfl
theorem ZfA (e n:Nat) (k:Nat) (T:List (List Var)) (h:n=T.length):share (.own e k n (T.map (G2 41)))=ZeV T:=by
 subst h
 have:YV (T.map (G2 41))=T.map Yx:=by
  rw [Z7,Xt];refine Uq fun r _=>?_;show share (.own _ 2 r.length (r.flatMap WM))=_;simp only [share,EF];rfl
 simp only [share,this];rfl
theorem Zi8 {sL hP:List (Nat×Ent)} {e l:Nat} {h:Value} {r:List Var} (hl:lk hP l=some (h, .own e 2 r.length (r.flatMap WM))):OI (⟨sL,hP⟩:St) h (Yx r):=by
 have:=Zie (sL:=sL) hl
 simp only [share,EF] at this
 exact this
theorem Zg4 (a:Var):¬cmpStrs a.acts a.acts<0:=fun h=>by have:=RP a.acts;unfold ltW at this;simp [h] at this
theorem ZlP (a b c:Var) (h1:cmpStrs a.acts b.acts<0) (h2:cmpStrs b.acts c.acts<0):cmpStrs a.acts c.acts<0:=Qd (Td (U9 h1) (U9 h2))
theorem ZlQ (a b c:Var) (h1:¬cmpStrs a.acts b.acts<0) (h2:¬cmpStrs b.acts c.acts<0):¬cmpStrs a.acts c.acts<0:=fun h=>by
 by_cases h3:cmpStrs b.acts a.acts<0
 · exact h2 (Qd (Td (U9 h3) (U9 h)))
 · have:=Sb (a:=a.acts) (b:=b.acts) (U' h1) (U' h3);rw [this] at h;exact h2 h
theorem Zq3 {r r':List Var} (hn:Nodup r) (hp:r'.Perm r) (hs:∀(i j:Nat) (a b:Var),i<j→r'[i]? =some a→r'[j]? =some b→¬cmpStrs b.acts a.acts<0):Asc r':=by
 have hn':Nodup r':=hn.perm hp.symm
 refine XS.2 fun i j hi hj hij=>?_
 have h1:=hs i j _ _ hij (Xx hi) (Xx hj)
 have h2:=(XS.1 hn') i j hi hj hij
 cases h3:ltW r'[i].acts r'[j].acts with
 |true=>rfl
 |false=>exact Qc (Sb h3 (U' h1)) h2
theorem ZlR {P:Program} {c:Ctx} {sL hP:List (Nat×Ent)} {ops:Array Oper} {Q:Exit→Act→World→Prop} {o:Oper} {rest:List Oper} {fs g k e d l:Nat} {cs:List PV} {h:Value} {q q':PV} {x y:Operand} {ats:Array TypeId} (hS:∀(p:Option Addr) (cap:Nat) (fv:Value) (w:World),Calls P fs #[.slice p 0 cap,fv] w fun e w'=>e= .returned (.tuple #[])∧w'=w)
 (hw:ZP ops sL o=some true) (hd:o.dst=some d) (hdn:d<c.nt) (ho:o.op= .call {callee:= .value (.func fs),args:= #[x,y],argTypes:=ats}) (hc:∀args w,(callFunc fs args).run P w= .ok (.enter fs args) w) (hx:ev sL x=some (h,q)) (hy:ev sL y=some (.func (.func g) #[] #[],q')) (hl:lk hP l=some (h, .own e k 0 cs))
 (kk:aL P c ops Q rest ⟨put d (.tuple #[], .val (.tuple #[])) sL,hP⟩):aL P c ops Q (o::rest) (⟨sL,hP⟩:St):=
 Y4 hw fun a w F H=>by
  have hxv:=(H.rd.ev hx).1;have hyv:=(H.rd.ev hy).1;obtain ⟨xs,Fs,hrow,_⟩:=(H.tr l _ _ hl).row;obtain ⟨p,cap,rfl⟩:∃p cap,h= .slice p 0 cap:=by
   rcases Wu hrow with ⟨h1,_⟩|⟨g,cap,h1,_⟩
   · exact ⟨_,_,h1⟩
   · exact ⟨_,_,h1⟩
  unfold Oper.wp;have hrun:(execOp a.eval o).run P w= .ok (.enter fs #[.slice p 0 cap, .func (.func g) #[] #[]]) w:=by
   have hev:a.eval (.func fs)= .func (.func fs) #[] #[]:=rfl;simp [execOp,ho,resolve,Deferred.ofValue,hev,invoke,hxv,hyv,hc]
  rw [hrun,Oper.upon_enter];refine (hS p cap _ w).mono fun e' w' ⟨he',hw'⟩=>?_;subst he' hw';rw [hd];exact kk _ _ ⟨F,H.put hdn (.val _)⟩
theorem ZlS {l:List Var} {c:Cut} {S:List (List Var)} (h1:validVars l=true) (h2:WC c=true) (h3:GP c.parts l=true) (h:KH c (List.replicate c.parts.length []) l=some S) (h4:S.any bigVars=true):GA l c=([],6):=by unfold GA;rw [h1,h2,h3,h];simp only [];simp [h4]
theorem ZlT {l:List Var} {c:Cut} {S:List (List Var)} (h1:validVars l=true) (h2:WC c=true) (h3:GP c.parts l=true) (h:KH c (List.replicate c.parts.length []) l=some S) (h4:S.any bigVars=false) (h5:S.any Jk=true):GA l c=([],5):=by unfold GA;rw [h1,h2,h3,h];simp only [];rw [h4,h5];rfl
theorem ZlU {l:List Var} {c:Cut} {S:List (List Var)} (h1:validVars l=true) (h2:WC c=true) (h3:GP c.parts l=true) (h:KH c (List.replicate c.parts.length []) l=some S) (h4:S.any bigVars=false) (h5:S.any Jk=false):GA l c=(S,0):=by unfold GA;rw [h1,h2,h3,h];simp only [];rw [h4,h5];rfl
theorem ZlV {f:List Var→Bool} {R:List (List Var)} (h:∀(i:Nat) (r:List Var),R[i]? =some r→f r=false):R.any f=false:=by
 rw [UF]
 intro r hr
 obtain ⟨i,hi⟩:=XR hr
 rw [h i r hi];simp
theorem Zg5 {f:List Var→Bool} {R:List (List Var)} {i:Nat} {r:List Var} (hr:R[i]? =some r) (h:f r=true):R.any f=true:=X4.2 ⟨r,Xc hr,h⟩
theorem ZlW (l : List Var) (c:Cut) (hl0:ζ5 l) (hs:∀p∈c.parts,∀s∈p,s.size≤140737488355328) (hn1:c.parts.length≤1000000):
 AF prog 70 [Yx l,ZbE c] (RSp (GA l c)):=by
 refine AF.b2 190 func70 rfl ntmps70 (Xa rfl) fun w0 M0 v0 v1 _ _=>?_
 refine Zh ?_
 refine ZV 3 2 fun h3=>?_;refine YJ ?_
 refine (Bool.eq_false_or_eq_true (WC c)).elim (fun hF=>?_) (fun hF=>?_)
 · (refine Zi ?_; refine yU (Zj 3 ED) fun v31=>?_;refine ZgB (R:=(· = .tup [.omap (skv (YA 0 c.parts)),Zv true])) 32 32 201 rfl rfl (Xa rfl) rfl rfl rfl (Dv rfl (call115) rfl ((Zc3 c hs).mono fun p ⟨q,e1,e2,_⟩=>by rw [e1,e2 hF,hF])) ?_;rintro p' rfl;refine ⟨_,_,rfl,rfl,rfl,?_⟩;intro h32 v201 _ hv201 ho32 _;cases hv201;refine JY ?_;refine ZF ?_)
   refine Zq (En.freeze (l:=32) (t:=6) rfl rfl) fun _=>?_;refine Zi ?_;refine OK ?_;refine Ci 39 rfl rfl (Xa rfl) (Dv rfl (call34) rfl (GQ l hl0)) ?_;rintro p' rfl;refine ⟨rfl,?_⟩;intro v39 hv39;cases hv39;refine YJ ?_;refine Yb rfl ?_ ?_
   · intro hb;refine ZE ?_;refine Z5 (ZaU (t:=4) rfl) fun _=>?_;refine Z1 results70 rfl rfl (Om (Zdq ?_))
     cases h:validVars l
     · rfl
     · rw [h] at hb;cases hb
   · intro hb;have hV:validVars l=true:=by
      cases h:validVars l
      · rw [h] at hb;cases hb
      · rfl
     refine Zh ?_;refine xL 42 Za (xL 43 (Zy G') (xL 44 Za ?_));refine ZF ?_;refine WE 42 rfl fun hlen=>?_;refine Yd (ι:={k:Nat//k≤l.length∧∀(j:Nat) (x:Var),j<k→l[j]? =some x→∀s∈x.acts,0≤partOf c.parts s}) (fun k=>⟨[(0,v0,Yx l),(3,ZD (Zr h3) 0, .val (ZD (Zr h3) 0)),(6,h32, .smap (skv (YA 0 c.parts))),(42,v0,Yx l),(43, .int .i64 l.length,Zc l.length),(44, .int .i64 k.1,Zc k.1)],[(3,h3, .own 104 2 1 [Zc c.kind,WF c.parts])]⟩) (fun k=>l.length-k.1) ⟨0,oM,fun j x hj=>oM⟩ ?_;rintro ⟨k,hk,hpre⟩;dsimp only;refine ZI ?_;refine Yb rfl ?_ ?_
     · intro hb5;(have hlt:k<l.length:=by have:=Qd hb5;omega);obtain ⟨x,hx⟩:=get_some hlt;have hD:=Yu Yy l k x hx;have hfit:=Y9 Yy hx;refine Zh ?_;refine xM (Zg G') ?_;refine yU (YD RX) fun v47=>?_;refine Zx [(.slice none 0 0),(.int .i64 0)] 2 9 ZaT fun h9=>?_;refine Zu 9 RX ?_;refine Yc ?_;refine xM (Zb 9 PN) ?_;refine yU (Ze 9 Rl) fun v49=>?_;refine xL 50 (Zy ZaS) (xL 51 Za ?_);refine ZF ?_;refine WE 49 rfl fun hlenx=>?_;refine Yd (ι:={j:Nat//j≤x.acts.length∧∀(m:Nat) (s:BA),m<j→x.acts[m]? =some s→0≤partOf c.parts s}) (fun j=>⟨[(0,v0,Yx l),(3,ZD (Zr h3) 0, .val (ZD (Zr h3) 0)),(6,h32, .smap (skv (YA 0 c.parts))),(42,v0,Yx l),(43, .int .i64 l.length,Zc l.length),(44, .int .i64 k,Zc k),(49,v49,Zs x.acts),(50, .int .i64 x.acts.length,Zc x.acts.length),(51, .int .i64 j.1,Zc j.1)],[(3,h3, .own 104 2 1 [Zc c.kind,WF c.parts])]⟩) (fun j=>x.acts.length-j.1) ⟨0,oM,fun m s hm=>oM⟩ ?_;rintro ⟨j,hj,hprej⟩;dsimp only;refine ZI ?_;refine Yb rfl ?_ ?_
       · intro hb8;(have hltj:j<x.acts.length:=by have:=Qd hb8;omega);obtain ⟨s,hsj⟩:=get_some hltj;have e2:=Z8 (f:=Zt) hsj;have hlook:=Zi1 c.parts s;refine Zh ?_;refine xM (Zg ZaS) ?_;refine yV (ZG ZlK) ?_;refine ZQ ?_;refine xL 56 Za (xL 57 Za (xL 58 (Zon O9) (xL 55 Za (xL 59 Gg (xL 60 Gg (xL 12 Wv (xL 13 Wv ?_)))))));refine GF ?_;refine Yb rfl ?_ ?_
         · intro hb11;refine ZE ?_;refine Z5 (ZaU (t:=4) rfl) fun _=>?_;refine Z1 results70 rfl rfl (Om (ZlM hV hF (Zfy (Xc hx) (Xc hsj) ?_)));rw [hlook] at hb11;simpa using hb11
         · intro hb11;refine ZE ?_;refine Zm ⟨j+1,oM,fun m s' hm hs'=>?_⟩ (by show x.acts.length-(j+1)<x.acts.length-j;omega) sB sB;by_cases e:m=j
           · subst e;rw [hsj] at hs';cases hs';rw [hlook] at hb11;simpa using hb11
           · exact hprej m s' oM hs'
       · intro hb8;(have hgej:x.acts.length≤j:=by have:=Qe hb8;omega);refine ZE ?_;refine Zm ⟨k+1,oM,fun j' x' hj' hx'=>?_⟩ (by show l.length-(k+1)<l.length-k;omega) sB sB;by_cases e:j'=k
         · subst e;rw [hx] at hx';cases hx';intro s hs';obtain ⟨m,hm⟩:=XR hs';exact hprej m s (by have:=Zd hm;omega) hm
         · exact hpre j' x' oM hx'
     · intro hb5;(have hge:l.length≤k:=by have:=Qe hb5;omega);have hP:∀x∈l,∀s∈x.acts,0≤partOf c.parts s:=fun x hx=>by
        obtain ⟨j,hj⟩:=XR hx;exact hpre j x (by have:=Zd hj;omega) hj
       refine nav ?_;clear hpre hge hb5 hk;refine Zi ?_;refine xM (Zb 3 T3) ?_;refine yU (Ze 3 Oj) fun v66=>?_;refine xM (Zy Ol) ?_;refine GY 68 Zfu fun h68 ho68=>?_;refine ZQ ?_;refine xM (Zb 3 T3) ?_;refine yU (Ze 3 Oj) fun v70=>?_;refine xM (Zy Ol) ?_;refine GY 72 Zfv fun h72 ho72=>?_;refine ZB ?_;refine Zq (DG (l:=68) ((List.replicate c.parts.length ([]:List Var)).map (G2 41)) rfl sM (Zfz _ _)) fun _=>?_;refine Zi ?_;refine xL 73 Za (xL 74 (WQ 72 RY) (xL 75 Za ?_));refine ZF ?_;refine Yd (ι:={k:Nat//k≤c.parts.length}) (fun k=>⟨[(0,v0,Yx l),(3,ZD (Zr h3) 0, .val (ZD (Zr h3) 0)),(6,h32, .smap (skv (YA 0 c.parts))),(14,h68, .val h68),(15,h72, .val h72),(73,h72, .val h72),(74, .int .i64 c.parts.length,Zc c.parts.length),(75, .int .i64 k.1,Zc k.1)],[(3,h3, .own 104 2 1 [Zc c.kind,WF c.parts]),(68,h68, .own 30 1 c.parts.length ((List.replicate c.parts.length ([]:List Var)).map (G2 41))),(72,h72, .own 142 1 c.parts.length (List.replicate k.1 (.omap [])++List.replicate (c.parts.length-k.1) (.val (.map none))))]⟩) (fun k=>c.parts.length-k.1) ⟨0,oM⟩ ?_;rintro ⟨k,hk⟩;dsimp only;refine ZI ?_;refine Yb rfl ?_ ?_
       · intro hb18;(have hlt:k<c.parts.length:=by have:=Qd hb18;omega);refine Jm ?_;refine YW ?_;refine JX 80 fun h80 ho80=>?_;refine xM (Zo 72 RY) ?_;refine TZ 72 k rfl rfl O' Zfw rfl rfl rfl (by assumption) rfl oM (by simp;omega) ?_;refine ZF ?_;refine Zq (fold (l:=72) (l':=80) (j:=k) rfl (XI (by simp;omega)) rfl rfl) fun _=>?_;refine KJ ?_;exact Zm ⟨k+1,oM⟩ (by show c.parts.length-(k+1)<c.parts.length-k;omega) sB ⟨rfl,rfl,by show some _=some _;rw [Zi2 hlt],trivial⟩
       · intro hb18;(have hge:k=c.parts.length:=by have:=Qe hb18;omega);refine Zh ?_;refine xL 83 Za (xL 84 (Zy G') (xL 85 Za ?_));refine ZF ?_;refine Y7 (ι:={x:Nat×List (List Var)//Zq0 l c x}) (fun x=>⟨[(0,v0,Yx l),(3,ZD (Zr h3) 0, .val (ZD (Zr h3) 0)),(6,h32, .smap (skv (YA 0 c.parts))),(14,h68, .val h68),(15,h72, .val h72),(83,v0,Yx l),(84, .int .i64 l.length,Zc l.length),(85, .int .i64 x.1.1,Zc x.1.1)],[(3,h3, .own 104 2 1 [Zc c.kind,WF c.parts]),(68,h68, .own 30 1 c.parts.length (x.1.2.map (G2 41))),(72,h72, .own 142 1 c.parts.length (x.1.2.map oAt))]⟩) (fun x=>l.length-x.1.1) ⟨(0,List.replicate c.parts.length []),Zq1 l c⟩ (fun a w H=>H.weaken sB ⟨rfl,rfl,by show some _=some _;rw [hge,ZlN],trivial⟩) ?_;clear hge hb18 hk;rintro ⟨⟨k,R⟩,hI⟩;dsimp only;obtain ⟨hk,hRl,hWR,S,hRS,hSok,hsp⟩:=id hI;dsimp only at hk hRl hWR hRS hSok hsp;refine ZI ?_;refine Yb rfl ?_ ?_
         · intro hb23;(have hlt:k<l.length:=by have:=Qd hb23;omega);obtain ⟨x,hx⟩:=get_some hlt;have hD:=Yu Yy l k x hx;have hfit:=Y9 Yy hx;have hin:=hP x (Xc hx);have hok:=RF hV hx;have hcnt:=ZcF hok;(have hxl:x.acts.length≤200:=by simp only [K4,Xi,U8] at hok;exact hok.1.1.1);have hkind:=Zdr hF;have hCS:=ZlD c x.acts (YA 0 c.parts) (fun t ht=>Zi3 (hin t ht)) hin oM oM hn1 hkind.1 hkind.2.1;rw [Zds hx] at hsp;refine Zh ?_;refine xM (Zg G') ?_;refine yU (YD RX) fun v88=>?_;refine Zx [(.slice none 0 0),(.int .i64 0)] 2 18 ZaT fun h18=>?_;refine Zu 18 RX ?_;refine ZF ?_;refine (show WU c x.acts=none∨∃ps,WU c x.acts=some ps by cases WU c x.acts with|none=>exact .inl rfl|some ps=>exact .inr ⟨ps,rfl⟩).elim (fun hO=>?_) (fun hO=>hO.elim fun ps hO=>?_)
           · rw [hO] at hCS hsp;refine Zi ?_;refine xM (Zb 18 PN) ?_;refine yU (Ze 18 Rl) fun v91=>?_;refine xM (Zb 3 D7) ?_;refine yV (Ze 3 J4) ?_;refine xM (Zb 3 T3) ?_;refine yU (Ze 3 Oj) fun v95=>?_;refine xL 96 (Zy Ol) (xL 97 Za ?_);refine ZgB (R:=(· = .tup [.val (.slice none 0 0),Zv false])) 98 202 203 rfl rfl (Xa rfl) rfl rfl rfl (Dv rfl (call116) rfl hCS) ?_;rintro p' rfl;refine ⟨_,_,rfl,rfl,rfl,?_⟩;intro v202 v203 hv202 hv203 _ _;cases hv202;cases hv203;refine JY ?_;refine GF ?_;refine Yb rfl ?_ (fun h=>by cases h);intro _;refine ZE ?_;refine Z5 (ZaU (t:=4) rfl) fun _=>?_;refine Z1 results70 rfl rfl (Om (Zi4 hV hF ?_ hsp));unfold GP;rw [Xm];intro x hx;rw [Xm];exact fun s hs=>U9 (hP x hx s hs)
           · rw [hO] at hCS hsp;refine Zi ?_;refine xM (Zb 18 PN) ?_;refine yU (Ze 18 Rl) fun v91=>?_;refine xM (Zb 3 D7) ?_;refine yV (Ze 3 J4) ?_;refine xM (Zb 3 T3) ?_;refine yU (Ze 3 Oj) fun v95=>?_;refine xL 96 (Zy Ol) (xL 97 Za ?_);refine ZgB (R:=(· = .tup [E3 ps,Zv true])) 98 202 203 rfl rfl (Xa rfl) rfl rfl rfl (Dv rfl (call116) rfl hCS) ?_;rintro p' rfl;refine ⟨_,_,rfl,rfl,rfl,?_⟩;intro v202 v203 hv202 hv203 _ _;cases hv203;refine JY ?_;refine GF ?_;refine Yb rfl (fun h=>by cases h) ?_;intro _;refine nav ?_;have hPS:=ZeR oM hin hO;have hWP:=Zdm hok hO;(have hpl:ps.length≤1000300:=by have:=hPS.1;omega);(have hk300:l.length≤300:=by simp only [validVars,Xi,U8] at hV;exact hV.1);refine Zi ?_;refine xL 103 Za (xL 104 (Zy ζc) (xL 105 Za ?_));refine ZF ?_;refine Yd (ι:={y:Nat×List (List Var)//Zi5 c S ps x.count k y}) (fun y=>⟨[(0,v0,Yx l),(3,ZD (Zr h3) 0, .val (ZD (Zr h3) 0)),(6,h32, .smap (skv (YA 0 c.parts))),(14,h68, .val h68),(15,h72, .val h72),(83,v0,Yx l),(84, .int .i64 l.length,Zc l.length),(85, .int .i64 k,Zc k),(18,ZD (Zr h18) 0, .val (ZD (Zr h18) 0)),(103,v202,E3 ps),(104, .int .i64 ps.length,Zc ps.length),(105, .int .i64 y.1.1,Zc y.1.1)],[(3,h3, .own 104 2 1 [Zc c.kind,WF c.parts]),(18,h18, .own 41 2 1 [Zs x.acts,Zc x.count]),(68,h68, .own 30 1 c.parts.length (y.1.2.map (G2 41))),(72,h72, .own 142 1 c.parts.length (y.1.2.map oAt))]⟩) (fun y=>ps.length-y.1.1) ⟨(0,R),Zq2 ps x.count hRl hWR hRS hSok⟩ ?_;rintro ⟨⟨i,R'⟩,hIP⟩;dsimp only;refine ZI ?_;refine Yb rfl ?_ ?_
             · intro hb29;(have hlti:i<ps.length:=by have:=Qd hb29;omega);obtain ⟨⟨pp,pw⟩,hp⟩:=get_some hlti;have hpm:=Xc hp;have hpw:WOk pw:=hWP _ hpm;have hpr:=hPS.2 _ hpm;dsimp only at hpr;obtain ⟨pn,rfl⟩:∃pn:Nat,pp=(pn:Int):=⟨pp.toNat,oM⟩;obtain ⟨b1,b2,b3,S',b4,b5,b6⟩:=id hIP;dsimp only at b1 b2 b3 b4 b5 b6;obtain ⟨r,hr⟩:∃r,R'[pn]? =some r:=get_some oM;have hput:ζb x.count R' ⟨(pn:Int),pw⟩=R'.set pn (bump r pw x.count):=ZiY hr;have hRok:=b4.ok b5 r (Xc hr);have hD2:=Yu C6 ps i _ hp;have hfit2:=Y9 C6 hp;have hWr:∀y∈r,WOk y.acts:=b3 r (Xc hr);refine Zh ?_;refine xM (Zg ζc) ?_;refine yU (YD EE) fun v108=>?_;refine Zx [(.int .i64 0),(.slice none 0 0)] 2 22 Zfx fun h22=>?_;refine Zu 22 EE ?_;refine Yc ?_;refine xM (Zb 22 D8) ?_;refine yU (Ze 22 Rl) fun v110=>?_;refine Ci 111 rfl rfl (Xa rfl) (Dv rfl (call90) rfl (ZlE pw (by have:=hpw.1;omega) (Zdl (by have:=hpw.1;omega) hpw.2))) ?_;rintro p' rfl;refine ⟨rfl,?_⟩;intro v111 hv111;cases hv111;refine ZB ?_;(have hcA:(R'.map oAt)[pn]? =some (oAt r):=by rw [Xo,hr];rfl);(have hcR:(R'.map (G2 41))[pn]? =some (G2 41 r):=by rw [Xo,hr];rfl);refine Zq (S2 (l:=72) (l':=600) (j:=pn) rfl hcA rfl rfl) fun v=>?_;obtain ⟨m,hm⟩:=v;dsimp only;refine Zq (S2 (l:=68) (l':=601) (j:=pn) rfl hcR rfl rfl) fun v=>?_;obtain ⟨hd,hhd⟩:=v;dsimp only;have hc72:((R'.map oAt).set pn (.val m))[pn]? =some (.val m):=XI (by rw [Xb];omega);have hc68:((R'.map (G2 41)).set pn (.val hd))[pn]? =some (.val hd):=XI (by rw [Xb];omega);refine Zi ?_<;>refine xL 113 Za (xL 114 (Zb 22 Gm) ?_)<;>refine yV (Ze 22 J4) ?_<;>refine xM (Zo 72 RY) ?_<;>(refine ζ2 117 rfl rfl (Xa rfl) (Jl 72 pn O' rfl rfl rfl (by first|rfl|omega) hc72 rfl) ?_;intro v117 hv117;cases hv117)<;>refine xL 118 Za (xL 119 (ZcJ 600 O9) (xL 112 Za (xL 120 Gg (xL 121 Gg (xL 24 Wv (xL 25 Wv ?_))))))<;>refine Yc ?_;refine YJ ?_;have hbnd:r.length≤400000000∧∀y∈r,0≤y.count∧y.count≤400000000000000:=by
                refine ⟨by have:=hRok.1;omega,fun y hy=>?_⟩;have:=hRok.2 y hy;exact ⟨this.1,by have:=this.2;omega⟩
               refine KI (ι:={y:Value×List Var×Nat×Var//Met r pw x.count y.1 y.2.1 y.2.2.1 y.2.2.2}) (fun y=>⟨[(0,v0,Yx l),(3,ZD (Zr h3) 0, .val (ZD (Zr h3) 0)),(6,h32, .smap (skv (YA 0 c.parts))),(14,h68, .val h68),(15,h72, .val h72),(83,v0,Yx l),(84, .int .i64 l.length,Zc l.length),(85, .int .i64 k,Zc k),(18,ZD (Zr h18) 0, .val (ZD (Zr h18) 0)),(103,v202,E3 ps),(104, .int .i64 ps.length,Zc ps.length),(105, .int .i64 i,Zc i),(22,ZD (Zr h22) 0, .val (ZD (Zr h22) 0)),(24, .int .i64 y.1.2.2.1,Zc y.1.2.2.1)],[(3,h3, .own 104 2 1 [Zc c.kind,WF c.parts]),(18,h18, .own 41 2 1 [Zs x.acts,Zc x.count]),(22,h22, .own 156 2 1 [Zc pn,Zs pw]),(68,h68, .own 30 1 c.parts.length ((R'.map (G2 41)).set pn (.val y.1.1))),(72,h72, .own 142 1 c.parts.length ((R'.map oAt).set pn (.val m))),(600,m,oAt (bump r pw x.count)),(601,y.1.1,G2 41 y.1.2.1)]⟩) ?_ ?_
               · refine Yb rfl ?_ ?_
                 · intro hb33;have hmg:WX (Pg KU 0 r) (KU pw)=none:=by
                    rw [←Lv]
                    cases h:Ka (skv (Pg KU 0 r)) (.string (KU pw)) with
                    |none=>rfl
                    |some v=>rw [h] at hb33;cases hb33
                   obtain ⟨hnew,hat⟩:=ZaQ hmg;have hat':=hat x.count;rw [XE] at hat';have hrb:=hbnd.1;have hpwl:=hpw.1;have hfr:=Yr Yy r;unfold G2;refine Zh ?_;refine xL 124 Za (xL 125 (Zb 22 Gm) ?_)<;>refine yV (Ze 22 J4) ?_<;>refine xM (Zo 68 J5) ?_<;>(refine ζ2 128 rfl rfl (Xa rfl) (Jl 68 pn Sd rfl rfl rfl (by first|rfl|omega) hc68 rfl) ?_;intro v128 hv128;cases hv128)<;>refine xL 129 (WQ 601 G') (xL 24 Wv ?_)<;>refine Yc ?_;refine xL 130 Za (xL 131 (Zb 22 Gm) ?_)<;>refine yV (Ze 22 J4) ?_<;>refine xM (Zo 72 RY) ?_<;>(refine ζ2 134 rfl rfl (Xa rfl) (Jl 72 pn O' rfl rfl rfl (by first|rfl|omega) hc72 rfl) ?_;intro v134 hv134;cases hv134)<;>refine YW ?_<;>refine L9 600 O9 ?_<;>refine ZF ?_;(refine We [15] [22,68] ?_<;>refine gDx 0 ?_<;>refine xD 1 rfl (Zb 22 Gm) ?_<;>(refine yD 2 rfl (Ze 22 J4) fun v139 h=>?_;cases h)<;>refine gDx 3 ?_<;>refine xD 4 rfl (Zb 22 Gm) ?_<;>(refine yD 5 rfl (Ze 22 J4) fun v142 h=>?_;cases h)<;>refine xD 6 rfl (Zo 68 J5) ?_<;>(refine ZcG 7 144 rfl kR rfl rfl (Xa rfl) (Jl 68 pn Sd rfl rfl rfl (by first|rfl|omega) hc68 rfl) ?_;intro v144 hv144;cases hv144)<;>refine xE 8 rfl (Zb 22 D8) ?_<;>(refine yE 9 rfl (Ze 22 Rl) fun v146 h=>?_;cases h)<;>(refine aDr 10 fun bk=>?_)<;>(refine Ci 147 rfl rfl (Xa rfl) (Dv rfl (call21) rfl (ZoJ pw oM)) ?_;rintro p' rfl;refine ⟨rfl,?_⟩;intro v147 hv147;clear hv147)<;>refine bE bk ?_<;>refine xE 11 rfl (ZX ZiZ) ?_<;>(refine aDr 12 fun bk=>?_)<;>refine JW 149 ZaR fun h149 ho149=>?_<;>refine bE bk ?_<;>(refine aDr 13 fun bk=>?_)<;>refine WN 601 149 150 ZaR fun h150 ho150=>?_<;>refine bE bk ?_<;>refine xE 14 rfl (Zo 68 J5) ?_<;>(refine Z6 15 kR ?_)<;>(refine Kj rfl rfl kR fun DQ bk=>?_)<;>(refine TZ 68 pn rfl rfl Sd Zi0 rfl rfl rfl (by assumption) rfl (by first|rfl|omega) (by rw [Xp,Xb];omega) ?_)<;>refine Ww (bk _ (nav ?_))<;>try dsimp only)
                   refine Yq (Zz (l:=150) 601 rfl rfl) fun _=>?_;(have hrow3:r.flatMap WM++[Zs pw,Zc 0]=(r++[(⟨pw,0⟩:Var)]).flatMap WM:=by rw [XT];rfl);refine Hy ⟨(h150,r++[⟨pw,0⟩],r.length,⟨pw,0⟩),ho150,sM,rfl,ZlJ hnew,by show (0:Int)≤0;decide,by show (0:Int)≤400000000000000;decide,by simp;omega⟩ sB ⟨rfl,rfl,rfl,?_,rfl,?_,?_,trivial⟩
                   · show some _=some _;rw [X2]
                   · show some _=some _;unfold oAt;rw [hat',Ps]
                   · show some _=some _;rw [←hrow3];simp;rfl
                 · intro hb33;obtain ⟨v,hmg⟩:∃v,WX (Pg KU 0 r) (KU pw)=some v:=by
                    rw [←Lv]
                    cases h:Ka (skv (Pg KU 0 r)) (.string (KU pw)) with
                    |none=>rw [h] at hb33;cases hb33
                    |some v=>exact ⟨v,rfl⟩
                   obtain ⟨ix,z,hv,hz,hzw,hset⟩:=ZaP hpw Zi7 hWr hmg;rw [XE] at hv;have hzb:=hbnd.2 z (Xc hz);refine nav ?_;refine Hy ⟨(hd,r,ix,z),hhd,hz,hzw,(hset _).1,hzb.1,hzb.2,hbnd.1⟩ ⟨rfl,rfl,rfl,rfl,rfl,rfl,rfl,rfl,rfl,rfl,rfl,rfl,rfl,?_,trivial⟩ ⟨rfl,rfl,rfl,rfl,rfl,?_,rfl,trivial⟩
                   · show some _=some _;rw [Lv,hmg,hv];rfl
                   · show some _=some _;unfold oAt;rw [(hset _).2]
               · rintro ⟨⟨hd',r',ix,z⟩,hM⟩;obtain ⟨m1,m2,m3,m4,m5,m6,m7⟩:=id hM;dsimp only at m1 m2 m3 m4 m5 m6 m7 ⊢;have hc1:((R'.map (G2 41)).set pn (.val hd'))[pn]? =some (.val hd'):=XI (by rw [Xb];omega);(have hcz:(r'.flatMap WM)[ix*2+1]? =some (Zc z.count):=by rw [K6 Yy m2 (j:=1) dC];rfl);have hixl:=Zd m2;have hfl:=Yr Yy r';unfold G2;refine nav ?_;(refine We [14] [18,22,68,601] ?_<;>refine gDx 0 ?_<;>refine xD 1 rfl (Zb 22 Gm) ?_<;>(refine yD 2 rfl (Ze 22 J4) fun v154 h=>?_;cases h)<;>refine xD 3 rfl (Zo 68 J5) ?_<;>(refine ZcG 4 156 rfl kR rfl rfl (Xa rfl) (Jl 68 pn Sd rfl rfl rfl (by first|rfl|omega) hc1 rfl) ?_;intro v156 hv156;cases hv156)<;>refine gDx 5 ?_<;>refine xD 6 rfl (Zo 601 G') ?_<;>refine xD 7 rfl (Zb 601 PO) ?_<;>(refine ZcG 8 160 rfl kR rfl rfl (Xa rfl) (Jl 601 (ix*2+1) J4 rfl rfl rfl (by first|rfl|omega) hcz rfl) ?_;intro v160 hv160;cases hv160)<;>refine xE 9 rfl (Zb 18 PO) ?_<;>(refine yE 10 rfl (Ze 18 J4) fun v162 h=>?_;cases h)<;>refine gEx 11 ?_<;>refine xE 12 rfl (Zo 601 G') ?_<;>refine xE 13 rfl (Zb 601 PO) ?_<;>(refine Z6 14 kR ?_)<;>(refine Kj rfl rfl kR fun DQ bk=>?_)<;>(refine TZ 601 (ix*2+1) rfl rfl J4 ZlL rfl rfl rfl rfl rfl (by first|rfl|omega) (by rw [hfl];omega) ?_)<;>refine Ww (bk _ (nav ?_))<;>try dsimp only)
                 have hset2:(r'.flatMap WM).set (ix*2+1) (Zc (z.count+x.count))=(bump r pw x.count).flatMap WM:=by
                  rw [PL Yy r' ix 1 z ⟨pw,z.count+x.count⟩ _ m2 dC (by simp [WM,m3]),m4]
                 (have hlen2:r'.length=(bump r pw x.count).length:=by rw [←m4,Xp]);refine Zq (fold (l:=68) (l':=601) (j:=pn) rfl hc1 rfl rfl) fun _=>?_;refine Zq (fold (l:=72) (l':=600) (j:=pn) rfl hc72 rfl rfl) fun _=>?_;refine KJ ?_;have hIP2:Zi5 c S ps x.count k (i+1,R'.set pn (bump r pw x.count)):=hput▸Zi6 hIP hp hpw oM hcnt.2;have hrows:((R'.map (G2 41)).set pn (.val hd')).set pn (.own 41 2 r'.length ((r'.flatMap WM).set (ix*2+1) (Zc (z.count+x.count))))=(R'.set pn (bump r pw x.count)).map (G2 41):=by
                  rw [X2,hset2,hlen2,Up];rfl
                 have hats:((R'.map oAt).set pn (.val m)).set pn (oAt (bump r pw x.count))=(R'.set pn (bump r pw x.count)).map oAt:=by
                  rw [X2,Up]
                 exact Zm ⟨(i+1,R'.set pn (bump r pw x.count)),hIP2⟩ (by show ps.length-(i+1)<ps.length-i;omega) sB ⟨rfl,rfl,congrArg (fun cs=>some (h68,PV.own 30 1 c.parts.length cs)) hrows,congrArg (fun cs=>some (h72,PV.own 142 1 c.parts.length cs)) hats,trivial⟩
             · intro hb29;(have hgei:ps.length≤i:=by have:=Qe hb29;omega);refine ZE ?_;exact Zm ⟨(k+1,R'),ZlO hIP hgei hlt hpl hsp⟩ (by show l.length-(k+1)<l.length-k;omega) sB sB
         · intro hb23;(have hge:l.length≤k:=by have:=Qe hb23;omega);(have hall:KH c (List.replicate c.parts.length []) l=some S:=by rw [hsp,XU hge];rfl);have hIn:GP c.parts l=true:=by
            unfold GP;rw [Xm];intro x hx;rw [Xm];exact fun s hs=>U9 (hP x hx s hs)
           refine Zh ?_;refine xL 168 Za (xL 169 (WQ 68 J5) (xL 170 Za ?_));refine ZF ?_;refine Yd (ι:={j:Nat//j≤c.parts.length∧∀(i:Nat) (r:List Var),i<j→R[i]? =some r→bigVars r=false}) (fun j=>⟨[(14,h68, .val h68),(168,h68, .val h68),(169, .int .i64 c.parts.length,Zc c.parts.length),(170, .int .i64 j.1,Zc j.1)],[(68,h68, .own 30 1 c.parts.length (R.map (G2 41)))]⟩) (fun j=>c.parts.length-j.1) ⟨0,oM,fun i r hi=>oM⟩ ?_;rintro ⟨j,hj,hbig⟩;dsimp only;refine ZI ?_;refine Yb rfl ?_ ?_
           · intro hb41;(have hltj:j<c.parts.length:=by have:=Qd hb41;omega);obtain ⟨r,hr⟩:∃r,R[j]? =some r:=get_some oM;(have hcR:(R.map (G2 41))[j]? =some (G2 41 r):=by rw [Xo,hr];rfl);refine Zq (S2 (l:=68) (l':=601) (j:=j) rfl hcR rfl rfl) fun v=>?_;obtain ⟨hd,hhd⟩:=v;dsimp only;have hc68:((R.map (G2 41)).set j (.val hd))[j]? =some (.val hd):=XI (by rw [Xb];omega);refine Zh ?_;refine xM (Zo 68 J5) ?_<;>(refine ζ2 173 rfl rfl (Xa rfl) (Jl 68 j Sd rfl rfl rfl (by first|rfl|omega) hc68 rfl) ?_;intro v173 hv173;cases hv173)<;>refine ZQ ?_;refine Yv ?_;refine Ci 175 rfl rfl (Xa rfl) (ZkW rfl (call117) (ps:=[Yx r, .fn 118 []]) ⟨⟨_,_,rfl,Zi8 (l:=601) rfl⟩,⟨_,_,rfl,L6 (x:= .func 118) rfl⟩,trivial⟩ (DO 118 [] (fun x=>decide (1048576<x.count)) r (call118) (fun x _=>ZiV x)) (fun p hp=>by rw [hp];rfl)) ?_;rintro p' rfl;refine ⟨rfl,?_⟩;intro v175 hv175;cases hv175;refine ZF ?_;refine Yb rfl ?_ ?_
             · intro hb43;refine ZE ?_;refine Z5 (ZaU (t:=4) rfl) fun _=>?_;refine Z1 results70 rfl rfl (Om (ZlS hV hF hIn hall ?_));rw [←hRS.any bigVars fun _ _ h=>Zdo h];exact Zg5 hr hb43
             · intro hb43;refine ZE ?_;refine Yq (fold (l:=68) (l':=601) (j:=j) rfl hc68 rfl rfl) fun _=>?_;have hcs:((R.map (G2 41)).set j (.val hd)).set j (G2 41 r)=R.map (G2 41):=by
                rw [X2];exact DT hcR
               refine Zm ⟨j+1,oM,fun i r' hi hr'=>?_⟩ (by show c.parts.length-(j+1)<c.parts.length-j;omega) sB ⟨by show some _=some _;rw [hcs],trivial⟩;by_cases e:i=j
               · subst e;rw [hr] at hr';cases hr';exact hb43
               · exact hbig i r' oM hr'
           · intro hb41;(have hgej:c.parts.length≤j:=by have:=Qe hb41;omega);have hB:S.any bigVars=false:=by
              rw [←hRS.any bigVars fun _ _ h=>Zdo h];exact ZlV fun i r hr=>hbig i r (by have:=Zd hr;omega) hr
             refine nav ?_;clear hbig hgej hb41 hj;refine Zi ?_;refine xL 177 Za (xL 178 (WQ 68 J5) (xL 179 Za ?_));refine ZF ?_;refine Yd (ι:={y:Nat×List (List Var)//y.1≤c.parts.length∧y.2.length=R.length∧(∀(i:Nat) (r t:List Var),R[i]? =some r→y.2[i]? =some t→(i<y.1→Asc t∧t.Perm r)∧(y.1≤i→t=r))∧∀(i:Nat) (r:List Var),i<y.1→R[i]? =some r→Jk r=false}) (fun y=>⟨[(14,h68, .val h68),(177,h68, .val h68),(178, .int .i64 c.parts.length,Zc c.parts.length),(179, .int .i64 y.1.1,Zc y.1.1)],[(68,h68, .own 30 1 c.parts.length (y.1.2.map (G2 41)))]⟩) (fun y=>c.parts.length-y.1.1) ⟨(0,R),sM,rfl,fun i r t hr ht=>⟨fun h=>by simp at h,fun _=>by dsimp only at ht;rw [hr] at ht;cases ht;rfl⟩,fun i r h=>by simp at h⟩ ?_;rintro ⟨⟨j,T⟩,hj,hTl,hT,hmany⟩;dsimp only at hj hTl hT hmany ⊢;refine ZI ?_;refine Yb rfl ?_ ?_
             · intro hb47;(have hltj:j<c.parts.length:=by have:=Qd hb47;omega);obtain ⟨r,hr⟩:∃r,R[j]? =some r:=get_some oM;have hTr:T[j]? =some r:=by
                obtain ⟨t,ht⟩:∃t,T[j]? =some t:=get_some oM;rw [ht,(hT j r t hr ht).2 (Xe _)]
               (have hcR:(T.map (G2 41))[j]? =some (G2 41 r):=by rw [Xo,hTr];rfl);refine Zq (S2 (l:=68) (l':=601) (j:=j) rfl hcR rfl rfl) fun v=>?_;obtain ⟨hd,hhd⟩:=v;dsimp only;have hc68:((T.map (G2 41)).set j (.val hd))[j]? =some (.val hd):=XI (by rw [Xb];omega);have hWr:∀y∈r,WOk y.acts:=hWR r (Xc hr);obtain ⟨sj,hsj⟩:∃s,S[j]? =some s:=get_some (by have:=hRS.1;omega);have hnd:Nodup r:=((hRS.2 j r sj hr hsj).1.nodup).perm (hRS.2 j r sj hr hsj).2.symm;have hnext:∀t',Asc t'→t'.Perm r→∀(i:Nat) (r0 t:List Var),R[i]? =some r0→(T.set j t')[i]? =some t→(i<j+1→Asc t∧t.Perm r0)∧(j+1≤i→t=r0):=fun t' h1 h2 i r0 t hr0 ht=>by
                by_cases e:i=j
                · subst e;rw [XI oM] at ht;rw [hr] at hr0
                  cases ht;cases hr0;exact ⟨fun _=>⟨h1,h2⟩,fun h=>oM⟩
                · rw [XZ (Ne.symm e)] at ht;have:=hT i r0 t hr0 ht;exact ⟨fun h=>this.1 oM,fun h=>this.2 oM⟩
               have hcs:∀t':List Var,t'.length=r.length→((T.map (G2 41)).set j (.val hd)).set j (.own 41 2 r.length (t'.flatMap WM))=(T.set j t').map (G2 41):=fun t' h=>by
                rw [X2,←h,Up];rfl
               unfold G2;refine Zh ?_;refine xM (Zo 68 J5) ?_<;>(refine ζ2 182 rfl rfl (Xa rfl) (Jl 68 j Sd rfl rfl rfl (by first|rfl|omega) hc68 rfl) ?_;intro v182 hv182;cases hv182)<;>refine ZQ ?_;refine xL 183 Za (xL 184 (WQ 601 G') (xL 185 Rc ?_));refine ZF ?_;refine Yb rfl ?_ ?_
               · intro hb49;refine ZE ?_;refine Z5 (ZaU (t:=4) rfl) fun _=>?_;refine Z1 results70 rfl rfl (Om (ZlT hV hF hIn hall hB ?_));rw [←hRS.any Jk fun _ _ h=>ZaO h];exact Zg5 hr (by unfold Jk;have:=Qd hb49;exact U9 oM)
               · intro hb49;(have hle:r.length≤300:=by have:=Qe hb49;omega);have hm1:∀(i:Nat) (r0:List Var),i<j+1→R[i]? =some r0→Jk r0=false:=fun i r0 hi hr0=>by
                  by_cases e:i=j
                  · subst e;rw [hr] at hr0;cases hr0;unfold Jk;exact U' oM
                  · exact hmany i r0 oM hr0
                 refine (show r=[]∨0<r.length by cases r with|nil=>exact .inl rfl|cons=>exact .inr sM).elim (fun h0=>?_) (fun h0=>?_)
                 · (have hl0:r.length=0:=by rw [h0];rfl);refine Wh ?_;refine ZlR (l:=601) ZbU rfl rfl (Xa rfl) rfl (call24) rfl rfl (by rw [hl0];rfl) ?_;refine ZF ?_;refine Zq (fold (l:=68) (l':=601) (j:=j) rfl hc68 rfl rfl) fun _=>?_;refine KJ ?_;exact Zm ⟨(j+1,T.set j r),by show j+1≤_;omega,by show (T.set j r).length=_;rw [Xp];exact hTl,hnext r (by rw [h0];exact List.Pairwise.nil) (.refl _),hm1⟩ (by show c.parts.length-(j+1)<c.parts.length-j;omega) sB ⟨congrArg (fun cs=>some (h68,PV.own 30 1 c.parts.length cs)) (hcs r rfl),trivial⟩
                 · refine Zh ?_;refine Yv ?_;refine E2 (l:=601) (f:=WM) (rows:=r) (cmp:=fun a b:Var=>cmpStrs a.acts b.acts) ZiX Yy dC (fun _=>rfl) Zg4 ZlP ZlQ (fun x y M W u v hx hy hu hv=>(ZiW x y).exact2 hu hv) h0 oM rfl rfl (Xa rfl) rfl (call24) rfl rfl rfl ?_;intro r2 hp2 hs2;refine ZF ?_;refine Zq (fold (l:=68) (l':=601) (j:=j) rfl hc68 rfl rfl) fun _=>?_;refine KJ ?_;exact Zm ⟨(j+1,T.set j r2),by show j+1≤_;omega,by show (T.set j r2).length=_;rw [Xp];exact hTl,hnext r2 (Zq3 hnd hp2 hs2) hp2,hm1⟩ (by show c.parts.length-(j+1)<c.parts.length-j;omega) sB ⟨congrArg (fun cs=>some (h68,PV.own 30 1 c.parts.length cs)) (hcs r2 hp2.length_eq),trivial⟩
             · intro hb47;(have hgej:c.parts.length≤j:=by have:=Qe hb47;omega);have hM:S.any Jk=false:=by
                rw [←hRS.any Jk fun _ _ h=>ZaO h];exact ZlV fun i r hr=>hmany i r (by have:=Zd hr;omega) hr
               have hTS:T=S:=hRS.sorted hTl fun i r t hr ht=>(hT i r t hr ht).1 (by have:=Zd hr;omega);refine Y5 ?_;refine Z5 (En.freeze (l:=68) (t:=4) rfl rfl) fun _=>?_;refine Z1 results70 rfl rfl ?_;rw [ZlU hV hF hIn hall hB hM,ZfA _ _ _ _ oM,hTS];rfl
 · (refine Zi ?_<;>refine yU (Zj 3 ED) fun v31=>?_<;>(refine ZgB (R:=fun p=>∃q,p= .tup [q,Zv false]∧L4 q=true) 32 32 201 rfl rfl (Xa rfl) rfl rfl rfl (Dv rfl (call115) rfl ((Zc3 c hs).mono fun p ⟨q,e1,_,e3⟩=>⟨q,by rw [e1,hF],by rcases e3 with rfl|⟨es,rfl⟩<;>rfl⟩)) ?_;rintro p' ⟨q,rfl,hq⟩;refine ⟨_,_,rfl,hq,rfl,?_⟩;intro h32 v201 _ hv201 ho32 _;cases hv201)<;>refine JY ?_<;>refine Yc ?_)
   refine Y' ?_;refine kL ?_;refine kL ?_;refine kL ?_;refine ZB ?_;refine Yb rfl ?_ (fun h=>by cases h);intro _;refine ZE ?_;refine Z5 (ZaU (t:=4) rfl) fun _=>?_;refine Z1 results70 rfl rfl (Om (Zdq ?_));rw [hF];simp
end Go.Proofs.YteiincihiagidaaGreat
namespace Go.En
open Go.RowKit Go.Cb Go.WideShapes Go.ChangeShapes Go.ChangeAt Go.Deep
theorem PP {H:Type} (P:Program) (e:TypeId) {d:DataW H} {n:Nat}:∀{l:List (DataW H)},d∈l→n∈d.weights P e→n∈DataW.weightsAll P e l
 | x::l,h,hn=>by
   rw [DataW.weightsAll,Xd];rcases Xk.1 h with rfl|h
   · exact .inl hn
   · exact .inr (PP P e h hn)
theorem JK {H:Type} (P:Program) {d:DataW H} {t:TypeId} {n:Nat}:∀{ts:List TypeId} {l:List (DataW H)} (i:Nat),ts[i]? =some t→l[i]? =some d→n∈d.weights P t→n∈DataW.weightsEach P ts l
 | t'::ts,x::l,0,h1,h2,hn=>by
   simp at h1 h2;subst h1 h2;rw [DataW.weightsEach,Xd];exact .inl hn
 | t'::ts,x::l,i+1,h1,h2,hn=>by
   rw [DataW.weightsEach,Xd];exact .inr (JK P i (by simpa using h1) (by simpa using h2) hn)
structure Dec (P:Program) (t:TypeId) (k:Nat) {α:Type} (enc:α→List PV) (fit:α→Prop):Prop where
 size:P.cellsOf t=k
 len:∀a,(enc a).length=k
 dec:∀{H:Type} (e:TypeId×Value→H) (w:World) (spare:Nat→Bool) (held:Bool) (fuel:Nat) (cs:List Value) (x:DataW H×List MemPlace),DataW.trod e P w 0 spare held fuel t cs=some x→(∀n∈x.1.weights P t,n≤reachBytes)→
  ∃a,fit a∧cs.length=k∧∀(i:Nat) (v:Value) (p:PV),cs[i]? =some v→(enc a)[i]? =some p→Shr (fun _=>False) w v p
section
variable {P:Program} {t:TypeId}
theorem ζd {v u:Value} {p q:PV} {w:World} (h:Shr (fun _=>False) w v p) (i:Nat) (h1:[v][i]? =some u) (h2:[p][i]? =some q):Shr (fun _=>False) w u q:=by
 cases i with
 |zero=>simp at h1 h2;subst h1 h2;exact h
 |succ i=>simp at h1
theorem ZoK (ht:P.underlying t=some (.int .i64)) (hs:P.cellsOf t=1):Dec P t 1 (fun n:Int=>[Zc n]) (fun n=> -9223372036854775808≤n∧n≤9223372036854775807) where
 size:=hs
 len:=fun _=>rfl
 dec:=fun e w spare held fuel cs x h=>by
  intro hwt;obtain ⟨n,rfl,_,hw⟩:=DataW.trod_int ht h;refine ⟨n,?_,rfl,fun i v p h1 h2=>ζd (.val _) i h1 h2⟩;simpa [Lit.wf,IntKind.min,IntKind.max,IntKind.signed,IntKind.bits] using hw
theorem ZoL (ht:P.underlying t=some .string) (hs:P.cellsOf t=1):Dec P t 1 (fun s:BA=>[Zt s]) (fun s=>s.size≤140737488355328) where
 size:=hs
 len:=fun _=>rfl
 dec:=fun e w spare held fuel cs x h=>by
  intro hwt;obtain ⟨s,rfl,rfl,hw⟩:=DataW.trod_string ht h;have hsz:s.size≤reachBytes:=hwt s.size (by show s.size∈DataW.weights P t (.lit (.string s.data.toList));rw [DataW.weights];exact Xn.2 (by rw [XX];rfl));exact ⟨s,by unfold reachBytes at hsz;omega,rfl,fun i v p h1 h2=>ζd (.val _) i h1 h2⟩
section
variable {H:Type} {en:TypeId×Value→H} {w:World} {spare:Nat→Bool} {held:Bool} {r:Reach} {base:Nat} {v:Value} {d:DataW H} {ps:List MemPlace}
theorem Zsp {α:Type} {k:Nat} {enc:α→List PV} {fit:α→Prop} (D:Dec P t k enc fit) (hT:ZrU P t=true) (hv:Value.okWide P w r base t v) (h:DataW.Trod en P w 0 spare held t v d ps) (hwt:∀n∈d.weights P t,n≤reachBytes):∃a,fit a∧Shr (fun _=>False) w v (.agg (enc a)):=by
 obtain ⟨fuel,hf⟩:=h
 have:∃fs,P.underlying t=some (.struct fs):=by
  unfold ZrU at hT;split at hT
  · rename_i fs hfs;exact ⟨fs,hfs⟩
  · cases hT
 obtain ⟨fs,hfs⟩:=this
 obtain ⟨cs,rfl,hsz⟩:=okWide_struct hfs hv
 obtain ⟨a,h1,h2,h3⟩:=D.dec en w spare held fuel _ _ hf hwt
 refine ⟨a,h1,?_⟩
 have:=Shr.agg (M:=fun _=>False) (w:=w) cs.toList (enc a) (by rw [D.len a];exact h2) h3
 simpa using this
end
theorem D9 {H:Type} {enc:TypeId×Value→H} {P:Program} (hl:laidOutB P=true) {W W':World} (hb:Below W.heap.size W W'):∀{ts:List TypeId} {vs:List Value} {ds:List (DataW H)} {ps:List MemPlace},(ts.all fun t=>P.readableRec t&&decide (t<P.types.size))=true→
 DataW.TrodAll enc P W 0 (fun _=>true) true ts vs ds ps→DataW.TrodAll enc P W' 0 (fun b=>decide (b<W.heap.size)) true ts vs ds ps
 |[],[],[],ps,_,h=>h
 | t::ts,v::vs,d::ds,ps,ht,⟨p,q,h1,h2,h3⟩=>by
   rw [VU,Xi,Xi] at ht;refine ⟨p,q,Below.trod hl ht.1.1 (Qd ht.1.2) h1 hb ?_,D9 hl hb ht.2 h2,h3⟩;obtain ⟨m,hm⟩:=h1;exact DataW.trod_lt m _ _ _ hm
theorem AF.law {P:Program} {f:FuncId} {ps:List PV} (hA:AF P f ps (· = .val (.bool true))) {W:World} {vs:List Value} (hl:vs.length=ps.length) (hv:∀(i:Nat) (v:Value) (p:PV),vs[i]? =some v→ps[i]? =some p→Shr (fun _=>False) W v p) (hT:TabW W (fun _=>False) (fun _=>False)) (hE:ErrW W (fun _=>False) (fun _=>False):=by intro g hg;cases hg):
 Calls P f vs.toArray W fun e w'=>e= .returned (.bool true)∧Below W.heap.size W w':=
 (hA (fun _=>False) W vs ⟨fun _ h=>h.elim,fun _=>hT,fun _=>hE⟩ hl hv).mono fun e w' ⟨v,p,F,h1,h2,h3,h4,_⟩=>by
   subst h2;have:=(h4.sh rfl).vOf;subst this;exact ⟨h1,h3⟩
end
end Go.En
namespace Go.Proofs.YteiincihiagidaaGreat
open Go.RowKit Go.Cb Go.En Go.ChangeShapes Go.WideShapes Go.ChangeAt Tryz
end Go.Proofs.YteiincihiagidaaGreat
namespace Go.En
open Go.RowKit Go.Cb
open Go.ChangeMaps (setBlock)
def itv (r:Nat):Value:= .pointer (some ⟨r,0,none⟩)
def itP (b r clock:Nat) (es:Array MapEntry) (seen:Array Nat):PV:= .oblk (itv r) r (.mapIter (some b) clock seen clock) [(b, .map es clock)]
def itE (b r clock:Nat) (es:Array MapEntry) (seen:Array Nat):Ent:=(itv r,itP b r clock es seen)
theorem Tr.blk {M:BS} {w:World} {v u:Value} {r:Nat} {ob:Obj} {sh:List (Nat×Obj)} {F:BS} (H:Tr M w v (.oblk u r ob sh) F):w.heap[r]? =some ob∧(∀p∈sh,w.heap[p.1]? =some p.2∧¬M p.1)∧∀x,F x↔x=r:=by
 cases H with
 |shr h _=>cases h
 |oblk _ h1 h hs hF=>exact ⟨h,hs,hF⟩
section
variable {P:Program} {c:Ctx} {ops:Array Oper} {Q:Exit→Act→World→Prop} {rest:List Oper} {sL hP:List (Nat×Ent)} {o:Oper}
theorem Jr {t ks e:Nat} {x:Operand} {m:Value} {kv:List (Value×Value)} (d:Nat) (ht:P.underlying t=some (.map ks e)) (k:∀(b r clock:Nat) (es:Array MapEntry),kv=kvOf es→WfM es clock→aL P c ops Q rest ⟨put d (itv r, .val (itv r)) sL,put d (itE b r clock es #[]) hP⟩)
 (hw:ZP ops sL o=some true:=by exact rfl) (hd:o.dst=some d:=by exact rfl) (hn:d<c.nt:=by exact Xa rfl) (ho:o.op= .range t x:=by exact rfl) (hx:ev sL x=some (m, .smap kv):=by exact rfl) (hl:lk hP d=none:=by exact rfl):aL P c ops Q (o::rest) (⟨sL,hP⟩:St):=
 Y4 hw fun a w F H=>by
  obtain ⟨hv,hS⟩:=H.rd.ev hx
  cases hS with
  | smap b es clock hM h hW=>
    have key:HoldsF c ⟨put d (itv w.heap.size, .val (itv w.heap.size)) sL,put d (itE b w.heap.size clock es #[]) hP⟩ (fun l'=>if l'=d then (fun x=>x=w.heap.size) else F l') (a.put (some d) (itv w.heap.size)) (w.alloc (.mapIter (some b) clock #[] clock)):=by
     refine H.change (fun l'=>l'=d) hn ((Ext.alloc _ _).chg) (fun l' x hne hx'=>?_) (fun l' x b' hT hx' hb=>?_) (fun hm l' u q hT hx'=>?_) (fun l1 l2 _ _ _ h1 h2 hne=>Qc (h1.trans h2.symm) hne) (fun hm=> .val _)
     · rcases ZZ hx' with ⟨e1,_⟩|⟨_,e1⟩
       · exact Qc e1.symm hne
       · exact ⟨e1,by simp [hne]⟩
     · subst hT;simp only [if_true] at hb;exact .inr (by rw [hb];exact Xe _)
     · subst hT;rw [ZJ] at hx';unfold itE itP at hx'
       cases hx';simp only [if_true];refine .oblk w.heap.size rfl ?_ (fun p hp=>?_) (fun x=>Iff.rfl)
       · show (w.heap.push _)[w.heap.size]? =_;simp
       · rw [Xn] at hp;subst hp;exact ⟨(Ext.alloc w _).block h,fun hb=>hM (hm b (Y8 h) hb)⟩
    have hrun:(execOp a.eval o).run P w= .ok (.value (itv w.heap.size)) (w.alloc (.mapIter (some b) clock #[] clock)):=by
     simp [execOp,ho,hv,Instr.range,run_underlying ht,getObj,newObj,Sem.run,h,itv]
    unfold Oper.wp;rw [hrun,Oper.upon_value,hd];exact k _ _ _ _ rfl hW _ _ ⟨_,key⟩
theorem Gn {x:Operand} {q:PV} {b r clock:Nat} {es:Array MapEntry} {seen:Array Nat} (l d:Nat) (hW:WfM es clock)
 (k0:leftOf es seen= #[]→aL P c ops Q rest ⟨put d (.tuple [.bool false].toArray, .tup [.val (.bool false)]) sL,hP⟩)
 (k1:∀e∈(leftOf es seen).toList,aL P c ops Q rest ⟨put d (.tuple [.bool true,e.key,e.val].toArray, .tup [.val (.bool true), .val e.key, .val e.val]) sL,put l (itE b r clock es (seen.push e.born)) hP⟩)
 (hw:ZP ops sL o=some true:=by exact rfl) (hd:o.dst=some d:=by exact rfl) (hn:d<c.nt:=by exact Xa rfl) (ho:o.op= .next x false:=by exact rfl) (hx:ev sL x=some (itv r,q):=by exact rfl) (hl:lk hP l=some (itE b r clock es seen):=by exact rfl):aL P c ops Q (o::rest) (⟨sL,hP⟩:St):=
 Y4 hw fun a w F H=>by
  have hv:=(H.rd.ev hx).1;obtain ⟨h,hs,hF⟩:=(H.tr l _ _ hl).blk;obtain ⟨hb,hMb⟩:=hs (b, .map es clock) sM;dsimp only at hb hMb;rcases run_next_at (P:=P) w o.type r b clock clock seen es clock h hb (fun x hx=>hW.1 x hx) (Xe _) with ⟨h0,hr⟩|⟨e,he,w1,hw1,hr⟩
  · have hrun:(execOp a.eval o).run P w= .ok (.value (.tuple [.bool false].toArray)) w:=by
     simp [execOp,ho,hv,itv,hr]
    unfold Oper.wp;rw [hrun,Oper.upon_value,hd];refine k0 (Array.eq_empty_of_size_eq_zero h0) _ _ ⟨F,H.put hn (.tup _ _ rfl fun i x p hx hp=>?_)⟩;match i with
    |0=>simp at hx hp;subst hx hp;exact .val _
    |i+1=>simp at hx
  · have hrun:(execOp a.eval o).run P w= .ok (.value (.tuple [.bool true,e.key,e.val].toArray)) (setBlock w1 r (.mapIter (some b) clock (seen.push e.born) clock)):=by
     simp [execOp,ho,hv,itv,hr]
    unfold Oper.wp;rw [hrun,Oper.upon_value,hd];have hlt:=Y8 h;have hh:w1.heap=w.heap:=by rcases hw1 with rfl|rfl<;>rfl
    (have hbr:b≠r:=fun e=>by subst e;exact hMb (.inr ⟨l,_,hl,(hF b).2 rfl⟩));have hch:Chg (fun x=>x=r) w (setBlock w1 r (.mapIter (some b) clock (seen.push e.born) clock)):=by
     refine ⟨by rcases hw1 with rfl|rfl<;>rfl,by rcases hw1 with rfl|rfl<;>rfl,by rcases hw1 with rfl|rfl<;>rfl,?_,fun i hi hne=>?_⟩
     · show _≤(w1.heap.setIfInBounds r _).size;rw [hh];simp
     · show (w1.heap.setIfInBounds r _)[i]? =_;rw [hh,UO (fun e=>hne e.symm)]
    refine k1 e he _ _ ⟨F,H.change (fun l'=>l'=l) hn (hch.wid fun x hx=> .inl ⟨l,_,rfl,hl,(hF x).2 hx⟩) (fun l' x hne hx'=>?_) (fun l' x b' hT' hx' hb'=>?_) (fun hmm l' u q hT' hx'=>?_) (fun l1 l2 _ _ _ h1 h2 hne=>Qc (h1.trans h2.symm) hne) (fun _=> .tup _ _ rfl fun i x p hx hp=>?_) (fun _=>?_)⟩
    · rcases ZZ hx' with ⟨e1,_⟩|⟨_,e1⟩
      · exact Qc e1.symm hne
      · exact ⟨e1,rfl⟩
    · subst hT';exact .inl ⟨l',_,rfl,hl,hb'⟩
    · subst hT';rw [ZJ] at hx';unfold itE itP at hx'
      cases hx';refine .oblk r rfl ?_ (fun p hp=>?_) hF
      · show (w1.heap.setIfInBounds r _)[r]? =_;rw [hh];simp [hlt]
      · rw [Xn] at hp;subst hp;exact ⟨(hch.block b (Y8 hb) hbr).trans hb,fun hm=>hMb (hmm b (Y8 hb) hm)⟩
    · match i with
      |0=>simp at hx hp;subst hx hp;exact .val _
      |1=>simp at hx hp;subst hx hp;exact .val _
      |2=>simp at hx hp;subst hx hp;exact .val _
      |i+3=>simp at hx
    · rcases hw1 with rfl|rfl
      · exact Xe _
      · exact VQ _
theorem Gp {st:St} {x:Operand} {q:PV} {b r clock:Nat} {es:Array MapEntry} {seen:Array Nat} {e:MapEntry} (l:Nat) (hW:WfM es clock) (he:e∈es.toList) (ho:o.op= .entry x:=by exact rfl) (hx:ev st.slots x=some (itv r,q):=by exact rfl) (hl:lk st.heap l=some (itE b r clock es (seen.push e.born)):=by exact rfl):YE P st o (· = .tuple [e.key,e.val].toArray) (.tup [.val e.key, .val e.val]):= .exact fun M F a w H=>by
 have hv:=(H.ev hx).1
 obtain ⟨h,hs,hF⟩:=(H.tr l _ _ hl).blk
 obtain ⟨hb,hMb⟩:=hs (b, .map es clock) sM
 have hr:=run_entry_at (P:=P) w r b clock seen es clock e h hb he hW.2
 refine ⟨.tup _ _ rfl fun i x p hx hp=>?_,by simp [execOp,ho,hv,itv,hr]⟩
 match i with
 |0=>simp at hx hp;subst hx hp;exact .val _
 |1=>simp at hx hp;subst hx hp;exact .val _
 |i+2=>simp at hx
end
theorem D' (es:Array MapEntry):leftOf es #[]=es:=by
 unfold leftOf
 exact Array.filter_eq_self.2 fun x _=>sM
theorem Km {es:Array MapEntry} {seen:Array Nat} {e:MapEntry} (h:e∈(leftOf es seen).toList):e∈es.toList:=by
 unfold leftOf at h
 rw [UW] at h
 exact (Vh.1 h).1
theorem ZaV {e:MapEntry}:∀{L:List MapEntry},(L.map (·.born)).Nodup→e∈L→L.Perm (e::L.filter fun x=> !(x.born==e.born))
 | a ::L,hn,he=>by
   rw [Xj,Vt] at hn;rcases Xk.1 he with rfl|he
   · rw [Us sM];rw [List.filter_eq_self.2 fun x hx=>?_];have:x.born≠e.born:=fun h=>hn.1 (Xh.2 ⟨x,hx,h⟩);simpa using this
   · have:a.born≠e.born:=fun h=>hn.1 (Xh.2 ⟨e,he,h.symm⟩);rw [Ur (by simpa using this)];exact ((ZaV hn.2 he).cons a).trans (List.Perm.swap _ _ _)
theorem Tg {es:Array MapEntry} {seen:Array Nat} {e:MapEntry} {clock:Nat} (hW:WfM es clock) (he:e∈(leftOf es seen).toList):(kvOf (leftOf es seen)).Perm ((e.key,e.val)::kvOf (leftOf es (seen.push e.born))):=by
 have h1:((leftOf es seen).toList.map (·.born)).Nodup:=by
  unfold leftOf;rw [UW];exact hW.2.sublist (List.filter_sublist.map _)
 have h2:=(ZaV h1 he).map fun x=>(x.key,x.val)
 unfold kvOf
 refine h2.trans ?_
 rw [Xj]
 refine List.Perm.cons _ (List.Perm.of_eq ?_)
 congr 1
 unfold leftOf
 rw [UW,UW,List.filter_filter]
 refine List.filter_congr fun x _=>?_
 rw [Array.contains_push]
 cases seen.contains x.born<;>simp [Bool.beq_comm]
theorem Js {es:Array MapEntry} {seen:Array Nat} {e:MapEntry} {clock:Nat} (hW:WfM es clock) (he:e∈(leftOf es seen).toList):(leftOf es (seen.push e.born)).size<(leftOf es seen).size:=by
 have h:=(Tg hW he).length_eq
 rw [Xl,Ra,Ra] at h
 omega
def ArrT (P:Program) (t len:Nat):Bool:=match P.underlying t with
 |some (.array n e)=>Nat.beq n len&&(match P.info? e with|some i=>Nat.beq i.size 1|none=>false)
 |_=>false
theorem ArrT.run {P:Program} {t len:Nat} (h:ArrT P t len=true):∃e i,P.underlying t=some (.array len e)∧P.info? e=some i∧i.size=1:=by
 unfold ArrT at h
 split at h
 · rename_i n e hu;rw [Xi] at h;obtain ⟨h1,h2⟩:=h;split at h2
   · rename_i i hi;have e1:=XK h1;subst e1;exact ⟨e,i,hu,hi,XK h2⟩
   · cases h2
 · cases h
section
variable {P:Program} {st:St} {o:Oper}
theorem ZlX {t len j e' k' n i:Nat} {x y:Operand} {h:Value} {kd:IntKind} {p q:PV} {cs:List PV} (l:Nat) (hT:ArrT P t len=true) (ho:o.op= .indexAddr t x y:=by exact rfl) (hx:ev st.slots x=some (ZD (Zr h) j,p):=by exact rfl) (hy:ev st.slots y=some (.int kd (i:Int),q):=by exact rfl) (hl:lk st.heap l=some (h, .own e' k' n cs):=by exact rfl) (hn:0<n:=by first|omega|exact Xa rfl) (hi:i<len:=by first|omega|exact Xa rfl):YE P st o (· =ZD (Zr h) (j+i)) (.val (ZD (Zr h) (j+i))):=
 .exact fun M F a w H=>by
  have hv:=(H.ev hx).1;have hyv:=(H.ev hy).1;obtain ⟨g,cap,rfl,_⟩:=JV (H.tr l _ _ hl) hn;obtain ⟨e,inf,hu,hinf,hs1⟩:=ArrT.run hT;refine ⟨.val _,?_⟩;simp only [Zr,ZD] at hv ⊢;simp [execOp,ho,hv,hyv,Instr.indexAt,asIntOf,run_underlying hu,Instr.sureAddr,sizeOf,typeInfo,hinf,hs1,hi,WB]
theorem ZlY {t:Nat} {x y:Operand} {v0 v1:Value} {p0 p1:PV} {z:Value} (hT:ArrT P t 2=true) (hz:ZeroT P t z) (ho:o.op= .build t #[(0,x),(1,y)]:=by exact rfl) (hx:ev st.slots x=some (v0,p0):=by exact rfl) (hy:ev st.slots y=some (v1,p1):=by exact rfl) (h0:v0.oneCell'=true:=by exact rfl) (h1:v1.oneCell'=true:=by exact rfl) (hzs:z.cells.size=2:=by exact rfl):YE P st o (· = .agg [v0,v1].toArray) (.agg [p0,p1]):=
 .exact fun M F a w H=>by
  obtain ⟨hv,hS0⟩:=H.ev hx;obtain ⟨hyv,hS1⟩:=H.ev hy;obtain ⟨e,inf,hu,hinf,hs1⟩:=ArrT.run hT;have c0:=Gd h0;have c1:=Gd h1;obtain ⟨a0,a1,hza⟩:∃a0 a1,z.cells= #[a0,a1]:=by
   generalize z.cells=A at hzs;obtain ⟨L⟩:=A;match L,hzs with
   |[a0,a1],_=>exact ⟨a0,a1,rfl⟩
  refine ⟨.agg _ _ rfl fun i u r hu hr=>?_,?_⟩
  · match i with
    |0=>simp at hu hr;subst hu hr;exact hS0
    |1=>simp at hu hr;subst hu hr;exact hS1
    |i+2=>simp at hu
  · simp [execOp,ho,hv,hyv,Instr.build,run_underlying hu,ZeroT.run hz,sizeOf,typeInfo,hinf,hs1,Instr.fill,c0,c1,hza]
end
abbrev Pr:=BA×BA
def LR (k:Pr):Value:= .agg #[.string k.1, .string k.2]
theorem ZlZ {a b:Pr} (h:LR a=LR b):a=b:=by
 simp [LR] at h
 exact Prod.ext h.1 h.2
def akv (m:List (Pr×Value)):List (Value×Value):=m.map fun x=>(LR x.1,x.2)
def prOk (k:Pr):Prop:=k.1.size≤140737488355328∧k.2.size≤140737488355328
structure PkT (P:Program) (t ks s e:Nat) (z:Value):Prop where
 ht:P.underlying t=some (.map ks e)
 hu:P.underlying ks=some (.array 2 s)
 hs:P.underlying s=some .string
 hk:P.keyType ks=true
 hk2:P.keyTypeAt 2 ks=true
 hti:P.tiled 2 ks=true
 hc2:P.cellsOf ks=2
 hc1:P.cellsOf s=1
 hf:∀a b:BA,(Value.agg #[.string a, .string b]).formed P ks=true
 hsz:∃n,P.types.size=n+1
 hz:ZeroT P e z
theorem PkT.law {P:Program} {t ks s e:Nat} {z:Value} (h:PkT P t ks s e z):WideMaps.KeyLaw P ks:=deep_law (m:=2) dC h.hk2 h.hti (by rw [h.hu])
theorem PkT.key {P:Program} {t ks s e:Nat} {z:Value} (h:PkT P t ks s e z) {k:Pr} (hk:prOk k):∃l,keyOf P ks (LR k)=some l:=by
 obtain ⟨n,hn⟩:=h.hsz
 have hl:∀c:BA,c.size≤140737488355328→P.keyLits (n+1) s [.string c]=some [.string c.data.toList]:=fun c hc=>by
  unfold Program.keyLits;rw [h.hs];dsimp only;rw [Qb (XJ hc dC)]
 unfold keyOf
 rw [h.hu]
 dsimp only
 rw [h.hk,show (LR k).formed P ks=true from h.hf _ _,hn]
 refine ⟨.string (keyBytes [.string k.1.data.toList, .string k.2.data.toList]),?_⟩
 rw [Qb (show (true&&true)=true from rfl)]
 unfold Program.keyLits
 rw [h.hu]
 dsimp only [LR,Value.cells]
 rw [h.hc2,h.hc1]
 rw [Qb (by rfl)]
 rw [show List.range 2=[0,1] from rfl]
 simp only [List.mapM_cons,List.mapM_nil,X8,Nat.one_mul,Vk,List.drop_succ_cons,Uv,XM,hl _ hk.1,hl _ hk.2]
 rfl
theorem Zi9 {m:List (Pr×Value)} {k:Pr} (h:∀x∈m,x.1≠k):WX m k=none:=by
 induction m with
 |nil=>rfl
 | cons x m ih=>
   rw [WX,Qa (fun e=>h x sM e.symm)];exact ih fun y hy=>h y (by simp [hy])
theorem Zja {m:List (Pr×Value)} (hn:(m.map (·.1)).Nodup) {j:Nat} {k:Pr} {v:Value} (h:m[j]? =some (k,v)):WX m k=some v:=by
 induction m generalizing j with
 |nil=>simp at h
 | cons x m ih=>
   rw [Xj,Vt] at hn
   cases j with
   |zero=>simp at h;subst h;rw [WX,Qb rfl]
   | succ j=>
     rw [VO] at h;rw [WX,Qa (fun e=>hn.1 (Xh.2 ⟨_,Xc h,e⟩))];exact ih hn.2 h
theorem Zl0 {m:List (Pr×Value)} {k:Pr} {v:Value} (h:WX m k=none):KS m k v=m++[(k,v)]:=by
 induction m with
 |nil=>rfl
 | cons x m ih=>
   rw [WX] at h;split at h
   · cases h
   · rename_i hne;rw [KS,Qa hne,XV,ih h]
theorem Zg6 {m:List (Pr×Value)} (hn:(m.map (·.1)).Nodup) {j:Nat} {k:Pr} {u v:Value} (h:m[j]? =some (k,u)):KS m k v=m.set j (k,v):=by
 induction m generalizing j with
 |nil=>simp at h
 | cons x m ih=>
   rw [Xj,Vt] at hn
   cases j with
   |zero=>simp at h;subst h;rw [KS,Qb rfl];rfl
   | succ j=>
     rw [VO] at h;rw [KS,Qa (fun e=>hn.1 (Xh.2 ⟨_,Xc h,e⟩)),List.set_cons_succ,ih hn.2 h]
theorem ZaW {m:List (Pr×Value)} {k:Pr} {v:Value}:∀x,x∈(KS m k v).map (·.1)↔x=k∨x∈m.map (·.1):=by
 induction m with
 |nil=>intro x;simp [KS]
 | cons y m ih=>
   intro x;rw [KS];split
   · rename_i e;subst e;simp
   · rw [Xj,Xk,ih,Xj,Xk];constructor
     · rintro (h|h|h)
       · exact .inr (.inl h)
       · exact .inl h
       · exact .inr (.inr h)
     · rintro (h|h|h)
       · exact .inr (.inl h)
       · exact .inl h
       · exact .inr (.inr h)
theorem Da {m:List (Pr×Value)} {k:Pr} {v:Value} (hn:(m.map (·.1)).Nodup):((KS m k v).map (·.1)).Nodup:=by
 induction m with
 |nil=>simp [KS]
 | cons y m ih=>
   rw [KS];rw [Xj,Vt] at hn;split
   · rename_i e;rw [Xj,Vt];dsimp only;rw [e];exact hn
   · rename_i e;rw [Xj,Vt];refine ⟨fun h=>?_,ih hn.2⟩;rcases (ZaW _).1 h with h|h
     · exact e h.symm
     · exact hn.1 h
theorem ZaX {m:List (Pr×Value)} {k:Pr} {v:Value}:WX (KS m k v) k=some v:=by
 induction m with
 |nil=>rw [KS,WX,Qb rfl]
 | cons y m ih=>
   rw [KS];split
   · rw [WX,Qb rfl]
   · rename_i e;rw [WX,Qa e];exact ih
theorem Zjb {m:List (Pr×Value)} {k:Pr} {u v:Value}:KS (KS m k u) k v=KS m k v:=by
 induction m with
 |nil=>show KS [(k,u)] k v=[(k,v)];rw [KS,Qb rfl]
 | cons y m ih=>
   rw [KS];split
   · rename_i e;rw [KS,Qb rfl,KS,Qb e]
   · rename_i e;rw [KS,Qa e,ih,KS,Qa e]
theorem ZfB {es:Array MapEntry} {m:List (Pr×Value)} (h:kvOf es=akv m) {j:Nat} {e:MapEntry} {k:Pr} (he:es[j]? =some e) (hk:e.key=LR k):m[j]? =some (k,e.val):=by
 have h1:(kvOf es)[j]? =some (LR k,e.val):=by
  unfold kvOf;rw [Xo,Uf,he,←hk];rfl
 rw [h] at h1
 unfold akv at h1
 rw [Xo,XP] at h1
 obtain ⟨⟨k',v'⟩,h2,h3⟩:=h1
 obtain ⟨h4,h5⟩:=Prod.mk.inj h3
 dsimp only at h4 h5
 rw [h2,ZlZ h4,h5]
theorem Zl1 {es:Array MapEntry} {m:List (Pr×Value)} (h:kvOf es=akv m):∀e∈es.toList,∃x∈m,e.key=LR x.1:=fun e he=>by
 have h1:(e.key,e.val)∈kvOf es:=Xh.2 ⟨e,he,rfl⟩
 rw [h] at h1
 obtain ⟨x,hx,hxe⟩:=Xh.1 h1
 exact ⟨x,hx,(Prod.mk.inj hxe).1.symm⟩
theorem Zg7 {P:Program} {t ks s e:Nat} {z:Value} (hT:PkT P t ks s e z) {es:Array MapEntry} {m:List (Pr×Value)} (h:kvOf es=akv m) (hm:∀x∈m,prOk x.1) (hn:(m.map (·.1)).Nodup) {k:Pr} (hk:prOk k) (w:World):
 (WX m k=none∧(Instr.findKey ks (LR k) es.toList).run P w= .ok none w)∨∃(j:Nat) (e0:MapEntry),es[j]? =some e0∧e0.key=LR k∧WX m k=some e0.val∧(Instr.findKey ks (LR k) es.toList).run P w= .ok (some (j,e0.val)) w:=by
 obtain ⟨l,hl⟩:=hT.key hk
 have hall:∀e∈es.toList,∃l,keyOf P ks e.key=some l:=fun e he=>by
  obtain ⟨x,hx,hxe⟩:=Zl1 h e he;rw [hxe];exact hT.key (hm x hx)
 rcases hT.law.find w hl es.toList hall with ⟨h1,h2⟩|⟨j,e0,h1,h2,h3⟩
 · refine .inl ⟨Zi9 fun x hx e=>?_,h1⟩;obtain ⟨i,hi⟩:=XR hx;have h4:(kvOf es)[i]? =some (LR x.1,x.2):=by rw [h];unfold akv;rw [Xo,hi];rfl
   unfold kvOf at h4;rw [Xo,XP] at h4;obtain ⟨e0,h5,h6⟩:=h4;exact h2 e0 (Xc h5) (by rw [(Prod.mk.inj h6).1,e])
 · have h4:es[j]? =some e0:=by rw [←Uf];exact h2
   exact .inr ⟨j,e0,h4,h3,Zja hn (ZfB h h4 h3),h1⟩
section
variable {P:Program} {c:Ctx} {ops:Array Oper} {Q:Exit→Act→World→Prop} {rest:List Oper} {sL hP:List (Nat×Ent)} {o:Oper}
theorem Zg8 {t ks s e:Nat} {z:Value} (hT:PkT P t ks s e z) {b clock:Nat} {es:Array MapEntry} {m:List (Pr×Value)} (h:kvOf es=akv m) (hm:∀x∈m,prOk x.1) (hn:(m.map (·.1)).Nodup) {k:Pr} (hk:prOk k) {w:World} (hb:w.heap[b]? =some (.map es clock)):(Instr.lookup t (.map (some b)) (LR k) false).run P w= .ok ((WX m k).getD z) w:=by
 obtain ⟨l,hl⟩:=hT.key hk
 have hck:=fun em=>hT.law.check w em hl
 unfold Instr.lookup
 simp only [Sem.run_bind,run_underlying hT.ht,Result.andThen_ok,getObj,Sem.run,hb,hck]
 rcases Zg7 hT h hm hn hk w with ⟨h1,h2⟩|⟨j,e0,h3,h4,h1,h2⟩
 · simp [h1,h2,hck,ZeroT.run hT.hz]
 · simp [h1,h2,hck]
theorem Zg9 {st:St} {t ks s e:Nat} {z u:Value} {x y:Operand} {mv:Value} {m:List (Pr×Value)} {k:Pr} {p q:PV} (l:Nat) (hT:PkT P t ks s e z) (hm:∀x∈m,prOk x.1) (hn:(m.map (·.1)).Nodup) (hk:prOk k) (hu:(WX m k).getD z=u) (ho:o.op= .lookup t x y false:=by exact rfl) (hx:ev st.slots x=some (mv,p):=by exact rfl) (hl:lk st.heap l=some (mv, .omap (akv m)):=by exact rfl) (hy:ev st.slots y=some (LR k,q):=by exact rfl):YE P st o (· =u) (.val u):= .exact fun M F a w H=>by
 subst hu
 have hv:=(H.ev hx).1
 have hkv:=(H.ev hy).1
 obtain ⟨b,es,clock,rfl,he,h,_⟩:=(H.tr l _ _ hl).map
 exact ⟨.val _,by simp [execOp,ho,hv,hkv,Zg8 hT he.symm hm hn hk h]⟩
theorem Zdt {st:St} {t ks s e b clock:Nat} {es:Array MapEntry} {z u:Value} {x y:Operand} {m:List (Pr×Value)} {k:Pr} {p q:PV} (l:Nat) (hT:PkT P t ks s e z) (he:kvOf es=akv m) (hm:∀x∈m,prOk x.1) (hn:(m.map (·.1)).Nodup) (hk:prOk k) (hu:(WX m k).getD z=u) (ho:o.op= .lookup t x y false:=by exact rfl) (hx:ev st.slots x=some (.map (some b),p):=by exact rfl) (hl:lk st.heap l=some (.map (some b), .oblk (.map (some b)) b (.map es clock) []):=by exact rfl) (hy:ev st.slots y=some (LR k,q):=by exact rfl):YE P st o (· =u) (.val u):= .exact fun M F a w H=>by
 subst hu
 have hv:=(H.ev hx).1
 have hkv:=(H.ev hy).1
 obtain ⟨h,_,_⟩:=(H.tr l _ _ hl).blk
 exact ⟨.val _,by simp [execOp,ho,hv,hkv,Zg8 hT he hm hn hk h]⟩
theorem Zdu {es:Array MapEntry} {j:Nat} {e0:MapEntry} {f:MapEntry→MapEntry} (h:es[j]? =some e0) (hf:f e0=e0):es.modify j f=es:=by
 apply Array.ext'
 rw [UM]
 rw [←Uf] at h
 have key:∀(l:List MapEntry) (j:Nat),l[j]? =some e0→l.modify j f=l:=fun l=>by
  induction l with
  |nil=>intro j h;simp
  | cons a l ih=>
    intro j h
    cases j with
    |zero=>simp at h;subst h;simp [hf]
    |succ j=>rw [VO] at h;rw [UN,ih j h]
 exact key _ _ h
theorem Zjc {es:Array MapEntry} {m:List (Pr×Value)} {j:Nat} {e0:MapEntry} {k:Pr} {v:Value} (he:kvOf es=akv m) (hn:(m.map (·.1)).Nodup) (h:es[j]? =some e0) (hk:e0.key=LR k):kvOf (es.modify j fun e=>{e with val:=v})=akv (KS m k v):=by
 rw [Zg6 hn (ZfB he h hk)]
 have h1:kvOf (es.modify j fun e=>{e with val:=v})=(kvOf es).set j (LR k,v):=by
  unfold kvOf;rw [UM];rw [←Uf] at h;have key:∀(l:List MapEntry) (j:Nat),l[j]? =some e0→(l.modify j fun e=>{e with val:=v}).map (fun x=>(x.key,x.val))=(l.map fun x=>(x.key,x.val)).set j (LR k,v):=fun l=>by
   induction l with
   |nil=>intro j h;simp at h
   | cons a l ih=>
     intro j h
     cases j with
     |zero=>simp at h;subst h;simp [hk]
     |succ j=>rw [VO] at h;rw [UN,Xj,ih j h,Xj,List.set_cons_succ]
  exact key _ _ h
 rw [h1,he]
 unfold akv
 rw [Up]
theorem Zjd {es:Array MapEntry} {j:Nat} {e0:MapEntry} (hn:(es.toList.map (·.born)).Nodup) (h:es[j]? =some e0):es.findIdx? (fun e=>(e.born:Int)==(e0.born:Int))=some j:=by
 rw [←Uf] at h
 obtain ⟨L⟩:=es
 rw [List.findIdx?_toArray]
 have key:∀(l:List MapEntry) (j:Nat),(l.map (·.born)).Nodup→l[j]? =some e0→l.findIdx? (fun e=>(e.born:Int)==(e0.born:Int))=some j:=fun l=>by
  induction l with
  |nil=>intro j _ h;simp at h
  | cons a l ih=>
    intro j hn h;rw [Xj,Vt] at hn
    cases j with
    |zero=>simp at h;subst h;simp [List.findIdx?_cons]
    | succ j=>
      rw [VO] at h;have hne:a.born≠e0.born:=fun e=>hn.1 (Xh.2 ⟨e0,Xc h,e.symm⟩);have hf:((a.born:Int)==(e0.born:Int))=false:=beq_eq_false_iff_ne.2 fun e=>hne (by exact_mod_cast e);rw [List.findIdx?_cons,hf];simp [ih j hn.2 h]
 exact key _ _ hn h
theorem ζe {t ks s e:Nat} {z:Value} {x y:Operand} {mv:Value} {m:List (Pr×Value)} {k:Pr} {p q:PV} (l d:Nat) (hT:PkT P t ks s e z) (hm:∀x∈m,prOk x.1) (hn:(m.map (·.1)).Nodup) (hk:prOk k)
 (kk:∀(b clock born:Nat) (es:Array MapEntry),mv= .map (some b)→WfM es clock→kvOf es=akv (KS m k ((WX m k).getD z))→(∃(j:Nat) (e0:MapEntry),es[j]? =some e0∧e0.key=LR k∧e0.born=born)→aL P c ops Q rest ⟨put d (.tuple [(WX m k).getD z, .int .i64 born].toArray, .tup [.val ((WX m k).getD z), .val (.int .i64 born)]) sL,put l (mv, .oblk mv b (.map es clock) []) hP⟩)
 (hw:ZP ops sL o=some true:=by exact rfl) (hd:o.dst=some d:=by exact rfl) (hdn:d<c.nt:=by exact Xa rfl) (ho:o.op= .mapEntry t x y:=by exact rfl) (hx:ev sL x=some (mv,p):=by exact rfl) (hl:lk hP l=some (mv, .omap (akv m)):=by exact rfl) (hy:ev sL y=some (LR k,q):=by exact rfl):aL P c ops Q (o::rest) (⟨sL,hP⟩:St):=
 Y4 hw fun a w F H=>by
  have hxv:=(H.rd.ev hx).1;have hyv:=(H.rd.ev hy).1;obtain ⟨b,es,clock,rfl,he,hb,hFb,hWf⟩:=(H.tr l _ _ hl).mapW;obtain ⟨lt',hlt'⟩:=hT.key hk;have hck:=hT.law.check w false hlt';have hst:=hT.law.stays w hlt';have hblt:=Y8 hb;have main:∀(es':Array MapEntry) (clock' born:Nat),WfM es' clock'→kvOf es'=akv (KS m k ((WX m k).getD z))→(∃(j:Nat) (e0:MapEntry),es'[j]? =some e0∧e0.key=LR k∧e0.born=born)→wpList P ops Q rest (a.put (some d) (.tuple [(WX m k).getD z, .int .i64 born].toArray)) {w with heap:=w.heap.setIfInBounds b (.map es' clock')}:=fun es' clock' born hW' he' hj=>by
   have hch:Chg (fun x=>x=b) w {w with heap:=w.heap.setIfInBounds b (.map es' clock')}:=⟨rfl,rfl,rfl,sM,fun i hi hne=>by
    rw [UO (fun e=>hne e.symm)]⟩
   refine kk b clock' born es' rfl hW' he' hj _ _ ⟨F,H.change (fun l'=>l'=l) hdn (hch.wid fun x hx=> .inl ⟨l,_,rfl,hl,(hFb x).2 hx⟩) (fun l' x hne hx'=>?_) (fun l' x b' hT' hx' hb'=>?_) (fun hmm l' u q hT' hx'=>?_) (fun l1 l2 _ _ _ h1 h2 hne=>Qc (h1.trans h2.symm) hne) (fun _=> .tup _ _ rfl fun i x p hx hp=>?_)⟩
   · rcases ZZ hx' with ⟨e1,_⟩|⟨_,e1⟩
     · exact Qc e1.symm hne
     · exact ⟨e1,rfl⟩
   · subst hT';exact .inl ⟨l',_,rfl,hl,hb'⟩
   · subst hT';rw [ZJ] at hx'
     cases hx';exact .oblk b rfl (by simp [hblt]) (fun p hp=>by simp at hp) hFb
   · match i with
     |0=>simp at hx hp;subst hx hp;exact .val _
     |1=>simp at hx hp;subst hx hp;exact .val _
     |i+2=>simp at hx
  rcases Zg7 hT he.symm hm hn hk w with ⟨h1,h2⟩|⟨j,e0,h3,h4,h1,h2⟩
  · have hrun:(execOp a.eval o).run P w= .ok (.value (.tuple [(WX m k).getD z, .int .i64 clock].toArray)) {w with heap:=w.heap.setIfInBounds b (.map (es.push {key:=LR k,val:=z,born:=clock}) (clock+1))}:=by
     simp [execOp,ho,hxv,hyv,Instr.mapEntry,run_underlying hT.ht,getObj,setObj,Sem.run,hb,hck,h1,h2,ZeroT.run hT.hz,goInt]
    unfold Oper.wp;rw [hrun,Oper.upon_value,hd];refine main _ _ _ (ZgD hWf) ?_ ⟨es.size,{key:=LR k,val:=z,born:=clock},sM,rfl,rfl⟩;rw [h1,Option.getD_none,Zl0 h1];unfold akv at he ⊢;rw [XC,he];simp [kvOf]
  · have hmod:es.modify j (fun e=>{e with key:=LR k})=es:=Zdu h3 (by rw [←h4]);have hrun:(execOp a.eval o).run P w= .ok (.value (.tuple [(WX m k).getD z, .int .i64 e0.born].toArray)) {w with heap:=w.heap.setIfInBounds b (.map es clock)}:=by
     simp [execOp,ho,hxv,hyv,Instr.mapEntry,run_underlying hT.ht,getObj,setObj,Sem.run,hb,hck,h1,h2,h3,h4,hst,hmod,goInt]
    unfold Oper.wp;rw [hrun,Oper.upon_value,hd];refine main _ _ _ hWf ?_ ⟨j,e0,h3,h4,rfl⟩;have h5:=ZfB he.symm h3 h4;obtain ⟨hj5,hje⟩:=Xr.1 h5;rw [h1,Uk,Zg6 hn h5,←hje,List.set_getElem_self,he]
theorem ZfC {t b clock born:Nat} {es:Array MapEntry} {x y u:Operand} {m:List (Pr×Value)} {k:Pr} {v:Value} {p q r:PV} (l:Nat) (hW:WfM es clock) (he:kvOf es=akv m) (hn:(m.map (·.1)).Nodup) (hj:∃(j:Nat) (e0:MapEntry),es[j]? =some e0∧e0.key=LR k∧e0.born=born)
 (kk:aL P c ops Q rest ⟨sL,put l (.map (some b), .omap (akv (KS m k v))) hP⟩)
 (hw:ZP ops sL o=some true:=by exact rfl) (hd:o.dst=none:=by exact rfl) (ho:o.op= .entryStore t x y u:=by exact rfl) (hx:ev sL x=some (.map (some b),p):=by exact rfl) (hl:lk hP l=some (.map (some b), .oblk (.map (some b)) b (.map es clock) []):=by exact rfl) (hy:ev sL y=some (.int .i64 born,q):=by exact rfl) (hu:ev sL u=some (v,r):=by exact rfl):aL P c ops Q (o::rest) (⟨sL,hP⟩:St):=
 Y4 hw fun a w F H=>by
  have hxv:=(H.rd.ev hx).1;have hyv:=(H.rd.ev hy).1;have huv:=(H.rd.ev hu).1;obtain ⟨hb,_,hFb⟩:=(H.tr l _ _ hl).blk;have hblt:=Y8 hb;obtain ⟨j,e0,h3,h4,rfl⟩:=hj;have hfi:=Zjd hW.2 h3;have hkv:=Zjc (v:=v) he hn h3 h4;have hch:Chg (fun x=>x=b) w {w with heap:=w.heap.setIfInBounds b (.map (es.modify j fun e=>{e with val:=v}) clock)}:=⟨rfl,rfl,rfl,sM,fun i hi hne=>by
   rw [UO (fun e=>hne e.symm)]⟩
  have key:HoldsF c ⟨sL,put l (.map (some b), .omap (akv (KS m k v))) hP⟩ F a {w with heap:=w.heap.setIfInBounds b (.map (es.modify j fun e=>{e with val:=v}) clock)}:=by
   refine H.change0 (fun l'=>l'=l) (hch.wid fun x hx=> .inl ⟨l,_,rfl,hl,(hFb x).2 hx⟩) (fun l' x hne hx'=>?_) (fun l' x b' hT' hx' hb'=>?_) (fun hmm l' u q hT' hx'=>?_) (fun l1 l2 _ _ _ h1 h2 hne=>Qc (h1.trans h2.symm) hne)
   · rcases ZZ hx' with ⟨e1,_⟩|⟨_,e1⟩
     · exact Qc e1.symm hne
     · exact ⟨e1,rfl⟩
   · subst hT';exact .inl ⟨l',_,rfl,hl,hb'⟩
   · subst hT';rw [ZJ] at hx'
     cases hx';rw [←hkv];exact .omap b _ clock (by simp [hblt]) hFb (Zar _ (fun _=>rfl) hW)
  unfold Oper.wp execOp;simp [ho,hxv,hyv,huv,Instr.entryStore,getObj,setObj,Sem.run,hb,hfi,asInt,asIntOf,Oper.upon,hd,Act.put];exact kk _ _ ⟨F,key⟩
end
section
variable {P:Program} {c:Ctx} {ops:Array Oper} {Q:Exit→Act→World→Prop} {rest:List Oper} {sL hP:List (Nat×Ent)} {o:Oper}
theorem Zl2 {fn:Func} {R:PV→Prop} {t e k:Nat} {h:Value} {q:PV} {cs:List PV} (l:Nat) (hr:fn.results= #[.tmp t]) (ht:lk sL t=some (ZD (Zr h) 0,q)) (hl:lk hP l=some (h, .own e k 1 cs)) (hR:R (.obox e k cs)) (hN:∀b,¬c.N0 b:=by intro _ h;exact h) (hdf:c.df=[]:=by exact rfl):aR c (bodyPost P fn (Gy c R)) (⟨sL,hP⟩:St):=fun a w ⟨F,H⟩=>by
 obtain ⟨h1,h2⟩:=H.sl t _ q ht
 have hT:=H.tr l _ _ hl
 obtain ⟨g,cap,rfl,_⟩:=JV hT Vs
 refine ⟨H.df.trans hdf,ZD (Zr (.slice (some ⟨g,0,none⟩) 1 cap)) 0,?_,_, .obox e k cs,F l,rfl,hR,H.ext.ext (fun b _=>hN b),(Tr.obox g cap hT).anti fun b _ hb=>?_,fun b hb=>(H.lo l _ b hl hb).resolve_right (hN b),H.dw⟩
 · simp [results,hr,VI,h1]
 · rcases hb with hb|hb
   · exact .inl hb
   · exact .inr ⟨l,_,hl,hb⟩
theorem ZoM {l e k:Nat} {v:Value} {cs:List PV} (hl:lk hP l=some (v, .obox e k cs)):J1 (⟨sL,hP⟩:St) (fun h:{h:Value//v=ZD (Zr h) 0}=>⟨sL,put l (h.1, .own e k 1 cs) hP⟩):=fun c a w ⟨F,H⟩=>by
 have hT:=H.tr l _ _ hl
 cases hT with
 |shr h _=>cases h
 | obox g cap h=>
   refine ⟨⟨.slice (some ⟨g,0,none⟩) 1 cap,rfl⟩,F,?_⟩;refine H.retell (fun x=>x=l) (fun x y hnT hx=>?_) (fun x y b hTx hx hb'=>?_) (fun hmm x u q hTx hx=>?_) (fun x1 x2 y1 y2 b h1 h2 hne'=>Qc (h1.trans h2.symm) hne')
   · have n1:x≠l:=hnT;rw [ZY (Ne.symm n1)] at hx;exact ⟨hx,rfl⟩
   · subst hTx;exact ⟨x,_,rfl,hl,hb'⟩
   · subst hTx;rw [ZJ] at hx
     cases hx;exact h.anti hmm
end
end Go.En
namespace Go.Proofs.YteiincihiagidaaGreat
open Go.RowKit Go.Cb Go.En Tryz
section
variable {κ:Type} [DecidableEq κ]
def iget:List (κ×Int)→κ→Int
 |[],_=>0
 |x::l,k=>if k=x.1 then x.2 else iget l k
def Sr:List (κ×Int)→κ→Int→List (κ×Int)
 |[],k,v=>[(k,v)]
 |x::l,k,v=>if k=x.1 then (k,v)::l else x::Sr l k v
def Zje (m:List (κ×Int)) (k:κ) (n:Int):List (κ×Int):=Sr m k (iget m k+n)
def Kn (m:List (κ×Int)):List (κ×Value):=m.map fun x=>(x.1, .int .i64 x.2)
theorem ζf (m:List (κ×Int)) (k:κ):(WX (Kn m) k).getD (.int .i64 0)= .int .i64 (iget m k):=by
 induction m with
 |nil=>rfl
 | cons x m ih=>
   show (WX ((x.1,Value.int .i64 x.2)::Kn m) k).getD _=_;rw [WX,iget];split
   · rfl
   · exact ih
theorem ζg (m:List (κ×Int)) (k:κ) (v:Int):KS (Kn m) k (.int .i64 v)=Kn (Sr m k v):=by
 induction m with
 |nil=>rfl
 | cons x m ih=>
   show KS ((x.1,Value.int .i64 x.2)::Kn m) k _=_;rw [KS,Sr];split
   · rfl
   · rw [ih];rfl
theorem Zjf {m:List (κ×Int)} {k:κ} {v:Int}:∀x,x∈(Sr m k v).map (·.1)↔x=k∨x∈m.map (·.1):=by
 induction m with
 |nil=>intro x;simp [Sr]
 | cons y m ih=>
   intro x;rw [Sr];split
   · rename_i e;subst e;simp
   · rw [Xj,Xk,ih,Xj,Xk];constructor
     · rintro (h|h|h)
       · exact .inr (.inl h)
       · exact .inl h
       · exact .inr (.inr h)
     · rintro (h|h|h)
       · exact .inr (.inl h)
       · exact .inl h
       · exact .inr (.inr h)
theorem ZfD {m:List (κ×Int)} {k:κ} {v:Int} (hn:(m.map (·.1)).Nodup):((Sr m k v).map (·.1)).Nodup:=by
 induction m with
 |nil=>simp [Sr]
 | cons y m ih=>
   rw [Sr];rw [Xj,Vt] at hn;split
   · rename_i e;rw [Xj,Vt];dsimp only;rw [e];exact hn
   · rename_i e;rw [Xj,Vt];refine ⟨fun h=>?_,ih hn.2⟩;rcases (Zjf _).1 h with h|h
     · exact e h.symm
     · exact hn.1 h
theorem Zl3 (m:List (κ×Int)) (k:κ) (v:Int):(Sr m k v).length≤m.length+1:=by
 induction m with
 |nil=>simp [Sr]
 |cons y m ih=>rw [Sr];split<;>simp<;>omega
end
def mkC (x:BA×Int):Cnt:=⟨x.1,x.2⟩
def mkF (x:Pr×Int):Flw:=⟨x.1.1,x.1.2,x.2⟩
def Zq4:Value×Value→Cnt
 |(.string s, .int _ n)=>⟨s,n⟩
 |_=>⟨ByteArray.empty,0⟩
theorem ZoN (m:List (BA×Int)):(skv (Kn m)).map Zq4=m.map mkC:=by
 unfold skv Kn
 rw [Xt,Xt]
 rfl
theorem ZoO {m:List (BA×Int)} {x:Value×Value} (h:x∈skv (Kn m)):∃s n,(s,n)∈m∧x.1= .string s∧x.2= .int .i64 n:=by
 unfold skv Kn at h
 rw [Xt] at h
 obtain ⟨y,hy,rfl⟩:=Xh.1 h
 exact ⟨y.1,y.2,hy,rfl,rfl⟩
def Zq5:Value×Value→Flw
 |(.agg ⟨[.string a, .string b]⟩, .int _ n)=>⟨a,b,n⟩
 |_=>⟨ByteArray.empty,ByteArray.empty,0⟩
theorem ZoP (m:List (Pr×Int)):(akv (Kn m)).map Zq5=m.map mkF:=by
 unfold akv Kn
 rw [Xt,Xt]
 rfl
theorem ZoQ {m:List (Pr×Int)} {x:Value×Value} (h:x∈akv (Kn m)):∃k n,(k,n)∈m∧x.1=LR k∧x.2= .int .i64 n:=by
 unfold akv Kn at h
 rw [Xt] at h
 obtain ⟨y,hy,rfl⟩:=Xh.1 h
 exact ⟨y.1,y.2,hy,rfl,rfl⟩
def SameC (L:List Cnt) (m:List (BA×Int)):Prop:=L.Perm (m.map mkC)∧L.Pairwise fun a b=>strLt a.name b.name=true
def SameF (L:List Flw) (m:List (Pr×Int)):Prop:=L.Perm (m.map mkF)∧L.Pairwise fun a b=>KN a b<0
theorem Zdv {L rows:List Cnt} {m:List (BA×Int)} (hn:(m.map (·.1)).Nodup) (hp:L.Perm (m.map mkC)) (hr:rows.Perm L) (ho:∀(i j:Nat) (a b:Cnt),i<j→rows[i]? =some a→rows[j]? =some b→¬Z0 b.name a.name<0):SameC rows m:=by
 refine ⟨hr.trans hp,?_⟩
 have h1:(rows.map (·.name)).Nodup:=by
  have h2:=((hr.trans hp).map (·.name));rw [Xt] at h2;exact (h2.pairwise_iff (R:=(· ≠ ·)) fun h=>Ne.symm h).2 hn
 rw [Ui,Vq] at h1
 rw [XS] at h1 ⊢
 intro i j hi hj hij
 have h3:=h1 i j hi hj hij
 have h4:=ho i j _ _ hij (Xx hi) (Xx hj)
 rw [Tc] at h4
 cases h5:strLt rows[i].name rows[j].name with
 |true=>rfl
 |false=>exact Qc (Kw h5 (by simpa using h4)) h3
theorem EG {a b:Flw}:KN a b=0↔a.src=b.src∧a.dst=b.dst:=by
 unfold KN
 by_cases h:Z0 a.src b.src=0
 · rw [Qb h,Kx];exact ⟨fun h2=>⟨Kx.1 h,h2⟩,fun h2=>h2.2⟩
 · rw [Qa h];exact ⟨fun h2=>Qc h2 h,fun h2=>Qc (Kx.2 h2.1) h⟩
theorem RZ {a b:Flw}:KN a b<0↔strLt a.src b.src=true∨(a.src=b.src∧strLt a.dst b.dst=true):=by
 unfold KN
 by_cases h:Z0 a.src b.src=0
 · rw [Qb h,Tc];have h1:=Kx.1 h;constructor
   · exact fun h2=> .inr ⟨h1,h2⟩
   · rintro (h2|h2)
     · rw [h1,Y2] at h2;exact Qc h2 dC
     · exact h2.2
 · rw [Qa h,Tc];constructor
   · exact fun h2=> .inl h2
   · rintro (h2|h2)
     · exact h2
     · exact Qc (Kx.2 h2.1) h
theorem T4 {a b:Flw} (h:¬KN b a<0) (hne:¬(a.src=b.src∧a.dst=b.dst)):KN a b<0:=by
 rw [RZ] at h ⊢
 cases h1:strLt a.src b.src with
 |true=>exact .inl rfl
 | false=>
   have h2:strLt b.src a.src=false:=by
    cases h3:strLt b.src a.src with
    |false=>rfl
    |true=>exact Qc (.inl h3) h
   have h4:=Kw h1 h2;refine .inr ⟨h4,?_⟩
   cases h5:strLt a.dst b.dst with
   |true=>rfl
   | false=>
     have h6:strLt b.dst a.dst=false:=by
      cases h7:strLt b.dst a.dst with
      |false=>rfl
      |true=>exact Qc (.inr ⟨h4.symm,h7⟩) h
     exact Qc ⟨h4,Kw h5 h6⟩ hne
theorem LL {a b c:Flw} (h:KN a b<0) (k:KN b c<0):KN a c<0:=by
 rw [RZ] at h k ⊢
 rcases h with h|⟨h1,h2⟩
 · rcases k with k|⟨k1,k2⟩
   · exact .inl (YY h k)
   · exact .inl (k1▸h)
 · rcases k with k|⟨k1,k2⟩
   · exact .inl (h1▸k)
   · exact .inr ⟨h1.trans k1,YY h2 k2⟩
theorem Tt (a:Flw):¬KN a a<0:=by rw [EG.2 ⟨rfl,rfl⟩];decide
theorem Zjg {a b c:Flw} (h:¬KN a b<0) (k:¬KN b c<0):¬KN a c<0:=fun hc=>by
 by_cases e1:b.src=a.src∧b.dst=a.dst
 · refine k ?_;rw [RZ] at hc ⊢;rw [e1.1,e1.2];exact hc
 · by_cases e2:c.src=b.src∧c.dst=b.dst
   · refine h ?_;rw [RZ] at hc ⊢;rw [←e2.1,←e2.2];exact hc
   · have h1:=T4 h e1;have h2:=T4 k e2;exact Tt _ (LL hc (LL h2 h1))
theorem Zdw {L rows:List Flw} {m:List (Pr×Int)} (hn:(m.map (·.1)).Nodup) (hp:L.Perm (m.map mkF)) (hr:rows.Perm L) (ho:∀(i j:Nat) (a b:Flw),i<j→rows[i]? =some a→rows[j]? =some b→¬KN b a<0):SameF rows m:=by
 refine ⟨hr.trans hp,?_⟩
 have h1:(rows.map fun f=>((f.src,f.dst):Pr)).Nodup:=by
  have h2:=((hr.trans hp).map fun f=>((f.src,f.dst):Pr));rw [Xt] at h2;exact (h2.pairwise_iff (R:=(· ≠ ·)) fun h=>Ne.symm h).2 hn
 rw [Ui,Vq] at h1
 rw [XS] at h1 ⊢
 intro i j hi hj hij
 have h3:=h1 i j hi hj hij
 have h4:=ho i j _ _ hij (Xx hi) (Xx hj)
 exact T4 h4 fun e=>h3 (Prod.ext e.1 e.2)
theorem Zjh {a b c:BA} (h:Z0 a b<0) (k:Z0 b c<0):Z0 a c<0:=by
 rw [Tc] at h k ⊢;exact YY h k
theorem ZfE (a:BA):¬Z0 a a<0:=by rw [Kx.2 rfl];decide
theorem Zji {a b c:BA} (h:¬Z0 a b<0) (k:¬Z0 b c<0):¬Z0 a c<0:=fun hc=>by
 rw [Tc] at h k hc
 by_cases e:strLt b a=true
 · exact k (YY e hc)
 · have h1:a=b:=Kw (by simpa using h) (by simpa using e);rw [h1] at hc;exact k hc
theorem ZaY:ElT prog 97 108 2 24 (.agg #[(.string ByteArray.empty),(.int .i64 0)]):=⟨underlying97,by kernel_rfl,rfl,dC⟩
theorem ZfF:J2 prog 108=some ((.agg #[(.string ByteArray.empty),(.int .i64 0)]),([0,1]:List Nat).map fun o=>(o,1)):=kR
theorem ZoR (l:List Int):AFg prog 176 [pInts l] (· =Zc (Kp l)):=by
 refine AFg.of_body 18 func176 rfl ntmps176 (Xa rfl) ?_
 intro w0 M0 vs hl hv
 obtain ⟨v0,rfl⟩:=Zij hl
 clear hl hv
 refine WE 0 rfl fun hlen=>?_
 refine Px ?_
 refine xL 6 Za (xL 7 (Zy Ye) (xL 8 Za ?_));refine ZF ?_
 refine Y7 (ι:={k:Nat//k≤l.length∧Kp l=Kp (l.drop k)}) (fun k=>⟨[(3,_,_),(6,_,_),(7,_,_),(8, .int .i64 k.1,Zc k.1)],[]⟩) (fun k=>l.length-k.1) ⟨0,oM,rfl⟩ (fun a w H=>H.weaken sB trivial) ?_
 rintro ⟨k,hk,hp⟩
 dsimp only
 refine Ys ?_ ?_<;>intro hb9
 · (
 obtain ⟨x,hx⟩:=gS l k;have e1:=Z8 (f:=Zc) hx;(have hs:Kp (l.drop k)=if x=0 then Kp (l.drop (k+1)) else x:=by rw [Jw hx,Kp]);refine Zh ?_;refine xM (Zg Ye) ?_;refine yV (ZG ZM) ?_;refine ZQ ?_;refine Y' ?_;refine ZR ?_ ?_<;>intro hb14
 · (
 refine ZE ?_;refine Zf results176 rfl ?_;rw [hp,hs,Qa hb14])
 · (
 refine ZE ?_;refine Zm (
  ⟨k+1,oM,by rw [hp,hs,Qb (by simpa using hb14)]⟩
  ) (by dsimp only;omega) sB trivial))
 · (
 refine ZE ?_;refine Zf results176 rfl ?_;rw [hp,XU oM];rfl)
theorem ZfG (a b:Flw):AFg prog 142 [.agg (HI a), .agg (HI b)] (· =Zc (KN a b)):=by
 refine AFg.of_body 17 func142 rfl ntmps142 (Xa rfl) ?_
 intro w0 M0 vs hl hv
 obtain ⟨v0,v1,rfl⟩:=HE hl
 clear hl hv
 refine Zh ?_
 refine ZV 2 3 fun h2=>?_;refine ZV 3 3 fun h3=>?_;refine ZB ?_
 refine We [] [2,3] ?_<;>refine xD 0 rfl (Zb 2 Gi) ?_<;>(refine yD 1 rfl (Ze 2 ZK) fun v6 h=>?_;cases h)<;>refine xD 2 rfl (Zb 3 Gi) ?_<;>(refine yD 3 rfl (Ze 3 ZK) fun v8 h=>?_;cases h)<;>refine xD 5 rfl (Zb 2 Gj) ?_<;>(refine yD 6 rfl (Ze 2 ZK) fun v11 h=>?_;cases h)<;>refine xD 7 rfl (Zb 3 Gj) ?_<;>(refine yD 8 rfl (Ze 3 ZK) fun v13 h=>?_;cases h)<;>(refine aDr 4 fun bk=>?_)<;>(refine cV (cA call53 (G7 a.src b.src)) ?_)<;>refine bE bk ?_<;>(refine aDr 9 fun bk=>?_)<;>(refine cV (cA call53 (G7 a.dst b.dst)) ?_)<;>refine bE bk ?_<;>(refine aDr 10 fun bk=>?_)<;>refine Ly (xs:=[_,_]) 15 WY fun h15 ho15=>?_<;>refine bE bk ?_<;>(refine aDr 11 fun bk=>?_)<;>(refine Zp (En.freeze (l:=15) (t:=15) rfl rfl) fun _=>?_;refine cV (cA call176 (ZoR [Z0 a.src b.src,Z0 a.dst b.dst])) ?_)<;>refine bE bk ?_<;>refine gEx 12 ?_<;>refine Kz ?_
 refine Zf results142 rfl ?_
 unfold KN Kp Kp Kp
 by_cases h:Z0 a.src b.src=0
 · rw [Qb h,Qb h];split<;>simp_all
 · rw [Qa h,Qa h]
theorem Zl4 (a b:Cnt):AFg prog 174 [.agg (HH a), .agg (HH b)] (· =Zc (Z0 a.name b.name)):=by
 refine AFg.of_body 10 func174 rfl ntmps174 (Xa rfl) ?_
 intro w0 M0 vs hl hv
 obtain ⟨v0,v1,rfl⟩:=HE hl
 clear hl hv
 refine Zh ?_
 refine ZV 2 2 fun h2=>?_;refine ZV 3 2 fun h3=>?_;refine ZQ ?_
 refine xM (Zb 2 JA) ?_;refine yV (Ze 2 ZK) ?_;refine xM (Zb 3 JA) ?_;refine yV (Ze 3 ZK) ?_;refine cV (cA call53 (G7 a.name b.name)) ?_;refine ZB ?_
 exact Zf results174 rfl rfl
theorem Zha:AggT prog 108 2=true:=kR
theorem Zjj:Zc5 prog 173 174 2:=fun enc hk h1 cf hO blk cap d w hcmp hH hblk hsz=>
 AnyQ.slices_SortFunc Tryz.sortCntL 2 (fun w=>AggT.run Zha w) (fun w=>AggT.size Zha w) enc hk h1 cf hO 174 #[] blk 0 cap d w (call174) hcmp hH hblk hsz
theorem ZfH (caps:List PV):AF prog 173 [.sl 0 [], .fn 174 caps] (· = .val (.tuple #[])):=fun M w vs hM hlen hv=>by
 obtain ⟨v,fv,rfl⟩:=HE hlen
 have hS:=hv 0 v _ rfl rfl
 cases hS with
 | emp a c hc ha=>
   refine (AnyF.slices_SortFunc_none Tryz.sortCntL a c fv w).mono fun e w' ⟨h1,h2⟩=>?_;rw [h1,h2];exact ⟨_,_,fun _=>False,rfl,rfl,Ext.rfl' _, .shr (.val _) (fun _ h=>h),fun b hb=>hb.elim,fun h=>h.elim⟩
 | sl b off n c cs vs' hnc hc hcell hT=>
   refine (AnyF.slices_SortFunc_none Tryz.sortCntL _ c fv w).mono fun e w' ⟨h1,h2⟩=>?_;rw [h1,h2];exact ⟨_,_,fun _=>False,rfl,rfl,Ext.rfl' _, .shr (.val _) (fun _ h=>h),fun b hb=>hb.elim,fun h=>h.elim⟩
theorem Zhb {es:Array MapEntry} {seen:Array Nat} {e:MapEntry} {clock:Nat} (hW:WfM es clock) (he:e∈(leftOf es seen).toList):(leftOf es (seen.push e.born)).size<(leftOf es seen).size:=by
 have h:=(Tg hW he).length_eq
 rw [Xl,Ra,Ra] at h
 omega
theorem Zhc {es:Array MapEntry} {seen:Array Nat} {e:MapEntry} (he:e∈(leftOf es seen).toList):(e.key,e.val)∈kvOf es:=Xh.2 ⟨e,Km he,rfl⟩
theorem Zdx {α:Type} {f:α→List PV} {L:List α} {c:α} {ps:List PV} (h:ps=f c):L.flatMap f++ps=(L++[c]).flatMap f:=by
 rw [XT,h];simp
theorem T5 (m:List (BA×Int)) (hn:(m.map (·.1)).Nodup) (hl:m.length≤1000000):AF prog 140 [.smap (skv (Kn m))] (fun p=>∃L,SameC L m∧p= .own 108 2 L.length (L.flatMap HH)):=by
 refine AF.b1 22 func140 rfl ntmps140 (Xa rfl) fun w0 M0 v0 _=>?_
 refine YK ?_;refine LA ?_;refine Jr 7 underlying142 (fun b7 r7 c7 es7 hkv7 hWf7=>?_);refine ZF ?_
 refine Zq (Wr 200 108 2 rfl) fun _=>?_
 refine Yd (ι:={x:Value×Array Nat×List Cnt//x.1.oneCell'=true∧(x.2.2=[]→x.1= .slice none 0 0)∧(x.2.2++(kvOf (leftOf es7 x.2.1)).map Zq4).Perm (m.map mkC)}) (fun k=>⟨[(7,_,_),(3,k.1.1, .val k.1.1)],[(7,itv r7,itP b7 r7 c7 es7 k.1.2.1),(200,k.1.1, .own 108 2 k.1.2.2.length (k.1.2.2.flatMap HH))]⟩) (fun k=>(leftOf es7 k.1.2.1).size) ⟨(.slice none 0 0,#[],[]),rfl,fun _=>rfl,by rw [D',←hkv7,ZoN];exact .refl _⟩ ?_
 rintro ⟨⟨hov,seen,L⟩,ho,hnil,hp⟩
 dsimp only
 dsimp only at ho hnil hp
 have hLl:L.length≤1000000:=by
  have:=hp.length_eq;rw [Xf,Xb (f:=mkC)] at this;omega
 have hLm:(L.flatMap HH).length=L.length*2:=Yr Jo L
 refine Zh ?_
 (refine Gn 7 8 hWf7 (fun hlf7=>?_) (fun e7 hle7=>?_)<;>refine ZB ?_)<;>(
 refine cX ?_ ?_<;>intro hb9
 · first|exact bN hb9|(
 refine Zh ?_;refine xM (Gp 7 hWf7 (Km hle7)) ?_;refine OK ?_;refine ZF ?_;obtain ⟨s,n,hmem,hks,hvs⟩:=ZoO (hkv7▸Zhc hle7);dsimp only at hks hvs;rw [hks,hvs];refine Zi ?_;refine xL 13 Za (xL 14 Za (xL 15 Za (xL 16 (ZX ZfF) ?_)));refine JW 17 ZaY fun h17 ho17=>?_;refine WN 200 17 18 ZaY fun h18 ho18=>?_;refine ZB ?_;refine Yq (Zz (l:=18) 200 rfl rfl) fun _=>?_;rw [Zdx (f:=HH) (L:=L) (c:=(⟨s,n⟩:Cnt)) (by rfl),show L.length+1=(L++[(⟨s,n⟩:Cnt)]).length by simp];refine Zm (
  ⟨(h18,seen.push e7.born,L++[⟨s,n⟩]),ho18,fun h=>Qc h sM,by
    refine .trans ?_ hp;have h1:=(Tg hWf7 hle7).map Zq4;rw [Xj,hks,hvs] at h1;show (L++[_]++_).Perm _;rw [XA];exact h1.symm.append_left L⟩
  ) (Zhb hWf7 hle7) sB sB)
 · first |exact bN hb9|(
 refine nav ?_;have hp0:L.Perm (m.map mkC):=by
  rw [hlf7] at hp;have h1:kvOf (#[]:Array MapEntry)=[]:=rfl;rw [h1,Vl,Xu] at hp;exact hp
 (refine GH ?_<;>(by_cases hL:L=[]<;>first|(subst hL;obtain rfl:=hnil rfl;refine Zp (En.freeze (l:=200) (t:=19) rfl rfl) fun _=>?_;refine cV (cA call173 (ZfH [])) ?_)|(refine E2 (l:=200) (β:=Cnt) (f:=HH) (cmp:=fun a b=>Z0 a.name b.name) (rows:=L) Zjj (fun _=>rfl) dC (fun _=>rfl) (fun a=>ZfE _) (fun a b c=>Zjh) (fun a b c=>Zji) (fun x y M W u v _ _ hu hv=>(Zl4 x y).exact2 hu hv) (Vd.2 hL) oM rfl rfl (Xa rfl) rfl (call173) rfl rfl rfl (fun rows' hperm hord=>?_)))<;>refine ZF ?_)<;>(
 refine KJ ?_
 first
  |exact K3 200 results140 rfl rfl ⟨rows',Zdv hn hp0 hperm hord,by rw [hperm.length_eq]⟩
  | (refine Z5 (Wr 201 108 2 rfl) fun _=>?_
     exact K3 201 results140 rfl rfl ⟨[],Zdv hn hp0 (.refl _) (fun i j a b _ h=>by simp at h),rfl⟩))))
structure M4 where
 a:List (BA×Int)
 s:List (BA×Int)
 f:List (BA×Int)
 q:List (Pr×Int)
def Jg:List BA→List Pr
 |a::b::l=>(a,b)::Jg (b::l)
 |_=>[]
section
variable {κ:Type} [DecidableEq κ]
def addAll (m:List (κ×Int)) (ks:List κ) (c:Int):List (κ×Int):=ks.foldl (fun m k=>Zje m k c) m
theorem EH (m:List (κ×Int)) (ks:List κ) (k:κ) (c:Int):addAll m (ks++[k]) c=Zje (addAll m ks c) k c:=by
 unfold addAll;rw [Vp];rfl
structure MOk (m:List (κ×Int)) (b:Nat):Prop where
 nd:(m.map (·.1)).Nodup
 len:m.length≤b
 bd:∀x∈m,0≤x.2∧x.2≤b*1048576
theorem MOk.nil:MOk ([]:List (κ×Int)) 0:=⟨X6,Xe _,fun x h=>by simp at h⟩
theorem MOk.mono {m:List (κ×Int)} {b b':Nat} (h:MOk m b) (hb:b≤b'):MOk m b':=⟨h.nd,XJ h.len hb,fun x hx=>by
 have:=h.bd x hx
 have h2:(b:Int)*1048576≤b'*1048576:=oM
 omega⟩
theorem MOk.get {m:List (κ×Int)} {b:Nat} (h:MOk m b) (k:κ):0≤iget m k∧iget m k≤b*1048576:=by
 have key:∀(m:List (κ×Int)),(∀x∈m,0≤x.2∧x.2≤(b:Int)*1048576)→0≤iget m k∧iget m k≤b*1048576:=fun m=>by
  induction m with
  |nil=>intro _;rw [iget];omega
  | cons x m ih=>
    intro h;rw [iget];split
    · exact h x sM
    · exact ih fun y hy=>h y (by simp [hy])
 exact key m h.bd
theorem Zdy {m:List (κ×Int)} {k:κ} {v:Int} {x:κ×Int} (h:x∈Sr m k v):x=(k,v)∨x∈m:=by
 induction m with
 |nil=>rw [Sr,Xn] at h;exact .inl h
 | cons y m ih=>
   rw [Sr] at h;split at h
   · rcases Xk.1 h with h|h
     · exact .inl h
     · exact .inr (by simp [h])
   · rcases Xk.1 h with h|h
     · exact .inr (by simp [h])
     · rcases ih h with h|h
       · exact .inl h
       · exact .inr (by simp [h])
theorem MOk.add {m:List (κ×Int)} {b:Nat} (h:MOk m b) {k:κ} {n:Int} (h0:0≤n) (h1:n≤1048576):MOk (Zje m k n) (b+1):=by
 refine ⟨ZfD h.nd,XJ (Zl3 _ _ _) (Nat.succ_le_succ h.len),fun x hx=>?_⟩
 rcases Zdy hx with rfl|hx
 · have:=h.get k;dsimp only;omega
 · have:=h.bd x hx;omega
theorem MOk.addAll {n:Int} (h0:0≤n) (h1:n≤1048576):∀{ks:List κ} {b:Nat} {m:List (κ×Int)},MOk m b→MOk (addAll m ks n) (b+ks.length)
 |[],b,m,h=>h
 | k::ks,b,m,h=>by
   have:=MOk.addAll h0 h1 (ks:=ks) (h.add (k:=k) h0 h1);rw [Xl,show b+(ks.length+1)=b+1+ks.length by omega];exact this
theorem Zjk {m:List (κ×Int)} {k:κ} {n:Int} {p:κ→Prop} (h:∀x∈m,p x.1) (hk:p k):∀x∈Zje m k n,p x.1:=fun x hx=>by
 rcases Zdy hx with rfl|hx
 · exact hk
 · exact h x hx
theorem PQ {c:Int} {p:κ→Prop}:∀{ks:List κ} {m:List (κ×Int)},(∀x∈m,p x.1)→(∀k∈ks,p k)→∀x∈addAll m ks c,p x.1
 |[],m,h,_=>h
 |k::ks,m,h,hk=>PQ (ks:=ks) (Zjk h (hk k sM)) fun y hy=>hk y (by simp [hy])
end
def mk1 (st:M4) (x:Var):M4:=⟨addAll st.a x.acts x.count,(match x.acts with|[]=>st.s|s::_=>Zje st.s s x.count),(match x.acts.getLast? with|some s=>Zje st.f s x.count|none=>st.f),addAll st.q (Jg x.acts) x.count⟩
def makeM (l:List Var):M4:=l.foldl mk1 ⟨[],[],[],[]⟩
theorem ζh {l:List Var} {k:Nat} {x:Var} (h:l[k]? =some x):makeM (l.take (k+1))=mk1 (makeM (l.take k)) x:=by
 unfold makeM;rw [Zw h,Vp];rfl
theorem HZ:∀l:List BA,(Jg l).length≤l.length
 |[]=>Xe _
 |[a]=>Xg _
 |a::b::l=>by rw [Jg,Xl,Xl];have:=HZ (b::l);omega
theorem H3:∀{l:List BA} {p:Pr},p∈Jg l→p.1∈l∧p.2∈l
 |[],p,h=>by simp [Jg] at h
 |[a],p,h=>by simp [Jg] at h
 | a ::b::l,p,h=>by
   rw [Jg] at h;rcases Xk.1 h with rfl|h
   · exact ⟨sM,sM⟩
   · have:=H3 h;exact ⟨Xw _ this.1,Xw _ this.2⟩
theorem ζi:∀(l:List BA) (a b:BA),Jg (l++[a]++[b])=Jg (l++[a])++[(a,b)]
 |[],a,b=>rfl
 |[x],a,b=>rfl
 | x::y::l,a,b=>by
   show (x,y)::Jg (y::l++[a]++[b])=(x,y)::Jg (y::l++[a])++[(a,b)];rw [ζi (y::l) a b];rfl
theorem ZfI {w:List BA} {j:Nat} {a b:BA} (ha:w[j]? =some a) (hb:w[j+1]? =some b):Jg (w.take (j+1+1))=Jg (w.take (j+1))++[(a,b)]:=by
 rw [Zw hb,Zw ha];exact ζi _ _ _
theorem Zjl {w:List BA} {b:BA} (hb:w[0]? =some b):Jg (w.take (0+1))=[]:=by
 rw [Zw hb];rfl
theorem T6 {s:BA} (h:isName s=true):s.size≤40:=by
 unfold isName at h
 simp only [Xi,U8,Xm] at h
 exact h.1.1.2
structure KOk (st:M4) (b:Nat):Prop where
 a:MOk st.a b
 s:MOk st.s b
 f:MOk st.f b
 q:MOk st.q b
 k:∀x∈st.q,prOk x.1
theorem KOk.step {st:M4} {b:Nat} {x:Var} (h:KOk st b) (hx:K4 x=true):KOk (mk1 st x) (b+200):=by
 unfold K4 at hx
 simp only [Xi,U8,Xm] at hx
 obtain ⟨⟨⟨h1,h2⟩,h3⟩,h4⟩:=hx
 have hp:=HZ x.acts
 refine ⟨(h.a.addAll oM h4).mono oM,?_,?_,(h.q.addAll oM h4).mono oM,PQ h.k fun k hk=>?_⟩
 · unfold mk1;dsimp only;split
   · exact h.s.mono oM
   · exact (h.s.add oM h4).mono oM
 · unfold mk1;dsimp only;split
   · exact (h.f.add oM h4).mono oM
   · exact h.f.mono oM
 · have:=H3 hk;have n1:=T6 (h2 _ this.1);have n2:=T6 (h2 _ this.2);exact ⟨oM,oM⟩
theorem KOk.all {l:List Var} (hl:∀x∈l,K4 x=true):∀k,k≤l.length→KOk (makeM (l.take k)) (k*200)
 |0,_=>⟨MOk.nil,MOk.nil,MOk.nil,MOk.nil,fun x h=>by simp [makeM] at h⟩
 | k+1,hk=>by
   obtain ⟨x,hx⟩:=get_some (show k<l.length by omega);rw [ζh hx,X1];exact (KOk.all hl k oM).step (hl x (Xc hx))
end Go.Proofs.YteiincihiagidaaGreat
namespace Go.En
open Go.RowKit Go.Cb
theorem Zl5 {sL hP:List (Nat×Ent)} {t:Nat} {vs:List Value} {q:PV} (ht:lk sL t=some (.agg vs.toArray,q)):J1 (⟨sL,hP⟩:St) (fun _:Unit=>⟨put t (.agg vs.toArray, .agg (vs.map .val)) sL,hP⟩):=fun c a w ⟨F,H⟩=>by
 refine ⟨(),F,H.toHeapF,fun s u r hs=>?_,H.size,H.df⟩
 rcases ZZ hs with ⟨rfl,e⟩|⟨_,e⟩
 · cases e;refine ⟨(H.sl _ _ _ ht).1, .agg _ _ (by rw [Xb]) fun i v p hv hp=>?_⟩;rw [Xo,hv] at hp
   cases hp;exact .val _
 · exact H.sl s u r e
end Go.En
namespace Go.Proofs.YteiincihiagidaaGreat
open Go.RowKit Go.Cb Go.En Tryz
theorem Db:ArrT prog 146 2=true:=kR
theorem ZaZ:ElT prog 98 189 3 40 (.agg #[(.string ByteArray.empty),(.string ByteArray.empty),(.int .i64 0)]):=⟨underlying98,by kernel_rfl,rfl,dC⟩
theorem R1:FldT prog 145 0 0=true:=kR
theorem Ha:FldT prog 145 1 1=true:=kR
theorem Hb:FldT prog 145 2 2=true:=kR
theorem Hc:FldT prog 145 3 3=true:=kR
theorem G3:NoAgg prog 142=true:=kR
theorem ζj:NoAgg prog 143=true:=kR
theorem Ti:J2 prog 100=some ((.agg #[(.slice none 0 0),(.slice none 0 0),(.slice none 0 0),(.slice none 0 0)]),([0,1,2,3]:List Nat).map fun o=>(o,1)):=kR
theorem ZfJ:J2 prog 145=some ((.agg #[(.map none),(.map none),(.map none),(.map none)]),([0,1,2,3]:List Nat).map fun o=>(o,1)):=kR
theorem ZfK:J2 prog 189=some ((.agg #[(.string ByteArray.empty),(.string ByteArray.empty),(.int .i64 0)]),([0,1,2]:List Nat).map fun o=>(o,1)):=kR
theorem Zjm:(prog.info? 98).map (·.size)=some 1:=kR
theorem G4:ZeroT prog 100 (.agg #[(.slice none 0 0),(.slice none 0 0),(.slice none 0 0),(.slice none 0 0)]):=by unfold ZeroT;kernel_rfl
theorem ζk:ZeroT prog 146 (.agg #[(.string ByteArray.empty),(.string ByteArray.empty)]):=by unfold ZeroT;kernel_rfl
theorem ζ8:AF prog 109 [] (· = .obox 145 4 [.omap [], .omap [], .omap [], .omap []]):=by
 refine AF.of_body 7 func109 rfl ntmps109 (Xa rfl) ?_
 intro w0 M0 vs hl hv
 obtain rfl:=XB hl
 clear hl hv
 refine YK ?_
 refine JX 1 fun h1 ho1=>?_;refine JX 2 fun h2 ho2=>?_;refine JX 3 fun h3 ho3=>?_;refine JX 4 fun h4 ho4=>?_;refine xM (ZX ZfJ) ?_;refine ZV 6 4 fun h6=>?_;refine ZB ?_
 refine Z5 (fold (l:=6) (l':=1) (j:=0) rfl rfl rfl rfl) fun _=>?_
 refine Z5 (fold (l:=6) (l':=2) (j:=1) rfl rfl rfl rfl) fun _=>?_
 refine Z5 (fold (l:=6) (l':=3) (j:=2) rfl rfl rfl rfl) fun _=>?_
 refine Z5 (fold (l:=6) (l':=4) (j:=3) rfl rfl rfl rfl) fun _=>?_
 exact Zl2 6 results109 rfl rfl rfl
theorem Zhd:AggT prog 189 3=true:=kR
theorem Zq6:AggT prog 146 2=true:=kR
theorem Zjn:Zc5 prog 141 142 3:=fun enc hk h1 cf hO blk cap d w hcmp hH hblk hsz=>
 AnyQ.slices_SortFunc Tryz.sortFlwL 3 (fun w=>AggT.run Zhd w) (fun w=>AggT.size Zhd w) enc hk h1 cf hO 142 #[] blk 0 cap d w (call142) hcmp hH hblk hsz
theorem ZfL (caps:List PV):AF prog 141 [.sl 0 [], .fn 142 caps] (· = .val (.tuple #[])):=fun M w vs hM hlen hv=>by
 obtain ⟨v,fv,rfl⟩:=HE hlen
 have hS:=hv 0 v _ rfl rfl
 cases hS with
 | emp a c hc ha=>
   refine (AnyF.slices_SortFunc_none Tryz.sortFlwL a c fv w).mono fun e w' ⟨h1,h2⟩=>?_;rw [h1,h2];exact ⟨_,_,fun _=>False,rfl,rfl,Ext.rfl' _, .shr (.val _) (fun _ h=>h),fun b hb=>hb.elim,fun h=>h.elim⟩
 | sl b off n c cs vs' hnc hc hcell hT=>
   refine (AnyF.slices_SortFunc_none Tryz.sortFlwL _ c fv w).mono fun e w' ⟨h1,h2⟩=>?_;rw [h1,h2];exact ⟨_,_,fun _=>False,rfl,rfl,Ext.rfl' _, .shr (.val _) (fun _ h=>h),fun b hb=>hb.elim,fun h=>h.elim⟩
theorem Ja (e n:Nat) (l:List Cnt) (hn:n=l.length):share (.own e 2 n (l.flatMap HH))=LX l:=by
 subst hn
 rw [share,Z7,Uw];rfl
theorem ζl (e n:Nat) (l:List Flw) (hn:n=l.length):share (.own e 3 n (l.flatMap HI))=ZgJ l:=by
 subst hn
 rw [share,Z7,Uw];rfl
def Za0 (g:Dfg) (st:M4):Prop:=SameC g.acts st.a∧SameC g.starts st.s∧SameC g.ends st.f∧SameF g.follows st.q
theorem Zl6 (st:M4) (b:Nat) (hb:b≤1000000) (hk:KOk st b):AF prog 110 [.sptr 0 [.smap (skv (Kn st.a)), .smap (skv (Kn st.s)), .smap (skv (Kn st.f)), .smap (akv (Kn st.q))]] (fun p=>∃g,Za0 g st∧p=GJ g):=by
 have l1:=hk.a.len
 have l2:=hk.s.len
 have l3:=hk.f.len
 have l4:=hk.q.len
 refine AF.b1 47 func110 rfl ntmps110 (Xa rfl) fun w0 M0 v0 _=>?_
 refine Zh ?_
 refine Zx [(.slice none 0 0),(.slice none 0 0),(.slice none 0 0),(.slice none 0 0)] 4 2 G4 fun h2=>?_;refine ZF ?_
 (refine We [17] [] ?_<;>refine gDx 0 ?_<;>refine xD 1 rfl WS ?_<;>refine xD 2 rfl (YP R1) ?_<;>(refine yD 3 rfl (ZG G3) fun v9 h=>?_;cases h)<;>refine gDx 5 ?_<;>refine xD 6 rfl WS ?_<;>refine xD 7 rfl (YP Ha) ?_<;>(refine yD 8 rfl (ZG G3) fun v14 h=>?_;cases h)<;>refine gDx 10 ?_<;>refine xD 11 rfl WS ?_<;>refine xD 12 rfl (YP Hb) ?_<;>(refine yD 13 rfl (ZG G3) fun v19 h=>?_;cases h)<;>(refine Wm 4 16 kR ?_ ?_;rotate_right;(focus ((refine aWr fun bk=>?_)<;>refine Zx [(.slice none 0 0),(.slice none 0 0),(.slice none 0 0),(.slice none 0 0)] 4 3 G4 fun h3=>?_<;>refine bE bk ?_<;>(refine aDr 4 fun bk=>?_)<;>(refine Sj 10 rfl rfl (Xa rfl) rfl (cA call140 (T5 st.a hk.a.nd oM)) ?_;rintro p' ⟨La,hLa,rfl⟩;refine ⟨rfl,fun h10 ho10=>?_⟩;refine Zp (En.freeze (l:=10) (t:=10) rfl rfl) fun _=>?_;rw [Ja _ _ _ rfl])<;>refine bE bk ?_<;>(refine aDr 9 fun bk=>?_)<;>(refine Sj 15 rfl rfl (Xa rfl) rfl (cA call140 (T5 st.s hk.s.nd oM)) ?_;rintro p' ⟨Ls,hLs,rfl⟩;refine ⟨rfl,fun h15 ho15=>?_⟩;refine Zp (En.freeze (l:=15) (t:=15) rfl rfl) fun _=>?_;rw [Ja _ _ _ rfl])<;>refine bE bk ?_<;>(refine aDr 14 fun bk=>?_)<;>(refine Sj 20 rfl rfl (Xa rfl) rfl (cA call140 (T5 st.f hk.f.nd oM)) ?_;rintro p' ⟨Lf,hLf,rfl⟩;refine ⟨rfl,fun h20 ho20=>?_⟩;refine Zp (En.freeze (l:=20) (t:=20) rfl rfl) fun _=>?_;rw [Ja _ _ _ rfl])<;>refine bE bk ?_<;>refine xE 15 rfl (ZX Ti) ?_));rotate_right;(focus ((refine aWr fun bk=>?_)<;>(refine Sj 10 rfl rfl (Xa rfl) rfl (cA call140 (T5 st.a hk.a.nd oM)) ?_;rintro p' ⟨La,hLa,rfl⟩;refine ⟨rfl,fun h10 ho10=>?_⟩;refine Zp (En.freeze (l:=10) (t:=10) rfl rfl) fun _=>?_;rw [Ja _ _ _ rfl])<;>refine bE bk ?_<;>(refine Wm 9 16 kR ?_ ?_;rotate_right;(focus ((refine aWr fun bk=>?_)<;>refine Zx [(.slice none 0 0),(.slice none 0 0),(.slice none 0 0),(.slice none 0 0)] 4 3 G4 fun h3=>?_<;>refine bE bk ?_<;>(refine aDr 9 fun bk=>?_)<;>(refine Sj 15 rfl rfl (Xa rfl) rfl (cA call140 (T5 st.s hk.s.nd oM)) ?_;rintro p' ⟨Ls,hLs,rfl⟩;refine ⟨rfl,fun h15 ho15=>?_⟩;refine Zp (En.freeze (l:=15) (t:=15) rfl rfl) fun _=>?_;rw [Ja _ _ _ rfl])<;>refine bE bk ?_<;>(refine aDr 14 fun bk=>?_)<;>(refine Sj 20 rfl rfl (Xa rfl) rfl (cA call140 (T5 st.f hk.f.nd oM)) ?_;rintro p' ⟨Lf,hLf,rfl⟩;refine ⟨rfl,fun h20 ho20=>?_⟩;refine Zp (En.freeze (l:=20) (t:=20) rfl rfl) fun _=>?_;rw [Ja _ _ _ rfl])<;>refine bE bk ?_<;>refine xE 15 rfl (ZX Ti) ?_));rotate_right;(focus ((refine aWr fun bk=>?_)<;>(refine Sj 15 rfl rfl (Xa rfl) rfl (cA call140 (T5 st.s hk.s.nd oM)) ?_;rintro p' ⟨Ls,hLs,rfl⟩;refine ⟨rfl,fun h15 ho15=>?_⟩;refine Zp (En.freeze (l:=15) (t:=15) rfl rfl) fun _=>?_;rw [Ja _ _ _ rfl])<;>refine bE bk ?_<;>(refine Wm 14 16 kR ?_ ?_;rotate_right;(focus ((refine aWr fun bk=>?_)<;>refine Zx [(.slice none 0 0),(.slice none 0 0),(.slice none 0 0),(.slice none 0 0)] 4 3 G4 fun h3=>?_<;>refine bE bk ?_<;>(refine aDr 14 fun bk=>?_)<;>(refine Sj 20 rfl rfl (Xa rfl) rfl (cA call140 (T5 st.f hk.f.nd oM)) ?_;rintro p' ⟨Lf,hLf,rfl⟩;refine ⟨rfl,fun h20 ho20=>?_⟩;refine Zp (En.freeze (l:=20) (t:=20) rfl rfl) fun _=>?_;rw [Ja _ _ _ rfl])<;>refine bE bk ?_<;>refine xE 15 rfl (ZX Ti) ?_));rotate_right;(focus ((refine aWr fun bk=>?_)<;>(refine Sj 20 rfl rfl (Xa rfl) rfl (cA call140 (T5 st.f hk.f.nd oM)) ?_;rintro p' ⟨Lf,hLf,rfl⟩;refine ⟨rfl,fun h20 ho20=>?_⟩;refine Zp (En.freeze (l:=20) (t:=20) rfl rfl) fun _=>?_;rw [Ja _ _ _ rfl])<;>refine bE bk ?_<;>refine xD 15 rfl (ZX Ti) ?_<;>(refine aDr 16 fun bk=>?_)<;>refine Zx [(.slice none 0 0),(.slice none 0 0),(.slice none 0 0),(.slice none 0 0)] 4 3 G4 fun h3=>?_<;>refine bE bk ?_)))))))))<;>(refine Z6 17 kR ?_)<;>(refine Kj rfl rfl kR fun DQ bk=>?_)<;>refine Zu 3 YQ ?_<;>refine Ww (bk _ (nav ?_))<;>try dsimp only)<;>(
 refine Zi ?_;refine xL 22 Za (xL 23 WS (xL 24 (YP Hc) ?_));refine yU (ZG ζj) fun v25=>?_;refine Jr 26 underlying143 (fun b26 r26 c26 es26 hkv26 hWf26=>?_);refine ZF ?_;refine Zq (Wr 200 189 3 rfl) fun _=>?_;refine Yd (ι:={x:Value×Array Nat×List Flw//x.1.oneCell'=true∧(x.2.2=[]→x.1= .slice none 0 0)∧(x.2.2++(kvOf (leftOf es26 x.2.1)).map Zq5).Perm (st.q.map mkF)}) (fun k=>⟨[(2,_,_),(3,_,_),(26,_,_)],[(2,_,_),(3,h3, .own 100 4 1 [LX La,LX Ls,LX Lf, .val k.1.1]),(26,itv r26,itP b26 r26 c26 es26 k.1.2.1),(200,k.1.1, .own 189 3 k.1.2.2.length (k.1.2.2.flatMap HI))]⟩) (fun k=>(leftOf es26 k.1.2.1).size) ⟨(.slice none 0 0,#[],[]),rfl,fun _=>rfl,by rw [D',←hkv26,ZoP];exact .refl _⟩ ?_;rintro ⟨⟨hov,seen,L⟩,ho,hnil,hp⟩;dsimp only;dsimp only at ho hnil hp;have hLl:L.length≤1000000:=by
  have:=hp.length_eq;rw [Xf,Xb (f:=mkF)] at this;omega
 have hLm:(L.flatMap HI).length=L.length*3:=Yr Sm L;refine Zh ?_;(refine Gn 26 27 hWf26 (fun hlf26=>?_) (fun e26 hle26=>?_)<;>refine ZB ?_)<;>(
 refine cX ?_ ?_<;>intro hb28
 · first|exact bN hb28|(
 refine nav ?_;obtain ⟨kk,n,hmem,hks,hvs⟩:=ZoQ (hkv26▸Zhc hle26);dsimp only at hks hvs;refine Zi ?_;refine xM (Gp 26 hWf26 (Km hle26)) ?_;refine YW ?_;refine Zx [(.string ByteArray.empty),(.string ByteArray.empty)] 2 4 ζk fun h4=>?_;rw [hks];refine Zp (Zl5 (t:=30) (vs:=[.string kk.1, .string kk.2]) rfl) fun _=>?_;refine Zu 4 Zq6 ?_;refine ZB ?_;rw [hvs];refine Zi ?_;refine xM (Zb 3 Gh) ?_;refine yV (Ze 3 T') ?_;refine xM (ZlX 4 Db) ?_;refine yV (Ze 4 ZK) ?_;refine xM (ZlX 4 Db) ?_;refine yV (Ze 4 ZK) ?_;refine xL 38 Za (xL 39 (ZX ZfK) ?_);refine JW 40 ZaZ fun h40 ho40=>?_;refine WN 200 40 41 ZaZ fun h41 ho41=>?_;refine xM (Zb 3 Gh) ?_;refine GC 3 T' Zjm ?_;refine ZF ?_;refine Yq (Zz (l:=41) 200 rfl rfl) fun _=>?_;rw [Zdx (f:=HI) (L:=L) (c:=(⟨kk.1,kk.2,n⟩:Flw)) (by rfl),show L.length+1=(L++[(⟨kk.1,kk.2,n⟩:Flw)]).length by simp];refine Zm (
  ⟨(h41,seen.push e26.born,L++[⟨kk.1,kk.2,n⟩]),ho41,fun h=>Qc h sM,by
    refine .trans ?_ hp;have h1:=(Tg hWf26 hle26).map Zq5;rw [Xj,hks,hvs] at h1;show (L++[_]++_).Perm _;rw [XA];exact h1.symm.append_left L⟩
  ) (Zhb hWf26 hle26) sB sB)
 · first|exact bN hb28|(
 refine nav ?_;have hp0:L.Perm (st.q.map mkF):=by
  rw [hlf26] at hp;have h1:kvOf (#[]:Array MapEntry)=[]:=rfl;rw [h1,Vl,Xu] at hp;exact hp
 (refine Zi ?_<;>refine xM (Zb 3 Gh) ?_<;>refine yV (Ze 3 T') ?_<;>(by_cases hL:L=[]<;>first|(subst hL;obtain rfl:=hnil rfl;refine Zp (En.freeze (l:=200) (t:=44) rfl rfl) fun _=>?_;refine cV (cA call141 (ZfL [])) ?_;refine Zp (Wr 201 189 3 rfl) fun _=>?_;refine Zp (YU (l:=3) (l':=201) (j:=3) rfl rfl rfl rfl) fun _=>?_;rw [show share (.own 189 3 0 [])=ZgJ [] from ζl _ 0 [] rfl];have hF:SameF [] st.q:=Zdw hk.q.nd hp0 (.refl _) (fun i j a b _ h=>by simp at h))|(refine E2 (l:=200) (β:=Flw) (f:=HI) (cmp:=KN) (rows:=L) Zjn (fun _=>rfl) dC (fun _=>rfl) (fun a=>Tt a) (fun a b c=>LL) (fun a b c=>Zjg) (fun x y M W u v _ _ hu hv=>(ZfG x y).exact2 hu hv) (Vd.2 hL) oM rfl rfl (Xa rfl) rfl (call141) rfl rfl rfl (fun rows' hperm hord=>?_);refine Zp (YU (l:=3) (l':=200) (j:=3) rfl rfl rfl rfl) fun _=>?_;rw [ζl _ _ _ hperm.length_eq.symm];have hF:SameF rows' st.q:=Zdw hk.q.nd hp0 hperm hord))<;>refine ZF ?_)<;>(
 refine Zi ?_;refine yU (Zj 3 YQ) fun v46=>?_;refine Zu 2 YQ ?_;refine ZF ?_;exact Z4 (k:=4) 2 results110 ⟨⟨La,Ls,Lf,_⟩,⟨hLa,hLs,hLf,hF⟩,rfl⟩))))
end Go.Proofs.YteiincihiagidaaGreat
namespace Go.En
open Go.RowKit Go.Cb
def ZfM (c:Ctx) (R:Value→PV→List (Nat×Ent)→Prop) (e:Ending) (w':World):Prop:=∃v p h F,e= .returned v∧R v p h∧HeapF c h F w'∧Shr (mof c h F) w' v p
def AFh (dd:Prop) (P:Program) (f:FuncId) (ar h:List (Nat×Ent)) (R:Value→PV→List (Nat×Ent)→Prop):Prop:=
 ∀(M N:BS) (w:World) (F:Nat→BS),HeapF ⟨w,M,N,0,dd,[]⟩ h F w→(∀i x,lk ar i=some x→Shr (mof ⟨w,M,N,0,dd,[]⟩ h F) w x.1 x.2)→Calls P f (ar.map (·.2.1)).toArray w (ZfM ⟨w,M,N,0,dd,[]⟩ R)
theorem HeapF.nt {c c':Ctx} {h:List (Nat×Ent)} {F:Nat→BS} {w:World} (H:HeapF c h F w) (h0:c'.w0=c.w0) (h1:c'.M0=c.M0) (h2:c'.N0=c.N0) (h3:c'.dr→c.dr) (hm:M0k c'.w0 c'.M0 c'.N0 c'.dr):HeapF c' h F w:=by
 obtain ⟨w0,M0,N0,nt,dr,df⟩:=c
 obtain ⟨w0',M0',N0',nt',dr'⟩:=c'
 simp only at h0 h1 h2 h3
 subst h0 h1 h2
 exact ⟨H.tr,H.lo,H.dj,hm,H.ext,fun h=>H.dw (h3 h)⟩
def T7:Nat→List (Nat×Ent)→Bool
 |_,[]=>true
 |i,(j,_)::l=>Nat.beq i j&&T7 (i+1) l
theorem ζm:∀(l:List (Nat×Ent)) (i t:Nat) (x:Ent),T7 i l=true→lk l t=some x→i≤t∧(l.map (·.2.1))[t-i]? =some x.1
 |[],_,_,_,_,h=>by simp [lk] at h
 | (j,y)::l,i,t,x,ho,h=>by
   simp only [T7,Xi] at ho;obtain ⟨h1,h2⟩:=ho;have h1:=XK h1;subst h1;simp only [lk] at h
   cases hb:Nat.beq i t
   · rw [hb] at h;obtain ⟨h3,h4⟩:=ζm l (i+1) t x h2 h;have:t-i=(t-(i+1))+1:=oM;exact ⟨oM,by rw [this];simpa using h4⟩
   · rw [hb] at h;have:i=t:=XK hb;subst this
     cases h;simp
theorem EI:∀(l:List (Nat×Ent)) (i t:Nat) (x:Ent),T7 i l=true→lk l t=some x→i≤t∧(l[t-i]?).map (·.2)=some x
 |[],_,_,_,_,h=>by simp [lk] at h
 | (j,y)::l,i,t,x,ho,h=>by
   simp only [T7,Xi] at ho;obtain ⟨h1,h2⟩:=ho;have h1:=XK h1;subst h1;simp only [lk] at h
   cases hb:Nat.beq i t
   · rw [hb] at h;obtain ⟨h3,h4⟩:=EI l (i+1) t x h2 h;have:t-i=(t-(i+1))+1:=oM;exact ⟨oM,by rw [this];simpa using h4⟩
   · rw [hb] at h;have:i=t:=XK hb;subst this
     cases h;simp
section
variable {P:Program}
theorem AFh.of_body {dd:Prop} {f:FuncId} {fn:Func} {code:Code} {ar h:List (Nat×Ent)} {R:Value→PV→List (Nat×Ent)→Prop} (nt:Nat) (hf:P.funcs[f]? =some fn) (hb:fn.body=some code) (hnt:fn.ntmps=nt) (hn:ar.length≤nt) (ho:T7 0 ar=true)
 (H:∀(w0:World) (M0 N0:BS),aC P ⟨w0,M0,N0,nt,dd,[]⟩ code (bodyPost P fn (ZfM ⟨w0,M0,N0,nt,dd,[]⟩ R)) ⟨ar,h⟩):AFh dd P f ar h R:=fun M N w F HF hv=>by
 subst hnt
 refine calls_of_wp hf hb ?_
 refine wp_mono (H w M N _ w ⟨F,⟨HF.nt rfl rfl rfl id HF.m0,fun t v p ht=>?_,?_,rfl⟩⟩) fun e a w' hq=>?_
 · obtain ⟨_,h1⟩:=ζm ar 0 t (v,p) ho ht;refine ⟨?_,hv t (v,p) ht⟩;simp only [Vx] at h1;have:=Zd h1;rw [Vr (by simpa using this)];simpa using h1
 · simp;omega
 · have key:∀e w',ZfM ⟨w,M,N,fn.ntmps,dd,[]⟩ R e w'→ZfM ⟨w,M,N,0,dd,[]⟩ R e w':=fun _ _ ⟨v',p,h',F',h3,h4,h5,h6⟩=>⟨v',p,h',F',h3,h4,h5.nt rfl rfl rfl id h5.m0,h6⟩
   cases e with
   |ret=>obtain ⟨h1,v,h2,h3⟩:=hq;exact ⟨h1,v,h2,key _ _ h3⟩
   |normal=>obtain ⟨h1,v,h2,h3⟩:=hq;exact ⟨h1,v,h2,key _ _ h3⟩
   |panic ch=>obtain ⟨h1,h3⟩:=hq;exact ⟨h1,key _ _ h3⟩
   |outgrown=>exact key _ _ hq
   |_=>exact hq.elim
end
section
variable {P:Program} {c:Ctx} {ops:Array Oper} {Q:Exit→Act→World→Prop} {rest:List Oper} {sL hP:List (Nat×Ent)} {o:Oper}
theorem Pd {fn:Func} {R:Value→PV→List (Nat×Ent)→Prop} {t:Nat} {v:Value} {p:PV} (h:List (Nat×Ent)) (hr:fn.results= #[.tmp t]) (ht:lk sL t=some (v,p)) (hs:Sub h hP) (hR:R v p h) (hdf:c.df=[]:=by exact rfl):aR c (bodyPost P fn (ZfM c R)) (⟨sL,hP⟩:St):=fun a w ⟨F,H0⟩=>by
 have H:HoldsF c (⟨sL,h⟩:St) F a w:=H0.less (fun _ _ h=>h) fun t x hx=>hs.lk hx
 obtain ⟨h1,h2⟩:=H.sl t v p ht
 refine ⟨H.df.trans hdf,v,?_,v,p,h,F,rfl,hR,H.toHeapF,h2⟩
 simp [results,hr,VI,h1]
theorem ZfN {fn:Func} {R:Value→PV→List (Nat×Ent)→Prop} (h:List (Nat×Ent)) (hr:fn.results= #[]) (hs:Sub h hP) (hR:R (.tuple #[]) (.val (.tuple #[])) h) (hdf:c.df=[]:=by exact rfl):aR c (bodyPost P fn (ZfM c R)) (⟨sL,hP⟩:St):=fun a w ⟨F,H0⟩=>by
 have H:HoldsF c (⟨sL,h⟩:St) F a w:=H0.less (fun _ _ h=>h) fun t x hx=>hs.lk hx
 refine ⟨H.df.trans hdf, .tuple #[],?_, .tuple #[], .val (.tuple #[]),h,F,rfl,hR,H.toHeapF, .val _⟩
 simp [results,hr]
theorem TR {fn:Func} {R:Value→PV→List (Nat×Ent)→Prop} (h:List (Nat×Ent)) (hr:fn.results= #[]) (hs:Sub h hP) (hR:R (.tuple #[]) (.val (.tuple #[])) h) (hdf:c.df=[]:=by exact rfl):aN c (bodyPost P fn (ZfM c R)) (⟨sL,hP⟩:St):=ZfN h hr hs hR hdf
theorem Zl7 {dd:Prop} {f:Nat} {ar:List (Nat×Ent)} {R:Value→PV→List (Nat×Ent)→Prop} (K:List Nat) (d:Nat) (hw:ZP ops sL o=some true) (hd:o.dst=some d) (hn:d<c.nt)
 (hE:∀a w F,HoldsF c (⟨sL,hP⟩:St) F a w→(execOp a.eval o).run P w= .ok (.enter f (ar.map (·.2.1)).toArray) w∧∀(i:Nat) (x:Value) (q:PV),((ar.map (·.2)).map (·.1))[i]? =some x→((ar.map (·.2)).map (·.2))[i]? =some q→Shr (mof c hP F) w x q)
 (hA:AFh dd P f ar (GV K hP) R) (hio:T7 0 ar=true) (hdd:c.dr→dd)
 (k:∀v p h,R v p h→aL P c ops Q rest ⟨put d (v,p) sL,h++Jt K hP⟩):aL P c ops Q (o::rest) (⟨sL,hP⟩:St):=
 Y4 hw fun a w F H=>by
  obtain ⟨hr,h2⟩:=hE a w F H;have hfr:=H.frame K;have hin:∀b,mof ⟨w,fun b=>c.M0 b∨∃l x,K.elem l=true∧lk hP l=some x∧F l b,nK K hP F,c.nt,c.dr,c.df⟩ (GV K hP) F b→mof c hP F b:=by
   rintro b ((h|⟨l,x,_,h1,h2⟩)|⟨l,x,h1,h2⟩)
   · exact .inl h
   · exact .inr ⟨l,x,h1,h2⟩
   · exact .inr ⟨l,x,(Gf.1 h1).2,h2⟩
  have hcall:=hA (fun b=>c.M0 b∨∃l x,K.elem l=true∧lk hP l=some x∧F l b) (nK K hP F) w F
   ⟨hfr.tr,hfr.lo,hfr.dj,hfr.m0.up hdd,hfr.ext,fun _=>Xe _⟩
   (fun i x hi=>by
     obtain ⟨_,h3⟩:=EI ar 0 i x hio hi;rw [Vx] at h3;exact (h2 i x.1 x.2 (by rw [Xo,Xo,h3];rfl) (by rw [Xo,Xo,h3];rfl)).anti fun b _ hb=>hin b hb)
  unfold Oper.wp;rw [hr,Oper.upon_enter];refine hcall.mono fun e w' ⟨v,p,h,F',e1,e2,e3,e4⟩=>?_;subst e1;have hch:Chg (nK K hP F) w w':=e3.ext;have hlow:∀b,b<w.heap.size→mof ⟨w,fun b=>c.M0 b∨∃l x,K.elem l=true∧lk hP l=some x∧F l b,nK K hP F,0,dd,[]⟩ h F' b→mof c hP F b:=by
   rintro b hlt ((h1|⟨l,x,_,h1,h2⟩)|⟨l,x,h1,h2⟩)
   · exact .inl h1
   · exact .inr ⟨l,x,h1,h2⟩
   · rcases e3.lo l x b h1 h2 with h3|⟨l',x',_,h3,h4⟩
     · exact Qc hlt (by simp only at h3;omega)
     · exact .inr ⟨l',x',h3,h4⟩
  have H':HoldsF ⟨w,fun b=>c.M0 b∨∃l x,K.elem l=true∧lk hP l=some x∧F l b,nK K hP F,c.nt,c.dr,c.df⟩ (⟨put d (v,p) sL,h⟩:St) F' (a.put o.dst v) w':=by
   refine ⟨e3.nt rfl rfl rfl hdd hfr.m0,fun t u q ht=>?_,by rw [hd];simpa [Act.put] using H.size,by rw [hd];exact H.df⟩;rw [hd];rcases ZZ ht with ⟨rfl,e⟩|⟨hne,e⟩
   · cases e;refine ⟨?_,e4⟩;simp [Act.put,H.size,hn]
   · obtain ⟨h3,h4⟩:=H.sl t u q e;refine ⟨?_,h4.to hch (fun b _ ⟨l,x,_,h5,h6⟩=> .inr ⟨l,x,h5,h6⟩) (fun b hlt hb=>hlow b hlt hb)⟩;simpa [Act.put,Ux,hne] using h3
  obtain ⟨H2,_,_⟩:=H.unframe H';exact k v p h e2 _ _ ⟨_,H2⟩
theorem WA {dd:Prop} {f:Nat} {ar h0:List (Nat×Ent)} {R:Value→PV→List (Nat×Ent)→Prop} {xs:Array Operand} {ats:Array TypeId} (K:List Nat) (d:Nat) (hc:∀args w,(callFunc f args).run P w= .ok (.enter f args) w) (hA:AFh dd P f ar h0 R)
 (k:∀v p h,R v p h→aL P c ops Q rest ⟨put d (v,p) sL,h++Jt K hP⟩) (hw:ZP ops sL o=some true:=by exact rfl) (hd:o.dst=some d:=by exact rfl) (hn:d<c.nt:=by exact Xa rfl)
 (ho:o.op= .call {callee:= .value (.func f),args:=xs,argTypes:=ats}:=by exact rfl) (hx:evL sL xs.toList=some (ar.map (·.2)):=by exact rfl) (hh0:h0=GV K hP:=by exact rfl) (hio:T7 0 ar=true:=by exact rfl) (hdd:c.dr→dd:=by first|exact id|exact fun h=>h.elim|exact fun _=>trivial):aL P c ops Q (o::rest) (⟨sL,hP⟩:St):=by
 subst hh0
 refine Zl7 K d hw hd hn (fun a w F H=>?_) hA hio hdd k
 obtain ⟨h1,h2⟩:=TA H.rd hx
 refine ⟨?_,h2⟩
 have hargs:xs.map a.eval=(ar.map (·.2.1)).toArray:=by
  rw [show ar.map (·.2.1)=(ar.map (·.2)).map (·.1) by rw [Xt];rfl,←h1,←VT,VL]
 simp [execOp,ho,resolve,Act.eval,Deferred.ofValue,invoke,hargs,hc]
theorem Zl8 {dd:Prop} {f:Nat} {es:List Ent} {us:List Value} {h0:List (Nat×Ent)} {ar:List (Nat×Ent)} {R:Value→PV→List (Nat×Ent)→Prop} {x:Operand} {q:PV} {xs:Array Operand} {ats:Array TypeId} (K:List Nat) (d:Nat) (hc:∀args w,(callFunc f args).run P w= .ok (.enter f args) w) (hA:AFh dd P f ar h0 R)
 (k:∀v p h,R v p h→aL P c ops Q rest ⟨put d (v,p) sL,h++Jt K hP⟩) (hw:ZP ops sL o=some true:=by exact rfl) (hd:o.dst=some d:=by exact rfl) (hn:d<c.nt:=by exact Xa rfl)
 (ho:o.op= .call {callee:= .value x,args:=xs,argTypes:=ats}:=by exact rfl) (hf:ev sL x=some (.func (.func f) #[] us.toArray,q):=by exact rfl) (hx:evL sL xs.toList=some es:=by exact rfl) (har:ar.map (·.2)=es++us.map (fun u=>(u, .val u)):=by exact rfl) (hh0:h0=GV K hP:=by exact rfl) (hio:T7 0 ar=true:=by exact rfl) (hdd:c.dr→dd:=by first|exact id|exact fun h=>h.elim|exact fun _=>trivial):aL P c ops Q (o::rest) (⟨sL,hP⟩:St):=by
 subst hh0
 refine Zl7 K d hw hd hn (fun a w F H=>?_) hA hio hdd k
 obtain ⟨h1,h2⟩:=TA H.rd hx
 have h3:=(H.rd.ev hf).1
 have e1:ar.map (·.2.1)=es.map (·.1)++us:=by
  rw [show ar.map (·.2.1)=(ar.map (·.2)).map (·.1) by rw [Xt];rfl,har,XC,Xt];congr 1;exact List.map_id' us
 refine ⟨?_,fun i x q hi hq=>?_⟩
 · have:xs.map a.eval=(es.map (·.1)).toArray:=by rw [←h1,←VT,VL]
   rw [e1];simp [execOp,ho,resolve,h3,Deferred.ofValue,invoke,this,hc]
 · rw [har] at hi hq;rw [XC] at hi hq;rcases XD i es.length with hlt|hge
   · rw [X0 (by simpa using hlt)] at hi hq;exact h2 i x q hi hq
   · rw [X' (by simpa using hge)] at hi hq;simp only [Xb,Xt,Xo,XP,Function.comp] at hi hq;obtain ⟨u,hu,rfl⟩:=hi;obtain ⟨u',hu',rfl⟩:=hq;rw [hu] at hu'
     cases hu';exact .val _
theorem EJ {l e k n g cap:Nat} {h:Value} {a:Act} (hh:h= .slice (some ⟨g,0,none⟩) n cap) (zs:List Value) (h1:zs.all Value.oneCell'=true):
 ∀ (m i j:Nat) (cs:List PV) (w:World) (F:Nat→BS) (hp:List (Nat×Ent)),HoldsF c ⟨sL,hp⟩ F a w→lk hp l=some (h, .own e k n cs)→i+m=zs.length→j+i+m≤cs.length→
  ∃w' F' hp',(storeCells ⟨g,j,none⟩ (zs.drop i) i).run P w= .ok () w'∧HoldsF c ⟨sL,hp'⟩ F' a w'∧lk hp' l=some (h, .own e k n (Tz cs (j+i) ((zs.drop i).map PV.val)))∧∀l',l'≠l→lk hp' l'=lk hp l'
 | 0,i,j,cs,w,F,hp,H,hl,hi,hj=>by
   refine ⟨w,F,hp,?_,H,?_,fun _ _=>rfl⟩
   · rw [XU oM];rfl
   · rw [XU (by omega:zs.length≤i)];exact hl
 | m +1,i,j,cs,w,F,hp,H,hl,hi,hj=>by
   have hi':i<zs.length:=oM;obtain ⟨v,hv⟩:=Yl hi';have hv1:v.oneCell'=true:=Xm.1 h1 v (Xc hv);obtain ⟨F1,H1⟩:=P9 H hl hh (show j+i<cs.length by omega) (Shr.val v);obtain ⟨w',F',hp2,hr,H2,hl2,hsame⟩:=EJ hh zs h1 m (i+1) j (cs.set (j+i) (.val v)) _ F1 _ H1 (ZJ _ _ _) oM (by simp;omega);refine ⟨w',F',hp2,?_,H2,?_,fun l' hne=>by rw [hsame l' hne,ZY (Ne.symm hne)]⟩
   · obtain ⟨xs,Fs,hrow,hlen,_⟩:=(H.tr l _ _ hl).row;subst hh;obtain ⟨z,hz⟩:=Yl (show j+i<xs.length by omega);have hcell:=KG hrow hz;have hfr:=hrow.frozenAt (j+i);rw [Vf (Zd hv),show zs[i]'(Zd hv)=v from (Xr.1 hv).2,storeCells];simp only [Sem.run_bind,run_store _ _ _ _ _ hv1,WB,hcell,hfr,VK,if_false,Result.andThen_ok];exact hr
   · rw [hl2,Vf hi',show zs[i]'hi'=v from (Xr.1 hv).2,Xj,Tz,Vw]
theorem Za1:∀(ps cs:List PV) (j:Nat),(Tz cs j ps).take j=cs.take j
 |[],_,_=>rfl
 | p::ps,cs,j=>by
   rw [Tz];have h:=Za1 ps (cs.set j p) (j+1);have h2:=congrArg (List.take j) h;rw [List.take_take,List.take_take,Vc (VQ j)] at h2;rw [h2,UK (Xe j)]
theorem Zjo {z:Value} (h:z.cells.toList.all Value.oneCell'=true) (m:Nat):(Builtin.zeroCells z.cells m).toList.all Value.oneCell'=true:=by
 rw [Xm]
 intro v hv
 unfold Builtin.zeroCells at hv
 rw [VT,Xh] at hv
 obtain ⟨i,_,rfl⟩:=hv
 rw [getElem!_def]
 cases hc:z.cells[i % z.cells.size]? with
 |none=>rfl
 |some u=>exact Xm.1 h u (by rw [←Uf] at hc;exact Xc hc)
theorem Zdz {t e kk bytes n i:Nat} {z:Value} {x:Operand} {h:Value} {q:PV} {cs:List PV} (l:Nat) (hT:ElT P t e kk bytes z) (hz0:z.cells.toList.all Value.oneCell'=true) (hw:ZP ops sL o=some true) (hd:o.dst=none)
 (ho:o.op= .call {callee:= .builtin .clear,args:= #[x],argTypes:= #[t]}) (hx:ev sL x=some (slc h i n kk,q)) (hl:lk hP l=some (h, .own e kk n cs)) (hi:i≤n)
 (k:∀cs',cs'.length=cs.length→cs'.take (i*kk)=cs.take (i*kk)→aL P c ops Q rest ⟨sL,put l (h, .own e kk n cs') hP⟩):aL P c ops Q (o::rest) (⟨sL,hP⟩:St):=
 Y4 hw fun a w F H=>by
  have hxv:=(H.rd.ev hx).1;obtain ⟨xs,Fs,hrow,hlen,_⟩:=(H.tr l _ _ hl).row;obtain ⟨inf,hi1,hi2,hi3,hi4⟩:=hT.info;have hback:Holds c ⟨sL,put l (h, .own e kk n cs) hP⟩ a w:=⟨F,H.less (fun _ _ h=>h) fun t x hx=>by
   rcases ZZ hx with ⟨rfl,rfl⟩|⟨hne,e1⟩
   · exact hl
   · exact e1⟩
  rcases Wu hrow with ⟨rfl,rfl,rfl⟩|⟨g,cap,rfl,hc1,hc2,hc3⟩
  · have hi0:i=0:=oM;subst hi0;unfold Oper.wp execOp;simp [ho,hxv,resolve,invoke,builtin,Builtin.clear_,slc,run_underlying hT.ht,Oper.upon,hd,Act.put];exact k cs rfl rfl _ _ hback
  · rcases XD i n with hlt|hge
    · (have hlen':cs.length=n*kk:=by rw [hlen,hrow.1]);(have hzs:(Builtin.zeroCells z.cells (n-i)).toList.length=(n-i)*kk:=by rw [XX,size_zeroCells,hT.hz]);(have hmul:i*kk+(n-i)*kk=n*kk:=by rw [←X1];congr 1;omega);obtain ⟨w',F',hp',hr,H',hl',hsame⟩:=EJ (P:=P) rfl (Builtin.zeroCells z.cells (n-i)).toList (Zjo hz0 _) _ 0 (i*kk) cs w F hP H hl (XE _) oM;simp only [Vk,VZ] at hr hl';have hcap:cap≠i:=oM;obtain ⟨m,hm⟩:∃m,n-i=m+1:=⟨n-i-1,oM⟩;simp only [slc,hcap,if_false,Option.map_some,WB,XE,hm] at hxv;rw [hm] at hr hl';unfold Oper.wp execOp;simp [ho,hxv,resolve,invoke,builtin,Builtin.clear_,run_underlying hT.ht,zeroValue,typeInfo,hi1,hi2,hr,Oper.upon,hd,Act.put];refine k (Tz cs (i*kk) ((Builtin.zeroCells z.cells (m+1)).toList.map PV.val)) (S7 _ _ _) (Za1 _ _ _) _ _ ⟨F',H'.less (fun _ _ h=>h) fun t x hx=>?_⟩;rcases ZZ hx with ⟨rfl,rfl⟩|⟨hne,e1⟩
      · exact hl'
      · show lk hp' t=_;rw [hsame t (Ne.symm hne)];exact e1
    · have hin:i=n:=oM;subst hin;by_cases hca:cap=i
      all_goals
       unfold Oper.wp execOp;simp [ho,hxv,resolve,invoke,builtin,Builtin.clear_,slc,hca,run_underlying hT.ht,Oper.upon,hd,Act.put];exact k cs rfl rfl _ _ hback
theorem Zhe {t e k r n:Nat} {x y:Operand} {v:Value} {q:PV} {cs:List PV} {st:St} (hT:SlT P t e k=true) (ho:o.op= .binOp .eql t x y r:=by exact rfl) (hx:ev st.slots x=some (v, .sl n cs):=by exact rfl) (hy:ev st.slots y=some (.slice none 0 0,q):=by exact rfl):
 YE P st o (fun u=>u= .bool false∨(u= .bool true∧n=0)) (.val (.bool (match v with| .slice a _ _=>a.isNone|_=>false))):=fun M F a w H=>by
 obtain ⟨hv,hS⟩:=H.ev hx
 have hyv:=(H.ev hy).1
 cases hS with
 | emp ad cp hc ha=>
   refine ⟨.bool ad.isNone,?_, .val _,fun N W _ _ _=>?_⟩
   · cases ad with
     |none=>exact .inr ⟨rfl,rfl⟩
     |some _=>exact .inl rfl
   · simp [execOp,ho,hv,hyv,eqGuard,Go.Lib.run_eql_slice_nil W t e ad _ _ 0 0 (SlT.und hT)]
 | sl b off n cp cs vs hn hc hcell hT'=>
   refine ⟨.bool false, .inl rfl, .val _,fun N W _ _ _=>?_⟩;simp [execOp,ho,hv,hyv,eqGuard,Go.Lib.run_eql_slice_nil W t e (some ⟨b,off,none⟩) _ _ 0 0 (SlT.und hT)]
theorem JZ {l:List Oper} (h:List (Nat×Ent)) (hs:Sub h hP) (k:aL P c ops Q l ⟨sL,h⟩):aL P c ops Q l (⟨sL,hP⟩:St):=fun a w ⟨F,H⟩=>k a w ⟨F,H.less (fun _ _ h=>h) fun t x hx=>hs.lk hx⟩
def ZfO (P:Program) (fs:Nat):Prop:=∀(p:Option Addr) (cap:Nat) (w:World),Calls P fs #[.slice p 0 cap] w fun e w'=>e= .returned (.tuple #[])∧w'=w
theorem Zl9 {fs e kk d:Nat} {h:Value} {q:PV} {cs:List PV} {x:Operand} {ats:Array TypeId} (l:Nat) (hS:ZfO P fs) (hc:∀args w,(callFunc fs args).run P w= .ok (.enter fs args) w)
 (k:aL P c ops Q rest ⟨put d (.tuple #[], .val (.tuple #[])) sL,hP⟩)
 (hw:ZP ops sL o=some true:=by exact rfl) (hd:o.dst=some d:=by exact rfl) (hdn:d<c.nt:=by exact Xa rfl) (ho:o.op= .call {callee:= .value (.func fs),args:= #[x],argTypes:=ats}:=by exact rfl) (hx:ev sL x=some (h,q):=by exact rfl) (hl:lk hP l=some (h, .own e kk 0 cs):=by exact rfl):aL P c ops Q (o::rest) (⟨sL,hP⟩:St):=
 Y4 hw fun a w F H=>by
  have hxv:=(H.rd.ev hx).1;obtain ⟨xs,Fs,hrow,_⟩:=(H.tr l _ _ hl).row;have hh:∃p cap,h= .slice p 0 cap:=by
   rcases Wu hrow with ⟨h1,_,_⟩|⟨g,cap,h1,_⟩
   · exact ⟨_,_,h1⟩
   · exact ⟨_,_,h1⟩
  obtain ⟨p,cap,rfl⟩:=hh;unfold Oper.wp;have hr:(execOp a.eval o).run P w= .ok (.enter fs #[.slice p 0 cap]) w:=by
   simp [execOp,ho,resolve,Act.eval,Deferred.ofValue,invoke,hc] at hxv ⊢;simp [hxv]
  rw [hr,Oper.upon_enter];refine (hS p cap w).mono fun e w' ⟨e1,e2⟩=>?_;subst e1 e2;rw [hd];exact k _ _ ⟨F,H.put hdn (.val _)⟩
end
end Go.En
namespace Go.Proofs.YteiincihiagidaaGreat
open Go.RowKit Go.Cb Go.En Tryz
theorem ZoS {α:Type} {p:α→Bool} {l:List α}:(idx p l= -1∧∀s∈l,p s=false)∨∃i x,idx p l=(i:Nat)∧l[i]? =some x∧p x=true∧∀j y,j<i→l[j]? =some y→p y=false:=by
 unfold idx
 cases h:l.findIdx? p with
 |none=>exact .inl ⟨rfl,by rw [U3] at h;exact h⟩
 | some i=>
   rw [Uy] at h;obtain ⟨hi,hp,hn⟩:=h;exact .inr ⟨i,l[i],rfl,sM,hp,fun j y hj hy=>by
    have:=hn j hj;obtain ⟨hj',rfl⟩:=Xr.1 hy;simpa using this⟩
theorem Zma (L:List Var):(L.flatMap WM).all En.one=true:=by rw [List.all_flatMap,Xm];intro x _;rfl
theorem Dc (e n:Nat) (l:List Var) (hn:n=l.length):share (.own e 2 n (l.flatMap WM))=Yx l:=by
 subst hn
 rw [share,Z7,Uw];rfl
theorem Gq:ElT prog 30 41 2 32 (.agg #[(.slice none 0 0),(.int .i64 0)]):=⟨underlying30,by kernel_rfl,rfl,dC⟩
theorem ζn (l:List Var) (hl:l.length≤1000000):AF prog 71 [Yx l] (· = .own 41 2 l.length (l.flatMap WM)):=by
 refine AF.b1 8 func71 rfl ntmps71 (Xa rfl) fun w0 M0 v0 _=>?_
 have f3:(l.flatMap WM).length=l.length*2:=Yr Yy l
 have f4:(l.flatMap WM).all En.one=true:=Zma l
 refine YK ?_
 (refine Yv ?_<;>(refine yL 4 (Zhe Yi) fun v4 hv4=>?_;rcases hv4 with rfl|⟨rfl,hn0⟩)<;>refine ZF ?_)<;>(
 refine cX ?_ ?_<;>intro hb4
 · first|exact bN hb4|(
 refine ZI ?_;have hl0:l=[]:=XB hn0;subst hl0;refine Z5 (Wr 200 41 2 rfl) fun _=>?_;exact K3 200 results71 rfl rfl rfl)
 · first|exact bN hb4|(
 refine Zh ?_;refine HG 5 Gq fun h5 ho5=>?_;refine Yv ?_;refine G1 5 7 Gq (fun h7 ho7=>?_) f3 f4;refine ZB ?_;refine K3 7 results71 rfl rfl ?_;rw [XE,XQ]))
structure Mv where
 src:Int
 dst:Int
 sym:Int
structure Aut where
 n:Int
 syms:Int
 start:List Int
 fin:List Int
 moves:List Mv
theorem Dd:∀(n:Nat) (L:List Int),L.Nodup→(∀s∈L,0≤s∧s<n)→L.length≤n
 |0,[],_,_=>Xe _
 |0,x::_,_,h=>by have:=h x (Xs ..);omega
 | n +1,L,hn,h=>by
   have h1:=Dd n (L.erase (n:Int)) (hn.erase _) fun s hs=>by
    have h2:=(hn.mem_erase_iff).1 hs;have h3:=h s h2.2;have:=h2.1;omega
   have h2:=List.length_erase (a:=(n:Int)) (l:=L);split at h2<;>omega
inductive Rch (a:Aut) (l:List Int):Int→Prop
 |base {s:Int} (h:s∈l):Rch a l s
 |step {s:Int} {m:Mv} (h:Rch a l s) (hm:m∈a.moves) (hs:m.src=s) (hc:m.sym= -1):Rch a l m.dst
def cntD (far:List Int):Nat:=far.countP fun d=>decide (0≤d)
structure FarOk (n:Nat) (far:List Int):Prop where
 len:far.length=n
 lo:∀d∈far,-1≤d
 hi:∀d∈far,d<cntD far
def InS (a:Aut) (S:List Int):Prop:=∀s∈S,0≤s∧s<a.n
theorem ZoT {α:Type} {p:α→Bool}:∀{l:List α},l.any p=true→∃(i:Nat) (x:α),idx p l=(i:Int)∧l[i]? =some x∧p x=true:=fun {l} h=>by
 rcases ZoS (p:=p) (l:=l) with ⟨_,h1⟩|⟨i,x,h1,h2,h3,_⟩
 · obtain ⟨x,hx,hp⟩:=X4.1 h;rw [h1 x hx] at hp;cases hp
 · exact ⟨i,x,h1,h2,h3⟩
theorem Zjp {n:Nat} {l:List (Nat×Nat)} (hn:l.Nodup) (hl:∀p∈l,p.1<n∧p.2<n):l.length≤n*n:=by
 have h1:(l.map fun p=>((p.1*n+p.2:Nat):Int)).Nodup:=by
  refine Vq.2 (List.Pairwise.imp_of_mem (fun {p q} hp hq hne e=>hne ?_) hn);have h2:=hl p hp;have h3:=hl q hq;have e2:p.1*n+p.2=q.1*n+q.2:=by exact_mod_cast e
  have e3:p.1=q.1:=by
   rcases VG p.1 q.1 with h|h|h
   · have:=Vn n (show p.1+1≤q.1 by omega);rw [Vi] at this;omega
   · exact h
   · have:=Vn n (show q.1+1≤p.1 by omega);rw [Vi] at this;omega
  rw [e3] at e2;exact Prod.ext e3 oM
 have h2:=Dd (n*n) _ h1 fun s hs=>by
  obtain ⟨p,hp,rfl⟩:=Xh.1 hs;have h2:=hl p hp;have:=Vn n (show p.1+1≤n by omega);rw [Vi] at this;omega
 simpa using h2
theorem ζo {α:Type} {r:α→α→Bool} {l:List α} (h:chainB r l=true) (hi:∀a∈l,r a a=false) (ht:∀a∈l,∀b∈l,∀c∈l,r a b=true→r b c=true→r a c=true):l.Pairwise fun a b=>r a b=true:=by
 induction l with
 |nil=>exact .nil
 | cons x l ih=>
   have h1:∀i a b,(x::l)[i]? =some a→(x::l)[i+1]? =some b→r a b=true:=(J3 r _).1 h;have h2:=ih ((J3 r l).2 fun i a b ha hb=>h1 (i+1) a b ha hb) (fun a ha=>hi a (Xw _ ha)) (fun a ha b hb c hc=>ht a (Xw _ ha) b (Xw _ hb) c (Xw _ hc));refine XL.2 ⟨fun y hy=>?_,h2⟩
   cases l with
   |nil=>simp at hy
   | cons z l=>
     have h3:=h1 0 x z rfl rfl;rcases Xk.1 hy with rfl|hy2
     · exact h3
     · exact ht x sM z sM y (Xw _ hy) h3 ((XL.1 h2).1 y hy2)
structure AOk (a:Aut):Prop where
 n0:0≤a.n
 n1:a.n≤2000
 s0:0≤a.syms
 s1:a.syms≤40
 ml:a.moves.length≤20000
 st:InS a a.start
 fi:InS a a.fin
 sl:a.start.length≤2000
 fl:a.fin.length≤2000
 mv:∀m∈a.moves,0≤m.src∧m.src<a.n∧0≤m.dst∧m.dst<a.n∧-1≤m.sym∧m.sym<a.syms
end Go.Proofs.YteiincihiagidaaGreat
