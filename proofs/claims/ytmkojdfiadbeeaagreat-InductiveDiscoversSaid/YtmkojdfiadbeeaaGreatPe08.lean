/-
  Walks of functions and plain laws of the chapter, as the claim needs them.
-/
import Derived.Test.YtmkojdfiadbeeaaGreatPe07
import Derived.Test.YtmkojdfiadbeeaaGreatPe06
import Derived.Test.YtmkojdfiadbeeaaGreatPe05
import Derived.Test.YtmkojdfiadbeeaaGreatPe02
import Derived.Test.YtmkojdfiadbeeaaGreatPe03
import Derived.Test.YtmkojdfiadbeeaaGreatMShelfC
import Derived.Test.YtmkojdfiadbeeaaGreatPe04
import Derived.Test.YtmkojdfiadbeeaaGreatMShelfD
import Derived.Test.YtmkojdfiadbeeaaGreatPe01
set_option linter.all false
set_option maxRecDepth 100000
set_option maxHeartbeats 8000000
namespace Go.Proofs.YtmkojdfiadbeeaaGreat
open Go.RowKit Go.Cb Go.En Tryz
theorem Ct:AggT prog 114 2=true:=kR
theorem PG:AggT prog 28 2=true:=kR
theorem Zap:AggT prog 42 2=true:=kR
theorem ZgV:ElT prog 109 78 1 8 (.map none):=⟨underlying109,by kernel_rfl,rfl,dC⟩
theorem Zb3:ElT prog 22 28 2 32 (.agg #[(.slice none 0 0),(.int .i64 0)]):=⟨underlying22,by kernel_rfl,rfl,dC⟩
theorem Zkx:ElT prog 45 22 1 24 (.slice none 0 0):=⟨underlying45,by kernel_rfl,rfl,dC⟩
theorem GK:FldT prog 114 0 0=true:=kR
theorem HL:FldT prog 114 1 1=true:=kR
theorem Ou:FldT prog 28 0 0=true:=kR
theorem Ov:FldT prog 28 1 1=true:=kR
theorem Cu:FldT prog 42 0 0=true:=kR
theorem Ri:FldT prog 42 1 1=true:=kR
theorem EI:MpT prog 78 9 3 .string (.int .i64 0):=⟨underlying78,underlying9, .inl rfl,by show ZeroT _ _ _;unfold ZeroT;kernel_rfl⟩
theorem Sm:NoAgg prog 22=true:=kR
theorem R8:NoAgg prog 26=true:=kR
theorem Gv:NoAgg prog 3=true:=kR
theorem De:NoAgg prog 40=true:=kR
theorem EJ:NoAgg prog 78=true:=kR
theorem Znm:NoAgg prog 9=true:=kR
theorem PH:SlT prog 109 78 1=true:=kR
theorem Zaq:SlT prog 110 114 2=true:=kR
theorem Lo:SlT prog 22 28 2=true:=kR
theorem Zb4:SlT prog 26 9 1=true:=kR
theorem Df:SlT prog 40 26 1=true:=kR
theorem Lp:SlT prog 45 22 1=true:=kR
theorem Zky:Ge prog 28=some ((.agg #[(.slice none 0 0),(.int .i64 0)]),([0,1]:List Nat).map fun o=>(o,1)):=kR
theorem Zkz:(prog.info? 22).map (·.size)=some 1:=kR
theorem Znn:(prog.info? 3).map (·.size)=some 1:=kR
theorem ZkA:(prog.info? 78).map (·.size)=some 1:=kR
theorem ZgW:ZeroT prog 114 (.agg #[(.int .i64 0),(.slice none 0 0)]):=by unfold ZeroT;kernel_rfl
theorem Zb5:ZeroT prog 28 (.agg #[(.slice none 0 0),(.int .i64 0)]):=by unfold ZeroT;kernel_rfl
theorem Zb6 {sL hP:List (Nat×Ent)} {t:Nat} {q:PV} (ht:lk sL t=some (.slice none 0 0,q)):L8 (⟨sL,hP⟩:St) (fun _:Unit=>⟨put t (.slice none 0 0, .sl 0 []) sL,hP⟩):=fun c a w ⟨F,H⟩=>by
 refine ⟨(),F,H.toHeapF,fun s u r hs=>?_,H.size,H.df⟩
 rcases YC hs with ⟨rfl,e1⟩|⟨_,hs'⟩
 . cases e1;exact ⟨(H.sl t _ _ ht).1, .emp none 0 (by unfold maxLen;omega) (fun _=>rfl)⟩
 . exact H.sl s u r hs'
theorem ZkB (parts:List (List BA)) (s:BA):(Kv (skv (Y0 0 parts)) (.string s)).isSome=decide (0<=partOf parts s):=by
 rw [LH,DF,Option.isSome_map,PO]
theorem Zar {parts:List (List BA)} {l:List Var} {x:Var} {s:BA} (hx:x∈l) (hs:s∈x.acts) (h:¬0<=partOf parts s):Js parts l=false:=by
 cases hI:Js parts l with
 |false=>rfl
 | true=>
   unfold Js at hI;rw [Xj] at hI;have:=hI x hx;rw [Xj] at this;exact Qd (Qe (this s hs)) h
def RSp (x:List (List Var)×Int) (p:PV):Prop:=p= .tup [ZcC x.1,Zb x.2]
theorem Tx {l:List Var} {c:Cut} {n:Int} (h:KQ l c=([],n)):RSp (KQ l c) (.tup [.sl 0 [],Zb n]):=by rw [h];rfl
theorem Zfl {l:List Var} {c:Cut} (h:(validVars l&&YZ c)=false):KQ l c=([],1):=by unfold KQ;rw [Qc h]
theorem Zfm {l:List Var} {c:Cut} (h1:validVars l=true) (h2:YZ c=true) (h:Js c.parts l=false):KQ l c=([],8):=by unfold KQ;rw [h1,h2];simp [h]
def Lb (e:Nat) (r:List Var):PV:= .own e 2 r.length (r.flatMap Wo)
def oAt (r:List Var):PV:= .omap (skv (PW T1 0 r))
theorem ZgX (n e:Nat):∀(i:Nat) (p p':PV),(List.replicate n (PV.val (.slice none 0 0)))[i]? =some p->((List.replicate n ([]:List Var)).map (Lb e))[i]? =some p'->Zhy p p':=fun i p p' h1 h2=>by
 rw [List.map_replicate] at h2
 have e1:=VB (Xb h1)
 have e2:=VB (Xb h2)
 exact .inr ⟨e1,_,_,e2⟩
theorem ZkC {n k:Nat} {v:PV} (hk:k<n):(((List.replicate k (PV.omap [])++List.replicate (n-k) (PV.val (.map none))).set k v).set k (.omap []))=List.replicate (k+1) (PV.omap [])++List.replicate (n-(k+1)) (PV.val (.map none)):=by
 rw [X4,Vr _ _ sM,XR,Vl,show n-k=(n-(k+1))+1 by omega,List.replicate_succ,U0,List.replicate_succ',XH]
 rfl
theorem Zno (n:Nat):List.replicate n (PV.omap [])++List.replicate (n-n) (PV.val (.map none))=(List.replicate n ([]:List Var)).map oAt:=by
 rw [Vl,List.map_replicate];simp;exact .inr rfl
theorem ZkD {parts:List (List BA)} {s:BA} (h:0<=partOf parts s):Ks (Y0 0 parts) s=some (.int .i64 (partOf parts s)):=by
 have h1:=PO parts s
 rw [U' h] at h1
 obtain ⟨n,hn⟩:=Option.isSome_iff_exists.1 h1
 rw [DF,Zge,hn];rfl
theorem Ow {c:Cut} (h:YZ c=true):1<=c.kind/\c.kind<=4/\2<=c.parts.length:=by
 simp only [YZ,Xe,U9] at h
 exact ⟨h.1.1.1,h.1.1.2,h.1.2⟩
theorem Zb7 {l:List Var} {c:Cut} (h1:validVars l=true) (h2:YZ c=true) (h3:Js c.parts l=true) (h:splitAll c (List.replicate c.parts.length []) l=none):KQ l c=([],19):=by unfold KQ;rw [h1,h2,h3,h];simp
theorem Ox {c:Cut} {S:List (List Var)} {l:List Var} {k:Nat} {x:Var} (hx:l[k]? =some x):splitAll c S (l.drop k)=match We c x.acts with|none=>none|some ps=>splitAll c (ps.foldl (putPiece x.count) S) (l.drop (k+1)):=by
 rw [WL hx,splitAll]
 cases We c x.acts<;>rfl
def Zri (l:List Var) (c:Cut) (x:Nat×List (List Var)):Prop:=x.1<=l.length/\x.2.length=c.parts.length/\WR x.2/\∃S,RelR x.2 S/\RowsOk (x.1*1000300) S/\splitAll c (List.replicate c.parts.length []) l=splitAll c S (l.drop x.1)
theorem Zrj (l:List Var) (c:Cut):Zri l c (0,List.replicate c.parts.length []):=⟨sM,sM,Zrh _,_,Znk _,by rw [X8];exact ζc _,rfl⟩
def ZkE (c:Cut) (S:List (List Var)) (ps:List Piece) (cnt:Int) (k:Nat) (y:Nat×List (List Var)):Prop:=y.1<=ps.length/\y.2.length=c.parts.length/\WR y.2/\∃S',RelR y.2 S'/\RowsOk (k*1000300+y.1) S'/\ps.foldl (putPiece cnt) S=(ps.drop y.1).foldl (putPiece cnt) S'
theorem ZkF {c:Cut} {S R:List (List Var)} {ps:List Piece} {cnt:Int} {k i:Nat} {p:Piece} (h:ZkE c S ps cnt k (i,R)) (hp:ps[i]? =some p) (hw:WOk p.word) (h0:0<=cnt) (h1:cnt<=1048576):ZkE c S ps cnt k (i+1,Zao cnt R p):=by
 obtain ⟨a1,a2,a3,S',a4,a5,a6⟩:=h
 have hlt:=Zd hp
 refine ⟨hlt,by show (Zao cnt R p).length=_;rw [Zfi];exact a2,a3.put hw,putPiece cnt S' p,a4.put,?_,?_⟩
 . have h9:=E7 (p:=p) h0 h1 a5;dsimp only at h9 ⊢;rw [Vv] at h9;exact h9
 rw [a6]
 show (ps.drop i).foldl _ _=_
 rw [WL hp];rfl
theorem Zrk {c:Cut} {S R:List (List Var)} {k:Nat} (ps:List Piece) (cnt:Int) (h1:R.length=c.parts.length) (h2:WR R) (h3:RelR R S) (h4:RowsOk (k*1000300) S):ZkE c S ps cnt k (0,R):=by
 refine ⟨Xg _,h1,h2,S,h3,?_,?_⟩
 . dsimp only;rw [VM];exact h4
 . dsimp only;rw [Vc]
theorem Znp {l:List Var} {c:Cut} {S R:List (List Var)} {ps:List Piece} {cnt:Int} {k i:Nat} (h:ZkE c S ps cnt k (i,R)) (hi:ps.length<=i) (hk:k<l.length) (hp:ps.length<=1000300) (hsp:splitAll c (List.replicate c.parts.length []) l=splitAll c (ps.foldl (putPiece cnt) S) (l.drop (k+1))):Zri l c (k+1,R):=by
 obtain ⟨a1,a2,a3,S',a4,a5,a6⟩:=h
 refine ⟨hk,a2,a3,S',a4,fun r hr=>?_,?_⟩
 . have:=a5 r hr;have h2:k*1000300+i<=(k+1)*1000300:=by rw [X3];change i<=ps.length at a1;omega
   exact ⟨XK this.1 h2,fun x hx=>⟨(this.2 x hx).1,Int.le_trans (this.2 x hx).2 (U6 (Int.ofNat_le.2 h2) dC)⟩⟩
 . rw [hsp,a6];show splitAll c ((ps.drop i).foldl _ _) _=_;rw [XN hi];rfl
theorem ZkG (a b:List BA) (ha:WOk a) (hb:WOk b) (h:T1 a=T1 b):a=b:=by
 refine Znh ha hb ?_
 have:=congrArg (fun s:BA=>s.data.toList) h
 simpa [T1] using this
structure Met (r:List Var) (pw:List BA) (cnt:Int) (hd:Value) (r':List Var) (ix:Nat) (z:Var):Prop where
 one:hd.oneCell'=true
 at_:r'[ix]? =some z
 acts:z.acts=pw
 set:r'.set ix ⟨pw,z.count+cnt⟩=bump r pw cnt
 lo:0<=z.count
 hi:z.count<=400000000000000
 len:r'.length<=400000000
theorem Oy (r:List Var):Wk (r.flatMap Wo)=r.flatMap Wo:=by
 induction r with
 |nil=>rfl
 |cons x r ih=>rw [Xr,Dq,ih];rfl
theorem ZgY (e n:Nat) (k:Nat) (T:List (List Var)) (h:n=T.length):share (.own e k n (T.map (Lb 28)))=ZcC T:=by
 subst h
 have:Wk (T.map (Lb 28))=T.map Z1:=by
  rw [YI,Xz];refine VQ fun r _=>?_;show share (.own _ 2 r.length (r.flatMap Wo))=_;simp only [share,Oy];rfl
 simp only [share,this];rfl
theorem ZkH {sL hP:List (Nat×Ent)} {e l:Nat} {h:Value} {r:List Var} (hl:lk hP l=some (h, .own e 2 r.length (r.flatMap Wo))):P3 (⟨sL,hP⟩:St) h (Z1 r):=by
 have:=Zbl (sL:=sL) hl
 simp only [share,Oy] at this
 exact this
theorem Ziw {w:List BA} (h:WOk w):ZcJ w:=⟨by have:=h.1;omega,fun s hs=>by have:=(DO (h.2 s hs)).2.2;omega⟩
theorem ZpB (a:Var):¬cmpStrs a.acts a.acts<0:=fun h=>by have:=Pm a.acts;unfold ltW at this;simp [h] at this
theorem Zrl (a b c:Var) (h1:cmpStrs a.acts b.acts<0) (h2:cmpStrs b.acts c.acts<0):cmpStrs a.acts c.acts<0:=Qe (Td (U' h1) (U' h2))
theorem Zrm (a b c:Var) (h1:¬cmpStrs a.acts b.acts<0) (h2:¬cmpStrs b.acts c.acts<0):¬cmpStrs a.acts c.acts<0:=fun h=>by
 by_cases h3:cmpStrs b.acts a.acts<0
 . exact h2 (Qe (Td (U' h3) (U' h)))
 . have:=Sg (a:=a.acts) (b:=b.acts) (Qa h1) (Qa h3);rw [this] at h;exact h2 h
theorem Zrn {r r':List Var} (hn:Nodup r) (hp:r'.Perm r) (hs:∀(i j:Nat) (a b:Var),i<j->r'[i]? =some a->r'[j]? =some b->¬cmpStrs b.acts a.acts<0):Asc r':=by
 have hn':Nodup r':=hn.perm hp.symm
 refine XV.2 fun i j hi hj hij=>?_
 have h1:=hs i j _ _ hij (Xq hi) (Xq hj)
 have h2:=(XV.1 hn') i j hi hj hij
 cases h3:ltW r'[i].acts r'[j].acts with
 |true=>rfl
 |false=>exact Qd (Sg h3 (Qa h1)) h2
theorem Znq {P:Program} {c:Ctx} {sL hP:List (Nat×Ent)} {ops:Array Oper} {Q:Exit->Act->World->Prop} {o:Oper} {rest:List Oper} {fs g k e d l:Nat} {cs:List PV} {h:Value} {q q':PV} {x y:Operand} {ats:Array TypeId} (hS:∀(p:Option Addr) (cap:Nat) (fv:Value) (w:World),Calls P fs #[.slice p 0 cap,fv] w fun e w'=>e= .returned (.tuple #[])/\w'=w)
 (hw:Yf ops sL o=some true) (hd:o.dst=some d) (hdn:d<c.nt) (ho:o.op= .call {callee:= .value (.func fs),args:= #[x,y],argTypes:=ats}) (hc:∀args w,(callFunc fs args).run P w= .ok (.enter fs args) w) (hx:ev sL x=some (h,q)) (hy:ev sL y=some (.func (.func g) #[] #[],q')) (hl:lk hP l=some (h, .own e k 0 cs))
 (kk:aL P c ops Q rest ⟨put d (.tuple #[], .val (.tuple #[])) sL,hP⟩):aL P c ops Q (o::rest) (⟨sL,hP⟩:St):=
 WY hw fun a w F H=>by
  have hxv:=(H.rd.ev hx).1;have hyv:=(H.rd.ev hy).1;obtain ⟨xs,Fs,hrow,_⟩:=(H.tr l _ _ hl).row;obtain ⟨p,cap,rfl⟩:∃p cap,h= .slice p 0 cap:=by
   rcases Kq hrow with ⟨h1,_⟩|⟨g,cap,h1,_⟩
   . exact ⟨_,_,h1⟩
   . exact ⟨_,_,h1⟩
  unfold Oper.wp;have hrun:(execOp a.eval o).run P w= .ok (.enter fs #[.slice p 0 cap, .func (.func g) #[] #[]]) w:=by
   have hev:a.eval (.func fs)= .func (.func fs) #[] #[]:=rfl;simp [execOp,ho,resolve,Deferred.ofValue,hev,invoke,hxv,hyv,hc]
  rw [hrun,Oper.upon_enter];refine (hS p cap _ w).mono fun e' w' ⟨he',hw'⟩=>?_;subst he' hw';rw [hd];exact kk _ _ ⟨F,H.put hdn (.val _)⟩
theorem Zfn {l:List Var} {c:Cut} {S:List (List Var)} (h1:validVars l=true) (h2:YZ c=true) (h3:Js c.parts l=true) (h:splitAll c (List.replicate c.parts.length []) l=some S) (h4:S.any bigVars=true):KQ l c=([],6):=by unfold KQ;rw [h1,h2,h3,h];simp only [];simp [h4]
theorem Zfo {l:List Var} {c:Cut} {S:List (List Var)} (h1:validVars l=true) (h2:YZ c=true) (h3:Js c.parts l=true) (h:splitAll c (List.replicate c.parts.length []) l=some S) (h4:S.any bigVars=false) (h5:S.any Kh=true):KQ l c=([],5):=by unfold KQ;rw [h1,h2,h3,h];simp only [];rw [h4,h5];rfl
theorem Zfp {l:List Var} {c:Cut} {S:List (List Var)} (h1:validVars l=true) (h2:YZ c=true) (h3:Js c.parts l=true) (h:splitAll c (List.replicate c.parts.length []) l=some S) (h4:S.any bigVars=false) (h5:S.any Kh=false):KQ l c=(S,0):=by unfold KQ;rw [h1,h2,h3,h];simp only [];rw [h4,h5];rfl
theorem Zde {f:List Var->Bool} {R:List (List Var)} (h:∀(i:Nat) (r:List Var),R[i]? =some r->f r=false):R.any f=false:=by
 rw [Ut]
 intro r hr
 obtain ⟨i,hi⟩:=XM hr
 rw [h i r hi];simp
theorem C1 {f:List Var->Bool} {R:List (List Var)} {i:Nat} {r:List Var} (hr:R[i]? =some r) (h:f r=true):R.any f=true:=X2.2 ⟨r,Xb hr,h⟩
theorem Zfq (l : List Var) (c:Cut) (hl0:Do l) (hs:∀p∈c.parts,∀s∈p,s.size<=140737488355328) (hn1:c.parts.length<=1000000):
 AF prog 20 [Z1 l,Pf c] (RSp (KQ l c)):=by
 refine AF.b2 190 func20 rfl ntmps20 (Xa rfl) fun w0 M0 v0 v1 _ _=>?_
 refine Zi ?_
 refine Yi 3 2 fun h3=>?_;refine KI ?_
 refine (Bool.eq_false_or_eq_true (YZ c)).elim (fun hF=>?_) (fun hF=>?_)
 . (refine Zo ?_; refine yU (Zn 3 Zap) fun v31=>?_;refine Zhv (R:=(· = .tup [.omap (skv (Y0 0 c.parts)),Zr true])) 32 32 201 rfl rfl (Xa rfl) rfl rfl rfl (D8 rfl (call64) rfl ((Ze1 c hs).mono fun p ⟨q,e1,e2,_⟩=>by rw [e1,e2 hF,hF])) ?_;rintro p' rfl;refine ⟨_,_,rfl,rfl,rfl,?_⟩;intro h32 v201 _ hv201 ho32 _;cases hv201;refine ζg ?_;refine Zw ?_)
   refine Zq (En.freeze (l:=32) (t:=6) rfl rfl) fun _=>?_;refine Zo ?_;refine LZ ?_;refine P4 39 rfl rfl (Xa rfl) (D8 rfl (call9) rfl (GZ l hl0)) ?_;rintro p' rfl;refine ⟨rfl,?_⟩;intro v39 hv39;cases hv39;refine KI ?_;refine Ys rfl ?_ ?_
   . intro hb;refine ZU ?_;refine YO (Zb6 (t:=4) rfl) fun _=>?_;refine Y7 (results20) rfl rfl (Tx (Zfl ?_))
     cases h:validVars l
     . rfl
     . rw [h] at hb;cases hb
   . intro hb;have hV:validVars l=true:=by
      cases h:validVars l
      . rw [h] at hb;cases hb
      . rfl
     refine Zi ?_;refine xL 42 Za (xL 43 (Zs Lo) (xL 44 Za ?_));refine Zw ?_;refine Ki 42 rfl fun hlen=>?_;refine Yq (ι:={k:Nat//k<=l.length/\∀(j:Nat) (x:Var),j<k->l[j]? =some x->∀s∈x.acts,0<=partOf c.parts s}) (fun k=>⟨[(0,v0,Z1 l),(3,padd (sbase h3) 0, .val (padd (sbase h3) 0)),(6,h32, .smap (skv (Y0 0 c.parts))),(42,v0,Z1 l),(43, .int .i64 l.length,Zb l.length),(44, .int .i64 k.1,Zb k.1)],[(3,h3, .own 42 2 1 [Zb c.kind,LG c.parts])]⟩) (fun k=>l.length-k.1) ⟨0,oM,fun j x hj=>oM⟩ ?_;rintro ⟨k,hk,hpre⟩;dsimp only;refine ZD ?_;refine Ys rfl ?_ ?_
     . intro hb5;(have hlt:k<l.length:=by have:=Qe hb5;omega);obtain ⟨x,hx⟩:=get_some hlt;have hD:=Wr Z0 l k x hx;have hfit:=W9 Z0 hx;refine Zi ?_;refine xM (Ze Lo) ?_;refine yU (Wn PG) fun v47=>?_;refine Zt [(.slice none 0 0),(.int .i64 0)] 2 9 Zb5 fun h9=>?_;refine Zp 9 PG ?_;refine Ym ?_;refine xM (Zc 9 Ou) ?_;refine yU (Zh 9 R8) fun v49=>?_;refine xL 50 (Zs Zb4) (xL 51 Za ?_);refine Zw ?_;refine Ki 49 rfl fun hlenx=>?_;refine Yq (ι:={j:Nat//j<=x.acts.length/\∀(m:Nat) (s:BA),m<j->x.acts[m]? =some s->0<=partOf c.parts s}) (fun j=>⟨[(0,v0,Z1 l),(3,padd (sbase h3) 0, .val (padd (sbase h3) 0)),(6,h32, .smap (skv (Y0 0 c.parts))),(42,v0,Z1 l),(43, .int .i64 l.length,Zb l.length),(44, .int .i64 k,Zb k),(49,v49,ZW x.acts),(50, .int .i64 x.acts.length,Zb x.acts.length),(51, .int .i64 j.1,Zb j.1)],[(3,h3, .own 42 2 1 [Zb c.kind,LG c.parts])]⟩) (fun j=>x.acts.length-j.1) ⟨0,oM,fun m s hm=>oM⟩ ?_;rintro ⟨j,hj,hprej⟩;dsimp only;refine ZD ?_;refine Ys rfl ?_ ?_
       . intro hb8;(have hltj:j<x.acts.length:=by have:=Qe hb8;omega);obtain ⟨s,hsj⟩:=get_some hltj;have e2:=Yh (f:=Zv) hsj;have hlook:=ZkB c.parts s;refine Zi ?_;refine xM (Ze Zb4) ?_;refine yV (Zu Znm) ?_;refine ZX ?_;refine xL 56 Za (xL 57 Za (xL 58 (ZoG EI) (xL 55 Za (xL 59 Y4 (xL 60 Y4 (xL 12 ZJ (xL 13 ZJ ?_)))))));refine Ym ?_;refine KI ?_;refine Ys rfl ?_ ?_
         . intro hb11;refine ZU ?_;refine YO (Zb6 (t:=4) rfl) fun _=>?_;refine Y7 (results20) rfl rfl (Tx (Zfm hV hF (Zar (Xb hx) (Xb hsj) ?_)));rw [hlook] at hb11;simpa using hb11
         . intro hb11;refine ZU ?_;refine Zf ⟨j+1,oM,fun m s' hm hs'=>?_⟩ (by show x.acts.length-(j+1)<x.acts.length-j;omega) sB sB;by_cases e:m=j
           . subst e;rw [hsj] at hs';cases hs';rw [hlook] at hb11;simpa using hb11
           . exact hprej m s' oM hs'
       . intro hb8;(have hgej:x.acts.length<=j:=by have:=Qf hb8;omega);refine ZU ?_;refine Zf ⟨k+1,oM,fun j' x' hj' hx'=>?_⟩ (by show l.length-(k+1)<l.length-k;omega) sB sB;by_cases e:j'=k
         . subst e;rw [hx] at hx';cases hx';intro s hs';obtain ⟨m,hm⟩:=XM hs';exact hprej m s (by have:=Zd hm;omega) hm
         . exact hpre j' x' oM hx'
     . intro hb5;(have hge:l.length<=k:=by have:=Qf hb5;omega);have hP:∀x∈l,∀s∈x.acts,0<=partOf c.parts s:=fun x hx=>by
        obtain ⟨j,hj⟩:=XM hx;exact hpre j x (by have:=Zd hj;omega) hj
       refine nav ?_;clear hpre hge hb5 hk;refine Zo ?_;refine xM (Zc 3 Ri) ?_;refine yU (Zh 3 De) fun v66=>?_;refine xM (Zs Df) ?_;refine Kz 68 Zkx fun h68 ho68=>?_;refine ZX ?_;refine xM (Zc 3 Ri) ?_;refine yU (Zh 3 De) fun v70=>?_;refine xM (Zs Df) ?_;refine Kz 72 ZgV fun h72 ho72=>?_;refine ZP ?_;refine Zq (TE (l:=68) ((List.replicate c.parts.length ([]:List Var)).map (Lb 28)) rfl sM (ZgX _ _)) fun _=>?_;refine Zo ?_;refine xL 73 Za (xL 74 (WB 72 PH) (xL 75 Za ?_));refine Zw ?_;refine Yq (ι:={k:Nat//k<=c.parts.length}) (fun k=>⟨[(0,v0,Z1 l),(3,padd (sbase h3) 0, .val (padd (sbase h3) 0)),(6,h32, .smap (skv (Y0 0 c.parts))),(14,h68, .val h68),(15,h72, .val h72),(73,h72, .val h72),(74, .int .i64 c.parts.length,Zb c.parts.length),(75, .int .i64 k.1,Zb k.1)],[(3,h3, .own 42 2 1 [Zb c.kind,LG c.parts]),(68,h68, .own 22 1 c.parts.length ((List.replicate c.parts.length ([]:List Var)).map (Lb 28))),(72,h72, .own 78 1 c.parts.length (List.replicate k.1 (.omap [])++List.replicate (c.parts.length-k.1) (.val (.map none))))]⟩) (fun k=>c.parts.length-k.1) ⟨0,oM⟩ ?_;rintro ⟨k,hk⟩;dsimp only;refine ZD ?_;refine Ys rfl ?_ ?_
       . intro hb18;(have hlt:k<c.parts.length:=by have:=Qe hb18;omega);refine Jx ?_;refine ZO ?_;refine S6 80 fun h80 ho80=>?_;refine xM (Zj 72 PH) ?_;refine LJ 72 k rfl rfl EJ ZkA rfl rfl rfl (by assumption) rfl oM (by simp;omega) ?_;refine Zw ?_;refine Zq (L9 (l:=72) (l':=80) (j:=k) rfl (XJ (by simp;omega)) rfl rfl) fun _=>?_;refine Gf ?_;exact Zf ⟨k+1,oM⟩ (by show c.parts.length-(k+1)<c.parts.length-k;omega) sB ⟨rfl,rfl,by show some _=some _;rw [ZkC hlt],trivial⟩
       . intro hb18;(have hge:k=c.parts.length:=by have:=Qf hb18;omega);refine Zi ?_;refine xL 83 Za (xL 84 (Zs Lo) (xL 85 Za ?_));refine Zw ?_;refine Y9 (ι:={x:Nat×List (List Var)//Zri l c x}) (fun x=>⟨[(0,v0,Z1 l),(3,padd (sbase h3) 0, .val (padd (sbase h3) 0)),(6,h32, .smap (skv (Y0 0 c.parts))),(14,h68, .val h68),(15,h72, .val h72),(83,v0,Z1 l),(84, .int .i64 l.length,Zb l.length),(85, .int .i64 x.1.1,Zb x.1.1)],[(3,h3, .own 42 2 1 [Zb c.kind,LG c.parts]),(68,h68, .own 22 1 c.parts.length (x.1.2.map (Lb 28))),(72,h72, .own 78 1 c.parts.length (x.1.2.map oAt))]⟩) (fun x=>l.length-x.1.1) ⟨(0,List.replicate c.parts.length []),Zrj l c⟩ (fun a w H=>H.weaken sB ⟨rfl,rfl,by show some _=some _;rw [hge,Zno],trivial⟩) ?_;clear hge hb18 hk;rintro ⟨⟨k,R⟩,hI⟩;dsimp only;obtain ⟨hk,hRl,hWR,S,hRS,hSok,hsp⟩:=id hI;dsimp only at hk hRl hWR hRS hSok hsp;refine ZD ?_;refine Ys rfl ?_ ?_
         . intro hb23;(have hlt:k<l.length:=by have:=Qe hb23;omega);obtain ⟨x,hx⟩:=get_some hlt;have hD:=Wr Z0 l k x hx;have hfit:=W9 Z0 hx;have hin:=hP x (Xb hx);have hok:=T4 hV hx;have hcnt:=ZdK hok;(have hxl:x.acts.length<=200:=by simp only [W7,Xe,U9] at hok;exact hok.1.1.1);have hkind:=Ow hF;have hCS:=Zne c x.acts (Y0 0 c.parts) (fun t ht=>ZkD (hin t ht)) hin oM oM hn1 hkind.1 hkind.2.1;rw [Ox hx] at hsp;refine Zi ?_;refine xM (Ze Lo) ?_;refine yU (Wn PG) fun v88=>?_;refine Zt [(.slice none 0 0),(.int .i64 0)] 2 18 Zb5 fun h18=>?_;refine Zp 18 PG ?_;refine Zw ?_;refine (show We c x.acts=none\/∃ps,We c x.acts=some ps by cases We c x.acts with|none=>exact .inl rfl|some ps=>exact .inr ⟨ps,rfl⟩).elim (fun hO=>?_) (fun hO=>hO.elim fun ps hO=>?_)
           . rw [hO] at hCS hsp;refine Zo ?_;refine xM (Zc 18 Ou) ?_;refine yU (Zh 18 R8) fun v91=>?_;refine xM (Zc 3 Cu) ?_;refine yV (Zh 3 Gv) ?_;refine xM (Zc 3 Ri) ?_;refine yU (Zh 3 De) fun v95=>?_;refine xL 96 (Zs Df) (xL 97 Za ?_);refine Zhv (R:=(· = .tup [.val (.slice none 0 0),Zr false])) 98 202 203 rfl rfl (Xa rfl) rfl rfl rfl (D8 rfl (call66) rfl hCS) ?_;rintro p' rfl;refine ⟨_,_,rfl,rfl,rfl,?_⟩;intro v202 v203 hv202 hv203 _ _;cases hv202;cases hv203;refine Sx ?_;refine KI ?_;refine Ys rfl ?_ (fun h=>by cases h);intro _;refine ZU ?_;refine YO (Zb6 (t:=4) rfl) fun _=>?_;refine Y7 (results20) rfl rfl (Tx (Zb7 hV hF ?_ hsp));unfold Js;rw [Xj];intro x hx;rw [Xj];exact fun s hs=>U' (hP x hx s hs)
           . rw [hO] at hCS hsp;refine Zo ?_;refine xM (Zc 18 Ou) ?_;refine yU (Zh 18 R8) fun v91=>?_;refine xM (Zc 3 Cu) ?_;refine yV (Zh 3 Gv) ?_;refine xM (Zc 3 Ri) ?_;refine yU (Zh 3 De) fun v95=>?_;refine xL 96 (Zs Df) (xL 97 Za ?_);refine Zhv (R:=(· = .tup [Tw ps,Zr true])) 98 202 203 rfl rfl (Xa rfl) rfl rfl rfl (D8 rfl (call66) rfl hCS) ?_;rintro p' rfl;refine ⟨_,_,rfl,rfl,rfl,?_⟩;intro v202 v203 hv202 hv203 _ _;cases hv203;refine Sx ?_;refine KI ?_;refine Ys rfl (fun h=>by cases h) ?_;intro _;refine nav ?_;have hPS:=ζb oM hin hO;have hWP:=Zfh hok hO;(have hpl:ps.length<=1000300:=by have:=hPS.1;omega);(have hk300:l.length<=300:=by simp only [validVars,Xe,U9] at hV;exact hV.1);refine Zo ?_;refine xL 103 Za (xL 104 (Zs Zaq) (xL 105 Za ?_));refine Zw ?_;refine Yq (ι:={y:Nat×List (List Var)//ZkE c S ps x.count k y}) (fun y=>⟨[(0,v0,Z1 l),(3,padd (sbase h3) 0, .val (padd (sbase h3) 0)),(6,h32, .smap (skv (Y0 0 c.parts))),(14,h68, .val h68),(15,h72, .val h72),(83,v0,Z1 l),(84, .int .i64 l.length,Zb l.length),(85, .int .i64 k,Zb k),(18,padd (sbase h18) 0, .val (padd (sbase h18) 0)),(103,v202,Tw ps),(104, .int .i64 ps.length,Zb ps.length),(105, .int .i64 y.1.1,Zb y.1.1)],[(3,h3, .own 42 2 1 [Zb c.kind,LG c.parts]),(18,h18, .own 28 2 1 [ZW x.acts,Zb x.count]),(68,h68, .own 22 1 c.parts.length (y.1.2.map (Lb 28))),(72,h72, .own 78 1 c.parts.length (y.1.2.map oAt))]⟩) (fun y=>ps.length-y.1.1) ⟨(0,R),Zrk ps x.count hRl hWR hRS hSok⟩ ?_;rintro ⟨⟨i,R'⟩,hIP⟩;dsimp only;refine ZD ?_;refine Ys rfl ?_ ?_
             . intro hb29;(have hlti:i<ps.length:=by have:=Qe hb29;omega);obtain ⟨⟨pp,pw⟩,hp⟩:=get_some hlti;have hpm:=Xb hp;have hpw:WOk pw:=hWP _ hpm;have hpr:=hPS.2 _ hpm;dsimp only at hpr;obtain ⟨pn,rfl⟩:∃pn:Nat,pp=(pn:Int):=⟨pp.toNat,oM⟩;obtain ⟨b1,b2,b3,S',b4,b5,b6⟩:=id hIP;dsimp only at b1 b2 b3 b4 b5 b6;obtain ⟨r,hr⟩:∃r,R'[pn]? =some r:=get_some oM;have hput:Zao x.count R' ⟨(pn:Int),pw⟩=R'.set pn (bump r pw x.count):=Zkw hr;have hRok:=b4.ok b5 r (Xb hr);have hD2:=Wr G' ps i _ hp;have hfit2:=W9 G' hp;have hWr:∀y∈r,WOk y.acts:=b3 r (Xb hr);refine Zi ?_;refine xM (Ze Zaq) ?_;refine yU (Wn Ct) fun v108=>?_;refine Zt [(.int .i64 0),(.slice none 0 0)] 2 22 ZgW fun h22=>?_;refine Zp 22 Ct ?_;refine Ym ?_;refine xM (Zc 22 HL) ?_;refine yU (Zh 22 R8) fun v110=>?_;refine P4 111 rfl rfl (Xa rfl) (D8 rfl (call67) rfl (Zrg pw (by have:=hpw.1;omega) (Znj hpw))) ?_;rintro p' rfl;refine ⟨rfl,?_⟩;intro v111 hv111;cases hv111;refine ZP ?_;(have hcA:(R'.map oAt)[pn]? =some (oAt r):=by rw [Xl,hr];rfl);(have hcR:(R'.map (Lb 28))[pn]? =some (Lb 28 r):=by rw [Xl,hr];rfl);refine Zq (TW (l:=72) (l':=600) (j:=pn) rfl hcA rfl rfl) fun v=>?_;obtain ⟨m,hm⟩:=v;dsimp only;refine Zq (TW (l:=68) (l':=601) (j:=pn) rfl hcR rfl rfl) fun v=>?_;obtain ⟨hd,hhd⟩:=v;dsimp only;have hc72:((R'.map oAt).set pn (.val m))[pn]? =some (.val m):=XJ (by rw [Xc];omega);have hc68:((R'.map (Lb 28)).set pn (.val hd))[pn]? =some (.val hd):=XJ (by rw [Xc];omega);refine Zo ?_<;>refine xL 113 Za (xL 114 (Zc 22 GK) ?_)<;>refine yV (Zh 22 Gv) ?_<;>refine xM (Zj 72 PH) ?_<;>(refine Za3 117 rfl rfl (Xa rfl) (Jd 72 pn EJ rfl rfl rfl (by first|rfl|omega) hc72 rfl) ?_;intro v117 hv117;cases hv117)<;>refine xL 118 Za (xL 119 (ZdN 600 EI) (xL 112 Za (xL 120 Y4 (xL 121 Y4 (xL 24 ZJ (xL 25 ZJ ?_))))))<;>refine Ym ?_;refine KI ?_;have hbnd:r.length<=400000000/\∀y∈r,0<=y.count/\y.count<=400000000000000:=by
                refine ⟨by have:=hRok.1;omega,fun y hy=>?_⟩;have:=hRok.2 y hy;exact ⟨this.1,by have:=this.2;omega⟩
               refine Ja (ι:={y:Value×List Var×Nat×Var//Met r pw x.count y.1 y.2.1 y.2.2.1 y.2.2.2}) (fun y=>⟨[(0,v0,Z1 l),(3,padd (sbase h3) 0, .val (padd (sbase h3) 0)),(6,h32, .smap (skv (Y0 0 c.parts))),(14,h68, .val h68),(15,h72, .val h72),(83,v0,Z1 l),(84, .int .i64 l.length,Zb l.length),(85, .int .i64 k,Zb k),(18,padd (sbase h18) 0, .val (padd (sbase h18) 0)),(103,v202,Tw ps),(104, .int .i64 ps.length,Zb ps.length),(105, .int .i64 i,Zb i),(22,padd (sbase h22) 0, .val (padd (sbase h22) 0)),(24, .int .i64 y.1.2.2.1,Zb y.1.2.2.1)],[(3,h3, .own 42 2 1 [Zb c.kind,LG c.parts]),(18,h18, .own 28 2 1 [ZW x.acts,Zb x.count]),(22,h22, .own 114 2 1 [Zb pn,ZW pw]),(68,h68, .own 22 1 c.parts.length ((R'.map (Lb 28)).set pn (.val y.1.1))),(72,h72, .own 78 1 c.parts.length ((R'.map oAt).set pn (.val m))),(600,m,oAt (bump r pw x.count)),(601,y.1.1,Lb 28 y.1.2.1)]⟩) ?_ ?_
               . refine Ys rfl ?_ ?_
                 . intro hb33;have hmg:Ks (PW T1 0 r) (T1 pw)=none:=by
                    rw [<-LH]
                    cases h:Kv (skv (PW T1 0 r)) (.string (T1 pw)) with
                    |none=>rfl
                    |some v=>rw [h] at hb33;cases hb33
                   obtain ⟨hnew,hat⟩:=Zb2 hmg;have hat':=hat x.count;rw [XA] at hat';have hrb:=hbnd.1;have hpwl:=hpw.1;have hfr:=Ya Z0 r;unfold Lb;refine Zi ?_;refine xL 124 Za (xL 125 (Zc 22 GK) ?_)<;>refine yV (Zh 22 Gv) ?_<;>refine xM (Zj 68 Lp) ?_<;>(refine Za3 128 rfl rfl (Xa rfl) (Jd 68 pn Sm rfl rfl rfl (by first|rfl|omega) hc68 rfl) ?_;intro v128 hv128;cases hv128)<;>refine xL 129 (WB 601 Lo) (xL 24 ZJ ?_)<;>refine Ym ?_;refine xL 130 Za (xL 131 (Zc 22 GK) ?_)<;>refine yV (Zh 22 Gv) ?_<;>refine xM (Zj 72 PH) ?_<;>(refine Za3 134 rfl rfl (Xa rfl) (Jd 72 pn EJ rfl rfl rfl (by first|rfl|omega) hc72 rfl) ?_;intro v134 hv134;cases hv134)<;>refine ZO ?_<;>refine Pj 600 EI ?_<;>refine Zw ?_;(refine YJ [15] [22,68] ?_<;>refine xD 0 rfl Za ?_<;>refine xD 1 rfl (Zc 22 GK) ?_<;>(refine yD 2 rfl (Zh 22 Gv) fun v139 h=>?_;cases h)<;>refine xD 3 rfl Za ?_<;>refine xD 4 rfl (Zc 22 GK) ?_<;>(refine yD 5 rfl (Zh 22 Gv) fun v142 h=>?_;cases h)<;>refine xD 6 rfl (Zj 68 Lp) ?_<;>(refine ZdL 7 144 rfl kR rfl rfl (Xa rfl) (Jd 68 pn Sm rfl rfl rfl (by first|rfl|omega) hc68 rfl) ?_;intro v144 hv144;cases hv144)<;>refine xE 8 rfl (Zc 22 HL) ?_<;>(refine yE 9 rfl (Zh 22 R8) fun v146 h=>?_;cases h)<;>(refine aDr 10 fun bk=>?_)<;>(refine P4 147 rfl rfl (Xa rfl) (D8 rfl (call68) rfl (ZpA pw oM)) ?_;rintro p' rfl;refine ⟨rfl,?_⟩;intro v147 hv147;clear hv147)<;>refine bE bk ?_<;>refine xE 11 rfl (ZC Zky) ?_<;>(refine aDr 12 fun bk=>?_)<;>refine WH 149 Zb3 fun h149 ho149=>?_<;>refine bE bk ?_<;>(refine aDr 13 fun bk=>?_)<;>refine Wc 601 149 150 Zb3 fun h150 ho150=>?_<;>refine bE bk ?_<;>refine xE 14 rfl (Zj 68 Lp) ?_<;>(refine ZY 15 kR ?_)<;>(refine Ww rfl rfl kR fun DQ bk=>?_)<;>(refine LJ 68 pn rfl rfl Sm Zkz rfl rfl rfl (by assumption) rfl (by first|rfl|omega) (by rw [Xn,Xc];omega) ?_)<;>refine WA (bk _ (nav ?_))<;>try dsimp only)
                   refine ZK (ZM (l:=150) 601 rfl rfl) fun _=>?_;(have hrow3:r.flatMap Wo++[ZW pw,Zb 0]=(r++[(⟨pw,0⟩:Var)]).flatMap Wo:=by rw [XY];rfl);refine H7 ⟨(h150,r++[⟨pw,0⟩],r.length,⟨pw,0⟩),ho150,sM,rfl,Znl hnew,by show (0:Int)<=0;decide,by show (0:Int)<=400000000000000;decide,by simp;omega⟩ sB ⟨rfl,rfl,rfl,?_,rfl,?_,?_,trivial⟩
                   . show some _=some _;rw [X4]
                   . show some _=some _;unfold oAt;rw [hat',P6]
                   . show some _=some _;rw [<-hrow3];simp;rfl
                 . intro hb33;obtain ⟨v,hmg⟩:∃v,Ks (PW T1 0 r) (T1 pw)=some v:=by
                    rw [<-LH]
                    cases h:Kv (skv (PW T1 0 r)) (.string (T1 pw)) with
                    |none=>rw [h] at hb33;cases hb33
                    |some v=>exact ⟨v,rfl⟩
                   obtain ⟨ix,z,hv,hz,hzw,hset⟩:=Zb1 hpw ZkG hWr hmg;rw [XA] at hv;have hzb:=hbnd.2 z (Xb hz);refine nav ?_;refine H7 ⟨(hd,r,ix,z),hhd,hz,hzw,(hset _).1,hzb.1,hzb.2,hbnd.1⟩ ⟨rfl,rfl,rfl,rfl,rfl,rfl,rfl,rfl,rfl,rfl,rfl,rfl,rfl,?_,trivial⟩ ⟨rfl,rfl,rfl,rfl,rfl,?_,rfl,trivial⟩
                   . show some _=some _;rw [LH,hmg,hv];rfl
                   . show some _=some _;unfold oAt;rw [(hset _).2]
               . rintro ⟨⟨hd',r',ix,z⟩,hM⟩;obtain ⟨m1,m2,m3,m4,m5,m6,m7⟩:=id hM;dsimp only at m1 m2 m3 m4 m5 m6 m7 ⊢;have hc1:((R'.map (Lb 28)).set pn (.val hd'))[pn]? =some (.val hd'):=XJ (by rw [Xc];omega);(have hcz:(r'.flatMap Wo)[ix*2+1]? =some (Zb z.count):=by rw [Yx Z0 m2 (j:=1) dC];rfl);have hixl:=Zd m2;have hfl:=Ya Z0 r';unfold Lb;refine nav ?_;(refine YJ [14] [18,22,68,601] ?_<;>refine xD 0 rfl Za ?_<;>refine xD 1 rfl (Zc 22 GK) ?_<;>(refine yD 2 rfl (Zh 22 Gv) fun v154 h=>?_;cases h)<;>refine xD 3 rfl (Zj 68 Lp) ?_<;>(refine ZdL 4 156 rfl kR rfl rfl (Xa rfl) (Jd 68 pn Sm rfl rfl rfl (by first|rfl|omega) hc1 rfl) ?_;intro v156 hv156;cases hv156)<;>refine xD 5 rfl Za ?_<;>refine xD 6 rfl (Zj 601 Lo) ?_<;>refine xD 7 rfl (Zc 601 Ov) ?_<;>(refine ZdL 8 160 rfl kR rfl rfl (Xa rfl) (Jd 601 (ix*2+1) Gv rfl rfl rfl (by first|rfl|omega) hcz rfl) ?_;intro v160 hv160;cases hv160)<;>refine xE 9 rfl (Zc 18 Ov) ?_<;>(refine yE 10 rfl (Zh 18 Gv) fun v162 h=>?_;cases h)<;>refine xE 11 rfl PN ?_<;>refine xE 12 rfl (Zj 601 Lo) ?_<;>refine xE 13 rfl (Zc 601 Ov) ?_<;>(refine ZY 14 kR ?_)<;>(refine Ww rfl rfl kR fun DQ bk=>?_)<;>(refine LJ 601 (ix*2+1) rfl rfl Gv Znn rfl rfl rfl rfl rfl (by first|rfl|omega) (by rw [hfl];omega) ?_)<;>refine WA (bk _ (nav ?_))<;>try dsimp only)
                 have hset2:(r'.flatMap Wo).set (ix*2+1) (Zb (z.count+x.count))=(bump r pw x.count).flatMap Wo:=by
                  rw [SO Z0 r' ix 1 z ⟨pw,z.count+x.count⟩ _ m2 dC (by simp [Wo,m3]),m4]
                 (have hlen2:r'.length=(bump r pw x.count).length:=by rw [<-m4,Xn]);refine Zq (L9 (l:=68) (l':=601) (j:=pn) rfl hc1 rfl rfl) fun _=>?_;refine Zq (L9 (l:=72) (l':=600) (j:=pn) rfl hc72 rfl rfl) fun _=>?_;refine Gf ?_;have hIP2:ZkE c S ps x.count k (i+1,R'.set pn (bump r pw x.count)):=hput▸ZkF hIP hp hpw oM hcnt.2;have hrows:((R'.map (Lb 28)).set pn (.val hd')).set pn (.own 28 2 r'.length ((r'.flatMap Wo).set (ix*2+1) (Zb (z.count+x.count))))=(R'.set pn (bump r pw x.count)).map (Lb 28):=by
                  rw [X4,hset2,hlen2,Uo];rfl
                 have hats:((R'.map oAt).set pn (.val m)).set pn (oAt (bump r pw x.count))=(R'.set pn (bump r pw x.count)).map oAt:=by
                  rw [X4,Uo]
                 exact Zf ⟨(i+1,R'.set pn (bump r pw x.count)),hIP2⟩ (by show ps.length-(i+1)<ps.length-i;omega) sB ⟨rfl,rfl,congrArg (fun cs=>some (h68,PV.own 22 1 c.parts.length cs)) hrows,congrArg (fun cs=>some (h72,PV.own 78 1 c.parts.length cs)) hats,trivial⟩
             . intro hb29;(have hgei:ps.length<=i:=by have:=Qf hb29;omega);refine ZU ?_;exact Zf ⟨(k+1,R'),Znp hIP hgei hlt hpl hsp⟩ (by show l.length-(k+1)<l.length-k;omega) sB sB
         . intro hb23;(have hge:l.length<=k:=by have:=Qf hb23;omega);(have hall:splitAll c (List.replicate c.parts.length []) l=some S:=by rw [hsp,XN hge];rfl);have hIn:Js c.parts l=true:=by
            unfold Js;rw [Xj];intro x hx;rw [Xj];exact fun s hs=>U' (hP x hx s hs)
           refine Zi ?_;refine xL 168 Za (xL 169 (WB 68 Lp) (xL 170 Za ?_));refine Zw ?_;refine Yq (ι:={j:Nat//j<=c.parts.length/\∀(i:Nat) (r:List Var),i<j->R[i]? =some r->bigVars r=false}) (fun j=>⟨[(14,h68, .val h68),(168,h68, .val h68),(169, .int .i64 c.parts.length,Zb c.parts.length),(170, .int .i64 j.1,Zb j.1)],[(68,h68, .own 22 1 c.parts.length (R.map (Lb 28)))]⟩) (fun j=>c.parts.length-j.1) ⟨0,oM,fun i r hi=>oM⟩ ?_;rintro ⟨j,hj,hbig⟩;dsimp only;refine ZD ?_;refine Ys rfl ?_ ?_
           . intro hb41;(have hltj:j<c.parts.length:=by have:=Qe hb41;omega);obtain ⟨r,hr⟩:∃r,R[j]? =some r:=get_some oM;(have hcR:(R.map (Lb 28))[j]? =some (Lb 28 r):=by rw [Xl,hr];rfl);refine Zq (TW (l:=68) (l':=601) (j:=j) rfl hcR rfl rfl) fun v=>?_;obtain ⟨hd,hhd⟩:=v;dsimp only;have hc68:((R.map (Lb 28)).set j (.val hd))[j]? =some (.val hd):=XJ (by rw [Xc];omega);refine Zi ?_;refine xM (Zj 68 Lp) ?_<;>(refine Za3 173 rfl rfl (Xa rfl) (Jd 68 j Sm rfl rfl rfl (by first|rfl|omega) hc68 rfl) ?_;intro v173 hv173;cases hv173)<;>refine ZN ?_<;>refine Ym ?_;refine ZN ?_;refine P4 175 rfl rfl (Xa rfl) (ZlB rfl (call38) (ps:=[Z1 r, .fn 69 []]) ⟨⟨_,_,rfl,ZkH (l:=601) rfl⟩,⟨_,_,rfl,G2 (x:= .func 69) rfl⟩,trivial⟩ (S9 69 [] (fun x=>decide (1048576<x.count)) r (call69) (fun x _=>Zkt x)) (fun p hp=>by rw [hp];rfl)) ?_;rintro p' rfl;refine ⟨rfl,?_⟩;intro v175 hv175;cases hv175;refine Zw ?_;refine Ys rfl ?_ ?_
             . intro hb43;refine ZU ?_;refine YO (Zb6 (t:=4) rfl) fun _=>?_;refine Y7 (results20) rfl rfl (Tx (Zfn hV hF hIn hall ?_));rw [<-hRS.any bigVars fun _ _ h=>Zfj h];exact C1 hr hb43
             . intro hb43;refine ZU ?_;refine ZK (L9 (l:=68) (l':=601) (j:=j) rfl hc68 rfl rfl) fun _=>?_;have hcs:((R.map (Lb 28)).set j (.val hd)).set j (Lb 28 r)=R.map (Lb 28):=by
                rw [X4];exact Hv hcR
               refine Zf ⟨j+1,oM,fun i r' hi hr'=>?_⟩ (by show c.parts.length-(j+1)<c.parts.length-j;omega) sB ⟨by show some _=some _;rw [hcs],trivial⟩;by_cases e:i=j
               . subst e;rw [hr] at hr';cases hr';exact hb43
               . exact hbig i r' oM hr'
           . intro hb41;(have hgej:c.parts.length<=j:=by have:=Qf hb41;omega);have hB:S.any bigVars=false:=by
              rw [<-hRS.any bigVars fun _ _ h=>Zfj h];exact Zde fun i r hr=>hbig i r (by have:=Zd hr;omega) hr
             refine nav ?_;clear hbig hgej hb41 hj;refine Zo ?_;refine xL 177 Za (xL 178 (WB 68 Lp) (xL 179 Za ?_));refine Zw ?_;refine Yq (ι:={y:Nat×List (List Var)//y.1<=c.parts.length/\y.2.length=R.length/\(∀(i:Nat) (r t:List Var),R[i]? =some r->y.2[i]? =some t->(i<y.1->Asc t/\t.Perm r)/\(y.1<=i->t=r))/\∀(i:Nat) (r:List Var),i<y.1->R[i]? =some r->Kh r=false}) (fun y=>⟨[(14,h68, .val h68),(177,h68, .val h68),(178, .int .i64 c.parts.length,Zb c.parts.length),(179, .int .i64 y.1.1,Zb y.1.1)],[(68,h68, .own 22 1 c.parts.length (y.1.2.map (Lb 28)))]⟩) (fun y=>c.parts.length-y.1.1) ⟨(0,R),sM,rfl,fun i r t hr ht=>⟨fun h=>by simp at h,fun _=>by dsimp only at ht;rw [hr] at ht;cases ht;rfl⟩,fun i r h=>by simp at h⟩ ?_;rintro ⟨⟨j,T⟩,hj,hTl,hT,hmany⟩;dsimp only at hj hTl hT hmany ⊢;refine ZD ?_;refine Ys rfl ?_ ?_
             . intro hb47;(have hltj:j<c.parts.length:=by have:=Qe hb47;omega);obtain ⟨r,hr⟩:∃r,R[j]? =some r:=get_some oM;have hTr:T[j]? =some r:=by
                obtain ⟨t,ht⟩:∃t,T[j]? =some t:=get_some oM;rw [ht,(hT j r t hr ht).2 (Xd _)]
               (have hcR:(T.map (Lb 28))[j]? =some (Lb 28 r):=by rw [Xl,hTr];rfl);refine Zq (TW (l:=68) (l':=601) (j:=j) rfl hcR rfl rfl) fun v=>?_;obtain ⟨hd,hhd⟩:=v;dsimp only;have hc68:((T.map (Lb 28)).set j (.val hd))[j]? =some (.val hd):=XJ (by rw [Xc];omega);have hWr:∀y∈r,WOk y.acts:=hWR r (Xb hr);obtain ⟨sj,hsj⟩:∃s,S[j]? =some s:=get_some (by have:=hRS.1;omega);have hnd:Nodup r:=((hRS.2 j r sj hr hsj).1.nodup).perm (hRS.2 j r sj hr hsj).2.symm;have hnext:∀t',Asc t'->t'.Perm r->∀(i:Nat) (r0 t:List Var),R[i]? =some r0->(T.set j t')[i]? =some t->(i<j+1->Asc t/\t.Perm r0)/\(j+1<=i->t=r0):=fun t' h1 h2 i r0 t hr0 ht=>by
                by_cases e:i=j
                . subst e;rw [XJ oM] at ht;rw [hr] at hr0
                  cases ht;cases hr0;exact ⟨fun _=>⟨h1,h2⟩,fun h=>oM⟩
                . rw [X9 (Ne.symm e)] at ht;have:=hT i r0 t hr0 ht;exact ⟨fun h=>this.1 oM,fun h=>this.2 oM⟩
               have hcs:∀t':List Var,t'.length=r.length->((T.map (Lb 28)).set j (.val hd)).set j (.own 28 2 r.length (t'.flatMap Wo))=(T.set j t').map (Lb 28):=fun t' h=>by
                rw [X4,<-h,Uo];rfl
               unfold Lb;refine Zi ?_;refine xM (Zj 68 Lp) ?_<;>(refine Za3 182 rfl rfl (Xa rfl) (Jd 68 j Sm rfl rfl rfl (by first|rfl|omega) hc68 rfl) ?_;intro v182 hv182;cases hv182)<;>refine ZN ?_<;>refine Ym ?_;refine xL 183 Za (xL 184 (WB 601 Lo) (xL 185 Jw ?_));refine Zw ?_;refine Ys rfl ?_ ?_
               . intro hb49;refine ZU ?_;refine YO (Zb6 (t:=4) rfl) fun _=>?_;refine Y7 (results20) rfl rfl (Tx (Zfo hV hF hIn hall hB ?_));rw [<-hRS.any Kh fun _ _ h=>Zb0 h];exact C1 hr (by unfold Kh;have:=Qe hb49;exact U' oM)
               . intro hb49;(have hle:r.length<=300:=by have:=Qf hb49;omega);have hm1:∀(i:Nat) (r0:List Var),i<j+1->R[i]? =some r0->Kh r0=false:=fun i r0 hi hr0=>by
                  by_cases e:i=j
                  . subst e;rw [hr] at hr0;cases hr0;unfold Kh;exact Qa oM
                  . exact hmany i r0 oM hr0
                 refine (show r=[]\/0<r.length by cases r with|nil=>exact .inl rfl|cons=>exact .inr sM).elim (fun h0=>?_) (fun h0=>?_)
                 . (have hl0:r.length=0:=by rw [h0];rfl);refine Wp ?_;refine Znq (l:=601) Zdd rfl rfl (Xa rfl) rfl (call70) rfl rfl (by rw [hl0];rfl) ?_;refine Zw ?_;refine Zq (L9 (l:=68) (l':=601) (j:=j) rfl hc68 rfl rfl) fun _=>?_;refine Gf ?_;exact Zf ⟨(j+1,T.set j r),by show j+1<=_;omega,by show (T.set j r).length=_;rw [Xn];exact hTl,hnext r (by rw [h0];exact List.Pairwise.nil) (.refl _),hm1⟩ (by show c.parts.length-(j+1)<c.parts.length-j;omega) sB ⟨congrArg (fun cs=>some (h68,PV.own 22 1 c.parts.length cs)) (hcs r rfl),trivial⟩
                 . refine Zi ?_;refine ZN ?_;refine ZcM (l:=601) (f:=Wo) (rows:=r) (cmp:=fun a b:Var=>cmpStrs a.acts b.acts) Zkv Z0 dC (fun _=>rfl) ZpB Zrl Zrm (fun x y M W u v hx hy hu hv=>Zku x y (Ziw (hWr x hx)) (Ziw (hWr y hy)) M W u v hu hv) h0 oM rfl rfl (Xa rfl) rfl (call70) rfl rfl rfl ?_;intro r2 hp2 hs2;refine Zw ?_;refine Zq (L9 (l:=68) (l':=601) (j:=j) rfl hc68 rfl rfl) fun _=>?_;refine Gf ?_;exact Zf ⟨(j+1,T.set j r2),by show j+1<=_;omega,by show (T.set j r2).length=_;rw [Xn];exact hTl,hnext r2 (Zrn hnd hp2 hs2) hp2,hm1⟩ (by show c.parts.length-(j+1)<c.parts.length-j;omega) sB ⟨congrArg (fun cs=>some (h68,PV.own 22 1 c.parts.length cs)) (hcs r2 hp2.length_eq),trivial⟩
             . intro hb47;(have hgej:c.parts.length<=j:=by have:=Qf hb47;omega);have hM:S.any Kh=false:=by
                rw [<-hRS.any Kh fun _ _ h=>Zb0 h];exact Zde fun i r hr=>hmany i r (by have:=Zd hr;omega) hr
               have hTS:T=S:=hRS.sorted hTl fun i r t hr ht=>(hT i r t hr ht).1 (by have:=Zd hr;omega);refine Y2 ?_;refine YO (En.freeze (l:=68) (t:=4) rfl rfl) fun _=>?_;refine Y7 (results20) rfl rfl ?_;rw [Zfp hV hF hIn hall hB hM,ZgY _ _ _ _ oM,hTS];rfl
 . (refine Zo ?_<;>refine yU (Zn 3 Zap) fun v31=>?_<;>(refine Zhv (R:=fun p=>∃q,p= .tup [q,Zr false]/\L6 q=true) 32 32 201 rfl rfl (Xa rfl) rfl rfl rfl (D8 rfl (call64) rfl ((Ze1 c hs).mono fun p ⟨q,e1,_,e3⟩=>⟨q,by rw [e1,hF],by rcases e3 with rfl|⟨es,rfl⟩<;>rfl⟩)) ?_;rintro p' ⟨q,rfl,hq⟩;refine ⟨_,_,rfl,hq,rfl,?_⟩;intro h32 v201 _ hv201 ho32 _;cases hv201)<;>refine ζg ?_<;>refine Ym ?_)
   refine Y1 ?_;refine kL ?_;refine kL ?_;refine kL ?_;refine ZP ?_;refine Ys rfl ?_ (fun h=>by cases h);intro _;refine ZU ?_;refine YO (Zb6 (t:=4) rfl) fun _=>?_;refine Y7 (results20) rfl rfl (Tx (Zfl ?_));rw [hF];simp
open Go.RowKit Go.Cb Go.En Go.ChangeShapes Go.WideShapes Go.ChangeAt
def Zix (g:Dfg) (c:Cut):Bool:=JE g&&YZ c&&Zq9 (cnames g.acts) g.acts.length (W0 (cnames g.acts) g.follows) (Y5 (cnames g.acts) g.starts) (Y5 (cnames g.acts) g.ends) c
theorem Zsi:Dec prog 9 1 (fun s:BA=>[Zv s]) (fun s=>s.size<=140737488355328):=Zpg underlying9 kR
theorem ZrY:Dec prog 26 1 (fun l=>[ZW l]) ZcJ:=
 Zc0 id (ZbJ underlying26 kR dC (Xa kR) Zsi) (fun _=>rfl) (fun l=>by show [PV.sl l.length (l.map Zv)]=_;rw [Zeb]) (fun _ h=>h)
theorem Zsj:Dec prog 3 1 (fun n:Int=>[Zb n]) (fun n=> -9223372036854775808<=n/\n<=9223372036854775807):=Zpf underlying3 kR
section
variable {κ:Type} [DecidableEq κ]
def iget:List (κ×Int)->κ->Int
 |[],_=>0
 |x::l,k=>if k=x.1 then x.2 else iget l k
def TT:List (κ×Int)->κ->Int->List (κ×Int)
 |[],k,v=>[(k,v)]
 |x::l,k,v=>if k=x.1 then (k,v)::l else x::TT l k v
def GR (m:List (κ×Int)) (k:κ) (n:Int):List (κ×Int):=TT m k (iget m k+n)
def KO (m:List (κ×Int)):List (κ×Value):=m.map fun x=>(x.1, .int .i64 x.2)
theorem Zas (m:List (κ×Int)) (k:κ):(Ks (KO m) k).getD (.int .i64 0)= .int .i64 (iget m k):=by
 induction m with
 |nil=>rfl
 | cons x m ih=>
   show (Ks ((x.1,Value.int .i64 x.2)::KO m) k).getD _=_;rw [Ks,iget];split
   . rfl
   . exact ih
theorem Zat (m:List (κ×Int)) (k:κ) (v:Int):K8 (KO m) k (.int .i64 v)=KO (TT m k v):=by
 induction m with
 |nil=>rfl
 | cons x m ih=>
   show K8 ((x.1,Value.int .i64 x.2)::KO m) k _=_;rw [K8,TT];split
   . rfl
   . rw [ih];rfl
theorem Zb8 {m:List (κ×Int)} {k:κ} {v:Int}:∀x,x∈(TT m k v).map (·.1)↔x=k\/x∈m.map (·.1):=by
 induction m with
 |nil=>intro x;simp [TT]
 | cons y m ih=>
   intro x;rw [TT];split
   . rename_i e;subst e;simp
   . rw [Xm,Xh,ih,Xm,Xh];constructor
     . rintro (h|h|h)
       . exact .inr (.inl h)
       . exact .inl h
       . exact .inr (.inr h)
     . rintro (h|h|h)
       . exact .inr (.inl h)
       . exact .inl h
       . exact .inr (.inr h)
theorem ZgZ {m:List (κ×Int)} {k:κ} {v:Int} (hn:(m.map (·.1)).Nodup):((TT m k v).map (·.1)).Nodup:=by
 induction m with
 |nil=>simp [TT]
 | cons y m ih=>
   rw [TT];rw [Xm,Vg] at hn;split
   . rename_i e;rw [Xm,Vg];dsimp only;rw [e];exact hn
   . rename_i e;rw [Xm,Vg];refine ⟨fun h=>?_,ih hn.2⟩;rcases (Zb8 _).1 h with h|h
     . exact e h.symm
     . exact hn.1 h
theorem Znr (m:List (κ×Int)) (k:κ) (v:Int):(TT m k v).length<=m.length+1:=by
 induction m with
 |nil=>simp [TT]
 |cons y m ih=>rw [TT];split<;>simp<;>omega
end
def mkC (x:BA×Int):Cnt:=⟨x.1,x.2⟩
def mkF (x:Pr×Int):Flw:=⟨x.1.1,x.1.2,x.2⟩
def Zro:Value×Value->Cnt
 |(.string s, .int _ n)=>⟨s,n⟩
 |_=>⟨ByteArray.empty,0⟩
theorem ZpC (m:List (BA×Int)):(skv (KO m)).map Zro=m.map mkC:=by
 unfold skv KO
 rw [Xz,Xz]
 rfl
theorem ZpD {m:List (BA×Int)} {x:Value×Value} (h:x∈skv (KO m)):∃s n,(s,n)∈m/\x.1= .string s/\x.2= .int .i64 n:=by
 unfold skv KO at h
 rw [Xz] at h
 obtain ⟨y,hy,rfl⟩:=Xp.1 h
 exact ⟨y.1,y.2,hy,rfl,rfl⟩
def Zrp:Value×Value->Flw
 |(.agg ⟨[.string a, .string b]⟩, .int _ n)=>⟨a,b,n⟩
 |_=>⟨ByteArray.empty,ByteArray.empty,0⟩
theorem ZpE (m:List (Pr×Int)):(akv (KO m)).map Zrp=m.map mkF:=by
 unfold akv KO
 rw [Xz,Xz]
 rfl
theorem ZpF {m:List (Pr×Int)} {x:Value×Value} (h:x∈akv (KO m)):∃k n,(k,n)∈m/\x.1=LW k/\x.2= .int .i64 n:=by
 unfold akv KO at h
 rw [Xz] at h
 obtain ⟨y,hy,rfl⟩:=Xp.1 h
 exact ⟨y.1,y.2,hy,rfl,rfl⟩
def SameC (L:List Cnt) (m:List (BA×Int)):Prop:=L.Perm (m.map mkC)/\L.Pairwise fun a b=>strLt a.name b.name=true
def SameF (L:List Flw) (m:List (Pr×Int)):Prop:=L.Perm (m.map mkF)/\L.Pairwise fun a b=>K6 a b<0
theorem Zfr {L rows:List Cnt} {m:List (BA×Int)} (hn:(m.map (·.1)).Nodup) (hp:L.Perm (m.map mkC)) (hr:rows.Perm L) (ho:∀(i j:Nat) (a b:Cnt),i<j->rows[i]? =some a->rows[j]? =some b->¬Yd b.name a.name<0):SameC rows m:=by
 refine ⟨hr.trans hp,?_⟩
 have h1:(rows.map (·.name)).Nodup:=by
  have h2:=((hr.trans hp).map (·.name));rw [Xz] at h2;exact (h2.pairwise_iff (R:=(· ≠ ·)) fun h=>Ne.symm h).2 hn
 rw [List.nodup_iff_pairwise_ne,X7] at h1
 rw [XV] at h1 ⊢
 intro i j hi hj hij
 have h3:=h1 i j hi hj hij
 have h4:=ho i j _ _ hij (Xq hi) (Xq hj)
 rw [Tc] at h4
 cases h5:strLt rows[i].name rows[j].name with
 |true=>rfl
 |false=>exact Qd (Gg h5 (by simpa using h4)) h3
theorem Cv {a b:Flw}:K6 a b=0↔a.src=b.src/\a.dst=b.dst:=by
 unfold K6
 by_cases h:Yd a.src b.src=0
 . rw [Qc h,KV];exact ⟨fun h2=>⟨KV.1 h,h2⟩,fun h2=>h2.2⟩
 . rw [Qb h];exact ⟨fun h2=>Qd h2 h,fun h2=>Qd (KV.2 h2.1) h⟩
theorem Lc {a b:Flw}:K6 a b<0↔strLt a.src b.src=true\/(a.src=b.src/\strLt a.dst b.dst=true):=by
 unfold K6
 by_cases h:Yd a.src b.src=0
 . rw [Qc h,Tc];have h1:=KV.1 h;constructor
   . exact fun h2=> .inr ⟨h1,h2⟩
   . rintro (h2|h2)
     . rw [h1,W1] at h2;exact Qd h2 dC
     . exact h2.2
 . rw [Qb h,Tc];constructor
   . exact fun h2=> .inl h2
   . rintro (h2|h2)
     . exact h2
     . exact Qd (KV.2 h2.1) h
theorem Sc {a b:Flw} (h:¬K6 b a<0) (hne:¬(a.src=b.src/\a.dst=b.dst)):K6 a b<0:=by
 rw [Lc] at h ⊢
 cases h1:strLt a.src b.src with
 |true=>exact .inl rfl
 | false=>
   have h2:strLt b.src a.src=false:=by
    cases h3:strLt b.src a.src with
    |false=>rfl
    |true=>exact Qd (.inl h3) h
   have h4:=Gg h1 h2;refine .inr ⟨h4,?_⟩
   cases h5:strLt a.dst b.dst with
   |true=>rfl
   | false=>
     have h6:strLt b.dst a.dst=false:=by
      cases h7:strLt b.dst a.dst with
      |false=>rfl
      |true=>exact Qd (.inr ⟨h4.symm,h7⟩) h
     exact Qd ⟨h4,Gg h5 h6⟩ hne
theorem LS {a b c:Flw} (h:K6 a b<0) (k:K6 b c<0):K6 a c<0:=by
 rw [Lc] at h k ⊢
 rcases h with h|⟨h1,h2⟩
 . rcases k with k|⟨k1,k2⟩
   . exact .inl (KB h k)
   . exact .inl (k1▸h)
 . rcases k with k|⟨k1,k2⟩
   . exact .inl (h1▸k)
   . exact .inr ⟨h1.trans k1,KB h2 k2⟩
theorem Ty (a:Flw):¬K6 a a<0:=by rw [Cv.2 ⟨rfl,rfl⟩];decide
theorem ZkI {a b c:Flw} (h:¬K6 a b<0) (k:¬K6 b c<0):¬K6 a c<0:=fun hc=>by
 by_cases e1:b.src=a.src/\b.dst=a.dst
 . refine k ?_;rw [Lc] at hc ⊢;rw [e1.1,e1.2];exact hc
 . by_cases e2:c.src=b.src/\c.dst=b.dst
   . refine h ?_;rw [Lc] at hc ⊢;rw [<-e2.1,<-e2.2];exact hc
   . have h1:=Sc h e1;have h2:=Sc k e2;exact Ty _ (LS hc (LS h2 h1))
theorem Zfs {L rows:List Flw} {m:List (Pr×Int)} (hn:(m.map (·.1)).Nodup) (hp:L.Perm (m.map mkF)) (hr:rows.Perm L) (ho:∀(i j:Nat) (a b:Flw),i<j->rows[i]? =some a->rows[j]? =some b->¬K6 b a<0):SameF rows m:=by
 refine ⟨hr.trans hp,?_⟩
 have h1:(rows.map fun f=>((f.src,f.dst):Pr)).Nodup:=by
  have h2:=((hr.trans hp).map fun f=>((f.src,f.dst):Pr));rw [Xz] at h2;exact (h2.pairwise_iff (R:=(· ≠ ·)) fun h=>Ne.symm h).2 hn
 rw [List.nodup_iff_pairwise_ne,X7] at h1
 rw [XV] at h1 ⊢
 intro i j hi hj hij
 have h3:=h1 i j hi hj hij
 have h4:=ho i j _ _ hij (Xq hi) (Xq hj)
 exact Sc h4 fun e=>h3 (Prod.ext e.1 e.2)
theorem ZkJ {a b c:BA} (h:Yd a b<0) (k:Yd b c<0):Yd a c<0:=by
 rw [Tc] at h k ⊢;exact KB h k
theorem Zg0 (a:BA):¬Yd a a<0:=by rw [KV.2 rfl];decide
theorem ZkK {a b c:BA} (h:¬Yd a b<0) (k:¬Yd b c<0):¬Yd a c<0:=fun hc=>by
 rw [Tc] at h k hc
 by_cases e:strLt b a=true
 . exact k (KB e hc)
 . have h1:a=b:=Gg (by simpa using h) (by simpa using e);rw [h1] at hc;exact k hc
end Go.Proofs.YtmkojdfiadbeeaaGreat
namespace Go.En
open Go.RowKit Go.Cb
theorem AFg.exact2 {P:Program} {g:Nat} {p q:PV} {x:Value} (h:AFg P g [p,q] (· = .val x)) {M:BS} {W:World} {u v:Value} (hu:Shr M W u p) (hv:Shr M W v q):
 Calls P g #[u,v] W fun e w'=>e= .returned x/\∃q os',w'=Go.Sort.grow (W.drewN q) os':=h.exact (vs:=[u,v]) rfl fun i a r h1 h2=>by
 match i with
 |0=>simp at h1 h2;subst h1 h2;exact hu
 |1=>simp at h1 h2;subst h1 h2;exact hv
 |i+2=>simp at h1
end Go.En
namespace Go.Proofs.YtmkojdfiadbeeaaGreat
open Go.RowKit Go.Cb Go.En Tryz
theorem J6:ElT prog 31 169 2 24 (.agg #[(.string ByteArray.empty),(.int .i64 0)]):=⟨underlying31,by kernel_rfl,rfl,dC⟩
theorem DR:Ge prog 169=some ((.agg #[(.string ByteArray.empty),(.int .i64 0)]),([0,1]:List Nat).map fun o=>(o,1)):=kR
theorem Zau (s:BA):AFg prog 198 [Zv s] (· =Zr false):=by
 refine AFg.of_body 6 func198 rfl ntmps198 (Xa rfl) ?_
 intro w0 M0 vs hl hv
 obtain ⟨v0,rfl⟩:=ZlG hl
 obtain rfl:=hv 0 _ _ rfl rfl
 clear hl hv
 refine YG ?_;refine LZ ?_;refine Zw ?_
 refine Zg (results198) rfl ?_
 simp
theorem Oz (a b:BA):AFg prog 137 [Zv a,Zv b] (· =Zb (Yd a b)):=by
 refine AFg.of_body 20 func137 rfl ntmps137 (Xa rfl) ?_
 intro w0 M0 vs hl hv
 obtain ⟨v0,v1,rfl⟩:=ζd hl
 obtain rfl:=hv 0 _ _ rfl rfl
 obtain rfl:=hv 1 _ _ rfl rfl
 clear hl hv
 refine YG ?_;refine ZN ?_;refine cV (cA call198 (Zau a)) ?_;refine Jy ?_;refine cV (cA call198 (Zau b)) ?_;refine KA ?_
 refine cCf ?_
 refine ZD ?_
 refine cCf ?_
 refine WJ ?_;refine ZE ?_ ?_<;>intro hb16
 . (
 refine ZD ?_;refine Zg (results137) rfl ?_;rw [Eb hb16])
 . (
 refine Zi ?_;refine xL 17 Za (xL 18 Za (xL 19 Zf9 ?_));refine ZE ?_ ?_<;>intro hb19
 . (
 refine ZD ?_;refine Zg (results137) rfl ?_;rw [Ec hb19])
 . (
 refine ZD ?_;refine Zg (results137) rfl ?_;rw [Ed hb16 hb19]))
theorem ZpG (l:List Int):AFg prog 141 [pInts l] (· =Zb (KT l)):=by
 refine AFg.of_body 18 func141 rfl ntmps141 (Xa rfl) ?_
 intro w0 M0 vs hl hv
 obtain ⟨v0,rfl⟩:=ZlG hl
 clear hl hv
 refine Ki 0 rfl fun hlen=>?_
 refine YG ?_;refine ZX ?_
 refine xL 6 Za (xL 7 (Zs ZS) (xL 8 Za ?_));refine Zw ?_
 refine Y9 (ι:={k:Nat//k<=l.length/\KT l=KT (l.drop k)}) (fun k=>⟨[(3,_,_),(6,_,_),(7,_,_),(8, .int .i64 k.1,Zb k.1)],[]⟩) (fun k=>l.length-k.1) ⟨0,oM,rfl⟩ (fun a w H=>H.weaken sB trivial) ?_
 rintro ⟨k,hk,hp⟩
 dsimp only
 refine Yy ?_ ?_<;>intro hb9
 . (
 obtain ⟨x,hx⟩:=gS l k;have e1:=Yh (f:=Zb) hx;(have hs:KT (l.drop k)=if x=0 then KT (l.drop (k+1)) else x:=by rw [WL hx,KT]);refine Zi ?_;refine xM (Ze ZS) ?_;refine yV (Zu ZH) ?_;refine ZX ?_;refine Y1 ?_;refine ZE ?_ ?_<;>intro hb14
 . (
 refine ZU ?_;refine Zg (results141) rfl ?_;rw [hp,hs,Qb hb14])
 . (
 refine ZU ?_;refine Zf (
  ⟨k+1,oM,by rw [hp,hs,Qc (by simpa using hb14)]⟩
  ) (by dsimp only;omega) sB trivial))
 . (
 refine ZU ?_;refine Zg (results141) rfl ?_;rw [hp,XN oM];rfl)
theorem Zg1 (a b:Flw):AFg prog 102 [.agg (Lw a), .agg (Lw b)] (· =Zb (K6 a b)):=by
 refine AFg.of_body 17 func102 rfl ntmps102 (Xa rfl) ?_
 intro w0 M0 vs hl hv
 obtain ⟨v0,v1,rfl⟩:=ζd hl
 clear hl hv
 refine Zi ?_
 refine Yi 2 3 fun h2=>?_;refine Yi 3 3 fun h3=>?_;refine ZP ?_
 refine YJ [] [2,3] ?_<;>refine xD 0 rfl (Zc 2 Kw) ?_<;>(refine yD 1 rfl (Zh 2 ZB) fun v6 h=>?_;cases h)<;>refine xD 2 rfl (Zc 3 Kw) ?_<;>(refine yD 3 rfl (Zh 3 ZB) fun v8 h=>?_;cases h)<;>refine xD 5 rfl (Zc 2 KS) ?_<;>(refine yD 6 rfl (Zh 2 ZB) fun v11 h=>?_;cases h)<;>refine xD 7 rfl (Zc 3 KS) ?_<;>(refine yD 8 rfl (Zh 3 ZB) fun v13 h=>?_;cases h)<;>(refine aDr 4 fun bk=>?_)<;>(refine cV (cA call137 (Oz a.src b.src)) ?_)<;>refine bE bk ?_<;>(refine aDr 9 fun bk=>?_)<;>(refine cV (cA call137 (Oz a.dst b.dst)) ?_)<;>refine bE bk ?_<;>(refine aDr 10 fun bk=>?_)<;>refine Pi (xs:=[_,_]) 15 YW fun h15 ho15=>?_<;>refine bE bk ?_<;>(refine aDr 11 fun bk=>?_)<;>(refine Zz (En.freeze (l:=15) (t:=15) rfl rfl) fun _=>?_;refine cV (cA call141 (ZpG [Yd a.src b.src,Yd a.dst b.dst])) ?_)<;>refine bE bk ?_<;>refine xE 12 rfl ZJ ?_<;>refine WE ?_
 refine Zg (results102) rfl ?_
 unfold K6 KT KT KT
 by_cases h:Yd a.src b.src=0
 . rw [Qc h,Qc h];split<;>simp_all
 . rw [Qb h,Qb h]
theorem Zns (a b:Cnt):AFg prog 139 [.agg (G7 a), .agg (G7 b)] (· =Zb (Yd a.name b.name)):=by
 refine AFg.of_body 10 func139 rfl ntmps139 (Xa rfl) ?_
 intro w0 M0 vs hl hv
 obtain ⟨v0,v1,rfl⟩:=ζd hl
 clear hl hv
 refine Zi ?_
 refine Yi 2 2 fun h2=>?_;refine Yi 3 2 fun h3=>?_;refine ZX ?_
 refine xM (Zc 2 WM) ?_;refine yV (Zh 2 ZB) ?_;refine xM (Zc 3 WM) ?_;refine yV (Zh 3 ZB) ?_;refine cV (cA call137 (Oz a.name b.name)) ?_;refine ZP ?_
 exact Zg results139 rfl rfl
theorem Ziy:AggT prog 169 2=true:=kR
theorem ZkL:ZhI prog 138 139 2:=fun enc hk h1 cf hO blk cap d w hcmp hH hblk hsz=>
 AnyQ.slices_SortFunc Tryz.sortCntL 2 (fun w=>AggT.run Ziy w) (fun w=>AggT.size Ziy w) enc hk h1 cf hO 139 #[] blk 0 cap d w (call139) hcmp hH hblk hsz
theorem Zg2 (caps:List PV):AF prog 138 [.sl 0 [], .fn 139 caps] (· = .val (.tuple #[])):=fun M w vs hM hlen hv=>by
 obtain ⟨v,fv,rfl⟩:=ζd hlen
 have hS:=hv 0 v _ rfl rfl
 cases hS with
 | emp a c hc ha=>
   refine (AnyF.slices_SortFunc_none Tryz.sortCntL a c fv w).mono fun e w' ⟨h1,h2⟩=>?_;rw [h1,h2];exact ⟨_,_,fun _=>False,rfl,rfl,Ext.rfl' _, .shr (.val _) (fun _ h=>h),fun b hb=>hb.elim,fun h=>h.elim⟩
 | sl b off n c cs vs' hnc hc hcell hT=>
   refine (AnyF.slices_SortFunc_none Tryz.sortCntL _ c fv w).mono fun e w' ⟨h1,h2⟩=>?_;rw [h1,h2];exact ⟨_,_,fun _=>False,rfl,rfl,Ext.rfl' _, .shr (.val _) (fun _ h=>h),fun b hb=>hb.elim,fun h=>h.elim⟩
theorem Ziz {es:Array MapEntry} {seen:Array Nat} {e:MapEntry} {clock:Nat} (hW:WfM es clock) (he:e∈(leftOf es seen).toList):(leftOf es (seen.push e.born)).size<(leftOf es seen).size:=by
 have h:=(Eo hW he).length_eq
 rw [Xi,Ha,Ha] at h
 omega
theorem ZiA {es:Array MapEntry} {seen:Array Nat} {e:MapEntry} (he:e∈(leftOf es seen).toList):(e.key,e.val)∈kvOf es:=Xp.2 ⟨e,ζJ he,rfl⟩
theorem Zft {α:Type} {f:α->List PV} {L:List α} {c:α} {ps:List PV} (h:ps=f c):L.flatMap f++ps=(L++[c]).flatMap f:=by
 rw [XY,h];simp
theorem Sd (m:List (BA×Int)) (hn:(m.map (·.1)).Nodup) (hl:m.length<=1000000):AF prog 100 [.smap (skv (KO m))] (fun p=>∃L,SameC L m/\p= .own 169 2 L.length (L.flatMap G7)):=by
 refine AF.b1 22 func100 rfl ntmps100 (Xa rfl) fun w0 M0 v0 _=>?_
 refine YG ?_;refine Jy ?_;refine Zed 7 underlying78 (fun b7 r7 c7 es7 hkv7 hWf7=>?_);refine Zw ?_
 refine Zq (YS 200 169 2 rfl) fun _=>?_
 refine Yq (ι:={x:Value×Array Nat×List Cnt//x.1.oneCell'=true/\(x.2.2=[]->x.1= .slice none 0 0)/\(x.2.2++(kvOf (leftOf es7 x.2.1)).map Zro).Perm (m.map mkC)}) (fun k=>⟨[(7,_,_),(3,k.1.1, .val k.1.1)],[(7,itv r7,itP b7 r7 c7 es7 k.1.2.1),(200,k.1.1, .own 169 2 k.1.2.2.length (k.1.2.2.flatMap G7))]⟩) (fun k=>(leftOf es7 k.1.2.1).size) ⟨(.slice none 0 0,#[],[]),rfl,fun _=>rfl,by rw [Zee,<-hkv7,ZpC];exact .refl _⟩ ?_
 rintro ⟨⟨hov,seen,L⟩,ho,hnil,hp⟩
 dsimp only
 dsimp only at ho hnil hp
 have hLl:L.length<=1000000:=by
  have:=hp.length_eq;rw [Xf,Xc (f:=mkC)] at this;omega
 have hLm:(L.flatMap G7).length=L.length*2:=Ya YL L
 refine Zi ?_
 (refine ZhL 7 8 hWf7 (fun hlf7=>?_) (fun e7 hle7=>?_)<;>refine ZN ?_<;>refine Zw ?_)<;>(
 refine cX ?_ ?_<;>intro hb9
 . first|exact bN hb9|(
 refine Zi ?_;refine xM (ZhM 7 hWf7 (ζJ hle7)) ?_;refine LZ ?_;refine Zw ?_;obtain ⟨s,n,hmem,hks,hvs⟩:=ZpD (hkv7▸ZiA hle7);dsimp only at hks hvs;rw [hks,hvs];refine Zo ?_;refine xL 13 Za (xL 14 Za (xL 15 Za (xL 16 (ZC DR) ?_)));refine WH 17 J6 fun h17 ho17=>?_;refine Wc 200 17 18 J6 fun h18 ho18=>?_;refine ZP ?_;refine ZK (ZM (l:=18) 200 rfl rfl) fun _=>?_;rw [Zft (f:=G7) (L:=L) (c:=(⟨s,n⟩:Cnt)) (by rfl),show L.length+1=(L++[(⟨s,n⟩:Cnt)]).length by simp];refine Zf (
  ⟨(h18,seen.push e7.born,L++[⟨s,n⟩]),ho18,fun h=>Qd h sM,by
    refine .trans ?_ hp;have h1:=(Eo hWf7 hle7).map Zro;rw [Xm,hks,hvs] at h1;show (L++[_]++_).Perm _;rw [XH];exact h1.symm.append_left L⟩
  ) (Ziz hWf7 hle7) sB sB)
 . first |exact bN hb9|(
 refine nav ?_;have hp0:L.Perm (m.map mkC):=by
  rw [hlf7] at hp;have h1:kvOf (#[]:Array MapEntry)=[]:=rfl;rw [h1,Vw,Xo] at hp;exact hp
 (refine Zo ?_<;>refine ZN ?_<;>(by_cases hL:L=[]<;>first|(subst hL;obtain rfl:=hnil rfl;refine Zz (En.freeze (l:=200) (t:=19) rfl rfl) fun _=>?_;refine cV (cA call138 (Zg2 [])) ?_)|(refine ZcM (l:=200) (β:=Cnt) (f:=G7) (cmp:=fun a b=>Yd a.name b.name) (rows:=L) ZkL (fun _=>rfl) dC (fun _=>rfl) (fun a=>Zg0 _) (fun a b c=>ZkJ) (fun a b c=>ZkK) (fun x y M W u v _ _ hu hv=>(Zns x y).exact2 hu hv) (X5.2 hL) oM rfl rfl (Xa rfl) rfl (call138) rfl rfl rfl (fun rows' hperm hord=>?_)))<;>refine Zw ?_)<;>(
 refine Gf ?_
 first
  |exact Ga 200 (results100) rfl rfl ⟨rows',Zfr hn hp0 hperm hord,by rw [hperm.length_eq]⟩
  | (refine YO (YS 201 169 2 rfl) fun _=>?_
     exact Ga 201 (results100) rfl rfl ⟨[],Zfr hn hp0 (.refl _) (fun i j a b _ h=>by simp at h),rfl⟩))))
structure M4 where
 a:List (BA×Int)
 s:List (BA×Int)
 f:List (BA×Int)
 q:List (Pr×Int)
def Wz:List BA->List Pr
 |a::b::l=>(a,b)::Wz (b::l)
 |_=>[]
section
variable {κ:Type} [DecidableEq κ]
def addAll (m:List (κ×Int)) (ks:List κ) (c:Int):List (κ×Int):=ks.foldl (fun m k=>GR m k c) m
theorem Cw (m:List (κ×Int)) (ks:List κ) (k:κ) (c:Int):addAll m (ks++[k]) c=GR (addAll m ks c) k c:=by
 unfold addAll;rw [Uq];rfl
structure MOk (m:List (κ×Int)) (b:Nat):Prop where
 nd:(m.map (·.1)).Nodup
 len:m.length<=b
 bd:∀x∈m,0<=x.2/\x.2<=b*1048576
theorem MOk.nil:MOk ([]:List (κ×Int)) 0:=⟨List.nodup_nil,Xd _,fun x h=>by simp at h⟩
theorem MOk.mono {m:List (κ×Int)} {b b':Nat} (h:MOk m b) (hb:b<=b'):MOk m b':=⟨h.nd,XK h.len hb,fun x hx=>by
 have:=h.bd x hx
 have h2:(b:Int)*1048576<=b'*1048576:=oM
 omega⟩
theorem MOk.get {m:List (κ×Int)} {b:Nat} (h:MOk m b) (k:κ):0<=iget m k/\iget m k<=b*1048576:=by
 have key:∀(m:List (κ×Int)),(∀x∈m,0<=x.2/\x.2<=(b:Int)*1048576)->0<=iget m k/\iget m k<=b*1048576:=fun m=>by
  induction m with
  |nil=>intro _;rw [iget];omega
  | cons x m ih=>
    intro h;rw [iget];split
    . exact h x sM
    . exact ih fun y hy=>h y (by simp [hy])
 exact key m h.bd
theorem Zav {m:List (κ×Int)} {k:κ} {v:Int} {x:κ×Int} (h:x∈TT m k v):x=(k,v)\/x∈m:=by
 induction m with
 |nil=>rw [TT,XC] at h;exact .inl h
 | cons y m ih=>
   rw [TT] at h;split at h
   . rcases Xh.1 h with h|h
     . exact .inl h
     . exact .inr (by simp [h])
   . rcases Xh.1 h with h|h
     . exact .inr (by simp [h])
     . rcases ih h with h|h
       . exact .inl h
       . exact .inr (by simp [h])
theorem MOk.add {m:List (κ×Int)} {b:Nat} (h:MOk m b) {k:κ} {n:Int} (h0:0<=n) (h1:n<=1048576):MOk (GR m k n) (b+1):=by
 refine ⟨ZgZ h.nd,XK (Znr _ _ _) (Nat.succ_le_succ h.len),fun x hx=>?_⟩
 rcases Zav hx with rfl|hx
 . have:=h.get k;dsimp only;omega
 . have:=h.bd x hx;omega
theorem MOk.addAll {n:Int} (h0:0<=n) (h1:n<=1048576):∀{ks:List κ} {b:Nat} {m:List (κ×Int)},MOk m b->MOk (addAll m ks n) (b+ks.length)
 |[],b,m,h=>h
 | k::ks,b,m,h=>by
   have:=MOk.addAll h0 h1 (ks:=ks) (h.add (k:=k) h0 h1);rw [Xi,show b+(ks.length+1)=b+1+ks.length by omega];exact this
theorem ZkM {m:List (κ×Int)} {k:κ} {n:Int} {p:κ->Prop} (h:∀x∈m,p x.1) (hk:p k):∀x∈GR m k n,p x.1:=fun x hx=>by
 rcases Zav hx with rfl|hx
 . exact hk
 . exact h x hx
theorem OA {c:Int} {p:κ->Prop}:∀{ks:List κ} {m:List (κ×Int)},(∀x∈m,p x.1)->(∀k∈ks,p k)->∀x∈addAll m ks c,p x.1
 |[],m,h,_=>h
 |k::ks,m,h,hk=>OA (ks:=ks) (ZkM h (hk k sM)) fun y hy=>hk y (by simp [hy])
end
def mk1 (st:M4) (x:Var):M4:=⟨addAll st.a x.acts x.count,(match x.acts with|[]=>st.s|s::_=>GR st.s s x.count),(match x.acts.getLast? with|some s=>GR st.f s x.count|none=>st.f),addAll st.q (Wz x.acts) x.count⟩
def makeM (l:List Var):M4:=l.foldl mk1 ⟨[],[],[],[]⟩
theorem DT {l:List Var} {k:Nat} {x:Var} (h:l[k]? =some x):makeM (l.take (k+1))=mk1 (makeM (l.take k)) x:=by
 unfold makeM;rw [Z2 h,Uq];rfl
theorem EK:∀l:List BA,(Wz l).length<=l.length
 |[]=>Xd _
 |[a]=>Xg _
 |a::b::l=>by rw [Wz,Xi,Xi];have:=EK (b::l);omega
theorem Dg:∀{l:List BA} {p:Pr},p∈Wz l->p.1∈l/\p.2∈l
 |[],p,h=>by simp [Wz] at h
 |[a],p,h=>by simp [Wz] at h
 | a ::b::l,p,h=>by
   rw [Wz] at h;rcases Xh.1 h with rfl|h
   . exact ⟨sM,sM⟩
   . have:=Dg h;exact ⟨Xs _ this.1,Xs _ this.2⟩
theorem Zaw:∀(l:List BA) (a b:BA),Wz (l++[a]++[b])=Wz (l++[a])++[(a,b)]
 |[],a,b=>rfl
 |[x],a,b=>rfl
 | x::y::l,a,b=>by
   show (x,y)::Wz (y::l++[a]++[b])=(x,y)::Wz (y::l++[a])++[(a,b)];rw [Zaw (y::l) a b];rfl
theorem Zg3 {w:List BA} {j:Nat} {a b:BA} (ha:w[j]? =some a) (hb:w[j+1]? =some b):Wz (w.take (j+1+1))=Wz (w.take (j+1))++[(a,b)]:=by
 rw [Z2 hb,Z2 ha];exact Zaw _ _ _
theorem ZkN {w:List BA} {b:BA} (hb:w[0]? =some b):Wz (w.take (0+1))=[]:=by
 rw [Z2 hb];rfl
theorem Tz {s:BA} (h:isName s=true):s.size<=40:=by
 unfold isName at h
 simp only [Xe,U9,Xj] at h
 exact h.1.1.2
structure KOk (st:M4) (b:Nat):Prop where
 a:MOk st.a b
 s:MOk st.s b
 f:MOk st.f b
 q:MOk st.q b
 k:∀x∈st.q,prOk x.1
theorem KOk.step {st:M4} {b:Nat} {x:Var} (h:KOk st b) (hx:W7 x=true):KOk (mk1 st x) (b+200):=by
 unfold W7 at hx
 simp only [Xe,U9,Xj] at hx
 obtain ⟨⟨⟨h1,h2⟩,h3⟩,h4⟩:=hx
 have hp:=EK x.acts
 refine ⟨(h.a.addAll oM h4).mono oM,?_,?_,(h.q.addAll oM h4).mono oM,OA h.k fun k hk=>?_⟩
 . unfold mk1;dsimp only;split
   . exact h.s.mono oM
   . exact (h.s.add oM h4).mono oM
 . unfold mk1;dsimp only;split
   . exact (h.f.add oM h4).mono oM
   . exact h.f.mono oM
 . have:=Dg hk;have n1:=Tz (h2 _ this.1);have n2:=Tz (h2 _ this.2);exact ⟨oM,oM⟩
theorem KOk.all {l:List Var} (hl:∀x∈l,W7 x=true):∀k,k<=l.length->KOk (makeM (l.take k)) (k*200)
 |0,_=>⟨MOk.nil,MOk.nil,MOk.nil,MOk.nil,fun x h=>by simp [makeM] at h⟩
 | k+1,hk=>by
   obtain ⟨x,hx⟩:=get_some (show k<l.length by omega);rw [DT hx,X3];exact (KOk.all hl k oM).step (hl x (Xb hx))
end Go.Proofs.YtmkojdfiadbeeaaGreat
namespace Go.En
open Go.RowKit Go.Cb
theorem Znt {sL hP:List (Nat×Ent)} {t:Nat} {vs:List Value} {q:PV} (ht:lk sL t=some (.agg vs.toArray,q)):L8 (⟨sL,hP⟩:St) (fun _:Unit=>⟨put t (.agg vs.toArray, .agg (vs.map .val)) sL,hP⟩):=fun c a w ⟨F,H⟩=>by
 refine ⟨(),F,H.toHeapF,fun s u r hs=>?_,H.size,H.df⟩
 rcases YC hs with ⟨rfl,e⟩|⟨_,e⟩
 . cases e;refine ⟨(H.sl _ _ _ ht).1, .agg _ _ (by rw [Xc]) fun i v p hv hp=>?_⟩;rw [Xl,hv] at hp
   cases hp;exact .val _
 . exact H.sl s u r e
end Go.En
namespace Go.Proofs.YtmkojdfiadbeeaaGreat
open Go.RowKit Go.Cb Go.En Tryz
theorem EL:ArrT prog 82 2=true:=kR
theorem J7:ElT prog 32 136 3 40 (.agg #[(.string ByteArray.empty),(.string ByteArray.empty),(.int .i64 0)]):=⟨underlying32,by kernel_rfl,rfl,dC⟩
theorem OB:FldT prog 81 0 0=true:=kR
theorem Cx:FldT prog 81 1 1=true:=kR
theorem Cy:FldT prog 81 2 2=true:=kR
theorem Cz:FldT prog 81 3 3=true:=kR
theorem To:NoAgg prog 78=true:=kR
theorem Zb9:NoAgg prog 79=true:=kR
theorem DU:Ge prog 136=some ((.agg #[(.string ByteArray.empty),(.string ByteArray.empty),(.int .i64 0)]),([0,1,2]:List Nat).map fun o=>(o,1)):=kR
theorem Lq:Ge prog 34=some ((.agg #[(.slice none 0 0),(.slice none 0 0),(.slice none 0 0),(.slice none 0 0)]),([0,1,2,3]:List Nat).map fun o=>(o,1)):=kR
theorem ZkO:Ge prog 81=some ((.agg #[(.map none),(.map none),(.map none),(.map none)]),([0,1,2,3]:List Nat).map fun o=>(o,1)):=kR
theorem Zca:(prog.info? 32).map (·.size)=some 1:=kR
theorem JN:ZeroT prog 34 (.agg #[(.slice none 0 0),(.slice none 0 0),(.slice none 0 0),(.slice none 0 0)]):=by unfold ZeroT;kernel_rfl
theorem Zcb:ZeroT prog 82 (.agg #[(.string ByteArray.empty),(.string ByteArray.empty)]):=by unfold ZeroT;kernel_rfl
theorem Zbd:AF prog 44 [] (· = .obox 81 4 [.omap [], .omap [], .omap [], .omap []]):=by
 refine AF.of_body 7 func44 rfl ntmps44 (Xa rfl) ?_
 intro w0 M0 vs hl hv
 obtain rfl:=Xv hl
 clear hl hv
 refine YG ?_
 refine S6 1 fun h1 ho1=>?_;refine S6 2 fun h2 ho2=>?_;refine S6 3 fun h3 ho3=>?_;refine S6 4 fun h4 ho4=>?_;refine xM (ZC ZkO) ?_;refine Yi 6 4 fun h6=>?_;refine ZP ?_
 refine YO (L9 (l:=6) (l':=1) (j:=0) rfl rfl rfl rfl) fun _=>?_
 refine YO (L9 (l:=6) (l':=2) (j:=1) rfl rfl rfl rfl) fun _=>?_
 refine YO (L9 (l:=6) (l':=3) (j:=2) rfl rfl rfl rfl) fun _=>?_
 refine YO (L9 (l:=6) (l':=4) (j:=3) rfl rfl rfl rfl) fun _=>?_
 exact Zme 6 (results44) rfl rfl rfl
theorem ZiB:AggT prog 136 3=true:=kR
theorem Zrq:AggT prog 82 2=true:=kR
theorem ZkP:ZhI prog 101 102 3:=fun enc hk h1 cf hO blk cap d w hcmp hH hblk hsz=>
 AnyQ.slices_SortFunc Tryz.sortFlwL 3 (fun w=>AggT.run ZiB w) (fun w=>AggT.size ZiB w) enc hk h1 cf hO 102 #[] blk 0 cap d w (call102) hcmp hH hblk hsz
theorem Zg4 (caps:List PV):AF prog 101 [.sl 0 [], .fn 102 caps] (· = .val (.tuple #[])):=fun M w vs hM hlen hv=>by
 obtain ⟨v,fv,rfl⟩:=ζd hlen
 have hS:=hv 0 v _ rfl rfl
 cases hS with
 | emp a c hc ha=>
   refine (AnyF.slices_SortFunc_none Tryz.sortFlwL a c fv w).mono fun e w' ⟨h1,h2⟩=>?_;rw [h1,h2];exact ⟨_,_,fun _=>False,rfl,rfl,Ext.rfl' _, .shr (.val _) (fun _ h=>h),fun b hb=>hb.elim,fun h=>h.elim⟩
 | sl b off n c cs vs' hnc hc hcell hT=>
   refine (AnyF.slices_SortFunc_none Tryz.sortFlwL _ c fv w).mono fun e w' ⟨h1,h2⟩=>?_;rw [h1,h2];exact ⟨_,_,fun _=>False,rfl,rfl,Ext.rfl' _, .shr (.val _) (fun _ h=>h),fun b hb=>hb.elim,fun h=>h.elim⟩
theorem WU (e n:Nat) (l:List Cnt) (hn:n=l.length):share (.own e 2 n (l.flatMap G7))=K9 l:=by
 subst hn
 rw [share,YI,Up];rfl
theorem PI (e n:Nat) (l:List Flw) (hn:n=l.length):share (.own e 3 n (l.flatMap Lw))=Hh l:=by
 subst hn
 rw [share,YI,Up];rfl
def TU (g:Dfg) (st:M4):Prop:=SameC g.acts st.a/\SameC g.starts st.s/\SameC g.ends st.f/\SameF g.follows st.q
theorem Znu (st:M4) (b:Nat) (hb:b<=1000000) (hk:KOk st b):AF prog 45 [.sptr 0 [.smap (skv (KO st.a)), .smap (skv (KO st.s)), .smap (skv (KO st.f)), .smap (akv (KO st.q))]] (fun p=>∃g,TU g st/\p=Jb g):=by
 have l1:=hk.a.len
 have l2:=hk.s.len
 have l3:=hk.f.len
 have l4:=hk.q.len
 refine AF.b1 47 func45 rfl ntmps45 (Xa rfl) fun w0 M0 v0 _=>?_
 refine Zi ?_
 refine Zt [(.slice none 0 0),(.slice none 0 0),(.slice none 0 0),(.slice none 0 0)] 4 2 JN fun h2=>?_;refine Zw ?_
 (refine YJ [17] [] ?_<;>refine xD 0 rfl Za ?_<;>refine xD 1 rfl Kp ?_<;>refine xD 2 rfl (Yn OB) ?_<;>(refine yD 3 rfl (Zu To) fun v9 h=>?_;cases h)<;>refine xD 5 rfl Za ?_<;>refine xD 6 rfl Kp ?_<;>refine xD 7 rfl (Yn Cx) ?_<;>(refine yD 8 rfl (Zu To) fun v14 h=>?_;cases h)<;>refine xD 10 rfl Za ?_<;>refine xD 11 rfl Kp ?_<;>refine xD 12 rfl (Yn Cy) ?_<;>(refine yD 13 rfl (Zu To) fun v19 h=>?_;cases h)<;>(refine WI 4 16 kR ?_ ?_;rotate_right;(focus ((refine aWr fun bk=>?_)<;>refine Zt [(.slice none 0 0),(.slice none 0 0),(.slice none 0 0),(.slice none 0 0)] 4 3 JN fun h3=>?_<;>refine bE bk ?_<;>(refine aDr 4 fun bk=>?_)<;>(refine LC 10 rfl rfl (Xa rfl) rfl (cA call100 (Sd st.a hk.a.nd oM)) ?_;rintro p' ⟨La,hLa,rfl⟩;refine ⟨rfl,fun h10 ho10=>?_⟩;refine Zz (En.freeze (l:=10) (t:=10) rfl rfl) fun _=>?_;rw [WU _ _ _ rfl])<;>refine bE bk ?_<;>(refine aDr 9 fun bk=>?_)<;>(refine LC 15 rfl rfl (Xa rfl) rfl (cA call100 (Sd st.s hk.s.nd oM)) ?_;rintro p' ⟨Ls,hLs,rfl⟩;refine ⟨rfl,fun h15 ho15=>?_⟩;refine Zz (En.freeze (l:=15) (t:=15) rfl rfl) fun _=>?_;rw [WU _ _ _ rfl])<;>refine bE bk ?_<;>(refine aDr 14 fun bk=>?_)<;>(refine LC 20 rfl rfl (Xa rfl) rfl (cA call100 (Sd st.f hk.f.nd oM)) ?_;rintro p' ⟨Lf,hLf,rfl⟩;refine ⟨rfl,fun h20 ho20=>?_⟩;refine Zz (En.freeze (l:=20) (t:=20) rfl rfl) fun _=>?_;rw [WU _ _ _ rfl])<;>refine bE bk ?_<;>refine xE 15 rfl (ZC Lq) ?_));rotate_right;(focus ((refine aWr fun bk=>?_)<;>(refine LC 10 rfl rfl (Xa rfl) rfl (cA call100 (Sd st.a hk.a.nd oM)) ?_;rintro p' ⟨La,hLa,rfl⟩;refine ⟨rfl,fun h10 ho10=>?_⟩;refine Zz (En.freeze (l:=10) (t:=10) rfl rfl) fun _=>?_;rw [WU _ _ _ rfl])<;>refine bE bk ?_<;>(refine WI 9 16 kR ?_ ?_;rotate_right;(focus ((refine aWr fun bk=>?_)<;>refine Zt [(.slice none 0 0),(.slice none 0 0),(.slice none 0 0),(.slice none 0 0)] 4 3 JN fun h3=>?_<;>refine bE bk ?_<;>(refine aDr 9 fun bk=>?_)<;>(refine LC 15 rfl rfl (Xa rfl) rfl (cA call100 (Sd st.s hk.s.nd oM)) ?_;rintro p' ⟨Ls,hLs,rfl⟩;refine ⟨rfl,fun h15 ho15=>?_⟩;refine Zz (En.freeze (l:=15) (t:=15) rfl rfl) fun _=>?_;rw [WU _ _ _ rfl])<;>refine bE bk ?_<;>(refine aDr 14 fun bk=>?_)<;>(refine LC 20 rfl rfl (Xa rfl) rfl (cA call100 (Sd st.f hk.f.nd oM)) ?_;rintro p' ⟨Lf,hLf,rfl⟩;refine ⟨rfl,fun h20 ho20=>?_⟩;refine Zz (En.freeze (l:=20) (t:=20) rfl rfl) fun _=>?_;rw [WU _ _ _ rfl])<;>refine bE bk ?_<;>refine xE 15 rfl (ZC Lq) ?_));rotate_right;(focus ((refine aWr fun bk=>?_)<;>(refine LC 15 rfl rfl (Xa rfl) rfl (cA call100 (Sd st.s hk.s.nd oM)) ?_;rintro p' ⟨Ls,hLs,rfl⟩;refine ⟨rfl,fun h15 ho15=>?_⟩;refine Zz (En.freeze (l:=15) (t:=15) rfl rfl) fun _=>?_;rw [WU _ _ _ rfl])<;>refine bE bk ?_<;>(refine WI 14 16 kR ?_ ?_;rotate_right;(focus ((refine aWr fun bk=>?_)<;>refine Zt [(.slice none 0 0),(.slice none 0 0),(.slice none 0 0),(.slice none 0 0)] 4 3 JN fun h3=>?_<;>refine bE bk ?_<;>(refine aDr 14 fun bk=>?_)<;>(refine LC 20 rfl rfl (Xa rfl) rfl (cA call100 (Sd st.f hk.f.nd oM)) ?_;rintro p' ⟨Lf,hLf,rfl⟩;refine ⟨rfl,fun h20 ho20=>?_⟩;refine Zz (En.freeze (l:=20) (t:=20) rfl rfl) fun _=>?_;rw [WU _ _ _ rfl])<;>refine bE bk ?_<;>refine xE 15 rfl (ZC Lq) ?_));rotate_right;(focus ((refine aWr fun bk=>?_)<;>(refine LC 20 rfl rfl (Xa rfl) rfl (cA call100 (Sd st.f hk.f.nd oM)) ?_;rintro p' ⟨Lf,hLf,rfl⟩;refine ⟨rfl,fun h20 ho20=>?_⟩;refine Zz (En.freeze (l:=20) (t:=20) rfl rfl) fun _=>?_;rw [WU _ _ _ rfl])<;>refine bE bk ?_<;>refine xD 15 rfl (ZC Lq) ?_<;>(refine aDr 16 fun bk=>?_)<;>refine Zt [(.slice none 0 0),(.slice none 0 0),(.slice none 0 0),(.slice none 0 0)] 4 3 JN fun h3=>?_<;>refine bE bk ?_)))))))))<;>(refine ZY 17 kR ?_)<;>(refine Ww rfl rfl kR fun DQ bk=>?_)<;>refine Zp 3 Yu ?_<;>refine WA (bk _ (nav ?_))<;>try dsimp only)<;>(
 refine Zo ?_;refine xL 22 Za (xL 23 Kp (xL 24 (Yn Cz) ?_));refine yU (Zu Zb9) fun v25=>?_;refine Zed 26 underlying79 (fun b26 r26 c26 es26 hkv26 hWf26=>?_);refine Zw ?_;refine Zq (YS 200 136 3 rfl) fun _=>?_;refine Yq (ι:={x:Value×Array Nat×List Flw//x.1.oneCell'=true/\(x.2.2=[]->x.1= .slice none 0 0)/\(x.2.2++(kvOf (leftOf es26 x.2.1)).map Zrp).Perm (st.q.map mkF)}) (fun k=>⟨[(2,_,_),(3,_,_),(26,_,_)],[(2,_,_),(3,h3, .own 34 4 1 [K9 La,K9 Ls,K9 Lf, .val k.1.1]),(26,itv r26,itP b26 r26 c26 es26 k.1.2.1),(200,k.1.1, .own 136 3 k.1.2.2.length (k.1.2.2.flatMap Lw))]⟩) (fun k=>(leftOf es26 k.1.2.1).size) ⟨(.slice none 0 0,#[],[]),rfl,fun _=>rfl,by rw [Zee,<-hkv26,ZpE];exact .refl _⟩ ?_;rintro ⟨⟨hov,seen,L⟩,ho,hnil,hp⟩;dsimp only;dsimp only at ho hnil hp;have hLl:L.length<=1000000:=by
  have:=hp.length_eq;rw [Xf,Xc (f:=mkF)] at this;omega
 have hLm:(L.flatMap Lw).length=L.length*3:=Ya Wg L;refine Zi ?_;(refine ZhL 26 27 hWf26 (fun hlf26=>?_) (fun e26 hle26=>?_)<;>refine ZN ?_<;>refine Zw ?_)<;>(
 refine cX ?_ ?_<;>intro hb28
 . first|exact bN hb28|(
 refine nav ?_;obtain ⟨kk,n,hmem,hks,hvs⟩:=ZpF (hkv26▸ZiA hle26);dsimp only at hks hvs;refine Zo ?_;refine xM (ZhM 26 hWf26 (ζJ hle26)) ?_;refine ZO ?_;refine Zt [(.string ByteArray.empty),(.string ByteArray.empty)] 2 4 Zcb fun h4=>?_;rw [hks];refine Zz (Znt (t:=30) (vs:=[.string kk.1, .string kk.2]) rfl) fun _=>?_;refine Zp 4 Zrq ?_;refine ZP ?_;rw [hvs];refine Zo ?_;refine xM (Zc 3 KF) ?_;refine yV (Zh 3 JD) ?_;refine xM (Zl9 4 EL) ?_;refine yV (Zh 4 ZB) ?_;refine xM (Zl9 4 EL) ?_;refine yV (Zh 4 ZB) ?_;refine xL 38 Za (xL 39 (ZC DU) ?_);refine WH 40 J7 fun h40 ho40=>?_;refine Wc 200 40 41 J7 fun h41 ho41=>?_;refine xM (Zc 3 KF) ?_;refine JX 3 JD Zca ?_;refine Zw ?_;refine ZK (ZM (l:=41) 200 rfl rfl) fun _=>?_;rw [Zft (f:=Lw) (L:=L) (c:=(⟨kk.1,kk.2,n⟩:Flw)) (by rfl),show L.length+1=(L++[(⟨kk.1,kk.2,n⟩:Flw)]).length by simp];refine Zf (
  ⟨(h41,seen.push e26.born,L++[⟨kk.1,kk.2,n⟩]),ho41,fun h=>Qd h sM,by
    refine .trans ?_ hp;have h1:=(Eo hWf26 hle26).map Zrp;rw [Xm,hks,hvs] at h1;show (L++[_]++_).Perm _;rw [XH];exact h1.symm.append_left L⟩
  ) (Ziz hWf26 hle26) sB sB)
 . first|exact bN hb28|(
 refine nav ?_;have hp0:L.Perm (st.q.map mkF):=by
  rw [hlf26] at hp;have h1:kvOf (#[]:Array MapEntry)=[]:=rfl;rw [h1,Vw,Xo] at hp;exact hp
 (refine Zo ?_<;>refine xM (Zc 3 KF) ?_<;>refine yV (Zh 3 JD) ?_<;>(by_cases hL:L=[]<;>first|(subst hL;obtain rfl:=hnil rfl;refine Zz (En.freeze (l:=200) (t:=44) rfl rfl) fun _=>?_;refine cV (cA call101 (Zg4 [])) ?_;refine Zz (YS 201 136 3 rfl) fun _=>?_;refine Zz (YD (l:=3) (l':=201) (j:=3) rfl rfl rfl rfl) fun _=>?_;rw [show share (.own 136 3 0 [])=Hh [] from PI _ 0 [] rfl];have hF:SameF [] st.q:=Zfs hk.q.nd hp0 (.refl _) (fun i j a b _ h=>by simp at h))|(refine ZcM (l:=200) (β:=Flw) (f:=Lw) (cmp:=K6) (rows:=L) ZkP (fun _=>rfl) dC (fun _=>rfl) (fun a=>Ty a) (fun a b c=>LS) (fun a b c=>ZkI) (fun x y M W u v _ _ hu hv=>(Zg1 x y).exact2 hu hv) (X5.2 hL) oM rfl rfl (Xa rfl) rfl (call101) rfl rfl rfl (fun rows' hperm hord=>?_);refine Zz (YD (l:=3) (l':=200) (j:=3) rfl rfl rfl rfl) fun _=>?_;rw [PI _ _ _ hperm.length_eq.symm];have hF:SameF rows' st.q:=Zfs hk.q.nd hp0 hperm hord))<;>refine Zw ?_)<;>(
 refine Zo ?_;refine yU (Zn 3 Yu) fun v46=>?_;refine Zp 2 Yu ?_;refine Zw ?_;exact YQ (k:=4) 2 kR (results45) rfl rfl (Xa rfl) dC rfl ⟨⟨La,Ls,Lf,_⟩,⟨hLa,hLs,hLf,hF⟩,rfl⟩))))
theorem ZpH {α:Type} {p:α->Bool} {l:List α}:(idx p l= -1/\∀s∈l,p s=false)\/∃i x,idx p l=(i:Nat)/\l[i]? =some x/\p x=true/\∀j y,j<i->l[j]? =some y->p y=false:=by
 unfold idx
 cases h:l.findIdx? p with
 |none=>exact .inl ⟨rfl,by rw [U4] at h;exact h⟩
 | some i=>
   rw [V4] at h;obtain ⟨hi,hp,hn⟩:=h;exact .inr ⟨i,l[i],rfl,sM,hp,fun j y hj hy=>by
    have:=hn j hj;obtain ⟨hj',rfl⟩:=Xk.1 hy;simpa using this⟩
theorem HM (L:List Var):(L.flatMap Wo).all En.one=true:=by rw [List.all_flatMap,Xj];intro x _;rfl
theorem Zax (e n:Nat) (l:List Var) (hn:n=l.length):share (.own e 2 n (l.flatMap Wo))=Z1 l:=by
 subst hn
 rw [share,YI,Up];rfl
theorem Kc:ElT prog 22 28 2 32 (.agg #[(.slice none 0 0),(.int .i64 0)]):=⟨underlying22,by kernel_rfl,rfl,dC⟩
theorem Zay (l:List Var) (hl:l.length<=1000000):AF prog 11 [Z1 l] (· = .own 28 2 l.length (l.flatMap Wo)):=by
 refine AF.b1 8 func11 rfl ntmps11 (Xa rfl) fun w0 M0 v0 _=>?_
 have f3:(l.flatMap Wo).length=l.length*2:=Ya Z0 l
 have f4:(l.flatMap Wo).all En.one=true:=HM l
 refine YG ?_
 (refine ZN ?_<;>(refine yL 4 (Zo0 Zy) fun v4 hv4=>?_;rcases hv4 with rfl|⟨rfl,hn0⟩)<;>refine Zw ?_)<;>(
 refine cX ?_ ?_<;>intro hb4
 . first|exact bN hb4|(
 refine ZD ?_;have hl0:l=[]:=Xv hn0;subst hl0;refine YO (YS 200 28 2 rfl) fun _=>?_;exact Ga 200 (results11) rfl rfl rfl)
 . first|exact bN hb4|(
 refine Zi ?_;refine TX 5 Kc fun h5 ho5=>?_;refine ZN ?_;refine W5 5 7 Kc (fun h7 ho7=>?_) f3 f4;refine ZP ?_;refine Ga 7 (results11) rfl rfl ?_;rw [XA,XX]))
structure Mv where
 src:Int
 dst:Int
 sym:Int
structure Aut where
 n:Int
 syms:Int
 start:List Int
 fin:List Int
 moves:List Mv
theorem SQ:∀(n:Nat) (L:List Int),L.Nodup->(∀s∈L,0<=s/\s<n)->L.length<=n
 |0,[],_,_=>Xd _
 |0,x::_,_,h=>by have:=h x (Xu ..);omega
 | n +1,L,hn,h=>by
   have h1:=SQ n (L.erase (n:Int)) (hn.erase _) fun s hs=>by
    have h2:=(hn.mem_erase_iff).1 hs;have h3:=h s h2.2;have:=h2.1;omega
   have h2:=List.length_erase (a:=(n:Int)) (l:=L);split at h2<;>omega
inductive Rch (a:Aut) (l:List Int):Int->Prop
 |base {s:Int} (h:s∈l):Rch a l s
 |step {s:Int} {m:Mv} (h:Rch a l s) (hm:m∈a.moves) (hs:m.src=s) (hc:m.sym= -1):Rch a l m.dst
def cntD (far:List Int):Nat:=far.countP fun d=>decide (0<=d)
structure FarOk (n:Nat) (far:List Int):Prop where
 len:far.length=n
 lo:∀d∈far,-1<=d
 hi:∀d∈far,d<cntD far
def InS (a:Aut) (S:List Int):Prop:=∀s∈S,0<=s/\s<a.n
theorem ZpI {α:Type} {p:α->Bool}:∀{l:List α},l.any p=true->∃(i:Nat) (x:α),idx p l=(i:Int)/\l[i]? =some x/\p x=true:=fun {l} h=>by
 rcases ZpH (p:=p) (l:=l) with ⟨_,h1⟩|⟨i,x,h1,h2,h3,_⟩
 . obtain ⟨x,hx,hp⟩:=X2.1 h;rw [h1 x hx] at hp;cases hp
 . exact ⟨i,x,h1,h2,h3⟩
theorem ZkQ {n:Nat} {l:List (Nat×Nat)} (hn:l.Nodup) (hl:∀p∈l,p.1<n/\p.2<n):l.length<=n*n:=by
 have h1:(l.map fun p=>((p.1*n+p.2:Nat):Int)).Nodup:=by
  refine X7.2 (List.Pairwise.imp_of_mem (fun {p q} hp hq hne e=>hne ?_) hn);have h2:=hl p hp;have h3:=hl q hq;have e2:p.1*n+p.2=q.1*n+q.2:=by exact_mod_cast e
  have e3:p.1=q.1:=by
   rcases Vz p.1 q.1 with h|h|h
   . have:=Vs n (show p.1+1<=q.1 by omega);rw [Vn] at this;omega
   . exact h
   . have:=Vs n (show q.1+1<=p.1 by omega);rw [Vn] at this;omega
  rw [e3] at e2;exact Prod.ext e3 oM
 have h2:=SQ (n*n) _ h1 fun s hs=>by
  obtain ⟨p,hp,rfl⟩:=Xp.1 hs;have h2:=hl p hp;have:=Vs n (show p.1+1<=n by omega);rw [Vn] at this;omega
 simpa using h2
theorem Zaz {α:Type} {r:α->α->Bool} {l:List α} (h:chainB r l=true) (hi:∀a∈l,r a a=false) (ht:∀a∈l,∀b∈l,∀c∈l,r a b=true->r b c=true->r a c=true):l.Pairwise fun a b=>r a b=true:=by
 induction l with
 |nil=>exact .nil
 | cons x l ih=>
   have h1:∀i a b,(x::l)[i]? =some a->(x::l)[i+1]? =some b->r a b=true:=(JQ r _).1 h;have h2:=ih ((JQ r l).2 fun i a b ha hb=>h1 (i+1) a b ha hb) (fun a ha=>hi a (Xs _ ha)) (fun a ha b hb c hc=>ht a (Xs _ ha) b (Xs _ hb) c (Xs _ hc));refine Xw.2 ⟨fun y hy=>?_,h2⟩
   cases l with
   |nil=>simp at hy
   | cons z l=>
     have h3:=h1 0 x z rfl rfl;rcases Xh.1 hy with rfl|hy2
     . exact h3
     . exact ht x sM z sM y (Xs _ hy) h3 ((Xw.1 h2).1 y hy2)
structure AOk (a:Aut):Prop where
 n0:0<=a.n
 n1:a.n<=2000
 s0:0<=a.syms
 s1:a.syms<=40
 ml:a.moves.length<=20000
 st:InS a a.start
 fi:InS a a.fin
 sl:a.start.length<=2000
 fl:a.fin.length<=2000
 mv:∀m∈a.moves,0<=m.src/\m.src<a.n/\0<=m.dst/\m.dst<a.n∧-1<=m.sym/\m.sym<a.syms
theorem Sn:MpT prog 78 9 3 .string (.int .i64 0):=⟨underlying78,underlying9, .inl rfl,by show ZeroT _ _ _;unfold ZeroT;kernel_rfl⟩
theorem So:PkT prog 79 82 9 3 (.int .i64 0):=⟨underlying79,underlying82,underlying9,by kernel_rfl,by kernel_rfl,by kernel_rfl,by kernel_rfl,by kernel_rfl,fun a b=>by kernel_rfl,⟨prog.types.size-1,by kernel_rfl⟩,by show ZeroT _ _ _;unfold ZeroT;kernel_rfl⟩
def ZaA:PV:= .agg [.val (.slice none 0 0), .val (.slice none 0 0), .val (.slice none 0 0), .val (.slice none 0 0)]
def Znv (l:List Var) (p:PV):Prop:=
 (validVars l=false/\p= .tup [ZaA,Zb 1])\/(validVars l=true/\40<(makeM l).a.length/\p= .tup [ZaA,Zb 5])\/(validVars l=true/\(makeM l).a.length<=40/\∃g,TU g (makeM l)/\p= .tup [Jb g,Zb 0])
theorem Zg5 (m:List (BA×Int)) (s:BA):(Kv (skv (KO m)) (.string s)).getD (.int .i64 0)= .int .i64 (iget m s):=by
 rw [LH];exact Zas m s
theorem ZaB (m:List (BA×Int)) (s:BA) (n:Int):RB (skv (KO m)) (.string s) (.int .i64 n)=skv (KO (TT m s n)):=by
 rw [P6,Zat]
theorem Zg6 {κ:Type} (m:List (κ×Int)):(KO m).map (·.1)=m.map (·.1):=by
 unfold KO;rw [Xz];rfl
theorem ZkR {κ:Type} {m:List (κ×Int)} {p:κ->Prop} (h:∀x∈m,p x.1):∀x∈KO m,p x.1:=fun x hx=>by
 obtain ⟨y,hy,rfl⟩:=Xp.1 hx
 exact h y hy
theorem Zfu {m:List (Pr×Value)} {k:Pr} {v:Value} {p:Pr->Prop} (h:∀x∈m,p x.1) (hk:p k):∀x∈K8 m k v,p x.1:=fun x hx=>by
 rcases (ZbB x.1).1 (Xp.2 ⟨x,hx,rfl⟩) with h1|h1
 . rw [h1];exact hk
 . obtain ⟨z,hz,hzx⟩:=Xp.1 h1;rw [<-hzx];exact h z hz
def midA (st:M4) (x:Var) (j:Nat):List (BA×Int):=addAll st.a (x.acts.take j) x.count
def midQ (st:M4) (x:Var) (j:Nat):List (Pr×Int):=addAll st.q (Wz (x.acts.take j)) x.count
theorem Zcc {st:M4} {x:Var} {j:Nat} {s:BA} (hs:x.acts[j]? =some s):midA st x (j+1)=TT (midA st x j) s (iget (midA st x j) s+x.count):=by
 unfold midA;rw [Z2 hs,Cw];rfl
theorem EM {st:M4} {x:Var} {s:BA} (hs:x.acts[0]? =some s):midQ st x (0+1)=midQ st x 0:=by
 unfold midQ;rw [ZkN hs];rfl
theorem EN {st:M4} {x:Var} {j:Nat} {a s:BA} (ha:x.acts[j]? =some a) (hs:x.acts[j+1]? =some s):midQ st x (j+1+1)=TT (midQ st x (j+1)) (a,s) (iget (midQ st x (j+1)) (a,s)+x.count):=by
 unfold midQ;rw [Zg3 ha hs,Cw];rfl
theorem Zdf {st:M4} {x:Var} {b j:Nat} (h:KOk st b) (hx:W7 x=true):MOk (midA st x j) (b+200):=by
 unfold W7 at hx
 simp only [Xe,U9,Xj] at hx
 exact (h.a.addAll oM hx.2).mono (by rw [XE];omega)
theorem Zdg {st:M4} {x:Var} {b j:Nat} (h:KOk st b) (hx:W7 x=true):MOk (midQ st x j) (b+200)/\∀y∈midQ st x j,prOk y.1:=by
 unfold W7 at hx
 simp only [Xe,U9,Xj] at hx
 obtain ⟨⟨⟨h1,h2⟩,h3⟩,h4⟩:=hx
 have hp:=EK (x.acts.take j)
 refine ⟨(h.q.addAll oM h4).mono (by rw [XE] at hp;omega),OA h.k fun k hk=>?_⟩
 have:=Dg hk
 have n1:=Tz (h2 _ (V7 this.1))
 have n2:=Tz (h2 _ (V7 this.2))
 exact ⟨oM,oM⟩
theorem ZiC (l : List Var) (hf:Do l):AF prog 13 [Z1 l] (Znv l):=by
 refine AF.b1 100 func13 rfl ntmps13 (Xa rfl) fun w0 M0 v0 _=>?_
 refine Zi ?_
 refine Zt [(.slice none 0 0),(.slice none 0 0),(.slice none 0 0),(.slice none 0 0)] 4 2 JN fun h2=>?_;refine Jy ?_;refine cV (cA call9 (GZ l hf)) ?_;refine Wl ?_ ?_<;>intro hb12
 . (
 refine Zi ?_;refine xM (ZC Lq) ?_;refine Zp 2 Yu ?_;refine ZP ?_;exact Yb (k:=4) 2 kR (results13) rfl rfl rfl (Xa rfl) dC rfl (.inl ⟨by simpa using hb12,rfl⟩))
 . (
 (have hV:validVars l=true:=by simpa using hb12);(have hl300:l.length<=300:=by have h:=hV;simp only [validVars,Xe,U9] at h;exact h.1);have hok:∀x∈l,W7 x=true:=fun x hx=>by
  obtain ⟨i,hi⟩:=XM hx;exact T4 hV hi
 have hK:=KOk.all hok;refine Zi ?_;refine cO 14 (cA call44 (Zbd)) fun v14 ho14=>?_;refine ZP ?_;refine Zq (ZoZ (l:=14) rfl) fun i=>?_;obtain ⟨h14,hv14⟩:=i;subst hv14;refine Zq (TW (l:=14) (l':=301) (j:=0) rfl rfl rfl rfl) fun i=>?_;obtain ⟨m1,hm1⟩:=i;refine Zq (TW (l:=14) (l':=302) (j:=1) rfl rfl rfl rfl) fun i=>?_;obtain ⟨m2,hm2⟩:=i;refine Zq (TW (l:=14) (l':=303) (j:=2) rfl rfl rfl rfl) fun i=>?_;obtain ⟨m3,hm3⟩:=i;refine Zq (TW (l:=14) (l':=304) (j:=3) rfl rfl rfl rfl) fun i=>?_;obtain ⟨m4,hm4⟩:=i;dsimp only [List.set];refine Zo ?_;refine xL 15 Za (xL 16 (Zs Zy) (xL 17 Za ?_));refine Zw ?_;refine Yq (ι:={k:Nat//k<=l.length}) (fun k=>⟨[(2,_,_),(4,_,_),(15,_,_),(16,_,_),(17, .int .i64 k.1,Zb k.1)],[(2,_,_),(14,h14, .own 81 4 1 [.val m1, .val m2, .val m3, .val m4]),(301,m1, .omap (skv (KO (makeM (l.take k.1)).a))),(302,m2, .omap (skv (KO (makeM (l.take k.1)).s))),(303,m3, .omap (skv (KO (makeM (l.take k.1)).f))),(304,m4, .omap (akv (KO (makeM (l.take k.1)).q)))]⟩) (fun k=>l.length-k.1) ⟨0,Xg _⟩ ?_;rintro ⟨k,hk⟩;dsimp only;have hKk:=hK k hk;obtain ⟨st,hst⟩:∃st,st=makeM (l.take k):=⟨_,rfl⟩;rw [<-hst] at hKk ⊢;refine Yy ?_ ?_<;>intro hb18
 . (
 obtain ⟨x,hx⟩:=gS l k;have e1:=Wr Z0 l k x hx;have e2:=W9 Z0 hx;have hxo:=hok x (Xb hx);have hxo2:=hxo;unfold W7 at hxo2;simp only [Xe,U9,Xj] at hxo2;obtain ⟨⟨⟨hxl,hxn⟩,hx1⟩,hx2⟩:=hxo2;have hnx:=DT hx;rw [<-hst] at hnx;refine Zi ?_;refine xM (Ze Zy) ?_;refine yU (Wn G6) fun v20=>?_;refine Zt [(.slice none 0 0),(.int .i64 0)] 2 6 Ei fun h6=>?_;refine Zp 6 G6 ?_;refine Ym ?_;refine xM (Zc 6 Z8) ?_;refine yU (Zh 6 ZF) fun v22=>?_;refine xL 23 (Zs Zm) (xL 24 Za ?_);refine Zw ?_;refine Yq (ι:={j:Nat//j<=x.acts.length}) (fun k=>⟨[(2,_,_),(4,_,_),(6,_,_),(15,_,_),(16,_,_),(17,_,_),(22,_,_),(23,_,_),(24, .int .i64 k.1,Zb k.1)],[(2,_,_),(6,_,_),(14,_,_),(302,_,_),(303,_,_),(301,m1, .omap (skv (KO (midA st x k.1)))),(304,m4, .omap (akv (KO (midQ st x k.1))))]⟩) (fun k=>x.acts.length-k.1) ⟨0,Xg _⟩ ?_;rintro ⟨j,hj⟩;dsimp only;have hAj:=Zdf (j:=j) hKk hxo;have hQj:=Zdg (j:=j) hKk hxo;refine Yy ?_ ?_<;>intro hb25
 . (
 obtain ⟨s,hs⟩:=gS x.acts j;have e3:=Yh (f:=Zv) hs;have hgA:=hAj.get s;have hsn:=Tz (hxn s (Xb hs));refine Zi ?_;refine xL 26 Za (xL 27 (Ze Zm) ?_);refine yV (Zu ZB) ?_;refine KI ?_;(refine YJ [9] [6,14,301] ?_<;>refine xD 0 rfl Za ?_<;>refine xD 1 rfl (Rs 14) ?_<;>refine xD 2 rfl (Zc 14 OB) ?_<;>(refine yD 3 rfl (Zh 14 To) fun v32 h=>?_;cases h)<;>refine xD 4 rfl Za ?_<;>refine xD 5 rfl (P9 301 Sn (hk:=S5 _ _) (hu:=Zg5 _ _)) ?_<;>refine xE 6 rfl (Zc 6 Wh) ?_<;>(refine yE 7 rfl (Zh 6 ZH) fun v36 h=>?_;cases h)<;>refine xE 8 rfl PN ?_<;>(refine ZY 9 kR ?_)<;>(refine Ww rfl rfl kR fun DQ bk=>?_)<;>refine Pj 301 Sn ?_<;>refine WA (bk _ (nav ?_))<;>try dsimp only)
 rw [ZaB,<-Zcc hs];refine Zo ?_;refine WZ ?_ ?_<;>intro hb39
 . (
 obtain ⟨j',rfl⟩:∃j',j=j'+1:=⟨j-1,oM⟩;obtain ⟨a,ha⟩:=gS x.acts (j');(have e4:(x.acts.map Zv)[(((j'+1:Nat):Int)-1).toNat*1]? =some (Zv a):=by rw [show (((j'+1:Nat):Int)-1).toNat=j' by omega];exact Yh (f:=Zv) ha);have hgQ:=hQj.1.get (a,s);have han:=Tz (hxn a (Xb ha));have hpr:prOk (a,s):=⟨by show a.size<=_;omega,by show s.size<=_;omega⟩;(have hQn:((KO (midQ st x (j'+1))).map (·.1)).Nodup:=by rw [Zg6];exact hQj.1.nd);have hQk:=ZkR hQj.2;have hQg:=Zas (midQ st x (j'+1)) (a,s);refine nav ?_;(refine YJ [18] [6,14] ?_<;>refine xD 0 rfl Za ?_<;>refine xD 1 rfl (Rs 14) ?_<;>refine xD 2 rfl (Zc 14 Cz) ?_<;>(refine yD 3 rfl (Zh 14 Zb9) fun v43 h=>?_;cases h)<;>refine xD 4 rfl (Zc 6 Z8) ?_<;>(refine yD 5 rfl (Zh 6 ZF) fun v45 h=>?_;cases h)<;>refine xD 6 rfl Za ?_<;>refine xD 7 rfl LL ?_<;>refine xD 8 rfl (T0 Zm) ?_<;>(refine yD 9 rfl (Zu ZB) fun v49 h=>?_;cases h)<;>refine xD 10 rfl Za ?_<;>refine xD 11 rfl (Zma EL Zcb) ?_<;>refine xD 13 rfl (Zc 6 Wh) ?_<;>(refine yD 14 rfl (Zh 6 ZH) fun v54 h=>?_;cases h)<;>(refine WI 12 16 kR ?_ ?_;rotate_right;(focus ((refine aWr fun bk=>?_)<;>(refine ζK 304 56 (k:=(a,s)) So hQk hQn hpr (fun b56 c56 n56 es56 hm56 hw56 he56 hj56=>?_);subst hm56)<;>refine bE bk ?_<;>refine xD 17 rfl Y4 ?_<;>(refine aDr 12 fun bk=>?_)<;>(first|refine xM (ZhQ 304 (k:=(a,s)) (u:= .int .i64 (iget (midQ st x (j'+1)) (a,s))) So hQk hQn hpr hQg) ?_|refine xM (Zef 304 (k:=(a,s)) (u:= .int .i64 (iget (midQ st x (j'+1)) (a,s))) So he56 (Zfu hQk hpr) (Dy hQn) hpr (by rw [ZbC];exact hQg)) ?_)<;>refine bE bk ?_<;>refine xE 15 rfl PN ?_));rotate_right;(focus ((refine aWr fun bk=>?_)<;>(first|refine xM (ZhQ 304 (k:=(a,s)) (u:= .int .i64 (iget (midQ st x (j'+1)) (a,s))) So hQk hQn hpr hQg) ?_|refine xM (Zef 304 (k:=(a,s)) (u:= .int .i64 (iget (midQ st x (j'+1)) (a,s))) So he56 (Zfu hQk hpr) (Dy hQn) hpr (by rw [ZbC];exact hQg)) ?_)<;>refine bE bk ?_<;>refine xD 15 rfl PN ?_<;>(refine aDr 16 fun bk=>?_)<;>(refine ζK 304 56 (k:=(a,s)) So hQk hQn hpr (fun b56 c56 n56 es56 hm56 hw56 he56 hj56=>?_);subst hm56)<;>refine bE bk ?_<;>refine xE 17 rfl Y4 ?_)))<;>(refine ZY 18 kR ?_)<;>(refine Ww rfl rfl kR fun DQ bk=>?_)<;>(refine Zgo 304 hw56 he56 (Dy hQn) hj56 ?_;rw [Zjw,Zat])<;>refine WA (bk _ (nav ?_))<;>try dsimp only)<;>(
 refine Gf ?_;try rw [<-EN ha hs]
 try (obtain rfl:j=0:=by omega)
 try rw [<-EM hs]
 first
  | (exact Zf (
      ⟨j'+1+1,oM⟩
      ) (by first|(show x.acts.length-(j'+1+1)<x.acts.length-(j'+1);omega)|(show x.acts.length-(0+1)<x.acts.length-0;omega)) sB sB)
  | (exact Zf (
      ⟨0+1,oM⟩
      ) (by first|(show x.acts.length-(j'+1+1)<x.acts.length-(j'+1);omega)|(show x.acts.length-(0+1)<x.acts.length-0;omega)) sB sB)))
 . (
 refine ZU ?_;try rw [<-EN ha hs]
 try (obtain rfl:j=0:=by omega)
 try rw [<-EM hs]
 first
  | (exact Zf (
      ⟨j'+1+1,oM⟩
      ) (by first|(show x.acts.length-(j'+1+1)<x.acts.length-(j'+1);omega)|(show x.acts.length-(0+1)<x.acts.length-0;omega)) sB sB)
  | (exact Zf (
      ⟨0+1,oM⟩
      ) (by first|(show x.acts.length-(j'+1+1)<x.acts.length-(j'+1);omega)|(show x.acts.length-(0+1)<x.acts.length-0;omega)) sB sB)))
 . (
 refine nav ?_;have hjl:j=x.acts.length:=oM;(have eA:midA st x j=(mk1 st x).a:=by unfold midA mk1;rw [hjl,Xx]);(have eQ:midQ st x j=(mk1 st x).q:=by unfold midQ mk1;rw [hjl,Xx]);rw [eA,eQ];refine Zo ?_;refine xM (Zc 6 Z8) ?_;refine yU (Zh 6 ZF) fun v60=>?_;refine xL 61 (Zs Zm) (xL 9 ZJ ?_);refine Ym ?_;refine WZ ?_ ?_<;>intro hb63
 . (
 obtain ⟨s0,hs0⟩:=gS x.acts 0;obtain ⟨s1,hs1⟩:=gS x.acts (x.acts.length-1);have e5:(x.acts.map Zv)[0*1]? =some (Zv s0):=Yh (f:=Zv) hs0;(have e6:(x.acts.map Zv)[((x.acts.length:Int)-1).toNat*1]? =some (Zv s1):=by rw [show ((x.acts.length:Int)-1).toNat=x.acts.length-1 by omega];exact Yh (f:=Zv) hs1);have hgS:=hKk.s.get s0;have hgF:=hKk.f.get s1;refine nav ?_;(refine YJ [12] [6,14,302] ?_<;>refine xD 0 rfl Za ?_<;>refine xD 1 rfl (Rs 14) ?_<;>refine xD 2 rfl (Zc 14 Cx) ?_<;>(refine yD 3 rfl (Zh 14 To) fun v67 h=>?_;cases h)<;>refine xD 4 rfl (Zc 6 Z8) ?_<;>(refine yD 5 rfl (Zh 6 ZF) fun v69 h=>?_;cases h)<;>refine xD 6 rfl (Ze (i:=0) Zm) ?_<;>(refine yD 7 rfl (Zu ZB) fun v71 h=>?_;cases h)<;>refine xD 8 rfl (P9 302 Sn (hk:=S5 _ _) (hu:=Zg5 _ _)) ?_<;>refine xE 9 rfl (Zc 6 Wh) ?_<;>(refine yE 10 rfl (Zh 6 ZH) fun v74 h=>?_;cases h)<;>refine xE 11 rfl PN ?_<;>(refine ZY 12 kR ?_)<;>(refine Ww rfl rfl kR fun DQ bk=>?_)<;>refine Pj 302 Sn ?_<;>refine WA (bk _ (nav ?_))<;>try dsimp only)
 (refine YJ [14] [6,14,303] ?_<;>refine xD 0 rfl Za ?_<;>refine xD 1 rfl (Rs 14) ?_<;>refine xD 2 rfl (Zc 14 Cy) ?_<;>(refine yD 3 rfl (Zh 14 To) fun v79 h=>?_;cases h)<;>refine xD 4 rfl (Zc 6 Z8) ?_<;>(refine yD 5 rfl (Zh 6 ZF) fun v81 h=>?_;cases h)<;>refine xD 6 rfl Za ?_<;>refine xD 7 rfl LL ?_<;>refine xD 8 rfl (T0 Zm) ?_<;>(refine yD 9 rfl (Zu ZB) fun v85 h=>?_;cases h)<;>refine xD 10 rfl (P9 303 Sn (hk:=S5 _ _) (hu:=Zg5 _ _)) ?_<;>refine xE 11 rfl (Zc 6 Wh) ?_<;>(refine yE 12 rfl (Zh 6 ZH) fun v88 h=>?_;cases h)<;>refine xE 13 rfl PN ?_<;>(refine ZY 14 kR ?_)<;>(refine Ww rfl rfl kR fun DQ bk=>?_)<;>refine Pj 303 Sn ?_<;>refine WA (bk _ (nav ?_))<;>try dsimp only)
 refine Gf ?_;try rw [ZaB,ZaB]
 try rw [show TT st.s s0 (iget st.s s0+x.count)=(mk1 st x).s by unfold mk1;cases hc:x.acts with|nil=>rw [hc] at hs0;simp at hs0|cons z t=>rw [hc] at hs0;simp at hs0;subst hs0;rfl]
 try rw [show TT st.f s1 (iget st.f s1+x.count)=(mk1 st x).f by unfold mk1;rw [U7,hs1];rfl]
 try rw [show st.s=(mk1 st x).s by unfold mk1;rw [show x.acts=[] from Xv oM],show st.f=(mk1 st x).f by unfold mk1;rw [show x.acts=[] from Xv oM];rfl]
 rw [<-hnx];refine Yr (
  ⟨k+1,oM⟩
  ))
 . (
 refine ZU ?_;try rw [ZaB,ZaB]
 try rw [show TT st.s s0 (iget st.s s0+x.count)=(mk1 st x).s by unfold mk1;cases hc:x.acts with|nil=>rw [hc] at hs0;simp at hs0|cons z t=>rw [hc] at hs0;simp at hs0;subst hs0;rfl]
 try rw [show TT st.f s1 (iget st.f s1+x.count)=(mk1 st x).f by unfold mk1;rw [U7,hs1];rfl]
 try rw [show st.s=(mk1 st x).s by unfold mk1;rw [show x.acts=[] from Xv oM],show st.f=(mk1 st x).f by unfold mk1;rw [show x.acts=[] from Xv oM];rfl]
 rw [<-hnx];refine Yr (
  ⟨k+1,oM⟩
  ))))
 . (
 refine nav ?_;obtain rfl:k=l.length:=oM;rw [Xx] at hst;have hKl:=hKk;rw [hst] at hKl ⊢;have hAl:=hKl.a.len;refine Zo ?_;refine xL 91 Za (xL 92 (Rs 14) (xL 93 (Zc 14 OB) ?_));refine yV (Zh 14 To) ?_;refine xL 95 (ZoF 301 underlying78) (xL 96 Jw ?_);refine ZE ?_ ?_<;>intro hb96
 . (
 refine Zi ?_;refine xM (ZC Lq) ?_;refine Zp 2 Yu ?_;refine ZP ?_;exact Yb (k:=4) 2 kR (results13) rfl rfl rfl (Xa rfl) dC rfl (.inr (.inl ⟨hV,by unfold skv KO at hb96;simp only [Xc] at hb96;omega,rfl⟩)))
 . (
 refine nav ?_;(have h40:(makeM l).a.length<=40:=by unfold skv KO at hb96;simp only [Xc] at hb96;omega);refine Zq (L9 (l:=14) (l':=301) (j:=0) rfl rfl rfl rfl) fun _=>?_;refine Zq (L9 (l:=14) (l':=302) (j:=1) rfl rfl rfl rfl) fun _=>?_;refine Zq (L9 (l:=14) (l':=303) (j:=2) rfl rfl rfl rfl) fun _=>?_;refine Zq (L9 (l:=14) (l':=304) (j:=3) rfl rfl rfl rfl) fun _=>?_;refine Zq (S7 (l:=14) (t:=4) (j:=0) rfl Vt rfl) fun _=>?_;dsimp only [Wk,share,List.set];refine LN ?_;refine cDx 99 (cA call45 ((Znu (makeM l) _ oM hKl).mono (R':=fun p=>∃i:{g//TU g (makeM l)},p=Jb i.1) fun p ⟨g,h1,h2⟩=>⟨⟨g,h1⟩,h2⟩)) (fun i v99 hv99=>?_) (fun _=>rfl);obtain ⟨g,hg⟩:=i;dsimp only [Jb];refine Zp 2 Yu ?_;refine ZP ?_;exact Yb (k:=4) 2 kR (results13) rfl rfl rfl (Xa rfl) dC rfl (.inr (.inr ⟨hV,h40,g,hg,rfl⟩)))))
section
variable {κ:Type} [DecidableEq κ]
def DV (lt:κ->κ->Bool):List (κ×Int)->κ->Int->List (κ×Int)
 |[],k,n=>[(k,n)]
 |c::t,k,n=>if lt c.1 k then c::DV lt t k n else if c.1=k then (k,c.2+n)::t else (k,n)::c::t
structure Ord (lt:κ->κ->Bool):Prop where
 irr:∀a,lt a a=false
 tr:∀a b c,lt a b=true->lt b c=true->lt a c=true
 tot:∀a b,lt a b=false->lt b a=false->a=b
theorem EO {m:List (κ×Int)} {k:κ} (h:∀x∈m,x.1≠k):iget m k=0:=by
 induction m with
 |nil=>rfl
 |cons x m ih=>rw [iget,Qb (fun e=>h x sM e.symm)];exact ih fun y hy=>h y (by simp [hy])
theorem EP {m:List (κ×Int)} {k:κ} {v:Int} (h:∀x∈m,x.1≠k):TT m k v=m++[(k,v)]:=by
 induction m with
 |nil=>rfl
 |cons x m ih=>rw [TT,Qb (fun e=>h x sM e.symm),ih fun y hy=>h y (by simp [hy])];rfl
theorem GL (x:κ×Int) (m:List (κ×Int)) (k:κ) (n:Int):GR (x::m) k n=if k=x.1 then (k,x.2+n)::m else x::GR m k n:=by
 unfold GR
 rw [iget,TT]
 split<;>rfl
theorem ZkS {m m':List (κ×Int)} {k:κ} {n:Int} (h:m.Perm m'):(m.map (·.1)).Nodup->(GR m k n).Perm (GR m' k n):=by
 induction h with
 |nil=>intro _;exact .refl _
 | cons x _ ih=>
   intro hn;rw [Xm,Vg] at hn;rw [GL,GL];split
   . rename_i h e;exact (by assumption:List.Perm _ _).cons _
   . exact (ih hn.2).cons _
 | swap x y l=>
   intro hn;rw [Xm,Xm,Vg] at hn;have hne:y.1≠x.1:=fun e=>hn.1 (by rw [e];simp);rw [GL,GL,GL,GL];by_cases e1:k=y.1
   . rw [Qc e1,Qb (fun e=>hne (e1.symm.trans e)),Qc e1];exact List.Perm.swap _ _ _
   . rw [Qb e1,Qb e1];split
     . exact List.Perm.swap _ _ _
     . exact List.Perm.swap _ _ _
 | trans h1 _ ih1 ih2=>
   intro hn;exact (ih1 hn).trans (ih2 (((h1.map (fun x:κ×Int=>x.1)).pairwise_iff (R:=(· ≠ ·)) fun h=>Ne.symm h).1 hn))
theorem Zcd {lt:κ->κ->Bool} (hO:Ord lt) {k:κ} {n:Int}:∀{L:List (κ×Int)},L.Pairwise (fun a b=>lt a.1 b.1=true)->(DV lt L k n).Perm (GR L k n)
 | [],_=>by
   show List.Perm [(k,n)] [(k,0+n)];rw [Int.zero_add]
 | c :: t,h=>by
   rw [Xw] at h;rw [DV,GL];by_cases h1:lt c.1 k=true
   . rw [Qc h1,Qb (fun e=>by rw [e,hO.irr] at h1;exact Bool.noConfusion h1)];exact (Zcd hO h.2).cons c
   . rw [Qb h1];by_cases h2:c.1=k
     . rw [Qc h2,Qc h2.symm]
     . rw [Qb h2,Qb (Ne.symm h2)];have h3:lt k c.1=true:=by
        cases h4:lt k c.1 with
        |true=>rfl
        |false=>exact Qd (hO.tot _ _ (by simpa using h1) h4) h2
       have h5:∀x∈t,x.1≠k:=fun x hx e=>by
        have h6:=hO.tr _ _ _ h3 (h.1 x hx);rw [e,hO.irr] at h6;exact Bool.noConfusion h6
       unfold GR;rw [EO h5,EP h5,Int.zero_add];exact (List.Perm.swap _ _ _).trans ((UF _ _).symm.cons c)
theorem Zfv {lt:κ->κ->Bool} {k:κ} {n:Int}:∀{L:List (κ×Int)} {x:κ×Int},x∈DV lt L k n->x.1=k\/x∈L
 |[],x,h=>by simp [DV] at h;exact .inl (by rw [h])
 | c :: t,x,h=>by
   rw [DV] at h;split at h
   . rcases Xh.1 h with h|h
     . exact .inr (by simp [h])
     . rcases Zfv h with h|h
       . exact .inl h
       . exact .inr (by simp [h])
   . split at h
     . rcases Xh.1 h with h|h
       . exact .inl (by rw [h])
       . exact .inr (by simp [h])
     . rcases Xh.1 h with h|h
       . exact .inl (by rw [h])
       . exact .inr h
theorem CB {lt:κ->κ->Bool} (hO:Ord lt) {k:κ} {n:Int}:∀{L:List (κ×Int)},L.Pairwise (fun a b=>lt a.1 b.1=true)->(DV lt L k n).Pairwise fun a b=>lt a.1 b.1=true
 |[],_=>by simp [DV]
 | c :: t,h=>by
   have h':=h;rw [Xw] at h;rw [DV];by_cases h1:lt c.1 k=true
   . rw [Qc h1,Xw];refine ⟨fun x hx=>?_,CB hO h.2⟩;rcases Zfv hx with e|e
     . rw [e];exact h1
     . exact h.1 x e
   . rw [Qb h1];by_cases h2:c.1=k
     . rw [Qc h2,Xw];exact ⟨fun x hx=>h2▸h.1 x hx,h.2⟩
     . rw [Qb h2,Xw];have h3:lt k c.1=true:=by
        cases h4:lt k c.1 with
        |true=>rfl
        |false=>exact Qd (hO.tot _ _ (by simpa using h1) h4) h2
       refine ⟨fun x hx=>?_,h'⟩;rcases Xh.1 hx with e|e
       . rw [e];exact h3
       . exact hO.tr _ _ _ h3 (h.1 x e)
def SameK (lt:κ->κ->Bool) (L m:List (κ×Int)):Prop:=L.Perm m/\L.Pairwise fun a b=>lt a.1 b.1=true
theorem SameK.add {lt:κ->κ->Bool} (hO:Ord lt) {L m:List (κ×Int)} (h:SameK lt L m) (hn:(m.map (·.1)).Nodup) (k:κ) (n:Int):SameK lt (DV lt L k n) (GR m k n):=by
 refine ⟨(Zcd hO h.2).trans (ZkS h.1 ?_),CB hO h.2⟩
 exact ((h.1.map (fun x:κ×Int=>x.1)).pairwise_iff (R:=(· ≠ ·)) fun h=>Ne.symm h).2 hn
theorem SameK.unique {lt:κ->κ->Bool} (hO:Ord lt) {L L' m:List (κ×Int)} (h:SameK lt L m) (k:SameK lt L' m):L=L':=
 Zc8 (fun a _ b _ hab hba=>by
  have:=hO.tr _ _ _ hab hba;rw [hO.irr] at this;exact Bool.noConfusion this) h.2 k.2 fun c=>by rw [h.1.mem_iff,k.1.mem_iff]
end
theorem Znw:Ord strLt:=⟨W1,fun _ _ _=>KB,fun _ _=>Gg⟩
def HN (a b:Pr):Bool:=flwLt ⟨a.1,a.2,0⟩ ⟨b.1,b.2,0⟩
theorem Znx:Ord HN:=⟨fun a=>Qa (Ty _),fun a b c h1 h2=>U' (LS (Qe h1) (Qe h2)),fun a b h1 h2=>by
 have h1:=Qf h1
 have h2:=Qf h2
 by_cases e:a.1=b.1/\a.2=b.2
 . exact Prod.ext e.1 e.2
 . exact Qd (Sc h2 e) h1⟩
def unC (c:Cnt):BA×Int:=(c.name,c.n)
def unF (f:Flw):Pr×Int:=((f.src,f.dst),f.n)
theorem Zce {L:List Cnt} {m:List (BA×Int)}:SameC L m↔SameK strLt (L.map unC) m:=by
 unfold SameC SameK
 rw [X7]
 constructor
 . rintro ⟨h1,h2⟩;refine ⟨?_,h2⟩;have:=h1.map unC;rw [Xz] at this;exact this.trans (List.Perm.of_eq (VD _))
 . rintro ⟨h1,h2⟩;refine ⟨?_,h2⟩;have:=h1.map mkC;rw [Xz] at this;exact (List.Perm.of_eq (VD _).symm).trans this
theorem Zcf {L:List Flw} {m:List (Pr×Int)}:SameF L m↔SameK HN (L.map unF) m:=by
 unfold SameF SameK
 rw [X7]
 have hlt:∀a b:Flw,HN (unF a).1 (unF b).1=true↔K6 a b<0:=fun a b=>decide_eq_true_iff
 constructor
 . rintro ⟨h1,h2⟩;refine ⟨?_,h2.imp fun h=>(hlt _ _).2 h⟩;have:=h1.map unF;rw [Xz] at this;exact this.trans (List.Perm.of_eq (VD _))
 . rintro ⟨h1,h2⟩;refine ⟨?_,h2.imp fun h=>(hlt _ _).1 h⟩;have:=h1.map mkF;rw [Xz] at this;exact (List.Perm.of_eq (VD _).symm).trans this
def Jq (L:List Cnt) (s:BA) (n:Int):List Cnt:=(DV strLt (L.map unC) s n).map mkC
def OC (L:List Flw) (p:Pr) (n:Int):List Flw:=(DV HN (L.map unF) p n).map mkF
theorem Dh {L:List Cnt} {m:List (BA×Int)} (h:SameC L m) (hn:(m.map (·.1)).Nodup) (s:BA) (n:Int):SameC (Jq L s n) (GR m s n):=by
 rw [Zce] at h ⊢
 unfold Jq
 rw [Xz,show (unC∘mkC)=id from rfl,VD]
 exact h.add Znw hn s n
theorem Zcg {L:List Flw} {m:List (Pr×Int)} (h:SameF L m) (hn:(m.map (·.1)).Nodup) (p:Pr) (n:Int):SameF (OC L p n) (GR m p n):=by
 rw [Zcf] at h ⊢
 unfold OC
 rw [Xz,show (unF∘mkF)=id from rfl,VD]
 exact h.add Znx hn p n
theorem PK {L L':List Cnt} {m:List (BA×Int)} (h:SameC L m) (k:SameC L' m):L=L':=by
 rw [Zce] at h k
 have:=congrArg (List.map mkC) (h.unique Znw k)
 rw [Xz,Xz] at this
 exact (VD L).symm.trans (this.trans (VD L'))
theorem Zdh {L L':List Flw} {m:List (Pr×Int)} (h:SameF L m) (k:SameF L' m):L=L':=by
 rw [Zcf] at h k
 have:=congrArg (List.map mkF) (h.unique Znx k)
 rw [Xz,Xz] at this
 exact (VD L).symm.trans (this.trans (VD L'))
theorem HO {κ:Type} [DecidableEq κ] {lt:κ->κ->Bool} {key:κ} {n:Int}:∀{L:List (κ×Int)} {k:Nat},(∀j x,j<k->L[j]? =some x->lt x.1 key=true)->k<=L.length->(∀x,L[k]? =some x->lt x.1 key=false)->
 DV lt L key n=L.take k++(match L[k]? with|some x=>if x.1=key then (key,x.2+n)::L.drop (k+1) else (key,n)::L.drop k|none=>[(key,n)])
 | [],k,_,hk,_=>by
   have:k=0:=by simpa using hk
   subst this;rfl
 | c::t,0,_,_,h2=>by
   have h3:=h2 c rfl;rw [DV,Qb (by rw [h3];decide)];rfl
 | c::t,k+1,h1,hk,h2=>by
   rw [DV,Qc (h1 0 c (Va k) rfl),HO (L:=t) (k:=k) (fun j x hj hx=>h1 (j+1) x oM (by simpa using hx)) (by simpa using hk) (fun x hx=>h2 x (by simpa using hx))];simp
theorem Zny {L:List Cnt} {k:Nat} {s:BA} {n:Int} (h1:∀j x,j<k->L[j]? =some x->strLt x.name s=true) (hk:k<=L.length) (h2:∀x,L[k]? =some x->strLt x.name s=false/\x.name≠s):Jq L s n=L.take k++[⟨s,n⟩]++L.drop k:=by
 unfold Jq
 rw [HO (k:=k) (fun j x hj hx=>?_) (by rw [Xc];exact hk) (fun x hx=>?_)]
 . rw [Xl]
   cases hL:L[k]? with
   | none=>
     have:L.drop k=[]:=XN (UH.1 hL);rw [this,Option.map_none];simp [<-List.map_take,Function.comp_def,mkC,unC]
   | some x=>
     rw [VV];dsimp only;rw [Qb (show ¬(unC x).1=s from (h2 x hL).2)];simp [<-List.map_take,<-List.map_drop,Function.comp_def,mkC,unC]
 . rw [Xl,XS] at hx;obtain ⟨y,hy,rfl⟩:=hx;exact h1 j y hj hy
 . rw [Xl,XS] at hx;obtain ⟨y,hy,rfl⟩:=hx;exact (h2 y hy).1
theorem Znz {L:List Cnt} {k:Nat} {s:BA} {n:Int} {x:Cnt} (h1:∀j x,j<k->L[j]? =some x->strLt x.name s=true) (hx:L[k]? =some x) (he:x.name=s):Jq L s n=L.take k++[⟨s,x.n+n⟩]++L.drop (k+1):=by
 have hk:=Zd hx
 unfold Jq
 rw [HO (k:=k) (fun j x hj hx=>?_) (by rw [Xc];omega) (fun y hy=>?_)]
 . rw [Xl,hx,VV];dsimp only;rw [Qc (show (unC x).1=s from he)];simp [<-List.map_take,<-List.map_drop,Function.comp_def,mkC,unC]
 . rw [Xl,XS] at hx;obtain ⟨y,hy,rfl⟩:=hx;exact h1 j y hj hy
 . rw [Xl,hx] at hy
   cases hy;show strLt x.name s=false;rw [he];exact W1 s
theorem ZnA {L:List Flw} {k:Nat} {p:Pr} {n:Int} (h1:∀j x,j<k->L[j]? =some x->HN (x.src,x.dst) p=true) (hk:k<=L.length) (h2:∀x,L[k]? =some x->HN (x.src,x.dst) p=false/\(x.src,x.dst)≠p):OC L p n=L.take k++[⟨p.1,p.2,n⟩]++L.drop k:=by
 unfold OC
 rw [HO (k:=k) (fun j x hj hx=>?_) (by rw [Xc];exact hk) (fun x hx=>?_)]
 . rw [Xl]
   cases hL:L[k]? with
   | none=>
     have:L.drop k=[]:=XN (UH.1 hL);rw [this,Option.map_none];simp [<-List.map_take,Function.comp_def,mkF,unF]
   | some x=>
     rw [VV];dsimp only;rw [Qb (show ¬(unF x).1=p from (h2 x hL).2)];simp [<-List.map_take,<-List.map_drop,Function.comp_def,mkF,unF]
 . rw [Xl,XS] at hx;obtain ⟨y,hy,rfl⟩:=hx;exact h1 j y hj hy
 . rw [Xl,XS] at hx;obtain ⟨y,hy,rfl⟩:=hx;exact (h2 y hy).1
theorem ZnB {L:List Flw} {k:Nat} {p:Pr} {n:Int} {x:Flw} (h1:∀j x,j<k->L[j]? =some x->HN (x.src,x.dst) p=true) (hx:L[k]? =some x) (he:(x.src,x.dst)=p):OC L p n=L.take k++[⟨p.1,p.2,x.n+n⟩]++L.drop (k+1):=by
 have hk:=Zd hx
 unfold OC
 rw [HO (k:=k) (fun j x hj hx=>?_) (by rw [Xc];omega) (fun y hy=>?_)]
 . rw [Xl,hx,VV];dsimp only;rw [Qc (show (unF x).1=p from he)];simp [<-List.map_take,<-List.map_drop,Function.comp_def,mkF,unF]
 . rw [Xl,XS] at hx;obtain ⟨y,hy,rfl⟩:=hx;exact h1 j y hj hy
 . rw [Xl,hx] at hy
   cases hy;show HN (x.src,x.dst) p=false;rw [he];exact Znx.irr p
theorem Zch {α β:Type} {f:α->List β} {m:Nat} (hf:∀x,(f x).length=m):∀(L:List α) (k:Nat),(L.flatMap f).take (k*m)=(L.take k).flatMap f
 |[],k=>sM
 |x::L,0=>sM
 | x::L,k+1=>by
   rw [UB,Xr,Xr,<-Zch hf L k,List.take_append,Xt (by rw [hf,X3];omega),hf,show (k+1)*m-m=k*m by rw [X3];omega]
theorem ZaC {α β:Type} {f:α->List β} {m:Nat} (hf:∀x,(f x).length=m):∀(L:List α) (k:Nat),(L.flatMap f).drop (k*m)=(L.drop k).flatMap f
 |[],k=>sM
 |x::L,0=>sM
 | x::L,k+1=>by
   rw [List.drop_succ_cons,Xr,<-ZaC hf L k,List.drop_append,List.drop_of_length_le (by rw [hf,X3];omega),hf,show (k+1)*m-m=k*m by rw [X3];omega,XX]
theorem Ji {α β:Type} {f:α->List β} {m k:Nat} (hf:∀x,(f x).length=m) (L:List α):((L.flatMap f).drop (0*m)).take ((k-0)*m)=(L.take k).flatMap f:=by
 rw [X8,Vc,Vx,Zch hf]
theorem WX {α β:Type} {f:α->List β} {m k:Nat} (hf:∀x,(f x).length=m) (L:List α):((L.flatMap f).drop (k*m)).take ((L.length-k)*m)=(L.drop k).flatMap f:=by
 rw [ZaC hf,Xt (by rw [Ya hf,Vu];omega)]
theorem ZaD (L:List Cnt):(L.flatMap G7).all En.one=true:=by rw [List.all_flatMap,Xj];intro x _;rfl
theorem ZaE (L:List Flw):(L.flatMap Lw).all En.one=true:=by rw [List.all_flatMap,Xj];intro x _;rfl
theorem HQ (L:List Cnt) (s:BA) (n:Int) (hl:L.length<=1000000) (hb:∀x∈L,0<=x.n+n/\x.n+n<=4611686018427387904):AF prog 184 [K9 L,Zv s,Zb n] (· = .own 169 2 (Jq L s n).length ((Jq L s n).flatMap G7)):=by
 have f5:(L.flatMap G7).length=L.length*2:=Ya YL L
 refine AF.b3 69 func184 rfl ntmps184 (Xa rfl) ?_
 rintro w0 M0 v0 _ _-rfl rfl
 refine JR ?_
 refine Y9 (ι:={k:Nat//k<=L.length/\∀j x,j<k->L[j]? =some x->strLt x.name s=true}) (fun k=>⟨[(0,_,_),(1,_,_),(2,_,_),(7, .int .i64 k.1,Zb k.1)],[]⟩) (fun k=>L.length-k.1) ⟨0,Xg _,fun j x h=>Qd h (Vo j)⟩ (fun a w H=>H.weaken sB trivial) ?_
 rintro ⟨k,hk,hkp⟩
 dsimp only
 obtain ⟨x,hx0⟩:∃x,x=L[k]?.getD ⟨s,0⟩:=⟨_,rfl⟩
 have hd:k<L.length->L[k]? =some x:=fun h=>by obtain ⟨y,hy⟩:=get_some h;rw [hx0,hy];rfl
 have e1:k<L.length->(L.flatMap G7)[k*2+0]? =some (Zv x.name):=fun h=>by rw [Yx YL (hd h) (j:=0) dC];rfl
 have e2:k<L.length->(L.flatMap G7)[k*2+1]? =some (Zb x.n):=fun h=>by rw [Yx YL (hd h) (j:=1) dC];rfl
 clear hx0
 refine Zi ?_
 (refine xL 9 Za (xL 10 Za (xL 11 (Zs YB) (xL 12 Yj (xL 13 Za ?_))))<;>(refine bLd 13 (fun hb13=>?_) (fun hb13=>?_)<;>refine kZ ?_)<;>refine kZ ?_<;>(first|refine kL ?_|refine xM (Ze YB) ?_)<;>(first|refine kL ?_|refine xM (Yn WM) ?_)<;>(first|refine kL ?_|refine yV (Zu ZB (hp:=e1 oM)) ?_)<;>refine kZ ?_<;>refine kZ ?_<;>refine ZN ?_<;>refine Zw ?_)<;>(
 refine cX ?_ ?_<;>intro hb21
 . first|exact bN hb21|(
 refine Y2 ?_;refine Zf (
  ⟨k+1,oM,fun j y hj hy=>by
   by_cases e:j=k
   . subst e;rw [hd oM] at hy;cases hy;exact hb21
   . exact hkp j y oM hy⟩
  ) (by dsimp only;omega) sB trivial)
 . (
 refine nav ?_;have hnl:∀y,L[k]? =some y->strLt y.name s=false:=fun y hy=>by
  have hlt:=Zd hy;rw [hd hlt] at hy;cases hy
  first
   |exact hb21
   |(exfalso;omega)
 (have f1:(((L.flatMap G7).drop (0*2)).take ((k-0)*2)).length=(k-0)*2:=by rw [Ji YL,Ya YL,XE];omega);(have f2:(((L.flatMap G7).drop (0*2)).take ((k-0)*2)).all En.one=true:=by rw [Ji YL];exact ZaD _);refine Zo ?_;refine TX 24 J6 fun h24 ho24=>?_;refine ZO ?_;refine xM (Wd (i:=0) (j:=k) YB rfl rfl rfl rfl (Xg _) hk f5) ?_;refine W5 24 28 J6 (fun h28 ho28=>?_) f1 f2;refine ZX ?_;(refine xL 29 Za (xL 30 Za (xL 31 (Zs YB) (xL 32 Yj (xL 33 Za ?_))))<;>(refine bLd 33 (fun hb33=>?_) (fun hb33=>?_)<;>refine kZ ?_)<;>refine kZ ?_<;>(first|refine kL ?_|refine xM (Ze YB) ?_)<;>(first|refine kL ?_|refine xM (Yn WM) ?_)<;>(first|refine kL ?_|refine yV (Zu ZB (hp:=e1 oM)) ?_)<;>refine kZ ?_<;>refine kZ ?_<;>refine ZN ?_<;>refine Zw ?_)<;>(
 refine cX ?_ ?_<;>intro hb41
 . first|exact bN hb41|(
 have hkl:k<L.length:=oM;have hx:=hd hkl;have hbx:=hb x (Xb hx);have hxe:x.name=s:=Y'.1 hb41;have e3:=e2 hkl;(have f3:(((L.flatMap G7).drop ((k+1)*2)).take ((L.length-(k+1))*2)).length=(L.length-(k+1))*2:=by rw [WX YL,Ya YL,Vu]);(have f4:(((L.flatMap G7).drop ((k+1)*2)).take ((L.length-(k+1))*2)).all En.one=true:=by rw [WX YL];exact ZaD _);have r1:=Znz (n:=n) hkp hx hxe;refine nav ?_;refine YJ [] [] ?_<;>refine xD 0 rfl Za ?_<;>refine xD 1 rfl Za ?_<;>refine xD 2 rfl Za ?_<;>refine xD 3 rfl Za ?_<;>refine xD 4 rfl (Ze YB) ?_<;>refine xD 5 rfl (Yn Hu) ?_<;>(refine yD 6 rfl (Zu ZH) fun v48 h=>?_;cases h)<;>refine xD 7 rfl Za ?_<;>refine xD 8 rfl PN ?_<;>refine xD 9 rfl (ZC DR) ?_<;>refine xD 12 rfl Za ?_<;>refine xD 13 rfl Za ?_<;>refine xD 14 rfl PN ?_<;>refine xD 15 rfl (Wd (i:=k+1) (j:=L.length) YB rfl rfl rfl rfl oM (Xd _) f5) ?_<;>(refine aDr 10 fun bk=>?_)<;>refine WH 52 J6 fun h52 ho52=>?_<;>refine bE bk ?_<;>(refine aDr 11 fun bk=>?_)<;>refine Wc 28 52 53 J6 fun h53 ho53=>?_<;>refine bE bk ?_<;>(refine aDr 16 fun bk=>?_)<;>refine W5 53 58 J6 (fun h58 ho58=>?_) f3 f4<;>refine bE bk ?_<;>refine xE 17 rfl ZJ ?_<;>refine WE ?_;refine Ga 58 (results184) rfl rfl ?_;rw [r1,Ji YL,WX YL];show PV.own _ _ _ _=PV.own _ _ _ _;congr 1
 . simp;omega
 . simp [XY,G7];rfl)
 . (
 have hne:∀y,L[k]? =some y->strLt y.name s=false/\y.name≠s:=fun y hy=>⟨hnl y hy,fun he=>by
  have hlt:=Zd hy;rw [hd hlt] at hy;cases hy
  first
   |exact Bool.noConfusion ((Y'.2 he).symm.trans (show W4 x.name s=false from hb41))
   |(exfalso;omega)⟩
 (have f3:(((L.flatMap G7).drop (k*2)).take ((L.length-k)*2)).length=(L.length-k)*2:=by rw [WX YL,Ya YL,Vu]);(have f4:(((L.flatMap G7).drop (k*2)).take ((L.length-k)*2)).all En.one=true:=by rw [WX YL];exact ZaD _);have r1:=Zny (n:=n) hkp hk hne;refine nav ?_;refine YJ [] [] ?_<;>refine xD 0 rfl Za ?_<;>refine xD 1 rfl Za ?_<;>refine xD 2 rfl Za ?_<;>refine xD 3 rfl (ZC DR) ?_<;>refine xD 6 rfl Za ?_<;>refine xD 7 rfl Za ?_<;>refine xD 8 rfl (Wd (i:=k) (j:=L.length) YB rfl rfl rfl rfl hk (Xd _) f5) ?_<;>(refine aDr 4 fun bk=>?_)<;>refine WH 63 J6 fun h63 ho63=>?_<;>refine bE bk ?_<;>(refine aDr 5 fun bk=>?_)<;>refine Wc 28 63 64 J6 fun h64 ho64=>?_<;>refine bE bk ?_<;>(refine aDr 9 fun bk=>?_)<;>refine W5 64 68 J6 (fun h68 ho68=>?_) f3 f4<;>refine bE bk ?_<;>refine xE 10 rfl ZJ ?_<;>refine WE ?_;refine Ga 68 (results184) rfl rfl ?_;rw [r1,Ji YL,WX YL];show PV.own _ _ _ _=PV.own _ _ _ _;congr 1
 . simp;omega
 . simp [XY,G7];rfl))))
theorem ZnC {x:Flw} {p:Pr} (h:strLt x.src p.1=true):HN (x.src,x.dst) p=true:=U' (Lc.2 (.inl h))
theorem ZnD {x:Flw} {p:Pr} (h:x.src=p.1) (k:strLt x.dst p.2=true):HN (x.src,x.dst) p=true:=U' (Lc.2 (.inr ⟨h,k⟩))
theorem Zfw {x:Flw} {p:Pr} (h:strLt x.src p.1=false) (k:x.src=p.1->strLt x.dst p.2=false):HN (x.src,x.dst) p=false:=Qa fun hh=>by
 rcases Lc.1 hh with h1|⟨h1,h2⟩
 . have h3:strLt x.src p.1=true:=h1;rw [h] at h3;exact Bool.noConfusion h3
 . have h3:strLt x.dst p.2=true:=h2;rw [k h1] at h3;exact Bool.noConfusion h3
theorem Zfx (L:List Flw) (s t:BA) (n:Int) (hl:L.length<=1000000) (hb:∀x∈L,0<=x.n+n/\x.n+n<=4611686018427387904):AF prog 185 [Hh L,Zv s,Zv t,Zb n] (· = .own 136 3 (OC L (s,t) n).length ((OC L (s,t) n).flatMap Lw)):=by
 have f5:(L.flatMap Lw).length=L.length*3:=Ya Wg L
 refine AF.b4 100 func185 rfl ntmps185 (Xa rfl) ?_
 rintro w0 M0 v0 _ _ _-rfl rfl rfl
 refine JR ?_
 refine Y9 (ι:={k:Nat//k<=L.length/\∀j x,j<k->L[j]? =some x->HN (x.src,x.dst) (s,t)=true}) (fun k=>⟨[(0,_,_),(1,_,_),(2,_,_),(3,_,_),(9, .int .i64 k.1,Zb k.1)],[]⟩) (fun k=>L.length-k.1) ⟨0,Xg _,fun j x h=>Qd h (Vo j)⟩ (fun a w H=>H.weaken sB trivial) ?_
 rintro ⟨k,hk,hkp⟩
 dsimp only
 obtain ⟨x,hx0⟩:∃x,x=L[k]?.getD ⟨s,t,0⟩:=⟨_,rfl⟩
 have hd:k<L.length->L[k]? =some x:=fun h=>by obtain ⟨y,hy⟩:=get_some h;rw [hx0,hy];rfl
 have e0:k<L.length->(L.flatMap Lw)[k*3+0]? =some (Zv x.src):=fun h=>by rw [Yx Wg (hd h) (j:=0) dC];rfl
 have e1:k<L.length->(L.flatMap Lw)[k*3+1]? =some (Zv x.dst):=fun h=>by rw [Yx Wg (hd h) (j:=1) dC];rfl
 have e2:k<L.length->(L.flatMap Lw)[k*3+2]? =some (Zb x.n):=fun h=>by rw [Yx Wg (hd h) (j:=2) dC];rfl
 clear hx0
 refine Zi ?_
 (refine xL 11 Za (xL 12 Za (xL 13 (Zs WN) (xL 14 Yj (xL 15 Za ?_))))<;>(refine bLd 15 (fun hb15=>?_) (fun hb15=>?_)<;>refine kZ ?_)<;>refine kZ ?_<;>(first|refine kL ?_|refine xM (Ze WN) ?_)<;>(first|refine kL ?_|refine xM (Yn Kw) ?_)<;>(first|refine kL ?_|refine yV (Zu ZB (hp:=e0 oM)) ?_)<;>refine kZ ?_<;>refine kZ ?_<;>refine kZ ?_<;>(first|refine kL ?_|(refine bL 23 (fun hb23=>?_) (fun hb23=>?_)<;>refine kZ ?_))<;>refine kZ ?_<;>(first|refine kL ?_|refine xM (Ze WN) ?_)<;>(first|refine kL ?_|refine xM (Yn Kw) ?_)<;>(first|refine kL ?_|refine yV (Zu ZB (hp:=e0 oM)) ?_)<;>refine kZ ?_<;>refine kZ ?_<;>refine kZ ?_<;>(first|refine kL ?_|(refine bL 31 (fun hb31=>?_) (fun hb31=>?_)<;>refine kZ ?_))<;>refine kZ ?_<;>(first|refine kL ?_|refine xM (Ze WN) ?_)<;>(first|refine kL ?_|refine xM (Yn KS) ?_)<;>(first|refine kL ?_|refine yV (Zu ZB (hp:=e1 oM)) ?_)<;>refine kZ ?_<;>refine kZ ?_<;>refine kZ ?_<;>refine kZ ?_<;>refine ZN ?_<;>refine Zw ?_)<;>(
 refine cX ?_ ?_<;>intro hb41
 . first |exact bN hb41|(
 refine Y2 ?_;refine Zf (
  ⟨k + 1,oM,fun j y hj hy=>by
   by_cases e:j=k
   . subst e;rw [hd oM] at hy;cases hy
     first
      |exact ZnC (p:=(s,t)) (by assumption)
      |exact ZnD (p:=(s,t)) (Y'.1 (by assumption)) (by assumption)
   . exact hkp j y oM hy⟩
  ) (by dsimp only;omega) sB trivial)
 . first | exact bN hb41|(
 refine nav ?_;have hnl:∀y,L[k]? =some y->HN (y.src,y.dst) (s,t)=false:=fun y hy=>by
  have hlt:=Zd hy;rw [hd hlt] at hy;cases hy
  first
   |exact Zfw (p:=(s,t)) (by assumption) (fun he=>Bool.noConfusion ((Y'.2 he).symm.trans (show W4 x.src s=false by assumption)))
   |exact Zfw (p:=(s,t)) (by assumption) (fun _=>by assumption)
   |(exfalso;omega)
 (have f1:(((L.flatMap Lw).drop (0*3)).take ((k-0)*3)).length=(k-0)*3:=by rw [Ji Wg,Ya Wg,XE];omega);(have f2:(((L.flatMap Lw).drop (0*3)).take ((k-0)*3)).all En.one=true:=by rw [Ji Wg];exact ZaE _);refine Zo ?_;refine TX 44 J7 fun h44 ho44=>?_;refine ZO ?_;refine xM (Wd (i:=0) (j:=k) WN rfl rfl rfl rfl (Xg _) hk f5) ?_;refine W5 44 48 J7 (fun h48 ho48=>?_) f1 f2;refine ZX ?_;(refine xL 49 Za (xL 50 Za (xL 51 (Zs WN) (xL 52 Yj (xL 53 Za ?_))))<;>(refine bLd 53 (fun hb53=>?_) (fun hb53=>?_)<;>refine kZ ?_)<;>refine kZ ?_<;>(first|refine kL ?_|refine xM (Ze WN) ?_)<;>(first|refine kL ?_|refine xM (Yn Kw) ?_)<;>(first|refine kL ?_|refine yV (Zu ZB (hp:=e0 oM)) ?_)<;>refine kZ ?_<;>refine kZ ?_<;>refine ZO ?_<;>(first|refine kL ?_|(refine bL 62 (fun hb62=>?_) (fun hb62=>?_)<;>refine kZ ?_))<;>refine kZ ?_<;>(first|refine kL ?_|refine xM (Ze WN) ?_)<;>(first|refine kL ?_|refine xM (Yn KS) ?_)<;>(first|refine kL ?_|refine yV (Zu ZB (hp:=e1 oM)) ?_)<;>refine kZ ?_<;>refine kZ ?_<;>refine ZN ?_<;>refine Zw ?_)<;>(
 refine cX ?_ ?_<;>intro hb70
 . first|exact bN hb70|(
 have hkl:k<L.length:=oM;have hx:=hd hkl;have hbx:=hb x (Xb hx);have hxe:(x.src,x.dst)=(s,t):=Prod.ext (Y'.1 (by assumption)) (Y'.1 (by assumption));have e3:=e2 hkl;(have f3:(((L.flatMap Lw).drop ((k+1)*3)).take ((L.length-(k+1))*3)).length=(L.length-(k+1))*3:=by rw [WX Wg,Ya Wg,Vu]);(have f4:(((L.flatMap Lw).drop ((k+1)*3)).take ((L.length-(k+1))*3)).all En.one=true:=by rw [WX Wg];exact ZaE _);have r1:=ZnB (n:=n) hkp hx hxe;refine nav ?_;refine YJ [] [] ?_<;>refine xD 0 rfl Za ?_<;>refine xD 1 rfl Za ?_<;>refine xD 2 rfl Za ?_<;>refine xD 3 rfl Za ?_<;>refine xD 4 rfl Za ?_<;>refine xD 5 rfl (Ze WN) ?_<;>refine xD 6 rfl (Yn Ht) ?_<;>(refine yD 7 rfl (Zu ZH) fun v78 h=>?_;cases h)<;>refine xD 8 rfl Za ?_<;>refine xD 9 rfl PN ?_<;>refine xD 10 rfl (ZC DU) ?_<;>refine xD 13 rfl Za ?_<;>refine xD 14 rfl Za ?_<;>refine xD 15 rfl PN ?_<;>refine xD 16 rfl (Wd (i:=k+1) (j:=L.length) WN rfl rfl rfl rfl oM (Xd _) f5) ?_<;>(refine aDr 11 fun bk=>?_)<;>refine WH 82 J7 fun h82 ho82=>?_<;>refine bE bk ?_<;>(refine aDr 12 fun bk=>?_)<;>refine Wc 48 82 83 J7 fun h83 ho83=>?_<;>refine bE bk ?_<;>(refine aDr 17 fun bk=>?_)<;>refine W5 83 88 J7 (fun h88 ho88=>?_) f3 f4<;>refine bE bk ?_<;>refine xE 18 rfl ZJ ?_<;>refine WE ?_;refine Ga 88 (results185) rfl rfl ?_;rw [r1,Ji Wg,WX Wg];show PV.own _ _ _ _=PV.own _ _ _ _;congr 1
 . simp;omega
 . simp [XY,Lw];rfl)
 . (
 have hne:∀y,L[k]? =some y->HN (y.src,y.dst) (s,t)=false/\(y.src,y.dst)≠(s,t):=fun y hy=>⟨hnl y hy,fun he=>by
  have hlt:=Zd hy;rw [hd hlt] at hy;cases hy;have he1:=(Prod.mk.inj he).1;have he2:=(Prod.mk.inj he).2
  first
   |exact Bool.noConfusion ((Y'.2 he1).symm.trans (show W4 x.src s=false by assumption))
   |exact Bool.noConfusion ((Y'.2 he2).symm.trans (show W4 x.dst t=false by assumption))
   |(exfalso;omega)⟩
 (have f3:(((L.flatMap Lw).drop (k*3)).take ((L.length-k)*3)).length=(L.length-k)*3:=by rw [WX Wg,Ya Wg,Vu]);(have f4:(((L.flatMap Lw).drop (k*3)).take ((L.length-k)*3)).all En.one=true:=by rw [WX Wg];exact ZaE _);have r1:=ZnA (n:=n) hkp hk hne;refine nav ?_;refine YJ [] [] ?_<;>refine xD 0 rfl Za ?_<;>refine xD 1 rfl Za ?_<;>refine xD 2 rfl Za ?_<;>refine xD 3 rfl Za ?_<;>refine xD 4 rfl (ZC DU) ?_<;>refine xD 7 rfl Za ?_<;>refine xD 8 rfl Za ?_<;>refine xD 9 rfl (Wd (i:=k) (j:=L.length) WN rfl rfl rfl rfl hk (Xd _) f5) ?_<;>(refine aDr 5 fun bk=>?_)<;>refine WH 94 J7 fun h94 ho94=>?_<;>refine bE bk ?_<;>(refine aDr 6 fun bk=>?_)<;>refine Wc 48 94 95 J7 fun h95 ho95=>?_<;>refine bE bk ?_<;>(refine aDr 10 fun bk=>?_)<;>refine W5 95 99 J7 (fun h99 ho99=>?_) f3 f4<;>refine bE bk ?_<;>refine xE 11 rfl ZJ ?_<;>refine WE ?_;refine Ga 99 (results185) rfl rfl ?_;rw [r1,Ji Wg,WX Wg];show PV.own _ _ _ _=PV.own _ _ _ _;congr 1
 . simp;omega
 . simp [XY,Lw];rfl))))
end Go.Proofs.YtmkojdfiadbeeaaGreat
