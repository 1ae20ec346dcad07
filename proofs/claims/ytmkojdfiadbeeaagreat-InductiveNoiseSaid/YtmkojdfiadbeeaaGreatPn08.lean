/-
  Walks and laws.
-/
import Derived.Test.YtmkojdfiadbeeaaGreatPn07
import Derived.Test.YtmkojdfiadbeeaaGreatPn06
import Derived.Test.YtmkojdfiadbeeaaGreatPn05
import Derived.Test.YtmkojdfiadbeeaaGreatPn02
import Derived.Test.YtmkojdfiadbeeaaGreatPn03
import Derived.Test.YtmkojdfiadbeeaaGreatNShelfC
import Derived.Test.YtmkojdfiadbeeaaGreatPn04
import Derived.Test.YtmkojdfiadbeeaaGreatNShelfD
import Derived.Test.YtmkojdfiadbeeaaGreatPn01
set_option linter.all false
set_option maxRecDepth 100000
set_option maxHeartbeats 0
namespace Go.Proofs.YtmkojdfiadbeeaaGreat
open Go.RowKit Go.Cb Go.En Tryz
def CW:AggT prog 114 2=true:=kR
def P2:AggT prog 28 2=true:=kR
def ZaR:AggT prog 42 2=true:=kR
def ZhD:ElT prog 109 78 1 8 (.map none):=⟨underlying109,by kernel_rfl,rfl,dC⟩
def Zcx:ElT prog 22 28 2 32 (.agg #[(.slice none 0 0),(.int .i64 0)]):=⟨underlying22,by kernel_rfl,rfl,dC⟩
def Zlt:ElT prog 45 22 1 24 (.slice none 0 0):=⟨underlying45,by kernel_rfl,rfl,dC⟩
def GZ:FldT prog 114 0 0=true:=kR
def Eh:FldT prog 114 1 1=true:=kR
def OP:FldT prog 28 0 0=true:=kR
def OQ:FldT prog 28 1 1=true:=kR
def CX:FldT prog 42 0 0=true:=kR
def Rw:FldT prog 42 1 1=true:=kR
def E':MpT prog 78 9 3 .string (.int .i64 0):=⟨underlying78,underlying9, .inl rfl,by show ZeroT _ _ _;unfold ZeroT;kernel_rfl⟩
def Sz:NoAgg prog 22=true:=kR
def Pt:NoAgg prog 26=true:=kR
def GI:NoAgg prog 3=true:=kR
def DG:NoAgg prog 40=true:=kR
def Ca:NoAgg prog 78=true:=kR
def Zok:NoAgg prog 9=true:=kR
def P3:SlT prog 109 78 1=true:=kR
def ZaS:SlT prog 110 114 2=true:=kR
def LK:SlT prog 22 28 2=true:=kR
def Zcy:SlT prog 26 9 1=true:=kR
def DI:SlT prog 40 26 1=true:=kR
def LL:SlT prog 45 22 1=true:=kR
def Zlu:Gk prog 28=some ((.agg #[(.slice none 0 0),(.int .i64 0)]),([0,1]:List Nat).map fun o=>(o,1)):=kR
def Zlv:(prog.info? 22).map (·.size)=some 1:=kR
def Zol:(prog.info? 3).map (·.size)=some 1:=kR
def Zlw:(prog.info? 78).map (·.size)=some 1:=kR
def ZhE:ZeroT prog 114 (.agg #[(.int .i64 0),(.slice none 0 0)]):=by unfold ZeroT;kernel_rfl
def Zcz:ZeroT prog 28 (.agg #[(.slice none 0 0),(.int .i64 0)]):=by unfold ZeroT;kernel_rfl
def ZcA {sL hP:List (Nat×Ent)} {t:Nat} {q:PV} (ht:lk sL t=some (.slice none 0 0,q)):Tn (⟨sL,hP⟩:St) (fun _:Unit=>⟨put t (.slice none 0 0, .sl 0 []) sL,hP⟩):=fun c a w ⟨F,H⟩=>by
 refine ⟨(),F,H.toHeapF,fun s u r hs=>?_,H.size,H.df⟩
 rcases YC hs with ⟨rfl,e1⟩|⟨_,hs'⟩
 . cases e1;exact ⟨(H.sl t _ _ ht).1, .emp none 0 (by unfold maxLen;omega) (fun _=>rfl)⟩
 exact H.sl s u r hs'
def Zlx (parts:List (List BA)) (s:BA):(KC (skv (Y2 0 parts)) (.string s)).isSome=decide (0<=partOf parts s):=by
 rw [L5,Hc,Option.isSome_map,P8]
def ZaT {parts:List (List BA)} {l:List Var} {x:Var} {s:BA} (hx:x∈l) (hs:s∈x.acts) (h:¬0<=partOf parts s):JB parts l=false:=by
 cases hI:JB parts l with
 |false=>rfl
 | true=>
   unfold JB at hI;rw [Xj] at hI;have:=hI x hx;rw [Xj] at this;exact Qe (Qf (this s hs)) h
def RSp (x:List (List Var)×Int) (p:PV):Prop:=p= .tup [Zc7 x.1,Zb x.2]
def TM {l:List Var} {c:Cut} {n:Int} (h:KW l c=([],n)):RSp (KW l c) (.tup [.sl 0 [],Zb n]):=by rw [h];rfl
def ZfU {l:List Var} {c:Cut} (h:(validVars l&&Y1 c)=false):KW l c=([],1):=by unfold KW;rw [Qd h]
def ZfV {l:List Var} {c:Cut} (h1:validVars l=true) (h2:Y1 c=true) (h:JB c.parts l=false):KW l c=([],8):=by unfold KW;rw [h1,h2];simp [h]
def Lv (e:Nat) (r:List Var):PV:= .own e 2 r.length (r.flatMap YL)
def oAt (r:List Var):PV:= .omap (skv (Oe Sb 0 r))
def ZhF (n e:Nat):∀(i:Nat) (p p':PV),(List.replicate n (PV.val (.slice none 0 0)))[i]? =some p->((List.replicate n ([]:List Var)).map (Lv e))[i]? =some p'->Zin p p':=fun i p p' h1 h2=>by
 rw [List.map_replicate] at h2
 have e1:=VE (Xb h1)
 have e2:=VE (Xb h2)
 exact .inr ⟨e1,_,_,e2⟩
def Zly {n k:Nat} {v:PV} (hk:k<n):(((List.replicate k (PV.omap [])++List.replicate (n-k) (PV.val (.map none))).set k v).set k (.omap []))=List.replicate (k+1) (PV.omap [])++List.replicate (n-(k+1)) (PV.val (.map none)):=by
 rw [X4,Vr _ _ sM,XN,Vg,show n-k=(n-(k+1))+1 by omega,List.replicate_succ,U1,List.replicate_succ',XG]
 rfl
def Zom (n:Nat):List.replicate n (PV.omap [])++List.replicate (n-n) (PV.val (.map none))=(List.replicate n ([]:List Var)).map oAt:=by
 rw [Vg,List.map_replicate];simp;exact .inr rfl
def Zlz {parts:List (List BA)} {s:BA} (h:0<=partOf parts s):Kx (Y2 0 parts) s=some (.int .i64 (partOf parts s)):=by
 have h1:=P8 parts s
 rw [Qa h] at h1
 obtain ⟨n,hn⟩:=Option.isSome_iff_exists.1 h1
 rw [Hc,ZgW,hn];rfl
def OS {c:Cut} (h:Y1 c=true):1<=c.kind/\c.kind<=4/\2<=c.parts.length:=by
 simp only [Y1,Xf,U'] at h
 exact ⟨h.1.1.1,h.1.1.2,h.1.2⟩
def ZcB {l:List Var} {c:Cut} (h1:validVars l=true) (h2:Y1 c=true) (h3:JB c.parts l=true) (h:splitAll c (List.replicate c.parts.length []) l=none):KW l c=([],19):=by unfold KW;rw [h1,h2,h3,h];simp
def OT {c:Cut} {S:List (List Var)} {l:List Var} {k:Nat} {x:Var} (hx:l[k]? =some x):splitAll c S (l.drop k)=match Wh c x.acts with|none=>none|some ps=>splitAll c (ps.foldl (putPiece x.count) S) (l.drop (k+1)):=by
 rw [WO hx,splitAll]
 cases Wh c x.acts<;>rfl
def Zsw (l:List Var) (c:Cut) (x:Nat×List (List Var)):Prop:=x.1<=l.length/\x.2.length=c.parts.length/\WR x.2/\∃S,RelR x.2 S/\RowsOk (x.1*1000300) S/\splitAll c (List.replicate c.parts.length []) l=splitAll c S (l.drop x.1)
def Zsx (l:List Var) (c:Cut):Zsw l c (0,List.replicate c.parts.length []):=⟨sM,sM,Zsv _,_,Zoi _,by rw [X8];exact ζG _,rfl⟩
def ZlA (c:Cut) (S:List (List Var)) (ps:List Piece) (cnt:Int) (k:Nat) (y:Nat×List (List Var)):Prop:=y.1<=ps.length/\y.2.length=c.parts.length/\WR y.2/\∃S',RelR y.2 S'/\RowsOk (k*1000300+y.1) S'/\ps.foldl (putPiece cnt) S=(ps.drop y.1).foldl (putPiece cnt) S'
def ZlB {c:Cut} {S R:List (List Var)} {ps:List Piece} {cnt:Int} {k i:Nat} {p:Piece} (h:ZlA c S ps cnt k (i,R)) (hp:ps[i]? =some p) (hw:WOk p.word) (h0:0<=cnt) (h1:cnt<=1048576):ZlA c S ps cnt k (i+1,ZaQ cnt R p):=by
 obtain ⟨a1,a2,a3,S',a4,a5,a6⟩:=h
 have hlt:=Zd hp
 refine ⟨hlt,by show (ZaQ cnt R p).length=_;rw [ZfR];exact a2,a3.put hw,putPiece cnt S' p,a4.put,?_,?_⟩
 . have h9:=Cy (p:=p) h0 h1 a5;dsimp only at h9 ⊢;rw [Vy] at h9;exact h9
 rw [a6]
 show (ps.drop i).foldl _ _=_
 rw [WO hp];rfl
def Zsy {c:Cut} {S R:List (List Var)} {k:Nat} (ps:List Piece) (cnt:Int) (h1:R.length=c.parts.length) (h2:WR R) (h3:RelR R S) (h4:RowsOk (k*1000300) S):ZlA c S ps cnt k (0,R):=by
 refine ⟨Xg _,h1,h2,S,h3,?_,?_⟩
 . dsimp only;rw [VO];exact h4
 dsimp only;rw [Vf]
def Zon {l:List Var} {c:Cut} {S R:List (List Var)} {ps:List Piece} {cnt:Int} {k i:Nat} (h:ZlA c S ps cnt k (i,R)) (hi:ps.length<=i) (hk:k<l.length) (hp:ps.length<=1000300) (hsp:splitAll c (List.replicate c.parts.length []) l=splitAll c (ps.foldl (putPiece cnt) S) (l.drop (k+1))):Zsw l c (k+1,R):=by
 obtain ⟨a1,a2,a3,S',a4,a5,a6⟩:=h
 refine ⟨hk,a2,a3,S',a4,fun r hr=>?_,?_⟩
 . have:=a5 r hr;have h2:k*1000300+i<=(k+1)*1000300:=by rw [X3];change i<=ps.length at a1;omega
   exact ⟨XI this.1 h2,fun x hx=>⟨(this.2 x hx).1,Int.le_trans (this.2 x hx).2 (U7 (Int.ofNat_le.2 h2) dC)⟩⟩
 rw [hsp,a6];show splitAll c ((ps.drop i).foldl _ _) _=_;rw [XO hi];rfl
def ZlC (a b:List BA) (ha:WOk a) (hb:WOk b) (h:Sb a=Sb b):a=b:=by
 refine Zof ha hb ?_
 have:=congrArg (fun s:BA=>s.data.toList) h
 simpa [Sb] using this
structure Met (r:List Var) (pw:List BA) (cnt:Int) (hd:Value) (r':List Var) (ix:Nat) (z:Var):Prop where
 one:hd.oneCell'=true
 at_:r'[ix]? =some z
 acts:z.acts=pw
 set:r'.set ix ⟨pw,z.count+cnt⟩=bump r pw cnt
 lo:0<=z.count
 hi:z.count<=400000000000000
 len:r'.length<=400000000
def OU (r:List Var):Wi (r.flatMap YL)=r.flatMap YL:=by
 induction r with
 |nil=>rfl
 |cons x r ih=>rw [Xq,DX,ih];rfl
def ZhG (e n:Nat) (k:Nat) (T:List (List Var)) (h:n=T.length):share (.own e k n (T.map (Lv 28)))=Zc7 T:=by
 subst h
 have:Wi (T.map (Lv 28))=T.map ZV:=by
  rw [YG,XB];refine VV fun r _=>?_;show share (.own _ 2 r.length (r.flatMap YL))=_;simp only [share,OU];rfl
 simp only [share,this];rfl
def ZlD {sL hP:List (Nat×Ent)} {e l:Nat} {h:Value} {r:List Var} (hl:lk hP l=some (h, .own e 2 r.length (r.flatMap YL))):Om (⟨sL,hP⟩:St) h (ZV r):=by
 have:=EB (sL:=sL) hl
 simp only [share,OU] at this
 exact this
def Zjn {w:List BA} (h:WOk w):Zdf w:=⟨by have:=h.1;omega,fun s hs=>by have:=(Hj (h.2 s hs)).2.2;omega⟩
def ZqI (a:Var):¬cmpStrs a.acts a.acts<0:=fun h=>by have:=PK a.acts;unfold ltW at this;simp [h] at this
def Zsz (a b c:Var) (h1:cmpStrs a.acts b.acts<0) (h2:cmpStrs b.acts c.acts<0):cmpStrs a.acts c.acts<0:=Qf (Tu (Qa h1) (Qa h2))
def ZsA (a b c:Var) (h1:¬cmpStrs a.acts b.acts<0) (h2:¬cmpStrs b.acts c.acts<0):¬cmpStrs a.acts c.acts<0:=fun h=>by
 by_cases h3:cmpStrs b.acts a.acts<0
 . exact h2 (Qf (Tu (Qa h3) (Qa h)))
 have:=Ss (a:=a.acts) (b:=b.acts) (Qb h1) (Qb h3);rw [this] at h;exact h2 h
def ZsB {r r':List Var} (hn:Nodup r) (hp:r'.Perm r) (hs:∀(i j:Nat) (a b:Var),i<j->r'[i]? =some a->r'[j]? =some b->¬cmpStrs b.acts a.acts<0):Asc r':=by
 have hn':Nodup r':=hn.perm hp.symm
 refine XW.2 fun i j hi hj hij=>?_
 have h1:=hs i j _ _ hij (Xr hi) (Xr hj)
 have h2:=(XW.1 hn') i j hi hj hij
 cases h3:ltW r'[i].acts r'[j].acts with
 |true=>rfl
 |false=>exact Qe (Ss h3 (Qb h1)) h2
def Zoo {P:Program} {c:Ctx} {sL hP:List (Nat×Ent)} {ops:Array Oper} {Q:Exit->Act->World->Prop} {o:Oper} {rest:List Oper} {fs g k e d l:Nat} {cs:List PV} {h:Value} {q q':PV} {x y:Operand} {ats:Array TypeId} (hS:∀(p:Option Addr) (cap:Nat) (fv:Value) (w:World),Calls P fs #[.slice p 0 cap,fv] w fun e w'=>e= .returned (.tuple #[])/\w'=w)
 (hw:Yb ops sL o=some true) (hd:o.dst=some d) (hdn:d<c.nt) (ho:o.op= .call {callee:= .value (.func fs),args:= #[x,y],argTypes:=ats}) (hc:∀args w,(callFunc fs args).run P w= .ok (.enter fs args) w) (hx:ev sL x=some (h,q)) (hy:ev sL y=some (.func (.func g) #[] #[],q')) (hl:lk hP l=some (h, .own e k 0 cs))
 (kk:aL P c ops Q rest ⟨put d (.tuple #[], .val (.tuple #[])) sL,hP⟩):aL P c ops Q (o::rest) (⟨sL,hP⟩:St):=
 W1 hw fun a w F H=>by
  have hxv:=(H.rd.ev hx).1;have hyv:=(H.rd.ev hy).1;obtain ⟨xs,Fs,hrow,_⟩:=(H.tr l _ _ hl).row;obtain ⟨p,cap,rfl⟩:∃p cap,h= .slice p 0 cap:=by
   rcases Kv hrow with ⟨h1,_⟩|⟨g,cap,h1,_⟩
   . exact ⟨_,_,h1⟩
   exact ⟨_,_,h1⟩
  unfold Oper.wp;have hrun:(execOp a.eval o).run P w= .ok (.enter fs #[.slice p 0 cap, .func (.func g) #[] #[]]) w:=by
   have hev:a.eval (.func fs)= .func (.func fs) #[] #[]:=rfl;simp [execOp,ho,resolve,Deferred.ofValue,hev,invoke,hxv,hyv,hc]
  rw [hrun,Oper.upon_enter];refine (hS p cap _ w).mono fun e' w' ⟨he',hw'⟩=>?_;subst he' hw';rw [hd];exact kk _ _ ⟨F,H.put hdn (.val _)⟩
def ZfW {l:List Var} {c:Cut} {S:List (List Var)} (h1:validVars l=true) (h2:Y1 c=true) (h3:JB c.parts l=true) (h:splitAll c (List.replicate c.parts.length []) l=some S) (h4:S.any bigVars=true):KW l c=([],6):=by unfold KW;rw [h1,h2,h3,h];simp only [];simp [h4]
def ZfX {l:List Var} {c:Cut} {S:List (List Var)} (h1:validVars l=true) (h2:Y1 c=true) (h3:JB c.parts l=true) (h:splitAll c (List.replicate c.parts.length []) l=some S) (h4:S.any bigVars=false) (h5:S.any Kl=true):KW l c=([],5):=by unfold KW;rw [h1,h2,h3,h];simp only [];rw [h4,h5];rfl
def ZfY {l:List Var} {c:Cut} {S:List (List Var)} (h1:validVars l=true) (h2:Y1 c=true) (h3:JB c.parts l=true) (h:splitAll c (List.replicate c.parts.length []) l=some S) (h4:S.any bigVars=false) (h5:S.any Kl=false):KW l c=(S,0):=by unfold KW;rw [h1,h2,h3,h];simp only [];rw [h4,h5];rfl
def ZdJ {f:List Var->Bool} {R:List (List Var)} (h:∀(i:Nat) (r:List Var),R[i]? =some r->f r=false):R.any f=false:=by
 rw [Ux]
 intro r hr
 obtain ⟨i,hi⟩:=XM hr
 rw [h i r hi];simp
def ζt {f:List Var->Bool} {R:List (List Var)} {i:Nat} {r:List Var} (hr:R[i]? =some r) (h:f r=true):R.any f=true:=X2.2 ⟨r,Xb hr,h⟩
def ZfZ (l : List Var) (c:Cut) (hl0:RJ l) (hs:∀p∈c.parts,∀s∈p,s.size<=140737488355328) (hn1:c.parts.length<=1000000):
 AF prog 20 [ZV l,PC c] (RSp (KW l c)):=by
 refine AF.b2 190 func20 rfl ntmps20 (Xa rfl) fun w0 M0 v0 v1 _ _=>?_
 refine Zi ?_
 refine Z4 3 2 fun h3=>?_;refine W2 ?_
 refine (Bool.eq_false_or_eq_true (Y1 c)).elim (fun hF=>?_) (fun hF=>?_)
 . (refine Zp ?_; refine yU (Zm 3 ZaR) fun v31=>?_;refine Zik (R:=(· = .tup [.omap (skv (Y2 0 c.parts)),Zr true])) 32 32 201 rfl rfl (Xa rfl) rfl rfl rfl (Hz rfl call64 rfl ((ZfA c hs).mono fun p ⟨q,e1,e2,_⟩=>by rw [e1,e2 hF,hF])) ?_;rintro p' rfl;refine ⟨_,_,rfl,rfl,rfl,?_⟩;intro h32 v201 _ hv201 ho32 _;cases hv201;refine ZbT ?_;refine ZZ ?_)
   refine Zs (En.freeze (l:=32) (t:=6) rfl rfl) fun _=>?_;refine Zp ?_;refine LB ?_;refine On 39 rfl rfl (Xa rfl) (Hz rfl call9 rfl (J8 l hl0)) ?_;rintro p' rfl;refine ⟨rfl,?_⟩;intro v39 hv39;cases hv39;refine W2 ?_;refine Yq rfl ?_ ?_
   . intro hb;refine ZP ?_;refine YK (ZcA (t:=4) rfl) fun _=>?_;refine Y3 results20 rfl rfl (TM (ZfU ?_))
     cases h:validVars l
     . rfl
     rw [h] at hb;cases hb
   intro hb;have hV:validVars l=true:=by
    cases h:validVars l
    . rw [h] at hb;cases hb
    rfl
   refine Zi ?_;refine xL 42 Za (xL 43 (Zu LK) (xL 44 Za ?_));refine ZZ ?_;refine Km 42 rfl fun hlen=>?_;refine Yl (ι:={k:Nat//k<=l.length/\∀(j:Nat) (x:Var),j<k->l[j]? =some x->∀s∈x.acts,0<=partOf c.parts s}) (fun k=>⟨[(0,v0,ZV l),(3,padd (sbase h3) 0, .val (padd (sbase h3) 0)),(6,h32, .smap (skv (Y2 0 c.parts))),(42,v0,ZV l),(43, .int .i64 l.length,Zb l.length),(44, .int .i64 k.1,Zb k.1)],[(3,h3, .own 42 2 1 [Zb c.kind,L4 c.parts])]⟩) (fun k=>l.length-k.1) ⟨0,oM,fun j x hj=>oM⟩ ?_;rintro ⟨k,hk,hpre⟩;dsimp only;refine ZF ?_;refine Yq rfl ?_ ?_
   . intro hb5;(have hlt:k<l.length:=by have:=Qf hb5;omega);obtain ⟨x,hx⟩:=get_some hlt;have hD:=Y4 ZM l k x hx;have hfit:=Ww ZM hx;refine Zi ?_;refine xM (Ze LK) ?_;refine yU (We P2) fun v47=>?_;refine Zt [(.slice none 0 0),(.int .i64 0)] 2 9 Zcz fun h9=>?_;refine Zn 9 P2 ?_;refine YT ?_;refine xM (Zc 9 OP) ?_;refine yU (Zf 9 Pt) fun v49=>?_;refine xL 50 (Zu Zcy) (xL 51 Za ?_);refine ZZ ?_;refine Km 49 rfl fun hlenx=>?_;refine Yl (ι:={j:Nat//j<=x.acts.length/\∀(m:Nat) (s:BA),m<j->x.acts[m]? =some s->0<=partOf c.parts s}) (fun j=>⟨[(0,v0,ZV l),(3,padd (sbase h3) 0, .val (padd (sbase h3) 0)),(6,h32, .smap (skv (Y2 0 c.parts))),(42,v0,ZV l),(43, .int .i64 l.length,Zb l.length),(44, .int .i64 k,Zb k),(49,v49,ZX x.acts),(50, .int .i64 x.acts.length,Zb x.acts.length),(51, .int .i64 j.1,Zb j.1)],[(3,h3, .own 42 2 1 [Zb c.kind,L4 c.parts])]⟩) (fun j=>x.acts.length-j.1) ⟨0,oM,fun m s hm=>oM⟩ ?_;rintro ⟨j,hj,hprej⟩;dsimp only;refine ZF ?_;refine Yq rfl ?_ ?_
     . intro hb8;(have hltj:j<x.acts.length:=by have:=Qf hb8;omega);obtain ⟨s,hsj⟩:=get_some hltj;have e2:=Yf (f:=Zx) hsj;have hlook:=Zlx c.parts s;refine Zi ?_;refine xM (Ze Zcy) ?_;refine yV (Zw Zok) ?_;refine ZW ?_;refine xL 56 Za (xL 57 Za (xL 58 (ZpN E') (xL 55 Za (xL 59 GO (xL 60 GO (xL 12 Wj (xL 13 Wj ?_)))))));refine Ox ?_;refine Yq rfl ?_ ?_
       . intro hb11;refine ZP ?_;refine YK (ZcA (t:=4) rfl) fun _=>?_;refine Y3 results20 rfl rfl (TM (ZfV hV hF (ZaT (Xb hx) (Xb hsj) ?_)));rw [hlook] at hb11;simpa using hb11
       intro hb11;refine ZP ?_;refine Zh ⟨j+1,oM,fun m s' hm hs'=>?_⟩ (by show x.acts.length-(j+1)<x.acts.length-j;omega) sB sB;by_cases e:m=j
       . subst e;rw [hsj] at hs';cases hs';rw [hlook] at hb11;simpa using hb11
       exact hprej m s' oM hs'
     intro hb8;(have hgej:x.acts.length<=j:=by have:=Qg hb8;omega);refine ZP ?_;refine Zh ⟨k+1,oM,fun j' x' hj' hx'=>?_⟩ (by show l.length-(k+1)<l.length-k;omega) sB sB;by_cases e:j'=k
     . subst e;rw [hx] at hx';cases hx';intro s hs';obtain ⟨m,hm⟩:=XM hs';exact hprej m s (by have:=Zd hm;omega) hm
     exact hpre j' x' oM hx'
   intro hb5;(have hge:l.length<=k:=by have:=Qg hb5;omega);have hP:∀x∈l,∀s∈x.acts,0<=partOf c.parts s:=fun x hx=>by
    obtain ⟨j,hj⟩:=XM hx;exact hpre j x (by have:=Zd hj;omega) hj
   refine nav ?_;clear hpre hge hb5 hk;refine Zp ?_;refine xM (Zc 3 Rw) ?_;refine yU (Zf 3 DG) fun v66=>?_;refine xM (Zu DI) ?_;refine KF 68 Zlt fun h68 ho68=>?_;refine ZW ?_;refine xM (Zc 3 Rw) ?_;refine yU (Zf 3 DG) fun v70=>?_;refine xM (Zu DI) ?_;refine KF 72 ZhD fun h72 ho72=>?_;refine ZD ?_;refine Zs (TQ (l:=68) ((List.replicate c.parts.length ([]:List Var)).map (Lv 28)) rfl sM (ZhF _ _)) fun _=>?_;refine Zp ?_;refine xL 73 Za (xL 74 (Wu 72 P3) (xL 75 Za ?_));refine ZZ ?_;refine Yl (ι:={k:Nat//k<=c.parts.length}) (fun k=>⟨[(0,v0,ZV l),(3,padd (sbase h3) 0, .val (padd (sbase h3) 0)),(6,h32, .smap (skv (Y2 0 c.parts))),(14,h68, .val h68),(15,h72, .val h72),(73,h72, .val h72),(74, .int .i64 c.parts.length,Zb c.parts.length),(75, .int .i64 k.1,Zb k.1)],[(3,h3, .own 42 2 1 [Zb c.kind,L4 c.parts]),(68,h68, .own 22 1 c.parts.length ((List.replicate c.parts.length ([]:List Var)).map (Lv 28))),(72,h72, .own 78 1 c.parts.length (List.replicate k.1 (.omap [])++List.replicate (c.parts.length-k.1) (.val (.map none))))]⟩) (fun k=>c.parts.length-k.1) ⟨0,oM⟩ ?_;rintro ⟨k,hk⟩;dsimp only;refine ZF ?_;refine Yq rfl ?_ ?_
   . intro hb18;(have hlt:k<c.parts.length:=by have:=Qf hb18;omega);refine Jh ?_;refine YW ?_;refine Rl 80 fun h80 ho80=>?_;refine xM (Zk 72 P3) ?_;refine L8 72 k rfl rfl Ca Zlw rfl rfl rfl (by assumption) rfl oM (by simp;omega) ?_;refine ZZ ?_;refine Zs (To (l:=72) (l':=80) (j:=k) rfl (XK (by simp;omega)) rfl rfl) fun _=>?_;refine Gt ?_;exact Zh ⟨k+1,oM⟩ (by show c.parts.length-(k+1)<c.parts.length-k;omega) sB ⟨rfl,rfl,by show some _=some _;rw [Zly hlt],trivial⟩
   intro hb18;(have hge:k=c.parts.length:=by have:=Qg hb18;omega);refine Zi ?_;refine xL 83 Za (xL 84 (Zu LK) (xL 85 Za ?_));refine ZZ ?_;refine Y0 (ι:={x:Nat×List (List Var)//Zsw l c x}) (fun x=>⟨[(0,v0,ZV l),(3,padd (sbase h3) 0, .val (padd (sbase h3) 0)),(6,h32, .smap (skv (Y2 0 c.parts))),(14,h68, .val h68),(15,h72, .val h72),(83,v0,ZV l),(84, .int .i64 l.length,Zb l.length),(85, .int .i64 x.1.1,Zb x.1.1)],[(3,h3, .own 42 2 1 [Zb c.kind,L4 c.parts]),(68,h68, .own 22 1 c.parts.length (x.1.2.map (Lv 28))),(72,h72, .own 78 1 c.parts.length (x.1.2.map oAt))]⟩) (fun x=>l.length-x.1.1) ⟨(0,List.replicate c.parts.length []),Zsx l c⟩ (fun a w H=>H.weaken sB ⟨rfl,rfl,by show some _=some _;rw [hge,Zom],trivial⟩) ?_;clear hge hb18 hk;rintro ⟨⟨k,R⟩,hI⟩;dsimp only;obtain ⟨hk,hRl,hWR,S,hRS,hSok,hsp⟩:=id hI;dsimp only at hk hRl hWR hRS hSok hsp;refine ZF ?_;refine Yq rfl ?_ ?_
   . intro hb23;(have hlt:k<l.length:=by have:=Qf hb23;omega);obtain ⟨x,hx⟩:=get_some hlt;have hD:=Y4 ZM l k x hx;have hfit:=Ww ZM hx;have hin:=hP x (Xb hx);have hok:=Se hV hx;have hcnt:=Zeh hok;(have hxl:x.acts.length<=200:=by simp only [Kc,Xf,U'] at hok;exact hok.1.1.1);have hkind:=OS hF;have hCS:=Zoc c x.acts (Y2 0 c.parts) (fun t ht=>Zlz (hin t ht)) hin oM oM hn1 hkind.1 hkind.2.1;rw [OT hx] at hsp;refine Zi ?_;refine xM (Ze LK) ?_;refine yU (We P2) fun v88=>?_;refine Zt [(.slice none 0 0),(.int .i64 0)] 2 18 Zcz fun h18=>?_;refine Zn 18 P2 ?_;refine ZZ ?_;refine (show Wh c x.acts=none\/∃ps,Wh c x.acts=some ps by cases Wh c x.acts with|none=>exact .inl rfl|some ps=>exact .inr ⟨ps,rfl⟩).elim (fun hO=>?_) (fun hO=>hO.elim fun ps hO=>?_)
     . rw [hO] at hCS hsp;refine Zp ?_;refine xM (Zc 18 OP) ?_;refine yU (Zf 18 Pt) fun v91=>?_;refine xM (Zc 3 CX) ?_;refine yV (Zf 3 GI) ?_;refine xM (Zc 3 Rw) ?_;refine yU (Zf 3 DG) fun v95=>?_;refine xL 96 (Zu DI) (xL 97 Za ?_);refine Zik (R:=(· = .tup [.val (.slice none 0 0),Zr false])) 98 202 203 rfl rfl (Xa rfl) rfl rfl rfl (Hz rfl call66 rfl hCS) ?_;rintro p' rfl;refine ⟨_,_,rfl,rfl,rfl,?_⟩;intro v202 v203 hv202 hv203 _ _;cases hv202;cases hv203;refine Ts ?_;refine W2 ?_;refine Yq rfl ?_ (fun h=>by cases h);intro _;refine ZP ?_;refine YK (ZcA (t:=4) rfl) fun _=>?_;refine Y3 results20 rfl rfl (TM (ZcB hV hF ?_ hsp));unfold JB;rw [Xj];intro x hx;rw [Xj];exact fun s hs=>Qa (hP x hx s hs)
     rw [hO] at hCS hsp;refine Zp ?_;refine xM (Zc 18 OP) ?_;refine yU (Zf 18 Pt) fun v91=>?_;refine xM (Zc 3 CX) ?_;refine yV (Zf 3 GI) ?_;refine xM (Zc 3 Rw) ?_;refine yU (Zf 3 DG) fun v95=>?_;refine xL 96 (Zu DI) (xL 97 Za ?_);refine Zik (R:=(· = .tup [TL ps,Zr true])) 98 202 203 rfl rfl (Xa rfl) rfl rfl rfl (Hz rfl call66 rfl hCS) ?_;rintro p' rfl;refine ⟨_,_,rfl,rfl,rfl,?_⟩;intro v202 v203 hv202 hv203 _ _;cases hv203;refine Ts ?_;refine W2 ?_;refine Yq rfl (fun h=>by cases h) ?_;intro _;refine nav ?_;have hPS:=ζF oM hin hO;have hWP:=ZfQ hok hO;(have hpl:ps.length<=1000300:=by have:=hPS.1;omega);(have hk300:l.length<=300:=by simp only [validVars,Xf,U'] at hV;exact hV.1);refine Zp ?_;refine xL 103 Za (xL 104 (Zu ZaS) (xL 105 Za ?_));refine ZZ ?_;refine Yl (ι:={y:Nat×List (List Var)//ZlA c S ps x.count k y}) (fun y=>⟨[(0,v0,ZV l),(3,padd (sbase h3) 0, .val (padd (sbase h3) 0)),(6,h32, .smap (skv (Y2 0 c.parts))),(14,h68, .val h68),(15,h72, .val h72),(83,v0,ZV l),(84, .int .i64 l.length,Zb l.length),(85, .int .i64 k,Zb k),(18,padd (sbase h18) 0, .val (padd (sbase h18) 0)),(103,v202,TL ps),(104, .int .i64 ps.length,Zb ps.length),(105, .int .i64 y.1.1,Zb y.1.1)],[(3,h3, .own 42 2 1 [Zb c.kind,L4 c.parts]),(18,h18, .own 28 2 1 [ZX x.acts,Zb x.count]),(68,h68, .own 22 1 c.parts.length (y.1.2.map (Lv 28))),(72,h72, .own 78 1 c.parts.length (y.1.2.map oAt))]⟩) (fun y=>ps.length-y.1.1) ⟨(0,R),Zsy ps x.count hRl hWR hRS hSok⟩ ?_;rintro ⟨⟨i,R'⟩,hIP⟩;dsimp only;refine ZF ?_;refine Yq rfl ?_ ?_
     . intro hb29;(have hlti:i<ps.length:=by have:=Qf hb29;omega);obtain ⟨⟨pp,pw⟩,hp⟩:=get_some hlti;have hpm:=Xb hp;have hpw:WOk pw:=hWP _ hpm;have hpr:=hPS.2 _ hpm;dsimp only at hpr;obtain ⟨pn,rfl⟩:∃pn:Nat,pp=(pn:Int):=⟨pp.toNat,oM⟩;obtain ⟨b1,b2,b3,S',b4,b5,b6⟩:=id hIP;dsimp only at b1 b2 b3 b4 b5 b6;obtain ⟨r,hr⟩:∃r,R'[pn]? =some r:=get_some oM;have hput:ZaQ x.count R' ⟨(pn:Int),pw⟩=R'.set pn (bump r pw x.count):=Zls hr;have hRok:=b4.ok b5 r (Xb hr);have hD2:=Y4 Lu ps i _ hp;have hfit2:=Ww Lu hp;have hWr:∀y∈r,WOk y.acts:=b3 r (Xb hr);refine Zi ?_;refine xM (Ze ZaS) ?_;refine yU (We CW) fun v108=>?_;refine Zt [(.int .i64 0),(.slice none 0 0)] 2 22 ZhE fun h22=>?_;refine Zn 22 CW ?_;refine YT ?_;refine xM (Zc 22 Eh) ?_;refine yU (Zf 22 Pt) fun v110=>?_;refine On 111 rfl rfl (Xa rfl) (Hz rfl call67 rfl (Zsu pw (by have:=hpw.1;omega) (Zoh hpw))) ?_;rintro p' rfl;refine ⟨rfl,?_⟩;intro v111 hv111;cases hv111;refine ZD ?_;(have hcA:(R'.map oAt)[pn]? =some (oAt r):=by rw [Xl,hr];rfl);(have hcR:(R'.map (Lv 28))[pn]? =some (Lv 28 r):=by rw [Xl,hr];rfl);refine Zs (T6 (l:=72) (l':=600) (j:=pn) rfl hcA rfl rfl) fun v=>?_;obtain ⟨m,hm⟩:=v;dsimp only;refine Zs (T6 (l:=68) (l':=601) (j:=pn) rfl hcR rfl rfl) fun v=>?_;obtain ⟨hd,hhd⟩:=v;dsimp only;have hc72:((R'.map oAt).set pn (.val m))[pn]? =some (.val m):=XK (by rw [Xc];omega);have hc68:((R'.map (Lv 28)).set pn (.val hd))[pn]? =some (.val hd):=XK (by rw [Xc];omega);refine Zp ?_<;>refine xL 113 Za (xL 114 (Zc 22 GZ) ?_)<;>refine yV (Zf 22 GI) ?_<;>refine xM (Zk 72 P3) ?_<;>(refine Zbu 117 rfl rfl (Xa rfl) (Jk 72 pn Ca rfl rfl rfl (by first|rfl|omega) hc72 rfl) ?_;intro v117 hv117;cases hv117)<;>refine xL 118 Za (xL 119 (Zel 600 E') (xL 112 Za (xL 120 GO (xL 121 GO (xL 24 Wj (xL 25 Wj ?_))))))<;>refine YT ?_;refine W2 ?_;have hbnd:r.length<=400000000/\∀y∈r,0<=y.count/\y.count<=400000000000000:=by
        refine ⟨by have:=hRok.1;omega,fun y hy=>?_⟩;have:=hRok.2 y hy;exact ⟨this.1,by have:=this.2;omega⟩
       refine Ja (ι:={y:Value×List Var×Nat×Var//Met r pw x.count y.1 y.2.1 y.2.2.1 y.2.2.2}) (fun y=>⟨[(0,v0,ZV l),(3,padd (sbase h3) 0, .val (padd (sbase h3) 0)),(6,h32, .smap (skv (Y2 0 c.parts))),(14,h68, .val h68),(15,h72, .val h72),(83,v0,ZV l),(84, .int .i64 l.length,Zb l.length),(85, .int .i64 k,Zb k),(18,padd (sbase h18) 0, .val (padd (sbase h18) 0)),(103,v202,TL ps),(104, .int .i64 ps.length,Zb ps.length),(105, .int .i64 i,Zb i),(22,padd (sbase h22) 0, .val (padd (sbase h22) 0)),(24, .int .i64 y.1.2.2.1,Zb y.1.2.2.1)],[(3,h3, .own 42 2 1 [Zb c.kind,L4 c.parts]),(18,h18, .own 28 2 1 [ZX x.acts,Zb x.count]),(22,h22, .own 114 2 1 [Zb pn,ZX pw]),(68,h68, .own 22 1 c.parts.length ((R'.map (Lv 28)).set pn (.val y.1.1))),(72,h72, .own 78 1 c.parts.length ((R'.map oAt).set pn (.val m))),(600,m,oAt (bump r pw x.count)),(601,y.1.1,Lv 28 y.1.2.1)]⟩) ?_ ?_
       . refine Yq rfl ?_ ?_
         . intro hb33;have hmg:Kx (Oe Sb 0 r) (Sb pw)=none:=by
            rw [<-L5]
            cases h:KC (skv (Oe Sb 0 r)) (.string (Sb pw)) with
            |none=>rfl
            |some v=>rw [h] at hb33;cases hb33
           obtain ⟨hnew,hat⟩:=Zcw hmg;have hat':=hat x.count;rw [XC] at hat';have hrb:=hbnd.1;have hpwl:=hpw.1;have hfr:=Z1 ZM r;unfold Lv;refine Zi ?_;refine xL 124 Za (xL 125 (Zc 22 GZ) ?_)<;>refine yV (Zf 22 GI) ?_<;>refine xM (Zk 68 LL) ?_<;>(refine Zbu 128 rfl rfl (Xa rfl) (Jk 68 pn Sz rfl rfl rfl (by first|rfl|omega) hc68 rfl) ?_;intro v128 hv128;cases hv128)<;>refine xL 129 (Wu 601 LK) (xL 24 Wj ?_)<;>refine YT ?_;refine xL 130 Za (xL 131 (Zc 22 GZ) ?_)<;>refine yV (Zf 22 GI) ?_<;>refine xM (Zk 72 P3) ?_<;>(refine Zbu 134 rfl rfl (Xa rfl) (Jk 72 pn Ca rfl rfl rfl (by first|rfl|omega) hc72 rfl) ?_;intro v134 hv134;cases hv134)<;>refine YW ?_<;>refine PG 600 E' ?_<;>refine ZZ ?_;(refine Yx [15] [22,68] ?_<;>refine gDx 0 ?_<;>refine xD 1 rfl (Zc 22 GZ) ?_<;>(refine yD 2 rfl (Zf 22 GI) fun v139 h=>?_;cases h)<;>refine gDx 3 ?_<;>refine xD 4 rfl (Zc 22 GZ) ?_<;>(refine yD 5 rfl (Zf 22 GI) fun v142 h=>?_;cases h)<;>refine xD 6 rfl (Zk 68 LL) ?_<;>(refine Zei 7 144 rfl kR rfl rfl (Xa rfl) (Jk 68 pn Sz rfl rfl rfl (by first|rfl|omega) hc68 rfl) ?_;intro v144 hv144;cases hv144)<;>refine xE 8 rfl (Zc 22 Eh) ?_<;>(refine yE 9 rfl (Zf 22 Pt) fun v146 h=>?_;cases h)<;>(refine aDr 10 fun bk=>?_)<;>(refine On 147 rfl rfl (Xa rfl) (Hz rfl call68 rfl (ZqH pw oM)) ?_;rintro p' rfl;refine ⟨rfl,?_⟩;intro v147 hv147;clear hv147)<;>refine bE bk ?_<;>refine xE 11 rfl (ZA Zlu) ?_<;>(refine aDr 12 fun bk=>?_)<;>refine Wy 149 Zcx fun h149 ho149=>?_<;>refine bE bk ?_<;>(refine aDr 13 fun bk=>?_)<;>refine Y7 601 149 150 Zcx fun h150 ho150=>?_<;>refine bE bk ?_<;>refine xE 14 rfl (Zk 68 LL) ?_<;>(refine ZY 15 kR ?_)<;>(refine Wx rfl rfl kR fun DQ bk=>?_)<;>(refine L8 68 pn rfl rfl Sz Zlv rfl rfl rfl (by assumption) rfl (by first|rfl|omega) (by rw [Xm,Xc];omega) ?_)<;>refine WC (bk _ (nav ?_))<;>try dsimp only)
           refine ZJ (ZK (l:=150) 601 rfl rfl) fun _=>?_;(have hrow3:r.flatMap YL++[ZX pw,Zb 0]=(r++[(⟨pw,0⟩:Var)]).flatMap YL:=by rw [XR];rfl);refine EA ⟨(h150,r++[⟨pw,0⟩],r.length,⟨pw,0⟩),ho150,sM,rfl,Zoj hnew,by show (0:Int)<=0;decide,by show (0:Int)<=400000000000000;decide,by simp;omega⟩ sB ⟨rfl,rfl,rfl,?_,rfl,?_,?_,trivial⟩
           . show some _=some _;rw [X4]
           . show some _=some _;unfold oAt;rw [hat',Oq]
           show some _=some _;rw [<-hrow3];simp;rfl
         intro hb33;obtain ⟨v,hmg⟩:∃v,Kx (Oe Sb 0 r) (Sb pw)=some v:=by
          rw [<-L5]
          cases h:KC (skv (Oe Sb 0 r)) (.string (Sb pw)) with
          |none=>rw [h] at hb33;cases hb33
          |some v=>exact ⟨v,rfl⟩
         obtain ⟨ix,z,hv,hz,hzw,hset⟩:=Zcv hpw ZlC hWr hmg;rw [XC] at hv;have hzb:=hbnd.2 z (Xb hz);refine nav ?_;refine EA ⟨(hd,r,ix,z),hhd,hz,hzw,(hset _).1,hzb.1,hzb.2,hbnd.1⟩ ⟨rfl,rfl,rfl,rfl,rfl,rfl,rfl,rfl,rfl,rfl,rfl,rfl,rfl,?_,trivial⟩ ⟨rfl,rfl,rfl,rfl,rfl,?_,rfl,trivial⟩
         . show some _=some _;rw [L5,hmg,hv];rfl
         show some _=some _;unfold oAt;rw [(hset _).2]
       rintro ⟨⟨hd',r',ix,z⟩,hM⟩;obtain ⟨m1,m2,m3,m4,m5,m6,m7⟩:=id hM;dsimp only at m1 m2 m3 m4 m5 m6 m7 ⊢;have hc1:((R'.map (Lv 28)).set pn (.val hd'))[pn]? =some (.val hd'):=XK (by rw [Xc];omega);(have hcz:(r'.flatMap YL)[ix*2+1]? =some (Zb z.count):=by rw [Yr ZM m2 (j:=1) dC];rfl);have hixl:=Zd m2;have hfl:=Z1 ZM r';unfold Lv;refine nav ?_;(refine Yx [14] [18,22,68,601] ?_<;>refine gDx 0 ?_<;>refine xD 1 rfl (Zc 22 GZ) ?_<;>(refine yD 2 rfl (Zf 22 GI) fun v154 h=>?_;cases h)<;>refine xD 3 rfl (Zk 68 LL) ?_<;>(refine Zei 4 156 rfl kR rfl rfl (Xa rfl) (Jk 68 pn Sz rfl rfl rfl (by first|rfl|omega) hc1 rfl) ?_;intro v156 hv156;cases hv156)<;>refine gDx 5 ?_<;>refine xD 6 rfl (Zk 601 LK) ?_<;>refine xD 7 rfl (Zc 601 OQ) ?_<;>(refine Zei 8 160 rfl kR rfl rfl (Xa rfl) (Jk 601 (ix*2+1) GI rfl rfl rfl (by first|rfl|omega) hcz rfl) ?_;intro v160 hv160;cases hv160)<;>refine xE 9 rfl (Zc 18 OQ) ?_<;>(refine yE 10 rfl (Zf 18 GI) fun v162 h=>?_;cases h)<;>refine gEx 11 ?_<;>refine xE 12 rfl (Zk 601 LK) ?_<;>refine xE 13 rfl (Zc 601 OQ) ?_<;>(refine ZY 14 kR ?_)<;>(refine Wx rfl rfl kR fun DQ bk=>?_)<;>(refine L8 601 (ix*2+1) rfl rfl GI Zol rfl rfl rfl rfl rfl (by first|rfl|omega) (by rw [hfl];omega) ?_)<;>refine WC (bk _ (nav ?_))<;>try dsimp only)
       have hset2:(r'.flatMap YL).set (ix*2+1) (Zb (z.count+x.count))=(bump r pw x.count).flatMap YL:=by
        rw [S1 ZM r' ix 1 z ⟨pw,z.count+x.count⟩ _ m2 dC (by simp [YL,m3]),m4]
       (have hlen2:r'.length=(bump r pw x.count).length:=by rw [<-m4,Xm]);refine Zs (To (l:=68) (l':=601) (j:=pn) rfl hc1 rfl rfl) fun _=>?_;refine Zs (To (l:=72) (l':=600) (j:=pn) rfl hc72 rfl rfl) fun _=>?_;refine Gt ?_;have hIP2:ZlA c S ps x.count k (i+1,R'.set pn (bump r pw x.count)):=hput▸ZlB hIP hp hpw oM hcnt.2;have hrows:((R'.map (Lv 28)).set pn (.val hd')).set pn (.own 28 2 r'.length ((r'.flatMap YL).set (ix*2+1) (Zb (z.count+x.count))))=(R'.set pn (bump r pw x.count)).map (Lv 28):=by
        rw [X4,hset2,hlen2,Uu];rfl
       have hats:((R'.map oAt).set pn (.val m)).set pn (oAt (bump r pw x.count))=(R'.set pn (bump r pw x.count)).map oAt:=by
        rw [X4,Uu]
       exact Zh ⟨(i+1,R'.set pn (bump r pw x.count)),hIP2⟩ (by show ps.length-(i+1)<ps.length-i;omega) sB ⟨rfl,rfl,congrArg (fun cs=>some (h68,PV.own 22 1 c.parts.length cs)) hrows,congrArg (fun cs=>some (h72,PV.own 78 1 c.parts.length cs)) hats,trivial⟩
     intro hb29;(have hgei:ps.length<=i:=by have:=Qg hb29;omega);refine ZP ?_;exact Zh ⟨(k+1,R'),Zon hIP hgei hlt hpl hsp⟩ (by show l.length-(k+1)<l.length-k;omega) sB sB
   intro hb23;(have hge:l.length<=k:=by have:=Qg hb23;omega);(have hall:splitAll c (List.replicate c.parts.length []) l=some S:=by rw [hsp,XO hge];rfl);have hIn:JB c.parts l=true:=by
    unfold JB;rw [Xj];intro x hx;rw [Xj];exact fun s hs=>Qa (hP x hx s hs)
   refine Zi ?_;refine xL 168 Za (xL 169 (Wu 68 LL) (xL 170 Za ?_));refine ZZ ?_;refine Yl (ι:={j:Nat//j<=c.parts.length/\∀(i:Nat) (r:List Var),i<j->R[i]? =some r->bigVars r=false}) (fun j=>⟨[(14,h68, .val h68),(168,h68, .val h68),(169, .int .i64 c.parts.length,Zb c.parts.length),(170, .int .i64 j.1,Zb j.1)],[(68,h68, .own 22 1 c.parts.length (R.map (Lv 28)))]⟩) (fun j=>c.parts.length-j.1) ⟨0,oM,fun i r hi=>oM⟩ ?_;rintro ⟨j,hj,hbig⟩;dsimp only;refine ZF ?_;refine Yq rfl ?_ ?_
   . intro hb41;(have hltj:j<c.parts.length:=by have:=Qf hb41;omega);obtain ⟨r,hr⟩:∃r,R[j]? =some r:=get_some oM;(have hcR:(R.map (Lv 28))[j]? =some (Lv 28 r):=by rw [Xl,hr];rfl);refine Zs (T6 (l:=68) (l':=601) (j:=j) rfl hcR rfl rfl) fun v=>?_;obtain ⟨hd,hhd⟩:=v;dsimp only;have hc68:((R.map (Lv 28)).set j (.val hd))[j]? =some (.val hd):=XK (by rw [Xc];omega);refine Zi ?_;refine xM (Zk 68 LL) ?_<;>(refine Zbu 173 rfl rfl (Xa rfl) (Jk 68 j Sz rfl rfl rfl (by first|rfl|omega) hc68 rfl) ?_;intro v173 hv173;cases hv173)<;>refine ZW ?_;refine YU ?_;refine On 175 rfl rfl (Xa rfl) (ZmA rfl call38 (ps:=[ZV r, .fn 69 []]) ⟨⟨_,_,rfl,ZlD (l:=601) rfl⟩,⟨_,_,rfl,Gr (x:= .func 69) rfl⟩,trivial⟩ (Ro 69 [] (fun x=>decide (1048576<x.count)) r call69 (fun x _=>Zlp x)) (fun p hp=>by rw [hp];rfl)) ?_;rintro p' rfl;refine ⟨rfl,?_⟩;intro v175 hv175;cases hv175;refine ZZ ?_;refine Yq rfl ?_ ?_
     . intro hb43;refine ZP ?_;refine YK (ZcA (t:=4) rfl) fun _=>?_;refine Y3 results20 rfl rfl (TM (ZfW hV hF hIn hall ?_));rw [<-hRS.any bigVars fun _ _ h=>ZfS h];exact ζt hr hb43
     intro hb43;refine ZP ?_;refine ZJ (To (l:=68) (l':=601) (j:=j) rfl hc68 rfl rfl) fun _=>?_;have hcs:((R.map (Lv 28)).set j (.val hd)).set j (Lv 28 r)=R.map (Lv 28):=by
      rw [X4];exact H5 hcR
     refine Zh ⟨j+1,oM,fun i r' hi hr'=>?_⟩ (by show c.parts.length-(j+1)<c.parts.length-j;omega) sB ⟨by show some _=some _;rw [hcs],trivial⟩;by_cases e:i=j
     . subst e;rw [hr] at hr';cases hr';exact hb43
     exact hbig i r' oM hr'
   intro hb41;(have hgej:c.parts.length<=j:=by have:=Qg hb41;omega);have hB:S.any bigVars=false:=by
    rw [<-hRS.any bigVars fun _ _ h=>ZfS h];exact ZdJ fun i r hr=>hbig i r (by have:=Zd hr;omega) hr
   refine nav ?_;clear hbig hgej hb41 hj;refine Zp ?_;refine xL 177 Za (xL 178 (Wu 68 LL) (xL 179 Za ?_));refine ZZ ?_;refine Yl (ι:={y:Nat×List (List Var)//y.1<=c.parts.length/\y.2.length=R.length/\(∀(i:Nat) (r t:List Var),R[i]? =some r->y.2[i]? =some t->(i<y.1->Asc t/\t.Perm r)/\(y.1<=i->t=r))/\∀(i:Nat) (r:List Var),i<y.1->R[i]? =some r->Kl r=false}) (fun y=>⟨[(14,h68, .val h68),(177,h68, .val h68),(178, .int .i64 c.parts.length,Zb c.parts.length),(179, .int .i64 y.1.1,Zb y.1.1)],[(68,h68, .own 22 1 c.parts.length (y.1.2.map (Lv 28)))]⟩) (fun y=>c.parts.length-y.1.1) ⟨(0,R),sM,rfl,fun i r t hr ht=>⟨fun h=>by simp at h,fun _=>by dsimp only at ht;rw [hr] at ht;cases ht;rfl⟩,fun i r h=>by simp at h⟩ ?_;rintro ⟨⟨j,T⟩,hj,hTl,hT,hmany⟩;dsimp only at hj hTl hT hmany ⊢;refine ZF ?_;refine Yq rfl ?_ ?_
   . intro hb47;(have hltj:j<c.parts.length:=by have:=Qf hb47;omega);obtain ⟨r,hr⟩:∃r,R[j]? =some r:=get_some oM;have hTr:T[j]? =some r:=by
      obtain ⟨t,ht⟩:∃t,T[j]? =some t:=get_some oM;rw [ht,(hT j r t hr ht).2 (Xd _)]
     (have hcR:(T.map (Lv 28))[j]? =some (Lv 28 r):=by rw [Xl,hTr];rfl);refine Zs (T6 (l:=68) (l':=601) (j:=j) rfl hcR rfl rfl) fun v=>?_;obtain ⟨hd,hhd⟩:=v;dsimp only;have hc68:((T.map (Lv 28)).set j (.val hd))[j]? =some (.val hd):=XK (by rw [Xc];omega);have hWr:∀y∈r,WOk y.acts:=hWR r (Xb hr);obtain ⟨sj,hsj⟩:∃s,S[j]? =some s:=get_some (by have:=hRS.1;omega);have hnd:Nodup r:=((hRS.2 j r sj hr hsj).1.nodup).perm (hRS.2 j r sj hr hsj).2.symm;have hnext:∀t',Asc t'->t'.Perm r->∀(i:Nat) (r0 t:List Var),R[i]? =some r0->(T.set j t')[i]? =some t->(i<j+1->Asc t/\t.Perm r0)/\(j+1<=i->t=r0):=fun t' h1 h2 i r0 t hr0 ht=>by
      by_cases e:i=j
      . subst e;rw [XK oM] at ht;rw [hr] at hr0
        cases ht;cases hr0;exact ⟨fun _=>⟨h1,h2⟩,fun h=>oM⟩
      rw [X9 (Ne.symm e)] at ht;have:=hT i r0 t hr0 ht;exact ⟨fun h=>this.1 oM,fun h=>this.2 oM⟩
     have hcs:∀t':List Var,t'.length=r.length->((T.map (Lv 28)).set j (.val hd)).set j (.own 28 2 r.length (t'.flatMap YL))=(T.set j t').map (Lv 28):=fun t' h=>by
      rw [X4,<-h,Uu];rfl
     unfold Lv;refine Zi ?_;refine xM (Zk 68 LL) ?_<;>(refine Zbu 182 rfl rfl (Xa rfl) (Jk 68 j Sz rfl rfl rfl (by first|rfl|omega) hc68 rfl) ?_;intro v182 hv182;cases hv182)<;>refine ZW ?_;refine xL 183 Za (xL 184 (Wu 601 LK) (xL 185 G3 ?_));refine ZZ ?_;refine Yq rfl ?_ ?_
     . intro hb49;refine ZP ?_;refine YK (ZcA (t:=4) rfl) fun _=>?_;refine Y3 results20 rfl rfl (TM (ZfX hV hF hIn hall hB ?_));rw [<-hRS.any Kl fun _ _ h=>Zcu h];exact ζt hr (by unfold Kl;have:=Qf hb49;exact Qa oM)
     intro hb49;(have hle:r.length<=300:=by have:=Qg hb49;omega);have hm1:∀(i:Nat) (r0:List Var),i<j+1->R[i]? =some r0->Kl r0=false:=fun i r0 hi hr0=>by
      by_cases e:i=j
      . subst e;rw [hr] at hr0;cases hr0;unfold Kl;exact Qb oM
      exact hmany i r0 oM hr0
     refine (show r=[]\/0<r.length by cases r with|nil=>exact .inl rfl|cons=>exact .inr sM).elim (fun h0=>?_) (fun h0=>?_)
     . (have hl0:r.length=0:=by rw [h0];rfl);refine Wp ?_;refine Zoo (l:=601) ZdI rfl rfl (Xa rfl) rfl call70 rfl rfl (by rw [hl0];rfl) ?_;refine ZZ ?_;refine Zs (To (l:=68) (l':=601) (j:=j) rfl hc68 rfl rfl) fun _=>?_;refine Gt ?_;exact Zh ⟨(j+1,T.set j r),by show j+1<=_;omega,by show (T.set j r).length=_;rw [Xm];exact hTl,hnext r (by rw [h0];exact List.Pairwise.nil) (.refl _),hm1⟩ (by show c.parts.length-(j+1)<c.parts.length-j;omega) sB ⟨congrArg (fun cs=>some (h68,PV.own 22 1 c.parts.length cs)) (hcs r rfl),trivial⟩
     refine Zi ?_;refine YU ?_;refine Zdi (l:=601) (f:=YL) (rows:=r) (cmp:=fun a b:Var=>cmpStrs a.acts b.acts) Zlr ZM dC (fun _=>rfl) ZqI Zsz ZsA (fun x y M W u v hx hy hu hv=>Zlq x y (Zjn (hWr x hx)) (Zjn (hWr y hy)) M W u v hu hv) h0 oM rfl rfl (Xa rfl) rfl call70 rfl rfl rfl ?_;intro r2 hp2 hs2;refine ZZ ?_;refine Zs (To (l:=68) (l':=601) (j:=j) rfl hc68 rfl rfl) fun _=>?_;refine Gt ?_;exact Zh ⟨(j+1,T.set j r2),by show j+1<=_;omega,by show (T.set j r2).length=_;rw [Xm];exact hTl,hnext r2 (ZsB hnd hp2 hs2) hp2,hm1⟩ (by show c.parts.length-(j+1)<c.parts.length-j;omega) sB ⟨congrArg (fun cs=>some (h68,PV.own 22 1 c.parts.length cs)) (hcs r2 hp2.length_eq),trivial⟩
   intro hb47;(have hgej:c.parts.length<=j:=by have:=Qg hb47;omega);have hM:S.any Kl=false:=by
    rw [<-hRS.any Kl fun _ _ h=>Zcu h];exact ZdJ fun i r hr=>hmany i r (by have:=Zd hr;omega) hr
   have hTS:T=S:=hRS.sorted hTl fun i r t hr ht=>(hT i r t hr ht).1 (by have:=Zd hr;omega);refine YQ ?_;refine YK (En.freeze (l:=68) (t:=4) rfl rfl) fun _=>?_;refine Y3 results20 rfl rfl ?_;rw [ZfY hV hF hIn hall hB hM,ZhG _ _ _ _ oM,hTS];rfl
 (refine Zp ?_<;>refine yU (Zm 3 ZaR) fun v31=>?_<;>(refine Zik (R:=fun p=>∃q,p= .tup [q,Zr false]/\Tm q=true) 32 32 201 rfl rfl (Xa rfl) rfl rfl rfl (Hz rfl call64 rfl ((ZfA c hs).mono fun p ⟨q,e1,_,e3⟩=>⟨q,by rw [e1,hF],by rcases e3 with rfl|⟨es,rfl⟩<;>rfl⟩)) ?_;rintro p' ⟨q,rfl,hq⟩;refine ⟨_,_,rfl,hq,rfl,?_⟩;intro h32 v201 _ hv201 ho32 _;cases hv201)<;>refine Ts ?_)
 refine Y8 ?_;refine kL ?_;refine kL ?_;refine kL ?_;refine ZD ?_;refine Yq rfl ?_ (fun h=>by cases h);intro _;refine ZP ?_;refine YK (ZcA (t:=4) rfl) fun _=>?_;refine Y3 results20 rfl rfl (TM (ZfU ?_));rw [hF];simp
open Go.RowKit Go.Cb Go.En Go.ChangeShapes Go.WideShapes Go.ChangeAt
def Zjo (g:Dfg) (c:Cut):Bool:=JM g&&Y1 c&&Zsn (cnames g.acts) g.acts.length (W3 (cnames g.acts) g.follows) (Y5 (cnames g.acts) g.starts) (Y5 (cnames g.acts) g.ends) c
def ZtE:Dec prog 9 1 (fun s:BA=>[Zx s]) (fun s=>s.size<=140737488355328):=Zqn underlying9 kR
def Ztk:Dec prog 26 1 (fun l=>[ZX l]) Zdf:=
 ζm id (Zcd underlying26 kR dC (Xa kR) ZtE) (fun _=>rfl) (fun l=>by show [PV.sl l.length (l.map Zx)]=_;rw [ZeJ]) (fun _ h=>h)
def ZsC:Dec prog 3 1 (fun n:Int=>[Zb n]) (fun n=> -9223372036854775808<=n/\n<=9223372036854775807):=Zqm underlying3 kR
section
variable {κ:Type} [DecidableEq κ]
def iget:List (κ×Int)->κ->Int
 |[],_=>0
 |x::l,k=>if k=x.1 then x.2 else iget l k
def T3:List (κ×Int)->κ->Int->List (κ×Int)
 |[],k,v=>[(k,v)]
 |x::l,k,v=>if k=x.1 then (k,v)::l else x::T3 l k v
def G' (m:List (κ×Int)) (k:κ) (n:Int):List (κ×Int):=T3 m k (iget m k+n)
def KU (m:List (κ×Int)):List (κ×Value):=m.map fun x=>(x.1, .int .i64 x.2)
def ZaU (m:List (κ×Int)) (k:κ):(Kx (KU m) k).getD (.int .i64 0)= .int .i64 (iget m k):=by
 induction m with
 |nil=>rfl
 | cons x m ih=>
   show (Kx ((x.1,Value.int .i64 x.2)::KU m) k).getD _=_;rw [Kx,iget];split
   . rfl
   exact ih
def ZaV (m:List (κ×Int)) (k:κ) (v:Int):Je (KU m) k (.int .i64 v)=KU (T3 m k v):=by
 induction m with
 |nil=>rfl
 | cons x m ih=>
   show Je ((x.1,Value.int .i64 x.2)::KU m) k _=_;rw [Je,T3];split
   . rfl
   rw [ih];rfl
def ZcC {m:List (κ×Int)} {k:κ} {v:Int}:∀x,x∈(T3 m k v).map (·.1)↔x=k\/x∈m.map (·.1):=by
 induction m with
 |nil=>intro x;simp [T3]
 | cons y m ih=>
   intro x;rw [T3];split
   . rename_i e;subst e;simp
   rw [Xn,Xi,ih,Xn,Xi];constructor
   . rintro (h|h|h)
     . exact .inr (.inl h)
     . exact .inl h
     exact .inr (.inr h)
   rintro (h|h|h)
   . exact .inr (.inl h)
   . exact .inl h
   exact .inr (.inr h)
def ZhH {m:List (κ×Int)} {k:κ} {v:Int} (hn:(m.map (·.1)).Nodup):((T3 m k v).map (·.1)).Nodup:=by
 induction m with
 |nil=>simp [T3]
 | cons y m ih=>
   rw [T3];rw [Xn,Vk] at hn;split
   . rename_i e;rw [Xn,Vk];dsimp only;rw [e];exact hn
   rename_i e;rw [Xn,Vk];refine ⟨fun h=>?_,ih hn.2⟩;rcases (ZcC _).1 h with h|h
   . exact e h.symm
   exact hn.1 h
def Zop (m:List (κ×Int)) (k:κ) (v:Int):(T3 m k v).length<=m.length+1:=by
 induction m with
 |nil=>simp [T3]
 |cons y m ih=>rw [T3];split<;>simp<;>omega
end
def mkC (x:BA×Int):Cnt:=⟨x.1,x.2⟩
def mkF (x:Pr×Int):Flw:=⟨x.1.1,x.1.2,x.2⟩
def ZsD:Value×Value->Cnt
 |(.string s, .int _ n)=>⟨s,n⟩
 |_=>⟨ByteArray.empty,0⟩
def ZqJ (m:List (BA×Int)):(skv (KU m)).map ZsD=m.map mkC:=by
 unfold skv KU
 rw [XB,XB]
 rfl
def ZqK {m:List (BA×Int)} {x:Value×Value} (h:x∈skv (KU m)):∃s n,(s,n)∈m/\x.1= .string s/\x.2= .int .i64 n:=by
 unfold skv KU at h
 rw [XB] at h
 obtain ⟨y,hy,rfl⟩:=Xp.1 h
 exact ⟨y.1,y.2,hy,rfl,rfl⟩
def ZsE:Value×Value->Flw
 |(.agg ⟨[.string a, .string b]⟩, .int _ n)=>⟨a,b,n⟩
 |_=>⟨ByteArray.empty,ByteArray.empty,0⟩
def ZqL (m:List (Pr×Int)):(akv (KU m)).map ZsE=m.map mkF:=by
 unfold akv KU
 rw [XB,XB]
 rfl
def ZqM {m:List (Pr×Int)} {x:Value×Value} (h:x∈akv (KU m)):∃k n,(k,n)∈m/\x.1=Ti k/\x.2= .int .i64 n:=by
 unfold akv KU at h
 rw [XB] at h
 obtain ⟨y,hy,rfl⟩:=Xp.1 h
 exact ⟨y.1,y.2,hy,rfl,rfl⟩
def SameC (L:List Cnt) (m:List (BA×Int)):Prop:=L.Perm (m.map mkC)/\L.Pairwise fun a b=>strLt a.name b.name=true
def SameF (L:List Flw) (m:List (Pr×Int)):Prop:=L.Perm (m.map mkF)/\L.Pairwise fun a b=>Jc a b<0
def Zf0 {L rows:List Cnt} {m:List (BA×Int)} (hn:(m.map (·.1)).Nodup) (hp:L.Perm (m.map mkC)) (hr:rows.Perm L) (ho:∀(i j:Nat) (a b:Cnt),i<j->rows[i]? =some a->rows[j]? =some b->¬Yc b.name a.name<0):SameC rows m:=by
 refine ⟨hr.trans hp,?_⟩
 have h1:(rows.map (·.name)).Nodup:=by
  have h2:=((hr.trans hp).map (·.name));rw [XB] at h2;exact (h2.pairwise_iff (R:=(· ≠ ·)) fun h=>Ne.symm h).2 hn
 rw [List.nodup_iff_pairwise_ne,X7] at h1
 rw [XW] at h1 ⊢
 intro i j hi hj hij
 have h3:=h1 i j hi hj hij
 have h4:=ho i j _ _ hij (Xr hi) (Xr hj)
 rw [Tt] at h4
 cases h5:strLt rows[i].name rows[j].name with
 |true=>rfl
 |false=>exact Qe (Gu h5 (by simpa using h4)) h3
def CY {a b:Flw}:Jc a b=0↔a.src=b.src/\a.dst=b.dst:=by
 unfold Jc
 by_cases h:Yc a.src b.src=0
 . rw [Qd h,K1];exact ⟨fun h2=>⟨K1.1 h,h2⟩,fun h2=>h2.2⟩
 rw [Qc h];exact ⟨fun h2=>Qe h2 h,fun h2=>Qe (K1.2 h2.1) h⟩
def Lw {a b:Flw}:Jc a b<0↔strLt a.src b.src=true\/(a.src=b.src/\strLt a.dst b.dst=true):=by
 unfold Jc
 by_cases h:Yc a.src b.src=0
 . rw [Qd h,Tt];have h1:=K1.1 h;constructor
   . exact fun h2=> .inr ⟨h1,h2⟩
   rintro (h2|h2)
   . rw [h1,W4] at h2;exact Qe h2 dC
   exact h2.2
 rw [Qc h,Tt];constructor
 . exact fun h2=> .inl h2
 rintro (h2|h2)
 . exact h2
 exact Qe (K1.2 h2.1) h
def So {a b:Flw} (h:¬Jc b a<0) (hne:¬(a.src=b.src/\a.dst=b.dst)):Jc a b<0:=by
 rw [Lw] at h ⊢
 cases h1:strLt a.src b.src with
 |true=>exact .inl rfl
 | false=>
   have h2:strLt b.src a.src=false:=by
    cases h3:strLt b.src a.src with
    |false=>rfl
    |true=>exact Qe (.inl h3) h
   have h4:=Gu h1 h2;refine .inr ⟨h4,?_⟩
   cases h5:strLt a.dst b.dst with
   |true=>rfl
   | false=>
     have h6:strLt b.dst a.dst=false:=by
      cases h7:strLt b.dst a.dst with
      |false=>rfl
      |true=>exact Qe (.inr ⟨h4.symm,h7⟩) h
     exact Qe ⟨h4,Gu h5 h6⟩ hne
def Te {a b c:Flw} (h:Jc a b<0) (k:Jc b c<0):Jc a c<0:=by
 rw [Lw] at h k ⊢
 rcases h with h|⟨h1,h2⟩
 . rcases k with k|⟨k1,k2⟩
   . exact .inl (KH h k)
   exact .inl (k1▸h)
 rcases k with k|⟨k1,k2⟩
 . exact .inl (h1▸k)
 exact .inr ⟨h1.trans k1,KH h2 k2⟩
def TN (a:Flw):¬Jc a a<0:=by rw [CY.2 ⟨rfl,rfl⟩];decide
def ZlE {a b c:Flw} (h:¬Jc a b<0) (k:¬Jc b c<0):¬Jc a c<0:=fun hc=>by
 by_cases e1:b.src=a.src/\b.dst=a.dst
 . refine k ?_;rw [Lw] at hc ⊢;rw [e1.1,e1.2];exact hc
 by_cases e2:c.src=b.src/\c.dst=b.dst
 . refine h ?_;rw [Lw] at hc ⊢;rw [<-e2.1,<-e2.2];exact hc
 have h1:=So h e1;have h2:=So k e2;exact TN _ (Te hc (Te h2 h1))
def Zf1 {L rows:List Flw} {m:List (Pr×Int)} (hn:(m.map (·.1)).Nodup) (hp:L.Perm (m.map mkF)) (hr:rows.Perm L) (ho:∀(i j:Nat) (a b:Flw),i<j->rows[i]? =some a->rows[j]? =some b->¬Jc b a<0):SameF rows m:=by
 refine ⟨hr.trans hp,?_⟩
 have h1:(rows.map fun f=>((f.src,f.dst):Pr)).Nodup:=by
  have h2:=((hr.trans hp).map fun f=>((f.src,f.dst):Pr));rw [XB] at h2;exact (h2.pairwise_iff (R:=(· ≠ ·)) fun h=>Ne.symm h).2 hn
 rw [List.nodup_iff_pairwise_ne,X7] at h1
 rw [XW] at h1 ⊢
 intro i j hi hj hij
 have h3:=h1 i j hi hj hij
 have h4:=ho i j _ _ hij (Xr hi) (Xr hj)
 exact So h4 fun e=>h3 (Prod.ext e.1 e.2)
def ZlF {a b c:BA} (h:Yc a b<0) (k:Yc b c<0):Yc a c<0:=by
 rw [Tt] at h k ⊢;exact KH h k
def ZhI (a:BA):¬Yc a a<0:=by rw [K1.2 rfl];decide
def ZlG {a b c:BA} (h:¬Yc a b<0) (k:¬Yc b c<0):¬Yc a c<0:=fun hc=>by
 rw [Tt] at h k hc
 by_cases e:strLt b a=true
 . exact k (KH e hc)
 have h1:a=b:=Gu (by simpa using h) (by simpa using e);rw [h1] at hc;exact k hc
end Go.Proofs.YtmkojdfiadbeeaaGreat
namespace Go.En
open Go.RowKit Go.Cb
def AFg.exact2 {P:Program} {g:Nat} {p q:PV} {x:Value} (h:AFg P g [p,q] (· = .val x)) {M:BS} {W:World} {u v:Value} (hu:Shr M W u p) (hv:Shr M W v q):
 Calls P g #[u,v] W fun e w'=>e= .returned x/\∃q os',w'=Go.Sort.grow (W.drewN q) os':=h.exact (vs:=[u,v]) rfl fun i a r h1 h2=>by
 match i with
 |0=>simp at h1 h2;subst h1 h2;exact hu
 |1=>simp at h1 h2;subst h1 h2;exact hv
 |i+2=>simp at h1
end Go.En
namespace Go.Proofs.YtmkojdfiadbeeaaGreat
open Go.RowKit Go.Cb Go.En Tryz
def Gh:ElT prog 31 169 2 24 (.agg #[(.string ByteArray.empty),(.int .i64 0)]):=⟨underlying31,by kernel_rfl,rfl,dC⟩
def Hk:Gk prog 169=some ((.agg #[(.string ByteArray.empty),(.int .i64 0)]),([0,1]:List Nat).map fun o=>(o,1)):=kR
def ZaW (s:BA):AFg prog 198 [Zx s] (· =Zr false):=by
 refine AFg.of_body 6 func198 rfl ntmps198 (Xa rfl) ?_
 intro w0 M0 vs hl hv
 obtain ⟨v0,rfl⟩:=ZmF hl
 obtain rfl:=hv 0 _ _ rfl rfl
 clear hl hv
 refine WK ?_;refine LB ?_;refine ZZ ?_
 refine Zg results198 rfl ?_
 simp
def OV (a b:BA):AFg prog 137 [Zx a,Zx b] (· =Zb (Yc a b)):=by
 refine AFg.of_body 20 func137 rfl ntmps137 (Xa rfl) ?_
 intro w0 M0 vs hl hv
 obtain ⟨v0,v1,rfl⟩:=ζH hl
 obtain rfl:=hv 0 _ _ rfl rfl
 obtain rfl:=hv 1 _ _ rfl rfl
 clear hl hv
 refine PH ?_;refine cV (cA call198 (ZaW a)) ?_;refine JG ?_;refine cV (cA call198 (ZaW b)) ?_;refine KG ?_
 refine cCf ?_
 refine ZF ?_
 refine cCf ?_
 refine WL ?_;refine ZC ?_ ?_<;>intro hb16
 . (
 refine ZF ?_;refine Zg results137 rfl ?_;rw [EF hb16])
 refine Zi ?_;refine xL 17 Za (xL 18 Za (xL 19 ZgR ?_));refine ZC ?_ ?_<;>intro hb19
 . (
 refine ZF ?_;refine Zg results137 rfl ?_;rw [EG hb19])
 refine ZF ?_;refine Zg results137 rfl ?_;rw [EH hb16 hb19]
def ZqN (l:List Int):AFg prog 141 [pInts l] (· =Zb (KZ l)):=by
 refine AFg.of_body 18 func141 rfl ntmps141 (Xa rfl) ?_
 intro w0 M0 vs hl hv
 obtain ⟨v0,rfl⟩:=ZmF hl
 clear hl hv
 refine Km 0 rfl fun hlen=>?_
 refine D4 ?_
 refine xL 6 Za (xL 7 (Zu ZS) (xL 8 Za ?_));refine ZZ ?_
 refine Y0 (ι:={k:Nat//k<=l.length/\KZ l=KZ (l.drop k)}) (fun k=>⟨[(3,_,_),(6,_,_),(7,_,_),(8, .int .i64 k.1,Zb k.1)],[]⟩) (fun k=>l.length-k.1) ⟨0,oM,rfl⟩ (fun a w H=>H.weaken sB trivial) ?_
 rintro ⟨k,hk,hp⟩
 dsimp only
 refine Ys ?_ ?_<;>intro hb9
 . (
 obtain ⟨x,hx⟩:=gS l k;have e1:=Yf (f:=Zb) hx;(have hs:KZ (l.drop k)=if x=0 then KZ (l.drop (k+1)) else x:=by rw [WO hx,KZ]);refine Zi ?_;refine xM (Ze ZS) ?_;refine yV (Zw Zq) ?_;refine D5 ?_;refine ZC ?_ ?_<;>intro hb14
 . (
 refine ZP ?_;refine Zg results141 rfl ?_;rw [hp,hs,Qc hb14])
 refine ZP ?_;refine Zh (
  ⟨k+1,oM,by rw [hp,hs,Qd (by simpa using hb14)]⟩
  ) (by dsimp only;omega) sB trivial)
 refine ZP ?_;refine Zg results141 rfl ?_;rw [hp,XO oM];rfl
def ZhJ (a b:Flw):AFg prog 102 [.agg (LQ a), .agg (LQ b)] (· =Zb (Jc a b)):=by
 refine AFg.of_body 17 func102 rfl ntmps102 (Xa rfl) ?_
 intro w0 M0 vs hl hv
 obtain ⟨v0,v1,rfl⟩:=ζH hl
 clear hl hv
 refine Zi ?_
 refine Z4 2 3 fun h2=>?_;refine Z4 3 3 fun h3=>?_;refine ZD ?_
 refine Yx [] [2,3] ?_<;>refine xD 0 rfl (Zc 2 KD) ?_<;>(refine yD 1 rfl (Zf 2 ZE) fun v6 h=>?_;cases h)<;>refine xD 2 rfl (Zc 3 KD) ?_<;>(refine yD 3 rfl (Zf 3 ZE) fun v8 h=>?_;cases h)<;>refine xD 5 rfl (Zc 2 KY) ?_<;>(refine yD 6 rfl (Zf 2 ZE) fun v11 h=>?_;cases h)<;>refine xD 7 rfl (Zc 3 KY) ?_<;>(refine yD 8 rfl (Zf 3 ZE) fun v13 h=>?_;cases h)<;>(refine aDr 4 fun bk=>?_)<;>(refine cV (cA call137 (OV a.src b.src)) ?_)<;>refine bE bk ?_<;>(refine aDr 9 fun bk=>?_)<;>(refine cV (cA call137 (OV a.dst b.dst)) ?_)<;>refine bE bk ?_<;>(refine aDr 10 fun bk=>?_)<;>refine PF (xs:=[_,_]) 15 YY fun h15 ho15=>?_<;>refine bE bk ?_<;>(refine aDr 11 fun bk=>?_)<;>(refine Zz (En.freeze (l:=15) (t:=15) rfl rfl) fun _=>?_;refine cV (cA call141 (ZqN [Yc a.src b.src,Yc a.dst b.dst])) ?_)<;>refine bE bk ?_<;>refine gEx 12 ?_<;>refine Wo ?_
 refine Zg results102 rfl ?_
 unfold Jc KZ KZ KZ
 by_cases h:Yc a.src b.src=0
 . rw [Qd h,Qd h];split<;>simp_all
 rw [Qc h,Qc h]
def Zoq (a b:Cnt):AFg prog 139 [.agg (Lp a), .agg (Lp b)] (· =Zb (Yc a.name b.name)):=by
 refine AFg.of_body 10 func139 rfl ntmps139 (Xa rfl) ?_
 intro w0 M0 vs hl hv
 obtain ⟨v0,v1,rfl⟩:=ζH hl
 clear hl hv
 refine Zi ?_
 refine Z4 2 2 fun h2=>?_;refine Z4 3 2 fun h3=>?_;refine ZW ?_
 refine xM (Zc 2 WP) ?_;refine yV (Zf 2 ZE) ?_;refine xM (Zc 3 WP) ?_;refine yV (Zf 3 ZE) ?_;refine cV (cA call137 (OV a.name b.name)) ?_;refine ZD ?_
 exact Zg results139 rfl rfl
def Zjp:AggT prog 169 2=true:=kR
def ZlH:Ziz prog 138 139 2:=fun enc hk h1 cf hO blk cap d w hcmp hH hblk hsz=>
 AnyQ.slices_SortFunc Tryz.sortCntL 2 (fun w=>AggT.run Zjp w) (fun w=>AggT.size Zjp w) enc hk h1 cf hO 139 #[] blk 0 cap d w call139 hcmp hH hblk hsz
def ZhK (caps:List PV):AF prog 138 [.sl 0 [], .fn 139 caps] (· = .val (.tuple #[])):=fun M w vs hM hlen hv=>by
 obtain ⟨v,fv,rfl⟩:=ζH hlen
 have hS:=hv 0 v _ rfl rfl
 cases hS with
 | emp a c hc ha=>
   refine (AnyF.slices_SortFunc_none Tryz.sortCntL a c fv w).mono fun e w' ⟨h1,h2⟩=>?_;rw [h1,h2];exact ⟨_,_,fun _=>False,rfl,rfl,Ext.rfl' _, .shr (.val _) (fun _ h=>h),fun b hb=>hb.elim,fun h=>h.elim⟩
 | sl b off n c cs vs' hnc hc hcell hT=>
   refine (AnyF.slices_SortFunc_none Tryz.sortCntL _ c fv w).mono fun e w' ⟨h1,h2⟩=>?_;rw [h1,h2];exact ⟨_,_,fun _=>False,rfl,rfl,Ext.rfl' _, .shr (.val _) (fun _ h=>h),fun b hb=>hb.elim,fun h=>h.elim⟩
def Zjq {es:Array MapEntry} {seen:Array Nat} {e:MapEntry} {clock:Nat} (hW:WfM es clock) (he:e∈(leftOf es seen).toList):(leftOf es (seen.push e.born)).size<(leftOf es seen).size:=by
 have h:=(EQ hW he).length_eq
 rw [Xh,HE,HE] at h
 omega
def Zjr {es:Array MapEntry} {seen:Array Nat} {e:MapEntry} (he:e∈(leftOf es seen).toList):(e.key,e.val)∈kvOf es:=Xp.2 ⟨e,Zab he,rfl⟩
def Zf2 {α:Type} {f:α->List PV} {L:List α} {c:α} {ps:List PV} (h:ps=f c):L.flatMap f++ps=(L++[c]).flatMap f:=by
 rw [XR,h];simp
def Sp (m:List (BA×Int)) (hn:(m.map (·.1)).Nodup) (hl:m.length<=1000000):AF prog 100 [.smap (skv (KU m))] (fun p=>∃L,SameC L m/\p= .own 169 2 L.length (L.flatMap Lp)):=by
 refine AF.b1 22 func100 rfl ntmps100 (Xa rfl) fun w0 M0 v0 _=>?_
 refine WK ?_;refine JG ?_;refine ZeL 7 underlying78 (fun b7 r7 c7 es7 hkv7 hWf7=>?_);refine ZZ ?_
 refine Zs (YO 200 169 2 rfl) fun _=>?_
 refine Yl (ι:={x:Value×Array Nat×List Cnt//x.1.oneCell'=true/\(x.2.2=[]->x.1= .slice none 0 0)/\(x.2.2++(kvOf (leftOf es7 x.2.1)).map ZsD).Perm (m.map mkC)}) (fun k=>⟨[(7,_,_),(3,k.1.1, .val k.1.1)],[(7,itv r7,itP b7 r7 c7 es7 k.1.2.1),(200,k.1.1, .own 169 2 k.1.2.2.length (k.1.2.2.flatMap Lp))]⟩) (fun k=>(leftOf es7 k.1.2.1).size) ⟨(.slice none 0 0,#[],[]),rfl,fun _=>rfl,by rw [ZeM,<-hkv7,ZqJ];exact .refl _⟩ ?_
 rintro ⟨⟨hov,seen,L⟩,ho,hnil,hp⟩
 dsimp only
 dsimp only at ho hnil hp
 have hLl:L.length<=1000000:=by
  have:=hp.length_eq;rw [Xe,Xc (f:=mkC)] at this;omega
 have hLm:(L.flatMap Lp).length=L.length*2:=Z1 YM L
 refine Zi ?_
 (refine ZiC 7 8 hWf7 (fun hlf7=>?_) (fun e7 hle7=>?_)<;>refine ZD ?_)<;>(
 refine cX ?_ ?_<;>intro hb9
 . first|exact bN hb9|(
 refine Zi ?_;refine xM (ZiD 7 hWf7 (Zab hle7)) ?_;refine LB ?_;refine ZZ ?_;obtain ⟨s,n,hmem,hks,hvs⟩:=ZqK (hkv7▸Zjr hle7);dsimp only at hks hvs;rw [hks,hvs];refine Zp ?_;refine xL 13 Za (xL 14 Za (xL 15 Za (xL 16 (ZA Hk) ?_)));refine Wy 17 Gh fun h17 ho17=>?_;refine Y7 200 17 18 Gh fun h18 ho18=>?_;refine ZD ?_;refine ZJ (ZK (l:=18) 200 rfl rfl) fun _=>?_;rw [Zf2 (f:=Lp) (L:=L) (c:=(⟨s,n⟩:Cnt)) (by rfl),show L.length+1=(L++[(⟨s,n⟩:Cnt)]).length by simp];refine Zh (
  ⟨(h18,seen.push e7.born,L++[⟨s,n⟩]),ho18,fun h=>Qe h sM,by
    refine .trans ?_ hp;have h1:=(EQ hWf7 hle7).map ZsD;rw [Xn,hks,hvs] at h1;show (L++[_]++_).Perm _;rw [XG];exact h1.symm.append_left L⟩
  ) (Zjq hWf7 hle7) sB sB)
 . first |exact bN hb9|(
 refine nav ?_;have hp0:L.Perm (m.map mkC):=by
  rw [hlf7] at hp;have h1:kvOf (#[]:Array MapEntry)=[]:=rfl;rw [h1,Vz,Xo] at hp;exact hp
 (refine J2 ?_<;>(by_cases hL:L=[]<;>first|(subst hL;obtain rfl:=hnil rfl;refine Zz (En.freeze (l:=200) (t:=19) rfl rfl) fun _=>?_;refine cV (cA call138 (ZhK [])) ?_)|(refine Zdi (l:=200) (β:=Cnt) (f:=Lp) (cmp:=fun a b=>Yc a.name b.name) (rows:=L) ZlH (fun _=>rfl) dC (fun _=>rfl) (fun a=>ZhI _) (fun a b c=>ZlF) (fun a b c=>ZlG) (fun x y M W u v _ _ hu hv=>(Zoq x y).exact2 hu hv) (X5.2 hL) oM rfl rfl (Xa rfl) rfl call138 rfl rfl rfl (fun rows' hperm hord=>?_)))<;>refine ZZ ?_)<;>(
 refine Gt ?_
 first
  |exact Gm 200 results100 rfl rfl ⟨rows',Zf0 hn hp0 hperm hord,by rw [hperm.length_eq]⟩
  | (refine YK (YO 201 169 2 rfl) fun _=>?_
     exact Gm 201 results100 rfl rfl ⟨[],Zf0 hn hp0 (.refl _) (fun i j a b _ h=>by simp at h),rfl⟩))))
structure M4 where
 a:List (BA×Int)
 s:List (BA×Int)
 f:List (BA×Int)
 q:List (Pr×Int)
def WB:List BA->List Pr
 |a::b::l=>(a,b)::WB (b::l)
 |_=>[]
section
variable {κ:Type} [DecidableEq κ]
def addAll (m:List (κ×Int)) (ks:List κ) (c:Int):List (κ×Int):=ks.foldl (fun m k=>G' m k c) m
def CZ (m:List (κ×Int)) (ks:List κ) (k:κ) (c:Int):addAll m (ks++[k]) c=G' (addAll m ks c) k c:=by
 unfold addAll;rw [Ue];rfl
structure MOk (m:List (κ×Int)) (b:Nat):Prop where
 nd:(m.map (·.1)).Nodup
 len:m.length<=b
 bd:∀x∈m,0<=x.2/\x.2<=b*1048576
def MOk.nil:MOk ([]:List (κ×Int)) 0:=⟨List.nodup_nil,Xd _,fun x h=>by simp at h⟩
def MOk.mono {m:List (κ×Int)} {b b':Nat} (h:MOk m b) (hb:b<=b'):MOk m b':=⟨h.nd,XI h.len hb,fun x hx=>by
 have:=h.bd x hx
 have h2:(b:Int)*1048576<=b'*1048576:=oM
 omega⟩
def MOk.get {m:List (κ×Int)} {b:Nat} (h:MOk m b) (k:κ):0<=iget m k/\iget m k<=b*1048576:=by
 have key:∀(m:List (κ×Int)),(∀x∈m,0<=x.2/\x.2<=(b:Int)*1048576)->0<=iget m k/\iget m k<=b*1048576:=fun m=>by
  induction m with
  |nil=>intro _;rw [iget];omega
  | cons x m ih=>
    intro h;rw [iget];split
    . exact h x sM
    exact ih fun y hy=>h y (by simp [hy])
 exact key m h.bd
def ZaX {m:List (κ×Int)} {k:κ} {v:Int} {x:κ×Int} (h:x∈T3 m k v):x=(k,v)\/x∈m:=by
 induction m with
 |nil=>rw [T3,XE] at h;exact .inl h
 | cons y m ih=>
   rw [T3] at h;split at h
   . rcases Xi.1 h with h|h
     . exact .inl h
     exact .inr (by simp [h])
   rcases Xi.1 h with h|h
   . exact .inr (by simp [h])
   rcases ih h with h|h
   . exact .inl h
   exact .inr (by simp [h])
def MOk.add {m:List (κ×Int)} {b:Nat} (h:MOk m b) {k:κ} {n:Int} (h0:0<=n) (h1:n<=1048576):MOk (G' m k n) (b+1):=by
 refine ⟨ZhH h.nd,XI (Zop _ _ _) (Nat.succ_le_succ h.len),fun x hx=>?_⟩
 rcases ZaX hx with rfl|hx
 . have:=h.get k;dsimp only;omega
 have:=h.bd x hx;omega
def MOk.addAll {n:Int} (h0:0<=n) (h1:n<=1048576):∀{ks:List κ} {b:Nat} {m:List (κ×Int)},MOk m b->MOk (addAll m ks n) (b+ks.length)
 |[],b,m,h=>h
 | k::ks,b,m,h=>by
   have:=MOk.addAll h0 h1 (ks:=ks) (h.add (k:=k) h0 h1);rw [Xh,show b+(ks.length+1)=b+1+ks.length by omega];exact this
def ZlI {m:List (κ×Int)} {k:κ} {n:Int} {p:κ->Prop} (h:∀x∈m,p x.1) (hk:p k):∀x∈G' m k n,p x.1:=fun x hx=>by
 rcases ZaX hx with rfl|hx
 . exact hk
 exact h x hx
def OW {c:Int} {p:κ->Prop}:∀{ks:List κ} {m:List (κ×Int)},(∀x∈m,p x.1)->(∀k∈ks,p k)->∀x∈addAll m ks c,p x.1
 |[],m,h,_=>h
 |k::ks,m,h,hk=>OW (ks:=ks) (ZlI h (hk k sM)) fun y hy=>hk y (by simp [hy])
end
def mk1 (st:M4) (x:Var):M4:=⟨addAll st.a x.acts x.count,(match x.acts with|[]=>st.s|s::_=>G' st.s s x.count),(match x.acts.getLast? with|some s=>G' st.f s x.count|none=>st.f),addAll st.q (WB x.acts) x.count⟩
def makeM (l:List Var):M4:=l.foldl mk1 ⟨[],[],[],[]⟩
def Hl {l:List Var} {k:Nat} {x:Var} (h:l[k]? =some x):makeM (l.take (k+1))=mk1 (makeM (l.take k)) x:=by
 unfold makeM;rw [ZR h,Ue];rfl
def Cc:∀l:List BA,(WB l).length<=l.length
 |[]=>Xd _
 |[a]=>Xg _
 |a::b::l=>by rw [WB,Xh,Xh];have:=Cc (b::l);omega
def DJ:∀{l:List BA} {p:Pr},p∈WB l->p.1∈l/\p.2∈l
 |[],p,h=>by simp [WB] at h
 |[a],p,h=>by simp [WB] at h
 | a ::b::l,p,h=>by
   rw [WB] at h;rcases Xi.1 h with rfl|h
   . exact ⟨sM,sM⟩
   have:=DJ h;exact ⟨Xt _ this.1,Xt _ this.2⟩
def ZaY:∀(l:List BA) (a b:BA),WB (l++[a]++[b])=WB (l++[a])++[(a,b)]
 |[],a,b=>rfl
 |[x],a,b=>rfl
 | x::y::l,a,b=>by
   show (x,y)::WB (y::l++[a]++[b])=(x,y)::WB (y::l++[a])++[(a,b)];rw [ZaY (y::l) a b];rfl
def ZhL {w:List BA} {j:Nat} {a b:BA} (ha:w[j]? =some a) (hb:w[j+1]? =some b):WB (w.take (j+1+1))=WB (w.take (j+1))++[(a,b)]:=by
 rw [ZR hb,ZR ha];exact ZaY _ _ _
def ZlJ {w:List BA} {b:BA} (hb:w[0]? =some b):WB (w.take (0+1))=[]:=by
 rw [ZR hb];rfl
def TO {s:BA} (h:isName s=true):s.size<=40:=by
 unfold isName at h
 simp only [Xf,U',Xj] at h
 exact h.1.1.2
structure KOk (st:M4) (b:Nat):Prop where
 a:MOk st.a b
 s:MOk st.s b
 f:MOk st.f b
 q:MOk st.q b
 k:∀x∈st.q,prOk x.1
def KOk.step {st:M4} {b:Nat} {x:Var} (h:KOk st b) (hx:Kc x=true):KOk (mk1 st x) (b+200):=by
 unfold Kc at hx
 simp only [Xf,U',Xj] at hx
 obtain ⟨⟨⟨h1,h2⟩,h3⟩,h4⟩:=hx
 have hp:=Cc x.acts
 refine ⟨(h.a.addAll oM h4).mono oM,?_,?_,(h.q.addAll oM h4).mono oM,OW h.k fun k hk=>?_⟩
 . unfold mk1;dsimp only;split
   . exact h.s.mono oM
   exact (h.s.add oM h4).mono oM
 . unfold mk1;dsimp only;split
   . exact (h.f.add oM h4).mono oM
   exact h.f.mono oM
 have:=DJ hk;have n1:=TO (h2 _ this.1);have n2:=TO (h2 _ this.2);exact ⟨oM,oM⟩
def KOk.all {l:List Var} (hl:∀x∈l,Kc x=true):∀k,k<=l.length->KOk (makeM (l.take k)) (k*200)
 |0,_=>⟨MOk.nil,MOk.nil,MOk.nil,MOk.nil,fun x h=>by simp [makeM] at h⟩
 | k+1,hk=>by
   obtain ⟨x,hx⟩:=get_some (show k<l.length by omega);rw [Hl hx,X3];exact (KOk.all hl k oM).step (hl x (Xb hx))
end Go.Proofs.YtmkojdfiadbeeaaGreat
namespace Go.En
open Go.RowKit Go.Cb
def Zor {sL hP:List (Nat×Ent)} {t:Nat} {vs:List Value} {q:PV} (ht:lk sL t=some (.agg vs.toArray,q)):Tn (⟨sL,hP⟩:St) (fun _:Unit=>⟨put t (.agg vs.toArray, .agg (vs.map .val)) sL,hP⟩):=fun c a w ⟨F,H⟩=>by
 refine ⟨(),F,H.toHeapF,fun s u r hs=>?_,H.size,H.df⟩
 rcases YC hs with ⟨rfl,e⟩|⟨_,e⟩
 . cases e;refine ⟨(H.sl _ _ _ ht).1, .agg _ _ (by rw [Xc]) fun i v p hv hp=>?_⟩;rw [Xl,hv] at hp
   cases hp;exact .val _
 exact H.sl s u r e
end Go.En
namespace Go.Proofs.YtmkojdfiadbeeaaGreat
open Go.RowKit Go.Cb Go.En Tryz
def Cd:ArrT prog 82 2=true:=kR
def Gi:ElT prog 32 136 3 40 (.agg #[(.string ByteArray.empty),(.string ByteArray.empty),(.int .i64 0)]):=⟨underlying32,by kernel_rfl,rfl,dC⟩
def OX:FldT prog 81 0 0=true:=kR
def C0:FldT prog 81 1 1=true:=kR
def C1:FldT prog 81 2 2=true:=kR
def C2:FldT prog 81 3 3=true:=kR
def TD:NoAgg prog 78=true:=kR
def ZcD:NoAgg prog 79=true:=kR
def Hm:Gk prog 136=some ((.agg #[(.string ByteArray.empty),(.string ByteArray.empty),(.int .i64 0)]),([0,1,2]:List Nat).map fun o=>(o,1)):=kR
def LM:Gk prog 34=some ((.agg #[(.slice none 0 0),(.slice none 0 0),(.slice none 0 0),(.slice none 0 0)]),([0,1,2,3]:List Nat).map fun o=>(o,1)):=kR
def ZlK:Gk prog 81=some ((.agg #[(.map none),(.map none),(.map none),(.map none)]),([0,1,2,3]:List Nat).map fun o=>(o,1)):=kR
def ZcE:(prog.info? 32).map (·.size)=some 1:=kR
def JW:ZeroT prog 34 (.agg #[(.slice none 0 0),(.slice none 0 0),(.slice none 0 0),(.slice none 0 0)]):=by unfold ZeroT;kernel_rfl
def ZcF:ZeroT prog 82 (.agg #[(.string ByteArray.empty),(.string ByteArray.empty)]):=by unfold ZeroT;kernel_rfl
def ZbE:AF prog 44 [] (· = .obox 81 4 [.omap [], .omap [], .omap [], .omap []]):=by
 refine AF.of_body 7 func44 rfl ntmps44 (Xa rfl) ?_
 intro w0 M0 vs hl hv
 obtain rfl:=Xv hl
 clear hl hv
 refine WK ?_
 refine Rl 1 fun h1 ho1=>?_;refine Rl 2 fun h2 ho2=>?_;refine Rl 3 fun h3 ho3=>?_;refine Rl 4 fun h4 ho4=>?_;refine xM (ZA ZlK) ?_;refine Z4 6 4 fun h6=>?_;refine ZD ?_
 refine YK (To (l:=6) (l':=1) (j:=0) rfl rfl rfl rfl) fun _=>?_
 refine YK (To (l:=6) (l':=2) (j:=1) rfl rfl rfl rfl) fun _=>?_
 refine YK (To (l:=6) (l':=3) (j:=2) rfl rfl rfl rfl) fun _=>?_
 refine YK (To (l:=6) (l':=4) (j:=3) rfl rfl rfl rfl) fun _=>?_
 exact Zne 6 results44 rfl rfl rfl
def Zjs:AggT prog 136 3=true:=kR
def ZsF:AggT prog 82 2=true:=kR
def ZlL:Ziz prog 101 102 3:=fun enc hk h1 cf hO blk cap d w hcmp hH hblk hsz=>
 AnyQ.slices_SortFunc Tryz.sortFlwL 3 (fun w=>AggT.run Zjs w) (fun w=>AggT.size Zjs w) enc hk h1 cf hO 102 #[] blk 0 cap d w call102 hcmp hH hblk hsz
def ZhM (caps:List PV):AF prog 101 [.sl 0 [], .fn 102 caps] (· = .val (.tuple #[])):=fun M w vs hM hlen hv=>by
 obtain ⟨v,fv,rfl⟩:=ζH hlen
 have hS:=hv 0 v _ rfl rfl
 cases hS with
 | emp a c hc ha=>
   refine (AnyF.slices_SortFunc_none Tryz.sortFlwL a c fv w).mono fun e w' ⟨h1,h2⟩=>?_;rw [h1,h2];exact ⟨_,_,fun _=>False,rfl,rfl,Ext.rfl' _, .shr (.val _) (fun _ h=>h),fun b hb=>hb.elim,fun h=>h.elim⟩
 | sl b off n c cs vs' hnc hc hcell hT=>
   refine (AnyF.slices_SortFunc_none Tryz.sortFlwL _ c fv w).mono fun e w' ⟨h1,h2⟩=>?_;rw [h1,h2];exact ⟨_,_,fun _=>False,rfl,rfl,Ext.rfl' _, .shr (.val _) (fun _ h=>h),fun b hb=>hb.elim,fun h=>h.elim⟩
def WX (e n:Nat) (l:List Cnt) (hn:n=l.length):share (.own e 2 n (l.flatMap Lp))=Jf l:=by
 subst hn
 rw [share,YG,Uv];rfl
def P4 (e n:Nat) (l:List Flw) (hn:n=l.length):share (.own e 3 n (l.flatMap LQ))=HN l:=by
 subst hn
 rw [share,YG,Uv];rfl
def T4 (g:Dfg) (st:M4):Prop:=SameC g.acts st.a/\SameC g.starts st.s/\SameC g.ends st.f/\SameF g.follows st.q
def Zos (st:M4) (b:Nat) (hb:b<=1000000) (hk:KOk st b):AF prog 45 [.sptr 0 [.smap (skv (KU st.a)), .smap (skv (KU st.s)), .smap (skv (KU st.f)), .smap (akv (KU st.q))]] (fun p=>∃g,T4 g st/\p=Ji g):=by
 have l1:=hk.a.len
 have l2:=hk.s.len
 have l3:=hk.f.len
 have l4:=hk.q.len
 refine AF.b1 47 func45 rfl ntmps45 (Xa rfl) fun w0 M0 v0 _=>?_
 refine Zi ?_
 refine Zt [(.slice none 0 0),(.slice none 0 0),(.slice none 0 0),(.slice none 0 0)] 4 2 JW fun h2=>?_;refine ZZ ?_
 (refine Yx [17] [] ?_<;>refine gDx 0 ?_<;>refine xD 1 rfl Ku ?_<;>refine xD 2 rfl (Yg OX) ?_<;>(refine yD 3 rfl (Zw TD) fun v9 h=>?_;cases h)<;>refine gDx 5 ?_<;>refine xD 6 rfl Ku ?_<;>refine xD 7 rfl (Yg C0) ?_<;>(refine yD 8 rfl (Zw TD) fun v14 h=>?_;cases h)<;>refine gDx 10 ?_<;>refine xD 11 rfl Ku ?_<;>refine xD 12 rfl (Yg C1) ?_<;>(refine yD 13 rfl (Zw TD) fun v19 h=>?_;cases h)<;>(refine WJ 4 16 kR ?_ ?_;rotate_right;(focus ((refine aWr fun bk=>?_)<;>refine Zt [(.slice none 0 0),(.slice none 0 0),(.slice none 0 0),(.slice none 0 0)] 4 3 JW fun h3=>?_<;>refine bE bk ?_<;>(refine aDr 4 fun bk=>?_)<;>(refine LX 10 rfl rfl (Xa rfl) rfl (cA call100 (Sp st.a hk.a.nd oM)) ?_;rintro p' ⟨La,hLa,rfl⟩;refine ⟨rfl,fun h10 ho10=>?_⟩;refine Zz (En.freeze (l:=10) (t:=10) rfl rfl) fun _=>?_;rw [WX _ _ _ rfl])<;>refine bE bk ?_<;>(refine aDr 9 fun bk=>?_)<;>(refine LX 15 rfl rfl (Xa rfl) rfl (cA call100 (Sp st.s hk.s.nd oM)) ?_;rintro p' ⟨Ls,hLs,rfl⟩;refine ⟨rfl,fun h15 ho15=>?_⟩;refine Zz (En.freeze (l:=15) (t:=15) rfl rfl) fun _=>?_;rw [WX _ _ _ rfl])<;>refine bE bk ?_<;>(refine aDr 14 fun bk=>?_)<;>(refine LX 20 rfl rfl (Xa rfl) rfl (cA call100 (Sp st.f hk.f.nd oM)) ?_;rintro p' ⟨Lf,hLf,rfl⟩;refine ⟨rfl,fun h20 ho20=>?_⟩;refine Zz (En.freeze (l:=20) (t:=20) rfl rfl) fun _=>?_;rw [WX _ _ _ rfl])<;>refine bE bk ?_<;>refine xE 15 rfl (ZA LM) ?_));rotate_right;(focus ((refine aWr fun bk=>?_)<;>(refine LX 10 rfl rfl (Xa rfl) rfl (cA call100 (Sp st.a hk.a.nd oM)) ?_;rintro p' ⟨La,hLa,rfl⟩;refine ⟨rfl,fun h10 ho10=>?_⟩;refine Zz (En.freeze (l:=10) (t:=10) rfl rfl) fun _=>?_;rw [WX _ _ _ rfl])<;>refine bE bk ?_<;>(refine WJ 9 16 kR ?_ ?_;rotate_right;(focus ((refine aWr fun bk=>?_)<;>refine Zt [(.slice none 0 0),(.slice none 0 0),(.slice none 0 0),(.slice none 0 0)] 4 3 JW fun h3=>?_<;>refine bE bk ?_<;>(refine aDr 9 fun bk=>?_)<;>(refine LX 15 rfl rfl (Xa rfl) rfl (cA call100 (Sp st.s hk.s.nd oM)) ?_;rintro p' ⟨Ls,hLs,rfl⟩;refine ⟨rfl,fun h15 ho15=>?_⟩;refine Zz (En.freeze (l:=15) (t:=15) rfl rfl) fun _=>?_;rw [WX _ _ _ rfl])<;>refine bE bk ?_<;>(refine aDr 14 fun bk=>?_)<;>(refine LX 20 rfl rfl (Xa rfl) rfl (cA call100 (Sp st.f hk.f.nd oM)) ?_;rintro p' ⟨Lf,hLf,rfl⟩;refine ⟨rfl,fun h20 ho20=>?_⟩;refine Zz (En.freeze (l:=20) (t:=20) rfl rfl) fun _=>?_;rw [WX _ _ _ rfl])<;>refine bE bk ?_<;>refine xE 15 rfl (ZA LM) ?_));rotate_right;(focus ((refine aWr fun bk=>?_)<;>(refine LX 15 rfl rfl (Xa rfl) rfl (cA call100 (Sp st.s hk.s.nd oM)) ?_;rintro p' ⟨Ls,hLs,rfl⟩;refine ⟨rfl,fun h15 ho15=>?_⟩;refine Zz (En.freeze (l:=15) (t:=15) rfl rfl) fun _=>?_;rw [WX _ _ _ rfl])<;>refine bE bk ?_<;>(refine WJ 14 16 kR ?_ ?_;rotate_right;(focus ((refine aWr fun bk=>?_)<;>refine Zt [(.slice none 0 0),(.slice none 0 0),(.slice none 0 0),(.slice none 0 0)] 4 3 JW fun h3=>?_<;>refine bE bk ?_<;>(refine aDr 14 fun bk=>?_)<;>(refine LX 20 rfl rfl (Xa rfl) rfl (cA call100 (Sp st.f hk.f.nd oM)) ?_;rintro p' ⟨Lf,hLf,rfl⟩;refine ⟨rfl,fun h20 ho20=>?_⟩;refine Zz (En.freeze (l:=20) (t:=20) rfl rfl) fun _=>?_;rw [WX _ _ _ rfl])<;>refine bE bk ?_<;>refine xE 15 rfl (ZA LM) ?_));rotate_right;(focus ((refine aWr fun bk=>?_)<;>(refine LX 20 rfl rfl (Xa rfl) rfl (cA call100 (Sp st.f hk.f.nd oM)) ?_;rintro p' ⟨Lf,hLf,rfl⟩;refine ⟨rfl,fun h20 ho20=>?_⟩;refine Zz (En.freeze (l:=20) (t:=20) rfl rfl) fun _=>?_;rw [WX _ _ _ rfl])<;>refine bE bk ?_<;>refine xD 15 rfl (ZA LM) ?_<;>(refine aDr 16 fun bk=>?_)<;>refine Zt [(.slice none 0 0),(.slice none 0 0),(.slice none 0 0),(.slice none 0 0)] 4 3 JW fun h3=>?_<;>refine bE bk ?_)))))))))<;>(refine ZY 17 kR ?_)<;>(refine Wx rfl rfl kR fun DQ bk=>?_)<;>refine Zn 3 Yu ?_<;>refine WC (bk _ (nav ?_))<;>try dsimp only)<;>(
 refine Zp ?_;refine xL 22 Za (xL 23 Ku (xL 24 (Yg C2) ?_));refine yU (Zw ZcD) fun v25=>?_;refine ZeL 26 underlying79 (fun b26 r26 c26 es26 hkv26 hWf26=>?_);refine ZZ ?_;refine Zs (YO 200 136 3 rfl) fun _=>?_;refine Yl (ι:={x:Value×Array Nat×List Flw//x.1.oneCell'=true/\(x.2.2=[]->x.1= .slice none 0 0)/\(x.2.2++(kvOf (leftOf es26 x.2.1)).map ZsE).Perm (st.q.map mkF)}) (fun k=>⟨[(2,_,_),(3,_,_),(26,_,_)],[(2,_,_),(3,h3, .own 34 4 1 [Jf La,Jf Ls,Jf Lf, .val k.1.1]),(26,itv r26,itP b26 r26 c26 es26 k.1.2.1),(200,k.1.1, .own 136 3 k.1.2.2.length (k.1.2.2.flatMap LQ))]⟩) (fun k=>(leftOf es26 k.1.2.1).size) ⟨(.slice none 0 0,#[],[]),rfl,fun _=>rfl,by rw [ZeM,<-hkv26,ZqL];exact .refl _⟩ ?_;rintro ⟨⟨hov,seen,L⟩,ho,hnil,hp⟩;dsimp only;dsimp only at ho hnil hp;have hLl:L.length<=1000000:=by
  have:=hp.length_eq;rw [Xe,Xc (f:=mkF)] at this;omega
 have hLm:(L.flatMap LQ).length=L.length*3:=Z1 Wk L;refine Zi ?_;(refine ZiC 26 27 hWf26 (fun hlf26=>?_) (fun e26 hle26=>?_)<;>refine ZD ?_)<;>(
 refine cX ?_ ?_<;>intro hb28
 . first|exact bN hb28|(
 refine nav ?_;obtain ⟨kk,n,hmem,hks,hvs⟩:=ZqM (hkv26▸Zjr hle26);dsimp only at hks hvs;refine Zp ?_;refine xM (ZiD 26 hWf26 (Zab hle26)) ?_;refine YW ?_;refine Zt [(.string ByteArray.empty),(.string ByteArray.empty)] 2 4 ZcF fun h4=>?_;rw [hks];refine Zz (Zor (t:=30) (vs:=[.string kk.1, .string kk.2]) rfl) fun _=>?_;refine Zn 4 ZsF ?_;refine ZD ?_;rw [hvs];refine Zp ?_;refine xM (Zc 3 KM) ?_;refine yV (Zf 3 JL) ?_;refine xM (Zm9 4 Cd) ?_;refine yV (Zf 4 ZE) ?_;refine xM (Zm9 4 Cd) ?_;refine yV (Zf 4 ZE) ?_;refine xL 38 Za (xL 39 (ZA Hm) ?_);refine Wy 40 Gi fun h40 ho40=>?_;refine Y7 200 40 41 Gi fun h41 ho41=>?_;refine xM (Zc 3 KM) ?_;refine JY 3 JL ZcE ?_;refine ZZ ?_;refine ZJ (ZK (l:=41) 200 rfl rfl) fun _=>?_;rw [Zf2 (f:=LQ) (L:=L) (c:=(⟨kk.1,kk.2,n⟩:Flw)) (by rfl),show L.length+1=(L++[(⟨kk.1,kk.2,n⟩:Flw)]).length by simp];refine Zh (
  ⟨(h41,seen.push e26.born,L++[⟨kk.1,kk.2,n⟩]),ho41,fun h=>Qe h sM,by
    refine .trans ?_ hp;have h1:=(EQ hWf26 hle26).map ZsE;rw [Xn,hks,hvs] at h1;show (L++[_]++_).Perm _;rw [XG];exact h1.symm.append_left L⟩
  ) (Zjq hWf26 hle26) sB sB)
 . first|exact bN hb28|(
 refine nav ?_;have hp0:L.Perm (st.q.map mkF):=by
  rw [hlf26] at hp;have h1:kvOf (#[]:Array MapEntry)=[]:=rfl;rw [h1,Vz,Xo] at hp;exact hp
 (refine Zp ?_<;>refine xM (Zc 3 KM) ?_<;>refine yV (Zf 3 JL) ?_<;>(by_cases hL:L=[]<;>first|(subst hL;obtain rfl:=hnil rfl;refine Zz (En.freeze (l:=200) (t:=44) rfl rfl) fun _=>?_;refine cV (cA call101 (ZhM [])) ?_;refine Zz (YO 201 136 3 rfl) fun _=>?_;refine Zz (YD (l:=3) (l':=201) (j:=3) rfl rfl rfl rfl) fun _=>?_;rw [show share (.own 136 3 0 [])=HN [] from P4 _ 0 [] rfl];have hF:SameF [] st.q:=Zf1 hk.q.nd hp0 (.refl _) (fun i j a b _ h=>by simp at h))|(refine Zdi (l:=200) (β:=Flw) (f:=LQ) (cmp:=Jc) (rows:=L) ZlL (fun _=>rfl) dC (fun _=>rfl) (fun a=>TN a) (fun a b c=>Te) (fun a b c=>ZlE) (fun x y M W u v _ _ hu hv=>(ZhJ x y).exact2 hu hv) (X5.2 hL) oM rfl rfl (Xa rfl) rfl call101 rfl rfl rfl (fun rows' hperm hord=>?_);refine Zz (YD (l:=3) (l':=200) (j:=3) rfl rfl rfl rfl) fun _=>?_;rw [P4 _ _ _ hperm.length_eq.symm];have hF:SameF rows' st.q:=Zf1 hk.q.nd hp0 hperm hord))<;>refine ZZ ?_)<;>(
 refine Zp ?_;refine yU (Zm 3 Yu) fun v46=>?_;refine Zn 2 Yu ?_;refine ZZ ?_;exact Yp (k:=4) 2 results45 ⟨⟨La,Ls,Lf,_⟩,⟨hLa,hLs,hLf,hF⟩,rfl⟩))))
def WI:ElT prog 22 28 2 32 (.agg #[(.slice none 0 0),(.int .i64 0)]):=⟨underlying22,by kernel_rfl,rfl,dC⟩
def Zjt {α:Type}:∀(ps:List PV) (a b c:List PV) (j:Nat),a.length=j->b.length=ps.length->G7 (a++b++c) j ps=a++ps++c
 | [],a,b,c,j,ha,hb=>by
   have:b=[]:=Xv hb;subst this;rfl
 | p ::ps,a,x::b,c,j,ha,hb=>by
   rw [G7];have h1:(a++(x::b)++c).set j p=(a++[p])++b++c:=by
    subst ha;rw [XG,Vr _ _ (Xd _),Vg];simp
   rw [h1,Zjt (α:=α) ps (a++[p]) b c (j+1) (by simp [ha]) (by simpa using hb)];simp
def G6 {α:Type} (p:α->Bool) (l:List α) (k:Nat):List α:=(l.take k).filter fun s=> !p s
def Pu {α:Type} {p:α->Bool} {l:List α} {k:Nat} {x:α} (hx:l[k]? =some x) (h:p x=true):G6 p l (k+1)=G6 p l k:=by
 unfold G6;rw [ZR hx,Vs];simp [h]
def ZaZ {α:Type} {p:α->Bool} {l:List α} {k:Nat} {x:α} (hx:l[k]? =some x) (h:p x=false):G6 p l (k+1)=G6 p l k++[x]:=by
 unfold G6;rw [ZR hx,Vs];simp [h]
def Ei {α:Type} (p:α->Bool) (l:List α) (k:Nat):(G6 p l k).length<=k:=by
 unfold G6
 have h1:=Vl (fun s=> !p s) (l.take k)
 rw [XA] at h1
 omega
def Ej {α:Type} (p:α->Bool) (l:List α) (k:Nat):List α:=G6 p l k++l.drop (G6 p l k).length
def Zju {α:Type} {p:α->Bool} {l:List α} {k:Nat} {x:α} (hx:l[k]? =some x):(Ej p l k)[k]? =some x:=by
 have h:=Ei p l k
 unfold Ej
 rw [Vp h,Vn,show (G6 p l k).length+(k-(G6 p l k).length)=k by omega]
 exact hx
def Zot {α:Type} (p:α->Bool) (l:List α) {k:Nat} (hk:k<=l.length):(Ej p l k).length=l.length:=by
 have h:=Ei p l k
 unfold Ej
 rw [Xe,Vu];omega
def Zf3 {α:Type} {f:α->List PV} {m:Nat} (hf:∀x,(f x).length=m) {p:α->Bool} {l:List α} {k:Nat} {x:α} (hx:l[k]? =some x) (h:p x=false):
 G7 ((Ej p l k).flatMap f) ((G6 p l k).length*m) (f x)=(Ej p l (k+1)).flatMap f:=by
 have hl:=Ei p l k
 have hlt:=Zd hx
 unfold Ej
 rw [ZaZ hx h,Xe,Xz,Ve (show (G6 p l k).length<l.length by omega)]
 rw [XR,Xq,<-XG,Zjt (α:=α) _ _ _ _ _ (Z1 hf _) (by rw [hf,hf]),XR,XR]
 simp
def ZdK {α:Type} {p:α->Bool} {l:List α}:(idx p l= -1/\∀s∈l,p s=false)\/∃i x,idx p l=(i:Nat)/\l[i]? =some x/\p x=true/\∀j y,j<i->l[j]? =some y->p y=false:=by
 unfold idx
 cases h:l.findIdx? p with
 |none=>exact .inl ⟨rfl,by rw [U5] at h;exact h⟩
 | some i=>
   rw [V6] at h;obtain ⟨hi,hp,hn⟩:=h;exact .inr ⟨i,l[i],rfl,sM,hp,fun j y hj hy=>by
    have:=hn j hj;obtain ⟨hj',rfl⟩:=Xk.1 hy;simpa using this⟩
def ZlM {α:Type} {p:α->Bool} {l:List α} {k:Nat} (h:∀j y,j<k->l[j]? =some y->p y=false):G6 p l k=l.take k:=by
 unfold G6
 rw [Ur]
 intro a ha
 obtain ⟨i,hi,rfl⟩:=V7 ha
 rw [XA] at hi
 have:=h i _ oM (by rw [Xr (by omega:i<l.length)])
 simp [List.getElem_take,this]
def Ek (L:List Var):(L.flatMap YL).all En.one=true:=by rw [List.all_flatMap,Xj];intro x _;rfl
def S3 (e n:Nat) (l:List Var) (hn:n=l.length):share (.own e 2 n (l.flatMap YL))=ZV l:=by
 subst hn
 rw [share,YG,Uv];rfl
def ZdL (f :Nat) (caps:List PV) (p:Var->Bool) (l:List Var) (hl:l.length<=1000000) (hv g:Value) (hc:∀args w,(callFunc f args).run prog w= .ok (.enter f args) w) (hf:∀s∈l,AF prog f (.agg (YL s)::caps) (· =Zr (p s))):
 AFh False prog 10 [(0,hv, .val hv),(1,g, .fn f caps)] [(1000,hv, .own 28 2 l.length (l.flatMap YL))] (fun v q h=>q= .val v/\h=[(1000,v, .own 28 2 (l.filter fun s=> !p s).length ((l.filter fun s=> !p s).flatMap YL))]):=by
 refine AFh.of_body 42 func10 rfl ntmps10 (Xa rfl) rfl ?_
 intro w0 M0 N0
 have hq:=S3 28 l.length l rfl
 refine RF ?_;refine cV (cB rfl call43 (OC f caps p l hc hf) ⟨⟨_,_,rfl,hq▸EB (l:=1000) rfl⟩,⟨_,_,rfl,Gr (x:= .tmp 9) rfl⟩,trivial⟩) ?_;refine ZW ?_;refine Wv ?_ ?_<;>intro hb12
 . (
 refine ZP ?_;refine ZeP [(1000,hv,PV.own 28 2 l.length (l.flatMap YL))] results10 rfl sB ⟨rfl,?_⟩;rw [Ur.2 fun s hs=>?_];rcases ZdK (p:=p) (l:=l) with ⟨_,h⟩|⟨i0,x0,h,_⟩
 . rw [h s hs];rfl
 exfalso;omega)
 obtain ⟨i0,x0,hi0,hx0,hp0,hn0⟩:=(ZdK (p:=p) (l:=l)).resolve_left fun h=>hb12 h.1;have hlt0:=Zd hx0;(have hk0:G6 p l (i0+1)=l.take i0:=by rw [Pu hx0 hp0,ZlM hn0]);rw [hi0];refine YQ ?_;refine Yl (ι:={q:Nat×Nat×List PV//q.1<=l.length/\q.2.1=(G6 p l q.1).length/\q.2.2=(Ej p l q.1).flatMap YL}) (fun k=>⟨[(0,_,_),(1,_,_),(5, .int .i64 k.1.2.1,Zb k.1.2.1),(6, .int .i64 k.1.1,Zb k.1.1)],[(1000,hv, .own 28 2 l.length k.1.2.2)]⟩) (fun k=>l.length-k.1.1) ⟨(i0+1,i0,l.flatMap YL),hlt0,(by dsimp only;rw [hk0,XA];omega),(by dsimp only;unfold Ej;rw [hk0,XA,Vb oM,Vw])⟩ ?_;rintro ⟨⟨k,j,row⟩,hk,hj,hr⟩;dsimp only;dsimp only at hk hj hr;have hle:=Ei p l k;have hjl:j<=l.length:=oM;have hjl2:(j:Int)<=1000000:=oM;(have hrl:row.length=l.length*2:=by rw [hr,Z1 ZM,Zot p l hk]);refine Zi ?_;refine xL 16 Za (xL 17 Za (xL 18 (Wu 1000 Zv) (xL 19 Yn ?_)));refine ZC ?_ ?_<;>intro hb19
 . (
 obtain ⟨x,hx⟩:=gS l k;(have e1:(row.drop (k*2)).take 2=YL x:=by rw [hr];exact Y4 ZM _ _ _ (Zju hx));(have e2:k*2+2<=row.length:=by rw [hr];exact Ww ZM (Zju hx));(have e3:j*2+2<=row.length:=by rw [hrl];have:=Zd hx;omega);refine Zi ?_;refine xL 22 Za (xL 23 Za (xL 24 (Zk 1000 Zv) ?_));refine yU (Zm 1000 W9) fun v25=>?_;refine Zt [(.slice none 0 0),(.int .i64 0)] 2 7 R7 fun h7=>?_;refine Zn 7 W9 ?_;refine YT ?_;refine YU ?_;refine yU (Zm 7 W9) fun v27=>?_;refine cV (LW (f:=f) (ps:=caps) rfl ⟨_,rfl⟩ hc rfl (hf x (Xb hx))) ?_;refine Wg ?_ ?_<;>intro hb29
 . (
 refine Kt ?_;refine yU (Zm 7 W9) fun v32=>?_;refine xM (Zk 1000 Zv) ?_;refine Zn 1000 W9 ?_;refine YT ?_;refine Y8 ?_;refine D7 ?_
 first
  | (exact Yk (
      ⟨(k+1,j,row),Zd hx,(by dsimp only;rw [Pu hx (by simpa using hb29)];exact hj),(by dsimp only;rw [hr];unfold Ej;rw [Pu hx (by simpa using hb29)])⟩
      ))
  | (exact Yk (
      ⟨(k+1,j+1,G7 row (j*2) (YL x)),Zd hx,(by show j+1=(G6 p l (k+1)).length;rw [ZaZ hx (by simpa using hb29)];simp [hj]),(by show G7 row (j*2) (YL x)=(Ej p l (k+1)).flatMap YL;rw [hr,hj];exact Zf3 ZM hx (by simpa using hb29))⟩
      )))
 refine YQ ?_
 first
  | (exact Yk (
      ⟨(k+1,j,row),Zd hx,(by dsimp only;rw [Pu hx (by simpa using hb29)];exact hj),(by dsimp only;rw [hr];unfold Ej;rw [Pu hx (by simpa using hb29)])⟩
      ))
  | (exact Yk (
      ⟨(k+1,j+1,G7 row (j*2) (YL x)),Zd hx,(by show j+1=(G6 p l (k+1)).length;rw [ZaZ hx (by simpa using hb29)];simp [hj]),(by show G7 row (j*2) (YL x)=(Ej p l (k+1)).flatMap YL;rw [hr,hj];exact Zf3 ZM hx (by simpa using hb29))⟩
      )))
 have hkl:k=l.length:=oM;refine Kt ?_;refine xM (RU (i:=j) (j:=l.length) 1000 Zv rfl rfl rfl rfl rfl hjl (Xd _)) ?_;refine ZeQ 1000 WI dC rfl rfl rfl rfl rfl hjl ?_;intro cs2 hcs1 hcs2;refine D6 ?_;refine xM (RU (i:=0) (j:=j) 1000 Zv rfl rfl rfl rfl rfl (Xg _) hjl) ?_;refine ZD ?_;refine YK (Zta (l:=1000) j rfl hjl) fun _=>?_;refine ZeP [(1000,slc hv 0 j 2,PV.own 28 2 j (cs2.take (j*2)))] results10 rfl sB ⟨rfl,?_⟩;(have hF:(l.filter fun s=> !p s)=G6 p l k:=by unfold G6;rw [hkl,Xx]);rw [hcs2,hr,hF,<-hj];congr 4;unfold Ej;rw [XR,List.take_left' (by rw [Z1 ZM,hj])]
def OY (l:List Var) (hl:l.length<=1000000):AF prog 11 [ZV l] (· = .own 28 2 l.length (l.flatMap YL)):=by
 refine AF.b1 8 func11 rfl ntmps11 (Xa rfl) fun w0 M0 v0 _=>?_
 have f3:(l.flatMap YL).length=l.length*2:=Z1 ZM l
 have f4:(l.flatMap YL).all En.one=true:=Ek l
 refine WK ?_
 (refine YU ?_<;>(refine yL 4 (Zp7 Zv) fun v4 hv4=>?_;rcases hv4 with rfl|⟨rfl,hn0⟩)<;>refine ZZ ?_)<;>(
 refine cX ?_ ?_<;>intro hb4
 . first|exact bN hb4|(
 refine ZF ?_;have hl0:l=[]:=Xv hn0;subst hl0;refine YK (YO 200 28 2 rfl) fun _=>?_;exact Gm 200 results11 rfl rfl rfl)
 . first|exact bN hb4|(
 refine Zi ?_;refine T7 5 WI fun h5 ho5=>?_;refine YU ?_;refine Ka 5 7 WI (fun h7 ho7=>?_) f3 f4;refine ZD ?_;refine Gm 7 results11 rfl rfl ?_;rw [XC,XY]))
structure Mv where
 src:Int
 dst:Int
 sym:Int
structure Aut where
 n:Int
 syms:Int
 start:List Int
 fin:List Int
 moves:List Mv
def S4:∀(n:Nat) (L:List Int),L.Nodup->(∀s∈L,0<=s/\s<n)->L.length<=n
 |0,[],_,_=>Xd _
 |0,x::_,_,h=>by have:=h x (Xu ..);omega
 | n +1,L,hn,h=>by
   have h1:=S4 n (L.erase (n:Int)) (hn.erase _) fun s hs=>by
    have h2:=(hn.mem_erase_iff).1 hs;have h3:=h s h2.2;have:=h2.1;omega
   have h2:=List.length_erase (a:=(n:Int)) (l:=L);split at h2<;>omega
inductive Rch (a:Aut) (l:List Int):Int->Prop
 |base {s:Int} (h:s∈l):Rch a l s
 |step {s:Int} {m:Mv} (h:Rch a l s) (hm:m∈a.moves) (hs:m.src=s) (hc:m.sym= -1):Rch a l m.dst
def cntD (far:List Int):Nat:=far.countP fun d=>decide (0<=d)
structure FarOk (n:Nat) (far:List Int):Prop where
 len:far.length=n
 lo:∀d∈far,-1<=d
 hi:∀d∈far,d<cntD far
def InS (a:Aut) (S:List Int):Prop:=∀s∈S,0<=s/\s<a.n
def ZqO {α:Type} {p:α->Bool}:∀{l:List α},l.any p=true->∃(i:Nat) (x:α),idx p l=(i:Int)/\l[i]? =some x/\p x=true:=fun {l} h=>by
 rcases ZdK (p:=p) (l:=l) with ⟨_,h1⟩|⟨i,x,h1,h2,h3,_⟩
 . obtain ⟨x,hx,hp⟩:=X2.1 h;rw [h1 x hx] at hp;cases hp
 exact ⟨i,x,h1,h2,h3⟩
def ZlN {n:Nat} {l:List (Nat×Nat)} (hn:l.Nodup) (hl:∀p∈l,p.1<n/\p.2<n):l.length<=n*n:=by
 have h1:(l.map fun p=>((p.1*n+p.2:Nat):Int)).Nodup:=by
  refine X7.2 (List.Pairwise.imp_of_mem (fun {p q} hp hq hne e=>hne ?_) hn);have h2:=hl p hp;have h3:=hl q hq;have e2:p.1*n+p.2=q.1*n+q.2:=by exact_mod_cast e
  have e3:p.1=q.1:=by
   rcases VB p.1 q.1 with h|h|h
   . have:=Vx n (show p.1+1<=q.1 by omega);rw [Vt] at this;omega
   . exact h
   have:=Vx n (show q.1+1<=p.1 by omega);rw [Vt] at this;omega
  rw [e3] at e2;exact Prod.ext e3 oM
 have h2:=S4 (n*n) _ h1 fun s hs=>by
  obtain ⟨p,hp,rfl⟩:=Xp.1 hs;have h2:=hl p hp;have:=Vx n (show p.1+1<=n by omega);rw [Vt] at this;omega
 simpa using h2
def Za0 {α:Type} {r:α->α->Bool} {l:List α} (h:chainB r l=true) (hi:∀a∈l,r a a=false) (ht:∀a∈l,∀b∈l,∀c∈l,r a b=true->r b c=true->r a c=true):l.Pairwise fun a b=>r a b=true:=by
 induction l with
 |nil=>exact .nil
 | cons x l ih=>
   have h1:∀i a b,(x::l)[i]? =some a->(x::l)[i+1]? =some b->r a b=true:=(J0 r _).1 h;have h2:=ih ((J0 r l).2 fun i a b ha hb=>h1 (i+1) a b ha hb) (fun a ha=>hi a (Xt _ ha)) (fun a ha b hb c hc=>ht a (Xt _ ha) b (Xt _ hb) c (Xt _ hc));refine Xy.2 ⟨fun y hy=>?_,h2⟩
   cases l with
   |nil=>simp at hy
   | cons z l=>
     have h3:=h1 0 x z rfl rfl;rcases Xi.1 hy with rfl|hy2
     . exact h3
     exact ht x sM z sM y (Xt _ hy) h3 ((Xy.1 h2).1 y hy2)
structure AOk (a:Aut):Prop where
 n0:0<=a.n
 n1:a.n<=2000
 s0:0<=a.syms
 s1:a.syms<=40
 ml:a.moves.length<=20000
 st:InS a a.start
 fi:InS a a.fin
 sl:a.start.length<=2000
 fl:a.fin.length<=2000
 mv:∀m∈a.moves,0<=m.src/\m.src<a.n/\0<=m.dst/\m.dst<a.n∧-1<=m.sym/\m.sym<a.syms
def SA:MpT prog 78 9 3 .string (.int .i64 0):=⟨underlying78,underlying9, .inl rfl,by show ZeroT _ _ _;unfold ZeroT;kernel_rfl⟩
def SB:PkT prog 79 82 9 3 (.int .i64 0):=⟨underlying79,underlying82,underlying9,by kernel_rfl,by kernel_rfl,by kernel_rfl,by kernel_rfl,by kernel_rfl,fun a b=>by kernel_rfl,⟨prog.types.size-1,by kernel_rfl⟩,by show ZeroT _ _ _;unfold ZeroT;kernel_rfl⟩
def Za1:PV:= .agg [.val (.slice none 0 0), .val (.slice none 0 0), .val (.slice none 0 0), .val (.slice none 0 0)]
def Zou (l:List Var) (p:PV):Prop:=
 (validVars l=false/\p= .tup [Za1,Zb 1])\/(validVars l=true/\40<(makeM l).a.length/\p= .tup [Za1,Zb 5])\/(validVars l=true/\(makeM l).a.length<=40/\∃g,T4 g (makeM l)/\p= .tup [Ji g,Zb 0])
def ZhN (m:List (BA×Int)) (s:BA):(KC (skv (KU m)) (.string s)).getD (.int .i64 0)= .int .i64 (iget m s):=by
 rw [L5];exact ZaU m s
def Za2 (m:List (BA×Int)) (s:BA) (n:Int):RV (skv (KU m)) (.string s) (.int .i64 n)=skv (KU (T3 m s n)):=by
 rw [Oq,ZaV]
def ZhO {κ:Type} (m:List (κ×Int)):(KU m).map (·.1)=m.map (·.1):=by
 unfold KU;rw [XB];rfl
def ZlO {κ:Type} {m:List (κ×Int)} {p:κ->Prop} (h:∀x∈m,p x.1):∀x∈KU m,p x.1:=fun x hx=>by
 obtain ⟨y,hy,rfl⟩:=Xp.1 hx
 exact h y hy
def Zf4 {m:List (Pr×Value)} {k:Pr} {v:Value} {p:Pr->Prop} (h:∀x∈m,p x.1) (hk:p k):∀x∈Je m k v,p x.1:=fun x hx=>by
 rcases (Zb4 x.1).1 (Xp.2 ⟨x,hx,rfl⟩) with h1|h1
 . rw [h1];exact hk
 obtain ⟨z,hz,hzx⟩:=Xp.1 h1;rw [<-hzx];exact h z hz
def midA (st:M4) (x:Var) (j:Nat):List (BA×Int):=addAll st.a (x.acts.take j) x.count
def midQ (st:M4) (x:Var) (j:Nat):List (Pr×Int):=addAll st.q (WB (x.acts.take j)) x.count
def ZcG {st:M4} {x:Var} {j:Nat} {s:BA} (hs:x.acts[j]? =some s):midA st x (j+1)=T3 (midA st x j) s (iget (midA st x j) s+x.count):=by
 unfold midA;rw [ZR hs,CZ];rfl
def Ce {st:M4} {x:Var} {s:BA} (hs:x.acts[0]? =some s):midQ st x (0+1)=midQ st x 0:=by
 unfold midQ;rw [ZlJ hs];rfl
def Cf {st:M4} {x:Var} {j:Nat} {a s:BA} (ha:x.acts[j]? =some a) (hs:x.acts[j+1]? =some s):midQ st x (j+1+1)=T3 (midQ st x (j+1)) (a,s) (iget (midQ st x (j+1)) (a,s)+x.count):=by
 unfold midQ;rw [ZhL ha hs,CZ];rfl
def ZdM {st:M4} {x:Var} {b j:Nat} (h:KOk st b) (hx:Kc x=true):MOk (midA st x j) (b+200):=by
 unfold Kc at hx
 simp only [Xf,U',Xj] at hx
 exact (h.a.addAll oM hx.2).mono (by rw [XA];omega)
def ZdN {st:M4} {x:Var} {b j:Nat} (h:KOk st b) (hx:Kc x=true):MOk (midQ st x j) (b+200)/\∀y∈midQ st x j,prOk y.1:=by
 unfold Kc at hx
 simp only [Xf,U',Xj] at hx
 obtain ⟨⟨⟨h1,h2⟩,h3⟩,h4⟩:=hx
 have hp:=Cc (x.acts.take j)
 refine ⟨(h.q.addAll oM h4).mono (by rw [XA] at hp;omega),OW h.k fun k hk=>?_⟩
 have:=DJ hk
 have n1:=TO (h2 _ (V' this.1))
 have n2:=TO (h2 _ (V' this.2))
 exact ⟨oM,oM⟩
def Zjv (l : List Var) (hf:RJ l):AF prog 13 [ZV l] (Zou l):=by
 refine AF.b1 100 func13 rfl ntmps13 (Xa rfl) fun w0 M0 v0 _=>?_
 refine Zi ?_
 refine Zt [(.slice none 0 0),(.slice none 0 0),(.slice none 0 0),(.slice none 0 0)] 4 2 JW fun h2=>?_;refine JG ?_;refine cV (cA call9 (J8 l hf)) ?_;refine Wg ?_ ?_<;>intro hb12
 . (
 refine Zi ?_;refine xM (ZA LM) ?_;refine Zn 2 Yu ?_;refine ZD ?_;exact ZN (k:=4) 2 results13 (.inl ⟨by simpa using hb12,rfl⟩))
 (have hV:validVars l=true:=by simpa using hb12);(have hl300:l.length<=300:=by have h:=hV;simp only [validVars,Xf,U'] at h;exact h.1);have hok:∀x∈l,Kc x=true:=fun x hx=>by
  obtain ⟨i,hi⟩:=XM hx;exact Se hV hi
 have hK:=KOk.all hok;refine Zi ?_;refine cO 14 (cA call44 ZbE) fun v14 ho14=>?_;refine ZD ?_;refine Zs (Zp6 (l:=14) rfl) fun i=>?_;obtain ⟨h14,hv14⟩:=i;subst hv14;refine Zs (T6 (l:=14) (l':=301) (j:=0) rfl rfl rfl rfl) fun i=>?_;obtain ⟨m1,hm1⟩:=i;refine Zs (T6 (l:=14) (l':=302) (j:=1) rfl rfl rfl rfl) fun i=>?_;obtain ⟨m2,hm2⟩:=i;refine Zs (T6 (l:=14) (l':=303) (j:=2) rfl rfl rfl rfl) fun i=>?_;obtain ⟨m3,hm3⟩:=i;refine Zs (T6 (l:=14) (l':=304) (j:=3) rfl rfl rfl rfl) fun i=>?_;obtain ⟨m4,hm4⟩:=i;dsimp only [List.set];refine Zp ?_;refine xL 15 Za (xL 16 (Zu Zv) (xL 17 Za ?_));refine ZZ ?_;refine Yl (ι:={k:Nat//k<=l.length}) (fun k=>⟨[(2,_,_),(4,_,_),(15,_,_),(16,_,_),(17, .int .i64 k.1,Zb k.1)],[(2,_,_),(14,h14, .own 81 4 1 [.val m1, .val m2, .val m3, .val m4]),(301,m1, .omap (skv (KU (makeM (l.take k.1)).a))),(302,m2, .omap (skv (KU (makeM (l.take k.1)).s))),(303,m3, .omap (skv (KU (makeM (l.take k.1)).f))),(304,m4, .omap (akv (KU (makeM (l.take k.1)).q)))]⟩) (fun k=>l.length-k.1) ⟨0,Xg _⟩ ?_;rintro ⟨k,hk⟩;dsimp only;have hKk:=hK k hk;obtain ⟨st,hst⟩:∃st,st=makeM (l.take k):=⟨_,rfl⟩;rw [<-hst] at hKk ⊢;refine Ys ?_ ?_<;>intro hb18
 . (
 obtain ⟨x,hx⟩:=gS l k;have e1:=Y4 ZM l k x hx;have e2:=Ww ZM hx;have hxo:=hok x (Xb hx);have hxo2:=hxo;unfold Kc at hxo2;simp only [Xf,U',Xj] at hxo2;obtain ⟨⟨⟨hxl,hxn⟩,hx1⟩,hx2⟩:=hxo2;have hnx:=Hl hx;rw [<-hst] at hnx;refine Zi ?_;refine xM (Ze Zv) ?_;refine yU (We W9) fun v20=>?_;refine Zt [(.slice none 0 0),(.int .i64 0)] 2 6 R7 fun h6=>?_;refine Zn 6 W9 ?_;refine YT ?_;refine xM (Zc 6 Z8) ?_;refine yU (Zf 6 ZG) fun v22=>?_;refine xL 23 (Zu Zo) (xL 24 Za ?_);refine ZZ ?_;refine Yl (ι:={j:Nat//j<=x.acts.length}) (fun k=>⟨[(2,_,_),(4,_,_),(6,_,_),(15,_,_),(16,_,_),(17,_,_),(22,_,_),(23,_,_),(24, .int .i64 k.1,Zb k.1)],[(2,_,_),(6,_,_),(14,_,_),(302,_,_),(303,_,_),(301,m1, .omap (skv (KU (midA st x k.1)))),(304,m4, .omap (akv (KU (midQ st x k.1))))]⟩) (fun k=>x.acts.length-k.1) ⟨0,Xg _⟩ ?_;rintro ⟨j,hj⟩;dsimp only;have hAj:=ZdM (j:=j) hKk hxo;have hQj:=ZdN (j:=j) hKk hxo;refine Ys ?_ ?_<;>intro hb25
 . (
 obtain ⟨s,hs⟩:=gS x.acts j;have e3:=Yf (f:=Zx) hs;have hgA:=hAj.get s;have hsn:=TO (hxn s (Xb hs));refine Zi ?_;refine xL 26 Za (xL 27 (Ze Zo) ?_);refine yV (Zw ZE) ?_;refine W2 ?_;(refine Yx [9] [6,14,301] ?_<;>refine gDx 0 ?_<;>refine xD 1 rfl (RH 14) ?_<;>refine xD 2 rfl (Zc 14 OX) ?_<;>(refine yD 3 rfl (Zf 14 TD) fun v32 h=>?_;cases h)<;>refine gDx 4 ?_<;>refine xD 5 rfl (Ow 301 SA (hk:=Rk _ _) (hu:=ZhN _ _)) ?_<;>refine xE 6 rfl (Zc 6 YH) ?_<;>(refine yE 7 rfl (Zf 6 Zq) fun v36 h=>?_;cases h)<;>refine gEx 8 ?_<;>(refine ZY 9 kR ?_)<;>(refine Wx rfl rfl kR fun DQ bk=>?_)<;>refine PG 301 SA ?_<;>refine WC (bk _ (nav ?_))<;>try dsimp only)
 rw [Za2,<-ZcG hs];refine Zp ?_;refine Wv ?_ ?_<;>intro hb39
 . (
 obtain ⟨j',rfl⟩:∃j',j=j'+1:=⟨j-1,oM⟩;obtain ⟨a,ha⟩:=gS x.acts j';(have e4:(x.acts.map Zx)[(((j'+1:Nat):Int)-1).toNat*1]? =some (Zx a):=by rw [show (((j'+1:Nat):Int)-1).toNat=j' by omega];exact Yf (f:=Zx) ha);have hgQ:=hQj.1.get (a,s);have han:=TO (hxn a (Xb ha));have hpr:prOk (a,s):=⟨by show a.size<=_;omega,by show s.size<=_;omega⟩;(have hQn:((KU (midQ st x (j'+1))).map (·.1)).Nodup:=by rw [ZhO];exact hQj.1.nd);have hQk:=ZlO hQj.2;have hQg:=ZaU (midQ st x (j'+1)) (a,s);refine nav ?_;(refine Yx [18] [6,14] ?_<;>refine gDx 0 ?_<;>refine xD 1 rfl (RH 14) ?_<;>refine xD 2 rfl (Zc 14 C2) ?_<;>(refine yD 3 rfl (Zf 14 ZcD) fun v43 h=>?_;cases h)<;>refine xD 4 rfl (Zc 6 Z8) ?_<;>(refine yD 5 rfl (Zf 6 ZG) fun v45 h=>?_;cases h)<;>refine gDx 6 ?_<;>refine gDx 7 ?_<;>refine xD 8 rfl (Sa Zo) ?_<;>(refine yD 9 rfl (Zw ZE) fun v49 h=>?_;cases h)<;>refine gDx 10 ?_<;>refine xD 11 rfl (Zna Cd ZcF) ?_<;>refine xD 13 rfl (Zc 6 YH) ?_<;>(refine yD 14 rfl (Zf 6 Zq) fun v54 h=>?_;cases h)<;>(refine WJ 12 16 kR ?_ ?_;rotate_right;(focus ((refine aWr fun bk=>?_)<;>(refine Zac 304 56 (k:=(a,s)) SB hQk hQn hpr (fun b56 c56 n56 es56 hm56 hw56 he56 hj56=>?_);subst hm56)<;>refine bE bk ?_<;>refine gDx 17 ?_<;>(refine aDr 12 fun bk=>?_)<;>(first|refine xM (ZiH 304 (k:=(a,s)) (u:= .int .i64 (iget (midQ st x (j'+1)) (a,s))) SB hQk hQn hpr hQg) ?_|refine xM (ZeN 304 (k:=(a,s)) (u:= .int .i64 (iget (midQ st x (j'+1)) (a,s))) SB he56 (Zf4 hQk hpr) (D9 hQn) hpr (by rw [Zb5];exact hQg)) ?_)<;>refine bE bk ?_<;>refine gEx 15 ?_));rotate_right;(focus ((refine aWr fun bk=>?_)<;>(first|refine xM (ZiH 304 (k:=(a,s)) (u:= .int .i64 (iget (midQ st x (j'+1)) (a,s))) SB hQk hQn hpr hQg) ?_|refine xM (ZeN 304 (k:=(a,s)) (u:= .int .i64 (iget (midQ st x (j'+1)) (a,s))) SB he56 (Zf4 hQk hpr) (D9 hQn) hpr (by rw [Zb5];exact hQg)) ?_)<;>refine bE bk ?_<;>refine gDx 15 ?_<;>(refine aDr 16 fun bk=>?_)<;>(refine Zac 304 56 (k:=(a,s)) SB hQk hQn hpr (fun b56 c56 n56 es56 hm56 hw56 he56 hj56=>?_);subst hm56)<;>refine bE bk ?_<;>refine gEx 17 ?_)))<;>(refine ZY 18 kR ?_)<;>(refine Wx rfl rfl kR fun DQ bk=>?_)<;>(refine Zg6 304 hw56 he56 (D9 hQn) hj56 ?_;rw [Zks,ZaV])<;>refine WC (bk _ (nav ?_))<;>try dsimp only)<;>(
 refine Gt ?_;try rw [<-Cf ha hs]
 try (obtain rfl:j=0:=by omega)
 try rw [<-Ce hs]
 first
  | (exact Zh (
      ⟨j'+1+1,oM⟩
      ) (by first|(show x.acts.length-(j'+1+1)<x.acts.length-(j'+1);omega)|(show x.acts.length-(0+1)<x.acts.length-0;omega)) sB sB)
  | (exact Zh (
      ⟨0+1,oM⟩
      ) (by first|(show x.acts.length-(j'+1+1)<x.acts.length-(j'+1);omega)|(show x.acts.length-(0+1)<x.acts.length-0;omega)) sB sB)))
 refine ZP ?_;try rw [<-Cf ha hs]
 try (obtain rfl:j=0:=by omega)
 try rw [<-Ce hs]
 first
  | (exact Zh (
      ⟨j'+1+1,oM⟩
      ) (by first|(show x.acts.length-(j'+1+1)<x.acts.length-(j'+1);omega)|(show x.acts.length-(0+1)<x.acts.length-0;omega)) sB sB)
  | (exact Zh (
      ⟨0+1,oM⟩
      ) (by first|(show x.acts.length-(j'+1+1)<x.acts.length-(j'+1);omega)|(show x.acts.length-(0+1)<x.acts.length-0;omega)) sB sB))
 refine nav ?_;have hjl:j=x.acts.length:=oM;(have eA:midA st x j=(mk1 st x).a:=by unfold midA mk1;rw [hjl,Xx]);(have eQ:midQ st x j=(mk1 st x).q:=by unfold midQ mk1;rw [hjl,Xx]);rw [eA,eQ];refine Zp ?_;refine xM (Zc 6 Z8) ?_;refine yU (Zf 6 ZG) fun v60=>?_;refine xL 61 (Zu Zo) (xL 9 Wj ?_);refine YT ?_;refine Wv ?_ ?_<;>intro hb63
 . (
 obtain ⟨s0,hs0⟩:=gS x.acts 0;obtain ⟨s1,hs1⟩:=gS x.acts (x.acts.length-1);have e5:(x.acts.map Zx)[0*1]? =some (Zx s0):=Yf (f:=Zx) hs0;(have e6:(x.acts.map Zx)[((x.acts.length:Int)-1).toNat*1]? =some (Zx s1):=by rw [show ((x.acts.length:Int)-1).toNat=x.acts.length-1 by omega];exact Yf (f:=Zx) hs1);have hgS:=hKk.s.get s0;have hgF:=hKk.f.get s1;refine nav ?_;(refine Yx [12] [6,14,302] ?_<;>refine gDx 0 ?_<;>refine xD 1 rfl (RH 14) ?_<;>refine xD 2 rfl (Zc 14 C0) ?_<;>(refine yD 3 rfl (Zf 14 TD) fun v67 h=>?_;cases h)<;>refine xD 4 rfl (Zc 6 Z8) ?_<;>(refine yD 5 rfl (Zf 6 ZG) fun v69 h=>?_;cases h)<;>refine xD 6 rfl (Ze (i:=0) Zo) ?_<;>(refine yD 7 rfl (Zw ZE) fun v71 h=>?_;cases h)<;>refine xD 8 rfl (Ow 302 SA (hk:=Rk _ _) (hu:=ZhN _ _)) ?_<;>refine xE 9 rfl (Zc 6 YH) ?_<;>(refine yE 10 rfl (Zf 6 Zq) fun v74 h=>?_;cases h)<;>refine gEx 11 ?_<;>(refine ZY 12 kR ?_)<;>(refine Wx rfl rfl kR fun DQ bk=>?_)<;>refine PG 302 SA ?_<;>refine WC (bk _ (nav ?_))<;>try dsimp only)
 (refine Yx [14] [6,14,303] ?_<;>refine gDx 0 ?_<;>refine xD 1 rfl (RH 14) ?_<;>refine xD 2 rfl (Zc 14 C1) ?_<;>(refine yD 3 rfl (Zf 14 TD) fun v79 h=>?_;cases h)<;>refine xD 4 rfl (Zc 6 Z8) ?_<;>(refine yD 5 rfl (Zf 6 ZG) fun v81 h=>?_;cases h)<;>refine gDx 6 ?_<;>refine gDx 7 ?_<;>refine xD 8 rfl (Sa Zo) ?_<;>(refine yD 9 rfl (Zw ZE) fun v85 h=>?_;cases h)<;>refine xD 10 rfl (Ow 303 SA (hk:=Rk _ _) (hu:=ZhN _ _)) ?_<;>refine xE 11 rfl (Zc 6 YH) ?_<;>(refine yE 12 rfl (Zf 6 Zq) fun v88 h=>?_;cases h)<;>refine gEx 13 ?_<;>(refine ZY 14 kR ?_)<;>(refine Wx rfl rfl kR fun DQ bk=>?_)<;>refine PG 303 SA ?_<;>refine WC (bk _ (nav ?_))<;>try dsimp only)
 refine Gt ?_;try rw [Za2,Za2]
 try rw [show T3 st.s s0 (iget st.s s0+x.count)=(mk1 st x).s by unfold mk1;cases hc:x.acts with|nil=>rw [hc] at hs0;simp at hs0|cons z t=>rw [hc] at hs0;simp at hs0;subst hs0;rfl]
 try rw [show T3 st.f s1 (iget st.f s1+x.count)=(mk1 st x).f by unfold mk1;rw [U8,hs1];rfl]
 try rw [show st.s=(mk1 st x).s by unfold mk1;rw [show x.acts=[] from Xv oM],show st.f=(mk1 st x).f by unfold mk1;rw [show x.acts=[] from Xv oM];rfl]
 rw [<-hnx];refine Yk (
  ⟨k+1,oM⟩
  ))
 refine ZP ?_;try rw [Za2,Za2]
 try rw [show T3 st.s s0 (iget st.s s0+x.count)=(mk1 st x).s by unfold mk1;cases hc:x.acts with|nil=>rw [hc] at hs0;simp at hs0|cons z t=>rw [hc] at hs0;simp at hs0;subst hs0;rfl]
 try rw [show T3 st.f s1 (iget st.f s1+x.count)=(mk1 st x).f by unfold mk1;rw [U8,hs1];rfl]
 try rw [show st.s=(mk1 st x).s by unfold mk1;rw [show x.acts=[] from Xv oM],show st.f=(mk1 st x).f by unfold mk1;rw [show x.acts=[] from Xv oM];rfl]
 rw [<-hnx];refine Yk (
  ⟨k+1,oM⟩
  ))
 refine nav ?_;obtain rfl:k=l.length:=oM;rw [Xx] at hst;have hKl:=hKk;rw [hst] at hKl ⊢;have hAl:=hKl.a.len;refine Zp ?_;refine xL 91 Za (xL 92 (RH 14) (xL 93 (Zc 14 OX) ?_));refine yV (Zf 14 TD) ?_;refine xL 95 (ZpM 301 underlying78) (xL 96 G3 ?_);refine ZC ?_ ?_<;>intro hb96
 . (
 refine Zi ?_;refine xM (ZA LM) ?_;refine Zn 2 Yu ?_;refine ZD ?_;exact ZN (k:=4) 2 results13 (.inr (.inl ⟨hV,by unfold skv KU at hb96;simp only [Xc] at hb96;omega,rfl⟩)))
 refine nav ?_;(have h40:(makeM l).a.length<=40:=by unfold skv KU at hb96;simp only [Xc] at hb96;omega);refine Zs (To (l:=14) (l':=301) (j:=0) rfl rfl rfl rfl) fun _=>?_;refine Zs (To (l:=14) (l':=302) (j:=1) rfl rfl rfl rfl) fun _=>?_;refine Zs (To (l:=14) (l':=303) (j:=2) rfl rfl rfl rfl) fun _=>?_;refine Zs (To (l:=14) (l':=304) (j:=3) rfl rfl rfl rfl) fun _=>?_;refine Zs (TH (l:=14) (t:=4) (j:=0) rfl Vi rfl) fun _=>?_;dsimp only [Wi,share,List.set];refine J2 ?_;refine cDx 99 (cA call45 ((Zos (makeM l) _ oM hKl).mono (R':=fun p=>∃i:{g//T4 g (makeM l)},p=Ji i.1) fun p ⟨g,h1,h2⟩=>⟨⟨g,h1⟩,h2⟩)) (fun i v99 hv99=>?_) (fun _=>rfl);obtain ⟨g,hg⟩:=i;dsimp only [Ji];refine Zn 2 Yu ?_;refine ZD ?_;exact ZN (k:=4) 2 results13 (.inr (.inr ⟨hV,h40,g,hg,rfl⟩))
section
variable {κ:Type} [DecidableEq κ]
def Hn (lt:κ->κ->Bool):List (κ×Int)->κ->Int->List (κ×Int)
 |[],k,n=>[(k,n)]
 |c::t,k,n=>if lt c.1 k then c::Hn lt t k n else if c.1=k then (k,c.2+n)::t else (k,n)::c::t
structure Ord (lt:κ->κ->Bool):Prop where
 irr:∀a,lt a a=false
 tr:∀a b c,lt a b=true->lt b c=true->lt a c=true
 tot:∀a b,lt a b=false->lt b a=false->a=b
def Cg {m:List (κ×Int)} {k:κ} (h:∀x∈m,x.1≠k):iget m k=0:=by
 induction m with
 |nil=>rfl
 |cons x m ih=>rw [iget,Qc (fun e=>h x sM e.symm)];exact ih fun y hy=>h y (by simp [hy])
def Ch {m:List (κ×Int)} {k:κ} {v:Int} (h:∀x∈m,x.1≠k):T3 m k v=m++[(k,v)]:=by
 induction m with
 |nil=>rfl
 |cons x m ih=>rw [T3,Qc (fun e=>h x sM e.symm),ih fun y hy=>h y (by simp [hy])];rfl
def G0 (x:κ×Int) (m:List (κ×Int)) (k:κ) (n:Int):G' (x::m) k n=if k=x.1 then (k,x.2+n)::m else x::G' m k n:=by
 unfold G'
 rw [iget,T3]
 split<;>rfl
def ZlP {m m':List (κ×Int)} {k:κ} {n:Int} (h:m.Perm m'):(m.map (·.1)).Nodup->(G' m k n).Perm (G' m' k n):=by
 induction h with
 |nil=>intro _;exact .refl _
 | cons x _ ih=>
   intro hn;rw [Xn,Vk] at hn;rw [G0,G0];split
   . rename_i h e;exact (by assumption:List.Perm _ _).cons _
   exact (ih hn.2).cons _
 | swap x y l=>
   intro hn;rw [Xn,Xn,Vk] at hn;have hne:y.1≠x.1:=fun e=>hn.1 (by rw [e];simp);rw [G0,G0,G0,G0];by_cases e1:k=y.1
   . rw [Qd e1,Qc (fun e=>hne (e1.symm.trans e)),Qd e1];exact List.Perm.swap _ _ _
   rw [Qc e1,Qc e1];split
   . exact List.Perm.swap _ _ _
   exact List.Perm.swap _ _ _
 | trans h1 _ ih1 ih2=>
   intro hn;exact (ih1 hn).trans (ih2 (((h1.map (fun x:κ×Int=>x.1)).pairwise_iff (R:=(· ≠ ·)) fun h=>Ne.symm h).1 hn))
def ZcH {lt:κ->κ->Bool} (hO:Ord lt) {k:κ} {n:Int}:∀{L:List (κ×Int)},L.Pairwise (fun a b=>lt a.1 b.1=true)->(Hn lt L k n).Perm (G' L k n)
 | [],_=>by
   show List.Perm [(k,n)] [(k,0+n)];rw [Int.zero_add]
 | c :: t,h=>by
   rw [Xy] at h;rw [Hn,G0];by_cases h1:lt c.1 k=true
   . rw [Qd h1,Qc (fun e=>by rw [e,hO.irr] at h1;exact Bool.noConfusion h1)];exact (ZcH hO h.2).cons c
   rw [Qc h1];by_cases h2:c.1=k
   . rw [Qd h2,Qd h2.symm]
   rw [Qc h2,Qc (Ne.symm h2)];have h3:lt k c.1=true:=by
    cases h4:lt k c.1 with
    |true=>rfl
    |false=>exact Qe (hO.tot _ _ (by simpa using h1) h4) h2
   have h5:∀x∈t,x.1≠k:=fun x hx e=>by
    have h6:=hO.tr _ _ _ h3 (h.1 x hx);rw [e,hO.irr] at h6;exact Bool.noConfusion h6
   unfold G';rw [Cg h5,Ch h5,Int.zero_add];exact (List.Perm.swap _ _ _).trans ((UI _ _).symm.cons c)
def Zf5 {lt:κ->κ->Bool} {k:κ} {n:Int}:∀{L:List (κ×Int)} {x:κ×Int},x∈Hn lt L k n->x.1=k\/x∈L
 |[],x,h=>by simp [Hn] at h;exact .inl (by rw [h])
 | c :: t,x,h=>by
   rw [Hn] at h;split at h
   . rcases Xi.1 h with h|h
     . exact .inr (by simp [h])
     rcases Zf5 h with h|h
     . exact .inl h
     exact .inr (by simp [h])
   split at h
   . rcases Xi.1 h with h|h
     . exact .inl (by rw [h])
     exact .inr (by simp [h])
   rcases Xi.1 h with h|h
   . exact .inl (by rw [h])
   exact .inr h
def C3 {lt:κ->κ->Bool} (hO:Ord lt) {k:κ} {n:Int}:∀{L:List (κ×Int)},L.Pairwise (fun a b=>lt a.1 b.1=true)->(Hn lt L k n).Pairwise fun a b=>lt a.1 b.1=true
 |[],_=>by simp [Hn]
 | c :: t,h=>by
   have h':=h;rw [Xy] at h;rw [Hn];by_cases h1:lt c.1 k=true
   . rw [Qd h1,Xy];refine ⟨fun x hx=>?_,C3 hO h.2⟩;rcases Zf5 hx with e|e
     . rw [e];exact h1
     exact h.1 x e
   rw [Qc h1];by_cases h2:c.1=k
   . rw [Qd h2,Xy];exact ⟨fun x hx=>h2▸h.1 x hx,h.2⟩
   rw [Qc h2,Xy];have h3:lt k c.1=true:=by
    cases h4:lt k c.1 with
    |true=>rfl
    |false=>exact Qe (hO.tot _ _ (by simpa using h1) h4) h2
   refine ⟨fun x hx=>?_,h'⟩;rcases Xi.1 hx with e|e
   . rw [e];exact h3
   exact hO.tr _ _ _ h3 (h.1 x e)
def SameK (lt:κ->κ->Bool) (L m:List (κ×Int)):Prop:=L.Perm m/\L.Pairwise fun a b=>lt a.1 b.1=true
def SameK.add {lt:κ->κ->Bool} (hO:Ord lt) {L m:List (κ×Int)} (h:SameK lt L m) (hn:(m.map (·.1)).Nodup) (k:κ) (n:Int):SameK lt (Hn lt L k n) (G' m k n):=by
 refine ⟨(ZcH hO h.2).trans (ZlP h.1 ?_),C3 hO h.2⟩
 exact ((h.1.map (fun x:κ×Int=>x.1)).pairwise_iff (R:=(· ≠ ·)) fun h=>Ne.symm h).2 hn
def SameK.unique {lt:κ->κ->Bool} (hO:Ord lt) {L L' m:List (κ×Int)} (h:SameK lt L m) (k:SameK lt L' m):L=L':=
 ZdD (fun a _ b _ hab hba=>by
  have:=hO.tr _ _ _ hab hba;rw [hO.irr] at this;exact Bool.noConfusion this) h.2 k.2 fun c=>by rw [h.1.mem_iff,k.1.mem_iff]
end
def Zov:Ord strLt:=⟨W4,fun _ _ _=>KH,fun _ _=>Gu⟩
def El (a b:Pr):Bool:=flwLt ⟨a.1,a.2,0⟩ ⟨b.1,b.2,0⟩
def Zow:Ord El:=⟨fun a=>Qb (TN _),fun a b c h1 h2=>Qa (Te (Qf h1) (Qf h2)),fun a b h1 h2=>by
 have h1:=Qg h1
 have h2:=Qg h2
 by_cases e:a.1=b.1/\a.2=b.2
 . exact Prod.ext e.1 e.2
 . exact Qe (So h2 e) h1⟩
def unC (c:Cnt):BA×Int:=(c.name,c.n)
def unF (f:Flw):Pr×Int:=((f.src,f.dst),f.n)
def ZcI {L:List Cnt} {m:List (BA×Int)}:SameC L m↔SameK strLt (L.map unC) m:=by
 unfold SameC SameK
 rw [X7]
 constructor
 . rintro ⟨h1,h2⟩;refine ⟨?_,h2⟩;have:=h1.map unC;rw [XB] at this;exact this.trans (List.Perm.of_eq (VF _))
 rintro ⟨h1,h2⟩;refine ⟨?_,h2⟩;have:=h1.map mkC;rw [XB] at this;exact (List.Perm.of_eq (VF _).symm).trans this
def ZcJ {L:List Flw} {m:List (Pr×Int)}:SameF L m↔SameK El (L.map unF) m:=by
 unfold SameF SameK
 rw [X7]
 have hlt:∀a b:Flw,El (unF a).1 (unF b).1=true↔Jc a b<0:=fun a b=>decide_eq_true_iff
 constructor
 . rintro ⟨h1,h2⟩;refine ⟨?_,h2.imp fun h=>(hlt _ _).2 h⟩;have:=h1.map unF;rw [XB] at this;exact this.trans (List.Perm.of_eq (VF _))
 rintro ⟨h1,h2⟩;refine ⟨?_,h2.imp fun h=>(hlt _ _).1 h⟩;have:=h1.map mkF;rw [XB] at this;exact (List.Perm.of_eq (VF _).symm).trans this
def Jy (L:List Cnt) (s:BA) (n:Int):List Cnt:=(Hn strLt (L.map unC) s n).map mkC
def OZ (L:List Flw) (p:Pr) (n:Int):List Flw:=(Hn El (L.map unF) p n).map mkF
def DK {L:List Cnt} {m:List (BA×Int)} (h:SameC L m) (hn:(m.map (·.1)).Nodup) (s:BA) (n:Int):SameC (Jy L s n) (G' m s n):=by
 rw [ZcI] at h ⊢
 unfold Jy
 rw [XB,show (unC∘mkC)=id from rfl,VF]
 exact h.add Zov hn s n
def ZcK {L:List Flw} {m:List (Pr×Int)} (h:SameF L m) (hn:(m.map (·.1)).Nodup) (p:Pr) (n:Int):SameF (OZ L p n) (G' m p n):=by
 rw [ZcJ] at h ⊢
 unfold OZ
 rw [XB,show (unF∘mkF)=id from rfl,VF]
 exact h.add Zow hn p n
def P5 {L L':List Cnt} {m:List (BA×Int)} (h:SameC L m) (k:SameC L' m):L=L':=by
 rw [ZcI] at h k
 have:=congrArg (List.map mkC) (h.unique Zov k)
 rw [XB,XB] at this
 exact (VF L).symm.trans (this.trans (VF L'))
def ZdO {L L':List Flw} {m:List (Pr×Int)} (h:SameF L m) (k:SameF L' m):L=L':=by
 rw [ZcJ] at h k
 have:=congrArg (List.map mkF) (h.unique Zow k)
 rw [XB,XB] at this
 exact (VF L).symm.trans (this.trans (VF L'))
def Em {κ:Type} [DecidableEq κ] {lt:κ->κ->Bool} {key:κ} {n:Int}:∀{L:List (κ×Int)} {k:Nat},(∀j x,j<k->L[j]? =some x->lt x.1 key=true)->k<=L.length->(∀x,L[k]? =some x->lt x.1 key=false)->
 Hn lt L key n=L.take k++(match L[k]? with|some x=>if x.1=key then (key,x.2+n)::L.drop (k+1) else (key,n)::L.drop k|none=>[(key,n)])
 | [],k,_,hk,_=>by
   have:k=0:=by simpa using hk
   subst this;rfl
 | c::t,0,_,_,h2=>by
   have h3:=h2 c rfl;rw [Hn,Qc (by rw [h3];decide)];rfl
 | c::t,k+1,h1,hk,h2=>by
   rw [Hn,Qd (h1 0 c (Vc k) rfl),Em (L:=t) (k:=k) (fun j x hj hx=>h1 (j+1) x oM (by simpa using hx)) (by simpa using hk) (fun x hx=>h2 x (by simpa using hx))];simp
def Zox {L:List Cnt} {k:Nat} {s:BA} {n:Int} (h1:∀j x,j<k->L[j]? =some x->strLt x.name s=true) (hk:k<=L.length) (h2:∀x,L[k]? =some x->strLt x.name s=false/\x.name≠s):Jy L s n=L.take k++[⟨s,n⟩]++L.drop k:=by
 unfold Jy
 rw [Em (k:=k) (fun j x hj hx=>?_) (by rw [Xc];exact hk) (fun x hx=>?_)]
 . rw [Xl]
   cases hL:L[k]? with
   | none=>
     have:L.drop k=[]:=XO (UK.1 hL);rw [this,Option.map_none];simp [<-List.map_take,Function.comp_def,mkC,unC]
   | some x=>
     rw [VY];dsimp only;rw [Qc (show ¬(unC x).1=s from (h2 x hL).2)];simp [<-List.map_take,<-List.map_drop,Function.comp_def,mkC,unC]
 . rw [Xl,XU] at hx;obtain ⟨y,hy,rfl⟩:=hx;exact h1 j y hj hy
 rw [Xl,XU] at hx;obtain ⟨y,hy,rfl⟩:=hx;exact (h2 y hy).1
def Zoy {L:List Cnt} {k:Nat} {s:BA} {n:Int} {x:Cnt} (h1:∀j x,j<k->L[j]? =some x->strLt x.name s=true) (hx:L[k]? =some x) (he:x.name=s):Jy L s n=L.take k++[⟨s,x.n+n⟩]++L.drop (k+1):=by
 have hk:=Zd hx
 unfold Jy
 rw [Em (k:=k) (fun j x hj hx=>?_) (by rw [Xc];omega) (fun y hy=>?_)]
 . rw [Xl,hx,VY];dsimp only;rw [Qd (show (unC x).1=s from he)];simp [<-List.map_take,<-List.map_drop,Function.comp_def,mkC,unC]
 . rw [Xl,XU] at hx;obtain ⟨y,hy,rfl⟩:=hx;exact h1 j y hj hy
 rw [Xl,hx] at hy
 cases hy;show strLt x.name s=false;rw [he];exact W4 s
def Zoz {L:List Flw} {k:Nat} {p:Pr} {n:Int} (h1:∀j x,j<k->L[j]? =some x->El (x.src,x.dst) p=true) (hk:k<=L.length) (h2:∀x,L[k]? =some x->El (x.src,x.dst) p=false/\(x.src,x.dst)≠p):OZ L p n=L.take k++[⟨p.1,p.2,n⟩]++L.drop k:=by
 unfold OZ
 rw [Em (k:=k) (fun j x hj hx=>?_) (by rw [Xc];exact hk) (fun x hx=>?_)]
 . rw [Xl]
   cases hL:L[k]? with
   | none=>
     have:L.drop k=[]:=XO (UK.1 hL);rw [this,Option.map_none];simp [<-List.map_take,Function.comp_def,mkF,unF]
   | some x=>
     rw [VY];dsimp only;rw [Qc (show ¬(unF x).1=p from (h2 x hL).2)];simp [<-List.map_take,<-List.map_drop,Function.comp_def,mkF,unF]
 . rw [Xl,XU] at hx;obtain ⟨y,hy,rfl⟩:=hx;exact h1 j y hj hy
 rw [Xl,XU] at hx;obtain ⟨y,hy,rfl⟩:=hx;exact (h2 y hy).1
def ZoA {L:List Flw} {k:Nat} {p:Pr} {n:Int} {x:Flw} (h1:∀j x,j<k->L[j]? =some x->El (x.src,x.dst) p=true) (hx:L[k]? =some x) (he:(x.src,x.dst)=p):OZ L p n=L.take k++[⟨p.1,p.2,x.n+n⟩]++L.drop (k+1):=by
 have hk:=Zd hx
 unfold OZ
 rw [Em (k:=k) (fun j x hj hx=>?_) (by rw [Xc];omega) (fun y hy=>?_)]
 . rw [Xl,hx,VY];dsimp only;rw [Qd (show (unF x).1=p from he)];simp [<-List.map_take,<-List.map_drop,Function.comp_def,mkF,unF]
 . rw [Xl,XU] at hx;obtain ⟨y,hy,rfl⟩:=hx;exact h1 j y hj hy
 rw [Xl,hx] at hy
 cases hy;show El (x.src,x.dst) p=false;rw [he];exact Zow.irr p
def ZcL {α β:Type} {f:α->List β} {m:Nat} (hf:∀x,(f x).length=m):∀(L:List α) (k:Nat),(L.flatMap f).take (k*m)=(L.take k).flatMap f
 |[],k=>sM
 |x::L,0=>sM
 | x::L,k+1=>by
   rw [UF,Xq,Xq,<-ZcL hf L k,List.take_append,Xs (by rw [hf,X3];omega),hf,show (k+1)*m-m=k*m by rw [X3];omega]
def Za3 {α β:Type} {f:α->List β} {m:Nat} (hf:∀x,(f x).length=m):∀(L:List α) (k:Nat),(L.flatMap f).drop (k*m)=(L.drop k).flatMap f
 |[],k=>sM
 |x::L,0=>sM
 | x::L,k+1=>by
   rw [List.drop_succ_cons,Xq,<-Za3 hf L k,List.drop_append,List.drop_of_length_le (by rw [hf,X3];omega),hf,show (k+1)*m-m=k*m by rw [X3];omega,XY]
def Jp {α β:Type} {f:α->List β} {m k:Nat} (hf:∀x,(f x).length=m) (L:List α):((L.flatMap f).drop (0*m)).take ((k-0)*m)=(L.take k).flatMap f:=by
 rw [X8,Vf,VA,ZcL hf]
def W0 {α β:Type} {f:α->List β} {m k:Nat} (hf:∀x,(f x).length=m) (L:List α):((L.flatMap f).drop (k*m)).take ((L.length-k)*m)=(L.drop k).flatMap f:=by
 rw [Za3 hf,Xs (by rw [Z1 hf,Vu];omega)]
def Za4 (L:List Cnt):(L.flatMap Lp).all En.one=true:=by rw [List.all_flatMap,Xj];intro x _;rfl
def Za5 (L:List Flw):(L.flatMap LQ).all En.one=true:=by rw [List.all_flatMap,Xj];intro x _;rfl
def Eo (L:List Cnt) (s:BA) (n:Int) (hl:L.length<=1000000) (hb:∀x∈L,0<=x.n+n/\x.n+n<=4611686018427387904):AF prog 184 [Jf L,Zx s,Zb n] (· = .own 169 2 (Jy L s n).length ((Jy L s n).flatMap Lp)):=by
 have f5:(L.flatMap Lp).length=L.length*2:=Z1 YM L
 refine AF.b3 69 func184 rfl ntmps184 (Xa rfl) ?_
 rintro w0 M0 v0 _ _-rfl rfl
 refine Jx ?_
 refine Y0 (ι:={k:Nat//k<=L.length/\∀j x,j<k->L[j]? =some x->strLt x.name s=true}) (fun k=>⟨[(0,_,_),(1,_,_),(2,_,_),(7, .int .i64 k.1,Zb k.1)],[]⟩) (fun k=>L.length-k.1) ⟨0,Xg _,fun j x h=>Qe h (Vv j)⟩ (fun a w H=>H.weaken sB trivial) ?_
 rintro ⟨k,hk,hkp⟩
 dsimp only
 obtain ⟨x,hx0⟩:∃x,x=L[k]?.getD ⟨s,0⟩:=⟨_,rfl⟩
 have hd:k<L.length->L[k]? =some x:=fun h=>by obtain ⟨y,hy⟩:=get_some h;rw [hx0,hy];rfl
 have e1:k<L.length->(L.flatMap Lp)[k*2+0]? =some (Zx x.name):=fun h=>by rw [Yr YM (hd h) (j:=0) dC];rfl
 have e2:k<L.length->(L.flatMap Lp)[k*2+1]? =some (Zb x.n):=fun h=>by rw [Yr YM (hd h) (j:=1) dC];rfl
 clear hx0
 refine Zi ?_
 (refine xL 9 Za (xL 10 Za (xL 11 (Zu YA) (xL 12 Yn (xL 13 Za ?_))))<;>(refine bLd 13 (fun hb13=>?_) (fun hb13=>?_)<;>refine kZ ?_)<;>refine kZ ?_<;>(first|refine kL ?_|refine xM (Ze YA) ?_)<;>(first|refine kL ?_|refine xM (Yg WP) ?_)<;>(first|refine kL ?_|refine yV (Zw ZE (hp:=e1 oM)) ?_)<;>refine RG ?_)<;>(
 refine cX ?_ ?_<;>intro hb21
 . first|exact bN hb21|(
 refine YQ ?_;refine Zh (
  ⟨k+1,oM,fun j y hj hy=>by
   by_cases e:j=k
   . subst e;rw [hd oM] at hy;cases hy;exact hb21
   . exact hkp j y oM hy⟩
  ) (by dsimp only;omega) sB trivial)
 refine nav ?_;have hnl:∀y,L[k]? =some y->strLt y.name s=false:=fun y hy=>by
  have hlt:=Zd hy;rw [hd hlt] at hy;cases hy
  first
   |exact hb21
   |(exfalso;omega)
 (have f1:(((L.flatMap Lp).drop (0*2)).take ((k-0)*2)).length=(k-0)*2:=by rw [Jp YM,Z1 YM,XA];omega);(have f2:(((L.flatMap Lp).drop (0*2)).take ((k-0)*2)).all En.one=true:=by rw [Jp YM];exact Za4 _);refine Zp ?_;refine T7 24 Gh fun h24 ho24=>?_;refine YW ?_;refine xM (Wd (i:=0) (j:=k) YA rfl rfl rfl rfl (Xg _) hk f5) ?_;refine Ka 24 28 Gh (fun h28 ho28=>?_) f1 f2;refine ZW ?_;(refine xL 29 Za (xL 30 Za (xL 31 (Zu YA) (xL 32 Yn (xL 33 Za ?_))))<;>(refine bLd 33 (fun hb33=>?_) (fun hb33=>?_)<;>refine kZ ?_)<;>refine kZ ?_<;>(first|refine kL ?_|refine xM (Ze YA) ?_)<;>(first|refine kL ?_|refine xM (Yg WP) ?_)<;>(first|refine kL ?_|refine yV (Zw ZE (hp:=e1 oM)) ?_)<;>refine RG ?_)<;>(
 refine cX ?_ ?_<;>intro hb41
 . first|exact bN hb41|(
 have hkl:k<L.length:=oM;have hx:=hd hkl;have hbx:=hb x (Xb hx);have hxe:x.name=s:=Y'.1 hb41;have e3:=e2 hkl;(have f3:(((L.flatMap Lp).drop ((k+1)*2)).take ((L.length-(k+1))*2)).length=(L.length-(k+1))*2:=by rw [W0 YM,Z1 YM,Vu]);(have f4:(((L.flatMap Lp).drop ((k+1)*2)).take ((L.length-(k+1))*2)).all En.one=true:=by rw [W0 YM];exact Za4 _);have r1:=Zoy (n:=n) hkp hx hxe;refine nav ?_;refine Yx [] [] ?_<;>refine gDx 0 ?_<;>refine gDx 1 ?_<;>refine gDx 2 ?_<;>refine gDx 3 ?_<;>refine xD 4 rfl (Ze YA) ?_<;>refine xD 5 rfl (Yg H4) ?_<;>(refine yD 6 rfl (Zw Zq) fun v48 h=>?_;cases h)<;>refine gDx 7 ?_<;>refine gDx 8 ?_<;>refine xD 9 rfl (ZA Hk) ?_<;>refine gDx 12 ?_<;>refine gDx 13 ?_<;>refine gDx 14 ?_<;>refine xD 15 rfl (Wd (i:=k+1) (j:=L.length) YA rfl rfl rfl rfl oM (Xd _) f5) ?_<;>(refine aDr 10 fun bk=>?_)<;>refine Wy 52 Gh fun h52 ho52=>?_<;>refine bE bk ?_<;>(refine aDr 11 fun bk=>?_)<;>refine Y7 28 52 53 Gh fun h53 ho53=>?_<;>refine bE bk ?_<;>(refine aDr 16 fun bk=>?_)<;>refine Ka 53 58 Gh (fun h58 ho58=>?_) f3 f4<;>refine bE bk ?_<;>refine gEx 17 ?_<;>refine Wo ?_;refine Gm 58 results184 rfl rfl ?_;rw [r1,Jp YM,W0 YM];show PV.own _ _ _ _=PV.own _ _ _ _;congr 1
 . simp;omega
 simp [XR,Lp];rfl)
 have hne:∀y,L[k]? =some y->strLt y.name s=false/\y.name≠s:=fun y hy=>⟨hnl y hy,fun he=>by
  have hlt:=Zd hy;rw [hd hlt] at hy;cases hy
  first
   |exact Bool.noConfusion ((Y'.2 he).symm.trans (show W7 x.name s=false from hb41))
   |(exfalso;omega)⟩
 (have f3:(((L.flatMap Lp).drop (k*2)).take ((L.length-k)*2)).length=(L.length-k)*2:=by rw [W0 YM,Z1 YM,Vu]);(have f4:(((L.flatMap Lp).drop (k*2)).take ((L.length-k)*2)).all En.one=true:=by rw [W0 YM];exact Za4 _);have r1:=Zox (n:=n) hkp hk hne;refine nav ?_;refine Yx [] [] ?_<;>refine gDx 0 ?_<;>refine gDx 1 ?_<;>refine gDx 2 ?_<;>refine xD 3 rfl (ZA Hk) ?_<;>refine gDx 6 ?_<;>refine gDx 7 ?_<;>refine xD 8 rfl (Wd (i:=k) (j:=L.length) YA rfl rfl rfl rfl hk (Xd _) f5) ?_<;>(refine aDr 4 fun bk=>?_)<;>refine Wy 63 Gh fun h63 ho63=>?_<;>refine bE bk ?_<;>(refine aDr 5 fun bk=>?_)<;>refine Y7 28 63 64 Gh fun h64 ho64=>?_<;>refine bE bk ?_<;>(refine aDr 9 fun bk=>?_)<;>refine Ka 64 68 Gh (fun h68 ho68=>?_) f3 f4<;>refine bE bk ?_<;>refine gEx 10 ?_<;>refine Wo ?_;refine Gm 68 results184 rfl rfl ?_;rw [r1,Jp YM,W0 YM];show PV.own _ _ _ _=PV.own _ _ _ _;congr 1
 . simp;omega
 simp [XR,Lp];rfl))
def ZoB {x:Flw} {p:Pr} (h:strLt x.src p.1=true):El (x.src,x.dst) p=true:=Qa (Lw.2 (.inl h))
def ZoC {x:Flw} {p:Pr} (h:x.src=p.1) (k:strLt x.dst p.2=true):El (x.src,x.dst) p=true:=Qa (Lw.2 (.inr ⟨h,k⟩))
def Zf6 {x:Flw} {p:Pr} (h:strLt x.src p.1=false) (k:x.src=p.1->strLt x.dst p.2=false):El (x.src,x.dst) p=false:=Qb fun hh=>by
 rcases Lw.1 hh with h1|⟨h1,h2⟩
 . have h3:strLt x.src p.1=true:=h1;rw [h] at h3;exact Bool.noConfusion h3
 have h3:strLt x.dst p.2=true:=h2;rw [k h1] at h3;exact Bool.noConfusion h3
def Zf7 (L:List Flw) (s t:BA) (n:Int) (hl:L.length<=1000000) (hb:∀x∈L,0<=x.n+n/\x.n+n<=4611686018427387904):AF prog 185 [HN L,Zx s,Zx t,Zb n] (· = .own 136 3 (OZ L (s,t) n).length ((OZ L (s,t) n).flatMap LQ)):=by
 have f5:(L.flatMap LQ).length=L.length*3:=Z1 Wk L
 refine AF.b4 100 func185 rfl ntmps185 (Xa rfl) ?_
 rintro w0 M0 v0 _ _ _-rfl rfl rfl
 refine Jx ?_
 refine Y0 (ι:={k:Nat//k<=L.length/\∀j x,j<k->L[j]? =some x->El (x.src,x.dst) (s,t)=true}) (fun k=>⟨[(0,_,_),(1,_,_),(2,_,_),(3,_,_),(9, .int .i64 k.1,Zb k.1)],[]⟩) (fun k=>L.length-k.1) ⟨0,Xg _,fun j x h=>Qe h (Vv j)⟩ (fun a w H=>H.weaken sB trivial) ?_
 rintro ⟨k,hk,hkp⟩
 dsimp only
 obtain ⟨x,hx0⟩:∃x,x=L[k]?.getD ⟨s,t,0⟩:=⟨_,rfl⟩
 have hd:k<L.length->L[k]? =some x:=fun h=>by obtain ⟨y,hy⟩:=get_some h;rw [hx0,hy];rfl
 have e0:k<L.length->(L.flatMap LQ)[k*3+0]? =some (Zx x.src):=fun h=>by rw [Yr Wk (hd h) (j:=0) dC];rfl
 have e1:k<L.length->(L.flatMap LQ)[k*3+1]? =some (Zx x.dst):=fun h=>by rw [Yr Wk (hd h) (j:=1) dC];rfl
 have e2:k<L.length->(L.flatMap LQ)[k*3+2]? =some (Zb x.n):=fun h=>by rw [Yr Wk (hd h) (j:=2) dC];rfl
 clear hx0
 refine Zi ?_
 (refine xL 11 Za (xL 12 Za (xL 13 (Zu WQ) (xL 14 Yn (xL 15 Za ?_))))<;>(refine bLd 15 (fun hb15=>?_) (fun hb15=>?_)<;>refine kZ ?_)<;>refine kZ ?_<;>(first|refine kL ?_|refine xM (Ze WQ) ?_)<;>(first|refine kL ?_|refine xM (Yg KD) ?_)<;>(first|refine kL ?_|refine yV (Zw ZE (hp:=e0 oM)) ?_)<;>refine Ky ?_<;>refine kZ ?_<;>(first|refine kL ?_|(refine bL 23 (fun hb23=>?_) (fun hb23=>?_)<;>refine kZ ?_))<;>refine kZ ?_<;>(first|refine kL ?_|refine xM (Ze WQ) ?_)<;>(first|refine kL ?_|refine xM (Yg KD) ?_)<;>(first|refine kL ?_|refine yV (Zw ZE (hp:=e0 oM)) ?_)<;>refine Ky ?_<;>refine kZ ?_<;>(first|refine kL ?_|(refine bL 31 (fun hb31=>?_) (fun hb31=>?_)<;>refine kZ ?_))<;>refine kZ ?_<;>(first|refine kL ?_|refine xM (Ze WQ) ?_)<;>(first|refine kL ?_|refine xM (Yg KY) ?_)<;>(first|refine kL ?_|refine yV (Zw ZE (hp:=e1 oM)) ?_)<;>refine Ky ?_<;>refine RG ?_)<;>(
 refine cX ?_ ?_<;>intro hb41
 . first |exact bN hb41|(
 refine YQ ?_;refine Zh (
  ⟨k + 1,oM,fun j y hj hy=>by
   by_cases e:j=k
   . subst e;rw [hd oM] at hy;cases hy
     first
      |exact ZoB (p:=(s,t)) (by assumption)
      |exact ZoC (p:=(s,t)) (Y'.1 (by assumption)) (by assumption)
   . exact hkp j y oM hy⟩
  ) (by dsimp only;omega) sB trivial)
 . first | exact bN hb41|(
 refine nav ?_;have hnl:∀y,L[k]? =some y->El (y.src,y.dst) (s,t)=false:=fun y hy=>by
  have hlt:=Zd hy;rw [hd hlt] at hy;cases hy
  first
   |exact Zf6 (p:=(s,t)) (by assumption) (fun he=>Bool.noConfusion ((Y'.2 he).symm.trans (show W7 x.src s=false by assumption)))
   |exact Zf6 (p:=(s,t)) (by assumption) (fun _=>by assumption)
   |(exfalso;omega)
 (have f1:(((L.flatMap LQ).drop (0*3)).take ((k-0)*3)).length=(k-0)*3:=by rw [Jp Wk,Z1 Wk,XA];omega);(have f2:(((L.flatMap LQ).drop (0*3)).take ((k-0)*3)).all En.one=true:=by rw [Jp Wk];exact Za5 _);refine Zp ?_;refine T7 44 Gi fun h44 ho44=>?_;refine YW ?_;refine xM (Wd (i:=0) (j:=k) WQ rfl rfl rfl rfl (Xg _) hk f5) ?_;refine Ka 44 48 Gi (fun h48 ho48=>?_) f1 f2;refine ZW ?_;(refine xL 49 Za (xL 50 Za (xL 51 (Zu WQ) (xL 52 Yn (xL 53 Za ?_))))<;>(refine bLd 53 (fun hb53=>?_) (fun hb53=>?_)<;>refine kZ ?_)<;>refine kZ ?_<;>(first|refine kL ?_|refine xM (Ze WQ) ?_)<;>(first|refine kL ?_|refine xM (Yg KD) ?_)<;>(first|refine kL ?_|refine yV (Zw ZE (hp:=e0 oM)) ?_)<;>refine kZ ?_<;>refine Kg ?_<;>(first|refine kL ?_|(refine bL 62 (fun hb62=>?_) (fun hb62=>?_)<;>refine kZ ?_))<;>refine kZ ?_<;>(first|refine kL ?_|refine xM (Ze WQ) ?_)<;>(first|refine kL ?_|refine xM (Yg KY) ?_)<;>(first|refine kL ?_|refine yV (Zw ZE (hp:=e1 oM)) ?_)<;>refine RG ?_)<;>(
 refine cX ?_ ?_<;>intro hb70
 . first|exact bN hb70|(
 have hkl:k<L.length:=oM;have hx:=hd hkl;have hbx:=hb x (Xb hx);have hxe:(x.src,x.dst)=(s,t):=Prod.ext (Y'.1 (by assumption)) (Y'.1 (by assumption));have e3:=e2 hkl;(have f3:(((L.flatMap LQ).drop ((k+1)*3)).take ((L.length-(k+1))*3)).length=(L.length-(k+1))*3:=by rw [W0 Wk,Z1 Wk,Vu]);(have f4:(((L.flatMap LQ).drop ((k+1)*3)).take ((L.length-(k+1))*3)).all En.one=true:=by rw [W0 Wk];exact Za5 _);have r1:=ZoA (n:=n) hkp hx hxe;refine nav ?_;refine Yx [] [] ?_<;>refine gDx 0 ?_<;>refine gDx 1 ?_<;>refine gDx 2 ?_<;>refine gDx 3 ?_<;>refine gDx 4 ?_<;>refine xD 5 rfl (Ze WQ) ?_<;>refine xD 6 rfl (Yg H3) ?_<;>(refine yD 7 rfl (Zw Zq) fun v78 h=>?_;cases h)<;>refine gDx 8 ?_<;>refine gDx 9 ?_<;>refine xD 10 rfl (ZA Hm) ?_<;>refine gDx 13 ?_<;>refine gDx 14 ?_<;>refine gDx 15 ?_<;>refine xD 16 rfl (Wd (i:=k+1) (j:=L.length) WQ rfl rfl rfl rfl oM (Xd _) f5) ?_<;>(refine aDr 11 fun bk=>?_)<;>refine Wy 82 Gi fun h82 ho82=>?_<;>refine bE bk ?_<;>(refine aDr 12 fun bk=>?_)<;>refine Y7 48 82 83 Gi fun h83 ho83=>?_<;>refine bE bk ?_<;>(refine aDr 17 fun bk=>?_)<;>refine Ka 83 88 Gi (fun h88 ho88=>?_) f3 f4<;>refine bE bk ?_<;>refine gEx 18 ?_<;>refine Wo ?_;refine Gm 88 results185 rfl rfl ?_;rw [r1,Jp Wk,W0 Wk];show PV.own _ _ _ _=PV.own _ _ _ _;congr 1
 . simp;omega
 simp [XR,LQ];rfl)
 have hne:∀y,L[k]? =some y->El (y.src,y.dst) (s,t)=false/\(y.src,y.dst)≠(s,t):=fun y hy=>⟨hnl y hy,fun he=>by
  have hlt:=Zd hy;rw [hd hlt] at hy;cases hy;have he1:=(Prod.mk.inj he).1;have he2:=(Prod.mk.inj he).2
  first
   |exact Bool.noConfusion ((Y'.2 he1).symm.trans (show W7 x.src s=false by assumption))
   |exact Bool.noConfusion ((Y'.2 he2).symm.trans (show W7 x.dst t=false by assumption))
   |(exfalso;omega)⟩
 (have f3:(((L.flatMap LQ).drop (k*3)).take ((L.length-k)*3)).length=(L.length-k)*3:=by rw [W0 Wk,Z1 Wk,Vu]);(have f4:(((L.flatMap LQ).drop (k*3)).take ((L.length-k)*3)).all En.one=true:=by rw [W0 Wk];exact Za5 _);have r1:=Zoz (n:=n) hkp hk hne;refine nav ?_;refine Yx [] [] ?_<;>refine gDx 0 ?_<;>refine gDx 1 ?_<;>refine gDx 2 ?_<;>refine gDx 3 ?_<;>refine xD 4 rfl (ZA Hm) ?_<;>refine gDx 7 ?_<;>refine gDx 8 ?_<;>refine xD 9 rfl (Wd (i:=k) (j:=L.length) WQ rfl rfl rfl rfl hk (Xd _) f5) ?_<;>(refine aDr 5 fun bk=>?_)<;>refine Wy 94 Gi fun h94 ho94=>?_<;>refine bE bk ?_<;>(refine aDr 6 fun bk=>?_)<;>refine Y7 48 94 95 Gi fun h95 ho95=>?_<;>refine bE bk ?_<;>(refine aDr 10 fun bk=>?_)<;>refine Ka 95 99 Gi (fun h99 ho99=>?_) f3 f4<;>refine bE bk ?_<;>refine gEx 11 ?_<;>refine Wo ?_;refine Gm 99 results185 rfl rfl ?_;rw [r1,Jp Wk,W0 Wk];show PV.own _ _ _ _=PV.own _ _ _ _;congr 1
 . simp;omega
 simp [XR,LQ];rfl)))
