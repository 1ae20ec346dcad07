/-
  Walks of functions and plain laws of the chapter, as the claim needs them.
-/
import Derived.Laws.Slices
import Derived.WideLaws
import Derived.Test.YtmkojdfiadbeeaaGreatPf03
import Derived.Test.YtmkojdfiadbeeaaGreatPf11
import Derived.Test.YtmkojdfiadbeeaaGreatPf10
import Derived.Test.YtmkojdfiadbeeaaGreatPf08
import Derived.Test.YtmkojdfiadbeeaaGreatPf01
namespace Go.Proofs.YtmkojdfiadbeeaaGreat
open Go.RowKit Go.Cb Go.En Tryz
set_option linter.all false
set_option maxRecDepth 100000
def bst (l:List UInt8):ByteArray:=⟨l.toArray⟩
theorem ZcR (s:ByteArray):bst s.data.toList=s:=by cases s;simp [bst]
theorem D6 (l:List UInt8):(bst l).size=l.length:=by simp [bst,ByteArray.size]
structure Tk where
 kind:Int
 text:List UInt8
 n:Int
 ln:Int
 col:Int
def syms:List (List UInt8):=[[45,62],[61,62],[60,61],[62,61],[33,61],[61,61],[58,61],[46,46],[40],[41],[91],[93],[123],[125],[44],[59],[58],[46],[124],[38],[33],[63],[43],[45],[42],[47],[61],[60],[62],[64],[37],[94],[126]]
inductive Lt where
 |ok (n:Nat) (t:List UInt8)
 |err (e:Int)
inductive Lx where
 |ok (kind:Int) (text:List UInt8) (n:Int) (len:Nat)
 |err (e:Int)
structure LexOk (l:List UInt8) (kd:Int) (tx:List UInt8) (n:Int) (len:Nat):Prop where
 le:len≤l.length
 endk:l=[]↔kd=5
 pos:l≠[]→1≤len
 tlen:tx.length≤len
 lo:0≤n
 hi:n≤4503599627370496
def EndL (l:List Tk):Prop:=∃a e,l=a++[e]∧e.kind=5∧∀x∈a,x.kind≠5
structure TkOk (t:Tk):Prop where
 text:t.text.length≤16384
 lo:0≤t.n
 hi:t.n≤4503599627370496
inductive Rd where
 |ok (t:Nd) (m:List Tk)
 |err (t:Tk)
structure RdOk (m:List Tk) (t:Nd) (m2:List Tk):Prop where
 lt:m2.length<m.length
 suf:m2<:+m
 endl:EndL m2
theorem TY:FldT prog 51 0 0=true:=by kernel_rfl
theorem ζ9:FldT prog 51 1 1=true:=by kernel_rfl
abbrev pB (l:List UInt8):PV:=ZD (bst l)
def Zaa (t:Nd):ByteArray×Int:=if Jx t=true then (if 16384<(JJ t).length then (ByteArray.empty,5) else (⟨(JJ t).toArray⟩,0)) else (ByteArray.empty,1)
theorem ZiJ (l m:List UInt8):bst l++bst m=bst (l++m):=by
 unfold bst
 apply ByteArray.ext
 simp
theorem Zhb (op:Int):AF prog 178 [Zf op] (· =ZD (Tu op)):=by
 refine AF.of_body 10 func178 rfl ntmps178 (Xa rfl) ?_
 intro w0 M0 vs hl hv
 obtain ⟨v0,rfl⟩:=YG hl
 obtain rfl:=hv 0 _ _ rfl rfl
 clear hl hv
 refine Zd ?_
 (refine xL 2 Zb ?_<;>refine Zi ?_)
 (refine xL 3 Za ?_<;>refine Zi ?_)
 (refine xL 5 ZU (xL 4 Zb ?_)<;>refine Zc ?_)
 refine cX ?_ ?_<;>intro hb4
 · first|exact bN hb4|(
 refine Zd ?_;(refine xL 2 Zb ?_<;>refine Zc ?_)
 refine Zl (results178) rfl ?_;rw [Tu,UB (by assumption)])
 · first | exact bN hb4|(
 refine Zd ?_;(refine xL 7 ZU (xL 6 Zb ?_)<;>refine Zc ?_)
 refine cX ?_ ?_<;>intro hb6
 · first|exact bN hb6|(
 refine Zd ?_;(refine xL 2 Zb ?_<;>refine Zc ?_)
 refine Zl (results178) rfl ?_;rw [Tu,UA (by assumption),UB (by assumption)])
 · first|exact bN hb6|(
 refine Zd ?_;(refine xL 9 ZU (xL 8 Zb ?_)<;>refine Zc ?_)
 refine cX ?_ ?_<;>intro hb8
 · first|exact bN hb8|(
 refine Zd ?_;(refine xL 2 Zb ?_<;>refine Zc ?_)
 refine Zl (results178) rfl ?_;rw [Tu,UA (by assumption),UA (by assumption),UB (by assumption)])
 · first|exact bN hb8|(
 refine Zd ?_;(refine xL 2 Zb ?_<;>refine Zc ?_)
 refine Zl (results178) rfl ?_;rw [Tu,UA (by assumption),UA (by assumption),UA (by assumption)])))
theorem Rz {P:Program} {st:St} {o:Oper} {x y:Operand} {q q':PV} {t t':TypeId} (l m:List UInt8) (hs:l.length+m.length≤9223372036854775807) (ho:o.op= .binOp .add t x y t':=by exact rfl) (hx:ev st.slots x=some (.string (bst l),q):=by exact rfl) (hy:ev st.slots y=some (.string (bst m),q'):=by exact rfl):YE P st o (· = .string (bst (l++m))) (pB (l++m)):=by
 have:=Zkg (P:=P) ho hx hy (by rw [D6,D6];omega)
 rw [ZiJ] at this
 exact this
set_option maxHeartbeats 4000000 in
theorem Zhc : ∀ t :Nd,okT t=true→szT t≤1000000→AF prog 117 [pTr t] (· =pB (JJ t)):=Nd.ind fun o a l ih hok hs=>by
 have e0:pTr (.mk o a l)= .agg [Zf o,ZD a,Y4 l]:=rfl
 rw [e0]
 obtain ⟨hr,hp⟩:=Jw.1 hok
 have hf:=T9 _ hok hs
 have hsz:=SE (.mk o a l)
 simp only [Nd.l,Nd.op] at hp hsz
 have hlz:=T8 l
 have hW:AF prog 178 [Zf o] (· =pB (Tu o).data.toList):=by
  have:=Zhb o;rw [show pB (Tu o).data.toList=ZD (Tu o) by unfold pB;rw [ZcR]];exact this
 have hwl:=Ez o
 obtain ⟨W,hWe⟩:∃W,W=(Tu o).data.toList:=⟨_,rfl⟩
 rw [←hWe] at hW hwl
 refine AF.of_body 38 func117 rfl ntmps117 (Xa rfl) ?_
 intro w0 M0 vs hl hv
 obtain ⟨v0,rfl⟩:=YG hl
 clear hl hv
 refine Zd ?_
 (refine Yi 1 3 fun h1=>?_<;>refine xL 2 Zb ?_<;>refine Zi ?_)
 (refine xL 5 (Zn 1 TY) ?_<;>(refine yL 6 (Zr 1 Ya) fun v6 h=>?_;cases h)<;>refine xL 7 ZU ?_<;>refine Zc ?_)
 refine cX ?_ ?_<;>intro hb7
 · first|exact bN hb7|(
 refine Zd ?_;(refine xL 8 (Zn 1 ζ9) ?_<;>(refine yL 9 (Zr 1 ZP) fun v9 h=>?_;cases h)<;>refine xL 2 Zb ?_<;>refine Zc ?_)
 refine Zl (results117) rfl ?_;rw [JJ,UB (by assumption)];unfold pB;rw [ZcR])
 · first | exact bN hb7|(
 refine Zd ?_;(refine xL 10 (Zn 1 TY) ?_<;>(refine yL 11 (Zr 1 Ya) fun v11 h=>?_;cases h)<;>refine xL 12 ZU ?_<;>refine Zc ?_)
 refine cX ?_ ?_<;>intro hb12
 · first|exact bN hb12|(
 refine Zd ?_;(refine xL 2 Zb ?_<;>refine Zc ?_)
 refine Zl (results117) rfl ?_;rw [JJ,UA (by assumption),UB (by assumption)];rfl)
 · first | exact bN hb12|(
 refine Zd ?_;(refine xL 13 (Zn 1 TY) ?_<;>(refine yL 14 (Zr 1 Ya) fun v14 h=>?_;cases h)<;>(refine cS 15 (cA call178 (hW)) fun v15 h=>?_;cases h)<;>(refine xL 16 (Rz W [40] (by simp only [Xg,Xq];omega)) ?_)<;>refine xL 3 Zb ?_<;>refine Zi ?_)
 (refine xL 4 Zb ?_<;>refine Zc ?_)
 refine Zy (ι:={q:Nat×List UInt8//q.1≤l.length∧q.2=W++[40]++TX (JG (l.take q.1))}) (fun k=>⟨[(1,_,_),(3, .string (bst k.1.2),pB k.1.2),(4, .int .i64 k.1.1,Zf k.1.1)],[(1,_,_)]⟩) (fun k=>l.length-k.1.1) ⟨(0,W++[40]),Xn _,by rw [V7,JG,TX,Xu]⟩ (fun a w H=>H.weaken ⟨rfl,rfl,rfl,trivial⟩ ⟨rfl,trivial⟩) ?_;rintro ⟨⟨k,s⟩,hk,hse⟩;dsimp only;(dsimp only at hk hse;have hpl:=ZeZ hp k;have hsl:s.length≤4+1+50*szL l:=by (rw [hse,Xf,Xf,XA];omega));refine Zd ?_;(refine xL 17 Za (xL 18 (Zn 1 Gd) ?_)<;>(refine yL 19 (Zr 1 LK) fun v19 h=>?_;cases h)<;>refine xL 20 (ZF Jf) (xL 21 ZI ?_)<;>refine Zc ?_)
 refine cX ?_ ?_<;>intro hb21
 · first | exact bN hb21|(
 obtain ⟨x,hx⟩:=Zm (show k<l.length by omega);have e1:((Z6 l).drop (k*3)).take 3=[Zf x.op,ZD x.act,Y4 x.l]:=Z9 hx;have e2:=Yu hx;have hxm:=Xb hx;have hxs:=S8 hxm;have hX:=ih x hxm (hp x hxm) oM;have hxl:=ζ8 x (hp x hxm);have hsn:=Zbv hx;refine Zd ?_;(refine xL 24 Za (xL 25 YV ?_)<;>refine Zc ?_)
 refine cX ?_ ?_<;>intro hb25
 · first |exact bN hb25|(
 refine Zd ?_;(refine xL 26 Za ?_<;>(refine xL 27 (Rz s [44,32] (by simp only [Xg,Xq];omega)) ?_)<;>refine xL 3 Zb ?_<;>refine Zi ?_)
 (refine xL 28 Za (xL 29 (Zn 1 Gd) ?_)<;>(refine yL 30 (Zr 1 LK) fun v30 h=>?_;cases h)<;>refine xL 31 Za (xL 32 (Zv Jf) ?_)<;>(refine yL 33 (Wl Zs) fun v33 h=>?_;cases h)<;>(refine cS 34 (cA call117 (hX)) fun v34 h=>?_;cases h)<;>(refine xL 35 (Rz (s++[44,32]) (JJ x) (by rw [Xf];simp only [Xg,Xq];omega)) ?_)<;>refine xL 3 Zb ?_<;>refine Zi ?_)
 (refine xL 22 Za (xL 23 ZH (xL 4 Zb ?_))<;>refine Zc ?_)
 first
  | (exact Zh (
      ⟨(k+1,s++JJ x),Zj hx,by dsimp only;rw [hsn,UB oM,hse,Xu,XM]⟩
      ) (by dsimp only;omega) ⟨rfl,rfl,rfl,trivial⟩ ⟨rfl,trivial⟩)
  | (exact Zh (
      ⟨(k+1,s++[44,32]++JJ x),Zj hx,by dsimp only;rw [hsn,UA oM,hse];simp only [XM]⟩
      ) (by dsimp only;omega) ⟨rfl,rfl,rfl,trivial⟩ ⟨rfl,trivial⟩))
 · first |exact bN hb25|(
 refine Zd ?_;(refine xL 28 Za (xL 29 (Zn 1 Gd) ?_)<;>(refine yL 30 (Zr 1 LK) fun v30 h=>?_;cases h)<;>refine xL 31 Za (xL 32 (Zv Jf) ?_)<;>(refine yL 33 (Wl Zs) fun v33 h=>?_;cases h)<;>(refine cS 34 (cA call117 (hX)) fun v34 h=>?_;cases h)<;>refine xL 35 (Rz s (JJ x) oM) ?_<;>refine xL 3 Zb ?_<;>refine Zi ?_)
 (refine xL 22 Za (xL 23 ZH (xL 4 Zb ?_))<;>refine Zc ?_)
 first
  | (exact Zh (
      ⟨(k+1,s++JJ x),Zj hx,by dsimp only;rw [hsn,UB oM,hse,Xu,XM]⟩
      ) (by dsimp only;omega) ⟨rfl,rfl,rfl,trivial⟩ ⟨rfl,trivial⟩)
  | (exact Zh (
      ⟨(k+1,s++[44,32]++JJ x),Zj hx,by dsimp only;rw [hsn,UA oM,hse];simp only [XM]⟩
      ) (by dsimp only;omega) ⟨rfl,rfl,rfl,trivial⟩ ⟨rfl,trivial⟩)))
 · first|exact bN hb21|(
 refine Zd ?_;(refine xL 36 Za ?_<;>(refine xL 37 (Rz s [41] (by simp only [Xg,Xq];omega)) ?_)<;>refine xL 2 Zb ?_<;>refine Zc ?_)
 refine Zl (results117) rfl ?_;rw [JJ,UA (by assumption),UA (by assumption),hse,Xy oM,hWe])))
theorem Px (t:Nd) (hf:FitT t):AF prog 74 [pTr t] (· = .tup [ZD (Zaa t).1,Zf (Zaa t).2]):=by
 have e0:pTr t= .agg [Zf t.op,ZD t.act,Y4 t.l]:=rfl
 have hV:=Zdp t hf
 have hsz:=D6 (JJ t)
 rw [e0] at hV ⊢
 refine AF.of_body 14 func74 rfl ntmps74 (Xa rfl) ?_
 intro w0 M0 vs hl hv
 obtain ⟨v0,rfl⟩:=YG hl
 clear hl hv
 refine Zd ?_
 (refine Yi 1 3 fun h1=>?_<;>refine xL 2 Zb (xL 3 Zb ?_)<;>refine Zi ?_)
 ((refine yL 5 (Zu 1 Zs) fun v5 h=>?_;cases h)<;>(refine cS 6 (cA call82 (hV)) fun v6 h=>?_;cases h)<;>refine xL 7 Yd ?_<;>refine Zc ?_)
 refine cX ?_ ?_<;>intro hb7
 · first|exact bN hb7|(
 refine Zd ?_;(refine xL 2 Zb (xL 3 Zb ?_)<;>refine Zc ?_)
 refine YO (results74) rfl rfl ?_;rw [Zaa,UA (by simpa using hb7)];rfl)
 · first|exact bN hb7|(
 (have hv:Jx t=true:=by simpa using hb7);have hT:=Zhc t (ZaC hv) (by have:=ZaD hv;omega);rw [e0] at hT;refine Zd ?_;((refine yL 8 (Zu 1 Zs) fun v8 h=>?_;cases h)<;>(refine cS 9 (cA call117 (hT)) fun v9 h=>?_;cases h)<;>refine xL 4 Zb ?_<;>refine Zi ?_)
 (refine xL 10 Za (xL 11 (Tz underlying9) (xL 12 YV ?_))<;>refine Zc ?_)
 refine cX ?_ ?_<;>intro hb12
 · first|exact bN hb12|(
 refine Zd ?_;(refine xL 2 Zb (xL 3 Zb ?_)<;>refine Zc ?_)
 refine YO (results74) rfl rfl ?_;rw [Zaa,UB hv,UB oM];rfl)
 · first|exact bN hb12|(
 refine Zd ?_;(refine xL 13 Za (xL 2 Zb (xL 3 Zb ?_))<;>refine Zc ?_)
 refine YO (results74) rfl rfl ?_;rw [Zaa,UB hv,UA oM];rfl))
theorem J0:K6 prog 28=some ((.agg #[(.slice none 0 0),(.int .i64 0)]),([0,1]:List Nat).map fun o=>(o,1)):=by kernel_rfl
theorem Zhd {α:Type} {R:α→α→Prop} {cs:List α} (h:cs.Pairwise R) (i j:Nat) (a b:α) (hij:i<j) (ha:cs[i]? =some a) (hb:cs[j]? =some b):R a b:=by
 obtain ⟨hi,rfl⟩:=Xl.1 ha
 obtain ⟨hj,rfl⟩:=Xl.1 hb
 exact XT.1 h i j hi hj hij
theorem Zbw {n:Nat} {R:Nat→Nat→Bool} {cs:List (List Int)} (h1:Zbq (upTo n) (relS R) cs=true) (h2:cs.Pairwise fun a b=>¬cmpSeq R b a<0):SeqCs n R cs:=⟨⟨cs,Jl h1,List.Perm.refl _⟩,Zhd h2⟩
theorem Zhe {cs:List (List Int)} {i0:Nat} {c0:List Int} {W:List Int→Bool} {ds:List (List Int)} (hp:ds.Perm (selA i0 W true cs++[c0++(selA i0 W false cs).flatten])) (hs:(c0++(selA i0 W false cs).flatten).Pairwise fun a b=>a≤b) (ho:ds.Pairwise fun a b=>¬YX b-YX a<0):AndCs cs i0 c0 W ds:=by
 refine ⟨?_,Zhd ho⟩
 rw [List.mergeSort_of_pairwise (hs.imp fun h=>Uy h)]
 exact hp
theorem ZiK {n:Nat} {E:Nat→Nat→Bool} {S F:Nat→Bool} {cs:List (List Int)} (hs:(inL n S F++(cs.filter fun c=> !SJ n E S F c).flatten).Pairwise fun a b=>a≤b):Dw n E S F cs=(inL n S F++(cs.filter fun c=> !SJ n E S F c).flatten)::cs.filter (SJ n E S F):=by
 unfold Dw
 rw [List.mergeSort_of_pairwise (hs.imp fun h=>Uy h)]
theorem ZiL {g:Dfg} (hd:Gq g=true) (hm:g.acts.length≤1000) {o:Option Cut} (h0:Rv (Sq (cnames g.acts) (cnames g.acts).length (JC (cnames g.acts) g.follows) (WI (cnames g.acts) g.starts) (WI (cnames g.acts) g.ends)) o):AF prog 18 [KZ g] (· = .tup [LN o,LO o]):=by
 obtain ⟨hf,ha,hs,he,hfo⟩:=ZiD hd
 have hbg:=Zgl g hf ha hs he
 unfold E4 at hbg
 rw [hd,UB rfl] at hbg
 have hna:(cnames g.acts).length=g.acts.length:=by simp [cnames]
 have hbg':AF prog 46 [KZ g] (· = .tup [K9 (cnames g.acts) (cnames g.acts).length (JC (cnames g.acts) g.follows) (WI (cnames g.acts) g.starts) (WI (cnames g.acts) g.ends),Zf 0]):=by rw [hna];exact hbg
 have hFd:=Za2 g _ _ _ _ _ hbg' rfl oM
 refine hFd.mono fun p ⟨o',h1,h2⟩=>?_
 obtain rfl:o'=o:=Zbp (Q:=Sq (cnames g.acts) (cnames g.acts).length (JC (cnames g.acts) g.follows) (WI (cnames g.acts) g.starts) (WI (cnames g.acts) g.ends)) (fun h k'=>ZeP h k') h1 h0
 exact h2
theorem EB {l:List Var} (h:validVars l=true):Hd l:=⟨by have:=Pw h;omega,fun x hx=>ZeU (Zj9 h x hx)⟩
theorem Zbx {l:List Var} {u:Nd} (hl:l.length≤1000000) (hb:Kz l=some u):AF prog 77 [Z4 l] (· = .tup [pTr u,Zf 0]):=SR l u hl (fun v h=>by rw [hb] at h;cases h;rfl) (fun x m _ h=>by rw [hb] at h;cases h)
theorem Zab {x:Var} {l:List Var} {t:Nd} (hl:(x::l).length≤1000000) (hb:Kz (x::l)=none) (hx:x.acts=[]) (hT:AF prog 77 [Z4 l] (· = .tup [pTr t,Zf 0])):AF prog 77 [Z4 (x::l)] (· = .tup [pTr (Y5 4 [sil,t]),Zf 0]):=
 SR (x::l) _ hl (fun v h=>by rw [hb] at h;cases h) (fun y m e _=>by cases e;exact ⟨fun _=>⟨t,hT,rfl⟩,fun h=>UC hx h⟩)
theorem So {x:Var} {l:List Var} {g:Dfg} {c:Cut} {out:List (List Var)} {ts:List Nd} (hv:validVars (x::l)=true) (hb:Kz (x::l)=none) (hx:x.acts≠[]) (hm:Ex (x::l) g 0) (hd:Gq g=true) (hg:g.acts.length≤1000)
 (hF:Rv (Sq (cnames g.acts) (cnames g.acts).length (JC (cnames g.acts) g.follows) (WI (cnames g.acts) g.starts) (WI (cnames g.acts) g.ends)) (some c)) (hs:∀p∈c.parts,∀s∈p,s.size≤140737488355328) (hp:c.parts.length≤1000000) (hsp:KX (x::l) c=(out,0))
 (h1:ts.length=out.length) (h2:2≤ts.length) (h3:ts.length≤1000000) (h4:∀r∈out,r.length≤1000000) (hT:∀(i:Nat) (r:List Var) (u:Nd),out[i]? =some r→ts[i]? =some u→AF prog 77 [Z4 (Gt r)] (· = .tup [pTr u,Zf 0])):AF prog 77 [Z4 (x::l)] (· = .tup [pTr (Cf c.kind ts),Zf 0]):=by
 have hfit:=EB hv
 have hM:=ZiC (Ziz _ hfit) hm
 have hS:=ZgQ _ c hfit hs hp
 unfold RSp at hS
 rw [hsp] at hS
 exact SR (x::l) _ (by have:=Pw hv;omega) (fun v h=>by rw [hb] at h;cases h) (fun y m e _=>by cases e;exact ⟨fun h=>UC h hx,fun _=>⟨g,hM,oM, .inr ⟨c,out,ts,ZiL hd hg hF,hS,h1,h2,h3,h4,hT,rfl⟩⟩⟩)
theorem Cg {l:List Var} {t:Nd} (hv:validVars l=true) (hf:(l.flatMap (·.acts)).length≤40) (ho:Gt l=l) (hF:FitT t) (ht:Jx t=true) (hn:Jx (Yg t)=true) (hT:AF prog 77 [Z4 l] (· = .tup [pTr t,Zf 0])):AF prog 24 [Z4 l] (· = .tup [pTr (Yg t),Zf 0]):=by
 have h:=Zbu l t (EB hv) (by have:=Pw hv;omega) hF fun _ _=>by rw [ho];exact hT
 rw [ZkD hv (XG (Zkf l) hf) ht hn] at h
 exact h
section
variable {P:Program} {o:Oper} {st:St}
theorem Ch {x y:Operand} {q q':PV} {t t':TypeId} {a:ByteArray} (ho:o.op= .binOp .eql t x y t':=by exact rfl) (hx:ev st.slots x=some (.string a,q):=by exact rfl) (hy:ev st.slots y=some (.string a,q'):=by exact rfl):YE P st o (· = .bool true) (.val (.bool true)):=by
 have h:=KC (P:=P) ho hx hy
 rwa [beq_self_eq_true] at h
end
def chA:ByteArray:=⟨#[97]⟩
def chB:ByteArray:=⟨#[98]⟩
def chC:ByteArray:=⟨#[99]⟩
def chD:ByteArray:=⟨#[100]⟩
def vX:List Var:=[⟨[chA,chB,chD],1⟩,⟨[chA,chC,chD],1⟩]
def vX2:List Var:=[⟨[chB],1⟩,⟨[chC],1⟩]
def vY2:List Var:=[⟨[chA,chB],1⟩,⟨[chB,chA],1⟩]
def vY:List Var:=⟨[],1⟩::vY2
def vZ:List Var:=[⟨[chA],1⟩,⟨[chA,chB,chA],1⟩]
def gX:Dfg:=⟨[⟨chA,2⟩,⟨chB,1⟩,⟨chC,1⟩,⟨chD,2⟩],[⟨chA,2⟩],[⟨chD,2⟩],[⟨chA,chB,1⟩,⟨chA,chC,1⟩,⟨chB,chD,1⟩,⟨chC,chD,1⟩]⟩
def gX2:Dfg:=⟨[⟨chB,1⟩,⟨chC,1⟩],[⟨chB,1⟩,⟨chC,1⟩],[⟨chB,1⟩,⟨chC,1⟩],[]⟩
def gY:Dfg:=⟨[⟨chA,2⟩,⟨chB,2⟩],[⟨chA,1⟩,⟨chB,1⟩],[⟨chA,1⟩,⟨chB,1⟩],[⟨chA,chB,1⟩,⟨chB,chA,1⟩]⟩
def gZ:Dfg:=⟨[⟨chA,3⟩,⟨chB,1⟩],[⟨chA,2⟩],[⟨chA,2⟩],[⟨chA,chB,1⟩,⟨chB,chA,1⟩]⟩
def ctX:Cut:=⟨2,[[chA],[chB,chC],[chD]]⟩
def cX2:Cut:=⟨1,[[chB],[chC]]⟩
def cY:Cut:=⟨3,[[chA],[chB]]⟩
def cZ:Cut:=⟨4,[[chA],[chB]]⟩
theorem ZiM:Ex vX gX 0:= .inr (.inr ⟨by kernel_rfl,by decide+kernel,⟨⟨by
 rw [show (makeM vX).a.map mkC=[⟨chA,2⟩,⟨chB,1⟩,⟨chD,2⟩,⟨chC,1⟩] by kernel_rfl]
 exact ((List.Perm.swap _ _ _).cons _).cons _,by decide+kernel⟩,⟨by rw [show (makeM vX).s.map mkC=gX.starts by kernel_rfl],by decide+kernel⟩,⟨by rw [show (makeM vX).f.map mkC=gX.ends by kernel_rfl],by decide+kernel⟩,⟨by
 rw [show (makeM vX).q.map mkF=[⟨chA,chB,1⟩,⟨chB,chD,1⟩,⟨chA,chC,1⟩,⟨chC,chD,1⟩] by kernel_rfl]
 exact (List.Perm.swap _ _ _).cons _,by decide+kernel⟩⟩,rfl⟩)
theorem Zhf:Ex vX2 gX2 0:= .inr (.inr ⟨by kernel_rfl,by decide+kernel,⟨⟨by rw [show (makeM vX2).a.map mkC=gX2.acts by kernel_rfl],by decide+kernel⟩,⟨by rw [show (makeM vX2).s.map mkC=gX2.starts by kernel_rfl],by decide+kernel⟩,⟨by rw [show (makeM vX2).f.map mkC=gX2.ends by kernel_rfl],by decide+kernel⟩,⟨by rw [show (makeM vX2).q.map mkF=gX2.follows by kernel_rfl],by decide+kernel⟩⟩,rfl⟩)
theorem ZiN:Ex vY2 gY 0:= .inr (.inr ⟨by kernel_rfl,by decide+kernel,⟨⟨by rw [show (makeM vY2).a.map mkC=gY.acts by kernel_rfl],by decide+kernel⟩,⟨by rw [show (makeM vY2).s.map mkC=gY.starts by kernel_rfl],by decide+kernel⟩,⟨by
 rw [show (makeM vY2).f.map mkC=[⟨chB,1⟩,⟨chA,1⟩] by kernel_rfl]
 exact List.Perm.swap _ _ _,by decide+kernel⟩,⟨by rw [show (makeM vY2).q.map mkF=gY.follows by kernel_rfl],by decide+kernel⟩⟩,rfl⟩)
theorem ZiO:Ex vZ gZ 0:= .inr (.inr ⟨by kernel_rfl,by decide+kernel,⟨⟨by rw [show (makeM vZ).a.map mkC=gZ.acts by kernel_rfl],by decide+kernel⟩,⟨by rw [show (makeM vZ).s.map mkC=gZ.starts by kernel_rfl],by decide+kernel⟩,⟨by rw [show (makeM vZ).f.map mkC=gZ.ends by kernel_rfl],by decide+kernel⟩,⟨by rw [show (makeM vZ).q.map mkF=gZ.follows by kernel_rfl],by decide+kernel⟩⟩,rfl⟩)
theorem ZiP:Rv (Sq (cnames gX.acts) (cnames gX.acts).length (JC (cnames gX.acts) gX.follows) (WI (cnames gX.acts) gX.starts) (WI (cnames gX.acts) gX.ends)) (some ctX):=
 .inl ⟨1,ctX,dC,fun j hj=>by
  obtain rfl:j=0:=oM;exact ⟨[[0,1,2,3]],Jl (by decide+kernel),rfl⟩,⟨[[0],[1,2],[3]],Zbw (by decide+kernel) (by decide+kernel),rfl⟩,rfl⟩
theorem Zhg:Rv (Sq (cnames gX2.acts) (cnames gX2.acts).length (JC (cnames gX2.acts) gX2.follows) (WI (cnames gX2.acts) gX2.starts) (WI (cnames gX2.acts) gX2.ends)) (some cX2):=
 .inl ⟨0,cX2,dC,fun j hj=>UC hj (Nat.not_lt_zero j),⟨[[0],[1]],Jl (by decide+kernel),rfl⟩,rfl⟩
theorem ZiQ:Rv (Sq (cnames gY.acts) (cnames gY.acts).length (JC (cnames gY.acts) gY.follows) (WI (cnames gY.acts) gY.starts) (WI (cnames gY.acts) gY.ends)) (some cY):=
 .inl ⟨2,cY,dC,fun j hj=>by
  match j,hj with
  |0,_=>exact ⟨[[0,1]],Jl (by decide+kernel),rfl⟩
  |1,_=>exact ⟨[[0,1]],Zbw (by decide+kernel) (by decide+kernel),rfl⟩
  |j+2,hj=>omega,⟨[[0],[1]],Jl (by decide+kernel), .inr ⟨0,[0],[[0],[1]],rfl,by decide+kernel,Zhe (by decide+kernel) (by decide+kernel) (by decide+kernel),rfl⟩⟩,rfl⟩
theorem ZiR:Rv (Sq (cnames gZ.acts) (cnames gZ.acts).length (JC (cnames gZ.acts) gZ.follows) (WI (cnames gZ.acts) gZ.starts) (WI (cnames gZ.acts) gZ.ends)) (some cZ):=
 .inl ⟨3,cZ,dC,fun j hj=>by
  match j,hj with
  |0,_=>exact ⟨[[0,1]],Jl (by decide+kernel),rfl⟩
  |1,_=>exact ⟨[[0,1]],Zbw (by decide+kernel) (by decide+kernel),rfl⟩
  |2,_=>exact ⟨[[0],[1]],Jl (by decide+kernel), .inr ⟨0,[0],[[0,1]],rfl,by decide+kernel,Zhe (by decide+kernel) (by decide+kernel) (by decide+kernel),rfl⟩⟩
  | j+3,hj=>omega, .inr ⟨[[1]],by decide+kernel,Jl (by decide+kernel),by
    rw [ZiK (by decide+kernel)];kernel_rfl⟩,rfl⟩
def tX2:Nd:=Y5 4 [lf chB,lf chC]
def tX:Nd:=Y5 3 [lf chA,tX2,lf chD]
def tY2:Nd:=Y5 5 [lf chA,lf chB]
def tY:Nd:=Y5 4 [sil,tY2]
def tZ:Nd:=Y5 6 [lf chA,lf chB]
theorem RA {ps:List (List ByteArray)} (h:ps.all fun p=>p.all fun s=>decide (s.size≤100)):∀p∈ps,∀s∈p,s.size≤140737488355328:=fun p hp s hs=>by
 have:=UD (Xj.1 (Xj.1 h p hp) s hs)
 omega
theorem Ox {out:List (List Var)} (h:out.all fun r=>decide (r.length≤100)):∀r∈out,r.length≤1000000:=fun r hr=>by
 have:=UD (Xj.1 h r hr)
 omega
theorem Li (s:ByteArray) (n:Int):AF prog 77 [Z4 (Gt [⟨[s],n⟩])] (· = .tup [pTr (lf s),Zf 0]):=Zbx (show 1≤1000000 by decide) rfl
theorem Zhh:AF prog 77 [Z4 vX2] (· = .tup [pTr tX2,Zf 0]):=
 So (c:=cX2) (out:=[[⟨[chB],1⟩],[⟨[chC],1⟩]]) (ts:=[lf chB,lf chC]) kR rfl (by intro h;cases h) Zhf kR dC Zhg (RA (by decide+kernel)) dC kR rfl dC dC (Ox (by decide+kernel)) fun i r u hr hu=>by
  match i with
  |0=>cases hr;cases hu;exact Li chB 1
  |1=>cases hr;cases hu;exact Li chC 1
  |i+2=>simp at hr
theorem ZiS:AF prog 77 [Z4 vX] (· = .tup [pTr tX,Zf 0]):=
 So (c:=ctX) (out:=[[⟨[chA],2⟩],vX2,[⟨[chD],2⟩]]) (ts:=[lf chA,tX2,lf chD]) kR rfl (by intro h;cases h) ZiM kR dC ZiP (RA (by decide+kernel)) dC kR rfl dC dC (Ox (by decide+kernel)) fun i r u hr hu=>by
  match i with
  |0=>cases hr;cases hu;exact Li chA 2
  |1=>cases hr;cases hu;exact Zhh
  |2=>cases hr;cases hu;exact Li chD 2
  |i+3=>simp at hr
theorem Zhi:AF prog 77 [Z4 vY2] (· = .tup [pTr tY2,Zf 0]):=
 So (c:=cY) (out:=[[⟨[chA],2⟩],[⟨[chB],2⟩]]) (ts:=[lf chA,lf chB]) kR rfl (by intro h;cases h) ZiN kR dC ZiQ (RA (by decide+kernel)) dC kR rfl dC dC (Ox (by decide+kernel)) fun i r u hr hu=>by
  match i with
  |0=>cases hr;cases hu;exact Li chA 2
  |1=>cases hr;cases hu;exact Li chB 2
  |i+2=>simp at hr
theorem ZiT:AF prog 77 [Z4 vY] (· = .tup [pTr tY,Zf 0]):=Zab dC rfl rfl Zhi
theorem ZiU:AF prog 77 [Z4 vZ] (· = .tup [pTr tZ,Zf 0]):=
 So (c:=cZ) (out:=[[⟨[chA],3⟩],[⟨[chB],1⟩]]) (ts:=[lf chA,lf chB]) kR rfl (by intro h;cases h) ZiO kR dC ZiR (RA (by decide+kernel)) dC kR rfl dC dC (Ox (by decide+kernel)) fun i r u hr hu=>by
  match i with
  |0=>cases hr;cases hu;exact Li chA 3
  |1=>cases hr;cases hu;exact Li chB 1
  |i+2=>simp at hr
def txX:ByteArray:=⟨#[115,101,113,40,97,44,32,120,111,114,40,98,44,32,99,41,44,32,100,41]⟩
def txY:ByteArray:=⟨#[120,111,114,40,40,41,44,32,97,110,100,40,97,44,32,98,41,41]⟩
def txZ:ByteArray:=⟨#[108,111,111,112,40,97,44,32,98,41]⟩
theorem Ze0 (i:Nat) {p p':PV} {cs:List PV} (h1:(PV.val (.slice none 0 0)::cs)[i]? =some p) (h2:(PV.sl 0 []::cs)[i]? =some p'):p'=p∨(p= .val (.slice none 0 0)∧p'= .sl 0 []):=by
 match i with
 |0=>cases h1;cases h2;exact .inr ⟨rfl,rfl⟩
 |i+1=>rw [VW] at h1 h2;rw [h1] at h2;cases h2;exact .inl rfl
set_option maxHeartbeats 4000000 in
theorem Ze1:AF prog 22 [] (· =ZB true):=by
 have e0:∀u:Nd,pTr u= .agg [Zf u.op,ZD u.act,Y4 u.l]:=fun _=>rfl
 have dX:=Cg (l:=vX) (t:=tX) kR (by decide+kernel) rfl (T9 _ (by decide+kernel) (by decide+kernel)) (by decide+kernel) (by decide+kernel) ZiS
 have dY:=Cg (l:=vY) (t:=tY) kR (by decide+kernel) rfl (T9 _ (by decide+kernel) (by decide+kernel)) (by decide+kernel) (by decide+kernel) ZiT
 have dZ:=Cg (l:=vZ) (t:=tZ) kR (by decide+kernel) rfl (T9 _ (by decide+kernel) (by decide+kernel)) (by decide+kernel) (by decide+kernel) ZiU
 have fX:=T' (t:=tX) (by decide+kernel) (by decide+kernel)
 have fY:=T' (t:=tY) (by decide+kernel) (by decide+kernel)
 have fZ:=T' (t:=tZ) (by decide+kernel) (by decide+kernel)
 have xX:=Px _ fX
 have xY:=Px _ fY
 have xZ:=Px _ fZ
 rw [show Zaa (Yg tX)=(txX,0) by kernel_rfl] at xX
 rw [show Zaa (Yg tY)=(txY,0) by kernel_rfl] at xY
 rw [show Zaa (Yg tZ)=(txZ,0) by kernel_rfl] at xZ
 generalize Yg tX=uX at dX xX
 generalize Yg tY=uY at dY xY
 generalize Yg tZ=uZ at dZ xZ
 rw [e0] at dX dY dZ xX xY xZ
 refine AF.of_body 78 func22 rfl ntmps22 (Xa rfl) ?_
 intro w0 M0 vs hl hv
 obtain rfl:=Xw hl
 clear hl hv
 refine Zd ?_
 (refine xL 0 Zb ?_<;>refine Zi ?_)
 ((refine L4 (xs:=[_,_,_]) 14 Wm fun h14 ho14=>?_;refine ZJ (En.freeze (l:=14) (t:=14) rfl rfl) fun _=>?_)<;>refine xL 15 (ZO J0) ?_<;>(refine L4 (xs:=[_,_,_]) 16 Wm fun h16 ho16=>?_;refine ZJ (En.freeze (l:=16) (t:=16) rfl rfl) fun _=>?_)<;>refine xL 17 (ZO J0) ?_<;>(refine JR (kk:=2) (xs:=[_,_]) (cs:=[[_,_],[_,_]]) 18 LS fun h18 ho18=>?_;refine ZJ (En.freeze (l:=18) (t:=18) rfl rfl) fun _=>?_;refine ZJ (JA (t:=18) (p':=Z4 vX) rfl rfl) fun _=>?_)<;>(refine cP 19 (cA call24 (dX)) fun va19 vb19 hva19 h=>?_;cases h)<;>refine xL 13 Za (xL 20 Zp (xL 21 Zp ?_))<;>refine ZA [(.int .i64 0),(.string ByteArray.empty),(.slice none 0 0)] 3 1 Z8 fun h1=>?_<;>refine Zw 1 Zs ?_<;>refine xL 2 Zb ?_<;>refine Zi ?_)
 (refine xL 23 (ZO J0) ?_<;>(refine L4 (xs:=[_,_]) 24 Wm fun h24 ho24=>?_;refine ZJ (En.freeze (l:=24) (t:=24) rfl rfl) fun _=>?_)<;>refine xL 25 (ZO J0) ?_<;>(refine L4 (xs:=[_,_]) 26 Wm fun h26 ho26=>?_;refine ZJ (En.freeze (l:=26) (t:=26) rfl rfl) fun _=>?_)<;>refine xL 27 (ZO J0) ?_<;>(refine JR (kk:=2) (xs:=[_,_,_]) (cs:=[[_,_],[_,_],[_,_]]) 28 LS fun h28 ho28=>?_;refine ZJ (ZeW (l:=28) (vY.flatMap Wn) rfl rfl (fun i p p' h1 h2=>Ze0 i h1 h2)) fun _=>?_;refine ZJ (En.freeze (l:=28) (t:=28) rfl rfl) fun _=>?_;refine ZJ (JA (t:=28) (p':=Z4 vY) rfl rfl) fun _=>?_)<;>(refine cP 29 (cA call24 (dY)) fun va29 vb29 hva29 h=>?_;cases h)<;>refine xL 22 Za (xL 30 Zp (xL 31 Zp ?_))<;>refine ZA [(.int .i64 0),(.string ByteArray.empty),(.slice none 0 0)] 3 3 Z8 fun h3=>?_<;>refine Zw 3 Zs ?_<;>refine xL 4 Zb ?_<;>refine Zi ?_)
 ((refine W4 (kk:=1) 33 Wm fun h33 ho33=>?_;refine ZJ (En.freeze (l:=33) (t:=33) rfl rfl) fun _=>?_)<;>refine xL 34 (ZO J0) ?_<;>(refine L4 (xs:=[_,_,_]) 35 Wm fun h35 ho35=>?_;refine ZJ (En.freeze (l:=35) (t:=35) rfl rfl) fun _=>?_)<;>refine xL 36 (ZO J0) ?_<;>(refine JR (kk:=2) (xs:=[_,_]) (cs:=[[_,_],[_,_]]) 37 LS fun h37 ho37=>?_;refine ZJ (En.freeze (l:=37) (t:=37) rfl rfl) fun _=>?_;refine ZJ (JA (t:=37) (p':=Z4 vZ) rfl rfl) fun _=>?_)<;>(refine cP 38 (cA call24 (dZ)) fun va38 vb38 hva38 h=>?_;cases h)<;>refine xL 32 Za (xL 39 Zp (xL 40 Zp ?_))<;>refine ZA [(.int .i64 0),(.string ByteArray.empty),(.slice none 0 0)] 3 5 Z8 fun h5=>?_<;>refine Zw 5 Zs ?_<;>refine xL 6 Zb ?_<;>refine Zi ?_)
 ((refine yL 42 (Zu 1 Zs) fun v42 h=>?_;cases h)<;>(refine cP 43 (cA call74 (xX)) fun va43 vb43 hva43 hvb43=>?_;cases hva43;cases hvb43)<;>refine xL 41 Za (xL 44 Zp (xL 45 Zp (xL 7 Zb (xL 8 Zb ?_))))<;>refine Zi ?_)
 ((refine yL 47 (Zu 3 Zs) fun v47 h=>?_;cases h)<;>(refine cP 48 (cA call74 (xY)) fun va48 vb48 hva48 hvb48=>?_;cases hva48;cases hvb48)<;>refine xL 46 Za (xL 49 Zp (xL 50 Zp (xL 9 Zb (xL 10 Zb ?_))))<;>refine Zi ?_)
 ((refine yL 52 (Zu 5 Zs) fun v52 h=>?_;cases h)<;>(refine cP 53 (cA call74 (xZ)) fun va53 vb53 hva53 hvb53=>?_;cases hva53;cases hvb53)<;>refine xL 51 Za (xL 54 Zp (xL 55 Zp (xL 11 Zb (xL 12 Zb ?_))))<;>refine Zi ?_)
 (refine xL 56 Za (xL 57 SD (xL 58 Za (xL 59 Za (xL 60 SD (xL 61 Zt (xL 62 Za (xL 63 Za (xL 64 SD (xL 65 Zt (xL 66 Za (xL 67 Za (xL 68 Ch (xL 69 Zt (xL 70 Za (xL 71 Za (xL 72 Ch (xL 73 Zt (xL 74 Za (xL 75 Za (xL 76 Ch (xL 77 Zt (xL 0 Zb ?_))))))))))))))))))))))<;>refine Zc ?_)<;>(
 exact Zl results22 rfl rfl)
def ZcS (l:List ByteArray):PV:=if WJ l=true∧l.length≠0 then .tup [pTr (Rl l),Zf 0] else .tup [Jd,Zf 1]
theorem Zby (l:List ByteArray) (hl:l.length≤1000000) (hs:∀s∈l,s.size≤140737488355328):AF prog 30 [ZT l] (· =ZcS l):=by
 have eB:∀u:Nd,pTr u= .agg [Zf u.op,ZD u.act,Y4 u.l]:=fun _=>rfl
 refine AF.of_body 15 func30 rfl ntmps30 (Xa rfl) ?_
 intro w0 M0 vs hl hv
 obtain ⟨v0,rfl⟩:=YG hl
 clear hl hv
 refine Zd ?_
 (refine ZA [(.int .i64 0),(.string ByteArray.empty),(.slice none 0 0)] 3 2 Z8 fun h2=>?_<;>refine xL 3 Zb ?_<;>refine Zi ?_)
 (refine xL 4 Za ?_<;>(refine cS 5 (cA call86 (OM l hs)) fun v5 h=>?_;cases h)<;>refine xL 6 Yd (xL 7 Za ?_)<;>(refine bL 7 (fun hb7=>?_) (fun hb7=>?_)<;>(first|refine kL 8 ?_|refine xL 8 Za ?_))<;>(first|refine kL 9 ?_|refine xL 9 (ZF Zx) ?_)<;>(first|refine kL 10 ?_|refine xL 10 ZU ?_)<;>refine xL 11 Zt ?_<;>refine Zc ?_)<;>(
 refine cX ?_ ?_<;>intro hb11
 · first|exact bN hb11|(
 refine Zd ?_;(refine xL 12 (ZO YC) ?_<;>refine Zw 2 Zs ?_<;>refine xL 3 Zb ?_<;>refine Zc ?_)
 refine Yn (k:=3) 2 kR (results30) rfl rfl rfl (Xa rfl) dC rfl ?_;unfold ZcS
 first
  |(rw [UA fun h=>by have h7:=hb7;rw [h.1] at h7;exact UC h7 dC];rfl)
  |(rw [UA fun h=>by omega];rfl))
 · first|exact bN hb11|(
 refine Zd ?_;(refine xL 13 Za ?_<;>(refine cD 14 (cA call87 (HS l hl)) fun v14 hv14=>?_;clear hv14)<;>refine Zw 2 Zs ?_<;>refine xL 3 Zb ?_<;>refine Zc ?_)
 refine Yn (k:=3) 2 kR (results30) rfl rfl rfl (Xa rfl) dC rfl ?_;unfold ZcS;rw [UB ⟨by simpa using hb7,oM⟩];rfl))
end Go.Proofs.YtmkojdfiadbeeaaGreat
namespace Go.En
open Go.RowKit Go.Cb
set_option linter.all false
section
variable {P:Program} {st:St} {o:Oper} {x y u:Operand} {q q' q2:PV} {t t':TypeId}
end
section
variable {P:Program} {c:Ctx} {ops:Array Oper} {Q:Exit→Act→World→Prop} {rest:List Oper} {sL hP:List (Nat×Ent)}
end
def Zbz:PV→List PV
 | .agg ps=>ps
 |p=>[p]
def ZkV:PV→Bool
 | .agg _=>true
 |_=>false
theorem shr_cells {M:BS} {w:World} {v:Value} {p:PV} (h:Shr M w v p) (hp:(one p||ZkV p)=true):v.cells.toList.length=(Zbz p).length∧∀(i:Nat) (x:Value) (q:PV),v.cells.toList[i]? =some x→(Zbz p)[i]? =some q→Shr M w x q:=by
 by_cases h1:one p=true
 · have hv:=h.one h1;have hc:v.cells.toList=[v]:=by rw [Kt hv]
   have hpc:Zbz p=[p]:=by cases p<;>first|rfl|cases h1
   rw [hc,hpc];refine ⟨rfl,fun i x q hx hq=>?_⟩;match i with
   |0=>cases hx;cases hq;exact h
   |i+1=>simp at hx
 · rw [X9] at hp;have hp:=hp.resolve_left h1
   cases h with
   |agg us ps hl hV=>exact ⟨hl,hV⟩
   |_=>cases hp
section
variable {P:Program} {sL hP:List (Nat×Ent)} {o:Oper}
end
section
variable {P:Program} {c:Ctx} {ops:Array Oper} {Q:Exit→Act→World→Prop} {rest:List Oper} {sL hP:List (Nat×Ent)} {o:Oper}
end
section
variable {P:Program} {st:St} {o:Oper} {x y:Operand} {q q':PV} {t t':TypeId}
end
inductive ResR (P:Program) (sL hP:List (Nat×Ent)):ResultVar→PV→Prop
 |tmp {t:Nat} {v:Value} {p:PV} (ht:lk sL t=some (v,p)):ResR P sL hP (.tmp t) p
 |cell {t ty k e k' n:Nat} {h:Value} {q:PV} {cs:List PV} (l:Nat) (hT:AggT P ty k=true) (ht:lk sL t=some (padd (sbase h) 0,q)) (hl:lk hP l=some (h, .own e k' n cs)) (hp:k≤cs.length) (hk:0<k) (hsh:(cs.take k).all isSh=true):ResR P sL hP (.cell t ty) (.agg (cs.take k))
 |cell1 {t ty e k' n:Nat} {h:Value} {q p:PV} {cs:List PV} (l:Nat) (hT:NoAgg P ty=true) (ht:lk sL t=some (padd (sbase h) 0,q)) (hl:lk hP l=some (h, .own e k' n cs)) (hp:cs[0]? =some p) (hsh:isSh p=true):ResR P sL hP (.cell t ty) p
def Zac (tmps:Array Value):ResultVar→Sem Value
 | .tmp t=>pure (tmps.getD t undef)
 | .cell a t=>do loadVar t (←asAddr (tmps.getD a undef))
section
variable {P:Program} {c:Ctx} {sL hP:List (Nat×Ent)}
theorem Ze2 {F:Nat→BS} {a:Act} {w:World} (H:HoldsF c (⟨sL,hP⟩:St) F a w) {t ty l e k' n:Nat} {h:Value} {q p:PV} {cs:List PV} (hT:NoAgg P ty=true) (ht:lk sL t=some (padd (sbase h) 0,q)) (hl:lk hP l=some (h, .own e k' n cs)) (hp:cs[0]? =some p) (hsh:isSh p=true):
 ∃V A,(asAddr (a.tmps.getD t undef)).run P w= .ok A w∧(loadVar ty A).run P w= .ok V w∧Shr (mof c hP F) w V p:=by
 have hv:=(H.sl t _ _ ht).1
 obtain ⟨xs,Fs,hrow,hlen,hTr,hd,hb,hF'⟩:=(H.tr l _ _ hl).row
 have hj:=Zj hp
 rcases YQ hrow with ⟨_,_,rfl⟩|⟨g,cap,rfl,h1,h2,h3⟩
 · simp at hlen;rw [hlen] at hj;simp at hj
 obtain ⟨y,hy⟩:=Yl hp hlen
 have hS:=(hTr 0 y p hy hp).sh hsh
 refine ⟨y,⟨g,0,none⟩,?_,?_,hS⟩
 · simp only [sbase,padd,Xx] at hv;simp [X3,hv,asAddr]
 · have:=WS hrow hy;simp [loadVar,NoAgg.run hT,load,Sem.run,this]
theorem ResR.run {r:ResultVar} {p:PV} {F:Nat→BS} {a:Act} {w:World} (hr:ResR P sL hP r p) (H:HoldsF c (⟨sL,hP⟩:St) F a w):∃V,(Zac a.tmps r).run P w= .ok V w∧Shr (mof c hP F) w V p:=by
 cases hr with
 | tmp ht=>
   obtain ⟨h1,h2⟩:=H.sl _ _ _ ht;exact ⟨_,by simp [Zac,X3,h1],h2⟩
 | cell l hT ht hl hp hk hsh=>
   obtain ⟨V,A,h0,h1,h2⟩:=OJ H hT ht hl hp hk hsh;exact ⟨V,by simp only [X3] at h0;simp [Zac,h0,h1],h2⟩
 | cell1 l hT ht hl hp hsh=>
   obtain ⟨V,A,h0,h1,h2⟩:=Ze2 H hT ht hl hp hsh;exact ⟨V,by simp only [X3] at h0;simp [Zac,h0,h1],h2⟩
theorem ZbA (fn:Func) (tmps:Array Value):results fn tmps=(do let vs ←fn.results.mapM (Zac tmps);pure (if h:vs.size=1 then vs[0] else Value.tuple vs)):=by
 unfold results
 congr 1
theorem Zhj {fn:Func} {r0 r1 r2:ResultVar} {tmps:Array Value} {w:World} {V0 V1 V2:Value} (hr:fn.results= #[r0,r1,r2]) (h0:(Zac tmps r0).run P w= .ok V0 w) (h1:(Zac tmps r1).run P w= .ok V1 w) (h2:(Zac tmps r2).run P w= .ok V2 w):(results fn tmps).run P w= .ok (.tuple #[V0,V1,V2]) w:=by
 rw [ZbA,hr]
 simp [h0,h1,h2]
theorem ZkW {M:BS} {w:World} {V0 V1 V2:Value} {p0 p1 p2:PV} (h0:Shr M w V0 p0) (h1:Shr M w V1 p1) (h2:Shr M w V2 p2):Shr M w (.tuple #[V0,V1,V2]) (.tup [p0,p1,p2]):= .tup [V0,V1,V2] _ rfl fun i v q hv hq=>by
 match i with
 |0=>cases hv;cases hq;exact h0
 |1=>cases hv;cases hq;exact h1
 |2=>cases hv;cases hq;exact h2
 |i+3=>simp at hv
theorem Zi9 {fn:Func} {R:PV→Prop} {r0 r1 r2:ResultVar} {p0 p1 p2:PV} (hr:fn.results= #[r0,r1,r2]) (h0:ResR P sL hP r0 p0) (h1:ResR P sL hP r1 p1) (h2:ResR P sL hP r2 p2) (hR:R (.tup [p0,p1,p2])) (hN:∀b,¬c.N0 b:=by intro _ h;exact h) (hdf:c.df=[]:=by exact rfl):aR c (bodyPost P fn (Gn c R)) (⟨sL,hP⟩:St):=fun a w ⟨F,H⟩=>by
 obtain ⟨V0,g0,s0⟩:=h0.run H
 obtain ⟨V1,g1,s1⟩:=h1.run H
 obtain ⟨V2,g2,s2⟩:=h2.run H
 refine ⟨H.df.trans hdf, .tuple #[V0,V1,V2],Zhj hr g0 g1 g2,_,_,fun _=>False,rfl,hR,H.ext.ext (fun b _=>hN b), .shr ((ZkW s0 s1 s2).anti fun b _ hb=>?_) (fun _ h=>h),fun _ h=>h.elim,H.dw⟩
 rcases hb with hb|hb
 · exact .inl hb
 · exact hb.elim
end
end Go.En
namespace Go.Proofs.YtmkojdfiadbeeaaGreat
open Go.RowKit Go.Cb Go.En Tryz
set_option linter.all false
set_option maxRecDepth 100000
section
variable {P:Program} {o:Oper} {st:St}
theorem Zhk {x y:Operand} {q q':PV} {t t':TypeId} {k:IntKind} {a:Int} (ho:o.op= .binOp .neq t x y t':=by exact rfl) (hx:ev st.slots x=some (.int k a,q):=by exact rfl) (hy:ev st.slots y=some (.int k a,q'):=by exact rfl):YE P st o (· = .bool false) (.val (.bool false)):=by
 have h:=Wg (P:=P) ho hx hy
 rwa [Uz (fun h=>h rfl)] at h
theorem ZiV {x y:Operand} {q q':PV} {t t':TypeId} {a:Bool} (hu:P.underlying t=some .bool) (ho:o.op= .binOp .neq t x y t':=by exact rfl) (hx:ev st.slots x=some (.bool a,q):=by exact rfl) (hy:ev st.slots y=some (.bool a,q'):=by exact rfl):YE P st o (· = .bool false) (.val (.bool false)):=by
 have h:=Zjp (P:=P) hu ho hx hy
 rwa [beq_self_eq_true] at h
end
def ZcT (s:ByteArray):Bool:=decide ((100:Int)<(s.size:Int))
def Ci (x:Var):Bool:=decide ((20:Int)<(x.acts.length:Int))||x.acts.any ZcT
def Zja (l:List Var):Bool:=decide ((12:Int)<(l.length:Int))||l.any Ci
theorem Py {t:Nd} (h:FitT t):AF prog 26 [pTr t,pTr t] (· =ZB true):=by
 have h1:=ZfN t t h h
 rwa [WN.2 rfl] at h1
theorem Zad (s:ByteArray):AF prog 28 [ZD s] (· =ZB (ZcT s)):=by
 refine AF.of_body 6 func28 rfl ntmps28 (Xa rfl) ?_
 intro w0 M0 vs hl hv
 obtain ⟨v0,rfl⟩:=YG hl
 obtain rfl:=hv 0 _ _ rfl rfl
 clear hl hv
 refine Zd ?_
 (refine xL 2 Zb ?_<;>refine Zi ?_)
 (refine xL 3 Za (xL 4 (Tz underlying9) (xL 5 YV (xL 2 Zb ?_)))<;>refine Zc ?_)
 exact Zl results28 rfl rfl
theorem Ze3 (x:Var):AF prog 75 [.agg (Wn x)] (· =ZB (Ci x)):=by
 refine AF.of_body 12 func75 rfl ntmps75 (Xa rfl) ?_
 intro w0 M0 vs hl hv
 obtain ⟨v0,rfl⟩:=YG hl
 clear hl hv
 refine Zd ?_
 (refine Yi 1 2 fun h1=>?_<;>refine xL 2 Zb ?_<;>refine Zi ?_)
 (refine xL 3 (Zn 1 Z3) ?_<;>(refine yL 4 (Zr 1 ZX) fun v4 h=>?_;cases h)<;>refine xL 5 (ZF Zx) (xL 6 YV (xL 7 Za ?_))<;>(refine bLd 7 (fun hb7=>?_) (fun hb7=>?_)<;>(first|refine kL 8 ?_|refine xL 8 (Zn 1 Z3) ?_))<;>(first|refine kL 9 ?_|(refine yL 9 (Zr 1 ZX) fun v9 h=>?_;cases h))<;>(first|refine kL 10 ?_|(refine cS 10 (cA call27 (Ky 28 [] ZcT x.acts (call28) (fun s _=>Zad s))) fun v10 h=>?_;cases h))<;>refine xL 11 Zt (xL 2 Zb ?_)<;>refine Zc ?_)<;>(
 refine Zl (results75) rfl ?_;show ZB _=ZB _;unfold Ci
 first|rw [Uy hb7]|rw [Uz hb7]
 simp)
theorem Zhl (l:List Var):AF prog 23 [Z4 l] (· =ZB (Zja l)):=by
 refine AF.of_body 10 func23 rfl ntmps23 (Xa rfl) ?_
 intro w0 M0 vs hl hv
 obtain ⟨v0,rfl⟩:=YG hl
 clear hl hv
 refine Zd ?_
 (refine xL 2 Zb ?_<;>refine Zi ?_)
 (refine xL 3 Za (xL 4 (ZF ZQ) (xL 5 YV (xL 6 Za ?_)))<;>(refine bLd 6 (fun hb6=>?_) (fun hb6=>?_)<;>(first|refine kL 7 ?_|refine xL 7 Za ?_))<;>(first|refine kL 8 ?_|(refine cS 8 (cA call38 (G9 75 [] Ci l (call75) (fun x _=>Ze3 x))) fun v8 h=>?_;cases h))<;>refine xL 9 Zt (xL 2 Zb ?_)<;>refine Zc ?_)<;>(
 refine Zl (results23) rfl ?_;show ZB _=ZB _;unfold Zja
 first|rw [Uy hb6]|rw [Uz hb6]
 simp)
theorem Zhm (l:List Var) (hf:Hd l):AF prog 29 [Z4 l] (· =if validVars l=true then .tup [pTr ((Kz l).getD nd0),ZB (Kz l).isSome,Zf 0] else .tup [Jd,ZB false,Zf 1]):=by
 have e0:∀u:Nd,pTr u= .agg [Zf u.op,ZD u.act,Y4 u.l]:=fun _=>rfl
 have hB:=(ZcM l).reread (DZ l) (Pv l)
 rw [e0] at hB ⊢
 refine AF.of_body 18 func29 rfl ntmps29 (Xa rfl) ?_
 intro w0 M0 vs hl hv
 obtain ⟨v0,rfl⟩:=YG hl
 clear hl hv
 refine Zd ?_
 (refine ZA [(.int .i64 0),(.string ByteArray.empty),(.slice none 0 0)] 3 2 Z8 fun h2=>?_<;>refine xL 3 Zb (xL 4 Zb ?_)<;>refine Zi ?_)
 (refine xL 7 Za ?_<;>(refine cS 8 (cA call9 (Kq l hf)) fun v8 h=>?_;cases h)<;>refine xL 9 Yd ?_<;>refine Zc ?_)
 refine cX ?_ ?_<;>intro hb9
 · first|exact bN hb9|(
 refine Zd ?_;(refine xL 10 (ZO YC) ?_<;>refine Zw 2 Zs ?_<;>refine xL 3 Zb (xL 4 Zb ?_)<;>refine Zc ?_)
 refine Zi9 (results29) (.cell (k:=3) 2 kR rfl rfl (Xa rfl) dC rfl) (.tmp rfl) (.tmp rfl) ?_;rw [UA (by simpa using hb9)];rfl)
 · first|exact bN hb9|(
 refine Zd ?_;(refine xL 12 Za ?_<;>(refine cP 13 (cA call85 (hB)) fun va13 vb13 hva13 h=>?_;cases h)<;>refine xL 11 Za (xL 14 Zp (xL 15 Zp ?_))<;>refine ZA [(.int .i64 0),(.string ByteArray.empty),(.slice none 0 0)] 3 5 Z8 fun h5=>?_<;>refine Zw 5 Zs ?_<;>refine xL 6 Zb ?_<;>refine Zi ?_)
 ((refine yL 16 (Zu 5 Zs) fun v16 h=>?_;cases h)<;>refine xL 17 Za ?_<;>refine Zw 2 Zs ?_<;>refine xL 3 Zb (xL 4 Zb ?_)<;>refine Zc ?_)
 refine Zi9 (results29) (.cell (k:=3) 2 kR rfl rfl (Xa rfl) dC rfl) (.tmp rfl) (.tmp rfl) ?_;rw [UB (by simpa using hb9)];rfl)
set_option maxHeartbeats 4000000 in
theorem ZbB (l : List Var) (acts:List ByteArray) (hf:Hd l) (hg:Hc acts):AF prog 5 [Z4 l,ZT acts] (· =ZB true):=by
 have e0:∀u:Nd,pTr u= .agg [Zf u.op,ZD u.act,Y4 u.l]:=fun _=>rfl
 have hRV:∀b,validVars l=b→AF prog 31 [Z4 l] (· =ZB b):=fun b hb=>by rw [←hb];exact Pt l hf
 have hRA:∀b,WJ acts=b→AF prog 33 [ZT acts] (· =ZB b):=fun b hb=>by rw [←hb];exact CG acts hg.2
 have hS0:=Py Oi
 refine AF.of_body 91 func5 rfl ntmps5 (Xa rfl) ?_
 intro w0 M0 vs hl hv
 obtain ⟨v0,v1,rfl⟩:=W7 hl
 clear hl hv
 refine Zd ?_
 (refine xL 4 Zb ?_<;>refine Zi ?_)
 ((refine cS 12 (cA call22 (Ze1)) fun v12 h=>?_;cases h)<;>refine xL (v:= .bool false) (p:= .val (.bool false)) 13 (Yd (b:=true)) ?_<;>refine Zc ?_)
 refine cCf ?_
 refine Zd ?_
 (refine xL 14 Za ?_<;>(refine cS 15 (cA call23 (Zhl l)) fun v15 h=>?_;cases h)<;>refine xL 16 Za ?_<;>(refine bL 16 (fun hb16=>?_) (fun hb16=>?_)<;>(first|refine kL 17 ?_|refine xL 17 Za ?_))<;>(first|refine kL 18 ?_|refine xL 18 (ZF Zx) ?_)<;>(first|refine kL 19 ?_|refine xL 19 YV ?_)<;>refine xL 20 Zt (xL 21 Za ?_)<;>(first|refine kL 22 ?_|(refine bLd 21 (fun hb21=>?_) (fun hb21=>?_)<;>(first|refine kL 22 ?_|refine xL 22 Za ?_)))<;>(first|refine kL 23 ?_|(refine cS 23 (cA call27 (Ky 28 [] ZcT acts (call28) (fun s _=>Zad s))) fun v23 h=>?_;cases h))<;>refine xL 24 Zt ?_<;>refine Zc ?_)<;>(
 refine cX ?_ ?_<;>intro hb24
 · first|exact bN hb24|(
 refine Zd ?_;(refine xL 4 Zb ?_<;>refine Zc ?_)
 exact Zl results5 rfl rfl)
 · first | exact bN hb24|(
 have hal:acts.length≤60:=oM;obtain ⟨u,hu⟩:∃u,u=(Kz l).getD nd0:=⟨_,rfl⟩;obtain ⟨b,hb⟩:∃b,b=(Kz l).isSome:=⟨_,rfl⟩;have hB:(validVars l=false∧AF prog 29 [Z4 l] (· = .tup [Jd,ZB false,Zf 1]))∨(validVars l=true∧AF prog 29 [Z4 l] (· = .tup [pTr u,ZB b,Zf 0])):=by
  have h:=Zhm l hf;rw [←hu,←hb] at h
  cases hv:validVars l with
  |false=>rw [hv,UA dC] at h;exact .inl ⟨rfl,h⟩
  |true=>rw [hv,UB rfl] at h;exact .inr ⟨rfl,h⟩
 have hR:=(ZeR l).reread (DZ l) (Pv l);rw [←hu,←hb] at hR;have huF:FitT u:=by
  rw [hu]
  cases h:Kz l with
  |none=>exact Oi
  |some t=>exact ZeV h fun x hx s hs=>(hf.2 x hx).1.2 s hs
 have hSu:=Py huF;have hFl:(WJ acts=true∧acts.length≠0∧AF prog 30 [ZT acts] (· = .tup [pTr (Rl acts),Zf 0]))∨(WJ acts=true∧acts.length=0∧AF prog 30 [ZT acts] (· = .tup [Jd,Zf 1]))∨(WJ acts=false∧AF prog 30 [ZT acts] (· = .tup [Jd,Zf 1])):=by
  have h:=Zby acts oM hg.2;unfold ZcS at h
  cases ha:WJ acts with
  |false=>rw [ha,UA (fun h=>by cases h.1)] at h;exact .inr (.inr ⟨rfl,h⟩)
  | true=>
    by_cases h0:acts.length=0
    · rw [UA (fun h=>h.2 h0)] at h;exact .inr (.inl ⟨rfl,h0,h⟩)
    · rw [UB ⟨ha,h0⟩] at h;exact .inl ⟨rfl,h0,h⟩
 have hfF:FitT (Rl acts):=Zg5 oM hg.2;have hSf:=Py hfF;have hrF:=ζl acts oM;rw [e0 u] at hB hR;rw [e0 (Rl acts)] at hFl;unfold Jd at hB hFl;refine Zd ?_;(refine xL 26 Za ?_<;>(rcases hB with ⟨hv,hB⟩|⟨hv,hB⟩<;>(refine ZkM 27 (cA call29 hB) (fun va27 vb27 vc27 hva27 hvb27 hvc27=>?_);cases hvb27;cases hvc27))<;>refine xL 25 Za (xL 28 Zp (xL 29 Zp (xL 30 Zp ?_)))<;>refine ZA [(.int .i64 0),(.string ByteArray.empty),(.slice none 0 0)] 3 5 Z8 fun h5=>?_<;>refine Zw 5 Zs ?_<;>refine xL 6 Zb (xL 7 Zb ?_)<;>refine Zc ?_)<;>(
 (refine Zo ?_ <;>refine xL 32 Za ?_<;>(rcases hFl with ⟨ha,h0,hFl⟩|⟨ha,h0,hFl⟩|⟨ha,hFl⟩<;>(refine cP 33 (cA call30 hFl) fun va33 vb33 hva33 h=>?_;cases h))<;>refine xL 31 Za (xL 34 Zp (xL 35 Zp ?_))<;>refine ZA [(.int .i64 0),(.string ByteArray.empty),(.slice none 0 0)] 3 8 Z8 fun h8=>?_<;>refine Zw 8 Zs ?_<;>refine xL 9 Zb ?_<;>refine Zc ?_)<;>(
 (refine Zo ?_<;>refine xL 36 Za ?_<;>(refine cS 37 (cA call31 (hRV _ hv)) fun v37 h=>?_;cases h)<;>(first|refine xL (v:= .bool true) (p:= .val (.bool true)) 38 (Yd (b:=false)) ?_|refine xL (v:= .bool false) (p:= .val (.bool false)) 38 (Yd (b:=true)) ?_)<;>refine Zc ?_)
 refine cX ?_ ?_<;>intro hb38
 · first | exact bN hb38|(
 refine Zd ?_;(refine xL 39 Za (xL 40 Zhk (xL 41 Za (xL 42 Za (xL 43 Zt (xL 44 Za ?_)))))<;>(refine yL 45 (Zu 5 Zs) fun v45 h=>?_;cases h)<;>refine xL 46 (ZO YC) ?_<;>(refine ZJ (TE (t:=45) (p':=pTr nd0) rfl JB) fun _=>?_;refine ZJ (TE (t:=46) (p':=pTr nd0) rfl JB) fun _=>?_;refine cS 47 (cA call26 hS0) fun v47 h=>?_;cases h)<;>refine xL (v:= .bool false) (p:= .val (.bool false)) 48 (Yd (b:=true)) ?_<;>refine xL 49 Zt ?_<;>refine Zc ?_)<;>(
 refine cX ?_ ?_<;>intro hb49
 · first|exact bN hb49|(
 refine Zd ?_;(refine xL 4 Zb ?_<;>refine Zc ?_)
 exact Zl results5 rfl rfl)
 · first |exact bN hb49|(
 refine Zd ?_;(refine xL 68 Za (xL 69 (ZF Zx) (xL 70 ZU (xL 71 Za ?_)))<;>(refine bLd 71 (fun hb71=>?_) (fun hb71=>?_)<;>(first|refine kL 72 ?_|refine xL 72 Za ?_))<;>(first|refine kL 73 ?_|(refine cS 73 (cA call33 (hRA _ ha)) fun v73 h=>?_;cases h))<;>(first|refine kL 74 ?_|refine xL (v:= .bool true) (p:= .val (.bool true)) 74 (Yd (b:=false)) ?_|refine xL (v:= .bool false) (p:= .val (.bool false)) 74 (Yd (b:=true)) ?_)<;>refine xL 75 Zt ?_<;>refine Zc ?_)<;>(try (exfalso;omega))<;>(
 refine cX ?_ ?_<;>intro hb75
 · first|exact bN hb75|(
 refine Zd ?_;(refine xL 76 Za (xL 77 SD (xL 78 Za ?_))<;>(refine yL 79 (Zu 8 Zs) fun v79 h=>?_;cases h)<;>refine xL 80 (ZO YC) ?_<;>(refine ZJ (TE (t:=79) (p':=pTr nd0) rfl JB) fun _=>?_;refine ZJ (TE (t:=80) (p':=pTr nd0) rfl JB) fun _=>?_;refine cS 81 (cA call26 hS0) fun v81 h=>?_;cases h)<;>refine xL 82 Zt (xL 4 Zb ?_)<;>refine Zc ?_)<;>(
 exact Zl results5 rfl rfl))
 · first|exact bN hb75|(
 refine nav ?_;(refine ZM (fun i=>([]:List Nat).elem i) [8] kR ?_<;>refine xE 0 83 rfl Za ?_<;>refine xE 1 84 rfl SD ?_<;>refine xE 2 85 rfl Za ?_<;>(refine yD 3 86 rfl (Zu 8 Zs) fun v86 h=>?_;cases h)<;>refine xD 4 87 rfl Za ?_<;>(refine Zk 5 kR ?_)<;>(first|(refine YH (d:=88) rfl (cA call34 hrF) fun v88 h=>?_;cases h)|(refine Zg rfl fun w9 M9 N9 DQ back=>?_;refine kL 88 ?_;refine Ze (back _ (nrm ?_))))<;>(refine Zk 6 kR ?_)<;>(first|(refine YH (d:=89) rfl (cA call26 hSf) fun v89 h=>?_;cases h)|(refine Zg rfl fun w9 M9 N9 DQ back=>?_;refine kL 89 ?_;refine Ze (back _ (nrm ?_))))<;>refine xE 7 90 rfl Zt ?_<;>refine xE 8 4 rfl Zb ?_<;>refine Ym kR (nav ?_)<;>try dsimp only)<;>(
 exact Zl results5 rfl rfl))))))
 · first | exact bN hb38|(
 refine Zd ?_;(refine xL 51 Za ?_<;>(refine cP 52 (cA call32 (hR)) fun va52 vb52 hva52 h=>?_;cases h)<;>refine xL 50 Za (xL 53 Zp (xL 54 Zp ?_))<;>refine ZA [(.int .i64 0),(.string ByteArray.empty),(.slice none 0 0)] 3 10 Z8 fun h10=>?_<;>refine Zw 10 Zs ?_<;>refine xL 11 Zb ?_<;>refine Zi ?_)
 (refine xL 55 Za (xL 56 Zhk (xL 57 Za (xL 58 Za (xL 59 Za (xL 60 (ZiV underlying4) (xL 61 Zt (xL 62 Za ?_)))))))<;>(refine yL 63 (Zu 5 Zs) fun v63 h=>?_;cases h)<;>(refine yL 64 (Zu 10 Zs) fun v64 h=>?_;cases h)<;>(refine cS 65 (cA call26 (hSu)) fun v65 h=>?_;cases h)<;>refine xL (v:= .bool false) (p:= .val (.bool false)) 66 (Yd (b:=true)) ?_<;>refine xL 67 Zt ?_<;>refine Zc ?_)<;>(
 refine cX ?_ ?_<;>intro hb67
 · first|exact bN hb67|(
 refine Zd ?_;(refine xL 4 Zb ?_<;>refine Zc ?_)
 exact Zl results5 rfl rfl)
 · first |exact bN hb67|(
 refine Zd ?_;(refine xL 68 Za (xL 69 (ZF Zx) (xL 70 ZU (xL 71 Za ?_)))<;>(refine bLd 71 (fun hb71=>?_) (fun hb71=>?_)<;>(first|refine kL 72 ?_|refine xL 72 Za ?_))<;>(first|refine kL 73 ?_|(refine cS 73 (cA call33 (hRA _ ha)) fun v73 h=>?_;cases h))<;>(first|refine kL 74 ?_|refine xL (v:= .bool true) (p:= .val (.bool true)) 74 (Yd (b:=false)) ?_|refine xL (v:= .bool false) (p:= .val (.bool false)) 74 (Yd (b:=true)) ?_)<;>refine xL 75 Zt ?_<;>refine Zc ?_)<;>(try (exfalso;omega))<;>(
 refine cX ?_ ?_<;>intro hb75
 · first|exact bN hb75|(
 refine Zd ?_;(refine xL 76 Za (xL 77 SD (xL 78 Za ?_))<;>(refine yL 79 (Zu 8 Zs) fun v79 h=>?_;cases h)<;>refine xL 80 (ZO YC) ?_<;>(refine ZJ (TE (t:=79) (p':=pTr nd0) rfl JB) fun _=>?_;refine ZJ (TE (t:=80) (p':=pTr nd0) rfl JB) fun _=>?_;refine cS 81 (cA call26 hS0) fun v81 h=>?_;cases h)<;>refine xL 82 Zt (xL 4 Zb ?_)<;>refine Zc ?_)<;>(
 exact Zl results5 rfl rfl))
 · first|exact bN hb75|(
 refine nav ?_;(refine ZM (fun i=>([]:List Nat).elem i) [8] kR ?_<;>refine xE 0 83 rfl Za ?_<;>refine xE 1 84 rfl SD ?_<;>refine xE 2 85 rfl Za ?_<;>(refine yD 3 86 rfl (Zu 8 Zs) fun v86 h=>?_;cases h)<;>refine xD 4 87 rfl Za ?_<;>(refine Zk 5 kR ?_)<;>(first|(refine YH (d:=88) rfl (cA call34 hrF) fun v88 h=>?_;cases h)|(refine Zg rfl fun w9 M9 N9 DQ back=>?_;refine kL 88 ?_;refine Ze (back _ (nrm ?_))))<;>(refine Zk 6 kR ?_)<;>(first|(refine YH (d:=89) rfl (cA call26 hSf) fun v89 h=>?_;cases h)|(refine Zg rfl fun w9 M9 N9 DQ back=>?_;refine kL 89 ?_;refine Ze (back _ (nrm ?_))))<;>refine xE 7 90 rfl Zt ?_<;>refine xE 8 4 rfl Zb ?_<;>refine Ym kR (nav ?_)<;>try dsimp only)<;>(
 exact Zl results5 rfl rfl))))))))))
open Go.RowKit Go.Cb Go.En Go.ChangeShapes Go.WideShapes Go.ChangeAt
theorem ZkX:Dec prog 28 2 Wn (fun x=>Hc x.acts∧-9223372036854775808≤x.count∧x.count≤9223372036854775807):=
 EY (fun x=>⟨x.1,x.2⟩) (ζj underlying28 kR Zi6 ZkQ rfl rfl) (fun _=>rfl) (fun _=>rfl) (fun _ h=>h)
theorem ZkE:Dec prog 22 1 (fun l=>[Z4 l]) Hd:=
 EY id (HQ underlying22 kR dC (Xa kR) ZkX) (fun _=>rfl) (fun _=>rfl) (fun _ h=>h)
end Go.Proofs.YtmkojdfiadbeeaaGreat
