/-
  Walks of functions and plain laws of the chapter, as the claim needs them.
-/
import Derived.Test.YtgfabnhpllkebaaGreatDoorPz10
import Derived.Test.YtgfabnhpllkebaaGreatDoorPz08
import Derived.Test.YtgfabnhpllkebaaGreatDoorPz04
import Derived.Test.YtgfabnhpllkebaaGreatDoorPz09
import Derived.Test.YtgfabnhpllkebaaGreatDoorMShelfG
import Derived.Test.YtgfabnhpllkebaaGreatDoorPz05
import Derived.Test.YtgfabnhpllkebaaGreatDoorPz06
import Derived.Test.YtgfabnhpllkebaaGreatDoorPz01
namespace Go.Proofs.YtgfabnhpllkebaaGreatDoor
open Go.RowKit Go.Cb Go.En Tryz
set_option linter.all false
set_option maxRecDepth 100000
theorem Yw:AggT prog 149 5=true:=by kernel_rfl
theorem ZbF:AggT prog 263 2=true:=by kernel_rfl
theorem SP:ArrT prog 263 2=true:=by kernel_rfl
theorem Yx:ElT prog 264 263 2 16 (.agg #[(.int .i64 0),(.int .i64 0)]):=⟨underlying264,by kernel_rfl,rfl,dC⟩
theorem Jd:FldT prog 149 0 0=true:=by kernel_rfl
theorem Z9:FldT prog 149 1 3=true:=by kernel_rfl
theorem L4:FldT prog 149 2 4=true:=by kernel_rfl
theorem L5:SlT prog 264 263 2=true:=by kernel_rfl
theorem Ww:ZeroT prog 149 (.agg #[(.int .i64 0),(.slice none 0 0),(.slice none 0 0),(.slice none 0 0),(.slice none 0 0)]):=by unfold ZeroT;kernel_rfl
theorem L6:ZeroT prog 263 (.agg #[(.int .i64 0),(.int .i64 0)]):=by unfold ZeroT;kernel_rfl
theorem Zdc (op:Int) (x y:Bool):AF prog 213 [pInt op,ZM x,ZM y] (· =ZM (Ot op x y)):=by
 refine AF.of_body 30 func213 rfl ntmps213 (Xa rfl) ?_
 intro w0 M0 vs hl hv
 obtain ⟨v0,v1,v2,rfl⟩:=Sg hl
 obtain rfl:=hv 0 _ _ rfl rfl
 obtain rfl:=hv 1 _ _ rfl rfl
 obtain rfl:=hv 2 _ _ rfl rfl
 clear hl hv
 refine Ze ?_
 (refine xL 6 Za ?_<;>refine Zg ?_)
 (refine xL 7 Zb ?_<;>refine Zg ?_)
 (refine xL 9 Z3 (xL 8 Za ?_)<;>refine Zc ?_)
 refine cX ?_ ?_<;>intro hb8
 · first|exact bN hb8|(
 refine Ze ?_;(refine xL 10 Zb (xL 11 Zb ?_)<;>(refine bL 11 (fun hb11=>?_) (fun hb11=>?_)<;>(first|refine kL 12 ?_|refine xL 12 Zb ?_))<;>refine xL 13 Zz (xL 6 Za ?_)<;>refine Zc ?_)<;>(
 refine Zv (results213) rfl ?_;unfold Ot;rw [UT oM]
 cases x<;>cases y<;>first|rfl|(exfalso;simp_all;done)))
 · first | exact bN hb8|(
 refine Ze ?_;(refine xL 15 Z3 (xL 14 Za ?_)<;>refine Zc ?_)
 refine cX ?_ ?_<;>intro hb14
 · first|exact bN hb14|(
 refine Ze ?_;(refine xL 16 Zb (xL 17 Zb ?_)<;>(refine bL 17 (fun hb17=>?_) (fun hb17=>?_)<;>(first|refine kL 18 ?_|refine xL 18 Zb ?_))<;>refine xL 19 Zz (xL 6 Za ?_)<;>refine Zc ?_)<;>(
 refine Zv (results213) rfl ?_;unfold Ot;rw [US oM,UT oM]
 cases x<;>cases y<;>first|rfl|(exfalso;simp_all;done)))
 · first |exact bN hb14|(
 refine Ze ?_;(refine xL 21 Z3 (xL 20 Za ?_)<;>refine Zc ?_)
 refine cX ?_ ?_<;>intro hb20
 · first|exact bN hb20|(
 refine Ze ?_;(refine xL 22 Zb (xL 23 Zb ?_)<;>(refine bL 23 (fun hb23=>?_) (fun hb23=>?_)<;>(first|refine kL 24 ?_|refine xL 24 Zb ?_))<;>(first|refine kL 25 ?_|refine xL 25 Yg ?_)<;>refine xL 26 Zz (xL 6 Za ?_)<;>refine Zc ?_)<;>(
 refine Zv (results213) rfl ?_;unfold Ot;rw [US oM,US oM,UT oM]
 cases x<;>cases y<;>first|rfl|(exfalso;simp_all;done)))
 · first|exact bN hb20|(
 refine Ze ?_;(refine xL 27 Zb (xL 28 Zb (xL 29 (ZlL underlying4) (xL 6 Za ?_)))<;>refine Zc ?_)
 refine Zv (results213) rfl ?_;unfold Ot;rw [US oM,US oM,US oM]
 cases x<;>cases y<;>first|rfl|(exfalso;simp_all;done))))
theorem Cq {α κ:Type} [DecidableEq κ] (f:α→κ) (x:α):∀(l:List α) (off:Nat),YJ f off (l++[x])=YJ f off l++[(f x, .int .i64 ((off+l.length:Nat):Int))]
 |[],off=>by simp [YJ]
 |y::l,off=>by rw [XW,YJ,Cq f x l (off+1),YJ,XW,Xk];congr 5;omega
theorem PD {α κ:Type} [DecidableEq κ] (f:α→κ):∀(l:List α) (off:Nat),(YJ f off l).map (·.1)=l.map f
 |[],_=>rfl
 |y::l,off=>by rw [YJ,Xp,PD f l (off+1),Xp]
abbrev PrS:=(Nat×Nat)×(Int×Int)
def WJ (x:PrS):Pi2:=((x.1.1:Nat),(x.1.2:Nat))
theorem ZbG {x y:PrS}:WJ x=WJ y↔x.1=y.1:=by
 unfold WJ
 rw [Prod.mk.injEq,Prod.ext_iff]
 omega
theorem Zkw (o:List PrS) (x:PrS):posK WJ o (WJ x)=posK Prod.fst o x.1:=Ty fun y _=>ZbG
def cPr (x:PrS):List PV:=[pInt (x.1.1:Nat),pInt (x.1.2:Nat)]
theorem Zd5 (x:PrS):(cPr x).length=2:=rfl
theorem Zd6 (e:Nat) (L:List PrS) (x:PrS):PV.own e 2 (L.length+1) (L.flatMap cPr++cPr x)= .own e 2 (L++[x]).length ((L++[x]).flatMap cPr):=sM
theorem ZfS (o:List PrS) (x:PrS):(JF (YJ WJ 0 o) (WJ x)).getD (.int .i64 0)= .int .i64 ((if posK WJ o (WJ x)<o.length then posK WJ o (WJ x) else 0:Nat):Int)∧(JF (YJ WJ 0 o) (WJ x)).isSome=decide (posK WJ o (WJ x)<o.length):=by
 rw [Tz]
 by_cases h:posK WJ o (WJ x)<o.length
 · rw [UT h,UT h,UQ h,Xv];exact ⟨rfl,rfl⟩
 · rw [US h,US h,UR h];exact ⟨rfl,rfl⟩
def Ki (o:List PrS):List Int:=o.map fun x=>x.2.1
def J9 (o:List PrS):List Int:=o.map fun x=>x.2.2
theorem Cr (o:List PrS) (y:PrS):Ki (o++[y])=Ki o++[y.2.1]:=by unfold Ki;rw [Xr];rfl
theorem ZbH (o:List PrS) (y:PrS):J9 (o++[y])=J9 o++[y.2.2]:=by unfold J9;rw [Xr];rfl
def TQ (A B:Aut) (op:Int) (q:List PrS×List (List Nat)):PV:= .agg [pInt (A.syms.toNat:Nat), .sl q.2.length (q.2.map Lp), .sl (q.1.map (Wz A B op)).length ((q.1.map (Wz A B op)).map ZM),pInts (Ki q.1),pInts (J9 q.1)]
def Zm3 (A B:Aut) (op:Int) (p:PV):Prop:=(∃q,prodQ A B=some q∧p= .tup [TQ A B op q,ZM true])∨
 (prodQ A B=none∧∃u0 u1 u2 u3 u4:Value,u0.oneCell'=true∧u1.oneCell'=true∧u2.oneCell'=true∧u3.oneCell'=true∧u4.oneCell'=true∧p= .tup [.agg [.val u0, .val u1, .val u2, .val u3, .val u4],ZM false])
theorem RL:Ke prog 149=some (.agg #[.int .i64 0, .slice none 0 0, .slice none 0 0, .slice none 0 0, .slice none 0 0],[(0,3),(3,1),(4,1)]):=by kernel_rfl
theorem tPi:PiT prog 265 263 3 3 (.int .i64 0):=⟨underlying265,underlying263,underlying3,by kernel_rfl,by kernel_rfl,by kernel_rfl,by kernel_rfl,by kernel_rfl,fun a b=>by kernel_rfl,⟨prog.types.size-1,by kernel_rfl⟩,by show ZeroT _ _ _;unfold ZeroT;kernel_rfl⟩
set_option maxHeartbeats 4000000 in
theorem Zdd (A B : Aut) (op:Int) (hA:DetA A) (hB:DetA B) (hs:A.syms=B.syms):AF prog 169 [ZO A,ZO B,pInt op] (Zm3 A B op):=by
 have hAn1:=hA.ok.n1
 have hAn0:=hA.ok.n0
 have hBn1:=hB.ok.n1
 have hBn0:=hB.ok.n0
 have hs0:=hA.ok.s0
 have hs1:=hA.ok.s1
 have hsN:((A.syms.toNat:Nat):Int)=A.syms:=oM
 have hsB:B.syms.toNat=A.syms.toNat:=by rw [hs]
 refine AF.of_body 152 func169 rfl ntmps169 (Xa rfl) ?_
 intro w0 M0 vs hl hv
 obtain ⟨v0,v1,v2,rfl⟩:=Sg hl
 obtain rfl:=hv 2 _ _ rfl rfl
 clear hl hv
 refine Ze ?_
 (refine ZG 3 5 fun h3=>?_<;>refine ZG 4 5 fun h4=>?_<;>refine Zw [(.int .i64 0),(.slice none 0 0),(.slice none 0 0),(.slice none 0 0),(.slice none 0 0)] 5 6 Ww fun h6=>?_<;>refine xL 7 Za ?_<;>refine Zc ?_)
 (refine Z5 (fun i=>([]:List Nat).elem i) [3,4] kR ?_<;>(refine yD 0 21 rfl (Zs 3 Zm) fun v21 h=>?_;cases h)<;>(refine yD 2 23 rfl (Zs 4 Zm) fun v23 h=>?_;cases h)<;>(refine Zq 1 kR ?_)<;>(refine WE (d:=22) rfl (cA call110 (LR A hA.ok)) fun v22 h=>?_;cases h)<;>(refine Zq 3 kR ?_)<;>(refine WE (d:=24) rfl (cA call110 (LR B hB.ok)) fun v24 h=>?_;cases h)<;>refine xE 4 8 rfl Za ?_<;>refine xE 5 9 rfl Za ?_<;>refine YC kR (nav ?_)<;>try dsimp only)
 (refine Zt ?_<;>refine xL 25 (Zd 3 Yl) ?_<;>(refine yL 26 (Zk 3 Zo) fun v26 h=>?_;cases h)<;>refine xL 27 (ZL Hc) ?_<;>refine ZJ (kk:=1) 28 Zl fun h28 ho28=>?_<;>(refine ZJ (kk:=1) 29 Zl fun h29 ho29=>?_;have q28:En.one (PV.val h28)=true:=ho28;have q29:En.one (PV.val h29)=true:=ho29)<;>refine yL 30 (Zcq RL rfl ho28 ho29) fun v30 _=>?_<;>refine Zw [(.int .i64 0),(.slice none 0 0),(.slice none 0 0),(.slice none 0 0),(.slice none 0 0)] 5 10 Ww fun h10=>?_<;>refine ZA 10 Yw ?_<;>refine Zc ?_)
 refine Zx (G6 (l:=10) [pInt A.syms, .own 36 1 0 [], .own 4 1 0 [], .val h28, .val h29] rfl rfl (fun i p p' h1 h2=>by
  match i with
  |0=>cases h1;cases h2;exact .inl rfl
  |1=>cases h1;cases h2;exact .inr ⟨rfl,_,_,rfl⟩
  |2=>cases h1;cases h2;exact .inr ⟨rfl,_,_,rfl⟩
  |3=>cases h1;cases h2;exact .inl rfl
  |4=>cases h1;cases h2;exact .inl rfl
  |i+5=>simp at h2)) fun _=>?_
 refine Zx (GR (l:=10) (l':=301) (j:=1) rfl rfl rfl rfl) fun i=>?_
 obtain ⟨v301,ho301⟩:=i
 refine Zx (GR (l:=10) (l':=302) (j:=2) rfl rfl rfl rfl) fun i=>?_
 obtain ⟨v302,ho302⟩:=i
 dsimp only [List.set]
 refine Zx (Zy (l:=28) 303 rfl rfl) fun _=>?_
 refine Zx (Zy (l:=29) 304 rfl rfl) fun _=>?_
 refine Zx (ZP (l:=303) (p':= .own 3 1 (Ki [((0,0),(-1,-1))]).length ((Ki [((0,0),(-1,-1))]).map pInt)) rfl rfl) fun _=>?_
 refine Zx (ZP (l:=304) (p':= .own 3 1 (J9 [((0,0),(-1,-1))]).length ((J9 [((0,0),(-1,-1))]).map pInt)) rfl rfl) fun _=>?_
 (refine Zt ?_<;>refine xL 31 (De SP L6) ?_<;>refine YM 32 Yx fun h32 ho32=>?_<;>refine xL 11 Za ?_<;>refine Zc ?_)
 refine Zx (Zy (l:=32) 305 rfl rfl) fun _=>?_
 refine Zx (ZP (l:=305) (p':= .own 263 2 ([((0,0),(-1,-1))]:List PrS).length (([((0,0),(-1,-1))]:List PrS).flatMap cPr)) rfl rfl) fun _=>?_
 (refine Zt ?_<;>refine JZ 33 fun h33 ho33=>?_<;>refine xL 34 (De SP L6) ?_<;>(refine ZdA (m:=[]) (k:=((0:Int),(0:Int))) 33 tPi (fun x hx=>by simp at hx) sM ⟨dC,dC⟩ rfl ?_;rw [show ([]:List (Pi2×Value))++[(((0:Int),(0:Int)),Value.int .i64 0)]=YJ WJ 0 [((0,0),(-1,-1))] from rfl])<;>refine xL 35 Zb (xL 12 Za ?_)<;>refine Zc ?_)
 refine Zx (Zy (l:=33) 306 rfl rfl) fun _=>?_
 (refine Zt ?_<;>refine xL 13 Za ?_<;>refine Zc ?_)
 refine ZD (ι:={q:Nat×Value×Value×Value×Value×Value×List PrS×List (List Nat)//(Y7 A B).upto ((0,0),(-1,-1)) q.1=some (q.2.2.2.2.2.2.1,q.2.2.2.2.2.2.2)∧q.1≤q.2.2.2.2.2.2.1.length∧q.2.1.oneCell'=true∧q.2.2.1.oneCell'=true∧q.2.2.2.1.oneCell'=true∧q.2.2.2.2.1.oneCell'=true∧q.2.2.2.2.2.1.oneCell'=true}) (fun k=>⟨[(2,_,_),(3,_,_),(4,_,_),(6,_,_),(7,_,_),(8,_,_),(9,_,_),(10,_,_),(12,_,_),(11,k.1.2.2.2.2.2.1, .val k.1.2.2.2.2.2.1),(13, .int .i64 k.1.1,pInt k.1.1)],[(3,_,_),(4,_,_),(6,_,_),(10,h10, .own 149 5 1 [pInt A.syms, .val k.1.2.1, .val k.1.2.2.1, .val k.1.2.2.2.1, .val k.1.2.2.2.2.1]),(301,k.1.2.1, .own 36 1 k.1.2.2.2.2.2.2.2.length (k.1.2.2.2.2.2.2.2.map Lp)),(302,k.1.2.2.1, .own 4 1 ((k.1.2.2.2.2.2.2.1.take k.1.1).map (Wz A B op)).length (((k.1.2.2.2.2.2.2.1.take k.1.1).map (Wz A B op)).map ZM)),(303,k.1.2.2.2.1, .own 3 1 (Ki k.1.2.2.2.2.2.2.1).length ((Ki k.1.2.2.2.2.2.2.1).map pInt)),(304,k.1.2.2.2.2.1, .own 3 1 (J9 k.1.2.2.2.2.2.2.1).length ((J9 k.1.2.2.2.2.2.2.1).map pInt)),(305,k.1.2.2.2.2.2.1, .own 263 2 k.1.2.2.2.2.2.2.1.length (k.1.2.2.2.2.2.2.1.flatMap cPr)),(306,h33, .omap (Si (YJ WJ 0 k.1.2.2.2.2.2.2.1)))]⟩) (fun k=>2000-k.1.1) ⟨(0,v301,v302,h28,h29,h32,[((0,0),(-1,-1))],[]),rfl,Xf _,ho301,ho302,ho28,ho29,ho32⟩ (fun a w H=>H.weaken ⟨rfl,rfl,rfl,rfl,rfl,rfl,rfl,rfl,rfl,rfl,rfl,trivial⟩ ⟨rfl,rfl,rfl,rfl,rfl,rfl,rfl,rfl,rfl,rfl,trivial⟩) ?_
 rintro ⟨⟨i,r1,r2,r3,r4,r5,o,rows⟩,hU,hi,hr1,hr2,hr3,hr4,hr5⟩
 dsimp only
 dsimp only at hU hi hr1 hr2 hr3 hr4 hr5
 obtain ⟨hOk,hRl,_⟩:=Ru hA hB hs hU
 have hRl:=hRl hi
 have hcap:o.length≤2000:=hOk.cap
 have hfl:((o.take i).map (Wz A B op)).length≤2000:=by rw [Xd,Xx];omega
 have q1:En.one (PV.val r1)=true:=hr1
 have q2:En.one (PV.val r2)=true:=hr2
 have q3:En.one (PV.val r3)=true:=hr3
 have q4:En.one (PV.val r4)=true:=hr4
 refine Ze ?_
 (refine xL 36 Zb (xL 37 Zb (xL 38 (YN 305 L5) (xL 39 ZQ ?_)))<;>refine Zc ?_)
 refine cX ?_ ?_<;>intro hb39
 · first | exact bN hb39|(
 obtain ⟨x,hx⟩:=Zp (show i<o.length by omega);have hxp:=hOk.p x (Xc hx);have hx1:x.1.1<A.n.toNat:=hxp.1;have hx2:x.1.2<B.n.toNat:=hxp.2;have e1:(o.flatMap cPr)[i*2+0]? =some (pInt (x.1.1:Nat)):=LI Zd5 hx dC;have e2:(o.flatMap cPr)[i*2+1]? =some (pInt (x.1.2:Nat)):=LI Zd5 hx dC;refine nav ?_;(refine Z5 (fun i=>([]:List Nat).elem i) [305] kR ?_<;>refine xD 0 42 rfl Zb ?_<;>refine xD 1 43 rfl Zb ?_<;>refine xD 2 44 rfl (YL 305 L5) ?_<;>refine xD 3 45 rfl (ZgE (len:=2) (i:=0) 305 kR) ?_<;>(refine yD 4 46 rfl (Zk 305 Zo) fun v46 h=>?_;cases h)<;>refine xD 5 47 rfl Zb ?_<;>refine xD 6 48 rfl Zb ?_<;>refine xD 7 49 rfl (YL 305 L5) ?_<;>refine xD 8 50 rfl (ZgE (len:=2) (i:=1) 305 kR) ?_<;>(refine yD 9 51 rfl (Zk 305 Zo) fun v51 h=>?_;cases h)<;>refine xE 10 14 rfl Za ?_<;>refine xE 11 15 rfl Za ?_<;>refine YC kR (nav ?_)<;>try dsimp only)
 (refine Zt ?_<;>refine xL 52 (Zd 3 Yl) ?_<;>(refine yL 53 (Zk 3 Zo) fun v53 h=>?_;cases h)<;>(refine LJ (n:=A.syms.toNat) 54 Zl (fun h54 ho54=>?_) (hx:=by rw [hsN];exact rfl) (hy:=by rw [hsN];exact rfl) (hb:=by omega))<;>refine xL 16 Za ?_<;>refine Zc ?_)
 rw [←EX];(refine Zt ?_<;>refine xL 55 Zb (xL 56 (YN 54 Zu) (xL 57 Zb ?_))<;>refine Zc ?_)
 refine ZD (ι:={q:Nat×Value×Value×Value×List PrS×List Nat//(Y7 A B).row i x o q.1=some (q.2.2.2.2.1,q.2.2.2.2.2)∧q.1≤A.syms.toNat∧q.2.1.oneCell'=true∧q.2.2.1.oneCell'=true∧q.2.2.2.1.oneCell'=true}) (fun k=>⟨[(2,_,_),(3,_,_),(4,_,_),(6,_,_),(7,_,_),(8,_,_),(9,_,_),(10,_,_),(12,_,_),(13,_,_),(14,_,_),(15,_,_),(16,_,_),(56,_,_),(11,k.1.2.2.2.1, .val k.1.2.2.2.1),(57, .int .i64 k.1.1,pInt k.1.1)],[(3,_,_),(4,_,_),(6,_,_),(301,_,_),(302,_,_),(10,h10, .own 149 5 1 [pInt A.syms, .val r1, .val r2, .val k.1.2.1, .val k.1.2.2.1]),(303,k.1.2.1, .own 3 1 (Ki k.1.2.2.2.2.1).length ((Ki k.1.2.2.2.2.1).map pInt)),(304,k.1.2.2.1, .own 3 1 (J9 k.1.2.2.2.2.1).length ((J9 k.1.2.2.2.2.1).map pInt)),(305,k.1.2.2.2.1, .own 263 2 k.1.2.2.2.2.1.length (k.1.2.2.2.2.1.flatMap cPr)),(306,h33, .omap (Si (YJ WJ 0 k.1.2.2.2.2.1))),(54,h54, .own 3 1 A.syms.toNat (vec A.syms.toNat fun j=>pInt (Te k.1.2.2.2.2.2 j)))]⟩) (fun k=>A.syms.toNat-k.1.1) ⟨(0,r3,r4,r5,o,[]),rfl,Xf _,hr3,hr4,hr5⟩ (fun a w H=>H.weaken ⟨rfl,rfl,rfl,rfl,rfl,rfl,rfl,rfl,rfl,rfl,rfl,rfl,rfl,rfl,rfl,rfl,trivial⟩ ⟨rfl,rfl,rfl,rfl,rfl,rfl,rfl,rfl,rfl,rfl,rfl,trivial⟩) ?_;rintro ⟨⟨s,r3',r4',r5',o',r⟩,hW,hsm,hr3',hr4',hr5'⟩;dsimp only;dsimp only at hW hsm hr3' hr4' hr5';obtain ⟨hMt,hpr,hrl,_⟩:=hOk.toMet.row (fun s hs'=>⟨hA.sl _ _ hx1 hs',hB.sl _ _ hx2 (by have:s<A.syms.toNat:=hs';omega)⟩) (show s≤(Y7 A B).m from hsm) hW;have hcap':o'.length≤2000:=hMt.cap;have hx':=Ko hpr hx;have hil:=Zf hx';(have hpf:(Ki o').length=o'.length:=by unfold Ki;rw [Xd]);(have hps:(J9 o').length=o'.length:=by unfold J9;rw [Xd]);have q3':En.one (PV.val r3')=true:=hr3';have q4':En.one (PV.val r4')=true:=hr4';refine Ze ?_;(refine xL 58 ZQ ?_<;>refine Zc ?_)
 refine cX ?_ ?_<;>intro hb58
 · first | exact bN hb58|(
 obtain ⟨mx,hm1,hm2,hm3⟩:=hA.mo x.1.1 s hx1 oM;obtain ⟨my,hn1,hn2,hn3⟩:=hB.mo x.1.2 s hx2 oM;have hml:=hA.ml x.1.1 hx1;have hnl:=hB.ml x.1.2 hx2;(have d1:((List.range A.n.toNat).map fun s=>pMvs (movesOf A s))[x.1.1*1]? =some (pMvs (movesOf A x.1.1)):=by rw [Xw,Gp hx1]);(have d2:((List.range B.n.toNat).map fun s=>pMvs (movesOf B s))[x.1.2*1]? =some (pMvs (movesOf B x.1.2)):=by rw [Xw,Gp hx2]);(have d3:((movesOf A x.1.1).flatMap cMv)[s*3+1]? =some (pInt (stepA A x.1.1 s:Nat)):=by rw [←hm3];exact LI Z8 hm1 dC);(have d4:((movesOf B x.1.2).flatMap cMv)[s*3+1]? =some (pInt (stepA B x.1.2 s:Nat)):=by rw [←hn3];exact LI Z8 hn1 dC);obtain ⟨y,hy⟩:∃y:PrS,y=(Y7 A B).step i x s:=⟨_,rfl⟩;(have hyk:WJ y=(((stepA A x.1.1 s:Nat):Int),((stepA B x.1.2 s:Nat):Int)):=by rw [hy];rfl);(have hy2:y.2=(((i:Nat):Int),((s:Nat):Int)):=by rw [hy];rfl);(have hyp:ζi A B y:=by rw [hy];exact ⟨hA.sl _ _ hx1 oM,hB.sl _ _ hx2 oM⟩);(have hy11:y.1.1=stepA A x.1.1 s:=by rw [hy];rfl);(have hy12:y.1.2=stepA B x.1.2 s:=by rw [hy];rfl);have hyp1:y.1.1<A.n.toNat:=hyp.1;have hyp2:y.1.2<B.n.toNat:=hyp.2;rw [←hy11] at d3;rw [←hy12] at d4;have hid:=Zkw o' y;have hlk:=ZfS o' y;have hko:∀z∈YJ WJ 0 o',Dl z.1:=fun z hz=>by
  have hz1:z.1∈(YJ WJ 0 o').map (·.1):=List.mem_map_of_mem hz;rw [PD] at hz1;obtain ⟨u,hu,hue⟩:=Xg.1 hz1;have hup:=hMt.p u hu;have h1:u.1.1<A.n.toNat:=hup.1;have h2:u.1.2<B.n.toNat:=hup.2;rw [←hue];exact ⟨⟨by show (0:Int)≤(u.1.1:Nat);omega,by show ((u.1.1:Nat):Int)≤1000000;omega⟩,⟨by show (0:Int)≤(u.1.2:Nat);omega,by show ((u.1.2:Nat):Int)≤1000000;omega⟩⟩
 have hkn:((YJ WJ 0 o').map (·.1)).Nodup:=by
  rw [PD];have hnd:=hMt.nd;refine Gd (LV hnd) fun u hu v hv e=>?_;obtain ⟨i1,hi1⟩:=X4 hu;obtain ⟨i2,hi2⟩:=X4 hv;have p1:=Gm hnd hi1;have p2:=Gm hnd hi2;have e2:(Y7 A B).key u=(Y7 A B).key v:=ZbG.1 e;rw [e2,p2] at p1;rw [p1,hi1] at hi2;exact Option.some.inj hi2
 have hky:Dl (WJ y):=⟨⟨by show (0:Int)≤(y.1.1:Nat);omega,by show ((y.1.1:Nat):Int)≤1000000;omega⟩,⟨by show (0:Int)≤(y.1.2:Nat);omega,by show ((y.1.2:Nat):Int)≤1000000;omega⟩⟩;have e3:=T2 A.syms.toNat (fun j=>pInt (Te r j));refine Ze ?_;(refine xL 59 Zb (xL 17 Za ?_)<;>refine Zc ?_)
 (refine Z5 (fun i=>([]:List Nat).elem i) [] kR ?_<;>refine xD 0 60 rfl Zb ?_<;>refine xD 1 61 rfl Sv ?_<;>refine xD 2 62 rfl (Tq Ky) ?_<;>(refine yD 3 63 rfl (Yo Jp) fun v63 h=>?_;cases h)<;>refine xD 4 64 rfl Zb ?_<;>refine xD 5 65 rfl (ZF Jq) ?_<;>(refine yD 6 66 rfl (Yo ZK) fun v66 h=>?_;cases h)<;>refine xD 7 67 rfl Zb ?_<;>refine xD 8 68 rfl (ZF ZN) ?_<;>refine xD 9 69 rfl (Tq YK) ?_<;>(refine yD 10 70 rfl (Yo Zo) fun v70 h=>?_;cases h)<;>refine xD 11 71 rfl Zb ?_<;>refine xD 12 72 rfl Sv ?_<;>refine xD 13 73 rfl (Tq Ky) ?_<;>(refine yD 14 74 rfl (Yo Jp) fun v74 h=>?_;cases h)<;>refine xD 15 75 rfl Zb ?_<;>refine xD 16 76 rfl (ZF Jq) ?_<;>(refine yD 17 77 rfl (Yo ZK) fun v77 h=>?_;cases h)<;>refine xD 18 78 rfl Zb ?_<;>refine xD 19 79 rfl (ZF ZN) ?_<;>refine xD 20 80 rfl (Tq YK) ?_<;>(refine yD 21 81 rfl (Yo Zo) fun v81 h=>?_;cases h)<;>refine xD 22 82 rfl (De SP L6) ?_<;>(refine Zq 23 kR ?_)<;>(refine Zj rfl fun w9 M9 N9 DQ back=>?_)<;>refine Zw [(.int .i64 0),(.int .i64 0)] 2 18 L6 fun h18=>?_<;>refine Zh (back _ (nrm ?_))<;>(refine Zq 24 kR ?_)<;>(refine Zj rfl fun w9 M9 N9 DQ back=>?_)<;>refine ZA 18 ZbF ?_<;>refine Zh (back _ (nrm ?_))<;>refine YC kR (nav ?_)<;>try dsimp only)
 (refine Zt ?_<;>refine xL 84 Zb ?_<;>(refine yL 85 (Zs (k:=2) (ps:=[pInt (y.1.1:Nat),pInt (y.1.2:Nat)]) 18 kR) fun v85 h=>?_;cases h)<;>refine xL 86 (ZgN (m:=YJ WJ 0 o') (k:=WJ y) 306 tPi hko hkn hky hlk.1 hlk.2) ?_<;>refine xL 83 Zb (xL 87 Zi (xL 88 Zi (xL 19 Za (xL 20 Za ?_))))<;>refine Zg ?_)
 (refine xL 89 Zb (xL 90 Yg ?_)<;>refine Zc ?_)
 refine CQ (fun z:{z:Value×Value×Value×List PrS×Nat//z.1.oneCell'=true∧z.2.1.oneCell'=true∧z.2.2.1.oneCell'=true∧visit (Y7 A B).key (Y7 A B).cap o' ((Y7 A B).step i x s)=some (z.2.2.2.1,z.2.2.2.2)}=>⟨[(2, .int .i64 op,pInt op),(3,padd (sbase h3) 0, .val (padd (sbase h3) 0)),(4,padd (sbase h4) 0, .val (padd (sbase h4) 0)),(6,padd (sbase h6) 0, .val (padd (sbase h6) 0)),(7, .bool false,ZM false),(8,v22,pGr A),(9,v24,pGr B),(10,padd (sbase h10) 0, .val (padd (sbase h10) 0)),(11,z.1.2.2.1, .val z.1.2.2.1),(12,h33, .val h33),(13, .int .i64 i,pInt i),(14, .int .i64 x.1.1,pInt x.1.1),(15, .int .i64 x.1.2,pInt x.1.2),(16,h54, .val h54),(17, .int .i64 s,pInt s),(19, .int .i64 z.1.2.2.2.2,pInt z.1.2.2.2.2),(56, .int .i64 A.syms.toNat,pInt A.syms.toNat),(57, .int .i64 s,pInt s)],[(3,h3, .own 39 5 1 [pInt A.n,pInt A.syms,pInts A.start,pInts A.fin,pMvs A.moves]),(4,h4, .own 39 5 1 [pInt B.n,pInt B.syms,pInts B.start,pInts B.fin,pMvs B.moves]),(6,h6, .own 149 5 1 [pInt 0, .val (.slice none 0 0), .val (.slice none 0 0), .val (.slice none 0 0), .val (.slice none 0 0)]),(10,h10, .own 149 5 1 [pInt A.syms, .val r1, .val r2, .val z.1.1, .val z.1.2.1]),(301,r1, .own 36 1 rows.length (rows.map Lp)),(302,r2, .own 4 1 ((o.take i).map (Wz A B op)).length (((o.take i).map (Wz A B op)).map ZM)),(303,z.1.1, .own 3 1 (Ki z.1.2.2.2.1).length ((Ki z.1.2.2.2.1).map pInt)),(304,z.1.2.1, .own 3 1 (J9 z.1.2.2.2.1).length ((J9 z.1.2.2.2.1).map pInt)),(305,z.1.2.2.1, .own 263 2 z.1.2.2.2.1.length (z.1.2.2.2.1.flatMap cPr)),(306,h33, .omap (Si (YJ WJ 0 z.1.2.2.2.1))),(54,h54, .own 3 1 A.syms.toNat (vec A.syms.toNat fun j=>pInt (Te r j)))]⟩) ?_ ?_
 · refine cX ?_ ?_<;>intro hb90
   · first | exact bN hb90|(
 (have hnew:¬posK WJ o' (WJ y)<o'.length:=by simpa using hb90);have hnew2:¬posK (Y7 A B).key o' ((Y7 A B).key ((Y7 A B).step i x s))<o'.length:=by
  rw [←hy];show ¬posK Prod.fst o' y.1<o'.length;rw [←hid];exact hnew
 (have hno:JF (YJ WJ 0 o') (WJ y)=none:=by rw [Tz,US hnew]);refine Ze ?_;(refine xL 91 Zb (xL 92 (YN 305 L5) (xL 19 Za ?_))<;>refine Zg ?_)
 (refine xL 93 Zb (xL 94 WK ?_)<;>refine Zc ?_)
 refine cX ?_ ?_<;>intro hb94
 · first|exact bN hb94|(
 refine Ze ?_;((refine yL 95 (Zs (k:=5) (ps:=[pInt A.syms,PV.val r1,PV.val r2,PV.val r3',PV.val r4']) 10 kR) fun v95 h=>?_;cases h)<;>refine ZA 6 Yw ?_<;>refine xL 7 Za ?_<;>refine Zc ?_)
 refine Ys (k:=5) 6 kR (results169) rfl rfl rfl (Xa rfl) dC rfl (.inr ⟨?_,_,_,_,_,_,rfl,hr1,hr2,hr3',hr4',rfl⟩);have hv:=Dr hnew2 (show (Y7 A B).cap≤o'.length by show 2000≤o'.length;omega);have h1:=Srch.row_fails (Srch.row_out hW hv) (show s+1≤(Y7 A B).m by show s+1≤A.syms.toNat;omega);exact Srch.all_none (Srch.upto_out hU hx h1) (show i+1≤(Y7 A B).cap by show i+1≤2000;omega))
 · first |exact bN hb94|(
 refine Ze ?_;(refine xL 96 Zb ?_<;>(refine yL 97 (Zs (k:=2) (ps:=[pInt (y.1.1:Nat),pInt (y.1.2:Nat)]) 18 kR) fun v97 h=>?_;cases h)<;>refine xL 98 Zb ?_<;>(refine ZdA (m:=YJ WJ 0 o') (k:=WJ y) 306 tPi hko hkn hky hno ?_;rw [show YJ WJ 0 o'++[(WJ y,Value.int .i64 ((o'.length:Nat):Int))]=YJ WJ 0 (o'++[y]) by rw [Cq,Xv]])<;>refine Zc ?_)
 (refine Z5 (fun i=>([16,17,18]:List Nat).elem i) [10,18] kR ?_<;>refine xDT 0 99 rfl Zb ?_<;>(refine yDT 1 100 rfl (Zs (k:=2) (ps:=[pInt (y.1.1:Nat),pInt (y.1.2:Nat)]) 18 kR) fun v100 h=>?_;cases h)<;>refine xDT 4 103 rfl (Zd 10 Z9) ?_<;>(refine yDT 5 104 rfl (Zk 10 ZB) fun v104 h=>?_;cases h)<;>refine xDT 6 105 rfl Zb ?_<;>refine xDT 9 108 rfl (Zd 10 L4) ?_<;>(refine yDT 10 109 rfl (Zk 10 ZB) fun v109 h=>?_;cases h)<;>refine xDT 11 110 rfl Zb ?_<;>(refine G7 2 7 12 kR ?_ ?_ ?_;rotate_right;(focus ((refine Zj rfl fun w9 M9 N9 DQ back=>?_)<;>refine ZJ (kk:=1) 111 Zl fun h111 ho111=>?_<;>refine Zh (back _ (nrm ?_))<;>(refine Y5 2 7 kR ?_ ?_;rotate_right;(focus ((refine Zj rfl fun w9 M9 N9 DQ back=>?_)<;>refine ZJ (kk:=1) 106 Zl fun h106 ho106=>?_<;>refine Zh (back _ (nrm ?_))<;>(refine Zq 2 kR ?_)<;>(refine Zj rfl fun w9 M9 N9 DQ back=>?_)<;>refine YM 101 Yx fun h101 ho101=>?_<;>refine Zh (back _ (nrm ?_))<;>(refine Zq 3 kR ?_)<;>(refine Zj rfl fun w9 M9 N9 DQ back=>?_)<;>refine ZU 305 101 102 Yx fun h102 ho102=>?_<;>refine Zh (back _ (nrm ?_))<;>(refine Zq 8 kR ?_)<;>(refine Zj rfl fun w9 M9 N9 DQ back=>?_)<;>(refine ZU 303 106 107 Zl fun h107 ho107=>?_;have q107:En.one (PV.val h107)=true:=ho107)<;>refine Zh (back _ (nrm ?_))<;>(refine Zq 13 kR ?_)<;>(refine Zj rfl fun w9 M9 N9 DQ back=>?_)<;>(refine ZU 304 111 112 Zl fun h112 ho112=>?_;have q112:En.one (PV.val h112)=true:=ho112)<;>refine Zh (back _ (nrm ?_))<;>refine xE 14 11 rfl Za ?_<;>refine xE 15 113 rfl (Zd 10 Z9) ?_));rotate_right;(focus ((refine Zj rfl fun w9 M9 N9 DQ back=>?_)<;>refine YM 101 Yx fun h101 ho101=>?_<;>refine Zh (back _ (nrm ?_))<;>(refine Y5 3 7 kR ?_ ?_;rotate_right;(focus ((refine Zj rfl fun w9 M9 N9 DQ back=>?_)<;>refine ZJ (kk:=1) 106 Zl fun h106 ho106=>?_<;>refine Zh (back _ (nrm ?_))<;>(refine Zq 3 kR ?_)<;>(refine Zj rfl fun w9 M9 N9 DQ back=>?_)<;>refine ZU 305 101 102 Yx fun h102 ho102=>?_<;>refine Zh (back _ (nrm ?_))<;>(refine Zq 8 kR ?_)<;>(refine Zj rfl fun w9 M9 N9 DQ back=>?_)<;>(refine ZU 303 106 107 Zl fun h107 ho107=>?_;have q107:En.one (PV.val h107)=true:=ho107)<;>refine Zh (back _ (nrm ?_))<;>(refine Zq 13 kR ?_)<;>(refine Zj rfl fun w9 M9 N9 DQ back=>?_)<;>(refine ZU 304 111 112 Zl fun h112 ho112=>?_;have q112:En.one (PV.val h112)=true:=ho112)<;>refine Zh (back _ (nrm ?_))<;>refine xE 14 11 rfl Za ?_<;>refine xE 15 113 rfl (Zd 10 Z9) ?_));rotate_right;(focus ((refine Zj rfl fun w9 M9 N9 DQ back=>?_)<;>refine ZU 305 101 102 Yx fun h102 ho102=>?_<;>refine Zh (back _ (nrm ?_))<;>(refine Zq 7 kR ?_)<;>(refine Zj rfl fun w9 M9 N9 DQ back=>?_)<;>refine ZJ (kk:=1) 106 Zl fun h106 ho106=>?_<;>refine Zh (back _ (nrm ?_))<;>(refine Zq 8 kR ?_)<;>(refine Zj rfl fun w9 M9 N9 DQ back=>?_)<;>(refine ZU 303 106 107 Zl fun h107 ho107=>?_;have q107:En.one (PV.val h107)=true:=ho107)<;>refine Zh (back _ (nrm ?_))<;>(refine Zq 13 kR ?_)<;>(refine Zj rfl fun w9 M9 N9 DQ back=>?_)<;>(refine ZU 304 111 112 Zl fun h112 ho112=>?_;have q112:En.one (PV.val h112)=true:=ho112)<;>refine Zh (back _ (nrm ?_))<;>refine xE 14 11 rfl Za ?_<;>refine xE 15 113 rfl (Zd 10 Z9) ?_))))))));rotate_right;(focus ((refine Zj rfl fun w9 M9 N9 DQ back=>?_)<;>refine ZJ (kk:=1) 106 Zl fun h106 ho106=>?_<;>refine Zh (back _ (nrm ?_))<;>(refine Y5 2 12 kR ?_ ?_;rotate_right;(focus ((refine Zj rfl fun w9 M9 N9 DQ back=>?_)<;>refine ZJ (kk:=1) 111 Zl fun h111 ho111=>?_<;>refine Zh (back _ (nrm ?_))<;>(refine Zq 2 kR ?_)<;>(refine Zj rfl fun w9 M9 N9 DQ back=>?_)<;>refine YM 101 Yx fun h101 ho101=>?_<;>refine Zh (back _ (nrm ?_))<;>(refine Zq 3 kR ?_)<;>(refine Zj rfl fun w9 M9 N9 DQ back=>?_)<;>refine ZU 305 101 102 Yx fun h102 ho102=>?_<;>refine Zh (back _ (nrm ?_))<;>(refine Zq 8 kR ?_)<;>(refine Zj rfl fun w9 M9 N9 DQ back=>?_)<;>(refine ZU 303 106 107 Zl fun h107 ho107=>?_;have q107:En.one (PV.val h107)=true:=ho107)<;>refine Zh (back _ (nrm ?_))<;>(refine Zq 13 kR ?_)<;>(refine Zj rfl fun w9 M9 N9 DQ back=>?_)<;>(refine ZU 304 111 112 Zl fun h112 ho112=>?_;have q112:En.one (PV.val h112)=true:=ho112)<;>refine Zh (back _ (nrm ?_))<;>refine xE 14 11 rfl Za ?_<;>refine xE 15 113 rfl (Zd 10 Z9) ?_));rotate_right;(focus ((refine Zj rfl fun w9 M9 N9 DQ back=>?_)<;>refine YM 101 Yx fun h101 ho101=>?_<;>refine Zh (back _ (nrm ?_))<;>(refine Y5 3 12 kR ?_ ?_;rotate_right;(focus ((refine Zj rfl fun w9 M9 N9 DQ back=>?_)<;>refine ZJ (kk:=1) 111 Zl fun h111 ho111=>?_<;>refine Zh (back _ (nrm ?_))<;>(refine Zq 3 kR ?_)<;>(refine Zj rfl fun w9 M9 N9 DQ back=>?_)<;>refine ZU 305 101 102 Yx fun h102 ho102=>?_<;>refine Zh (back _ (nrm ?_))<;>(refine Zq 8 kR ?_)<;>(refine Zj rfl fun w9 M9 N9 DQ back=>?_)<;>(refine ZU 303 106 107 Zl fun h107 ho107=>?_;have q107:En.one (PV.val h107)=true:=ho107)<;>refine Zh (back _ (nrm ?_))<;>(refine Zq 13 kR ?_)<;>(refine Zj rfl fun w9 M9 N9 DQ back=>?_)<;>(refine ZU 304 111 112 Zl fun h112 ho112=>?_;have q112:En.one (PV.val h112)=true:=ho112)<;>refine Zh (back _ (nrm ?_))<;>refine xE 14 11 rfl Za ?_<;>refine xE 15 113 rfl (Zd 10 Z9) ?_));rotate_right;(focus ((refine Zj rfl fun w9 M9 N9 DQ back=>?_)<;>refine ZU 305 101 102 Yx fun h102 ho102=>?_<;>refine Zh (back _ (nrm ?_))<;>(refine Y5 8 12 kR ?_ ?_;rotate_right;(focus ((refine Zj rfl fun w9 M9 N9 DQ back=>?_)<;>refine ZJ (kk:=1) 111 Zl fun h111 ho111=>?_<;>refine Zh (back _ (nrm ?_))<;>(refine Zq 8 kR ?_)<;>(refine Zj rfl fun w9 M9 N9 DQ back=>?_)<;>(refine ZU 303 106 107 Zl fun h107 ho107=>?_;have q107:En.one (PV.val h107)=true:=ho107)<;>refine Zh (back _ (nrm ?_))<;>(refine Zq 13 kR ?_)<;>(refine Zj rfl fun w9 M9 N9 DQ back=>?_)<;>(refine ZU 304 111 112 Zl fun h112 ho112=>?_;have q112:En.one (PV.val h112)=true:=ho112)<;>refine Zh (back _ (nrm ?_))<;>refine xE 14 11 rfl Za ?_<;>refine xE 15 113 rfl (Zd 10 Z9) ?_));rotate_right;(focus ((refine Zj rfl fun w9 M9 N9 DQ back=>?_)<;>(refine ZU 303 106 107 Zl fun h107 ho107=>?_;have q107:En.one (PV.val h107)=true:=ho107)<;>refine Zh (back _ (nrm ?_))<;>(refine Zq 12 kR ?_)<;>(refine Zj rfl fun w9 M9 N9 DQ back=>?_)<;>refine ZJ (kk:=1) 111 Zl fun h111 ho111=>?_<;>refine Zh (back _ (nrm ?_))<;>(refine Zq 13 kR ?_)<;>(refine Zj rfl fun w9 M9 N9 DQ back=>?_)<;>(refine ZU 304 111 112 Zl fun h112 ho112=>?_;have q112:En.one (PV.val h112)=true:=ho112)<;>refine Zh (back _ (nrm ?_))<;>refine xE 14 11 rfl Za ?_<;>refine xE 15 113 rfl (Zd 10 Z9) ?_)))))))))));rotate_right;(focus ((refine Zj rfl fun w9 M9 N9 DQ back=>?_)<;>refine YM 101 Yx fun h101 ho101=>?_<;>refine Zh (back _ (nrm ?_))<;>(refine G7 3 7 12 kR ?_ ?_ ?_;rotate_right;(focus ((refine Zj rfl fun w9 M9 N9 DQ back=>?_)<;>refine ZJ (kk:=1) 111 Zl fun h111 ho111=>?_<;>refine Zh (back _ (nrm ?_))<;>(refine Y5 3 7 kR ?_ ?_;rotate_right;(focus ((refine Zj rfl fun w9 M9 N9 DQ back=>?_)<;>refine ZJ (kk:=1) 106 Zl fun h106 ho106=>?_<;>refine Zh (back _ (nrm ?_))<;>(refine Zq 3 kR ?_)<;>(refine Zj rfl fun w9 M9 N9 DQ back=>?_)<;>refine ZU 305 101 102 Yx fun h102 ho102=>?_<;>refine Zh (back _ (nrm ?_))<;>(refine Zq 8 kR ?_)<;>(refine Zj rfl fun w9 M9 N9 DQ back=>?_)<;>(refine ZU 303 106 107 Zl fun h107 ho107=>?_;have q107:En.one (PV.val h107)=true:=ho107)<;>refine Zh (back _ (nrm ?_))<;>(refine Zq 13 kR ?_)<;>(refine Zj rfl fun w9 M9 N9 DQ back=>?_)<;>(refine ZU 304 111 112 Zl fun h112 ho112=>?_;have q112:En.one (PV.val h112)=true:=ho112)<;>refine Zh (back _ (nrm ?_))<;>refine xE 14 11 rfl Za ?_<;>refine xE 15 113 rfl (Zd 10 Z9) ?_));rotate_right;(focus ((refine Zj rfl fun w9 M9 N9 DQ back=>?_)<;>refine ZU 305 101 102 Yx fun h102 ho102=>?_<;>refine Zh (back _ (nrm ?_))<;>(refine Zq 7 kR ?_)<;>(refine Zj rfl fun w9 M9 N9 DQ back=>?_)<;>refine ZJ (kk:=1) 106 Zl fun h106 ho106=>?_<;>refine Zh (back _ (nrm ?_))<;>(refine Zq 8 kR ?_)<;>(refine Zj rfl fun w9 M9 N9 DQ back=>?_)<;>(refine ZU 303 106 107 Zl fun h107 ho107=>?_;have q107:En.one (PV.val h107)=true:=ho107)<;>refine Zh (back _ (nrm ?_))<;>(refine Zq 13 kR ?_)<;>(refine Zj rfl fun w9 M9 N9 DQ back=>?_)<;>(refine ZU 304 111 112 Zl fun h112 ho112=>?_;have q112:En.one (PV.val h112)=true:=ho112)<;>refine Zh (back _ (nrm ?_))<;>refine xE 14 11 rfl Za ?_<;>refine xE 15 113 rfl (Zd 10 Z9) ?_)))));rotate_right;(focus ((refine Zj rfl fun w9 M9 N9 DQ back=>?_)<;>refine ZJ (kk:=1) 106 Zl fun h106 ho106=>?_<;>refine Zh (back _ (nrm ?_))<;>(refine Y5 3 12 kR ?_ ?_;rotate_right;(focus ((refine Zj rfl fun w9 M9 N9 DQ back=>?_)<;>refine ZJ (kk:=1) 111 Zl fun h111 ho111=>?_<;>refine Zh (back _ (nrm ?_))<;>(refine Zq 3 kR ?_)<;>(refine Zj rfl fun w9 M9 N9 DQ back=>?_)<;>refine ZU 305 101 102 Yx fun h102 ho102=>?_<;>refine Zh (back _ (nrm ?_))<;>(refine Zq 8 kR ?_)<;>(refine Zj rfl fun w9 M9 N9 DQ back=>?_)<;>(refine ZU 303 106 107 Zl fun h107 ho107=>?_;have q107:En.one (PV.val h107)=true:=ho107)<;>refine Zh (back _ (nrm ?_))<;>(refine Zq 13 kR ?_)<;>(refine Zj rfl fun w9 M9 N9 DQ back=>?_)<;>(refine ZU 304 111 112 Zl fun h112 ho112=>?_;have q112:En.one (PV.val h112)=true:=ho112)<;>refine Zh (back _ (nrm ?_))<;>refine xE 14 11 rfl Za ?_<;>refine xE 15 113 rfl (Zd 10 Z9) ?_));rotate_right;(focus ((refine Zj rfl fun w9 M9 N9 DQ back=>?_)<;>refine ZU 305 101 102 Yx fun h102 ho102=>?_<;>refine Zh (back _ (nrm ?_))<;>(refine Y5 8 12 kR ?_ ?_;rotate_right;(focus ((refine Zj rfl fun w9 M9 N9 DQ back=>?_)<;>refine ZJ (kk:=1) 111 Zl fun h111 ho111=>?_<;>refine Zh (back _ (nrm ?_))<;>(refine Zq 8 kR ?_)<;>(refine Zj rfl fun w9 M9 N9 DQ back=>?_)<;>(refine ZU 303 106 107 Zl fun h107 ho107=>?_;have q107:En.one (PV.val h107)=true:=ho107)<;>refine Zh (back _ (nrm ?_))<;>(refine Zq 13 kR ?_)<;>(refine Zj rfl fun w9 M9 N9 DQ back=>?_)<;>(refine ZU 304 111 112 Zl fun h112 ho112=>?_;have q112:En.one (PV.val h112)=true:=ho112)<;>refine Zh (back _ (nrm ?_))<;>refine xE 14 11 rfl Za ?_<;>refine xE 15 113 rfl (Zd 10 Z9) ?_));rotate_right;(focus ((refine Zj rfl fun w9 M9 N9 DQ back=>?_)<;>(refine ZU 303 106 107 Zl fun h107 ho107=>?_;have q107:En.one (PV.val h107)=true:=ho107)<;>refine Zh (back _ (nrm ?_))<;>(refine Zq 12 kR ?_)<;>(refine Zj rfl fun w9 M9 N9 DQ back=>?_)<;>refine ZJ (kk:=1) 111 Zl fun h111 ho111=>?_<;>refine Zh (back _ (nrm ?_))<;>(refine Zq 13 kR ?_)<;>(refine Zj rfl fun w9 M9 N9 DQ back=>?_)<;>(refine ZU 304 111 112 Zl fun h112 ho112=>?_;have q112:En.one (PV.val h112)=true:=ho112)<;>refine Zh (back _ (nrm ?_))<;>refine xE 14 11 rfl Za ?_<;>refine xE 15 113 rfl (Zd 10 Z9) ?_))))))));rotate_right;(focus ((refine Zj rfl fun w9 M9 N9 DQ back=>?_)<;>refine ZU 305 101 102 Yx fun h102 ho102=>?_<;>refine Zh (back _ (nrm ?_))<;>(refine Y5 7 12 kR ?_ ?_;rotate_right;(focus ((refine Zj rfl fun w9 M9 N9 DQ back=>?_)<;>refine ZJ (kk:=1) 111 Zl fun h111 ho111=>?_<;>refine Zh (back _ (nrm ?_))<;>(refine Zq 7 kR ?_)<;>(refine Zj rfl fun w9 M9 N9 DQ back=>?_)<;>refine ZJ (kk:=1) 106 Zl fun h106 ho106=>?_<;>refine Zh (back _ (nrm ?_))<;>(refine Zq 8 kR ?_)<;>(refine Zj rfl fun w9 M9 N9 DQ back=>?_)<;>(refine ZU 303 106 107 Zl fun h107 ho107=>?_;have q107:En.one (PV.val h107)=true:=ho107)<;>refine Zh (back _ (nrm ?_))<;>(refine Zq 13 kR ?_)<;>(refine Zj rfl fun w9 M9 N9 DQ back=>?_)<;>(refine ZU 304 111 112 Zl fun h112 ho112=>?_;have q112:En.one (PV.val h112)=true:=ho112)<;>refine Zh (back _ (nrm ?_))<;>refine xE 14 11 rfl Za ?_<;>refine xE 15 113 rfl (Zd 10 Z9) ?_));rotate_right;(focus ((refine Zj rfl fun w9 M9 N9 DQ back=>?_)<;>refine ZJ (kk:=1) 106 Zl fun h106 ho106=>?_<;>refine Zh (back _ (nrm ?_))<;>(refine Y5 8 12 kR ?_ ?_;rotate_right;(focus ((refine Zj rfl fun w9 M9 N9 DQ back=>?_)<;>refine ZJ (kk:=1) 111 Zl fun h111 ho111=>?_<;>refine Zh (back _ (nrm ?_))<;>(refine Zq 8 kR ?_)<;>(refine Zj rfl fun w9 M9 N9 DQ back=>?_)<;>(refine ZU 303 106 107 Zl fun h107 ho107=>?_;have q107:En.one (PV.val h107)=true:=ho107)<;>refine Zh (back _ (nrm ?_))<;>(refine Zq 13 kR ?_)<;>(refine Zj rfl fun w9 M9 N9 DQ back=>?_)<;>(refine ZU 304 111 112 Zl fun h112 ho112=>?_;have q112:En.one (PV.val h112)=true:=ho112)<;>refine Zh (back _ (nrm ?_))<;>refine xE 14 11 rfl Za ?_<;>refine xE 15 113 rfl (Zd 10 Z9) ?_));rotate_right;(focus ((refine Zj rfl fun w9 M9 N9 DQ back=>?_)<;>(refine ZU 303 106 107 Zl fun h107 ho107=>?_;have q107:En.one (PV.val h107)=true:=ho107)<;>refine Zh (back _ (nrm ?_))<;>(refine Zq 12 kR ?_)<;>(refine Zj rfl fun w9 M9 N9 DQ back=>?_)<;>refine ZJ (kk:=1) 111 Zl fun h111 ho111=>?_<;>refine Zh (back _ (nrm ?_))<;>(refine Zq 13 kR ?_)<;>(refine Zj rfl fun w9 M9 N9 DQ back=>?_)<;>(refine ZU 304 111 112 Zl fun h112 ho112=>?_;have q112:En.one (PV.val h112)=true:=ho112)<;>refine Zh (back _ (nrm ?_))<;>refine xE 14 11 rfl Za ?_<;>refine xE 15 113 rfl (Zd 10 Z9) ?_))))))))))))<;>(refine Zq 16 kR ?_)<;>(refine Rc rfl rfl fun DQ back=>?_)<;>refine YZ 10 ZB Kb ?_<;>refine Zh (back _ ?_)<;>(refine J1 17 kR rfl rfl fun DQ back=>?_)<;>refine xL 114 (Zd 10 L4) ?_<;>refine Zh (back _ ?_)<;>(refine J1 18 kR rfl rfl fun DQ back=>?_)<;>refine YZ 10 ZB Kb ?_<;>refine Zh (back _ ?_)<;>refine OJ kR (nav ?_)<;>try dsimp only)<;>(
 first
  | (refine WX (Zy (l:=102) 305 rfl rfl) fun _=>?_
     refine WX (ZP (l:=305) rfl (Zd6 _ o' y)) fun _=>?_;refine WX (Zy (l:=107) 303 rfl rfl) fun _=>?_;refine WX (ZP (l:=303) (p':= .own 3 1 (Ki (o'++[y])).length ((Ki (o'++[y])).map pInt)) rfl ((GA _ (Ki o') i).trans (by rw [Cr,hy2]))) fun _=>?_;refine WX (Zy (l:=112) 304 rfl rfl) fun _=>?_;refine WX (ZP (l:=304) (p':= .own 3 1 (J9 (o'++[y])).length ((J9 (o'++[y])).map pInt)) rfl ((GA _ (J9 o') s).trans (by rw [ZbH,hy2]))) fun _=>?_;exact K8 ⟨(h107,h112,h102,o'++[y],o'.length),ho107,ho112,ho102,by dsimp only;rw [hy];exact WR hnew2 (show o'.length<2000 by omega)⟩ ⟨rfl,rfl,rfl,rfl,rfl,rfl,rfl,rfl,rfl,rfl,rfl,rfl,rfl,rfl,rfl,rfl,rfl,rfl,trivial⟩ ⟨rfl,rfl,rfl,rfl,rfl,rfl,rfl,rfl,rfl,rfl,rfl,trivial⟩)
  |exact K8 ⟨(r3',r4',r5',o',posK WJ o' (WJ y)),hr3',hr4',hr5',by dsimp only;rw [hid,hy];exact WQ hold2⟩ ⟨rfl,rfl,rfl,rfl,rfl,rfl,rfl,rfl,rfl,rfl,rfl,rfl,rfl,rfl,rfl,rfl,rfl,rfl,trivial⟩ ⟨rfl,rfl,rfl,rfl,rfl,rfl,rfl,rfl,rfl,rfl,rfl,trivial⟩)))
   · first |exact bN hb90|(
 (have hold:posK WJ o' (WJ y)<o'.length:=by simpa using hb90);have hold2:posK (Y7 A B).key o' ((Y7 A B).key ((Y7 A B).step i x s))<o'.length:=by
  rw [←hy];show posK Prod.fst o' y.1<o'.length;rw [←hid];exact hold
 rw [UT hold];refine nav ?_
 first
  | (refine WX (Zy (l:=102) 305 rfl rfl) fun _=>?_
     refine WX (ZP (l:=305) rfl (Zd6 _ o' y)) fun _=>?_;refine WX (Zy (l:=107) 303 rfl rfl) fun _=>?_;refine WX (ZP (l:=303) (p':= .own 3 1 (Ki (o'++[y])).length ((Ki (o'++[y])).map pInt)) rfl ((GA _ (Ki o') i).trans (by rw [Cr,hy2]))) fun _=>?_;refine WX (Zy (l:=112) 304 rfl rfl) fun _=>?_;refine WX (ZP (l:=304) (p':= .own 3 1 (J9 (o'++[y])).length ((J9 (o'++[y])).map pInt)) rfl ((GA _ (J9 o') s).trans (by rw [ZbH,hy2]))) fun _=>?_;exact K8 ⟨(h107,h112,h102,o'++[y],o'.length),ho107,ho112,ho102,by dsimp only;rw [hy];exact WR hnew2 (show o'.length<2000 by omega)⟩ ⟨rfl,rfl,rfl,rfl,rfl,rfl,rfl,rfl,rfl,rfl,rfl,rfl,rfl,rfl,rfl,rfl,rfl,rfl,trivial⟩ ⟨rfl,rfl,rfl,rfl,rfl,rfl,rfl,rfl,rfl,rfl,rfl,trivial⟩)
  |exact K8 ⟨(r3',r4',r5',o',posK WJ o' (WJ y)),hr3',hr4',hr5',by dsimp only;rw [hid,hy];exact WQ hold2⟩ ⟨rfl,rfl,rfl,rfl,rfl,rfl,rfl,rfl,rfl,rfl,rfl,rfl,rfl,rfl,rfl,rfl,rfl,rfl,trivial⟩ ⟨rfl,rfl,rfl,rfl,rfl,rfl,rfl,rfl,rfl,rfl,rfl,trivial⟩)
 · rintro ⟨⟨g3,g4,g5,o2,n2⟩,w3,w4,w5,hvis⟩;dsimp only at w3 w4 w5 hvis ⊢;refine Ze ?_;(refine xL 115 Zb (xL 116 Zb (xL 117 Zb (xL 118 (YL 54 Zu) ?_)))<;>refine YZ 54 Zo W9 ?_<;>refine Zg ?_)
   (refine xL 119 ZH (xL 57 Zb ?_)<;>refine Zc ?_)
   rw [show s*1=r.length*1 by omega,Pl _ oM];refine Zn (
    ⟨(s+1,g3,g4,g5,o2,r++[n2]),Srch.row_snoc hW hvis,(by dsimp only;omega),w3,w4,w5⟩
    ) (by dsimp only;omega) ⟨rfl,rfl,rfl,rfl,rfl,rfl,rfl,rfl,rfl,rfl,rfl,rfl,rfl,rfl,rfl,rfl,trivial⟩ ⟨rfl,rfl,rfl,rfl,rfl,rfl,rfl,rfl,rfl,rfl,rfl,trivial⟩)
 · first|exact bN hb58|(
 have hse:s=A.syms.toNat:=oM;subst hse;have hU2:=Srch.upto_snoc hU hx hW;have htk:o'.take (i+1)=(o.take i)++[x]:=by
  rw [ZE hx'];obtain ⟨e,rfl⟩:=hpr;rw [Uv hi]
 (have f1:((List.range A.n.toNat).map fun s=>ZM (J3 A (s:Nat)))[x.1.1*1]? =some (ZM (J3 A (x.1.1:Nat))):=by rw [Xw,Gp hx1]);(have f2:((List.range B.n.toNat).map fun s=>ZM (J3 B (s:Nat)))[x.1.2*1]? =some (ZM (J3 B (x.1.2:Nat))):=by rw [Xw,Gp hx2]);refine nav ?_;refine Zx (En.freeze (l:=54) (t:=16) rfl rfl) fun _=>?_;rw [EY _ _ _ hrl];(refine Z5 (fun i=>([29,30,31,32]:List Nat).elem i) [10] kR ?_<;>refine xDT 0 120 rfl (Zd 10 Jd) ?_<;>refine xDT 1 121 rfl (Zd 10 WF) ?_<;>(refine yDT 2 122 rfl (Zk 10 Kv) fun v122 h=>?_;cases h)<;>refine xDT 3 123 rfl Zb ?_<;>refine xDT 6 126 rfl (Zd 10 Jd) ?_<;>refine xDT 7 127 rfl (Zd 10 W5) ?_<;>(refine yDT 8 128 rfl (Zk 10 Wt) fun v128 h=>?_;cases h)<;>refine xDT 9 129 rfl Zb ?_<;>refine xDT 10 130 rfl Zb ?_<;>refine xDT 11 131 rfl Sv ?_<;>refine xDT 12 132 rfl (Tq J2) ?_<;>(refine yDT 13 133 rfl (Yo Wt) fun v133 h=>?_;cases h)<;>refine xDT 14 134 rfl Zb ?_<;>refine xDT 15 135 rfl (ZF W2) ?_<;>(refine yDT 16 136 rfl (Yo Gn) fun v136 h=>?_;cases h)<;>refine xDT 17 137 rfl Zb ?_<;>refine xDT 18 138 rfl Sv ?_<;>refine xDT 19 139 rfl (Tq J2) ?_<;>(refine yDT 20 140 rfl (Yo Wt) fun v140 h=>?_;cases h)<;>refine xDT 21 141 rfl Zb ?_<;>refine xDT 22 142 rfl (ZF W2) ?_<;>(refine yDT 23 143 rfl (Yo Gn) fun v143 h=>?_;cases h)<;>(refine Zq 4 kR ?_)<;>(refine Zj rfl fun w9 M9 N9 DQ back=>?_)<;>refine ZJ (kk:=1) 124 W4 fun h124 ho124=>?_<;>refine Zh (back _ (nrm ?_))<;>(refine Zq 5 kR ?_)<;>(refine Zj rfl fun w9 M9 N9 DQ back=>?_)<;>(refine ZU 301 124 125 W4 fun h125 ho125=>?_;have q125:En.one (PV.val h125)=true:=ho125)<;>refine Zh (back _ (nrm ?_))<;>refine xDT 27 147 rfl (Zd 10 Jd) ?_<;>refine xDT 28 148 rfl (Zd 10 WF) ?_<;>(refine Zq 24 kR ?_)<;>(refine WE (d:=144) rfl (cA call213 (Zdc op (J3 A (x.1.1:Nat)) (J3 B (x.1.2:Nat)))) fun v144 h=>?_;cases h)<;>(refine Zq 25 kR ?_)<;>(refine Zj rfl fun w9 M9 N9 DQ back=>?_)<;>refine ZJ (kk:=1) 145 Jt fun h145 ho145=>?_<;>refine Zh (back _ (nrm ?_))<;>(refine Zq 26 kR ?_)<;>(refine Zj rfl fun w9 M9 N9 DQ back=>?_)<;>(refine ZU 302 145 146 Jt fun h146 ho146=>?_;have q146:En.one (PV.val h146)=true:=ho146)<;>refine Zh (back _ (nrm ?_))<;>(refine Zq 29 kR ?_)<;>(refine Rc rfl rfl fun DQ back=>?_)<;>refine YZ 10 Kv Hd ?_<;>refine Zh (back _ ?_)<;>(refine J1 30 kR rfl rfl fun DQ back=>?_)<;>refine xL 149 (Zd 10 Jd) ?_<;>refine Zh (back _ ?_)<;>(refine J1 31 kR rfl rfl fun DQ back=>?_)<;>refine xL 150 (Zd 10 W5) ?_<;>refine Zh (back _ ?_)<;>(refine J1 32 kR rfl rfl fun DQ back=>?_)<;>refine YZ 10 Wt He ?_<;>refine Zh (back _ ?_)<;>refine OJ kR (nav ?_)<;>try dsimp only)
 refine Zx (Zy (l:=125) 301 rfl rfl) fun _=>?_;refine Zx (Zy (l:=146) 302 rfl rfl) fun _=>?_;refine Zx (ZP (l:=301) rfl (EZ _ rows r)) fun _=>?_;refine Zx (ZP (l:=302) rfl (Hf _ ((o.take i).map (Wz A B op)) (Wz A B op x))) fun _=>?_;rw [show ((o.take i).map (Wz A B op))++[Wz A B op x]=(o'.take (i+1)).map (Wz A B op) by rw [htk,Xr];rfl];(refine Zt ?_<;>refine xL 40 Zb (xL 41 ZH (xL 13 Za ?_))<;>refine Zc ?_)
 refine Zn (
  ⟨(i+1,h125,h146,r3',r4',r5',o',rows++[r]),hU2,(by dsimp only;omega),ho125,ho146,hr3',hr4',hr5'⟩
  ) (by dsimp only;omega) ⟨rfl,rfl,rfl,rfl,rfl,rfl,rfl,rfl,rfl,rfl,rfl,trivial⟩ ⟨rfl,rfl,rfl,rfl,rfl,rfl,rfl,rfl,rfl,rfl,trivial⟩))
 · first|exact bN hb39|(
 have hio:i=o.length:=oM;subst hio;refine nav ?_;refine Zx (Z0 (l:=10) (l':=301) (j:=1) rfl rfl rfl rfl) fun _=>?_;refine Zx (Z0 (l:=10) (l':=302) (j:=2) rfl rfl rfl rfl) fun _=>?_;refine Zx (Z0 (l:=10) (l':=303) (j:=3) rfl rfl rfl rfl) fun _=>?_;refine Zx (Z0 (l:=10) (l':=304) (j:=4) rfl rfl rfl rfl) fun _=>?_;rw [Oc _ _ _ rfl,Rx _ _ _ rfl,ZX _ _ _ rfl,ZX _ _ _ rfl];(refine Zt ?_<;>(refine yL 151 (Zs 10 Yw) fun v151 h=>?_;cases h)<;>refine ZA 6 Yw ?_<;>refine xL 7 Za ?_<;>refine Zc ?_)
 refine Ys (k:=5) 6 kR (results169) rfl rfl rfl (Xa rfl) dC rfl (.inl ⟨(o,rows),Srch.all_some hU (Xj _) (show o.length≤(Y7 A B).cap from hcap),?_⟩);unfold TQ;dsimp only;rw [UE,hsN];rfl)
theorem ζE (l:List Bool):AF prog 170 [.sl l.length (l.map ZM),ZM true] (· =pInt (idx (fun x=>x==true) l)):=by
 refine AF.of_body 19 func170 rfl ntmps170 (Xa rfl) ?_
 intro w0 M0 vs hl hv
 obtain ⟨v0,v1,rfl⟩:=WO hl
 obtain rfl:=hv 1 _ _ rfl rfl
 clear hl hv
 refine WY 0 rfl fun hlen=>?_
 refine Ze ?_
 (refine xL 4 Za ?_<;>refine Zg ?_)
 (refine xL 6 Zb (xL 7 (ZR W2) (xL 8 Zb ?_))<;>refine Zc ?_)
 refine ZD (ι:={k:Nat//k≤l.length∧∀i y,i<k→l[i]? =some y→(y==true)=false}) (fun k=>⟨[(0,_,_),(1,_,_),(7,_,_),(8, .int .i64 k.1,pInt k.1)],[]⟩) (fun k=>l.length-k.1) ⟨0,oM,oM⟩ (fun a w H=>H.weaken ⟨rfl,rfl,rfl,rfl,trivial⟩ trivial) ?_
 rintro ⟨k,hk,hp⟩
 dsimp only
 refine Ze ?_
 (refine xL 9 ZQ ?_<;>refine Zc ?_)
 refine cX ?_ ?_<;>intro hb9
 · first |exact bN hb9|(
 obtain ⟨x,hx⟩:=Zp (show k<l.length by omega);have e1:=Ym (f:=ZM) hx;refine Ze ?_;(refine xL 10 Zb (xL 5 Za ?_)<;>refine Zg ?_)
 (refine xL 11 Zb (xL 12 Zb (xL 13 Zb (xL 14 (ZF W2) ?_)))<;>(refine yL 15 (Yo Gn) fun v15 h=>?_;cases h)<;>refine xL 16 (Zgr underlying4) ?_<;>refine Zc ?_)
 refine cX ?_ ?_<;>intro hb16
 · first|exact bN hb16|(
 (have hx1:(x==true)=true:=by cases x<;>simp_all);refine Ze ?_;(refine xL 17 Zb (xL 4 Za ?_)<;>refine Zc ?_)
 refine Zv (results170) rfl ?_;rw [Tj hp hx hx1])
 · first|exact bN hb16|(
 (have hx1:(x==true)=false:=by cases x<;>simp_all);refine Ze ?_;(refine xL 18 ZH (xL 8 Zb ?_)<;>refine Zc ?_)
 refine Zn (
  ⟨k+1,oM,fun i y hi hy=>by
   by_cases e:i=k
   · subst e;rw [hx] at hy;cases hy;exact hx1
   · exact hp i y oM hy⟩
  ) (by dsimp only;omega) ⟨rfl,rfl,rfl,rfl,trivial⟩ trivial))
 · first|exact bN hb9|(
 refine Ze ?_;(refine xL 4 Za ?_<;>refine Zc ?_)
 refine Zv (results170) rfl ?_;rw [Tl fun i y hi hy=>hp i y oM hy])
theorem Znl:ZmU prog 171:=fun blk cap zs w hH _ hsz=>(Tryz.slices_Reverse_int blk 0 cap zs w hH oM).mono fun e w' ⟨h1,n,h2⟩=>⟨h1,n,#[],by rw [h2];simp [Go.Sort.grow];rfl⟩
theorem Zm4:Dh prog 171:=fun p cap w=>Tryz.slices_Reverse_int_empty p cap w
theorem Zkx {A B:Aut} {op:Int} {q:List PrS×List (List Nat)} (h:idx (fun x=>x==true) (q.1.map (Wz A B op))= -1):LW A B op q=(true,[]):=by
 rw [Zm2] at h
 unfold LW
 cases h1:(q.1.map (Wz A B op)).idxOf? true with
 |none=>rfl
 | some i=>
   rw [h1] at h;have h':((i:Nat):Int)= -1:=h;omega
theorem Zio {A B:Aut} {op:Int} {q:List PrS×List (List Nat)} {i:Nat} (h:idx (fun x=>x==true) (q.1.map (Wz A B op))=(i:Int)):LW A B op q=(false,RD (q.1.map (·.2)) i):=by
 rw [Zm2] at h
 unfold LW
 cases h1:(q.1.map (Wz A B op)).idxOf? true with
 | none=>
   rw [h1] at h;have h':(-1:Int)=((i:Nat):Int):=h;omega
 | some j=>
   rw [h1] at h;dsimp only at h ⊢;rw [show j=i by omega];rfl
theorem ZfT {A B:Aut} {op:Int} (o:List PrS) {v:Int} (h:idx (fun x=>x==true) (o.map (Wz A B op))=v):v= -1∨∃i:Nat,v=(i:Int)∧i<o.length:=by
 rcases C2 (p:=fun x=>x==true) (l:=o.map (Wz A B op)) with ⟨h1,_⟩|⟨i,x,h1,h2,_⟩
 · exact .inl (by rw [←h,h1])
 · exact .inr ⟨i,by rw [←h,h1],by have:=Zf h2;rwa [Xd] at this⟩
theorem Zip (A B:Aut) (op:Int) (o:List PrS) (rows:List (List Nat)) (hu:(Y7 A B).upto ((0,0),(-1,-1)) 2000=some (o,rows)) (h0:o[0]? =some ((0,0),(-1,-1))) (hcap:o.length≤2000):AF prog 122 [TQ A B op (o,rows)] (· = .tup [pInts (LW A B op (o,rows)).2,ZM (!(LW A B op (o,rows)).1)]):=by
 obtain ⟨v,hv⟩:∃v,idx (fun x=>x==true) (o.map (Wz A B op))=v:=⟨_,rfl⟩
 have hix:=ζE (o.map (Wz A B op))
 rw [hv] at hix
 have hvc:=ZfT o hv
 have hbk:=E9 hu h0
 refine AF.of_body 34 func122 rfl ntmps122 (Xa rfl) ?_
 intro w0 M0 vs hl hv
 obtain ⟨v0,rfl⟩:=WL hl
 clear hl hv
 refine Ze ?_
 (refine ZG 1 5 fun h1=>?_<;>refine xL 2 Za (xL 3 Za ?_)<;>refine Zg ?_)
 (refine xL 6 (Zd 1 Jd) (xL 7 (Zd 1 W5) ?_)<;>(refine yL 8 (Zk 1 Wt) fun v8 h=>?_;cases h)<;>(refine cS 9 (cA call170 (hix)) fun v9 h=>?_;cases h)<;>refine xL 4 Za ?_<;>refine Zg ?_)
 (refine xL 10 Zb (xL 11 ZQ ?_)<;>refine Zc ?_)
 refine cX ?_ ?_<;>intro hb11
 · first|exact bN hb11|(
 have hv1:v= -1:=oM;subst hv1;have hcr:=Zkx (q:=(o,rows)) hv;refine Ze ?_;(refine xL 2 Za (xL 3 Za ?_)<;>refine Zc ?_)
 refine YR (W1 (t:=2) rfl) fun _=>?_;refine Wr (results122) rfl rfl ?_;rw [hcr];rfl)
 · first |exact bN hb11|(
 obtain ⟨i0,rfl,hi0⟩:∃i:Nat,v=(i:Int)∧i<o.length:=by
  rcases hvc with h|h
  · omega
  · exact h
 have hcr:=Zio (q:=(o,rows)) hv;dsimp only at hcr;refine Ze ?_;(refine xL 5 Za ?_<;>refine Zc ?_)
 refine Zx (KB 200 3 1 rfl) fun _=>?_;refine ZD (ι:={k:Nat×List Int×Value//RD (o.map (·.2)) i0=RD (o.map (·.2)) k.1++k.2.1.reverse∧k.1<o.length∧k.2.1.length+k.1≤i0∧k.2.2.oneCell'=true}) (fun k=>⟨[(1,_,_),(2,_,_),(3,_,_),(4, .int .i64 k.1.1,pInt k.1.1),(5,k.1.2.2, .val k.1.2.2)],[(1,_,_),(200,k.1.2.2, .own 3 1 k.1.2.1.length (k.1.2.1.map pInt))]⟩) (fun k=>k.1.1) ⟨(i0,[], .slice none 0 0),sM,hi0,sM,rfl⟩ (fun a w H=>H.weaken ⟨rfl,rfl,rfl,rfl,rfl,trivial⟩ ⟨rfl,rfl,trivial⟩) ?_;rintro ⟨⟨cur,out,r⟩,hw,hc,hl,hr⟩;dsimp only;dsimp only at hw hc hl hr;obtain ⟨⟨pq,f,s⟩,hx⟩:=Zp hc;(have hpf:(Ki o).length=o.length:=by unfold Ki;rw [Xd]);(have hps:(J9 o).length=o.length:=by unfold J9;rw [Xd]);have e1:((Ki o).map pInt)[cur*1]? =some (pInt f):=Ym (by unfold Ki;rw [Xm,hx];rfl);have e2:((J9 o).map pInt)[cur*1]? =some (pInt s):=Ym (by unfold J9;rw [Xm,hx];rfl);(have e3:(o.map (·.2))[cur]? =some (f,s):=by rw [Xm,hx];rfl);have hfc:=hbk cur (f,s) e3;refine Ze ?_;(refine xL 12 (Zd 1 Z9) ?_<;>(refine yL 13 (Zk 1 ZB) fun v13 h=>?_;cases h)<;>refine xL 14 Zb (xL 15 (ZF Zu) ?_)<;>(refine yL 16 (Yo Zo) fun v16 h=>?_;cases h)<;>refine xL 17 WK ?_<;>refine Zc ?_)
 refine cX ?_ ?_<;>intro hb17
 · first|exact bN hb17|(
 obtain ⟨j,rfl⟩:∃j:Nat,f=(j:Int):=⟨f.toNat,oM⟩;dsimp only at hfc;have hwn:=ZdR hbk e3 (by dsimp only;omega);dsimp only at hwn;rw [XS] at hwn;refine Ze ?_;(refine xL 23 Zb (xL 24 (Zd 1 L4) ?_)<;>(refine yL 25 (Zk 1 ZB) fun v25 h=>?_;cases h)<;>refine xL 26 Zb (xL 27 (ZF Zu) ?_)<;>(refine yL 28 (Yo Zo) fun v28 h=>?_;cases h)<;>refine ZJ (kk:=1) 29 Zl fun h29 ho29=>?_<;>refine ZU 200 29 30 Zl fun h30 ho30=>?_<;>refine xL 5 Za ?_<;>refine Zc ?_)
 refine Zx (Zy (l:=30) 200 rfl rfl) fun _=>?_;refine Zx (ZP (l:=200) rfl (GA _ out s)) fun _=>?_;(refine Zt ?_<;>refine xL 18 (Zd 1 Z9) ?_<;>(refine yL 19 (Zk 1 ZB) fun v19 h=>?_;cases h)<;>refine xL 20 Zb (xL 21 (ZF Zu) ?_)<;>(refine yL 22 (Yo Zo) fun v22 h=>?_;cases h)<;>refine xL 4 Za ?_<;>refine Zc ?_)
 refine Zn (
  ⟨(j,out++[s],h30),by dsimp only;rw [hw,hwn,List.reverse_append];simp,by dsimp only;omega,by dsimp only;rw [Xb,Xs];omega,ho30⟩
  ) (by dsimp only;omega) ⟨rfl,rfl,rfl,rfl,rfl,trivial⟩ ⟨rfl,rfl,trivial⟩)
 · first|exact bN hb17|(
 have hwn:=Zbo e3 (by dsimp only;omega);rw [hwn,Vp] at hw;refine Ze ?_;(refine xL 31 Zb ?_<;>(rcases Vb out.length with h0'|h0'<;>first|(refine Zr (ZP (l:=200) (p':= .own 3 1 0 []) rfl (by rw [XO h0'];rfl)) fun _=>?_;refine Di 200 Zm4 (call171) ?_;refine Zr (ZP (l:=200) (p':= .own 3 1 out.length (out.reverse.map pInt)) rfl (by rw [XO h0'];rfl)) fun _=>?_)|(refine ZlT 200 Znl (call171) ?_ h0'))<;>refine Zc ?_)<;>(
 refine Zx (En.freeze (l:=200) (t:=5) rfl rfl) fun _=>?_;rw [show share (PV.own 3 1 out.length (out.reverse.map pInt))=pInts out.reverse by rw [←List.length_reverse];exact ZX _ _ _ rfl];(refine Zt ?_<;>refine xL 33 Zb (xL 2 Za (xL 3 Za ?_))<;>refine Zc ?_)
 refine Wr (results122) rfl rfl ?_;rw [hcr,hw];rfl)))
theorem Zky {a b:Aut} (h:Z4 a=false):WW a b=1:=by unfold WW;rw [UT (.inl h)]
theorem Zkz {a b:Aut} (h:Z4 b=false):WW a b=1:=by unfold WW;rw [UT (.inr h)]
theorem Zmg {a b:Aut} (h1:Z4 a=true) (h2:Z4 b=true) (h:¬a.syms=b.syms):WW a b=29:=by unfold WW;rw [US (by rw [h1,h2];simp),UT h]
theorem Zmh {a b:Aut} (h1:Z4 a=true) (h2:Z4 b=true) (h:a.syms=b.syms):WW a b=0:=by unfold WW;rw [US (by rw [h1,h2];simp),US (fun e=>e h)]
theorem HH {a b:Aut} (h:WW a b=0):Z4 a=true∧Z4 b=true∧a.syms=b.syms:=by
 unfold WW at h
 split at h
 · omega
 · rename_i h1;split at h
   · omega
   · rename_i h2;refine ⟨?_,?_,?_⟩
     · cases e:Z4 a with
       |true=>rfl
       |false=>exact UU (.inl e) h1
     · cases e:Z4 b with
       |true=>rfl
       |false=>exact UU (.inr e) h1
     · exact Decidable.not_not.1 h2
def pPZ:PV:= .agg [pInt 0, .val (.slice none 0 0), .val (.slice none 0 0), .val (.slice none 0 0), .val (.slice none 0 0)]
def Zmi (a b:Aut) (op:Int):PV:=match Ln a b with
 | .ok (A,B,q)=> .tup [TQ A B op q,pInt 0]
 | .error e=> .tup [pPZ,pInt e]
theorem ZkA (a b:Aut) (ha:Z4 a=false) (hb:Z4 b=false) (hs:True):AF prog 120 [ZO a,ZO b] (· =pInt 1):=by
 have hva:=Wg a
 have hvb:=Wg b
 rw [ha] at hva
 rw [hb] at hvb
 refine AF.of_body 20 func120 rfl ntmps120 (Xa rfl) ?_
 intro w0 M0 vs hl hv
 obtain ⟨v0,v1,rfl⟩:=WO hl
 clear hl hv
 refine Ze ?_
 (refine ZG 2 5 fun h2=>?_<;>refine ZG 3 5 fun h3=>?_<;>refine xL 4 Za ?_<;>refine Zg ?_)
 ((refine yL 6 (Zs 2 Zm) fun v6 h=>?_;cases h)<;>(refine cS 7 (cA call107 (hva)) fun v7 h=>?_;cases h)<;>refine xL 8 Yg (xL 9 Zb ?_)<;>refine kL 10 ?_<;>refine kL 11 ?_<;>refine kL 12 ?_<;>refine xL 13 Zz (xL 5 Za ?_)<;>refine Zc ?_)<;>(
 refine cX ?_ ?_<;>intro hb5
 · first|exact bN hb5|(
 refine Ze ?_;(refine xL 4 Za ?_<;>refine Zc ?_)
 exact Zv (results120) rfl rfl)
 · first
   |exact bN hb5
   |skip)
theorem ZkB (a b:Aut) (ha:Z4 a=false) (hb:Z4 b=true) (hs:True):AF prog 120 [ZO a,ZO b] (· =pInt 1):=by
 have hva:=Wg a
 have hvb:=Wg b
 rw [ha] at hva
 rw [hb] at hvb
 refine AF.of_body 20 func120 rfl ntmps120 (Xa rfl) ?_
 intro w0 M0 vs hl hv
 obtain ⟨v0,v1,rfl⟩:=WO hl
 clear hl hv
 refine Ze ?_
 (refine ZG 2 5 fun h2=>?_<;>refine ZG 3 5 fun h3=>?_<;>refine xL 4 Za ?_<;>refine Zg ?_)
 ((refine yL 6 (Zs 2 Zm) fun v6 h=>?_;cases h)<;>(refine cS 7 (cA call107 (hva)) fun v7 h=>?_;cases h)<;>refine xL 8 Yg (xL 9 Zb ?_)<;>refine kL 10 ?_<;>refine kL 11 ?_<;>refine kL 12 ?_<;>refine xL 13 Zz (xL 5 Za ?_)<;>refine Zc ?_)<;>(
 refine cX ?_ ?_<;>intro hb5
 · first|exact bN hb5|(
 refine Ze ?_;(refine xL 4 Za ?_<;>refine Zc ?_)
 exact Zv (results120) rfl rfl)
 · first
   |exact bN hb5
   |skip)
theorem ZkC (a b:Aut) (ha:Z4 a=true) (hb:Z4 b=false) (hs:True):AF prog 120 [ZO a,ZO b] (· =pInt 1):=by
 have hva:=Wg a
 have hvb:=Wg b
 rw [ha] at hva
 rw [hb] at hvb
 refine AF.of_body 20 func120 rfl ntmps120 (Xa rfl) ?_
 intro w0 M0 vs hl hv
 obtain ⟨v0,v1,rfl⟩:=WO hl
 clear hl hv
 refine Ze ?_
 (refine ZG 2 5 fun h2=>?_<;>refine ZG 3 5 fun h3=>?_<;>refine xL 4 Za ?_<;>refine Zg ?_)
 ((refine yL 6 (Zs 2 Zm) fun v6 h=>?_;cases h)<;>(refine cS 7 (cA call107 (hva)) fun v7 h=>?_;cases h)<;>refine xL 8 Yg (xL 9 Zb ?_)<;>(refine yL 10 (Zs 3 Zm) fun v10 h=>?_;cases h)<;>(refine cS 11 (cA call107 (hvb)) fun v11 h=>?_;cases h)<;>refine xL 12 Yg (xL 13 Zz (xL 5 Za ?_))<;>refine Zc ?_)<;>(
 refine cX ?_ ?_<;>intro hb5
 · first|exact bN hb5|(
 refine Ze ?_;(refine xL 4 Za ?_<;>refine Zc ?_)
 exact Zv (results120) rfl rfl)
 · first
   |exact bN hb5
   |skip)
theorem ZkD (a b:Aut) (ha:Z4 a=true) (hb:Z4 b=true) (hs:¬a.syms=b.syms):AF prog 120 [ZO a,ZO b] (· =pInt 29):=by
 have hva:=Wg a
 have hvb:=Wg b
 rw [ha] at hva
 rw [hb] at hvb
 refine AF.of_body 20 func120 rfl ntmps120 (Xa rfl) ?_
 intro w0 M0 vs hl hv
 obtain ⟨v0,v1,rfl⟩:=WO hl
 clear hl hv
 refine Ze ?_
 (refine ZG 2 5 fun h2=>?_<;>refine ZG 3 5 fun h3=>?_<;>refine xL 4 Za ?_<;>refine Zg ?_)
 ((refine yL 6 (Zs 2 Zm) fun v6 h=>?_;cases h)<;>(refine cS 7 (cA call107 (hva)) fun v7 h=>?_;cases h)<;>refine xL 8 Yg (xL 9 Zb ?_)<;>(refine yL 10 (Zs 3 Zm) fun v10 h=>?_;cases h)<;>(refine cS 11 (cA call107 (hvb)) fun v11 h=>?_;cases h)<;>refine xL 12 Yg (xL 13 Zz (xL 5 Za ?_))<;>refine Zc ?_)<;>(
 refine cX ?_ ?_<;>intro hb5
 · first|exact bN hb5|(
 refine Ze ?_;(refine xL 4 Za ?_<;>refine Zc ?_)
 exact Zv (results120) rfl rfl)
 · first|exact bN hb5|(
 refine Ze ?_;(refine xL 15 (Zd 2 Yl) ?_<;>(refine yL 16 (Zk 2 Zo) fun v16 h=>?_;cases h)<;>refine xL 17 (Zd 3 Yl) ?_<;>(refine yL 18 (Zk 3 Zo) fun v18 h=>?_;cases h)<;>refine xL 19 YH (xL 14 Za ?_)<;>refine Zc ?_)
 refine cX ?_ ?_<;>intro hb14
 · first|exact bN hb14|(
 refine Ze ?_;(refine xL 4 Za ?_<;>refine Zc ?_)
 first|exact Zv (results120) rfl rfl|exact UU hs (by simpa using hb14))
 · first|exact bN hb14|(
 refine Ze ?_;(refine xL 4 Za ?_<;>refine Zc ?_)
 first|exact Zv (results120) rfl rfl|exact UU (by simpa using hb14) hs)))
theorem ZkE (a b:Aut) (ha:Z4 a=true) (hb:Z4 b=true) (hs:a.syms=b.syms):AF prog 120 [ZO a,ZO b] (· =pInt 0):=by
 have hva:=Wg a
 have hvb:=Wg b
 rw [ha] at hva
 rw [hb] at hvb
 refine AF.of_body 20 func120 rfl ntmps120 (Xa rfl) ?_
 intro w0 M0 vs hl hv
 obtain ⟨v0,v1,rfl⟩:=WO hl
 clear hl hv
 refine Ze ?_
 (refine ZG 2 5 fun h2=>?_<;>refine ZG 3 5 fun h3=>?_<;>refine xL 4 Za ?_<;>refine Zg ?_)
 ((refine yL 6 (Zs 2 Zm) fun v6 h=>?_;cases h)<;>(refine cS 7 (cA call107 (hva)) fun v7 h=>?_;cases h)<;>refine xL 8 Yg (xL 9 Zb ?_)<;>(refine yL 10 (Zs 3 Zm) fun v10 h=>?_;cases h)<;>(refine cS 11 (cA call107 (hvb)) fun v11 h=>?_;cases h)<;>refine xL 12 Yg (xL 13 Zz (xL 5 Za ?_))<;>refine Zc ?_)<;>(
 refine cX ?_ ?_<;>intro hb5
 · first|exact bN hb5|(
 refine Ze ?_;(refine xL 4 Za ?_<;>refine Zc ?_)
 exact Zv (results120) rfl rfl)
 · first|exact bN hb5|(
 refine Ze ?_;(refine xL 15 (Zd 2 Yl) ?_<;>(refine yL 16 (Zk 2 Zo) fun v16 h=>?_;cases h)<;>refine xL 17 (Zd 3 Yl) ?_<;>(refine yL 18 (Zk 3 Zo) fun v18 h=>?_;cases h)<;>refine xL 19 YH (xL 14 Za ?_)<;>refine Zc ?_)
 refine cX ?_ ?_<;>intro hb14
 · first|exact bN hb14|(
 refine Ze ?_;(refine xL 4 Za ?_<;>refine Zc ?_)
 first|exact Zv (results120) rfl rfl|exact UU hs (by simpa using hb14))
 · first|exact bN hb14|(
 refine Ze ?_;(refine xL 4 Za ?_<;>refine Zc ?_)
 first|exact Zv (results120) rfl rfl|exact UU (by simpa using hb14) hs)))
theorem SQ (a b:Aut):AF prog 120 [ZO a,ZO b] (· =pInt (WW a b)):=by
 cases ha:Z4 a
 · rw [Zky ha]
   cases hb:Z4 b
   · exact ZkA a b ha hb trivial
   · exact ZkB a b ha hb trivial
 · cases hb:Z4 b
   · rw [Zkz hb];exact ZkC a b ha hb trivial
   · by_cases hs:a.syms=b.syms
     · rw [Zmh ha hb hs];exact ZkE a b ha hb hs
     · rw [Zmg ha hb hs];exact ZkD a b ha hb hs
theorem Ziq (a b:Aut) (op:Int) {A:Aut} (ha:AF prog 132 [ZO a] (· = .tup [ZO A,pInt 0])) (hb:AF prog 132 [ZO b] (· = .tup [Ll,pInt 13])):AF prog 121 [ZO a,ZO b,pInt op] (· = .tup [pPZ,pInt 13]):=by
 refine AF.of_body 42 func121 rfl ntmps121 (Xa rfl) ?_
 intro w0 M0 vs hl hv
 obtain ⟨v0,v1,v2,rfl⟩:=Sg hl
 obtain rfl:=hv 2 _ _ rfl rfl
 clear hl hv
 refine Ze ?_
 (refine ZG 3 5 fun h3=>?_<;>refine ZG 4 5 fun h4=>?_<;>refine Zw [(.int .i64 0),(.slice none 0 0),(.slice none 0 0),(.slice none 0 0),(.slice none 0 0)] 5 6 Ww fun h6=>?_<;>refine xL 7 Za ?_<;>refine Zg ?_)
 ((refine yL 15 (Zs 3 Zm) fun v15 h=>?_;cases h)<;>(refine cP 16 (cA call132 (ha)) fun va16 vb16 hva16 h=>?_;cases h)<;>refine xL 14 Zb (xL 17 Zi (xL 18 Zi ?_))<;>refine Zw [(.int .i64 0),(.int .i64 0),(.slice none 0 0),(.slice none 0 0),(.slice none 0 0)] 5 8 ZI fun h8=>?_<;>refine ZA 8 Zm ?_<;>refine xL 9 Za ?_<;>refine Zg ?_)
 ((refine yL 20 (Zs 4 Zm) fun v20 h=>?_;cases h)<;>(refine cP 21 (cA call132 (hb)) fun va21 vb21 hva21 h=>?_;cases h)<;>refine xL 19 Zb (xL 22 Zi (xL 23 Zi ?_))<;>refine Zw [(.int .i64 0),(.int .i64 0),(.slice none 0 0),(.slice none 0 0),(.slice none 0 0)] 5 10 ZI fun h10=>?_<;>refine ZA 10 Zm ?_<;>refine xL 11 Za ?_<;>refine Zg ?_)
 (refine xL 24 Zb (xL 25 YH (xL 26 Zb (xL 27 Zb (xL 28 YH (xL 29 Zz ?_)))))<;>refine Zc ?_)<;>(
 refine cX ?_ ?_<;>intro hb29
 · refine Ze ?_;(refine xL 30 (Re RL rfl) ?_<;>refine ZA 6 Yw ?_<;>refine xL 7 Za ?_<;>refine Zc ?_)
   exact Ys (k:=5) 6 kR (results121) rfl rfl rfl (Xa rfl) dC rfl rfl
 · first|omega|exact UU dC hb29|exact Bool.noConfusion hb29)
theorem Zir (a b:Aut) (op:Int) {A:Aut} (ha:AF prog 132 [ZO a] (· = .tup [Ll,pInt 13])) (hb:AF prog 132 [ZO b] (· = .tup [ZO A,pInt 0])):AF prog 121 [ZO a,ZO b,pInt op] (· = .tup [pPZ,pInt 13]):=by
 refine AF.of_body 42 func121 rfl ntmps121 (Xa rfl) ?_
 intro w0 M0 vs hl hv
 obtain ⟨v0,v1,v2,rfl⟩:=Sg hl
 obtain rfl:=hv 2 _ _ rfl rfl
 clear hl hv
 refine Ze ?_
 (refine ZG 3 5 fun h3=>?_<;>refine ZG 4 5 fun h4=>?_<;>refine Zw [(.int .i64 0),(.slice none 0 0),(.slice none 0 0),(.slice none 0 0),(.slice none 0 0)] 5 6 Ww fun h6=>?_<;>refine xL 7 Za ?_<;>refine Zg ?_)
 ((refine yL 15 (Zs 3 Zm) fun v15 h=>?_;cases h)<;>(refine cP 16 (cA call132 (ha)) fun va16 vb16 hva16 h=>?_;cases h)<;>refine xL 14 Zb (xL 17 Zi (xL 18 Zi ?_))<;>refine Zw [(.int .i64 0),(.int .i64 0),(.slice none 0 0),(.slice none 0 0),(.slice none 0 0)] 5 8 ZI fun h8=>?_<;>refine ZA 8 Zm ?_<;>refine xL 9 Za ?_<;>refine Zg ?_)
 ((refine yL 20 (Zs 4 Zm) fun v20 h=>?_;cases h)<;>(refine cP 21 (cA call132 (hb)) fun va21 vb21 hva21 h=>?_;cases h)<;>refine xL 19 Zb (xL 22 Zi (xL 23 Zi ?_))<;>refine Zw [(.int .i64 0),(.int .i64 0),(.slice none 0 0),(.slice none 0 0),(.slice none 0 0)] 5 10 ZI fun h10=>?_<;>refine ZA 10 Zm ?_<;>refine xL 11 Za ?_<;>refine Zg ?_)
 (refine xL 24 Zb (xL 25 YH (xL 26 Zb ?_))<;>refine kL 27 ?_<;>refine kL 28 ?_<;>refine xL 29 Zz ?_<;>refine Zc ?_)<;>(
 refine cX ?_ ?_<;>intro hb29
 · refine Ze ?_;(refine xL 30 (Re RL rfl) ?_<;>refine ZA 6 Yw ?_<;>refine xL 7 Za ?_<;>refine Zc ?_)
   exact Ys (k:=5) 6 kR (results121) rfl rfl rfl (Xa rfl) dC rfl rfl
 · first|omega|exact UU dC hb29|exact Bool.noConfusion hb29)
theorem Zis (a b:Aut) (op:Int) (ha:AF prog 132 [ZO a] (· = .tup [Ll,pInt 13])) (hb:AF prog 132 [ZO b] (· = .tup [Ll,pInt 13])):AF prog 121 [ZO a,ZO b,pInt op] (· = .tup [pPZ,pInt 13]):=by
 refine AF.of_body 42 func121 rfl ntmps121 (Xa rfl) ?_
 intro w0 M0 vs hl hv
 obtain ⟨v0,v1,v2,rfl⟩:=Sg hl
 obtain rfl:=hv 2 _ _ rfl rfl
 clear hl hv
 refine Ze ?_
 (refine ZG 3 5 fun h3=>?_<;>refine ZG 4 5 fun h4=>?_<;>refine Zw [(.int .i64 0),(.slice none 0 0),(.slice none 0 0),(.slice none 0 0),(.slice none 0 0)] 5 6 Ww fun h6=>?_<;>refine xL 7 Za ?_<;>refine Zg ?_)
 ((refine yL 15 (Zs 3 Zm) fun v15 h=>?_;cases h)<;>(refine cP 16 (cA call132 (ha)) fun va16 vb16 hva16 h=>?_;cases h)<;>refine xL 14 Zb (xL 17 Zi (xL 18 Zi ?_))<;>refine Zw [(.int .i64 0),(.int .i64 0),(.slice none 0 0),(.slice none 0 0),(.slice none 0 0)] 5 8 ZI fun h8=>?_<;>refine ZA 8 Zm ?_<;>refine xL 9 Za ?_<;>refine Zg ?_)
 ((refine yL 20 (Zs 4 Zm) fun v20 h=>?_;cases h)<;>(refine cP 21 (cA call132 (hb)) fun va21 vb21 hva21 h=>?_;cases h)<;>refine xL 19 Zb (xL 22 Zi (xL 23 Zi ?_))<;>refine Zw [(.int .i64 0),(.int .i64 0),(.slice none 0 0),(.slice none 0 0),(.slice none 0 0)] 5 10 ZI fun h10=>?_<;>refine ZA 10 Zm ?_<;>refine xL 11 Za ?_<;>refine Zg ?_)
 (refine xL 24 Zb (xL 25 YH (xL 26 Zb ?_))<;>refine kL 27 ?_<;>refine kL 28 ?_<;>refine xL 29 Zz ?_<;>refine Zc ?_)<;>(
 refine cX ?_ ?_<;>intro hb29
 · refine Ze ?_;(refine xL 30 (Re RL rfl) ?_<;>refine ZA 6 Yw ?_<;>refine xL 7 Za ?_<;>refine Zc ?_)
   exact Ys (k:=5) 6 kR (results121) rfl rfl rfl (Xa rfl) dC rfl rfl
 · first|omega|exact UU dC hb29|exact Bool.noConfusion hb29)
theorem ZfU (a b A B:Aut) (op:Int) (q:List PrS×List (List Nat)) (ha:AF prog 132 [ZO a] (· = .tup [ZO A,pInt 0])) (hb:AF prog 132 [ZO b] (· = .tup [ZO B,pInt 0])) (hp:AF prog 169 [ZO A,ZO B,pInt op] (· = .tup [TQ A B op q,ZM true])):AF prog 121 [ZO a,ZO b,pInt op] (· = .tup [TQ A B op q,pInt 0]):=by
 refine AF.of_body 42 func121 rfl ntmps121 (Xa rfl) ?_
 intro w0 M0 vs hl hv
 obtain ⟨v0,v1,v2,rfl⟩:=Sg hl
 obtain rfl:=hv 2 _ _ rfl rfl
 clear hl hv
 refine Ze ?_
 (refine ZG 3 5 fun h3=>?_<;>refine ZG 4 5 fun h4=>?_<;>refine Zw [(.int .i64 0),(.slice none 0 0),(.slice none 0 0),(.slice none 0 0),(.slice none 0 0)] 5 6 Ww fun h6=>?_<;>refine xL 7 Za ?_<;>refine Zg ?_)
 ((refine yL 15 (Zs 3 Zm) fun v15 h=>?_;cases h)<;>(refine cP 16 (cA call132 (ha)) fun va16 vb16 hva16 h=>?_;cases h)<;>refine xL 14 Zb (xL 17 Zi (xL 18 Zi ?_))<;>refine Zw [(.int .i64 0),(.int .i64 0),(.slice none 0 0),(.slice none 0 0),(.slice none 0 0)] 5 8 ZI fun h8=>?_<;>refine ZA 8 Zm ?_<;>refine xL 9 Za ?_<;>refine Zg ?_)
 ((refine yL 20 (Zs 4 Zm) fun v20 h=>?_;cases h)<;>(refine cP 21 (cA call132 (hb)) fun va21 vb21 hva21 h=>?_;cases h)<;>refine xL 19 Zb (xL 22 Zi (xL 23 Zi ?_))<;>refine Zw [(.int .i64 0),(.int .i64 0),(.slice none 0 0),(.slice none 0 0),(.slice none 0 0)] 5 10 ZI fun h10=>?_<;>refine ZA 10 Zm ?_<;>refine xL 11 Za ?_<;>refine Zg ?_)
 (refine xL 24 Zb (xL 25 YH (xL 26 Zb (xL 27 Zb (xL 28 YH (xL 29 Zz ?_)))))<;>refine Zc ?_)<;>(
 refine cX ?_ ?_<;>intro hb29
 · first|omega|exact UU rfl hb29|exact bN hb29
 · refine Ze ?_;((refine yL 32 (Zs 8 Zm) fun v32 h=>?_;cases h)<;>(refine yL 33 (Zs 10 Zm) fun v33 h=>?_;cases h)<;>refine xL 34 Zb ?_<;>(refine cP 35 (cA call169 (hp)) fun va35 vb35 hva35 h=>?_;cases h)<;>refine xL 31 Zb (xL 36 Zi (xL 37 Zi ?_))<;>refine Zw [(.int .i64 0),(.slice none 0 0),(.slice none 0 0),(.slice none 0 0),(.slice none 0 0)] 5 12 Ww fun h12=>?_<;>refine ZA 12 Yw ?_<;>refine xL 13 Za ?_<;>refine Zg ?_)
   (refine xL 38 Zb (xL 39 Yg ?_)<;>refine Zc ?_)
   refine cX ?_ ?_<;>intro hb39
   · first
     |exact bN hb39
     |skip
   · first|exact bN hb39|(
 refine Ze ?_;((refine yL 41 (Zs 12 Yw) fun v41 h=>?_;cases h)<;>refine ZA 6 Yw ?_<;>refine xL 7 Za ?_<;>refine Zc ?_)
 exact Ys (k:=5) 6 kR (results121) rfl rfl rfl (Xa rfl) dC rfl rfl))
abbrev V5:={u:Value×Value×Value×Value×Value//En.one (PV.val u.1)=true∧En.one (PV.val u.2.1)=true∧En.one (PV.val u.2.2.1)=true∧En.one (PV.val u.2.2.2.1)=true∧En.one (PV.val u.2.2.2.2)=true}
theorem Zit (a b A B:Aut) (op:Int) (ha:AF prog 132 [ZO a] (· = .tup [ZO A,pInt 0])) (hb:AF prog 132 [ZO b] (· = .tup [ZO B,pInt 0])) (hp:AF prog 169 [ZO A,ZO B,pInt op] (fun p=>∃i:V5,p= .tup [.agg [.val i.1.1, .val i.1.2.1, .val i.1.2.2.1, .val i.1.2.2.2.1, .val i.1.2.2.2.2],ZM false])):AF prog 121 [ZO a,ZO b,pInt op] (· = .tup [pPZ,pInt 13]):=by
 refine AF.of_body 42 func121 rfl ntmps121 (Xa rfl) ?_
 intro w0 M0 vs hl hv
 obtain ⟨v0,v1,v2,rfl⟩:=Sg hl
 obtain rfl:=hv 2 _ _ rfl rfl
 clear hl hv
 refine Ze ?_
 (refine ZG 3 5 fun h3=>?_<;>refine ZG 4 5 fun h4=>?_<;>refine Zw [(.int .i64 0),(.slice none 0 0),(.slice none 0 0),(.slice none 0 0),(.slice none 0 0)] 5 6 Ww fun h6=>?_<;>refine xL 7 Za ?_<;>refine Zg ?_)
 ((refine yL 15 (Zs 3 Zm) fun v15 h=>?_;cases h)<;>(refine cP 16 (cA call132 (ha)) fun va16 vb16 hva16 h=>?_;cases h)<;>refine xL 14 Zb (xL 17 Zi (xL 18 Zi ?_))<;>refine Zw [(.int .i64 0),(.int .i64 0),(.slice none 0 0),(.slice none 0 0),(.slice none 0 0)] 5 8 ZI fun h8=>?_<;>refine ZA 8 Zm ?_<;>refine xL 9 Za ?_<;>refine Zg ?_)
 ((refine yL 20 (Zs 4 Zm) fun v20 h=>?_;cases h)<;>(refine cP 21 (cA call132 (hb)) fun va21 vb21 hva21 h=>?_;cases h)<;>refine xL 19 Zb (xL 22 Zi (xL 23 Zi ?_))<;>refine Zw [(.int .i64 0),(.int .i64 0),(.slice none 0 0),(.slice none 0 0),(.slice none 0 0)] 5 10 ZI fun h10=>?_<;>refine ZA 10 Zm ?_<;>refine xL 11 Za ?_<;>refine Zg ?_)
 (refine xL 24 Zb (xL 25 YH (xL 26 Zb (xL 27 Zb (xL 28 YH (xL 29 Zz ?_)))))<;>refine Zc ?_)<;>(
 refine cX ?_ ?_<;>intro hb29
 · first|omega|exact UU rfl hb29|exact bN hb29
 · refine Ze ?_;((refine yL 32 (Zs 8 Zm) fun v32 h=>?_;cases h)<;>(refine yL 33 (Zs 10 Zm) fun v33 h=>?_;cases h)<;>refine xL 34 Zb ?_<;>(refine cPx 35 (cA call169 hp) (fun i35 v1 v2 hv1 hv2=>?_) (fun _=>rfl);cases hv2;obtain ⟨⟨u0,u1,u2,u3,u4⟩,n0,n1,n2,n3,n4⟩:=i35;dsimp only at n0 n1 n2 n3 n4)<;>refine xL 31 Zb (xL 36 Zi (xL 37 Zi ?_))<;>refine Zw [(.int .i64 0),(.slice none 0 0),(.slice none 0 0),(.slice none 0 0),(.slice none 0 0)] 5 12 Ww fun h12=>?_<;>refine ZA 12 Yw ?_<;>refine xL 13 Za ?_<;>refine Zg ?_)
   (refine xL 38 Zb (xL 39 Yg ?_)<;>refine Zc ?_)
   refine cX ?_ ?_<;>intro hb39
   · first|exact bN hb39|(
 refine Ze ?_;(refine xL 40 (Re RL rfl) ?_<;>refine ZA 6 Yw ?_<;>refine xL 7 Za ?_<;>refine Zc ?_)
 exact Ys (k:=5) 6 kR (results121) rfl rfl rfl (Xa rfl) dC rfl rfl)
   · first
     |exact bN hb39
     |skip)
theorem ZkF {x:Option Aut} {e:Int} (h:lim x= .error e):e=13:=by
 cases x with
 |some a=>cases h
 |none=>cases h;rfl
theorem HI {a:Aut} {e:Int} (h:WH a= .error e):e=13:=by
 unfold WH at h
 split at h
 · exact ZkF h
 · cases h;rfl
theorem ZkG (a b:Aut) (op:Int) (hf:WW a b=0):AF prog 121 [ZO a,ZO b,pInt op] (· =Zmi a b op):=by
 obtain ⟨h1,h2,h3⟩:=HH hf
 have ha:=LZ a (GY h1)
 have hb:=LZ b (GY h2)
 unfold Zmi Ln
 cases ea:WH a with
 | error e=>
   obtain rfl:=HI ea;rw [ea] at ha
   cases eb:WH b with
   | error f=>
     obtain rfl:=HI eb;rw [eb] at hb;exact Zis a b op ha hb
   |ok B=>rw [eb] at hb;exact Zir a b op ha hb
 | ok A =>
   rw [ea] at ha
   cases eb:WH b with
   | error f=>
     obtain rfl:=HI eb;rw [eb] at hb;exact Ziq a b op ha hb
   | ok B=>
     rw [eb] at hb;obtain ⟨dA,sA⟩:=TH (GY h1) ea;obtain ⟨dB,sB⟩:=TH (GY h2) eb;have hp:=Zdd A B op dA dB (by rw [sA,sB,h3]);dsimp only
     cases eq:prodQ A B with
     | some q=>exact ZfU a b A B op q ha hb (hp.mono fun p hr=>by
        rcases hr with ⟨q',h4,h5⟩|⟨h4,_⟩
        · rw [eq] at h4;cases h4;exact h5
        · rw [eq] at h4;cases h4)
     | none=>exact Zit a b A B op ha hb (hp.mono fun p hr=>by
        rcases hr with ⟨q',h4,h5⟩|⟨_,u0,u1,u2,u3,u4,n0,n1,n2,n3,n4,h5⟩
        · rw [eq] at h4;cases h4
        · exact ⟨⟨(u0,u1,u2,u3,u4),n0,n1,n2,n3,n4⟩,h5⟩)
theorem ζF (a b:Aut) (op e:Int) (he:¬e=0) (hf:AF prog 120 [ZO a,ZO b] (· =pInt e)):AF prog 76 [ZO a,ZO b,pInt op] (· = .tup [ZM false,pInts [],pInt e]):=by
 refine AF.of_body 38 func76 rfl ntmps76 (Xa rfl) ?_
 intro w0 M0 vs hl hv
 obtain ⟨v0,v1,v2,rfl⟩:=Sg hl
 obtain rfl:=hv 2 _ _ rfl rfl
 clear hl hv
 refine Ze ?_
 (refine ZG 3 5 fun h3=>?_<;>refine ZG 4 5 fun h4=>?_<;>refine xL 6 Za (xL 7 Za (xL 8 Za ?_))<;>refine Zg ?_)
 ((refine yL 14 (Zs 3 Zm) fun v14 h=>?_;cases h)<;>(refine yL 15 (Zs 4 Zm) fun v15 h=>?_;cases h)<;>(refine cS 16 (cA call120 (hf)) fun v16 h=>?_;cases h)<;>refine xL 9 Za ?_<;>refine Zg ?_)
 (refine xL 17 Zb (xL 18 YH ?_)<;>refine Zc ?_)
 refine cX ?_ ?_<;>intro hb18
 · refine Ze ?_;(refine xL 19 Zb (xL 6 Za (xL 7 Za (xL 8 Za ?_)))<;>refine Zc ?_)
   refine YR (W1 (t:=7) rfl) fun _=>?_;exact OK (results76) rfl rfl rfl rfl
 · exact UU (by simpa using hb18) he
theorem ζG (a b:Aut) (op e:Int) (he:¬e=0) (hf:AF prog 120 [ZO a,ZO b] (· =pInt 0)) (hb:AF prog 121 [ZO a,ZO b,pInt op] (· = .tup [pPZ,pInt e])):AF prog 76 [ZO a,ZO b,pInt op] (· = .tup [ZM false,pInts [],pInt e]):=by
 refine AF.of_body 38 func76 rfl ntmps76 (Xa rfl) ?_
 intro w0 M0 vs hl hv
 obtain ⟨v0,v1,v2,rfl⟩:=Sg hl
 obtain rfl:=hv 2 _ _ rfl rfl
 clear hl hv
 refine Ze ?_
 (refine ZG 3 5 fun h3=>?_<;>refine ZG 4 5 fun h4=>?_<;>refine xL 6 Za (xL 7 Za (xL 8 Za ?_))<;>refine Zg ?_)
 ((refine yL 14 (Zs 3 Zm) fun v14 h=>?_;cases h)<;>(refine yL 15 (Zs 4 Zm) fun v15 h=>?_;cases h)<;>(refine cS 16 (cA call120 (hf)) fun v16 h=>?_;cases h)<;>refine xL 9 Za ?_<;>refine Zg ?_)
 (refine xL 17 Zb (xL 18 YH ?_)<;>refine Zc ?_)
 refine cX ?_ ?_<;>intro hb18
 · first|omega|exact UU rfl hb18|exact bN hb18
 · refine Ze ?_;((refine yL 21 (Zs 3 Zm) fun v21 h=>?_;cases h)<;>(refine yL 22 (Zs 4 Zm) fun v22 h=>?_;cases h)<;>refine xL 23 Zb ?_<;>(refine cP 24 (cA call121 (hb)) fun va24 vb24 hva24 h=>?_;cases h)<;>refine xL 20 Zb (xL 25 Zi (xL 26 Zi ?_))<;>refine Zw [(.int .i64 0),(.slice none 0 0),(.slice none 0 0),(.slice none 0 0),(.slice none 0 0)] 5 10 Ww fun h10=>?_<;>refine ZA 10 Yw ?_<;>refine xL 11 Za ?_<;>refine Zg ?_)
   (refine xL 27 Zb (xL 28 YH ?_)<;>refine Zc ?_)
   refine cX ?_ ?_<;>intro hb28
   · refine Ze ?_;(refine xL 29 Zb (xL 6 Za (xL 7 Za (xL 8 Za ?_)))<;>refine Zc ?_)
     refine YR (W1 (t:=7) rfl) fun _=>?_;exact OK (results76) rfl rfl rfl rfl
   · exact UU (by simpa using hb28) he
theorem ZbI (a b A B:Aut) (op:Int) (q:List PrS×List (List Nat)) (x:List Int) (t:Bool) (hf:AF prog 120 [ZO a,ZO b] (· =pInt 0)) (hb:AF prog 121 [ZO a,ZO b,pInt op] (· = .tup [TQ A B op q,pInt 0])) (hg:AF prog 122 [TQ A B op q] (· = .tup [pInts x,ZM t])):AF prog 76 [ZO a,ZO b,pInt op] (· = .tup [ZM (!t),pInts x,pInt 0]):=by
 refine AF.of_body 38 func76 rfl ntmps76 (Xa rfl) ?_
 intro w0 M0 vs hl hv
 obtain ⟨v0,v1,v2,rfl⟩:=Sg hl
 obtain rfl:=hv 2 _ _ rfl rfl
 clear hl hv
 refine Ze ?_
 (refine ZG 3 5 fun h3=>?_<;>refine ZG 4 5 fun h4=>?_<;>refine xL 6 Za (xL 7 Za (xL 8 Za ?_))<;>refine Zg ?_)
 ((refine yL 14 (Zs 3 Zm) fun v14 h=>?_;cases h)<;>(refine yL 15 (Zs 4 Zm) fun v15 h=>?_;cases h)<;>(refine cS 16 (cA call120 (hf)) fun v16 h=>?_;cases h)<;>refine xL 9 Za ?_<;>refine Zg ?_)
 (refine xL 17 Zb (xL 18 YH ?_)<;>refine Zc ?_)
 refine cX ?_ ?_<;>intro hb18
 · first|omega|exact UU rfl hb18|exact bN hb18
 · refine Ze ?_;((refine yL 21 (Zs 3 Zm) fun v21 h=>?_;cases h)<;>(refine yL 22 (Zs 4 Zm) fun v22 h=>?_;cases h)<;>refine xL 23 Zb ?_<;>(refine cP 24 (cA call121 (hb)) fun va24 vb24 hva24 h=>?_;cases h)<;>refine xL 20 Zb (xL 25 Zi (xL 26 Zi ?_))<;>refine Zw [(.int .i64 0),(.slice none 0 0),(.slice none 0 0),(.slice none 0 0),(.slice none 0 0)] 5 10 Ww fun h10=>?_<;>refine ZA 10 Yw ?_<;>refine xL 11 Za ?_<;>refine Zg ?_)
   (refine xL 27 Zb (xL 28 YH ?_)<;>refine Zc ?_)
   refine cX ?_ ?_<;>intro hb28
   · first|omega|exact UU rfl hb28|exact bN hb28
   · refine Ze ?_;((refine yL 31 (Zs 10 Yw) fun v31 h=>?_;cases h)<;>(refine cP 32 (cA call122 (hg)) fun va32 vb32 hva32 h=>?_;cases h)<;>refine xL 30 Zb (xL 33 Zi (xL 34 Zi (xL 12 Za (xL 13 Za ?_))))<;>refine Zg ?_)
     (refine xL 35 Zb (xL 36 Yg (xL 37 Zb (xL 6 Za (xL 7 Za (xL 8 Za ?_)))))<;>refine Zc ?_)
     exact OK (results76) rfl rfl rfl rfl
def Zm5 (x:Bool×List Int×Int):PV:= .tup [ZM x.1,pInts x.2.1,pInt x.2.2]
theorem Zde (a b:Aut) (op:Int):AF prog 76 [ZO a,ZO b,pInt op] (· =Zm5 (cmpX a b op)):=by
 have hf:=SQ a b
 unfold cmpX
 by_cases h0:WW a b=0
 · rw [US (fun h=>h h0)];have hb:=ZkG a b op h0;rw [h0] at hf;unfold Zmi at hb
   cases e:Ln a b with
   | error f=>
     rw [e] at hb;refine ζG a b op f (fun hf0=>?_) hf hb;unfold Ln at e;split at e
     · split at e<;>cases e;omega
     · cases e;omega
   | ok x =>
     obtain ⟨A,B,o,rows⟩:=x;rw [e] at hb;obtain ⟨h1,h2,h3⟩:=HH h0;unfold Ln at e;split at e
     · rename_i A' B' ea eb;split at e
       · rename_i q' eq
         cases e;obtain ⟨dA,sA⟩:=TH (GY h1) ea;obtain ⟨dB,sB⟩:=TH (GY h2) eb;have hok:=(Ru dA dB (by rw [sA,sB,h3]) eq).1;have hg:=Zip A B op o rows eq hok.zero hok.cap;have:=ZbI a b A B op (o,rows) _ _ hf hb hg;rw [Bool.not_not] at this;exact this
       · cases e
     · cases e
 · rw [UT h0];exact ζF a b op _ h0 hf
theorem H7 (a b:Aut) (t:Bool) (l:List Int) (e:Int) (h:AF prog 76 [ZO a,ZO b,pInt 4] (· = .tup [ZM t,pInts l,pInt e])):AF prog 52 [ZO a,ZO b] (· = .tup [ZM t,pInts l,pInt e]):=by
 refine AF.of_body 13 func52 rfl ntmps52 (Xa rfl) ?_
 intro w0 M0 vs hl hv
 obtain ⟨v0,v1,rfl⟩:=WO hl
 clear hl hv
 refine Ze ?_
 (refine ZG 2 5 fun h2=>?_<;>refine ZG 3 5 fun h3=>?_<;>refine xL 4 Za (xL 5 Za (xL 6 Za ?_))<;>refine Zg ?_)
 ((refine yL 7 (Zs 2 Zm) fun v7 h=>?_;cases h)<;>(refine yL 8 (Zs 3 Zm) fun v8 h=>?_;cases h)<;>(refine Zjx 9 (cA call76 h) fun va9 vb9 vc9 hva9 hvb9 hvc9=>?_;cases hva9;cases hvc9)<;>refine xL 10 Zi (xL 11 Zi (xL 12 Zi (xL 4 Za (xL 5 Za (xL 6 Za ?_)))))<;>refine Zc ?_)
 exact OK (results52) rfl rfl rfl rfl
theorem H8 (a b:Aut):AF prog 52 [ZO a,ZO b] (· =Zm5 (cmpX a b 4)):=H7 a b _ _ _ (Zde a b 4)
theorem RN (l:List Int):(l.map pInt).all En.one=true:=by rw [XB];intro p hp;obtain ⟨z,_,rfl⟩:=Xg.1 hp;rfl
theorem Sa (l:List Int):(l.map pInt).length=l.length*1:=by rw [Xd,Xw]
theorem RO (e:Nat) (l m:List Int):PV.own e 1 (l.length+m.length) (l.map pInt++m.map pInt)= .own e 1 (l++m).length ((l++m).map pInt):=by rw [Xr,Xb]
theorem Sb {a b:Aut} (h:WW a b=0):VOk a∧VOk b∧a.syms=b.syms:=by
 obtain ⟨h1,h2,h3⟩:=HH h
 exact ⟨WT h1,WT h2,h3⟩
theorem Zdf (a b:Aut) (e:Int) (he:¬e=0) (hf:AF prog 120 [ZO a,ZO b] (· =pInt e)):AF prog 88 [ZO a,ZO b] (· = .tup [Ll,pInt e]):=by
 refine AF.of_body 42 func88 rfl ntmps88 (Xa rfl) ?_
 intro w0 M0 vs hl hv
 obtain ⟨v0,v1,rfl⟩:=WO hl
 clear hl hv
 refine Ze ?_
 (refine ZG 2 5 fun h2=>?_<;>refine ZG 3 5 fun h3=>?_<;>refine Zw [(.int .i64 0),(.int .i64 0),(.slice none 0 0),(.slice none 0 0),(.slice none 0 0)] 5 4 ZI fun h4=>?_<;>refine xL 5 Za ?_<;>refine Zg ?_)
 ((refine yL 8 (Zs 2 Zm) fun v8 h=>?_;cases h)<;>(refine yL 9 (Zs 3 Zm) fun v9 h=>?_;cases h)<;>(refine cS 10 (cA call120 (hf)) fun v10 h=>?_;cases h)<;>refine xL 6 Za ?_<;>refine Zg ?_)
 (refine xL 11 Zb (xL 12 YH ?_)<;>refine Zc ?_)
 refine cX ?_ ?_<;>intro hb12
 · refine Ze ?_;(refine xL 13 (ZL ZS) (xL 14 Zb ?_)<;>refine ZA 4 Zm ?_<;>refine xL 5 Za ?_<;>refine Zc ?_)
   exact Ys (k:=5) 4 kR (results88) rfl rfl rfl (Xa rfl) dC rfl rfl
 · exact UU (by simpa using hb12) he
set_option maxHeartbeats 2000000 in
theorem Ziu (a b:Aut) (hf0:WW a b=0) {p0 p1 p2 p3 p4:PV} {E:Int} (r5:R5 p0 p1 p2 p3 p4) (hr:AF prog 132 [ZO (mkA (Jc a b))] (· = .tup [.agg [p0,p1,p2,p3,p4],pInt E])):AF prog 88 [ZO a,ZO b] (· = .tup [.agg [p0,p1,p2,p3,p4],pInt E]):=by
 obtain ⟨o0,o1,o2,o3,o4⟩:=r5.o
 obtain ⟨ha,hb,hs⟩:=Sb hf0
 have hf:=SQ a b
 rw [hf0] at hf
 have hn0:=ha.n0
 have hn1:=ha.n1
 have k1:=ha.sl
 have k2:=hb.sl
 have k3:=ha.fl
 have k4:=hb.fl
 have m1:=hb.n1
 have kml:=ζD ha.toAOk hb.toAOk
 have l1:=Gw a.n b.start
 have l2:=Gw a.n b.fin
 refine AF.of_body 42 func88 rfl ntmps88 (Xa rfl) ?_
 intro w0 M0 vs hl hv
 obtain ⟨v0,v1,rfl⟩:=WO hl
 clear hl hv
 refine Ze ?_
 (refine ZG 2 5 fun h2=>?_<;>refine ZG 3 5 fun h3=>?_<;>refine Zw [(.int .i64 0),(.int .i64 0),(.slice none 0 0),(.slice none 0 0),(.slice none 0 0)] 5 4 ZI fun h4=>?_<;>refine xL 5 Za ?_<;>refine Zg ?_)
 ((refine yL 8 (Zs 2 Zm) fun v8 h=>?_;cases h)<;>(refine yL 9 (Zs 3 Zm) fun v9 h=>?_;cases h)<;>(refine cS 10 (cA call120 (hf)) fun v10 h=>?_;cases h)<;>refine xL 6 Za ?_<;>refine Zg ?_)
 (refine xL 11 Zb (xL 12 YH ?_)<;>refine Zc ?_)
 refine cX ?_ ?_<;>intro hb12
 · first|omega|exact UU rfl hb12|exact bN hb12
 · refine Ze ?_;((refine yL 15 (Zs 2 Zm) fun v15 h=>?_;cases h)<;>(refine yL 16 (Zs 3 Zm) fun v16 h=>?_;cases h)<;>(refine WP [2,3,4] 17 (call134) (Cp a b ha.toAOk hb.toAOk _ _) ?_;rintro V17 _ _ ⟨hM,hMo,rfl,rfl⟩;have qM:En.one (PV.val hM)=true:=hMo)<;>refine Zw [(.int .i64 0),(.int .i64 0),(.slice none 0 0),(.slice none 0 0),(.slice none 0 0)] 5 7 ZI fun h7=>?_<;>refine ZA 7 Zm ?_<;>refine Zc ?_)
   (refine Z5 (fun i=>([]:List Nat).elem i) [2,3] kR ?_<;>refine xD 0 18 rfl (Zd 2 YA) ?_<;>(refine yD 1 19 rfl (Zk 2 ZB) fun v19 h=>?_;cases h)<;>refine xD 3 21 rfl (Zd 3 YA) ?_<;>(refine yD 4 22 rfl (Zk 3 ZB) fun v22 h=>?_;cases h)<;>refine xD 5 23 rfl (Zd 2 ZY) ?_<;>(refine yD 6 24 rfl (Zk 2 Zo) fun v24 h=>?_;cases h)<;>(refine Zq 2 kR ?_)<;>(refine Zj rfl fun w9 M9 N9 DQ back=>?_)<;>refine cO 20 (cA call135 (KV a.start oM)) fun v20 ho20=>?_<;>refine Zh (back _ (nrm ?_))<;>(refine Zq 7 kR ?_)<;>(refine Zj rfl fun w9 M9 N9 DQ back=>?_)<;>(refine cO 25 (cA call136 (GG b.start a.n oM oM (fun x hx=>by have:=hb.st x hx;omega))) fun v25 ho25=>?_;refine Zr (En.freeze (l:=25) (t:=25) rfl rfl) fun _=>?_;rw [ZX _ _ _ rfl])<;>refine Zh (back _ (nrm ?_))<;>(refine Zq 8 kR ?_)<;>(refine Zj rfl fun w9 M9 N9 DQ back=>?_)<;>(refine Sx 20 26 Zl (fun h26 ho26=>?_) (Sa (WI a.n b.start)) (RN (WI a.n b.start));have q26:En.one (PV.val h26)=true:=ho26)<;>refine Zh (back _ (nrm ?_))<;>refine xE 9 27 rfl (Zd 7 YA) ?_<;>(refine Zq 10 kR ?_)<;>(refine Zj rfl fun w9 M9 N9 DQ back=>?_)<;>refine YZ 7 ZB Kb ?_<;>refine Zh (back _ (nrm ?_))<;>refine YC kR (nav ?_)<;>try dsimp only)
   refine Zx (ZP (l:=26) rfl (RO _ a.start (WI a.n b.start))) fun _=>?_;refine Zx (Z0 (l:=7) (l':=26) (j:=2) rfl rfl rfl rfl) fun _=>?_;rw [ZX _ _ _ rfl];(refine Z5 (fun i=>([]:List Nat).elem i) [2,3] kR ?_<;>refine xD 0 28 rfl (Zd 2 Yq) ?_<;>(refine yD 1 29 rfl (Zk 2 ZB) fun v29 h=>?_;cases h)<;>refine xD 3 31 rfl (Zd 3 Yq) ?_<;>(refine yD 4 32 rfl (Zk 3 ZB) fun v32 h=>?_;cases h)<;>refine xD 5 33 rfl (Zd 2 ZY) ?_<;>(refine yD 6 34 rfl (Zk 2 Zo) fun v34 h=>?_;cases h)<;>(refine Zq 2 kR ?_)<;>(refine Zj rfl fun w9 M9 N9 DQ back=>?_)<;>refine cO 30 (cA call135 (KV a.fin oM)) fun v30 ho30=>?_<;>refine Zh (back _ (nrm ?_))<;>(refine Zq 7 kR ?_)<;>(refine Zj rfl fun w9 M9 N9 DQ back=>?_)<;>(refine cO 35 (cA call136 (GG b.fin a.n oM oM (fun x hx=>by have:=hb.fi x hx;omega))) fun v35 ho35=>?_;refine Zr (En.freeze (l:=35) (t:=35) rfl rfl) fun _=>?_;rw [ZX _ _ _ rfl])<;>refine Zh (back _ (nrm ?_))<;>(refine Zq 8 kR ?_)<;>(refine Zj rfl fun w9 M9 N9 DQ back=>?_)<;>(refine Sx 30 36 Zl (fun h36 ho36=>?_) (Sa (WI a.n b.fin)) (RN (WI a.n b.fin));have q36:En.one (PV.val h36)=true:=ho36)<;>refine Zh (back _ (nrm ?_))<;>refine xE 9 37 rfl (Zd 7 Yq) ?_<;>(refine Zq 10 kR ?_)<;>(refine Zj rfl fun w9 M9 N9 DQ back=>?_)<;>refine YZ 7 ZB Kb ?_<;>refine Zh (back _ (nrm ?_))<;>refine YC kR (nav ?_)<;>try dsimp only)
   refine Zx (ZP (l:=36) rfl (RO _ a.fin (WI a.n b.fin))) fun _=>?_;refine Zx (Z0 (l:=7) (l':=36) (j:=3) rfl rfl rfl rfl) fun _=>?_;rw [ZX _ _ _ rfl];(refine Zt ?_<;>(refine yL 38 (Zs (k:=5) (ps:=[pInt (a.n+b.n),pInt a.syms,pInts (a.start++WI a.n b.start),pInts (a.fin++WI a.n b.fin),PV.val hM]) 7 kR) fun v38 h=>?_;cases h)<;>(refine Wy [(1000,hM,PV.own 93 3 (Jc a b).moves.length ((Jc a b).moves.flatMap cMv)),(2,_,_),(3,_,_),(4,_,_),(7,_,_)] ⟨rfl,rfl,rfl,rfl,rfl,trivial⟩ ?_;refine WP [2,3,4,7] 39 (call137) (ζr (Jc a b) (by show (bsM a b).length≤1000000;omega) (D' ha hb) _ hM hMo r5 hr) ?_;rintro _ _ _ ⟨⟨V1,rfl⟩,rfl,rfl⟩)<;>refine xL 40 Zi (xL 41 Zi ?_)<;>refine ZA 4 Zm ?_<;>refine xL 5 Za ?_<;>refine Zc ?_)
   exact Ys (k:=5) 4 kR (results88) rfl rfl rfl (Xa rfl) dC r5.s rfl
theorem Ziv (a b:Aut):AF prog 88 [ZO a,ZO b] (· =resW (LY a b)):=by
 unfold LY
 by_cases h0:WW a b=0
 · rw [US (fun h=>h h0)];obtain ⟨ha,hb,hs⟩:=Sb h0;obtain ⟨p0,p1,p2,p3,p4,E,h5,h2,hr⟩:=L0 (Jc a b) (by have:=ζD ha.toAOk hb.toAOk;show (bsM a b).length≤1000000;omega) (Pk ha hb hs);rw [h2];exact Ziu a b h0 h5 hr
 · rw [UT h0];exact Zdf a b _ h0 (SQ a b)
def ctM (a b:Aut) (i:Nat):List Mv:=bsM a b++TI a.n (a.fin.take i) b.start
theorem ZbJ (a b:Aut):ctM a b 0=bsM a b:=by show bsM a b++[]=bsM a b;rw [Xy]
theorem Ziw {a b:Aut} {i:Nat} {f:Int} (h:a.fin[i]? =some f):ctM a b (i+1)=ctM a b i++G0 a.n f b.start:=by unfold ctM;rw [Zfh a.n b.start h,Xz]
theorem ZkH (a b:Aut) {i:Nat} (h:a.fin.length≤i):ctM a b i=(Kz a b).moves:=by unfold ctM;rw [Xo h];rfl
theorem ZkI {a b:Aut} {i j:Nat} (f:Int) (hi:i<a.fin.length) (hj:j≤b.start.length):(ctM a b i++G0 a.n f (b.start.take j)).length≤(Kz a b).moves.length:=by
 rw [ζs]
 unfold ctM bsM
 rw [Xb,Xb,Xb,Rw,D8,Xx]
 unfold G0
 rw [Xd,Xx]
 have h1:(i+1)*b.start.length≤a.fin.length*b.start.length:=Vw _ hi
 rw [X5] at h1
 rw [Va (Nat.le_of_lt hi),Va hj]
 omega
theorem ZbK (a b:Aut) (e:Int) (he:¬e=0) (hf:AF prog 120 [ZO a,ZO b] (· =pInt e)):AF prog 87 [ZO a,ZO b] (· = .tup [Ll,pInt e]):=by
 refine AF.of_body 68 func87 rfl ntmps87 (Xa rfl) ?_
 intro w0 M0 vs hl hv
 obtain ⟨v0,v1,rfl⟩:=WO hl
 clear hl hv
 refine Ze ?_
 (refine ZG 2 5 fun h2=>?_<;>refine ZG 3 5 fun h3=>?_<;>refine Zw [(.int .i64 0),(.int .i64 0),(.slice none 0 0),(.slice none 0 0),(.slice none 0 0)] 5 4 ZI fun h4=>?_<;>refine xL 5 Za ?_<;>refine Zg ?_)
 ((refine yL 12 (Zs 2 Zm) fun v12 h=>?_;cases h)<;>(refine yL 13 (Zs 3 Zm) fun v13 h=>?_;cases h)<;>(refine cS 14 (cA call120 (hf)) fun v14 h=>?_;cases h)<;>refine xL 6 Za ?_<;>refine Zg ?_)
 (refine xL 15 Zb (xL 16 YH ?_)<;>refine Zc ?_)
 refine cX ?_ ?_<;>intro hb16
 · refine Ze ?_;(refine xL 17 (ZL ZS) (xL 18 Zb ?_)<;>refine ZA 4 Zm ?_<;>refine xL 5 Za ?_<;>refine Zc ?_)
   exact Ys (k:=5) 4 kR (results87) rfl rfl rfl (Xa rfl) dC rfl rfl
 · exact UU (by simpa using hb16) he
set_option maxHeartbeats 2000000 in
theorem Cs (a b:Aut) (hf0:WW a b=0) {p0 p1 p2 p3 p4:PV} {E:Int} (r5:R5 p0 p1 p2 p3 p4) (hr:(Kz a b).moves.length≤40001→AF prog 132 [ZO (mkA (Kz a b))] (· = .tup [.agg [p0,p1,p2,p3,p4],pInt E])):AF prog 87 [ZO a,ZO b] (fun p=>((Kz a b).moves.length≤40001∧p= .tup [.agg [p0,p1,p2,p3,p4],pInt E])∨(20000<(Kz a b).moves.length∧p= .tup [Ll,pInt 13])):=by
 obtain ⟨o0,o1,o2,o3,o4⟩:=r5.o
 obtain ⟨ha,hb,hs⟩:=Sb hf0
 have hf:=SQ a b
 rw [hf0] at hf
 have hn0:=ha.n0
 have hn1:=ha.n1
 have k1:=ha.sl
 have k2:=hb.sl
 have k3:=ha.fl
 have k4:=hb.fl
 have m1:=hb.n1
 have kml:=ζD ha.toAOk hb.toAOk
 have l2:=Gw a.n b.fin
 refine AF.of_body 68 func87 rfl ntmps87 (Xa rfl) ?_
 intro w0 M0 vs hl hv
 obtain ⟨v0,v1,rfl⟩:=WO hl
 clear hl hv
 refine Ze ?_
 (refine ZG 2 5 fun h2=>?_<;>refine ZG 3 5 fun h3=>?_<;>refine Zw [(.int .i64 0),(.int .i64 0),(.slice none 0 0),(.slice none 0 0),(.slice none 0 0)] 5 4 ZI fun h4=>?_<;>refine xL 5 Za ?_<;>refine Zg ?_)
 ((refine yL 12 (Zs 2 Zm) fun v12 h=>?_;cases h)<;>(refine yL 13 (Zs 3 Zm) fun v13 h=>?_;cases h)<;>(refine cS 14 (cA call120 (hf)) fun v14 h=>?_;cases h)<;>refine xL 6 Za ?_<;>refine Zg ?_)
 (refine xL 15 Zb (xL 16 YH ?_)<;>refine Zc ?_)
 refine cX ?_ ?_<;>intro hb16
 · first|omega|exact UU rfl hb16|exact bN hb16
 · refine Ze ?_;((refine yL 19 (Zs 2 Zm) fun v19 h=>?_;cases h)<;>(refine yL 20 (Zs 3 Zm) fun v20 h=>?_;cases h)<;>(refine WP [2,3,4] 21 (call134) (Cp a b ha.toAOk hb.toAOk _ _) ?_;rintro V21 _ _ ⟨hM0,hM0o,rfl,rfl⟩;have qM:En.one (PV.val hM0)=true:=hM0o)<;>refine Zw [(.int .i64 0),(.int .i64 0),(.slice none 0 0),(.slice none 0 0),(.slice none 0 0)] 5 7 ZI fun h7=>?_<;>refine ZA 7 Zm ?_<;>refine Zc ?_)
   (refine Z5 (fun i=>([9,10,11]:List Nat).elem i) [2,3,7] kR ?_<;>refine xDT 0 22 rfl (Zd 2 YA) ?_<;>(refine yDT 1 23 rfl (Zk 2 ZB) fun v23 h=>?_;cases h)<;>refine xDT 3 25 rfl (Zd 3 Yq) ?_<;>(refine yDT 4 26 rfl (Zk 3 ZB) fun v26 h=>?_;cases h)<;>refine xDT 5 27 rfl (Zd 2 ZY) ?_<;>(refine yDT 6 28 rfl (Zk 2 Zo) fun v28 h=>?_;cases h)<;>(refine Zq 2 kR ?_)<;>(refine Zj rfl fun w9 M9 N9 DQ back=>?_)<;>(refine cO 24 (cA call135 (KV a.start oM)) fun v24 ho24=>?_;refine Zr (En.freeze (l:=24) (t:=24) rfl rfl) fun _=>?_;rw [ZX _ _ _ rfl])<;>refine Zh (back _ (nrm ?_))<;>refine xDT 8 30 rfl (Zd 7 YA) ?_<;>(refine Zq 7 kR ?_)<;>(refine Zj rfl fun w9 M9 N9 DQ back=>?_)<;>(refine cO 29 (cA call136 (GG b.fin a.n oM oM (fun x hx=>by have:=hb.fi x hx;omega))) fun v29 ho29=>?_;refine Zr (En.freeze (l:=29) (t:=29) rfl rfl) fun _=>?_;rw [ZX _ _ _ rfl])<;>refine Zh (back _ (nrm ?_))<;>(refine Zq 9 kR ?_)<;>(refine Rc rfl rfl fun DQ back=>?_)<;>refine YZ 7 ZB Kb ?_<;>refine Zh (back _ ?_)<;>(refine J1 10 kR rfl rfl fun DQ back=>?_)<;>refine xL 31 (Zd 7 Yq) ?_<;>refine Zh (back _ ?_)<;>(refine J1 11 kR rfl rfl fun DQ back=>?_)<;>refine YZ 7 ZB Kb ?_<;>refine Zh (back _ ?_)<;>refine OJ kR (nav ?_)<;>try dsimp only)
   refine Zx (ZP (l:=1000) (p':= .own 93 3 (ctM a b 0).length ((ctM a b 0).flatMap cMv)) rfl (by rw [ZbJ])) fun _=>?_;(refine Zt ?_<;>refine xL 32 (Zd 2 Yq) ?_<;>(refine yL 33 (Zk 2 ZB) fun v33 h=>?_;cases h)<;>refine xL 34 (ZR Zu) (xL 35 Zb ?_)<;>refine Zc ?_)
   refine ZD (ι:={q:Nat×Value//q.1≤a.fin.length∧q.2.oneCell'=true∧(ctM a b q.1).length≤40001}) (fun k=>⟨[(2,_,_),(3,_,_),(4,_,_),(7,_,_),(33,_,_),(34,_,_),(35, .int .i64 k.1.1,pInt k.1.1)],[(2,_,_),(3,_,_),(4,_,_),(7,h7, .own 39 5 1 [pInt (a.n+b.n),pInt a.syms,pInts a.start,pInts (WI a.n b.fin), .val k.1.2]),(1000,k.1.2, .own 93 3 (ctM a b k.1.1).length ((ctM a b k.1.1).flatMap cMv))]⟩) (fun k=>a.fin.length-k.1.1) ⟨(0,hM0),Xf _,hM0o,by show (ctM a b 0).length≤40001;rw [ZbJ];omega⟩ (fun a w H=>H.weaken ⟨rfl,rfl,rfl,rfl,rfl,rfl,rfl,trivial⟩ ⟨rfl,rfl,rfl,rfl,rfl,trivial⟩) ?_;rintro ⟨⟨i,hI⟩,hi,hIo,hIl⟩;dsimp only;dsimp only at hi hIo hIl;have q5:En.one (PV.val hI)=true:=hIo;refine Ze ?_;(refine xL 36 ZQ ?_<;>refine Zc ?_)
   refine cX ?_ ?_<;>intro hb36
   · first | exact bN hb36|(
 obtain ⟨f,hf⟩:=Zp (show i<a.fin.length by omega);have e1:=Ym (f:=pInt) hf;have hfin:=ha.fi f (Xc hf);refine Ze ?_;(refine xL 37 (ZF Zu) ?_<;>(refine yL 38 (Yo Zo) fun v38 h=>?_;cases h)<;>refine xL 9 Za ?_<;>refine Zg ?_)
 (refine xL 39 (Zd 3 YA) ?_<;>(refine yL 40 (Zk 3 ZB) fun v40 h=>?_;cases h)<;>refine xL 41 (ZR Zu) (xL 42 Zb ?_)<;>refine Zc ?_)
 refine Zx (ZP (l:=1000) (p':= .own 93 3 (ctM a b i++G0 a.n f (b.start.take 0)).length ((ctM a b i++G0 a.n f (b.start.take 0)).flatMap cMv)) rfl (by rw [show G0 a.n f (b.start.take 0)=[] from rfl,Xy])) fun _=>?_;refine ZD (ι:={q:Nat×Value//q.1≤b.start.length∧q.2.oneCell'=true∧(ctM a b i++G0 a.n f (b.start.take q.1)).length≤40001}) (fun k=>⟨[(2,_,_),(3,_,_),(4,_,_),(7,_,_),(9,_,_),(33,_,_),(34,_,_),(35,_,_),(40,_,_),(41,_,_),(42, .int .i64 k.1.1,pInt k.1.1)],[(2,_,_),(3,_,_),(4,_,_),(7,h7, .own 39 5 1 [pInt (a.n+b.n),pInt a.syms,pInts a.start,pInts (WI a.n b.fin), .val k.1.2]),(1000,k.1.2, .own 93 3 (ctM a b i++G0 a.n f (b.start.take k.1.1)).length ((ctM a b i++G0 a.n f (b.start.take k.1.1)).flatMap cMv))]⟩) (fun k=>b.start.length-k.1.1) ⟨(0,hI),Xf _,hIo,by show (ctM a b i++[]).length≤40001;rw [Xy];exact hIl⟩ (fun a w H=>H.weaken ⟨rfl,rfl,rfl,rfl,rfl,rfl,rfl,rfl,rfl,rfl,rfl,trivial⟩ ⟨rfl,rfl,rfl,rfl,rfl,trivial⟩) ?_;rintro ⟨⟨j,hJ⟩,hj,hJo,hJl⟩;dsimp only;dsimp only at hj hJo hJl;have q6:En.one (PV.val hJ)=true:=hJo;refine Ze ?_;(refine xL 43 ZQ ?_<;>refine Zc ?_)
 refine cX ?_ ?_<;>intro hb43
 · first |exact bN hb43|(
 obtain ⟨s,hs⟩:=Zp (show j<b.start.length by omega);have e2:=Ym (f:=pInt) hs;have hsin:=hb.st s (Xc hs);have hpart:=ZkI f (by omega:i<a.fin.length) hj;refine Ze ?_;(refine xL 44 (ZF Zu) ?_<;>(refine yL 45 (Yo Zo) fun v45 h=>?_;cases h)<;>refine xL 11 Za ?_<;>refine Zg ?_)
 (refine xL 46 (Zd 7 ZC) ?_<;>(refine yL 47 (Zk 7 ZK) fun v47 h=>?_;cases h)<;>refine xL 48 (YN 1000 ZN) (xL 49 YP ?_)<;>refine Zc ?_)
 refine cX ?_ ?_<;>intro hb49
 · first|exact bN hb49|(
 refine Ze ?_;(refine xL 50 (ZL ZS) ?_<;>refine ZA 4 Zm ?_<;>refine xL 5 Za ?_<;>refine Zc ?_)
 exact Ys (k:=5) 4 kR (results87) rfl rfl rfl (Xa rfl) dC rfl (.inr ⟨oM,rfl⟩))
 · first|exact bN hb49|(
 refine Ze ?_;(refine xL 51 (Zd 7 ZC) ?_<;>(refine yL 52 (Zk 7 ZK) fun v52 h=>?_;cases h)<;>refine xL 53 Zb (xL 54 Zb (xL 55 (Zd 2 ZY) ?_))<;>(refine yL 56 (Zk 2 Zo) fun v56 h=>?_;cases h)<;>refine xL 57 ZH (xL 58 (ZL Kc) ?_)<;>refine YM 59 Yd fun h59 ho59=>?_<;>(refine ZU 1000 59 60 Yd fun h60 ho60=>?_;refine Zr (Zy (l:=60) 1000 rfl rfl) fun _=>?_;refine Zr (ZP (l:=1000) rfl ((Kg _ (ctM a b i++G0 a.n f (b.start.take j)) ⟨f,s+a.n,-1⟩).trans (by rw [Xz,←ET a.n f hs]))) fun _=>?_;have q60:En.one (PV.val h60)=true:=ho60)<;>refine xL 61 (Zd 7 ZC) ?_<;>refine YZ 7 ZK Wp ?_<;>refine Zg ?_)
 (refine xL 62 ZH (xL 42 Zb ?_)<;>refine Zc ?_)
 (have hl3:(ctM a b i++G0 a.n f (b.start.take (j+1))).length≤40001:=by rw [ET a.n f hs,←Xz,Xb,Xs];omega);refine Zn (
  ⟨(j+1,h60),Zf hs,ho60,hl3⟩
  ) (by dsimp only;omega) ⟨rfl,rfl,rfl,rfl,rfl,rfl,rfl,rfl,rfl,rfl,rfl,trivial⟩ ⟨rfl,rfl,rfl,rfl,rfl,trivial⟩))
 · first|exact bN hb43|(
 (have hctS:ctM a b i++G0 a.n f (b.start.take j)=ctM a b (i+1):=by rw [Xo (show b.start.length≤j by omega),Ziw hf]);rw [hctS] at hJl;refine Zx (ZP (l:=1000) (p':= .own 93 3 (ctM a b (i+1)).length ((ctM a b (i+1)).flatMap cMv)) rfl (by rw [hctS])) fun _=>?_;refine Ze ?_;(refine xL 63 ZH (xL 35 Zb ?_)<;>refine Zc ?_)
 refine Zn (
  ⟨(i+1,hJ),Zf hf,hJo,hJl⟩
  ) (by dsimp only;omega) ⟨rfl,rfl,rfl,rfl,rfl,rfl,rfl,trivial⟩ ⟨rfl,rfl,rfl,rfl,rfl,trivial⟩))
   · first|exact bN hb36|(
 have hctA:=ZkH a b (show a.fin.length≤i by omega);rw [hctA] at hIl;have hr:=hr hIl;refine Zx (ZP (l:=1000) (p':= .own 93 3 (Kz a b).moves.length ((Kz a b).moves.flatMap cMv)) rfl (by rw [hctA])) fun _=>?_;refine Ze ?_;((refine yL 64 (Zs (k:=5) (ps:=[pInt (a.n+b.n),pInt a.syms,pInts a.start,pInts (WI a.n b.fin),PV.val hI]) 7 kR) fun v64 h=>?_;cases h)<;>(refine Wy [(1000,hI,PV.own 93 3 (Kz a b).moves.length ((Kz a b).moves.flatMap cMv)),(2,_,_),(3,_,_),(4,_,_),(7,_,_)] ⟨rfl,rfl,rfl,rfl,rfl,trivial⟩ ?_;refine WP [2,3,4,7] 65 (call137) (ζr (Kz a b) oM (EW ha hb) _ hI hIo r5 hr) ?_;rintro _ _ _ ⟨⟨V1,rfl⟩,rfl,rfl⟩)<;>refine xL 66 Zi (xL 67 Zi ?_)<;>refine ZA 4 Zm ?_<;>refine xL 5 Za ?_<;>refine Zc ?_)
 exact Ys (k:=5) 4 kR (results87) rfl rfl rfl (Xa rfl) dC r5.s (.inl ⟨hIl,rfl⟩))
theorem PE (a b:Aut):AF prog 87 [ZO a,ZO b] (· =resW (TJ a b)):=by
 unfold TJ
 by_cases h0:WW a b=0
 · rw [US (fun h=>h h0)];obtain ⟨ha,hb,hs⟩:=Sb h0;have h13:20000<(Kz a b).moves.length→Jh (Kz a b)= .error 13:=fun h=>by
    rw [ZhK ha hb hs,Zft ha hb (.inr (by rw [←ζs];exact h))]
   rcases XF 40001 (Kz a b).moves.length with hl|hl
   · refine (Cs a b h0 R5.raw (E:=13) fun h=>oM).mono fun p hp=>?_;rw [h13 oM];rcases hp with ⟨h,_⟩|⟨_,h⟩
     · omega
     · exact h
   · obtain ⟨p0,p1,p2,p3,p4,E,h5,h2,hr⟩:=L0 (Kz a b) oM (OU ha hb hs);refine (Cs a b h0 h5 fun _=>hr).mono fun p hp=>?_;rcases hp with ⟨_,h⟩|⟨hl2,h⟩
     · rw [h2];exact h
     · rw [h13 hl2];exact h
 · rw [UT h0];exact ZbK a b _ h0 (SQ a b)
theorem Zix (L:List Mv) (k:Nat) (x:Mv) (h:k<L.length):Tn (L.flatMap cMv) (k*3) (cMv x)=(L.set k x).flatMap cMv:=by
 have e:L=L.take k++[L[k]]++L.drop (k+1):=by
  rw [Xz,List.singleton_append,List.getElem_cons_drop,Vy]
 have e2:L.set k x=L.take k++[x]++L.drop (k+1):=by
  rw [List.set_eq_take_append_cons_drop,UT h,Xz];rfl
 rw [e2]
 conv=>lhs;rw [e]
 simp only [XR,V3]
 exact C1 (α:=Int) (cMv x) _ _ _ _ (by rw [flat_len Z8,Xx,Va (Nat.le_of_lt h)]) rfl
theorem Zlr {x y:Mv} (h:¬JV x y<0):y=x∨Jo y x=true:=by
 rw [GB] at h
 cases h2:Jo y x with
 |true=>exact .inr rfl
 |false=>exact .inl (DW h2 (by simpa using h))
theorem Zmj {l:List Mv} (h:1≤l.length):mkM (l.take 1)=l.take 1:=by
 cases l with
 |nil=>simp at h
 |cons x l=>rfl
theorem Zd7 {l:List Mv} {p:Nat} {x y:Mv} (hy:l[p]? =some y) (hx:l[p+1]? =some x) (he:eqM x y=true):mkM (l.take (p+1+1))=mkM (l.take (p+1)):=by
 have e:=GN.1 he
 subst e
 refine DX (J6 _) (J6 _) fun z=>?_
 rw [KM,KM,ZE hx,Xh,Xl]
 exact ⟨fun h=>h.elim id fun h=>by subst h;rw [ZE hy];exact Ve _ (Xl.2 rfl), .inl⟩
theorem Ziy {l:List Mv} (hs:Hi l) {p:Nat} {x y:Mv} (hy:l[p]? =some y) (hx:l[p+1]? =some x) (he:eqM x y=false):mkM (l.take (p+1+1))=mkM (l.take (p+1))++[x]:=by
 have hyx:Jo y x=true:=by
  rcases Zlr (hs p (p+1) y x oM hy hx) with h|h
  · subst h;rw [GN.2 rfl] at he;cases he
  · exact h
 refine (ZcO ?_ fun z=>?_).symm
 · refine Uq.2 ⟨J6 _,VI ..,fun z hz w hw=>?_⟩;rw [Xl.1 hw];rw [KM] at hz;obtain ⟨i,hi⟩:=X4 hz;have hi':=Zf hi;rw [Xx] at hi';rw [X1 oM] at hi;by_cases e:i=p
   · subst e;rw [hi] at hy;cases hy;exact hyx
   · rcases Zlr (hs i p z y oM hi hy) with h|h
     · subst h;exact hyx
     · exact Rs h hyx
 · rw [Xh,KM,Xl,ZE hx,Xh,Xl]
theorem ZkJ {hv:Value} (h:hv.oneCell'=true) (i j k:Nat):(slc hv i j k).oneCell'=true:=by
 unfold slc;split
 · rfl
 · exact h
set_option maxHeartbeats 2000000 in
theorem ZbL (l : List Mv) (hl:l.length≤1000000) (hs:Hi l) (hv:Value) (hvo:hv.oneCell'=true):AFh False prog 189 [(0,hv, .val hv)] [(1000,hv, .own 93 3 l.length (l.flatMap cMv))] (fun v q h=>v.oneCell'=true∧q= .val v∧h=[(1000,v, .own 93 3 (mkM l).length ((mkM l).flatMap cMv))]):=by
 refine AFh.of_body 61 func189 rfl ntmps189 (Xa rfl) rfl ?_
 intro w0 M0 N0
 refine Ze ?_
 (refine xL 2 Za ?_<;>refine Zg ?_)
 (refine xL 6 Zb (xL 7 (YN 1000 ZN) (xL 8 ZQ ?_))<;>refine Zc ?_)
 refine cX ?_ ?_<;>intro hb8
 · first|exact bN hb8|(
 refine Ze ?_;(refine xL 9 Zb (xL 2 Za ?_)<;>refine Zc ?_)
 refine Dg [(1000,hv,PV.own 93 3 l.length (l.flatMap cMv))] (results189) rfl ⟨rfl,trivial⟩ ⟨hvo,rfl,?_⟩;have hm:mkM l=l:=by
  match l,hl,hb8 with
  |[],_,_=>rfl
  |[_],_,_=>rfl
  |_::_::_,_,h=>simp at h;omega
 rw [hm])
 · first | exact bN hb8|(
 refine Ze ?_;(refine xL 3 Za ?_<;>refine Zc ?_)
 refine ZD (ι:={k:Nat//1≤k∧k≤l.length∧mkM (l.take k)=l.take k}) (fun k=>⟨[(0,_,_),(3, .int .i64 k.1,pInt k.1)],[(1000,_,_)]⟩) (fun k=>l.length-k.1) ⟨1,Xj _,oM,Zmj oM⟩ (fun a w H=>H.weaken ⟨rfl,rfl,trivial⟩ ⟨rfl,trivial⟩) ?_;rintro ⟨k1,hk1,hk,hmk⟩;dsimp only;obtain ⟨k,rfl⟩:∃k,k1=k+1:=⟨k1-1,oM⟩;refine Ze ?_;(refine xL 10 Zb (xL 11 Zb (xL 12 (YN 1000 ZN) (xL 13 ZQ ?_)))<;>refine Zc ?_)
 refine cX ?_ ?_<;>intro hb13
 · first | exact bN hb13|(
 obtain ⟨x,hx⟩:=Zp (show k+1<l.length by omega);obtain ⟨y,hy⟩:=Zp (show k<l.length by omega);have e1:=Yc Z8 l (k+1) x hx;have e2:=Yz Z8 hx;(have e3:((l.flatMap cMv).drop ((((k+1:Nat):Int)-1).toNat*3)).take 3=cMv y:=by rw [show (((k+1:Nat):Int)-1).toNat*3=k*3 by omega];exact Yc Z8 l k y hy);have e4:=Yz Z8 hy;have hlt:k+1<l.length:=Zf hx;refine nav ?_;(refine Z5 (fun i=>([]:List Nat).elem i) [1000] kR ?_<;>refine xD 0 16 rfl Zb ?_<;>refine xD 1 17 rfl Zb ?_<;>refine xD 2 18 rfl (YL 1000 ZN) ?_<;>(refine yD 3 19 rfl (Zs 1000 Z1) fun v19 h=>?_;cases h)<;>refine xD 4 20 rfl Zb ?_<;>refine xE 5 21 rfl Zb ?_<;>refine xE 6 22 rfl Tp ?_<;>refine xE 7 23 rfl (K7 1000 ZN) ?_<;>(refine yE 8 24 rfl (Zs 1000 Z1) fun v24 h=>?_;cases h)<;>refine xE 9 25 rfl ((Zlh (us:=vMv x) (us':=vMv y) Zl7 Zl8 Zl9 (Pn x y) rfl rfl)) ?_<;>refine YC kR (nav ?_)<;>try dsimp only)
 refine cX ?_ ?_<;>intro hb25
 · first | exact bN hb25|(
 have hsm:=Zd7 hy hx (by simpa using hb25);(have hl1:(mkM (l.take (k+1+1))).length=k+1:=by rw [hsm,hmk,Xx];omega);refine Ze ?_;(refine xL 26 Zb (xL 27 Zb ?_)<;>refine xL 28 (G3 (i:=k+1) (j:=l.length) 1000 ZN rfl rfl rfl rfl rfl (Nat.le_of_lt hlt) (Xj _)) ?_<;>refine xL 4 Za ?_<;>refine Zg ?_)
 (refine xL 5 Za ?_<;>refine Zc ?_)
 refine ZD (ι:={q:Nat×Nat×List Mv//1≤q.1∧k+1+q.1≤l.length∧q.2.1=(mkM (l.take (k+1+q.1))).length∧q.2.2.length=l.length∧q.2.2.take q.2.1=mkM (l.take (k+1+q.1))∧q.2.1≤k+q.1∧∀i,k+q.1≤i→q.2.2[i]? =l[i]? }) (fun k=>⟨[(0,_,_),(4,_,_),(3, .int .i64 k.1.2.1,pInt k.1.2.1),(5, .int .i64 k.1.1,pInt k.1.1)],[(1000,hv, .own 93 3 l.length (k.1.2.2.flatMap cMv))]⟩) (fun k=>l.length-k.1.1) ⟨(1,k+1,l),Xj _,by dsimp only;omega,hl1.symm,rfl,by dsimp only;rw [hsm,hmk],Xj _,fun i _=>rfl⟩ (fun a w H=>H.weaken ⟨rfl,rfl,rfl,rfl,trivial⟩ ⟨rfl,trivial⟩) ?_;rintro ⟨⟨j,K,L⟩,hj1,hj,hK,hLl,hLt,hKj,hLr⟩;dsimp only;dsimp only at hj1 hj hK hLl hLt hKj hLr;obtain ⟨j',rfl⟩:∃j',j=j'+1:=⟨j-1,oM⟩;have hK2:(K:Int)≤1000000:=oM;rw [show k+1+(j'+1)=k+1+j'+1 from rfl] at hK hLt;refine Ze ?_;(refine xL 29 Zb (xL 30 Zb ?_)<;>refine xL 31 ((ZeR (a:=k+1) (m:=l.length-(k+1)) 1000 ZN rfl rfl rfl rfl)) ?_<;>refine xL 32 ZQ ?_<;>refine Zc ?_)
 refine cX ?_ ?_<;>intro hb32
 · first | exact bN hb32|(
 obtain ⟨u,hu⟩:=Zp (show k+1+(j'+1)<l.length by omega);obtain ⟨v,hv2⟩:=Zp (show k+1+j'<l.length by omega);(have hu':L[k+1+(j'+1)]? =some u:=by rw [hLr _ oM];exact hu);(have hv':L[k+1+j']? =some v:=by rw [hLr _ oM];exact hv2);have g1:=Yc Z8 L _ u hu';have g2:=Yz Z8 hu';have g3:=Yc Z8 L _ v hv';have g4:=Yz Z8 hv';have g5:K<L.length:=oM;(have g6:K*3+3≤(L.flatMap cMv).length:=by rw [flat_len Z8];omega);refine nav ?_;(refine Z5 (fun i=>([]:List Nat).elem i) [1000] kR ?_<;>refine xD 0 35 rfl Zb ?_<;>refine xD 1 36 rfl Zb ?_<;>refine xD 2 37 rfl ((R4 (a:=k+1) (m:=(k+1+(j'+1))*3) 1000 ZN rfl rfl rfl rfl oM oM oM)) ?_<;>(refine yD 3 38 rfl (Zs 1000 Z1) fun v38 h=>?_;cases h)<;>refine xD 4 39 rfl Zb ?_<;>refine xE 5 40 rfl Zb ?_<;>refine xE 6 41 rfl Tp ?_<;>refine xE 7 42 rfl ((R4 (a:=k+1) (m:=(k+1+j')*3) 1000 ZN rfl rfl rfl rfl oM oM oM)) ?_<;>(refine yE 8 43 rfl (Zs 1000 Z1) fun v43 h=>?_;cases h)<;>refine xE 9 44 rfl ((ZmQ (us:=vMv u) (us':=vMv v) Zl7 Zl8 Zl9 (Pn u v) rfl rfl)) ?_<;>refine YC kR (nav ?_)<;>try dsimp only)
 refine cX ?_ ?_<;>intro hb44
 · first |exact bN hb44|(
 have hnw2:=Ziy hs hv2 hu (by simpa using hb44);have hset:=Zix L K u g5;(have hlen2:K+1=(mkM (l.take (k+1+j'+1+1))).length:=by rw [hnw2,Xb,Xs,hK]);have htk2:(L.set K u).take (K+1)=mkM (l.take (k+1+j'+1+1)):=by
  rw [hnw2,←hLt,List.take_set,ZE (XX g5),List.set_append_right _ _ (by rw [Xx];omega),Xx,Va oM,VE];rfl
 refine Ze ?_;(refine xL 45 Zb (xL 46 Zb (xL 47 Zb (xL 48 Zb ?_)))<;>refine xL 49 ((R4 (a:=k+1) (m:=(k+1+(j'+1))*3) 1000 ZN rfl rfl rfl rfl oM oM oM)) ?_<;>(refine yL 50 (Zs 1000 Z1) fun v50 h=>?_;cases h)<;>refine xL 51 (YL 1000 ZN) ?_<;>refine ZA 1000 Z1 ?_<;>refine Zg ?_)
 (refine xL 52 Zb (xL 53 ZH (xL 3 Za ?_))<;>refine Zg ?_)
 (refine xL 33 Zb (xL 34 ZH (xL 5 Za ?_))<;>refine Zc ?_)
 try rw [hset]
 first
  | (exact Zn (
      ⟨(j'+1+1,K+1,L.set K u),by dsimp only;omega,by dsimp only;omega,hlen2,by dsimp only;rw [Xt];exact hLl,htk2,by dsimp only;omega,fun i hi=>by dsimp only at hi ⊢;rw [Vl oM];exact hLr i oM⟩
      ) (by dsimp only;omega) ⟨rfl,rfl,rfl,rfl,trivial⟩ ⟨rfl,trivial⟩)
  | (exact Zn (
      ⟨(j'+1+1,K,L),by dsimp only;omega,by dsimp only;omega,hK.trans (by rw [show k+1+(j'+1+1)=k+1+j'+1+1 by omega,hsm2]),hLl,hLt.trans (by rw [show k+1+(j'+1+1)=k+1+j'+1+1 by omega,hsm2]),by dsimp only;omega,fun i hi=>hLr i (by dsimp only at hi;omega)⟩
      ) (by dsimp only;omega) ⟨rfl,rfl,rfl,rfl,trivial⟩ ⟨rfl,trivial⟩))
 · first |exact bN hb44|(
 have hsm2:=Zd7 hv2 hu (by simpa using hb44);refine Ze ?_;(refine xL 33 Zb (xL 34 ZH (xL 5 Za ?_))<;>refine Zc ?_)
 try rw [hset]
 first
  | (exact Zn (
      ⟨(j'+1+1,K+1,L.set K u),by dsimp only;omega,by dsimp only;omega,hlen2,by dsimp only;rw [Xt];exact hLl,htk2,by dsimp only;omega,fun i hi=>by dsimp only at hi ⊢;rw [Vl oM];exact hLr i oM⟩
      ) (by dsimp only;omega) ⟨rfl,rfl,rfl,rfl,trivial⟩ ⟨rfl,trivial⟩)
  | (exact Zn (
      ⟨(j'+1+1,K,L),by dsimp only;omega,by dsimp only;omega,hK.trans (by rw [show k+1+(j'+1+1)=k+1+j'+1+1 by omega,hsm2]),hLl,hLt.trans (by rw [show k+1+(j'+1+1)=k+1+j'+1+1 by omega,hsm2]),by dsimp only;omega,fun i hi=>hLr i (by dsimp only at hi;omega)⟩
      ) (by dsimp only;omega) ⟨rfl,rfl,rfl,rfl,trivial⟩ ⟨rfl,trivial⟩)))
 · first|exact bN hb32|(
 have hall:l.take (k+1+j'+1)=l:=Xo oM;rw [hall] at hK hLt;have hKl:K≤l.length:=oM;refine Ze ?_;(refine xL 54 Zb (xL 55 Zb ?_)<;>refine xL 56 (G3 (i:=K) (j:=l.length) 1000 ZN rfl rfl rfl rfl rfl hKl (Xj _)) ?_<;>(refine Zai 1000 Yd dC rfl rfl rfl rfl rfl hKl ?_;intro cs2 hcs1 hcs2)<;>refine Zg ?_)
 (refine xL 57 Zb (xL 58 Zb ?_)<;>refine xL 59 (G3 (i:=0) (j:=K) 1000 ZN rfl rfl rfl rfl rfl (Xf _) hKl) ?_<;>refine xL 2 Za ?_<;>refine Zc ?_)
 refine YR (ZmP (l:=1000) K rfl hKl) fun _=>?_;refine Dg [(1000,slc hv 0 K 3,PV.own 93 3 K (cs2.take (K*3)))] (results189) rfl ⟨rfl,trivial⟩ ⟨ZkJ hvo _ _ _,rfl,?_⟩;rw [hcs2,←hLt,Hk Z8];rw [show (L.take K).length=K by rw [Xx];omega]))
 · first|exact bN hb25|(
 have hnw:=Ziy hs hy hx (by simpa using hb25);rw [hmk,←ZE hx] at hnw;refine Ze ?_;(refine xL 14 Zb (xL 15 ZH (xL 3 Za ?_))<;>refine Zc ?_)
 refine Zn (
  ⟨k+1+1,oM,oM,hnw⟩
  ) (by dsimp only;omega) ⟨rfl,rfl,trivial⟩ ⟨rfl,trivial⟩))
 · first|exact bN hb13|(
 refine Ze ?_;(refine xL 60 Zb (xL 2 Za ?_)<;>refine Zc ?_)
 refine Dg [(1000,hv,PV.own 93 3 l.length (l.flatMap cMv))] (results189) rfl ⟨rfl,trivial⟩ ⟨hvo,rfl,?_⟩;rw [Xo (show l.length≤k+1 by omega)] at hmk;rw [hmk]))
theorem ZkK {l m:List Mv} (h:l.Perm m):mkM l=mkM m:=ZcO (J6 l) fun x=>by rw [KM];exact h.mem_iff
theorem ZkL (a:Aut) (hl:a.moves.length≤1000000) (V hM:Value) (hMo:hM.oneCell'=true) {p0 p1 p2 p3 p4:PV} {E:Int} (h5:R5 p0 p1 p2 p3 p4) (hr:AF prog 132 [ZO (mkA a)] (· = .tup [.agg [p0,p1,p2,p3,p4],pInt E])):AFh False prog 137 [(0,V, .agg [pInt a.n,pInt a.syms,pInts a.start,pInts a.fin, .val hM])] [(1000,hM, .own 93 3 a.moves.length (a.moves.flatMap cMv))] (fun v q h=>(∃V1:Value,v= .tuple [V1, .int .i64 E].toArray)∧q= .tup [.agg [p0,p1,p2,p3,p4],pInt E]∧h=[]):=by
 obtain ⟨o0,o1,o2,o3,o4⟩:=h5.o
 refine AFh.of_body 15 func137 rfl ntmps137 (Xa rfl) rfl ?_
 intro w0 M0 N0
 have hone:En.one (PV.val hM)=true:=hMo
 refine Ze ?_
 (refine ZG 1 5 fun h1=>?_<;>refine Zw [(.int .i64 0),(.int .i64 0),(.slice none 0 0),(.slice none 0 0),(.slice none 0 0)] 5 2 ZI fun h2=>?_<;>refine xL 3 Za ?_<;>refine Zg ?_)
 (refine xL 4 (Zd 1 ZC) ?_<;>(refine yL 5 (Zk 1 ZK) fun v5 h=>?_;cases h)<;>(rcases Vb a.moves.length with h0|h0<;>first|(refine Zr (ZP (l:=1000) (p':= .own 93 3 0 []) rfl (by rw [XO h0];rfl)) fun _=>?_;refine Zbh (l:=1000) Oe rfl rfl (Xa rfl) rfl (call188) rfl rfl rfl ?_;obtain ⟨rows',hperm,hord⟩:∃rows':List Mv,rows'.Perm a.moves∧Hi rows':=⟨[],by rw [XO h0],fun i j x y _ h=>by simp at h⟩;refine Zr (ZP (l:=1000) (p':= .own 93 3 rows'.length (rows'.flatMap cMv)) rfl (by rw [XO (hperm.length_eq.trans h0)];rfl)) fun _=>?_)|(refine Zdt (l:=1000) (β:=Mv) (f:=cMv) (cmp:=JV) (rows:=a.moves) Zbk Z8 dC (fun _=>rfl) E5 Zbi Zbj (fun x y M W u v _ _ hu hv=>E6 x y M W u v hu hv) h0 oM rfl rfl (Xa rfl) rfl (call188) rfl rfl rfl (fun rows' hperm hord=>?_);refine Zr (ZP (l:=1000) (p':= .own 93 3 rows'.length (rows'.flatMap cMv)) rfl (by rw [hperm.length_eq])) fun _=>?_))<;>refine Zc ?_)<;>(
 (refine Zt ?_<;>refine xL 7 (Zd 1 ZC) ?_<;>(refine yL 8 (Zk 1 ZK) fun v8 h=>?_;cases h)<;>(refine Wy [(1000,hM,PV.own 93 3 rows'.length (rows'.flatMap cMv)),(1,_,_),(2,_,_)] ⟨rfl,rfl,rfl,trivial⟩ ?_;refine WP [1,2] 9 (call189) (ZbL rows' (by have:=hperm.length_eq;omega) hord hM hMo) ?_;rintro v9 _ _ ⟨hv9,rfl,rfl⟩;refine Zr (ZP (l:=1000) (p':= .own 93 3 (mkM a.moves).length ((mkM a.moves).flatMap cMv)) rfl (by rw [ZkK hperm])) fun _=>?_;have hone9:En.one (PV.val v9)=true:=hv9)<;>refine xL 10 (Zd 1 ZC) ?_<;>refine YZ 1 ZK Wp ?_<;>refine Zc ?_)
 refine Zx (Z0 (l:=1) (l':=1000) (j:=4) rfl rfl rfl rfl) fun _=>?_;rw [Pm _ _ _ rfl];(refine Zt ?_<;>(refine yL 11 (Zs 1 Zm) fun v11 h=>?_;cases h)<;>(refine cP 12 (cA call132 hr) (fun va12 vb12 hva12 hvb12=>?_) (hsh:=h5.t E);cases hvb12)<;>refine xL 13 Zi (xL 14 Zi ?_)<;>refine ZA 2 Zm ?_<;>refine xL 3 Za ?_<;>refine Zc ?_)
 exact Zdy (k:=5) 2 [] kR (results137) rfl rfl rfl (Xa rfl) dC h5.s trivial fun V=>⟨⟨V,rfl⟩,rfl,rfl⟩)
theorem TR {x y X Y:Int} (hx:0≤x∧x≤X) (hy:0≤y∧y≤Y):0≤x*y∧x*y≤X*Y:=⟨Int.mul_nonneg hx.1 hy.1,Int.mul_le_mul hx.2 hy.2 hy.1 oM⟩
def PF (m:Int) (x:Mv) (j:Nat):List Mv:=(List.range j).map fun j=>⟨x.src*m+(j:Nat),x.dst*m+(j:Nat),x.sym⟩
theorem ZfV (m:Int) (x:Mv) (j:Nat):PF m x (j+1)=PF m x j++[⟨x.src*m+(j:Nat),x.dst*m+(j:Nat),x.sym⟩]:=by unfold PF;rw [V4,Xr];rfl
def PG (m:Int) (x:Mv) (i:Nat):List Mv:=(List.range i).map fun i=>⟨(i:Nat)*m+x.src,(i:Nat)*m+x.dst,x.sym⟩
theorem ZfW (m:Int) (x:Mv) (i:Nat):PG m x (i+1)=PG m x i++[⟨(i:Nat)*m+x.src,(i:Nat)*m+x.dst,x.sym⟩]:=by unfold PG;rw [V4,Xr];rfl
def smA (a b:Aut) (k:Nat):List Mv:=(a.moves.take k).flatMap (shL b.n)
def smB (a b:Aut) (k:Nat):List Mv:=a.moves.flatMap (shL b.n)++(b.moves.take k).flatMap (shR a.n b.n)
theorem Ziz {a b:Aut} {k:Nat} {x:Mv} (h:a.moves[k]? =some x):smA a b (k+1)=smA a b k++PF b.n x b.n.toNat:=by unfold smA;rw [ZE h,XR,V3];rfl
theorem ZiA {a b:Aut} {k:Nat} {x:Mv} (h:b.moves[k]? =some x):smB a b (k+1)=smB a b k++PG b.n x a.n.toNat:=by unfold smB;rw [ZE h,XR,V3,Xz];rfl
theorem ZkM {a b:Aut} {k:Nat} (h:a.moves.length≤k):smA a b k=smB a b 0:=by unfold smA smB;rw [Xo h];exact (Xy _).symm
theorem ZkN {a b:Aut} {k:Nat} (h:b.moves.length≤k):smB a b k=(Kw a b).moves:=by unfold smB;rw [Xo h];rfl
theorem RP (a b:Aut):(Kw a b).moves.length=a.moves.length*b.n.toNat+b.moves.length*a.n.toNat:=by
 show (a.moves.flatMap (shL b.n)++b.moves.flatMap (shR a.n b.n)).length=_
 rw [Xb,flat_len (ζt b.n),flat_len (ZdQ a.n b.n)]
theorem ZiB {a b:Aut} {k j:Nat} (x:Mv) (hk:k<a.moves.length) (hj:j≤b.n.toNat):(smA a b k++PF b.n x j).length≤(Kw a b).moves.length:=by
 rw [RP]
 unfold smA PF
 rw [Xb,flat_len (ζt b.n),Xx,Xd,Us,Va (Nat.le_of_lt hk)]
 have h1:(k+1)*b.n.toNat≤a.moves.length*b.n.toNat:=Vw _ hk
 rw [X5] at h1
 omega
theorem ZiC {a b:Aut} {k i:Nat} (x:Mv) (hk:k<b.moves.length) (hi:i≤a.n.toNat):(smB a b k++PG b.n x i).length≤(Kw a b).moves.length:=by
 rw [RP]
 unfold smB PG
 rw [Xb,Xb,flat_len (ζt b.n),flat_len (ZdQ a.n b.n),Xx,Xd,Us,Va (Nat.le_of_lt hk)]
 have h1:(k+1)*a.n.toNat≤b.moves.length*a.n.toNat:=Vw _ hk
 rw [X5] at h1
 omega
theorem ZbM {m:Int} {l k:List Int} {i:Nat} {x:Int} (h:l[i]? =some x):shI m (l.take (i+1)) k=shI m (l.take i) k++WI (x*m) k:=by unfold shI;rw [ZE h,XR,V3]
theorem Zd8 (m:Int) (l k:List Int):(shI m l k).length=l.length*k.length:=flat_len (fun x=>Gw _ _) l
theorem ζH (a b:Aut) (e:Int) (he:¬e=0) (hf:AF prog 120 [ZO a,ZO b] (· =pInt e)):AF prog 89 [ZO a,ZO b] (· = .tup [Ll,pInt e]):=by
 refine AF.of_body 162 func89 rfl ntmps89 (Xa rfl) ?_
 intro w0 M0 vs hl hv
 obtain ⟨v0,v1,rfl⟩:=WO hl
 clear hl hv
 refine Ze ?_
 (refine ZG 2 5 fun h2=>?_<;>refine ZG 3 5 fun h3=>?_<;>refine Zw [(.int .i64 0),(.int .i64 0),(.slice none 0 0),(.slice none 0 0),(.slice none 0 0)] 5 4 ZI fun h4=>?_<;>refine xL 5 Za ?_<;>refine Zg ?_)
 ((refine yL 20 (Zs 2 Zm) fun v20 h=>?_;cases h)<;>(refine yL 21 (Zs 3 Zm) fun v21 h=>?_;cases h)<;>(refine cS 22 (cA call120 (hf)) fun v22 h=>?_;cases h)<;>refine xL 6 Za ?_<;>refine Zg ?_)
 (refine xL 23 Zb (xL 24 YH ?_)<;>refine Zc ?_)
 refine cX ?_ ?_<;>intro hb24
 · refine Ze ?_;(refine xL 25 (ZL ZS) (xL 26 Zb ?_)<;>refine ZA 4 Zm ?_<;>refine xL 5 Za ?_<;>refine Zc ?_)
   exact Ys (k:=5) 4 kR (results89) rfl rfl rfl (Xa rfl) dC rfl rfl
 · exact UU (by simpa using hb24) he
set_option maxHeartbeats 8000000 in
theorem HJ (a b : Aut) (hf0:WW a b=0) {p0 p1 p2 p3 p4:PV} {E:Int} (r5:R5 p0 p1 p2 p3 p4) (hr:(Kw a b).moves.length≤40000→AF prog 132 [ZO (mkA (Kw a b))] (· = .tup [.agg [p0,p1,p2,p3,p4],pInt E])):AF prog 89 [ZO a,ZO b] (· =if 2000<a.n*b.n∨40000<(a.moves.length:Int)*b.n+(b.moves.length:Int)*a.n then .tup [Ll,pInt 13] else .tup [.agg [p0,p1,p2,p3,p4],pInt E]):=by
 obtain ⟨o0,o1,o2,o3,o4⟩:=r5.o
 obtain ⟨ha,hb,hs⟩:=Sb hf0
 have hf:=SQ a b
 rw [hf0] at hf
 have hn0:=ha.n0
 have hn1:=ha.n1
 have m0:=hb.n0
 have m1:=hb.n1
 have k1:=ha.sl
 have k2:=hb.sl
 have k3:=ha.fl
 have k4:=hb.fl
 have k5:=ha.ml
 have k6:=hb.ml
 have q1:=TR (x:=a.n) (y:=b.n) ⟨hn0,hn1⟩ ⟨m0,m1⟩
 have q2:=TR (x:=(a.moves.length:Int)) (y:=b.n) (X:=20000) ⟨oM,oM⟩ ⟨m0,m1⟩
 have q3:=TR (x:=(b.moves.length:Int)) (y:=a.n) (X:=20000) ⟨oM,oM⟩ ⟨hn0,hn1⟩
 have eN:((a.n.toNat:Nat):Int)=a.n:=VQ hn0
 have eM:((b.n.toNat:Nat):Int)=b.n:=VQ m0
 have q4:(((Kw a b).moves.length:Nat):Int)=(a.moves.length:Int)*b.n+(b.moves.length:Int)*a.n:=by
  rw [RP,Int.natCast_add,Ua,Ua,eN,eM]
 refine AF.of_body 162 func89 rfl ntmps89 (Xa rfl) ?_
 intro w0 M0 vs hl hv
 obtain ⟨v0,v1,rfl⟩:=WO hl
 clear hl hv
 refine Ze ?_
 (refine ZG 2 5 fun h2=>?_<;>refine ZG 3 5 fun h3=>?_<;>refine Zw [(.int .i64 0),(.int .i64 0),(.slice none 0 0),(.slice none 0 0),(.slice none 0 0)] 5 4 ZI fun h4=>?_<;>refine xL 5 Za ?_<;>refine Zg ?_)
 ((refine yL 20 (Zs 2 Zm) fun v20 h=>?_;cases h)<;>(refine yL 21 (Zs 3 Zm) fun v21 h=>?_;cases h)<;>(refine cS 22 (cA call120 (hf)) fun v22 h=>?_;cases h)<;>refine xL 6 Za ?_<;>refine Zg ?_)
 (refine xL 23 Zb (xL 24 YH ?_)<;>refine Zc ?_)
 refine cX ?_ ?_<;>intro hb24
 · first|omega|exact UU rfl hb24|exact bN hb24
 · refine nav ?_;(refine Z5 (fun i=>([]:List Nat).elem i) [2,3] kR ?_<;>refine xD 0 27 rfl (Zd 2 ZY) ?_<;>(refine yD 1 28 rfl (Zk 2 Zo) fun v28 h=>?_;cases h)<;>refine xD 2 29 rfl (Zd 3 ZY) ?_<;>(refine yD 3 30 rfl (Zk 3 Zo) fun v30 h=>?_;cases h)<;>refine xE 4 7 rfl Za ?_<;>refine xE 5 8 rfl Za ?_<;>refine YC kR (nav ?_)<;>try dsimp only)
   (refine Zt ?_ <;> refine xL 31 Zb (xL 32 Zb (xL 33 Sl (xL 34 YP (xL 35 Zb ?_))))<;>(refine bLd 35 (fun hb35=>?_) (fun hb35=>?_)<;>(first|refine kL 36 ?_|refine xL 36 (Zd 2 ZC) ?_))<;>(first|refine kL 37 ?_|(refine yL 37 (Zk 2 ZK) fun v37 h=>?_;cases h))<;>(first|refine kL 38 ?_|refine xL 38 (ZR ZN) ?_)<;>(first|refine kL 39 ?_|refine xL 39 Zb ?_)<;>(first|refine kL 40 ?_|refine xL 40 Sl ?_)<;>(first|refine kL 41 ?_|refine xL 41 (Zd 3 ZC) ?_)<;>(first|refine kL 42 ?_|(refine yL 42 (Zk 3 ZK) fun v42 h=>?_;cases h))<;>(first|refine kL 43 ?_|refine xL 43 (ZR ZN) ?_)<;>(first|refine kL 44 ?_|refine xL 44 Zb ?_)<;>(first|refine kL 45 ?_|refine xL 45 Sl ?_)<;>(first|refine kL 46 ?_|refine xL 46 ZH ?_)<;>(first|refine kL 47 ?_|refine xL 47 YP ?_)<;>refine xL 48 Zz ?_<;>refine Zc ?_)<;>(
 refine cX ?_ ?_<;>intro hb48
 · first|exact bN hb48|(
 refine Ze ?_;(refine xL 49 (ZL ZS) ?_<;>refine ZA 4 Zm ?_<;>refine xL 5 Za ?_<;>refine Zc ?_)
 exact Ys (k:=5) 4 kR (results89) rfl rfl rfl (Xa rfl) dC rfl (by rw [UT oM];rfl))
 · first | exact bN hb48|(
 refine nav ?_;have hnl:¬2000<a.n*b.n∧(Kw a b).moves.length≤40000:=oM;have hr:=hr hnl.2;have hnm:=hnl.1;have hml:=hnl.2;(refine Zt ?_<;>refine xL 50 Zb (xL 51 Zb (xL 52 Sl (xL 53 (Zd 2 Yl) ?_)))<;>(refine yL 54 (Zk 2 Zo) fun v54 h=>?_;cases h)<;>refine xL 55 (ZL ZS) ?_<;>refine Zw [(.int .i64 0),(.int .i64 0),(.slice none 0 0),(.slice none 0 0),(.slice none 0 0)] 5 9 ZI fun h9=>?_<;>refine ZA 9 Zm ?_<;>refine Zc ?_)
 refine Zx (G6 (l:=9) [pInt (a.n*b.n),pInt a.syms, .own 3 1 0 [], .own 3 1 0 [], .own 93 3 0 []] rfl rfl (fun i p p' h1 h2=>by
  match i with
  |0=>cases h1;cases h2;exact .inl rfl
  |1=>cases h1;cases h2;exact .inl rfl
  |2=>cases h1;cases h2;exact .inr ⟨rfl,_,_,rfl⟩
  |3=>cases h1;cases h2;exact .inr ⟨rfl,_,_,rfl⟩
  |4=>cases h1;cases h2;exact .inr ⟨rfl,_,_,rfl⟩
  |i+5=>simp at h2)) fun _=>?_
 refine Zx (GR (l:=9) (l':=302) (j:=2) rfl rfl rfl rfl) fun i=>?_;obtain ⟨v302,ho302⟩:=i;dsimp only [List.set];refine Zx (GR (l:=9) (l':=303) (j:=3) rfl rfl rfl rfl) fun i=>?_;obtain ⟨v303,ho303⟩:=i;dsimp only [List.set];refine Zx (GR (l:=9) (l':=1000) (j:=4) rfl rfl rfl rfl) fun i=>?_;obtain ⟨v1000,ho1000⟩:=i;dsimp only [List.set];have qo2:En.one (PV.val v302)=true:=ho302;have qo3:En.one (PV.val v303)=true:=ho303;refine Zx (ZP (l:=1000) (p':= .own 93 3 (smA a b 0).length ((smA a b 0).flatMap cMv)) rfl rfl) fun _=>?_;(refine Zt ?_<;>refine xL 56 (Zd 2 ZC) ?_<;>(refine yL 57 (Zk 2 ZK) fun v57 h=>?_;cases h)<;>refine xL 58 (ZR ZN) (xL 59 Zb ?_)<;>refine Zc ?_)
 refine ZD (ι:={q:Nat×Value//q.1≤a.moves.length∧q.2.oneCell'=true}) (fun k=>⟨[(2,_,_),(3,_,_),(4,_,_),(7,_,_),(8,_,_),(9,_,_),(57,_,_),(58,_,_),(59, .int .i64 k.1.1,pInt k.1.1)],[(2,_,_),(3,_,_),(4,_,_),(302,_,_),(303,_,_),(9,h9, .own 39 5 1 [pInt (a.n*b.n),pInt a.syms, .val v302, .val v303, .val k.1.2]),(1000,k.1.2, .own 93 3 (smA a b k.1.1).length ((smA a b k.1.1).flatMap cMv))]⟩) (fun k=>a.moves.length-k.1.1) ⟨(0,v1000),Xf _,ho1000⟩ (fun a w H=>H.weaken ⟨rfl,rfl,rfl,rfl,rfl,rfl,rfl,rfl,rfl,trivial⟩ ⟨rfl,rfl,rfl,rfl,rfl,rfl,rfl,trivial⟩) ?_;rintro ⟨⟨c,hI⟩,hc,hIo⟩;dsimp only;dsimp only at hc hIo;have q5:En.one (PV.val hI)=true:=hIo;refine Ze ?_;(refine xL 60 ZQ ?_<;>refine Zc ?_)
 refine cX ?_ ?_<;>intro hb60
 · first |exact bN hb60|(
 obtain ⟨x,hx⟩:=Zp (show c<a.moves.length by omega);have e1:=Yc Z8 a.moves c x hx;have e2:=Yz Z8 hx;have hxb:=ha.mv x (Xc hx);have hx1:=TR (x:=x.src) (y:=b.n) (X:=2000) ⟨hxb.1,oM⟩ ⟨m0,m1⟩;have hx2:=TR (x:=x.dst) (y:=b.n) (X:=2000) ⟨hxb.2.2.1,oM⟩ ⟨m0,m1⟩;refine Ze ?_;(refine xL 61 (ZF ZN) ?_<;>(refine yL 62 (YI Z1) fun v62 h=>?_;cases h)<;>refine Zw [(.int .i64 0),(.int .i64 0),(.int .i64 0)] 3 11 KU fun h11=>?_<;>refine ZA 11 Z1 ?_<;>refine Zg ?_)
 (refine xL 63 Zb (xL 64 Zb ?_)<;>refine Zc ?_)
 refine Zx (ZP (l:=1000) (p':= .own 93 3 (smA a b c++PF b.n x 0).length ((smA a b c++PF b.n x 0).flatMap cMv)) rfl (by rw [show PF b.n x 0=[] from rfl,Xy])) fun _=>?_;refine ZD (ι:={q:Nat×Value//q.1≤b.n.toNat∧q.2.oneCell'=true}) (fun k=>⟨[(2,_,_),(3,_,_),(4,_,_),(7,_,_),(8,_,_),(9,_,_),(11,_,_),(57,_,_),(58,_,_),(59,_,_),(63,_,_),(64, .int .i64 k.1.1,pInt k.1.1)],[(2,_,_),(3,_,_),(4,_,_),(11,_,_),(302,_,_),(303,_,_),(9,h9, .own 39 5 1 [pInt (a.n*b.n),pInt a.syms, .val v302, .val v303, .val k.1.2]),(1000,k.1.2, .own 93 3 (smA a b c++PF b.n x k.1.1).length ((smA a b c++PF b.n x k.1.1).flatMap cMv))]⟩) (fun k=>b.n.toNat-k.1.1) ⟨(0,hI),Xf _,hIo⟩ (fun a w H=>H.weaken ⟨rfl,rfl,rfl,rfl,rfl,rfl,rfl,rfl,rfl,rfl,rfl,rfl,trivial⟩ ⟨rfl,rfl,rfl,rfl,rfl,rfl,rfl,rfl,trivial⟩) ?_;rintro ⟨⟨j,hJ⟩,hj,hJo⟩;dsimp only;dsimp only at hj hJo;have q6:En.one (PV.val hJ)=true:=hJo;have hpt:=ZiB x (Zf hx) hj;refine Ze ?_;(refine xL 65 ZQ ?_<;>refine Zc ?_)
 refine cX ?_ ?_<;>intro hb65
 · first|exact bN hb65|(
 refine Ze ?_;(refine xL 66 Zb (xL 12 Za ?_)<;>refine Zg ?_)
 (refine xL 67 (Zd 9 ZC) ?_<;>(refine yL 68 (Zk 9 ZK) fun v68 h=>?_;cases h)<;>refine xL 69 (Zd 11 Yv) ?_<;>(refine yL 70 (Zk 11 Zo) fun v70 h=>?_;cases h)<;>refine xL 71 Zb (xL 72 Sl (xL 73 Zb (xL 74 ZH (xL 75 (Zd 11 YK) ?_))))<;>(refine yL 76 (Zk 11 Zo) fun v76 h=>?_;cases h)<;>refine xL 77 Zb (xL 78 Sl (xL 79 Zb (xL 80 ZH (xL 81 (Zd 11 Wk) ?_))))<;>(refine yL 82 (Zk 11 Zo) fun v82 h=>?_;cases h)<;>refine xL 83 (ZL Kc) ?_<;>refine YM 84 Yd fun h84 ho84=>?_<;>(refine ZU 1000 84 85 Yd fun h85 ho85=>?_;refine Zr (Zy (l:=85) 1000 rfl rfl) fun _=>?_;refine Zr (ZP (l:=1000) rfl ((Kg _ (smA a b c++PF b.n x j) ⟨x.src*b.n+(j:Nat),x.dst*b.n+(j:Nat),x.sym⟩).trans (by rw [Xz,←ZfV]))) fun _=>?_;have q85:En.one (PV.val h85)=true:=ho85)<;>refine xL 86 (Zd 9 ZC) ?_<;>refine YZ 9 ZK Wp ?_<;>refine Zg ?_)
 (refine xL 87 ZH (xL 64 Zb ?_)<;>refine Zc ?_)
 refine Zn (
  ⟨(j+1,h85),by dsimp only;omega,ho85⟩
  ) (by dsimp only;omega) ⟨rfl,rfl,rfl,rfl,rfl,rfl,rfl,rfl,rfl,rfl,rfl,rfl,trivial⟩ ⟨rfl,rfl,rfl,rfl,rfl,rfl,rfl,rfl,trivial⟩)
 · first|exact bN hb65|(
 refine Zx (ZP (l:=1000) (p':= .own 93 3 (smA a b (c+1)).length ((smA a b (c+1)).flatMap cMv)) rfl (by rw [show smA a b c++PF b.n x j=smA a b (c+1) by rw [Ziz hx,show j=b.n.toNat by omega]])) fun _=>?_;refine Ze ?_;(refine xL 88 ZH (xL 59 Zb ?_)<;>refine Zc ?_)
 refine Zn (
  ⟨(c+1,hJ),Zf hx,hJo⟩
  ) (by dsimp only;omega) ⟨rfl,rfl,rfl,rfl,rfl,rfl,rfl,rfl,rfl,trivial⟩ ⟨rfl,rfl,rfl,rfl,rfl,rfl,rfl,trivial⟩))
 · first | exact bN hb60|(
 rw [ZkM (show a.moves.length≤c by omega)];refine Ze ?_;(refine xL 89 (Zd 3 ZC) ?_<;>(refine yL 90 (Zk 3 ZK) fun v90 h=>?_;cases h)<;>refine xL 91 (ZR ZN) (xL 92 Zb ?_)<;>refine Zc ?_)
 refine ZD (ι:={q:Nat×Value//q.1≤b.moves.length∧q.2.oneCell'=true}) (fun k=>⟨[(2,_,_),(3,_,_),(4,_,_),(7,_,_),(8,_,_),(9,_,_),(90,_,_),(91,_,_),(92, .int .i64 k.1.1,pInt k.1.1)],[(2,_,_),(3,_,_),(4,_,_),(302,_,_),(303,_,_),(9,h9, .own 39 5 1 [pInt (a.n*b.n),pInt a.syms, .val v302, .val v303, .val k.1.2]),(1000,k.1.2, .own 93 3 (smB a b k.1.1).length ((smB a b k.1.1).flatMap cMv))]⟩) (fun k=>b.moves.length-k.1.1) ⟨(0,hI),Xf _,hIo⟩ (fun a w H=>H.weaken ⟨rfl,rfl,rfl,rfl,rfl,rfl,rfl,rfl,rfl,trivial⟩ ⟨rfl,rfl,rfl,rfl,rfl,rfl,rfl,trivial⟩) ?_;rintro ⟨⟨u,hU⟩,hu,hUo⟩;dsimp only;dsimp only at hu hUo;have q7:En.one (PV.val hU)=true:=hUo;refine Ze ?_;(refine xL 93 ZQ ?_<;>refine Zc ?_)
 refine cX ?_ ?_<;>intro hb93
 · first |exact bN hb93|(
 obtain ⟨y,hy⟩:=Zp (show u<b.moves.length by omega);have e3:=Yc Z8 b.moves u y hy;have e4:=Yz Z8 hy;have hyb:=hb.mv y (Xc hy);refine Ze ?_;(refine xL 94 (ZF ZN) ?_<;>(refine yL 95 (YI Z1) fun v95 h=>?_;cases h)<;>refine Zw [(.int .i64 0),(.int .i64 0),(.int .i64 0)] 3 14 KU fun h14=>?_<;>refine ZA 14 Z1 ?_<;>refine Zg ?_)
 (refine xL 96 Zb (xL 97 Zb ?_)<;>refine Zc ?_)
 refine Zx (ZP (l:=1000) (p':= .own 93 3 (smB a b u++PG b.n y 0).length ((smB a b u++PG b.n y 0).flatMap cMv)) rfl (by rw [show PG b.n y 0=[] from rfl,Xy])) fun _=>?_;refine ZD (ι:={q:Nat×Value//q.1≤a.n.toNat∧q.2.oneCell'=true}) (fun k=>⟨[(2,_,_),(3,_,_),(4,_,_),(7,_,_),(8,_,_),(9,_,_),(14,_,_),(90,_,_),(91,_,_),(92,_,_),(96,_,_),(97, .int .i64 k.1.1,pInt k.1.1)],[(2,_,_),(3,_,_),(4,_,_),(14,_,_),(302,_,_),(303,_,_),(9,h9, .own 39 5 1 [pInt (a.n*b.n),pInt a.syms, .val v302, .val v303, .val k.1.2]),(1000,k.1.2, .own 93 3 (smB a b u++PG b.n y k.1.1).length ((smB a b u++PG b.n y k.1.1).flatMap cMv))]⟩) (fun k=>a.n.toNat-k.1.1) ⟨(0,hU),Xf _,hUo⟩ (fun a w H=>H.weaken ⟨rfl,rfl,rfl,rfl,rfl,rfl,rfl,rfl,rfl,rfl,rfl,rfl,trivial⟩ ⟨rfl,rfl,rfl,rfl,rfl,rfl,rfl,rfl,trivial⟩) ?_;rintro ⟨⟨i,hV⟩,hi,hVo⟩;dsimp only;dsimp only at hi hVo;have q8:En.one (PV.val hV)=true:=hVo;have hpt2:=ZiC y (Zf hy) hi;have hx3:=TR (x:=(i:Int)) (y:=b.n) (X:=2000) ⟨oM,oM⟩ ⟨m0,m1⟩;refine Ze ?_;(refine xL 98 ZQ ?_<;>refine Zc ?_)
 refine cX ?_ ?_<;>intro hb98
 · first|exact bN hb98|(
 refine Ze ?_;(refine xL 99 Zb (xL 15 Za ?_)<;>refine Zg ?_)
 (refine xL 100 (Zd 9 ZC) ?_<;>(refine yL 101 (Zk 9 ZK) fun v101 h=>?_;cases h)<;>refine xL 102 Zb (xL 103 Zb (xL 104 Sl (xL 105 (Zd 14 Yv) ?_)))<;>(refine yL 106 (Zk 14 Zo) fun v106 h=>?_;cases h)<;>refine xL 107 ZH (xL 108 Zb (xL 109 Zb (xL 110 Sl (xL 111 (Zd 14 YK) ?_))))<;>(refine yL 112 (Zk 14 Zo) fun v112 h=>?_;cases h)<;>refine xL 113 ZH (xL 114 (Zd 14 Wk) ?_)<;>(refine yL 115 (Zk 14 Zo) fun v115 h=>?_;cases h)<;>refine xL 116 (ZL Kc) ?_<;>refine YM 117 Yd fun h117 ho117=>?_<;>(refine ZU 1000 117 118 Yd fun h118 ho118=>?_;refine Zr (Zy (l:=118) 1000 rfl rfl) fun _=>?_;refine Zr (ZP (l:=1000) rfl ((Kg _ (smB a b u++PG b.n y i) ⟨(i:Nat)*b.n+y.src,(i:Nat)*b.n+y.dst,y.sym⟩).trans (by rw [Xz,←ZfW]))) fun _=>?_;have q118:En.one (PV.val h118)=true:=ho118)<;>refine xL 119 (Zd 9 ZC) ?_<;>refine YZ 9 ZK Wp ?_<;>refine Zg ?_)
 (refine xL 120 ZH (xL 97 Zb ?_)<;>refine Zc ?_)
 refine Zn (
  ⟨(i+1,h118),by dsimp only;omega,ho118⟩
  ) (by dsimp only;omega) ⟨rfl,rfl,rfl,rfl,rfl,rfl,rfl,rfl,rfl,rfl,rfl,rfl,trivial⟩ ⟨rfl,rfl,rfl,rfl,rfl,rfl,rfl,rfl,trivial⟩)
 · first|exact bN hb98|(
 refine Zx (ZP (l:=1000) (p':= .own 93 3 (smB a b (u+1)).length ((smB a b (u+1)).flatMap cMv)) rfl (by rw [show smB a b u++PG b.n y i=smB a b (u+1) by rw [ZiA hy,show i=a.n.toNat by omega]])) fun _=>?_;refine Ze ?_;(refine xL 121 ZH (xL 92 Zb ?_)<;>refine Zc ?_)
 refine Zn (
  ⟨(u+1,hV),Zf hy,hVo⟩
  ) (by dsimp only;omega) ⟨rfl,rfl,rfl,rfl,rfl,rfl,rfl,rfl,rfl,trivial⟩ ⟨rfl,rfl,rfl,rfl,rfl,rfl,rfl,trivial⟩))
 · first | exact bN hb93|(
 rw [ZkN (show b.moves.length≤u by omega)];refine Ze ?_;(refine xL 122 (Zd 2 YA) ?_<;>(refine yL 123 (Zk 2 ZB) fun v123 h=>?_;cases h)<;>refine xL 124 (ZR Zu) (xL 125 Zb ?_)<;>refine Zc ?_)
 refine Zx (ZP (l:=302) (p':= .own 3 1 (shI b.n (a.start.take 0) b.start).length ((shI b.n (a.start.take 0) b.start).map pInt)) rfl rfl) fun _=>?_;refine ZD (ι:={q:Nat×Value//q.1≤a.start.length∧q.2.oneCell'=true}) (fun k=>⟨[(2,_,_),(3,_,_),(4,_,_),(7,_,_),(8,_,_),(9,_,_),(123,_,_),(124,_,_),(125, .int .i64 k.1.1,pInt k.1.1)],[(2,_,_),(3,_,_),(4,_,_),(303,_,_),(1000,_,_),(9,h9, .own 39 5 1 [pInt (a.n*b.n),pInt a.syms, .val k.1.2, .val v303, .val hU]),(302,k.1.2, .own 3 1 (shI b.n (a.start.take k.1.1) b.start).length ((shI b.n (a.start.take k.1.1) b.start).map pInt))]⟩) (fun k=>a.start.length-k.1.1) ⟨(0,v302),Xf _,ho302⟩ (fun a w H=>H.weaken ⟨rfl,rfl,rfl,rfl,rfl,rfl,rfl,rfl,rfl,trivial⟩ ⟨rfl,rfl,rfl,rfl,rfl,rfl,rfl,trivial⟩) ?_;rintro ⟨⟨s,hS⟩,hs',hSo⟩;dsimp only;dsimp only at hs' hSo;have q9:En.one (PV.val hS)=true:=hSo;(have hSl:(shI b.n (a.start.take s) b.start).length≤2000*2000:=by rw [Zd8,Xx];exact Ug oM k2);refine Ze ?_;(refine xL 126 ZQ ?_<;>refine Zc ?_)
 refine cX ?_ ?_<;>intro hb126
 · first|exact bN hb126|(
 obtain ⟨z,hz⟩:=Zp (show s<a.start.length by omega);have e5:=Ym (f:=pInt) hz;have hzb:=ha.st z (Xc hz);have hz1:=TR (x:=z) (y:=b.n) (X:=a.n) (Y:=b.n) ⟨hzb.1,oM⟩ ⟨m0,VA _⟩;have hal:=Gw (z*b.n) b.start;refine Ze ?_;(refine xL 127 (ZF Zu) ?_<;>(refine yL 128 (Yo Zo) fun v128 h=>?_;cases h)<;>refine xL 17 Za ?_<;>refine Zc ?_)
 (refine Z5 (fun i=>([10]:List Nat).elem i) [3,9] kR ?_<;>refine xD 0 129 rfl (Zd 9 YA) ?_<;>(refine yD 1 130 rfl (Zk 9 ZB) fun v130 h=>?_;cases h)<;>refine xD 2 131 rfl (Zd 3 YA) ?_<;>(refine yD 3 132 rfl (Zk 3 ZB) fun v132 h=>?_;cases h)<;>refine xD 4 133 rfl Zb ?_<;>refine xE 5 134 rfl Zb ?_<;>refine xE 6 135 rfl Sl ?_<;>(refine Zq 7 kR ?_)<;>(refine Zj rfl fun w9 M9 N9 DQ back=>?_)<;>(refine cO 136 (cA call136 (GG b.start (z*b.n) oM oM (fun x hx=>by have:=hb.st x hx;omega))) fun v136 ho136=>?_;refine Zr (En.freeze (l:=136) (t:=136) rfl rfl) fun _=>?_;rw [ZX _ _ _ rfl])<;>refine Zh (back _ (nrm ?_))<;>(refine Zq 8 kR ?_)<;>(refine Zj rfl fun w9 M9 N9 DQ back=>?_)<;>(refine Sx 302 137 Zl (fun h137 ho137=>?_) (Sa (WI (z*b.n) b.start)) (RN (WI (z*b.n) b.start));have q137:En.one (PV.val h137)=true:=ho137;refine Zr (Zy (l:=137) 302 rfl rfl) fun _=>?_;refine Zr (ZP (l:=302) rfl ((RO _ (shI b.n (a.start.take s) b.start) (WI (z*b.n) b.start)).trans (by rw [←ZbM hz]))) fun _=>?_)<;>refine Zh (back _ (nrm ?_))<;>refine xE 9 138 rfl (Zd 9 YA) ?_<;>(refine Zq 10 kR ?_)<;>(refine CP rfl rfl kR fun DQ back=>?_)<;>refine YZ 9 ZB Kb ?_<;>refine Zh (back _ (nav ?_))<;>try dsimp only)
 (refine Zt ?_<;>refine xL 139 ZH (xL 125 Zb ?_)<;>refine Zc ?_)
 refine Zn (
  ⟨(s+1,h137),Zf hz,ho137⟩
  ) (by dsimp only;omega) ⟨rfl,rfl,rfl,rfl,rfl,rfl,rfl,rfl,rfl,trivial⟩ ⟨rfl,rfl,rfl,rfl,rfl,rfl,rfl,trivial⟩)
 · first |exact bN hb126|(
 rw [Xo (show a.start.length≤s by omega)];refine Ze ?_;(refine xL 140 (Zd 2 Yq) ?_<;>(refine yL 141 (Zk 2 ZB) fun v141 h=>?_;cases h)<;>refine xL 142 (ZR Zu) (xL 143 Zb ?_)<;>refine Zc ?_)
 refine Zx (ZP (l:=303) (p':= .own 3 1 (shI b.n (a.fin.take 0) b.fin).length ((shI b.n (a.fin.take 0) b.fin).map pInt)) rfl rfl) fun _=>?_;refine ZD (ι:={q:Nat×Value//q.1≤a.fin.length∧q.2.oneCell'=true}) (fun k=>⟨[(2,_,_),(3,_,_),(4,_,_),(7,_,_),(8,_,_),(9,_,_),(141,_,_),(142,_,_),(143, .int .i64 k.1.1,pInt k.1.1)],[(2,_,_),(3,_,_),(4,_,_),(302,_,_),(1000,_,_),(9,h9, .own 39 5 1 [pInt (a.n*b.n),pInt a.syms, .val hS, .val k.1.2, .val hU]),(303,k.1.2, .own 3 1 (shI b.n (a.fin.take k.1.1) b.fin).length ((shI b.n (a.fin.take k.1.1) b.fin).map pInt))]⟩) (fun k=>a.fin.length-k.1.1) ⟨(0,v303),Xf _,ho303⟩ (fun a w H=>H.weaken ⟨rfl,rfl,rfl,rfl,rfl,rfl,rfl,rfl,rfl,trivial⟩ ⟨rfl,rfl,rfl,rfl,rfl,rfl,rfl,trivial⟩) ?_;rintro ⟨⟨t,hT⟩,ht,hTo⟩;dsimp only;dsimp only at ht hTo;have q10:En.one (PV.val hT)=true:=hTo;(have hTl:(shI b.n (a.fin.take t) b.fin).length≤2000*2000:=by rw [Zd8,Xx];exact Ug oM k4);refine Ze ?_;(refine xL 144 ZQ ?_<;>refine Zc ?_)
 refine cX ?_ ?_<;>intro hb144
 · first|exact bN hb144|(
 obtain ⟨z2,hz2⟩:=Zp (show t<a.fin.length by omega);have e6:=Ym (f:=pInt) hz2;have hzb2:=ha.fi z2 (Xc hz2);have hz3:=TR (x:=z2) (y:=b.n) (X:=a.n) (Y:=b.n) ⟨hzb2.1,oM⟩ ⟨m0,VA _⟩;have hal2:=Gw (z2*b.n) b.fin;refine Ze ?_;(refine xL 145 (ZF Zu) ?_<;>(refine yL 146 (Yo Zo) fun v146 h=>?_;cases h)<;>refine xL 19 Za ?_<;>refine Zc ?_)
 (refine Z5 (fun i=>([10]:List Nat).elem i) [3,9] kR ?_<;>refine xD 0 147 rfl (Zd 9 Yq) ?_<;>(refine yD 1 148 rfl (Zk 9 ZB) fun v148 h=>?_;cases h)<;>refine xD 2 149 rfl (Zd 3 Yq) ?_<;>(refine yD 3 150 rfl (Zk 3 ZB) fun v150 h=>?_;cases h)<;>refine xD 4 151 rfl Zb ?_<;>refine xE 5 152 rfl Zb ?_<;>refine xE 6 153 rfl Sl ?_<;>(refine Zq 7 kR ?_)<;>(refine Zj rfl fun w9 M9 N9 DQ back=>?_)<;>(refine cO 154 (cA call136 (GG b.fin (z2*b.n) oM oM (fun x hx=>by have:=hb.fi x hx;omega))) fun v154 ho154=>?_;refine Zr (En.freeze (l:=154) (t:=154) rfl rfl) fun _=>?_;rw [ZX _ _ _ rfl])<;>refine Zh (back _ (nrm ?_))<;>(refine Zq 8 kR ?_)<;>(refine Zj rfl fun w9 M9 N9 DQ back=>?_)<;>(refine Sx 303 155 Zl (fun h155 ho155=>?_) (Sa (WI (z2*b.n) b.fin)) (RN (WI (z2*b.n) b.fin));have q155:En.one (PV.val h155)=true:=ho155;refine Zr (Zy (l:=155) 303 rfl rfl) fun _=>?_;refine Zr (ZP (l:=303) rfl ((RO _ (shI b.n (a.fin.take t) b.fin) (WI (z2*b.n) b.fin)).trans (by rw [←ZbM hz2]))) fun _=>?_)<;>refine Zh (back _ (nrm ?_))<;>refine xE 9 156 rfl (Zd 9 Yq) ?_<;>(refine Zq 10 kR ?_)<;>(refine CP rfl rfl kR fun DQ back=>?_)<;>refine YZ 9 ZB Kb ?_<;>refine Zh (back _ (nav ?_))<;>try dsimp only)
 (refine Zt ?_<;>refine xL 157 ZH (xL 143 Zb ?_)<;>refine Zc ?_)
 refine Zn (
  ⟨(t+1,h155),Zf hz2,ho155⟩
  ) (by dsimp only;omega) ⟨rfl,rfl,rfl,rfl,rfl,rfl,rfl,rfl,rfl,trivial⟩ ⟨rfl,rfl,rfl,rfl,rfl,rfl,rfl,trivial⟩)
 · first|exact bN hb144|(
 rw [Xo (show a.fin.length≤t by omega)];refine nav ?_;refine Zx (Z0 (l:=9) (l':=302) (j:=2) rfl rfl rfl rfl) fun _=>?_;refine Zx (Z0 (l:=9) (l':=303) (j:=3) rfl rfl rfl rfl) fun _=>?_;rw [ZX _ _ _ rfl,ZX _ _ _ rfl];(refine Zt ?_<;>(refine yL 158 (Zs (k:=5) (ps:=[pInt (a.n*b.n),pInt a.syms,pInts (shI b.n a.start b.start),pInts (shI b.n a.fin b.fin),PV.val hU]) 9 kR) fun v158 h=>?_;cases h)<;>(refine Wy [(1000,hU,PV.own 93 3 (Kw a b).moves.length ((Kw a b).moves.flatMap cMv)),(2,_,_),(3,_,_),(4,_,_),(9,_,_)] ⟨rfl,rfl,rfl,rfl,rfl,trivial⟩ ?_;refine WP [2,3,4,9] 159 (call137) (ZkL (Kw a b) oM _ hU hUo r5 hr) ?_;rintro _ _ _ ⟨⟨V1,rfl⟩,rfl,rfl⟩)<;>refine xL 160 Zi (xL 161 Zi ?_)<;>refine ZA 4 Zm ?_<;>refine xL 5 Za ?_<;>refine Zc ?_)
 exact Ys (k:=5) 4 kR (results89) rfl rfl rfl (Xa rfl) dC r5.s (by rw [US oM];rfl)))))))
theorem Zdg (a b:Aut):AF prog 89 [ZO a,ZO b] (· =resW (RA a b)):=by
 unfold RA
 by_cases h0:WW a b=0
 · rw [US (fun h=>h h0)];obtain ⟨ha,hb,hs⟩:=Sb h0;by_cases hl:(Kw a b).moves.length≤40000
   · obtain ⟨p0,p1,p2,p3,p4,E,h5,h2,hr⟩:=L0 (Kw a b) oM (Hm ha hb hs);refine (HJ a b h0 h5 fun _=>hr).mono fun p hp=>?_;rw [hp];split
     · rfl
     · exact h2.symm
   · refine (HJ a b h0 R5.raw (E:=13) fun h=>UU h hl).mono fun p hp=>?_;have h1:=ha.n0;have h2:=hb.n0;have q4:(((Kw a b).moves.length:Nat):Int)=(a.moves.length:Int)*b.n+(b.moves.length:Int)*a.n:=by
      rw [RP,Int.natCast_add,Ua,Ua,VQ h1,VQ h2]
     rw [hp,UT (.inr oM),UT (.inr oM)];rfl
 · rw [UT h0];exact ζH a b _ h0 (SQ a b)
theorem HK:AggT prog 39 5=true:=by kernel_rfl
theorem Ct:ElT prog 27 9 1 16 (.string ByteArray.empty):=⟨underlying27,by kernel_rfl,rfl,dC⟩
theorem Sc:ElT prog 36 3 1 8 (.int .i64 0):=⟨underlying36,by kernel_rfl,rfl,dC⟩
theorem ZfX:ElT prog 37 93 3 24 (.agg #[(.int .i64 0),(.int .i64 0),(.int .i64 0)]):=⟨underlying37,by kernel_rfl,rfl,dC⟩
theorem Og:FldT prog 24 0 0=true:=by kernel_rfl
theorem ZbN:FldT prog 24 1 1=true:=by kernel_rfl
theorem HL:NoAgg prog 3=true:=by kernel_rfl
theorem ZbO:NoAgg prog 9=true:=by kernel_rfl
theorem PH:SlT prog 27 9 1=true:=by kernel_rfl
theorem Cu:SlT prog 36 3 1=true:=by kernel_rfl
theorem Cv:Ke prog 39=some ((.agg #[(.int .i64 0),(.int .i64 0),(.slice none 0 0),(.slice none 0 0),(.slice none 0 0)]),([0,1,2,3,4]:List Nat).map fun o=>(o,1)):=by kernel_rfl
theorem ZfY:Ke prog 93=some ((.agg #[(.int .i64 0),(.int .i64 0),(.int .i64 0)]),([0,1,2]:List Nat).map fun o=>(o,1)):=by kernel_rfl
theorem Cw:ZeroT prog 39 (.agg #[(.int .i64 0),(.int .i64 0),(.slice none 0 0),(.slice none 0 0),(.slice none 0 0)]):=by unfold ZeroT;kernel_rfl
theorem ζI (x:Option Aut):∃p0 p1 p2 p3 p4 E,R5 p0 p1 p2 p3 p4∧resW (lim x)= .tup [.agg [p0,p1,p2,p3,p4],pInt E]∧((x=none∧E=13)∨∃A,x=some A∧E=0∧p0=pInt A.n∧p1=pInt A.syms∧p2=pInts A.start∧p3=pInts A.fin∧p4=pMvs A.moves):=by
 cases x with
 |none=>exact ⟨_,_,_,_,_,_,R5.raw,rfl, .inl ⟨rfl,rfl⟩⟩
 |some A=>exact ⟨_,_,_,_,_,_,R5.aut A,rfl, .inr ⟨A,rfl,rfl,rfl,rfl,rfl,rfl,rfl⟩⟩
theorem ZbP (e:Nat) (L:List Aut) (x:Aut):PV.own e 5 (L.length+1) (L.flatMap G1++G1 x)= .own e 5 (L++[x]).length ((L++[x]).flatMap G1):=sM
theorem HM (e n:Nat) (l:List Aut) (hn:n=l.length):share (.own e 5 n (l.flatMap G1))= .sl l.length (l.flatMap G1):=by
 subst hn
 rw [share,Yb,V7];rfl
theorem ZkO (n:Nat):Rr (.agg [pInt 1,pInt n,pInts [0],pInts [0], .val (.slice none 0 0)]) (ZO (Pt n)):=Rr.agg rfl fun i p p' h1 h2=>by
 match i with
 |0=>cases h1;cases h2;exact Rr.rfl' _
 |1=>cases h1;cases h2;exact Rr.rfl' _
 |2=>cases h1;cases h2;exact Rr.rfl' _
 |3=>cases h1;cases h2;exact Rr.rfl' _
 |4=>cases h1;cases h2;exact Rr.nil
 |i+5=>simp at h1
theorem ZfZ (l:List ByteArray) (s:ByteArray):AF prog 67 [Yj l,Z' s] (· =pInt (Kf l s)):=by
 refine AF.of_body 8 func67 rfl ntmps67 (Xa rfl) ?_
 intro w0 M0 vs hl hv
 obtain ⟨v0,v1,rfl⟩:=WO hl
 clear hl hv
 refine Ze ?_
 (refine xL 4 Za ?_<;>refine Zg ?_)
 (refine xL 5 Zb (xL 6 Zb ?_)<;>(refine cS 7 (cA call86 (Zaa l s)) fun v7 h=>?_;cases h)<;>refine xL 4 Za ?_<;>refine Zc ?_)
 exact Zv results67 rfl rfl
theorem ZiD (acts:List ByteArray) {l:List Int} {k:Nat} {i:Int} (h:l[k]? =some i):nmI acts (l.take (k+1))=nmI acts (l.take k)++[(acts[i.toNat]?).getD ByteArray.empty]:=by
 unfold nmI
 rw [ZE h,Xr];rfl
theorem ZkP (acts:List ByteArray) (l:List Int):(nmI acts l).length=l.length:=Xd _
theorem Cx (l:List Int) (acts:List ByteArray) (hl:l.length≤1000000) (hin:∀i∈l,0≤i∧i<acts.length):AF prog 53 [pInts l,Yj acts] (· =Yj (nmI acts l)):=by
 refine AF.of_body 23 func53 rfl ntmps53 (Xa rfl) ?_
 intro w0 M0 vs hl hv
 obtain ⟨v0,v1,rfl⟩:=WO hl
 clear hl hv
 refine Ze ?_
 (refine xL 4 Za ?_<;>refine Zg ?_)
 (refine xL 5 Za ?_<;>refine Zg ?_)
 (refine xL 8 Zb (xL 9 (ZR Cu) (xL 10 Zb ?_))<;>refine Zc ?_)
 refine Zx (KB 200 9 1 rfl) fun _=>?_
 refine ZD (ι:={q:Nat×Value//q.1≤l.length∧q.2.oneCell'=true}) (fun k=>⟨[(0,_,_),(1,_,_),(8,_,_),(9,_,_),(5,k.1.2, .val k.1.2),(10, .int .i64 k.1.1,pInt k.1.1)],[(200,k.1.2, .own 9 1 (nmI acts (l.take k.1.1)).length ((nmI acts (l.take k.1.1)).map Z'))]⟩) (fun k=>l.length-k.1.1) ⟨(0, .slice none 0 0),Xf _,rfl⟩ (fun a w H=>H.weaken ⟨rfl,rfl,rfl,rfl,rfl,rfl,trivial⟩ ⟨rfl,trivial⟩) ?_
 rintro ⟨⟨i,hv⟩,hi,ho⟩
 dsimp only
 dsimp only at hi ho
 refine Ze ?_
 (refine xL 11 ZQ ?_<;>refine Zc ?_)
 refine cX ?_ ?_<;>intro hb11
 · first|exact bN hb11|(
 obtain ⟨x,hx⟩:=Zp (show i<l.length by omega);have e1:=Ym (f:=pInt) hx;have hin:=hin x (Xc hx);obtain ⟨j,rfl⟩:∃j:Nat,x=(j:Int):=⟨x.toNat,oM⟩;obtain ⟨s,hs⟩:=Zp (show j<acts.length by omega);have e2:=Ym (f:=Z') hs;(have hlen:(nmI acts (l.take i)).length≤1000000:=by rw [ZkP,Xx];omega);have hsn:nmI acts (l.take (i+1))=nmI acts (l.take i)++[s]:=by
  rw [ZiD acts hx];show _++[(acts[j]?).getD ByteArray.empty]=_;rw [hs];rfl
 refine Ze ?_;(refine xL 12 (ZF Cu) ?_<;>(refine yL 13 (Yo HL) fun v13 h=>?_;cases h)<;>refine xL 7 Za ?_<;>refine Zg ?_)
 (refine xL 14 Zb (xL 15 Zb (xL 16 Zb (xL 17 (ZF PH) ?_)))<;>(refine yL 18 (Yo ZbO) fun v18 h=>?_;cases h)<;>refine ZJ (kk:=1) 19 Ct fun h19 ho19=>?_<;>refine ZU 200 19 20 Ct fun h20 ho20=>?_<;>refine xL 5 Za ?_<;>refine Zg ?_)
 (refine xL 21 ZH (xL 10 Zb ?_)<;>refine Zc ?_)
 refine WX (Zy (l:=20) 200 rfl rfl) fun _=>?_;rw [show (nmI acts (l.take i)).map Z'++[_]=(nmI acts (l.take (i+1))).map Z' from (by rw [hsn,Xr];rfl),show (nmI acts (l.take i)).length+1=(nmI acts (l.take (i+1))).length by rw [hsn];simp];refine Zn (
  ⟨(i+1,h20),Zf hx,ho20⟩
  ) (by dsimp only;omega) ⟨rfl,rfl,rfl,rfl,rfl,rfl,trivial⟩ ⟨rfl,trivial⟩)
 · first|exact bN hb11|(
 refine nav ?_;rw [Xo (show l.length≤i by omega)];refine Zx (En.freeze (l:=200) (t:=5) rfl rfl) fun _=>?_;rw [Jn];(refine Zt ?_<;>refine xL 22 Zb (xL 4 Za ?_)<;>refine Zc ?_)
 exact Zv results53 rfl rfl)
theorem ZbQ (acts:List ByteArray) (a:ByteArray) {p0 p1 p2 p3 p4:PV} {E:Int} (r5:R5 p0 p1 p2 p3 p4) (hm:AF prog 84 [ZO (Lu acts.length (Kf acts a))] (· = .tup [.agg [p0,p1,p2,p3,p4],pInt E])):AF prog 51 [.agg [pInt 1,Z' a,Wb []],Yj acts] (· = .tup [.agg [p0,p1,p2,p3,p4],pInt E]):=by
 obtain ⟨o0,o1,o2,o3,o4⟩:=r5.o
 refine AF.of_body 130 func51 rfl ntmps51 (Xa rfl) ?_
 intro w0 M0 vs hl hv
 obtain ⟨v0,v1,rfl⟩:=WO hl
 clear hl hv
 refine Ze ?_
 (refine ZG 2 3 fun h2=>?_<;>refine Zw [(.int .i64 0),(.int .i64 0),(.slice none 0 0),(.slice none 0 0),(.slice none 0 0)] 5 4 Cw fun h4=>?_<;>refine xL 5 Za ?_<;>refine Zg ?_)
 (refine xL 18 (Zd 2 Og) ?_<;>(refine yL 19 (Zk 2 HL) fun v19 h=>?_;cases h)<;>refine Zg ?_)
 (refine xL 21 Z3 (xL 20 Za ?_)<;>refine Zc ?_)
 refine cX ?_ ?_<;>intro hb20
 · refine Ze ?_;(refine xL 22 Zb (xL 23 (ZR PH) ?_)<;>(refine ZJ (kk:=1) 24 Sc fun h24 ho24=>?_;refine Zr (En.freeze (l:=24) (t:=24) rfl rfl) fun _=>?_;refine Zr (KO (t:=24) (p':=pInts [0]) rfl rfl) fun _=>?_)<;>(refine ZJ (kk:=1) 25 Sc fun h25 ho25=>?_;refine Zr (En.freeze (l:=25) (t:=25) rfl rfl) fun _=>?_;refine Zr (KO (t:=25) (p':=pInts [1]) rfl rfl) fun _=>?_)<;>refine xL 26 Zb (xL 27 (Zd 2 ZbN) ?_)<;>(refine yL 28 (Zk 2 ZbO) fun v28 h=>?_;cases h)<;>(refine cS 29 (cA call67 (ZfZ acts a)) fun v29 h=>?_;cases h)<;>refine xL 30 (ZL ZfY) ?_<;>(refine YM 31 ZfX fun h31 ho31=>?_;refine Zr (En.freeze (l:=31) (t:=31) rfl rfl) fun _=>?_;refine Zr (KO (t:=31) (p':=pMvs [⟨0,1,Kf acts a⟩]) rfl rfl) fun _=>?_)<;>refine xL 32 (ZL Cv) ?_<;>(refine cP 33 (cA (call84) hm) (fun va33 vb33 hva33 hvb33=>?_) (hsh:=r5.t E);cases hvb33)<;>refine xL 34 Zi (xL 35 Zi ?_)<;>refine ZA 4 HK ?_<;>refine xL 5 Za ?_<;>refine Zc ?_)
   exact Ys (k:=5) 4 kR (results51) rfl rfl rfl (Xa rfl) dC r5.s rfl
 · exact UU rfl hb20
theorem ZbR (acts:List ByteArray) (a:ByteArray) {p0 p1 p2 p3 p4:PV} {E:Int} (r5:R5 p0 p1 p2 p3 p4) (hm:AF prog 84 [ZO (Pt acts.length)] (· = .tup [.agg [p0,p1,p2,p3,p4],pInt E])):AF prog 51 [.agg [pInt 2,Z' a,Wb []],Yj acts] (· = .tup [.agg [p0,p1,p2,p3,p4],pInt E]):=by
 obtain ⟨o0,o1,o2,o3,o4⟩:=r5.o
 refine AF.of_body 130 func51 rfl ntmps51 (Xa rfl) ?_
 intro w0 M0 vs hl hv
 obtain ⟨v0,v1,rfl⟩:=WO hl
 clear hl hv
 refine Ze ?_
 (refine ZG 2 3 fun h2=>?_<;>refine Zw [(.int .i64 0),(.int .i64 0),(.slice none 0 0),(.slice none 0 0),(.slice none 0 0)] 5 4 Cw fun h4=>?_<;>refine xL 5 Za ?_<;>refine Zg ?_)
 (refine xL 18 (Zd 2 Og) ?_<;>(refine yL 19 (Zk 2 HL) fun v19 h=>?_;cases h)<;>refine Zg ?_)
 (refine xL 21 Z3 (xL 20 Za ?_)<;>refine Zc ?_)
 refine cX ?_ ?_<;>intro hb20
 · exact UU hb20 dC
 · refine Ze ?_;(refine xL 37 Z3 (xL 36 Za ?_)<;>refine Zc ?_)
   refine cX ?_ ?_<;>intro hb36
   · refine Ze ?_;(refine xL 38 Zb (xL 39 (ZR PH) ?_)<;>(refine ZJ (kk:=1) 40 Sc fun h40 ho40=>?_;refine Zr (En.freeze (l:=40) (t:=40) rfl rfl) fun _=>?_;refine Zr (KO (t:=40) (p':=pInts [0]) rfl rfl) fun _=>?_)<;>(refine ZJ (kk:=1) 41 Sc fun h41 ho41=>?_;refine Zr (En.freeze (l:=41) (t:=41) rfl rfl) fun _=>?_;refine Zr (KO (t:=41) (p':=pInts [0]) rfl rfl) fun _=>?_)<;>(refine xL 42 (ZL Cv) ?_;refine Zr (Zli (t:=42) (p':=ZO (Pt acts.length)) rfl (ZkO acts.length)) fun _=>?_)<;>(refine cP 43 (cA (call84) hm) (fun va43 vb43 hva43 hvb43=>?_) (hsh:=r5.t E);cases hvb43)<;>refine xL 44 Zi (xL 45 Zi ?_)<;>refine ZA 4 HK ?_<;>refine xL 5 Za ?_<;>refine Zc ?_)
     exact Ys (k:=5) 4 kR (results51) rfl rfl rfl (Xa rfl) dC r5.s rfl
   · exact UU rfl hb36
theorem Kd:ElT prog 27 9 1 16 (.string ByteArray.empty):=⟨underlying27,by kernel_rfl,rfl,dC⟩
theorem LA:NoAgg prog 9=true:=by kernel_rfl
theorem KY:SlT prog 27 9 1=true:=by kernel_rfl
theorem ZiE {a b:ByteArray} (h:(a.toList==b.toList)=true):a=b:=by
 rw [beq_iff_eq,ByteArray.toList_eq,ByteArray.toList_eq] at h
 exact WideShapes.bytes_inj h
theorem Zd9 {a b:ByteArray} (h:(a.toList==b.toList)=false):a≠b:=fun e=>by
 subst e
 simp at h
theorem Zm6 {x s:ByteArray} (h:(!(Op.bytesLess x.toList s.toList||x.toList==s.toList))=true):Yn s x=true:=by
 simp only [Uy,Ud] at h
 cases h2:Yn s x
 · exact UU (Ts h.1 h2) (Zd9 h.2)
 · rfl
theorem Zls {x s:ByteArray} (h:(!(Op.bytesLess x.toList s.toList||x.toList==s.toList))=false) (hne:x≠s):Yn s x=false:=by
 cases h2:Yn s x
 · rfl
 · exfalso;simp only [Bool.not_eq_false',X3] at h;rcases h with h|h
   · have h3:Yn x s=true:=h;have:=KS h2 h3;rw [K9] at this;cases this
   · exact hne (ZiE h)
theorem RQ (e:Nat) (L:List ByteArray) (x:ByteArray):PV.own e 1 (L.length+1) (L.map Z'++[Z' x])= .own e 1 (L++[x]).length ((L++[x]).map Z'):=sM
theorem ZbS {α:Type} {p:α→Bool} {l:List α} {k:Nat} {x:α} (h:l[k]? =some x):(l.take (k+1)).any p=((l.take k).any p||p x):=by
 rw [ZE h,VK,List.any_cons,List.any_nil,Vz]
theorem ZiF {l:List ByteArray} (h:Sk l) {k:Nat} {x:ByteArray} (hx:l[k]? =some x):∀y∈l.take k,Yn y x=true:=fun y hy=>by
 obtain ⟨j,hj⟩:=X4 hy
 have hjk:j<k:=by have:=Zf hj;rw [Xx] at this;omega
 rw [X1 hjk] at hj
 obtain ⟨h1,e1⟩:=XM.1 hj
 obtain ⟨h2,e2⟩:=XM.1 hx
 have:=Up.1 h j k h1 h2 hjk
 rw [e1,e2] at this
 exact this
theorem ZbT (s:ByteArray) (m:List ByteArray):(Jy s m).length≤2*m.length+1:=by
 unfold Jy
 rw [Xb,Xb]
 have h1:=VJ (Yn · s) m
 have h2:=VJ (Yn s ·) m
 split<;>simp<;>omega
noncomputable def insR (s:ByteArray) (l:List ByteArray):List ByteArray:=open Classical in if s∈l then l else TN s l
theorem Zea {s:ByteArray} {l:List ByteArray} (h:s∈l):insR s l=l:=by unfold insR;rw [UT h]
theorem ζJ {s:ByteArray} {l:List ByteArray} (h:s∉l):insR s l=TN s l:=by unfold insR;rw [US h]
theorem Zeb {l:List ByteArray} {s:ByteArray}:insR s (canB l)=canB (l++[s]):=by
 by_cases h:s∈canB l
 · rw [Zea h];exact ZdY h
 · rw [ζJ h];exact Zif
set_option maxHeartbeats 2000000 in
theorem ZbU (l : List ByteArray) (s:ByteArray) (hl:l.length≤100000) (ha:Sk l):AF prog 97 [Yj l,Z' s] (· =Yj (insR s l)):=by
 refine AF.of_body 49 func97 rfl ntmps97 (Xa rfl) ?_
 intro w0 M0 vs hl hv
 obtain ⟨v0,v1,rfl⟩:=WO hl
 obtain rfl:=hv 1 _ _ rfl rfl
 clear hl hv
 refine Ze ?_
 (refine xL 4 Za ?_<;>refine Zg ?_)
 (refine xL 5 Za ?_<;>refine Zg ?_)
 (refine xL 6 Za ?_<;>refine Zg ?_)
 (refine xL 7 Za ?_<;>refine Zc ?_)
 refine Zx (KB 200 9 1 rfl) fun _=>?_
 refine ZD (ι:={q:Nat×Value×Bool//q.1≤l.length∧q.2.1.oneCell'=true∧s∉l.take q.1∧q.2.2=(l.take q.1).any (Yn s ·)}) (fun k=>⟨[(0,_,_),(1,_,_),(5,k.1.2.1, .val k.1.2.1),(6, .bool k.1.2.2,ZM k.1.2.2),(7, .int .i64 k.1.1,pInt k.1.1)],[(200,k.1.2.1, .own 9 1 (Jy s (l.take k.1.1)).length ((Jy s (l.take k.1.1)).map Z'))]⟩) (fun k=>l.length-k.1.1) ⟨(0, .slice none 0 0,false),Xf _,rfl,fun h=>(by cases h),rfl⟩ (fun a w H=>H.weaken ⟨rfl,rfl,rfl,rfl,rfl,trivial⟩ ⟨rfl,trivial⟩) ?_
 rintro ⟨⟨i,hv,b⟩,hi,ho,hnm,hB⟩
 dsimp only
 dsimp only at hi ho hnm hB
 have hil:=ZbT s (l.take i)
 have htl:(l.take i).length≤l.length:=by rw [Xx];omega
 refine Ze ?_
 (refine xL 8 Zb (xL 9 Zb (xL 10 (ZR KY) (xL 11 ZQ ?_)))<;>refine Zc ?_)
 refine cX ?_ ?_<;>intro hb11
 · first | exact bN hb11|(
 obtain ⟨x,hx⟩:=Zp (show i<l.length by omega);have e1:=Ym (f:=Z') hx;have hlow:=ZiF ha hx;refine Ze ?_;(refine xL 14 Zb (xL 15 Zb (xL 16 (ZF KY) ?_))<;>(refine yL 17 (Yo LA) fun v17 h=>?_;cases h)<;>refine xL 18 Zb (xL 19 Kl ?_)<;>refine Zc ?_)
 refine cX ?_ ?_<;>intro hb19
 · first|exact bN hb19|(
 refine Ze ?_;(refine xL 20 Zb (xL 4 Za ?_)<;>refine Zc ?_)
 refine Zv (results97) rfl ?_;rw [Zea (by rw [←ZiE hb19];exact Xc hx)])
 · first | exact bN hb19|(
 have hne:x≠s:=Zd9 hb19;have hnm2:s∉l.take (i+1):=by
  rw [ZE hx,Xh,Xl];rintro (h|h)
  · exact hnm h
  · exact hne h.symm
 have hil2:=ZbT s (l.take (i+1));(have htl2:(l.take (i+1)).length≤l.length:=by rw [Xx];omega);refine Ze ?_;(refine xL 21 Zb (xL 22 Yg (xL 23 Zb ?_))<;>(refine bL 23 (fun hb23=>?_) (fun hb23=>?_)<;>(first|refine kL 24 ?_|refine xL 24 Zb ?_))<;>(first|refine kL 25 ?_|refine xL 25 Zb ?_)<;>(first|refine kL 26 ?_|refine xL 26 (ZF KY) ?_)<;>(first|refine kL 27 ?_|(refine yL 27 (Yo LA) fun v27 h=>?_;cases h))<;>(first|refine kL 28 ?_|refine xL 28 Zb ?_)<;>(first|refine kL 29 ?_|refine xL 29 Zgq ?_)<;>refine xL 30 Zz ?_<;>refine Zc ?_)<;>(
 refine cX ?_ ?_<;>intro hb30
 · first |exact bN hb30|(
 (have hbf:b=false:=by simpa using hb23);have hgt:Yn s x=true:=Zm6 hb30;(have hI:Jy s (l.take i)++[s]++[x]=Jy s (l.take (i+1)):=by rw [ZE hx,ZfD (by rw [←hB,hbf]) hgt]);(have hB2:true=(l.take (i+1)).any (Yn s ·):=by rw [ZbS hx,hgt,Bool.or_true]);refine Ze ?_;(refine xL 31 Zb (xL 32 Zb ?_)<;>refine ZJ (kk:=1) 33 Kd fun h33 ho33=>?_<;>(refine ZU 200 33 34 Kd fun h34 ho34=>?_;refine Zr (Zy (l:=34) 200 rfl rfl) fun _=>?_;refine Zr (ZP (l:=200) rfl (RQ _ (Jy s (l.take i)) s)) fun _=>?_)<;>refine xL 5 Za ?_<;>refine Zg ?_)
 (refine xL 6 Za ?_<;>refine Zg ?_)
 (refine xL 35 Zb (xL 36 Zb (xL 37 Zb (xL 38 (ZF KY) ?_)))<;>(refine yL 39 (Yo LA) fun v39 h=>?_;cases h)<;>refine ZJ (kk:=1) 40 Kd fun h40 ho40=>?_<;>(refine ZU 200 40 41 Kd fun h41 ho41=>?_;refine Zr (Zy (l:=41) 200 rfl rfl) fun _=>?_;refine Zr (ZP (l:=200) rfl (RQ _ (Jy s (l.take i)++[s]) x)) fun _=>?_)<;>refine xL 5 Za ?_<;>refine Zg ?_)
 (refine xL 12 Zb (xL 13 ZH (xL 7 Za ?_))<;>refine Zc ?_)
 rw [hI]
 first
  | (exact Zn (
      ⟨(i+1,h41,true),Zf hx,ho41,hnm2,hB2⟩
      ) (by dsimp only;omega) ⟨rfl,rfl,rfl,rfl,rfl,trivial⟩ ⟨rfl,trivial⟩)
  | (exact Zn (
      ⟨(i+1,h41,b),Zf hx,ho41,hnm2,hB2⟩
      ) (by dsimp only;omega) ⟨rfl,rfl,rfl,rfl,rfl,trivial⟩ ⟨rfl,trivial⟩))
 · first |exact bN hb30|(
 have hI:Jy s (l.take i)++[x]=Jy s (l.take (i+1)):=by
  rw [ZE hx]
  cases hbc:b with
  |true=>exact (ZfF (by rw [←hB,hbc]) hlow).1.symm
  |false=>first|exact (ZfE (by rw [←hB,hbc]) (Zls hb30 hne) hne).symm|(exfalso;rw [hbc] at hb23;simp at hb23)
 have hB2:b=(l.take (i+1)).any (Yn s ·):=by
  rw [ZbS hx]
  cases hbc:b with
  |true=>rw [←hB,hbc];rfl
  |false=>first|(rw [←hB,hbc,Zls hb30 hne];rfl)|(exfalso;rw [hbc] at hb23;simp at hb23)
 refine Ze ?_;(refine xL 35 Zb (xL 36 Zb (xL 37 Zb (xL 38 (ZF KY) ?_)))<;>(refine yL 39 (Yo LA) fun v39 h=>?_;cases h)<;>refine ZJ (kk:=1) 40 Kd fun h40 ho40=>?_<;>(refine ZU 200 40 41 Kd fun h41 ho41=>?_;refine Zr (Zy (l:=41) 200 rfl rfl) fun _=>?_;refine Zr (ZP (l:=200) rfl (RQ _ (Jy s (l.take i)) x)) fun _=>?_)<;>refine xL 5 Za ?_<;>refine Zg ?_)
 (refine xL 12 Zb (xL 13 ZH (xL 7 Za ?_))<;>refine Zc ?_)
 rw [hI]
 first
  | (exact Zn (
      ⟨(i+1,h41,true),Zf hx,ho41,hnm2,hB2⟩
      ) (by dsimp only;omega) ⟨rfl,rfl,rfl,rfl,rfl,trivial⟩ ⟨rfl,trivial⟩)
  | (exact Zn (
      ⟨(i+1,h41,b),Zf hx,ho41,hnm2,hB2⟩
      ) (by dsimp only;omega) ⟨rfl,rfl,rfl,rfl,rfl,trivial⟩ ⟨rfl,trivial⟩)))))
 · first|exact bN hb11|(
 have hall:l.take i=l:=Xo oM;rw [hall] at hnm hB;refine Ze ?_;(refine xL 42 Zb (xL 43 Yg ?_)<;>refine Zc ?_)
 refine cX ?_ ?_<;>intro hb43
 · first|exact bN hb43|(
 (have hI:Jy s (l.take i)++[s]=TN s l:=by rw [hall];exact ZfG (by rw [←hB];simpa using hb43));refine Ze ?_;(refine xL 44 Zb (xL 45 Zb ?_)<;>refine ZJ (kk:=1) 46 Kd fun h46 ho46=>?_<;>(refine ZU 200 46 47 Kd fun h47 ho47=>?_;refine Zr (Zy (l:=47) 200 rfl rfl) fun _=>?_;refine Zr (ZP (l:=200) rfl (RQ _ (Jy s (l.take i)) s)) fun _=>?_)<;>refine xL 5 Za ?_<;>refine Zc ?_)
 refine Zx (ZP (l:=200) (p':= .own 9 1 (TN s l).length ((TN s l).map Z')) rfl (by rw [hI])) fun _=>?_;refine Zx (En.freeze (l:=200) (t:=5) rfl rfl) fun _=>?_;rw [Jn];(refine Zt ?_<;>refine xL 48 Zb (xL 4 Za ?_)<;>refine Zc ?_)
 refine Zv (results97) rfl ?_;rw [ζJ hnm];rfl)
 · first|exact bN hb43|(
 (have hI:Jy s (l.take i)=TN s l:=by rw [hall];exact Zic (by rw [←hB];simpa using hb43));refine nav ?_;refine Zx (ZP (l:=200) (p':= .own 9 1 (TN s l).length ((TN s l).map Z')) rfl (by rw [hI])) fun _=>?_;refine Zx (En.freeze (l:=200) (t:=5) rfl rfl) fun _=>?_;rw [Jn];(refine Zt ?_<;>refine xL 48 Zb (xL 4 Za ?_)<;>refine Zc ?_)
 refine Zv (results97) rfl ?_;rw [ζJ hnm];rfl))
theorem TS (l:List ByteArray):(canB l).length≤l.length:=by
 have h:=Ri l []
 unfold canB
 rw [JK]
 simpa using h
set_option maxHeartbeats 2000000 in
theorem PI (l m:List ByteArray) (hl:l.length≤10000) (hm:m.length≤10000):AF prog 55 [Yj (canB l),Yj m] (· =Yj (canB (l++m))):=by
 have hcl:=TS l
 have hq1:((canB l).map Z').length=(canB l).length*1:=by rw [Xd,Xw]
 have hq2:((canB l).map Z').all En.one=true:=XB.2 fun p hp=>by
  obtain ⟨x,_,rfl⟩:=Xg.1 hp;rfl
 refine AF.of_body 30 func55 rfl ntmps55 (Xa rfl) ?_
 intro w0 M0 vs hl hv
 obtain ⟨v0,v1,rfl⟩:=WO hl
 clear hl hv
 refine Ze ?_
 (refine xL 4 Za ?_<;>refine Zg ?_)
 (refine Zch 7 Kd fun h7 ho7=>?_<;>refine xL 8 Zb ?_<;>refine Sx 7 9 Kd fun h9 ho9=>?_<;>refine xL 5 Za ?_<;>refine Zc ?_)
 refine Zx (En.freeze (l:=9) (t:=5) rfl rfl) fun _=>?_
 rw [show share (PV.own 9 1 (0+(canB l).length) ([]++(canB l).map Z'))=Yj (canB (l++m.take 0)) from (by rw [Xv,Vp,Jn,XQ,Xy];rfl)]
 (refine Zt ?_<;>refine xL 6 Za ?_<;>refine Zc ?_)
 refine ZD (ι:={q:Nat×Value//q.1≤m.length}) (fun k=>⟨[(1,_,_),(5,k.1.2,Yj (canB (l++m.take k.1.1))),(6, .int .i64 k.1.1,pInt k.1.1)],[]⟩) (fun k=>m.length-k.1.1) ⟨(0,h9),Xf _⟩ (fun a w H=>H.weaken ⟨rfl,rfl,rfl,trivial⟩ trivial) ?_
 rintro ⟨⟨i,V⟩,hi⟩
 dsimp only
 dsimp only at hi
 have hcl2:=TS (l++m.take i)
 have htk:(m.take i).length≤m.length:=by rw [Xx];omega
 rw [Xb] at hcl2
 refine Ze ?_
 (refine xL 10 Zb (xL 11 Zb (xL 12 (ZR KY) (xL 13 ZQ ?_)))<;>refine Zc ?_)
 refine cX ?_ ?_<;>intro hb13
 · first | exact bN hb13|(
 obtain ⟨x,hx⟩:=Zp (show i<m.length by omega);have e1:=Ym (f:=Z') hx;refine Ze ?_;(refine xL 16 Zb (xL 17 Zb (xL 18 Zb (xL 19 (ZF KY) ?_)))<;>(refine yL 20 (Yo LA) fun v20 h=>?_;cases h)<;>(refine cS 21 (cA call22 (Zgv (canB (l++m.take i)) x)) fun v21 h=>?_;cases h)<;>refine xL 22 ZQ ?_<;>refine Zc ?_)
 refine cX ?_ ?_<;>intro hb22
 · first |exact bN hb22|(
 have hno:x∉canB (l++m.take i):=Zh9 (acts:=canB (l++m.take i)) hb22;refine Ze ?_;(refine xL 23 Zb (xL 24 Zb (xL 25 Zb (xL 26 (ZF KY) ?_)))<;>(refine yL 27 (Yo LA) fun v27 h=>?_;cases h)<;>(refine cS 28 (cA call97 (ZbU (canB (l++m.take i)) x oM (Hw _))) fun v28 h=>?_;cases h)<;>refine xL 5 Za ?_<;>refine Zg ?_)
 (refine xL 14 Zb (xL 15 ZH (xL 6 Za ?_))<;>refine Zc ?_)
 first|rw [Zeb,Xz,←ZE hx]|rw [hsame]
 first
  | (exact Zn (
      ⟨(i+1,v28),Zf hx⟩
      ) (by dsimp only;omega) ⟨rfl,rfl,rfl,trivial⟩ trivial)
  | (exact Zn (
      ⟨(i+1,V),Zf hx⟩
      ) (by dsimp only;omega) ⟨rfl,rfl,rfl,trivial⟩ trivial))
 · first |exact bN hb22|(
 have hin:x∈canB (l++m.take i):=by
  obtain ⟨j,_,h⟩:=Zmd (acts:=canB (l++m.take i)) hb22;exact Xc h
 (have hsame:canB (l++m.take i)=canB (l++m.take (i+1)):=by rw [ZdY hin,Xz,←ZE hx]);refine Ze ?_;(refine xL 14 Zb (xL 15 ZH (xL 6 Za ?_))<;>refine Zc ?_)
 first|rw [Zeb,Xz,←ZE hx]|rw [hsame]
 first
  | (exact Zn (
      ⟨(i+1,v28),Zf hx⟩
      ) (by dsimp only;omega) ⟨rfl,rfl,rfl,trivial⟩ trivial)
  | (exact Zn (
      ⟨(i+1,V),Zf hx⟩
      ) (by dsimp only;omega) ⟨rfl,rfl,rfl,trivial⟩ trivial)))
 · first|exact bN hb13|(
 rw [Xo (show m.length≤i by omega)];refine Ze ?_;(refine xL 29 Zb (xL 4 Za ?_)<;>refine Zc ?_)
 exact Zv results55 rfl rfl)
end Go.Proofs.YtgfabnhpllkebaaGreatDoor
