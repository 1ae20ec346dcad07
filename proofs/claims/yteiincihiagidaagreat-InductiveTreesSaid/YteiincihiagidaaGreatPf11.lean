/-
  Walks of functions and plain laws of the chapter, as the claim needs them.
-/
import Derived.Test.YteiincihiagidaaGreatPf10
import Derived.Test.YteiincihiagidaaGreatPf07
import Derived.Test.YteiincihiagidaaGreatPf06
import Derived.Test.YteiincihiagidaaGreatPf01
set_option linter.all false
set_option maxRecDepth 100000
set_option maxHeartbeats 8000000
namespace Go.Proofs.YteiincihiagidaaGreat
open Go.RowKit Go.Cb Go.En Tryz
theorem ZnY {α:Type} {R:α→α→Prop} {cs:List α} (h:cs.Pairwise R) (i j:Nat) (a b:α) (hij:i<j) (ha:cs[i]? =some a) (hb:cs[j]? =some b):R a b:=by
 obtain ⟨hi,rfl⟩:=Xr.1 ha
 obtain ⟨hj,rfl⟩:=Xr.1 hb
 exact XS.1 h i j hi hj hij
theorem Zgt {n:Nat} {R:Nat→Nat→Bool} {cs:List (List Int)} (h1:Zgi (upTo n) (relS R) cs=true) (h2:cs.Pairwise fun a b=>¬cmpSeq R b a<0):SeqCs n R cs:=⟨⟨cs,Lk h1,List.Perm.refl _⟩,ZnY h2⟩
theorem ZnZ {cs:List (List Int)} {i0:Nat} {c0:List Int} {W:List Int→Bool} {ds:List (List Int)} (hp:ds.Perm (selA i0 W true cs++[c0++(selA i0 W false cs).flatten])) (hs:(c0++(selA i0 W false cs).flatten).Pairwise fun a b=>a≤b) (ho:ds.Pairwise fun a b=>¬WG b-WG a<0):AndCs cs i0 c0 W ds:=by
 refine ⟨?_,ZnY ho⟩
 rw [List.mergeSort_of_pairwise (hs.imp fun h=>U9 h)]
 exact hp
theorem Zp5 {n:Nat} {E:Nat→Nat→Bool} {S F:Nat→Bool} {cs:List (List Int)} (hs:(inL n S F++(cs.filter fun c=> !O5 n E S F c).flatten).Pairwise fun a b=>a≤b):C1 n E S F cs=(inL n S F++(cs.filter fun c=> !O5 n E S F c).flatten)::cs.filter (O5 n E S F):=by
 unfold C1
 rw [List.mergeSort_of_pairwise (hs.imp fun h=>U9 h)]
theorem Zp6 {g:Dfg} (hd:TV g=true) (hm:g.acts.length≤1000) {o:Option Cut} (h0:D5 (OH (cnames g.acts) (cnames g.acts).length (LI (cnames g.acts) g.follows) (KT (cnames g.acts) g.starts) (KT (cnames g.acts) g.ends)) o):AF prog 68 [GJ g] (· = .tup [Ri o,Rj o]):=by
 obtain ⟨hf,ha,hs,he,hfo⟩:=ZpZ hd
 have hbg:=Zlm g hf ha hs he
 unfold ZbN at hbg
 rw [hd,Qb rfl] at hbg
 have hna:(cnames g.acts).length=g.acts.length:=by simp [cnames]
 have hbg':AF prog 143 [GJ g] (· = .tup [G0 (cnames g.acts) (cnames g.acts).length (LI (cnames g.acts) g.follows) (KT (cnames g.acts) g.starts) (KT (cnames g.acts) g.ends),Zc 0]):=by rw [hna];exact hbg
 have hFd:=Zfp g _ _ _ _ _ hbg' rfl oM
 refine hFd.mono fun p ⟨o',h1,h2⟩=>?_
 obtain rfl:o'=o:=Zgh (Q:=OH (cnames g.acts) (cnames g.acts).length (LI (cnames g.acts) g.follows) (KT (cnames g.acts) g.starts) (KT (cnames g.acts) g.ends)) (fun h k'=>Zkq h k') h1 h0
 exact h2
theorem ZbB {l:List Var} (h:validVars l=true):ζ5 l:=⟨by have:=Ek h;omega,fun x hx=>Zky (Zrb h x hx)⟩
theorem Zgu {l:List Var} {u:Nd} (hl:l.length≤1000000) (hb:TN l=some u):AF prog 36 [Yx l] (· = .tup [pTr u,Zc 0]):=Do l u hl (fun v h=>by rw [hb] at h;cases h;rfl) (fun x m _ h=>by rw [hb] at h;cases h)
theorem ZeI {x:Var} {l:List Var} {t:Nd} (hl:(x::l).length≤1000000) (hb:TN (x::l)=none) (hx:x.acts=[]) (hT:AF prog 36 [Yx l] (· = .tup [pTr t,Zc 0])):AF prog 36 [Yx (x::l)] (· = .tup [pTr (Ky 4 [sil,t]),Zc 0]):=
 Do (x::l) _ hl (fun v h=>by rw [hb] at h;cases h) (fun y m e _=>by cases e;exact ⟨fun _=>⟨t,hT,rfl⟩,fun h=>Qc hx h⟩)
theorem OF {x:Var} {l:List Var} {g:Dfg} {c:Cut} {out:List (List Var)} {ts:List Nd} (hv:validVars (x::l)=true) (hb:TN (x::l)=none) (hx:x.acts≠[]) (hm:Zbx (x::l) g 0) (hd:TV g=true) (hg:g.acts.length≤1000)
 (hF:D5 (OH (cnames g.acts) (cnames g.acts).length (LI (cnames g.acts) g.follows) (KT (cnames g.acts) g.starts) (KT (cnames g.acts) g.ends)) (some c)) (hs:∀p∈c.parts,∀s∈p,s.size≤140737488355328) (hp:c.parts.length≤1000000) (hsp:GA (x::l) c=(out,0))
 (h1:ts.length=out.length) (h2:2≤ts.length) (h3:ts.length≤1000000) (h4:∀r∈out,r.length≤1000000) (hT:∀(i:Nat) (r:List Var) (u:Nd),out[i]? =some r→ts[i]? =some u→AF prog 36 [Yx (TW r)] (· = .tup [pTr u,Zc 0])):AF prog 36 [Yx (x::l)] (· = .tup [pTr (Zco c.kind ts),Zc 0]):=by
 have hfit:=ZbB hv
 have hM:=ZpY (ZoW _ hfit) hm
 have hS:=ZlW _ c hfit hs hp
 unfold RSp at hS
 rw [hsp] at hS
 exact Do (x::l) _ (by have:=Ek hv;omega) (fun v h=>by rw [hb] at h;cases h) (fun y m e _=>by cases e;exact ⟨fun h=>Qc h hx,fun _=>⟨g,hM,oM, .inr ⟨c,out,ts,Zp6 hd hg hF,hS,h1,h2,h3,h4,hT,rfl⟩⟩⟩)
theorem Zcq {l:List Var} {t:Nd} (hv:validVars l=true) (hf:(l.flatMap (·.acts)).length≤40) (ho:TW l=l) (hF:FitT t) (ht:WH t=true) (hn:WH (YF t)=true) (hT:AF prog 36 [Yx l] (· = .tup [pTr t,Zc 0])):AF prog 12 [Yx l] (· = .tup [pTr (YF t),Zc 0]):=by
 have h:=Zgm l t (ZbB hv) (by have:=Ek hv;omega) hF fun _ _=>by rw [ho];exact hT
 rw [Zsb hv (XJ (ZrC l) hf) ht hn] at h
 exact h
section
variable {P:Program} {o:Oper} {st:St}
theorem Zcr {x y:Operand} {q q':PV} {t t':TypeId} {a:BA} (ho:o.op= .binOp .eql t x y t':=by exact rfl) (hx:ev st.slots x=some (.string a,q):=by exact rfl) (hy:ev st.slots y=some (.string a,q'):=by exact rfl):YE P st o (· = .bool true) (.val (.bool true)):=by
 have h:=ZbG (P:=P) ho hx hy
 rwa [beq_self_eq_true] at h
end
def chA:BA:=⟨#[97]⟩
def chB:BA:=⟨#[98]⟩
def chC:BA:=⟨#[99]⟩
def chD:BA:=⟨#[100]⟩
def vX:List Var:=[⟨[chA,chB,chD],1⟩,⟨[chA,chC,chD],1⟩]
def vX2:List Var:=[⟨[chB],1⟩,⟨[chC],1⟩]
def vY2:List Var:=[⟨[chA,chB],1⟩,⟨[chB,chA],1⟩]
def vY:List Var:=⟨[],1⟩::vY2
def vZ:List Var:=[⟨[chA],1⟩,⟨[chA,chB,chA],1⟩]
def gX:Dfg:=⟨[⟨chA,2⟩,⟨chB,1⟩,⟨chC,1⟩,⟨chD,2⟩],[⟨chA,2⟩],[⟨chD,2⟩],[⟨chA,chB,1⟩,⟨chA,chC,1⟩,⟨chB,chD,1⟩,⟨chC,chD,1⟩]⟩
def gX2:Dfg:=⟨[⟨chB,1⟩,⟨chC,1⟩],[⟨chB,1⟩,⟨chC,1⟩],[⟨chB,1⟩,⟨chC,1⟩],[]⟩
def gY:Dfg:=⟨[⟨chA,2⟩,⟨chB,2⟩],[⟨chA,1⟩,⟨chB,1⟩],[⟨chA,1⟩,⟨chB,1⟩],[⟨chA,chB,1⟩,⟨chB,chA,1⟩]⟩
def gZ:Dfg:=⟨[⟨chA,3⟩,⟨chB,1⟩],[⟨chA,2⟩],[⟨chA,2⟩],[⟨chA,chB,1⟩,⟨chB,chA,1⟩]⟩
def ctX:Cut:=⟨2,[[chA],[chB,chC],[chD]]⟩
def ZrI:Cut:=⟨1,[[chB],[chC]]⟩
def ctY:Cut:=⟨3,[[chA],[chB]]⟩
def ctZ:Cut:=⟨4,[[chA],[chB]]⟩
theorem Zp7:Zbx vX gX 0:= .inr (.inr ⟨by kernel_rfl,by decide+kernel,⟨⟨by
 rw [show (makeM vX).a.map mkC=[⟨chA,2⟩,⟨chB,1⟩,⟨chD,2⟩,⟨chC,1⟩] by kernel_rfl]
 exact ((List.Perm.swap _ _ _).cons _).cons _,by decide+kernel⟩,⟨by rw [show (makeM vX).s.map mkC=gX.starts by kernel_rfl],by decide+kernel⟩,⟨by rw [show (makeM vX).f.map mkC=gX.ends by kernel_rfl],by decide+kernel⟩,⟨by
 rw [show (makeM vX).q.map mkF=[⟨chA,chB,1⟩,⟨chB,chD,1⟩,⟨chA,chC,1⟩,⟨chC,chD,1⟩] by kernel_rfl]
 exact (List.Perm.swap _ _ _).cons _,by decide+kernel⟩⟩,rfl⟩)
theorem Zn0:Zbx vX2 gX2 0:= .inr (.inr ⟨by kernel_rfl,by decide+kernel,⟨⟨by rw [show (makeM vX2).a.map mkC=gX2.acts by kernel_rfl],by decide+kernel⟩,⟨by rw [show (makeM vX2).s.map mkC=gX2.starts by kernel_rfl],by decide+kernel⟩,⟨by rw [show (makeM vX2).f.map mkC=gX2.ends by kernel_rfl],by decide+kernel⟩,⟨by rw [show (makeM vX2).q.map mkF=gX2.follows by kernel_rfl],by decide+kernel⟩⟩,rfl⟩)
theorem Zp8:Zbx vY2 gY 0:= .inr (.inr ⟨by kernel_rfl,by decide+kernel,⟨⟨by rw [show (makeM vY2).a.map mkC=gY.acts by kernel_rfl],by decide+kernel⟩,⟨by rw [show (makeM vY2).s.map mkC=gY.starts by kernel_rfl],by decide+kernel⟩,⟨by
 rw [show (makeM vY2).f.map mkC=[⟨chB,1⟩,⟨chA,1⟩] by kernel_rfl]
 exact List.Perm.swap _ _ _,by decide+kernel⟩,⟨by rw [show (makeM vY2).q.map mkF=gY.follows by kernel_rfl],by decide+kernel⟩⟩,rfl⟩)
theorem Zp9:Zbx vZ gZ 0:= .inr (.inr ⟨by kernel_rfl,by decide+kernel,⟨⟨by rw [show (makeM vZ).a.map mkC=gZ.acts by kernel_rfl],by decide+kernel⟩,⟨by rw [show (makeM vZ).s.map mkC=gZ.starts by kernel_rfl],by decide+kernel⟩,⟨by rw [show (makeM vZ).f.map mkC=gZ.ends by kernel_rfl],by decide+kernel⟩,⟨by rw [show (makeM vZ).q.map mkF=gZ.follows by kernel_rfl],by decide+kernel⟩⟩,rfl⟩)
theorem Zqa:D5 (OH (cnames gX.acts) (cnames gX.acts).length (LI (cnames gX.acts) gX.follows) (KT (cnames gX.acts) gX.starts) (KT (cnames gX.acts) gX.ends)) (some ctX):=
 .inl ⟨1,ctX,dC,fun j hj=>by
  obtain rfl:j=0:=oM;exact ⟨[[0,1,2,3]],Lk (by decide+kernel),rfl⟩,⟨[[0],[1,2],[3]],Zgt (by decide+kernel) (by decide+kernel),rfl⟩,rfl⟩
theorem Zn1:D5 (OH (cnames gX2.acts) (cnames gX2.acts).length (LI (cnames gX2.acts) gX2.follows) (KT (cnames gX2.acts) gX2.starts) (KT (cnames gX2.acts) gX2.ends)) (some ZrI):=
 .inl ⟨0,ZrI,dC,fun j hj=>Qc hj (Ut j),⟨[[0],[1]],Lk (by decide+kernel),rfl⟩,rfl⟩
theorem Zqb:D5 (OH (cnames gY.acts) (cnames gY.acts).length (LI (cnames gY.acts) gY.follows) (KT (cnames gY.acts) gY.starts) (KT (cnames gY.acts) gY.ends)) (some ctY):=
 .inl ⟨2,ctY,dC,fun j hj=>by
  match j,hj with
  |0,_=>exact ⟨[[0,1]],Lk (by decide+kernel),rfl⟩
  |1,_=>exact ⟨[[0,1]],Zgt (by decide+kernel) (by decide+kernel),rfl⟩
  |j+2,hj=>omega,⟨[[0],[1]],Lk (by decide+kernel), .inr ⟨0,[0],[[0],[1]],rfl,by decide+kernel,ZnZ (by decide+kernel) (by decide+kernel) (by decide+kernel),rfl⟩⟩,rfl⟩
theorem Zqc:D5 (OH (cnames gZ.acts) (cnames gZ.acts).length (LI (cnames gZ.acts) gZ.follows) (KT (cnames gZ.acts) gZ.starts) (KT (cnames gZ.acts) gZ.ends)) (some ctZ):=
 .inl ⟨3,ctZ,dC,fun j hj=>by
  match j,hj with
  |0,_=>exact ⟨[[0,1]],Lk (by decide+kernel),rfl⟩
  |1,_=>exact ⟨[[0,1]],Zgt (by decide+kernel) (by decide+kernel),rfl⟩
  |2,_=>exact ⟨[[0],[1]],Lk (by decide+kernel), .inr ⟨0,[0],[[0,1]],rfl,by decide+kernel,ZnZ (by decide+kernel) (by decide+kernel) (by decide+kernel),rfl⟩⟩
  | j+3,hj=>omega, .inr ⟨[[1]],by decide+kernel,Lk (by decide+kernel),by
    rw [Zp5 (by decide+kernel)];kernel_rfl⟩,rfl⟩
def tX2:Nd:=Ky 4 [lf chB,lf chC]
def tX:Nd:=Ky 3 [lf chA,tX2,lf chD]
def tY2:Nd:=Ky 5 [lf chA,lf chB]
def tY:Nd:=Ky 4 [sil,tY2]
def tZ:Nd:=Ky 6 [lf chA,lf chB]
theorem Hx {ps:List (List BA)} (h:ps.all fun p=>p.all fun s=>decide (s.size≤100)):∀p∈ps,∀s∈p,s.size≤140737488355328:=fun p hp s hs=>by
 have:=Qd (Xm.1 (Xm.1 h p hp) s hs)
 omega
theorem Cf {out:List (List Var)} (h:out.all fun r=>decide (r.length≤100)):∀r∈out,r.length≤1000000:=fun r hr=>by
 have:=Qd (Xm.1 h r hr)
 omega
theorem S1 (s:BA) (n:Int):AF prog 36 [Yx (TW [⟨[s],n⟩])] (· = .tup [pTr (lf s),Zc 0]):=Zgu (show 1≤1000000 by decide) rfl
theorem Zn2:AF prog 36 [Yx vX2] (· = .tup [pTr tX2,Zc 0]):=
 OF (c:=ZrI) (out:=[[⟨[chB],1⟩],[⟨[chC],1⟩]]) (ts:=[lf chB,lf chC]) kR rfl (by intro h;cases h) Zn0 kR dC Zn1 (Hx (by decide+kernel)) dC kR rfl dC dC (Cf (by decide+kernel)) fun i r u hr hu=>by
  match i with
  |0=>cases hr;cases hu;exact S1 chB 1
  |1=>cases hr;cases hu;exact S1 chC 1
  |i+2=>simp at hr
theorem Zqd:AF prog 36 [Yx vX] (· = .tup [pTr tX,Zc 0]):=
 OF (c:=ctX) (out:=[[⟨[chA],2⟩],vX2,[⟨[chD],2⟩]]) (ts:=[lf chA,tX2,lf chD]) kR rfl (by intro h;cases h) Zp7 kR dC Zqa (Hx (by decide+kernel)) dC kR rfl dC dC (Cf (by decide+kernel)) fun i r u hr hu=>by
  match i with
  |0=>cases hr;cases hu;exact S1 chA 2
  |1=>cases hr;cases hu;exact Zn2
  |2=>cases hr;cases hu;exact S1 chD 2
  |i+3=>simp at hr
theorem Zn3:AF prog 36 [Yx vY2] (· = .tup [pTr tY2,Zc 0]):=
 OF (c:=ctY) (out:=[[⟨[chA],2⟩],[⟨[chB],2⟩]]) (ts:=[lf chA,lf chB]) kR rfl (by intro h;cases h) Zp8 kR dC Zqb (Hx (by decide+kernel)) dC kR rfl dC dC (Cf (by decide+kernel)) fun i r u hr hu=>by
  match i with
  |0=>cases hr;cases hu;exact S1 chA 2
  |1=>cases hr;cases hu;exact S1 chB 2
  |i+2=>simp at hr
theorem Zqe:AF prog 36 [Yx vY] (· = .tup [pTr tY,Zc 0]):=ZeI dC rfl rfl Zn3
theorem Zqf:AF prog 36 [Yx vZ] (· = .tup [pTr tZ,Zc 0]):=
 OF (c:=ctZ) (out:=[[⟨[chA],3⟩],[⟨[chB],1⟩]]) (ts:=[lf chA,lf chB]) kR rfl (by intro h;cases h) Zp9 kR dC Zqc (Hx (by decide+kernel)) dC kR rfl dC dC (Cf (by decide+kernel)) fun i r u hr hu=>by
  match i with
  |0=>cases hr;cases hu;exact S1 chA 3
  |1=>cases hr;cases hu;exact S1 chB 1
  |i+2=>simp at hr
def txX:BA:=⟨#[115,101,113,40,97,44,32,120,111,114,40,98,44,32,99,41,44,32,100,41]⟩
def txY:BA:=⟨#[120,111,114,40,40,41,44,32,97,110,100,40,97,44,32,98,41,41]⟩
def txZ:BA:=⟨#[108,111,111,112,40,97,44,32,98,41]⟩
theorem ZkI (i:Nat) {p p':PV} {cs:List PV} (h1:(PV.val (.slice none 0 0)::cs)[i]? =some p) (h2:(PV.sl 0 []::cs)[i]? =some p'):p'=p∨(p= .val (.slice none 0 0)∧p'= .sl 0 []):=by
 match i with
 |0=>cases h1;cases h2;exact .inr ⟨rfl,rfl⟩
 |i+1=>rw [VO] at h1 h2;rw [h1] at h2;cases h2;exact .inl rfl
theorem ZkJ:AF prog 4 [] (· =Zv true):=by
 have e0:∀u:Nd,pTr u= .agg [Zc u.op,Zt u.act,Yt u.l]:=fun _=>rfl
 have dX:=Zcq (l:=vX) (t:=tX) kR (by decide+kernel) rfl (Oy _ (by decide+kernel) (by decide+kernel)) (by decide+kernel) (by decide+kernel) Zqd
 have dY:=Zcq (l:=vY) (t:=tY) kR (by decide+kernel) rfl (Oy _ (by decide+kernel) (by decide+kernel)) (by decide+kernel) (by decide+kernel) Zqe
 have dZ:=Zcq (l:=vZ) (t:=tZ) kR (by decide+kernel) rfl (Oy _ (by decide+kernel) (by decide+kernel)) (by decide+kernel) (by decide+kernel) Zqf
 have fX:=Oz (t:=tX) (by decide+kernel) (by decide+kernel)
 have fY:=Oz (t:=tY) (by decide+kernel) (by decide+kernel)
 have fZ:=Oz (t:=tZ) (by decide+kernel) (by decide+kernel)
 have xX:=Em _ fX
 have xY:=Em _ fY
 have xZ:=Em _ fZ
 rw [show ZeH (YF tX)=(txX,0) by kernel_rfl] at xX
 rw [show ZeH (YF tY)=(txY,0) by kernel_rfl] at xY
 rw [show ZeH (YF tZ)=(txZ,0) by kernel_rfl] at xZ
 generalize YF tX=uX at dX xX
 generalize YF tY=uY at dY xY
 generalize YF tZ=uZ at dZ xZ
 rw [e0] at dX dY dZ xX xY xZ
 refine AF.of_body 78 func4 rfl ntmps4 (Xa rfl) ?_
 intro w0 M0 vs hl hv
 obtain rfl:=XB hl
 clear hl hv
 refine YK ?_
 refine Ly (xs:=[_,_,_]) 14 ZW fun h14 ho14=>?_;refine Zp (En.freeze (l:=14) (t:=14) rfl rfl) fun _=>?_;refine xM (ZX Gw) ?_;refine Ly (xs:=[_,_,_]) 16 ZW fun h16 ho16=>?_;refine Zp (En.freeze (l:=16) (t:=16) rfl rfl) fun _=>?_;refine xM (ZX Gw) ?_;refine Sz (kk:=2) (xs:=[_,_]) (cs:=[[_,_],[_,_]]) 18 Gq fun h18 ho18=>?_;refine Zp (En.freeze (l:=18) (t:=18) rfl rfl) fun _=>?_;refine Zp (Kt (t:=18) (p':=Yx vX) rfl rfl) fun _=>?_;refine cP 19 (cA call12 (dX)) fun va19 vb19 hva19 hvb19=>?_;cases hvb19;refine Y' ?_;refine Zx zT 3 1 Wl fun h1=>?_;refine Zu 1 Zk ?_;refine ZQ ?_
 refine xM (ZX Gw) ?_<;>(refine Ly (xs:=[_,_]) 24 ZW fun h24 ho24=>?_;refine Zp (En.freeze (l:=24) (t:=24) rfl rfl) fun _=>?_)<;>refine xM (ZX Gw) ?_<;>(refine Ly (xs:=[_,_]) 26 ZW fun h26 ho26=>?_;refine Zp (En.freeze (l:=26) (t:=26) rfl rfl) fun _=>?_)<;>refine xM (ZX Gw) ?_<;>(refine Sz (kk:=2) (xs:=[_,_,_]) (cs:=[[_,_],[_,_],[_,_]]) 28 Gq fun h28 ho28=>?_;refine Zp (Ej (l:=28) (vY.flatMap WM) rfl rfl (fun i p p' h1 h2=>ZkI i h1 h2)) fun _=>?_;refine Zp (En.freeze (l:=28) (t:=28) rfl rfl) fun _=>?_;refine Zp (Kt (t:=28) (p':=Yx vY) rfl rfl) fun _=>?_)<;>(refine cP 29 (cA call12 (dY)) fun va29 vb29 hva29 h=>?_;cases h)<;>refine Y' ?_<;>refine Zx zT 3 3 Wl fun h3=>?_<;>refine Zu 3 Zk ?_<;>refine ZQ ?_
 refine Wx (kk:=1) 33 ZW fun h33 ho33=>?_;refine Zp (En.freeze (l:=33) (t:=33) rfl rfl) fun _=>?_;refine xM (ZX Gw) ?_;refine Ly (xs:=[_,_,_]) 35 ZW fun h35 ho35=>?_;refine Zp (En.freeze (l:=35) (t:=35) rfl rfl) fun _=>?_;refine xM (ZX Gw) ?_;refine Sz (kk:=2) (xs:=[_,_]) (cs:=[[_,_],[_,_]]) 37 Gq fun h37 ho37=>?_;refine Zp (En.freeze (l:=37) (t:=37) rfl rfl) fun _=>?_;refine Zp (Kt (t:=37) (p':=Yx vZ) rfl rfl) fun _=>?_;refine cP 38 (cA call12 (dZ)) fun va38 vb38 hva38 hvb38=>?_;cases hvb38;refine Y' ?_;refine Zx zT 3 5 Wl fun h5=>?_;refine Zu 5 Zk ?_;refine ZQ ?_
 refine yU (Zj 1 Zk) fun v42=>?_;refine cP 43 (cA call13 (xX)) fun va43 vb43 hva43 hvb43=>?_;cases hva43;cases hvb43;refine JY ?_;refine Yc ?_
 refine yU (Zj 3 Zk) fun v47=>?_;refine cP 48 (cA call13 (xY)) fun va48 vb48 hva48 hvb48=>?_;cases hva48;cases hvb48;refine JY ?_;refine Yc ?_
 refine yU (Zj 5 Zk) fun v52=>?_;refine cP 53 (cA call13 (xZ)) fun va53 vb53 hva53 hvb53=>?_;cases hva53;cases hvb53;refine JY ?_;refine Yc ?_
 (refine xL 56 Za (xL 57 ζF (xL 58 Za (xL 59 Za (xL 60 ζF (xL 61 GW (xL 62 Za (xL 63 Za (xL 64 ζF (xL 65 GW (xL 66 Za (xL 67 Za (xL 68 Zcr (xL 69 GW (xL 70 Za (xL 71 Za (xL 72 Zcr (xL 73 GW (xL 74 Za (xL 75 Za (xL 76 Zcr (xL 77 GW (xL 0 Wv ?_))))))))))))))))))))))<;>refine ZF ?_)<;>(
 exact Zf results4 rfl rfl)
theorem Eo:NoAgg prog 44=true:=kR
theorem ZkK:(prog.info? 44).map (·.size)=some 1:=kR
theorem Zn4:ZeroT prog 3 (.int .i64 0):=by unfold ZeroT;kernel_rfl
theorem ZkL:ZeroT prog 44 .nilFunc:=by unfold ZeroT;kernel_rfl
section
variable {P:Program} {o:Oper} {st:St}
theorem ZrJ {x y:Operand} {q q':PV} {t t':TypeId} {k:IntKind} {a:Int} (ho:o.op= .binOp .neq t x y t':=by exact rfl) (hx:ev st.slots x=some (.int k a,q):=by exact rfl) (hy:ev st.slots y=some (.int k a,q'):=by exact rfl):YE P st o (· = .bool false) (.val (.bool false)):=by
 have h:=Pa (P:=P) ho hx hy
 rwa [U' (fun h=>h rfl)] at h
theorem ZrK {x y:Operand} {t t':TypeId} {a:Bool} {q q':PV} (hu:P.underlying t=some .bool) (ho:o.op= .binOp .eql t x y t':=by exact rfl) (hx:ev st.slots x=some (.bool a,q):=by exact rfl) (hy:ev st.slots y=some (.bool a,q'):=by exact rfl):YE P st o (· = .bool true) (.val (.bool true)):=by
 have:=ZkR hu ho hx hy
 rw [beq_self_eq_true] at this
 exact this
end
theorem Zqg {sL hP:List (Nat×Ent)} {t:Nat} {v:Value} {p:PV} (ht:lk sL t=some (v,p)):J1 (⟨sL,hP⟩:St) (fun _:Unit=>⟨put t (v, .val v) sL,hP⟩):=fun c a w ⟨F,H⟩=>⟨(),F,Zb2 H ht (.val v)⟩
def lgF (h5 h6:Value):Value:= .func (.func 14) #[] #[ZD (Zr h5) 0,ZD (Zr h6) 0]
def lgH (h5 h6:Value) (n:Int):List (Nat×Ent):=[(1001,h6, .own 44 1 1 [.val (lgF h5 h6)]),(1000,h5, .own 3 1 1 [Zc n])]
def LgR (h5 h6:Value) (v:Value) (p:PV) (h:List (Nat×Ent)):Prop:=v= .tuple #[]∧p= .val (.tuple #[])∧∃n:Int,-1≤n∧n≤12∧h=lgH h5 h6 n
theorem ZkM (s:BA):AF prog 15 [Zt s] (· =Zv (decide ((100:Int)<(s.size:Int)))):=by
 refine AF.b1 6 func15 rfl ntmps15 (Xa rfl) ?_
 rintro w0 M0 _ rfl
 refine YK ?_
 refine xL 3 Za (xL 4 (Pu underlying9) (xL 5 Rc (xL 2 Wv ?_)));refine ZF ?_
 exact Zf results15 rfl rfl
theorem Zgv (h5 h6:Value):∀t:Nd,FitT t→∀(tv:Value) (d n:Int),0≤d→d≤30→0≤n→n≤12→AFh False prog 14 [(0,tv,pTr t),(1, .int .i64 d,Zc d),(2,ZD (Zr h5) 0, .val (ZD (Zr h5) 0)),(3,ZD (Zr h6) 0, .val (ZD (Zr h6) 0))] [(1001,h6, .own 44 1 1 [.val (lgF h5 h6)]),(1000,h5, .own 3 1 1 [Zc n])] (LgR h5 h6):=Nd.ind fun o a l ih hf tv d n hd0 hd hn0 hn=>by
 have ea:pTr (.mk o a l)= .agg [Zc o,Zt a,Yt l]:=rfl
 have hll:l.length≤140737488355328:=hf.len
 rw [ea]
 refine AFh.of_body 36 func14 rfl ntmps14 (Xa rfl) rfl ?_
 intro w0 M0 N0
 refine Zh ?_
 refine ZV 4 3 fun h4=>?_;refine Yc ?_
 refine yV (Ze 1000 ZM) ?_;refine Yv ?_;refine GC 1000 ZM Hu ?_;refine Yc ?_
 (refine Y' ?_<;>(refine bLd 11 (fun hb11=>?_) (fun hb11=>?_)<;>(first|refine kL ?_|refine xM (Zb 4 Ld) ?_))<;>(first|refine kL ?_|refine yV (Ze 4 ZK) ?_)<;>(first|refine kL ?_|(refine cV (cA call15 (ZkM a)) ?_))<;>refine ZB ?_)<;>(
 refine KI (fun n:{n:Int// -1≤n∧n≤12∧(d=0→n<0)}=>⟨[(1, .int .i64 d,Zc d),(2,ZD (Zr h5) 0, .val (ZD (Zr h5) 0)),(3,ZD (Zr h6) 0, .val (ZD (Zr h6) 0)),(4,ZD (Zr h4) 0, .val (ZD (Zr h4) 0))],[(4,h4, .own 24 3 1 [Zc o,Zt a,Yt l]),(1001,h6, .own 44 1 1 [.val (lgF h5 h6)]),(1000,h5, .own 3 1 1 [Zc n.1])]⟩) ?_ ?_
 · refine cX ?_ ?_<;>intro hb15
   · (
 refine Zh ?_;refine Zk9 1000 0 ZM Hu ?_;refine ZF ?_
 first
  |exact ZS ⟨-1,oM,oM,fun _=>oM⟩ sB sB
  |exact ZS ⟨n-1,oM,oM,fun h=>oM⟩ sB sB)
   · first|exact bN hb15|(
 refine nav ?_
 exact ZS ⟨n-1,oM,oM,fun h=>oM⟩ sB sB)
 · rintro ⟨m,hm1,hm2,hm3⟩;dsimp only;refine ZI ?_;refine Yd (ι:={q:Nat×Int//q.1≤l.length∧-1≤q.2∧q.2≤12∧(d=0→q.2<0)}) (fun k=>⟨[(1,_,_),(2,_,_),(3,_,_),(4,_,_),(6, .int .i64 k.1.1,Zc k.1.1)],[(4,_,_),(1001,_,_),(1000,h5, .own 3 1 1 [Zc k.1.2])]⟩) (fun k=>l.length-k.1.1) ⟨(0,m),Xg _,hm1,hm2,hm3⟩ ?_;rintro ⟨⟨i,m2⟩,hi,hk1,hk2,hk3⟩;dsimp only;dsimp only at hi hk1 hk2 hk3;refine Zh ?_;(refine xL 16 Za (xL 17 (Zb 4 Yj) ?_)<;>refine yU (Ze 4 YT) fun v18=>?_<;>refine xL 19 (Zy Yw) (xL 20 Wq (xL 21 Za ?_))<;>(refine bLd 21 (fun hb21=>?_) (fun hb21=>?_)<;>(first|refine kL ?_|refine yV (Ze 1000 ZM) ?_))<;>refine Wz ?_)<;>(
 refine cX ?_ ?_<;>intro hb24
 · first|exact bN hb24|(
 obtain ⟨y,hy⟩:=gS l i;have e1:((Z9 l).drop (i*3)).take 3=[Zc y.op,Zt y.act,Yt y.l]:=ZT hy;have e2:=Yg hy;have hym:=Xc hy;(have hdn:d≠0:=fun h=>by have:=hk3 h;omega);refine nav ?_;(refine We [8,8] [4,1001] ?_<;>(refine yDT 0 27 rfl (Ze 1001 Eo) fun v27 h=>?_;cases h)<;>refine xDT 1 28 rfl (Zb 4 Yj) ?_<;>(refine yDT 2 29 rfl (Ze 4 YT) fun v29 h=>?_;cases h)<;>refine xDT 3 30 rfl Za ?_<;>refine xDT 4 31 rfl (Zg Yw) ?_<;>(refine yDT 5 32 rfl (YD Zk) fun v32 h=>?_;cases h)<;>refine gEx 6 ?_<;>refine gEx 7 ?_<;>(refine Z6 8 kR ?_)<;>(refine Kj rfl rfl kR fun DQ bk=>?_)<;>(refine Zl8 [4] 35 (call14) (ih y hym (hf.p y hym) v32 (d-1) m2 oM oM oM hk2) ?_;rintro v35 p35 hp35 ⟨rfl,rfl,m3,hm31,hm32,rfl⟩)<;>refine Ww (bk _ (nav ?_))<;>try dsimp only)
 refine OY ?_;refine Yh (
  ⟨(i+1,m3),by show i+1≤l.length;omega,hm31,hm32,fun h=>Qc h hdn⟩
  ))
 · (
 refine nav ?_;exact TR (lgH h5 h6 m2) results14 sB ⟨rfl,rfl,m2,hk1,hk2,rfl⟩)))
theorem ZkN (t:Nd) (hf:FitT t):AF prog 5 [pTr t,Zc 12] (fun p=>∃b:Bool,p=Zv b):=by
 have ea:pTr t= .agg [Zc t.op,Zt t.act,Yt t.l]:=rfl
 rw [ea]
 refine AF.b2 14 func5 rfl ntmps5 (Xa rfl) fun w0 M0 v0 v1 _ _=>?_
 refine Zh ?_
 refine ZV 2 3 fun h2=>?_;refine LA ?_;refine Zx [(.int .i64 0)] 1 5 Zn4 fun h5=>?_;refine GC 5 ZM Hu ?_;refine Yc ?_
 refine Zx [.nilFunc] 1 6 ZkL fun h6=>?_;refine Yc ?_
 refine xM (TP) ?_;refine Zp (Zqg (t:=8) rfl) fun _=>?_;refine GC 6 Eo ZkK ?_;refine ZF ?_
 refine Zq (Zz (l:=5) 1000 rfl rfl) fun _=>?_
 refine Zq (Zz (l:=6) 1001 rfl rfl) fun _=>?_
 refine Zi ?_;refine yV (Ze 1001 Eo) ?_;refine yU (Zj 2 Zk) fun v10=>?_;refine JZ [(2,h2, .own 24 3 1 [Zc t.op,Zt t.act,Yt t.l]),(1001,h6, .own 44 1 1 [.val (lgF h5 h6)]),(1000,h5, .own 3 1 1 [Zc 12])] sB ?_;refine Zl8 [2] 11 (call14) (Zgv h5 h6 t hf v10 30 12 dC dC dC dC) ?_;rintro v11 p11 hp11 ⟨rfl,rfl,m3,hm31,hm32,rfl⟩;refine Yc ?_
 refine yV (Ze 1000 ZM) ?_;refine YJ ?_
 exact Zf results5 rfl ⟨_,rfl⟩
theorem Zn5:∀(n:Nat) (a b w:List BA),a.length+b.length=n→w∈mixW a b→∀s∈w,s∈a∨s∈b:=by
 intro n
 induction n using Nat.strongRecOn with
 | ind n ih=>
   intro a b w hn hw s hs;match a,b with
   |[],b=>rw [JE,Xn] at hw;subst hw;exact .inr hs
   |x::a,[]=>rw [J6,Xn] at hw;subst hw;exact .inl hs
   | x ::a,y::b=>
     rcases (JD _ _ _ _ _).1 hw with ⟨u,hu,rfl⟩|⟨u,hu,rfl⟩
     · rcases Xk.1 hs with rfl|hs
       · exact .inl (Xs ..)
       · exact (ih (a.length+(y::b).length) (by simp at hn ⊢;omega) a (y::b) u rfl hu s hs).imp (Xw _) id
     · rcases Xk.1 hs with rfl|hs
       · exact .inr (Xs ..)
       · exact (ih ((x::a).length+b.length) (by simp at hn ⊢;omega) (x::a) b u rfl hu s hs).imp id (Xw _)
theorem Zgw {S T:List (List BA)} (hS:NmS S) (hT:NmS T):NmS (Gu S T):=fun w hw s hs=>by
 obtain ⟨a,ha,b,hb,rfl⟩:=Wd.1 hw
 exact (Xd.1 hs).elim (hS a ha s) (hT b hb s)
theorem Zqh {o:Int} {S T:List (List BA)} (hS:NmS S) (hT:NmS T):NmS (Jf o S T):=by
 unfold Jf
 split
 · exact Zgw hS hT
 · intro w hw s hs;obtain ⟨a,ha,b,hb,h⟩:=TE.1 hw;exact (Zn5 _ a b w rfl h s hs).elim (hS a ha s) (hT b hb s)
theorem Zsd:∀t:Nd,okT t=true→NmS (wT t):=Nd.ind fun o a l ih hok=>by
 obtain ⟨hr,hp⟩:=Y3.1 hok
 simp only [Nd.l] at hp
 have hl:∀p∈l.map wT,NmS p:=fun p hp'=>by
  obtain ⟨x,hx,rfl⟩:=Xh.1 hp';exact ih x hx (hp x hx)
 have hg:∀i:Nat,NmS ((l.map wT)[i]?.getD []):=fun i=>by
  cases h:(l.map wT)[i]? with
  |none=>intro w hw;cases hw
  |some p=>exact hl p (Xc h)
 rw [wT,R6]
 split
 · rename_i h1;intro w hw s hs;rw [Xn] at hw;subst hw;rw [Xn] at hs;subst hs h1;have h9:rightT (.mk 1 s l)=(l.isEmpty&&isName s):=rfl;rw [h9,Xi] at hr;exact hr.2
 · unfold ζv;split
   · intro w hw;obtain ⟨p,hp',hw⟩:=Vb.1 hw;exact hl p hp' w hw
   · split
     · unfold ZdN;intro w hw;exact (Xd.1 hw).elim (Zgw (Zgw (hg 0) (hg 1)) (hg 0) w) (hg 0 w)
     · have key:∀(ps:List (List (List BA))) (S:List (List BA)),(∀p∈ps,NmS p)→NmS S→NmS (ps.foldl (Jf o) S):=fun ps=>by
        induction ps with
        |nil=>exact fun S _ h=>h
        |cons p ps ihp=>exact fun S h1 h2=>ihp _ (fun q hq=>h1 q (Xw _ hq)) (Zqh h2 (h1 p (Xs ..)))
       exact key _ _ hl fun w hw s hs=>by rw [Xn] at hw;subst hw;cases hs
theorem ZeJ (t:Nd):ζ5 (Hq t).1:=by
 have nil:ζ5 []:=⟨Xg _,fun x h=>by cases h⟩
 unfold Hq
 split
 · rename_i hv;split
   · exact nil
   · rename_i hq;split
     · exact nil
     · rename_i hb;have hG:=Zcp t;rcases ZbY t (JU hv) (VN.2 hq) with ⟨h1,_⟩|⟨h1,_,h2,_⟩
       · exact Qc h1 hb
       · have hG2:=(hG.ok h1).2.2;refine ⟨by have:=hG.len;rw [Xb];omega,fun x hx=>?_⟩;obtain ⟨w,hw,rfl⟩:=Xh.1 hx;refine ⟨⟨by have:=hG2 w hw;show w.length≤_;omega,fun s hs=>?_⟩,show (-9223372036854775808:Int)≤1 by decide,show (1:Int)≤9223372036854775807 by decide⟩;have:=T6 (Zsd t (JU hv) w ((h2 w).1 hw) s hs);omega
 · exact nil
theorem ζ1:∀l:List Var,K5 l l=true
 |[]=>rfl
 | x::l=>by
   rw [K5,ζ1 l];unfold Dx;rw [YH.2 rfl];simp
theorem Zgx (t:Nd) (hf:FitT t):AF prog 3 [pTr t] (· =Zv true):=by
 have ea:pTr t= .agg [Zc t.op,Zt t.act,Yt t.l]:=rfl
 have hC:(WH t=false∧AF prog 6 [pTr t] (· = .tup [Zv false,Zc 1]))∨(WH t=true∧AF prog 6 [pTr t] (· = .tup [Zv (clsT t),Zc 0])):=by
  have h:=ZnU t hf
  cases hv:WH t with
  |false=>rw [hv,Qa dC] at h;exact .inl ⟨rfl,h⟩
  |true=>rw [hv,Qb rfl] at h;exact .inr ⟨rfl,h⟩
 have hP:=Zek t hf
 have hR:=Zaj t hf
 have hS:=ES _ _ (ZeJ t) (ZeJ t)
 rw [ζ1] at hS
 have hRV:∀b,WH t=b→AF prog 10 [pTr t] (· =Zv b):=fun b hb=>by rw [←hb];exact Ea t hf
 rw [ea] at hC hP hR hRV ⊢
 refine AF.b1 54 func3 rfl ntmps3 (Xa rfl) fun w0 M0 v0 _=>?_
 refine Zh ?_
 refine ZV 1 3 fun h1=>?_;refine ZQ ?_
 refine cV (cA call4 (ZkJ)) ?_;refine xL (v:= .bool false) (p:= .val (.bool false)) 10 (DI (b:=true)) ?_;refine ZF ?_
 refine cCf ?_
 refine Zh ?_
 refine yU (Zj 1 Zk) fun v11=>?_;refine cDx (ι:=Bool) (p:=fun b=>Zv b) 12 (cA (call5) (ZkN t hf)) (fun b12 v12 hv12=>?_) (fun _=>rfl);cases hv12;refine ZR ?_ ?_<;>intro hb12
 · (
 refine ZI ?_;exact Zf results3 rfl rfl)
 · (
 refine Zh ?_;(refine yU (Zj 1 Zk) fun v14=>?_<;>(rcases hC with ⟨hv,hC⟩|⟨hv,hC⟩<;>(refine cP 15 (cA call6 hC) fun va15 vb15 hva15 hvb15=>?_;cases hva15;cases hvb15))<;>refine JY ?_<;>refine ZF ?_)<;>(
 refine Zi ?_;refine yU (Zj 1 Zk) fun v19=>?_;refine cP 20 (cA call7 (hP)) fun va20 vb20 hva20 hvb20=>?_;cases hvb20;refine JY ?_;refine Yc ?_;refine yU (Zj 1 Zk) fun v24=>?_;refine cP 25 (cA call8 (hR)) fun va25 vb25 hva25 hvb25=>?_;cases hvb25;refine JY ?_;refine Yc ?_;(refine YW ?_<;>(refine cV (cA call9 (hS)) ?_)<;>refine xL (v:= .bool false) (p:= .val (.bool false)) 31 (DI (b:=true)) ?_<;>refine xL 32 Za (xL 33 Za (xL 34 Za (xL 35 ZrJ (xL 36 GW ?_))))<;>refine ZF ?_)<;>(
 refine cX ?_ ?_<;>intro hb36
 · exact bN hb36
 · (
 refine Zh ?_;refine yU (Zj 1 Zk) fun v37=>?_<;>(refine cV (cA call10 (hRV _ hv)) ?_)<;>(first|refine xL (v:= .bool true) (p:= .val (.bool true)) 39 (DI (b:=false)) ?_|refine xL (v:= .bool false) (p:= .val (.bool false)) 39 (DI (b:=true)) ?_)<;>refine ZF ?_;refine cX ?_ ?_<;>intro hb39
 · first|exact bN hb39|(
 refine Zh ?_;(refine xL 40 Za (xL 41 ζF (xL 42 Za (xL 43 Za ?_)))<;>refine xL (v:= .bool true) (p:= .val (.bool true)) 44 (DI (b:=false)) ?_<;>refine YJ ?_)<;>(
 exact Zf results3 rfl rfl))
 · first|exact bN hb39|(
 refine Zh ?_;(refine xL 46 Za (xL 47 ζF (xL 48 Za (xL 49 Za ?_)))<;>refine yU (Zj 1 Zk) fun v50=>?_<;>(refine cV (cA call11 (Zgr t hf hv)) ?_)<;>refine xL 52 (ZrK underlying4) (xL 53 GW (xL 2 Wv ?_))<;>refine ZF ?_)<;>(
 exact Zf results3 rfl rfl))))))
open Go.RowKit Go.Cb Go.En Go.ChangeShapes Go.WideShapes Go.ChangeAt
theorem Zse:Dec prog 3 1 (fun n:Int=>[Zc n]) (fun n=> -9223372036854775808≤n∧n≤9223372036854775807):=ZoK underlying3 kR
theorem Zsf:Dec prog 9 1 (fun s:BA=>[Zt s]) (fun s=>s.size≤140737488355328):=ZoL underlying9 kR
theorem ZkO (fuel:Nat):ZbZ prog 24 3 cN FitT fuel:=by
 induction fuel using Nat.strongRecOn with
 | _ fuel ih=>
   intro H e w spare held cs x h hwt;obtain ⟨xs,n,rfl,rfl,hlen,hxl,hf⟩:=DataW.trod_struct underlying24 h;simp only [DataW.weights,underlying24] at hwt;match xs,hxl with
   |[y0,y1,y2],_=>
   have g0:DataW.trod e prog w 0 spare held n 3 ((cs.drop 0).take (prog.cellsOf 3))=some y0:=hf 0 _ rfl;have g1:DataW.trod e prog w 0 spare held n 9 ((cs.drop 1).take (prog.cellsOf 9))=some y1:=hf 1 _ rfl;have g2:DataW.trod e prog w 0 spare held n 22 ((cs.drop 2).take (prog.cellsOf 22))=some y2:=hf 2 _ rfl;have hD0:ZbZ prog 3 1 (fun n:Int=>[Zc n]) (fun n=> -9223372036854775808≤n∧n≤9223372036854775807) n:=Dec.toF Zse n;have hD1:ZbZ prog 9 1 (fun s:BA=>[Zt s]) (fun s=>s.size≤140737488355328) n:=Dec.toF Zsf n;have hsl:ZbZ prog 22 1 (fun l:List Nd=>[PV.sl l.length (l.flatMap cN)]) (fun l=>l.length≤140737488355328∧∀x∈l,FitT x) n:=
    ZfX underlying22 dC (Xa kR) kR Sy (fun m hm=>ih m oM)
   obtain ⟨a,ha,A⟩:=Dg (k:=1) (enc:=fun n:Int=>[Zc n]) (fit:=fun n:Int=> -9223372036854775808≤n∧n≤9223372036854775807) kR (fun _=>rfl) hD0 g0 (fun n hn=>hwt n (JK prog 0 rfl rfl hn));obtain ⟨b,hb,B⟩:=Dg (k:=1) (enc:=fun s:BA=>[Zt s]) (fit:=fun s:BA=>s.size≤140737488355328) kR (fun _=>rfl) hD1 g1 (fun n hn=>hwt n (JK prog 1 rfl rfl hn));obtain ⟨l,hl,C⟩:=Dg (k:=1) (enc:=fun l:List Nd=>[PV.sl l.length (l.flatMap cN)]) (fit:=fun l:List Nd=>l.length≤140737488355328∧∀x∈l,FitT x) kR (fun _=>rfl) hsl g2 (fun n hn=>hwt n (JK prog 2 rfl rfl hn));refine ⟨.mk a b l, .mk _ hl.1 hb ha.1 ha.2 hl.2,by rw [hlen];kernel_rfl,fun i v p hv hp=>?_⟩;match i with
   |0=>exact A 0 v p hv (by simpa [cN,Nd.op] using hp)
   |1=>exact B 0 v p hv (by simpa [cN,Nd.act] using hp)
   |2=>exact C 0 v p hv (by rw [←hp];show some _=some _;unfold Yt;rw [WV];rfl)
   |i+3=>simp [cN] at hp
theorem Zsg:Dec prog 24 3 cN FitT where
 size:=kR
 len:=Sy
 dec:=fun e w spare held fuel cs x h hw=>ZkO fuel e w spare held cs x h hw
end Go.Proofs.YteiincihiagidaaGreat
