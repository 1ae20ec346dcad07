/-
  Walks of functions and plain laws of the chapter, as the claim needs them.
-/
import Derived.Maps.Own
import Derived.Maps.OwnOps
import Derived.Maps.OwnSet
import Derived.StringKeys
import Derived.Shelf.SlSortCmp.InsertionK
import Derived.Shelf.SlSortCmp.Kit1
import Derived.Test.YteiincihiagidaaGreatPf02
import Derived.Test.YteiincihiagidaaGreatPf01
import Derived.Test.YteiincihiagidaaGreatMShelfB
set_option linter.all false
set_option maxRecDepth 100000
set_option maxHeartbeats 8000000
namespace Go.Cb
open Go.RowKit Go.WideMaps
structure MapT (P:Program) (t ks e:Nat):Prop where
 ht:P.underlying t=some (.map ks e)
 hk:P.underlying ks=some .string
 he:P.underlying e=some (.int .i64)
 hz:∀w,(zeroValue e).run P w= .ok (.int .i64 0) w
theorem KB {a b:BA}:Kv a b=true↔a=b:=by
 unfold Kv
 rw [beq_iff_eq,ByteArray.toList_eq,ByteArray.toList_eq]
 exact ⟨fun h=>WideShapes.bytes_inj h,fun h=>by rw [h]⟩
def T1 (parts:List (List BA)):BA→Option Int:=fun s=>(parts.findIdx? fun p=>hasStr p s).map fun (i:Nat)=>(i:Int)
theorem CJ (parts:List (List BA)) (s:BA):(T1 parts s).isSome=hasStr parts.flatten s:=by
 unfold T1
 rw [Option.isSome_map,List.findIdx?_isSome]
 unfold hasStr
 induction parts with
 |nil=>rfl
 |cons p ps ih=>rw [Ud,XW,VD,ih]
theorem Ze9 (parts:List (List BA)) (s:BA):partOf parts s=(T1 parts s).getD (-1):=by
 unfold T1 partOf idx
 cases parts.findIdx? fun p=>hasStr p s<;>rfl
theorem Pb (parts:List (List BA)) (s:BA):(T1 parts s).isSome=decide (0≤partOf parts s):=by
 unfold T1 partOf idx
 cases h:parts.findIdx? fun p=>hasStr p s<;>simp
theorem CK:∀(p seen:List BA),RA seen p=true↔∀k s,p[k]? =some s→hasStr (seen++p.take k) s=false
 |[],seen=>by simp [RA]
 | x ::p,seen=>by
   rw [RA,Xi,CK p (seen++[x])];constructor
   · rintro ⟨h1,h2⟩ k s hk
     cases k with
     |zero=>simp at hk;subst hk;simpa using h1
     |succ k=>have:=h2 k s (by simpa using hk);simpa using this
   · intro h;refine ⟨by simpa using h 0 x rfl,fun k s hk=>?_⟩;have:=h (k+1) s (by simpa using hk);simpa using this
def CL (seen p:List BA) (k:Nat) (s:BA):Prop:=hasStr (seen++p.take k) s=false∧isName s=true∧∀y,1≤k→p[k-1]? =some y→strLt y s=true
theorem ZcR (p seen:List BA):(HA p&&RA seen p)=true↔p≠[]∧∀k s,p[k]? =some s→CL seen p k s:=by
 unfold HA
 simp only [Xi,CK]
 constructor
 · rintro ⟨⟨⟨h1,h2⟩,h3⟩,h4⟩;refine ⟨by intro h;subst h;simp at h1,fun k s hs=>⟨h4 k s hs,Xm.1 h2 s (Xc hs),fun y hk hy=>?_⟩⟩;exact (J3 _ _).1 h3 (k-1) y s hy (by rw [Nat.sub_add_cancel hk];exact hs)
 · rintro ⟨h1,h2⟩;refine ⟨⟨⟨by cases p with|nil=>exact Qc rfl h1|cons=>rfl,?_⟩,?_⟩,fun k s hs=>(h2 k s hs).1⟩
   · rw [Xm];intro s hs;obtain ⟨i,hi,rfl⟩:=Uj hs;exact (h2 i _ (Xx hi)).2.1
   · exact Rz fun j x y h1 hy hx=>(h2 j x hx).2.2 y h1 hy
theorem CM {p seen:List BA} {k:Nat} {s:BA} (hs:p[k]? =some s) (h:¬CL seen p k s):(HA p&&RA seen p)=false:=by
 cases hc:(HA p&&RA seen p)
 · rfl
 · exact Qc (((ZcR p seen).1 hc).2 k s hs) h
theorem DT {α:Type} {l:List α} {i:Nat} {x:α} (h:l[i]? =some x):l.set i x=l:=by
 obtain ⟨hi,rfl⟩:=Xr.1 h
 exact List.set_getElem_self hi
theorem Ex {parts:List (List BA)} {m:Nat}:∀(ws:List BA) (ps:List Piece) (q:Piece),ps[m]? =some q→
 WT 1 parts false m ps ws=if (ws.any fun s=>partOf parts s !=m) then none else some (ps.set m ⟨q.part,q.word++ws⟩,(m:Int))
 | [],ps,q,h=>by
   rw [WT,List.any_nil,Qa sM,Xu];rw [show (⟨q.part,q.word⟩:Piece)=q from rfl,DT h]
 | s ::l,ps,q,h=>by
   rw [WT,Ud];by_cases hp:partOf parts s=(m:Int)
   · have hm:m<ps.length:=(Xr.1 h).1;(have hb:TU 1 false (partOf parts s) (m:Int)=false:=by unfold TU;rw [hp];simp);(have hn:(partOf parts s !=(m:Int))=false:=by rw [hp];simp);rw [hb,hn,hp,XY,RB h,Qa sM,Ex l _ ⟨q.part,q.word++[s]⟩ (by rw [XI hm]),X2];simp
   · (have hn:(partOf parts s !=(m:Int))=true:=by simpa using hp);(have hb:TU 1 false (partOf parts s) (m:Int)=true:=by unfold TU;rw [hn];rfl);rw [hb,hn];rfl
theorem ZcS {c:Cut} {s:BA} {l:List BA} (hk:c.kind=1) (hs:0≤partOf c.parts s):
 WU c (s::l)=if ((s::l).any fun t=>partOf c.parts t !=partOf c.parts s) then none else some [⟨partOf c.parts s,s::l⟩]:=by
 obtain ⟨m,hm⟩:∃m:Nat,partOf c.parts s=m:=⟨(partOf c.parts s).toNat,oM⟩
 have hlt:m<c.parts.length:=by have:=HB c.parts s;omega
 have h0:(Jj c.parts.length)[m]? =some ⟨(m:Int),[]⟩:=by simp [Jj,hlt]
 unfold WU
 rw [Qa oM,hk,WT]
 have hb:TU 1 true (partOf c.parts s) 0=false:=by unfold TU;simp
 rw [hb,Qa sM,hm,XY,RB h0,Ex l _ ⟨(m:Int),[]++[s]⟩ (by rw [XI (by rw [RD];exact hlt)]),Ud,hm]
 rw [show ((m:Int)!=(m:Int))=false by simp,V']
 cases l.any fun t=>partOf c.parts t !=(m:Int)
 · simp only [VK,if_false,if_true,X2];rw [Qa sM,XY];congr 1;have hg:((Jj c.parts.length).set m ⟨(m:Int),[]++[s]++l⟩)[m]? =some ⟨(m:Int),[]++[s]++l⟩:=by rw [XI (by rw [RD];exact hlt)]
   rw [Jw hg];rfl
 · rfl
theorem ET {c:Cut} (hk:c.kind=1):WU c []=none:=by
 unfold WU
 rw [Qa oM,hk,WT]
 rfl
def Kf (ps:List Piece):List Piece:=ps.map fun q=>(⟨0,q.word⟩:Piece)
theorem O0 (ps:List Piece):(Kf ps).length=ps.length:=by simp [Kf]
theorem HM {ps:List Piece} {i:Nat} {q:Piece} (h:ps[i]? =some q):(Kf ps)[i]? =some ⟨0,q.word⟩:=by simp [Kf,h]
theorem Zfa {ps:List Piece} {i:Nat} {q:Piece} (s:BA) (h:ps[i]? =some q):(Kf ps).set i ⟨0,q.word++[s]⟩=Kf (LW ps i s):=by
 rw [RB h]
 unfold Kf
 rw [Up]
theorem ZcT (n:Nat):Kf (Jj n)=List.replicate n ⟨0,[]⟩:=by
 unfold Kf Jj
 rw [Xt]
 apply List.ext_getElem
 · simp
 · intro i h1 h2;simp
def InPlace (ps:List Piece):Prop:=∀(i:Nat) (q:Piece),ps[i]? =some q→q.part=(i:Int)
theorem ZbK (n:Nat):InPlace (Jj n):=fun i q h=>by
 obtain ⟨hi,rfl⟩:=Xr.1 h
 simp [Jj]
theorem InPlace.add {ps:List Piece} (h:InPlace ps) (i:Nat) (s:BA):InPlace (LW ps i s):=fun j q hq=>by
 unfold LW at hq
 split at hq
 · rename_i p hp;by_cases hji:j=i
   · subst hji;have hl:=(Xr.1 hp).1;rw [XI hl] at hq
     cases hq;exact h j p hp
   · rw [XZ (Ne.symm hji)] at hq;exact h j q hq
 · exact h j q hq
theorem Ziy {ps:List Piece} (h:InPlace ps) {j:Nat} {q:Piece} (hq:ps[j]? =some q):(ps.take j++(Kf ps).drop j).set j ⟨(j:Int),q.word⟩=ps.take (j+1)++(Kf ps).drop (j+1):=by
 have hl:=(Xr.1 hq).1
 have hpt:=h j q hq
 have htl:(ps.take j).length=j:=by simp;omega
 rw [VE _ _ oM,htl,Vm,Jw (HM hq),List.set_cons_zero,Zw hq,XA]
 congr 1
 rw [←hpt]
 rfl
theorem Zor {ps:List Piece} {j:Nat} {q:Piece} (hq:ps[j]? =some q):(ps.take j++(Kf ps).drop j)[j]? =some ⟨0,q.word⟩:=by
 have hl:=(Xr.1 hq).1
 have htl:(ps.take j).length=j:=by simp;omega
 rw [X' oM,htl,Vm,Jw (HM hq)]
 rfl
theorem Zlh (ps:List Piece) (j:Nat) (hj:j≤ps.length):(ps.take j++(Kf ps).drop j).length=ps.length:=by
 rw [Xf,XG,UB,O0];omega
open Go.En
def vec {α:Type} (n:Nat) (f:Nat→α):List α:=(List.range n).map f
theorem JB {α:Type} (n:Nat) (f:Nat→α):(vec n f).length=n:=by simp [vec]
theorem RO {α:Type} {n i:Nat} (f:Nat→α) (h:i<n):(vec n f)[i]? =some (f i):=by simp [vec,h]
theorem ZgL {α:Type} {n:Nat} {l:List α} {f:Nat→α} (hl:l.length=n) (h:∀i x,l[i]? =some x→x=f i):l=vec n f:=by
 apply Ua
 intro i
 rcases XD i n with hi|hi
 · obtain ⟨x,hx⟩:=Yl (show i<l.length by omega);rw [hx,RO f hi,h i x hx]
 · rw [Vo oM,Vo (by rw [JB];exact hi)]
theorem SP {α:Type} {n a:Nat} (f:Nat→α) (b:α):(vec n f).set a b=vec n (fun i=>if i=a then b else f i):=by
 refine ZgL (by simp [vec]) fun i x hx=>?_
 have hi:=Zd hx
 rw [Xp,JB] at hi
 rw [List.getElem?_set] at hx
 split at hx
 · rename_i e;subst e;split at hx
   · cases hx;simp
   · cases hx
 · rename_i e;rw [RO f hi] at hx
   cases hx;rw [Qa (fun h=>e h.symm)]
theorem YM {α:Type} {n:Nat} {f g:Nat→α} (h:∀i,i<n→f i=g i):vec n f=vec n g:=
 Uq fun i hi=>h i (Va.1 hi)
theorem HN {α:Type} (n:Nat) (x:α):List.replicate n x=vec n (fun _=>x):=by
 refine ZgL sM fun i y hy=>?_
 rw [List.getElem?_replicate] at hy
 split at hy
 · cases hy;rfl
 · cases hy
theorem E0 {α β:Type} (n:Nat) (f:Nat→α) (g:α→β):(vec n f).map g=vec n (fun i=>g (f i)):=by simp [vec,Function.comp_def]
theorem Zli {α:Type} (n:Nat) (f:Nat→α):vec (n+1) f=vec n f++[f n]:=by simp [vec,List.range_succ]
abbrev Kq (n:Nat) (f:Nat→Bool):PV:= .sl n (vec n fun i=>Zv (f i))
abbrev ZbL (n:Nat) (f:Nat→Nat→Bool):PV:= .sl n (vec n fun i=>Kq n (f i))
abbrev Wo (e n:Nat) (f:Nat→Bool):PV:= .own e 1 n (vec n fun i=>Zv (f i))
abbrev Zos (e e' n:Nat) (f:Nat→Nat→Bool):PV:= .own e 1 n (vec n fun i=>Wo e' n (f i))
theorem PE (e n:Nat) (f:Nat→Bool):share (Wo e n f)=Kq n f:=by
 rw [share,Z7,E0];rfl
theorem Zay (e e' n:Nat) (f:Nat→Nat→Bool):share (Zos e e' n f)=ZbL n f:=by
 rw [share,Z7,E0]
 show PV.sl n _=PV.sl n _
 congr 1
 exact YM fun i _=>PE e' n (f i)
def Closed (n:Nat) (f T:Nat→Nat→Bool):Prop:=(∀i j,i<n→j<n→f i j=true→T i j=true)∧∀i j k,i<n→j<n→k<n→T i j=true→T j k=true→T i k=true
def war (f:Nat→Nat→Bool):Nat→Nat→Nat→Bool
 |0=>f
 |k+1=>fun i j=>war f k i j||(war f k i k&&war f k k j)
theorem ZcU (f:Nat→Nat→Bool) (i j:Nat):∀k,f i j=true→war f k i j=true
 |0,h=>h
 |k+1,h=>by simp only [war,X3];exact .inl (ZcU f i j k h)
theorem ZgM (f:Nat→Nat→Bool) (k i:Nat):war f (k+1) i k=war f k i k:=by
 simp only [war];cases war f k i k<;>simp
theorem ZgN (f:Nat→Nat→Bool) (k j:Nat):war f (k+1) k j=war f k k j:=by
 simp only [war];cases war f k k j<;>simp
theorem E1 (f:Nat→Nat→Bool):∀k m i j,m<k→war f k i m=true→war f k m j=true→war f k i j=true
 |0,m,i,j,hm,_,_=>oM
 | k + 1,m,i,j,hm,h1,h2=>by
   by_cases e:m=k
   · subst e;rw [ZgM] at h1;rw [ZgN] at h2;simp only [war,h1,h2,Bool.and_self,Bool.or_true]
   · have hm':m<k:=oM;simp only [war,X3,Xi] at h1 h2 ⊢;rcases h1 with h1|⟨h1,h1'⟩
     · rcases h2 with h2|⟨h2,h2'⟩
       · exact .inl (E1 f k m i j hm' h1 h2)
       · exact .inr ⟨E1 f k m i k hm' h1 h2,h2'⟩
     · rcases h2 with h2|⟨h2,h2'⟩
       · exact .inr ⟨h1,E1 f k m k j hm' h1' h2⟩
       · exact .inr ⟨h1,h2'⟩
def WZ (n:Nat) (f:Nat→Nat→Bool):Nat→Nat→Bool:=war f n
theorem DU (n:Nat) (f:Nat→Nat→Bool):Closed n f (WZ n f):=⟨fun i j _ _ h=>ZcU f i j n h,fun i j k _ hj _ h1 h2=>E1 f n j i k hj h1 h2⟩
def Zsn (n:Nat) (f:Nat→Bool):Nat:=((List.range n).filter fun i=> !f i).length
def cntM (n:Nat) (f:Nat→Nat→Bool):Nat:=((List.range n).map fun i=>Zsn n (f i)).sum
end Go.Cb
namespace Go.Proofs.YteiincihiagidaaGreat
open Go.RowKit Go.Cb Go.En Tryz
theorem KO:ElT prog 200 4 1 1 (.bool false):=⟨underlying200,by kernel_rfl,rfl,dC⟩
theorem Zfb:ElT prog 201 200 1 24 (.slice none 0 0):=⟨underlying201,by kernel_rfl,rfl,dC⟩
theorem Kr:FldT prog 203 0 0=true:=kR
theorem Kb:FldT prog 203 1 1=true:=kR
theorem LG:FldT prog 203 2 2=true:=kR
theorem LH:FldT prog 203 3 3=true:=kR
theorem Z2:NoAgg prog 200=true:=kR
theorem Wt:NoAgg prog 201=true:=kR
theorem Yk:NoAgg prog 4=true:=kR
theorem Yf:SlT prog 200 4 1=true:=kR
theorem Yn:SlT prog 201 200 1=true:=kR
theorem Tb:J2 prog 203=some ((.agg #[(.slice none 0 0),(.slice none 0 0),(.slice none 0 0),(.slice none 0 0)]),([0,1,2,3]:List Nat).map fun o=>(o,1)):=kR
theorem Zfc:(prog.info? 200).map (·.size)=some 1:=kR
theorem Zaz:(prog.info? 39).map (·.size)=some 1:=kR
theorem PF:(prog.info? 4).map (·.size)=some 1:=kR
theorem Zlj {α:Type} {n k:Nat} (p z q:α):((vec n fun i=>if i<k then p else z).set k q).set k p=vec n fun i=>if i<k+1 then p else z:=by
 rw [SP,SP]
 refine YM fun i hi=>?_
 by_cases e:i=k
 · subst e;rw [Qb rfl,Qb oM]
 · rw [Qa e,Qa e];by_cases h:i<k
   · rw [Qb h,Qb oM]
   · rw [Qa h,Qa oM]
theorem Sa (n:Nat) (hn:n≤1000000):AF prog 179 [Zc n] (· =Zos 200 4 n (fun _ _=>false)):=by
 refine AF.b1 19 func179 rfl ntmps179 (Xa rfl) ?_
 rintro w0 M0 _ rfl
 refine Pw ?_;refine GY 6 Zfb fun h6 ho6=>?_;refine ZQ ?_
 refine xL 7 Za (xL 8 (WQ 6 Yn) (xL 9 Za ?_));refine ZF ?_
 rw [show List.replicate n (PV.val (.slice none 0 0))=vec n (fun i=>if i<0 then Wo 4 n (fun _=>false) else .val (.slice none 0 0)) by rw [HN];exact YM fun i _=>by rw [Qa oM]]
 refine Yd (ι:={k:Nat//k≤n}) (fun k=>⟨[(0,_,_),(3,_,_),(8,_,_),(9, .int .i64 k.1,Zc k.1)],[(6,h6, .own 200 1 n (vec n fun i=>if i<k.1 then Wo 4 n (fun _=>false) else .val (.slice none 0 0)))]⟩) (fun k=>n-k.1) ⟨0,oM⟩ ?_
 rintro ⟨k,hk⟩
 dsimp only
 refine Ys ?_ ?_<;>intro hb10
 · (
 have hlt:k<n:=oM;have hl0:=JB n (fun i=>if i<k then Wo 4 n (fun _=>false) else PV.val (.slice none 0 0));refine Jm ?_;refine Y' ?_;refine GY 15 KO fun h15 ho15=>?_;refine xM (Zo 6 Yn) ?_;refine Zk9 6 k Z2 Zfc ?_;refine GF ?_;refine Yq (fold (l:=6) (l':=15) (j:=k) rfl (XI (by rw [JB];omega)) rfl rfl) fun _=>?_;rw [show List.replicate n (PV.val (.bool false))=vec n (fun _=>Zv false) from HN _ _,Zlj];refine Yh (
  ⟨k+1,oM⟩
  ))
 · (
 refine ZE ?_;refine K3 6 results179 rfl rfl ?_;obtain rfl:k=n:=oM;show PV.own _ _ _ _=PV.own _ _ _ _;congr 1;exact YM fun i hi=>by rw [Qb hi])
def ixN (l:List BA) (s:BA):Nat:=(idx (fun x=>Kv x s) l).toNat
theorem HO {l:List BA} {s:BA} (h:hasStr l s=true):idx (fun x=>Kv x s) l=(ixN l s:Int)∧ixN l s<l.length:=by
 have h1:=ZeQ (fun x=>Kv x s) l
 have h2:0≤idx (fun x=>Kv x s) l:=by
  have:=Lo (fun x=>Kv x s) l;rw [show l.any (fun x=>Kv x s)=true from h] at this;exact Qd this
 unfold ixN
 omega
theorem ZgO (l:List BA) (rest:List PV) (s:BA) (h:hasStr l s=true):AF prog 206 [.sptr 0 (Zs l::rest),Zt s] (· =Zc (ixN l s:Nat)):=by
 refine AF.b2 11 func206 rfl ntmps206 (Xa rfl) ?_
 rintro w0 M0 v0 _-rfl
 refine YK ?_
 refine xL 5 Za (xL 6 WS (xL 7 (YP Kr) ?_));refine yU (ZG ZN) fun v8=>?_;refine Yv ?_;refine cV (cA call89 (Ew l s)) ?_;refine ZB ?_
 refine Zf results206 rfl ?_
 rw [(HO h).1]
def LI (acts:List BA) (l:List Flw) (i j:Nat):Bool:=l.any fun f=>ixN acts f.src==i&&ixN acts f.dst==j
def KT (acts:List BA) (l:List Cnt) (i:Nat):Bool:=l.any fun c=>ixN acts c.name==i
theorem Zfd {acts:List BA} {l:List Flw} {k:Nat} {f:Flw} (h:l[k]? =some f) (i j:Nat):LI acts (l.take (k+1)) i j=(LI acts (l.take k) i j||(ixN acts f.src==i&&ixN acts f.dst==j)):=by
 unfold LI;rw [Zw h,VD];simp
theorem Zfe {acts:List BA} {l:List Cnt} {k:Nat} {c:Cnt} (h:l[k]? =some c) (i:Nat):KT acts (l.take (k+1)) i=(KT acts (l.take k) i||(ixN acts c.name==i)):=by
 unfold KT;rw [Zw h,VD];simp
theorem Ziz {acts:List BA} {l:List Flw} {k:Nat} {f:Flw} (h:l[k]? =some f) (i j:Nat):LI acts (l.take (k+1)) i j=if i=ixN acts f.src then (if j=ixN acts f.dst then true else LI acts (l.take k) (ixN acts f.src) j) else LI acts (l.take k) i j:=by
 rw [Zfd h]
 generalize ixN acts f.src=a
 generalize ixN acts f.dst=b
 by_cases h1:i=a
 · subst h1;rw [Qb rfl];by_cases h2:j=b
   · subst h2;simp
   · rw [Qa h2,show (b==j)=false from beq_eq_false_iff_ne.2 (Ne.symm h2)];simp
 · rw [Qa h1,show (a==i)=false from beq_eq_false_iff_ne.2 (Ne.symm h1)];simp
theorem ZaA {acts:List BA} {l:List Cnt} {k:Nat} {c:Cnt} (h:l[k]? =some c) (i:Nat):KT acts (l.take (k+1)) i=if i=ixN acts c.name then true else KT acts (l.take k) i:=by
 rw [Zfe h]
 generalize ixN acts c.name=a
 by_cases h1:i=a
 · subst h1;simp
 · rw [Qa h1,show (a==i)=false from beq_eq_false_iff_ne.2 (Ne.symm h1)];simp
def ZrY (g:Dfg):List PV:=[Zs (cnames g.acts),ZbL g.acts.length (LI (cnames g.acts) g.follows),Kq g.acts.length (KT (cnames g.acts) g.starts),Kq g.acts.length (KT (cnames g.acts) g.ends)]
def Zot (g:Dfg):PV:= .sptr 0 (ZrY g)
theorem ZaB {g:Dfg} (h:TV g=true):(cnames g.acts).length≤40∧(∀c∈g.starts,hasStr (cnames g.acts) c.name=true)∧(∀c∈g.ends,hasStr (cnames g.acts) c.name=true)∧(∀f∈g.follows,hasStr (cnames g.acts) f.src=true∧hasStr (cnames g.acts) f.dst=true):=by
 unfold TV LB CF at h
 simp only [Xi,Xm,U8] at h
 obtain ⟨⟨⟨⟨⟨⟨⟨h1,h2⟩,h3⟩,h4⟩,h5⟩,h6⟩,h7⟩,h8⟩:=h
 refine ⟨h1.1.1,fun c hc=>h2.2 _ (Xh.2 ⟨c,hc,rfl⟩),fun c hc=>h3.2 _ (Xh.2 ⟨c,hc,rfl⟩),fun f hf=>?_⟩
 have:=h7 f hf
 unfold Rh at this
 simp only [Xi] at this
 exact ⟨this.1.2,this.2⟩
theorem Zlk {e e' n a b:Nat} {f f':Nat→Nat→Bool} (hf:∀i j,i<n→j<n→f' i j=if i=a then (if j=b then true else f a j) else f i j):(vec n fun i=>Wo e' n (f i)).set a (.own e' 1 n ((vec n fun j=>Zv (f a j)).set (b*1) (Zv true)))=vec n fun i=>Wo e' n (f' i):=by
 rw [Xy,SP,SP]
 refine YM fun i hi=>?_
 by_cases h:i=a
 · subst h;rw [Qb rfl];show PV.own _ _ _ _=PV.own _ _ _ _;congr 1;refine YM fun j hj=>?_;rw [hf i j hi hj,Qb rfl];split<;>rfl
 · rw [Qa h];show PV.own _ _ _ _=PV.own _ _ _ _;congr 1;refine YM fun j hj=>?_;rw [hf i j hi hj,Qa h]
theorem CN {n a:Nat} {f f':Nat→Bool} (hf:∀i,i<n→f' i=if i=a then true else f i):(vec n fun i=>Zv (f i)).set (a*1) (Zv true)=vec n fun i=>Zv (f' i):=by
 rw [Xy,SP]
 refine YM fun i hi=>?_
 rw [hf i hi];split<;>rfl
theorem Oa {sL hP:List (Nat×Ent)} {l e k e' n:Nat} {h:Value} {acts:List BA} {rest:List PV} (hl:lk hP l=some (h, .own e k 1 (.own e' 1 n (acts.map Zt)::rest))) (hn:n=acts.length):OI (⟨sL,hP⟩:St) (ZD (Zr h) 0) (.sptr 0 (Zs acts::YV rest)):=by
 have:=Zao (sL:=sL) (j:=0) hl Vs
 rw [YV,Wb,hn] at this
 exact this
theorem ZbM {n i:Nat} {e:Nat} (f:Nat→Nat→Bool) (h:i<n):(vec n fun i=>Wo e n (f i))[i]? =some (Wo e n (f i)):=RO _ h
theorem ZgP {Hs:List Value} {i:Nat} {v:Value} (h:Hs[i]? =some v):(Hs.map PV.val)[i*1]? =some (.val v):=by rw [Xy,Xo,h];rfl
theorem ZrZ (g : Dfg) (hg:TV g=true) (hfl:g.follows.length≤140737488355328) (hsl:g.starts.length≤140737488355328) (hel:g.ends.length≤140737488355328):AF prog 178 [GJ g] (· =Zot g):=by
 obtain ⟨hn40,hst,hen,hfo⟩:=ZaB hg
 have hna:(cnames g.acts).length=g.acts.length:=by simp [cnames]
 refine AF.b1 101 func178 rfl ntmps178 (Xa rfl) fun w0 M0 v0 _=>?_
 refine Zh ?_
 refine ZV 1 4 fun h1=>?_;refine ZQ ?_
 refine xM (Zb 1 LF) ?_;refine yU (Ze 1 KV) fun v14=>?_;refine xL 15 (Zy KA) (xL 3 Wv ?_);refine ZF ?_
 refine KI (fun x:{x:Value×Value×Value×Value×Value//x.2.2.2.2.oneCell'=true}=>⟨[(1,ZD (Zr h1) 0, .val (ZD (Zr h1) 0)),(4,ZD (Zr x.1.1) 0, .val (ZD (Zr x.1.1) 0))],[(1,h1, .own 100 4 1 [LX g.acts,LX g.starts,LX g.ends,ZgJ g.follows]),(23,x.1.1, .own 203 4 1 [.val (.slice none 0 0), .val x.1.2.1, .val x.1.2.2.1, .val x.1.2.2.2.1]),(17,x.1.2.1,Zos 200 4 g.acts.length (fun _ _=>false)),(19,x.1.2.2.1, .own 4 1 g.acts.length (List.replicate g.acts.length (.val (.bool false)))),(21,x.1.2.2.2.1, .own 4 1 g.acts.length (List.replicate g.acts.length (.val (.bool false))))]⟩) ?_ ?_
 · (refine We [] [] ?_<;>refine gDx 0 ?_<;>refine gDx 2 ?_<;>refine gDx 4 ?_<;>(refine Zle 1 3 5 kR ?_ ?_ ?_;rotate_right;(focus ((refine aWr fun bk=>?_)<;>refine GY 21 KO fun h21 ho21=>?_<;>refine bE bk ?_<;>(refine Wm 1 3 kR ?_ ?_;rotate_right;(focus ((refine aWr fun bk=>?_)<;>refine GY 19 KO fun h19 ho19=>?_<;>refine bE bk ?_<;>(refine aDr 1 fun bk=>?_)<;>refine cO 17 (cA call179 (Sa g.acts.length oM)) fun v17 ho17=>?_<;>refine bE bk ?_<;>refine xE 6 rfl (ZX Tb) ?_<;>(refine aDr 7 fun bk=>?_)<;>refine ZV 23 4 fun h23=>?_<;>refine bE bk ?_<;>refine gEx 8 ?_));rotate_right;(focus ((refine aWr fun bk=>?_)<;>refine cO 17 (cA call179 (Sa g.acts.length oM)) fun v17 ho17=>?_<;>refine bE bk ?_<;>(refine aDr 3 fun bk=>?_)<;>refine GY 19 KO fun h19 ho19=>?_<;>refine bE bk ?_<;>refine xE 6 rfl (ZX Tb) ?_<;>(refine aDr 7 fun bk=>?_)<;>refine ZV 23 4 fun h23=>?_<;>refine bE bk ?_<;>refine gEx 8 ?_)))));rotate_right;(focus ((refine aWr fun bk=>?_)<;>refine GY 19 KO fun h19 ho19=>?_<;>refine bE bk ?_<;>(refine Wm 1 5 kR ?_ ?_;rotate_right;(focus ((refine aWr fun bk=>?_)<;>refine GY 21 KO fun h21 ho21=>?_<;>refine bE bk ?_<;>(refine aDr 1 fun bk=>?_)<;>refine cO 17 (cA call179 (Sa g.acts.length oM)) fun v17 ho17=>?_<;>refine bE bk ?_<;>refine xE 6 rfl (ZX Tb) ?_<;>(refine aDr 7 fun bk=>?_)<;>refine ZV 23 4 fun h23=>?_<;>refine bE bk ?_<;>refine gEx 8 ?_));rotate_right;(focus ((refine aWr fun bk=>?_)<;>refine cO 17 (cA call179 (Sa g.acts.length oM)) fun v17 ho17=>?_<;>refine bE bk ?_<;>(refine aDr 5 fun bk=>?_)<;>refine GY 21 KO fun h21 ho21=>?_<;>refine bE bk ?_<;>refine xE 6 rfl (ZX Tb) ?_<;>(refine aDr 7 fun bk=>?_)<;>refine ZV 23 4 fun h23=>?_<;>refine bE bk ?_<;>refine gEx 8 ?_)))));rotate_right;(focus ((refine aWr fun bk=>?_)<;>refine cO 17 (cA call179 (Sa g.acts.length oM)) fun v17 ho17=>?_<;>refine bE bk ?_<;>(refine Wm 3 5 kR ?_ ?_;rotate_right;(focus ((refine aWr fun bk=>?_)<;>refine GY 21 KO fun h21 ho21=>?_<;>refine bE bk ?_<;>(refine aDr 3 fun bk=>?_)<;>refine GY 19 KO fun h19 ho19=>?_<;>refine bE bk ?_<;>refine xE 6 rfl (ZX Tb) ?_<;>(refine aDr 7 fun bk=>?_)<;>refine ZV 23 4 fun h23=>?_<;>refine bE bk ?_<;>refine gEx 8 ?_));rotate_right;(focus ((refine aWr fun bk=>?_)<;>refine GY 19 KO fun h19 ho19=>?_<;>refine bE bk ?_<;>(refine aDr 5 fun bk=>?_)<;>refine GY 21 KO fun h21 ho21=>?_<;>refine bE bk ?_<;>refine xE 6 rfl (ZX Tb) ?_<;>(refine aDr 7 fun bk=>?_)<;>refine ZV 23 4 fun h23=>?_<;>refine bE bk ?_<;>refine gEx 8 ?_))))))<;>refine Kz ?_)<;>(
 exact ZS ⟨(h23,v17,h19,h21, .bool true),rfl⟩ sB sB)
 · rintro ⟨⟨h23, h17,h19,h21,_⟩,_⟩;dsimp only;refine Zh ?_;refine xM (Zb 1 LF) ?_;refine yU (Ze 1 KV) fun v25=>?_;refine xL 26 (Zy KA) (xL 27 Za ?_);refine ZF ?_;refine Zq (Wr 200 9 1 rfl) fun _=>?_;refine Yd (ι:={x:Nat×Value//x.1≤g.acts.length}) (fun k=>⟨[(1,_,_),(4,_,_),(25,_,_),(26,_,_),(27, .int .i64 k.1.1,Zc k.1.1)],[(1,_,_),(17,_,_),(19,_,_),(21,_,_),(23,h23, .own 203 4 1 [.val k.1.2, .val h17, .val h19, .val h21]),(200,k.1.2, .own 9 1 k.1.1 ((cnames (g.acts.take k.1.1)).map Zt))]⟩) (fun k=>g.acts.length-k.1.1) ⟨(0, .slice none 0 0),oM⟩ ?_;rintro ⟨⟨k,h3⟩,hk⟩;dsimp only;dsimp only at hk;refine Ys ?_ ?_<;>intro hb28
   · (
 obtain ⟨x,hx⟩:=gS g.acts k;have e1:=Yu Jo g.acts k x hx;have e2:=Y9 Jo hx;(have e3:((cnames (g.acts.take k)).map Zt).length=k:=by simp [cnames];omega);refine Zh ?_;refine xM (Zg KA) ?_;refine yU (YD Ke) fun v30=>?_;refine Zx [(.string ByteArray.empty),(.int .i64 0)] 2 6 Sn fun h6=>?_;refine Zu 6 Ke ?_;refine ZF ?_;(refine We [11] [23,6] ?_<;>refine gDx 0 ?_<;>refine gDx 1 ?_<;>refine xD 2 rfl (S3 23) ?_<;>refine xD 3 rfl (Zb 23 Kr) ?_<;>(refine yD 4 rfl (Ze 23 ZN) fun v35 h=>?_;cases h)<;>refine xE 5 rfl (Zb 6 JA) ?_<;>(refine yE 6 rfl (Ze 6 ZK) fun v37 h=>?_;cases h)<;>(refine aDr 7 fun bk=>?_)<;>refine Wx (kk:=1) 38 ZW fun h38 ho38=>?_<;>refine bE bk ?_<;>(refine aDr 8 fun bk=>?_)<;>refine WN 200 38 39 ZW fun h39 ho39=>?_<;>refine bE bk ?_<;>refine xE 9 rfl (S3 23) ?_<;>refine xE 10 rfl (Zb 23 Kr) ?_<;>(refine Z6 11 kR ?_)<;>(refine Kj rfl rfl kR fun DQ bk=>?_)<;>refine GC 23 ZN Zaz ?_<;>refine Ww (bk _ (nav ?_))<;>try dsimp only)
 refine KJ ?_;refine Yq (Zz (l:=39) 200 rfl rfl) fun _=>?_;rw [show (cnames (g.acts.take k)).map Zt++[Zt x.name]=(cnames (g.acts.take (k+1))).map Zt by rw [PD hx,XC];rfl];refine Yh (
  ⟨(k+1,h39),by show k+1≤g.acts.length;omega⟩
  ))
   · (
 refine Zh ?_;refine xM (Zb 1 Gh) ?_;refine yU (Ze 1 T') fun v44=>?_;refine xL 45 (Zy Rf) (xL 46 Za ?_);refine ZF ?_;obtain rfl:k=g.acts.length:=oM;rw [XH];refine Zq (fold (l:=23) (l':=200) (j:=0) rfl rfl rfl rfl) fun _=>?_;refine Zq (Zla (l:=17) 201 rfl rfl) fun Hs=>?_;obtain ⟨Hs,hHs⟩:=Hs;rw [JB] at hHs;dsimp only;refine Yd (ι:={k:Nat//k≤g.follows.length}) (fun k=>⟨[(1,_,_),(4,_,_),(44,_,_),(45,_,_),(46, .int .i64 k.1,Zc k.1)],[(1,_,_),(23,_,_),(17,_,_),(19,_,_),(21,_,_),(201, .agg Hs.toArray, .agg (vec g.acts.length fun i=>Wo 4 g.acts.length (LI (cnames g.acts) (g.follows.take k.1) i)))]⟩) (fun k=>g.follows.length-k.1) ⟨0,oM⟩ ?_;rintro ⟨k,hk⟩;dsimp only;refine Ys ?_ ?_<;>intro hb47
 · (
 obtain ⟨x,hx⟩:=gS g.follows k;have e1:=Yu Sm g.follows k x hx;have e2:=Y9 Sm hx;have hxa:=(hfo x (Xc hx)).1;have hxb:=(hfo x (Xc hx)).2;have ha:=(HO hxa).2;have hb:=(HO hxb).2;rw [hna] at ha hb;obtain ⟨ra,hra⟩:=gS Hs (ixN (cnames g.acts) x.src);have e3:=ZgP hra;have e4:=ZbM (e:=4) (LI (cnames g.acts) (g.follows.take k)) ha;have e5:=JB g.acts.length (fun j=>Zv (LI (cnames g.acts) (g.follows.take k) (ixN (cnames g.acts) x.src) j));refine Zh ?_;refine xM (Zg Rf) ?_;refine yU (YD G8) fun v49=>?_;refine Zx [(.string ByteArray.empty),(.string ByteArray.empty),(.int .i64 0)] 3 8 CE fun h8=>?_;refine Zu 8 G8 ?_;refine ZF ?_;(refine We [15] [23,8,17,201] ?_<;>refine gDx 0 ?_<;>refine xD 1 rfl (S3 23) ?_<;>refine xD 2 rfl (Zb 23 Kb) ?_<;>(refine yD 3 rfl (Ze 23 Wt) fun v53 h=>?_;cases h)<;>refine gDx 4 ?_<;>refine xD 5 rfl (Zb 8 Gi) ?_<;>(refine yD 6 rfl (Ze 8 ZK) fun v56 h=>?_;cases h)<;>refine gDx 10 ?_<;>refine xD 11 rfl (Zb 8 Gj) ?_<;>(refine yD 12 rfl (Ze 8 ZK) fun v62 h=>?_;cases h)<;>(refine Z6 7 kR ?_)<;>(refine Yz (d:=57) rfl (cB rfl call206 (ZgO (cnames g.acts) _ x.src hxa) ⟨⟨_,_,rfl,Oa (l:=23) rfl hna.symm⟩,⟨_,_,rfl,L6 (x:= .tmp 56) rfl⟩,trivial⟩) fun v57 h=>?_;cases h)<;>refine xD 8 rfl (Zo 17 Yn) ?_<;>(refine yD 9 rfl (Ze 17 Z2) fun v59 h=>?_;cases h)<;>(refine Z6 13 kR ?_)<;>(refine Yz (d:=63) rfl (cB rfl call206 (ZgO (cnames g.acts) _ x.dst hxb) ⟨⟨_,_,rfl,Oa (l:=23) rfl hna.symm⟩,⟨_,_,rfl,L6 (x:= .tmp 62) rfl⟩,trivial⟩) fun v63 h=>?_;cases h)<;>refine xE 14 rfl (Cp 201 Yf) ?_<;>(refine Z6 15 kR ?_)<;>(refine Kj rfl rfl kR fun DQ bk=>?_)<;>refine Zqm 201 Yk PF ?_<;>refine Ww (bk _ (nav ?_))<;>try dsimp only)
 refine KJ ?_;rw [Zlk (e:=0) (f':=LI (cnames g.acts) (g.follows.take (k+1))) fun i j _ _=>Ziz hx i j];refine Yh (
  ⟨k+1,oM⟩
  ))
 · (
 refine Zh ?_;refine xM (Zb 1 RL) ?_;refine yU (Ze 1 KV) fun v67=>?_;refine xL 68 (Zy KA) (xL 69 Za ?_);refine ZF ?_;obtain rfl:k=g.follows.length:=oM;rw [XH,show List.replicate g.acts.length (PV.val (.bool false))=vec g.acts.length (fun i=>Zv (KT (cnames g.acts) [] i)) from HN _ _];refine Yd (ι:={k:Nat//k≤g.starts.length}) (fun k=>⟨[(1,_,_),(4,_,_),(67,_,_),(68,_,_),(69, .int .i64 k.1,Zc k.1)],[(1,_,_),(23,_,_),(17,_,_),(201,_,_),(21,_,_),(19,h19,Wo 4 g.acts.length (KT (cnames g.acts) (g.starts.take k.1)))]⟩) (fun k=>g.starts.length-k.1) ⟨0,oM⟩ ?_;rintro ⟨k,hk⟩;dsimp only;refine Ys ?_ ?_<;>intro hb70
 · (
 obtain ⟨x,hx⟩:=gS g.starts k;have e1:=Yu Jo g.starts k x hx;have e2:=Y9 Jo hx;have hxa:=hst x (Xc hx);have ha:=(HO hxa).2;rw [hna] at ha;have e5:=JB g.acts.length (fun j=>Zv (KT (cnames g.acts) (g.starts.take k) j));refine Zh ?_;refine xM (Zg KA) ?_;refine yU (YD Ke) fun v72=>?_;refine Zx [(.string ByteArray.empty),(.int .i64 0)] 2 10 Sn fun h10=>?_;refine Zu 10 Ke ?_;refine ZF ?_;(refine We [9] [23,10,19] ?_<;>refine gDx 0 ?_<;>refine xD 1 rfl (S3 23) ?_<;>refine xD 2 rfl (Zb 23 LG) ?_<;>(refine yD 3 rfl (Ze 23 Z2) fun v76 h=>?_;cases h)<;>refine gDx 4 ?_<;>refine xE 5 rfl (Zb 10 JA) ?_<;>(refine yE 6 rfl (Ze 10 ZK) fun v79 h=>?_;cases h)<;>(refine Z6 7 kR ?_)<;>(refine Yz (d:=80) rfl (cB rfl call206 (ZgO (cnames g.acts) _ x.name hxa) ⟨⟨_,_,rfl,Oa (l:=23) rfl hna.symm⟩,⟨_,_,rfl,L6 (x:= .tmp 79) rfl⟩,trivial⟩) fun v80 h=>?_;cases h)<;>refine xE 8 rfl (Zo 19 Yf) ?_<;>(refine Z6 9 kR ?_)<;>(refine Kj rfl rfl kR fun DQ bk=>?_)<;>refine GC 19 Yk PF ?_<;>refine Ww (bk _ (nav ?_))<;>try dsimp only)
 refine KJ ?_;rw [CN (f':=KT (cnames g.acts) (g.starts.take (k+1))) fun i _=>ZaA hx i];refine Yh (
  ⟨k+1,oM⟩
  ))
 · (
 refine Zh ?_;refine xM (Zb 1 RN) ?_;refine yU (Ze 1 KV) fun v84=>?_;refine xL 85 (Zy KA) (xL 86 Za ?_);refine ZF ?_;obtain rfl:k=g.starts.length:=oM;rw [XH];refine Yd (ι:={k:Nat//k≤g.ends.length}) (fun k=>⟨[(1,_,_),(4,_,_),(84,_,_),(85,_,_),(86, .int .i64 k.1,Zc k.1)],[(1,_,_),(23,_,_),(17,_,_),(201,_,_),(19,_,_),(21,h21,Wo 4 g.acts.length (KT (cnames g.acts) (g.ends.take k.1)))]⟩) (fun k=>g.ends.length-k.1) ⟨0,oM⟩ ?_;rintro ⟨k,hk⟩;dsimp only;refine Ys ?_ ?_<;>intro hb87
 · (
 obtain ⟨x,hx⟩:=gS g.ends k;have e1:=Yu Jo g.ends k x hx;have e2:=Y9 Jo hx;have hxa:=hen x (Xc hx);have ha:=(HO hxa).2;rw [hna] at ha;have e5:=JB g.acts.length (fun j=>Zv (KT (cnames g.acts) (g.ends.take k) j));refine Zh ?_;refine xM (Zg KA) ?_;refine yU (YD Ke) fun v89=>?_;refine Zx [(.string ByteArray.empty),(.int .i64 0)] 2 12 Sn fun h12=>?_;refine Zu 12 Ke ?_;refine ZF ?_;(refine We [9] [23,12,21] ?_<;>refine gDx 0 ?_<;>refine xD 1 rfl (S3 23) ?_<;>refine xD 2 rfl (Zb 23 LH) ?_<;>(refine yD 3 rfl (Ze 23 Z2) fun v93 h=>?_;cases h)<;>refine gDx 4 ?_<;>refine xE 5 rfl (Zb 12 JA) ?_<;>(refine yE 6 rfl (Ze 12 ZK) fun v96 h=>?_;cases h)<;>(refine Z6 7 kR ?_)<;>(refine Yz (d:=97) rfl (cB rfl call206 (ZgO (cnames g.acts) _ x.name hxa) ⟨⟨_,_,rfl,Oa (l:=23) rfl hna.symm⟩,⟨_,_,rfl,L6 (x:= .tmp 96) rfl⟩,trivial⟩) fun v97 h=>?_;cases h)<;>refine xE 8 rfl (Zo 21 Yf) ?_<;>(refine Z6 9 kR ?_)<;>(refine Kj rfl rfl kR fun DQ bk=>?_)<;>refine GC 21 Yk PF ?_<;>refine Ww (bk _ (nav ?_))<;>try dsimp only)
 refine KJ ?_;rw [CN (f':=KT (cnames g.acts) (g.ends.take (k+1))) fun i _=>ZaA hx i];refine Yh (
  ⟨k+1,oM⟩
  ))
 · (
 refine ZE ?_;obtain rfl:k=g.ends.length:=oM;rw [XH];refine Z5 (Zlb (l:=17) (l':=201) rfl rfl rfl rfl) fun _=>?_;refine Z5 (fold (l:=23) (l':=17) (j:=1) rfl rfl rfl rfl) fun _=>?_;refine Z5 (fold (l:=23) (l':=19) (j:=2) rfl rfl rfl rfl) fun _=>?_;refine Z5 (fold (l:=23) (l':=21) (j:=3) rfl rfl rfl rfl) fun _=>?_;refine Z5 (T0 (l:=23) (t:=2) (j:=0) rfl Vs rfl) fun _=>?_;refine Zf results178 rfl ?_;show PV.sptr 0 (YV [_,Zos 200 4 _ _,Wo _ _ _,Wo _ _ _])=Zot g;rw [YV,YV,YV,YV,YV,Zay,PE,PE,Wb];unfold Zot ZrY Zs;rw [hna]))))
theorem YQ:AggT prog 100 4=true:=kR
def Jp (E:Nat→Nat→Bool) (k i j a b:Nat):Bool:=if a<i∨(a=i∧b<j) then war E (k+1) a b else war E k a b
theorem ZiA (E:Nat→Nat→Bool) (k i j a:Nat):Jp E k i j a k=war E k a k:=by
 unfold Jp
 split
 · rw [ZgM]
 · rfl
theorem ZiB (E:Nat→Nat→Bool) (k i j b:Nat):Jp E k i j k b=war E k k b:=by
 unfold Jp
 split
 · rw [ZgN]
 · rfl
theorem Zff (E:Nat→Nat→Bool) (k i j:Nat):Jp E k i j i j=war E k i j:=by unfold Jp;rw [Qa oM]
theorem Zfg {e n k i j:Nat} {E:Nat→Nat→Bool} {x:Bool} (hx:x=war E (k+1) i j):(vec n fun a=>Wo e n (Jp E k i j a)).set i (.own e 1 n ((vec n fun b=>Zv (Jp E k i j i b)).set (j*1) (Zv x)))=vec n fun a=>Wo e n (Jp E k i (j+1) a):=by
 subst hx
 rw [Xy,SP,SP]
 refine YM fun a ha=>?_
 by_cases h:a=i
 · subst h;rw [Qb rfl];show PV.own _ _ _ _=PV.own _ _ _ _;congr 1;refine YM fun b hb=>?_;by_cases h2:b=j
   · subst h2;rw [Qb rfl];unfold Jp;rw [Qb oM]
   · rw [Qa h2];unfold Jp;by_cases h3:b<j
     · rw [Qb oM,Qb oM]
     · rw [Qa oM,Qa oM]
 · rw [Qa h];show PV.own _ _ _ _=PV.own _ _ _ _;congr 1;refine YM fun b hb=>?_;unfold Jp;by_cases h3:a<i
   · rw [Qb oM,Qb oM]
   · rw [Qa oM,Qa oM]
theorem ZqP {E:Nat→Nat→Bool} {k i j:Nat} (h:war E k i j=true):true=war E (k+1) i j:=by simp [war,h]
theorem ZqQ {E:Nat→Nat→Bool} {k i j:Nat} (h:war E k i j=false) (h2:war E k i k=true):war E k k j=war E (k+1) i j:=by simp [war,h,h2]
theorem ZqR {E:Nat→Nat→Bool} {k i j:Nat} (h:war E k i j=false) (h2:war E k i k=false):false=war E (k+1) i j:=by simp [war,h,h2]
theorem Zfh {n k i:Nat} {E:Nat→Nat→Bool} (e:Nat):(vec n fun a=>Wo e n (Jp E k i n a))=vec n fun a=>Wo e n (Jp E k (i+1) 0 a):=by
 refine YM fun a ha=>?_
 show PV.own _ _ _ _=PV.own _ _ _ _
 congr 1
 refine YM fun b hb=>?_
 unfold Jp
 by_cases h:a≤i
 · rw [Qb oM,Qb oM]
 · rw [Qa oM,Qa oM]
theorem ZiC {n k:Nat} {E:Nat→Nat→Bool} (e:Nat):(vec n fun a=>Wo e n (Jp E k n 0 a))=vec n fun a=>Wo e n (war E (k+1) a):=by
 refine YM fun a ha=>?_
 show PV.own _ _ _ _=PV.own _ _ _ _
 congr 1
 refine YM fun b hb=>?_
 unfold Jp
 rw [Qb oM]
theorem ZcV {n k:Nat} {E:Nat→Nat→Bool} (e:Nat):(vec n fun a=>Wo e n (war E k a))=vec n fun a=>Wo e n (Jp E k 0 0 a):=by
 refine YM fun a ha=>?_
 show PV.own _ _ _ _=PV.own _ _ _ _
 congr 1
 refine YM fun b hb=>?_
 unfold Jp
 rw [Qa oM]
theorem YN {α:Type} {n i:Nat} (f:Nat→α) (h:i<n):(vec n f)[i*1]? =some (f i):=by rw [Xy];exact RO f h
theorem Zou {α:Type} {n:Nat} {f:Nat→α} {p:α→Bool} (h:∀i,p (f i)=true):(vec n f).all p=true:=by
 unfold vec;rw [VF,Xm];exact fun i _=>h i
theorem ZiD {e n k:Nat} {E:Nat→Nat→Bool} (v:Value):(((vec n fun i=>Wo e n (fun j=>if i<k then E i j else false)).set k (.val v)).set k (.own e 1 n (vec n fun j=>Zv (E k j))))=vec n fun i=>Wo e n (fun j=>if i<k+1 then E i j else false):=by
 rw [X2,SP]
 refine YM fun a ha=>?_
 by_cases h:a=k
 · subst h;rw [Qb rfl];show PV.own _ _ _ _=PV.own _ _ _ _;congr 1;exact YM fun b hb=>by dsimp only;rw [Qb oM]
 · rw [Qa h];show PV.own _ _ _ _=PV.own _ _ _ _;congr 1;refine YM fun b hb=>?_;dsimp only;by_cases h3:a<k
   · rw [Qb h3,Qb oM]
   · rw [Qa h3,Qa oM]
theorem ZcW (l :List BA) (n:Nat) (E:Nat→Nat→Bool) (s f:PV) (hl:l.length=n) (hn:n≤1000):AF prog 148 [.sptr 0 [Zs l,ZbL n E,s,f]] (· =ZbL n (WZ n E)):=by
 refine AF.b1 82 func148 rfl ntmps148 (Xa rfl) fun w0 M0 v0 _=>?_
 refine YK ?_
 refine xL 8 Za (xL 9 WS (xL 10 (YP Kr) ?_));refine yU (ZG ZN) fun v11=>?_;refine xM (Zy Zn) ?_;refine cO 13 (cA call179 (Sa l.length oM)) fun v13 ho13=>?_;refine ZQ ?_
 refine xL 14 Za (xL 15 (WQ 13 Yn) (xL 16 Za ?_));refine ZF ?_
 rw [hl]
 refine Zq (Zla (l:=13) 200 rfl rfl) fun Hs=>?_
 obtain ⟨Hs,hHs⟩:=Hs
 rw [JB] at hHs
 dsimp only
 rw [show (vec n fun i=>Wo 4 n (fun _=>false))=vec n (fun i=>Wo 4 n (fun j=>if i<0 then E i j else false)) from YM fun i _=>by congr 1]
 refine Yd (ι:={k:Nat//k≤n}) (fun k=>⟨[(0,_,_),(3,_,_),(15,_,_),(16, .int .i64 k.1,Zc k.1)],[(13,_,_),(200, .agg Hs.toArray, .agg (vec n fun i=>Wo 4 n (fun j=>if i<k.1 then E i j else false)))]⟩) (fun k=>n-k.1) ⟨0,oM⟩ ?_
 rintro ⟨k,hk⟩
 dsimp only
 refine Ys ?_ ?_<;>intro hb17
 · (
 have hlt:k<n:=oM;obtain ⟨rk,hrk⟩:=gS Hs k;have e1:=ZgP hrk;have e2:=YN (fun i=>Kq n (E i)) hlt;refine Zq (ZgG (l:=200) (i:=k) 201 rfl hrk (RO _ hlt) rfl) fun _=>?_;refine ZE ?_;refine We [] [13] ?_<;>refine gDx 0 ?_<;>refine gDx 1 ?_<;>refine xD 2 rfl (Zo 13 Yn) ?_<;>(refine yD 3 rfl (Ze 13 Z2) fun v22 h=>?_;cases h)<;>refine gDx 4 ?_<;>refine xD 5 rfl WS ?_<;>refine xD 6 rfl (YP Kb) ?_<;>(refine yD 7 rfl (ZG Wt) fun v26 h=>?_;cases h)<;>refine gEx 8 ?_<;>refine xE 9 rfl (Zg Yn) ?_<;>(refine yE 10 rfl (ZG Z2) fun v29 h=>?_;cases h)<;>(refine aDr 11 fun bk=>?_)<;>refine ZqJ 201 30 Yf ?_ (JB _ _) (Zou fun _=>rfl)<;>refine bE bk ?_<;>refine Kz ?_;refine KJ ?_;refine Yq (ZgH (l:=200) (l':=201) (i:=k) rfl hrk (XI (by rw [JB];omega)) rfl rfl) fun _=>?_;rw [ZiD];refine Yh (
  ⟨k+1,oM⟩
  ))
 · (
 refine Zh ?_;refine xL 32 Za (xL 33 (WQ 13 Yn) (xL 34 Za ?_));refine ZF ?_;rw [show (vec n fun i=>Wo 4 n (fun j=>if i<k then E i j else false))=vec n (fun i=>Wo 4 n (war E 0 i)) from YM fun i hi=>by
  show PV.own _ _ _ _=PV.own _ _ _ _;congr 1;exact YM fun j _=>by dsimp only;rw [Qb (show i<k by omega)];rfl]
 refine Yd (ι:={m:Nat//m≤n}) (fun k=>⟨[(0,_,_),(3,_,_),(33,_,_),(34, .int .i64 k.1,Zc k.1)],[(13,_,_),(200, .agg Hs.toArray, .agg (vec n fun i=>Wo 4 n (war E k.1 i)))]⟩) (fun k=>n-k.1) ⟨0,oM⟩ ?_;rintro ⟨m,hm⟩;dsimp only;refine Ys ?_ ?_<;>intro hb35
 · (
 refine Jm ?_;refine xL 37 Za (xL 38 (WQ 13 Yn) (xL 39 Za ?_));refine ZF ?_;rw [ZcV];refine Yd (ι:={i:Nat//i≤n}) (fun k=>⟨[(0,_,_),(3,_,_),(33,_,_),(34,_,_),(5,_,_),(38,_,_),(39, .int .i64 k.1,Zc k.1)],[(13,_,_),(200, .agg Hs.toArray, .agg (vec n fun a=>Wo 4 n (Jp E m k.1 0 a)))]⟩) (fun k=>n-k.1) ⟨0,oM⟩ ?_;rintro ⟨i,hi⟩;dsimp only;refine Ys ?_ ?_<;>intro hb40
 · (
 refine Jm ?_;refine xL 42 Za (xL 43 (WQ 13 Yn) (xL 44 Za ?_));refine ZF ?_;refine Yd (ι:={j:Nat//j≤n}) (fun k=>⟨[(0,_,_),(3,_,_),(33,_,_),(34,_,_),(5,_,_),(38,_,_),(39,_,_),(6,_,_),(43,_,_),(44, .int .i64 k.1,Zc k.1)],[(13,_,_),(200, .agg Hs.toArray, .agg (vec n fun a=>Wo 4 n (Jp E m i k.1 a)))]⟩) (fun k=>n-k.1) ⟨0,oM⟩ ?_;rintro ⟨j,hj⟩;dsimp only;refine Ys ?_ ?_<;>intro hb45
 · (
 have hmn:m<n:=oM;have hin:i<n:=oM;have hjn:j<n:=oM;obtain ⟨ri,hri⟩:=gS Hs i;obtain ⟨rm,hrm⟩:=gS Hs m;have e1:=ZgP hri;have e2:=ZgP hrm;have e3:=ZbM (e:=4) (Jp E m i j) hin;have e4:=ZbM (e:=4) (Jp E m i j) hmn;(have e5:(vec n fun b=>Zv (Jp E m i j i b))[j*1]? =some (Zv (war E m i j)):=by rw [YN _ hjn,Zff]);(have e6:(vec n fun b=>Zv (Jp E m i j i b))[m*1]? =some (Zv (war E m i m)):=by rw [YN _ hmn,ZiA]);(have e7:(vec n fun b=>Zv (Jp E m i j m b))[j*1]? =some (Zv (war E m m j)):=by rw [YN _ hjn,ZiB]);have e8:=JB n (fun b=>Zv (Jp E m i j i b));refine ZE ?_;(refine We [31] [13,200] ?_<;>refine gDx 0 ?_<;>refine gDx 1 ?_<;>refine xD 2 rfl (Zo 13 Yn) ?_<;>(refine yD 3 rfl (Ze 13 Z2) fun v50 h=>?_;cases h)<;>refine gDx 4 ?_<;>refine gDx 5 ?_<;>refine gDx 6 ?_<;>refine xD 7 rfl (Zo 13 Yn) ?_<;>(refine yD 8 rfl (Ze 13 Z2) fun v55 h=>?_;cases h)<;>refine gEx 9 ?_<;>refine xE 10 rfl (Cp 200 Yf) ?_<;>(refine yE 11 rfl (Zld 200 Yk) fun v58 h=>?_;cases h)<;>refine gEx 12 ?_<;>(refine bD 59 (fun hb59=>?_) (fun hb59=>?_)<;>(first|refine kD 13 ?_|refine gDx 13 ?_))<;>(first|refine kD 14 ?_|refine gDx 14 ?_)<;>(first|refine kD 15 ?_|refine xD 15 rfl (Zo 13 Yn) ?_)<;>(first|refine kD 16 ?_|(refine yD 16 rfl (Ze 13 Z2) fun v63 h=>?_;cases h))<;>(first|refine kD 17 ?_|refine gDx 17 ?_)<;>(first|refine kD 18 ?_|refine xD 18 rfl (Cp 200 Yf) ?_)<;>(first|refine kD 19 ?_|(refine yD 19 rfl (Zld 200 Yk) fun v66 h=>?_;cases h))<;>(first|refine kD 20 ?_|refine gDx 20 ?_)<;>(first|refine kD 21 ?_|(refine bD 67 (fun hb67=>?_) (fun hb67=>?_)<;>(first|refine kD 21 ?_|refine gDx 21 ?_)))<;>(first|refine kD 22 ?_|refine gDx 22 ?_)<;>(first|refine kD 23 ?_|refine xD 23 rfl (Zo 13 Yn) ?_)<;>(first|refine kD 24 ?_|(refine yD 24 rfl (Ze 13 Z2) fun v71 h=>?_;cases h))<;>(first|refine kD 25 ?_|refine gDx 25 ?_)<;>(first|refine kD 26 ?_|refine xD 26 rfl (Cp 200 Yf) ?_)<;>(first|refine kD 27 ?_|(refine yD 27 rfl (Zld 200 Yk) fun v74 h=>?_;cases h))<;>(first|refine kD 28 ?_|refine gDx 28 ?_)<;>refine gEx 29 ?_<;>refine xE 30 rfl (Cp 200 Yf) ?_<;>(refine Z6 31 kR ?_)<;>(refine Kj rfl rfl kR fun DQ bk=>?_)<;>refine Zqm 200 Yk PF ?_<;>refine Ww (bk _ (nav ?_))<;>try dsimp only)<;>(
 refine KJ ?_;rw [Zfg (by first|exact ZqP hb59|exact ZqQ hb59 hb67|exact ZqR hb59 hb67)];refine Yh (
  ⟨j+1,oM⟩
  )))
 · (
 refine ZE ?_;rw [show j=n by omega,Zfh];refine Yh (
  ⟨i+1,oM⟩
  )))
 · (
 refine ZE ?_;rw [show i=n by omega,ZiC];refine Yh (
  ⟨m+1,oM⟩
  )))
 · (
 refine ZE ?_;rw [show m=n by omega];refine Z5 (Zlb (l:=13) (l':=200) rfl rfl rfl rfl) fun _=>?_;refine Z5 (En.freeze (l:=13) (t:=2) rfl rfl) fun _=>?_;refine Zf results148 rfl ?_;exact Zay _ _ n (war E n)))
def Zov (n:Nat) (p:Nat→Bool):Bool:=(List.range n).all p
theorem ZaC {n k:Nat} {p:Nat→Bool} (hk:k<n) (h:p k=false):Zov n p=false:=V8.2 ⟨k,Va.2 hk,by rw [h];simp⟩
theorem DV {n:Nat} {p:Nat→Bool} (h:∀j,j<n→p j=true):Zov n p=true:=Xm.2 fun j hj=>h j (Va.1 hj)
def endsB (n:Nat) (E:Nat→Nat→Bool) (F:Nat→Bool) (a b:Nat):Bool:= !E a b||(F a&&Zov n fun x=> !F x||E x b)
def CO (n:Nat) (E:Nat→Nat→Bool) (S:Nat→Bool) (a b:Nat):Bool:= !E b a||(S a&&Zov n fun x=> !S x||E b x)
def Ks (n:Nat) (E:Nat→Nat→Bool) (S F:Nat→Bool) (a b:Nat):Bool:=endsB n E F a b&&CO n E S a b
def G0 (l:List BA) (n:Nat) (E:Nat→Nat→Bool) (S F:Nat→Bool):PV:= .sptr 0 [Zs l,ZbL n E,Kq n S,Kq n F]
theorem Zll (l : List BA) (n:Nat) (E:Nat→Nat→Bool) (S F:Nat→Bool) (a b:Nat) (hl:l.length=n) (hn:n≤1000) (ha:a<n) (hb:b<n):AF prog 160 [G0 l n E S F,Zc a,Zc b] (· =Zv (Ks n E S F a b)):=by
 have ea:=YN (fun i=>Kq n (E i)) ha
 have eb:=YN (fun i=>Kq n (E i)) hb
 have eab:=YN (fun j=>Zv (E a j)) hb
 have eba:=YN (fun j=>Zv (E b j)) ha
 have fa:=YN (fun j=>Zv (F j)) ha
 have sa:=YN (fun j=>Zv (S j)) ha
 refine AF.b3 103 func160 rfl ntmps160 (Xa rfl) ?_
 rintro w0 M0 v0 _ _-rfl rfl
 dsimp only [G0]
 refine YK ?_
 refine xL 9 Za (xL 10 WS (xL 11 (YP Kb) ?_));refine yU (ZG Wt) fun v12=>?_;refine xL 13 Za (xL 14 (Zg Yn) ?_);refine yU (ZG Z2) fun v15=>?_;refine xL 16 Za (xL 17 (Zg Yf) ?_);refine yV (ZG Yk) ?_;refine ZF ?_
 refine KI (fun x:{x:Unit//endsB n E F a b=true}=>⟨[(0,v0,G0 l n E S F),(1, .int .i64 a,Zc a),(2, .int .i64 b,Zc b)],[]⟩) ?_ ?_
 · refine cX ?_ ?_ <;>intro hb18
   · (
 refine Zh ?_;refine xL 19 Za (xL 20 WS (xL 21 (YP LH) ?_));refine yU (ZG Z2) fun v22=>?_;refine xL 23 Za (xL 24 (Zg Yf) ?_);refine yV (ZG Yk) ?_;refine YX ?_ ?_<;>intro hb26
 · (
 refine ZI ?_;refine Zf results160 rfl ?_;rw [show Ks n E S F a b=false by unfold Ks endsB;rw [hb18,show F a=false by simpa using hb26];simp])
 · (
 refine Zh ?_;refine xL 27 Za (xL 28 WS (xL 29 (YP Kr) ?_));refine yU (ZG ZN) fun v30=>?_;refine xL 31 (Zy Zn) (xL 32 Za ?_);refine ZF ?_;refine Y7 (ι:={k:Nat//k≤n∧∀j,j<k→(!F j||E j b)=true}) (fun k=>⟨[(0,_,_),(1,_,_),(2,_,_),(31,_,_),(32, .int .i64 k.1,Zc k.1)],[]⟩) (fun k=>n-k.1) ⟨0,oM,oM⟩ (fun a w H=>H.weaken sB trivial) ?_;rintro ⟨k,hk,hp⟩;dsimp only;refine Ys ?_ ?_<;>intro hb33
 · (
 have hlt:k<n:=oM;have fk:=YN (fun j=>Zv (F j)) hlt;have ek:=YN (fun i=>Kq n (E i)) hlt;have ekb:=YN (fun j=>Zv (E k j)) hb;refine Jm ?_;(refine xL 35 Za (xL 36 WS (xL 37 (YP LH) ?_))<;>refine yU (ZG Z2) fun v38=>?_<;>refine xL 39 Za (xL 40 (Zg Yf) ?_)<;>refine yV (ZG Yk) ?_<;>refine Yv ?_<;>(refine bL 42 (fun hb42=>?_) (fun hb42=>?_)<;>refine kZ ?_)<;>(first|refine kL ?_|refine xM WS ?_)<;>(first|refine kL ?_|refine xM (YP Kb) ?_)<;>(first|refine kL ?_|refine yU (ZG Wt) fun v46=>?_)<;>refine kZ ?_<;>(first|refine kL ?_|refine xM (Zg Yn) ?_)<;>(first|refine kL ?_|refine yU (ZG Z2) fun v49=>?_)<;>refine kZ ?_<;>(first|refine kL ?_|refine xM (Zg Yf) ?_)<;>(first|refine kL ?_|refine yV (ZG Yk) ?_)<;>refine Wz ?_)<;>(
 refine cX ?_ ?_<;>intro hb54
 · first|exact bN hb54|(
 refine ZI ?_;refine Zf results160 rfl ?_;rw [show Ks n E S F a b=false by unfold Ks endsB;rw [hb18,ZaC hlt (by rw [hb42,show E k b=false by simpa using hb54];rfl)];simp])
 · (
 refine ZE ?_;refine Zm (
  ⟨k +1,oM,fun j hj=>by
   by_cases e:j=k
   · subst e
     first|(rw [hb42];simpa using hb54)|(rw [hb42];rfl)
   · exact hp j oM⟩
  ) (by dsimp only;omega) sB trivial)))
 · (
 refine nav ?_;refine ZS ⟨(),?_⟩ sB trivial
 first
  |(unfold endsB;rw [hb18,show F a=true by simpa using hb26,DV fun j hj=>hp j oM];rfl)
  |(unfold endsB;rw [hb18];rfl))))
   · (
 refine nav ?_;refine ZS ⟨(),?_⟩ sB trivial
 first
  |(unfold endsB;rw [hb18,show F a=true by simpa using hb26,DV fun j hj=>hp j oM];rfl)
  |(unfold endsB;rw [hb18];rfl))
 · rintro ⟨_, hends⟩;dsimp only [G0];refine Zh ?_;refine xL 56 Za (xL 57 WS (xL 58 (YP Kb) ?_));refine yU (ZG Wt) fun v59=>?_;refine xL 60 Za (xL 61 (Zg Yn) ?_);refine yU (ZG Z2) fun v62=>?_;refine xL 63 Za (xL 64 (Zg Yf) ?_);refine yV (ZG Yk) ?_;refine ZR ?_ ?_<;>intro hb65
   · (
 refine Zh ?_;refine xL 66 Za (xL 67 WS (xL 68 (YP LG) ?_));refine yU (ZG Z2) fun v69=>?_;refine xL 70 Za (xL 71 (Zg Yf) ?_);refine yV (ZG Yk) ?_;refine YX ?_ ?_<;>intro hb73
 · (
 refine ZI ?_;refine Zf results160 rfl ?_;rw [show Ks n E S F a b=false by unfold Ks CO;rw [hb65,show S a=false by simpa using hb73];simp])
 · (
 refine Zh ?_;refine xL 74 Za (xL 75 WS (xL 76 (YP Kr) ?_));refine yU (ZG ZN) fun v77=>?_;refine xL 78 (Zy Zn) (xL 79 Za ?_);refine ZF ?_;refine Y7 (ι:={k:Nat//k≤n∧∀j,j<k→(!S j||E b j)=true}) (fun k=>⟨[(0,_,_),(1,_,_),(2,_,_),(78,_,_),(79, .int .i64 k.1,Zc k.1)],[]⟩) (fun k=>n-k.1) ⟨0,oM,oM⟩ (fun a w H=>H.weaken sB trivial) ?_;rintro ⟨k,hk,hp⟩;dsimp only;refine Ys ?_ ?_<;>intro hb80
 · (
 have hlt:k<n:=oM;have fk:=YN (fun j=>Zv (S j)) hlt;have ekb:=YN (fun j=>Zv (E b j)) hlt;refine Jm ?_;(refine xL 82 Za (xL 83 WS (xL 84 (YP LG) ?_))<;>refine yU (ZG Z2) fun v85=>?_<;>refine xL 86 Za (xL 87 (Zg Yf) ?_)<;>refine yV (ZG Yk) ?_<;>refine Yv ?_<;>(refine bL 89 (fun hb89=>?_) (fun hb89=>?_)<;>refine kZ ?_)<;>(first|refine kL ?_|refine xM WS ?_)<;>(first|refine kL ?_|refine xM (YP Kb) ?_)<;>(first|refine kL ?_|refine yU (ZG Wt) fun v93=>?_)<;>refine kZ ?_<;>(first|refine kL ?_|refine xM (Zg Yn) ?_)<;>(first|refine kL ?_|refine yU (ZG Z2) fun v96=>?_)<;>refine kZ ?_<;>(first|refine kL ?_|refine xM (Zg Yf) ?_)<;>(first|refine kL ?_|refine yV (ZG Yk) ?_)<;>refine Wz ?_)<;>(
 refine cX ?_ ?_<;>intro hb101
 · first|exact bN hb101|(
 refine ZI ?_;refine Zf results160 rfl ?_;rw [show Ks n E S F a b=false by unfold Ks CO;rw [hb65,ZaC hlt (by rw [hb89,show E b k=false by simpa using hb101];rfl)];simp])
 · (
 refine ZE ?_;refine Zm (
  ⟨k +1,oM,fun j hj=>by
   by_cases e:j=k
   · subst e
     first|(rw [hb89];simpa using hb101)|(rw [hb89];rfl)
   · exact hp j oM⟩
  ) (by dsimp only;omega) sB trivial)))
 · (
 refine ZI ?_;refine Zf results160 rfl ?_
 first
  |rw [show Ks n E S F a b=true by unfold Ks CO;rw [hends,hb65,show S a=true by simpa using hb73,DV fun j hj=>hp j oM];rfl]
  |rw [show Ks n E S F a b=true by unfold Ks CO;rw [hends,hb65];rfl])))
   · (
 refine ZI ?_;refine Zf results160 rfl ?_
 first
  |rw [show Ks n E S F a b=true by unfold Ks CO;rw [hends,hb65,show S a=true by simpa using hb73,DV fun j hj=>hp j oM];rfl]
  |rw [show Ks n E S F a b=true by unfold Ks CO;rw [hends,hb65];rfl])
def ZbN (g:Dfg) (p:PV):Prop:=p=if TV g then .tup [Zot g,Zc 0] else .tup [.val (.pointer none),Zc 1]
theorem Zlm (g:Dfg) (hf:ZqO g) (ha:g.acts.length≤1000000) (hs:g.starts.length≤1000000) (he:g.ends.length≤1000000):AF prog 143 [GJ g] (ZbN g):=by
 refine AF.b1 9 func143 rfl ntmps143 (Xa rfl) fun w0 M0 v0 _=>?_
 refine Zh ?_
 refine ZV 1 4 fun h1=>?_;refine Jn ?_
 refine yU (Zj 1 YQ) fun v4=>?_;refine cV (cA call177 (Zlg g hf ha hs he)) ?_;refine YX ?_ ?_<;>intro hb6
 · (
 refine ZE ?_;refine Z1 results143 rfl rfl ?_;unfold ZbN;rw [show TV g=false by simpa using hb6];rfl)
 · (
 refine Zh ?_;refine yU (Zj 1 YQ) fun v7=>?_;refine cU (cA call178 (ZrZ g (by simpa using hb6) hf.2.2.2.1 hf.2.1.1 hf.2.2.1.1)) fun v8=>?_;refine YJ ?_;refine Z1 results143 rfl rfl ?_;unfold ZbN;rw [show TV g=true by simpa using hb6];rfl)
end Go.Proofs.YteiincihiagidaaGreat
namespace Go.Cb
theorem ZaD:∀l:List UInt8,Op.bytesLess l l=false
 |[]=>rfl
 |a::l=>by simp [Op.bytesLess,ZaD l,UInt8.lt_irrefl]
theorem ZcX:∀a b c:List UInt8,Op.bytesLess a b=true→Op.bytesLess b c=true→Op.bytesLess a c=true
 |_,_,[],_,h=>by cases h':(‹List UInt8›:List UInt8)<;>simp_all [Op.bytesLess]
 |_,[],_::_,h,_=>by simp [Op.bytesLess] at h
 |[],_::_,_::_,_,_=>rfl
 | x ::a,y::b,z::c,h1,h2=>by
   simp only [Op.bytesLess,X3,Xi,U8,beq_iff_eq] at h1 h2 ⊢;rcases h1 with h1|⟨rfl,h1⟩
   · rcases h2 with h2|⟨rfl,h2⟩
     · exact .inl (UInt8.lt_trans h1 h2)
     · exact .inl h1
   · rcases h2 with h2|⟨rfl,h2⟩
     · exact .inl h2
     · exact .inr ⟨rfl,ZcX a b c h1 h2⟩
theorem ZcY:∀a b:List UInt8,Op.bytesLess a b=false→Op.bytesLess b a=false→a=b
 |[],[],_,_=>rfl
 |[],_::_,h,_=>by simp [Op.bytesLess] at h
 |_::_,[],_,h=>by simp [Op.bytesLess] at h
 | x::a,y::b,h1,h2=>by
   simp only [Op.bytesLess,Uc,decide_eq_false_iff_not] at h1 h2;have hxy:x=y:=UInt8.le_antisymm (UInt8.not_lt.1 h2.1) (UInt8.not_lt.1 h1.1);subst hxy;simp only [beq_self_eq_true,Uo] at h1 h2;rw [ZcY a b h1.2 h2.2]
theorem Y2 (a:BA):strLt a a=false:=ZaD _
theorem YY {a b c:BA} (h:strLt a b=true) (k:strLt b c=true):strLt a c=true:=ZcX _ _ _ h k
theorem Kw {a b:BA} (h:strLt a b=false) (k:strLt b a=false):a=b:=by
 have:=ZcY _ _ h k
 rw [ByteArray.toList_eq,ByteArray.toList_eq] at this
 exact WideShapes.bytes_inj this
theorem Kx {a b:BA}:Z0 a b=0↔a=b:=by
 unfold Z0
 constructor
 · intro h;split at h
   · omega
   · split at h
     · rename_i h2;exact KB.1 h2
     · omega
 · rintro rfl;rw [Y2,KB.2 rfl];rfl
theorem Tc {a b:BA}:Z0 a b<0↔strLt a b=true:=by
 unfold Z0
 constructor
 · intro h;split at h
   · assumption
   · split at h<;>omega
 · intro h;rw [h,Qb rfl];decide
theorem YH:∀{l m:List BA},cmpStrs l m=0↔l=m
 |[],[]=>by simp [cmpStrs]
 |[],_::_=>by simp [cmpStrs]
 |_::_,[]=>by simp [cmpStrs]
 | a ::l,b::m=>by
   rw [cmpStrs];split
   · rename_i h;rw [YH,Kx.1 h];simp
   · rename_i h;constructor
     · intro h';exact Qc h' h
     · intro h';cases h';exact Qc (Kx.2 rfl) h
def ltW (l m:List BA):Bool:=decide (cmpStrs l m<0)
theorem CP {a b:BA} {l m:List BA}:ltW (a::l) (b::m)=true↔strLt a b=true∨(a=b∧ltW l m=true):=by
 unfold ltW
 rw [cmpStrs]
 split
 · rename_i h;have:=Kx.1 h;subst this;simp [Y2]
 · rename_i h;rw [U8,Tc];constructor
   · exact .inl
   · rintro (h1|⟨rfl,_⟩)
     · exact h1
     · exact Qc (Kx.2 rfl) h
theorem RP (l:List BA):ltW l l=false:=by unfold ltW;rw [YH.2 rfl];rfl
theorem Td:∀{a b c:List BA},ltW a b=true→ltW b c=true→ltW a c=true
 |_,b,[],_,h=>by cases b<;>simp [ltW,cmpStrs] at h
 |a,[],_::_,h,_=>by cases a<;>simp [ltW,cmpStrs] at h
 |[],_::_,_::_,_,_=>by simp [ltW,cmpStrs]
 | x ::a,y::b,z::c,h1,h2=>by
   rw [CP] at h1 h2 ⊢;rcases h1 with h1|⟨rfl,h1⟩
   · rcases h2 with h2|⟨rfl,h2⟩
     · exact .inl (YY h1 h2)
     · exact .inl h1
   · rcases h2 with h2|⟨rfl,h2⟩
     · exact .inl h2
     · exact .inr ⟨rfl,Td h1 h2⟩
theorem Sb:∀{a b:List BA},ltW a b=false→ltW b a=false→a=b
 |[],[],_,_=>rfl
 |[],_::_,h,_=>by simp [ltW,cmpStrs] at h
 |_::_,[],_,h=>by simp [ltW,cmpStrs] at h
 | x::a,y::b,h1,h2=>by
   have g1:¬(strLt x y=true∨(x=y∧ltW a b=true)):=fun h=>by rw [CP.2 h] at h1;cases h1
   have g2:¬(strLt y x=true∨(y=x∧ltW b a=true)):=fun h=>by rw [CP.2 h] at h2;cases h2
   have hxy:x=y:=Kw (by cases h:strLt x y with|false=>rfl|true=>exact Qc (.inl h) g1) (by cases h:strLt y x with|false=>rfl|true=>exact Qc (.inl h) g2);subst hxy;rw [Sb (a:=a) (b:=b) (by cases h:ltW a b with|false=>rfl|true=>exact Qc (.inr ⟨rfl,h⟩) g1) (by cases h:ltW b a with|false=>rfl|true=>exact Qc (.inr ⟨rfl,h⟩) g2)]
def bump:List Var→List BA→Int→List Var
 |[],w,n=>[⟨w,n⟩]
 |x::r,w,n=>if x.acts=w then ⟨x.acts,x.count+n⟩::r else x::bump r w n
def Asc (r:List Var):Prop:=r.Pairwise fun x y=>ltW x.acts y.acts=true
theorem CQ {w:List BA} {n:Int}:∀{r:List Var} {x:Var},x∈Gz r w n→x.acts=w∨x∈r
 |[],x,h=>by simp [Gz] at h;exact .inl (by rw [h])
 | y :: r,x,h=>by
   rw [Gz] at h;split at h
   · rcases Xk.1 h with rfl|h
     · exact .inr sM
     · exact (CQ h).imp id fun h=>by simp [h]
   · split at h
     · rcases Xk.1 h with rfl|h
       · exact .inl rfl
       · exact .inr (by simp [h])
     · rcases Xk.1 h with rfl|h
       · exact .inl rfl
       · exact .inr h
theorem CR {w:List BA} {n:Int}:∀{r:List Var},Asc r→Asc (Gz r w n)
 |[],_=>by simp [Gz,Asc]
 | x :: r, h=>by
   have hx:=XL.1 h;rw [Gz];split
   · rename_i hc;refine XL.2 ⟨fun y hy=>?_,CR hx.2⟩;rcases CQ hy with h1|h1
     · rw [h1];simpa [ltW] using hc
     · exact hx.1 y h1
   · split
     · rename_i hc;have hw:x.acts=w:=YH.1 hc;refine XL.2 ⟨fun y hy=>?_,hx.2⟩;show ltW w y.acts=true;rw [←hw];exact hx.1 y hy
     · rename_i h1 h2;have hlt:ltW w x.acts=true:=by
        cases h3:ltW w x.acts with
        |true=>rfl
        | false=>
          (have h4:ltW x.acts w=false:=by simpa [ltW] using h1);exact Qc (YH.2 (Sb h4 h3)) h2
       refine XL.2 ⟨fun y hy=>?_,h⟩;rcases Xk.1 hy with rfl|hy
       · exact hlt
       · exact Td hlt (hx.1 y hy)
def Nodup (r:List Var):Prop:=r.Pairwise fun x y=>x.acts≠y.acts
theorem Asc.nodup {r:List Var} (h:Asc r):Nodup r:=h.imp fun {x y} h e=>by rw [e,RP] at h;cases h
theorem Nodup.perm {r s:List Var} (h:Nodup r) (p:r.Perm s):Nodup s:=(p.pairwise_iff (fun {x y} h=>Ne.symm h)).1 h
theorem HP {w:List BA} {n:Int}:∀{r:List Var},(∀x∈r,x.acts≠w)→bump r w n=r++[⟨w,n⟩]
 |[],_=>rfl
 |x::r,h=>by rw [bump,Qa (h x sM),HP fun y hy=>h y (by simp [hy])];rfl
theorem ZiE {w:List BA} {n:Int} {r s:List Var} (hn:Nodup r) (p:r.Perm s):(bump r w n).Perm (bump s w n):=by
 induction p with
 |nil=>exact .refl _
 | cons x p ih=>
   have h:=XL.1 hn;simp only [bump];split
   · exact p.cons _
   · exact (ih h.2).cons _
 | swap x y l=>
   have h:=XL.1 hn;have hxy:y.acts≠x.acts:=h.1 x sM;simp only [bump];by_cases h1:y.acts=w
   · have h2:x.acts≠w:=fun e=>hxy (h1.trans e.symm);rw [Qb h1,Qa h2,Qb h1];exact .swap ..
   · by_cases h2:x.acts=w
     · rw [Qa h1,Qb h2,Qb h2];exact .swap ..
     · rw [Qa h1,Qa h2,Qa h2,Qa h1];exact .swap ..
 |trans p q ih1 ih2=>exact (ih1 hn).trans (ih2 (hn.perm p))
theorem ZcZ {w:List BA} {n:Int}:∀{r:List Var},Asc r→(Gz r w n).Perm (bump r w n)
 |[],_=> .refl _
 | x :: r, h=>by
   have hx:=XL.1 h;rw [Gz,bump];split
   · rename_i hc;(have hne:x.acts≠w:=fun e=>by rw [YH.2 e] at hc;omega);rw [Qa hne];exact (ZcZ hx.2).cons _
   · split
     · rename_i hc;have hw:x.acts=w:=YH.1 hc;rw [Qb hw,hw]
     · rename_i h1 h2;have hne:x.acts≠w:=fun e=>h2 (YH.2 e);have hlt:ltW w x.acts=true:=by
        cases h3:ltW w x.acts with
        |true=>rfl
        | false=>
          (have h4:ltW x.acts w=false:=by simpa [ltW] using h1);exact Qc (YH.2 (Sb h4 h3)) h2
       rw [Qa hne,HP fun y hy e=>by
        have h5:=Td hlt (hx.1 y hy);rw [e,RP] at h5;cases h5]
       have:=(List.perm_append_comm (l₁:=[(⟨w,n⟩:Var)]) (l₂:=x::r));simpa using this
theorem CS:∀{r s:List Var},Asc r→Asc s→r.Perm s→r=s
 |[],s,_,_,p=>(List.nil_perm.1 p).symm
 |x::r,[],_,_,p=>Qc p.length_eq sM
 | x :: r,y::s,hr,hs,p=>by
   have h1:=XL.1 hr;have h2:=XL.1 hs;have hxy:x=y:=by
    have hx:x∈y::s:=p.mem_iff.1 sM;have hy:y∈x::r:=p.mem_iff.2 sM;rcases Xk.1 hx with e|hx
    · exact e
    · rcases Xk.1 hy with e|hy
      · exact e.symm
      · have a:=h2.1 x hx;have b:=h1.1 y hy;have:=Td a b;rw [RP] at this;cases this
   subst hxy;rw [CS h1.2 h2.2 (List.Perm.cons_inv p)]
theorem Zc0 {r s t:List Var} (h1:Asc s) (h2:r.Perm s) (h3:Asc t) (h4:t.Perm r):t=s:=CS h3 h1 (h4.trans h2)
theorem ZiF {w:List BA} {n:Int} {r s:List Var} (h1:Asc s) (h2:r.Perm s):(bump r w n).Perm (Gz s w n):=
 (ZiE ((h1.nodup).perm h2.symm) h2).trans (ZcZ h1).symm
end Go.Cb
namespace Go.Proofs.YteiincihiagidaaGreat
open Go.RowKit Go.Cb Go.En Tryz
theorem Ey {l:List BA} {s:BA} (h:s∈l):hasStr l s=true:=by unfold hasStr;rw [X4];exact ⟨s,h,KB.2 rfl⟩
end Go.Proofs.YteiincihiagidaaGreat
namespace Go.Cb
open Go.En
structure Grows (n:Nat) (E R:Nat→Nat→Bool):Prop where
 lo:∀i j,i<n→j<n→E i j=true→R i j=true
 hi:∀T,Closed n E T→∀i j,i<n→j<n→R i j=true→T i j=true
def Before (a b c a' b' c':Nat):Prop:=a'<a∨(a'=a∧(b'<b∨(b'=b∧c'<c)))
structure Pass (n:Nat) (E R0 R:Nat→Nat→Bool) (ag:Bool) (a b c:Nat):Prop where
 gr:Grows n E R
 dn:ag=true→cntM n R<cntM n R0
 st:ag=false→R=R0∧∀a' b' c',a'<n→b'<n→c'<n→Before a b c a' b' c'→R0 a' b'=true→R0 b' c'=true→R0 a' c'=true
end Go.Cb
namespace Go.Proofs.YteiincihiagidaaGreat
open Go.RowKit Go.Cb Go.En Tryz
theorem DW:FldT prog 104 0 0=true:=kR
theorem DX:FldT prog 104 1 1=true:=kR
theorem O1:MpT prog 142 9 3 .string (.int .i64 0):=⟨underlying142,underlying9, .inl rfl,by show ZeroT _ _ _;unfold ZeroT;kernel_rfl⟩
theorem ZiG:NoAgg prog 39=true:=kR
theorem Zc1:NoAgg prog 3=true:=kR
theorem ZaE:NoAgg prog 56=true:=kR
theorem Zc2:NoAgg prog 9=true:=kR
theorem Ob:SlT prog 39 9 1=true:=kR
theorem HQ:SlT prog 56 39 1=true:=kR
def PG (i:Nat) (p:List BA):List (BA×Value):=p.map fun s=>(s,Value.int .i64 (i:Int))
def YA:Nat→List (List BA)→List (BA×Value)
 |_,[]=>[]
 |i,p::ps=>PG i p++YA (i+1) ps
theorem DY:∀(ps:List (List BA)) (i:Nat) (p:List BA),YA i (ps++[p])=YA i ps++PG (i+ps.length) p
 |[],i,p=>by simp [YA]
 | q::ps,i,p=>by
   rw [XV,YA,YA,DY ps (i+1) p,XA];congr 3;simp;omega
theorem Ez {es fs:List (BA×Value)} {s:BA}:WX (es++fs) s=match WX es s with|some v=>some v|none=>WX fs s:=by
 induction es with
 |nil=>rfl
 | cons x l ih=>
   simp only [XV,WX];split
   · rfl
   · exact ih
theorem ZaF (i:Nat) (p:List BA) (s:BA):WX (PG i p) s=if hasStr p s then some (.int .i64 (i:Int)) else none:=by
 induction p with
 |nil=>rfl
 | cons x p ih=>
   simp only [PG,Xj,WX];by_cases h:s=x
   · subst h;(have:hasStr (s::p) s=true:=by unfold hasStr;simp;exact .inl (KB.2 rfl));simp [this]
   · have h0:Kv x s=false:=by
      cases h1:Kv x s
      · rfl
      · exact Qc (KB.1 h1).symm h
     (have:hasStr (x::p) s=hasStr p s:=by unfold hasStr;simp [h0]);rw [Qa h,this];exact ih
theorem DZ:∀(ps:List (List BA)) (i:Nat) (s:BA),WX (YA i ps) s=(ps.findIdx? fun p=>hasStr p s).map fun (j:Nat)=>Value.int .i64 ((i+j:Nat):Int)
 |[],i,s=>rfl
 | p ::ps,i,s=>by
   rw [YA,Ez,ZaF,List.findIdx?_cons,DZ ps (i+1) s]
   cases hasStr p s
   · simp [Function.comp_def]
     cases ps.findIdx? fun p=>hasStr p s<;>simp;omega
   · simp
theorem O2 (ps:List (List BA)) (s:BA):WX (YA 0 ps) s=(T1 ps s).map fun n=>Value.int .i64 n:=by
 rw [DZ]
 unfold T1
 rw [Option.map_map]
 congr 1
 funext j
 simp
theorem CU {es:List (BA×Value)} {s:BA} {v:Value} (h:WX es s=none):KS es s v=es++[(s,v)]:=by
 induction es with
 |nil=>rfl
 | cons x l ih=>
   simp only [WX] at h;split at h
   · cases h
   · rename_i hx;rw [KS,Qa hx,ih h,XV]
theorem Zln (ps:List (List BA)) (p:List BA) (s:BA) (k:Nat):(WX (YA 0 ps++PG k p) s).isSome=hasStr (ps.flatten++p) s:=by
 rw [Ez,O2]
 have h1:=CJ ps s
 have h2:hasStr (ps.flatten++p) s=(hasStr ps.flatten s||hasStr p s):=by unfold hasStr;rw [VD]
 rw [h2,←h1,ZaF]
 cases T1 ps s<;>cases hasStr p s<;>rfl
def Zfi (c:Cut) (p:PV):Prop:=∃q,p= .tup [q,Zv (WC c)]∧(WC c=true→q= .omap (skv (YA 0 c.parts)))∧(q= .val (.map none)∨∃es,q= .omap es)
theorem Oc {c:Cut} (h:Lu [] c.parts=false):WC c=false:=by unfold WC;rw [h];simp
theorem Od {c:Cut} (h:WC c=false):Zfi c (.tup [.val (.map none),Zv false]):=⟨_,by rw [h],fun h'=>(by rw [h] at h';cases h'), .inl rfl⟩
theorem Zc3 (c:Cut) (hs:∀p∈c.parts,∀s∈p,s.size≤140737488355328):AF prog 115 [ZbE c] (Zfi c):=by
 refine AF.b1 75 func115 rfl ntmps115 (Xa rfl) fun w0 M0 v0 _=>?_
 refine Zh ?_
 refine ZV 1 2 fun h1=>?_;refine Jn ?_
 refine JX 11 fun h11 ho11=>?_;refine ZQ ?_
 refine xM (Zb 1 DX) ?_;refine yU (Ze 1 ZaE) fun v13=>?_;refine xL 14 (Zy HQ) (xL 15 Za ?_);refine ZF ?_
 refine WE 13 rfl fun hlen=>?_
 refine Yd (ι:={k:Nat//k≤c.parts.length∧Lu [] c.parts=Lu (c.parts.take k).flatten (c.parts.drop k)}) (fun k=>⟨[(1,ZD (Zr h1) 0, .val (ZD (Zr h1) 0)),(4,h11, .val h11),(13,v13,WF c.parts),(14, .int .i64 c.parts.length,Zc c.parts.length),(15, .int .i64 k.1,Zc k.1)],[(1,h1, .own 104 2 1 [Zc c.kind,WF c.parts]),(11,h11, .omap (skv (YA 0 (c.parts.take k.1))))]⟩) (fun k=>c.parts.length-k.1) ⟨0,oM,rfl⟩ ?_
 rintro ⟨k,hk,hpre⟩
 dsimp only
 refine ZI ?_
 refine Yb rfl ?_ ?_
 · intro hb;have hlt:k<c.parts.length:=by have:=Qd hb;omega
   obtain ⟨p,hx⟩:=get_some hlt;have e1:=Z8 (f:=Zs) hx;have hpm:=hs p (Xc hx);have HD:Lu (c.parts.take k).flatten (c.parts.drop k)=((HA p&&RA (c.parts.take k).flatten p)&&Lu (c.parts.take (k+1)).flatten (c.parts.drop (k+1))):=by
    rw [Jw hx,Lu,Zig hx]
   refine Zh ?_;refine xL 17 Za (xL 18 (Zg HQ) ?_);refine yU (ZG ZiG) fun v19=>?_;refine YJ ?_;refine WE 6 rfl fun hlenp=>?_;refine Zi ?_;refine xL 20 Za (xL 21 (Zy Ob) (xL 22 Za ?_));refine ZF ?_;refine Y7 (ι:={j:Nat//j≤p.length∧∀m s,m<j→p[m]? =some s→CL (c.parts.take k).flatten p m s}) (fun j=>⟨[(1,ZD (Zr h1) 0, .val (ZD (Zr h1) 0)),(4,h11, .val h11),(5, .int .i64 k,Zc k),(6,v19,Zs p),(20,v19,Zs p),(21, .int .i64 p.length,Zc p.length),(22, .int .i64 j.1,Zc j.1),(13,v13,WF c.parts),(14, .int .i64 c.parts.length,Zc c.parts.length),(15, .int .i64 k,Zc k)],[(1,h1, .own 104 2 1 [Zc c.kind,WF c.parts]),(11,h11, .omap (skv (YA 0 (c.parts.take k)++PG k (p.take j.1))))]⟩) (fun j=>p.length-j.1) ⟨0,oM,fun m s hm=>oM⟩ (fun a w H=>H.weaken sB ⟨rfl,by simp [PG];rfl,trivial⟩) ?_;rintro ⟨j,hj,hprei⟩;dsimp only;refine ZI ?_;refine Yb rfl ?_ ?_
   · intro hb2;(have hltj:j<p.length:=by have:=Qd hb2;omega);obtain ⟨s,hsj⟩:=get_some hltj;have e2:=Z8 (f:=Zt) hsj;have hss:=hpm s (Xc hsj);have hy:0<j→∃y,p[j-1]? =some y∧(p.map Zt)[j-1]? =some (Zt y):=fun h0=>by
      obtain ⟨y,hy⟩:=gS p (j-1);exact ⟨y,hy,by rw [Xo,hy];rfl⟩
     have hmg:=Lv (YA 0 (c.parts.take k)++PG k (p.take j)) s;have hsome:=Zln (c.parts.take k) (p.take j) s k;refine Zh ?_;refine xL 24 Za (xL 25 (Zg Ob) ?_);refine yV (ZG Zc2) ?_;refine Jn ?_;refine xL 28 Za (xL 29 Za (xL 30 (ZcJ 11 O1) (xL 27 Za (xL 31 Gg (xL 32 Gg (xL 9 Wv (xL 10 Wv ?_)))))));refine Yc ?_;refine YW ?_<;>(refine bL 34 (fun hb34=>?_) (fun hb34=>?_)<;>refine kZ ?_)<;>(first|refine kL ?_|(refine Ci 36 rfl rfl (Xa rfl) (Dv rfl (call105) rfl (DL s oM)) ?_;rintro p' rfl;refine ⟨rfl,?_⟩;intro v36 hv36;cases hv36))<;>refine GI ?_<;>(first|refine kL ?_|(refine bL 39 (fun hb39=>?_) (fun hb39=>?_)<;>refine kZ ?_))<;>refine Jz ?_<;>(first|refine kL ?_|(refine bLd 42 (fun hb42=>?_) (fun hb42=>?_)<;>refine kZ ?_))<;>refine Jz ?_<;>(first|refine kL ?_|refine xM (OJ Ob) ?_)<;>(first|refine kL ?_|(refine (hy oM).elim fun y hy12=>?_;refine ζ2 47 rfl rfl (Xa rfl) (HC (j-1) Zc2 rfl rfl oM hy12.2) ?_;intro v47 hv47;cases hv47))<;>refine kZ ?_<;>(first|refine kL ?_|refine xM ZeY ?_)<;>refine Wz ?_
     ·
      have hF:WC c=false:=Oc (by
       rw [hpre,HD,CM hsj (fun h=>by have:=h.1;rw [←hsome,←hmg,hb34] at this;cases this)];rfl)
      refine Yb rfl ?_ (fun h=>by cases h);intro _;refine ZE ?_;exact Z1 results115 rfl rfl (Od hF)
     ·
      have hF:WC c=false:=Oc (by
       rw [hpre,HD,CM hsj (fun h=>by have:=h.2.1;rw [this] at hb39;cases hb39)];rfl)
      refine Yb rfl ?_ (fun h=>by cases h);intro _;refine ZE ?_;exact Z1 results115 rfl rfl (Od hF)
     · refine Yb rfl ?_ ?_
       · intro hb3;have hF:WC c=false:=Oc (by
          rw [hpre,HD,CM hsj (fun h=>by
           have:=h.2.2 y oM hy12.1;unfold strLt at this;rw [this] at hb3;cases hb3)];rfl)
         refine ZE ?_;exact Z1 results115 rfl rfl (Od hF)
       · intro hb3;have hok:CL (c.parts.take k).flatten p j s:=⟨by rw [←hsome,←hmg];exact hb34,by cases h:isName s<;>simp_all,fun y' _ hy'=>by
          rw [hy12.1] at hy';cases hy';unfold strLt
          cases h:Op.bytesLess y.toList s.toList
          · rw [h] at hb3;cases hb3
          · rfl⟩
         have hput:TO (skv (YA 0 (c.parts.take k)++PG k (p.take j))) (.string s) (.int .i64 (k:Int))=skv (YA 0 (c.parts.take k)++PG k (p.take (j+1))):=by
          rw [Ps,CU (by rw [←Lv];cases h:Ka (skv (YA 0 (c.parts.take k)++PG k (p.take j))) (.string s) with|none=>rfl|some _=>rw [h] at hb34;cases hb34),XA,Zw hsj];congr 2;simp [PG]
         refine Jy ?_;refine L9 11 O1 ?_;refine GF ?_;refine Zm ⟨j+1,oM,fun m s' hm hs'=>?_⟩ (by show p.length-(j+1)<p.length-j;omega) sB ⟨rfl,by show some _=some _;rw [hput],trivial⟩;by_cases e:m=j
         · subst e;rw [hsj] at hs';cases hs';exact hok
         · exact hprei m s' oM hs'
     · refine Yb rfl (fun h=>by cases h) ?_;intro _;have hok:CL (c.parts.take k).flatten p j s:=⟨by rw [←hsome,←hmg];exact hb34,by cases h:isName s<;>simp_all,fun y' h1=>oM⟩;have hput:TO (skv (YA 0 (c.parts.take k)++PG k (p.take j))) (.string s) (.int .i64 (k:Int))=skv (YA 0 (c.parts.take k)++PG k (p.take (j+1))):=by
        rw [Ps,CU (by rw [←Lv];cases h:Ka (skv (YA 0 (c.parts.take k)++PG k (p.take j))) (.string s) with|none=>rfl|some _=>rw [h] at hb34;cases hb34),XA,Zw hsj];congr 2;simp [PG]
       refine Jy ?_;refine L9 11 O1 ?_;refine GF ?_;refine Zm ⟨j+1,oM,fun m s' hm hs'=>?_⟩ (by show p.length-(j+1)<p.length-j;omega) sB ⟨rfl,by show some _=some _;rw [hput],trivial⟩;by_cases e:m=j
       · subst e;rw [hsj] at hs';cases hs';exact hok
       · exact hprei m s' oM hs'
   · intro hb2;(have hge:p.length≤j:=by have:=Qe hb2;omega);refine Zh ?_;refine xL 56 Za (xL 57 (Zy Ob) (xL 58 SN ?_));refine ZF ?_;refine Yb rfl ?_ ?_
     · intro hb3;have h0:p=[]:=XB (by have:=Qd hb3;omega);have hF:WC c=false:=Oc (by rw [hpre,HD,h0];rfl);refine ZE ?_;exact Z1 results115 rfl rfl (Od hF)
     · intro hb3;(have h0:p≠[]:=fun h=>by rw [h] at hb3;cases hb3);have hok:=(ZcR p (c.parts.take k).flatten).2 ⟨h0,fun m s hs'=>hprei m s (by have:=Zd hs';omega) hs'⟩;have hent:YA 0 (c.parts.take k)++PG k (p.take j)=YA 0 (c.parts.take (k+1)):=by
        rw [Zw hx,DY,Xq hge];congr 2;simp;omega
       refine ZE ?_;exact Zm ⟨k+1,oM,by rw [hpre,HD,hok];rfl⟩ (by show c.parts.length-(k+1)<c.parts.length-k;omega) sB ⟨rfl,by show some _=some _;rw [hent],trivial⟩
 · intro hb;have hge:c.parts.length≤k:=by have:=Qe hb;omega
   have hgo:Lu [] c.parts=true:=by rw [hpre,XU hge];rfl
   have hent:YA 0 (c.parts.take k)=YA 0 c.parts:=by rw [Xq hge]
   have hret:∀t,t=WC c→Zfi c (.tup [.omap (skv (YA 0 (c.parts.take k))),Zv t]):=fun t ht=>⟨.omap (skv (YA 0 (c.parts.take k))),by rw [ht],fun _=>by rw [hent], .inr ⟨_,rfl⟩⟩;refine nav ?_;refine We [] [1,11] ?_<;>refine gDx 0 ?_<;>refine xE 1 rfl (Zb 1 DX) ?_<;>(refine yE 2 rfl (Ze 1 ZaE) fun v62 h=>?_;cases h)<;>refine xE 3 rfl (Zy HQ) ?_<;>refine gEx 4 ?_<;>refine gEx 5 ?_<;>(refine bDd 65 (fun hb65=>?_) (fun hb65=>?_)<;>(first|refine kD 6 ?_|refine xD 6 rfl (Zb 1 DW) ?_))<;>(first|refine kD 7 ?_|(refine yD 7 rfl (Ze 1 Zc1) fun v67 h=>?_;cases h))<;>(first|refine kD 8 ?_|refine gDx 8 ?_)<;>refine gEx 9 ?_<;>refine gEx 10 ?_<;>(first|refine kD 11 ?_|(refine bDd 70 (fun hb70=>?_) (fun hb70=>?_)<;>(first|refine kD 11 ?_|refine xD 11 rfl (Zb 1 DW) ?_)))<;>(first|refine kD 12 ?_|(refine yD 12 rfl (Ze 1 Zc1) fun v72 h=>?_;cases h))<;>(first|refine kD 13 ?_|refine gDx 13 ?_)<;>refine gDx 14 ?_<;>refine gEx 15 ?_<;>refine gEx 16 ?_<;>refine Kz ?_
   · refine ZeP 11 results115 rfl rfl rfl (hret _ ?_);unfold WC;rw [hgo];(have h1:decide (1≤c.kind)=true:=by simpa using hb70);(have h2:decide (2≤c.parts.length)=true:=by simp;omega);rw [h1,h2];simp
   · refine ZeP 11 results115 rfl rfl rfl (hret _ ?_);(have h1:decide (1≤c.kind)=false:=by simpa using hb70);unfold WC;rw [h1];simp
   · refine ZeP 11 results115 rfl rfl rfl (hret _ ?_);(have h2:decide (2≤c.parts.length)=false:=by simp;omega);unfold WC;rw [h2];simp
end Go.Proofs.YteiincihiagidaaGreat
namespace Go.Cb
open Go.En
def Conn (l:List Int) (r:Int→Int→Bool) (x y:Int):Prop:=∀P:Int→Prop,(∀a b,a∈l→b∈l→(r a b=true∨r b a=true)→P a→P b)→P x→P y
theorem Conn.refl (l:List Int) (r:Int→Int→Bool) (x:Int):Conn l r x x:=fun _ _ h=>h
theorem Conn.trans {l:List Int} {r:Int→Int→Bool} {x y z:Int} (h:Conn l r x y) (k:Conn l r y z):Conn l r x z:=fun P hP hx=>k P hP (h P hP hx)
theorem Conn.step {l:List Int} {r:Int→Int→Bool} {x y:Int} (hx:x∈l) (hy:y∈l) (h:r x y=true∨r y x=true):Conn l r x y:=fun P hP hx'=>hP x y hx hy h hx'
theorem Conn.symm {l:List Int} {r:Int→Int→Bool} {x y:Int} (h:Conn l r x y):Conn l r y x:=
 h (fun z=>Conn l r z x) (fun a b ha hb hr hax=>(Conn.step hb ha hr.symm).trans hax) (Conn.refl l r x)
theorem Gk {α:Type} [BEq α] [LawfulBEq α]:∀{l m:List α},l.Nodup→(∀x∈l,x∈m)→l.length≤m.length
 |[],m,_,_=>Xg _
 | x ::l,m,h,hs=>by
   rw [Vt] at h;have hx:=hs x sM;have h1:=Gk (l:=l) (m:=m.erase x) h.2 fun y hy=>by
    have hne:y≠x:=fun e=>h.1 (e▸hy);exact (List.mem_erase_of_ne hne).2 (hs y (by simp [hy]))
   rw [List.length_erase_of_mem hx] at h1;have:=UR hx;simp only [Xl];omega
structure Comps (l:List Int) (r:Int→Int→Bool) (cs:List (List Int)):Prop where
 mem:∀x,x∈cs.flatten↔x∈l
 nd:cs.flatten.Nodup
 ne:∀c∈cs,c≠[]
 asc:∀c∈cs,c.Pairwise (· < ·)
 conn:∀c∈cs,∀x∈c,∀y∈c,Conn l r x y
 clos:∀c∈cs,∀x∈c,∀y∈l,(r x y=true∨r y x=true)→y∈c
 ord:cs.Pairwise fun c d=>∀x y,c.head? =some x→d.head? =some y→x<y
structure Part (l:List Int) (r:Int→Int→Bool) (cs:List (List Int)) (k:Nat):Prop where
 sub:∀x∈cs.flatten,x∈l
 did:∀j x,j<k→l[j]? =some x→x∈cs.flatten
 nd:cs.flatten.Nodup
 ne:∀c∈cs,c≠[]
 asc:∀c∈cs,c.Pairwise (· < ·)
 conn:∀c∈cs,∀x∈c,∀y∈c,Conn l r x y
 clos:∀c∈cs,∀x∈c,∀y∈l,(r x y=true∨r y x=true)→y∈c
 ord:cs.Pairwise fun c d=>∀x y,c.head? =some x→d.head? =some y→x<y
 hd:∀c∈cs,∀x,c.head? =some x→∃j,j<k∧l[j]? =some x
theorem Part.start (l:List Int) (r:Int→Int→Bool):Part l r [] 0:=⟨sM,oM,sM,sM,sM,sM,sM,sM,sM⟩
theorem Part.comps {l:List Int} {r:Int→Int→Bool} {cs:List (List Int)} {k:Nat} (h:Part l r cs k) (hk:l.length≤k):Comps l r cs:=
 ⟨fun x=>⟨h.sub x,fun hx=>by
  obtain ⟨j,hj⟩:=XR hx;exact h.did j x (by have:=Zd hj;omega) hj⟩,h.nd,h.ne,h.asc,h.conn,h.clos,h.ord⟩
theorem Part.skip {l:List Int} {r:Int→Int→Bool} {cs:List (List Int)} {k:Nat} {x:Int} (h:Part l r cs k) (hx:l[k]? =some x) (hin:x∈cs.flatten):Part l r cs (k+1):=
 ⟨h.sub,fun j y hj hy=>by
  by_cases e:j=k
  · subst e;rw [hx] at hy;cases hy;exact hin
  · exact h.did j y oM hy,h.nd,h.ne,h.asc,h.conn,h.clos,h.ord,fun c hc x hx=>let ⟨j,hj,e⟩:=h.hd c hc x hx;⟨j,oM,e⟩⟩
structure Mk (l:List Int) (r:Int→Int→Bool) (cs:List (List Int)) (first:Int) (tk cl:List Int) (i q:Nat):Prop where
 tkm:∀z,z∈tk↔z∈cs.flatten∨z∈cl
 nd:(cs.flatten++cl).Nodup
 sub:∀z∈cl,z∈l
 con:∀z∈cl,Conn l r first z
 fst:first∈cl
 il:i≤cl.length
 did:∀j x,j<i→cl[j]? =some x→∀y∈l,(r x y=true∨r y x=true)→y∈tk
 now:∀x,cl[i]? =some x→∀p y,p<q→l[p]? =some y→(r x y=true∨r y x=true)→y∈tk
theorem Mk.start {l:List Int} {r:Int→Int→Bool} {cs:List (List Int)} {k:Nat} {x:Int} {tk:List Int} (h:Part l r cs k) (hx:l[k]? =some x) (ht:∀z,z∈tk↔z∈cs.flatten) (hn:x∉cs.flatten):Mk l r cs x (tk++[x]) [x] 0 0:=
 ⟨fun z=>by simp [ht],by
  rw [VB];exact ⟨h.nd,sM,fun a ha b hb=>by simp at hb;subst hb;exact fun e=>hn (e▸ha)⟩,fun z hz=>by simp at hz;subst hz;exact Xc hx,fun z hz=>by simp at hz;subst hz;exact Conn.refl _ _ _,sM,sM,oM,oM⟩
theorem Mk.len {l:List Int} {r:Int→Int→Bool} {cs:List (List Int)} {first:Int} {tk cl:List Int} {i q:Nat} (h:Mk l r cs first tk cl i q):cl.length≤l.length:=Gk (VB.1 h.nd).2.1 h.sub
theorem Mk.pass {l:List Int} {r:Int→Int→Bool} {cs:List (List Int)} {first:Int} {tk cl:List Int} {i q:Nat} {x y:Int} (h:Mk l r cs first tk cl i q) (hx:cl[i]? =some x) (hy:l[q]? =some y) (hn:y∈tk∨(r x y=false∧r y x=false)):Mk l r cs first tk cl i (q+1):=
 ⟨h.tkm,h.nd,h.sub,h.con,h.fst,h.il,h.did,fun x' hx' p z hp hz hr=>by
  rw [hx] at hx';cases hx';by_cases e:p=q
  · subst e;rw [hy] at hz;cases hz;rcases hn with hn|⟨h1,h2⟩
    · exact hn
    · rw [h1,h2] at hr;simp at hr
  · exact h.now x hx p z oM hz hr⟩
theorem Mk.take {l:List Int} {r:Int→Int→Bool} {cs:List (List Int)} {first:Int} {tk cl:List Int} {i q:Nat} {x y:Int} (h:Mk l r cs first tk cl i q) (hx:cl[i]? =some x) (hy:l[q]? =some y) (hn:y∉tk) (hr:r x y=true∨r y x=true):Mk l r cs first (tk++[y]) (cl++[y]) i (q+1):=by
 have hyl:=Xc hy
 have hxc:=Xc hx
 have hn':y∉cs.flatten∧y∉cl:=by
  have:=fun hh=>hn ((h.tkm y).2 hh);exact ⟨fun hh=>this (.inl hh),fun hh=>this (.inr hh)⟩
 refine ⟨fun z=>?_,?_,fun z hz=>?_,fun z hz=>?_,by simp [h.fst],by have:=h.il;simp;omega,fun j u hj hu v hv hrr=>?_,fun u hu p v hp hv hrr=>?_⟩
 · simp only [Xd,Xn,h.tkm z];exact or_assoc
 · rw [←XA,VB];refine ⟨h.nd,sM,fun a ha b hb=>?_⟩;simp at hb;subst hb;intro e;rw [Xd] at ha;rcases ha with ha|ha
   · exact hn'.1 (e▸ha)
   · exact hn'.2 (e▸ha)
 · simp only [Xd,Xn] at hz;rcases hz with hz|rfl
   · exact h.sub z hz
   · exact hyl
 · simp only [Xd,Xn] at hz;rcases hz with hz|rfl
   · exact h.con z hz
   · exact (h.con x hxc).trans (Conn.step (h.sub x hxc) hyl hr)
 · have hl:j<cl.length:=by have:=h.il;omega
   rw [X0 hl] at hu;rw [Xd];exact .inl (h.did j u hj hu v hv hrr)
 · have hl:=Zd hx;rw [X0 hl,hx] at hu;cases hu;rw [Xd];by_cases e:p=q
   · subst e;rw [hy] at hv;cases hv;simp
   · exact .inl (h.now x hx p v oM hv hrr)
theorem Mk.next {l:List Int} {r:Int→Int→Bool} {cs:List (List Int)} {first:Int} {tk cl:List Int} {i q:Nat} (h:Mk l r cs first tk cl i q) (hq:l.length≤q) (hi:i<cl.length):Mk l r cs first tk cl (i+1) 0:=
 ⟨h.tkm,h.nd,h.sub,h.con,h.fst,hi,fun j x hj hx y hy hr=>by
  by_cases e:j=i
  · subst e;obtain ⟨p,hp⟩:=XR hy;exact h.now x hx p y (by have:=Zd hp;omega) hp hr
  · exact h.did j x oM hx y hy hr,oM⟩
theorem K8 {cl:List Int} {z:Int}:z∈cl.mergeSort (fun x y=>decide (x≤y))↔z∈cl:=(Ue cl _).mem_iff
theorem Zc4 {cl:List Int} (h:cl.Nodup):(cl.mergeSort fun x y=>decide (x≤y)).Pairwise (· < ·):=by
 have h1:=UC (le:=fun x y:Int=>decide (x≤y)) (fun a b c h1 h2=>by simp at*;omega) (fun a b=>by simp;omega) cl
 have h2:(cl.mergeSort fun x y=>decide (x≤y)).Nodup:=(Ue cl _).nodup_iff.2 h
 exact (h1.and h2).imp fun {a b} ⟨h3,h4⟩=>by simp at h3;have:a≠b:=h4;omega
theorem Mk.done {l:List Int} {r:Int→Int→Bool} {cs:List (List Int)} {first:Int} {tk cl:List Int} {i k:Nat} (h:Mk l r cs first tk cl i 0) (hP:Part l r cs k) (hl:l.Pairwise (· < ·)) (hk:l[k]? =some first) (hi:cl.length≤i):Part l r (cs++[cl.mergeSort fun x y=>decide (x≤y)]) (k+1):=by
 have hnd:=VB.1 h.nd
 have hflat:(cs++[cl.mergeSort fun x y=>decide (x≤y)]).flatten=cs.flatten++cl.mergeSort (fun x y=>decide (x≤y)):=sM
 have hclos:∀x∈cl,∀y∈l,(r x y=true∨r y x=true)→y∈cl:=fun x hx y hy hr=>by
  obtain ⟨j,hj⟩:=XR hx;have:=h.did j x (by have:=Zd hj;omega) hj y hy hr;rcases (h.tkm y).1 this with h1|h1
  · obtain ⟨c,hc,hyc⟩:=Vb.1 h1;have hxc:=hP.clos c hc y hyc x (h.sub x hx) hr.symm;exact Qc rfl (hnd.2.2 x (Vb.2 ⟨c,hc,hxc⟩) x hx)
  · exact h1
 have hleast:∀z∈cl,first≤z:=fun z hz=>by
  obtain ⟨j,hj⟩:=XR (h.sub z hz);rcases VG j k with h1|h1|h1
  · have:=hP.did j z h1 hj;exact Qc rfl (hnd.2.2 z this z hz)
  · subst h1;rw [hk] at hj;cases hj;omega
  · have:=XS.1 hl k j (Zd hk) (Zd hj) h1;have e1:=(Xr.1 hk).2;have e2:=(Xr.1 hj).2;rw [e1,e2] at this;omega
 have hasc:=Zc4 hnd.2.1
 have hhead:∀x,(cl.mergeSort fun x y=>decide (x≤y)).head? =some x→x=first:=fun x hx=>by
  have hm:x∈cl:=K8.1 (List.mem_of_mem_head? hx);have hf:first∈cl.mergeSort fun x y=>decide (x≤y):=K8.2 h.fst
  have:=hleast x hm
  cases hs:cl.mergeSort (fun x y=>decide (x≤y)) with
  |nil=>rw [hs] at hx;cases hx
  | cons a t=>
    rw [hs] at hx hf hasc;simp at hx;subst hx;rw [XL] at hasc;rcases Xk.1 hf with e|e
    · exact e.symm
    · have:=hasc.1 first e;omega
 refine ⟨fun x hx=>?_,fun j x hj hx=>?_,?_,fun c hc=>?_,fun c hc=>?_,fun c hc x hx y hy=>?_,fun c hc x hx y hy hr=>?_,?_,fun c hc x hx=>?_⟩
 · rw [hflat,Xd,K8] at hx;rcases hx with hx|hx
   · exact hP.sub x hx
   · exact h.sub x hx
 · rw [hflat,Xd,K8];by_cases e:j=k
   · subst e;rw [hk] at hx;cases hx;exact .inr h.fst
   · exact .inl (hP.did j x oM hx)
 · rw [hflat,VB];exact ⟨hP.nd,(Ue cl _).nodup_iff.2 hnd.2.1,fun a ha b hb=>hnd.2.2 a ha b (K8.1 hb)⟩
 · rcases Xd.1 hc with hc|hc
   · exact hP.ne c hc
   · simp at hc;subst hc;intro e;have:=(K8 (cl:=cl)).2 h.fst;rw [e] at this;simp at this
 · rcases Xd.1 hc with hc|hc
   · exact hP.asc c hc
   · simp at hc;subst hc;exact hasc
 · rcases Xd.1 hc with hc|hc
   · exact hP.conn c hc x hx y hy
   · simp at hc;subst hc;exact (h.con x (K8.1 hx)).symm.trans (h.con y (K8.1 hy))
 · rcases Xd.1 hc with hc|hc
   · exact hP.clos c hc x hx y hy hr
   · simp at hc;subst hc;exact K8.2 (hclos x (K8.1 hx) y hy hr)
 · rw [US];refine ⟨hP.ord,sM,fun c hc d hd x y hx hy=>?_⟩;simp at hd;subst hd;obtain ⟨j,hj,e⟩:=hP.hd c hc x hx;rw [hhead y hy];have:=XS.1 hl j k (Zd e) (Zd hk) hj;rw [(Xr.1 e).2,(Xr.1 hk).2] at this;exact this
 · rcases Xd.1 hc with hc|hc
   · obtain ⟨j,hj,e⟩:=hP.hd c hc x hx;exact ⟨j,oM,e⟩
   · simp at hc;subst hc;rw [hhead x hx];exact ⟨k,oM,hk⟩
end Go.Cb
namespace Go.En
open Go.RowKit Go.Cb Go.Proofs Go.Sort
def Zc5 (P:Program) (fs g k:Nat):Prop:=∀{α:Type} [Inhabited α] (enc:α→List Value),(∀x,(enc x).length=k)→(∀x,∀v∈enc x,v.oneCell'=true)→∀(cf:α→α→Int),SWO (ltOf cf)→∀(blk cap:Nat) (d:Array α) (w:World),
 CmpLays P g #[] enc k cf blk 0 d.size w→HoldsK enc k w blk 0 d→blk<w.heap.size→d.size<4611686018427387904→
 Calls P fs #[.slice (some ⟨blk,0,none⟩) d.size cap, .func (.func g) #[] #[]] w fun e w'=>e= .returned (.tuple #[])∧∃d' n os,PermIn 0 d.size d d'∧SortedIn (ltOf cf) 0 d.size d'∧w'=sortWorldK enc k w blk 0 n d' os
theorem Zlo {α:Type} [Inhabited α] (enc:α→List Value) (k:Nat) (w:World) (blk m:Nat) (d:Array α) (os:Array Obj):Chg (fun b=>b=blk) w (sortWorldK enc k w blk 0 m d os):=by
 refine ⟨rfl,rfl,rfl,?_,fun i hi hne=>?_⟩
 · simp [sortWorldK,grow,putRowK,putRow,mapBlock,ahead]
 · have:(sortWorldK enc k w blk 0 m d os).heap=(w.heap.modify blk (onCells (putCells id 0 (flatK enc k d))))++os:=rfl;rw [this,Vr (by simpa using hi),VW,Qa (fun e=>hne e.symm)]
theorem ZqS {α:Type} [Inhabited α] (enc:α→List Value) (k:Nat) (w:World) (blk m:Nat) (d:Array α) (os:Array Obj) {cur:Array Value} {e:TypeId} (h:w.heap[blk]? =some (.cells cur e (0,0))):
 (sortWorldK enc k w blk 0 m d os).heap[blk]? =some (.cells (putCells id 0 (flatK enc k d) cur) e (0,0)):=by
 have hlt:=Y8 h
 have:(sortWorldK enc k w blk 0 m d os).heap=(w.heap.modify blk (onCells (putCells id 0 (flatK enc k d))))++os:=rfl
 rw [this,Vr (by simpa using hlt),VW,Qb rfl,h]
 rfl
theorem Zlp (f cur:Array Value) (h:f.size≤cur.size):(putCells id 0 f cur).toList.take f.size=f.toList:=by
 apply Ua
 intro j
 by_cases hj:j<f.size
 · rw [X9 hj];have hjc:j<cur.size:=oM;simp [putCells,hj,hjc]
 · rw [Vo (by simp;omega),Vo (by simp;omega)]
section
variable {P:Program} {c:Ctx} {ops:Array Oper} {Q:Exit→Act→World→Prop} {rest:List Oper} {sL hP:List (Nat×Ent)} {o:Oper}
theorem E2 {β:Type} {fs g k e d l:Nat} {f:β→List PV} {cmp:β→β→Int} {rows:List β} {h:Value} {q q':PV} {x y:Operand} {ats:Array TypeId} (hS:Zc5 P fs g k) (hf:∀x,(f x).length=k) (hk:0<k) (hsh:∀x,(f x).all (fun p=>GU p&&one p)=true)
 (hirr:∀a,¬cmp a a<0) (htr:∀a b c,cmp a b<0→cmp b c<0→cmp a c<0) (hnt:∀a b c,¬cmp a b<0→¬cmp b c<0→¬cmp a c<0)
 (hcmp:∀(x y:β) (M:BS) (W:World) (u v:Value),x∈rows→y∈rows→Shr M W u (.agg (f x))→Shr M W v (.agg (f y))→Calls P g #[u,v] W fun e w'=>e= .returned (.int .i64 (cmp x y))∧∃q os',w'=grow (W.drewN q) os')
 (hn:0<rows.length) (hn2:rows.length<4611686018427387904)
 (hw:ZP ops sL o=some true) (hd:o.dst=some d) (hdn:d<c.nt) (ho:o.op= .call {callee:= .value (.func fs),args:= #[x,y],argTypes:=ats}) (hc:∀args w,(callFunc fs args).run P w= .ok (.enter fs args) w) (hx:ev sL x=some (h,q)) (hy:ev sL y=some (.func (.func g) #[] #[],q')) (hl:lk hP l=some (h, .own e k rows.length (rows.flatMap f)))
 (kk:∀rows':List β,rows'.Perm rows→(∀(i j:Nat) (a b:β),i<j→rows'[i]? =some a→rows'[j]? =some b→¬cmp b a<0)→aL P c ops Q rest ⟨put d (.tuple #[], .val (.tuple #[])) sL,put l (h, .own e k rows.length (rows'.flatMap f)) hP⟩):aL P c ops Q (o::rest) (⟨sL,hP⟩:St):=
 Y4 hw fun a w F H=>by
  have hxv:=(H.rd.ev hx).1;have hyv:=(H.rd.ev hy).1;have hTr:=H.tr l _ _ hl;obtain ⟨xs,Fs,hrow,hlen,hT,hdj,hb,hF⟩:=hTr.row;obtain ⟨blk,cap,hh,hc1,hc2,hc3⟩:=JV hTr hn;have hfl:=Yr hf rows;have hblkF:F l blk:=(hF blk).2 (.inl (by rw [hh];rfl));have hblkM:mof c hP F blk:= .inr ⟨l,_,hl,hblkF⟩;haveI:Inhabited (Fin rows.length):=⟨⟨0,hn⟩⟩
  let enc:Fin rows.length→List Value:=fun i=>(xs.drop (i.1*k)).take k;have hxl:xs.length=rows.length*k:=oM;have henc:∀i:Fin rows.length,(enc i).length=k:=fun i=>by
   have h1:(i.1+1)*k≤rows.length*k:=Vn k i.2;rw [X1,Nat.one_mul] at h1;simp [enc];omega
  have hget:∀(i:Fin rows.length) (j:Nat),j<k→(enc i)[j]? =xs[i.1*k+j]? :=fun i j hj=>by
   simp only [enc];rw [X9 hj,VJ]
  have hrd:∀(i:Fin rows.length) (j:Nat) (v:Value) (p:PV),(enc i)[j]? =some v→(f rows[i.1])[j]? =some p→Shr (mof c hP F) w v p∧GU p=true∧one p=true:=fun i j v p hv hp=>by
   have hj:j<k:=by rw [←hf];exact Zd hp
   rw [hget i j hj] at hv;have hp2:(rows.flatMap f)[i.1*k+j]? =some p:=by rw [K6 hf (Xx i.2) hj];exact hp
   have:=Xm.1 (hsh rows[i.1]) p (Xc hp);rw [Xi] at this;exact ⟨(hT _ v p hv hp2).sh this.1,this.1,this.2⟩
  have hone:∀(i:Fin rows.length),∀v∈enc i,v.oneCell'=true:=fun i v hv=>by
   obtain ⟨j,hj,rfl⟩:=Uj hv;have hjk:j<k:=by rw [←henc i];exact hj
   obtain ⟨p,hp⟩:=Yl (show j<(f rows[i.1]).length by rw [hf];exact hjk);obtain ⟨h1,_,h3⟩:=hrd i j _ p (Xx hj) hp;exact h1.one h3
  let cf:Fin rows.length→Fin rows.length→Int:=fun i j=>cmp rows[i.1] rows[j.1];have hO:SWO (ltOf cf):=⟨fun i=>U' (hirr _),fun i j m h1 h2=>U9 (htr _ _ _ (Qd h1) (Qd h2)),fun i j m h1 h2=>U' (hnt _ _ _ (Qe h1) (Qe h2))⟩;let ds:Array (Fin rows.length):=Array.ofFn id;have hds:ds.size=rows.length:=by simp [ds]
  have hdg:∀j (hj:j<rows.length),ds[j]! =⟨j,hj⟩:=fun j hj=>by simp [ds,hj]
  have hagg:∀(i:Fin rows.length) (W:World),Chg (fun b=>b=blk) w W→Shr (mof c hP F) W (.agg (enc i).toArray) (.agg (f rows[i.1])):=fun i W hW=>by
   refine .agg _ _ (by rw [henc,hf]) fun j v p hv hp=>?_;exact (hrd i j v p hv hp).1.to hW (fun b _ hb=>by rw [hb];exact hblkM) (fun _ _ h=>h)
  have hcl:CmpLays P g #[] enc k cf blk 0 ds.size w:=fun m os dk _ i j=>by
   have hW:=Zlo enc k w blk m dk os;exact hcmp rows[i.1] rows[j.1] _ _ _ _ (Ve _) (Ve _) (hagg i _ hW) (hagg j _ hW)
  have hHold:HoldsK enc k w blk 0 ds:=fun t ht=>by
   rw [size_flatK,hds] at ht;have hdiv:t / k<rows.length:=by rw [UP hk];exact ht
   have hmod:t % k<k:=Nat.mod_lt _ hk;have he:t / k*k+t % k=t:=by rw [VC];exact Un _ _
   rw [get_flatK _ _ _ _ (by rw [hds];exact ht),hdg _ hdiv];have hg2:=hget ⟨t / k,hdiv⟩ (t % k) hmod;simp only at hg2;rw [he] at hg2;obtain ⟨v,hv⟩:=Yl (show t<xs.length by omega);rw [hv] at hg2;have hrow':=hrow;rw [hh] at hrow';refine ⟨?_,by rw [XE];exact hrow'.frozenAt t⟩;rw [XE,KG hrow' hv];have:(enc ⟨t / k,hdiv⟩)[t % k]! =v:=by
    rw [getElem!_def,hg2]
   rw [id,this]
  have hcall:=hS enc henc hone cf hO blk cap ds w hcl hHold hc3 (by rw [hds];exact hn2);rw [hds] at hcall;unfold Oper.wp;have hrun:(execOp a.eval o).run P w= .ok (.enter fs #[h, .func (.func g) #[] #[]]) w:=by
   have hev:a.eval (.func fs)= .func (.func fs) #[] #[]:=rfl;simp [execOp,ho,resolve,Deferred.ofValue,hev,invoke,hxv,hyv,hc]
  rw [hrun,Oper.upon_enter,hh];refine hcall.mono fun e' w' ⟨he',d',m,os,hperm,hsorted,hw'⟩=>?_;subst he';have hd's:d'.size=rows.length:=by rw [hperm.1,hds]
  have hpl:d'.toList.Perm ds.toList:=by
   have h2:=hperm.2.2;have e1:(ds.extract 0 rows.length).toList=ds.toList:=by
    rw [UT];simp only [UU,Vk,Vx];exact Xq (by rw [XX,hds];exact Xe _)
   have e2:(d'.extract 0 rows.length).toList=d'.toList:=by
    rw [UT];simp only [UU,Vk,Vx];exact Xq (by rw [XX,hd's];exact Xe _)
   rw [e1,e2] at h2;exact h2
  let rows':List β:=d'.toList.map fun i=>rows[i.1];have hr's:rows'.length=rows.length:=by simp [rows',hd's]
  have hdl:ds.toList.map (fun i:Fin rows.length=>rows[i.1])=rows:=by
   apply List.ext_getElem
   · simp [ds]
   · intro j h1 h2;simp [ds]
  have hrp:rows'.Perm rows:=by
   have:=hpl.map fun i:Fin rows.length=>rows[i.1];rw [hdl] at this;exact this
  have hat:∀j (hj:j<rows.length),∃i:Fin rows.length,d'[j]! =i∧rows'[j]? =some rows[i.1]:=fun j hj=>by
   have hj':j<d'.size:=oM;refine ⟨d'[j],by simp [hj'],?_⟩;simp [rows',hj']
  rw [hd];refine kk rows' hrp (fun i j x y hij hx' hy'=>?_) _ _ ⟨fun l'=>if l'=l then (fun b=>b=blk) else F l',?_⟩
  · (have hjl:j<rows.length:=by have:=Zd hy';omega);obtain ⟨i1,h1,h2⟩:=hat i oM;obtain ⟨j1,h3,h4⟩:=hat j hjl;rw [h2] at hx';cases hx';rw [h4] at hy';cases hy';have h5:=hsorted i j (Xg _) hij hjl;rw [h1,h3] at h5;simpa [ltOf,cf] using h5
  · have hch0:=Zlo enc k w blk m d' os;rw [←hw'] at hch0;refine H.change (fun l'=>l'=l) hdn (hch0.wid fun b hb'=> .inl ⟨l,_,rfl,hl,by rw [hb'];exact hblkF⟩) (fun l' z hne hz=>?_) (fun l' z b hT' hz hb'=>?_) (fun hmm l' u p hT' hz=>?_) (fun l1 l2 _ _ _ h1 h2 hne=>Qc (h1.trans h2.symm) hne) (fun _=> .val _) (fun _=>by rw [hw'];exact VX _ _)
    · rcases ZZ hz with ⟨e1,_⟩|⟨_,e1⟩
      · exact Qc e1.symm hne
      · exact ⟨e1,by simp [hne]⟩
    · subst hT';simp only [if_true] at hb';exact .inl ⟨l',_,rfl,hl,by rw [hb'];exact hblkF⟩
    · subst hT';rw [ZJ] at hz
      cases hz;simp only [if_true];rcases hrow.2 with ⟨e1,_⟩|⟨g',cap',cur,e1,_,e3,e4,e5,e6,e7⟩
      · rw [hh] at e1;cases e1
      · rw [hh] at e1
        cases e1;(have hfs:(flatK enc k d').size=rows.length*k:=by rw [size_flatK,hd's]);refine .own (flatK enc k d').toList (fun _ _=>False) ⟨by rw [XX,hfs], .inr ⟨blk,cap,putCells id 0 (flatK enc k d') cur,hh,Xg _,by rw [hw'];exact ZqS enc k w blk m d' os e3,e4,e5,by simp [putCells];exact e6,?_⟩⟩ ((Yr hf rows').trans ((congrArg (· *k) hr's).trans ((XX (xs:=flatK enc k d')).trans hfs).symm)) (fun t v p hv hp=>?_) (fun _ _ _ _ _ _ h=>h.elim) (fun _ _ _ h=>h.elim) (fun b=>by rw [hh];simp [Value.ownBlock,eq_comm])
        · rw [←hfs];exact Zlp _ _ (by rw [hfs,e6];exact Vn k e4)
        · (have ht:t<rows.length*k:=by have:=Zd hv;rw [XX,hfs] at this;exact this);(have hdiv:t / k<rows.length:=by rw [UP hk];exact ht);have hmod:t % k<k:=Nat.mod_lt _ hk;(have he:t / k*k+t % k=t:=by rw [VC];exact Un _ _);obtain ⟨i1,h1,h2⟩:=hat (t / k) hdiv;have hp2:=K6 hf h2 hmod;rw [he,hp] at hp2;have hv2:v=(enc i1)[t % k]! :=by
           have h3:=get_flatK enc k d' t (by rw [hd's];exact ht);rw [h1] at h3;rw [←h3,getElem!_def,←Uf,hv]
          (have hlt:t % k<(enc i1).length:=by rw [henc];exact hmod);have hv3:(enc i1)[t % k]? =some v:=by
           rw [hv2,getElem!_def,Xx hlt]
          exact .shr ((hrd i1 (t % k) v p hv3 hp2.symm).1.to (hch0.wid (N:=fun b=>b=blk) fun b hb'=> .inl hb') (fun b _ hb'=>by rw [hb'];exact hblkM) hmm) (fun _ h=>h)
end
open Go.RowKit Go.Cb
section
variable {P:Program} {c:Ctx} {ops:Array Oper} {Q:Exit→Act→World→Prop} {rest:List Oper} {st:St} {sL hP:List (Nat×Ent)} {o:Oper}
theorem Zow {w:World} {e k n m:Nat} {h:Value} {xs:List Value} (hrow:w.ownsRow 0 e k h n xs) (hm:m≤n):w.ownsRow 0 e k (slc h 0 m k) m (xs.take (m*k))∧(slc h 0 m k).ownBlock=h.ownBlock:=by
 rcases hrow.2 with ⟨rfl,rfl⟩|⟨g,cap,cur,rfl,hg,hh,h1,h2,h3,h4⟩
 · obtain rfl:m=0:=oM;refine ⟨⟨sM, .inl ⟨by simp [slc],rfl⟩⟩,by simp [slc]⟩
 · have hs:slc (.slice (some ⟨g,0,none⟩) n cap) 0 m k= .slice (some ⟨g,0,none⟩) m cap:=by
    simp only [slc,X8,Option.map_some,WB,VZ,Vx,ite_self]
   rw [hs];refine ⟨⟨?_, .inr ⟨g,cap,cur,rfl,hg,hh,oM,h2,h3,?_⟩⟩,rfl⟩
   · rw [XG,hrow.1];exact Vc (Vn k hm)
   · rw [←h4,List.take_take,Vc (Vn k hm)]
theorem Zox {l e k n:Nat} {h:Value} {cs:List PV} (m:Nat) (hl:lk hP l=some (h, .own e k n cs)) (hm:m≤n):J1 (⟨sL,hP⟩:St) (fun _:Unit=>⟨sL,put l (slc h 0 m k, .own e k m (cs.take (m*k))) hP⟩):=fun c a w ⟨F,H⟩=>by
 have hTr:=H.tr l _ _ hl
 obtain ⟨xs,Fs,hrow,hlen,hT,hd,hb,hF⟩:=hTr.row
 obtain ⟨hrow',hown⟩:=Zow hrow hm
 refine ⟨(),fun x=>if x=l then (fun b=>h.ownBlock=some b∨∃i,i<(cs.take (m*k)).length∧Fs i b) else F x,?_⟩
 have hle:(cs.take (m*k)).length≤cs.length:=by rw [XG];exact Nat.min_le_right _ _
 refine H.retell (fun x=>x=l) (fun x y hnT hx=>?_) (fun x y b hTx hx hb'=>?_) (fun hmm x u q hTx hx=>?_) (fun x1 x2 y1 y2 b h1 h2 hne'=>Qc (h1.trans h2.symm) hne')
 · have n1:x≠l:=hnT;rw [ZY (Ne.symm n1)] at hx;exact ⟨hx,by simp [n1]⟩
 · subst hTx;simp only [if_true] at hb';refine ⟨x,_,rfl,hl,(hF b).2 ?_⟩;rcases hb' with h1|⟨i,hi,h1⟩
   · exact .inl h1
   · exact .inr ⟨i,oM,h1⟩
 · subst hTx;rw [ZJ] at hx
   cases hx;simp only [if_true];refine .own _ Fs hrow' (by rw [XG,XG,hlen]) (fun i x p hx9 hp=>?_) (fun i j b hi hj=>hd i j b oM oM) (fun i b hi h1 h2=>hb i b oM h1 (by rw [←hown];exact h2)) (fun b=>by rw [hown]);have hi:i<m*k:=by have:=Zd hx9;rw [XG] at this;omega
   rw [X9 hi] at hx9 hp;exact (hT i x p hx9 hp).anti hmm
theorem Zc6 {t e k:Nat} {x:Operand} {q:PV} (hT:SlT P t e k=true) (ho:o.op= .call {callee:= .builtin .cap,args:= #[x],argTypes:= #[t]}:=by exact rfl) (hx:ev st.slots x=some (.slice none 0 0,q):=by exact rfl):YE P st o (· = .int .i64 0) (.val (.int .i64 0)):=
 y1 hx (fun _ _ _=> .val _) fun ρ w h=>by
  simp [execOp,ho,h,resolve,invoke,builtin,Builtin.cap_,run_underlying (SlT.und hT),goInt]
theorem Zc7 {t e k:Nat} {x:Operand} {q:PV} (hT:SlT P t e k=true) (ho:o.op= .call {callee:= .builtin .len,args:= #[x],argTypes:= #[t]}:=by exact rfl) (hx:ev st.slots x=some (.slice none 0 0,q):=by exact rfl):YE P st o (· = .int .i64 0) (.val (.int .i64 0)):=
 y1 hx (fun _ _ _=> .val _) fun ρ w h=>by
  simp [execOp,ho,h,resolve,invoke,builtin,Builtin.len_,run_underlying (SlT.und hT),goInt]
theorem Zlq {t e k:Nat} {x hi:Operand} {q q':PV} (hT:SlT P t e k=true) (ho:o.op= .slice t x none (some hi) none:=by exact rfl) (hx:ev st.slots x=some (.slice none 0 0,q):=by exact rfl) (hh:ev st.slots hi=some (.int .i64 0,q'):=by exact rfl):YE P st o (· = .slice none 0 0) (.val (.slice none 0 0)):=
 y2 hx hh fun ρ w h1 h2=>by
  simp [execOp,ho,h1,h2,Instr.sliceAt,Instr.slice,run_underlying (SlT.und hT),Instr.sliceBounds,Instr.sliceBound,asIntOf,SlT.size hT]
theorem HR (w:World) (t ti ty e:TypeId) (i:TypeInfo) (z:Value) (ht:P.underlying t=some (.slice e)) (hti:P.underlying ti=some (.int .i64)) (hi:P.info? e=some i) (hz:i.zero=some z) (n:Nat) (hs:i.size≠0)
 (h0:0<n) (h63:(n:Int)≤9223372036854775807) (h48:n*i.bytes≤140737488355328):
 (Builtin.append_ #[t,ti] ty #[.slice none 0 0, .int .i64 n]).run P w=
   .ok (.slice (some ⟨w.heap.size,0,none⟩) n (grownCap w n 0 e)) (w.drew.alloc (.cells (Builtin.zeroCells z.cells n++Builtin.zeroCells z.cells (grownCap w n 0 e-n)) e)):=by
 have hn:n≠0:=oM
 have h63':¬(9223372036854775807<(n:Int)):=oM
 have h48':¬(281474976710656<Builtin.nextslicecap n 0*i.bytes):=by rw [nextslicecap_zero h0];omega
 have h49:¬(281474976710656<(n:Int)*(i.bytes:Int)):=by
  have:((n*i.bytes:Nat):Int)≤140737488355328:=oM;rw [Int.natCast_mul] at this;omega
 have hw:IntKind.i64.wrap (n:Int)=n:=IntWalk.i64_in _ oM
 have hneg:¬((n:Int)<0):=oM
 simp [Builtin.append_,run_underlying ht,run_underlying hti,sizeOf,typeInfo,zeroValue,hi,hz,Builtin.lenOf,hn,h63',h48',h49,hw,hneg,hs,Question.forced,run_firstCells_none,newRow,grownCap,asInt,asIntOf]
 intro h
 exact Qc h (by have:=Nat.mul_pos h0 (Nat.pos_of_ne_zero hs);omega)
theorem ZqT {t ti e kk bytes n:Nat} {z:Value} {x y:Operand} {q q':PV} (d:Nat) (hT:ElT P t e kk bytes z) (hti:P.underlying ti=some (.int .i64)) (k:∀h:Value,h.oneCell'=true→aL P c ops Q rest ⟨put d (h, .val h) sL,put d (h, .own e kk n ((Builtin.zeroCells z.cells n).toList.map PV.val)) hP⟩)
 (h0:0<n:=by first|omega|assumption) (hn2:n≤9223372036854775807:=by omega) (hb:n*bytes≤140737488355328:=by omega) (hw:ZP ops sL o=some true:=by exact rfl) (hd:o.dst=some d:=by exact rfl) (hn:d<c.nt:=by exact Xa rfl) (ho:o.op= .call {callee:= .builtin .append,args:= #[x,y],argTypes:= #[t,ti]}:=by exact rfl)
 (hx:ev sL x=some (.slice none 0 0,q):=by exact rfl) (hy:ev sL y=some (.int .i64 n,q'):=by exact rfl) (hl:lk hP d=none:=by exact rfl):aL P c ops Q (o::rest) (⟨sL,hP⟩:St):=
 Y4 hw fun a w F H=>by
  obtain ⟨i,hi1,hi2,hi3,hi4⟩:=hT.info;have hk0:=hT.hk;have hr:=HR (P:=P) w t ti o.type e i z hT.ht hti hi1 hi2 n oM h0 oM (by rw [hi4];exact hb);have hsz:(Builtin.zeroCells z.cells n).size=n*kk:=by rw [size_zeroCells,hT.hz]
  have hge:=grownCap_ge w n 0 e;obtain ⟨F',H'⟩:=Kd (e:=e) (k:=kk) (n:=n) (cap:=grownCap w n 0 e) (cur:=Builtin.zeroCells z.cells n++Builtin.zeroCells z.cells (grownCap w n 0 e-n)) (v:= .slice (some ⟨w.heap.size,0,none⟩) n (grownCap w n 0 e)) (H.up (Ext.drew w)) hl hn (vs:=(Builtin.zeroCells z.cells n).toList) (ps:=(Builtin.zeroCells z.cells n).toList.map PV.val) sM (fun j u p hu hp=>by
   rw [Xo,hu] at hp;simp at hp;subst hp;exact .val _) (by rw [XX,hsz]) hge (grownCap_le_maxLen w n 0 e (by unfold maxLen;omega)) (by rw [Array.size_append,hsz,size_zeroCells,hT.hz,←X1];congr 1;omega) (by rw [Array.toList_append,←hsz];exact List.take_left' (by rw [XX]))
  unfold Oper.wp execOp;simp only [ho,resolve,invoke,builtin,Sem.run_bind,Sem.run_pure,Result.andThen_ok,Ul,Xj,Vl,(H.rd.ev hx).1,(H.rd.ev hy).1,hr,Oper.upon,hd];exact k _ rfl _ _ ⟨F',H'⟩
theorem G1 {t e kk bytes n m:Nat} {z:Value} {x y:Operand} {h v2:Value} {q:PV} {cs cs2:List PV} (l d:Nat) (hT:ElT P t e kk bytes z) (k:∀h':Value,h'.oneCell'=true→aL P c ops Q rest ⟨put d (h', .val h') sL,put d (h', .own e kk (n+m) (cs++cs2)) (del l hP)⟩)
 (hlen2:cs2.length=m*kk:=by first|assumption|exact rfl) (hok:cs2.all one=true:=by first|assumption|exact rfl) (hw:ZP ops sL o=some true:=by exact rfl) (hd:o.dst=some d:=by exact rfl) (hn:d<c.nt:=by exact Xa rfl) (ho:o.op= .call {callee:= .builtin .append,args:= #[x,y],argTypes:= #[t,t]}:=by exact rfl)
 (hx:ev sL x=some (h,q):=by exact rfl) (hy:ev sL y=some (v2, .sl m cs2):=by exact rfl) (hl:lk hP l=some (h, .own e kk n cs):=by exact rfl) (hdl:lk (del l hP) d=none:=by exact rfl) (hlen:n+m≤9223372036854775807:=by exact Tx) (hb:(n+m)*bytes≤140737488355328:=by exact Tx) (hdr:¬c.dr:=by exact id):aL P c ops Q (o::rest) (⟨sL,hP⟩:St):=fun a w ⟨F,H⟩=>by
 have h1:h.oneCell'=true:=(H.tr l _ _ hl).cellOne rfl
 rcases Ub m with h0|h0
 · subst h0;have:cs2=[]:=XB (by rw [hlen2,X8]);subst this;refine Zog l d hT hw hd hn ho hx hy hl (Zp (Zz d hl hdl) fun _=>?_) a w ⟨F,H⟩;have:=k h h1;rw [Xu] at this;exact this
 · exact ZeO l d hT hw hd hn ho hx hy hl (Zof hy h0) hlen2 hdl hok hlen hb hdr k a w ⟨F,H⟩
end
def Zqn (P:Program) (fs:Nat):Prop:=∀(blk cap:Nat) (zs:List Int) (w:World),Go.Sort.Holds (Value.int .i64) w blk 0 zs.toArray→blk<w.heap.size→zs.length<4611686018427387904→
 Calls P fs #[.slice (some ⟨blk,0,none⟩) zs.length cap] w fun e w'=>e= .returned (.tuple #[])∧∃n os,w'=grow (putRow (Value.int .i64) (Go.Sort.ahead w n) blk 0 (zs.mergeSort fun x y=>decide (x≤y)).toArray) os
section
variable {P:Program} {c:Ctx} {ops:Array Oper} {Q:Exit→Act→World→Prop} {rest:List Oper} {sL hP:List (Nat×Ent)} {o:Oper}
theorem HS {α:Type} [Inhabited α] (enc:α→Value) (f:Array α) (cur:Array Value) (h:f.size≤cur.size):(putCells enc 0 f cur).toList.take f.size=f.toList.map enc:=by
 apply Ua
 intro j
 by_cases hj:j<f.size
 · rw [X9 hj];have hjc:j<cur.size:=oM;simp [putCells,hj,hjc]
 · rw [Vo (by simp;omega),Vo (by simp;omega)]
theorem ZbO {fs e d:Nat} {zs:List Int} {h:Value} {q:PV} {x:Operand} {ats:Array TypeId} (l:Nat) (hS:Zqn P fs) (hc:∀args w,(callFunc fs args).run P w= .ok (.enter fs args) w)
 (kk:aL P c ops Q rest ⟨put d (.tuple #[], .val (.tuple #[])) sL,put l (h, .own e 1 zs.length ((zs.mergeSort fun x y=>decide (x≤y)).map Zc)) hP⟩)
 (hn:0<zs.length) (hn2:zs.length<4611686018427387904:=by omega) (hw:ZP ops sL o=some true:=by exact rfl) (hd:o.dst=some d:=by exact rfl) (hdn:d<c.nt:=by exact Xa rfl) (ho:o.op= .call {callee:= .value (.func fs),args:= #[x],argTypes:=ats}:=by exact rfl) (hx:ev sL x=some (h,q):=by exact rfl) (hl:lk hP l=some (h, .own e 1 zs.length (zs.map Zc)):=by exact rfl):aL P c ops Q (o::rest) (⟨sL,hP⟩:St):=
 Y4 hw fun a w F H=>by
  have hxv:=(H.rd.ev hx).1;have hTr:=H.tr l _ _ hl;obtain ⟨xs,Fs,hrow,hlen,hT,hdj,hb,hF⟩:=hTr.row;obtain ⟨blk,cap,hh,hc1,hc2,hc3⟩:=JV hTr hn;have hblkF:F l blk:=(hF blk).2 (.inl (by rw [hh];rfl));have hxs:∀(j:Nat) (v:Value),xs[j]? =some v→∃z,zs[j]? =some z∧v= .int .i64 z:=fun j v hv=>by
   obtain ⟨p,hp⟩:=YB hv hlen.symm;have h1:=hp;rw [Xo,XP] at h1;obtain ⟨z,hz,rfl⟩:=h1;exact ⟨z,hz,((hT j v _ hv hp).sh rfl).vOf⟩
  have hHold:Go.Sort.Holds (Value.int .i64) w blk 0 zs.toArray:=fun j hj=>by
   simp only [Vz] at hj;have hrow':=hrow;rw [hh] at hrow';obtain ⟨v,hv⟩:=Yl (show j<xs.length by rw [←hlen,Xb];exact hj);obtain ⟨z,hz,rfl⟩:=hxs j v hv;refine ⟨?_,by rw [XE];exact hrow'.frozenAt j⟩;rw [XE,KG hrow' hv];have:zs.toArray[j]! =z:=by
    have hz':=(Xr.1 hz).2;simp [hj,hz']
   rw [this]
  have hcall:=hS blk cap zs w hHold hc3 hn2;unfold Oper.wp;have hrun:(execOp a.eval o).run P w= .ok (.enter fs #[h]) w:=by
   have hev:a.eval (.func fs)= .func (.func fs) #[] #[]:=rfl;simp [execOp,ho,resolve,Deferred.ofValue,hev,invoke,hxv,hc]
  rw [hrun,Oper.upon_enter,hh];refine hcall.mono fun e' w' ⟨he',m,os,hw'⟩=>?_;subst he';have hsl:(zs.mergeSort fun x y=>decide (x≤y)).length=zs.length:=Ug _;generalize hsd:(zs.mergeSort fun x y=>decide (x≤y))=sd at hsl hw' kk;have hch0:Chg (fun b=>b=blk) w w':=by
   rw [hw'];refine ⟨rfl,rfl,rfl,?_,fun i hi hne=>?_⟩
   · simp [grow,putRow,mapBlock,Go.Sort.ahead]
   · have:(grow (putRow (Value.int .i64) (Go.Sort.ahead w m) blk 0 sd.toArray) os).heap=(w.heap.modify blk (onCells (putCells (Value.int .i64) 0 sd.toArray)))++os:=rfl;rw [this,Vr (by simpa using hi),VW,Qa (fun e=>hne e.symm)]
  rw [hd];refine kk _ _ ⟨fun l'=>if l'=l then (fun b=>b=blk) else F l',?_⟩;refine H.change (fun l'=>l'=l) hdn (hch0.wid fun b hb'=> .inl ⟨l,_,rfl,hl,by rw [hb'];exact hblkF⟩) (fun l' z hne hz=>?_) (fun l' z b hT' hz hb'=>?_) (fun hmm l' u p hT' hz=>?_) (fun l1 l2 _ _ _ h1 h2 hne=>Qc (h1.trans h2.symm) hne) (fun _=> .val _) (fun _=>by rw [hw'];exact VX _ _)
  · rcases ZZ hz with ⟨e1,_⟩|⟨_,e1⟩
    · exact Qc e1.symm hne
    · exact ⟨e1,by simp [hne]⟩
  · subst hT';simp only [if_true] at hb';exact .inl ⟨l',_,rfl,hl,by rw [hb'];exact hblkF⟩
  · subst hT';rw [ZJ] at hz
    cases hz;simp only [if_true];rcases hrow.2 with ⟨e1,_⟩|⟨g',cap',cur,e1,_,e3,e4,e5,e6,e7⟩
    · rw [hh] at e1;cases e1
    · rw [hh] at e1
      cases e1;have hlt:=Y8 e3;refine .own (sd.map (Value.int .i64)) (fun _ _=>False) ⟨by rw [Xb,hsl,Xy], .inr ⟨blk,cap,putCells (Value.int .i64) 0 sd.toArray cur,hh,Xg _,?_,e4,e5,by simp [putCells];omega,?_⟩⟩ sM (fun t v p hv hp=>?_) (fun _ _ _ _ _ _ h=>h.elim) (fun _ _ _ h=>h.elim) (fun b=>by rw [hh];simp [Value.ownBlock,eq_comm])
      · rw [hw'];have:(grow (putRow (Value.int .i64) (Go.Sort.ahead w m) blk 0 sd.toArray) os).heap=(w.heap.modify blk (onCells (putCells (Value.int .i64) 0 sd.toArray)))++os:=rfl;rw [this,Vr (by simpa using hlt),VW,Qb rfl,e3];rfl
      · have:=HS (Value.int .i64) sd.toArray cur (by simp only [Vz];rw [hsl,e6];omega);simp only [Vz] at this;rw [Xy,←hsl];exact this
      · rw [Xo,XP] at hv hp;obtain ⟨z,hz,rfl⟩:=hv;obtain ⟨z',hz',rfl⟩:=hp;rw [hz] at hz';cases hz';exact .shr (.val _) (fun _ h=>h)
end
theorem Zlr {w w':World} (h:Ext w w') (hd:w.drawn≤w'.drawn):∃q os',w'=Go.Sort.grow (w.drewN q) os':=by
 refine ⟨w'.drawn-w.drawn,w'.heap.extract w.heap.size w'.heap.size,?_⟩
 have hh:w'.heap=w.heap++w'.heap.extract w.heap.size w'.heap.size:=by
  apply Array.ext_getElem?;intro i;rcases XD i w.heap.size with hi|hi
  · rw [Vr hi];exact Below.block h i hi
  · rw [Array.getElem?_append_right hi,Array.getElem?_extract];have hs:=h.size;rcases XD i w'.heap.size with hi2|hi2
    · rw [Qb (by simp;omega),show w.heap.size+(i-w.heap.size)=i by omega]
    · rw [Vv hi2,Qa (by simp;omega)]
 have h1:=h.os
 have h2:=h.tape
 have h3:=h.output
 cases w' with
 | mk heap' tape' drawn' os' output'=>
   simp only at h1 h2 h3 hh hd;simp only [Go.Sort.grow,World.drewN];rw [←hh,h1,h2,h3,show w.drawn+(drawn'-w.drawn)=drawn' by omega]
theorem AFg.exact {P:Program} {g:Nat} {ps:List PV} {x:Value} (h:AFg P g ps (· = .val x)) {M:BS} {W:World} {vs:List Value} (hl:vs.length=ps.length) (hv:∀(i:Nat) (v:Value) (p:PV),vs[i]? =some v→ps[i]? =some p→Shr M W v p):
 Calls P g vs.toArray W fun e w'=>e= .returned x∧∃q os',w'=Go.Sort.grow (W.drewN q) os':=
 (h (fun _=>False) W vs (M0k.true W) hl (fun i v p h1 h2=>(hv i v p h1 h2).anti fun _ _ h=>h.elim)).mono fun e w' ⟨v,p,F,h1,h2,h3,h4,_,h6⟩=>by
   subst h2;have:=(h4.sh rfl).vOf;subst this;exact ⟨h1,Zlr h3 (h6 trivial)⟩
section
variable {P:Program} {c:Ctx} {ops:Array Oper} {Q:Exit→Act→World→Prop} {rest:List Oper} {sL hP:List (Nat×Ent)} {o:Oper}
def Zfj (P:Program) (fs g:Nat):Prop:=∀{α:Type} [Inhabited α] (enc:α→Value),OneCell enc→∀(cf:α→α→Int),SWO (ltOf cf)→∀(cb:Array Value) (blk cap:Nat) (d:Array α) (w:World),
 CmpLays1 P g cb enc cf blk 0 d.size w→Go.Sort.Holds enc w blk 0 d→blk<w.heap.size→d.size<4611686018427387904→
 Calls P fs #[.slice (some ⟨blk,0,none⟩) d.size cap, .func (.func g) #[] cb] w fun e w'=>e= .returned (.tuple #[])∧∃d' n os,PermIn 0 d.size d d'∧SortedIn (ltOf cf) 0 d.size d'∧w'=sortWorld enc w blk 0 n d' os
theorem CV {α:Type} [Inhabited α] (enc:α→Value) (w:World) (blk m:Nat) (d:Array α) (os:Array Obj):(sortWorld enc w blk 0 m d os).heap=(w.heap.modify blk (onCells (putCells enc 0 d)))++os:=rfl
theorem ZgQ {α:Type} [Inhabited α] (enc:α→Value) (w:World) (blk m:Nat) (d:Array α) (os:Array Obj):Chg (fun b=>b=blk) w (sortWorld enc w blk 0 m d os):=by
 refine ⟨rfl,rfl,rfl,?_,fun i hi hne=>?_⟩
 · rw [CV];simp
 · rw [CV,Vr (by simpa using hi),VW,Qa (fun e=>hne e.symm)]
theorem Zoy {α:Type} [Inhabited α] (enc:α→Value) (w:World) (blk m:Nat) (d:Array α) (os:Array Obj) {cur:Array Value} {e:TypeId} (h:w.heap[blk]? =some (.cells cur e (0,0))):
 (sortWorld enc w blk 0 m d os).heap[blk]? =some (.cells (putCells enc 0 d cur) e (0,0)):=by
 have hlt:=Y8 h
 rw [CV,Vr (by simpa using hlt),VW,Qb rfl,h]
 rfl
theorem ZgR {β:Type} {fs g e d:Nat} {f:β→PV} {cmp:β→β→Int} {rows:List β} {h fv:Value} {caps:List PV} {q:PV} {x y:Operand} {ats:Array TypeId} (l:Nat) (hS:Zfj P fs g) (hc:∀args w,(callFunc fs args).run P w= .ok (.enter fs args) w) (hsh:∀x,(GU (f x)&&one (f x))=true)
 (hirr:∀a,¬cmp a a<0) (htr:∀a b c,cmp a b<0→cmp b c<0→cmp a c<0) (hnt:∀a b c,¬cmp a b<0→¬cmp b c<0→¬cmp a c<0)
 (hcmp:∀x∈rows,∀y∈rows,AFg P g (f x::f y::caps) (· = .val (.int .i64 (cmp x y)))) (hn:0<rows.length) (hn2:rows.length<4611686018427387904)
 (kk:∀rows':List β,rows'.Perm rows→(∀(i j:Nat) (a b:β),i<j→rows'[i]? =some a→rows'[j]? =some b→¬cmp b a<0)→aL P c ops Q rest ⟨put d (.tuple #[], .val (.tuple #[])) sL,put l (h, .own e 1 rows.length (rows'.map f)) hP⟩)
 (hw:ZP ops sL o=some true:=by exact rfl) (hd:o.dst=some d:=by exact rfl) (hdn:d<c.nt:=by exact Xa rfl) (ho:o.op= .call {callee:= .value (.func fs),args:= #[x,y],argTypes:=ats}:=by exact rfl) (hx:ev sL x=some (h,q):=by exact rfl) (hy:ev sL y=some (fv, .fn g caps):=by exact rfl) (hl:lk hP l=some (h, .own e 1 rows.length (rows.map f)):=by exact rfl):aL P c ops Q (o::rest) (⟨sL,hP⟩:St):=
 Y4 hw fun a w F H=>by
  have hxv:=(H.rd.ev hx).1;obtain ⟨hyv,hfn⟩:=H.rd.ev hy;have hTr:=H.tr l _ _ hl;obtain ⟨xs,Fs,hrow,hlen,hT,hdj,hb,hF⟩:=hTr.row;obtain ⟨blk,cap,hh,hc1,hc2,hc3⟩:=JV hTr hn;have hblkF:F l blk:=(hF blk).2 (.inl (by rw [hh];rfl));have hblkM:mof c hP F blk:= .inr ⟨l,_,hl,hblkF⟩;have hxl:xs.length=rows.length:=by rw [←hlen,Xb]
  obtain ⟨cv,hcvl,hcv,rfl⟩:∃cv:List Value,cv.length=caps.length∧(∀(i:Nat) (v:Value) (p:PV),cv[i]? =some v→caps[i]? =some p→Shr (mof c hP F) w v p)∧fv= .func (.func g) #[] cv.toArray:=by
   cases hfn with
   |fn _ vs _ hl' hT'=>exact ⟨vs,hl',hT',rfl⟩
  haveI:Inhabited (Fin rows.length):=⟨⟨0,hn⟩⟩
  let enc:Fin rows.length→Value:=fun i=>xs[i.1]'(by rw [hxl];exact i.2);have hrd:∀(i:Fin rows.length),Shr (mof c hP F) w (enc i) (f rows[i.1])∧one (f rows[i.1])=true:=fun i=>by
   have h1:=hsh rows[i.1];rw [Xi] at h1;exact ⟨(hT i.1 _ _ (Xx _) (by rw [Xo,Xx i.2];rfl)).sh h1.1,h1.2⟩
  have hone:OneCell enc:=fun i=>(hrd i).1.one (hrd i).2;let cf:Fin rows.length→Fin rows.length→Int:=fun i j=>cmp rows[i.1] rows[j.1];have hO:SWO (ltOf cf):=⟨fun i=>U' (hirr _),fun i j m h1 h2=>U9 (htr _ _ _ (Qd h1) (Qd h2)),fun i j m h1 h2=>U' (hnt _ _ _ (Qe h1) (Qe h2))⟩;let ds:Array (Fin rows.length):=Array.ofFn id;have hds:ds.size=rows.length:=by simp [ds]
  have hdg:∀j (hj:j<rows.length),ds[j]! =⟨j,hj⟩:=fun j hj=>by simp [ds,hj]
  have hcl:CmpLays1 P g cv.toArray enc cf blk 0 ds.size w:=fun m os dk _ i j=>by
   have hW:=ZgQ enc w blk m dk os;have key:∀{v:Value} {p:PV},Shr (mof c hP F) w v p→Shr (mof c hP F) (sortWorld enc w blk 0 m dk os) v p:=fun h=>h.to hW (fun b _ hb=>by rw [hb];exact hblkM) (fun _ _ h=>h);have:=(hcmp rows[i.1] (Ve _) rows[j.1] (Ve _)).exact (M:=mof c hP F) (W:=sortWorld enc w blk 0 m dk os) (vs:=enc i::enc j::cv) (by simp [hcvl]) (fun t v p hv hp=>by
    match t with
    |0=>simp at hv hp;subst hv hp;exact key (hrd i).1
    |1=>simp at hv hp;subst hv hp;exact key (hrd j).1
    |t+2=>exact key (hcv t v p (by simpa using hv) (by simpa using hp)))
   have e1:(#[enc i,enc j]++cv.toArray)=(enc i::enc j::cv).toArray:=sM;rw [e1];exact this
  have hHold:Go.Sort.Holds enc w blk 0 ds:=fun t ht=>by
   rw [hds] at ht;have hrow':=hrow;rw [hh] at hrow';refine ⟨?_,by rw [XE];exact hrow'.frozenAt t⟩;rw [XE,hdg t ht];exact KG hrow' (Xx _)
  have hcall:=hS enc hone cf hO cv.toArray blk cap ds w hcl hHold hc3 (by rw [hds];exact hn2);rw [hds] at hcall;unfold Oper.wp;have hrun:(execOp a.eval o).run P w= .ok (.enter fs #[h, .func (.func g) #[] cv.toArray]) w:=by
   have hev:a.eval (.func fs)= .func (.func fs) #[] #[]:=rfl;simp [execOp,ho,resolve,Deferred.ofValue,hev,invoke,hxv,hyv,hc]
  rw [hrun,Oper.upon_enter,hh];refine hcall.mono fun e' w' ⟨he',d',m,os,hperm,hsorted,hw'⟩=>?_;subst he';have hd's:d'.size=rows.length:=by rw [hperm.1,hds]
  have hpl:d'.toList.Perm ds.toList:=by
   have h2:=hperm.2.2;have e1:(ds.extract 0 rows.length).toList=ds.toList:=by
    rw [UT];simp only [UU,Vk,Vx];exact Xq (by rw [XX,hds];exact Xe _)
   have e2:(d'.extract 0 rows.length).toList=d'.toList:=by
    rw [UT];simp only [UU,Vk,Vx];exact Xq (by rw [XX,hd's];exact Xe _)
   rw [e1,e2] at h2;exact h2
  let rows':List β:=d'.toList.map fun i=>rows[i.1];have hr's:rows'.length=rows.length:=by simp [rows',hd's]
  have hdl:ds.toList.map (fun i:Fin rows.length=>rows[i.1])=rows:=by
   apply List.ext_getElem
   · simp [ds]
   · intro j h1 h2;simp [ds]
  have hrp:rows'.Perm rows:=by
   have:=hpl.map fun i:Fin rows.length=>rows[i.1];rw [hdl] at this;exact this
  have hat:∀j (hj:j<rows.length),∃i:Fin rows.length,d'[j]! =i∧d'.toList[j]? =some i∧rows'[j]? =some rows[i.1]:=fun j hj=>by
   have hj':j<d'.size:=oM;refine ⟨d'[j],by simp [hj'],by simp [hj'],?_⟩;simp [rows',hj']
  rw [hd];refine kk rows' hrp (fun i j x y hij hx' hy'=>?_) _ _ ⟨fun l'=>if l'=l then (fun b=>b=blk) else F l',?_⟩
  · (have hjl:j<rows.length:=by have:=Zd hy';omega);obtain ⟨i1,h1,_,h2⟩:=hat i oM;obtain ⟨j1,h3,_,h4⟩:=hat j hjl;rw [h2] at hx';cases hx';rw [h4] at hy';cases hy';have h5:=hsorted i j (Xg _) hij hjl;rw [h1,h3] at h5;simpa [ltOf,cf] using h5
  · have hch0:=ZgQ enc w blk m d' os;rw [←hw'] at hch0;refine H.change (fun l'=>l'=l) hdn (hch0.wid fun b hb'=> .inl ⟨l,_,rfl,hl,by rw [hb'];exact hblkF⟩) (fun l' z hne hz=>?_) (fun l' z b hT' hz hb'=>?_) (fun hmm l' u p hT' hz=>?_) (fun l1 l2 _ _ _ h1 h2 hne=>Qc (h1.trans h2.symm) hne) (fun _=> .val _) (fun _=>by rw [hw'];exact VX _ _)
    · rcases ZZ hz with ⟨e1,_⟩|⟨_,e1⟩
      · exact Qc e1.symm hne
      · exact ⟨e1,by simp [hne]⟩
    · subst hT';simp only [if_true] at hb';exact .inl ⟨l',_,rfl,hl,by rw [hb'];exact hblkF⟩
    · subst hT';rw [ZJ] at hz
      cases hz;simp only [if_true];rcases hrow.2 with ⟨e1,_⟩|⟨g',cap',cur,e1,_,e3,e4,e5,e6,e7⟩
      · rw [hh] at e1;cases e1
      · rw [hh] at e1
        cases e1;refine .own (d'.toList.map enc) (fun _ _=>False) ⟨by rw [Xb,XX,hd's,Xy], .inr ⟨blk,cap,putCells enc 0 d' cur,hh,Xg _,by rw [hw'];exact Zoy enc w blk m d' os e3,e4,e5,by simp [putCells];omega,?_⟩⟩ (by simp [rows']) (fun t v p hv hp=>?_) (fun _ _ _ _ _ _ h=>h.elim) (fun _ _ _ h=>h.elim) (fun b=>by rw [hh];simp [Value.ownBlock,eq_comm])
        · have:=HS enc d' cur (by rw [hd's,e6];omega);rw [hd's] at this;rw [Xy];exact this
        · (have ht:t<rows.length:=by have:=Zd hv;rw [Xb,XX,hd's] at this;exact this);obtain ⟨i1,_,h1,h2⟩:=hat t ht;rw [Xo,h1] at hv;rw [Xo,h2] at hp
          cases hv
          cases hp;exact .shr ((hrd i1).1.to (hch0.wid (N:=fun b=>b=blk) fun b hb'=> .inl hb') (fun b _ hb'=>by rw [hb'];exact hblkM) hmm) (fun _ h=>h)
end
theorem AFg.exact2 {P:Program} {g:Nat} {p q:PV} {x:Value} (h:AFg P g [p,q] (· = .val x)) {M:BS} {W:World} {u v:Value} (hu:Shr M W u p) (hv:Shr M W v q):
 Calls P g #[u,v] W fun e w'=>e= .returned x∧∃q os',w'=grow (W.drewN q) os':=h.exact (vs:=[u,v]) rfl fun i a r h1 h2=>by
 match i with
 |0=>simp at h1 h2;subst h1 h2;exact hu
 |1=>simp at h1 h2;subst h1 h2;exact hv
 |i+2=>simp at h1
end Go.En
namespace Go.Proofs.YteiincihiagidaaGreat
open Go.RowKit Go.Cb Go.En Tryz
theorem YR:AggT prog 104 2=true:=kR
theorem Jb:ElT prog 196 198 1 24 (.slice none 0 0):=⟨underlying196,by kernel_rfl,rfl,dC⟩
theorem Jq:ElT prog 56 39 1 24 (.slice none 0 0):=⟨underlying56,by kernel_rfl,rfl,dC⟩
theorem D1:FldT prog 104 1 1=true:=kR
theorem RQ:MpT prog 230 3 4 (.int .i64) (.bool false):=⟨underlying230,underlying3, .inr ⟨_,rfl⟩,by show ZeroT _ _ _;unfold ZeroT;kernel_rfl⟩
theorem Y0:NoAgg prog 192=true:=kR
theorem Yp:NoAgg prog 56=true:=kR
theorem RR:J2 prog 104=some ((.agg #[(.int .i64 0),(.slice none 0 0)]),([0,1]:List Nat).map fun o=>(o,1)):=kR
theorem O3:(prog.info? 192).map (·.size)=some 1:=kR
theorem ZaG:(prog.info? 56).map (·.size)=some 1:=kR
theorem KP:ZeroT prog 104 (.agg #[(.int .i64 0),(.slice none 0 0)]):=by unfold ZeroT;kernel_rfl
theorem O4:ZeroT prog 192 (.pointer none):=by unfold ZeroT;kernel_rfl
def upTo (n:Nat):List Int:=vec n fun i=>(i:Int)
theorem ZbP (l:List BA) (rest:List PV) (hl:l.length≤1000000):AF prog 146 [.sptr 0 (Zs l::rest)] (· =pInts (upTo l.length)):=by
 refine AF.b1 19 func146 rfl ntmps146 (Xa rfl) fun w0 M0 v0 _=>?_
 refine Px ?_
 refine xL 5 Za (xL 6 WS (xL 7 (YP Kr) ?_));refine yU (ZG ZN) fun v8=>?_;refine xL 9 (Zy Zn) (xL 10 Za ?_);refine ZF ?_
 refine Zq (Wr 200 3 1 rfl) fun _=>?_
 refine Yd (ι:={x:Nat×Value//x.1≤l.length}) (fun k=>⟨[(9,_,_),(3,k.1.2, .val k.1.2),(10, .int .i64 k.1.1,Zc k.1.1)],[(200,k.1.2, .own 3 1 k.1.1 (vec k.1.1 fun i=>Zc (i:Nat)))]⟩) (fun k=>l.length-k.1.1) ⟨(0, .slice none 0 0),Xg _⟩ ?_
 rintro ⟨⟨k,h33⟩,hk⟩
 dsimp only
 dsimp only at hk
 refine Ys ?_ ?_<;>intro hb11
 · (
 have e1:=JB k (fun i=>Zc (i:Nat));refine Jm ?_;refine YW ?_;refine Wx (kk:=1) 15 WY fun h15 ho15=>?_;refine WN 200 15 16 WY fun h16 ho16=>?_;refine Wy ?_;refine Yq (Zz (l:=16) 200 rfl rfl) fun _=>?_;rw [show vec k (fun i=>Zc (i:Nat))++[Zc (k:Int)]=vec (k+1) fun i=>Zc (i:Nat) by rw [Zli]];refine Zm (
  ⟨(k+1,h16),by show k+1≤l.length;omega⟩
  ) (by show l.length-(k+1)<l.length-k;omega) sB sB)
 · (
 refine ZE ?_;refine Z5 (En.freeze (l:=200) (t:=2) rfl rfl) fun _=>?_;refine Zf results146 rfl ?_;rw [show k=l.length by omega,share,Z7,E0];unfold pInts upTo;rw [JB,E0];rfl)
def tkv (tk:List Int):List (Value×Value):=ikv (tk.map fun x=>(x,Value.bool true))
theorem Zoz (tk:List Int) (x:Int):WX (tk.map fun x=>(x,Value.bool true)) x=if x∈tk then some (.bool true) else none:=by
 induction tk with
 |nil=>rfl
 | cons y l ih=>
   rw [Xj,WX];by_cases h:x=y
   · rw [Qb h,Qb (by simp [h])]
   · rw [Qa h,ih];by_cases h2:x∈l
     · rw [Qb h2,Qb (by simp [h2])]
     · rw [Qa h2,Qa (by simp [h,h2])]
theorem ZoA {tk:List Int} {x:Int} (h:x∉tk):KS (tk.map fun x=>(x,Value.bool true)) x (.bool true)=(tk++[x]).map fun x=>(x,Value.bool true):=by
 induction tk with
 |nil=>rfl
 | cons y l ih=>
   rw [Xj,KS,Qa (fun e=>h (by simp [show x=y from e])),ih (fun hh=>h (by simp [hh]))];rfl
theorem ZgS (tk:List Int) (x:Int):(Ka (tkv tk) (.int .i64 x)).getD (.bool false)= .bool (decide (x∈tk)):=by
 unfold tkv
 rw [Zk3,Zoz]
 by_cases h:x∈tk
 · rw [Qb h,U9 h];rfl
 · rw [Qa h,U' h];rfl
theorem ZgT {tk:List Int} {x:Int} (h:x∉tk):TO (tkv tk) (.int .i64 x) (.bool true)=tkv (tk++[x]):=by
 unfold tkv
 rw [Zk4,ZoA h]
theorem Te (e n:Nat) (l:List Int) (hn:n=l.length):share (.own e 1 n (l.map Zc))=pInts l:=by
 subst hn
 rw [share,Z7,Xt];rfl
theorem D3 {α:Type} {l:List α} {x:α} {k:Nat} (h:k=l.length):(l++[x])[k]? =some x:=by subst h;simp
theorem Oe {α:Type} {l:List α} {x y:α} {k:Nat} (h:k=l.length):(l++[x]).set k y=l++[y]:=by subst h;simp
theorem HT:Zqn prog 157:=fun blk cap zs w hH hb hn=>Tryz.slices_Sort_int blk 0 cap zs w hH hb hn
theorem Sp (f : Nat) (caps:List PV) (r:Int→Int→Bool) (l:List Int) (hasc:l.Pairwise (· < ·)) (hl:l.length≤100000) (hcl:∀args w,(callFunc f args).run prog w= .ok (.enter f args) w) (hf:∀x∈l,∀y∈l,AF prog f ([Zc x,Zc y]++caps) (· =Zv (r x y))):AF prog 145 [pInts l, .fn f caps] (fun p=>∃cs,Comps l r cs∧p= .own 198 1 cs.length (cs.map pInts)):=by
 refine AF.b2 76 func145 rfl ntmps145 (Xa rfl) fun w0 M0 v0 v1 _ _=>?_
 refine Px ?_
 refine JX 13 fun h13 ho13=>?_;refine ZQ ?_
 refine xL 14 Za (xL 15 (Zy Ye) (xL 16 Za ?_));refine ZF ?_
 refine Zq (Wr 200 198 1 rfl) fun _=>?_
 refine Yd (ι:={x:Nat×Value×List (List Int)×List Int//x.1≤l.length∧Part l r x.2.2.1 x.1∧∀z,z∈x.2.2.2↔z∈x.2.2.1.flatten}) (fun k=>⟨[(0,_,_),(1,_,_),(6,_,_),(14,_,_),(15,_,_),(5,k.1.2.1, .val k.1.2.1),(16, .int .i64 k.1.1,Zc k.1.1)],[(13,h13, .omap (tkv k.1.2.2.2)),(200,k.1.2.1, .own 198 1 k.1.2.2.1.length (k.1.2.2.1.map pInts))]⟩) (fun k=>l.length-k.1.1) ⟨(0, .slice none 0 0,[],[]),Xg _,Part.start l r,fun z=>sM⟩ ?_
 rintro ⟨⟨k,h55,cs,tk⟩,hk,hpt,htk⟩
 dsimp only
 dsimp only at hk hpt htk
 refine Ys ?_ ?_<;>intro hb17
 · (
 obtain ⟨xf,hx⟩:=gS l k;have e1:=Z8 (f:=Zc) hx;have e2:=ZgS tk xf;have hxl:=Xc hx;have hcsl:cs.length≤l.length:=by
  refine XJ ?_ (Gk hpt.nd hpt.sub);have:∀m:List (List Int),(∀c∈m,c≠[])→m.length≤m.flatten.length:=fun m=>by
   induction m with
   |nil=>intro _;simp
   | cons c m ih=>
     intro h;have h1:=ih fun d hd=>h d (by simp [hd]);have h2:=Vd.2 (h c sM);rw [XW,Xf,Xl];omega
  exact this cs hpt.ne
 refine Zh ?_;refine xM (Zg Ye) ?_;refine yV (ZG ZM) ?_;refine ZQ ?_;refine xL 20 Za (xL 21 Za (xL 22 (Pv 13 RQ) ?_));refine ZR ?_ ?_<;>intro hb22
 · (
 refine ZE ?_;try refine Yq (YU (l:=73) (l':=201) (j:=cs.length) rfl (D3 (Xb _).symm) rfl rfl) fun _=>?_
 try rw [Oe (Xb _).symm,Te _ _ _ (Ug _).symm]
 try rw [show cs.map pInts++[pInts (cl.mergeSort fun x y=>decide (x≤y))]=(cs++[cl.mergeSort fun x y=>decide (x≤y)]).map pInts by simp,show cs.length+1=(cs++[cl.mergeSort fun x y=>decide (x≤y)]).length by simp]
 try refine Yq (Zz (l:=73) 200 rfl rfl) fun _=>?_
 first
  | (exact Zm (
      ⟨(k+1,h73,cs++[cl.mergeSort fun x y=>decide (x≤y)],tk1),by show k+1≤l.length;omega,hmk.done hpt hasc hx oM,fun z=>by
        show z∈tk1↔z∈(cs++[_]).flatten;rw [hmk.tkm z];simp [K8]⟩
      ) (by show l.length-(k+1)<l.length-k;omega) sB sB)
  | (exact Zm (
      ⟨(k+1,h55,cs,tk),by show k+1≤l.length;omega,hpt.skip hx ((htk xf).1 hb22),htk⟩
      ) (by show l.length-(k+1)<l.length-k;omega) sB sB))
 · (
 have hxn:xf∉cs.flatten:=fun h=>hb22 ((htk xf).2 h);have hxt:xf∉tk:=hb22;refine Wn ?_;refine L9 13 RQ ?_;refine ZF ?_;rw [ZgT hxt];refine GH ?_;refine Wx (kk:=1) 26 WY fun h26 ho26=>?_;refine Ta ?_;refine Zq (Zz (l:=26) 201 rfl rfl) fun _=>?_;refine Yd (ι:={x:Nat×Value×List Int×List Int//x.2.1.oneCell'=true∧Mk l r cs xf x.2.2.1 x.2.2.2 x.1 0}) (fun k=>⟨[(0,_,_),(1,_,_),(5,_,_),(6,_,_),(14,_,_),(15,_,_),(16,_,_),(9,k.1.2.1, .val k.1.2.1),(10, .int .i64 k.1.1,Zc k.1.1)],[(200,_,_),(13,h13, .omap (tkv k.1.2.2.1)),(201,k.1.2.1, .own 3 1 k.1.2.2.2.length (k.1.2.2.2.map Zc))]⟩) (fun k=>l.length-k.1.1) ⟨(0,h26,tk++[xf],[xf]),ho26,Mk.start hpt hx htk hxn⟩ ?_;rintro ⟨⟨i,h99,tk1,cl⟩,ho99,hmk⟩;dsimp only;dsimp only at ho99 hmk;have hcll:=hmk.len;have e1l:(cl.map Zc).length=cl.length:=Xb _;refine Zh ?_;refine xL 27 Za (xL 28 Za (xL 29 (WQ 201 Ye) (xL 30 Wq ?_)));refine ZR ?_ ?_<;>intro hb30
 · (
 have hil:i<cl.length:=oM;obtain ⟨u,hu⟩:=get_some hil;refine Zh ?_;refine xL 33 Za (xL 34 (Zy Ye) (xL 35 Za ?_));refine ZF ?_;refine Yd (ι:={x:Nat×Value×List Int×List Int//x.1≤l.length∧x.2.1.oneCell'=true∧x.2.2.2[i]? =some u∧Mk l r cs xf x.2.2.1 x.2.2.2 i x.1}) (fun k=>⟨[(0,_,_),(1,_,_),(5,_,_),(6,_,_),(10,_,_),(14,_,_),(15,_,_),(16,_,_),(33,_,_),(34,_,_),(9,k.1.2.1, .val k.1.2.1),(35, .int .i64 k.1.1,Zc k.1.1)],[(200,_,_),(13,h13, .omap (tkv k.1.2.2.1)),(201,k.1.2.1, .own 3 1 k.1.2.2.2.length (k.1.2.2.2.map Zc))]⟩) (fun k=>l.length-k.1.1) ⟨(0,h99,tk1,cl),Xg _,ho99,hu,hmk⟩ ?_;rintro ⟨⟨q,h98,tk2,cl2⟩,hq,ho98,hu2,hmk2⟩;dsimp only;dsimp only at hq ho98 hu2 hmk2;have hcll2:=hmk2.len;have e1l2:(cl2.map Zc).length=cl2.length:=Xb _;refine Ys ?_ ?_<;>intro hb36
 · (
 obtain ⟨y,hy⟩:=gS l q;have e3:=Z8 (f:=Zc) hy;have e4:=ZgS tk2 y;have e5:=Z8 (f:=Zc) hu2;have hyl:=Xc hy;have hul:=hmk2.sub u (Xc hu2);have hilt:=Zd hu2;refine Zh ?_;refine xM (Zg Ye) ?_;refine yV (ZG ZM) ?_;refine ZQ ?_;(refine xL 39 Za (xL 40 Za (xL 41 (Pv 13 RQ) (xL 42 DI (xL 43 Za ?_))))<;>(refine bL 43 (fun hb43=>?_) (fun hb43=>?_)<;>refine kZ ?_)<;>refine Jz ?_<;>(first|refine kL ?_|refine xM (Zo 201 Ye) ?_)<;>(first|refine kL ?_|refine yV (Ze 201 ZM) ?_)<;>refine kZ ?_<;>(first|refine kL ?_|(refine cV (LV (f:=f) (ps:=caps) rfl ⟨_,rfl⟩ hcl rfl (hf u hul y hyl)) ?_))<;>refine kZ ?_<;>(first|refine kL ?_|(refine bL 51 (fun hb51=>?_) (fun hb51=>?_)<;>refine kZ ?_))<;>refine Jz ?_<;>refine kZ ?_<;>(first|refine kL ?_|refine xM (Zo 201 Ye) ?_)<;>(first|refine kL ?_|refine yV (Ze 201 ZM) ?_)<;>(first|refine kL ?_|(refine cV (LV (f:=f) (ps:=caps) rfl ⟨_,rfl⟩ hcl rfl (hf y hyl u hul)) ?_))<;>refine Wz ?_)<;>(
 refine cX ?_ ?_<;>intro hb60
 · first | exact bN hb60|(
 (have hyt:y∉tk2:=by simpa using hb43);have hry:r u y=true∨r y u=true:=by first|exact .inl hb51|exact .inr hb60
 refine Wn ?_;refine L9 13 RQ ?_;refine ZF ?_;rw [ZgT hyt];refine Zi ?_;refine YW ?_;refine Wx (kk:=1) 65 WY fun h65 ho65=>?_;refine WN 201 65 66 WY fun h66 ho66=>?_;refine Wy ?_;try refine Yq (Zz (l:=66) 201 rfl rfl) fun _=>?_
 try rw [show cl2.map Zc++[Zc y]=(cl2++[y]).map Zc by simp,show cl2.length+1=(cl2++[y]).length by simp]
 first
  | (exact Zm (
      ⟨(q+1,h66,tk2++[y],cl2++[y]),by show q+1≤l.length;omega,ho66,by show (cl2++[y])[i]? =some u;rw [X0 hilt];exact hu2,hmk2.take hu2 hy hyt hry⟩
      ) (by show l.length-(q+1)<l.length-q;omega) sB sB)
  | (exact Zm (
      ⟨(q +1,h98,tk2,cl2),by show q+1≤l.length;omega,ho98,hu2,hmk2.pass hu2 hy (by
        first
         |exact .inr ⟨hb51,hb60⟩
         |exact .inl (by simpa using hb43))⟩
      ) (by show l.length-(q+1)<l.length-q;omega) sB sB))
 · first | exact bN hb60|(
 refine ZE ?_;try refine Yq (Zz (l:=66) 201 rfl rfl) fun _=>?_
 try rw [show cl2.map Zc++[Zc y]=(cl2++[y]).map Zc by simp,show cl2.length+1=(cl2++[y]).length by simp]
 first
  | (exact Zm (
      ⟨(q+1,h66,tk2++[y],cl2++[y]),by show q+1≤l.length;omega,ho66,by show (cl2++[y])[i]? =some u;rw [X0 hilt];exact hu2,hmk2.take hu2 hy hyt hry⟩
      ) (by show l.length-(q+1)<l.length-q;omega) sB sB)
  | (exact Zm (
      ⟨(q +1,h98,tk2,cl2),by show q+1≤l.length;omega,ho98,hu2,hmk2.pass hu2 hy (by
        first
         |exact .inr ⟨hb51,hb60⟩
         |exact .inl (by simpa using hb43))⟩
      ) (by show l.length-(q+1)<l.length-q;omega) sB sB))))
 · (
 refine Y5 ?_;refine Zm (
  ⟨(i+1,h98,tk2,cl2),ho98,hmk2.next oM (Zd hu2)⟩
  ) (by show l.length-(i+1)<l.length-i;omega) sB sB))
 · (
 refine Wh ?_;refine ZbO 201 HT (call157) ?_ (UR hmk.fst);refine OW ?_;refine Wx (kk:=1) 72 Jb fun h72 ho72=>?_;refine WN 200 72 73 Jb fun h73 ho73=>?_;refine Wy ?_;try refine Yq (YU (l:=73) (l':=201) (j:=cs.length) rfl (D3 (Xb _).symm) rfl rfl) fun _=>?_
 try rw [Oe (Xb _).symm,Te _ _ _ (Ug _).symm]
 try rw [show cs.map pInts++[pInts (cl.mergeSort fun x y=>decide (x≤y))]=(cs++[cl.mergeSort fun x y=>decide (x≤y)]).map pInts by simp,show cs.length+1=(cs++[cl.mergeSort fun x y=>decide (x≤y)]).length by simp]
 try refine Yq (Zz (l:=73) 200 rfl rfl) fun _=>?_
 first
  | (exact Zm (
      ⟨(k+1,h73,cs++[cl.mergeSort fun x y=>decide (x≤y)],tk1),by show k+1≤l.length;omega,hmk.done hpt hasc hx oM,fun z=>by
        show z∈tk1↔z∈(cs++[_]).flatten;rw [hmk.tkm z];simp [K8]⟩
      ) (by show l.length-(k+1)<l.length-k;omega) sB sB)
  | (exact Zm (
      ⟨(k+1,h55,cs,tk),by show k+1≤l.length;omega,hpt.skip hx ((htk xf).1 hb22),htk⟩
      ) (by show l.length-(k+1)<l.length-k;omega) sB sB))))
 · (
 refine ZE ?_;refine K3 200 results145 rfl rfl ⟨cs,hpt.comps oM,rfl⟩)
def LJ (l:List BA) (i:Int):BA:=l[i.toNat]?.getD ByteArray.empty
def GR (l:List BA) (cs:List (List Int)):List (List BA):=cs.map fun c=>c.map (LJ l)
theorem ZoB {l:List BA} {x:Int} (h:0≤x∧x<l.length):(l.map Zt)[x.toNat*1]? =some (Zt (LJ l x)):=by
 rw [Xy,Xo]
 unfold LJ
 rw [Xx (show x.toNat<l.length by omega)];rfl
theorem Zc8 (e n:Nat) (l:List (List BA)) (hn:n=l.length):share (.own e 1 n (l.map Zs))=WF l:=by
 subst hn
 rw [share,Z7,Xt];rfl
theorem G9 (e n:Nat) (l:List (List Int)) (hn:n=l.length):share (.own e 1 n (l.map pInts))=HJ l:=by
 subst hn
 rw [share,Z7,Xt];rfl
theorem PH (l:List BA) (rest:List PV) (kind:Int) (cs:List (List Int)) (h:cs.length<2):AF prog 144 [.sptr 0 (Zs l::rest),Zc kind,HJ cs] (· = .tup [.agg [Zc 0, .val (.slice none 0 0)],Zc 10]):=by
 refine AF.b3 51 func144 rfl ntmps144 (Xa rfl) ?_
 rintro w0 M0 v0 _ v2-rfl-
 refine Zh ?_
 refine Zx [(.int .i64 0),(.slice none 0 0)] 2 6 KP fun h6=>?_;refine ZQ ?_
 refine xL 14 Za (xL 15 (Zy KM) (xL 16 Wq ?_));refine ZR ?_ ?_<;>intro hb16
 · refine Zh ?_;refine xM (ZX RR) ?_;refine Zu 6 YR ?_;refine ZB ?_;exact YG (k:=2) 6 results144 rfl
 · exfalso;omega
theorem D4 (l:List BA) (rest:List PV) (kind:Int) (cs:List (List Int)) (h:2≤cs.length) (hcs:∀c∈cs,∀x∈c,0≤x∧x<l.length) (hcl:cs.length≤1000000) (hcc:∀c∈cs,c.length≤1000000):AF prog 144 [.sptr 0 (Zs l::rest),Zc kind,HJ cs] (· = .tup [ZbE ⟨kind,GR l cs⟩,Zc 0]):=by
 refine AF.b3 51 func144 rfl ntmps144 (Xa rfl) ?_
 rintro w0 M0 v0 _ v2-rfl-
 refine Zh ?_
 refine Zx [(.int .i64 0),(.slice none 0 0)] 2 6 KP fun h6=>?_;refine ZQ ?_
 refine xL 14 Za (xL 15 (Zy KM) (xL 16 Wq ?_));refine ZR ?_ ?_<;>intro hb16
 · exfalso;omega
 · refine Zh ?_;refine xL 18 Za (xL 19 (ZX RR) ?_);refine Zx [(.int .i64 0),(.slice none 0 0)] 2 8 KP fun h8=>?_;refine Zu 8 YR ?_;refine Yc ?_;refine xL 20 Za (xL 21 (Zy KM) (xL 22 Za ?_));refine ZF ?_;refine Zq (Wr 200 39 1 rfl) fun _=>?_;refine Yd (ι:={x:Nat×Value//x.1≤cs.length}) (fun k=>⟨[(0,_,_),(6,_,_),(8,_,_),(20,_,_),(21,_,_),(22, .int .i64 k.1.1,Zc k.1.1)],[(6,_,_),(8,h8, .own 104 2 1 [Zc kind, .val k.1.2]),(200,k.1.2, .own 39 1 k.1.1 (((GR l cs).take k.1.1).map Zs))]⟩) (fun k=>cs.length-k.1.1) ⟨(0, .slice none 0 0),Xg _⟩ ?_;rintro ⟨⟨k,h55⟩,hk⟩;dsimp only;dsimp only at hk;refine Ys ?_ ?_<;>intro hb23
   · (
 obtain ⟨cl,hx⟩:=gS cs k;have e1:=Z8 (f:=pInts) hx;have hxl:=hcs cl (Xc hx);have hxc:=hcc cl (Xc hx);(have hpt:(GR l cs)[k]? =some (cl.map (LJ l)):=by unfold GR;rw [Xo,hx];rfl);(have e2:(((GR l cs).take k).map Zs).length=k:=by unfold GR;simp;omega);refine Zh ?_;refine xM (Zg KM) ?_;refine yU (ZG Sl) fun v25=>?_;refine ZQ ?_;refine ZQ ?_;refine xL 26 Za (xL 27 (Zy Ye) (xL 28 Za ?_));refine ZF ?_;refine Zq (Wr 201 9 1 rfl) fun _=>?_;refine Yd (ι:={x:Nat×Value//x.1≤cl.length∧x.2.oneCell'=true}) (fun k=>⟨[(0,_,_),(6,_,_),(8,_,_),(20,_,_),(21,_,_),(22,_,_),(26,_,_),(27,_,_),(11,k.1.2, .val k.1.2),(28, .int .i64 k.1.1,Zc k.1.1)],[(6,_,_),(8,_,_),(200,_,_),(201,k.1.2, .own 9 1 k.1.1 (((cl.map (LJ l)).take k.1.1).map Zt))]⟩) (fun k=>cl.length-k.1.1) ⟨(0, .slice none 0 0),Xg _,rfl⟩ ?_;rintro ⟨⟨j,h66⟩,hj,ho66⟩;dsimp only;dsimp only at hj ho66;refine Ys ?_ ?_<;>intro hb29
 · (
 obtain ⟨z,hz⟩:=gS cl j;have e3:=Z8 (f:=Zc) hz;have hzb:=hxl z (Xc hz);have e4:=ZoB hzb;(have e5:(((cl.map (LJ l)).take j).map Zt).length=j:=by simp;omega);(have hnz:(cl.map (LJ l))[j]? =some (LJ l z):=by rw [Xo,hz];rfl);refine Zh ?_;refine xM (Zg Ye) ?_;refine yV (ZG ZM) ?_;refine ZQ ?_;refine xL 32 Za (xL 33 Za (xL 34 WS (xL 35 (YP Kr) ?_)));refine yU (ZG ZN) fun v36=>?_;refine xL 37 Za (xL 38 (OJ Zn) ?_);refine yV (ZG ZK) ?_;refine Wx (kk:=1) 40 ZW fun h40 ho40=>?_;refine WN 201 40 41 ZW fun h41 ho41=>?_;refine Wy ?_;refine Yq (Zz (l:=41) 201 rfl rfl) fun _=>?_;rw [show ((cl.map (LJ l)).take j).map Zt++[Zt (LJ l z)]=((cl.map (LJ l)).take (j+1)).map Zt by rw [Zw hnz,XC];rfl];refine Zm (
  ⟨(j+1,h41),by show j+1≤cl.length;omega,ho41⟩
  ) (by show cl.length-(j+1)<cl.length-j;omega) sB sB)
 · (
 refine Zh ?_;refine xM (Zb 8 D1) ?_;refine yV (Ze 8 Yp) ?_;refine Yv ?_;refine Wx (kk:=1) 46 Jq fun h46 ho46=>?_;refine WN 200 46 47 Jq fun h47 ho47=>?_;refine xM (Zb 8 D1) ?_;refine GC 8 Yp ZaG ?_;refine GF ?_;refine Yq (YU (l:=47) (l':=201) (j:=k) rfl (D3 e2.symm) rfl rfl) fun _=>?_;rw [Oe e2.symm,show j=(cl.map (LJ l)).length by rw [Xb];omega,XH,Wb];rw [show ((GR l cs).take k).map Zs++[PV.sl (cl.map (LJ l)).length ((cl.map (LJ l)).map Zt)]=((GR l cs).take (k+1)).map Zs by rw [Zw hpt,XC];rfl];refine Yq (Zz (l:=47) 200 rfl rfl) fun _=>?_;refine Zm (
  ⟨(k+1,h47),by show k+1≤cs.length;omega⟩
  ) (by show cs.length-(k+1)<cs.length-k;omega) sB sB))
   · (
 refine nav ?_;rw [show k=(GR l cs).length by unfold GR;rw [Xb];omega,XH];refine Zq (YU (l:=8) (l':=200) (j:=1) rfl rfl rfl rfl) fun _=>?_;rw [Zc8 _ _ _ rfl];refine Zi ?_;refine yU (Zj 8 YR) fun v50=>?_;refine Zu 6 YR ?_;refine ZB ?_;exact YG (k:=2) 6 results144 rfl)
def CW (l:List BA) (kind:Int) (cs:List (List Int)):PV:=if cs.length<2 then .tup [.agg [Zc 0, .val (.slice none 0 0)],Zc 10] else .tup [ZbE ⟨kind,GR l cs⟩,Zc 0]
theorem K9 {n:Nat} {x:Int}:x∈upTo n↔0≤x∧x<n:=by
 unfold upTo vec
 simp only [Xh,Va]
 constructor
 · rintro ⟨i,hi,rfl⟩;omega
 · rintro ⟨h0,h1⟩;exact ⟨x.toNat,oM,oM⟩
theorem GL (n:Nat):(upTo n).length=n:=JB _ _
theorem PI (n:Nat):(upTo n).Pairwise (· < ·):=by
 rw [XS]
 intro i j hi hj hij
 rw [GL] at hi hj
 have e1:(upTo n)[i]? =some ((i:Nat):Int):=RO _ hi
 have e2:(upTo n)[j]? =some ((j:Nat):Int):=RO _ hj
 rw [(Xr.1 e1).2,(Xr.1 e2).2];omega
theorem TC {n:Nat} {r:Int→Int→Bool} {cs:List (List Int)} (h:Comps (upTo n) r cs):(∀c∈cs,∀x∈c,0≤x∧x<n)∧cs.length≤n∧∀c∈cs,c.length≤n:=by
 have h1:∀c∈cs,∀x∈c,x∈upTo n:=fun c hc x hx=>(h.mem x).1 (Vb.2 ⟨c,hc,hx⟩)
 refine ⟨fun c hc x hx=>K9.1 (h1 c hc x hx),?_,fun c hc=>?_⟩
 · have h2:=Gk h.nd (fun x hx=>(h.mem x).1 hx);rw [GL] at h2;have:∀m:List (List Int),(∀c∈m,c≠[])→m.length≤m.flatten.length:=fun m=>by
    induction m with
    |nil=>intro _;simp
    | cons c m ih=>
      intro h;have h1:=ih fun d hd=>h d (by simp [hd]);have h2:=Vd.2 (h c sM);rw [XW,Xf,Xl];omega
   have:=this cs h.ne;omega
 · have h2:=Gk (l:=c) (m:=upTo n) ((h.asc c hc).imp fun {a b} h=>oM) (h1 c hc);rw [GL] at h2;exact h2
def Zc9 (E:Nat→Nat→Bool) (a b:Int):Bool:=E a.toNat b.toNat
theorem ZoC (l:List BA) (n:Nat) (E:Nat→Nat→Bool) (S F:Nat→Bool) (x y:Int) (hx:0≤x∧x<n) (hy:0≤y∧y<n):AF prog 147 [Zc x,Zc y, .sptr 0 [G0 l n E S F]] (· =Zv (Zc9 E x y)):=by
 obtain ⟨a,rfl⟩:∃a:Nat,x=a:=⟨x.toNat,oM⟩
 obtain ⟨b,rfl⟩:∃b:Nat,y=b:=⟨y.toNat,oM⟩
 have e1:=YN (fun i=>Kq n (E i)) (show a<n by omega)
 have e2:=YN (fun j=>Zv (E a j)) (show b<n by omega)
 refine AF.b3 16 func147 rfl ntmps147 (Xa rfl) ?_
 rintro w0 M0 _ _ v2 rfl rfl-
 dsimp only [G0]
 refine YK ?_
 refine yU (ZG Y0) fun v6=>?_;refine xL 7 WS (xL 8 (YP Kb) ?_);refine yU (ZG Wt) fun v9=>?_;refine xL 10 Za (xL 11 (Zg Yn) ?_);refine yU (ZG Z2) fun v12=>?_;refine xL 13 Za (xL 14 (Zg Yf) ?_);refine yV (ZG Yk) ?_;refine ZB ?_
 exact Zf results147 rfl rfl
theorem ZiH (g:Dfg) (l:List BA) (n:Nat) (E:Nat→Nat→Bool) (S F:Nat→Bool) (hb:AF prog 143 [GJ g] (· = .tup [G0 l n E S F,Zc 0])) (hl:l.length=n) (hn:n≤1000):AF prog 111 [GJ g] (fun p=>∃cs,Comps (upTo n) (Zc9 E) cs∧p=CW l 1 cs):=by
 refine AF.b1 23 func111 rfl ntmps111 (Xa rfl) fun w0 M0 v0 _=>?_
 refine Zh ?_
 refine ZV 1 4 fun h1=>?_;refine Zx [(.int .i64 0),(.slice none 0 0)] 2 2 KP fun h2=>?_;refine ZQ ?_
 refine yU (Zj 1 YQ) fun v7=>?_;refine cP 8 (cA call143 (hb)) fun va8 vb8 hva8 hvb8=>?_;cases hvb8;refine Y' ?_;refine Zx [(.pointer none)] 1 4 O4 fun h4=>?_;refine GC 4 Y0 O3 ?_;refine ZQ ?_
 (refine YJ ?_)<;>(try (exfalso;omega))<;>(
 refine cX ?_ ?_<;>intro hb12
 · exfalso;omega
 · refine nav ?_;refine Zq (T0 (l:=4) (t:=4) (j:=0) rfl Vs rfl) fun _=>?_;dsimp only [YV,share,List.map,G0];(refine We [] [] ?_<;>(refine yD 0 rfl (ZG Y0) fun v15 h=>?_;cases h)<;>(refine yD 1 rfl (ZG Y0) fun v16 h=>?_;cases h)<;>refine xD 3 rfl TP ?_<;>(refine Z6 2 kR ?_)<;>(refine Yz (d:=17) rfl (cA call146 ((ZbP l _ oM).mono (R':=(· =pInts (upTo n))) fun p hp=>by rw [hp,hl])) fun v17 h=>?_;cases h)<;>(refine aDr 4 fun bk=>?_)<;>(refine Sj 19 rfl rfl (Xa rfl) rfl (cA call145 (Sp 147 [.sptr 0 [G0 l n E S F]] (Zc9 E) (upTo n) (PI n) (by rw [GL];omega) (call147) (fun x hx y hy=>ZoC l n E S F x y (K9.1 hx) (K9.1 hy)))) ?_;rintro p' ⟨cs,hcs,rfl⟩;refine ⟨rfl,fun h19 ho19=>?_⟩;refine Zp (En.freeze (l:=19) (t:=19) rfl rfl) fun _=>?_;rw [G9 _ _ _ rfl])<;>refine bE bk ?_<;>(refine aDr 5 fun bk=>?_)<;>(by_cases hm:cs.length<2<;>first|(refine cP 20 (cA call144 (PH l _ 1 cs hm)) fun va20 vb20 hva20 h=>?_;cases h)|(refine cP 20 (cA call144 (D4 l _ 1 cs oM (by rw [hl];exact (TC hcs).1) (by have:=(TC hcs).2.1;omega) (fun c hc=>by have:=(TC hcs).2.2 c hc;omega))) fun va20 vb20 hva20 h=>?_;cases h))<;>refine bE bk ?_<;>refine gDx 6 ?_<;>refine gEx 7 ?_<;>(refine aDr 8 fun bk=>?_)<;>refine Zu 2 YR ?_<;>refine bE bk ?_<;>refine gEx 9 ?_<;>refine Kz ?_)<;>(
 refine YG (k:=2) 2 results111 ⟨cs,hcs,?_⟩;unfold CW
 first
  |(rw [Qb hm];rfl)
  |(rw [Qa hm];rfl)))
theorem CX:(prog.info? 201).map (·.size)=some 1:=kR
theorem CY:ZeroT prog 201 (.slice none 0 0):=by unfold ZeroT;kernel_rfl
def relS (R:Nat→Nat→Bool) (a b:Int):Bool:=R a.toNat b.toNat==R b.toNat a.toNat
def hdI (c:List Int):Int:=c[0]?.getD 0
def cmpSeq (R:Nat→Nat→Bool) (x y:List Int):Int:=if hdI x=hdI y then 0 else if R (hdI x).toNat (hdI y).toNat then-1 else 1
theorem RS {R:Nat→Nat→Bool} {x y:List Int}:cmpSeq R x y<0↔hdI x≠hdI y∧R (hdI x).toNat (hdI y).toNat=true:=by
 unfold cmpSeq
 by_cases h:hdI x=hdI y
 · rw [Qb h];simp [h]
 · rw [Qa h]
   cases hr:R (hdI x).toNat (hdI y).toNat<;>simp [h]
theorem TQ {c:List Int} (h:c≠[]):hdI c∈c:=by
 cases c with
 |nil=>exact Qc rfl h
 |cons a t=>exact Xs
theorem Tf {n:Nat} {R:Nat→Nat→Bool} {cs:List (List Int)} (h:Comps (upTo n) (relS R) cs) {c d:List Int} (hc:c∈cs) (hd:d∈cs) (hne:hdI c≠hdI d):R (hdI c).toNat (hdI d).toNat≠R (hdI d).toNat (hdI c).toNat:=fun he=>by
 have hm:=h.clos c hc (hdI c) (TQ (h.ne c hc)) (hdI d) ((h.mem _).1 (Vb.2 ⟨d,hd,TQ (h.ne d hd)⟩)) (.inl (by unfold relS;rw [he];simp))
 have hcd:c=d:=by
  obtain ⟨i,hi⟩:=XR hc;obtain ⟨j,hj⟩:=XR hd;by_cases e:i=j
  · subst e;rw [hi] at hj;cases hj;rfl
  · have:=XS.1 (List.pairwise_flatten.1 h.nd).2;have hlt:=Zd hi;have hlt':=Zd hj;rcases Nat.lt_or_gt_of_ne e with h1|h1
    · have:=this i j hlt hlt' h1 (hdI d) (by rw [(Xr.1 hi).2];exact hm) (hdI d) (by rw [(Xr.1 hj).2];exact TQ (h.ne d hd));exact Qc rfl this
    · have:=this j i hlt' hlt h1 (hdI d) (by rw [(Xr.1 hj).2];exact TQ (h.ne d hd)) (hdI d) (by rw [(Xr.1 hi).2];exact hm);exact Qc rfl this
 exact hne (by rw [hcd])
theorem ZqU {n:Nat} {E R:Nat→Nat→Bool} {cs:List (List Int)} (hR:Closed n E R) (h:Comps (upTo n) (relS R) cs) (a b c:{c//c∈cs}) (h1:cmpSeq R a.1 b.1<0) (h2:cmpSeq R b.1 c.1<0):cmpSeq R a.1 c.1<0:=by
 have hin:=(TC h).1
 have ba:=hin a.1 a.2 _ (TQ (h.ne _ a.2))
 have bb:=hin b.1 b.2 _ (TQ (h.ne _ b.2))
 have bc:=hin c.1 c.2 _ (TQ (h.ne _ c.2))
 rw [RS] at h1 h2 ⊢
 have hac:=hR.2 (hdI a.1).toNat (hdI b.1).toNat (hdI c.1).toNat oM oM oM h1.2 h2.2
 refine ⟨fun e=>?_,hac⟩
 have:=Tf h a.2 b.2 h1.1
 rw [←e] at h2
 rw [h1.2,h2.2] at this;exact this rfl
theorem ZqV {n:Nat} {E R:Nat→Nat→Bool} {cs:List (List Int)} (hR:Closed n E R) (h:Comps (upTo n) (relS R) cs) (a b c:{c//c∈cs}) (h1:¬cmpSeq R a.1 b.1<0) (h2:¬cmpSeq R b.1 c.1<0):¬cmpSeq R a.1 c.1<0:=by
 have hin:=(TC h).1
 have ba:=hin a.1 a.2 _ (TQ (h.ne _ a.2))
 have bb:=hin b.1 b.2 _ (TQ (h.ne _ b.2))
 have bc:=hin c.1 c.2 _ (TQ (h.ne _ c.2))
 by_cases e1:hdI a.1=hdI b.1
 · unfold cmpSeq at h2 ⊢;rw [e1];exact h2
 · by_cases e2:hdI b.1=hdI c.1
   · unfold cmpSeq at h1 ⊢;rw [←e2];exact h1
   · rw [RS] at h1 h2 ⊢;have r1:R (hdI b.1).toNat (hdI a.1).toNat=true:=by
      have h3:=Tf h a.2 b.2 e1;(have h4:R (hdI a.1).toNat (hdI b.1).toNat=false:=by rw [←Bool.not_eq_true];exact fun hh=>h1 ⟨e1,hh⟩);rw [h4] at h3
      cases hx:R (hdI b.1).toNat (hdI a.1).toNat with
      |true=>rfl
      |false=>rw [hx] at h3;exact Qc rfl h3
     have r2:R (hdI c.1).toNat (hdI b.1).toNat=true:=by
      have h3:=Tf h b.2 c.2 e2;(have h4:R (hdI b.1).toNat (hdI c.1).toNat=false:=by rw [←Bool.not_eq_true];exact fun hh=>h2 ⟨e2,hh⟩);rw [h4] at h3
      cases hx:R (hdI c.1).toNat (hdI b.1).toNat with
      |true=>rfl
      |false=>rw [hx] at h3;exact Qc rfl h3
     have r3:=hR.2 (hdI c.1).toNat (hdI b.1).toNat (hdI a.1).toNat oM oM oM r2 r1;rintro ⟨e3,r4⟩;have:=Tf h a.2 c.2 e3;rw [r4,r3] at this;exact this rfl
theorem ZgU (n:Nat) (R:Nat→Nat→Bool) (x y:Int) (hx:0≤x∧x<n) (hy:0≤y∧y<n):AF prog 149 [Zc x,Zc y, .sptr 0 [ZbL n R]] (· =Zv (relS R x y)):=by
 obtain ⟨a,rfl⟩:∃a:Nat,x=a:=⟨x.toNat,oM⟩
 obtain ⟨b,rfl⟩:∃b:Nat,y=b:=⟨y.toNat,oM⟩
 have e1:=YN (fun i=>Kq n (R i)) (show a<n by omega)
 have e2:=YN (fun j=>Zv (R a j)) (show b<n by omega)
 have e3:=YN (fun i=>Kq n (R i)) (show b<n by omega)
 have e4:=YN (fun j=>Zv (R b j)) (show a<n by omega)
 refine AF.b3 21 func149 rfl ntmps149 (Xa rfl) ?_
 rintro w0 M0 _ _ v2 rfl rfl-
 refine ZI ?_
 refine We [] [] ?_<;>(refine yD 0 rfl (ZG Wt) fun v6 h=>?_;cases h)<;>refine gDx 1 ?_<;>refine xD 2 rfl (Zg Yn) ?_<;>(refine yD 3 rfl (ZG Z2) fun v9 h=>?_;cases h)<;>refine gDx 4 ?_<;>refine xD 5 rfl (Zg Yf) ?_<;>(refine yD 6 rfl (ZG Yk) fun v12 h=>?_;cases h)<;>(refine yD 7 rfl (ZG Wt) fun v13 h=>?_;cases h)<;>refine gDx 8 ?_<;>refine xD 9 rfl (Zg Yn) ?_<;>(refine yD 10 rfl (ZG Z2) fun v16 h=>?_;cases h)<;>refine gEx 11 ?_<;>refine xE 12 rfl (Zg Yf) ?_<;>(refine yE 13 rfl (ZG Yk) fun v19 h=>?_;cases h)<;>refine xE 14 rfl (Zk7 underlying4) ?_<;>refine gEx 15 ?_<;>refine Kz ?_
 exact Zf results149 rfl rfl
theorem ZoD (n:Nat) (R:Nat→Nat→Bool) (x y:List Int) (hx:x≠[]) (hy:y≠[]) (hx2:∀z∈x,0≤z∧z<n) (hy2:∀z∈y,0≤z∧z<n):AFg prog 151 [pInts x,pInts y, .sptr 0 [ZbL n R]] (· = .val (.int .i64 (cmpSeq R x y))):=by
 have hxl:=Vd.2 hx
 have hyl:=Vd.2 hy
 have bx:=hx2 _ (TQ hx)
 have bY:=hy2 _ (TQ hy)
 obtain ⟨a,ha⟩:∃a:Nat,hdI x=a:=⟨(hdI x).toNat,oM⟩
 obtain ⟨b,hb⟩:∃b:Nat,hdI y=b:=⟨(hdI y).toNat,oM⟩
 have e0:(x.map Zc)[0*1]? =some (Zc (a:Nat)):=by
  cases x with
  |nil=>exact Qc rfl hx
  |cons z t=>show some (Zc z)=_;rw [show z=a from ha]
 have e0':(y.map Zc)[0*1]? =some (Zc (b:Nat)):=by
  cases y with
  |nil=>exact Qc rfl hy
  |cons z t=>show some (Zc z)=_;rw [show z=b from hb]
 have e1:=YN (fun i=>Kq n (R i)) (show a<n by omega)
 have e2:=YN (fun j=>Zv (R a j)) (show b<n by omega)
 refine AFg.of_body 24 func151 rfl ntmps151 (Xa rfl) ?_
 intro w0 M0 vs hl hv
 obtain ⟨v0,v1,v2,rfl⟩:=ZrW hl
 clear hl hv
 dsimp only [pInts]
 refine ZI ?_
 refine We [] [] ?_<;>refine gDx 0 ?_<;>refine xD 1 rfl (Zg (i:=0) Ye) ?_<;>(refine yD 2 rfl (ZG ZM) fun v8 h=>?_;cases h)<;>refine gEx 3 ?_<;>refine xE 4 rfl (Zg (i:=0) Ye) ?_<;>(refine yE 5 rfl (ZG ZM) fun v11 h=>?_;cases h)<;>refine gEx 6 ?_<;>refine Kz ?_
 refine cX ?_ ?_<;>intro hb12
 · (
 refine ZI ?_;refine Zf results151 rfl ?_;unfold cmpSeq;rw [ha,hb,Qb hb12])
 · (
 refine nav ?_;refine We [] [] ?_<;>(refine yD 0 rfl (ZG Wt) fun v13 h=>?_;cases h)<;>refine gDx 1 ?_<;>refine xD 2 rfl (Zg (i:=0) Ye) ?_<;>(refine yD 3 rfl (ZG ZM) fun v16 h=>?_;cases h)<;>refine xD 4 rfl (Zg Yn) ?_<;>(refine yD 5 rfl (ZG Z2) fun v18 h=>?_;cases h)<;>refine gEx 6 ?_<;>refine xE 7 rfl (Zg (i:=0) Ye) ?_<;>(refine yE 8 rfl (ZG ZM) fun v21 h=>?_;cases h)<;>refine xE 9 rfl (Zg Yf) ?_<;>(refine yE 10 rfl (ZG Yk) fun v23 h=>?_;cases h)<;>refine Kz ?_;refine cX ?_ ?_<;>intro hb23
 · (
 refine ZI ?_;refine Zf results151 rfl ?_;unfold cmpSeq;rw [ha,hb,Qa hb12,XY,XY,Qb hb23])
 · (
 refine ZI ?_;refine Zf results151 rfl ?_;unfold cmpSeq;rw [ha,hb,Qa hb12,XY,XY,Qa (by rw [hb23];simp)]))
theorem Zfk:Zfj prog 150 151:=fun enc h1 cf hO cb blk cap d w hcmp hH hblk hsz=>Tryz.slices_SortFunc enc h1 cf hO 151 cb blk 0 cap d w (call151) hcmp hH hblk hsz
structure SeqCs (n:Nat) (R:Nat→Nat→Bool) (cs:List (List Int)):Prop where
 cl:∃ds,Comps (upTo n) (relS R) ds∧cs.Perm ds
 ord:∀(i j:Nat) (a b:List Int),i<j→cs[i]? =some a→cs[j]? =some b→¬cmpSeq R b a<0
theorem ZiI (g:Dfg) (l:List BA) (n:Nat) (E:Nat→Nat→Bool) (S F:Nat→Bool) (hb:AF prog 143 [GJ g] (· = .tup [G0 l n E S F,Zc 0])) (hl:l.length=n) (hn:n≤1000) (hn0:0<n):AF prog 112 [GJ g] (fun p=>∃cs,SeqCs n (WZ n E) cs∧p=CW l 2 cs):=by
 refine AF.b1 31 func112 rfl ntmps112 (Xa rfl) fun w0 M0 v0 _=>?_
 refine Zh ?_
 refine ZV 1 4 fun h1=>?_;refine Zx [(.int .i64 0),(.slice none 0 0)] 2 2 KP fun h2=>?_;refine ZQ ?_
 refine yU (Zj 1 YQ) fun v9=>?_;refine cP 10 (cA call143 (hb)) fun va10 vb10 hva10 hvb10=>?_;cases hvb10;refine JY ?_;refine GG ?_ ?_<;>intro hb14
 · exfalso;omega
 · refine Zh ?_;refine Yv ?_;refine cU (cA call148 (ZcW l n E (Kq n S) (Kq n F) hl hn)) fun v18=>?_;refine Zx [(.slice none 0 0)] 1 6 CY fun h6=>?_;refine GC 6 Wt CX ?_;refine ZF ?_;refine Zq (T0 (l:=6) (t:=6) (j:=0) rfl Vs rfl) fun _=>?_;dsimp only [YV,share,List.map,G0];refine GH ?_;refine cU (cA call146 ((ZbP l _ oM).mono (R':=(· =pInts (upTo n))) fun p hp=>by rw [hp,hl])) fun v20=>?_;refine xM TP ?_;refine Sj 22 rfl rfl (Xa rfl) rfl (cA call145 (Sp 149 [.sptr 0 [ZbL n (WZ n E)]] (relS (WZ n E)) (upTo n) (PI n) (by rw [GL];omega) (call149) (fun x hx y hy=>ZgU n (WZ n E) x y (K9.1 hx) (K9.1 hy)))) ?_;rintro p' ⟨cs,hcs,rfl⟩;refine ⟨rfl,fun h22 ho22=>?_⟩;refine ZB ?_;have hin:=TC hcs;have hcp:0<cs.attach.length:=by
    rw [Uh]
    cases cs with
    |nil=>have:=(hcs.mem 0).2 (K9.2 ⟨oM,oM⟩);simp at this
    |cons=>simp
   rw [show cs.map pInts=cs.attach.map (fun c:{c//c∈cs}=>pInts c.1) by rw [List.attach_map_val (f:=pInts)],show cs.length=cs.attach.length from Uh.symm];refine Zi ?_;refine xL 23 Za (xL 24 TP ?_);refine ZgR (β:={c//c∈cs}) (f:=fun c=>pInts c.1) (cmp:=fun a b=>cmpSeq (WZ n E) a.1 b.1) (rows:=cs.attach) 22 Zfk (call150) (fun _=>rfl) (fun a=>by unfold cmpSeq;rw [Qb rfl];decide) (ZqU (DU n E) hcs) (ZqV (DU n E) hcs) (fun x _ y _=>ZoD n (WZ n E) x.1 y.1 (hcs.ne _ x.2) (hcs.ne _ y.2) (hin.1 _ x.2) (hin.1 _ y.2)) hcp (by rw [Uh];omega) (fun rows' hperm hord=>?_);refine ZF ?_;obtain ⟨ds,hds⟩:∃ds,ds=rows'.map (·.1):=⟨_,rfl⟩;have hpd:ds.Perm cs:=by rw [hds];have:=hperm.map (·.1);rw [List.attach_map_subtype_val] at this;exact this
   have hsq:SeqCs n (WZ n E) ds:=⟨⟨cs,hcs,hpd⟩,fun i j a b hij ha hb=>by
    rw [hds,Xo,XP] at ha hb;obtain ⟨a',ha',rfl⟩:=ha;obtain ⟨b',hb',rfl⟩:=hb;exact hord i j a' b' hij ha' hb'⟩
   rw [show rows'.map (fun c:{c//c∈cs}=>pInts c.1)=ds.map pInts by rw [hds,Xt];rfl,show cs.attach.length=ds.length by rw [Uh];exact hpd.length_eq.symm];refine Zq (En.freeze (l:=22) (t:=7) rfl rfl) fun _=>?_;rw [G9 _ _ _ rfl];have hdi:∀c∈ds,∀x∈c,0≤x∧x<l.length:=fun c hc=>by rw [hl];exact hin.1 c (hpd.mem_iff.1 hc)
   have hdl:ds.length≤1000000:=by rw [hpd.length_eq];omega
   have hdc:∀c∈ds,c.length≤1000000:=fun c hc=>by have:=hin.2.2 c (hpd.mem_iff.1 hc);omega
   (refine Zi ?_<;>refine YW ?_<;>(by_cases hm:ds.length<2<;>first|(refine cP 28 (cA call144 (PH l _ 2 ds hm)) fun va28 vb28 hva28 h=>?_;cases h)|(refine cP 28 (cA call144 (D4 l _ 2 ds oM hdi hdl hdc)) fun va28 vb28 hva28 h=>?_;cases h))<;>refine YW ?_<;>refine Zu 2 YR ?_<;>refine ZB ?_)<;>(
 refine YG (k:=2) 2 results112 ⟨ds,hsq,?_⟩;unfold CW
 first
  |(rw [Qb hm];rfl)
  |(rw [Qa hm];rfl))
end Go.Proofs.YteiincihiagidaaGreat
namespace Go.Cb
open Go.En
theorem ZgV:∀{l m:List Int},l.Pairwise (· < ·)→m.Pairwise (· < ·)→(∀x,x∈l↔x∈m)→l=m
 |[],[],_,_,_=>rfl
 |[],b::m,_,_,h=>by have:=(h b).2 sM;simp at this
 |a::l,[],_,_,h=>by have:=(h a).1 sM;simp at this
 | a :: l,b::m,hl,hm,h=>by
   rw [XL] at hl hm;have hab:a=b:=by
    have h1:=(h a).1 sM;have h2:=(h b).2 sM;rcases Xk.1 h1 with e|e
    · exact e
    · rcases Xk.1 h2 with e2|e2
      · exact e2.symm
      · have:=hl.1 b e2;have:=hm.1 a e;omega
   subst hab;rw [ZgV hl.2 hm.2 fun x=>?_];constructor
   · intro hx;have:=(h x).1 (by simp [hx]);rcases Xk.1 this with e|e
     · subst e;have:=hl.1 _ hx;omega
     · exact e
   · intro hx;have:=(h x).2 (by simp [hx]);rcases Xk.1 this with e|e
     · subst e;have:=hm.1 _ hx;omega
     · exact e
def WG (c:List Int):Int:=c[0]?.getD 0
theorem HU {c:List Int} (h:c≠[]):WG c∈c:=by
 cases c with
 |nil=>exact Qc rfl h
 |cons a t=>exact Xs
theorem EA {c:List Int} (h:c≠[]):c.head? =some (WG c):=by
 cases c with
 |nil=>exact Qc rfl h
 |cons a t=>rfl
theorem ZaH:∀{l m:List (List Int)},l.Pairwise (fun c d=>WG c<WG d)→m.Pairwise (fun c d=>WG c<WG d)→(∀c,c∈l↔c∈m)→l=m
 |[],[],_,_,_=>rfl
 |[],b::m,_,_,h=>by have:=(h b).2 sM;simp at this
 |a::l,[],_,_,h=>by have:=(h a).1 sM;simp at this
 | a :: l,b::m,hl,hm,h=>by
   rw [XL] at hl hm;have hab:a=b:=by
    have h1:=(h a).1 sM;have h2:=(h b).2 sM;rcases Xk.1 h1 with e|e
    · exact e
    · rcases Xk.1 h2 with e2|e2
      · exact e2.symm
      · have:=hl.1 b e2;have:=hm.1 a e;omega
   subst hab;rw [ZaH hl.2 hm.2 fun x=>?_];constructor
   · intro hx;have:=(h x).1 (by simp [hx]);rcases Xk.1 this with e|e
     · subst e;have:=hl.1 _ hx;omega
     · exact e
   · intro hx;have:=(h x).2 (by simp [hx]);rcases Xk.1 this with e|e
     · subst e;have:=hm.1 _ hx;omega
     · exact e
theorem Comps.heads {l:List Int} {r:Int→Int→Bool} {cs:List (List Int)} (h:Comps l r cs):cs.Pairwise (fun c d=>WG c<WG d):=by
 refine List.Pairwise.imp_of_mem (fun {c d} hc hd hcd=>?_) h.ord
 exact hcd _ _ (EA (h.ne c hc)) (EA (h.ne d hd))
theorem Comps.closed {l:List Int} {r:Int→Int→Bool} {cs:List (List Int)} (h:Comps l r cs) {c:List Int} (hc:c∈cs) {x y:Int} (hx:x∈c) (hxy:Conn l r x y):y∈c:=
 hxy (fun z=>z∈c) (fun a b ha hb hr ha'=>h.clos c hc a ha' b hb hr) hx
theorem Comps.unique {l:List Int} {r r':Int→Int→Bool} {cs ds:List (List Int)} (h:Comps l r cs) (k:Comps l r' ds) (hr:∀x∈l,∀y∈l,(r x y=true∨r y x=true)↔(r' x y=true∨r' y x=true)):cs=ds:=by
 have hC:∀x y,Conn l r x y↔Conn l r' x y:=fun x y=>
  ⟨fun h P hP=>h P fun a b ha hb hab=>hP a b ha hb ((hr a ha b hb).1 hab),fun h P hP=>h P fun a b ha hb hab=>hP a b ha hb ((hr a ha b hb).2 hab)⟩
 have key:∀{l:List Int} {r r':Int→Int→Bool} {cs ds:List (List Int)},Comps l r cs→Comps l r' ds→(∀x y,Conn l r x y↔Conn l r' x y)→∀c∈cs,c∈ds:=fun {l r r' cs ds} h k hC c hc=>by
  have hm:=HU (h.ne c hc);have hl:=(h.mem _).1 (Vb.2 ⟨c,hc,hm⟩);obtain ⟨d,hd,hmd⟩:=Vb.1 ((k.mem _).2 hl);have:c=d:=ZgV (h.asc c hc) (k.asc d hd) fun x=>
   ⟨fun hx=>k.closed hd hmd ((hC _ _).1 (h.conn c hc _ hm x hx)),fun hx=>h.closed hc hm ((hC _ _).2 (k.conn d hd _ hmd x hx))⟩
  rw [this];exact hd
 exact ZaH h.heads k.heads fun c=>⟨key h k hC c,key k h (fun x y=>(hC x y).symm) c⟩
end Go.Cb
