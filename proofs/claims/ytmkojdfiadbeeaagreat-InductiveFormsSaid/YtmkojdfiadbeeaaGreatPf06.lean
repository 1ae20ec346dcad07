/-
  Walks of functions and plain laws of the chapter, as the claim needs them.
-/
import Derived.Test.YtmkojdfiadbeeaaGreatPf05
import Derived.Test.YtmkojdfiadbeeaaGreatPf03
import Derived.Test.YtmkojdfiadbeeaaGreatPf02
import Derived.Test.YtmkojdfiadbeeaaGreatMShelfB
import Derived.Test.YtmkojdfiadbeeaaGreatPf01
namespace Go.Proofs.YtmkojdfiadbeeaaGreat
open Go.RowKit Go.Cb Go.En Tryz
set_option linter.all false
set_option maxRecDepth 100000
theorem PP:FldT prog 42 0 0=true:=by kernel_rfl
theorem PQ:FldT prog 42 1 1=true:=by kernel_rfl
theorem Pa:MpT prog 78 9 3 .string (.int .i64 0):=⟨underlying78,underlying9, .inl rfl,by show ZeroT _ _ _;unfold ZeroT;kernel_rfl⟩
theorem ZdY:NoAgg prog 26=true:=by kernel_rfl
theorem ζs:NoAgg prog 3=true:=by kernel_rfl
theorem HZ:NoAgg prog 40=true:=by kernel_rfl
theorem ζt:NoAgg prog 9=true:=by kernel_rfl
theorem Sc:SlT prog 26 9 1=true:=by kernel_rfl
theorem Pb:SlT prog 40 26 1=true:=by kernel_rfl
def TN (i:Nat) (p:List ByteArray):List (ByteArray×Value):=p.map fun s=>(s,Value.int .i64 (i:Int))
def Ye:Nat→List (List ByteArray)→List (ByteArray×Value)
 |_,[]=>[]
 |i,p::ps=>TN i p++Ye (i+1) ps
theorem Rq:∀(ps:List (List ByteArray)) (i:Nat) (p:List ByteArray),Ye i (ps++[p])=Ye i ps++TN (i+ps.length) p
 |[],i,p=>by simp [Ye]
 | q::ps,i,p=>by
   rw [XX,Ye,Ye,Rq ps (i+1) p,XM];congr 3;simp;omega
theorem PR {es fs:List (ByteArray×Value)} {s:ByteArray}:Y6 (es++fs) s=match Y6 es s with|some v=>some v|none=>Y6 fs s:=by
 induction es with
 |nil=>rfl
 | cons x l ih=>
   simp only [XX,Y6];split
   · rfl
   · exact ih
theorem H3 (i:Nat) (p:List ByteArray) (s:ByteArray):Y6 (TN i p) s=if hasStr p s then some (.int .i64 (i:Int)) else none:=by
 induction p with
 |nil=>rfl
 | cons x p ih=>
   simp only [TN,Xk,Y6];by_cases h:s=x
   · subst h;(have:hasStr (s::p) s=true:=by unfold hasStr;simp;exact .inl (WL.2 rfl));simp [this]
   · have h0:Ka x s=false:=by
      cases h1:Ka x s
      · rfl
      · exact UC (WL.1 h1).symm h
     (have:hasStr (x::p) s=hasStr p s:=by unfold hasStr;simp [h0]);rw [UA h,this];exact ih
theorem Rs:∀(ps:List (List ByteArray)) (i:Nat) (s:ByteArray),Y6 (Ye i ps) s=(ps.findIdx? fun p=>hasStr p s).map fun (j:Nat)=>Value.int .i64 ((i+j:Nat):Int)
 |[],i,s=>rfl
 | p ::ps,i,s=>by
   rw [Ye,PR,H3,List.findIdx?_cons,Rs ps (i+1) s]
   cases hasStr p s
   · simp [Function.comp_def]
     cases ps.findIdx? fun p=>hasStr p s<;>simp;omega
   · simp
theorem SI (ps:List (List ByteArray)) (s:ByteArray):Y6 (Ye 0 ps) s=(Gx ps s).map fun n=>Value.int .i64 n:=by
 rw [Rs]
 unfold Gx
 rw [Option.map_map]
 congr 1
 funext j
 simp
theorem Dq {es:List (ByteArray×Value)} {s:ByteArray} {v:Value} (h:Y6 es s=none):WH es s v=es++[(s,v)]:=by
 induction es with
 |nil=>rfl
 | cons x l ih=>
   simp only [Y6] at h;split at h
   · cases h
   · rename_i hx;rw [WH,UA hx,ih h,XX]
theorem Zgm (ps:List (List ByteArray)) (p:List ByteArray) (s:ByteArray) (k:Nat):(Y6 (Ye 0 ps++TN k p) s).isSome=hasStr (ps.flatten++p) s:=by
 rw [PR,SI]
 have h1:=OP ps s
 have h2:hasStr (ps.flatten++p) s=(hasStr ps.flatten s||hasStr p s):=by unfold hasStr;rw [List.any_append]
 rw [h2,←h1,H3]
 cases Gx ps s<;>cases hasStr p s<;>rfl
def ZaY (c:Cut) (p:PV):Prop:=∃q,p= .tup [q,ZB (YS c)]∧(YS c=true→q= .omap (skv (Ye 0 c.parts)))∧(q= .val (.map none)∨∃es,q= .omap es)
theorem Sd {c:Cut} (h:Jq [] c.parts=false):YS c=false:=by unfold YS;rw [h];simp
theorem Se {c:Cut} (h:YS c=false):ZaY c (.tup [.val (.map none),ZB false]):=⟨_,by rw [h],fun h'=>(by rw [h] at h';cases h'), .inl rfl⟩
set_option maxHeartbeats 1000000 in
theorem ζu (c:Cut) (hs:∀p∈c.parts,∀s∈p,s.size≤140737488355328):AF prog 64 [EG c] (ZaY c):=by
 refine AF.of_body 75 func64 rfl ntmps64 (Xa rfl) ?_
 intro w0 M0 vs hl hv
 obtain ⟨v0,rfl⟩:=YG hl
 clear hl hv
 refine Zd ?_
 (refine Yi 1 2 fun h1=>?_<;>refine xL 2 Zb (xL 3 Zb ?_)<;>refine Zi ?_)
 (refine G7 11 fun h11 ho11=>?_<;>refine xL 4 Zb ?_<;>refine Zi ?_)
 (refine xL 12 (Zn 1 PQ) ?_<;>(refine yL 13 (Zr 1 HZ) fun v13 h=>?_;cases h)<;>refine xL 14 (ZF Pb) (xL 15 Za ?_)<;>refine Zc ?_)
 refine Y2 13 rfl fun hlen=>?_
 refine Zy (ι:={k:Nat//k≤c.parts.length∧Jq [] c.parts=Jq (c.parts.take k).flatten (c.parts.drop k)}) (fun k=>⟨[(1,padd (sbase h1) 0, .val (padd (sbase h1) 0)),(4,h11, .val h11),(13,v13,Gj c.parts),(14, .int .i64 c.parts.length,Zf c.parts.length),(15, .int .i64 k.1,Zf k.1)],[(1,h1, .own 42 2 1 [Zf c.kind,Gj c.parts]),(11,h11, .omap (skv (Ye 0 (c.parts.take k.1))))]⟩) (fun k=>c.parts.length-k.1) ⟨0,oM,rfl⟩ (fun a w H=>H.weaken ⟨rfl,rfl,rfl,rfl,rfl,trivial⟩ ⟨rfl,rfl,trivial⟩) ?_
 rintro ⟨k,hk,hpre⟩
 dsimp only
 refine Zd ?_
 (refine xL 16 ZI ?_<;>refine Zc ?_)
 refine ZZ rfl ?_ ?_
 · intro hb;have hlt:k<c.parts.length:=by have:=UD hb;omega
   obtain ⟨p,hx⟩:=Zm hlt;have e1:=Yq (f:=ZT) hx;have hpm:=hs p (Xb hx);have HD:Jq (c.parts.take k).flatten (c.parts.drop k)=((RE p&&LV (c.parts.take k).flatten p)&&Jq (c.parts.take (k+1)).flatten (c.parts.drop (k+1))):=by
    rw [Ws hx,Jq,Zc4 hx]
   refine Zd ?_;(refine xL 17 Za (xL 18 (Zv Pb) ?_)<;>(refine yL 19 (ZN ZdY) fun v19 h=>?_;cases h)<;>refine xL 5 Zb (xL 6 Zb ?_)<;>refine Zc ?_)
   refine Y2 6 rfl fun hlenp=>?_;(refine Zo ?_<;>refine xL 20 Za (xL 21 (ZF Sc) (xL 22 Za ?_))<;>refine Zc ?_)
   refine Zy (ι:={j:Nat//j≤p.length∧∀m s,m<j→p[m]? =some s→OS (c.parts.take k).flatten p m s}) (fun j=>⟨[(1,padd (sbase h1) 0, .val (padd (sbase h1) 0)),(4,h11, .val h11),(5, .int .i64 k,Zf k),(6,v19,ZT p),(20,v19,ZT p),(21, .int .i64 p.length,Zf p.length),(22, .int .i64 j.1,Zf j.1),(13,v13,Gj c.parts),(14, .int .i64 c.parts.length,Zf c.parts.length),(15, .int .i64 k,Zf k)],[(1,h1, .own 42 2 1 [Zf c.kind,Gj c.parts]),(11,h11, .omap (skv (Ye 0 (c.parts.take k)++TN k (p.take j.1))))]⟩) (fun j=>p.length-j.1) ⟨0,oM,fun m s hm=>oM⟩ (fun a w H=>H.weaken ⟨rfl,rfl,rfl,rfl,rfl,rfl,rfl,rfl,rfl,rfl,trivial⟩ ⟨rfl,by simp [TN];rfl,trivial⟩) ?_;rintro ⟨j,hj,hprei⟩;dsimp only;refine Zd ?_;(refine xL 23 ZI ?_<;>refine Zc ?_)
   refine ZZ rfl ?_ ?_
   · intro hb2;(have hltj:j<p.length:=by have:=UD hb2;omega);obtain ⟨s,hsj⟩:=Zm hltj;have e2:=Yq (f:=ZD) hsj;have hss:=hpm s (Xb hsj);have hy:0<j→∃y,p[j-1]? =some y∧(p.map ZD)[j-1]? =some (ZD y):=fun h0=>by
      obtain ⟨y,hy⟩:=Zm (show j-1<p.length by omega);exact ⟨y,hy,by rw [Xm,hy];rfl⟩
     have hmg:=Jr (Ye 0 (c.parts.take k)++TN k (p.take j)) s;have hsome:=Zgm (c.parts.take k) (p.take j) s k;refine Zd ?_;(refine xL 24 Za (xL 25 (Zv Sc) ?_)<;>(refine yL 26 (ZN ζt) fun v26 h=>?_;cases h)<;>refine xL 7 Zb (xL 8 Zb ?_)<;>refine Zi ?_)
     (refine xL 28 Za (xL 29 Za (xL 30 (Cy 11 Pa) (xL 27 Za (xL 31 Zp (xL 32 Zp (xL 9 Zb (xL 10 Zb ?_)))))))<;>refine Zi ?_)
     (refine xL 33 Za (xL 34 Za ?_)<;>(refine bL 34 (fun hb34=>?_) (fun hb34=>?_)<;>(first|refine kL 35 ?_|refine xL 35 Za ?_))<;>(first|refine kL 36 ?_|(refine Oz 36 rfl rfl (Xa rfl) (SZ rfl (call98) rfl (S7 s oM)) ?_;rintro p' rfl;refine ⟨rfl,?_⟩;intro v36 hv36;cases hv36))<;>(first|refine kL 37 ?_|refine xL 37 Yd ?_)<;>refine xL 38 Zt (xL 39 Za ?_)<;>(first|refine kL 40 ?_|(refine bL 39 (fun hb39=>?_) (fun hb39=>?_)<;>(first|refine kL 40 ?_|refine xL 40 Za ?_)))<;>(first|refine kL 41 ?_|refine xL 41 YV ?_)<;>(first|refine kL 42 ?_|refine xL 42 Za ?_)<;>(first|refine kL 43 ?_|(refine bLd 42 (fun hb42=>?_) (fun hb42=>?_)<;>(first|refine kL 43 ?_|refine xL 43 Za ?_)))<;>(first|refine kL 44 ?_|refine xL 44 Za ?_)<;>(first|refine kL 45 ?_|refine xL 45 KD ?_)<;>(first|refine kL 46 ?_|refine xL 46 (Ts Sc) ?_)<;>(first|refine kL 47 ?_|(refine (hy oM).elim fun y hy12=>?_;refine Oy 47 rfl rfl (Xa rfl) (RH (j-1) ζt rfl rfl oM hy12.2) ?_;intro v47 hv47;cases hv47))<;>(first|refine kL 48 ?_|refine xL 48 Za ?_)<;>(first|refine kL 49 ?_|refine xL 49 EH ?_)<;>(first|refine kL 50 ?_|refine xL 50 Zt ?_)<;>refine xL 51 Zt ?_<;>refine Zc ?_)
     ·
      have hF:YS c=false:=Sd (by
       rw [hpre,HD,OT hsj (fun h=>by have:=h.1;rw [←hsome,←hmg,hb34] at this;cases this)];rfl)
      refine ZZ rfl ?_ (fun h=>by cases h);intro _;refine Zd ?_;(refine xL 2 Zb (xL 3 Zb ?_)<;>refine Zc ?_)
      exact YO (results64) rfl rfl (Se hF)
     ·
      have hF:YS c=false:=Sd (by
       rw [hpre,HD,OT hsj (fun h=>by have:=h.2.1;rw [this] at hb39;cases hb39)];rfl)
      refine ZZ rfl ?_ (fun h=>by cases h);intro _;refine Zd ?_;(refine xL 2 Zb (xL 3 Zb ?_)<;>refine Zc ?_)
      exact YO (results64) rfl rfl (Se hF)
     · refine ZZ rfl ?_ ?_
       · intro hb3;have hF:YS c=false:=Sd (by
          rw [hpre,HD,OT hsj (fun h=>by
           have:=h.2.2 y oM hy12.1;unfold strLt at this;rw [this] at hb3;cases hb3)];rfl)
         refine Zd ?_;(refine xL 2 Zb (xL 3 Zb ?_)<;>refine Zc ?_)
         exact YO (results64) rfl rfl (Se hF)
       · intro hb3;have hok:OS (c.parts.take k).flatten p j s:=⟨by rw [←hsome,←hmg];exact hb34,by cases h:isName s<;>simp_all,fun y' _ hy'=>by
          rw [hy12.1] at hy';cases hy';unfold strLt
          cases h:Op.bytesLess y.toList s.toList
          · rw [h] at hb3;cases hb3
          · rfl⟩
         have hput:Lr (skv (Ye 0 (c.parts.take k)++TN k (p.take j))) (.string s) (.int .i64 (k:Int))=skv (Ye 0 (c.parts.take k)++TN k (p.take (j+1))):=by
          rw [Ty,Dq (by rw [←Jr];cases h:Wc (skv (Ye 0 (c.parts.take k)++TN k (p.take j))) (.string s) with|none=>rfl|some _=>rw [h] at hb34;cases hb34),XM,ZW hsj];congr 2;simp [TN]
         refine Zd ?_;(refine xL 52 Za (xL 53 Za (xL 54 Za ?_))<;>refine L5 11 Pa ?_<;>refine Zi ?_)
         (refine xL 55 ZH (xL 22 Za ?_)<;>refine Zc ?_)
         refine Zh ⟨j+1,oM,fun m s' hm hs'=>?_⟩ (by show p.length-(j+1)<p.length-j;omega) ⟨rfl,rfl,rfl,rfl,rfl,rfl,rfl,rfl,rfl,rfl,trivial⟩ ⟨rfl,by show some _=some _;rw [hput],trivial⟩;by_cases e:m=j
         · subst e;rw [hsj] at hs';cases hs';exact hok
         · exact hprei m s' oM hs'
     · refine ZZ rfl (fun h=>by cases h) ?_;intro _;have hok:OS (c.parts.take k).flatten p j s:=⟨by rw [←hsome,←hmg];exact hb34,by cases h:isName s<;>simp_all,fun y' h1=>oM⟩;have hput:Lr (skv (Ye 0 (c.parts.take k)++TN k (p.take j))) (.string s) (.int .i64 (k:Int))=skv (Ye 0 (c.parts.take k)++TN k (p.take (j+1))):=by
        rw [Ty,Dq (by rw [←Jr];cases h:Wc (skv (Ye 0 (c.parts.take k)++TN k (p.take j))) (.string s) with|none=>rfl|some _=>rw [h] at hb34;cases hb34),XM,ZW hsj];congr 2;simp [TN]
       refine Zd ?_;(refine xL 52 Za (xL 53 Za (xL 54 Za ?_))<;>refine L5 11 Pa ?_<;>refine Zi ?_)
       (refine xL 55 ZH (xL 22 Za ?_)<;>refine Zc ?_)
       refine Zh ⟨j+1,oM,fun m s' hm hs'=>?_⟩ (by show p.length-(j+1)<p.length-j;omega) ⟨rfl,rfl,rfl,rfl,rfl,rfl,rfl,rfl,rfl,rfl,trivial⟩ ⟨rfl,by show some _=some _;rw [hput],trivial⟩;by_cases e:m=j
       · subst e;rw [hsj] at hs';cases hs';exact hok
       · exact hprei m s' oM hs'
   · intro hb2;(have hge:p.length≤j:=by have:=UE hb2;omega);refine Zd ?_;(refine xL 56 Za (xL 57 (ZF Sc) (xL 58 ZU ?_))<;>refine Zc ?_)
     refine ZZ rfl ?_ ?_
     · intro hb3;have h0:p=[]:=Xw (by have:=UD hb3;omega);have hF:YS c=false:=Sd (by rw [hpre,HD,h0];rfl);refine Zd ?_;(refine xL 2 Zb (xL 3 Zb ?_)<;>refine Zc ?_)
       exact YO (results64) rfl rfl (Se hF)
     · intro hb3;(have h0:p≠[]:=fun h=>by rw [h] at hb3;cases hb3);have hok:=(CI p (c.parts.take k).flatten).2 ⟨h0,fun m s hs'=>hprei m s (by have:=Zj hs';omega) hs'⟩;have hent:Ye 0 (c.parts.take k)++TN k (p.take j)=Ye 0 (c.parts.take (k+1)):=by
        rw [ZW hx,Rq,Xy hge];congr 2;simp;omega
       refine Zd ?_;(refine xL 59 ZH (xL 15 Za ?_)<;>refine Zc ?_)
       exact Zh ⟨k+1,oM,by rw [hpre,HD,hok];rfl⟩ (by show c.parts.length-(k+1)<c.parts.length-k;omega) ⟨rfl,rfl,rfl,rfl,rfl,trivial⟩ ⟨rfl,by show some _=some _;rw [hent],trivial⟩
 · intro hb;have hge:c.parts.length≤k:=by have:=UE hb;omega
   have hgo:Jq [] c.parts=true:=by rw [hpre,XH hge];rfl
   have hent:Ye 0 (c.parts.take k)=Ye 0 c.parts:=by rw [Xy hge]
   have hret:∀t,t=YS c→ZaY c (.tup [.omap (skv (Ye 0 (c.parts.take k))),ZB t]):=fun t ht=>⟨.omap (skv (Ye 0 (c.parts.take k))),by rw [ht],fun _=>by rw [hent], .inr ⟨_,rfl⟩⟩;refine nav ?_;(refine ZM (fun i=>([]:List Nat).elem i) [1,11] kR ?_<;>refine xD 0 60 rfl Za ?_<;>refine xE 1 61 rfl (Zn 1 PQ) ?_<;>(refine yE 2 62 rfl (Zr 1 HZ) fun v62 h=>?_;cases h)<;>refine xE 3 63 rfl (ZF Pb) ?_<;>refine xE 4 64 rfl Kj ?_<;>refine xE 5 65 rfl Za ?_<;>(refine bDd 65 (fun hb65=>?_) (fun hb65=>?_)<;>(first|refine kD 6 66 rfl ?_|refine xD 6 66 rfl (Zn 1 PP) ?_))<;>(first|refine kD 7 67 rfl ?_|(refine yD 7 67 rfl (Zr 1 ζs) fun v67 h=>?_;cases h))<;>(first|refine kD 8 68 rfl ?_|refine xD 8 68 rfl Kj ?_)<;>refine xE 9 69 rfl Zt ?_<;>refine xE 10 70 rfl Za ?_<;>(first|refine kD 11 71 rfl ?_|(refine bDd 70 (fun hb70=>?_) (fun hb70=>?_)<;>(first|refine kD 11 71 rfl ?_|refine xD 11 71 rfl (Zn 1 PP) ?_)))<;>(first|refine kD 12 72 rfl ?_|(refine yD 12 72 rfl (Zr 1 ζs) fun v72 h=>?_;cases h))<;>(first|refine kD 13 73 rfl ?_|refine xD 13 73 rfl Tq ?_)<;>refine xD 14 74 rfl Zt ?_<;>refine xE 15 2 rfl Zb ?_<;>refine xE 16 3 rfl Zb ?_<;>refine Ym kR (nav ?_)<;>try dsimp only)
   · refine Zaj 11 (results64) rfl rfl rfl (hret _ ?_);unfold YS;rw [hgo];(have h1:decide (1≤c.kind)=true:=by simpa using hb70);(have h2:decide (2≤c.parts.length)=true:=by simp;omega);rw [h1,h2];simp
   · refine Zaj 11 (results64) rfl rfl rfl (hret _ ?_);(have h1:decide (1≤c.kind)=false:=by simpa using hb70);unfold YS;rw [h1];simp
   · refine Zaj 11 (results64) rfl rfl rfl (hret _ ?_);(have h2:decide (2≤c.parts.length)=false:=by simp;omega);unfold YS;rw [h2];simp
end Go.Proofs.YtmkojdfiadbeeaaGreat
namespace Go.Cb
open Go.En
set_option linter.all false
def Conn (l:List Int) (r:Int→Int→Bool) (x y:Int):Prop:=∀P:Int→Prop,(∀a b,a∈l→b∈l→(r a b=true∨r b a=true)→P a→P b)→P x→P y
theorem Conn.refl (l:List Int) (r:Int→Int→Bool) (x:Int):Conn l r x x:=fun _ _ h=>h
theorem Conn.trans {l:List Int} {r:Int→Int→Bool} {x y z:Int} (h:Conn l r x y) (k:Conn l r y z):Conn l r x z:=fun P hP hx=>k P hP (h P hP hx)
theorem Conn.step {l:List Int} {r:Int→Int→Bool} {x y:Int} (hx:x∈l) (hy:y∈l) (h:r x y=true∨r y x=true):Conn l r x y:=fun P hP hx'=>hP x y hx hy h hx'
theorem Conn.symm {l:List Int} {r:Int→Int→Bool} {x y:Int} (h:Conn l r x y):Conn l r y x:=
 h (fun z=>Conn l r z x) (fun a b ha hb hr hax=>(Conn.step hb ha hr.symm).trans hax) (Conn.refl l r x)
theorem JV {α:Type} [BEq α] [LawfulBEq α]:∀{l m:List α},l.Nodup→(∀x∈l,x∈m)→l.length≤m.length
 |[],m,_,_=>Xn _
 | x ::l,m,h,hs=>by
   rw [Vj] at h;have hx:=hs x sM;have h1:=JV (l:=l) (m:=m.erase x) h.2 fun y hy=>by
    have hne:y≠x:=fun e=>h.1 (e▸hy);exact (List.mem_erase_of_ne hne).2 (hs y (by simp [hy]))
   rw [List.length_erase_of_mem hx] at h1;have:=List.length_pos_of_mem hx;simp only [Xg];omega
structure Comps (l:List Int) (r:Int→Int→Bool) (cs:List (List Int)):Prop where
 mem:∀x,x∈cs.flatten↔x∈l
 nd:cs.flatten.Nodup
 ne:∀c∈cs,c≠[]
 asc:∀c∈cs,c.Pairwise (· < ·)
 conn:∀c∈cs,∀x∈c,∀y∈c,Conn l r x y
 clos:∀c∈cs,∀x∈c,∀y∈l,(r x y=true∨r y x=true)→y∈c
 ord:cs.Pairwise fun c d=>∀x y,c.head? =some x→d.head? =some y→x<y
structure Part (l:List Int) (r:Int→Int→Bool) (cs:List (List Int)) (k:Nat):Prop where
 sub:∀x∈cs.flatten,x∈l
 did:∀j x,j<k→l[j]? =some x→x∈cs.flatten
 nd:cs.flatten.Nodup
 ne:∀c∈cs,c≠[]
 asc:∀c∈cs,c.Pairwise (· < ·)
 conn:∀c∈cs,∀x∈c,∀y∈c,Conn l r x y
 clos:∀c∈cs,∀x∈c,∀y∈l,(r x y=true∨r y x=true)→y∈c
 ord:cs.Pairwise fun c d=>∀x y,c.head? =some x→d.head? =some y→x<y
 hd:∀c∈cs,∀x,c.head? =some x→∃j,j<k∧l[j]? =some x
theorem Part.start (l:List Int) (r:Int→Int→Bool):Part l r [] 0:=⟨sM,oM,sM,sM,sM,sM,sM,sM,sM⟩
theorem Part.comps {l:List Int} {r:Int→Int→Bool} {cs:List (List Int)} {k:Nat} (h:Part l r cs k) (hk:l.length≤k):Comps l r cs:=
 ⟨fun x=>⟨h.sub x,fun hx=>by
  obtain ⟨j,hj⟩:=XP hx;exact h.did j x (by have:=Zj hj;omega) hj⟩,h.nd,h.ne,h.asc,h.conn,h.clos,h.ord⟩
theorem Part.skip {l:List Int} {r:Int→Int→Bool} {cs:List (List Int)} {k:Nat} {x:Int} (h:Part l r cs k) (hx:l[k]? =some x) (hin:x∈cs.flatten):Part l r cs (k+1):=
 ⟨h.sub,fun j y hj hy=>by
  by_cases e:j=k
  · subst e;rw [hx] at hy;cases hy;exact hin
  · exact h.did j y oM hy,h.nd,h.ne,h.asc,h.conn,h.clos,h.ord,fun c hc x hx=>let ⟨j,hj,e⟩:=h.hd c hc x hx;⟨j,oM,e⟩⟩
structure Mk (l:List Int) (r:Int→Int→Bool) (cs:List (List Int)) (first:Int) (tk cl:List Int) (i q:Nat):Prop where
 tkm:∀z,z∈tk↔z∈cs.flatten∨z∈cl
 nd:(cs.flatten++cl).Nodup
 sub:∀z∈cl,z∈l
 con:∀z∈cl,Conn l r first z
 fst:first∈cl
 il:i≤cl.length
 did:∀j x,j<i→cl[j]? =some x→∀y∈l,(r x y=true∨r y x=true)→y∈tk
 now:∀x,cl[i]? =some x→∀p y,p<q→l[p]? =some y→(r x y=true∨r y x=true)→y∈tk
theorem Mk.start {l:List Int} {r:Int→Int→Bool} {cs:List (List Int)} {k:Nat} {x:Int} {tk:List Int} (h:Part l r cs k) (hx:l[k]? =some x) (ht:∀z,z∈tk↔z∈cs.flatten) (hn:x∉cs.flatten):Mk l r cs x (tk++[x]) [x] 0 0:=
 ⟨fun z=>by simp [ht],by
  rw [VF];exact ⟨h.nd,sM,fun a ha b hb=>by simp at hb;subst hb;exact fun e=>hn (e▸ha)⟩,fun z hz=>by simp at hz;subst hz;exact Xb hx,fun z hz=>by simp at hz;subst hz;exact Conn.refl _ _ _,sM,sM,oM,oM⟩
theorem Mk.len {l:List Int} {r:Int→Int→Bool} {cs:List (List Int)} {first:Int} {tk cl:List Int} {i q:Nat} (h:Mk l r cs first tk cl i q):cl.length≤l.length:=JV (VF.1 h.nd).2.1 h.sub
theorem Mk.pass {l:List Int} {r:Int→Int→Bool} {cs:List (List Int)} {first:Int} {tk cl:List Int} {i q:Nat} {x y:Int} (h:Mk l r cs first tk cl i q) (hx:cl[i]? =some x) (hy:l[q]? =some y) (hn:y∈tk∨(r x y=false∧r y x=false)):Mk l r cs first tk cl i (q+1):=
 ⟨h.tkm,h.nd,h.sub,h.con,h.fst,h.il,h.did,fun x' hx' p z hp hz hr=>by
  rw [hx] at hx';cases hx';by_cases e:p=q
  · subst e;rw [hy] at hz;cases hz;rcases hn with hn|⟨h1,h2⟩
    · exact hn
    · rw [h1,h2] at hr;simp at hr
  · exact h.now x hx p z oM hz hr⟩
theorem Mk.take {l:List Int} {r:Int→Int→Bool} {cs:List (List Int)} {first:Int} {tk cl:List Int} {i q:Nat} {x y:Int} (h:Mk l r cs first tk cl i q) (hx:cl[i]? =some x) (hy:l[q]? =some y) (hn:y∉tk) (hr:r x y=true∨r y x=true):Mk l r cs first (tk++[y]) (cl++[y]) i (q+1):=by
 have hyl:=Xb hy
 have hxc:=Xb hx
 have hn':y∉cs.flatten∧y∉cl:=by
  have:=fun hh=>hn ((h.tkm y).2 hh);exact ⟨fun hh=>this (.inl hh),fun hh=>this (.inr hh)⟩
 refine ⟨fun z=>?_,?_,fun z hz=>?_,fun z hz=>?_,by simp [h.fst],by have:=h.il;simp;omega,fun j u hj hu v hv hrr=>?_,fun u hu p v hp hv hrr=>?_⟩
 · simp only [Xz,XB,h.tkm z];exact or_assoc
 · rw [←XM,VF];refine ⟨h.nd,sM,fun a ha b hb=>?_⟩;simp at hb;subst hb;intro e;rw [Xz] at ha;rcases ha with ha|ha
   · exact hn'.1 (e▸ha)
   · exact hn'.2 (e▸ha)
 · simp only [Xz,XB] at hz;rcases hz with hz|rfl
   · exact h.sub z hz
   · exact hyl
 · simp only [Xz,XB] at hz;rcases hz with hz|rfl
   · exact h.con z hz
   · exact (h.con x hxc).trans (Conn.step (h.sub x hxc) hyl hr)
 · have hl:j<cl.length:=by have:=h.il;omega
   rw [X5 hl] at hu;rw [Xz];exact .inl (h.did j u hj hu v hv hrr)
 · have hl:=Zj hx;rw [X5 hl,hx] at hu;cases hu;rw [Xz];by_cases e:p=q
   · subst e;rw [hy] at hv;cases hv;simp
   · exact .inl (h.now x hx p v oM hv hrr)
theorem Mk.next {l:List Int} {r:Int→Int→Bool} {cs:List (List Int)} {first:Int} {tk cl:List Int} {i q:Nat} (h:Mk l r cs first tk cl i q) (hq:l.length≤q) (hi:i<cl.length):Mk l r cs first tk cl (i+1) 0:=
 ⟨h.tkm,h.nd,h.sub,h.con,h.fst,hi,fun j x hj hx y hy hr=>by
  by_cases e:j=i
  · subst e;obtain ⟨p,hp⟩:=XP hy;exact h.now x hx p y (by have:=Zj hp;omega) hp hr
  · exact h.did j x oM hx y hy hr,oM⟩
theorem WZ {cl:List Int} {z:Int}:z∈cl.mergeSort (fun x y=>decide (x≤y))↔z∈cl:=(Ur cl _).mem_iff
theorem ζv {cl:List Int} (h:cl.Nodup):(cl.mergeSort fun x y=>decide (x≤y)).Pairwise (· < ·):=by
 have h1:=List.pairwise_mergeSort (le:=fun x y:Int=>decide (x≤y)) (fun a b c h1 h2=>by simp at*;omega) (fun a b=>by simp;omega) cl
 have h2:(cl.mergeSort fun x y=>decide (x≤y)).Nodup:=(Ur cl _).nodup_iff.2 h
 exact (h1.and h2).imp fun {a b} ⟨h3,h4⟩=>by simp at h3;have:a≠b:=h4;omega
theorem Mk.done {l:List Int} {r:Int→Int→Bool} {cs:List (List Int)} {first:Int} {tk cl:List Int} {i k:Nat} (h:Mk l r cs first tk cl i 0) (hP:Part l r cs k) (hl:l.Pairwise (· < ·)) (hk:l[k]? =some first) (hi:cl.length≤i):Part l r (cs++[cl.mergeSort fun x y=>decide (x≤y)]) (k+1):=by
 have hnd:=VF.1 h.nd
 have hflat:(cs++[cl.mergeSort fun x y=>decide (x≤y)]).flatten=cs.flatten++cl.mergeSort (fun x y=>decide (x≤y)):=sM
 have hclos:∀x∈cl,∀y∈l,(r x y=true∨r y x=true)→y∈cl:=fun x hx y hy hr=>by
  obtain ⟨j,hj⟩:=XP hx;have:=h.did j x (by have:=Zj hj;omega) hj y hy hr;rcases (h.tkm y).1 this with h1|h1
  · obtain ⟨c,hc,hyc⟩:=Vm.1 h1;have hxc:=hP.clos c hc y hyc x (h.sub x hx) hr.symm;exact UC rfl (hnd.2.2 x (Vm.2 ⟨c,hc,hxc⟩) x hx)
  · exact h1
 have hleast:∀z∈cl,first≤z:=fun z hz=>by
  obtain ⟨j,hj⟩:=XP (h.sub z hz);rcases Vz j k with h1|h1|h1
  · have:=hP.did j z h1 hj;exact UC rfl (hnd.2.2 z this z hz)
  · subst h1;rw [hk] at hj;cases hj;omega
  · have:=XT.1 hl k j (Zj hk) (Zj hj) h1;have e1:=(Xl.1 hk).2;have e2:=(Xl.1 hj).2;rw [e1,e2] at this;omega
 have hasc:=ζv hnd.2.1
 have hhead:∀x,(cl.mergeSort fun x y=>decide (x≤y)).head? =some x→x=first:=fun x hx=>by
  have hm:x∈cl:=WZ.1 (List.mem_of_mem_head? hx);have hf:first∈cl.mergeSort fun x y=>decide (x≤y):=WZ.2 h.fst
  have:=hleast x hm
  cases hs:cl.mergeSort (fun x y=>decide (x≤y)) with
  |nil=>rw [hs] at hx;cases hx
  | cons a t=>
    rw [hs] at hx hf hasc;simp at hx;subst hx;rw [XE] at hasc;rcases Xi.1 hf with e|e
    · exact e.symm
    · have:=hasc.1 first e;omega
 refine ⟨fun x hx=>?_,fun j x hj hx=>?_,?_,fun c hc=>?_,fun c hc=>?_,fun c hc x hx y hy=>?_,fun c hc x hx y hy hr=>?_,?_,fun c hc x hx=>?_⟩
 · rw [hflat,Xz,WZ] at hx;rcases hx with hx|hx
   · exact hP.sub x hx
   · exact h.sub x hx
 · rw [hflat,Xz,WZ];by_cases e:j=k
   · subst e;rw [hk] at hx;cases hx;exact .inr h.fst
   · exact .inl (hP.did j x oM hx)
 · rw [hflat,VF];exact ⟨hP.nd,(Ur cl _).nodup_iff.2 hnd.2.1,fun a ha b hb=>hnd.2.2 a ha b (WZ.1 hb)⟩
 · rcases Xz.1 hc with hc|hc
   · exact hP.ne c hc
   · simp at hc;subst hc;intro e;have:=(WZ (cl:=cl)).2 h.fst;rw [e] at this;simp at this
 · rcases Xz.1 hc with hc|hc
   · exact hP.asc c hc
   · simp at hc;subst hc;exact hasc
 · rcases Xz.1 hc with hc|hc
   · exact hP.conn c hc x hx y hy
   · simp at hc;subst hc;exact (h.con x (WZ.1 hx)).symm.trans (h.con y (WZ.1 hy))
 · rcases Xz.1 hc with hc|hc
   · exact hP.clos c hc x hx y hy hr
   · simp at hc;subst hc;exact WZ.2 (hclos x (WZ.1 hx) y hy hr)
 · rw [List.pairwise_append];refine ⟨hP.ord,sM,fun c hc d hd x y hx hy=>?_⟩;simp at hd;subst hd;obtain ⟨j,hj,e⟩:=hP.hd c hc x hx;rw [hhead y hy];have:=XT.1 hl j k (Zj e) (Zj hk) hj;rw [(Xl.1 e).2,(Xl.1 hk).2] at this;exact this
 · rcases Xz.1 hc with hc|hc
   · obtain ⟨j,hj,e⟩:=hP.hd c hc x hx;exact ⟨j,oM,e⟩
   · simp at hc;subst hc;rw [hhead x hx];exact ⟨k,oM,hk⟩
end Go.Cb
namespace Go.Proofs.YtmkojdfiadbeeaaGreat
open Go.RowKit Go.Cb Go.En Tryz
set_option linter.all false
set_option maxRecDepth 100000
theorem YB:AggT prog 42 2=true:=by kernel_rfl
theorem H4:ElT prog 40 26 1 24 (.slice none 0 0):=⟨underlying40,by kernel_rfl,rfl,dC⟩
theorem Kw:ElT prog 88 90 1 24 (.slice none 0 0):=⟨underlying88,by kernel_rfl,rfl,dC⟩
theorem PS:FldT prog 42 1 1=true:=by kernel_rfl
theorem Tg:MpT prog 141 3 4 (.int .i64) (.bool false):=⟨underlying141,underlying3, .inr ⟨_,rfl⟩,by show ZeroT _ _ _;unfold ZeroT;kernel_rfl⟩
theorem H5:NoAgg prog 40=true:=by kernel_rfl
theorem YI:NoAgg prog 84=true:=by kernel_rfl
theorem Sf:K6 prog 42=some ((.agg #[(.int .i64 0),(.slice none 0 0)]),([0,1]:List Nat).map fun o=>(o,1)):=by kernel_rfl
theorem ZdZ:(prog.info? 40).map (·.size)=some 1:=by kernel_rfl
theorem Pd:(prog.info? 84).map (·.size)=some 1:=by kernel_rfl
theorem Ki:ZeroT prog 42 (.agg #[(.int .i64 0),(.slice none 0 0)]):=by unfold ZeroT;kernel_rfl
theorem Pe:ZeroT prog 84 (.pointer none):=by unfold ZeroT;kernel_rfl
def upTo (n:Nat):List Int:=vec n fun i=>(i:Int)
theorem E5 (l:List ByteArray) (rest:List PV) (hl:l.length≤1000000):AF prog 49 [.sptr 0 (ZT l::rest)] (· =pInts (upTo l.length)):=by
 refine AF.of_body 19 func49 rfl ntmps49 (Xa rfl) ?_
 intro w0 M0 vs hl hv
 obtain ⟨v0,rfl⟩:=YG hl
 clear hl hv
 refine Zd ?_
 (refine xL 2 Zb ?_<;>refine Zi ?_)
 (refine xL 3 Zb ?_<;>refine Zi ?_)
 (refine xL 5 Za (xL 6 Y0 (xL 7 (YN WY) ?_))<;>(refine yL 8 (ZN ZX) fun v8 h=>?_;cases h)<;>refine xL 9 (ZF Zx) (xL 10 Za ?_)<;>refine Zc ?_)
 refine ZE (W3 200 3 1 rfl) fun _=>?_
 refine Zy (ι:={x:Nat×Value//x.1≤l.length}) (fun k=>⟨[(9,_,_),(3,k.1.2, .val k.1.2),(10, .int .i64 k.1.1,Zf k.1.1)],[(200,k.1.2, .own 3 1 k.1.1 (vec k.1.1 fun i=>Zf (i:Nat)))]⟩) (fun k=>l.length-k.1.1) ⟨(0, .slice none 0 0),Xn _⟩ (fun a w H=>H.weaken ⟨rfl,rfl,rfl,trivial⟩ ⟨rfl,trivial⟩) ?_
 rintro ⟨⟨k,h33⟩,hk⟩
 dsimp only
 dsimp only at hk
 refine Zd ?_
 (refine xL 11 ZI ?_<;>refine Zc ?_)
 refine cX ?_ ?_<;>intro hb11
 · first|exact bN hb11|(
 have e1:=Ko k (fun i=>Zf (i:Nat));refine Zd ?_;(refine xL 12 Za (xL 4 Zb ?_)<;>refine Zi ?_)
 (refine xL 13 Za (xL 14 Za ?_)<;>refine W4 (kk:=1) 15 WF fun h15 ho15=>?_<;>refine Kd 200 15 16 WF fun h16 ho16=>?_<;>refine xL 3 Zb ?_<;>refine Zi ?_)
 (refine xL 17 ZH (xL 10 Za ?_)<;>refine Zc ?_)
 refine Yh (Z5 (l:=16) 200 rfl rfl) fun _=>?_;rw [show vec k (fun i=>Zf (i:Nat))++[Zf (k:Int)]=vec (k+1) fun i=>Zf (i:Nat) by rw [Zgh]];refine Zh (
  ⟨(k+1,h16),by show k+1≤l.length;omega⟩
  ) (by show l.length-(k+1)<l.length-k;omega) ⟨rfl,rfl,rfl,trivial⟩ ⟨rfl,trivial⟩)
 · first|exact bN hb11|(
 refine Zd ?_;(refine xL 18 Za (xL 2 Zb ?_)<;>refine Zc ?_)
 refine YP (En.freeze (l:=200) (t:=2) rfl rfl) fun _=>?_;refine Zl (results49) rfl ?_;rw [show k=l.length by omega,share,Z7,Ot];unfold pInts upTo;rw [Ko,Ot];rfl)
def tkv (tk:List Int):List (Value×Value):=ikv (tk.map fun x=>(x,Value.bool true))
theorem Zie (tk:List Int) (x:Int):Y6 (tk.map fun x=>(x,Value.bool true)) x=if x∈tk then some (.bool true) else none:=by
 induction tk with
 |nil=>rfl
 | cons y l ih=>
   rw [Xk,Y6];by_cases h:x=y
   · rw [UB h,UB (by simp [h])]
   · rw [UA h,ih];by_cases h2:x∈l
     · rw [UB h2,UB (by simp [h2])]
     · rw [UA h2,UA (by simp [h,h2])]
theorem Zif {tk:List Int} {x:Int} (h:x∉tk):WH (tk.map fun x=>(x,Value.bool true)) x (.bool true)=(tk++[x]).map fun x=>(x,Value.bool true):=by
 induction tk with
 |nil=>rfl
 | cons y l ih=>
   rw [Xk,WH,UA (fun e=>h (by simp [show x=y from e])),ih (fun hh=>h (by simp [hh]))];rfl
theorem Zcp (tk:List Int) (x:Int):(Wc (tkv tk) (.int .i64 x)).getD (.bool false)= .bool (decide (x∈tk)):=by
 unfold tkv
 rw [Zfg,Zie]
 by_cases h:x∈tk
 · rw [UB h,Uy h];rfl
 · rw [UA h,Uz h];rfl
theorem Zcq {tk:List Int} {x:Int} (h:x∉tk):Lr (tkv tk) (.int .i64 x) (.bool true)=tkv (tk++[x]):=by
 unfold tkv
 rw [Zfh,Zif h]
theorem JW (e n:Nat) (l:List Int) (hn:n=l.length):share (.own e 1 n (l.map Zf))=pInts l:=by
 subst hn
 rw [share,Z7,Xt];rfl
theorem Rt {α:Type} {l:List α} {x:α} {k:Nat} (h:k=l.length):(l++[x])[k]? =some x:=by subst h;simp
theorem Sg {α:Type} {l:List α} {x y:α} {k:Nat} (h:k=l.length):(l++[x]).set k y=l++[y]:=by subst h;simp
theorem Pf:Zi3 prog 60:=fun blk cap zs w hH hb hn=>Tryz.slices_Sort_int blk 0 cap zs w hH hb hn
set_option maxHeartbeats 2000000 in
theorem G0 (f : Nat) (caps:List PV) (r:Int→Int→Bool) (l:List Int) (hasc:l.Pairwise (· < ·)) (hl:l.length≤100000) (hcl:∀args w,(callFunc f args).run prog w= .ok (.enter f args) w) (hf:∀x∈l,∀y∈l,AF prog f ([Zf x,Zf y]++caps) (· =ZB (r x y))):AF prog 48 [pInts l, .fn f caps] (fun p=>∃cs,Comps l r cs∧p= .own 90 1 cs.length (cs.map pInts)):=by
 refine AF.of_body 76 func48 rfl ntmps48 (Xa rfl) ?_
 intro w0 M0 vs hl hv
 obtain ⟨v0,v1,rfl⟩:=W7 hl
 clear hl hv
 refine Zd ?_
 (refine xL 4 Zb ?_<;>refine Zi ?_)
 (refine xL 5 Zb ?_<;>refine Zi ?_)
 (refine G7 13 fun h13 ho13=>?_<;>refine xL 6 Zb ?_<;>refine Zi ?_)
 (refine xL 14 Za (xL 15 (ZF Yb) (xL 16 Za ?_))<;>refine Zc ?_)
 refine ZE (W3 200 90 1 rfl) fun _=>?_
 refine Zy (ι:={x:Nat×Value×List (List Int)×List Int//x.1≤l.length∧Part l r x.2.2.1 x.1∧∀z,z∈x.2.2.2↔z∈x.2.2.1.flatten}) (fun k=>⟨[(0,_,_),(1,_,_),(6,_,_),(14,_,_),(15,_,_),(5,k.1.2.1, .val k.1.2.1),(16, .int .i64 k.1.1,Zf k.1.1)],[(13,h13, .omap (tkv k.1.2.2.2)),(200,k.1.2.1, .own 90 1 k.1.2.2.1.length (k.1.2.2.1.map pInts))]⟩) (fun k=>l.length-k.1.1) ⟨(0, .slice none 0 0,[],[]),Xn _,Part.start l r,fun z=>sM⟩ (fun a w H=>H.weaken ⟨rfl,rfl,rfl,rfl,rfl,rfl,rfl,trivial⟩ ⟨rfl,rfl,trivial⟩) ?_
 rintro ⟨⟨k,h55,cs,tk⟩,hk,hpt,htk⟩
 dsimp only
 dsimp only at hk hpt htk
 refine Zd ?_
 (refine xL 17 ZI ?_<;>refine Zc ?_)
 refine cX ?_ ?_<;>intro hb17
 · first | exact bN hb17 |(
 obtain ⟨xf,hx⟩:=Zm (show k<l.length by omega);have e1:=Yq (f:=Zf) hx;have e2:=Zcp tk xf;have hxl:=Xb hx;have hcsl:cs.length≤l.length:=by
  refine XG ?_ (JV hpt.nd hpt.sub);have:∀m:List (List Int),(∀c∈m,c≠[])→m.length≤m.flatten.length:=fun m=>by
   induction m with
   |nil=>intro _;simp
   | cons c m ih=>
     intro h;have h1:=ih fun d hd=>h d (by simp [hd]);have h2:=Vc.2 (h c sM);rw [XR,Xf,Xg];omega
  exact this cs hpt.ne
 refine Zd ?_;(refine xL 18 (Zv Yb) ?_<;>(refine yL 19 (ZN Ya) fun v19 h=>?_;cases h)<;>refine xL 8 Zb ?_<;>refine Zi ?_)
 (refine xL 20 Za (xL 21 Za (xL 22 (TA 13 Tg) ?_))<;>refine Zc ?_)
 refine cX ?_ ?_<;>intro hb22
 · first | exact bN hb22|(
 refine Zd ?_;(refine xL 74 ZH (xL 16 Za ?_)<;>refine Zc ?_)
 try refine Yh (KA (l:=73) (l':=201) (j:=cs.length) rfl (Rt (Xd _).symm) rfl rfl) fun _=>?_
 try rw [Sg (Xd _).symm,JW _ _ _ (VT _).symm]
 try rw [show cs.map pInts++[pInts (cl.mergeSort fun x y=>decide (x≤y))]=(cs++[cl.mergeSort fun x y=>decide (x≤y)]).map pInts by simp,show cs.length+1=(cs++[cl.mergeSort fun x y=>decide (x≤y)]).length by simp]
 try refine Yh (Z5 (l:=73) 200 rfl rfl) fun _=>?_
 first
  | (exact Zh (
      ⟨(k+1,h73,cs++[cl.mergeSort fun x y=>decide (x≤y)],tk1),by show k+1≤l.length;omega,hmk.done hpt hasc hx oM,fun z=>by
        show z∈tk1↔z∈(cs++[_]).flatten;rw [hmk.tkm z];simp [WZ]⟩
      ) (by show l.length-(k+1)<l.length-k;omega) ⟨rfl,rfl,rfl,rfl,rfl,rfl,rfl,trivial⟩ ⟨rfl,rfl,trivial⟩)
  | (exact Zh (
      ⟨(k+1,h55,cs,tk),by show k+1≤l.length;omega,hpt.skip hx ((htk xf).1 hb22),htk⟩
      ) (by show l.length-(k+1)<l.length-k;omega) ⟨rfl,rfl,rfl,rfl,rfl,rfl,rfl,trivial⟩ ⟨rfl,rfl,trivial⟩))
 · first | exact bN hb22|(
 have hxn:xf∉cs.flatten:=fun h=>hb22 ((htk xf).2 h);have hxt:xf∉tk:=hb22;refine Zd ?_;(refine xL 23 Za (xL 24 Za ?_)<;>refine L5 13 Tg ?_<;>refine Zc ?_)
 rw [Zcq hxt];(refine Zo ?_<;>refine xL 25 Za ?_<;>refine W4 (kk:=1) 26 WF fun h26 ho26=>?_<;>refine xL 9 Zb ?_<;>refine Zi ?_)
 (refine xL 10 Zb ?_<;>refine Zc ?_)
 refine ZE (Z5 (l:=26) 201 rfl rfl) fun _=>?_;refine Zy (ι:={x:Nat×Value×List Int×List Int//x.2.1.oneCell'=true∧Mk l r cs xf x.2.2.1 x.2.2.2 x.1 0}) (fun k=>⟨[(0,_,_),(1,_,_),(5,_,_),(6,_,_),(14,_,_),(15,_,_),(16,_,_),(9,k.1.2.1, .val k.1.2.1),(10, .int .i64 k.1.1,Zf k.1.1)],[(200,_,_),(13,h13, .omap (tkv k.1.2.2.1)),(201,k.1.2.1, .own 3 1 k.1.2.2.2.length (k.1.2.2.2.map Zf))]⟩) (fun k=>l.length-k.1.1) ⟨(0,h26,tk++[xf],[xf]),ho26,Mk.start hpt hx htk hxn⟩ (fun a w H=>H.weaken ⟨rfl,rfl,rfl,rfl,rfl,rfl,rfl,rfl,rfl,trivial⟩ ⟨rfl,rfl,rfl,trivial⟩) ?_;rintro ⟨⟨i,h99,tk1,cl⟩,ho99,hmk⟩;dsimp only;dsimp only at ho99 hmk;have hcll:=hmk.len;have e1l:(cl.map Zf).length=cl.length:=Xd _;refine Zd ?_;(refine xL 27 Za (xL 28 Za (xL 29 (Y7 201 Yb) (xL 30 ZI ?_)))<;>refine Zc ?_)
 refine cX ?_ ?_<;>intro hb30
 · first | exact bN hb30|(
 have hil:i<cl.length:=oM;obtain ⟨u,hu⟩:=Zm hil;refine Zd ?_;(refine xL 33 Za (xL 34 (ZF Yb) (xL 35 Za ?_))<;>refine Zc ?_)
 refine Zy (ι:={x:Nat×Value×List Int×List Int//x.1≤l.length∧x.2.1.oneCell'=true∧x.2.2.2[i]? =some u∧Mk l r cs xf x.2.2.1 x.2.2.2 i x.1}) (fun k=>⟨[(0,_,_),(1,_,_),(5,_,_),(6,_,_),(10,_,_),(14,_,_),(15,_,_),(16,_,_),(33,_,_),(34,_,_),(9,k.1.2.1, .val k.1.2.1),(35, .int .i64 k.1.1,Zf k.1.1)],[(200,_,_),(13,h13, .omap (tkv k.1.2.2.1)),(201,k.1.2.1, .own 3 1 k.1.2.2.2.length (k.1.2.2.2.map Zf))]⟩) (fun k=>l.length-k.1.1) ⟨(0,h99,tk1,cl),Xn _,ho99,hu,hmk⟩ (fun a w H=>H.weaken ⟨rfl,rfl,rfl,rfl,rfl,rfl,rfl,rfl,rfl,rfl,rfl,rfl,trivial⟩ ⟨rfl,rfl,rfl,trivial⟩) ?_;rintro ⟨⟨q,h98,tk2,cl2⟩,hq,ho98,hu2,hmk2⟩;dsimp only;dsimp only at hq ho98 hu2 hmk2;have hcll2:=hmk2.len;have e1l2:(cl2.map Zf).length=cl2.length:=Xd _;refine Zd ?_;(refine xL 36 ZI ?_<;>refine Zc ?_)
 refine cX ?_ ?_<;>intro hb36
 · first | exact bN hb36|(
 obtain ⟨y,hy⟩:=Zm (show q<l.length by omega);have e3:=Yq (f:=Zf) hy;have e4:=Zcp tk2 y;have e5:=Yq (f:=Zf) hu2;have hyl:=Xb hy;have hul:=hmk2.sub u (Xb hu2);have hilt:=Zj hu2;refine Zd ?_;(refine xL 37 (Zv Yb) ?_<;>(refine yL 38 (ZN Ya) fun v38 h=>?_;cases h)<;>refine xL 12 Zb ?_<;>refine Zi ?_)
 (refine xL 39 Za (xL 40 Za (xL 41 (TA 13 Tg) (xL 42 Yd (xL 43 Za ?_))))<;>(refine bL 43 (fun hb43=>?_) (fun hb43=>?_)<;>(first|refine kL 44 ?_|refine xL 44 Za ?_))<;>(first|refine kL 45 ?_|refine xL 45 Za ?_)<;>(first|refine kL 46 ?_|refine xL 46 Za ?_)<;>(first|refine kL 47 ?_|refine xL 47 (Zq 201 Yb) ?_)<;>(first|refine kL 48 ?_|(refine yL 48 (Zr 201 Ya) fun v48 h=>?_;cases h))<;>(first|refine kL 49 ?_|refine xL 49 Za ?_)<;>(first|refine kL 50 ?_|(refine cS 50 (J7 (f:=f) (ps:=caps) rfl ⟨_,rfl⟩ hcl rfl (hf u hul y hyl)) fun v50 h=>?_;cases h))<;>(first|refine kL 51 ?_|refine xL 51 Za ?_)<;>(first|refine kL 52 ?_|(refine bL 51 (fun hb51=>?_) (fun hb51=>?_)<;>(first|refine kL 52 ?_|refine xL 52 Za ?_)))<;>(first|refine kL 53 ?_|refine xL 53 Za ?_)<;>(first|refine kL 54 ?_|refine xL 54 Za ?_)<;>(first|refine kL 55 ?_|refine xL 55 Za ?_)<;>(first|refine kL 56 ?_|refine xL 56 (Zq 201 Yb) ?_)<;>(first|refine kL 57 ?_|(refine yL 57 (Zr 201 Ya) fun v57 h=>?_;cases h))<;>(first|refine kL 58 ?_|(refine cS 58 (J7 (f:=f) (ps:=caps) rfl ⟨_,rfl⟩ hcl rfl (hf y hyl u hul)) fun v58 h=>?_;cases h))<;>(first|refine kL 59 ?_|refine xL 59 Zt ?_)<;>refine xL 60 Zt ?_<;>refine Zc ?_)<;>(
 refine cX ?_ ?_<;>intro hb60
 · first | exact bN hb60|(
 (have hyt:y∉tk2:=by simpa using hb43);have hry:r u y=true∨r y u=true:=by first|exact .inl hb51|exact .inr hb60
 refine Zd ?_;(refine xL 61 Za (xL 62 Za ?_)<;>refine L5 13 Tg ?_<;>refine Zc ?_)
 rw [Zcq hyt];(refine Zo ?_<;>refine xL 63 Za (xL 64 Za ?_)<;>refine W4 (kk:=1) 65 WF fun h65 ho65=>?_<;>refine Kd 201 65 66 WF fun h66 ho66=>?_<;>refine xL 9 Zb ?_<;>refine Zi ?_)
 (refine xL 67 ZH (xL 35 Za ?_)<;>refine Zc ?_)
 try refine Yh (Z5 (l:=66) 201 rfl rfl) fun _=>?_
 try rw [show cl2.map Zf++[Zf y]=(cl2++[y]).map Zf by simp,show cl2.length+1=(cl2++[y]).length by simp]
 first
  | (exact Zh (
      ⟨(q+1,h66,tk2++[y],cl2++[y]),by show q+1≤l.length;omega,ho66,by show (cl2++[y])[i]? =some u;rw [X5 hilt];exact hu2,hmk2.take hu2 hy hyt hry⟩
      ) (by show l.length-(q+1)<l.length-q;omega) ⟨rfl,rfl,rfl,rfl,rfl,rfl,rfl,rfl,rfl,rfl,rfl,rfl,trivial⟩ ⟨rfl,rfl,rfl,trivial⟩)
  | (exact Zh (
      ⟨(q +1,h98,tk2,cl2),by show q+1≤l.length;omega,ho98,hu2,hmk2.pass hu2 hy (by
        first
         |exact .inr ⟨hb51,hb60⟩
         |exact .inl (by simpa using hb43))⟩
      ) (by show l.length-(q+1)<l.length-q;omega) ⟨rfl,rfl,rfl,rfl,rfl,rfl,rfl,rfl,rfl,rfl,rfl,rfl,trivial⟩ ⟨rfl,rfl,rfl,trivial⟩))
 · first | exact bN hb60|(
 refine Zd ?_;(refine xL 67 ZH (xL 35 Za ?_)<;>refine Zc ?_)
 try refine Yh (Z5 (l:=66) 201 rfl rfl) fun _=>?_
 try rw [show cl2.map Zf++[Zf y]=(cl2++[y]).map Zf by simp,show cl2.length+1=(cl2++[y]).length by simp]
 first
  | (exact Zh (
      ⟨(q+1,h66,tk2++[y],cl2++[y]),by show q+1≤l.length;omega,ho66,by show (cl2++[y])[i]? =some u;rw [X5 hilt];exact hu2,hmk2.take hu2 hy hyt hry⟩
      ) (by show l.length-(q+1)<l.length-q;omega) ⟨rfl,rfl,rfl,rfl,rfl,rfl,rfl,rfl,rfl,rfl,rfl,rfl,trivial⟩ ⟨rfl,rfl,rfl,trivial⟩)
  | (exact Zh (
      ⟨(q +1,h98,tk2,cl2),by show q+1≤l.length;omega,ho98,hu2,hmk2.pass hu2 hy (by
        first
         |exact .inr ⟨hb51,hb60⟩
         |exact .inl (by simpa using hb43))⟩
      ) (by show l.length-(q+1)<l.length-q;omega) ⟨rfl,rfl,rfl,rfl,rfl,rfl,rfl,rfl,rfl,rfl,rfl,rfl,trivial⟩ ⟨rfl,rfl,rfl,trivial⟩))))
 · first|exact bN hb36|(
 refine Zd ?_;(refine xL 31 Za (xL 32 ZH (xL 10 Zb ?_))<;>refine Zc ?_)
 refine Zh (
  ⟨(i+1,h98,tk2,cl2),ho98,hmk2.next oM (Zj hu2)⟩
  ) (by show l.length-(i+1)<l.length-i;omega) ⟨rfl,rfl,rfl,rfl,rfl,rfl,rfl,rfl,rfl,trivial⟩ ⟨rfl,rfl,rfl,trivial⟩))
 · first | exact bN hb30|(
 refine Zd ?_;(refine xL 68 Za ?_<;>refine EM 201 Pf (call60) ?_ (List.length_pos_of_mem hmk.fst)<;>refine Zi ?_)
 (refine xL 70 Za (xL 71 Za ?_)<;>refine W4 (kk:=1) 72 Kw fun h72 ho72=>?_<;>refine Kd 200 72 73 Kw fun h73 ho73=>?_<;>refine xL 5 Zb ?_<;>refine Zi ?_)
 (refine xL 74 ZH (xL 16 Za ?_)<;>refine Zc ?_)
 try refine Yh (KA (l:=73) (l':=201) (j:=cs.length) rfl (Rt (Xd _).symm) rfl rfl) fun _=>?_
 try rw [Sg (Xd _).symm,JW _ _ _ (VT _).symm]
 try rw [show cs.map pInts++[pInts (cl.mergeSort fun x y=>decide (x≤y))]=(cs++[cl.mergeSort fun x y=>decide (x≤y)]).map pInts by simp,show cs.length+1=(cs++[cl.mergeSort fun x y=>decide (x≤y)]).length by simp]
 try refine Yh (Z5 (l:=73) 200 rfl rfl) fun _=>?_
 first
  | (exact Zh (
      ⟨(k+1,h73,cs++[cl.mergeSort fun x y=>decide (x≤y)],tk1),by show k+1≤l.length;omega,hmk.done hpt hasc hx oM,fun z=>by
        show z∈tk1↔z∈(cs++[_]).flatten;rw [hmk.tkm z];simp [WZ]⟩
      ) (by show l.length-(k+1)<l.length-k;omega) ⟨rfl,rfl,rfl,rfl,rfl,rfl,rfl,trivial⟩ ⟨rfl,rfl,trivial⟩)
  | (exact Zh (
      ⟨(k+1,h55,cs,tk),by show k+1≤l.length;omega,hpt.skip hx ((htk xf).1 hb22),htk⟩
      ) (by show l.length-(k+1)<l.length-k;omega) ⟨rfl,rfl,rfl,rfl,rfl,rfl,rfl,trivial⟩ ⟨rfl,rfl,trivial⟩))))
 · first|exact bN hb17|(
 refine Zd ?_;(refine xL 75 Za (xL 4 Zb ?_)<;>refine Zc ?_)
 refine T2 200 (results48) rfl rfl ⟨cs,hpt.comps oM,rfl⟩)
def JD (l:List ByteArray) (i:Int):ByteArray:=l[i.toNat]?.getD ByteArray.empty
def K5 (l:List ByteArray) (cs:List (List Int)):List (List ByteArray):=cs.map fun c=>c.map (JD l)
theorem Zig {l:List ByteArray} {x:Int} (h:0≤x∧x<l.length):(l.map ZD)[x.toNat*1]? =some (ZD (JD l x)):=by
 rw [XO,Xm]
 unfold JD
 rw [Xp (show x.toNat<l.length by omega)];rfl
theorem ζw (e n:Nat) (l:List (List ByteArray)) (hn:n=l.length):share (.own e 1 n (l.map ZT))=Gj l:=by
 subst hn
 rw [share,Z7,Xt];rfl
theorem Ji (e n:Nat) (l:List (List Int)) (hn:n=l.length):share (.own e 1 n (l.map pInts))=RV l:=by
 subst hn
 rw [share,Z7,Xt];rfl
theorem TO (l:List ByteArray) (rest:List PV) (kind:Int) (cs:List (List Int)) (h:cs.length<2):AF prog 47 [.sptr 0 (ZT l::rest),Zf kind,RV cs] (· = .tup [.agg [Zf 0, .val (.slice none 0 0)],Zf 10]):=by
 refine AF.of_body 51 func47 rfl ntmps47 (Xa rfl) ?_
 intro w0 M0 vs hl hv
 obtain ⟨v0,v1,v2,rfl⟩:=RI hl
 obtain rfl:=hv 1 _ _ rfl rfl
 clear hl hv
 refine Zd ?_
 (refine ZA [(.int .i64 0),(.slice none 0 0)] 2 6 Ki fun h6=>?_<;>refine xL 7 Zb ?_<;>refine Zi ?_)
 (refine xL 14 Za (xL 15 (ZF Ke) (xL 16 ZI ?_))<;>refine Zc ?_)
 refine cX ?_ ?_<;>intro hb16
 · refine Zd ?_;(refine xL 17 (ZO Sf) ?_<;>refine Zw 6 YB ?_<;>refine xL 7 Zb ?_<;>refine Zc ?_)
   exact Yn (k:=2) 6 kR (results47) rfl rfl rfl (Xa rfl) dC rfl rfl
 · exfalso;omega
set_option maxHeartbeats 1000000 in
theorem Ru (l:List ByteArray) (rest:List PV) (kind:Int) (cs:List (List Int)) (h:2≤cs.length) (hcs:∀c∈cs,∀x∈c,0≤x∧x<l.length) (hcl:cs.length≤1000000) (hcc:∀c∈cs,c.length≤1000000):AF prog 47 [.sptr 0 (ZT l::rest),Zf kind,RV cs] (· = .tup [EG ⟨kind,K5 l cs⟩,Zf 0]):=by
 refine AF.of_body 51 func47 rfl ntmps47 (Xa rfl) ?_
 intro w0 M0 vs hl hv
 obtain ⟨v0,v1,v2,rfl⟩:=RI hl
 obtain rfl:=hv 1 _ _ rfl rfl
 clear hl hv
 refine Zd ?_
 (refine ZA [(.int .i64 0),(.slice none 0 0)] 2 6 Ki fun h6=>?_<;>refine xL 7 Zb ?_<;>refine Zi ?_)
 (refine xL 14 Za (xL 15 (ZF Ke) (xL 16 ZI ?_))<;>refine Zc ?_)
 refine cX ?_ ?_<;>intro hb16
 · exfalso;omega
 · refine Zd ?_;(refine xL 18 Za (xL 19 (ZO Sf) ?_)<;>refine ZA [(.int .i64 0),(.slice none 0 0)] 2 8 Ki fun h8=>?_<;>refine Zw 8 YB ?_<;>refine Zi ?_)
   (refine xL 20 Za (xL 21 (ZF Ke) (xL 22 Za ?_))<;>refine Zc ?_)
   refine ZE (W3 200 26 1 rfl) fun _=>?_;refine Zy (ι:={x:Nat×Value//x.1≤cs.length}) (fun k=>⟨[(0,_,_),(6,_,_),(8,_,_),(20,_,_),(21,_,_),(22, .int .i64 k.1.1,Zf k.1.1)],[(6,_,_),(8,h8, .own 42 2 1 [Zf kind, .val k.1.2]),(200,k.1.2, .own 26 1 k.1.1 (((K5 l cs).take k.1.1).map ZT))]⟩) (fun k=>cs.length-k.1.1) ⟨(0, .slice none 0 0),Xn _⟩ (fun a w H=>H.weaken ⟨rfl,rfl,rfl,rfl,rfl,rfl,trivial⟩ ⟨rfl,rfl,rfl,trivial⟩) ?_;rintro ⟨⟨k,h55⟩,hk⟩;dsimp only;dsimp only at hk;refine Zd ?_;(refine xL 23 ZI ?_<;>refine Zc ?_)
   refine cX ?_ ?_<;>intro hb23
   · first |exact bN hb23|(
 obtain ⟨cl,hx⟩:=Zm (show k<cs.length by omega);have e1:=Yq (f:=pInts) hx;have hxl:=hcs cl (Xb hx);have hxc:=hcc cl (Xb hx);(have hpt:(K5 l cs)[k]? =some (cl.map (JD l)):=by unfold K5;rw [Xm,hx];rfl);(have e2:(((K5 l cs).take k).map ZT).length=k:=by unfold K5;simp;omega);refine Zd ?_;(refine xL 24 (Zv Ke) ?_<;>(refine yL 25 (ZN LB) fun v25 h=>?_;cases h)<;>refine xL 10 Zb ?_<;>refine Zi ?_)
 (refine xL 11 Zb ?_<;>refine Zi ?_)
 (refine xL 26 Za (xL 27 (ZF Yb) (xL 28 Za ?_))<;>refine Zc ?_)
 refine ZE (W3 201 9 1 rfl) fun _=>?_;refine Zy (ι:={x:Nat×Value//x.1≤cl.length∧x.2.oneCell'=true}) (fun k=>⟨[(0,_,_),(6,_,_),(8,_,_),(20,_,_),(21,_,_),(22,_,_),(26,_,_),(27,_,_),(11,k.1.2, .val k.1.2),(28, .int .i64 k.1.1,Zf k.1.1)],[(6,_,_),(8,_,_),(200,_,_),(201,k.1.2, .own 9 1 k.1.1 (((cl.map (JD l)).take k.1.1).map ZD))]⟩) (fun k=>cl.length-k.1.1) ⟨(0, .slice none 0 0),Xn _,rfl⟩ (fun a w H=>H.weaken ⟨rfl,rfl,rfl,rfl,rfl,rfl,rfl,rfl,rfl,rfl,trivial⟩ ⟨rfl,rfl,rfl,rfl,trivial⟩) ?_;rintro ⟨⟨j,h66⟩,hj,ho66⟩;dsimp only;dsimp only at hj ho66;refine Zd ?_;(refine xL 29 ZI ?_<;>refine Zc ?_)
 refine cX ?_ ?_<;>intro hb29
 · first|exact bN hb29|(
 obtain ⟨z,hz⟩:=Zm (show j<cl.length by omega);have e3:=Yq (f:=Zf) hz;have hzb:=hxl z (Xb hz);have e4:=Zig hzb;(have e5:(((cl.map (JD l)).take j).map ZD).length=j:=by simp;omega);(have hnz:(cl.map (JD l))[j]? =some (JD l z):=by rw [Xm,hz];rfl);refine Zd ?_;(refine xL 30 (Zv Yb) ?_<;>(refine yL 31 (ZN Ya) fun v31 h=>?_;cases h)<;>refine xL 13 Zb ?_<;>refine Zi ?_)
 (refine xL 32 Za (xL 33 Za (xL 34 Y0 (xL 35 (YN WY) ?_)))<;>(refine yL 36 (ZN ZX) fun v36 h=>?_;cases h)<;>refine xL 37 Za (xL 38 (Ts Zx) ?_)<;>(refine yL 39 (ZN ZP) fun v39 h=>?_;cases h)<;>refine W4 (kk:=1) 40 Wm fun h40 ho40=>?_<;>refine Kd 201 40 41 Wm fun h41 ho41=>?_<;>refine xL 11 Zb ?_<;>refine Zi ?_)
 (refine xL 42 ZH (xL 28 Za ?_)<;>refine Zc ?_)
 refine Yh (Z5 (l:=41) 201 rfl rfl) fun _=>?_;rw [show ((cl.map (JD l)).take j).map ZD++[ZD (JD l z)]=((cl.map (JD l)).take (j+1)).map ZD by rw [ZW hnz,X1];rfl];refine Zh (
  ⟨(j+1,h41),by show j+1≤cl.length;omega,ho41⟩
  ) (by show cl.length-(j+1)<cl.length-j;omega) ⟨rfl,rfl,rfl,rfl,rfl,rfl,rfl,rfl,rfl,rfl,trivial⟩ ⟨rfl,rfl,rfl,rfl,trivial⟩)
 · first|exact bN hb29|(
 refine Zd ?_;(refine xL 43 (Zn 8 PS) ?_<;>(refine yL 44 (Zr 8 H5) fun v44 h=>?_;cases h)<;>refine xL 45 Za ?_<;>refine W4 (kk:=1) 46 H4 fun h46 ho46=>?_<;>refine Kd 200 46 47 H4 fun h47 ho47=>?_<;>refine xL 48 (Zn 8 PS) ?_<;>refine P5 8 H5 ZdZ ?_<;>refine Zi ?_)
 (refine xL 49 ZH (xL 22 Za ?_)<;>refine Zc ?_)
 refine Yh (KA (l:=47) (l':=201) (j:=k) rfl (Rt e2.symm) rfl rfl) fun _=>?_;rw [Sg e2.symm,show j=(cl.map (JD l)).length by rw [Xd];omega,XI,GZ];rw [show ((K5 l cs).take k).map ZT++[PV.sl (cl.map (JD l)).length ((cl.map (JD l)).map ZD)]=((K5 l cs).take (k+1)).map ZT by rw [ZW hpt,X1];rfl];refine Yh (Z5 (l:=47) 200 rfl rfl) fun _=>?_;refine Zh (
  ⟨(k+1,h47),by show k+1≤cs.length;omega⟩
  ) (by show cs.length-(k+1)<cs.length-k;omega) ⟨rfl,rfl,rfl,rfl,rfl,rfl,trivial⟩ ⟨rfl,rfl,rfl,trivial⟩))
   · first|exact bN hb23|(
 refine nav ?_;rw [show k=(K5 l cs).length by unfold K5;rw [Xd];omega,XI];refine ZE (KA (l:=8) (l':=200) (j:=1) rfl rfl rfl rfl) fun _=>?_;rw [ζw _ _ _ rfl];(refine Zo ?_<;>(refine yL 50 (Zu 8 YB) fun v50 h=>?_;cases h)<;>refine Zw 6 YB ?_<;>refine xL 7 Zb ?_<;>refine Zc ?_)
 exact Yn (k:=2) 6 kR (results47) rfl rfl rfl (Xa rfl) dC rfl rfl)
def Dr (l:List ByteArray) (kind:Int) (cs:List (List Int)):PV:=if cs.length<2 then .tup [.agg [Zf 0, .val (.slice none 0 0)],Zf 10] else .tup [EG ⟨kind,K5 l cs⟩,Zf 0]
theorem W0 {n:Nat} {x:Int}:x∈upTo n↔0≤x∧x<n:=by
 unfold upTo vec
 simp only [Xr,XV]
 constructor
 · rintro ⟨i,hi,rfl⟩;omega
 · rintro ⟨h0,h1⟩;exact ⟨x.toNat,oM,oM⟩
theorem K1 (n:Nat):(upTo n).length=n:=Ko _ _
theorem TP (n:Nat):(upTo n).Pairwise (· < ·):=by
 rw [XT]
 intro i j hi hj hij
 rw [K1] at hi hj
 have e1:(upTo n)[i]? =some ((i:Nat):Int):=Tf _ hi
 have e2:(upTo n)[j]? =some ((j:Nat):Int):=Tf _ hj
 rw [(Xl.1 e1).2,(Xl.1 e2).2];omega
theorem Gh {n:Nat} {r:Int→Int→Bool} {cs:List (List Int)} (h:Comps (upTo n) r cs):(∀c∈cs,∀x∈c,0≤x∧x<n)∧cs.length≤n∧∀c∈cs,c.length≤n:=by
 have h1:∀c∈cs,∀x∈c,x∈upTo n:=fun c hc x hx=>(h.mem x).1 (Vm.2 ⟨c,hc,hx⟩)
 refine ⟨fun c hc x hx=>W0.1 (h1 c hc x hx),?_,fun c hc=>?_⟩
 · have h2:=JV h.nd (fun x hx=>(h.mem x).1 hx);rw [K1] at h2;have:∀m:List (List Int),(∀c∈m,c≠[])→m.length≤m.flatten.length:=fun m=>by
    induction m with
    |nil=>intro _;simp
    | cons c m ih=>
      intro h;have h1:=ih fun d hd=>h d (by simp [hd]);have h2:=Vc.2 (h c sM);rw [XR,Xf,Xg];omega
   have:=this cs h.ne;omega
 · have h2:=JV (l:=c) (m:=upTo n) ((h.asc c hc).imp fun {a b} h=>oM) (h1 c hc);rw [K1] at h2;exact h2
def ζx (E:Nat→Nat→Bool) (a b:Int):Bool:=E a.toNat b.toNat
theorem Zih (l:List ByteArray) (n:Nat) (E:Nat→Nat→Bool) (S F:Nat→Bool) (x y:Int) (hx:0≤x∧x<n) (hy:0≤y∧y<n):AF prog 50 [Zf x,Zf y, .sptr 0 [K9 l n E S F]] (· =ZB (ζx E x y)):=by
 obtain ⟨a,rfl⟩:∃a:Nat,x=a:=⟨x.toNat,oM⟩
 obtain ⟨b,rfl⟩:∃b:Nat,y=b:=⟨y.toNat,oM⟩
 have e1:=Yp (fun i=>Wv n (E i)) (show a<n by omega)
 have e2:=Yp (fun j=>ZB (E a j)) (show b<n by omega)
 refine AF.of_body 16 func50 rfl ntmps50 (Xa rfl) ?_
 intro w0 M0 vs hl hv
 obtain ⟨v0,v1,v2,rfl⟩:=RI hl
 obtain rfl:=hv 0 _ _ rfl rfl
 obtain rfl:=hv 1 _ _ rfl rfl
 clear hl hv
 dsimp only [K9]
 refine Zd ?_
 (refine xL 5 Zb ?_<;>refine Zi ?_)
 ((refine yL 6 (ZN YI) fun v6 h=>?_;cases h)<;>refine xL 7 Y0 (xL 8 (YN WA) ?_)<;>(refine yL 9 (ZN Y') fun v9 h=>?_;cases h)<;>refine xL 10 Za (xL 11 (Zv Yk) ?_)<;>(refine yL 12 (ZN Z1) fun v12 h=>?_;cases h)<;>refine xL 13 Za (xL 14 (Zv Yc) ?_)<;>(refine yL 15 (ZN Yv) fun v15 h=>?_;cases h)<;>refine xL 5 Zb ?_<;>refine Zc ?_)
 exact Zl results50 rfl rfl
set_option maxHeartbeats 1000000 in
theorem Zd0 (g:Dfg) (l:List ByteArray) (n:Nat) (E:Nat→Nat→Bool) (S F:Nat→Bool) (hb:AF prog 46 [KZ g] (· = .tup [K9 l n E S F,Zf 0])) (hl:l.length=n) (hn:n≤1000):AF prog 14 [KZ g] (fun p=>∃cs,Comps (upTo n) (ζx E) cs∧p=Dr l 1 cs):=by
 refine AF.of_body 23 func14 rfl ntmps14 (Xa rfl) ?_
 intro w0 M0 vs hl hv
 obtain ⟨v0,rfl⟩:=YG hl
 clear hl hv
 refine Zd ?_
 (refine Yi 1 4 fun h1=>?_<;>refine ZA [(.int .i64 0),(.slice none 0 0)] 2 2 Ki fun h2=>?_<;>refine xL 3 Zb ?_<;>refine Zi ?_)
 ((refine yL 7 (Zu 1 YA) fun v7 h=>?_;cases h)<;>(refine cP 8 (cA call46 (hb)) fun va8 vb8 hva8 h=>?_;cases h)<;>refine xL 6 Za (xL 9 Zp (xL 10 Zp ?_))<;>refine ZA [(.pointer none)] 1 4 Pe fun h4=>?_<;>refine P5 4 YI Pd ?_<;>refine xL 5 Zb ?_<;>refine Zi ?_)
 (refine xL 11 Za (xL 12 Wg ?_)<;>refine Zc ?_)<;>(try (exfalso;omega))<;>(
 refine cX ?_ ?_<;>intro hb12
 · exfalso;omega
 · refine nav ?_;refine ZE (G8 (l:=4) (t:=4) (j:=0) rfl X8 rfl) fun _=>?_;dsimp only [Yt,share,List.map,K9];(refine ZM (fun i=>([]:List Nat).elem i) [] kR ?_<;>(refine yD 0 15 rfl (ZN YI) fun v15 h=>?_;cases h)<;>(refine yD 1 16 rfl (ZN YI) fun v16 h=>?_;cases h)<;>refine xD 3 18 rfl Lj ?_<;>(refine Zk 2 kR ?_)<;>(refine YH (d:=17) rfl (cA call49 ((E5 l _ oM).mono (R':=(· =pInts (upTo n))) fun p hp=>by rw [hp,hl])) fun v17 h=>?_;cases h)<;>(refine Zk 4 kR ?_)<;>(refine Zg rfl fun w9 M9 N9 DQ back=>?_)<;>(refine GN 19 rfl rfl (Xa rfl) rfl (cA call48 (G0 50 [.sptr 0 [K9 l n E S F]] (ζx E) (upTo n) (TP n) (by rw [K1];omega) (call50) (fun x hx y hy=>Zih l n E S F x y (W0.1 hx) (W0.1 hy)))) ?_;rintro p' ⟨cs,hcs,rfl⟩;refine ⟨rfl,fun h19 ho19=>?_⟩;refine ZJ (En.freeze (l:=19) (t:=19) rfl rfl) fun _=>?_;rw [Ji _ _ _ rfl])<;>refine Ze (back _ (nrm ?_))<;>(refine Zk 5 kR ?_)<;>(refine Zg rfl fun w9 M9 N9 DQ back=>?_)<;>(by_cases hm:cs.length<2<;>first|(refine cP 20 (cA call47 (TO l _ 1 cs hm)) fun va20 vb20 hva20 h=>?_;cases h)|(refine cP 20 (cA call47 (Ru l _ 1 cs oM (by rw [hl];exact (Gh hcs).1) (by have:=(Gh hcs).2.1;omega) (fun c hc=>by have:=(Gh hcs).2.2 c hc;omega))) fun va20 vb20 hva20 h=>?_;cases h))<;>refine Ze (back _ (nrm ?_))<;>refine xD 6 21 rfl Zp ?_<;>refine xE 7 22 rfl Zp ?_<;>(refine Zk 8 kR ?_)<;>(refine Zg rfl fun w9 M9 N9 DQ back=>?_)<;>refine Zw 2 YB ?_<;>refine Ze (back _ (nrm ?_))<;>refine xE 9 3 rfl Zb ?_<;>refine Ym kR (nav ?_)<;>try dsimp only)<;>(
 refine Yn (k:=2) 2 kR (results14) rfl rfl rfl (Xa rfl) dC rfl ⟨cs,hcs,?_⟩;unfold Dr
 first
  |(rw [UB hm];rfl)
  |(rw [UA hm];rfl)))
theorem H6:(prog.info? 93).map (·.size)=some 1:=by kernel_rfl
theorem H7:ZeroT prog 93 (.slice none 0 0):=by unfold ZeroT;kernel_rfl
def relS (R:Nat→Nat→Bool) (a b:Int):Bool:=R a.toNat b.toNat==R b.toNat a.toNat
def hdI (c:List Int):Int:=c[0]?.getD 0
def cmpSeq (R:Nat→Nat→Bool) (x y:List Int):Int:=if hdI x=hdI y then 0 else if R (hdI x).toNat (hdI y).toNat then-1 else 1
theorem Ti {R:Nat→Nat→Bool} {x y:List Int}:cmpSeq R x y<0↔hdI x≠hdI y∧R (hdI x).toNat (hdI y).toNat=true:=by
 unfold cmpSeq
 by_cases h:hdI x=hdI y
 · rw [UB h];simp [h]
 · rw [UA h]
   cases hr:R (hdI x).toNat (hdI y).toNat<;>simp [h]
theorem Gm {c:List Int} (h:c≠[]):hdI c∈c:=by
 cases c with
 |nil=>exact UC rfl h
 |cons a t=>exact XQ
theorem JX {n:Nat} {R:Nat→Nat→Bool} {cs:List (List Int)} (h:Comps (upTo n) (relS R) cs) {c d:List Int} (hc:c∈cs) (hd:d∈cs) (hne:hdI c≠hdI d):R (hdI c).toNat (hdI d).toNat≠R (hdI d).toNat (hdI c).toNat:=fun he=>by
 have hm:=h.clos c hc (hdI c) (Gm (h.ne c hc)) (hdI d) ((h.mem _).1 (Vm.2 ⟨d,hd,Gm (h.ne d hd)⟩)) (.inl (by unfold relS;rw [he];simp))
 have hcd:c=d:=by
  obtain ⟨i,hi⟩:=XP hc;obtain ⟨j,hj⟩:=XP hd;by_cases e:i=j
  · subst e;rw [hi] at hj;cases hj;rfl
  · have:=XT.1 (List.pairwise_flatten.1 h.nd).2;have hlt:=Zj hi;have hlt':=Zj hj;rcases Nat.lt_or_gt_of_ne e with h1|h1
    · have:=this i j hlt hlt' h1 (hdI d) (by rw [(Xl.1 hi).2];exact hm) (hdI d) (by rw [(Xl.1 hj).2];exact Gm (h.ne d hd));exact UC rfl this
    · have:=this j i hlt' hlt h1 (hdI d) (by rw [(Xl.1 hj).2];exact Gm (h.ne d hd)) (hdI d) (by rw [(Xl.1 hi).2];exact hm);exact UC rfl this
 exact hne (by rw [hcd])
theorem ZjO {n:Nat} {E R:Nat→Nat→Bool} {cs:List (List Int)} (hR:Closed n E R) (h:Comps (upTo n) (relS R) cs) (a b c:{c//c∈cs}) (h1:cmpSeq R a.1 b.1<0) (h2:cmpSeq R b.1 c.1<0):cmpSeq R a.1 c.1<0:=by
 have hin:=(Gh h).1
 have ba:=hin a.1 a.2 _ (Gm (h.ne _ a.2))
 have bb:=hin b.1 b.2 _ (Gm (h.ne _ b.2))
 have bc:=hin c.1 c.2 _ (Gm (h.ne _ c.2))
 rw [Ti] at h1 h2 ⊢
 have hac:=hR.2 (hdI a.1).toNat (hdI b.1).toNat (hdI c.1).toNat oM oM oM h1.2 h2.2
 refine ⟨fun e=>?_,hac⟩
 have:=JX h a.2 b.2 h1.1
 rw [←e] at h2
 rw [h1.2,h2.2] at this;exact this rfl
theorem ZjP {n:Nat} {E R:Nat→Nat→Bool} {cs:List (List Int)} (hR:Closed n E R) (h:Comps (upTo n) (relS R) cs) (a b c:{c//c∈cs}) (h1:¬cmpSeq R a.1 b.1<0) (h2:¬cmpSeq R b.1 c.1<0):¬cmpSeq R a.1 c.1<0:=by
 have hin:=(Gh h).1
 have ba:=hin a.1 a.2 _ (Gm (h.ne _ a.2))
 have bb:=hin b.1 b.2 _ (Gm (h.ne _ b.2))
 have bc:=hin c.1 c.2 _ (Gm (h.ne _ c.2))
 by_cases e1:hdI a.1=hdI b.1
 · unfold cmpSeq at h2 ⊢;rw [e1];exact h2
 · by_cases e2:hdI b.1=hdI c.1
   · unfold cmpSeq at h1 ⊢;rw [←e2];exact h1
   · rw [Ti] at h1 h2 ⊢;have r1:R (hdI b.1).toNat (hdI a.1).toNat=true:=by
      have h3:=JX h a.2 b.2 e1;(have h4:R (hdI a.1).toNat (hdI b.1).toNat=false:=by rw [←Bool.not_eq_true];exact fun hh=>h1 ⟨e1,hh⟩);rw [h4] at h3
      cases hx:R (hdI b.1).toNat (hdI a.1).toNat with
      |true=>rfl
      |false=>rw [hx] at h3;exact UC rfl h3
     have r2:R (hdI c.1).toNat (hdI b.1).toNat=true:=by
      have h3:=JX h b.2 c.2 e2;(have h4:R (hdI b.1).toNat (hdI c.1).toNat=false:=by rw [←Bool.not_eq_true];exact fun hh=>h2 ⟨e2,hh⟩);rw [h4] at h3
      cases hx:R (hdI c.1).toNat (hdI b.1).toNat with
      |true=>rfl
      |false=>rw [hx] at h3;exact UC rfl h3
     have r3:=hR.2 (hdI c.1).toNat (hdI b.1).toNat (hdI a.1).toNat oM oM oM r2 r1;rintro ⟨e3,r4⟩;have:=JX h a.2 c.2 e3;rw [r4,r3] at this;exact this rfl
theorem Zcr (n:Nat) (R:Nat→Nat→Bool) (x y:Int) (hx:0≤x∧x<n) (hy:0≤y∧y<n):AF prog 52 [Zf x,Zf y, .sptr 0 [E2 n R]] (· =ZB (relS R x y)):=by
 obtain ⟨a,rfl⟩:∃a:Nat,x=a:=⟨x.toNat,oM⟩
 obtain ⟨b,rfl⟩:∃b:Nat,y=b:=⟨y.toNat,oM⟩
 have e1:=Yp (fun i=>Wv n (R i)) (show a<n by omega)
 have e2:=Yp (fun j=>ZB (R a j)) (show b<n by omega)
 have e3:=Yp (fun i=>Wv n (R i)) (show b<n by omega)
 have e4:=Yp (fun j=>ZB (R b j)) (show a<n by omega)
 refine AF.of_body 21 func52 rfl ntmps52 (Xa rfl) ?_
 intro w0 M0 vs hl hv
 obtain ⟨v0,v1,v2,rfl⟩:=RI hl
 obtain rfl:=hv 0 _ _ rfl rfl
 obtain rfl:=hv 1 _ _ rfl rfl
 clear hl hv
 refine Zd ?_
 (refine xL 5 Zb ?_<;>refine Zc ?_)
 (refine ZM (fun i=>([]:List Nat).elem i) [] kR ?_<;>(refine yD 0 6 rfl (ZN Y') fun v6 h=>?_;cases h)<;>refine xD 1 7 rfl Za ?_<;>refine xD 2 8 rfl (Zv Yk) ?_<;>(refine yD 3 9 rfl (ZN Z1) fun v9 h=>?_;cases h)<;>refine xD 4 10 rfl Za ?_<;>refine xD 5 11 rfl (Zv Yc) ?_<;>(refine yD 6 12 rfl (ZN Yv) fun v12 h=>?_;cases h)<;>(refine yD 7 13 rfl (ZN Y') fun v13 h=>?_;cases h)<;>refine xD 8 14 rfl Za ?_<;>refine xD 9 15 rfl (Zv Yk) ?_<;>(refine yD 10 16 rfl (ZN Z1) fun v16 h=>?_;cases h)<;>refine xE 11 17 rfl Za ?_<;>refine xE 12 18 rfl (Zv Yc) ?_<;>(refine yE 13 19 rfl (ZN Yv) fun v19 h=>?_;cases h)<;>refine xE 14 20 rfl (Zjo underlying4) ?_<;>refine xE 15 5 rfl Zb ?_<;>refine Ym kR (nav ?_)<;>try dsimp only)
 exact Zl results52 rfl rfl
theorem Zii (n:Nat) (R:Nat→Nat→Bool) (x y:List Int) (hx:x≠[]) (hy:y≠[]) (hx2:∀z∈x,0≤z∧z<n) (hy2:∀z∈y,0≤z∧z<n):AFg prog 54 [pInts x,pInts y, .sptr 0 [E2 n R]] (· = .val (.int .i64 (cmpSeq R x y))):=by
 have hxl:=Vc.2 hx
 have hyl:=Vc.2 hy
 have bx:=hx2 _ (Gm hx)
 have bY:=hy2 _ (Gm hy)
 obtain ⟨a,ha⟩:∃a:Nat,hdI x=a:=⟨(hdI x).toNat,oM⟩
 obtain ⟨b,hb⟩:∃b:Nat,hdI y=b:=⟨(hdI y).toNat,oM⟩
 have e0:(x.map Zf)[0*1]? =some (Zf (a:Nat)):=by
  cases x with
  |nil=>exact UC rfl hx
  |cons z t=>show some (Zf z)=_;rw [show z=a from ha]
 have e0':(y.map Zf)[0*1]? =some (Zf (b:Nat)):=by
  cases y with
  |nil=>exact UC rfl hy
  |cons z t=>show some (Zf z)=_;rw [show z=b from hb]
 have e1:=Yp (fun i=>Wv n (R i)) (show a<n by omega)
 have e2:=Yp (fun j=>ZB (R a j)) (show b<n by omega)
 refine AFg.of_body 24 func54 rfl ntmps54 (Xa rfl) ?_
 intro w0 M0 vs hl hv
 obtain ⟨v0,v1,v2,rfl⟩:=RI hl
 clear hl hv
 dsimp only [pInts]
 refine Zd ?_
 (refine xL 5 Zb ?_<;>refine Zc ?_)
 (refine ZM (fun i=>([]:List Nat).elem i) [] kR ?_<;>refine xD 0 6 rfl Za ?_<;>refine xD 1 7 rfl (Zv (i:=0) Yb) ?_<;>(refine yD 2 8 rfl (ZN Ya) fun v8 h=>?_;cases h)<;>refine xE 3 9 rfl Za ?_<;>refine xE 4 10 rfl (Zv (i:=0) Yb) ?_<;>(refine yE 5 11 rfl (ZN Ya) fun v11 h=>?_;cases h)<;>refine xE 6 12 rfl ZU ?_<;>refine Ym kR (nav ?_)<;>try dsimp only)
 refine cX ?_ ?_<;>intro hb12
 · first|exact bN hb12|(
 refine Zd ?_;(refine xL 5 Zb ?_<;>refine Zc ?_)
 refine Zl (results54) rfl ?_;unfold cmpSeq;rw [ha,hb,UB hb12])
 · first|exact bN hb12|(
 refine nav ?_;(refine ZM (fun i=>([]:List Nat).elem i) [] kR ?_<;>(refine yD 0 13 rfl (ZN Y') fun v13 h=>?_;cases h)<;>refine xD 1 14 rfl Za ?_<;>refine xD 2 15 rfl (Zv (i:=0) Yb) ?_<;>(refine yD 3 16 rfl (ZN Ya) fun v16 h=>?_;cases h)<;>refine xD 4 17 rfl (Zv Yk) ?_<;>(refine yD 5 18 rfl (ZN Z1) fun v18 h=>?_;cases h)<;>refine xE 6 19 rfl Za ?_<;>refine xE 7 20 rfl (Zv (i:=0) Yb) ?_<;>(refine yE 8 21 rfl (ZN Ya) fun v21 h=>?_;cases h)<;>refine xE 9 22 rfl (Zv Yc) ?_<;>(refine yE 10 23 rfl (ZN Yv) fun v23 h=>?_;cases h)<;>refine Ym kR (nav ?_)<;>try dsimp only)
 refine cX ?_ ?_<;>intro hb23
 · first|exact bN hb23|(
 refine Zd ?_;(refine xL 5 Zb ?_<;>refine Zc ?_)
 refine Zl (results54) rfl ?_;unfold cmpSeq;rw [ha,hb,UA hb12,XL,XL,UB hb23])
 · first|exact bN hb23|(
 refine Zd ?_;(refine xL 5 Zb ?_<;>refine Zc ?_)
 refine Zl (results54) rfl ?_;unfold cmpSeq;rw [ha,hb,UA hb12,XL,XL,UA (by rw [hb23];simp)]))
theorem ZaZ:ZaH prog 53 54:=fun enc h1 cf hO cb blk cap d w hcmp hH hblk hsz=>Tryz.slices_SortFunc enc h1 cf hO 54 cb blk 0 cap d w (call54) hcmp hH hblk hsz
structure SeqCs (n:Nat) (R:Nat→Nat→Bool) (cs:List (List Int)):Prop where
 cl:∃ds,Comps (upTo n) (relS R) ds∧cs.Perm ds
 ord:∀(i j:Nat) (a b:List Int),i<j→cs[i]? =some a→cs[j]? =some b→¬cmpSeq R b a<0
set_option maxHeartbeats 1000000 in
theorem Zd1 (g:Dfg) (l:List ByteArray) (n:Nat) (E:Nat→Nat→Bool) (S F:Nat→Bool) (hb:AF prog 46 [KZ g] (· = .tup [K9 l n E S F,Zf 0])) (hl:l.length=n) (hn:n≤1000) (hn0:0<n):AF prog 15 [KZ g] (fun p=>∃cs,SeqCs n (Y9 n E) cs∧p=Dr l 2 cs):=by
 refine AF.of_body 31 func15 rfl ntmps15 (Xa rfl) ?_
 intro w0 M0 vs hl hv
 obtain ⟨v0,rfl⟩:=YG hl
 clear hl hv
 refine Zd ?_
 (refine Yi 1 4 fun h1=>?_<;>refine ZA [(.int .i64 0),(.slice none 0 0)] 2 2 Ki fun h2=>?_<;>refine xL 3 Zb ?_<;>refine Zi ?_)
 ((refine yL 9 (Zu 1 YA) fun v9 h=>?_;cases h)<;>(refine cP 10 (cA call46 (hb)) fun va10 vb10 hva10 h=>?_;cases h)<;>refine xL 8 Za (xL 11 Zp (xL 12 Zp (xL 4 Zb (xL 5 Zb ?_))))<;>refine Zi ?_)
 (refine xL 13 Za (xL 14 Wg ?_)<;>refine Zc ?_)
 refine cX ?_ ?_<;>intro hb14
 · exfalso;omega
 · refine Zd ?_;(refine xL 17 Za ?_<;>(refine cS 18 (cA call51 (ζq l n E (Wv n S) (Wv n F) hl hn)) fun v18 h=>?_;cases h)<;>refine ZA [(.slice none 0 0)] 1 6 H7 fun h6=>?_<;>refine P5 6 Y' H6 ?_<;>refine Zc ?_)
   refine ZE (G8 (l:=6) (t:=6) (j:=0) rfl X8 rfl) fun _=>?_;dsimp only [Yt,share,List.map,K9];(refine Zo ?_<;>refine xL 19 Za ?_<;>(refine cS 20 (cA call49 ((E5 l _ oM).mono (R':=(· =pInts (upTo n))) fun p hp=>by rw [hp,hl])) fun v20 h=>?_;cases h)<;>refine xL 21 Lj ?_<;>(refine GN 22 rfl rfl (Xa rfl) rfl (cA call48 (G0 52 [.sptr 0 [E2 n (Y9 n E)]] (relS (Y9 n E)) (upTo n) (TP n) (by rw [K1];omega) (call52) (fun x hx y hy=>Zcr n (Y9 n E) x y (W0.1 hx) (W0.1 hy)))) ?_;rintro p' ⟨cs,hcs,rfl⟩;refine ⟨rfl,fun h22 ho22=>?_⟩)<;>refine xL 7 Zb ?_<;>refine Zc ?_)
   have hin:=Gh hcs;have hcp:0<cs.attach.length:=by
    rw [VL]
    cases cs with
    |nil=>have:=(hcs.mem 0).2 (W0.2 ⟨oM,oM⟩);simp at this
    |cons=>simp
   rw [show cs.map pInts=cs.attach.map (fun c:{c//c∈cs}=>pInts c.1) by rw [List.attach_map_val (f:=pInts)],show cs.length=cs.attach.length from VL.symm];(refine Zo ?_<;>refine xL 23 Za (xL 24 Lj ?_)<;>(refine ZbX (β:={c//c∈cs}) (f:=fun c=>pInts c.1) (cmp:=fun a b=>cmpSeq (Y9 n E) a.1 b.1) (rows:=cs.attach) 22 ZaZ (call53) (fun _=>rfl) (fun a=>by unfold cmpSeq;rw [UB rfl];decide) (ZjO (Rn n E) hcs) (ZjP (Rn n E) hcs) (fun x _ y _=>Zii n (Y9 n E) x.1 y.1 (hcs.ne _ x.2) (hcs.ne _ y.2) (hin.1 _ x.2) (hin.1 _ y.2)) hcp (by rw [VL];omega) (fun rows' hperm hord=>?_))<;>refine Zc ?_)
   obtain ⟨ds,hds⟩:∃ds,ds=rows'.map (·.1):=⟨_,rfl⟩;have hpd:ds.Perm cs:=by rw [hds];have:=hperm.map (·.1);rw [List.attach_map_subtype_val] at this;exact this
   have hsq:SeqCs n (Y9 n E) ds:=⟨⟨cs,hcs,hpd⟩,fun i j a b hij ha hb=>by
    rw [hds,Xm,XN] at ha hb;obtain ⟨a',ha',rfl⟩:=ha;obtain ⟨b',hb',rfl⟩:=hb;exact hord i j a' b' hij ha' hb'⟩
   rw [show rows'.map (fun c:{c//c∈cs}=>pInts c.1)=ds.map pInts by rw [hds,Xt];rfl,show cs.attach.length=ds.length by rw [VL];exact hpd.length_eq.symm];refine ZE (En.freeze (l:=22) (t:=7) rfl rfl) fun _=>?_;rw [Ji _ _ _ rfl];have hdi:∀c∈ds,∀x∈c,0≤x∧x<l.length:=fun c hc=>by rw [hl];exact hin.1 c (hpd.mem_iff.1 hc)
   have hdl:ds.length≤1000000:=by rw [hpd.length_eq];omega
   have hdc:∀c∈ds,c.length≤1000000:=fun c hc=>by have:=hin.2.2 c (hpd.mem_iff.1 hc);omega
   (refine Zo ?_<;>refine xL 26 Za (xL 27 Za ?_)<;>(by_cases hm:ds.length<2<;>first|(refine cP 28 (cA call47 (TO l _ 2 ds hm)) fun va28 vb28 hva28 h=>?_;cases h)|(refine cP 28 (cA call47 (Ru l _ 2 ds oM hdi hdl hdc)) fun va28 vb28 hva28 h=>?_;cases h))<;>refine xL 29 Zp (xL 30 Zp ?_)<;>refine Zw 2 YB ?_<;>refine xL 3 Zb ?_<;>refine Zc ?_)<;>(
 refine Yn (k:=2) 2 kR (results15) rfl rfl rfl (Xa rfl) dC rfl ⟨ds,hsq,?_⟩;unfold Dr
 first
  |(rw [UB hm];rfl)
  |(rw [UA hm];rfl))
end Go.Proofs.YtmkojdfiadbeeaaGreat
namespace Go.Cb
open Go.En
set_option linter.all false
theorem Zcs:∀{l m:List Int},l.Pairwise (· < ·)→m.Pairwise (· < ·)→(∀x,x∈l↔x∈m)→l=m
 |[],[],_,_,_=>rfl
 |[],b::m,_,_,h=>by have:=(h b).2 sM;simp at this
 |a::l,[],_,_,h=>by have:=(h a).1 sM;simp at this
 | a :: l,b::m,hl,hm,h=>by
   rw [XE] at hl hm;have hab:a=b:=by
    have h1:=(h a).1 sM;have h2:=(h b).2 sM;rcases Xi.1 h1 with e|e
    · exact e
    · rcases Xi.1 h2 with e2|e2
      · exact e2.symm
      · have:=hl.1 b e2;have:=hm.1 a e;omega
   subst hab;rw [Zcs hl.2 hm.2 fun x=>?_];constructor
   · intro hx;have:=(h x).1 (by simp [hx]);rcases Xi.1 this with e|e
     · subst e;have:=hl.1 _ hx;omega
     · exact e
   · intro hx;have:=(h x).2 (by simp [hx]);rcases Xi.1 this with e|e
     · subst e;have:=hm.1 _ hx;omega
     · exact e
def YX (c:List Int):Int:=c[0]?.getD 0
theorem Pg {c:List Int} (h:c≠[]):YX c∈c:=by
 cases c with
 |nil=>exact UC rfl h
 |cons a t=>exact XQ
theorem PT {c:List Int} (h:c≠[]):c.head? =some (YX c):=by
 cases c with
 |nil=>exact UC rfl h
 |cons a t=>rfl
theorem H8:∀{l m:List (List Int)},l.Pairwise (fun c d=>YX c<YX d)→m.Pairwise (fun c d=>YX c<YX d)→(∀c,c∈l↔c∈m)→l=m
 |[],[],_,_,_=>rfl
 |[],b::m,_,_,h=>by have:=(h b).2 sM;simp at this
 |a::l,[],_,_,h=>by have:=(h a).1 sM;simp at this
 | a :: l,b::m,hl,hm,h=>by
   rw [XE] at hl hm;have hab:a=b:=by
    have h1:=(h a).1 sM;have h2:=(h b).2 sM;rcases Xi.1 h1 with e|e
    · exact e
    · rcases Xi.1 h2 with e2|e2
      · exact e2.symm
      · have:=hl.1 b e2;have:=hm.1 a e;omega
   subst hab;rw [H8 hl.2 hm.2 fun x=>?_];constructor
   · intro hx;have:=(h x).1 (by simp [hx]);rcases Xi.1 this with e|e
     · subst e;have:=hl.1 _ hx;omega
     · exact e
   · intro hx;have:=(h x).2 (by simp [hx]);rcases Xi.1 this with e|e
     · subst e;have:=hm.1 _ hx;omega
     · exact e
theorem Comps.heads {l:List Int} {r:Int→Int→Bool} {cs:List (List Int)} (h:Comps l r cs):cs.Pairwise (fun c d=>YX c<YX d):=by
 refine List.Pairwise.imp_of_mem (fun {c d} hc hd hcd=>?_) h.ord
 exact hcd _ _ (PT (h.ne c hc)) (PT (h.ne d hd))
theorem Comps.closed {l:List Int} {r:Int→Int→Bool} {cs:List (List Int)} (h:Comps l r cs) {c:List Int} (hc:c∈cs) {x y:Int} (hx:x∈c) (hxy:Conn l r x y):y∈c:=
 hxy (fun z=>z∈c) (fun a b ha hb hr ha'=>h.clos c hc a ha' b hb hr) hx
theorem Comps.unique {l:List Int} {r r':Int→Int→Bool} {cs ds:List (List Int)} (h:Comps l r cs) (k:Comps l r' ds) (hr:∀x∈l,∀y∈l,(r x y=true∨r y x=true)↔(r' x y=true∨r' y x=true)):cs=ds:=by
 have hC:∀x y,Conn l r x y↔Conn l r' x y:=fun x y=>
  ⟨fun h P hP=>h P fun a b ha hb hab=>hP a b ha hb ((hr a ha b hb).1 hab),fun h P hP=>h P fun a b ha hb hab=>hP a b ha hb ((hr a ha b hb).2 hab)⟩
 have key:∀{l:List Int} {r r':Int→Int→Bool} {cs ds:List (List Int)},Comps l r cs→Comps l r' ds→(∀x y,Conn l r x y↔Conn l r' x y)→∀c∈cs,c∈ds:=fun {l r r' cs ds} h k hC c hc=>by
  have hm:=Pg (h.ne c hc);have hl:=(h.mem _).1 (Vm.2 ⟨c,hc,hm⟩);obtain ⟨d,hd,hmd⟩:=Vm.1 ((k.mem _).2 hl);have:c=d:=Zcs (h.asc c hc) (k.asc d hd) fun x=>
   ⟨fun hx=>k.closed hd hmd ((hC _ _).1 (h.conn c hc _ hm x hx)),fun hx=>h.closed hc hm ((hC _ _).2 (k.conn d hd _ hmd x hx))⟩
  rw [this];exact hd
 exact H8 h.heads k.heads fun c=>⟨key h k hC c,key k h (fun x y=>(hC x y).symm) c⟩
end Go.Cb
namespace Go.Proofs.YtmkojdfiadbeeaaGreat
open Go.RowKit Go.Cb Go.En Tryz
set_option linter.all false
set_option maxRecDepth 100000
theorem Zgn {w:World} {B e k n:Nat} {v:Value} {xs:List Value} (h:w.ownsRow B e k v n xs):w.ownsRow 0 e k v n xs:=⟨h.1,h.2.imp id fun ⟨g,cap,cur,h1,_,h3⟩=>⟨g,cap,cur,h1,Xn _,h3⟩⟩
theorem Ph {w w':World} {M:BS} {v:Value} {e:Ending} {n te:Nat} {xs:List Value} (h1:e= .returned v) (h2:Ext w w') (h3:w'.ownsRow w.heap.size te 1 v n xs):Gn ⟨w,M,fun _=>False,0,False,[]⟩ (· = .own te 1 n (xs.map PV.val)) e w':=by
 refine ⟨v,_,fun b=>v.ownBlock=some b,h1,rfl,h2, .own xs (fun _ _=>False) (Zgn h3) sM (fun i x p hx hp=>?_) (fun _ _ _ _ _ _ h=>h.elim) (fun _ _ _ h=>h.elim) (fun b=>⟨fun h=> .inl h,fun h=>h.elim id fun ⟨_,_,h⟩=>h.elim⟩),fun b hb=>(h3.lt b hb).1,fun h=>h.elim⟩
 rw [Xm,hx] at hp
 cases hp
 exact .shr (.val _) (fun _ h=>h)
theorem Du (l:List Int) (hl:l.length≤1000000):AF prog 59 [pInts l] (· = .own 3 1 l.length (l.map Zf)):=fun M w vs hM hlen hv=>by
 obtain ⟨v,rfl⟩:=YG hlen
 have hS:=hv 0 v _ rfl rfl
 unfold pInts at hS
 generalize hn:l.length=n at hS
 generalize hcs:l.map Zf=cs at hS
 cases hS with
 | emp a c hc ha=>
   have:l=[]:=Xw hn;subst this
   cases a with
   |none=>exact (Tryz.slices_Clone_int_nil 0 c w).mono fun e w' ⟨h1,h2⟩=>Ph (n:=0) (xs:=[]) h1 (h2▸Ext.rfl' _) ⟨sM, .inl ⟨rfl,rfl⟩⟩
   |some a=>exact (Tryz.slices_Clone_int_zero a c w).mono fun e w' ⟨v',h1,h2,_,h3⟩=>Ph h1 h3 h2
 | sl b off n c cs vs' hnc hc hcell hT=>
   subst hn hcs;refine (Tryz.slices_Clone_int b off l.length c l w (Xc _) oM (fun j hj=>?_)).mono fun e w' ⟨v',h1,h2,_,h3⟩=>?_
   · obtain ⟨s,hs⟩:=Yf hj;have e1:=(hcell j (by rw [Xd];exact hj)).1;have e2:vs' j= .int .i64 s:=(hT j (Zf s) (by rw [Xm,hs];rfl)).vOf;rw [e1,e2,List.getD,hs];rfl
   · have:=Ph (M:=M) h1 h3 h2;rw [XI,Xt] at this;exact this
def ZjQ (c:List Int) (f:Nat→Bool):Bool:=c.any fun x=>f x.toNat
def W5 (S F:Nat→Bool) (c:List Int):Bool:=ZjQ c S&&ZjQ c F
theorem Zgo (n:Nat) (f:Nat→Bool) (x:Int) (hx:0≤x∧x<n):AF prog 109 [Zf x, .sptr 0 [Wv n f]] (· =ZB (f x.toNat)):=by
 obtain ⟨a,rfl⟩:∃a:Nat,x=a:=⟨x.toNat,oM⟩
 have e1:=Yp (fun j=>ZB (f j)) (show a<n by omega)
 refine AF.of_body 8 func109 rfl ntmps109 (Xa rfl) ?_
 intro w0 M0 vs hl hv
 obtain ⟨v0,v1,rfl⟩:=W7 hl
 obtain rfl:=hv 0 _ _ rfl rfl
 clear hl hv
 refine Zd ?_
 (refine xL 3 Zb ?_<;>refine Zi ?_)
 ((refine yL 4 (ZN Z1) fun v4 h=>?_;cases h)<;>refine xL 5 Za (xL 6 (Zv Yc) ?_)<;>(refine yL 7 (ZN Yv) fun v7 h=>?_;cases h)<;>refine xL 3 Zb ?_<;>refine Zc ?_)
 exact Zl results109 rfl rfl
theorem Zct (l:List Int) (n:Nat) (f:Nat→Bool) (hl:∀x∈l,0≤x∧x<n):AF prog 57 [pInts l,Wv n f] (· =ZB (ZjQ l f)):=by
 refine AF.of_body 8 func57 rfl ntmps57 (Xa rfl) ?_
 intro w0 M0 vs hl hv
 obtain ⟨v0,v1,rfl⟩:=W7 hl
 clear hl hv
 refine Zd ?_
 (refine Zfj 3 fun h3=>?_<;>refine xL 4 Zb ?_<;>refine Zc ?_)
 refine ZE (G8 (l:=3) (t:=3) (j:=0) rfl X8 rfl) fun _=>?_
 try dsimp only [Yt,share]
 (refine Zo ?_<;>refine xL 5 Za (xL 6 Lj ?_)<;>(refine cS 7 (cA call108 (Rb 109 [.sptr 0 [Wv n f]] (fun x=>f x.toNat) l (call109) (fun x hx=>Zgo n f x (hl x hx)))) fun v7 h=>?_;cases h)<;>refine xL 4 Zb ?_<;>refine Zc ?_)
 exact Zl results57 rfl rfl
def Za0 (E:Nat→Nat→Bool) (a b:Int):Bool:=decide (a≠b)&& !(E a.toNat b.toNat&&E b.toNat a.toNat)
def selA (i0:Nat) (W:List Int→Bool) (b:Bool) (cs:List (List Int)):List (List Int):=(cs.zipIdx.filter fun x=>decide (x.2≠i0)&&(W x.1==b)).map (·.1)
theorem Si {i0:Nat} {W:List Int→Bool} {b:Bool} {cs:List (List Int)} {k:Nat} {c:List Int} (h:cs[k]? =some c):selA i0 W b (cs.take (k+1))=selA i0 W b (cs.take k)++(if k≠i0∧W c=b then [c] else []):=by
 have hl:(cs.take k).length=k:=by rw [XF];have:=Zj h;omega
 unfold selA
 rw [ZW h,List.zipIdx_append,Us,X1]
 congr 1
 simp only [VN,V6,hl,Xx,List.filter_cons,List.filter_nil]
 by_cases h1:k≠i0∧W c=b
 · rw [UB h1];rw [Uy h1.1,h1.2];simp
 · rw [UA h1];by_cases h2:k≠i0
   · have h3:¬W c=b:=fun hh=>h1 ⟨h2,hh⟩;rw [show (W c==b)=false from beq_eq_false_iff_ne.2 h3];simp
   · rw [Uz h2];simp
theorem Dv {i0:Nat} {W:List Int→Bool} {b:Bool} {cs:List (List Int)} {c:List Int} (h:c∈selA i0 W b cs):c∈cs∧W c=b:=by
 unfold selA at h
 obtain ⟨⟨x,i⟩,hx,rfl⟩:=Xr.1 h
 rw [Vr] at hx
 simp only [Xe,Ux,beq_iff_eq] at hx
 exact ⟨by have:=List.mem_zipIdx hx.1;rw [this.2.2];exact XY _,hx.2.2⟩
theorem ζy (i0:Nat) (W:List Int→Bool) (b:Bool) (cs:List (List Int)):(selA i0 W b cs).length≤cs.length∧(selA i0 W b cs).flatten.length≤cs.flatten.length:=by
 unfold selA
 have key:∀L:List (List Int×Nat),((L.filter fun x=>decide (x.2≠i0)&&(W x.1==b)).map (·.1)).length≤L.length∧((L.filter fun x=>decide (x.2≠i0)&&(W x.1==b)).map (·.1)).flatten.length≤(L.map (·.1)).flatten.length:=fun L=>by
  induction L with
  |nil=>simp
  | cons x L ih=>
    rw [List.filter_cons];split
    · simp only [Xk,Xg,XR,Xf];omega
    · simp only [Xk,Xg,XR,Xf];omega
 have h1:=key cs.zipIdx
 rw [List.length_zipIdx,List.zipIdx_map_fst] at h1
 exact h1
def headsLe (cs:List (List Int)):Prop:=∀(i j:Nat) (a b:List Int),i<j→cs[i]? =some a→cs[j]? =some b→¬YX b-YX a<0
structure AndCs (cs:List (List Int)) (i0:Nat) (c0:List Int) (W:List Int→Bool) (ds:List (List Int)):Prop where
 perm:ds.Perm (selA i0 W true cs++[(c0++(selA i0 W false cs).flatten).mergeSort fun x y=>decide (x≤y)])
 ord:headsLe ds
theorem Zij (l:List ByteArray) (n:Nat) (E:Nat→Nat→Bool) (S F:Nat→Bool) (x y:Int) (hx:0≤x∧x<n) (hy:0≤y∧y<n):AF prog 55 [Zf x,Zf y, .sptr 0 [K9 l n E S F]] (· =ZB (Za0 E x y)):=by
 obtain ⟨a,rfl⟩:∃a:Nat,x=a:=⟨x.toNat,oM⟩
 obtain ⟨b,rfl⟩:∃b:Nat,y=b:=⟨y.toNat,oM⟩
 have e1:=Yp (fun i=>Wv n (E i)) (show a<n by omega)
 have e2:=Yp (fun j=>ZB (E a j)) (show b<n by omega)
 have e3:=Yp (fun i=>Wv n (E i)) (show b<n by omega)
 have e4:=Yp (fun j=>ZB (E b j)) (show a<n by omega)
 refine AF.of_body 34 func55 rfl ntmps55 (Xa rfl) ?_
 intro w0 M0 vs hl hv
 obtain ⟨v0,v1,v2,rfl⟩:=RI hl
 obtain rfl:=hv 0 _ _ rfl rfl
 obtain rfl:=hv 1 _ _ rfl rfl
 clear hl hv
 dsimp only [K9]
 refine Zd ?_
 (refine xL 5 Zb ?_<;>refine Zi ?_)
 (refine xL 6 Za (xL 7 Za (xL 8 Wg (xL 9 Za ?_)))<;>(refine bLd 9 (fun hb9=>?_) (fun hb9=>?_)<;>(first|refine kL 10 ?_|(refine yL 10 (ZN YI) fun v10 h=>?_;cases h)))<;>(first|refine kL 11 ?_|refine xL 11 Y0 ?_)<;>(first|refine kL 12 ?_|refine xL 12 (YN WA) ?_)<;>(first|refine kL 13 ?_|(refine yL 13 (ZN Y') fun v13 h=>?_;cases h))<;>(first|refine kL 14 ?_|refine xL 14 Za ?_)<;>(first|refine kL 15 ?_|refine xL 15 (Zv Yk) ?_)<;>(first|refine kL 16 ?_|(refine yL 16 (ZN Z1) fun v16 h=>?_;cases h))<;>(first|refine kL 17 ?_|refine xL 17 Za ?_)<;>(first|refine kL 18 ?_|refine xL 18 (Zv Yc) ?_)<;>(first|refine kL 19 ?_|(refine yL 19 (ZN Yv) fun v19 h=>?_;cases h))<;>(first|refine kL 20 ?_|refine xL 20 Za ?_)<;>(first|refine kL 21 ?_|(refine bL 20 (fun hb20=>?_) (fun hb20=>?_)<;>(first|refine kL 21 ?_|(refine yL 21 (ZN YI) fun v21 h=>?_;cases h))))<;>(first|refine kL 22 ?_|refine xL 22 Y0 ?_)<;>(first|refine kL 23 ?_|refine xL 23 (YN WA) ?_)<;>(first|refine kL 24 ?_|(refine yL 24 (ZN Y') fun v24 h=>?_;cases h))<;>(first|refine kL 25 ?_|refine xL 25 Za ?_)<;>(first|refine kL 26 ?_|refine xL 26 (Zv Yk) ?_)<;>(first|refine kL 27 ?_|(refine yL 27 (ZN Z1) fun v27 h=>?_;cases h))<;>(first|refine kL 28 ?_|refine xL 28 Za ?_)<;>(first|refine kL 29 ?_|refine xL 29 (Zv Yc) ?_)<;>(first|refine kL 30 ?_|(refine yL 30 (ZN Yv) fun v30 h=>?_;cases h))<;>(first|refine kL 31 ?_|refine xL 31 Zt ?_)<;>(first|refine kL 32 ?_|refine xL 32 Yd ?_)<;>refine xL 33 Zt (xL 5 Zb ?_)<;>refine Zc ?_)<;>(
 refine Zl (results55) rfl ?_;show ZB _=ZB _;unfold Za0;rw [XL,XL]
 first
  |(rw [Uy hb9,hb20];simp;done)
  |(rw [Uz hb9];rfl))
theorem Zcu (l:List ByteArray) (n:Nat) (E:Nat→Nat→Bool) (S F:Nat→Bool) (c:List Int) (hc:∀x∈c,0≤x∧x<n):AF prog 56 [pInts c, .sptr 0 [K9 l n E S F]] (· =ZB (W5 S F c)):=by
 refine AF.of_body 18 func56 rfl ntmps56 (Xa rfl) ?_
 intro w0 M0 vs hl hv
 obtain ⟨v0,v1,rfl⟩:=W7 hl
 clear hl hv
 dsimp only [K9]
 refine Zd ?_
 (refine xL 3 Zb ?_<;>refine Zi ?_)
 (refine xL 4 Za ?_<;>(refine yL 5 (ZN YI) fun v5 h=>?_;cases h)<;>refine xL 6 Y0 (xL 7 (YN Gf) ?_)<;>(refine yL 8 (ZN Z1) fun v8 h=>?_;cases h)<;>(refine cS 9 (cA call57 (Zct c n S hc)) fun v9 h=>?_;cases h)<;>refine xL 10 Za ?_<;>(refine bL 10 (fun hb10=>?_) (fun hb10=>?_)<;>(first|refine kL 11 ?_|refine xL 11 Za ?_))<;>(first|refine kL 12 ?_|(refine yL 12 (ZN YI) fun v12 h=>?_;cases h))<;>(first|refine kL 13 ?_|refine xL 13 Y0 ?_)<;>(first|refine kL 14 ?_|refine xL 14 (YN Gg) ?_)<;>(first|refine kL 15 ?_|(refine yL 15 (ZN Z1) fun v15 h=>?_;cases h))<;>(first|refine kL 16 ?_|(refine cS 16 (cA call57 (Zct c n F hc)) fun v16 h=>?_;cases h))<;>refine xL 17 Zt (xL 3 Zb ?_)<;>refine Zc ?_)<;>(
 refine Zl (results56) rfl ?_;show ZB _=ZB _;unfold W5;rw [hb10];simp)
theorem Zik (n:Nat) (x y:List Int) (hn:n≤1000000) (hx:x≠[]) (hy:y≠[]) (hx2:∀z∈x,0≤z∧z<n) (hy2:∀z∈y,0≤z∧z<n):AFg prog 61 [pInts x,pInts y] (· = .val (.int .i64 (YX x-YX y))):=by
 have hxl:=Vc.2 hx
 have hyl:=Vc.2 hy
 have bx:=hx2 _ (Pg hx)
 have bY:=hy2 _ (Pg hy)
 have e0:(x.map Zf)[0*1]? =some (Zf (YX x)):=by
  cases x with
  |nil=>exact UC rfl hx
  |cons z t=>rfl
 have e0':(y.map Zf)[0*1]? =some (Zf (YX y)):=by
  cases y with
  |nil=>exact UC rfl hy
  |cons z t=>rfl
 refine AFg.of_body 12 func61 rfl ntmps61 (Xa rfl) ?_
 intro w0 M0 vs hl hv
 obtain ⟨v0,v1,rfl⟩:=W7 hl
 clear hl hv
 dsimp only [pInts]
 refine Zd ?_
 (refine xL 4 Zb ?_<;>refine Zc ?_)
 (refine ZM (fun i=>([]:List Nat).elem i) [] kR ?_<;>refine xD 0 5 rfl Za ?_<;>refine xD 1 6 rfl (Zv (i:=0) Yb) ?_<;>(refine yD 2 7 rfl (ZN Ya) fun v7 h=>?_;cases h)<;>refine xE 3 8 rfl Za ?_<;>refine xE 4 9 rfl (Zv (i:=0) Yb) ?_<;>(refine yE 5 10 rfl (ZN Ya) fun v10 h=>?_;cases h)<;>refine xE 6 11 rfl KD ?_<;>refine xE 7 4 rfl Zb ?_<;>refine Ym kR (nav ?_)<;>try dsimp only)
 exact Zl results61 rfl rfl
theorem Zd2:ZaH prog 53 61:=fun enc h1 cf hO cb blk cap d w hcmp hH hblk hsz=>Tryz.slices_SortFunc enc h1 cf hO 61 cb blk 0 cap d w (call61) hcmp hH hblk hsz
def ZkO (l:List ByteArray) (n:Nat) (E:Nat→Nat→Bool) (S F:Nat→Bool) (p:PV):Prop:=∃cs,Comps (upTo n) (Za0 E) cs∧((idx (W5 S F) cs<0∧p= .tup [.agg [Zf 0, .val (.slice none 0 0)],Zf 10])∨∃i0 c0 ds,cs[i0]? =some c0∧idx (W5 S F) cs=(i0:Nat)∧AndCs cs i0 c0 (W5 S F) ds∧p=Dr l 3 ds)
set_option maxHeartbeats 2000000 in
theorem Zd3 (g : Dfg) (l:List ByteArray) (n:Nat) (E:Nat→Nat→Bool) (S F:Nat→Bool) (hb:AF prog 46 [KZ g] (· = .tup [K9 l n E S F,Zf 0])) (hl:l.length=n) (hn:n≤1000):AF prog 16 [KZ g] (ZkO l n E S F):=by
 refine AF.of_body 74 func16 rfl ntmps16 (Xa rfl) ?_
 intro w0 M0 vs hl hv
 obtain ⟨v0,rfl⟩:=YG hl
 clear hl hv
 refine Zd ?_
 (refine Yi 1 4 fun h1=>?_<;>refine ZA [(.int .i64 0),(.slice none 0 0)] 2 2 Ki fun h2=>?_<;>refine xL 3 Zb ?_<;>refine Zi ?_)
 ((refine yL 14 (Zu 1 YA) fun v14 h=>?_;cases h)<;>(refine cP 15 (cA call46 (hb)) fun va15 vb15 hva15 h=>?_;cases h)<;>refine xL 13 Za (xL 16 Zp (xL 17 Zp ?_))<;>refine ZA [(.pointer none)] 1 4 Pe fun h4=>?_<;>refine P5 4 YI Pd ?_<;>refine xL 5 Zb ?_<;>refine Zi ?_)
 (refine xL 18 Za (xL 19 Wg ?_)<;>refine Zc ?_)<;>(try (exfalso;omega))<;>(
 refine cX ?_ ?_<;>intro hb19
 · exfalso;omega
 · refine nav ?_;refine ZE (G8 (l:=4) (t:=4) (j:=0) rfl X8 rfl) fun _=>?_;dsimp only [Yt,share,List.map,K9];(refine Zo ?_<;>(refine yL 22 (ZN YI) fun v22 h=>?_;cases h)<;>(refine cS 23 (cA call49 ((E5 l _ oM).mono (R':=(· =pInts (upTo n))) fun p hp=>by rw [hp,hl])) fun v23 h=>?_;cases h)<;>refine xL 24 Lj ?_<;>(refine GN 25 rfl rfl (Xa rfl) rfl (cA call48 (G0 55 [.sptr 0 [K9 l n E S F]] (Za0 E) (upTo n) (TP n) (by rw [K1];omega) (call55) (fun x hx y hy=>Zij l n E S F x y (W0.1 hx) (W0.1 hy)))) ?_;rintro p' ⟨cs,hcs,rfl⟩;refine ⟨rfl,fun h25 ho25=>?_⟩;refine ZJ (En.freeze (l:=25) (t:=25) rfl rfl) fun _=>?_;rw [Ji _ _ _ rfl])<;>refine xL 6 Zb ?_<;>refine Zi ?_)
   (refine xL 26 Lj (xL 7 Zb ?_)<;>refine Zc ?_)
   have hin:=Gh hcs;(refine Zo ?_<;>refine xL 27 Za (xL 28 Za ?_)<;>(refine cS 29 (cA call58 (P6 56 [.sptr 0 [K9 l n E S F]] (W5 S F) cs (call56) (fun c hc=>Zcu l n E S F c (hin.1 c hc)))) fun v29 h=>?_;cases h)<;>refine xL 8 Zb ?_<;>refine Zi ?_)
   (refine xL 30 Za (xL 31 ZI ?_)<;>refine Zc ?_)
   refine cX ?_ ?_<;>intro hb31
   · first|exact bN hb31|(
 refine Zd ?_;(refine xL 32 (ZO Sf) ?_<;>refine Zw 2 YB ?_<;>refine xL 3 Zb ?_<;>refine Zc ?_)
 exact Yn (k:=2) 2 kR (results16) rfl rfl rfl (Xa rfl) dC rfl ⟨cs,hcs, .inl ⟨hb31,rfl⟩⟩)
   · first | exact bN hb31|(
 obtain ⟨i0,hi0⟩:∃i0:Nat,idx (W5 S F) cs=i0:=⟨(idx (W5 S F) cs).toNat,oM⟩;have hib:=(Zak (W5 S F) cs).2;rw [hi0];obtain ⟨c0,hc0⟩:=Zm (show i0<cs.length by omega);have e0:=Yq (f:=pInts) hc0;have hc0m:=Xb hc0;have hc0l:=hin.2.2 c0 hc0m;refine Zd ?_;(refine xL 9 Zb ?_<;>refine Zi ?_)
 (refine xL 33 Za (xL 34 Za (xL 35 (Zv Ke) ?_))<;>(refine yL 36 (ZN LB) fun v36 h=>?_;cases h)<;>refine cO 37 (cA call59 (Du c0 oM)) fun v37 ho37=>?_<;>refine xL 10 Zb ?_<;>refine Zi ?_)
 (refine xL 38 Za (xL 39 (ZF Ke) (xL 40 Za ?_))<;>refine Zc ?_)
 refine ZE (W3 200 90 1 rfl) fun _=>?_;refine ZE (Z5 (l:=37) 201 rfl rfl) fun _=>?_;refine Zy (ι:={x:Nat×Value×Value×List (List Int)×List Int//x.1≤cs.length∧x.2.2.1.oneCell'=true∧x.2.2.2.1=selA i0 (W5 S F) true (cs.take x.1)∧x.2.2.2.2=c0++(selA i0 (W5 S F) false (cs.take x.1)).flatten}) (fun k=>⟨[(2,_,_),(4,_,_),(7,_,_),(8,_,_),(38,_,_),(39,_,_),(9,k.1.2.1, .val k.1.2.1),(10,k.1.2.2.1, .val k.1.2.2.1),(40, .int .i64 k.1.1,Zf k.1.1)],[(2,_,_),(200,k.1.2.1, .own 90 1 k.1.2.2.2.1.length (k.1.2.2.2.1.map pInts)),(201,k.1.2.2.1, .own 3 1 k.1.2.2.2.2.length (k.1.2.2.2.2.map Zf))]⟩) (fun k=>cs.length-k.1.1) ⟨(0, .slice none 0 0,v37,[],c0),Xn _,ho37,rfl,(Xu c0).symm⟩ (fun a w H=>H.weaken ⟨rfl,rfl,rfl,rfl,rfl,rfl,rfl,rfl,rfl,trivial⟩ ⟨rfl,rfl,rfl,trivial⟩) ?_;rintro ⟨⟨k,ha,hbv,A,B⟩,hk,hob,hA,hB⟩;dsimp only;dsimp only at hk hob hA hB;have hAl:A.length≤1000:=by
  have:=(ζy i0 (W5 S F) true (cs.take k)).1;rw [hA];rw [XF] at this;omega
 have hBl:B.length≤2000:=by
  have h1:=(ζy i0 (W5 S F) false (cs.take k)).2;have h2:(cs.take k).flatten.length≤cs.flatten.length:=by
   (have:cs.flatten=(cs.take k).flatten++(cs.drop k).flatten:=by rw [←VA,VH]);rw [this,Xf];omega
  have h3:=JV hcs.nd (fun x hx=>(hcs.mem x).1 hx);rw [K1] at h3;rw [hB,Xf];omega
 have hAm:(A.map pInts).length=A.length:=Xd _;have hBm:(B.map Zf).length=B.length:=Xd _;refine Zd ?_;(refine xL 41 ZI ?_<;>refine Zc ?_)
 refine cX ?_ ?_<;>intro hb41
 · first | exact bN hb41|(
 obtain ⟨cl,hx⟩:=Zm (show k<cs.length by omega);have e1:=Yq (f:=pInts) hx;have hcm:=Xb hx;have hcll:=hin.2.2 cl hcm;have s1:=Si (i0:=i0) (W:=W5 S F) (b:=true) hx;have s2:=Si (i0:=i0) (W:=W5 S F) (b:=false) hx;(have e2:(cl.map Zf).length=cl.length*1:=by rw [Xd,XO]);(have e3:(cl.map Zf).all En.one=true:=by rw [List.all_map,Xj];intro x _;rfl);refine Zd ?_;(refine xL 42 Za (xL 43 (Zv Ke) ?_)<;>(refine yL 44 (ZN LB) fun v44 h=>?_;cases h)<;>refine xL 11 Zb (xL 12 Zb ?_)<;>refine Zi ?_)
 (refine xL 49 Za (xL 50 Za (xL 51 ZU (xL 48 Zb ?_)))<;>refine Zc ?_)
 refine cX ?_ ?_<;>intro hb48
 · first |exact bN hb48|(
 refine Zd ?_;(refine xL 60 ZH (xL 40 Za ?_)<;>refine Zc ?_)
 try refine Yh (Z5 (l:=59) 200 rfl rfl) fun _=>?_
 try refine Yh (Z5 (l:=47) 201 rfl rfl) fun _=>?_
 try rw [show A.map pInts++[pInts cl]=(A++[cl]).map pInts by simp,show A.length+1=(A++[cl]).length by simp]
 try rw [show B.map Zf++cl.map Zf=(B++cl).map Zf by simp,show B.length+cl.length=(B++cl).length by simp]
 first
  | (exact Zh (
      ⟨(k+1,h59,hbv,A++[cl],B),by show k+1≤cs.length;omega,hob,by show A++[cl]=_;rw [s1,UB ⟨oM,hb52⟩,hA],by show B=_;rw [s2,UA (fun h=>by rw [hb52] at h;exact Bool.noConfusion h.2),Xu,hB]⟩
      ) (by show cs.length-(k+1)<cs.length-k;omega) ⟨rfl,rfl,rfl,rfl,rfl,rfl,rfl,rfl,rfl,trivial⟩ ⟨rfl,rfl,rfl,trivial⟩)
  | (exact Zh (
      ⟨(k+1,ha,h47,A,B++cl),by show k+1≤cs.length;omega,ho47,by show A=_;rw [s1,UA (fun h=>by rw [hb52] at h;exact Bool.noConfusion h.2),Xu,hA],by show B++cl=_;rw [s2,UB ⟨oM,hb52⟩,hB];simp⟩
      ) (by show cs.length-(k+1)<cs.length-k;omega) ⟨rfl,rfl,rfl,rfl,rfl,rfl,rfl,rfl,rfl,trivial⟩ ⟨rfl,rfl,rfl,trivial⟩)
  | (exact Zh (
      ⟨(k+1,ha,hbv,A,B),by show k+1≤cs.length;omega,hob,by show A=_;rw [s1,UA (fun h=>oM),Xu,hA],by show B=_;rw [s2,UA (fun h=>oM),Xu,hB]⟩
      ) (by show cs.length-(k+1)<cs.length-k;omega) ⟨rfl,rfl,rfl,rfl,rfl,rfl,rfl,rfl,rfl,trivial⟩ ⟨rfl,rfl,rfl,trivial⟩))
 · first | exact bN hb48|(
 refine Zd ?_;(refine xL 53 Za (xL 54 Za ?_)<;>(refine cS 55 (J7 (f:=56) (ps:=[.sptr 0 [K9 l n E S F]]) rfl ⟨_,rfl⟩ (call56) rfl (Zcu l n E S F cl (hin.1 cl hcm))) fun v55 h=>?_;cases h)<;>refine xL 52 Zb ?_<;>refine Zc ?_)
 refine cX ?_ ?_<;>intro hb52
 · first |exact bN hb52|(
 refine Zd ?_;(refine xL 56 Za (xL 57 Za ?_)<;>refine W4 (kk:=1) 58 Kw fun h58 ho58=>?_<;>refine Kd 200 58 59 Kw fun h59 ho59=>?_<;>refine xL 9 Zb ?_<;>refine Zi ?_)
 (refine xL 60 ZH (xL 40 Za ?_)<;>refine Zc ?_)
 try refine Yh (Z5 (l:=59) 200 rfl rfl) fun _=>?_
 try refine Yh (Z5 (l:=47) 201 rfl rfl) fun _=>?_
 try rw [show A.map pInts++[pInts cl]=(A++[cl]).map pInts by simp,show A.length+1=(A++[cl]).length by simp]
 try rw [show B.map Zf++cl.map Zf=(B++cl).map Zf by simp,show B.length+cl.length=(B++cl).length by simp]
 first
  | (exact Zh (
      ⟨(k+1,h59,hbv,A++[cl],B),by show k+1≤cs.length;omega,hob,by show A++[cl]=_;rw [s1,UB ⟨oM,hb52⟩,hA],by show B=_;rw [s2,UA (fun h=>by rw [hb52] at h;exact Bool.noConfusion h.2),Xu,hB]⟩
      ) (by show cs.length-(k+1)<cs.length-k;omega) ⟨rfl,rfl,rfl,rfl,rfl,rfl,rfl,rfl,rfl,trivial⟩ ⟨rfl,rfl,rfl,trivial⟩)
  | (exact Zh (
      ⟨(k+1,ha,h47,A,B++cl),by show k+1≤cs.length;omega,ho47,by show A=_;rw [s1,UA (fun h=>by rw [hb52] at h;exact Bool.noConfusion h.2),Xu,hA],by show B++cl=_;rw [s2,UB ⟨oM,hb52⟩,hB];simp⟩
      ) (by show cs.length-(k+1)<cs.length-k;omega) ⟨rfl,rfl,rfl,rfl,rfl,rfl,rfl,rfl,rfl,trivial⟩ ⟨rfl,rfl,rfl,trivial⟩)
  | (exact Zh (
      ⟨(k+1,ha,hbv,A,B),by show k+1≤cs.length;omega,hob,by show A=_;rw [s1,UA (fun h=>oM),Xu,hA],by show B=_;rw [s2,UA (fun h=>oM),Xu,hB]⟩
      ) (by show cs.length-(k+1)<cs.length-k;omega) ⟨rfl,rfl,rfl,rfl,rfl,rfl,rfl,rfl,rfl,trivial⟩ ⟨rfl,rfl,rfl,trivial⟩))
 · first |exact bN hb52|(
 refine Zd ?_;(refine xL 45 Za (xL 46 Za ?_)<;>refine O4 201 47 WF fun h47 ho47=>?_<;>refine xL 10 Zb ?_<;>refine Zi ?_)
 (refine xL 60 ZH (xL 40 Za ?_)<;>refine Zc ?_)
 try refine Yh (Z5 (l:=59) 200 rfl rfl) fun _=>?_
 try refine Yh (Z5 (l:=47) 201 rfl rfl) fun _=>?_
 try rw [show A.map pInts++[pInts cl]=(A++[cl]).map pInts by simp,show A.length+1=(A++[cl]).length by simp]
 try rw [show B.map Zf++cl.map Zf=(B++cl).map Zf by simp,show B.length+cl.length=(B++cl).length by simp]
 first
  | (exact Zh (
      ⟨(k+1,h59,hbv,A++[cl],B),by show k+1≤cs.length;omega,hob,by show A++[cl]=_;rw [s1,UB ⟨oM,hb52⟩,hA],by show B=_;rw [s2,UA (fun h=>by rw [hb52] at h;exact Bool.noConfusion h.2),Xu,hB]⟩
      ) (by show cs.length-(k+1)<cs.length-k;omega) ⟨rfl,rfl,rfl,rfl,rfl,rfl,rfl,rfl,rfl,trivial⟩ ⟨rfl,rfl,rfl,trivial⟩)
  | (exact Zh (
      ⟨(k+1,ha,h47,A,B++cl),by show k+1≤cs.length;omega,ho47,by show A=_;rw [s1,UA (fun h=>by rw [hb52] at h;exact Bool.noConfusion h.2),Xu,hA],by show B++cl=_;rw [s2,UB ⟨oM,hb52⟩,hB];simp⟩
      ) (by show cs.length-(k+1)<cs.length-k;omega) ⟨rfl,rfl,rfl,rfl,rfl,rfl,rfl,rfl,rfl,trivial⟩ ⟨rfl,rfl,rfl,trivial⟩)
  | (exact Zh (
      ⟨(k+1,ha,hbv,A,B),by show k+1≤cs.length;omega,hob,by show A=_;rw [s1,UA (fun h=>oM),Xu,hA],by show B=_;rw [s2,UA (fun h=>oM),Xu,hB]⟩
      ) (by show cs.length-(k+1)<cs.length-k;omega) ⟨rfl,rfl,rfl,rfl,rfl,rfl,rfl,rfl,rfl,trivial⟩ ⟨rfl,rfl,rfl,trivial⟩))))
 · first|exact bN hb41|(
 refine nav ?_;have hkl:k=cs.length:=oM;(have hAe:A=selA i0 (W5 S F) true cs:=by rw [hA,hkl,XI]);(have hBe:B=c0++(selA i0 (W5 S F) false cs).flatten:=by rw [hB,hkl,XI]);have hBp:0<B.length:=by
  have:=Vc.2 (hcs.ne c0 hc0m);rw [hBe,Xf];omega
 obtain ⟨Bs,hBs⟩:∃Bs,Bs=B.mergeSort fun x y=>decide (x≤y):=⟨_,rfl⟩;(have hBsl:Bs.length=B.length:=by rw [hBs,VT]);have hBi:∀x∈Bs,0≤x∧x<n:=fun x hx=>by
  rw [hBs,WZ,hBe,Xz] at hx;rcases hx with h|h
  · exact hin.1 c0 hc0m x h
  · obtain ⟨d,hd,hxd⟩:=Vm.1 h;exact hin.1 d (Dv hd).1 x hxd
 obtain ⟨rs,hrs⟩:∃rs,rs=A++[Bs]:=⟨_,rfl⟩;have hrm:∀c∈rs,c≠[]∧(∀x∈c,0≤x∧x<n)∧c.length≤2000:=fun c hc=>by
  rw [hrs,Xz,XB] at hc;rcases hc with h|rfl
  · rw [hAe] at h;have:=(Dv h).1;exact ⟨hcs.ne c this,hin.1 c this,by have:=hin.2.2 c this;omega⟩
  · exact ⟨Vc.1 oM,hBi,oM⟩
 (have hrl:rs.length≤2000:=by rw [hrs,Xf,XA];omega);(have hrp:0<rs.attach.length:=by rw [VL,hrs,Xf,XA];omega);(refine Zo ?_<;>refine xL 61 Za ?_<;>(refine EM 201 Pf (call60) ?_ hBp;rw [←hBs])<;>refine Zi ?_)
 (refine xL 63 Za (xL 64 Za ?_)<;>refine W4 (kk:=1) 65 Kw fun h65 ho65=>?_<;>refine Kd 200 65 66 Kw fun h66 ho66=>?_<;>refine xL 9 Zb ?_<;>refine Zc ?_)
 refine ZE (KA (l:=66) (l':=201) (j:=A.length) rfl (Rt (Xd _).symm) rfl rfl) fun _=>?_;rw [Sg (Xd _).symm,JW _ _ _ hBsl.symm];rw [show A.map pInts++[pInts Bs]=rs.attach.map (fun c:{c//c∈rs}=>pInts c.1) by rw [List.attach_map_val (f:=pInts),hrs];simp,show A.length+1=rs.attach.length by rw [VL,hrs];simp];(refine Zo ?_<;>refine xL 67 Za ?_<;>(refine ZbX (β:={c//c∈rs}) (f:=fun c=>pInts c.1) (cmp:=fun a b=>YX a.1-YX b.1) (rows:=rs.attach) 66 Zd2 (call53) (fun _=>rfl) (fun a=>oM) (fun a b c h1 h2=>oM) (fun a b c h1 h2=>oM) (fun x _ y _=>Zik n x.1 y.1 oM (hrm _ x.2).1 (hrm _ y.2).1 (hrm _ x.2).2.1 (hrm _ y.2).2.1) hrp (by rw [VL];omega) (fun rows' hperm hord=>?_))<;>refine Zc ?_)
 obtain ⟨ds,hds⟩:∃ds,ds=rows'.map (·.1):=⟨_,rfl⟩;(have hpd:ds.Perm rs:=by rw [hds];have:=hperm.map (·.1);rw [List.attach_map_subtype_val] at this;exact this);have hsq:AndCs cs i0 c0 (W5 S F) ds:=⟨by rw [←hAe,←hBe,←hBs,←hrs];exact hpd,fun i j a b hij ha hb=>by
  rw [hds,Xm,XN] at ha hb;obtain ⟨a',ha',rfl⟩:=ha;obtain ⟨b',hb',rfl⟩:=hb;exact hord i j a' b' hij ha' hb'⟩
 rw [show rows'.map (fun c:{c//c∈rs}=>pInts c.1)=ds.map pInts by rw [hds,Xt];rfl,show rs.attach.length=ds.length by rw [VL];exact hpd.length_eq.symm];refine ZE (En.freeze (l:=66) (t:=9) rfl rfl) fun _=>?_;rw [Ji _ _ _ rfl];(have hdi:∀c∈ds,∀x∈c,0≤x∧x<l.length:=fun c hc=>by rw [hl];exact (hrm c (hpd.mem_iff.1 hc)).2.1);(have hdl:ds.length≤1000000:=by rw [hpd.length_eq];omega);(have hdc:∀c∈ds,c.length≤1000000:=fun c hc=>by have:=(hrm c (hpd.mem_iff.1 hc)).2.2;omega);(refine Zo ?_<;>(refine yL 69 (ZN YI) fun v69 h=>?_;cases h)<;>refine xL 70 Za ?_<;>(by_cases hm:ds.length<2<;>first|(refine cP 71 (cA call47 (TO l _ 3 ds hm)) fun va71 vb71 hva71 h=>?_;cases h)|(refine cP 71 (cA call47 (Ru l _ 3 ds oM hdi hdl hdc)) fun va71 vb71 hva71 h=>?_;cases h))<;>refine xL 72 Zp (xL 73 Zp ?_)<;>refine Zw 2 YB ?_<;>refine xL 3 Zb ?_<;>refine Zc ?_)<;>(
 refine Yn (k:=2) 2 kR (results16) rfl rfl rfl (Xa rfl) dC rfl ⟨cs,hcs, .inr ⟨i0,c0,ds,hc0,hi0,hsq,?_⟩⟩;unfold Dr
 first
  |(rw [UB hm];rfl)
  |(rw [UA hm];rfl)))))
end Go.Proofs.YtmkojdfiadbeeaaGreat
