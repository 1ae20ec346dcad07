/-
  Walks of functions and plain laws of the chapter, as the claim needs them.
-/
import Derived.Test.YtmkojdfiadbeeaaGreatPe03
import Derived.Test.YtmkojdfiadbeeaaGreatPe02
import Derived.Test.YtmkojdfiadbeeaaGreatPe05
import Derived.Test.YtmkojdfiadbeeaaGreatMShelfB
import Derived.Test.YtmkojdfiadbeeaaGreatPe04
import Derived.Test.YtmkojdfiadbeeaaGreatPe01
set_option linter.all false
set_option maxRecDepth 100000
set_option maxHeartbeats 8000000
namespace Go.Proofs.YtmkojdfiadbeeaaGreat
open Go.RowKit Go.Cb Go.En Tryz
theorem Ck:FldT prog 42 0 0=true:=kR
theorem Cl:FldT prog 42 1 1=true:=kR
theorem Ex:MpT prog 78 9 3 .string (.int .i64 0):=⟨underlying78,underlying9, .inl rfl,by show ZeroT _ _ _;unfold ZeroT;kernel_rfl⟩
theorem Zj2:NoAgg prog 26=true:=kR
theorem ZeZ:NoAgg prog 3=true:=kR
theorem ZbP:NoAgg prog 40=true:=kR
theorem Ze0:NoAgg prog 9=true:=kR
theorem O7:SlT prog 26 9 1=true:=kR
theorem Ey:SlT prog 40 26 1=true:=kR
def Om (i:Nat) (p:List BA):List (BA×Value):=p.map fun s=>(s,Value.int .i64 (i:Int))
def Y0:Nat->List (List BA)->List (BA×Value)
 |_,[]=>[]
 |i,p::ps=>Om i p++Y0 (i+1) ps
theorem Hw:∀(ps:List (List BA)) (i:Nat) (p:List BA),Y0 i (ps++[p])=Y0 i ps++Om (i+ps.length) p
 |[],i,p=>by simp [Y0]
 | q::ps,i,p=>by
   rw [Vd,Y0,Y0,Hw ps (i+1) p,XH];congr 3;simp;omega
theorem Cm {es fs:List (BA×Value)} {s:BA}:Ks (es++fs) s=match Ks es s with|some v=>some v|none=>Ks fs s:=by
 induction es with
 |nil=>rfl
 | cons x l ih=>
   simp only [Vd,Ks];split
   . rfl
   . exact ih
theorem ZbQ (i:Nat) (p:List BA) (s:BA):Ks (Om i p) s=if hasStr p s then some (.int .i64 (i:Int)) else none:=by
 induction p with
 |nil=>rfl
 | cons x p ih=>
   simp only [Om,Xm,Ks];by_cases h:s=x
   . subst h;(have:hasStr (s::p) s=true:=by unfold hasStr;simp;exact .inl (Y'.2 rfl));simp [this]
   . have h0:W4 x s=false:=by
      cases h1:W4 x s
      . rfl
      . exact Qd (Y'.1 h1).symm h
     (have:hasStr (x::p) s=hasStr p s:=by unfold hasStr;simp [h0]);rw [Qb h,this];exact ih
theorem Hx:∀(ps:List (List BA)) (i:Nat) (s:BA),Ks (Y0 i ps) s=(ps.findIdx? fun p=>hasStr p s).map fun (j:Nat)=>Value.int .i64 ((i+j:Nat):Int)
 |[],i,s=>rfl
 | p ::ps,i,s=>by
   rw [Y0,Cm,ZbQ,List.findIdx?_cons,Hx ps (i+1) s]
   cases hasStr p s
   . simp [Function.comp_def]
     cases ps.findIdx? fun p=>hasStr p s<;>simp;omega
   . simp
theorem DF (ps:List (List BA)) (s:BA):Ks (Y0 0 ps) s=(T6 ps s).map fun n=>Value.int .i64 n:=by
 rw [Hx]
 unfold T6
 rw [Option.map_map]
 congr 1
 funext j
 simp
theorem ζ2 {es:List (BA×Value)} {s:BA} {v:Value} (h:Ks es s=none):K8 es s v=es++[(s,v)]:=by
 induction es with
 |nil=>rfl
 | cons x l ih=>
   simp only [Ks] at h;split at h
   . cases h
   . rename_i hx;rw [K8,Qb hx,ih h,Vd]
theorem ZmX (ps:List (List BA)) (p:List BA) (s:BA) (k:Nat):(Ks (Y0 0 ps++Om k p) s).isSome=hasStr (ps.flatten++p) s:=by
 rw [Cm,DF]
 have h1:=ζo ps s
 have h2:hasStr (ps.flatten++p) s=(hasStr ps.flatten s||hasStr p s):=by unfold hasStr;rw [UA]
 rw [h2,<-h1,ZbQ]
 cases T6 ps s<;>cases hasStr p s<;>rfl
def ZgI (c:Cut) (p:PV):Prop:=∃q,p= .tup [q,Zr (YZ c)]/\(YZ c=true->q= .omap (skv (Y0 0 c.parts)))/\(q= .val (.map none)\/∃es,q= .omap es)
theorem O8 {c:Cut} (h:W8 [] c.parts=false):YZ c=false:=by unfold YZ;rw [h];simp
theorem O9 {c:Cut} (h:YZ c=false):ZgI c (.tup [.val (.map none),Zr false]):=⟨_,by rw [h],fun h'=>(by rw [h] at h';cases h'), .inl rfl⟩
theorem Ze1 (c:Cut) (hs:∀p∈c.parts,∀s∈p,s.size<=140737488355328):AF prog 64 [Pf c] (ZgI c):=by
 refine AF.b1 75 func64 rfl ntmps64 (Xa rfl) fun w0 M0 v0 _=>?_
 refine Zi ?_
 refine Yi 1 2 fun h1=>?_;refine J9 ?_
 refine S6 11 fun h11 ho11=>?_;refine ZX ?_
 refine xM (Zc 1 Cl) ?_;refine yU (Zh 1 ZbP) fun v13=>?_;refine xL 14 (Zs Ey) (xL 15 Za ?_);refine Zw ?_
 refine Ki 13 rfl fun hlen=>?_
 refine Yq (ι:={k:Nat//k<=c.parts.length/\W8 [] c.parts=W8 (c.parts.take k).flatten (c.parts.drop k)}) (fun k=>⟨[(1,padd (sbase h1) 0, .val (padd (sbase h1) 0)),(4,h11, .val h11),(13,v13,LG c.parts),(14, .int .i64 c.parts.length,Zb c.parts.length),(15, .int .i64 k.1,Zb k.1)],[(1,h1, .own 42 2 1 [Zb c.kind,LG c.parts]),(11,h11, .omap (skv (Y0 0 (c.parts.take k.1))))]⟩) (fun k=>c.parts.length-k.1) ⟨0,oM,rfl⟩ ?_
 rintro ⟨k,hk,hpre⟩
 dsimp only
 refine ZD ?_
 refine Ys rfl ?_ ?_
 . intro hb;have hlt:k<c.parts.length:=by have:=Qe hb;omega
   obtain ⟨p,hx⟩:=get_some hlt;have e1:=Yh (f:=ZW) hx;have hpm:=hs p (Xb hx);have HD:W8 (c.parts.take k).flatten (c.parts.drop k)=((LD p&&Jv (c.parts.take k).flatten p)&&W8 (c.parts.take (k+1)).flatten (c.parts.drop (k+1))):=by
    rw [WL hx,W8,OL hx]
   refine Zi ?_;refine xL 17 Za (xL 18 (Ze Ey) ?_);refine yU (Zu Zj2) fun v19=>?_;refine KI ?_;refine Ki 6 rfl fun hlenp=>?_;refine Zo ?_;refine xL 20 Za (xL 21 (Zs O7) (xL 22 Za ?_));refine Zw ?_;refine Y9 (ι:={j:Nat//j<=p.length/\∀m s,m<j->p[m]? =some s->ζq (c.parts.take k).flatten p m s}) (fun j=>⟨[(1,padd (sbase h1) 0, .val (padd (sbase h1) 0)),(4,h11, .val h11),(5, .int .i64 k,Zb k),(6,v19,ZW p),(20,v19,ZW p),(21, .int .i64 p.length,Zb p.length),(22, .int .i64 j.1,Zb j.1),(13,v13,LG c.parts),(14, .int .i64 c.parts.length,Zb c.parts.length),(15, .int .i64 k,Zb k)],[(1,h1, .own 42 2 1 [Zb c.kind,LG c.parts]),(11,h11, .omap (skv (Y0 0 (c.parts.take k)++Om k (p.take j.1))))]⟩) (fun j=>p.length-j.1) ⟨0,oM,fun m s hm=>oM⟩ (fun a w H=>H.weaken sB ⟨rfl,by simp [Om];rfl,trivial⟩) ?_;rintro ⟨j,hj,hprei⟩;dsimp only;refine ZD ?_;refine Ys rfl ?_ ?_
   . intro hb2;(have hltj:j<p.length:=by have:=Qe hb2;omega);obtain ⟨s,hsj⟩:=get_some hltj;have e2:=Yh (f:=Zv) hsj;have hss:=hpm s (Xb hsj);have hy:0<j->∃y,p[j-1]? =some y/\(p.map Zv)[j-1]? =some (Zv y):=fun h0=>by
      obtain ⟨y,hy⟩:=gS p (j-1);exact ⟨y,hy,by rw [Xl,hy];rfl⟩
     have hmg:=LH (Y0 0 (c.parts.take k)++Om k (p.take j)) s;have hsome:=ZmX (c.parts.take k) (p.take j) s k;refine Zi ?_;refine xL 24 Za (xL 25 (Ze O7) ?_);refine yV (Zu Ze0) ?_;refine J9 ?_;refine xL 28 Za (xL 29 Za (xL 30 (ZdN 11 Ex) (xL 27 Za (xL 31 Y4 (xL 32 Y4 (xL 9 ZJ (xL 10 ZJ ?_)))))));refine Ym ?_;refine ZO ?_<;>(refine bL 34 (fun hb34=>?_) (fun hb34=>?_)<;>refine kZ ?_)<;>(first|refine kL ?_|(refine P4 36 rfl rfl (Xa rfl) (D8 rfl (call98) rfl (He s oM)) ?_;rintro p' rfl;refine ⟨rfl,?_⟩;intro v36 hv36;cases hv36))<;>refine kZ ?_<;>refine ZO ?_<;>(first|refine kL ?_|(refine bL 39 (fun hb39=>?_) (fun hb39=>?_)<;>refine kZ ?_))<;>refine kZ ?_<;>refine kZ ?_<;>(first|refine kL ?_|(refine bLd 42 (fun hb42=>?_) (fun hb42=>?_)<;>refine kZ ?_))<;>refine kZ ?_<;>refine kZ ?_<;>(first|refine kL ?_|refine xM (T0 O7) ?_)<;>(first|refine kL ?_|(refine (hy oM).elim fun y hy12=>?_;refine Za3 47 rfl rfl (Xa rfl) (H9 (j-1) Ze0 rfl rfl oM hy12.2) ?_;intro v47 hv47;cases hv47))<;>refine kZ ?_<;>(first|refine kL ?_|refine xM ZcD ?_)<;>refine kZ ?_<;>refine ZN ?_<;>refine Zw ?_
     ·
      have hF:YZ c=false:=O8 (by
       rw [hpre,HD,ζr hsj (fun h=>by have:=h.1;rw [<-hsome,<-hmg,hb34] at this;cases this)];rfl)
      refine Ys rfl ?_ (fun h=>by cases h);intro _;refine ZU ?_;exact Y7 (results64) rfl rfl (O9 hF)
     ·
      have hF:YZ c=false:=O8 (by
       rw [hpre,HD,ζr hsj (fun h=>by have:=h.2.1;rw [this] at hb39;cases hb39)];rfl)
      refine Ys rfl ?_ (fun h=>by cases h);intro _;refine ZU ?_;exact Y7 (results64) rfl rfl (O9 hF)
     . refine Ys rfl ?_ ?_
       . intro hb3;have hF:YZ c=false:=O8 (by
          rw [hpre,HD,ζr hsj (fun h=>by
           have:=h.2.2 y oM hy12.1;unfold strLt at this;rw [this] at hb3;cases hb3)];rfl)
         refine ZU ?_;exact Y7 (results64) rfl rfl (O9 hF)
       . intro hb3;have hok:ζq (c.parts.take k).flatten p j s:=⟨by rw [<-hsome,<-hmg];exact hb34,by cases h:isName s<;>simp_all,fun y' _ hy'=>by
          rw [hy12.1] at hy';cases hy';unfold strLt
          cases h:Op.bytesLess y.toList s.toList
          . rw [h] at hb3;cases hb3
          . rfl⟩
         have hput:RB (skv (Y0 0 (c.parts.take k)++Om k (p.take j))) (.string s) (.int .i64 (k:Int))=skv (Y0 0 (c.parts.take k)++Om k (p.take (j+1))):=by
          rw [P6,ζ2 (by rw [<-LH];cases h:Kv (skv (Y0 0 (c.parts.take k)++Om k (p.take j))) (.string s) with|none=>rfl|some _=>rw [h] at hb34;cases hb34),XH,Z2 hsj];congr 2;simp [Om]
         refine WJ ?_;refine Pj 11 Ex ?_;refine Ym ?_;refine KI ?_;refine Zf ⟨j+1,oM,fun m s' hm hs'=>?_⟩ (by show p.length-(j+1)<p.length-j;omega) sB ⟨rfl,by show some _=some _;rw [hput],trivial⟩;by_cases e:m=j
         . subst e;rw [hsj] at hs';cases hs';exact hok
         . exact hprei m s' oM hs'
     . refine Ys rfl (fun h=>by cases h) ?_;intro _;have hok:ζq (c.parts.take k).flatten p j s:=⟨by rw [<-hsome,<-hmg];exact hb34,by cases h:isName s<;>simp_all,fun y' h1=>oM⟩;have hput:RB (skv (Y0 0 (c.parts.take k)++Om k (p.take j))) (.string s) (.int .i64 (k:Int))=skv (Y0 0 (c.parts.take k)++Om k (p.take (j+1))):=by
        rw [P6,ζ2 (by rw [<-LH];cases h:Kv (skv (Y0 0 (c.parts.take k)++Om k (p.take j))) (.string s) with|none=>rfl|some _=>rw [h] at hb34;cases hb34),XH,Z2 hsj];congr 2;simp [Om]
       refine WJ ?_;refine Pj 11 Ex ?_;refine Ym ?_;refine KI ?_;refine Zf ⟨j+1,oM,fun m s' hm hs'=>?_⟩ (by show p.length-(j+1)<p.length-j;omega) sB ⟨rfl,by show some _=some _;rw [hput],trivial⟩;by_cases e:m=j
       . subst e;rw [hsj] at hs';cases hs';exact hok
       . exact hprei m s' oM hs'
   . intro hb2;(have hge:p.length<=j:=by have:=Qf hb2;omega);refine Zi ?_;refine xL 56 Za (xL 57 (Zs O7) (xL 58 Ky ?_));refine Zw ?_;refine Ys rfl ?_ ?_
     . intro hb3;have h0:p=[]:=Xv (by have:=Qe hb3;omega);have hF:YZ c=false:=O8 (by rw [hpre,HD,h0];rfl);refine ZU ?_;exact Y7 (results64) rfl rfl (O9 hF)
     . intro hb3;(have h0:p≠[]:=fun h=>by rw [h] at hb3;cases hb3);have hok:=(ZdW p (c.parts.take k).flatten).2 ⟨h0,fun m s hs'=>hprei m s (by have:=Zd hs';omega) hs'⟩;have hent:Y0 0 (c.parts.take k)++Om k (p.take j)=Y0 0 (c.parts.take (k+1)):=by
        rw [Z2 hx,Hw,Xt hge];congr 2;simp;omega
       refine ZU ?_;exact Zf ⟨k+1,oM,by rw [hpre,HD,hok];rfl⟩ (by show c.parts.length-(k+1)<c.parts.length-k;omega) sB ⟨rfl,by show some _=some _;rw [hent],trivial⟩
 . intro hb;have hge:c.parts.length<=k:=by have:=Qf hb;omega
   have hgo:W8 [] c.parts=true:=by rw [hpre,XN hge];rfl
   have hent:Y0 0 (c.parts.take k)=Y0 0 c.parts:=by rw [Xt hge]
   have hret:∀t,t=YZ c->ZgI c (.tup [.omap (skv (Y0 0 (c.parts.take k))),Zr t]):=fun t ht=>⟨.omap (skv (Y0 0 (c.parts.take k))),by rw [ht],fun _=>by rw [hent], .inr ⟨_,rfl⟩⟩;refine nav ?_;refine YJ [] [1,11] ?_<;>refine xD 0 rfl Za ?_<;>refine xE 1 rfl (Zc 1 Cl) ?_<;>(refine yE 2 rfl (Zh 1 ZbP) fun v62 h=>?_;cases h)<;>refine xE 3 rfl (Zs Ey) ?_<;>refine xE 4 rfl E8 ?_<;>refine xE 5 rfl Za ?_<;>(refine bDd 65 (fun hb65=>?_) (fun hb65=>?_)<;>(first|refine kD 6 ?_|refine xD 6 rfl (Zc 1 Ck) ?_))<;>(first|refine kD 7 ?_|(refine yD 7 rfl (Zh 1 ZeZ) fun v67 h=>?_;cases h))<;>(first|refine kD 8 ?_|refine xD 8 rfl E8 ?_)<;>refine xE 9 rfl YY ?_<;>refine xE 10 rfl Za ?_<;>(first|refine kD 11 ?_|(refine bDd 70 (fun hb70=>?_) (fun hb70=>?_)<;>(first|refine kD 11 ?_|refine xD 11 rfl (Zc 1 Ck) ?_)))<;>(first|refine kD 12 ?_|(refine yD 12 rfl (Zh 1 ZeZ) fun v72 h=>?_;cases h))<;>(first|refine kD 13 ?_|refine xD 13 rfl Zqm ?_)<;>refine xD 14 rfl YY ?_<;>refine xE 15 rfl ZJ ?_<;>refine xE 16 rfl ZJ ?_<;>refine WE ?_
   . refine Zf4 11 (results64) rfl rfl rfl (hret _ ?_);unfold YZ;rw [hgo];(have h1:decide (1<=c.kind)=true:=by simpa using hb70);(have h2:decide (2<=c.parts.length)=true:=by simp;omega);rw [h1,h2];simp
   . refine Zf4 11 (results64) rfl rfl rfl (hret _ ?_);(have h1:decide (1<=c.kind)=false:=by simpa using hb70);unfold YZ;rw [h1];simp
   . refine Zf4 11 (results64) rfl rfl rfl (hret _ ?_);(have h2:decide (2<=c.parts.length)=false:=by simp;omega);unfold YZ;rw [h2];simp
def Zj3 (n:Nat) (p:Nat->Bool):Bool:=(List.range n).any p
def atF (c:Cut) (l:List BA) (i:Nat):Int:=partOf c.parts (l[i]?.getD ByteArray.empty)
theorem Jn:FldT prog 42 0 0=true:=kR
theorem KH:FldT prog 42 1 1=true:=kR
theorem JG:NoAgg prog 40=true:=kR
theorem Tl:SlT prog 40 26 1=true:=kR
theorem ZgJ {sL hP:List (Nat×Ent)} {l e n:Nat} {h:Value} {xs:List BA} (hl:lk hP l=some (h, .own e 1 n (xs.map Zv))) (hn:n=xs.length):P3 (⟨sL,hP⟩:St) h (ZW xs):=by
 have:=Zbl (sL:=sL) hl
 rw [JW,hn] at this
 exact this
theorem Zc5 (c:Cut) (s:BA) (hcl:c.parts.length<=140737488355328):AF prog 189 [Pf c,Zv s] (· =Zb (partOf c.parts s)):=by
 refine AF.b2 22 func189 rfl ntmps189 (Xa rfl) ?_
 rintro w0 M0 v0 _-rfl
 refine Zi ?_
 refine Yi 2 2 fun h2=>?_;refine KA ?_
 refine Yq (ι:={k:Nat//k<=c.parts.length/\∀i p,i<k->c.parts[i]? =some p->hasStr p s=false}) (fun k=>⟨[(1,_,_),(2,_,_),(5, .int .i64 k.1,Zb k.1)],[(2,_,_)]⟩) (fun k=>c.parts.length-k.1) ⟨0,oM,oM⟩ ?_
 rintro ⟨k,hk,hp⟩
 dsimp only
 refine Zi ?_
 refine xL 6 Za (xL 7 (Zc 2 KH) ?_);refine yU (Zh 2 JG) fun v8=>?_;refine xL 9 (Zs Tl) (xL 10 Yj ?_);refine ZE ?_ ?_<;>intro hb10
 . (
 obtain ⟨x,hx⟩:=gS c.parts k;have e1:=Yh (f:=ZW) hx;refine Zi ?_;refine xM (Zc 2 KH) ?_;refine yU (Zh 2 JG) fun v14=>?_;refine xL 15 Za (xL 16 (Ze Tl) ?_);refine yU (Zu ZF) fun v17=>?_;refine ZN ?_;refine cV (cA call236 (ζl x s)) ?_;refine Wl ?_ ?_<;>intro hb20
 . (
 refine ZU ?_;refine Zg (results189) rfl ?_;unfold partOf;rw [Lz hp hx (Zid oM)])
 . (
 refine Y2 ?_;refine Yr (
  ⟨k+1,oM,fun i y hi hy=>by
   by_cases e:i=k
   . subst e;rw [hx] at hy;cases hy;exact Zic oM
   . exact hp i y oM hy⟩
  )))
 . (
 refine ZD ?_;refine Zg (results189) rfl ?_;unfold partOf;rw [TA fun i y hi hy=>hp i y oM hy])
theorem DG {c:Cut} (h:c.kind<1\/4<c.kind\/c.parts.length<2\/W8 [] c.parts=false):YZ c=false:=by
 unfold YZ
 rcases h with h|h|h|h
 . rw [Qa (show ¬1<=c.kind by omega)];simp
 . rw [Qa (show ¬c.kind<=4 by omega)];simp
 . rw [Qa (show ¬2<=c.parts.length by omega)];simp
 . rw [h];simp
theorem Ze2 {c:Cut} (h1:1<=c.kind) (h2:c.kind<=4) (h3:2<=c.parts.length) (h4:W8 [] c.parts=true):YZ c=true:=by
 unfold YZ;rw [U' h1,U' h2,U' h3,h4];rfl
theorem Zj4 (c : Cut) (hs:∀p∈c.parts,∀s∈p,s.size<=140737488355328) (hfl:c.parts.flatten.length<=1000000) (hpl:c.parts.length<=1000000):AF prog 188 [Pf c] (· =Zr (YZ c)):=by
 refine AF.b1 66 func188 rfl ntmps188 (Xa rfl) fun w0 M0 v0 _=>?_
 refine Zi ?_
 refine Yi 1 2 fun h1=>?_;refine ZX ?_
 (refine xM (Zc 1 Jn) ?_<;>refine yV (Zh 1 ZH) ?_<;>refine ZO ?_<;>(refine bLd 10 (fun hb10=>?_) (fun hb10=>?_)<;>(first|refine kL ?_|refine xM (Zc 1 Jn) ?_))<;>(first|refine kL ?_|refine yV (Zh 1 ZH) ?_)<;>refine kZ ?_<;>refine ZO ?_<;>(first|refine kL ?_|(refine bLd 15 (fun hb15=>?_) (fun hb15=>?_)<;>(first|refine kL ?_|refine xM (Zc 1 KH) ?_)))<;>(first|refine kL ?_|refine yU (Zh 1 JG) fun v17=>?_)<;>(first|refine kL ?_|refine xM (Zs Tl) ?_)<;>refine kZ ?_<;>refine ZN ?_<;>refine Zw ?_)<;>(
 refine cX ?_ ?_<;>intro hb20
 . (
 refine ZD ?_;refine Zg (results188) rfl ?_;rw [DG oM])
 . first | exact bN hb20|(
 refine JR ?_;have hq1:1<=c.kind:=oM;have hq2:c.kind<=4:=oM;have hq3:2<=c.parts.length:=oM;refine Zq (YS 200 9 1 rfl) fun _=>?_;refine Yq (ι:={x:Nat×Value//x.1<=c.parts.length/\W8 [] c.parts=W8 (c.parts.take x.1).flatten (c.parts.drop x.1)}) (fun k=>⟨[(1,_,_),(3,k.1.2, .val k.1.2),(4, .int .i64 k.1.1,Zb k.1.1)],[(1,_,_),(200,k.1.2, .own 9 1 (c.parts.take k.1.1).flatten.length ((c.parts.take k.1.1).flatten.map Zv))]⟩) (fun k=>c.parts.length-k.1.1) ⟨(0, .slice none 0 0),oM,rfl⟩ ?_;rintro ⟨⟨k,h33⟩,hk,hpre⟩;dsimp only;dsimp only at hk hpre;refine Zi ?_;refine xL 21 Za (xL 22 (Zc 1 KH) ?_);refine yU (Zh 1 JG) fun v23=>?_;refine xL 24 (Zs Tl) (xL 25 Yj ?_);refine ZE ?_ ?_<;>intro hb25
 . (
 obtain ⟨p,hx⟩:=gS c.parts k;have e1:=Yh (f:=ZW) hx;have hpm:=hs p (Xb hx);have HD:W8 (c.parts.take k).flatten (c.parts.drop k)=(LD p&&Jv (c.parts.take k).flatten p&&W8 (c.parts.take (k+1)).flatten (c.parts.drop (k+1))):=by
  rw [WL hx,W8,OL hx]
 have hplen:=Zcz c.parts (k+1);rw [OL hx,Xf] at hplen;refine Zi ?_;refine xM (Zc 1 KH) ?_;refine yU (Zh 1 JG) fun v29=>?_;refine xL 30 Za (xL 31 (Ze Tl) ?_);refine yU (Zu ZF) fun v32=>?_;refine ZX ?_;(refine xL 33 Za (xL 34 (Zs Zm) (xL 35 Ky (xL 36 Za ?_)))<;>(refine bLd 36 (fun hb36=>?_) (fun hb36=>?_)<;>refine kZ ?_)<;>(first|refine kL ?_|(refine cV (cA call88 (ZdU p hpm)) ?_))<;>refine kZ ?_<;>refine ZO ?_<;>(first|refine kL ?_|(refine bL 41 (fun hb41=>?_) (fun hb41=>?_)<;>refine kZ ?_))<;>(first|refine kL ?_|(refine cV (cA call92 (Zgd p)) ?_))<;>refine kZ ?_<;>refine ZN ?_<;>refine Zw ?_)<;>(
 refine cX ?_ ?_<;>intro hb45
 . (
 refine ZD ?_;refine Zg (results188) rfl ?_;rw [DG (.inr (.inr (.inr ?_)))];rw [hpre,HD,show LD p=false from ?_]
 . rfl
 unfold LD
 first
  |(rw [show p=[] from Xv oM];rfl)
  |(rw [show p.all isName=false by simpa using hb41];simp;done)
  |(rw [show chainB strLt p=false by simpa using hb45];simp;done))
 . first | exact bN hb45|(
 refine ZD ?_;have hpok:LD p=true:=by
  unfold LD;rw [show p.all isName=true by simpa using hb41,show chainB strLt p=true by simpa using hb45]
  cases p with
  |nil=>exact Qd rfl hb36
  |cons=>rfl
 refine Yq (ι:={x:Nat×Value×List BA//x.1<=p.length/\x.2.2=(c.parts.take k).flatten++p.take x.1/\Jv (c.parts.take k).flatten p=Jv x.2.2 (p.drop x.1)}) (fun k=>⟨[(1,_,_),(4,_,_),(5,_,_),(3,k.1.2.1, .val k.1.2.1),(6, .int .i64 k.1.1,Zb k.1.1)],[(1,_,_),(200,k.1.2.1, .own 9 1 k.1.2.2.length (k.1.2.2.map Zv))]⟩) (fun k=>p.length-k.1.1) ⟨(0,h33,(c.parts.take k).flatten),Xg _,sM,rfl⟩ ?_;rintro ⟨⟨j,h34,seen⟩,hj,hseen,hprej⟩;dsimp only;dsimp only at hj hseen hprej;refine Zi ?_;refine xL 46 Za (xL 47 Za (xL 48 (Zs Zm) (xL 49 Yj ?_)));refine ZE ?_ ?_<;>intro hb49
 . (
 obtain ⟨s,hsj⟩:=gS p j;have e2:=Yh (f:=Zv) hsj;(have hfs:Jv seen (p.drop j)=(!hasStr seen s&&Jv (seen++[s]) (p.drop (j+1))):=by rw [WL hsj,Jv]);(have hln:seen.length=(c.parts.take k).flatten.length+j:=by rw [hseen,Xf,XE];omega);(have hln2:(seen.map Zv).length=seen.length:=by rw [Xc]);refine Zi ?_;refine xL 52 Za (xL 53 Za (xL 54 Za (xL 55 (Ze Zm) ?_)));refine yV (Zu ZB) ?_;refine cV (cB rfl call236 (ζl seen s) ⟨⟨_,_,rfl,ZgJ (l:=200) rfl rfl⟩,⟨_,_,rfl,G2 (x:= .tmp 56) rfl⟩,trivial⟩) ?_;refine Wl ?_ ?_<;>intro hb58
 . (
 refine ZD ?_;refine Zg (results188) rfl ?_;rw [DG (.inr (.inr (.inr ?_)))];rw [hpre,HD,hprej,hfs,show hasStr seen s=true from Zid oM];simp)
 . (
 refine Zi ?_;refine xL 59 Za (xL 60 Za (xL 61 Za (xL 62 (Ze Zm) ?_)));refine yV (Zu ZB) ?_;refine WC (kk:=1) 64 YV fun h64 ho64=>?_;refine Wc 200 64 65 YV fun h65 ho65=>?_;refine K5 ?_;refine ZK (ZM (l:=65) 200 rfl rfl) fun _=>?_;rw [show seen.map Zv++[Zv s]=(seen++[s]).map Zv by simp,show seen.length+1=(seen++[s]).length by simp];refine Zf (
  ⟨(j+1,h65,seen++[s]),by show j+1<=p.length;omega,by show seen++[s]=_;rw [hseen,Z2 hsj,XH],by
    show Jv _ p=Jv _ _;rw [hprej,hfs,show hasStr seen s=false from Zic oM];rfl⟩
  ) (by show p.length-(j+1)<p.length-j;omega) sB sB))
 . (
 refine Y2 ?_;rw [show seen=(c.parts.take (k+1)).flatten by rw [hseen,OL hx,show j=p.length by omega,Xx]];refine Zf (
  ⟨(k+1,h34),by show k+1<=c.parts.length;omega,by
    show W8 [] c.parts=W8 _ _;rw [hpre,HD,hpok,hprej,show p.drop j=[] from XN oM];simp [Jv]⟩
  ) (by show c.parts.length-(k+1)<c.parts.length-k;omega) sB sB))))
 . (
 refine ZD ?_;refine Zg (results188) rfl ?_;rw [Ze2 hq1 hq2 hq3 (by rw [hpre,show c.parts.drop k=[] from XN oM];rfl)])))
theorem ZmY {n:Nat} {E:Nat->Nat->Bool} {S F:Nat->Bool} {a b:Nat} (h:E a b=true) (h2:F a=false):Y8 n E S F a b=false:=by unfold Y8 endsB;rw [h,h2];simp
theorem ZmZ {n:Nat} {E:Nat->Nat->Bool} {S F:Nat->Bool} {a b i:Nat} (hi:i<n) (h:E a b=true) (h2:F i=true) (h3:E i b=false):Y8 n E S F a b=false:=by
 unfold Y8 endsB;rw [h,O4 hi (by rw [h2,h3];rfl)];simp
theorem Zm0 {n:Nat} {E:Nat->Nat->Bool} {S F:Nat->Bool} {a b:Nat} (h:E b a=true) (h2:S a=false):Y8 n E S F a b=false:=by unfold Y8 Ol;rw [h,h2];simp
theorem Zm1 {n:Nat} {E:Nat->Nat->Bool} {S F:Nat->Bool} {a b i:Nat} (hi:i<n) (h:E b a=true) (h2:S i=true) (h3:E b i=false):Y8 n E S F a b=false:=by
 unfold Y8 Ol;rw [h,O4 hi (by rw [h2,h3];rfl)];simp
def Zqr (E:Nat->Nat->Bool) (S F:Nat->Bool) (a b j:Nat):Prop:=(E a b=true->F a=true/\(F j=true->E j b=true))/\(E b a=true->S a=true/\(S j=true->E b j=true))
theorem Zpn {n:Nat} {E:Nat->Nat->Bool} {S F:Nat->Bool} {a b:Nat} (ha:a<n) (h:∀j,j<n->Zqr E S F a b j):Y8 n E S F a b=true:=by
 unfold Y8 endsB Ol
 have h1:=h a ha
 rw [Xe]
 constructor
 . cases he:E a b with
   |false=>rfl
   | true=>
     rw [(h1.1 he).1,RY fun j hj=>?_]; · rfl
     have:=((h j hj).1 he).2
     cases hf:F j with
     |false=>rfl
     |true=>rw [this hf];rfl
 . cases he:E b a with
   |false=>rfl
   | true=>
     rw [(h1.2 he).1,RY fun j hj=>?_]; · rfl
     have:=((h j hj).2 he).2
     cases hf:S j with
     |false=>rfl
     |true=>rw [this hf];rfl
theorem Zm2 (l : List BA) (n:Nat) (E R:Nat->Nat->Bool) (S F:Nat->Bool) (a b:Nat) (hl:l.length=n) (hn:n<=1000) (ha:a<n) (hb:b<n):AF prog 273 [.agg (Jm l n E R S F),Zb a,Zb b] (· =Zr (Y8 n E S F a b)):=by
 have ea:=ZZ (fun i=>Wq n (E i)) ha
 have eb:=ZZ (fun i=>Wq n (E i)) hb
 have eab:=ZZ (fun j=>Zr (E a j)) hb
 have eba:=ZZ (fun j=>Zr (E b j)) ha
 have fa:=ZZ (fun j=>Zr (F j)) ha
 have sa:=ZZ (fun j=>Zr (S j)) ha
 refine AF.b3 83 func273 rfl ntmps273 (Xa rfl) ?_
 rintro w0 M0 v0 _ _-rfl rfl
 dsimp only [Jm]
 refine Zi ?_
 refine Yi 3 5 fun h3=>?_;refine KA ?_
 refine Yq (ι:={k:Nat//k<=n/\∀j,j<k->Zqr E S F a b j}) (fun k=>⟨[(1,_,_),(2,_,_),(3,_,_),(7, .int .i64 k.1,Zb k.1)],[(3,_,_)]⟩) (fun k=>n-k.1) ⟨0,oM,oM⟩ ?_
 rintro ⟨k,hk,hp⟩
 dsimp only
 refine Zi ?_
 refine xL 8 Za (xL 9 (Zc 3 Wy) ?_);refine yU (Zh 3 ZF) fun v10=>?_;refine xL 11 (Zs Zm) (xL 12 Yj ?_);refine ZE ?_ ?_<;>intro hb12
 . (
 have hlt:k<n:=oM;have fk:=ZZ (fun j=>Zr (F j)) hlt;have sk:=ZZ (fun j=>Zr (S j)) hlt;have ek:=ZZ (fun i=>Wq n (E i)) hlt;have ekb:=ZZ (fun j=>Zr (E k j)) hb;have ebk:=ZZ (fun j=>Zr (E b j)) hlt;refine Zi ?_;(refine xM (Zc 3 Km) ?_<;>refine yU (Zh 3 Yl) fun v16=>?_<;>refine xL 17 Za (xL 18 (Ze Z') ?_)<;>refine yU (Zu Zx) fun v19=>?_<;>refine xL 20 Za (xL 21 (Ze ZI) ?_)<;>refine yV (Zu ZT) ?_<;>refine ZN ?_<;>(refine bL 23 (fun hb23=>?_) (fun hb23=>?_)<;>(first|refine kL ?_|refine xM (Zc 3 W3) ?_))<;>(first|refine kL ?_|refine yU (Zh 3 Zx) fun v25=>?_)<;>refine kZ ?_<;>(first|refine kL ?_|refine xM (Ze ZI) ?_)<;>(first|refine kL ?_|refine yV (Zu ZT) ?_)<;>refine kZ ?_<;>refine kZ ?_<;>(first|refine kL ?_|(refine bL 30 (fun hb30=>?_) (fun hb30=>?_)<;>(first|refine kL ?_|refine xM (Zc 3 W3) ?_)))<;>(first|refine kL ?_|refine yU (Zh 3 Zx) fun v32=>?_)<;>refine kZ ?_<;>(first|refine kL ?_|refine xM (Ze ZI) ?_)<;>(first|refine kL ?_|refine yV (Zu ZT) ?_)<;>refine kZ ?_<;>(first|refine kL ?_|(refine bL 36 (fun hb36=>?_) (fun hb36=>?_)<;>(first|refine kL ?_|refine xM (Zc 3 Km) ?_)))<;>(first|refine kL ?_|refine yU (Zh 3 Yl) fun v38=>?_)<;>refine kZ ?_<;>(first|refine kL ?_|refine xM (Ze Z') ?_)<;>(first|refine kL ?_|refine yU (Zu Zx) fun v41=>?_)<;>refine kZ ?_<;>(first|refine kL ?_|refine xM (Ze ZI) ?_)<;>(first|refine kL ?_|refine yV (Zu ZT) ?_)<;>refine kZ ?_<;>refine kZ ?_<;>refine kZ ?_<;>refine ZN ?_<;>refine Zw ?_)<;>(
 refine cX ?_ ?_<;>intro hb48
 . first|exact bN hb48|(
 refine ZD ?_;refine Zg (results273) rfl ?_
 first
  |rw [ZmY hb23 (by simpa using hb30)]
  |rw [ZmZ hlt hb23 hb36 (by simpa using hb48)])
 . first | exact bN hb48|(
 refine Zi ?_;(refine xM (Zc 3 Km) ?_<;>refine yU (Zh 3 Yl) fun v50=>?_<;>refine xL 51 Za (xL 52 (Ze Z') ?_)<;>refine yU (Zu Zx) fun v53=>?_<;>refine xL 54 Za (xL 55 (Ze ZI) ?_)<;>refine yV (Zu ZT) ?_<;>refine ZN ?_<;>(refine bL 57 (fun hb57=>?_) (fun hb57=>?_)<;>(first|refine kL ?_|refine xM (Zc 3 Kn) ?_))<;>(first|refine kL ?_|refine yU (Zh 3 Zx) fun v59=>?_)<;>refine kZ ?_<;>(first|refine kL ?_|refine xM (Ze ZI) ?_)<;>(first|refine kL ?_|refine yV (Zu ZT) ?_)<;>refine kZ ?_<;>refine kZ ?_<;>(first|refine kL ?_|(refine bL 64 (fun hb64=>?_) (fun hb64=>?_)<;>(first|refine kL ?_|refine xM (Zc 3 Kn) ?_)))<;>(first|refine kL ?_|refine yU (Zh 3 Zx) fun v66=>?_)<;>refine kZ ?_<;>(first|refine kL ?_|refine xM (Ze ZI) ?_)<;>(first|refine kL ?_|refine yV (Zu ZT) ?_)<;>refine kZ ?_<;>(first|refine kL ?_|(refine bL 70 (fun hb70=>?_) (fun hb70=>?_)<;>(first|refine kL ?_|refine xM (Zc 3 Km) ?_)))<;>(first|refine kL ?_|refine yU (Zh 3 Yl) fun v72=>?_)<;>refine kZ ?_<;>(first|refine kL ?_|refine xM (Ze Z') ?_)<;>(first|refine kL ?_|refine yU (Zu Zx) fun v75=>?_)<;>refine kZ ?_<;>(first|refine kL ?_|refine xM (Ze ZI) ?_)<;>(first|refine kL ?_|refine yV (Zu ZT) ?_)<;>refine kZ ?_<;>refine kZ ?_<;>refine kZ ?_<;>refine ZN ?_<;>refine Zw ?_)<;>(
 have hg1:E a b=true->F a=true/\(F k=true->E k b=true):=fun g1=>by
  first
   |(rw [hb23] at g1;exact Qd g1 dC)
   | exact ⟨by simpa using hb30,fun g2=>by
      first
       |(rw [hb36] at g2;exact Qd g2 dC)
       |(simpa using hb48)⟩
 refine cX ?_ ?_<;>intro hb82
 . first|exact bN hb82|(
 refine ZD ?_;refine Zg (results273) rfl ?_
 first
  |rw [Zm0 hb57 (by simpa using hb64)]
  |rw [Zm1 hlt hb57 hb70 (by simpa using hb82)])
 . first | exact bN hb82|(
 refine Y2 ?_;refine Yr (
  ⟨k + 1, oM,fun j hj=>by
   by_cases e:j=k
   . subst e;refine ⟨hg1,fun g1=>?_⟩
     first
      |(rw [hb57] at g1;exact Qd g1 dC)
      | exact ⟨by simpa using hb64,fun g2=>by
         first
          |(rw [hb70] at g2;exact Qd g2 dC)
          |(simpa using hb82)⟩
   . exact hp j oM⟩
  ))))))
 . (
 refine ZD ?_;refine Zg (results273) rfl ?_;rw [Zpn ha fun j hj=>hp j oM])
def PP (n:Nat) (E R:Nat->Nat->Bool) (S F:Nat->Bool) (kind:Int) (a b:Nat) (first:Bool):Bool:=
 if kind=1 then !E a b&& !E b a else if kind=2 then R a b&& !R b a else if kind=3 then E a b&&E b a else if first then Y8 n E S F a b else !E a b&& !E b a
def Zqs (n:Nat) (S F:Nat->Bool) (kind:Int) (at':Nat->Int) (i:Nat):Bool:=
 !(decide (kind=3)&&(!Zj3 n (fun a=>decide (at' a=i)&&S a)|| !Zj3 n (fun a=>decide (at' a=i)&&F a))||decide (kind=4)&&decide (0<i)&&(Zj3 n (fun a=>decide (at' a=i)&&S a)||Zj3 n (fun a=>decide (at' a=i)&&F a)))
def Zq9 (l:List BA) (n:Nat) (E:Nat->Nat->Bool) (S F:Nat->Bool) (c:Cut):Bool:=
 Zc4 n (fun i=>decide (0<=atF c l i))&&(decide (c.parts.flatten.length=n)&&Zc4 c.parts.length (Zqs n S F c.kind (atF c l)))&&Zc4 n fun a=>Zc4 n fun b=> !decide (atF c l a<atF c l b)||PP n E (ZV n E) S F c.kind a b (decide (atF c l a=0))
end Go.Proofs.YtmkojdfiadbeeaaGreat
namespace Go.Cb
open Go.En
def Conn (l:List Int) (r:Int->Int->Bool) (x y:Int):Prop:=∀P:Int->Prop,(∀a b,a∈l->b∈l->(r a b=true\/r b a=true)->P a->P b)->P x->P y
theorem Conn.refl (l:List Int) (r:Int->Int->Bool) (x:Int):Conn l r x x:=fun _ _ h=>h
theorem Conn.trans {l:List Int} {r:Int->Int->Bool} {x y z:Int} (h:Conn l r x y) (k:Conn l r y z):Conn l r x z:=fun P hP hx=>k P hP (h P hP hx)
theorem Conn.step {l:List Int} {r:Int->Int->Bool} {x y:Int} (hx:x∈l) (hy:y∈l) (h:r x y=true\/r y x=true):Conn l r x y:=fun P hP hx'=>hP x y hx hy h hx'
theorem Conn.symm {l:List Int} {r:Int->Int->Bool} {x y:Int} (h:Conn l r x y):Conn l r y x:=
 h (fun z=>Conn l r z x) (fun a b ha hb hr hax=>(Conn.step hb ha hr.symm).trans hax) (Conn.refl l r x)
theorem JH {α:Type} [BEq α] [LawfulBEq α]:∀{l m:List α},l.Nodup->(∀x∈l,x∈m)->l.length<=m.length
 |[],m,_,_=>Xg _
 | x ::l,m,h,hs=>by
   rw [Vg] at h;have hx:=hs x sM;have h1:=JH (l:=l) (m:=m.erase x) h.2 fun y hy=>by
    have hne:y≠x:=fun e=>h.1 (e▸hy);exact (List.mem_erase_of_ne hne).2 (hs y (by simp [hy]))
   rw [List.length_erase_of_mem hx] at h1;have:=List.length_pos_of_mem hx;simp only [Xi];omega
structure Comps (l:List Int) (r:Int->Int->Bool) (cs:List (List Int)):Prop where
 mem:∀x,x∈cs.flatten↔x∈l
 nd:cs.flatten.Nodup
 ne:∀c∈cs,c≠[]
 asc:∀c∈cs,c.Pairwise (· < ·)
 conn:∀c∈cs,∀x∈c,∀y∈c,Conn l r x y
 clos:∀c∈cs,∀x∈c,∀y∈l,(r x y=true\/r y x=true)->y∈c
 ord:cs.Pairwise fun c d=>∀x y,c.head? =some x->d.head? =some y->x<y
structure Part (l:List Int) (r:Int->Int->Bool) (cs:List (List Int)) (k:Nat):Prop where
 sub:∀x∈cs.flatten,x∈l
 did:∀j x,j<k->l[j]? =some x->x∈cs.flatten
 nd:cs.flatten.Nodup
 ne:∀c∈cs,c≠[]
 asc:∀c∈cs,c.Pairwise (· < ·)
 conn:∀c∈cs,∀x∈c,∀y∈c,Conn l r x y
 clos:∀c∈cs,∀x∈c,∀y∈l,(r x y=true\/r y x=true)->y∈c
 ord:cs.Pairwise fun c d=>∀x y,c.head? =some x->d.head? =some y->x<y
 hd:∀c∈cs,∀x,c.head? =some x->∃j,j<k/\l[j]? =some x
theorem Part.start (l:List Int) (r:Int->Int->Bool):Part l r [] 0:=⟨sM,oM,sM,sM,sM,sM,sM,sM,sM⟩
theorem Part.comps {l:List Int} {r:Int->Int->Bool} {cs:List (List Int)} {k:Nat} (h:Part l r cs k) (hk:l.length<=k):Comps l r cs:=
 ⟨fun x=>⟨h.sub x,fun hx=>by
  obtain ⟨j,hj⟩:=XM hx;exact h.did j x (by have:=Zd hj;omega) hj⟩,h.nd,h.ne,h.asc,h.conn,h.clos,h.ord⟩
theorem Part.skip {l:List Int} {r:Int->Int->Bool} {cs:List (List Int)} {k:Nat} {x:Int} (h:Part l r cs k) (hx:l[k]? =some x) (hin:x∈cs.flatten):Part l r cs (k+1):=
 ⟨h.sub,fun j y hj hy=>by
  by_cases e:j=k
  . subst e;rw [hx] at hy;cases hy;exact hin
  . exact h.did j y oM hy,h.nd,h.ne,h.asc,h.conn,h.clos,h.ord,fun c hc x hx=>let ⟨j,hj,e⟩:=h.hd c hc x hx;⟨j,oM,e⟩⟩
structure Mk (l:List Int) (r:Int->Int->Bool) (cs:List (List Int)) (first:Int) (tk cl:List Int) (i q:Nat):Prop where
 tkm:∀z,z∈tk↔z∈cs.flatten\/z∈cl
 nd:(cs.flatten++cl).Nodup
 sub:∀z∈cl,z∈l
 con:∀z∈cl,Conn l r first z
 fst:first∈cl
 il:i<=cl.length
 did:∀j x,j<i->cl[j]? =some x->∀y∈l,(r x y=true\/r y x=true)->y∈tk
 now:∀x,cl[i]? =some x->∀p y,p<q->l[p]? =some y->(r x y=true\/r y x=true)->y∈tk
theorem Mk.start {l:List Int} {r:Int->Int->Bool} {cs:List (List Int)} {k:Nat} {x:Int} {tk:List Int} (h:Part l r cs k) (hx:l[k]? =some x) (ht:∀z,z∈tk↔z∈cs.flatten) (hn:x∉cs.flatten):Mk l r cs x (tk++[x]) [x] 0 0:=
 ⟨fun z=>by simp [ht],by
  rw [X6];exact ⟨h.nd,sM,fun a ha b hb=>by simp at hb;subst hb;exact fun e=>hn (e▸ha)⟩,fun z hz=>by simp at hz;subst hz;exact Xb hx,fun z hz=>by simp at hz;subst hz;exact Conn.refl _ _ _,sM,sM,oM,oM⟩
theorem Mk.len {l:List Int} {r:Int->Int->Bool} {cs:List (List Int)} {first:Int} {tk cl:List Int} {i q:Nat} (h:Mk l r cs first tk cl i q):cl.length<=l.length:=JH (X6.1 h.nd).2.1 h.sub
theorem Mk.pass {l:List Int} {r:Int->Int->Bool} {cs:List (List Int)} {first:Int} {tk cl:List Int} {i q:Nat} {x y:Int} (h:Mk l r cs first tk cl i q) (hx:cl[i]? =some x) (hy:l[q]? =some y) (hn:y∈tk\/(r x y=false/\r y x=false)):Mk l r cs first tk cl i (q+1):=
 ⟨h.tkm,h.nd,h.sub,h.con,h.fst,h.il,h.did,fun x' hx' p z hp hz hr=>by
  rw [hx] at hx';cases hx';by_cases e:p=q
  . subst e;rw [hy] at hz;cases hz;rcases hn with hn|⟨h1,h2⟩
    . exact hn
    . rw [h1,h2] at hr;simp at hr
  . exact h.now x hx p z oM hz hr⟩
theorem Mk.take {l:List Int} {r:Int->Int->Bool} {cs:List (List Int)} {first:Int} {tk cl:List Int} {i q:Nat} {x y:Int} (h:Mk l r cs first tk cl i q) (hx:cl[i]? =some x) (hy:l[q]? =some y) (hn:y∉tk) (hr:r x y=true\/r y x=true):Mk l r cs first (tk++[y]) (cl++[y]) i (q+1):=by
 have hyl:=Xb hy
 have hxc:=Xb hx
 have hn':y∉cs.flatten/\y∉cl:=by
  have:=fun hh=>hn ((h.tkm y).2 hh);exact ⟨fun hh=>this (.inl hh),fun hh=>this (.inr hh)⟩
 refine ⟨fun z=>?_,?_,fun z hz=>?_,fun z hz=>?_,by simp [h.fst],by have:=h.il;simp;omega,fun j u hj hu v hv hrr=>?_,fun u hu p v hp hv hrr=>?_⟩
 . simp only [XB,XC,h.tkm z];exact or_assoc
 . rw [<-XH,X6];refine ⟨h.nd,sM,fun a ha b hb=>?_⟩;simp at hb;subst hb;intro e;rw [XB] at ha;rcases ha with ha|ha
   . exact hn'.1 (e▸ha)
   . exact hn'.2 (e▸ha)
 . simp only [XB,XC] at hz;rcases hz with hz|rfl
   . exact h.sub z hz
   . exact hyl
 . simp only [XB,XC] at hz;rcases hz with hz|rfl
   . exact h.con z hz
   . exact (h.con x hxc).trans (Conn.step (h.sub x hxc) hyl hr)
 . have hl:j<cl.length:=by have:=h.il;omega
   rw [Vj hl] at hu;rw [XB];exact .inl (h.did j u hj hu v hv hrr)
 . have hl:=Zd hx;rw [Vj hl,hx] at hu;cases hu;rw [XB];by_cases e:p=q
   . subst e;rw [hy] at hv;cases hv;simp
   . exact .inl (h.now x hx p v oM hv hrr)
theorem Mk.next {l:List Int} {r:Int->Int->Bool} {cs:List (List Int)} {first:Int} {tk cl:List Int} {i q:Nat} (h:Mk l r cs first tk cl i q) (hq:l.length<=q) (hi:i<cl.length):Mk l r cs first tk cl (i+1) 0:=
 ⟨h.tkm,h.nd,h.sub,h.con,h.fst,hi,fun j x hj hx y hy hr=>by
  by_cases e:j=i
  . subst e;obtain ⟨p,hp⟩:=XM hy;exact h.now x hx p y (by have:=Zd hp;omega) hp hr
  . exact h.did j x oM hx y hy hr,oM⟩
theorem K7 {cl:List Int} {z:Int}:z∈cl.mergeSort (fun x y=>decide (x<=y))↔z∈cl:=(VJ cl _).mem_iff
theorem ζ3 {cl:List Int} (h:cl.Nodup):(cl.mergeSort fun x y=>decide (x<=y)).Pairwise (· < ·):=by
 have h1:=List.pairwise_mergeSort (le:=fun x y:Int=>decide (x<=y)) (fun a b c h1 h2=>by simp at*;omega) (fun a b=>by simp;omega) cl
 have h2:(cl.mergeSort fun x y=>decide (x<=y)).Nodup:=(VJ cl _).nodup_iff.2 h
 exact (h1.and h2).imp fun {a b} ⟨h3,h4⟩=>by simp at h3;have:a≠b:=h4;omega
theorem Mk.done {l:List Int} {r:Int->Int->Bool} {cs:List (List Int)} {first:Int} {tk cl:List Int} {i k:Nat} (h:Mk l r cs first tk cl i 0) (hP:Part l r cs k) (hl:l.Pairwise (· < ·)) (hk:l[k]? =some first) (hi:cl.length<=i):Part l r (cs++[cl.mergeSort fun x y=>decide (x<=y)]) (k+1):=by
 have hnd:=X6.1 h.nd
 have hflat:(cs++[cl.mergeSort fun x y=>decide (x<=y)]).flatten=cs.flatten++cl.mergeSort (fun x y=>decide (x<=y)):=sM
 have hclos:∀x∈cl,∀y∈l,(r x y=true\/r y x=true)->y∈cl:=fun x hx y hy hr=>by
  obtain ⟨j,hj⟩:=XM hx;have:=h.did j x (by have:=Zd hj;omega) hj y hy hr;rcases (h.tkm y).1 this with h1|h1
  . obtain ⟨c,hc,hyc⟩:=XO.1 h1;have hxc:=hP.clos c hc y hyc x (h.sub x hx) hr.symm;exact Qd rfl (hnd.2.2 x (XO.2 ⟨c,hc,hxc⟩) x hx)
  . exact h1
 have hleast:∀z∈cl,first<=z:=fun z hz=>by
  obtain ⟨j,hj⟩:=XM (h.sub z hz);rcases Vz j k with h1|h1|h1
  . have:=hP.did j z h1 hj;exact Qd rfl (hnd.2.2 z this z hz)
  . subst h1;rw [hk] at hj;cases hj;omega
  . have:=XV.1 hl k j (Zd hk) (Zd hj) h1;have e1:=(Xk.1 hk).2;have e2:=(Xk.1 hj).2;rw [e1,e2] at this;omega
 have hasc:=ζ3 hnd.2.1
 have hhead:∀x,(cl.mergeSort fun x y=>decide (x<=y)).head? =some x->x=first:=fun x hx=>by
  have hm:x∈cl:=K7.1 (List.mem_of_mem_head? hx);have hf:first∈cl.mergeSort fun x y=>decide (x<=y):=K7.2 h.fst
  have:=hleast x hm
  cases hs:cl.mergeSort (fun x y=>decide (x<=y)) with
  |nil=>rw [hs] at hx;cases hx
  | cons a t=>
    rw [hs] at hx hf hasc;simp at hx;subst hx;rw [Xw] at hasc;rcases Xh.1 hf with e|e
    . exact e.symm
    . have:=hasc.1 first e;omega
 refine ⟨fun x hx=>?_,fun j x hj hx=>?_,?_,fun c hc=>?_,fun c hc=>?_,fun c hc x hx y hy=>?_,fun c hc x hx y hy hr=>?_,?_,fun c hc x hx=>?_⟩
 . rw [hflat,XB,K7] at hx;rcases hx with hx|hx
   . exact hP.sub x hx
   . exact h.sub x hx
 . rw [hflat,XB,K7];by_cases e:j=k
   . subst e;rw [hk] at hx;cases hx;exact .inr h.fst
   . exact .inl (hP.did j x oM hx)
 . rw [hflat,X6];exact ⟨hP.nd,(VJ cl _).nodup_iff.2 hnd.2.1,fun a ha b hb=>hnd.2.2 a ha b (K7.1 hb)⟩
 . rcases XB.1 hc with hc|hc
   . exact hP.ne c hc
   . simp at hc;subst hc;intro e;have:=(K7 (cl:=cl)).2 h.fst;rw [e] at this;simp at this
 . rcases XB.1 hc with hc|hc
   . exact hP.asc c hc
   . simp at hc;subst hc;exact hasc
 . rcases XB.1 hc with hc|hc
   . exact hP.conn c hc x hx y hy
   . simp at hc;subst hc;exact (h.con x (K7.1 hx)).symm.trans (h.con y (K7.1 hy))
 . rcases XB.1 hc with hc|hc
   . exact hP.clos c hc x hx y hy hr
   . simp at hc;subst hc;exact K7.2 (hclos x (K7.1 hx) y hy hr)
 . rw [UD];refine ⟨hP.ord,sM,fun c hc d hd x y hx hy=>?_⟩;simp at hd;subst hd;obtain ⟨j,hj,e⟩:=hP.hd c hc x hx;rw [hhead y hy];have:=XV.1 hl j k (Zd e) (Zd hk) hj;rw [(Xk.1 e).2,(Xk.1 hk).2] at this;exact this
 . rcases XB.1 hc with hc|hc
   . obtain ⟨j,hj,e⟩:=hP.hd c hc x hx;exact ⟨j,oM,e⟩
   . simp at hc;subst hc;rw [hhead x hx];exact ⟨k,oM,hk⟩
end Go.Cb
namespace Go.Proofs.YtmkojdfiadbeeaaGreat
open Go.RowKit Go.Cb Go.En Tryz
theorem Z6:AggT prog 42 2=true:=kR
theorem O':ElT prog 40 26 1 24 (.slice none 0 0):=⟨underlying40,by kernel_rfl,rfl,dC⟩
theorem Yv:ElT prog 88 90 1 24 (.slice none 0 0):=⟨underlying88,by kernel_rfl,rfl,dC⟩
theorem Pw:MpT prog 141 3 4 (.int .i64) (.bool false):=⟨underlying141,underlying3, .inr ⟨_,rfl⟩,by show ZeroT _ _ _;unfold ZeroT;kernel_rfl⟩
theorem WV:NoAgg prog 84=true:=kR
theorem Tm:Ge prog 42=some ((.agg #[(.int .i64 0),(.slice none 0 0)]),([0,1]:List Nat).map fun o=>(o,1)):=kR
theorem ZbR:(prog.info? 40).map (·.size)=some 1:=kR
theorem Ez:(prog.info? 84).map (·.size)=some 1:=kR
theorem WW:ZeroT prog 42 (.agg #[(.int .i64 0),(.slice none 0 0)]):=by unfold ZeroT;kernel_rfl
theorem EA:ZeroT prog 84 (.pointer none):=by unfold ZeroT;kernel_rfl
def upTo (n:Nat):List Int:=vec n fun i=>(i:Int)
theorem Zc6 (l:List BA) (rest:List PV) (hl:l.length<=1000000):AF prog 49 [.sptr 0 (ZW l::rest)] (· =pInts (upTo l.length)):=by
 refine AF.b1 19 func49 rfl ntmps49 (Xa rfl) fun w0 M0 v0 _=>?_
 refine YG ?_;refine ZX ?_
 refine xL 5 Za (xL 6 Kp (xL 7 (Yn Jl) ?_));refine yU (Zu ZF) fun v8=>?_;refine xL 9 (Zs Zm) (xL 10 Za ?_);refine Zw ?_
 refine Zq (YS 200 3 1 rfl) fun _=>?_
 refine Yq (ι:={x:Nat×Value//x.1<=l.length}) (fun k=>⟨[(9,_,_),(3,k.1.2, .val k.1.2),(10, .int .i64 k.1.1,Zb k.1.1)],[(200,k.1.2, .own 3 1 k.1.1 (vec k.1.1 fun i=>Zb (i:Nat)))]⟩) (fun k=>l.length-k.1.1) ⟨(0, .slice none 0 0),Xg _⟩ ?_
 rintro ⟨⟨k,h33⟩,hk⟩
 dsimp only
 dsimp only at hk
 refine Yy ?_ ?_<;>intro hb11
 . (
 have e1:=Wx k (fun i=>Zb (i:Nat));refine Jx ?_;refine ZO ?_;refine WC (kk:=1) 15 YW fun h15 ho15=>?_;refine Wc 200 15 16 YW fun h16 ho16=>?_;refine JS ?_;refine ZK (ZM (l:=16) 200 rfl rfl) fun _=>?_;rw [show vec k (fun i=>Zb (i:Nat))++[Zb (k:Int)]=vec (k+1) fun i=>Zb (i:Nat) by rw [ZeO]];refine Zf (
  ⟨(k+1,h16),by show k+1<=l.length;omega⟩
  ) (by show l.length-(k+1)<l.length-k;omega) sB sB)
 . (
 refine ZU ?_;refine YO (En.freeze (l:=200) (t:=2) rfl rfl) fun _=>?_;refine Zg (results49) rfl ?_;rw [show k=l.length by omega,share,YI,CW];unfold pInts upTo;rw [Wx,CW];rfl)
def tkv (tk:List Int):List (Value×Value):=ikv (tk.map fun x=>(x,Value.bool true))
theorem Zpo (tk:List Int) (x:Int):Ks (tk.map fun x=>(x,Value.bool true)) x=if x∈tk then some (.bool true) else none:=by
 induction tk with
 |nil=>rfl
 | cons y l ih=>
   rw [Xm,Ks];by_cases h:x=y
   . rw [Qc h,Qc (by simp [h])]
   . rw [Qb h,ih];by_cases h2:x∈l
     . rw [Qc h2,Qc (by simp [h2])]
     . rw [Qb h2,Qb (by simp [h,h2])]
theorem Zpp {tk:List Int} {x:Int} (h:x∉tk):K8 (tk.map fun x=>(x,Value.bool true)) x (.bool true)=(tk++[x]).map fun x=>(x,Value.bool true):=by
 induction tk with
 |nil=>rfl
 | cons y l ih=>
   rw [Xm,K8,Qb (fun e=>h (by simp [show x=y from e])),ih (fun hh=>h (by simp [hh]))];rfl
theorem Zif (tk:List Int) (x:Int):(Kv (tkv tk) (.int .i64 x)).getD (.bool false)= .bool (decide (x∈tk)):=by
 unfold tkv
 rw [ZlM,Zpo]
 by_cases h:x∈tk
 . rw [Qc h,U' h];rfl
 . rw [Qb h,Qa h];rfl
theorem Zig {tk:List Int} {x:Int} (h:x∉tk):RB (tkv tk) (.int .i64 x) (.bool true)=tkv (tk++[x]):=by
 unfold tkv
 rw [ZlN,Zpp h]
theorem W6 (e n:Nat) (l:List Int) (hn:n=l.length):share (.own e 1 n (l.map Zb))=pInts l:=by
 subst hn
 rw [share,YI,Xz];rfl
theorem Gr {α:Type} {l:List α} {x:α} {k:Nat} (h:k=l.length):(l++[x])[k]? =some x:=by subst h;simp
theorem JI {α:Type} {l:List α} {x y:α} {k:Nat} (h:k=l.length):(l++[x]).set k y=l++[y]:=by subst h;simp
theorem EB:Zqo prog 60:=fun blk cap zs w hH hb hn=>Tryz.slices_Sort_int blk 0 cap zs w hH hb hn
theorem SK (f : Nat) (caps:List PV) (r:Int->Int->Bool) (l:List Int) (hasc:l.Pairwise (· < ·)) (hl:l.length<=100000) (hcl:∀args w,(callFunc f args).run prog w= .ok (.enter f args) w) (hf:∀x∈l,∀y∈l,AF prog f ([Zb x,Zb y]++caps) (· =Zr (r x y))):AF prog 48 [pInts l, .fn f caps] (fun p=>∃cs,Comps l r cs/\p= .own 90 1 cs.length (cs.map pInts)):=by
 refine AF.b2 76 func48 rfl ntmps48 (Xa rfl) fun w0 M0 v0 v1 _ _=>?_
 refine YG ?_;refine ZX ?_
 refine S6 13 fun h13 ho13=>?_;refine ZX ?_
 refine xL 14 Za (xL 15 (Zs ZS) (xL 16 Za ?_));refine Zw ?_
 refine Zq (YS 200 90 1 rfl) fun _=>?_
 refine Yq (ι:={x:Nat×Value×List (List Int)×List Int//x.1<=l.length/\Part l r x.2.2.1 x.1/\∀z,z∈x.2.2.2↔z∈x.2.2.1.flatten}) (fun k=>⟨[(0,_,_),(1,_,_),(6,_,_),(14,_,_),(15,_,_),(5,k.1.2.1, .val k.1.2.1),(16, .int .i64 k.1.1,Zb k.1.1)],[(13,h13, .omap (tkv k.1.2.2.2)),(200,k.1.2.1, .own 90 1 k.1.2.2.1.length (k.1.2.2.1.map pInts))]⟩) (fun k=>l.length-k.1.1) ⟨(0, .slice none 0 0,[],[]),Xg _,Part.start l r,fun z=>sM⟩ ?_
 rintro ⟨⟨k,h55,cs,tk⟩,hk,hpt,htk⟩
 dsimp only
 dsimp only at hk hpt htk
 refine Yy ?_ ?_<;>intro hb17
 . (
 obtain ⟨xf,hx⟩:=gS l k;have e1:=Yh (f:=Zb) hx;have e2:=Zif tk xf;have hxl:=Xb hx;have hcsl:cs.length<=l.length:=by
  refine XK ?_ (JH hpt.nd hpt.sub);have:∀m:List (List Int),(∀c∈m,c≠[])->m.length<=m.flatten.length:=fun m=>by
   induction m with
   |nil=>intro _;simp
   | cons c m ih=>
     intro h;have h1:=ih fun d hd=>h d (by simp [hd]);have h2:=X5.2 (h c sM);rw [XP,Xf,Xi];omega
  exact this cs hpt.ne
 refine Zi ?_;refine xM (Ze ZS) ?_;refine yV (Zu ZH) ?_;refine ZX ?_;refine xL 20 Za (xL 21 Za (xL 22 (P9 13 Pw) ?_));refine ZE ?_ ?_<;>intro hb22
 . (
 refine ZU ?_;try refine ZK (YD (l:=73) (l':=201) (j:=cs.length) rfl (Gr (Xc _).symm) rfl rfl) fun _=>?_
 try rw [JI (Xc _).symm,W6 _ _ _ (V1 _).symm]
 try rw [show cs.map pInts++[pInts (cl.mergeSort fun x y=>decide (x<=y))]=(cs++[cl.mergeSort fun x y=>decide (x<=y)]).map pInts by simp,show cs.length+1=(cs++[cl.mergeSort fun x y=>decide (x<=y)]).length by simp]
 try refine ZK (ZM (l:=73) 200 rfl rfl) fun _=>?_
 first
  | (exact Zf (
      ⟨(k+1,h73,cs++[cl.mergeSort fun x y=>decide (x<=y)],tk1),by show k+1<=l.length;omega,hmk.done hpt hasc hx oM,fun z=>by
        show z∈tk1↔z∈(cs++[_]).flatten;rw [hmk.tkm z];simp [K7]⟩
      ) (by show l.length-(k+1)<l.length-k;omega) sB sB)
  | (exact Zf (
      ⟨(k+1,h55,cs,tk),by show k+1<=l.length;omega,hpt.skip hx ((htk xf).1 hb22),htk⟩
      ) (by show l.length-(k+1)<l.length-k;omega) sB sB))
 . (
 have hxn:xf∉cs.flatten:=fun h=>hb22 ((htk xf).2 h);have hxt:xf∉tk:=hb22;refine KL ?_;refine Pj 13 Pw ?_;refine Zw ?_;rw [Zig hxt];refine LN ?_;refine WC (kk:=1) 26 YW fun h26 ho26=>?_;refine KA ?_;refine Zq (ZM (l:=26) 201 rfl rfl) fun _=>?_;refine Yq (ι:={x:Nat×Value×List Int×List Int//x.2.1.oneCell'=true/\Mk l r cs xf x.2.2.1 x.2.2.2 x.1 0}) (fun k=>⟨[(0,_,_),(1,_,_),(5,_,_),(6,_,_),(14,_,_),(15,_,_),(16,_,_),(9,k.1.2.1, .val k.1.2.1),(10, .int .i64 k.1.1,Zb k.1.1)],[(200,_,_),(13,h13, .omap (tkv k.1.2.2.1)),(201,k.1.2.1, .own 3 1 k.1.2.2.2.length (k.1.2.2.2.map Zb))]⟩) (fun k=>l.length-k.1.1) ⟨(0,h26,tk++[xf],[xf]),ho26,Mk.start hpt hx htk hxn⟩ ?_;rintro ⟨⟨i,h99,tk1,cl⟩,ho99,hmk⟩;dsimp only;dsimp only at ho99 hmk;have hcll:=hmk.len;have e1l:(cl.map Zb).length=cl.length:=Xc _;refine Zi ?_;refine xL 27 Za (xL 28 Za (xL 29 (WB 201 ZS) (xL 30 Yj ?_)));refine ZE ?_ ?_<;>intro hb30
 . (
 have hil:i<cl.length:=oM;obtain ⟨u,hu⟩:=get_some hil;refine Zi ?_;refine xL 33 Za (xL 34 (Zs ZS) (xL 35 Za ?_));refine Zw ?_;refine Yq (ι:={x:Nat×Value×List Int×List Int//x.1<=l.length/\x.2.1.oneCell'=true/\x.2.2.2[i]? =some u/\Mk l r cs xf x.2.2.1 x.2.2.2 i x.1}) (fun k=>⟨[(0,_,_),(1,_,_),(5,_,_),(6,_,_),(10,_,_),(14,_,_),(15,_,_),(16,_,_),(33,_,_),(34,_,_),(9,k.1.2.1, .val k.1.2.1),(35, .int .i64 k.1.1,Zb k.1.1)],[(200,_,_),(13,h13, .omap (tkv k.1.2.2.1)),(201,k.1.2.1, .own 3 1 k.1.2.2.2.length (k.1.2.2.2.map Zb))]⟩) (fun k=>l.length-k.1.1) ⟨(0,h99,tk1,cl),Xg _,ho99,hu,hmk⟩ ?_;rintro ⟨⟨q,h98,tk2,cl2⟩,hq,ho98,hu2,hmk2⟩;dsimp only;dsimp only at hq ho98 hu2 hmk2;have hcll2:=hmk2.len;have e1l2:(cl2.map Zb).length=cl2.length:=Xc _;refine Yy ?_ ?_<;>intro hb36
 . (
 obtain ⟨y,hy⟩:=gS l q;have e3:=Yh (f:=Zb) hy;have e4:=Zif tk2 y;have e5:=Yh (f:=Zb) hu2;have hyl:=Xb hy;have hul:=hmk2.sub u (Xb hu2);have hilt:=Zd hu2;refine Zi ?_;refine xM (Ze ZS) ?_;refine yV (Zu ZH) ?_;refine ZX ?_;(refine xL 39 Za (xL 40 Za (xL 41 (P9 13 Pw) (xL 42 LK (xL 43 Za ?_))))<;>(refine bL 43 (fun hb43=>?_) (fun hb43=>?_)<;>refine kZ ?_)<;>refine kZ ?_<;>refine kZ ?_<;>(first|refine kL ?_|refine xM (Zj 201 ZS) ?_)<;>(first|refine kL ?_|refine yV (Zh 201 ZH) ?_)<;>refine kZ ?_<;>(first|refine kL ?_|(refine cV (TC (f:=f) (ps:=caps) rfl ⟨_,rfl⟩ hcl rfl (hf u hul y hyl)) ?_))<;>refine kZ ?_<;>(first|refine kL ?_|(refine bL 51 (fun hb51=>?_) (fun hb51=>?_)<;>refine kZ ?_))<;>refine kZ ?_<;>refine kZ ?_<;>refine kZ ?_<;>(first|refine kL ?_|refine xM (Zj 201 ZS) ?_)<;>(first|refine kL ?_|refine yV (Zh 201 ZH) ?_)<;>(first|refine kL ?_|(refine cV (TC (f:=f) (ps:=caps) rfl ⟨_,rfl⟩ hcl rfl (hf y hyl u hul)) ?_))<;>refine kZ ?_<;>refine ZN ?_<;>refine Zw ?_)<;>(
 refine cX ?_ ?_<;>intro hb60
 . first | exact bN hb60|(
 (have hyt:y∉tk2:=by simpa using hb43);have hry:r u y=true\/r y u=true:=by first|exact .inl hb51|exact .inr hb60
 refine KL ?_;refine Pj 13 Pw ?_;refine Zw ?_;rw [Zig hyt];refine Zo ?_;refine ZO ?_;refine WC (kk:=1) 65 YW fun h65 ho65=>?_;refine Wc 201 65 66 YW fun h66 ho66=>?_;refine JS ?_;try refine ZK (ZM (l:=66) 201 rfl rfl) fun _=>?_
 try rw [show cl2.map Zb++[Zb y]=(cl2++[y]).map Zb by simp,show cl2.length+1=(cl2++[y]).length by simp]
 first
  | (exact Zf (
      ⟨(q+1,h66,tk2++[y],cl2++[y]),by show q+1<=l.length;omega,ho66,by show (cl2++[y])[i]? =some u;rw [Vj hilt];exact hu2,hmk2.take hu2 hy hyt hry⟩
      ) (by show l.length-(q+1)<l.length-q;omega) sB sB)
  | (exact Zf (
      ⟨(q +1,h98,tk2,cl2),by show q+1<=l.length;omega,ho98,hu2,hmk2.pass hu2 hy (by
        first
         |exact .inr ⟨hb51,hb60⟩
         |exact .inl (by simpa using hb43))⟩
      ) (by show l.length-(q+1)<l.length-q;omega) sB sB))
 . first | exact bN hb60|(
 refine ZU ?_;try refine ZK (ZM (l:=66) 201 rfl rfl) fun _=>?_
 try rw [show cl2.map Zb++[Zb y]=(cl2++[y]).map Zb by simp,show cl2.length+1=(cl2++[y]).length by simp]
 first
  | (exact Zf (
      ⟨(q+1,h66,tk2++[y],cl2++[y]),by show q+1<=l.length;omega,ho66,by show (cl2++[y])[i]? =some u;rw [Vj hilt];exact hu2,hmk2.take hu2 hy hyt hry⟩
      ) (by show l.length-(q+1)<l.length-q;omega) sB sB)
  | (exact Zf (
      ⟨(q +1,h98,tk2,cl2),by show q+1<=l.length;omega,ho98,hu2,hmk2.pass hu2 hy (by
        first
         |exact .inr ⟨hb51,hb60⟩
         |exact .inl (by simpa using hb43))⟩
      ) (by show l.length-(q+1)<l.length-q;omega) sB sB))))
 . (
 refine Y2 ?_;refine Zf (
  ⟨(i+1,h98,tk2,cl2),ho98,hmk2.next oM (Zd hu2)⟩
  ) (by show l.length-(i+1)<l.length-i;omega) sB sB))
 . (
 refine Wp ?_;refine ZcN 201 EB (call60) ?_ (List.length_pos_of_mem hmk.fst);refine Ym ?_;refine ZO ?_;refine WC (kk:=1) 72 Yv fun h72 ho72=>?_;refine Wc 200 72 73 Yv fun h73 ho73=>?_;refine JS ?_;try refine ZK (YD (l:=73) (l':=201) (j:=cs.length) rfl (Gr (Xc _).symm) rfl rfl) fun _=>?_
 try rw [JI (Xc _).symm,W6 _ _ _ (V1 _).symm]
 try rw [show cs.map pInts++[pInts (cl.mergeSort fun x y=>decide (x<=y))]=(cs++[cl.mergeSort fun x y=>decide (x<=y)]).map pInts by simp,show cs.length+1=(cs++[cl.mergeSort fun x y=>decide (x<=y)]).length by simp]
 try refine ZK (ZM (l:=73) 200 rfl rfl) fun _=>?_
 first
  | (exact Zf (
      ⟨(k+1,h73,cs++[cl.mergeSort fun x y=>decide (x<=y)],tk1),by show k+1<=l.length;omega,hmk.done hpt hasc hx oM,fun z=>by
        show z∈tk1↔z∈(cs++[_]).flatten;rw [hmk.tkm z];simp [K7]⟩
      ) (by show l.length-(k+1)<l.length-k;omega) sB sB)
  | (exact Zf (
      ⟨(k+1,h55,cs,tk),by show k+1<=l.length;omega,hpt.skip hx ((htk xf).1 hb22),htk⟩
      ) (by show l.length-(k+1)<l.length-k;omega) sB sB))))
 . (
 refine ZU ?_;refine Ga 200 (results48) rfl rfl ⟨cs,hpt.comps oM,rfl⟩)
def Wm (l:List BA) (i:Int):BA:=l[i.toNat]?.getD ByteArray.empty
def ZA (l:List BA) (cs:List (List Int)):List (List BA):=cs.map fun c=>c.map (Wm l)
theorem Zih {l:List BA} {x:Int} (h:0<=x/\x<l.length):(l.map Zv)[x.toNat*1]? =some (Zv (Wm l x)):=by
 rw [XI,Xl]
 unfold Wm
 rw [Xq (show x.toNat<l.length by omega)];rfl
theorem Cn (e n:Nat) (l:List (List BA)) (hn:n=l.length):share (.own e 1 n (l.map ZW))=LG l:=by
 subst hn
 rw [share,YI,Xz];rfl
theorem KJ (e n:Nat) (l:List (List Int)) (hn:n=l.length):share (.own e 1 n (l.map pInts))=KR l:=by
 subst hn
 rw [share,YI,Xz];rfl
theorem On (l:List BA) (rest:List PV) (kind:Int) (cs:List (List Int)) (h:cs.length<2):AF prog 47 [.sptr 0 (ZW l::rest),Zb kind,KR cs] (· = .tup [.agg [Zb 0, .val (.slice none 0 0)],Zb 10]):=by
 refine AF.b3 51 func47 rfl ntmps47 (Xa rfl) ?_
 rintro w0 M0 v0 _ v2-rfl-
 refine Zi ?_
 refine Zt [(.int .i64 0),(.slice none 0 0)] 2 6 WW fun h6=>?_;refine ZX ?_
 refine xL 14 Za (xL 15 (Zs ZQ) (xL 16 Yj ?_));refine ZE ?_ ?_<;>intro hb16
 . refine Zi ?_;refine xM (ZC Tm) ?_;refine Zp 6 Z6 ?_;refine ZP ?_;exact Yb (k:=2) 6 kR (results47) rfl rfl rfl (Xa rfl) dC rfl rfl
 . exfalso;omega
theorem Hy (l:List BA) (rest:List PV) (kind:Int) (cs:List (List Int)) (h:2<=cs.length) (hcs:∀c∈cs,∀x∈c,0<=x/\x<l.length) (hcl:cs.length<=1000000) (hcc:∀c∈cs,c.length<=1000000):AF prog 47 [.sptr 0 (ZW l::rest),Zb kind,KR cs] (· = .tup [Pf ⟨kind,ZA l cs⟩,Zb 0]):=by
 refine AF.b3 51 func47 rfl ntmps47 (Xa rfl) ?_
 rintro w0 M0 v0 _ v2-rfl-
 refine Zi ?_
 refine Zt [(.int .i64 0),(.slice none 0 0)] 2 6 WW fun h6=>?_;refine ZX ?_
 refine xL 14 Za (xL 15 (Zs ZQ) (xL 16 Yj ?_));refine ZE ?_ ?_<;>intro hb16
 . exfalso;omega
 . refine Zi ?_;refine xL 18 Za (xL 19 (ZC Tm) ?_);refine Zt [(.int .i64 0),(.slice none 0 0)] 2 8 WW fun h8=>?_;refine Zp 8 Z6 ?_;refine Ym ?_;refine xL 20 Za (xL 21 (Zs ZQ) (xL 22 Za ?_));refine Zw ?_;refine Zq (YS 200 26 1 rfl) fun _=>?_;refine Yq (ι:={x:Nat×Value//x.1<=cs.length}) (fun k=>⟨[(0,_,_),(6,_,_),(8,_,_),(20,_,_),(21,_,_),(22, .int .i64 k.1.1,Zb k.1.1)],[(6,_,_),(8,h8, .own 42 2 1 [Zb kind, .val k.1.2]),(200,k.1.2, .own 26 1 k.1.1 (((ZA l cs).take k.1.1).map ZW))]⟩) (fun k=>cs.length-k.1.1) ⟨(0, .slice none 0 0),Xg _⟩ ?_;rintro ⟨⟨k,h55⟩,hk⟩;dsimp only;dsimp only at hk;refine Yy ?_ ?_<;>intro hb23
   . (
 obtain ⟨cl,hx⟩:=gS cs k;have e1:=Yh (f:=pInts) hx;have hxl:=hcs cl (Xb hx);have hxc:=hcc cl (Xb hx);(have hpt:(ZA l cs)[k]? =some (cl.map (Wm l)):=by unfold ZA;rw [Xl,hx];rfl);(have e2:(((ZA l cs).take k).map ZW).length=k:=by unfold ZA;simp;omega);refine Zi ?_;refine xM (Ze ZQ) ?_;refine yU (Zu YA) fun v25=>?_;refine ZX ?_;refine ZX ?_;refine xL 26 Za (xL 27 (Zs ZS) (xL 28 Za ?_));refine Zw ?_;refine Zq (YS 201 9 1 rfl) fun _=>?_;refine Yq (ι:={x:Nat×Value//x.1<=cl.length/\x.2.oneCell'=true}) (fun k=>⟨[(0,_,_),(6,_,_),(8,_,_),(20,_,_),(21,_,_),(22,_,_),(26,_,_),(27,_,_),(11,k.1.2, .val k.1.2),(28, .int .i64 k.1.1,Zb k.1.1)],[(6,_,_),(8,_,_),(200,_,_),(201,k.1.2, .own 9 1 k.1.1 (((cl.map (Wm l)).take k.1.1).map Zv))]⟩) (fun k=>cl.length-k.1.1) ⟨(0, .slice none 0 0),Xg _,rfl⟩ ?_;rintro ⟨⟨j,h66⟩,hj,ho66⟩;dsimp only;dsimp only at hj ho66;refine Yy ?_ ?_<;>intro hb29
 . (
 obtain ⟨z,hz⟩:=gS cl j;have e3:=Yh (f:=Zb) hz;have hzb:=hxl z (Xb hz);have e4:=Zih hzb;(have e5:(((cl.map (Wm l)).take j).map Zv).length=j:=by simp;omega);(have hnz:(cl.map (Wm l))[j]? =some (Wm l z):=by rw [Xl,hz];rfl);refine Zi ?_;refine xM (Ze ZS) ?_;refine yV (Zu ZH) ?_;refine ZX ?_;refine xL 32 Za (xL 33 Za (xL 34 Kp (xL 35 (Yn Jl) ?_)));refine yU (Zu ZF) fun v36=>?_;refine xL 37 Za (xL 38 (T0 Zm) ?_);refine yV (Zu ZB) ?_;refine WC (kk:=1) 40 YV fun h40 ho40=>?_;refine Wc 201 40 41 YV fun h41 ho41=>?_;refine JS ?_;refine ZK (ZM (l:=41) 201 rfl rfl) fun _=>?_;rw [show ((cl.map (Wm l)).take j).map Zv++[Zv (Wm l z)]=((cl.map (Wm l)).take (j+1)).map Zv by rw [Z2 hnz,XW];rfl];refine Zf (
  ⟨(j+1,h41),by show j+1<=cl.length;omega,ho41⟩
  ) (by show cl.length-(j+1)<cl.length-j;omega) sB sB)
 . (
 refine Zi ?_;refine xM (Zc 8 KH) ?_;refine yV (Zh 8 JG) ?_;refine ZN ?_;refine WC (kk:=1) 46 O' fun h46 ho46=>?_;refine Wc 200 46 47 O' fun h47 ho47=>?_;refine xM (Zc 8 KH) ?_;refine JX 8 JG ZbR ?_;refine Ym ?_;refine KI ?_;refine ZK (YD (l:=47) (l':=201) (j:=k) rfl (Gr e2.symm) rfl rfl) fun _=>?_;rw [JI e2.symm,show j=(cl.map (Wm l)).length by rw [Xc];omega,Xx,JW];rw [show ((ZA l cs).take k).map ZW++[PV.sl (cl.map (Wm l)).length ((cl.map (Wm l)).map Zv)]=((ZA l cs).take (k+1)).map ZW by rw [Z2 hpt,XW];rfl];refine ZK (ZM (l:=47) 200 rfl rfl) fun _=>?_;refine Zf (
  ⟨(k+1,h47),by show k+1<=cs.length;omega⟩
  ) (by show cs.length-(k+1)<cs.length-k;omega) sB sB))
   . (
 refine nav ?_;rw [show k=(ZA l cs).length by unfold ZA;rw [Xc];omega,Xx];refine Zq (YD (l:=8) (l':=200) (j:=1) rfl rfl rfl rfl) fun _=>?_;rw [Cn _ _ _ rfl];refine Zo ?_;refine yU (Zn 8 Z6) fun v50=>?_;refine Zp 6 Z6 ?_;refine ZP ?_;exact Yb (k:=2) 6 kR (results47) rfl rfl rfl (Xa rfl) dC rfl rfl)
def ζ4 (l:List BA) (kind:Int) (cs:List (List Int)):PV:=if cs.length<2 then .tup [.agg [Zb 0, .val (.slice none 0 0)],Zb 10] else .tup [Pf ⟨kind,ZA l cs⟩,Zb 0]
theorem YR {n:Nat} {x:Int}:x∈upTo n↔0<=x/\x<n:=by
 unfold upTo vec
 simp only [Xp,XQ]
 constructor
 . rintro ⟨i,hi,rfl⟩;omega
 . rintro ⟨h0,h1⟩;exact ⟨x.toNat,oM,oM⟩
theorem JJ (n:Nat):(upTo n).length=n:=Wx _ _
theorem LQ (n:Nat):(upTo n).Pairwise (· < ·):=by
 rw [XV]
 intro i j hi hj hij
 rw [JJ] at hi hj
 have e1:(upTo n)[i]? =some ((i:Nat):Int):=Pv _ hi
 have e2:(upTo n)[j]? =some ((j:Nat):Int):=Pv _ hj
 rw [(Xk.1 e1).2,(Xk.1 e2).2];omega
theorem Jo {n:Nat} {r:Int->Int->Bool} {cs:List (List Int)} (h:Comps (upTo n) r cs):(∀c∈cs,∀x∈c,0<=x/\x<n)/\cs.length<=n/\∀c∈cs,c.length<=n:=by
 have h1:∀c∈cs,∀x∈c,x∈upTo n:=fun c hc x hx=>(h.mem x).1 (XO.2 ⟨c,hc,hx⟩)
 refine ⟨fun c hc x hx=>YR.1 (h1 c hc x hx),?_,fun c hc=>?_⟩
 . have h2:=JH h.nd (fun x hx=>(h.mem x).1 hx);rw [JJ] at h2;have:∀m:List (List Int),(∀c∈m,c≠[])->m.length<=m.flatten.length:=fun m=>by
    induction m with
    |nil=>intro _;simp
    | cons c m ih=>
      intro h;have h1:=ih fun d hd=>h d (by simp [hd]);have h2:=X5.2 (h c sM);rw [XP,Xf,Xi];omega
   have:=this cs h.ne;omega
 . have h2:=JH (l:=c) (m:=upTo n) ((h.asc c hc).imp fun {a b} h=>oM) (h1 c hc);rw [JJ] at h2;exact h2
def PT (E:Nat->Nat->Bool) (a b:Int):Bool:=E a.toNat b.toNat
theorem Zpq (l:List BA) (n:Nat) (E:Nat->Nat->Bool) (S F:Nat->Bool) (x y:Int) (hx:0<=x/\x<n) (hy:0<=y/\y<n):AF prog 50 [Zb x,Zb y, .sptr 0 [GX l n E S F]] (· =Zr (PT E x y)):=by
 obtain ⟨a,rfl⟩:∃a:Nat,x=a:=⟨x.toNat,oM⟩
 obtain ⟨b,rfl⟩:∃b:Nat,y=b:=⟨y.toNat,oM⟩
 have e1:=ZZ (fun i=>Wq n (E i)) (show a<n by omega)
 have e2:=ZZ (fun j=>Zr (E a j)) (show b<n by omega)
 refine AF.b3 16 func50 rfl ntmps50 (Xa rfl) ?_
 rintro w0 M0 _ _ v2 rfl rfl-
 dsimp only [GX]
 refine YG ?_
 refine yU (Zu WV) fun v6=>?_;refine xL 7 Kp (xL 8 (Yn KY) ?_);refine yU (Zu Yl) fun v9=>?_;refine xL 10 Za (xL 11 (Ze Z') ?_);refine yU (Zu Zx) fun v12=>?_;refine xL 13 Za (xL 14 (Ze ZI) ?_);refine yV (Zu ZT) ?_;refine ZP ?_
 exact Zg results50 rfl rfl
theorem Zj5 (g:Dfg) (l:List BA) (n:Nat) (E:Nat->Nat->Bool) (S F:Nat->Bool) (hb:AF prog 46 [Jb g] (· = .tup [GX l n E S F,Zb 0])) (hl:l.length=n) (hn:n<=1000):AF prog 14 [Jb g] (fun p=>∃cs,Comps (upTo n) (PT E) cs/\p=ζ4 l 1 cs):=by
 refine AF.b1 23 func14 rfl ntmps14 (Xa rfl) fun w0 M0 v0 _=>?_
 refine Zi ?_
 refine Yi 1 4 fun h1=>?_;refine Zt [(.int .i64 0),(.slice none 0 0)] 2 2 WW fun h2=>?_;refine ZX ?_
 refine yU (Zn 1 Yu) fun v7=>?_;refine cP 8 (cA call46 (hb)) fun va8 vb8 hva8 hvb8=>?_;cases hvb8;refine Y1 ?_;refine Zt [(.pointer none)] 1 4 EA fun h4=>?_;refine JX 4 WV Ez ?_;refine ZX ?_
 (refine ZO ?_<;>refine Zw ?_)<;>(try (exfalso;omega))<;>(
 refine cX ?_ ?_<;>intro hb12
 . exfalso;omega
 . refine nav ?_;refine Zq (S7 (l:=4) (t:=4) (j:=0) rfl Vt rfl) fun _=>?_;dsimp only [Wk,share,List.map,GX];(refine YJ [] [] ?_<;>(refine yD 0 rfl (Zu WV) fun v15 h=>?_;cases h)<;>(refine yD 1 rfl (Zu WV) fun v16 h=>?_;cases h)<;>refine xD 3 rfl Rp ?_<;>(refine ZY 2 kR ?_)<;>(refine Yo (d:=17) rfl (cA call49 ((Zc6 l _ oM).mono (R':=(· =pInts (upTo n))) fun p hp=>by rw [hp,hl])) fun v17 h=>?_;cases h)<;>(refine aDr 4 fun bk=>?_)<;>(refine LC 19 rfl rfl (Xa rfl) rfl (cA call48 (SK 50 [.sptr 0 [GX l n E S F]] (PT E) (upTo n) (LQ n) (by rw [JJ];omega) (call50) (fun x hx y hy=>Zpq l n E S F x y (YR.1 hx) (YR.1 hy)))) ?_;rintro p' ⟨cs,hcs,rfl⟩;refine ⟨rfl,fun h19 ho19=>?_⟩;refine Zz (En.freeze (l:=19) (t:=19) rfl rfl) fun _=>?_;rw [KJ _ _ _ rfl])<;>refine bE bk ?_<;>(refine aDr 5 fun bk=>?_)<;>(by_cases hm:cs.length<2<;>first|(refine cP 20 (cA call47 (On l _ 1 cs hm)) fun va20 vb20 hva20 h=>?_;cases h)|(refine cP 20 (cA call47 (Hy l _ 1 cs oM (by rw [hl];exact (Jo hcs).1) (by have:=(Jo hcs).2.1;omega) (fun c hc=>by have:=(Jo hcs).2.2 c hc;omega))) fun va20 vb20 hva20 h=>?_;cases h))<;>refine bE bk ?_<;>refine xD 6 rfl Y4 ?_<;>refine xE 7 rfl Y4 ?_<;>(refine aDr 8 fun bk=>?_)<;>refine Zp 2 Z6 ?_<;>refine bE bk ?_<;>refine xE 9 rfl ZJ ?_<;>refine WE ?_)<;>(
 refine Yb (k:=2) 2 kR (results14) rfl rfl rfl (Xa rfl) dC rfl ⟨cs,hcs,?_⟩;unfold ζ4
 first
  |(rw [Qc hm];rfl)
  |(rw [Qb hm];rfl)))
theorem ZbS:ZeroT prog 93 (.slice none 0 0):=by unfold ZeroT;kernel_rfl
def relS (R:Nat->Nat->Bool) (a b:Int):Bool:=R a.toNat b.toNat==R b.toNat a.toNat
def hdI (c:List Int):Int:=c[0]?.getD 0
def cmpSeq (R:Nat->Nat->Bool) (x y:List Int):Int:=if hdI x=hdI y then 0 else if R (hdI x).toNat (hdI y).toNat then-1 else 1
theorem SL {R:Nat->Nat->Bool} {x y:List Int}:cmpSeq R x y<0↔hdI x≠hdI y/\R (hdI x).toNat (hdI y).toNat=true:=by
 unfold cmpSeq
 by_cases h:hdI x=hdI y
 . rw [Qc h];simp [h]
 . rw [Qb h]
   cases hr:R (hdI x).toNat (hdI y).toNat<;>simp [h]
theorem TY {c:List Int} (h:c≠[]):hdI c∈c:=by
 cases c with
 |nil=>exact Qd rfl h
 |cons a t=>exact Xu
theorem GG {n:Nat} {R:Nat->Nat->Bool} {cs:List (List Int)} (h:Comps (upTo n) (relS R) cs) {c d:List Int} (hc:c∈cs) (hd:d∈cs) (hne:hdI c≠hdI d):R (hdI c).toNat (hdI d).toNat≠R (hdI d).toNat (hdI c).toNat:=fun he=>by
 have hm:=h.clos c hc (hdI c) (TY (h.ne c hc)) (hdI d) ((h.mem _).1 (XO.2 ⟨d,hd,TY (h.ne d hd)⟩)) (.inl (by unfold relS;rw [he];simp))
 have hcd:c=d:=by
  obtain ⟨i,hi⟩:=XM hc;obtain ⟨j,hj⟩:=XM hd;by_cases e:i=j
  . subst e;rw [hi] at hj;cases hj;rfl
  . have:=XV.1 (Ub.1 h.nd).2;have hlt:=Zd hi;have hlt':=Zd hj;rcases Nat.lt_or_gt_of_ne e with h1|h1
    . have:=this i j hlt hlt' h1 (hdI d) (by rw [(Xk.1 hi).2];exact hm) (hdI d) (by rw [(Xk.1 hj).2];exact TY (h.ne d hd));exact Qd rfl this
    . have:=this j i hlt' hlt h1 (hdI d) (by rw [(Xk.1 hj).2];exact TY (h.ne d hd)) (hdI d) (by rw [(Xk.1 hi).2];exact hm);exact Qd rfl this
 exact hne (by rw [hcd])
theorem Zra {n:Nat} {E R:Nat->Nat->Bool} {cs:List (List Int)} (hR:Closed n E R) (h:Comps (upTo n) (relS R) cs) (a b c:{c//c∈cs}) (h1:cmpSeq R a.1 b.1<0) (h2:cmpSeq R b.1 c.1<0):cmpSeq R a.1 c.1<0:=by
 have hin:=(Jo h).1
 have ba:=hin a.1 a.2 _ (TY (h.ne _ a.2))
 have bb:=hin b.1 b.2 _ (TY (h.ne _ b.2))
 have bc:=hin c.1 c.2 _ (TY (h.ne _ c.2))
 rw [SL] at h1 h2 ⊢
 have hac:=hR.2 (hdI a.1).toNat (hdI b.1).toNat (hdI c.1).toNat oM oM oM h1.2 h2.2
 refine ⟨fun e=>?_,hac⟩
 have:=GG h a.2 b.2 h1.1
 rw [<-e] at h2
 rw [h1.2,h2.2] at this;exact this rfl
theorem Zrb {n:Nat} {E R:Nat->Nat->Bool} {cs:List (List Int)} (hR:Closed n E R) (h:Comps (upTo n) (relS R) cs) (a b c:{c//c∈cs}) (h1:¬cmpSeq R a.1 b.1<0) (h2:¬cmpSeq R b.1 c.1<0):¬cmpSeq R a.1 c.1<0:=by
 have hin:=(Jo h).1
 have ba:=hin a.1 a.2 _ (TY (h.ne _ a.2))
 have bb:=hin b.1 b.2 _ (TY (h.ne _ b.2))
 have bc:=hin c.1 c.2 _ (TY (h.ne _ c.2))
 by_cases e1:hdI a.1=hdI b.1
 . unfold cmpSeq at h2 ⊢;rw [e1];exact h2
 . by_cases e2:hdI b.1=hdI c.1
   . unfold cmpSeq at h1 ⊢;rw [<-e2];exact h1
   . rw [SL] at h1 h2 ⊢;have r1:R (hdI b.1).toNat (hdI a.1).toNat=true:=by
      have h3:=GG h a.2 b.2 e1;(have h4:R (hdI a.1).toNat (hdI b.1).toNat=false:=by rw [<-U1];exact fun hh=>h1 ⟨e1,hh⟩);rw [h4] at h3
      cases hx:R (hdI b.1).toNat (hdI a.1).toNat with
      |true=>rfl
      |false=>rw [hx] at h3;exact Qd rfl h3
     have r2:R (hdI c.1).toNat (hdI b.1).toNat=true:=by
      have h3:=GG h b.2 c.2 e2;(have h4:R (hdI b.1).toNat (hdI c.1).toNat=false:=by rw [<-U1];exact fun hh=>h2 ⟨e2,hh⟩);rw [h4] at h3
      cases hx:R (hdI c.1).toNat (hdI b.1).toNat with
      |true=>rfl
      |false=>rw [hx] at h3;exact Qd rfl h3
     have r3:=hR.2 (hdI c.1).toNat (hdI b.1).toNat (hdI a.1).toNat oM oM oM r2 r1;rintro ⟨e3,r4⟩;have:=GG h a.2 c.2 e3;rw [r4,r3] at this;exact this rfl
theorem Zii (n:Nat) (R:Nat->Nat->Bool) (x y:Int) (hx:0<=x/\x<n) (hy:0<=y/\y<n):AF prog 52 [Zb x,Zb y, .sptr 0 [Ew n R]] (· =Zr (relS R x y)):=by
 obtain ⟨a,rfl⟩:∃a:Nat,x=a:=⟨x.toNat,oM⟩
 obtain ⟨b,rfl⟩:∃b:Nat,y=b:=⟨y.toNat,oM⟩
 have e1:=ZZ (fun i=>Wq n (R i)) (show a<n by omega)
 have e2:=ZZ (fun j=>Zr (R a j)) (show b<n by omega)
 have e3:=ZZ (fun i=>Wq n (R i)) (show b<n by omega)
 have e4:=ZZ (fun j=>Zr (R b j)) (show a<n by omega)
 refine AF.b3 21 func52 rfl ntmps52 (Xa rfl) ?_
 rintro w0 M0 _ _ v2 rfl rfl-
 refine ZD ?_
 refine YJ [] [] ?_<;>(refine yD 0 rfl (Zu Yl) fun v6 h=>?_;cases h)<;>refine xD 1 rfl Za ?_<;>refine xD 2 rfl (Ze Z') ?_<;>(refine yD 3 rfl (Zu Zx) fun v9 h=>?_;cases h)<;>refine xD 4 rfl Za ?_<;>refine xD 5 rfl (Ze ZI) ?_<;>(refine yD 6 rfl (Zu ZT) fun v12 h=>?_;cases h)<;>(refine yD 7 rfl (Zu Yl) fun v13 h=>?_;cases h)<;>refine xD 8 rfl Za ?_<;>refine xD 9 rfl (Ze Z') ?_<;>(refine yD 10 rfl (Zu Zx) fun v16 h=>?_;cases h)<;>refine xE 11 rfl Za ?_<;>refine xE 12 rfl (Ze ZI) ?_<;>(refine yE 13 rfl (Zu ZT) fun v19 h=>?_;cases h)<;>refine xE 14 rfl (ZlS underlying4) ?_<;>refine xE 15 rfl ZJ ?_<;>refine WE ?_
 exact Zg results52 rfl rfl
theorem Zpr (n:Nat) (R:Nat->Nat->Bool) (x y:List Int) (hx:x≠[]) (hy:y≠[]) (hx2:∀z∈x,0<=z/\z<n) (hy2:∀z∈y,0<=z/\z<n):AFg prog 54 [pInts x,pInts y, .sptr 0 [Ew n R]] (· = .val (.int .i64 (cmpSeq R x y))):=by
 have hxl:=X5.2 hx
 have hyl:=X5.2 hy
 have bx:=hx2 _ (TY hx)
 have bY:=hy2 _ (TY hy)
 obtain ⟨a,ha⟩:∃a:Nat,hdI x=a:=⟨(hdI x).toNat,oM⟩
 obtain ⟨b,hb⟩:∃b:Nat,hdI y=b:=⟨(hdI y).toNat,oM⟩
 have e0:(x.map Zb)[0*1]? =some (Zb (a:Nat)):=by
  cases x with
  |nil=>exact Qd rfl hx
  |cons z t=>show some (Zb z)=_;rw [show z=a from ha]
 have e0':(y.map Zb)[0*1]? =some (Zb (b:Nat)):=by
  cases y with
  |nil=>exact Qd rfl hy
  |cons z t=>show some (Zb z)=_;rw [show z=b from hb]
 have e1:=ZZ (fun i=>Wq n (R i)) (show a<n by omega)
 have e2:=ZZ (fun j=>Zr (R a j)) (show b<n by omega)
 refine AFg.of_body 24 func54 rfl ntmps54 (Xa rfl) ?_
 intro w0 M0 vs hl hv
 obtain ⟨v0,v1,v2,rfl⟩:=ZrN hl
 clear hl hv
 dsimp only [pInts]
 refine ZD ?_
 refine YJ [] [] ?_<;>refine xD 0 rfl Za ?_<;>refine xD 1 rfl (Ze (i:=0) ZS) ?_<;>(refine yD 2 rfl (Zu ZH) fun v8 h=>?_;cases h)<;>refine xE 3 rfl Za ?_<;>refine xE 4 rfl (Ze (i:=0) ZS) ?_<;>(refine yE 5 rfl (Zu ZH) fun v11 h=>?_;cases h)<;>refine xE 6 rfl Ky ?_<;>refine WE ?_
 refine cX ?_ ?_<;>intro hb12
 . (
 refine ZD ?_;refine Zg (results54) rfl ?_;unfold cmpSeq;rw [ha,hb,Qc hb12])
 . (
 refine nav ?_;refine YJ [] [] ?_<;>(refine yD 0 rfl (Zu Yl) fun v13 h=>?_;cases h)<;>refine xD 1 rfl Za ?_<;>refine xD 2 rfl (Ze (i:=0) ZS) ?_<;>(refine yD 3 rfl (Zu ZH) fun v16 h=>?_;cases h)<;>refine xD 4 rfl (Ze Z') ?_<;>(refine yD 5 rfl (Zu Zx) fun v18 h=>?_;cases h)<;>refine xE 6 rfl Za ?_<;>refine xE 7 rfl (Ze (i:=0) ZS) ?_<;>(refine yE 8 rfl (Zu ZH) fun v21 h=>?_;cases h)<;>refine xE 9 rfl (Ze ZI) ?_<;>(refine yE 10 rfl (Zu ZT) fun v23 h=>?_;cases h)<;>refine WE ?_;refine cX ?_ ?_<;>intro hb23
 . (
 refine ZD ?_;refine Zg (results54) rfl ?_;unfold cmpSeq;rw [ha,hb,Qb hb12,XG,XG,Qc hb23])
 . (
 refine ZD ?_;refine Zg (results54) rfl ?_;unfold cmpSeq;rw [ha,hb,Qb hb12,XG,XG,Qb (by rw [hb23];simp)]))
theorem ZgK:Zgm prog 53 54:=fun enc h1 cf hO cb blk cap d w hcmp hH hblk hsz=>Tryz.slices_SortFunc enc h1 cf hO 54 cb blk 0 cap d w (call54) hcmp hH hblk hsz
structure SeqCs (n:Nat) (R:Nat->Nat->Bool) (cs:List (List Int)):Prop where
 cl:∃ds,Comps (upTo n) (relS R) ds/\cs.Perm ds
 ord:∀(i j:Nat) (a b:List Int),i<j->cs[i]? =some a->cs[j]? =some b->¬cmpSeq R b a<0
theorem Zj6 (g:Dfg) (l:List BA) (n:Nat) (E:Nat->Nat->Bool) (S F:Nat->Bool) (hb:AF prog 46 [Jb g] (· = .tup [GX l n E S F,Zb 0])) (hl:l.length=n) (hn:n<=1000) (hn0:0<n):AF prog 15 [Jb g] (fun p=>∃cs,SeqCs n (ZV n E) cs/\p=ζ4 l 2 cs):=by
 refine AF.b1 31 func15 rfl ntmps15 (Xa rfl) fun w0 M0 v0 _=>?_
 refine Zi ?_
 refine Yi 1 4 fun h1=>?_;refine Zt [(.int .i64 0),(.slice none 0 0)] 2 2 WW fun h2=>?_;refine ZX ?_
 refine yU (Zn 1 Yu) fun v9=>?_;refine cP 10 (cA call46 (hb)) fun va10 vb10 hva10 hvb10=>?_;cases hvb10;refine Sx ?_;refine WZ ?_ ?_<;>intro hb14
 . exfalso;omega
 . refine Zi ?_;refine ZN ?_;refine cU (cA call51 (ZeU l n E (Wq n S) (Wq n F) hl hn)) fun v18=>?_;refine Zt [(.slice none 0 0)] 1 6 ZbS fun h6=>?_;refine JX 6 Yl O5 ?_;refine Zw ?_;refine Zq (S7 (l:=6) (t:=6) (j:=0) rfl Vt rfl) fun _=>?_;dsimp only [Wk,share,List.map,GX];refine LN ?_;refine cU (cA call49 ((Zc6 l _ oM).mono (R':=(· =pInts (upTo n))) fun p hp=>by rw [hp,hl])) fun v20=>?_;refine xM Rp ?_;refine LC 22 rfl rfl (Xa rfl) rfl (cA call48 (SK 52 [.sptr 0 [Ew n (ZV n E)]] (relS (ZV n E)) (upTo n) (LQ n) (by rw [JJ];omega) (call52) (fun x hx y hy=>Zii n (ZV n E) x y (YR.1 hx) (YR.1 hy)))) ?_;rintro p' ⟨cs,hcs,rfl⟩;refine ⟨rfl,fun h22 ho22=>?_⟩;refine ZP ?_;have hin:=Jo hcs;have hcp:0<cs.attach.length:=by
    rw [Uc]
    cases cs with
    |nil=>have:=(hcs.mem 0).2 (YR.2 ⟨oM,oM⟩);simp at this
    |cons=>simp
   rw [show cs.map pInts=cs.attach.map (fun c:{c//c∈cs}=>pInts c.1) by rw [List.attach_map_val (f:=pInts)],show cs.length=cs.attach.length from Uc.symm];refine Zo ?_;refine xL 23 Za (xL 24 Rp ?_);refine ZhK (β:={c//c∈cs}) (f:=fun c=>pInts c.1) (cmp:=fun a b=>cmpSeq (ZV n E) a.1 b.1) (rows:=cs.attach) 22 ZgK (call53) (fun _=>rfl) (fun a=>by unfold cmpSeq;rw [Qc rfl];decide) (Zra (GD n E) hcs) (Zrb (GD n E) hcs) (fun x _ y _=>Zpr n (ZV n E) x.1 y.1 (hcs.ne _ x.2) (hcs.ne _ y.2) (hin.1 _ x.2) (hin.1 _ y.2)) hcp (by rw [Uc];omega) (fun rows' hperm hord=>?_);refine Zw ?_;obtain ⟨ds,hds⟩:∃ds,ds=rows'.map (·.1):=⟨_,rfl⟩;have hpd:ds.Perm cs:=by rw [hds];have:=hperm.map (·.1);rw [List.attach_map_subtype_val] at this;exact this
   have hsq:SeqCs n (ZV n E) ds:=⟨⟨cs,hcs,hpd⟩,fun i j a b hij ha hb=>by
    rw [hds,Xl,XS] at ha hb;obtain ⟨a',ha',rfl⟩:=ha;obtain ⟨b',hb',rfl⟩:=hb;exact hord i j a' b' hij ha' hb'⟩
   rw [show rows'.map (fun c:{c//c∈cs}=>pInts c.1)=ds.map pInts by rw [hds,Xz];rfl,show cs.attach.length=ds.length by rw [Uc];exact hpd.length_eq.symm];refine Zq (En.freeze (l:=22) (t:=7) rfl rfl) fun _=>?_;rw [KJ _ _ _ rfl];have hdi:∀c∈ds,∀x∈c,0<=x/\x<l.length:=fun c hc=>by rw [hl];exact hin.1 c (hpd.mem_iff.1 hc)
   have hdl:ds.length<=1000000:=by rw [hpd.length_eq];omega
   have hdc:∀c∈ds,c.length<=1000000:=fun c hc=>by have:=hin.2.2 c (hpd.mem_iff.1 hc);omega
   (refine Zo ?_<;>refine ZO ?_<;>(by_cases hm:ds.length<2<;>first|(refine cP 28 (cA call47 (On l _ 2 ds hm)) fun va28 vb28 hva28 h=>?_;cases h)|(refine cP 28 (cA call47 (Hy l _ 2 ds oM hdi hdl hdc)) fun va28 vb28 hva28 h=>?_;cases h))<;>refine ZO ?_<;>refine Zp 2 Z6 ?_<;>refine ZN ?_<;>refine Zw ?_)<;>(
 refine Yb (k:=2) 2 kR (results15) rfl rfl rfl (Xa rfl) dC rfl ⟨ds,hsq,?_⟩;unfold ζ4
 first
  |(rw [Qc hm];rfl)
  |(rw [Qb hm];rfl))
end Go.Proofs.YtmkojdfiadbeeaaGreat
namespace Go.Cb
open Go.En
theorem CZ:∀{l m:List Int},l.Pairwise (· < ·)->m.Pairwise (· < ·)->(∀x,x∈l↔x∈m)->l=m
 |[],[],_,_,_=>rfl
 |[],b::m,_,_,h=>by have:=(h b).2 sM;simp at this
 |a::l,[],_,_,h=>by have:=(h a).1 sM;simp at this
 | a :: l,b::m,hl,hm,h=>by
   rw [Xw] at hl hm;have hab:a=b:=by
    have h1:=(h a).1 sM;have h2:=(h b).2 sM;rcases Xh.1 h1 with e|e
    . exact e
    . rcases Xh.1 h2 with e2|e2
      . exact e2.symm
      . have:=hl.1 b e2;have:=hm.1 a e;omega
   subst hab;rw [CZ hl.2 hm.2 fun x=>?_];constructor
   . intro hx;have:=(h x).1 (by simp [hx]);rcases Xh.1 this with e|e
     . subst e;have:=hl.1 _ hx;omega
     . exact e
   . intro hx;have:=(h x).2 (by simp [hx]);rcases Xh.1 this with e|e
     . subst e;have:=hm.1 _ hx;omega
     . exact e
def YK (c:List Int):Int:=c[0]?.getD 0
theorem JK {c:List Int} (h:c≠[]):YK c∈c:=by
 cases c with
 |nil=>exact Qd rfl h
 |cons a t=>exact Xu
theorem Re {c:List Int} (h:c≠[]):c.head? =some (YK c):=by
 cases c with
 |nil=>exact Qd rfl h
 |cons a t=>rfl
theorem EC:∀{l m:List (List Int)},l.Pairwise (fun c d=>YK c<YK d)->m.Pairwise (fun c d=>YK c<YK d)->(∀c,c∈l↔c∈m)->l=m
 |[],[],_,_,_=>rfl
 |[],b::m,_,_,h=>by have:=(h b).2 sM;simp at this
 |a::l,[],_,_,h=>by have:=(h a).1 sM;simp at this
 | a :: l,b::m,hl,hm,h=>by
   rw [Xw] at hl hm;have hab:a=b:=by
    have h1:=(h a).1 sM;have h2:=(h b).2 sM;rcases Xh.1 h1 with e|e
    . exact e
    . rcases Xh.1 h2 with e2|e2
      . exact e2.symm
      . have:=hl.1 b e2;have:=hm.1 a e;omega
   subst hab;rw [EC hl.2 hm.2 fun x=>?_];constructor
   . intro hx;have:=(h x).1 (by simp [hx]);rcases Xh.1 this with e|e
     . subst e;have:=hl.1 _ hx;omega
     . exact e
   . intro hx;have:=(h x).2 (by simp [hx]);rcases Xh.1 this with e|e
     . subst e;have:=hm.1 _ hx;omega
     . exact e
theorem Comps.heads {l:List Int} {r:Int->Int->Bool} {cs:List (List Int)} (h:Comps l r cs):cs.Pairwise (fun c d=>YK c<YK d):=by
 refine List.Pairwise.imp_of_mem (fun {c d} hc hd hcd=>?_) h.ord
 exact hcd _ _ (Re (h.ne c hc)) (Re (h.ne d hd))
theorem Comps.closed {l:List Int} {r:Int->Int->Bool} {cs:List (List Int)} (h:Comps l r cs) {c:List Int} (hc:c∈cs) {x y:Int} (hx:x∈c) (hxy:Conn l r x y):y∈c:=
 hxy (fun z=>z∈c) (fun a b ha hb hr ha'=>h.clos c hc a ha' b hb hr) hx
theorem Comps.unique {l:List Int} {r r':Int->Int->Bool} {cs ds:List (List Int)} (h:Comps l r cs) (k:Comps l r' ds) (hr:∀x∈l,∀y∈l,(r x y=true\/r y x=true)↔(r' x y=true\/r' y x=true)):cs=ds:=by
 have hC:∀x y,Conn l r x y↔Conn l r' x y:=fun x y=>
  ⟨fun h P hP=>h P fun a b ha hb hab=>hP a b ha hb ((hr a ha b hb).1 hab),fun h P hP=>h P fun a b ha hb hab=>hP a b ha hb ((hr a ha b hb).2 hab)⟩
 have key:∀{l:List Int} {r r':Int->Int->Bool} {cs ds:List (List Int)},Comps l r cs->Comps l r' ds->(∀x y,Conn l r x y↔Conn l r' x y)->∀c∈cs,c∈ds:=fun {l r r' cs ds} h k hC c hc=>by
  have hm:=JK (h.ne c hc);have hl:=(h.mem _).1 (XO.2 ⟨c,hc,hm⟩);obtain ⟨d,hd,hmd⟩:=XO.1 ((k.mem _).2 hl);have:c=d:=CZ (h.asc c hc) (k.asc d hd) fun x=>
   ⟨fun hx=>k.closed hd hmd ((hC _ _).1 (h.conn c hc _ hm x hx)),fun hx=>h.closed hc hm ((hC _ _).2 (k.conn d hd _ hmd x hx))⟩
  rw [this];exact hd
 exact EC h.heads k.heads fun c=>⟨key h k hC c,key k h (fun x y=>(hC x y).symm) c⟩
end Go.Cb
namespace Go.Proofs.YtmkojdfiadbeeaaGreat
open Go.RowKit Go.Cb Go.En Tryz
theorem Zm3 {w:World} {B e k n:Nat} {v:Value} {xs:List Value} (h:w.ownsRow B e k v n xs):w.ownsRow 0 e k v n xs:=⟨h.1,h.2.imp id fun ⟨g,cap,cur,h1,_,h3⟩=>⟨g,cap,cur,h1,Xg _,h3⟩⟩
theorem ED {w w':World} {M:BS} {v:Value} {e:Ending} {n te:Nat} {xs:List Value} (h1:e= .returned v) (h2:Ext w w') (h3:w'.ownsRow w.heap.size te 1 v n xs):LA ⟨w,M,fun _=>False,0,False,[]⟩ (· = .own te 1 n (xs.map PV.val)) e w':=by
 refine ⟨v,_,fun b=>v.ownBlock=some b,h1,rfl,h2, .own xs (fun _ _=>False) (Zm3 h3) sM (fun i x p hx hp=>?_) (fun _ _ _ _ _ _ h=>h.elim) (fun _ _ _ h=>h.elim) (fun b=>⟨fun h=> .inl h,fun h=>h.elim id fun ⟨_,_,h⟩=>h.elim⟩),fun b hb=>(h3.lt b hb).1,fun h=>h.elim⟩
 rw [Xl,hx] at hp
 cases hp
 exact .shr (.val _) (fun _ h=>h)
theorem ζ5 (l:List Int) (hl:l.length<=1000000):AF prog 59 [pInts l] (· = .own 3 1 l.length (l.map Zb)):=fun M w vs hM hlen hv=>by
 obtain ⟨v,rfl⟩:=ZlG hlen
 have hS:=hv 0 v _ rfl rfl
 unfold pInts at hS
 generalize hn:l.length=n at hS
 generalize hcs:l.map Zb=cs at hS
 cases hS with
 | emp a c hc ha=>
   have:l=[]:=Xv hn;subst this
   cases a with
   |none=>exact (Tryz.slices_Clone_int_nil 0 c w).mono fun e w' ⟨h1,h2⟩=>ED (n:=0) (xs:=[]) h1 (h2▸Ext.rfl' _) ⟨sM, .inl ⟨rfl,rfl⟩⟩
   |some a=>exact (Tryz.slices_Clone_int_zero a c w).mono fun e w' ⟨v',h1,h2,_,h3⟩=>ED h1 h3 h2
 | sl b off n c cs vs' hnc hc hcell hT=>
   subst hn hcs;refine (Tryz.slices_Clone_int b off l.length c l w (Xd _) oM (fun j hj=>?_)).mono fun e w' ⟨v',h1,h2,_,h3⟩=>?_
   . obtain ⟨s,hs⟩:=Y3 hj;have e1:=(hcell j (by rw [Xc];exact hj)).1;have e2:vs' j= .int .i64 s:=(hT j (Zb s) (by rw [Xl,hs];rfl)).vOf;rw [e1,e2,List.getD,hs];rfl
   . have:=ED (M:=M) h1 h3 h2;rw [Xx,Xz] at this;exact this
def K3 (c:List Int) (f:Nat->Bool):Bool:=c.any fun x=>f x.toNat
def Yc (S F:Nat->Bool) (c:List Int):Bool:=K3 c S&&K3 c F
theorem Zm4 (n:Nat) (f:Nat->Bool) (x:Int) (hx:0<=x/\x<n):AF prog 109 [Zb x, .sptr 0 [Wq n f]] (· =Zr (f x.toNat)):=by
 obtain ⟨a,rfl⟩:∃a:Nat,x=a:=⟨x.toNat,oM⟩
 have e1:=ZZ (fun j=>Zr (f j)) (show a<n by omega)
 refine AF.b2 8 func109 rfl ntmps109 (Xa rfl) ?_
 rintro w0 M0 _ v1 rfl-
 refine YG ?_
 refine yU (Zu Zx) fun v4=>?_;refine xL 5 Za (xL 6 (Ze ZI) ?_);refine yV (Zu ZT) ?_;refine ZP ?_
 exact Zg results109 rfl rfl
theorem Zij (l:List Int) (n:Nat) (f:Nat->Bool) (hl:∀x∈l,0<=x/\x<n):AF prog 57 [pInts l,Wq n f] (· =Zr (K3 l f)):=by
 refine AF.b2 8 func57 rfl ntmps57 (Xa rfl) fun w0 M0 v0 v1 _ _=>?_
 refine Zi ?_
 refine ZlT 3 fun h3=>?_;refine ZP ?_
 refine Zq (S7 (l:=3) (t:=3) (j:=0) rfl Vt rfl) fun _=>?_
 try dsimp only [Wk,share]
 refine Zo ?_;refine xL 5 Za (xL 6 Rp ?_);refine cV (cA call108 (Hi 109 [.sptr 0 [Wq n f]] (fun x=>f x.toNat) l (call109) (fun x hx=>Zm4 n f x (hl x hx)))) ?_;refine ZP ?_
 exact Zg results57 rfl rfl
def Px (E:Nat->Nat->Bool) (a b:Int):Bool:=decide (a≠b)&& !(E a.toNat b.toNat&&E b.toNat a.toNat)
def selA (i0:Nat) (W:List Int->Bool) (b:Bool) (cs:List (List Int)):List (List Int):=(cs.zipIdx.filter fun x=>decide (x.2≠i0)&&(W x.1==b)).map (·.1)
theorem Da {i0:Nat} {W:List Int->Bool} {b:Bool} {cs:List (List Int)} {k:Nat} {c:List Int} (h:cs[k]? =some c):selA i0 W b (cs.take (k+1))=selA i0 W b (cs.take k)++(if k≠i0/\W c=b then [c] else []):=by
 have hl:(cs.take k).length=k:=by rw [XE];have:=Zd h;omega
 unfold selA
 rw [Z2 h,List.zipIdx_append,V0,XW]
 congr 1
 simp only [Ug,Ux,hl,XA,UP,List.filter_nil]
 by_cases h1:k≠i0/\W c=b
 . rw [Qc h1];rw [U' h1.1,h1.2];simp
 . rw [Qb h1];by_cases h2:k≠i0
   . have h3:¬W c=b:=fun hh=>h1 ⟨h2,hh⟩;rw [show (W c==b)=false from beq_eq_false_iff_ne.2 h3];simp
   . rw [Qa h2];simp
theorem Hz {i0:Nat} {W:List Int->Bool} {b:Bool} {cs:List (List Int)} {c:List Int} (h:c∈selA i0 W b cs):c∈cs/\W c=b:=by
 unfold selA at h
 obtain ⟨⟨x,i⟩,hx,rfl⟩:=Xp.1 h
 rw [XF] at hx
 simp only [Xe,U9,beq_iff_eq] at hx
 exact ⟨by have:=List.mem_zipIdx hx.1;rw [this.2.2];exact Vh _,hx.2.2⟩
theorem Ze3 (i0:Nat) (W:List Int->Bool) (b:Bool) (cs:List (List Int)):(selA i0 W b cs).length<=cs.length/\(selA i0 W b cs).flatten.length<=cs.flatten.length:=by
 unfold selA
 have key:∀L:List (List Int×Nat),((L.filter fun x=>decide (x.2≠i0)&&(W x.1==b)).map (·.1)).length<=L.length/\((L.filter fun x=>decide (x.2≠i0)&&(W x.1==b)).map (·.1)).flatten.length<=(L.map (·.1)).flatten.length:=fun L=>by
  induction L with
  |nil=>simp
  | cons x L ih=>
    rw [UP];split
    . simp only [Xm,Xi,XP,Xf];omega
    . simp only [Xm,Xi,XP,Xf];omega
 have h1:=key cs.zipIdx
 rw [List.length_zipIdx,List.zipIdx_map_fst] at h1
 exact h1
def headsLe (cs:List (List Int)):Prop:=∀(i j:Nat) (a b:List Int),i<j->cs[i]? =some a->cs[j]? =some b->¬YK b-YK a<0
structure AndCs (cs:List (List Int)) (i0:Nat) (c0:List Int) (W:List Int->Bool) (ds:List (List Int)):Prop where
 perm:ds.Perm (selA i0 W true cs++[(c0++(selA i0 W false cs).flatten).mergeSort fun x y=>decide (x<=y)])
 ord:headsLe ds
theorem Zps (l:List BA) (n:Nat) (E:Nat->Nat->Bool) (S F:Nat->Bool) (x y:Int) (hx:0<=x/\x<n) (hy:0<=y/\y<n):AF prog 55 [Zb x,Zb y, .sptr 0 [GX l n E S F]] (· =Zr (Px E x y)):=by
 obtain ⟨a,rfl⟩:∃a:Nat,x=a:=⟨x.toNat,oM⟩
 obtain ⟨b,rfl⟩:∃b:Nat,y=b:=⟨y.toNat,oM⟩
 have e1:=ZZ (fun i=>Wq n (E i)) (show a<n by omega)
 have e2:=ZZ (fun j=>Zr (E a j)) (show b<n by omega)
 have e3:=ZZ (fun i=>Wq n (E i)) (show b<n by omega)
 have e4:=ZZ (fun j=>Zr (E b j)) (show a<n by omega)
 refine AF.b3 34 func55 rfl ntmps55 (Xa rfl) ?_
 rintro w0 M0 _ _ v2 rfl rfl-
 dsimp only [GX]
 refine YG ?_
 (refine LZ ?_<;>(refine bLd 9 (fun hb9=>?_) (fun hb9=>?_)<;>(first|refine kL ?_|refine yU (Zu WV) fun v10=>?_))<;>(first|refine kL ?_|refine xM Kp ?_)<;>(first|refine kL ?_|refine xM (Yn KY) ?_)<;>(first|refine kL ?_|refine yU (Zu Yl) fun v13=>?_)<;>refine kZ ?_<;>(first|refine kL ?_|refine xM (Ze Z') ?_)<;>(first|refine kL ?_|refine yU (Zu Zx) fun v16=>?_)<;>refine kZ ?_<;>(first|refine kL ?_|refine xM (Ze ZI) ?_)<;>(first|refine kL ?_|refine yV (Zu ZT) ?_)<;>refine kZ ?_<;>(first|refine kL ?_|(refine bL 20 (fun hb20=>?_) (fun hb20=>?_)<;>(first|refine kL ?_|refine yU (Zu WV) fun v21=>?_)))<;>(first|refine kL ?_|refine xM Kp ?_)<;>(first|refine kL ?_|refine xM (Yn KY) ?_)<;>(first|refine kL ?_|refine yU (Zu Yl) fun v24=>?_)<;>refine kZ ?_<;>(first|refine kL ?_|refine xM (Ze Z') ?_)<;>(first|refine kL ?_|refine yU (Zu Zx) fun v27=>?_)<;>refine kZ ?_<;>(first|refine kL ?_|refine xM (Ze ZI) ?_)<;>(first|refine kL ?_|refine yV (Zu ZT) ?_)<;>refine kZ ?_<;>refine kZ ?_<;>refine ZO ?_<;>refine Zw ?_)<;>(
 refine Zg (results55) rfl ?_;show Zr _=Zr _;unfold Px;rw [XG,XG]
 first
  |(rw [U' hb9,hb20];simp;done)
  |(rw [Qa hb9];rfl))
theorem Zik (l:List BA) (n:Nat) (E:Nat->Nat->Bool) (S F:Nat->Bool) (c:List Int) (hc:∀x∈c,0<=x/\x<n):AF prog 56 [pInts c, .sptr 0 [GX l n E S F]] (· =Zr (Yc S F c)):=by
 refine AF.b2 18 func56 rfl ntmps56 (Xa rfl) fun w0 M0 v0 v1 _ _=>?_
 dsimp only [GX]
 refine YG ?_
 (refine ZN ?_<;>refine yU (Zu WV) fun v5=>?_<;>refine xL 6 Kp (xL 7 (Yn TR) ?_)<;>refine yU (Zu Zx) fun v8=>?_<;>(refine cV (cA call57 (Zij c n S hc)) ?_)<;>refine ZN ?_<;>(refine bL 10 (fun hb10=>?_) (fun hb10=>?_)<;>refine kZ ?_)<;>(first|refine kL ?_|refine yU (Zu WV) fun v12=>?_)<;>(first|refine kL ?_|refine xM Kp ?_)<;>(first|refine kL ?_|refine xM (Yn TS) ?_)<;>(first|refine kL ?_|refine yU (Zu Zx) fun v15=>?_)<;>(first|refine kL ?_|(refine cV (cA call57 (Zij c n F hc)) ?_))<;>refine ZO ?_<;>refine Zw ?_)<;>(
 refine Zg (results56) rfl ?_;show Zr _=Zr _;unfold Yc;rw [hb10];simp)
theorem Zpt (n:Nat) (x y:List Int) (hn:n<=1000000) (hx:x≠[]) (hy:y≠[]) (hx2:∀z∈x,0<=z/\z<n) (hy2:∀z∈y,0<=z/\z<n):AFg prog 61 [pInts x,pInts y] (· = .val (.int .i64 (YK x-YK y))):=by
 have hxl:=X5.2 hx
 have hyl:=X5.2 hy
 have bx:=hx2 _ (JK hx)
 have bY:=hy2 _ (JK hy)
 have e0:(x.map Zb)[0*1]? =some (Zb (YK x)):=by
  cases x with
  |nil=>exact Qd rfl hx
  |cons z t=>rfl
 have e0':(y.map Zb)[0*1]? =some (Zb (YK y)):=by
  cases y with
  |nil=>exact Qd rfl hy
  |cons z t=>rfl
 refine AFg.of_body 12 func61 rfl ntmps61 (Xa rfl) ?_
 intro w0 M0 vs hl hv
 obtain ⟨v0,v1,rfl⟩:=ζd hl
 clear hl hv
 dsimp only [pInts]
 refine ZD ?_
 refine YJ [] [] ?_<;>refine xD 0 rfl Za ?_<;>refine xD 1 rfl (Ze (i:=0) ZS) ?_<;>(refine yD 2 rfl (Zu ZH) fun v7 h=>?_;cases h)<;>refine xE 3 rfl Za ?_<;>refine xE 4 rfl (Ze (i:=0) ZS) ?_<;>(refine yE 5 rfl (Zu ZH) fun v10 h=>?_;cases h)<;>refine xE 6 rfl LL ?_<;>refine xE 7 rfl ZJ ?_<;>refine WE ?_
 exact Zg results61 rfl rfl
theorem Zj7:Zgm prog 53 61:=fun enc h1 cf hO cb blk cap d w hcmp hH hblk hsz=>Tryz.slices_SortFunc enc h1 cf hO 61 cb blk 0 cap d w (call61) hcmp hH hblk hsz
def Zsh (l:List BA) (n:Nat) (E:Nat->Nat->Bool) (S F:Nat->Bool) (p:PV):Prop:=∃cs,Comps (upTo n) (Px E) cs/\((idx (Yc S F) cs<0/\p= .tup [.agg [Zb 0, .val (.slice none 0 0)],Zb 10])\/∃i0 c0 ds,cs[i0]? =some c0/\idx (Yc S F) cs=(i0:Nat)/\AndCs cs i0 c0 (Yc S F) ds/\p=ζ4 l 3 ds)
theorem Zj8 (g : Dfg) (l:List BA) (n:Nat) (E:Nat->Nat->Bool) (S F:Nat->Bool) (hb:AF prog 46 [Jb g] (· = .tup [GX l n E S F,Zb 0])) (hl:l.length=n) (hn:n<=1000):AF prog 16 [Jb g] (Zsh l n E S F):=by
 refine AF.b1 74 func16 rfl ntmps16 (Xa rfl) fun w0 M0 v0 _=>?_
 refine Zi ?_
 refine Yi 1 4 fun h1=>?_;refine Zt [(.int .i64 0),(.slice none 0 0)] 2 2 WW fun h2=>?_;refine ZX ?_
 refine yU (Zn 1 Yu) fun v14=>?_;refine cP 15 (cA call46 (hb)) fun va15 vb15 hva15 hvb15=>?_;cases hvb15;refine Y1 ?_;refine Zt [(.pointer none)] 1 4 EA fun h4=>?_;refine JX 4 WV Ez ?_;refine ZX ?_
 (refine ZO ?_ <;> refine Zw ?_)<;>(try (exfalso;omega))<;>(
 refine cX ?_ ?_<;>intro hb19
 . exfalso;omega
 . refine nav ?_;refine Zq (S7 (l:=4) (t:=4) (j:=0) rfl Vt rfl) fun _=>?_;dsimp only [Wk,share,List.map,GX];refine Zo ?_;refine yU (Zu WV) fun v22=>?_;refine cU (cA call49 ((Zc6 l _ oM).mono (R':=(· =pInts (upTo n))) fun p hp=>by rw [hp,hl])) fun v23=>?_;refine xM Rp ?_;refine LC 25 rfl rfl (Xa rfl) rfl (cA call48 (SK 55 [.sptr 0 [GX l n E S F]] (Px E) (upTo n) (LQ n) (by rw [JJ];omega) (call55) (fun x hx y hy=>Zps l n E S F x y (YR.1 hx) (YR.1 hy)))) ?_;rintro p' ⟨cs,hcs,rfl⟩;refine ⟨rfl,fun h25 ho25=>?_⟩;refine Zz (En.freeze (l:=25) (t:=25) rfl rfl) fun _=>?_;rw [KJ _ _ _ rfl];refine ZX ?_;refine xL 26 Rp (xL 7 ZJ ?_);refine Zw ?_;have hin:=Jo hcs;refine Zo ?_;refine ZO ?_;refine cV (cA call58 (CJ 56 [.sptr 0 [GX l n E S F]] (Yc S F) cs (call56) (fun c hc=>Zik l n E S F c (hin.1 c hc)))) ?_;refine ZX ?_;refine WZ ?_ ?_<;>intro hb31
   . (
 refine Zi ?_;refine xM (ZC Tm) ?_;refine Zp 2 Z6 ?_;refine ZP ?_;exact Yb (k:=2) 2 kR (results16) rfl rfl rfl (Xa rfl) dC rfl ⟨cs,hcs, .inl ⟨hb31,rfl⟩⟩)
   . (
 obtain ⟨i0,hi0⟩:∃i0:Nat,idx (Yc S F) cs=i0:=⟨(idx (Yc S F) cs).toNat,oM⟩;have hib:=(Zf5 (Yc S F) cs).2;rw [hi0];obtain ⟨c0,hc0⟩:=gS cs i0;have e0:=Yh (f:=pInts) hc0;have hc0m:=Xb hc0;have hc0l:=hin.2.2 c0 hc0m;refine YG ?_;refine xL 33 Za (xL 34 Za (xL 35 (Ze ZQ) ?_));refine yU (Zu YA) fun v36=>?_;refine cO 37 (cA call59 (ζ5 c0 oM)) fun v37 ho37=>?_;refine ZX ?_;refine xL 38 Za (xL 39 (Zs ZQ) (xL 40 Za ?_));refine Zw ?_;refine Zq (YS 200 90 1 rfl) fun _=>?_;refine Zq (ZM (l:=37) 201 rfl rfl) fun _=>?_;refine Yq (ι:={x:Nat×Value×Value×List (List Int)×List Int//x.1<=cs.length/\x.2.2.1.oneCell'=true/\x.2.2.2.1=selA i0 (Yc S F) true (cs.take x.1)/\x.2.2.2.2=c0++(selA i0 (Yc S F) false (cs.take x.1)).flatten}) (fun k=>⟨[(2,_,_),(4,_,_),(7,_,_),(8,_,_),(38,_,_),(39,_,_),(9,k.1.2.1, .val k.1.2.1),(10,k.1.2.2.1, .val k.1.2.2.1),(40, .int .i64 k.1.1,Zb k.1.1)],[(2,_,_),(200,k.1.2.1, .own 90 1 k.1.2.2.2.1.length (k.1.2.2.2.1.map pInts)),(201,k.1.2.2.1, .own 3 1 k.1.2.2.2.2.length (k.1.2.2.2.2.map Zb))]⟩) (fun k=>cs.length-k.1.1) ⟨(0, .slice none 0 0,v37,[],c0),Xg _,ho37,rfl,(Xo c0).symm⟩ ?_;rintro ⟨⟨k,ha,hbv,A,B⟩,hk,hob,hA,hB⟩;dsimp only;dsimp only at hk hob hA hB;have hAl:A.length<=1000:=by
  have:=(Ze3 i0 (Yc S F) true (cs.take k)).1;rw [hA];rw [XE] at this;omega
 have hBl:B.length<=2000:=by
  have h1:=(Ze3 i0 (Yc S F) false (cs.take k)).2;have h2:(cs.take k).flatten.length<=cs.flatten.length:=by
   (have:cs.flatten=(cs.take k).flatten++(cs.drop k).flatten:=by rw [<-XZ,Vy]);rw [this,Xf];omega
  have h3:=JH hcs.nd (fun x hx=>(hcs.mem x).1 hx);rw [JJ] at h3;rw [hB,Xf];omega
 have hAm:(A.map pInts).length=A.length:=Xc _;have hBm:(B.map Zb).length=B.length:=Xc _;refine Yy ?_ ?_<;>intro hb41
 . (
 obtain ⟨cl,hx⟩:=gS cs k;have e1:=Yh (f:=pInts) hx;have hcm:=Xb hx;have hcll:=hin.2.2 cl hcm;have s1:=Da (i0:=i0) (W:=Yc S F) (b:=true) hx;have s2:=Da (i0:=i0) (W:=Yc S F) (b:=false) hx;(have e2:(cl.map Zb).length=cl.length*1:=by rw [Xc,XI]);(have e3:(cl.map Zb).all En.one=true:=by rw [VI,Xj];intro x _;rfl);refine Zi ?_;refine xL 42 Za (xL 43 (Ze ZQ) ?_);refine yU (Zu YA) fun v44=>?_;refine J9 ?_;refine LZ ?_;refine ZE ?_ ?_<;>intro hb48
 . (
 refine ZU ?_;try refine ZK (ZM (l:=59) 200 rfl rfl) fun _=>?_
 try refine ZK (ZM (l:=47) 201 rfl rfl) fun _=>?_
 try rw [show A.map pInts++[pInts cl]=(A++[cl]).map pInts by simp,show A.length+1=(A++[cl]).length by simp]
 try rw [show B.map Zb++cl.map Zb=(B++cl).map Zb by simp,show B.length+cl.length=(B++cl).length by simp]
 first
  | (exact Zf (
      ⟨(k+1,h59,hbv,A++[cl],B),by show k+1<=cs.length;omega,hob,by show A++[cl]=_;rw [s1,Qc ⟨oM,hb52⟩,hA],by show B=_;rw [s2,Qb (fun h=>by rw [hb52] at h;exact Bool.noConfusion h.2),Xo,hB]⟩
      ) (by show cs.length-(k+1)<cs.length-k;omega) sB sB)
  | (exact Zf (
      ⟨(k+1,ha,h47,A,B++cl),by show k+1<=cs.length;omega,ho47,by show A=_;rw [s1,Qb (fun h=>by rw [hb52] at h;exact Bool.noConfusion h.2),Xo,hA],by show B++cl=_;rw [s2,Qc ⟨oM,hb52⟩,hB];simp⟩
      ) (by show cs.length-(k+1)<cs.length-k;omega) sB sB)
  | (exact Zf (
      ⟨(k+1,ha,hbv,A,B),by show k+1<=cs.length;omega,hob,by show A=_;rw [s1,Qb (fun h=>oM),Xo,hA],by show B=_;rw [s2,Qb (fun h=>oM),Xo,hB]⟩
      ) (by show cs.length-(k+1)<cs.length-k;omega) sB sB))
 . (
 refine KL ?_;refine cV (TC (f:=56) (ps:=[.sptr 0 [GX l n E S F]]) rfl ⟨_,rfl⟩ (call56) rfl (Zik l n E S F cl (hin.1 cl hcm))) ?_;refine Wl ?_ ?_<;>intro hb52
 . (
 refine KL ?_;refine WC (kk:=1) 58 Yv fun h58 ho58=>?_;refine Wc 200 58 59 Yv fun h59 ho59=>?_;refine JS ?_;try refine ZK (ZM (l:=59) 200 rfl rfl) fun _=>?_
 try refine ZK (ZM (l:=47) 201 rfl rfl) fun _=>?_
 try rw [show A.map pInts++[pInts cl]=(A++[cl]).map pInts by simp,show A.length+1=(A++[cl]).length by simp]
 try rw [show B.map Zb++cl.map Zb=(B++cl).map Zb by simp,show B.length+cl.length=(B++cl).length by simp]
 first
  | (exact Zf (
      ⟨(k+1,h59,hbv,A++[cl],B),by show k+1<=cs.length;omega,hob,by show A++[cl]=_;rw [s1,Qc ⟨oM,hb52⟩,hA],by show B=_;rw [s2,Qb (fun h=>by rw [hb52] at h;exact Bool.noConfusion h.2),Xo,hB]⟩
      ) (by show cs.length-(k+1)<cs.length-k;omega) sB sB)
  | (exact Zf (
      ⟨(k+1,ha,h47,A,B++cl),by show k+1<=cs.length;omega,ho47,by show A=_;rw [s1,Qb (fun h=>by rw [hb52] at h;exact Bool.noConfusion h.2),Xo,hA],by show B++cl=_;rw [s2,Qc ⟨oM,hb52⟩,hB];simp⟩
      ) (by show cs.length-(k+1)<cs.length-k;omega) sB sB)
  | (exact Zf (
      ⟨(k+1,ha,hbv,A,B),by show k+1<=cs.length;omega,hob,by show A=_;rw [s1,Qb (fun h=>oM),Xo,hA],by show B=_;rw [s2,Qb (fun h=>oM),Xo,hB]⟩
      ) (by show cs.length-(k+1)<cs.length-k;omega) sB sB))
 . (
 refine KL ?_;refine W5 201 47 YW fun h47 ho47=>?_;refine JS ?_;try refine ZK (ZM (l:=59) 200 rfl rfl) fun _=>?_
 try refine ZK (ZM (l:=47) 201 rfl rfl) fun _=>?_
 try rw [show A.map pInts++[pInts cl]=(A++[cl]).map pInts by simp,show A.length+1=(A++[cl]).length by simp]
 try rw [show B.map Zb++cl.map Zb=(B++cl).map Zb by simp,show B.length+cl.length=(B++cl).length by simp]
 first
  | (exact Zf (
      ⟨(k+1,h59,hbv,A++[cl],B),by show k+1<=cs.length;omega,hob,by show A++[cl]=_;rw [s1,Qc ⟨oM,hb52⟩,hA],by show B=_;rw [s2,Qb (fun h=>by rw [hb52] at h;exact Bool.noConfusion h.2),Xo,hB]⟩
      ) (by show cs.length-(k+1)<cs.length-k;omega) sB sB)
  | (exact Zf (
      ⟨(k+1,ha,h47,A,B++cl),by show k+1<=cs.length;omega,ho47,by show A=_;rw [s1,Qb (fun h=>by rw [hb52] at h;exact Bool.noConfusion h.2),Xo,hA],by show B++cl=_;rw [s2,Qc ⟨oM,hb52⟩,hB];simp⟩
      ) (by show cs.length-(k+1)<cs.length-k;omega) sB sB)
  | (exact Zf (
      ⟨(k+1,ha,hbv,A,B),by show k+1<=cs.length;omega,hob,by show A=_;rw [s1,Qb (fun h=>oM),Xo,hA],by show B=_;rw [s2,Qb (fun h=>oM),Xo,hB]⟩
      ) (by show cs.length-(k+1)<cs.length-k;omega) sB sB))))
 . (
 refine nav ?_;have hkl:k=cs.length:=oM;(have hAe:A=selA i0 (Yc S F) true cs:=by rw [hA,hkl,Xx]);(have hBe:B=c0++(selA i0 (Yc S F) false cs).flatten:=by rw [hB,hkl,Xx]);have hBp:0<B.length:=by
  have:=X5.2 (hcs.ne c0 hc0m);rw [hBe,Xf];omega
 obtain ⟨Bs,hBs⟩:∃Bs,Bs=B.mergeSort fun x y=>decide (x<=y):=⟨_,rfl⟩;(have hBsl:Bs.length=B.length:=by rw [hBs,V1]);have hBi:∀x∈Bs,0<=x/\x<n:=fun x hx=>by
  rw [hBs,K7,hBe,XB] at hx;rcases hx with h|h
  . exact hin.1 c0 hc0m x h
  . obtain ⟨d,hd,hxd⟩:=XO.1 h;exact hin.1 d (Hz hd).1 x hxd
 obtain ⟨rs,hrs⟩:∃rs,rs=A++[Bs]:=⟨_,rfl⟩;have hrm:∀c∈rs,c≠[]/\(∀x∈c,0<=x/\x<n)/\c.length<=2000:=fun c hc=>by
  rw [hrs,XB,XC] at hc;rcases hc with h|rfl
  . rw [hAe] at h;have:=(Hz h).1;exact ⟨hcs.ne c this,hin.1 c this,by have:=hin.2.2 c this;omega⟩
  . exact ⟨X5.1 oM,hBi,oM⟩
 (have hrl:rs.length<=2000:=by rw [hrs,Xf,XD];omega);(have hrp:0<rs.attach.length:=by rw [Uc,hrs,Xf,XD];omega);refine LN ?_;refine ZcN 201 EB (call60) ?_ hBp;rw [<-hBs];refine Ym ?_;refine ZO ?_;refine WC (kk:=1) 65 Yv fun h65 ho65=>?_;refine Wc 200 65 66 Yv fun h66 ho66=>?_;refine ZP ?_;refine Zq (YD (l:=66) (l':=201) (j:=A.length) rfl (Gr (Xc _).symm) rfl rfl) fun _=>?_;rw [JI (Xc _).symm,W6 _ _ _ hBsl.symm];rw [show A.map pInts++[pInts Bs]=rs.attach.map (fun c:{c//c∈rs}=>pInts c.1) by rw [List.attach_map_val (f:=pInts),hrs];simp,show A.length+1=rs.attach.length by rw [Uc,hrs];simp];refine LN ?_;refine ZhK (β:={c//c∈rs}) (f:=fun c=>pInts c.1) (cmp:=fun a b=>YK a.1-YK b.1) (rows:=rs.attach) 66 Zj7 (call53) (fun _=>rfl) (fun a=>oM) (fun a b c h1 h2=>oM) (fun a b c h1 h2=>oM) (fun x _ y _=>Zpt n x.1 y.1 oM (hrm _ x.2).1 (hrm _ y.2).1 (hrm _ x.2).2.1 (hrm _ y.2).2.1) hrp (by rw [Uc];omega) (fun rows' hperm hord=>?_);refine Zw ?_;obtain ⟨ds,hds⟩:∃ds,ds=rows'.map (·.1):=⟨_,rfl⟩;(have hpd:ds.Perm rs:=by rw [hds];have:=hperm.map (·.1);rw [List.attach_map_subtype_val] at this;exact this);have hsq:AndCs cs i0 c0 (Yc S F) ds:=⟨by rw [<-hAe,<-hBe,<-hBs,<-hrs];exact hpd,fun i j a b hij ha hb=>by
  rw [hds,Xl,XS] at ha hb;obtain ⟨a',ha',rfl⟩:=ha;obtain ⟨b',hb',rfl⟩:=hb;exact hord i j a' b' hij ha' hb'⟩
 rw [show rows'.map (fun c:{c//c∈rs}=>pInts c.1)=ds.map pInts by rw [hds,Xz];rfl,show rs.attach.length=ds.length by rw [Uc];exact hpd.length_eq.symm];refine Zq (En.freeze (l:=66) (t:=9) rfl rfl) fun _=>?_;rw [KJ _ _ _ rfl];(have hdi:∀c∈ds,∀x∈c,0<=x/\x<l.length:=fun c hc=>by rw [hl];exact (hrm c (hpd.mem_iff.1 hc)).2.1);(have hdl:ds.length<=1000000:=by rw [hpd.length_eq];omega);(have hdc:∀c∈ds,c.length<=1000000:=fun c hc=>by have:=(hrm c (hpd.mem_iff.1 hc)).2.2;omega);(refine Zo ?_<;>refine yU (Zu WV) fun v69=>?_<;>refine ZN ?_<;>(by_cases hm:ds.length<2<;>first|(refine cP 71 (cA call47 (On l _ 3 ds hm)) fun va71 vb71 hva71 h=>?_;cases h)|(refine cP 71 (cA call47 (Hy l _ 3 ds oM hdi hdl hdc)) fun va71 vb71 hva71 h=>?_;cases h))<;>refine ZO ?_<;>refine Zp 2 Z6 ?_<;>refine ZN ?_<;>refine Zw ?_)<;>(
 refine Yb (k:=2) 2 kR (results16) rfl rfl rfl (Xa rfl) dC rfl ⟨cs,hcs, .inr ⟨i0,c0,ds,hc0,hi0,hsq,?_⟩⟩;unfold ζ4
 first
  |(rw [Qc hm];rfl)
  |(rw [Qb hm];rfl)))))
def ζ6 (S F:Nat->Bool) (x:Int):Bool:=S x.toNat||F x.toNat
def inL (n:Nat) (S F:Nat->Bool):List Int:=(upTo n).filter (ζ6 S F)
def S1 (n:Nat) (S F:Nat->Bool):List Int:=(upTo n).filter fun x=> !ζ6 S F x
theorem ZbT (k:Nat):upTo (k+1)=upTo k++[(k:Int)]:=by
 unfold upTo vec;rw [VP,XW];rfl
theorem Ze4 (k:Nat) (S F:Nat->Bool):inL (k+1) S F=inL k S F++(if S k=true\/F k=true then [(k:Int)] else []):=by
 unfold inL
 rw [ZbT,V0]
 congr 1
 by_cases h:S k=true\/F k=true
 . rw [Qc h,V2]; · rfl
   unfold ζ6;rw [XG];rcases h with h|h<;>simp [h]
 . rw [Qb h,VS]; · rfl
   unfold ζ6;rw [XG];simpa using h
theorem Zj9 (k:Nat) (S F:Nat->Bool):S1 (k+1) S F=S1 k S F++(if S k=true\/F k=true then [] else [(k:Int)]):=by
 unfold S1
 rw [ZbT,V0]
 congr 1
 by_cases h:S k=true\/F k=true
 . rw [Qc h,VS]; · rfl
   unfold ζ6;rw [XG];rcases h with h|h<;>simp [h]
 . rw [Qb h,V2]; · rfl
   unfold ζ6;rw [XG];have h1:S k=false:=by simpa using fun hh=>h (.inl hh)
   have h2:F k=false:=by simpa using fun hh=>h (.inr hh)
   rw [h1,h2];rfl
theorem EE {n:Nat} {S F:Nat->Bool}:(inL n S F).length<=n/\∀x∈inL n S F,0<=x/\x<n:=⟨by have:=VC (ζ6 S F) (upTo n);rw [JJ] at this;exact this,fun x hx=>YR.1 (XF.1 hx).1⟩
theorem Py {n:Nat} {S F:Nat->Bool}:(S1 n S F).length<=n/\∀x∈S1 n S F,0<=x/\x<n:=⟨by have:=VC (fun x=> !ζ6 S F x) (upTo n);rw [JJ] at this;exact this,fun x hx=>YR.1 (XF.1 hx).1⟩
theorem Zm5 (n:Nat) (S F:Nat->Bool):(S1 n S F).Pairwise (· < ·):=(LQ n).filter _
def Gd (n:Nat) (E:Nat->Nat->Bool) (S F:Nat->Bool) (c:List Int):Bool:=c.all fun x=>(inL n S F).all fun y=>Y8 n E S F y.toNat x.toNat
theorem HA {α:Type} {p:α->Bool} {l:List α} {k:Nat} {x:α} (h:l[k]? =some x):(l.take (k+1)).all p=((l.take k).all p&&p x):=by
 rw [Z2 h,List.all_append];simp
theorem GH {α:Type} {p:α->Bool} {l:List α} {k:Nat} {x:α} (h:l[k]? =some x):(l.take (k+1)).filter p=(l.take k).filter p++(if p x=true then [x] else []):=by
 rw [Z2 h,V0]
 by_cases hp:p x=true
 . rw [Qc hp,V2 hp];rfl
 . rw [Qb hp,VS hp];rfl
def Gt (n:Nat) (E:Nat->Nat->Bool) (S F:Nat->Bool) (cs:List (List Int)):List (List Int):=
 ((inL n S F++(cs.filter fun c=> !Gd n E S F c).flatten).mergeSort fun x y=>decide (x<=y))::cs.filter (Gd n E S F)
def ZrV (l:List BA) (n:Nat) (E:Nat->Nat->Bool) (S F:Nat->Bool) (p:PV):Prop:=(inL n S F=[]/\p= .tup [.agg [Zb 0, .val (.slice none 0 0)],Zb 10])\/∃cs,inL n S F≠[]/\Comps (S1 n S F) (PT E) cs/\p=ζ4 l 4 (Gt n E S F cs)
theorem ZbU (p:List Int->Bool) (cs:List (List Int)):(cs.filter p).flatten.length<=cs.flatten.length:=by
 induction cs with
 |nil=>simp
 | cons c cs ih=>
   rw [UP];split<;>simp only [XP,Xf]<;>omega
theorem RZ {l:List Int} {r:Int->Int->Bool} {cs:List (List Int)} (h:Comps l r cs):(∀c∈cs,∀x∈c,x∈l)/\cs.length<=l.length/\(∀c∈cs,c.length<=l.length)/\cs.flatten.length<=l.length:=by
 have h3:=JH h.nd (fun x hx=>(h.mem x).1 hx)
 refine ⟨fun c hc x hx=>(h.mem x).1 (XO.2 ⟨c,hc,hx⟩),?_,fun c hc=>?_,h3⟩
 . refine XK ?_ h3;have:∀m:List (List Int),(∀c∈m,c≠[])->m.length<=m.flatten.length:=fun m=>by
    induction m with
    |nil=>intro _;simp
    | cons c m ih=>
      intro h;have h1:=ih fun d hd=>h d (by simp [hd]);have h2:=X5.2 (h c sM);rw [XP,Xf,Xi];omega
   exact this cs h.ne
 . refine XK ?_ h3;obtain ⟨a,b,rfl⟩:=List.append_of_mem hc;simp only [XZ,XP,Xf];omega
theorem Zm6 (l:List BA) (n:Nat) (E:Nat->Nat->Bool) (S F:Nat->Bool) (x y:Int) (hx:0<=x/\x<n) (hy:0<=y/\y<n):AF prog 62 [Zb x,Zb y, .sptr 0 [GX l n E S F]] (· =Zr (PT E x y)):=by
 obtain ⟨a,rfl⟩:∃a:Nat,x=a:=⟨x.toNat,oM⟩
 obtain ⟨b,rfl⟩:∃b:Nat,y=b:=⟨y.toNat,oM⟩
 have e1:=ZZ (fun i=>Wq n (E i)) (show a<n by omega)
 have e2:=ZZ (fun j=>Zr (E a j)) (show b<n by omega)
 refine AF.b3 16 func62 rfl ntmps62 (Xa rfl) ?_
 rintro w0 M0 _ _ v2 rfl rfl-
 dsimp only [GX]
 refine YG ?_
 refine yU (Zu WV) fun v6=>?_;refine xL 7 Kp (xL 8 (Yn KY) ?_);refine yU (Zu Yl) fun v9=>?_;refine xL 10 Za (xL 11 (Ze Z') ?_);refine yU (Zu Zx) fun v12=>?_;refine xL 13 Za (xL 14 (Ze ZI) ?_);refine yV (Zu ZT) ?_;refine ZP ?_
 exact Zg results62 rfl rfl
theorem ZgL (g : Dfg) (l :List BA) (n:Nat) (E:Nat->Nat->Bool) (S F:Nat->Bool) (hb:AF prog 46 [Jb g] (· = .tup [GX l n E S F,Zb 0])) (hl:l.length=n) (hn:n<=1000):AF prog 17 [Jb g] (ZrV l n E S F):=by
 refine AF.b1 114 func17 rfl ntmps17 (Xa rfl) fun w0 M0 v0 _=>?_
 refine Zi ?_
 refine Yi 1 4 fun h1=>?_;refine Zt [(.int .i64 0),(.slice none 0 0)] 2 2 WW fun h2=>?_;refine ZX ?_
 refine yU (Zn 1 Yu) fun v19=>?_;refine cP 20 (cA call46 (hb)) fun va20 vb20 hva20 hvb20=>?_;cases hvb20;refine Y1 ?_;refine Zt [(.pointer none)] 1 4 EA fun h4=>?_;refine JX 4 WV Ez ?_;refine ZX ?_
 (refine ZO ?_ <;> refine Zw ?_)<;>(try (exfalso;omega))<;>(
 refine cX ?_ ?_<;>intro hb24
 . exfalso;omega
 . refine nav ?_;refine Zq (S7 (l:=4) (t:=4) (j:=0) rfl Vt rfl) fun _=>?_;dsimp only [Wk,share,List.map,GX];refine Zo ?_;refine J9 ?_;refine yU (Zu WV) fun v27=>?_;refine xL 28 Kp (xL 29 (Yn Jl) ?_);refine yU (Zu ZF) fun v30=>?_;refine xL 31 (Zs Zm) (xL 32 Za ?_);refine Zw ?_;refine Zq (YS 200 3 1 rfl) fun _=>?_;refine Zq (YS 201 3 1 rfl) fun _=>?_;refine Yq (ι:={x:Nat×Value×Value×List Int×List Int//x.1<=n/\x.2.1.oneCell'=true/\x.2.2.1.oneCell'=true/\x.2.2.2.1=inL x.1 S F/\x.2.2.2.2=S1 x.1 S F}) (fun k=>⟨[(2,_,_),(4,_,_),(31,_,_),(6,k.1.2.1, .val k.1.2.1),(7,k.1.2.2.1, .val k.1.2.2.1),(32, .int .i64 k.1.1,Zb k.1.1)],[(2,_,_),(200,k.1.2.1, .own 3 1 k.1.2.2.2.1.length (k.1.2.2.2.1.map Zb)),(201,k.1.2.2.1, .own 3 1 k.1.2.2.2.2.length (k.1.2.2.2.2.map Zb))]⟩) (fun k=>n-k.1.1) ⟨(0, .slice none 0 0, .slice none 0 0,[],[]),Xg _,rfl,rfl,rfl,rfl⟩ ?_;rintro ⟨⟨k,ha,hbv,A,B⟩,hk,hoa,hob,hA,hB⟩;dsimp only;dsimp only at hk hoa hob hA hB;(have hAl:A.length<=1000:=by have:=(EE (n:=k) (S:=S) (F:=F)).1;rw [hA];omega);(have hBl:B.length<=1000:=by have:=(Py (n:=k) (S:=S) (F:=F)).1;rw [hB];omega);have hAm:(A.map Zb).length=A.length:=Xc _;have hBm:(B.map Zb).length=B.length:=Xc _;refine Yy ?_ ?_<;>intro hb33
   . (
 have hkn:k<n:=oM;have eS:=ZZ (fun j=>Zr (S j)) hkn;have eF:=ZZ (fun j=>Zr (F j)) hkn;have s1:=Ze4 k S F;have s2:=Zj9 k S F;refine Jx ?_;(refine yU (Zu WV) fun v35=>?_<;>refine xL 36 Kp (xL 37 (Yn TR) ?_)<;>refine yU (Zu Zx) fun v38=>?_<;>refine xL 39 Za (xL 40 (Ze ZI) ?_)<;>refine yV (Zu ZT) ?_<;>refine ZN ?_<;>(refine bL 42 (fun hb42=>?_) (fun hb42=>?_)<;>(first|refine kL ?_|refine yU (Zu WV) fun v43=>?_))<;>(first|refine kL ?_|refine xM Kp ?_)<;>(first|refine kL ?_|refine xM (Yn TS) ?_)<;>(first|refine kL ?_|refine yU (Zu Zx) fun v46=>?_)<;>refine kZ ?_<;>(first|refine kL ?_|refine xM (Ze ZI) ?_)<;>(first|refine kL ?_|refine yV (Zu ZT) ?_)<;>refine ZN ?_<;>refine Zw ?_)<;>(
 refine cX ?_ ?_<;>intro hb50
 . (
 refine KL ?_;refine WC (kk:=1) 53 YW fun h53 ho53=>?_;refine Wc 200 53 54 YW fun h54 ho54=>?_;refine JS ?_;try refine ZK (ZM (l:=54) 200 rfl rfl) fun _=>?_
 try refine ZK (ZM (l:=58) 201 rfl rfl) fun _=>?_
 try rw [show A.map Zb++[Zb k]=(A++[(k:Int)]).map Zb by simp,show A.length+1=(A++[(k:Int)]).length by simp]
 try rw [show B.map Zb++[Zb k]=(B++[(k:Int)]).map Zb by simp,show B.length+1=(B++[(k:Int)]).length by simp]
 first
  | (exact Zf (
      ⟨(k+1,h54,hbv,A++[(k:Int)],B),by show k+1<=n;omega,ho54,hob,by show A++[(k:Int)]=_;rw [s1,Qc (by simp [*]),hA],by show B=_;rw [s2,Qc (by simp [*]),Xo,hB]⟩
      ) (by show n-(k+1)<n-k;omega) sB sB)
  | (exact Zf (
      ⟨(k+1,ha,h58,A,B++[(k:Int)]),by show k+1<=n;omega,hoa,ho58,by show A=_;rw [s1,Qb (by simp [*]),Xo,hA],by show B++[(k:Int)]=_;rw [s2,Qb (by simp [*]),hB]⟩
      ) (by show n-(k+1)<n-k;omega) sB sB))
 . first |exact bN hb50|(
 refine KL ?_;refine WC (kk:=1) 57 YW fun h57 ho57=>?_;refine Wc 201 57 58 YW fun h58 ho58=>?_;refine JS ?_;try refine ZK (ZM (l:=54) 200 rfl rfl) fun _=>?_
 try refine ZK (ZM (l:=58) 201 rfl rfl) fun _=>?_
 try rw [show A.map Zb++[Zb k]=(A++[(k:Int)]).map Zb by simp,show A.length+1=(A++[(k:Int)]).length by simp]
 try rw [show B.map Zb++[Zb k]=(B++[(k:Int)]).map Zb by simp,show B.length+1=(B++[(k:Int)]).length by simp]
 first
  | (exact Zf (
      ⟨(k+1,h54,hbv,A++[(k:Int)],B),by show k+1<=n;omega,ho54,hob,by show A++[(k:Int)]=_;rw [s1,Qc (by simp [*]),hA],by show B=_;rw [s2,Qc (by simp [*]),Xo,hB]⟩
      ) (by show n-(k+1)<n-k;omega) sB sB)
  | (exact Zf (
      ⟨(k+1,ha,h58,A,B++[(k:Int)]),by show k+1<=n;omega,hoa,ho58,by show A=_;rw [s1,Qb (by simp [*]),Xo,hA],by show B++[(k:Int)]=_;rw [s2,Qb (by simp [*]),hB]⟩
      ) (by show n-(k+1)<n-k;omega) sB sB))))
   . (
 refine nav ?_;have hkn:k=n:=oM;(have hAe:A=inL n S F:=by rw [hA,hkn]);(have hBe:B=S1 n S F:=by rw [hB,hkn]);(have hAi:∀x∈A,0<=x/\x<n:=fun x hx=>by rw [hAe] at hx;exact EE.2 x hx);(have hBi:∀x∈B,0<=x/\x<n:=fun x hx=>by rw [hBe] at hx;exact Py.2 x hx);(have hBasc:B.Pairwise (· < ·):=by rw [hBe];exact Zm5 n S F);refine Zo ?_;refine xL 60 Za (xL 61 (WB 200 ZS) (xL 62 Ky ?_));refine ZE ?_ ?_<;>intro hb62
 . (
 refine Zi ?_;refine xM (ZC Tm) ?_;refine Zp 2 Z6 ?_;refine ZP ?_;exact Yb (k:=2) 2 kR (results17) rfl rfl rfl (Xa rfl) dC rfl (.inl ⟨by rw [<-hAe];exact Xv oM,rfl⟩))
 . (
 refine nav ?_;have hAp:0<A.length:=oM;refine Zq (En.freeze (l:=200) (t:=6) rfl rfl) fun _=>?_;rw [W6 _ _ _ rfl];refine Zq (En.freeze (l:=201) (t:=7) rfl rfl) fun _=>?_;rw [W6 _ _ _ rfl];refine LN ?_;refine cO 65 (cA call59 (ζ5 A oM)) fun v65 ho65=>?_;refine ZX ?_;refine ZX ?_;refine xL 66 Za (xL 67 Rp ?_);refine LC 68 rfl rfl (Xa rfl) rfl (cA call48 (SK 62 [.sptr 0 [GX l n E S F]] (PT E) B hBasc oM (call62) (fun x hx y hy=>Zm6 l n E S F x y (hBi x hx) (hBi y hy)))) ?_;rintro p' ⟨cs,hcs,rfl⟩;refine ⟨rfl,fun h68 ho68=>?_⟩;refine Zz (En.freeze (l:=68) (t:=68) rfl rfl) fun _=>?_;rw [KJ _ _ _ rfl];refine xL 69 (Zs ZQ) (xL 70 Za ?_);refine Zw ?_;have hin:=RZ hcs;refine Zq (YS 200 90 1 rfl) fun _=>?_;refine Zq (ZM (l:=65) 201 rfl rfl) fun _=>?_;refine Yq (ι:={x:Nat×Value×Value×List (List Int)×List Int//x.1<=cs.length/\x.2.2.1.oneCell'=true/\x.2.2.2.1=(cs.take x.1).filter (Gd n E S F)/\x.2.2.2.2=A++((cs.take x.1).filter fun c=> !Gd n E S F c).flatten}) (fun k=>⟨[(2,_,_),(4,_,_),(6,_,_),(68,_,_),(69,_,_),(10,k.1.2.1, .val k.1.2.1),(9,k.1.2.2.1, .val k.1.2.2.1),(70, .int .i64 k.1.1,Zb k.1.1)],[(2,_,_),(200,k.1.2.1, .own 90 1 k.1.2.2.2.1.length (k.1.2.2.2.1.map pInts)),(201,k.1.2.2.1, .own 3 1 k.1.2.2.2.2.length (k.1.2.2.2.2.map Zb))]⟩) (fun k=>cs.length-k.1.1) ⟨(0, .slice none 0 0,v65,[],A),Xg _,ho65,rfl,(Xo A).symm⟩ ?_;rintro ⟨⟨i,hc,hdv,C,D⟩,hi,hod,hC,hD⟩;dsimp only;dsimp only at hi hod hC hD;have hCl:C.length<=1000:=by
  have:=VC (Gd n E S F) (cs.take i);rw [hC];rw [XE] at this;omega
 have hDl:D.length<=2000:=by
  have h1:=ZbU (fun c=> !Gd n E S F c) (cs.take i);have h2:(cs.take i).flatten.length<=cs.flatten.length:=by
   (have:cs.flatten=(cs.take i).flatten++(cs.drop i).flatten:=by rw [<-XZ,Vy]);rw [this,Xf];omega
  rw [hD,Xf];omega
 have hCm:(C.map pInts).length=C.length:=Xc _;have hDm:(D.map Zb).length=D.length:=Xc _;refine Yy ?_ ?_<;>intro hb71
 . (
 obtain ⟨cl,hx⟩:=gS cs i;have e1:=Yh (f:=pInts) hx;have hcm:=Xb hx;have hcll:=hin.2.2.1 cl hcm;have s3:=GH (p:=Gd n E S F) hx;have s4:=GH (p:=fun c=> !Gd n E S F c) hx;(have e2:(cl.map Zb).length=cl.length*1:=by rw [Xc,XI]);(have e3:(cl.map Zb).all En.one=true:=by rw [VI,Xj];intro x _;rfl);refine Zi ?_;refine xM (Ze ZQ) ?_;refine yU (Zu YA) fun v73=>?_;refine ZX ?_;refine ZX ?_;refine xL 74 Za (xL 75 (Zs ZS) (xL 76 Za ?_));refine Zw ?_;refine Yq (ι:={x:Nat×Bool//x.1<=cl.length/\x.2=(cl.take x.1).all fun x=>A.all fun y=>Y8 n E S F y.toNat x.toNat}) (fun k=>⟨[(2,_,_),(4,_,_),(6,_,_),(68,_,_),(69,_,_),(9,_,_),(10,_,_),(70,_,_),(12,_,_),(74,_,_),(75,_,_),(13, .bool k.1.2,Zr k.1.2),(76, .int .i64 k.1.1,Zb k.1.1)],[(2,_,_),(200,_,_),(201,_,_)]⟩) (fun k=>cl.length-k.1.1) ⟨(0,true),Xg _,rfl⟩ ?_;rintro ⟨⟨q,b⟩,hq,hbe⟩;dsimp only;dsimp only at hq hbe;refine Yy ?_ ?_<;>intro hb77
 . (
 obtain ⟨u,hu⟩:=gS cl q;have e4:=Yh (f:=Zb) hu;have hui:=hBi u (hin.1 cl hcm u (Xb hu));have s5:=HA (p:=fun x:Int=>A.all fun y=>Y8 n E S F y.toNat x.toNat) hu;refine Zi ?_;refine xM (Ze ZS) ?_;refine yV (Zu ZH) ?_;refine ZX ?_;refine xL 80 Za (xL 81 (Zs ZS) (xL 82 Za ?_));refine Zw ?_;refine Yq (ι:={x:Nat×Bool//x.1<=A.length/\x.2=(b&&(A.take x.1).all fun y=>Y8 n E S F y.toNat u.toNat)}) (fun k=>⟨[(2,_,_),(4,_,_),(6,_,_),(68,_,_),(69,_,_),(9,_,_),(10,_,_),(70,_,_),(12,_,_),(74,_,_),(75,_,_),(76,_,_),(15,_,_),(80,_,_),(81,_,_),(13, .bool k.1.2,Zr k.1.2),(82, .int .i64 k.1.1,Zb k.1.1)],[(2,_,_),(200,_,_),(201,_,_)]⟩) (fun k=>A.length-k.1.1) ⟨(0,b),Xg _,(Uk b).symm⟩ ?_;rintro ⟨⟨s,b2⟩,hs,hb2e⟩;dsimp only;dsimp only at hs hb2e;refine Yy ?_ ?_<;>intro hb83
 . (
 obtain ⟨y,hy⟩:=gS A s;have e5:=Yh (f:=Zb) hy;have hyi:=hAi y (Xb hy);have s6:=HA (p:=fun y:Int=>Y8 n E S F y.toNat u.toNat) hy;have hL:=ZmW l n E S F y.toNat u.toNat hl hn oM oM;rw [show ((y.toNat:Nat):Int)=y by omega,show ((u.toNat:Nat):Int)=u by omega] at hL;dsimp only [GX] at hL;refine Zi ?_;refine xM (Ze ZS) ?_;refine yV (Zu ZH) ?_;refine ZX ?_;(refine ZO ?_<;>(refine bL 87 (fun hb87=>?_) (fun hb87=>?_)<;>(first|refine kL ?_|refine yU (Zu WV) fun v88=>?_))<;>refine kZ ?_<;>refine kZ ?_<;>(first|refine kL ?_|(refine cV (cA call63 (hL)) ?_))<;>refine ZO ?_<;>refine Zw ?_)<;>(
 refine Gf ?_
 first
  | (exact Zf (
      ⟨(s+1,Y8 n E S F y.toNat u.toNat),by show s+1<=A.length;omega,by show Y8 n E S F y.toNat u.toNat=_;rw [s6,<-UE,<-hb2e,hb87,Ul]⟩
      ) (by show A.length-(s+1)<A.length-s;omega) sB sB)
  | (exact Zf (
      ⟨(s+1,false),by show s+1<=A.length;omega,by show false=_;rw [s6,<-UE,<-hb2e,hb87,Bool.false_and]⟩
      ) (by show A.length-(s+1)<A.length-s;omega) sB sB)))
 . (
 refine ZU ?_;refine Zf (
  ⟨(q+1,b2),by show q+1<=cl.length;omega,by show b2=_;rw [s5,<-hbe,hb2e,Xt oM]⟩
  ) (by show cl.length-(q+1)<cl.length-q;omega) sB sB))
 . (
 refine nav ?_;(have hbo:Gd n E S F cl=b:=by unfold Gd;rw [<-hAe,hbe,Xt oM]);refine Zo ?_;refine Wl ?_ ?_<;>intro hb95
 . (
 refine KL ?_;refine WC (kk:=1) 98 Yv fun h98 ho98=>?_;refine Wc 200 98 99 Yv fun h99 ho99=>?_;refine JS ?_;try refine ZK (ZM (l:=99) 200 rfl rfl) fun _=>?_
 try refine ZK (ZM (l:=102) 201 rfl rfl) fun _=>?_
 try rw [show C.map pInts++[pInts cl]=(C++[cl]).map pInts by simp,show C.length+1=(C++[cl]).length by simp]
 try rw [show D.map Zb++cl.map Zb=(D++cl).map Zb by simp,show D.length+cl.length=(D++cl).length by simp]
 first
  | (exact Zf (
      ⟨(i+1,h99,hdv,C++[cl],D),by show i+1<=cs.length;omega,hod,by show C++[cl]=_;rw [s3,Qc (by rw [hbo];exact hb95),hC],by show D=_;rw [s4,Qb (by rw [hbo,hb95];decide),Xo,hD]⟩
      ) (by show cs.length-(i+1)<cs.length-i;omega) sB sB)
  | (exact Zf (
      ⟨(i+1,hc,h102,C,D++cl),by show i+1<=cs.length;omega,ho102,by show C=_;rw [s3,Qb (by rw [hbo,hb95];decide),Xo,hC],by show D++cl=_;rw [s4,Qc (by rw [hbo,hb95];rfl),hD];simp⟩
      ) (by show cs.length-(i+1)<cs.length-i;omega) sB sB))
 . (
 refine KL ?_;refine W5 201 102 YW fun h102 ho102=>?_;refine JS ?_;try refine ZK (ZM (l:=99) 200 rfl rfl) fun _=>?_
 try refine ZK (ZM (l:=102) 201 rfl rfl) fun _=>?_
 try rw [show C.map pInts++[pInts cl]=(C++[cl]).map pInts by simp,show C.length+1=(C++[cl]).length by simp]
 try rw [show D.map Zb++cl.map Zb=(D++cl).map Zb by simp,show D.length+cl.length=(D++cl).length by simp]
 first
  | (exact Zf (
      ⟨(i+1,h99,hdv,C++[cl],D),by show i+1<=cs.length;omega,hod,by show C++[cl]=_;rw [s3,Qc (by rw [hbo];exact hb95),hC],by show D=_;rw [s4,Qb (by rw [hbo,hb95];decide),Xo,hD]⟩
      ) (by show cs.length-(i+1)<cs.length-i;omega) sB sB)
  | (exact Zf (
      ⟨(i+1,hc,h102,C,D++cl),by show i+1<=cs.length;omega,ho102,by show C=_;rw [s3,Qb (by rw [hbo,hb95];decide),Xo,hC],by show D++cl=_;rw [s4,Qc (by rw [hbo,hb95];rfl),hD];simp⟩
      ) (by show cs.length-(i+1)<cs.length-i;omega) sB sB))))
 . (
 refine nav ?_;have hil:i=cs.length:=oM;(have hCe:C=cs.filter (Gd n E S F):=by rw [hC,hil,Xx]);(have hDe:D=A++(cs.filter fun c=> !Gd n E S F c).flatten:=by rw [hD,hil,Xx]);(have hDp:0<D.length:=by rw [hDe,Xf];omega);obtain ⟨Ds,hDs⟩:∃Ds,Ds=D.mergeSort fun x y=>decide (x<=y):=⟨_,rfl⟩;(have hDsl:Ds.length=D.length:=by rw [hDs,V1]);have hDi:∀x∈Ds,0<=x/\x<n:=fun x hx=>by
  rw [hDs,K7,hDe,XB] at hx;rcases hx with h|h
  . exact hAi x h
  . obtain ⟨d,hd,hxd⟩:=XO.1 h;exact hBi x (hin.1 d (XF.1 hd).1 x hxd)
 obtain ⟨rs,hrs⟩:∃rs,rs=Ds::C:=⟨_,rfl⟩;have hrm:∀c∈rs,(∀x∈c,0<=x/\x<l.length)/\c.length<=1000000:=fun c hc=>by
  rw [hrs,Xh] at hc;rw [hl];rcases hc with rfl|h
  . exact ⟨hDi,oM⟩
  . rw [hCe] at h;have hm:=(XF.1 h).1;exact ⟨fun x hx=>hBi x (hin.1 c hm x hx),by have:=hin.2.2.1 c hm;omega⟩
 (have hrl:rs.length<=1000000:=by rw [hrs,Xi];omega);(have hre:rs=Gt n E S F cs:=by rw [hrs,hDs,hDe,hCe,hAe];rfl);(have e6:(C.map pInts).length=C.length*1:=by rw [Xc,XI]);(have e7:(C.map pInts).all En.one=true:=by rw [VI,Xj];intro x _;rfl);refine LN ?_;refine ZcN 201 EB (call60) ?_ hDp;rw [<-hDs];refine Zw ?_;refine Zq (En.freeze (l:=201) (t:=9) rfl rfl) fun _=>?_;rw [W6 _ _ _ hDsl.symm];refine Zq (En.freeze (l:=200) (t:=10) rfl rfl) fun _=>?_;rw [KJ _ _ _ rfl];dsimp only [KR];(refine YJ [] [] ?_<;>(refine yD 0 rfl (Zu WV) fun v106 h=>?_;cases h)<;>refine xD 1 rfl Za ?_<;>refine xD 3 rfl Za ?_<;>(refine aDr 2 fun bk=>?_)<;>refine WC (kk:=1) 108 Yv fun h108 ho108=>?_<;>refine bE bk ?_<;>(refine aDr 4 fun bk=>?_)<;>refine W5 108 110 Yv fun h110 ho110=>?_<;>refine bE bk ?_<;>(refine aDr 5 fun bk=>?_)<;>(refine Zz (En.freeze (l:=110) (t:=110) rfl rfl) fun _=>?_;rw [show pInts Ds::C.map pInts=rs.map pInts by rw [hrs];rfl,KJ _ _ _ (by rw [hrs,Xi];omega)];by_cases hm:rs.length<2<;>first|(refine cP 111 (cA call47 (On l _ 4 rs hm)) fun va111 vb111 hva111 h=>?_;cases h)|(refine cP 111 (cA call47 (Hy l _ 4 rs oM (fun c hc=>(hrm c hc).1) hrl (fun c hc=>(hrm c hc).2))) fun va111 vb111 hva111 h=>?_;cases h))<;>refine bE bk ?_<;>refine xD 6 rfl Y4 ?_<;>refine xE 7 rfl Y4 ?_<;>(refine aDr 8 fun bk=>?_)<;>refine Zp 2 Z6 ?_<;>refine bE bk ?_<;>refine xE 9 rfl ZJ ?_<;>refine WE ?_)<;>(
 refine Yb (k:=2) 2 kR (results17) rfl rfl rfl (Xa rfl) dC rfl (.inr ⟨cs,by rw [<-hAe];exact X5.1 hAp,by rw [<-hBe];exact hcs,?_⟩);rw [<-hre];unfold ζ4
 first
  |(rw [Qc hm];rfl)
  |(rw [Qb hm];rfl))))))
theorem Zka:ElT prog 39 38 1 8 .nilFunc:=⟨underlying39,by kernel_rfl,rfl,dC⟩
theorem Zkb:NoAgg prog 38=true:=kR
theorem ZbV:SlT prog 39 38 1=true:=kR
def ZrW:Option Cut->PV
 |none=> .tup [.agg [Zb 0, .val (.slice none 0 0)],Zb 10]
 |some c=> .tup [Pf c,Zb 0]
def GQ (l:List BA) (kind:Int) (cs:List (List Int)):Option Cut:=if cs.length<2 then none else some ⟨kind,ZA l cs⟩
theorem ζ7 (l:List BA) (kind:Int) (cs:List (List Int)):ζ4 l kind cs=ZrW (GQ l kind cs):=by
 unfold ζ4 GQ
 split<;>rfl
def JY:Option Cut->PV
 |none=> .agg [Zb 0, .val (.slice none 0 0)]
 |some c=>Pf c
def Rf:Option Cut->PV
 |none=>Zb 10
 |some c=>Zb 0
theorem Zil (o:Option Cut):shD (.tup [JY o,Rf o])=true:=by cases o<;>rfl
theorem Oo (o:Option Cut):ZrW o= .tup [JY o,Rf o]:=by cases o<;>rfl
def Rw (l:List BA) (n:Nat) (E:Nat->Nat->Bool) (S F:Nat->Bool):Nat->Option Cut->Prop
 |0,o=>∃cs,Comps (upTo n) (PT E) cs/\o=GQ l 1 cs
 |1,o=>∃cs,SeqCs n (ZV n E) cs/\o=GQ l 2 cs
 |2,o=>∃cs,Comps (upTo n) (Px E) cs/\((idx (Yc S F) cs<0/\o=none)\/∃i0 c0 ds,cs[i0]? =some c0/\idx (Yc S F) cs=(i0:Nat)/\AndCs cs i0 c0 (Yc S F) ds/\o=GQ l 3 ds)
 |_,o=>(inL n S F=[]/\o=none)\/∃cs,inL n S F≠[]/\Comps (S1 n S F) (PT E) cs/\o=GQ l 4 (Gt n E S F cs)
def R3 (Q:Nat->Option Cut->Prop) (o:Option Cut):Prop:=(∃k c,k<4/\(∀j,j<k->Q j none)/\Q k (some c)/\o=some c)\/((∀j,j<4->Q j none)/\o=none)
theorem Zpu (caps:List PV):AF prog 53 [.sl 0 [], .fn 54 caps] (· = .val (.tuple #[])):=fun M w vs hM hlen hv=>by
 obtain ⟨v,fv,rfl⟩:=ζd hlen
 have hS:=hv 0 v _ rfl rfl
 cases hS with
 | emp a c hc ha=>
   refine (Tryz.slices_SortFunc_none (α:=Nat) a c fv w).mono fun e w' ⟨h1,h2⟩=>?_;rw [h1,h2];exact ⟨_,_,fun _=>False,rfl,rfl,Ext.rfl' _, .shr (.val _) (fun _ h=>h),fun b hb=>hb.elim,fun h=>h.elim⟩
 | sl b off n c cs vs' hnc hc hcell hT=>
   refine (Tryz.slices_SortFunc_none (α:=Nat) _ c fv w).mono fun e w' ⟨h1,h2⟩=>?_;rw [h1,h2];exact ⟨_,_,fun _=>False,rfl,rfl,Ext.rfl' _, .shr (.val _) (fun _ h=>h),fun b hb=>hb.elim,fun h=>h.elim⟩
theorem Zkc (g:Dfg) (l:List BA) (E:Nat->Nat->Bool) (S F:Nat->Bool) (hb:AF prog 46 [Jb g] (· = .tup [GX l 0 E S F,Zb 0])) (hl:l.length=0):AF prog 15 [Jb g] (fun p=>∃cs,SeqCs 0 (ZV 0 E) cs/\p=ζ4 l 2 cs):=by
 refine AF.b1 31 func15 rfl ntmps15 (Xa rfl) fun w0 M0 v0 _=>?_
 refine Zi ?_
 refine Yi 1 4 fun h1=>?_;refine Zt [(.int .i64 0),(.slice none 0 0)] 2 2 WW fun h2=>?_;refine ZX ?_
 refine yU (Zn 1 Yu) fun v9=>?_;refine cP 10 (cA call46 (hb)) fun va10 vb10 hva10 hvb10=>?_;cases hvb10;refine Sx ?_;refine WZ ?_ ?_<;>intro hb14
 . exfalso;omega
 . refine Zi ?_;refine ZN ?_;refine cU (cA call51 (ZeU l 0 E (Wq 0 S) (Wq 0 F) hl oM)) fun v18=>?_;refine Zt [(.slice none 0 0)] 1 6 ZbS fun h6=>?_;refine JX 6 Yl O5 ?_;refine Zw ?_;refine Zq (S7 (l:=6) (t:=6) (j:=0) rfl Vt rfl) fun _=>?_;dsimp only [Wk,share,List.map,GX];refine LN ?_;refine cU (cA call49 ((Zc6 l _ oM).mono (R':=(· =pInts (upTo 0))) fun p hp=>by rw [hp,hl])) fun v20=>?_;refine xM Rp ?_;refine LC 22 rfl rfl (Xa rfl) rfl (cA call48 (SK 52 [.sptr 0 [Ew 0 (ZV 0 E)]] (relS (ZV 0 E)) (upTo 0) (LQ 0) (by rw [JJ];omega) (call52) (fun x hx y hy=>Zii 0 (ZV 0 E) x y (YR.1 hx) (YR.1 hy)))) ?_;rintro p' ⟨cs,hcs,rfl⟩;refine ⟨rfl,fun h22 ho22=>?_⟩;refine ZP ?_;have hcn:cs=[]:=Xv (by have:=(Jo hcs).2.1;omega);subst hcn;refine Zq (En.freeze (l:=22) (t:=7) rfl rfl) fun _=>?_;rw [KJ _ _ _ rfl];dsimp only [KR,List.map,Xy];refine Zo ?_;refine xL 23 Za (xL 24 Rp ?_);refine cV (cA call53 (Zpu _)) ?_;refine Ym ?_;refine ZO ?_;refine cP 28 (cA call47 (On l _ 2 [] dC)) fun va28 vb28 hva28 hvb28=>?_;cases hvb28;refine ZO ?_;refine Zp 2 Z6 ?_;refine ZP ?_;exact Yb (k:=2) 2 kR (results15) rfl rfl rfl (Xa rfl) dC rfl ⟨[],⟨⟨[],hcs, .refl _⟩,fun i j a b hij ha hb=>by simp at ha⟩,rfl⟩
theorem Zkd (g:Dfg) (l:List BA) (n:Nat) (E:Nat->Nat->Bool) (S F:Nat->Bool) (hb:AF prog 46 [Jb g] (· = .tup [GX l n E S F,Zb 0])) (hl:l.length=n) (hn:n<=1000):
 (AF prog 14 [Jb g] fun p=>∃i:{o//Rw l n E S F 0 o},p= .tup [JY i.1,Rf i.1])/\(AF prog 15 [Jb g] fun p=>∃i:{o//Rw l n E S F 1 o},p= .tup [JY i.1,Rf i.1])/\(AF prog 16 [Jb g] fun p=>∃i:{o//Rw l n E S F 2 o},p= .tup [JY i.1,Rf i.1])/\(AF prog 17 [Jb g] fun p=>∃i:{o//Rw l n E S F 3 o},p= .tup [JY i.1,Rf i.1]):=by
 refine ⟨(Zj5 g l n E S F hb hl hn).mono fun p hp=>?_,?_,(Zj8 g l n E S F hb hl hn).mono fun p hp=>?_,(ZgL g l n E S F hb hl hn).mono fun p hp=>?_⟩
 . obtain ⟨cs,h1,rfl⟩:=hp;exact ⟨⟨_,cs,h1,rfl⟩,by rw [ζ7,Oo]⟩
 . rcases VY n with h0|h0
   . subst h0;refine (Zkc g l E S F hb hl).mono fun p hp=>?_;obtain ⟨cs,h1,rfl⟩:=hp;exact ⟨⟨_,cs,h1,rfl⟩,by rw [ζ7,Oo]⟩
   . refine (Zj6 g l n E S F hb hl hn h0).mono fun p hp=>?_;obtain ⟨cs,h1,rfl⟩:=hp;exact ⟨⟨_,cs,h1,rfl⟩,by rw [ζ7,Oo]⟩
 . obtain ⟨cs,h1,⟨h2,rfl⟩|⟨i0,c0,ds,h2,h3,h4,rfl⟩⟩:=hp
   . exact ⟨⟨none,cs,h1, .inl ⟨h2,rfl⟩⟩,rfl⟩
   . exact ⟨⟨_,cs,h1, .inr ⟨i0,c0,ds,h2,h3,h4,rfl⟩⟩,by rw [ζ7,Oo]⟩
 . obtain ⟨h2,rfl⟩|⟨cs,h2,h3,rfl⟩:=hp
   . exact ⟨⟨none, .inl ⟨h2,rfl⟩⟩,rfl⟩
   . exact ⟨⟨_, .inr ⟨cs,h2,h3,rfl⟩⟩,by rw [ζ7,Oo]⟩
theorem ζ8 (g :Dfg) (l:List BA) (n:Nat) (E:Nat->Nat->Bool) (S F:Nat->Bool) (hb:AF prog 46 [Jb g] (· = .tup [GX l n E S F,Zb 0])) (hl:l.length=n) (hn:n<=1000):AF prog 18 [Jb g] (fun p=>∃o,R3 (Rw l n E S F) o/\p= .tup [JY o,Rf o]):=by
 have hG:=Zkd g l n E S F hb hl hn
 have hfs:∀k:Nat,k<3->∃f,[PV.fn 14 [],PV.fn 15 [],PV.fn 16 []][k*1]? =some (.fn f [])/\(∀args w,(callFunc f args).run prog w= .ok (.enter f args) w)/\(AF prog f [Jb g] fun p=>∃i:{o//Rw l n E S F k o},p= .tup [JY i.1,Rf i.1]):=fun k hk=>by
  match k,hk with
  |0,_=>exact ⟨_,rfl,call14,hG.1⟩
  |1,_=>exact ⟨_,rfl,call15,hG.2.1⟩
  |2,_=>exact ⟨_,rfl,call16,hG.2.2.1⟩
 refine AF.b1 29 func18 rfl ntmps18 (Xa rfl) fun w0 M0 v0 _=>?_
 refine Zi ?_
 refine Yi 1 4 fun h1=>?_;refine Zt [(.int .i64 0),(.slice none 0 0)] 2 2 WW fun h2=>?_;refine ZX ?_
 refine Zht (xs:=[_,_,_]) 8 Zka rfl rfl (Xa rfl) rfl rfl rfl rfl rfl dC dC rfl ?_;intro h8 ho8;refine Zz (En.freeze (l:=8) (t:=8) rfl rfl) fun _=>?_;refine xL 9 (Zs ZbV) (xL 10 Za ?_);refine Zw ?_
 refine Yq (ι:={x:Nat//x<=3/\∀j,j<x->Rw l n E S F j none}) (fun k=>⟨[(1,_,_),(2,_,_),(8,_,_),(9,_,_),(10, .int .i64 k.1,Zb k.1)],[(1,_,_),(2,_,_)]⟩) (fun k=>3-k.1) ⟨0,Xg _,fun j hj=>Qd hj (Vo j)⟩ ?_
 rintro ⟨k,hk,hQ⟩
 dsimp only
 try dsimp only at hk hQ
 refine Yy ?_ ?_<;>intro hb11
 . (
 have hk3:k<3:=oM;obtain ⟨f,e1,hfc,hfa⟩:=hfs k hk3;refine Zi ?_;refine xM (Ze ZbV) ?_;refine yU (Zu Zkb) fun v13=>?_;refine ZX ?_;(refine ZN ?_<;>refine yU (Zn 1 Yu) fun v16=>?_<;>(refine cPx 17 (TC (f:=f) (ps:=[]) rfl ⟨_,rfl⟩ hfc rfl hfa) (fun i va17 vb17 hva17 hvb17=>?_) (fun i=>Zil i.1);rcases i with ⟨_|cc,hq⟩<;>(dsimp only [JY,Rf] at hva17 hvb17 ⊢;cases hvb17))<;>refine Y1 ?_<;>refine Zt [(.int .i64 0),(.slice none 0 0)] 2 6 WW fun h6=>?_<;>refine Zp 6 Z6 ?_<;>refine ZN ?_<;>refine Zw ?_)<;>(
 refine Zo ?_;refine WZ ?_ ?_<;>intro hb21
 . (
 refine Zi ?_;refine yU (Zn 6 Z6) fun v22=>?_;refine ZN ?_;refine Zp 2 Z6 ?_;refine ZP ?_
 first
  |exact Qd rfl hb21
  |exact Yb (k:=2) 2 kR (results18) rfl rfl rfl (Xa rfl) dC rfl ⟨some cc, .inl ⟨k,cc,oM,hQ,hq,rfl⟩,rfl⟩)
 . (
 refine ZU ?_;refine Zf (
  ⟨k + 1,oM,fun j hj=>by
   rcases Nat.lt_succ_iff_lt_or_eq.1 hj with h|h
   . exact hQ j h
   . rw [h]
     first
      |exact hq
      |exact Qd dC hb21⟩
  ) (by show 3-(k+1)<3-k;omega) sB sB)))
 . (
 refine Zi ?_;(refine yU (Zn 1 Yu) fun v25=>?_<;>(refine cPx 26 (cA call17 hG.2.2.2) (fun i va26 vb26 hva26 hvb26=>?_) (fun i=>Zil i.1);rcases i with ⟨_|cc,hq⟩<;>(dsimp only [JY,Rf] at hva26 hvb26 ⊢;cases hvb26))<;>refine ZO ?_<;>refine Zp 2 Z6 ?_<;>refine ZN ?_<;>refine Zw ?_)<;>(
 have hk3:k=3:=oM;subst hk3
 first
  |exact Yb (k:=2) 2 kR (results18) rfl rfl rfl (Xa rfl) dC rfl ⟨some cc, .inl ⟨3,cc,oM,hQ,hq,rfl⟩,rfl⟩
  |exact Yb (k:=2) 2 kR (results18) rfl rfl rfl (Xa rfl) dC rfl ⟨none, .inr ⟨fun j hj=>(Nat.lt_succ_iff_lt_or_eq.1 hj).elim (hQ j) fun h=>by rw [h];exact hq,rfl⟩,rfl⟩))
def PU (E R:Nat->Nat->Bool) (kind:Int) (a b:Nat):Bool:=if kind=2 then R a b==R b a else if kind=3 then !E a b|| !E b a else E a b||E b a
theorem Co (l:List BA) (n:Nat) (E R:Nat->Nat->Bool) (S F:Nat->Bool) (kind:Int) (a b:Nat) (ha:a<n) (hb:b<n):AF prog 270 [.agg (Jm l n E R S F),Zb kind,Zb a,Zb b] (· =Zr (PU E R kind a b)):=by
 have ea:=ZZ (fun i=>Wq n (E i)) ha
 have eb:=ZZ (fun i=>Wq n (E i)) hb
 have eab:=ZZ (fun j=>Zr (E a j)) hb
 have eba:=ZZ (fun j=>Zr (E b j)) ha
 have ra:=ZZ (fun i=>Wq n (R i)) ha
 have rb:=ZZ (fun i=>Wq n (R i)) hb
 have rab:=ZZ (fun j=>Zr (R a j)) hb
 have rba:=ZZ (fun j=>Zr (R b j)) ha
 refine AF.b4 69 func270 rfl ntmps270 (Xa rfl) ?_
 rintro w0 M0 v0 _ _ _-rfl rfl rfl
 refine Zi ?_
 refine Yi 4 5 fun h4=>?_;refine ZX ?_;refine ZX ?_;refine WZ ?_ ?_<;>intro hb10
 . (
 refine nav ?_;refine YJ [] [4] ?_<;>refine xD 0 rfl (Zc 4 Kx) ?_<;>(refine yD 1 rfl (Zh 4 Yl) fun v13 h=>?_;cases h)<;>refine xD 2 rfl Za ?_<;>refine xD 3 rfl (Ze Z') ?_<;>(refine yD 4 rfl (Zu Zx) fun v16 h=>?_;cases h)<;>refine xD 5 rfl Za ?_<;>refine xD 6 rfl (Ze ZI) ?_<;>(refine yD 7 rfl (Zu ZT) fun v19 h=>?_;cases h)<;>refine xD 8 rfl (Zc 4 Kx) ?_<;>(refine yD 9 rfl (Zh 4 Yl) fun v21 h=>?_;cases h)<;>refine xD 10 rfl Za ?_<;>refine xD 11 rfl (Ze Z') ?_<;>(refine yD 12 rfl (Zu Zx) fun v24 h=>?_;cases h)<;>refine xE 13 rfl Za ?_<;>refine xE 14 rfl (Ze ZI) ?_<;>(refine yE 15 rfl (Zu ZT) fun v27 h=>?_;cases h)<;>refine xE 16 rfl (ZlS underlying4) ?_<;>refine xE 17 rfl ZJ ?_<;>refine WE ?_;refine Zg (results270) rfl ?_;show Zr _=Zr _;unfold PU;rw [Qc hb10];try (cases R a b<;>cases R b a<;>rfl))
 . (
 refine Kj ?_ ?_<;>intro hb29
 . (
 refine Zi ?_;(refine xM (Zc 4 Km) ?_<;>refine yU (Zh 4 Yl) fun v32=>?_<;>refine xL 33 Za (xL 34 (Ze Z') ?_)<;>refine yU (Zu Zx) fun v35=>?_<;>refine xL 36 Za (xL 37 (Ze ZI) ?_)<;>refine yV (Zu ZT) ?_<;>refine ZO ?_<;>(refine bL 40 (fun hb40=>?_) (fun hb40=>?_)<;>(first|refine kL ?_|refine xM (Zc 4 Km) ?_))<;>(first|refine kL ?_|refine yU (Zh 4 Yl) fun v42=>?_)<;>refine kZ ?_<;>(first|refine kL ?_|refine xM (Ze Z') ?_)<;>(first|refine kL ?_|refine yU (Zu Zx) fun v45=>?_)<;>refine kZ ?_<;>(first|refine kL ?_|refine xM (Ze ZI) ?_)<;>(first|refine kL ?_|refine yV (Zu ZT) ?_)<;>refine kZ ?_<;>refine ZO ?_<;>refine Zw ?_)<;>(
 refine Zg (results270) rfl ?_;show Zr _=Zr _;unfold PU;rw [Qb hb10,Qc hb29];try simp [*]))
 . (
 refine Zi ?_;(refine xM (Zc 4 Km) ?_<;>refine yU (Zh 4 Yl) fun v52=>?_<;>refine xL 53 Za (xL 54 (Ze Z') ?_)<;>refine yU (Zu Zx) fun v55=>?_<;>refine xL 56 Za (xL 57 (Ze ZI) ?_)<;>refine yV (Zu ZT) ?_<;>refine ZN ?_<;>(refine bL 59 (fun hb59=>?_) (fun hb59=>?_)<;>(first|refine kL ?_|refine xM (Zc 4 Km) ?_))<;>(first|refine kL ?_|refine yU (Zh 4 Yl) fun v61=>?_)<;>refine kZ ?_<;>(first|refine kL ?_|refine xM (Ze Z') ?_)<;>(first|refine kL ?_|refine yU (Zu Zx) fun v64=>?_)<;>refine kZ ?_<;>(first|refine kL ?_|refine xM (Ze ZI) ?_)<;>(first|refine kL ?_|refine yV (Zu ZT) ?_)<;>refine ZO ?_<;>refine Zw ?_)<;>(
 refine Zg (results270) rfl ?_;show Zr _=Zr _;unfold PU;rw [Qb hb10,Qb hb29];try simp [*])))
end Go.Proofs.YtmkojdfiadbeeaaGreat
namespace Go.Cb
open Go.En
def sumTo:Nat->(Nat->Nat)->Nat
 |0,_=>0
 |n+1,f=>sumTo n f+f n
def upd {α:Type} (f:Nat->α) (a:Nat) (b:α):Nat->α:=fun i=>if i=a then b else f i
theorem ZgM {n a b:Nat} {f:Nat->Nat} (h:n<=a):sumTo n (upd f a b)=sumTo n f:=by
 induction n with
 |zero=>rfl
 | succ n ih=>
   show sumTo n (upd f a b)+upd f a b n=sumTo n f+f n;rw [ih oM];unfold upd;rw [Qb oM]
theorem ζ9:∀{n a b:Nat} {f:Nat->Nat},a<n->b<f a->sumTo n (upd f a b)<sumTo n f
 | n +1,a,b,f,h,hb=>by
   show sumTo n (upd f a b)+upd f a b n<sumTo n f+f n;by_cases e:a=n
   . subst e;rw [ZgM (Xd _)];unfold upd;rw [Qc rfl];omega
   . have:=ζ9 (b:=b) (f:=f) (show a<n by omega) hb;(have e2:upd f a b n=f n:=by unfold upd;rw [Qb oM]);omega
def marked (n:Nat) (I:Nat->Bool):List Int:=((List.range n).map fun i:Nat=>(i:Int)).filter fun x=>I x.toNat
theorem G9 {n:Nat} {I:Nat->Bool} {x:Int}:x∈marked n I↔∃i:Nat,i<n/\I i=true/\x=i:=by
 unfold marked
 rw [XF,Xp]
 constructor
 . rintro ⟨⟨i,hi,rfl⟩,h2⟩;exact ⟨i,XQ.1 hi,by simpa using h2,rfl⟩
 . rintro ⟨i,h1,h2,rfl⟩;exact ⟨⟨i,XQ.2 h1,rfl⟩,by simpa using h2⟩
structure LabOk (n:Nat) (I:Nat->Bool) (r:Int->Int->Bool) (lab:Nat->Nat):Prop where
 le:∀i,i<n->lab i<=i
 inn:∀i,i<n->I i=true->I (lab i)=true
 conn:∀i,i<n->I i=true->Conn (marked n I) r (lab i) i
theorem LabOk.start (n:Nat) (I:Nat->Bool) (r:Int->Int->Bool):LabOk n I r fun i=>i:=⟨fun i _=>Xd i,fun i _ h=>h,fun i _ _=>Conn.refl _ _ _⟩
theorem LabOk.push {n:Nat} {I:Nat->Bool} {r:Int->Int->Bool} {lab:Nat->Nat} (h:LabOk n I r lab) {a b:Nat} (ha:a<n) (hb:b<n) (ia:I a=true) (ib:I b=true) (hlt:lab a<lab b) (hr:r a b=true\/r b a=true):LabOk n I r (upd lab b (lab a)):=by
 refine ⟨fun i hi=>?_,fun i hi hI=>?_,fun i hi hI=>?_⟩<;>unfold upd<;>split
 . rename_i e;subst e;have:=h.le i hi;omega
 . exact h.le i hi
 . exact h.inn a ha ia
 . exact h.inn i hi hI
 . rename_i e;subst e;exact (h.conn a ha ia).trans (Conn.step (G9.2 ⟨a,ha,ia,rfl⟩) (G9.2 ⟨i,hb,ib,rfl⟩) hr)
 . exact h.conn i hi hI
def good (n:Nat) (I:Nat->Bool) (t:Nat->Nat->Bool) (lab:Nat->Nat) (a b:Nat):Prop:=a≠b->I a=true->I b=true->t a b=true->lab a=lab b
structure LabPass (n:Nat) (I:Nat->Bool) (r:Int->Int->Bool) (t:Nat->Nat->Bool) (lab0 lab:Nat->Nat) (ag:Bool) (a b:Nat):Prop where
 ok:LabOk n I r lab
 les:ag=true->sumTo n lab<sumTo n lab0
 eq:ag=false->lab=lab0/\∀x y,(x<a/\y<n\/x=a/\y<b)->good n I t lab x y
theorem LabPass.start {n:Nat} {I:Nat->Bool} {r:Int->Int->Bool} {t:Nat->Nat->Bool} {lab:Nat->Nat} (h:LabOk n I r lab):LabPass n I r t lab lab false 0 0:=⟨h,(fun e=>by cases e),fun _=>⟨rfl,fun x y h=>oM⟩⟩
theorem LabPass.push {n:Nat} {I:Nat->Bool} {r:Int->Int->Bool} {t:Nat->Nat->Bool} {lab0 lab:Nat->Nat} {ag:Bool} {p q x y:Nat} (h:LabPass n I r t lab0 lab ag p q) (hx:x<n) (hy:y<n) (ix:I x=true) (iy:I y=true) (hlt:lab x<lab y) (hr:r x y=true\/r y x=true) (p' q':Nat):LabPass n I r t lab0 (upd lab y (lab x)) true p' q':=by
 refine ⟨h.ok.push hx hy ix iy hlt hr,fun _=>?_,fun e=>by cases e⟩
 have h1:=ζ9 (n:=n) hy hlt
 cases ag with
 |true=>have:=h.les rfl;omega
 |false=>rw [<-(h.eq rfl).1];exact h1
theorem LabPass.on {n:Nat} {I:Nat->Bool} {r:Int->Int->Bool} {t:Nat->Nat->Bool} {lab0 lab:Nat->Nat} {ag:Bool} {a b:Nat} (h:LabPass n I r t lab0 lab ag a b) (hg:ag=false->good n I t lab a b):LabPass n I r t lab0 lab ag a (b+1):=⟨h.ok,h.les,fun e=>⟨(h.eq e).1,fun x y hxy=>by
 by_cases e2:x=a/\y=b
 . obtain ⟨rfl,rfl⟩:=e2;exact hg e
 . exact (h.eq e).2 x y oM⟩⟩
theorem LabPass.row {n:Nat} {I:Nat->Bool} {r:Int->Int->Bool} {t:Nat->Nat->Bool} {lab0 lab:Nat->Nat} {ag:Bool} {a:Nat} (h:LabPass n I r t lab0 lab ag a n):LabPass n I r t lab0 lab ag (a+1) 0:=⟨h.ok,h.les,fun e=>⟨(h.eq e).1,fun x y hxy=>(h.eq e).2 x y oM⟩⟩
structure Fix (n:Nat) (I:Nat->Bool) (r:Int->Int->Bool) (t:Nat->Nat->Bool) (lab:Nat->Nat):Prop where
 ok:LabOk n I r lab
 st:∀x y,x<n->y<n->good n I t lab x y
theorem LabPass.fix {n:Nat} {I:Nat->Bool} {r:Int->Int->Bool} {t:Nat->Nat->Bool} {lab0 lab:Nat->Nat} (h:LabPass n I r t lab0 lab false n 0):Fix n I r t lab:=⟨h.ok,fun x y hx hy=>(h.eq rfl).2 x y (.inl ⟨hx,hy⟩)⟩
def cls (n:Nat) (I:Nat->Bool) (lab:Nat->Nat) (c:Nat):List Int:=((List.range n).map fun i:Nat=>(i:Int)).filter fun x=>I x.toNat&&(lab x.toNat==c)
def LX (n:Nat) (I:Nat->Bool) (lab:Nat->Nat) (k:Nat):List (List Int):=((List.range k).map (cls n I lab)).filter fun c=> !c.isEmpty
theorem Tv {n:Nat} {I:Nat->Bool} {lab:Nat->Nat} {c:Nat} {x:Int}:x∈cls n I lab c↔∃i:Nat,i<n/\I i=true/\lab i=c/\x=i:=by
 unfold cls
 rw [XF,Xp]
 constructor
 . rintro ⟨⟨i,hi,rfl⟩,h2⟩;simp at h2;exact ⟨i,XQ.1 hi,h2.1,h2.2,rfl⟩
 . rintro ⟨i,h1,h2,h3,rfl⟩;exact ⟨⟨i,XQ.2 h1,rfl⟩,by simp [h2,h3]⟩
theorem Zke (n:Nat):((List.range n).map fun i:Nat=>(i:Int)).Pairwise (· < ·):=by
 rw [X7]
 exact List.pairwise_lt_range.imp fun h=>oM
theorem Zc7 (n:Nat) (I:Nat->Bool) (lab:Nat->Nat) (c:Nat):(cls n I lab c).Pairwise (· < ·):=(Zke n).filter _
theorem SN {n k:Nat} {I:Nat->Bool} {lab:Nat->Nat} {d:List Int}:d∈LX n I lab k↔∃c,c<k/\d=cls n I lab c/\d≠[]:=by
 unfold LX
 rw [XF,Xp]
 constructor
 . rintro ⟨⟨c,hc,rfl⟩,h⟩;exact ⟨c,XQ.1 hc,rfl,by simpa using h⟩
 . rintro ⟨c,hc,rfl,h⟩;exact ⟨⟨c,XQ.2 hc,rfl⟩,by simpa using h⟩
theorem ZbW (n k:Nat) (I:Nat->Bool) (lab:Nat->Nat):LX n I lab (k+1)=LX n I lab k++(if cls n I lab k=[] then [] else [cls n I lab k]):=by
 unfold LX
 rw [VP,XW,V0]
 congr 1
 by_cases h:cls n I lab k=[]
 . rw [Qc h];simp [h]
 . rw [Qb h];simp [h]
theorem Fix.const {n:Nat} {I:Nat->Bool} {r:Int->Int->Bool} {t:Nat->Nat->Bool} {lab:Nat->Nat} (h:Fix n I r t lab) (ht:∀a b:Nat,a<n->b<n->I a=true->I b=true->a≠b->(r a b=true\/r b a=true)->t a b=true) {a b:Nat} (hc:Conn (marked n I) r a b):lab b=lab a:=by
 have:=hc (fun z=>lab z.toNat=lab a) (fun x y hx hy hr hz=>by
  obtain ⟨i,hi,Ii,rfl⟩:=G9.1 hx;obtain ⟨j,hj,Ij,rfl⟩:=G9.1 hy;rw [XG] at hz ⊢;by_cases e:i=j
  . rw [<-e];exact hz
  . rw [<-h.st i j hi hj e Ii Ij (ht i j hi hj Ii Ij e hr)];exact hz) (by rw [XG])
 rw [XG] at this
 exact this
theorem Fix.own {n:Nat} {I:Nat->Bool} {r:Int->Int->Bool} {t:Nat->Nat->Bool} {lab:Nat->Nat} (h:Fix n I r t lab) (ht:∀a b:Nat,a<n->b<n->I a=true->I b=true->a≠b->(r a b=true\/r b a=true)->t a b=true) {c:Nat} (hc:cls n I lab c≠[]):YK (cls n I lab c)=c:=by
 obtain ⟨i,hi,Ii,hl,hx⟩:=Tv.1 (JK hc)
 have hle:=h.ok.le i hi
 have h1:=h.const ht (h.ok.conn i hi Ii)
 have h2:=h.ok.inn i hi Ii
 rw [hl] at h1 h2 hle
 have hcm:(c:Int)∈cls n I lab c:=Tv.2 ⟨c,oM,h2,oM,rfl⟩
 have hasc:=Zc7 n I lab c
 cases hd:cls n I lab c with
 |nil=>exact Qd hd hc
 | cons y m=>
   rw [hd] at hcm hasc hx;rw [Xw] at hasc;show y=(c:Int);have hy:y=(i:Int):=hx;rcases Xh.1 hcm with e|e
   . exact e.symm
   . have:=hasc.1 _ e;omega
theorem Fix.comps {n:Nat} {I:Nat->Bool} {r:Int->Int->Bool} {t:Nat->Nat->Bool} {lab:Nat->Nat} (h:Fix n I r t lab) (ht:∀a b:Nat,a<n->b<n->I a=true->I b=true->a≠b->(r a b=true\/r b a=true)->t a b=true):Comps (marked n I) r (LX n I lab n):=by
 refine ⟨fun x=>?_,?_,fun c hc=>?_,fun c hc=>?_,fun c hc x hx y hy=>?_,fun c hc x hx y hy hr=>?_,?_⟩
 . rw [XO,G9];constructor
   . rintro ⟨d,hd,hx⟩;obtain ⟨c,_,rfl,_⟩:=SN.1 hd;obtain ⟨i,h1,h2,_,h4⟩:=Tv.1 hx;exact ⟨i,h1,h2,h4⟩
   . rintro ⟨i,h1,h2,rfl⟩;have hm:(i:Int)∈cls n I lab (lab i):=Tv.2 ⟨i,h1,h2,rfl,rfl⟩;exact ⟨_,SN.2 ⟨lab i,by have:=h.ok.le i h1;omega,rfl,fun e=>by rw [e] at hm;simp at hm⟩,hm⟩
 . have :∀k,(LX n I lab k).flatten.Nodup:=fun k=>by
    induction k with
    |zero=>exact List.nodup_nil
    | succ k ih=>
      rw [ZbW,XZ];split
      . simpa using ih
      . rw [Ud,X6];refine ⟨ih,(Zc7 n I lab k).imp fun h=>oM,fun a ha b hb e=>?_⟩;subst e;obtain ⟨d,hd,hx⟩:=XO.1 ha;obtain ⟨c,hc,rfl,_⟩:=SN.1 hd;obtain ⟨i,_,_,h3,h4⟩:=Tv.1 hx;obtain ⟨j,_,_,h5,h6⟩:=Tv.1 hb;have:i=j:=oM;subst this;omega
   exact this n
 . obtain ⟨_,_,_,hne⟩:=SN.1 hc;exact hne
 . obtain ⟨k,_,rfl,_⟩:=SN.1 hc;exact Zc7 n I lab k
 . obtain ⟨k,_,rfl,_⟩:=SN.1 hc;obtain ⟨i,h1,h2,h3,rfl⟩:=Tv.1 hx;obtain ⟨j,g1,g2,g3,rfl⟩:=Tv.1 hy;have a:=h.ok.conn i h1 h2;have b:=h.ok.conn j g1 g2;rw [h3] at a;rw [g3] at b;exact a.symm.trans b
 . obtain ⟨k,_,rfl,_⟩:=SN.1 hc;obtain ⟨i,h1,h2,h3,rfl⟩:=Tv.1 hx;obtain ⟨j,g1,g2,rfl⟩:=G9.1 hy;refine Tv.2 ⟨j,g1,g2,?_,rfl⟩;rw [h.const ht (Conn.step (G9.2 ⟨i,h1,h2,rfl⟩) hy hr),h3]
 . unfold LX;refine List.Pairwise.imp_of_mem (R:=fun c d=>YK c<YK d) (fun {c d} hc hd hcd x y hx hy=>?_) ?_
   . rw [XF] at hc hd;rw [Re (by simpa using hc.2)] at hx;rw [Re (by simpa using hd.2)] at hy
     cases hx;cases hy;exact hcd
   . rw [List.pairwise_filter,X7];refine List.pairwise_lt_range.imp fun {a b} hab ha hb=>?_;rw [h.own ht (by simpa using ha),h.own ht (by simpa using hb)];omega
theorem Zc8 {α:Type} {rel:α->α->Prop}:∀{l m:List α},(∀a∈l,∀b∈l,rel a b->¬rel b a)->l.Pairwise rel->m.Pairwise rel->(∀c,c∈l↔c∈m)->l=m
 |[],[],_,_,_,_=>rfl
 |[],b::m,_,_,_,h=>by have:=(h b).2 sM;simp at this
 |a::l,[],_,_,_,h=>by have:=(h a).1 sM;simp at this
 | a ::l,b::m,ha,hl,hm,h=>by
   rw [Xw] at hl hm;have hab:a=b:=by
    have h1:=(h a).1 sM;have h2:=(h b).2 sM;rcases Xh.1 h1 with e|e
    . exact e
    . rcases Xh.1 h2 with e2|e2
      . exact e2.symm
      . exact Qd (hm.1 a e) (ha a sM b h2 (hl.1 b e2))
   subst hab;have hirr:¬rel a a:=fun hr=>ha a sM a sM hr hr;rw [Zc8 (fun x hx y hy=>ha x (by simp [hx]) y (by simp [hy])) hl.2 hm.2 fun x=>?_];constructor
   . intro hx;rcases Xh.1 ((h x).1 (by simp [hx])) with e|e
     . subst e;exact Qd (hl.1 _ hx) hirr
     . exact e
   . intro hx;rcases Xh.1 ((h x).2 (by simp [hx])) with e|e
     . subst e;exact Qd (hm.1 _ hx) hirr
     . exact e
theorem Ze5 {α:Type} (out:List α) (c:α) (k:Nat):(out.take k++c::out.drop k).Perm (out++[c]):=by
 refine List.perm_middle.trans ?_
 rw [Vy]
 exact (UF c out).symm
theorem Zaa {α:Type} {rel:α->α->Prop} {out:List α} {c:α} {k:Nat} (hs:out.Pairwise rel) (h1:∀j x,j<k->out[j]? =some x->rel x c) (h2:∀x,out[k]? =some x->rel c x) (htr:∀x∈out,∀y∈out,rel c x->rel x y->rel c y):(out.take k++c::out.drop k).Pairwise rel:=by
 have hs':=hs
 rw [<-Vy k out,UD] at hs
 rw [UD,Xw]
 have hd:∀y∈out.drop k,rel c y:=fun y hy=>by
  cases hdr:out.drop k with
  |nil=>rw [hdr] at hy;simp at hy
  | cons x t=>
    have hx:out[k]? =some x:=by
     (have:(out.drop k)[0]? =some x:=by rw [hdr];rfl);rw [Vp,VM] at this;exact this
    have hcx:=h2 x hx;have hp:=hs.2.1;rw [hdr] at hy hp;rw [Xw] at hp;rcases Xh.1 hy with e|e
    . rw [e];exact hcx
    . exact htr x (Xb hx) y (List.mem_of_mem_drop (by rw [hdr];exact hy)) hcx (hp.1 y e)
 refine ⟨hs.1,⟨hd,hs.2.1⟩,fun a ha b hb=>?_⟩
 rcases Xh.1 hb with e|e
 . obtain ⟨j,hj⟩:=XM ha;have hjl:=Zd hj;rw [XE] at hjl;rw [X1 oM] at hj;rw [e];exact h1 j a oM hj
 . exact hs.2.2 a ha b e
theorem LabPass.less {n:Nat} {I:Nat->Bool} {r:Int->Int->Bool} {t:Nat->Nat->Bool} {lab0 lab:Nat->Nat} {ag:Bool} {a b:Nat} (h:LabPass n I r t lab0 lab ag a b):sumTo n lab+(if ag then 1 else 0)<sumTo n lab0+(if true then 1 else 0):=by
 cases hg:ag with
 |true=>have:=h.les hg;simp;omega
 |false=>rw [(h.eq hg).1];simp
def Kf (n:Nat) (c:List Int):List Int:=(List.range n).flatMap fun k:Nat=>c.filter fun x=>decide (x=(k:Int))
theorem R4 {n:Nat} {c:List Int} {x:Int}:x∈Kf n c↔x∈c/\0<=x/\x<n:=by
 unfold Kf
 simp only [Um,XQ,XF,U9]
 constructor
 . rintro ⟨k,h1,h2,rfl⟩;exact ⟨h2,oM,oM⟩
 . rintro ⟨h1,h2,h3⟩;exact ⟨x.toNat,oM,h1,oM⟩
theorem Zab (n:Nat) (c:List Int):Kf (n+1) c=Kf n c++c.filter fun x=>decide (x=(n:Int)):=by
 unfold Kf
 rw [VP,XY];simp
theorem R5 {c:List Int} (h:c.Nodup):∀n,(Kf n c).Pairwise (· < ·)
 |0=>List.Pairwise.nil
 | n +1=>by
   rw [Zab,UD];refine ⟨R5 h n,List.Pairwise.imp_of_mem (R:=(· ≠ ·)) (fun {a b} ha hb hab=>?_) (List.Pairwise.filter _ h),fun a ha b hb=>?_⟩
   . simp only [XF,U9] at ha hb;exact Qd (ha.2.trans hb.2.symm) hab
   . have:=R4.1 ha;simp only [XF,U9] at hb;omega
theorem Zac {n:Nat} {c:List Int} (h:c.Pairwise (· < ·)) (hb:∀x∈c,0<=x/\x<n):Kf n c=c:=
 CZ (R5 (h.imp fun h=>oM) n) h fun x=>by rw [R4];exact ⟨fun h=>h.1,fun h=>⟨h,hb x h⟩⟩
theorem Zad {n:Nat} {c:List Int} (h:c.Nodup) (hb:∀x∈c,0<=x/\x<n):Kf n c=c.mergeSort fun x y=>decide (x<=y):=
 CZ (R5 h n) (ζ3 h) fun x=>by rw [R4,K7];exact ⟨fun h=>h.1,fun h=>⟨h,hb x h⟩⟩
def KM (c:List Int):Int:=c.foldl (fun a b=>if b<a then b else a) (YK c)
theorem Cp:∀(c:List Int) (a:Int),(c.foldl (fun a b=>if b<a then b else a) a<=a)/\(∀x∈c,c.foldl (fun a b=>if b<a then b else a) a<=x)/\(c.foldl (fun a b=>if b<a then b else a) a=a\/c.foldl (fun a b=>if b<a then b else a) a∈c)
 |[],a=>⟨Ur _,sM, .inl rfl⟩
 | y :: c,a=>by
   rw [Vk];obtain ⟨h1,h2,h3⟩:=Cp c (if y<a then y else a);have h4:(if y<a then y else a)<=a/\(if y<a then y else a)<=y/\((if y<a then y else a)=a\/(if y<a then y else a)=y):=by split<;>omega
   refine ⟨oM,fun x hx=>?_,?_⟩
   . rcases Xh.1 hx with e|e
     . rw [e];omega
     . exact h2 x e
   . rcases h3 with h3|h3
     . rcases h4.2.2 with h5|h5
       . exact .inl (h3.trans h5)
       . exact .inr (by rw [h3,h5];simp)
     . exact .inr (by simp [h3])
theorem Oq {c:List Int} (h:c≠[]):KM c∈c/\∀x∈c,KM c<=x:=by
 obtain ⟨h1,h2,h3⟩:=Cp c (YK c)
 refine ⟨?_,h2⟩
 rcases h3 with h3|h3
 . unfold KM;rw [h3];exact JK h
 . exact h3
theorem Zkf {c:List Int} (h:c≠[]) (ha:c.Pairwise (· < ·)):∀x∈c,YK c<=x:=by
 cases c with
 |nil=>exact Qd rfl h
 | cons a t=>
   intro x hx;rw [Xw] at ha;rcases Xh.1 hx with e|e
   . rw [e];exact Ur _
   . have:=ha.1 x e;show a<=x;omega
theorem Cq {n:Nat} {c:List Int} (h:c≠[]) (hn:c.Nodup) (hb:∀x∈c,0<=x/\x<n):YK (Kf n c)=KM c:=by
 obtain ⟨h1,h2⟩:=Oq h
 have hm:∀x,x∈Kf n c↔x∈c:=fun x=>by rw [R4];exact ⟨fun h=>h.1,fun h=>⟨h,hb x h⟩⟩
 have hne:Kf n c≠[]:=fun e=>by have:=(hm _).2 h1;rw [e] at this;simp at this
 have h3:=Zkf hne (R5 hn n) _ ((hm _).2 h1)
 have h4:=h2 _ ((hm _).1 (JK hne))
 omega
end Go.Cb
