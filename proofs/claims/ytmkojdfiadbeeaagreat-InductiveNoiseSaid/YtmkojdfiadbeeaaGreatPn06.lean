/-
  Walks and laws.
-/
import Derived.Test.YtmkojdfiadbeeaaGreatPn03
import Derived.Test.YtmkojdfiadbeeaaGreatPn02
import Derived.Test.YtmkojdfiadbeeaaGreatPn05
import Derived.Test.YtmkojdfiadbeeaaGreatNShelfB
import Derived.Test.YtmkojdfiadbeeaaGreatPn04
import Derived.Test.YtmkojdfiadbeeaaGreatPn01
set_option linter.all false
set_option maxRecDepth 100000
set_option maxHeartbeats 0
namespace Go.Proofs.YtmkojdfiadbeeaaGreat
open Go.RowKit Go.Cb Go.En Tryz
def CM:FldT prog 42 0 0=true:=kR
def CN:FldT prog 42 1 1=true:=kR
def EZ:MpT prog 78 9 3 .string (.int .i64 0):=⟨underlying78,underlying9, .inl rfl,by show ZeroT _ _ _;unfold ZeroT;kernel_rfl⟩
def ZkY:NoAgg prog 26=true:=kR
def Zfy:NoAgg prog 3=true:=kR
def Zcj:NoAgg prog 40=true:=kR
def Zfz:NoAgg prog 9=true:=kR
def Dv:SlT prog 26 9 1=true:=kR
def E0:SlT prog 40 26 1=true:=kR
def OK (i:Nat) (p:List BA):List (BA×Value):=p.map fun s=>(s,Value.int .i64 (i:Int))
def Y2:Nat->List (List BA)->List (BA×Value)
 |_,[]=>[]
 |i,p::ps=>OK i p++Y2 (i+1) ps
def H6:∀(ps:List (List BA)) (i:Nat) (p:List BA),Y2 i (ps++[p])=Y2 i ps++OK (i+ps.length) p
 |[],i,p=>by simp [Y2]
 | q::ps,i,p=>by
   rw [Vh,Y2,Y2,H6 ps (i+1) p,XG];congr 3;simp;omega
def CO {es fs:List (BA×Value)} {s:BA}:Kx (es++fs) s=match Kx es s with|some v=>some v|none=>Kx fs s:=by
 induction es with
 |nil=>rfl
 | cons x l ih=>
   simp only [Vh,Kx];split
   . rfl
   exact ih
def Zck (i:Nat) (p:List BA) (s:BA):Kx (OK i p) s=if hasStr p s then some (.int .i64 (i:Int)) else none:=by
 induction p with
 |nil=>rfl
 | cons x p ih=>
   simp only [OK,Xn,Kx];by_cases h:s=x
   . subst h;(have:hasStr (s::p) s=true:=by unfold hasStr;simp;exact .inl (Y'.2 rfl));simp [this]
   have h0:W7 x s=false:=by
    cases h1:W7 x s
    . rfl
    exact Qe (Y'.1 h1).symm h
   (have:hasStr (x::p) s=hasStr p s:=by unfold hasStr;simp [h0]);rw [Qc h,this];exact ih
def H7:∀(ps:List (List BA)) (i:Nat) (s:BA),Kx (Y2 i ps) s=(ps.findIdx? fun p=>hasStr p s).map fun (j:Nat)=>Value.int .i64 ((i+j:Nat):Int)
 |[],i,s=>rfl
 | p ::ps,i,s=>by
   rw [Y2,CO,Zck,List.findIdx?_cons,H7 ps (i+1) s]
   cases hasStr p s
   . simp [Function.comp_def]
     cases ps.findIdx? fun p=>hasStr p s<;>simp;omega
   simp
def Hc (ps:List (List BA)) (s:BA):Kx (Y2 0 ps) s=(Sg ps s).map fun n=>Value.int .i64 n:=by
 rw [H7]
 unfold Sg
 rw [Option.map_map]
 congr 1
 funext j
 simp
def Zau {es:List (BA×Value)} {s:BA} {v:Value} (h:Kx es s=none):Je es s v=es++[(s,v)]:=by
 induction es with
 |nil=>rfl
 | cons x l ih=>
   simp only [Kx] at h;split at h
   . cases h
   rename_i hx;rw [Je,Qc hx,ih h,Vh]
def ZnV (ps:List (List BA)) (p:List BA) (s:BA) (k:Nat):(Kx (Y2 0 ps++OK k p) s).isSome=hasStr (ps.flatten++p) s:=by
 rw [CO,Hc]
 have h1:=ζR ps s
 have h2:hasStr (ps.flatten++p) s=(hasStr ps.flatten s||hasStr p s):=by unfold hasStr;rw [UE]
 rw [h2,<-h1,Zck]
 cases Sg ps s<;>cases hasStr p s<;>rfl
def Zhq (c:Cut) (p:PV):Prop:=∃q,p= .tup [q,Zr (Y1 c)]/\(Y1 c=true->q= .omap (skv (Y2 0 c.parts)))/\(q= .val (.map none)\/∃es,q= .omap es)
def Dw {c:Cut} (h:Kd [] c.parts=false):Y1 c=false:=by unfold Y1;rw [h];simp
def Dx {c:Cut} (h:Y1 c=false):Zhq c (.tup [.val (.map none),Zr false]):=⟨_,by rw [h],fun h'=>(by rw [h] at h';cases h'), .inl rfl⟩
def ZfA (c:Cut) (hs:∀p∈c.parts,∀s∈p,s.size<=140737488355328):AF prog 64 [PC c] (Zhq c):=by
 refine AF.b1 75 func64 rfl ntmps64 (Xa rfl) fun w0 M0 v0 _=>?_
 refine Zi ?_
 refine Z4 1 2 fun h1=>?_;refine JF ?_
 refine Rl 11 fun h11 ho11=>?_;refine ZW ?_
 refine xM (Zc 1 CN) ?_;refine yU (Zf 1 Zcj) fun v13=>?_;refine xL 14 (Zu E0) (xL 15 Za ?_);refine ZZ ?_
 refine Km 13 rfl fun hlen=>?_
 refine Yl (ι:={k:Nat//k<=c.parts.length/\Kd [] c.parts=Kd (c.parts.take k).flatten (c.parts.drop k)}) (fun k=>⟨[(1,padd (sbase h1) 0, .val (padd (sbase h1) 0)),(4,h11, .val h11),(13,v13,L4 c.parts),(14, .int .i64 c.parts.length,Zb c.parts.length),(15, .int .i64 k.1,Zb k.1)],[(1,h1, .own 42 2 1 [Zb c.kind,L4 c.parts]),(11,h11, .omap (skv (Y2 0 (c.parts.take k.1))))]⟩) (fun k=>c.parts.length-k.1) ⟨0,oM,rfl⟩ ?_
 rintro ⟨k,hk,hpre⟩
 dsimp only
 refine ZF ?_
 refine Yq rfl ?_ ?_
 . intro hb;have hlt:k<c.parts.length:=by have:=Qf hb;omega
   obtain ⟨p,hx⟩:=get_some hlt;have e1:=Yf (f:=ZX) hx;have hpm:=hs p (Xb hx);have HD:Kd (c.parts.take k).flatten (c.parts.drop k)=((LY p&&JE (c.parts.take k).flatten p)&&Kd (c.parts.take (k+1)).flatten (c.parts.drop (k+1))):=by
    rw [WO hx,Kd,O9 hx]
   refine Zi ?_;refine xL 17 Za (xL 18 (Ze E0) ?_);refine yU (Zw ZkY) fun v19=>?_;refine W2 ?_;refine Km 6 rfl fun hlenp=>?_;refine Zp ?_;refine xL 20 Za (xL 21 (Zu Dv) (xL 22 Za ?_));refine ZZ ?_;refine Y0 (ι:={j:Nat//j<=p.length/\∀m s,m<j->p[m]? =some s->ζT (c.parts.take k).flatten p m s}) (fun j=>⟨[(1,padd (sbase h1) 0, .val (padd (sbase h1) 0)),(4,h11, .val h11),(5, .int .i64 k,Zb k),(6,v19,ZX p),(20,v19,ZX p),(21, .int .i64 p.length,Zb p.length),(22, .int .i64 j.1,Zb j.1),(13,v13,L4 c.parts),(14, .int .i64 c.parts.length,Zb c.parts.length),(15, .int .i64 k,Zb k)],[(1,h1, .own 42 2 1 [Zb c.kind,L4 c.parts]),(11,h11, .omap (skv (Y2 0 (c.parts.take k)++OK k (p.take j.1))))]⟩) (fun j=>p.length-j.1) ⟨0,oM,fun m s hm=>oM⟩ (fun a w H=>H.weaken sB ⟨rfl,by simp [OK];rfl,trivial⟩) ?_;rintro ⟨j,hj,hprei⟩;dsimp only;refine ZF ?_;refine Yq rfl ?_ ?_
   . intro hb2;(have hltj:j<p.length:=by have:=Qf hb2;omega);obtain ⟨s,hsj⟩:=get_some hltj;have e2:=Yf (f:=Zx) hsj;have hss:=hpm s (Xb hsj);have hy:0<j->∃y,p[j-1]? =some y/\(p.map Zx)[j-1]? =some (Zx y):=fun h0=>by
      obtain ⟨y,hy⟩:=gS p (j-1);exact ⟨y,hy,by rw [Xl,hy];rfl⟩
     have hmg:=L5 (Y2 0 (c.parts.take k)++OK k (p.take j)) s;have hsome:=ZnV (c.parts.take k) (p.take j) s k;refine Zi ?_;refine xL 24 Za (xL 25 (Ze Dv) ?_);refine yV (Zw Zfz) ?_;refine JF ?_;refine xL 28 Za (xL 29 Za (xL 30 (Zel 11 EZ) (xL 27 Za (xL 31 GO (xL 32 GO (xL 9 Wj (xL 10 Wj ?_)))))));refine YT ?_;refine YW ?_<;>(refine bL 34 (fun hb34=>?_) (fun hb34=>?_)<;>refine kZ ?_)<;>(first|refine kL ?_|(refine On 36 rfl rfl (Xa rfl) (Hz rfl call98 rfl (HK s oM)) ?_;rintro p' rfl;refine ⟨rfl,?_⟩;intro v36 hv36;cases hv36))<;>refine Kg ?_<;>(first|refine kL ?_|(refine bL 39 (fun hb39=>?_) (fun hb39=>?_)<;>refine kZ ?_))<;>refine Ky ?_<;>(first|refine kL ?_|(refine bLd 42 (fun hb42=>?_) (fun hb42=>?_)<;>refine kZ ?_))<;>refine Ky ?_<;>(first|refine kL ?_|refine xM (Sa Dv) ?_)<;>(first|refine kL ?_|(refine (hy oM).elim fun y hy12=>?_;refine Zbu 47 rfl rfl (Xa rfl) (ED (j-1) Zfz rfl rfl oM hy12.2) ?_;intro v47 hv47;cases hv47))<;>refine kZ ?_<;>(first|refine kL ?_|refine xM Zc9 ?_)<;>refine WF ?_
     ·
      have hF:Y1 c=false:=Dw (by
       rw [hpre,HD,ζU hsj (fun h=>by have:=h.1;rw [<-hsome,<-hmg,hb34] at this;cases this)];rfl)
      refine Yq rfl ?_ (fun h=>by cases h);intro _;refine ZP ?_;exact Y3 results64 rfl rfl (Dx hF)
     ·
      have hF:Y1 c=false:=Dw (by
       rw [hpre,HD,ζU hsj (fun h=>by have:=h.2.1;rw [this] at hb39;cases hb39)];rfl)
      refine Yq rfl ?_ (fun h=>by cases h);intro _;refine ZP ?_;exact Y3 results64 rfl rfl (Dx hF)
     . refine Yq rfl ?_ ?_
       . intro hb3;have hF:Y1 c=false:=Dw (by
          rw [hpre,HD,ζU hsj (fun h=>by
           have:=h.2.2 y oM hy12.1;unfold strLt at this;rw [this] at hb3;cases hb3)];rfl)
         refine ZP ?_;exact Y3 results64 rfl rfl (Dx hF)
       intro hb3;have hok:ζT (c.parts.take k).flatten p j s:=⟨by rw [<-hsome,<-hmg];exact hb34,by cases h:isName s<;>simp_all,fun y' _ hy'=>by
        rw [hy12.1] at hy';cases hy';unfold strLt
        cases h:Op.bytesLess y.toList s.toList
        . rw [h] at hb3;cases hb3
        . rfl⟩
       have hput:RV (skv (Y2 0 (c.parts.take k)++OK k (p.take j))) (.string s) (.int .i64 (k:Int))=skv (Y2 0 (c.parts.take k)++OK k (p.take (j+1))):=by
        rw [Oq,Zau (by rw [<-L5];cases h:KC (skv (Y2 0 (c.parts.take k)++OK k (p.take j))) (.string s) with|none=>rfl|some _=>rw [h] at hb34;cases hb34),XG,ZR hsj];congr 2;simp [OK]
       refine WL ?_;refine PG 11 EZ ?_;refine Ox ?_;refine Zh ⟨j+1,oM,fun m s' hm hs'=>?_⟩ (by show p.length-(j+1)<p.length-j;omega) sB ⟨rfl,by show some _=some _;rw [hput],trivial⟩;by_cases e:m=j
       . subst e;rw [hsj] at hs';cases hs';exact hok
       exact hprei m s' oM hs'
     refine Yq rfl (fun h=>by cases h) ?_;intro _;have hok:ζT (c.parts.take k).flatten p j s:=⟨by rw [<-hsome,<-hmg];exact hb34,by cases h:isName s<;>simp_all,fun y' h1=>oM⟩;have hput:RV (skv (Y2 0 (c.parts.take k)++OK k (p.take j))) (.string s) (.int .i64 (k:Int))=skv (Y2 0 (c.parts.take k)++OK k (p.take (j+1))):=by
      rw [Oq,Zau (by rw [<-L5];cases h:KC (skv (Y2 0 (c.parts.take k)++OK k (p.take j))) (.string s) with|none=>rfl|some _=>rw [h] at hb34;cases hb34),XG,ZR hsj];congr 2;simp [OK]
     refine WL ?_;refine PG 11 EZ ?_;refine Ox ?_;refine Zh ⟨j+1,oM,fun m s' hm hs'=>?_⟩ (by show p.length-(j+1)<p.length-j;omega) sB ⟨rfl,by show some _=some _;rw [hput],trivial⟩;by_cases e:m=j
     . subst e;rw [hsj] at hs';cases hs';exact hok
     exact hprei m s' oM hs'
   intro hb2;(have hge:p.length<=j:=by have:=Qg hb2;omega);refine Zi ?_;refine xL 56 Za (xL 57 (Zu Dv) (xL 58 Jb ?_));refine ZZ ?_;refine Yq rfl ?_ ?_
   . intro hb3;have h0:p=[]:=Xv (by have:=Qf hb3;omega);have hF:Y1 c=false:=Dw (by rw [hpre,HD,h0];rfl);refine ZP ?_;exact Y3 results64 rfl rfl (Dx hF)
   intro hb3;(have h0:p≠[]:=fun h=>by rw [h] at hb3;cases hb3);have hok:=(Zeu p (c.parts.take k).flatten).2 ⟨h0,fun m s hs'=>hprei m s (by have:=Zd hs';omega) hs'⟩;have hent:Y2 0 (c.parts.take k)++OK k (p.take j)=Y2 0 (c.parts.take (k+1)):=by
    rw [ZR hx,H6,Xs hge];congr 2;simp;omega
   refine ZP ?_;exact Zh ⟨k+1,oM,by rw [hpre,HD,hok];rfl⟩ (by show c.parts.length-(k+1)<c.parts.length-k;omega) sB ⟨rfl,by show some _=some _;rw [hent],trivial⟩
 intro hb;have hge:c.parts.length<=k:=by have:=Qg hb;omega
 have hgo:Kd [] c.parts=true:=by rw [hpre,XO hge];rfl
 have hent:Y2 0 (c.parts.take k)=Y2 0 c.parts:=by rw [Xs hge]
 have hret:∀t,t=Y1 c->Zhq c (.tup [.omap (skv (Y2 0 (c.parts.take k))),Zr t]):=fun t ht=>⟨.omap (skv (Y2 0 (c.parts.take k))),by rw [ht],fun _=>by rw [hent], .inr ⟨_,rfl⟩⟩;refine nav ?_;refine Yx [] [1,11] ?_<;>refine gDx 0 ?_<;>refine xE 1 rfl (Zc 1 CN) ?_<;>(refine yE 2 rfl (Zf 1 Zcj) fun v62 h=>?_;cases h)<;>refine xE 3 rfl (Zu E0) ?_<;>refine gEx 4 ?_<;>refine gEx 5 ?_<;>(refine bDd 65 (fun hb65=>?_) (fun hb65=>?_)<;>(first|refine kD 6 ?_|refine xD 6 rfl (Zc 1 CM) ?_))<;>(first|refine kD 7 ?_|(refine yD 7 rfl (Zf 1 Zfy) fun v67 h=>?_;cases h))<;>(first|refine kD 8 ?_|refine gDx 8 ?_)<;>refine gEx 9 ?_<;>refine gEx 10 ?_<;>(first|refine kD 11 ?_|(refine bDd 70 (fun hb70=>?_) (fun hb70=>?_)<;>(first|refine kD 11 ?_|refine xD 11 rfl (Zc 1 CM) ?_)))<;>(first|refine kD 12 ?_|(refine yD 12 rfl (Zf 1 Zfy) fun v72 h=>?_;cases h))<;>(first|refine kD 13 ?_|refine gDx 13 ?_)<;>refine gDx 14 ?_<;>refine gEx 15 ?_<;>refine gEx 16 ?_<;>refine Wo ?_
 . refine ZgK 11 results64 rfl rfl rfl (hret _ ?_);unfold Y1;rw [hgo];(have h1:decide (1<=c.kind)=true:=by simpa using hb70);(have h2:decide (2<=c.parts.length)=true:=by simp;omega);rw [h1,h2];simp
 . refine ZgK 11 results64 rfl rfl rfl (hret _ ?_);(have h1:decide (1<=c.kind)=false:=by simpa using hb70);unfold Y1;rw [h1];simp
 refine ZgK 11 results64 rfl rfl rfl (hret _ ?_);(have h2:decide (2<=c.parts.length)=false:=by simp;omega);unfold Y1;rw [h2];simp
def ZkZ (n:Nat) (p:Nat->Bool):Bool:=(List.range n).any p
def atF (c:Cut) (l:List BA) (i:Nat):Int:=partOf c.parts (l[i]?.getD ByteArray.empty)
def Ju:FldT prog 42 0 0=true:=kR
def KO:FldT prog 42 1 1=true:=kR
def JO:NoAgg prog 40=true:=kR
def TA:SlT prog 40 26 1=true:=kR
def Zhr {sL hP:List (Nat×Ent)} {l e n:Nat} {h:Value} {xs:List BA} (hl:lk hP l=some (h, .own e 1 n (xs.map Zx))) (hn:n=xs.length):Om (⟨sL,hP⟩:St) h (ZX xs):=by
 have:=EB (sL:=sL) hl
 rw [J6,hn] at this
 exact this
def ZdA (c:Cut) (s:BA) (hcl:c.parts.length<=140737488355328):AF prog 189 [PC c,Zx s] (· =Zb (partOf c.parts s)):=by
 refine AF.b2 22 func189 rfl ntmps189 (Xa rfl) ?_
 rintro w0 M0 v0 _-rfl
 refine Zi ?_
 refine Z4 2 2 fun h2=>?_;refine KG ?_
 refine Yl (ι:={k:Nat//k<=c.parts.length/\∀i p,i<k->c.parts[i]? =some p->hasStr p s=false}) (fun k=>⟨[(1,_,_),(2,_,_),(5, .int .i64 k.1,Zb k.1)],[(2,_,_)]⟩) (fun k=>c.parts.length-k.1) ⟨0,oM,oM⟩ ?_
 rintro ⟨k,hk,hp⟩
 dsimp only
 refine Zi ?_
 refine xL 6 Za (xL 7 (Zc 2 KO) ?_);refine yU (Zf 2 JO) fun v8=>?_;refine xL 9 (Zu TA) (xL 10 Yn ?_);refine ZC ?_ ?_<;>intro hb10
 . (
 obtain ⟨x,hx⟩:=gS c.parts k;have e1:=Yf (f:=ZX) hx;refine Zi ?_;refine xM (Zc 2 KO) ?_;refine yU (Zf 2 JO) fun v14=>?_;refine xL 15 Za (xL 16 (Ze TA) ?_);refine yU (Zw ZG) fun v17=>?_;refine YU ?_;refine cV (cA call236 (ζO x s)) ?_;refine Wg ?_ ?_<;>intro hb20
 . (
 refine ZP ?_;refine Zg results189 rfl ?_;unfold partOf;rw [Lb hp hx (Zi4 oM)])
 refine YQ ?_;refine Yk (
  ⟨k+1,oM,fun i y hi hy=>by
   by_cases e:i=k
   . subst e;rw [hx] at hy;cases hy;exact Zi3 oM
   . exact hp i y oM hy⟩
  ))
 refine ZF ?_;refine Zg results189 rfl ?_;unfold partOf;rw [LU fun i y hi hy=>hp i y oM hy]
def Hd {c:Cut} (h:c.kind<1\/4<c.kind\/c.parts.length<2\/Kd [] c.parts=false):Y1 c=false:=by
 unfold Y1
 rcases h with h|h|h|h
 . rw [Qb (show ¬1<=c.kind by omega)];simp
 . rw [Qb (show ¬c.kind<=4 by omega)];simp
 . rw [Qb (show ¬2<=c.parts.length by omega)];simp
 rw [h];simp
def ZfB {c:Cut} (h1:1<=c.kind) (h2:c.kind<=4) (h3:2<=c.parts.length) (h4:Kd [] c.parts=true):Y1 c=true:=by
 unfold Y1;rw [Qa h1,Qa h2,Qa h3,h4];rfl
def Zk0 (c : Cut) (hs:∀p∈c.parts,∀s∈p,s.size<=140737488355328) (hfl:c.parts.flatten.length<=1000000) (hpl:c.parts.length<=1000000):AF prog 188 [PC c] (· =Zr (Y1 c)):=by
 refine AF.b1 66 func188 rfl ntmps188 (Xa rfl) fun w0 M0 v0 _=>?_
 refine Zi ?_
 refine Z4 1 2 fun h1=>?_;refine ZW ?_
 (refine xM (Zc 1 Ju) ?_<;>refine yV (Zf 1 Zq) ?_<;>refine YW ?_<;>(refine bLd 10 (fun hb10=>?_) (fun hb10=>?_)<;>(first|refine kL ?_|refine xM (Zc 1 Ju) ?_))<;>(first|refine kL ?_|refine yV (Zf 1 Zq) ?_)<;>refine Kg ?_<;>(first|refine kL ?_|(refine bLd 15 (fun hb15=>?_) (fun hb15=>?_)<;>(first|refine kL ?_|refine xM (Zc 1 KO) ?_)))<;>(first|refine kL ?_|refine yU (Zf 1 JO) fun v17=>?_)<;>(first|refine kL ?_|refine xM (Zu TA) ?_)<;>refine WF ?_)<;>(
 refine cX ?_ ?_<;>intro hb20
 . (
 refine ZF ?_;refine Zg results188 rfl ?_;rw [Hd oM])
 . first | exact bN hb20|(
 refine Jx ?_;have hq1:1<=c.kind:=oM;have hq2:c.kind<=4:=oM;have hq3:2<=c.parts.length:=oM;refine Zs (YO 200 9 1 rfl) fun _=>?_;refine Yl (ι:={x:Nat×Value//x.1<=c.parts.length/\Kd [] c.parts=Kd (c.parts.take x.1).flatten (c.parts.drop x.1)}) (fun k=>⟨[(1,_,_),(3,k.1.2, .val k.1.2),(4, .int .i64 k.1.1,Zb k.1.1)],[(1,_,_),(200,k.1.2, .own 9 1 (c.parts.take k.1.1).flatten.length ((c.parts.take k.1.1).flatten.map Zx))]⟩) (fun k=>c.parts.length-k.1.1) ⟨(0, .slice none 0 0),oM,rfl⟩ ?_;rintro ⟨⟨k,h33⟩,hk,hpre⟩;dsimp only;dsimp only at hk hpre;refine Zi ?_;refine xL 21 Za (xL 22 (Zc 1 KO) ?_);refine yU (Zf 1 JO) fun v23=>?_;refine xL 24 (Zu TA) (xL 25 Yn ?_);refine ZC ?_ ?_<;>intro hb25
 . (
 obtain ⟨p,hx⟩:=gS c.parts k;have e1:=Yf (f:=ZX) hx;have hpm:=hs p (Xb hx);have HD:Kd (c.parts.take k).flatten (c.parts.drop k)=(LY p&&JE (c.parts.take k).flatten p&&Kd (c.parts.take (k+1)).flatten (c.parts.drop (k+1))):=by
  rw [WO hx,Kd,O9 hx]
 have hplen:=Zc4 c.parts (k+1);rw [O9 hx,Xe] at hplen;refine Zi ?_;refine xM (Zc 1 KO) ?_;refine yU (Zf 1 JO) fun v29=>?_;refine xL 30 Za (xL 31 (Ze TA) ?_);refine yU (Zw ZG) fun v32=>?_;refine ZW ?_;(refine xL 33 Za (xL 34 (Zu Zo) (xL 35 Jb (xL 36 Za ?_)))<;>(refine bLd 36 (fun hb36=>?_) (fun hb36=>?_)<;>refine kZ ?_)<;>(first|refine kL ?_|(refine cV (cA call88 (Zes p hpm)) ?_))<;>refine Kg ?_<;>(first|refine kL ?_|(refine bL 41 (fun hb41=>?_) (fun hb41=>?_)<;>refine kZ ?_))<;>(first|refine kL ?_|(refine cV (cA call92 (ZgV p)) ?_))<;>refine WF ?_)<;>(
 refine cX ?_ ?_<;>intro hb45
 . (
 refine ZF ?_;refine Zg results188 rfl ?_;rw [Hd (.inr (.inr (.inr ?_)))];rw [hpre,HD,show LY p=false from ?_]
 . rfl
 unfold LY
 first
  |(rw [show p=[] from Xv oM];rfl)
  |(rw [show p.all isName=false by simpa using hb41];simp;done)
  |(rw [show chainB strLt p=false by simpa using hb45];simp;done))
 . first | exact bN hb45|(
 refine ZF ?_;have hpok:LY p=true:=by
  unfold LY;rw [show p.all isName=true by simpa using hb41,show chainB strLt p=true by simpa using hb45]
  cases p with
  |nil=>exact Qe rfl hb36
  |cons=>rfl
 refine Yl (ι:={x:Nat×Value×List BA//x.1<=p.length/\x.2.2=(c.parts.take k).flatten++p.take x.1/\JE (c.parts.take k).flatten p=JE x.2.2 (p.drop x.1)}) (fun k=>⟨[(1,_,_),(4,_,_),(5,_,_),(3,k.1.2.1, .val k.1.2.1),(6, .int .i64 k.1.1,Zb k.1.1)],[(1,_,_),(200,k.1.2.1, .own 9 1 k.1.2.2.length (k.1.2.2.map Zx))]⟩) (fun k=>p.length-k.1.1) ⟨(0,h33,(c.parts.take k).flatten),Xg _,sM,rfl⟩ ?_;rintro ⟨⟨j,h34,seen⟩,hj,hseen,hprej⟩;dsimp only;dsimp only at hj hseen hprej;refine Zi ?_;refine xL 46 Za (xL 47 Za (xL 48 (Zu Zo) (xL 49 Yn ?_)));refine ZC ?_ ?_<;>intro hb49
 . (
 obtain ⟨s,hsj⟩:=gS p j;have e2:=Yf (f:=Zx) hsj;(have hfs:JE seen (p.drop j)=(!hasStr seen s&&JE (seen++[s]) (p.drop (j+1))):=by rw [WO hsj,JE]);(have hln:seen.length=(c.parts.take k).flatten.length+j:=by rw [hseen,Xe,XA];omega);(have hln2:(seen.map Zx).length=seen.length:=by rw [Xc]);refine Zi ?_;refine xL 52 Za (xL 53 Za (xL 54 Za (xL 55 (Ze Zo) ?_)));refine yV (Zw ZE) ?_;refine cV (cB rfl call236 (ζO seen s) ⟨⟨_,_,rfl,Zhr (l:=200) rfl rfl⟩,⟨_,_,rfl,Gr (x:= .tmp 56) rfl⟩,trivial⟩) ?_;refine Wg ?_ ?_<;>intro hb58
 . (
 refine ZF ?_;refine Zg results188 rfl ?_;rw [Hd (.inr (.inr (.inr ?_)))];rw [hpre,HD,hprej,hfs,show hasStr seen s=true from Zi4 oM];simp)
 refine Zi ?_;refine xL 59 Za (xL 60 Za (xL 61 Za (xL 62 (Ze Zo) ?_)));refine yV (Zw ZE) ?_;refine WE (kk:=1) 64 YX fun h64 ho64=>?_;refine Y7 200 64 65 YX fun h65 ho65=>?_;refine KQ ?_;refine ZJ (ZK (l:=65) 200 rfl rfl) fun _=>?_;rw [show seen.map Zx++[Zx s]=(seen++[s]).map Zx by simp,show seen.length+1=(seen++[s]).length by simp];refine Zh (
  ⟨(j+1,h65,seen++[s]),by show j+1<=p.length;omega,by show seen++[s]=_;rw [hseen,ZR hsj,XG],by
    show JE _ p=JE _ _;rw [hprej,hfs,show hasStr seen s=false from Zi3 oM];rfl⟩
  ) (by show p.length-(j+1)<p.length-j;omega) sB sB)
 refine YQ ?_;rw [show seen=(c.parts.take (k+1)).flatten by rw [hseen,O9 hx,show j=p.length by omega,Xx]];refine Zh (
  ⟨(k+1,h34),by show k+1<=c.parts.length;omega,by
    show Kd [] c.parts=Kd _ _;rw [hpre,HD,hpok,hprej,show p.drop j=[] from XO oM];simp [JE]⟩
  ) (by show c.parts.length-(k+1)<c.parts.length-k;omega) sB sB)))
 refine ZF ?_;refine Zg results188 rfl ?_;rw [ZfB hq1 hq2 hq3 (by rw [hpre,show c.parts.drop k=[] from XO oM];rfl)]))
def ZnW {n:Nat} {E:Nat->Nat->Bool} {S F:Nat->Bool} {a b:Nat} (h:E a b=true) (h2:F a=false):Y9 n E S F a b=false:=by unfold Y9 endsB;rw [h,h2];simp
def ZnX {n:Nat} {E:Nat->Nat->Bool} {S F:Nat->Bool} {a b i:Nat} (hi:i<n) (h:E a b=true) (h2:F i=true) (h3:E i b=false):Y9 n E S F a b=false:=by
 unfold Y9 endsB;rw [h,Dq hi (by rw [h2,h3];rfl)];simp
def ZnY {n:Nat} {E:Nat->Nat->Bool} {S F:Nat->Bool} {a b:Nat} (h:E b a=true) (h2:S a=false):Y9 n E S F a b=false:=by unfold Y9 OJ;rw [h,h2];simp
def ZnZ {n:Nat} {E:Nat->Nat->Bool} {S F:Nat->Bool} {a b i:Nat} (hi:i<n) (h:E b a=true) (h2:S i=true) (h3:E b i=false):Y9 n E S F a b=false:=by
 unfold Y9 OJ;rw [h,Dq hi (by rw [h2,h3];rfl)];simp
def ZrD (E:Nat->Nat->Bool) (S F:Nat->Bool) (a b j:Nat):Prop:=(E a b=true->F a=true/\(F j=true->E j b=true))/\(E b a=true->S a=true/\(S j=true->E b j=true))
def Zqu {n:Nat} {E:Nat->Nat->Bool} {S F:Nat->Bool} {a b:Nat} (ha:a<n) (h:∀j,j<n->ZrD E S F a b j):Y9 n E S F a b=true:=by
 unfold Y9 endsB OJ
 have h1:=h a ha
 rw [Xf]
 constructor
 . cases he:E a b with
   |false=>rfl
   | true=>
     rw [(h1.1 he).1,Pi fun j hj=>?_]; · rfl
     have:=((h j hj).1 he).2
     cases hf:F j with
     |false=>rfl
     |true=>rw [this hf];rfl
 cases he:E b a with
 |false=>rfl
 | true=>
   rw [(h1.2 he).1,Pi fun j hj=>?_]; · rfl
   have:=((h j hj).2 he).2
   cases hf:S j with
   |false=>rfl
   |true=>rw [this hf];rfl
def Zn0 (l : List BA) (n:Nat) (E R:Nat->Nat->Bool) (S F:Nat->Bool) (a b:Nat) (hl:l.length=n) (hn:n<=1000) (ha:a<n) (hb:b<n):AF prog 273 [.agg (Jt l n E R S F),Zb a,Zb b] (· =Zr (Y9 n E S F a b)):=by
 have ea:=Z0 (fun i=>Wq n (E i)) ha
 have eb:=Z0 (fun i=>Wq n (E i)) hb
 have eab:=Z0 (fun j=>Zr (E a j)) hb
 have eba:=Z0 (fun j=>Zr (E b j)) ha
 have fa:=Z0 (fun j=>Zr (F j)) ha
 have sa:=Z0 (fun j=>Zr (S j)) ha
 refine AF.b3 83 func273 rfl ntmps273 (Xa rfl) ?_
 rintro w0 M0 v0 _ _-rfl rfl
 dsimp only [Jt]
 refine Zi ?_
 refine Z4 3 5 fun h3=>?_;refine KG ?_
 refine Yl (ι:={k:Nat//k<=n/\∀j,j<k->ZrD E S F a b j}) (fun k=>⟨[(1,_,_),(2,_,_),(3,_,_),(7, .int .i64 k.1,Zb k.1)],[(3,_,_)]⟩) (fun k=>n-k.1) ⟨0,oM,oM⟩ ?_
 rintro ⟨k,hk,hp⟩
 dsimp only
 refine Zi ?_
 refine xL 8 Za (xL 9 (Zc 3 WA) ?_);refine yU (Zf 3 ZG) fun v10=>?_;refine xL 11 (Zu Zo) (xL 12 Yn ?_);refine ZC ?_ ?_<;>intro hb12
 . (
 have hlt:k<n:=oM;have fk:=Z0 (fun j=>Zr (F j)) hlt;have sk:=Z0 (fun j=>Zr (S j)) hlt;have ek:=Z0 (fun i=>Wq n (E i)) hlt;have ekb:=Z0 (fun j=>Zr (E k j)) hb;have ebk:=Z0 (fun j=>Zr (E b j)) hlt;refine Zi ?_;(refine xM (Zc 3 Kp) ?_<;>refine yU (Zf 3 Yj) fun v16=>?_<;>refine xL 17 Za (xL 18 (Ze Z') ?_)<;>refine yU (Zw Zy) fun v19=>?_<;>refine xL 20 Za (xL 21 (Ze ZI) ?_)<;>refine yV (Zw ZT) ?_<;>refine YU ?_<;>(refine bL 23 (fun hb23=>?_) (fun hb23=>?_)<;>(first|refine kL ?_|refine xM (Zc 3 W6) ?_))<;>(first|refine kL ?_|refine yU (Zf 3 Zy) fun v25=>?_)<;>refine kZ ?_<;>(first|refine kL ?_|refine xM (Ze ZI) ?_)<;>(first|refine kL ?_|refine yV (Zw ZT) ?_)<;>refine Ky ?_<;>(first|refine kL ?_|(refine bL 30 (fun hb30=>?_) (fun hb30=>?_)<;>(first|refine kL ?_|refine xM (Zc 3 W6) ?_)))<;>(first|refine kL ?_|refine yU (Zf 3 Zy) fun v32=>?_)<;>refine kZ ?_<;>(first|refine kL ?_|refine xM (Ze ZI) ?_)<;>(first|refine kL ?_|refine yV (Zw ZT) ?_)<;>refine kZ ?_<;>(first|refine kL ?_|(refine bL 36 (fun hb36=>?_) (fun hb36=>?_)<;>(first|refine kL ?_|refine xM (Zc 3 Kp) ?_)))<;>(first|refine kL ?_|refine yU (Zf 3 Yj) fun v38=>?_)<;>refine kZ ?_<;>(first|refine kL ?_|refine xM (Ze Z') ?_)<;>(first|refine kL ?_|refine yU (Zw Zy) fun v41=>?_)<;>refine kZ ?_<;>(first|refine kL ?_|refine xM (Ze ZI) ?_)<;>(first|refine kL ?_|refine yV (Zw ZT) ?_)<;>refine Ky ?_<;>refine WF ?_)<;>(
 refine cX ?_ ?_<;>intro hb48
 . first|exact bN hb48|(
 refine ZF ?_;refine Zg results273 rfl ?_
 first
  |rw [ZnW hb23 (by simpa using hb30)]
  |rw [ZnX hlt hb23 hb36 (by simpa using hb48)])
 . first | exact bN hb48|(
 refine Zi ?_;(refine xM (Zc 3 Kp) ?_<;>refine yU (Zf 3 Yj) fun v50=>?_<;>refine xL 51 Za (xL 52 (Ze Z') ?_)<;>refine yU (Zw Zy) fun v53=>?_<;>refine xL 54 Za (xL 55 (Ze ZI) ?_)<;>refine yV (Zw ZT) ?_<;>refine YU ?_<;>(refine bL 57 (fun hb57=>?_) (fun hb57=>?_)<;>(first|refine kL ?_|refine xM (Zc 3 Kq) ?_))<;>(first|refine kL ?_|refine yU (Zf 3 Zy) fun v59=>?_)<;>refine kZ ?_<;>(first|refine kL ?_|refine xM (Ze ZI) ?_)<;>(first|refine kL ?_|refine yV (Zw ZT) ?_)<;>refine Ky ?_<;>(first|refine kL ?_|(refine bL 64 (fun hb64=>?_) (fun hb64=>?_)<;>(first|refine kL ?_|refine xM (Zc 3 Kq) ?_)))<;>(first|refine kL ?_|refine yU (Zf 3 Zy) fun v66=>?_)<;>refine kZ ?_<;>(first|refine kL ?_|refine xM (Ze ZI) ?_)<;>(first|refine kL ?_|refine yV (Zw ZT) ?_)<;>refine kZ ?_<;>(first|refine kL ?_|(refine bL 70 (fun hb70=>?_) (fun hb70=>?_)<;>(first|refine kL ?_|refine xM (Zc 3 Kp) ?_)))<;>(first|refine kL ?_|refine yU (Zf 3 Yj) fun v72=>?_)<;>refine kZ ?_<;>(first|refine kL ?_|refine xM (Ze Z') ?_)<;>(first|refine kL ?_|refine yU (Zw Zy) fun v75=>?_)<;>refine kZ ?_<;>(first|refine kL ?_|refine xM (Ze ZI) ?_)<;>(first|refine kL ?_|refine yV (Zw ZT) ?_)<;>refine Ky ?_<;>refine WF ?_)<;>(
 have hg1:E a b=true->F a=true/\(F k=true->E k b=true):=fun g1=>by
  first
   |(rw [hb23] at g1;exact Qe g1 dC)
   | exact ⟨by simpa using hb30,fun g2=>by
      first
       |(rw [hb36] at g2;exact Qe g2 dC)
       |(simpa using hb48)⟩
 refine cX ?_ ?_<;>intro hb82
 . first|exact bN hb82|(
 refine ZF ?_;refine Zg results273 rfl ?_
 first
  |rw [ZnY hb57 (by simpa using hb64)]
  |rw [ZnZ hlt hb57 hb70 (by simpa using hb82)])
 . first | exact bN hb82|(
 refine YQ ?_;refine Yk (
  ⟨k + 1, oM,fun j hj=>by
   by_cases e:j=k
   . subst e;refine ⟨hg1,fun g1=>?_⟩
     first
      |(rw [hb57] at g1;exact Qe g1 dC)
      | exact ⟨by simpa using hb64,fun g2=>by
         first
          |(rw [hb70] at g2;exact Qe g2 dC)
          |(simpa using hb82)⟩
   . exact hp j oM⟩
  ))))))
 refine ZF ?_;refine Zg results273 rfl ?_;rw [Zqu ha fun j hj=>hp j oM]
def P9 (n:Nat) (E R:Nat->Nat->Bool) (S F:Nat->Bool) (kind:Int) (a b:Nat) (first:Bool):Bool:=
 if kind=1 then !E a b&& !E b a else if kind=2 then R a b&& !R b a else if kind=3 then E a b&&E b a else if first then Y9 n E S F a b else !E a b&& !E b a
def ZrE (n:Nat) (S F:Nat->Bool) (kind:Int) (at':Nat->Int) (i:Nat):Bool:=
 !(decide (kind=3)&&(!ZkZ n (fun a=>decide (at' a=i)&&S a)|| !ZkZ n (fun a=>decide (at' a=i)&&F a))||decide (kind=4)&&decide (0<i)&&(ZkZ n (fun a=>decide (at' a=i)&&S a)||ZkZ n (fun a=>decide (at' a=i)&&F a)))
def Zsn (l:List BA) (n:Nat) (E:Nat->Nat->Bool) (S F:Nat->Bool) (c:Cut):Bool:=
 Zdz n (fun i=>decide (0<=atF c l i))&&(decide (c.parts.flatten.length=n)&&Zdz c.parts.length (ZrE n S F c.kind (atF c l)))&&Zdz n fun a=>Zdz n fun b=> !decide (atF c l a<atF c l b)||P9 n E (ZU n E) S F c.kind a b (decide (atF c l a=0))
end Go.Proofs.YtmkojdfiadbeeaaGreat
namespace Go.Cb
open Go.En
def Conn (l:List Int) (r:Int->Int->Bool) (x y:Int):Prop:=∀P:Int->Prop,(∀a b,a∈l->b∈l->(r a b=true\/r b a=true)->P a->P b)->P x->P y
def Conn.refl (l:List Int) (r:Int->Int->Bool) (x:Int):Conn l r x x:=fun _ _ h=>h
def Conn.trans {l:List Int} {r:Int->Int->Bool} {x y z:Int} (h:Conn l r x y) (k:Conn l r y z):Conn l r x z:=fun P hP hx=>k P hP (h P hP hx)
def Conn.step {l:List Int} {r:Int->Int->Bool} {x y:Int} (hx:x∈l) (hy:y∈l) (h:r x y=true\/r y x=true):Conn l r x y:=fun P hP hx'=>hP x y hx hy h hx'
def Conn.symm {l:List Int} {r:Int->Int->Bool} {x y:Int} (h:Conn l r x y):Conn l r y x:=
 h (fun z=>Conn l r z x) (fun a b ha hb hr hax=>(Conn.step hb ha hr.symm).trans hax) (Conn.refl l r x)
def JP {α:Type} [BEq α] [LawfulBEq α]:∀{l m:List α},l.Nodup->(∀x∈l,x∈m)->l.length<=m.length
 |[],m,_,_=>Xg _
 | x ::l,m,h,hs=>by
   rw [Vk] at h;have hx:=hs x sM;have h1:=JP (l:=l) (m:=m.erase x) h.2 fun y hy=>by
    have hne:y≠x:=fun e=>h.1 (e▸hy);exact (List.mem_erase_of_ne hne).2 (hs y (by simp [hy]))
   rw [List.length_erase_of_mem hx] at h1;have:=List.length_pos_of_mem hx;simp only [Xh];omega
structure Comps (l:List Int) (r:Int->Int->Bool) (cs:List (List Int)):Prop where
 mem:∀x,x∈cs.flatten↔x∈l
 nd:cs.flatten.Nodup
 ne:∀c∈cs,c≠[]
 asc:∀c∈cs,c.Pairwise (· < ·)
 conn:∀c∈cs,∀x∈c,∀y∈c,Conn l r x y
 clos:∀c∈cs,∀x∈c,∀y∈l,(r x y=true\/r y x=true)->y∈c
 ord:cs.Pairwise fun c d=>∀x y,c.head? =some x->d.head? =some y->x<y
structure Part (l:List Int) (r:Int->Int->Bool) (cs:List (List Int)) (k:Nat):Prop where
 sub:∀x∈cs.flatten,x∈l
 did:∀j x,j<k->l[j]? =some x->x∈cs.flatten
 nd:cs.flatten.Nodup
 ne:∀c∈cs,c≠[]
 asc:∀c∈cs,c.Pairwise (· < ·)
 conn:∀c∈cs,∀x∈c,∀y∈c,Conn l r x y
 clos:∀c∈cs,∀x∈c,∀y∈l,(r x y=true\/r y x=true)->y∈c
 ord:cs.Pairwise fun c d=>∀x y,c.head? =some x->d.head? =some y->x<y
 hd:∀c∈cs,∀x,c.head? =some x->∃j,j<k/\l[j]? =some x
def Part.start (l:List Int) (r:Int->Int->Bool):Part l r [] 0:=⟨sM,oM,sM,sM,sM,sM,sM,sM,sM⟩
def Part.comps {l:List Int} {r:Int->Int->Bool} {cs:List (List Int)} {k:Nat} (h:Part l r cs k) (hk:l.length<=k):Comps l r cs:=
 ⟨fun x=>⟨h.sub x,fun hx=>by
  obtain ⟨j,hj⟩:=XM hx;exact h.did j x (by have:=Zd hj;omega) hj⟩,h.nd,h.ne,h.asc,h.conn,h.clos,h.ord⟩
def Part.skip {l:List Int} {r:Int->Int->Bool} {cs:List (List Int)} {k:Nat} {x:Int} (h:Part l r cs k) (hx:l[k]? =some x) (hin:x∈cs.flatten):Part l r cs (k+1):=
 ⟨h.sub,fun j y hj hy=>by
  by_cases e:j=k
  . subst e;rw [hx] at hy;cases hy;exact hin
  . exact h.did j y oM hy,h.nd,h.ne,h.asc,h.conn,h.clos,h.ord,fun c hc x hx=>let ⟨j,hj,e⟩:=h.hd c hc x hx;⟨j,oM,e⟩⟩
structure Mk (l:List Int) (r:Int->Int->Bool) (cs:List (List Int)) (first:Int) (tk cl:List Int) (i q:Nat):Prop where
 tkm:∀z,z∈tk↔z∈cs.flatten\/z∈cl
 nd:(cs.flatten++cl).Nodup
 sub:∀z∈cl,z∈l
 con:∀z∈cl,Conn l r first z
 fst:first∈cl
 il:i<=cl.length
 did:∀j x,j<i->cl[j]? =some x->∀y∈l,(r x y=true\/r y x=true)->y∈tk
 now:∀x,cl[i]? =some x->∀p y,p<q->l[p]? =some y->(r x y=true\/r y x=true)->y∈tk
def Mk.start {l:List Int} {r:Int->Int->Bool} {cs:List (List Int)} {k:Nat} {x:Int} {tk:List Int} (h:Part l r cs k) (hx:l[k]? =some x) (ht:∀z,z∈tk↔z∈cs.flatten) (hn:x∉cs.flatten):Mk l r cs x (tk++[x]) [x] 0 0:=
 ⟨fun z=>by simp [ht],by
  rw [X6];exact ⟨h.nd,sM,fun a ha b hb=>by simp at hb;subst hb;exact fun e=>hn (e▸ha)⟩,fun z hz=>by simp at hz;subst hz;exact Xb hx,fun z hz=>by simp at hz;subst hz;exact Conn.refl _ _ _,sM,sM,oM,oM⟩
def Mk.len {l:List Int} {r:Int->Int->Bool} {cs:List (List Int)} {first:Int} {tk cl:List Int} {i q:Nat} (h:Mk l r cs first tk cl i q):cl.length<=l.length:=JP (X6.1 h.nd).2.1 h.sub
def Mk.pass {l:List Int} {r:Int->Int->Bool} {cs:List (List Int)} {first:Int} {tk cl:List Int} {i q:Nat} {x y:Int} (h:Mk l r cs first tk cl i q) (hx:cl[i]? =some x) (hy:l[q]? =some y) (hn:y∈tk\/(r x y=false/\r y x=false)):Mk l r cs first tk cl i (q+1):=
 ⟨h.tkm,h.nd,h.sub,h.con,h.fst,h.il,h.did,fun x' hx' p z hp hz hr=>by
  rw [hx] at hx';cases hx';by_cases e:p=q
  . subst e;rw [hy] at hz;cases hz;rcases hn with hn|⟨h1,h2⟩
    . exact hn
    rw [h1,h2] at hr;simp at hr
  . exact h.now x hx p z oM hz hr⟩
def Mk.take {l:List Int} {r:Int->Int->Bool} {cs:List (List Int)} {first:Int} {tk cl:List Int} {i q:Nat} {x y:Int} (h:Mk l r cs first tk cl i q) (hx:cl[i]? =some x) (hy:l[q]? =some y) (hn:y∉tk) (hr:r x y=true\/r y x=true):Mk l r cs first (tk++[y]) (cl++[y]) i (q+1):=by
 have hyl:=Xb hy
 have hxc:=Xb hx
 have hn':y∉cs.flatten/\y∉cl:=by
  have:=fun hh=>hn ((h.tkm y).2 hh);exact ⟨fun hh=>this (.inl hh),fun hh=>this (.inr hh)⟩
 refine ⟨fun z=>?_,?_,fun z hz=>?_,fun z hz=>?_,by simp [h.fst],by have:=h.il;simp;omega,fun j u hj hu v hv hrr=>?_,fun u hu p v hp hv hrr=>?_⟩
 . simp only [XD,XE,h.tkm z];exact or_assoc
 . rw [<-XG,X6];refine ⟨h.nd,sM,fun a ha b hb=>?_⟩;simp at hb;subst hb;intro e;rw [XD] at ha;rcases ha with ha|ha
   . exact hn'.1 (e▸ha)
   exact hn'.2 (e▸ha)
 . simp only [XD,XE] at hz;rcases hz with hz|rfl
   . exact h.sub z hz
   exact hyl
 . simp only [XD,XE] at hz;rcases hz with hz|rfl
   . exact h.con z hz
   exact (h.con x hxc).trans (Conn.step (h.sub x hxc) hyl hr)
 . have hl:j<cl.length:=by have:=h.il;omega
   rw [Vo hl] at hu;rw [XD];exact .inl (h.did j u hj hu v hv hrr)
 have hl:=Zd hx;rw [Vo hl,hx] at hu;cases hu;rw [XD];by_cases e:p=q
 . subst e;rw [hy] at hv;cases hv;simp
 exact .inl (h.now x hx p v oM hv hrr)
def Mk.next {l:List Int} {r:Int->Int->Bool} {cs:List (List Int)} {first:Int} {tk cl:List Int} {i q:Nat} (h:Mk l r cs first tk cl i q) (hq:l.length<=q) (hi:i<cl.length):Mk l r cs first tk cl (i+1) 0:=
 ⟨h.tkm,h.nd,h.sub,h.con,h.fst,hi,fun j x hj hx y hy hr=>by
  by_cases e:j=i
  . subst e;obtain ⟨p,hp⟩:=XM hy;exact h.now x hx p y (by have:=Zd hp;omega) hp hr
  . exact h.did j x oM hx y hy hr,oM⟩
def Jd {cl:List Int} {z:Int}:z∈cl.mergeSort (fun x y=>decide (x<=y))↔z∈cl:=(VL cl _).mem_iff
def Zav {cl:List Int} (h:cl.Nodup):(cl.mergeSort fun x y=>decide (x<=y)).Pairwise (· < ·):=by
 have h1:=List.pairwise_mergeSort (le:=fun x y:Int=>decide (x<=y)) (fun a b c h1 h2=>by simp at*;omega) (fun a b=>by simp;omega) cl
 have h2:(cl.mergeSort fun x y=>decide (x<=y)).Nodup:=(VL cl _).nodup_iff.2 h
 exact (h1.and h2).imp fun {a b} ⟨h3,h4⟩=>by simp at h3;have:a≠b:=h4;omega
def Mk.done {l:List Int} {r:Int->Int->Bool} {cs:List (List Int)} {first:Int} {tk cl:List Int} {i k:Nat} (h:Mk l r cs first tk cl i 0) (hP:Part l r cs k) (hl:l.Pairwise (· < ·)) (hk:l[k]? =some first) (hi:cl.length<=i):Part l r (cs++[cl.mergeSort fun x y=>decide (x<=y)]) (k+1):=by
 have hnd:=X6.1 h.nd
 have hflat:(cs++[cl.mergeSort fun x y=>decide (x<=y)]).flatten=cs.flatten++cl.mergeSort (fun x y=>decide (x<=y)):=sM
 have hclos:∀x∈cl,∀y∈l,(r x y=true\/r y x=true)->y∈cl:=fun x hx y hy hr=>by
  obtain ⟨j,hj⟩:=XM hx;have:=h.did j x (by have:=Zd hj;omega) hj y hy hr;rcases (h.tkm y).1 this with h1|h1
  . obtain ⟨c,hc,hyc⟩:=XQ.1 h1;have hxc:=hP.clos c hc y hyc x (h.sub x hx) hr.symm;exact Qe rfl (hnd.2.2 x (XQ.2 ⟨c,hc,hxc⟩) x hx)
  exact h1
 have hleast:∀z∈cl,first<=z:=fun z hz=>by
  obtain ⟨j,hj⟩:=XM (h.sub z hz);rcases VB j k with h1|h1|h1
  . have:=hP.did j z h1 hj;exact Qe rfl (hnd.2.2 z this z hz)
  . subst h1;rw [hk] at hj;cases hj;omega
  have:=XW.1 hl k j (Zd hk) (Zd hj) h1;have e1:=(Xk.1 hk).2;have e2:=(Xk.1 hj).2;rw [e1,e2] at this;omega
 have hasc:=Zav hnd.2.1
 have hhead:∀x,(cl.mergeSort fun x y=>decide (x<=y)).head? =some x->x=first:=fun x hx=>by
  have hm:x∈cl:=Jd.1 (List.mem_of_mem_head? hx);have hf:first∈cl.mergeSort fun x y=>decide (x<=y):=Jd.2 h.fst
  have:=hleast x hm
  cases hs:cl.mergeSort (fun x y=>decide (x<=y)) with
  |nil=>rw [hs] at hx;cases hx
  | cons a t=>
    rw [hs] at hx hf hasc;simp at hx;subst hx;rw [Xy] at hasc;rcases Xi.1 hf with e|e
    . exact e.symm
    have:=hasc.1 first e;omega
 refine ⟨fun x hx=>?_,fun j x hj hx=>?_,?_,fun c hc=>?_,fun c hc=>?_,fun c hc x hx y hy=>?_,fun c hc x hx y hy hr=>?_,?_,fun c hc x hx=>?_⟩
 . rw [hflat,XD,Jd] at hx;rcases hx with hx|hx
   . exact hP.sub x hx
   exact h.sub x hx
 . rw [hflat,XD,Jd];by_cases e:j=k
   . subst e;rw [hk] at hx;cases hx;exact .inr h.fst
   exact .inl (hP.did j x oM hx)
 . rw [hflat,X6];exact ⟨hP.nd,(VL cl _).nodup_iff.2 hnd.2.1,fun a ha b hb=>hnd.2.2 a ha b (Jd.1 hb)⟩
 . rcases XD.1 hc with hc|hc
   . exact hP.ne c hc
   simp at hc;subst hc;intro e;have:=(Jd (cl:=cl)).2 h.fst;rw [e] at this;simp at this
 . rcases XD.1 hc with hc|hc
   . exact hP.asc c hc
   simp at hc;subst hc;exact hasc
 . rcases XD.1 hc with hc|hc
   . exact hP.conn c hc x hx y hy
   simp at hc;subst hc;exact (h.con x (Jd.1 hx)).symm.trans (h.con y (Jd.1 hy))
 . rcases XD.1 hc with hc|hc
   . exact hP.clos c hc x hx y hy hr
   simp at hc;subst hc;exact Jd.2 (hclos x (Jd.1 hx) y hy hr)
 . rw [UG];refine ⟨hP.ord,sM,fun c hc d hd x y hx hy=>?_⟩;simp at hd;subst hd;obtain ⟨j,hj,e⟩:=hP.hd c hc x hx;rw [hhead y hy];have:=XW.1 hl j k (Zd e) (Zd hk) hj;rw [(Xk.1 e).2,(Xk.1 hk).2] at this;exact this
 rcases XD.1 hc with hc|hc
 . obtain ⟨j,hj,e⟩:=hP.hd c hc x hx;exact ⟨j,oM,e⟩
 simp at hc;subst hc;rw [hhead x hx];exact ⟨k,oM,hk⟩
end Go.Cb
namespace Go.Proofs.YtmkojdfiadbeeaaGreat
open Go.RowKit Go.Cb Go.En Tryz
def Z6:AggT prog 42 2=true:=kR
def Dy:ElT prog 40 26 1 24 (.slice none 0 0):=⟨underlying40,by kernel_rfl,rfl,dC⟩
def Yv:ElT prog 88 90 1 24 (.slice none 0 0):=⟨underlying88,by kernel_rfl,rfl,dC⟩
def PT:MpT prog 141 3 4 (.int .i64) (.bool false):=⟨underlying141,underlying3, .inr ⟨_,rfl⟩,by show ZeroT _ _ _;unfold ZeroT;kernel_rfl⟩
def WY:NoAgg prog 84=true:=kR
def TB:Gk prog 42=some ((.agg #[(.int .i64 0),(.slice none 0 0)]),([0,1]:List Nat).map fun o=>(o,1)):=kR
def Zcl:(prog.info? 40).map (·.size)=some 1:=kR
def E1:(prog.info? 84).map (·.size)=some 1:=kR
def WZ:ZeroT prog 42 (.agg #[(.int .i64 0),(.slice none 0 0)]):=by unfold ZeroT;kernel_rfl
def E2:ZeroT prog 84 (.pointer none):=by unfold ZeroT;kernel_rfl
def upTo (n:Nat):List Int:=vec n fun i=>(i:Int)
def ZdB (l:List BA) (rest:List PV) (hl:l.length<=1000000):AF prog 49 [.sptr 0 (ZX l::rest)] (· =pInts (upTo l.length)):=by
 refine AF.b1 19 func49 rfl ntmps49 (Xa rfl) fun w0 M0 v0 _=>?_
 refine D4 ?_
 refine xL 5 Za (xL 6 Ku (xL 7 (Yg Js) ?_));refine yU (Zw ZG) fun v8=>?_;refine xL 9 (Zu Zo) (xL 10 Za ?_);refine ZZ ?_
 refine Zs (YO 200 3 1 rfl) fun _=>?_
 refine Yl (ι:={x:Nat×Value//x.1<=l.length}) (fun k=>⟨[(9,_,_),(3,k.1.2, .val k.1.2),(10, .int .i64 k.1.1,Zb k.1.1)],[(200,k.1.2, .own 3 1 k.1.1 (vec k.1.1 fun i=>Zb (i:Nat)))]⟩) (fun k=>l.length-k.1.1) ⟨(0, .slice none 0 0),Xg _⟩ ?_
 rintro ⟨⟨k,h33⟩,hk⟩
 dsimp only
 dsimp only at hk
 refine Ys ?_ ?_<;>intro hb11
 . (
 have e1:=Wz k (fun i=>Zb (i:Nat));refine Jh ?_;refine YW ?_;refine WE (kk:=1) 15 YY fun h15 ho15=>?_;refine Y7 200 15 16 YY fun h16 ho16=>?_;refine J1 ?_;refine ZJ (ZK (l:=16) 200 rfl rfl) fun _=>?_;rw [show vec k (fun i=>Zb (i:Nat))++[Zb (k:Int)]=vec (k+1) fun i=>Zb (i:Nat) by rw [Zfn]];refine Zh (
  ⟨(k+1,h16),by show k+1<=l.length;omega⟩
  ) (by show l.length-(k+1)<l.length-k;omega) sB sB)
 refine ZP ?_;refine YK (En.freeze (l:=200) (t:=2) rfl rfl) fun _=>?_;refine Zg results49 rfl ?_;rw [show k=l.length by omega,share,YG,ζo];unfold pInts upTo;rw [Wz,ζo];rfl
def tkv (tk:List Int):List (Value×Value):=ikv (tk.map fun x=>(x,Value.bool true))
def Zqv (tk:List Int) (x:Int):Kx (tk.map fun x=>(x,Value.bool true)) x=if x∈tk then some (.bool true) else none:=by
 induction tk with
 |nil=>rfl
 | cons y l ih=>
   rw [Xn,Kx];by_cases h:x=y
   . rw [Qd h,Qd (by simp [h])]
   rw [Qc h,ih];by_cases h2:x∈l
   . rw [Qd h2,Qd (by simp [h2])]
   rw [Qc h2,Qc (by simp [h,h2])]
def Zqw {tk:List Int} {x:Int} (h:x∉tk):Je (tk.map fun x=>(x,Value.bool true)) x (.bool true)=(tk++[x]).map fun x=>(x,Value.bool true):=by
 induction tk with
 |nil=>rfl
 | cons y l ih=>
   rw [Xn,Je,Qc (fun e=>h (by simp [show x=y from e])),ih (fun hh=>h (by simp [hh]))];rfl
def Zi6 (tk:List Int) (x:Int):(KC (tkv tk) (.int .i64 x)).getD (.bool false)= .bool (decide (x∈tk)):=by
 unfold tkv
 rw [ZmL,Zqv]
 by_cases h:x∈tk
 . rw [Qd h,Qa h];rfl
 rw [Qc h,Qb h];rfl
def Zi7 {tk:List Int} {x:Int} (h:x∉tk):RV (tkv tk) (.int .i64 x) (.bool true)=tkv (tk++[x]):=by
 unfold tkv
 rw [ZmM,Zqw h]
def Kb (e n:Nat) (l:List Int) (hn:n=l.length):share (.own e 1 n (l.map Zb))=pInts l:=by
 subst hn
 rw [share,YG,XB];rfl
def GF {α:Type} {l:List α} {x:α} {k:Nat} (h:k=l.length):(l++[x])[k]? =some x:=by subst h;simp
def JQ {α:Type} {l:List α} {x y:α} {k:Nat} (h:k=l.length):(l++[x]).set k y=l++[y]:=by subst h;simp
def E3:Zrz prog 60:=fun blk cap zs w hH hb hn=>Tryz.slices_Sort_int blk 0 cap zs w hH hb hn
def SY (f : Nat) (caps:List PV) (r:Int->Int->Bool) (l:List Int) (hasc:l.Pairwise (· < ·)) (hl:l.length<=100000) (hcl:∀args w,(callFunc f args).run prog w= .ok (.enter f args) w) (hf:∀x∈l,∀y∈l,AF prog f ([Zb x,Zb y]++caps) (· =Zr (r x y))):AF prog 48 [pInts l, .fn f caps] (fun p=>∃cs,Comps l r cs/\p= .own 90 1 cs.length (cs.map pInts)):=by
 refine AF.b2 76 func48 rfl ntmps48 (Xa rfl) fun w0 M0 v0 v1 _ _=>?_
 refine D4 ?_
 refine Rl 13 fun h13 ho13=>?_;refine ZW ?_
 refine xL 14 Za (xL 15 (Zu ZS) (xL 16 Za ?_));refine ZZ ?_
 refine Zs (YO 200 90 1 rfl) fun _=>?_
 refine Yl (ι:={x:Nat×Value×List (List Int)×List Int//x.1<=l.length/\Part l r x.2.2.1 x.1/\∀z,z∈x.2.2.2↔z∈x.2.2.1.flatten}) (fun k=>⟨[(0,_,_),(1,_,_),(6,_,_),(14,_,_),(15,_,_),(5,k.1.2.1, .val k.1.2.1),(16, .int .i64 k.1.1,Zb k.1.1)],[(13,h13, .omap (tkv k.1.2.2.2)),(200,k.1.2.1, .own 90 1 k.1.2.2.1.length (k.1.2.2.1.map pInts))]⟩) (fun k=>l.length-k.1.1) ⟨(0, .slice none 0 0,[],[]),Xg _,Part.start l r,fun z=>sM⟩ ?_
 rintro ⟨⟨k,h55,cs,tk⟩,hk,hpt,htk⟩
 dsimp only
 dsimp only at hk hpt htk
 refine Ys ?_ ?_<;>intro hb17
 . (
 obtain ⟨xf,hx⟩:=gS l k;have e1:=Yf (f:=Zb) hx;have e2:=Zi6 tk xf;have hxl:=Xb hx;have hcsl:cs.length<=l.length:=by
  refine XI ?_ (JP hpt.nd hpt.sub);have:∀m:List (List Int),(∀c∈m,c≠[])->m.length<=m.flatten.length:=fun m=>by
   induction m with
   |nil=>intro _;simp
   | cons c m ih=>
     intro h;have h1:=ih fun d hd=>h d (by simp [hd]);have h2:=X5.2 (h c sM);rw [XS,Xe,Xh];omega
  exact this cs hpt.ne
 refine Zi ?_;refine xM (Ze ZS) ?_;refine yV (Zw Zq) ?_;refine ZW ?_;refine xL 20 Za (xL 21 Za (xL 22 (Ow 13 PT) ?_));refine ZC ?_ ?_<;>intro hb22
 . (
 refine ZP ?_;try refine ZJ (YD (l:=73) (l':=201) (j:=cs.length) rfl (GF (Xc _).symm) rfl rfl) fun _=>?_
 try rw [JQ (Xc _).symm,Kb _ _ _ (V3 _).symm]
 try rw [show cs.map pInts++[pInts (cl.mergeSort fun x y=>decide (x<=y))]=(cs++[cl.mergeSort fun x y=>decide (x<=y)]).map pInts by simp,show cs.length+1=(cs++[cl.mergeSort fun x y=>decide (x<=y)]).length by simp]
 try refine ZJ (ZK (l:=73) 200 rfl rfl) fun _=>?_
 first
  | (exact Zh (
      ⟨(k+1,h73,cs++[cl.mergeSort fun x y=>decide (x<=y)],tk1),by show k+1<=l.length;omega,hmk.done hpt hasc hx oM,fun z=>by
        show z∈tk1↔z∈(cs++[_]).flatten;rw [hmk.tkm z];simp [Jd]⟩
      ) (by show l.length-(k+1)<l.length-k;omega) sB sB)
  | (exact Zh (
      ⟨(k+1,h55,cs,tk),by show k+1<=l.length;omega,hpt.skip hx ((htk xf).1 hb22),htk⟩
      ) (by show l.length-(k+1)<l.length-k;omega) sB sB))
 have hxn:xf∉cs.flatten:=fun h=>hb22 ((htk xf).2 h);have hxt:xf∉tk:=hb22;refine Kt ?_;refine PG 13 PT ?_;refine ZZ ?_;rw [Zi7 hxt];refine J2 ?_;refine WE (kk:=1) 26 YY fun h26 ho26=>?_;refine KG ?_;refine Zs (ZK (l:=26) 201 rfl rfl) fun _=>?_;refine Yl (ι:={x:Nat×Value×List Int×List Int//x.2.1.oneCell'=true/\Mk l r cs xf x.2.2.1 x.2.2.2 x.1 0}) (fun k=>⟨[(0,_,_),(1,_,_),(5,_,_),(6,_,_),(14,_,_),(15,_,_),(16,_,_),(9,k.1.2.1, .val k.1.2.1),(10, .int .i64 k.1.1,Zb k.1.1)],[(200,_,_),(13,h13, .omap (tkv k.1.2.2.1)),(201,k.1.2.1, .own 3 1 k.1.2.2.2.length (k.1.2.2.2.map Zb))]⟩) (fun k=>l.length-k.1.1) ⟨(0,h26,tk++[xf],[xf]),ho26,Mk.start hpt hx htk hxn⟩ ?_;rintro ⟨⟨i,h99,tk1,cl⟩,ho99,hmk⟩;dsimp only;dsimp only at ho99 hmk;have hcll:=hmk.len;have e1l:(cl.map Zb).length=cl.length:=Xc _;refine Zi ?_;refine xL 27 Za (xL 28 Za (xL 29 (Wu 201 ZS) (xL 30 Yn ?_)));refine ZC ?_ ?_<;>intro hb30
 . (
 have hil:i<cl.length:=oM;obtain ⟨u,hu⟩:=get_some hil;refine Zi ?_;refine xL 33 Za (xL 34 (Zu ZS) (xL 35 Za ?_));refine ZZ ?_;refine Yl (ι:={x:Nat×Value×List Int×List Int//x.1<=l.length/\x.2.1.oneCell'=true/\x.2.2.2[i]? =some u/\Mk l r cs xf x.2.2.1 x.2.2.2 i x.1}) (fun k=>⟨[(0,_,_),(1,_,_),(5,_,_),(6,_,_),(10,_,_),(14,_,_),(15,_,_),(16,_,_),(33,_,_),(34,_,_),(9,k.1.2.1, .val k.1.2.1),(35, .int .i64 k.1.1,Zb k.1.1)],[(200,_,_),(13,h13, .omap (tkv k.1.2.2.1)),(201,k.1.2.1, .own 3 1 k.1.2.2.2.length (k.1.2.2.2.map Zb))]⟩) (fun k=>l.length-k.1.1) ⟨(0,h99,tk1,cl),Xg _,ho99,hu,hmk⟩ ?_;rintro ⟨⟨q,h98,tk2,cl2⟩,hq,ho98,hu2,hmk2⟩;dsimp only;dsimp only at hq ho98 hu2 hmk2;have hcll2:=hmk2.len;have e1l2:(cl2.map Zb).length=cl2.length:=Xc _;refine Ys ?_ ?_<;>intro hb36
 . (
 obtain ⟨y,hy⟩:=gS l q;have e3:=Yf (f:=Zb) hy;have e4:=Zi6 tk2 y;have e5:=Yf (f:=Zb) hu2;have hyl:=Xb hy;have hul:=hmk2.sub u (Xb hu2);have hilt:=Zd hu2;refine Zi ?_;refine xM (Ze ZS) ?_;refine yV (Zw Zq) ?_;refine ZW ?_;(refine xL 39 Za (xL 40 Za (xL 41 (Ow 13 PT) (xL 42 HJ (xL 43 Za ?_))))<;>(refine bL 43 (fun hb43=>?_) (fun hb43=>?_)<;>refine kZ ?_)<;>refine Ky ?_<;>(first|refine kL ?_|refine xM (Zk 201 ZS) ?_)<;>(first|refine kL ?_|refine yV (Zf 201 Zq) ?_)<;>refine kZ ?_<;>(first|refine kL ?_|(refine cV (LW (f:=f) (ps:=caps) rfl ⟨_,rfl⟩ hcl rfl (hf u hul y hyl)) ?_))<;>refine kZ ?_<;>(first|refine kL ?_|(refine bL 51 (fun hb51=>?_) (fun hb51=>?_)<;>refine kZ ?_))<;>refine Ky ?_<;>refine kZ ?_<;>(first|refine kL ?_|refine xM (Zk 201 ZS) ?_)<;>(first|refine kL ?_|refine yV (Zf 201 Zq) ?_)<;>(first|refine kL ?_|(refine cV (LW (f:=f) (ps:=caps) rfl ⟨_,rfl⟩ hcl rfl (hf y hyl u hul)) ?_))<;>refine WF ?_)<;>(
 refine cX ?_ ?_<;>intro hb60
 . first | exact bN hb60|(
 (have hyt:y∉tk2:=by simpa using hb43);have hry:r u y=true\/r y u=true:=by first|exact .inl hb51|exact .inr hb60
 refine Kt ?_;refine PG 13 PT ?_;refine ZZ ?_;rw [Zi7 hyt];refine Zp ?_;refine YW ?_;refine WE (kk:=1) 65 YY fun h65 ho65=>?_;refine Y7 201 65 66 YY fun h66 ho66=>?_;refine J1 ?_;try refine ZJ (ZK (l:=66) 201 rfl rfl) fun _=>?_
 try rw [show cl2.map Zb++[Zb y]=(cl2++[y]).map Zb by simp,show cl2.length+1=(cl2++[y]).length by simp]
 first
  | (exact Zh (
      ⟨(q+1,h66,tk2++[y],cl2++[y]),by show q+1<=l.length;omega,ho66,by show (cl2++[y])[i]? =some u;rw [Vo hilt];exact hu2,hmk2.take hu2 hy hyt hry⟩
      ) (by show l.length-(q+1)<l.length-q;omega) sB sB)
  | (exact Zh (
      ⟨(q +1,h98,tk2,cl2),by show q+1<=l.length;omega,ho98,hu2,hmk2.pass hu2 hy (by
        first
         |exact .inr ⟨hb51,hb60⟩
         |exact .inl (by simpa using hb43))⟩
      ) (by show l.length-(q+1)<l.length-q;omega) sB sB))
 . first | exact bN hb60|(
 refine ZP ?_;try refine ZJ (ZK (l:=66) 201 rfl rfl) fun _=>?_
 try rw [show cl2.map Zb++[Zb y]=(cl2++[y]).map Zb by simp,show cl2.length+1=(cl2++[y]).length by simp]
 first
  | (exact Zh (
      ⟨(q+1,h66,tk2++[y],cl2++[y]),by show q+1<=l.length;omega,ho66,by show (cl2++[y])[i]? =some u;rw [Vo hilt];exact hu2,hmk2.take hu2 hy hyt hry⟩
      ) (by show l.length-(q+1)<l.length-q;omega) sB sB)
  | (exact Zh (
      ⟨(q +1,h98,tk2,cl2),by show q+1<=l.length;omega,ho98,hu2,hmk2.pass hu2 hy (by
        first
         |exact .inr ⟨hb51,hb60⟩
         |exact .inl (by simpa using hb43))⟩
      ) (by show l.length-(q+1)<l.length-q;omega) sB sB))))
 refine YQ ?_;refine Zh (
  ⟨(i+1,h98,tk2,cl2),ho98,hmk2.next oM (Zd hu2)⟩
  ) (by show l.length-(i+1)<l.length-i;omega) sB sB)
 refine Wp ?_;refine Zdj 201 E3 call60 ?_ (List.length_pos_of_mem hmk.fst);refine D6 ?_;refine WE (kk:=1) 72 Yv fun h72 ho72=>?_;refine Y7 200 72 73 Yv fun h73 ho73=>?_;refine J1 ?_;try refine ZJ (YD (l:=73) (l':=201) (j:=cs.length) rfl (GF (Xc _).symm) rfl rfl) fun _=>?_
 try rw [JQ (Xc _).symm,Kb _ _ _ (V3 _).symm]
 try rw [show cs.map pInts++[pInts (cl.mergeSort fun x y=>decide (x<=y))]=(cs++[cl.mergeSort fun x y=>decide (x<=y)]).map pInts by simp,show cs.length+1=(cs++[cl.mergeSort fun x y=>decide (x<=y)]).length by simp]
 try refine ZJ (ZK (l:=73) 200 rfl rfl) fun _=>?_
 first
  | (exact Zh (
      ⟨(k+1,h73,cs++[cl.mergeSort fun x y=>decide (x<=y)],tk1),by show k+1<=l.length;omega,hmk.done hpt hasc hx oM,fun z=>by
        show z∈tk1↔z∈(cs++[_]).flatten;rw [hmk.tkm z];simp [Jd]⟩
      ) (by show l.length-(k+1)<l.length-k;omega) sB sB)
  | (exact Zh (
      ⟨(k+1,h55,cs,tk),by show k+1<=l.length;omega,hpt.skip hx ((htk xf).1 hb22),htk⟩
      ) (by show l.length-(k+1)<l.length-k;omega) sB sB))
 refine ZP ?_;refine Gm 200 results48 rfl rfl ⟨cs,hpt.comps oM,rfl⟩
def Wn (l:List BA) (i:Int):BA:=l[i.toNat]?.getD ByteArray.empty
def ZB (l:List BA) (cs:List (List Int)):List (List BA):=cs.map fun c=>c.map (Wn l)
def Zi8 {l:List BA} {x:Int} (h:0<=x/\x<l.length):(l.map Zx)[x.toNat*1]? =some (Zx (Wn l x)):=by
 rw [XJ,Xl]
 unfold Wn
 rw [Xr (show x.toNat<l.length by omega)];rfl
def CP (e n:Nat) (l:List (List BA)) (hn:n=l.length):share (.own e 1 n (l.map ZX))=L4 l:=by
 subst hn
 rw [share,YG,XB];rfl
def KP (e n:Nat) (l:List (List Int)) (hn:n=l.length):share (.own e 1 n (l.map pInts))=KX l:=by
 subst hn
 rw [share,YG,XB];rfl
def OL (l:List BA) (rest:List PV) (kind:Int) (cs:List (List Int)) (h:cs.length<2):AF prog 47 [.sptr 0 (ZX l::rest),Zb kind,KX cs] (· = .tup [.agg [Zb 0, .val (.slice none 0 0)],Zb 10]):=by
 refine AF.b3 51 func47 rfl ntmps47 (Xa rfl) ?_
 rintro w0 M0 v0 _ v2-rfl-
 refine Zi ?_
 refine Zt [(.int .i64 0),(.slice none 0 0)] 2 6 WZ fun h6=>?_;refine ZW ?_
 refine xL 14 Za (xL 15 (Zu ZO) (xL 16 Yn ?_));refine ZC ?_ ?_<;>intro hb16
 . refine Zi ?_;refine xM (ZA TB) ?_;refine Zn 6 Z6 ?_;refine ZD ?_;exact ZN (k:=2) 6 results47 rfl
 exfalso;omega
def H8 (l:List BA) (rest:List PV) (kind:Int) (cs:List (List Int)) (h:2<=cs.length) (hcs:∀c∈cs,∀x∈c,0<=x/\x<l.length) (hcl:cs.length<=1000000) (hcc:∀c∈cs,c.length<=1000000):AF prog 47 [.sptr 0 (ZX l::rest),Zb kind,KX cs] (· = .tup [PC ⟨kind,ZB l cs⟩,Zb 0]):=by
 refine AF.b3 51 func47 rfl ntmps47 (Xa rfl) ?_
 rintro w0 M0 v0 _ v2-rfl-
 refine Zi ?_
 refine Zt [(.int .i64 0),(.slice none 0 0)] 2 6 WZ fun h6=>?_;refine ZW ?_
 refine xL 14 Za (xL 15 (Zu ZO) (xL 16 Yn ?_));refine ZC ?_ ?_<;>intro hb16
 . exfalso;omega
 . refine Zi ?_;refine xL 18 Za (xL 19 (ZA TB) ?_);refine Zt [(.int .i64 0),(.slice none 0 0)] 2 8 WZ fun h8=>?_;refine Zn 8 Z6 ?_;refine YT ?_;refine xL 20 Za (xL 21 (Zu ZO) (xL 22 Za ?_));refine ZZ ?_;refine Zs (YO 200 26 1 rfl) fun _=>?_;refine Yl (ι:={x:Nat×Value//x.1<=cs.length}) (fun k=>⟨[(0,_,_),(6,_,_),(8,_,_),(20,_,_),(21,_,_),(22, .int .i64 k.1.1,Zb k.1.1)],[(6,_,_),(8,h8, .own 42 2 1 [Zb kind, .val k.1.2]),(200,k.1.2, .own 26 1 k.1.1 (((ZB l cs).take k.1.1).map ZX))]⟩) (fun k=>cs.length-k.1.1) ⟨(0, .slice none 0 0),Xg _⟩ ?_;rintro ⟨⟨k,h55⟩,hk⟩;dsimp only;dsimp only at hk;refine Ys ?_ ?_<;>intro hb23
   . (
 obtain ⟨cl,hx⟩:=gS cs k;have e1:=Yf (f:=pInts) hx;have hxl:=hcs cl (Xb hx);have hxc:=hcc cl (Xb hx);(have hpt:(ZB l cs)[k]? =some (cl.map (Wn l)):=by unfold ZB;rw [Xl,hx];rfl);(have e2:(((ZB l cs).take k).map ZX).length=k:=by unfold ZB;simp;omega);refine Zi ?_;refine xM (Ze ZO) ?_;refine yU (Zw Yz) fun v25=>?_;refine ZW ?_;refine ZW ?_;refine xL 26 Za (xL 27 (Zu ZS) (xL 28 Za ?_));refine ZZ ?_;refine Zs (YO 201 9 1 rfl) fun _=>?_;refine Yl (ι:={x:Nat×Value//x.1<=cl.length/\x.2.oneCell'=true}) (fun k=>⟨[(0,_,_),(6,_,_),(8,_,_),(20,_,_),(21,_,_),(22,_,_),(26,_,_),(27,_,_),(11,k.1.2, .val k.1.2),(28, .int .i64 k.1.1,Zb k.1.1)],[(6,_,_),(8,_,_),(200,_,_),(201,k.1.2, .own 9 1 k.1.1 (((cl.map (Wn l)).take k.1.1).map Zx))]⟩) (fun k=>cl.length-k.1.1) ⟨(0, .slice none 0 0),Xg _,rfl⟩ ?_;rintro ⟨⟨j,h66⟩,hj,ho66⟩;dsimp only;dsimp only at hj ho66;refine Ys ?_ ?_<;>intro hb29
 . (
 obtain ⟨z,hz⟩:=gS cl j;have e3:=Yf (f:=Zb) hz;have hzb:=hxl z (Xb hz);have e4:=Zi8 hzb;(have e5:(((cl.map (Wn l)).take j).map Zx).length=j:=by simp;omega);(have hnz:(cl.map (Wn l))[j]? =some (Wn l z):=by rw [Xl,hz];rfl);refine Zi ?_;refine xM (Ze ZS) ?_;refine yV (Zw Zq) ?_;refine ZW ?_;refine xL 32 Za (xL 33 Za (xL 34 Ku (xL 35 (Yg Js) ?_)));refine yU (Zw ZG) fun v36=>?_;refine xL 37 Za (xL 38 (Sa Zo) ?_);refine yV (Zw ZE) ?_;refine WE (kk:=1) 40 YX fun h40 ho40=>?_;refine Y7 201 40 41 YX fun h41 ho41=>?_;refine J1 ?_;refine ZJ (ZK (l:=41) 201 rfl rfl) fun _=>?_;rw [show ((cl.map (Wn l)).take j).map Zx++[Zx (Wn l z)]=((cl.map (Wn l)).take (j+1)).map Zx by rw [ZR hnz,XX];rfl];refine Zh (
  ⟨(j+1,h41),by show j+1<=cl.length;omega,ho41⟩
  ) (by show cl.length-(j+1)<cl.length-j;omega) sB sB)
 refine Zi ?_;refine xM (Zc 8 KO) ?_;refine yV (Zf 8 JO) ?_;refine YU ?_;refine WE (kk:=1) 46 Dy fun h46 ho46=>?_;refine Y7 200 46 47 Dy fun h47 ho47=>?_;refine xM (Zc 8 KO) ?_;refine JY 8 JO Zcl ?_;refine Ox ?_;refine ZJ (YD (l:=47) (l':=201) (j:=k) rfl (GF e2.symm) rfl rfl) fun _=>?_;rw [JQ e2.symm,show j=(cl.map (Wn l)).length by rw [Xc];omega,Xx,J6];rw [show ((ZB l cs).take k).map ZX++[PV.sl (cl.map (Wn l)).length ((cl.map (Wn l)).map Zx)]=((ZB l cs).take (k+1)).map ZX by rw [ZR hpt,XX];rfl];refine ZJ (ZK (l:=47) 200 rfl rfl) fun _=>?_;refine Zh (
  ⟨(k+1,h47),by show k+1<=cs.length;omega⟩
  ) (by show cs.length-(k+1)<cs.length-k;omega) sB sB)
   . (
 refine nav ?_;rw [show k=(ZB l cs).length by unfold ZB;rw [Xc];omega,Xx];refine Zs (YD (l:=8) (l':=200) (j:=1) rfl rfl rfl rfl) fun _=>?_;rw [CP _ _ _ rfl];refine Zp ?_;refine yU (Zm 8 Z6) fun v50=>?_;refine Zn 6 Z6 ?_;refine ZD ?_;exact ZN (k:=2) 6 results47 rfl)
def Zaw (l:List BA) (kind:Int) (cs:List (List Int)):PV:=if cs.length<2 then .tup [.agg [Zb 0, .val (.slice none 0 0)],Zb 10] else .tup [PC ⟨kind,ZB l cs⟩,Zb 0]
def YR {n:Nat} {x:Int}:x∈upTo n↔0<=x/\x<n:=by
 unfold upTo vec
 simp only [Xp,XT]
 constructor
 . rintro ⟨i,hi,rfl⟩;omega
 rintro ⟨h0,h1⟩;exact ⟨x.toNat,oM,oM⟩
def JR (n:Nat):(upTo n).length=n:=Wz _ _
def Tc (n:Nat):(upTo n).Pairwise (· < ·):=by
 rw [XW]
 intro i j hi hj hij
 rw [JR] at hi hj
 have e1:(upTo n)[i]? =some ((i:Nat):Int):=PS _ hi
 have e2:(upTo n)[j]? =some ((j:Nat):Int):=PS _ hj
 rw [(Xk.1 e1).2,(Xk.1 e2).2];omega
def Jv {n:Nat} {r:Int->Int->Bool} {cs:List (List Int)} (h:Comps (upTo n) r cs):(∀c∈cs,∀x∈c,0<=x/\x<n)/\cs.length<=n/\∀c∈cs,c.length<=n:=by
 have h1:∀c∈cs,∀x∈c,x∈upTo n:=fun c hc x hx=>(h.mem x).1 (XQ.2 ⟨c,hc,hx⟩)
 refine ⟨fun c hc x hx=>YR.1 (h1 c hc x hx),?_,fun c hc=>?_⟩
 . have h2:=JP h.nd (fun x hx=>(h.mem x).1 hx);rw [JR] at h2;have:∀m:List (List Int),(∀c∈m,c≠[])->m.length<=m.flatten.length:=fun m=>by
    induction m with
    |nil=>intro _;simp
    | cons c m ih=>
      intro h;have h1:=ih fun d hd=>h d (by simp [hd]);have h2:=X5.2 (h c sM);rw [XS,Xe,Xh];omega
   have:=this cs h.ne;omega
 have h2:=JP (l:=c) (m:=upTo n) ((h.asc c hc).imp fun {a b} h=>oM) (h1 c hc);rw [JR] at h2;exact h2
def Oc (E:Nat->Nat->Bool) (a b:Int):Bool:=E a.toNat b.toNat
def Zqx (l:List BA) (n:Nat) (E:Nat->Nat->Bool) (S F:Nat->Bool) (x y:Int) (hx:0<=x/\x<n) (hy:0<=y/\y<n):AF prog 50 [Zb x,Zb y, .sptr 0 [Li l n E S F]] (· =Zr (Oc E x y)):=by
 obtain ⟨a,rfl⟩:∃a:Nat,x=a:=⟨x.toNat,oM⟩
 obtain ⟨b,rfl⟩:∃b:Nat,y=b:=⟨y.toNat,oM⟩
 have e1:=Z0 (fun i=>Wq n (E i)) (show a<n by omega)
 have e2:=Z0 (fun j=>Zr (E a j)) (show b<n by omega)
 refine AF.b3 16 func50 rfl ntmps50 (Xa rfl) ?_
 rintro w0 M0 _ _ v2 rfl rfl-
 dsimp only [Li]
 refine WK ?_
 refine yU (Zw WY) fun v6=>?_;refine xL 7 Ku (xL 8 (Yg K5) ?_);refine yU (Zw Yj) fun v9=>?_;refine xL 10 Za (xL 11 (Ze Z') ?_);refine yU (Zw Zy) fun v12=>?_;refine xL 13 Za (xL 14 (Ze ZI) ?_);refine yV (Zw ZT) ?_;refine ZD ?_
 exact Zg results50 rfl rfl
def Zk1 (g:Dfg) (l:List BA) (n:Nat) (E:Nat->Nat->Bool) (S F:Nat->Bool) (hb:AF prog 46 [Ji g] (· = .tup [Li l n E S F,Zb 0])) (hl:l.length=n) (hn:n<=1000):AF prog 14 [Ji g] (fun p=>∃cs,Comps (upTo n) (Oc E) cs/\p=Zaw l 1 cs):=by
 refine AF.b1 23 func14 rfl ntmps14 (Xa rfl) fun w0 M0 v0 _=>?_
 refine Zi ?_
 refine Z4 1 4 fun h1=>?_;refine Zt [(.int .i64 0),(.slice none 0 0)] 2 2 WZ fun h2=>?_;refine ZW ?_
 refine yU (Zm 1 Yu) fun v7=>?_;refine cP 8 (cA call46 hb) fun va8 vb8 hva8 hvb8=>?_;cases hvb8;refine Y8 ?_;refine Zt [(.pointer none)] 1 4 E2 fun h4=>?_;refine JY 4 WY E1 ?_;refine ZW ?_
 (refine W2 ?_)<;>(try (exfalso;omega))<;>(
 refine cX ?_ ?_<;>intro hb12
 . exfalso;omega
 . refine nav ?_;refine Zs (TH (l:=4) (t:=4) (j:=0) rfl Vi rfl) fun _=>?_;dsimp only [Wi,share,List.map,Li];(refine Yx [] [] ?_<;>(refine yD 0 rfl (Zw WY) fun v15 h=>?_;cases h)<;>(refine yD 1 rfl (Zw WY) fun v16 h=>?_;cases h)<;>refine xD 3 rfl SI ?_<;>(refine ZY 2 kR ?_)<;>(refine Ym (d:=17) rfl (cA call49 ((ZdB l _ oM).mono (R':=(· =pInts (upTo n))) fun p hp=>by rw [hp,hl])) fun v17 h=>?_;cases h)<;>(refine aDr 4 fun bk=>?_)<;>(refine LX 19 rfl rfl (Xa rfl) rfl (cA call48 (SY 50 [.sptr 0 [Li l n E S F]] (Oc E) (upTo n) (Tc n) (by rw [JR];omega) call50 (fun x hx y hy=>Zqx l n E S F x y (YR.1 hx) (YR.1 hy)))) ?_;rintro p' ⟨cs,hcs,rfl⟩;refine ⟨rfl,fun h19 ho19=>?_⟩;refine Zz (En.freeze (l:=19) (t:=19) rfl rfl) fun _=>?_;rw [KP _ _ _ rfl])<;>refine bE bk ?_<;>(refine aDr 5 fun bk=>?_)<;>(by_cases hm:cs.length<2<;>first|(refine cP 20 (cA call47 (OL l _ 1 cs hm)) fun va20 vb20 hva20 h=>?_;cases h)|(refine cP 20 (cA call47 (H8 l _ 1 cs oM (by rw [hl];exact (Jv hcs).1) (by have:=(Jv hcs).2.1;omega) (fun c hc=>by have:=(Jv hcs).2.2 c hc;omega))) fun va20 vb20 hva20 h=>?_;cases h))<;>refine bE bk ?_<;>refine gDx 6 ?_<;>refine gEx 7 ?_<;>(refine aDr 8 fun bk=>?_)<;>refine Zn 2 Z6 ?_<;>refine bE bk ?_<;>refine gEx 9 ?_<;>refine Wo ?_)<;>(
 refine ZN (k:=2) 2 results14 ⟨cs,hcs,?_⟩;unfold Zaw
 first
  |(rw [Qd hm];rfl)
  |(rw [Qc hm];rfl)))
def Zcm:ZeroT prog 93 (.slice none 0 0):=by unfold ZeroT;kernel_rfl
def relS (R:Nat->Nat->Bool) (a b:Int):Bool:=R a.toNat b.toNat==R b.toNat a.toNat
def hdI (c:List Int):Int:=c[0]?.getD 0
def cmpSeq (R:Nat->Nat->Bool) (x y:List Int):Int:=if hdI x=hdI y then 0 else if R (hdI x).toNat (hdI y).toNat then-1 else 1
def SZ {R:Nat->Nat->Bool} {x y:List Int}:cmpSeq R x y<0↔hdI x≠hdI y/\R (hdI x).toNat (hdI y).toNat=true:=by
 unfold cmpSeq
 by_cases h:hdI x=hdI y
 . rw [Qd h];simp [h]
 rw [Qc h]
 cases hr:R (hdI x).toNat (hdI y).toNat<;>simp [h]
def T8 {c:List Int} (h:c≠[]):hdI c∈c:=by
 cases c with
 |nil=>exact Qe rfl h
 |cons a t=>exact Xu
def GV {n:Nat} {R:Nat->Nat->Bool} {cs:List (List Int)} (h:Comps (upTo n) (relS R) cs) {c d:List Int} (hc:c∈cs) (hd:d∈cs) (hne:hdI c≠hdI d):R (hdI c).toNat (hdI d).toNat≠R (hdI d).toNat (hdI c).toNat:=fun he=>by
 have hm:=h.clos c hc (hdI c) (T8 (h.ne c hc)) (hdI d) ((h.mem _).1 (XQ.2 ⟨d,hd,T8 (h.ne d hd)⟩)) (.inl (by unfold relS;rw [he];simp))
 have hcd:c=d:=by
  obtain ⟨i,hi⟩:=XM hc;obtain ⟨j,hj⟩:=XM hd;by_cases e:i=j
  . subst e;rw [hi] at hj;cases hj;rfl
  have:=XW.1 (Ug.1 h.nd).2;have hlt:=Zd hi;have hlt':=Zd hj;rcases Nat.lt_or_gt_of_ne e with h1|h1
  . have:=this i j hlt hlt' h1 (hdI d) (by rw [(Xk.1 hi).2];exact hm) (hdI d) (by rw [(Xk.1 hj).2];exact T8 (h.ne d hd));exact Qe rfl this
  have:=this j i hlt' hlt h1 (hdI d) (by rw [(Xk.1 hj).2];exact T8 (h.ne d hd)) (hdI d) (by rw [(Xk.1 hi).2];exact hm);exact Qe rfl this
 exact hne (by rw [hcd])
def Zso {n:Nat} {E R:Nat->Nat->Bool} {cs:List (List Int)} (hR:Closed n E R) (h:Comps (upTo n) (relS R) cs) (a b c:{c//c∈cs}) (h1:cmpSeq R a.1 b.1<0) (h2:cmpSeq R b.1 c.1<0):cmpSeq R a.1 c.1<0:=by
 have hin:=(Jv h).1
 have ba:=hin a.1 a.2 _ (T8 (h.ne _ a.2))
 have bb:=hin b.1 b.2 _ (T8 (h.ne _ b.2))
 have bc:=hin c.1 c.2 _ (T8 (h.ne _ c.2))
 rw [SZ] at h1 h2 ⊢
 have hac:=hR.2 (hdI a.1).toNat (hdI b.1).toNat (hdI c.1).toNat oM oM oM h1.2 h2.2
 refine ⟨fun e=>?_,hac⟩
 have:=GV h a.2 b.2 h1.1
 rw [<-e] at h2
 rw [h1.2,h2.2] at this;exact this rfl
def Zsp {n:Nat} {E R:Nat->Nat->Bool} {cs:List (List Int)} (hR:Closed n E R) (h:Comps (upTo n) (relS R) cs) (a b c:{c//c∈cs}) (h1:¬cmpSeq R a.1 b.1<0) (h2:¬cmpSeq R b.1 c.1<0):¬cmpSeq R a.1 c.1<0:=by
 have hin:=(Jv h).1
 have ba:=hin a.1 a.2 _ (T8 (h.ne _ a.2))
 have bb:=hin b.1 b.2 _ (T8 (h.ne _ b.2))
 have bc:=hin c.1 c.2 _ (T8 (h.ne _ c.2))
 by_cases e1:hdI a.1=hdI b.1
 . unfold cmpSeq at h2 ⊢;rw [e1];exact h2
 by_cases e2:hdI b.1=hdI c.1
 . unfold cmpSeq at h1 ⊢;rw [<-e2];exact h1
 rw [SZ] at h1 h2 ⊢;have r1:R (hdI b.1).toNat (hdI a.1).toNat=true:=by
  have h3:=GV h a.2 b.2 e1;(have h4:R (hdI a.1).toNat (hdI b.1).toNat=false:=by rw [<-U2];exact fun hh=>h1 ⟨e1,hh⟩);rw [h4] at h3
  cases hx:R (hdI b.1).toNat (hdI a.1).toNat with
  |true=>rfl
  |false=>rw [hx] at h3;exact Qe rfl h3
 have r2:R (hdI c.1).toNat (hdI b.1).toNat=true:=by
  have h3:=GV h b.2 c.2 e2;(have h4:R (hdI b.1).toNat (hdI c.1).toNat=false:=by rw [<-U2];exact fun hh=>h2 ⟨e2,hh⟩);rw [h4] at h3
  cases hx:R (hdI c.1).toNat (hdI b.1).toNat with
  |true=>rfl
  |false=>rw [hx] at h3;exact Qe rfl h3
 have r3:=hR.2 (hdI c.1).toNat (hdI b.1).toNat (hdI a.1).toNat oM oM oM r2 r1;rintro ⟨e3,r4⟩;have:=GV h a.2 c.2 e3;rw [r4,r3] at this;exact this rfl
def Zi9 (n:Nat) (R:Nat->Nat->Bool) (x y:Int) (hx:0<=x/\x<n) (hy:0<=y/\y<n):AF prog 52 [Zb x,Zb y, .sptr 0 [EY n R]] (· =Zr (relS R x y)):=by
 obtain ⟨a,rfl⟩:∃a:Nat,x=a:=⟨x.toNat,oM⟩
 obtain ⟨b,rfl⟩:∃b:Nat,y=b:=⟨y.toNat,oM⟩
 have e1:=Z0 (fun i=>Wq n (R i)) (show a<n by omega)
 have e2:=Z0 (fun j=>Zr (R a j)) (show b<n by omega)
 have e3:=Z0 (fun i=>Wq n (R i)) (show b<n by omega)
 have e4:=Z0 (fun j=>Zr (R b j)) (show a<n by omega)
 refine AF.b3 21 func52 rfl ntmps52 (Xa rfl) ?_
 rintro w0 M0 _ _ v2 rfl rfl-
 refine ZF ?_
 refine Yx [] [] ?_<;>(refine yD 0 rfl (Zw Yj) fun v6 h=>?_;cases h)<;>refine gDx 1 ?_<;>refine xD 2 rfl (Ze Z') ?_<;>(refine yD 3 rfl (Zw Zy) fun v9 h=>?_;cases h)<;>refine gDx 4 ?_<;>refine xD 5 rfl (Ze ZI) ?_<;>(refine yD 6 rfl (Zw ZT) fun v12 h=>?_;cases h)<;>(refine yD 7 rfl (Zw Yj) fun v13 h=>?_;cases h)<;>refine gDx 8 ?_<;>refine xD 9 rfl (Ze Z') ?_<;>(refine yD 10 rfl (Zw Zy) fun v16 h=>?_;cases h)<;>refine gEx 11 ?_<;>refine xE 12 rfl (Ze ZI) ?_<;>(refine yE 13 rfl (Zw ZT) fun v19 h=>?_;cases h)<;>refine xE 14 rfl (ZmR underlying4) ?_<;>refine gEx 15 ?_<;>refine Wo ?_
 exact Zg results52 rfl rfl
def Zqy (n:Nat) (R:Nat->Nat->Bool) (x y:List Int) (hx:x≠[]) (hy:y≠[]) (hx2:∀z∈x,0<=z/\z<n) (hy2:∀z∈y,0<=z/\z<n):AFg prog 54 [pInts x,pInts y, .sptr 0 [EY n R]] (· = .val (.int .i64 (cmpSeq R x y))):=by
 have hxl:=X5.2 hx
 have hyl:=X5.2 hy
 have bx:=hx2 _ (T8 hx)
 have bY:=hy2 _ (T8 hy)
 obtain ⟨a,ha⟩:∃a:Nat,hdI x=a:=⟨(hdI x).toNat,oM⟩
 obtain ⟨b,hb⟩:∃b:Nat,hdI y=b:=⟨(hdI y).toNat,oM⟩
 have e0:(x.map Zb)[0*1]? =some (Zb (a:Nat)):=by
  cases x with
  |nil=>exact Qe rfl hx
  |cons z t=>show some (Zb z)=_;rw [show z=a from ha]
 have e0':(y.map Zb)[0*1]? =some (Zb (b:Nat)):=by
  cases y with
  |nil=>exact Qe rfl hy
  |cons z t=>show some (Zb z)=_;rw [show z=b from hb]
 have e1:=Z0 (fun i=>Wq n (R i)) (show a<n by omega)
 have e2:=Z0 (fun j=>Zr (R a j)) (show b<n by omega)
 refine AFg.of_body 24 func54 rfl ntmps54 (Xa rfl) ?_
 intro w0 M0 vs hl hv
 obtain ⟨v0,v1,v2,rfl⟩:=Zs6 hl
 clear hl hv
 dsimp only [pInts]
 refine ZF ?_
 refine Yx [] [] ?_<;>refine gDx 0 ?_<;>refine xD 1 rfl (Ze (i:=0) ZS) ?_<;>(refine yD 2 rfl (Zw Zq) fun v8 h=>?_;cases h)<;>refine gEx 3 ?_<;>refine xE 4 rfl (Ze (i:=0) ZS) ?_<;>(refine yE 5 rfl (Zw Zq) fun v11 h=>?_;cases h)<;>refine gEx 6 ?_<;>refine Wo ?_
 refine cX ?_ ?_<;>intro hb12
 . (
 refine ZF ?_;refine Zg results54 rfl ?_;unfold cmpSeq;rw [ha,hb,Qd hb12])
 refine nav ?_;refine Yx [] [] ?_<;>(refine yD 0 rfl (Zw Yj) fun v13 h=>?_;cases h)<;>refine gDx 1 ?_<;>refine xD 2 rfl (Ze (i:=0) ZS) ?_<;>(refine yD 3 rfl (Zw Zq) fun v16 h=>?_;cases h)<;>refine xD 4 rfl (Ze Z') ?_<;>(refine yD 5 rfl (Zw Zy) fun v18 h=>?_;cases h)<;>refine gEx 6 ?_<;>refine xE 7 rfl (Ze (i:=0) ZS) ?_<;>(refine yE 8 rfl (Zw Zq) fun v21 h=>?_;cases h)<;>refine xE 9 rfl (Ze ZI) ?_<;>(refine yE 10 rfl (Zw ZT) fun v23 h=>?_;cases h)<;>refine Wo ?_;refine cX ?_ ?_<;>intro hb23
 . (
 refine ZF ?_;refine Zg results54 rfl ?_;unfold cmpSeq;rw [ha,hb,Qc hb12,XH,XH,Qd hb23])
 refine ZF ?_;refine Zg results54 rfl ?_;unfold cmpSeq;rw [ha,hb,Qc hb12,XH,XH,Qc (by rw [hb23];simp)]
def Zhs:Zg4 prog 53 54:=fun enc h1 cf hO cb blk cap d w hcmp hH hblk hsz=>Tryz.slices_SortFunc enc h1 cf hO 54 cb blk 0 cap d w call54 hcmp hH hblk hsz
structure SeqCs (n:Nat) (R:Nat->Nat->Bool) (cs:List (List Int)):Prop where
 cl:∃ds,Comps (upTo n) (relS R) ds/\cs.Perm ds
 ord:∀(i j:Nat) (a b:List Int),i<j->cs[i]? =some a->cs[j]? =some b->¬cmpSeq R b a<0
def Zk2 (g:Dfg) (l:List BA) (n:Nat) (E:Nat->Nat->Bool) (S F:Nat->Bool) (hb:AF prog 46 [Ji g] (· = .tup [Li l n E S F,Zb 0])) (hl:l.length=n) (hn:n<=1000) (hn0:0<n):AF prog 15 [Ji g] (fun p=>∃cs,SeqCs n (ZU n E) cs/\p=Zaw l 2 cs):=by
 refine AF.b1 31 func15 rfl ntmps15 (Xa rfl) fun w0 M0 v0 _=>?_
 refine Zi ?_
 refine Z4 1 4 fun h1=>?_;refine Zt [(.int .i64 0),(.slice none 0 0)] 2 2 WZ fun h2=>?_;refine ZW ?_
 refine yU (Zm 1 Yu) fun v9=>?_;refine cP 10 (cA call46 hb) fun va10 vb10 hva10 hvb10=>?_;cases hvb10;refine Ts ?_;refine Wv ?_ ?_<;>intro hb14
 . exfalso;omega
 . refine Zi ?_;refine YU ?_;refine cU (cA call51 (Zft l n E (Wq n S) (Wq n F) hl hn)) fun v18=>?_;refine Zt [(.slice none 0 0)] 1 6 Zcm fun h6=>?_;refine JY 6 Yj Dr ?_;refine ZZ ?_;refine Zs (TH (l:=6) (t:=6) (j:=0) rfl Vi rfl) fun _=>?_;dsimp only [Wi,share,List.map,Li];refine J2 ?_;refine cU (cA call49 ((ZdB l _ oM).mono (R':=(· =pInts (upTo n))) fun p hp=>by rw [hp,hl])) fun v20=>?_;refine xM SI ?_;refine LX 22 rfl rfl (Xa rfl) rfl (cA call48 (SY 52 [.sptr 0 [EY n (ZU n E)]] (relS (ZU n E)) (upTo n) (Tc n) (by rw [JR];omega) call52 (fun x hx y hy=>Zi9 n (ZU n E) x y (YR.1 hx) (YR.1 hy)))) ?_;rintro p' ⟨cs,hcs,rfl⟩;refine ⟨rfl,fun h22 ho22=>?_⟩;refine ZD ?_;have hin:=Jv hcs;have hcp:0<cs.attach.length:=by
    rw [Uh]
    cases cs with
    |nil=>have:=(hcs.mem 0).2 (YR.2 ⟨oM,oM⟩);simp at this
    |cons=>simp
   rw [show cs.map pInts=cs.attach.map (fun c:{c//c∈cs}=>pInts c.1) by rw [List.attach_map_val (f:=pInts)],show cs.length=cs.attach.length from Uh.symm];refine Zp ?_;refine xL 23 Za (xL 24 SI ?_);refine ZiB (β:={c//c∈cs}) (f:=fun c=>pInts c.1) (cmp:=fun a b=>cmpSeq (ZU n E) a.1 b.1) (rows:=cs.attach) 22 Zhs call53 (fun _=>rfl) (fun a=>by unfold cmpSeq;rw [Qd rfl];decide) (Zso (GR n E) hcs) (Zsp (GR n E) hcs) (fun x _ y _=>Zqy n (ZU n E) x.1 y.1 (hcs.ne _ x.2) (hcs.ne _ y.2) (hin.1 _ x.2) (hin.1 _ y.2)) hcp (by rw [Uh];omega) (fun rows' hperm hord=>?_);refine ZZ ?_;obtain ⟨ds,hds⟩:∃ds,ds=rows'.map (·.1):=⟨_,rfl⟩;have hpd:ds.Perm cs:=by rw [hds];have:=hperm.map (·.1);rw [List.attach_map_subtype_val] at this;exact this
   have hsq:SeqCs n (ZU n E) ds:=⟨⟨cs,hcs,hpd⟩,fun i j a b hij ha hb=>by
    rw [hds,Xl,XU] at ha hb;obtain ⟨a',ha',rfl⟩:=ha;obtain ⟨b',hb',rfl⟩:=hb;exact hord i j a' b' hij ha' hb'⟩
   rw [show rows'.map (fun c:{c//c∈cs}=>pInts c.1)=ds.map pInts by rw [hds,XB];rfl,show cs.attach.length=ds.length by rw [Uh];exact hpd.length_eq.symm];refine Zs (En.freeze (l:=22) (t:=7) rfl rfl) fun _=>?_;rw [KP _ _ _ rfl];have hdi:∀c∈ds,∀x∈c,0<=x/\x<l.length:=fun c hc=>by rw [hl];exact hin.1 c (hpd.mem_iff.1 hc)
   have hdl:ds.length<=1000000:=by rw [hpd.length_eq];omega
   have hdc:∀c∈ds,c.length<=1000000:=fun c hc=>by have:=hin.2.2 c (hpd.mem_iff.1 hc);omega
   (refine Zp ?_<;>refine YW ?_<;>(by_cases hm:ds.length<2<;>first|(refine cP 28 (cA call47 (OL l _ 2 ds hm)) fun va28 vb28 hva28 h=>?_;cases h)|(refine cP 28 (cA call47 (H8 l _ 2 ds oM hdi hdl hdc)) fun va28 vb28 hva28 h=>?_;cases h))<;>refine YW ?_<;>refine Zn 2 Z6 ?_<;>refine ZD ?_)<;>(
 refine ZN (k:=2) 2 results15 ⟨ds,hsq,?_⟩;unfold Zaw
 first
  |(rw [Qd hm];rfl)
  |(rw [Qc hm];rfl))
end Go.Proofs.YtmkojdfiadbeeaaGreat
namespace Go.Cb
open Go.En
def ζr:∀{l m:List Int},l.Pairwise (· < ·)->m.Pairwise (· < ·)->(∀x,x∈l↔x∈m)->l=m
 |[],[],_,_,_=>rfl
 |[],b::m,_,_,h=>by have:=(h b).2 sM;simp at this
 |a::l,[],_,_,h=>by have:=(h a).1 sM;simp at this
 | a :: l,b::m,hl,hm,h=>by
   rw [Xy] at hl hm;have hab:a=b:=by
    have h1:=(h a).1 sM;have h2:=(h b).2 sM;rcases Xi.1 h1 with e|e
    . exact e
    rcases Xi.1 h2 with e2|e2
    . exact e2.symm
    have:=hl.1 b e2;have:=hm.1 a e;omega
   subst hab;rw [ζr hl.2 hm.2 fun x=>?_];constructor
   . intro hx;have:=(h x).1 (by simp [hx]);rcases Xi.1 this with e|e
     . subst e;have:=hl.1 _ hx;omega
     exact e
   intro hx;have:=(h x).2 (by simp [hx]);rcases Xi.1 this with e|e
   . subst e;have:=hm.1 _ hx;omega
   exact e
def YI (c:List Int):Int:=c[0]?.getD 0
def JS {c:List Int} (h:c≠[]):YI c∈c:=by
 cases c with
 |nil=>exact Qe rfl h
 |cons a t=>exact Xu
def Rt {c:List Int} (h:c≠[]):c.head? =some (YI c):=by
 cases c with
 |nil=>exact Qe rfl h
 |cons a t=>rfl
def E4:∀{l m:List (List Int)},l.Pairwise (fun c d=>YI c<YI d)->m.Pairwise (fun c d=>YI c<YI d)->(∀c,c∈l↔c∈m)->l=m
 |[],[],_,_,_=>rfl
 |[],b::m,_,_,h=>by have:=(h b).2 sM;simp at this
 |a::l,[],_,_,h=>by have:=(h a).1 sM;simp at this
 | a :: l,b::m,hl,hm,h=>by
   rw [Xy] at hl hm;have hab:a=b:=by
    have h1:=(h a).1 sM;have h2:=(h b).2 sM;rcases Xi.1 h1 with e|e
    . exact e
    rcases Xi.1 h2 with e2|e2
    . exact e2.symm
    have:=hl.1 b e2;have:=hm.1 a e;omega
   subst hab;rw [E4 hl.2 hm.2 fun x=>?_];constructor
   . intro hx;have:=(h x).1 (by simp [hx]);rcases Xi.1 this with e|e
     . subst e;have:=hl.1 _ hx;omega
     exact e
   intro hx;have:=(h x).2 (by simp [hx]);rcases Xi.1 this with e|e
   . subst e;have:=hm.1 _ hx;omega
   exact e
def Comps.heads {l:List Int} {r:Int->Int->Bool} {cs:List (List Int)} (h:Comps l r cs):cs.Pairwise (fun c d=>YI c<YI d):=by
 refine List.Pairwise.imp_of_mem (fun {c d} hc hd hcd=>?_) h.ord
 exact hcd _ _ (Rt (h.ne c hc)) (Rt (h.ne d hd))
def Comps.closed {l:List Int} {r:Int->Int->Bool} {cs:List (List Int)} (h:Comps l r cs) {c:List Int} (hc:c∈cs) {x y:Int} (hx:x∈c) (hxy:Conn l r x y):y∈c:=
 hxy (fun z=>z∈c) (fun a b ha hb hr ha'=>h.clos c hc a ha' b hb hr) hx
def Comps.unique {l:List Int} {r r':Int->Int->Bool} {cs ds:List (List Int)} (h:Comps l r cs) (k:Comps l r' ds) (hr:∀x∈l,∀y∈l,(r x y=true\/r y x=true)↔(r' x y=true\/r' y x=true)):cs=ds:=by
 have hC:∀x y,Conn l r x y↔Conn l r' x y:=fun x y=>
  ⟨fun h P hP=>h P fun a b ha hb hab=>hP a b ha hb ((hr a ha b hb).1 hab),fun h P hP=>h P fun a b ha hb hab=>hP a b ha hb ((hr a ha b hb).2 hab)⟩
 have key:∀{l:List Int} {r r':Int->Int->Bool} {cs ds:List (List Int)},Comps l r cs->Comps l r' ds->(∀x y,Conn l r x y↔Conn l r' x y)->∀c∈cs,c∈ds:=fun {l r r' cs ds} h k hC c hc=>by
  have hm:=JS (h.ne c hc);have hl:=(h.mem _).1 (XQ.2 ⟨c,hc,hm⟩);obtain ⟨d,hd,hmd⟩:=XQ.1 ((k.mem _).2 hl);have:c=d:=ζr (h.asc c hc) (k.asc d hd) fun x=>
   ⟨fun hx=>k.closed hd hmd ((hC _ _).1 (h.conn c hc _ hm x hx)),fun hx=>h.closed hc hm ((hC _ _).2 (k.conn d hd _ hmd x hx))⟩
  rw [this];exact hd
 exact E4 h.heads k.heads fun c=>⟨key h k hC c,key k h (fun x y=>(hC x y).symm) c⟩
end Go.Cb
namespace Go.Proofs.YtmkojdfiadbeeaaGreat
open Go.RowKit Go.Cb Go.En Tryz
def Zn1 {w:World} {B e k n:Nat} {v:Value} {xs:List Value} (h:w.ownsRow B e k v n xs):w.ownsRow 0 e k v n xs:=⟨h.1,h.2.imp id fun ⟨g,cap,cur,h1,_,h3⟩=>⟨g,cap,cur,h1,Xg _,h3⟩⟩
def E5 {w w':World} {M:BS} {v:Value} {e:Ending} {n te:Nat} {xs:List Value} (h1:e= .returned v) (h2:Ext w w') (h3:w'.ownsRow w.heap.size te 1 v n xs):Lc ⟨w,M,fun _=>False,0,False,[]⟩ (· = .own te 1 n (xs.map PV.val)) e w':=by
 refine ⟨v,_,fun b=>v.ownBlock=some b,h1,rfl,h2, .own xs (fun _ _=>False) (Zn1 h3) sM (fun i x p hx hp=>?_) (fun _ _ _ _ _ _ h=>h.elim) (fun _ _ _ h=>h.elim) (fun b=>⟨fun h=> .inl h,fun h=>h.elim id fun ⟨_,_,h⟩=>h.elim⟩),fun b hb=>(h3.lt b hb).1,fun h=>h.elim⟩
 rw [Xl,hx] at hp
 cases hp
 exact .shr (.val _) (fun _ h=>h)
def Zax (l:List Int) (hl:l.length<=1000000):AF prog 59 [pInts l] (· = .own 3 1 l.length (l.map Zb)):=fun M w vs hM hlen hv=>by
 obtain ⟨v,rfl⟩:=ZmF hlen
 have hS:=hv 0 v _ rfl rfl
 unfold pInts at hS
 generalize hn:l.length=n at hS
 generalize hcs:l.map Zb=cs at hS
 cases hS with
 | emp a c hc ha=>
   have:l=[]:=Xv hn;subst this
   cases a with
   |none=>exact (Tryz.slices_Clone_int_nil 0 c w).mono fun e w' ⟨h1,h2⟩=>E5 (n:=0) (xs:=[]) h1 (h2▸Ext.rfl' _) ⟨sM, .inl ⟨rfl,rfl⟩⟩
   |some a=>exact (Tryz.slices_Clone_int_zero a c w).mono fun e w' ⟨v',h1,h2,_,h3⟩=>E5 h1 h3 h2
 | sl b off n c cs vs' hnc hc hcell hT=>
   subst hn hcs;refine (Tryz.slices_Clone_int b off l.length c l w (Xd _) oM (fun j hj=>?_)).mono fun e w' ⟨v',h1,h2,_,h3⟩=>?_
   . obtain ⟨s,hs⟩:=YV hj;have e1:=(hcell j (by rw [Xc];exact hj)).1;have e2:vs' j= .int .i64 s:=(hT j (Zb s) (by rw [Xl,hs];rfl)).vOf;rw [e1,e2,List.getD,hs];rfl
   have:=E5 (M:=M) h1 h3 h2;rw [Xx,XB] at this;exact this
def K9 (c:List Int) (f:Nat->Bool):Bool:=c.any fun x=>f x.toNat
def Ya (S F:Nat->Bool) (c:List Int):Bool:=K9 c S&&K9 c F
def Zn2 (n:Nat) (f:Nat->Bool) (x:Int) (hx:0<=x/\x<n):AF prog 109 [Zb x, .sptr 0 [Wq n f]] (· =Zr (f x.toNat)):=by
 obtain ⟨a,rfl⟩:∃a:Nat,x=a:=⟨x.toNat,oM⟩
 have e1:=Z0 (fun j=>Zr (f j)) (show a<n by omega)
 refine AF.b2 8 func109 rfl ntmps109 (Xa rfl) ?_
 rintro w0 M0 _ v1 rfl-
 refine WK ?_
 refine yU (Zw Zy) fun v4=>?_;refine xL 5 Za (xL 6 (Ze ZI) ?_);refine yV (Zw ZT) ?_;refine ZD ?_
 exact Zg results109 rfl rfl
def Zja (l:List Int) (n:Nat) (f:Nat->Bool) (hl:∀x∈l,0<=x/\x<n):AF prog 57 [pInts l,Wq n f] (· =Zr (K9 l f)):=by
 refine AF.b2 8 func57 rfl ntmps57 (Xa rfl) fun w0 M0 v0 v1 _ _=>?_
 refine Zi ?_
 refine ZmS 3 fun h3=>?_;refine ZD ?_
 refine Zs (TH (l:=3) (t:=3) (j:=0) rfl Vi rfl) fun _=>?_
 try dsimp only [Wi,share]
 refine Zp ?_;refine xL 5 Za (xL 6 SI ?_);refine cV (cA call108 (HO 109 [.sptr 0 [Wq n f]] (fun x=>f x.toNat) l call109 (fun x hx=>Zn2 n f x (hl x hx)))) ?_;refine ZD ?_
 exact Zg results57 rfl rfl
def PU (E:Nat->Nat->Bool) (a b:Int):Bool:=decide (a≠b)&& !(E a.toNat b.toNat&&E b.toNat a.toNat)
def selA (i0:Nat) (W:List Int->Bool) (b:Bool) (cs:List (List Int)):List (List Int):=(cs.zipIdx.filter fun x=>decide (x.2≠i0)&&(W x.1==b)).map (·.1)
def Dz {i0:Nat} {W:List Int->Bool} {b:Bool} {cs:List (List Int)} {k:Nat} {c:List Int} (h:cs[k]? =some c):selA i0 W b (cs.take (k+1))=selA i0 W b (cs.take k)++(if k≠i0/\W c=b then [c] else []):=by
 have hl:(cs.take k).length=k:=by rw [XA];have:=Zd h;omega
 unfold selA
 rw [ZR h,List.zipIdx_append,Vs,XX]
 congr 1
 simp only [Ul,UB,hl,XC,VU,List.filter_nil]
 by_cases h1:k≠i0/\W c=b
 . rw [Qd h1];rw [Qa h1.1,h1.2];simp
 rw [Qc h1];by_cases h2:k≠i0
 . have h3:¬W c=b:=fun hh=>h1 ⟨h2,hh⟩;rw [show (W c==b)=false from beq_eq_false_iff_ne.2 h3];simp
 rw [Qb h2];simp
def H9 {i0:Nat} {W:List Int->Bool} {b:Bool} {cs:List (List Int)} {c:List Int} (h:c∈selA i0 W b cs):c∈cs/\W c=b:=by
 unfold selA at h
 obtain ⟨⟨x,i⟩,hx,rfl⟩:=Xp.1 h
 rw [XF] at hx
 simp only [Xf,U',beq_iff_eq] at hx
 exact ⟨by have:=List.mem_zipIdx hx.1;rw [this.2.2];exact Vm _,hx.2.2⟩
def ZfC (i0:Nat) (W:List Int->Bool) (b:Bool) (cs:List (List Int)):(selA i0 W b cs).length<=cs.length/\(selA i0 W b cs).flatten.length<=cs.flatten.length:=by
 unfold selA
 have key:∀L:List (List Int×Nat),((L.filter fun x=>decide (x.2≠i0)&&(W x.1==b)).map (·.1)).length<=L.length/\((L.filter fun x=>decide (x.2≠i0)&&(W x.1==b)).map (·.1)).flatten.length<=(L.map (·.1)).flatten.length:=fun L=>by
  induction L with
  |nil=>simp
  | cons x L ih=>
    rw [VU];split
    . simp only [Xn,Xh,XS,Xe];omega
    simp only [Xn,Xh,XS,Xe];omega
 have h1:=key cs.zipIdx
 rw [List.length_zipIdx,List.zipIdx_map_fst] at h1
 exact h1
def headsLe (cs:List (List Int)):Prop:=∀(i j:Nat) (a b:List Int),i<j->cs[i]? =some a->cs[j]? =some b->¬YI b-YI a<0
structure AndCs (cs:List (List Int)) (i0:Nat) (c0:List Int) (W:List Int->Bool) (ds:List (List Int)):Prop where
 perm:ds.Perm (selA i0 W true cs++[(c0++(selA i0 W false cs).flatten).mergeSort fun x y=>decide (x<=y)])
 ord:headsLe ds
def Zqz (l:List BA) (n:Nat) (E:Nat->Nat->Bool) (S F:Nat->Bool) (x y:Int) (hx:0<=x/\x<n) (hy:0<=y/\y<n):AF prog 55 [Zb x,Zb y, .sptr 0 [Li l n E S F]] (· =Zr (PU E x y)):=by
 obtain ⟨a,rfl⟩:∃a:Nat,x=a:=⟨x.toNat,oM⟩
 obtain ⟨b,rfl⟩:∃b:Nat,y=b:=⟨y.toNat,oM⟩
 have e1:=Z0 (fun i=>Wq n (E i)) (show a<n by omega)
 have e2:=Z0 (fun j=>Zr (E a j)) (show b<n by omega)
 have e3:=Z0 (fun i=>Wq n (E i)) (show b<n by omega)
 have e4:=Z0 (fun j=>Zr (E b j)) (show a<n by omega)
 refine AF.b3 34 func55 rfl ntmps55 (Xa rfl) ?_
 rintro w0 M0 _ _ v2 rfl rfl-
 dsimp only [Li]
 refine WK ?_
 (refine LB ?_<;>(refine bLd 9 (fun hb9=>?_) (fun hb9=>?_)<;>(first|refine kL ?_|refine yU (Zw WY) fun v10=>?_))<;>(first|refine kL ?_|refine xM Ku ?_)<;>(first|refine kL ?_|refine xM (Yg K5) ?_)<;>(first|refine kL ?_|refine yU (Zw Yj) fun v13=>?_)<;>refine kZ ?_<;>(first|refine kL ?_|refine xM (Ze Z') ?_)<;>(first|refine kL ?_|refine yU (Zw Zy) fun v16=>?_)<;>refine kZ ?_<;>(first|refine kL ?_|refine xM (Ze ZI) ?_)<;>(first|refine kL ?_|refine yV (Zw ZT) ?_)<;>refine kZ ?_<;>(first|refine kL ?_|(refine bL 20 (fun hb20=>?_) (fun hb20=>?_)<;>(first|refine kL ?_|refine yU (Zw WY) fun v21=>?_)))<;>(first|refine kL ?_|refine xM Ku ?_)<;>(first|refine kL ?_|refine xM (Yg K5) ?_)<;>(first|refine kL ?_|refine yU (Zw Yj) fun v24=>?_)<;>refine kZ ?_<;>(first|refine kL ?_|refine xM (Ze Z') ?_)<;>(first|refine kL ?_|refine yU (Zw Zy) fun v27=>?_)<;>refine kZ ?_<;>(first|refine kL ?_|refine xM (Ze ZI) ?_)<;>(first|refine kL ?_|refine yV (Zw ZT) ?_)<;>refine kZ ?_<;>refine KR ?_)<;>(
 refine Zg results55 rfl ?_;show Zr _=Zr _;unfold PU;rw [XH,XH]
 first
  |(rw [Qa hb9,hb20];simp;done)
  |(rw [Qb hb9];rfl))
def Zjb (l:List BA) (n:Nat) (E:Nat->Nat->Bool) (S F:Nat->Bool) (c:List Int) (hc:∀x∈c,0<=x/\x<n):AF prog 56 [pInts c, .sptr 0 [Li l n E S F]] (· =Zr (Ya S F c)):=by
 refine AF.b2 18 func56 rfl ntmps56 (Xa rfl) fun w0 M0 v0 v1 _ _=>?_
 dsimp only [Li]
 refine WK ?_
 (refine YU ?_<;>refine yU (Zw WY) fun v5=>?_<;>refine xL 6 Ku (xL 7 (Yg T1) ?_)<;>refine yU (Zw Zy) fun v8=>?_<;>(refine cV (cA call57 (Zja c n S hc)) ?_)<;>refine YU ?_<;>(refine bL 10 (fun hb10=>?_) (fun hb10=>?_)<;>refine kZ ?_)<;>(first|refine kL ?_|refine yU (Zw WY) fun v12=>?_)<;>(first|refine kL ?_|refine xM Ku ?_)<;>(first|refine kL ?_|refine xM (Yg T2) ?_)<;>(first|refine kL ?_|refine yU (Zw Zy) fun v15=>?_)<;>(first|refine kL ?_|(refine cV (cA call57 (Zja c n F hc)) ?_))<;>refine W2 ?_)<;>(
 refine Zg results56 rfl ?_;show Zr _=Zr _;unfold Ya;rw [hb10];simp)
def ZqA (n:Nat) (x y:List Int) (hn:n<=1000000) (hx:x≠[]) (hy:y≠[]) (hx2:∀z∈x,0<=z/\z<n) (hy2:∀z∈y,0<=z/\z<n):AFg prog 61 [pInts x,pInts y] (· = .val (.int .i64 (YI x-YI y))):=by
 have hxl:=X5.2 hx
 have hyl:=X5.2 hy
 have bx:=hx2 _ (JS hx)
 have bY:=hy2 _ (JS hy)
 have e0:(x.map Zb)[0*1]? =some (Zb (YI x)):=by
  cases x with
  |nil=>exact Qe rfl hx
  |cons z t=>rfl
 have e0':(y.map Zb)[0*1]? =some (Zb (YI y)):=by
  cases y with
  |nil=>exact Qe rfl hy
  |cons z t=>rfl
 refine AFg.of_body 12 func61 rfl ntmps61 (Xa rfl) ?_
 intro w0 M0 vs hl hv
 obtain ⟨v0,v1,rfl⟩:=ζH hl
 clear hl hv
 dsimp only [pInts]
 refine ZF ?_
 refine Yx [] [] ?_<;>refine gDx 0 ?_<;>refine xD 1 rfl (Ze (i:=0) ZS) ?_<;>(refine yD 2 rfl (Zw Zq) fun v7 h=>?_;cases h)<;>refine gEx 3 ?_<;>refine xE 4 rfl (Ze (i:=0) ZS) ?_<;>(refine yE 5 rfl (Zw Zq) fun v10 h=>?_;cases h)<;>refine gEx 6 ?_<;>refine gEx 7 ?_<;>refine Wo ?_
 exact Zg results61 rfl rfl
def Zk3:Zg4 prog 53 61:=fun enc h1 cf hO cb blk cap d w hcmp hH hblk hsz=>Tryz.slices_SortFunc enc h1 cf hO 61 cb blk 0 cap d w call61 hcmp hH hblk hsz
def ZtD (l:List BA) (n:Nat) (E:Nat->Nat->Bool) (S F:Nat->Bool) (p:PV):Prop:=∃cs,Comps (upTo n) (PU E) cs/\((idx (Ya S F) cs<0/\p= .tup [.agg [Zb 0, .val (.slice none 0 0)],Zb 10])\/∃i0 c0 ds,cs[i0]? =some c0/\idx (Ya S F) cs=(i0:Nat)/\AndCs cs i0 c0 (Ya S F) ds/\p=Zaw l 3 ds)
def Zk4 (g : Dfg) (l:List BA) (n:Nat) (E:Nat->Nat->Bool) (S F:Nat->Bool) (hb:AF prog 46 [Ji g] (· = .tup [Li l n E S F,Zb 0])) (hl:l.length=n) (hn:n<=1000):AF prog 16 [Ji g] (ZtD l n E S F):=by
 refine AF.b1 74 func16 rfl ntmps16 (Xa rfl) fun w0 M0 v0 _=>?_
 refine Zi ?_
 refine Z4 1 4 fun h1=>?_;refine Zt [(.int .i64 0),(.slice none 0 0)] 2 2 WZ fun h2=>?_;refine ZW ?_
 refine yU (Zm 1 Yu) fun v14=>?_;refine cP 15 (cA call46 hb) fun va15 vb15 hva15 hvb15=>?_;cases hvb15;refine Y8 ?_;refine Zt [(.pointer none)] 1 4 E2 fun h4=>?_;refine JY 4 WY E1 ?_;refine ZW ?_
 (refine W2 ?_) <;> (try (exfalso;omega))<;>(
 refine cX ?_ ?_<;>intro hb19
 . exfalso;omega
 . refine nav ?_;refine Zs (TH (l:=4) (t:=4) (j:=0) rfl Vi rfl) fun _=>?_;dsimp only [Wi,share,List.map,Li];refine Zp ?_;refine yU (Zw WY) fun v22=>?_;refine cU (cA call49 ((ZdB l _ oM).mono (R':=(· =pInts (upTo n))) fun p hp=>by rw [hp,hl])) fun v23=>?_;refine xM SI ?_;refine LX 25 rfl rfl (Xa rfl) rfl (cA call48 (SY 55 [.sptr 0 [Li l n E S F]] (PU E) (upTo n) (Tc n) (by rw [JR];omega) call55 (fun x hx y hy=>Zqz l n E S F x y (YR.1 hx) (YR.1 hy)))) ?_;rintro p' ⟨cs,hcs,rfl⟩;refine ⟨rfl,fun h25 ho25=>?_⟩;refine Zz (En.freeze (l:=25) (t:=25) rfl rfl) fun _=>?_;rw [KP _ _ _ rfl];refine ZW ?_;refine xL 26 SI (xL 7 Wj ?_);refine ZZ ?_;have hin:=Jv hcs;refine Zp ?_;refine YW ?_;refine cV (cA call58 (ζb 56 [.sptr 0 [Li l n E S F]] (Ya S F) cs call56 (fun c hc=>Zjb l n E S F c (hin.1 c hc)))) ?_;refine ZW ?_;refine Wv ?_ ?_<;>intro hb31
   . (
 refine Zi ?_;refine xM (ZA TB) ?_;refine Zn 2 Z6 ?_;refine ZD ?_;exact ZN (k:=2) 2 results16 ⟨cs,hcs, .inl ⟨hb31,rfl⟩⟩)
   . (
 obtain ⟨i0,hi0⟩:∃i0:Nat,idx (Ya S F) cs=i0:=⟨(idx (Ya S F) cs).toNat,oM⟩;have hib:=(ZgL (Ya S F) cs).2;rw [hi0];obtain ⟨c0,hc0⟩:=gS cs i0;have e0:=Yf (f:=pInts) hc0;have hc0m:=Xb hc0;have hc0l:=hin.2.2 c0 hc0m;refine WK ?_;refine xL 33 Za (xL 34 Za (xL 35 (Ze ZO) ?_));refine yU (Zw Yz) fun v36=>?_;refine cO 37 (cA call59 (Zax c0 oM)) fun v37 ho37=>?_;refine ZW ?_;refine xL 38 Za (xL 39 (Zu ZO) (xL 40 Za ?_));refine ZZ ?_;refine Zs (YO 200 90 1 rfl) fun _=>?_;refine Zs (ZK (l:=37) 201 rfl rfl) fun _=>?_;refine Yl (ι:={x:Nat×Value×Value×List (List Int)×List Int//x.1<=cs.length/\x.2.2.1.oneCell'=true/\x.2.2.2.1=selA i0 (Ya S F) true (cs.take x.1)/\x.2.2.2.2=c0++(selA i0 (Ya S F) false (cs.take x.1)).flatten}) (fun k=>⟨[(2,_,_),(4,_,_),(7,_,_),(8,_,_),(38,_,_),(39,_,_),(9,k.1.2.1, .val k.1.2.1),(10,k.1.2.2.1, .val k.1.2.2.1),(40, .int .i64 k.1.1,Zb k.1.1)],[(2,_,_),(200,k.1.2.1, .own 90 1 k.1.2.2.2.1.length (k.1.2.2.2.1.map pInts)),(201,k.1.2.2.1, .own 3 1 k.1.2.2.2.2.length (k.1.2.2.2.2.map Zb))]⟩) (fun k=>cs.length-k.1.1) ⟨(0, .slice none 0 0,v37,[],c0),Xg _,ho37,rfl,(Xo c0).symm⟩ ?_;rintro ⟨⟨k,ha,hbv,A,B⟩,hk,hob,hA,hB⟩;dsimp only;dsimp only at hk hob hA hB;have hAl:A.length<=1000:=by
  have:=(ZfC i0 (Ya S F) true (cs.take k)).1;rw [hA];rw [XA] at this;omega
 have hBl:B.length<=2000:=by
  have h1:=(ZfC i0 (Ya S F) false (cs.take k)).2;have h2:(cs.take k).flatten.length<=cs.flatten.length:=by
   (have:cs.flatten=(cs.take k).flatten++(cs.drop k).flatten:=by rw [<-XZ,Vw]);rw [this,Xe];omega
  have h3:=JP hcs.nd (fun x hx=>(hcs.mem x).1 hx);rw [JR] at h3;rw [hB,Xe];omega
 have hAm:(A.map pInts).length=A.length:=Xc _;have hBm:(B.map Zb).length=B.length:=Xc _;refine Ys ?_ ?_<;>intro hb41
 . (
 obtain ⟨cl,hx⟩:=gS cs k;have e1:=Yf (f:=pInts) hx;have hcm:=Xb hx;have hcll:=hin.2.2 cl hcm;have s1:=Dz (i0:=i0) (W:=Ya S F) (b:=true) hx;have s2:=Dz (i0:=i0) (W:=Ya S F) (b:=false) hx;(have e2:(cl.map Zb).length=cl.length*1:=by rw [Xc,XJ]);(have e3:(cl.map Zb).all En.one=true:=by rw [VK,Xj];intro x _;rfl);refine Zi ?_;refine xL 42 Za (xL 43 (Ze ZO) ?_);refine yU (Zw Yz) fun v44=>?_;refine JF ?_;refine LB ?_;refine ZC ?_ ?_<;>intro hb48
 . (
 refine ZP ?_;try refine ZJ (ZK (l:=59) 200 rfl rfl) fun _=>?_
 try refine ZJ (ZK (l:=47) 201 rfl rfl) fun _=>?_
 try rw [show A.map pInts++[pInts cl]=(A++[cl]).map pInts by simp,show A.length+1=(A++[cl]).length by simp]
 try rw [show B.map Zb++cl.map Zb=(B++cl).map Zb by simp,show B.length+cl.length=(B++cl).length by simp]
 first
  | (exact Zh (
      ⟨(k+1,h59,hbv,A++[cl],B),by show k+1<=cs.length;omega,hob,by show A++[cl]=_;rw [s1,Qd ⟨oM,hb52⟩,hA],by show B=_;rw [s2,Qc (fun h=>by rw [hb52] at h;exact Bool.noConfusion h.2),Xo,hB]⟩
      ) (by show cs.length-(k+1)<cs.length-k;omega) sB sB)
  | (exact Zh (
      ⟨(k+1,ha,h47,A,B++cl),by show k+1<=cs.length;omega,ho47,by show A=_;rw [s1,Qc (fun h=>by rw [hb52] at h;exact Bool.noConfusion h.2),Xo,hA],by show B++cl=_;rw [s2,Qd ⟨oM,hb52⟩,hB];simp⟩
      ) (by show cs.length-(k+1)<cs.length-k;omega) sB sB)
  | (exact Zh (
      ⟨(k+1,ha,hbv,A,B),by show k+1<=cs.length;omega,hob,by show A=_;rw [s1,Qc (fun h=>oM),Xo,hA],by show B=_;rw [s2,Qc (fun h=>oM),Xo,hB]⟩
      ) (by show cs.length-(k+1)<cs.length-k;omega) sB sB))
 refine Kt ?_;refine cV (LW (f:=56) (ps:=[.sptr 0 [Li l n E S F]]) rfl ⟨_,rfl⟩ call56 rfl (Zjb l n E S F cl (hin.1 cl hcm))) ?_;refine Wg ?_ ?_<;>intro hb52
 . (
 refine Kt ?_;refine WE (kk:=1) 58 Yv fun h58 ho58=>?_;refine Y7 200 58 59 Yv fun h59 ho59=>?_;refine J1 ?_;try refine ZJ (ZK (l:=59) 200 rfl rfl) fun _=>?_
 try refine ZJ (ZK (l:=47) 201 rfl rfl) fun _=>?_
 try rw [show A.map pInts++[pInts cl]=(A++[cl]).map pInts by simp,show A.length+1=(A++[cl]).length by simp]
 try rw [show B.map Zb++cl.map Zb=(B++cl).map Zb by simp,show B.length+cl.length=(B++cl).length by simp]
 first
  | (exact Zh (
      ⟨(k+1,h59,hbv,A++[cl],B),by show k+1<=cs.length;omega,hob,by show A++[cl]=_;rw [s1,Qd ⟨oM,hb52⟩,hA],by show B=_;rw [s2,Qc (fun h=>by rw [hb52] at h;exact Bool.noConfusion h.2),Xo,hB]⟩
      ) (by show cs.length-(k+1)<cs.length-k;omega) sB sB)
  | (exact Zh (
      ⟨(k+1,ha,h47,A,B++cl),by show k+1<=cs.length;omega,ho47,by show A=_;rw [s1,Qc (fun h=>by rw [hb52] at h;exact Bool.noConfusion h.2),Xo,hA],by show B++cl=_;rw [s2,Qd ⟨oM,hb52⟩,hB];simp⟩
      ) (by show cs.length-(k+1)<cs.length-k;omega) sB sB)
  | (exact Zh (
      ⟨(k+1,ha,hbv,A,B),by show k+1<=cs.length;omega,hob,by show A=_;rw [s1,Qc (fun h=>oM),Xo,hA],by show B=_;rw [s2,Qc (fun h=>oM),Xo,hB]⟩
      ) (by show cs.length-(k+1)<cs.length-k;omega) sB sB))
 refine Kt ?_;refine Ka 201 47 YY fun h47 ho47=>?_;refine J1 ?_;try refine ZJ (ZK (l:=59) 200 rfl rfl) fun _=>?_
 try refine ZJ (ZK (l:=47) 201 rfl rfl) fun _=>?_
 try rw [show A.map pInts++[pInts cl]=(A++[cl]).map pInts by simp,show A.length+1=(A++[cl]).length by simp]
 try rw [show B.map Zb++cl.map Zb=(B++cl).map Zb by simp,show B.length+cl.length=(B++cl).length by simp]
 first
  | (exact Zh (
      ⟨(k+1,h59,hbv,A++[cl],B),by show k+1<=cs.length;omega,hob,by show A++[cl]=_;rw [s1,Qd ⟨oM,hb52⟩,hA],by show B=_;rw [s2,Qc (fun h=>by rw [hb52] at h;exact Bool.noConfusion h.2),Xo,hB]⟩
      ) (by show cs.length-(k+1)<cs.length-k;omega) sB sB)
  | (exact Zh (
      ⟨(k+1,ha,h47,A,B++cl),by show k+1<=cs.length;omega,ho47,by show A=_;rw [s1,Qc (fun h=>by rw [hb52] at h;exact Bool.noConfusion h.2),Xo,hA],by show B++cl=_;rw [s2,Qd ⟨oM,hb52⟩,hB];simp⟩
      ) (by show cs.length-(k+1)<cs.length-k;omega) sB sB)
  | (exact Zh (
      ⟨(k+1,ha,hbv,A,B),by show k+1<=cs.length;omega,hob,by show A=_;rw [s1,Qc (fun h=>oM),Xo,hA],by show B=_;rw [s2,Qc (fun h=>oM),Xo,hB]⟩
      ) (by show cs.length-(k+1)<cs.length-k;omega) sB sB))
 refine nav ?_;have hkl:k=cs.length:=oM;(have hAe:A=selA i0 (Ya S F) true cs:=by rw [hA,hkl,Xx]);(have hBe:B=c0++(selA i0 (Ya S F) false cs).flatten:=by rw [hB,hkl,Xx]);have hBp:0<B.length:=by
  have:=X5.2 (hcs.ne c0 hc0m);rw [hBe,Xe];omega
 obtain ⟨Bs,hBs⟩:∃Bs,Bs=B.mergeSort fun x y=>decide (x<=y):=⟨_,rfl⟩;(have hBsl:Bs.length=B.length:=by rw [hBs,V3]);have hBi:∀x∈Bs,0<=x/\x<n:=fun x hx=>by
  rw [hBs,Jd,hBe,XD] at hx;rcases hx with h|h
  . exact hin.1 c0 hc0m x h
  obtain ⟨d,hd,hxd⟩:=XQ.1 h;exact hin.1 d (H9 hd).1 x hxd
 obtain ⟨rs,hrs⟩:∃rs,rs=A++[Bs]:=⟨_,rfl⟩;have hrm:∀c∈rs,c≠[]/\(∀x∈c,0<=x/\x<n)/\c.length<=2000:=fun c hc=>by
  rw [hrs,XD,XE] at hc;rcases hc with h|rfl
  . rw [hAe] at h;have:=(H9 h).1;exact ⟨hcs.ne c this,hin.1 c this,by have:=hin.2.2 c this;omega⟩
  exact ⟨X5.1 oM,hBi,oM⟩
 (have hrl:rs.length<=2000:=by rw [hrs,Xe,Xz];omega);(have hrp:0<rs.attach.length:=by rw [Uh,hrs,Xe,Xz];omega);refine J2 ?_;refine Zdj 201 E3 call60 ?_ hBp;rw [<-hBs];refine D6 ?_;refine WE (kk:=1) 65 Yv fun h65 ho65=>?_;refine Y7 200 65 66 Yv fun h66 ho66=>?_;refine ZD ?_;refine Zs (YD (l:=66) (l':=201) (j:=A.length) rfl (GF (Xc _).symm) rfl rfl) fun _=>?_;rw [JQ (Xc _).symm,Kb _ _ _ hBsl.symm];rw [show A.map pInts++[pInts Bs]=rs.attach.map (fun c:{c//c∈rs}=>pInts c.1) by rw [List.attach_map_val (f:=pInts),hrs];simp,show A.length+1=rs.attach.length by rw [Uh,hrs];simp];refine J2 ?_;refine ZiB (β:={c//c∈rs}) (f:=fun c=>pInts c.1) (cmp:=fun a b=>YI a.1-YI b.1) (rows:=rs.attach) 66 Zk3 call53 (fun _=>rfl) (fun a=>oM) (fun a b c h1 h2=>oM) (fun a b c h1 h2=>oM) (fun x _ y _=>ZqA n x.1 y.1 oM (hrm _ x.2).1 (hrm _ y.2).1 (hrm _ x.2).2.1 (hrm _ y.2).2.1) hrp (by rw [Uh];omega) (fun rows' hperm hord=>?_);refine ZZ ?_;obtain ⟨ds,hds⟩:∃ds,ds=rows'.map (·.1):=⟨_,rfl⟩;(have hpd:ds.Perm rs:=by rw [hds];have:=hperm.map (·.1);rw [List.attach_map_subtype_val] at this;exact this);have hsq:AndCs cs i0 c0 (Ya S F) ds:=⟨by rw [<-hAe,<-hBe,<-hBs,<-hrs];exact hpd,fun i j a b hij ha hb=>by
  rw [hds,Xl,XU] at ha hb;obtain ⟨a',ha',rfl⟩:=ha;obtain ⟨b',hb',rfl⟩:=hb;exact hord i j a' b' hij ha' hb'⟩
 rw [show rows'.map (fun c:{c//c∈rs}=>pInts c.1)=ds.map pInts by rw [hds,XB];rfl,show rs.attach.length=ds.length by rw [Uh];exact hpd.length_eq.symm];refine Zs (En.freeze (l:=66) (t:=9) rfl rfl) fun _=>?_;rw [KP _ _ _ rfl];(have hdi:∀c∈ds,∀x∈c,0<=x/\x<l.length:=fun c hc=>by rw [hl];exact (hrm c (hpd.mem_iff.1 hc)).2.1);(have hdl:ds.length<=1000000:=by rw [hpd.length_eq];omega);(have hdc:∀c∈ds,c.length<=1000000:=fun c hc=>by have:=(hrm c (hpd.mem_iff.1 hc)).2.2;omega);(refine Zp ?_<;>refine yU (Zw WY) fun v69=>?_<;>refine YU ?_<;>(by_cases hm:ds.length<2<;>first|(refine cP 71 (cA call47 (OL l _ 3 ds hm)) fun va71 vb71 hva71 h=>?_;cases h)|(refine cP 71 (cA call47 (H8 l _ 3 ds oM hdi hdl hdc)) fun va71 vb71 hva71 h=>?_;cases h))<;>refine YW ?_<;>refine Zn 2 Z6 ?_<;>refine ZD ?_)<;>(
 refine ZN (k:=2) 2 results16 ⟨cs,hcs, .inr ⟨i0,c0,ds,hc0,hi0,hsq,?_⟩⟩;unfold Zaw
 first
  |(rw [Qd hm];rfl)
  |(rw [Qc hm];rfl))))
def Zay (S F:Nat->Bool) (x:Int):Bool:=S x.toNat||F x.toNat
def inL (n:Nat) (S F:Nat->Bool):List Int:=(upTo n).filter (Zay S F)
def Rf (n:Nat) (S F:Nat->Bool):List Int:=(upTo n).filter fun x=> !Zay S F x
def Zcn (k:Nat):upTo (k+1)=upTo k++[(k:Int)]:=by
 unfold upTo vec;rw [VS,XX];rfl
def ZfD (k:Nat) (S F:Nat->Bool):inL (k+1) S F=inL k S F++(if S k=true\/F k=true then [(k:Int)] else []):=by
 unfold inL
 rw [Zcn,Vs]
 congr 1
 by_cases h:S k=true\/F k=true
 . rw [Qd h,V4]; · rfl
   unfold Zay;rw [XH];rcases h with h|h<;>simp [h]
 rw [Qc h,VW]; · rfl
 unfold Zay;rw [XH];simpa using h
def Zk5 (k:Nat) (S F:Nat->Bool):Rf (k+1) S F=Rf k S F++(if S k=true\/F k=true then [] else [(k:Int)]):=by
 unfold Rf
 rw [Zcn,Vs]
 congr 1
 by_cases h:S k=true\/F k=true
 . rw [Qd h,VW]; · rfl
   unfold Zay;rw [XH];rcases h with h|h<;>simp [h]
 rw [Qc h,V4]; · rfl
 unfold Zay;rw [XH];have h1:S k=false:=by simpa using fun hh=>h (.inl hh)
 have h2:F k=false:=by simpa using fun hh=>h (.inr hh)
 rw [h1,h2];rfl
def E6 {n:Nat} {S F:Nat->Bool}:(inL n S F).length<=n/\∀x∈inL n S F,0<=x/\x<n:=⟨by have:=Vl (Zay S F) (upTo n);rw [JR] at this;exact this,fun x hx=>YR.1 (XF.1 hx).1⟩
def PW {n:Nat} {S F:Nat->Bool}:(Rf n S F).length<=n/\∀x∈Rf n S F,0<=x/\x<n:=⟨by have:=Vl (fun x=> !Zay S F x) (upTo n);rw [JR] at this;exact this,fun x hx=>YR.1 (XF.1 hx).1⟩
def Zn3 (n:Nat) (S F:Nat->Bool):(Rf n S F).Pairwise (· < ·):=(Tc n).filter _
def Gq (n:Nat) (E:Nat->Nat->Bool) (S F:Nat->Bool) (c:List Int):Bool:=c.all fun x=>(inL n S F).all fun y=>Y9 n E S F y.toNat x.toNat
def Ea {α:Type} {p:α->Bool} {l:List α} {k:Nat} {x:α} (h:l[k]? =some x):(l.take (k+1)).all p=((l.take k).all p&&p x):=by
 rw [ZR h,List.all_append];simp
def GW {α:Type} {p:α->Bool} {l:List α} {k:Nat} {x:α} (h:l[k]? =some x):(l.take (k+1)).filter p=(l.take k).filter p++(if p x=true then [x] else []):=by
 rw [ZR h,Vs]
 by_cases hp:p x=true
 . rw [Qd hp,V4 hp];rfl
 rw [Qc hp,VW hp];rfl
def GG (n:Nat) (E:Nat->Nat->Bool) (S F:Nat->Bool) (cs:List (List Int)):List (List Int):=
 ((inL n S F++(cs.filter fun c=> !Gq n E S F c).flatten).mergeSort fun x y=>decide (x<=y))::cs.filter (Gq n E S F)
def Zth (l:List BA) (n:Nat) (E:Nat->Nat->Bool) (S F:Nat->Bool) (p:PV):Prop:=(inL n S F=[]/\p= .tup [.agg [Zb 0, .val (.slice none 0 0)],Zb 10])\/∃cs,inL n S F≠[]/\Comps (Rf n S F) (Oc E) cs/\p=Zaw l 4 (GG n E S F cs)
def Zco (p:List Int->Bool) (cs:List (List Int)):(cs.filter p).flatten.length<=cs.flatten.length:=by
 induction cs with
 |nil=>simp
 | cons c cs ih=>
   rw [VU];split<;>simp only [XS,Xe]<;>omega
def Pj {l:List Int} {r:Int->Int->Bool} {cs:List (List Int)} (h:Comps l r cs):(∀c∈cs,∀x∈c,x∈l)/\cs.length<=l.length/\(∀c∈cs,c.length<=l.length)/\cs.flatten.length<=l.length:=by
 have h3:=JP h.nd (fun x hx=>(h.mem x).1 hx)
 refine ⟨fun c hc x hx=>(h.mem x).1 (XQ.2 ⟨c,hc,hx⟩),?_,fun c hc=>?_,h3⟩
 . refine XI ?_ h3;have:∀m:List (List Int),(∀c∈m,c≠[])->m.length<=m.flatten.length:=fun m=>by
    induction m with
    |nil=>intro _;simp
    | cons c m ih=>
      intro h;have h1:=ih fun d hd=>h d (by simp [hd]);have h2:=X5.2 (h c sM);rw [XS,Xe,Xh];omega
   exact this cs h.ne
 refine XI ?_ h3;obtain ⟨a,b,rfl⟩:=List.append_of_mem hc;simp only [XZ,XS,Xe];omega
def Zn4 (l:List BA) (n:Nat) (E:Nat->Nat->Bool) (S F:Nat->Bool) (x y:Int) (hx:0<=x/\x<n) (hy:0<=y/\y<n):AF prog 62 [Zb x,Zb y, .sptr 0 [Li l n E S F]] (· =Zr (Oc E x y)):=by
 obtain ⟨a,rfl⟩:∃a:Nat,x=a:=⟨x.toNat,oM⟩
 obtain ⟨b,rfl⟩:∃b:Nat,y=b:=⟨y.toNat,oM⟩
 have e1:=Z0 (fun i=>Wq n (E i)) (show a<n by omega)
 have e2:=Z0 (fun j=>Zr (E a j)) (show b<n by omega)
 refine AF.b3 16 func62 rfl ntmps62 (Xa rfl) ?_
 rintro w0 M0 _ _ v2 rfl rfl-
 dsimp only [Li]
 refine WK ?_
 refine yU (Zw WY) fun v6=>?_;refine xL 7 Ku (xL 8 (Yg K5) ?_);refine yU (Zw Yj) fun v9=>?_;refine xL 10 Za (xL 11 (Ze Z') ?_);refine yU (Zw Zy) fun v12=>?_;refine xL 13 Za (xL 14 (Ze ZI) ?_);refine yV (Zw ZT) ?_;refine ZD ?_
 exact Zg results62 rfl rfl
def Zht (g : Dfg) (l :List BA) (n:Nat) (E:Nat->Nat->Bool) (S F:Nat->Bool) (hb:AF prog 46 [Ji g] (· = .tup [Li l n E S F,Zb 0])) (hl:l.length=n) (hn:n<=1000):AF prog 17 [Ji g] (Zth l n E S F):=by
 refine AF.b1 114 func17 rfl ntmps17 (Xa rfl) fun w0 M0 v0 _=>?_
 refine Zi ?_
 refine Z4 1 4 fun h1=>?_;refine Zt [(.int .i64 0),(.slice none 0 0)] 2 2 WZ fun h2=>?_;refine ZW ?_
 refine yU (Zm 1 Yu) fun v19=>?_;refine cP 20 (cA call46 hb) fun va20 vb20 hva20 hvb20=>?_;cases hvb20;refine Y8 ?_;refine Zt [(.pointer none)] 1 4 E2 fun h4=>?_;refine JY 4 WY E1 ?_;refine ZW ?_
 (refine W2 ?_) <;> (try (exfalso;omega))<;>(
 refine cX ?_ ?_<;>intro hb24
 . exfalso;omega
 . refine nav ?_;refine Zs (TH (l:=4) (t:=4) (j:=0) rfl Vi rfl) fun _=>?_;dsimp only [Wi,share,List.map,Li];refine Zp ?_;refine JF ?_;refine yU (Zw WY) fun v27=>?_;refine xL 28 Ku (xL 29 (Yg Js) ?_);refine yU (Zw ZG) fun v30=>?_;refine xL 31 (Zu Zo) (xL 32 Za ?_);refine ZZ ?_;refine Zs (YO 200 3 1 rfl) fun _=>?_;refine Zs (YO 201 3 1 rfl) fun _=>?_;refine Yl (ι:={x:Nat×Value×Value×List Int×List Int//x.1<=n/\x.2.1.oneCell'=true/\x.2.2.1.oneCell'=true/\x.2.2.2.1=inL x.1 S F/\x.2.2.2.2=Rf x.1 S F}) (fun k=>⟨[(2,_,_),(4,_,_),(31,_,_),(6,k.1.2.1, .val k.1.2.1),(7,k.1.2.2.1, .val k.1.2.2.1),(32, .int .i64 k.1.1,Zb k.1.1)],[(2,_,_),(200,k.1.2.1, .own 3 1 k.1.2.2.2.1.length (k.1.2.2.2.1.map Zb)),(201,k.1.2.2.1, .own 3 1 k.1.2.2.2.2.length (k.1.2.2.2.2.map Zb))]⟩) (fun k=>n-k.1.1) ⟨(0, .slice none 0 0, .slice none 0 0,[],[]),Xg _,rfl,rfl,rfl,rfl⟩ ?_;rintro ⟨⟨k,ha,hbv,A,B⟩,hk,hoa,hob,hA,hB⟩;dsimp only;dsimp only at hk hoa hob hA hB;(have hAl:A.length<=1000:=by have:=(E6 (n:=k) (S:=S) (F:=F)).1;rw [hA];omega);(have hBl:B.length<=1000:=by have:=(PW (n:=k) (S:=S) (F:=F)).1;rw [hB];omega);have hAm:(A.map Zb).length=A.length:=Xc _;have hBm:(B.map Zb).length=B.length:=Xc _;refine Ys ?_ ?_<;>intro hb33
   . (
 have hkn:k<n:=oM;have eS:=Z0 (fun j=>Zr (S j)) hkn;have eF:=Z0 (fun j=>Zr (F j)) hkn;have s1:=ZfD k S F;have s2:=Zk5 k S F;refine Jh ?_;(refine yU (Zw WY) fun v35=>?_<;>refine xL 36 Ku (xL 37 (Yg T1) ?_)<;>refine yU (Zw Zy) fun v38=>?_<;>refine xL 39 Za (xL 40 (Ze ZI) ?_)<;>refine yV (Zw ZT) ?_<;>refine YU ?_<;>(refine bL 42 (fun hb42=>?_) (fun hb42=>?_)<;>(first|refine kL ?_|refine yU (Zw WY) fun v43=>?_))<;>(first|refine kL ?_|refine xM Ku ?_)<;>(first|refine kL ?_|refine xM (Yg T2) ?_)<;>(first|refine kL ?_|refine yU (Zw Zy) fun v46=>?_)<;>refine kZ ?_<;>(first|refine kL ?_|refine xM (Ze ZI) ?_)<;>(first|refine kL ?_|refine yV (Zw ZT) ?_)<;>refine ZD ?_)<;>(
 refine cX ?_ ?_<;>intro hb50
 . (
 refine Kt ?_;refine WE (kk:=1) 53 YY fun h53 ho53=>?_;refine Y7 200 53 54 YY fun h54 ho54=>?_;refine J1 ?_;try refine ZJ (ZK (l:=54) 200 rfl rfl) fun _=>?_
 try refine ZJ (ZK (l:=58) 201 rfl rfl) fun _=>?_
 try rw [show A.map Zb++[Zb k]=(A++[(k:Int)]).map Zb by simp,show A.length+1=(A++[(k:Int)]).length by simp]
 try rw [show B.map Zb++[Zb k]=(B++[(k:Int)]).map Zb by simp,show B.length+1=(B++[(k:Int)]).length by simp]
 first
  | (exact Zh (
      ⟨(k+1,h54,hbv,A++[(k:Int)],B),by show k+1<=n;omega,ho54,hob,by show A++[(k:Int)]=_;rw [s1,Qd (by simp [*]),hA],by show B=_;rw [s2,Qd (by simp [*]),Xo,hB]⟩
      ) (by show n-(k+1)<n-k;omega) sB sB)
  | (exact Zh (
      ⟨(k+1,ha,h58,A,B++[(k:Int)]),by show k+1<=n;omega,hoa,ho58,by show A=_;rw [s1,Qc (by simp [*]),Xo,hA],by show B++[(k:Int)]=_;rw [s2,Qc (by simp [*]),hB]⟩
      ) (by show n-(k+1)<n-k;omega) sB sB))
 . first |exact bN hb50|(
 refine Kt ?_;refine WE (kk:=1) 57 YY fun h57 ho57=>?_;refine Y7 201 57 58 YY fun h58 ho58=>?_;refine J1 ?_;try refine ZJ (ZK (l:=54) 200 rfl rfl) fun _=>?_
 try refine ZJ (ZK (l:=58) 201 rfl rfl) fun _=>?_
 try rw [show A.map Zb++[Zb k]=(A++[(k:Int)]).map Zb by simp,show A.length+1=(A++[(k:Int)]).length by simp]
 try rw [show B.map Zb++[Zb k]=(B++[(k:Int)]).map Zb by simp,show B.length+1=(B++[(k:Int)]).length by simp]
 first
  | (exact Zh (
      ⟨(k+1,h54,hbv,A++[(k:Int)],B),by show k+1<=n;omega,ho54,hob,by show A++[(k:Int)]=_;rw [s1,Qd (by simp [*]),hA],by show B=_;rw [s2,Qd (by simp [*]),Xo,hB]⟩
      ) (by show n-(k+1)<n-k;omega) sB sB)
  | (exact Zh (
      ⟨(k+1,ha,h58,A,B++[(k:Int)]),by show k+1<=n;omega,hoa,ho58,by show A=_;rw [s1,Qc (by simp [*]),Xo,hA],by show B++[(k:Int)]=_;rw [s2,Qc (by simp [*]),hB]⟩
      ) (by show n-(k+1)<n-k;omega) sB sB))))
   . (
 refine nav ?_;have hkn:k=n:=oM;(have hAe:A=inL n S F:=by rw [hA,hkn]);(have hBe:B=Rf n S F:=by rw [hB,hkn]);(have hAi:∀x∈A,0<=x/\x<n:=fun x hx=>by rw [hAe] at hx;exact E6.2 x hx);(have hBi:∀x∈B,0<=x/\x<n:=fun x hx=>by rw [hBe] at hx;exact PW.2 x hx);(have hBasc:B.Pairwise (· < ·):=by rw [hBe];exact Zn3 n S F);refine Zp ?_;refine xL 60 Za (xL 61 (Wu 200 ZS) (xL 62 Jb ?_));refine ZC ?_ ?_<;>intro hb62
 . (
 refine Zi ?_;refine xM (ZA TB) ?_;refine Zn 2 Z6 ?_;refine ZD ?_;exact ZN (k:=2) 2 results17 (.inl ⟨by rw [<-hAe];exact Xv oM,rfl⟩))
 refine nav ?_;have hAp:0<A.length:=oM;refine Zs (En.freeze (l:=200) (t:=6) rfl rfl) fun _=>?_;rw [Kb _ _ _ rfl];refine Zs (En.freeze (l:=201) (t:=7) rfl rfl) fun _=>?_;rw [Kb _ _ _ rfl];refine J2 ?_;refine cO 65 (cA call59 (Zax A oM)) fun v65 ho65=>?_;refine ZW ?_;refine ZW ?_;refine xL 66 Za (xL 67 SI ?_);refine LX 68 rfl rfl (Xa rfl) rfl (cA call48 (SY 62 [.sptr 0 [Li l n E S F]] (Oc E) B hBasc oM call62 (fun x hx y hy=>Zn4 l n E S F x y (hBi x hx) (hBi y hy)))) ?_;rintro p' ⟨cs,hcs,rfl⟩;refine ⟨rfl,fun h68 ho68=>?_⟩;refine Zz (En.freeze (l:=68) (t:=68) rfl rfl) fun _=>?_;rw [KP _ _ _ rfl];refine xL 69 (Zu ZO) (xL 70 Za ?_);refine ZZ ?_;have hin:=Pj hcs;refine Zs (YO 200 90 1 rfl) fun _=>?_;refine Zs (ZK (l:=65) 201 rfl rfl) fun _=>?_;refine Yl (ι:={x:Nat×Value×Value×List (List Int)×List Int//x.1<=cs.length/\x.2.2.1.oneCell'=true/\x.2.2.2.1=(cs.take x.1).filter (Gq n E S F)/\x.2.2.2.2=A++((cs.take x.1).filter fun c=> !Gq n E S F c).flatten}) (fun k=>⟨[(2,_,_),(4,_,_),(6,_,_),(68,_,_),(69,_,_),(10,k.1.2.1, .val k.1.2.1),(9,k.1.2.2.1, .val k.1.2.2.1),(70, .int .i64 k.1.1,Zb k.1.1)],[(2,_,_),(200,k.1.2.1, .own 90 1 k.1.2.2.2.1.length (k.1.2.2.2.1.map pInts)),(201,k.1.2.2.1, .own 3 1 k.1.2.2.2.2.length (k.1.2.2.2.2.map Zb))]⟩) (fun k=>cs.length-k.1.1) ⟨(0, .slice none 0 0,v65,[],A),Xg _,ho65,rfl,(Xo A).symm⟩ ?_;rintro ⟨⟨i,hc,hdv,C,D⟩,hi,hod,hC,hD⟩;dsimp only;dsimp only at hi hod hC hD;have hCl:C.length<=1000:=by
  have:=Vl (Gq n E S F) (cs.take i);rw [hC];rw [XA] at this;omega
 have hDl:D.length<=2000:=by
  have h1:=Zco (fun c=> !Gq n E S F c) (cs.take i);have h2:(cs.take i).flatten.length<=cs.flatten.length:=by
   (have:cs.flatten=(cs.take i).flatten++(cs.drop i).flatten:=by rw [<-XZ,Vw]);rw [this,Xe];omega
  rw [hD,Xe];omega
 have hCm:(C.map pInts).length=C.length:=Xc _;have hDm:(D.map Zb).length=D.length:=Xc _;refine Ys ?_ ?_<;>intro hb71
 . (
 obtain ⟨cl,hx⟩:=gS cs i;have e1:=Yf (f:=pInts) hx;have hcm:=Xb hx;have hcll:=hin.2.2.1 cl hcm;have s3:=GW (p:=Gq n E S F) hx;have s4:=GW (p:=fun c=> !Gq n E S F c) hx;(have e2:(cl.map Zb).length=cl.length*1:=by rw [Xc,XJ]);(have e3:(cl.map Zb).all En.one=true:=by rw [VK,Xj];intro x _;rfl);refine Zi ?_;refine xM (Ze ZO) ?_;refine yU (Zw Yz) fun v73=>?_;refine ZW ?_;refine ZW ?_;refine xL 74 Za (xL 75 (Zu ZS) (xL 76 Za ?_));refine ZZ ?_;refine Yl (ι:={x:Nat×Bool//x.1<=cl.length/\x.2=(cl.take x.1).all fun x=>A.all fun y=>Y9 n E S F y.toNat x.toNat}) (fun k=>⟨[(2,_,_),(4,_,_),(6,_,_),(68,_,_),(69,_,_),(9,_,_),(10,_,_),(70,_,_),(12,_,_),(74,_,_),(75,_,_),(13, .bool k.1.2,Zr k.1.2),(76, .int .i64 k.1.1,Zb k.1.1)],[(2,_,_),(200,_,_),(201,_,_)]⟩) (fun k=>cl.length-k.1.1) ⟨(0,true),Xg _,rfl⟩ ?_;rintro ⟨⟨q,b⟩,hq,hbe⟩;dsimp only;dsimp only at hq hbe;refine Ys ?_ ?_<;>intro hb77
 . (
 obtain ⟨u,hu⟩:=gS cl q;have e4:=Yf (f:=Zb) hu;have hui:=hBi u (hin.1 cl hcm u (Xb hu));have s5:=Ea (p:=fun x:Int=>A.all fun y=>Y9 n E S F y.toNat x.toNat) hu;refine Zi ?_;refine xM (Ze ZS) ?_;refine yV (Zw Zq) ?_;refine ZW ?_;refine xL 80 Za (xL 81 (Zu ZS) (xL 82 Za ?_));refine ZZ ?_;refine Yl (ι:={x:Nat×Bool//x.1<=A.length/\x.2=(b&&(A.take x.1).all fun y=>Y9 n E S F y.toNat u.toNat)}) (fun k=>⟨[(2,_,_),(4,_,_),(6,_,_),(68,_,_),(69,_,_),(9,_,_),(10,_,_),(70,_,_),(12,_,_),(74,_,_),(75,_,_),(76,_,_),(15,_,_),(80,_,_),(81,_,_),(13, .bool k.1.2,Zr k.1.2),(82, .int .i64 k.1.1,Zb k.1.1)],[(2,_,_),(200,_,_),(201,_,_)]⟩) (fun k=>A.length-k.1.1) ⟨(0,b),Xg _,(Up b).symm⟩ ?_;rintro ⟨⟨s,b2⟩,hs,hb2e⟩;dsimp only;dsimp only at hs hb2e;refine Ys ?_ ?_<;>intro hb83
 . (
 obtain ⟨y,hy⟩:=gS A s;have e5:=Yf (f:=Zb) hy;have hyi:=hAi y (Xb hy);have s6:=Ea (p:=fun y:Int=>Y9 n E S F y.toNat u.toNat) hy;have hL:=ZnU l n E S F y.toNat u.toNat hl hn oM oM;rw [show ((y.toNat:Nat):Int)=y by omega,show ((u.toNat:Nat):Int)=u by omega] at hL;dsimp only [Li] at hL;refine Zi ?_;refine xM (Ze ZS) ?_;refine yV (Zw Zq) ?_;refine ZW ?_;(refine YW ?_<;>(refine bL 87 (fun hb87=>?_) (fun hb87=>?_)<;>(first|refine kL ?_|refine yU (Zw WY) fun v88=>?_))<;>refine Ky ?_<;>(first|refine kL ?_|(refine cV (cA call63 hL) ?_))<;>refine W2 ?_)<;>(
 refine Gt ?_
 first
  | (exact Zh (
      ⟨(s+1,Y9 n E S F y.toNat u.toNat),by show s+1<=A.length;omega,by show Y9 n E S F y.toNat u.toNat=_;rw [s6,<-UH,<-hb2e,hb87,Uq]⟩
      ) (by show A.length-(s+1)<A.length-s;omega) sB sB)
  | (exact Zh (
      ⟨(s+1,false),by show s+1<=A.length;omega,by show false=_;rw [s6,<-UH,<-hb2e,hb87,Bool.false_and]⟩
      ) (by show A.length-(s+1)<A.length-s;omega) sB sB)))
 refine ZP ?_;refine Zh (
  ⟨(q+1,b2),by show q+1<=cl.length;omega,by show b2=_;rw [s5,<-hbe,hb2e,Xs oM]⟩
  ) (by show cl.length-(q+1)<cl.length-q;omega) sB sB)
 refine nav ?_;(have hbo:Gq n E S F cl=b:=by unfold Gq;rw [<-hAe,hbe,Xs oM]);refine Zp ?_;refine Wg ?_ ?_<;>intro hb95
 . (
 refine Kt ?_;refine WE (kk:=1) 98 Yv fun h98 ho98=>?_;refine Y7 200 98 99 Yv fun h99 ho99=>?_;refine J1 ?_;try refine ZJ (ZK (l:=99) 200 rfl rfl) fun _=>?_
 try refine ZJ (ZK (l:=102) 201 rfl rfl) fun _=>?_
 try rw [show C.map pInts++[pInts cl]=(C++[cl]).map pInts by simp,show C.length+1=(C++[cl]).length by simp]
 try rw [show D.map Zb++cl.map Zb=(D++cl).map Zb by simp,show D.length+cl.length=(D++cl).length by simp]
 first
  | (exact Zh (
      ⟨(i+1,h99,hdv,C++[cl],D),by show i+1<=cs.length;omega,hod,by show C++[cl]=_;rw [s3,Qd (by rw [hbo];exact hb95),hC],by show D=_;rw [s4,Qc (by rw [hbo,hb95];decide),Xo,hD]⟩
      ) (by show cs.length-(i+1)<cs.length-i;omega) sB sB)
  | (exact Zh (
      ⟨(i+1,hc,h102,C,D++cl),by show i+1<=cs.length;omega,ho102,by show C=_;rw [s3,Qc (by rw [hbo,hb95];decide),Xo,hC],by show D++cl=_;rw [s4,Qd (by rw [hbo,hb95];rfl),hD];simp⟩
      ) (by show cs.length-(i+1)<cs.length-i;omega) sB sB))
 refine Kt ?_;refine Ka 201 102 YY fun h102 ho102=>?_;refine J1 ?_;try refine ZJ (ZK (l:=99) 200 rfl rfl) fun _=>?_
 try refine ZJ (ZK (l:=102) 201 rfl rfl) fun _=>?_
 try rw [show C.map pInts++[pInts cl]=(C++[cl]).map pInts by simp,show C.length+1=(C++[cl]).length by simp]
 try rw [show D.map Zb++cl.map Zb=(D++cl).map Zb by simp,show D.length+cl.length=(D++cl).length by simp]
 first
  | (exact Zh (
      ⟨(i+1,h99,hdv,C++[cl],D),by show i+1<=cs.length;omega,hod,by show C++[cl]=_;rw [s3,Qd (by rw [hbo];exact hb95),hC],by show D=_;rw [s4,Qc (by rw [hbo,hb95];decide),Xo,hD]⟩
      ) (by show cs.length-(i+1)<cs.length-i;omega) sB sB)
  | (exact Zh (
      ⟨(i+1,hc,h102,C,D++cl),by show i+1<=cs.length;omega,ho102,by show C=_;rw [s3,Qc (by rw [hbo,hb95];decide),Xo,hC],by show D++cl=_;rw [s4,Qd (by rw [hbo,hb95];rfl),hD];simp⟩
      ) (by show cs.length-(i+1)<cs.length-i;omega) sB sB))
 refine nav ?_;have hil:i=cs.length:=oM;(have hCe:C=cs.filter (Gq n E S F):=by rw [hC,hil,Xx]);(have hDe:D=A++(cs.filter fun c=> !Gq n E S F c).flatten:=by rw [hD,hil,Xx]);(have hDp:0<D.length:=by rw [hDe,Xe];omega);obtain ⟨Ds,hDs⟩:∃Ds,Ds=D.mergeSort fun x y=>decide (x<=y):=⟨_,rfl⟩;(have hDsl:Ds.length=D.length:=by rw [hDs,V3]);have hDi:∀x∈Ds,0<=x/\x<n:=fun x hx=>by
  rw [hDs,Jd,hDe,XD] at hx;rcases hx with h|h
  . exact hAi x h
  obtain ⟨d,hd,hxd⟩:=XQ.1 h;exact hBi x (hin.1 d (XF.1 hd).1 x hxd)
 obtain ⟨rs,hrs⟩:∃rs,rs=Ds::C:=⟨_,rfl⟩;have hrm:∀c∈rs,(∀x∈c,0<=x/\x<l.length)/\c.length<=1000000:=fun c hc=>by
  rw [hrs,Xi] at hc;rw [hl];rcases hc with rfl|h
  . exact ⟨hDi,oM⟩
  rw [hCe] at h;have hm:=(XF.1 h).1;exact ⟨fun x hx=>hBi x (hin.1 c hm x hx),by have:=hin.2.2.1 c hm;omega⟩
 (have hrl:rs.length<=1000000:=by rw [hrs,Xh];omega);(have hre:rs=GG n E S F cs:=by rw [hrs,hDs,hDe,hCe,hAe];rfl);(have e6:(C.map pInts).length=C.length*1:=by rw [Xc,XJ]);(have e7:(C.map pInts).all En.one=true:=by rw [VK,Xj];intro x _;rfl);refine J2 ?_;refine Zdj 201 E3 call60 ?_ hDp;rw [<-hDs];refine ZZ ?_;refine Zs (En.freeze (l:=201) (t:=9) rfl rfl) fun _=>?_;rw [Kb _ _ _ hDsl.symm];refine Zs (En.freeze (l:=200) (t:=10) rfl rfl) fun _=>?_;rw [KP _ _ _ rfl];dsimp only [KX];(refine Yx [] [] ?_<;>(refine yD 0 rfl (Zw WY) fun v106 h=>?_;cases h)<;>refine gDx 1 ?_<;>refine gDx 3 ?_<;>(refine aDr 2 fun bk=>?_)<;>refine WE (kk:=1) 108 Yv fun h108 ho108=>?_<;>refine bE bk ?_<;>(refine aDr 4 fun bk=>?_)<;>refine Ka 108 110 Yv fun h110 ho110=>?_<;>refine bE bk ?_<;>(refine aDr 5 fun bk=>?_)<;>(refine Zz (En.freeze (l:=110) (t:=110) rfl rfl) fun _=>?_;rw [show pInts Ds::C.map pInts=rs.map pInts by rw [hrs];rfl,KP _ _ _ (by rw [hrs,Xh];omega)];by_cases hm:rs.length<2<;>first|(refine cP 111 (cA call47 (OL l _ 4 rs hm)) fun va111 vb111 hva111 h=>?_;cases h)|(refine cP 111 (cA call47 (H8 l _ 4 rs oM (fun c hc=>(hrm c hc).1) hrl (fun c hc=>(hrm c hc).2))) fun va111 vb111 hva111 h=>?_;cases h))<;>refine bE bk ?_<;>refine gDx 6 ?_<;>refine gEx 7 ?_<;>(refine aDr 8 fun bk=>?_)<;>refine Zn 2 Z6 ?_<;>refine bE bk ?_<;>refine gEx 9 ?_<;>refine Wo ?_)<;>(
 refine ZN (k:=2) 2 results17 (.inr ⟨cs,by rw [<-hAe];exact X5.1 hAp,by rw [<-hBe];exact hcs,?_⟩);rw [<-hre];unfold Zaw
 first
  |(rw [Qd hm];rfl)
  |(rw [Qc hm];rfl))))
def Zk6:ElT prog 39 38 1 8 .nilFunc:=⟨underlying39,by kernel_rfl,rfl,dC⟩
def Zk7:NoAgg prog 38=true:=kR
def Zcp:SlT prog 39 38 1=true:=kR
def Zti:Option Cut->PV
 |none=> .tup [.agg [Zb 0, .val (.slice none 0 0)],Zb 10]
 |some c=> .tup [PC c,Zb 0]
def G9 (l:List BA) (kind:Int) (cs:List (List Int)):Option Cut:=if cs.length<2 then none else some ⟨kind,ZB l cs⟩
def Zaz (l:List BA) (kind:Int) (cs:List (List Int)):Zaw l kind cs=Zti (G9 l kind cs):=by
 unfold Zaw G9
 split<;>rfl
def J':Option Cut->PV
 |none=> .agg [Zb 0, .val (.slice none 0 0)]
 |some c=>PC c
def Ru:Option Cut->PV
 |none=>Zb 10
 |some c=>Zb 0
def Zjc (o:Option Cut):shD (.tup [J' o,Ru o])=true:=by cases o<;>rfl
def OM (o:Option Cut):Zti o= .tup [J' o,Ru o]:=by cases o<;>rfl
def RO (l:List BA) (n:Nat) (E:Nat->Nat->Bool) (S F:Nat->Bool):Nat->Option Cut->Prop
 |0,o=>∃cs,Comps (upTo n) (Oc E) cs/\o=G9 l 1 cs
 |1,o=>∃cs,SeqCs n (ZU n E) cs/\o=G9 l 2 cs
 |2,o=>∃cs,Comps (upTo n) (PU E) cs/\((idx (Ya S F) cs<0/\o=none)\/∃i0 c0 ds,cs[i0]? =some c0/\idx (Ya S F) cs=(i0:Nat)/\AndCs cs i0 c0 (Ya S F) ds/\o=G9 l 3 ds)
 |_,o=>(inL n S F=[]/\o=none)\/∃cs,inL n S F≠[]/\Comps (Rf n S F) (Oc E) cs/\o=G9 l 4 (GG n E S F cs)
def Pk (Q:Nat->Option Cut->Prop) (o:Option Cut):Prop:=(∃k c,k<4/\(∀j,j<k->Q j none)/\Q k (some c)/\o=some c)\/((∀j,j<4->Q j none)/\o=none)
def ZqB (caps:List PV):AF prog 53 [.sl 0 [], .fn 54 caps] (· = .val (.tuple #[])):=fun M w vs hM hlen hv=>by
 obtain ⟨v,fv,rfl⟩:=ζH hlen
 have hS:=hv 0 v _ rfl rfl
 cases hS with
 | emp a c hc ha=>
   refine (Tryz.slices_SortFunc_none (α:=Nat) a c fv w).mono fun e w' ⟨h1,h2⟩=>?_;rw [h1,h2];exact ⟨_,_,fun _=>False,rfl,rfl,Ext.rfl' _, .shr (.val _) (fun _ h=>h),fun b hb=>hb.elim,fun h=>h.elim⟩
 | sl b off n c cs vs' hnc hc hcell hT=>
   refine (Tryz.slices_SortFunc_none (α:=Nat) _ c fv w).mono fun e w' ⟨h1,h2⟩=>?_;rw [h1,h2];exact ⟨_,_,fun _=>False,rfl,rfl,Ext.rfl' _, .shr (.val _) (fun _ h=>h),fun b hb=>hb.elim,fun h=>h.elim⟩
def Zk8 (g:Dfg) (l:List BA) (E:Nat->Nat->Bool) (S F:Nat->Bool) (hb:AF prog 46 [Ji g] (· = .tup [Li l 0 E S F,Zb 0])) (hl:l.length=0):AF prog 15 [Ji g] (fun p=>∃cs,SeqCs 0 (ZU 0 E) cs/\p=Zaw l 2 cs):=by
 refine AF.b1 31 func15 rfl ntmps15 (Xa rfl) fun w0 M0 v0 _=>?_
 refine Zi ?_
 refine Z4 1 4 fun h1=>?_;refine Zt [(.int .i64 0),(.slice none 0 0)] 2 2 WZ fun h2=>?_;refine ZW ?_
 refine yU (Zm 1 Yu) fun v9=>?_;refine cP 10 (cA call46 hb) fun va10 vb10 hva10 hvb10=>?_;cases hvb10;refine Ts ?_;refine Wv ?_ ?_<;>intro hb14
 . exfalso;omega
 refine Zi ?_;refine YU ?_;refine cU (cA call51 (Zft l 0 E (Wq 0 S) (Wq 0 F) hl oM)) fun v18=>?_;refine Zt [(.slice none 0 0)] 1 6 Zcm fun h6=>?_;refine JY 6 Yj Dr ?_;refine ZZ ?_;refine Zs (TH (l:=6) (t:=6) (j:=0) rfl Vi rfl) fun _=>?_;dsimp only [Wi,share,List.map,Li];refine J2 ?_;refine cU (cA call49 ((ZdB l _ oM).mono (R':=(· =pInts (upTo 0))) fun p hp=>by rw [hp,hl])) fun v20=>?_;refine xM SI ?_;refine LX 22 rfl rfl (Xa rfl) rfl (cA call48 (SY 52 [.sptr 0 [EY 0 (ZU 0 E)]] (relS (ZU 0 E)) (upTo 0) (Tc 0) (by rw [JR];omega) call52 (fun x hx y hy=>Zi9 0 (ZU 0 E) x y (YR.1 hx) (YR.1 hy)))) ?_;rintro p' ⟨cs,hcs,rfl⟩;refine ⟨rfl,fun h22 ho22=>?_⟩;refine ZD ?_;have hcn:cs=[]:=Xv (by have:=(Jv hcs).2.1;omega);subst hcn;refine Zs (En.freeze (l:=22) (t:=7) rfl rfl) fun _=>?_;rw [KP _ _ _ rfl];dsimp only [KX,List.map,Xw];refine Zp ?_;refine xL 23 Za (xL 24 SI ?_);refine cV (cA call53 (ZqB _)) ?_;refine D6 ?_;refine cP 28 (cA call47 (OL l _ 2 [] dC)) fun va28 vb28 hva28 hvb28=>?_;cases hvb28;refine YW ?_;refine Zn 2 Z6 ?_;refine ZD ?_;exact ZN (k:=2) 2 results15 ⟨[],⟨⟨[],hcs, .refl _⟩,fun i j a b hij ha hb=>by simp at ha⟩,rfl⟩
def Zk9 (g:Dfg) (l:List BA) (n:Nat) (E:Nat->Nat->Bool) (S F:Nat->Bool) (hb:AF prog 46 [Ji g] (· = .tup [Li l n E S F,Zb 0])) (hl:l.length=n) (hn:n<=1000):
 (AF prog 14 [Ji g] fun p=>∃i:{o//RO l n E S F 0 o},p= .tup [J' i.1,Ru i.1])/\(AF prog 15 [Ji g] fun p=>∃i:{o//RO l n E S F 1 o},p= .tup [J' i.1,Ru i.1])/\(AF prog 16 [Ji g] fun p=>∃i:{o//RO l n E S F 2 o},p= .tup [J' i.1,Ru i.1])/\(AF prog 17 [Ji g] fun p=>∃i:{o//RO l n E S F 3 o},p= .tup [J' i.1,Ru i.1]):=by
 refine ⟨(Zk1 g l n E S F hb hl hn).mono fun p hp=>?_,?_,(Zk4 g l n E S F hb hl hn).mono fun p hp=>?_,(Zht g l n E S F hb hl hn).mono fun p hp=>?_⟩
 . obtain ⟨cs,h1,rfl⟩:=hp;exact ⟨⟨_,cs,h1,rfl⟩,by rw [Zaz,OM]⟩
 . rcases V1 n with h0|h0
   . subst h0;refine (Zk8 g l E S F hb hl).mono fun p hp=>?_;obtain ⟨cs,h1,rfl⟩:=hp;exact ⟨⟨_,cs,h1,rfl⟩,by rw [Zaz,OM]⟩
   refine (Zk2 g l n E S F hb hl hn h0).mono fun p hp=>?_;obtain ⟨cs,h1,rfl⟩:=hp;exact ⟨⟨_,cs,h1,rfl⟩,by rw [Zaz,OM]⟩
 . obtain ⟨cs,h1,⟨h2,rfl⟩|⟨i0,c0,ds,h2,h3,h4,rfl⟩⟩:=hp
   . exact ⟨⟨none,cs,h1, .inl ⟨h2,rfl⟩⟩,rfl⟩
   exact ⟨⟨_,cs,h1, .inr ⟨i0,c0,ds,h2,h3,h4,rfl⟩⟩,by rw [Zaz,OM]⟩
 obtain ⟨h2,rfl⟩|⟨cs,h2,h3,rfl⟩:=hp
 . exact ⟨⟨none, .inl ⟨h2,rfl⟩⟩,rfl⟩
 exact ⟨⟨_, .inr ⟨cs,h2,h3,rfl⟩⟩,by rw [Zaz,OM]⟩
def ZaA (g:Dfg) (l:List BA) (n:Nat) (E:Nat->Nat->Bool) (S F:Nat->Bool) (hb:AF prog 46 [Ji g] (· = .tup [Li l n E S F,Zb 0])) (hl:l.length=n) (hn:n<=1000):AF prog 18 [Ji g] (fun p=>∃o,Pk (RO l n E S F) o/\p= .tup [J' o,Ru o]):=by
 have hG:=Zk9 g l n E S F hb hl hn
 have hfs:∀k:Nat,k<3->∃f,[PV.fn 14 [],PV.fn 15 [],PV.fn 16 []][k*1]? =some (.fn f [])/\(∀args w,(callFunc f args).run prog w= .ok (.enter f args) w)/\(AF prog f [Ji g] fun p=>∃i:{o//RO l n E S F k o},p= .tup [J' i.1,Ru i.1]):=fun k hk=>by
  match k,hk with
  |0,_=>exact ⟨_,rfl,call14,hG.1⟩
  |1,_=>exact ⟨_,rfl,call15,hG.2.1⟩
  |2,_=>exact ⟨_,rfl,call16,hG.2.2.1⟩
 refine AF.b1 29 func18 rfl ntmps18 (Xa rfl) fun w0 M0 v0 _=>?_
 refine Zi ?_
 refine Z4 1 4 fun h1=>?_;refine Zt [(.int .i64 0),(.slice none 0 0)] 2 2 WZ fun h2=>?_;refine ZW ?_
 refine Zii (xs:=[_,_,_]) 8 Zk6 rfl rfl (Xa rfl) rfl rfl rfl rfl rfl dC dC rfl ?_;intro h8 ho8;refine Zz (En.freeze (l:=8) (t:=8) rfl rfl) fun _=>?_;refine xL 9 (Zu Zcp) (xL 10 Za ?_);refine ZZ ?_
 refine Yl (ι:={x:Nat//x<=3/\∀j,j<x->RO l n E S F j none}) (fun k=>⟨[(1,_,_),(2,_,_),(8,_,_),(9,_,_),(10, .int .i64 k.1,Zb k.1)],[(1,_,_),(2,_,_)]⟩) (fun k=>3-k.1) ⟨0,Xg _,fun j hj=>Qe hj (Vv j)⟩ ?_
 rintro ⟨k,hk,hQ⟩
 dsimp only
 try dsimp only at hk hQ
 refine Ys ?_ ?_<;>intro hb11
 . (
 have hk3:k<3:=oM;obtain ⟨f,e1,hfc,hfa⟩:=hfs k hk3;refine Zi ?_;refine xM (Ze Zcp) ?_;refine yU (Zw Zk7) fun v13=>?_;refine ZW ?_;(refine YU ?_<;>refine yU (Zm 1 Yu) fun v16=>?_<;>(refine cPx 17 (LW (f:=f) (ps:=[]) rfl ⟨_,rfl⟩ hfc rfl hfa) (fun i va17 vb17 hva17 hvb17=>?_) (fun i=>Zjc i.1);rcases i with ⟨_|cc,hq⟩<;>(dsimp only [J',Ru] at hva17 hvb17 ⊢;cases hvb17))<;>refine Y8 ?_<;>refine Zt [(.int .i64 0),(.slice none 0 0)] 2 6 WZ fun h6=>?_<;>refine Zn 6 Z6 ?_<;>refine ZD ?_)<;>(
 refine Zp ?_;refine Wv ?_ ?_<;>intro hb21
 . (
 refine Zi ?_;refine yU (Zm 6 Z6) fun v22=>?_;refine YU ?_;refine Zn 2 Z6 ?_;refine ZD ?_
 first
  |exact Qe rfl hb21
  |exact ZN (k:=2) 2 results18 ⟨some cc, .inl ⟨k,cc,oM,hQ,hq,rfl⟩,rfl⟩)
 refine ZP ?_;refine Zh (
  ⟨k + 1,oM,fun j hj=>by
   rcases Nat.lt_succ_iff_lt_or_eq.1 hj with h|h
   . exact hQ j h
   . rw [h]
     first
      |exact hq
      |exact Qe dC hb21⟩
  ) (by show 3-(k+1)<3-k;omega) sB sB))
 refine Zi ?_;(refine yU (Zm 1 Yu) fun v25=>?_<;>(refine cPx 26 (cA call17 hG.2.2.2) (fun i va26 vb26 hva26 hvb26=>?_) (fun i=>Zjc i.1);rcases i with ⟨_|cc,hq⟩<;>(dsimp only [J',Ru] at hva26 hvb26 ⊢;cases hvb26))<;>refine YW ?_<;>refine Zn 2 Z6 ?_<;>refine ZD ?_)<;>(
 have hk3:k=3:=oM;subst hk3
 first
  |exact ZN (k:=2) 2 results18 ⟨some cc, .inl ⟨3,cc,oM,hQ,hq,rfl⟩,rfl⟩
  |exact ZN (k:=2) 2 results18 ⟨none, .inr ⟨fun j hj=>(Nat.lt_succ_iff_lt_or_eq.1 hj).elim (hQ j) fun h=>by rw [h];exact hq,rfl⟩,rfl⟩)
def Od (E R:Nat->Nat->Bool) (kind:Int) (a b:Nat):Bool:=if kind=2 then R a b==R b a else if kind=3 then !E a b|| !E b a else E a b||E b a
def CQ (l:List BA) (n:Nat) (E R:Nat->Nat->Bool) (S F:Nat->Bool) (kind:Int) (a b:Nat) (ha:a<n) (hb:b<n):AF prog 270 [.agg (Jt l n E R S F),Zb kind,Zb a,Zb b] (· =Zr (Od E R kind a b)):=by
 have ea:=Z0 (fun i=>Wq n (E i)) ha
 have eb:=Z0 (fun i=>Wq n (E i)) hb
 have eab:=Z0 (fun j=>Zr (E a j)) hb
 have eba:=Z0 (fun j=>Zr (E b j)) ha
 have ra:=Z0 (fun i=>Wq n (R i)) ha
 have rb:=Z0 (fun i=>Wq n (R i)) hb
 have rab:=Z0 (fun j=>Zr (R a j)) hb
 have rba:=Z0 (fun j=>Zr (R b j)) ha
 refine AF.b4 69 func270 rfl ntmps270 (Xa rfl) ?_
 rintro w0 M0 v0 _ _ _-rfl rfl rfl
 refine Zi ?_
 refine Z4 4 5 fun h4=>?_;refine ZW ?_;refine ZW ?_;refine Wv ?_ ?_<;>intro hb10
 . (
 refine nav ?_;refine Yx [] [4] ?_<;>refine xD 0 rfl (Zc 4 KE) ?_<;>(refine yD 1 rfl (Zf 4 Yj) fun v13 h=>?_;cases h)<;>refine gDx 2 ?_<;>refine xD 3 rfl (Ze Z') ?_<;>(refine yD 4 rfl (Zw Zy) fun v16 h=>?_;cases h)<;>refine gDx 5 ?_<;>refine xD 6 rfl (Ze ZI) ?_<;>(refine yD 7 rfl (Zw ZT) fun v19 h=>?_;cases h)<;>refine xD 8 rfl (Zc 4 KE) ?_<;>(refine yD 9 rfl (Zf 4 Yj) fun v21 h=>?_;cases h)<;>refine gDx 10 ?_<;>refine xD 11 rfl (Ze Z') ?_<;>(refine yD 12 rfl (Zw Zy) fun v24 h=>?_;cases h)<;>refine gEx 13 ?_<;>refine xE 14 rfl (Ze ZI) ?_<;>(refine yE 15 rfl (Zw ZT) fun v27 h=>?_;cases h)<;>refine xE 16 rfl (ZmR underlying4) ?_<;>refine gEx 17 ?_<;>refine Wo ?_;refine Zg results270 rfl ?_;show Zr _=Zr _;unfold Od;rw [Qd hb10];try (cases R a b<;>cases R b a<;>rfl))
 refine W8 ?_ ?_<;>intro hb29
 . (
 refine Zi ?_;(refine xM (Zc 4 Kp) ?_<;>refine yU (Zf 4 Yj) fun v32=>?_<;>refine xL 33 Za (xL 34 (Ze Z') ?_)<;>refine yU (Zw Zy) fun v35=>?_<;>refine xL 36 Za (xL 37 (Ze ZI) ?_)<;>refine yV (Zw ZT) ?_<;>refine YW ?_<;>(refine bL 40 (fun hb40=>?_) (fun hb40=>?_)<;>(first|refine kL ?_|refine xM (Zc 4 Kp) ?_))<;>(first|refine kL ?_|refine yU (Zf 4 Yj) fun v42=>?_)<;>refine kZ ?_<;>(first|refine kL ?_|refine xM (Ze Z') ?_)<;>(first|refine kL ?_|refine yU (Zw Zy) fun v45=>?_)<;>refine kZ ?_<;>(first|refine kL ?_|refine xM (Ze ZI) ?_)<;>(first|refine kL ?_|refine yV (Zw ZT) ?_)<;>refine KR ?_)<;>(
 refine Zg results270 rfl ?_;show Zr _=Zr _;unfold Od;rw [Qc hb10,Qd hb29];try simp [*]))
 refine Zi ?_;(refine xM (Zc 4 Kp) ?_<;>refine yU (Zf 4 Yj) fun v52=>?_<;>refine xL 53 Za (xL 54 (Ze Z') ?_)<;>refine yU (Zw Zy) fun v55=>?_<;>refine xL 56 Za (xL 57 (Ze ZI) ?_)<;>refine yV (Zw ZT) ?_<;>refine YU ?_<;>(refine bL 59 (fun hb59=>?_) (fun hb59=>?_)<;>(first|refine kL ?_|refine xM (Zc 4 Kp) ?_))<;>(first|refine kL ?_|refine yU (Zf 4 Yj) fun v61=>?_)<;>refine kZ ?_<;>(first|refine kL ?_|refine xM (Ze Z') ?_)<;>(first|refine kL ?_|refine yU (Zw Zy) fun v64=>?_)<;>refine kZ ?_<;>(first|refine kL ?_|refine xM (Ze ZI) ?_)<;>(first|refine kL ?_|refine yV (Zw ZT) ?_)<;>refine W2 ?_)<;>(
 refine Zg results270 rfl ?_;show Zr _=Zr _;unfold Od;rw [Qc hb10,Qc hb29];try simp [*])
end Go.Proofs.YtmkojdfiadbeeaaGreat
namespace Go.Cb
open Go.En
def sumTo:Nat->(Nat->Nat)->Nat
 |0,_=>0
 |n+1,f=>sumTo n f+f n
def upd {α:Type} (f:Nat->α) (a:Nat) (b:α):Nat->α:=fun i=>if i=a then b else f i
def Zhu {n a b:Nat} {f:Nat->Nat} (h:n<=a):sumTo n (upd f a b)=sumTo n f:=by
 induction n with
 |zero=>rfl
 | succ n ih=>
   show sumTo n (upd f a b)+upd f a b n=sumTo n f+f n;rw [ih oM];unfold upd;rw [Qc oM]
def ZaB:∀{n a b:Nat} {f:Nat->Nat},a<n->b<f a->sumTo n (upd f a b)<sumTo n f
 | n +1,a,b,f,h,hb=>by
   show sumTo n (upd f a b)+upd f a b n<sumTo n f+f n;by_cases e:a=n
   . subst e;rw [Zhu (Xd _)];unfold upd;rw [Qd rfl];omega
   have:=ZaB (b:=b) (f:=f) (show a<n by omega) hb;(have e2:upd f a b n=f n:=by unfold upd;rw [Qc oM]);omega
def marked (n:Nat) (I:Nat->Bool):List Int:=((List.range n).map fun i:Nat=>(i:Int)).filter fun x=>I x.toNat
def Lr {n:Nat} {I:Nat->Bool} {x:Int}:x∈marked n I↔∃i:Nat,i<n/\I i=true/\x=i:=by
 unfold marked
 rw [XF,Xp]
 constructor
 . rintro ⟨⟨i,hi,rfl⟩,h2⟩;exact ⟨i,XT.1 hi,by simpa using h2,rfl⟩
 rintro ⟨i,h1,h2,rfl⟩;exact ⟨⟨i,XT.2 h1,rfl⟩,by simpa using h2⟩
structure LabOk (n:Nat) (I:Nat->Bool) (r:Int->Int->Bool) (lab:Nat->Nat):Prop where
 le:∀i,i<n->lab i<=i
 inn:∀i,i<n->I i=true->I (lab i)=true
 conn:∀i,i<n->I i=true->Conn (marked n I) r (lab i) i
def LabOk.start (n:Nat) (I:Nat->Bool) (r:Int->Int->Bool):LabOk n I r fun i=>i:=⟨fun i _=>Xd i,fun i _ h=>h,fun i _ _=>Conn.refl _ _ _⟩
def LabOk.push {n:Nat} {I:Nat->Bool} {r:Int->Int->Bool} {lab:Nat->Nat} (h:LabOk n I r lab) {a b:Nat} (ha:a<n) (hb:b<n) (ia:I a=true) (ib:I b=true) (hlt:lab a<lab b) (hr:r a b=true\/r b a=true):LabOk n I r (upd lab b (lab a)):=by
 refine ⟨fun i hi=>?_,fun i hi hI=>?_,fun i hi hI=>?_⟩<;>unfold upd<;>split
 . rename_i e;subst e;have:=h.le i hi;omega
 . exact h.le i hi
 . exact h.inn a ha ia
 . exact h.inn i hi hI
 . rename_i e;subst e;exact (h.conn a ha ia).trans (Conn.step (Lr.2 ⟨a,ha,ia,rfl⟩) (Lr.2 ⟨i,hb,ib,rfl⟩) hr)
 exact h.conn i hi hI
def good (n:Nat) (I:Nat->Bool) (t:Nat->Nat->Bool) (lab:Nat->Nat) (a b:Nat):Prop:=a≠b->I a=true->I b=true->t a b=true->lab a=lab b
structure LabPass (n:Nat) (I:Nat->Bool) (r:Int->Int->Bool) (t:Nat->Nat->Bool) (lab0 lab:Nat->Nat) (ag:Bool) (a b:Nat):Prop where
 ok:LabOk n I r lab
 les:ag=true->sumTo n lab<sumTo n lab0
 eq:ag=false->lab=lab0/\∀x y,(x<a/\y<n\/x=a/\y<b)->good n I t lab x y
def LabPass.start {n:Nat} {I:Nat->Bool} {r:Int->Int->Bool} {t:Nat->Nat->Bool} {lab:Nat->Nat} (h:LabOk n I r lab):LabPass n I r t lab lab false 0 0:=⟨h,(fun e=>by cases e),fun _=>⟨rfl,fun x y h=>oM⟩⟩
def LabPass.push {n:Nat} {I:Nat->Bool} {r:Int->Int->Bool} {t:Nat->Nat->Bool} {lab0 lab:Nat->Nat} {ag:Bool} {p q x y:Nat} (h:LabPass n I r t lab0 lab ag p q) (hx:x<n) (hy:y<n) (ix:I x=true) (iy:I y=true) (hlt:lab x<lab y) (hr:r x y=true\/r y x=true) (p' q':Nat):LabPass n I r t lab0 (upd lab y (lab x)) true p' q':=by
 refine ⟨h.ok.push hx hy ix iy hlt hr,fun _=>?_,fun e=>by cases e⟩
 have h1:=ZaB (n:=n) hy hlt
 cases ag with
 |true=>have:=h.les rfl;omega
 |false=>rw [<-(h.eq rfl).1];exact h1
def LabPass.on {n:Nat} {I:Nat->Bool} {r:Int->Int->Bool} {t:Nat->Nat->Bool} {lab0 lab:Nat->Nat} {ag:Bool} {a b:Nat} (h:LabPass n I r t lab0 lab ag a b) (hg:ag=false->good n I t lab a b):LabPass n I r t lab0 lab ag a (b+1):=⟨h.ok,h.les,fun e=>⟨(h.eq e).1,fun x y hxy=>by
 by_cases e2:x=a/\y=b
 . obtain ⟨rfl,rfl⟩:=e2;exact hg e
 . exact (h.eq e).2 x y oM⟩⟩
def LabPass.row {n:Nat} {I:Nat->Bool} {r:Int->Int->Bool} {t:Nat->Nat->Bool} {lab0 lab:Nat->Nat} {ag:Bool} {a:Nat} (h:LabPass n I r t lab0 lab ag a n):LabPass n I r t lab0 lab ag (a+1) 0:=⟨h.ok,h.les,fun e=>⟨(h.eq e).1,fun x y hxy=>(h.eq e).2 x y oM⟩⟩
structure Fix (n:Nat) (I:Nat->Bool) (r:Int->Int->Bool) (t:Nat->Nat->Bool) (lab:Nat->Nat):Prop where
 ok:LabOk n I r lab
 st:∀x y,x<n->y<n->good n I t lab x y
def LabPass.fix {n:Nat} {I:Nat->Bool} {r:Int->Int->Bool} {t:Nat->Nat->Bool} {lab0 lab:Nat->Nat} (h:LabPass n I r t lab0 lab false n 0):Fix n I r t lab:=⟨h.ok,fun x y hx hy=>(h.eq rfl).2 x y (.inl ⟨hx,hy⟩)⟩
def cls (n:Nat) (I:Nat->Bool) (lab:Nat->Nat) (c:Nat):List Int:=((List.range n).map fun i:Nat=>(i:Int)).filter fun x=>I x.toNat&&(lab x.toNat==c)
def Tj (n:Nat) (I:Nat->Bool) (lab:Nat->Nat) (k:Nat):List (List Int):=((List.range k).map (cls n I lab)).filter fun c=> !c.isEmpty
def TK {n:Nat} {I:Nat->Bool} {lab:Nat->Nat} {c:Nat} {x:Int}:x∈cls n I lab c↔∃i:Nat,i<n/\I i=true/\lab i=c/\x=i:=by
 unfold cls
 rw [XF,Xp]
 constructor
 . rintro ⟨⟨i,hi,rfl⟩,h2⟩;simp at h2;exact ⟨i,XT.1 hi,h2.1,h2.2,rfl⟩
 rintro ⟨i,h1,h2,h3,rfl⟩;exact ⟨⟨i,XT.2 h1,rfl⟩,by simp [h2,h3]⟩
def Zla (n:Nat):((List.range n).map fun i:Nat=>(i:Int)).Pairwise (· < ·):=by
 rw [X7]
 exact List.pairwise_lt_range.imp fun h=>oM
def ZdC (n:Nat) (I:Nat->Bool) (lab:Nat->Nat) (c:Nat):(cls n I lab c).Pairwise (· < ·):=(Zla n).filter _
def S0 {n k:Nat} {I:Nat->Bool} {lab:Nat->Nat} {d:List Int}:d∈Tj n I lab k↔∃c,c<k/\d=cls n I lab c/\d≠[]:=by
 unfold Tj
 rw [XF,Xp]
 constructor
 . rintro ⟨⟨c,hc,rfl⟩,h⟩;exact ⟨c,XT.1 hc,rfl,by simpa using h⟩
 rintro ⟨c,hc,rfl,h⟩;exact ⟨⟨c,XT.2 hc,rfl⟩,by simpa using h⟩
def Zcq (n k:Nat) (I:Nat->Bool) (lab:Nat->Nat):Tj n I lab (k+1)=Tj n I lab k++(if cls n I lab k=[] then [] else [cls n I lab k]):=by
 unfold Tj
 rw [VS,XX,Vs]
 congr 1
 by_cases h:cls n I lab k=[]
 . rw [Qd h];simp [h]
 rw [Qc h];simp [h]
def Fix.const {n:Nat} {I:Nat->Bool} {r:Int->Int->Bool} {t:Nat->Nat->Bool} {lab:Nat->Nat} (h:Fix n I r t lab) (ht:∀a b:Nat,a<n->b<n->I a=true->I b=true->a≠b->(r a b=true\/r b a=true)->t a b=true) {a b:Nat} (hc:Conn (marked n I) r a b):lab b=lab a:=by
 have:=hc (fun z=>lab z.toNat=lab a) (fun x y hx hy hr hz=>by
  obtain ⟨i,hi,Ii,rfl⟩:=Lr.1 hx;obtain ⟨j,hj,Ij,rfl⟩:=Lr.1 hy;rw [XH] at hz ⊢;by_cases e:i=j
  . rw [<-e];exact hz
  . rw [<-h.st i j hi hj e Ii Ij (ht i j hi hj Ii Ij e hr)];exact hz) (by rw [XH])
 rw [XH] at this
 exact this
def Fix.own {n:Nat} {I:Nat->Bool} {r:Int->Int->Bool} {t:Nat->Nat->Bool} {lab:Nat->Nat} (h:Fix n I r t lab) (ht:∀a b:Nat,a<n->b<n->I a=true->I b=true->a≠b->(r a b=true\/r b a=true)->t a b=true) {c:Nat} (hc:cls n I lab c≠[]):YI (cls n I lab c)=c:=by
 obtain ⟨i,hi,Ii,hl,hx⟩:=TK.1 (JS hc)
 have hle:=h.ok.le i hi
 have h1:=h.const ht (h.ok.conn i hi Ii)
 have h2:=h.ok.inn i hi Ii
 rw [hl] at h1 h2 hle
 have hcm:(c:Int)∈cls n I lab c:=TK.2 ⟨c,oM,h2,oM,rfl⟩
 have hasc:=ZdC n I lab c
 cases hd:cls n I lab c with
 |nil=>exact Qe hd hc
 | cons y m=>
   rw [hd] at hcm hasc hx;rw [Xy] at hasc;show y=(c:Int);have hy:y=(i:Int):=hx;rcases Xi.1 hcm with e|e
   . exact e.symm
   have:=hasc.1 _ e;omega
def Fix.comps {n:Nat} {I:Nat->Bool} {r:Int->Int->Bool} {t:Nat->Nat->Bool} {lab:Nat->Nat} (h:Fix n I r t lab) (ht:∀a b:Nat,a<n->b<n->I a=true->I b=true->a≠b->(r a b=true\/r b a=true)->t a b=true):Comps (marked n I) r (Tj n I lab n):=by
 refine ⟨fun x=>?_,?_,fun c hc=>?_,fun c hc=>?_,fun c hc x hx y hy=>?_,fun c hc x hx y hy hr=>?_,?_⟩
 . rw [XQ,Lr];constructor
   . rintro ⟨d,hd,hx⟩;obtain ⟨c,_,rfl,_⟩:=S0.1 hd;obtain ⟨i,h1,h2,_,h4⟩:=TK.1 hx;exact ⟨i,h1,h2,h4⟩
   rintro ⟨i,h1,h2,rfl⟩;have hm:(i:Int)∈cls n I lab (lab i):=TK.2 ⟨i,h1,h2,rfl,rfl⟩;exact ⟨_,S0.2 ⟨lab i,by have:=h.ok.le i h1;omega,rfl,fun e=>by rw [e] at hm;simp at hm⟩,hm⟩
 . have :∀k,(Tj n I lab k).flatten.Nodup:=fun k=>by
    induction k with
    |zero=>exact List.nodup_nil
    | succ k ih=>
      rw [Zcq,XZ];split
      . simpa using ih
      rw [Ui,X6];refine ⟨ih,(ZdC n I lab k).imp fun h=>oM,fun a ha b hb e=>?_⟩;subst e;obtain ⟨d,hd,hx⟩:=XQ.1 ha;obtain ⟨c,hc,rfl,_⟩:=S0.1 hd;obtain ⟨i,_,_,h3,h4⟩:=TK.1 hx;obtain ⟨j,_,_,h5,h6⟩:=TK.1 hb;have:i=j:=oM;subst this;omega
   exact this n
 . obtain ⟨_,_,_,hne⟩:=S0.1 hc;exact hne
 . obtain ⟨k,_,rfl,_⟩:=S0.1 hc;exact ZdC n I lab k
 . obtain ⟨k,_,rfl,_⟩:=S0.1 hc;obtain ⟨i,h1,h2,h3,rfl⟩:=TK.1 hx;obtain ⟨j,g1,g2,g3,rfl⟩:=TK.1 hy;have a:=h.ok.conn i h1 h2;have b:=h.ok.conn j g1 g2;rw [h3] at a;rw [g3] at b;exact a.symm.trans b
 . obtain ⟨k,_,rfl,_⟩:=S0.1 hc;obtain ⟨i,h1,h2,h3,rfl⟩:=TK.1 hx;obtain ⟨j,g1,g2,rfl⟩:=Lr.1 hy;refine TK.2 ⟨j,g1,g2,?_,rfl⟩;rw [h.const ht (Conn.step (Lr.2 ⟨i,h1,h2,rfl⟩) hy hr),h3]
 unfold Tj;refine List.Pairwise.imp_of_mem (R:=fun c d=>YI c<YI d) (fun {c d} hc hd hcd x y hx hy=>?_) ?_
 . rw [XF] at hc hd;rw [Rt (by simpa using hc.2)] at hx;rw [Rt (by simpa using hd.2)] at hy
   cases hx;cases hy;exact hcd
 rw [List.pairwise_filter,X7];refine List.pairwise_lt_range.imp fun {a b} hab ha hb=>?_;rw [h.own ht (by simpa using ha),h.own ht (by simpa using hb)];omega
def ZdD {α:Type} {rel:α->α->Prop}:∀{l m:List α},(∀a∈l,∀b∈l,rel a b->¬rel b a)->l.Pairwise rel->m.Pairwise rel->(∀c,c∈l↔c∈m)->l=m
 |[],[],_,_,_,_=>rfl
 |[],b::m,_,_,_,h=>by have:=(h b).2 sM;simp at this
 |a::l,[],_,_,_,h=>by have:=(h a).1 sM;simp at this
 | a ::l,b::m,ha,hl,hm,h=>by
   rw [Xy] at hl hm;have hab:a=b:=by
    have h1:=(h a).1 sM;have h2:=(h b).2 sM;rcases Xi.1 h1 with e|e
    . exact e
    rcases Xi.1 h2 with e2|e2
    . exact e2.symm
    exact Qe (hm.1 a e) (ha a sM b h2 (hl.1 b e2))
   subst hab;have hirr:¬rel a a:=fun hr=>ha a sM a sM hr hr;rw [ZdD (fun x hx y hy=>ha x (by simp [hx]) y (by simp [hy])) hl.2 hm.2 fun x=>?_];constructor
   . intro hx;rcases Xi.1 ((h x).1 (by simp [hx])) with e|e
     . subst e;exact Qe (hl.1 _ hx) hirr
     exact e
   intro hx;rcases Xi.1 ((h x).2 (by simp [hx])) with e|e
   . subst e;exact Qe (hm.1 _ hx) hirr
   exact e
def ZfE {α:Type} (out:List α) (c:α) (k:Nat):(out.take k++c::out.drop k).Perm (out++[c]):=by
 refine List.perm_middle.trans ?_
 rw [Vw]
 exact (UI c out).symm
def ZaC {α:Type} {rel:α->α->Prop} {out:List α} {c:α} {k:Nat} (hs:out.Pairwise rel) (h1:∀j x,j<k->out[j]? =some x->rel x c) (h2:∀x,out[k]? =some x->rel c x) (htr:∀x∈out,∀y∈out,rel c x->rel x y->rel c y):(out.take k++c::out.drop k).Pairwise rel:=by
 have hs':=hs
 rw [<-Vw k out,UG] at hs
 rw [UG,Xy]
 have hd:∀y∈out.drop k,rel c y:=fun y hy=>by
  cases hdr:out.drop k with
  |nil=>rw [hdr] at hy;simp at hy
  | cons x t=>
    have hx:out[k]? =some x:=by
     (have:(out.drop k)[0]? =some x:=by rw [hdr];rfl);rw [Vn,VO] at this;exact this
    have hcx:=h2 x hx;have hp:=hs.2.1;rw [hdr] at hy hp;rw [Xy] at hp;rcases Xi.1 hy with e|e
    . rw [e];exact hcx
    exact htr x (Xb hx) y (List.mem_of_mem_drop (by rw [hdr];exact hy)) hcx (hp.1 y e)
 refine ⟨hs.1,⟨hd,hs.2.1⟩,fun a ha b hb=>?_⟩
 rcases Xi.1 hb with e|e
 . obtain ⟨j,hj⟩:=XM ha;have hjl:=Zd hj;rw [XA] at hjl;rw [X1 oM] at hj;rw [e];exact h1 j a oM hj
 exact hs.2.2 a ha b e
def LabPass.less {n:Nat} {I:Nat->Bool} {r:Int->Int->Bool} {t:Nat->Nat->Bool} {lab0 lab:Nat->Nat} {ag:Bool} {a b:Nat} (h:LabPass n I r t lab0 lab ag a b):sumTo n lab+(if ag then 1 else 0)<sumTo n lab0+(if true then 1 else 0):=by
 cases hg:ag with
 |true=>have:=h.les hg;simp;omega
 |false=>rw [(h.eq hg).1];simp
def Kj (n:Nat) (c:List Int):List Int:=(List.range n).flatMap fun k:Nat=>c.filter fun x=>decide (x=(k:Int))
def Pm {n:Nat} {c:List Int} {x:Int}:x∈Kj n c↔x∈c/\0<=x/\x<n:=by
 unfold Kj
 simp only [Us,XT,XF,U']
 constructor
 . rintro ⟨k,h1,h2,rfl⟩;exact ⟨h2,oM,oM⟩
 rintro ⟨h1,h2,h3⟩;exact ⟨x.toNat,oM,h1,oM⟩
def ZaD (n:Nat) (c:List Int):Kj (n+1) c=Kj n c++c.filter fun x=>decide (x=(n:Int)):=by
 unfold Kj
 rw [VS,XR];simp
def Pn {c:List Int} (h:c.Nodup):∀n,(Kj n c).Pairwise (· < ·)
 |0=>List.Pairwise.nil
 | n +1=>by
   rw [ZaD,UG];refine ⟨Pn h n,List.Pairwise.imp_of_mem (R:=(· ≠ ·)) (fun {a b} ha hb hab=>?_) (List.Pairwise.filter _ h),fun a ha b hb=>?_⟩
   . simp only [XF,U'] at ha hb;exact Qe (ha.2.trans hb.2.symm) hab
   have:=Pm.1 ha;simp only [XF,U'] at hb;omega
def ZaE {n:Nat} {c:List Int} (h:c.Pairwise (· < ·)) (hb:∀x∈c,0<=x/\x<n):Kj n c=c:=
 ζr (Pn (h.imp fun h=>oM) n) h fun x=>by rw [Pm];exact ⟨fun h=>h.1,fun h=>⟨h,hb x h⟩⟩
def ZaF {n:Nat} {c:List Int} (h:c.Nodup) (hb:∀x∈c,0<=x/\x<n):Kj n c=c.mergeSort fun x y=>decide (x<=y):=
 ζr (Pn h n) (Zav h) fun x=>by rw [Pm,Jd];exact ⟨fun h=>h.1,fun h=>⟨h,hb x h⟩⟩
def KS (c:List Int):Int:=c.foldl (fun a b=>if b<a then b else a) (YI c)
def CR:∀(c:List Int) (a:Int),(c.foldl (fun a b=>if b<a then b else a) a<=a)/\(∀x∈c,c.foldl (fun a b=>if b<a then b else a) a<=x)/\(c.foldl (fun a b=>if b<a then b else a) a=a\/c.foldl (fun a b=>if b<a then b else a) a∈c)
 |[],a=>⟨Uj _,sM, .inl rfl⟩
 | y :: c,a=>by
   rw [Vq];obtain ⟨h1,h2,h3⟩:=CR c (if y<a then y else a);have h4:(if y<a then y else a)<=a/\(if y<a then y else a)<=y/\((if y<a then y else a)=a\/(if y<a then y else a)=y):=by split<;>omega
   refine ⟨oM,fun x hx=>?_,?_⟩
   . rcases Xi.1 hx with e|e
     . rw [e];omega
     exact h2 x e
   rcases h3 with h3|h3
   . rcases h4.2.2 with h5|h5
     . exact .inl (h3.trans h5)
     exact .inr (by rw [h3,h5];simp)
   exact .inr (by simp [h3])
def ON {c:List Int} (h:c≠[]):KS c∈c/\∀x∈c,KS c<=x:=by
 obtain ⟨h1,h2,h3⟩:=CR c (YI c)
 refine ⟨?_,h2⟩
 rcases h3 with h3|h3
 . unfold KS;rw [h3];exact JS h
 exact h3
def Zlb {c:List Int} (h:c≠[]) (ha:c.Pairwise (· < ·)):∀x∈c,YI c<=x:=by
 cases c with
 |nil=>exact Qe rfl h
 | cons a t=>
   intro x hx;rw [Xy] at ha;rcases Xi.1 hx with e|e
   . rw [e];exact Uj _
   have:=ha.1 x e;show a<=x;omega
def CS {n:Nat} {c:List Int} (h:c≠[]) (hn:c.Nodup) (hb:∀x∈c,0<=x/\x<n):YI (Kj n c)=KS c:=by
 obtain ⟨h1,h2⟩:=ON h
 have hm:∀x,x∈Kj n c↔x∈c:=fun x=>by rw [Pm];exact ⟨fun h=>h.1,fun h=>⟨h,hb x h⟩⟩
 have hne:Kj n c≠[]:=fun e=>by have:=(hm _).2 h1;rw [e] at this;simp at this
 have h3:=Zlb hne (Pn hn n) _ ((hm _).2 h1)
 have h4:=h2 _ ((hm _).1 (JS hne))
 omega
