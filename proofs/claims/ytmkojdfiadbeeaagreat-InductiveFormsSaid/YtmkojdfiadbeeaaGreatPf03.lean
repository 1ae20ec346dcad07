/-
  Walks of functions and plain laws of the chapter, as the claim needs them.
-/
import Derived.Shelf.SlSortCmp.InsertionK
import Derived.Shelf.SlSortCmp.Kit1
import Derived.Maps.RangeRun
import Derived.DeepKeys3
import Derived.Lib.SliceRun
import Derived.Laws.StructEq
import Derived.Lib.Bytealg
import Derived.Test.YtmkojdfiadbeeaaGreatPf02
import Derived.Test.YtmkojdfiadbeeaaGreatPf01
namespace Go.Proofs.YtmkojdfiadbeeaaGreat
open Go.RowKit Go.Cb Go.En Tryz
set_option linter.all false
set_option maxRecDepth 100000
theorem Wh:AggT prog 169 2=true:=by kernel_rfl
theorem K7:AggT prog 28 2=true:=by kernel_rfl
theorem Ya:NoAgg prog 3=true:=by kernel_rfl
theorem LB:NoAgg prog 90=true:=by kernel_rfl
theorem ZQ:SlT prog 22 28 2=true:=by kernel_rfl
theorem WB:SlT prog 31 169 2=true:=by kernel_rfl
theorem Ke:SlT prog 88 90 1=true:=by kernel_rfl
theorem Yb:SlT prog 90 3 1=true:=by kernel_rfl
structure Cnt where
 name:ByteArray
 n:Int
structure Flw where
 src:ByteArray
 dst:ByteArray
 n:Int
structure Dfg where
 acts:List Cnt
 starts:List Cnt
 ends:List Cnt
 follows:List Flw
def RS (x:Cnt):List PV:=[ZD x.name,Zf x.n]
def RU (x:Flw):List PV:=[ZD x.src,ZD x.dst,Zf x.n]
theorem Kf (x:Cnt):(RS x).length=2:=rfl
theorem GV (x:Flw):(RU x).length=3:=rfl
def JI (l:List Cnt):PV:= .sl l.length (l.flatMap RS)
def ZbU (l:List Flw):PV:= .sl l.length (l.flatMap RU)
def KZ (g:Dfg):PV:= .agg [JI g.acts,JI g.starts,JI g.ends,ZbU g.follows]
def pInts (l:List Int):PV:= .sl l.length (l.map Zf)
def RV (l:List (List Int)):PV:= .sl l.length (l.map pInts)
theorem O0 (f:Nat) (caps:List PV) (p:ByteArray→Bool) (l:List (ByteArray)) (hc:∀args w,(callFunc f args).run prog w= .ok (.enter f args) w) (hf:∀s∈l,AF prog f (ZD s::caps) (· =ZB (p s))):AF prog 84 [ZT l, .fn f caps] (· =Zf (idx p l)):=by
 refine AF.of_body 19 func84 rfl ntmps84 (Xa rfl) ?_
 intro w0 M0 vs hl hv
 obtain ⟨v0,v1,rfl⟩:=W7 hl
 clear hl hv
 refine Y2 0 rfl fun hlen=>?_
 refine Zd ?_
 (refine xL 4 Zb ?_<;>refine Zi ?_)
 (refine xL 6 Za (xL 7 (ZF Zx) (xL 8 Za ?_))<;>refine Zc ?_)
 refine Zy (ι:={k:Nat//k≤l.length∧∀i y,i<k→l[i]? =some y→p y=false}) (fun k=>⟨[(0,_,_),(1,_,_),(7,_,_),(8, .int .i64 k.1,Zf k.1)],[]⟩) (fun k=>l.length-k.1) ⟨0,oM,oM⟩ (fun a w H=>H.weaken ⟨rfl,rfl,rfl,rfl,trivial⟩ trivial) ?_
 rintro ⟨k,hk,hp⟩
 dsimp only
 refine Zd ?_
 (refine xL 9 ZI ?_<;>refine Zc ?_)
 refine cX ?_ ?_<;>intro hb9
 · first |exact bN hb9|(
 obtain ⟨x,hx⟩:=Zm (show k<l.length by omega);have e1:=Yq (f:=ZD) hx;refine Zd ?_;(refine xL 10 Za (xL 5 Zb ?_)<;>refine Zi ?_)
 (refine xL 11 Za (xL 12 Za (xL 13 Za (xL 14 (Zv Zx) ?_)))<;>(refine yL 15 (ZN ZP) fun v15 h=>?_;cases h)<;>(refine cS 16 (J7 (f:=f) (ps:=caps) rfl ⟨_,rfl⟩ hc rfl (hf x (Xb hx))) fun v16 h=>?_;cases h)<;>refine Zc ?_)
 refine cX ?_ ?_<;>intro hb16
 · first|exact bN hb16|(
 refine Zd ?_;(refine xL 17 Za (xL 4 Zb ?_)<;>refine Zc ?_)
 refine Zl (results84) rfl ?_;rw [Lm hp hx hb16])
 · first|exact bN hb16|(
 refine Zd ?_;(refine xL 18 ZH (xL 8 Za ?_)<;>refine Zc ?_)
 refine Zh (
  ⟨k+1,oM,fun i y hi hy=>by
   by_cases e:i=k
   · subst e;rw [hx] at hy;cases hy;exact hb16
   · exact hp i y oM hy⟩
  ) (by dsimp only;omega) ⟨rfl,rfl,rfl,rfl,trivial⟩ trivial))
 · first|exact bN hb9|(
 refine Zd ?_;(refine xL 4 Zb ?_<;>refine Zc ?_)
 refine Zl (results84) rfl ?_;rw [Ln fun i y hi hy=>hp i y oM hy])
theorem Ky (f:Nat) (caps:List PV) (p:ByteArray→Bool) (l:List (ByteArray)) (hc:∀args w,(callFunc f args).run prog w= .ok (.enter f args) w) (hf:∀s∈l,AF prog f (ZD s::caps) (· =ZB (p s))):AF prog 27 [ZT l, .fn f caps] (· =ZB (l.any p)):=by
 refine AF.of_body 9 func27 rfl ntmps27 (Xa rfl) ?_
 intro w0 M0 vs hl hv
 obtain ⟨v0,v1,rfl⟩:=W7 hl
 clear hl hv
 refine Zd ?_
 (refine xL 4 Zb ?_<;>refine Zi ?_)
 (refine xL 5 Za (xL 6 Za ?_)<;>(refine cS 7 (cA call84 (O0 f caps p l hc hf)) fun v7 h=>?_;cases h)<;>refine xL 8 Kj (xL 4 Zb ?_)<;>refine Zc ?_)
 refine Zl (results27) rfl ?_
 rw [T0]
theorem O1 (f:Nat) (caps:List PV) (p:Int→Bool) (l:List (Int)) (hc:∀args w,(callFunc f args).run prog w= .ok (.enter f args) w) (hf:∀s∈l,AF prog f (Zf s::caps) (· =ZB (p s))):AF prog 158 [pInts l, .fn f caps] (· =Zf (idx p l)):=by
 refine AF.of_body 19 func158 rfl ntmps158 (Xa rfl) ?_
 intro w0 M0 vs hl hv
 obtain ⟨v0,v1,rfl⟩:=W7 hl
 clear hl hv
 refine Y2 0 rfl fun hlen=>?_
 refine Zd ?_
 (refine xL 4 Zb ?_<;>refine Zi ?_)
 (refine xL 6 Za (xL 7 (ZF Yb) (xL 8 Za ?_))<;>refine Zc ?_)
 refine Zy (ι:={k:Nat//k≤l.length∧∀i y,i<k→l[i]? =some y→p y=false}) (fun k=>⟨[(0,_,_),(1,_,_),(7,_,_),(8, .int .i64 k.1,Zf k.1)],[]⟩) (fun k=>l.length-k.1) ⟨0,oM,oM⟩ (fun a w H=>H.weaken ⟨rfl,rfl,rfl,rfl,trivial⟩ trivial) ?_
 rintro ⟨k,hk,hp⟩
 dsimp only
 refine Zd ?_
 (refine xL 9 ZI ?_<;>refine Zc ?_)
 refine cX ?_ ?_<;>intro hb9
 · first |exact bN hb9|(
 obtain ⟨x,hx⟩:=Zm (show k<l.length by omega);have e1:=Yq (f:=Zf) hx;refine Zd ?_;(refine xL 10 Za (xL 5 Zb ?_)<;>refine Zi ?_)
 (refine xL 11 Za (xL 12 Za (xL 13 Za (xL 14 (Zv Yb) ?_)))<;>(refine yL 15 (ZN Ya) fun v15 h=>?_;cases h)<;>(refine cS 16 (J7 (f:=f) (ps:=caps) rfl ⟨_,rfl⟩ hc rfl (hf x (Xb hx))) fun v16 h=>?_;cases h)<;>refine Zc ?_)
 refine cX ?_ ?_<;>intro hb16
 · first|exact bN hb16|(
 refine Zd ?_;(refine xL 17 Za (xL 4 Zb ?_)<;>refine Zc ?_)
 refine Zl (results158) rfl ?_;rw [Lm hp hx hb16])
 · first|exact bN hb16|(
 refine Zd ?_;(refine xL 18 ZH (xL 8 Za ?_)<;>refine Zc ?_)
 refine Zh (
  ⟨k+1,oM,fun i y hi hy=>by
   by_cases e:i=k
   · subst e;rw [hx] at hy;cases hy;exact hb16
   · exact hp i y oM hy⟩
  ) (by dsimp only;omega) ⟨rfl,rfl,rfl,rfl,trivial⟩ trivial))
 · first|exact bN hb9|(
 refine Zd ?_;(refine xL 4 Zb ?_<;>refine Zc ?_)
 refine Zl (results158) rfl ?_;rw [Ln fun i y hi hy=>hp i y oM hy])
theorem Rb (f:Nat) (caps:List PV) (p:Int→Bool) (l:List (Int)) (hc:∀args w,(callFunc f args).run prog w= .ok (.enter f args) w) (hf:∀s∈l,AF prog f (Zf s::caps) (· =ZB (p s))):AF prog 108 [pInts l, .fn f caps] (· =ZB (l.any p)):=by
 refine AF.of_body 9 func108 rfl ntmps108 (Xa rfl) ?_
 intro w0 M0 vs hl hv
 obtain ⟨v0,v1,rfl⟩:=W7 hl
 clear hl hv
 refine Zd ?_
 (refine xL 4 Zb ?_<;>refine Zi ?_)
 (refine xL 5 Za (xL 6 Za ?_)<;>(refine cS 7 (cA call158 (O1 f caps p l hc hf)) fun v7 h=>?_;cases h)<;>refine xL 8 Kj (xL 4 Zb ?_)<;>refine Zc ?_)
 refine Zl (results108) rfl ?_
 rw [T0]
theorem P6 (f:Nat) (caps:List PV) (p:List Int→Bool) (l:List (List Int)) (hc:∀args w,(callFunc f args).run prog w= .ok (.enter f args) w) (hf:∀s∈l,AF prog f (pInts s::caps) (· =ZB (p s))):AF prog 58 [RV l, .fn f caps] (· =Zf (idx p l)):=by
 refine AF.of_body 19 func58 rfl ntmps58 (Xa rfl) ?_
 intro w0 M0 vs hl hv
 obtain ⟨v0,v1,rfl⟩:=W7 hl
 clear hl hv
 refine Y2 0 rfl fun hlen=>?_
 refine Zd ?_
 (refine xL 4 Zb ?_<;>refine Zi ?_)
 (refine xL 6 Za (xL 7 (ZF Ke) (xL 8 Za ?_))<;>refine Zc ?_)
 refine Zy (ι:={k:Nat//k≤l.length∧∀i y,i<k→l[i]? =some y→p y=false}) (fun k=>⟨[(0,_,_),(1,_,_),(7,_,_),(8, .int .i64 k.1,Zf k.1)],[]⟩) (fun k=>l.length-k.1) ⟨0,oM,oM⟩ (fun a w H=>H.weaken ⟨rfl,rfl,rfl,rfl,trivial⟩ trivial) ?_
 rintro ⟨k,hk,hp⟩
 dsimp only
 refine Zd ?_
 (refine xL 9 ZI ?_<;>refine Zc ?_)
 refine cX ?_ ?_<;>intro hb9
 · first |exact bN hb9|(
 obtain ⟨x,hx⟩:=Zm (show k<l.length by omega);have e1:=Yq (f:=pInts) hx;refine Zd ?_;(refine xL 10 Za (xL 5 Zb ?_)<;>refine Zi ?_)
 (refine xL 11 Za (xL 12 Za (xL 13 Za (xL 14 (Zv Ke) ?_)))<;>(refine yL 15 (ZN LB) fun v15 h=>?_;cases h)<;>(refine cS 16 (J7 (f:=f) (ps:=caps) rfl ⟨_,rfl⟩ hc rfl (hf x (Xb hx))) fun v16 h=>?_;cases h)<;>refine Zc ?_)
 refine cX ?_ ?_<;>intro hb16
 · first|exact bN hb16|(
 refine Zd ?_;(refine xL 17 Za (xL 4 Zb ?_)<;>refine Zc ?_)
 refine Zl (results58) rfl ?_;rw [Lm hp hx hb16])
 · first|exact bN hb16|(
 refine Zd ?_;(refine xL 18 ZH (xL 8 Za ?_)<;>refine Zc ?_)
 refine Zh (
  ⟨k+1,oM,fun i y hi hy=>by
   by_cases e:i=k
   · subst e;rw [hx] at hy;cases hy;exact hb16
   · exact hp i y oM hy⟩
  ) (by dsimp only;omega) ⟨rfl,rfl,rfl,rfl,trivial⟩ trivial))
 · first|exact bN hb9|(
 refine Zd ?_;(refine xL 4 Zb ?_<;>refine Zc ?_)
 refine Zl (results58) rfl ?_;rw [Ln fun i y hi hy=>hp i y oM hy])
theorem O2 (f:Nat) (caps:List PV) (p:Var→Bool) (l:List (Var)) (hc:∀args w,(callFunc f args).run prog w= .ok (.enter f args) w) (hf:∀s∈l,AF prog f (.agg (Wn s)::caps) (· =ZB (p s))):AF prog 43 [Z4 l, .fn f caps] (· =Zf (idx p l)):=by
 refine AF.of_body 19 func43 rfl ntmps43 (Xa rfl) ?_
 intro w0 M0 vs hl hv
 obtain ⟨v0,v1,rfl⟩:=W7 hl
 clear hl hv
 refine Y2 0 rfl fun hlen=>?_
 refine Zd ?_
 (refine xL 4 Zb ?_<;>refine Zi ?_)
 (refine xL 6 Za (xL 7 (ZF ZQ) (xL 8 Za ?_))<;>refine Zc ?_)
 refine Zy (ι:={k:Nat//k≤l.length∧∀i y,i<k→l[i]? =some y→p y=false}) (fun k=>⟨[(0,_,_),(1,_,_),(7,_,_),(8, .int .i64 k.1,Zf k.1)],[]⟩) (fun k=>l.length-k.1) ⟨0,oM,oM⟩ (fun a w H=>H.weaken ⟨rfl,rfl,rfl,rfl,trivial⟩ trivial) ?_
 rintro ⟨k,hk,hp⟩
 dsimp only
 refine Zd ?_
 (refine xL 9 ZI ?_<;>refine Zc ?_)
 refine cX ?_ ?_<;>intro hb9
 · first |exact bN hb9|(
 obtain ⟨x,hx⟩:=Zm (show k<l.length by omega);have e1:=Yz Ys l k x hx;have e2:=YT Ys hx;refine Zd ?_;(refine xL 10 Za (xL 5 Zb ?_)<;>refine Zi ?_)
 (refine xL 11 Za (xL 12 Za (xL 13 Za (xL 14 (Zv ZQ) ?_)))<;>(refine yL 15 (Wl K7) fun v15 h=>?_;cases h)<;>(refine cS 16 (J7 (f:=f) (ps:=caps) rfl ⟨_,rfl⟩ hc rfl (hf x (Xb hx))) fun v16 h=>?_;cases h)<;>refine Zc ?_)
 refine cX ?_ ?_<;>intro hb16
 · first|exact bN hb16|(
 refine Zd ?_;(refine xL 17 Za (xL 4 Zb ?_)<;>refine Zc ?_)
 refine Zl (results43) rfl ?_;rw [Lm hp hx hb16])
 · first|exact bN hb16|(
 refine Zd ?_;(refine xL 18 ZH (xL 8 Za ?_)<;>refine Zc ?_)
 refine Zh (
  ⟨k+1,oM,fun i y hi hy=>by
   by_cases e:i=k
   · subst e;rw [hx] at hy;cases hy;exact hb16
   · exact hp i y oM hy⟩
  ) (by dsimp only;omega) ⟨rfl,rfl,rfl,rfl,trivial⟩ trivial))
 · first|exact bN hb9|(
 refine Zd ?_;(refine xL 4 Zb ?_<;>refine Zc ?_)
 refine Zl (results43) rfl ?_;rw [Ln fun i y hi hy=>hp i y oM hy])
theorem G9 (f:Nat) (caps:List PV) (p:Var→Bool) (l:List (Var)) (hc:∀args w,(callFunc f args).run prog w= .ok (.enter f args) w) (hf:∀s∈l,AF prog f (.agg (Wn s)::caps) (· =ZB (p s))):AF prog 38 [Z4 l, .fn f caps] (· =ZB (l.any p)):=by
 refine AF.of_body 9 func38 rfl ntmps38 (Xa rfl) ?_
 intro w0 M0 vs hl hv
 obtain ⟨v0,v1,rfl⟩:=W7 hl
 clear hl hv
 refine Zd ?_
 (refine xL 4 Zb ?_<;>refine Zi ?_)
 (refine xL 5 Za (xL 6 Za ?_)<;>(refine cS 7 (cA call43 (O2 f caps p l hc hf)) fun v7 h=>?_;cases h)<;>refine xL 8 Kj (xL 4 Zb ?_)<;>refine Zc ?_)
 refine Zl (results38) rfl ?_
 rw [T0]
theorem RX (f:Nat) (caps:List PV) (p:Cnt→Bool) (l:List (Cnt)) (hc:∀args w,(callFunc f args).run prog w= .ok (.enter f args) w) (hf:∀s∈l,AF prog f (.agg (RS s)::caps) (· =ZB (p s))):AF prog 208 [JI l, .fn f caps] (· =Zf (idx p l)):=by
 refine AF.of_body 19 func208 rfl ntmps208 (Xa rfl) ?_
 intro w0 M0 vs hl hv
 obtain ⟨v0,v1,rfl⟩:=W7 hl
 clear hl hv
 refine Y2 0 rfl fun hlen=>?_
 refine Zd ?_
 (refine xL 4 Zb ?_<;>refine Zi ?_)
 (refine xL 6 Za (xL 7 (ZF WB) (xL 8 Za ?_))<;>refine Zc ?_)
 refine Zy (ι:={k:Nat//k≤l.length∧∀i y,i<k→l[i]? =some y→p y=false}) (fun k=>⟨[(0,_,_),(1,_,_),(7,_,_),(8, .int .i64 k.1,Zf k.1)],[]⟩) (fun k=>l.length-k.1) ⟨0,oM,oM⟩ (fun a w H=>H.weaken ⟨rfl,rfl,rfl,rfl,trivial⟩ trivial) ?_
 rintro ⟨k,hk,hp⟩
 dsimp only
 refine Zd ?_
 (refine xL 9 ZI ?_<;>refine Zc ?_)
 refine cX ?_ ?_<;>intro hb9
 · first |exact bN hb9|(
 obtain ⟨x,hx⟩:=Zm (show k<l.length by omega);have e1:=Yz Kf l k x hx;have e2:=YT Kf hx;refine Zd ?_;(refine xL 10 Za (xL 5 Zb ?_)<;>refine Zi ?_)
 (refine xL 11 Za (xL 12 Za (xL 13 Za (xL 14 (Zv WB) ?_)))<;>(refine yL 15 (Wl Wh) fun v15 h=>?_;cases h)<;>(refine cS 16 (J7 (f:=f) (ps:=caps) rfl ⟨_,rfl⟩ hc rfl (hf x (Xb hx))) fun v16 h=>?_;cases h)<;>refine Zc ?_)
 refine cX ?_ ?_<;>intro hb16
 · first|exact bN hb16|(
 refine Zd ?_;(refine xL 17 Za (xL 4 Zb ?_)<;>refine Zc ?_)
 refine Zl (results208) rfl ?_;rw [Lm hp hx hb16])
 · first|exact bN hb16|(
 refine Zd ?_;(refine xL 18 ZH (xL 8 Za ?_)<;>refine Zc ?_)
 refine Zh (
  ⟨k+1,oM,fun i y hi hy=>by
   by_cases e:i=k
   · subst e;rw [hx] at hy;cases hy;exact hb16
   · exact hp i y oM hy⟩
  ) (by dsimp only;omega) ⟨rfl,rfl,rfl,rfl,trivial⟩ trivial))
 · first|exact bN hb9|(
 refine Zd ?_;(refine xL 4 Zb ?_<;>refine Zc ?_)
 refine Zl (results208) rfl ?_;rw [Ln fun i y hi hy=>hp i y oM hy])
theorem Sp (f:Nat) (caps:List PV) (p:Cnt→Bool) (l:List (Cnt)) (hc:∀args w,(callFunc f args).run prog w= .ok (.enter f args) w) (hf:∀s∈l,AF prog f (.agg (RS s)::caps) (· =ZB (p s))):AF prog 144 [JI l, .fn f caps] (· =ZB (l.any p)):=by
 refine AF.of_body 9 func144 rfl ntmps144 (Xa rfl) ?_
 intro w0 M0 vs hl hv
 obtain ⟨v0,v1,rfl⟩:=W7 hl
 clear hl hv
 refine Zd ?_
 (refine xL 4 Zb ?_<;>refine Zi ?_)
 (refine xL 5 Za (xL 6 Za ?_)<;>(refine cS 7 (cA call208 (RX f caps p l hc hf)) fun v7 h=>?_;cases h)<;>refine xL 8 Kj (xL 4 Zb ?_)<;>refine Zc ?_)
 refine Zl (results144) rfl ?_
 rw [T0]
theorem Z3:FldT prog 28 0 0=true:=by kernel_rfl
theorem WW:FldT prog 28 1 1=true:=by kernel_rfl
theorem ZX:NoAgg prog 26=true:=by kernel_rfl
theorem RY:ZeroT prog 28 (.agg #[(.slice none 0 0),(.int .i64 0)]):=by unfold ZeroT;kernel_rfl
def Hc (l:List ByteArray):Prop:=l.length≤140737488355328∧∀s∈l,s.size≤140737488355328
def Hd (l:List Var):Prop:=l.length≤140737488355328∧∀x∈l,Hc x.acts∧-9223372036854775808≤x.count∧x.count≤9223372036854775807
theorem CY {α β:Type} (f:α→β) (l:List α):l.map f=l.flatMap fun x=>[f x]:=by
 induction l with
 |nil=>rfl
 |cons x l ih=>rw [Xk,ih];rfl
theorem ZaE (s:ByteArray) (hs:s.size≤9223372036854775807):AF prog 97 [ZD s] (· =ZB (!isName s)):=by
 refine AF.of_body 6 func97 rfl ntmps97 (Xa rfl) ?_
 intro w0 M0 vs hl hv
 obtain ⟨v0,rfl⟩:=YG hl
 obtain rfl:=hv 0 _ _ rfl rfl
 clear hl hv
 refine Zd ?_
 (refine xL 2 Zb ?_<;>refine Zi ?_)
 (refine xL 3 Za ?_<;>(refine cS 4 (cA call98 (S7 s hs)) fun v4 h=>?_;cases h)<;>refine xL 5 Yd (xL 2 Zb ?_)<;>refine Zc ?_)
 exact Zl results97 rfl rfl
theorem Zdl (l:List ByteArray) (hf:Hc l):AF prog 41 [ZT l] (· =ZB (l.all isName)):=by
 refine AF.of_body 6 func41 rfl ntmps41 (Xa rfl) ?_
 intro w0 M0 vs hl hv
 obtain ⟨v0,rfl⟩:=YG hl
 clear hl hv
 refine Zd ?_
 (refine xL 2 Zb ?_<;>refine Zi ?_)
 (refine xL 3 Za ?_<;>(refine cS 4 (cA call27 (Ky 97 [] (fun s=> !isName s) l (call97) (fun s hs=>ZaE s (by have:=hf.2 s hs;omega)))) fun v4 h=>?_;cases h)<;>refine xL 5 Yd (xL 2 Zb ?_)<;>refine Zc ?_)
 refine Zl (results41) rfl (Lw ?_)
 simp
theorem Jz {x:Var} (h:200<x.acts.length∨x.acts.all isName=false∨x.count<1∨1048576<x.count):WT x=false:=by
 unfold WT
 rcases h with h|h|h|h
 · rw [Uz (show ¬x.acts.length≤200 by omega)];simp
 · rw [h];simp
 · rw [Uz (show ¬1≤x.count by omega)];simp
 · rw [Uz (show ¬x.count≤1048576 by omega)];simp
theorem RZ {x:Var} (h1:x.acts.length≤200) (h2:x.acts.all isName=true) (h3:1≤x.count) (h4:x.count≤1048576):WT x=true:=by
 unfold WT;rw [Uy h1,h2,Uy h3,Uy h4];rfl
theorem Km {l:List Var} {k:Nat} {x:Var} (h:l[k]? =some x) (ho:WT x=false):Jp l k=false:=by
 unfold Jp;rw [h];simp [ho]
theorem O3 {l:List Var} {k:Nat} {x y:Var} (h:l[k]? =some x) (hy:l[k-1]? =some y) (hk:0<k) (hc:0≤cmpStrs y.acts x.acts):Jp l k=false:=by
 rw [OA h hy hk,Uz (show ¬cmpStrs y.acts x.acts<0 by omega)];simp
theorem TD {l:List Var} {k:Nat} {x y:Var} (h:l[k]? =some x) (hy:l[k-1]? =some y) (ho:WT x=true) (hc:0<k→cmpStrs y.acts x.acts<0):Jp l k=true:=by
 rcases VQ k with h0|h0
 · subst h0;rw [Cs h];exact ho
 · rw [OA h hy h0,ho,Uy (hc h0)];rfl
theorem Kq (l : List Var) (hf:Hd l):AF prog 9 [Z4 l] (· =ZB (validVars l)):=by
 refine AF.of_body 52 func9 rfl ntmps9 (Xa rfl) ?_
 intro w0 M0 vs hl hv
 obtain ⟨v0,rfl⟩:=YG hl
 clear hl hv
 refine Y2 0 rfl fun hlen=>?_
 refine Zd ?_
 (refine xL 2 Zb ?_<;>refine Zi ?_)
 (refine xL 5 Za (xL 6 (ZF ZQ) (xL 7 YV ?_))<;>refine Zc ?_)
 refine cX ?_ ?_<;>intro hb7
 · first|exact bN hb7|(
 refine Zd ?_;(refine xL 2 Zb ?_<;>refine Zc ?_)
 refine Zl (results9) rfl ?_;rw [show validVars l=false by unfold validVars;rw [Uz (show ¬l.length≤300 by omega)];simp])
 · first | exact bN hb7|(
 refine Zd ?_;(refine xL 8 Za (xL 9 (ZF ZQ) (xL 10 Za ?_))<;>refine Zc ?_)
 refine Zy (ι:={k:Nat//k≤l.length∧∀j,j<k→Jp l j=true}) (fun k=>⟨[(0,_,_),(8,_,_),(9,_,_),(10, .int .i64 k.1,Zf k.1)],[]⟩) (fun k=>l.length-k.1) ⟨0,oM,oM⟩ (fun a w H=>H.weaken ⟨rfl,rfl,rfl,rfl,trivial⟩ trivial) ?_;rintro ⟨k,hk,hp⟩;dsimp only;refine Zd ?_;(refine xL 11 ZI ?_<;>refine Zc ?_)
 refine cX ?_ ?_<;>intro hb11
 · first | exact bN hb11|(
 have hlt:k<l.length:=oM;obtain ⟨x,hx⟩:=Zm hlt;obtain ⟨y,hy⟩:=Zm (show k-1<l.length by omega);have e1:=Yz Ys l k x hx;have e2:=YT Ys hx;(have e3:(l.flatMap Wn)[((k:Int)-1).toNat*2+0]? =some (ZT y.acts):=by rw [show ((k:Int)-1).toNat*2+0=(k-1)*2+0 by omega];exact WU Ys hy dC);have hfx:=hf.2 x (Xb hx);have hxl:=hfx.1.1;refine Zd ?_;(refine xL 12 Za (xL 13 (Zv ZQ) ?_)<;>(refine yL 14 (Wl K7) fun v14 h=>?_;cases h)<;>refine ZA [(.slice none 0 0),(.int .i64 0)] 2 4 RY fun h4=>?_<;>refine xL 3 Zb ?_<;>refine Zw 4 K7 ?_<;>refine Zc ?_)
 (refine ZM (fun i=>([]:List Nat).elem i) [4] kR ?_<;>refine xE 0 15 rfl (Zn 4 Z3) ?_<;>(refine yE 1 16 rfl (Zr 4 ZX) fun v16 h=>?_;cases h)<;>refine xE 2 17 rfl (ZF Zx) ?_<;>refine xE 3 18 rfl YV ?_<;>refine xE 4 19 rfl Za ?_<;>(refine bDd 19 (fun hb19=>?_) (fun hb19=>?_)<;>(first|refine kD 5 20 rfl ?_|refine xD 5 20 rfl (Zn 4 Z3) ?_))<;>(first|refine kD 6 21 rfl ?_|(refine yD 6 21 rfl (Zr 4 ZX) fun v21 h=>?_;cases h))<;>(refine Zk 7 kR ?_)<;>(refine Zg rfl fun w9 M9 N9 DQ back=>?_)<;>(first|refine kL 22 ?_|(refine cS 22 (cA call41 (Zdl x.acts hfx.1)) fun v22 h=>?_;cases h))<;>refine Ze (back _ (nrm ?_))<;>(first|refine kD 8 23 rfl ?_|refine xD 8 23 rfl Yd ?_)<;>refine xE 9 24 rfl Zt ?_<;>refine xE 10 25 rfl Za ?_<;>(first|refine kD 11 26 rfl ?_|(refine bD 25 (fun hb25=>?_) (fun hb25=>?_)<;>(first|refine kD 11 26 rfl ?_|refine xD 11 26 rfl (Zn 4 WW) ?_)))<;>(first|refine kD 12 27 rfl ?_|(refine yD 12 27 rfl (Zr 4 Ya) fun v27 h=>?_;cases h))<;>(first|refine kD 13 28 rfl ?_|refine xD 13 28 rfl ZI ?_)<;>refine xE 14 29 rfl Zt ?_<;>refine xE 15 30 rfl Za ?_<;>(first|refine kD 16 31 rfl ?_|(refine bDd 30 (fun hb30=>?_) (fun hb30=>?_)<;>(first|refine kD 16 31 rfl ?_|refine xD 16 31 rfl (Zn 4 WW) ?_)))<;>(first|refine kD 17 32 rfl ?_|(refine yD 17 32 rfl (Zr 4 Ya) fun v32 h=>?_;cases h))<;>(first|refine kD 18 33 rfl ?_|refine xD 18 33 rfl YV ?_)<;>refine xE 19 34 rfl Zt ?_<;>refine xE 20 35 rfl Za ?_<;>(first|refine kD 21 36 rfl ?_|(refine bDd 35 (fun hb35=>?_) (fun hb35=>?_)<;>(first|refine kD 21 36 rfl ?_|refine xD 21 36 rfl Za ?_)))<;>(first|refine kD 22 37 rfl ?_|refine xD 22 37 rfl YV ?_)<;>(first|refine kD 23 38 rfl ?_|refine xD 23 38 rfl Za ?_)<;>(first|refine kD 24 39 rfl ?_|(refine bDd 38 (fun hb38=>?_) (fun hb38=>?_)<;>(first|refine kD 24 39 rfl ?_|refine xD 24 39 rfl Za ?_)))<;>(first|refine kD 25 40 rfl ?_|refine xD 25 40 rfl Za ?_)<;>(first|refine kD 26 41 rfl ?_|refine xD 26 41 rfl KD ?_)<;>(first|refine kD 27 42 rfl ?_|refine xD 27 42 rfl (Ts ZQ) ?_)<;>(first|refine kD 28 43 rfl ?_|refine xD 28 43 rfl (YN Z3) ?_)<;>(first|refine kD 29 44 rfl ?_|(refine yD 29 44 rfl (ZN ZX) fun v44 h=>?_;cases h))<;>(first|refine kD 30 45 rfl ?_|refine xD 30 45 rfl (Zn 4 Z3) ?_)<;>(first|refine kD 31 46 rfl ?_|(refine yD 31 46 rfl (Zr 4 ZX) fun v46 h=>?_;cases h))<;>(refine Zk 32 kR ?_)<;>(refine Zg rfl fun w9 M9 N9 DQ back=>?_)<;>(first|refine kL 47 ?_|(refine cS 47 (cA call42 (D9 y.acts x.acts)) fun v47 h=>?_;cases h))<;>refine Ze (back _ (nrm ?_))<;>(first|refine kD 33 48 rfl ?_|refine xD 33 48 rfl Kj ?_)<;>(first|refine kD 34 49 rfl ?_|refine xD 34 49 rfl Zt ?_)<;>refine xE 35 50 rfl Zt ?_<;>refine Ym kR (nav ?_)<;>try dsimp only)<;>(
 refine cX ?_ ?_<;>intro hb50
 · first|exact bN hb50|(
 refine Zd ?_;(refine xL 2 Zb ?_<;>refine Zc ?_)
 refine Zl (results9) rfl ?_;rw [GO hlt]
 first
  |exact Km hx (Jz (.inl oM))
  |exact Km hx (Jz (.inr (.inl (by simpa using hb25))))
  |exact Km hx (Jz (.inr (.inr (.inl oM))))
  |exact Km hx (Jz (.inr (.inr (.inr oM))))
  |exact O3 hx hy oM oM)
 · first |exact bN hb50|(
 refine Zd ?_;(refine xL 51 ZH (xL 10 Za ?_)<;>refine Zc ?_)
 refine Zh (
  ⟨k +1,oM,fun j hj=>by
   by_cases e:j=k
   · subst e;exact TD hx hy (RZ oM (by simpa using hb25) oM oM) oM
   · exact hp j oM⟩
  ) (by dsimp only;omega) ⟨rfl,rfl,rfl,rfl,trivial⟩ trivial)))
 · first|exact bN hb11|(
 refine Zd ?_;(refine xL 2 Zb ?_<;>refine Zc ?_)
 refine Zl (results9) rfl ?_;rw [Ss oM (fun j hj=>hp j oM)]))
theorem KF:AggT prog 51 3=true:=by kernel_rfl
theorem PI:FldT prog 51 0 0=true:=by kernel_rfl
theorem Yw:FldT prog 51 1 1=true:=by kernel_rfl
theorem YZ:FldT prog 51 2 2=true:=by kernel_rfl
theorem CZ:NoAgg prog 3=true:=by kernel_rfl
theorem WM:NoAgg prog 49=true:=by kernel_rfl
theorem Wo:NoAgg prog 9=true:=by kernel_rfl
theorem WC:SlT prog 49 51 3=true:=by kernel_rfl
theorem Zdm:ZeroT prog 51 (.agg #[(.int .i64 0),(.string ByteArray.empty),(.slice none 0 0)]):=by unfold ZeroT;kernel_rfl
mutual
def cTr:Nd→List PV
 | .mk o a l=>[Zf o,ZD a, .sl l.length (Z6 l)]
def Z6:List Nd→List PV
 |[]=>[]
 |x::l=>cTr x++Z6 l
end
def Y4 (l:List Nd):PV:= .sl l.length (Z6 l)
def cN (t:Nd):List PV:=[Zf t.op,ZD t.act,Y4 t.l]
def pTr (t:Nd):PV:= .agg (cN t)
theorem Tb (t:Nd):(cN t).length=3:=rfl
theorem Y3 (l:List Nd):Z6 l=l.flatMap cN:=by
 induction l with
 |nil=>rfl
 | cons x l ih=>
   rw [Z6,ih,Xo];congr 1
   cases x;rfl
theorem Z9 {l:List Nd} {k:Nat} {x:Nd} (h:l[k]? =some x):((Z6 l).drop (k*3)).take 3=cN x:=by rw [Y3];exact Yz Tb l k x h
theorem Yu {l:List Nd} {k:Nat} {x:Nd} (h:l[k]? =some x):k*3+3≤(Z6 l).length:=by rw [Y3];exact YT Tb h
inductive FitT:Nd→Prop
 |mk (t:Nd) (h1:t.l.length≤140737488355328) (h2:t.act.size≤140737488355328) (h3: -9223372036854775808≤t.op) (h4:t.op≤9223372036854775807) (h:∀x∈t.l,FitT x):FitT t
theorem FitT.len {t:Nd}:FitT t→t.l.length≤140737488355328
 | .mk _ h _ _ _ _=>h
theorem FitT.sz {t:Nd}:FitT t→t.act.size≤140737488355328
 | .mk _ _ h _ _ _=>h
theorem FitT.p {t:Nd}:FitT t→∀x∈t.l,FitT x
 | .mk _ _ _ _ _ h=>h
theorem EJ (a:ByteArray):(a.toList==ByteArray.toList {data:= #[]})=decide (a=ByteArray.empty):=by
 rw [Vy,Ux]
 exact WL (a:=a) (b:=ByteArray.empty)
section
variable {o:Int} {a:ByteArray} {l:List Nd}
theorem LC:rightT (.mk o a l)=if o=1 then l.isEmpty&&isName a else if o=2 then l.isEmpty&&decide (a=ByteArray.empty) else if o=3∨o=4∨o=5 then !l.isEmpty&&decide (a=ByteArray.empty)
 else if o=6 then decide (l.length=2)&&decide (a=ByteArray.empty) else false:=rfl
theorem Zft (h:o=1):rightT (.mk o a l)=(decide ((l.length:Int)=0)&&isName a):=by
 rw [LC,UB h]
 congr 1
 cases l<;>simp<;>omega
theorem Zfu (h:o=2):rightT (.mk o a l)=(decide ((l.length:Int)=0)&&(a.toList==ByteArray.toList {data:= #[]})):=by
 rw [LC,EJ,UA oM,UB h]
 congr 1
 cases l<;>simp<;>omega
theorem R1 (h:o=3∨o=4∨o=5):rightT (.mk o a l)=(decide (1≤(l.length:Int))&&(a.toList==ByteArray.toList {data:= #[]})):=by
 rw [LC,EJ,UA oM,UA oM,UB h]
 congr 1
 cases l<;>simp<;>omega
theorem R2 (h:o=6):rightT (.mk o a l)=(decide ((l.length:Int)=2)&&(a.toList==ByteArray.toList {data:= #[]})):=by
 rw [LC,EJ,UA oM,UA oM,UA oM,UB h]
 congr 1
 rw [Vy,Ux,Ux];omega
theorem R3 (h1:o≠1) (h2:o≠2) (h3:o≠3) (h4:o≠4) (h5:o≠5) (h6:o≠6):rightT (.mk o a l)=false:=by
 rw [LC,UA h1,UA h2,UA oM,UA h6]
end
theorem Ga {a b:Bool} (h:a=true):ZB b=ZB (a&&b):=by rw [h];rfl
theorem G' {a b:Bool} (h:a=false):ZB false=ZB (a&&b):=by rw [h];rfl
theorem Ja {a b:Bool} (h:a=true):ZB b=ZB (b&&a):=by rw [h,Ua]
theorem Gb {a b:Bool} (h:a=false):ZB false=ZB (b&&a):=by rw [h,Bool.and_false]
theorem Zfv (t : Nd) (hf:FitT t):AF prog 182 [pTr t] (· =ZB (rightT t)):=by
 obtain ⟨o,a,l⟩:=t
 have hl:=hf.len
 have ha:=hf.sz
 simp only [Nd.l,Nd.act] at hl ha
 refine AF.of_body 47 func182 rfl ntmps182 (Xa rfl) ?_
 intro w0 M0 vs hl hv
 obtain ⟨v0,rfl⟩:=YG hl
 clear hl hv
 have e0:pTr (.mk o a l)= .agg [Zf o,ZD a, .sl l.length (Z6 l)]:=rfl
 rw [e0]
 refine Zd ?_
 (refine Yi 1 3 fun h1=>?_<;>refine xL 2 Zb ?_<;>refine Zi ?_)
 (refine xL 4 (Zn 1 YZ) ?_<;>(refine yL 5 (Zr 1 WM) fun v5 h=>?_;cases h)<;>refine xL 6 (ZF WC) (xL 3 Zb ?_)<;>refine Zi ?_)
 (refine xL 7 (Zn 1 PI) ?_<;>(refine yL 8 (Zr 1 CZ) fun v8 h=>?_;cases h)<;>refine Zi ?_)
 (refine xL 10 ZU (xL 9 Zb ?_)<;>refine Zc ?_)
 refine cX ?_ ?_<;>intro hb9
 · first|exact bN hb9|(
 refine Zd ?_;(refine xL 11 Za (xL 12 ZU (xL 13 Za ?_))<;>(refine bLd 13 (fun hb13=>?_) (fun hb13=>?_)<;>(first|refine kL 14 ?_|refine xL 14 (Zn 1 Yw) ?_))<;>(first|refine kL 15 ?_|(refine yL 15 (Zr 1 Wo) fun v15 h=>?_;cases h))<;>(first|refine kL 16 ?_|(refine cS 16 (cA call98 (S7 a oM)) fun v16 h=>?_;cases h))<;>refine xL 17 Zt (xL 2 Zb ?_)<;>refine Zc ?_)<;>(
 refine Zl (results182) rfl ?_;rw [Zft hb9]
 first
  |exact Ga (Uy hb13)
  |exact G' (Uz hb13)))
 · first | exact bN hb9|(
 refine Zd ?_;(refine xL 19 ZU (xL 18 Zb ?_)<;>refine Zc ?_)
 refine cX ?_ ?_<;>intro hb18
 · first|exact bN hb18|(
 refine Zd ?_;(refine xL 20 Za (xL 21 ZU (xL 22 Za ?_))<;>(refine bLd 22 (fun hb22=>?_) (fun hb22=>?_)<;>(first|refine kL 23 ?_|refine xL 23 (Zn 1 Yw) ?_))<;>(first|refine kL 24 ?_|(refine yL 24 (Zr 1 Wo) fun v24 h=>?_;cases h))<;>(first|refine kL 25 ?_|refine xL 25 KC ?_)<;>refine xL 26 Zt (xL 2 Zb ?_)<;>refine Zc ?_)<;>(
 refine Zl (results182) rfl ?_;rw [Zfu hb18]
 first
  |exact Ga (Uy hb22)
  |exact G' (Uz hb22)))
 · first | exact bN hb18|(
 refine Zd ?_;(refine xL 28 ZU (xL 27 Zb ?_)<;>refine Zc ?_)
 refine cX ?_ ?_<;>intro hb27
 · first | exact bN hb27|(
 refine nav ?_;refine cX ?_ ?_<;>intro hb27
 · first|exact bN hb27|(
 refine Zd ?_;(refine xL 31 Za (xL 32 Kj (xL 33 Za ?_))<;>(refine bLd 33 (fun hb33=>?_) (fun hb33=>?_)<;>(first|refine kL 34 ?_|refine xL 34 (Zn 1 Yw) ?_))<;>(first|refine kL 35 ?_|(refine yL 35 (Zr 1 Wo) fun v35 h=>?_;cases h))<;>(first|refine kL 36 ?_|refine xL 36 KC ?_)<;>refine xL 37 Zt (xL 2 Zb ?_)<;>refine Zc ?_)<;>(
 refine Zl (results182) rfl ?_;rw [R1 oM]
 first
  |exact Ga (Uy hb33)
  |exact G' (Uz hb33)))
 · first |exact bN hb27|(
 refine Zd ?_;(refine xL 39 ZU (xL 38 Zb ?_)<;>refine Zc ?_)
 refine cX ?_ ?_<;>intro hb38
 · first|exact bN hb38|(
 refine Zd ?_;(refine xL 40 Za (xL 41 ZU (xL 42 Za ?_))<;>(refine bLd 42 (fun hb42=>?_) (fun hb42=>?_)<;>(first|refine kL 43 ?_|refine xL 43 (Zn 1 Yw) ?_))<;>(first|refine kL 44 ?_|(refine yL 44 (Zr 1 Wo) fun v44 h=>?_;cases h))<;>(first|refine kL 45 ?_|refine xL 45 KC ?_)<;>refine xL 46 Zt (xL 2 Zb ?_)<;>refine Zc ?_)<;>(
 refine Zl (results182) rfl ?_;rw [R2 hb38]
 first
  |exact Ga (Uy hb42)
  |exact G' (Uz hb42)))
 · first|exact bN hb38|(
 refine Zd ?_;(refine xL 2 Zb ?_<;>refine Zc ?_)
 refine Zl (results182) rfl ?_;rw [R3 oM oM oM oM oM oM])))
 · first | exact bN hb27|(
 refine Zd ?_;(refine xL 29 ZU (xL 27 Zb ?_)<;>refine Zc ?_)
 refine cX ?_ ?_<;>intro hb27
 · first | exact bN hb27|(
 refine nav ?_;refine cX ?_ ?_<;>intro hb27
 · first|exact bN hb27|(
 refine Zd ?_;(refine xL 31 Za (xL 32 Kj (xL 33 Za ?_))<;>(refine bLd 33 (fun hb33=>?_) (fun hb33=>?_)<;>(first|refine kL 34 ?_|refine xL 34 (Zn 1 Yw) ?_))<;>(first|refine kL 35 ?_|(refine yL 35 (Zr 1 Wo) fun v35 h=>?_;cases h))<;>(first|refine kL 36 ?_|refine xL 36 KC ?_)<;>refine xL 37 Zt (xL 2 Zb ?_)<;>refine Zc ?_)<;>(
 refine Zl (results182) rfl ?_;rw [R1 oM]
 first
  |exact Ga (Uy hb33)
  |exact G' (Uz hb33)))
 · first |exact bN hb27|(
 refine Zd ?_;(refine xL 39 ZU (xL 38 Zb ?_)<;>refine Zc ?_)
 refine cX ?_ ?_<;>intro hb38
 · first|exact bN hb38|(
 refine Zd ?_;(refine xL 40 Za (xL 41 ZU (xL 42 Za ?_))<;>(refine bLd 42 (fun hb42=>?_) (fun hb42=>?_)<;>(first|refine kL 43 ?_|refine xL 43 (Zn 1 Yw) ?_))<;>(first|refine kL 44 ?_|(refine yL 44 (Zr 1 Wo) fun v44 h=>?_;cases h))<;>(first|refine kL 45 ?_|refine xL 45 KC ?_)<;>refine xL 46 Zt (xL 2 Zb ?_)<;>refine Zc ?_)<;>(
 refine Zl (results182) rfl ?_;rw [R2 hb38]
 first
  |exact Ga (Uy hb42)
  |exact G' (Uz hb42)))
 · first|exact bN hb38|(
 refine Zd ?_;(refine xL 2 Zb ?_<;>refine Zc ?_)
 refine Zl (results182) rfl ?_;rw [R3 oM oM oM oM oM oM])))
 · first | exact bN hb27|(
 refine Zd ?_;(refine xL 30 ZU (xL 27 Zb ?_)<;>refine Zc ?_)
 refine cX ?_ ?_<;>intro hb27
 · first|exact bN hb27|(
 refine Zd ?_;(refine xL 31 Za (xL 32 Kj (xL 33 Za ?_))<;>(refine bLd 33 (fun hb33=>?_) (fun hb33=>?_)<;>(first|refine kL 34 ?_|refine xL 34 (Zn 1 Yw) ?_))<;>(first|refine kL 35 ?_|(refine yL 35 (Zr 1 Wo) fun v35 h=>?_;cases h))<;>(first|refine kL 36 ?_|refine xL 36 KC ?_)<;>refine xL 37 Zt (xL 2 Zb ?_)<;>refine Zc ?_)<;>(
 refine Zl (results182) rfl ?_;rw [R1 oM]
 first
  |exact Ga (Uy hb33)
  |exact G' (Uz hb33)))
 · first |exact bN hb27|(
 refine Zd ?_;(refine xL 39 ZU (xL 38 Zb ?_)<;>refine Zc ?_)
 refine cX ?_ ?_<;>intro hb38
 · first|exact bN hb38|(
 refine Zd ?_;(refine xL 40 Za (xL 41 ZU (xL 42 Za ?_))<;>(refine bLd 42 (fun hb42=>?_) (fun hb42=>?_)<;>(first|refine kL 43 ?_|refine xL 43 (Zn 1 Yw) ?_))<;>(first|refine kL 44 ?_|(refine yL 44 (Zr 1 Wo) fun v44 h=>?_;cases h))<;>(first|refine kL 45 ?_|refine xL 45 KC ?_)<;>refine xL 46 Zt (xL 2 Zb ?_)<;>refine Zc ?_)<;>(
 refine Zl (results182) rfl ?_;rw [R2 hb38]
 first
  |exact Ga (Uy hb42)
  |exact G' (Uz hb42)))
 · first|exact bN hb38|(
 refine Zd ?_;(refine xL 2 Zb ?_<;>refine Zc ?_)
 refine Zl (results182) rfl ?_;rw [R3 oM oM oM oM oM oM]))))))
theorem Zdn (t : Nd) (hf:FitT t):AF prog 192 [pTr t] (· =ZB (rightT t)):=by
 obtain ⟨o,a,l⟩:=t
 have hl:=hf.len
 have ha:=hf.sz
 simp only [Nd.l,Nd.act] at hl ha
 refine AF.of_body 51 func192 rfl ntmps192 (Xa rfl) ?_
 intro w0 M0 vs hl hv
 obtain ⟨v0,rfl⟩:=YG hl
 clear hl hv
 have e0:pTr (.mk o a l)= .agg [Zf o,ZD a, .sl l.length (Z6 l)]:=rfl
 rw [e0]
 refine Zd ?_
 (refine Yi 1 3 fun h1=>?_<;>refine xL 2 Zb ?_<;>refine Zi ?_)
 (refine xL 3 (Zn 1 PI) ?_<;>(refine yL 4 (Zr 1 CZ) fun v4 h=>?_;cases h)<;>refine Zi ?_)
 (refine xL 6 ZU (xL 5 Zb ?_)<;>refine Zc ?_)
 refine cX ?_ ?_<;>intro hb5
 · first|exact bN hb5|(
 refine Zd ?_;(refine xL 7 (Zn 1 Yw) ?_<;>(refine yL 8 (Zr 1 Wo) fun v8 h=>?_;cases h)<;>(refine cS 9 (cA call132 (Hx a oM)) fun v9 h=>?_;cases h)<;>refine xL 10 Za ?_<;>(refine bL 10 (fun hb10=>?_) (fun hb10=>?_)<;>(first|refine kL 11 ?_|refine xL 11 (Zn 1 YZ) ?_))<;>(first|refine kL 12 ?_|(refine yL 12 (Zr 1 WM) fun v12 h=>?_;cases h))<;>(first|refine kL 13 ?_|refine xL 13 (ZF WC) ?_)<;>(first|refine kL 14 ?_|refine xL 14 ZU ?_)<;>refine xL 15 Zt (xL 2 Zb ?_)<;>refine Zc ?_)<;>(
 refine Zl (results192) rfl ?_;rw [Zft hb5]
 first
  |exact Ja hb10
  |exact Gb hb10))
 · first | exact bN hb5|(
 refine Zd ?_;(refine xL 17 ZU (xL 16 Zb ?_)<;>refine Zc ?_)
 refine cX ?_ ?_<;>intro hb16
 · first|exact bN hb16|(
 refine Zd ?_;(refine xL 18 (Zn 1 Yw) ?_<;>(refine yL 19 (Zr 1 Wo) fun v19 h=>?_;cases h)<;>refine xL 20 KC (xL 21 Za ?_)<;>(refine bL 21 (fun hb21=>?_) (fun hb21=>?_)<;>(first|refine kL 22 ?_|refine xL 22 (Zn 1 YZ) ?_))<;>(first|refine kL 23 ?_|(refine yL 23 (Zr 1 WM) fun v23 h=>?_;cases h))<;>(first|refine kL 24 ?_|refine xL 24 (ZF WC) ?_)<;>(first|refine kL 25 ?_|refine xL 25 ZU ?_)<;>refine xL 26 Zt (xL 2 Zb ?_)<;>refine Zc ?_)<;>(
 refine Zl (results192) rfl ?_;rw [Zfu hb16]
 first
  |exact Ja hb21
  |exact Gb hb21))
 · first | exact bN hb16|(
 refine Zd ?_;(refine xL 28 ZU (xL 27 Zb ?_)<;>refine Zc ?_)
 refine cX ?_ ?_<;>intro hb27
 · first | exact bN hb27|(
 refine nav ?_;refine cX ?_ ?_<;>intro hb27
 · first|exact bN hb27|(
 refine Zd ?_;(refine xL 31 (Zn 1 Yw) ?_<;>(refine yL 32 (Zr 1 Wo) fun v32 h=>?_;cases h)<;>refine xL 33 KC (xL 34 Za ?_)<;>(refine bL 34 (fun hb34=>?_) (fun hb34=>?_)<;>(first|refine kL 35 ?_|refine xL 35 (Zn 1 YZ) ?_))<;>(first|refine kL 36 ?_|(refine yL 36 (Zr 1 WM) fun v36 h=>?_;cases h))<;>(first|refine kL 37 ?_|refine xL 37 (ZF WC) ?_)<;>(first|refine kL 38 ?_|refine xL 38 Kj ?_)<;>refine xL 39 Zt (xL 2 Zb ?_)<;>refine Zc ?_)<;>(
 refine Zl (results192) rfl ?_;rw [R1 oM]
 first
  |exact Ja hb34
  |exact Gb hb34))
 · first |exact bN hb27|(
 refine Zd ?_;(refine xL 41 ZU (xL 40 Zb ?_)<;>refine Zc ?_)
 refine cX ?_ ?_<;>intro hb40
 · first|exact bN hb40|(
 refine Zd ?_;(refine xL 42 (Zn 1 Yw) ?_<;>(refine yL 43 (Zr 1 Wo) fun v43 h=>?_;cases h)<;>refine xL 44 KC (xL 45 Za ?_)<;>(refine bL 45 (fun hb45=>?_) (fun hb45=>?_)<;>(first|refine kL 46 ?_|refine xL 46 (Zn 1 YZ) ?_))<;>(first|refine kL 47 ?_|(refine yL 47 (Zr 1 WM) fun v47 h=>?_;cases h))<;>(first|refine kL 48 ?_|refine xL 48 (ZF WC) ?_)<;>(first|refine kL 49 ?_|refine xL 49 ZU ?_)<;>refine xL 50 Zt (xL 2 Zb ?_)<;>refine Zc ?_)<;>(
 refine Zl (results192) rfl ?_;rw [R2 hb40]
 first
  |exact Ja hb45
  |exact Gb hb45))
 · first|exact bN hb40|(
 refine Zd ?_;(refine xL 2 Zb ?_<;>refine Zc ?_)
 refine Zl (results192) rfl ?_;rw [R3 oM oM oM oM oM oM])))
 · first | exact bN hb27|(
 refine Zd ?_;(refine xL 29 ZU (xL 27 Zb ?_)<;>refine Zc ?_)
 refine cX ?_ ?_<;>intro hb27
 · first | exact bN hb27|(
 refine nav ?_;refine cX ?_ ?_<;>intro hb27
 · first|exact bN hb27|(
 refine Zd ?_;(refine xL 31 (Zn 1 Yw) ?_<;>(refine yL 32 (Zr 1 Wo) fun v32 h=>?_;cases h)<;>refine xL 33 KC (xL 34 Za ?_)<;>(refine bL 34 (fun hb34=>?_) (fun hb34=>?_)<;>(first|refine kL 35 ?_|refine xL 35 (Zn 1 YZ) ?_))<;>(first|refine kL 36 ?_|(refine yL 36 (Zr 1 WM) fun v36 h=>?_;cases h))<;>(first|refine kL 37 ?_|refine xL 37 (ZF WC) ?_)<;>(first|refine kL 38 ?_|refine xL 38 Kj ?_)<;>refine xL 39 Zt (xL 2 Zb ?_)<;>refine Zc ?_)<;>(
 refine Zl (results192) rfl ?_;rw [R1 oM]
 first
  |exact Ja hb34
  |exact Gb hb34))
 · first |exact bN hb27|(
 refine Zd ?_;(refine xL 41 ZU (xL 40 Zb ?_)<;>refine Zc ?_)
 refine cX ?_ ?_<;>intro hb40
 · first|exact bN hb40|(
 refine Zd ?_;(refine xL 42 (Zn 1 Yw) ?_<;>(refine yL 43 (Zr 1 Wo) fun v43 h=>?_;cases h)<;>refine xL 44 KC (xL 45 Za ?_)<;>(refine bL 45 (fun hb45=>?_) (fun hb45=>?_)<;>(first|refine kL 46 ?_|refine xL 46 (Zn 1 YZ) ?_))<;>(first|refine kL 47 ?_|(refine yL 47 (Zr 1 WM) fun v47 h=>?_;cases h))<;>(first|refine kL 48 ?_|refine xL 48 (ZF WC) ?_)<;>(first|refine kL 49 ?_|refine xL 49 ZU ?_)<;>refine xL 50 Zt (xL 2 Zb ?_)<;>refine Zc ?_)<;>(
 refine Zl (results192) rfl ?_;rw [R2 hb40]
 first
  |exact Ja hb45
  |exact Gb hb45))
 · first|exact bN hb40|(
 refine Zd ?_;(refine xL 2 Zb ?_<;>refine Zc ?_)
 refine Zl (results192) rfl ?_;rw [R3 oM oM oM oM oM oM])))
 · first | exact bN hb27|(
 refine Zd ?_;(refine xL 30 ZU (xL 27 Zb ?_)<;>refine Zc ?_)
 refine cX ?_ ?_<;>intro hb27
 · first|exact bN hb27|(
 refine Zd ?_;(refine xL 31 (Zn 1 Yw) ?_<;>(refine yL 32 (Zr 1 Wo) fun v32 h=>?_;cases h)<;>refine xL 33 KC (xL 34 Za ?_)<;>(refine bL 34 (fun hb34=>?_) (fun hb34=>?_)<;>(first|refine kL 35 ?_|refine xL 35 (Zn 1 YZ) ?_))<;>(first|refine kL 36 ?_|(refine yL 36 (Zr 1 WM) fun v36 h=>?_;cases h))<;>(first|refine kL 37 ?_|refine xL 37 (ZF WC) ?_)<;>(first|refine kL 38 ?_|refine xL 38 Kj ?_)<;>refine xL 39 Zt (xL 2 Zb ?_)<;>refine Zc ?_)<;>(
 refine Zl (results192) rfl ?_;rw [R1 oM]
 first
  |exact Ja hb34
  |exact Gb hb34))
 · first |exact bN hb27|(
 refine Zd ?_;(refine xL 41 ZU (xL 40 Zb ?_)<;>refine Zc ?_)
 refine cX ?_ ?_<;>intro hb40
 · first|exact bN hb40|(
 refine Zd ?_;(refine xL 42 (Zn 1 Yw) ?_<;>(refine yL 43 (Zr 1 Wo) fun v43 h=>?_;cases h)<;>refine xL 44 KC (xL 45 Za ?_)<;>(refine bL 45 (fun hb45=>?_) (fun hb45=>?_)<;>(first|refine kL 46 ?_|refine xL 46 (Zn 1 YZ) ?_))<;>(first|refine kL 47 ?_|(refine yL 47 (Zr 1 WM) fun v47 h=>?_;cases h))<;>(first|refine kL 48 ?_|refine xL 48 (ZF WC) ?_)<;>(first|refine kL 49 ?_|refine xL 49 ZU ?_)<;>refine xL 50 Zt (xL 2 Zb ?_)<;>refine Zc ?_)<;>(
 refine Zl (results192) rfl ?_;rw [R2 hb40]
 first
  |exact Ja hb45
  |exact Gb hb45))
 · first|exact bN hb40|(
 refine Zd ?_;(refine xL 2 Zb ?_<;>refine Zc ?_)
 refine Zl (results192) rfl ?_;rw [R3 oM oM oM oM oM oM]))))))
theorem ZaF : ∀(t:Nd),FitT t→∀(most d:Int),-4611686018427387904≤most→most≤4611686018427387904→-4611686018427387904≤d→d≤4611686018427387904→AF prog 122 [pTr t,Zf most,Zf d] (· = .tup [Zf (if JP t most d=true then (szT t:Int) else 0),ZB (JP t most d)]):=Nd.ind fun o a l ih hf most d hm1 hm2 hd1 hd2=>by
 have hl:=hf.len
 have hp:=hf.p
 simp only [Nd.l] at hl hp
 refine AF.of_body 48 func122 rfl ntmps122 (Xa rfl) ?_
 intro w0 M0 vs hl hv
 obtain ⟨v0,v1,v2,rfl⟩:=RI hl
 obtain rfl:=hv 1 _ _ rfl rfl
 obtain rfl:=hv 2 _ _ rfl rfl
 clear hl hv
 have e0:pTr (.mk o a l)= .agg [Zf o,ZD a, .sl l.length (Z6 l)]:=rfl
 rw [e0]
 refine Zd ?_
 (refine Yi 3 3 fun h3=>?_<;>refine xL 6 Zb (xL 7 Zb ?_)<;>refine Zi ?_)
 (refine xL 13 Za (xL 14 ZI (xL 15 Za ?_))<;>(refine bLd 15 (fun hb15=>?_) (fun hb15=>?_)<;>(first|refine kL 16 ?_|refine xL 16 Za ?_))<;>(first|refine kL 17 ?_|refine xL 17 YV ?_)<;>refine xL 18 Zt (xL 19 Za ?_)<;>(first|refine kL 20 ?_|(refine bLd 19 (fun hb19=>?_) (fun hb19=>?_)<;>(first|refine kL 20 ?_|(refine yL 20 (Zu 3 KF) fun v20 h=>?_;cases h))))<;>(first|refine kL 21 ?_|(refine cS 21 (cA call182 (Zfv (.mk o a l) hf)) fun v21 h=>?_;cases h))<;>(first|refine kL 22 ?_|refine xL 22 Yd ?_)<;>refine xL 23 Zt ?_<;>refine Zc ?_)<;>(
 refine cX ?_ ?_<;>intro hb23
 · first|exact bN hb23|(
 refine Zd ?_;(refine xL 6 Zb (xL 7 Zb ?_)<;>refine Zc ?_)
 refine YO (results122) rfl rfl ?_;rw [Zfr (by first|exact .inl oM|exact .inr (.inl oM)|exact .inr (.inr (by simpa using hb23)))];rfl)
 · first | exact bN hb23|(
 (have hrt:rightT (.mk o a l)=true:=by simpa using hb23);refine Zd ?_;(refine xL 8 Zb ?_<;>refine Zi ?_)
 (refine xL 24 (Zn 3 YZ) ?_<;>(refine yL 25 (Zr 3 WM) fun v25 h=>?_;cases h)<;>refine xL 26 (ZF WC) (xL 27 Za ?_)<;>refine Zc ?_)
 refine Zy (ι:={k:Nat//k≤l.length∧((1+szL (l.take k):Nat):Int)≤most∧∀j x,j<k→l[j]? =some x→JP x (most-((1+szL (l.take j):Nat):Int)) (d+1)=true}) (fun k=>⟨[(1,_,_),(2,_,_),(25,_,_),(26,_,_),(27, .int .i64 k.1,Zf k.1),(8, .int .i64 ((1+szL (l.take k.1):Nat):Int),Zf ((1+szL (l.take k.1):Nat):Int))],[(3,_,_)]⟩) (fun k=>l.length-k.1) ⟨0,oM,by simp [szL];omega,oM⟩ (fun a w H=>H.weaken ⟨rfl,rfl,rfl,rfl,rfl,rfl,trivial⟩ ⟨rfl,trivial⟩) ?_;rintro ⟨k,hk,hsz,hp2⟩;dsimp only;refine Zd ?_;(refine xL 28 ZI ?_<;>refine Zc ?_)
 refine cX ?_ ?_<;>intro hb28
 · first |exact bN hb28|(
 obtain ⟨x,hx⟩:=Zm (show k<l.length by omega);have hxm:=Xb hx;have e1:=Z9 hx;have e2:=Yu hx;refine Zd ?_;(refine xL 29 (Zv WC) ?_<;>(refine yL 30 (Wl KF) fun v30 h=>?_;cases h)<;>refine ZA [(.int .i64 0),(.string ByteArray.empty),(.slice none 0 0)] 3 10 Zdm fun h10=>?_<;>refine Zw 10 KF ?_<;>refine Zi ?_)
 ((refine yL 32 (Zu 10 KF) fun v32 h=>?_;cases h)<;>refine xL 33 Za (xL 34 Za (xL 35 KD (xL 36 Za (xL 37 ZH ?_))))<;>(refine cP 38 (cA call122 (ih x hxm (hp x hxm) (most-((1+szL (l.take k):Nat):Int)) (d+1) oM oM oM oM)) fun va38 vb38 hva38 hvb38=>?_;cases hva38;cases hvb38)<;>refine xL 31 Za (xL 39 Zp (xL 40 Zp (xL 11 Zb (xL 12 Zb ?_))))<;>refine Zi ?_)
 (refine xL 41 Za (xL 42 Yd ?_)<;>refine Zc ?_)
 refine cX ?_ ?_<;>intro hb42
 · first|exact bN hb42|(
 refine Zd ?_;(refine xL 6 Zb (xL 7 Zb ?_)<;>refine Zc ?_)
 refine YO (results122) rfl rfl ?_;rw [CQ (t:= .mk o a l) hx (by simpa [Nd.l] using hb42)];rfl)
 · first|exact bN hb42|(
 (have hmx:JP x (most-((1+szL (l.take k):Nat):Int)) (d+1)=true:=by simpa using hb42);have hsn:=OY hx;have hbd:(szT x:Int)≤most-((1+szL (l.take k):Nat):Int):=by
  have:=hmx;unfold JP at this;simp only [Xe,Ux] at this;exact this.1.2
 have hn2:((1+szL (l.take k):Nat):Int)+(szT x:Int)=((1+szL (l.take (k+1)):Nat):Int):=oM;rw [UB hmx];refine Zd ?_;(refine xL 43 Za (xL 44 Za ?_)<;>(refine xL 45 ZH ?_;rw [hn2])<;>refine xL 8 Zb ?_<;>refine Zi ?_)
 (refine xL 46 ZH (xL 27 Za ?_)<;>refine Zc ?_)
 refine Zh (
  ⟨k+1,oM,oM,fun j y hj hy=>by
   by_cases e:j=k
   · subst e;rw [hx] at hy;cases hy;exact hmx
   · exact hp2 j y oM hy⟩
  ) (by dsimp only;omega) ⟨rfl,rfl,rfl,rfl,rfl,rfl,trivial⟩ ⟨rfl,trivial⟩))
 · first|exact bN hb28|(
 refine Zd ?_;(refine xL 47 Za (xL 6 Zb (xL 7 Zb ?_))<;>refine Zc ?_)
 refine YO (results122) rfl rfl ?_;have hkl:k=l.length:=oM;subst hkl;rw [ZbQ (t:= .mk o a l) hrt oM oM fun j x hx=>hp2 j x (Zj hx) hx];rw [Xy (Xc _),UB rfl,szT])))
theorem Rc (t:Nd) (hf:FitT t):AF prog 79 [pTr t] (· =ZB (Jx t)):=by
 refine AF.of_body 11 func79 rfl ntmps79 (Xa rfl) ?_
 intro w0 M0 vs hl hv
 obtain ⟨v0,rfl⟩:=YG hl
 clear hl hv
 have e0:pTr t= .agg [Zf t.op,ZD t.act,Y4 t.l]:=rfl
 rw [e0]
 refine Zd ?_
 (refine Yi 1 3 fun h1=>?_<;>refine xL 2 Zb ?_<;>refine Zi ?_)
 ((refine yL 6 (Zu 1 KF) fun v6 h=>?_;cases h)<;>(refine cP 7 (cA call122 (ZaF t hf 400 1 oM oM oM oM)) fun va7 vb7 hva7 hvb7=>?_;cases hva7;cases hvb7)<;>refine xL 5 Za (xL 8 Zp (xL 9 Zp (xL 3 Zb (xL 4 Zb ?_))))<;>refine Zi ?_)
 (refine xL 10 Za (xL 2 Zb ?_)<;>refine Zc ?_)
 exact Zl results79 rfl rfl
theorem ZaG {t:Nd} {most d:Int} (h:JP t most d=true):(szT t:Int)≤most:=by
 unfold JP at h
 simp only [Xe,Ux] at h
 exact h.1.2
def EK (t:Nd) (d left:Int):Int:=if JP t left d=true then left-(szT t:Int) else-1
theorem Zdo : ∀(t:Nd),FitT t→∀(d left:Int),-4611686018427387904≤left→left≤4611686018427387904→-4611686018427387904≤d→d≤4611686018427387904→AF prog 129 [pTr t,Zf d,Zf left] (· =Zf (EK t d left)):=Nd.ind fun o a l ih hf d left hm1 hm2 hd1 hd2=>by
 have hl:=hf.len
 have hp:=hf.p
 simp only [Nd.l] at hl hp
 refine AF.of_body 41 func129 rfl ntmps129 (Xa rfl) ?_
 intro w0 M0 vs hl hv
 obtain ⟨v0,v1,v2,rfl⟩:=RI hl
 obtain rfl:=hv 1 _ _ rfl rfl
 obtain rfl:=hv 2 _ _ rfl rfl
 clear hl hv
 have e0:pTr (.mk o a l)= .agg [Zf o,ZD a, .sl l.length (Z6 l)]:=rfl
 rw [e0]
 refine Zd ?_
 (refine Yi 3 3 fun h3=>?_<;>refine xL 6 Zb ?_<;>refine Zi ?_)
 (refine xL 8 Za (xL 9 Tq (xL 10 Za ?_))<;>(refine bLd 10 (fun hb10=>?_) (fun hb10=>?_)<;>(first|refine kL 11 ?_|refine xL 11 Za ?_))<;>(first|refine kL 12 ?_|refine xL 12 YV ?_)<;>refine xL 13 Zt (xL 14 Za ?_)<;>(first|refine kL 15 ?_|(refine bLd 14 (fun hb14=>?_) (fun hb14=>?_)<;>(first|refine kL 15 ?_|(refine yL 15 (Zu 3 KF) fun v15 h=>?_;cases h))))<;>(first|refine kL 16 ?_|(refine cS 16 (cA call192 (Zdn (.mk o a l) hf)) fun v16 h=>?_;cases h))<;>(first|refine kL 17 ?_|refine xL 17 Yd ?_)<;>refine xL 18 Zt ?_<;>refine Zc ?_)<;>(
 refine cX ?_ ?_<;>intro hb18
 · first|exact bN hb18|(
 refine Zd ?_;(refine xL 6 Zb ?_<;>refine Zc ?_)
 refine Zl (results129) rfl ?_;unfold EK;rw [Zfr (by first|exact .inl oM|exact .inr (.inl oM)|exact .inr (.inr (by simpa using hb18)))];rfl)
 · first | exact bN hb18|(
 (have hrt:rightT (.mk o a l)=true:=by simpa using hb18);(have hc0:left-1=left-((1+szL (l.take 0):Nat):Int):=by simp [szL]);refine Zd ?_;(refine xL 19 Za ?_<;>(refine xL 20 KD ?_;rw [hc0])<;>refine xL 2 Zb ?_<;>refine Zi ?_)
 (refine xL 7 Zb ?_<;>refine Zc ?_)
 refine Zy (ι:={k:Nat//k≤l.length∧((1+szL (l.take k):Nat):Int)≤left∧∀j x,j<k→l[j]? =some x→JP x (left-((1+szL (l.take j):Nat):Int)) (d+1)=true}) (fun k=>⟨[(1,_,_),(3,_,_),(7, .int .i64 k.1,Zf k.1),(2, .int .i64 (left-((1+szL (l.take k.1):Nat):Int)),Zf (left-((1+szL (l.take k.1):Nat):Int)))],[(3,_,_)]⟩) (fun k=>l.length-k.1) ⟨0,oM,by simp [szL];omega,oM⟩ (fun a w H=>H.weaken ⟨rfl,rfl,rfl,rfl,trivial⟩ ⟨rfl,trivial⟩) ?_;rintro ⟨k,hk,hsz,hp2⟩;dsimp only;refine Zd ?_;(refine xL 21 Za (xL 22 (Zn 3 YZ) ?_)<;>(refine yL 23 (Zr 3 WM) fun v23 h=>?_;cases h)<;>refine xL 24 (ZF WC) (xL 25 ZI ?_)<;>refine Zc ?_)
 refine cX ?_ ?_<;>intro hb25
 · first |exact bN hb25|(
 obtain ⟨x,hx⟩:=Zm (show k<l.length by omega);have hxm:=Xb hx;have e1:=Z9 hx;have e2:=Yu hx;refine Zd ?_;(refine xL 28 (Zn 3 YZ) ?_<;>(refine yL 29 (Zr 3 WM) fun v29 h=>?_;cases h)<;>refine xL 30 Za (xL 31 (Zv WC) ?_)<;>(refine yL 32 (Wl KF) fun v32 h=>?_;cases h)<;>refine xL 33 Za (xL 34 ZH (xL 35 Za ?_))<;>(refine cS 36 (cA call129 (ih x hxm (hp x hxm) (d+1) (left-((1+szL (l.take k):Nat):Int)) oM oM oM oM)) fun v36 h=>?_;cases h)<;>refine xL 2 Zb ?_<;>refine Zc ?_)
 have hcx:EK x (d+1) (left-((1+szL (l.take k):Nat):Int))<0↔JP x (left-((1+szL (l.take k):Nat):Int)) (d+1)=false:=by
  unfold EK
  cases hmx:JP x (left-((1+szL (l.take k):Nat):Int)) (d+1) with
  |true=>have:=ZaG hmx;simp;omega
  |false=>simp
 (refine Zo ?_<;>refine xL 37 Za (xL 38 ZI ?_)<;>refine Zc ?_)
 refine cX ?_ ?_<;>intro hb38
 · first|exact bN hb38|(
 refine Zd ?_;(refine xL 39 Za (xL 6 Zb ?_)<;>refine Zc ?_)
 refine Zl (results129) rfl ?_;have hmx:=hcx.1 hb38;unfold EK;rw [CQ (t:= .mk o a l) hx hmx,hmx];rfl)
 · first|exact bN hb38|(
 have hmx:JP x (left-((1+szL (l.take k):Nat):Int)) (d+1)=true:=by
  cases h:JP x (left-((1+szL (l.take k):Nat):Int)) (d+1) with
  |true=>rfl
  |false=>exact UC (hcx.2 h) hb38
 have hsn:=OY hx;have hbd:=ZaG hmx;have hn2:EK x (d+1) (left-((1+szL (l.take k):Nat):Int))=left-((1+szL (l.take (k+1)):Nat):Int):=by
  unfold EK;rw [UB hmx];omega
 rw [hn2];refine Zd ?_;(refine xL 26 Za (xL 27 ZH (xL 7 Zb ?_))<;>refine Zc ?_)
 refine Zh (
  ⟨k+1,oM,oM,fun j y hj hy=>by
   by_cases e:j=k
   · subst e;rw [hx] at hy;cases hy;exact hmx
   · exact hp2 j y oM hy⟩
  ) (by dsimp only;omega) ⟨rfl,rfl,rfl,rfl,trivial⟩ ⟨rfl,trivial⟩))
 · first|exact bN hb25|(
 refine Zd ?_;(refine xL 40 Za (xL 6 Zb ?_)<;>refine Zc ?_)
 refine Zl (results129) rfl ?_;have hkl:k=l.length:=oM;subst hkl;unfold EK;rw [ZbQ (t:= .mk o a l) hrt oM oM fun j x hx=>hp2 j x (Zj hx) hx];rw [Xy (Xc _),UB rfl,szT])))
theorem Zdp (t:Nd) (hf:FitT t):AF prog 82 [pTr t] (· =ZB (Jx t)):=by
 refine AF.of_body 6 func82 rfl ntmps82 (Xa rfl) ?_
 intro w0 M0 vs hl hv
 obtain ⟨v0,rfl⟩:=YG hl
 clear hl hv
 have e0:pTr t= .agg [Zf t.op,ZD t.act,Y4 t.l]:=rfl
 rw [e0]
 refine Zd ?_
 (refine Yi 1 3 fun h1=>?_<;>refine xL 2 Zb ?_<;>refine Zi ?_)
 ((refine yL 3 (Zu 1 KF) fun v3 h=>?_;cases h)<;>(refine cS 4 (cA call129 (Zdo t hf 1 400 oM oM oM oM)) fun v4 h=>?_;cases h)<;>refine xL 5 Kj (xL 2 Zb ?_)<;>refine Zc ?_)
 refine Zl (results82) rfl (Lw ?_)
 rw [Ux]
 unfold EK Jx
 cases h:JP t 400 1 with
 |true=>have:=ZaG h;simp;omega
 |false=>simp
end Go.Proofs.YtmkojdfiadbeeaaGreat
namespace Go.En
open Go.RowKit Go.Cb Go.Proofs Go.Sort
set_option linter.all false
def ZbV (P:Program) (fs g k:Nat):Prop:=∀{α:Type} [Inhabited α] (enc:α→List Value),(∀x,(enc x).length=k)→(∀x,∀v∈enc x,v.oneCell'=true)→∀(cf:α→α→Int),SWO (ltOf cf)→∀(blk cap:Nat) (d:Array α) (w:World),
 CmpLays P g #[] enc k cf blk 0 d.size w→HoldsK enc k w blk 0 d→blk<w.heap.size→d.size<4611686018427387904→
 Calls P fs #[.slice (some ⟨blk,0,none⟩) d.size cap, .func (.func g) #[] #[]] w fun e w'=>e= .returned (.tuple #[])∧∃d' n os,PermIn 0 d.size d d'∧SortedIn (ltOf cf) 0 d.size d'∧w'=sortWorldK enc k w blk 0 n d' os
theorem Zfw {α:Type} [Inhabited α] (enc:α→List Value) (k:Nat) (w:World) (blk m:Nat) (d:Array α) (os:Array Obj):Chg (fun b=>b=blk) w (sortWorldK enc k w blk 0 m d os):=by
 refine ⟨rfl,rfl,rfl,?_,fun i hi hne=>?_⟩
 · simp [sortWorldK,grow,putRowK,putRow,mapBlock,ahead]
 · have:(sortWorldK enc k w blk 0 m d os).heap=(w.heap.modify blk (onCells (putCells id 0 (flatK enc k d))))++os:=rfl;rw [this,Vp (by simpa using hi),VS,UA (fun e=>hne e.symm)]
theorem Zjz {α:Type} [Inhabited α] (enc:α→List Value) (k:Nat) (w:World) (blk m:Nat) (d:Array α) (os:Array Obj) {cur:Array Value} {e:TypeId} (h:w.heap[blk]? =some (.cells cur e (0,0))):
 (sortWorldK enc k w blk 0 m d os).heap[blk]? =some (.cells (putCells id 0 (flatK enc k d) cur) e (0,0)):=by
 have hlt:=Wr h
 have:(sortWorldK enc k w blk 0 m d os).heap=(w.heap.modify blk (onCells (putCells id 0 (flatK enc k d))))++os:=rfl
 rw [this,Vp (by simpa using hlt),VS,UB rfl,h]
 rfl
theorem Zfx (f cur:Array Value) (h:f.size≤cur.size):(putCells id 0 f cur).toList.take f.size=f.toList:=by
 apply VG
 intro j
 by_cases hj:j<f.size
 · rw [XZ hj];have hjc:j<cur.size:=oM;simp [putCells,hj,hjc]
 · rw [Vb (by simp;omega),Vb (by simp;omega)]
section
variable {P:Program} {c:Ctx} {ops:Array Oper} {Q:Exit→Act→World→Prop} {rest:List Oper} {sL hP:List (Nat×Ent)} {o:Oper}
theorem EL {β:Type} {fs g k e d l:Nat} {f:β→List PV} {cmp:β→β→Int} {rows:List β} {h:Value} {q q':PV} {x y:Operand} {ats:Array TypeId} (hS:ZbV P fs g k) (hf:∀x,(f x).length=k) (hk:0<k) (hsh:∀x,(f x).all (fun p=>isSh p&&one p)=true)
 (hirr:∀a,¬cmp a a<0) (htr:∀a b c,cmp a b<0→cmp b c<0→cmp a c<0) (hnt:∀a b c,¬cmp a b<0→¬cmp b c<0→¬cmp a c<0)
 (hcmp:∀(x y:β) (M:BS) (W:World) (u v:Value),x∈rows→y∈rows→Shr M W u (.agg (f x))→Shr M W v (.agg (f y))→Calls P g #[u,v] W fun e w'=>e= .returned (.int .i64 (cmp x y))∧∃q os',w'=grow (W.drewN q) os')
 (hn:0<rows.length) (hn2:rows.length<4611686018427387904)
 (hw:ZV ops sL o=some true) (hd:o.dst=some d) (hdn:d<c.nt) (ho:o.op= .call {callee:= .value (.func fs),args:= #[x,y],argTypes:=ats}) (hc:∀args w,(callFunc fs args).run P w= .ok (.enter fs args) w) (hx:ev sL x=some (h,q)) (hy:ev sL y=some (.func (.func g) #[] #[],q')) (hl:lk hP l=some (h, .own e k rows.length (rows.flatMap f)))
 (kk:∀rows':List β,rows'.Perm rows→(∀(i j:Nat) (a b:β),i<j→rows'[i]? =some a→rows'[j]? =some b→¬cmp b a<0)→aL P c ops Q rest ⟨put d (.tuple #[], .val (.tuple #[])) sL,put l (h, .own e k rows.length (rows'.flatMap f)) hP⟩):aL P c ops Q (o::rest) (⟨sL,hP⟩:St):=
 YJ hw fun a w F H=>by
  have hxv:=(H.rd.ev hx).1;have hyv:=(H.rd.ev hy).1;have hTr:=H.tr l _ _ hl;obtain ⟨xs,Fs,hrow,hlen,hT,hdj,hb,hF⟩:=hTr.row;obtain ⟨blk,cap,hh,hc1,hc2,hc3⟩:=KL hTr hn;have hfl:=Yr hf rows;have hblkF:F l blk:=(hF blk).2 (.inl (by rw [hh];rfl));have hblkM:mof c hP F blk:= .inr ⟨l,_,hl,hblkF⟩;haveI:Inhabited (Fin rows.length):=⟨⟨0,hn⟩⟩
  let enc:Fin rows.length→List Value:=fun i=>(xs.drop (i.1*k)).take k;have hxl:xs.length=rows.length*k:=oM;have henc:∀i:Fin rows.length,(enc i).length=k:=fun i=>by
   have h1:(i.1+1)*k≤rows.length*k:=X7 k i.2;rw [XW,Nat.one_mul] at h1;simp [enc];omega
  have hget:∀(i:Fin rows.length) (j:Nat),j<k→(enc i)[j]? =xs[i.1*k+j]? :=fun i j hj=>by
   simp only [enc];rw [XZ hj,Vu]
  have hrd:∀(i:Fin rows.length) (j:Nat) (v:Value) (p:PV),(enc i)[j]? =some v→(f rows[i.1])[j]? =some p→Shr (mof c hP F) w v p∧isSh p=true∧one p=true:=fun i j v p hv hp=>by
   have hj:j<k:=by rw [←hf];exact Zj hp
   rw [hget i j hj] at hv;have hp2:(rows.flatMap f)[i.1*k+j]? =some p:=by rw [WU hf (Xp i.2) hj];exact hp
   have:=Xj.1 (hsh rows[i.1]) p (Xb hp);rw [Xe] at this;exact ⟨(hT _ v p hv hp2).sh this.1,this.1,this.2⟩
  have hone:∀(i:Fin rows.length),∀v∈enc i,v.oneCell'=true:=fun i v hv=>by
   obtain ⟨j,hj,rfl⟩:=VM hv;have hjk:j<k:=by rw [←henc i];exact hj
   obtain ⟨p,hp⟩:=Yf (show j<(f rows[i.1]).length by rw [hf];exact hjk);obtain ⟨h1,_,h3⟩:=hrd i j _ p (Xp hj) hp;exact h1.one h3
  let cf:Fin rows.length→Fin rows.length→Int:=fun i j=>cmp rows[i.1] rows[j.1];have hO:SWO (ltOf cf):=⟨fun i=>Uz (hirr _),fun i j m h1 h2=>Uy (htr _ _ _ (UD h1) (UD h2)),fun i j m h1 h2=>Uz (hnt _ _ _ (UE h1) (UE h2))⟩;let ds:Array (Fin rows.length):=Array.ofFn id;have hds:ds.size=rows.length:=by simp [ds]
  have hdg:∀j (hj:j<rows.length),ds[j]! =⟨j,hj⟩:=fun j hj=>by simp [ds,hj]
  have hagg:∀(i:Fin rows.length) (W:World),Chg (fun b=>b=blk) w W→Shr (mof c hP F) W (.agg (enc i).toArray) (.agg (f rows[i.1])):=fun i W hW=>by
   refine .agg _ _ (by rw [henc,hf]) fun j v p hv hp=>?_;exact (hrd i j v p hv hp).1.to hW (fun b _ hb=>by rw [hb];exact hblkM) (fun _ _ h=>h)
  have hcl:CmpLays P g #[] enc k cf blk 0 ds.size w:=fun m os dk _ i j=>by
   have hW:=Zfw enc k w blk m dk os;exact hcmp rows[i.1] rows[j.1] _ _ _ _ (XY _) (XY _) (hagg i _ hW) (hagg j _ hW)
  have hHold:HoldsK enc k w blk 0 ds:=fun t ht=>by
   rw [size_flatK,hds] at ht;have hdiv:t / k<rows.length:=by rw [Uh hk];exact ht
   have hmod:t % k<k:=Nat.mod_lt _ hk;have he:t / k*k+t % k=t:=by rw [Vl];exact VP _ _
   rw [get_flatK _ _ _ _ (by rw [hds];exact ht),hdg _ hdiv];have hg2:=hget ⟨t / k,hdiv⟩ (t % k) hmod;simp only at hg2;rw [he] at hg2;obtain ⟨v,hv⟩:=Yf (show t<xs.length by omega);rw [hv] at hg2;have hrow':=hrow;rw [hh] at hrow';refine ⟨?_,by rw [Xx];exact hrow'.frozenAt t⟩;rw [Xx,WS hrow' hv];have:(enc ⟨t / k,hdiv⟩)[t % k]! =v:=by
    rw [getElem!_def,hg2]
   rw [id,this]
  have hcall:=hS enc henc hone cf hO blk cap ds w hcl hHold hc3 (by rw [hds];exact hn2);rw [hds] at hcall;unfold Oper.wp;have hrun:(execOp a.eval o).run P w= .ok (.enter fs #[h, .func (.func g) #[] #[]]) w:=by
   have hev:a.eval (.func fs)= .func (.func fs) #[] #[]:=rfl;simp [execOp,ho,resolve,Deferred.ofValue,hev,invoke,hxv,hyv,hc]
  rw [hrun,Oper.upon_enter,hh];refine hcall.mono fun e' w' ⟨he',d',m,os,hperm,hsorted,hw'⟩=>?_;subst he';have hd's:d'.size=rows.length:=by rw [hperm.1,hds]
  have hpl:d'.toList.Perm ds.toList:=by
   have h2:=hperm.2.2;have e1:(ds.extract 0 rows.length).toList=ds.toList:=by
    rw [Uk];simp only [Ul,Vg,Vx];exact Xy (by rw [XU,hds];exact Xc _)
   have e2:(d'.extract 0 rows.length).toList=d'.toList:=by
    rw [Uk];simp only [Ul,Vg,Vx];exact Xy (by rw [XU,hd's];exact Xc _)
   rw [e1,e2] at h2;exact h2
  let rows':List β:=d'.toList.map fun i=>rows[i.1];have hr's:rows'.length=rows.length:=by simp [rows',hd's]
  have hdl:ds.toList.map (fun i:Fin rows.length=>rows[i.1])=rows:=by
   apply List.ext_getElem
   · simp [ds]
   · intro j h1 h2;simp [ds]
  have hrp:rows'.Perm rows:=by
   have:=hpl.map fun i:Fin rows.length=>rows[i.1];rw [hdl] at this;exact this
  have hat:∀j (hj:j<rows.length),∃i:Fin rows.length,d'[j]! =i∧rows'[j]? =some rows[i.1]:=fun j hj=>by
   have hj':j<d'.size:=oM;refine ⟨d'[j],by simp [hj'],?_⟩;simp [rows',hj']
  rw [hd];refine kk rows' hrp (fun i j x y hij hx' hy'=>?_) _ _ ⟨fun l'=>if l'=l then (fun b=>b=blk) else F l',?_⟩
  · (have hjl:j<rows.length:=by have:=Zj hy';omega);obtain ⟨i1,h1,h2⟩:=hat i oM;obtain ⟨j1,h3,h4⟩:=hat j hjl;rw [h2] at hx';cases hx';rw [h4] at hy';cases hy';have h5:=hsorted i j (Xn _) hij hjl;rw [h1,h3] at h5;simpa [ltOf,cf] using h5
  · have hch0:=Zfw enc k w blk m d' os;rw [←hw'] at hch0;refine H.change (fun l'=>l'=l) hdn (hch0.wid fun b hb'=> .inl ⟨l,_,rfl,hl,by rw [hb'];exact hblkF⟩) (fun l' z hne hz=>?_) (fun l' z b hT' hz hb'=>?_) (fun hmm l' u p hT' hz=>?_) (fun l1 l2 _ _ _ h1 h2 hne=>UC (h1.trans h2.symm) hne) (fun _=> .val _) (fun _=>by rw [hw'];exact VI _ _)
    · rcases Z2 hz with ⟨e1,_⟩|⟨_,e1⟩
      · exact UC e1.symm hne
      · exact ⟨e1,by simp [hne]⟩
    · subst hT';simp only [if_true] at hb';exact .inl ⟨l',_,rfl,hl,by rw [hb'];exact hblkF⟩
    · subst hT';rw [ZK] at hz
      cases hz;simp only [if_true];rcases hrow.2 with ⟨e1,_⟩|⟨g',cap',cur,e1,_,e3,e4,e5,e6,e7⟩
      · rw [hh] at e1;cases e1
      · rw [hh] at e1
        cases e1;(have hfs:(flatK enc k d').size=rows.length*k:=by rw [size_flatK,hd's]);refine .own (flatK enc k d').toList (fun _ _=>False) ⟨by rw [XU,hfs], .inr ⟨blk,cap,putCells id 0 (flatK enc k d') cur,hh,Xn _,by rw [hw'];exact Zjz enc k w blk m d' os e3,e4,e5,by simp [putCells];exact e6,?_⟩⟩ ((Yr hf rows').trans ((congrArg (· *k) hr's).trans ((XU (xs:=flatK enc k d')).trans hfs).symm)) (fun t v p hv hp=>?_) (fun _ _ _ _ _ _ h=>h.elim) (fun _ _ _ h=>h.elim) (fun b=>by rw [hh];simp [Value.ownBlock,eq_comm])
        · rw [←hfs];exact Zfx _ _ (by rw [hfs,e6];exact X7 k e4)
        · (have ht:t<rows.length*k:=by have:=Zj hv;rw [XU,hfs] at this;exact this);(have hdiv:t / k<rows.length:=by rw [Uh hk];exact ht);have hmod:t % k<k:=Nat.mod_lt _ hk;(have he:t / k*k+t % k=t:=by rw [Vl];exact VP _ _);obtain ⟨i1,h1,h2⟩:=hat (t / k) hdiv;have hp2:=WU hf h2 hmod;rw [he,hp] at hp2;have hv2:v=(enc i1)[t % k]! :=by
           have h3:=get_flatK enc k d' t (by rw [hd's];exact ht);rw [h1] at h3;rw [←h3,getElem!_def,←VJ,hv]
          (have hlt:t % k<(enc i1).length:=by rw [henc];exact hmod);have hv3:(enc i1)[t % k]? =some v:=by
           rw [hv2,getElem!_def,Xp hlt]
          exact .shr ((hrd i1 (t % k) v p hv3 hp2.symm).1.to (hch0.wid (N:=fun b=>b=blk) fun b hb'=> .inl hb') (fun b _ hb'=>by rw [hb'];exact hblkM) hmm) (fun _ h=>h)
end
open Go.RowKit Go.Cb
section
variable {P:Program} {c:Ctx} {ops:Array Oper} {Q:Exit→Act→World→Prop} {rest:List Oper} {st:St} {sL hP:List (Nat×Ent)} {o:Oper}
theorem ZhP {w:World} {e k n m:Nat} {h:Value} {xs:List Value} (hrow:w.ownsRow 0 e k h n xs) (hm:m≤n):w.ownsRow 0 e k (slc h 0 m k) m (xs.take (m*k))∧(slc h 0 m k).ownBlock=h.ownBlock:=by
 rcases hrow.2 with ⟨rfl,rfl⟩|⟨g,cap,cur,rfl,hg,hh,h1,h2,h3,h4⟩
 · obtain rfl:m=0:=oM;refine ⟨⟨sM, .inl ⟨by simp [slc],rfl⟩⟩,by simp [slc]⟩
 · have hs:slc (.slice (some ⟨g,0,none⟩) n cap) 0 m k= .slice (some ⟨g,0,none⟩) m cap:=by
    simp only [slc,Ve,Option.map_some,YR,VC,Vx,ite_self]
   rw [hs];refine ⟨⟨?_, .inr ⟨g,cap,cur,rfl,hg,hh,oM,h2,h3,?_⟩⟩,rfl⟩
   · rw [XF,hrow.1];exact X' (X7 k hm)
   · rw [←h4,List.take_take,X' (X7 k hm)]
theorem ZkL {l e k n:Nat} {h:Value} {cs:List PV} (m:Nat) (hl:lk hP l=some (h, .own e k n cs)) (hm:m≤n):J4 (⟨sL,hP⟩:St) (fun _:Unit=>⟨sL,put l (slc h 0 m k, .own e k m (cs.take (m*k))) hP⟩):=fun c a w ⟨F,H⟩=>by
 have hTr:=H.tr l _ _ hl
 obtain ⟨xs,Fs,hrow,hlen,hT,hd,hb,hF⟩:=hTr.row
 obtain ⟨hrow',hown⟩:=ZhP hrow hm
 refine ⟨(),fun x=>if x=l then (fun b=>h.ownBlock=some b∨∃i,i<(cs.take (m*k)).length∧Fs i b) else F x,?_⟩
 have hle:(cs.take (m*k)).length≤cs.length:=by rw [XF];exact Nat.min_le_right _ _
 refine H.retell (fun x=>x=l) (fun x y hnT hx=>?_) (fun x y b hTx hx hb'=>?_) (fun hmm x u q hTx hx=>?_) (fun x1 x2 y1 y2 b h1 h2 hne'=>UC (h1.trans h2.symm) hne')
 · have n1:x≠l:=hnT;rw [Z0 (Ne.symm n1)] at hx;exact ⟨hx,by simp [n1]⟩
 · subst hTx;simp only [if_true] at hb';refine ⟨x,_,rfl,hl,(hF b).2 ?_⟩;rcases hb' with h1|⟨i,hi,h1⟩
   · exact .inl h1
   · exact .inr ⟨i,oM,h1⟩
 · subst hTx;rw [ZK] at hx
   cases hx;simp only [if_true];refine .own _ Fs hrow' (by rw [XF,XF,hlen]) (fun i x p hx9 hp=>?_) (fun i j b hi hj=>hd i j b oM oM) (fun i b hi h1 h2=>hb i b oM h1 (by rw [←hown];exact h2)) (fun b=>by rw [hown]);have hi:i<m*k:=by have:=Zj hx9;rw [XF] at this;omega
   rw [XZ hi] at hx9 hp;exact (hT i x p hx9 hp).anti hmm
theorem O4 {t e kk bytes n m:Nat} {z:Value} {x y:Operand} {h v2:Value} {q:PV} {cs cs2:List PV} (l d:Nat) (hT:ElT P t e kk bytes z) (k:∀h':Value,h'.oneCell'=true→aL P c ops Q rest ⟨put d (h', .val h') sL,put d (h', .own e kk (n+m) (cs++cs2)) (del l hP)⟩)
 (hlen2:cs2.length=m*kk:=by first|assumption|exact rfl) (hok:cs2.all one=true:=by first|assumption|exact rfl) (hw:ZV ops sL o=some true:=by exact rfl) (hd:o.dst=some d:=by exact rfl) (hn:d<c.nt:=by exact Xa rfl) (ho:o.op= .call {callee:= .builtin .append,args:= #[x,y],argTypes:= #[t,t]}:=by exact rfl)
 (hx:ev sL x=some (h,q):=by exact rfl) (hy:ev sL y=some (v2, .sl m cs2):=by exact rfl) (hl:lk hP l=some (h, .own e kk n cs):=by exact rfl) (hdl:lk (del l hP) d=none:=by exact rfl) (hlen:n+m≤9223372036854775807:=by first|omega|exact Xa rfl|(simp only [Xg,Xq,Xd,Xh,Xf,XC,XA,Xo,XD];omega)) (hb:(n+m)*bytes≤140737488355328:=by first|omega|exact Xa rfl|(simp only [Xg,Xq,Xd,Xh,Xf,XC,XA,Xo,XD];omega)) (hdr:¬c.dr:=by exact id):aL P c ops Q (o::rest) (⟨sL,hP⟩:St):=fun a w ⟨F,H⟩=>by
 have h1:h.oneCell'=true:=(H.tr l _ _ hl).cellOne rfl
 rcases VQ m with h0|h0
 · subst h0;have:cs2=[]:=Xw (by rw [hlen2,Ve]);subst this;refine Zhw l d hT hw hd hn ho hx hy hl (ZJ (Z5 d hl hdl) fun _=>?_) a w ⟨F,H⟩;have:=k h h1;rw [Xu] at this;exact this
 · exact Zai l d hT hw hd hn ho hx hy hl (Zhv hy h0) hlen2 hdl hok hlen hb hdr k a w ⟨F,H⟩
end
def Zi3 (P:Program) (fs:Nat):Prop:=∀(blk cap:Nat) (zs:List Int) (w:World),Go.Sort.Holds (Value.int .i64) w blk 0 zs.toArray→blk<w.heap.size→zs.length<4611686018427387904→
 Calls P fs #[.slice (some ⟨blk,0,none⟩) zs.length cap] w fun e w'=>e= .returned (.tuple #[])∧∃n os,w'=grow (putRow (Value.int .i64) (Go.Sort.ahead w n) blk 0 (zs.mergeSort fun x y=>decide (x≤y)).toArray) os
section
variable {P:Program} {c:Ctx} {ops:Array Oper} {Q:Exit→Act→World→Prop} {rest:List Oper} {sL hP:List (Nat×Ent)} {o:Oper}
theorem HG {α:Type} [Inhabited α] (enc:α→Value) (f:Array α) (cur:Array Value) (h:f.size≤cur.size):(putCells enc 0 f cur).toList.take f.size=f.toList.map enc:=by
 apply VG
 intro j
 by_cases hj:j<f.size
 · rw [XZ hj];have hjc:j<cur.size:=oM;simp [putCells,hj,hjc]
 · rw [Vb (by simp;omega),Vb (by simp;omega)]
theorem EM {fs e d:Nat} {zs:List Int} {h:Value} {q:PV} {x:Operand} {ats:Array TypeId} (l:Nat) (hS:Zi3 P fs) (hc:∀args w,(callFunc fs args).run P w= .ok (.enter fs args) w)
 (kk:aL P c ops Q rest ⟨put d (.tuple #[], .val (.tuple #[])) sL,put l (h, .own e 1 zs.length ((zs.mergeSort fun x y=>decide (x≤y)).map Zf)) hP⟩)
 (hn:0<zs.length) (hn2:zs.length<4611686018427387904:=by omega) (hw:ZV ops sL o=some true:=by exact rfl) (hd:o.dst=some d:=by exact rfl) (hdn:d<c.nt:=by exact Xa rfl) (ho:o.op= .call {callee:= .value (.func fs),args:= #[x],argTypes:=ats}:=by exact rfl) (hx:ev sL x=some (h,q):=by exact rfl) (hl:lk hP l=some (h, .own e 1 zs.length (zs.map Zf)):=by exact rfl):aL P c ops Q (o::rest) (⟨sL,hP⟩:St):=
 YJ hw fun a w F H=>by
  have hxv:=(H.rd.ev hx).1;have hTr:=H.tr l _ _ hl;obtain ⟨xs,Fs,hrow,hlen,hT,hdj,hb,hF⟩:=hTr.row;obtain ⟨blk,cap,hh,hc1,hc2,hc3⟩:=KL hTr hn;have hblkF:F l blk:=(hF blk).2 (.inl (by rw [hh];rfl));have hxs:∀(j:Nat) (v:Value),xs[j]? =some v→∃z,zs[j]? =some z∧v= .int .i64 z:=fun j v hv=>by
   obtain ⟨p,hp⟩:=Yl hv hlen.symm;have h1:=hp;rw [Xm,XN] at h1;obtain ⟨z,hz,rfl⟩:=h1;exact ⟨z,hz,((hT j v _ hv hp).sh rfl).vOf⟩
  have hHold:Go.Sort.Holds (Value.int .i64) w blk 0 zs.toArray:=fun j hj=>by
   simp only [V4] at hj;have hrow':=hrow;rw [hh] at hrow';obtain ⟨v,hv⟩:=Yf (show j<xs.length by rw [←hlen,Xd];exact hj);obtain ⟨z,hz,rfl⟩:=hxs j v hv;refine ⟨?_,by rw [Xx];exact hrow'.frozenAt j⟩;rw [Xx,WS hrow' hv];have:zs.toArray[j]! =z:=by
    have hz':=(Xl.1 hz).2;simp [hj,hz']
   rw [this]
  have hcall:=hS blk cap zs w hHold hc3 hn2;unfold Oper.wp;have hrun:(execOp a.eval o).run P w= .ok (.enter fs #[h]) w:=by
   have hev:a.eval (.func fs)= .func (.func fs) #[] #[]:=rfl;simp [execOp,ho,resolve,Deferred.ofValue,hev,invoke,hxv,hc]
  rw [hrun,Oper.upon_enter,hh];refine hcall.mono fun e' w' ⟨he',m,os,hw'⟩=>?_;subst he';have hsl:(zs.mergeSort fun x y=>decide (x≤y)).length=zs.length:=VT _;generalize hsd:(zs.mergeSort fun x y=>decide (x≤y))=sd at hsl hw' kk;have hch0:Chg (fun b=>b=blk) w w':=by
   rw [hw'];refine ⟨rfl,rfl,rfl,?_,fun i hi hne=>?_⟩
   · simp [grow,putRow,mapBlock,Go.Sort.ahead]
   · have:(grow (putRow (Value.int .i64) (Go.Sort.ahead w m) blk 0 sd.toArray) os).heap=(w.heap.modify blk (onCells (putCells (Value.int .i64) 0 sd.toArray)))++os:=rfl;rw [this,Vp (by simpa using hi),VS,UA (fun e=>hne e.symm)]
  rw [hd];refine kk _ _ ⟨fun l'=>if l'=l then (fun b=>b=blk) else F l',?_⟩;refine H.change (fun l'=>l'=l) hdn (hch0.wid fun b hb'=> .inl ⟨l,_,rfl,hl,by rw [hb'];exact hblkF⟩) (fun l' z hne hz=>?_) (fun l' z b hT' hz hb'=>?_) (fun hmm l' u p hT' hz=>?_) (fun l1 l2 _ _ _ h1 h2 hne=>UC (h1.trans h2.symm) hne) (fun _=> .val _) (fun _=>by rw [hw'];exact VI _ _)
  · rcases Z2 hz with ⟨e1,_⟩|⟨_,e1⟩
    · exact UC e1.symm hne
    · exact ⟨e1,by simp [hne]⟩
  · subst hT';simp only [if_true] at hb';exact .inl ⟨l',_,rfl,hl,by rw [hb'];exact hblkF⟩
  · subst hT';rw [ZK] at hz
    cases hz;simp only [if_true];rcases hrow.2 with ⟨e1,_⟩|⟨g',cap',cur,e1,_,e3,e4,e5,e6,e7⟩
    · rw [hh] at e1;cases e1
    · rw [hh] at e1
      cases e1;have hlt:=Wr e3;refine .own (sd.map (Value.int .i64)) (fun _ _=>False) ⟨by rw [Xd,hsl,XO], .inr ⟨blk,cap,putCells (Value.int .i64) 0 sd.toArray cur,hh,Xn _,?_,e4,e5,by simp [putCells];omega,?_⟩⟩ sM (fun t v p hv hp=>?_) (fun _ _ _ _ _ _ h=>h.elim) (fun _ _ _ h=>h.elim) (fun b=>by rw [hh];simp [Value.ownBlock,eq_comm])
      · rw [hw'];have:(grow (putRow (Value.int .i64) (Go.Sort.ahead w m) blk 0 sd.toArray) os).heap=(w.heap.modify blk (onCells (putCells (Value.int .i64) 0 sd.toArray)))++os:=rfl;rw [this,Vp (by simpa using hlt),VS,UB rfl,e3];rfl
      · have:=HG (Value.int .i64) sd.toArray cur (by simp only [V4];rw [hsl,e6];omega);simp only [V4] at this;rw [XO,←hsl];exact this
      · rw [Xm,XN] at hv hp;obtain ⟨z,hz,rfl⟩:=hv;obtain ⟨z',hz',rfl⟩:=hp;rw [hz] at hz';cases hz';exact .shr (.val _) (fun _ h=>h)
end
theorem Zfy {w w':World} (h:Ext w w') (hd:w.drawn≤w'.drawn):∃q os',w'=Go.Sort.grow (w.drewN q) os':=by
 refine ⟨w'.drawn-w.drawn,w'.heap.extract w.heap.size w'.heap.size,?_⟩
 have hh:w'.heap=w.heap++w'.heap.extract w.heap.size w'.heap.size:=by
  apply Array.ext_getElem?;intro i;rcases Xv i w.heap.size with hi|hi
  · rw [Vp hi];exact Below.block h i hi
  · rw [Array.getElem?_append_right hi,Array.getElem?_extract];have hs:=h.size;rcases Xv i w'.heap.size with hi2|hi2
    · rw [UB (by simp;omega),show w.heap.size+(i-w.heap.size)=i by omega]
    · rw [Vd hi2,UA (by simp;omega)]
 have h1:=h.os
 have h2:=h.tape
 have h3:=h.output
 cases w' with
 | mk heap' tape' drawn' os' output'=>
   simp only at h1 h2 h3 hh hd;simp only [Go.Sort.grow,World.drewN];rw [←hh,h1,h2,h3,show w.drawn+(drawn'-w.drawn)=drawn' by omega]
theorem AFg.exact {P:Program} {g:Nat} {ps:List PV} {x:Value} (h:AFg P g ps (· = .val x)) {M:BS} {W:World} {vs:List Value} (hl:vs.length=ps.length) (hv:∀(i:Nat) (v:Value) (p:PV),vs[i]? =some v→ps[i]? =some p→Shr M W v p):
 Calls P g vs.toArray W fun e w'=>e= .returned x∧∃q os',w'=Go.Sort.grow (W.drewN q) os':=
 (h (fun _=>False) W vs (M0k.true W) hl (fun i v p h1 h2=>(hv i v p h1 h2).anti fun _ _ h=>h.elim)).mono fun e w' ⟨v,p,F,h1,h2,h3,h4,_,h6⟩=>by
   subst h2;have:=(h4.sh rfl).vOf;subst this;exact ⟨h1,Zfy h3 (h6 trivial)⟩
section
variable {P:Program} {c:Ctx} {ops:Array Oper} {Q:Exit→Act→World→Prop} {rest:List Oper} {sL hP:List (Nat×Ent)} {o:Oper}
def ZaH (P:Program) (fs g:Nat):Prop:=∀{α:Type} [Inhabited α] (enc:α→Value),OneCell enc→∀(cf:α→α→Int),SWO (ltOf cf)→∀(cb:Array Value) (blk cap:Nat) (d:Array α) (w:World),
 CmpLays1 P g cb enc cf blk 0 d.size w→Go.Sort.Holds enc w blk 0 d→blk<w.heap.size→d.size<4611686018427387904→
 Calls P fs #[.slice (some ⟨blk,0,none⟩) d.size cap, .func (.func g) #[] cb] w fun e w'=>e= .returned (.tuple #[])∧∃d' n os,PermIn 0 d.size d d'∧SortedIn (ltOf cf) 0 d.size d'∧w'=sortWorld enc w blk 0 n d' os
theorem O5 {α:Type} [Inhabited α] (enc:α→Value) (w:World) (blk m:Nat) (d:Array α) (os:Array Obj):(sortWorld enc w blk 0 m d os).heap=(w.heap.modify blk (onCells (putCells enc 0 d)))++os:=rfl
theorem ZbW {α:Type} [Inhabited α] (enc:α→Value) (w:World) (blk m:Nat) (d:Array α) (os:Array Obj):Chg (fun b=>b=blk) w (sortWorld enc w blk 0 m d os):=by
 refine ⟨rfl,rfl,rfl,?_,fun i hi hne=>?_⟩
 · rw [O5];simp
 · rw [O5,Vp (by simpa using hi),VS,UA (fun e=>hne e.symm)]
theorem ZhQ {α:Type} [Inhabited α] (enc:α→Value) (w:World) (blk m:Nat) (d:Array α) (os:Array Obj) {cur:Array Value} {e:TypeId} (h:w.heap[blk]? =some (.cells cur e (0,0))):
 (sortWorld enc w blk 0 m d os).heap[blk]? =some (.cells (putCells enc 0 d cur) e (0,0)):=by
 have hlt:=Wr h
 rw [O5,Vp (by simpa using hlt),VS,UB rfl,h]
 rfl
theorem ZbX {β:Type} {fs g e d:Nat} {f:β→PV} {cmp:β→β→Int} {rows:List β} {h fv:Value} {caps:List PV} {q:PV} {x y:Operand} {ats:Array TypeId} (l:Nat) (hS:ZaH P fs g) (hc:∀args w,(callFunc fs args).run P w= .ok (.enter fs args) w) (hsh:∀x,(isSh (f x)&&one (f x))=true)
 (hirr:∀a,¬cmp a a<0) (htr:∀a b c,cmp a b<0→cmp b c<0→cmp a c<0) (hnt:∀a b c,¬cmp a b<0→¬cmp b c<0→¬cmp a c<0)
 (hcmp:∀x∈rows,∀y∈rows,AFg P g (f x::f y::caps) (· = .val (.int .i64 (cmp x y)))) (hn:0<rows.length) (hn2:rows.length<4611686018427387904)
 (kk:∀rows':List β,rows'.Perm rows→(∀(i j:Nat) (a b:β),i<j→rows'[i]? =some a→rows'[j]? =some b→¬cmp b a<0)→aL P c ops Q rest ⟨put d (.tuple #[], .val (.tuple #[])) sL,put l (h, .own e 1 rows.length (rows'.map f)) hP⟩)
 (hw:ZV ops sL o=some true:=by exact rfl) (hd:o.dst=some d:=by exact rfl) (hdn:d<c.nt:=by exact Xa rfl) (ho:o.op= .call {callee:= .value (.func fs),args:= #[x,y],argTypes:=ats}:=by exact rfl) (hx:ev sL x=some (h,q):=by exact rfl) (hy:ev sL y=some (fv, .fn g caps):=by exact rfl) (hl:lk hP l=some (h, .own e 1 rows.length (rows.map f)):=by exact rfl):aL P c ops Q (o::rest) (⟨sL,hP⟩:St):=
 YJ hw fun a w F H=>by
  have hxv:=(H.rd.ev hx).1;obtain ⟨hyv,hfn⟩:=H.rd.ev hy;have hTr:=H.tr l _ _ hl;obtain ⟨xs,Fs,hrow,hlen,hT,hdj,hb,hF⟩:=hTr.row;obtain ⟨blk,cap,hh,hc1,hc2,hc3⟩:=KL hTr hn;have hblkF:F l blk:=(hF blk).2 (.inl (by rw [hh];rfl));have hblkM:mof c hP F blk:= .inr ⟨l,_,hl,hblkF⟩;have hxl:xs.length=rows.length:=by rw [←hlen,Xd]
  obtain ⟨cv,hcvl,hcv,rfl⟩:∃cv:List Value,cv.length=caps.length∧(∀(i:Nat) (v:Value) (p:PV),cv[i]? =some v→caps[i]? =some p→Shr (mof c hP F) w v p)∧fv= .func (.func g) #[] cv.toArray:=by
   cases hfn with
   |fn _ vs _ hl' hT'=>exact ⟨vs,hl',hT',rfl⟩
  haveI:Inhabited (Fin rows.length):=⟨⟨0,hn⟩⟩
  let enc:Fin rows.length→Value:=fun i=>xs[i.1]'(by rw [hxl];exact i.2);have hrd:∀(i:Fin rows.length),Shr (mof c hP F) w (enc i) (f rows[i.1])∧one (f rows[i.1])=true:=fun i=>by
   have h1:=hsh rows[i.1];rw [Xe] at h1;exact ⟨(hT i.1 _ _ (Xp _) (by rw [Xm,Xp i.2];rfl)).sh h1.1,h1.2⟩
  have hone:OneCell enc:=fun i=>(hrd i).1.one (hrd i).2;let cf:Fin rows.length→Fin rows.length→Int:=fun i j=>cmp rows[i.1] rows[j.1];have hO:SWO (ltOf cf):=⟨fun i=>Uz (hirr _),fun i j m h1 h2=>Uy (htr _ _ _ (UD h1) (UD h2)),fun i j m h1 h2=>Uz (hnt _ _ _ (UE h1) (UE h2))⟩;let ds:Array (Fin rows.length):=Array.ofFn id;have hds:ds.size=rows.length:=by simp [ds]
  have hdg:∀j (hj:j<rows.length),ds[j]! =⟨j,hj⟩:=fun j hj=>by simp [ds,hj]
  have hcl:CmpLays1 P g cv.toArray enc cf blk 0 ds.size w:=fun m os dk _ i j=>by
   have hW:=ZbW enc w blk m dk os;have key:∀{v:Value} {p:PV},Shr (mof c hP F) w v p→Shr (mof c hP F) (sortWorld enc w blk 0 m dk os) v p:=fun h=>h.to hW (fun b _ hb=>by rw [hb];exact hblkM) (fun _ _ h=>h);have:=(hcmp rows[i.1] (XY _) rows[j.1] (XY _)).exact (M:=mof c hP F) (W:=sortWorld enc w blk 0 m dk os) (vs:=enc i::enc j::cv) (by simp [hcvl]) (fun t v p hv hp=>by
    match t with
    |0=>simp at hv hp;subst hv hp;exact key (hrd i).1
    |1=>simp at hv hp;subst hv hp;exact key (hrd j).1
    |t+2=>exact key (hcv t v p (by simpa using hv) (by simpa using hp)))
   have e1:(#[enc i,enc j]++cv.toArray)=(enc i::enc j::cv).toArray:=sM;rw [e1];exact this
  have hHold:Go.Sort.Holds enc w blk 0 ds:=fun t ht=>by
   rw [hds] at ht;have hrow':=hrow;rw [hh] at hrow';refine ⟨?_,by rw [Xx];exact hrow'.frozenAt t⟩;rw [Xx,hdg t ht];exact WS hrow' (Xp _)
  have hcall:=hS enc hone cf hO cv.toArray blk cap ds w hcl hHold hc3 (by rw [hds];exact hn2);rw [hds] at hcall;unfold Oper.wp;have hrun:(execOp a.eval o).run P w= .ok (.enter fs #[h, .func (.func g) #[] cv.toArray]) w:=by
   have hev:a.eval (.func fs)= .func (.func fs) #[] #[]:=rfl;simp [execOp,ho,resolve,Deferred.ofValue,hev,invoke,hxv,hyv,hc]
  rw [hrun,Oper.upon_enter,hh];refine hcall.mono fun e' w' ⟨he',d',m,os,hperm,hsorted,hw'⟩=>?_;subst he';have hd's:d'.size=rows.length:=by rw [hperm.1,hds]
  have hpl:d'.toList.Perm ds.toList:=by
   have h2:=hperm.2.2;have e1:(ds.extract 0 rows.length).toList=ds.toList:=by
    rw [Uk];simp only [Ul,Vg,Vx];exact Xy (by rw [XU,hds];exact Xc _)
   have e2:(d'.extract 0 rows.length).toList=d'.toList:=by
    rw [Uk];simp only [Ul,Vg,Vx];exact Xy (by rw [XU,hd's];exact Xc _)
   rw [e1,e2] at h2;exact h2
  let rows':List β:=d'.toList.map fun i=>rows[i.1];have hr's:rows'.length=rows.length:=by simp [rows',hd's]
  have hdl:ds.toList.map (fun i:Fin rows.length=>rows[i.1])=rows:=by
   apply List.ext_getElem
   · simp [ds]
   · intro j h1 h2;simp [ds]
  have hrp:rows'.Perm rows:=by
   have:=hpl.map fun i:Fin rows.length=>rows[i.1];rw [hdl] at this;exact this
  have hat:∀j (hj:j<rows.length),∃i:Fin rows.length,d'[j]! =i∧d'.toList[j]? =some i∧rows'[j]? =some rows[i.1]:=fun j hj=>by
   have hj':j<d'.size:=oM;refine ⟨d'[j],by simp [hj'],by simp [hj'],?_⟩;simp [rows',hj']
  rw [hd];refine kk rows' hrp (fun i j x y hij hx' hy'=>?_) _ _ ⟨fun l'=>if l'=l then (fun b=>b=blk) else F l',?_⟩
  · (have hjl:j<rows.length:=by have:=Zj hy';omega);obtain ⟨i1,h1,_,h2⟩:=hat i oM;obtain ⟨j1,h3,_,h4⟩:=hat j hjl;rw [h2] at hx';cases hx';rw [h4] at hy';cases hy';have h5:=hsorted i j (Xn _) hij hjl;rw [h1,h3] at h5;simpa [ltOf,cf] using h5
  · have hch0:=ZbW enc w blk m d' os;rw [←hw'] at hch0;refine H.change (fun l'=>l'=l) hdn (hch0.wid fun b hb'=> .inl ⟨l,_,rfl,hl,by rw [hb'];exact hblkF⟩) (fun l' z hne hz=>?_) (fun l' z b hT' hz hb'=>?_) (fun hmm l' u p hT' hz=>?_) (fun l1 l2 _ _ _ h1 h2 hne=>UC (h1.trans h2.symm) hne) (fun _=> .val _) (fun _=>by rw [hw'];exact VI _ _)
    · rcases Z2 hz with ⟨e1,_⟩|⟨_,e1⟩
      · exact UC e1.symm hne
      · exact ⟨e1,by simp [hne]⟩
    · subst hT';simp only [if_true] at hb';exact .inl ⟨l',_,rfl,hl,by rw [hb'];exact hblkF⟩
    · subst hT';rw [ZK] at hz
      cases hz;simp only [if_true];rcases hrow.2 with ⟨e1,_⟩|⟨g',cap',cur,e1,_,e3,e4,e5,e6,e7⟩
      · rw [hh] at e1;cases e1
      · rw [hh] at e1
        cases e1;refine .own (d'.toList.map enc) (fun _ _=>False) ⟨by rw [Xd,XU,hd's,XO], .inr ⟨blk,cap,putCells enc 0 d' cur,hh,Xn _,by rw [hw'];exact ZhQ enc w blk m d' os e3,e4,e5,by simp [putCells];omega,?_⟩⟩ (by simp [rows']) (fun t v p hv hp=>?_) (fun _ _ _ _ _ _ h=>h.elim) (fun _ _ _ h=>h.elim) (fun b=>by rw [hh];simp [Value.ownBlock,eq_comm])
        · have:=HG enc d' cur (by rw [hd's,e6];omega);rw [hd's] at this;rw [XO];exact this
        · (have ht:t<rows.length:=by have:=Zj hv;rw [Xd,XU,hd's] at this;exact this);obtain ⟨i1,_,h1,h2⟩:=hat t ht;rw [Xm,h1] at hv;rw [Xm,h2] at hp
          cases hv
          cases hp;exact .shr ((hrd i1).1.to (hch0.wid (N:=fun b=>b=blk) fun b hb'=> .inl hb') (fun b _ hb'=>by rw [hb'];exact hblkM) hmm) (fun _ h=>h)
end
open Go.ChangeMaps (setBlock)
def itv (r:Nat):Value:= .pointer (some ⟨r,0,none⟩)
def itP (b r clock:Nat) (es:Array MapEntry) (seen:Array Nat):PV:= .oblk (itv r) r (.mapIter (some b) clock seen clock) [(b, .map es clock)]
def itE (b r clock:Nat) (es:Array MapEntry) (seen:Array Nat):Ent:=(itv r,itP b r clock es seen)
theorem Tr.blk {M:BS} {w:World} {v u:Value} {r:Nat} {ob:Obj} {sh:List (Nat×Obj)} {F:BS} (H:Tr M w v (.oblk u r ob sh) F):w.heap[r]? =some ob∧(∀p∈sh,w.heap[p.1]? =some p.2∧¬M p.1)∧∀x,F x↔x=r:=by
 cases H with
 |shr h _=>cases h
 |oblk _ h1 h hs hF=>exact ⟨h,hs,hF⟩
section
variable {P:Program} {c:Ctx} {ops:Array Oper} {Q:Exit→Act→World→Prop} {rest:List Oper} {sL hP:List (Nat×Ent)} {o:Oper}
theorem C0 {t ks e:Nat} {x:Operand} {m:Value} {kv:List (Value×Value)} (d:Nat) (ht:P.underlying t=some (.map ks e)) (k:∀(b r clock:Nat) (es:Array MapEntry),kv=kvOf es→WfM es clock→aL P c ops Q rest ⟨put d (itv r, .val (itv r)) sL,put d (itE b r clock es #[]) hP⟩)
 (hw:ZV ops sL o=some true:=by exact rfl) (hd:o.dst=some d:=by exact rfl) (hn:d<c.nt:=by exact Xa rfl) (ho:o.op= .range t x:=by exact rfl) (hx:ev sL x=some (m, .smap kv):=by exact rfl) (hl:lk hP d=none:=by exact rfl):aL P c ops Q (o::rest) (⟨sL,hP⟩:St):=
 YJ hw fun a w F H=>by
  obtain ⟨hv,hS⟩:=H.rd.ev hx
  cases hS with
  | smap b es clock hM h hW=>
    have key:HoldsF c ⟨put d (itv w.heap.size, .val (itv w.heap.size)) sL,put d (itE b w.heap.size clock es #[]) hP⟩ (fun l'=>if l'=d then (fun x=>x=w.heap.size) else F l') (a.put (some d) (itv w.heap.size)) (w.alloc (.mapIter (some b) clock #[] clock)):=by
     refine H.change (fun l'=>l'=d) hn ((Ext.alloc _ _).chg) (fun l' x hne hx'=>?_) (fun l' x b' hT hx' hb=>?_) (fun hm l' u q hT hx'=>?_) (fun l1 l2 _ _ _ h1 h2 hne=>UC (h1.trans h2.symm) hne) (fun hm=> .val _)
     · rcases Z2 hx' with ⟨e1,_⟩|⟨_,e1⟩
       · exact UC e1.symm hne
       · exact ⟨e1,by simp [hne]⟩
     · subst hT;simp only [if_true] at hb;exact .inr (by rw [hb];exact Xc _)
     · subst hT;rw [ZK] at hx';unfold itE itP at hx'
       cases hx';simp only [if_true];refine .oblk w.heap.size rfl ?_ (fun p hp=>?_) (fun x=>Iff.rfl)
       · show (w.heap.push _)[w.heap.size]? =_;simp
       · rw [XB] at hp;subst hp;exact ⟨(Ext.alloc w _).block h,fun hb=>hM (hm b (Wr h) hb)⟩
    have hrun:(execOp a.eval o).run P w= .ok (.value (itv w.heap.size)) (w.alloc (.mapIter (some b) clock #[] clock)):=by
     simp [execOp,ho,hv,Instr.range,run_underlying ht,getObj,newObj,Sem.run,h,itv]
    unfold Oper.wp;rw [hrun,Oper.upon_value,hd];exact k _ _ _ _ rfl hW _ _ ⟨_,key⟩
theorem ZbY {x:Operand} {q:PV} {b r clock:Nat} {es:Array MapEntry} {seen:Array Nat} (l d:Nat) (hW:WfM es clock)
 (k0:leftOf es seen= #[]→aL P c ops Q rest ⟨put d (.tuple [.bool false].toArray, .tup [.val (.bool false)]) sL,hP⟩)
 (k1:∀e∈(leftOf es seen).toList,aL P c ops Q rest ⟨put d (.tuple [.bool true,e.key,e.val].toArray, .tup [.val (.bool true), .val e.key, .val e.val]) sL,put l (itE b r clock es (seen.push e.born)) hP⟩)
 (hw:ZV ops sL o=some true:=by exact rfl) (hd:o.dst=some d:=by exact rfl) (hn:d<c.nt:=by exact Xa rfl) (ho:o.op= .next x false:=by exact rfl) (hx:ev sL x=some (itv r,q):=by exact rfl) (hl:lk hP l=some (itE b r clock es seen):=by exact rfl):aL P c ops Q (o::rest) (⟨sL,hP⟩:St):=
 YJ hw fun a w F H=>by
  have hv:=(H.rd.ev hx).1;obtain ⟨h,hs,hF⟩:=(H.tr l _ _ hl).blk;obtain ⟨hb,hMb⟩:=hs (b, .map es clock) sM;dsimp only at hb hMb;rcases run_next_at (P:=P) w o.type r b clock clock seen es clock h hb (fun x hx=>hW.1 x hx) (Xc _) with ⟨h0,hr⟩|⟨e,he,w1,hw1,hr⟩
  · have hrun:(execOp a.eval o).run P w= .ok (.value (.tuple [.bool false].toArray)) w:=by
     simp [execOp,ho,hv,itv,hr]
    unfold Oper.wp;rw [hrun,Oper.upon_value,hd];refine k0 (Array.eq_empty_of_size_eq_zero h0) _ _ ⟨F,H.put hn (.tup _ _ rfl fun i x p hx hp=>?_)⟩;match i with
    |0=>simp at hx hp;subst hx hp;exact .val _
    |i+1=>simp at hx
  · have hrun:(execOp a.eval o).run P w= .ok (.value (.tuple [.bool true,e.key,e.val].toArray)) (setBlock w1 r (.mapIter (some b) clock (seen.push e.born) clock)):=by
     simp [execOp,ho,hv,itv,hr]
    unfold Oper.wp;rw [hrun,Oper.upon_value,hd];have hlt:=Wr h;have hh:w1.heap=w.heap:=by rcases hw1 with rfl|rfl<;>rfl
    (have hbr:b≠r:=fun e=>by subst e;exact hMb (.inr ⟨l,_,hl,(hF b).2 rfl⟩));have hch:Chg (fun x=>x=r) w (setBlock w1 r (.mapIter (some b) clock (seen.push e.born) clock)):=by
     refine ⟨by rcases hw1 with rfl|rfl<;>rfl,by rcases hw1 with rfl|rfl<;>rfl,by rcases hw1 with rfl|rfl<;>rfl,?_,fun i hi hne=>?_⟩
     · show _≤(w1.heap.setIfInBounds r _).size;rw [hh];simp
     · show (w1.heap.setIfInBounds r _)[i]? =_;rw [hh,Ug (fun e=>hne e.symm)]
    refine k1 e he _ _ ⟨F,H.change (fun l'=>l'=l) hn (hch.wid fun x hx=> .inl ⟨l,_,rfl,hl,(hF x).2 hx⟩) (fun l' x hne hx'=>?_) (fun l' x b' hT' hx' hb'=>?_) (fun hmm l' u q hT' hx'=>?_) (fun l1 l2 _ _ _ h1 h2 hne=>UC (h1.trans h2.symm) hne) (fun _=> .tup _ _ rfl fun i x p hx hp=>?_) (fun _=>?_)⟩
    · rcases Z2 hx' with ⟨e1,_⟩|⟨_,e1⟩
      · exact UC e1.symm hne
      · exact ⟨e1,rfl⟩
    · subst hT';exact .inl ⟨l',_,rfl,hl,hb'⟩
    · subst hT';rw [ZK] at hx';unfold itE itP at hx'
      cases hx';refine .oblk r rfl ?_ (fun p hp=>?_) hF
      · show (w1.heap.setIfInBounds r _)[r]? =_;rw [hh];simp [hlt]
      · rw [XB] at hp;subst hp;exact ⟨(hch.block b (Wr hb) hbr).trans hb,fun hm=>hMb (hmm b (Wr hb) hm)⟩
    · match i with
      |0=>simp at hx hp;subst hx hp;exact .val _
      |1=>simp at hx hp;subst hx hp;exact .val _
      |2=>simp at hx hp;subst hx hp;exact .val _
      |i+3=>simp at hx
    · rcases hw1 with rfl|rfl
      · exact Xc _
      · exact Vt _
theorem ZbZ {st:St} {x:Operand} {q:PV} {b r clock:Nat} {es:Array MapEntry} {seen:Array Nat} {e:MapEntry} (l:Nat) (hW:WfM es clock) (he:e∈es.toList) (ho:o.op= .entry x:=by exact rfl) (hx:ev st.slots x=some (itv r,q):=by exact rfl) (hl:lk st.heap l=some (itE b r clock es (seen.push e.born)):=by exact rfl):YE P st o (· = .tuple [e.key,e.val].toArray) (.tup [.val e.key, .val e.val]):= .exact fun M F a w H=>by
 have hv:=(H.ev hx).1
 obtain ⟨h,hs,hF⟩:=(H.tr l _ _ hl).blk
 obtain ⟨hb,hMb⟩:=hs (b, .map es clock) sM
 have hr:=run_entry_at (P:=P) w r b clock seen es clock e h hb he hW.2
 refine ⟨.tup _ _ rfl fun i x p hx hp=>?_,by simp [execOp,ho,hv,itv,hr]⟩
 match i with
 |0=>simp at hx hp;subst hx hp;exact .val _
 |1=>simp at hx hp;subst hx hp;exact .val _
 |i+2=>simp at hx
end
theorem C1 (es:Array MapEntry):leftOf es #[]=es:=by
 unfold leftOf
 exact Array.filter_eq_self.2 fun x _=>sM
theorem O6 {es:Array MapEntry} {seen:Array Nat} {e:MapEntry} (h:e∈(leftOf es seen).toList):e∈es.toList:=by
 unfold leftOf at h
 rw [Um] at h
 exact (Vr.1 h).1
theorem HH {e:MapEntry}:∀{L:List MapEntry},(L.map (·.born)).Nodup→e∈L→L.Perm (e::L.filter fun x=> !(x.born==e.born))
 | a ::L,hn,he=>by
   rw [Xk,Vj] at hn;rcases Xi.1 he with rfl|he
   · rw [VU sM];rw [List.filter_eq_self.2 fun x hx=>?_];have:x.born≠e.born:=fun h=>hn.1 (Xr.2 ⟨x,hx,h⟩);simpa using this
   · have:a.born≠e.born:=fun h=>hn.1 (Xr.2 ⟨e,he,h.symm⟩);rw [VV (by simpa using this)];exact ((HH hn.2 he).cons a).trans (List.Perm.swap _ _ _)
theorem R4 {es:Array MapEntry} {seen:Array Nat} {e:MapEntry} {clock:Nat} (hW:WfM es clock) (he:e∈(leftOf es seen).toList):(kvOf (leftOf es seen)).Perm ((e.key,e.val)::kvOf (leftOf es (seen.push e.born))):=by
 have h1:((leftOf es seen).toList.map (·.born)).Nodup:=by
  unfold leftOf;rw [Um];exact hW.2.sublist (List.filter_sublist.map _)
 have h2:=(HH h1 he).map fun x=>(x.key,x.val)
 unfold kvOf
 refine h2.trans ?_
 rw [Xk]
 refine List.Perm.cons _ (List.Perm.of_eq ?_)
 congr 1
 unfold leftOf
 rw [Um,Um,List.filter_filter]
 refine List.filter_congr fun x _=>?_
 rw [Array.contains_push]
 cases seen.contains x.born<;>simp [Bool.beq_comm]
def ArrT (P:Program) (t len:Nat):Bool:=match P.underlying t with
 |some (.array n e)=>Nat.beq n len&&(match P.info? e with|some i=>Nat.beq i.size 1|none=>false)
 |_=>false
theorem ArrT.run {P:Program} {t len:Nat} (h:ArrT P t len=true):∃e i,P.underlying t=some (.array len e)∧P.info? e=some i∧i.size=1:=by
 unfold ArrT at h
 split at h
 · rename_i n e hu;rw [Xe] at h;obtain ⟨h1,h2⟩:=h;split at h2
   · rename_i i hi;have e1:=XJ h1;subst e1;exact ⟨e,i,hu,hi,XJ h2⟩
   · cases h2
 · cases h
section
variable {P:Program} {st:St} {o:Oper}
theorem Zfz {t len j e' k' n i:Nat} {x y:Operand} {h:Value} {kd:IntKind} {p q:PV} {cs:List PV} (l:Nat) (hT:ArrT P t len=true) (ho:o.op= .indexAddr t x y:=by exact rfl) (hx:ev st.slots x=some (padd (sbase h) j,p):=by exact rfl) (hy:ev st.slots y=some (.int kd (i:Int),q):=by exact rfl) (hl:lk st.heap l=some (h, .own e' k' n cs):=by exact rfl) (hn:0<n:=by first|omega|exact Xa rfl) (hi:i<len:=by first|omega|exact Xa rfl):YE P st o (· =padd (sbase h) (j+i)) (.val (padd (sbase h) (j+i))):=
 .exact fun M F a w H=>by
  have hv:=(H.ev hx).1;have hyv:=(H.ev hy).1;obtain ⟨g,cap,rfl,_⟩:=KL (H.tr l _ _ hl) hn;obtain ⟨e,inf,hu,hinf,hs1⟩:=ArrT.run hT;refine ⟨.val _,?_⟩;simp only [sbase,padd] at hv ⊢;simp [execOp,ho,hv,hyv,Instr.indexAt,asIntOf,run_underlying hu,Instr.sureAddr,sizeOf,typeInfo,hinf,hs1,hi,YR]
theorem ZfA {t:Nat} {x y:Operand} {v0 v1:Value} {p0 p1:PV} {z:Value} (hT:ArrT P t 2=true) (hz:ZeroT P t z) (ho:o.op= .build t #[(0,x),(1,y)]:=by exact rfl) (hx:ev st.slots x=some (v0,p0):=by exact rfl) (hy:ev st.slots y=some (v1,p1):=by exact rfl) (h0:v0.oneCell'=true:=by exact rfl) (h1:v1.oneCell'=true:=by exact rfl) (hzs:z.cells.size=2:=by exact rfl):YE P st o (· = .agg [v0,v1].toArray) (.agg [p0,p1]):=
 .exact fun M F a w H=>by
  obtain ⟨hv,hS0⟩:=H.ev hx;obtain ⟨hyv,hS1⟩:=H.ev hy;obtain ⟨e,inf,hu,hinf,hs1⟩:=ArrT.run hT;have c0:=Kt h0;have c1:=Kt h1;obtain ⟨a0,a1,hza⟩:∃a0 a1,z.cells= #[a0,a1]:=by
   generalize z.cells=A at hzs;obtain ⟨L⟩:=A;match L,hzs with
   |[a0,a1],_=>exact ⟨a0,a1,rfl⟩
  refine ⟨.agg _ _ rfl fun i u r hu hr=>?_,?_⟩
  · match i with
    |0=>simp at hu hr;subst hu hr;exact hS0
    |1=>simp at hu hr;subst hu hr;exact hS1
    |i+2=>simp at hu
  · simp [execOp,ho,hv,hyv,Instr.build,run_underlying hu,ZeroT.run hz,sizeOf,typeInfo,hinf,hs1,Instr.fill,c0,c1,hza]
end
abbrev Pr:=ByteArray×ByteArray
def JH (k:Pr):Value:= .agg #[.string k.1, .string k.2]
theorem ZfB {a b:Pr} (h:JH a=JH b):a=b:=by
 simp [JH] at h
 exact Prod.ext h.1 h.2
def akv (m:List (Pr×Value)):List (Value×Value):=m.map fun x=>(JH x.1,x.2)
def prOk (k:Pr):Prop:=k.1.size≤140737488355328∧k.2.size≤140737488355328
structure PkT (P:Program) (t ks s e:Nat) (z:Value):Prop where
 ht:P.underlying t=some (.map ks e)
 hu:P.underlying ks=some (.array 2 s)
 hs:P.underlying s=some .string
 hk:P.keyType ks=true
 hk2:P.keyTypeAt 2 ks=true
 hti:P.tiled 2 ks=true
 hc2:P.cellsOf ks=2
 hc1:P.cellsOf s=1
 hf:∀a b:ByteArray,(Value.agg #[.string a, .string b]).formed P ks=true
 hsz:∃n,P.types.size=n+1
 hz:ZeroT P e z
theorem PkT.law {P:Program} {t ks s e:Nat} {z:Value} (h:PkT P t ks s e z):WideMaps.KeyLaw P ks:=deep_law (m:=2) dC h.hk2 h.hti (by rw [h.hu])
theorem PkT.key {P:Program} {t ks s e:Nat} {z:Value} (h:PkT P t ks s e z) {k:Pr} (hk:prOk k):∃l,keyOf P ks (JH k)=some l:=by
 obtain ⟨n,hn⟩:=h.hsz
 have hl:∀c:ByteArray,c.size≤140737488355328→P.keyLits (n+1) s [.string c]=some [.string c.data.toList]:=fun c hc=>by
  unfold Program.keyLits;rw [h.hs];dsimp only;rw [UB (XG hc dC)]
 unfold keyOf
 rw [h.hu]
 dsimp only
 rw [h.hk,show (JH k).formed P ks=true from h.hf _ _,hn]
 refine ⟨.string (keyBytes [.string k.1.data.toList, .string k.2.data.toList]),?_⟩
 rw [UB (show (true&&true)=true from rfl)]
 unfold Program.keyLits
 rw [h.hu]
 dsimp only [JH,Value.cells]
 rw [h.hc2,h.hc1]
 rw [UB (by rfl)]
 rw [show List.range 2=[0,1] from rfl]
 simp only [List.mapM_cons,List.mapM_nil,Ve,Nat.one_mul,Vg,List.drop_succ_cons,List.take_succ_cons,V7,hl _ hk.1,hl _ hk.2]
 rfl
theorem Zdq {m:List (Pr×Value)} {k:Pr} (h:∀x∈m,x.1≠k):Y6 m k=none:=by
 induction m with
 |nil=>rfl
 | cons x m ih=>
   rw [Y6,UA (fun e=>h x sM e.symm)];exact ih fun y hy=>h y (by simp [hy])
theorem Zdr {m:List (Pr×Value)} (hn:(m.map (·.1)).Nodup) {j:Nat} {k:Pr} {v:Value} (h:m[j]? =some (k,v)):Y6 m k=some v:=by
 induction m generalizing j with
 |nil=>simp at h
 | cons x m ih=>
   rw [Xk,Vj] at hn
   cases j with
   |zero=>simp at h;subst h;rw [Y6,UB rfl]
   | succ j=>
     rw [VW] at h;rw [Y6,UA (fun e=>hn.1 (Xr.2 ⟨_,Xb h,e⟩))];exact ih hn.2 h
theorem ZfC {m:List (Pr×Value)} {k:Pr} {v:Value} (h:Y6 m k=none):WH m k v=m++[(k,v)]:=by
 induction m with
 |nil=>rfl
 | cons x m ih=>
   rw [Y6] at h;split at h
   · cases h
   · rename_i hne;rw [WH,UA hne,XX,ih h]
theorem Zb0 {m:List (Pr×Value)} (hn:(m.map (·.1)).Nodup) {j:Nat} {k:Pr} {u v:Value} (h:m[j]? =some (k,u)):WH m k v=m.set j (k,v):=by
 induction m generalizing j with
 |nil=>simp at h
 | cons x m ih=>
   rw [Xk,Vj] at hn
   cases j with
   |zero=>simp at h;subst h;rw [WH,UB rfl];rfl
   | succ j=>
     rw [VW] at h;rw [WH,UA (fun e=>hn.1 (Xr.2 ⟨_,Xb h,e⟩)),List.set_cons_succ,ih hn.2 h]
theorem HI {m:List (Pr×Value)} {k:Pr} {v:Value}:∀x,x∈(WH m k v).map (·.1)↔x=k∨x∈m.map (·.1):=by
 induction m with
 |nil=>intro x;simp [WH]
 | cons y m ih=>
   intro x;rw [WH];split
   · rename_i e;subst e;simp
   · rw [Xk,Xi,ih,Xk,Xi];constructor
     · rintro (h|h|h)
       · exact .inr (.inl h)
       · exact .inl h
       · exact .inr (.inr h)
     · rintro (h|h|h)
       · exact .inr (.inl h)
       · exact .inl h
       · exact .inr (.inr h)
theorem SC {m:List (Pr×Value)} {k:Pr} {v:Value} (hn:(m.map (·.1)).Nodup):((WH m k v).map (·.1)).Nodup:=by
 induction m with
 |nil=>simp [WH]
 | cons y m ih=>
   rw [WH];rw [Xk,Vj] at hn;split
   · rename_i e;rw [Xk,Vj];dsimp only;rw [e];exact hn
   · rename_i e;rw [Xk,Vj];refine ⟨fun h=>?_,ih hn.2⟩;rcases (HI _).1 h with h|h
     · exact e h.symm
     · exact hn.1 h
theorem HJ {m:List (Pr×Value)} {k:Pr} {v:Value}:Y6 (WH m k v) k=some v:=by
 induction m with
 |nil=>rw [WH,Y6,UB rfl]
 | cons y m ih=>
   rw [WH];split
   · rw [Y6,UB rfl]
   · rename_i e;rw [Y6,UA e];exact ih
theorem Zds {m:List (Pr×Value)} {k:Pr} {u v:Value}:WH (WH m k u) k v=WH m k v:=by
 induction m with
 |nil=>show WH [(k,u)] k v=[(k,v)];rw [WH,UB rfl]
 | cons y m ih=>
   rw [WH];split
   · rename_i e;rw [WH,UB rfl,WH,UB e]
   · rename_i e;rw [WH,UA e,ih,WH,UA e]
theorem ZaI {es:Array MapEntry} {m:List (Pr×Value)} (h:kvOf es=akv m) {j:Nat} {e:MapEntry} {k:Pr} (he:es[j]? =some e) (hk:e.key=JH k):m[j]? =some (k,e.val):=by
 have h1:(kvOf es)[j]? =some (JH k,e.val):=by
  unfold kvOf;rw [Xm,VJ,he,←hk];rfl
 rw [h] at h1
 unfold akv at h1
 rw [Xm,XN] at h1
 obtain ⟨⟨k',v'⟩,h2,h3⟩:=h1
 obtain ⟨h4,h5⟩:=Prod.mk.inj h3
 dsimp only at h4 h5
 rw [h2,ZfB h4,h5]
theorem ZfD {es:Array MapEntry} {m:List (Pr×Value)} (h:kvOf es=akv m):∀e∈es.toList,∃x∈m,e.key=JH x.1:=fun e he=>by
 have h1:(e.key,e.val)∈kvOf es:=Xr.2 ⟨e,he,rfl⟩
 rw [h] at h1
 obtain ⟨x,hx,hxe⟩:=Xr.1 h1
 exact ⟨x,hx,(Prod.mk.inj hxe).1.symm⟩
theorem Zb1 {P:Program} {t ks s e:Nat} {z:Value} (hT:PkT P t ks s e z) {es:Array MapEntry} {m:List (Pr×Value)} (h:kvOf es=akv m) (hm:∀x∈m,prOk x.1) (hn:(m.map (·.1)).Nodup) {k:Pr} (hk:prOk k) (w:World):
 (Y6 m k=none∧(Instr.findKey ks (JH k) es.toList).run P w= .ok none w)∨∃(j:Nat) (e0:MapEntry),es[j]? =some e0∧e0.key=JH k∧Y6 m k=some e0.val∧(Instr.findKey ks (JH k) es.toList).run P w= .ok (some (j,e0.val)) w:=by
 obtain ⟨l,hl⟩:=hT.key hk
 have hall:∀e∈es.toList,∃l,keyOf P ks e.key=some l:=fun e he=>by
  obtain ⟨x,hx,hxe⟩:=ZfD h e he;rw [hxe];exact hT.key (hm x hx)
 rcases hT.law.find w hl es.toList hall with ⟨h1,h2⟩|⟨j,e0,h1,h2,h3⟩
 · refine .inl ⟨Zdq fun x hx e=>?_,h1⟩;obtain ⟨i,hi⟩:=XP hx;have h4:(kvOf es)[i]? =some (JH x.1,x.2):=by rw [h];unfold akv;rw [Xm,hi];rfl
   unfold kvOf at h4;rw [Xm,XN] at h4;obtain ⟨e0,h5,h6⟩:=h4;exact h2 e0 (Xb h5) (by rw [(Prod.mk.inj h6).1,e])
 · have h4:es[j]? =some e0:=by rw [←VJ];exact h2
   exact .inr ⟨j,e0,h4,h3,Zdr hn (ZaI h h4 h3),h1⟩
section
variable {P:Program} {c:Ctx} {ops:Array Oper} {Q:Exit→Act→World→Prop} {rest:List Oper} {sL hP:List (Nat×Ent)} {o:Oper}
theorem Zb2 {t ks s e:Nat} {z:Value} (hT:PkT P t ks s e z) {b clock:Nat} {es:Array MapEntry} {m:List (Pr×Value)} (h:kvOf es=akv m) (hm:∀x∈m,prOk x.1) (hn:(m.map (·.1)).Nodup) {k:Pr} (hk:prOk k) {w:World} (hb:w.heap[b]? =some (.map es clock)):(Instr.lookup t (.map (some b)) (JH k) false).run P w= .ok ((Y6 m k).getD z) w:=by
 obtain ⟨l,hl⟩:=hT.key hk
 have hck:=fun em=>hT.law.check w em hl
 unfold Instr.lookup
 simp only [Sem.run_bind,run_underlying hT.ht,Result.andThen_ok,getObj,Sem.run,hb,hck]
 rcases Zb1 hT h hm hn hk w with ⟨h1,h2⟩|⟨j,e0,h3,h4,h1,h2⟩
 · simp [h1,h2,hck,ZeroT.run hT.hz]
 · simp [h1,h2,hck]
theorem Zb3 {st:St} {t ks s e:Nat} {z u:Value} {x y:Operand} {mv:Value} {m:List (Pr×Value)} {k:Pr} {p q:PV} (l:Nat) (hT:PkT P t ks s e z) (hm:∀x∈m,prOk x.1) (hn:(m.map (·.1)).Nodup) (hk:prOk k) (hu:(Y6 m k).getD z=u) (ho:o.op= .lookup t x y false:=by exact rfl) (hx:ev st.slots x=some (mv,p):=by exact rfl) (hl:lk st.heap l=some (mv, .omap (akv m)):=by exact rfl) (hy:ev st.slots y=some (JH k,q):=by exact rfl):YE P st o (· =u) (.val u):= .exact fun M F a w H=>by
 subst hu
 have hv:=(H.ev hx).1
 have hkv:=(H.ev hy).1
 obtain ⟨b,es,clock,rfl,he,h,_⟩:=(H.tr l _ _ hl).map
 exact ⟨.val _,by simp [execOp,ho,hv,hkv,Zb2 hT he.symm hm hn hk h]⟩
theorem C2 {st:St} {t ks s e b clock:Nat} {es:Array MapEntry} {z u:Value} {x y:Operand} {m:List (Pr×Value)} {k:Pr} {p q:PV} (l:Nat) (hT:PkT P t ks s e z) (he:kvOf es=akv m) (hm:∀x∈m,prOk x.1) (hn:(m.map (·.1)).Nodup) (hk:prOk k) (hu:(Y6 m k).getD z=u) (ho:o.op= .lookup t x y false:=by exact rfl) (hx:ev st.slots x=some (.map (some b),p):=by exact rfl) (hl:lk st.heap l=some (.map (some b), .oblk (.map (some b)) b (.map es clock) []):=by exact rfl) (hy:ev st.slots y=some (JH k,q):=by exact rfl):YE P st o (· =u) (.val u):= .exact fun M F a w H=>by
 subst hu
 have hv:=(H.ev hx).1
 have hkv:=(H.ev hy).1
 obtain ⟨h,_,_⟩:=(H.tr l _ _ hl).blk
 exact ⟨.val _,by simp [execOp,ho,hv,hkv,Zb2 hT he hm hn hk h]⟩
theorem C3 {es:Array MapEntry} {j:Nat} {e0:MapEntry} {f:MapEntry→MapEntry} (h:es[j]? =some e0) (hf:f e0=e0):es.modify j f=es:=by
 apply Array.ext'
 rw [Ue]
 rw [←VJ] at h
 have key:∀(l:List MapEntry) (j:Nat),l[j]? =some e0→l.modify j f=l:=fun l=>by
  induction l with
  |nil=>intro j h;simp
  | cons a l ih=>
    intro j h
    cases j with
    |zero=>simp at h;subst h;simp [hf]
    |succ j=>rw [VW] at h;rw [Uf,ih j h]
 exact key _ _ h
theorem Zdt {es:Array MapEntry} {m:List (Pr×Value)} {j:Nat} {e0:MapEntry} {k:Pr} {v:Value} (he:kvOf es=akv m) (hn:(m.map (·.1)).Nodup) (h:es[j]? =some e0) (hk:e0.key=JH k):kvOf (es.modify j fun e=>{e with val:=v})=akv (WH m k v):=by
 rw [Zb0 hn (ZaI he h hk)]
 have h1:kvOf (es.modify j fun e=>{e with val:=v})=(kvOf es).set j (JH k,v):=by
  unfold kvOf;rw [Ue];rw [←VJ] at h;have key:∀(l:List MapEntry) (j:Nat),l[j]? =some e0→(l.modify j fun e=>{e with val:=v}).map (fun x=>(x.key,x.val))=(l.map fun x=>(x.key,x.val)).set j (JH k,v):=fun l=>by
   induction l with
   |nil=>intro j h;simp at h
   | cons a l ih=>
     intro j h
     cases j with
     |zero=>simp at h;subst h;simp [hk]
     |succ j=>rw [VW] at h;rw [Uf,Xk,ih j h,Xk,List.set_cons_succ]
  exact key _ _ h
 rw [h1,he]
 unfold akv
 rw [List.map_set]
theorem Zdu {es:Array MapEntry} {j:Nat} {e0:MapEntry} (hn:(es.toList.map (·.born)).Nodup) (h:es[j]? =some e0):es.findIdx? (fun e=>(e.born:Int)==(e0.born:Int))=some j:=by
 rw [←VJ] at h
 obtain ⟨L⟩:=es
 rw [List.findIdx?_toArray]
 have key:∀(l:List MapEntry) (j:Nat),(l.map (·.born)).Nodup→l[j]? =some e0→l.findIdx? (fun e=>(e.born:Int)==(e0.born:Int))=some j:=fun l=>by
  induction l with
  |nil=>intro j _ h;simp at h
  | cons a l ih=>
    intro j hn h;rw [Xk,Vj] at hn
    cases j with
    |zero=>simp at h;subst h;simp [List.findIdx?_cons]
    | succ j=>
      rw [VW] at h;have hne:a.born≠e0.born:=fun e=>hn.1 (Xr.2 ⟨e0,Xb h,e.symm⟩);have hf:((a.born:Int)==(e0.born:Int))=false:=beq_eq_false_iff_ne.2 fun e=>hne (by exact_mod_cast e);rw [List.findIdx?_cons,hf];simp [ih j hn.2 h]
 exact key _ _ hn h
theorem O7 {t ks s e:Nat} {z:Value} {x y:Operand} {mv:Value} {m:List (Pr×Value)} {k:Pr} {p q:PV} (l d:Nat) (hT:PkT P t ks s e z) (hm:∀x∈m,prOk x.1) (hn:(m.map (·.1)).Nodup) (hk:prOk k)
 (kk:∀(b clock born:Nat) (es:Array MapEntry),mv= .map (some b)→WfM es clock→kvOf es=akv (WH m k ((Y6 m k).getD z))→(∃(j:Nat) (e0:MapEntry),es[j]? =some e0∧e0.key=JH k∧e0.born=born)→aL P c ops Q rest ⟨put d (.tuple [(Y6 m k).getD z, .int .i64 born].toArray, .tup [.val ((Y6 m k).getD z), .val (.int .i64 born)]) sL,put l (mv, .oblk mv b (.map es clock) []) hP⟩)
 (hw:ZV ops sL o=some true:=by exact rfl) (hd:o.dst=some d:=by exact rfl) (hdn:d<c.nt:=by exact Xa rfl) (ho:o.op= .mapEntry t x y:=by exact rfl) (hx:ev sL x=some (mv,p):=by exact rfl) (hl:lk hP l=some (mv, .omap (akv m)):=by exact rfl) (hy:ev sL y=some (JH k,q):=by exact rfl):aL P c ops Q (o::rest) (⟨sL,hP⟩:St):=
 YJ hw fun a w F H=>by
  have hxv:=(H.rd.ev hx).1;have hyv:=(H.rd.ev hy).1;obtain ⟨b,es,clock,rfl,he,hb,hFb,hWf⟩:=(H.tr l _ _ hl).mapW;obtain ⟨lt',hlt'⟩:=hT.key hk;have hck:=hT.law.check w false hlt';have hst:=hT.law.stays w hlt';have hblt:=Wr hb;have main:∀(es':Array MapEntry) (clock' born:Nat),WfM es' clock'→kvOf es'=akv (WH m k ((Y6 m k).getD z))→(∃(j:Nat) (e0:MapEntry),es'[j]? =some e0∧e0.key=JH k∧e0.born=born)→wpList P ops Q rest (a.put (some d) (.tuple [(Y6 m k).getD z, .int .i64 born].toArray)) {w with heap:=w.heap.setIfInBounds b (.map es' clock')}:=fun es' clock' born hW' he' hj=>by
   have hch:Chg (fun x=>x=b) w {w with heap:=w.heap.setIfInBounds b (.map es' clock')}:=⟨rfl,rfl,rfl,sM,fun i hi hne=>by
    rw [Ug (fun e=>hne e.symm)]⟩
   refine kk b clock' born es' rfl hW' he' hj _ _ ⟨F,H.change (fun l'=>l'=l) hdn (hch.wid fun x hx=> .inl ⟨l,_,rfl,hl,(hFb x).2 hx⟩) (fun l' x hne hx'=>?_) (fun l' x b' hT' hx' hb'=>?_) (fun hmm l' u q hT' hx'=>?_) (fun l1 l2 _ _ _ h1 h2 hne=>UC (h1.trans h2.symm) hne) (fun _=> .tup _ _ rfl fun i x p hx hp=>?_)⟩
   · rcases Z2 hx' with ⟨e1,_⟩|⟨_,e1⟩
     · exact UC e1.symm hne
     · exact ⟨e1,rfl⟩
   · subst hT';exact .inl ⟨l',_,rfl,hl,hb'⟩
   · subst hT';rw [ZK] at hx'
     cases hx';exact .oblk b rfl (by simp [hblt]) (fun p hp=>by simp at hp) hFb
   · match i with
     |0=>simp at hx hp;subst hx hp;exact .val _
     |1=>simp at hx hp;subst hx hp;exact .val _
     |i+2=>simp at hx
  rcases Zb1 hT he.symm hm hn hk w with ⟨h1,h2⟩|⟨j,e0,h3,h4,h1,h2⟩
  · have hrun:(execOp a.eval o).run P w= .ok (.value (.tuple [(Y6 m k).getD z, .int .i64 clock].toArray)) {w with heap:=w.heap.setIfInBounds b (.map (es.push {key:=JH k,val:=z,born:=clock}) (clock+1))}:=by
     simp [execOp,ho,hxv,hyv,Instr.mapEntry,run_underlying hT.ht,getObj,setObj,Sem.run,hb,hck,h1,h2,ZeroT.run hT.hz,goInt]
    unfold Oper.wp;rw [hrun,Oper.upon_value,hd];refine main _ _ _ (ZbH hWf) ?_ ⟨es.size,{key:=JH k,val:=z,born:=clock},sM,rfl,rfl⟩;rw [h1,Option.getD_none,ZfC h1];unfold akv at he ⊢;rw [X1,he];simp [kvOf]
  · have hmod:es.modify j (fun e=>{e with key:=JH k})=es:=C3 h3 (by rw [←h4]);have hrun:(execOp a.eval o).run P w= .ok (.value (.tuple [(Y6 m k).getD z, .int .i64 e0.born].toArray)) {w with heap:=w.heap.setIfInBounds b (.map es clock)}:=by
     simp [execOp,ho,hxv,hyv,Instr.mapEntry,run_underlying hT.ht,getObj,setObj,Sem.run,hb,hck,h1,h2,h3,h4,hst,hmod,goInt]
    unfold Oper.wp;rw [hrun,Oper.upon_value,hd];refine main _ _ _ hWf ?_ ⟨j,e0,h3,h4,rfl⟩;have h5:=ZaI he.symm h3 h4;obtain ⟨hj5,hje⟩:=Xl.1 h5;rw [h1,VZ,Zb0 hn h5,←hje,List.set_getElem_self,he]
theorem ZaJ {t b clock born:Nat} {es:Array MapEntry} {x y u:Operand} {m:List (Pr×Value)} {k:Pr} {v:Value} {p q r:PV} (l:Nat) (hW:WfM es clock) (he:kvOf es=akv m) (hn:(m.map (·.1)).Nodup) (hj:∃(j:Nat) (e0:MapEntry),es[j]? =some e0∧e0.key=JH k∧e0.born=born)
 (kk:aL P c ops Q rest ⟨sL,put l (.map (some b), .omap (akv (WH m k v))) hP⟩)
 (hw:ZV ops sL o=some true:=by exact rfl) (hd:o.dst=none:=by exact rfl) (ho:o.op= .entryStore t x y u:=by exact rfl) (hx:ev sL x=some (.map (some b),p):=by exact rfl) (hl:lk hP l=some (.map (some b), .oblk (.map (some b)) b (.map es clock) []):=by exact rfl) (hy:ev sL y=some (.int .i64 born,q):=by exact rfl) (hu:ev sL u=some (v,r):=by exact rfl):aL P c ops Q (o::rest) (⟨sL,hP⟩:St):=
 YJ hw fun a w F H=>by
  have hxv:=(H.rd.ev hx).1;have hyv:=(H.rd.ev hy).1;have huv:=(H.rd.ev hu).1;obtain ⟨hb,_,hFb⟩:=(H.tr l _ _ hl).blk;have hblt:=Wr hb;obtain ⟨j,e0,h3,h4,rfl⟩:=hj;have hfi:=Zdu hW.2 h3;have hkv:=Zdt (v:=v) he hn h3 h4;have hch:Chg (fun x=>x=b) w {w with heap:=w.heap.setIfInBounds b (.map (es.modify j fun e=>{e with val:=v}) clock)}:=⟨rfl,rfl,rfl,sM,fun i hi hne=>by
   rw [Ug (fun e=>hne e.symm)]⟩
  have key:HoldsF c ⟨sL,put l (.map (some b), .omap (akv (WH m k v))) hP⟩ F a {w with heap:=w.heap.setIfInBounds b (.map (es.modify j fun e=>{e with val:=v}) clock)}:=by
   refine H.change0 (fun l'=>l'=l) (hch.wid fun x hx=> .inl ⟨l,_,rfl,hl,(hFb x).2 hx⟩) (fun l' x hne hx'=>?_) (fun l' x b' hT' hx' hb'=>?_) (fun hmm l' u q hT' hx'=>?_) (fun l1 l2 _ _ _ h1 h2 hne=>UC (h1.trans h2.symm) hne)
   · rcases Z2 hx' with ⟨e1,_⟩|⟨_,e1⟩
     · exact UC e1.symm hne
     · exact ⟨e1,rfl⟩
   · subst hT';exact .inl ⟨l',_,rfl,hl,hb'⟩
   · subst hT';rw [ZK] at hx'
     cases hx';rw [←hkv];exact .omap b _ clock (by simp [hblt]) hFb (Hu _ (fun _=>rfl) hW)
  unfold Oper.wp execOp;simp [ho,hxv,hyv,huv,Instr.entryStore,getObj,setObj,Sem.run,hb,hfi,asInt,asIntOf,Oper.upon,hd,Act.put];exact kk _ _ ⟨F,key⟩
end
section
variable {P:Program} {c:Ctx} {ops:Array Oper} {Q:Exit→Act→World→Prop} {rest:List Oper} {sL hP:List (Nat×Ent)} {o:Oper}
theorem ZfE {fn:Func} {R:PV→Prop} {t e k:Nat} {h:Value} {q:PV} {cs:List PV} (l:Nat) (hr:fn.results= #[.tmp t]) (ht:lk sL t=some (padd (sbase h) 0,q)) (hl:lk hP l=some (h, .own e k 1 cs)) (hR:R (.obox e k cs)) (hN:∀b,¬c.N0 b:=by intro _ h;exact h) (hdf:c.df=[]:=by exact rfl):aR c (bodyPost P fn (Gn c R)) (⟨sL,hP⟩:St):=fun a w ⟨F,H⟩=>by
 obtain ⟨h1,h2⟩:=H.sl t _ q ht
 have hT:=H.tr l _ _ hl
 obtain ⟨g,cap,rfl,_⟩:=KL hT X8
 refine ⟨H.df.trans hdf,padd (sbase (.slice (some ⟨g,0,none⟩) 1 cap)) 0,?_,_, .obox e k cs,F l,rfl,hR,H.ext.ext (fun b _=>hN b),(Tr.obox g cap hT).anti fun b _ hb=>?_,fun b hb=>(H.lo l _ b hl hb).resolve_right (hN b),H.dw⟩
 · simp [results,hr,X3,h1]
 · rcases hb with hb|hb
   · exact .inl hb
   · exact .inr ⟨l,_,hl,hb⟩
theorem ZhR {l e k:Nat} {v:Value} {cs:List PV} (hl:lk hP l=some (v, .obox e k cs)):J4 (⟨sL,hP⟩:St) (fun h:{h:Value//v=padd (sbase h) 0}=>⟨sL,put l (h.1, .own e k 1 cs) hP⟩):=fun c a w ⟨F,H⟩=>by
 have hT:=H.tr l _ _ hl
 cases hT with
 |shr h _=>cases h
 | obox g cap h=>
   refine ⟨⟨.slice (some ⟨g,0,none⟩) 1 cap,rfl⟩,F,?_⟩;refine H.retell (fun x=>x=l) (fun x y hnT hx=>?_) (fun x y b hTx hx hb'=>?_) (fun hmm x u q hTx hx=>?_) (fun x1 x2 y1 y2 b h1 h2 hne'=>UC (h1.trans h2.symm) hne')
   · have n1:x≠l:=hnT;rw [Z0 (Ne.symm n1)] at hx;exact ⟨hx,rfl⟩
   · subst hTx;exact ⟨x,_,rfl,hl,hb'⟩
   · subst hTx;rw [ZK] at hx
     cases hx;exact h.anti hmm
end
def ZaK (c:Ctx) (R:Value→PV→List (Nat×Ent)→Prop) (e:Ending) (w':World):Prop:=∃v p h F,e= .returned v∧R v p h∧HeapF c h F w'∧Shr (mof c h F) w' v p
def AFh (dd:Prop) (P:Program) (f:FuncId) (ar h:List (Nat×Ent)) (R:Value→PV→List (Nat×Ent)→Prop):Prop:=
 ∀(M N:BS) (w:World) (F:Nat→BS),HeapF ⟨w,M,N,0,dd,[]⟩ h F w→(∀i x,lk ar i=some x→Shr (mof ⟨w,M,N,0,dd,[]⟩ h F) w x.1 x.2)→Calls P f (ar.map (·.2.1)).toArray w (ZaK ⟨w,M,N,0,dd,[]⟩ R)
theorem HeapF.nt {c c':Ctx} {h:List (Nat×Ent)} {F:Nat→BS} {w:World} (H:HeapF c h F w) (h0:c'.w0=c.w0) (h1:c'.M0=c.M0) (h2:c'.N0=c.N0) (h3:c'.dr→c.dr) (hm:M0k c'.w0 c'.M0 c'.N0 c'.dr):HeapF c' h F w:=by
 obtain ⟨w0,M0,N0,nt,dr,df⟩:=c
 obtain ⟨w0',M0',N0',nt',dr'⟩:=c'
 simp only at h0 h1 h2 h3
 subst h0 h1 h2
 exact ⟨H.tr,H.lo,H.dj,hm,H.ext,fun h=>H.dw (h3 h)⟩
def Lb:Nat→List (Nat×Ent)→Bool
 |_,[]=>true
 |i,(j,_)::l=>Nat.beq i j&&Lb (i+1) l
theorem O8:∀(l:List (Nat×Ent)) (i t:Nat) (x:Ent),Lb i l=true→lk l t=some x→i≤t∧(l.map (·.2.1))[t-i]? =some x.1
 |[],_,_,_,_,h=>by simp [lk] at h
 | (j,y)::l,i,t,x,ho,h=>by
   simp only [Lb,Xe] at ho;obtain ⟨h1,h2⟩:=ho;have h1:=XJ h1;subst h1;simp only [lk] at h
   cases hb:Nat.beq i t
   · rw [hb] at h;obtain ⟨h3,h4⟩:=O8 l (i+1) t x h2 h;have:t-i=(t-(i+1))+1:=oM;exact ⟨oM,by rw [this];simpa using h4⟩
   · rw [hb] at h;have:i=t:=XJ hb;subst this
     cases h;simp
theorem PK:∀(l:List (Nat×Ent)) (i t:Nat) (x:Ent),Lb i l=true→lk l t=some x→i≤t∧(l[t-i]?).map (·.2)=some x
 |[],_,_,_,_,h=>by simp [lk] at h
 | (j,y)::l,i,t,x,ho,h=>by
   simp only [Lb,Xe] at ho;obtain ⟨h1,h2⟩:=ho;have h1:=XJ h1;subst h1;simp only [lk] at h
   cases hb:Nat.beq i t
   · rw [hb] at h;obtain ⟨h3,h4⟩:=PK l (i+1) t x h2 h;have:t-i=(t-(i+1))+1:=oM;exact ⟨oM,by rw [this];simpa using h4⟩
   · rw [hb] at h;have:i=t:=XJ hb;subst this
     cases h;simp
section
variable {P:Program}
theorem AFh.of_body {dd:Prop} {f:FuncId} {fn:Func} {code:Code} {ar h:List (Nat×Ent)} {R:Value→PV→List (Nat×Ent)→Prop} (nt:Nat) (hf:P.funcs[f]? =some fn) (hb:fn.body=some code) (hnt:fn.ntmps=nt) (hn:ar.length≤nt) (ho:Lb 0 ar=true)
 (H:∀(w0:World) (M0 N0:BS),aC P ⟨w0,M0,N0,nt,dd,[]⟩ code (bodyPost P fn (ZaK ⟨w0,M0,N0,nt,dd,[]⟩ R)) ⟨ar,h⟩):AFh dd P f ar h R:=fun M N w F HF hv=>by
 subst hnt
 refine calls_of_wp hf hb ?_
 refine wp_mono (H w M N _ w ⟨F,⟨HF.nt rfl rfl rfl id HF.m0,fun t v p ht=>?_,?_,rfl⟩⟩) fun e a w' hq=>?_
 · obtain ⟨_,h1⟩:=O8 ar 0 t (v,p) ho ht;refine ⟨?_,hv t (v,p) ht⟩;simp only [Vx] at h1;have:=Zj h1;rw [Vp (by simpa using this)];simpa using h1
 · simp;omega
 · have key:∀e w',ZaK ⟨w,M,N,fn.ntmps,dd,[]⟩ R e w'→ZaK ⟨w,M,N,0,dd,[]⟩ R e w':=fun _ _ ⟨v',p,h',F',h3,h4,h5,h6⟩=>⟨v',p,h',F',h3,h4,h5.nt rfl rfl rfl id h5.m0,h6⟩
   cases e with
   |ret=>obtain ⟨h1,v,h2,h3⟩:=hq;exact ⟨h1,v,h2,key _ _ h3⟩
   |normal=>obtain ⟨h1,v,h2,h3⟩:=hq;exact ⟨h1,v,h2,key _ _ h3⟩
   |panic ch=>obtain ⟨h1,h3⟩:=hq;exact ⟨h1,key _ _ h3⟩
   |outgrown=>exact key _ _ hq
   |_=>exact hq.elim
end
section
variable {P:Program} {c:Ctx} {ops:Array Oper} {Q:Exit→Act→World→Prop} {rest:List Oper} {sL hP:List (Nat×Ent)} {o:Oper}
theorem ZfF {fn:Func} {R:Value→PV→List (Nat×Ent)→Prop} {t:Nat} {v:Value} {p:PV} (h:List (Nat×Ent)) (hr:fn.results= #[.tmp t]) (ht:lk sL t=some (v,p)) (hs:Sub h hP) (hR:R v p h) (hdf:c.df=[]:=by exact rfl):aR c (bodyPost P fn (ZaK c R)) (⟨sL,hP⟩:St):=fun a w ⟨F,H0⟩=>by
 have H:HoldsF c (⟨sL,h⟩:St) F a w:=H0.less (fun _ _ h=>h) fun t x hx=>hs.lk hx
 obtain ⟨h1,h2⟩:=H.sl t v p ht
 refine ⟨H.df.trans hdf,v,?_,v,p,h,F,rfl,hR,H.toHeapF,h2⟩
 simp [results,hr,X3,h1]
theorem ZaL {fn:Func} {R:Value→PV→List (Nat×Ent)→Prop} (h:List (Nat×Ent)) (hr:fn.results= #[]) (hs:Sub h hP) (hR:R (.tuple #[]) (.val (.tuple #[])) h) (hdf:c.df=[]:=by exact rfl):aR c (bodyPost P fn (ZaK c R)) (⟨sL,hP⟩:St):=fun a w ⟨F,H0⟩=>by
 have H:HoldsF c (⟨sL,h⟩:St) F a w:=H0.less (fun _ _ h=>h) fun t x hx=>hs.lk hx
 refine ⟨H.df.trans hdf, .tuple #[],?_, .tuple #[], .val (.tuple #[]),h,F,rfl,hR,H.toHeapF, .val _⟩
 simp [results,hr]
theorem Tc {fn:Func} {R:Value→PV→List (Nat×Ent)→Prop} (h:List (Nat×Ent)) (hr:fn.results= #[]) (hs:Sub h hP) (hR:R (.tuple #[]) (.val (.tuple #[])) h) (hdf:c.df=[]:=by exact rfl):aN c (bodyPost P fn (ZaK c R)) (⟨sL,hP⟩:St):=ZaL h hr hs hR hdf
theorem ZjA {dd:Prop} {f:Nat} {ar:List (Nat×Ent)} {R:Value→PV→List (Nat×Ent)→Prop} (K:List Nat) (d:Nat) (hw:ZV ops sL o=some true) (hd:o.dst=some d) (hn:d<c.nt)
 (hE:∀a w F,HoldsF c (⟨sL,hP⟩:St) F a w→(execOp a.eval o).run P w= .ok (.enter f (ar.map (·.2.1)).toArray) w∧∀(i:Nat) (x:Value) (q:PV),((ar.map (·.2)).map (·.1))[i]? =some x→((ar.map (·.2)).map (·.2))[i]? =some q→Shr (mof c hP F) w x q)
 (hA:AFh dd P f ar (Gk K hP) R) (hio:Lb 0 ar=true) (hdd:c.dr→dd)
 (k:∀v p h,R v p h→aL P c ops Q rest ⟨put d (v,p) sL,h++KV K hP⟩):aL P c ops Q (o::rest) (⟨sL,hP⟩:St):=
 YJ hw fun a w F H=>by
  obtain ⟨hr,h2⟩:=hE a w F H;have hfr:=H.frame K;have hin:∀b,mof ⟨w,fun b=>c.M0 b∨∃l x,K.elem l=true∧lk hP l=some x∧F l b,nK K hP F,c.nt,c.dr,c.df⟩ (Gk K hP) F b→mof c hP F b:=by
   rintro b ((h|⟨l,x,_,h1,h2⟩)|⟨l,x,h1,h2⟩)
   · exact .inl h
   · exact .inr ⟨l,x,h1,h2⟩
   · exact .inr ⟨l,x,(KM.1 h1).2,h2⟩
  have hcall:=hA (fun b=>c.M0 b∨∃l x,K.elem l=true∧lk hP l=some x∧F l b) (nK K hP F) w F
   ⟨hfr.tr,hfr.lo,hfr.dj,hfr.m0.up hdd,hfr.ext,fun _=>Xc _⟩
   (fun i x hi=>by
     obtain ⟨_,h3⟩:=PK ar 0 i x hio hi;rw [Vx] at h3;exact (h2 i x.1 x.2 (by rw [Xm,Xm,h3];rfl) (by rw [Xm,Xm,h3];rfl)).anti fun b _ hb=>hin b hb)
  unfold Oper.wp;rw [hr,Oper.upon_enter];refine hcall.mono fun e w' ⟨v,p,h,F',e1,e2,e3,e4⟩=>?_;subst e1;have hch:Chg (nK K hP F) w w':=e3.ext;have hlow:∀b,b<w.heap.size→mof ⟨w,fun b=>c.M0 b∨∃l x,K.elem l=true∧lk hP l=some x∧F l b,nK K hP F,0,dd,[]⟩ h F' b→mof c hP F b:=by
   rintro b hlt ((h1|⟨l,x,_,h1,h2⟩)|⟨l,x,h1,h2⟩)
   · exact .inl h1
   · exact .inr ⟨l,x,h1,h2⟩
   · rcases e3.lo l x b h1 h2 with h3|⟨l',x',_,h3,h4⟩
     · exact UC hlt (by simp only at h3;omega)
     · exact .inr ⟨l',x',h3,h4⟩
  have H':HoldsF ⟨w,fun b=>c.M0 b∨∃l x,K.elem l=true∧lk hP l=some x∧F l b,nK K hP F,c.nt,c.dr,c.df⟩ (⟨put d (v,p) sL,h⟩:St) F' (a.put o.dst v) w':=by
   refine ⟨e3.nt rfl rfl rfl hdd hfr.m0,fun t u q ht=>?_,by rw [hd];simpa [Act.put] using H.size,by rw [hd];exact H.df⟩;rw [hd];rcases Z2 ht with ⟨rfl,e⟩|⟨hne,e⟩
   · cases e;refine ⟨?_,e4⟩;simp [Act.put,H.size,hn]
   · obtain ⟨h3,h4⟩:=H.sl t u q e;refine ⟨?_,h4.to hch (fun b _ ⟨l,x,_,h5,h6⟩=> .inr ⟨l,x,h5,h6⟩) (fun b hlt hb=>hlow b hlt hb)⟩;simpa [Act.put,Array.getElem?_setIfInBounds,hne] using h3
  obtain ⟨H2,_,_⟩:=H.unframe H';exact k v p h e2 _ _ ⟨_,H2⟩
theorem LD {dd:Prop} {f:Nat} {ar h0:List (Nat×Ent)} {R:Value→PV→List (Nat×Ent)→Prop} {xs:Array Operand} {ats:Array TypeId} (K:List Nat) (d:Nat) (hc:∀args w,(callFunc f args).run P w= .ok (.enter f args) w) (hA:AFh dd P f ar h0 R)
 (k:∀v p h,R v p h→aL P c ops Q rest ⟨put d (v,p) sL,h++KV K hP⟩) (hw:ZV ops sL o=some true:=by exact rfl) (hd:o.dst=some d:=by exact rfl) (hn:d<c.nt:=by exact Xa rfl)
 (ho:o.op= .call {callee:= .value (.func f),args:=xs,argTypes:=ats}:=by exact rfl) (hx:evL sL xs.toList=some (ar.map (·.2)):=by exact rfl) (hh0:h0=Gk K hP:=by exact rfl) (hio:Lb 0 ar=true:=by exact rfl) (hdd:c.dr→dd:=by first|exact id|exact fun h=>h.elim|exact fun _=>trivial):aL P c ops Q (o::rest) (⟨sL,hP⟩:St):=by
 subst hh0
 refine ZjA K d hw hd hn (fun a w F H=>?_) hA hio hdd k
 obtain ⟨h1,h2⟩:=GM H.rd hx
 refine ⟨?_,h2⟩
 have hargs:xs.map a.eval=(ar.map (·.2.1)).toArray:=by
  rw [show ar.map (·.2.1)=(ar.map (·.2)).map (·.1) by rw [Xt];rfl,←h1,←VD,Vw]
 simp [execOp,ho,resolve,Act.eval,Deferred.ofValue,invoke,hargs,hc]
theorem PL {l e k n g cap:Nat} {h:Value} {a:Act} (hh:h= .slice (some ⟨g,0,none⟩) n cap) (zs:List Value) (h1:zs.all Value.oneCell'=true):
 ∀ (m i j:Nat) (cs:List PV) (w:World) (F:Nat→BS) (hp:List (Nat×Ent)),HoldsF c ⟨sL,hp⟩ F a w→lk hp l=some (h, .own e k n cs)→i+m=zs.length→j+i+m≤cs.length→
  ∃w' F' hp',(storeCells ⟨g,j,none⟩ (zs.drop i) i).run P w= .ok () w'∧HoldsF c ⟨sL,hp'⟩ F' a w'∧lk hp' l=some (h, .own e k n (J3 cs (j+i) ((zs.drop i).map PV.val)))∧∀l',l'≠l→lk hp' l'=lk hp l'
 | 0,i,j,cs,w,F,hp,H,hl,hi,hj=>by
   refine ⟨w,F,hp,?_,H,?_,fun _ _=>rfl⟩
   · rw [XH oM];rfl
   · rw [XH (by omega:zs.length≤i)];exact hl
 | m +1,i,j,cs,w,F,hp,H,hl,hi,hj=>by
   have hi':i<zs.length:=oM;obtain ⟨v,hv⟩:=Yf hi';have hv1:v.oneCell'=true:=Xj.1 h1 v (Xb hv);obtain ⟨F1,H1⟩:=T1 H hl hh (show j+i<cs.length by omega) (Shr.val v);obtain ⟨w',F',hp2,hr,H2,hl2,hsame⟩:=PL hh zs h1 m (i+1) j (cs.set (j+i) (.val v)) _ F1 _ H1 (ZK _ _ _) oM (by simp;omega);refine ⟨w',F',hp2,?_,H2,?_,fun l' hne=>by rw [hsame l' hne,Z0 (Ne.symm hne)]⟩
   · obtain ⟨xs,Fs,hrow,hlen,_⟩:=(H.tr l _ _ hl).row;subst hh;obtain ⟨z,hz⟩:=Yf (show j+i<xs.length by omega);have hcell:=WS hrow hz;have hfr:=hrow.frozenAt (j+i);rw [X4 (Zj hv),show zs[i]'(Zj hv)=v from (Xl.1 hv).2,storeCells];simp only [Sem.run_bind,run_store _ _ _ _ _ hv1,YR,hcell,hfr,Vo,if_false,Result.andThen_ok];exact hr
   · rw [hl2,X4 hi',show zs[i]'hi'=v from (Xl.1 hv).2,Xk,J3,Vf]
theorem HK:∀(ps cs:List PV) (j:Nat),(J3 cs j ps).take j=cs.take j
 |[],_,_=>rfl
 | p::ps,cs,j=>by
   rw [J3];have h:=HK ps (cs.set j p) (j+1);have h2:=congrArg (List.take j) h;rw [List.take_take,List.take_take,X' (Vt j)] at h2;rw [h2,Ud (Xc j)]
theorem Zdv {z:Value} (h:z.cells.toList.all Value.oneCell'=true) (m:Nat):(Builtin.zeroCells z.cells m).toList.all Value.oneCell'=true:=by
 rw [Xj]
 intro v hv
 unfold Builtin.zeroCells at hv
 rw [VD,Xr] at hv
 obtain ⟨i,_,rfl⟩:=hv
 rw [getElem!_def]
 cases hc:z.cells[i % z.cells.size]? with
 |none=>rfl
 |some u=>exact Xj.1 h u (by rw [←VJ] at hc;exact Xb hc)
theorem ZfG {t e kk bytes n i:Nat} {z:Value} {x:Operand} {h:Value} {q:PV} {cs:List PV} (l:Nat) (hT:ElT P t e kk bytes z) (hz0:z.cells.toList.all Value.oneCell'=true) (hw:ZV ops sL o=some true) (hd:o.dst=none)
 (ho:o.op= .call {callee:= .builtin .clear,args:= #[x],argTypes:= #[t]}) (hx:ev sL x=some (slc h i n kk,q)) (hl:lk hP l=some (h, .own e kk n cs)) (hi:i≤n)
 (k:∀cs',cs'.length=cs.length→cs'.take (i*kk)=cs.take (i*kk)→aL P c ops Q rest ⟨sL,put l (h, .own e kk n cs') hP⟩):aL P c ops Q (o::rest) (⟨sL,hP⟩:St):=
 YJ hw fun a w F H=>by
  have hxv:=(H.rd.ev hx).1;obtain ⟨xs,Fs,hrow,hlen,_⟩:=(H.tr l _ _ hl).row;obtain ⟨inf,hi1,hi2,hi3,hi4⟩:=hT.info;have hback:Holds c ⟨sL,put l (h, .own e kk n cs) hP⟩ a w:=⟨F,H.less (fun _ _ h=>h) fun t x hx=>by
   rcases Z2 hx with ⟨rfl,rfl⟩|⟨hne,e1⟩
   · exact hl
   · exact e1⟩
  rcases YQ hrow with ⟨rfl,rfl,rfl⟩|⟨g,cap,rfl,hc1,hc2,hc3⟩
  · have hi0:i=0:=oM;subst hi0;unfold Oper.wp execOp;simp [ho,hxv,resolve,invoke,builtin,Builtin.clear_,slc,run_underlying hT.ht,Oper.upon,hd,Act.put];exact k cs rfl rfl _ _ hback
  · rcases Xv i n with hlt|hge
    · (have hlen':cs.length=n*kk:=by rw [hlen,hrow.1]);(have hzs:(Builtin.zeroCells z.cells (n-i)).toList.length=(n-i)*kk:=by rw [XU,size_zeroCells,hT.hz]);(have hmul:i*kk+(n-i)*kk=n*kk:=by rw [←XW];congr 1;omega);obtain ⟨w',F',hp',hr,H',hl',hsame⟩:=PL (P:=P) rfl (Builtin.zeroCells z.cells (n-i)).toList (Zdv hz0 _) _ 0 (i*kk) cs w F hP H hl (Xx _) oM;simp only [Vg,VC] at hr hl';have hcap:cap≠i:=oM;obtain ⟨m,hm⟩:∃m,n-i=m+1:=⟨n-i-1,oM⟩;simp only [slc,hcap,if_false,Option.map_some,YR,Xx,hm] at hxv;rw [hm] at hr hl';unfold Oper.wp execOp;simp [ho,hxv,resolve,invoke,builtin,Builtin.clear_,run_underlying hT.ht,zeroValue,typeInfo,hi1,hi2,hr,Oper.upon,hd,Act.put];refine k (J3 cs (i*kk) ((Builtin.zeroCells z.cells (m+1)).toList.map PV.val)) (Lp _ _ _) (HK _ _ _) _ _ ⟨F',H'.less (fun _ _ h=>h) fun t x hx=>?_⟩;rcases Z2 hx with ⟨rfl,rfl⟩|⟨hne,e1⟩
      · exact hl'
      · show lk hp' t=_;rw [hsame t (Ne.symm hne)];exact e1
    · have hin:i=n:=oM;subst hin;by_cases hca:cap=i
      all_goals
       unfold Oper.wp execOp;simp [ho,hxv,resolve,invoke,builtin,Builtin.clear_,slc,hca,run_underlying hT.ht,Oper.upon,hd,Act.put];exact k cs rfl rfl _ _ hback
theorem ZhS {t e k r n:Nat} {x y:Operand} {v:Value} {q:PV} {cs:List PV} {st:St} (hT:SlT P t e k=true) (ho:o.op= .binOp .eql t x y r:=by exact rfl) (hx:ev st.slots x=some (v, .sl n cs):=by exact rfl) (hy:ev st.slots y=some (.slice none 0 0,q):=by exact rfl):
 YE P st o (fun u=>u= .bool false∨(u= .bool true∧n=0)) (.val (.bool (match v with| .slice a _ _=>a.isNone|_=>false))):=fun M F a w H=>by
 obtain ⟨hv,hS⟩:=H.ev hx
 have hyv:=(H.ev hy).1
 cases hS with
 | emp ad cp hc ha=>
   refine ⟨.bool ad.isNone,?_, .val _,fun N W _ _ _=>?_⟩
   · cases ad with
     |none=>exact .inr ⟨rfl,rfl⟩
     |some _=>exact .inl rfl
   · simp [execOp,ho,hv,hyv,eqGuard,Go.Lib.run_eql_slice_nil W t e ad _ _ 0 0 (SlT.und hT)]
 | sl b off n cp cs vs hn hc hcell hT'=>
   refine ⟨.bool false, .inl rfl, .val _,fun N W _ _ _=>?_⟩;simp [execOp,ho,hv,hyv,eqGuard,Go.Lib.run_eql_slice_nil W t e (some ⟨b,off,none⟩) _ _ 0 0 (SlT.und hT)]
theorem KP {l:List Oper} (h:List (Nat×Ent)) (hs:Sub h hP) (k:aL P c ops Q l ⟨sL,h⟩):aL P c ops Q l (⟨sL,hP⟩:St):=fun a w ⟨F,H⟩=>k a w ⟨F,H.less (fun _ _ h=>h) fun t x hx=>hs.lk hx⟩
end
section
variable {P:Program} {st:St} {o:Oper}
end
theorem KG {sL hP:List (Nat×Ent)} {l:Nat} {h:Value} {p p':PV} (hl:lk hP l=some (h,p)) (e:p=p'):J4 (⟨sL,hP⟩:St) (fun _:Unit=>⟨sL,put l (h,p') hP⟩):=fun c a w ⟨F,H⟩=>by
 subst e
 refine ⟨(),F,H.less (fun t x h=>h) fun t x ht=>?_⟩
 rcases Z2 ht with ⟨rfl,e1⟩|⟨_,h1⟩
 · rw [hl,e1]
 · exact h1
theorem JA {sL hP:List (Nat×Ent)} {t:Nat} {v:Value} {p p':PV} (hl:lk sL t=some (v,p)) (e:p=p'):J4 (⟨sL,hP⟩:St) (fun _:Unit=>⟨put t (v,p') sL,hP⟩):=fun c a w ⟨F,H⟩=>by
 subst e
 refine ⟨(),F,H.less (fun s x ht=>?_) (fun t x h=>h)⟩
 rcases Z2 ht with ⟨rfl,e1⟩|⟨_,h1⟩
 · rw [hl,e1]
 · exact h1
theorem ZfH {sL hP:List (Nat×Ent)} {t:Nat} {q:PV} (ht:lk sL t=some (.slice none 0 0,q)):J4 (⟨sL,hP⟩:St) (fun _:Unit=>⟨put t (.slice none 0 0, .sl 0 []) sL,hP⟩):=fun c a w ⟨F,H⟩=>by
 refine ⟨(),F,H.toHeapF,fun s u r hs=>?_,H.size,H.df⟩
 rcases Z2 hs with ⟨rfl,e1⟩|⟨_,hs'⟩
 · cases e1;exact ⟨(H.sl t _ _ ht).1, .emp none 0 (by unfold maxLen;omega) (fun _=>rfl)⟩
 · exact H.sl s u r hs'
section
variable {P:Program} {c:Ctx} {ops:Array Oper} {Q:Exit→Act→World→Prop} {rest:List Oper} {sL hP:List (Nat×Ent)} {o:Oper}
theorem C4:∀(l:List Value) (j off:Nat) (cells:Array Value),(l.zipIdx j).foldl (fun cs x=>cs.setIfInBounds (off+x.2) x.1) cells=(l.zipIdx (off+j)).foldl (fun cs x=>cs.setIfInBounds (0+x.2) x.1) cells
 |[],j,off,cells=>rfl
 | x::l,j,off,cells=>by
   simp only [VN,List.foldl_cons];rw [C4 l (j+1) off,Xx,Vf]
theorem C5:∀(l:List Value) (i:Nat) (cells:Array Value),i+l.length≤cells.size→(l.zipIdx i).foldl (fun cs x=>cs.setIfInBounds (0+x.2) x.1) cells=(cells.toList.take i++l++cells.toList.drop (i+l.length)).toArray
 | [],i,cells,h=>by
   simp only [V6,List.foldl_nil,Xu,Xq,VC,VH,Vw]
 | x::l,i,cells,h=>by
   simp only [VN,List.foldl_cons];simp only [Xg] at h;rw [C5 l (i+1) _ (by simp;omega)];congr 1;rw [Xx,Array.toList_setIfInBounds,Uc (by simp;omega)];simp only [List.getElem_set_self,Xg];rw [Ud oM,List.drop_set_of_lt oM,show i+1+l.length=i+(l.length+1) by omega];simp
theorem ZfI (kk:Nat):∀(vs:List (List Value)) (i:Nat) (cells:Array Value),cells.size=(i+vs.length)*kk→(∀v∈vs,v.length=kk)→Instr.fill (fun i=>some (i*kk,kk)) cells (((vs.map fun v=>Value.agg v.toArray).zipIdx i).map fun x=>(x.2,x.1))=some (cells.toList.take (i*kk)++vs.flatten).toArray
 | [],i,cells,h,_=>by
   simp only [Vi,V6,Instr.fill,List.flatten_nil,Xu];simp only [Xq,VC] at h;rw [Xy (by simp;omega)]
 | v ::vs,i,cells,h,h1=>by
   have hv:=h1 v sM;have hcs:(Value.agg v.toArray).cells=v.toArray:=rfl;have hle:(i+1)*kk≤cells.size:=by rw [h];exact X7 _ sM
   rw [X2] at hle;have hc:¬((Value.agg v.toArray).cells.size≠kk||decide (i*kk+(Value.agg v.toArray).cells.size>cells.size))=true:=by rw [hcs];simp;omega
   simp only [Xk,VN,Instr.fill,hc,if_false];rw [hcs,←Array.foldl_toList,Array.toList_zipIdx,C4,C5 _ _ _ (by simp;omega)];have:=ZfI kk vs (i+1) (cells.toList.take (i*kk+0)++v++cells.toList.drop (i*kk+0+v.length)).toArray (by
    simp only [V4,Xf,XF,Ub,XU];rw [X' oM];rw [Xg] at h;rw [h,show i+1+vs.length=i+(vs.length+1) by omega] at*;omega) (fun u hu=>h1 u (by simp [hu]))
   simp only [Vw] at this ⊢;rw [this];congr 2;rw [XR,←XM];congr 1;rw [List.take_append_of_le_length (by simp;rw [X2,X' oM];omega)];rw [Xy (by simp;rw [X2,X' oM];omega)];simp
theorem JR {t e kk bytes m:Nat} {z:Value} {xs:List Operand} {parts:Array (Nat×Operand)} {es:List Ent} {cs:List (List PV)} (d:Nat) (hT:ElT P t e kk bytes z)
 (k:∀h:Value,h.oneCell'=true→aL P c ops Q rest ⟨put d (h, .val h) sL,put d (h, .own e kk m cs.flatten) hP⟩) (hw:ZV ops sL o=some true:=by exact rfl) (hd:o.dst=some d:=by exact rfl) (hn:d<c.nt:=by exact Xa rfl) (ho:o.op= .buildSlice t m parts:=by exact rfl) (hpt:parts=((xs.zipIdx).map fun x=>(x.2,x.1)).toArray:=by exact rfl) (hx:evL sL xs=some es:=by exact rfl)
 (hcs:es.map (·.2)=cs.map PV.agg:=by exact rfl) (hck:∀q∈cs,q.length=kk:=by simp) (hm:es.length=m:=by exact rfl) (hm0:0<m:=by decide) (hm1:m≤1000:=by decide) (hk0:kk≤1000:=by decide) (hl:lk hP d=none:=by exact rfl):aL P c ops Q (o::rest) (⟨sL,hP⟩:St):=
 YJ hw fun a w F H=>by
  obtain ⟨i,hi1,hi2,hi3,hi4⟩:=hT.info;obtain ⟨he,hS⟩:=GM H.rd hx;have hkp:=hT.hk;have key : ∀(es:List Ent) (cs:List (List PV)),es.map (·.2)=cs.map PV.agg→(∀q∈cs,q.length=kk)→(∀(i:Nat) (x:Value) (q:PV),(es.map (·.1))[i]? =some x→(es.map (·.2))[i]? =some q→Shr (mof c hP F) w x q)→∃us:List (List Value),es.map (·.1)=us.map (fun v=>Value.agg v.toArray)∧us.length=es.length∧(∀u∈us,u.length=kk)∧us.flatten.length=cs.flatten.length∧∀(i:Nat) (x:Value) (q:PV),us.flatten[i]? =some x→cs.flatten[i]? =some q→Shr (mof c hP F) w x q:=fun es=>by
   induction es with
   | nil=>
     intro cs h1 _ _
     cases cs with
     |nil=>exact ⟨[],rfl,rfl,sM,rfl,sM⟩
     |cons q cs=>simp at h1
   | cons e0 es ih=>
     intro cs h1 h2 h3
     cases cs with
     |nil=>simp at h1
     | cons q cs=>
       simp only [Xk,List.cons.injEq] at h1;obtain ⟨us,g1,g2,g3,g4,g5⟩:=ih cs h1.2 (fun u hu=>h2 u (XS _ hu)) (fun i x q hx hq=>h3 (i+1) x q (by simpa using hx) (by simpa using hq));have h4:=h3 0 e0.1 e0.2 rfl rfl;rw [h1.1] at h4;generalize hv0:e0.1=v0 at h4;have hqk:=h2 q (XQ ..)
       cases h4 with
       | agg vs ps hvl hTT=>
         refine ⟨vs::us,by rw [Xk,Xk,hv0,g1],by simp [g2],fun u hu=>?_,by rw [XR,XR,Xf,Xf,g4,hvl],fun i x r hx hr=>?_⟩
         · rcases Xi.1 hu with rfl|hu
           · omega
           · exact g3 u hu
         · rw [XR] at hx hr;rcases Xv i vs.length with hi|hi
           · rw [X5 hi] at hx;rw [X5 oM] at hr;exact hTT i x r hx hr
           · rw [Vh hi] at hx;rw [Vh oM] at hr;refine g5 (i-vs.length) x r hx ?_;rw [hvl];exact hr
  obtain ⟨us,u1,u2,u3,u4,u5⟩:=key es cs hcs hck hS;have hfl:us.flatten.length=m*kk:=by
   have:∀us:List (List Value),(∀u∈us,u.length=kk)→us.flatten.length=us.length*kk:=fun us=>by
    induction us with
    |nil=>intro _;simp
    | cons u us ih=>
      intro h;rw [XR,Xf,h u (XQ ..),ih fun v hv=>h v (XS _ hv),Xg,X2];omega
   rw [this us u3,u2,hm]
  have hmk:m*kk≤1000000:=XG (Nat.mul_le_mul hm1 hk0) dC;have hmk0:0<m*kk:=Nat.mul_pos hm0 hkp;obtain ⟨F',H'⟩:=Wx (e:=e) (k:=kk) (n:=m) (cap:=m) (cur:=us.flatten.toArray) (v:= .slice (some ⟨w.heap.size,0,none⟩) m m) H hl hn (vs:=us.flatten) (ps:=cs.flatten) u4 u5 (by first|omega|exact hfl|(rw [hfl])|(rw [Vl];exact hfl)) (Xc _) (by unfold maxLen;omega) (by simp;rw [←List.length_flatten,hfl]) (Xy (by simp;rw [←List.length_flatten,hfl];omega));have hf:=ZfI kk us 0 ((Array.range (m*i.size)).map (z.cells[· % z.cells.size]!)) (by simp [hi3,u2,hm]) u3;have hpe:(parts.map fun (i,x)=>(i,a.eval x)).toList=((us.map fun v=>Value.agg v.toArray).zipIdx 0).map fun x=>(x.2,x.1):=by
   rw [hpt,←u1,←he];simp [List.zipIdx_map]
  have hr:=run_buildSlice (P:=P) w t e m (parts.map fun (i,x)=>(i,a.eval x)) us.flatten.toArray i z hT.ht hi1 hi2 (by rw [hi3];omega) (by rw [hi3];omega) (by rw [hpe,hi3];rw [hi3] at hf;simpa using hf);unfold Oper.wp execOp;simp only [ho,Sem.run_bind,hr,Result.andThen_ok,Sem.run_pure,Oper.upon,hd];exact k (.slice (some ⟨w.heap.size,0,none⟩) m m) rfl _ _ ⟨F',H'⟩
end
def Rr (p p':PV):Prop:=∀(M:BS) (w:World) (v:Value),Shr M w v p→Shr M w v p'
theorem Rr.rfl' (p:PV):Rr p p:=fun _ _ _ h=>h
theorem Rr.nil:Rr (.val (.slice none 0 0)) (.sl 0 []):=fun M w v h=>by
 cases h with
 |val=>exact .emp none 0 (by unfold maxLen;omega) (fun _=>rfl)
theorem Rr.agg {ps ps':List PV} (hl:ps.length=ps'.length) (h:∀(i:Nat) (p p':PV),ps[i]? =some p→ps'[i]? =some p'→Rr p p'):Rr (.agg ps) (.agg ps'):=fun M w v hv=>by
 cases hv with
 | agg vs ps hvl hT=>
   refine .agg vs ps' oM fun i x q hx hq=>?_;obtain ⟨p,hp⟩:=Yl hq hl.symm;exact h i p q hp hq M w x (hT i x p hx hp)
theorem Rr.tup {ps ps':List PV} (hl:ps.length=ps'.length) (h:∀(i:Nat) (p p':PV),ps[i]? =some p→ps'[i]? =some p'→Rr p p'):Rr (.tup ps) (.tup ps'):=fun M w v hv=>by
 cases hv with
 | tup vs ps hvl hT=>
   refine .tup vs ps' oM fun i x q hx hq=>?_;obtain ⟨p,hp⟩:=Yl hq hl.symm;exact h i p q hp hq M w x (hT i x p hx hp)
theorem Rr.tup2 {p p' q:PV} (h:Rr p p'):Rr (.tup [p,q]) (.tup [p',q]):=Rr.tup rfl fun i a b ha hb=>by
 match i with
 |0=>cases ha;cases hb;exact h
 |1=>cases ha;cases hb;exact Rr.rfl' _
 |i+2=>simp at ha
theorem AF.reread {P:Program} {f:Nat} {ps:List PV} {p p':PV} (h:AF P f ps (· =p)) (hs:shD p=true) (hr:Rr p p'):AF P f ps (· =p'):=fun M w vs hM hl hv=>
 (h M w vs hM hl hv).mono fun e w' ⟨v,q,F,h1,h2,h3,h4,h5,h6⟩=>by
   subst h2;refine ⟨v,p',fun _=>False,h1,rfl,h3, .shr (hr _ _ _ ((h4.shD hs).anti fun b _ hb=>?_)) (fun _ h=>h),fun b hb=>hb.elim,h6⟩;rcases hb with hb|hb
   · exact .inl hb
   · exact hb.elim
theorem TE {sL hP:List (Nat×Ent)} {t:Nat} {v:Value} {p p':PV} (hl:lk sL t=some (v,p)) (hr:Rr p p'):J4 (⟨sL,hP⟩:St) (fun _:Unit=>⟨put t (v,p') sL,hP⟩):=fun c a w ⟨F,H⟩=>by
 refine ⟨(),F,H.toHeapF,fun s u r hs=>?_,H.size,H.df⟩
 rcases Z2 hs with ⟨rfl,e1⟩|⟨_,hs'⟩
 · cases e1;exact ⟨(H.sl t _ _ hl).1,hr _ _ _ (H.sl t _ _ hl).2⟩
 · exact H.sl s u r hs'
end Go.En
namespace Go.Proofs.YtmkojdfiadbeeaaGreat
open Go.RowKit Go.Cb Go.En Tryz
set_option linter.all false
set_option maxRecDepth 100000
theorem YW:AggT prog 51 3=true:=by kernel_rfl
theorem Zdw:ElT prog 90 3 1 8 (.int .i64 0):=⟨underlying90,by kernel_rfl,rfl,dC⟩
theorem Jb:FldT prog 51 0 0=true:=by kernel_rfl
theorem Jc:FldT prog 51 1 1=true:=by kernel_rfl
theorem WX:FldT prog 51 2 2=true:=by kernel_rfl
theorem GW:NoAgg prog 3=true:=by kernel_rfl
theorem KQ:NoAgg prog 49=true:=by kernel_rfl
theorem LF:NoAgg prog 9=true:=by kernel_rfl
theorem YY:SlT prog 49 51 3=true:=by kernel_rfl
theorem HL:SlT prog 90 3 1=true:=by kernel_rfl
theorem T4:ZeroT prog 51 (.agg #[(.int .i64 0),(.string ByteArray.empty),(.slice none 0 0)]):=by unfold ZeroT;kernel_rfl
theorem O9 (s:Int):AF prog 217 [Zf s] (· =ZB false):=by
 refine AF.of_body 6 func217 rfl ntmps217 (Xa rfl) ?_
 intro w0 M0 vs hl hv
 obtain ⟨v0,rfl⟩:=YG hl
 obtain rfl:=hv 0 _ _ rfl rfl
 clear hl hv
 refine Zd ?_
 (refine xL 2 Zb ?_<;>refine Zi ?_)
 (refine xL 3 Za (xL 4 Za (xL 5 Wg (xL 2 Zb ?_)))<;>refine Zc ?_)
 refine Zl (results217) rfl ?_
 simp
theorem ZfJ (a b:Int):AF prog 266 [Zf a,Zf b] (· =Zf (Jv a b)):=by
 refine AF.of_body 20 func266 rfl ntmps266 (Xa rfl) ?_
 intro w0 M0 vs hl hv
 obtain ⟨v0,v1,rfl⟩:=W7 hl
 obtain rfl:=hv 0 _ _ rfl rfl
 obtain rfl:=hv 1 _ _ rfl rfl
 clear hl hv
 refine Zd ?_
 (refine xL 4 Zb ?_<;>refine Zi ?_)
 (refine xL 7 Za ?_<;>(refine cS 8 (cA call217 (O9 a)) fun v8 h=>?_;cases h)<;>refine xL 5 Zb ?_<;>refine Zi ?_)
 (refine xL 9 Za ?_<;>(refine cS 10 (cA call217 (O9 b)) fun v10 h=>?_;cases h)<;>refine xL 6 Zb ?_<;>refine Zi ?_)
 (refine xL 11 Za ?_<;>refine Zc ?_)
 refine cCf ?_
 refine Zd ?_
 (refine xL 13 Za ?_<;>refine Zc ?_)
 refine cCf ?_
 refine Zd ?_
 (refine xL 14 Za (xL 15 Za (xL 16 ZI ?_))<;>refine Zc ?_)
 refine cX ?_ ?_<;>intro hb16
 · first|exact bN hb16|(
 refine Zd ?_;(refine xL 4 Zb ?_<;>refine Zc ?_)
 refine Zl (results266) rfl ?_;rw [Jv,UB hb16])
 · first|exact bN hb16|(
 refine Zd ?_;(refine xL 17 Za (xL 18 Za (xL 19 YV ?_))<;>refine Zc ?_)
 refine cX ?_ ?_<;>intro hb19
 · first|exact bN hb19|(
 refine Zd ?_;(refine xL 4 Zb ?_<;>refine Zc ?_)
 refine Zl (results266) rfl ?_;rw [Jv,UA oM,UB oM])
 · first|exact bN hb19|(
 refine Zd ?_;(refine xL 4 Zb ?_<;>refine Zc ?_)
 refine Zl (results266) rfl ?_;rw [Jv,UA oM,UA oM]))
def orL:List Int→Int
 |[]=>0
 |x::l=>if x≠0 then x else orL l
theorem Zdx (a b c:Int):orL [a,b,c]=or3 a b c:=by
 unfold or3
 simp only [orL]
 split
 · rfl
 · split
   · rfl
   · split<;>omega
theorem ZfK (l:List Int) (hl:l.length≤1000):AF prog 141 [pInts l] (· =Zf (orL l)):=by
 refine AF.of_body 18 func141 rfl ntmps141 (Xa rfl) ?_
 intro w0 M0 vs hl hv
 obtain ⟨v0,rfl⟩:=YG hl
 clear hl hv
 refine Zd ?_
 (refine xL 2 Zb ?_<;>refine Zi ?_)
 (refine xL 3 Zb ?_<;>refine Zi ?_)
 (refine xL 6 Za (xL 7 (ZF HL) (xL 8 Za ?_))<;>refine Zc ?_)
 refine Zy (ι:={k:Nat//k≤l.length∧orL l=orL (l.drop k)}) (fun k=>⟨[(3,_,_),(6,_,_),(7,_,_),(8, .int .i64 k.1,Zf k.1)],[]⟩) (fun k=>l.length-k.1) ⟨0,oM,rfl⟩ (fun a w H=>H.weaken ⟨rfl,rfl,rfl,rfl,trivial⟩ trivial) ?_
 rintro ⟨k,hk,hp⟩
 dsimp only
 refine Zd ?_
 (refine xL 9 ZI ?_<;>refine Zc ?_)
 refine cX ?_ ?_<;>intro hb9
 · first |exact bN hb9|(
 obtain ⟨x,hx⟩:=Zm (show k<l.length by omega);have e1:=Yq (f:=Zf) hx;(have hdr:l.drop k=x::l.drop (k+1):=by rw [X4 (Zj hx)];congr 1;exact (Xl.1 hx).2);refine Zd ?_;(refine xL 10 (Zv HL) ?_<;>(refine yL 11 (ZN GW) fun v11 h=>?_;cases h)<;>refine xL 5 Zb ?_<;>refine Zi ?_)
 (refine xL 12 Za (xL 13 Za (xL 14 Wg ?_))<;>refine Zc ?_)
 refine cX ?_ ?_<;>intro hb14
 · first|exact bN hb14|(
 refine Zd ?_;(refine xL 15 Za (xL 2 Zb ?_)<;>refine Zc ?_)
 refine Zl (results141) rfl ?_;rw [hp,hdr,orL,UB hb14])
 · first|exact bN hb14|(
 refine Zd ?_;(refine xL 16 ZH (xL 8 Za ?_)<;>refine Zc ?_)
 refine Zh (
  ⟨k+1,oM,by rw [hp,hdr,orL,UA hb14]⟩
  ) (by dsimp only;omega) ⟨rfl,rfl,rfl,rfl,trivial⟩ trivial))
 · first|exact bN hb9|(
 refine Zd ?_;(refine xL 17 Za (xL 2 Zb ?_)<;>refine Zc ?_)
 refine Zl (results141) rfl ?_;rw [hp,XH oM];rfl)
theorem Zi4:∀a b:List UInt8,Lib.compareBytes a b=if Op.bytesLess a b=true then-1 else if (a==b)=true then 0 else 1
 |[],[]=>by simp [Lib.compareBytes,Op.bytesLess]
 |[],_::_=>by simp [Lib.compareBytes,Op.bytesLess]
 |_::_,[]=>by simp [Lib.compareBytes,Op.bytesLess]
 | x :: a,y::b=>by
   rw [Lib.compareBytes,Zi4 a b];simp only [Op.bytesLess,List.cons_beq_cons];by_cases h1:x<y
   · simp [h1]
   · by_cases h2:x=y
     · subst h2;simp [h1]
     · have h3:y<x:=UInt8.lt_of_le_of_ne (UInt8.not_lt.1 h1) (Ne.symm h2);simp [h1,h2,h3]
theorem ZfL (a b:ByteArray) (w:World):(callFunc 289 #[.string a, .string b]).run prog w= .ok (.value (.int .i64 (ZS a b))) w:=by
 rw [run_callFunc_extern func289 kR kR kR (e:=Extern.BytealgCompare.compare) kR,Lib.run_compareString]
 simp only [Result.andThen]
 rw [Zi4]
 unfold ZS strLt Ka
 rw [ByteArray.toList_eq,ByteArray.toList_eq]
theorem ZjB {st:St} {o:Oper} {x y:Operand} {f:Nat} {u v r:Value} {p q:PV} {ats:Array TypeId} (hc:∀w,(callFunc f #[u,v]).run prog w= .ok (.value r) w) (ho:o.op= .call {callee:= .value (.func f),args:= #[x,y],argTypes:=ats}:=by exact rfl) (hx:ev st.slots x=some (u,p):=by exact rfl) (hy:ev st.slots y=some (v,q):=by exact rfl):YE prog st o (· =r) (.val r):=
 .exact fun M F a w H=>⟨.val _,by
  have h1:=(H.ev hx).1;have h2:=(H.ev hy).1;have hev:a.eval (.func f)= .func (.func f) #[] #[]:=rfl;simp [execOp,ho,resolve,hev,Deferred.ofValue,invoke,h1,h2,hc]⟩
theorem C6 (a b:ByteArray):AF prog 284 [ZD a,ZD b] (· =Zf (ZS a b)):=by
 refine AF.of_body 8 func284 rfl ntmps284 (Xa rfl) ?_
 intro w0 M0 vs hl hv
 obtain ⟨v0,v1,rfl⟩:=W7 hl
 obtain rfl:=hv 0 _ _ rfl rfl
 obtain rfl:=hv 1 _ _ rfl rfl
 clear hl hv
 refine Zd ?_
 (refine xL 4 Zb ?_<;>refine Zi ?_)
 (refine xL 5 Za (xL 6 Za ?_)<;>refine xL 7 (ZjB (ZfL a b)) ?_<;>refine xL 4 Zb ?_<;>refine Zc ?_)
 exact Zl results284 rfl rfl
theorem EN (a b:ByteArray):AF prog 267 [ZD a,ZD b] (· =Zf (ZS a b)):=by
 refine AF.of_body 8 func267 rfl ntmps267 (Xa rfl) ?_
 intro w0 M0 vs hl hv
 obtain ⟨v0,v1,rfl⟩:=W7 hl
 clear hl hv
 refine Zd ?_
 (refine xL 4 Zb ?_<;>refine Zi ?_)
 (refine xL 5 Za (xL 6 Za ?_)<;>(refine cS 7 (cA call284 (C6 a b)) fun v7 h=>?_;cases h)<;>refine xL 4 Zb ?_<;>refine Zc ?_)
 exact Zl results267 rfl rfl
theorem Zdy {l m:List Nd} {k:Nat} {x y:Nd} (hx:l[k]? =some x) (hy:m[k]? =some y):Kp (l.drop k) (m.drop k)=if Wd x y≠0 then Wd x y else Kp (l.drop (k+1)) (m.drop (k+1)):=by
 rw [X4 (Zj hx),X4 (Zj hy),(Xl.1 hx).2,(Xl.1 hy).2,Kp]
theorem O' {l m:List Nd} {k:Nat} (hk:k≤l.length) (hk':k≤m.length) (h:¬(k<l.length∧k<m.length)):Kp (l.drop k) (m.drop k)=if l.length<m.length then-1 else if m.length<l.length then 1 else 0:=by
 rcases Xv k l.length with h1|h1
 · have h2:k=m.length:=oM;subst h2;rw [XH (Xc m.length),X4 h1,Kp,UA oM,UB h1]
 · have h2:k=l.length:=oM;subst h2;rw [XH (Xc l.length),UA (by omega:¬m.length<l.length)];rcases Xv l.length m.length with h3|h3
   · rw [X4 h3,Kp,UB h3]
   · have h4:l.length=m.length:=oM;rw [XH oM,Kp,UA oM]
theorem EO (f:Nat) (l m:List Nd) (hl:l.length≤140737488355328) (hm:m.length≤140737488355328) (hc:∀args w,(callFunc f args).run prog w= .ok (.enter f args) w) (hf:∀x∈l,∀y∈m,AF prog f [pTr x,pTr y] (· =Zf (Wd x y))):AF prog 268 [Y4 l,Y4 m, .fn f []] (· =Zf (Kp l m)):=by
 refine AF.of_body 39 func268 rfl ntmps268 (Xa rfl) ?_
 intro w0 M0 vs hl hv
 obtain ⟨v0,v1,v2,rfl⟩:=RI hl
 clear hl hv
 refine Zd ?_
 (refine xL 6 Zb ?_<;>refine Zi ?_)
 (refine xL 11 Za (xL 12 (ZF YY) (xL 13 Za ?_))<;>refine Zc ?_)
 refine Zy (ι:={k:Nat//k≤l.length∧k≤m.length∧Kp l m=Kp (l.drop k) (m.drop k)}) (fun k=>⟨[(0,_,_),(1,_,_),(2,_,_),(11,_,_),(12,_,_),(13, .int .i64 k.1,Zf k.1)],[]⟩) (fun k=>l.length-k.1) ⟨0,oM,oM,rfl⟩ (fun a w H=>H.weaken ⟨rfl,rfl,rfl,rfl,rfl,rfl,trivial⟩ trivial) ?_
 rintro ⟨k,hk,hkm,hp⟩
 dsimp only
 refine Zd ?_
 (refine xL 14 ZI ?_<;>refine Zc ?_)
 refine cX ?_ ?_<;>intro hb14
 · first | exact bN hb14|(
 obtain ⟨x,hx⟩:=Zm (show k<l.length by omega);have e1:=Z9 hx;have e2:=Yu hx;refine Zd ?_;(refine xL 15 Za (xL 16 (Zv YY) ?_)<;>(refine yL 17 (Wl YW) fun v17 h=>?_;cases h)<;>refine ZA [(.int .i64 0),(.string ByteArray.empty),(.slice none 0 0)] 3 8 T4 fun h8=>?_<;>refine xL 7 Zb ?_<;>refine Zw 8 YW ?_<;>refine Zi ?_)
 (refine xL 18 Za (xL 19 Za (xL 20 (ZF YY) (xL 21 Kj ?_)))<;>refine Zc ?_)
 refine cX ?_ ?_<;>intro hb21
 · first|exact bN hb21|(
 refine Zd ?_;(refine xL 6 Zb ?_<;>refine Zc ?_)
 refine Zl (results268) rfl ?_;rw [hp,O' hk hkm oM,UA oM,UB oM])
 · first |exact bN hb21|(
 obtain ⟨y,hy⟩:=Zm (show k<m.length by omega);have e3:=Z9 hy;have e4:=Yu hy;have hd:=Zdy hx hy;refine Zd ?_;(refine xL 22 Za (xL 23 Za (xL 24 (Zv YY) ?_))<;>(refine yL 25 (Wl YW) fun v25 h=>?_;cases h)<;>refine ZA [(.int .i64 0),(.string ByteArray.empty),(.slice none 0 0)] 3 9 T4 fun h9=>?_<;>refine Zw 9 YW ?_<;>refine Zi ?_)
 (refine xL 26 Za ?_<;>(refine yL 27 (Zu 8 YW) fun v27 h=>?_;cases h)<;>(refine yL 28 (Zu 9 YW) fun v28 h=>?_;cases h)<;>(refine cS 29 (J7 (f:=f) (ps:=[]) rfl ⟨_,rfl⟩ hc rfl (hf x (Xb hx) y (Xb hy))) fun v29 h=>?_;cases h)<;>refine xL 10 Zb ?_<;>refine Zi ?_)
 (refine xL 30 Za (xL 31 Wg ?_)<;>refine Zc ?_)
 refine cX ?_ ?_<;>intro hb31
 · first|exact bN hb31|(
 refine Zd ?_;(refine xL 32 Za (xL 6 Zb ?_)<;>refine Zc ?_)
 refine Zl (results268) rfl ?_;rw [hp,hd,UB hb31])
 · first|exact bN hb31|(
 refine Zd ?_;(refine xL 33 ZH (xL 13 Za ?_)<;>refine Zc ?_)
 refine Zh (
  ⟨k+1,oM,oM,by rw [hp,hd,UA hb31]⟩
  ) (by dsimp only;omega) ⟨rfl,rfl,rfl,rfl,rfl,rfl,trivial⟩ trivial)))
 · first|exact bN hb14|(
 refine Zd ?_;(refine xL 34 Za (xL 35 (ZF YY) (xL 36 Za (xL 37 (ZF YY) (xL 38 ZI ?_))))<;>refine Zc ?_)
 refine cX ?_ ?_<;>intro hb38
 · first|exact bN hb38|(
 refine Zd ?_;(refine xL 6 Zb ?_<;>refine Zc ?_)
 refine Zl (results268) rfl ?_;rw [hp,O' hk hkm oM,UB oM])
 · first|exact bN hb38|(
 refine Zd ?_;(refine xL 6 Zb ?_<;>refine Zc ?_)
 refine Zl (results268) rfl ?_;rw [hp,O' hk hkm oM,UA oM,UA oM]))
theorem ZjC:∀(t u:Nd),FitT t→FitT u→AF prog 226 [pTr t,pTr u] (· =Zf (Wd t u)):=Nd.ind fun o a l ih u hf hg=>by
 obtain ⟨o',a',l'⟩:=u
 have hl:=hf.len
 have hp:=hf.p
 have hl':=hg.len
 have hp':=hg.p
 simp only [Nd.l] at hl hp hl' hp'
 refine AF.of_body 22 func226 rfl ntmps226 (Xa rfl) ?_
 intro w0 M0 vs hl hv
 obtain ⟨v0,v1,rfl⟩:=W7 hl
 clear hl hv
 have e0:pTr (.mk o a l)= .agg [Zf o,ZD a, .sl l.length (Z6 l)]:=rfl
 have e1:pTr (.mk o' a' l')= .agg [Zf o',ZD a', .sl l'.length (Z6 l')]:=rfl
 rw [e0,e1]
 refine Zd ?_
 (refine Yi 2 3 fun h2=>?_<;>refine Yi 3 3 fun h3=>?_<;>refine xL 4 Zb ?_<;>refine Zc ?_)
 (refine ZM (fun i=>([]:List Nat).elem i) [2,3] kR ?_<;>refine xD 0 5 rfl (Zn 2 Jb) ?_<;>(refine yD 1 6 rfl (Zr 2 GW) fun v6 h=>?_;cases h)<;>refine xD 2 7 rfl (Zn 3 Jb) ?_<;>(refine yD 3 8 rfl (Zr 3 GW) fun v8 h=>?_;cases h)<;>refine xD 5 10 rfl (Zn 2 Jc) ?_<;>(refine yD 6 11 rfl (Zr 2 LF) fun v11 h=>?_;cases h)<;>refine xD 7 12 rfl (Zn 3 Jc) ?_<;>(refine yD 8 13 rfl (Zr 3 LF) fun v13 h=>?_;cases h)<;>refine xD 10 15 rfl (Zn 2 WX) ?_<;>(refine yD 11 16 rfl (Zr 2 KQ) fun v16 h=>?_;cases h)<;>refine xD 12 17 rfl (Zn 3 WX) ?_<;>(refine yD 13 18 rfl (Zr 3 KQ) fun v18 h=>?_;cases h)<;>(refine Zk 4 kR ?_)<;>(refine Zg rfl fun w9 M9 N9 DQ back=>?_)<;>(refine cS 9 (cA call266 (ZfJ o o')) fun v9 h=>?_;cases h)<;>refine Ze (back _ (nrm ?_))<;>(refine Zk 9 kR ?_)<;>(refine Zg rfl fun w9 M9 N9 DQ back=>?_)<;>(refine cS 14 (cA call267 (EN a a')) fun v14 h=>?_;cases h)<;>refine Ze (back _ (nrm ?_))<;>(refine Zk 14 kR ?_)<;>(refine Zg rfl fun w9 M9 N9 DQ back=>?_)<;>(refine cS 19 (cA call268 (EO 226 l l' hl hl' (call226) (fun x hx y hy=>ih x hx y (hp x hx) (hp' y hy)))) fun v19 h=>?_;cases h)<;>refine Ze (back _ (nrm ?_))<;>(refine Zk 15 kR ?_)<;>(refine Zg rfl fun w9 M9 N9 DQ back=>?_)<;>(refine L4 (xs:=[_,_,_]) 20 Zdw fun h20 ho20=>?_;refine ZJ (En.freeze (l:=20) (t:=20) rfl rfl) fun _=>?_)<;>refine Ze (back _ (nrm ?_))<;>(refine Zk 16 kR ?_)<;>(refine Zg rfl fun w9 M9 N9 DQ back=>?_)<;>(refine cS 21 (cA call141 (ZfK [Jv o o',ZS a a',Kp l l'] (by simp only [Xg,Xq];omega))) fun v21 h=>?_;cases h)<;>refine Ze (back _ (nrm ?_))<;>refine xE 17 4 rfl Zb ?_<;>refine Ym kR (nav ?_)<;>try dsimp only)
 refine Zl (results226) rfl ?_
 rw [Zdx,Wd]
def GX (t u:Nd):Bool:=decide (Wd t u=0)
theorem WN {t u:Nd}:GX t u=true↔t=u:=by unfold GX;rw [Ux,KN]
theorem LG {t u:Nd} (h:t≠u):GX t u=false:=by
 cases hs:GX t u with
 |false=>rfl
 |true=>exact UC (WN.1 hs) h
theorem ZfM {o o':Int} {a a':ByteArray} {l l':List Nd} (h1:o=o') (h2:a=a') (h3:l.length=l'.length) (h4:∀(j:Nat) (x y:Nd),l[j]? =some x→l'[j]? =some y→x=y):Nd.mk o a l=Nd.mk o' a' l':=by
 have:l=l':=by
  apply VG;intro i;rcases Xv i l.length with h|h
  · obtain ⟨x,hx⟩:=Zm h;obtain ⟨y,hy⟩:=Zm (show i<l'.length by omega);rw [hx,hy,h4 i x y hx hy]
  · rw [Vb h,Vb oM]
 rw [h1,h2,this]
theorem ZfN : ∀ (t u:Nd),FitT t→FitT u→AF prog 26 [pTr t,pTr u] (· =ZB (GX t u)):=Nd.ind fun o a l ih u hf hg=>by
 obtain ⟨o',a',l'⟩:=u
 have hl:=hf.len
 have hp:=hf.p
 have hl':=hg.len
 have hp':=hg.p
 simp only [Nd.l] at hl hp hl' hp'
 refine AF.of_body 46 func26 rfl ntmps26 (Xa rfl) ?_
 intro w0 M0 vs hl hv
 obtain ⟨v0,v1,rfl⟩:=W7 hl
 clear hl hv
 have e0:pTr (.mk o a l)= .agg [Zf o,ZD a, .sl l.length (Z6 l)]:=rfl
 have e1:pTr (.mk o' a' l')= .agg [Zf o',ZD a', .sl l'.length (Z6 l')]:=rfl
 rw [e0,e1]
 refine Zd ?_
 (refine Yi 2 3 fun h2=>?_<;>refine Yi 3 3 fun h3=>?_<;>refine xL 4 Zb ?_<;>refine Zi ?_)
 (refine xL 6 (Zn 2 Jb) ?_<;>(refine yL 7 (Zr 2 GW) fun v7 h=>?_;cases h)<;>refine xL 8 (Zn 3 Jb) ?_<;>(refine yL 9 (Zr 3 GW) fun v9 h=>?_;cases h)<;>refine xL 10 Wg (xL 11 Za ?_)<;>(refine bLd 11 (fun hb11=>?_) (fun hb11=>?_)<;>(first|refine kL 12 ?_|refine xL 12 (Zn 2 Jc) ?_))<;>(first|refine kL 13 ?_|(refine yL 13 (Zr 2 LF) fun v13 h=>?_;cases h))<;>(first|refine kL 14 ?_|refine xL 14 (Zn 3 Jc) ?_)<;>(first|refine kL 15 ?_|(refine yL 15 (Zr 3 LF) fun v15 h=>?_;cases h))<;>(first|refine kL 16 ?_|refine xL 16 Zar ?_)<;>refine xL 17 Zt (xL 18 Za ?_)<;>(first|refine kL 19 ?_|(refine bL 18 (fun hb18=>?_) (fun hb18=>?_)<;>(first|refine kL 19 ?_|refine xL 19 (Zn 2 WX) ?_)))<;>(first|refine kL 20 ?_|(refine yL 20 (Zr 2 KQ) fun v20 h=>?_;cases h))<;>(first|refine kL 21 ?_|refine xL 21 (ZF YY) ?_)<;>(first|refine kL 22 ?_|refine xL 22 (Zn 3 WX) ?_)<;>(first|refine kL 23 ?_|(refine yL 23 (Zr 3 KQ) fun v23 h=>?_;cases h))<;>(first|refine kL 24 ?_|refine xL 24 (ZF YY) ?_)<;>(first|refine kL 25 ?_|refine xL 25 Wg ?_)<;>refine xL 26 Zt ?_<;>refine Zc ?_)<;>(
 refine cX ?_ ?_<;>intro hb26
 · first|exact bN hb26|(
 refine Zd ?_;(refine xL 4 Zb ?_<;>refine Zc ?_)
 refine Zl (results26) rfl ?_;rw [LG fun h=>?_];injection h with h1 h2 h3;subst h1 h2 h3
 first
  |omega
  |(simp at hb18;done)
  |(simp at hb26;done))
 · first | exact bN hb26|(
 have ho:o=o':=oM;have ha:a=a':=by
  (have:(a.toList==a'.toList)=true:=by simpa using hb18);exact WL.1 this
 have hll:l.length=l'.length:=oM;refine Zd ?_;(refine xL 5 Zb ?_<;>refine Zc ?_)
 refine Zy (ι:={k:Nat//k≤l.length∧∀j x y,j<k→l[j]? =some x→l'[j]? =some y→x=y}) (fun k=>⟨[(2,_,_),(3,_,_),(5, .int .i64 k.1,Zf k.1)],[(2,_,_),(3,_,_)]⟩) (fun k=>l.length-k.1) ⟨0,oM,oM⟩ (fun a w H=>H.weaken ⟨rfl,rfl,rfl,trivial⟩ ⟨rfl,rfl,trivial⟩) ?_;rintro ⟨k,hk,hp3⟩;dsimp only;refine Zd ?_;(refine xL 27 Za (xL 28 (Zn 2 WX) ?_)<;>(refine yL 29 (Zr 2 KQ) fun v29 h=>?_;cases h)<;>refine xL 30 (ZF YY) (xL 31 ZI ?_)<;>refine Zc ?_)
 refine cX ?_ ?_<;>intro hb31
 · first | exact bN hb31|(
 obtain ⟨x,hx⟩:=Zm (show k<l.length by omega);obtain ⟨y,hy⟩:=Zm (show k<l'.length by omega);have e1:=Z9 hx;have e2:=Yu hx;have e3:=Z9 hy;have e4:=Yu hy;have hxm:=Xb hx;have hym:=Xb hy;refine nav ?_;(refine ZM (fun i=>([]:List Nat).elem i) [2,3] kR ?_<;>refine xD 0 34 rfl (Zn 2 WX) ?_<;>(refine yD 1 35 rfl (Zr 2 KQ) fun v35 h=>?_;cases h)<;>refine xD 2 36 rfl Za ?_<;>refine xD 3 37 rfl (Zv YY) ?_<;>(refine yD 4 38 rfl (Wl YW) fun v38 h=>?_;cases h)<;>refine xD 5 39 rfl (Zn 3 WX) ?_<;>(refine yD 6 40 rfl (Zr 3 KQ) fun v40 h=>?_;cases h)<;>refine xE 7 41 rfl Za ?_<;>refine xE 8 42 rfl (Zv YY) ?_<;>(refine yE 9 43 rfl (Wl YW) fun v43 h=>?_;cases h)<;>(refine Zk 10 kR ?_)<;>(refine Zg rfl fun w9 M9 N9 DQ back=>?_)<;>(refine cS 44 (cA call26 (ih x hxm y (hp x hxm) (hp' y hym))) fun v44 h=>?_;cases h)<;>refine Ze (back _ (nrm ?_))<;>refine xE 11 45 rfl Yd ?_<;>refine Ym kR (nav ?_)<;>try dsimp only)
 refine cX ?_ ?_<;>intro hb45
 · first|exact bN hb45|(
 refine Zd ?_;(refine xL 4 Zb ?_<;>refine Zc ?_)
 refine Zl (results26) rfl ?_;rw [LG fun h=>?_];injection h with h1 h2 h3;subst h3;rw [hx] at hy
 cases hy;rw [WN.2 rfl] at hb45
 cases hb45)
 · first |exact bN hb45|(
 refine Zd ?_;(refine xL 32 Za (xL 33 ZH (xL 5 Zb ?_))<;>refine Zc ?_)
 refine Zh (
  ⟨k +1,oM,fun j u v hj hu hv=>by
   by_cases e:j=k
   · subst e;rw [hx] at hu;rw [hy] at hv;cases hu;cases hv;exact WN.1 (by simpa using hb45)
   · exact hp3 j u v oM hu hv⟩
  ) (by dsimp only;omega) ⟨rfl,rfl,rfl,trivial⟩ ⟨rfl,rfl,trivial⟩))
 · first|exact bN hb31|(
 refine Zd ?_;(refine xL 4 Zb ?_<;>refine Zc ?_)
 refine Zl (results26) rfl ?_;rw [WN.2 (ZfM ho ha hll fun j u v hu hv=>hp3 j u v (by have:=Zj hu;omega) hu hv)])))
def nd0:Nd:= .mk 0 ByteArray.empty []
theorem Oi:FitT nd0:= .mk _ (Xn _) (Xn _) dC dC (fun x hx=>by cases hx)
def Jd:PV:= .agg [.val (.int .i64 0), .val (.string ByteArray.empty), .val (.slice none 0 0)]
theorem JB:Rr Jd (pTr nd0):=Rr.agg rfl fun i a b ha hb=>by
 match i with
 |0=>cases ha;cases hb;exact Rr.rfl' _
 |1=>cases ha;cases hb;exact Rr.rfl' _
 |2=>cases ha;cases hb;exact Rr.nil
 |i+3=>simp at ha
theorem C7 {o o':Int} {a a':ByteArray} {l l':List Nd} (h1:o=o') (h2:a=a'):GX (.mk 0 ByteArray.empty l) (.mk 0 ByteArray.empty l')=GX (.mk o a l) (.mk o' a' l'):=by
 subst h1 h2
 rw [Vy,WN,WN]
 exact ⟨fun h=>by injection h with h1 h2 h3;rw [h3],fun h=>by injection h with h1 h2 h3;rw [h3]⟩
theorem ZaM (f :Nat) (l m:List Nd) (hl:l.length≤140737488355328) (hm:m.length≤140737488355328) (hc:∀args w,(callFunc f args).run prog w= .ok (.enter f args) w) (hf:∀x∈l,∀y∈m,AF prog f [pTr x,pTr y] (· =ZB (GX x y))):AF prog 269 [Y4 l,Y4 m, .fn f []] (· =ZB (GX (.mk 0 ByteArray.empty l) (.mk 0 ByteArray.empty m))):=by
 refine AF.of_body 32 func269 rfl ntmps269 (Xa rfl) ?_
 intro w0 M0 vs hl hv
 obtain ⟨v0,v1,v2,rfl⟩:=RI hl
 clear hl hv
 refine Zd ?_
 (refine xL 6 Zb ?_<;>refine Zi ?_)
 (refine xL 10 Za (xL 11 (ZF YY) (xL 12 Za (xL 13 (ZF YY) (xL 14 Wg ?_))))<;>refine Zc ?_)
 refine cX ?_ ?_<;>intro hb14
 · first|exact bN hb14|(
 refine Zd ?_;(refine xL 6 Zb ?_<;>refine Zc ?_)
 refine Zl (results269) rfl ?_;rw [LG fun h=>?_];injection h with h1 h2 h3;subst h3;omega)
 · first | exact bN hb14|(
 have hll:l.length=m.length:=oM;refine Zd ?_;(refine xL 15 Za (xL 16 (ZF YY) (xL 17 Za ?_))<;>refine Zc ?_)
 refine Zy (ι:={k:Nat//k≤l.length∧∀j x y,j<k→l[j]? =some x→m[j]? =some y→x=y}) (fun k=>⟨[(1,_,_),(2,_,_),(15,_,_),(16,_,_),(17, .int .i64 k.1,Zf k.1)],[]⟩) (fun k=>l.length-k.1) ⟨0,oM,oM⟩ (fun a w H=>H.weaken ⟨rfl,rfl,rfl,rfl,rfl,trivial⟩ trivial) ?_;rintro ⟨k,hk,hp3⟩;dsimp only;refine Zd ?_;(refine xL 18 ZI ?_<;>refine Zc ?_)
 refine cX ?_ ?_<;>intro hb18
 · first | exact bN hb18|(
 obtain ⟨x,hx⟩:=Zm (show k<l.length by omega);obtain ⟨y,hy⟩:=Zm (show k<m.length by omega);have e1:=Z9 hx;have e2:=Yu hx;have e3:=Z9 hy;have e4:=Yu hy;refine Zd ?_;(refine xL 19 Za (xL 20 (Zv YY) ?_)<;>(refine yL 21 (Wl YW) fun v21 h=>?_;cases h)<;>refine ZA [(.int .i64 0),(.string ByteArray.empty),(.slice none 0 0)] 3 8 T4 fun h8=>?_<;>refine xL 7 Zb ?_<;>refine Zw 8 YW ?_<;>refine Zi ?_)
 (refine xL 22 Za (xL 23 Za (xL 24 (Zv YY) ?_))<;>(refine yL 25 (Wl YW) fun v25 h=>?_;cases h)<;>refine ZA [(.int .i64 0),(.string ByteArray.empty),(.slice none 0 0)] 3 9 T4 fun h9=>?_<;>refine Zw 9 YW ?_<;>refine Zi ?_)
 (refine xL 26 Za ?_<;>(refine yL 27 (Zu 8 YW) fun v27 h=>?_;cases h)<;>(refine yL 28 (Zu 9 YW) fun v28 h=>?_;cases h)<;>(refine cS 29 (J7 (f:=f) (ps:=[]) rfl ⟨_,rfl⟩ hc rfl (hf x (Xb hx) y (Xb hy))) fun v29 h=>?_;cases h)<;>refine xL 30 Yd ?_<;>refine Zc ?_)
 refine cX ?_ ?_<;>intro hb30
 · first|exact bN hb30|(
 refine Zd ?_;(refine xL 6 Zb ?_<;>refine Zc ?_)
 refine Zl (results269) rfl ?_;rw [LG fun h=>?_];injection h with h1 h2 h3;subst h3;rw [hx] at hy
 cases hy;rw [WN.2 rfl] at hb30
 cases hb30)
 · first |exact bN hb30|(
 refine Zd ?_;(refine xL 31 ZH (xL 17 Za ?_)<;>refine Zc ?_)
 refine Zh (
  ⟨k +1,oM,fun j u v hj hu hv=>by
   by_cases e:j=k
   · subst e;rw [hx] at hu;rw [hy] at hv;cases hu;cases hv;exact WN.1 (by simpa using hb30)
   · exact hp3 j u v oM hu hv⟩
  ) (by dsimp only;omega) ⟨rfl,rfl,rfl,rfl,rfl,trivial⟩ trivial))
 · first|exact bN hb18|(
 refine Zd ?_;(refine xL 6 Zb ?_<;>refine Zc ?_)
 refine Zl (results269) rfl ?_;rw [WN.2 (ZfM rfl rfl hll fun j u v hu hv=>hp3 j u v (by have:=Zj hu;omega) hu hv)]))
theorem ZhT:∀(t u:Nd),FitT t→FitT u→AF prog 228 [pTr t,pTr u] (· =ZB (GX t u)):=Nd.ind fun o a l ih u hf hg=>by
 obtain ⟨o',a',l'⟩:=u
 have hl:=hf.len
 have hp:=hf.p
 have hl':=hg.len
 have hp':=hg.p
 simp only [Nd.l] at hl hp hl' hp'
 refine AF.of_body 24 func228 rfl ntmps228 (Xa rfl) ?_
 intro w0 M0 vs hl hv
 obtain ⟨v0,v1,rfl⟩:=W7 hl
 clear hl hv
 have e0:pTr (.mk o a l)= .agg [Zf o,ZD a, .sl l.length (Z6 l)]:=rfl
 have e1:pTr (.mk o' a' l')= .agg [Zf o',ZD a', .sl l'.length (Z6 l')]:=rfl
 rw [e0,e1]
 refine Zd ?_
 (refine Yi 2 3 fun h2=>?_<;>refine Yi 3 3 fun h3=>?_<;>refine xL 4 Zb ?_<;>refine Zi ?_)
 (refine xL 5 (Zn 2 Jb) ?_<;>(refine yL 6 (Zr 2 GW) fun v6 h=>?_;cases h)<;>refine xL 7 (Zn 3 Jb) ?_<;>(refine yL 8 (Zr 3 GW) fun v8 h=>?_;cases h)<;>refine xL 9 ZU (xL 10 Za ?_)<;>(refine bLd 10 (fun hb10=>?_) (fun hb10=>?_)<;>(first|refine kL 11 ?_|refine xL 11 (Zn 2 Jc) ?_))<;>(first|refine kL 12 ?_|(refine yL 12 (Zr 2 LF) fun v12 h=>?_;cases h))<;>(first|refine kL 13 ?_|refine xL 13 (Zn 3 Jc) ?_)<;>(first|refine kL 14 ?_|(refine yL 14 (Zr 3 LF) fun v14 h=>?_;cases h))<;>(first|refine kL 15 ?_|refine xL 15 KC ?_)<;>refine xL 16 Zt (xL 17 Za ?_)<;>(first|refine kL 18 ?_|(refine bL 17 (fun hb17=>?_) (fun hb17=>?_)<;>(first|refine kL 18 ?_|refine xL 18 (Zn 2 WX) ?_)))<;>(first|refine kL 19 ?_|(refine yL 19 (Zr 2 KQ) fun v19 h=>?_;cases h))<;>(first|refine kL 20 ?_|refine xL 20 (Zn 3 WX) ?_)<;>(first|refine kL 21 ?_|(refine yL 21 (Zr 3 KQ) fun v21 h=>?_;cases h))<;>(first|refine kL 22 ?_|(refine cS 22 (cA call269 (ZaM 228 l l' hl hl' (call228) (fun x hx y hy=>ih x hx y (hp x hx) (hp' y hy)))) fun v22 h=>?_;cases h))<;>refine xL 23 Zt (xL 4 Zb ?_)<;>refine Zc ?_)<;>(
 refine Zl (results228) rfl ?_
 first
  |(rw [LG fun h=>by injection h with h1 h2 h3;omega];done)
  |(rw [LG fun h=>by injection h with h1 h2 h3;subst h2;simp at hb17];done)
  |(rw [C7 hb10 (WL.1 hb17)];done))
section
variable {α:Type}
def swp (l:List α) (i j:Nat):List α:=match l[i]?,l[j]? with
 |some x,some y=>(l.set i y).set j x
 |_,_=>l
theorem ZfO {l:List α} {i j:Nat} {x y:α} (hi:l[i]? =some x) (hj:l[j]? =some y):swp l i j=(l.set i y).set j x:=by unfold swp;rw [hi,hj]
theorem ZhU (l:List α) (i j:Nat):(swp l i j).length=l.length:=by unfold swp;split<;>simp
theorem T5 {l:List α} {i j:Nat} (hi:i<l.length) (hj:j<l.length) (k:Nat):(swp l i j)[k]? =if k=j then l[i]? else if k=i then l[j]? else l[k]? :=by
 rw [ZfO (Xp hi) (Xp hj),List.getElem?_set,List.getElem?_set,Xh]
 by_cases h1:k=j
 · subst h1;simp [hj,Xp hi]
 · rw [UA (fun h=>h1 h.symm),UA h1];by_cases h2:k=i
   · subst h2;simp [hi,Xp hj]
   · rw [UA (fun h=>h2 h.symm),UA h2]
theorem ZfP (l:List α) (i j:Nat):(swp l i j).Perm l:=by
 unfold swp
 split
 · rename_i x y hx hy;obtain ⟨hi,rfl⟩:=Xl.1 hx;obtain ⟨hj,rfl⟩:=Xl.1 hy;exact List.set_set_perm hi hj
 · exact List.Perm.refl _
inductive Sw (a b:Nat):List α→List α→Prop
 |refl (l:List α):Sw a b l l
 |step {l m:List α} (i j:Nat) (h:Sw a b l m) (hi:a≤i) (hi':i<b) (hj:a≤j) (hj':j<b) (hb:b≤l.length):Sw a b l (swp m i j)
theorem Sw.len {a b:Nat} {l m:List α} (h:Sw a b l m):m.length=l.length:=by
 induction h with
 |refl=>rfl
 |step i j h _ _ _ _ _ ih=>rw [ZhU,ih]
theorem Sw.perm {a b:Nat} {l m:List α} (h:Sw a b l m):m.Perm l:=by
 induction h with
 |refl=>exact List.Perm.refl _
 |step i j h _ _ _ _ _ ih=>exact (ZfP _ _ _).trans ih
theorem Sw.out {a b:Nat} {l m:List α} (h:Sw a b l m) {k:Nat} (hk:k<a∨b≤k):m[k]? =l[k]? :=by
 induction h with
 |refl=>rfl
 | step i j h hi hi' hj hj' hb ih=>
   rw [T5 (by rw [h.len];omega) (by rw [h.len];omega),UA oM,UA oM,ih]
theorem Sw.mem {a b:Nat} {l m:List α} (h:Sw a b l m):∀{k:Nat} {x:α},a≤k→k<b→m[k]? =some x→∃k',a≤k'∧k'<b∧l[k']? =some x:=by
 induction h with
 |refl=>exact fun h1 h2 h3=>⟨_,h1,h2,h3⟩
 | step i j h hi hi' hj hj' hb ih=>
   intro k x h1 h2 h3;rw [T5 (by rw [h.len];omega) (by rw [h.len];omega)] at h3;split at h3
   · exact ih hi hi' h3
   · split at h3
     · exact ih hj hj' h3
     · exact ih h1 h2 h3
theorem Sw.mono {a b a' b':Nat} {l m:List α} (h:Sw a b l m) (ha:a'≤a) (hb:b≤b') (hl:b'≤l.length):Sw a' b' l m:=by
 induction h with
 |refl=>exact .refl _
 |step i j h hi hi' hj hj' hb' ih=>exact .step i j ih oM oM oM oM hl
theorem Sw.trans {a b:Nat} {l m n:List α} (h:Sw a b l m) (h':Sw a b m n):Sw a b l n:=by
 induction h' with
 |refl=>exact h
 |step i j h2 hi hi' hj hj' hb ih=>exact .step i j ih hi hi' hj hj' (by rw [←h.len];exact hb)
variable (le:α→α→Prop)
def SrtS (a b:Nat) (l:List α):Prop:=∀i j x y,a≤i→i<j→j<b→l[i]? =some x→l[j]? =some y→le x y
theorem SrtS.sub {a b a' b':Nat} {l:List α} (h:SrtS le a b l) (ha:a≤a') (hb:b'≤b):SrtS le a' b' l:=fun i j x y h1 h2 h3=>h i j x y oM h2 oM
theorem SrtS.small {a b:Nat} (l:List α) (h:b≤a+1):SrtS le a b l:=fun i j x y h1 h2 h3=>oM
theorem SrtS.ext {a b:Nat} {l m:List α} (h:SrtS le a b l) (he:∀k,a≤k→k<b→m[k]? =l[k]?):SrtS le a b m:=fun i j x y h1 h2 h3 hx hy=>h i j x y h1 h2 h3 (by rw [←he i oM oM];exact hx) (by rw [←he j oM oM];exact hy)
theorem SrtS.eqv (hr:∀x,le x x) {a b:Nat} {l:List α} (h:SrtS le a b l) {i j:Nat} {x y:α} (h1:a≤i) (h2:i≤j) (h3:j<b) (hx:l[i]? =some x) (hy:l[j]? =some y):le x y:=by
 rcases Xv i j with h4|h4
 · exact h i j x y h1 h4 h3 hx hy
 · have:i=j:=oM;subst this;rw [hx] at hy;cases hy;exact hr x
def ZfQ (a i j:Nat) (l:List α):Prop:=(∀p q x y,a≤p→p<q→q≤i→p≠j→q≠j→l[p]? =some x→l[q]? =some y→le x y)∧(∀q x y,j<q→q≤i→l[j]? =some x→l[q]? =some y→le x y)
theorem Zdz {a i:Nat} {l:List α} (h:SrtS le a i l):ZfQ le a i i l:=⟨fun p q x y h1 h2 h3 h4 h5=>h p q x y h1 h2 oM,fun q x y h1 h2=>oM⟩
theorem ZfR {a i j:Nat} {l:List α} (h:ZfQ le a i (j+1) l) (ha:a≤j) (hi:j+1≤i) (hl:i<l.length) {x y:α} (hx:l[j+1]? =some x) (hy:l[j]? =some y) (hle:le x y):ZfQ le a i j (swp l (j+1) j):=by
 have hg:=T5 (l:=l) (i:=j+1) (j:=j) oM oM
 refine ⟨fun p q u v h1 h2 h3 h4 h5 hu hv=>?_,fun q u v h1 h2 hu hv=>?_⟩
 · rw [hg] at hu hv;rw [UA h4] at hu;rw [UA h5] at hv;by_cases e1:p=j+1
   · rw [UB e1] at hu;rw [UA oM] at hv;exact h.1 j q u v ha oM h3 oM oM hu hv
   · rw [UA e1] at hu;by_cases e2:q=j+1
     · rw [UB e2] at hv;exact h.1 p j u v h1 oM oM oM oM hu hv
     · rw [UA e2] at hv;exact h.1 p q u v h1 h2 h3 oM oM hu hv
 · rw [hg,UB rfl] at hu;rw [hg,UA oM] at hv;by_cases e2:q=j+1
   · rw [UB e2] at hv;rw [hu] at hx;rw [hv] at hy;cases hx;cases hy;exact hle
   · rw [UA e2] at hv;exact h.2 q u v oM h2 hu hv
theorem Zb4 (hr:∀x,le x x) (ht:∀x y z,le x y→le y z→le x z) {a i j:Nat} {l:List α} (h:ZfQ le a i j l) (hj:a≤j) (hji:j≤i) (hl:i<l.length) (he:j=a∨∃k x y,j=k+1∧l[k]? =some x∧l[j]? =some y∧le x y):SrtS le a (i+1) l:=by
 intro p q x y h1 h2 h3 hx hy
 by_cases e1:p=j
 · subst e1;exact h.2 q x y h2 oM hx hy
 · by_cases e2:q=j
   · subst e2;rcases he with he|⟨k,u,v,he,hu,hv,hle⟩
     · omega
     · rw [hy] at hv;cases hv;by_cases e3:p=k
       · subst e3;rw [hx] at hu;cases hu;exact hle
       · exact ht _ _ _ (h.1 p k x u h1 oM oM e1 oM hx hu) hle
   · exact h.1 p q x y h1 h2 oM e1 e2 hx hy
def Mov (a b k i:Nat) (l:List α):Prop:=(∀p q x y,a≤p→p<q→q<b→p≠k→q≠k→l[p]? =some x→l[q]? =some y→le x y)∧∀q x y,a≤q→q<b→q≠k→l[k]? =some x→l[q]? =some y→if q<i then le y x else le x y
theorem ZdA {a b k i:Nat} {l:List α} (h:Mov le a b k i l) (ha:a≤k) (hk:k+1<i) (hi:i≤b) (hl:b≤l.length):Mov le a b (k+1) i (swp l k (k+1)):=by
 have hg:=T5 (l:=l) (i:=k) (j:=k+1) oM oM
 refine ⟨fun p q u v h1 h2 h3 h4 h5 hu hv=>?_,fun q u v h1 h2 h3 hu hv=>?_⟩
 · rw [hg,UA h4] at hu;rw [hg,UA h5] at hv;by_cases e1:p=k
   · rw [UB e1] at hu;rw [UA oM] at hv;exact h.1 (k+1) q u v oM oM h3 oM oM hu hv
   · rw [UA e1] at hu;by_cases e2:q=k
     · rw [UB e2] at hv;exact h.1 p (k+1) u v h1 oM oM oM oM hu hv
     · rw [UA e2] at hv;exact h.1 p q u v h1 h2 h3 e1 e2 hu hv
 · rw [hg,UB rfl] at hu;rw [hg,UA h3] at hv;by_cases e2:q=k
   · rw [UB e2] at hv;have:=h.2 (k+1) u v oM oM oM hu hv;rw [UB oM] at this;rw [UB oM];exact this
   · rw [UA e2] at hv;exact h.2 q u v h1 h2 e2 hu hv
theorem He {a b k i:Nat} {l:List α} (h:Mov le a b k i l) (hk:i=k+1):SrtS le a b l:=by
 intro p q x y h1 h2 h3 hx hy
 by_cases e1:p=k
 · subst e1;have:=h.2 q x y oM h3 oM hx hy;rw [UA oM] at this;exact this
 · by_cases e2:q=k
   · subst e2;have:=h.2 p y x h1 oM oM hy hx;rw [UB oM] at this;exact this
   · exact h.1 p q x y h1 h2 h3 e1 e2 hx hy
theorem ZfS {a b k i:Nat} {l:List α} (h:Mov le a b (k+1) i l) (hi:a≤i) (hik:i≤k) (hk:k+1<b) (hl:b≤l.length):Mov le a b k i (swp l (k+1) k):=by
 have hg:=T5 (l:=l) (i:=k+1) (j:=k) oM oM
 refine ⟨fun p q u v h1 h2 h3 h4 h5 hu hv=>?_,fun q u v h1 h2 h3 hu hv=>?_⟩
 · rw [hg,UA h4] at hu;rw [hg,UA h5] at hv;by_cases e1:p=k+1
   · rw [UB e1] at hu;rw [UA oM] at hv;exact h.1 k q u v oM oM h3 oM oM hu hv
   · rw [UA e1] at hu;by_cases e2:q=k+1
     · rw [UB e2] at hv;exact h.1 p k u v h1 oM oM oM oM hu hv
     · rw [UA e2] at hv;exact h.1 p q u v h1 h2 h3 e1 e2 hu hv
 · rw [hg,UB rfl] at hu;rw [hg,UA h3] at hv;by_cases e2:q=k+1
   · rw [UB e2] at hv;have:=h.2 k u v oM oM oM hu hv;rw [UA oM] at this;rw [UA oM];exact this
   · rw [UA e2] at hv;exact h.2 q u v h1 h2 e2 hu hv
theorem EP {a b k:Nat} {l:List α} (h:Mov le a b k k l):SrtS le a b l:=by
 intro p q x y h1 h2 h3 hx hy
 by_cases e1:p=k
 · subst e1;have:=h.2 q x y oM h3 oM hx hy;rw [UA oM] at this;exact this
 · by_cases e2:q=k
   · subst e2;have:=h.2 p y x h1 oM oM hy hx;rw [UB oM] at this;exact this
   · exact h.1 p q x y h1 h2 h3 e1 e2 hx hy
theorem ZdB {a b i:Nat} {l:List α} (hs:SrtS le (a+1) b l) (hi:a+1≤i) (h1:∀q x y,a+1≤q→q<i→l[a]? =some x→l[q]? =some y→le y x) (h2:∀q x y,i≤q→q<b→l[a]? =some x→l[q]? =some y→le x y):Mov le a b a i l:=
 ⟨fun p q x y h3 h4 h5 h6 h7=>hs p q x y oM h4 h5,fun q x y h3 h4 h5 hx hy=>by
  by_cases h6:q<i
  · rw [UB h6];exact h1 q x y oM h6 hx hy
  · rw [UA h6];exact h2 q x y oM h4 hx hy⟩
theorem ZfT {a m i:Nat} {l:List α} (hs:SrtS le a m l) (hi:i≤m) (h1:∀q x y,a≤q→q<i→l[m]? =some x→l[q]? =some y→le y x) (h2:∀q x y,i≤q→q<m→l[m]? =some x→l[q]? =some y→le x y):Mov le a (m+1) m i l:=
 ⟨fun p q x y h3 h4 h5 h6 h7=>hs p q x y h3 h4 oM,fun q x y h3 h4 h5 hx hy=>by
  by_cases h6:q<i
  · rw [UB h6];exact h1 q x y h3 h6 hx hy
  · rw [UA h6];exact h2 q x y oM oM hx hy⟩
def Td (a m b k:Nat):Nat:=if k<a∨b≤k then k else if k-a<b-m then m+(k-a) else a+(k-a-(b-m))
def srI (a b n k:Nat):Nat:=if a≤k∧k<a+n then b+(k-a) else if b≤k∧k<b+n then a+(k-b) else k
theorem ZfU {m i j k:Nat} (hij:j<i) (him:i≤m):srI (m-i) m j (Td (m-i+j) m (m+j) k)=Td (m-i) m (m+j) k:=by
 unfold Td srI
 (repeat' split)<;>omega
theorem ZfV {m i j k:Nat} (hij:i<j) (him:i≤m):srI (m-i) (m+j-i) i (Td (m-i) m (m+j-i) k)=Td (m-i) m (m+j) k:=by
 unfold Td srI
 (repeat' split)<;>omega
theorem ZjD {m i k:Nat} (him:i≤m):srI (m-i) m i k=Td (m-i) m (m+i) k:=by
 unfold Td srI
 split<;>split<;>(try split)<;>(try split)<;>omega
theorem ZhV {l l0:List α} {a b i n:Nat} (hi:i<n) (hab:a+n≤b) (hb:b+n≤l.length) (h:∀k,l[k]? =l0[srI a b i k]?):∀k,(swp l (a+i) (b+i))[k]? =l0[srI a b (i+1) k]? :=by
 intro k
 rw [T5 oM oM,h,h,h]
 unfold srI
 by_cases e1:k=b+i
 · subst e1;rw [UB rfl,UA oM,UA oM,UA oM,UB oM];congr 1;omega
 · rw [UA e1];by_cases e2:k=a+i
   · subst e2;rw [UB rfl,UA oM,UA oM,UB oM];congr 1;omega
   · rw [UA e2];congr 1;split<;>split<;>(try split)<;>(try split)<;>omega
theorem ZhW (a b k:Nat):srI a b 0 k=k:=by unfold srI;split<;>(try split)<;>omega
def Thr (lo hi p s r:Nat) (l:List α):Prop:=lo≤s∧s≤r∧r≤hi∧(∀c x y,lo≤c→c<s→l[c]? =some x→l[p-c]? =some y→le x y)∧(∀c x y,r≤c→c<hi→l[c]? =some x→l[p-c]? =some y→le y x)
theorem ZdC {lo hi p:Nat} (l:List α) (h:lo≤hi):Thr le lo hi p lo hi l:=⟨Xc _,h,Xc _,fun c x y h1 h2=>oM,fun c x y h1 h2=>oM⟩
section
variable {le}
theorem ZfW (hr:∀x,le x x) (ht:∀x y z,le x y→le y z→le x z) {a m b lo hi p s r c:Nat} {l:List α} (h:Thr le lo hi p s r l) (h1:SrtS le a m l) (h2:SrtS le m b l) (hc:s≤c) (hc':c<r) (hlo:a≤lo) (hhi:hi≤m) (hp:p<lo+b) (hp':m+hi≤p+1) (hb:b≤l.length) {x y:α} (hx:l[c]? =some x) (hy:l[p-c]? =some y) (hle:le x y):Thr le lo hi p (c+1) r l:=by
 obtain ⟨e1,e2,e3,e4,e5⟩:=h
 refine ⟨oM,oM,e3,fun k u v k1 k2 hu hv=>?_,e5⟩
 have a1:le u x:=h1.eqv le hr oM (show k≤c by omega) oM hu hx
 have a2:le y v:=h2.eqv le hr oM (show p-c≤p-k by omega) oM hy hv
 exact ht _ _ _ a1 (ht _ _ _ hle a2)
theorem C8 (hr:∀x,le x x) (ht:∀x y z,le x y→le y z→le x z) {a m b lo hi p s r c:Nat} {l:List α} (h:Thr le lo hi p s r l) (h1:SrtS le a m l) (h2:SrtS le m b l) (hc:s≤c) (hc':c<r) (hlo:a≤lo) (hhi:hi≤m) (hp:p<lo+b) (hp':m+hi≤p+1) (hb:b≤l.length) {x y:α} (hx:l[c]? =some x) (hy:l[p-c]? =some y) (hle:le y x):Thr le lo hi p s c l:=by
 obtain ⟨e1,e2,e3,e4,e5⟩:=h
 refine ⟨e1,oM,oM,e4,fun k u v k1 k2 hu hv=>?_⟩
 have a1:le x u:=h1.eqv le hr oM (show c≤k by omega) oM hx hu
 have a2:le v y:=h2.eqv le hr oM (show p-k≤p-c by omega) oM hv hy
 exact ht _ _ _ a2 (ht _ _ _ hle a1)
def loM (a m b:Nat):Nat:=if (a+b) / 2<m then (a+b) / 2+m-b else a
def hiM (a m b:Nat):Nat:=if (a+b) / 2<m then (a+b) / 2 else m
theorem ZfX {a m b:Nat} (h1:a<m) (h2:m<b):a≤loM a m b∧loM a m b≤hiM a m b∧hiM a m b≤m∧(a+b) / 2+m-1<loM a m b+b∧m+hiM a m b≤(a+b) / 2+m-1+1∧loM a m b≤m∧hiM a m b≤(a+b) / 2:=by
 unfold loM hiM;split<;>omega
theorem ZdD (hr:∀x,le x x) (ht:∀x y z,le x y→le y z→le x z) {a m b s:Nat} {l l1:List α} (ham:a<m) (hmb:m<b) (hb:b≤l.length) (h1:SrtS le a m l) (h2:SrtS le m b l) (h:Thr le (loM a m b) (hiM a m b) ((a+b) / 2+m-1) s s l)
 (hrot:∀k,l1[k]? =l[Td s m ((a+b) / 2+m-s) k]?):
 SrtS le a s l1∧SrtS le s ((a+b) / 2) l1∧SrtS le ((a+b) / 2) ((a+b) / 2+m-s) l1∧SrtS le ((a+b) / 2+m-s) b l1∧a≤s∧s≤(a+b) / 2∧(a+b) / 2≤(a+b) / 2+m-s∧(a+b) / 2+m-s≤b∧
 ∀p q x y,a≤p→p<(a+b) / 2→(a+b) / 2≤q→q<b→l1[p]? =some x→l1[q]? =some y→le x y:=by
 obtain ⟨o1,o2,o3,o4,o5,o6,o7⟩:=ZfX ham hmb
 obtain ⟨e1,e2,e3,e4,e5⟩:=h
 have hM1:a≤(a+b) / 2:=oM
 have hM2:(a+b) / 2<b:=oM
 have hend:loM a m b=a∨loM a m b=(a+b) / 2+m-b:=by unfold loM;split<;>simp
 have hhi:hiM a m b=m∨hiM a m b=(a+b) / 2:=by unfold hiM;split<;>simp
 have hlohi:(loM a m b=a∧hiM a m b=m)∨(loM a m b=(a+b) / 2+m-b∧hiM a m b=(a+b) / 2∧(a+b) / 2<m):=by unfold loM hiM;split<;>omega
 generalize hmid:(a+b) / 2=mid at*
 have hsm:s≤m:=oM
 have hsmid:s≤mid:=oM
 have hE1:mid+m-s≤b:=oM
 have g1:∀k,k<s→l1[k]? =l[k]? :=fun k hk=>by rw [hrot];congr 1;unfold Td;rw [UB oM]
 have g2:∀k,s≤k→k<mid→l1[k]? =l[m+(k-s)]? :=fun k hk hk'=>by rw [hrot];congr 1;unfold Td;rw [UA oM,UB oM]
 have g3:∀k,mid≤k→k<mid+m-s→l1[k]? =l[s+(k-mid)]? :=fun k hk hk'=>by rw [hrot];congr 1;unfold Td;rw [UA oM,UA oM];omega
 have g4:∀k,mid+m-s≤k→l1[k]? =l[k]? :=fun k hk=>by rw [hrot];congr 1;unfold Td;rw [UB oM]
 refine ⟨?_,?_,?_,?_,oM,oM,oM,hE1,?_⟩
 · exact (h1.sub le (Xc _) hsm).ext le fun k h3 h4=>g1 k h4
 · intro i j x y k1 k2 k3 hx hy;rw [g2 i k1 oM] at hx;rw [g2 j oM k3] at hy;exact h2 _ _ x y oM oM oM hx hy
 · intro i j x y k1 k2 k3 hx hy;rw [g3 i k1 oM] at hx;rw [g3 j oM k3] at hy;exact h1 _ _ x y oM oM oM hx hy
 · exact (h2.sub le oM (Xc _)).ext le fun k h3 h4=>g4 k h3
 · intro p q x y k1 k2 k3 k4 hx hy;rcases Xv p s with hp|hp
   · rw [g1 p hp] at hx;rcases Xv q (mid+m-s) with hq|hq
     · rw [g3 q k3 hq] at hy;exact h1 _ _ x y k1 oM oM hx hy
     · rw [g4 q hq] at hy;have hlo:loM a m b<s:=by
        rcases Xv (loM a m b) s with h6|h6
        · exact h6
        · omega
       obtain ⟨u,hu⟩:∃u,l[s-1]? =some u:=⟨_,Xp oM⟩;obtain ⟨v,hv⟩:∃v,l[mid+m-s]? =some v:=⟨_,Xp oM⟩;have a1:le x u:=h1.eqv le hr k1 (show p≤s-1 by omega) oM hx hu;have a2:le u v:=e4 (s-1) u v oM oM hu (by rw [←hv];congr 1;omega);have a3:le v y:=h2.eqv le hr oM hq k4 hv hy;exact ht _ _ _ a1 (ht _ _ _ a2 a3)
   · rw [g2 p hp k2] at hx;rcases Xv q (mid+m-s) with hq|hq
     · rw [g3 q k3 hq] at hy;have hhi2:s<hiM a m b:=by
        rcases Xv s (hiM a m b) with h6|h6
        · exact h6
        · omega
       obtain ⟨u,hu⟩:∃u,l[mid+m-s-1]? =some u:=⟨_,Xp oM⟩;obtain ⟨v,hv⟩:∃v,l[s]? =some v:=⟨_,Xp oM⟩;have a1:le x u:=h2.eqv le hr oM (show m+(p-s)≤mid+m-s-1 by omega) oM hx hu;have a2:le u v:=e5 s v u (Xc _) hhi2 hv (by rw [←hu];congr 1;omega);have a3:le v y:=h1.eqv le hr oM (show s≤s+(q-mid) by omega) oM hv hy;exact ht _ _ _ a1 (ht _ _ _ a2 a3)
     · rw [g4 q hq] at hy;exact h2 _ _ x y oM oM k4 hx hy
theorem Te {a mid b:Nat} {l1 l2 l3:List α} (h1:a≤mid) (h2:mid≤b) (hb:b≤l1.length) (hc:∀p q x y,a≤p→p<mid→mid≤q→q<b→l1[p]? =some x→l1[q]? =some y→le x y) (s1:Sw a mid l1 l2) (s2:Sw mid b l2 l3) (g1:SrtS le a mid l2) (g2:SrtS le mid b l3):SrtS le a b l3:=by
 intro i j x y k1 k2 k3 hx hy
 rcases Xv j mid with hj|hj
 · rw [s2.out (.inl oM)] at hx hy;exact g1 i j x y k1 k2 hj hx hy
 · rcases Xv i mid with hi|hi
   · rw [s2.out (.inl hi)] at hx;obtain ⟨p,p1,p2,p3⟩:=s1.mem k1 hi hx;obtain ⟨q,q1,q2,q3⟩:=s2.mem hj k3 hy;rw [s1.out (.inr q1)] at q3;exact hc p q x y p1 p2 q1 q2 p3 q3
   · exact g2 i j x y hi k2 k3 hx hy
end
end
end Go.Proofs.YtmkojdfiadbeeaaGreat
