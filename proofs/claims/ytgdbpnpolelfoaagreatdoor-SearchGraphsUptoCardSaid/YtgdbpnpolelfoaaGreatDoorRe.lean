/- What the law reaches. -/
import Derived.Test.YtgdbpnpolelfoaaGreatDoorRd
import Derived.Test.YtgdbpnpolelfoaaGreatDoorWe
set_option linter.all false
namespace Go.AJ
open Go
set_option maxRecDepth 100000
def bls (l:List Bool):List V:=l.map fun b=> .bool b
theorem Fa (l:List Bool):(bls l).length=l.length:=by simp [bls]
theorem Ln (l:List Bool) (i:Nat) (b:Bool):(bls l).set i (.bool b)=bls (l.set i b):=by simp [bls,List.map_set]
section
variable {E:Env} {L n N:Nat} {h:Hp} {kc:KC} {t:T V} {d:Dc} {k:KE} {fi:FI} {c:KV} {C:As}
theorem GC {l:List Bool} {i:Nat} (hi:i<l.length):ldB (.cells (bls l)) i h c=c (.bool (l.getD i false)) h:=BS (by simp [bls,List.getD_eq_getElem?_getD,List.getElem?_eq_getElem hi])
theorem tm {z:List V}:oMk t z [] h c=c (.agg z) h:=rfl
theorem QJ (hE:Fns E) (hF:Hns E) (hn2:244≤n) (hLL:102≤L) (hL9:L≤9223372036854775800) {g:Gr} (hb:g.bulk≤L)
  (hk:∀b h1,Ae h h1→kc (.ret (.bool b)) none h1=true):
  call E (L+3) (n+7) (.fn 7) [.agg g.cells] none h kc=true:=by
 have hbb:g.states.length+BH g.states+g.init.length+2*g.edges.length≤L:=hb;have K0:Ae h (h.upd (nxt h) (.cells g.cells)).bump:=kO;have e1:∀(t:T V) (h:Hp) (c:KV),oMk t zeroS [] h c=c (.agg zeroS) h:=fun _ _ _=>rfl;simp only[Gr.cells] at K0⊢;rw[Ag hF.f1007,wz,rY,aK,aJ];by_cases c1:300<g.states.length
 ·simp -implicitDefEqProofs (disch:=exact tD) only[↓sD,sB,↓reduceIte,Nat.reduceEqDiff,reduceCtorEq,Nat.reduceLT,Nat.reduceMul,Nat.reduceAdd,Aj,c1,decide_true];exact hk _ _ K0
 ·by_cases c2:400<g.init.length
  ·simp -implicitDefEqProofs (disch:=exact tD) only[↓sD,sB,↓reduceIte,Nat.reduceEqDiff,reduceCtorEq,Nat.reduceLT,Nat.reduceMul,Nat.reduceAdd,Aj,c1,c2,decide_true,decide_false];exact hk _ _ K0
  ·by_cases c3:3000<g.edges.length
   ·simp -implicitDefEqProofs (disch:=exact tD) only[↓sD,sB,↓reduceIte,Nat.reduceEqDiff,reduceCtorEq,Nat.reduceLT,Nat.reduceMul,Nat.reduceAdd,Aj,c1,c2,c3,decide_true,decide_false];exact hk _ _ K0
   ·simp -implicitDefEqProofs (disch:=first|assumption|((try simp only[dB]);first|done|omega)) only[↓sD,sB,↓reduceIte,Nat.reduceEqDiff,reduceCtorEq,Nat.reduceLT,Nat.reduceMul,Nat.reduceAdd,Aj,c1,c2,c3,decide_true,decide_false,tm];change call E (L+3) (n+6) (.fn 45) [.agg zeroS,slR g.sb g.sc (BZ g.states) g.states.length] none _ _=true;refine zZ hE hn2 hLL hL9 tO tO (fun b h1 K1=>?_);refine AV ?_;exact hk _ h1 (K0.trans K1)
theorem BW (hE:Fns E) (hF:Hns E) {a b:Int}:call E (L+1) (n+2) (.fn 66) [.int .i64 a,.int .i64 b] none h kc=kc (.ret (.bool (ltI a b))) none h:=by rw[Ag hF.f1066,vP,rv,X2,X1];simp -implicitDefEqProofs (disch:=exact tD) only[↓sD,sB,↓reduceIte,Nat.reduceEqDiff,reduceCtorEq,Nat.reduceLT,Nat.reduceMul,Nat.reduceAdd,pe hE]
end
def qb (E:Env):Prop:=∀{L n:Nat} {h:Hp} {kc:KC},call E L (n+1) (.fn 6) [] none h kc=kc (.ret (.bool true)) none h
end Go.AJ
