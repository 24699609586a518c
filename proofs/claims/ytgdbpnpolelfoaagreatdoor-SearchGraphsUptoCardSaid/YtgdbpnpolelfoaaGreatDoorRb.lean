/- The reference: what is formed. -/
import Derived.Test.YtgdbpnpolelfoaaGreatDoorRa
import Derived.Test.YtgdbpnpolelfoaaGreatDoorWb
import Derived.Test.YtgdbpnpolelfoaaGreatDoorWc
set_option linter.all false
namespace Go.AJ
open Go
set_option maxRecDepth 100000
section
variable {E:Env} {L n:Nat} {h:Hp} {kc:KC} {t:T V} {d:Dc} {k:KE} {fi:FI} {c:KV} {C:As}
theorem gH {s:List Nat} (hs:s.length≤9223372036854775807):∀(r:List Nat) (i M:Nat) (t:T V),s.drop i=r→i+r.length=s.length→r.length+1≤M→tg 0 t=.str s→tg 3 t=vI i→
  (r.any O0=false→∀t1,k (.exit 0) t1 d h=true)→(r.any O0=true→∀t1,tg 2 t1=.bool false→k .ret t1 d h=true)→
  iter (exec C L fi Lq) M t d h k=true:=by
 intro r;induction r with
 |nil=>intro i M t hr hi hM g0 g3 hk hb;obtain ⟨M,rfl⟩:=pM M;have hi':(i<s.length)=False:=eq_false (by simp at hi;omega);rw[Ab,Lq];refine Tst (J3 g0 g3 hi') ?_;exact hk rfl _
 |cons x r ih=>
  intro i M t hr hi hM g0 g3 hk hb;obtain ⟨M,rfl⟩:=pM M;simp only[List.length_cons] at hi hM;have hi':(i<s.length)=True:=eT;have e1:=fun c h=>D4 (c:=c) (h:=h) (ik:=.i64) (Ak hr);simp only[List.any_cons] at hk hb;rw[Ab,Lq];by_cases h1:x<32
  ·refine Tst (J5 g0 g3 hi' e1 h1) ?_;refine hb (by simp [O0,h1]) _ Af
  ·by_cases h2:126<x
   ·refine Tst (J6 g0 g3 hi' e1 h1 h2) ?_;refine hb (by simp [O0,h2]) _ Af
   ·refine Tst (J6 g0 g3 hi' e1 h1 h2) ?_;have hx0:O0 x=false:=by simp [O0,h1,h2]
    rw[hx0,Bool.false_or] at hk hb;refine ih (i+1) _ _ (Ai hr) tO tO ?_ ?_ hk hb
    ·exact Ssc g0
    ·exact Af
theorem js (hF:Hns E) {s:List Nat} (hs:s.length≤9223372036854775807) (hL:s.length≤L) (hk:kc (.ret (.bool (CU s))) none h=true):
  call E (L+1) (n+1) (.fn 311) [.str s] none h kc=true:=by
 rw[Ag hF.f1311,vd,qD,Vp,Vo,Vn,Vm];by_cases h2:200<s.length
 ·have e:CU s=false:=by rw[CU,decide_eq_false (by omega:¬s.length≤200),Bool.and_false]
  rw[e] at hk;refine Tst h2 ?_;exact hk
 have e:CU s= !s.any O0:=by rw[CU,decide_eq_true (by omega:s.length≤200),Bool.and_true]
 rw[e] at hk;refine Tst (J2 h2 @Ad) ?_;refine gH hs s 0 _ _ rfl tO tO ?_ ?_ (fun hb t1=>?_) (fun hb t1 g2=>?_)
 ·exact Af
 ·exact Af
 ·rw[hb] at hk;refine AV ?_;exact hk
 ·rw[hb] at hk;refine Sst g2 ?_;exact hk
def BA (i x:Nat):Bool:=Bo x||(((!decide (x<48)&& !decide (57<x))||decide (x=95))&& !decide (i=0))
def Fh:Nat→List Nat→Bool
 |_,[]=>true
 |i,x::r=>BA i x&&Fh (i+1) r
theorem H7:∀(r:List Nat) (i:Nat),Fh (i+1) r=r.all CO
 | [],_=>rfl
 |x::r,i=>by rw[Fh,H7 r (i+1),List.all_cons];congr 1;unfold BA CO;rw[decide_eq_false (by omega:¬i+1=0)];cases Bo x<;>simp
theorem Kx {x:Nat} (h:Bo x=true):CO x=true:=by unfold CO;rw[h];rfl
theorem Oh (x:Nat) (r:List Nat):Fh 0 (x::r)=(Bo x&&(x::r).all CO):=by
 rw[Fh,H7,List.all_cons,BA];cases h:Bo x
 ·simp
 ·rw[Kx h];rfl
theorem gG {s:List Nat} (hs:s.length≤9223372036854775807):∀(r:List Nat) (i M:Nat) (t:T V),s.drop i=r→i+r.length=s.length→r.length+1≤M→tg 0 t=.str s→tg 3 t=vI i→
  (Fh i r=true→∀t1,k (.exit 0) t1 d h=true)→(Fh i r=false→∀t1,tg 2 t1=.bool false→k .ret t1 d h=true)→
  iter (exec C L fi II) M t d h k=true:=by
 intro r;induction r with
 |nil=>intro i M t hr hi hM g0 g3 hk hb;obtain ⟨M,rfl⟩:=pM M;have hi':(i<s.length)=False:=eq_false (by simp at hi;omega);rw[Ab,II];refine Tst (J3 g0 g3 hi') ?_;exact hk rfl _
 |cons x r ih=>
  intro i M t hr hi hM g0 g3 hk hb;obtain ⟨M,rfl⟩:=pM M;simp only[List.length_cons] at hi hM;have hi':(i<s.length)=True:=eT;have e1:=fun c h=>D4 (c:=c) (h:=h) (ik:=.i64) (Ak hr);rw[Fh] at hk hb;rw[Ab,II];have fin:BA i x=true→∀tt:T V,tg 0 tt=.str s→tg 3 tt=vI (i+1)→iter (exec C L fi II) M tt d h k=true:=fun ha tt u0 u3=>by rw[ha,Bool.true_and] at hk hb;exact ih (i+1) _ _ (Ai hr) tO tO u0 u3 hk hb
  have bad:BA i x=false→(BA i x&&Fh (i+1) r)=false:=fun ha=>by rw[ha];rfl
  have cases9:x<48∨(48≤x∧x≤57)∨(57<x∧x<65)∨(65≤x∧x≤90)∨(90<x∧x<95)∨x=95∨x=96∨(97≤x∧x≤122)∨122<x:=tO;rcases cases9 with q|q|q|q|q|q|q|q|q
  ·have a1:(x<65)=True:=eT;have a2:(90<x)=False:=eF;have a3:(x<97)=True:=eT;have a4:(122<x)=False:=eF;have a5:(x<48)=True:=eT;have a6:(57<x)=False:=eF;have a7:(x=95)=False:=eF;have ha:BA i x=false:=by simp [BA,Bo,a1,a2,a3,a4,a5,a6,a7]
   refine Tst (J11 g0 g3 hi' e1 a1 a2 a3 a4 a5 a6 a7) ?_;exact hb (bad ha) _ Af
  ·have a1:(x<65)=True:=eT;have a2:(90<x)=False:=eF;have a3:(x<97)=True:=eT;have a4:(122<x)=False:=eF;have a5:(x<48)=False:=eF;have a6:(57<x)=False:=eF;have a7:(x=95)=False:=eF;by_cases i0:i=0
   ·have i1:decide (i=0)=true:=decide_eq_true i0;have ha:BA i x=false:=by simp [BA,Bo,a1,a2,a3,a4,a5,a6,a7,i0]
    refine Tst (J12 g0 g3 hi' e1 a1 a2 a3 a4 a5 a6 a7 i1) ?_;refine hb (bad ha) _ ?_;exact Af
   ·have i1:decide (i=0)=false:=decide_eq_false i0;have ha:BA i x=true:=by simp [BA,Bo,a1,a2,a3,a4,a5,a6,a7,i0]
    refine Tst (J12 g0 g3 hi' e1 a1 a2 a3 a4 a5 a6 a7 i1) ?_;refine fin ha _ ?_ ?_<;>simp -implicitDefEqProofs (disch:=exact tD) only[↓sD,sB,↓reduceIte,Nat.reduceEqDiff,reduceCtorEq,Nat.reduceLT,Nat.reduceMul,Nat.reduceAdd,g0]
  ·have a1:(x<65)=True:=eT;have a2:(90<x)=False:=eF;have a3:(x<97)=True:=eT;have a4:(122<x)=False:=eF;have a5:(x<48)=False:=eF;have a6:(57<x)=True:=eT;have a7:(x=95)=False:=eF;have ha:BA i x=false:=by simp [BA,Bo,a1,a2,a3,a4,a5,a6,a7]
   refine Tst (J11 g0 g3 hi' e1 a1 a2 a3 a4 a5 a6 a7) ?_;exact hb (bad ha) _ Af
  ·have a1:(x<65)=False:=eF;have a2:(90<x)=False:=eF;have a3:(x<97)=True:=eT;have a4:(122<x)=False:=eF;have a5:(x<48)=False:=eF;have a6:(57<x)=True:=eT;have a7:(x=95)=False:=eF;have ha:BA i x=true:=by simp [BA,Bo,a1,a2,a3,a4,a5,a6,a7]
   refine Tst (J11 g0 g3 hi' e1 a1 a2 a3 a4 a5 a6 a7) ?_;refine fin ha _ ?_ ?_<;>simp -implicitDefEqProofs (disch:=exact tD) only[↓sD,sB,↓reduceIte,Nat.reduceEqDiff,reduceCtorEq,Nat.reduceLT,Nat.reduceMul,Nat.reduceAdd,g0]
  ·have a1:(x<65)=False:=eF;have a2:(90<x)=True:=eT;have a3:(x<97)=True:=eT;have a4:(122<x)=False:=eF;have a5:(x<48)=False:=eF;have a6:(57<x)=True:=eT;have a7:(x=95)=False:=eF;have ha:BA i x=false:=by simp [BA,Bo,a1,a2,a3,a4,a5,a6,a7]
   refine Tst (J11 g0 g3 hi' e1 a1 a2 a3 a4 a5 a6 a7) ?_;exact hb (bad ha) _ Af
  ·have a1:(x<65)=False:=eF;have a2:(90<x)=True:=eT;have a3:(x<97)=True:=eT;have a4:(122<x)=False:=eF;have a5:(x<48)=False:=eF;have a6:(57<x)=True:=eT;have a7:(x=95)=True:=eT;by_cases i0:i=0
   ·have i1:decide (i=0)=true:=decide_eq_true i0;have ha:BA i x=false:=by simp [BA,Bo,a1,a2,a3,a4,a5,a6,a7,i0]
    refine Tst (J12 g0 g3 hi' e1 a1 a2 a3 a4 a5 a6 a7 i1) ?_;refine hb (bad ha) _ ?_;exact Af
   ·have i1:decide (i=0)=false:=decide_eq_false i0;have ha:BA i x=true:=by simp [BA,Bo,a1,a2,a3,a4,a5,a6,a7,i0]
    refine Tst (J12 g0 g3 hi' e1 a1 a2 a3 a4 a5 a6 a7 i1) ?_;refine fin ha _ ?_ ?_<;>simp -implicitDefEqProofs (disch:=exact tD) only[↓sD,sB,↓reduceIte,Nat.reduceEqDiff,reduceCtorEq,Nat.reduceLT,Nat.reduceMul,Nat.reduceAdd,g0]
  ·have a1:(x<65)=False:=eF;have a2:(90<x)=True:=eT;have a3:(x<97)=True:=eT;have a4:(122<x)=False:=eF;have a5:(x<48)=False:=eF;have a6:(57<x)=True:=eT;have a7:(x=95)=False:=eF;have ha:BA i x=false:=by simp [BA,Bo,a1,a2,a3,a4,a5,a6,a7]
   refine Tst (J11 g0 g3 hi' e1 a1 a2 a3 a4 a5 a6 a7) ?_;exact hb (bad ha) _ Af
  ·have a1:(x<65)=False:=eF;have a2:(90<x)=True:=eT;have a3:(x<97)=False:=eF;have a4:(122<x)=False:=eF;have a5:(x<48)=False:=eF;have a6:(57<x)=True:=eT;have a7:(x=95)=False:=eF;have ha:BA i x=true:=by simp [BA,Bo,a1,a2,a3,a4,a5,a6,a7]
   refine Tst (J11 g0 g3 hi' e1 a1 a2 a3 a4 a5 a6 a7) ?_;refine fin ha _ ?_ ?_<;>simp -implicitDefEqProofs (disch:=exact tD) only[↓sD,sB,↓reduceIte,Nat.reduceEqDiff,reduceCtorEq,Nat.reduceLT,Nat.reduceMul,Nat.reduceAdd,g0]
  ·have a1:(x<65)=False:=eF;have a2:(90<x)=True:=eT;have a3:(x<97)=False:=eF;have a4:(122<x)=True:=eT;have a5:(x<48)=False:=eF;have a6:(57<x)=True:=eT;have a7:(x=95)=False:=eF;have ha:BA i x=false:=by simp [BA,Bo,a1,a2,a3,a4,a5,a6,a7]
   refine Tst (J11 g0 g3 hi' e1 a1 a2 a3 a4 a5 a6 a7) ?_;exact hb (bad ha) _ Af
theorem jr (hF:Hns E) {s:List Nat} (hs:s.length≤9223372036854775807) (hL:s.length≤L) (hk:kc (.ret (.bool (BF s))) none h=true):
  call E (L+1) (n+1) (.fn 312) [.str s] none h kc=true:=by
 rw[Ag hF.f1312,vc,qC,Vl,Vk,Vj,Vi];cases s with
 |nil=>simp -implicitDefEqProofs (disch:=exact tD) only[↓sD,sB,↓reduceIte,Nat.reduceEqDiff,reduceCtorEq,Nat.reduceLT,Nat.reduceMul,Nat.reduceAdd,Aj,List.length_nil,decide_true];exact hk
 |cons x r=>
  have h0:((x::r).length<1)=False:=eq_false (by simp);by_cases h1:40<(x::r).length
  ·have e:BF (x::r)=false:=by simp only[BF,h1,decide_true,Bool.not_true,Bool.false_and]
   rw[e] at hk;simp -implicitDefEqProofs (disch:=exact tD) only[↓sD,sB,↓reduceIte,Nat.reduceEqDiff,reduceCtorEq,Nat.reduceLT,Nat.reduceMul,Nat.reduceAdd,Aj,h0,h1,decide_true,decide_false];exact hk
  ·cases h3:CR (x::r) [84,82,85,69]
   ·cases h4:CR (x::r) [70,65,76,83,69]
    ·have e:BF (x::r)=Fh 0 (x::r):=by simp only[BF,h1,h3,h4,decide_false,Bool.not_false,Bool.true_and,Bool.and_true,Oh]
     rw[e] at hk;refine Tst (J5 h0 h1 h3 h4 @Ad) ?_;refine gG hs (x::r) 0 _ _ rfl tO tO ?_ ?_ (fun hb t1=>?_) (fun hb t1 g2=>?_)
     ·exact Af
     ·exact Af
     ·rw[hb] at hk;refine AV ?_;exact hk
     ·rw[hb] at hk;refine Sst g2 ?_;exact hk
    ·have e:BF (x::r)=false:=by simp only[BF,h4,Bool.not_true,Bool.and_false,Bool.false_and]
     rw[e] at hk;simp -implicitDefEqProofs (disch:=exact tD) only[↓sD,sB,↓reduceIte,Nat.reduceEqDiff,reduceCtorEq,Nat.reduceLT,Nat.reduceMul,Nat.reduceAdd,Aj,h0,h1,decide_false,h3,h4];exact hk
   ·have e:BF (x::r)=false:=by simp only[BF,h3,Bool.not_true,Bool.and_false,Bool.false_and]
    rw[e] at hk;simp -implicitDefEqProofs (disch:=exact tD) only[↓sD,sB,↓reduceIte,Nat.reduceEqDiff,reduceCtorEq,Nat.reduceLT,Nat.reduceMul,Nat.reduceAdd,Aj,h0,h1,decide_false,h3];exact hk
theorem E9 (hF:Hns E) {ng xb:Bool} {cb:Nat} {a:List Int} (hk:∀h1,Ae h h1→kc (.ret (.bool (!(ng||decide (0<a.length))))) none h1=true):
  call E (L+1) (n+1) (.fn 309) [.agg [.bool ng,slR xb cb (AH a) a.length]] none h kc=true:=by
 rw[Ag hF.f1309,vf,qF,Vw,Vv];have K1:Ae h (h.upd (nxt h) (.cells [.bool ng,slR xb cb (AH a) a.length])).bump:=kO;have hk1:=hk _ K1;cases ng
 ·refine Hj ?_;have e:(!(false||decide (0<a.length)))=decide (a.length=0):=by by_cases h0:a.length=0<;>simp [h0]<;>omega
  rw[e] at hk1;exact hk1
 ·refine AV ?_;exact hk1
theorem OZ (x:Int):GR x=(ltI x (.ofNat 0)||ltI (.ofNat 999999999) x):=by unfold GR;rw[Cw,Cw,Cw];simp only[Int.ofNat_eq_natCast];by_cases h1:x<0<;>by_cases h2:x<1000000000<;>by_cases h3:999999999<x<;>simp [h1,h2,h3]<;>omega
theorem Qc {b1:K} {ng xb:Bool} {cb:Nat} {a:List Int} (m1:blk h b1=.cells [.bool ng,slR xb cb (AH a) a.length]) (hs:a.length≤9223372036854775807):∀(r:List Int) (i M:Nat) (t:T V),a.drop i=r→i+r.length=a.length→r.length+1≤M→tg 1 t=.ptr b1 0→tg 3 t=vI a.length→tg 4 t=vI i→
  (r.any GR=false→∀t1,k (.exit 0) t1 d h=true)→(r.any GR=true→∀t1,tg 2 t1=.bool false→k .ret t1 d h=true)→
  iter (exec C L fi Lr) M t d h k=true:=by
 intro r;induction r with
 |nil=>intro i M t hr hi hM g1 g3 g4 hk hb;obtain ⟨M,rfl⟩:=pM M;have hi':(i<a.length)=False:=eq_false (by simp at hi;omega);rw[Ab,Lr];refine Tst (J3 g3 g4 hi') ?_;exact hk rfl _
 |cons x r ih=>
  intro i M t hr hi hM g1 g3 g4 hk hb;obtain ⟨M,rfl⟩:=pM M;simp only[List.length_cons] at hi hM;have hi':(i<a.length)=True:=eT;have hx:a.getD i 0=x:=by rw[List.getD_eq_getElem?_getD,Ak hr];rfl
  have e1:=fun c h=>AM (c:=c) (h:=h) (Bp (l:=a) (i:=i) tO);simp only[hx] at e1;simp only[List.any_cons] at hk hb;rw[Ab,Lr];cases h1:ltI x (.ofNat 0)
  ·cases h2:ltI (.ofNat 999999999) x
   ·have hx0:GR x=false:=by rw[OZ,h1,h2];rfl
    rw[hx0,Bool.false_or] at hk hb;refine Tst (J8 g1 g3 g4 hi' m1 e1 h1 h2) ?_;refine ih (i+1) _ _ (Ai hr) tO tO ?_ ?_ ?_ hk hb
    ·exact Ssc g1
    ·exact Ssc g3
    ·exact Af
   ·refine Tst (J8 g1 g3 g4 hi' m1 e1 h1 h2) ?_;refine hb (by rw[OZ,h1,h2];rfl) _ Af
  ·refine Tst (J7 g1 g3 g4 hi' m1 e1 h1) ?_;refine hb (by rw[OZ,h1];rfl) _ Af
theorem jt (hF:Hns E) {ng xb:Bool} {cb:Nat} {a:List Int} (hL:a.length≤L) (hs:a.length≤9223372036854775807) (hk:∀h1,Ae h h1→kc (.ret (.bool (Dj ng a))) none h1=true):
  call E (L+1) (n+1) (.fn 310) [.agg [.bool ng,slR xb cb (AH a) a.length]] none h kc=true:=by
 rw[Ag hF.f1310,ve,qE,Vu,Vt,Vs,Vr,Vq];have K1:Ae h (h.upd (nxt h) (.cells [.bool ng,slR xb cb (AH a) a.length])).bump:=kO;have hk1:=hk _ K1;by_cases c1:40<a.length
 ·have e:Dj ng a=false:=by simp only[Dj,c1,decide_true,Bool.not_true,Bool.false_and]
  rw[e] at hk1;simp -implicitDefEqProofs (disch:=exact tD) only[↓sD,sB,↓reduceIte,Nat.reduceEqDiff,reduceCtorEq,Nat.reduceLT,Nat.reduceMul,Nat.reduceAdd,Aj,c1,decide_true];exact hk1
 by_cases c2:a.length=0
 ·cases ng
  ·have ea:a= []:=List.length_eq_zero_iff.1 c2;subst ea;have hk2:kc (.ret (.bool true)) none (h.upd (nxt h) (.cells [.bool false,slR xb cb (AH []) 0])).bump=true:=hk1;simp -implicitDefEqProofs (disch:=exact tD) only[↓sD,sB,↓reduceIte,Nat.reduceEqDiff,reduceCtorEq,Nat.reduceLT,Nat.reduceMul,Nat.reduceAdd,Aj,AB,List.length_nil,Nat.not_lt_zero,decide_false,decide_true,Ad];refine Qc (b1:=nxt h) (ng:=false) (xb:=xb) (cb:=cb) (a:= []) (by simp -implicitDefEqProofs (disch:=exact tD) only[↓sD,sB,↓reduceIte,Nat.reduceEqDiff,reduceCtorEq,Nat.reduceLT,Nat.reduceMul,Nat.reduceAdd,List.length_nil]) (by simp) [] 0 _ _ rfl rfl (by simp) ?_ ?_ ?_ (fun _ t1=>?_) (fun hb=>by cases hb)
   ·exact Af
   ·simp -implicitDefEqProofs (disch:=exact tD) only[↓sD,sB,↓reduceIte,Nat.reduceEqDiff,reduceCtorEq,Nat.reduceLT,Nat.reduceMul,Nat.reduceAdd,List.length_nil]
   ·exact Af
   ·refine AV ?_;exact hk2
  ·have e:Dj true a=false:=by simp only[Dj,c2,decide_true,Bool.and_self,Bool.not_true,Bool.and_false,Bool.false_and]
   rw[e] at hk1;simp -implicitDefEqProofs (disch:=exact tD) only[↓sD,sB,↓reduceIte,Nat.reduceEqDiff,reduceCtorEq,Nat.reduceLT,Nat.reduceMul,Nat.reduceAdd,Aj,AB,c1,c2,decide_true,decide_false];rw[c2] at hk1;exact hk1
 ·have c3:(0<a.length)=True:=eT;have e1:=fun c h=>AM (c:=c) (h:=h) (Bp (l:=a) (i:=a.length-1) tO);have e2:Am .i64 (Int.sub (.ofNat a.length) (.ofNat 1))=.ofNat (a.length-1):=by
   obtain ⟨m,hm⟩:∃m,a.length=m+1:=⟨a.length-1,by omega⟩
   rw[hm];exact Bi (i:=m+1) tO
  cases c4:Aq (a.getD (a.length-1) 0) (.ofNat 0)
  ·have e:Dj ng a= !a.any GR:=by simp only[Dj,c1,c2,c3,c4,decide_true,decide_false,Bool.not_false,Bool.true_and,Bool.false_and,Bool.and_false]
   rw[e] at hk1;simp -implicitDefEqProofs (disch:=exact tD) only[↓sD,sB,↓reduceIte,Nat.reduceEqDiff,reduceCtorEq,Nat.reduceLT,Nat.reduceMul,Nat.reduceAdd,Aj,AB,c1,c2,c3,c4,decide_true,decide_false,e2,AR,e1,Ad];refine Qc (b1:=nxt h) (ng:=ng) (xb:=xb) (cb:=cb) (a:=a) Af hs a 0 _ _ rfl tO tO ?_ ?_ ?_ (fun hb t1=>?_) (fun hb t1 g2=>?_)
   ·exact Af
   ·exact Af
   ·exact Af
   ·rw[hb] at hk1;refine AV ?_;exact hk1
   ·rw[hb] at hk1;refine Sst g2 ?_;exact hk1
  ·have e:Dj ng a=false:=by simp only[Dj,c3,c4,decide_true,Bool.and_self,Bool.not_true,Bool.and_false,Bool.false_and]
   rw[e] at hk1;simp -implicitDefEqProofs (disch:=exact tD) only[↓sD,sB,↓reduceIte,Nat.reduceEqDiff,reduceCtorEq,Nat.reduceLT,Nat.reduceMul,Nat.reduceAdd,Aj,AB,c1,c2,c3,c4,decide_true,decide_false,e2,AR,e1];exact hk1
end
end Go.AJ
namespace Go.AJ
open Go
set_option maxRecDepth 100000
mutual
def Va.cnt:Va→Nat
 |.mk _ _ _ _ _ _ _ _ _ l _ _ m=>1+Ip l+Ip m
def Ip:List Va→Nat
 | []=>0
 |x::l=>x.cnt+Ip l
end
mutual
theorem Va.cnt_le:∀x:Va,x.cnt≤x.bulk
 |.mk _ _ _ _ _ _ _ _ _ l _ _ m=>by have h1:=Io l;have h2:=Io m;rw[Va.cnt,Va.bulk];omega
theorem Io:∀l:List Va,Ip l≤Av l
 | []=>Nat.le_refl 0
 |x::l=>by have h1:=Va.cnt_le x;have h2:=Io l;rw[Ip,Av];omega
end
mutual
theorem Va.dep_le:∀x:Va,x.dep≤x.bulk
 |.mk _ _ _ _ _ _ _ _ _ l _ _ m=>by have h1:=GK l;have h2:=GK m;rw[Va.dep,Va.bulk];omega
theorem GK:∀l:List Va,Bq l≤Av l
 | []=>Nat.le_refl 0
 |x::l=>by have h1:=Va.dep_le x;have h2:=GK l;rw[Bq,Av];omega
end
section
variable {E:Env} {L n:Nat} {h:Hp} {kc:KC} {t:T V} {d:Dc} {k:KE} {fi:FI} {c:KV} {C:As}
theorem Oi {a b:Nat} {f:V→Bool}:Oa true [vI b] (vI a) f=f (vI (max a b)):=by
 rw[bJ,Aj];by_cases h:a<b
 ·rw[decide_eq_true h,if_pos rfl,Nat.max_eq_right tO]
 ·rw[decide_eq_false h,if_neg (by simp),Nat.max_eq_left tO]
theorem zx {a b:Nat}:(if decide (a<b)=true then Int.ofNat b else Int.ofNat a)=Int.ofNat (max a b):=by
 by_cases h:a<b
 ·rw[decide_eq_true h,if_pos rfl,Nat.max_eq_right tO]
 ·rw[decide_eq_false h,if_neg (by simp),Nat.max_eq_left tO]
def wP (E:Env) (L n D:Nat):Prop:=∀(x:Va) (h:Hp) (kc:KC),x.dep≤D→x.bulk≤L→(∀h1,Ae h h1→kc (.ret (.tup [vI x.cnt,vI x.dep])) none h1=true)→
 call E (L+1) n (.fn 152) [.agg x.cells] none h kc=true
theorem RZ {D:Nat} (hS:wP E L n D) (hL9:L≤9223372036854775807) {b1:K} {v0 v1 v2 v3 v4 v6:V} {lb:Bool} {lc:Nat} {l:List Va} {h0:Hp} (nb:b1.num<(nxt h0).num) (m1:blk h0 b1=.cells [v0,v1,v2,v3,v4,slR lb lc (AC l) l.length,v6]) (hl:Av l≤L):
  ∀(r:List Va) (i M:Nat) (t:T V) (h:Hp) (a dp:Nat),l.drop i=r→i+r.length=l.length→r.length+1≤M→Bq r≤D→Av r≤L→a+Ip r≤9223372036854775807→Ae h0 h→
  tg 1 t=.ptr b1 0→tg 4 t=vI a→tg 5 t=vI dp→tg 6 t=vI i→
  (∀t1 h1,Ae h0 h1→tg 1 t1=.ptr b1 0→tg 4 t1=vI (a+Ip r)→tg 5 t1=vI (max dp (Bq r))→k (.exit 0) t1 d h1=true)→
  iter (exec (call E (L+1) n) (L+1) fi Ly) M t d h k=true:=by
 intro r;have hll:=AL l;induction r with
 |nil=>intro i M t h a dp hr hi hM hd hb ha K0 g1 g4 g5 g6 hk;obtain ⟨M,rfl⟩:=pM M;have mb:blk h b1=_:=(K0.old b1 nb).trans m1;have hi':(i<l.length)=False:=eq_false (by simp at hi;omega);rw[Ab,Ly];refine Tst (J4 g1 g6 mb hi') ?_;refine hk _ _ K0 ?_ ?_ ?_<;>simp -implicitDefEqProofs (disch:=exact tD) only[↓sD,sB,↓reduceIte,Nat.reduceEqDiff,reduceCtorEq,Nat.reduceLT,Nat.reduceMul,Nat.reduceAdd,g1,g4,g5,Ip,Bq,Nat.add_zero,Nat.max_zero]
 |cons x r ih=>
  intro i M t h a dp hr hi hM hd hb ha K0 g1 g4 g5 g6 hk;obtain ⟨M,rfl⟩:=pM M;simp only[List.length_cons] at hi hM;simp only[Bq,Av,Ip] at hd hb ha;have mb:blk h b1=_:=(K0.old b1 nb).trans m1;have hi':(i<l.length)=True:=eT;have e1:=fun c h=>Dr (c:=c) (h:=h) (Ak hr);rw[Ab,Ly];refine Tst (J5 g1 g6 mb hi' e1) ?_;refine hS x _ _ tO tO (fun h1 K1=>?_);refine Sst (J4 g4 g5 g6 @Oi) ?_;refine ih (i+1) _ _ _ (a+x.cnt) (max dp x.dep) (Ai hr) tO tO tO tO tO (K0.trans K1) ?_ ?_ ?_ ?_ (fun t1 h1 K2 u1 u4 u5=>hk t1 h1 K2 u1 ?_ ?_)
  ·exact Ssc g1
  ·exact Af
  ·exact Ssc @zx
  ·exact Af
  ·rw[u4,Ip,Nat.add_assoc]
  ·rw[u5,Bq,Nat.max_assoc]
theorem RY {D:Nat} (hS:wP E L n D) (hL9:L≤9223372036854775807) {b1:K} {v0 v1 v2 v3 v4 v5:V} {lb:Bool} {lc:Nat} {l:List Va} {h0:Hp} (nb:b1.num<(nxt h0).num) (m1:blk h0 b1=.cells [v0,v1,v2,v3,v4,v5,slR lb lc (AC l) l.length]) (hl:Av l≤L):
  ∀(r:List Va) (i M:Nat) (t:T V) (h:Hp) (a dp:Nat),l.drop i=r→i+r.length=l.length→r.length+1≤M→Bq r≤D→Av r≤L→a+Ip r≤9223372036854775807→Ae h0 h→
  tg 1 t=.ptr b1 0→tg 4 t=vI a→tg 5 t=vI dp→tg 9 t=vI i→
  (∀t1 h1,Ae h0 h1→tg 1 t1=.ptr b1 0→tg 4 t1=vI (a+Ip r)→tg 5 t1=vI (max dp (Bq r))→k (.exit 2) t1 d h1=true)→
  iter (exec (call E (L+1) n) (L+1) fi Lx) M t d h k=true:=by
 intro r;have hll:=AL l;induction r with
 |nil=>intro i M t h a dp hr hi hM hd hb ha K0 g1 g4 g5 g6 hk;obtain ⟨M,rfl⟩:=pM M;have mb:blk h b1=_:=(K0.old b1 nb).trans m1;have hi':(i<l.length)=False:=eq_false (by simp at hi;omega);rw[Ab,Lx];refine Tst (J4 g1 g6 mb hi') ?_;refine hk _ _ K0 ?_ ?_ ?_<;>simp -implicitDefEqProofs (disch:=exact tD) only[↓sD,sB,↓reduceIte,Nat.reduceEqDiff,reduceCtorEq,Nat.reduceLT,Nat.reduceMul,Nat.reduceAdd,g1,g4,g5,Ip,Bq,Nat.add_zero,Nat.max_zero]
 |cons x r ih=>
  intro i M t h a dp hr hi hM hd hb ha K0 g1 g4 g5 g6 hk;obtain ⟨M,rfl⟩:=pM M;simp only[List.length_cons] at hi hM;simp only[Bq,Av,Ip] at hd hb ha;have mb:blk h b1=_:=(K0.old b1 nb).trans m1;have hi':(i<l.length)=True:=eT;have e1:=fun c h=>Dr (c:=c) (h:=h) (Ak hr);rw[Ab,Lx];refine Tst (J5 g1 g6 mb hi' e1) ?_;refine hS x _ _ tO tO (fun h1 K1=>?_);refine Sst (J4 g4 g5 g6 @Oi) ?_;refine ih (i+1) _ _ _ (a+x.cnt) (max dp x.dep) (Ai hr) tO tO tO tO tO (K0.trans K1) ?_ ?_ ?_ ?_ (fun t1 h1 K2 u1 u4 u5=>hk t1 h1 K2 u1 ?_ ?_)
  ·exact Ssc g1
  ·exact Af
  ·exact Ssc @zx
  ·exact Af
  ·rw[u4,Ip,Nat.add_assoc]
  ·rw[u5,Bq,Nat.max_assoc]
theorem fg (hF:Hns E) (hL9:L≤9223372036854775800):∀(D n:Nat),wP E L (n+D+1) D:=by
 intro D;induction D with
 |zero=>intro n x y h hd;cases x;simp only[Va.dep] at hd;omega
 |succ D ih=>
  intro n x h kc hd hb hk;obtain ⟨kind,nn,neg,db,dc,dd,s,lb,lc,l,mb,mc,m⟩:=x;simp only[Va.dep] at hd;simp only[Va.bulk] at hb;rw[Va.cnt,Va.dep] at hk;have hl:=AL l;have hm:=AL m;have cl:=Io l;have cm:=Io m;rw[show n+(D+1)+1=(n+D+1)+1 by omega];simp only[Va.cells];rw[Ag hF.f1152,vr,qR,Wp,Wk,Wj,Wi,Wh,Wb];have K0:Ae h (h.upd (nxt h) (.cells [.int .i64 kind,.int .i64 nn,.bool neg,slR db dc (AH dd) dd.length,.str s,slR lb lc (AC l) l.length,slR mb mc (AC m) m.length])).bump:=kO;refine Sst @Ad ?_;refine RZ (ih n) tO (b1:=nxt h) (v0:=.int .i64 kind) (v1:=.int .i64 nn) (v2:=.bool neg) (v3:=slR db dc (AH dd) dd.length) (v4:=.str s) (v6:=slR mb mc (AC m) m.length) (lb:=lb) (lc:=lc) (l:=l) (h0:=(h.upd (nxt h) (.cells [.int .i64 kind,.int .i64 nn,.bool neg,slR db dc (AH dd) dd.length,.str s,slR lb lc (AC l) l.length,slR mb mc (AC m) m.length])).bump) tN Af tO l 0 _ _ _ 1 0 rfl tO tO tO tO tO (.refl _) ?_ ?_ ?_ ?_ (fun t1 h1 K1 u1 u4 u5=>?_)
  ·exact Af
  ·exact Af
  ·exact Af
  ·exact Af
  refine Sst @Ad ?_;refine RY (ih n) tO (b1:=nxt h) (v0:=.int .i64 kind) (v1:=.int .i64 nn) (v2:=.bool neg) (v3:=slR db dc (AH dd) dd.length) (v4:=.str s) (v5:=slR lb lc (AC l) l.length) (lb:=mb) (lc:=mc) (l:=m) (h0:=(h.upd (nxt h) (.cells [.int .i64 kind,.int .i64 nn,.bool neg,slR db dc (AH dd) dd.length,.str s,slR lb lc (AC l) l.length,slR mb mc (AC m) m.length])).bump) tN Af tO m 0 _ _ _ (1+Ip l) (max 0 (Bq l)) rfl tO tO tO tO tO K1 ?_ ?_ ?_ ?_ (fun t2 h2 K2 w1 w4 w5=>?_)
  ·exact Ssc u1
  ·exact Ssc u4
  ·exact Ssc u5
  ·exact Af
  have dl:=GK l;have dm:=GK m;have hz:max 0 (Bq l)=Bq l:=Nat.zero_max _;rw[hz] at w5;refine Sst (J2 w4 w5) ?_;rw[Nat.add_comm (max (Bq l) (Bq m)) 1];exact hk _ (K0.trans K2)
theorem jz (hF:Hns E) (hL9:L≤9223372036854775800) {x:Va} {D:Nat} (hd:x.dep≤D) (hb:x.bulk≤L) (hn:D+1≤n) (hk:∀h1,Ae h h1→kc (.ret (.tup [vI x.cnt,vI x.dep])) none h1=true):
  call E (L+1) n (.fn 152) [.agg x.cells] none h kc=true:=by
 obtain ⟨m,rfl⟩:∃m,n=m+D+1:=⟨n-(D+1),by omega⟩
 exact fg hF hL9 D m x h kc hd hb hk
theorem gI (hF:Hns E) (hL9:L≤9223372036854775807) {D:Nat} (hn:2*D+4≤n) {b:Bool} {cp:Nat} {s:List Va} (hs:s.length≤9223372036854775807) {h0:Hp}:
  ∀(r:List Va) (x:Va) (i M:Nat) (t:T V) (h:Hp),s.drop i=x::r→i+1+r.length=s.length→r.length+1≤M→x.dep≤D→x.bulk≤L→Bq r≤D→Av r≤L→Ae h0 h→
  tg 0 t=slR b cp (AC s) s.length→tg 3 t=vI (i+1)→
  (ris (x::r)=true→∀t1 h1,Ae h0 h1→k (.exit 0) t1 d h1=true)→
  (ris (x::r)=false→∀t1 h1,Ae h0 h1→tg 2 t1=.bool false→k .ret t1 d h1=true)→
  iter (exec (call E (L+3) n) (L+3) fi IJ) M t d h k=true:=by
 intro r;induction r with
 |nil=>intro x i M t h hr hi hM hxd hxb hd hb K0 g0 g3 hk hf;obtain ⟨M,rfl⟩:=pM M;have hi':(i+1<s.length)=False:=eq_false (by simp at hi;omega);rw[Ab,IJ];refine Tst (J3 g0 g3 hi') ?_;exact hk rfl _ _ K0
 |cons y r ih=>
  intro x i M t h hr hi hM hxd hxb hd hb K0 g0 g3 hk hf;obtain ⟨M,rfl⟩:=pM M;simp only[List.length_cons] at hi hM;simp only[Bq,Av] at hd hb;have hi':(i+1<s.length)=True:=eT;have e1:=fun c h=>Dr (c:=c) (h:=h) (Ak hr);have e2:=fun c h=>Dr (c:=c) (h:=h) (Ak (Ai hr));have e3:Am .i64 (Int.sub (.ofNat (i+1)) (.ofNat 1))=.ofNat i:=Bi (i:=i+1) tO;rw[Ab,IJ];refine Tst (J7 g0 g3 hi' e3 e1 e2 @DC) ?_;refine Lj hF hL9 hxd hxb tO hn (fun h1 K1=>?_);rw[Po] at hk hf;cases hc:ltI (x.cmp y) (.ofNat 0)
  ·refine Sst hc ?_;refine hf (by rw[hc];rfl) _ _ (K0.trans K1) ?_;exact Af
  ·rw[hc,Bool.true_and] at hk hf;refine Sst (J2 hc g3) ?_;refine ih y (i+1) _ _ _ (Ai hr) tO tO tO tO tO tO (K0.trans K1) ?_ ?_ hk hf
   ·exact Ssc g0
   ·exact Af
theorem QB (hF:Hns E) (hL9:L≤9223372036854775800) {D:Nat} (hn:2*D+4≤n) {b:Bool} {cp:Nat} {s:List Va} (hs:s.length≤L) (hd:Bq s≤D) (hb:Av s≤L)
  (hk:∀h1,Ae h h1→kc (.ret (.bool (ris s))) none h1=true):
  call E (L+3) (n+1) (.fn 207) [slR b cp (AC s) s.length] none h kc=true:=by
 rw[Ag hF.f1207,vh,qH,VD,VB,VA];cases s with
 |nil=>simp -implicitDefEqProofs (disch:=exact tD) only[↓sD,sB,↓reduceIte,Nat.reduceEqDiff,reduceCtorEq,Nat.reduceLT,Nat.reduceMul,Nat.reduceAdd,Ad,Ab,IJ,Aj,List.length_nil,Nat.not_lt_zero,decide_false];exact hk h (.refl h)
 |cons x r=>
  simp only[Bq,Av] at hd hb;refine Sst @Ad ?_;refine gI hF tO hn (b:=b) (cp:=cp) (s:=x::r) tO r x 0 _ _ _ rfl (by simp;omega) (by simp at hs;omega) tO tO tO tO (.refl h) ?_ ?_ (fun hr t1 h1 K1=>?_) (fun hr t1 h1 K1 g2=>?_)
  ·exact Af
  ·exact Af
  ·have hk1:=hk h1 K1;rw[hr] at hk1;refine AV ?_;exact hk1
  ·have hk1:=hk h1 K1;rw[hr] at hk1;refine Sst g2 ?_;exact hk1
end
end Go.AJ
namespace Go.AJ
open Go
set_option maxRecDepth 100000
def DY:Va→Bool
 |.mk kind n neg _ _ d s _ _ _ _ _ _=>
  if Aq kind (.ofNat 1)=true then (Aq n (.ofNat 0)||Aq n (.ofNat 1))&& !(neg||decide (0<d.length))&&CR s []
  else if Aq kind (.ofNat 2)=true then Aq n (.ofNat 0)&&Dj neg d&&CR s []
  else if Aq kind (.ofNat 3)=true then Aq n (.ofNat 0)&& !(neg||decide (0<d.length))&&CU s
  else if Aq kind (.ofNat 4)=true then Aq n (.ofNat 0)&& !(neg||decide (0<d.length))&&BF s
  else if (Aq kind (.ofNat 5)||Aq kind (.ofNat 6))=true then Aq n (.ofNat 0)&& !(neg||decide (0<d.length))&&CR s []
  else false
def Gw:Va→Bool
 |.mk kind _ _ _ _ _ _ _ _ l _ _ m=>
  if (!Aq kind (.ofNat 5)&& !Aq kind (.ofNat 6))=true then decide (l.length=0)&&decide (m.length=0)
  else !decide (4000<l.length)&& !(Aq kind (.ofNat 5)&& !decide (m.length=0))&& !(Aq kind (.ofNat 6)&& !decide (m.length=l.length))&&BL l&&BL m&&ris l
theorem uc:∀x:Va,x.good=(DY x&&Gw x)
 |.mk kind n neg db dc d s lb lc l mb mc m=>by
  have z:decide (l.length+m.length=0)=(decide (l.length=0)&&decide (m.length=0)):=by by_cases h1:l.length=0<;>by_cases h2:m.length=0<;>simp [h1,h2]
  have zz:(decide (l.length=0)&&decide (m.length=0)&&BL l&&BL m)=(decide (l.length=0)&&decide (m.length=0)):=by cases l<;>cases m<;>simp [BL]
  have z3:(!decide (0<l.length+m.length))=(decide (l.length=0)&&decide (m.length=0)):=by by_cases h1:l.length=0<;>by_cases h2:m.length=0<;>simp [h1,h2]<;>omega
  rw[Va.good,AW,DY,Gw,z,z3];by_cases k1:Aq kind (.ofNat 1)=true
  ·have e:=Au.1 k1;subst e;simp only[show Aq (Int.ofNat 1) (.ofNat 1)=true from rfl,show Aq (Int.ofNat 1) (.ofNat 5)=false from rfl,show Aq (Int.ofNat 1) (.ofNat 6)=false from rfl,if_true,Bool.not_false,Bool.and_self];generalize ((Aq n (.ofNat 0)||Aq n (.ofNat 1))&& !(neg||decide (0<d.length))&&CR s [])=A at*;cases A<;>simp only[Bool.false_and,Bool.true_and,zz]
  rw[if_neg k1,if_neg k1];by_cases k2:Aq kind (.ofNat 2)=true
  ·have e:=Au.1 k2;subst e;simp only[show Aq (Int.ofNat 2) (.ofNat 2)=true from rfl,show Aq (Int.ofNat 2) (.ofNat 5)=false from rfl,show Aq (Int.ofNat 2) (.ofNat 6)=false from rfl,if_true,Bool.not_false,Bool.and_self];rw[Bool.and_comm (Dj neg d)];generalize (Aq n (.ofNat 0)&&Dj neg d&&CR s [])=A at*;cases A<;>simp only[Bool.false_and,Bool.true_and,zz]
  rw[if_neg k2,if_neg k2];by_cases k3:Aq kind (.ofNat 3)=true
  ·have e:=Au.1 k3;subst e;simp only[show Aq (Int.ofNat 3) (.ofNat 3)=true from rfl,show Aq (Int.ofNat 3) (.ofNat 5)=false from rfl,show Aq (Int.ofNat 3) (.ofNat 6)=false from rfl,if_true,Bool.not_false,Bool.and_self];generalize (Aq n (.ofNat 0)&& !(neg||decide (0<d.length)))=A at*;cases A<;>cases CU s<;>simp only[Bool.false_and,Bool.true_and,Bool.and_false,Bool.and_true,zz]
  rw[if_neg k3,if_neg k3];by_cases k4:Aq kind (.ofNat 4)=true
  ·have e:=Au.1 k4;subst e;simp only[show Aq (Int.ofNat 4) (.ofNat 4)=true from rfl,show Aq (Int.ofNat 4) (.ofNat 5)=false from rfl,show Aq (Int.ofNat 4) (.ofNat 6)=false from rfl,if_true,Bool.not_false,Bool.and_self];generalize (Aq n (.ofNat 0)&& !(neg||decide (0<d.length)))=A at*;cases A<;>cases BF s<;>simp only[Bool.false_and,Bool.true_and,Bool.and_false,Bool.and_true,zz]
  rw[if_neg k4,if_neg k4];by_cases k5:Aq kind (.ofNat 5)=true
  ·have e:=Au.1 k5;subst e;simp only[show Aq (Int.ofNat 5) (.ofNat 5)=true from rfl,show Aq (Int.ofNat 5) (.ofNat 6)=false from rfl,if_true,Bool.not_true,Bool.false_and,Bool.true_or,Bool.true_and,Bool.not_false,Bool.and_true,Bool.false_eq_true,if_false,Bool.not_not,Cl];generalize (Aq n (.ofNat 0)&& !(neg||decide (0<d.length))&&CR s [])=A at*;cases A<;>cases ris l<;>cases BL l<;>cases BL m<;>simp
  rw[if_neg k5];have f5:Aq kind (.ofNat 5)=false:=by simpa using k5
  by_cases k6:Aq kind (.ofNat 6)=true
  ·have e:=Au.1 k6;subst e;simp only[show Aq (Int.ofNat 6) (.ofNat 6)=true from rfl,show Aq (Int.ofNat 6) (.ofNat 5)=false from rfl,if_true,Bool.not_true,Bool.and_false,Bool.or_true,Bool.true_and,Bool.not_false,Bool.and_true,Bool.false_and,Bool.false_eq_true,if_false,Bool.not_not,Cl];generalize (Aq n (.ofNat 0)&& !(neg||decide (0<d.length))&&CR s [])=A at*;cases A<;>cases ris l<;>cases BL l<;>cases BL m<;>simp
  ·have f6:Aq kind (.ofNat 6)=false:=by simpa using k6
   rw[if_neg k6,f5,f6];simp
end Go.AJ
namespace Go.AJ
open Go
set_option maxRecDepth 100000
section
variable {E:Env} {L n:Nat} {h:Hp} {kc:KC} {t:T V} {d:Dc} {k:KE} {fi:FI} {c:KV} {C:As}
theorem ju (hF:Hns E) (hL9:L≤9223372036854775800):∀{x:Va} (hb:x.bulk≤L) (hk:∀h1,Ae h h1→kc (.ret (.bool (DY x))) none h1=true),
  call E (L+1) (n+2) (.fn 206) [.agg x.cells] none h kc=true
 |.mk kind n0 neg db dc dd s lb lc l mb mc m,hb,hk=>by
  simp only[Va.bulk] at hb;simp only[Va.cells];rw[Ag hF.f1206,vi,qI,VG,VF,VE];have K0:Ae h (h.upd (nxt h) (.cells [.int .i64 kind,.int .i64 n0,.bool neg,slR db dc (AH dd) dd.length,.str s,slR lb lc (AC l) l.length,slR mb mc (AC m) m.length])).bump:=kO;have fin:∀{b:Bool} {h1:Hp},Ae (h.upd (nxt h) (.cells [.int .i64 kind,.int .i64 n0,.bool neg,slR db dc (AH dd) dd.length,.str s,slR lb lc (AC l) l.length,slR mb mc (AC m) m.length])).bump h1→DY (.mk kind n0 neg db dc dd s lb lc l mb mc m)=b→kc (.ret (.bool b)) none h1=true:=fun K e=>by rw[←e];exact hk _ (K0.trans K)
  have kb:∀{h1:Hp},Ae (h.upd (nxt h) (.cells [.int .i64 kind,.int .i64 n0,.bool neg,slR db dc (AH dd) dd.length,.str s,slR lb lc (AC l) l.length,slR mb mc (AC m) m.length])).bump h1→blk h1 (nxt h)=.cells [.int .i64 kind,.int .i64 n0,.bool neg,slR db dc (AH dd) dd.length,.str s,slR lb lc (AC l) l.length,slR mb mc (AC m) m.length]:=fun K=>by rw[K.old (nxt h) tN];exact Af
  cases k1:Aq kind (.ofNat 1)
  case true=>
   have hv:=show DY (.mk kind n0 neg db dc dd s lb lc l mb mc m)=_ by rw[DY,if_pos k1]
   cases a:Aq n0 (.ofNat 0)
   ·cases b:Aq n0 (.ofNat 1)
    ·refine Sst (J3 k1 a b) ?_;exact fin (.refl _) (by rw[hv,a,b];simp)
    ·refine Sst (J3 k1 a b) ?_;refine E9 hF (fun h1 K1=>?_);have m1:=kb K1;cases hN:(!(neg||decide (0<dd.length)))
     ·refine AV ?_;exact fin K1 (by rw[hv,a,b,hN];simp)
     ·refine Sst m1 ?_;exact fin K1 (by rw[hv,a,b,hN];simp)
   ·refine Sst (J2 k1 a) ?_;refine E9 hF (fun h1 K1=>?_);have m1:=kb K1;cases hN:(!(neg||decide (0<dd.length)))
    ·refine AV ?_;exact fin K1 (by rw[hv,a,hN];simp)
    ·refine Sst m1 ?_;exact fin K1 (by rw[hv,a,hN];simp)
  cases k2:Aq kind (.ofNat 2)
  case true=>
   have hv:=show DY (.mk kind n0 neg db dc dd s lb lc l mb mc m)=_ by rw[DY,if_neg (by rw[k1];simp),if_pos k2]
   cases a:Aq n0 (.ofNat 0)
   ·refine Sst (J3 k1 k2 a) ?_;exact fin (.refl _) (by rw[hv,a];simp)
   ·refine Sst (J3 k1 k2 a) ?_;refine jt hF tO tO (fun h1 K1=>?_);have m1:=kb K1;cases hN:Dj neg dd
    ·refine AV ?_;exact fin K1 (by rw[hv,a,hN];simp)
    ·refine Sst m1 ?_;exact fin K1 (by rw[hv,a,hN];simp)
  cases k3:Aq kind (.ofNat 3)
  case true=>
   have hv:=show DY (.mk kind n0 neg db dc dd s lb lc l mb mc m)=_ by rw[DY,if_neg (by rw[k1];simp),if_neg (by rw[k2];simp),if_pos k3]
   cases a:Aq n0 (.ofNat 0)
   ·refine Sst (J4 k1 k2 k3 a) ?_;exact fin (.refl _) (by rw[hv,a];simp)
   ·refine Sst (J4 k1 k2 k3 a) ?_;refine E9 hF (fun h1 K1=>?_);have m1:=kb K1;cases hN:(!(neg||decide (0<dd.length)))
    ·refine AV ?_;exact fin K1 (by rw[hv,a,hN];simp)
    ·refine Sst m1 ?_;refine js hF tO tO ?_;refine AV ?_;exact fin K1 (by rw[hv,a,hN];simp)
  cases k4:Aq kind (.ofNat 4)
  case true=>
   have hv:=show DY (.mk kind n0 neg db dc dd s lb lc l mb mc m)=_ by rw[DY,if_neg (by rw[k1];simp),if_neg (by rw[k2];simp),if_neg (by rw[k3];simp),if_pos k4]
   cases a:Aq n0 (.ofNat 0)
   ·refine Sst (J5 k1 k2 k3 k4 a) ?_;exact fin (.refl _) (by rw[hv,a];simp)
   ·refine Sst (J5 k1 k2 k3 k4 a) ?_;refine E9 hF (fun h1 K1=>?_);have m1:=kb K1;cases hN:(!(neg||decide (0<dd.length)))
    ·refine AV ?_;exact fin K1 (by rw[hv,a,hN];simp)
    ·refine Sst m1 ?_;refine jr hF tO tO ?_;refine AV ?_;exact fin K1 (by rw[hv,a,hN];simp)
  cases k5:Aq kind (.ofNat 5)
  case true=>
   have hv:=show DY (.mk kind n0 neg db dc dd s lb lc l mb mc m)=_ by rw[DY,if_neg (by rw[k1];simp),if_neg (by rw[k2];simp),if_neg (by rw[k3];simp),if_neg (by rw[k4];simp),if_pos (by rw[k5];rfl)]
   cases a:Aq n0 (.ofNat 0)
   ·refine Sst (J6 k1 k2 k3 k4 k5 a) ?_;exact fin (.refl _) (by rw[hv,a];simp)
   ·refine Sst (J6 k1 k2 k3 k4 k5 a) ?_;refine E9 hF (fun h1 K1=>?_);have m1:=kb K1;cases hN:(!(neg||decide (0<dd.length)))
    ·refine AV ?_;exact fin K1 (by rw[hv,a,hN];simp)
    ·refine Sst m1 ?_;exact fin K1 (by rw[hv,a,hN];simp)
  cases k6:Aq kind (.ofNat 6)
  case true=>
   have hv:=show DY (.mk kind n0 neg db dc dd s lb lc l mb mc m)=_ by rw[DY,if_neg (by rw[k1];simp),if_neg (by rw[k2];simp),if_neg (by rw[k3];simp),if_neg (by rw[k4];simp),if_pos (by rw[k6,Bool.or_true])]
   cases a:Aq n0 (.ofNat 0)
   ·refine Sst (J7 k1 k2 k3 k4 k5 k6 a) ?_;exact fin (.refl _) (by rw[hv,a];simp)
   ·refine Sst (J7 k1 k2 k3 k4 k5 k6 a) ?_;refine E9 hF (fun h1 K1=>?_);have m1:=kb K1;cases hN:(!(neg||decide (0<dd.length)))
    ·refine AV ?_;exact fin K1 (by rw[hv,a,hN];simp)
    ·refine Sst m1 ?_;exact fin K1 (by rw[hv,a,hN];simp)
  refine Sst (J6 k1 k2 k3 k4 k5 k6) ?_;exact fin (.refl _) (by rw[DY,if_neg (by rw[k1];simp),if_neg (by rw[k2];simp),if_neg (by rw[k3];simp),if_neg (by rw[k4];simp),if_neg (by rw[k5,k6];simp)])
end
end Go.AJ
