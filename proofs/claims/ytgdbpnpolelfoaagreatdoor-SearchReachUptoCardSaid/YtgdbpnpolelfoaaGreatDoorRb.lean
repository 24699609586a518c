/- The reference: what is formed. -/
import Derived.Test.YtgdbpnpolelfoaaGreatDoorRa
import Derived.Test.YtgdbpnpolelfoaaGreatDoorWb
import Derived.Test.YtgdbpnpolelfoaaGreatDoorWc
set_option linter.all false
namespace Go.AJ
open Go
set_option maxRecDepth 100000
section
variable {E:Env} {L n:Nat} {h:Hp} {kc:KC} {t:T V} {d:Dc} {k:KE} {fi:FI} {c:KV} {C:Av}
theorem loop1311 {s:List Nat} (hs:s.length≤9223372036854775807):∀(r:List Nat) (i M:Nat) (t:T V),s.drop i=r→i+r.length=s.length→r.length+1≤M→T.get und (K.of 0) t=.str s→T.get und (K.of 3) t=.int .i64 (.ofNat i)→
  (r.any badB=false→∀t1,k (.exit 0) t1 d h=true)→(r.any badB=true→∀t1,T.get und (K.of 2) t1=.bool false→k .ret t1 d h=true)→
  iter (exec C L fi Ko) M t d h k=true:=by
 intro r;induction r with
 |nil=>intro i M t hr hi hM g0 g3 hk hb;obtain ⟨M,rfl⟩:=pM M;have hi':(i<s.length)=False:=eq_false (by simp at hi;omega);rw[Ab,Ko];refine Tst (J3 g0 g3 hi') ?_;exact hk rfl _
 |cons x r ih=>
  intro i M t hr hi hM g0 g3 hk hb;obtain ⟨M,rfl⟩:=pM M;simp only[List.length_cons] at hi hM;have hi':(i<s.length)=True:=eT;have e1:=fun c h=>DG (c:=c) (h:=h) (ik:=.i64) (Ap hr);simp only[List.any_cons] at hk hb;rw[Ab,Ko];by_cases h1:x<32
  ·refine Tst (J5 g0 g3 hi' e1 h1) ?_;refine hb (by simp [badB,h1]) _ (Ag)
  ·by_cases h2:126<x
   ·refine Tst (J6 g0 g3 hi' e1 h1 h2) ?_;refine hb (by simp [badB,h2]) _ (Ag)
   ·refine Tst (J6 g0 g3 hi' e1 h1 h2) ?_;have hx0:badB x=false:=by simp [badB,h1,h2]
    rw[hx0,Bool.false_or] at hk hb;refine ih (i+1) _ _ (Al hr) tO tO ?_ ?_ hk hb
    ·exact Ssc g0
    ·exact Ag
theorem call1311 (hF:Hns E) {s:List Nat} (hs:s.length≤9223372036854775807) (hL:s.length≤L) (hk:kc (.ret (.bool (CH s))) none h=true):
  call E (L+1) (n+1) (.fn 311) [.str s] none h kc=true:=by
 rw[Af hF.f1311,c1311,r1311,p1311_0,p1311_1,p1311_2,p1311_3];by_cases h2:200<s.length
 ·have e:CH s=false:=by rw[CH,decide_eq_false (by omega:¬s.length≤200),Bool.and_false]
  rw[e] at hk;refine Tst h2 ?_;exact hk
 have e:CH s= !s.any badB:=by rw[CH,decide_eq_true (by omega:s.length≤200),Bool.and_true]
 rw[e] at hk;refine Tst (J2 h2 @Ae) ?_;refine loop1311 hs s 0 _ _ rfl tO tO ?_ ?_ (fun hb t1=>?_) (fun hb t1 g2=>?_)
 ·exact Ag
 ·exact Ag
 ·rw[hb] at hk;refine Be ?_;exact hk
 ·rw[hb] at hk;refine Sst g2 ?_;exact hk
def Bs (i x:Nat):Bool:=Bh x||(((!decide (x<48)&& !decide (57<x))||decide (x=95))&& !decide (i=0))
def EU:Nat→List Nat→Bool
 |_,[]=>true
 |i,x::r=>Bs i x&&EU (i+1) r
theorem Hf:∀(r:List Nat) (i:Nat),EU (i+1) r=r.all CB
 | [],_=>rfl
 |x::r,i=>by rw[EU,Hf r (i+1),List.all_cons];congr 1;unfold Bs CB;rw[decide_eq_false (by omega:¬i+1=0)];cases Bh x<;>simp
theorem JB {x:Nat} (h:Bh x=true):CB x=true:=by unfold CB;rw[h];rfl
theorem nameGo_zero (x:Nat) (r:List Nat):EU 0 (x::r)=(Bh x&&(x::r).all CB):=by
 rw[EU,Hf,List.all_cons,Bs];cases h:Bh x
 ·simp
 ·rw[JB h];rfl
theorem loop1312 {s:List Nat} (hs:s.length≤9223372036854775807):∀(r:List Nat) (i M:Nat) (t:T V),s.drop i=r→i+r.length=s.length→r.length+1≤M→T.get und (K.of 0) t=.str s→T.get und (K.of 3) t=.int .i64 (.ofNat i)→
  (EU i r=true→∀t1,k (.exit 0) t1 d h=true)→(EU i r=false→∀t1,T.get und (K.of 2) t1=.bool false→k .ret t1 d h=true)→
  iter (exec C L fi HK) M t d h k=true:=by
 intro r;induction r with
 |nil=>intro i M t hr hi hM g0 g3 hk hb;obtain ⟨M,rfl⟩:=pM M;have hi':(i<s.length)=False:=eq_false (by simp at hi;omega);rw[Ab,HK];refine Tst (J3 g0 g3 hi') ?_;exact hk rfl _
 |cons x r ih=>
  intro i M t hr hi hM g0 g3 hk hb;obtain ⟨M,rfl⟩:=pM M;simp only[List.length_cons] at hi hM;have hi':(i<s.length)=True:=eT;have e1:=fun c h=>DG (c:=c) (h:=h) (ik:=.i64) (Ap hr);rw[EU] at hk hb;rw[Ab,HK];have fin:Bs i x=true→∀tt:T V,T.get und (K.of 0) tt=.str s→T.get und (K.of 3) tt=.int .i64 (.ofNat (i+1))→iter (exec C L fi HK) M tt d h k=true:=fun ha tt u0 u3=>by rw[ha,Bool.true_and] at hk hb;exact ih (i+1) _ _ (Al hr) tO tO u0 u3 hk hb
  have bad:Bs i x=false→(Bs i x&&EU (i+1) r)=false:=fun ha=>by rw[ha];rfl
  have cases9:x<48∨(48≤x∧x≤57)∨(57<x∧x<65)∨(65≤x∧x≤90)∨(90<x∧x<95)∨x=95∨x=96∨(97≤x∧x≤122)∨122<x:=by omega
  rcases cases9 with q|q|q|q|q|q|q|q|q
  ·have a1:(x<65)=True:=eT;have a2:(90<x)=False:=eF;have a3:(x<97)=True:=eT;have a4:(122<x)=False:=eF;have a5:(x<48)=True:=eT;have a6:(57<x)=False:=eF;have a7:(x=95)=False:=eF;have ha:Bs i x=false:=by simp [Bs,Bh,a1,a2,a3,a4,a5,a6,a7]
   refine Tst (J11 g0 g3 hi' e1 a1 a2 a3 a4 a5 a6 a7) ?_;exact hb (bad ha) _ (Ag)
  ·have a1:(x<65)=True:=eT;have a2:(90<x)=False:=eF;have a3:(x<97)=True:=eT;have a4:(122<x)=False:=eF;have a5:(x<48)=False:=eF;have a6:(57<x)=False:=eF;have a7:(x=95)=False:=eF;by_cases i0:i=0
   ·have i1:decide (i=0)=true:=decide_eq_true i0;have ha:Bs i x=false:=by simp [Bs,Bh,a1,a2,a3,a4,a5,a6,a7,i0]
    refine Tst (J12 g0 g3 hi' e1 a1 a2 a3 a4 a5 a6 a7 i1) ?_;refine hb (bad ha) _ ?_;exact Ag
   ·have i1:decide (i=0)=false:=decide_eq_false i0;have ha:Bs i x=true:=by simp [Bs,Bh,a1,a2,a3,a4,a5,a6,a7,i0]
    refine Tst (J12 g0 g3 hi' e1 a1 a2 a3 a4 a5 a6 a7 i1) ?_;refine fin ha _ ?_ ?_<;>simp -implicitDefEqProofs (disch:=exact tD) only[↓sD,sB,↓reduceIte,Nat.reduceEqDiff,reduceCtorEq,Nat.reduceLT,Nat.reduceMul,Nat.reduceAdd,g0]
  ·have a1:(x<65)=True:=eT;have a2:(90<x)=False:=eF;have a3:(x<97)=True:=eT;have a4:(122<x)=False:=eF;have a5:(x<48)=False:=eF;have a6:(57<x)=True:=eT;have a7:(x=95)=False:=eF;have ha:Bs i x=false:=by simp [Bs,Bh,a1,a2,a3,a4,a5,a6,a7]
   refine Tst (J11 g0 g3 hi' e1 a1 a2 a3 a4 a5 a6 a7) ?_;exact hb (bad ha) _ (Ag)
  ·have a1:(x<65)=False:=eF;have a2:(90<x)=False:=eF;have a3:(x<97)=True:=eT;have a4:(122<x)=False:=eF;have a5:(x<48)=False:=eF;have a6:(57<x)=True:=eT;have a7:(x=95)=False:=eF;have ha:Bs i x=true:=by simp [Bs,Bh,a1,a2,a3,a4,a5,a6,a7]
   refine Tst (J11 g0 g3 hi' e1 a1 a2 a3 a4 a5 a6 a7) ?_;refine fin ha _ ?_ ?_<;>simp -implicitDefEqProofs (disch:=exact tD) only[↓sD,sB,↓reduceIte,Nat.reduceEqDiff,reduceCtorEq,Nat.reduceLT,Nat.reduceMul,Nat.reduceAdd,g0]
  ·have a1:(x<65)=False:=eF;have a2:(90<x)=True:=eT;have a3:(x<97)=True:=eT;have a4:(122<x)=False:=eF;have a5:(x<48)=False:=eF;have a6:(57<x)=True:=eT;have a7:(x=95)=False:=eF;have ha:Bs i x=false:=by simp [Bs,Bh,a1,a2,a3,a4,a5,a6,a7]
   refine Tst (J11 g0 g3 hi' e1 a1 a2 a3 a4 a5 a6 a7) ?_;exact hb (bad ha) _ (Ag)
  ·have a1:(x<65)=False:=eF;have a2:(90<x)=True:=eT;have a3:(x<97)=True:=eT;have a4:(122<x)=False:=eF;have a5:(x<48)=False:=eF;have a6:(57<x)=True:=eT;have a7:(x=95)=True:=eT;by_cases i0:i=0
   ·have i1:decide (i=0)=true:=decide_eq_true i0;have ha:Bs i x=false:=by simp [Bs,Bh,a1,a2,a3,a4,a5,a6,a7,i0]
    refine Tst (J12 g0 g3 hi' e1 a1 a2 a3 a4 a5 a6 a7 i1) ?_;refine hb (bad ha) _ ?_;exact Ag
   ·have i1:decide (i=0)=false:=decide_eq_false i0;have ha:Bs i x=true:=by simp [Bs,Bh,a1,a2,a3,a4,a5,a6,a7,i0]
    refine Tst (J12 g0 g3 hi' e1 a1 a2 a3 a4 a5 a6 a7 i1) ?_;refine fin ha _ ?_ ?_<;>simp -implicitDefEqProofs (disch:=exact tD) only[↓sD,sB,↓reduceIte,Nat.reduceEqDiff,reduceCtorEq,Nat.reduceLT,Nat.reduceMul,Nat.reduceAdd,g0]
  ·have a1:(x<65)=False:=eF;have a2:(90<x)=True:=eT;have a3:(x<97)=True:=eT;have a4:(122<x)=False:=eF;have a5:(x<48)=False:=eF;have a6:(57<x)=True:=eT;have a7:(x=95)=False:=eF;have ha:Bs i x=false:=by simp [Bs,Bh,a1,a2,a3,a4,a5,a6,a7]
   refine Tst (J11 g0 g3 hi' e1 a1 a2 a3 a4 a5 a6 a7) ?_;exact hb (bad ha) _ (Ag)
  ·have a1:(x<65)=False:=eF;have a2:(90<x)=True:=eT;have a3:(x<97)=False:=eF;have a4:(122<x)=False:=eF;have a5:(x<48)=False:=eF;have a6:(57<x)=True:=eT;have a7:(x=95)=False:=eF;have ha:Bs i x=true:=by simp [Bs,Bh,a1,a2,a3,a4,a5,a6,a7]
   refine Tst (J11 g0 g3 hi' e1 a1 a2 a3 a4 a5 a6 a7) ?_;refine fin ha _ ?_ ?_<;>simp -implicitDefEqProofs (disch:=exact tD) only[↓sD,sB,↓reduceIte,Nat.reduceEqDiff,reduceCtorEq,Nat.reduceLT,Nat.reduceMul,Nat.reduceAdd,g0]
  ·have a1:(x<65)=False:=eF;have a2:(90<x)=True:=eT;have a3:(x<97)=False:=eF;have a4:(122<x)=True:=eT;have a5:(x<48)=False:=eF;have a6:(57<x)=True:=eT;have a7:(x=95)=False:=eF;have ha:Bs i x=false:=by simp [Bs,Bh,a1,a2,a3,a4,a5,a6,a7]
   refine Tst (J11 g0 g3 hi' e1 a1 a2 a3 a4 a5 a6 a7) ?_;exact hb (bad ha) _ (Ag)
theorem call1312 (hF:Hns E) {s:List Nat} (hs:s.length≤9223372036854775807) (hL:s.length≤L) (hk:kc (.ret (.bool (Bv s))) none h=true):
  call E (L+1) (n+1) (.fn 312) [.str s] none h kc=true:=by
 rw[Af hF.f1312,c1312,r1312,p1312_0,p1312_1,p1312_2,p1312_3];cases s with
 |nil=>simp -implicitDefEqProofs (disch:=exact tD) only[↓sD,sB,↓reduceIte,Nat.reduceEqDiff,reduceCtorEq,Nat.reduceLT,Nat.reduceMul,Nat.reduceAdd,Aj,List.length_nil,decide_true];exact hk
 |cons x r=>
  have h0:((x::r).length<1)=False:=eq_false (by simp);by_cases h1:40<(x::r).length
  ·have e:Bv (x::r)=false:=by simp only[Bv,h1,decide_true,Bool.not_true,Bool.false_and]
   rw[e] at hk;simp -implicitDefEqProofs (disch:=exact tD) only[↓sD,sB,↓reduceIte,Nat.reduceEqDiff,reduceCtorEq,Nat.reduceLT,Nat.reduceMul,Nat.reduceAdd,Aj,h0,h1,decide_true,decide_false];exact hk
  ·cases h3:CD (x::r) [84,82,85,69]
   ·cases h4:CD (x::r) [70,65,76,83,69]
    ·have e:Bv (x::r)=EU 0 (x::r):=by simp only[Bv,h1,h3,h4,decide_false,Bool.not_false,Bool.true_and,Bool.and_true,nameGo_zero]
     rw[e] at hk;refine Tst (J5 h0 h1 h3 h4 @Ae) ?_;refine loop1312 hs (x::r) 0 _ _ rfl tO tO ?_ ?_ (fun hb t1=>?_) (fun hb t1 g2=>?_)
     ·exact Ag
     ·exact Ag
     ·rw[hb] at hk;refine Be ?_;exact hk
     ·rw[hb] at hk;refine Sst g2 ?_;exact hk
    ·have e:Bv (x::r)=false:=by simp only[Bv,h4,Bool.not_true,Bool.and_false,Bool.false_and]
     rw[e] at hk;simp -implicitDefEqProofs (disch:=exact tD) only[↓sD,sB,↓reduceIte,Nat.reduceEqDiff,reduceCtorEq,Nat.reduceLT,Nat.reduceMul,Nat.reduceAdd,Aj,h0,h1,decide_false,h3,h4];exact hk
   ·have e:Bv (x::r)=false:=by simp only[Bv,h3,Bool.not_true,Bool.and_false,Bool.false_and]
    rw[e] at hk;simp -implicitDefEqProofs (disch:=exact tD) only[↓sD,sB,↓reduceIte,Nat.reduceEqDiff,reduceCtorEq,Nat.reduceLT,Nat.reduceMul,Nat.reduceAdd,Aj,h0,h1,decide_false,h3];exact hk
theorem EO (hF:Hns E) {ng xb:Bool} {cb:Nat} {a:List Int} (hk:∀h1,Ah h h1→kc (.ret (.bool (!(ng||decide (0<a.length))))) none h1=true):
  call E (L+1) (n+1) (.fn 309) [.agg [.bool ng,slR xb cb (AL a) a.length]] none h kc=true:=by
 rw[Af hF.f1309,c1309,r1309,p1309_0,p1309_1];have K1:Ah h (h.upd (nxt h) (.cells [.bool ng,slR xb cb (AL a) a.length])).bump:=kO;have hk1:=hk _ K1;cases ng
 ·refine FV ?_;have e:(!(false||decide (0<a.length)))=decide (a.length=0):=by by_cases h0:a.length=0<;>simp [h0]<;>omega
  rw[e] at hk1;exact hk1
 ·refine Be ?_;exact hk1
theorem badD_of (x:Int):Gk x=(ltI x (.ofNat 0)||ltI (.ofNat 999999999) x):=by unfold Gk;rw[Ck,Ck,Ck];simp only[Int.ofNat_eq_natCast];by_cases h1:x<0<;>by_cases h2:x<1000000000<;>by_cases h3:999999999<x<;>simp [h1,h2,h3]<;>omega
theorem loop1310 {b1:K} {ng xb:Bool} {cb:Nat} {a:List Int} (m1:blk h b1=.cells [.bool ng,slR xb cb (AL a) a.length]) (hs:a.length≤9223372036854775807):∀(r:List Int) (i M:Nat) (t:T V),a.drop i=r→i+r.length=a.length→r.length+1≤M→T.get und (K.of 1) t=.ptr b1 0→T.get und (K.of 3) t=.int .i64 (.ofNat a.length)→T.get und (K.of 4) t=.int .i64 (.ofNat i)→
  (r.any Gk=false→∀t1,k (.exit 0) t1 d h=true)→(r.any Gk=true→∀t1,T.get und (K.of 2) t1=.bool false→k .ret t1 d h=true)→
  iter (exec C L fi Kq) M t d h k=true:=by
 intro r;induction r with
 |nil=>intro i M t hr hi hM g1 g3 g4 hk hb;obtain ⟨M,rfl⟩:=pM M;have hi':(i<a.length)=False:=eq_false (by simp at hi;omega);rw[Ab,Kq];refine Tst (J3 g3 g4 hi') ?_;exact hk rfl _
 |cons x r ih=>
  intro i M t hr hi hM g1 g3 g4 hk hb;obtain ⟨M,rfl⟩:=pM M;simp only[List.length_cons] at hi hM;have hi':(i<a.length)=True:=eT;have hx:a.getD i 0=x:=by rw[List.getD_eq_getElem?_getD,Ap hr];rfl
  have e1:=fun c h=>AS (c:=c) (h:=h) (Bc (l:=a) (i:=i) tO);simp only[hx] at e1;simp only[List.any_cons] at hk hb;rw[Ab,Kq];cases h1:ltI x (.ofNat 0)
  ·cases h2:ltI (.ofNat 999999999) x
   ·have hx0:Gk x=false:=by rw[badD_of,h1,h2];rfl
    rw[hx0,Bool.false_or] at hk hb;refine Tst (J8 g1 g3 g4 hi' m1 e1 h1 h2) ?_;refine ih (i+1) _ _ (Al hr) tO tO ?_ ?_ ?_ hk hb
    ·exact Ssc g1
    ·exact Ssc g3
    ·exact Ag
   ·refine Tst (J8 g1 g3 g4 hi' m1 e1 h1 h2) ?_;refine hb (by rw[badD_of,h1,h2];rfl) _ (Ag)
  ·refine Tst (J7 g1 g3 g4 hi' m1 e1 h1) ?_;refine hb (by rw[badD_of,h1];rfl) _ (Ag)
theorem call1310 (hF:Hns E) {ng xb:Bool} {cb:Nat} {a:List Int} (hL:a.length≤L) (hs:a.length≤9223372036854775807) (hk:∀h1,Ah h h1→kc (.ret (.bool (C6 ng a))) none h1=true):
  call E (L+1) (n+1) (.fn 310) [.agg [.bool ng,slR xb cb (AL a) a.length]] none h kc=true:=by
 rw[Af hF.f1310,c1310,r1310,p1310_0,p1310_1,p1310_2,p1310_3,p1310_4];have K1:Ah h (h.upd (nxt h) (.cells [.bool ng,slR xb cb (AL a) a.length])).bump:=kO;have hk1:=hk _ K1;by_cases c1:40<a.length
 ·have e:C6 ng a=false:=by simp only[C6,c1,decide_true,Bool.not_true,Bool.false_and]
  rw[e] at hk1;simp -implicitDefEqProofs (disch:=exact tD) only[↓sD,sB,↓reduceIte,Nat.reduceEqDiff,reduceCtorEq,Nat.reduceLT,Nat.reduceMul,Nat.reduceAdd,Aj,c1,decide_true];exact hk1
 by_cases c2:a.length=0
 ·cases ng
  ·have ea:a= []:=List.length_eq_zero_iff.1 c2;subst ea;have hk2:kc (.ret (.bool true)) none (h.upd (nxt h) (.cells [.bool false,slR xb cb (AL []) 0])).bump=true:=hk1;simp -implicitDefEqProofs (disch:=exact tD) only[↓sD,sB,↓reduceIte,Nat.reduceEqDiff,reduceCtorEq,Nat.reduceLT,Nat.reduceMul,Nat.reduceAdd,Aj,AG,List.length_nil,Nat.not_lt_zero,decide_false,decide_true,Ae];refine loop1310 (b1:=nxt h) (ng:=false) (xb:=xb) (cb:=cb) (a:= []) (by simp -implicitDefEqProofs (disch:=exact tD) only[↓sD,sB,↓reduceIte,Nat.reduceEqDiff,reduceCtorEq,Nat.reduceLT,Nat.reduceMul,Nat.reduceAdd,List.length_nil]) (by simp) [] 0 _ _ rfl rfl (by simp) ?_ ?_ ?_ (fun _ t1=>?_) (fun hb=>by cases hb)
   ·exact Ag
   ·simp -implicitDefEqProofs (disch:=exact tD) only[↓sD,sB,↓reduceIte,Nat.reduceEqDiff,reduceCtorEq,Nat.reduceLT,Nat.reduceMul,Nat.reduceAdd,List.length_nil]
   ·exact Ag
   ·refine Be ?_;exact hk2
  ·have e:C6 true a=false:=by simp only[C6,c2,decide_true,Bool.and_self,Bool.not_true,Bool.and_false,Bool.false_and]
   rw[e] at hk1;simp -implicitDefEqProofs (disch:=exact tD) only[↓sD,sB,↓reduceIte,Nat.reduceEqDiff,reduceCtorEq,Nat.reduceLT,Nat.reduceMul,Nat.reduceAdd,Aj,AG,c1,c2,decide_true,decide_false];rw[c2] at hk1;exact hk1
 ·have c3:(0<a.length)=True:=eT;have e1:=fun c h=>AS (c:=c) (h:=h) (Bc (l:=a) (i:=a.length-1) tO);have e2:Ai .i64 (Int.sub (.ofNat a.length) (.ofNat 1))=.ofNat (a.length-1):=by
   obtain ⟨m,hm⟩:∃m,a.length=m+1:=⟨a.length-1,by omega⟩
   rw[hm];exact Bn (i:=m+1) tO
  cases c4:Ar (a.getD (a.length-1) 0) (.ofNat 0)
  ·have e:C6 ng a= !a.any Gk:=by simp only[C6,c1,c2,c3,c4,decide_true,decide_false,Bool.not_false,Bool.true_and,Bool.false_and,Bool.and_false]
   rw[e] at hk1;simp -implicitDefEqProofs (disch:=exact tD) only[↓sD,sB,↓reduceIte,Nat.reduceEqDiff,reduceCtorEq,Nat.reduceLT,Nat.reduceMul,Nat.reduceAdd,Aj,AG,c1,c2,c3,c4,decide_true,decide_false,e2,AR,e1,Ae];refine loop1310 (b1:=nxt h) (ng:=ng) (xb:=xb) (cb:=cb) (a:=a) (Ag) hs a 0 _ _ rfl tO tO ?_ ?_ ?_ (fun hb t1=>?_) (fun hb t1 g2=>?_)
   ·exact Ag
   ·exact Ag
   ·exact Ag
   ·rw[hb] at hk1;refine Be ?_;exact hk1
   ·rw[hb] at hk1;refine Sst g2 ?_;exact hk1
  ·have e:C6 ng a=false:=by simp only[C6,c3,c4,decide_true,Bool.and_self,Bool.not_true,Bool.and_false,Bool.false_and]
   rw[e] at hk1;simp -implicitDefEqProofs (disch:=exact tD) only[↓sD,sB,↓reduceIte,Nat.reduceEqDiff,reduceCtorEq,Nat.reduceLT,Nat.reduceMul,Nat.reduceAdd,Aj,AG,c1,c2,c3,c4,decide_true,decide_false,e2,AR,e1];exact hk1
end
end Go.AJ
namespace Go.AJ
open Go
set_option maxRecDepth 100000
mutual
def Va.cnt:Va→Nat
 |.mk _ _ _ _ _ _ _ _ _ l _ _ m=>1+Ht l+Ht m
def Ht:List Va→Nat
 | []=>0
 |x::l=>x.cnt+Ht l
end
mutual
theorem Va.cnt_le:∀x:Va,x.cnt≤x.bulk
 |.mk _ _ _ _ _ _ _ _ _ l _ _ m=>by have h1:=Hs l;have h2:=Hs m;rw[Va.cnt,Va.bulk];omega
theorem Hs:∀l:List Va,Ht l≤Ax l
 | []=>Nat.le_refl 0
 |x::l=>by have h1:=Va.cnt_le x;have h2:=Hs l;rw[Ht,Ax];omega
end
mutual
theorem Va.dep_le:∀x:Va,x.dep≤x.bulk
 |.mk _ _ _ _ _ _ _ _ _ l _ _ m=>by have h1:=Ge l;have h2:=Ge m;rw[Va.dep,Va.bulk];omega
theorem Ge:∀l:List Va,BC l≤Ax l
 | []=>Nat.le_refl 0
 |x::l=>by have h1:=Va.dep_le x;have h2:=Ge l;rw[BC,Ax];omega
end
section
variable {E:Env} {L n:Nat} {h:Hp} {kc:KC} {t:T V} {d:Dc} {k:KE} {fi:FI} {c:KV} {C:Av}
theorem mxn_nat {a b:Nat} {f:V→Bool}:oMxn true [.int .i64 (.ofNat b)] (.int .i64 (.ofNat a)) f=f (.int .i64 (.ofNat (max a b))):=by
 rw[mxn_max,Aj];by_cases h:a<b
 ·rw[decide_eq_true h,if_pos rfl,Nat.max_eq_right tO]
 ·rw[decide_eq_false h,if_neg (by simp),Nat.max_eq_left tO]
theorem ifmax {a b:Nat}:(if decide (a<b)=true then Int.ofNat b else Int.ofNat a)=Int.ofNat (max a b):=by
 by_cases h:a<b
 ·rw[decide_eq_true h,if_pos rfl,Nat.max_eq_right tO]
 ·rw[decide_eq_false h,if_neg (by simp),Nat.max_eq_left tO]
def SizeR (E:Env) (L n D:Nat):Prop:=∀(x:Va) (h:Hp) (kc:KC),x.dep≤D→x.bulk≤L→(∀h1,Ah h h1→kc (.ret (.tup [.int .i64 (.ofNat x.cnt),.int .i64 (.ofNat x.dep)])) none h1=true)→
 call E (L+1) n (.fn 152) [.agg x.cells] none h kc=true
theorem loop1152_0 {D:Nat} (hS:SizeR E L n D) (hL9:L≤9223372036854775807) {b1:K} {v0 v1 v2 v3 v4 v6:V} {lb:Bool} {lc:Nat} {l:List Va} {h0:Hp} (nb:b1.num<(nxt h0).num) (m1:blk h0 b1=.cells [v0,v1,v2,v3,v4,slR lb lc (AB l) l.length,v6]) (hl:Ax l≤L):
  ∀(r:List Va) (i M:Nat) (t:T V) (h:Hp) (a dp:Nat),l.drop i=r→i+r.length=l.length→r.length+1≤M→BC r≤D→Ax r≤L→a+Ht r≤9223372036854775807→Ah h0 h→
  T.get und (K.of 1) t=.ptr b1 0→T.get und (K.of 4) t=.int .i64 (.ofNat a)→T.get und (K.of 5) t=.int .i64 (.ofNat dp)→T.get und (K.of 6) t=.int .i64 (.ofNat i)→
  (∀t1 h1,Ah h0 h1→T.get und (K.of 1) t1=.ptr b1 0→T.get und (K.of 4) t1=.int .i64 (.ofNat (a+Ht r))→T.get und (K.of 5) t1=.int .i64 (.ofNat (max dp (BC r)))→k (.exit 0) t1 d h1=true)→
  iter (exec (call E (L+1) n) (L+1) fi Kw) M t d h k=true:=by
 intro r;have hll:=AI l;induction r with
 |nil=>intro i M t h a dp hr hi hM hd hb ha K0 g1 g4 g5 g6 hk;obtain ⟨M,rfl⟩:=pM M;have mb:blk h b1=_:=(K0.old b1 nb).trans m1;have hi':(i<l.length)=False:=eq_false (by simp at hi;omega);rw[Ab,Kw];refine Tst (J4 g1 g6 mb hi') ?_;refine hk _ _ K0 ?_ ?_ ?_<;>simp -implicitDefEqProofs (disch:=exact tD) only[↓sD,sB,↓reduceIte,Nat.reduceEqDiff,reduceCtorEq,Nat.reduceLT,Nat.reduceMul,Nat.reduceAdd,g1,g4,g5,Ht,BC,Nat.add_zero,Nat.max_zero]
 |cons x r ih=>
  intro i M t h a dp hr hi hM hd hb ha K0 g1 g4 g5 g6 hk;obtain ⟨M,rfl⟩:=pM M;simp only[List.length_cons] at hi hM;simp only[BC,Ax,Ht] at hd hb ha;have mb:blk h b1=_:=(K0.old b1 nb).trans m1;have hi':(i<l.length)=True:=eT;have e1:=fun c h=>DD (c:=c) (h:=h) (Ap hr);rw[Ab,Kw];refine Tst (J5 g1 g6 mb hi' e1) ?_;refine hS x _ _ tO tO (fun h1 K1=>?_);refine Sst (J4 g4 g5 g6 @mxn_nat) ?_;refine ih (i+1) _ _ _ (a+x.cnt) (max dp x.dep) (Al hr) tO tO tO tO tO (K0.trans K1) ?_ ?_ ?_ ?_ (fun t1 h1 K2 u1 u4 u5=>hk t1 h1 K2 u1 ?_ ?_)
  ·exact Ssc g1
  ·exact Ag
  ·exact Ssc @ifmax
  ·exact Ag
  ·rw[u4,Ht,Nat.add_assoc]
  ·rw[u5,BC,Nat.max_assoc]
theorem loop1152_1 {D:Nat} (hS:SizeR E L n D) (hL9:L≤9223372036854775807) {b1:K} {v0 v1 v2 v3 v4 v5:V} {lb:Bool} {lc:Nat} {l:List Va} {h0:Hp} (nb:b1.num<(nxt h0).num) (m1:blk h0 b1=.cells [v0,v1,v2,v3,v4,v5,slR lb lc (AB l) l.length]) (hl:Ax l≤L):
  ∀(r:List Va) (i M:Nat) (t:T V) (h:Hp) (a dp:Nat),l.drop i=r→i+r.length=l.length→r.length+1≤M→BC r≤D→Ax r≤L→a+Ht r≤9223372036854775807→Ah h0 h→
  T.get und (K.of 1) t=.ptr b1 0→T.get und (K.of 4) t=.int .i64 (.ofNat a)→T.get und (K.of 5) t=.int .i64 (.ofNat dp)→T.get und (K.of 9) t=.int .i64 (.ofNat i)→
  (∀t1 h1,Ah h0 h1→T.get und (K.of 1) t1=.ptr b1 0→T.get und (K.of 4) t1=.int .i64 (.ofNat (a+Ht r))→T.get und (K.of 5) t1=.int .i64 (.ofNat (max dp (BC r)))→k (.exit 2) t1 d h1=true)→
  iter (exec (call E (L+1) n) (L+1) fi Kv) M t d h k=true:=by
 intro r;have hll:=AI l;induction r with
 |nil=>intro i M t h a dp hr hi hM hd hb ha K0 g1 g4 g5 g6 hk;obtain ⟨M,rfl⟩:=pM M;have mb:blk h b1=_:=(K0.old b1 nb).trans m1;have hi':(i<l.length)=False:=eq_false (by simp at hi;omega);rw[Ab,Kv];refine Tst (J4 g1 g6 mb hi') ?_;refine hk _ _ K0 ?_ ?_ ?_<;>simp -implicitDefEqProofs (disch:=exact tD) only[↓sD,sB,↓reduceIte,Nat.reduceEqDiff,reduceCtorEq,Nat.reduceLT,Nat.reduceMul,Nat.reduceAdd,g1,g4,g5,Ht,BC,Nat.add_zero,Nat.max_zero]
 |cons x r ih=>
  intro i M t h a dp hr hi hM hd hb ha K0 g1 g4 g5 g6 hk;obtain ⟨M,rfl⟩:=pM M;simp only[List.length_cons] at hi hM;simp only[BC,Ax,Ht] at hd hb ha;have mb:blk h b1=_:=(K0.old b1 nb).trans m1;have hi':(i<l.length)=True:=eT;have e1:=fun c h=>DD (c:=c) (h:=h) (Ap hr);rw[Ab,Kv];refine Tst (J5 g1 g6 mb hi' e1) ?_;refine hS x _ _ tO tO (fun h1 K1=>?_);refine Sst (J4 g4 g5 g6 @mxn_nat) ?_;refine ih (i+1) _ _ _ (a+x.cnt) (max dp x.dep) (Al hr) tO tO tO tO tO (K0.trans K1) ?_ ?_ ?_ ?_ (fun t1 h1 K2 u1 u4 u5=>hk t1 h1 K2 u1 ?_ ?_)
  ·exact Ssc g1
  ·exact Ag
  ·exact Ssc @ifmax
  ·exact Ag
  ·rw[u4,Ht,Nat.add_assoc]
  ·rw[u5,BC,Nat.max_assoc]
theorem sizeR_ok (hF:Hns E) (hL9:L≤9223372036854775800):∀(D n:Nat),SizeR E L (n+D+1) D:=by
 intro D;induction D with
 |zero=>intro n x y h hd;cases x;simp only[Va.dep] at hd;omega
 |succ D ih=>
  intro n x h kc hd hb hk;obtain ⟨kind,nn,neg,db,dc,dd,s,lb,lc,l,mb,mc,m⟩:=x;simp only[Va.dep] at hd;simp only[Va.bulk] at hb;rw[Va.cnt,Va.dep] at hk;have hl:=AI l;have hm:=AI m;have cl:=Hs l;have cm:=Hs m;rw[show n+(D+1)+1=(n+D+1)+1 by omega];simp only[Va.cells];rw[Af hF.f1152,c1152,r1152,p1152_0,p1152_1,p1152_2,p1152_3,p1152_4,p1152_5];have K0:Ah h (h.upd (nxt h) (.cells [.int .i64 kind,.int .i64 nn,.bool neg,slR db dc (AL dd) dd.length,.str s,slR lb lc (AB l) l.length,slR mb mc (AB m) m.length])).bump:=kO;refine Sst @Ae ?_;refine loop1152_0 (ih n) tO (b1:=nxt h) (v0:=.int .i64 kind) (v1:=.int .i64 nn) (v2:=.bool neg) (v3:=slR db dc (AL dd) dd.length) (v4:=.str s) (v6:=slR mb mc (AB m) m.length) (lb:=lb) (lc:=lc) (l:=l) (h0:=(h.upd (nxt h) (.cells [.int .i64 kind,.int .i64 nn,.bool neg,slR db dc (AL dd) dd.length,.str s,slR lb lc (AB l) l.length,slR mb mc (AB m) m.length])).bump) tN (Ag) tO l 0 _ _ _ 1 0 rfl tO tO tO tO tO (.refl _) ?_ ?_ ?_ ?_ (fun t1 h1 K1 u1 u4 u5=>?_)
  ·exact Ag
  ·exact Ag
  ·exact Ag
  ·exact Ag
  refine Sst @Ae ?_;refine loop1152_1 (ih n) tO (b1:=nxt h) (v0:=.int .i64 kind) (v1:=.int .i64 nn) (v2:=.bool neg) (v3:=slR db dc (AL dd) dd.length) (v4:=.str s) (v5:=slR lb lc (AB l) l.length) (lb:=mb) (lc:=mc) (l:=m) (h0:=(h.upd (nxt h) (.cells [.int .i64 kind,.int .i64 nn,.bool neg,slR db dc (AL dd) dd.length,.str s,slR lb lc (AB l) l.length,slR mb mc (AB m) m.length])).bump) tN (Ag) tO m 0 _ _ _ (1+Ht l) (max 0 (BC l)) rfl tO tO tO tO tO K1 ?_ ?_ ?_ ?_ (fun t2 h2 K2 w1 w4 w5=>?_)
  ·exact Ssc u1
  ·exact Ssc u4
  ·exact Ssc u5
  ·exact Ag
  have dl:=Ge l;have dm:=Ge m;have hz:max 0 (BC l)=BC l:=Nat.zero_max _;rw[hz] at w5;refine Sst (J2 w4 w5) ?_;rw[Nat.add_comm (max (BC l) (BC m)) 1];exact hk _ (K0.trans K2)
theorem call1152 (hF:Hns E) (hL9:L≤9223372036854775800) {x:Va} {D:Nat} (hd:x.dep≤D) (hb:x.bulk≤L) (hn:D+1≤n) (hk:∀h1,Ah h h1→kc (.ret (.tup [.int .i64 (.ofNat x.cnt),.int .i64 (.ofNat x.dep)])) none h1=true):
  call E (L+1) n (.fn 152) [.agg x.cells] none h kc=true:=by
 obtain ⟨m,rfl⟩:∃m,n=m+D+1:=⟨n-(D+1),by omega⟩
 exact sizeR_ok hF hL9 D m x h kc hd hb hk
theorem loop1207 (hF:Hns E) (hL9:L≤9223372036854775807) {D:Nat} (hn:2*D+4≤n) {b:Bool} {cp:Nat} {s:List Va} (hs:s.length≤9223372036854775807) {h0:Hp}:
  ∀(r:List Va) (x:Va) (i M:Nat) (t:T V) (h:Hp),s.drop i=x::r→i+1+r.length=s.length→r.length+1≤M→x.dep≤D→x.bulk≤L→BC r≤D→Ax r≤L→Ah h0 h→
  T.get und (K.of 0) t=slR b cp (AB s) s.length→T.get und (K.of 3) t=.int .i64 (.ofNat (i+1))→
  (ris (x::r)=true→∀t1 h1,Ah h0 h1→k (.exit 0) t1 d h1=true)→
  (ris (x::r)=false→∀t1 h1,Ah h0 h1→T.get und (K.of 2) t1=.bool false→k .ret t1 d h1=true)→
  iter (exec (call E (L+3) n) (L+3) fi HL) M t d h k=true:=by
 intro r;induction r with
 |nil=>intro x i M t h hr hi hM hxd hxb hd hb K0 g0 g3 hk hf;obtain ⟨M,rfl⟩:=pM M;have hi':(i+1<s.length)=False:=eq_false (by simp at hi;omega);rw[Ab,HL];refine Tst (J3 g0 g3 hi') ?_;exact hk rfl _ _ K0
 |cons y r ih=>
  intro x i M t h hr hi hM hxd hxb hd hb K0 g0 g3 hk hf;obtain ⟨M,rfl⟩:=pM M;simp only[List.length_cons] at hi hM;simp only[BC,Ax] at hd hb;have hi':(i+1<s.length)=True:=eT;have e1:=fun c h=>DD (c:=c) (h:=h) (Ap hr);have e2:=fun c h=>DD (c:=c) (h:=h) (Ap (Al hr));have e3:Ai .i64 (Int.sub (.ofNat (i+1)) (.ofNat 1))=.ofNat i:=Bn (i:=i+1) tO;rw[Ab,HL];refine Tst (J7 g0 g3 hi' e3 e1 e2 @Eb) ?_;refine call1095 hF hL9 hxd hxb tO hn (fun h1 K1=>?_);rw[ris_cons] at hk hf;cases hc:ltI (x.cmp y) (.ofNat 0)
  ·refine Sst hc ?_;refine hf (by rw[hc];rfl) _ _ (K0.trans K1) ?_;exact Ag
  ·rw[hc,Bool.true_and] at hk hf;refine Sst (J2 hc g3) ?_;refine ih y (i+1) _ _ _ (Al hr) tO tO tO tO tO tO (K0.trans K1) ?_ ?_ hk hf
   ·exact Ssc g0
   ·exact Ag
theorem call1207 (hF:Hns E) (hL9:L≤9223372036854775800) {D:Nat} (hn:2*D+4≤n) {b:Bool} {cp:Nat} {s:List Va} (hs:s.length≤L) (hd:BC s≤D) (hb:Ax s≤L)
  (hk:∀h1,Ah h h1→kc (.ret (.bool (ris s))) none h1=true):
  call E (L+3) (n+1) (.fn 207) [slR b cp (AB s) s.length] none h kc=true:=by
 rw[Af hF.f1207,c1207,r1207,p1207_0,p1207_1,p1207_2];cases s with
 |nil=>simp -implicitDefEqProofs (disch:=exact tD) only[↓sD,sB,↓reduceIte,Nat.reduceEqDiff,reduceCtorEq,Nat.reduceLT,Nat.reduceMul,Nat.reduceAdd,Ae,Ab,HL,Aj,List.length_nil,Nat.not_lt_zero,decide_false];exact hk h (.refl h)
 |cons x r=>
  simp only[BC,Ax] at hd hb;refine Sst @Ae ?_;refine loop1207 hF tO hn (b:=b) (cp:=cp) (s:=x::r) tO r x 0 _ _ _ rfl (by simp;omega) (by simp at hs;omega) tO tO tO tO (.refl h) ?_ ?_ (fun hr t1 h1 K1=>?_) (fun hr t1 h1 K1 g2=>?_)
  ·exact Ag
  ·exact Ag
  ·have hk1:=hk h1 K1;rw[hr] at hk1;refine Be ?_;exact hk1
  ·have hk1:=hk h1 K1;rw[hr] at hk1;refine Sst g2 ?_;exact hk1
end
end Go.AJ
namespace Go.AJ
open Go
set_option maxRecDepth 100000
def DE:Va→Bool
 |.mk kind n neg _ _ d s _ _ _ _ _ _=>
  if Ar kind (.ofNat 1)=true then (Ar n (.ofNat 0)||Ar n (.ofNat 1))&& !(neg||decide (0<d.length))&&CD s []
  else if Ar kind (.ofNat 2)=true then Ar n (.ofNat 0)&&C6 neg d&&CD s []
  else if Ar kind (.ofNat 3)=true then Ar n (.ofNat 0)&& !(neg||decide (0<d.length))&&CH s
  else if Ar kind (.ofNat 4)=true then Ar n (.ofNat 0)&& !(neg||decide (0<d.length))&&Bv s
  else if (Ar kind (.ofNat 5)||Ar kind (.ofNat 6))=true then Ar n (.ofNat 0)&& !(neg||decide (0<d.length))&&CD s []
  else false
def F5:Va→Bool
 |.mk kind _ _ _ _ _ _ _ _ l _ _ m=>
  if (!Ar kind (.ofNat 5)&& !Ar kind (.ofNat 6))=true then decide (l.length=0)&&decide (m.length=0)
  else !decide (4000<l.length)&& !(Ar kind (.ofNat 5)&& !decide (m.length=0))&& !(Ar kind (.ofNat 6)&& !decide (m.length=l.length))&&BB l&&BB m&&ris l
theorem good_eq:∀x:Va,x.good=(DE x&&F5 x)
 |.mk kind n neg db dc d s lb lc l mb mc m=>by
  have z:decide (l.length+m.length=0)=(decide (l.length=0)&&decide (m.length=0)):=by by_cases h1:l.length=0<;>by_cases h2:m.length=0<;>simp [h1,h2]
  have zz:(decide (l.length=0)&&decide (m.length=0)&&BB l&&BB m)=(decide (l.length=0)&&decide (m.length=0)):=by cases l<;>cases m<;>simp [BB]
  have z3:(!decide (0<l.length+m.length))=(decide (l.length=0)&&decide (m.length=0)):=by by_cases h1:l.length=0<;>by_cases h2:m.length=0<;>simp [h1,h2]<;>omega
  rw[Va.good,AM,DE,F5,z,z3];by_cases k1:Ar kind (.ofNat 1)=true
  ·have e:=Ay.1 k1;subst e;simp only[show Ar (Int.ofNat 1) (.ofNat 1)=true from rfl,show Ar (Int.ofNat 1) (.ofNat 5)=false from rfl,show Ar (Int.ofNat 1) (.ofNat 6)=false from rfl,if_true,Bool.not_false,Bool.and_self];generalize ((Ar n (.ofNat 0)||Ar n (.ofNat 1))&& !(neg||decide (0<d.length))&&CD s [])=A at*;cases A<;>simp only[Bool.false_and,Bool.true_and,zz]
  rw[if_neg k1,if_neg k1];by_cases k2:Ar kind (.ofNat 2)=true
  ·have e:=Ay.1 k2;subst e;simp only[show Ar (Int.ofNat 2) (.ofNat 2)=true from rfl,show Ar (Int.ofNat 2) (.ofNat 5)=false from rfl,show Ar (Int.ofNat 2) (.ofNat 6)=false from rfl,if_true,Bool.not_false,Bool.and_self];rw[Bool.and_comm (C6 neg d)];generalize (Ar n (.ofNat 0)&&C6 neg d&&CD s [])=A at*;cases A<;>simp only[Bool.false_and,Bool.true_and,zz]
  rw[if_neg k2,if_neg k2];by_cases k3:Ar kind (.ofNat 3)=true
  ·have e:=Ay.1 k3;subst e;simp only[show Ar (Int.ofNat 3) (.ofNat 3)=true from rfl,show Ar (Int.ofNat 3) (.ofNat 5)=false from rfl,show Ar (Int.ofNat 3) (.ofNat 6)=false from rfl,if_true,Bool.not_false,Bool.and_self];generalize (Ar n (.ofNat 0)&& !(neg||decide (0<d.length)))=A at*;cases A<;>cases CH s<;>simp only[Bool.false_and,Bool.true_and,Bool.and_false,Bool.and_true,zz]
  rw[if_neg k3,if_neg k3];by_cases k4:Ar kind (.ofNat 4)=true
  ·have e:=Ay.1 k4;subst e;simp only[show Ar (Int.ofNat 4) (.ofNat 4)=true from rfl,show Ar (Int.ofNat 4) (.ofNat 5)=false from rfl,show Ar (Int.ofNat 4) (.ofNat 6)=false from rfl,if_true,Bool.not_false,Bool.and_self];generalize (Ar n (.ofNat 0)&& !(neg||decide (0<d.length)))=A at*;cases A<;>cases Bv s<;>simp only[Bool.false_and,Bool.true_and,Bool.and_false,Bool.and_true,zz]
  rw[if_neg k4,if_neg k4];by_cases k5:Ar kind (.ofNat 5)=true
  ·have e:=Ay.1 k5;subst e;simp only[show Ar (Int.ofNat 5) (.ofNat 5)=true from rfl,show Ar (Int.ofNat 5) (.ofNat 6)=false from rfl,if_true,Bool.not_true,Bool.false_and,Bool.true_or,Bool.true_and,Bool.not_false,Bool.and_true,Bool.false_eq_true,if_false,Bool.not_not,BZ];generalize (Ar n (.ofNat 0)&& !(neg||decide (0<d.length))&&CD s [])=A at*;cases A<;>cases ris l<;>cases BB l<;>cases BB m<;>simp
  rw[if_neg k5];have f5:Ar kind (.ofNat 5)=false:=by simpa using k5
  by_cases k6:Ar kind (.ofNat 6)=true
  ·have e:=Ay.1 k6;subst e;simp only[show Ar (Int.ofNat 6) (.ofNat 6)=true from rfl,show Ar (Int.ofNat 6) (.ofNat 5)=false from rfl,if_true,Bool.not_true,Bool.and_false,Bool.or_true,Bool.true_and,Bool.not_false,Bool.and_true,Bool.false_and,Bool.false_eq_true,if_false,Bool.not_not,BZ];generalize (Ar n (.ofNat 0)&& !(neg||decide (0<d.length))&&CD s [])=A at*;cases A<;>cases ris l<;>cases BB l<;>cases BB m<;>simp
  ·have f6:Ar kind (.ofNat 6)=false:=by simpa using k6
   rw[if_neg k6,f5,f6];simp
end Go.AJ
namespace Go.AJ
open Go
set_option maxRecDepth 100000
section
variable {E:Env} {L n:Nat} {h:Hp} {kc:KC} {t:T V} {d:Dc} {k:KE} {fi:FI} {c:KV} {C:Av}
theorem call1206 (hF:Hns E) (hL9:L≤9223372036854775800):∀{x:Va} (hb:x.bulk≤L) (hk:∀h1,Ah h h1→kc (.ret (.bool (DE x))) none h1=true),
  call E (L+1) (n+2) (.fn 206) [.agg x.cells] none h kc=true
 |.mk kind n0 neg db dc dd s lb lc l mb mc m,hb,hk=>by
  simp only[Va.bulk] at hb;simp only[Va.cells];rw[Af hF.f1206,c1206,r1206,p1206_0,p1206_1,p1206_2];have K0:Ah h (h.upd (nxt h) (.cells [.int .i64 kind,.int .i64 n0,.bool neg,slR db dc (AL dd) dd.length,.str s,slR lb lc (AB l) l.length,slR mb mc (AB m) m.length])).bump:=kO;have fin:∀{b:Bool} {h1:Hp},Ah (h.upd (nxt h) (.cells [.int .i64 kind,.int .i64 n0,.bool neg,slR db dc (AL dd) dd.length,.str s,slR lb lc (AB l) l.length,slR mb mc (AB m) m.length])).bump h1→DE (.mk kind n0 neg db dc dd s lb lc l mb mc m)=b→kc (.ret (.bool b)) none h1=true:=fun K e=>by rw[←e];exact hk _ (K0.trans K)
  have kb:∀{h1:Hp},Ah (h.upd (nxt h) (.cells [.int .i64 kind,.int .i64 n0,.bool neg,slR db dc (AL dd) dd.length,.str s,slR lb lc (AB l) l.length,slR mb mc (AB m) m.length])).bump h1→blk h1 (nxt h)=.cells [.int .i64 kind,.int .i64 n0,.bool neg,slR db dc (AL dd) dd.length,.str s,slR lb lc (AB l) l.length,slR mb mc (AB m) m.length]:=fun K=>by rw[K.old (nxt h) tN];exact Ag
  cases k1:Ar kind (.ofNat 1)
  case true=>
   have hv:=show DE (.mk kind n0 neg db dc dd s lb lc l mb mc m)=_ by rw[DE,if_pos k1]
   cases a:Ar n0 (.ofNat 0)
   ·cases b:Ar n0 (.ofNat 1)
    ·refine Sst (J3 k1 a b) ?_;exact fin (.refl _) (by rw[hv,a,b];simp)
    ·refine Sst (J3 k1 a b) ?_;refine EO hF (fun h1 K1=>?_);have m1:=kb K1;cases hN:(!(neg||decide (0<dd.length)))
     ·refine Be ?_;exact fin K1 (by rw[hv,a,b,hN];simp)
     ·refine Sst m1 ?_;exact fin K1 (by rw[hv,a,b,hN];simp)
   ·refine Sst (J2 k1 a) ?_;refine EO hF (fun h1 K1=>?_);have m1:=kb K1;cases hN:(!(neg||decide (0<dd.length)))
    ·refine Be ?_;exact fin K1 (by rw[hv,a,hN];simp)
    ·refine Sst m1 ?_;exact fin K1 (by rw[hv,a,hN];simp)
  cases k2:Ar kind (.ofNat 2)
  case true=>
   have hv:=show DE (.mk kind n0 neg db dc dd s lb lc l mb mc m)=_ by rw[DE,if_neg (by rw[k1];simp),if_pos k2]
   cases a:Ar n0 (.ofNat 0)
   ·refine Sst (J3 k1 k2 a) ?_;exact fin (.refl _) (by rw[hv,a];simp)
   ·refine Sst (J3 k1 k2 a) ?_;refine call1310 hF tO tO (fun h1 K1=>?_);have m1:=kb K1;cases hN:C6 neg dd
    ·refine Be ?_;exact fin K1 (by rw[hv,a,hN];simp)
    ·refine Sst m1 ?_;exact fin K1 (by rw[hv,a,hN];simp)
  cases k3:Ar kind (.ofNat 3)
  case true=>
   have hv:=show DE (.mk kind n0 neg db dc dd s lb lc l mb mc m)=_ by rw[DE,if_neg (by rw[k1];simp),if_neg (by rw[k2];simp),if_pos k3]
   cases a:Ar n0 (.ofNat 0)
   ·refine Sst (J4 k1 k2 k3 a) ?_;exact fin (.refl _) (by rw[hv,a];simp)
   ·refine Sst (J4 k1 k2 k3 a) ?_;refine EO hF (fun h1 K1=>?_);have m1:=kb K1;cases hN:(!(neg||decide (0<dd.length)))
    ·refine Be ?_;exact fin K1 (by rw[hv,a,hN];simp)
    ·refine Sst m1 ?_;refine call1311 hF tO tO ?_;refine Be ?_;exact fin K1 (by rw[hv,a,hN];simp)
  cases k4:Ar kind (.ofNat 4)
  case true=>
   have hv:=show DE (.mk kind n0 neg db dc dd s lb lc l mb mc m)=_ by rw[DE,if_neg (by rw[k1];simp),if_neg (by rw[k2];simp),if_neg (by rw[k3];simp),if_pos k4]
   cases a:Ar n0 (.ofNat 0)
   ·refine Sst (J5 k1 k2 k3 k4 a) ?_;exact fin (.refl _) (by rw[hv,a];simp)
   ·refine Sst (J5 k1 k2 k3 k4 a) ?_;refine EO hF (fun h1 K1=>?_);have m1:=kb K1;cases hN:(!(neg||decide (0<dd.length)))
    ·refine Be ?_;exact fin K1 (by rw[hv,a,hN];simp)
    ·refine Sst m1 ?_;refine call1312 hF tO tO ?_;refine Be ?_;exact fin K1 (by rw[hv,a,hN];simp)
  cases k5:Ar kind (.ofNat 5)
  case true=>
   have hv:=show DE (.mk kind n0 neg db dc dd s lb lc l mb mc m)=_ by rw[DE,if_neg (by rw[k1];simp),if_neg (by rw[k2];simp),if_neg (by rw[k3];simp),if_neg (by rw[k4];simp),if_pos (by rw[k5];rfl)]
   cases a:Ar n0 (.ofNat 0)
   ·refine Sst (J6 k1 k2 k3 k4 k5 a) ?_;exact fin (.refl _) (by rw[hv,a];simp)
   ·refine Sst (J6 k1 k2 k3 k4 k5 a) ?_;refine EO hF (fun h1 K1=>?_);have m1:=kb K1;cases hN:(!(neg||decide (0<dd.length)))
    ·refine Be ?_;exact fin K1 (by rw[hv,a,hN];simp)
    ·refine Sst m1 ?_;exact fin K1 (by rw[hv,a,hN];simp)
  cases k6:Ar kind (.ofNat 6)
  case true=>
   have hv:=show DE (.mk kind n0 neg db dc dd s lb lc l mb mc m)=_ by rw[DE,if_neg (by rw[k1];simp),if_neg (by rw[k2];simp),if_neg (by rw[k3];simp),if_neg (by rw[k4];simp),if_pos (by rw[k6,Bool.or_true])]
   cases a:Ar n0 (.ofNat 0)
   ·refine Sst (J7 k1 k2 k3 k4 k5 k6 a) ?_;exact fin (.refl _) (by rw[hv,a];simp)
   ·refine Sst (J7 k1 k2 k3 k4 k5 k6 a) ?_;refine EO hF (fun h1 K1=>?_);have m1:=kb K1;cases hN:(!(neg||decide (0<dd.length)))
    ·refine Be ?_;exact fin K1 (by rw[hv,a,hN];simp)
    ·refine Sst m1 ?_;exact fin K1 (by rw[hv,a,hN];simp)
  refine Sst (J6 k1 k2 k3 k4 k5 k6) ?_;exact fin (.refl _) (by rw[DE,if_neg (by rw[k1];simp),if_neg (by rw[k2];simp),if_neg (by rw[k3];simp),if_neg (by rw[k4];simp),if_neg (by rw[k5,k6];simp)])
end
end Go.AJ
