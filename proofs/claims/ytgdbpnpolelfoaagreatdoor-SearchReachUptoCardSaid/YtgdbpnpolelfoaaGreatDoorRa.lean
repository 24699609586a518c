/- The reference: values are compared. -/
import Derived.Test.YtgdbpnpolelfoaaGreatDoorCodeB
import Derived.Test.YtgdbpnpolelfoaaGreatDoorOa
set_option linter.all false
namespace Go.AJ
open Go
set_option maxRecDepth 100000
section
variable {E:Env} {L n:Nat} {h:Hp} {kc:KC} {t:T V} {d:Dc} {k:KE} {fi:FI} {c:KV}
theorem FQ (hF:Hns E) {a b:Int}:call E (L+1) (n+1) (.fn 148) [.int .i64 a,.int .i64 b] none h kc=kc (.ret (.int .i64 (Cf a b))) none h:=by rw[Af hF.f1148,c1148,r1148,p1148_0,p1148_1,p1148_2,p1148_3];cases h1:ltI a b<;>cases h2:ltI b a<;>simp -implicitDefEqProofs (disch:=exact tD) only[↓sD,sB,↓reduceIte,Nat.reduceEqDiff,reduceCtorEq,Nat.reduceLT,Nat.reduceMul,Nat.reduceAdd,h1,h2,Cf]
theorem op_cmpStr {C:Av} {ks:KS} {kp:KP} {x y:X} {dst:Option K}:AW C (.cmpStr x y) dst t d h ks kp=Dj (ev t x) (ev t y) h (kv dst t d ks):=rfl
theorem ltL_tot (a b:List Nat):ltL a b=true∨CD a b=true∨ltL b a=true:=by
 rcases cmpS_sg a b with h|h|h
 ·left;rw[Hx] at h;by_cases h1:ltL a b=true
  ·exact h1
  ·rw[if_neg h1] at h;split at h<;>cases h
 ·right;left;exact BV.2 (Hv h)
 ·right;right;rw[Hx] at h;by_cases h1:ltL a b=true
  ·rw[if_pos h1] at h;cases h
  ·rw[if_neg h1] at h;by_cases h2:ltL b a=true
   ·exact h2
   ·rw[if_neg h2] at h;cases h
theorem cmpStr_eq {a b:List Nat}:Dj (.str a) (.str b) h c=c (.int .i64 (EY a b)) h:=by
 simp only[Dj];cases h1:ltL a b
 ·cases h2:CD a b
  ·have h3:ltL b a=true:=by
    rcases ltL_tot a b with h|h|h
    ·rw[h] at h1;cases h1
    ·rw[h] at h2;cases h2
    ·exact h
   have:EY a b=.ofNat 1:=by rw[Hx,h1,h3];rfl
   rw[this]
  ·rw[BV.1 h2,Cn];rfl
 ·have:EY a b=.negSucc 0:=by rw[Hx,h1];rfl
  rw[this]
theorem call1205 (hF:Hns E) {a b:List Nat}:call E (L+1) (n+1) (.fn 205) [.str a,.str b] none h kc=kc (.ret (.int .i64 (EY a b))) none h:=by rw[Af hF.f1205,c1205,r1205,p1205_0,p1205_1];exact Ssc (J2 @op_cmpStr @cmpStr_eq)
theorem call1150 (hF:Hns E) {a b:List Nat}:call E (L+1) (n+2) (.fn 150) [.str a,.str b] none h kc=kc (.ret (.int .i64 (EY a b))) none h:=by rw[Af hF.f1150,c1150,r1150,p1150_0,p1150_1];simp -implicitDefEqProofs (disch:=exact tD) only[↓sD,sB,↓reduceIte,Nat.reduceEqDiff,reduceCtorEq,Nat.reduceLT,Nat.reduceMul,Nat.reduceAdd,call1205 hF]
theorem loop1204 (hF:Hns E) {xa xb:Bool} {ca cb:Nat} {a b:List Int} (hb:a.length≤9223372036854775807) (hab:a.length=b.length):
  ∀(i:Nat) (M:Nat) (t:T V),i≤a.length→i+1≤M→T.get und (K.of 0) t=slR xa ca (AL a) a.length→T.get und (K.of 1) t=slR xb cb (AL b) b.length→T.get und (K.of 5) t=.int .i64 (dec i)→
  (Gx a b i=0→∀t1,k (.exit 0) t1 d h=true)→(∀t1,T.get und (K.of 4) t1=.int .i64 (Gx a b i)→k .ret t1 d h=true)→
  iter (exec (call E (L+1) (n+1)) (L+1) fi Kr) M t d h k=true:=by
 intro i;induction i with
 |zero=>intro M t hi hM g0 g1 g5 hk hr;obtain ⟨M,rfl⟩:=pM M;rw[Ab,Kr];refine Sst (J3 g5 @JW @Bw) ?_;exact hk rfl _
 |succ i ih=>
  intro M t hi hM g0 g1 g5 hk hr;obtain ⟨M,rfl⟩:=pM M;have e1:=fun c h=>AS (c:=c) (h:=h) (Bc (l:=a) (i:=i) tO);have e2:=fun c h=>AS (c:=c) (h:=h) (Bc (l:=b) (i:=i) tO);rw[Ab,Kr];rw[Gx] at hk hr;cases hc:Ar (a.getD i 0) (b.getD i 0)
  ·have hne:Cf (a.getD i 0) (b.getD i 0)≠0:=fun e=>by rw[CJ.1 e,Bp] at hc;cases hc
   simp -implicitDefEqProofs (disch:=exact tD) only[↓sD,sB,↓reduceIte,Nat.reduceEqDiff,reduceCtorEq,Nat.reduceLT,Nat.reduceMul,Nat.reduceAdd,g0,g1,g5,CE,Aj,Nat.not_lt_zero,decide_false,AR,e1,e2,hc,FQ hF];refine hr _ ?_;refine Be ?_;rw[AY,if_neg hne]
  ·have he:=Ay.1 hc;rw[he,AV,AY,if_pos rfl] at hk hr;refine Tst (J9 g0 g1 g5 @CE @Nat.not_lt_zero e1 e2 hc @Bn) ?_;refine ih M _ tO tO ?_ ?_ ?_ hk hr
   ·exact Ssc g0
   ·exact Ssc g1
   ·exact Ssc @Bn
theorem call1204 (hF:Hns E) {xa xb:Bool} {ca cb:Nat} {a b:List Int} (hL:a.length≤L) (hb:a.length≤9223372036854775807)
  (hk:kc (.ret (.int .i64 (Hu a b))) none h=true):
  call E (L+1) (n+2) (.fn 204) [slR xa ca (AL a) a.length,slR xb cb (AL b) b.length] none h kc=true:=by
 rw[Af hF.f1204,c1204,r1204,p1204_0,p1204_1,p1204_2,p1204_3];by_cases hab:a.length=b.length
 ·have hz:Hu a b=Gx a b a.length:=by rw[Hu,hab,AV,AY,if_pos rfl]
  rw[hz] at hk;refine Sst (J3 hab @Bp @Ae) ?_;refine loop1204 hF (xa:=xa) (xb:=xb) (ca:=ca) (cb:=cb) (a:=a) (b:=b) hb hab a.length _ _ (Nat.le_refl _) tO ?_ ?_ ?_ (fun hz t1=>?_) (fun t1 g4=>?_)
  ·exact Ssc hab
  ·exact Ag
  ·exact Ssc (J2 @Bn hab)
  ·refine Be ?_;rw[hz] at hk;exact hk
  ·refine Sst g4 ?_;exact hk
 ·have hne:Cf (.ofNat a.length) (.ofNat b.length)≠0:=fun e=>hab (lens e);have hc:Ar (.ofNat a.length) (.ofNat b.length)=false:=by rw[AG];exact decide_eq_false hab
  simp -implicitDefEqProofs (disch:=exact tD) only[↓sD,sB,↓reduceIte,Nat.reduceEqDiff,reduceCtorEq,Nat.reduceLT,Nat.reduceMul,Nat.reduceAdd,hc,FQ hF];rw[Hu,AY,if_neg hne] at hk;exact hk
theorem call1149 (hF:Hns E) {na nb xa xb:Bool} {ca cb:Nat} {a b:List Int} (hL:a.length≤L) (hL':b.length≤L) (hb:a.length≤9223372036854775807) (hb':b.length≤9223372036854775807)
  (hk:∀h1,Ah h h1→kc (.ret (.int .i64 (BK na nb a b))) none h1=true):
  call E (L+1) (n+3) (.fn 149) [.agg [.bool na,slR xa ca (AL a) a.length],.agg [.bool nb,slR xb cb (AL b) b.length]] none h kc=true:=by
 rw[Af hF.f1149,c1149,r1149,p1149_0,p1149_1,p1149_2,p1149_3];have K1:Ah h ((h.upd (nxt h) (.cells [.bool na,slR xa ca (AL a) a.length])).upd (nxt h).succ (.cells [.bool nb,slR xb cb (AL b) b.length])).bump.bump:=kO;have hk1:=hk _ K1;rw[Co] at hk1;by_cases hn:na=nb
 ·subst hn;rw[if_pos rfl] at hk1;cases na
  ·refine Sst @bne_self_eq_false.{0} ?_;refine call1204 hF (n:=n) hL hb ?_;refine Be ?_;simpa using hk1
  ·refine Sst @bne_self_eq_false.{0} ?_;refine call1204 hF (n:=n) hL' hb' ?_;refine Be ?_;rw[FJ];simpa using hk1
 ·rw[if_neg hn] at hk1;cases na<;>cases nb<;>first|exact absurd rfl hn|(simp -implicitDefEqProofs (disch:=exact tD) only[↓sD,sB,↓reduceIte,Nat.reduceEqDiff,reduceCtorEq,Nat.reduceLT,Nat.reduceMul,Nat.reduceAdd,Bool.bne_true,Bool.bne_false];simpa using hk1)
end
end Go.AJ
namespace Go.AJ
open Go
set_option maxRecDepth 100000
section
variable {E:Env} {L n:Nat} {h:Hp} {kc:KC} {t:T V} {d:Dc} {k:KE} {fi:FI} {c:KV}
def CmpR (E:Env) (L n D:Nat):Prop:=∀(x y:Va) (h:Hp) (kc:KC),x.dep≤D→x.bulk≤L→y.bulk≤L→(∀h1,Ah h h1→kc (.ret (.int .i64 (x.cmp y))) none h1=true)→
 call E (L+3) n (.fn 95) [.agg x.cells,.agg y.cells] none h kc=true
theorem loop1151 (hF:Hns E) {D:Nat} (hC:CmpR E L n D) {lb mb:Bool} {lc mc:Nat} {l m:List Va} (hl:l.length≤9223372036854775807) (hlm:l.length=m.length) {h0:Hp}:
  ∀(lr mr:List Va) (i:Nat) (M:Nat) (t:T V) (h:Hp),l.drop i=lr→m.drop i=mr→BC lr≤D→Ax lr≤L→Ax mr≤L→lr.length+1≤M→i+lr.length=l.length→Ah h0 h→
  T.get und (K.of 0) t=slR lb lc (AB l) l.length→T.get und (K.of 1) t=slR mb mc (AB m) m.length→T.get und (K.of 5) t=.int .i64 (.ofNat i)→
  (Ea lr mr=0→∀t1 h1,Ah h0 h1→k (.exit 0) t1 d h1=true)→
  (∀t1 h1,Ah h0 h1→T.get und (K.of 4) t1=.int .i64 (Ea lr mr)→k .ret t1 d h1=true)→
  iter (exec (call E (L+3) n) (L+3) fi Kx) M t d h k=true:=by
 intro lr;induction lr with
 |nil=>intro mr i M t h hlr hmr hd hb hb' hM hi K0 g0 g1 g5 hk hr;obtain ⟨M,rfl⟩:=pM M;have hi':(i<l.length)=False:=eq_false (by simp at hi;omega);rw[Ab,Kx];refine Tst (J3 g0 g5 hi') ?_;exact hk (FN _) _ _ K0
 |cons x lr ih=>
  intro mr i M t h hlr hmr hd hb hb' hM hi K0 g0 g1 g5 hk hr;obtain ⟨M,rfl⟩:=pM M;simp only[List.length_cons] at hi hM;simp only[BC,Ax] at hd hb;have hi':(i<l.length)=True:=eT;have hx:l[i]? =some x:=by have:=congrArg (·[0]?) hlr;simpa using this
  obtain ⟨y,mr',rfl⟩:∃y mr',mr=y::mr':=by
   cases mr with
   |nil=>have:=congrArg List.length hmr;simp at this;omega
   |cons y mr'=>exact ⟨y,mr',rfl⟩
  simp only[Ax] at hb';have hy:m[i]? =some y:=by have:=congrArg (·[0]?) hmr;simpa using this
  have e1:=fun c h=>DD (c:=c) (h:=h) hx;have e2:=fun c h=>DD (c:=c) (h:=h) hy;have him:(i<m.length)=True:=eT;rw[Ab,Kx];rw[Cp] at hk hr;refine Tst (J8 g0 g1 g5 hi' him e1 e2 @Eb) ?_;refine hC x y _ _ tO tO tO (fun h1 K1=>?_);cases hc:Ar (x.cmp y) (.ofNat 0)
  ·have hne:x.cmp y≠0:=fun e=>by rw[e] at hc;cases hc
   rw[AY,if_neg hne] at hr;refine Sst hc ?_;refine hr _ _ (K0.trans K1) ?_;exact Ag
  ·have he:x.cmp y=0:=Ay.1 hc;rw[he,AY,if_pos rfl] at hk hr;refine Sst (J2 hc g5) ?_;refine ih mr' (i+1) _ _ _ ?_ ?_ tO tO tO tO tO (K0.trans K1) ?_ ?_ ?_ hk hr
   ·have:=congrArg (List.drop 1) hlr;simpa [List.drop_drop] using this
   ·have:=congrArg (List.drop 1) hmr;simpa [List.drop_drop] using this
   ·exact Ssc g0
   ·exact Ssc g1
   ·exact Ag
theorem call1151 (hF:Hns E) {D:Nat} (hC:CmpR E L (n+1) D) {lb mb:Bool} {lc mc:Nat} {l m:List Va} (hl:l.length≤9223372036854775807) (hd:BC l≤D) (hb:Ax l≤L) (hb':Ax m≤L) (hL:l.length≤L)
  (hk:∀h1,Ah h h1→kc (.ret (.int .i64 (FM l m))) none h1=true):
  call E (L+3) (n+2) (.fn 151) [slR lb lc (AB l) l.length,slR mb mc (AB m) m.length] none h kc=true:=by
 rw[Af hF.f1151,c1151,r1151,p1151_0,p1151_1,p1151_2,p1151_3];by_cases hlm:l.length=m.length
 ·have hz:FM l m=Ea l m:=by rw[GO,hlm,AV,AY,if_pos rfl]
  rw[hz] at hk;refine Sst (J3 hlm @Bp @Ae) ?_;refine loop1151 hF hC hl hlm (lb:=lb) (lc:=lc) (mb:=mb) (mc:=mc) (h0:=h) l m 0 _ _ _ (by simp) (by simp) hd hb hb' tO tO (.refl h) ?_ ?_ ?_ (fun hz t1 h1 K1=>?_) (fun t1 h1 K1 g4=>?_)
  ·exact Ssc hlm
  ·exact Ag
  ·exact Ag
  ·refine Be ?_;rw[hz] at hk;exact hk h1 K1
  ·refine Sst g4 ?_;exact hk h1 K1
 ·have hne:Cf (.ofNat l.length) (.ofNat m.length)≠0:=fun e=>hlm (lens e);have hc:Ar (.ofNat l.length) (.ofNat m.length)=false:=by rw[AG];exact decide_eq_false hlm
  simp -implicitDefEqProofs (disch:=exact tD) only[↓sD,sB,↓reduceIte,Nat.reduceEqDiff,reduceCtorEq,Nat.reduceLT,Nat.reduceMul,Nat.reduceAdd,hc,FQ hF];rw[GO,AY,if_neg hne] at hk;exact hk h (.refl h)
theorem cmpR_ok (hF:Hns E) (hL9:L≤9223372036854775807):∀(D n:Nat),CmpR E L (n+2*D+4) D:=by
 intro D;induction D with
 |zero=>intro n x y h kc hd;cases x;simp only[Va.dep] at hd;omega
 |succ D ih=>
  intro n x y h kc hd hb hb' hk;have ih':CmpR E L ((n+2*D+3)+1) D:=ih n;obtain ⟨kind,nn,neg,db,dc,dd,s,lb,lc,l,mb,mc,m⟩:=x;obtain ⟨kind',nn',neg',db',dc',dd',s',lb',lc',l',mb',mc',m'⟩:=y;simp only[Va.dep] at hd;simp only[Va.bulk] at hb hb';have hll:l.length≤Ax l:=AI l;have hml:m.length≤Ax m:=AI m;rw[Va.cmp_or] at hk;rw[show n+2*(D+1)+4=(n+2*D+5)+1 by omega];simp only[Va.cells];rw[Af hF.f1095,c1095,r1095,p1095_0,p1095_1,p1095_2,p1095_3,p1095_4,p1095_5,p1095_6,p1095_7];have K0:Ah h ((h.upd (nxt h) (.cells [.int .i64 kind,.int .i64 nn,.bool neg,slR db dc (AL dd) dd.length,.str s,slR lb lc (AB l) l.length,slR mb mc (AB m) m.length])).upd (nxt h).succ (.cells [.int .i64 kind',.int .i64 nn',.bool neg',slR db' dc' (AL dd') dd'.length,.str s',slR lb' lc' (AB l') l'.length,slR mb' mc' (AB m') m'.length])).bump.bump:=kO;cases h1:Ar kind kind'
  ·have hne:Cf kind kind'≠0:=fun e=>by rw[CJ.1 e,Bp] at h1;cases h1
   simp -implicitDefEqProofs (disch:=exact tD) only[↓sD,sB,↓reduceIte,Nat.reduceEqDiff,reduceCtorEq,Nat.reduceLT,Nat.reduceMul,Nat.reduceAdd,h1,FQ hF];rw[AY (orI _ _),AY (Cf kind kind'),if_neg hne,if_neg hne] at hk;exact hk _ K0
  have e1:=Ay.1 h1;subst e1;cases h2:Ar nn nn'
  ·have hne:Cf nn nn'≠0:=fun e=>by rw[CJ.1 e,Bp] at h2;cases h2
   simp -implicitDefEqProofs (disch:=exact tD) only[↓sD,sB,↓reduceIte,Nat.reduceEqDiff,reduceCtorEq,Nat.reduceLT,Nat.reduceMul,Nat.reduceAdd,h1,h2,FQ hF];rw[AY (orI _ _),AY (Cf kind kind),AV,if_pos rfl,if_neg hne] at hk;exact hk _ K0
  have e2:=Ay.1 h2;subst e2;rw[AV,AV,or00,AY 0,if_pos rfl] at hk;refine Sst (J2 h1 h2) ?_;refine call1149 hF (L:=L+2) (n:=n+2*D+2) (a:=dd) (b:=dd') tO tO tO tO (fun a1 K1=>?_);have n1:=K1.nx;simp only[nB] at n1;have m2:=K1.old (nxt h) tN;have m3:=K1.old (nxt h).succ tN;simp -implicitDefEqProofs (disch:=exact tD) only[↓sD,sB,↓reduceIte,Nat.reduceEqDiff,reduceCtorEq,Nat.reduceLT,Nat.reduceMul,Nat.reduceAdd] at m2 m3;have Ka:Ah h a1:=K0.trans K1;cases h3:Ar (BK neg neg' dd dd') (.ofNat 0)
  ·have hne:BK neg neg' dd dd'≠0:=fun e=>by rw[e] at h3;cases h3
   refine Sst h3 ?_;rw[AY (orI _ _),AY (BK neg neg' dd dd'),if_neg hne,if_neg hne] at hk;exact hk _ Ka
  have e3:BK neg neg' dd dd'=0:=Ay.1 h3;rw[e3,AY 0 (EY s s'),if_pos rfl] at hk;cases h4:Ar (EY s s') (.ofNat 0)
  ·have hne:EY s s'≠0:=fun e=>by rw[e] at h4;cases h4
   simp -implicitDefEqProofs (disch:=exact tD) only[↓sD,sB,↓reduceIte,Nat.reduceEqDiff,reduceCtorEq,Nat.reduceLT,Nat.reduceMul,Nat.reduceAdd,h3,h4,m2,m3,call1150 hF];rw[AY,if_neg hne] at hk;exact hk _ Ka
  have e4:EY s s'=0:=Ay.1 h4;rw[e4,AY 0,if_pos rfl,←GO,←GO] at hk;simp -implicitDefEqProofs (disch:=first|assumption|((try simp only[dB]);first|done|omega)) only[↓sD,sB,↓reduceIte,Nat.reduceEqDiff,reduceCtorEq,Nat.reduceLT,Nat.reduceMul,Nat.reduceAdd,h3,h4,m2,m3,call1150 hF];refine call1151 hF ih' tO tO tO tO tO (fun a2 K2=>?_);have n2:=K2.nx;have m4:=K2.old (nxt h) tN;have m5:=K2.old (nxt h).succ tN;rw[m2] at m4;rw[m3] at m5;cases h5:Ar (FM l l') (.ofNat 0)
  ·have hne:FM l l'≠0:=fun e=>by rw[e] at h5;cases h5
   refine Sst h5 ?_;rw[AY,if_neg hne] at hk;exact hk _ (Ka.trans K2)
  have e5:FM l l'=0:=Ay.1 h5;rw[e5,AY 0,if_pos rfl] at hk;refine Sst (J3 h5 m4 m5) ?_;refine call1151 hF ih' tO tO tO tO tO (fun a3 K3=>?_);refine Be ?_;exact hk _ ((Ka.trans K2).trans K3)
theorem call1095 (hF:Hns E) (hL9:L≤9223372036854775807) {x y:Va} {D:Nat} (hd:x.dep≤D) (hb:x.bulk≤L) (hb':y.bulk≤L) (hn:2*D+4≤n) (hk:∀h1,Ah h h1→kc (.ret (.int .i64 (x.cmp y))) none h1=true):
  call E (L+3) n (.fn 95) [.agg x.cells,.agg y.cells] none h kc=true:=by
 obtain ⟨m,rfl⟩:∃m,n=m+2*D+4:=⟨n-(2*D+4),by omega⟩
 exact cmpR_ok hF hL9 D m x y h kc hd hb hb' hk
end
end Go.AJ
