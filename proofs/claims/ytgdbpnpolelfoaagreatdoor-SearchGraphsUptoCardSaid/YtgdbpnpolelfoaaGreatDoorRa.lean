/- The reference: values are compared. -/
import Derived.Test.YtgdbpnpolelfoaaGreatDoorCodeB
import Derived.Test.YtgdbpnpolelfoaaGreatDoorOa
set_option linter.all false
namespace Go.AJ
open Go
set_option maxRecDepth 100000
section
variable {E:Env} {L n:Nat} {h:Hp} {kc:KC} {t:T V} {d:Dc} {k:KE} {fi:FI} {c:KV}
theorem Ge (hF:Hns E) {a b:Int}:call E (L+1) (n+1) (.fn 148) [.int .i64 a,.int .i64 b] none h kc=kc (.ret (.int .i64 (Cz a b))) none h:=by rw[Ag hF.f1148,vy,qV,WH,WG,WF,WE];cases h1:ltI a b<;>cases h2:ltI b a<;>simp -implicitDefEqProofs (disch:=exact tD) only[↓sD,sB,↓reduceIte,Nat.reduceEqDiff,reduceCtorEq,Nat.reduceLT,Nat.reduceMul,Nat.reduceAdd,h1,h2,Cz]
theorem be {C:As} {ks:KS} {kp:KP} {x y:X} {dst:Option K}:Bd C (.cmpStr x y) dst t d h ks kp=DA (ev t x) (ev t y) h (kv dst t d ks):=rfl
theorem tA (a b:List Nat):ltL a b=true∨CR a b=true∨ltL b a=true:=by
 rcases OI a b with h|h|h
 ·left;rw[Iu] at h;by_cases h1:ltL a b=true
  ·exact h1
  ·rw[if_neg h1] at h;split at h<;>cases h
 ·right;left;exact Cj.2 (Ir h)
 ·right;right;rw[Iu] at h;by_cases h1:ltL a b=true
  ·rw[if_pos h1] at h;cases h
  ·rw[if_neg h1] at h;by_cases h2:ltL b a=true
   ·exact h2
   ·rw[if_neg h2] at h;cases h
theorem dw {a b:List Nat}:DA (.str a) (.str b) h c=c (.int .i64 (Fn a b)) h:=by
 simp only[DA];cases h1:ltL a b
 ·cases h2:CR a b
  ·have h3:ltL b a=true:=by
    rcases tA a b with h|h|h
    ·rw[h] at h1;cases h1
    ·rw[h] at h2;cases h2
    ·exact h
   have:Fn a b=.ofNat 1:=by rw[Iu,h1,h3];rfl
   rw[this]
  ·rw[Cj.1 h2,CE];rfl
 ·have:Fn a b=.negSucc 0:=by rw[Iu,h1];rfl
  rw[this]
theorem jv (hF:Hns E) {a b:List Nat}:call E (L+1) (n+1) (.fn 205) [.str a,.str b] none h kc=kc (.ret (.int .i64 (Fn a b))) none h:=by rw[Ag hF.f1205,vj,qJ,VI,VH];exact Ssc (J2 @be @dw)
theorem QF (hF:Hns E) {a b:List Nat}:call E (L+1) (n+2) (.fn 150) [.str a,.str b] none h kc=kc (.ret (.int .i64 (Fn a b))) none h:=by rw[Ag hF.f1150,vu,qT,Wy,Ww];simp -implicitDefEqProofs (disch:=exact tD) only[↓sD,sB,↓reduceIte,Nat.reduceEqDiff,reduceCtorEq,Nat.reduceLT,Nat.reduceMul,Nat.reduceAdd,jv hF]
theorem gJ (hF:Hns E) {xa xb:Bool} {ca cb:Nat} {a b:List Int} (hb:a.length≤9223372036854775807) (hab:a.length=b.length):
  ∀(i:Nat) (M:Nat) (t:T V),i≤a.length→i+1≤M→tg 0 t=slR xa ca (AH a) a.length→tg 1 t=slR xb cb (AH b) b.length→tg 5 t=.int .i64 (dec i)→
  (Hg a b i=0→∀t1,k (.exit 0) t1 d h=true)→(∀t1,tg 4 t1=.int .i64 (Hg a b i)→k .ret t1 d h=true)→
  iter (exec (call E (L+1) (n+1)) (L+1) fi Lu) M t d h k=true:=by
 intro i;induction i with
 |zero=>intro M t hi hM g0 g1 g5 hk hr;obtain ⟨M,rfl⟩:=pM M;rw[Ab,Lu];refine Sst (J3 g5 @KT @BG) ?_;exact hk rfl _
 |succ i ih=>
  intro M t hi hM g0 g1 g5 hk hr;obtain ⟨M,rfl⟩:=pM M;have e1:=fun c h=>AM (c:=c) (h:=h) (Bp (l:=a) (i:=i) tO);have e2:=fun c h=>AM (c:=c) (h:=h) (Bp (l:=b) (i:=i) tO);rw[Ab,Lu];rw[Hg] at hk hr;cases hc:Aq (a.getD i 0) (b.getD i 0)
  ·have hne:Cz (a.getD i 0) (b.getD i 0)≠0:=fun e=>by rw[CY.1 e,AG] at hc;cases hc
   simp -implicitDefEqProofs (disch:=exact tD) only[↓sD,sB,↓reduceIte,Nat.reduceEqDiff,reduceCtorEq,Nat.reduceLT,Nat.reduceMul,Nat.reduceAdd,g0,g1,g5,Cr,Aj,Nat.not_lt_zero,decide_false,AR,e1,e2,hc,Ge hF];refine hr _ ?_;refine AV ?_;rw[Bb,if_neg hne]
  ·have he:=Au.1 hc;rw[he,Bc,Bb,if_pos rfl] at hk hr;refine Tst (J9 g0 g1 g5 @Cr @Nat.not_lt_zero e1 e2 hc @Bi) ?_;refine ih M _ tO tO ?_ ?_ ?_ hk hr
   ·exact Ssc g0
   ·exact Ssc g1
   ·exact Ssc @Bi
theorem QC (hF:Hns E) {xa xb:Bool} {ca cb:Nat} {a b:List Int} (hL:a.length≤L) (hb:a.length≤9223372036854775807)
  (hk:kc (.ret (.int .i64 (Iq a b))) none h=true):
  call E (L+1) (n+2) (.fn 204) [slR xa ca (AH a) a.length,slR xb cb (AH b) b.length] none h kc=true:=by
 rw[Ag hF.f1204,vk,qK,VN,VM,VK,VJ];by_cases hab:a.length=b.length
 ·have hz:Iq a b=Hg a b a.length:=by rw[Iq,hab,Bc,Bb,if_pos rfl]
  rw[hz] at hk;refine Sst (J3 hab @AG @Ad) ?_;refine gJ hF (xa:=xa) (xb:=xb) (ca:=ca) (cb:=cb) (a:=a) (b:=b) hb hab a.length _ _ (Nat.le_refl _) tO ?_ ?_ ?_ (fun hz t1=>?_) (fun t1 g4=>?_)
  ·exact Ssc hab
  ·exact Af
  ·exact Ssc (J2 @Bi hab)
  ·refine AV ?_;rw[hz] at hk;exact hk
  ·refine Sst g4 ?_;exact hk
 ·have hne:Cz (.ofNat a.length) (.ofNat b.length)≠0:=fun e=>hab (Ud e);have hc:Aq (.ofNat a.length) (.ofNat b.length)=false:=by rw[AB];exact decide_eq_false hab
  simp -implicitDefEqProofs (disch:=exact tD) only[↓sD,sB,↓reduceIte,Nat.reduceEqDiff,reduceCtorEq,Nat.reduceLT,Nat.reduceMul,Nat.reduceAdd,hc,Ge hF];rw[Iq,Bb,if_neg hne] at hk;exact hk
theorem jA (hF:Hns E) {na nb xa xb:Bool} {ca cb:Nat} {a b:List Int} (hL:a.length≤L) (hL':b.length≤L) (hb:a.length≤9223372036854775807) (hb':b.length≤9223372036854775807)
  (hk:∀h1,Ae h h1→kc (.ret (.int .i64 (BV na nb a b))) none h1=true):
  call E (L+1) (n+3) (.fn 149) [.agg [.bool na,slR xa ca (AH a) a.length],.agg [.bool nb,slR xb cb (AH b) b.length]] none h kc=true:=by
 rw[Ag hF.f1149,vw,qU,WD,WC,WB,WA];have K1:Ae h ((h.upd (nxt h) (.cells [.bool na,slR xa ca (AH a) a.length])).upd (nxt h).succ (.cells [.bool nb,slR xb cb (AH b) b.length])).bump.bump:=kO;have hk1:=hk _ K1;rw[CF] at hk1;by_cases hn:na=nb
 ·subst hn;rw[if_pos rfl] at hk1;cases na
  ·refine Sst @bne_self_eq_false.{0} ?_;refine QC hF (n:=n) hL hb ?_;refine AV ?_;simpa using hk1
  ·refine Sst @bne_self_eq_false.{0} ?_;refine QC hF (n:=n) hL' hb' ?_;refine AV ?_;rw[F8];simpa using hk1
 ·rw[if_neg hn] at hk1;cases na<;>cases nb<;>first|exact absurd rfl hn|(simp -implicitDefEqProofs (disch:=exact tD) only[↓sD,sB,↓reduceIte,Nat.reduceEqDiff,reduceCtorEq,Nat.reduceLT,Nat.reduceMul,Nat.reduceAdd,Bool.bne_true,Bool.bne_false];simpa using hk1)
end
end Go.AJ
namespace Go.AJ
open Go
set_option maxRecDepth 100000
section
variable {E:Env} {L n:Nat} {h:Hp} {kc:KC} {t:T V} {d:Dc} {k:KE} {fi:FI} {c:KV}
def AaN (E:Env) (L n D:Nat):Prop:=∀(x y:Va) (h:Hp) (kc:KC),x.dep≤D→x.bulk≤L→y.bulk≤L→(∀h1,Ae h h1→kc (.ret (.int .i64 (x.cmp y))) none h1=true)→
 call E (L+3) n (.fn 95) [.agg x.cells,.agg y.cells] none h kc=true
theorem gK (hF:Hns E) {D:Nat} (hC:AaN E L n D) {lb mb:Bool} {lc mc:Nat} {l m:List Va} (hl:l.length≤9223372036854775807) (hlm:l.length=m.length) {h0:Hp}:
  ∀(lr mr:List Va) (i:Nat) (M:Nat) (t:T V) (h:Hp),l.drop i=lr→m.drop i=mr→Bq lr≤D→Av lr≤L→Av mr≤L→lr.length+1≤M→i+lr.length=l.length→Ae h0 h→
  tg 0 t=slR lb lc (AC l) l.length→tg 1 t=slR mb mc (AC m) m.length→tg 5 t=vI i→
  (Er lr mr=0→∀t1 h1,Ae h0 h1→k (.exit 0) t1 d h1=true)→
  (∀t1 h1,Ae h0 h1→tg 4 t1=.int .i64 (Er lr mr)→k .ret t1 d h1=true)→
  iter (exec (call E (L+3) n) (L+3) fi Lz) M t d h k=true:=by
 intro lr;induction lr with
 |nil=>intro mr i M t h hlr hmr hd hb hb' hM hi K0 g0 g1 g5 hk hr;obtain ⟨M,rfl⟩:=pM M;have hi':(i<l.length)=False:=eq_false (by simp at hi;omega);rw[Ab,Lz];refine Tst (J3 g0 g5 hi') ?_;exact hk (Gc _) _ _ K0
 |cons x lr ih=>
  intro mr i M t h hlr hmr hd hb hb' hM hi K0 g0 g1 g5 hk hr;obtain ⟨M,rfl⟩:=pM M;simp only[List.length_cons] at hi hM;simp only[Bq,Av] at hd hb;have hi':(i<l.length)=True:=eT;have hx:l[i]? =some x:=by have:=congrArg (·[0]?) hlr;simpa using this
  obtain ⟨y,mr',rfl⟩:∃y mr',mr=y::mr':=by
   cases mr with
   |nil=>have:=congrArg List.length hmr;simp at this;omega
   |cons y mr'=>exact ⟨y,mr',rfl⟩
  simp only[Av] at hb';have hy:m[i]? =some y:=by have:=congrArg (·[0]?) hmr;simpa using this
  have e1:=fun c h=>Dr (c:=c) (h:=h) hx;have e2:=fun c h=>Dr (c:=c) (h:=h) hy;have him:(i<m.length)=True:=eT;rw[Ab,Lz];rw[CG] at hk hr;refine Tst (J8 g0 g1 g5 hi' him e1 e2 @DC) ?_;refine hC x y _ _ tO tO tO (fun h1 K1=>?_);cases hc:Aq (x.cmp y) (.ofNat 0)
  ·have hne:x.cmp y≠0:=fun e=>by rw[e] at hc;cases hc
   rw[Bb,if_neg hne] at hr;refine Sst hc ?_;refine hr _ _ (K0.trans K1) ?_;exact Af
  ·have he:x.cmp y=0:=Au.1 hc;rw[he,Bb,if_pos rfl] at hk hr;refine Sst (J2 hc g5) ?_;refine ih mr' (i+1) _ _ _ ?_ ?_ tO tO tO tO tO (K0.trans K1) ?_ ?_ ?_ hk hr
   ·have:=congrArg (List.drop 1) hlr;simpa [List.drop_drop] using this
   ·have:=congrArg (List.drop 1) hmr;simpa [List.drop_drop] using this
   ·exact Ssc g0
   ·exact Ssc g1
   ·exact Af
theorem QE (hF:Hns E) {D:Nat} (hC:AaN E L (n+1) D) {lb mb:Bool} {lc mc:Nat} {l m:List Va} (hl:l.length≤9223372036854775807) (hd:Bq l≤D) (hb:Av l≤L) (hb':Av m≤L) (hL:l.length≤L)
  (hk:∀h1,Ae h h1→kc (.ret (.int .i64 (Gb l m))) none h1=true):
  call E (L+3) (n+2) (.fn 151) [slR lb lc (AC l) l.length,slR mb mc (AC m) m.length] none h kc=true:=by
 rw[Ag hF.f1151,vt,qS,Wv,Wu,Wt,Wq];by_cases hlm:l.length=m.length
 ·have hz:Gb l m=Er l m:=by rw[HC,hlm,Bc,Bb,if_pos rfl]
  rw[hz] at hk;refine Sst (J3 hlm @AG @Ad) ?_;refine gK hF hC hl hlm (lb:=lb) (lc:=lc) (mb:=mb) (mc:=mc) (h0:=h) l m 0 _ _ _ (by simp) (by simp) hd hb hb' tO tO (.refl h) ?_ ?_ ?_ (fun hz t1 h1 K1=>?_) (fun t1 h1 K1 g4=>?_)
  ·exact Ssc hlm
  ·exact Af
  ·exact Af
  ·refine AV ?_;rw[hz] at hk;exact hk h1 K1
  ·refine Sst g4 ?_;exact hk h1 K1
 ·have hne:Cz (.ofNat l.length) (.ofNat m.length)≠0:=fun e=>hlm (Ud e);have hc:Aq (.ofNat l.length) (.ofNat m.length)=false:=by rw[AB];exact decide_eq_false hlm
  simp -implicitDefEqProofs (disch:=exact tD) only[↓sD,sB,↓reduceIte,Nat.reduceEqDiff,reduceCtorEq,Nat.reduceLT,Nat.reduceMul,Nat.reduceAdd,hc,Ge hF];rw[HC,Bb,if_neg hne] at hk;exact hk h (.refl h)
theorem up (hF:Hns E) (hL9:L≤9223372036854775807):∀(D n:Nat),AaN E L (n+2*D+4) D:=by
 intro D;induction D with
 |zero=>intro n x y h kc hd;cases x;simp only[Va.dep] at hd;omega
 |succ D ih=>
  intro n x y h kc hd hb hb' hk;have ih':AaN E L ((n+2*D+3)+1) D:=ih n;obtain ⟨kind,nn,neg,db,dc,dd,s,lb,lc,l,mb,mc,m⟩:=x;obtain ⟨kind',nn',neg',db',dc',dd',s',lb',lc',l',mb',mc',m'⟩:=y;simp only[Va.dep] at hd;simp only[Va.bulk] at hb hb';have hll:l.length≤Av l:=AL l;have hml:m.length≤Av m:=AL m;rw[Va.cmp_or] at hk;rw[show n+2*(D+1)+4=(n+2*D+5)+1 by omega];simp only[Va.cells];rw[Ag hF.f1095,vM,ro,XT,XS,XR,XQ,XP,XO,XN,XM];have K0:Ae h ((h.upd (nxt h) (.cells [.int .i64 kind,.int .i64 nn,.bool neg,slR db dc (AH dd) dd.length,.str s,slR lb lc (AC l) l.length,slR mb mc (AC m) m.length])).upd (nxt h).succ (.cells [.int .i64 kind',.int .i64 nn',.bool neg',slR db' dc' (AH dd') dd'.length,.str s',slR lb' lc' (AC l') l'.length,slR mb' mc' (AC m') m'.length])).bump.bump:=kO;cases h1:Aq kind kind'
  ·have hne:Cz kind kind'≠0:=fun e=>by rw[CY.1 e,AG] at h1;cases h1
   simp -implicitDefEqProofs (disch:=exact tD) only[↓sD,sB,↓reduceIte,Nat.reduceEqDiff,reduceCtorEq,Nat.reduceLT,Nat.reduceMul,Nat.reduceAdd,h1,Ge hF];rw[Bb (orI _ _),Bb (Cz kind kind'),if_neg hne,if_neg hne] at hk;exact hk _ K0
  have e1:=Au.1 h1;subst e1;cases h2:Aq nn nn'
  ·have hne:Cz nn nn'≠0:=fun e=>by rw[CY.1 e,AG] at h2;cases h2
   simp -implicitDefEqProofs (disch:=exact tD) only[↓sD,sB,↓reduceIte,Nat.reduceEqDiff,reduceCtorEq,Nat.reduceLT,Nat.reduceMul,Nat.reduceAdd,h1,h2,Ge hF];rw[Bb (orI _ _),Bb (Cz kind kind),Bc,if_pos rfl,if_neg hne] at hk;exact hk _ K0
  have e2:=Au.1 h2;subst e2;rw[Bc,Bc,su,Bb 0,if_pos rfl] at hk;refine Sst (J2 h1 h2) ?_;refine jA hF (L:=L+2) (n:=n+2*D+2) (a:=dd) (b:=dd') tO tO tO tO (fun a1 K1=>?_);have n1:=K1.nx;simp only[nB] at n1;have m2:=K1.old (nxt h) tN;have m3:=K1.old (nxt h).succ tN;simp -implicitDefEqProofs (disch:=exact tD) only[↓sD,sB,↓reduceIte,Nat.reduceEqDiff,reduceCtorEq,Nat.reduceLT,Nat.reduceMul,Nat.reduceAdd] at m2 m3;have Ka:Ae h a1:=K0.trans K1;cases h3:Aq (BV neg neg' dd dd') (.ofNat 0)
  ·have hne:BV neg neg' dd dd'≠0:=fun e=>by rw[e] at h3;cases h3
   refine Sst h3 ?_;rw[Bb (orI _ _),Bb (BV neg neg' dd dd'),if_neg hne,if_neg hne] at hk;exact hk _ Ka
  have e3:BV neg neg' dd dd'=0:=Au.1 h3;rw[e3,Bb 0 (Fn s s'),if_pos rfl] at hk;cases h4:Aq (Fn s s') (.ofNat 0)
  ·have hne:Fn s s'≠0:=fun e=>by rw[e] at h4;cases h4
   simp -implicitDefEqProofs (disch:=exact tD) only[↓sD,sB,↓reduceIte,Nat.reduceEqDiff,reduceCtorEq,Nat.reduceLT,Nat.reduceMul,Nat.reduceAdd,h3,h4,m2,m3,QF hF];rw[Bb,if_neg hne] at hk;exact hk _ Ka
  have e4:Fn s s'=0:=Au.1 h4;rw[e4,Bb 0,if_pos rfl,←HC,←HC] at hk;simp -implicitDefEqProofs (disch:=first|assumption|((try simp only[dB]);first|done|omega)) only[↓sD,sB,↓reduceIte,Nat.reduceEqDiff,reduceCtorEq,Nat.reduceLT,Nat.reduceMul,Nat.reduceAdd,h3,h4,m2,m3,QF hF];refine QE hF ih' tO tO tO tO tO (fun a2 K2=>?_);have n2:=K2.nx;have m4:=K2.old (nxt h) tN;have m5:=K2.old (nxt h).succ tN;rw[m2] at m4;rw[m3] at m5;cases h5:Aq (Gb l l') (.ofNat 0)
  ·have hne:Gb l l'≠0:=fun e=>by rw[e] at h5;cases h5
   refine Sst h5 ?_;rw[Bb,if_neg hne] at hk;exact hk _ (Ka.trans K2)
  have e5:Gb l l'=0:=Au.1 h5;rw[e5,Bb 0,if_pos rfl] at hk;refine Sst (J3 h5 m4 m5) ?_;refine QE hF ih' tO tO tO tO tO (fun a3 K3=>?_);refine AV ?_;exact hk _ ((Ka.trans K2).trans K3)
theorem Lj (hF:Hns E) (hL9:L≤9223372036854775807) {x y:Va} {D:Nat} (hd:x.dep≤D) (hb:x.bulk≤L) (hb':y.bulk≤L) (hn:2*D+4≤n) (hk:∀h1,Ae h h1→kc (.ret (.int .i64 (x.cmp y))) none h1=true):
  call E (L+3) n (.fn 95) [.agg x.cells,.agg y.cells] none h kc=true:=by
 obtain ⟨m,rfl⟩:∃m,n=m+2*D+4:=⟨n-(2*D+4),by omega⟩
 exact up hF hL9 D m x y h kc hd hb hb' hk
end
end Go.AJ
