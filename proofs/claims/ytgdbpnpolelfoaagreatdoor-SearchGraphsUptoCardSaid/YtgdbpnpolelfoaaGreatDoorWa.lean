/- The walk: values are compared. -/
import Derived.Test.YtgdbpnpolelfoaaGreatDoorCodeA
set_option linter.all false
namespace Go.AJ
open Go
def Cz (a b:Int):Int:=if ltI a b=true then .negSucc 0 else if ltI b a=true then .ofNat 1 else .ofNat 0
def Fn (a b:List Nat):Int:=if ltL a b=true then .negSucc 0 else if ltL b a=true then .ofNat 1 else .ofNat 0
def orI (a b:Int):Int:=if Aq a (.ofNat 0)=true then b else a
section
variable {E:Env} {L n:Nat} {h:Hp} {kc:KC} {t:T V} {d:Dc} {k:KE} {fi:FI}
theorem pe (hE:Fns E) {a:Int}:call E (L+1) (n+1) (.fn 98) [.int .i64 a] none h kc=kc (.ret (.bool false)) none h:=by rw[Ag hE.f63,c63,r63,yd,yc];exact Af
theorem JJ (hE:Fns E) {a b:Int}:call E (L+1) (n+2) (.fn 134) [.int .i64 a,.int .i64 b] none h kc=kc (.ret (.int .i64 (Cz a b))) none h:=by rw[Ag hE.f30,c30,r30,yG,yF,yE,yC,yB,yA,yz,yy];cases h1:ltI a b<;>cases h2:ltI b a<;>simp -implicitDefEqProofs only[↓sD,sB,↓reduceIte,Nat.reduceEqDiff,reduceCtorEq,Nat.reduceAdd,pe hE,h1,h2,Cz]
theorem uS (hE:Fns E) {a:List Nat}:call E (L+1) (n+1) (.fn 203) [.str a] none h kc=kc (.ret (.bool false)) none h:=by rw[Ag hE.f117,AcT,Abr,nX,nW];exact Af
theorem zR (hE:Fns E) {a b:List Nat}:call E (L+1) (n+2) (.fn 146) [.str a,.str b] none h kc=kc (.ret (.int .i64 (Fn a b))) none h:=by rw[Ag hE.f69,c69,r69,xM,xK,xJ,xI,xH,xG,xF,xD];cases h1:ltL a b<;>cases h2:ltL b a<;>simp -implicitDefEqProofs only[↓sD,sB,↓reduceIte,Nat.reduceEqDiff,reduceCtorEq,Nat.reduceAdd,uS hE,h1,h2,Fn]
end
end Go.AJ
namespace Go.AJ
open Go
def AH (l:List Int):List V:=l.map fun n=> .int .i64 n
theorem CW (l:List Int):(AH l).length=l.length:=by simp [AH]
theorem Bp {l:List Int} {i:Nat} (hi:i<l.length):(AH l)[i]? =some (.int .i64 (l.getD i 0)):=by simp [AH,List.getD_eq_getElem?_getD,List.getElem?_eq_getElem hi]
def dec (i:Nat):Int:=match i with
 |0=> .negSucc 0
 |j+1=> .ofNat j
theorem Bi {i:Nat} (hi:i≤9223372036854775807):Am .i64 (Int.sub (.ofNat i) (.ofNat 1))=dec i:=by
 cases i with
 |zero=>rfl
 |succ j=>rw[Ao tO];exact Ah tO
theorem KT:dec 0=.negSucc 0:=rfl
theorem Cr {j:Nat}:dec (j+1)=.ofNat j:=rfl
theorem BG {a b:Nat}:ltI (.negSucc a) (.ofNat b)=true:=rfl
theorem FA {a b:Nat}:ltI (.ofNat a) (.negSucc b)=false:=rfl
def KZ (a b:List Int):Nat→Int→Int
 |0,c=>c
 |i+1,c=>if Aq c (.ofNat 0)=true then KZ a b i (Cz (a.getD i 0) (b.getD i 0)) else c
def BV (na nb:Bool) (a b:List Int):Int:=
 if na=nb then
  let c:=KZ a b a.length (Cz (.ofNat a.length) (.ofNat b.length));if na=true then Am .i64 (Int.sub 0 c) else c
 else if na=true then .negSucc 0 else .ofNat 1
section
variable {E:Env} {L n:Nat} {h:Hp} {kc:KC} {t:T V} {d:Dc} {k:KE} {fi:FI}
theorem dN (hE:Fns E) {a b:Int} {bk:K} (hb:blk h bk=.cells [.int .i64 a,.int .i64 b]):call E (L+3) (n+1) (.fn 133) [.sl bk 0 2 2 0] none h kc=kc (.ret (.int .i64 (orI a b))) none h:=by
 rw[Ag hE.f67,c67,r67,xX,xW,xU,xT];have e0:Am .i64 (.ofNat 1)=.ofNat 1:=rfl;have e1:Am .i64 (.ofNat 2)=.ofNat 2:=rfl;cases h1:Aq a (.ofNat 0)<;>cases h2:Aq b (.ofNat 0)<;>simp -implicitDefEqProofs (disch:=exact tD) only[↓sD,sB,↓reduceIte,Nat.reduceEqDiff,reduceCtorEq,Nat.reduceLT,Nat.reduceMul,Nat.reduceAdd,Ad,Ab,Aaq,hb,h1,h2,orI,Aj,Nat.reduceLT,decide_true,decide_false,e0,e1]
 rw[Au.1 h2]
theorem zj (hE:Fns E) {b2 b3:K} {na nb xa xb:Bool} {ca cb:Nat} {a b:List Int} (m2:blk h b2=.cells [.bool na,slR xa ca (AH a) a.length]) (m3:blk h b3=.cells [.bool nb,slR xb cb (AH b) b.length]) {v4:V} (hb:a.length≤9223372036854775807):
  ∀(i:Nat) (c:Int) (M:Nat) (t:T V),(Aq c (.ofNat 0)=true→i≤a.length∧i≤b.length)→i≤9223372036854775807→i+1≤M→tg 2 t=.ptr b2 0→tg 3 t=.ptr b3 0→tg 5 t=.int .i64 c→tg 6 t=.int .i64 (dec i)→
  (∀t1,tg 2 t1=.ptr b2 0→tg 5 t1=.int .i64 (KZ a b i c)→k (.exit 0) t1 d h=true)→
  iter (exec (call E (L+1) (n+2)) (L+1) fi j9) M t d h k=true:=by
 intro i;induction i with
 |zero=>intro c M t hi hb9 hM g2 g3 g5 g6 hk;obtain ⟨M,rfl⟩:=pM M;rw[Ab,j9];cases hc:Aq c (.ofNat 0)<;>simp -implicitDefEqProofs (disch:=exact tD) only[↓sD,sB,↓reduceIte,Nat.reduceEqDiff,reduceCtorEq,Nat.reduceLT,Nat.reduceMul,Nat.reduceAdd,g2,g3,g5,g6,hc,KT,BG]<;>refine hk _ ?_ ?_<;>simp -implicitDefEqProofs (disch:=exact tD) only[↓sD,sB,↓reduceIte,Nat.reduceEqDiff,reduceCtorEq,Nat.reduceLT,Nat.reduceMul,Nat.reduceAdd,g2,g5,KZ]
 |succ i ih=>
  intro c M t hi hb9 hM g2 g3 g5 g6 hk;obtain ⟨M,rfl⟩:=pM M;rw[Ab,j9];cases hc:Aq c (.ofNat 0)
  ·refine Sst (J6 g2 g3 g5 g6 hc @Cr) ?_;refine hk _ ?_ ?_<;>simp -implicitDefEqProofs (disch:=exact tD) only[↓sD,sB,↓reduceIte,Nat.reduceEqDiff,reduceCtorEq,Nat.reduceLT,Nat.reduceMul,Nat.reduceAdd,g2,g5,KZ,hc]
  ·obtain ⟨h1,h2⟩:=hi hc;have e1:=fun c h=>AM (c:=c) (h:=h) (Bp (l:=a) (i:=i) tO);have e2:=fun c h=>AM (c:=c) (h:=h) (Bp (l:=b) (i:=i) tO);simp -implicitDefEqProofs (disch:=exact tD) only[↓sD,sB,↓reduceIte,Nat.reduceEqDiff,reduceCtorEq,Nat.reduceLT,Nat.reduceMul,Nat.reduceAdd,g2,g3,g5,g6,hc,Cr,Aj,m2,m3,AR,e1,e2,JJ hE,Nat.not_lt_zero,decide_false,Bi];refine ih (Cz (a.getD i 0) (b.getD i 0)) M _ (fun _=>by omega) tO tO ?_ ?_ ?_ ?_ ?_
   ·exact Ssc g2
   ·exact Ssc g3
   ·exact Af
   ·exact Ssc @Bi
   ·intro t1 q2 q5;refine hk t1 q2 ?_;rw[q5];simp only[KZ,hc,if_true]
theorem Qv {a b:Nat} (h:Aq (Cz (.ofNat a) (.ofNat b)) (.ofNat 0)=true):a=b:=by
 unfold Cz at h;rw[Aj,Aj] at h;by_cases h1:a<b
 ·rw[decide_eq_true h1] at h;cases h
 ·by_cases h2:b<a
  ·rw[decide_eq_false h1,decide_eq_true h2] at h;cases h
  ·omega
theorem zS (hE:Fns E) {na nb xa xb:Bool} {ca cb:Nat} {a b:List Int} (hL:a.length≤L) (hb:a.length≤9223372036854775807)
  (hk:∀h1,Ae h h1→kc (.ret (.int .i64 (BV na nb a b))) none h1=true):
  call E (L+1) (n+3) (.fn 145) [.agg [.bool na,slR xa ca (AH a) a.length],.agg [.bool nb,slR xb cb (AH b) b.length]] none h kc=true:=by
 rw[Ag hE.f68,c68,r68,xS,xR,xQ,xP,xO,xN];have K1:Ae h ((h.upd (nxt h) (.cells [.bool na,slR xa ca (AH a) a.length])).upd (nxt h).succ (.cells [.bool nb,slR xb cb (AH b) b.length])).bump.bump:=kO;by_cases hn:na=nb
 ·subst hn;simp -implicitDefEqProofs (disch:=exact tD) only[↓sD,sB,↓reduceIte,Nat.reduceEqDiff,reduceCtorEq,Nat.reduceLT,Nat.reduceMul,Nat.reduceAdd,bne_self_eq_false,JJ hE,Bi,Ad];refine zj hE (b2:=nxt h) (b3:=(nxt h).succ) (na:=na) (nb:=na) (xa:=xa) (xb:=xb) (ca:=ca) (cb:=cb) (a:=a) (b:=b) ?_ ?_ (v4:=und) hb a.length (Cz (.ofNat a.length) (.ofNat b.length)) _ _ (fun hc=>?_) hb tO ?_ ?_ ?_ ?_ (fun t1 g2 g5=>?_)
  ·exact Af
  ·exact Af
  ·have:=Qv hc;omega
  ·exact Af
  ·exact Af
  ·exact Af
  ·exact Af
  ·have hk1:=hk _ K1;cases na<;>simp -implicitDefEqProofs (disch:=exact tD) only[↓sD,sB,↓reduceIte,Nat.reduceEqDiff,reduceCtorEq,Nat.reduceLT,Nat.reduceMul,Nat.reduceAdd,g2,g5]<;>simpa only[BV,if_true,Bool.false_eq_true,if_false] using hk1
 ·have hk1:=hk _ K1;cases na<;>cases nb<;>first|exact absurd rfl hn|(simp -implicitDefEqProofs (disch:=exact tD) only[↓sD,sB,↓reduceIte,Nat.reduceEqDiff,reduceCtorEq,Nat.reduceLT,Nat.reduceMul,Nat.reduceAdd,bne_self_eq_false,Bool.bne_true,Bool.bne_false];simpa only[BV,if_true,Bool.false_eq_true,if_false,Bool.true_eq_false] using hk1)
end
end Go.AJ
namespace Go.AJ
open Go
inductive Va where
 |mk (kind n:Int) (neg:Bool) (db:Bool) (dc:Nat) (d:List Int) (s:List Nat) (lb:Bool) (lc:Nat) (l:List Va) (mb:Bool) (mc:Nat) (m:List Va)
mutual
def Va.cells:Va→List V
 |.mk kind n neg db dc d s lb lc l mb mc m=> [.int .i64 kind,.int .i64 n,.bool neg,slR db dc (AH d) d.length,.str s,slR lb lc (AC l) l.length,slR mb mc (AC m) m.length]
def AC:List Va→List V
 | []=> []
 |x::l=>x.cells++AC l
end
mutual
def Va.bulk:Va→Nat
 |.mk _ _ _ _ _ d s _ _ l _ _ m=>1+d.length+s.length+Av l+Av m
def Av:List Va→Nat
 | []=>0
 |x::l=>x.bulk+Av l
end
mutual
def Va.dep:Va→Nat
 |.mk _ _ _ _ _ _ _ _ _ l _ _ m=>1+max (Bq l) (Bq m)
def Bq:List Va→Nat
 | []=>0
 |x::l=>max x.dep (Bq l)
end
mutual
def Va.cmp:Va→Va→Int
 |.mk k n g _ _ d s _ _ l _ _ m,.mk k' n' g' _ _ d' s' _ _ l' _ _ m'=>
  let c1:=orI (Cz k k') (Cz n n');if Aq c1 (.ofNat 0)=true then
   let c2:=orI (BV g g' d d') (Fn s s');if Aq c2 (.ofNat 0)=true then
    let c3:=if Aq (Cz (.ofNat l.length) (.ofNat l'.length)) (.ofNat 0)=true then Er l l' else Cz (.ofNat l.length) (.ofNat l'.length)
    if Aq c3 (.ofNat 0)=true then
     (if Aq (Cz (.ofNat m.length) (.ofNat m'.length)) (.ofNat 0)=true then Er m m' else Cz (.ofNat m.length) (.ofNat m'.length))
    else c3
   else c2
  else c1
def Er:List Va→List Va→Int
 |x::l,y::m=>if Aq (x.cmp y) (.ofNat 0)=true then Er l m else x.cmp y
 |_,_=> .ofNat 0
end
def Gb (l m:List Va):Int:=if Aq (Cz (.ofNat l.length) (.ofNat m.length)) (.ofNat 0)=true then Er l m else Cz (.ofNat l.length) (.ofNat m.length)
theorem Va.cmp_eq (k n:Int) (g ab:Bool) (ac:Nat) (d:List Int) (s:List Nat) (lb:Bool) (lc:Nat) (l:List Va) (mb:Bool) (mc:Nat) (m:List Va) (k' n':Int) (g' ab':Bool) (ac':Nat) (d':List Int) (s':List Nat) (lb':Bool) (lc':Nat) (l':List Va) (mb':Bool) (mc':Nat) (m':List Va):
  (Va.mk k n g ab ac d s lb lc l mb mc m).cmp (Va.mk k' n' g' ab' ac' d' s' lb' lc' l' mb' mc' m')=
   if Aq (orI (Cz k k') (Cz n n')) (.ofNat 0)=true then
    if Aq (orI (BV g g' d d') (Fn s s')) (.ofNat 0)=true then
     if Aq (Gb l l') (.ofNat 0)=true then Gb m m' else Gb l l'
    else orI (BV g g' d d') (Fn s s')
   else orI (Cz k k') (Cz n n'):=by
 rw[Va.cmp];rfl
theorem Va.cells_length (x:Va):x.cells.length=7:=by cases x;rfl
theorem Va.cells_flat (x:Va):∀v∈x.cells,flat v=true:=by cases x;simp only[Va.cells,List.mem_cons,List.not_mem_nil,or_false];rintro v (rfl|rfl|rfl|rfl|rfl|rfl|rfl)<;>first|rfl|exact CS
theorem Ho:∀{l:List Va} {i:Nat} {x:Va},l[i]? =some x→((AC l).drop (i*7)).take 7=x.cells
 | [],i,x,h=>by simp at h
 |y::l,0,x,h=>by simp at h;subst h;rw[AC,Nat.zero_mul,List.drop_zero,List.take_left' y.cells_length]
 |y::l,i+1,x,h=>by rw[AC,show (i+1)*7=7+i*7 by omega,←List.drop_drop,List.drop_left' y.cells_length];exact Ho (by simpa using h)
theorem Cs:∀l:List Va,(AC l).length=l.length*7
 | []=>rfl
 |x::l=>by rw[AC,List.length_append,x.cells_length,Cs l,List.length_cons];omega
theorem AL:∀l:List Va,l.length≤Av l
 | []=>Nat.le_refl 0
 |.mk .. ::l=>by simp only[Av,Va.bulk,List.length_cons];have:=AL l;omega
section
variable {E:Env} {L n:Nat} {h:Hp} {kc:KC} {t:T V} {d:Dc} {k:KE} {fi:FI} {c:KV}
theorem Dr {l:List Va} {i:Nat} {x:Va} (hx:l[i]? =some x):CV (.rp (AC l) (i*7)) 7 h c=c (.agg x.cells) h:=Ch (Ho hx) x.cells_length
theorem DC {x:Va} {n:Nat}:veq (n+2) (.agg x.cells) (.agg x.cells)=true:=JT x.cells_flat
def ko (E:Env) (L n D:Nat):Prop:=∀(x y:Va) (h:Hp) (kc:KC),x.dep≤D→x.bulk≤L→(∀h1,Ae h h1→kc (.ret (.int .i64 (x.cmp y))) none h1=true)→
 call E (L+3) n (.fn 94) [.agg x.cells,.agg y.cells] none h kc=true
theorem zi (hE:Fns E) {D:Nat} (hC:ko E L n D) {lb mb:Bool} {lc mc:Nat} {l m:List Va} (hl:l.length≤9223372036854775807) (hlm:l.length=m.length) {h0:Hp}:
  ∀(lr mr:List Va) (i:Nat) (M:Nat) (t:T V) (h:Hp),l.drop i=lr→m.drop i=mr→Bq lr≤D→Av lr≤L→lr.length+1≤M→i+lr.length=l.length→Ae h0 h→
  tg 0 t=slR lb lc (AC l) l.length→tg 1 t=slR mb mc (AC m) m.length→tg 2 t=.fn 94 [] []→tg 19 t=vI l.length→tg 20 t=vI i→
  (Er lr mr=.ofNat 0→∀t1 h1,Ae h0 h1→k (.exit 0) t1 d h1=true)→
  (∀t1 h1,Ae h0 h1→tg 6 t1=.int .i64 (Er lr mr)→k .ret t1 d h1=true)→
  iter (exec (call E (L+3) n) (L+3) fi j8) M t d h k=true:=by
 intro lr;induction lr with
 |nil=>intro mr i M t h hlr hmr hd hb hM hi K0 g0 g1 g2 g19 g20 hk hr;obtain ⟨M,rfl⟩:=pM M;have hi':(i<l.length)=False:=eq_false (by simp at hi;omega);rw[Ab,j8];refine Tst (J3 g19 g20 hi') ?_;exact hk (by simp only[Er]) _ _ K0
 |cons x lr ih=>
  intro mr i M t h hlr hmr hd hb hM hi K0 g0 g1 g2 g19 g20 hk hr;obtain ⟨M,rfl⟩:=pM M;simp only[List.length_cons] at hi hM;simp only[Bq,Av] at hd hb;have hi':(i<l.length)=True:=eT;have hx:l[i]? =some x:=by have:=congrArg (·[0]?) hlr;simpa using this
  obtain ⟨y,mr',rfl⟩:∃y mr',mr=y::mr':=by
   cases mr with
   |nil=>have:=congrArg List.length hmr;simp at this;omega
   |cons y mr'=>exact ⟨y,mr',rfl⟩
  have hy:m[i]? =some y:=by have:=congrArg (·[0]?) hmr;simpa using this
  have e1:=fun c h=>Dr (c:=c) (h:=h) hx;have e2:=fun c h=>Dr (c:=c) (h:=h) hy;rw[Ab,j8];refine Tst (J9 g0 g1 g2 g19 g20 hi' e1 e2 @DC) ?_;refine hC x y _ _ tO tO (fun h1 K1=>?_);cases hc:Aq (x.cmp y) (.ofNat 0)
  ·refine Sst hc ?_;refine hr _ _ (K0.trans K1) ?_;simp -implicitDefEqProofs (disch:=exact tD) only[↓sD,sB,↓reduceIte,Nat.reduceEqDiff,reduceCtorEq,Nat.reduceLT,Nat.reduceMul,Nat.reduceAdd,Er,hc]
  ·refine Sst (J2 hc g20) ?_;refine ih mr' (i+1) _ _ _ ?_ ?_ tO tO tO tO (K0.trans K1) ?_ ?_ ?_ ?_ ?_ (fun hz=>hk ?_) (fun t1 h1 K2 g6=>hr t1 h1 K2 ?_)
   ·have:=congrArg (List.drop 1) hlr;simpa [List.drop_drop] using this
   ·have:=congrArg (List.drop 1) hmr;simpa [List.drop_drop] using this
   ·exact Ssc g0
   ·exact Ssc g1
   ·exact Ssc g2
   ·exact Ssc g19
   ·exact Af
   ·simp only[Er,hc,if_true];exact hz
   ·simp only[Er,hc,if_true];exact g6
theorem pd (hE:Fns E) {D:Nat} (hC:ko E L (n+2) D) {lb mb:Bool} {lc mc:Nat} {l m:List Va} (hl:l.length≤9223372036854775807) (hd:Bq l≤D) (hb:Av l≤L) (hL:l.length≤L)
  (hk:∀h1,Ae h h1→kc (.ret (.int .i64 (Gb l m))) none h1=true):
  call E (L+3) (n+3) (.fn 147) [slR lb lc (AC l) l.length,slR mb mc (AC m) m.length,.fn 94 [] []] none h kc=true:=by
 rw[Ag hE.f70,c70,r70,xC,xB,xA,xz];cases hc:Aq (Cz (.ofNat l.length) (.ofNat m.length)) (.ofNat 0)
 ·simp -implicitDefEqProofs (disch:=exact tD) only[↓sD,sB,↓reduceIte,Nat.reduceEqDiff,reduceCtorEq,Nat.reduceLT,Nat.reduceMul,Nat.reduceAdd,JJ hE,hc];have:=hk h (.refl h);simpa only[Gb,hc,Bool.false_eq_true,if_false] using this
 ·have hlm:=Qv hc;simp -implicitDefEqProofs (disch:=exact tD) only[↓sD,sB,↓reduceIte,Nat.reduceEqDiff,reduceCtorEq,Nat.reduceLT,Nat.reduceMul,Nat.reduceAdd,JJ hE,hc,Ad];refine zi hE hC hl hlm (lb:=lb) (lc:=lc) (mb:=mb) (mc:=mc) (h0:=h) l m 0 _ _ _ (by simp) (by simp) hd hb tO tO (.refl h) ?_ ?_ ?_ ?_ ?_ (fun hz t1 h1 K1=>?_) (fun t1 h1 K1 g6=>?_)
  ·exact Af
  ·exact Af
  ·exact Af
  ·exact Af
  ·exact Af
  ·refine AV ?_;have:=hk h1 K1;simpa only[Gb,hc,if_true,hz] using this
  ·refine Sst g6 ?_;have:=hk h1 K1;simpa only[Gb,hc,if_true] using this
end
end Go.AJ
namespace Go.AJ
open Go
section
variable {E:Env} {L n:Nat} {h:Hp} {kc:KC} {t:T V} {d:Dc} {k:KE} {fi:FI} {c:KV}
theorem zL (hE : Fns E) (hL9 : L ≤ 9223372036854775807) : ∀ (D n : Nat), ko E L (n + 2 * D + 4) D := by
 intro D
 induction D with
 | zero =>
  intro n x y h kc hd
  cases x
  simp only [Va.dep] at hd
  omega
 | succ D ih =>
  intro n x y h kc hd hb hk
  have ih' : ko E L ((n + 2 * D + 2) + 2) D := ih n
  obtain ⟨kind, nn, neg, db, dc, dd, s, lb, lc, l, mb, mc, m⟩ := x
  obtain ⟨kind', nn', neg', db', dc', dd', s', lb', lc', l', mb', mc', m'⟩ := y
  simp only [Va.dep] at hd
  simp only [Va.bulk] at hb
  have hll : l.length ≤ Av l := AL l
  have hml : m.length ≤ Av m := AL m
  rw [Va.cmp_eq] at hk
  rw [show n + 2 * (D + 1) + 4 = (n + 2 * D + 5) + 1 by omega]
  simp only [Va.cells]
  rw [Ag hE.f34, c34, r34, yv, yu, yt, yq, yp]
  simp -implicitDefEqProofs (disch := first | assumption | ((try simp only [dB]); first | done | omega)) only [↓sD, sB, ↓reduceIte, Nat.reduceEqDiff, reduceCtorEq, Nat.reduceAdd, JJ hE]
  rw [dN hE (a := Cz kind kind') (b := Cz nn nn') Af]
  cases h1 : Aq (orI (Cz kind kind') (Cz nn nn')) (.ofNat 0)
  ·refine Sst h1 ?_
   rw [h1] at hk
   refine hk _ ?_
   exact kO
  ·rw [h1, if_pos rfl] at hk
   refine Sst h1 ?_
   refine zS hE (L := L + 2) (n := n + 2 * D + 2) (a := dd) (b := dd') tO tO (fun a1 K1 => ?_)
   have n1 := K1.nx
   simp only [nB] at n1
   have m2 := K1.old (nxt h) tN
   have m3 := K1.old (nxt h).succ tN
   simp -implicitDefEqProofs (disch := exact tD) only [sB] at m2 m3
   simp -implicitDefEqProofs (disch := first | assumption | ((try simp only [dB]); first | done | omega)) only [↓sD, sB, ↓reduceIte, Nat.reduceEqDiff, m2, m3, zR hE]
   rw [dN hE (a := BV neg neg' dd dd') (b := Fn s s') Af]
   have Kh : Ae h (a1.upd (nxt a1) (.cells [.int .i64 (BV neg neg' dd dd'), .int .i64 (Fn s s')])).bump := by
    refine Ae.new (Ae.trans ?_ K1) _
    exact kO
   cases h2 : Aq (orI (BV neg neg' dd dd') (Fn s s')) (.ofNat 0)
   ·refine Sst h2 ?_
    rw [h2] at hk
    exact hk _ Kh
   ·rw [h2, if_pos rfl] at hk
    refine Sst (J3 h2 m2 m3) ?_
    refine pd hE ih' tO tO tO tO (fun a2 K2 => ?_)
    have n2 := K2.nx
    simp only [nB] at n2
    have m2 := K2.old (nxt h) tN
    have m3 := K2.old (nxt h).succ tN
    simp -implicitDefEqProofs (disch := exact tD) only [sB, *] at m2 m3
    cases h3 : Aq (Gb l l') (.ofNat 0)
    ·refine Sst h3 ?_
     rw [h3] at hk
     exact hk _ (Kh.trans K2)
    ·rw [h3, if_pos rfl] at hk
     refine Sst (J3 h3 m2 m3) ?_
     refine pd hE ih' tO tO tO tO (fun a3 K3 => ?_)
     refine AV ?_
     exact hk _ ((Kh.trans K2).trans K3)
theorem ph (hE:Fns E) (hL9:L≤9223372036854775807) {x y:Va} {D:Nat} (hd:x.dep≤D) (hb:x.bulk≤L) (hn:2*D+4≤n) (hk:∀h1,Ae h h1→kc (.ret (.int .i64 (x.cmp y))) none h1=true):
  call E (L+3) n (.fn 94) [.agg x.cells,.agg y.cells] none h kc=true:=by
 obtain ⟨m,rfl⟩:∃m,n=m+2*D+4:=⟨n-(2*D+4),by omega⟩
 exact zL hE hL9 D m x y h kc hd hb hk
end
end Go.AJ
