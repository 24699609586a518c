/- The walk: values are compared. -/
import Derived.Test.YtgdbpnpolelfoaaGreatDoorCodeA
set_option linter.all false
namespace Go.AJ
open Go
def Cf (a b:Int):Int:=if ltI a b=true then .negSucc 0 else if ltI b a=true then .ofNat 1 else .ofNat 0
def EY (a b:List Nat):Int:=if ltL a b=true then .negSucc 0 else if ltL b a=true then .ofNat 1 else .ofNat 0
def orI (a b:Int):Int:=if Ar a (.ofNat 0)=true then b else a
section
variable {E:Env} {L n:Nat} {h:Hp} {kc:KC} {t:T V} {d:Dc} {k:KE} {fi:FI}
theorem call63 (hE:Fns E) {a:Int}:call E (L+1) (n+1) (.fn 98) [.int .i64 a] none h kc=kc (.ret (.bool false)) none h:=by rw[Af hE.f63,c63,r63,p63_0,p63_1];exact Ag
theorem IY (hE:Fns E) {a b:Int}:call E (L+1) (n+2) (.fn 134) [.int .i64 a,.int .i64 b] none h kc=kc (.ret (.int .i64 (Cf a b))) none h:=by rw[Af hE.f30,c30,r30,p30_0,p30_1,p30_2,p30_3,p30_4,p30_5,p30_6,p30_7];cases h1:ltI a b<;>cases h2:ltI b a<;>simp -implicitDefEqProofs only[↓sD,sB,↓reduceIte,Nat.reduceEqDiff,reduceCtorEq,Nat.reduceAdd,call63 hE,h1,h2,Cf]
theorem call117 (hE:Fns E) {a:List Nat}:call E (L+1) (n+1) (.fn 203) [.str a] none h kc=kc (.ret (.bool false)) none h:=by rw[Af hE.f117,c117,r117,p117_0,p117_1];exact Ag
theorem call69 (hE:Fns E) {a b:List Nat}:call E (L+1) (n+2) (.fn 146) [.str a,.str b] none h kc=kc (.ret (.int .i64 (EY a b))) none h:=by rw[Af hE.f69,c69,r69,p69_0,p69_1,p69_2,p69_3,p69_4,p69_5,p69_6,p69_7];cases h1:ltL a b<;>cases h2:ltL b a<;>simp -implicitDefEqProofs only[↓sD,sB,↓reduceIte,Nat.reduceEqDiff,reduceCtorEq,Nat.reduceAdd,call117 hE,h1,h2,EY]
end
end Go.AJ
namespace Go.AJ
open Go
def AL (l:List Int):List V:=l.map fun n=> .int .i64 n
theorem Bc {l:List Int} {i:Nat} (hi:i<l.length):(AL l)[i]? =some (.int .i64 (l.getD i 0)):=by simp [AL,List.getD_eq_getElem?_getD,List.getElem?_eq_getElem hi]
def dec (i:Nat):Int:=match i with
 |0=> .negSucc 0
 |j+1=> .ofNat j
theorem Bn {i:Nat} (hi:i≤9223372036854775807):Ai .i64 (Int.sub (.ofNat i) (.ofNat 1))=dec i:=by
 cases i with
 |zero=>rfl
 |succ j=>rw[Ao tO];exact Ad tO
theorem JW:dec 0=.negSucc 0:=rfl
theorem CE {j:Nat}:dec (j+1)=.ofNat j:=rfl
theorem Bw {a b:Nat}:ltI (.negSucc a) (.ofNat b)=true:=rfl
theorem Fa {a b:Nat}:ltI (.ofNat a) (.negSucc b)=false:=rfl
def J1 (a b:List Int):Nat→Int→Int
 |0,c=>c
 |i+1,c=>if Ar c (.ofNat 0)=true then J1 a b i (Cf (a.getD i 0) (b.getD i 0)) else c
def BK (na nb:Bool) (a b:List Int):Int:=
 if na=nb then
  let c:=J1 a b a.length (Cf (.ofNat a.length) (.ofNat b.length));if na=true then Ai .i64 (Int.sub 0 c) else c
 else if na=true then .negSucc 0 else .ofNat 1
section
variable {E:Env} {L n:Nat} {h:Hp} {kc:KC} {t:T V} {d:Dc} {k:KE} {fi:FI}
theorem call67 (hE:Fns E) {a b:Int} {bk:K} (hb:blk h bk=.cells [.int .i64 a,.int .i64 b]):call E (L+3) (n+1) (.fn 133) [.sl bk 0 2 2 0] none h kc=kc (.ret (.int .i64 (orI a b))) none h:=by
 rw[Af hE.f67,c67,r67,p67_0,p67_1,p67_2,p67_3];have e0:Ai .i64 (.ofNat 1)=.ofNat 1:=rfl;have e1:Ai .i64 (.ofNat 2)=.ofNat 2:=rfl;cases h1:Ar a (.ofNat 0)<;>cases h2:Ar b (.ofNat 0)<;>simp -implicitDefEqProofs (disch:=exact tD) only[↓sD,sB,↓reduceIte,Nat.reduceEqDiff,reduceCtorEq,Nat.reduceLT,Nat.reduceMul,Nat.reduceAdd,Ae,Ab,b67_0,hb,h1,h2,orI,Aj,Nat.reduceLT,decide_true,decide_false,e0,e1]
 rw[Ay.1 h2]
theorem loop68 (hE:Fns E) {b2 b3:K} {na nb xa xb:Bool} {ca cb:Nat} {a b:List Int} (m2:blk h b2=.cells [.bool na,slR xa ca (AL a) a.length]) (m3:blk h b3=.cells [.bool nb,slR xb cb (AL b) b.length]) {v4:V} (hb:a.length≤9223372036854775807):
  ∀(i:Nat) (c:Int) (M:Nat) (t:T V),(Ar c (.ofNat 0)=true→i≤a.length∧i≤b.length)→i≤9223372036854775807→i+1≤M→T.get und (K.of 2) t=.ptr b2 0→T.get und (K.of 3) t=.ptr b3 0→T.get und (K.of 5) t=.int .i64 c→T.get und (K.of 6) t=.int .i64 (dec i)→
  (∀t1,T.get und (K.of 2) t1=.ptr b2 0→T.get und (K.of 5) t1=.int .i64 (J1 a b i c)→k (.exit 0) t1 d h=true)→
  iter (exec (call E (L+1) (n+2)) (L+1) fi b68_0) M t d h k=true:=by
 intro i;induction i with
 |zero=>intro c M t hi hb9 hM g2 g3 g5 g6 hk;obtain ⟨M,rfl⟩:=pM M;rw[Ab,b68_0];cases hc:Ar c (.ofNat 0)<;>simp -implicitDefEqProofs (disch:=exact tD) only[↓sD,sB,↓reduceIte,Nat.reduceEqDiff,reduceCtorEq,Nat.reduceLT,Nat.reduceMul,Nat.reduceAdd,g2,g3,g5,g6,hc,JW,Bw]<;>refine hk _ ?_ ?_<;>simp -implicitDefEqProofs (disch:=exact tD) only[↓sD,sB,↓reduceIte,Nat.reduceEqDiff,reduceCtorEq,Nat.reduceLT,Nat.reduceMul,Nat.reduceAdd,g2,g5,J1]
 |succ i ih=>
  intro c M t hi hb9 hM g2 g3 g5 g6 hk;obtain ⟨M,rfl⟩:=pM M;rw[Ab,b68_0];cases hc:Ar c (.ofNat 0)
  ·refine Sst (J6 g2 g3 g5 g6 hc @CE) ?_;refine hk _ ?_ ?_<;>simp -implicitDefEqProofs (disch:=exact tD) only[↓sD,sB,↓reduceIte,Nat.reduceEqDiff,reduceCtorEq,Nat.reduceLT,Nat.reduceMul,Nat.reduceAdd,g2,g5,J1,hc]
  ·obtain ⟨h1,h2⟩:=hi hc;have e1:=fun c h=>AS (c:=c) (h:=h) (Bc (l:=a) (i:=i) tO);have e2:=fun c h=>AS (c:=c) (h:=h) (Bc (l:=b) (i:=i) tO);simp -implicitDefEqProofs (disch:=exact tD) only[↓sD,sB,↓reduceIte,Nat.reduceEqDiff,reduceCtorEq,Nat.reduceLT,Nat.reduceMul,Nat.reduceAdd,g2,g3,g5,g6,hc,CE,Aj,m2,m3,AR,e1,e2,IY hE,Nat.not_lt_zero,decide_false,Bn];refine ih (Cf (a.getD i 0) (b.getD i 0)) M _ (fun _=>by omega) tO tO ?_ ?_ ?_ ?_ ?_
   ·exact Ssc g2
   ·exact Ssc g3
   ·exact Ag
   ·exact Ssc @Bn
   ·intro t1 q2 q5;refine hk t1 q2 ?_;rw[q5];simp only[J1,hc,if_true]
theorem cmpI_eq0 {a b:Nat} (h:Ar (Cf (.ofNat a) (.ofNat b)) (.ofNat 0)=true):a=b:=by
 unfold Cf at h;rw[Aj,Aj] at h;by_cases h1:a<b
 ·rw[decide_eq_true h1] at h;cases h
 ·by_cases h2:b<a
  ·rw[decide_eq_false h1,decide_eq_true h2] at h;cases h
  ·omega
theorem call68 (hE:Fns E) {na nb xa xb:Bool} {ca cb:Nat} {a b:List Int} (hL:a.length≤L) (hb:a.length≤9223372036854775807)
  (hk:∀h1,Ah h h1→kc (.ret (.int .i64 (BK na nb a b))) none h1=true):
  call E (L+1) (n+3) (.fn 145) [.agg [.bool na,slR xa ca (AL a) a.length],.agg [.bool nb,slR xb cb (AL b) b.length]] none h kc=true:=by
 rw[Af hE.f68,c68,r68,p68_0,p68_1,p68_2,p68_3,p68_4,p68_5];have K1:Ah h ((h.upd (nxt h) (.cells [.bool na,slR xa ca (AL a) a.length])).upd (nxt h).succ (.cells [.bool nb,slR xb cb (AL b) b.length])).bump.bump:=kO;by_cases hn:na=nb
 ·subst hn;simp -implicitDefEqProofs (disch:=exact tD) only[↓sD,sB,↓reduceIte,Nat.reduceEqDiff,reduceCtorEq,Nat.reduceLT,Nat.reduceMul,Nat.reduceAdd,bne_self_eq_false,IY hE,Bn,Ae];refine loop68 hE (b2:=nxt h) (b3:=(nxt h).succ) (na:=na) (nb:=na) (xa:=xa) (xb:=xb) (ca:=ca) (cb:=cb) (a:=a) (b:=b) ?_ ?_ (v4:=und) hb a.length (Cf (.ofNat a.length) (.ofNat b.length)) _ _ (fun hc=>?_) hb tO ?_ ?_ ?_ ?_ (fun t1 g2 g5=>?_)
  ·exact Ag
  ·exact Ag
  ·have:=cmpI_eq0 hc;omega
  ·exact Ag
  ·exact Ag
  ·exact Ag
  ·exact Ag
  ·have hk1:=hk _ K1;cases na<;>simp -implicitDefEqProofs (disch:=exact tD) only[↓sD,sB,↓reduceIte,Nat.reduceEqDiff,reduceCtorEq,Nat.reduceLT,Nat.reduceMul,Nat.reduceAdd,g2,g5]<;>simpa only[BK,if_true,Bool.false_eq_true,if_false] using hk1
 ·have hk1:=hk _ K1;cases na<;>cases nb<;>first|exact absurd rfl hn|(simp -implicitDefEqProofs (disch:=exact tD) only[↓sD,sB,↓reduceIte,Nat.reduceEqDiff,reduceCtorEq,Nat.reduceLT,Nat.reduceMul,Nat.reduceAdd,bne_self_eq_false,Bool.bne_true,Bool.bne_false];simpa only[BK,if_true,Bool.false_eq_true,if_false,Bool.true_eq_false] using hk1)
end
end Go.AJ
namespace Go.AJ
open Go
inductive Va where
 |mk (kind n:Int) (neg:Bool) (db:Bool) (dc:Nat) (d:List Int) (s:List Nat) (lb:Bool) (lc:Nat) (l:List Va) (mb:Bool) (mc:Nat) (m:List Va)
mutual
def Va.cells:Va→List V
 |.mk kind n neg db dc d s lb lc l mb mc m=> [.int .i64 kind,.int .i64 n,.bool neg,slR db dc (AL d) d.length,.str s,slR lb lc (AB l) l.length,slR mb mc (AB m) m.length]
def AB:List Va→List V
 | []=> []
 |x::l=>x.cells++AB l
end
mutual
def Va.bulk:Va→Nat
 |.mk _ _ _ _ _ d s _ _ l _ _ m=>1+d.length+s.length+Ax l+Ax m
def Ax:List Va→Nat
 | []=>0
 |x::l=>x.bulk+Ax l
end
mutual
def Va.dep:Va→Nat
 |.mk _ _ _ _ _ _ _ _ _ l _ _ m=>1+max (BC l) (BC m)
def BC:List Va→Nat
 | []=>0
 |x::l=>max x.dep (BC l)
end
mutual
def Va.cmp:Va→Va→Int
 |.mk k n g _ _ d s _ _ l _ _ m,.mk k' n' g' _ _ d' s' _ _ l' _ _ m'=>
  let c1:=orI (Cf k k') (Cf n n');if Ar c1 (.ofNat 0)=true then
   let c2:=orI (BK g g' d d') (EY s s');if Ar c2 (.ofNat 0)=true then
    let c3:=if Ar (Cf (.ofNat l.length) (.ofNat l'.length)) (.ofNat 0)=true then Ea l l' else Cf (.ofNat l.length) (.ofNat l'.length)
    if Ar c3 (.ofNat 0)=true then
     (if Ar (Cf (.ofNat m.length) (.ofNat m'.length)) (.ofNat 0)=true then Ea m m' else Cf (.ofNat m.length) (.ofNat m'.length))
    else c3
   else c2
  else c1
def Ea:List Va→List Va→Int
 |x::l,y::m=>if Ar (x.cmp y) (.ofNat 0)=true then Ea l m else x.cmp y
 |_,_=> .ofNat 0
end
def FM (l m:List Va):Int:=if Ar (Cf (.ofNat l.length) (.ofNat m.length)) (.ofNat 0)=true then Ea l m else Cf (.ofNat l.length) (.ofNat m.length)
theorem Va.cmp_eq (k n:Int) (g ab:Bool) (ac:Nat) (d:List Int) (s:List Nat) (lb:Bool) (lc:Nat) (l:List Va) (mb:Bool) (mc:Nat) (m:List Va) (k' n':Int) (g' ab':Bool) (ac':Nat) (d':List Int) (s':List Nat) (lb':Bool) (lc':Nat) (l':List Va) (mb':Bool) (mc':Nat) (m':List Va):
  (Va.mk k n g ab ac d s lb lc l mb mc m).cmp (Va.mk k' n' g' ab' ac' d' s' lb' lc' l' mb' mc' m')=
   if Ar (orI (Cf k k') (Cf n n')) (.ofNat 0)=true then
    if Ar (orI (BK g g' d d') (EY s s')) (.ofNat 0)=true then
     if Ar (FM l l') (.ofNat 0)=true then FM m m' else FM l l'
    else orI (BK g g' d d') (EY s s')
   else orI (Cf k k') (Cf n n'):=by
 rw[Va.cmp];rfl
theorem Va.cells_length (x:Va):x.cells.length=7:=by cases x;rfl
theorem Va.cells_flat (x:Va):∀v∈x.cells,flat v=true:=by cases x;simp only[Va.cells,List.mem_cons,List.not_mem_nil,or_false];rintro v (rfl|rfl|rfl|rfl|rfl|rfl|rfl)<;>first|rfl|exact DJ
theorem Jj:∀{l:List Va} {i:Nat} {x:Va},l[i]? =some x→((AB l).drop (i*7)).take 7=x.cells
 | [],i,x,h=>by simp at h
 |y::l,0,x,h=>by simp at h;subst h;rw[AB,Nat.zero_mul,List.drop_zero,List.take_left' y.cells_length]
 |y::l,i+1,x,h=>by rw[AB,show (i+1)*7=7+i*7 by omega,←List.drop_drop,List.drop_left' y.cells_length];exact Jj (by simpa using h)
theorem Cv:∀l:List Va,(AB l).length=l.length*7
 | []=>rfl
 |x::l=>by rw[AB,List.length_append,x.cells_length,Cv l,List.length_cons];omega
theorem AI:∀l:List Va,l.length≤Ax l
 | []=>Nat.le_refl 0
 |.mk .. ::l=>by simp only[Ax,Va.bulk,List.length_cons];have:=AI l;omega
section
variable {E:Env} {L n:Nat} {h:Hp} {kc:KC} {t:T V} {d:Dc} {k:KE} {fi:FI} {c:KV}
theorem DD {l:List Va} {i:Nat} {x:Va} (hx:l[i]? =some x):CP (.rp (AB l) (i*7)) 7 h c=c (.agg x.cells) h:=EL (Jj hx) x.cells_length
theorem Eb {x:Va} {n:Nat}:veq (n+2) (.agg x.cells) (.agg x.cells)=true:=veq_agg x.cells_flat
def CmpOK (E:Env) (L n D:Nat):Prop:=∀(x y:Va) (h:Hp) (kc:KC),x.dep≤D→x.bulk≤L→(∀h1,Ah h h1→kc (.ret (.int .i64 (x.cmp y))) none h1=true)→
 call E (L+3) n (.fn 94) [.agg x.cells,.agg y.cells] none h kc=true
theorem loop70 (hE:Fns E) {D:Nat} (hC:CmpOK E L n D) {lb mb:Bool} {lc mc:Nat} {l m:List Va} (hl:l.length≤9223372036854775807) (hlm:l.length=m.length) {h0:Hp}:
  ∀(lr mr:List Va) (i:Nat) (M:Nat) (t:T V) (h:Hp),l.drop i=lr→m.drop i=mr→BC lr≤D→Ax lr≤L→lr.length+1≤M→i+lr.length=l.length→Ah h0 h→
  T.get und (K.of 0) t=slR lb lc (AB l) l.length→T.get und (K.of 1) t=slR mb mc (AB m) m.length→T.get und (K.of 2) t=.fn 94 [] []→T.get und (K.of 19) t=.int .i64 (.ofNat l.length)→T.get und (K.of 20) t=.int .i64 (.ofNat i)→
  (Ea lr mr=.ofNat 0→∀t1 h1,Ah h0 h1→k (.exit 0) t1 d h1=true)→
  (∀t1 h1,Ah h0 h1→T.get und (K.of 6) t1=.int .i64 (Ea lr mr)→k .ret t1 d h1=true)→
  iter (exec (call E (L+3) n) (L+3) fi b70_0) M t d h k=true:=by
 intro lr;induction lr with
 |nil=>intro mr i M t h hlr hmr hd hb hM hi K0 g0 g1 g2 g19 g20 hk hr;obtain ⟨M,rfl⟩:=pM M;have hi':(i<l.length)=False:=eq_false (by simp at hi;omega);rw[Ab,b70_0];refine Tst (J3 g19 g20 hi') ?_;exact hk (by simp only[Ea]) _ _ K0
 |cons x lr ih=>
  intro mr i M t h hlr hmr hd hb hM hi K0 g0 g1 g2 g19 g20 hk hr;obtain ⟨M,rfl⟩:=pM M;simp only[List.length_cons] at hi hM;simp only[BC,Ax] at hd hb;have hi':(i<l.length)=True:=eT;have hx:l[i]? =some x:=by have:=congrArg (·[0]?) hlr;simpa using this
  obtain ⟨y,mr',rfl⟩:∃y mr',mr=y::mr':=by
   cases mr with
   |nil=>have:=congrArg List.length hmr;simp at this;omega
   |cons y mr'=>exact ⟨y,mr',rfl⟩
  have hy:m[i]? =some y:=by have:=congrArg (·[0]?) hmr;simpa using this
  have e1:=fun c h=>DD (c:=c) (h:=h) hx;have e2:=fun c h=>DD (c:=c) (h:=h) hy;rw[Ab,b70_0];refine Tst (J9 g0 g1 g2 g19 g20 hi' e1 e2 @Eb) ?_;refine hC x y _ _ tO tO (fun h1 K1=>?_);cases hc:Ar (x.cmp y) (.ofNat 0)
  ·refine Sst hc ?_;refine hr _ _ (K0.trans K1) ?_;simp -implicitDefEqProofs (disch:=exact tD) only[↓sD,sB,↓reduceIte,Nat.reduceEqDiff,reduceCtorEq,Nat.reduceLT,Nat.reduceMul,Nat.reduceAdd,Ea,hc]
  ·refine Sst (J2 hc g20) ?_;refine ih mr' (i+1) _ _ _ ?_ ?_ tO tO tO tO (K0.trans K1) ?_ ?_ ?_ ?_ ?_ (fun hz=>hk ?_) (fun t1 h1 K2 g6=>hr t1 h1 K2 ?_)
   ·have:=congrArg (List.drop 1) hlr;simpa [List.drop_drop] using this
   ·have:=congrArg (List.drop 1) hmr;simpa [List.drop_drop] using this
   ·exact Ssc g0
   ·exact Ssc g1
   ·exact Ssc g2
   ·exact Ssc g19
   ·exact Ag
   ·simp only[Ea,hc,if_true];exact hz
   ·simp only[Ea,hc,if_true];exact g6
theorem call70 (hE:Fns E) {D:Nat} (hC:CmpOK E L (n+2) D) {lb mb:Bool} {lc mc:Nat} {l m:List Va} (hl:l.length≤9223372036854775807) (hd:BC l≤D) (hb:Ax l≤L) (hL:l.length≤L)
  (hk:∀h1,Ah h h1→kc (.ret (.int .i64 (FM l m))) none h1=true):
  call E (L+3) (n+3) (.fn 147) [slR lb lc (AB l) l.length,slR mb mc (AB m) m.length,.fn 94 [] []] none h kc=true:=by
 rw[Af hE.f70,c70,r70,p70_0,p70_1,p70_2,p70_3];cases hc:Ar (Cf (.ofNat l.length) (.ofNat m.length)) (.ofNat 0)
 ·simp -implicitDefEqProofs (disch:=exact tD) only[↓sD,sB,↓reduceIte,Nat.reduceEqDiff,reduceCtorEq,Nat.reduceLT,Nat.reduceMul,Nat.reduceAdd,IY hE,hc];have:=hk h (.refl h);simpa only[FM,hc,Bool.false_eq_true,if_false] using this
 ·have hlm:=cmpI_eq0 hc;simp -implicitDefEqProofs (disch:=exact tD) only[↓sD,sB,↓reduceIte,Nat.reduceEqDiff,reduceCtorEq,Nat.reduceLT,Nat.reduceMul,Nat.reduceAdd,IY hE,hc,Ae];refine loop70 hE hC hl hlm (lb:=lb) (lc:=lc) (mb:=mb) (mc:=mc) (h0:=h) l m 0 _ _ _ (by simp) (by simp) hd hb tO tO (.refl h) ?_ ?_ ?_ ?_ ?_ (fun hz t1 h1 K1=>?_) (fun t1 h1 K1 g6=>?_)
  ·exact Ag
  ·exact Ag
  ·exact Ag
  ·exact Ag
  ·exact Ag
  ·refine Be ?_;have:=hk h1 K1;simpa only[FM,hc,if_true,hz] using this
  ·refine Sst g6 ?_;have:=hk h1 K1;simpa only[FM,hc,if_true] using this
end
end Go.AJ
namespace Go.AJ
open Go
section
variable {E:Env} {L n:Nat} {h:Hp} {kc:KC} {t:T V} {d:Dc} {k:KE} {fi:FI} {c:KV}
theorem cmp_ok (hE : Fns E) (hL9 : L ≤ 9223372036854775807) : ∀ (D n : Nat), CmpOK E L (n + 2 * D + 4) D := by
 intro D
 induction D with
 | zero =>
  intro n x y h kc hd
  cases x
  simp only [Va.dep] at hd
  omega
 | succ D ih =>
  intro n x y h kc hd hb hk
  have ih' : CmpOK E L ((n + 2 * D + 2) + 2) D := ih n
  obtain ⟨kind, nn, neg, db, dc, dd, s, lb, lc, l, mb, mc, m⟩ := x
  obtain ⟨kind', nn', neg', db', dc', dd', s', lb', lc', l', mb', mc', m'⟩ := y
  simp only [Va.dep] at hd
  simp only [Va.bulk] at hb
  have hll : l.length ≤ Ax l := AI l
  have hml : m.length ≤ Ax m := AI m
  rw [Va.cmp_eq] at hk
  rw [show n + 2 * (D + 1) + 4 = (n + 2 * D + 5) + 1 by omega]
  simp only [Va.cells]
  rw [Af hE.f34, c34, r34, p34_0, p34_1, p34_2, p34_3, p34_4]
  simp -implicitDefEqProofs (disch := first | assumption | ((try simp only [dB]); first | done | omega)) only [↓sD, sB, ↓reduceIte, Nat.reduceEqDiff, reduceCtorEq, Nat.reduceAdd, IY hE]
  rw [call67 hE (a := Cf kind kind') (b := Cf nn nn') (Ag)]
  cases h1 : Ar (orI (Cf kind kind') (Cf nn nn')) (.ofNat 0)
  ·refine Sst h1 ?_
   rw [h1] at hk
   refine hk _ ?_
   exact kO
  ·rw [h1, if_pos rfl] at hk
   refine Sst h1 ?_
   refine call68 hE (L := L + 2) (n := n + 2 * D + 2) (a := dd) (b := dd') tO tO (fun a1 K1 => ?_)
   have n1 := K1.nx
   simp only [nB] at n1
   have m2 := K1.old (nxt h) tN
   have m3 := K1.old (nxt h).succ tN
   simp -implicitDefEqProofs (disch := exact tD) only [sB] at m2 m3
   simp -implicitDefEqProofs (disch := first | assumption | ((try simp only [dB]); first | done | omega)) only [↓sD, sB, ↓reduceIte, Nat.reduceEqDiff, m2, m3, call69 hE]
   rw [call67 hE (a := BK neg neg' dd dd') (b := EY s s') (Ag)]
   have Kh : Ah h (a1.upd (nxt a1) (.cells [.int .i64 (BK neg neg' dd dd'), .int .i64 (EY s s')])).bump := by
    refine Ah.new (Ah.trans ?_ K1) _
    exact kO
   cases h2 : Ar (orI (BK neg neg' dd dd') (EY s s')) (.ofNat 0)
   ·refine Sst h2 ?_
    rw [h2] at hk
    exact hk _ Kh
   ·rw [h2, if_pos rfl] at hk
    refine Sst (J3 h2 m2 m3) ?_
    refine call70 hE ih' tO tO tO tO (fun a2 K2 => ?_)
    have n2 := K2.nx
    simp only [nB] at n2
    have m2 := K2.old (nxt h) tN
    have m3 := K2.old (nxt h).succ tN
    simp -implicitDefEqProofs (disch := exact tD) only [sB, *] at m2 m3
    cases h3 : Ar (FM l l') (.ofNat 0)
    ·refine Sst h3 ?_
     rw [h3] at hk
     exact hk _ (Kh.trans K2)
    ·rw [h3, if_pos rfl] at hk
     refine Sst (J3 h3 m2 m3) ?_
     refine call70 hE ih' tO tO tO tO (fun a3 K3 => ?_)
     refine Be ?_
     exact hk _ ((Kh.trans K2).trans K3)
theorem call34 (hE:Fns E) (hL9:L≤9223372036854775807) {x y:Va} {D:Nat} (hd:x.dep≤D) (hb:x.bulk≤L) (hn:2*D+4≤n) (hk:∀h1,Ah h h1→kc (.ret (.int .i64 (x.cmp y))) none h1=true):
  call E (L+3) n (.fn 94) [.agg x.cells,.agg y.cells] none h kc=true:=by
 obtain ⟨m,rfl⟩:∃m,n=m+2*D+4:=⟨n-(2*D+4),by omega⟩
 exact cmp_ok hE hL9 D m x y h kc hd hb hk
end
end Go.AJ
