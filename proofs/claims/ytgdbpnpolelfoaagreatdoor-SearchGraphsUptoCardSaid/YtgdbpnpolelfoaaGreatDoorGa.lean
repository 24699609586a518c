/- Lists and states are compared. -/
import Derived.Test.YtgdbpnpolelfoaaGreatDoorUb
import Derived.Test.YtgdbpnpolelfoaaGreatDoorCodeD
import Derived.Test.YtgdbpnpolelfoaaGreatDoorRc
set_option linter.all false
namespace Go.AJ
open Go
set_option maxRecDepth 100000
/-- A slice whose cells can be read, whatever memory they lie in. -/
structure Es (h:Hp) (v:V) (ps:List V):Prop where
 flat:flat v=true
 len:∀{h1:Hp} {c:KV},GX .sl v h1 c=c (vI ps.length) h1
 get:∀{i:Nat} {p:V},ps[i]? =some p→∃a,Go.AJ.flat a=true∧(∀(h1:Hp) (c:KV),Jq v (vI i) 1 h1 c=c a h1)∧(∀(h1:Hp) (c:KV),Ae h h1→BU a h1 c=c p h1)
theorem Es.keeps {h h':Hp} {v:V} {l:List V} (S:Es h v l) (K:Ae h h'):Es h' v l:=
 ⟨S.flat,S.len,fun hp=>by obtain ⟨a,a1,a2,a3⟩:=S.get hp;exact ⟨a,a1,a2,fun h1 c K1=>a3 h1 c (K.trans K1)⟩⟩
theorem DE {α:Type} {l:List α} {i:Nat} {x:α} (hx:l[i]? =some x):i<l.length:=(List.getElem?_eq_some_iff.1 hx).1
theorem Es.ofR {h:Hp} {b:Bool} {cp n:Nat} {q:List V} (hn:q.length=n):Es h (slR b cp q n) q:=
 ⟨CS,fun {h1 c}=>by rw[Kw,hn],fun {i p} hp=>⟨.rp q (i*1),rfl,fun h1 c=>AR (by rw[←hn];exact DE hp),fun h1 c K=>AM (by rw[Nat.mul_one];exact hp)⟩⟩
theorem Es.ofS {h:Hp} {o:List K} {v:V} {n:Nat} {q:List V} (S:Sl h 1 o v n q):Es h v q:=by
 have hl:q.length=n:=S.len.trans (Nat.mul_one n);refine ⟨S.flat,fun {h1 c}=>by rw[Ib S,hl],fun {i p} hp=>?_⟩;have hi:=DE hp;rcases Sl.inv S with ⟨_,_,h0,_⟩|⟨b,cp,rest,ho,hs,hb,_,_,_,_,hb2⟩
 ·omega
 ·rw[hs];refine ⟨.ptr b (0+i*1),rfl,fun h1 c=>AA tO,fun h1 c K=>?_⟩;simp only[BU,CQ ((K.old b hb2).trans hb)];refine Jr ?_;rw[Nat.zero_add,Nat.mul_one,List.getElem?_append_left hi];exact hp
/-- A slice of numbers. -/
abbrev Zs (h:Hp) (v:V) (l:List Int):Prop:=Es h v (AH l)
theorem Zs.ofR {h:Hp} {b:Bool} {cp:Nat} {f:List Int}:Zs h (slR b cp (AH f) f.length) f:=Es.ofR (CW f)
theorem cn (l:List Nat):AH (l.map Int.ofNat)=Bx l:=by simp [AH,Bx]
theorem Zs.ofS {h:Hp} {o:List K} {v:V} {l:List Nat} (S:Slz h o v l):Zs h v (l.map Int.ofNat):=by unfold Zs;rw[cn];exact Es.ofS S
theorem Zs.ofB {h:Hp} {b:K} {l:List Nat} {n:Nat} (hn:l.length=n) (hb:blk h b=.cells (Bx l)) (nb:b.num<(nxt h).num) (hL:n<9223372036854775808):Zs h (.sl b 0 n n 0) (l.map Int.ofNat):=by refine Zs.ofS (o:= [b]) ?_;unfold Slz;rw[hn];exact .row b n n _ [] (by rw[List.append_nil];exact hb) (by rw[Ct,hn,Nat.mul_one]) (by simp) (Nat.le_refl _) hL nb
section
variable {E:Env} {L n:Nat} {h:Hp} {kc:KC} {t:T V} {d:Dc} {k:KE} {fi:FI} {c:KV} {C:As}
theorem Zs.len {v:V} {l:List Int} (S:Zs h v l) {h1:Hp}:GX .sl v h1 c=c (vI l.length) h1:=by rw[Es.len S,CW]
theorem Zs.at {v:V} {l:List Int} (S:Zs h v l) {i:Nat} {x:Int} (hx:l[i]? =some x):∃p,Go.AJ.flat p=true∧(∀(h1:Hp) (c:KV),Jq v (vI i) 1 h1 c=c p h1)∧(∀(h1:Hp) (c:KV),Ae h h1→BU p h1 c=c (.int .i64 x) h1):=Es.get S (by simp [AH,hx])
/-- The two loops that compare lists of numbers: what they find. -/
theorem gW {v w:V} {a b:List Int} (Sa:Zs h v a) (Sb:Zs h w b) (hab:a.length=b.length) (hl:a.length≤1000000000):∀(ra rb:List Int) (i M:Nat) (t:T V),a.drop i=ra→b.drop i=rb→i+ra.length=a.length→ra.length+1≤M→
  tg 0 t=v→tg 1 t=w→tg 12 t=vI a.length→tg 13 t=vI i→
  (ra=rb→∀t1,k (.exit 0) t1 d h=true)→(ra≠rb→∀t1,tg 4 t1=.bool false→k .ret t1 d h=true)→
  iter (exec C L fi L9) M t d h k=true:=by
 have fv:=Es.flat Sa;have fw:=Es.flat Sb;intro ra;induction ra with
 |nil=>
  intro rb i M t hra hrb hi hM g0 g1 g12 g13 hk hr;obtain ⟨M,rfl⟩:=pM M;simp only[List.length_nil] at hi;have hi':(i<a.length)=False:=eF;have:rb= []:=by rw[←hrb];exact List.drop_eq_nil_of_le tO
  rw[Ab,L9];refine Tst (J3 g12 g13 hi') ?_;exact hk this.symm _
 |cons x ra ih=>
  intro rb i M t hra hrb hi hM g0 g1 g12 g13 hk hr;obtain ⟨M,rfl⟩:=pM M;simp only[List.length_cons] at hi hM;have hi':(i<a.length)=True:=eT;obtain ⟨y,rb,rfl⟩:∃y r,rb=y::r:=by
   cases rb with
   |nil=>have:=congrArg List.length hrb;simp at this;omega
   |cons y r=>exact ⟨y,r,rfl⟩
  obtain ⟨p,fp,p1,p2⟩:=Zs.at Sa (Ak hra);obtain ⟨q,fq,q1,q2⟩:=Zs.at Sb (Ak hrb);have p3:=fun c=>p2 h c (.refl h);have q3:=fun c=>q2 h c (.refl h);rw[Ab,L9];cases e:Aq x y
  ·have hne:x≠y:=fun z=>by rw[z,AG] at e;cases e
   refine Tst (J11 g0 g1 g12 g13 hi' p1 p3 q1 q3 @AP e) ?_;exact hr (fun z=>hne (List.cons.inj z).1) _ Af
  ·have he:=Au.1 e;subst he;refine Tst (J11 g0 g1 g12 g13 hi' p1 p3 q1 q3 @AP e) ?_;refine ih rb (i+1) _ _ (Ai hra) (Ai hrb) tO tO (Ssc g0) (Ssc g1) (Ssc g12) Af (fun z=>hk (by rw[z])) (fun z=>hr (fun q=>z (List.cons.inj q).2))
theorem Nd (hG:Gns E) {v w:V} {a b:List Int} (Sa:Zs h v a) (Sb:Zs h w b) (hl:a.length≤1000000000) (hL:a.length≤L) (hk:kc (.ret (.bool (decide (a=b)))) none h=true):
  call E (L+1) (n+1) (.fn 22) [v,w] none h kc=true:=by
 have la:=fun {h1:Hp} {c:KV}=>Zs.len Sa (h1:=h1) (c:=c);have lb:=fun {h1:Hp} {c:KV}=>Zs.len Sb (h1:=h1) (c:=c);rw[Ag hG.f1022,wj,rO,Zw,Zv,Zu,Zt];by_cases hab:a.length=b.length
 ·have e:Aq (.ofNat a.length) (.ofNat b.length)=true:=by rw[hab];exact AG
  refine Sst (J4 @la @lb e @Ad) ?_;refine gW Sa Sb hab hl a b 0 _ _ rfl rfl tO tO Af Af Af Af (fun he t1=>?_) (fun he t1 g4=>?_)
  ·rw[decide_eq_true he] at hk;refine AV ?_;exact hk
  ·rw[decide_eq_false he] at hk;refine Sst g4 ?_;exact hk
 ·have e:Aq (.ofNat a.length) (.ofNat b.length)=false:=by rw[AB,decide_eq_false hab]
  rw[decide_eq_false (fun z=>hab (by rw[z]))] at hk;refine Sst (J3 @la @lb e) ?_;exact hk
theorem gP {v w:V} {a b:List Int} (Sa:Zs h v a) (Sb:Zs h w b) (hab:a.length=b.length) (hl:a.length≤1000000000):∀(ra rb:List Int) (i M:Nat) (t:T V),a.drop i=ra→b.drop i=rb→i+ra.length=a.length→ra.length+1≤M→
  tg 0 t=v→tg 1 t=w→tg 5 t=vI i→
  (ra=rb→∀t1,k (.exit 0) t1 d h=true)→(ra≠rb→∀t1,tg 4 t1=.bool false→k .ret t1 d h=true)→
  iter (exec C L fi LU) M t d h k=true:=by
 have fv:=Es.flat Sa;have fw:=Es.flat Sb;have la:=fun {h1:Hp} {c:KV}=>Zs.len Sa (h1:=h1) (c:=c);intro ra;induction ra with
 |nil=>
  intro rb i M t hra hrb hi hM g0 g1 g5 hk hr;obtain ⟨M,rfl⟩:=pM M;simp only[List.length_nil] at hi;have hi':(i<a.length)=False:=eF;have:rb= []:=by rw[←hrb];exact List.drop_eq_nil_of_le tO
  rw[Ab,LU];refine Tst (J4 g0 g5 hi' @la) ?_;exact hk this.symm _
 |cons x ra ih=>
  intro rb i M t hra hrb hi hM g0 g1 g5 hk hr;obtain ⟨M,rfl⟩:=pM M;simp only[List.length_cons] at hi hM;have hi':(i<a.length)=True:=eT;obtain ⟨y,rb,rfl⟩:∃y r,rb=y::r:=by
   cases rb with
   |nil=>have:=congrArg List.length hrb;simp at this;omega
   |cons y r=>exact ⟨y,r,rfl⟩
  obtain ⟨p,fp,p1,p2⟩:=Zs.at Sa (Ak hra);obtain ⟨q,fq,q1,q2⟩:=Zs.at Sb (Ak hrb);have p3:=fun c=>p2 h c (.refl h);have q3:=fun c=>q2 h c (.refl h);rw[Ab,LU];cases e:Aq x y
  ·have hne:x≠y:=fun z=>by rw[z,AG] at e;cases e
   refine Tst (J11 g0 g1 g5 @la hi' p1 p3 q1 q3 @AP e) ?_;exact hr (fun z=>hne (List.cons.inj z).1) _ Af
  ·have he:=Au.1 e;subst he;refine Tst (J11 g0 g1 g5 @la hi' p1 p3 q1 q3 @AP e) ?_;refine ih rb (i+1) _ _ (Ai hra) (Ai hrb) tO tO (Ssc g0) (Ssc g1) Af (fun z=>hk (by rw[z])) (fun z=>hr (fun q=>z (List.cons.inj q).2))
theorem zU (hG:Gns E) {v w:V} {a b:List Int} (Sa:Zs h v a) (Sb:Zs h w b) (hl:a.length≤1000000000) (hL:a.length≤L) (hk:kc (.ret (.bool (decide (a=b)))) none h=true):
  call E (L+1) (n+1) (.fn 60) [v,w] none h kc=true:=by
 have la:=fun {h1:Hp} {c:KV}=>Zs.len Sa (h1:=h1) (c:=c);have lb:=fun {h1:Hp} {c:KV}=>Zs.len Sb (h1:=h1) (c:=c);rw[Ag hG.f1060,vR,ry,X9,X8,X7,X6];by_cases hab:a.length=b.length
 ·have e:Aq (.ofNat a.length) (.ofNat b.length)=true:=by rw[hab];exact AG
  refine Sst (J4 @la @lb e @Ad) ?_;refine gP Sa Sb hab hl a b 0 _ _ rfl rfl tO tO Af Af Af (fun he t1=>?_) (fun he t1 g4=>?_)
  ·rw[decide_eq_true he] at hk;refine AV ?_;exact hk
  ·rw[decide_eq_false he] at hk;refine Sst g4 ?_;exact hk
 ·have e:Aq (.ofNat a.length) (.ofNat b.length)=false:=by rw[AB,decide_eq_false hab]
  rw[decide_eq_false (fun z=>hab (by rw[z]))] at hk;refine Sst (J3 @la @lb e) ?_;exact hk
theorem gS {v:V} {a:List Int} {nn:Nat} (Sa:Zs h v a) (hl:a.length≤1000000000):∀(ra:List Int) (i M:Nat) (t:T V),a.drop i=ra→i+ra.length=a.length→ra.length+1≤M→
  tg 0 t=v→tg 1 t=vI nn→tg 5 t=vI i→
  (ra.any (Cq nn)=false→∀t1,k (.exit 0) t1 d h=true)→(ra.any (Cq nn)=true→∀t1,tg 4 t1=.bool false→k .ret t1 d h=true)→
  iter (exec C L fi LX) M t d h k=true:=by
 have la:=fun {h1:Hp} {c:KV}=>Zs.len Sa (h1:=h1) (c:=c);intro ra;induction ra with
 |nil=>intro i M t hra hi hM g0 g1 g5 hk hr;obtain ⟨M,rfl⟩:=pM M;simp only[List.length_nil] at hi;have hi':(i<a.length)=False:=eF;rw[Ab,LX];refine Tst (J4 g0 g5 hi' @la) ?_;exact hk rfl _
 |cons x ra ih=>
  intro i M t hra hi hM g0 g1 g5 hk hr;obtain ⟨M,rfl⟩:=pM M;simp only[List.length_cons] at hi hM;have hi':(i<a.length)=True:=eT;obtain ⟨p,fp,p1,p2⟩:=Zs.at Sa (Ak hra);have p3:=fun c=>p2 h c (.refl h);simp only[List.any_cons] at hk hr;rw[Ab,LX];cases e1:ltI x (.ofNat 0)
  ·cases e2:ltI x (.ofNat nn)
   ·have ho:Cq nn x=true:=by rw[Cq,e1,e2];rfl
    refine Tst (J9 g0 g1 g5 @la hi' p1 p3 e1 e2) ?_;exact hr (by rw[ho];rfl) _ Af
   ·have ho:Cq nn x=false:=by rw[Cq,e1,e2];rfl
    rw[ho,Bool.false_or] at hk hr;refine Tst (J9 g0 g1 g5 @la hi' p1 p3 e1 e2) ?_;exact ih (i+1) _ _ (Ai hra) tO tO (Ssc g0) (Ssc g1) Af hk hr
  ·have ho:Cq nn x=true:=by rw[Cq,e1];rfl
   refine Tst (J8 g0 g1 g5 @la hi' p1 p3 e1) ?_;exact hr (by rw[ho];rfl) _ Af
theorem pg (hG:Gns E) {v:V} {a:List Int} {nn:Nat} (Sa:Zs h v a) (hl:a.length≤1000000000) (hL:a.length≤L) (hk:kc (.ret (.bool (!a.any (Cq nn)))) none h=true):
  call E (L+1) (n+1) (.fn 55) [v,vI nn] none h kc=true:=by
 rw[Ag hG.f1055,vX,rE,YK,YJ,YI];refine Sst @Ad ?_;refine gS (nn:=nn) Sa hl a 0 _ _ rfl tO tO Af Af Af (fun he t1=>?_) (fun he t1 g4=>?_)
 ·rw[he] at hk;refine AV ?_;exact hk
 ·rw[he] at hk;refine Sst g4 ?_;exact hk
end
end Go.AJ
namespace Go.AJ
open Go
set_option maxRecDepth 100000
def Qm:List St→List St→Bool
 | [],[]=>true
 |s::l,r::m=>decide (AS s.l r.l=0)&&Qm l m
 |_,_=>false
theorem Ql:∀{l m:List St},Qm l m=true→l.length=m.length
 | [],[],_=>rfl
 | [],_::_,h=>by cases h
 |_::_,[],h=>by cases h
 |s::l,r::m,h=>by rw[Qm,Bool.and_eq_true] at h;simp [Ql h.2]
theorem QL:∀{g:List St} {i:Nat} {s:St},g[i]? =some s→Av s.l≤BH g
 | [],i,s,h=>by cases h
 |x::l,0,s,h=>by cases h;rw[BH];omega
 |x::l,i+1,s,h=>by have:=QL (g:=l) (i:=i) (by simpa using h);rw[BH];omega
section
variable {E:Env} {L n:Nat} {h:Hp} {kc:KC} {t:T V} {d:Dc} {k:KE} {fi:FI} {c:KV} {C:As}
theorem zW (hE:Fns E) (hG:Gns E) (hL9:L≤9223372036854775807) {x y:Va} {D:Nat} (hd:x.dep≤D) (hb:x.bulk≤L) (hn:2*D+4≤n) (hk:∀h1,Ae h h1→kc (.ret (.bool (decide (x.cmp y=0)))) none h1=true):
  call E (L+3) (n+1) (.fn 58) [.agg x.cells,.agg y.cells] none h kc=true:=by
 have lx:=x.cells_length;have ly:=y.cells_length;have K0:Ae h ((h.upd (nxt h) (.cells x.cells)).upd (nxt h).succ (.cells y.cells)).bump.bump:=kO;rw[Ag hG.f1058,vU,rA,YB,YA];refine Sst (J2 @Ax @Nat.zero_add) ?_;refine ph hE hL9 (D:=D) hd hb hn (fun h1 K1=>?_);have hk:=hk h1 (K0.trans K1);by_cases e:x.cmp y=0
 ·rw[decide_eq_true e] at hk;rw[e];have e2:Aq 0 (.ofNat 0)=true:=rfl;refine Sst e2 ?_;exact hk
 ·rw[decide_eq_false e] at hk;have e2:Aq (x.cmp y) (.ofNat 0)=false:=by cases q:Aq (x.cmp y) (.ofNat 0);rfl;exact absurd (Au.1 q) e
  refine Sst e2 ?_;exact hk
theorem gR (hE:Fns E) (hG:Gns E) (hL9:L≤9223372036854775700) {D:Nat} (hn:2*D+4≤n) {lb mb:Bool} {lc mc:Nat} {l m:List Va} (hl:l.length≤9223372036854775807) {h0:Hp}:
  ∀(lr mr:List Va) (i:Nat) (M:Nat) (t:T V) (h:Hp),l.drop i=lr→m.drop i=mr→Bq lr≤D→Av lr≤L→lr.length+1≤M→i+lr.length=l.length→i+mr.length=m.length→lr.length=mr.length→Ae h0 h→
  tg 15 t=slR lb lc (AC l) l.length→tg 1 t=slR mb mc (AC m) m.length→tg 2 t=.fn 58 [] []→tg 16 t=vI l.length→tg 17 t=vI i→
  (AS lr mr=0→∀t1 h1,Ae h0 h1→k (.exit 0) t1 d h1=true)→
  (AS lr mr≠0→∀t1 h1,Ae h0 h1→tg 6 t1=.bool false→k .ret t1 d h1=true)→
  iter (exec (call E (L+3) (n+1)) (L+3) fi LW) M t d h k=true:=by
 intro lr;induction lr with
 |nil=>intro mr i M t h hlr hmr hd hb hM hi hi2 hlm K0 g15 g1 g2 g16 g17 hk hr;obtain ⟨M,rfl⟩:=pM M;simp only[List.length_nil] at hi hlm;have hi':(i<l.length)=False:=eF;have:mr= []:=List.length_eq_zero_iff.1 hlm.symm;subst this;rw[Ab,LW];refine Tst (J3 g16 g17 hi') ?_;exact hk rfl _ _ K0
 |cons x lr ih=>
  intro mr i M t h hlr hmr hd hb hM hi hi2 hlm K0 g15 g1 g2 g16 g17 hk hr;obtain ⟨M,rfl⟩:=pM M;obtain ⟨y,mr,rfl⟩:∃y r,mr=y::r:=by
   cases mr with
   |nil=>simp at hlm
   |cons y r=>exact ⟨y,r,rfl⟩
  simp only[List.length_cons] at hi hi2 hM hlm;simp only[Bq,Av] at hd hb;have hi':(i<l.length)=True:=eT;have him:i<m.length:=tO;have e1:=fun c h=>Dr (c:=c) (h:=h) (Ak hlr);have e2:=fun c h=>Dr (c:=c) (h:=h) (Ak hmr);have lx:=x.cells_length;have ly:=y.cells_length;have lx7:x.cells.length= [V.int .i64 (.ofNat 0),vI 0,.bool false,.nils,.str [],.nils,.nils].length:=lx;have ly7:y.cells.length= [V.int .i64 (.ofNat 0),vI 0,.bool false,.nils,.str [],.nils,.nils].length:=ly;rw[Ab,LW];rw[AS] at hk hr;refine Tst (J12 g15 g1 g2 g16 g17 hi' e1 e2 @Bu @AX @Ax @Nat.zero_add) ?_;refine zW hE hG (L:=L) (n:=n) (D:=D) tO tO tO hn (fun h1 K1=>?_);have K2:Ae h0 h1:=(K0.trans kO).trans K1;rw[Bb] at hk hr;by_cases e:x.cmp y=0
  ·rw[if_pos e] at hk hr;have w1:=wA i;have ed:decide (x.cmp y=0)=true:=decide_eq_true e;refine Tst (J3 ed g17 w1) ?_;exact ih mr (i+1) _ _ _ (Ai hlr) (Ai hmr) tO tO tO tO tO tO K2 (Ssc g15) (Ssc g1) (Ssc g2) (Ssc g16) Af hk hr
  ·rw[if_neg e] at hr;have ed:decide (x.cmp y=0)=false:=decide_eq_false e;refine Tst (J2 ed g17) ?_;exact hr e _ _ K2 Af
theorem zX (hE:Fns E) (hG:Gns E) (hL9:L≤9223372036854775700) {D:Nat} (hn:2*D+4≤n) {a b:St} (hd:Bq a.l≤D) (hb:Av a.l≤L) (hb2:Av b.l≤9223372036854775700)
  (hk:∀h1,Ae h h1→kc (.ret (.bool (decide (AS a.l b.l=0)))) none h1=true):
  call E (L+3) (n+3) (.fn 56) [a.cell,b.cell] none h kc=true:=by
 obtain ⟨lb,lc,l⟩:=a;obtain ⟨mb,mc,m⟩:=b;simp only at hd hb hb2 hk;have hll:=AL l;have hlm:=AL m;simp only[St.cell];rw[Ag hG.f1056,vW,rC,YH,YG];refine AV ?_;rw[Ag hG.f1057,vV,rB,YF,YE,YD,YC];by_cases hab:l.length=m.length
 ·have e:Aq (.ofNat l.length) (.ofNat m.length)=true:=by rw[hab];exact AG
  refine Sst (J2 e @Ad) ?_;refine gR hE hG hL9 hn (lb:=lb) (lc:=lc) (mb:=mb) (mc:=mc) (l:=l) (m:=m) tO (h0:=h) l m 0 _ _ _ rfl rfl hd hb tO tO tO hab (.refl h) Af Af Af Af Af (fun he t1 h1 K1=>?_) (fun he t1 h1 K1 g6=>?_)
  ·have hk:=hk h1 K1;rw[decide_eq_true he] at hk;refine AV ?_;exact hk
  ·have hk:=hk h1 K1;rw[decide_eq_false he] at hk;refine Sst g6 ?_;exact hk
 ·have e:Aq (.ofNat l.length) (.ofNat m.length)=false:=by rw[AB,decide_eq_false hab]
  have hk:=hk h (.refl h);rw[decide_eq_false (fun z=>hab (GM z).1)] at hk;refine Sst e ?_;exact hk
theorem gQ (hE:Fns E) (hG:Gns E) (hL9:L≤9223372036854775700) {D:Nat} (hn:2*D+4≤n) {lb mb:Bool} {lc mc:Nat} {l m:List St} (hl:l.length≤9223372036854775807) {h0:Hp}:
  ∀(lr mr:List St) (i:Nat) (M:Nat) (t:T V) (h:Hp),l.drop i=lr→m.drop i=mr→(∀s∈lr,Bq s.l≤D)→BH lr≤L→BH mr≤9223372036854775700→lr.length+1≤M→i+lr.length=l.length→i+mr.length=m.length→lr.length=mr.length→Ae h0 h→
  tg 15 t=slR lb lc (BZ l) l.length→tg 1 t=slR mb mc (BZ m) m.length→tg 2 t=.fn 56 [] []→tg 16 t=vI l.length→tg 17 t=vI i→
  (Qm lr mr=true→∀t1 h1,Ae h0 h1→k (.exit 0) t1 d h1=true)→
  (Qm lr mr=false→∀t1 h1,Ae h0 h1→tg 6 t1=.bool false→k .ret t1 d h1=true)→
  iter (exec (call E (L+3) (n+3)) (L+3) fi LV) M t d h k=true:=by
 intro lr;induction lr with
 |nil=>intro mr i M t h hlr hmr hd hb hb2 hM hi hi2 hlm K0 g15 g1 g2 g16 g17 hk hr;obtain ⟨M,rfl⟩:=pM M;simp only[List.length_nil] at hi hlm;have hi':(i<l.length)=False:=eF;have:mr= []:=List.length_eq_zero_iff.1 hlm.symm;subst this;rw[Ab,LV];refine Tst (J3 g16 g17 hi') ?_;exact hk rfl _ _ K0
 |cons x lr ih=>
  intro mr i M t h hlr hmr hd hb hb2 hM hi hi2 hlm K0 g15 g1 g2 g16 g17 hk hr;obtain ⟨M,rfl⟩:=pM M;obtain ⟨y,mr,rfl⟩:∃y r,mr=y::r:=by
   cases mr with
   |nil=>simp at hlm
   |cons y r=>exact ⟨y,r,rfl⟩
  simp only[List.length_cons] at hi hi2 hM hlm;simp only[BH] at hb hb2;have hi':(i<l.length)=True:=eT;have him:i<m.length:=tO;have e1:=fun c h=>AM (c:=c) (h:=h) (BX (Ak hlr));have e2:=fun c h=>AM (c:=c) (h:=h) (BX (Ak hmr));rw[Ab,LV];rw[Qm] at hk hr;refine Tst (J9 g15 g1 g2 g16 g17 hi' e1 e2 @Nat.mul_one) ?_;refine zX hE hG (L:=L) (n:=n) (D:=D) hL9 hn (hd x (by simp)) tO tO (fun h1 K1=>?_);have K2:Ae h0 h1:=K0.trans K1;by_cases e:AS x.l y.l=0
  ·have ed:decide (AS x.l y.l=0)=true:=decide_eq_true e;rw[ed,Bool.true_and] at hk hr;have w1:=wA i;refine Tst (J3 ed g17 w1) ?_;exact ih mr (i+1) _ _ _ (Ai hlr) (Ai hmr) (fun s hs=>hd s (by simp [hs])) tO tO tO tO tO tO K2 (Ssc g15) (Ssc g1) (Ssc g2) (Ssc g16) Af hk hr
  ·have ed:decide (AS x.l y.l=0)=false:=decide_eq_false e;rw[ed,Bool.false_and] at hr;refine Tst (J2 ed g17) ?_;exact hr rfl _ _ K2 Af
theorem zV (hE:Fns E) (hG:Gns E) (hL9:L≤9223372036854775700) {D:Nat} (hn:2*D+4≤n) {lb mb:Bool} {lc mc:Nat} {l m:List St} (hd:∀s∈l,Bq s.l≤D) (hb:BH l≤L) (hb2:BH m≤9223372036854775700) (hl:l.length≤L)
  (hk:∀h1,Ae h h1→kc (.ret (.bool (Qm l m))) none h1=true):
  call E (L+3) (n+4) (.fn 59) [slR lb lc (BZ l) l.length,slR mb mc (BZ m) m.length,.fn 56 [] []] none h kc=true:=by
 rw[Ag hG.f1059,vT,rz,Yz,Yj,Yg,Yf];by_cases hab:l.length=m.length
 ·have e:Aq (.ofNat l.length) (.ofNat m.length)=true:=by rw[hab];exact AG
  refine Sst (J2 e @Ad) ?_;refine gQ hE hG hL9 hn (lb:=lb) (lc:=lc) (mb:=mb) (mc:=mc) (l:=l) (m:=m) tO (h0:=h) l m 0 _ _ _ rfl rfl hd hb hb2 tO tO tO hab (.refl h) Af Af Af Af Af (fun he t1 h1 K1=>?_) (fun he t1 h1 K1 g6=>?_)
  ·have hk:=hk h1 K1;rw[he] at hk;refine AV ?_;exact hk
  ·have hk:=hk h1 K1;rw[he] at hk;refine Sst g6 ?_;exact hk
 ·have e:Aq (.ofNat l.length) (.ofNat m.length)=false:=by rw[AB,decide_eq_false hab]
  have hk:=hk h (.refl h);have hf:Qm l m=false:=by cases q:Qm l m;rfl;exact absurd (Ql q) hab
  rw[hf] at hk;refine Sst e ?_;exact hk
end
end Go.AJ
namespace Go.AJ
open Go
set_option maxRecDepth 100000
section
variable {E:Env} {L n:Nat} {h:Hp} {kc:KC} {t:T V} {d:Dc} {k:KE} {fi:FI} {c:KV} {C:As}
theorem Qj {neg:Bool} {a b a' b':Int}:oEq neg (.cells [.int,.int]) (.agg [.int .i64 a,.int .i64 b]) (.agg [.int .i64 a',.int .i64 b']) h c=c (.bool (neg !=(Aq a a'&&Aq b b'))) h:=by simp only[oEq,eqK,BM,Bk,BO];cases Aq a a'<;>cases Aq b b'<;>cases neg<;>rfl
theorem M9 {neg:Bool} {q:EK} {x y:X} {v:V}:Bg (.eqv neg q x y) t h v=oEq neg q (ev t x) (ev t y) h (isV v):=rfl
theorem AaL {e f:Int×Int}:(Aq e.1 f.1&&Aq e.2 f.2)=decide (e=f):=by
 obtain ⟨a,b⟩:=e;obtain ⟨x,y⟩:=f;cases h1:Aq a x
 ·have:a≠x:=fun z=>by rw[z,AG] at h1;cases h1
  simp [this]
 ·have:=Au.1 h1;subst this;cases h2:Aq b y
  ·have:b≠y:=fun z=>by rw[z,AG] at h2;cases h2
   simp [this]
  ·have:=Au.1 h2;subst this;simp
theorem Pa {m:Nat} {a b:Int}:veq (m+2) (.agg [.int .i64 a,.int .i64 b]) (.agg [.int .i64 a,.int .i64 b])=true:=Pd F3 F3
theorem gU {lb mb:Bool} {lc mc:Nat} {a b:List (Int×Int)} (hab:a.length=b.length) (hl:a.length≤1000000000):∀(ra rb:List (Int×Int)) (i M:Nat) (t:T V),a.drop i=ra→b.drop i=rb→i+ra.length=a.length→ra.length+1≤M→
  tg 0 t=slR lb lc (Dq a) a.length→tg 1 t=slR mb mc (Dq b) b.length→tg 12 t=vI a.length→tg 13 t=vI i→
  (ra=rb→∀t1,k (.exit 0) t1 d h=true)→(ra≠rb→∀t1,tg 4 t1=.bool false→k .ret t1 d h=true)→
  iter (exec C L fi L5) M t d h k=true:=by
 intro ra;induction ra with
 |nil=>
  intro rb i M t hra hrb hi hM g0 g1 g12 g13 hk hr;obtain ⟨M,rfl⟩:=pM M;simp only[List.length_nil] at hi;have hi':(i<a.length)=False:=eF;have:rb= []:=by rw[←hrb];exact List.drop_eq_nil_of_le tO
  rw[Ab,L5];refine Tst (J3 g12 g13 hi') ?_;exact hk this.symm _
 |cons x ra ih=>
  intro rb i M t hra hrb hi hM g0 g1 g12 g13 hk hr;obtain ⟨M,rfl⟩:=pM M;simp only[List.length_cons] at hi hM;have hi':(i<a.length)=True:=eT;obtain ⟨y,rb,rfl⟩:∃y r,rb=y::r:=by
   cases rb with
   |nil=>have:=congrArg List.length hrb;simp at this;omega
   |cons y r=>exact ⟨y,r,rfl⟩
  have him:i<b.length:=tO;have e1:=fun c h=>Ch (c:=c) (h:=h) (Bm (Ak hra)) rfl;have e2:=fun c h=>Ch (c:=c) (h:=h) (Bm (Ak hrb)) rfl;rw[Ab,L5];by_cases e:x=y
  ·have ee:(Aq x.1 y.1&&Aq x.2 y.2)=true:=by rw[AaL,decide_eq_true e]
   have e4:(true !=true)=false:=rfl;refine Tst (J13 g0 g1 g12 g13 hi' e1 e2 @Gp @Pa @Qj ee e4 @M9) ?_;refine ih rb (i+1) _ _ (Ai hra) (Ai hrb) tO tO (Ssc g0) (Ssc g1) (Ssc g12) Af (fun z=>hk (by rw[e,z])) (fun z=>hr (fun q=>z (List.cons.inj q).2))
  ·have ee:(Aq x.1 y.1&&Aq x.2 y.2)=false:=by rw[AaL,decide_eq_false e]
   have e4:(true !=false)=true:=rfl;refine Tst (J13 g0 g1 g12 g13 hi' e1 e2 @Gp @Pa @Qj ee e4 @M9) ?_;exact hr (fun z=>e (List.cons.inj z).1) _ Af
theorem uM (hG:Gns E) {lb mb:Bool} {lc mc:Nat} {a b:List (Int×Int)} (hl:a.length≤1000000000) (hL:a.length≤L) (hk:kc (.ret (.bool (decide (a=b)))) none h=true):
  call E (L+1) (n+1) (.fn 34) [slR lb lc (Dq a) a.length,slR mb mc (Dq b) b.length] none h kc=true:=by
 rw[Ag hG.f1034,wg,rL,Zk,Zj,Zi,Zh];by_cases hab:a.length=b.length
 ·have e:Aq (.ofNat a.length) (.ofNat b.length)=true:=by rw[hab];exact AG
  refine Sst (J2 e @Ad) ?_;refine gU (lb:=lb) (mb:=mb) (lc:=lc) (mc:=mc) hab hl a b 0 _ _ rfl rfl tO tO Af Af Af Af (fun he t1=>?_) (fun he t1 g4=>?_)
  ·rw[decide_eq_true he] at hk;refine AV ?_;exact hk
  ·rw[decide_eq_false he] at hk;refine Sst g4 ?_;exact hk
 ·have e:Aq (.ofNat a.length) (.ofNat b.length)=false:=by rw[AB,decide_eq_false hab]
  rw[decide_eq_false (fun z=>hab (by rw[z]))] at hk;refine Sst e ?_;exact hk
theorem Gr.ld0 {g:Gr} {h:Hp} {c:KV}:ldB (.cells g.cells) 0 h c=c (slR g.sb g.sc (BZ g.states) g.states.length) h:=rfl
theorem Gr.ld1 {g:Gr} {h:Hp} {c:KV}:ldB (.cells g.cells) 1 h c=c (slR g.ib g.ic (AH g.init) g.init.length) h:=rfl
theorem Gr.ld2 {g:Gr} {h:Hp} {c:KV}:ldB (.cells g.cells) 2 h c=c (slR g.eb g.ec (Dq g.edges) g.edges.length) h:=rfl
def Gr.same (g q:Gr):Bool:=Qm g.states q.states&&decide (g.init=q.init)&&decide (g.edges=q.edges)
theorem Aaa (hE:Fns E) (hG:Gns E) (hL9:L≤9223372036854775600) {D:Nat} (hn:2*D+4≤n) {g q:Gr} (hd:∀s∈g.states,Bq s.l≤D) (hb:g.bulk≤L) (hb2:g.bulk≤1000000000) (hb3:q.bulk≤1000000000)
  (hk:∀h1,Ae h h1→kc (.ret (.bool (g.same q))) none h1=true):
  call E (L+4) (n+5) (.fn 20) [.agg g.cells,.agg q.cells] none h kc=true:=by
 have hbb:g.states.length+BH g.states+g.init.length+2*g.edges.length≤L:=hb;have hbb2:g.states.length+BH g.states+g.init.length+2*g.edges.length≤1000000000:=hb2;have hbb3:q.states.length+BH q.states+q.init.length+2*q.edges.length≤1000000000:=hb3;have K0:Ae h ((h.upd (nxt h) (.cells g.cells)).upd (nxt h).succ (.cells q.cells)).bump.bump:=kO;rw[Ag hG.f1020,wo,rQ,ZD,ZC,ZB];have m0:blk ((h.upd (nxt h) (.cells g.cells)).upd (nxt h).succ (.cells q.cells)).bump.bump (nxt h)=.cells g.cells:=Af;have m1:blk ((h.upd (nxt h) (.cells g.cells)).upd (nxt h).succ (.cells q.cells)).bump.bump (nxt h).succ=.cells q.cells:=Af;refine Sst (J3 @Gr.ld0 @Gr.ld1 @Gr.ld2) ?_;refine zV hE hG (L:=L+1) (n:=n) (D:=D) tO hn hd tO tO tO (fun h1 K1=>?_);have K01:=K0.trans K1;have a0:blk h1 (nxt h)=.cells g.cells:=(K1.old _ tN).trans m0;have a1:blk h1 (nxt h).succ=.cells q.cells:=(K1.old _ tN).trans m1;cases c1:Qm g.states q.states
 ·have hk:=hk h1 K01;have e:g.same q=false:=by rw[Gr.same,c1];rfl
  rw[e] at hk;refine AV ?_;exact hk
 refine Sst (J5 @Gr.ld0 @Gr.ld1 @Gr.ld2 a0 a1) ?_;refine Nd hG (L:=L+3) (n:=n+3) Zs.ofR Zs.ofR tO tO ?_;by_cases c2:g.init=q.init
 ·have e2:decide (g.init=q.init)=true:=decide_eq_true c2;refine Sst (J6 @Gr.ld0 @Gr.ld1 @Gr.ld2 a0 a1 e2) ?_;refine uM hG (L:=L+3) (n:=n+3) tO tO ?_;have hk:=hk h1 K01;have e:g.same q=decide (g.edges=q.edges):=by rw[Gr.same,c1,e2];rfl
  rw[e] at hk;refine AV ?_;exact hk
 ·have e2:decide (g.init=q.init)=false:=decide_eq_false c2;have hk:=hk h1 K01;have e:g.same q=false:=by rw[Gr.same,c1,e2];rfl
  rw[e] at hk;refine Sst e2 ?_;exact hk
end
end Go.AJ
namespace Go.AJ
open Go
set_option maxRecDepth 100000
/-- A slice of values that can be read, whatever memory they lie in. -/
structure Fs (h:Hp) (v:V) (l:List Va):Prop where
 flat:flat v=true
 len:∀{h1:Hp} {c:KV},GX .sl v h1 c=c (vI l.length) h1
 get:∀{i:Nat} {x:Va},l[i]? =some x→∃a,Go.AJ.flat a=true∧(∀(h1:Hp) (c:KV),Jq v (vI i) 7 h1 c=c a h1)∧(∀(h1:Hp) (c:KV),Ae h h1→CV a 7 h1 c=c (.agg x.cells) h1)
theorem Fs.keeps {h h':Hp} {v:V} {l:List Va} (S:Fs h v l) (K:Ae h h'):Fs h' v l:=
 ⟨S.flat,S.len,fun hp=>by obtain ⟨a,a1,a2,a3⟩:=S.get hp;exact ⟨a,a1,a2,fun h1 c K1=>a3 h1 c (K.trans K1)⟩⟩
theorem Fs.ofR {h:Hp} {b:Bool} {cp:Nat} {l:List Va}:Fs h (slR b cp (AC l) l.length) l:=
 ⟨CS,fun {h1 c}=>Kw,fun {i x} hx=>⟨.rp (AC l) (i*7),rfl,fun h1 c=>AR (DE hx),fun h1 c K=>Dr hx⟩⟩
theorem Fs.ofS {h:Hp} {o:List K} {v:V} {l:List Va} (S:Sl h 7 o v l.length (AC l)):Fs h v l:=by
 refine ⟨S.flat,fun {h1 c}=>Ib S,fun {i x} hx=>?_⟩;have hi:=DE hx;rcases Sl.inv S with ⟨_,_,h0,_⟩|⟨b,cp,rest,ho,hs,hb,hq,_,_,_,hb2⟩
 ·omega
 ·rw[hs];refine ⟨.ptr b (0+i*7),rfl,fun h1 c=>AA hi,fun h1 c K=>?_⟩;have hb1:=(K.old b hb2).trans hb;have e:((AC l++rest).drop (0+i*7)).take 7=x.cells:=by rw[Nat.zero_add,List.drop_append_of_le_length tO,List.take_append_of_le_length (by rw[List.length_drop];omega)];exact Ho hx
  rw[b6,hb1];exact Ic e x.cells_length
section
variable {E:Env} {L n:Nat} {h:Hp} {kc:KC} {t:T V} {d:Dc} {k:KE} {fi:FI} {c:KV} {C:As}
theorem tC (hF:Hns E) (hL9:L≤9223372036854775700) {D:Nat} (hn:2*D+4≤n) {v w:V} {l m:List Va} {h0:Hp} (Sv:Fs h0 v l) (Sw:Fs h0 w m) (hl:l.length≤9223372036854775807):
  ∀(lr mr:List Va) (i:Nat) (M:Nat) (t:T V) (h:Hp),l.drop i=lr→m.drop i=mr→Bq lr≤D→Av lr≤L→Av mr≤L→lr.length+1≤M→i+lr.length=l.length→i+mr.length=m.length→Ae h0 h→
  tg 0 t=v→tg 1 t=w→tg 5 t=vI i→
  (∀t1 h1,Ae h0 h1→tg 0 t1=v→tg 1 t1=w→AS lr mr=Cz (.ofNat l.length) (.ofNat m.length)→k (.exit 0) t1 d h1=true)→
  (∀t1 h1,Ae h0 h1→tg 4 t1=.int .i64 (AS lr mr)→k .ret t1 d h1=true)→
  iter (exec (call E (L+3) n) (L+3) fi Ee) M t d h k=true:=by
 have fv:=Sv.flat;have fw:=Sw.flat;have lv:=fun {h1:Hp} {c:KV}=>Sv.len (h1:=h1) (c:=c);have lw:=fun {h1:Hp} {c:KV}=>Sw.len (h1:=h1) (c:=c);intro lr;induction lr with
 |nil=>
  intro mr i M t h hlr hmr hd hb hb' hM hi hi2 K0 g0 g1 g5 hk hr;obtain ⟨M,rfl⟩:=pM M;have hi':(i<l.length)=False:=eq_false (by simp at hi;omega);rw[Ab,Ee];refine Tst (J4 g0 g5 hi' @lv) ?_;refine hk _ _ K0 (Ssc g0) (Ssc g1) ?_;simp only[List.length_nil] at hi;rw[Cm];cases mr with
  |nil=>simp only[List.length_nil] at hi2;rw[if_neg (by simp;omega),if_neg (by simp;omega)];rfl
  |cons y mr=>simp only[List.length_cons] at hi2;rw[if_pos (by simp;omega)];rfl
 |cons x lr ih=>
  intro mr i M t h hlr hmr hd hb hb' hM hi hi2 K0 g0 g1 g5 hk hr;obtain ⟨M,rfl⟩:=pM M;simp only[List.length_cons] at hi hM;simp only[Bq,Av] at hd hb;have hi':(i<l.length)=True:=eT;cases mr with
  |nil=>simp only[List.length_nil] at hi2;have him:(i<m.length)=False:=eF;rw[Ab,Ee];refine Tst (J7 g0 g1 g5 hi' him @lv @lw) ?_;refine hk _ _ K0 (Ssc g0) (Ssc g1) ?_;rw[Cm,if_neg (by simp;omega),if_pos (by simp;omega)];rfl
  |cons y mr'=>
  simp only[List.length_cons] at hi2;have hx:l[i]? =some x:=Ak hlr;simp only[Av] at hb';have hy:m[i]? =some y:=Ak hmr;obtain ⟨p,fp,p1,p2⟩:=Sv.get hx;obtain ⟨q,fq,q1,q2⟩:=Sw.get hy;have p3:=fun c=>p2 h c K0;have q3:=fun c=>q2 h c K0;have him:(i<m.length)=True:=eT;rw[Ab,Ee];rw[AS] at hk hr;refine Tst (J13 g0 g1 g5 hi' him p1 p3 q1 q3 @DC @AP @lv @lw) ?_;refine Lj hF tO (D:=D) tO tO tO hn (fun h1 K1=>?_);cases hc:Aq (x.cmp y) (.ofNat 0)
  ·have hne:x.cmp y≠0:=fun e=>by rw[e] at hc;cases hc
   rw[Bb,if_neg hne] at hr;refine Sst hc ?_;refine hr _ _ (K0.trans K1) ?_;exact Af
  ·have he:x.cmp y=0:=Au.1 hc;rw[he,Bb,if_pos rfl] at hk hr;refine Sst (J2 hc g5) ?_;refine ih mr' (i+1) _ _ _ (Ai hlr) (Ai hmr) tO tO tO tO tO tO (K0.trans K1) ?_ ?_ ?_ hk hr
   ·exact Ssc g0
   ·exact Ssc g1
   ·exact Af
theorem uD (hF:Hns E) (hL9:L≤9223372036854775700) {D:Nat} (hn:2*D+4≤n) {v w:V} {l m:List Va} (Sv:Fs h v l) (Sw:Fs h w m) (hd:Bq l≤D) (hb:Av l≤L) (hb':Av m≤L)
  (hk:∀h1,Ae h h1→kc (.ret (.int .i64 (AS l m))) none h1=true):
  call E (L+3) (n+1) (.fn 61) [v,w] none h kc=true:=by
 have hll:=AL l;have lv:=fun {h1:Hp} {c:KV}=>Sv.len (h1:=h1) (c:=c);have lw:=fun {h1:Hp} {c:KV}=>Sw.len (h1:=h1) (c:=c);rw[Ag hF.f1061,jU,fA,NW,NV,NU,NT,NS];refine Sst @Ad ?_;refine tC hF hL9 hn Sv Sw tO l m 0 _ _ _ rfl rfl hd hb hb' tO tO tO (.refl h) ?_ ?_ ?_ (fun t1 h1 K1 u0 u1 he=>?_) (fun t1 h1 K1 g4=>?_)
 ·exact Af
 ·exact Af
 ·exact Af
 ·have hk1:=hk h1 K1;rw[he,Cm] at hk1;by_cases c1:l.length<m.length
  ·rw[if_pos (by simpa using c1)] at hk1;simp -implicitDefEqProofs (disch:=exact tD) only[↓sD,sB,↓reduceIte,Nat.reduceEqDiff,reduceCtorEq,Nat.reduceLT,Nat.reduceMul,Nat.reduceAdd, @lv, @lw,u0,u1,Aj,c1,decide_true];exact hk1
  ·by_cases c2:m.length<l.length
   ·rw[if_neg (by simpa using c1),if_pos (by simpa using c2)] at hk1;simp -implicitDefEqProofs (disch:=exact tD) only[↓sD,sB,↓reduceIte,Nat.reduceEqDiff,reduceCtorEq,Nat.reduceLT,Nat.reduceMul,Nat.reduceAdd, @lv, @lw,u0,u1,Aj,c1,c2,decide_true,decide_false];exact hk1
   ·rw[if_neg (by simpa using c1),if_neg (by simpa using c2)] at hk1;simp -implicitDefEqProofs (disch:=exact tD) only[↓sD,sB,↓reduceIte,Nat.reduceEqDiff,reduceCtorEq,Nat.reduceLT,Nat.reduceMul,Nat.reduceAdd, @lv, @lw,u0,u1,Aj,c1,c2,decide_false];exact hk1
 ·refine Sst g4 ?_;exact hk h1 K1
def TC:List (List Va)→List (List Va)→Bool
 | [],[]=>true
 |s::l,r::m=>decide (AS s r=0)&&TC l m
 |_,_=>false
theorem Qn:∀l m:List St,TC (l.map St.l) (m.map St.l)=Qm l m
 | [],[]=>rfl
 | [],_::_=>rfl
 |_::_,[]=>rfl
 |s::l,r::m=>by rw[List.map_cons,List.map_cons,TC,Qm,Qn l m]
theorem M0:∀l:List (List Va),TC l l=true
 | []=>rfl
 |s::l=>by rw[TC,GN,M0 l];rfl
/-- A slice of states that can be read. -/
structure Ss (h:Hp) (v:V) (l:List (List Va)):Prop where
 flat:flat v=true
 len:∀{h1:Hp} {c:KV},GX .sl v h1 c=c (vI l.length) h1
 get:∀{i:Nat} {x:List Va},l[i]? =some x→∃a s,Go.AJ.flat a=true∧(∀(h1:Hp) (c:KV),Jq v (vI i) 1 h1 c=c a h1)∧(∀(h1:Hp) (c:KV),Ae h h1→BU a h1 c=c s h1)∧Fs h s x
theorem Ss.ofE {v:V} {ps:List V} {l:List (List Va)} (S:Es h v ps) (hl:ps.length=l.length) (hf:∀{i:Nat} {p:V} {x:List Va},ps[i]? =some p→l[i]? =some x→Fs h p x):Ss h v l:=
 ⟨S.flat,fun {h1 c}=>by rw[S.len,hl],fun {i x} hx=>by have hi:=DE hx;have hp:ps[i]? =some ps[i]:=List.getElem?_eq_getElem tO;obtain ⟨a,a1,a2,a3⟩:=S.get hp;exact ⟨a,ps[i],a1,a2,a3,hf hp hx⟩⟩
theorem Ss.ofG {b:Bool} {cp:Nat} {l:List St}:Ss h (slR b cp (BZ l) l.length) (l.map St.l):=by
 refine Ss.ofE (Es.ofR (by simp [BZ])) (by simp [BZ]) (fun {i p x} hp hx=>?_);simp only[BZ,List.getElem?_map] at hp hx;cases hs:l[i]? with
 |none=>rw[hs] at hp;cases hp
 |some s=>rw[hs] at hp hx;cases hp;cases hx;exact Fs.ofR
theorem gV (hF:Hns E) (hG:Gns E) (hL9:L≤9223372036854775700) {D:Nat} (hn:2*D+4≤n) {v w:V} {l m:List (List Va)} {h0:Hp} (Sv:Ss h0 v l) (Sw:Ss h0 w m) (hll:l.length≤1000000000) (hd:∀s∈l,Bq s≤D) (hb:∀s∈l,Av s≤L) (hb2:∀s∈m,Av s≤L):
  ∀(lr mr:List (List Va)) (i:Nat) (M:Nat) (t:T V) (h:Hp),l.drop i=lr→m.drop i=mr→lr.length+1≤M→i+lr.length=l.length→lr.length=mr.length→Ae h0 h→
  tg 0 t=v→tg 1 t=w→tg 5 t=vI i→
  (TC lr mr=true→∀t1 h1,Ae h0 h1→k (.exit 0) t1 d h1=true)→
  (TC lr mr=false→∀t1 h1,Ae h0 h1→tg 4 t1=.bool false→k .ret t1 d h1=true)→
  iter (exec (call E (L+3) (n+1)) (L+3) fi L8) M t d h k=true:=by
 have fv:=Sv.flat;have fw:=Sw.flat;have la:=fun {h1:Hp} {c:KV}=>Sv.len (h1:=h1) (c:=c);intro lr;induction lr with
 |nil=>intro mr i M t h hlr hmr hM hi hlm K0 g0 g1 g5 hk hr;obtain ⟨M,rfl⟩:=pM M;simp only[List.length_nil] at hi hlm;have hi':(i<l.length)=False:=eF;have:mr= []:=List.length_eq_zero_iff.1 hlm.symm;subst this;rw[Ab,L8];refine Tst (J4 g0 g5 hi' @la) ?_;exact hk rfl _ _ K0
 |cons x lr ih=>
  intro mr i M t h hlr hmr hM hi hlm K0 g0 g1 g5 hk hr;obtain ⟨M,rfl⟩:=pM M;obtain ⟨y,mr,rfl⟩:∃y r,mr=y::r:=by
   cases mr with
   |nil=>simp at hlm
   |cons y r=>exact ⟨y,r,rfl⟩
  simp only[List.length_cons] at hi hM hlm;have hi':(i<l.length)=True:=eT;obtain ⟨p,sp,fp,p1,p2,Fp⟩:=Sv.get (Ak hlr);obtain ⟨q,sq,fq,q1,q2,Fq⟩:=Sw.get (Ak hmr);have p3:=fun c=>p2 h c K0;have q3:=fun c=>q2 h c K0;have fsp:=Fp.flat;have fsq:=Fq.flat;have hx:=List.mem_of_getElem? (Ak hlr);have hy:=List.mem_of_getElem? (Ak hmr);rw[Ab,L8];rw[TC] at hk hr;refine Tst (J10 g0 g1 g5 @la hi' p1 p3 q1 q3 @AP) ?_;refine uD hF hL9 hn (Fp.keeps K0) (Fq.keeps K0) (hd x hx) (hb x hx) (hb2 y hy) (fun h1 K1=>?_);have K2:=K0.trans K1;have w1:=wA i;by_cases e:AS x y=0
  ·have e2:Aq (AS x y) (.ofNat 0)=true:=by rw[e];rfl
   rw[decide_eq_true e,Bool.true_and] at hk hr;refine Tst (J3 e2 g5 w1) ?_;exact ih mr (i+1) _ _ _ (Ai hlr) (Ai hmr) tO tO tO K2 (Ssc g0) (Ssc g1) Af hk hr
  ·have e2:Aq (AS x y) (.ofNat 0)=false:=by cases z:Aq (AS x y) (.ofNat 0);rfl;exact absurd (Au.1 z) e
   rw[decide_eq_false e,Bool.false_and] at hr;refine Tst (J2 e2 g5) ?_;exact hr rfl _ _ K2 Af
theorem Qo:∀{l m:List (List Va)},TC l m=true→l.length=m.length
 | [],[],_=>rfl
 | [],_::_,h=>by cases h
 |_::_,[],h=>by cases h
 |s::l,r::m,h=>by rw[TC,Bool.and_eq_true] at h;simp [Qo h.2]
theorem pi (hF:Hns E) (hG:Gns E) (hL9:L≤9223372036854775700) {D:Nat} (hn:2*D+4≤n) {v w:V} {l m:List (List Va)} (Sv:Ss h v l) (Sw:Ss h w m) (hll:l.length≤1000000000) (hlL:l.length≤L) (hd:∀s∈l,Bq s≤D) (hb:∀s∈l,Av s≤L) (hb2:∀s∈m,Av s≤L)
  (hk:∀h1,Ae h h1→kc (.ret (.bool (TC l m))) none h1=true):
  call E (L+3) (n+2) (.fn 23) [v,w] none h kc=true:=by
 have la:=fun {h1:Hp} {c:KV}=>Sv.len (h1:=h1) (c:=c);have lb:=fun {h1:Hp} {c:KV}=>Sw.len (h1:=h1) (c:=c);rw[Ag hG.f1023,wi,rN,Zr,Zq,Zp,Zo];by_cases hab:l.length=m.length
 ·have e:Aq (.ofNat l.length) (.ofNat m.length)=true:=by rw[hab];exact AG
  refine Sst (J4 @la @lb e @Ad) ?_;refine gV hF hG hL9 hn Sv Sw hll hd hb hb2 l m 0 _ _ _ rfl rfl tO tO hab (.refl h) Af Af Af (fun he t1 h1 K1=>?_) (fun he t1 h1 K1 g4=>?_)
  ·have hk:=hk h1 K1;rw[he] at hk;refine AV ?_;exact hk
  ·have hk:=hk h1 K1;rw[he] at hk;refine Sst g4 ?_;exact hk
 ·have e:Aq (.ofNat l.length) (.ofNat m.length)=false:=by rw[AB,decide_eq_false hab]
  have hk:=hk h (.refl h);have hf:TC l m=false:=by cases q:TC l m;rfl;exact absurd (Qo q) hab
  rw[hf] at hk;refine Sst (J3 @la @lb e) ?_;exact hk
end
end Go.AJ
namespace Go.AJ
open Go
set_option maxRecDepth 100000
section
variable {E:Env} {L n:Nat} {h:Hp} {kc:KC} {t:T V} {d:Dc} {k:KE} {fi:FI} {c:KV} {C:As}
theorem gX {ba bb:K} {g q:Gr} (ma:blk h ba=.cells g.cells) (mb:blk h bb=.cells q.cells) (hab:g.edges.length=q.edges.length) (hl:g.edges.length≤1000000000):∀(ra rb:List (Int×Int)) (i M:Nat) (t:T V),g.edges.drop i=ra→q.edges.drop i=rb→i+ra.length=g.edges.length→ra.length+1≤M→
  tg 2 t=.ptr ba 0→tg 3 t=.ptr bb 0→tg 5 t=vI i→
  (ra=rb→∀t1,k (.exit 0) t1 d h=true)→(ra≠rb→∀t1,tg 4 t1=.bool false→k .ret t1 d h=true)→
  iter (exec C L fi Ma) M t d h k=true:=by
 intro ra;induction ra with
 |nil=>
  intro rb i M t hra hrb hi hM g2 g3 g5 hk hr;obtain ⟨M,rfl⟩:=pM M;simp only[List.length_nil] at hi;have hi':(i<g.edges.length)=False:=eF;have:rb= []:=by rw[←hrb];exact List.drop_eq_nil_of_le tO
  rw[Ab,Ma];refine Tst (J5 g2 g5 hi' ma @Gr.ld2) ?_;exact hk this.symm _
 |cons x ra ih=>
  intro rb i M t hra hrb hi hM g2 g3 g5 hk hr;obtain ⟨M,rfl⟩:=pM M;simp only[List.length_cons] at hi hM;have hi':(i<g.edges.length)=True:=eT;obtain ⟨y,rb,rfl⟩:∃y r,rb=y::r:=by
   cases rb with
   |nil=>have:=congrArg List.length hrb;simp at this;omega
   |cons y r=>exact ⟨y,r,rfl⟩
  have him:i<q.edges.length:=tO;have e1:=fun c h=>Ch (c:=c) (h:=h) (Bm (Ak hra)) rfl;have e2:=fun c h=>Ch (c:=c) (h:=h) (Bm (Ak hrb)) rfl;have w1:=wA i;rw[Ab,Ma];by_cases e:x=y
  ·have ee:(Aq x.1 y.1&&Aq x.2 y.2)=true:=by rw[AaL,decide_eq_true e]
   have e4:(true !=true)=false:=rfl;refine Tst (J14 g2 g3 g5 hi' ma mb @Gr.ld2 e1 e2 @Gp @Pa @Qj ee (J3 e4 @M9 w1)) ?_;refine ih rb (i+1) _ _ (Ai hra) (Ai hrb) tO tO (Ssc g2) (Ssc g3) Af (fun z=>hk (by rw[e,z])) (fun z=>hr (fun q=>z (List.cons.inj q).2))
  ·have ee:(Aq x.1 y.1&&Aq x.2 y.2)=false:=by rw[AaL,decide_eq_false e]
   have e4:(true !=false)=true:=rfl;refine Tst (J14 g2 g3 g5 hi' ma mb @Gr.ld2 e1 e2 @Gp @Pa @Qj ee (J2 e4 @M9)) ?_;exact hr (fun z=>e (List.cons.inj z).1) _ Af
theorem Qa {l:List St} {s:List Va} (hs:s∈l.map St.l):Av s≤BH l:=by obtain ⟨x,hx,rfl⟩:=List.mem_map.1 hs;obtain ⟨i,hi,e⟩:=List.getElem_of_mem hx;exact QL (i:=i) (by rw[List.getElem?_eq_getElem hi,e])
theorem z9 (hF:Hns E) (hG:Gns E) (hL9:L≤9223372036854775600) {D:Nat} (hn:2*D+4≤n) {g q:Gr} (hd:∀s∈g.states,Bq s.l≤D) (hb:g.bulk≤L) (hb2:q.bulk≤L) (hb3:g.bulk≤1000000000)
  (hk:∀h1,Ae h h1→kc (.ret (.bool (g.same q))) none h1=true):
  call E (L+4) (n+3) (.fn 21) [.agg g.cells,.agg q.cells] none h kc=true:=by
 have hbb:g.states.length+BH g.states+g.init.length+2*g.edges.length≤L:=hb;have hbb2:q.states.length+BH q.states+q.init.length+2*q.edges.length≤L:=hb2;have hbb3:g.states.length+BH g.states+g.init.length+2*g.edges.length≤1000000000:=hb3;have K0:Ae h ((h.upd (nxt h) (.cells g.cells)).upd (nxt h).succ (.cells q.cells)).bump.bump:=kO;have m0:blk ((h.upd (nxt h) (.cells g.cells)).upd (nxt h).succ (.cells q.cells)).bump.bump (nxt h)=.cells g.cells:=Af;have m1:blk ((h.upd (nxt h) (.cells g.cells)).upd (nxt h).succ (.cells q.cells)).bump.bump (nxt h).succ=.cells q.cells:=Af;rw[Ag hG.f1021,wk,rP,ZA,Zz,Zy,Zx];by_cases c0:g.edges.length=q.edges.length
 ·have e0:Aq (.ofNat g.edges.length) (.ofNat q.edges.length)=true:=by rw[c0];exact AG
  refine Sst (J4 @Gr.ld0 @Gr.ld1 @Gr.ld2 e0) ?_;refine pi hF hG (L:=L+1) (n:=n) (D:=D) tO hn Ss.ofG Ss.ofG (by simp;omega) (by simp;omega) (fun s hs=>?_) (fun s hs=>?_) (fun s hs=>?_) (fun h1 K1=>?_)
  ·obtain ⟨x,hx,rfl⟩:=List.mem_map.1 hs;exact hd x hx
  ·have:=Qa hs;omega
  ·have:=Qa hs;omega
  rw[Qn];have K01:=K0.trans K1;have a0:blk h1 (nxt h)=.cells g.cells:=(K1.old _ tN).trans m0;have a1:blk h1 (nxt h).succ=.cells q.cells:=(K1.old _ tN).trans m1;cases c1:Qm g.states q.states
  ·have hk:=hk h1 K01;have e:g.same q=false:=by rw[Gr.same,c1];rfl
   rw[e] at hk;refine AV ?_;exact hk
  refine Sst (J5 @Gr.ld0 @Gr.ld1 @Gr.ld2 a0 a1) ?_;refine zU hG (L:=L+3) (n:=n+1) Zs.ofR Zs.ofR tO tO ?_;by_cases c2:g.init=q.init
  ·have e2:decide (g.init=q.init)=true:=decide_eq_true c2;refine Sst (J7 @Gr.ld0 @Gr.ld1 @Gr.ld2 a0 a1 e2 @Ad) ?_;have hk:=hk h1 K01;have e:g.same q=decide (g.edges=q.edges):=by rw[Gr.same,c1,e2];rfl
   rw[e] at hk;refine gX a0 a1 c0 tO g.edges q.edges 0 _ _ rfl rfl tO tO Af Af Af (fun he t1=>?_) (fun he t1 g4=>?_)
   ·rw[decide_eq_true he] at hk;refine AV ?_;exact hk
   ·rw[decide_eq_false he] at hk;refine Sst g4 ?_;exact hk
  ·have e2:decide (g.init=q.init)=false:=decide_eq_false c2;have hk:=hk h1 K01;have e:g.same q=false:=by rw[Gr.same,c1,e2];rfl
   rw[e] at hk;refine Sst e2 ?_;exact hk
 ·have e0:Aq (.ofNat g.edges.length) (.ofNat q.edges.length)=false:=by rw[AB,decide_eq_false c0]
  have hk:=hk _ K0;have e:g.same q=false:=by rw[Gr.same,decide_eq_false (p:=g.edges=q.edges) (fun z=>c0 (by rw[z])),Bool.and_false]
  rw[e] at hk;refine Sst (J2 @Gr.ld2 e0) ?_;exact hk
/-- A function that asks whether a graph is one. -/
def OkC (E:Env) (L n f:Nat) (g:Gr):Prop:=∀(h:Hp) (kc:KC),(∀h1,Ae h h1→kc (.ret (.bool g.ok)) none h1=true)→call E L n (.fn f) [.agg g.cells] none h kc=true
theorem Adj (hE:Fns E) (hL9:L≤9223372036854775800) (hn:181≤n) {g:Gr} (hb:g.bulk≤L) (hb2:g.bulk≤20000000):OkC E (L+8) (n+6) 46 g:=fun _ _ hk=>QA hE hL9 hn hb hb2 hk
theorem Adk (hF:Hns E) (hL9:L≤9223372036854775600) {D:Nat} {g:Gr} (hn:g.states.length+2*D+10≤n) (hd:∀s∈g.states,Bq s.l≤D) (hb:g.bulk≤L) (hsc:g.states.length≤g.sc):OkC E (L+8) (n+6) 24 g:=fun _ _ hk=>by refine jR hF (L:=L+5) (n:=n+3) (D:=D) tO tO hd tO hsc (fun h1 K1=>?_);rw[Gr.ref_eq];exact hk h1 K1
theorem pj {f i:Nat} {g:Gr} (hc:OkC E (L+1) n f g) (hf:Wf E i (TU f) Rv) (hk:∀h1,Ae h h1→kc (.ret (vI (if g.ok=true then 0 else 230))) none h1=true):
  call E (L+1) (n+1) (.fn i) [.agg g.cells] none h kc=true:=by
 have l3:=g.cells_length;have K0:Ae h (h.upd (nxt h) (.cells g.cells)).bump:=kO;rw[Ag hf,TU,Rv,ZG,ZF,ZE];refine Sst (J2 @Ax l3) ?_;refine hc _ _ (fun h1 K1=>?_);have hk:=hk h1 (K0.trans K1);cases hok:g.ok
 ·rw[hok] at hk;refine AV ?_;exact hk
 ·rw[hok] at hk;refine AV ?_;exact hk
end
end Go.AJ
