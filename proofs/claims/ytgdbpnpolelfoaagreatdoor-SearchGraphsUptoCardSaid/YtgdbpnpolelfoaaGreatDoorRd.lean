/- The reference: what is a graph. -/
import Derived.Test.YtgdbpnpolelfoaaGreatDoorRc
import Derived.Test.YtgdbpnpolelfoaaGreatDoorWd
set_option linter.all false
namespace Go.AJ
open Go
set_option maxRecDepth 100000
theorem fF (p e:Int×Int):ltI (ur p e) (.ofNat 0)= !(ltI e.1 p.1||(Aq e.1 p.1&& !ltI p.2 e.2)):=by
 obtain ⟨p1,p2⟩:=p;obtain ⟨e1,e2⟩:=e;unfold ur;rw[Bb,Cm,Cm,Cw,Cw,Cw,Ec];simp only[Int.ofNat_eq_natCast];rcases Int.lt_trichotomy p1 e1 with h|h|h
 ·have h2:¬e1<p1:=tO;have h3:¬e1=p1:=tO;simp [h,h2,h3]
 ·subst h;rcases Int.lt_trichotomy p2 e2 with h2|h2|h2
  ·have h3:¬e2<p2:=tO;simp [h2]
  ·subst h2;simp
  ·have h3:¬p2<e2:=tO;simp [h2,h3]
 ·have h2:¬p1<e1:=tO;simp [h,h2]
theorem UD {l:List (Int×Int)} {i:Nat} {e:Int×Int} (h:l[i]? =some e):(Dq l)[i*2]? =some (.int .i64 e.1):=by have:=Bm h;have h2:=congrArg (·[0]?) this;simpa using h2
theorem UC {l:List (Int×Int)} {i:Nat} {e:Int×Int} (h:l[i]? =some e):(Dq l)[i*2+1]? =some (.int .i64 e.2):=by have:=Bm h;have h2:=congrArg (·[1]?) this;simpa using h2
section
variable {E:Env} {L n N:Nat} {h:Hp} {kc:KC} {t:T V} {d:Dc} {k:KE} {fi:FI} {c:KV} {C:As}
theorem qy {b1 b8:K} {v0 v1:V} {l:List (Int×Int)} {eb:Bool} {ec nn i:Nat} {a b:Int} {prev:Option (Int×Int)} (mb:blk h b1=.cells [v0,v1,slR eb ec (Dq l) l.length]) (m8:blk h b8=.cells [.int .i64 a,.int .i64 b]) (hil:i≤9223372036854775807)
  (hp:∀p,prev=some p→∃j,i=j+1∧l[j]? =some p) (hp0:prev=none→i=0)
  (g1:tg 1 t=.ptr b1 0) (g3:tg 3 t=vI nn) (g7:tg 7 t=vI i) (g8:tg 8 t=.ptr b8 0)
  (hk:∀t1,Kp [1,3,6,7,8] t t1→tg 147 t1=.bool (!(!ltI a (.ofNat 0)&&ltI a (.ofNat nn)&& !ltI b (.ofNat 0)&&ltI b (.ofNat nn)&&Fg prev (a,b)))→k .normal t1 d h=true):
  exec C L fi NN t d h k=true:=by
 rw[NN];cases c1:ltI a (.ofNat 0)
 ·cases c2:ltI a (.ofNat nn)
  ·simp -implicitDefEqProofs (disch:=exact tD) only[↓sD,sB,↓reduceIte,Nat.reduceEqDiff,reduceCtorEq,Nat.reduceLT,Nat.reduceMul,Nat.reduceAdd,g1,g3,g7,g8,mb,m8,Aj,decide_true,decide_false,AR,Nat.add_zero,c1,c2];refine hk _ ?_ ?_
   ·exact kK
   ·rw[c1,c2];exact Ssc (J6 @Bool.false_and @Bool.true_and @Bool.and_false @Bool.and_true @Bool.not_false @Bool.not_true)
  ·cases c3:ltI b (.ofNat 0)
   ·cases c4:ltI b (.ofNat nn)
    ·simp -implicitDefEqProofs (disch:=exact tD) only[↓sD,sB,↓reduceIte,Nat.reduceEqDiff,reduceCtorEq,Nat.reduceLT,Nat.reduceMul,Nat.reduceAdd,g1,g3,g7,g8,mb,m8,Aj,decide_true,decide_false,AR,Nat.add_zero,c1,c2,c3,c4];refine hk _ ?_ ?_
     ·exact kK
     ·rw[c1,c2,c3,c4];exact Ssc (J6 @Bool.false_and @Bool.true_and @Bool.and_false @Bool.and_true @Bool.not_false @Bool.not_true)
    ·cases prev with
     |none=>
      have hi0:(0<i)=False:=eq_false (by have:=hp0 rfl;omega);have hpv:Fg none (a,b)=true:=rfl;simp -implicitDefEqProofs (disch:=exact tD) only[↓sD,sB,↓reduceIte,Nat.reduceEqDiff,reduceCtorEq,Nat.reduceLT,Nat.reduceMul,Nat.reduceAdd,g1,g3,g7,g8,mb,m8,Aj,decide_true,decide_false,AR,Nat.add_zero,c1,c2,c3,c4,hi0];refine hk _ ?_ ?_
      ·exact kK
      ·rw[c1,c2,c3,c4,hpv];exact Ssc (J6 @Bool.false_and @Bool.true_and @Bool.and_false @Bool.and_true @Bool.not_false @Bool.not_true)
     |some p=>
      obtain ⟨j,hij,hj⟩:=hp p rfl;have hi0:(0<i)=True:=eT;have jl:j<l.length:=by
       rcases Nat.lt_or_ge j l.length with h|h
       ·exact h
       ·rw[List.getElem?_eq_none h] at hj;cases hj
      have x1:=fun c h=>AM (c:=c) (h:=h) (UD hj);have x2:=fun c h=>AM (c:=c) (h:=h) (UC hj);have e3:Am .i64 (Int.sub (.ofNat i) (.ofNat 1))=.ofNat j:=by rw[hij];exact Bi (i:=j+1) tO
      have hpr:=fF p (a,b);simp only at hpr;have hpv:Fg (some p) (a,b)=_:=hpr;clear hij;cases d1:ltI a p.1
      ·cases d2:Aq a p.1
       ·simp -implicitDefEqProofs (disch:=exact tD) only[↓sD,sB,↓reduceIte,Nat.reduceEqDiff,reduceCtorEq,Nat.reduceLT,Nat.reduceMul,Nat.reduceAdd,g1,g3,g7,g8,mb,m8,Aj,decide_true,decide_false,AR,Nat.add_zero,c1,c2,c3,c4,hi0,e3,x1,x2,d1,d2];refine hk _ ?_ ?_
        ·exact kK
        ·rw[c1,c2,c3,c4,hpv,d1,d2];exact Ssc (J7 @Bool.or_false @Bool.false_and @Bool.true_and @Bool.and_false @Bool.and_true @Bool.not_false @Bool.not_true)
       ·cases d3:ltI p.2 b
        ·simp -implicitDefEqProofs (disch:=exact tD) only[↓sD,sB,↓reduceIte,Nat.reduceEqDiff,reduceCtorEq,Nat.reduceLT,Nat.reduceMul,Nat.reduceAdd,g1,g3,g7,g8,mb,m8,Aj,decide_true,decide_false,AR,Nat.add_zero,c1,c2,c3,c4,hi0,e3,x1,x2,d1,d2,d3];refine hk _ ?_ ?_
         ·exact kK
         ·rw[c1,c2,c3,c4,hpv,d1,d2,d3];exact Ssc (J9 @Bool.or_false @Bool.or_true @Bool.false_or @Bool.false_and @Bool.true_and @Bool.and_false @Bool.and_true @Bool.not_false @Bool.not_true)
        ·simp -implicitDefEqProofs (disch:=exact tD) only[↓sD,sB,↓reduceIte,Nat.reduceEqDiff,reduceCtorEq,Nat.reduceLT,Nat.reduceMul,Nat.reduceAdd,g1,g3,g7,g8,mb,m8,Aj,decide_true,decide_false,AR,Nat.add_zero,c1,c2,c3,c4,hi0,e3,x1,x2,d1,d2,d3];refine hk _ ?_ ?_
         ·exact kK
         ·rw[c1,c2,c3,c4,hpv,d1,d2,d3];exact Ssc (J9 @Bool.or_false @Bool.or_true @Bool.false_or @Bool.false_and @Bool.true_and @Bool.and_false @Bool.and_true @Bool.not_false @Bool.not_true)
      ·simp -implicitDefEqProofs (disch:=exact tD) only[↓sD,sB,↓reduceIte,Nat.reduceEqDiff,reduceCtorEq,Nat.reduceLT,Nat.reduceMul,Nat.reduceAdd,g1,g3,g7,g8,mb,m8,Aj,decide_true,decide_false,AR,Nat.add_zero,c1,c2,c3,c4,hi0,e3,x1,x2,d1];refine hk _ ?_ ?_
       ·exact kK
       ·rw[c1,c2,c3,c4,hpv,d1];exact Ssc (J8 @Bool.true_or @Bool.or_false @Bool.false_and @Bool.true_and @Bool.and_false @Bool.and_true @Bool.not_false @Bool.not_true)
   ·simp -implicitDefEqProofs (disch:=exact tD) only[↓sD,sB,↓reduceIte,Nat.reduceEqDiff,reduceCtorEq,Nat.reduceLT,Nat.reduceMul,Nat.reduceAdd,g1,g3,g7,g8,mb,m8,Aj,decide_true,decide_false,AR,Nat.add_zero,c1,c2,c3];refine hk _ ?_ ?_
    ·exact kK
    ·rw[c1,c2,c3];exact Ssc (J6 @Bool.false_and @Bool.true_and @Bool.and_false @Bool.and_true @Bool.not_false @Bool.not_true)
 ·simp -implicitDefEqProofs (disch:=exact tD) only[↓sD,sB,↓reduceIte,Nat.reduceEqDiff,reduceCtorEq,Nat.reduceLT,Nat.reduceMul,Nat.reduceAdd,g1,g3,g7,g8,mb,m8,Aj,decide_true,decide_false,AR,Nat.add_zero,c1];refine hk _ ?_ ?_
  ·exact kK
  ·rw[c1];exact Ssc (J6 @Bool.false_and @Bool.true_and @Bool.and_false @Bool.and_true @Bool.not_false @Bool.not_true)
theorem SG {b1:K} {g:Gr} {nn:Nat} (hnn:nn≤20000) (hlen:g.edges.length≤100000) {h0:Hp} (n1:b1.num<(nxt h0).num) (mb1:blk h0 b1=.cells g.cells):
  ∀(r:List (Int×Int)) (prev:Option (Int×Int)) (found i M:Nat) (t:T V) (h:Hp),g.edges.drop i=r→i+r.length=g.edges.length→r.length+1≤M→(∀p,prev=some p→∃j,i=j+1∧g.edges[j]? =some p)→(prev=none→i=0)→found≤20000+i→Ae h0 h→
  tg 1 t=.ptr b1 0→tg 3 t=vI nn→tg 6 t=vI found→tg 7 t=vI i→
  (∀f,G0 nn prev found r=some f→∀t1 h1,Ae h0 h1→tg 3 t1=vI nn→tg 6 t1=vI f→k (.exit 4) t1 d h1=true)→
  (G0 nn prev found r=none→∀t1 h1,Ae h0 h1→tg 2 t1=.bool false→k .ret t1 d h1=true)→
  iter (exec C (L+3) fi L6) M t d h k=true:=by
 intro r;induction r with
 |nil=>intro prev found i M t h hr hi hM hp hp0 hfo K0 g1 g3 g6 g7 hk hf;obtain ⟨M,rfl⟩:=pM M;have mb:blk h b1=.cells g.cells:=(K0.old b1 n1).trans mb1;simp only[Gr.cells] at mb;have hi':(i<g.edges.length)=False:=eq_false (by simp at hi;omega);rw[Ab,L6];refine Tst (J4 g1 g7 mb hi') ?_;exact hk found rfl _ _ K0 (Ssc g3) (Ssc g6)
 |cons e r ih=>
  intro prev found i M t h hr hi hM hp hp0 hfo K0 g1 g3 g6 g7 hk hf;obtain ⟨M,rfl⟩:=pM M;obtain ⟨a,b⟩:=e;simp only[List.length_cons] at hi hM;have hi':(i<g.edges.length)=True:=eT;have e1:=fun c h=>Ch (c:=c) (h:=h) (Bm (Ak hr)) rfl;have mb:blk h b1=.cells g.cells:=(K0.old b1 n1).trans mb1;simp only[Gr.cells] at mb;have n1h:=Nat.lt_of_lt_of_le n1 K0.nx;have K1:Ae h (h.upd (nxt h) (.cells [.int .i64 a,.int .i64 b])).bump:=(Ae.refl h).new _;have n1':b1.num≠(nxt h).num:=tO;simp only[G0] at hk hf;have mb9:blk (h.upd (nxt h) (.cells [.int .i64 a,.int .i64 b])).bump b1=.cells [slR g.sb g.sc (BZ g.states) g.states.length,slR g.ib g.ic (AH g.init) g.init.length,slR g.eb g.ec (Dq g.edges) g.edges.length]:=(K1.old b1 n1h).trans mb;have m8:blk (h.upd (nxt h) (.cells [.int .i64 a,.int .i64 b])).bump (nxt h)=.cells [.int .i64 a,.int .i64 b]:=by rw[An,AE]
  rw[Ab,L6];refine Tst (J10 g1 g3 g6 g7 mb hi' e1 @Bu @AX @Nat.add_zero) ?_;refine qy (nn:=nn) (prev:=prev) (i:=i) mb9 m8 tO hp hp0 ?_ ?_ ?_ ?_ (fun t1 kp u147=>?_)
  ·exact Ssc g1
  ·exact Ssc g3
  ·exact Ssc g7
  ·exact Af
  have u1:=kp 1 (by simp);have u3:=kp 3 (by simp);have u6:=kp 6 (by simp);have u7:=kp 7 (by simp);have u8:=kp 8 (by simp);simp -implicitDefEqProofs (disch:=exact tD) only[↓sD,sB,↓reduceIte,Nat.reduceEqDiff,reduceCtorEq,Nat.reduceLT,Nat.reduceMul,Nat.reduceAdd,g1,g3,g6,g7] at u1 u3 u6 u7 u8;clear kp;cases hb:(!ltI a (.ofNat 0)&&ltI a (.ofNat nn)&& !ltI b (.ofNat 0)&&ltI b (.ofNat nn)&&Fg prev (a,b))
  ·have hout:Ci nn prev found (a,b)=false:=by simp only[Ci,hb,Bool.false_and]
   simp only[hout,Bool.false_eq_true,if_false] at hf;rw[hb,Bool.not_false] at u147;refine Sst u147 ?_;exact hf trivial _ _ (K0.trans K1) Af
  ·rw[hb,Bool.not_true] at u147;cases c5:ltI a (.ofNat found)
   ·have hout:Ci nn prev found (a,b)=false:=by simp only[Ci,c5,Bool.and_false,Bool.false_and]
    simp only[hout,Bool.false_eq_true,if_false] at hf;simp -implicitDefEqProofs (disch:=exact tD) only[↓sD,sB,↓reduceIte,Nat.reduceEqDiff,reduceCtorEq,Nat.reduceLT,Nat.reduceMul,Nat.reduceAdd,u147,u1,u3,u6,u7,u8,m8,c5];exact hf trivial _ _ (K0.trans K1) Af
   ·cases c6:ltI (.ofNat found) b
    ·have hin:Ci nn prev found (a,b)=true:=by simp only[Ci,hb,c5,c6,Bool.not_false,Bool.and_self]
     simp only[hin,if_true] at hk hf;cases c7:Aq b (.ofNat found)
     ·simp only[c7,Bool.false_eq_true,if_false] at hk hf;simp -implicitDefEqProofs (disch:=exact tD) only[↓sD,sB,↓reduceIte,Nat.reduceEqDiff,reduceCtorEq,Nat.reduceLT,Nat.reduceMul,Nat.reduceAdd,u147,u1,u3,u6,u7,u8,m8,c5,c6,c7];refine ih (some (a,b)) found (i+1) M _ _ (Ai hr) tO tO (fun p e=>⟨i,rfl,by cases e;exact Ak hr⟩) (fun e=>by cases e) tO (K0.trans K1) ?_ ?_ ?_ ?_ hk hf
      ·exact Ssc u1
      ·exact Ssc u3
      ·exact Ssc u6
      ·exact Af
     ·simp only[c7,if_true] at hk hf;have e5:Am .i64 (.ofNat (found+1))=.ofNat (found+1):=Ah tO;simp -implicitDefEqProofs (disch:=exact tD) only[↓sD,sB,↓reduceIte,Nat.reduceEqDiff,reduceCtorEq,Nat.reduceLT,Nat.reduceMul,Nat.reduceAdd,u147,u1,u3,u6,u7,u8,m8,c5,c6,c7,e5];refine ih (some (a,b)) (found+1) (i+1) M _ _ (Ai hr) tO tO (fun p e=>⟨i,rfl,by cases e;exact Ak hr⟩) (fun e=>by cases e) tO (K0.trans K1) ?_ ?_ ?_ ?_ hk hf
      ·exact Ssc u1
      ·exact Ssc u3
      ·exact Af
      ·exact Af
    ·have hout:Ci nn prev found (a,b)=false:=by simp only[Ci,c6,Bool.not_true,Bool.and_false]
     simp only[hout,Bool.false_eq_true,if_false] at hf;simp -implicitDefEqProofs (disch:=exact tD) only[↓sD,sB,↓reduceIte,Nat.reduceEqDiff,reduceCtorEq,Nat.reduceLT,Nat.reduceMul,Nat.reduceAdd,u147,u1,u3,u6,u7,u8,m8,c5,c6];exact hf trivial _ _ (K0.trans K1) Af
theorem SH {b1:K} {g:Gr} (hlen:g.init.length≤20000) {h0:Hp} (mb1:blk h b1=.cells g.cells):
  ∀(r:List Int) (i M:Nat) (t:T V),g.init.drop i=r→i+r.length=g.init.length→r.length+1≤M→
  tg 1 t=.ptr b1 0→tg 5 t=vI i→
  (Ei i r=true→∀t1,Kp [1,3] t t1→k (.exit 2) t1 d h=true)→
  (Ei i r=false→∀t1,tg 2 t1=.bool false→k .ret t1 d h=true)→
  iter (exec C (L+3) fi L7) M t d h k=true:=by
 intro r;have mb:=mb1;simp only[Gr.cells] at mb;induction r with
 |nil=>intro i M t hr hi hM g1 g5 hk hf;obtain ⟨M,rfl⟩:=pM M;have hi':(i<g.init.length)=False:=eq_false (by simp at hi;omega);rw[Ab,L7];refine Tst (J4 g1 g5 mb hi') ?_;refine hk rfl _ ?_;exact kK
 |cons x r ih=>
  intro i M t hr hi hM g1 g5 hk hf;obtain ⟨M,rfl⟩:=pM M;simp only[List.length_cons] at hi hM;have hi':(i<g.init.length)=True:=eT;have hx:g.init.getD i 0=x:=by rw[List.getD_eq_getElem?_getD,Ak hr];rfl
  have e1:=fun c h=>AM (c:=c) (h:=h) (Bp (l:=g.init) (i:=i) tO);simp only[hx] at e1;rw[Ei] at hk hf;rw[Ab,L7];cases hc:Aq x (.ofNat i)
  ·refine Tst (J6 g1 g5 mb hi' e1 hc) ?_;exact hf (by rw[hc];rfl) _ Af
  ·rw[hc,Bool.true_and] at hk hf;refine Tst (J6 g1 g5 mb hi' e1 hc) ?_;refine ih (i+1) _ _ (Ai hr) tO tO ?_ ?_ (fun he t1 kp=>hk he t1 (Kp.trans ?_ kp)) hf
   ·exact Ssc g1
   ·exact Af
   ·exact kK
end
end Go.AJ
namespace Go.AJ
open Go
set_option maxRecDepth 100000
def JZ (n0:Nat) (s:St):Bool:=decide (s.l.length=n0)&&s.l.all okV
def Gr.ref (g:Gr):Bool:=
 !decide (20000<g.states.length)&& !decide (100000<g.edges.length)&& !decide (g.states.length<g.init.length)&&
  g.states.all (JZ (g.states.headD ⟨true,0,[]⟩).l.length)&&decide ((srt g.states).length=g.states.length)&&Ei 0 g.init&&(G0 g.states.length none g.init.length g.edges==some g.states.length)
section
variable {E:Env} {L n N:Nat} {h:Hp} {kc:KC} {t:T V} {d:Dc} {k:KE} {fi:FI} {c:KV} {C:As}
theorem SI (hF:Hns E) (hL9:L≤9223372036854775700) {D:Nat} (hn:2*D+6≤n) {b1:K} {g:Gr} {s0:St} (h00:g.states[0]? =some s0) (hd:∀s∈g.states,Bq s.l≤D∧Av s.l≤L) (hlen:g.states.length≤20000) {h0:Hp} (n1:b1.num<(nxt h0).num) (mb1:blk h0 b1=.cells g.cells):
  ∀(r:List St) (i M:Nat) (t:T V) (h:Hp),g.states.drop i=r→i+r.length=g.states.length→r.length+1≤M→Ae h0 h→
  tg 1 t=.ptr b1 0→tg 3 t=vI g.states.length→tg 4 t=vI i→
  (r.all (JZ s0.l.length)=true→∀t1 h1,Ae h0 h1→Kp [1,3] t t1→k (.exit 0) t1 d h1=true)→
  (r.all (JZ s0.l.length)=false→∀t1 h1,Ae h0 h1→tg 2 t1=.bool false→k .ret t1 d h1=true)→
  iter (exec (call E (L+3) (n+2)) (L+3) fi IL) M t d h k=true:=by
 intro r;have h0l:(0<g.states.length)=True:=eq_true (by rcases Nat.lt_or_ge 0 g.states.length with h|h;exact h;rw[List.getElem?_eq_none tO] at h00;cases h00);induction r with
 |nil=>intro i M t h hr hi hM K0 g1 g3 g4 hk hf;obtain ⟨M,rfl⟩:=pM M;have hi':(i<g.states.length)=False:=eq_false (by simp at hi;omega);rw[Ab,IL];refine Tst (J3 g3 g4 hi') ?_;refine hk rfl _ _ K0 ?_;exact kK
 |cons s r ih=>
  intro i M t h hr hi hM K0 g1 g3 g4 hk hf;obtain ⟨M,rfl⟩:=pM M;simp only[List.length_cons] at hi hM;have hi':(i<g.states.length)=True:=eT;have mb:blk h b1=.cells g.cells:=(K0.old b1 n1).trans mb1;simp only[Gr.cells] at mb;have e1:=fun c h=>AM (c:=c) (h:=h) (BX (Ak hr));have e2:=fun c h=>AM (c:=c) (h:=h) (BX h00);have hsm:s∈g.states:=List.mem_of_getElem? (Ak hr);have hls:=AL s.l;have hd1:=hd s hsm;rw[List.all_cons,JZ] at hk hf;rw[Ab,IL];cases c1:decide (s.l.length=s0.l.length)
  ·simp -implicitDefEqProofs (disch:=exact tD) only[↓sD,sB,↓reduceIte,Nat.reduceEqDiff,reduceCtorEq,Nat.reduceLT,Nat.reduceMul,Nat.reduceAdd,g1,g3,g4,mb,Aj,hi',h0l,decide_true,AR,e1,e2,Hv,AB,c1,Pc,Nat.mul_one,Nat.zero_mul,Nat.add_zero,Nat.zero_add];exact hf (by rw[c1];rfl) _ _ K0 Af
  ·simp -implicitDefEqProofs (disch:=first|assumption|((try simp only[dB]);first|done|omega)) only[↓sD,sB,↓reduceIte,Nat.reduceEqDiff,reduceCtorEq,Nat.reduceLT,Nat.reduceMul,Nat.reduceAdd,g1,g3,g4,mb,Aj,hi',h0l,decide_true,AR,e1,e2,Hv,AB,c1,Pc,Nat.mul_one,Nat.zero_mul,Nat.add_zero,Nat.zero_add];refine jO hF hL9 (D:=D) hn (b:=s.b) (cp:=s.c) (s:=s.l) tO hd1.1 hd1.2 (fun h1 K1=>?_);rw[c1,Bool.true_and] at hk hf;cases c2:s.l.all okV
   ·simp -implicitDefEqProofs (disch:=exact tD) only[↓sD,sB,↓reduceIte,Nat.reduceEqDiff,reduceCtorEq,Nat.reduceLT,Nat.reduceMul,Nat.reduceAdd,c2];exact hf (by rw[c2];rfl) _ _ (K0.trans K1) Af
   ·rw[c2,Bool.true_and] at hk hf;simp -implicitDefEqProofs (disch:=exact tD) only[↓sD,sB,↓reduceIte,Nat.reduceEqDiff,reduceCtorEq,Nat.reduceLT,Nat.reduceMul,Nat.reduceAdd,c2,g4];refine ih (i+1) _ _ _ (Ai hr) tO tO (K0.trans K1) ?_ ?_ ?_ (fun he t1 h1 K2 kp=>hk he t1 h1 K2 (Kp.trans ?_ kp)) hf
    ·exact Ssc g1
    ·exact Ssc g3
    ·exact Af
    ·exact kK
theorem jR (hF:Hns E) (hL9:L≤9223372036854775700) {D:Nat} {g:Gr} (hn:g.states.length+2*D+10≤n) (hd:∀s∈g.states,Bq s.l≤D) (hb:g.bulk≤L) (hsc:g.states.length≤g.sc)
  (hk:∀h1,Ae h h1→kc (.ret (.bool g.ref)) none h1=true):call E (L+3) (n+3) (.fn 24) [.agg g.cells] none h kc=true:=by
 have hbb:g.states.length+BH g.states+g.init.length+2*g.edges.length≤L:=hb;have hds:∀s∈g.states,Bq s.l≤D∧Av s.l≤L:=fun s hs=>⟨hd s hs,by have:=Dn hs;omega⟩
 rw[Ag hF.f1024,wh,rM,Zn,Zm,Zl];have K1:Ae h (h.upd (nxt h) (.cells g.cells)).bump:=kO;by_cases c1:20000<g.states.length
 ·have e:g.ref=false:=by simp only[Gr.ref,c1,decide_true,Bool.not_true,Bool.false_and]
  rw[e] at hk;simp -implicitDefEqProofs (disch:=exact tD) only[↓sD,sB,↓reduceIte,Nat.reduceEqDiff,reduceCtorEq,Nat.reduceLT,Nat.reduceMul,Nat.reduceAdd,Gr.cells,Aj,c1,decide_true];exact hk _ K1
 by_cases c2:100000<g.edges.length
 ·have e:g.ref=false:=by simp only[Gr.ref,c2,decide_true,Bool.not_true,Bool.and_false,Bool.false_and]
  rw[e] at hk;simp -implicitDefEqProofs (disch:=exact tD) only[↓sD,sB,↓reduceIte,Nat.reduceEqDiff,reduceCtorEq,Nat.reduceLT,Nat.reduceMul,Nat.reduceAdd,Gr.cells,Aj,c1,c2,decide_true,decide_false];exact hk _ K1
 by_cases c3:g.states.length<g.init.length
 ·have e:g.ref=false:=by simp only[Gr.ref,c3,decide_true,Bool.not_true,Bool.and_false,Bool.false_and]
  rw[e] at hk;simp -implicitDefEqProofs (disch:=exact tD) only[↓sD,sB,↓reduceIte,Nat.reduceEqDiff,reduceCtorEq,Nat.reduceLT,Nat.reduceMul,Nat.reduceAdd,Gr.cells,Aj,c1,c2,c3,decide_true,decide_false];exact hk _ K1
 have eok:g.ref=(g.states.all (JZ (g.states.headD ⟨true,0,[]⟩).l.length)&&decide ((srt g.states).length=g.states.length)&&Ei 0 g.init&&(G0 g.states.length none g.init.length g.edges==some g.states.length)):=by simp only[Gr.ref,c1,c2,c3,decide_false,Bool.not_false,Bool.true_and]
 rw[eok] at hk
 have rest:∀(h1:Hp) (tt:T V),Ae h h1→g.states.all (JZ (g.states.headD ⟨true,0,[]⟩).l.length)=true→blk h1 (nxt h)=.cells g.cells→(nxt h).num<(nxt h1).num→tg 1 tt=.ptr (nxt h) 0→tg 3 tt=vI g.states.length→
   exec (call E (L+3) (n+2)) (L+3) (.mk 24 none) N2 tt (.mk [] none) h1 (Dd (GH (call E (L+3) (n+2)) (L+3) (.mk 24 none) (.seq N1 (.seq N0 (.seq NZ (.seq NY .ret)))) (De (call E (L+3) (n+2)) (L+3) [.t (K.of 2)] kc)) (De (call E (L+3) (n+2)) (L+3) [.t (K.of 2)] kc))=true:=by
  intro h1 tt K2 hst mb nb g1 g3;rw[hst,Bool.true_and] at hk;have mb':=mb;simp only[Gr.cells] at mb';rw[N2];refine Sst (J2 g1 mb') ?_;refine jN hF hL9 (D:=D) (b:=g.sb) (cp:=g.sc) (l:=g.states) tO tO tO hsc hds (fun h2 s2 S2 K3=>?_);have mb2:=(K3.old _ nb).trans mb;have mb2':=mb2;simp only[Gr.cells] at mb2';have nb2:(nxt h).num<(nxt h2).num:=by have:=K3.nx;omega
  have ln:=fun {h1:Hp} {c:KV}=>S2.len (h1:=h1) (c:=c);cases c4:decide ((srt g.states).length=g.states.length)
  ·rw[c4] at hk;simp -implicitDefEqProofs (disch:=exact tD) only[↓sD,sB,↓reduceIte,Nat.reduceEqDiff,reduceCtorEq,Nat.reduceLT,Nat.reduceMul,Nat.reduceAdd,g3,ln,AB,c4];exact hk _ (K2.trans K3)
  rw[c4,Bool.true_and] at hk;rw[N1,N0,NZ,NY];simp -implicitDefEqProofs (disch:=exact tD) only[↓sD,sB,↓reduceIte,Nat.reduceEqDiff,reduceCtorEq,Nat.reduceLT,Nat.reduceMul,Nat.reduceAdd,g3,ln,AB,c4,Ad];refine SH (b1:=nxt h) (g:=g) tO (h0:=h2) mb2 g.init 0 _ _ rfl tO tO ?_ ?_ (fun hi t1 kp=>?_) (fun hf t1 q2=>?_)
  ·exact Ssc g1
  ·exact Af
  ·rw[hi,Bool.true_and] at hk;have q1:=kp 1 (by simp);have q3:=kp 3 (by simp);simp -implicitDefEqProofs (disch:=exact tD) only[↓sD,sB,↓reduceIte,Nat.reduceEqDiff,reduceCtorEq,Nat.reduceLT,Nat.reduceMul,Nat.reduceAdd,g1,g3] at q1 q3;refine Sst (J4 q1 q3 mb2' @Ad) ?_;refine SG (L:=L) (g:=g) (nn:=g.states.length) tO tO (h0:=h2) nb2 mb2 g.edges none g.init.length 0 _ _ h2 rfl tO tO (fun p e=>by cases e) (fun _=>rfl) tO (.refl h2) ?_ ?_ ?_ ?_ (fun f hf t2 h3 K4 u3 u6=>?_) (fun hf t2 h3 K4 u2=>?_)
   ·exact Ssc q1
   ·exact Ssc q3
   ·exact Af
   ·exact Af
   ·rw[hf] at hk;have e9:(some f==some g.states.length)=decide (f=g.states.length):=by
     by_cases e:f=g.states.length
     ·subst e;simp
     ·simp [e]
    rw[e9] at hk;refine Tst (J2 u3 u6) ?_;exact hk _ ((K2.trans K3).trans K4)
   ·rw[hf] at hk;have e9:((none:Option Nat)==some g.states.length)=false:=rfl;rw[e9] at hk;refine Sst u2 ?_;exact hk _ ((K2.trans K3).trans K4)
  ·rw[hf,Bool.false_and] at hk;refine Sst q2 ?_;exact hk _ (K2.trans K3)
 by_cases h0:g.states.length=0
 ·have hs:g.states= []:=List.length_eq_zero_iff.1 h0;have hz:(0<g.states.length)=False:=eF;simp -implicitDefEqProofs (disch:=exact tD) only[↓sD,sB,↓reduceIte,Nat.reduceEqDiff,reduceCtorEq,Nat.reduceLT,Nat.reduceMul,Nat.reduceAdd,Gr.cells,Aj,c1,c2,c3,decide_false];rw[N3];simp -implicitDefEqProofs (disch:=exact tD) only[↓sD,sB,↓reduceIte,Nat.reduceEqDiff,reduceCtorEq,Nat.reduceLT,Nat.reduceMul,Nat.reduceAdd,Ad,Ab,IL,Aj,hz,decide_false];refine rest _ _ K1 (by rw[hs];rfl) ?_ tN ?_ ?_
  ·simp -implicitDefEqProofs (disch:=exact tD) only[↓sD,sB,↓reduceIte,Nat.reduceEqDiff,reduceCtorEq,Nat.reduceLT,Nat.reduceMul,Nat.reduceAdd,Gr.cells]
  ·exact Af
  ·exact Af
 ·obtain ⟨s0,sr,hs⟩:∃s0 sr,g.states=s0::sr:=by
   cases hs:g.states with
   |nil=>rw[hs] at h0;exact absurd rfl h0
   |cons s0 sr=>exact ⟨s0,sr,rfl⟩
  have h00:g.states[0]? =some s0:=by rw[hs];rfl
  have hh:g.states.headD ⟨true,0,[]⟩=s0:=by rw[hs];rfl
  rw[hh] at hk rest;simp -implicitDefEqProofs (disch:=exact tD) only[↓sD,sB,↓reduceIte,Nat.reduceEqDiff,reduceCtorEq,Nat.reduceLT,Nat.reduceMul,Nat.reduceAdd,Gr.cells,Aj,c1,c2,c3,decide_false];rw[N3];refine Sst @Ad ?_;refine SI hF hL9 (D:=D) (n:=n) tO (b1:=nxt h) (g:=g) h00 hds tO (h0:=(h.upd (nxt h) (.cells g.cells)).bump) tN Af g.states 0 _ _ _ rfl tO tO (.refl _) ?_ ?_ ?_ (fun hy t1 h1 K2 kp=>?_) (fun hf t1 h1 K2 q2=>?_)
  ·exact Af
  ·exact Af
  ·exact Af
  ·have q1:=kp 1 (by simp);have q3:=kp 3 (by simp);simp -implicitDefEqProofs (disch:=exact tD) only[↓sD,sB,↓reduceIte,Nat.reduceEqDiff,reduceCtorEq,Nat.reduceLT,Nat.reduceMul,Nat.reduceAdd] at q1 q3;have mb:=K2.old (nxt h) tN;simp -implicitDefEqProofs (disch:=exact tD) only[↓sD,sB,↓reduceIte,Nat.reduceEqDiff,reduceCtorEq,Nat.reduceLT,Nat.reduceMul,Nat.reduceAdd] at mb;have n2:=K2.nx;simp only[nB] at n2;refine AV ?_;exact rest h1 t1 (K1.trans K2) hy mb tO q1 q3
  ·rw[hf,Bool.false_and,Bool.false_and,Bool.false_and] at hk;refine Sst q2 ?_;exact hk h1 (K1.trans K2)
end
theorem Uy {n0:Nat}:∀{r:List St} {ks:List (List Nat)},(∀s∈r,s.l.length=n0∧s.l.all okV=true∧I6 s.l∉ks)→(r.Pairwise fun a b=>I6 a.l≠I6 b.l)→Ri n0 ks r=true
 | [],_,_,_=>rfl
 |s::r,ks,h,hp=>by
  obtain ⟨h1,h2⟩:=List.pairwise_cons.1 hp;obtain ⟨a1,a2,a3⟩:=h s (by simp);rw[Ri,decide_eq_true a1,a2,Bool.true_and,Bool.true_and,Bool.and_eq_true];refine ⟨by simpa using a3,Uy (fun t ht=>?_) h2⟩;obtain ⟨b1,b2,b3⟩:=h t (by simp [ht]);refine ⟨b1,b2,fun e=>?_⟩;rcases List.mem_append.1 e with e|e
  ·exact b3 e
  ·exact h1 t ht (List.mem_singleton.1 e).symm
theorem Gr.ref_ok {g:Gr} (h:g.ref=true):g.ok=true:=by
 simp only[Gr.ref,Bool.and_eq_true] at h;obtain ⟨⟨⟨⟨⟨⟨h1,h2⟩,h3⟩,h4⟩,h5⟩,h6⟩,h7⟩:=h;have hst:∀s∈g.states,s.l.length=(g.states.headD ⟨true,0,[]⟩).l.length∧s.l.all okV=true:=fun s hs=>by have:=List.all_eq_true.1 h4 s hs;rw[JZ,Bool.and_eq_true] at this;exact ⟨of_decide_eq_true this.1,this.2⟩
 have hp:=(Jc _ g.states (Nat.le_refl _)).all.1 (of_decide_eq_true h5);have hk:Ri (g.states.headD ⟨true,0,[]⟩).l.length [] g.states=true:=by
  refine Uy (fun s hs=>⟨(hst s hs).1,(hst s hs).2,by simp⟩) (hp.imp_of_mem fun {a b} ha hb hne e=>hne ?_);have hl:a.l.length=b.l.length:=by rw[(hst a ha).1,(hst b hb).1]
  exact Ga hl (ii (hst a ha).2 (hst b hb).2 hl e)
 simp only[Gr.ok,h1,h2,h3,hk,h6,h7,Bool.and_self]
theorem Jb:∀{n0:Nat} {r:List St} {ks:List (List Nat)},Ri n0 ks r=true→(∀s∈r,s.l.length=n0∧s.l.all okV=true∧I6 s.l∉ks)∧r.Pairwise fun a b=>I6 a.l≠I6 b.l
 |_,[],_,_=>⟨fun s h=>(by cases h),.nil⟩
 |n0,s::r,ks,h=>by
  rw[Ri,Bool.and_eq_true,Bool.and_eq_true,Bool.and_eq_true] at h;obtain ⟨⟨⟨h1,h2⟩,h3⟩,h4⟩:=h;obtain ⟨h5,h6⟩:=Jb h4;have h3':I6 s.l∉ks:=by simpa using h3
  refine ⟨fun t ht=>?_,List.pairwise_cons.2 ⟨fun t ht e=>(h5 t ht).2.2 (by simp [e]),h6⟩⟩;rcases List.mem_cons.1 ht with rfl|ht
  ·exact ⟨of_decide_eq_true h1,h2,h3'⟩
  ·exact ⟨(h5 t ht).1,(h5 t ht).2.1,fun e=>(h5 t ht).2.2 (by simp [e])⟩
theorem Gr.ok_ref {g:Gr} (h:g.ok=true):g.ref=true:=by
 have h':=h;simp only[Gr.ok,Bool.and_eq_true] at h;obtain ⟨⟨⟨⟨⟨h1,h2⟩,h3⟩,h4⟩,h6⟩,h7⟩:=h;obtain ⟨st1,st2⟩:=Jb h4;have h5:g.states.all (JZ (g.states.headD ⟨true,0,[]⟩).l.length)=true:=List.all_eq_true.2 fun s hs=>by rw[JZ,decide_eq_true (st1 s hs).1,(st1 s hs).2.1];rfl
 have h8:decide ((srt g.states).length=g.states.length)=true:=decide_eq_true ((Jc _ g.states (Nat.le_refl _)).all.2 (st2.imp_of_mem fun {a b} ha hb hne e=>hne (by obtain ⟨e1,e2⟩:=GM e;exact cg e1 e2)));simp only[Gr.ref,h1,h2,h3,h5,h6,h7,h8,Bool.and_self]
theorem Gr.ref_eq (g:Gr):g.ref=g.ok:=by
 cases h:g.ok
 ·cases h2:g.ref
  ·rfl
  ·rw[Gr.ref_ok h2] at h;cases h
 ·exact Gr.ok_ref h
end Go.AJ
