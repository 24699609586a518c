/- The walk: graphs and levels. -/
import Derived.Test.YtgdbpnpolelfoaaGreatDoorWc
set_option linter.all false
namespace Go.AJ
open Go
structure St where
 b:Bool
 c:Nat
 l:List Va
def St.cell (s:St):V:=slR s.b s.c (AC s.l) s.l.length
def BZ (l:List St):List V:=l.map St.cell
def Dq:List (Int×Int)→List V
 | []=> []
 |e::l=> .int .i64 e.1::.int .i64 e.2::Dq l
structure Gr where
 sb:Bool
 sc:Nat
 states:List St
 ib:Bool
 ic:Nat
 init:List Int
 eb:Bool
 ec:Nat
 edges:List (Int×Int)
def Gr.cells (g:Gr):List V:= [slR g.sb g.sc (BZ g.states) g.states.length,slR g.ib g.ic (AH g.init) g.init.length,slR g.eb g.ec (Dq g.edges) g.edges.length]
def BH:List St→Nat
 | []=>0
 |s::l=>Av s.l+BH l
def Gr.bulk (g:Gr):Nat:=g.states.length+BH g.states+g.init.length+2*g.edges.length
theorem BX {l:List St} {i:Nat} {s:St} (h:l[i]? =some s):(BZ l)[i]? =some s.cell:=by simp [BZ,h]
theorem Bm:∀{l:List (Int×Int)} {i:Nat} {e:Int×Int},l[i]? =some e→((Dq l).drop (i*2)).take 2= [.int .i64 e.1,.int .i64 e.2]
 | [],i,e,h=>by simp at h
 |x::l,0,e,h=>by simp at h;subst h;rfl
 |x::l,i+1,e,h=>by rw[Dq,show (i+1)*2=i*2+1+1 by omega,List.drop_succ_cons,List.drop_succ_cons];exact Bm (by simpa using h)
theorem Dn:∀{l:List St} {s:St},s∈l→Av s.l≤BH l
 |x::l,s,h=>by
  rw[BH];rcases List.mem_cons.1 h with rfl|h
  ·omega
  ·have:=Dn h;omega
def ur (a b:Int×Int):Int:=orI (Cz a.1 b.1) (Cz a.2 b.2)
def Ri (n0:Nat):List (List Nat)→List St→Bool
 |_,[]=>true
 |ks,s::r=>decide (s.l.length=n0)&&s.l.all okV&& !ks.contains (I6 s.l)&&Ri n0 (ks++ [I6 s.l]) r
def Ei:Nat→List Int→Bool
 |_,[]=>true
 |i,x::r=>Aq x (.ofNat i)&&Ei (i+1) r
def Fg (prev:Option (Int×Int)) (e:Int×Int):Bool:=match prev with
 |none=>true
 |some p=>ltI (ur p e) (.ofNat 0)
def Ci (n:Nat) (prev:Option (Int×Int)) (found:Nat) (e:Int×Int):Bool:=
 !ltI e.1 (.ofNat 0)&&ltI e.1 (.ofNat n)&& !ltI e.2 (.ofNat 0)&&ltI e.2 (.ofNat n)&&Fg prev e&&ltI e.1 (.ofNat found)&& !ltI (.ofNat found) e.2
def G0 (n:Nat):Option (Int×Int)→Nat→List (Int×Int)→Option Nat
 |_,found,[]=>some found
 |prev,found,e::r=>if Ci n prev found e=true then G0 n (some e) (if Aq e.2 (.ofNat found)=true then found+1 else found) r else none
def Gr.ok (g:Gr):Bool:=
 !decide (20000<g.states.length)&& !decide (100000<g.edges.length)&& !decide (g.states.length<g.init.length)&&
  Ri (g.states.headD ⟨true,0,[]⟩).l.length [] g.states&&Ei 0 g.init&&(G0 g.states.length none g.init.length g.edges==some g.states.length)
inductive Ks:List ME→List (List Nat)→Prop
 |nil:Ks [] []
 |cons (k:List Nat) (b:Nat) (es:List ME) (ks:List (List Nat)) (h:Ks es ks):Ks (.mk (.str k) (.bool true) b::es) (k::ks)
theorem bR {es:List ME} {ks:List (List Nat)} (H:Ks es ks) (k:List Nat) (f:V→Bool→Bool):F0 .str (.str k) (.bool false) es f=f (.bool (ks.contains k)) (ks.contains k):=by
 induction H with
 |nil=>rfl
 |cons k' b es ks h ih=>
  simp only[F0,Bk];cases e:CR k k'
  ·simp only;rw[ih];have:(k'::ks).contains k=ks.contains k:=by
    have h2:(k==k')=false:=by rw[beq_eq_false_iff_ne];intro e';rw[Cj.2 e'] at e;cases e
    rw[List.contains_cons,h2,Bool.false_or]
   rw[this]
  ·obtain rfl:=Cj.1 e;simp
theorem bP {es:List ME} {ks:List (List Nat)} (H:Ks es ks) {k:List Nat} (hk:ks.contains k=false) (clock:Nat) (f:List ME→Nat→Bool):Jt .str (.str k) (.bool true) clock es f=f (es++ [.mk (.str k) (.bool true) clock]) (clock+1):=by
 induction H generalizing f with
 |nil=>rfl
 |cons k' b es ks h ih=>
  rw[List.contains_cons,Bool.or_eq_false_iff] at hk;simp only[Jt,Bk];cases e:CR k k'
  ·simp only;rw[ih hk.2];rfl
  ·obtain rfl:=Cj.1 e;simp at hk
theorem Ks.snoc {es:List ME} {ks:List (List Nat)} (H:Ks es ks) (k:List Nat) (b:Nat):Ks (es++ [.mk (.str k) (.bool true) b]) (ks++ [k]):=by
 induction H with
 |nil=>exact .cons _ _ _ _ .nil
 |cons k' b es ks h ih=>exact .cons _ _ _ _ ih
section
variable {E:Env} {L n N:Nat} {h:Hp} {kc:KC} {t:T V} {d:Dc} {k:KE} {fi:FI} {c:KV} {C:As}
theorem ud {b:K} {es:List ME} {clock:Nat} {ks:List (List Nat)} {k:List Nat} (hb:blk h b=.map es clock) (H:Ks es ks):DX .str (.map b) (.str k) (.bool false) false h c=c (.bool (ks.contains k)) h:=by simp only[DX,hb,bR H];rfl
theorem qt {b:K} {es:List ME} {clock:Nat} {ks:List (List Nat)} {k:List Nat} {f:Hp→Bool} (hb:blk h b=.map es clock) (H:Ks es ks) (hk:ks.contains k=false):Fx .str (.map b) (.str k) (.bool true) h f=f (h.upd b (.map (es++ [.mk (.str k) (.bool true) clock]) (clock+1))):=by simp only[Fx,hb,bP H hk,AK]
theorem uV (hE:Fns E) {a b:Int×Int} (hk:∀h1,Ae h h1→kc (.ret (.int .i64 (ur a b))) none h1=true):
  call E (L+3) (n+3) (.fn 90) [.agg [.int .i64 a.1,.int .i64 a.2],.agg [.int .i64 b.1,.int .i64 b.2]] none h kc=true:=by
 rw[Ag hE.f103,AcW,Abu,oq,oo];simp -implicitDefEqProofs (disch:=first|assumption|((try simp only[dB]);first|done|omega)) only[↓sD,sB,↓reduceIte,Nat.reduceEqDiff,reduceCtorEq,Nat.reduceAdd,JJ hE];rw[dN hE (a:=Cz a.1 b.1) (b:=Cz a.2 b.2) Af];refine AV ?_;refine hk _ ?_;exact kO
end
end Go.AJ
namespace Go.AJ
open Go
section
variable {E:Env} {L n N:Nat} {h:Hp} {kc:KC} {t:T V} {d:Dc} {k:KE} {fi:FI} {c:KV} {C:As}
theorem Pc {s:St} {m:Nat}:veq (m+1) s.cell s.cell=true:=AP CS
theorem Hv {s:St}:GX .sl s.cell h c=c (vI s.l.length) h:=Kw
theorem gE (hE:Fns E) (hL9:L≤9223372036854775800) (hn:181≤n) {b1 bm:K} {g:Gr} {s0:St} (h00:g.states[0]? =some s0) (hbs:BH g.states≤L) (hbs2:BH g.states≤20000000) (hlen:g.states.length≤20000) {h0:Hp} (n1:b1.num<(nxt h0).num) (nm:bm.num<(nxt h0).num) (n1m:b1.num≠bm.num) (mb1:blk h0 b1=.cells g.cells):
  ∀(r:List St) (ks:List (List Nat)) (i M:Nat) (t:T V) (h:Hp) (es:List ME) (clock:Nat),g.states.drop i=r→i+r.length=g.states.length→r.length+1≤M→blk h bm=.map es clock→Ks es ks→Ac [bm] h0 h→
  tg 1 t=.ptr b1 0→tg 4 t=.map bm→tg 33 t=slR g.sb g.sc (BZ g.states) g.states.length→tg 34 t=vI g.states.length→tg 35 t=vI i→
  (Ri s0.l.length ks r=true→∀t1 h1,Ac [bm] h0 h1→Kp [1,2,3] t t1→k (.exit 0) t1 d h1=true)→
  (Ri s0.l.length ks r=false→∀t1 h1,Ac [bm] h0 h1→tg 2 t1=.bool false→k .ret t1 d h1=true)→
  iter (exec (call E (L+8) (n+5)) (L+8) fi eu) M t d h k=true:=by
 intro r;induction r with
 |nil=>intro ks i M t h es clock hr hi hM hm H K0 g1 g4 g33 g34 g35 hk hf;obtain ⟨M,rfl⟩:=pM M;have hi':(i<g.states.length)=False:=eq_false (by simp at hi;omega);rw[Ab,eu];refine Tst (J3 g34 g35 hi') ?_;exact hk rfl _ _ K0 (by simp -implicitDefEqProofs only[Kp,kpB,Nat.reduceEqDiff,↓reduceIte])
 |cons s r ih=>
  intro ks i M t h es clock hr hi hM hm H K0 g1 g4 g33 g34 g35 hk hf;obtain ⟨M,rfl⟩:=pM M;simp only[List.length_cons] at hi hM;have hi':(i<g.states.length)=True:=eT;have hsm:s∈g.states:=List.mem_of_getElem? (Ak hr);have hsb:=Dn hsm;have e1:=fun c h=>AM (c:=c) (h:=h) (BX (Ak hr));have e2:=fun c h=>AM (c:=c) (h:=h) (BX h00);have mb:blk h b1=.cells g.cells:=(K0.old b1 n1 (by simp only[List.mem_cons,List.not_mem_nil,or_false];exact fun e=>n1m (by rw[e]))).trans mb1;simp only[Gr.cells] at mb;have n1h:=K0.lt n1;have nmh:=K0.lt nm;simp only[Ri] at hk hf;rw[Ab,eu];by_cases hl:s.l.length=s0.l.length
  ·refine Tst (J10 g1 g33 g34 g35 hi' e1 e2 @Hv mb hl) ?_;refine zQ hE (L:=L+5) (n:=n) tO tO tO (fun h1 K1=>?_);simp only[hl,decide_true,Bool.true_and] at hk hf;cases hok:s.l.all okV
   ·refine AV ?_;exact hf (by rw[hok,Bool.false_and,Bool.false_and]) _ _ (K0.trans K1.but) Af
   ·simp only[hok,Bool.true_and] at hk hf;refine AV ?_;refine uW hE hL9 (n:=n+4) tO hok tO tO (fun h2 K2=>?_);have K3:=K1.trans K2;have m2:=(K3.old bm nmh).trans hm;simp -implicitDefEqProofs (disch:=exact tD) only[↓sD,sB,↓reduceIte,Nat.reduceEqDiff,g4,ud m2 H];cases hc:ks.contains (I6 s.l)
    ·simp only[hc,Bool.not_false,Bool.true_and] at hk hf;simp -implicitDefEqProofs (disch:=exact tD) only[↓sD,sB,↓reduceIte,Nat.reduceEqDiff,qt m2 H hc,g35];have K4:Ac [bm] h0 (h2.upd bm (.map (es++ [.mk (.str (I6 s.l)) (.bool true) clock]) (clock+1))):=(K0.trans K3.but).put (.inr (by simp)) _;refine ih (ks++ [I6 s.l]) (i+1) M _ _ _ _ (Ai hr) tO tO AE (H.snoc _ _) K4 ?_ ?_ ?_ ?_ ?_ (fun hy t1 h1 K5 kp=>hk hy t1 h1 K5 (Kp.trans (by simp -implicitDefEqProofs only[Kp,kpB,Nat.reduceEqDiff,↓reduceIte]) kp)) hf
     ·exact Ssc g1
     ·exact Ssc g4
     ·exact Ssc g33
     ·exact Ssc g34
     ·exact Af
    ·simp only[hc,Bool.not_true,Bool.false_and] at hk hf;simp -implicitDefEqProofs (disch:=exact tD) only[↓reduceIte];exact hf trivial _ _ (K0.trans K3.but) Af
  ·simp only[hl,decide_false,Bool.false_and] at hf;have hl':(s.l.length=s0.l.length)=False:=eq_false hl;refine Tst (J10 g1 g33 g34 g35 hi' e1 e2 @Hv mb hl') ?_;exact hf trivial _ _ K0 Af
theorem gD {g:Gr} (hlen:g.init.length≤9223372036854775800):
  ∀(r:List Int) (i M:Nat) (t:T V),g.init.drop i=r→i+r.length=g.init.length→r.length+1≤M→
  tg 60 t=slR g.ib g.ic (AH g.init) g.init.length→tg 61 t=vI g.init.length→tg 62 t=vI i→
  (Ei i r=true→∀t1,Kp [1,2,3] t t1→k (.exit 2) t1 d h=true)→
  (Ei i r=false→∀t1,tg 2 t1=.bool false→k .ret t1 d h=true)→
  iter (exec C L fi ke) M t d h k=true:=by
 intro r;induction r with
 |nil=>intro i M t hr hi hM g33 g34 g35 hk hf;obtain ⟨M,rfl⟩:=pM M;have hi':(i<g.init.length)=False:=eq_false (by simp at hi;omega);rw[Ab,ke];refine Tst (J3 g34 g35 hi') ?_;exact hk rfl _ (by simp -implicitDefEqProofs only[Kp,kpB,Nat.reduceEqDiff,↓reduceIte])
 |cons x r ih=>
  intro i M t hr hi hM g33 g34 g35 hk hf;obtain ⟨M,rfl⟩:=pM M;simp only[List.length_cons] at hi hM;have hi':(i<g.init.length)=True:=eT;have hx:g.init.getD i 0=x:=by rw[List.getD_eq_getElem?_getD,Ak hr];rfl
  have e1:=fun c h=>AM (c:=c) (h:=h) (Bp (l:=g.init) (i:=i) tO);simp only[hx] at e1;simp only[Ei] at hk hf;rw[Ab,ke];cases hc:Aq x (.ofNat i)
  ·simp only[hc,Bool.false_and] at hf;refine Tst (J6 g33 g34 g35 hi' e1 hc) ?_;exact hf trivial _ Af
  ·simp only[hc,Bool.true_and] at hk hf;refine Tst (J6 g33 g34 g35 hi' e1 hc) ?_;refine ih (i+1) M _ (Ai hr) tO tO ?_ ?_ ?_ (fun hy t1 kp=>hk hy t1 (Kp.trans (by simp -implicitDefEqProofs only[Kp,kpB,Nat.reduceEqDiff,↓reduceIte]) kp)) hf
   ·exact Ssc g33
   ·exact Ssc g34
   ·exact Af
end
end Go.AJ
namespace Go.AJ
open Go
set_option maxRecDepth 100000
section
variable {E:Env} {L n N:Nat} {h:Hp} {kc:KC} {t:T V} {d:Dc} {k:KE} {fi:FI} {c:KV} {C:As}
theorem gC (hE:Fns E) {b1:K} {g:Gr} {nn:Nat} (_hnn:nn≤20000) (hlen:g.edges.length≤100000) {h0:Hp} (n1:b1.num<(nxt h0).num) (mb1:blk h0 b1=.cells g.cells):
  ∀(r:List (Int×Int)) (prev:Option (Int×Int)) (found i M:Nat) (t:T V) (h:Hp),g.edges.drop i=r→i+r.length=g.edges.length→r.length+1≤M→(∀p,prev=some p→∃j,i=j+1∧g.edges[j]? =some p)→(prev=none→i=0)→found≤20000+i→Ae h0 h→
  tg 1 t=.ptr b1 0→tg 3 t=vI nn→tg 10 t=vI found→tg 75 t=slR g.eb g.ec (Dq g.edges) g.edges.length→tg 76 t=vI g.edges.length→tg 77 t=vI i→
  (∀f,G0 nn prev found r=some f→∀t1 h1,Ae h0 h1→tg 3 t1=vI nn→tg 10 t1=vI f→k (.exit 4) t1 d h1=true)→
  (G0 nn prev found r=none→∀t1 h1,Ae h0 h1→tg 2 t1=.bool false→k .ret t1 d h1=true)→
  iter (exec (call E (L+3) (n+3)) (L+3) fi TW) M t d h k=true:=by
 intro r;induction r with
 |nil=>intro prev found i M t h hr hi hM hp hp0 hfo K0 g1 g3 g10 g75 g76 g77 hk hf;obtain ⟨M,rfl⟩:=pM M;have hi':(i<g.edges.length)=False:=eq_false (by simp at hi;omega);rw[Ab,TW];refine Tst (J3 g76 g77 hi') ?_;exact hk found rfl _ _ K0 (Ssc g3) (Ssc g10)
 |cons e r ih=>
  intro prev found i M t h hr hi hM hp hp0 hfo K0 g1 g3 g10 g75 g76 g77 hk hf;obtain ⟨M,rfl⟩:=pM M;obtain ⟨a,b⟩:=e;simp only[List.length_cons] at hi hM;have hi':(i<g.edges.length)=True:=eT;have e1:=fun c h=>Ch (c:=c) (h:=h) (Bm (Ak hr)) rfl;have mb:blk h b1=.cells g.cells:=(K0.old b1 n1).trans mb1;simp only[Gr.cells] at mb;have n1h:=Nat.lt_of_lt_of_le n1 K0.nx;have K1:Ae h (h.upd (nxt h) (.cells [.int .i64 a,.int .i64 b])).bump:=(Ae.refl h).new _;have n1':b1.num≠(nxt h).num:=tO;simp only[G0] at hk hf
  have bad:(!ltI a (.ofNat 0)&&ltI a (.ofNat nn)&& !ltI b (.ofNat 0)&&ltI b (.ofNat nn))=false→iter (exec (call E (L+3) (n+3)) (L+3) fi TW) (M+1) t d h k=true:=by
   intro hb;have hout:Ci nn prev found (a,b)=false:=by simp only[Ci,hb,Bool.false_and]
   simp only[hout,Bool.false_eq_true,if_false] at hf;rw[Ab,TW];cases c1:ltI a (.ofNat 0)
   ·cases c2:ltI a (.ofNat nn)
    ·simp -implicitDefEqProofs (disch:=exact tD) only[↓sD,sB,↓reduceIte,Nat.reduceEqDiff,g3,g75,g76,g77,hi',decide_true,AR,e1,Bu,AX,c1,c2];exact hf trivial _ _ (K0.trans K1) Af
    ·cases c3:ltI b (.ofNat 0)
     ·cases c4:ltI b (.ofNat nn)
      ·simp -implicitDefEqProofs (disch:=exact tD) only[↓sD,sB,↓reduceIte,Nat.reduceEqDiff,g3,g75,g76,g77,hi',decide_true,AR,e1,Bu,AX,c1,c2,c3,c4];exact hf trivial _ _ (K0.trans K1) Af
      ·rw[c1,c2,c3,c4] at hb;cases hb
     ·simp -implicitDefEqProofs (disch:=exact tD) only[↓sD,sB,↓reduceIte,Nat.reduceEqDiff,g3,g75,g76,g77,hi',decide_true,AR,e1,Bu,AX,c1,c2,c3];exact hf trivial _ _ (K0.trans K1) Af
   ·simp -implicitDefEqProofs (disch:=exact tD) only[↓sD,sB,↓reduceIte,Nat.reduceEqDiff,g75,g76,g77,hi',decide_true,AR,e1,Bu,AX,c1];exact hf trivial _ _ (K0.trans K1) Af
  cases hb:(!ltI a (.ofNat 0)&&ltI a (.ofNat nn)&& !ltI b (.ofNat 0)&&ltI b (.ofNat nn))
  ·exact bad hb
  simp only[Bool.and_eq_true,Bool.not_eq_true'] at hb;obtain ⟨⟨⟨c1,c2⟩,c3⟩,c4⟩:=hb;rw[Ab,TW];cases prev with
  |none=>
   have hi0:(0<i)=False:=eq_false (by have:=hp0 rfl;omega);generalize hprev:(none:Option (Int×Int))=prev at hk hf;have hpv:Fg prev (a,b)=true:=by subst hprev;rfl
   cases c5:ltI a (.ofNat found)
   ·have hout:Ci nn prev found (a,b)=false:=by simp only[Ci,c5,Bool.and_false,Bool.false_and]
    simp only[hout,Bool.false_eq_true,if_false] at hf;simp -implicitDefEqProofs (disch:=exact tD) only[↓sD,sB,↓reduceIte,Nat.reduceEqDiff,g3,g10,g75,g76,g77,hi',decide_true,decide_false,AR,e1,Bu,AX,c1,c2,c3,c4,hi0,c5];exact hf trivial _ _ (K0.trans K1) Af
   ·cases c6:ltI (.ofNat found) b
    ·have hin:Ci nn prev found (a,b)=true:=by simp only[Ci,c1,c2,c3,c4,c5,c6,hpv,Bool.not_false,Bool.and_self]
     simp only[hin,if_true] at hk hf;cases c7:Aq b (.ofNat found)
     ·simp only[c7,Bool.false_eq_true,if_false] at hk hf;simp -implicitDefEqProofs (disch:=exact tD) only[↓sD,sB,↓reduceIte,Nat.reduceEqDiff,g3,g10,g75,g76,g77,hi',decide_true,decide_false,AR,e1,Bu,AX,c1,c2,c3,c4,hi0,c5,c6,c7];refine ih (some (a,b)) found (i+1) M _ _ (Ai hr) tO tO (fun p e=>⟨i,rfl,by cases e;exact Ak hr⟩) (fun e=>by cases e) tO (K0.trans K1) ?_ ?_ ?_ ?_ ?_ ?_ hk hf
      ·exact Ssc g1
      ·exact Ssc g3
      ·exact Ssc g10
      ·exact Ssc g75
      ·exact Ssc g76
      ·exact Af
     ·simp only[c7,if_true] at hk hf;have e5:Am .i64 (.ofNat (found+1))=.ofNat (found+1):=Ah tO;simp -implicitDefEqProofs (disch:=exact tD) only[↓sD,sB,↓reduceIte,Nat.reduceEqDiff,g3,g10,g75,g76,g77,hi',decide_true,decide_false,AR,e1,Bu,AX,c1,c2,c3,c4,hi0,c5,c6,c7,e5];refine ih (some (a,b)) (found+1) (i+1) M _ _ (Ai hr) tO tO (fun p e=>⟨i,rfl,by cases e;exact Ak hr⟩) (fun e=>by cases e) tO (K0.trans K1) ?_ ?_ ?_ ?_ ?_ ?_ hk hf
      ·exact Ssc g1
      ·exact Ssc g3
      ·exact Af
      ·exact Ssc g75
      ·exact Ssc g76
      ·exact Af
    ·have hout:Ci nn prev found (a,b)=false:=by simp only[Ci,c6,Bool.not_true,Bool.and_false]
     simp only[hout,Bool.false_eq_true,if_false] at hf;simp -implicitDefEqProofs (disch:=exact tD) only[↓sD,sB,↓reduceIte,Nat.reduceEqDiff,g3,g10,g75,g76,g77,hi',decide_true,decide_false,AR,e1,Bu,AX,c1,c2,c3,c4,hi0,c5,c6];exact hf trivial _ _ (K0.trans K1) Af
  |some p=>
   obtain ⟨j,rfl,hj⟩:=hp p rfl;have hi0:(0<j+1)=True:=eT;have e2:=fun c h=>Ch (c:=c) (h:=h) (Bm hj) rfl;have e3:Am .i64 (Int.sub (.ofNat (j+1)) (.ofNat 1))=.ofNat j:=Bi (i:=j+1) tO;generalize hi9:j+1=i at*;simp -implicitDefEqProofs (disch:=first|assumption|((try simp only[dB]);first|done|omega)) only[↓sD,sB,↓reduceIte,Nat.reduceEqDiff,Nat.reduceAdd,g1,g3,g75,g76,g77,hi',decide_true,AR,e1,e2,e3,Bu,AX,c1,c2,c3,c4,mb,hi0];refine uV hE (a:=p) (b:=(a,b)) (fun h2 K2=>?_);have n2:=K2.nx;simp only[nB] at n2;have m2:=K2.old (nxt h) tN;simp -implicitDefEqProofs (disch:=exact tD) only[sB] at m2;have K3:=K1.trans K2;generalize hprev:some p=prev at hk hf;cases c0:ltI (ur p (a,b)) (.ofNat 0)
   ·have hout:Ci nn prev found (a,b)=false:=by subst hprev;simp only[Ci,Fg,c0,Bool.and_false,Bool.false_and]
    simp only[hout,Bool.false_eq_true,if_false] at hf;simp -implicitDefEqProofs (disch:=exact tD) only[↓sD,sB,↓reduceIte,Nat.reduceEqDiff,c0];exact hf trivial _ _ (K0.trans K3) Af
   ·have hpv:Fg prev (a,b)=true:=by subst hprev;exact c0
    cases c5:ltI a (.ofNat found)
    ·have hout:Ci nn prev found (a,b)=false:=by simp only[Ci,c5,Bool.and_false,Bool.false_and]
     simp only[hout,Bool.false_eq_true,if_false] at hf;simp -implicitDefEqProofs (disch:=exact tD) only[↓sD,sB,↓reduceIte,Nat.reduceEqDiff,g10,c0,m2,c5];exact hf trivial _ _ (K0.trans K3) Af
    ·cases c6:ltI (.ofNat found) b
     ·have hin:Ci nn prev found (a,b)=true:=by simp only[Ci,c1,c2,c3,c4,c5,c6,hpv,Bool.not_false,Bool.and_self]
      simp only[hin,if_true] at hk hf;cases c7:Aq b (.ofNat found)
      ·simp only[c7,Bool.false_eq_true,if_false] at hk hf;simp -implicitDefEqProofs (disch:=exact tD) only[↓sD,sB,↓reduceIte,Nat.reduceEqDiff,g10,g77,c0,m2,c5,c6,c7];refine ih (some (a,b)) found (i+1) M _ _ (Ai hr) tO tO (fun p e=>⟨i,rfl,by cases e;exact Ak hr⟩) (fun e=>by cases e) tO (K0.trans K3) ?_ ?_ ?_ ?_ ?_ ?_ hk hf
       ·exact Ssc g1
       ·exact Ssc g3
       ·exact Ssc g10
       ·exact Ssc g75
       ·exact Ssc g76
       ·exact Af
      ·simp only[c7,if_true] at hk hf;have e5:Am .i64 (.ofNat (found+1))=.ofNat (found+1):=Ah tO;simp -implicitDefEqProofs (disch:=exact tD) only[↓sD,sB,↓reduceIte,Nat.reduceEqDiff,g10,g77,c0,m2,c5,c6,c7,e5];refine ih (some (a,b)) (found+1) (i+1) M _ _ (Ai hr) tO tO (fun p e=>⟨i,rfl,by cases e;exact Ak hr⟩) (fun e=>by cases e) tO (K0.trans K3) ?_ ?_ ?_ ?_ ?_ ?_ hk hf
       ·exact Ssc g1
       ·exact Ssc g3
       ·exact Af
       ·exact Ssc g75
       ·exact Ssc g76
       ·exact Af
     ·have hout:Ci nn prev found (a,b)=false:=by simp only[Ci,c6,Bool.not_true,Bool.and_false]
      simp only[hout,Bool.false_eq_true,if_false] at hf;simp -implicitDefEqProofs (disch:=exact tD) only[↓sD,sB,↓reduceIte,Nat.reduceEqDiff,g10,c0,m2,c5,c6];exact hf trivial _ _ (K0.trans K3) Af
end
end Go.AJ
namespace Go.AJ
open Go
set_option maxRecDepth 100000
section
variable {E:Env} {L n N:Nat} {h:Hp} {kc:KC} {t:T V} {d:Dc} {k:KE} {fi:FI} {c:KV} {C:As}
theorem Gr.cells_length (g:Gr):g.cells.length=3:=rfl
theorem QA (hE:Fns E) (hL9:L≤9223372036854775800) (hn:181≤n) {g:Gr} (hb:g.bulk≤L) (hb2:g.bulk≤20000000) (hk:∀h1,Ae h h1→kc (.ret (.bool g.ok)) none h1=true):
  call E (L+8) (n+6) (.fn 46) [.agg g.cells] none h kc=true:=by
 have hbb:g.states.length+BH g.states+g.init.length+2*g.edges.length≤L:=hb;have hbb2:g.states.length+BH g.states+g.init.length+2*g.edges.length≤20000000:=hb2;have K1:Ae h ((h.upd (nxt h) (.cells g.cells)).upd (nxt h).succ (.map [] 0)).bump.bump:=kO;have K0:Ae h (h.upd (nxt h) (.cells g.cells)).bump:=kO;rw[Ag hE.f61,c61,r61,yn,ym,yk,yj];by_cases c1:20000<g.states.length
 ·have e:g.ok=false:=by simp only[Gr.ok,c1,decide_true,Bool.not_true,Bool.false_and]
  rw[e] at hk;simp -implicitDefEqProofs (disch:=exact tD) only[↓sD,sB,↓reduceIte,Nat.reduceEqDiff,Gr.cells,c1,decide_true];exact hk _ K0
 by_cases c2:100000<g.edges.length
 ·have e:g.ok=false:=by simp only[Gr.ok,c2,decide_true,Bool.not_true,Bool.and_false,Bool.false_and]
  rw[e] at hk;simp -implicitDefEqProofs (disch:=exact tD) only[↓sD,sB,↓reduceIte,Nat.reduceEqDiff,Gr.cells,c1,c2,decide_true,decide_false];exact hk _ K0
 by_cases c3:g.states.length<g.init.length
 ·have e:g.ok=false:=by simp only[Gr.ok,c3,decide_true,Bool.not_true,Bool.and_false,Bool.false_and]
  rw[e] at hk;simp -implicitDefEqProofs (disch:=exact tD) only[↓sD,sB,↓reduceIte,Nat.reduceEqDiff,Gr.cells,c1,c2,c3,decide_true,decide_false];exact hk _ K0
 have eok:g.ok=(Ri (g.states.headD ⟨true,0,[]⟩).l.length [] g.states&&Ei 0 g.init&&(G0 g.states.length none g.init.length g.edges==some g.states.length)):=by simp only[Gr.ok,c1,c2,c3,decide_false,Bool.not_false,Bool.true_and]
 rw[eok] at hk
 have rest:∀(h1:Hp) (tt:T V),Ae h h1→Ri (g.states.headD ⟨true,0,[]⟩).l.length [] g.states=true→blk h1 (nxt h)=.cells g.cells→(nxt h).num<(nxt h1).num→tg 1 tt=.ptr (nxt h) 0→tg 2 tt=.bool false→tg 3 tt=vI g.states.length→
   exec (call E (L+8) (n+5)) (L+8) (.mk 61 none) se tt (.mk [] none) h1 (Dd (GH (call E (L+8) (n+5)) (L+8) (.mk 61 none) (.seq sd (.seq sa (.seq r7 .ret))) (De (call E (L+8) (n+5)) (L+8) [.t (K.of 2)] kc)) (De (call E (L+8) (n+5)) (L+8) [.t (K.of 2)] kc))=true:=by
  intro h1 tt K2 hst mb nb g1 g2 g3;rw[hst,Bool.true_and] at hk;have mb':=mb;simp only[Gr.cells] at mb';rw[se,sd,sa,r7];refine Sst (J3 g1 mb' @Ad) ?_;refine gD (g:=g) tO g.init 0 _ _ rfl tO tO ?_ ?_ ?_ (fun hi t1 kp=>?_) (fun hf t1 q2=>?_)
  ·exact Af
  ·exact Af
  ·exact Af
  ·rw[hi,Bool.true_and] at hk;have q1:=kp 1 (by simp);have q2:=kp 2 (by simp);have q3:=kp 3 (by simp);simp -implicitDefEqProofs (disch:=exact tD) only[sB,↓reduceIte,Nat.reduceEqDiff,g1,g2,g3] at q1 q2 q3;refine Sst (J3 q1 mb' @Ad) ?_;refine gC hE (L:=L+5) (n:=n+2) (g:=g) (nn:=g.states.length) tO tO (h0:=h1) nb mb g.edges none g.init.length 0 _ _ h1 rfl tO tO (fun p e=>by cases e) (fun _=>rfl) tO (.refl h1) ?_ ?_ ?_ ?_ ?_ ?_ (fun f hf t2 h2 K3 u3 u10=>?_) (fun hf t2 h2 K3 u2=>?_)
   ·exact Ssc q1
   ·exact Ssc q3
   ·exact Af
   ·exact Af
   ·exact Af
   ·exact Af
   ·rw[hf] at hk;have e9:(some f==some g.states.length)=decide (f=g.states.length):=by
     by_cases e:f=g.states.length
     ·subst e;simp
     ·simp [e]
    rw[e9] at hk;refine Sst (J2 u3 u10) ?_;exact hk h2 (K2.trans K3)
   ·rw[hf] at hk;have e9:((none:Option Nat)==some g.states.length)=false:=rfl;rw[e9] at hk;refine Sst u2 ?_;exact hk h2 (K2.trans K3)
  ·rw[hf,Bool.false_and] at hk;refine Sst q2 ?_;exact hk h1 K2
 by_cases h0:g.states.length=0
 ·have hs:g.states= []:=List.length_eq_zero_iff.1 h0;have hz:(0<g.states.length)=False:=eF;simp -implicitDefEqProofs (disch:=exact tD) only[↓sD,sB,↓reduceIte,Nat.reduceEqDiff,Gr.cells,c1,c2,c3,decide_false];rw[sf];simp -implicitDefEqProofs (disch:=exact tD) only[↓sD,sB,↓reduceIte,Nat.reduceEqDiff,Ad,Ab,eu,hz,decide_false];refine rest _ _ K1 (by rw[hs];rfl) ?_ tN ?_ ?_ ?_
  ·simp -implicitDefEqProofs (disch:=exact tD) only[sB,Gr.cells]
  ·exact Af
  ·exact Af
  ·exact Af
 ·obtain ⟨s0,sr,hs⟩:∃s0 sr,g.states=s0::sr:=by
   cases hs:g.states with
   |nil=>rw[hs] at h0;exact absurd rfl h0
   |cons s0 sr=>exact ⟨s0,sr,rfl⟩
  have h00:g.states[0]? =some s0:=by rw[hs];rfl
  have hh:g.states.headD ⟨true,0,[]⟩=s0:=by rw[hs];rfl
  rw[hh] at hk rest;simp -implicitDefEqProofs (disch:=exact tD) only[↓sD,sB,↓reduceIte,Nat.reduceEqDiff,Gr.cells,c1,c2,c3,decide_false];rw[sf];refine Sst @Ad ?_;refine gE hE hL9 hn (b1:=nxt h) (bm:=(nxt h).succ) (g:=g) h00 tO tO tO (h0:=((h.upd (nxt h) (.cells g.cells)).upd (nxt h).succ (.map [] 0)).bump.bump) tN tN tN Af g.states [] 0 _ _ _ [] 0 rfl tO tO Af .nil (.refl _ _) ?_ ?_ ?_ ?_ ?_ (fun hy t1 h1 K2 kp=>?_) (fun hf t1 h1 K2 q2=>?_)
  ·exact Af
  ·exact Af
  ·exact Af
  ·exact Af
  ·exact Af
  ·have q1:=kp 1 (by simp);have q2:=kp 2 (by simp);have q3:=kp 3 (by simp);simp -implicitDefEqProofs (disch:=exact tD) only[sB,↓reduceIte,Nat.reduceEqDiff] at q1 q2 q3;have n2:=K2.nx;simp only[nB] at n2;have mb:=K2.old (nxt h) tN (by simp only[List.mem_cons,List.not_mem_nil,or_false];exact K.self_ne_succ _|>.mp);simp -implicitDefEqProofs (disch:=exact tD) only[sB] at mb;have K3:Ae h h1:=⟨by ((try simp only[nB]);omega),fun c hc=>by rw[K2.old c tN (by simp only[List.mem_cons,List.not_mem_nil,or_false];exact fun e=>by subst e;rw[K.num_succ] at hc;omega),K1.old c hc]⟩
   refine AV ?_;exact rest h1 t1 K3 hy mb tO q1 q2 q3
  ·rw[hf,Bool.false_and,Bool.false_and] at hk;have n2:=K2.nx;simp only[nB] at n2;have K3:Ae h h1:=⟨by ((try simp only[nB]);omega),fun c hc=>by rw[K2.old c tN (by simp only[List.mem_cons,List.not_mem_nil,or_false];exact fun e=>by subst e;rw[K.num_succ] at hc;omega),K1.old c hc]⟩
   refine Sst q2 ?_;exact hk h1 K3
end
end Go.AJ
namespace Go.AJ
open Go
set_option maxRecDepth 100000
def RU:List Nat→Nat→List (Int×Int)→List Nat
 |lv,_,[]=>lv
 |lv,found,e::r=>if Aq e.2 (.ofNat found)=true then RU (lv.set found (lv.getD e.1.toNat 0+1)) (found+1) r else RU lv found r
def Gr.lv (g:Gr):List Nat:=RU (List.replicate g.states.length 0) g.init.length g.edges
theorem Fz:∀(r:List (Int×Int)) (lv:List Nat) (found:Nat),(RU lv found r).length=lv.length
 | [],lv,found=>rfl
 |e::r,lv,found=>by
  rw[RU];split
  ·rw[Fz r,List.length_set]
  ·exact Fz r lv found
theorem Gr.lv_length (g:Gr):g.lv.length=g.states.length:=by rw[Gr.lv,Fz,List.length_replicate]
theorem EI {n found:Nat} {prev:Option (Int×Int)} {e:Int×Int} (h:Ci n prev found e=true):∃a b:Nat,e=(.ofNat a,.ofNat b)∧a<n∧b<n∧a<found∧b≤found∧Fg prev e=true:=by simp only[Ci,Bool.and_eq_true,Bool.not_eq_true',Cw,decide_eq_true_eq,decide_eq_false_iff_not,Int.ofNat_eq_natCast] at h;obtain ⟨⟨⟨⟨⟨⟨h1,h2⟩,h3⟩,h4⟩,h5⟩,h6⟩,h7⟩:=h;obtain ⟨a,b⟩:=e;simp only at*;obtain ⟨a,rfl⟩:=Int.eq_ofNat_of_zero_le (show 0≤a by omega);obtain ⟨b,rfl⟩:=Int.eq_ofNat_of_zero_le (show 0≤b by omega);exact ⟨a,b,rfl,by omega,by omega,by omega,by omega,h5⟩
section
variable {E:Env} {L n N:Nat} {h:Hp} {kc:KC} {t:T V} {d:Dc} {k:KE} {fi:FI} {c:KV} {C:As}
theorem zk {bo:K} {g:Gr} {nn:Nat} (hnn:nn≤20000) (hlen:g.edges.length≤100000) {h0:Hp} (no:bo.num<(nxt h0).num):
  ∀(r:List (Int×Int)) (prev:Option (Int×Int)) (f found i M:Nat) (t:T V) (h:Hp) (lv:List Nat),g.edges.drop i=r→i+r.length=g.edges.length→r.length+1≤M→G0 nn prev found r=some f→found≤nn→lv.length=nn→(∀j,lv.getD j 0≤found)→Ac [bo] h0 h→blk h bo=.cells (Bx lv)→
  tg 3 t=.sl bo 0 nn nn 0→tg 4 t=vI found→tg 15 t=slR g.eb g.ec (Dq g.edges) g.edges.length→tg 16 t=vI g.edges.length→tg 17 t=vI i→
  (∀t1 h1,Ac [bo] h0 h1→blk h1 bo=.cells (Bx (RU lv found r))→tg 3 t1=.sl bo 0 nn nn 0→k (.exit 0) t1 d h1=true)→
  iter (exec C L fi ka) M t d h k=true:=by
 intro r;induction r with
 |nil=>intro prev f found i M t h lv hr hi hM hok hfn hll hle K0 mo g3 g4 g15 g16 g17 hk;obtain ⟨M,rfl⟩:=pM M;have hi':(i<g.edges.length)=False:=eq_false (by simp at hi;omega);rw[Ab,ka];refine Tst (J3 g16 g17 hi') ?_;exact hk _ _ K0 mo (Ssc g3)
 |cons e r ih=>
  intro prev f found i M t h lv hr hi hM hok hfn hll hle K0 mo g3 g4 g15 g16 g17 hk;obtain ⟨M,rfl⟩:=pM M;simp only[List.length_cons] at hi hM;have hi':(i<g.edges.length)=True:=eT;have e1:=fun c h=>Ch (c:=c) (h:=h) (Bm (Ak hr)) rfl;rw[G0] at hok;cases hed:Ci nn prev found e
  ·rw[hed,if_neg (by simp)] at hok;cases hok
  rw[hed,if_pos rfl] at hok;obtain ⟨a,b,rfl,ha,hb,haf,hbf,_⟩:=EI hed;simp only at e1 hok;have noh:=K0.lt no;have hne:bo.num≠(nxt h).num:=tO;have K1:Ac [bo] h0 (h.upd (nxt h) (.cells [vI a,vI b])).bump:=K0.new _;rw[RU] at hk;simp only at hk;rw[Ab,ka];by_cases hbb:b=found
  ·have hbt:Aq (.ofNat b) (.ofNat found)=true:=by rw[hbb];exact AG
   rw[if_pos hbt] at hk hok;have hv:=hle a;have ea:a<lv.length:=tO;have eb:b<lv.length:=tO;have eta:(Int.ofNat a).toNat=a:=rfl;rw[eta] at hk;have e2:Am .i64 (.ofNat (lv.getD a 0+1))=.ofNat (lv.getD a 0+1):=Ah tO;have e3:Am .i64 (.ofNat (found+1))=.ofNat (found+1):=Ah tO;have e4:∀(h:Hp) (f:Hp→Bool),stB (.cells (Bx lv)) bo b [vI (lv.getD a 0+1)] h f=f (h.upd bo (.cells (Bx (lv.set b (lv.getD a 0+1))))):=fun h f=>Hm eb;have e5:∀(h:Hp) (c:KV),ldB (.cells (Bx lv)) a h c=c (vI (lv.getD a 0)) h:=fun h c=>BD ea;simp -implicitDefEqProofs (disch:=exact tD) only[↓sD,sB,↓reduceIte,Nat.reduceEqDiff,g3,g4,g15,g16,g17,hi',decide_true,AR,e1,Bu,AX,hbt,mo,e5,e2,e4,e3,show (a<nn)=True from eq_true ha,show (b<nn)=True from eq_true hb];refine ih (some (.ofNat a,.ofNat b)) f (found+1) (i+1) M _ _ (lv.set b (lv.getD a 0+1)) (Ai hr) tO tO hok tO (by rw[List.length_set];exact hll) ?_ (K1.put (b:=bo) (.inr (by simp)) _) ?_ ?_ ?_ ?_ ?_ ?_ (by rw[hbb];exact hk)
   ·intro j;by_cases hj:j=b
    ·subst hj;rw[List.getD_eq_getElem?_getD,List.getElem?_set_self eb];simp only[Option.getD_some];omega
    ·rw[List.getD_eq_getElem?_getD,List.getElem?_set_ne (fun e=>hj e.symm),←List.getD_eq_getElem?_getD];have:=hle j;omega
   ·exact Af
   ·exact Ssc g3
   ·exact Af
   ·exact Ssc g15
   ·exact Ssc g16
   ·exact Af
  ·have hbt:Aq (.ofNat b) (.ofNat found)=false:=by rw[AB,decide_eq_false hbb]
   rw[if_neg (by rw[hbt];simp)] at hk hok;refine Tst (J9 g4 g15 g16 g17 hi' e1 @Bu @AX hbt) ?_;refine ih (some (.ofNat a,.ofNat b)) f found (i+1) M _ _ lv (Ai hr) tO tO hok hfn hll hle K1 ?_ ?_ ?_ ?_ ?_ ?_ hk
   ·exact Ssc mo
   ·exact Ssc g3
   ·exact Ssc g4
   ·exact Ssc g15
   ·exact Ssc g16
   ·exact Af
theorem Gr.ok_parts {g:Gr} (hok:g.ok=true):g.states.length≤20000∧g.edges.length≤100000∧g.init.length≤g.states.length∧Ri (g.states.headD ⟨true,0,[]⟩).l.length [] g.states=true∧Ei 0 g.init=true∧G0 g.states.length none g.init.length g.edges=some g.states.length:=by simp only[Gr.ok,Bool.and_eq_true,Bool.not_eq_true',decide_eq_false_iff_not,beq_iff_eq] at hok;obtain ⟨⟨⟨⟨⟨h1,h2⟩,h3⟩,h4⟩,h5⟩,h6⟩:=hok;exact ⟨by omega,by omega,by omega,h4,h5,h6⟩
theorem pf (hE:Fns E) {g:Gr} (hok:g.ok=true) (hL:g.bulk≤L) (hk:∀h1 b,Ae h h1→blk h1 b=.cells (Bx g.lv)→(nxt h).num≤b.num→b.num<(nxt h1).num→kc (.ret (.sl b 0 g.states.length g.states.length 0)) none h1=true):
  call E (L+1) (n+1) (.fn 47) [.agg g.cells] none h kc=true:=by
 obtain ⟨h1,h2,h3,h4,h5,h6⟩:=Gr.ok_parts hok;have hbb:g.states.length+BH g.states+g.init.length+2*g.edges.length≤L:=hL;rw[Ag hE.f62,c62,r62,yi,yh,yg,yf,ye];have em:∀(h:Hp) (c:KV),Bf (vI g.states.length) (vI g.states.length) [vI 0] 8 h c=c (.sl (nxt h) 0 g.states.length g.states.length 0) (h.upd (nxt h) (.cells (Bx (List.replicate g.states.length 0)))).bump:=fun h c=>by rw[GA tO,Hq]
 have K2:Ae h ((h.upd (nxt h) (.cells g.cells)).upd (nxt h).succ (.cells (Bx (List.replicate g.states.length 0)))).bump.bump:=kO;simp -implicitDefEqProofs (disch:=exact tD) only[↓sD,sB,↓reduceIte,Nat.reduceEqDiff,Gr.cells,em,Ad];refine zk (bo:=(nxt h).succ) (g:=g) (nn:=g.states.length) h1 h2 (h0:=((h.upd (nxt h) (.cells g.cells)).upd (nxt h).succ (.cells (Bx (List.replicate g.states.length 0)))).bump.bump) tN g.edges none g.states.length g.init.length 0 _ _ _ (List.replicate g.states.length 0) rfl tO tO h6 h3 (by simp) (fun j=>?_) (.refl _ _) ?_ ?_ ?_ ?_ ?_ ?_ (fun t1 h7 K7 m7 g3=>?_)
 ·rw[List.getD_eq_getElem?_getD,List.getElem?_replicate];split<;>simp
 ·exact Af
 ·exact Af
 ·exact Af
 ·exact Af
 ·exact Af
 ·exact Af
 ·have n7:=K7.nx;simp only[nB] at n7;refine Sst g3 ?_;refine hk h7 (nxt h).succ ⟨by ((try simp only[nB]);omega),fun c hc=>?_⟩ m7 tN tN;rw[K7.old c tN (by simp only[List.mem_cons,List.not_mem_nil,or_false];exact fun e=>by subst e;rw[K.num_succ] at hc;omega),K2.old c hc]
theorem z8 (hE:Fns E) (hL9:L≤9223372036854775800) (hn:181≤n) {g:Gr} (hb:g.bulk≤L) (hb2:g.bulk≤20000000) (hbad:g.ok=false→∀h1,Ae h h1→kc (.ret (.tup [.nils,vI 230])) none h1=true)
  (hk:g.ok=true→∀h1 b,Ae h h1→blk h1 b=.cells (Bx g.lv)→(nxt h).num≤b.num→b.num<(nxt h1).num→kc (.ret (.tup [.sl b 0 g.states.length g.states.length 0,vI 0])) none h1=true):
  call E (L+8) (n+7) (.fn 8) [.agg g.cells] none h kc=true:=by
 have l3:=g.cells_length;have K0:Ae h (h.upd (nxt h) (.cells g.cells)).bump:=kO;rw[Ag hE.f29,c29,r29,yJ,yI,yH];refine Sst (J2 @Ax l3) ?_;refine QA hE hL9 hn hb hb2 (fun h1 K1=>?_);have K2:=K0.trans K1;cases hok:g.ok
 ·refine AV ?_;exact hbad hok h1 K2
 ·have n1:=K1.nx;simp only[nB] at n1;have m1:=K1.old (nxt h) tN;simp -implicitDefEqProofs only[sB] at m1;refine Sst (J3 m1 @Ax l3) ?_;refine pf hE (L:=L+7) hok tO (fun h2 b K3 m2 b1 b2=>?_);refine AV ?_;exact hk hok h2 b (K2.trans K3) m2 (by have:=K2.nx;omega) b2
end
end Go.AJ
