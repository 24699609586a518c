/- The walk: graphs and levels. -/
import Derived.Test.YtgdbpnpolelfoaaGreatDoorWc
set_option linter.all false
namespace Go.AJ
open Go
structure St where
 b:Bool
 c:Nat
 l:List Va
def St.cell (s:St):V:=slR s.b s.c (AB s.l) s.l.length
def CF (l:List St):List V:=l.map St.cell
def Ft:List (Int×Int)→List V
 | []=> []
 |e::l=> .int .i64 e.1::.int .i64 e.2::Ft l
structure Gr where
 sb:Bool
 sc:Nat
 states:List St
 ib:Bool
 ic:Nat
 init:List Int
 eb:Bool
 ec:Nat
 edges:List (Int×Int)
def Gr.cells (g:Gr):List V:= [slR g.sb g.sc (CF g.states) g.states.length,slR g.ib g.ic (AL g.init) g.init.length,slR g.eb g.ec (Ft g.edges) g.edges.length]
def D7:List St→Nat
 | []=>0
 |s::l=>Ax s.l+D7 l
def Gr.bulk (g:Gr):Nat:=g.states.length+D7 g.states+g.init.length+2*g.edges.length
theorem C0 {l:List St} {i:Nat} {s:St} (h:l[i]? =some s):(CF l)[i]? =some s.cell:=by simp [CF,h]
theorem CG:∀{l:List (Int×Int)} {i:Nat} {e:Int×Int},l[i]? =some e→((Ft l).drop (i*2)).take 2= [.int .i64 e.1,.int .i64 e.2]
 | [],i,e,h=>by simp at h
 |x::l,0,e,h=>by simp at h;subst h;rfl
 |x::l,i+1,e,h=>by rw[Ft,show (i+1)*2=i*2+1+1 by omega,List.drop_succ_cons,List.drop_succ_cons];exact CG (by simpa using h)
theorem Ev:∀{l:List St} {s:St},s∈l→Ax s.l≤D7 l
 |x::l,s,h=>by
  rw[D7];rcases List.mem_cons.1 h with rfl|h
  ·omega
  ·have:=Ev h;omega
def cmpE (a b:Int×Int):Int:=orI (Cf a.1 b.1) (Cf a.2 b.2)
def stOK (n0:Nat):List (List Nat)→List St→Bool
 |_,[]=>true
 |ks,s::r=>decide (s.l.length=n0)&&s.l.all okV&& !ks.contains (Ic s.l)&&stOK n0 (ks++ [Ic s.l]) r
def DX:Nat→List Int→Bool
 |_,[]=>true
 |i,x::r=>Ar x (.ofNat i)&&DX (i+1) r
def Fx (prev:Option (Int×Int)) (e:Int×Int):Bool:=match prev with
 |none=>true
 |some p=>ltI (cmpE p e) (.ofNat 0)
def Cq (n:Nat) (prev:Option (Int×Int)) (found:Nat) (e:Int×Int):Bool:=
 !ltI e.1 (.ofNat 0)&&ltI e.1 (.ofNat n)&& !ltI e.2 (.ofNat 0)&&ltI e.2 (.ofNat n)&&Fx prev e&&ltI e.1 (.ofNat found)&& !ltI (.ofNat found) e.2
def edOK (n:Nat):Option (Int×Int)→Nat→List (Int×Int)→Option Nat
 |_,found,[]=>some found
 |prev,found,e::r=>if Cq n prev found e=true then edOK n (some e) (if Ar e.2 (.ofNat found)=true then found+1 else found) r else none
def Gr.ok (g:Gr):Bool:=
 !decide (20000<g.states.length)&& !decide (100000<g.edges.length)&& !decide (g.states.length<g.init.length)&&
  stOK (g.states.headD ⟨true,0,[]⟩).l.length [] g.states&&DX 0 g.init&&(edOK g.states.length none g.init.length g.edges==some g.states.length)
inductive Ks:List ME→List (List Nat)→Prop
 |nil:Ks [] []
 |cons (k:List Nat) (b:Nat) (es:List ME) (ks:List (List Nat)) (h:Ks es ks):Ks (.mk (.str k) (.bool true) b::es) (k::ks)
theorem mapGet_ks {es:List ME} {ks:List (List Nat)} (H:Ks es ks) (k:List Nat) (f:V→Bool→Bool):FA .str (.str k) (.bool false) es f=f (.bool (ks.contains k)) (ks.contains k):=by
 induction H with
 |nil=>rfl
 |cons k' b es ks h ih=>
  simp only[FA,Bi];cases e:CD k k'
  ·simp only;rw[ih];have:(k'::ks).contains k=ks.contains k:=by
    have h2:(k==k')=false:=by rw[beq_eq_false_iff_ne];intro e';rw[BV.2 e'] at e;cases e
    rw[List.contains_cons,h2,Bool.false_or]
   rw[this]
  ·obtain rfl:=BV.1 e;simp
theorem mapSet_ks {es:List ME} {ks:List (List Nat)} (H:Ks es ks) {k:List Nat} (hk:ks.contains k=false) (clock:Nat) (f:List ME→Nat→Bool):IB .str (.str k) (.bool true) clock es f=f (es++ [.mk (.str k) (.bool true) clock]) (clock+1):=by
 induction H generalizing f with
 |nil=>rfl
 |cons k' b es ks h ih=>
  rw[List.contains_cons,Bool.or_eq_false_iff] at hk;simp only[IB,Bi];cases e:CD k k'
  ·simp only;rw[ih hk.2];rfl
  ·obtain rfl:=BV.1 e;simp at hk
theorem Ks.snoc {es:List ME} {ks:List (List Nat)} (H:Ks es ks) (k:List Nat) (b:Nat):Ks (es++ [.mk (.str k) (.bool true) b]) (ks++ [k]):=by
 induction H with
 |nil=>exact .cons _ _ _ _ .nil
 |cons k' b es ks h ih=>exact .cons _ _ _ _ ih
section
variable {E:Env} {L n N:Nat} {h:Hp} {kc:KC} {t:T V} {d:Dc} {k:KE} {fi:FI} {c:KV} {C:Av}
theorem get_map {b:K} {es:List ME} {clock:Nat} {ks:List (List Nat)} {k:List Nat} (hb:blk h b=.map es clock) (H:Ks es ks):DC .str (.map b) (.str k) (.bool false) false h c=c (.bool (ks.contains k)) h:=by simp only[DC,hb,mapGet_ks H];rfl
theorem set_map {b:K} {es:List ME} {clock:Nat} {ks:List (List Nat)} {k:List Nat} {f:Hp→Bool} (hb:blk h b=.map es clock) (H:Ks es ks) (hk:ks.contains k=false):E8 .str (.map b) (.str k) (.bool true) h f=f (h.upd b (.map (es++ [.mk (.str k) (.bool true) clock]) (clock+1))):=by simp only[E8,hb,mapSet_ks H hk,AE]
theorem call103 (hE:Fns E) {a b:Int×Int} (hk:∀h1,Ah h h1→kc (.ret (.int .i64 (cmpE a b))) none h1=true):
  call E (L+3) (n+3) (.fn 90) [.agg [.int .i64 a.1,.int .i64 a.2],.agg [.int .i64 b.1,.int .i64 b.2]] none h kc=true:=by
 rw[Af hE.f103,c103,r103,p103_0,p103_1];simp -implicitDefEqProofs (disch:=first|assumption|((try simp only[dB]);first|done|omega)) only[↓sD,sB,↓reduceIte,Nat.reduceEqDiff,reduceCtorEq,Nat.reduceAdd,IY hE];rw[call67 hE (a:=Cf a.1 b.1) (b:=Cf a.2 b.2) (Ag)];refine Be ?_;refine hk _ ?_;exact kO
end
end Go.AJ
namespace Go.AJ
open Go
section
variable {E:Env} {L n N:Nat} {h:Hp} {kc:KC} {t:T V} {d:Dc} {k:KE} {fi:FI} {c:KV} {C:Av}
theorem veq_cell {s:St} {m:Nat}:veq (m+1) s.cell s.cell=true:=BI DJ
theorem GH {s:St}:HW .sl s.cell h c=c (.int .i64 (.ofNat s.l.length)) h:=len_slR
theorem loop61_0 (hE:Fns E) (hL9:L≤9223372036854775800) (hn:181≤n) {b1 bm:K} {g:Gr} {s0:St} (h00:g.states[0]? =some s0) (hbs:D7 g.states≤L) (hbs2:D7 g.states≤20000000) (hlen:g.states.length≤20000) {h0:Hp} (n1:b1.num<(nxt h0).num) (nm:bm.num<(nxt h0).num) (n1m:b1.num≠bm.num) (mb1:blk h0 b1=.cells g.cells):
  ∀(r:List St) (ks:List (List Nat)) (i M:Nat) (t:T V) (h:Hp) (es:List ME) (clock:Nat),g.states.drop i=r→i+r.length=g.states.length→r.length+1≤M→blk h bm=.map es clock→Ks es ks→Ac [bm] h0 h→
  T.get und (K.of 1) t=.ptr b1 0→T.get und (K.of 4) t=.map bm→T.get und (K.of 33) t=slR g.sb g.sc (CF g.states) g.states.length→T.get und (K.of 34) t=.int .i64 (.ofNat g.states.length)→T.get und (K.of 35) t=.int .i64 (.ofNat i)→
  (stOK s0.l.length ks r=true→∀t1 h1,Ac [bm] h0 h1→Kp [1,2,3] t t1→k (.exit 0) t1 d h1=true)→
  (stOK s0.l.length ks r=false→∀t1 h1,Ac [bm] h0 h1→T.get und (K.of 2) t1=.bool false→k .ret t1 d h1=true)→
  iter (exec (call E (L+8) (n+5)) (L+8) fi b61_0) M t d h k=true:=by
 intro r;induction r with
 |nil=>intro ks i M t h es clock hr hi hM hm H K0 g1 g4 g33 g34 g35 hk hf;obtain ⟨M,rfl⟩:=pM M;have hi':(i<g.states.length)=False:=eq_false (by simp at hi;omega);rw[Ab,b61_0];refine Tst (J3 g34 g35 hi') ?_;exact hk rfl _ _ K0 (by simp -implicitDefEqProofs only[Kp,kpB,Nat.reduceEqDiff,↓reduceIte])
 |cons s r ih=>
  intro ks i M t h es clock hr hi hM hm H K0 g1 g4 g33 g34 g35 hk hf;obtain ⟨M,rfl⟩:=pM M;simp only[List.length_cons] at hi hM;have hi':(i<g.states.length)=True:=eT;have hsm:s∈g.states:=List.mem_of_getElem? (Ap hr);have hsb:=Ev hsm;have e1:=fun c h=>AS (c:=c) (h:=h) (C0 (Ap hr));have e2:=fun c h=>AS (c:=c) (h:=h) (C0 h00);have mb:blk h b1=.cells g.cells:=(K0.old b1 n1 (by simp only[List.mem_cons,List.not_mem_nil,or_false];exact fun e=>n1m (by rw[e]))).trans mb1;simp only[Gr.cells] at mb;have n1h:=K0.lt n1;have nmh:=K0.lt nm;simp only[stOK] at hk hf;rw[Ab,b61_0];by_cases hl:s.l.length=s0.l.length
  ·refine Tst (J10 g1 g33 g34 g35 hi' e1 e2 @GH mb hl) ?_;refine call99 hE (L:=L+5) (n:=n) tO tO tO (fun h1 K1=>?_);simp only[hl,decide_true,Bool.true_and] at hk hf;cases hok:s.l.all okV
   ·refine Be ?_;exact hf (by rw[hok,Bool.false_and,Bool.false_and]) _ _ (K0.trans K1.but) (Ag)
   ·simp only[hok,Bool.true_and] at hk hf;refine Be ?_;refine call102 hE hL9 (n:=n+4) tO hok tO tO (fun h2 K2=>?_);have K3:=K1.trans K2;have m2:=(K3.old bm nmh).trans hm;simp -implicitDefEqProofs (disch:=exact tD) only[↓sD,sB,↓reduceIte,Nat.reduceEqDiff,g4,get_map m2 H];cases hc:ks.contains (Ic s.l)
    ·simp only[hc,Bool.not_false,Bool.true_and] at hk hf;simp -implicitDefEqProofs (disch:=exact tD) only[↓sD,sB,↓reduceIte,Nat.reduceEqDiff,set_map m2 H hc,g35];have K4:Ac [bm] h0 (h2.upd bm (.map (es++ [.mk (.str (Ic s.l)) (.bool true) clock]) (clock+1))):=(K0.trans K3.but).put (.inr (by simp)) _;refine ih (ks++ [Ic s.l]) (i+1) M _ _ _ _ (Al hr) tO tO AC (H.snoc _ _) K4 ?_ ?_ ?_ ?_ ?_ (fun hy t1 h1 K5 kp=>hk hy t1 h1 K5 (Kp.trans (by simp -implicitDefEqProofs only[Kp,kpB,Nat.reduceEqDiff,↓reduceIte]) kp)) hf
     ·exact Ssc g1
     ·exact Ssc g4
     ·exact Ssc g33
     ·exact Ssc g34
     ·exact Ag
    ·simp only[hc,Bool.not_true,Bool.false_and] at hk hf;simp -implicitDefEqProofs (disch:=exact tD) only[↓reduceIte];exact hf trivial _ _ (K0.trans K3.but) (Ag)
  ·simp only[hl,decide_false,Bool.false_and] at hf;have hl':(s.l.length=s0.l.length)=False:=eq_false hl;refine Tst (J10 g1 g33 g34 g35 hi' e1 e2 @GH mb hl') ?_;exact hf trivial _ _ K0 (Ag)
theorem loop61_1 {g:Gr} (hlen:g.init.length≤9223372036854775800):
  ∀(r:List Int) (i M:Nat) (t:T V),g.init.drop i=r→i+r.length=g.init.length→r.length+1≤M→
  T.get und (K.of 60) t=slR g.ib g.ic (AL g.init) g.init.length→T.get und (K.of 61) t=.int .i64 (.ofNat g.init.length)→T.get und (K.of 62) t=.int .i64 (.ofNat i)→
  (DX i r=true→∀t1,Kp [1,2,3] t t1→k (.exit 2) t1 d h=true)→
  (DX i r=false→∀t1,T.get und (K.of 2) t1=.bool false→k .ret t1 d h=true)→
  iter (exec C L fi b61_1) M t d h k=true:=by
 intro r;induction r with
 |nil=>intro i M t hr hi hM g33 g34 g35 hk hf;obtain ⟨M,rfl⟩:=pM M;have hi':(i<g.init.length)=False:=eq_false (by simp at hi;omega);rw[Ab,b61_1];refine Tst (J3 g34 g35 hi') ?_;exact hk rfl _ (by simp -implicitDefEqProofs only[Kp,kpB,Nat.reduceEqDiff,↓reduceIte])
 |cons x r ih=>
  intro i M t hr hi hM g33 g34 g35 hk hf;obtain ⟨M,rfl⟩:=pM M;simp only[List.length_cons] at hi hM;have hi':(i<g.init.length)=True:=eT;have hx:g.init.getD i 0=x:=by rw[List.getD_eq_getElem?_getD,Ap hr];rfl
  have e1:=fun c h=>AS (c:=c) (h:=h) (Bc (l:=g.init) (i:=i) tO);simp only[hx] at e1;simp only[DX] at hk hf;rw[Ab,b61_1];cases hc:Ar x (.ofNat i)
  ·simp only[hc,Bool.false_and] at hf;refine Tst (J6 g33 g34 g35 hi' e1 hc) ?_;exact hf trivial _ (Ag)
  ·simp only[hc,Bool.true_and] at hk hf;refine Tst (J6 g33 g34 g35 hi' e1 hc) ?_;refine ih (i+1) M _ (Al hr) tO tO ?_ ?_ ?_ (fun hy t1 kp=>hk hy t1 (Kp.trans (by simp -implicitDefEqProofs only[Kp,kpB,Nat.reduceEqDiff,↓reduceIte]) kp)) hf
   ·exact Ssc g33
   ·exact Ssc g34
   ·exact Ag
end
end Go.AJ
namespace Go.AJ
open Go
set_option maxRecDepth 100000
section
variable {E:Env} {L n N:Nat} {h:Hp} {kc:KC} {t:T V} {d:Dc} {k:KE} {fi:FI} {c:KV} {C:Av}
theorem loop61_2 (hE:Fns E) {b1:K} {g:Gr} {nn:Nat} (_hnn:nn≤20000) (hlen:g.edges.length≤100000) {h0:Hp} (n1:b1.num<(nxt h0).num) (mb1:blk h0 b1=.cells g.cells):
  ∀(r:List (Int×Int)) (prev:Option (Int×Int)) (found i M:Nat) (t:T V) (h:Hp),g.edges.drop i=r→i+r.length=g.edges.length→r.length+1≤M→(∀p,prev=some p→∃j,i=j+1∧g.edges[j]? =some p)→(prev=none→i=0)→found≤20000+i→Ah h0 h→
  T.get und (K.of 1) t=.ptr b1 0→T.get und (K.of 3) t=.int .i64 (.ofNat nn)→T.get und (K.of 10) t=.int .i64 (.ofNat found)→T.get und (K.of 75) t=slR g.eb g.ec (Ft g.edges) g.edges.length→T.get und (K.of 76) t=.int .i64 (.ofNat g.edges.length)→T.get und (K.of 77) t=.int .i64 (.ofNat i)→
  (∀f,edOK nn prev found r=some f→∀t1 h1,Ah h0 h1→T.get und (K.of 3) t1=.int .i64 (.ofNat nn)→T.get und (K.of 10) t1=.int .i64 (.ofNat f)→k (.exit 4) t1 d h1=true)→
  (edOK nn prev found r=none→∀t1 h1,Ah h0 h1→T.get und (K.of 2) t1=.bool false→k .ret t1 d h1=true)→
  iter (exec (call E (L+3) (n+3)) (L+3) fi b61_2) M t d h k=true:=by
 intro r;induction r with
 |nil=>intro prev found i M t h hr hi hM hp hp0 hfo K0 g1 g3 g10 g75 g76 g77 hk hf;obtain ⟨M,rfl⟩:=pM M;have hi':(i<g.edges.length)=False:=eq_false (by simp at hi;omega);rw[Ab,b61_2];refine Tst (J3 g76 g77 hi') ?_;exact hk found rfl _ _ K0 (Ssc g3) (Ssc g10)
 |cons e r ih=>
  intro prev found i M t h hr hi hM hp hp0 hfo K0 g1 g3 g10 g75 g76 g77 hk hf;obtain ⟨M,rfl⟩:=pM M;obtain ⟨a,b⟩:=e;simp only[List.length_cons] at hi hM;have hi':(i<g.edges.length)=True:=eT;have e1:=fun c h=>EL (c:=c) (h:=h) (CG (Ap hr)) rfl;have mb:blk h b1=.cells g.cells:=(K0.old b1 n1).trans mb1;simp only[Gr.cells] at mb;have n1h:=Nat.lt_of_lt_of_le n1 K0.nx;have K1:Ah h (h.upd (nxt h) (.cells [.int .i64 a,.int .i64 b])).bump:=(Ah.refl h).new _;have n1':b1.num≠(nxt h).num:=by omega
  simp only[edOK] at hk hf
  have bad:(!ltI a (.ofNat 0)&&ltI a (.ofNat nn)&& !ltI b (.ofNat 0)&&ltI b (.ofNat nn))=false→iter (exec (call E (L+3) (n+3)) (L+3) fi b61_2) (M+1) t d h k=true:=by
   intro hb;have hout:Cq nn prev found (a,b)=false:=by simp only[Cq,hb,Bool.false_and]
   simp only[hout,Bool.false_eq_true,if_false] at hf;rw[Ab,b61_2];cases c1:ltI a (.ofNat 0)
   ·cases c2:ltI a (.ofNat nn)
    ·simp -implicitDefEqProofs (disch:=exact tD) only[↓sD,sB,↓reduceIte,Nat.reduceEqDiff,g3,g75,g76,g77,hi',decide_true,AR,e1,Cg,Bq,c1,c2];exact hf trivial _ _ (K0.trans K1) (Ag)
    ·cases c3:ltI b (.ofNat 0)
     ·cases c4:ltI b (.ofNat nn)
      ·simp -implicitDefEqProofs (disch:=exact tD) only[↓sD,sB,↓reduceIte,Nat.reduceEqDiff,g3,g75,g76,g77,hi',decide_true,AR,e1,Cg,Bq,c1,c2,c3,c4];exact hf trivial _ _ (K0.trans K1) (Ag)
      ·rw[c1,c2,c3,c4] at hb;cases hb
     ·simp -implicitDefEqProofs (disch:=exact tD) only[↓sD,sB,↓reduceIte,Nat.reduceEqDiff,g3,g75,g76,g77,hi',decide_true,AR,e1,Cg,Bq,c1,c2,c3];exact hf trivial _ _ (K0.trans K1) (Ag)
   ·simp -implicitDefEqProofs (disch:=exact tD) only[↓sD,sB,↓reduceIte,Nat.reduceEqDiff,g75,g76,g77,hi',decide_true,AR,e1,Cg,Bq,c1];exact hf trivial _ _ (K0.trans K1) (Ag)
  cases hb:(!ltI a (.ofNat 0)&&ltI a (.ofNat nn)&& !ltI b (.ofNat 0)&&ltI b (.ofNat nn))
  ·exact bad hb
  simp only[Bool.and_eq_true,Bool.not_eq_true'] at hb;obtain ⟨⟨⟨c1,c2⟩,c3⟩,c4⟩:=hb;rw[Ab,b61_2];cases prev with
  |none=>
   have hi0:(0<i)=False:=eq_false (by have:=hp0 rfl;omega);generalize hprev:(none:Option (Int×Int))=prev at hk hf;have hpv:Fx prev (a,b)=true:=by subst hprev;rfl
   cases c5:ltI a (.ofNat found)
   ·have hout:Cq nn prev found (a,b)=false:=by simp only[Cq,c5,Bool.and_false,Bool.false_and]
    simp only[hout,Bool.false_eq_true,if_false] at hf;simp -implicitDefEqProofs (disch:=exact tD) only[↓sD,sB,↓reduceIte,Nat.reduceEqDiff,g3,g10,g75,g76,g77,hi',decide_true,decide_false,AR,e1,Cg,Bq,c1,c2,c3,c4,hi0,c5];exact hf trivial _ _ (K0.trans K1) (Ag)
   ·cases c6:ltI (.ofNat found) b
    ·have hin:Cq nn prev found (a,b)=true:=by simp only[Cq,c1,c2,c3,c4,c5,c6,hpv,Bool.not_false,Bool.and_self]
     simp only[hin,if_true] at hk hf;cases c7:Ar b (.ofNat found)
     ·simp only[c7,Bool.false_eq_true,if_false] at hk hf;simp -implicitDefEqProofs (disch:=exact tD) only[↓sD,sB,↓reduceIte,Nat.reduceEqDiff,g3,g10,g75,g76,g77,hi',decide_true,decide_false,AR,e1,Cg,Bq,c1,c2,c3,c4,hi0,c5,c6,c7];refine ih (some (a,b)) found (i+1) M _ _ (Al hr) tO tO (fun p e=>⟨i,rfl,by cases e;exact Ap hr⟩) (fun e=>by cases e) tO (K0.trans K1) ?_ ?_ ?_ ?_ ?_ ?_ hk hf
      ·exact Ssc g1
      ·exact Ssc g3
      ·exact Ssc g10
      ·exact Ssc g75
      ·exact Ssc g76
      ·exact Ag
     ·simp only[c7,if_true] at hk hf;have e5:Ai .i64 (.ofNat (found+1))=.ofNat (found+1):=Ad tO;simp -implicitDefEqProofs (disch:=exact tD) only[↓sD,sB,↓reduceIte,Nat.reduceEqDiff,g3,g10,g75,g76,g77,hi',decide_true,decide_false,AR,e1,Cg,Bq,c1,c2,c3,c4,hi0,c5,c6,c7,e5];refine ih (some (a,b)) (found+1) (i+1) M _ _ (Al hr) tO tO (fun p e=>⟨i,rfl,by cases e;exact Ap hr⟩) (fun e=>by cases e) tO (K0.trans K1) ?_ ?_ ?_ ?_ ?_ ?_ hk hf
      ·exact Ssc g1
      ·exact Ssc g3
      ·exact Ag
      ·exact Ssc g75
      ·exact Ssc g76
      ·exact Ag
    ·have hout:Cq nn prev found (a,b)=false:=by simp only[Cq,c6,Bool.not_true,Bool.and_false]
     simp only[hout,Bool.false_eq_true,if_false] at hf;simp -implicitDefEqProofs (disch:=exact tD) only[↓sD,sB,↓reduceIte,Nat.reduceEqDiff,g3,g10,g75,g76,g77,hi',decide_true,decide_false,AR,e1,Cg,Bq,c1,c2,c3,c4,hi0,c5,c6];exact hf trivial _ _ (K0.trans K1) (Ag)
  |some p=>
   obtain ⟨j,rfl,hj⟩:=hp p rfl;have hi0:(0<j+1)=True:=eT;have e2:=fun c h=>EL (c:=c) (h:=h) (CG hj) rfl;have e3:Ai .i64 (Int.sub (.ofNat (j+1)) (.ofNat 1))=.ofNat j:=Bn (i:=j+1) tO;generalize hi9:j+1=i at*;simp -implicitDefEqProofs (disch:=first|assumption|((try simp only[dB]);first|done|omega)) only[↓sD,sB,↓reduceIte,Nat.reduceEqDiff,Nat.reduceAdd,g1,g3,g75,g76,g77,hi',decide_true,AR,e1,e2,e3,Cg,Bq,c1,c2,c3,c4,mb,hi0];refine call103 hE (a:=p) (b:=(a,b)) (fun h2 K2=>?_);have n2:=K2.nx;simp only[nB] at n2;have m2:=K2.old (nxt h) tN;simp -implicitDefEqProofs (disch:=exact tD) only[sB] at m2;have K3:=K1.trans K2;generalize hprev:some p=prev at hk hf;cases c0:ltI (cmpE p (a,b)) (.ofNat 0)
   ·have hout:Cq nn prev found (a,b)=false:=by subst hprev;simp only[Cq,Fx,c0,Bool.and_false,Bool.false_and]
    simp only[hout,Bool.false_eq_true,if_false] at hf;simp -implicitDefEqProofs (disch:=exact tD) only[↓sD,sB,↓reduceIte,Nat.reduceEqDiff,c0];exact hf trivial _ _ (K0.trans K3) (Ag)
   ·have hpv:Fx prev (a,b)=true:=by subst hprev;exact c0
    cases c5:ltI a (.ofNat found)
    ·have hout:Cq nn prev found (a,b)=false:=by simp only[Cq,c5,Bool.and_false,Bool.false_and]
     simp only[hout,Bool.false_eq_true,if_false] at hf;simp -implicitDefEqProofs (disch:=exact tD) only[↓sD,sB,↓reduceIte,Nat.reduceEqDiff,g10,c0,m2,c5];exact hf trivial _ _ (K0.trans K3) (Ag)
    ·cases c6:ltI (.ofNat found) b
     ·have hin:Cq nn prev found (a,b)=true:=by simp only[Cq,c1,c2,c3,c4,c5,c6,hpv,Bool.not_false,Bool.and_self]
      simp only[hin,if_true] at hk hf;cases c7:Ar b (.ofNat found)
      ·simp only[c7,Bool.false_eq_true,if_false] at hk hf;simp -implicitDefEqProofs (disch:=exact tD) only[↓sD,sB,↓reduceIte,Nat.reduceEqDiff,g10,g77,c0,m2,c5,c6,c7];refine ih (some (a,b)) found (i+1) M _ _ (Al hr) tO tO (fun p e=>⟨i,rfl,by cases e;exact Ap hr⟩) (fun e=>by cases e) tO (K0.trans K3) ?_ ?_ ?_ ?_ ?_ ?_ hk hf
       ·exact Ssc g1
       ·exact Ssc g3
       ·exact Ssc g10
       ·exact Ssc g75
       ·exact Ssc g76
       ·exact Ag
      ·simp only[c7,if_true] at hk hf;have e5:Ai .i64 (.ofNat (found+1))=.ofNat (found+1):=Ad tO;simp -implicitDefEqProofs (disch:=exact tD) only[↓sD,sB,↓reduceIte,Nat.reduceEqDiff,g10,g77,c0,m2,c5,c6,c7,e5];refine ih (some (a,b)) (found+1) (i+1) M _ _ (Al hr) tO tO (fun p e=>⟨i,rfl,by cases e;exact Ap hr⟩) (fun e=>by cases e) tO (K0.trans K3) ?_ ?_ ?_ ?_ ?_ ?_ hk hf
       ·exact Ssc g1
       ·exact Ssc g3
       ·exact Ag
       ·exact Ssc g75
       ·exact Ssc g76
       ·exact Ag
     ·have hout:Cq nn prev found (a,b)=false:=by simp only[Cq,c6,Bool.not_true,Bool.and_false]
      simp only[hout,Bool.false_eq_true,if_false] at hf;simp -implicitDefEqProofs (disch:=exact tD) only[↓sD,sB,↓reduceIte,Nat.reduceEqDiff,g10,c0,m2,c5,c6];exact hf trivial _ _ (K0.trans K3) (Ag)
end
end Go.AJ
namespace Go.AJ
open Go
set_option maxRecDepth 100000
section
variable {E:Env} {L n N:Nat} {h:Hp} {kc:KC} {t:T V} {d:Dc} {k:KE} {fi:FI} {c:KV} {C:Av}
theorem Gr.cells_length (g:Gr):g.cells.length=3:=rfl
theorem call61 (hE:Fns E) (hL9:L≤9223372036854775800) (hn:181≤n) {g:Gr} (hb:g.bulk≤L) (hb2:g.bulk≤20000000) (hk:∀h1,Ah h h1→kc (.ret (.bool g.ok)) none h1=true):
  call E (L+8) (n+6) (.fn 46) [.agg g.cells] none h kc=true:=by
 have hbb:g.states.length+D7 g.states+g.init.length+2*g.edges.length≤L:=hb;have hbb2:g.states.length+D7 g.states+g.init.length+2*g.edges.length≤20000000:=hb2;have K1:Ah h ((h.upd (nxt h) (.cells g.cells)).upd (nxt h).succ (.map [] 0)).bump.bump:=kO;have K0:Ah h (h.upd (nxt h) (.cells g.cells)).bump:=kO;rw[Af hE.f61,c61,r61,p61_0,p61_1,p61_2,p61_3];by_cases c1:20000<g.states.length
 ·have e:g.ok=false:=by simp only[Gr.ok,c1,decide_true,Bool.not_true,Bool.false_and]
  rw[e] at hk;simp -implicitDefEqProofs (disch:=exact tD) only[↓sD,sB,↓reduceIte,Nat.reduceEqDiff,Gr.cells,c1,decide_true];exact hk _ K0
 by_cases c2:100000<g.edges.length
 ·have e:g.ok=false:=by simp only[Gr.ok,c2,decide_true,Bool.not_true,Bool.and_false,Bool.false_and]
  rw[e] at hk;simp -implicitDefEqProofs (disch:=exact tD) only[↓sD,sB,↓reduceIte,Nat.reduceEqDiff,Gr.cells,c1,c2,decide_true,decide_false];exact hk _ K0
 by_cases c3:g.states.length<g.init.length
 ·have e:g.ok=false:=by simp only[Gr.ok,c3,decide_true,Bool.not_true,Bool.and_false,Bool.false_and]
  rw[e] at hk;simp -implicitDefEqProofs (disch:=exact tD) only[↓sD,sB,↓reduceIte,Nat.reduceEqDiff,Gr.cells,c1,c2,c3,decide_true,decide_false];exact hk _ K0
 have eok:g.ok=(stOK (g.states.headD ⟨true,0,[]⟩).l.length [] g.states&&DX 0 g.init&&(edOK g.states.length none g.init.length g.edges==some g.states.length)):=by simp only[Gr.ok,c1,c2,c3,decide_false,Bool.not_false,Bool.true_and]
 rw[eok] at hk
 have rest:∀(h1:Hp) (tt:T V),Ah h h1→stOK (g.states.headD ⟨true,0,[]⟩).l.length [] g.states=true→blk h1 (nxt h)=.cells g.cells→(nxt h).num<(nxt h1).num→T.get und (K.of 1) tt=.ptr (nxt h) 0→T.get und (K.of 2) tt=.bool false→T.get und (K.of 3) tt=.int .i64 (.ofNat g.states.length)→
   exec (call E (L+8) (n+5)) (L+8) (.mk 61 none) p61_5 tt (.mk [] none) h1 (CV (Ga (call E (L+8) (n+5)) (L+8) (.mk 61 none) (.seq p61_6 (.seq p61_7 (.seq p61_8 .ret))) (CW (call E (L+8) (n+5)) (L+8) [.t (K.of 2)] kc)) (CW (call E (L+8) (n+5)) (L+8) [.t (K.of 2)] kc))=true:=by
  intro h1 tt K2 hst mb nb g1 g2 g3;rw[hst,Bool.true_and] at hk;have mb':=mb;simp only[Gr.cells] at mb';rw[p61_5,p61_6,p61_7,p61_8];refine Sst (J3 g1 mb' @Ae) ?_;refine loop61_1 (g:=g) tO g.init 0 _ _ rfl tO tO ?_ ?_ ?_ (fun hi t1 kp=>?_) (fun hf t1 q2=>?_)
  ·exact Ag
  ·exact Ag
  ·exact Ag
  ·rw[hi,Bool.true_and] at hk;have q1:=kp 1 (by simp);have q2:=kp 2 (by simp);have q3:=kp 3 (by simp);simp -implicitDefEqProofs (disch:=exact tD) only[sB,↓reduceIte,Nat.reduceEqDiff,g1,g2,g3] at q1 q2 q3;refine Sst (J3 q1 mb' @Ae) ?_;refine loop61_2 hE (L:=L+5) (n:=n+2) (g:=g) (nn:=g.states.length) tO tO (h0:=h1) nb mb g.edges none g.init.length 0 _ _ h1 rfl tO tO (fun p e=>by cases e) (fun _=>rfl) tO (.refl h1) ?_ ?_ ?_ ?_ ?_ ?_ (fun f hf t2 h2 K3 u3 u10=>?_) (fun hf t2 h2 K3 u2=>?_)
   ·exact Ssc q1
   ·exact Ssc q3
   ·exact Ag
   ·exact Ag
   ·exact Ag
   ·exact Ag
   ·rw[hf] at hk;have e9:(some f==some g.states.length)=decide (f=g.states.length):=by
     by_cases e:f=g.states.length
     ·subst e;simp
     ·simp [e]
    rw[e9] at hk;refine Sst (J2 u3 u10) ?_;exact hk h2 (K2.trans K3)
   ·rw[hf] at hk;have e9:((none:Option Nat)==some g.states.length)=false:=rfl;rw[e9] at hk;refine Sst u2 ?_;exact hk h2 (K2.trans K3)
  ·rw[hf,Bool.false_and] at hk;refine Sst q2 ?_;exact hk h1 K2
 by_cases h0:g.states.length=0
 ·have hs:g.states= []:=List.length_eq_zero_iff.1 h0;have hz:(0<g.states.length)=False:=eF;simp -implicitDefEqProofs (disch:=exact tD) only[↓sD,sB,↓reduceIte,Nat.reduceEqDiff,Gr.cells,c1,c2,c3,decide_false];rw[p61_4];simp -implicitDefEqProofs (disch:=exact tD) only[↓sD,sB,↓reduceIte,Nat.reduceEqDiff,Ae,Ab,b61_0,hz,decide_false];refine rest _ _ K1 (by rw[hs];rfl) ?_ tN ?_ ?_ ?_
  ·simp -implicitDefEqProofs (disch:=exact tD) only[sB,Gr.cells]
  ·exact Ag
  ·exact Ag
  ·exact Ag
 ·obtain ⟨s0,sr,hs⟩:∃s0 sr,g.states=s0::sr:=by
   cases hs:g.states with
   |nil=>rw[hs] at h0;exact absurd rfl h0
   |cons s0 sr=>exact ⟨s0,sr,rfl⟩
  have h00:g.states[0]? =some s0:=by rw[hs];rfl
  have hh:g.states.headD ⟨true,0,[]⟩=s0:=by rw[hs];rfl
  rw[hh] at hk rest;simp -implicitDefEqProofs (disch:=exact tD) only[↓sD,sB,↓reduceIte,Nat.reduceEqDiff,Gr.cells,c1,c2,c3,decide_false];rw[p61_4];refine Sst @Ae ?_;refine loop61_0 hE hL9 hn (b1:=nxt h) (bm:=(nxt h).succ) (g:=g) h00 tO tO tO (h0:=((h.upd (nxt h) (.cells g.cells)).upd (nxt h).succ (.map [] 0)).bump.bump) tN tN tN (Ag) g.states [] 0 _ _ _ [] 0 rfl tO tO (Ag) .nil (.refl _ _) ?_ ?_ ?_ ?_ ?_ (fun hy t1 h1 K2 kp=>?_) (fun hf t1 h1 K2 q2=>?_)
  ·exact Ag
  ·exact Ag
  ·exact Ag
  ·exact Ag
  ·exact Ag
  ·have q1:=kp 1 (by simp);have q2:=kp 2 (by simp);have q3:=kp 3 (by simp);simp -implicitDefEqProofs (disch:=exact tD) only[sB,↓reduceIte,Nat.reduceEqDiff] at q1 q2 q3;have n2:=K2.nx;simp only[nB] at n2;have mb:=K2.old (nxt h) tN (by simp only[List.mem_cons,List.not_mem_nil,or_false];exact K.self_ne_succ _|>.mp);simp -implicitDefEqProofs (disch:=exact tD) only[sB] at mb;have K3:Ah h h1:=⟨by ((try simp only[nB]);omega),fun c hc=>by rw[K2.old c tN (by simp only[List.mem_cons,List.not_mem_nil,or_false];exact fun e=>by subst e;rw[K.num_succ] at hc;omega),K1.old c hc]⟩
   refine Be ?_;exact rest h1 t1 K3 hy mb tO q1 q2 q3
  ·rw[hf,Bool.false_and,Bool.false_and] at hk;have n2:=K2.nx;simp only[nB] at n2;have K3:Ah h h1:=⟨by ((try simp only[nB]);omega),fun c hc=>by rw[K2.old c tN (by simp only[List.mem_cons,List.not_mem_nil,or_false];exact fun e=>by subst e;rw[K.num_succ] at hc;omega),K1.old c hc]⟩
   refine Sst q2 ?_;exact hk h1 K3
end
end Go.AJ
namespace Go.AJ
open Go
set_option maxRecDepth 100000
theorem edge1_nat {n found:Nat} {prev:Option (Int×Int)} {e:Int×Int} (h:Cq n prev found e=true):∃a b:Nat,e=(.ofNat a,.ofNat b)∧a<n∧b<n∧a<found∧b≤found∧Fx prev e=true:=by simp only[Cq,Bool.and_eq_true,Bool.not_eq_true',Ck,decide_eq_true_eq,decide_eq_false_iff_not,Int.ofNat_eq_natCast] at h;obtain ⟨⟨⟨⟨⟨⟨h1,h2⟩,h3⟩,h4⟩,h5⟩,h6⟩,h7⟩:=h;obtain ⟨a,b⟩:=e;simp only at*;obtain ⟨a,rfl⟩:=Int.eq_ofNat_of_zero_le (show 0≤a by omega);obtain ⟨b,rfl⟩:=Int.eq_ofNat_of_zero_le (show 0≤b by omega);exact ⟨a,b,rfl,by omega,by omega,by omega,by omega,h5⟩
section
variable {E:Env} {L n N:Nat} {h:Hp} {kc:KC} {t:T V} {d:Dc} {k:KE} {fi:FI} {c:KV} {C:Av}
theorem Gr.ok_parts {g:Gr} (hok:g.ok=true):g.states.length≤20000∧g.edges.length≤100000∧g.init.length≤g.states.length∧stOK (g.states.headD ⟨true,0,[]⟩).l.length [] g.states=true∧DX 0 g.init=true∧edOK g.states.length none g.init.length g.edges=some g.states.length:=by simp only[Gr.ok,Bool.and_eq_true,Bool.not_eq_true',decide_eq_false_iff_not,beq_iff_eq] at hok;obtain ⟨⟨⟨⟨⟨h1,h2⟩,h3⟩,h4⟩,h5⟩,h6⟩:=hok;exact ⟨by omega,by omega,by omega,h4,h5,h6⟩
end
end Go.AJ
