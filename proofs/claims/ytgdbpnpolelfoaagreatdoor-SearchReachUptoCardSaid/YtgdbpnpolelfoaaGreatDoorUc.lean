/- The walk of the law. -/
import Derived.Test.YtgdbpnpolelfoaaGreatDoorUb
set_option linter.all false
namespace Go.AJ
open Go
set_option maxRecDepth 100000
section
variable {E:Env} {L n:Nat} {h:Hp} {kc:KC} {t:T V} {d:Dc} {k:KE} {fi:FI} {c:KV} {C:Av}
theorem loop1065 {b:Bool} {cp:Nat} {s:List Int} {y:Int} (hs:s.length≤1000000000):∀(r:List Int) (i M:Nat) (t:T V),s.drop i=r→i+r.length=s.length→r.length+1≤M→T.get und (K.of 0) t=slR b cp (AL s) s.length→T.get und (K.of 1) t=.int .i64 y→T.get und (K.of 7) t=.int .i64 (.ofNat s.length)→T.get und (K.of 8) t=.int .i64 (.ofNat i)→
  (r.any (Ar y)=false→∀t1,k (.exit 0) t1 d h=true)→(r.any (Ar y)=true→∀t1 j,T.get und (K.of 4) t1=.int .i64 (.ofNat j)→k .ret t1 d h=true)→
  iter (exec C L fi KT) M t d h k=true:=by
 intro r;induction r with
 |nil=>intro i M t hr hi hM g0 g1 g5 g6 hk hb;obtain ⟨M,rfl⟩:=pM M;have hi':(i<s.length)=False:=eq_false (by simp at hi;omega);rw[Ab,KT];refine Tst (J3 g5 g6 hi') ?_;exact hk rfl _
 |cons x r ih=>
  intro i M t hr hi hM g0 g1 g5 g6 hk hb;obtain ⟨M,rfl⟩:=pM M;simp only[List.length_cons] at hi hM;have hi':(i<s.length)=True:=eT;have hx:s.getD i 0=x:=by rw[List.getD_eq_getElem?_getD,Ap hr];rfl
  have e1:=fun c h=>AS (c:=c) (h:=h) (Bc (l:=s) (i:=i) tO);simp only[hx] at e1;have w1:Ai .i64 (Int.add (.ofNat i) (.ofNat 1))=.ofNat (i+1):=Ad tO;simp only[List.any_cons] at hk hb;rw[Ab,KT];cases h1:Ar y x
  ·refine Tst (J8 g0 g1 g5 g6 hi' e1 h1 w1) ?_;rw[h1,Bool.false_or] at hk hb;refine ih (i+1) _ _ (Al hr) tO tO ?_ ?_ ?_ ?_ hk hb
   ·exact Ssc g0
   ·exact Ssc g1
   ·exact Ssc g5
   ·exact Ag
  ·refine Tst (J8 g0 g1 g5 g6 hi' e1 h1 w1) ?_;refine hb (by rw[h1];rfl) _ i (Ag)
theorem call1027 (hG:Sns E) {b:Bool} {cp:Nat} {s:List Int} {y:Int} (hs:s.length≤1000000000) (hL:s.length≤L) (hk:kc (.ret (.bool (s.any (Ar y)))) none h=true):
  call E (L+1) (n+2) (.fn 27) [slR b cp (AL s) s.length,.int .i64 y] none h kc=true:=by
 rw[Af hG.f1027,c1027,r1027,p1027_0,p1027_1];refine Be ?_;rw[Af hG.f1065,c1065,r1065,p1065_0,p1065_1,p1065_2];refine Sst @Ae ?_;refine loop1065 (y:=y) hs (b:=b) (cp:=cp) s 0 _ _ rfl tO tO ?_ ?_ ?_ ?_ (fun hn t1=>?_) (fun hy t1 j g4=>?_)
 ·exact Ag
 ·exact Ag
 ·exact Ag
 ·exact Ag
 ·rw[hn] at hk;refine Sst @Bw ?_;exact hk
 ·rw[hy] at hk;refine Tst (J2 g4 @Nat.not_lt_zero) ?_;exact hk
theorem chk_eqv {neg:Bool} {q:EK} {x y:X} {v:V}:Bd (.eqv neg q x y) t h v=oEq neg q (ev t x) (ev t y) h (isV v):=rfl
theorem loop1028 {b1 b2:K} {bs:List Bool} {nn:Nat} (hnn:bs.length=nn) (hl:nn≤1000000) (m1:blk h b1=.cells (bls bs)) (m2:blk h b2=.cells (bls bs)):∀(w i M:Nat) (t:T V),i+w=nn→w+1≤M→T.get und (K.of 0) t=.sl b1 0 nn nn 0→T.get und (K.of 1) t=.sl b2 0 nn nn 0→T.get und (K.of 12) t=.int .i64 (.ofNat nn)→T.get und (K.of 13) t=.int .i64 (.ofNat i)→
  (∀t1,k (.exit 0) t1 d h=true)→iter (exec C L fi KW) M t d h k=true:=by
 intro w;induction w with
 |zero=>intro i M t hw hM g0 g1 g12 g13 hk;obtain ⟨M,rfl⟩:=pM M;have hi':(i<nn)=False:=eF;rw[Ab,KW];refine Tst (J4 g0 g12 g13 hi') ?_;exact hk _
 |succ w ih=>intro i M t hw hM g0 g1 g12 g13 hk;obtain ⟨M,rfl⟩:=pM M;have hi':(i<nn)=True:=eT;have e1:=fun (h:Hp) (c:KV)=>En (l:=bs) (h:=h) (c:=c) (i:=i) tO;have w1:Ai .i64 (Int.add (.ofNat i) (.ofNat 1))=.ofNat (i+1):=Ad tO;rw[Ab,KW];refine Tst (J14 g0 g1 g12 g13 hi' e1 (show (true !=true)=false from rfl) w1 m1 m2 @AD @Nat.mul_one @Nat.zero_add @chk_eqv) ?_;refine ih (i+1) M _ tO tO (Ssc g0) (Ssc g1) (Ssc g12) (Ag) hk
theorem call1028 (hG:Sns E) {b1 b2:K} {bs:List Bool} {nn:Nat} (hnn:bs.length=nn) (hl:nn≤1000000) (hL:nn≤L) (m1:blk h b1=.cells (bls bs)) (m2:blk h b2=.cells (bls bs)) (hk:kc (.ret (.bool true)) none h=true):
  call E (L+1) (n+1) (.fn 28) [.sl b1 0 nn nn 0,.sl b2 0 nn nn 0] none h kc=true:=by
 rw[Af hG.f1028,c1028,r1028,p1028_0,p1028_1,p1028_2,p1028_3];refine Sst (J2 @Bp @Ae) ?_;refine loop1028 hnn hl m1 m2 nn 0 _ _ (Nat.zero_add _) tO (Ag) (Ag) (Ag) (Ag) (fun t1=>?_);refine Be ?_;exact hk
theorem loop1004_0 {bi:K} {nn:Nat} (hnn:nn≤1000000) {h0:Hp} (nbi:bi.num<(nxt h0).num) {o:List K} {v:V} {l:List Nat} (S:Slz h0 o v l) (hob:bi∉o) (hl:l.length≤1000000) (hlt:∀x∈l,x<nn) (hs:∀p q,p<q→q<l.length→l.getD p 0<l.getD q 0):
  ∀(r:List Nat) (i M:Nat) (t:T V) (h:Hp) (bs:List Bool),l.drop i=r→i+r.length=l.length→r.length+1≤M→bs.length=nn→Ac [bi] h0 h→blk h bi=.cells (bls bs)→
  T.get und (K.of 7) t=v→T.get und (K.of 10) t=.sl bi 0 nn nn 0→T.get und (K.of 64) t=v→T.get und (K.of 65) t=.int .i64 (.ofNat l.length)→T.get und (K.of 66) t=.int .i64 (.ofNat i)→
  (∀t1 h1,Ac [bi] h0 h1→blk h1 bi=.cells (bls (Ee (r.map Int.ofNat) bs))→Kp [1,2,3,10] t t1→k (.exit 0) t1 d h1=true)→
  iter (exec C L fi HQ) M t d h k=true:=by
 intro r;induction r with
 |nil=>intro i M t h bs hr hi hM hbl K0 mi g7 g10 g64 g65 g66 hk;obtain ⟨M,rfl⟩:=pM M;have hi':(i<l.length)=False:=eq_false (by simp at hi;omega);rw[Ab,HQ];refine Tst (J3 g65 g66 hi') ?_;refine hk _ _ K0 mi ?_;simp -implicitDefEqProofs only[Kp,kpB,Nat.reduceEqDiff,reduceCtorEq,↓reduceIte]
 |cons a r ih=>
  intro i M t h bs hr hi hM hbl K0 mi g7 g10 g64 g65 g66 hk;obtain ⟨M,rfl⟩:=pM M;simp only[List.length_cons] at hi hM;have hi2:i<l.length:=tO;have hi':(i<l.length)=True:=eq_true hi2;have hx:l.getD i 0=a:=by rw[List.getD_eq_getElem?_getD,Ap hr];rfl
  have ha:a<nn:=hlt a (List.mem_of_getElem? (Ap hr));obtain ⟨b,rfl,i1,i2⟩:=JC S hi2;rw[hx] at i2;have hbb:b≠bi:=fun q=>hob (List.mem_singleton.2 q.symm);have hbk:∀X,blk (h.upd bi X) b=blk h0 b:=fun X=>by rw[Ak,if_neg hbb];exact K0.old b (S.lt b (List.mem_singleton.2 rfl)) (by simp [hbb])
  have hbk0:blk h b=blk h0 b:=K0.old b (S.lt b (List.mem_singleton.2 rfl)) (by simp [hbb]);have i3:=fun c=>i2 h c hbk0;have l1:(a<nn)=True:=eq_true ha;have w1:Ai .i64 (Int.add (.ofNat i) (.ofNat 1))=.ofNat (i+1):=Ad tO;have e7:∀(h:Hp) (f:Hp→Bool),stB (.cells (bls bs)) bi a [.bool true] h f=f (h.upd bi (.cells (bls (bs.set a true)))):=fun h f=>by rw[Cs (by rw[Ds];omega),HG]
  have next:∀(t1:T V),T.get und (K.of 7) t1=v→T.get und (K.of 10) t1=.sl bi 0 nn nn 0→T.get und (K.of 64) t1=v→T.get und (K.of 65) t1=.int .i64 (.ofNat l.length)→T.get und (K.of 66) t1=.int .i64 (.ofNat (i+1))→Kp [1,2,3,10] t t1→
    iter (exec C L fi HQ) M t1 d (h.upd bi (.cells (bls (bs.set a true)))) k=true:=fun t1 x1 x2 x3 x4 x5 x6=>
   ih (i+1) M t1 _ (bs.set a true) (Al hr) tO tO (by rw[List.length_set];exact hbl) (K0.put (.inr (List.mem_singleton.2 rfl)) _) AC x1 x2 x3 x4 x5 (fun t2 h2 z1 z2 kp=>hk t2 h2 z1 z2 (x6.trans kp))
  rw[Ab,HQ];by_cases h0i:0<i
  ·have c0:(0<i)=True:=eq_true h0i;obtain ⟨b',eb,j1,j2⟩:=JC S (i:=i-1) tO;have hpos:l.getD (i-1) 0<a:=by have:=hs (i-1) i tO hi2;rw[hx] at this;exact this
   obtain rfl:b=b':=by simpa using eb
   have j3:=fun c=>j2 h c hbk0;generalize l.getD (i-1) 0=a0 at j3 hpos;have c1:(a0<a)=True:=eq_true hpos;have w0:Ai .i64 (Int.sub (.ofNat i) (.ofNat 1))=.ofNat (i-1):=by rw[Ao tO,Ad tO]
   refine Tst (J14 g7 g10 g64 g65 g66 hi' i1 i3 l1 c0 j1 j3 c1 (J9 w0 w1 e7 mi @AD @Nat.mul_one @Nat.zero_add @Nat.not_lt_zero ha)) ?_;refine next _ (Ssc g7) (Ssc g10) (Ssc g64) (Ssc g65) (Ag) ?_;simp -implicitDefEqProofs only[Kp,kpB,Nat.reduceEqDiff,reduceCtorEq,↓reduceIte]
  ·have c0:(0<i)=False:=eq_false h0i;refine Tst (J14 g7 g10 g64 g65 g66 hi' i1 i3 l1 c0 w1 e7 mi (J5 @AD @Nat.mul_one @Nat.zero_add @Nat.not_lt_zero ha)) ?_;refine next _ (Ssc g7) (Ssc g10) (Ssc g64) (Ssc g65) (Ag) ?_;simp -implicitDefEqProofs only[Kp,kpB,Nat.reduceEqDiff,reduceCtorEq,↓reduceIte]
theorem loop1004_1 {bi bw:K} (hne:bw≠bi) {nn:Nat} {b:Bool} {cp:Nat} {f:List Int} (hf:f.length≤1000000000) (hb:f.any (H0 nn)=false) {bsi:List Bool} (hli:bsi.length=nn) (hin:∀a:Nat,Int.ofNat a∈f→bsi.getD a false=true) {h0:Hp} (nbi:bi.num<(nxt h0).num) (mi:blk h0 bi=.cells (bls bsi)):
  ∀(r:List Int) (i M:Nat) (t:T V) (h:Hp) (st:List Bool),f.drop i=r→i+r.length=f.length→r.length+1≤M→st.length=nn→Ac [bw] h0 h→blk h bw=.cells (bls st)→
  T.get und (K.of 10) t=.sl bi 0 nn nn 0→T.get und (K.of 13) t=.sl bw 0 nn nn 0→T.get und (K.of 100) t=slR b cp (AL f) f.length→T.get und (K.of 101) t=.int .i64 (.ofNat f.length)→T.get und (K.of 102) t=.int .i64 (.ofNat i)→
  (∀t1 h1,Ac [bw] h0 h1→blk h1 bw=.cells (bls (Ee r st))→Kp [2,3,10,13] t t1→k (.exit 2) t1 d h1=true)→
  iter (exec C L fi Ld) M t d h k=true:=by
 intro r;induction r with
 |nil=>intro i M t h st hr hi hM hl K0 ms g10 g13 g43 g44 g45 hk;obtain ⟨M,rfl⟩:=pM M;have hi':(i<f.length)=False:=eq_false (by simp at hi;omega);rw[Ab,Ld];refine Tst (J3 g44 g45 hi') ?_;refine hk _ _ K0 ms ?_;simp -implicitDefEqProofs only[Kp,kpB,Nat.reduceEqDiff,reduceCtorEq,↓reduceIte]
 |cons x r ih=>
  intro i M t h st hr hi hM hl K0 ms g10 g13 g43 g44 g45 hk;obtain ⟨M,rfl⟩:=pM M;simp only[List.length_cons] at hi hM;have hi':(i<f.length)=True:=eT;have hx:f.getD i 0=x:=by rw[List.getD_eq_getElem?_getD,Ap hr];rfl
  have e1:=fun c h=>AS (c:=c) (h:=h) (Bc (l:=f) (i:=i) tO);simp only[hx] at e1;obtain ⟨a,rfl,ha⟩:=HS hb x (List.mem_of_getElem? (Ap hr));have hia:=hin a (List.mem_of_getElem? (Ap hr));have l1:(a<nn)=True:=eq_true ha;have mi1:blk h bi=.cells (bls bsi):=(K0.old bi nbi (by simp [Ne.symm hne])).trans mi;have e3:=fun (h:Hp) (c:KV)=>En (l:=bsi) (h:=h) (c:=c) (i:=a) tO;have w1:Ai .i64 (Int.add (.ofNat i) (.ofNat 1))=.ofNat (i+1):=Ad tO;have e7:∀(h:Hp) (f:Hp→Bool),stB (.cells (bls st)) bw a [.bool true] h f=f (h.upd bw (.cells (bls (st.set a true)))):=fun h f=>by rw[Cs (by rw[Ds];omega),HG]
  rw[Ab,Ld];refine Tst (J14 g10 g13 g43 g44 g45 hi' e1 w1 e7 ms mi1 e3 hia (J6 l1 @AD @Nat.mul_one @Nat.zero_add @Nat.not_lt_zero ha)) ?_;refine ih (i+1) M _ _ (st.set a true) (Al hr) tO tO (by rw[List.length_set];exact hl) (K0.put (.inr (List.mem_singleton.2 rfl)) _) AC (Ssc g10) (Ssc g13) (Ssc g43) (Ssc g44) (Ag) (fun t2 h2 z1 z2 kp=>hk t2 h2 z1 z2 (Kp.trans ?_ kp));simp -implicitDefEqProofs only[Kp,kpB,Nat.reduceEqDiff,reduceCtorEq,↓reduceIte]
theorem loop1004_2 (hG:Sns E) {bi bw:K} (hne:bw≠bi) {g:Gr} {nn:Nat} (hnn:nn≤1000000) (hlen:g.edges.length≤100000) (hed:∀e∈g.edges,∃a b:Nat,e=(.ofNat a,.ofNat b)∧a<nn∧b<nn) {sb:Bool} {sc:Nat} {s:List Int} (hs:s.length≤400) (hL:400≤L)
  {bsi:List Bool} (hli:bsi.length=nn) (hcl:ClB (fun x=>s.any (Ar x)) g.edges bsi) {h0:Hp} (nbi:bi.num<(nxt h0).num) (nbw:bw.num<(nxt h0).num) (mi:blk h0 bi=.cells (bls bsi)):
  ∀(r:List (Int×Int)) (i M:Nat) (t:T V) (h:Hp) (ys:List Bool),g.edges.drop i=r→i+r.length=g.edges.length→r.length+1≤M→ys.length=nn→Ac [bw] h0 h→blk h bw=.cells (bls ys)→
  T.get und (K.of 2) t=slR sb sc (AL s) s.length→T.get und (K.of 10) t=.sl bi 0 nn nn 0→T.get und (K.of 13) t=.sl bw 0 nn nn 0→T.get und (K.of 131) t=slR g.eb g.ec (Ft g.edges) g.edges.length→T.get und (K.of 132) t=.int .i64 (.ofNat g.edges.length)→T.get und (K.of 133) t=.int .i64 (.ofNat i)→
  (∀t1 h1,Ac [bw] h0 h1→blk h1 bw=.cells (bls (rd (fun x=>s.any (Ar x)) r ys))→Kp [2,3,10,13,127,128] t t1→k (.exit 6) t1 d h1=true)→
  iter (exec (call E (L+1) (n+2)) (L+1) fi HP) M t d h k=true:=by
 intro r;induction r with
 |nil=>intro i M t h ys hr hi hM hy K0 mw g2 g10 g13 g131 g132 g133 hk;obtain ⟨M,rfl⟩:=pM M;have hi':(i<g.edges.length)=False:=eq_false (by simp at hi;omega);rw[Ab,HP];refine Tst (J3 g132 g133 hi') ?_;refine hk _ _ K0 mw ?_;simp -implicitDefEqProofs only[Kp,kpB,Nat.reduceEqDiff,reduceCtorEq,↓reduceIte]
 |cons e r ih=>
  intro i M t h ys hr hi hM hy K0 mw g2 g10 g13 g131 g132 g133 hk;obtain ⟨M,rfl⟩:=pM M;simp only[List.length_cons] at hi hM;have hi':(i<g.edges.length)=True:=eT;have e1:=fun c h=>EL (c:=c) (h:=h) (CG (Ap hr)) rfl;have hem:=List.mem_of_getElem? (Ap hr);obtain ⟨a,b,rfl,ha,hb⟩:=hed e hem;simp only at e1;have hcle:=hcl _ hem;simp only[show (Int.ofNat a).toNat=a from rfl,show (Int.ofNat b).toNat=b from rfl] at hcle;have nx0:=K0.nx;have nw:bw.num<(nxt h).num:=K0.lt nbw;have ni:bi.num<(nxt h).num:=K0.lt nbi;have w1:Ai .i64 (Int.add (.ofNat i) (.ofNat 1))=.ofNat (i+1):=Ad tO;have e3:∀(h:Hp) (c:KV),ldB (.cells [.int .i64 (.ofNat a),.int .i64 (.ofNat b)]) 0 h c=c (.int .i64 (.ofNat a)) h:=fun h c=>Cl rfl;have e4:∀(h:Hp) (c:KV),ldB (.cells [.int .i64 (.ofNat a),.int .i64 (.ofNat b)]) 1 h c=c (.int .i64 (.ofNat b)) h:=fun h c=>Cl rfl;have mi0:blk h bi=.cells (bls bsi):=(K0.old bi nbi (by simp [Ne.symm hne])).trans mi;have k4:Ah h (h.upd (nxt h) (.cells [.int .i64 (.ofNat a),.int .i64 (.ofNat b)])).bump:=(Ah.refl h).new _;have me:blk (h.upd (nxt h) (.cells [.int .i64 (.ofNat a),.int .i64 (.ofNat b)])).bump (nxt h)=.cells [.int .i64 (.ofNat a),.int .i64 (.ofNat b)]:=by rw[Am,AC]
  have nH:(nxt (h.upd (nxt h) (.cells [.int .i64 (.ofNat a),.int .i64 (.ofNat b)])).bump).num=(nxt h).num+1:=by rw[Au,An,K.num_succ]
  have hwb:bw≠nxt h:=fun q=>by rw[q] at nw;omega
  rw[Ab,HP];refine Tst (J12 g2 g10 g13 g131 g132 g133 hi' e1 @Cg @Bq e3 e4) ?_;generalize (h.upd (nxt h) (.cells [.int .i64 (.ofNat a),.int .i64 (.ofNat b)])).bump=H at k4 me nH;have mwH:=(k4.old bw nw).trans mw;have miH:=(k4.old bi ni).trans mi0;have K4:Ac [bw] h0 H:=K0.trans k4.but;refine call1027 hG (n:=n) (L:=L) tO tO ?_;rw[show rd (fun x=>s.any (Ar x)) ((Int.ofNat a,Int.ofNat b)::r) ys=rd (fun x=>s.any (Ar x)) r (rdS (fun x=>s.any (Ar x)) ys (.ofNat a,.ofNat b)) from rfl] at hk;cases hst:s.any (Ar (.ofNat a)) with
  |true=>have er:rdS (fun x=>s.any (Ar x)) ys (.ofNat a,.ofNat b)=ys:=if_pos hst;rw[er] at hk;refine Tst (J7 g2 g10 g13 g131 g132 g133 w1) ?_;refine ih (i+1) M _ H ys (Al hr) tO tO hy K4 mwH (Ssc g2) (Ssc g10) (Ssc g13) (Ssc g131) (Ssc g132) (Ag) (fun t2 h2 z1 z2 kp=>hk t2 h2 z1 z2 (Kp.trans ?_ kp));simp -implicitDefEqProofs only[Kp,kpB,Nat.reduceEqDiff,reduceCtorEq,↓reduceIte]
  |false=>
   have er:rdS (fun x=>s.any (Ar x)) ys (.ofNat a,.ofNat b)=ys.set b (ys.getD b false||ys.getD a false):=if_neg (by simp only[hst];simp);rw[er] at hk;have hcle:=hcle hst;have f1:=fun (h:Hp) (c:KV)=>En (l:=bsi) (h:=h) (c:=c) (i:=a) tO;have f2:=fun (h:Hp) (c:KV)=>En (l:=bsi) (h:=h) (c:=c) (i:=b) tO;have f3:=fun (h:Hp) (c:KV)=>En (l:=ys) (h:=h) (c:=c) (i:=a) tO;have f4:=fun (h:Hp) (c:KV)=>En (l:=ys) (h:=h) (c:=c) (i:=b) tO;have f5:∀(v:Bool) (h:Hp) (f:Hp→Bool),stB (.cells (bls ys)) bw b [.bool v] h f=f (h.upd bw (.cells (bls (ys.set b v)))):=fun v h f=>by rw[Cs (by rw[Ds];omega),HG]
   have next:∀(t1:T V) (v:Bool),v=(ys.getD b false||ys.getD a false)→T.get und (K.of 2) t1=slR sb sc (AL s) s.length→T.get und (K.of 10) t1=.sl bi 0 nn nn 0→T.get und (K.of 13) t1=.sl bw 0 nn nn 0→T.get und (K.of 131) t1=slR g.eb g.ec (Ft g.edges) g.edges.length→T.get und (K.of 132) t1=.int .i64 (.ofNat g.edges.length)→T.get und (K.of 133) t1=.int .i64 (.ofNat (i+1))→Kp [2,3,10,13,127,128] t t1→
     iter (exec (call E (L+1) (n+2)) (L+1) fi HP) M t1 d (H.upd bw (.cells (bls (ys.set b v)))) k=true:=fun t1 v hv x1 x2 x3 x4 x5 x6 x7=>by
    subst hv;exact ih (i+1) M t1 _ _ (Al hr) tO tO (by rw[List.length_set];exact hy) (K4.put (.inr (List.mem_singleton.2 rfl)) _) AC x1 x2 x3 x4 x5 x6 (fun t2 h2 z1 z2 kp=>hk t2 h2 z1 z2 (x7.trans kp))
   cases q1:bsi.getD a false<;>cases q2:ys.getD b false<;>cases q3:ys.getD a false
   all_goals (
    try have q4:=hcle q1
    first
    |refine Tst (J14 g2 g10 g13 g131 g132 g133 w1 me mwH miH f1 f2 f3 (J14 f4 f5 q1 q2 q3 q4 ha hb @AD @Nat.mul_one @Nat.zero_add e3 e4 ha)) ?_
    |refine Tst (J14 g2 g10 g13 g131 g132 g133 w1 me mwH miH f1 f2 f3 (J13 f4 f5 q1 q2 q3 ha hb @AD @Nat.mul_one @Nat.zero_add e3 e4 ha)) ?_
    refine next _ _ (by rw[q2,q3];rfl) (Ssc g2) (Ssc g10) (Ssc g13) (Ssc g131) (Ssc g132) (Ag) ?_;simp -implicitDefEqProofs only[Kp,kpB,Nat.reduceEqDiff,reduceCtorEq,↓reduceIte])
theorem loop1004_3 (hG:Sns E) {bg bi bw:K} (hne:bw≠bi) (hgw:bg≠bw) {g:Gr} {nn:Nat} (hnn:nn≤1000000) (hlen:g.edges.length≤100000) (hed:∀e∈g.edges,∃a b:Nat,e=(.ofNat a,.ofNat b)∧a<nn∧b<nn) {sb:Bool} {sc:Nat} {s:List Int} (hs:s.length≤400) (hL:100001≤L)
  {bsi:List Bool} (hli:bsi.length=nn) (hcl:ClB (fun x=>s.any (Ar x)) g.edges bsi) {h0:Hp} (nbg:bg.num<(nxt h0).num) (nbi:bi.num<(nxt h0).num) (nbw:bw.num<(nxt h0).num) (mg:blk h0 bg=.cells g.cells) (mi:blk h0 bi=.cells (bls bsi)):
  ∀(w i M:Nat) (t:T V) (h:Hp) (ys:List Bool),i+w=nn→w+1≤M→ys.length=nn→Ac [bw] h0 h→blk h bw=.cells (bls ys)→
  T.get und (K.of 2) t=slR sb sc (AL s) s.length→T.get und (K.of 3) t=.ptr bg 0→T.get und (K.of 10) t=.sl bi 0 nn nn 0→T.get und (K.of 13) t=.sl bw 0 nn nn 0→T.get und (K.of 127) t=.int .i64 (.ofNat nn)→T.get und (K.of 128) t=.int .i64 (.ofNat i)→
  (∀t1 h1,Ac [bw] h0 h1→blk h1 bw=.cells (bls (rds (fun x=>s.any (Ar x)) g.edges w ys))→Kp [10,13] t t1→k (.exit 4) t1 d h1=true)→
  iter (exec (call E (L+1) (n+2)) (L+1) fi Lc) M t d h k=true:=by
 intro w;induction w with
 |zero=>intro i M t h ys hw hM hy K0 mw g2 g3 g10 g13 g127 g128 hk;obtain ⟨M,rfl⟩:=pM M;have hi':(i<nn)=False:=eF;rw[Ab,Lc];refine Tst (J3 g127 g128 hi') ?_;refine hk _ _ K0 mw ?_;simp -implicitDefEqProofs only[Kp,kpB,Nat.reduceEqDiff,reduceCtorEq,↓reduceIte]
 |succ w ih=>
  intro i M t h ys hw hM hy K0 mw g2 g3 g10 g13 g127 g128 hk;obtain ⟨M,rfl⟩:=pM M;have hi':(i<nn)=True:=eT;have mg1:blk h bg=.cells g.cells:=(K0.old bg nbg (by simp [hgw])).trans mg;simp only[Gr.cells] at mg1;have w1:Ai .i64 (Int.add (.ofNat i) (.ofNat 1))=.ofNat (i+1):=Ad tO;rw[Ab,Lc];refine Tst (J9 g2 g3 g10 g13 g127 g128 hi' mg1 @Ae) ?_;refine loop1004_2 hG (g:=g) (nn:=nn) (s:=s) (sb:=sb) (sc:=sc) hne hnn hlen hed hs tO hli hcl nbi nbw mi g.edges 0 _ _ h ys rfl (Nat.zero_add _) tO hy K0 mw (Ssc g2) (Ssc g10) (Ssc g13) (Ag) (Ag) (Ag) (fun t1 h1 K1 mw1 kp=>?_);have q2:=kp 2 (by simp);have q3:=kp 3 (by simp);have q10:=kp 10 (by simp);have q13:=kp 13 (by simp);have q127:=kp 127 (by simp);have q128:=kp 128 (by simp);simp -implicitDefEqProofs (disch:=exact tD) only[↓sD,sB,↓reduceIte,Nat.reduceEqDiff,reduceCtorEq,Nat.reduceLT,Nat.reduceMul,Nat.reduceAdd,g2,g3,g10,g13,g127,g128] at q2 q3 q10 q13 q127 q128;refine Tst (J2 q128 w1) ?_;refine ih (i+1) M _ h1 _ tO tO (rd_length.trans hy) K1 mw1 (Ssc q2) (Ssc q3) (Ssc q10) (Ssc q13) (Ssc q127) (Ag) (fun t2 h2 z1 z2 kp2=>hk t2 h2 z1 z2 (Kp.trans ?_ kp2));refine fun i hi=>?_;rcases List.mem_cons.1 hi with rfl|hi
  ·refine Eq.trans (Ssc q10) g10.symm
  ·rw[List.mem_singleton.1 hi];refine Eq.trans (Ssc q13) g13.symm
end
end Go.AJ
namespace Go.AJ
open Go
set_option maxRecDepth 100000
theorem bls_ext {l1 l2:List Bool} (hl:l1.length=l2.length) (h:∀x,l1.getD x false=true↔l2.getD x false=true):l1=l2:=by apply List.ext_getElem hl;intro i h1 h2;have:=h i;rw[List.getD_eq_getElem?_getD,List.getD_eq_getElem?_getD,List.getElem?_eq_getElem h1,List.getElem?_eq_getElem h2] at this;simp only[Option.getD_some] at this;cases q1:l1[i]<;>cases q2:l2[i]<;>simp_all
section
variable {E:Env} {L n:Nat} {h:Hp} {kc:KC} {t:T V} {d:Dc} {k:KE} {fi:FI} {c:KV} {C:Av}
theorem law4 (hE:Fns E) (hF:Hns E) (hG:Sns E) (hS:SaneOK E) (hL9:L≤9000000000000000000) (hL2:120000≤L) {D:Nat} {g:Gr} (hn:g.states.length+2*D+260≤n) (hn2:20200≤n) (hd:∀s∈g.states,BC s.l≤D) (hsc:g.states.length≤g.sc) (hb:g.bulk≤L) (hb2:g.bulk≤20000000) {fb sb:Bool} {fc sc:Nat} {f s:List Int} (hf:f.length≤1000000000) (hs:s.length≤1000000000) (hk:∀h1,Ah h h1→kc (.ret (.bool true)) none h1=true):
  call E (L+8) (n+8) (.fn 4) [.agg g.cells,slR fb fc (AL f) f.length,slR sb sc (AL s) s.length] none h kc=true:=by
 have l3:=g.cells_length;have hbb:g.states.length+D7 g.states+g.init.length+2*g.edges.length≤L:=hb;have K0:Ah h (h.upd (nxt h) (.cells g.cells)).bump:=kO;have hS':∀{L n:Nat} {h:Hp} {kc:KC},call E L (n+1) (.fn 6) [] none h kc=kc (.ret (.bool true)) none h:=hS;rw[Af hG.f1004,c1004,r1004,p1004_0,p1004_1,p1004_2,p1004_3,p1004_4,p1004_5,p1004_6,p1004_7,p1004_8,p1004_9,p1004_10];refine Sst (J3 @hS' @AX l3) ?_;refine call1007 hE hF (L:=L+5) (n:=n) tO tO tO tO (fun b h1 K1=>?_);have nb1:=K1.nx;simp only[nB] at nb1;have m1:=K1.old (nxt h) tN;simp -implicitDefEqProofs (disch:=exact tD) only[↓sD,sB,↓reduceIte,Nat.reduceEqDiff,reduceCtorEq,Nat.reduceLT,Nat.reduceMul,Nat.reduceAdd] at m1;have K01:=K0.trans K1;cases b
 ·refine Be ?_;exact hk _ K01
 refine Sst (J3 m1 @AX l3) ?_;refine call1024 hF (L:=L+5) (n:=n+4) (D:=D) tO tO hd tO hsc (fun h2 K2=>?_);have nb2:=K2.nx;have m2:=(K2.old (nxt h) tO).trans m1;have K02:=K01.trans K2;rw[Gr.ref_eq];cases hok:g.ok
 ·refine Be ?_;exact hk _ K02
 by_cases hf4:400<f.length
 ·have c1:(400<f.length)=True:=eq_true hf4;refine Tst c1 ?_;exact hk _ K02
 have c1:(400<f.length)=False:=eq_false hf4;by_cases hs4:400<s.length
 ·have c2:(400<s.length)=True:=eq_true hs4;refine Tst (J2 c1 c2) ?_;exact hk _ K02
 have c2:(400<s.length)=False:=eq_false hs4;obtain ⟨d1,d2,d3,d4,d5,d6⟩:=Gr.ok_parts hok;have hed:=GM _ d6;refine Tst (J5 c1 c2 m2 @AX l3) ?_;refine call1016 hE hF hG (L:=L) (n:=n) tO tO hn2 hok hb hb2 tO tO (fun hbad h3 K3=>?_) (fun hfa hsa h3 o v l K3 S3 ho3 hll hsrt hmem hlt=>?_)
 ·have m3:=(K3.old (nxt h) tO).trans m2;have K03:=K02.trans K3;refine Tst (J2 @Nat.not_lt_zero @Bp) ?_;refine GP hE (L:=L+7) (n:=n+4) (fun x kc=>call1025 hG m3) tO tO ?_;cases hfa:f.any (H0 g.states.length)
  ·rw[hfa,Bool.false_or] at hbad;refine FV ?_;refine GP hE (L:=L+7) (n:=n+4) (fun x kc=>call1025 hG m3) tO tO ?_;rw[hbad];refine FV ?_;exact hk _ K03
  ·refine FV ?_;exact hk _ K03
 have m3:=(K3.old (nxt h) tO).trans m2;have nb3:=K3.nx;have K03:=K02.trans K3;have m3':=m3;simp only[Gr.cells] at m3';have nk:∀{a b:K},a.num≠b.num→a≠b:=fun h e=>h (congrArg K.num e);have lrep:(List.replicate g.states.length false).length=g.states.length:=List.length_replicate ..;have grep:∀x,(List.replicate g.states.length false).getD x false=false:=fun x=>by rw[List.getD_eq_getElem?_getD,List.getElem?_replicate];split<;>simp
 have em:∀(h:Hp) (c:KV),Bo (.int .i64 (.ofNat g.states.length)) (.int .i64 (.ofNat g.states.length)) [.bool false] 1 h c=c (.sl (nxt h) 0 g.states.length g.states.length 0) (h.upd (nxt h) (.cells (bls (List.replicate g.states.length false)))).bump:=fun h c=>by rw[mks_nat tO,G3]
 have ln:=fun {h1:Hp} {c:KV}=>JA S3 (h1:=h1) (c:=c);have k3n:Ah h3 (h3.upd (nxt h3) (.cells (bls (List.replicate g.states.length false)))).bump:=(Ah.refl h3).new _;have miH:blk (h3.upd (nxt h3) (.cells (bls (List.replicate g.states.length false)))).bump (nxt h3)=.cells (bls (List.replicate g.states.length false)):=by rw[Am,AC]
 have nH:(nxt (h3.upd (nxt h3) (.cells (bls (List.replicate g.states.length false)))).bump).num=(nxt h3).num+1:=by rw[Au,An,K.num_succ]
 refine Tst (J6 m3' em @ln @Bp @Nat.not_lt_zero @Ae) ?_;generalize (h3.upd (nxt h3) (.cells (bls (List.replicate g.states.length false)))).bump=H at k3n miH nH;have K0H:=K03.trans k3n;refine loop1004_0 (bi:=nxt h3) (nn:=g.states.length) tO (h0:=H) tO (S3.keep (fun b hb=>k3n.old b (S3.lt b hb)) k3n.nx) (fun q=>by have:=S3.lt _ q;omega) tO hlt hsrt l 0 _ _ H (List.replicate g.states.length false) rfl (Nat.zero_add _) tO lrep (.refl _ _) miH (Ag) (Ag) (Ag) (Ag) (Ag) (fun t4 h4 K4 mi4 kp4=>?_);have q1:=kp4 1 (by simp);have q2:=kp4 2 (by simp);have q3:=kp4 3 (by simp);have q10:=kp4 10 (by simp);simp -implicitDefEqProofs (disch:=exact tD) only[↓sD,sB,↓reduceIte,Nat.reduceEqDiff,reduceCtorEq,Nat.reduceLT,Nat.reduceMul,Nat.reduceAdd] at q1 q2 q3 q10;clear kp4;have hinl:(Ee (l.map Int.ofNat) (List.replicate g.states.length false)).length=g.states.length:=by rw[Da,lrep]
 have hin:∀x,(Ee (l.map Int.ofNat) (List.replicate g.states.length false)).getD x false=true↔g.rg f s x:=fun x=>by
  rw[Fo _ _ (fun y hy=>by obtain ⟨a,ha,rfl⟩:=List.mem_map.1 hy;exact ⟨a,rfl,by rw[lrep];exact hlt a ha⟩) x,grep x,←hmem x,List.mem_map];constructor
  ·rintro (q|⟨a,ha,e⟩)
   ·cases q
   ·exact Int.ofNat.inj e▸ha
  ·exact fun q=> .inr ⟨x,q,rfl⟩
 generalize Ee (l.map Int.ofNat) (List.replicate g.states.length false)=inn at mi4 hinl hin;have n4:=K4.nx;have hgi:nxt h≠nxt h3:=nk tO;have m4:blk h4 (nxt h)=.cells g.cells:=(K4.old (nxt h) tO (by simp [hgi])).trans ((k3n.old (nxt h) tO).trans m3);have m4':=m4;simp only[Gr.cells] at m4';have k4n:Ah h4 (h4.upd (nxt h4) (.cells (bls (List.replicate g.states.length false)))).bump:=(Ah.refl h4).new _;have mwH:blk (h4.upd (nxt h4) (.cells (bls (List.replicate g.states.length false)))).bump (nxt h4)=.cells (bls (List.replicate g.states.length false)):=by rw[Am,AC]
 have nH2:(nxt (h4.upd (nxt h4) (.cells (bls (List.replicate g.states.length false)))).bump).num=(nxt h4).num+1:=by rw[Au,An,K.num_succ]
 refine Tst (J7 q1 q2 q3 q10 m4' em @Ae) ?_;generalize (h4.upd (nxt h4) (.cells (bls (List.replicate g.states.length false)))).bump=H2 at k4n mwH nH2;have mi5:=(k4n.old (nxt h3) tO).trans mi4;have m5:=(k4n.old (nxt h) tO).trans m4;have hne:nxt h4≠nxt h3:=nk tO;refine loop1004_1 (bi:=nxt h3) (bw:=nxt h4) hne (nn:=g.states.length) (b:=fb) (cp:=fc) (f:=f) hf hfa hinl (fun a ha=>(hin a).2 (.base ha)) (h0:=H2) tO mi5 f 0 _ _ H2 (List.replicate g.states.length false) rfl (Nat.zero_add _) tO lrep (.refl _ _) mwH (Ssc q10) (Ag) (Ag) (Ag) (Ag) (fun t5 h5 K5 mw5 kp5=>?_);have r2:=kp5 2 (by simp);have r3:=kp5 3 (by simp);have r10:=kp5 10 (by simp);have r13:=kp5 13 (by simp);simp -implicitDefEqProofs (disch:=exact tD) only[↓sD,sB,↓reduceIte,Nat.reduceEqDiff,reduceCtorEq,Nat.reduceLT,Nat.reduceMul,Nat.reduceAdd,q2,q3,q10] at r2 r3 r10 r13;clear kp5;have hwl:(Ee f (List.replicate g.states.length false)).length=g.states.length:=by rw[Da,lrep]
 have hw0:∀x,(Ee f (List.replicate g.states.length false)).getD x false=true↔Int.ofNat x∈f:=fun x=>by rw[Fo f _ (by rw[lrep];exact HS hfa) x,grep x];exact ⟨fun q=>q.resolve_left (fun z=>by cases z),.inr⟩
 generalize Ee f (List.replicate g.states.length false)=wh at mw5 hwl hw0;have n5:=K5.nx;have hgw:nxt h≠nxt h4:=nk tO;have m6:blk h5 (nxt h)=.cells g.cells:=(K5.old (nxt h) tO (by simp [hgw])).trans m5;have mi6:blk h5 (nxt h3)=.cells (bls inn):=(K5.old (nxt h3) tO (by simp [Ne.symm hne])).trans mi5;have m6':=m6;simp only[Gr.cells] at m6';have hst:∀a:Nat,(fun x=>s.any (Ar x)) (.ofNat a)=true↔Int.ofNat a∈s:=fun a=>by
  simp only[List.any_eq_true];constructor
  ·rintro ⟨y,hy,e⟩;rw[Ay] at e;exact e▸hy
  ·exact fun q=>⟨_,q,Bp⟩
 refine Tst (J6 r2 r3 r10 r13 m6' @Ae) ?_;refine loop1004_3 hG (L:=L+7) (n:=n+5) (bg:=nxt h) (bi:=nxt h3) (bw:=nxt h4) hne hgw (g:=g) (nn:=g.states.length) tO tO hed (sb:=sb) (sc:=sc) (s:=s) tO tO hinl (fun e he h1 h2=>?_) (h0:=h5) tO tO tO m6 mi6 g.states.length 0 _ _ h5 wh (Nat.zero_add _) tO hwl (.refl _ _) mw5 (Ssc r2) (Ssc r3) (Ssc r10) (Ssc r13) (Ag) (Ag) (fun t6 h6 K6 mw6 kp6=>?_)
 ·obtain ⟨a,b,rfl,ha,hb⟩:=hed e he;simp only[show (Int.ofNat a).toNat=a from rfl,show (Int.ofNat b).toNat=b from rfl] at h2⊢;refine (hin b).2 (.step ((hin a).1 h2) (fun q=>?_) he);have:=(hst a).2 q;simp only at this h1;rw[this] at h1;cases h1
 have u10:=kp6 10 (by simp);have u13:=kp6 13 (by simp);simp -implicitDefEqProofs (disch:=exact tD) only[↓sD,sB,↓reduceIte,Nat.reduceEqDiff,reduceCtorEq,Nat.reduceLT,Nat.reduceMul,Nat.reduceAdd,r10,r13] at u10 u13;clear kp6;have heq:rds (fun x=>s.any (Ar x)) g.edges g.states.length wh=inn:=bls_ext (by rw[Ir,hwl,hinl]) (fun x=>(rds_law hst hed hwl hw0 x).trans (hin x).symm);rw[heq] at mw6;have mi7:blk h6 (nxt h3)=.cells (bls inn):=(K6.old (nxt h3) tO (by simp [Ne.symm hne])).trans mi6;refine Tst (J2 u10 u13) ?_;refine call1028 hG (L:=L+7) (n:=n+6) hinl tO tO mi7 mw6 ?_;refine FV ?_;refine hk _ ?_;have z1:Ah h3 h4:=k3n.fresh K4 (by simp);have z2:Ah h3 h5:=(z1.trans k4n).fresh K5 (fun x hx=>by rw[List.mem_singleton.1 hx];exact z1.nx);have z3:Ah h3 h6:=z2.fresh K6 (fun x hx=>by rw[List.mem_singleton.1 hx];exact z1.nx);exact K03.trans z3
end
end Go.AJ
