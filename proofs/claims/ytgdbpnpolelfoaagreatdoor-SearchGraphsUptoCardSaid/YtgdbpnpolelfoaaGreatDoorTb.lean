/- Sorting: pivots. -/
import Derived.Test.YtgdbpnpolelfoaaGreatDoorTa
set_option linter.all false
namespace Go.AJ
open Go
set_option maxRecDepth 100000
section
variable [IT] {E:Env} {L n:Nat} {h:Hp} {kc:KC} {t:T V} {d:Dc} {k:KE} {fi:FI} {c:KV} {C:As}
theorem Sd (hE:Fns E) (hF:Hns E) {b:K} {a e j m cp N:Nat} (hm:m≤N) (hN:N≤4000000000000000000) (he:e≤m) (hj:j<e) {A:Nat→Nat} (mb:blk h b=.cells (Az A N)):
  ∀(w i M:Nat) (t:T V),j+1≤i+w→w+1≤M→a<i→i≤j+1→Par (·≤·) a e i j A→
  tg 0 t=.sl b 0 m cp 0→tg 1 t=vI a→tg 10 t=vI i→tg 11 t=vI j→
  (∀i' t1,i≤i'→i'≤j+1→Par (·≤·) a e i' j A→(i'≤j→A a≤A i')→tg 0 t1=.sl b 0 m cp 0→tg 1 t1=vI a→tg 10 t1=vI i'→tg 11 t1=vI j→k (.exit 0) t1 d h=true)→
  iter (exec (call E (L+1) (n+2)) (L+1) fi LE) M t d h k=true:=by
 have c66:=fun (x y:Int) (h:Hp) (kc:KC)=>BW (L:=L) (n:=n) (h:=h) (kc:=kc) hE hF (a:=x) (b:=y);intro w;induction w with
 |zero=>intro i M t hw hM ha hi P g0 g1 g9 g10 hk;obtain ⟨M,rfl⟩:=pM M;have c1:(j<i)=True:=eT;rw[Ab,LE];refine Tst (J5 g0 g1 g9 g10 c1) ?_;exact hk i _ tO hi P (fun q=>absurd q tO) (Ssc g0) (Ssc g1) (Ssc g9) (Ssc g10)
 |succ w ih=>
  intro i M t hw hM ha hi P g0 g1 g9 g10 hk;obtain ⟨M,rfl⟩:=pM M;rw[Ab,LE];by_cases hc:j<i
  ·have c1:(j<i)=True:=eq_true hc;refine Tst (J5 g0 g1 g9 g10 c1) ?_;exact hk i _ tO hi P (fun q=>absurd q tO) (Ssc g0) (Ssc g1) (Ssc g9) (Ssc g10)
  ·have c1:(j<i)=False:=eq_false hc;have e2:=fun (h:Hp) (c':KV)=>AI (h:=h) (c:=c') (A:=A) (N:=N) (i:=i) tO;have e3:=fun (h:Hp) (c':KV)=>AI (h:=h) (c:=c') (A:=A) (N:=N) (i:=a) tO;have l1:i<m:=tO;have l2:a<m:=tO;by_cases hx:A i<A a
   ·have hx':(A i<A a)=True:=eq_true hx;have w1:=wA i;refine Tst (J14 g0 g1 g9 g10 c1 c66 @AA mb e2 e3 l1 l2 hx' (J3 @Nat.mul_one @Nat.zero_add w1)) ?_;exact ih (i+1) M _ tO tO tO tO (P.next (Nat.not_le.2 hx)) (Ssc g0) (Ssc g1) Af (Ssc g10) (fun i' t1 x1=>hk i' t1 tO)
   ·have hx':(A i<A a)=False:=eq_false hx;refine Tst (J14 g0 g1 g9 g10 c1 c66 @AA mb e2 e3 l1 l2 hx' (J2 @Nat.mul_one @Nat.zero_add)) ?_;exact hk i _ tO hi P (fun _=>Nat.le_of_not_lt hx) (Ssc g0) (Ssc g1) (Ssc g9) (Ssc g10)
theorem Sc (hE:Fns E) (hF:Hns E) {b:K} {a e i m cp N:Nat} (hm:m≤N) (hN:N≤4000000000000000000) (he:e≤m) (hi:a<i) {A:Nat→Nat} (mb:blk h b=.cells (Az A N)):
  ∀(w j M:Nat) (t:T V),j+1≤i+w→w+1≤M→j<e→i≤j+1→Par (·≤·) a e i j A→
  tg 0 t=.sl b 0 m cp 0→tg 1 t=vI a→tg 10 t=vI i→tg 11 t=vI j→
  (∀j' t1,j'≤j→i≤j'+1→Par (·≤·) a e i j' A→(i≤j'→¬A a≤A j')→tg 0 t1=.sl b 0 m cp 0→tg 1 t1=vI a→tg 10 t1=vI i→tg 11 t1=vI j'→k (.exit 2) t1 d h=true)→
  iter (exec (call E (L+1) (n+2)) (L+1) fi LD) M t d h k=true:=by
 have c66:=fun (x y:Int) (h:Hp) (kc:KC)=>BW (L:=L) (n:=n) (h:=h) (kc:=kc) hE hF (a:=x) (b:=y);intro w;induction w with
 |zero=>intro j M t hw hM ha hj P g0 g1 g9 g10 hk;obtain ⟨M,rfl⟩:=pM M;have c1:(j<i)=True:=eT;rw[Ab,LD];refine Tst (J5 g0 g1 g9 g10 c1) ?_;exact hk j _ tO hj P (fun q=>absurd q tO) (Ssc g0) (Ssc g1) (Ssc g9) (Ssc g10)
 |succ w ih=>
  intro j M t hw hM ha hj P g0 g1 g9 g10 hk;obtain ⟨M,rfl⟩:=pM M;rw[Ab,LD];by_cases hc:j<i
  ·have c1:(j<i)=True:=eq_true hc;refine Tst (J5 g0 g1 g9 g10 c1) ?_;exact hk j _ tO hj P (fun q=>absurd q tO) (Ssc g0) (Ssc g1) (Ssc g9) (Ssc g10)
  ·have c1:(j<i)=False:=eq_false hc;have e2:=fun (h:Hp) (c':KV)=>AI (h:=h) (c:=c') (A:=A) (N:=N) (i:=j) tO;have e3:=fun (h:Hp) (c':KV)=>AI (h:=h) (c:=c') (A:=A) (N:=N) (i:=a) tO;have l1:j<m:=tO;have l2:a<m:=tO;by_cases hx:A j<A a
   ·have hx':(A j<A a)=True:=eq_true hx;refine Tst (J14 g0 g1 g9 g10 c1 c66 @AA mb e2 e3 l1 l2 hx' (J2 @Nat.mul_one @Nat.zero_add)) ?_;exact hk j _ tO hj P (fun _=>Nat.not_le.2 hx) (Ssc g0) (Ssc g1) (Ssc g9) (Ssc g10)
   ·have hx':(A j<A a)=False:=eq_false hx;obtain ⟨j,rfl⟩:=pM j;have w1:Am .i64 (Int.sub (.ofNat (j+1)) (.ofNat 1))=.ofNat j:=by rw[Ao tO,Ah tO];rfl
    refine Tst (J14 g0 g1 g9 g10 c1 c66 @AA mb e2 e3 l1 l2 hx' (J3 @Nat.mul_one @Nat.zero_add w1)) ?_;exact ih j M _ tO tO tO tO (P.prev (Nat.le_of_not_lt hx)) (Ssc g0) (Ssc g1) (Ssc g9) Af (fun j' t1 x1=>hk j' t1 tO)
theorem Jy (hE:Fns E) (hF:Hns E) {b:K} {a e j m cp N:Nat} (hm:m≤N) (hN:N≤4000000000000000000) (he:e≤m) (hj:j<e) {A:Nat→Nat} (mb:blk h b=.cells (Az A N)):
  ∀(w i M:Nat) (t:T V),j+1≤i+w→w+1≤M→a<i→i≤j+1→Par (·≤·) a e i j A→
  tg 0 t=.sl b 0 m cp 0→tg 1 t=vI a→tg 10 t=vI i→tg 11 t=vI j→
  (∀i' t1,i≤i'→i'≤j+1→Par (·≤·) a e i' j A→(i'≤j→A a≤A i')→tg 0 t1=.sl b 0 m cp 0→tg 1 t1=vI a→tg 10 t1=vI i'→tg 11 t1=vI j→k (.exit 6) t1 d h=true)→
  iter (exec (call E (L+1) (n+2)) (L+1) fi LC) M t d h k=true:=by
 have c66:=fun (x y:Int) (h:Hp) (kc:KC)=>BW (L:=L) (n:=n) (h:=h) (kc:=kc) hE hF (a:=x) (b:=y);intro w;induction w with
 |zero=>intro i M t hw hM ha hi P g0 g1 g9 g10 hk;obtain ⟨M,rfl⟩:=pM M;have c1:(j<i)=True:=eT;rw[Ab,LC];refine Tst (J5 g0 g1 g9 g10 c1) ?_;exact hk i _ tO hi P (fun q=>absurd q tO) (Ssc g0) (Ssc g1) (Ssc g9) (Ssc g10)
 |succ w ih=>
  intro i M t hw hM ha hi P g0 g1 g9 g10 hk;obtain ⟨M,rfl⟩:=pM M;rw[Ab,LC];by_cases hc:j<i
  ·have c1:(j<i)=True:=eq_true hc;refine Tst (J5 g0 g1 g9 g10 c1) ?_;exact hk i _ tO hi P (fun q=>absurd q tO) (Ssc g0) (Ssc g1) (Ssc g9) (Ssc g10)
  ·have c1:(j<i)=False:=eq_false hc;have e2:=fun (h:Hp) (c':KV)=>AI (h:=h) (c:=c') (A:=A) (N:=N) (i:=i) tO;have e3:=fun (h:Hp) (c':KV)=>AI (h:=h) (c:=c') (A:=A) (N:=N) (i:=a) tO;have l1:i<m:=tO;have l2:a<m:=tO;by_cases hx:A i<A a
   ·have hx':(A i<A a)=True:=eq_true hx;have w1:=wA i;refine Tst (J14 g0 g1 g9 g10 c1 c66 @AA mb e2 e3 l1 l2 hx' (J3 @Nat.mul_one @Nat.zero_add w1)) ?_;exact ih (i+1) M _ tO tO tO tO (P.next (Nat.not_le.2 hx)) (Ssc g0) (Ssc g1) Af (Ssc g10) (fun i' t1 x1=>hk i' t1 tO)
   ·have hx':(A i<A a)=False:=eq_false hx;refine Tst (J14 g0 g1 g9 g10 c1 c66 @AA mb e2 e3 l1 l2 hx' (J2 @Nat.mul_one @Nat.zero_add)) ?_;exact hk i _ tO hi P (fun _=>Nat.le_of_not_lt hx) (Ssc g0) (Ssc g1) (Ssc g9) (Ssc g10)
theorem Jx (hE:Fns E) (hF:Hns E) {b:K} {a e i m cp N:Nat} (hm:m≤N) (hN:N≤4000000000000000000) (he:e≤m) (hi:a<i) {A:Nat→Nat} (mb:blk h b=.cells (Az A N)):
  ∀(w j M:Nat) (t:T V),j+1≤i+w→w+1≤M→j<e→i≤j+1→Par (·≤·) a e i j A→
  tg 0 t=.sl b 0 m cp 0→tg 1 t=vI a→tg 10 t=vI i→tg 11 t=vI j→
  (∀j' t1,j'≤j→i≤j'+1→Par (·≤·) a e i j' A→(i≤j'→¬A a≤A j')→tg 0 t1=.sl b 0 m cp 0→tg 1 t1=vI a→tg 10 t1=vI i→tg 11 t1=vI j'→k (.exit 8) t1 d h=true)→
  iter (exec (call E (L+1) (n+2)) (L+1) fi LB) M t d h k=true:=by
 have c66:=fun (x y:Int) (h:Hp) (kc:KC)=>BW (L:=L) (n:=n) (h:=h) (kc:=kc) hE hF (a:=x) (b:=y);intro w;induction w with
 |zero=>intro j M t hw hM ha hj P g0 g1 g9 g10 hk;obtain ⟨M,rfl⟩:=pM M;have c1:(j<i)=True:=eT;rw[Ab,LB];refine Tst (J5 g0 g1 g9 g10 c1) ?_;exact hk j _ tO hj P (fun q=>absurd q tO) (Ssc g0) (Ssc g1) (Ssc g9) (Ssc g10)
 |succ w ih=>
  intro j M t hw hM ha hj P g0 g1 g9 g10 hk;obtain ⟨M,rfl⟩:=pM M;rw[Ab,LB];by_cases hc:j<i
  ·have c1:(j<i)=True:=eq_true hc;refine Tst (J5 g0 g1 g9 g10 c1) ?_;exact hk j _ tO hj P (fun q=>absurd q tO) (Ssc g0) (Ssc g1) (Ssc g9) (Ssc g10)
  ·have c1:(j<i)=False:=eq_false hc;have e2:=fun (h:Hp) (c':KV)=>AI (h:=h) (c:=c') (A:=A) (N:=N) (i:=j) tO;have e3:=fun (h:Hp) (c':KV)=>AI (h:=h) (c:=c') (A:=A) (N:=N) (i:=a) tO;have l1:j<m:=tO;have l2:a<m:=tO;by_cases hx:A j<A a
   ·have hx':(A j<A a)=True:=eq_true hx;refine Tst (J14 g0 g1 g9 g10 c1 c66 @AA mb e2 e3 l1 l2 hx' (J2 @Nat.mul_one @Nat.zero_add)) ?_;exact hk j _ tO hj P (fun _=>Nat.not_le.2 hx) (Ssc g0) (Ssc g1) (Ssc g9) (Ssc g10)
   ·have hx':(A j<A a)=False:=eq_false hx;obtain ⟨j,rfl⟩:=pM j;have w1:Am .i64 (Int.sub (.ofNat (j+1)) (.ofNat 1))=.ofNat j:=by rw[Ao tO,Ah tO];rfl
    refine Tst (J14 g0 g1 g9 g10 c1 c66 @AA mb e2 e3 l1 l2 hx' (J3 @Nat.mul_one @Nat.zero_add w1)) ?_;exact ih j M _ tO tO tO tO (P.prev (Nat.le_of_not_lt hx)) (Ssc g0) (Ssc g1) (Ssc g9) Af (fun j' t1 x1=>hk j' t1 tO)
theorem R0 (hE:Fns E) (hF:Hns E) {b:K} {a e m cp N:Nat} (hm:m≤N) (hN:N≤4000000000000000000) (he:e≤m) (hL:N+3≤L) {A0:Nat→Nat} {h0:Hp}
  (hk:∀j t1 h1 A1,a≤j→j<e→Par (·≤·) a e (j+1) j A1→Sws a e A0 A1→Ac [b] h0 h1→blk h1 b=.cells (Az A1 N)→tg 0 t1=.sl b 0 m cp 0→tg 1 t1=vI a→tg 11 t1=vI j→k (.exit 4) t1 d h1=true):
  ∀(w i j M:Nat) (A:Nat→Nat) (t:T V) (h:Hp),j+1≤i+w→w+1≤M→a<i→i≤j+1→j<e→Par (·≤·) a e i j A→Sws a e A0 A→Ac [b] h0 h→blk h b=.cells (Az A N)→
  tg 0 t=.sl b 0 m cp 0→tg 1 t=vI a→tg 10 t=vI i→tg 11 t=vI j→
  iter (exec (call E (L+1) (n+2)) (L+1) fi LA) M t d h k=true:=by
 intro w;induction w with
 |zero=>intro i j M A t h hw hM ha hi hj P S K0 mb g0 g1 g9 g10;obtain ⟨M,rfl⟩:=pM M;rw[Ab,LA];refine Tst (J5 g0 g1 g9 g10 @Ad) ?_;refine Jy hE hF (a:=a) (e:=e) (j:=j) (cp:=cp) hm hN he hj mb N i _ _ tO tO ha hi P g0 g1 g9 g10 (fun i1 t1 x1 x2 P1 q1 g0 g1 g9 g10=>?_);refine Tst (J5 g0 g1 g9 g10 @Ad) ?_;refine Jx hE hF (a:=a) (e:=e) (i:=i1) (cp:=cp) hm hN he tO mb N j _ _ tO tO hj x2 P1 g0 g1 g9 g10 (fun j1 t2 y1 y2 P2 q2 g0 g1 g9 g10=>?_);have c1:(j1<i1)=True:=eT;refine Tst (J5 g0 g1 g9 g10 c1) ?_;obtain rfl:i1=j1+1:=tO;exact hk j1 _ _ A tO tO P2 S K0 mb (Ssc g0) (Ssc g1) (Ssc g10)
 |succ w ih=>
  intro i j M A t h hw hM ha hi hj P S K0 mb g0 g1 g9 g10;obtain ⟨M,rfl⟩:=pM M;rw[Ab,LA];refine Tst (J5 g0 g1 g9 g10 @Ad) ?_;refine Jy hE hF (a:=a) (e:=e) (j:=j) (cp:=cp) hm hN he hj mb N i _ _ tO tO ha hi P g0 g1 g9 g10 (fun i1 t1 x1 x2 P1 q1 g0 g1 g9 g10=>?_);refine Tst (J5 g0 g1 g9 g10 @Ad) ?_;refine Jx hE hF (a:=a) (e:=e) (i:=i1) (cp:=cp) hm hN he tO mb N j _ _ tO tO hj x2 P1 g0 g1 g9 g10 (fun j1 t2 y1 y2 P2 q2 g0 g1 g9 g10=>?_);by_cases hc:j1<i1
  ·have c1:(j1<i1)=True:=eq_true hc;refine Tst (J5 g0 g1 g9 g10 c1) ?_;obtain rfl:i1=j1+1:=tO;exact hk j1 _ _ A tO tO P2 S K0 mb (Ssc g0) (Ssc g1) (Ssc g10)
  ·have c1:(j1<i1)=False:=eq_false hc;have q1':=q1 tO;have q2':=q2 tO;have hne:i1≠j1:=fun q=>by subst q;exact q2' q1'
   obtain ⟨j1,rfl⟩:=pM j1;have e2:=fun (h:Hp) (c':KV)=>AI (h:=h) (c:=c') (A:=A) (N:=N) (i:=i1) tO;have e3:=fun (h:Hp) (c':KV)=>AI (h:=h) (c:=c') (A:=A) (N:=N) (i:=j1+1) tO;have s1:=fun (h:Hp) (k':Hp→Bool)=>BE (h:=h) (f:=k') (A:=A) (N:=N) (b:=b) (x:=A (j1+1)) (i:=i1) tO;have s2:=fun (h:Hp) (k':Hp→Bool)=>BE (h:=h) (f:=k') (A:=Ms A i1 (A (j1+1))) (N:=N) (b:=b) (x:=A i1) (i:=j1+1) tO;have l1:i1<m:=tO;have l2:j1+1<m:=tO;have w1:=wA i1;have w2:Am .i64 (Int.sub (.ofNat (j1+1)) (.ofNat 1))=.ofNat j1:=by rw[Ao tO,Ah tO];rfl
   refine Tst (J14 g0 g1 g9 g10 c1 e2 e3 s1 s2 l1 l2 @Dy w1 (J5 w2 @AA mb @Nat.mul_one @Nat.zero_add)) ?_;exact ih (i1+1) j1 M (sw A i1 (j1+1)) _ _ tO tO tO tO tO (P2.swap tO tO q1' q2') (S.swap tO tO tO tO) (K0.put (.inr (List.mem_singleton.2 rfl)) _) (by rw[Al,if_pos rfl]) (Ssc g0) (Ssc g1) Af Af
theorem jC (hE:Fns E) (hF:Hns E) (hG:Sns E) {b:K} {a e p m cp N:Nat} (hm:m≤N) (hN:N≤4000000000000000000) (ha:a≤p) (hp:p<e) (he:e≤m) (hL:N+3≤L) {A:Nat→Nat} (mb:blk h b=.cells (Az A N))
  (hk:∀j al h1 A1,Piv (·≤·) a e j A1→Sws a e A A1→Ac [b] h h1→blk h1 b=.cells (Az A1 N)→kc (.ret (.tup [vI j,.bool al])) none h1=true):
  call E (L+1) (n+3) (.fn 142) [.sl b 0 m cp 0,vI a,vI e,vI p] none h kc=true:=by
 rw[Ag hG.f1142,vA,qX,WX,WW,WV,WU,WT,WR,WQ,WP,WO,WN,PK,PJ];have swp:∀(A:Nat→Nat) (i j:Nat),i<m→j<m→(∀(h:Hp) (c':KV),ldB (.cells (Az A N)) i h c'=c' (vI (A i)) h)∧(∀(h:Hp) (c':KV),ldB (.cells (Az A N)) j h c'=c' (vI (A j)) h)∧(∀(h:Hp) (f:Hp→Bool),stB (.cells (Az A N)) b i [vI (A j)] h f=f (h.upd b (.cells (Az (Ms A i (A j)) N))))∧(∀(h:Hp) (f:Hp→Bool),stB (.cells (Az (Ms A i (A j)) N)) b j [vI (A i)] h f=f (h.upd b (.cells (Az (sw A i j) N)))):=
  fun A i j hi hj=>⟨fun _ _=>AI tO,fun _ _=>AI tO,fun _ _=>BE tO,fun _ _=>by rw[BE tO,Dy]⟩
 have l1:a<m:=tO;have l2:p<m:=tO;have w1:=wA a;have w2:Am .i64 (Int.sub (.ofNat e) (.ofNat 1))=.ofNat (e-1):=by rw[Ao tO,Ah tO]
 refine Tst (J9 (swp A a p l1 l2) l1 l2 w1 w2 @AA mb @Ad (J2 @Nat.mul_one @Nat.zero_add)) ?_;have mb1:blk (h.upd b (.cells (Az (sw A a p) N))) b=.cells (Az (sw A a p) N):=by rw[Al,if_pos rfl]
 have S1:Sws a e A (sw A a p):=.swap .refl tO tO ha hp;have K1:Ac [b] h (h.upd b (.cells (Az (sw A a p) N))):=(Ac.refl _ _).put (.inr (List.mem_singleton.2 rfl)) _;generalize sw A a p=A1 at*;generalize h.upd b (.cells (Az A1 N))=h1 at*;refine Sd hE hF (a:=a) (e:=e) (j:=e-1) (cp:=cp) hm hN he tO mb1 N (a+1) _ _ tO tO tO tO ⟨fun k k1 k2=>by omega,fun k k1 k2=>by omega⟩ Af Af Af Af (fun i1 t1 x1 x2 P1 q1 g0 g1 g9 g10=>?_);refine Tst (J5 g0 g1 g9 g10 @Ad) ?_;refine Sc hE hF (a:=a) (e:=e) (i:=i1) (cp:=cp) hm hN he tO mb1 N (e-1) _ _ tO tO tO x2 P1 g0 g1 g9 g10 (fun j1 t2 y1 y2 P2 q2 g0 g1 g9 g10=>?_);by_cases hc:j1<i1
 ·have c1:(j1<i1)=True:=eq_true hc;obtain rfl:i1=j1+1:=tO;have l3:j1<m:=tO;refine Tst (J10 g0 g1 g9 g10 c1 (swp A1 j1 a l3 l1) l1 l3 @AA (J3 mb1 @Nat.mul_one @Nat.zero_add)) ?_;exact hk j1 true _ (sw A1 j1 a) (P2.piv Rb tO tO) (S1.swap tO tO tO tO) (K1.put (.inr (List.mem_singleton.2 rfl)) _) (by rw[Al,if_pos rfl])
 ·have c1:(j1<i1)=False:=eq_false hc;have q1':=q1 tO;have q2':=q2 tO;have hne:i1≠j1:=fun q=>by subst q;exact q2' q1'
  obtain ⟨j1,rfl⟩:=pM j1;have l3:i1<m:=tO;have l4:j1+1<m:=tO;have w3:=wA i1;have w4:Am .i64 (Int.sub (.ofNat (j1+1)) (.ofNat 1))=.ofNat j1:=by rw[Ao tO,Ah tO];rfl
  refine Tst (J10 g0 g1 g9 g10 c1 (swp A1 i1 (j1+1) l3 l4) l3 l4 @AA (J6 mb1 @Nat.mul_one @Nat.zero_add w3 w4 @Ad)) ?_;refine R0 hE hF (a:=a) (e:=e) (cp:=cp) hm hN he hL (A0:=A) (h0:=h) (fun j t3 h3 A3 z1 z2 P3 S3 K3 mb3 g0 g1 g10=>?_) N (i1+1) j1 _ (sw A1 i1 (j1+1)) _ _ tO tO tO tO tO (P2.swap tO tO q1' q2') (S1.swap tO tO tO tO) (K1.put (.inr (List.mem_singleton.2 rfl)) _) (by rw[Al,if_pos rfl]) (Ssc g0) (Ssc g1) Af Af;have l5:j<m:=tO;refine Tst (J9 g0 g1 g10 (swp A3 j a l5 l1) l1 l5 @AA mb3 (J2 @Nat.mul_one @Nat.zero_add)) ?_;exact hk j false _ (sw A3 j a) (P3.piv Rb tO tO) (S3.swap tO tO tO tO) (K3.put (.inr (List.mem_singleton.2 rfl)) _) (by rw[Al,if_pos rfl])
end
end Go.AJ
namespace Go.AJ
open Go
set_option maxRecDepth 100000
section
variable [IT] {E:Env} {L n:Nat} {h:Hp} {kc:KC} {t:T V} {d:Dc} {k:KE} {fi:FI} {c:KV} {C:As}
theorem Lf (hE:Fns E) (hF:Hns E) (hG:Sns E) {b bs:K} {lo hi p q s m cp N:Nat} (hm:m≤N) (hh:hi≤m) (hp:lo≤p∧p<hi) (hq:lo≤q∧q<hi) (hs:s≤1000) {A:Nat→Nat} (mb:blk h b=.cells (Az A N)) (ms:blk h bs=.cells [vI s]) (nb:b.num<(nxt h).num) (hne:b≠bs)
  (hk:∀x y s' h1,lo≤x∧x<hi→lo≤y∧y<hi→s'≤s+1→Ac [bs] h h1→blk h1 b=.cells (Az A N)→blk h1 bs=.cells [vI s']→kc (.ret (.tup [vI x,vI y])) none h1=true):
  call E (L+1) (n+3) (.fn 307) [.sl b 0 m cp 0,vI p,vI q,.ptr bs 0] none h kc=true:=by
 rw[Ag hG.f1307,vg,qG,Vz,Vy,Vx];have c66:=fun (x y:Int) (h:Hp) (kc:KC)=>BW (L:=L) (n:=n) (h:=h) (kc:=kc) hE hF (a:=x) (b:=y);have e2:=fun (h:Hp) (c':KV)=>AI (h:=h) (c:=c') (A:=A) (N:=N) (i:=p) tO;have e3:=fun (h:Hp) (c':KV)=>AI (h:=h) (c:=c') (A:=A) (N:=N) (i:=q) tO;have l1:p<m:=tO;have l2:q<m:=tO;by_cases hx:A q<A p
 ·have hx':(A q<A p)=True:=eq_true hx;have e4:∀(v:V) (h:Hp) (c':KV),ldB (.cells [v]) 0 h c'=c' v h:=fun v h c'=>BS rfl;have e5:∀(v w:V) (h:Hp) (f:Hp→Bool),stB (.cells [w]) bs 0 [v] h f=f (h.upd bs (.cells [v])):=fun v w h f=>C5 (Nat.zero_lt_succ _);have w1:=wA s;refine Tst (J11 c66 e2 e3 e4 e5 l1 l2 hx' w1 @AA (J4 mb ms @Nat.mul_one @Nat.zero_add)) ?_;exact hk q p (s+1) _ hq hp tO ((Ac.refl _ _).put (.inr (List.mem_singleton.2 rfl)) _) (by rw[Al,if_neg hne];exact mb) (by rw[Al,if_pos rfl])
 ·have hx':(A q<A p)=False:=eq_false hx;refine Tst (J9 c66 e2 e3 l1 l2 hx' @AA mb (J2 @Nat.mul_one @Nat.zero_add)) ?_;exact hk p q s _ hp hq tO (.refl _ _) mb ms
theorem Lg (hE:Fns E) (hF:Hns E) (hG:Sns E) {b bs:K} {lo hi p q r s m cp N:Nat} (hm:m≤N) (hh:hi≤m) (hp:lo≤p∧p<hi) (hq:lo≤q∧q<hi) (hr:lo≤r∧r<hi) (hs:s≤990) {A:Nat→Nat} (mb:blk h b=.cells (Az A N)) (ms:blk h bs=.cells [vI s]) (nb:b.num<(nxt h).num) (hne:b≠bs)
  (hk:∀x s' h1,lo≤x∧x<hi→s'≤s+3→Ac [bs] h h1→blk h1 b=.cells (Az A N)→blk h1 bs=.cells [vI s']→kc (.ret (vI x)) none h1=true):
  call E (L+1) (n+4) (.fn 202) [.sl b 0 m cp 0,vI p,vI q,vI r,.ptr bs 0] none h kc=true:=by
 rw[Ag hG.f1202,vl,qL,VT,VS,VQ,VP,VO];refine Hj ?_;refine Lf hE hF hG hm hh hp hq tO mb ms nb hne (fun x1 y1 s1 h1 a1 b1 z1 K1 mb1 ms1=>?_);refine Hj ?_;refine Lf hE hF hG hm hh b1 hr tO mb1 ms1 (Nat.lt_of_lt_of_le nb K1.nx) hne (fun x2 y2 s2 h2 a2 b2 z2 K2 mb2 ms2=>?_);refine Hj ?_;refine Lf hE hF hG hm hh a1 a2 tO mb2 ms2 (Nat.lt_of_lt_of_le nb (K1.trans K2).nx) hne (fun x3 y3 s3 h3 a3 b3 z3 K3 mb3 ms3=>?_);refine Hj ?_;exact hk y3 s3 h3 b3 tO ((K1.trans K2).trans K3) mb3 ms3
theorem Lh (hE:Fns E) (hF:Hns E) (hG:Sns E) {b bs:K} {lo hi p s m cp N:Nat} (hm:m≤N) (hN:N≤4000000000000000000) (hh:hi≤m) (hp:lo+1≤p∧p+1<hi) (hs:s≤990) {A:Nat→Nat} (mb:blk h b=.cells (Az A N)) (ms:blk h bs=.cells [vI s]) (nb:b.num<(nxt h).num) (hne:b≠bs)
  (hk:∀x s' h1,lo≤x∧x<hi→s'≤s+3→Ac [bs] h h1→blk h1 b=.cells (Az A N)→blk h1 bs=.cells [vI s']→kc (.ret (vI x)) none h1=true):
  call E (L+1) (n+5) (.fn 201) [.sl b 0 m cp 0,vI p,.ptr bs 0] none h kc=true:=by
 rw[Ag hG.f1201,vm,qM,VV,VU];have w1:=wA p;have w2:Am .i64 (Int.sub (.ofNat p) (.ofNat 1))=.ofNat (p-1):=by rw[Ao tO,Ah tO]
 refine Tst (J2 w1 w2) ?_;refine Lg hE hF hG (lo:=lo) (hi:=hi) hm hh tO tO tO tO mb ms nb hne (fun x1 s1 h1 a1 z1 K1 mb1 ms1=>?_);refine Hj ?_;exact hk x1 s1 h1 a1 z1 K1 mb1 ms1
theorem Ae.own {h h1:Hp} {x:Blk} (Kb:Ac [nxt h] (h.upd (nxt h) x).bump h1):Ae h h1:=by have n1:=Kb.nx;rw[Ay,Ap,K.num_succ] at n1;refine ⟨tO,fun b hb=>?_⟩;rw[Kb.old b (by rw[Ay,Ap,K.num_succ];omega) (fun q=>by rw[List.mem_singleton.1 q] at hb;omega),An,Al,if_neg (fun q=>by rw[q] at hb;omega)]
theorem Pi {bs:K} {p s:Nat} (hs:s≤1000) (ms:blk h bs=.cells [vI s]) (g9:tg 9 t=.ptr bs 0) (g11:tg 11 t=vI p)
  (hk:∀v t1,tg 6 t1=vI p→tg 7 t1=vI v→k .ret t1 d h=true):
  exec C L fi NI t d h k=true:=by
 have e4:∀(v:V) (h:Hp) (c':KV),ldB (.cells [v]) 0 h c'=c' v h:=fun v h c'=>BS rfl;rw[NI,Xk];by_cases h0:s=0
 ·have h0':(s=0)=True:=eq_true h0;refine Tst (J5 g9 g11 ms e4 h0') ?_;exact hk 1 _ Af Af
 ·have h0':(s=0)=False:=eq_false h0;by_cases h1:s=12
  ·have h1':(s=12)=True:=eq_true h1;refine Tst (J6 g9 g11 ms e4 h0' h1') ?_;exact hk 2 _ Af Af
  ·have h1':(s=12)=False:=eq_false h1;refine Tst (J6 g9 g11 ms e4 h0' h1') ?_;exact hk 0 _ Af Af
theorem jG (hE:Fns E) (hF:Hns E) (hG:Sns E) {b:K} {a l m cp N:Nat} (hm:m≤N) (hN:N≤1000000000000000000) (hh:a+l≤m) (hl:12<l) {A:Nat→Nat} (mb:blk h b=.cells (Az A N)) (nb:b.num<(nxt h).num)
  (hk:∀p v h1,a≤p→p<a+l→Ae h h1→kc (.ret (.tup [vI p,vI v])) none h1=true):
  call E (L+1) (n+6) (.fn 138) [.sl b 0 m cp 0,vI a,vI (a+l)] none h kc=true:=by
 rw[Ag hG.f1138,vG,ri,Xs,Xr,Xq,Xp,Xo,Xm,Xl];have q4:∀(h:Hp) (c:KV),AU .quo (vI l) (vI 4) h c=c (vI (l/4)) h:=fun h c=>by rw[D5 BB rfl,show Int.tdiv (.ofNat l) (.ofNat 4)=.ofNat (l/4) from rfl,Ah tO]
 have w1:Am .i64 (Int.sub (.ofNat (a+l)) (.ofNat a))=.ofNat l:=by rw[Ao tO,Nat.add_sub_cancel_left,Ah tO]
 have u1:Am .i64 (Int.mul (.ofNat (l/4)) (.ofNat 1))=.ofNat (l/4*1):=Ah tO;have u2:Am .i64 (Int.mul (.ofNat (l/4)) (.ofNat 2))=.ofNat (l/4*2):=Ah tO;have u3:Am .i64 (Int.mul (.ofNat (l/4)) (.ofNat 3))=.ofNat (l/4*3):=Ah tO;have v1:Am .i64 (Int.add (.ofNat a) (.ofNat (l/4*1)))=.ofNat (a+l/4*1):=Ah tO;have v2:Am .i64 (Int.add (.ofNat a) (.ofNat (l/4*2)))=.ofNat (a+l/4*2):=Ah tO;have v3:Am .i64 (Int.add (.ofNat a) (.ofNat (l/4*3)))=.ofNat (a+l/4*3):=Ah tO;have c8:(l<8)=False:=eF;have mb0:blk (h.upd (nxt h) (.cells [vI 0])).bump b=.cells (Az A N):=by rw[An,Al,if_neg (fun q=>by rw[q] at nb;omega)];exact mb
 have ms0:blk (h.upd (nxt h) (.cells [vI 0])).bump (nxt h)=.cells [vI 0]:=by rw[An,Al,if_pos rfl]
 have nb0:b.num<(nxt (h.upd (nxt h) (.cells [vI 0])).bump).num:=by rw[Ay,Ap,K.num_succ];omega
 have hne:b≠nxt h:=fun q=>by rw[q] at nb;omega
 have own:=fun h1=>Ae.own (h:=h) (h1:=h1) (x:=.cells [vI 0]);by_cases h5:l<50
 ·have h5':(l<50)=True:=eq_true h5;refine Tst (J10 q4 w1 u1 u2 u3 v1 v2 v3 c8 h5') ?_;refine Lg hE hF hG (lo:=a) (hi:=a+l) hm hh tO tO tO tO mb0 ms0 nb0 hne (fun x1 s1 h1 a1 z1 K1 mb1 ms1=>?_);refine Hj ?_;refine Pi (p:=x1) tO ms1 Af Af (fun v t1 g6 g7=>?_);refine Tst (J2 g6 g7) ?_;exact hk x1 v _ a1.1 a1.2 (own _ K1)
 ·have h5':(l<50)=False:=eq_false h5;refine Tst (J10 q4 w1 u1 u2 u3 v1 v2 v3 c8 h5') ?_;refine Lh hE hF hG (lo:=a) (hi:=a+l) hm tO hh tO tO mb0 ms0 nb0 hne (fun x1 s1 h1 a1 z1 K1 mb1 ms1=>?_);refine Hj ?_;refine Lh hE hF hG (lo:=a) (hi:=a+l) hm tO hh tO tO mb1 ms1 (Nat.lt_of_lt_of_le nb0 K1.nx) hne (fun x2 s2 h2 a2 z2 K2 mb2 ms2=>?_);refine Hj ?_;refine Lh hE hF hG (lo:=a) (hi:=a+l) hm tO hh tO tO mb2 ms2 (Nat.lt_of_lt_of_le nb0 (K1.trans K2).nx) hne (fun x3 s3 h3 a3 z3 K3 mb3 ms3=>?_);refine Hj ?_;refine Lg hE hF hG (lo:=a) (hi:=a+l) hm hh a1 a2 a3 tO mb3 ms3 (Nat.lt_of_lt_of_le nb0 ((K1.trans K2).trans K3).nx) hne (fun x4 s4 h4 a4 z4 K4 mb4 ms4=>?_);refine Hj ?_;refine Pi (p:=x4) tO ms4 Af Af (fun v t1 g6 g7=>?_);refine Tst (J2 g6 g7) ?_;exact hk x4 v _ a4.1 a4.2 (own _ (((K1.trans K2).trans K3).trans K4))
end
end Go.AJ
namespace Go.AJ
open Go
set_option maxRecDepth 100000
section
variable [IT] {E:Env} {L n:Nat} {h:Hp} {kc:KC} {t:T V} {d:Dc} {k:KE} {fi:FI} {c:KV} {C:As}
theorem swN {b:K} {N:Nat} {A:Nat→Nat} {i j:Nat} (hi:i<N) (hj:j<N):(∀(h:Hp) (c':KV),ldB (.cells (Az A N)) i h c'=c' (vI (A i)) h)∧(∀(h:Hp) (c':KV),ldB (.cells (Az A N)) j h c'=c' (vI (A j)) h)∧(∀(h:Hp) (f:Hp→Bool),stB (.cells (Az A N)) b i [vI (A j)] h f=f (h.upd b (.cells (Az (Ms A i (A j)) N))))∧(∀(h:Hp) (f:Hp→Bool),stB (.cells (Az (Ms A i (A j)) N)) b j [vI (A i)] h f=f (h.upd b (.cells (Az (sw A i j) N)))):=
 ⟨fun _ _=>AI hi,fun _ _=>AI hj,fun _ _=>BE hi,fun _ _=>by rw[BE hj,Dy]⟩
theorem Sj (hE:Fns E) (hF:Hns E) {b:K} {a e q m cp N:Nat} (hm:m≤N) (hN:N≤4000000000000000000) (he:e≤m) {A:Nat→Nat} (mb:blk h b=.cells (Az A N)):
  ∀(w i M:Nat) (t:T V),i+w=e→w+1≤M→a<i→Srt (·≤·) a i A→
  tg 0 t=.sl b 0 m cp 0→tg 1 t=vI a→tg 2 t=vI e→tg 7 t=vI i→tg 8 t=vI q→
  (∀i' t1,i≤i'→i'≤e→Srt (·≤·) a i' A→tg 0 t1=.sl b 0 m cp 0→tg 1 t1=vI a→tg 2 t1=vI e→tg 7 t1=vI i'→tg 8 t1=vI q→k (.exit 2) t1 d h=true)→
  iter (exec (call E (L+1) (n+2)) (L+1) fi LM) M t d h k=true:=by
 have c66:=fun (x y:Int) (h:Hp) (kc:KC)=>BW (L:=L) (n:=n) (h:=h) (kc:=kc) hE hF (a:=x) (b:=y);intro w;induction w with
 |zero=>intro i M t hw hM ha S g0 g1 g2 g7 g8 hk;obtain ⟨M,rfl⟩:=pM M;have c1:(i<e)=False:=eF;rw[Ab,LM];refine Tst (J6 g0 g1 g2 g7 g8 c1) ?_;exact hk i _ tO tO S (Ssc g0) (Ssc g1) (Ssc g2) (Ssc g7) (Ssc g8)
 |succ w ih=>
  intro i M t hw hM ha S g0 g1 g2 g7 g8 hk;obtain ⟨M,rfl⟩:=pM M;have c1:(i<e)=True:=eT;have l1:i<m:=tO;have l2:i-1<m:=tO;have w2:Am .i64 (Int.sub (.ofNat i) (.ofNat 1))=.ofNat (i-1):=by rw[Ao tO,Ah tO]
  have e2:=fun (h:Hp) (c':KV)=>AI (h:=h) (c:=c') (A:=A) (N:=N) (i:=i) tO;have e3:=fun (h:Hp) (c':KV)=>AI (h:=h) (c:=c') (A:=A) (N:=N) (i:=i-1) tO;rw[Ab,LM];by_cases hx:A i<A (i-1)
  ·have hx':(A i<A (i-1))=True:=eq_true hx;refine Tst (J14 g0 g1 g2 g7 g8 c1 c66 l1 l2 w2 e2 e3 hx' (J4 mb @AA @Nat.mul_one @Nat.zero_add)) ?_;exact hk i _ tO tO S (Ssc g0) (Ssc g1) (Ssc g2) (Ssc g7) (Ssc g8)
  ·have hx':(A i<A (i-1))=False:=eq_false hx;have w1:=wA i;refine Tst (J14 g0 g1 g2 g7 g8 c1 c66 l1 l2 w2 e2 e3 hx' (J5 mb @AA @Nat.mul_one @Nat.zero_add w1)) ?_;exact ih (i+1) M _ tO tO tO ((Ins.start S).stop Rb ha (Nat.le_refl _) (Nat.le_of_not_lt hx)) (Ssc g0) (Ssc g1) (Ssc g2) Af (Ssc g8) (fun i' t1 x1=>hk i' t1 tO)
theorem Si (hE:Fns E) (hF:Hns E) {b:K} {a e i q y m cp N:Nat} (hy:y<e) (he:e≤m) (hm:m≤N) (hN:N≤4000000000000000000) {A0:Nat→Nat} {h0:Hp} (hP:Pre (·≤·) a e A0):
  ∀(j M:Nat) (A:Nat→Nat) (t:T V) (h:Hp),a≤j→j≤y→j+1≤M→Ins (·≤·) a y j A→Sws a e A0 A→Ac [b] h0 h→blk h b=.cells (Az A N)→
  tg 0 t=.sl b 0 m cp 0→tg 1 t=vI a→tg 2 t=vI e→tg 7 t=vI i→tg 8 t=vI q→tg 9 t=vI j→
  (∀t1 h1 A1,Srt (·≤·) a (y+1) A1→Sws a e A0 A1→Ac [b] h0 h1→blk h1 b=.cells (Az A1 N)→
   tg 0 t1=.sl b 0 m cp 0→tg 1 t1=vI a→tg 2 t1=vI e→tg 7 t1=vI i→tg 8 t1=vI q→k (.exit 4) t1 d h1=true)→
  iter (exec (call E (L+1) (n+2)) (L+1) fi LL) M t d h k=true:=by
 have c66:=fun (x y:Int) (h:Hp) (kc:KC)=>BW (L:=L) (n:=n) (h:=h) (kc:=kc) hE hF (a:=x) (b:=y);intro j;induction j with
 |zero=>intro M A t h ha hj hM I S K0 mb g0 g1 g2 g7 g8 g9 hk;obtain ⟨M,rfl⟩:=pM M;obtain rfl:a=0:=tO;have c1:(0<1)=True:=eT;rw[Ab,LL];refine Tst (J7 g0 g1 g2 g7 g8 g9 c1) ?_;exact hk _ _ A I.done S K0 mb (Ssc g0) (Ssc g1) (Ssc g2) (Ssc g7) (Ssc g8)
 |succ j ih=>
  intro M A t h ha hj hM I S K0 mb g0 g1 g2 g7 g8 g9 hk;obtain ⟨M,rfl⟩:=pM M;have c1:(j+1<1)=False:=eF;have w2:Am .i64 (Int.sub (.ofNat (j+1)) (.ofNat 1))=.ofNat j:=by rw[Ao tO,Ah tO];rfl
  have l1:j+1<m:=tO;have l2:j<m:=tO;have s:=swN (b:=b) (A:=A) (i:=j+1) (j:=j) (N:=N) tO tO;rw[Ab,LL];by_cases hx:A (j+1)<A j
  ·have hx':(A (j+1)<A j)=True:=eq_true hx;have hc:a<j+1:=by
    rcases Nat.lt_or_ge a (j+1) with q|q
    ·exact q
    ·obtain rfl:a=j+1:=tO;have:=(hP.rr S.rr) tO (j+1) (Nat.le_refl _) tO;simp only[Nat.add_sub_cancel] at this;omega
   refine Tst (J14 g0 g1 g2 g7 g8 g9 c1 c66 l1 l2 w2 s hx' (J4 mb @AA @Nat.mul_one @Nat.zero_add)) ?_;exact ih M (sw A (j+1) j) _ _ tO tO tO (I.step Rb hc hj (Nat.not_le.2 hx)) (S.swap tO tO tO tO) (K0.put (.inr (List.mem_singleton.2 rfl)) _) (by rw[Al,if_pos rfl]) (Ssc g0) (Ssc g1) (Ssc g2) (Ssc g7) (Ssc g8) Af hk
  ·have hx':(A (j+1)<A j)=False:=eq_false hx;refine Tst (J14 g0 g1 g2 g7 g8 g9 c1 c66 l1 l2 w2 s hx' (J4 mb @AA @Nat.mul_one @Nat.zero_add)) ?_;refine hk _ _ A ?_ S K0 mb (Ssc g0) (Ssc g1) (Ssc g2) (Ssc g7) (Ssc g8);by_cases hc:a<j+1
   ·exact I.stop Rb hc tO (Nat.le_of_not_lt hx)
   ·obtain rfl:a=j+1:=tO;exact I.done
theorem Sh (hE:Fns E) (hF:Hns E) {b:K} {a e i q m cp N:Nat} (he:e≤m) (hm:m≤N) (hN:N≤4000000000000000000) {A0:Nat→Nat} {h0:Hp}:
  ∀(w j M:Nat) (A:Nat→Nat) (t:T V) (h:Hp),j+w=e→w+1≤M→i<j→Sws i e A0 A→Ac [b] h0 h→blk h b=.cells (Az A N)→
  tg 0 t=.sl b 0 m cp 0→tg 1 t=vI a→tg 2 t=vI e→tg 7 t=vI i→tg 8 t=vI q→tg 10 t=vI j→
  (∀t1 h1 A1,Sws i e A0 A1→Ac [b] h0 h1→blk h1 b=.cells (Az A1 N)→
   tg 0 t1=.sl b 0 m cp 0→tg 1 t1=vI a→tg 2 t1=vI e→tg 7 t1=vI i→tg 8 t1=vI q→k (.exit 6) t1 d h1=true)→
  iter (exec (call E (L+1) (n+2)) (L+1) fi LJ) M t d h k=true:=by
 have c66:=fun (x y:Int) (h:Hp) (kc:KC)=>BW (L:=L) (n:=n) (h:=h) (kc:=kc) hE hF (a:=x) (b:=y);intro w;induction w with
 |zero=>intro j M A t h hw hM hj S K0 mb g0 g1 g2 g7 g8 g10 hk;obtain ⟨M,rfl⟩:=pM M;have c1:(j<e)=False:=eF;rw[Ab,LJ];refine Tst (J7 g0 g1 g2 g7 g8 g10 c1) ?_;exact hk _ _ A S K0 mb (Ssc g0) (Ssc g1) (Ssc g2) (Ssc g7) (Ssc g8)
 |succ w ih=>
  intro j M A t h hw hM hj S K0 mb g0 g1 g2 g7 g8 g10 hk;obtain ⟨M,rfl⟩:=pM M;have c1:(j<e)=True:=eT;have w2:Am .i64 (Int.sub (.ofNat j) (.ofNat 1))=.ofNat (j-1):=by rw[Ao tO,Ah tO]
  have l1:j<m:=tO;have l2:j-1<m:=tO;have s:=swN (b:=b) (A:=A) (i:=j) (j:=j-1) (N:=N) tO tO;rw[Ab,LJ];by_cases hx:A j<A (j-1)
  ·have hx':(A j<A (j-1))=True:=eq_true hx;have w1:=wA j;refine Tst (J14 g0 g1 g2 g7 g8 g10 c1 c66 l1 l2 w2 s hx' (J5 mb @AA @Nat.mul_one @Nat.zero_add w1)) ?_;exact ih (j+1) M (sw A j (j-1)) _ _ tO tO tO (S.swap tO tO tO tO) (K0.put (.inr (List.mem_singleton.2 rfl)) _) (by rw[Al,if_pos rfl]) (Ssc g0) (Ssc g1) (Ssc g2) (Ssc g7) (Ssc g8) Af hk
  ·have hx':(A j<A (j-1))=False:=eq_false hx;refine Tst (J14 g0 g1 g2 g7 g8 g10 c1 c66 l1 l2 w2 s hx' (J4 mb @AA @Nat.mul_one @Nat.zero_add)) ?_;exact hk _ _ A S K0 mb (Ssc g0) (Ssc g1) (Ssc g2) (Ssc g7) (Ssc g8)
end
end Go.AJ
namespace Go.AJ
open Go
set_option maxRecDepth 100000
section
variable [IT] {E:Env} {L n:Nat} {h:Hp} {kc:KC} {t:T V} {d:Dc} {k:KE} {fi:FI} {c:KV} {C:As}
theorem Ph (hE:Fns E) (hF:Hns E) {b:K} {a e i q m cp N:Nat} (hi:i<e) (he:e≤m) (hm:m≤N) (hN:N≤4000000000000000000) (hL:N+3≤L) {A:Nat→Nat} (mb:blk h b=.cells (Az A N))
  (g0:tg 0 t=.sl b 0 m cp 0) (g1:tg 1 t=vI a) (g2:tg 2 t=vI e) (g7:tg 7 t=vI i) (g8:tg 8 t=vI q)
  (hk:∀t1 h1 A1,Sws i e A A1→Ac [b] h h1→blk h1 b=.cells (Az A1 N)→
   tg 0 t1=.sl b 0 m cp 0→tg 1 t1=vI a→tg 2 t1=vI e→tg 7 t1=vI i→tg 8 t1=vI q→k .normal t1 d h1=true):
  exec (call E (L+1) (n+2)) (L+1) fi NH t d h k=true:=by
 have w1:Am .i64 (Int.sub (.ofNat e) (.ofNat i))=.ofNat (e-i):=by rw[Ao tO,Ah tO]
 have w2:=wA i;rw[NH];by_cases hc:e-i<2
 ·have c1:(e-i<2)=True:=eq_true hc;refine Tst (J7 g0 g1 g2 g7 g8 w1 c1) ?_;exact hk _ _ A .refl (.refl _ _) mb (Ssc g0) (Ssc g1) (Ssc g2) (Ssc g7) (Ssc g8)
 ·have c1:(e-i<2)=False:=eq_false hc;refine Tst (J9 g0 g1 g2 g7 g8 w1 c1 w2 @Ad) ?_;refine Sh hE hF (a:=a) (e:=e) (i:=i) (q:=q) (cp:=cp) he hm hN (A0:=A) (h0:=h) (e-(i+1)) (i+1) _ A _ _ tO tO tO .refl (.refl _ _) mb (Ssc g0) (Ssc g1) (Ssc g2) (Ssc g7) (Ssc g8) Af (fun t1 h1 A1 x1 x2 x3 g0 g1 g2 g7 g8=>?_);refine Hj ?_;exact hk _ _ A1 x1 x2 x3 (Ssc g0) (Ssc g1) (Ssc g2) (Ssc g7) (Ssc g8)
theorem Sf (hE:Fns E) (hF:Hns E) {b:K} {a e m cp N:Nat} (he:e≤m) (hm:m≤N) (hN:N≤4000000000000000000) (hL:N+3≤L) {A0:Nat→Nat} {h0:Hp} (hP:Pre (·≤·) a e A0)
  (hr:∀v t1 h1 A1,(v=true→Srt (·≤·) a e A1)→Sws a e A0 A1→Ac [b] h0 h1→blk h1 b=.cells (Az A1 N)→tg 6 t1=.bool v→k .ret t1 d h1=true)
  (hk:∀t1 h1 A1,Sws a e A0 A1→Ac [b] h0 h1→blk h1 b=.cells (Az A1 N)→k (.exit 0) t1 d h1=true):
  ∀(w q i M:Nat) (A:Nat→Nat) (t:T V) (h:Hp),q+w=5→w+1≤M→a<i→i≤e→Srt (·≤·) a i A→Sws a e A0 A→Ac [b] h0 h→blk h b=.cells (Az A N)→
  tg 0 t=.sl b 0 m cp 0→tg 1 t=vI a→tg 2 t=vI e→tg 7 t=vI i→tg 8 t=vI q→
  iter (exec (call E (L+1) (n+2)) (L+1) fi LI) M t d h k=true:=by
 intro w;induction w with
 |zero=>intro q i M A t h hw hM ha hi S Q K0 mb g0 g1 g2 g7 g8;obtain ⟨M,rfl⟩:=pM M;have c1:(q<5)=False:=eF;rw[Ab,LI];refine Tst (J6 g0 g1 g2 g7 g8 c1) ?_;exact hk _ _ A Q K0 mb
 |succ w ih=>
  intro q i M A t h hw hM ha hi S Q K0 mb g0 g1 g2 g7 g8;obtain ⟨M,rfl⟩:=pM M;have c1:(q<5)=True:=eT;have w0:=wA q;rw[Ab,LI];refine Tst (J7 g0 g1 g2 g7 g8 c1 @Ad) ?_;refine Sj hE hF (a:=a) (e:=e) (q:=q) (cp:=cp) hm hN he mb (e-i) i _ _ tO tO ha S (Ssc g0) (Ssc g1) (Ssc g2) (Ssc g7) (Ssc g8) (fun i t1 x1 x2 S g0 g1 g2 g7 g8=>?_);by_cases h1:i=e
  ·have h1':(i=e)=True:=eq_true h1;refine Tst (J6 g0 g1 g2 g7 g8 h1') ?_;exact hr true _ _ A (fun _=>h1▸S) Q K0 mb Af
  have h1':(i=e)=False:=eq_false h1;have w1:Am .i64 (Int.sub (.ofNat e) (.ofNat a))=.ofNat (e-a):=by rw[Ao tO,Ah tO]
  by_cases h2:e-a<50
  ·have h2':(e-a<50)=True:=eq_true h2;refine Tst (J8 g0 g1 g2 g7 g8 h1' w1 h2') ?_;exact hr false _ _ A (fun q=>nomatch q) Q K0 mb Af
  have h2':(e-a<50)=False:=eq_false h2;have w2:Am .i64 (Int.sub (.ofNat i) (.ofNat 1))=.ofNat (i-1):=by rw[Ao tO,Ah tO]
  have w3:Am .i64 (Int.sub (.ofNat i) (.ofNat a))=.ofNat (i-a):=by rw[Ao tO,Ah tO]
  have l1:i<m:=tO;have l2:i-1<m:=tO;have s:=swN (b:=b) (A:=A) (i:=i) (j:=i-1) (N:=N) tO tO;have mb1:blk (h.upd b (.cells (Az (sw A i (i-1)) N))) b=.cells (Az (sw A i (i-1)) N):=by rw[Al,if_pos rfl]
  have Q1:Sws a e A0 (sw A i (i-1)):=Q.swap tO tO tO tO;have K1:Ac [b] h0 (h.upd b (.cells (Az (sw A i (i-1)) N))):=K0.put (.inr (List.mem_singleton.2 rfl)) _;have S1:Srt (·≤·) a (i-1) (sw A i (i-1)):=fun p q p1 p2 p3=>by rw[Hl tO tO,Hl tO tO];exact S p q p1 p2 tO
  by_cases h3:i-a<2
  ·have h3':(i-a<2)=True:=eq_true h3;refine Tst (J13 g0 g1 g2 g7 g8 h1' w1 h2' w2 w3 h3' s (J6 l1 l2 mb @AA @Nat.mul_one @Nat.zero_add)) ?_;have S2:Srt (·≤·) a i (sw A i (i-1)):=.short tO;refine Ph hE hF (a:=a) (e:=e) (i:=i) (q:=q) (cp:=cp) tO he hm hN hL mb1 (Ssc g0) (Ssc g1) (Ssc g2) (Ssc g7) (Ssc g8) (fun t2 h2 A2 y1 y2 y3 g0 g1 g2 g7 g8=>?_);refine Tst (J6 g0 g1 g2 g7 g8 w0) ?_;exact ih (q+1) i M A2 _ _ tO tO tO tO (fun p q p1 p2 p3=>by rw[y1.rr.out p tO,y1.rr.out q tO];exact S2 p q p1 p2 p3) (Q1.trans (y1.mono tO tO)) (K1.trans y2) y3 (Ssc g0) (Ssc g1) (Ssc g2) (Ssc g7) Af
  ·have h3':(i-a<2)=False:=eq_false h3;refine Tst (J13 g0 g1 g2 g7 g8 h1' w1 h2' w2 w3 h3' s (J7 l1 l2 mb @AA @Nat.mul_one @Nat.zero_add @Ad)) ?_;refine Si hE hF (a:=a) (e:=e) (i:=i) (q:=q) (y:=i-1) (cp:=cp) tO he hm hN (h0:=h0) hP (i-1) _ (sw A i (i-1)) _ _ tO tO tO (.start S1) Q1 K1 mb1 (Ssc g0) (Ssc g1) (Ssc g2) (Ssc g7) (Ssc g8) Af (fun t1 h1 A1 S2 Q2 K2 mb2 g0 g1 g2 g7 g8=>?_);rw[show i-1+1=i by omega] at S2;refine Tst (J5 g0 g1 g2 g7 g8) ?_;refine Ph hE hF (a:=a) (e:=e) (i:=i) (q:=q) (cp:=cp) tO he hm hN hL mb2 (Ssc g0) (Ssc g1) (Ssc g2) (Ssc g7) (Ssc g8) (fun t2 h2 A2 y1 y2 y3 g0 g1 g2 g7 g8=>?_);refine Tst (J6 g0 g1 g2 g7 g8 w0) ?_;exact ih (q+1) i M A2 _ _ tO tO tO tO (fun p q p1 p2 p3=>by rw[y1.rr.out p tO,y1.rr.out q tO];exact S2 p q p1 p2 p3) (Q2.trans (y1.mono tO tO)) (K2.trans y2) y3 (Ssc g0) (Ssc g1) (Ssc g2) (Ssc g7) Af
theorem jE (hE:Fns E) (hF:Hns E) (hG:Sns E) {b:K} {a e m cp N:Nat} (hm:m≤N) (hN:N≤4000000000000000000) (ha:a<e) (he:e≤m) (hL:N+5≤L) {A:Nat→Nat} (hP:Pre (·≤·) a e A) (mb:blk h b=.cells (Az A N))
  (hk:∀v h1 A1,(v=true→Srt (·≤·) a e A1)→Sws a e A A1→Ac [b] h h1→blk h1 b=.cells (Az A1 N)→kc (.ret (.bool v)) none h1=true):
  call E (L+1) (n+3) (.fn 140) [.sl b 0 m cp 0,vI a,vI e] none h kc=true:=by
 rw[Ag hG.f1140,vC,qZ,Xh,Xg,Xd,Xc];have w1:=wA a;refine Tst (J2 w1 @Ad) ?_;refine Sf hE hF (a:=a) (e:=e) (cp:=cp) he hm hN tO (A0:=A) (h0:=h) hP (fun v t1 h1 A1 x1 x2 x3 x4 g6=>?_) (fun t1 h1 A1 x2 x3 x4=>?_) 5 0 (a+1) _ A _ _ tO tO tO tO (.short tO) .refl (.refl _ _) mb Af Af Af Af Af
 ·refine Tst g6 ?_;exact hk v _ A1 x1 x2 x3 x4
 ·refine AV ?_;exact hk false _ A1 (fun q=>nomatch q) x2 x3 x4
end
end Go.AJ
namespace Go.AJ
open Go
set_option maxRecDepth 100000
def AaO:List Nat:= [0,1,2,2]++List.replicate 4 3++List.replicate 8 4++List.replicate 16 5++List.replicate 32 6++List.replicate 64 7++List.replicate 128 8
theorem fI:WI=(.reg [Wm 19 2,Wm 20 0,Ws 21 (.conv .u8 (Xv 20)),Ws 22 (.idxS (.c (.str AaO)) (Xv 21)),Ws 23 (.conv .i64 (Xv 22)),Ws 24 (.ibin .add (Xv 19) (Xv 23)),Wm 2 24]):=rfl
def okT (x:Nat):Bool:=match AaO[x]? with|some b=>Nat.ble b 8&&(Nat.beq x 0||Nat.ble (2 ^ b) (2*x))|none=>false
theorem qk:(List.range 256).all okT=true:=by decide+kernel
theorem ky {x:Nat} (h:x<256):∃b,AaO[x]? =some b∧b≤8∧(x≠0→2 ^ b≤2*x):=by
 have:=List.all_eq_true.1 qk x (List.mem_range.2 h);unfold okT at this;split at this
 ·rename_i b hb;simp only[Bool.and_eq_true,Bool.or_eq_true,Nat.ble_eq,Nat.beq_eq] at this;exact ⟨b,hb,this.1,fun hx=>this.2.resolve_left hx⟩
 ·exact absurd this Bool.false_ne_true
theorem Ac.own {S:List K} {h0 h h1:Hp} {bs:K} (a:Ac S h0 h) (b:Ac [bs] h h1) (hb:(nxt h0).num≤bs.num):Ac S h0 h1:=
 ⟨Nat.le_trans a.nx b.nx,fun c hc hs=>(b.old c (Nat.lt_of_lt_of_le hc a.nx) (fun e=>by rw[List.mem_singleton.1 e] at hc;omega)).trans (a.old c hc hs)⟩
def Ade (a b:Nat):Nat:=Nat.xor (a%18446744073709551616) (b%18446744073709551616)%18446744073709551616
def AaM (a b:Nat):Nat:=Nat.land (a%18446744073709551616) (b%18446744073709551616)%18446744073709551616
def AaU (a b:Nat):Nat:=a*Nat.pow 2 (min b 64)%18446744073709551616
theorem wM {a b:Nat}:AaM a b≤b:=
 Nat.le_trans (Nat.mod_le _ _) (Nat.le_trans (show Nat.land _ _≤_ from Nat.and_le_right) (Nat.mod_le _ _))
section
variable [IT] {E:Env} {L n:Nat} {h:Hp} {kc:KC} {t:T V} {d:Dc} {k:KE} {fi:FI} {c:KV} {C:As}
theorem Qg {ik:IntKind} {a b:Nat}:AU .shl (.int .u64 (.ofNat a)) (.int ik (.ofNat b)) h c=c (.int .u64 (.ofNat (AaU a b))) h:=by simp only[AU,C7,zb];rw[Fm];rfl
theorem iq {a b:Nat}:AU .xor (.int .u64 (.ofNat a)) (.int .u64 (.ofNat b)) h c=c (.int .u64 (.ofNat (Ade a b))) h:=by simp only[AU,C7];rw[Ce CA];simp only[KA];rw[Fm];rfl
theorem it {a b:Nat}:AU .and (.int .u64 (.ofNat a)) (.int .u64 (.ofNat b)) h c=c (.int .u64 (.ofNat (AaM a b))) h:=by simp only[AU,C7];rw[Ce CA];simp only[KA];rw[Fm];rfl
theorem jB (hG:Sns E) {x:Nat} (hx:x<65536) (hk:∀b,b≤16→(x≠0→2 ^ b≤2*x)→kc (.ret (vI b)) none h=true):
  call E (L+1) (n+1) (.fn 144) [.int .u64 (.ofNat x)] none h kc=true:=by
 rw[Ag hG.f1144,vz,qW,WM,WL,WK,WJ,fI];have c1:(x<4294967296)=True:=eT;have c2:(x<65536)=True:=eT;by_cases h3:x<256
 ·obtain ⟨b,t1,t2,t3⟩:=ky h3;have c3:(x<256)=True:=eq_true h3;have w1:Am .u8 (.ofNat x)=.ofNat x:=by rw[Gl,Nat.mod_eq_of_lt h3]
  have w2:Am .i64 (.ofNat b)=.ofNat b:=Ah tO;have w3:Am .i64 (Int.add (.ofNat 0) (.ofNat b))=.ofNat b:=by show Am .i64 (.ofNat (0+b))=_;rw[Nat.zero_add,w2]
  have i1:=fun (h:Hp) (c:KV)=>D4 (h:=h) (c:=c) (ik:=.u8) t1;refine Tst (J7 c1 c2 c3 w1 w2 w3 i1) ?_;exact hk b tO t3
 ·have hy:x/256<256:=tO;obtain ⟨b,t1,t2,t3⟩:=ky hy;have c3:(x<256)=False:=eq_false h3;have w0:Nat.div x (Nat.pow 2 (min 8 IntKind.u64.bits))=x/256:=rfl;have w1:Am .u8 (.ofNat (x/256))=.ofNat (x/256):=by rw[Gl,Nat.mod_eq_of_lt hy]
  have w2:Am .i64 (.ofNat b)=.ofNat b:=Ah tO;have w4:Am .i64 (Int.add (.ofNat 0) (.ofNat 8))=.ofNat 8:=Ah (n:=8) tO;have w3:Am .i64 (Int.add (.ofNat 8) (.ofNat b))=.ofNat (8+b):=Ah tO;have i1:=fun (h:Hp) (c:KV)=>D4 (h:=h) (c:=c) (ik:=.u8) t1;refine Tst (J9 c1 c2 c3 w0 w1 w2 w3 w4 i1) ?_;refine hk (8+b) tO fun _=>?_;have:=t3 tO;rw[Nat.pow_add];omega
theorem Lk (hG:Sns E) {x:Nat} (hx:x<65536) (hk:∀b,b≤16→(x≠0→2 ^ b≤2*x)→kc (.ret (vI b)) none h=true):
  call E (L+1) (n+2) (.fn 93) [.int .u64 (.ofNat x)] none h kc=true:=by
 rw[Ag hG.f1093,vN,rq,XW,XV,XU];refine Hj ?_;refine jB hG hx (fun b h1 h2=>?_);refine Hj ?_;exact hk b h1 h2
theorem jx (hG:Sns E) {x:Nat} (h0:x≠0) (hx:x<65536) (hk:∀m,1≤m→m≤2*x→kc (.ret (.int .u64 (.ofNat m))) none h=true):
  call E (L+1) (n+3) (.fn 199) [vI x] none h kc=true:=by
 rw[Ag hG.f1199,vo,qO,V2,V1];have w1:Am .u64 (.ofNat x)=.ofNat x:=by rw[FP,Nat.mod_eq_of_lt tO]
 refine Tst w1 ?_;refine Lk hG hx (fun b h1 h2=>?_);have s1:=fun (h:Hp) (c:KV)=>Qg (h:=h) (c:=c) (ik:=.i64) (a:=1) (b:=b);refine Tst s1 ?_;have e:AaU 1 b=2 ^ b:=by have h3:2 ^ b≤2 ^ 16:=Nat.pow_le_pow_right tO h1;unfold AaU;rw[Nat.min_eq_left tO,Nat.one_mul];exact Nat.mod_eq_of_lt (show 2 ^ b<_ by omega)
 rw[e];exact hk _ (Nat.two_pow_pos b) (h2 h0)
theorem jw (hG:Sns E) {bs:K} {s:Nat} (ms:blk h bs=.cells [.int .u64 (.ofNat s)])
  (hk:∀s' h1,Ac [bs] h h1→blk h1 bs=.cells [.int .u64 (.ofNat s')]→kc (.ret (.int .u64 (.ofNat s'))) none h1=true):
  call E (L+1) (n+1) (.fn 200) [.ptr bs 0] none h kc=true:=by
 rw[Ag hG.f1200,vn,qN,V0,VZ,VY,VX,VW];have e4:∀(v:V) (h:Hp) (c':KV),ldB (.cells [v]) 0 h c'=c' v h:=fun v h c'=>BS rfl;have e5:∀(v w:V) (h:Hp) (f:Hp→Bool),stB (.cells [w]) bs 0 [v] h f=f (h.upd bs (.cells [v])):=fun v w h f=>C5 (Nat.zero_lt_succ _);have s1:=fun (a b:Nat) (h:Hp) (c:KV)=>Qg (h:=h) (c:=c) (ik:=.u64) (a:=a) (b:=b);have s2:=fun (a b:Nat) (h:Hp) (c:KV)=>iq (h:=h) (c:=c) (a:=a) (b:=b);refine Tst (J5 ms e4 e5 s1 s2) ?_;refine hk _ _ ?_ ?_
 rotate_left
 ·rw[Al,if_pos rfl]
 ·exact (Ac.refl _ _).put (.inr (List.mem_singleton.2 rfl)) _
theorem Sm (hG:Sns E) {b bs:K} {a l m cp N mo:Nat} (hm:m≤N) (hN:N≤60000) (he:a+l≤m) (h8:8≤l) (hm1:1≤mo) (hm2:mo≤2*l) (hne:b≠bs) {A0:Nat→Nat} {h0:Hp} (hbs:(nxt h0).num≤bs.num)
  (hk:∀t1 h1 A1,Sws a (a+l) A0 A1→Ac [b] h0 h1→blk h1 b=.cells (Az A1 N)→k (.exit 0) t1 d h1=true):
  ∀(w i s M:Nat) (A:Nat→Nat) (t:T V) (h:Hp),i+w=a+l/4*2+2→w+1≤M→a≤i→Sws a (a+l) A0 A→Ac [b] h0 h→blk h b=.cells (Az A N)→blk h bs=.cells [.int .u64 (.ofNat s)]→b.num<(nxt h).num→
  tg 0 t=.sl b 0 m cp 0→tg 1 t=vI a→tg 6 t=vI l→tg 7 t=.ptr bs 0→tg 8 t=.int .u64 (.ofNat mo)→tg 9 t=vI i→
  iter (exec (call E (L+1) (n+1)) (L+1) fi LO) M t d h k=true:=by
 have q4:∀(h:Hp) (c:KV),AU .quo (vI l) (vI 4) h c=c (vI (l/4)) h:=fun h c=>by rw[D5 BB rfl,show Int.tdiv (.ofNat l) (.ofNat 4)=.ofNat (l/4) from rfl,Ah tO]
 have w1:Am .i64 (Int.mul (.ofNat (l/4)) (.ofNat 2))=.ofNat (l/4*2):=Ah tO;have w2:Am .i64 (Int.add (.ofNat a) (.ofNat (l/4*2)))=.ofNat (a+l/4*2):=Ah tO;have w3:=wA (a+l/4*2);have w4:Am .u64 (Int.sub (.ofNat mo) (.ofNat 1))=.ofNat (mo-1):=by rw[Ao hm1,FP,Nat.mod_eq_of_lt tO]
 intro w;induction w with
 |zero=>intro i s M A t h hw hM hi S K0 mb ms nb g0 g1 g6 g7 g8 g9;obtain ⟨M,rfl⟩:=pM M;have c1:(a+l/4*2+1<i)=True:=eT;rw[Ab,LO];refine Tst (J7 g1 g6 g9 q4 w1 w2 (J2 w3 c1)) ?_;exact hk _ _ A S K0 mb
 |succ w ih=>
  intro i s M A t h hw hM hi S K0 mb ms nb g0 g1 g6 g7 g8 g9;obtain ⟨M,rfl⟩:=pM M;have c1:(a+l/4*2+1<i)=False:=eF;rw[Ab,LO];refine Tst (J8 g1 g6 g9 q4 w1 w2 g7 (J2 w3 c1)) ?_;refine jw hG ms (fun s' h1 K1 ms1=>?_);have mb1:blk h1 b=.cells (Az A N):=by rw[K1.old b nb (fun e=>hne (List.mem_singleton.1 e))];exact mb
  have K2:Ac [b] h0 h1:=K0.own K1 hbs;have nb1:b.num<(nxt h1).num:=K1.lt nb;have s2:=fun (h:Hp) (c:KV)=>it (h:=h) (c:=c) (a:=s') (b:=mo-1);have hr:AaM s' (mo-1)≤mo-1:=wM;generalize AaM s' (mo-1)=r at s2 hr;have u1:Am .i64 (.ofNat r)=.ofNat r:=Ah tO;have u2:=wA i;have l1:i<m:=tO;by_cases h2:r<l
  ·have c2:(r<l)=True:=eq_true h2;have v1:Am .i64 (Int.add (.ofNat a) (.ofNat r))=.ofNat (a+r):=Ah tO;have l2:a+r<m:=tO;have sw1:=swN (b:=b) (A:=A) (i:=i) (j:=a+r) (N:=N) tO tO;refine Tst (J14 g0 g1 g6 g7 g8 g9 w4 s2 u1 c2 v1 sw1 u2 (J6 l1 l2 mb1 @AA @Nat.mul_one @Nat.zero_add)) ?_;refine ih (i+1) s' M (sw A i (a+r)) _ _ tO tO tO (S.swap tO tO tO tO) (K2.put (.inr (List.mem_singleton.2 rfl)) _) (by rw[Al,if_pos rfl]) (by rw[Al,if_neg (Ne.symm hne)];exact ms1) (by rw[Ap];exact nb1) (Ssc g0) (Ssc g1) (Ssc g6) (Ssc g7) (Ssc g8) Af
  ·have c2:(r<l)=False:=eq_false h2;have v0:Am .i64 (Int.sub (.ofNat r) (.ofNat l))=.ofNat (r-l):=by rw[Ao tO,Ah tO]
   have v1:Am .i64 (Int.add (.ofNat a) (.ofNat (r-l)))=.ofNat (a+(r-l)):=Ah tO;have l2:a+(r-l)<m:=tO;have sw1:=swN (b:=b) (A:=A) (i:=i) (j:=a+(r-l)) (N:=N) tO tO;refine Tst (J14 g0 g1 g6 g7 g8 g9 w4 s2 u1 c2 v1 sw1 u2 (J7 l1 l2 mb1 @AA @Nat.mul_one @Nat.zero_add v0)) ?_;refine ih (i+1) s' M (sw A i (a+(r-l))) _ _ tO tO tO (S.swap tO tO tO tO) (K2.put (.inr (List.mem_singleton.2 rfl)) _) (by rw[Al,if_pos rfl]) (by rw[Al,if_neg (Ne.symm hne)];exact ms1) (by rw[Ap];exact nb1) (Ssc g0) (Ssc g1) (Ssc g6) (Ssc g7) (Ssc g8) Af
theorem jH (hG:Sns E) {b:K} {a e m cp N:Nat} (hm:m≤N) (hN:N≤60000) (ha:a≤e) (he:e≤m) (hL:4≤L) {A:Nat→Nat} (mb:blk h b=.cells (Az A N)) (nb:b.num<(nxt h).num)
  (hk:∀h1 A1,Sws a e A A1→Ac [b] h h1→blk h1 b=.cells (Az A1 N)→kc (.ret (.tup [])) none h1=true):
  call E (L+1) (n+4) (.fn 137) [.sl b 0 m cp 0,vI a,vI e] none h kc=true:=by
 obtain ⟨l,rfl⟩:∃l,e=a+l:=⟨e-a,by omega⟩
 rw[Ag hG.f1137,vH,rj,Xw,Xu];have w1:Am .i64 (Int.sub (.ofNat (a+l)) (.ofNat a))=.ofNat l:=by rw[Ao tO,Nat.add_sub_cancel_left,Ah tO]
 by_cases h8:l<8
 ·have c1:(l<8)=True:=eq_true h8;refine Tst (J2 w1 c1) ?_;exact hk _ A .refl (.refl _ _) mb
 ·have c1:(l<8)=False:=eq_false h8;have w2:Am .u64 (.ofNat l)=.ofNat l:=by rw[FP,Nat.mod_eq_of_lt tO]
  have e5:∀(v w:V) (h:Hp) (b:K) (f:Hp→Bool),stB (.cells [w]) b 0 [v] h f=f (h.upd b (.cells [v])):=fun v w h b f=>C5 (Nat.zero_lt_succ _);have q4:∀(h:Hp) (c:KV),AU .quo (vI l) (vI 4) h c=c (vI (l/4)) h:=fun h c=>by rw[D5 BB rfl,show Int.tdiv (.ofNat l) (.ofNat 4)=.ofNat (l/4) from rfl,Ah tO]
  have u1:Am .i64 (Int.mul (.ofNat (l/4)) (.ofNat 2))=.ofNat (l/4*2):=Ah tO;have u2:Am .i64 (Int.add (.ofNat a) (.ofNat (l/4*2)))=.ofNat (a+l/4*2):=Ah tO;have u3:Am .i64 (Int.sub (.ofNat (a+l/4*2)) (.ofNat 1))=.ofNat (a+l/4*2-1):=by rw[Ao tO,Ah tO]
  have hne:b≠nxt h:=fun q=>by rw[q] at nb;omega
  refine Tst (J4 w1 c1 w2 e5) ?_;refine jx hG tO tO (fun mo m1 m2=>?_);refine Tst (J5 q4 u1 u2 u3 @Ad) ?_;refine Sm hG (a:=a) (l:=l) (cp:=cp) (mo:=mo) (bs:=nxt h) hm hN he tO m1 m2 hne (A0:=A) (h0:=h) (Nat.le_refl _) (fun t1 h1 A1 x1 x2 x3=>?_) 3 (a+l/4*2-1) l _ A _ _ tO tO tO .refl ?_ ?_ ?_ ?_ Af Af Af Af Af Af
  ·refine AV ?_;exact hk _ A1 x1 x2 x3
  ·exact ((Ac.refl _ _).new _)
  ·rw[An,Al,if_neg hne];exact mb
  ·rw[An,Al,if_pos rfl]
  ·rw[Ay,Ap,K.num_succ];omega
end
end Go.AJ
