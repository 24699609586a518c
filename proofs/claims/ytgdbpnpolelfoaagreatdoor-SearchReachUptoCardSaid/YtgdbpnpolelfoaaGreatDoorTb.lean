/- Sorting: pivots. -/
import Derived.Test.YtgdbpnpolelfoaaGreatDoorTa
set_option linter.all false
namespace Go.AJ
open Go
set_option maxRecDepth 100000
section
variable [I9] {E:Env} {L n:Nat} {h:Hp} {kc:KC} {t:T V} {d:Dc} {k:KE} {fi:FI} {c:KV} {C:Av}
theorem loop1142_0 (hE:Fns E) (hF:Hns E) {b:K} {a e j m cp N:Nat} (hm:m≤N) (hN:N≤4000000000000000000) (he:e≤m) (hj:j<e) {A:Nat→Nat} (mb:blk h b=.cells (Aw A N)):
  ∀(w i M:Nat) (t:T V),j+1≤i+w→w+1≤M→a<i→i≤j+1→Par (·≤·) a e i j A→
  T.get und (K.of 0) t=.sl b 0 m cp 0→T.get und (K.of 1) t=.int .i64 (.ofNat a)→T.get und (K.of 10) t=.int .i64 (.ofNat i)→T.get und (K.of 11) t=.int .i64 (.ofNat j)→
  (∀i' t1,i≤i'→i'≤j+1→Par (·≤·) a e i' j A→(i'≤j→A a≤A i')→T.get und (K.of 0) t1=.sl b 0 m cp 0→T.get und (K.of 1) t1=.int .i64 (.ofNat a)→T.get und (K.of 10) t1=.int .i64 (.ofNat i')→T.get und (K.of 11) t1=.int .i64 (.ofNat j)→k (.exit 0) t1 d h=true)→
  iter (exec (call E (L+1) (n+2)) (L+1) fi KD) M t d h k=true:=by
 have c66:=fun (x y:Int) (h:Hp) (kc:KC)=>BL (L:=L) (n:=n) (h:=h) (kc:=kc) hE hF (a:=x) (b:=y);intro w;induction w with
 |zero=>intro i M t hw hM ha hi P g0 g1 g9 g10 hk;obtain ⟨M,rfl⟩:=pM M;have c1:(j<i)=True:=eT;rw[Ab,KD];refine Tst (J5 g0 g1 g9 g10 c1) ?_;exact hk i _ tO hi P (fun q=>absurd q tO) (Ssc g0) (Ssc g1) (Ssc g9) (Ssc g10)
 |succ w ih=>
  intro i M t hw hM ha hi P g0 g1 g9 g10 hk;obtain ⟨M,rfl⟩:=pM M;rw[Ab,KD];by_cases hc:j<i
  ·have c1:(j<i)=True:=eq_true hc;refine Tst (J5 g0 g1 g9 g10 c1) ?_;exact hk i _ tO hi P (fun q=>absurd q tO) (Ssc g0) (Ssc g1) (Ssc g9) (Ssc g10)
  ·have c1:(j<i)=False:=eq_false hc;have e2:=fun (h:Hp) (c':KV)=>AF (h:=h) (c:=c') (A:=A) (N:=N) (i:=i) tO;have e3:=fun (h:Hp) (c':KV)=>AF (h:=h) (c:=c') (A:=A) (N:=N) (i:=a) tO;have l1:i<m:=tO;have l2:a<m:=tO;by_cases hx:A i<A a
   ·have hx':(A i<A a)=True:=eq_true hx;have w1:Ai .i64 (Int.add (.ofNat i) (.ofNat 1))=.ofNat (i+1):=Ad tO;refine Tst (J14 g0 g1 g9 g10 c1 c66 @AD mb e2 e3 l1 l2 hx' (J3 @Nat.mul_one @Nat.zero_add w1)) ?_;exact ih (i+1) M _ tO tO tO tO (P.next (Nat.not_le.2 hx)) (Ssc g0) (Ssc g1) (Ag) (Ssc g10) (fun i' t1 x1=>hk i' t1 tO)
   ·have hx':(A i<A a)=False:=eq_false hx;refine Tst (J14 g0 g1 g9 g10 c1 c66 @AD mb e2 e3 l1 l2 hx' (J2 @Nat.mul_one @Nat.zero_add)) ?_;exact hk i _ tO hi P (fun _=>Nat.le_of_not_lt hx) (Ssc g0) (Ssc g1) (Ssc g9) (Ssc g10)
theorem loop1142_1 (hE:Fns E) (hF:Hns E) {b:K} {a e i m cp N:Nat} (hm:m≤N) (hN:N≤4000000000000000000) (he:e≤m) (hi:a<i) {A:Nat→Nat} (mb:blk h b=.cells (Aw A N)):
  ∀(w j M:Nat) (t:T V),j+1≤i+w→w+1≤M→j<e→i≤j+1→Par (·≤·) a e i j A→
  T.get und (K.of 0) t=.sl b 0 m cp 0→T.get und (K.of 1) t=.int .i64 (.ofNat a)→T.get und (K.of 10) t=.int .i64 (.ofNat i)→T.get und (K.of 11) t=.int .i64 (.ofNat j)→
  (∀j' t1,j'≤j→i≤j'+1→Par (·≤·) a e i j' A→(i≤j'→¬A a≤A j')→T.get und (K.of 0) t1=.sl b 0 m cp 0→T.get und (K.of 1) t1=.int .i64 (.ofNat a)→T.get und (K.of 10) t1=.int .i64 (.ofNat i)→T.get und (K.of 11) t1=.int .i64 (.ofNat j')→k (.exit 2) t1 d h=true)→
  iter (exec (call E (L+1) (n+2)) (L+1) fi KB) M t d h k=true:=by
 have c66:=fun (x y:Int) (h:Hp) (kc:KC)=>BL (L:=L) (n:=n) (h:=h) (kc:=kc) hE hF (a:=x) (b:=y);intro w;induction w with
 |zero=>intro j M t hw hM ha hj P g0 g1 g9 g10 hk;obtain ⟨M,rfl⟩:=pM M;have c1:(j<i)=True:=eT;rw[Ab,KB];refine Tst (J5 g0 g1 g9 g10 c1) ?_;exact hk j _ tO hj P (fun q=>absurd q tO) (Ssc g0) (Ssc g1) (Ssc g9) (Ssc g10)
 |succ w ih=>
  intro j M t hw hM ha hj P g0 g1 g9 g10 hk;obtain ⟨M,rfl⟩:=pM M;rw[Ab,KB];by_cases hc:j<i
  ·have c1:(j<i)=True:=eq_true hc;refine Tst (J5 g0 g1 g9 g10 c1) ?_;exact hk j _ tO hj P (fun q=>absurd q tO) (Ssc g0) (Ssc g1) (Ssc g9) (Ssc g10)
  ·have c1:(j<i)=False:=eq_false hc;have e2:=fun (h:Hp) (c':KV)=>AF (h:=h) (c:=c') (A:=A) (N:=N) (i:=j) tO;have e3:=fun (h:Hp) (c':KV)=>AF (h:=h) (c:=c') (A:=A) (N:=N) (i:=a) tO;have l1:j<m:=tO;have l2:a<m:=tO;by_cases hx:A j<A a
   ·have hx':(A j<A a)=True:=eq_true hx;refine Tst (J14 g0 g1 g9 g10 c1 c66 @AD mb e2 e3 l1 l2 hx' (J2 @Nat.mul_one @Nat.zero_add)) ?_;exact hk j _ tO hj P (fun _=>Nat.not_le.2 hx) (Ssc g0) (Ssc g1) (Ssc g9) (Ssc g10)
   ·have hx':(A j<A a)=False:=eq_false hx;obtain ⟨j,rfl⟩:=pM j;have w1:Ai .i64 (Int.sub (.ofNat (j+1)) (.ofNat 1))=.ofNat j:=by rw[Ao tO,Ad tO];rfl
    refine Tst (J14 g0 g1 g9 g10 c1 c66 @AD mb e2 e3 l1 l2 hx' (J3 @Nat.mul_one @Nat.zero_add w1)) ?_;exact ih j M _ tO tO tO tO (P.prev (Nat.le_of_not_lt hx)) (Ssc g0) (Ssc g1) (Ssc g9) (Ag) (fun j' t1 x1=>hk j' t1 tO)
theorem II (hE:Fns E) (hF:Hns E) {b:K} {a e j m cp N:Nat} (hm:m≤N) (hN:N≤4000000000000000000) (he:e≤m) (hj:j<e) {A:Nat→Nat} (mb:blk h b=.cells (Aw A N)):
  ∀(w i M:Nat) (t:T V),j+1≤i+w→w+1≤M→a<i→i≤j+1→Par (·≤·) a e i j A→
  T.get und (K.of 0) t=.sl b 0 m cp 0→T.get und (K.of 1) t=.int .i64 (.ofNat a)→T.get und (K.of 10) t=.int .i64 (.ofNat i)→T.get und (K.of 11) t=.int .i64 (.ofNat j)→
  (∀i' t1,i≤i'→i'≤j+1→Par (·≤·) a e i' j A→(i'≤j→A a≤A i')→T.get und (K.of 0) t1=.sl b 0 m cp 0→T.get und (K.of 1) t1=.int .i64 (.ofNat a)→T.get und (K.of 10) t1=.int .i64 (.ofNat i')→T.get und (K.of 11) t1=.int .i64 (.ofNat j)→k (.exit 6) t1 d h=true)→
  iter (exec (call E (L+1) (n+2)) (L+1) fi KA) M t d h k=true:=by
 have c66:=fun (x y:Int) (h:Hp) (kc:KC)=>BL (L:=L) (n:=n) (h:=h) (kc:=kc) hE hF (a:=x) (b:=y);intro w;induction w with
 |zero=>intro i M t hw hM ha hi P g0 g1 g9 g10 hk;obtain ⟨M,rfl⟩:=pM M;have c1:(j<i)=True:=eT;rw[Ab,KA];refine Tst (J5 g0 g1 g9 g10 c1) ?_;exact hk i _ tO hi P (fun q=>absurd q tO) (Ssc g0) (Ssc g1) (Ssc g9) (Ssc g10)
 |succ w ih=>
  intro i M t hw hM ha hi P g0 g1 g9 g10 hk;obtain ⟨M,rfl⟩:=pM M;rw[Ab,KA];by_cases hc:j<i
  ·have c1:(j<i)=True:=eq_true hc;refine Tst (J5 g0 g1 g9 g10 c1) ?_;exact hk i _ tO hi P (fun q=>absurd q tO) (Ssc g0) (Ssc g1) (Ssc g9) (Ssc g10)
  ·have c1:(j<i)=False:=eq_false hc;have e2:=fun (h:Hp) (c':KV)=>AF (h:=h) (c:=c') (A:=A) (N:=N) (i:=i) tO;have e3:=fun (h:Hp) (c':KV)=>AF (h:=h) (c:=c') (A:=A) (N:=N) (i:=a) tO;have l1:i<m:=tO;have l2:a<m:=tO;by_cases hx:A i<A a
   ·have hx':(A i<A a)=True:=eq_true hx;have w1:Ai .i64 (Int.add (.ofNat i) (.ofNat 1))=.ofNat (i+1):=Ad tO;refine Tst (J14 g0 g1 g9 g10 c1 c66 @AD mb e2 e3 l1 l2 hx' (J3 @Nat.mul_one @Nat.zero_add w1)) ?_;exact ih (i+1) M _ tO tO tO tO (P.next (Nat.not_le.2 hx)) (Ssc g0) (Ssc g1) (Ag) (Ssc g10) (fun i' t1 x1=>hk i' t1 tO)
   ·have hx':(A i<A a)=False:=eq_false hx;refine Tst (J14 g0 g1 g9 g10 c1 c66 @AD mb e2 e3 l1 l2 hx' (J2 @Nat.mul_one @Nat.zero_add)) ?_;exact hk i _ tO hi P (fun _=>Nat.le_of_not_lt hx) (Ssc g0) (Ssc g1) (Ssc g9) (Ssc g10)
theorem IH (hE:Fns E) (hF:Hns E) {b:K} {a e i m cp N:Nat} (hm:m≤N) (hN:N≤4000000000000000000) (he:e≤m) (hi:a<i) {A:Nat→Nat} (mb:blk h b=.cells (Aw A N)):
  ∀(w j M:Nat) (t:T V),j+1≤i+w→w+1≤M→j<e→i≤j+1→Par (·≤·) a e i j A→
  T.get und (K.of 0) t=.sl b 0 m cp 0→T.get und (K.of 1) t=.int .i64 (.ofNat a)→T.get und (K.of 10) t=.int .i64 (.ofNat i)→T.get und (K.of 11) t=.int .i64 (.ofNat j)→
  (∀j' t1,j'≤j→i≤j'+1→Par (·≤·) a e i j' A→(i≤j'→¬A a≤A j')→T.get und (K.of 0) t1=.sl b 0 m cp 0→T.get und (K.of 1) t1=.int .i64 (.ofNat a)→T.get und (K.of 10) t1=.int .i64 (.ofNat i)→T.get und (K.of 11) t1=.int .i64 (.ofNat j')→k (.exit 8) t1 d h=true)→
  iter (exec (call E (L+1) (n+2)) (L+1) fi Kz) M t d h k=true:=by
 have c66:=fun (x y:Int) (h:Hp) (kc:KC)=>BL (L:=L) (n:=n) (h:=h) (kc:=kc) hE hF (a:=x) (b:=y);intro w;induction w with
 |zero=>intro j M t hw hM ha hj P g0 g1 g9 g10 hk;obtain ⟨M,rfl⟩:=pM M;have c1:(j<i)=True:=eT;rw[Ab,Kz];refine Tst (J5 g0 g1 g9 g10 c1) ?_;exact hk j _ tO hj P (fun q=>absurd q tO) (Ssc g0) (Ssc g1) (Ssc g9) (Ssc g10)
 |succ w ih=>
  intro j M t hw hM ha hj P g0 g1 g9 g10 hk;obtain ⟨M,rfl⟩:=pM M;rw[Ab,Kz];by_cases hc:j<i
  ·have c1:(j<i)=True:=eq_true hc;refine Tst (J5 g0 g1 g9 g10 c1) ?_;exact hk j _ tO hj P (fun q=>absurd q tO) (Ssc g0) (Ssc g1) (Ssc g9) (Ssc g10)
  ·have c1:(j<i)=False:=eq_false hc;have e2:=fun (h:Hp) (c':KV)=>AF (h:=h) (c:=c') (A:=A) (N:=N) (i:=j) tO;have e3:=fun (h:Hp) (c':KV)=>AF (h:=h) (c:=c') (A:=A) (N:=N) (i:=a) tO;have l1:j<m:=tO;have l2:a<m:=tO;by_cases hx:A j<A a
   ·have hx':(A j<A a)=True:=eq_true hx;refine Tst (J14 g0 g1 g9 g10 c1 c66 @AD mb e2 e3 l1 l2 hx' (J2 @Nat.mul_one @Nat.zero_add)) ?_;exact hk j _ tO hj P (fun _=>Nat.not_le.2 hx) (Ssc g0) (Ssc g1) (Ssc g9) (Ssc g10)
   ·have hx':(A j<A a)=False:=eq_false hx;obtain ⟨j,rfl⟩:=pM j;have w1:Ai .i64 (Int.sub (.ofNat (j+1)) (.ofNat 1))=.ofNat j:=by rw[Ao tO,Ad tO];rfl
    refine Tst (J14 g0 g1 g9 g10 c1 c66 @AD mb e2 e3 l1 l2 hx' (J3 @Nat.mul_one @Nat.zero_add w1)) ?_;exact ih j M _ tO tO tO tO (P.prev (Nat.le_of_not_lt hx)) (Ssc g0) (Ssc g1) (Ssc g9) (Ag) (fun j' t1 x1=>hk j' t1 tO)
theorem loop1142_4 (hE:Fns E) (hF:Hns E) {b:K} {a e m cp N:Nat} (hm:m≤N) (hN:N≤4000000000000000000) (he:e≤m) (hL:N+3≤L) {A0:Nat→Nat} {h0:Hp}
  (hk:∀j t1 h1 A1,a≤j→j<e→Par (·≤·) a e (j+1) j A1→Sws a e A0 A1→Ac [b] h0 h1→blk h1 b=.cells (Aw A1 N)→T.get und (K.of 0) t1=.sl b 0 m cp 0→T.get und (K.of 1) t1=.int .i64 (.ofNat a)→T.get und (K.of 11) t1=.int .i64 (.ofNat j)→k (.exit 4) t1 d h1=true):
  ∀(w i j M:Nat) (A:Nat→Nat) (t:T V) (h:Hp),j+1≤i+w→w+1≤M→a<i→i≤j+1→j<e→Par (·≤·) a e i j A→Sws a e A0 A→Ac [b] h0 h→blk h b=.cells (Aw A N)→
  T.get und (K.of 0) t=.sl b 0 m cp 0→T.get und (K.of 1) t=.int .i64 (.ofNat a)→T.get und (K.of 10) t=.int .i64 (.ofNat i)→T.get und (K.of 11) t=.int .i64 (.ofNat j)→
  iter (exec (call E (L+1) (n+2)) (L+1) fi Ky) M t d h k=true:=by
 intro w;induction w with
 |zero=>
  intro i j M A t h hw hM ha hi hj P S K0 mb g0 g1 g9 g10;obtain ⟨M,rfl⟩:=pM M;rw[Ab,Ky];refine Tst (J5 g0 g1 g9 g10 @Ae) ?_;refine II hE hF (a:=a) (e:=e) (j:=j) (cp:=cp) hm hN he hj mb N i _ _ tO tO ha hi P g0 g1 g9 g10 (fun i1 t1 x1 x2 P1 q1 g0 g1 g9 g10=>?_);refine Tst (J5 g0 g1 g9 g10 @Ae) ?_;refine IH hE hF (a:=a) (e:=e) (i:=i1) (cp:=cp) hm hN he tO mb N j _ _ tO tO hj x2 P1 g0 g1 g9 g10 (fun j1 t2 y1 y2 P2 q2 g0 g1 g9 g10=>?_);have c1:(j1<i1)=True:=eT;refine Tst (J5 g0 g1 g9 g10 c1) ?_;obtain rfl:i1=j1+1:=by omega
  exact hk j1 _ _ A tO tO P2 S K0 mb (Ssc g0) (Ssc g1) (Ssc g10)
 |succ w ih=>
  intro i j M A t h hw hM ha hi hj P S K0 mb g0 g1 g9 g10;obtain ⟨M,rfl⟩:=pM M;rw[Ab,Ky];refine Tst (J5 g0 g1 g9 g10 @Ae) ?_;refine II hE hF (a:=a) (e:=e) (j:=j) (cp:=cp) hm hN he hj mb N i _ _ tO tO ha hi P g0 g1 g9 g10 (fun i1 t1 x1 x2 P1 q1 g0 g1 g9 g10=>?_);refine Tst (J5 g0 g1 g9 g10 @Ae) ?_;refine IH hE hF (a:=a) (e:=e) (i:=i1) (cp:=cp) hm hN he tO mb N j _ _ tO tO hj x2 P1 g0 g1 g9 g10 (fun j1 t2 y1 y2 P2 q2 g0 g1 g9 g10=>?_);by_cases hc:j1<i1
  ·have c1:(j1<i1)=True:=eq_true hc;refine Tst (J5 g0 g1 g9 g10 c1) ?_;obtain rfl:i1=j1+1:=by omega
   exact hk j1 _ _ A tO tO P2 S K0 mb (Ssc g0) (Ssc g1) (Ssc g10)
  ·have c1:(j1<i1)=False:=eq_false hc;have q1':=q1 tO;have q2':=q2 tO;have hne:i1≠j1:=fun q=>by subst q;exact q2' q1'
   obtain ⟨j1,rfl⟩:=pM j1;have e2:=fun (h:Hp) (c':KV)=>AF (h:=h) (c:=c') (A:=A) (N:=N) (i:=i1) tO;have e3:=fun (h:Hp) (c':KV)=>AF (h:=h) (c:=c') (A:=A) (N:=N) (i:=j1+1) tO;have s1:=fun (h:Hp) (k':Hp→Bool)=>BF (h:=h) (f:=k') (A:=A) (N:=N) (b:=b) (x:=A (j1+1)) (i:=i1) tO;have s2:=fun (h:Hp) (k':Hp→Bool)=>BF (h:=h) (f:=k') (A:=putA A i1 (A (j1+1))) (N:=N) (b:=b) (x:=A i1) (i:=j1+1) tO;have l1:i1<m:=tO;have l2:j1+1<m:=tO;have w1:Ai .i64 (Int.add (.ofNat i1) (.ofNat 1))=.ofNat (i1+1):=Ad tO;have w2:Ai .i64 (Int.sub (.ofNat (j1+1)) (.ofNat 1))=.ofNat j1:=by rw[Ao tO,Ad tO];rfl
   refine Tst (J14 g0 g1 g9 g10 c1 e2 e3 s1 s2 l1 l2 @Dz w1 (J5 w2 @AD mb @Nat.mul_one @Nat.zero_add)) ?_;exact ih (i1+1) j1 M (sw A i1 (j1+1)) _ _ tO tO tO tO tO (P2.swap tO tO q1' q2') (S.swap tO tO tO tO) (K0.put (.inr (List.mem_singleton.2 rfl)) _) (by rw[Ak,if_pos rfl]) (Ssc g0) (Ssc g1) (Ag) (Ag)
theorem call1142 (hE:Fns E) (hF:Hns E) (hG:Sns E) {b:K} {a e p m cp N:Nat} (hm:m≤N) (hN:N≤4000000000000000000) (ha:a≤p) (hp:p<e) (he:e≤m) (hL:N+3≤L) {A:Nat→Nat} (mb:blk h b=.cells (Aw A N))
  (hk:∀j al h1 A1,Piv (·≤·) a e j A1→Sws a e A A1→Ac [b] h h1→blk h1 b=.cells (Aw A1 N)→kc (.ret (.tup [.int .i64 (.ofNat j),.bool al])) none h1=true):
  call E (L+1) (n+3) (.fn 142) [.sl b 0 m cp 0,.int .i64 (.ofNat a),.int .i64 (.ofNat e),.int .i64 (.ofNat p)] none h kc=true:=by
 rw[Af hG.f1142,c1142,r1142,p1142_0,p1142_1,p1142_2,p1142_3,p1142_4,p1142_5,p1142_6,p1142_7,p1142_8,p1142_9,p1142_10,p1142_11];have swp:∀(A:Nat→Nat) (i j:Nat),i<m→j<m→(∀(h:Hp) (c':KV),ldB (.cells (Aw A N)) i h c'=c' (.int .i64 (.ofNat (A i))) h)∧(∀(h:Hp) (c':KV),ldB (.cells (Aw A N)) j h c'=c' (.int .i64 (.ofNat (A j))) h)∧(∀(h:Hp) (f:Hp→Bool),stB (.cells (Aw A N)) b i [.int .i64 (.ofNat (A j))] h f=f (h.upd b (.cells (Aw (putA A i (A j)) N))))∧(∀(h:Hp) (f:Hp→Bool),stB (.cells (Aw (putA A i (A j)) N)) b j [.int .i64 (.ofNat (A i))] h f=f (h.upd b (.cells (Aw (sw A i j) N)))):=
  fun A i j hi hj=>⟨fun _ _=>AF tO,fun _ _=>AF tO,fun _ _=>BF tO,fun _ _=>by rw[BF tO,Dz]⟩
 have l1:a<m:=tO;have l2:p<m:=tO;have w1:Ai .i64 (Int.add (.ofNat a) (.ofNat 1))=.ofNat (a+1):=Ad tO;have w2:Ai .i64 (Int.sub (.ofNat e) (.ofNat 1))=.ofNat (e-1):=by rw[Ao tO,Ad tO]
 refine Tst (J9 (swp A a p l1 l2) l1 l2 w1 w2 @AD mb @Ae (J2 @Nat.mul_one @Nat.zero_add)) ?_;have mb1:blk (h.upd b (.cells (Aw (sw A a p) N))) b=.cells (Aw (sw A a p) N):=by rw[Ak,if_pos rfl]
 have S1:Sws a e A (sw A a p):=.swap .refl tO tO ha hp;have K1:Ac [b] h (h.upd b (.cells (Aw (sw A a p) N))):=(Ac.refl _ _).put (.inr (List.mem_singleton.2 rfl)) _;generalize sw A a p=A1 at*;generalize h.upd b (.cells (Aw A1 N))=h1 at*;refine loop1142_0 hE hF (a:=a) (e:=e) (j:=e-1) (cp:=cp) hm hN he tO mb1 N (a+1) _ _ tO tO tO tO ⟨fun k k1 k2=>by omega,fun k k1 k2=>by omega⟩ (Ag) (Ag) (Ag) (Ag) (fun i1 t1 x1 x2 P1 q1 g0 g1 g9 g10=>?_);refine Tst (J5 g0 g1 g9 g10 @Ae) ?_;refine loop1142_1 hE hF (a:=a) (e:=e) (i:=i1) (cp:=cp) hm hN he tO mb1 N (e-1) _ _ tO tO tO x2 P1 g0 g1 g9 g10 (fun j1 t2 y1 y2 P2 q2 g0 g1 g9 g10=>?_);by_cases hc:j1<i1
 ·have c1:(j1<i1)=True:=eq_true hc;obtain rfl:i1=j1+1:=by omega
  have l3:j1<m:=tO;refine Tst (J10 g0 g1 g9 g10 c1 (swp A1 j1 a l3 l1) l1 l3 @AD (J3 mb1 @Nat.mul_one @Nat.zero_add)) ?_;exact hk j1 true _ (sw A1 j1 a) (P2.piv totN tO tO) (S1.swap tO tO tO tO) (K1.put (.inr (List.mem_singleton.2 rfl)) _) (by rw[Ak,if_pos rfl])
 ·have c1:(j1<i1)=False:=eq_false hc;have q1':=q1 tO;have q2':=q2 tO;have hne:i1≠j1:=fun q=>by subst q;exact q2' q1'
  obtain ⟨j1,rfl⟩:=pM j1;have l3:i1<m:=tO;have l4:j1+1<m:=tO;have w3:Ai .i64 (Int.add (.ofNat i1) (.ofNat 1))=.ofNat (i1+1):=Ad tO;have w4:Ai .i64 (Int.sub (.ofNat (j1+1)) (.ofNat 1))=.ofNat j1:=by rw[Ao tO,Ad tO];rfl
  refine Tst (J10 g0 g1 g9 g10 c1 (swp A1 i1 (j1+1) l3 l4) l3 l4 @AD (J6 mb1 @Nat.mul_one @Nat.zero_add w3 w4 @Ae)) ?_;refine loop1142_4 hE hF (a:=a) (e:=e) (cp:=cp) hm hN he hL (A0:=A) (h0:=h) (fun j t3 h3 A3 z1 z2 P3 S3 K3 mb3 g0 g1 g10=>?_) N (i1+1) j1 _ (sw A1 i1 (j1+1)) _ _ tO tO tO tO tO (P2.swap tO tO q1' q2') (S1.swap tO tO tO tO) (K1.put (.inr (List.mem_singleton.2 rfl)) _) (by rw[Ak,if_pos rfl]) (Ssc g0) (Ssc g1) (Ag) (Ag);have l5:j<m:=tO;refine Tst (J9 g0 g1 g10 (swp A3 j a l5 l1) l1 l5 @AD mb3 (J2 @Nat.mul_one @Nat.zero_add)) ?_;exact hk j false _ (sw A3 j a) (P3.piv totN tO tO) (S3.swap tO tO tO tO) (K3.put (.inr (List.mem_singleton.2 rfl)) _) (by rw[Ak,if_pos rfl])
end
end Go.AJ
namespace Go.AJ
open Go
set_option maxRecDepth 100000
section
variable [I9] {E:Env} {L n:Nat} {h:Hp} {kc:KC} {t:T V} {d:Dc} {k:KE} {fi:FI} {c:KV} {C:Av}
theorem Kg (hE:Fns E) (hF:Hns E) (hG:Sns E) {b bs:K} {lo hi p q s m cp N:Nat} (hm:m≤N) (hh:hi≤m) (hp:lo≤p∧p<hi) (hq:lo≤q∧q<hi) (hs:s≤1000) {A:Nat→Nat} (mb:blk h b=.cells (Aw A N)) (ms:blk h bs=.cells [.int .i64 (.ofNat s)]) (nb:b.num<(nxt h).num) (hne:b≠bs)
  (hk:∀x y s' h1,lo≤x∧x<hi→lo≤y∧y<hi→s'≤s+1→Ac [bs] h h1→blk h1 b=.cells (Aw A N)→blk h1 bs=.cells [.int .i64 (.ofNat s')]→kc (.ret (.tup [.int .i64 (.ofNat x),.int .i64 (.ofNat y)])) none h1=true):
  call E (L+1) (n+3) (.fn 307) [.sl b 0 m cp 0,.int .i64 (.ofNat p),.int .i64 (.ofNat q),.ptr bs 0] none h kc=true:=by
 rw[Af hG.f1307,c1307,r1307,p1307_0,p1307_1,p1307_2];have c66:=fun (x y:Int) (h:Hp) (kc:KC)=>BL (L:=L) (n:=n) (h:=h) (kc:=kc) hE hF (a:=x) (b:=y);have e2:=fun (h:Hp) (c':KV)=>AF (h:=h) (c:=c') (A:=A) (N:=N) (i:=p) tO;have e3:=fun (h:Hp) (c':KV)=>AF (h:=h) (c:=c') (A:=A) (N:=N) (i:=q) tO;have l1:p<m:=tO;have l2:q<m:=tO;by_cases hx:A q<A p
 ·have hx':(A q<A p)=True:=eq_true hx;have e4:∀(v:V) (h:Hp) (c':KV),ldB (.cells [v]) 0 h c'=c' v h:=fun v h c'=>Cl rfl;have e5:∀(v w:V) (h:Hp) (f:Hp→Bool),stB (.cells [w]) bs 0 [v] h f=f (h.upd bs (.cells [v])):=fun v w h f=>Cs (Nat.zero_lt_succ _);have w1:Ai .i64 (Int.add (.ofNat s) (.ofNat 1))=.ofNat (s+1):=Ad tO;refine Tst (J11 c66 e2 e3 e4 e5 l1 l2 hx' w1 @AD (J4 mb ms @Nat.mul_one @Nat.zero_add)) ?_;exact hk q p (s+1) _ hq hp tO ((Ac.refl _ _).put (.inr (List.mem_singleton.2 rfl)) _) (by rw[Ak,if_neg hne];exact mb) (by rw[Ak,if_pos rfl])
 ·have hx':(A q<A p)=False:=eq_false hx;refine Tst (J9 c66 e2 e3 l1 l2 hx' @AD mb (J2 @Nat.mul_one @Nat.zero_add)) ?_;exact hk p q s _ hp hq tO (.refl _ _) mb ms
theorem Ki (hE:Fns E) (hF:Hns E) (hG:Sns E) {b bs:K} {lo hi p q r s m cp N:Nat} (hm:m≤N) (hh:hi≤m) (hp:lo≤p∧p<hi) (hq:lo≤q∧q<hi) (hr:lo≤r∧r<hi) (hs:s≤990) {A:Nat→Nat} (mb:blk h b=.cells (Aw A N)) (ms:blk h bs=.cells [.int .i64 (.ofNat s)]) (nb:b.num<(nxt h).num) (hne:b≠bs)
  (hk:∀x s' h1,lo≤x∧x<hi→s'≤s+3→Ac [bs] h h1→blk h1 b=.cells (Aw A N)→blk h1 bs=.cells [.int .i64 (.ofNat s')]→kc (.ret (.int .i64 (.ofNat x))) none h1=true):
  call E (L+1) (n+4) (.fn 202) [.sl b 0 m cp 0,.int .i64 (.ofNat p),.int .i64 (.ofNat q),.int .i64 (.ofNat r),.ptr bs 0] none h kc=true:=by
 rw[Af hG.f1202,c1202,r1202,p1202_0,p1202_1,p1202_2,p1202_3,p1202_4];refine FV ?_;refine Kg hE hF hG hm hh hp hq tO mb ms nb hne (fun x1 y1 s1 h1 a1 b1 z1 K1 mb1 ms1=>?_);refine FV ?_;refine Kg hE hF hG hm hh b1 hr tO mb1 ms1 (Nat.lt_of_lt_of_le nb K1.nx) hne (fun x2 y2 s2 h2 a2 b2 z2 K2 mb2 ms2=>?_);refine FV ?_;refine Kg hE hF hG hm hh a1 a2 tO mb2 ms2 (Nat.lt_of_lt_of_le nb (K1.trans K2).nx) hne (fun x3 y3 s3 h3 a3 b3 z3 K3 mb3 ms3=>?_);refine FV ?_;exact hk y3 s3 h3 b3 tO ((K1.trans K2).trans K3) mb3 ms3
theorem Kj (hE:Fns E) (hF:Hns E) (hG:Sns E) {b bs:K} {lo hi p s m cp N:Nat} (hm:m≤N) (hN:N≤4000000000000000000) (hh:hi≤m) (hp:lo+1≤p∧p+1<hi) (hs:s≤990) {A:Nat→Nat} (mb:blk h b=.cells (Aw A N)) (ms:blk h bs=.cells [.int .i64 (.ofNat s)]) (nb:b.num<(nxt h).num) (hne:b≠bs)
  (hk:∀x s' h1,lo≤x∧x<hi→s'≤s+3→Ac [bs] h h1→blk h1 b=.cells (Aw A N)→blk h1 bs=.cells [.int .i64 (.ofNat s')]→kc (.ret (.int .i64 (.ofNat x))) none h1=true):
  call E (L+1) (n+5) (.fn 201) [.sl b 0 m cp 0,.int .i64 (.ofNat p),.ptr bs 0] none h kc=true:=by
 rw[Af hG.f1201,c1201,r1201,p1201_0,p1201_1];have w1:Ai .i64 (Int.add (.ofNat p) (.ofNat 1))=.ofNat (p+1):=Ad tO;have w2:Ai .i64 (Int.sub (.ofNat p) (.ofNat 1))=.ofNat (p-1):=by rw[Ao tO,Ad tO]
 refine Tst (J2 w1 w2) ?_;refine Ki hE hF hG (lo:=lo) (hi:=hi) hm hh tO tO tO tO mb ms nb hne (fun x1 s1 h1 a1 z1 K1 mb1 ms1=>?_);refine FV ?_;exact hk x1 s1 h1 a1 z1 K1 mb1 ms1
theorem Ah.own {h h1:Hp} {x:Blk} (Kb:Ac [nxt h] (h.upd (nxt h) x).bump h1):Ah h h1:=by have n1:=Kb.nx;rw[Au,An,K.num_succ] at n1;refine ⟨tO,fun b hb=>?_⟩;rw[Kb.old b (by rw[Au,An,K.num_succ];omega) (fun q=>by rw[List.mem_singleton.1 q] at hb;omega),Am,Ak,if_neg (fun q=>by rw[q] at hb;omega)]
theorem tail1138 {bs:K} {p s:Nat} (hs:s≤1000) (ms:blk h bs=.cells [.int .i64 (.ofNat s)]) (g9:T.get und (K.of 9) t=.ptr bs 0) (g11:T.get und (K.of 11) t=.int .i64 (.ofNat p))
  (hk:∀v t1,T.get und (K.of 6) t1=.int .i64 (.ofNat p)→T.get und (K.of 7) t1=.int .i64 (.ofNat v)→k .ret t1 d h=true):
  exec C L fi q1138_7 t d h k=true:=by
 have e4:∀(v:V) (h:Hp) (c':KV),ldB (.cells [v]) 0 h c'=c' v h:=fun v h c'=>Cl rfl;rw[q1138_7,p1138_7];by_cases h0:s=0
 ·have h0':(s=0)=True:=eq_true h0;refine Tst (J5 g9 g11 ms e4 h0') ?_;exact hk 1 _ (Ag) (Ag)
 ·have h0':(s=0)=False:=eq_false h0;by_cases h1:s=12
  ·have h1':(s=12)=True:=eq_true h1;refine Tst (J6 g9 g11 ms e4 h0' h1') ?_;exact hk 2 _ (Ag) (Ag)
  ·have h1':(s=12)=False:=eq_false h1;refine Tst (J6 g9 g11 ms e4 h0' h1') ?_;exact hk 0 _ (Ag) (Ag)
theorem call1138 (hE:Fns E) (hF:Hns E) (hG:Sns E) {b:K} {a l m cp N:Nat} (hm:m≤N) (hN:N≤1000000000000000000) (hh:a+l≤m) (hl:12<l) {A:Nat→Nat} (mb:blk h b=.cells (Aw A N)) (nb:b.num<(nxt h).num)
  (hk:∀p v h1,a≤p→p<a+l→Ah h h1→kc (.ret (.tup [.int .i64 (.ofNat p),.int .i64 (.ofNat v)])) none h1=true):
  call E (L+1) (n+6) (.fn 138) [.sl b 0 m cp 0,.int .i64 (.ofNat a),.int .i64 (.ofNat (a+l))] none h kc=true:=by
 rw[Af hG.f1138,c1138,r1138,p1138_0,p1138_1,p1138_2,p1138_3,p1138_4,p1138_5,p1138_6];have q4:∀(h:Hp) (c:KV),AK .quo (.int .i64 (.ofNat l)) (.int .i64 (.ofNat 4)) h c=c (.int .i64 (.ofNat (l/4))) h:=fun h c=>by rw[DH Bt rfl,show Int.tdiv (.ofNat l) (.ofNat 4)=.ofNat (l/4) from rfl,Ad tO]
 have w1:Ai .i64 (Int.sub (.ofNat (a+l)) (.ofNat a))=.ofNat l:=by rw[Ao tO,Nat.add_sub_cancel_left,Ad tO]
 have u1:Ai .i64 (Int.mul (.ofNat (l/4)) (.ofNat 1))=.ofNat (l/4*1):=Ad tO;have u2:Ai .i64 (Int.mul (.ofNat (l/4)) (.ofNat 2))=.ofNat (l/4*2):=Ad tO;have u3:Ai .i64 (Int.mul (.ofNat (l/4)) (.ofNat 3))=.ofNat (l/4*3):=Ad tO;have v1:Ai .i64 (Int.add (.ofNat a) (.ofNat (l/4*1)))=.ofNat (a+l/4*1):=Ad tO;have v2:Ai .i64 (Int.add (.ofNat a) (.ofNat (l/4*2)))=.ofNat (a+l/4*2):=Ad tO;have v3:Ai .i64 (Int.add (.ofNat a) (.ofNat (l/4*3)))=.ofNat (a+l/4*3):=Ad tO;have c8:(l<8)=False:=eF;have mb0:blk (h.upd (nxt h) (.cells [.int .i64 (.ofNat 0)])).bump b=.cells (Aw A N):=by rw[Am,Ak,if_neg (fun q=>by rw[q] at nb;omega)];exact mb
 have ms0:blk (h.upd (nxt h) (.cells [.int .i64 (.ofNat 0)])).bump (nxt h)=.cells [.int .i64 (.ofNat 0)]:=by rw[Am,Ak,if_pos rfl]
 have nb0:b.num<(nxt (h.upd (nxt h) (.cells [.int .i64 (.ofNat 0)])).bump).num:=by rw[Au,An,K.num_succ];omega
 have hne:b≠nxt h:=fun q=>by rw[q] at nb;omega
 have own:=fun h1=>Ah.own (h:=h) (h1:=h1) (x:=.cells [.int .i64 (.ofNat 0)]);by_cases h5:l<50
 ·have h5':(l<50)=True:=eq_true h5;refine Tst (J10 q4 w1 u1 u2 u3 v1 v2 v3 c8 h5') ?_;refine Ki hE hF hG (lo:=a) (hi:=a+l) hm hh tO tO tO tO mb0 ms0 nb0 hne (fun x1 s1 h1 a1 z1 K1 mb1 ms1=>?_);refine FV ?_;refine tail1138 (p:=x1) tO ms1 (Ag) (Ag) (fun v t1 g6 g7=>?_);refine Tst (J2 g6 g7) ?_;exact hk x1 v _ a1.1 a1.2 (own _ K1)
 ·have h5':(l<50)=False:=eq_false h5;refine Tst (J10 q4 w1 u1 u2 u3 v1 v2 v3 c8 h5') ?_;refine Kj hE hF hG (lo:=a) (hi:=a+l) hm tO hh tO tO mb0 ms0 nb0 hne (fun x1 s1 h1 a1 z1 K1 mb1 ms1=>?_);refine FV ?_;refine Kj hE hF hG (lo:=a) (hi:=a+l) hm tO hh tO tO mb1 ms1 (Nat.lt_of_lt_of_le nb0 K1.nx) hne (fun x2 s2 h2 a2 z2 K2 mb2 ms2=>?_);refine FV ?_;refine Kj hE hF hG (lo:=a) (hi:=a+l) hm tO hh tO tO mb2 ms2 (Nat.lt_of_lt_of_le nb0 (K1.trans K2).nx) hne (fun x3 s3 h3 a3 z3 K3 mb3 ms3=>?_);refine FV ?_;refine Ki hE hF hG (lo:=a) (hi:=a+l) hm hh a1 a2 a3 tO mb3 ms3 (Nat.lt_of_lt_of_le nb0 ((K1.trans K2).trans K3).nx) hne (fun x4 s4 h4 a4 z4 K4 mb4 ms4=>?_);refine FV ?_;refine tail1138 (p:=x4) tO ms4 (Ag) (Ag) (fun v t1 g6 g7=>?_);refine Tst (J2 g6 g7) ?_;exact hk x4 v _ a4.1 a4.2 (own _ (((K1.trans K2).trans K3).trans K4))
end
end Go.AJ
namespace Go.AJ
open Go
set_option maxRecDepth 100000
section
variable [I9] {E:Env} {L n:Nat} {h:Hp} {kc:KC} {t:T V} {d:Dc} {k:KE} {fi:FI} {c:KV} {C:Av}
theorem swN {b:K} {N:Nat} {A:Nat→Nat} {i j:Nat} (hi:i<N) (hj:j<N):(∀(h:Hp) (c':KV),ldB (.cells (Aw A N)) i h c'=c' (.int .i64 (.ofNat (A i))) h)∧(∀(h:Hp) (c':KV),ldB (.cells (Aw A N)) j h c'=c' (.int .i64 (.ofNat (A j))) h)∧(∀(h:Hp) (f:Hp→Bool),stB (.cells (Aw A N)) b i [.int .i64 (.ofNat (A j))] h f=f (h.upd b (.cells (Aw (putA A i (A j)) N))))∧(∀(h:Hp) (f:Hp→Bool),stB (.cells (Aw (putA A i (A j)) N)) b j [.int .i64 (.ofNat (A i))] h f=f (h.upd b (.cells (Aw (sw A i j) N)))):=
 ⟨fun _ _=>AF hi,fun _ _=>AF hj,fun _ _=>BF hi,fun _ _=>by rw[BF hj,Dz]⟩
theorem loop1140_0 (hE:Fns E) (hF:Hns E) {b:K} {a e q m cp N:Nat} (hm:m≤N) (hN:N≤4000000000000000000) (he:e≤m) {A:Nat→Nat} (mb:blk h b=.cells (Aw A N)):
  ∀(w i M:Nat) (t:T V),i+w=e→w+1≤M→a<i→Srt (·≤·) a i A→
  T.get und (K.of 0) t=.sl b 0 m cp 0→T.get und (K.of 1) t=.int .i64 (.ofNat a)→T.get und (K.of 2) t=.int .i64 (.ofNat e)→T.get und (K.of 7) t=.int .i64 (.ofNat i)→T.get und (K.of 8) t=.int .i64 (.ofNat q)→
  (∀i' t1,i≤i'→i'≤e→Srt (·≤·) a i' A→T.get und (K.of 0) t1=.sl b 0 m cp 0→T.get und (K.of 1) t1=.int .i64 (.ofNat a)→T.get und (K.of 2) t1=.int .i64 (.ofNat e)→T.get und (K.of 7) t1=.int .i64 (.ofNat i')→T.get und (K.of 8) t1=.int .i64 (.ofNat q)→k (.exit 2) t1 d h=true)→
  iter (exec (call E (L+1) (n+2)) (L+1) fi KL) M t d h k=true:=by
 have c66:=fun (x y:Int) (h:Hp) (kc:KC)=>BL (L:=L) (n:=n) (h:=h) (kc:=kc) hE hF (a:=x) (b:=y);intro w;induction w with
 |zero=>intro i M t hw hM ha S g0 g1 g2 g7 g8 hk;obtain ⟨M,rfl⟩:=pM M;have c1:(i<e)=False:=eF;rw[Ab,KL];refine Tst (J6 g0 g1 g2 g7 g8 c1) ?_;exact hk i _ tO tO S (Ssc g0) (Ssc g1) (Ssc g2) (Ssc g7) (Ssc g8)
 |succ w ih=>
  intro i M t hw hM ha S g0 g1 g2 g7 g8 hk;obtain ⟨M,rfl⟩:=pM M;have c1:(i<e)=True:=eT;have l1:i<m:=tO;have l2:i-1<m:=tO;have w2:Ai .i64 (Int.sub (.ofNat i) (.ofNat 1))=.ofNat (i-1):=by rw[Ao tO,Ad tO]
  have e2:=fun (h:Hp) (c':KV)=>AF (h:=h) (c:=c') (A:=A) (N:=N) (i:=i) tO;have e3:=fun (h:Hp) (c':KV)=>AF (h:=h) (c:=c') (A:=A) (N:=N) (i:=i-1) tO;rw[Ab,KL];by_cases hx:A i<A (i-1)
  ·have hx':(A i<A (i-1))=True:=eq_true hx;refine Tst (J14 g0 g1 g2 g7 g8 c1 c66 l1 l2 w2 e2 e3 hx' (J4 mb @AD @Nat.mul_one @Nat.zero_add)) ?_;exact hk i _ tO tO S (Ssc g0) (Ssc g1) (Ssc g2) (Ssc g7) (Ssc g8)
  ·have hx':(A i<A (i-1))=False:=eq_false hx;have w1:Ai .i64 (Int.add (.ofNat i) (.ofNat 1))=.ofNat (i+1):=Ad tO;refine Tst (J14 g0 g1 g2 g7 g8 c1 c66 l1 l2 w2 e2 e3 hx' (J5 mb @AD @Nat.mul_one @Nat.zero_add w1)) ?_;exact ih (i+1) M _ tO tO tO ((Ins.start S).stop totN ha (Nat.le_refl _) (Nat.le_of_not_lt hx)) (Ssc g0) (Ssc g1) (Ssc g2) (Ag) (Ssc g8) (fun i' t1 x1=>hk i' t1 tO)
theorem loop1140_1 (hE:Fns E) (hF:Hns E) {b:K} {a e i q y m cp N:Nat} (hy:y<e) (he:e≤m) (hm:m≤N) (hN:N≤4000000000000000000) {A0:Nat→Nat} {h0:Hp} (hP:Pre (·≤·) a e A0):
  ∀(j M:Nat) (A:Nat→Nat) (t:T V) (h:Hp),a≤j→j≤y→j+1≤M→Ins (·≤·) a y j A→Sws a e A0 A→Ac [b] h0 h→blk h b=.cells (Aw A N)→
  T.get und (K.of 0) t=.sl b 0 m cp 0→T.get und (K.of 1) t=.int .i64 (.ofNat a)→T.get und (K.of 2) t=.int .i64 (.ofNat e)→T.get und (K.of 7) t=.int .i64 (.ofNat i)→T.get und (K.of 8) t=.int .i64 (.ofNat q)→T.get und (K.of 9) t=.int .i64 (.ofNat j)→
  (∀t1 h1 A1,Srt (·≤·) a (y+1) A1→Sws a e A0 A1→Ac [b] h0 h1→blk h1 b=.cells (Aw A1 N)→
   T.get und (K.of 0) t1=.sl b 0 m cp 0→T.get und (K.of 1) t1=.int .i64 (.ofNat a)→T.get und (K.of 2) t1=.int .i64 (.ofNat e)→T.get und (K.of 7) t1=.int .i64 (.ofNat i)→T.get und (K.of 8) t1=.int .i64 (.ofNat q)→k (.exit 4) t1 d h1=true)→
  iter (exec (call E (L+1) (n+2)) (L+1) fi KK) M t d h k=true:=by
 have c66:=fun (x y:Int) (h:Hp) (kc:KC)=>BL (L:=L) (n:=n) (h:=h) (kc:=kc) hE hF (a:=x) (b:=y);intro j;induction j with
 |zero=>
  intro M A t h ha hj hM I S K0 mb g0 g1 g2 g7 g8 g9 hk;obtain ⟨M,rfl⟩:=pM M;obtain rfl:a=0:=by omega
  have c1:(0<1)=True:=eT;rw[Ab,KK];refine Tst (J7 g0 g1 g2 g7 g8 g9 c1) ?_;exact hk _ _ A I.done S K0 mb (Ssc g0) (Ssc g1) (Ssc g2) (Ssc g7) (Ssc g8)
 |succ j ih=>
  intro M A t h ha hj hM I S K0 mb g0 g1 g2 g7 g8 g9 hk;obtain ⟨M,rfl⟩:=pM M;have c1:(j+1<1)=False:=eF;have w2:Ai .i64 (Int.sub (.ofNat (j+1)) (.ofNat 1))=.ofNat j:=by rw[Ao tO,Ad tO];rfl
  have l1:j+1<m:=tO;have l2:j<m:=tO;have s:=swN (b:=b) (A:=A) (i:=j+1) (j:=j) (N:=N) tO tO;rw[Ab,KK];by_cases hx:A (j+1)<A j
  ·have hx':(A (j+1)<A j)=True:=eq_true hx;have hc:a<j+1:=by
    rcases Nat.lt_or_ge a (j+1) with q|q
    ·exact q
    ·obtain rfl:a=j+1:=by omega
     have:=(hP.rr S.rr) tO (j+1) (Nat.le_refl _) tO;simp only[Nat.add_sub_cancel] at this;omega
   refine Tst (J14 g0 g1 g2 g7 g8 g9 c1 c66 l1 l2 w2 s hx' (J4 mb @AD @Nat.mul_one @Nat.zero_add)) ?_;exact ih M (sw A (j+1) j) _ _ tO tO tO (I.step totN hc hj (Nat.not_le.2 hx)) (S.swap tO tO tO tO) (K0.put (.inr (List.mem_singleton.2 rfl)) _) (by rw[Ak,if_pos rfl]) (Ssc g0) (Ssc g1) (Ssc g2) (Ssc g7) (Ssc g8) (Ag) hk
  ·have hx':(A (j+1)<A j)=False:=eq_false hx;refine Tst (J14 g0 g1 g2 g7 g8 g9 c1 c66 l1 l2 w2 s hx' (J4 mb @AD @Nat.mul_one @Nat.zero_add)) ?_;refine hk _ _ A ?_ S K0 mb (Ssc g0) (Ssc g1) (Ssc g2) (Ssc g7) (Ssc g8);by_cases hc:a<j+1
   ·exact I.stop totN hc tO (Nat.le_of_not_lt hx)
   ·obtain rfl:a=j+1:=by omega
    exact I.done
theorem loop1140_2 (hE:Fns E) (hF:Hns E) {b:K} {a e i q m cp N:Nat} (he:e≤m) (hm:m≤N) (hN:N≤4000000000000000000) {A0:Nat→Nat} {h0:Hp}:
  ∀(w j M:Nat) (A:Nat→Nat) (t:T V) (h:Hp),j+w=e→w+1≤M→i<j→Sws i e A0 A→Ac [b] h0 h→blk h b=.cells (Aw A N)→
  T.get und (K.of 0) t=.sl b 0 m cp 0→T.get und (K.of 1) t=.int .i64 (.ofNat a)→T.get und (K.of 2) t=.int .i64 (.ofNat e)→T.get und (K.of 7) t=.int .i64 (.ofNat i)→T.get und (K.of 8) t=.int .i64 (.ofNat q)→T.get und (K.of 10) t=.int .i64 (.ofNat j)→
  (∀t1 h1 A1,Sws i e A0 A1→Ac [b] h0 h1→blk h1 b=.cells (Aw A1 N)→
   T.get und (K.of 0) t1=.sl b 0 m cp 0→T.get und (K.of 1) t1=.int .i64 (.ofNat a)→T.get und (K.of 2) t1=.int .i64 (.ofNat e)→T.get und (K.of 7) t1=.int .i64 (.ofNat i)→T.get und (K.of 8) t1=.int .i64 (.ofNat q)→k (.exit 6) t1 d h1=true)→
  iter (exec (call E (L+1) (n+2)) (L+1) fi KJ) M t d h k=true:=by
 have c66:=fun (x y:Int) (h:Hp) (kc:KC)=>BL (L:=L) (n:=n) (h:=h) (kc:=kc) hE hF (a:=x) (b:=y);intro w;induction w with
 |zero=>intro j M A t h hw hM hj S K0 mb g0 g1 g2 g7 g8 g10 hk;obtain ⟨M,rfl⟩:=pM M;have c1:(j<e)=False:=eF;rw[Ab,KJ];refine Tst (J7 g0 g1 g2 g7 g8 g10 c1) ?_;exact hk _ _ A S K0 mb (Ssc g0) (Ssc g1) (Ssc g2) (Ssc g7) (Ssc g8)
 |succ w ih=>
  intro j M A t h hw hM hj S K0 mb g0 g1 g2 g7 g8 g10 hk;obtain ⟨M,rfl⟩:=pM M;have c1:(j<e)=True:=eT;have w2:Ai .i64 (Int.sub (.ofNat j) (.ofNat 1))=.ofNat (j-1):=by rw[Ao tO,Ad tO]
  have l1:j<m:=tO;have l2:j-1<m:=tO;have s:=swN (b:=b) (A:=A) (i:=j) (j:=j-1) (N:=N) tO tO;rw[Ab,KJ];by_cases hx:A j<A (j-1)
  ·have hx':(A j<A (j-1))=True:=eq_true hx;have w1:Ai .i64 (Int.add (.ofNat j) (.ofNat 1))=.ofNat (j+1):=Ad tO;refine Tst (J14 g0 g1 g2 g7 g8 g10 c1 c66 l1 l2 w2 s hx' (J5 mb @AD @Nat.mul_one @Nat.zero_add w1)) ?_;exact ih (j+1) M (sw A j (j-1)) _ _ tO tO tO (S.swap tO tO tO tO) (K0.put (.inr (List.mem_singleton.2 rfl)) _) (by rw[Ak,if_pos rfl]) (Ssc g0) (Ssc g1) (Ssc g2) (Ssc g7) (Ssc g8) (Ag) hk
  ·have hx':(A j<A (j-1))=False:=eq_false hx;refine Tst (J14 g0 g1 g2 g7 g8 g10 c1 c66 l1 l2 w2 s hx' (J4 mb @AD @Nat.mul_one @Nat.zero_add)) ?_;exact hk _ _ A S K0 mb (Ssc g0) (Ssc g1) (Ssc g2) (Ssc g7) (Ssc g8)
end
end Go.AJ
namespace Go.AJ
open Go
set_option maxRecDepth 100000
section
variable [I9] {E:Env} {L n:Nat} {h:Hp} {kc:KC} {t:T V} {d:Dc} {k:KE} {fi:FI} {c:KV} {C:Av}
theorem tail1140 (hE:Fns E) (hF:Hns E) {b:K} {a e i q m cp N:Nat} (hi:i<e) (he:e≤m) (hm:m≤N) (hN:N≤4000000000000000000) (hL:N+3≤L) {A:Nat→Nat} (mb:blk h b=.cells (Aw A N))
  (g0:T.get und (K.of 0) t=.sl b 0 m cp 0) (g1:T.get und (K.of 1) t=.int .i64 (.ofNat a)) (g2:T.get und (K.of 2) t=.int .i64 (.ofNat e)) (g7:T.get und (K.of 7) t=.int .i64 (.ofNat i)) (g8:T.get und (K.of 8) t=.int .i64 (.ofNat q))
  (hk:∀t1 h1 A1,Sws i e A A1→Ac [b] h h1→blk h1 b=.cells (Aw A1 N)→
   T.get und (K.of 0) t1=.sl b 0 m cp 0→T.get und (K.of 1) t1=.int .i64 (.ofNat a)→T.get und (K.of 2) t1=.int .i64 (.ofNat e)→T.get und (K.of 7) t1=.int .i64 (.ofNat i)→T.get und (K.of 8) t1=.int .i64 (.ofNat q)→k .normal t1 d h1=true):
  exec (call E (L+1) (n+2)) (L+1) fi q1140_5 t d h k=true:=by
 have w1:Ai .i64 (Int.sub (.ofNat e) (.ofNat i))=.ofNat (e-i):=by rw[Ao tO,Ad tO]
 have w2:Ai .i64 (Int.add (.ofNat i) (.ofNat 1))=.ofNat (i+1):=Ad tO;rw[q1140_5];by_cases hc:e-i<2
 ·have c1:(e-i<2)=True:=eq_true hc;refine Tst (J7 g0 g1 g2 g7 g8 w1 c1) ?_;exact hk _ _ A .refl (.refl _ _) mb (Ssc g0) (Ssc g1) (Ssc g2) (Ssc g7) (Ssc g8)
 ·have c1:(e-i<2)=False:=eq_false hc;refine Tst (J9 g0 g1 g2 g7 g8 w1 c1 w2 @Ae) ?_;refine loop1140_2 hE hF (a:=a) (e:=e) (i:=i) (q:=q) (cp:=cp) he hm hN (A0:=A) (h0:=h) (e-(i+1)) (i+1) _ A _ _ tO tO tO .refl (.refl _ _) mb (Ssc g0) (Ssc g1) (Ssc g2) (Ssc g7) (Ssc g8) (Ag) (fun t1 h1 A1 x1 x2 x3 g0 g1 g2 g7 g8=>?_);refine FV ?_;exact hk _ _ A1 x1 x2 x3 (Ssc g0) (Ssc g1) (Ssc g2) (Ssc g7) (Ssc g8)
theorem loop1140_3 (hE:Fns E) (hF:Hns E) {b:K} {a e m cp N:Nat} (he:e≤m) (hm:m≤N) (hN:N≤4000000000000000000) (hL:N+3≤L) {A0:Nat→Nat} {h0:Hp} (hP:Pre (·≤·) a e A0)
  (hr:∀v t1 h1 A1,(v=true→Srt (·≤·) a e A1)→Sws a e A0 A1→Ac [b] h0 h1→blk h1 b=.cells (Aw A1 N)→T.get und (K.of 6) t1=.bool v→k .ret t1 d h1=true)
  (hk:∀t1 h1 A1,Sws a e A0 A1→Ac [b] h0 h1→blk h1 b=.cells (Aw A1 N)→k (.exit 0) t1 d h1=true):
  ∀(w q i M:Nat) (A:Nat→Nat) (t:T V) (h:Hp),q+w=5→w+1≤M→a<i→i≤e→Srt (·≤·) a i A→Sws a e A0 A→Ac [b] h0 h→blk h b=.cells (Aw A N)→
  T.get und (K.of 0) t=.sl b 0 m cp 0→T.get und (K.of 1) t=.int .i64 (.ofNat a)→T.get und (K.of 2) t=.int .i64 (.ofNat e)→T.get und (K.of 7) t=.int .i64 (.ofNat i)→T.get und (K.of 8) t=.int .i64 (.ofNat q)→
  iter (exec (call E (L+1) (n+2)) (L+1) fi KI) M t d h k=true:=by
 intro w;induction w with
 |zero=>intro q i M A t h hw hM ha hi S Q K0 mb g0 g1 g2 g7 g8;obtain ⟨M,rfl⟩:=pM M;have c1:(q<5)=False:=eF;rw[Ab,KI];refine Tst (J6 g0 g1 g2 g7 g8 c1) ?_;exact hk _ _ A Q K0 mb
 |succ w ih=>
  intro q i M A t h hw hM ha hi S Q K0 mb g0 g1 g2 g7 g8;obtain ⟨M,rfl⟩:=pM M;have c1:(q<5)=True:=eT;have w0:Ai .i64 (Int.add (.ofNat q) (.ofNat 1))=.ofNat (q+1):=Ad tO;rw[Ab,KI];refine Tst (J7 g0 g1 g2 g7 g8 c1 @Ae) ?_;refine loop1140_0 hE hF (a:=a) (e:=e) (q:=q) (cp:=cp) hm hN he mb (e-i) i _ _ tO tO ha S (Ssc g0) (Ssc g1) (Ssc g2) (Ssc g7) (Ssc g8) (fun i t1 x1 x2 S g0 g1 g2 g7 g8=>?_);by_cases h1:i=e
  ·have h1':(i=e)=True:=eq_true h1;refine Tst (J6 g0 g1 g2 g7 g8 h1') ?_;exact hr true _ _ A (fun _=>h1▸S) Q K0 mb (Ag)
  have h1':(i=e)=False:=eq_false h1;have w1:Ai .i64 (Int.sub (.ofNat e) (.ofNat a))=.ofNat (e-a):=by rw[Ao tO,Ad tO]
  by_cases h2:e-a<50
  ·have h2':(e-a<50)=True:=eq_true h2;refine Tst (J8 g0 g1 g2 g7 g8 h1' w1 h2') ?_;exact hr false _ _ A (fun q=>nomatch q) Q K0 mb (Ag)
  have h2':(e-a<50)=False:=eq_false h2;have w2:Ai .i64 (Int.sub (.ofNat i) (.ofNat 1))=.ofNat (i-1):=by rw[Ao tO,Ad tO]
  have w3:Ai .i64 (Int.sub (.ofNat i) (.ofNat a))=.ofNat (i-a):=by rw[Ao tO,Ad tO]
  have l1:i<m:=tO;have l2:i-1<m:=tO;have s:=swN (b:=b) (A:=A) (i:=i) (j:=i-1) (N:=N) tO tO;have mb1:blk (h.upd b (.cells (Aw (sw A i (i-1)) N))) b=.cells (Aw (sw A i (i-1)) N):=by rw[Ak,if_pos rfl]
  have Q1:Sws a e A0 (sw A i (i-1)):=Q.swap tO tO tO tO;have K1:Ac [b] h0 (h.upd b (.cells (Aw (sw A i (i-1)) N))):=K0.put (.inr (List.mem_singleton.2 rfl)) _;have S1:Srt (·≤·) a (i-1) (sw A i (i-1)):=fun p q p1 p2 p3=>by rw[GB tO tO,GB tO tO];exact S p q p1 p2 tO
  by_cases h3:i-a<2
  ·have h3':(i-a<2)=True:=eq_true h3;refine Tst (J13 g0 g1 g2 g7 g8 h1' w1 h2' w2 w3 h3' s (J6 l1 l2 mb @AD @Nat.mul_one @Nat.zero_add)) ?_;have S2:Srt (·≤·) a i (sw A i (i-1)):=.short tO;refine tail1140 hE hF (a:=a) (e:=e) (i:=i) (q:=q) (cp:=cp) tO he hm hN hL mb1 (Ssc g0) (Ssc g1) (Ssc g2) (Ssc g7) (Ssc g8) (fun t2 h2 A2 y1 y2 y3 g0 g1 g2 g7 g8=>?_);refine Tst (J6 g0 g1 g2 g7 g8 w0) ?_;exact ih (q+1) i M A2 _ _ tO tO tO tO (fun p q p1 p2 p3=>by rw[y1.rr.out p tO,y1.rr.out q tO];exact S2 p q p1 p2 p3) (Q1.trans (y1.mono tO tO)) (K1.trans y2) y3 (Ssc g0) (Ssc g1) (Ssc g2) (Ssc g7) (Ag)
  ·have h3':(i-a<2)=False:=eq_false h3;refine Tst (J13 g0 g1 g2 g7 g8 h1' w1 h2' w2 w3 h3' s (J7 l1 l2 mb @AD @Nat.mul_one @Nat.zero_add @Ae)) ?_;refine loop1140_1 hE hF (a:=a) (e:=e) (i:=i) (q:=q) (y:=i-1) (cp:=cp) tO he hm hN (h0:=h0) hP (i-1) _ (sw A i (i-1)) _ _ tO tO tO (.start S1) Q1 K1 mb1 (Ssc g0) (Ssc g1) (Ssc g2) (Ssc g7) (Ssc g8) (Ag) (fun t1 h1 A1 S2 Q2 K2 mb2 g0 g1 g2 g7 g8=>?_);rw[show i-1+1=i by omega] at S2;refine Tst (J5 g0 g1 g2 g7 g8) ?_;refine tail1140 hE hF (a:=a) (e:=e) (i:=i) (q:=q) (cp:=cp) tO he hm hN hL mb2 (Ssc g0) (Ssc g1) (Ssc g2) (Ssc g7) (Ssc g8) (fun t2 h2 A2 y1 y2 y3 g0 g1 g2 g7 g8=>?_);refine Tst (J6 g0 g1 g2 g7 g8 w0) ?_;exact ih (q+1) i M A2 _ _ tO tO tO tO (fun p q p1 p2 p3=>by rw[y1.rr.out p tO,y1.rr.out q tO];exact S2 p q p1 p2 p3) (Q2.trans (y1.mono tO tO)) (K2.trans y2) y3 (Ssc g0) (Ssc g1) (Ssc g2) (Ssc g7) (Ag)
theorem call1140 (hE:Fns E) (hF:Hns E) (hG:Sns E) {b:K} {a e m cp N:Nat} (hm:m≤N) (hN:N≤4000000000000000000) (ha:a<e) (he:e≤m) (hL:N+5≤L) {A:Nat→Nat} (hP:Pre (·≤·) a e A) (mb:blk h b=.cells (Aw A N))
  (hk:∀v h1 A1,(v=true→Srt (·≤·) a e A1)→Sws a e A A1→Ac [b] h h1→blk h1 b=.cells (Aw A1 N)→kc (.ret (.bool v)) none h1=true):
  call E (L+1) (n+3) (.fn 140) [.sl b 0 m cp 0,.int .i64 (.ofNat a),.int .i64 (.ofNat e)] none h kc=true:=by
 rw[Af hG.f1140,c1140,r1140,p1140_0,p1140_1,p1140_2,p1140_3];have w1:Ai .i64 (Int.add (.ofNat a) (.ofNat 1))=.ofNat (a+1):=Ad tO;refine Tst (J2 w1 @Ae) ?_;refine loop1140_3 hE hF (a:=a) (e:=e) (cp:=cp) he hm hN tO (A0:=A) (h0:=h) hP (fun v t1 h1 A1 x1 x2 x3 x4 g6=>?_) (fun t1 h1 A1 x2 x3 x4=>?_) 5 0 (a+1) _ A _ _ tO tO tO tO (.short tO) .refl (.refl _ _) mb (Ag) (Ag) (Ag) (Ag) (Ag)
 ·refine Tst g6 ?_;exact hk v _ A1 x1 x2 x3 x4
 ·refine Be ?_;exact hk false _ A1 (fun q=>nomatch q) x2 x3 x4
end
end Go.AJ
namespace Go.AJ
open Go
set_option maxRecDepth 100000
def tabL:List Nat:= [0,1,2,2]++List.replicate 4 3++List.replicate 8 4++List.replicate 16 5++List.replicate 32 6++List.replicate 64 7++List.replicate 128 8
theorem p1144_4t:p1144_4=(.reg [Wm 19 2,Wm 20 0,Ws 21 (.conv .u8 (Xv 20)),Ws 22 (.idxS (.c (.str tabL)) (Xv 21)),Ws 23 (.conv .i64 (Xv 22)),Ws 24 (.ibin .add (Xv 19) (Xv 23)),Wm 2 24]):=rfl
def okT (x:Nat):Bool:=match tabL[x]? with|some b=>Nat.ble b 8&&(Nat.beq x 0||Nat.ble (2 ^ b) (2*x))|none=>false
theorem tab_all:(List.range 256).all okT=true:=by decide+kernel
theorem tab_ok {x:Nat} (h:x<256):∃b,tabL[x]? =some b∧b≤8∧(x≠0→2 ^ b≤2*x):=by
 have:=List.all_eq_true.1 tab_all x (List.mem_range.2 h);unfold okT at this;split at this
 ·rename_i b hb;simp only[Bool.and_eq_true,Bool.or_eq_true,Nat.ble_eq,Nat.beq_eq] at this;exact ⟨b,hb,this.1,fun hx=>this.2.resolve_left hx⟩
 ·exact absurd this Bool.false_ne_true
theorem Ac.own {S:List K} {h0 h h1:Hp} {bs:K} (a:Ac S h0 h) (b:Ac [bs] h h1) (hb:(nxt h0).num≤bs.num):Ac S h0 h1:=
 ⟨Nat.le_trans a.nx b.nx,fun c hc hs=>(b.old c (Nat.lt_of_lt_of_le hc a.nx) (fun e=>by rw[List.mem_singleton.1 e] at hc;omega)).trans (a.old c hc hs)⟩
def xorU (a b:Nat):Nat:=Nat.xor (a%18446744073709551616) (b%18446744073709551616)%18446744073709551616
def andU (a b:Nat):Nat:=Nat.land (a%18446744073709551616) (b%18446744073709551616)%18446744073709551616
def shlU (a b:Nat):Nat:=a*Nat.pow 2 (min b 64)%18446744073709551616
theorem andU_le {a b:Nat}:andU a b≤b:=
 Nat.le_trans (Nat.mod_le _ _) (Nat.le_trans (show Nat.land _ _≤_ from Nat.and_le_right) (Nat.mod_le _ _))
section
variable [I9] {E:Env} {L n:Nat} {h:Hp} {kc:KC} {t:T V} {d:Dc} {k:KE} {fi:FI} {c:KV} {C:Av}
theorem ibin_shl {ik:IntKind} {a b:Nat}:AK .shl (.int .u64 (.ofNat a)) (.int ik (.ofNat b)) h c=c (.int .u64 (.ofNat (shlU a b))) h:=by simp only[AK,CQ,oShl];rw[EX];rfl
theorem ibin_xor {a b:Nat}:AK .xor (.int .u64 (.ofNat a)) (.int .u64 (.ofNat b)) h c=c (.int .u64 (.ofNat (xorU a b))) h:=by simp only[AK,CQ];rw[BT Ch];simp only[JF];rw[EX];rfl
theorem ibin_and {a b:Nat}:AK .and (.int .u64 (.ofNat a)) (.int .u64 (.ofNat b)) h c=c (.int .u64 (.ofNat (andU a b))) h:=by simp only[AK,CQ];rw[BT Ch];simp only[JF];rw[EX];rfl
theorem call1144 (hG:Sns E) {x:Nat} (hx:x<65536) (hk:∀b,b≤16→(x≠0→2 ^ b≤2*x)→kc (.ret (.int .i64 (.ofNat b))) none h=true):
  call E (L+1) (n+1) (.fn 144) [.int .u64 (.ofNat x)] none h kc=true:=by
 rw[Af hG.f1144,c1144,r1144,p1144_0,p1144_1,p1144_2,p1144_3,p1144_4t];have c1:(x<4294967296)=True:=eT;have c2:(x<65536)=True:=eT;by_cases h3:x<256
 ·obtain ⟨b,t1,t2,t3⟩:=tab_ok h3;have c3:(x<256)=True:=eq_true h3;have w1:Ai .u8 (.ofNat x)=.ofNat x:=by rw[FX,Nat.mod_eq_of_lt h3]
  have w2:Ai .i64 (.ofNat b)=.ofNat b:=Ad tO;have w3:Ai .i64 (Int.add (.ofNat 0) (.ofNat b))=.ofNat b:=by show Ai .i64 (.ofNat (0+b))=_;rw[Nat.zero_add,w2]
  have i1:=fun (h:Hp) (c:KV)=>DG (h:=h) (c:=c) (ik:=.u8) t1;refine Tst (J7 c1 c2 c3 w1 w2 w3 i1) ?_;exact hk b tO t3
 ·have hy:x/256<256:=tO;obtain ⟨b,t1,t2,t3⟩:=tab_ok hy;have c3:(x<256)=False:=eq_false h3;have w0:Nat.div x (Nat.pow 2 (min 8 IntKind.u64.bits))=x/256:=rfl;have w1:Ai .u8 (.ofNat (x/256))=.ofNat (x/256):=by rw[FX,Nat.mod_eq_of_lt hy]
  have w2:Ai .i64 (.ofNat b)=.ofNat b:=Ad tO;have w4:Ai .i64 (Int.add (.ofNat 0) (.ofNat 8))=.ofNat 8:=Ad (n:=8) tO;have w3:Ai .i64 (Int.add (.ofNat 8) (.ofNat b))=.ofNat (8+b):=Ad tO;have i1:=fun (h:Hp) (c:KV)=>DG (h:=h) (c:=c) (ik:=.u8) t1;refine Tst (J9 c1 c2 c3 w0 w1 w2 w3 w4 i1) ?_;refine hk (8+b) tO fun _=>?_;have:=t3 tO;rw[Nat.pow_add];omega
theorem Kl (hG:Sns E) {x:Nat} (hx:x<65536) (hk:∀b,b≤16→(x≠0→2 ^ b≤2*x)→kc (.ret (.int .i64 (.ofNat b))) none h=true):
  call E (L+1) (n+2) (.fn 93) [.int .u64 (.ofNat x)] none h kc=true:=by
 rw[Af hG.f1093,c1093,r1093,p1093_0,p1093_1,p1093_2];refine FV ?_;refine call1144 hG hx (fun b h1 h2=>?_);refine FV ?_;exact hk b h1 h2
theorem call1199 (hG:Sns E) {x:Nat} (h0:x≠0) (hx:x<65536) (hk:∀m,1≤m→m≤2*x→kc (.ret (.int .u64 (.ofNat m))) none h=true):
  call E (L+1) (n+3) (.fn 199) [.int .i64 (.ofNat x)] none h kc=true:=by
 rw[Af hG.f1199,c1199,r1199,p1199_0,p1199_1];have w1:Ai .u64 (.ofNat x)=.ofNat x:=by rw[Fn,Nat.mod_eq_of_lt tO]
 refine Tst w1 ?_;refine Kl hG hx (fun b h1 h2=>?_);have s1:=fun (h:Hp) (c:KV)=>ibin_shl (h:=h) (c:=c) (ik:=.i64) (a:=1) (b:=b);refine Tst s1 ?_;have e:shlU 1 b=2 ^ b:=by have h3:2 ^ b≤2 ^ 16:=Nat.pow_le_pow_right tO h1;unfold shlU;rw[Nat.min_eq_left tO,Nat.one_mul];exact Nat.mod_eq_of_lt (show 2 ^ b<_ by omega)
 rw[e];exact hk _ (Nat.two_pow_pos b) (h2 h0)
theorem call1200 (hG:Sns E) {bs:K} {s:Nat} (ms:blk h bs=.cells [.int .u64 (.ofNat s)])
  (hk:∀s' h1,Ac [bs] h h1→blk h1 bs=.cells [.int .u64 (.ofNat s')]→kc (.ret (.int .u64 (.ofNat s'))) none h1=true):
  call E (L+1) (n+1) (.fn 200) [.ptr bs 0] none h kc=true:=by
 rw[Af hG.f1200,c1200,r1200,p1200_0,p1200_1,p1200_2,p1200_3,p1200_4];have e4:∀(v:V) (h:Hp) (c':KV),ldB (.cells [v]) 0 h c'=c' v h:=fun v h c'=>Cl rfl;have e5:∀(v w:V) (h:Hp) (f:Hp→Bool),stB (.cells [w]) bs 0 [v] h f=f (h.upd bs (.cells [v])):=fun v w h f=>Cs (Nat.zero_lt_succ _);have s1:=fun (a b:Nat) (h:Hp) (c:KV)=>ibin_shl (h:=h) (c:=c) (ik:=.u64) (a:=a) (b:=b);have s2:=fun (a b:Nat) (h:Hp) (c:KV)=>ibin_xor (h:=h) (c:=c) (a:=a) (b:=b);refine Tst (J5 ms e4 e5 s1 s2) ?_;refine hk _ _ ?_ ?_
 rotate_left
 ·rw[Ak,if_pos rfl]
 ·exact (Ac.refl _ _).put (.inr (List.mem_singleton.2 rfl)) _
theorem loop1137_0 (hG:Sns E) {b bs:K} {a l m cp N mo:Nat} (hm:m≤N) (hN:N≤60000) (he:a+l≤m) (h8:8≤l) (hm1:1≤mo) (hm2:mo≤2*l) (hne:b≠bs) {A0:Nat→Nat} {h0:Hp} (hbs:(nxt h0).num≤bs.num)
  (hk:∀t1 h1 A1,Sws a (a+l) A0 A1→Ac [b] h0 h1→blk h1 b=.cells (Aw A1 N)→k (.exit 0) t1 d h1=true):
  ∀(w i s M:Nat) (A:Nat→Nat) (t:T V) (h:Hp),i+w=a+l/4*2+2→w+1≤M→a≤i→Sws a (a+l) A0 A→Ac [b] h0 h→blk h b=.cells (Aw A N)→blk h bs=.cells [.int .u64 (.ofNat s)]→b.num<(nxt h).num→
  T.get und (K.of 0) t=.sl b 0 m cp 0→T.get und (K.of 1) t=.int .i64 (.ofNat a)→T.get und (K.of 6) t=.int .i64 (.ofNat l)→T.get und (K.of 7) t=.ptr bs 0→T.get und (K.of 8) t=.int .u64 (.ofNat mo)→T.get und (K.of 9) t=.int .i64 (.ofNat i)→
  iter (exec (call E (L+1) (n+1)) (L+1) fi KN) M t d h k=true:=by
 have q4:∀(h:Hp) (c:KV),AK .quo (.int .i64 (.ofNat l)) (.int .i64 (.ofNat 4)) h c=c (.int .i64 (.ofNat (l/4))) h:=fun h c=>by rw[DH Bt rfl,show Int.tdiv (.ofNat l) (.ofNat 4)=.ofNat (l/4) from rfl,Ad tO]
 have w1:Ai .i64 (Int.mul (.ofNat (l/4)) (.ofNat 2))=.ofNat (l/4*2):=Ad tO;have w2:Ai .i64 (Int.add (.ofNat a) (.ofNat (l/4*2)))=.ofNat (a+l/4*2):=Ad tO;have w3:Ai .i64 (Int.add (.ofNat (a+l/4*2)) (.ofNat 1))=.ofNat (a+l/4*2+1):=Ad tO;have w4:Ai .u64 (Int.sub (.ofNat mo) (.ofNat 1))=.ofNat (mo-1):=by rw[Ao hm1,Fn,Nat.mod_eq_of_lt tO]
 intro w;induction w with
 |zero=>intro i s M A t h hw hM hi S K0 mb ms nb g0 g1 g6 g7 g8 g9;obtain ⟨M,rfl⟩:=pM M;have c1:(a+l/4*2+1<i)=True:=eT;rw[Ab,KN];refine Tst (J7 g1 g6 g9 q4 w1 w2 (J2 w3 c1)) ?_;exact hk _ _ A S K0 mb
 |succ w ih=>
  intro i s M A t h hw hM hi S K0 mb ms nb g0 g1 g6 g7 g8 g9;obtain ⟨M,rfl⟩:=pM M;have c1:(a+l/4*2+1<i)=False:=eF;rw[Ab,KN];refine Tst (J8 g1 g6 g9 q4 w1 w2 g7 (J2 w3 c1)) ?_;refine call1200 hG ms (fun s' h1 K1 ms1=>?_);have mb1:blk h1 b=.cells (Aw A N):=by rw[K1.old b nb (fun e=>hne (List.mem_singleton.1 e))];exact mb
  have K2:Ac [b] h0 h1:=K0.own K1 hbs;have nb1:b.num<(nxt h1).num:=K1.lt nb;have s2:=fun (h:Hp) (c:KV)=>ibin_and (h:=h) (c:=c) (a:=s') (b:=mo-1);have hr:andU s' (mo-1)≤mo-1:=andU_le;generalize andU s' (mo-1)=r at s2 hr;have u1:Ai .i64 (.ofNat r)=.ofNat r:=Ad tO;have u2:Ai .i64 (Int.add (.ofNat i) (.ofNat 1))=.ofNat (i+1):=Ad tO;have l1:i<m:=tO;by_cases h2:r<l
  ·have c2:(r<l)=True:=eq_true h2;have v1:Ai .i64 (Int.add (.ofNat a) (.ofNat r))=.ofNat (a+r):=Ad tO;have l2:a+r<m:=tO;have sw1:=swN (b:=b) (A:=A) (i:=i) (j:=a+r) (N:=N) tO tO;refine Tst (J14 g0 g1 g6 g7 g8 g9 w4 s2 u1 c2 v1 sw1 u2 (J6 l1 l2 mb1 @AD @Nat.mul_one @Nat.zero_add)) ?_;refine ih (i+1) s' M (sw A i (a+r)) _ _ tO tO tO (S.swap tO tO tO tO) (K2.put (.inr (List.mem_singleton.2 rfl)) _) (by rw[Ak,if_pos rfl]) (by rw[Ak,if_neg (Ne.symm hne)];exact ms1) (by rw[An];exact nb1) (Ssc g0) (Ssc g1) (Ssc g6) (Ssc g7) (Ssc g8) (Ag)
  ·have c2:(r<l)=False:=eq_false h2;have v0:Ai .i64 (Int.sub (.ofNat r) (.ofNat l))=.ofNat (r-l):=by rw[Ao tO,Ad tO]
   have v1:Ai .i64 (Int.add (.ofNat a) (.ofNat (r-l)))=.ofNat (a+(r-l)):=Ad tO;have l2:a+(r-l)<m:=tO;have sw1:=swN (b:=b) (A:=A) (i:=i) (j:=a+(r-l)) (N:=N) tO tO;refine Tst (J14 g0 g1 g6 g7 g8 g9 w4 s2 u1 c2 v1 sw1 u2 (J7 l1 l2 mb1 @AD @Nat.mul_one @Nat.zero_add v0)) ?_;refine ih (i+1) s' M (sw A i (a+(r-l))) _ _ tO tO tO (S.swap tO tO tO tO) (K2.put (.inr (List.mem_singleton.2 rfl)) _) (by rw[Ak,if_pos rfl]) (by rw[Ak,if_neg (Ne.symm hne)];exact ms1) (by rw[An];exact nb1) (Ssc g0) (Ssc g1) (Ssc g6) (Ssc g7) (Ssc g8) (Ag)
theorem call1137 (hG:Sns E) {b:K} {a e m cp N:Nat} (hm:m≤N) (hN:N≤60000) (ha:a≤e) (he:e≤m) (hL:4≤L) {A:Nat→Nat} (mb:blk h b=.cells (Aw A N)) (nb:b.num<(nxt h).num)
  (hk:∀h1 A1,Sws a e A A1→Ac [b] h h1→blk h1 b=.cells (Aw A1 N)→kc (.ret (.tup [])) none h1=true):
  call E (L+1) (n+4) (.fn 137) [.sl b 0 m cp 0,.int .i64 (.ofNat a),.int .i64 (.ofNat e)] none h kc=true:=by
 obtain ⟨l,rfl⟩:∃l,e=a+l:=⟨e-a,by omega⟩
 rw[Af hG.f1137,c1137,r1137,p1137_0,p1137_1];have w1:Ai .i64 (Int.sub (.ofNat (a+l)) (.ofNat a))=.ofNat l:=by rw[Ao tO,Nat.add_sub_cancel_left,Ad tO]
 by_cases h8:l<8
 ·have c1:(l<8)=True:=eq_true h8;refine Tst (J2 w1 c1) ?_;exact hk _ A .refl (.refl _ _) mb
 ·have c1:(l<8)=False:=eq_false h8;have w2:Ai .u64 (.ofNat l)=.ofNat l:=by rw[Fn,Nat.mod_eq_of_lt tO]
  have e5:∀(v w:V) (h:Hp) (b:K) (f:Hp→Bool),stB (.cells [w]) b 0 [v] h f=f (h.upd b (.cells [v])):=fun v w h b f=>Cs (Nat.zero_lt_succ _);have q4:∀(h:Hp) (c:KV),AK .quo (.int .i64 (.ofNat l)) (.int .i64 (.ofNat 4)) h c=c (.int .i64 (.ofNat (l/4))) h:=fun h c=>by rw[DH Bt rfl,show Int.tdiv (.ofNat l) (.ofNat 4)=.ofNat (l/4) from rfl,Ad tO]
  have u1:Ai .i64 (Int.mul (.ofNat (l/4)) (.ofNat 2))=.ofNat (l/4*2):=Ad tO;have u2:Ai .i64 (Int.add (.ofNat a) (.ofNat (l/4*2)))=.ofNat (a+l/4*2):=Ad tO;have u3:Ai .i64 (Int.sub (.ofNat (a+l/4*2)) (.ofNat 1))=.ofNat (a+l/4*2-1):=by rw[Ao tO,Ad tO]
  have hne:b≠nxt h:=fun q=>by rw[q] at nb;omega
  refine Tst (J4 w1 c1 w2 e5) ?_;refine call1199 hG tO tO (fun mo m1 m2=>?_);refine Tst (J5 q4 u1 u2 u3 @Ae) ?_;refine loop1137_0 hG (a:=a) (l:=l) (cp:=cp) (mo:=mo) (bs:=nxt h) hm hN he tO m1 m2 hne (A0:=A) (h0:=h) (Nat.le_refl _) (fun t1 h1 A1 x1 x2 x3=>?_) 3 (a+l/4*2-1) l _ A _ _ tO tO tO .refl ?_ ?_ ?_ ?_ (Ag) (Ag) (Ag) (Ag) (Ag) (Ag)
  ·refine Be ?_;exact hk _ A1 x1 x2 x3
  ·exact ((Ac.refl _ _).new _)
  ·rw[Am,Ak,if_neg hne];exact mb
  ·rw[Am,Ak,if_pos rfl]
  ·rw[Au,An,K.num_succ];omega
end
end Go.AJ
