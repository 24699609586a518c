/- Sorting: insertion, heaps, equal elements. -/
import Derived.Test.YtgdbpnpolelfoaaGreatDoorRe
import Derived.Test.YtgdbpnpolelfoaaGreatDoorS
import Derived.Test.YtgdbpnpolelfoaaGreatDoorCodeC
set_option linter.all false
namespace Go.AJ
open Go
set_option maxRecDepth 100000
inductive Sws (a e:Nat) (A:Nat→Nat):(Nat→Nat)→Prop where
 |refl:Sws a e A A
 |swap {B:Nat→Nat} {i j:Nat} (h:Sws a e A B) (h1:a≤i) (h2:i<e) (h3:a≤j) (h4:j<e):Sws a e A (sw B i j)
theorem Sws.rr {a e:Nat} {A B:Nat→Nat} (h:Sws a e A B):RR a e A B:=by
 induction h with
 |refl=>exact .refl
 |swap h h1 h2 h3 h4 ih=>exact ih.trans (.swap h1 h2 h3 h4)
theorem Sws.trans {a e:Nat} {A B C:Nat→Nat} (h1:Sws a e A B) (h2:Sws a e B C):Sws a e A C:=by
 induction h2 with
 |refl=>exact h1
 |swap h a1 a2 a3 a4 ih=>exact ih.swap a1 a2 a3 a4
theorem Sws.mono {a e a' e':Nat} {A B:Nat→Nat} (h:Sws a e A B) (h1:a'≤a) (h2:e≤e'):Sws a' e' A B:=by
 induction h with
 |refl=>exact .refl
 |swap h a1 a2 a3 a4 ih=>exact ih.swap tO tO tO tO
theorem Sws.mem {a e:Nat} {A B:Nat→Nat} (h:Sws a e A B) {n:Nat} (hn:e≤n) (x:Nat):(∃k,k<n∧B k=x)↔(∃k,k<n∧A k=x):=by
 induction h with
 |refl=>exact Iff.rfl
 | @swap B i j h a1 a2 a3 a4 ih=>
  rw[←ih];constructor
  ·rintro ⟨k,hk,e⟩;by_cases h1:k=i
   ·exact ⟨j,by omega,by rw[←e,h1,Uc]⟩
   ·by_cases h2:k=j
    ·exact ⟨i,by omega,by rw[←e,h2,eO]⟩
    ·exact ⟨k,hk,by rw[←e,Hl h1 h2]⟩
  ·rintro ⟨k,hk,e⟩;by_cases h1:k=i
   ·exact ⟨j,by omega,by rw[←e,h1,eO]⟩
   ·by_cases h2:k=j
    ·exact ⟨i,by omega,by rw[←e,h2,Uc]⟩
    ·exact ⟨k,hk,by rw[←e,Hl h1 h2]⟩
theorem Sws.inj {a e:Nat} {A B:Nat→Nat} (h:Sws a e A B) {n:Nat} (hn:e≤n) (hi:∀p q,p<n→q<n→A p=A q→p=q):∀p q,p<n→q<n→B p=B q→p=q:=by
 induction h with
 |refl=>exact hi
 | @swap B i j h a1 a2 a3 a4 ih=>
  intro p q hp hq he;have hij:i<n∧j<n:=⟨by omega,by omega⟩
  unfold sw at he;by_cases p1:p=i<;>by_cases p2:p=j<;>by_cases q1:q=i<;>by_cases q2:q=j<;>simp only[p1,p2,q1,q2,if_true,if_false] at he⊢
  all_goals first
   |omega
   |(have:=ih _ _ tO tO he;omega)
   |skip
  all_goals (split at he<;>first|omega|(have:=ih _ _ tO tO he;omega))
class IT where
 r:List V
def Az [IT] (A:Nat→Nat) (N:Nat):List V:=((List.range N).map fun i=> .int .i64 (.ofNat (A i)))++IT.r
theorem bE [IT] {A:Nat→Nat} {N:Nat}:N≤(Az A N).length:=by simp [Az]
def Ms (A:Nat→Nat) (i x:Nat):Nat→Nat:=fun k=>if k=i then x else A k
theorem Dy {A:Nat→Nat} {i j:Nat}:Ms (Ms A i (A j)) j (A i)=sw A i j:=by
 funext k;unfold Ms sw;by_cases h1:k=i<;>by_cases h2:k=j
 ·rw[if_pos h2,if_pos h1,←h2,h1]
 ·rw[if_neg h2,if_pos h1,if_pos h1]
 ·rw[if_pos h2,if_neg h1,if_pos h2]
 ·rw[if_neg h2,if_neg h1,if_neg h1,if_neg h2]
section
variable [IT] {h:Hp} {c:KV} {A:Nat→Nat} {N i:Nat}
theorem AI (hi:i<N):ldB (.cells (Az A N)) i h c=c (vI (A i)) h:=BS (by rw[Az,List.getElem?_append_left (by simpa using hi)];simp [hi])
theorem bD {x:Nat} (hi:i<N):(Az A N).set i (vI x)=Az (Ms A i x) N:=by
 unfold Az;rw[List.set_append_left _ _ (by simpa using hi)];congr 1;apply List.ext_getElem
 ·simp
 ·intro k h1 h2;simp only[List.getElem_set,List.getElem_map,List.getElem_range,Ms];by_cases e:i=k
  ·subst e;rw[if_pos rfl,if_pos rfl]
  ·rw[if_neg e,if_neg (Ne.symm e)]
theorem BE {b:K} {x:Nat} {f:Hp→Bool} (hi:i<N):stB (.cells (Az A N)) b i [vI x] h f=f (h.upd b (.cells (Az (Ms A i x) N))):=by rw[C5 (Nat.lt_of_lt_of_le hi bE),bD hi]
end
theorem Rb:Tot (α:=Nat) (·≤·):=⟨Nat.le_refl,Nat.le_trans,Nat.le_total⟩
end Go.AJ
namespace Go.AJ
open Go
set_option maxRecDepth 100000
section
variable [IT] {E:Env} {L n:Nat} {h:Hp} {kc:KC} {t:T V} {d:Dc} {k:KE} {fi:FI} {c:KV} {C:As}
theorem Su (hE:Fns E) (hF:Hns E) {b:K} {a e i m cp N:Nat} (hi:i<m) (hm:m≤N) (hN:N≤9223372036854775000) {A0:Nat→Nat} {h0:Hp}:
  ∀(j M:Nat) (A:Nat→Nat) (t:T V) (h:Hp),a≤j→j≤i→j-a+1≤M→Ins (·≤·) a i j A→Sws a (i+1) A0 A→Ac [b] h0 h→blk h b=.cells (Az A N)→
  tg 0 t=.sl b 0 m cp 0→tg 1 t=vI a→tg 2 t=vI e→tg 6 t=vI i→tg 7 t=vI j→
  (∀t1 h1 A1,Srt (·≤·) a (i+1) A1→Sws a (i+1) A0 A1→Ac [b] h0 h1→blk h1 b=.cells (Az A1 N)→
   tg 0 t1=.sl b 0 m cp 0→tg 1 t1=vI a→tg 2 t1=vI e→tg 6 t1=vI i→k (.exit 2) t1 d h1=true)→
  iter (exec (call E (L+1) (n+2)) (L+1) fi LR) M t d h k=true:=by
 have c66:=fun (x y:Int) (h:Hp) (kc:KC)=>BW (L:=L) (n:=n) (h:=h) (kc:=kc) hE hF (a:=x) (b:=y);intro j;induction j with
 |zero=>
  intro M A t h ha hj hM I S K0 mb g0 g1 g2 g6 g7 hk;obtain ⟨M,rfl⟩:=pM M;obtain rfl:a=0:=tO;rw[Ab,LR];refine Tst (J6 g0 g1 g2 g6 g7 @Nat.lt_irrefl) ?_;refine hk _ _ A I.done S K0 mb ?_ ?_ ?_ ?_
  ·exact Ssc g0
  ·exact Ssc g1
  ·exact Ssc g2
  ·exact Ssc g6
 |succ j ih=>
  intro M A t h ha hj hM I S K0 mb g0 g1 g2 g6 g7 hk;obtain ⟨M,rfl⟩:=pM M;rw[Ab,LR];by_cases hc:a<j+1
  ·have hc':(a<j+1)=True:=eT;have e1:Am .i64 (Int.sub (.ofNat (j+1)) (.ofNat 1))=.ofNat j:=by rw[Ao tO,Ah tO];rfl
   have e2:=fun (h:Hp) (c:KV)=>AI (h:=h) (c:=c) (A:=A) (N:=N) (i:=j+1) tO;have e3:=fun (h:Hp) (c:KV)=>AI (h:=h) (c:=c) (A:=A) (N:=N) (i:=j) tO;have l1:(j+1<m):=tO;have l2:(j<m):=tO;by_cases hs:A (j+1)<A j
   ·have hs':(A (j+1)<A j)=True:=eq_true hs;have s1:=fun (h:Hp) (f:Hp→Bool)=>BE (h:=h) (f:=f) (A:=A) (N:=N) (b:=b) (x:=A j) (i:=j+1) tO;have s2:=fun (h:Hp) (f:Hp→Bool)=>BE (h:=h) (f:=f) (A:=Ms A (j+1) (A j)) (N:=N) (b:=b) (x:=A (j+1)) (i:=j) tO;refine Tst (J14 g0 g1 g2 g6 g7 hc' e1 c66 @AA mb @Nat.mul_one @Nat.zero_add e2 (J7 e3 l1 l2 hs' s1 s2 @Dy)) ?_;refine ih M (sw A (j+1) j) _ _ tO tO tO (I.step Rb hc hj (Nat.not_le.2 hs)) (S.swap tO tO tO tO) (K0.put (.inr (List.mem_singleton.2 rfl)) _) (by rw[Al,if_pos rfl]) ?_ ?_ ?_ ?_ ?_ hk
    ·exact Ssc g0
    ·exact Ssc g1
    ·exact Ssc g2
    ·exact Ssc g6
    ·exact Af
   ·have hs':(A (j+1)<A j)=False:=eq_false hs;refine Tst (J14 g0 g1 g2 g6 g7 hc' e1 c66 @AA mb @Nat.mul_one @Nat.zero_add e2 (J4 e3 l1 l2 hs')) ?_;refine hk _ _ A (I.stop Rb hc tO (Nat.le_of_not_lt hs)) S K0 mb ?_ ?_ ?_ ?_
    ·exact Ssc g0
    ·exact Ssc g1
    ·exact Ssc g2
    ·exact Ssc g6
  ·have hc':(a<j+1)=False:=eF;obtain rfl:a=j+1:=tO;refine Tst (J6 g0 g1 g2 g6 g7 @Nat.lt_irrefl) ?_;refine hk _ _ A I.done S K0 mb ?_ ?_ ?_ ?_
   ·exact Ssc g0
   ·exact Ssc g1
   ·exact Ssc g2
   ·exact Ssc g6
theorem Sr (hE:Fns E) (hF:Hns E) {b:K} {a e m cp N:Nat} (he:e≤m) (hm:m≤N) (hN:N≤9223372036854775000) (hL:N+2≤L) {A0:Nat→Nat} {h0:Hp}:
  ∀(r i M:Nat) (A:Nat→Nat) (t:T V) (h:Hp),i+r=e→a<i→r+1≤M→Srt (·≤·) a i A→Sws a e A0 A→Ac [b] h0 h→blk h b=.cells (Az A N)→
  tg 0 t=.sl b 0 m cp 0→tg 1 t=vI a→tg 2 t=vI e→tg 6 t=vI i→
  (∀t1 h1 A1,Srt (·≤·) a e A1→Sws a e A0 A1→Ac [b] h0 h1→blk h1 b=.cells (Az A1 N)→k (.exit 0) t1 d h1=true)→
  iter (exec (call E (L+1) (n+2)) (L+1) fi GS) M t d h k=true:=by
 intro r;induction r with
 |zero=>intro i M A t h hi ha hM I S K0 mb g0 g1 g2 g6 hk;obtain ⟨M,rfl⟩:=pM M;obtain rfl:i=e:=tO;rw[Ab,GS];refine Tst (J3 g2 g6 @Nat.lt_irrefl) ?_;exact hk _ _ A I S K0 mb
 |succ r ih=>
  intro i M A t h hi ha hM I S K0 mb g0 g1 g2 g6 hk;obtain ⟨M,rfl⟩:=pM M;have hi':(i<e)=True:=eT;rw[Ab,GS];refine Tst (J4 g2 g6 hi' @Ad) ?_;refine Su hE hF (a:=a) (e:=e) (i:=i) (m:=m) (cp:=cp) (N:=N) tO hm hN (A0:=A) (h0:=h) i _ A _ _ tO tO tO (.start I) .refl (.refl _ _) mb ?_ ?_ ?_ ?_ ?_ ?_
  ·exact Ssc g0
  ·exact Ssc g1
  ·exact Ssc g2
  ·exact Ssc g6
  ·exact Af
  intro t1 h1 A1 I1 S1 K1 mb1 g0 g1 g2 g6;have e1:=wA i;refine Tst (J5 g0 g1 g2 g6 e1) ?_;refine ih (i+1) M A1 _ _ tO tO tO I1 (S.trans (S1.mono tO tO)) (K0.trans K1) mb1 ?_ ?_ ?_ ?_ hk
  ·exact Ssc g0
  ·exact Ssc g1
  ·exact Ssc g2
  ·exact Af
theorem Li (hE:Fns E) (hF:Hns E) (hG:Sns E) {b:K} {a e m cp N:Nat} (ha:a≤e) (he:e≤m) (hm:m≤N) (hN:N≤9223372036854775000) (hL:N+2≤L) {A:Nat→Nat} (mb:blk h b=.cells (Az A N))
  (hk:∀h1 A1,Srt (·≤·) a e A1→Sws a e A A1→Ac [b] h h1→blk h1 b=.cells (Az A1 N)→kc (.ret (.tup [])) none h1=true):
  call E (L+1) (n+3) (.fn 135) [.sl b 0 m cp 0,vI a,vI e] none h kc=true:=by
 rw[Ag hG.f1135,jT,fu,NR];have e1:=wA a;refine Tst (J2 e1 @Ad) ?_;by_cases hc:a<e
 ·refine Sr hE hF (a:=a) (cp:=cp) he hm hN hL (A0:=A) (h0:=h) (e-(a+1)) (a+1) _ A _ _ tO tO tO (.short tO) .refl (.refl _ _) mb ?_ ?_ ?_ ?_ ?_
  ·exact Af
  ·exact Af
  ·exact Af
  ·exact Af
  intro t1 h1 A1 I1 S1 K1 mb1;refine AV ?_;exact hk _ A1 I1 S1 K1 mb1
 ·obtain rfl:a=e:=tO;have hc':(a+1<a)=False:=eF;rw[Ab,GS];refine Tst hc' ?_;exact hk _ A (.short tO) .refl (.refl _ _) mb
end
end Go.AJ
namespace Go.AJ
open Go
set_option maxRecDepth 100000
section
variable [IT] {E:Env} {L n:Nat} {h:Hp} {kc:KC} {t:T V} {d:Dc} {k:KE} {fi:FI} {c:KV} {C:As}
theorem fm (hE:Fns E) (hF:Hns E) {b:K} {f lo hi r c m cp N:Nat} (hm:m≤N) (hN:N≤9223372036854775000) (hf:f+hi≤m) (hr:r<c) (hc:c<hi) {A:Nat→Nat} (mb:blk h b=.cells (Az A N))
  (g0:tg 0 t=.sl b 0 m cp 0) (g1:tg 1 t=vI lo) (g2:tg 2 t=vI hi) (g3:tg 3 t=vI f) (g8:tg 8 t=vI r) (g9:tg 9 t=vI c)
  (hs:¬A (f+r)<A (f+c)→∀t1,k .ret t1 d h=true)
  (hk:A (f+r)<A (f+c)→∀t1,tg 0 t1=.sl b 0 m cp 0→tg 1 t1=vI lo→tg 2 t1=vI hi→tg 3 t1=vI f→tg 8 t1=vI c→k .normal t1 d (h.upd b (.cells (Az (sw A (f+r) (f+c)) N)))=true):
  exec (call E (L+1) (n+2)) (L+1) fi J1 t d h k=true:=by
 have c66:=fun (x y:Int) (h:Hp) (kc:KC)=>BW (L:=L) (n:=n) (h:=h) (kc:=kc) hE hF (a:=x) (b:=y);have e2:=fun (h:Hp) (c':KV)=>AI (h:=h) (c:=c') (A:=A) (N:=N) (i:=f+r) tO;have e3:=fun (h:Hp) (c':KV)=>AI (h:=h) (c:=c') (A:=A) (N:=N) (i:=f+c) tO;have w1:Am .i64 (Int.add (.ofNat f) (.ofNat r))=.ofNat (f+r):=Ah tO;have w2:Am .i64 (Int.add (.ofNat f) (.ofNat c))=.ofNat (f+c):=Ah tO;have l1:f+r<m:=tO;have l2:f+c<m:=tO;rw[J1];by_cases hl:A (f+r)<A (f+c)
 ·have hl':(A (f+r)<A (f+c))=True:=eq_true hl;have s1:=fun (h:Hp) (k':Hp→Bool)=>BE (h:=h) (f:=k') (A:=A) (N:=N) (b:=b) (x:=A (f+c)) (i:=f+r) tO;have s2:=fun (h:Hp) (k':Hp→Bool)=>BE (h:=h) (f:=k') (A:=Ms A (f+r) (A (f+c))) (N:=N) (b:=b) (x:=A (f+r)) (i:=f+c) tO;refine Tst (J14 g0 g1 g2 g3 g8 g9 c66 @AA mb @Nat.mul_one @Nat.zero_add e2 e3 (J8 w1 w2 l1 l2 hl' s1 s2 @Dy)) ?_;refine hk hl _ ?_ ?_ ?_ ?_ ?_
  ·exact Ssc g0
  ·exact Ssc g1
  ·exact Ssc g2
  ·exact Ssc g3
  ·exact Af
 ·have hl':(A (f+r)<A (f+c))=False:=eq_false hl;refine Tst (J14 g0 g1 g2 g3 g8 g9 c66 @AA mb @Nat.mul_one @Nat.zero_add e2 e3 (J5 w1 w2 l1 l2 hl')) ?_;exact hs hl _
theorem RX (hE:Fns E) (hF:Hns E) {b:K} {f lo hi m cp N:Nat} (hm:m≤N) (hN:N≤4000000000000000000) (hf:f+hi≤m) {A0:Nat→Nat} {h0:Hp}
  (he:∀t1 h1 A1,Hp2 (·≤·) f lo hi A1→Sws f (f+hi) A0 A1→Ac [b] h0 h1→blk h1 b=.cells (Az A1 N)→k (.exit 0) t1 d h1=true∧k .ret t1 d h1=true):
  ∀(w r M:Nat) (A:Nat→Nat) (t:T V) (h:Hp),hi≤r+w→w+1≤M→lo≤r→r≤hi→Sft (·≤·) f lo hi r A→Sws f (f+hi) A0 A→Ac [b] h0 h→blk h b=.cells (Az A N)→
  tg 0 t=.sl b 0 m cp 0→tg 1 t=vI lo→tg 2 t=vI hi→tg 3 t=vI f→tg 8 t=vI r→
  iter (exec (call E (L+1) (n+2)) (L+1) fi IK) M t d h k=true:=by
 have c66:=fun (x y:Int) (h:Hp) (kc:KC)=>BW (L:=L) (n:=n) (h:=h) (kc:=kc) hE hF (a:=x) (b:=y);intro w;induction w with
 |zero=>intro r M A t h hw hM hl hr S Q K0 mb g0 g1 g2 g3 g8;obtain ⟨M,rfl⟩:=pM M;have w1:Am .i64 (Int.mul (.ofNat 2) (.ofNat r))=.ofNat (2*r):=Ah tO;have w2:=wA (2*r);have c1:(2*r+1<hi)=False:=eF;rw[Ab,IK];refine Tst (J8 g0 g1 g2 g3 g8 w1 w2 c1) ?_;exact (he _ _ A (S.leaf tO) Q K0 mb).1
 |succ w ih=>
  intro r M A t h hw hM hl hr S Q K0 mb g0 g1 g2 g3 g8;obtain ⟨M,rfl⟩:=pM M;have w1:Am .i64 (Int.mul (.ofNat 2) (.ofNat r))=.ofNat (2*r):=Ah tO;have w2:=wA (2*r);rw[Ab,IK];by_cases hc:2*r+1<hi
  ·have c1:(2*r+1<hi)=True:=eq_true hc;have w3:=wA (2*r+1);have fin:∀(c:Nat),(c=2*r+1∨c=2*r+1+1)→c<hi→(∀c',0<c'→c'<hi→(c'-1)/2=r→A (f+c')≤A (f+c))→∀t1,tg 0 t1=.sl b 0 m cp 0→tg 1 t1=vI lo→tg 2 t1=vI hi→tg 3 t1=vI f→tg 8 t1=vI r→tg 9 t1=vI c→
     exec (call E (L+1) (n+2)) (L+1) fi J1 t1 d h (Ek 1 (Dd (fun t' d' h'=>iter (exec (call E (L+1) (n+2)) (L+1) fi IK) M t' d' h' k) k))=true:=by
    intro c hcc hch hg t1 a0 a1 a2 a3 a8 a9;refine fm hE hF hm tO hf tO hch mb a0 a1 a2 a3 a8 a9 (fun hn t2=>?_) (fun hn t2 b0 b1 b2 b3 b8=>?_)
    ·refine AV ?_;exact (he _ _ A (S.stop Rb (Nat.le_of_not_lt hn) hg) Q K0 mb).2
    ·refine AV ?_;exact ih c M _ _ _ tO tO tO tO (S.step Rb hl tO hch tO (Nat.not_le.2 hn) hg) (Q.swap tO tO tO tO) (K0.put (.inr (List.mem_singleton.2 rfl)) _) (by rw[Al,if_pos rfl]) b0 b1 b2 b3 b8
   by_cases hd:2*r+1+1<hi
   ·have d1:(2*r+1+1<hi)=True:=eq_true hd;have u1:Am .i64 (Int.add (.ofNat f) (.ofNat (2*r+1)))=.ofNat (f+(2*r+1)):=Ah tO;have u2:Am .i64 (Int.add (.ofNat (f+(2*r+1))) (.ofNat 1))=.ofNat (f+(2*r+1)+1):=Ah tO;have e2:=fun (h:Hp) (c':KV)=>AI (h:=h) (c:=c') (A:=A) (N:=N) (i:=f+(2*r+1)) tO;have e3:=fun (h:Hp) (c':KV)=>AI (h:=h) (c:=c') (A:=A) (N:=N) (i:=f+(2*r+1)+1) tO;have l1:f+(2*r+1)<m:=tO;have l2:f+(2*r+1)+1<m:=tO;by_cases hx:A (f+(2*r+1))<A (f+(2*r+1)+1)
    ·have hx':(A (f+(2*r+1))<A (f+(2*r+1)+1))=True:=eq_true hx;refine Tst (J14 g0 g1 g2 g3 g8 w1 w2 w3 c1 d1 u1 u2 c66 (J8 @AA mb e2 e3 l1 l2 hx' (J2 @Nat.mul_one @Nat.zero_add))) ?_;refine fin (2*r+1+1) (.inr rfl) hd (fun c' x1 x2 x3=>?_) _ ?_ ?_ ?_ ?_ ?_ ?_
     ·have:c'=2*r+1∨c'=2*r+1+1:=tO;rcases this with rfl|rfl
      ·exact Nat.le_of_lt hx
      ·exact Nat.le_refl _
     ·exact Ssc g0
     ·exact Ssc g1
     ·exact Ssc g2
     ·exact Ssc g3
     ·exact Ssc g8
     ·exact Af
    ·have hx':(A (f+(2*r+1))<A (f+(2*r+1)+1))=False:=eq_false hx;refine Tst (J14 g0 g1 g2 g3 g8 w1 w2 w3 c1 d1 u1 u2 c66 (J8 @AA mb e2 e3 l1 l2 hx' (J2 @Nat.mul_one @Nat.zero_add))) ?_;refine fin (2*r+1) (.inl rfl) hc (fun c' x1 x2 x3=>?_) _ ?_ ?_ ?_ ?_ ?_ ?_
     ·have:c'=2*r+1∨c'=2*r+1+1:=tO;rcases this with rfl|rfl
      ·exact Nat.le_refl _
      ·exact Nat.le_of_not_lt hx
     ·exact Ssc g0
     ·exact Ssc g1
     ·exact Ssc g2
     ·exact Ssc g3
     ·exact Ssc g8
     ·exact Af
   ·have d1:(2*r+1+1<hi)=False:=eq_false hd;refine Tst (J10 g0 g1 g2 g3 g8 w1 w2 w3 c1 d1) ?_;refine fin (2*r+1) (.inl rfl) hc (fun c' x1 x2 x3=>?_) _ ?_ ?_ ?_ ?_ ?_ ?_
    ·have:c'=2*r+1:=tO;rw[this];exact Nat.le_refl _
    ·exact Ssc g0
    ·exact Ssc g1
    ·exact Ssc g2
    ·exact Ssc g3
    ·exact Ssc g8
    ·exact Af
  ·have c1:(2*r+1<hi)=False:=eq_false hc;refine Tst (J8 g0 g1 g2 g3 g8 w1 w2 c1) ?_;exact (he _ _ A (S.leaf tO) Q K0 mb).1
theorem QD (hE:Fns E) (hF:Hns E) (hG:Sns E) {b:K} {f lo hi m cp N:Nat} (hm:m≤N) (hN:N≤4000000000000000000) (hf:f+hi≤m) (hlo:lo≤hi) (hL:N+2≤L) {A:Nat→Nat} (mb:blk h b=.cells (Az A N)) (S:Sft (·≤·) f lo hi lo A)
  (hk:∀h1 A1,Hp2 (·≤·) f lo hi A1→Sws f (f+hi) A A1→Ac [b] h h1→blk h1 b=.cells (Az A1 N)→kc (.ret (.tup [])) none h1=true):
  call E (L+1) (n+3) (.fn 198) [.sl b 0 m cp 0,vI lo,vI hi,vI f] none h kc=true:=by
 rw[Ag hG.f1198,vp,qP,V3];refine Tst @Ad ?_;refine RX hE hF (A0:=A) (h0:=h) (cp:=cp) hm hN hf (fun t1 h1 A1 x1 x2 x3 x4=>⟨?_,?_⟩) (hi-lo) lo _ A _ _ tO tO tO hlo S .refl (.refl _ _) mb ?_ ?_ ?_ ?_ ?_
 ·refine AV ?_;exact hk _ A1 x1 x2 x3 x4
 ·refine AV ?_;exact hk _ A1 x1 x2 x3 x4
 ·exact Af
 ·exact Af
 ·exact Af
 ·exact Af
 ·exact Af
end
end Go.AJ
namespace Go.AJ
open Go
set_option maxRecDepth 100000
section
variable [IT] {E:Env} {L n:Nat} {h:Hp} {kc:KC} {t:T V} {d:Dc} {k:KE} {fi:FI} {c:KV} {C:As}
theorem So (hE:Fns E) (hF:Hns E) (hG:Sns E) {b:K} {f hi m cp N:Nat} (hm:m≤N) (hN:N≤4000000000000000000) (hf:f+hi≤m) (hL:N+3≤L) {A0:Nat→Nat} {h0:Hp}
  (hk:∀t1 h1 A1,Hp2 (·≤·) f 0 hi A1→Sws f (f+hi) A0 A1→Ac [b] h0 h1→blk h1 b=.cells (Az A1 N)→
   tg 0 t1=.sl b 0 m cp 0→tg 6 t1=vI f→tg 7 t1=vI 0→tg 8 t1=vI hi→k (.exit 0) t1 d h1=true):
  ∀(r M:Nat) (A:Nat→Nat) (t:T V) (h:Hp),r≤hi→r+1≤M→Hp2 (·≤·) f r hi A→Sws f (f+hi) A0 A→Ac [b] h0 h→blk h b=.cells (Az A N)→
  tg 0 t=.sl b 0 m cp 0→tg 6 t=vI f→tg 7 t=vI 0→tg 8 t=vI hi→tg 9 t=.int .i64 (dec r)→
  iter (exec (call E (L+1) (n+4)) (L+1) fi LQ) M t d h k=true:=by
 obtain ⟨L,rfl⟩:=pM L;intro r;induction r with
 |zero=>
  intro M A t h hr hM S Q K0 mb g0 g6 g7 g8 g9;obtain ⟨M,rfl⟩:=pM M;rw[show dec 0=.negSucc 0 from rfl] at g9;rw[Ab,LQ];refine Tst (J6 g0 g6 g7 g8 g9 @BG) ?_;refine hk _ _ A S Q K0 mb ?_ ?_ ?_ ?_
  ·exact Ssc g0
  ·exact Ssc g6
  ·exact Ssc g7
  ·exact Ssc g8
 |succ r ih=>
  intro M A t h hr hM S Q K0 mb g0 g6 g7 g8 g9;obtain ⟨M,rfl⟩:=pM M;rw[Cr] at g9;rw[Ab,LQ];refine Tst (J6 g0 g6 g7 g8 g9 @Nat.not_lt_zero) ?_;refine QD hE hF hG hm hN hf tO tO mb (.start S) (fun h1 A1 x1 x2 x3 x4=>?_);have w1:Am .i64 (Int.sub (.ofNat r) (.ofNat 1))=dec r:=Bi tO;refine Tst (J6 g0 g6 g7 g8 g9 w1) ?_;refine ih M A1 _ _ tO tO x1 (Q.trans x2) (K0.trans x3) x4 ?_ ?_ ?_ ?_ ?_
  ·exact Ssc g0
  ·exact Ssc g6
  ·exact Ssc g7
  ·exact Ssc g8
  ·exact Af
theorem Sn (hE:Fns E) (hF:Hns E) (hG:Sns E) {b:K} {f hi m cp N:Nat} (hm:m≤N) (hN:N≤4000000000000000000) (hf:f+hi≤m) (hL:N+3≤L) {A0:Nat→Nat} {h0:Hp}
  (hk:∀t1 h1 A1,Srt (·≤·) f (f+hi) A1→Sws f (f+hi) A0 A1→Ac [b] h0 h1→blk h1 b=.cells (Az A1 N)→k (.exit 2) t1 d h1=true):
  ∀(r M:Nat) (A:Nat→Nat) (t:T V) (h:Hp),r≤hi→r+1≤M→Pop (·≤·) f hi r A→Sws f (f+hi) A0 A→Ac [b] h0 h→blk h b=.cells (Az A N)→
  tg 0 t=.sl b 0 m cp 0→tg 6 t=vI f→tg 7 t=vI 0→tg 10 t=.int .i64 (dec r)→
  iter (exec (call E (L+1) (n+4)) (L+1) fi LP) M t d h k=true:=by
 obtain ⟨L,rfl⟩:=pM L;intro r;induction r with
 |zero=>intro M A t h hr hM S Q K0 mb g0 g6 g7 g9;obtain ⟨M,rfl⟩:=pM M;rw[show dec 0=.negSucc 0 from rfl] at g9;rw[Ab,LP];refine Tst (J5 g0 g6 g7 g9 @BG) ?_;exact hk _ _ A S.sorted Q K0 mb
 |succ r ih=>
  intro M A t h hr hM S Q K0 mb g0 g6 g7 g9;obtain ⟨M,rfl⟩:=pM M;rw[Cr] at g9;have w2:Am .i64 (Int.add (.ofNat f) (.ofNat r))=.ofNat (f+r):=Ah tO;have e2:=fun (h:Hp) (c':KV)=>AI (h:=h) (c:=c') (A:=A) (N:=N) (i:=f) tO;have e3:=fun (h:Hp) (c':KV)=>AI (h:=h) (c:=c') (A:=A) (N:=N) (i:=f+r) tO;have s1:=fun (h:Hp) (k':Hp→Bool)=>BE (h:=h) (f:=k') (A:=A) (N:=N) (b:=b) (x:=A (f+r)) (i:=f) tO;have s2:=fun (h:Hp) (k':Hp→Bool)=>BE (h:=h) (f:=k') (A:=Ms A f (A (f+r))) (N:=N) (b:=b) (x:=A f) (i:=f+r) tO;have l1:f<m:=tO;have l2:f+r<m:=tO;have P:=S.swap Rb (by omega:r<hi);rw[Ab,LP];refine Tst (J14 g0 g6 g7 g9 @Nat.not_lt_zero w2 e2 e3 s1 s2 l1 l2 @Dy (J4 @AA mb @Nat.mul_one @Nat.zero_add)) ?_;refine QD hE hF hG (f:=f) (lo:=0) (hi:=r) hm hN tO tO tO (A:=sw A f (f+r)) (by rw[Al,if_pos rfl]) P.1 (fun h1 A1 x1 x2 x3 x4=>?_);have w1:Am .i64 (Int.sub (.ofNat r) (.ofNat 1))=dec r:=Bi tO;refine Tst (J5 g0 g6 g7 g9 w1) ?_;refine ih M A1 _ _ tO tO ⟨x1,P.2.rr x2.rr tO tO⟩ ((Q.swap tO tO tO tO).trans (x2.mono tO tO)) ((K0.put (.inr (List.mem_singleton.2 rfl)) _).trans x3) x4 ?_ ?_ ?_ ?_
  ·exact Ssc g0
  ·exact Ssc g6
  ·exact Ssc g7
  ·exact Af
theorem jI (hE:Fns E) (hF:Hns E) (hG:Sns E) {b:K} {a e m cp N:Nat} (hm:m≤N) (hN:N≤4000000000000000000) (ha:a<e) (he:e≤m) (hL:N+3≤L) {A:Nat→Nat} (mb:blk h b=.cells (Az A N))
  (hk:∀h1 A1,Srt (·≤·) a e A1→Sws a e A A1→Ac [b] h h1→blk h1 b=.cells (Az A1 N)→kc (.ret (.tup [])) none h1=true):
  call E (L+1) (n+5) (.fn 136) [.sl b 0 m cp 0,vI a,vI e] none h kc=true:=by
 obtain ⟨hi,rfl⟩:∃hi,e=a+hi:=⟨e-a,by omega⟩
 rw[Ag hG.f1136,vJ,rk,XC,XB,XA,Xy,Xx];have w1:Am .i64 (Int.sub (.ofNat (a+hi)) (.ofNat a))=.ofNat hi:=by rw[Ao tO,Nat.add_sub_cancel_left,Ah tO]
 have w2:Am .i64 (Int.sub (.ofNat hi) (.ofNat 1))=.ofNat (hi-1):=by rw[Ao tO,Ah tO]
 have w3:=fun (h:Hp) (c:KV)=>Ac9 (h:=h) (c:=c) (a:=hi-1) tO;refine Tst (J4 w1 w2 w3 @Ad) ?_;refine So hE hF hG (f:=a) (hi:=hi) (cp:=cp) hm hN he tO (A0:=A) (h0:=h) (fun t1 h1 A1 x1 x2 x3 x4 g0 g6 g7 g8=>?_) ((hi-1)/2+1) _ A _ _ tO tO (fun c c1 c2 c3=>by omega) .refl (.refl _ _) mb ?_ ?_ ?_ ?_ ?_
 ·refine Tst (J6 g0 g6 g7 g8 w2 @Ad) ?_;refine Sn hE hF hG (f:=a) (hi:=hi) (cp:=cp) hm hN he tO (A0:=A) (h0:=h) (fun t2 h2 A2 y1 y2 y3 y4=>?_) hi _ A1 _ _ tO tO (.start x1) x2 x3 x4 ?_ ?_ ?_ ?_
  ·refine AV ?_;exact hk _ A2 y1 y2 y3 y4
  ·exact Ssc g0
  ·exact Ssc g6
  ·exact Ssc g7
  ·obtain ⟨j,rfl⟩:=pM hi;rw[Cr];exact Ssc (show∀j,j+1-1=j from fun _=>rfl)
 ·exact Af
 ·exact Af
 ·exact Af
 ·exact Af
 ·rw[Cr];exact Af
end
end Go.AJ
namespace Go.AJ
open Go
set_option maxRecDepth 100000
section
variable [IT] {E:Env} {L n:Nat} {h:Hp} {kc:KC} {t:T V} {d:Dc} {k:KE} {fi:FI} {c:KV} {C:As}
theorem Sk {b:K} {a e m cp N:Nat} (hm:m≤N) (hN:N≤4000000000000000000) (he:e≤m) {A0:Nat→Nat} {h0:Hp}
  (hk:∀t1 h1 A1,Sws a e A0 A1→Ac [b] h0 h1→blk h1 b=.cells (Az A1 N)→k (.exit 0) t1 d h1=true):
  ∀(w i j M:Nat) (A:Nat→Nat) (t:T V) (h:Hp),j≤i+w→w+1≤M→a≤i→j<e→Sws a e A0 A→Ac [b] h0 h→blk h b=.cells (Az A N)→
  tg 0 t=.sl b 0 m cp 0→tg 6 t=vI i→tg 7 t=vI j→
  iter (exec C L fi LN) M t d h k=true:=by
 intro w;induction w with
 |zero=>intro i j M A t h hw hM hi hj S K0 mb g0 g6 g7;obtain ⟨M,rfl⟩:=pM M;have c1:(i<j)=False:=eF;rw[Ab,LN];refine Tst (J4 g0 g6 g7 c1) ?_;exact hk _ _ A S K0 mb
 |succ w ih=>
  intro i j M A t h hw hM hi hj S K0 mb g0 g6 g7;obtain ⟨M,rfl⟩:=pM M;rw[Ab,LN];by_cases hc:i<j
  ·have c1:(i<j)=True:=eq_true hc;have e2:=fun (h:Hp) (c':KV)=>AI (h:=h) (c:=c') (A:=A) (N:=N) (i:=i) tO;have e3:=fun (h:Hp) (c':KV)=>AI (h:=h) (c:=c') (A:=A) (N:=N) (i:=j) tO;have s1:=fun (h:Hp) (k':Hp→Bool)=>BE (h:=h) (f:=k') (A:=A) (N:=N) (b:=b) (x:=A j) (i:=i) tO;have s2:=fun (h:Hp) (k':Hp→Bool)=>BE (h:=h) (f:=k') (A:=Ms A i (A j)) (N:=N) (b:=b) (x:=A i) (i:=j) tO;have l1:i<m:=tO;have l2:j<m:=tO;have w1:=wA i;have w2:Am .i64 (Int.sub (.ofNat j) (.ofNat 1))=.ofNat (j-1):=by rw[Ao tO,Ah tO]
   refine Tst (J14 g0 g6 g7 c1 e2 e3 s1 s2 l1 l2 @Dy w1 w2 (J4 @AA mb @Nat.mul_one @Nat.zero_add)) ?_;refine ih (i+1) (j-1) M (sw A i j) _ _ tO tO tO tO (S.swap tO tO tO tO) (K0.put (.inr (List.mem_singleton.2 rfl)) _) (by rw[Al,if_pos rfl]) ?_ ?_ ?_
   ·exact Ssc g0
   ·exact Af
   ·exact Af
  ·have c1:(i<j)=False:=eq_false hc;refine Tst (J4 g0 g6 g7 c1) ?_;exact hk _ _ A S K0 mb
theorem jF (hG:Sns E) {b:K} {a e m cp N:Nat} (hm:m≤N) (hN:N≤4000000000000000000) (ha:a<e) (he:e≤m) (hL:N+3≤L) {A:Nat→Nat} (mb:blk h b=.cells (Az A N))
  (hk:∀h1 A1,Sws a e A A1→Ac [b] h h1→blk h1 b=.cells (Az A1 N)→kc (.ret (.tup [])) none h1=true):
  call E (L+1) (n+1) (.fn 139) [.sl b 0 m cp 0,vI a,vI e] none h kc=true:=by
 rw[Ag hG.f1139,vD,rh,Xj,Xi];have w2:Am .i64 (Int.sub (.ofNat e) (.ofNat 1))=.ofNat (e-1):=by rw[Ao tO,Ah tO]
 refine Tst (J2 w2 @Ad) ?_;refine Sk (a:=a) (e:=e) (cp:=cp) hm hN he (A0:=A) (h0:=h) (fun t1 h1 A1 x2 x3 x4=>?_) e a (e-1) _ A _ _ tO tO tO tO .refl (.refl _ _) mb ?_ ?_ ?_
 ·refine AV ?_;exact hk _ A1 x2 x3 x4
 ·exact Af
 ·exact Af
 ·exact Af
end
end Go.AJ
namespace Go.AJ
open Go
set_option maxRecDepth 100000
section
variable [IT] {E:Env} {L n:Nat} {h:Hp} {kc:KC} {t:T V} {d:Dc} {k:KE} {fi:FI} {c:KV} {C:As}
theorem JA (hE:Fns E) (hF:Hns E) {b:K} {a e j m cp N:Nat} (hm:m≤N) (hN:N≤4000000000000000000) (he:e≤m) (hj:j<e) {A:Nat→Nat} (mb:blk h b=.cells (Az A N)):
  ∀(w i M:Nat) (t:T V),j+1≤i+w→w+1≤M→a<i→i≤j+1→Peq (·≤·) a e i j A→
  tg 0 t=.sl b 0 m cp 0→tg 1 t=vI a→tg 9 t=vI i→tg 10 t=vI j→
  (∀i' t1,i≤i'→i'≤j+1→Peq (·≤·) a e i' j A→(i'≤j→¬A i'≤A a)→tg 0 t1=.sl b 0 m cp 0→tg 1 t1=vI a→tg 9 t1=vI i'→tg 10 t1=vI j→k (.exit 2) t1 d h=true)→
  iter (exec (call E (L+1) (n+2)) (L+1) fi LH) M t d h k=true:=by
 have c66:=fun (x y:Int) (h:Hp) (kc:KC)=>BW (L:=L) (n:=n) (h:=h) (kc:=kc) hE hF (a:=x) (b:=y);intro w;induction w with
 |zero=>
  intro i M t hw hM ha hi P g0 g1 g9 g10 hk;obtain ⟨M,rfl⟩:=pM M;have c1:(j<i)=True:=eT;rw[Ab,LH];refine Tst (J5 g0 g1 g9 g10 c1) ?_;refine hk i _ tO hi P (fun q=>absurd q tO) ?_ ?_ ?_ ?_
  ·exact Ssc g0
  ·exact Ssc g1
  ·exact Ssc g9
  ·exact Ssc g10
 |succ w ih=>
  intro i M t hw hM ha hi P g0 g1 g9 g10 hk;obtain ⟨M,rfl⟩:=pM M;rw[Ab,LH];by_cases hc:j<i
  ·have c1:(j<i)=True:=eq_true hc;refine Tst (J5 g0 g1 g9 g10 c1) ?_;refine hk i _ tO hi P (fun q=>absurd q tO) ?_ ?_ ?_ ?_
   ·exact Ssc g0
   ·exact Ssc g1
   ·exact Ssc g9
   ·exact Ssc g10
  ·have c1:(j<i)=False:=eq_false hc;have e2:=fun (h:Hp) (c':KV)=>AI (h:=h) (c:=c') (A:=A) (N:=N) (i:=i) tO;have e3:=fun (h:Hp) (c':KV)=>AI (h:=h) (c:=c') (A:=A) (N:=N) (i:=a) tO;have l1:i<m:=tO;have l2:a<m:=tO;by_cases hx:A a<A i
   ·have hx':(A a<A i)=True:=eq_true hx;refine Tst (J14 g0 g1 g9 g10 c1 c66 @AA mb e2 e3 l1 l2 hx' (J2 @Nat.mul_one @Nat.zero_add)) ?_;refine hk i _ tO hi P (fun _=>Nat.not_le.2 hx) ?_ ?_ ?_ ?_
    ·exact Ssc g0
    ·exact Ssc g1
    ·exact Ssc g9
    ·exact Ssc g10
   ·have hx':(A a<A i)=False:=eq_false hx;have w1:=wA i;refine Tst (J14 g0 g1 g9 g10 c1 c66 @AA mb e2 e3 l1 l2 hx' (J3 @Nat.mul_one @Nat.zero_add w1)) ?_;refine ih (i+1) M _ tO tO tO tO (P.next (Nat.le_of_not_lt hx)) ?_ ?_ ?_ ?_ (fun i' t1 x1=>hk i' t1 tO)
    ·exact Ssc g0
    ·exact Ssc g1
    ·exact Af
    ·exact Ssc g10
theorem Jz (hE:Fns E) (hF:Hns E) {b:K} {a e i m cp N:Nat} (hm:m≤N) (hN:N≤4000000000000000000) (he:e≤m) (hi:a<i) {A:Nat→Nat} (mb:blk h b=.cells (Az A N)):
  ∀(w j M:Nat) (t:T V),j+1≤i+w→w+1≤M→j<e→i≤j+1→Peq (·≤·) a e i j A→
  tg 0 t=.sl b 0 m cp 0→tg 1 t=vI a→tg 9 t=vI i→tg 10 t=vI j→
  (∀j' t1,j'≤j→i≤j'+1→Peq (·≤·) a e i j' A→(i≤j'→A j'≤A a)→tg 0 t1=.sl b 0 m cp 0→tg 1 t1=vI a→tg 9 t1=vI i→tg 10 t1=vI j'→k (.exit 4) t1 d h=true)→
  iter (exec (call E (L+1) (n+2)) (L+1) fi LG) M t d h k=true:=by
 have c66:=fun (x y:Int) (h:Hp) (kc:KC)=>BW (L:=L) (n:=n) (h:=h) (kc:=kc) hE hF (a:=x) (b:=y);intro w;induction w with
 |zero=>
  intro j M t hw hM ha hj P g0 g1 g9 g10 hk;obtain ⟨M,rfl⟩:=pM M;have c1:(j<i)=True:=eT;rw[Ab,LG];refine Tst (J5 g0 g1 g9 g10 c1) ?_;refine hk j _ tO hj P (fun q=>absurd q tO) ?_ ?_ ?_ ?_
  ·exact Ssc g0
  ·exact Ssc g1
  ·exact Ssc g9
  ·exact Ssc g10
 |succ w ih=>
  intro j M t hw hM ha hj P g0 g1 g9 g10 hk;obtain ⟨M,rfl⟩:=pM M;rw[Ab,LG];by_cases hc:j<i
  ·have c1:(j<i)=True:=eq_true hc;refine Tst (J5 g0 g1 g9 g10 c1) ?_;refine hk j _ tO hj P (fun q=>absurd q tO) ?_ ?_ ?_ ?_
   ·exact Ssc g0
   ·exact Ssc g1
   ·exact Ssc g9
   ·exact Ssc g10
  ·have c1:(j<i)=False:=eq_false hc;have e2:=fun (h:Hp) (c':KV)=>AI (h:=h) (c:=c') (A:=A) (N:=N) (i:=j) tO;have e3:=fun (h:Hp) (c':KV)=>AI (h:=h) (c:=c') (A:=A) (N:=N) (i:=a) tO;have l1:j<m:=tO;have l2:a<m:=tO;by_cases hx:A a<A j
   ·have hx':(A a<A j)=True:=eq_true hx;obtain ⟨j,rfl⟩:=pM j;have w1:Am .i64 (Int.sub (.ofNat (j+1)) (.ofNat 1))=.ofNat j:=by rw[Ao tO,Ah tO];rfl
    refine Tst (J14 g0 g1 g9 g10 c1 c66 @AA mb e2 e3 l1 l2 hx' (J3 @Nat.mul_one @Nat.zero_add w1)) ?_;refine ih j M _ tO tO tO tO (P.prev (Nat.not_le.2 hx)) ?_ ?_ ?_ ?_ (fun j' t1 x1=>hk j' t1 tO)
    ·exact Ssc g0
    ·exact Ssc g1
    ·exact Ssc g9
    ·exact Af
   ·have hx':(A a<A j)=False:=eq_false hx;refine Tst (J14 g0 g1 g9 g10 c1 c66 @AA mb e2 e3 l1 l2 hx' (J2 @Nat.mul_one @Nat.zero_add)) ?_;refine hk j _ tO hj P (fun _=>Nat.le_of_not_lt hx) ?_ ?_ ?_ ?_
    ·exact Ssc g0
    ·exact Ssc g1
    ·exact Ssc g9
    ·exact Ssc g10
theorem Se (hE:Fns E) (hF:Hns E) {b:K} {a e m cp N x:Nat} (hm:m≤N) (hN:N≤4000000000000000000) (he:e≤m) (hL:N+3≤L) {A0:Nat→Nat} {h0:Hp}
  (hk:∀i t1 h1 A1,a<i→i≤e→Peq (·≤·) a e i (i-1) A1→A1 a=x→Sws a e A0 A1→Ac [b] h0 h1→blk h1 b=.cells (Az A1 N)→tg 9 t1=vI i→k (.exit 0) t1 d h1=true):
  ∀(w i j M:Nat) (A:Nat→Nat) (t:T V) (h:Hp),j+1≤i+w→w+1≤M→a<i→i≤j+1→j<e→Peq (·≤·) a e i j A→A a=x→Sws a e A0 A→Ac [b] h0 h→blk h b=.cells (Az A N)→
  tg 0 t=.sl b 0 m cp 0→tg 1 t=vI a→tg 9 t=vI i→tg 10 t=vI j→
  iter (exec (call E (L+1) (n+2)) (L+1) fi LF) M t d h k=true:=by
 intro w;induction w with
 |zero=>intro i j M A t h hw hM ha hi hj P hx S K0 mb g0 g1 g9 g10;obtain ⟨M,rfl⟩:=pM M;rw[Ab,LF];refine Tst (J5 g0 g1 g9 g10 @Ad) ?_;refine JA hE hF (a:=a) (e:=e) (j:=j) (cp:=cp) hm hN he hj mb N i _ _ tO tO ha hi P g0 g1 g9 g10 (fun i1 t1 x1 x2 P1 q1 g0 g1 g9 g10=>?_);refine Tst (J5 g0 g1 g9 g10 @Ad) ?_;refine Jz hE hF (a:=a) (e:=e) (i:=i1) (cp:=cp) hm hN he tO mb N j _ _ tO tO hj x2 P1 g0 g1 g9 g10 (fun j1 t2 y1 y2 P2 q2 g0 g1 g9 g10=>?_);have c1:(j1<i1)=True:=eT;refine Tst (J5 g0 g1 g9 g10 c1) ?_;obtain rfl:j1=i1-1:=tO;exact hk i1 _ _ A tO tO P2 hx S K0 mb (Ssc g9)
 |succ w ih=>
  intro i j M A t h hw hM ha hi hj P hx S K0 mb g0 g1 g9 g10;obtain ⟨M,rfl⟩:=pM M;rw[Ab,LF];refine Tst (J5 g0 g1 g9 g10 @Ad) ?_;refine JA hE hF (a:=a) (e:=e) (j:=j) (cp:=cp) hm hN he hj mb N i _ _ tO tO ha hi P g0 g1 g9 g10 (fun i1 t1 x1 x2 P1 q1 g0 g1 g9 g10=>?_);refine Tst (J5 g0 g1 g9 g10 @Ad) ?_;refine Jz hE hF (a:=a) (e:=e) (i:=i1) (cp:=cp) hm hN he tO mb N j _ _ tO tO hj x2 P1 g0 g1 g9 g10 (fun j1 t2 y1 y2 P2 q2 g0 g1 g9 g10=>?_);by_cases hc:j1<i1
  ·have c1:(j1<i1)=True:=eq_true hc;refine Tst (J5 g0 g1 g9 g10 c1) ?_;obtain rfl:j1=i1-1:=tO;exact hk i1 _ _ A tO tO P2 hx S K0 mb (Ssc g9)
  ·have c1:(j1<i1)=False:=eq_false hc;have q1':=q1 tO;have q2':=q2 tO;have hne:i1≠j1:=fun q=>by subst q;exact q1' q2'
   obtain ⟨j1,rfl⟩:=pM j1;have e2:=fun (h:Hp) (c':KV)=>AI (h:=h) (c:=c') (A:=A) (N:=N) (i:=i1) tO;have e3:=fun (h:Hp) (c':KV)=>AI (h:=h) (c:=c') (A:=A) (N:=N) (i:=j1+1) tO;have s1:=fun (h:Hp) (k':Hp→Bool)=>BE (h:=h) (f:=k') (A:=A) (N:=N) (b:=b) (x:=A (j1+1)) (i:=i1) tO;have s2:=fun (h:Hp) (k':Hp→Bool)=>BE (h:=h) (f:=k') (A:=Ms A i1 (A (j1+1))) (N:=N) (b:=b) (x:=A i1) (i:=j1+1) tO;have l1:i1<m:=tO;have l2:j1+1<m:=tO;have w1:=wA i1;have w2:Am .i64 (Int.sub (.ofNat (j1+1)) (.ofNat 1))=.ofNat j1:=by rw[Ao tO,Ah tO];rfl
   refine Tst (J14 g0 g1 g9 g10 c1 e2 e3 s1 s2 l1 l2 @Dy w1 (J5 w2 @AA mb @Nat.mul_one @Nat.zero_add)) ?_;refine ih (i1+1) j1 M (sw A i1 (j1+1)) _ _ tO tO tO tO tO (P2.swap tO tO q1' q2') ((Hl tO tO).trans hx) (S.swap tO tO tO tO) (K0.put (.inr (List.mem_singleton.2 rfl)) _) (by rw[Al,if_pos rfl]) ?_ ?_ ?_ ?_
   ·exact Ssc g0
   ·exact Ssc g1
   ·exact Af
   ·exact Af
theorem jD (hE:Fns E) (hF:Hns E) (hG:Sns E) {b:K} {a e p m cp N:Nat} (hm:m≤N) (hN:N≤4000000000000000000) (ha:a≤p) (hp:p<e) (he:e≤m) (hL:N+3≤L) {A:Nat→Nat} (mb:blk h b=.cells (Az A N))
  (hk:∀i h1 A1,a<i→i≤e→Peq (·≤·) a e i (i-1) A1→A1 a=A p→Sws a e A A1→Ac [b] h h1→blk h1 b=.cells (Az A1 N)→kc (.ret (vI i)) none h1=true):
  call E (L+1) (n+3) (.fn 141) [.sl b 0 m cp 0,vI a,vI e,vI p] none h kc=true:=by
 rw[Ag hG.f1141,vB,qY,Xb,Xa,W0,WZ,WY];have e2:=fun (h:Hp) (c':KV)=>AI (h:=h) (c:=c') (A:=A) (N:=N) (i:=a) tO;have e3:=fun (h:Hp) (c':KV)=>AI (h:=h) (c:=c') (A:=A) (N:=N) (i:=p) tO;have s1:=fun (h:Hp) (k':Hp→Bool)=>BE (h:=h) (f:=k') (A:=A) (N:=N) (b:=b) (x:=A p) (i:=a) tO;have s2:=fun (h:Hp) (k':Hp→Bool)=>BE (h:=h) (f:=k') (A:=Ms A a (A p)) (N:=N) (b:=b) (x:=A a) (i:=p) tO;have l1:a<m:=tO;have l2:p<m:=tO;have w1:=wA a;have w2:Am .i64 (Int.sub (.ofNat e) (.ofNat 1))=.ofNat (e-1):=by rw[Ao tO,Ah tO]
 refine Tst (J13 e2 e3 s1 s2 l1 l2 @Dy w1 w2 @AA mb @Ad (J2 @Nat.mul_one @Nat.zero_add)) ?_;refine Se hE hF (a:=a) (e:=e) (cp:=cp) (x:=A p) hm hN he hL (A0:=A) (h0:=h) (fun i t1 h1 A1 x1 x2 x3 x4 x5 x6 x7 g9=>?_) e (a+1) (e-1) _ (sw A a p) _ _ tO tO tO tO tO ⟨fun k k1 k2=>?_,fun k k1 k2=>?_⟩ Uc (.swap .refl tO tO ha hp) ((Ac.refl _ _).put (.inr (List.mem_singleton.2 rfl)) _) (by rw[Al,if_pos rfl]) ?_ ?_ ?_ ?_
 ·refine Sst g9 ?_;exact hk i _ A1 x1 x2 x3 x4 x5 x6 x7
 ·obtain rfl:k=a:=tO;exact Nat.le_refl _
 ·omega
 ·exact Af
 ·exact Af
 ·exact Af
 ·exact Af
end
end Go.AJ
