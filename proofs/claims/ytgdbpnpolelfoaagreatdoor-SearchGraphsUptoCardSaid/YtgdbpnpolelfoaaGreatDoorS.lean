/- The plain law of sorting. -/
set_option linter.all false
namespace Go.AJ
structure Tot {α:Type} (le:α→α→Prop):Prop where
 refl:∀x,le x x
 trans:∀{x y z},le x y→le y z→le x z
 total:∀x y,le x y∨le y x
theorem Tot.of_not {α:Type} {le:α→α→Prop} (T:Tot le) {x y:α} (h:¬le x y):le y x:=(T.total x y).resolve_left h
section
variable {α:Type} {le:α→α→Prop} {A B C:Nat→α} {a b e i j k m:Nat}
def sw (A:Nat→α) (i j:Nat):Nat→α:=fun k=>if k=i then A j else if k=j then A i else A k
theorem Uc:sw A i j i=A j:=if_pos rfl
theorem eO:sw A i j j=A i:=by unfold sw;by_cases h:j=i<;>simp [h]
theorem Hl (h1:k≠i) (h2:k≠j):sw A i j k=A k:=by unfold sw;rw[if_neg h1,if_neg h2]
structure RR (a e:Nat) (A B:Nat→α):Prop where
 out:∀k,k<a∨e≤k→B k=A k
 frm:∀k,a≤k→k<e→∃j,a≤j∧j<e∧B k=A j
theorem RR.refl:RR a e A A:=⟨fun _ _=>rfl,fun k h1 h2=>⟨k,h1,h2,rfl⟩⟩
theorem RR.trans (h1:RR a e A B) (h2:RR a e B C):RR a e A C:=
 ⟨fun k hk=>by rw[h2.out k hk,h1.out k hk],fun k hk1 hk2=>by obtain ⟨j,j1,j2,e1⟩:=h2.frm k hk1 hk2;obtain ⟨j',j3,j4,e2⟩:=h1.frm j j1 j2;exact ⟨j',j3,j4,e1.trans e2⟩⟩
theorem RR.mono {a' e':Nat} (h:RR a e A B) (ha:a'≤a) (he:e≤e'):RR a' e' A B:=
 ⟨fun k hk=>h.out k (by omega),fun k h1 h2=>by
  by_cases hk:a≤k∧k<e
  ·obtain ⟨j,j1,j2,e1⟩:=h.frm k hk.1 hk.2;exact ⟨j,by omega,by omega,e1⟩
  ·exact ⟨k,h1,h2,h.out k (by omega)⟩⟩
theorem RR.swap (h1:a≤i) (h2:i<e) (h3:a≤j) (h4:j<e):RR a e A (sw A i j):=
 ⟨fun k hk=>Hl (by omega) (by omega),fun k k1 k2=>by
  by_cases hi:k=i
  ·exact ⟨j,h3,h4,by rw[hi,Uc]⟩
  ·by_cases hj:k=j
   ·exact ⟨i,h1,h2,by rw[hj,eO]⟩
   ·exact ⟨k,k1,k2,Hl hi hj⟩⟩
theorem RR.all {P:α→Prop} (h:RR a e A B) (hp:∀k,a≤k→k<e→P (A k)):∀k,a≤k→k<e→P (B k):=fun k h1 h2=>by obtain ⟨j,j1,j2,e1⟩:=h.frm k h1 h2;rw[e1];exact hp j j1 j2
def Srt (le:α→α→Prop) (a e:Nat) (A:Nat→α):Prop:=∀p q,a≤p→p<q→q<e→le (A p) (A q)
theorem Srt.short (h:e≤a+1):Srt le a e A:=fun p q _ _ _=>by omega
def Ins (le:α→α→Prop) (a i j:Nat) (A:Nat→α):Prop:=∀p q,a≤p→p<q→q≤i→q≠j→le (A p) (A q)
theorem Ins.start (h:Srt le a i A):Ins le a i i A:=fun p q h1 h2 h3 h4=>h p q h1 h2 (by omega)
theorem Ins.step (T:Tot le) (h:Ins le a i j A) (h1:a<j) (h2:j≤i) (h3:¬le (A (j-1)) (A j)):Ins le a i (j-1) (sw A j (j-1)):=by
 intro p q hp hpq hq hqj;by_cases q1:q=j
 ·subst q1;rw[Uc];by_cases p1:p=q-1
  ·subst p1;rw[eO];exact T.of_not h3
  ·rw[Hl (by omega) p1];exact h p (q-1) hp (by omega) (by omega) (by omega)
 ·rw[Hl q1 hqj];by_cases p1:p=j
  ·subst p1;rw[Uc];exact h (p-1) q (by omega) (by omega) hq q1
  ·by_cases p2:p=j-1
   ·subst p2;rw[eO];exact h j q (by omega) (by omega) hq q1
   ·rw[Hl p1 p2];exact h p q hp hpq hq q1
theorem Ins.done (h:Ins le a i a A):Srt le a (i+1) A:=fun p q h1 h2 h3=>h p q h1 h2 (by omega) (by omega)
theorem Ins.stop (T:Tot le) (h:Ins le a i j A) (h1:a<j) (h2:j≤i) (h3:le (A (j-1)) (A j)):Srt le a (i+1) A:=by
 intro p q hp hpq hq;by_cases q1:q=j
 ·subst q1;by_cases p1:p=q-1
  ·subst p1;exact h3
  ·exact T.trans (h p (q-1) hp (by omega) (by omega) (by omega)) h3
 ·exact h p q hp hpq (by omega) q1
structure Par (le:α→α→Prop) (a b i j:Nat) (A:Nat→α):Prop where
 lo:∀k,a<k→k<i→¬le (A a) (A k)
 hi:∀k,j<k→k<b→le (A a) (A k)
theorem Par.next (h:Par le a b i j A) (h3:¬le (A a) (A i)):Par le a b (i+1) j A:=
 ⟨fun k k1 k2=>by
  by_cases hk:k=i
  ·rw[hk];exact h3
  ·exact h.lo k k1 (by omega),h.hi⟩
theorem Par.prev (h:Par le a b i (j+1) A) (h3:le (A a) (A (j+1))):Par le a b i j A:=
 ⟨h.lo,fun k k1 k2=>by
  by_cases hk:k=j+1
  ·rw[hk];exact h3
  ·exact h.hi k (by omega) k2⟩
theorem Par.swap (h:Par le a b i (j+1) A) (h0:a<i) (h1:i≤j) (h2:le (A a) (A i)) (h3:¬le (A a) (A (j+1))):Par le a b (i+1) j (sw A i (j+1)):=by
 have ea:sw A i (j+1) a=A a:=Hl (by omega) (by omega);refine ⟨fun k k1 k2=>?_,fun k k1 k2=>?_⟩
 ·rw[ea];by_cases hk:k=i
  ·rw[hk,Uc];exact h3
  ·rw[Hl hk (by omega)];exact h.lo k k1 (by omega)
 ·rw[ea];by_cases hk:k=j+1
  ·rw[hk,eO];exact h2
  ·rw[Hl (by omega) hk];exact h.hi k (by omega) k2
structure Piv (le:α→α→Prop) (a b m:Nat) (A:Nat→α):Prop where
 ge:a≤m
 lt:m<b
 lo:∀k,a≤k→k<m→le (A k) (A m)
 hi:∀k,m<k→k<b→le (A m) (A k)
theorem Par.piv (T:Tot le) (h:Par le a b (j+1) j A) (h1:a≤j) (h2:j<b):Piv le a b j (sw A j a):=by
 have ej:sw A j a j=A a:=Uc;refine ⟨h1,h2,fun k k1 k2=>?_,fun k k1 k2=>?_⟩
 ·rw[ej];by_cases hk:k=a
  ·rw[hk,eO];exact T.of_not (h.lo j (by omega) (by omega))
  ·rw[Hl (by omega) hk];exact T.of_not (h.lo k (by omega) (by omega))
 ·rw[ej,Hl (by omega) (by omega)];exact h.hi k k1 k2
theorem Piv.rl {B:Nat→α} (h:Piv le a b m A) (r:RR a m A B):Piv le a b m B:=by
 have em:B m=A m:=r.out m (by omega);refine ⟨h.ge,h.lt,fun k k1 k2=>?_,fun k k1 k2=>?_⟩
 ·rw[em];exact r.all (P:=fun x=>le x (A m)) h.lo k k1 k2
 ·rw[em,r.out k (by omega)];exact h.hi k k1 k2
theorem Piv.rr {B:Nat→α} (h:Piv le a b m A) (r:RR (m+1) b A B):Piv le a b m B:=by
 have em:B m=A m:=r.out m (by omega);refine ⟨h.ge,h.lt,fun k k1 k2=>?_,fun k k1 k2=>?_⟩
 ·rw[em,r.out k (by omega)];exact h.lo k k1 k2
 ·rw[em];exact r.all (P:=fun x=>le (A m) x) (fun j j1 j2=>h.hi j (by omega) j2) k (by omega) k2
structure Peq (le:α→α→Prop) (a b i j:Nat) (A:Nat→α):Prop where
 lo:∀k,a≤k→k<i→le (A k) (A a)
 hi:∀k,j<k→k<b→¬le (A k) (A a)
theorem Peq.next (h:Peq le a b i j A) (h3:le (A i) (A a)):Peq le a b (i+1) j A:=
 ⟨fun k k1 k2=>by
  by_cases hk:k=i
  ·rw[hk];exact h3
  ·exact h.lo k k1 (by omega),h.hi⟩
theorem Peq.prev (h:Peq le a b i (j+1) A) (h3:¬le (A (j+1)) (A a)):Peq le a b i j A:=
 ⟨h.lo,fun k k1 k2=>by
  by_cases hk:k=j+1
  ·rw[hk];exact h3
  ·exact h.hi k (by omega) k2⟩
theorem Peq.swap (h:Peq le a b i (j+1) A) (h0:a<i) (h1:i≤j) (h2:¬le (A i) (A a)) (h3:le (A (j+1)) (A a)):Peq le a b (i+1) j (sw A i (j+1)):=by
 have ea:sw A i (j+1) a=A a:=Hl (by omega) (by omega);refine ⟨fun k k1 k2=>?_,fun k k1 k2=>?_⟩
 ·rw[ea];by_cases hk:k=i
  ·rw[hk,Uc];exact h3
  ·rw[Hl hk (by omega)];exact h.lo k k1 (by omega)
 ·rw[ea];by_cases hk:k=j+1
  ·rw[hk,eO];exact h2
  ·rw[Hl (by omega) hk];exact h.hi k (by omega) k2
def Mid (le:α→α→Prop) (a0 a b b0:Nat) (A:Nat→α):Prop:=∀p q,a0≤p→p<q→q<b0→p<a∨b≤q→le (A p) (A q)
theorem Mid.start {a0 b0:Nat}:Mid le a0 a0 b0 b0 A:=fun p q _ _ _ h=>by omega
theorem Mid.done {a0 b0:Nat} (h:Mid le a0 a b b0 A) (hs:Srt le a b A):Srt le a0 b0 A:=fun p q h1 h2 h3=>by
 by_cases hc:p<a∨b≤q
 ·exact h p q h1 h2 h3 hc
 ·exact hs p q (by omega) h2 (by omega)
theorem Mid.rr {a0 b0:Nat} {B:Nat→α} (h:Mid le a0 a b b0 A) (r:RR a b A B) (ha:a0≤a) (hb:b≤b0):Mid le a0 a b b0 B:=fun p q h1 h2 h3 hc=>by
 by_cases hp:a≤p∧p<b
 ·obtain ⟨j,j1,j2,e1⟩:=r.frm p hp.1 hp.2;rw[e1,r.out q (by omega)];exact h j q (by omega) (by omega) h3 (by omega)
 ·rw[r.out p (by omega)];by_cases hq:a≤q∧q<b
  ·obtain ⟨j,j1,j2,e1⟩:=r.frm q hq.1 hq.2;rw[e1];exact h p j h1 (by omega) (by omega) (by omega)
  ·rw[r.out q (by omega)];exact h p q h1 h2 h3 hc
theorem Mid.left {a0 b0:Nat} (T:Tot le) (h:Mid le a0 a b b0 A) (v:Piv le a b m A) (s:Srt le a m A):Mid le a0 (m+1) b b0 A:=fun p q h1 h2 h3 hc=>by
 by_cases hp:p<a∨b≤q
 ·exact h p q h1 h2 h3 hp
 ·by_cases q1:q<m
  ·exact s p q (by omega) h2 q1
  ·by_cases q2:q=m
   ·rw[q2];exact v.lo p (by omega) (by omega)
   ·by_cases p1:p=m
    ·rw[p1];exact v.hi q (by omega) (by omega)
    ·exact T.trans (v.lo p (by omega) (by omega)) (v.hi q (by omega) (by omega))
theorem Mid.right {a0 b0:Nat} (T:Tot le) (h:Mid le a0 a b b0 A) (v:Piv le a b m A) (s:Srt le (m+1) b A):Mid le a0 a m b0 A:=fun p q h1 h2 h3 hc=>by
 by_cases hp:p<a∨b≤q
 ·exact h p q h1 h2 h3 hp
 ·by_cases p1:m<p
  ·exact s p q (by omega) h2 (by omega)
  ·by_cases p2:p=m
   ·rw[p2];exact v.hi q (by omega) (by omega)
   ·by_cases q1:q=m
    ·rw[q1];exact v.lo p (by omega) (by omega)
    ·exact T.trans (v.lo p (by omega) (by omega)) (v.hi q (by omega) (by omega))
theorem Mid.eqs {a0 b0:Nat} (T:Tot le) (h:Mid le a0 a b b0 A) (v:Peq le a b m j A) (hj:j+1=m) (hl:∀k,a≤k→k<b→le (A a) (A k)):Mid le a0 m b b0 A:=fun p q h1 h2 h3 hc=>by
 by_cases hp:p<a∨b≤q
 ·exact h p q h1 h2 h3 hp
 ·exact T.trans (v.lo p (by omega) (by omega)) (hl q (by omega) (by omega))
def Pre (le:α→α→Prop) (a b:Nat) (A:Nat→α):Prop:=0<a→∀k,a≤k→k<b→le (A (a-1)) (A k)
theorem Pre.rr {B:Nat→α} (h:Pre le a b A) (r:RR a b A B):Pre le a b B:=fun h0=>by rw[r.out (a-1) (by omega)];exact r.all (h h0)
theorem Mid.pre {a0 b0:Nat} (h:Mid le a0 a b b0 A) (h0:a0<a) (hb:b≤b0):Pre le a b A:=fun _ k h1 h2=>h (a-1) k (by omega) (by omega) (by omega) (by omega)
structure Sft (le:α→α→Prop) (f lo hi r:Nat) (A:Nat→α):Prop where
 par:∀c,0<c→c<hi→lo≤(c-1)/2→(c-1)/2≠r→le (A (f+c)) (A (f+(c-1)/2))
 grand:∀c,0<c→c<hi→(c-1)/2=r→0<r→lo≤(r-1)/2→le (A (f+c)) (A (f+(r-1)/2))
def Hp2 (le:α→α→Prop) (f lo hi:Nat) (A:Nat→α):Prop:=∀c,0<c→c<hi→lo≤(c-1)/2→le (A (f+c)) (A (f+(c-1)/2))
theorem Sft.start {f lo hi:Nat} (h:Hp2 le f (lo+1) hi A):Sft le f lo hi lo A:=
 ⟨fun c h1 h2 h3 h4=>h c h1 h2 (by omega),fun c h1 h2 h3 h4 h5=>by omega⟩
theorem Sft.leaf {f lo hi r:Nat} (h:Sft le f lo hi r A) (hr:hi≤2*r+1):Hp2 le f lo hi A:=fun c h1 h2 h3=>h.par c h1 h2 h3 (by omega)
theorem Sft.stop (T:Tot le) {f lo hi r c:Nat} (h:Sft le f lo hi r A) (h1:le (A (f+c)) (A (f+r))) (h2:∀c',0<c'→c'<hi→(c'-1)/2=r→le (A (f+c')) (A (f+c))):Hp2 le f lo hi A:=fun c' c1 c2 c3=>by
 by_cases hc:(c'-1)/2=r
 ·rw[hc];exact T.trans (h2 c' c1 c2 hc) h1
 ·exact h.par c' c1 c2 c3 hc
theorem Sft.step (T:Tot le) {f lo hi r c:Nat} (h:Sft le f lo hi r A) (hr:lo≤r) (hc0:0<c) (hc:c<hi) (hcr:(c-1)/2=r) (h1:¬le (A (f+c)) (A (f+r))) (h2:∀c',0<c'→c'<hi→(c'-1)/2=r→le (A (f+c')) (A (f+c))):
  Sft le f lo hi c (sw A (f+r) (f+c)):=by
 refine ⟨fun x x1 x2 x3 x4=>?_,fun x x1 x2 x3 x4 x5=>?_⟩
 ·by_cases xr:(x-1)/2=r
  ·rw[xr,Uc];by_cases xc:x=c
   ·rw[xc,eO];exact T.of_not h1
   ·rw[Hl (by omega) (by omega)];exact h2 x x1 x2 xr
  ·rw[Hl (k:=f+(x-1)/2) (by omega) (by omega)];by_cases x5:x=r
   ·rw[x5,Uc];have:=h.grand c hc0 hc hcr (by omega) (by omega);exact this
   ·rw[Hl (by omega) (by omega)];exact h.par x x1 x2 x3 xr
 ·rw[hcr,Uc,Hl (by omega) (by omega)];have:=h.par x x1 x2 (by omega) (by omega);rw[x3] at this;exact this
theorem Hp2.top (T:Tot le) {f hi:Nat} (h:Hp2 le f 0 hi A):∀c,c<hi→le (A (f+c)) (A f):=by
 intro c;induction c using Nat.strongRecOn with
 |ind c ih=>
  intro hc;by_cases h0:c=0
  ·rw[h0];exact T.refl _
  ·exact T.trans (h c (by omega) hc (by omega)) (ih ((c-1)/2) (by omega) (by omega))
structure Pop (le:α→α→Prop) (f n i:Nat) (A:Nat→α):Prop where
 heap:Hp2 le f 0 i A
 top:Mid le f f (f+i) (f+n) A
theorem Pop.start {f n:Nat} (h:Hp2 le f 0 n A):Pop le f n n A:=⟨h,.start⟩
theorem Pop.swap (T:Tot le) {f n i:Nat} (h:Pop le f n (i+1) A) (hi:i<n):Sft le f 0 i 0 (sw A f (f+i))∧Mid le f f (f+i) (f+n) (sw A f (f+i)):=by
 refine ⟨⟨fun c c1 c2 _ c4=>?_,fun c _ _ _ h0 _=>by omega⟩,?_⟩
 ·rw[Hl (by omega) (by omega),Hl (by omega) (by omega)];exact h.heap c c1 (by omega) (by omega)
 ·have r:RR f (f+(i+1)) A (sw A f (f+i)):=RR.swap (by omega) (by omega) (by omega) (by omega);have h2:=h.top.rr r (Nat.le_refl _) (by omega);intro p q h3 h4 h5 h6;by_cases hq:q=f+i
  ·rw[hq,eO];have:=r.all (P:=fun x=>le x (A f)) (fun k k1 k2=>by have:=h.heap.top T (k-f) (by omega);rw[show f+(k-f)=k by omega] at this;exact this) p h3 (by omega);exact this
  ·exact h2 p q h3 h4 h5 (by omega)
theorem Pop.sorted {f n:Nat} (h:Pop le f n 0 A):Srt le f (f+n) A:=fun p q h1 h2 h3=>h.top p q h1 h2 h3 (by omega)
end
end Go.AJ
