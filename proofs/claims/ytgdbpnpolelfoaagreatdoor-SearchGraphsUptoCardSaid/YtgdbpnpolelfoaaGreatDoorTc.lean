/- Sorting: the whole. -/
import Derived.Test.YtgdbpnpolelfoaaGreatDoorTb
set_option linter.all false
namespace Go.AJ
open Go
set_option maxRecDepth 100000
def R92 [IT] (E:Env) (L n N m cp:Nat) (b:K) (w:Nat):Prop:=∀(h:Hp) (kc:KC) (a e l:Nat) (A:Nat→Nat),a≤e→e≤m→e-a≤w→l≤1000→Pre (·≤·) a e A→blk h b=.cells (Az A N)→b.num<(nxt h).num→
 (∀h1 A1,Srt (·≤·) a e A1→Sws a e A A1→Ac [b] h h1→blk h1 b=.cells (Az A1 N)→kc (.ret (.tup [])) none h1=true)→
 call E (L+1) n (.fn 92) [.sl b 0 m cp 0,vI a,vI e,vI l] none h kc=true
section
variable [IT] {E:Env} {L n:Nat} {h:Hp} {kc:KC} {t:T V} {d:Dc} {k:KE} {fi:FI} {c:KV} {C:As}
theorem dX (hE:Fns E) (hF:Hns E) (hG:Sns E) {b:K} {a e m cp N:Nat} (hm:m≤N) (hN:N≤1000000000000000000) (he:e≤m) (hl:12<e-a) {A:Nat→Nat} (mb:blk h b=.cells (Az A N)) (nb:b.num<(nxt h).num)
  (hk:∀p v h1,a≤p→p<e→Ae h h1→kc (.ret (.tup [vI p,vI v])) none h1=true):
  call E (L+1) (n+6) (.fn 138) [.sl b 0 m cp 0,vI a,vI e] none h kc=true:=by
 obtain ⟨l,rfl⟩:∃l,e=a+l:=⟨e-a,by omega⟩
 exact jG hE hF hG hm hN he tO mb nb hk
def Nx92 [IT] (a0 a e b0 m cp N l:Nat) (b:K) (h:Hp) (d:Dc) (k:KE) (A:Nat→Nat):Prop:=∀(q:Ex) (t1:T V) (h1:Hp) (A1:Nat→Nat) (a' e' l':Nat) (w8 w9:Bool),q=.normal∨q=.exit 1→a≤a'→a'≤e'→e'≤e→e'-a'<e-a→l'≤l→Mid (·≤·) a0 a' e' b0 A1→Sws a e A A1→Ac [b] h h1→blk h1 b=.cells (Az A1 N)→
 tg 0 t1=.sl b 0 m cp 0→tg 1 t1=vI a'→tg 2 t1=vI e'→tg 3 t1=vI l'→tg 8 t1=.bool w8→tg 9 t1=.bool w9→k q t1 d h1=true
theorem Nx92.after {a0 a e b0 m cp N l l1:Nat} {b:K} {h h1:Hp} {A A1:Nat→Nat} (hk:Nx92 a0 a e b0 m cp N l b h d k A) (hl:l1≤l) (S:Sws a e A A1) (K1:Ac [b] h h1):Nx92 a0 a e b0 m cp N l1 b h1 d k A1:=
 fun q t2 h2 A2 a' e' l' w8 w9 x1 x2 x3 x4 x5 x6 x7 x8 x9=>hk q t2 h2 A2 a' e' l' w8 w9 x1 x2 x3 x4 x5 (Nat.le_trans x6 hl) x7 (S.trans x8) (K1.trans x9)
def Rt92 [IT] (a e N:Nat) (b:K) (h:Hp) (d:Dc) (k:KE) (A:Nat→Nat):Prop:=∀(t1:T V) (h1:Hp) (A1:Nat→Nat),Srt (·≤·) a e A1→Sws a e A A1→Ac [b] h h1→blk h1 b=.cells (Az A1 N)→k .ret t1 d h1=true
theorem Rt92.after {a e N:Nat} {b:K} {h h1:Hp} {A A1:Nat→Nat} (hk:Rt92 a e N b h d k A) (S:Sws a e A A1) (K1:Ac [b] h h1):Rt92 a e N b h1 d k A1:=
 fun t2 h2 A2 x1 x2 x3=>hk t2 h2 A2 x1 (S.trans x2) (K1.trans x3)
theorem I8 (hE:Fns E) (hF:Hns E) (hG:Sns E) {b:K} {a0 b0 a e l p m cp N w:Nat} {w8 w9:Bool} (hm:m≤N) (hN:N≤60000) (hL:N+5≤L) (ih:R92 E L (n+6) N m cp b w) (he:e≤m) (hw:e-a≤w+1) (hl:l≤1000) (ha0:a0≤a) (he0:e≤b0) (hp1:a≤p) (hp2:p<e) {A:Nat→Nat} (hM:Mid (·≤·) a0 a e b0 A) (hP:Pre (·≤·) a e A) (mb:blk h b=.cells (Az A N)) (nb:b.num<(nxt h).num)
  (g0:tg 0 t=.sl b 0 m cp 0) (g1:tg 1 t=vI a) (g2:tg 2 t=vI e) (g3:tg 3 t=vI l) (g10:tg 10 t=vI (e-a)) (g11:tg 11 t=vI p)
  (hk:Nx92 a0 a e b0 m cp N l b h d k A):
  exec (call E (L+1) (n+6)) (L+1) fi NJ t d h k=true:=by
 rw[NJ];refine Tst (J6 g0 g1 g2 g3 g10 g11) ?_;refine jC hE hF hG (a:=a) (e:=e) (p:=p) hm tO hp1 hp2 he tO mb (fun j al h1 A1 pv S1 K1 mb1=>?_);have j1:=pv.ge;have j2:=pv.lt;have u1:Am .i64 (Int.sub (.ofNat j) (.ofNat a))=.ofNat (j-a):=by rw[Ao tO,Ah tO]
 have u2:Am .i64 (Int.sub (.ofNat e) (.ofNat j))=.ofNat (e-j):=by rw[Ao tO,Ah tO]
 have u3:=wA j;have q8:∀(h:Hp) (c:KV),AU .quo (vI (e-a)) (vI 8) h c=c (vI ((e-a)/8)) h:=fun h c=>by rw[D5 BB rfl,show Int.tdiv (.ofNat (e-a)) (.ofNat 8)=.ofNat ((e-a)/8) from rfl,Ah tO]
 have M1:=hM.rr S1.rr ha0 he0;by_cases hc:j-a<e-j
 ·have c1:(j-a<e-j)=True:=eq_true hc;refine Tst (J11 g0 g1 g2 g3 g10 g11 u1 u2 u3 q8 c1) ?_;refine ih _ _ a j l A1 j1 tO tO hl (fun h0 k k1 k2=>hP.rr S1.rr h0 k k1 tO) mb1 (K1.lt nb) (fun h2 A2 s2 S2 K2 mb2=>?_);have S2':Sws a e A1 A2:=S2.mono tO tO;refine Tst (J7 g0 g1 g2 g3 g10 g11 u3) ?_;exact hk .normal _ h2 A2 (j+1) e l (!decide (j-a<(e-a)/8)) al (.inl rfl) tO tO tO tO tO ((M1.rr S2'.rr ha0 he0).left Rb (pv.rl S2.rr) s2) (S1.trans S2') (K1.trans K2) mb2 (Ssc g0) Af (Ssc g2) (Ssc g3) Af Af
 ·have c1:(j-a<e-j)=False:=eq_false hc;refine Tst (J11 g0 g1 g2 g3 g10 g11 u1 u2 u3 q8 c1) ?_;refine ih _ _ (j+1) e l A1 tO tO tO hl (fun h0 k k1 k2=>by rw[Nat.add_sub_cancel];exact pv.hi k tO k2) mb1 (K1.lt nb) (fun h2 A2 s2 S2 K2 mb2=>?_);have S2':Sws a e A1 A2:=S2.mono tO tO;refine Tst (J7 g0 g1 g2 g3 g10 g11 u3) ?_;exact hk .normal _ h2 A2 a j l (!decide (e-j<(e-a)/8)) al (.inl rfl) tO tO tO tO tO ((M1.rr S2'.rr ha0 he0).right Rb (pv.rr S2.rr) s2) (S1.trans S2') (K1.trans K2) mb2 (Ssc g0) (Ssc g1) Af (Ssc g3) Af Af
theorem EU (hE:Fns E) (hF:Hns E) (hG:Sns E) {b:K} {a0 b0 a e l p m cp N w:Nat} {w8 w9:Bool} (hm:m≤N) (hN:N≤60000) (hL:N+5≤L) (ih:R92 E L (n+6) N m cp b w) (he:e≤m) (hw:e-a≤w+1) (hl:l≤1000) (ha0:a0≤a) (he0:e≤b0) (hp1:a≤p) (hp2:p<e) {A:Nat→Nat} (hM:Mid (·≤·) a0 a e b0 A) (hP:Pre (·≤·) a e A) (mb:blk h b=.cells (Az A N)) (nb:b.num<(nxt h).num)
  (g0:tg 0 t=.sl b 0 m cp 0) (g1:tg 1 t=vI a) (g2:tg 2 t=vI e) (g3:tg 3 t=vI l) (g8:tg 8 t=.bool w8) (g9:tg 9 t=.bool w9) (g10:tg 10 t=vI (e-a)) (g11:tg 11 t=vI p)
  (hk:Nx92 a0 a e b0 m cp N l b h d k A):
  exec (call E (L+1) (n+6)) (L+1) fi NK t d h k=true:=by
 rw[NK];by_cases hz:0<a
 ·have c0:(0<a)=True:=eq_true hz;have c66:=fun (x y:Int) (h:Hp) (kc:KC)=>BW (L:=L) (n:=n+4) (h:=h) (kc:=kc) hE hF (a:=x) (b:=y);have u1:Am .i64 (Int.sub (.ofNat a) (.ofNat 1))=.ofNat (a-1):=by rw[Ao tO,Ah tO]
  have e2:=fun (h:Hp) (c':KV)=>AI (h:=h) (c:=c') (A:=A) (N:=N) (i:=a-1) tO;have e3:=fun (h:Hp) (c':KV)=>AI (h:=h) (c:=c') (A:=A) (N:=N) (i:=p) tO;have l1:a-1<m:=tO;have l2:p<m:=tO;by_cases hx:A (a-1)<A p
  ·have c1:(A (a-1)<A p)=True:=eq_true hx;refine Tst (J14 g0 g1 g2 g3 g11 c0 c1 c66 u1 e2 e3 l1 l2 (J4 mb @AA @Nat.mul_one @Nat.zero_add)) ?_;exact I8 (w8:=w8) (w9:=w9) hE hF hG hm hN hL ih he hw hl ha0 he0 hp1 hp2 hM hP mb nb (Ssc g0) (Ssc g1) (Ssc g2) (Ssc g3) (Ssc g10) (Ssc g11) hk
  ·have c1:(A (a-1)<A p)=False:=eq_false hx;refine Tst (J14 g0 g1 g2 g3 g11 c0 c1 c66 u1 e2 e3 l1 l2 (J4 mb @AA @Nat.mul_one @Nat.zero_add)) ?_;refine jD hE hF hG (a:=a) (e:=e) (p:=p) hm tO hp1 hp2 he tO mb (fun i h1 A1 i1 i2 pq ap S1 K1 mb1=>?_);refine Tst (J4 g0 g1 g2 g3) ?_;have hP1:=hP.rr S1.rr hz;refine hk (.exit 1) _ h1 A1 i e l w8 w9 (.inr rfl) tO tO tO tO tO ((hM.rr S1.rr ha0 he0).eqs Rb pq tO fun k k1 k2=>?_) S1 K1 mb1 (Ssc g0) Af (Ssc g2) (Ssc g3) (Ssc g8) (Ssc g9);have h2:=hP1 k k1 k2;rw[S1.rr.out (a-1) tO] at h2;rw[ap];exact Nat.le_trans (Nat.le_of_not_lt hx) h2
 ·have c0:(0<a)=False:=eq_false hz;refine Tst (J6 g0 g1 g2 g3 g11 c0) ?_;exact I8 (w8:=w8) (w9:=w9) hE hF hG hm hN hL ih he hw hl ha0 he0 hp1 hp2 hM hP mb nb (Ssc g0) (Ssc g1) (Ssc g2) (Ssc g3) (Ssc g10) (Ssc g11) hk
theorem I9 (hE:Fns E) (hF:Hns E) (hG:Sns E) {b:K} {a0 b0 a e l p v m cp N w:Nat} {w8 w9:Bool} (hm:m≤N) (hN:N≤60000) (hL:N+5≤L) (ih:R92 E L (n+6) N m cp b w) (he:e≤m) (hw:e-a≤w+1) (hl:l≤1000) (ha0:a0≤a) (he0:e≤b0) (hp1:a≤p) (hp2:p<e) {A:Nat→Nat} (hM:Mid (·≤·) a0 a e b0 A) (hP:Pre (·≤·) a e A) (mb:blk h b=.cells (Az A N)) (nb:b.num<(nxt h).num)
  (g0:tg 0 t=.sl b 0 m cp 0) (g1:tg 1 t=vI a) (g2:tg 2 t=vI e) (g3:tg 3 t=vI l) (g8:tg 8 t=.bool w8) (g9:tg 9 t=.bool w9) (g10:tg 10 t=vI (e-a)) (g11:tg 11 t=vI p) (g12:tg 12 t=vI v)
  (hk:Nx92 a0 a e b0 m cp N l b h d k A) (hr:Rt92 a e N b h d k A):
  exec (call E (L+1) (n+6)) (L+1) fi NL t d h k=true:=by
 rw[NL];cases w8 with
 |false=>refine Tst (J6 g0 g1 g2 g8 g9 g12) ?_;exact EU (w8:=false) (w9:=w9) hE hF hG hm hN hL ih he hw hl ha0 he0 hp1 hp2 hM hP mb nb (Ssc g0) (Ssc g1) (Ssc g2) (Ssc g3) (Ssc g8) (Ssc g9) (Ssc g10) (Ssc g11) hk
 |true=>
  cases w9 with
  |false=>refine Tst (J6 g0 g1 g2 g8 g9 g12) ?_;exact EU (w8:=true) (w9:=false) hE hF hG hm hN hL ih he hw hl ha0 he0 hp1 hp2 hM hP mb nb (Ssc g0) (Ssc g1) (Ssc g2) (Ssc g3) (Ssc g8) (Ssc g9) (Ssc g10) (Ssc g11) hk
  |true=>
   by_cases hv:v=1
   ·have c1:(v=1)=True:=eq_true hv;refine Tst (J7 g0 g1 g2 g8 g9 g12 c1) ?_;refine jE hE hF hG (a:=a) (e:=e) hm tO tO he tO hP mb (fun v h1 A1 s1 S1 K1 mb1=>?_);cases v with
    |true=>refine Hj ?_;exact hr _ h1 A1 (s1 rfl) S1 K1 mb1
    |false=>refine Hj ?_;exact EU (w8:=true) (w9:=true) hE hF hG hm hN hL ih he hw hl ha0 he0 hp1 hp2 (hM.rr S1.rr ha0 he0) (hP.rr S1.rr) mb1 (K1.lt nb) (Ssc g0) (Ssc g1) (Ssc g2) (Ssc g3) (Ssc g8) (Ssc g9) (Ssc g10) (Ssc g11) (hk.after (Nat.le_refl _) S1 K1)
   ·have c1:(v=1)=False:=eq_false hv;refine Tst (J7 g0 g1 g2 g8 g9 g12 c1) ?_;exact EU (w8:=true) (w9:=true) hE hF hG hm hN hL ih he hw hl ha0 he0 hp1 hp2 hM hP mb nb (Ssc g0) (Ssc g1) (Ssc g2) (Ssc g3) (Ssc g8) (Ssc g9) (Ssc g10) (Ssc g11) hk
theorem Ja (hE:Fns E) (hF:Hns E) (hG:Sns E) {b:K} {a0 b0 a e l m cp N w:Nat} {w8 w9:Bool} (hm:m≤N) (hN:N≤60000) (hL:N+5≤L) (ih:R92 E L (n+6) N m cp b w) (he:e≤m) (hw:e-a≤w+1) (h12:12<e-a) (hl:l≤1000) (ha0:a0≤a) (he0:e≤b0) {A:Nat→Nat} (hM:Mid (·≤·) a0 a e b0 A) (hP:Pre (·≤·) a e A) (mb:blk h b=.cells (Az A N)) (nb:b.num<(nxt h).num)
  (g0:tg 0 t=.sl b 0 m cp 0) (g1:tg 1 t=vI a) (g2:tg 2 t=vI e) (g3:tg 3 t=vI l) (g8:tg 8 t=.bool w8) (g9:tg 9 t=.bool w9) (g10:tg 10 t=vI (e-a))
  (hk:Nx92 a0 a e b0 m cp N l b h d k A) (hr:Rt92 a e N b h d k A):
  exec (call E (L+1) (n+6)) (L+1) fi NM t d h k=true:=by
 rw[NM];refine Tst (J3 g0 g1 g2) ?_;refine dX hE hF hG hm tO he h12 mb nb (fun p v h1 p1 p2 K1=>?_);have K1':Ac [b] h h1:=K1.but;have mb1:blk h1 b=.cells (Az A N):=by rw[K1.old b nb];exact mb
 by_cases hv:v=2
 ·have c1:(v=2)=True:=eq_true hv;refine Tst (J4 g0 g1 g2 c1) ?_;refine jF hG (a:=a) (e:=e) hm tO tO he tO mb1 (fun h2 A2 S2 K2 mb2=>?_);have u1:Am .i64 (Int.sub (.ofNat e) (.ofNat 1))=.ofNat (e-1):=by rw[Ao tO,Ah tO]
  have u2:Am .i64 (Int.sub (.ofNat p) (.ofNat a))=.ofNat (p-a):=by rw[Ao tO,Ah tO]
  have u3:Am .i64 (Int.sub (.ofNat (e-1)) (.ofNat (p-a)))=.ofNat (e-1-(p-a)):=by rw[Ao tO,Ah tO]
  refine Tst (J6 g0 g1 g2 u1 u2 u3) ?_;exact I9 (w8:=w8) (w9:=w9) (p:=e-1-(p-a)) (v:=1) hE hF hG hm hN hL ih he hw hl ha0 he0 tO tO (hM.rr S2.rr ha0 he0) (hP.rr S2.rr) mb2 ((K1'.trans K2).lt nb) (Ssc g0) (Ssc g1) (Ssc g2) (Ssc g3) (Ssc g8) (Ssc g9) (Ssc g10) Af Af (hk.after (Nat.le_refl _) S2 (K1'.trans K2)) (hr.after S2 (K1'.trans K2))
 ·have c1:(v=2)=False:=eq_false hv;refine Tst (J4 g0 g1 g2 c1) ?_;exact I9 (w8:=w8) (w9:=w9) (p:=p) (v:=v) hE hF hG hm hN hL ih he hw hl ha0 he0 p1 p2 hM hP mb1 (K1'.lt nb) (Ssc g0) (Ssc g1) (Ssc g2) (Ssc g3) (Ssc g8) (Ssc g9) (Ssc g10) Af Af (hk.after (Nat.le_refl _) .refl K1') (hr.after .refl K1')
theorem Sx (hE:Fns E) (hF:Hns E) (hG:Sns E) {b:K} {a0 b0 m cp N w:Nat} (hm:m≤N) (hN:N≤60000) (hL:N+5≤L) (ih:R92 E L (n+6) N m cp b w) (hb0:b0≤m) (hw:b0-a0≤w+1) {A0:Nat→Nat} {h0:Hp} (hP0:Pre (·≤·) a0 b0 A0)
  (hk:∀t1 h1 A1,Srt (·≤·) a0 b0 A1→Sws a0 b0 A0 A1→Ac [b] h0 h1→blk h1 b=.cells (Az A1 N)→k .ret t1 d h1=true):
  ∀(z M a e l:Nat) (w8 w9:Bool) (A:Nat→Nat) (t:T V) (h:Hp),e-a≤z→z+1≤M→a≤e→a0≤a→e≤b0→l≤1000→Mid (·≤·) a0 a e b0 A→Sws a0 b0 A0 A→Ac [b] h0 h→blk h b=.cells (Az A N)→b.num<(nxt h).num→
  tg 0 t=.sl b 0 m cp 0→tg 1 t=vI a→tg 2 t=vI e→tg 3 t=vI l→tg 8 t=.bool w8→tg 9 t=.bool w9→
  iter (exec (call E (L+1) (n+6)) (L+1) fi FN) M t d h k=true:=by
 intro z;induction z with
 |zero=>
  intro M a e l w8 w9 A t h hz hM' hae ha0 he0 hl hM S K0 mb nb g0 g1 g2 g3 g8 g9;obtain ⟨M,rfl⟩:=pM M;have u1:Am .i64 (Int.sub (.ofNat e) (.ofNat a))=.ofNat (e-a):=by rw[Ao tO,Ah tO]
  have c1:(12<e-a)=False:=eF;rw[Ab,FN];refine Tst (J6 g0 g1 g2 g3 u1 c1) ?_;refine Li hE hF hG (a:=a) (e:=e) hae tO hm tO tO mb (fun h1 A1 s1 S1 K1 mb1=>?_);refine Hj ?_;exact hk _ h1 A1 ((hM.rr S1.rr ha0 he0).done s1) (S.trans (S1.mono tO tO)) (K0.trans K1) mb1
 |succ z iz=>
  intro M a e l w8 w9 A t h hz hM' hae ha0 he0 hl hM S K0 mb nb g0 g1 g2 g3 g8 g9;obtain ⟨M,rfl⟩:=pM M;have u1:Am .i64 (Int.sub (.ofNat e) (.ofNat a))=.ofNat (e-a):=by rw[Ao tO,Ah tO]
  have hP:Pre (·≤·) a e A:=by
   by_cases q:a0<a
   ·exact hM.pre q he0
   ·obtain rfl:a0=a:=tO;exact fun q0 k k1 k2=>hP0.rr S.rr q0 k k1 tO
  rw[Ab,FN];by_cases h12:12<e-a
  ·have c1:(12<e-a)=True:=eq_true h12;have nx:∀{l1:Nat} {h1:Hp} {A1:Nat→Nat} {t':T V→Dc→Hp→Bool},l1≤l→Sws a e A A1→Ac [b] h h1→(∀t d h,t' t d h=iter (exec (call E (L+1) (n+6)) (L+1) fi FN) M t d h k)→Nx92 a0 a e b0 m cp N l1 b h1 d (Ek 1 (Dd t' k)) A1:=by
    intro l1 h1 A1 t' hl1 S1 K1 et q t2 h2 A2 a' e' l' w8' w9' x1 x2 x3 x4 x5 x6 x7 x8 x9 x10 y0 y1 y2 y3 y8 y9;have go:=iz M a' e' l' w8' w9' A2 t2 h2 tO tO x3 tO tO tO x7 (S.trans ((S1.trans x8).mono tO tO)) (K0.trans (K1.trans x9)) x10 ((K1.trans x9).lt nb) y0 y1 y2 y3 y8 y9;rcases x1 with rfl|rfl
    ·rw[Gf,EG,et];exact go
    ·rw[IE,if_pos rfl,EG,et];exact go
   have rt:∀{h1:Hp} {A1:Nat→Nat} {t':T V→Dc→Hp→Bool},Sws a e A A1→Ac [b] h h1→Rt92 a e N b h1 d (Ek 1 (Dd t' k)) A1:=by intro h1 A1 t' S1 K1 t2 h2 A2 x1 x2 x3 x4;rw[JL,MS];exact hk _ h2 A2 ((hM.rr (S1.trans x2).rr ha0 he0).done x1) (S.trans ((S1.trans x2).mono tO tO)) (K0.trans (K1.trans x3)) x4
   by_cases h0:l=0
   ·have c2:(l=0)=True:=eq_true h0;refine Tst (J7 g0 g1 g2 g3 u1 c1 c2) ?_;refine jI hE hF hG (a:=a) (e:=e) hm tO tO tO tO mb (fun h1 A1 s1 S1 K1 mb1=>?_);refine Hj ?_;exact hk _ h1 A1 ((hM.rr S1.rr ha0 he0).done s1) (S.trans (S1.mono tO tO)) (K0.trans K1) mb1
   ·have c2:(l=0)=False:=eq_false h0;have u2:Am .i64 (Int.sub (.ofNat l) (.ofNat 1))=.ofNat (l-1):=by rw[Ao tO,Ah tO]
    cases w8 with
    |true=>refine Tst (J8 g0 g1 g2 g3 g8 u1 c1 c2) ?_;exact Ja (w8:=true) (w9:=w9) hE hF hG hm hN hL ih tO tO h12 hl ha0 he0 hM hP mb nb (Ssc g0) (Ssc g1) (Ssc g2) (Ssc g3) (Ssc g8) (Ssc g9) Af (nx (Nat.le_refl _) .refl (.refl _ _) (fun _ _ _=>rfl)) (rt .refl (.refl _ _))
    |false=>refine Tst (J8 g0 g1 g2 g3 g8 u1 c1 c2) ?_;refine jH hG (a:=a) (e:=e) hm hN hae tO tO mb nb (fun h1 A1 S1 K1 mb1=>?_);refine Tst (J5 g0 g1 g2 g3 u2) ?_;exact Ja (w8:=false) (w9:=w9) (l:=l-1) hE hF hG hm hN hL ih tO tO h12 tO ha0 he0 (hM.rr S1.rr ha0 he0) (hP.rr S1.rr) mb1 (K1.lt nb) (Ssc g0) (Ssc g1) (Ssc g2) Af (Ssc g8) (Ssc g9) Af (nx tO S1 K1 (fun _ _ _=>rfl)) (rt S1 K1)
  ·have c1:(12<e-a)=False:=eq_false h12;refine Tst (J6 g0 g1 g2 g3 u1 c1) ?_;refine Li hE hF hG (a:=a) (e:=e) hae tO hm tO tO mb (fun h1 A1 s1 S1 K1 mb1=>?_);refine Hj ?_;exact hk _ h1 A1 ((hM.rr S1.rr ha0 he0).done s1) (S.trans (S1.mono tO tO)) (K0.trans K1) mb1
theorem jL (hE:Fns E) (hF:Hns E) (hG:Sns E) {b:K} {m cp N:Nat} (hm:m≤N) (hN:N≤60000) (hL:N+5≤L):∀w n,R92 E L (n+w+7) N m cp b w:=by
 intro w;induction w with
 |zero=>
  intro n h kc a e l A hae he hw hl hP mb nb hk;obtain rfl:a=e:=tO;rw[Ag hG.f1092,d7,UJ,Kf,Ke];have u1:Am .i64 (Int.sub (.ofNat a) (.ofNat a))=.ofNat (a-a):=by rw[Ao tO,Ah tO]
  have c1:(12<a-a)=False:=eF;refine Tst @Ad ?_;rw[Ab,FN];refine Tst (J2 u1 c1) ?_;refine Li (n:=n+3) hE hF hG (a:=a) (e:=a) hae he hm tO tO mb (fun h1 A1 s1 S1 K1 mb1=>?_);refine Hj ?_;exact hk h1 A1 s1 S1 K1 mb1
 |succ w ih=>intro n h kc a e l A hae he hw hl hP mb nb hk;rw[show n+(w+1)+7=n+w+1+6+1 from rfl,Ag hG.f1092,d7,UJ,Kf,Ke];refine Tst @Ad ?_;refine Sx hE hF hG hm hN hL (ih n) he hw (A0:=A) (h0:=h) hP (fun t1 h1 A1 s1 S1 K1 mb1=>?_) (e-a) _ a e l true true A _ h (Nat.le_refl _) tO hae (Nat.le_refl _) (Nat.le_refl _) hl .start .refl (.refl _ _) mb nb Af Af Af Af Af Af;refine Hj ?_;exact hk h1 A1 s1 S1 K1 mb1
theorem jQ (hE:Fns E) (hF:Hns E) (hG:Sns E) {b:K} {m cp N:Nat} (hm:m≤N) (hN:N≤60000) (hL:N+5≤L) {A:Nat→Nat} (mb:blk h b=.cells (Az A N)) (nb:b.num<(nxt h).num)
  (hk:∀h1 A1,Srt (·≤·) 0 m A1→Sws 0 m A A1→Ac [b] h h1→blk h1 b=.cells (Az A1 N)→kc (.ret (.tup [])) none h1=true):
  call E (L+1) (n+m+8) (.fn 54) [.sl b 0 m cp 0] none h kc=true:=by
 rw[Ag hG.f1054,jV,fB,NX];have w1:Am .u64 (.ofNat m)=.ofNat m:=by rw[FP,Nat.mod_eq_of_lt tO]
 refine Tst w1 ?_;refine Lk (n:=n+m+5) hG tO (fun l l1 _=>?_);refine Hj ?_;refine jL hE hF hG hm hN hL m n h _ 0 m l A (Nat.zero_le _) (Nat.le_refl _) tO tO (fun q=>absurd q (Nat.lt_irrefl 0)) mb nb (fun h1 A1 s1 S1 K1 mb1=>?_);refine Hj ?_;exact hk h1 A1 s1 S1 K1 mb1
end
end Go.AJ
