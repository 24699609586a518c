/- What the reference reaches. -/
import Derived.Test.YtgdbpnpolelfoaaGreatDoorGc
set_option linter.all false
namespace Go.AJ
open Go
set_option maxRecDepth 100000
section
variable {E:Env} {L n:Nat} {h:Hp} {kc:KC} {t:T V} {d:Dc} {k:KE} {fi:FI} {c:KV} {C:As}
theorem SO {bs:K} {nn:Nat} {b:Bool} {cp:Nat} {f:List Int} (hf:f.length≤1000000000) (hb:f.any (Cq nn)=false) {h0:Hp}:
  ∀(r:List Int) (i M:Nat) (t:T V) (h:Hp) (st:List Bool),f.drop i=r→i+r.length=f.length→r.length+1≤M→st.length=nn→Ac [bs] h0 h→blk h bs=.cells (bls st)→
  tg 2 t=slR b cp (AH f) f.length→tg 9 t=.sl bs 0 nn nn 0→tg 10 t=vI i→
  (∀t1 h1,Ac [bs] h0 h1→blk h1 bs=.cells (bls (Gs r st))→Kp [1,2,3,8,9] t t1→k (.exit 0) t1 d h1=true)→
  iter (exec C L fi Mf) M t d h k=true:=by
 intro r;induction r with
 |nil=>intro i M t h st hr hi hM hl K0 ms g2 g9 g10 hk;obtain ⟨M,rfl⟩:=pM M;have hi':(i<f.length)=False:=eq_false (by simp at hi;omega);rw[Ab,Mf];refine Tst (J3 g2 g10 hi') ?_;refine hk _ _ K0 ms ?_;exact kK
 |cons x r ih=>
  intro i M t h st hr hi hM hl K0 ms g2 g9 g10 hk;obtain ⟨M,rfl⟩:=pM M;simp only[List.length_cons] at hi hM;have hi':(i<f.length)=True:=eT;have hx:f.getD i 0=x:=by rw[List.getD_eq_getElem?_getD,Ak hr];rfl
  have e1:=fun c h=>AM (c:=c) (h:=h) (Bp (l:=f) (i:=i) tO);simp only[hx] at e1;obtain ⟨a,rfl,ha⟩:=ER hb x (List.mem_of_getElem? (Ak hr));have w1:=wA i;have e7:∀(h:Hp) (f:Hp→Bool),stB (.cells (bls st)) bs a [.bool true] h f=f (h.upd bs (.cells (bls (st.set a true)))):=fun h f=>by rw[C5 (by rw[Fa];omega),Ln]
  rw[Ab,Mf];refine Tst (J11 g2 g9 g10 hi' e1 w1 e7 ms ha @AA (J2 @Nat.mul_one @Nat.zero_add)) ?_;refine ih (i+1) M _ _ (st.set a true) (Ai hr) tO tO (by rw[List.length_set];exact hl) (K0.put (.inr (List.mem_singleton.2 rfl)) _) AE (Ssc g2) (Ssc g9) Af (fun t2 h2 z1 z2 kp=>hk t2 h2 z1 z2 (Kp.trans ?_ kp));exact kK
/-- Where the edges of a state begin: behind the last of a lesser one. -/
structure Bg1 (F:List Nat) (i:Nat) (A:List Nat):Prop where
 a:∀j v,A.getD j 0=v+1→v<i∧F.getD v 0+1=j
 b:∀v,v<i→v+1≤A.getD (F.getD v 0+1) 0
theorem Bg1.next {F A:List Nat} {i:Nat} (H:Bg1 F i A) (hi:F.getD i 0+1<A.length):Bg1 F (i+1) (A.set (F.getD i 0+1) (i+1)):=by
 refine ⟨fun j v e=>?_,fun v hv=>?_⟩
 ·rw[Bl hi] at e;split at e
  ·rename_i q;have:v=i:=tO;subst this;exact ⟨by omega,q.symm⟩
  ·have:=H.a j v e;exact ⟨by omega,this.2⟩
 ·rw[Bl hi];split
  ·omega
  ·rename_i q;have hvi:v≠i:=fun e=>q (by rw[e]);exact H.b v tO
theorem SN {bg bb:K} {g:Gr} {nn:Nat} (hnn:nn≤20000) (hlen:g.edges.length≤100000) (hed:∀e∈g.edges,∃a b:Nat,e=(.ofNat a,.ofNat b)∧a<nn∧b<nn) {h0:Hp} (ng:bg.num<(nxt h0).num) (mg:blk h0 bg=.cells g.cells) (hgb:bg≠bb):
  ∀(r:List (Int×Int)) (i M:Nat) (t:T V) (h:Hp) (A:List Nat),g.edges.drop i=r→i+r.length=g.edges.length→r.length+1≤M→A.length=nn+1→Bg1 (g.edges.map fun e=>e.1.toNat) i A→Ac [bb] h0 h→blk h bb=.cells (Bx A)→
  tg 3 t=.ptr bg 0→tg 11 t=.sl bb 0 (nn+1) (nn+1) 0→tg 12 t=vI i→
  (∀t1 h1 A1,A1.length=nn+1→Bg1 (g.edges.map fun e=>e.1.toNat) g.edges.length A1→Ac [bb] h0 h1→blk h1 bb=.cells (Bx A1)→Kp [1,2,3,8,9,11] t t1→k (.exit 2) t1 d h1=true)→
  iter (exec C L fi Me) M t d h k=true:=by
 intro r;induction r with
 |nil=>intro i M t h A hr hi hM hl HB K0 mb g3 g11 g12 hk;obtain ⟨M,rfl⟩:=pM M;simp only[List.length_nil] at hi;have hi':(i<g.edges.length)=False:=eF;have mgh:=(K0.old bg ng (by simp [hgb])).trans mg;rw[Ab,Me];refine Tst (J5 g3 g12 hi' mgh @Gr.ld2) ?_;refine hk _ _ A hl (by rw[←show i=g.edges.length by omega];exact HB) K0 mb ?_;exact kK
 |cons e r ih=>
  intro i M t h A hr hi hM hl HB K0 mb g3 g11 g12 hk;obtain ⟨M,rfl⟩:=pM M;simp only[List.length_cons] at hi hM;have hi':(i<g.edges.length)=True:=eT;have mgh:=(K0.old bg ng (by simp [hgb])).trans mg;obtain ⟨x,y,rfl,hx,hy⟩:=hed e (List.mem_of_getElem? (Ak hr));have hF:(g.edges.map fun e=>e.1.toNat).getD i 0=x:=by rw[List.getD_eq_getElem?_getD,List.getElem?_map,Ak hr];rfl
  have e1:=fun c h=>Ab2 (c:=c) (h:=h) (Ak hr);simp only at e1;have w1:=wA i;have w2:=wA x;have hx1:x+1<nn+1:=tO;have e7:∀(h:Hp) (f:Hp→Bool),stB (.cells (Bx A)) bb (x+1) [vI (i+1)] h f=f (h.upd bb (.cells (Bx (A.set (x+1) (i+1))))):=fun h f=>Hm tO;have HB1:=HB.next (by rw[hF,hl];exact hx1);rw[hF] at HB1;rw[Ab,Me];refine Tst (J14 g3 g11 g12 hi' mgh @Gr.ld2 e1 w1 w2 hx1 e7 mb @AA (J3 @Nat.mul_one @Nat.zero_add @Nat.add_zero)) ?_;refine ih (i+1) M _ _ (A.set (x+1) (i+1)) (Ai hr) tO tO (by rw[List.length_set];exact hl) HB1 (K0.put (.inr (List.mem_singleton.2 rfl)) _) AE (Ssc g3) (Ssc g11) Af (fun t2 h2 A2 z0 z1 z2 z3 kp=>hk t2 h2 A2 z0 z1 z2 z3 (Kp.trans ?_ kp));exact kK
end
end Go.AJ
namespace Go.AJ
open Go
set_option maxRecDepth 100000
/-- Ahead of a state's number, all is in place: the edges of lesser states. -/
structure Bg2 (F:List Nat) (m i0:Nat) (A C:List Nat):Prop where
 lo:∀j,j<i0→(∀v,v<m→(v<C.getD j 0↔F.getD v 0<j))∧C.getD j 0≤m
 hi:∀j,i0≤j→C.getD j 0=A.getD j 0
theorem Bg2.start {F A:List Nat} {m:Nat} (H:Bg1 F m A):Bg2 F m 1 A A:=by
 have h0:A.getD 0 0=0:=by
  cases e:A.getD 0 0 with
  |zero=>rfl
  |succ v=>have:=(H.a 0 v e).2;omega
 refine ⟨fun j hj=>?_,fun j _=>rfl⟩;have:j=0:=tO;subst this;rw[h0];exact ⟨fun v _=>by omega,by omega⟩
theorem Bg2.next {F A C:List Nat} {m i0:Nat} (H:Bg1 F m A) (B:Bg2 F m i0 A C) (h1:1≤i0) (hi:i0<C.length) (hs:∀u v,u≤v→v<m→F.getD u 0≤F.getD v 0):Bg2 F m (i0+1) A (C.set i0 (max (C.getD i0 0) (C.getD (i0-1) 0))):=by
 have hA:C.getD i0 0=A.getD i0 0:=B.hi i0 (Nat.le_refl _);obtain ⟨l1,l2⟩:=B.lo (i0-1) tO;refine ⟨fun j hj=>?_,fun j hj=>?_⟩
 ·by_cases q:j=i0
  ·subst q;rw[Bl hi,if_pos rfl];have ha:∀v,v<m→(v<A.getD j 0→F.getD v 0<j):=fun v hv hlt=>by
    cases e:A.getD j 0 with
    |zero=>omega
    |succ u=>obtain ⟨u1,u2⟩:=H.a j u e;have:=hs v u tO u1;omega
   have hb:∀v,v<m→F.getD v 0<j→v<C.getD (j-1) 0∨v<A.getD j 0:=fun v hv hlt=>by
    by_cases e:F.getD v 0<j-1
    ·exact .inl ((l1 v hv).2 e)
    ·have:=H.b v hv;rw[show F.getD v 0+1=j by omega] at this;exact .inr this
   have hm:A.getD j 0≤m:=by
    cases e:A.getD j 0 with
    |zero=>omega
    |succ u=>have:=(H.a j u e).1;omega
   rw[hA];refine ⟨fun v hv=>⟨fun h=>?_,fun h=>?_⟩,?_⟩
   ·rcases (show v<C.getD (j-1) 0∨v<A.getD j 0 by omega) with z|z
    ·have:=(l1 v hv).1 z;omega
    ·exact ha v hv z
   ·rcases hb v hv h with z|z<;>omega
   ·omega
  ·rw[Bl hi,if_neg q];exact B.lo j tO
 ·rw[Bl hi,if_neg tO];exact B.hi j tO
section
variable {E:Env} {L n:Nat} {h:Hp} {kc:KC} {t:T V} {d:Dc} {k:KE} {fi:FI} {c:KV} {C:As}
theorem zN {mx:Bool} {x:X} {l:List X} {v:V}:Bg (.mxn mx x l) t h v=Oa mx (evs t l) (ev t x) (fun v'=>isV v v' h):=rfl
theorem SM {bb:K} {F A:List Nat} {nn m:Nat} (hnn:nn≤20000) (H:Bg1 F m A) (hs:∀u v,u≤v→v<m→F.getD u 0≤F.getD v 0) {h0:Hp}:
  ∀(w i M:Nat) (t:T V) (h:Hp) (B:List Nat),i+w=nn+1→w+1≤M→1≤i→B.length=nn+1→Bg2 F m i A B→Ac [bb] h0 h→blk h bb=.cells (Bx B)→
  tg 8 t=vI nn→tg 11 t=.sl bb 0 (nn+1) (nn+1) 0→tg 13 t=vI i→
  (∀t1 h1 B1,B1.length=nn+1→Bg2 F m (nn+1) A B1→Ac [bb] h0 h1→blk h1 bb=.cells (Bx B1)→Kp [1,2,3,8,9,11] t t1→k (.exit 4) t1 d h1=true)→
  iter (exec C L fi Mc) M t d h k=true:=by
 intro w;induction w with
 |zero=>intro i M t h B hi hM h1 hl HB K0 mb g8 g11 g13 hk;obtain ⟨M,rfl⟩:=pM M;have hi':(nn<i)=True:=eT;rw[Ab,Mc];refine Tst (J3 g8 g13 hi') ?_;refine hk _ _ B hl (by rw[←show i=nn+1 by omega];exact HB) K0 mb ?_;exact kK
 |succ w ih=>
  intro i M t h B hi hM h1 hl HB K0 mb g8 g11 g13 hk;obtain ⟨M,rfl⟩:=pM M;have hi':(nn<i)=False:=eF;have w1:=wA i;have w2:Am .i64 (Int.sub (.ofNat i) (.ofNat 1))=.ofNat (i-1):=by rw[Ao tO,Ah tO]
  have i1:i<nn+1:=tO;have i2:i-1<nn+1:=tO;have e1:∀(h:Hp) (c:KV),ldB (.cells (Bx B)) i h c=c (vI (B.getD i 0)) h:=fun h c=>BD tO;have e2:∀(h:Hp) (c:KV),ldB (.cells (Bx B)) (i-1) h c=c (vI (B.getD (i-1) 0)) h:=fun h c=>BD tO;have e7:∀(v:Nat) (h:Hp) (f:Hp→Bool),stB (.cells (Bx B)) bb i [vI v] h f=f (h.upd bb (.cells (Bx (B.set i v)))):=fun v h f=>Hm tO;have HB1:=HB.next H h1 tO hs;rw[Ab,Mc];refine Tst (J14 g8 g11 g13 hi' w1 w2 i1 i2 e1 e2 e7 mb @AA (J4 @Nat.mul_one @Nat.zero_add @Oi @zN)) ?_;refine ih (i+1) M _ _ _ tO tO tO (by rw[List.length_set];exact hl) HB1 (K0.put (.inr (List.mem_singleton.2 rfl)) _) AE (Ssc g8) (Ssc g11) Af (fun t2 h2 B2 z0 z1 z2 z3 kp=>hk t2 h2 B2 z0 z1 z2 z3 (Kp.trans ?_ kp));exact kK
end
end Go.AJ
namespace Go.AJ
open Go
set_option maxRecDepth 100000
def wt (D:Nat→Nat):List Bool→Nat→Nat
 | [],_=>0
 |b::l,i=>(if b=true then 0 else D i)+wt D l (i+1)
theorem kr {D:Nat→Nat}:∀(l:List Bool) (x i:Nat),x<l.length→l.getD x false=false→wt D (l.set x true) i+D (i+x)=wt D l i
 | [],x,i,h,_=>absurd h (Nat.not_lt_zero _)
 |b::l,0,i,_,e=>by have e:b=false:=e;subst e;show (if true=true then 0 else D i)+wt D l (i+1)+D (i+0)=(if false=true then 0 else D i)+wt D l (i+1);rw[if_pos rfl,if_neg (by simp)];have e2:D (i+0)=D i:=rfl;omega
 |b::l,x+1,i,h,e=>by have:=kr (D:=D) l x (i+1) (Nat.lt_of_succ_lt_succ h) e;show (if b=true then 0 else D i)+wt D (l.set x true) (i+1)+D (i+(x+1))=(if b=true then 0 else D i)+wt D l (i+1);rw[show i+(x+1)=i+1+x by omega];omega
theorem ku {B:Nat→Nat}:∀(n i:Nat),(∀j,i≤j→j<i+n→B j≤B (j+1))→wt (fun j=>B (j+1) - B j) (List.replicate n false) i+B i=B (i+n)
 |0,i,_=>by show 0+B i=_;rw[Nat.zero_add,Nat.add_zero]
 |n+1,i,h=>by have h1:=ku (B:=B) n (i+1) (fun j h1 h2=>h j tO tO);have h2:=h i (Nat.le_refl _) tO;show (if false=true then 0 else B (i+1) - B i)+wt _ (List.replicate n false) (i+1)+B i=_;rw[if_neg (by simp),show i+(n+1)=i+1+n by omega];omega
def Gr.to (g:Gr) (j:Nat):Nat:=((g.edges[j]?).map fun e=>e.2.toNat).getD 0
def Gr.push (g:Gr) (i w:Nat):List Nat:=(List.range' i w).map g.to
theorem Gr.push_succ (g:Gr) (i w:Nat):g.push i (w+1)=g.to i::g.push (i+1) w:=by rw[Gr.push,List.range'_succ,List.map_cons];rfl
structure DF (hB h:Hp) (bi:K) (inn:List Bool) (o:List K) (v:V) (l:List Nat):Prop where
 kp:Ac [bi] hB h
 mi:blk h bi=.cells (bls inn)
 S:Slz h o v l
 own:∀b∈o,(nxt hB).num≤b.num
theorem DF.wr {hB h h':Hp} {bi:K} {inn:List Bool} {o o':List K} {v v':V} {l l':List Nat} (Q:DF hB h bi inn o v l) (nb:bi.num<(nxt hB).num) (w:Wr o h o' h') (S:Slz h' o' v' l'):DF hB h' bi inn o' v' l':=by
 have n0:=Q.kp.nx;have ho:∀b,b.num<(nxt hB).num→b∉o:=fun b hb q=>by have:=Q.own b q;omega
 refine ⟨⟨Nat.le_trans n0 w.nx,fun b hb hs=>(w.old b tO (ho b hb)).trans (Q.kp.old b hb hs)⟩,(w.old bi tO (ho bi nb)).trans Q.mi,S,fun b hb=>?_⟩;rcases w.new b hb with q|q
 ·exact Q.own b q
 ·omega
section
variable {E:Env} {L n:Nat} {h:Hp} {kc:KC} {t:T V} {d:Dc} {k:KE} {fi:FI} {c:KV} {C:As}
theorem SL {bg bs bb bi:K} {g:Gr} {nn x:Nat} {st:List Bool} {B:List Nat} (hlen:g.edges.length≤100000) (hed:∀e∈g.edges,∃a b:Nat,e=(.ofNat a,.ofNat b)∧a<nn∧b<nn) {hB:Hp} (ng:bg.num<(nxt hB).num) (mg:blk hB bg=.cells g.cells) (gi:bg≠bi) (ns:bs.num<(nxt hB).num) (ms:blk hB bs=.cells (bls st)) (si:bs≠bi) (nb:bb.num<(nxt hB).num) (mb:blk hB bb=.cells (Bx B)) (bbi:bb≠bi) (ni:bi.num<(nxt hB).num)
  (hst:st.length=nn) (hBl:B.length=nn+1) (hnn:nn≤20000) (hx:x<nn) (hns:st.getD x false=false) (hBm:B.getD (x+1) 0≤g.edges.length) {inn:List Bool}:
  ∀(w i M:Nat) (t:T V) (h:Hp) (o:List K) (v:V) (l:List Nat),i+w=B.getD (x+1) 0→w+1≤M→l.length+w≤1000000→DF hB h bi inn o v l→
  tg 3 t=.ptr bg 0→tg 9 t=.sl bs 0 nn nn 0→tg 11 t=.sl bb 0 (nn+1) (nn+1) 0→tg 15 t=v→tg 16 t=vI x→tg 17 t=vI i→
  (∀t1 h1 o1 v1,DF hB h1 bi inn o1 v1 (l++g.push i w)→tg 15 t1=v1→Kp [3,8,9,11,14] t t1→k (.exit 8) t1 d h1=true)→
  iter (exec C L fi GU) M t d h k=true:=by
 intro w;induction w with
 |zero=>
  intro i M t h o v l hi hM hl Q g3 g9 g11 g15 g16 g17 hk;obtain ⟨M,rfl⟩:=pM M;have hi':(i<B.getD (x+1) 0)=False:=eF;have mbh:=(Q.kp.old bb nb (by simp [bbi])).trans mb;have w2:=wA x;have x1:x+1<nn+1:=tO;have e1:∀(h:Hp) (c:KV),ldB (.cells (Bx B)) (x+1) h c=c (vI (B.getD (x+1) 0)) h:=fun h c=>BD tO;rw[Ab,GU];refine Tst (J10 g11 g16 g17 hi' mbh w2 x1 e1 @AA (J2 @Nat.mul_one @Nat.zero_add)) ?_;refine hk _ _ o v ?_ (Ssc g15) ?_
  ·rw[Gr.push,List.range'_zero,List.map_nil,List.append_nil];exact Q
  ·exact kK
 |succ w ih=>
  intro i M t h o v l hi hM hl Q g3 g9 g11 g15 g16 g17 hk;obtain ⟨M,rfl⟩:=pM M;have hi':(i<B.getD (x+1) 0)=True:=eT;have him:i<g.edges.length:=tO;have mbh:=(Q.kp.old bb nb (by simp [bbi])).trans mb;have mgh:=(Q.kp.old bg ng (by simp [gi])).trans mg;have msh:=(Q.kp.old bs ns (by simp [si])).trans ms;have w1:=wA i;have w2:=wA x;have x1:x+1<nn+1:=tO;have e1:∀(h:Hp) (c:KV),ldB (.cells (Bx B)) (x+1) h c=c (vI (B.getD (x+1) 0)) h:=fun h c=>BD tO;have e2:∀(h:Hp) (c:KV),ldB (.cells (bls st)) x h c=c (.bool false) h:=fun h c=>by rw[GC tO,hns]
  obtain ⟨a,y,he,ha,hy⟩:=hed _ (List.getElem_mem him);have hge:g.edges[i]? =some (.ofNat a,.ofNat y):=by rw[List.getElem?_eq_getElem him,he]
  have e3:=fun c h=>Ab1 (c:=c) (h:=h) hge;simp only at e3;have hto:g.to i=y:=by rw[Gr.to,hge];rfl
  rw[Gr.push_succ,hto] at hk;rw[Ab,GU];refine Tst (J14 g3 g9 g11 g15 g16 g17 hi' mbh mgh msh w2 x1 e1 (J11 e2 e3 hx him @Gr.ld2 @AA @Nat.mul_one @Nat.zero_add @GB @Dk @Nat.add_zero)) ?_;refine Mp (x:=y) (h:=h) rfl rfl Q.S tO (fun o2 s2 h2 S2 w3=>?_);have Q2:=Q.wr ni w3 S2;refine Tst (J2 g17 w1) ?_;refine ih (i+1) M _ h2 o2 s2 (l++ [y]) tO tO (by simp;omega) Q2 (Ssc g3) (Ssc g9) (Ssc g11) Af (Ssc g16) Af (fun t3 h3 o3 v3 Q3 v15 kp=>hk t3 h3 o3 v3 ?_ v15 (Kp.trans ?_ kp))
  ·rw[List.append_assoc] at Q3;exact Q3
  ·exact kK
/-- Where the search stops, nothing is pushed. -/
theorem Ol {bs bb bi:K} {nn x i M:Nat} {st inn:List Bool} {B:List Nat} {hB h:Hp} {o:List K} {v:V} {l:List Nat} (ns:bs.num<(nxt hB).num) (ms:blk hB bs=.cells (bls st)) (si:bs≠bi) (nb:bb.num<(nxt hB).num) (mb:blk hB bb=.cells (Bx B)) (bbi:bb≠bi)
  (hst:st.length=nn) (hBl:B.length=nn+1) (hnn:nn≤20000) (hx:x<nn) (hns:st.getD x false=true) (Q:DF hB h bi inn o v l) (hM:1≤M)
  (g9:tg 9 t=.sl bs 0 nn nn 0) (g11:tg 11 t=.sl bb 0 (nn+1) (nn+1) 0) (g15:tg 15 t=v) (g16:tg 16 t=vI x) (g17:tg 17 t=vI i)
  (hk:∀t1,tg 15 t1=v→Kp [3,8,9,11,14] t t1→k (.exit 8) t1 d h=true):
  iter (exec C L fi GU) M t d h k=true:=by
 obtain ⟨M,rfl⟩:=pM M;have mbh:=(Q.kp.old bb nb (by simp [bbi])).trans mb;have msh:=(Q.kp.old bs ns (by simp [si])).trans ms;have w2:=wA x;have x1:x+1<nn+1:=tO;have e1:∀(h:Hp) (c:KV),ldB (.cells (Bx B)) (x+1) h c=c (vI (B.getD (x+1) 0)) h:=fun h c=>BD tO;have e2:∀(h:Hp) (c:KV),ldB (.cells (bls st)) x h c=c (.bool true) h:=fun h c=>by rw[GC tO,hns]
 rw[Ab,GU];by_cases hi:i<B.getD (x+1) 0
 ·have hi':(i<B.getD (x+1) 0)=True:=eq_true hi;refine Tst (J13 g9 g11 g16 g17 hi' mbh msh w2 x1 e1 e2 hx (J3 @AA @Nat.mul_one @Nat.zero_add)) ?_;refine hk _ (Ssc g15) ?_;exact kK
 ·have hi':(i<B.getD (x+1) 0)=False:=eq_false hi;refine Tst (J11 g9 g11 g16 g17 hi' mbh w2 x1 e1 @AA (J2 @Nat.mul_one @Nat.zero_add)) ?_;refine hk _ (Ssc g15) ?_;exact kK
end
end Go.AJ
namespace Go.AJ
open Go
set_option maxRecDepth 100000
def Gr.fr (g:Gr) (j:Nat):Nat:=(g.edges.map fun e=>e.1.toNat).getD j 0
/-- Where the edges of each state lie. -/
def BgOK (g:Gr) (nn:Nat) (B:List Nat):Prop:=∀j,j<nn+1→(∀v,v<g.edges.length→(v<B.getD j 0↔g.fr v<j))∧B.getD j 0≤g.edges.length
theorem BgOK.mono {g:Gr} {nn:Nat} {B:List Nat} (H:BgOK g nn B) {j:Nat} (hj:j<nn):B.getD j 0≤B.getD (j+1) 0:=by
 obtain ⟨a1,a2⟩:=H j tO;obtain ⟨b1,b2⟩:=H (j+1) tO;rcases Nat.lt_or_ge (B.getD (j+1) 0) (B.getD j 0) with h|h
 ·have q:=(a1 _ tO).1 h;have:=(b1 (B.getD (j+1) 0) tO).2 tO;omega
 ·exact h
theorem BgOK.push {g:Gr} {nn:Nat} {B:List Nat} (H:BgOK g nn B) (hed:∀e∈g.edges,∃a b:Nat,e=(.ofNat a,.ofNat b)∧a<nn∧b<nn) {x:Nat} (hx:x<nn) (y:Nat):y∈g.push (B.getD x 0) (B.getD (x+1) 0-B.getD x 0)↔(Int.ofNat x,Int.ofNat y)∈g.edges:=by
 obtain ⟨a1,a2⟩:=H x tO;obtain ⟨b1,b2⟩:=H (x+1) tO;have hm:=H.mono hx;have at_:∀j,j<g.edges.length→∃a b:Nat,g.edges[j]? =some (.ofNat a,.ofNat b)∧g.fr j=a∧g.to j=b:=fun j hj=>by
  obtain ⟨a,b,e,_,_⟩:=hed _ (List.getElem_mem hj);have hge:g.edges[j]? =some (.ofNat a,.ofNat b):=by rw[List.getElem?_eq_getElem hj,e]
  exact ⟨a,b,hge,by rw[Gr.fr,List.getD_eq_getElem?_getD,List.getElem?_map,hge];rfl,by rw[Gr.to,hge];rfl⟩
 rw[Gr.push,List.mem_map];constructor
 ·rintro ⟨j,hj,e⟩;rw[List.mem_range'_1] at hj;obtain ⟨a,b,hge,h1,h2⟩:=at_ j tO;have q1:=(b1 j tO).1 tO;have q2:=mt (a1 j tO).2 tO;have:a=x:=tO;subst this;rw[←e,h2];exact List.mem_of_getElem? hge
 ·intro he;obtain ⟨j,hj,e⟩:=List.getElem_of_mem he;obtain ⟨a,b,hge,h1,h2⟩:=at_ j hj;rw[List.getElem?_eq_getElem hj,e] at hge;have hp:=Prod.mk.inj (Option.some.inj hge);have ea:=Int.ofNat.inj hp.1;have eb:=Int.ofNat.inj hp.2;have q1:=(b1 j hj).2 tO;have q2:=mt (a1 j hj).1 tO;exact ⟨j,List.mem_range'_1.2 tO,by rw[h2,eb]⟩
section
variable {E:Env} {L n:Nat} {h:Hp} {kc:KC} {t:T V} {d:Dc} {k:KE} {fi:FI} {c:KV} {C:As}
theorem SK {bg bs bb bi:K} {g:Gr} {nn:Nat} {st:List Bool} {B:List Nat} (hlen:g.edges.length≤100000) (hL:g.edges.length+1≤L) (hed:∀e∈g.edges,∃a b:Nat,e=(.ofNat a,.ofNat b)∧a<nn∧b<nn) {hB:Hp} (ng:bg.num<(nxt hB).num) (mg:blk hB bg=.cells g.cells) (gi:bg≠bi) (ns:bs.num<(nxt hB).num) (ms:blk hB bs=.cells (bls st)) (si:bs≠bi) (nb:bb.num<(nxt hB).num) (mb:blk hB bb=.cells (Bx B)) (bbi:bb≠bi) (ni:bi.num<(nxt hB).num)
  (hst:st.length=nn) (hBl:B.length=nn+1) (hnn:nn≤20000) (H:BgOK g nn B) {R F:Nat→Prop} (hR:∀a b,R a→st.getD a false=false→(Int.ofNat a,Int.ofNat b)∈g.edges→R b):
  ∀(w M:Nat) (t:T V) (h:Hp) (inn:List Bool) (o:List K) (v:V) (l:List Nat),l.length+wt (fun j=>B.getD (j+1) 0-B.getD j 0) inn 0≤w→w+1≤M→w≤1000000→inn.length=nn→DF hB h bi inn o v l→(∀x∈l,x<nn∧R x)→(∀x,inn.getD x false=true→R x)→(∀x,F x→inn.getD x false=true∨x∈l)→(∀a b,inn.getD a false=true→st.getD a false=false→(Int.ofNat a,Int.ofNat b)∈g.edges→inn.getD b false=true∨b∈l)→
  T.get und (K.of 3) t=.ptr bg 0→T.get und (K.of 8) t=.int .i64 (.ofNat nn)→T.get und (K.of 9) t=.sl bs 0 nn nn 0→T.get und (K.of 11) t=.sl bb 0 (nn+1) (nn+1) 0→T.get und (K.of 14) t=.sl bi 0 nn nn 0→T.get und (K.of 15) t=v→
  (∀t1 h1 inn1,inn1.length=nn→Ac [bi] hB h1→blk h1 bi=.cells (bls inn1)→(∀x,inn1.getD x false=true→R x)→(∀x,F x→inn1.getD x false=true)→(∀a b,inn1.getD a false=true→st.getD a false=false→(Int.ofNat a,Int.ofNat b)∈g.edges→inn1.getD b false=true)→Kp [8,14] t t1→k (.exit 6) t1 d h1=true)→
  iter (exec C L fi GT) M t d h k=true:=by
 intro w;induction w with
 |zero=>intro M t h inn o v l hw hM hw2 hil Q hl1 hi hf hc g3 g8 g9 g11 g14 g15 hk;obtain ⟨M,rfl⟩:=pM M;have hl0:l= []:=List.length_eq_zero_iff.1 (by omega);subst hl0;have ln:=fun {h1:Hp} {c:KV}=>EF Q.S (h1:=h1) (c:=c);rw[Ab,GT];refine Tst (J4 g15 @ln @List.length_nil.{0} @Nat.lt_irrefl) ?_;refine hk _ _ inn hil Q.kp Q.mi hi (fun x q=>(hf x q).resolve_right (by simp)) (fun a b q1 q2 q3=>(hc a b q1 q2 q3).resolve_right (by simp)) ?_;simp -implicitDefEqProofs only[Kp,kpB,Nat.reduceEqDiff,reduceCtorEq,↓reduceIte]
 |succ w ih=>
  intro M t h inn o v l hw hM hw2 hil Q hl1 hi hf hc g3 g8 g9 g11 g14 g15 hk;obtain ⟨M,rfl⟩:=pM M;have ln:=fun {h1:Hp} {c:KV}=>EF Q.S (h1:=h1) (c:=c);rcases List.eq_nil_or_concat l with hl0|⟨l0,x,hl0⟩
  ·subst hl0;rw[Ab,GT];refine Tst (J4 g15 @ln @List.length_nil.{0} @Nat.lt_irrefl) ?_;refine hk _ _ inn hil Q.kp Q.mi hi (fun x q=>(hf x q).resolve_right (by simp)) (fun a b q1 q2 q3=>(hc a b q1 q2 q3).resolve_right (by simp)) ?_;simp -implicitDefEqProofs only[Kp,kpB,Nat.reduceEqDiff,reduceCtorEq,↓reduceIte]
  have hll:l.length=l0.length+1:=by rw[hl0,List.concat_eq_append,List.length_append];rfl
  have hxl:x∈l:=by rw[hl0];simp
  obtain ⟨hx,hRx⟩:=hl1 x hxl;have hxd:l.getD l0.length 0=x:=by rw[hl0,List.concat_eq_append,List.getD_eq_getElem?_getD,List.getElem?_append_right (Nat.le_refl _),Nat.sub_self];rfl
  have hmem:∀y,y∈l→y=x∨y∈l0:=fun y hy=>by rw[hl0,List.concat_eq_append,List.mem_append,List.mem_singleton] at hy;exact hy.symm
  have hsub:∀y,y∈l0→y∈l:=fun y hy=>by rw[hl0,List.concat_eq_append];exact List.mem_append_left _ hy
  obtain ⟨b,hob,i1,i2⟩:=GE Q.S (i:=l0.length) tO;have i3:=fun c=>i2 h c rfl;rw[hxd] at i3;obtain ⟨cp,rest,hs,hb,hr,hle,hcp,hnb⟩:∃cp rest,v=.sl b 0 l.length cp 0∧blk h b=.cells (Bx l++rest)∧rest.length=(cp-l.length)*1∧l.length≤cp∧cp<9223372036854775808∧b.num<(nxt h).num:=by
   rcases Sl.inv Q.S with ⟨ho,_,_,_⟩|⟨b',cp,rest,ho,hs,hb,_,hr,hle,hcp,hnb⟩
   ·rw[ho] at hob;cases hob
   ·rw[ho] at hob;cases hob;exact ⟨cp,rest,hs,hb,hr,hle,hcp,hnb⟩
  have Q0:DF hB h bi inn o (.sl b 0 l0.length cp 0) l0:=⟨Q.kp,Q.mi,by unfold Slz;rw[hob];refine .row b l0.length cp _ ([.int .i64 (.ofNat x)]++rest) (by rw[hb,hl0,List.concat_eq_append,MU,List.append_assoc]) (by rw[Ct,Nat.mul_one]) ?_ tO hcp hnb;rw[List.length_append,hr];simp only[List.length_singleton];omega,Q.own⟩
  have bni:bi≠b:=fun e=>by have:=Q.own b (by rw[hob];simp);rw[←e] at this;omega
  have ho2:bi∉o:=by rw[hob,List.mem_singleton];exact bni
  have hz:(0<l0.length+1)=True:=eT;have w2:Am .i64 (Int.sub (.ofNat (l0.length+1)) (.ofNat 1))=.ofNat l0.length:=by rw[Ao tO,Ah tO];rfl
  have sh:=fun (h:Hp) (c:KV)=>FR (h:=h) (c:=c) (b:=b) (n:=l0.length+1) (cp:=cp) (m:=l0.length) (sz:=1) (ik:=.i64) tO;have mi:=Q.mi;have e1:∀(h:Hp) (c:KV),ldB (.cells (bls inn)) x h c=c (.bool (inn.getD x false)) h:=fun h c=>GC tO;rw[hs,hll] at g15 ln i1;rw[Ab,GT];cases hin:inn.getD x false
  ·have e7:∀(h:Hp) (f:Hp→Bool),stB (.cells (bls inn)) bi x [.bool true] h f=f (h.upd bi (.cells (bls (inn.set x true)))):=fun h f=>by rw[C5 (by rw[Fa];omega),Ln]
   have mbh:blk (h.upd bi (.cells (bls (inn.set x true)))) bb=.cells (Bx B):=by rw[Al,if_neg bbi];exact (Q.kp.old bb nb (by simp [bbi])).trans mb
   have x1:x<nn+1:=tO;have e8:∀(h:Hp) (c:KV),ldB (.cells (Bx B)) x h c=c (.int .i64 (.ofNat (B.getD x 0))) h:=fun h c=>BD tO;have Q1:DF hB (h.upd bi (.cells (bls (inn.set x true)))) bi (inn.set x true) o (.sl b 0 l0.length cp 0) l0:=⟨Q0.kp.put (.inr (List.mem_singleton.2 rfl)) _,AE,Q0.S.keep (fun y hy=>by rw[Al,if_neg (fun (e:y=bi)=>ho2 (by rw[←e];exact hy))]) (by rw[Ap];exact Nat.le_refl _),Q0.own⟩
   have hws:=kr (D:=fun j=>B.getD (j+1) 0-B.getD j 0) inn x 0 (by omega) hin;simp only[Nat.zero_add] at hws;have hmono:=H.mono hx;have hBx:=(H (x+1) (by omega)).2;have set_iff:∀y,(inn.set x true).getD y false=true↔y=x∨inn.getD y false=true:=fun y=>by
    rw[Bl (by omega)];by_cases q:y=x
    ·rw[if_pos q];simp [q]
    ·rw[if_neg q];simp [q]
   have common:∀(l2:List Nat) (t1:T V) (h1:Hp) (o1:List K) (v1:V),DF hB h1 bi (inn.set x true) o1 v1 l2→l2.length+wt (fun j=>B.getD (j+1) 0-B.getD j 0) (inn.set x true) 0≤w→(∀y∈l2,y<nn∧R y)→(∀y∈l0,y∈l2)→(st.getD x false=false→∀y,(Int.ofNat x,Int.ofNat y)∈g.edges→y∈l2)→T.get und (K.of 15) t1=v1→T.get und (K.of 3) t1=.ptr bg 0→T.get und (K.of 8) t1=.int .i64 (.ofNat nn)→T.get und (K.of 9) t1=.sl bs 0 nn nn 0→T.get und (K.of 11) t1=.sl bb 0 (nn+1) (nn+1) 0→T.get und (K.of 14) t1=.sl bi 0 nn nn 0→iter (exec C L fi GT) M t1 d h1 k=true:=by
    intro l2 t1 h1 o1 v1 Q2 hw3 hl3 hs3 hp3 u15 u3 u8 u9 u11 u14;refine ih M t1 h1 (inn.set x true) o1 v1 l2 hw3 tO tO (by rw[List.length_set];exact hil) Q2 hl3 (fun y q=>?_) (fun y q=>?_) (fun a b' q1 q2 q3=>?_) u3 u8 u9 u11 u14 u15 (fun t2 h2 inn2 z1 z2 z3 z4 z5 z6 kp=>hk t2 h2 inn2 z1 z2 z3 z4 z5 z6 (fun j hj=>?_))
    ·rcases (set_iff y).1 q with rfl|q
     ·exact hRx
     ·exact hi y q
    ·rcases hf y q with q|q
     ·exact .inl ((set_iff y).2 (.inr q))
     ·rcases hmem y q with rfl|q
      ·exact .inl ((set_iff y).2 (.inl rfl))
      ·exact .inr (hs3 y q)
    ·rcases (set_iff a).1 q1 with rfl|q1
     ·exact .inr (hp3 q2 b' q3)
     ·rcases hc a b' q1 q2 q3 with q|q
      ·exact .inl ((set_iff b').2 (.inr q))
      ·rcases hmem b' q with rfl|q
       ·exact .inl ((set_iff b').2 (.inl rfl))
       ·exact .inr (hs3 b' q)
    ·rw[kp j hj];simp only[List.mem_cons,List.not_mem_nil,or_false] at hj;rcases hj with rfl|rfl
     ·rw[u8,g8]
     ·rw[u14,g14]
   refine Tst (J14 g3 g8 g9 g11 g14 g15 @ln hz w2 i1 i3 sh mi (J12 e1 hin e7 mbh x1 e8 hx @AA @Nat.mul_one @Nat.zero_add hll @Ad)) ?_;cases hsx:st.getD x false
   ·refine SL (bg:=bg) (bs:=bs) (bb:=bb) (bi:=bi) (g:=g) (nn:=nn) (x:=x) (st:=st) (B:=B) hlen hed ng mg gi ns ms si nb mb bbi ni hst hBl hnn hx hsx hBx (B.getD (x+1) 0-B.getD x 0) (B.getD x 0) _ _ _ o (.sl b 0 l0.length cp 0) l0 tO tO tO Q1 (Ssc g3) (Ssc g9) (Ssc g11) (Af) (Af) (Af) (fun t1 h1 o1 v1 Q2 u15 kp=>?_);have u3:=kp 3 (by simp);have u8:=kp 8 (by simp);have u9:=kp 9 (by simp);have u11:=kp 11 (by simp);have u14:=kp 14 (by simp);simp -implicitDefEqProofs (disch:=exact tD) only[↓sD,sB,↓reduceIte,Nat.reduceEqDiff,reduceCtorEq,Nat.reduceLT,Nat.reduceMul,Nat.reduceAdd,g3,g8,g9,g11,g14] at u3 u8 u9 u11 u14;have hpl:(g.push (B.getD x 0) (B.getD (x+1) 0-B.getD x 0)).length=B.getD (x+1) 0-B.getD x 0:=by rw[Gr.push,List.length_map,List.length_range']
    refine AV ?_;refine common _ t1 h1 o1 v1 Q2 (by rw[List.length_append,hpl];omega) (fun y hy=>?_) (fun y hy=>List.mem_append_left _ hy) (fun _ y hy=>List.mem_append_right _ ((H.push hed hx y).2 hy)) u15 u3 u8 u9 u11 u14;rcases List.mem_append.1 hy with q|q
    ·exact hl1 y (hsub y q)
    ·have he:=(H.push hed hx y).1 q;obtain ⟨a',b',e,_,hb'⟩:=hed _ he;have:=Int.ofNat.inj (Prod.mk.inj e).2;exact ⟨by omega,hR x y hRx hsx he⟩
   ·refine Ol (i:=B.getD x 0) (bs:=bs) (bb:=bb) (bi:=bi) (nn:=nn) (x:=x) (st:=st) (B:=B) ns ms si nb mb bbi hst hBl hnn hx hsx Q1 tO (Ssc g9) (Ssc g11) (Af) (Af) (Af) (fun t1 u15 kp=>?_);have u3:=kp 3 (by simp);have u8:=kp 8 (by simp);have u9:=kp 9 (by simp);have u11:=kp 11 (by simp);have u14:=kp 14 (by simp);simp -implicitDefEqProofs (disch:=exact tD) only[↓sD,sB,↓reduceIte,Nat.reduceEqDiff,reduceCtorEq,Nat.reduceLT,Nat.reduceMul,Nat.reduceAdd,g3,g8,g9,g11,g14] at u3 u8 u9 u11 u14;refine AV ?_;exact common l0 t1 _ o _ Q1 tO (fun y hy=>hl1 y (hsub y hy)) (fun y hy=>hy) (fun q=>by rw[hsx] at q;cases q) u15 u3 u8 u9 u11 u14
  ·refine Tst (J14 g3 g8 g9 g11 g14 g15 @ln hz w2 i1 i3 sh mi (J7 e1 hin hx @AA @Nat.mul_one @Nat.zero_add hll)) ?_
   refine ih M _ h inn o (.sl b 0 l0.length cp 0) l0 tO tO tO hil Q0 (fun y hy=>hl1 y (hsub y hy)) hi (fun y q=>?_) (fun a b' q1 q2 q3=>?_) (Ssc g3) (Ssc g8) (Ssc g9) (Ssc g11) (Ssc g14) (Af) (fun t2 h2 inn2 z1 z2 z3 z4 z5 z6 kp=>hk t2 h2 inn2 z1 z2 z3 z4 z5 z6 (Kp.trans ?_ kp))
   ·rcases hf y q with q|q
    ·exact .inl q
    ·rcases hmem y q with rfl|q
     ·exact .inl hin
     ·exact .inr q
   ·rcases hc a b' q1 q2 q3 with q|q
    ·exact .inl q
    ·rcases hmem b' q with rfl|q
     ·exact .inl hin
     ·exact .inr q
   ·simp -implicitDefEqProofs only[Kp,kpB,Nat.reduceEqDiff,reduceCtorEq,↓reduceIte]
end
end Go.AJ
namespace Go.AJ
open Go
set_option maxRecDepth 100000
def sel (inn:List Bool) (i w:Nat):List Nat:=(List.range' i w).filter fun j=>inn.getD j false
theorem AaT {b:Bool} {cp:Nat} {l:List Int} {h:Hp} (f:Nat→List V→Bool):DQ (slR b cp (AH l) l.length) 1 h f=f l.length (AH l):=by
 unfold slR;split
 ·rename_i e;obtain rfl:l= []:=List.length_eq_zero_iff.1 e.2;rfl
 ·simp only[DQ];rw[FD,List.drop_zero,Ft _ _ _ (by rw[CW];omega),Nat.mul_one,List.take_of_length_le (by rw[CW];exact Nat.le_refl _)]
section
variable {E:Env} {L n:Nat} {h:Hp} {kc:KC} {t:T V} {d:Dc} {k:KE} {fi:FI} {c:KV} {C:As}
theorem SJ {bi:K} {nn:Nat} {inn:List Bool} (hnn:nn≤20000) (hil:inn.length=nn) {hB:Hp} (ni:bi.num<(nxt hB).num) (mi:blk hB bi=.cells (bls inn)):
  ∀(w i M:Nat) (t:T V) (h:Hp) (o:List K) (v:V) (l:List Nat),i+w=nn→w+1≤M→l.length≤i→Ot hB h o v l→
  tg 8 t=vI nn→tg 14 t=.sl bi 0 nn nn 0→tg 18 t=v→tg 19 t=vI i→
  (∀t1 h1 o1 v1,Ot hB h1 o1 v1 (l++sel inn i w)→tg 18 t1=v1→k (.exit 10) t1 d h1=true)→
  iter (exec C L fi Mb) M t d h k=true:=by
 intro w;induction w with
 |zero=>intro i M t h o v l hi hM hl O g8 g14 g18 g19 hk;obtain ⟨M,rfl⟩:=pM M;have hi':(i<nn)=False:=eF;rw[Ab,Mb];refine Tst (J3 g8 g19 hi') ?_;refine hk _ _ o v ?_ (Ssc g18);rw[sel,List.range'_zero,List.filter_nil,List.append_nil];exact O
 |succ w ih=>
  intro i M t h o v l hi hM hl O g8 g14 g18 g19 hk;obtain ⟨M,rfl⟩:=pM M;have hi2:i<nn:=tO;have hi':(i<nn)=True:=eq_true hi2;have mih:=(O.kp.old bi ni).trans mi;have w1:=wA i;have e1:∀(h:Hp) (c:KV),ldB (.cells (bls inn)) i h c=c (.bool (inn.getD i false)) h:=fun h c=>GC tO;have es:sel inn i (w+1)=(if inn.getD i false=true then [i] else [])++sel inn (i+1) w:=by rw[sel,List.range'_succ,List.filter_cons];split<;>rfl
  rw[es] at hk;rw[Ab,Mb];cases hin:inn.getD i false
  ·rw[hin,if_neg (by simp),List.nil_append] at hk;refine Tst (J10 g8 g14 g18 g19 hi' mih e1 hin w1 (J3 @AA @Nat.mul_one @Nat.zero_add)) ?_;exact ih (i+1) M _ h o v l tO tO tO O (Ssc g8) (Ssc g14) (Ssc g18) Af hk
  ·rw[hin,if_pos rfl] at hk;refine Tst (J10 g8 g14 g18 g19 hi' mih e1 hin w1 (J5 @AA @Nat.mul_one @Nat.zero_add @GB @Dk)) ?_;refine Mp (x:=i) (h:=h) rfl rfl O.S tO (fun o2 s2 h2 S2 w3=>?_);have O2:=O.wr w3 S2;refine Tst (J4 g8 g14 g19 w1) ?_;refine ih (i+1) M _ h2 o2 s2 (l++ [i]) tO tO (by simp;omega) O2 (Ssc g8) (Ssc g14) Af Af (fun t3 h3 o3 v3 O3 v18=>hk t3 h3 o3 v3 ?_ v18);rw[List.append_assoc] at O3;exact O3
theorem Aab (hG:Gns E) {g:Gr} (hc:OkC E (L+1) (n+1) 24 g) (hb:g.bulk≤L) (hL:120000≤L) {fb sb:Bool} {fc sc:Nat} {f s:List Int} (hf:f.length≤400) (hs:s.length≤400)
  (hno:g.ok=false→∀h1,Ae h h1→kc (.ret (.tup [.nils,vI 230])) none h1=true)
  (hbad:g.ok=true→(f.any (Cq g.states.length)||s.any (Cq g.states.length))=true→∀h1,Ae h h1→kc (.ret (.tup [.nils,vI 1])) none h1=true)
  (hk:g.ok=true→f.any (Cq g.states.length)=false→s.any (Cq g.states.length)=false→∀h1 o v inn,Ot h h1 o v (sel inn 0 g.states.length)→inn.length=g.states.length→(∀x,inn.getD x false=true↔g.rg f s x)→kc (.ret (.tup [v,vI 0])) none h1=true):
  call E (L+1) (n+2) (.fn 17) [.agg g.cells,slR fb fc (AH f) f.length,slR sb sc (AH s) s.length] none h kc=true:=by
 have hbb:g.states.length+BH g.states+g.init.length+2*g.edges.length≤L:=hb;have l3:=g.cells_length;have K0:Ae h (h.upd (nxt h) (.cells g.cells)).bump:=kO;rw[Ag hG.f1017,wp,rR,ZQ,ZP,ZO,ZN,ZM,ZL,ZK,ZJ,ZI,ZH,PP,PO,PN,PM,PL];refine Sst (J3 @Gr.ld0 @Ax l3) ?_;refine hc _ _ (fun h1 K1=>?_);have K01:=K0.trans K1;have nb1:=K1.nx;simp only[nB] at nb1;have m1:blk h1 (nxt h)=.cells g.cells:=(K1.old _ tN).trans Af;cases hok:g.ok
 ·refine AV ?_;exact hno hok h1 K01
 obtain ⟨c1,c2,c3,c4,c5,c6⟩:=Gr.ok_parts hok;have hed:=Df _ c6;refine AV ?_;refine pg hG (L:=L) (n:=n) (nn:=g.states.length) Zs.ofR tO tO ?_;cases hfa:f.any (Cq g.states.length) with
 |true=>refine AV ?_;exact hbad hok (by rw[hfa];rfl) h1 K01
 |false=>
 refine AV ?_;refine pg hG (L:=L) (n:=n) (nn:=g.states.length) Zs.ofR tO tO ?_;cases hsa:s.any (Cq g.states.length) with
 |true=>refine AV ?_;exact hbad hok (by rw[hsa,Bool.or_true]) h1 K01
 |false=>
 have em:∀(h:Hp) (c:KV),Bf (vI g.states.length) (vI g.states.length) [.bool false] 1 h c=c (.sl (nxt h) 0 g.states.length g.states.length 0) (h.upd (nxt h) (.cells (bls (List.replicate g.states.length false)))).bump:=fun h c=>by rw[GA tO,HT]
 have em2:∀(h:Hp) (c:KV),Bf (vI (g.states.length+1)) (vI (g.states.length+1)) [vI 0] 8 h c=c (.sl (nxt h) 0 (g.states.length+1) (g.states.length+1) 0) (h.upd (nxt h) (.cells (Bx (List.replicate (g.states.length+1) 0)))).bump:=fun h c=>by rw[GA tO,Hq]
 have lrep:∀(b:Bool),(List.replicate g.states.length b).length=g.states.length:=fun b=>List.length_replicate ..;have nk:∀{a b:K},a.num≠b.num→a≠b:=fun h e=>h (congrArg K.num e);refine Sst (J2 em @Ad) ?_;have kS:Ae h1 (h1.upd (nxt h1) (.cells (bls (List.replicate g.states.length false)))).bump:=(Ae.refl h1).new _;refine SO (bs:=nxt h1) (nn:=g.states.length) (b:=sb) (cp:=sc) (f:=s) tO hsa s 0 _ _ _ (List.replicate g.states.length false) rfl tO tO (lrep _) (.refl _ _) Af Af Af Af (fun t2 h2 K2 ms2 kp2=>?_);have k2:Ae h1 h2:=Ae.fresh kO K2 (by simp);have nx2:=K2.nx;simp only[nB] at nx2;have q1:=kp2 1 (by simp);have q2:=kp2 2 (by simp);have q3:=kp2 3 (by simp);have q8:=kp2 8 (by simp);have q9:=kp2 9 (by simp);simp -implicitDefEqProofs (disch:=exact tD) only[↓sD,sB,↓reduceIte,Nat.reduceEqDiff,reduceCtorEq,Nat.reduceLT,Nat.reduceMul,Nat.reduceAdd] at q1 q2 q3 q8 q9;clear kp2;have mg2:=(k2.old (nxt h) tO).trans m1;have wn:=wA g.states.length;have lrz:(List.replicate (g.states.length+1) 0).length=g.states.length+1:=List.length_replicate ..;have z0:∀j,(List.replicate (g.states.length+1) 0).getD j 0=0:=fun j=>by rw[List.getD_eq_getElem?_getD,List.getElem?_replicate];split<;>rfl
 have k2n:Ae h2 (h2.upd (nxt h2) (.cells (Bx (List.replicate (g.states.length+1) 0)))).bump:=(Ae.refl h2).new _;refine Sst (J8 q1 q2 q3 q8 q9 wn em2 @Ad) ?_;refine SN (bg:=nxt h) (bb:=nxt h2) (g:=g) (nn:=g.states.length) c1 c2 hed (h0:=(h2.upd (nxt h2) (.cells (Bx (List.replicate (g.states.length+1) 0)))).bump) tN ((k2n.old (nxt h) tO).trans mg2) (nk tO) g.edges 0 _ _ _ (List.replicate (g.states.length+1) 0) rfl tO tO lrz ⟨fun j v e=>(by rw[z0] at e;cases e),fun v hv=>absurd hv (Nat.not_lt_zero _)⟩ (.refl _ _) Af (Ssc q3) Af Af (fun t3 h3 A3 l3' HA K3 m3 kp3=>?_);have nx3:=K3.nx;simp only[nB] at nx3;have r1:=kp3 1 (by simp);have r2:=kp3 2 (by simp);have r3:=kp3 3 (by simp);have r8:=kp3 8 (by simp);have r9:=kp3 9 (by simp);have r11:=kp3 11 (by simp);simp -implicitDefEqProofs (disch:=exact tD) only[↓sD,sB,↓reduceIte,Nat.reduceEqDiff,reduceCtorEq,Nat.reduceLT,Nat.reduceMul,Nat.reduceAdd,q1,q2,q3,q8,q9] at r1 r2 r3 r8 r9 r11;clear kp3;have srt:∀u v,u≤v→v<g.edges.length→(g.edges.map fun e=>e.1.toNat).getD u 0≤(g.edges.map fun e=>e.1.toNat).getD v 0:=fun u v huv hv=>by
  rcases Nat.lt_or_ge u v with q|q
  ·have:=List.pairwise_iff_getElem.1 (FC _ c6).2 u v tO hv q;rw[List.getD_eq_getElem?_getD,List.getD_eq_getElem?_getD,List.getElem?_map,List.getElem?_map,List.getElem?_eq_getElem (by omega:u<g.edges.length),List.getElem?_eq_getElem hv];simp only[Option.map_some,Option.getD_some];omega
  ·have:u=v:=tO;subst this;exact Nat.le_refl _
 refine Sst (J7 r1 r2 r3 r8 r9 r11 @Ad) ?_;refine SM (bb:=nxt h2) (nn:=g.states.length) c1 HA srt (h0:=h3) g.states.length 1 _ _ h3 A3 tO tO (Nat.le_refl _) l3' (Bg2.start HA) (.refl _ _) m3 (Ssc r8) (Ssc r11) Af (fun t4 h4 B4 l4 HB K4 m4 kp4=>?_);have nx4:=K4.nx;have s1:=kp4 1 (by simp);have s2:=kp4 2 (by simp);have s3:=kp4 3 (by simp);have s8:=kp4 8 (by simp);have s9:=kp4 9 (by simp);have s11:=kp4 11 (by simp);simp -implicitDefEqProofs (disch:=exact tD) only[↓sD,sB,↓reduceIte,Nat.reduceEqDiff,reduceCtorEq,Nat.reduceLT,Nat.reduceMul,Nat.reduceAdd,r1,r2,r3,r8,r9,r11] at s1 s2 s3 s8 s9 s11;clear kp4;have k4:Ae h2 h4:=(k2n.fresh K3 (fun x hx=>by rw[List.mem_singleton.1 hx];exact Nat.le_refl _)).fresh K4 (fun x hx=>by rw[List.mem_singleton.1 hx];exact Nat.le_refl _);have mg4:=(k4.old (nxt h) tO).trans mg2;have ms4:=(k4.old (nxt h1) tO).trans ms2;have e3:=fun (z:Nat→List V→Bool) (h:Hp)=>AaT (h:=h) (b:=fb) (cp:=fc) (l:=f) z;refine Sst (J10 s1 s2 s3 s8 s9 s11 em @zh @Ad @Nat.zero_add) ?_;have eH:∀X Y,((h4.upd (nxt h4) X).upd (nxt h4).succ Y).bump.bump=((h4.upd (nxt h4) X).bump.upd (nxt (h4.upd (nxt h4) X).bump) Y).bump:=fun X Y=>by simp only[Ay,Ap,CT]
 have eN:(nxt h4).succ=nxt (h4.upd (nxt h4) (.cells (bls (List.replicate g.states.length false)))).bump:=by simp only[Ay,Ap]
 have kB:Ae h4 (h4.upd (nxt h4) (.cells (bls (List.replicate g.states.length false)))).bump:=(Ae.refl h4).new _;have miB:blk (h4.upd (nxt h4) (.cells (bls (List.replicate g.states.length false)))).bump (nxt h4)=.cells (bls (List.replicate g.states.length false)):=by rw[An,AE]
 have nB1:(nxt (h4.upd (nxt h4) (.cells (bls (List.replicate g.states.length false)))).bump).num=(nxt h4).num+1:=by rw[Ay,Ap,K.num_succ]
 rw[eH,eN];generalize (h4.upd (nxt h4) (.cells (bls (List.replicate g.states.length false)))).bump=HP at kB miB nB1;have kN:Ae HP (HP.upd (nxt HP) (.cells [])).bump:=(Ae.refl HP).new _;have k24:=k2.nx;have k44:=k4.nx;refine Gg (h:=(HP.upd (nxt HP) (.cells [])).bump) (sz:=0) (n:=0) (o:= [nxt HP]) (q:= []) (.row (nxt HP) 0 0 [] [] (by rw[An,AE];rfl) rfl rfl (Nat.le_refl _) tO tN) (new:=AH f) (m:=f.length) (fun z=>e3 z _) (by rw[CW,Nat.mul_one]) rfl tO (fun o5 s5 h5 S5 w5=>?_);have efz:AH f=Bx (f.map Int.toNat):=by rw[AH,Bx,List.map_map];refine List.map_congr_left fun x hx=>?_;obtain ⟨a,rfl,_⟩:=ER hfa x hx;rfl
 have S5':Slz h5 o5 s5 (f.map Int.toNat):=by simp only[Nat.zero_add,List.nil_append,efz] at S5;unfold Slz;rw[List.length_map];exact S5
 have n5:=w5.nx;simp only[nB] at n5;have Q5:DF HP h5 (nxt h4) (List.replicate g.states.length false) o5 s5 (f.map Int.toNat):=by
  have hno:∀b:K,b.num<(nxt HP).num→blk h5 b=blk HP b:=fun b hb=>by rw[w5.old b tN (by simp only[List.mem_singleton];exact fun e=>by rw[e] at hb;omega)];exact kN.old b hb
  refine ⟨⟨by omega,fun b hb _=>hno b hb⟩,(hno _ tO).trans miB,S5',fun b hb=>?_⟩;rcases w5.new b hb with q|q
  ·rw[List.mem_singleton.1 q];exact Nat.le_refl _
  ·simp only[nB] at q;omega
 have hst:=HL s (List.replicate g.states.length false) (by rw[lrep];exact ER hsa);have rf:∀a,(List.replicate g.states.length false).getD a false≠true:=fun a z=>by rw[List.getD_eq_getElem?_getD,List.getElem?_replicate] at z;split at z<;>simp at z
 have hst2:∀a,(Gs s (List.replicate g.states.length false)).getD a false=true↔Int.ofNat a∈s:=fun a=>by rw[hst a];exact ⟨fun q=>q.resolve_left (rf a),.inr⟩
 have hff:∀x,x∈f.map Int.toNat↔Int.ofNat x∈f:=fun x=>by
  rw[List.mem_map];constructor
  ·rintro ⟨y,hy,e⟩;obtain ⟨a,rfl,_⟩:=ER hfa y hy;exact e▸hy
  ·exact fun q=>⟨_,q,rfl⟩
 have HB2:BgOK g g.states.length B4:=fun j hj=>HB.lo j hj;have hwt:=ku (B:=fun j=>B4.getD j 0) g.states.length 0 (fun j _ hj=>HB2.mono tO);simp only[Nat.zero_add] at hwt;have hbn:=(HB2 g.states.length tO).2;have flen:(f.map Int.toNat).length=f.length:=List.length_map ..;have hRr:∀a b,g.rg f s a→(Gs s (List.replicate g.states.length false)).getD a false=false→(Int.ofNat a,Int.ofNat b)∈g.edges→g.rg f s b:=fun a b ra q e=> .step ra (fun z=>by rw[(hst2 a).2 z] at q;cases q) e;have hl0:∀x∈f.map Int.toNat,x<g.states.length∧g.rg f s x:=fun x hx=>by have hx':=(hff x).1 hx;obtain ⟨a,e,ha⟩:=ER hfa _ hx';have:=Int.ofNat.inj e;exact ⟨by omega,.base hx'⟩
 refine Sst (J7 s1 s2 s3 s8 s9 s11 @Ad) ?_;refine SK (L:=L+1) (bg:=nxt h) (bs:=nxt h1) (bb:=nxt h2) (bi:=nxt h4) (g:=g) (nn:=g.states.length) c2 tO hed (hB:=HP) tO ((kB.old _ tO).trans mg4) (nk tO) tO ((kB.old _ tO).trans ms4) (nk tO) tO ((kB.old _ tO).trans m4) (nk tO) tO (by rw[Eu,lrep]) l4 c1 HB2 (R:=g.rg f s) (F:=fun x=>Int.ofNat x∈f) hRr ((f.map Int.toNat).length+wt (fun j=>B4.getD (j+1) 0-B4.getD j 0) (List.replicate g.states.length false) 0) (L+1) _ h5 (List.replicate g.states.length false) o5 s5 (f.map Int.toNat) (Nat.le_refl _) tO tO (lrep _) Q5 hl0 (fun x q=>absurd q (rf x)) (fun x q=> .inr ((hff x).2 q)) (fun a b q=>absurd q (rf a)) (Ssc s3) (Ssc s8) (Ssc s9) (Ssc s11) Af Af (fun t6 h6 inn l6 K6 m6 hi6 hf6 hc6 kp6=>?_);have u8:=kp6 8 (by simp);have u14:=kp6 14 (by simp);simp -implicitDefEqProofs (disch:=exact tD) only[↓sD,sB,↓reduceIte,Nat.reduceEqDiff,reduceCtorEq,Nat.reduceLT,Nat.reduceMul,Nat.reduceAdd,s8] at u8 u14;clear kp6;have nx6:=K6.nx;have k6:Ae h4 h6:=kB.fresh K6 (fun x hx=>by rw[List.mem_singleton.1 hx];exact Nat.le_refl _);refine Sst (J3 u8 u14 @Ad) ?_;refine SJ (bi:=nxt h4) (nn:=g.states.length) c1 l6 (hB:=h6) tO m6 g.states.length 0 _ _ h6 [] .nils [] (Nat.zero_add _) tO (Nat.le_refl _) ⟨.refl _,Sl.nil,fun b hb=>(nomatch hb)⟩ (Ssc u8) (Ssc u14) Af Af (fun t7 h7 o7 v7 O7 u18=>?_);rw[List.nil_append] at O7;refine Sst u18 ?_;refine hk hok hfa hsa h7 o7 v7 inn ⟨K01.trans (k2.trans (k4.trans (k6.trans O7.kp))),O7.S,fun b hb=>by have:=O7.own b hb;omega⟩ l6 (fun x=>⟨hi6 x,fun r=>?_⟩);induction r with
 |base hx=>exact hf6 _ hx
 |step ra hs' he ih=>exact hc6 _ _ ih (by
  cases q:(Gs s (List.replicate g.states.length false)).getD _ false
  ·rfl
  ·exact absurd ((hst2 _).1 q) hs') he
end
end Go.AJ
