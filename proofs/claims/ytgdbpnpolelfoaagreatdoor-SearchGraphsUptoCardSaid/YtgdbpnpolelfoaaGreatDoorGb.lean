/- Levels and paths. -/
import Derived.Test.YtgdbpnpolelfoaaGreatDoorGa
set_option linter.all false
namespace Go.AJ
open Go
set_option maxRecDepth 100000
section
variable {E:Env} {L n:Nat} {h:Hp} {kc:KC} {t:T V} {d:Dc} {k:KE} {fi:FI} {c:KV} {C:As}
theorem Ab2 {l:List (Int×Int)} {i:Nat} {e:Int×Int} (hx:l[i]? =some e) {h:Hp} {c:KV}:BU (.rp (Dq l) (i*2)) h c=c (.int .i64 e.1) h:=AM (UD hx)
theorem Ab1 {l:List (Int×Int)} {i:Nat} {e:Int×Int} (hx:l[i]? =some e) {h:Hp} {c:KV}:BU (.rp (Dq l) (i*2+1)) h c=c (.int .i64 e.2) h:=AM (UC hx)
theorem gT {bg bo:K} {g:Gr} {nn:Nat} (hnn:nn≤20000) (hlen:g.edges.length≤100000) {h0:Hp} (ng:bg.num<(nxt h0).num) (mg:blk h0 bg=.cells g.cells) (hgo:bg≠bo):
  ∀(r:List (Int×Int)) (prev:Option (Int×Int)) (f found i M:Nat) (t:T V) (h:Hp) (lv:List Nat),g.edges.drop i=r→i+r.length=g.edges.length→r.length+1≤M→G0 nn prev found r=some f→found≤nn→lv.length=nn→(∀j,lv.getD j 0≤found)→Ac [bo] h0 h→blk h bo=.cells (Bx lv)→
  tg 1 t=.ptr bg 0→tg 3 t=.sl bo 0 nn nn 0→tg 4 t=vI found→tg 5 t=vI i→
  (∀t1 h1,Ac [bo] h0 h1→blk h1 bo=.cells (Bx (RU lv found r))→tg 3 t1=.sl bo 0 nn nn 0→k (.exit 0) t1 d h1=true)→
  iter (exec C L fi L4) M t d h k=true:=by
 intro r;induction r with
 |nil=>intro prev f found i M t h lv hr hi hM hok hfn hll hle K0 mo g1 g3 g4 g5 hk;obtain ⟨M,rfl⟩:=pM M;simp only[List.length_nil] at hi;have hi':(i<g.edges.length)=False:=eF;have mg1:=(K0.old bg ng (by simp [hgo])).trans mg;rw[Ab,L4];refine Tst (J5 g1 g5 hi' mg1 @Gr.ld2) ?_;exact hk _ _ K0 mo (Ssc g3)
 |cons e r ih=>
  intro prev f found i M t h lv hr hi hM hok hfn hll hle K0 mo g1 g3 g4 g5 hk;obtain ⟨M,rfl⟩:=pM M;simp only[List.length_cons] at hi hM;have hi':(i<g.edges.length)=True:=eT;have mg1:=(K0.old bg ng (by simp [hgo])).trans mg;have e1:=fun c h=>Ab2 (c:=c) (h:=h) (Ak hr);have e2:=fun c h=>Ab1 (c:=c) (h:=h) (Ak hr);have w1:=wA i;rw[G0] at hok;cases hed:Ci nn prev found e
  ·rw[hed,if_neg (by simp)] at hok;cases hok
  rw[hed,if_pos rfl] at hok;obtain ⟨a,b,rfl,ha,hb,haf,hbf,_⟩:=EI hed;simp only at e1 e2 hok;rw[RU] at hk;simp only at hk;rw[Ab,L4];by_cases hbb:b=found
  ·have hbt:Aq (.ofNat b) (.ofNat found)=true:=by rw[hbb];exact AG
   rw[if_pos hbt] at hk hok;have hv:=hle a;have eb:b<lv.length:=tO;rw[show (Int.ofNat a).toNat=a from rfl] at hk;have e3:=wA (lv.getD a 0);have e4:=wA found;have e5:∀(h:Hp) (f:Hp→Bool),stB (.cells (Bx lv)) bo found [vI (lv.getD a 0+1)] h f=f (h.upd bo (.cells (Bx (lv.set b (lv.getD a 0+1))))):=fun h f=>by rw[←hbb];exact Hm eb
   have e6:∀(h:Hp) (c:KV),ldB (.cells (Bx lv)) a h c=c (vI (lv.getD a 0)) h:=fun h c=>BD tO;have hfn2:(found<nn)=True:=eT;have han:(a<nn)=True:=eT;refine Tst (J14 g1 g3 g4 g5 hi' mg1 @Gr.ld2 e1 e2 hbt mo e5 e6 (J7 w1 e3 e4 hfn2 han @AA (J3 @Nat.mul_one @Nat.zero_add @Nat.add_zero))) ?_;refine ih (some (.ofNat a,.ofNat b)) f (found+1) (i+1) M _ _ (lv.set b (lv.getD a 0+1)) (Ai hr) tO tO hok tO (by rw[List.length_set];exact hll) (fun j=>?_) (K0.put (b:=bo) (.inr (by simp)) _) AE (Ssc g1) (Ssc g3) Af Af (by rw[hbb];exact hk);by_cases hj:j=b
   ·subst hj;rw[List.getD_eq_getElem?_getD,List.getElem?_set_self eb];simp only[Option.getD_some];omega
   ·rw[List.getD_eq_getElem?_getD,List.getElem?_set_ne (fun e=>hj e.symm),←List.getD_eq_getElem?_getD];have:=hle j;omega
  ·have hbt:Aq (.ofNat b) (.ofNat found)=false:=by rw[AB,decide_eq_false hbb]
   rw[if_neg (by rw[hbt];simp)] at hk hok;refine Tst (J10 g1 g3 g4 g5 hi' mg1 @Gr.ld2 e2 hbt w1) ?_;exact ih (some (.ofNat a,.ofNat b)) f found (i+1) M _ _ lv (Ai hr) tO tO hok hfn hll hle K0 mo (Ssc g1) (Ssc g3) (Ssc g4) Af hk
/-- What a function returns that reckons levels. -/
def LvC (E:Env) (L n f:Nat) (g:Gr):Prop:=∀(h:Hp) (kc:KC),(∀h1 b,Ae h h1→blk h1 b=.cells (Bx g.lv)→(nxt h).num≤b.num→b.num<(nxt h1).num→kc (.ret (.sl b 0 g.states.length g.states.length 0)) none h1=true)→call E L n (.fn f) [.agg g.cells] none h kc=true
theorem Adn (hE:Fns E) {g:Gr} (hok:g.ok=true) (hL:g.bulk≤L):LvC E (L+1) (n+1) 47 g:=fun _ _ hk=>pf hE hok hL hk
theorem Ac8 (hG:Gns E) {g:Gr} (hok:g.ok=true) (hL:g.bulk≤L):LvC E (L+1) (n+1) 48 g:=fun h kc hk=>by
 obtain ⟨h1,h2,h3,h4,h5,h6⟩:=Gr.ok_parts hok;have hbb:g.states.length+BH g.states+g.init.length+2*g.edges.length≤L:=hL;have em:∀(h:Hp) (c:KV),Bf (vI g.states.length) (vI g.states.length) [vI 0] 8 h c=c (.sl (nxt h) 0 g.states.length g.states.length 0) (h.upd (nxt h) (.cells (Bx (List.replicate g.states.length 0)))).bump:=fun h c=>by rw[GA tO,Hq]
 have K2:Ae h ((h.upd (nxt h) (.cells g.cells)).upd (nxt h).succ (.cells (Bx (List.replicate g.states.length 0)))).bump.bump:=kO;rw[Ag hG.f1048,we,rK,Zg,Zf,Ze,Zd,Zc];refine Sst (J5 em @Ad @Gr.ld0 @Gr.ld1 @Gr.ld2) ?_;refine gT (bg:=nxt h) (bo:=(nxt h).succ) (g:=g) (nn:=g.states.length) h1 h2 (h0:=((h.upd (nxt h) (.cells g.cells)).upd (nxt h).succ (.cells (Bx (List.replicate g.states.length 0)))).bump.bump) tN Af (fun e=>by have:=congrArg K.num e;rw[K.num_succ] at this;omega) g.edges none g.states.length g.init.length 0 _ _ _ (List.replicate g.states.length 0) rfl tO tO h6 h3 (by simp) (fun j=>?_) (.refl _ _) Af Af Af Af Af (fun t1 h7 K7 m7 g3=>?_)
 ·rw[List.getD_eq_getElem?_getD,List.getElem?_replicate];split<;>simp
 ·have n7:=K7.nx;simp only[nB] at n7;refine Sst g3 ?_;refine hk h7 (nxt h).succ ⟨by ((try simp only[nB]);omega),fun c hc=>?_⟩ m7 tN tN;rw[K7.old c tN (by simp only[List.mem_cons,List.not_mem_nil,or_false];exact fun e=>by subst e;rw[K.num_succ] at hc;omega),K2.old c hc]
theorem Acn (hG:Gns E) {g:Gr} (hc:OkC E (L+1) n 24 g) (hl:g.ok=true→LvC E (L+1) n 48 g) (hbad:g.ok=false→∀h1,Ae h h1→kc (.ret (.tup [.nils,vI 230])) none h1=true)
  (hk:g.ok=true→∀h1 b,Ae h h1→blk h1 b=.cells (Bx g.lv)→(nxt h).num≤b.num→b.num<(nxt h1).num→kc (.ret (.tup [.sl b 0 g.states.length g.states.length 0,vI 0])) none h1=true):
  call E (L+1) (n+1) (.fn 9) [.agg g.cells] none h kc=true:=by
 have l3:=g.cells_length;have K0:Ae h (h.upd (nxt h) (.cells g.cells)).bump:=kO;rw[Ag hG.f1009,wy,rX,aI,aH,aG];refine Sst (J2 @Ax l3) ?_;refine hc _ _ (fun h1 K1=>?_);have K2:=K0.trans K1;cases hok:g.ok
 ·refine AV ?_;exact hbad hok h1 K2
 ·have m1:blk h1 (nxt h)=.cells g.cells:=(K1.old _ tN).trans Af;have nx1:=K2.nx;refine Sst (J3 m1 @Ax l3) ?_;refine hl hok _ _ (fun h2 b K3 m2 b1 b2=>?_);refine AV ?_;exact hk hok h2 b (K2.trans K3) m2 tO b2
end
end Go.AJ
namespace Go.AJ
open Go
set_option maxRecDepth 100000
def rvA (A:Nat→Nat) (N i j:Nat):Nat→Nat:=fun x=>if x<i∨j<x then A (N-1-x) else A x
theorem xm {A:Nat→Nat} {N i j:Nat} (h:i+j+1=N) (hj:i<j):sw (rvA A N i j) i j=rvA A N (i+1) (j-1):=by
 funext x;unfold sw rvA;by_cases h1:x=i
 ·subst h1;rw[if_pos rfl,if_neg tO,if_pos tO,show N-1-x=j by omega]
 ·rw[if_neg h1];by_cases h2:x=j
  ·subst h2;rw[if_pos rfl,if_neg tO,if_pos tO,show N-1-x=i by omega]
  ·rw[if_neg h2];by_cases h3:x<i∨j<x
   ·rw[if_pos h3,if_pos tO]
   ·rw[if_neg h3,if_neg tO]
section
variable [IT] {E:Env} {L n:Nat} {h:Hp} {kc:KC} {t:T V} {d:Dc} {k:KE} {fi:FI} {c:KV} {C:As}
theorem gM {b:K} {cp N:Nat} (hN:N≤4000000000000000000) {A0:Nat→Nat} {h0:Hp}
  (hk:∀t1 h1,Ac [b] h0 h1→blk h1 b=.cells (Az (fun x=>A0 (N-1-x)) N)→k (.exit 0) t1 d h1=true):
  ∀(w i j M:Nat) (t:T V) (h:Hp),j≤i+w→w+1≤M→i+j+1=N→Ac [b] h0 h→blk h b=.cells (Az (rvA A0 N i j) N)→
  tg 0 t=.sl b 0 N cp 0→tg 2 t=vI i→tg 3 t=vI j→
  iter (exec C L fi LS) M t d h k=true:=by
 have fin:∀{i j:Nat},¬i<j→i+j+1=N→Az (rvA A0 N i j) N=Az (fun x=>A0 (N-1-x)) N:=fun {i j} hc e=>by
  unfold Az;congr 1;refine List.map_congr_left fun x hx=>?_;have hx:=List.mem_range.1 hx;unfold rvA;by_cases h3:x<i∨j<x
  ·rw[if_pos h3]
  ·rw[if_neg h3];simp only;rw[show N-1-x=x by omega]
 intro w;induction w with
 |zero=>intro i j M t h hw hM hij K0 mb g0 g2 g3;obtain ⟨M,rfl⟩:=pM M;have c1:(i<j)=False:=eF;rw[Ab,LS];refine Tst (J4 g0 g2 g3 c1) ?_;exact hk _ _ K0 (by rw[mb,fin tO hij])
 |succ w ih=>
  intro i j M t h hw hM hij K0 mb g0 g2 g3;obtain ⟨M,rfl⟩:=pM M;rw[Ab,LS];by_cases hc:i<j
  ·have c1:(i<j)=True:=eq_true hc;have e2:=fun (h:Hp) (c':KV)=>AI (h:=h) (c:=c') (A:=rvA A0 N i j) (N:=N) (i:=i) tO;have e3:=fun (h:Hp) (c':KV)=>AI (h:=h) (c:=c') (A:=rvA A0 N i j) (N:=N) (i:=j) tO;have s1:=fun (h:Hp) (k':Hp→Bool)=>BE (h:=h) (f:=k') (A:=rvA A0 N i j) (N:=N) (b:=b) (x:=rvA A0 N i j j) (i:=i) tO;have s2:=fun (h:Hp) (k':Hp→Bool)=>BE (h:=h) (f:=k') (A:=Ms (rvA A0 N i j) i (rvA A0 N i j j)) (N:=N) (b:=b) (x:=rvA A0 N i j i) (i:=j) tO;have l1:i<N:=tO;have l2:j<N:=tO;have w1:=wA i;have w2:Am .i64 (Int.sub (.ofNat j) (.ofNat 1))=.ofNat (j-1):=by rw[Ao tO,Ah tO]
   have e4:=xm (A:=A0) hij hc;refine Tst (J14 g0 g2 g3 c1 e2 e3 s1 s2 l1 l2 @Dy w1 w2 (J4 @AA mb @Nat.mul_one @Nat.zero_add)) ?_;refine ih (i+1) (j-1) M _ _ tO tO tO (K0.put (.inr (List.mem_singleton.2 rfl)) _) (by rw[Al,if_pos rfl,e4]) (Ssc g0) Af Af
  ·have c1:(i<j)=False:=eq_false hc;refine Tst (J4 g0 g2 g3 c1) ?_;exact hk _ _ K0 (by rw[mb,fin hc hij])
end
section
variable {E:Env} {L n:Nat} {h:Hp} {kc:KC} {t:T V} {d:Dc} {k:KE} {fi:FI} {c:KV} {C:As}
theorem AaV (hG:Gns E) {o:List K} {sv:V} {l:List Nat} (S:Slz h o sv l) (h0:0<l.length) (hl:l.length≤1000000) (hL:l.length+5≤L)
  (hk:∀h1,Ac o h h1→Slz h1 o sv l.reverse→kc (.ret (.tup [])) none h1=true):
  call E (L+1) (n+1) (.fn 91) [sv] none h kc=true:=by
 rcases Sl.inv S with ⟨ho,hs,h0',_⟩|⟨b,cp,rest,ho,hs,hb,hq,hr,hle,hcp,hnb⟩
 ·omega
 ·letI:IT:=⟨rest⟩
  have mb:blk h b=.cells (Az (fun i=>l.getD i 0) l.length):=by rw[hb,GD];rfl
  have w2:Am .i64 (Int.sub (.ofNat l.length) (.ofNat 1))=.ofNat (l.length-1):=by rw[Ao tO,Ah tO]
  rw[hs,Ag hG.f1091,vO,ru,XX];refine Tst (J2 w2 @Ad) ?_;refine gM (b:=b) (cp:=cp) (N:=l.length) tO (A0:=fun i=>l.getD i 0) (h0:=h) (fun t1 h1 K1 m1=>?_) l.length 0 (l.length-1) _ _ h tO tO tO (.refl _ _) ?_ Af Af Af
  ·refine AV ?_;refine hk h1 (ho▸K1) ?_;rw[ho,hs];unfold Slz;have e:l.reverse.length=l.length:=List.length_reverse;rw[e];refine .row b l.length cp _ rest ?_ (by rw[Ct,e,Nat.mul_one]) hr hle hcp (K1.lt hnb);rw[m1,GD,e];unfold Az;congr 1;congr 1;refine List.map_congr_left fun x hx=>?_;have hx:=List.mem_range.1 hx;have:l.reverse.getD x 0=l.getD (l.length-1-x) 0:=by rw[List.getD_eq_getElem?_getD,List.getD_eq_getElem?_getD,List.getElem?_reverse hx]
   rw[this]
  ·rw[mb];congr 1;unfold Az;congr 1;refine List.map_congr_left fun x hx=>?_;have hx:=List.mem_range.1 hx;unfold rvA;rw[if_neg tO]
end
end Go.AJ
namespace Go.AJ
open Go
set_option maxRecDepth 100000
/-- The first edge that leads to a state from a state of a level. -/
def pre (lv:List Nat) (k to:Nat):List (Int×Int)→Option Nat
 | []=>none
 |e::r=>if (Aq e.2 (.ofNat to)&&decide (lv.getD e.1.toNat 0=k))=true then some e.1.toNat else pre lv k to r
def bkw (lv:List Nat) (es:List (Int×Int)):Nat→Nat→List Nat
 |0,to=> [to]
 |k+1,to=>to::bkw lv es k ((pre lv k to es).getD 0)
def Gr.path (g:Gr) (to:Nat):List Nat:=(bkw g.lv g.edges (g.lv.getD to 0) to).reverse
theorem Pp {lv:List Nat} {k to:Nat}:∀{r:List (Int×Int)} {a:Nat},pre lv k to r=some a→∃e∈r,e.1.toNat=a∧e.2=.ofNat to∧lv.getD a 0=k
 | [],a,h=>by cases h
 |e::r,a,h=>by
  rw[pre] at h;split at h
  ·rename_i hc;rw[Bool.and_eq_true,decide_eq_true_eq] at hc;cases h;exact ⟨e,by simp,rfl,Au.1 hc.1,hc.2⟩
  ·obtain ⟨e',h1,h2⟩:=Pp h;exact ⟨e',List.mem_cons_of_mem _ h1,h2⟩
theorem lh {lv:List Nat} {k to:Nat}:∀{r:List (Int×Int)} {e:Int×Int},e∈r→e.2=.ofNat to→lv.getD e.1.toNat 0=k→∃a,pre lv k to r=some a
 |x::r,e,he,h1,h2=>by
  rw[pre];split
  ·exact ⟨_,rfl⟩
  ·rename_i hc;rcases List.mem_cons.1 he with rfl|he
   ·exact absurd (by rw[h1,AG,decide_eq_true h2];rfl) hc
   ·exact lh he h1 h2
/-- Each state has a way up, or lies on the highest level. -/
def Ups (es:List (Int×Int)) (lv:List Nat) (n:Nat):Prop:=∀j,j<n→lv.getD j 0=0∨∃a:Nat,a<n∧(Int.ofNat a,Int.ofNat j)∈es∧lv.getD j 0=lv.getD a 0+1
theorem Up {es:List (Int×Int)} {nn:Nat}:∀(r:List (Int×Int)) {prev:Option (Int×Int)} {found f:Nat} {lv:List Nat},G0 nn prev found r=some f→(∀e∈r,e∈es)→lv.length=nn→Ups es lv found→Ups es (RU lv found r) f
 | [],prev,found,f,lv,h,_,_,u=>by rw[G0] at h;cases h;exact u
 |e::r,prev,found,f,lv,h,hm,hl,u=>by
  rw[G0] at h;cases hed:Ci nn prev found e
  ·rw[hed,if_neg (by simp)] at h;cases h
  rw[hed,if_pos rfl] at h;obtain ⟨a,b,rfl,ha,hb,haf,hbf,_⟩:=EI hed;have hm':=fun e he=>hm e (List.mem_cons_of_mem _ he);rw[RU];simp only at h⊢;by_cases hc:Aq (.ofNat b) (.ofNat found)=true
  ·rw[if_pos hc] at h⊢;have hbe:b=found:=Int.ofNat.inj (Au.1 hc);subst hbe;have eta:(Int.ofNat a).toNat=a:=rfl;have g1:∀j,j≠b→(lv.set b (lv.getD (Int.ofNat a).toNat 0+1)).getD j 0=lv.getD j 0:=fun j hj=>by rw[Bl tO,if_neg hj]
   refine Up r h hm' (by rw[List.length_set];exact hl) fun j hj=>?_;by_cases hjb:j=b
   ·subst hjb;refine .inr ⟨a,by omega,hm _ (by simp),?_⟩;rw[g1 a tO,Bl tO,if_pos rfl,eta]
   ·rw[g1 j hjb];rcases u j tO with q|⟨x,q1,q2,q3⟩
    ·exact .inl q
    ·refine .inr ⟨x,by omega,q2,?_⟩;rw[g1 x tO];exact q3
  ·rw[if_neg hc] at h⊢;exact Up r h hm' hl u
theorem Gr.ups {g:Gr} (hok:g.ok=true):Ups g.edges g.lv g.states.length:=by obtain ⟨h1,h2,h3,h4,h5,h6⟩:=Gr.ok_parts hok;refine Up g.edges h6 (fun e he=>he) (by simp) fun j hj=> .inl ?_;rw[List.getD_eq_getElem?_getD,List.getElem?_replicate];split<;>simp
theorem Gr.pre_ok {g:Gr} (hok:g.ok=true) {to k:Nat} (hto:to<g.states.length) (hk:g.lv.getD to 0=k+1):∃a,pre g.lv k to g.edges=some a∧a<g.states.length∧g.lv.getD a 0=k:=by
 obtain ⟨h1,h2,h3,h4,h5,h6⟩:=Gr.ok_parts hok;rcases Gr.ups hok to hto with q|⟨x,q1,q2,q3⟩
 ·omega
 ·obtain ⟨a,ha⟩:=lh (lv:=g.lv) (k:=k) (to:=to) q2 rfl (by show g.lv.getD x 0=k;omega);obtain ⟨e,he,e1,e2,e3⟩:=Pp ha;obtain ⟨y,z,rfl,hy,hz⟩:=Df _ h6 e he;exact ⟨a,ha,by rw[←e1];exact hy,e3⟩
theorem Ok:∀(r:List (Int×Int)) {prev:Option (Int×Int)} {found f nn:Nat} {lv:List Nat},G0 nn prev found r=some f→(∀j,lv.getD j 0≤found)→lv.length=nn→∀j,(RU lv found r).getD j 0≤f
 | [],prev,found,f,nn,lv,h,u,_=>by rw[G0] at h;cases h;exact u
 |e::r,prev,found,f,nn,lv,h,u,hl=>by
  rw[G0] at h;cases hed:Ci nn prev found e
  ·rw[hed,if_neg (by simp)] at h;cases h
  rw[hed,if_pos rfl] at h;obtain ⟨a,b,rfl,ha,hb,haf,hbf,_⟩:=EI hed;rw[RU];simp only at h⊢;by_cases hc:Aq (.ofNat b) (.ofNat found)=true
  ·rw[if_pos hc] at h⊢;have hbe:b=found:=Int.ofNat.inj (Au.1 hc);refine Ok r h (fun j=>?_) (by rw[List.length_set];exact hl);rw[Bl tO];split
   ·have:=u (Int.ofNat a).toNat;omega
   ·have:=u j;omega
  ·rw[if_neg hc] at h⊢;exact Ok r h u hl
theorem Gr.lv_le {g:Gr} (hok:g.ok=true) (j:Nat):g.lv.getD j 0≤20000:=by obtain ⟨h1,h2,h3,h4,h5,h6⟩:=Gr.ok_parts hok;refine Nat.le_trans (Ok g.edges h6 (fun j=>?_) (by simp) j) h1;rw[List.getD_eq_getElem?_getD,List.getElem?_replicate];split<;>simp
section
variable {E:Env} {L n:Nat} {h:Hp} {kc:KC} {t:T V} {d:Dc} {k:KE} {fi:FI} {c:KV} {C:As}
/-- A list that was begun behind a heap, and what was there ahead. -/
structure Ot (h0 h:Hp) (o:List K) (s:V) (l:List Nat):Prop where
 kp:Ae h0 h
 S:Slz h o s l
 own:∀b∈o,(nxt h0).num≤b.num
theorem Ot.wr {h0 h h':Hp} {o o':List K} {s s':V} {l l':List Nat} (a:Ot h0 h o s l) (w:Wr o h o' h') (S:Slz h' o' s' l'):Ot h0 h' o' s' l':=
 ⟨⟨Nat.le_trans a.kp.nx w.nx,fun b hb=>(w.old b (Nat.lt_of_lt_of_le hb a.kp.nx) (fun q=>by have:=a.own b q;omega)).trans (a.kp.old b hb)⟩,S,fun b hb=>by
  rcases w.new b hb with q|q
  ·exact a.own b q
  ·have:=a.kp.nx;omega⟩
theorem Ot.keeps {h0 h h':Hp} {o:List K} {s:V} {l:List Nat} (a:Ot h0 h o s l) (b:Ae h h'):Ot h0 h' o s l:=⟨a.kp.trans b,a.S.keep (fun x hx=>b.old x (a.S.lt x hx)) b.nx,a.own⟩
theorem SF {bg bl:K} {g:Gr} {nn:Nat} {lv:List Nat} (hll:lv.length=nn) (hlen:g.edges.length≤100000) (hed:∀e∈g.edges,∃a b:Nat,e=(.ofNat a,.ofNat b)∧a<nn∧b<nn) {h0:Hp} (nl:bl.num<(nxt h0).num) (ml:blk h0 bl=.cells (Bx lv)) {to w:Nat} (hto:to<nn) (hkt:lv.getD to 0=w+1) (hw:w≤100000) {l:List Nat} (hl:l.length≤1000000) {a:Nat}:
  ∀(r:List (Int×Int)) (i M:Nat) (t:T V) (h:Hp) (o:List K) (s:V),g.edges.drop i=r→i+r.length=g.edges.length→r.length+1≤M→pre lv w to r=some a→Ot h0 h o s l→
  tg 1 t=vI to→tg 2 t=.ptr bg 0→tg 5 t=.sl bl 0 nn nn 0→tg 6 t=s→tg 19 t=slR g.eb g.ec (Dq g.edges) g.edges.length→tg 20 t=vI g.edges.length→tg 21 t=vI i→
  (∀t1 h1 o1 s1,Ot h0 h1 o1 s1 (l++ [a])→tg 1 t1=vI a→tg 2 t1=.ptr bg 0→tg 5 t1=.sl bl 0 nn nn 0→tg 6 t1=s1→k (.exit 1) t1 d h1=true)→
  iter (exec C L fi O4) M t d h k=true:=by
 intro r;induction r with
 |nil=>intro i M t h o s _ _ _ hp;cases hp
 |cons e r ih=>
  intro i M t h o s hr hi hM hp O g1 g2 g5 g6 g19 g20 g21 hk;obtain ⟨M,rfl⟩:=pM M;simp only[List.length_cons] at hi hM;have hi':(i<g.edges.length)=True:=eT;obtain ⟨x,y,rfl,hx,hy⟩:=hed e (List.mem_of_getElem? (Ak hr));have e1:=fun c h=>Ch (c:=c) (h:=h) (Bm (Ak hr)) rfl;simp only at e1;have w1:=wA i;have w2:Am .i64 (Int.sub (.ofNat (w+1)) (.ofNat 1))=.ofNat w:=by rw[Ao tO,Ah tO];rfl
  have mlh:blk h bl=.cells (Bx lv):=(O.kp.old bl nl).trans ml;have nlh:=Nat.lt_of_lt_of_le nl O.kp.nx;have e3:∀(h:Hp) (c:KV),ldB (.cells [vI x,vI y]) 0 h c=c (vI x) h:=fun h c=>BS rfl;have e4:∀(h:Hp) (c:KV),ldB (.cells [vI x,vI y]) 1 h c=c (vI y) h:=fun h c=>BS rfl;have e5:∀(h:Hp) (c:KV),ldB (.cells (Bx lv)) x h c=c (vI (lv.getD x 0)) h:=fun h c=>BD tO;have e6:∀(h:Hp) (c:KV),ldB (.cells (Bx lv)) to h c=c (vI (w+1)) h:=fun h c=>by rw[BD tO,hkt]
  have k4:Ae h (h.upd (nxt h) (.cells [vI x,vI y])).bump:=(Ae.refl h).new _;rw[pre] at hp;simp only[show (Int.ofNat x).toNat=x from rfl] at hp;rw[Ab,O4];cases c1:Aq (.ofNat y) (.ofNat to)
  ·rw[c1,Bool.false_and,if_neg (by simp)] at hp;refine Tst (J14 g1 g2 g5 g6 g19 g20 g21 hi' e1 @Bu @AX e3 e4 (J2 c1 w1)) ?_;exact ih (i+1) M _ _ o s (Ai hr) tO tO hp (O.keeps k4) (Ssc g1) (Ssc g2) (Ssc g5) (Ssc g6) (Ssc g19) (Ssc g20) Af hk
  rw[c1,Bool.true_and] at hp;by_cases c2:lv.getD x 0=w
  ·rw[if_pos (decide_eq_true c2)] at hp;cases hp;have c3:decide (lv.getD a 0=w)=true:=decide_eq_true c2;refine Tst (J14 g1 g2 g5 g6 g19 g20 g21 hi' e1 @Bu @AX e3 e4 (J12 c1 c3 w1 w2 e5 e6 mlh hx hto @AA (J2 @Nat.mul_one @Nat.zero_add) (J2 @GB @Dk))) ?_;refine Mp (x:=a) (h:=(h.upd (nxt h) (.cells [vI a,vI y])).bump) ?_ ?_ (O.S.keep (fun b hb=>k4.old b (O.S.lt b hb)) k4.nx) hl (fun o1 s1 h1 S1 w1=>?_)
   ·simp only[Ay,Ap]
   ·simp only[CT]
   have O1:=(O.keeps k4).wr w1 S1;refine Tst (J4 g2 g5 c3 c1) ?_;exact hk _ _ o1 s1 O1 Af (Ssc g2) (Ssc g5) Af
  ·rw[if_neg (by rw[decide_eq_false c2];simp)] at hp;have c3:decide (lv.getD x 0=w)=false:=decide_eq_false c2;refine Tst (J14 g1 g2 g5 g6 g19 g20 g21 hi' e1 @Bu @AX e3 e4 (J11 c1 c3 w1 w2 e5 e6 mlh hx hto @AA (J2 @Nat.mul_one @Nat.zero_add))) ?_;exact ih (i+1) M _ _ o s (Ai hr) tO tO hp (O.keeps k4) (Ssc g1) (Ssc g2) (Ssc g5) (Ssc g6) (Ssc g19) (Ssc g20) Af hk
end
end Go.AJ
namespace Go.AJ
open Go
set_option maxRecDepth 100000
section
variable {E:Env} {L n:Nat} {h:Hp} {kc:KC} {t:T V} {d:Dc} {k:KE} {fi:FI} {c:KV} {C:As}
theorem SE {bg bl:K} {g:Gr} (hok:g.ok=true) (hL:g.edges.length+1≤L) {h0:Hp} (ng:bg.num<(nxt h0).num) (mg:blk h0 bg=.cells g.cells) (nl:bl.num<(nxt h0).num) (ml:blk h0 bl=.cells (Bx g.lv)):
  ∀(w to M:Nat) (t:T V) (h:Hp) (o:List K) (s:V) (p:List Nat),g.lv.getD to 0=w→to<g.states.length→w+1≤M→p.length+w≤20000→Ot h0 h o s (p++ [to])→
  tg 1 t=vI to→tg 2 t=.ptr bg 0→tg 5 t=.sl bl 0 g.states.length g.states.length 0→tg 6 t=s→
  (∀t1 h1 o1 s1,Ot h0 h1 o1 s1 (p++bkw g.lv g.edges w to)→tg 6 t1=s1→k (.exit 0) t1 d h1=true)→
  iter (exec C L fi L2) M t d h k=true:=by
 obtain ⟨h1,h2,h3,h4,h5,h6⟩:=Gr.ok_parts hok;have hll:=Gr.lv_length g;intro w;induction w with
 |zero=>
  intro to M t h o s p hw hto hM hp O g1 g2 g5 g6 hk;obtain ⟨M,rfl⟩:=pM M;have mlh:blk h bl=.cells (Bx g.lv):=(O.kp.old bl nl).trans ml;have e6:∀(h:Hp) (c:KV),ldB (.cells (Bx g.lv)) to h c=c (vI 0) h:=fun h c=>by rw[BD tO,hw]
  rw[Ab,L2];refine Tst (J9 g1 g5 mlh e6 hto @AA @Nat.mul_one @Nat.zero_add @Nat.lt_irrefl) ?_;exact hk _ _ o s O (Ssc g6)
 |succ w ih=>
  intro to M t h o s p hw hto hM hp O g1 g2 g5 g6 hk;obtain ⟨M,rfl⟩:=pM M;obtain ⟨a,ha,han,hav⟩:=Gr.pre_ok hok hto hw;have mlh:blk h bl=.cells (Bx g.lv):=(O.kp.old bl nl).trans ml;have mgh:blk h bg=.cells g.cells:=(O.kp.old bg ng).trans mg;have e6:∀(h:Hp) (c:KV),ldB (.cells (Bx g.lv)) to h c=c (vI (w+1)) h:=fun h c=>by rw[BD tO,hw]
  have hz:(0<w+1)=True:=eT;rw[bkw,ha,Option.getD_some] at hk;rw[Ab,L2];refine Tst (J14 g1 g2 g5 g6 mlh mgh e6 hto @AA @Nat.mul_one @Nat.zero_add hz @Gr.ld2 @Ad) ?_;refine SF (bg:=bg) (bl:=bl) (g:=g) hll h2 (Df _ h6) nl ml hto hw tO (l:=p++ [to]) (by simp;omega) g.edges 0 _ _ h o s rfl tO tO ha O (Ssc g1) (Ssc g2) (Ssc g5) (Ssc g6) Af Af Af (fun t1 h1 o1 s1 O1 u1 u2 u5 u6=>?_);refine AV ?_;refine ih a M _ h1 o1 s1 (p++ [to]) hav han tO (by simp;omega) O1 (Ssc u1) (Ssc u2) (Ssc u5) (Ssc u6) (fun t2 h2 o2 s2 O2 v6=>hk t2 h2 o2 s2 ?_ v6);rw[List.append_assoc] at O2;exact O2
theorem wI (lv:List Nat) (es:List (Int×Int)):∀w to,0<(bkw lv es w to).length
 |0,_=>Nat.zero_lt_succ _
 |_+1,_=>Nat.zero_lt_succ _
theorem Lo (lv:List Nat) (es:List (Int×Int)):∀w to,(bkw lv es w to).length=w+1
 |0,_=>rfl
 |w+1,to=>by rw[bkw,List.length_cons,Lo lv es w]
/-- What a function returns that finds a path. -/
def PtC (E:Env) (L n f:Nat) (g:Gr) (to:Nat):Prop:=∀(h:Hp) (kc:KC),(∀h1 o s,Ot h h1 o s (g.path to)→kc (.ret s) none h1=true)→call E L n (.fn f) [.agg g.cells,vI to] none h kc=true
theorem Adi (hE:Fns E) (hG:Gns E) {g:Gr} (hok:g.ok=true) (hL:g.bulk≤L) (hL2:20100≤L) {to:Nat} (hto:to<g.states.length):PtC E (L+1) (n+2) 49 g to:=fun h kc hk=>by
 obtain ⟨h1,h2,h3,h4,h5,h6⟩:=Gr.ok_parts hok;have hbb:g.states.length+BH g.states+g.init.length+2*g.edges.length≤L:=hL;have l3:=g.cells_length;have K0:Ae h (h.upd (nxt h) (.cells g.cells)).bump:=kO;have hlev:=Gr.lv_le hok to;rw[Ag hG.f1049,wd,rJ,Zb,Za,Y2,Y1,Y0,YZ,YY];refine Sst (J2 @Ax l3) ?_;refine Adn hE (L:=L) (n:=n) hok hL _ _ (fun h1 bl K1 m1 b1 b2=>?_);have K01:=K0.trans K1;have mg:blk h1 (nxt h)=.cells g.cells:=(K1.old _ tN).trans Af;have nb1:=K1.nx;simp only[nB] at nb1;refine Sst (J4 @GB @Dk @Ad @Nat.zero_add) ?_;have k4:Ae h1 (h1.upd (nxt h1) (.cells [vI to])).bump:=(Ae.refl h1).new _;refine SE (bg:=nxt h) (bl:=bl) (g:=g) hok tO (h0:=h1) tO mg b2 m1 (g.lv.getD to 0) to _ _ _ [nxt h1] (.sl (nxt h1) 0 1 1 0) [] rfl hto tO (by show 0+_≤_;omega) ⟨k4,?_,fun b hb=>by rw[List.mem_singleton.1 hb];exact Nat.le_refl _⟩ Af Af Af Af (fun t2 h2 o2 s2 O2 u6=>?_)
 ·unfold Slz;exact .row (nxt h1) 1 1 _ [] (by rw[An,AE];rfl) rfl rfl (Nat.le_refl _) tO tN
 rw[List.nil_append] at O2;have hlen:=Lo g.lv g.edges (g.lv.getD to 0) to;refine Sst u6 ?_;refine AaV hG (L:=L) (n:=n) O2.S (wI _ _ _ _) tO tO (fun h3 K3 S3=>?_);refine Sst u6 ?_;refine hk h3 o2 s2 ⟨?_,S3,fun b hb=>by have:=O2.own b hb;have:=K01.nx;omega⟩;exact (K01.trans O2.kp).fresh K3 (fun x hx=>by have:=O2.own x hx;have:=K01.nx;omega)
/-- The two functions that find paths, whole. -/
theorem dZ {f q i:Nat} {g:Gr} {to:Int} (hc:OkC E (L+1) n f g) (hp:g.ok=true→∀a:Nat,to=.ofNat a→a<g.states.length→PtC E (L+1) n q g a) (hf:Wf E i (OW f q) NG)
  (hbad:g.ok=false→∀h1,Ae h h1→kc (.ret (.tup [.nils,vI 230])) none h1=true)
  (harg:g.ok=true→Cq g.states.length to=true→∀h1,Ae h h1→kc (.ret (.tup [.nils,vI 1])) none h1=true)
  (hk:g.ok=true→∀a:Nat,to=.ofNat a→a<g.states.length→∀h1 o s,Ot h h1 o s (g.path a)→kc (.ret (.tup [s,vI 0])) none h1=true):
  call E (L+1) (n+1) (.fn i) [.agg g.cells,.int .i64 to] none h kc=true:=by
 have l3:=g.cells_length;have K0:Ae h (h.upd (nxt h) (.cells g.cells)).bump:=kO;rw[Ag hf,OW,NG,aF,aE,aD,aC];refine Sst (J2 @Ax l3) ?_;refine hc _ _ (fun h1 K1=>?_);have K01:=K0.trans K1;have m1:blk h1 (nxt h)=.cells g.cells:=(K1.old _ tN).trans Af;cases hok:g.ok
 ·refine AV ?_;exact hbad hok h1 K01
 cases c1:ltI to (.ofNat 0)
 ·cases c2:ltI to (.ofNat g.states.length)
  ·refine Sst (J4 m1 @Gr.ld0 c1 c2) ?_;exact harg hok (by rw[Cq,c1,c2];rfl) h1 K01
  ·obtain ⟨a,rfl,ha⟩:=Km (nn:=g.states.length) (x:=to) (by rw[Cq,c1,c2];rfl);have hz:(a<0)=False:=eF;have hn:(a<g.states.length)=True:=eT;refine Tst (J6 m1 @Gr.ld0 hz hn @Ax l3) ?_;refine hp hok a rfl ha _ _ (fun h2 o s O=>?_);refine AV ?_;exact hk hok a rfl ha h2 o s ⟨K01.trans O.kp,O.S,fun b hb=>by have:=O.own b hb;have:=K01.nx;omega⟩
 ·refine Sst c1 ?_;exact harg hok (by rw[Cq,c1];rfl) h1 K01
end
end Go.AJ
namespace Go.AJ
open Go
set_option maxRecDepth 100000
theorem uq {p e:Int×Int} (h:ltI (ur p e) (.ofNat 0)=true):p.1≤e.1:=by
 rw[Cw] at h;have h:=of_decide_eq_true h;unfold ur at h;rw[Bb,Cm] at h;by_cases h1:p.1<e.1
 ·omega
 ·by_cases h2:e.1<p.1
  ·rw[if_neg h1,if_pos h2] at h;simp at h
  ·omega
theorem FC {nn:Nat}:∀(r:List (Int×Int)) {prev:Option (Int×Int)} {found f:Nat},G0 nn prev found r=some f→(∀p,prev=some p→∀e∈r,p.1≤e.1)∧r.Pairwise fun e f=>e.1≤f.1
 | [],_,_,_,_=>⟨fun _ _ e he=>(nomatch he),.nil⟩
 |x::r,prev,found,f,h=>by
  rw[G0] at h;cases hed:Ci nn prev found x
  ·rw[hed,if_neg (by simp)] at h;cases h
  rw[hed,if_pos rfl] at h;have hpv:Fg prev x=true:=by unfold Ci at hed;simp only[Bool.and_eq_true] at hed;exact hed.1.1.2
  obtain ⟨q1,q2⟩:=FC r h;have hx:=q1 x rfl;refine ⟨fun p hp e he=>?_,List.pairwise_cons.2 ⟨hx,q2⟩⟩;subst hp;have hpx:=uq hpv;rcases List.mem_cons.1 he with rfl|he
  ·exact hpx
  ·have:=hx e he;omega
section
variable {E:Env} {L n:Nat} {h:Hp} {kc:KC} {t:T V} {d:Dc} {k:KE} {fi:FI} {c:KV} {C:As}
theorem SD {bg bl:K} {g:Gr} {nn:Nat} {lv:List Nat} (hll:lv.length=nn) (hlen:g.edges.length≤100000) {h0:Hp} (ng:bg.num<(nxt h0).num) (mg:blk h0 bg=.cells g.cells) (nl:bl.num<(nxt h0).num) (ml:blk h0 bl=.cells (Bx lv)) {to w:Nat} (hto:to<nn) (hkt:lv.getD to 0=w+1) (hw:w≤100000) {s:V} {x:Nat}:
  ∀(r:List (Int×Int)) (i M:Nat) (t:T V) (h:Hp) (bv:Int),g.edges.drop i=r→i+r.length=g.edges.length→r.length+1≤M→(∀e∈r,∃a b:Nat,e=(.ofNat a,.ofNat b)∧a<nn∧b<nn)→(r.Pairwise fun e f=>e.1≤f.1)→(bv=.negSucc 0∧pre lv w to r=some x∨bv=.ofNat x∧∀e∈r,Int.ofNat x≤e.1)→Ae h0 h→
  tg 1 t=vI to→tg 2 t=.ptr bg 0→tg 5 t=.sl bl 0 nn nn 0→tg 6 t=s→tg 7 t=.int .i64 bv→tg 8 t=vI i→
  (∀t1 h1,Ae h h1→tg 7 t1=vI x→tg 2 t1=.ptr bg 0→tg 5 t1=.sl bl 0 nn nn 0→tg 6 t1=s→k (.exit 2) t1 d h1=true)→
  iter (exec C L fi L0) M t d h k=true:=by
 intro r;induction r with
 |nil=>
  intro i M t h bv hr hi hM hed hp hB K0 g1 g2 g5 g6 g7 g8 hk;obtain ⟨M,rfl⟩:=pM M;simp only[List.length_nil] at hi;have hi':(i<g.edges.length)=False:=eF;have mgh:=(K0.old bg ng).trans mg;have hb:bv=.ofNat x:=by
   rcases hB with ⟨_,q⟩|⟨q,_⟩
   ·cases q
   ·exact q
  subst hb;rw[Ab,L0];refine Tst (J5 g2 g8 hi' mgh @Gr.ld2) ?_;exact hk _ _ (.refl _) (Ssc g7) (Ssc g2) (Ssc g5) (Ssc g6)
 |cons e r ih=>
  intro i M t h bv hr hi hM hed hpw hB K0 g1 g2 g5 g6 g7 g8 hk;obtain ⟨M,rfl⟩:=pM M;simp only[List.length_cons] at hi hM;have hi':(i<g.edges.length)=True:=eT;have mgh:=(K0.old bg ng).trans mg;have mlh:=(K0.old bl nl).trans ml;have nlh:=Nat.lt_of_lt_of_le nl K0.nx;have ngh:=Nat.lt_of_lt_of_le ng K0.nx;obtain ⟨a,y,rfl,ha,hy⟩:=hed e (by simp);have hed':=fun e he=>hed e (List.mem_cons_of_mem _ he);obtain ⟨hp1,hp2⟩:=List.pairwise_cons.1 hpw;have e1:=fun c h=>Ch (c:=c) (h:=h) (Bm (Ak hr)) rfl;simp only at e1;have w1:=wA i;have w2:Am .i64 (Int.sub (.ofNat (w+1)) (.ofNat 1))=.ofNat w:=by rw[Ao tO,Ah tO];rfl
  have e3:∀(h:Hp) (c:KV),ldB (.cells [vI a,vI y]) 0 h c=c (vI a) h:=fun h c=>BS rfl;have e4:∀(h:Hp) (c:KV),ldB (.cells [vI a,vI y]) 1 h c=c (vI y) h:=fun h c=>BS rfl;have e5:∀(h:Hp) (c:KV),ldB (.cells (Bx lv)) a h c=c (vI (lv.getD a 0)) h:=fun h c=>BD tO;have e6:∀(h:Hp) (c:KV),ldB (.cells (Bx lv)) to h c=c (vI (w+1)) h:=fun h c=>by rw[BD tO,hkt]
  have k4:Ae h (h.upd (nxt h) (.cells [vI a,vI y])).bump:=(Ae.refl h).new _;have hB2:∀{p:Nat},bv=.ofNat p→p=x→∀e∈r,Int.ofNat x≤e.1:=fun {p} h1 h2 e he=>by
   rcases hB with ⟨q,_⟩|⟨_,q⟩
   ·rw[q] at h1;cases h1
   ·exact q e (by simp [he])
  have nomatch_:(Aq (.ofNat y) (.ofNat to)&&decide (lv.getD a 0=w))=false→(bv=.negSucc 0∧pre lv w to r=some x∨bv=.ofNat x∧∀e∈r,Int.ofNat x≤e.1):=fun hc=>by
   rcases hB with ⟨q1,q2⟩|⟨q1,q2⟩
   ·rw[pre] at q2;simp only[show (Int.ofNat a).toNat=a from rfl] at q2;rw[if_neg (by rw[hc];simp)] at q2;exact .inl ⟨q1,q2⟩
   ·exact .inr ⟨q1,fun e he=>q2 e (by simp [he])⟩
  rw[Ab,L0];cases c1:Aq (.ofNat y) (.ofNat to)
  ·refine Tst (J14 g1 g2 g5 g6 g7 g8 hi' mgh @Gr.ld2 e1 @Bu @AX e3 (J3 e4 c1 w1)) ?_;exact ih (i+1) M _ _ bv (Ai hr) tO tO hed' hp2 (nomatch_ (by rw[c1];rfl)) (K0.trans k4) (Ssc g1) (Ssc g2) (Ssc g5) (Ssc g6) (Ssc g7) Af (fun t1 h1 K1=>hk t1 h1 (k4.trans K1))
  by_cases c2:lv.getD a 0=w
  ·have c3:decide (lv.getD a 0=w)=true:=decide_eq_true c2;cases bv with
   |negSucc m=>
    have hx:m=0∧a=x:=by
     rcases hB with ⟨q1,q2⟩|⟨q1,_⟩
     ·rw[pre] at q2;simp only[show (Int.ofNat a).toNat=a from rfl] at q2;rw[if_pos (by rw[c1,c3];rfl)] at q2;exact ⟨by injection q1,Option.some.inj q2⟩
     ·cases q1
    obtain ⟨rfl,rfl⟩:=hx;refine Tst (J14 g1 g2 g5 g6 g7 g8 hi' mgh @Gr.ld2 e1 @Bu @AX e3 (J14 e4 c1 c3 w1 w2 e5 e6 mlh ha hto @AA @BG @Nat.mul_one @Nat.zero_add)) ?_;exact ih (i+1) M _ _ (.ofNat a) (Ai hr) tO tO hed' hp2 (.inr ⟨rfl,hp1⟩) (K0.trans k4) (Ssc g1) (Ssc g2) (Ssc g5) (Ssc g6) Af Af (fun t1 h1 K1=>hk t1 h1 (k4.trans K1))
   |ofNat m=>
    have hx:m=x∧x≤a:=by
     rcases hB with ⟨q1,_⟩|⟨q1,q2⟩
     ·cases q1
     ·exact ⟨Int.ofNat.inj q1,Int.ofNat_le.1 (q2 (.ofNat a,.ofNat y) (by simp))⟩
    obtain ⟨rfl,hxa⟩:=hx;have z1:(m<0)=False:=eF;have z2:(a<m)=False:=eF;refine Tst (J14 g1 g2 g5 g6 g7 g8 hi' mgh @Gr.ld2 e1 @Bu @AX e3 (J14 e4 c1 c3 w1 w2 e5 e6 mlh ha hto @AA z1 z2 (J2 @Nat.mul_one @Nat.zero_add))) ?_;exact ih (i+1) M _ _ (.ofNat m) (Ai hr) tO tO hed' hp2 (.inr ⟨rfl,hB2 rfl rfl⟩) (K0.trans k4) (Ssc g1) (Ssc g2) (Ssc g5) (Ssc g6) (Ssc g7) Af (fun t1 h1 K1=>hk t1 h1 (k4.trans K1))
  ·have c3:decide (lv.getD a 0=w)=false:=decide_eq_false c2;refine Tst (J14 g1 g2 g5 g6 g7 g8 hi' mgh @Gr.ld2 e1 @Bu @AX e3 (J13 e4 c1 c3 w1 w2 e5 e6 mlh ha hto @AA @Nat.mul_one @Nat.zero_add)) ?_;exact ih (i+1) M _ _ bv (Ai hr) tO tO hed' hp2 (nomatch_ (by rw[c1,c3];rfl)) (K0.trans k4) (Ssc g1) (Ssc g2) (Ssc g5) (Ssc g6) (Ssc g7) Af (fun t1 h1 K1=>hk t1 h1 (k4.trans K1))
end
end Go.AJ
namespace Go.AJ
open Go
set_option maxRecDepth 100000
section
variable {E:Env} {L n:Nat} {h:Hp} {kc:KC} {t:T V} {d:Dc} {k:KE} {fi:FI} {c:KV} {C:As}
theorem Sz {bg bl:K} {g:Gr} (hok:g.ok=true) (hL:g.edges.length+1≤L) {h0:Hp} (ng:bg.num<(nxt h0).num) (mg:blk h0 bg=.cells g.cells) (nl:bl.num<(nxt h0).num) (ml:blk h0 bl=.cells (Bx g.lv)):
  ∀(w to M:Nat) (t:T V) (h:Hp) (o:List K) (s:V) (p:List Nat),g.lv.getD to 0=w→to<g.states.length→w+1≤M→p.length+w≤20000→Ot h0 h o s (p++ [to])→
  tg 1 t=vI to→tg 2 t=.ptr bg 0→tg 5 t=.sl bl 0 g.states.length g.states.length 0→tg 6 t=s→
  (∀t1 h1 o1 s1,Ot h0 h1 o1 s1 (p++bkw g.lv g.edges w to)→tg 6 t1=s1→k (.exit 0) t1 d h1=true)→
  iter (exec C L fi LZ) M t d h k=true:=by
 obtain ⟨h1,h2,h3,h4,h5,h6⟩:=Gr.ok_parts hok;have hll:=Gr.lv_length g;intro w;induction w with
 |zero=>
  intro to M t h o s p hw hto hM hp O g1 g2 g5 g6 hk;obtain ⟨M,rfl⟩:=pM M;have mlh:blk h bl=.cells (Bx g.lv):=(O.kp.old bl nl).trans ml;have e6:∀(h:Hp) (c:KV),ldB (.cells (Bx g.lv)) to h c=c (vI 0) h:=fun h c=>by rw[BD tO,hw]
  rw[Ab,LZ];refine Tst (J9 g1 g5 mlh e6 hto @AA @Nat.mul_one @Nat.zero_add @Nat.lt_irrefl) ?_;exact hk _ _ o s O (Ssc g6)
 |succ w ih=>
  intro to M t h o s p hw hto hM hp O g1 g2 g5 g6 hk;obtain ⟨M,rfl⟩:=pM M;obtain ⟨a,ha,han,hav⟩:=Gr.pre_ok hok hto hw;have mlh:blk h bl=.cells (Bx g.lv):=(O.kp.old bl nl).trans ml;have e6:∀(h:Hp) (c:KV),ldB (.cells (Bx g.lv)) to h c=c (vI (w+1)) h:=fun h c=>by rw[BD tO,hw]
  have hz:(0<w+1)=True:=eT;rw[bkw,ha,Option.getD_some] at hk;rw[Ab,LZ];refine Tst (J12 g1 g2 g5 g6 mlh e6 hto @AA @Nat.mul_one @Nat.zero_add hz @Ad) ?_;refine SD (bg:=bg) (bl:=bl) (g:=g) (s:=s) (x:=a) hll h2 ng mg nl ml hto hw tO g.edges 0 _ _ h (.negSucc 0) rfl tO tO (Df _ h6) (FC _ h6).2 (.inl ⟨rfl,ha⟩) O.kp (Ssc g1) (Ssc g2) (Ssc g5) (Ssc g6) Af Af (fun t1 h1 K1 u7 u2 u5 u6=>?_);have O1:=O.keeps K1;refine Tst (J6 u2 u5 u6 u7 @GB @Dk) ?_;refine Mp (x:=a) (h:=h1) rfl rfl O1.S (by simp;omega) (fun o2 s2 h2 S2 w2=>?_);have O2:=O1.wr w2 S2;refine AV ?_;refine ih a M _ h2 o2 s2 (p++ [to]) hav han tO (by simp;omega) O2 Af (Ssc u2) (Ssc u5) Af (fun t3 h3 o3 s3 O3 v6=>hk t3 h3 o3 s3 ?_ v6);rw[List.append_assoc] at O3;exact O3
theorem Sy {hB:Hp} {ob:List K} {sb:V} {l:List Nat} (SB:Slz hB ob sb l) (hl:l.length≤1000000):
  ∀(w M:Nat) (t:T V) (h:Hp) (o:List K) (s:V) (q:List Nat),w≤l.length→w+1≤M→q.length+w≤1000000→Ot hB h o s q→
  tg 6 t=sb→tg 10 t=s→tg 11 t=.int .i64 (dec w)→
  (∀t1 h1 o1 s1,Ot hB h1 o1 s1 (q++(l.take w).reverse)→tg 10 t1=s1→k (.exit 4) t1 d h1=true)→
  iter (exec C L fi LY) M t d h k=true:=by
 intro w;induction w with
 |zero=>intro M t h o s q hw hM hq O g6 g10 g11 hk;obtain ⟨M,rfl⟩:=pM M;have e0:ltI (dec 0) (.ofNat 0)=true:=rfl;rw[Ab,LY];refine Sst (J2 g11 e0) ?_;refine hk _ _ o s ?_ (Ssc g10);rw[List.take_zero,List.reverse_nil,List.append_nil];exact O
 |succ w ih=>
  intro M t h o s q hw hM hq O g6 g10 g11 hk;obtain ⟨M,rfl⟩:=pM M;obtain ⟨b,hob,i1,i2⟩:=GE SB (i:=w) tO;have hb:=SB.lt b (by rw[hob];simp);have i3:=fun c=>i2 h c (O.kp.old b hb);have z0:(w<0)=False:=eF;have w2:Am .i64 (Int.sub (.ofNat w) (.ofNat 1))=dec w:=Bi tO;rw[Ab,LY];refine Tst (J10 g6 g10 g11 @Cr z0 i1 i3 @GB @Dk @Nat.zero_add) ?_;refine Mp (x:=l.getD w 0) (h:=h) rfl rfl O.S tO (fun o2 s2 h2 S2 w3=>?_);have O2:=O.wr w3 S2;refine Tst (J3 g11 @Cr w2) ?_;refine ih M _ h2 o2 s2 (q++ [l.getD w 0]) tO tO (by simp;omega) O2 (Ssc g6) Af Af (fun t3 h3 o3 s3 O3 v=>hk t3 h3 o3 s3 ?_ v);have e:(l.take (w+1)).reverse=l.getD w 0::(l.take w).reverse:=by have hw':w<l.length:=hw;rw[List.take_succ_eq_append_getElem hw',List.reverse_append,List.getD_eq_getElem?_getD,List.getElem?_eq_getElem hw'];rfl
  rw[e];rw[List.append_assoc] at O3;exact O3
theorem Adh (hG:Gns E) {g:Gr} (hok:g.ok=true) (hL:g.bulk≤L) (hL2:20100≤L) {to:Nat} (hto:to<g.states.length):PtC E (L+1) (n+2) 50 g to:=fun h kc hk=>by
 obtain ⟨h1,h2,h3,h4,h5,h6⟩:=Gr.ok_parts hok;have hbb:g.states.length+BH g.states+g.init.length+2*g.edges.length≤L:=hL;have l3:=g.cells_length;have K0:Ae h (h.upd (nxt h) (.cells g.cells)).bump:=kO;have hlev:=Gr.lv_le hok to;rw[Ag hG.f1050,wc,rI,YX,YW,YV,YU,YT,YS,YR];refine Sst (J2 @Ax l3) ?_;refine Ac8 hG (L:=L) (n:=n) hok hL _ _ (fun h1 bl K1 m1 b1 b2=>?_);have K01:=K0.trans K1;have mg:blk h1 (nxt h)=.cells g.cells:=(K1.old _ tN).trans Af;have nb1:=K1.nx;simp only[nB] at nb1;refine Sst (J4 @GB @Dk @Ad @Nat.zero_add) ?_;have k4:Ae h1 (h1.upd (nxt h1) (.cells [vI to])).bump:=(Ae.refl h1).new _;refine Sz (bg:=nxt h) (bl:=bl) (g:=g) hok tO (h0:=h1) tO mg b2 m1 (g.lv.getD to 0) to _ _ _ [nxt h1] (.sl (nxt h1) 0 1 1 0) [] rfl hto tO (by show 0+_≤_;omega) ⟨k4,?_,fun b hb=>by rw[List.mem_singleton.1 hb];exact Nat.le_refl _⟩ Af Af Af Af (fun t2 h2 o2 s2 O2 u6=>?_)
 ·unfold Slz;exact .row (nxt h1) 1 1 _ [] (by rw[An,AE];rfl) rfl rfl (Nat.le_refl _) tO tN
 rw[List.nil_append] at O2;have hlen:=Lo g.lv g.edges (g.lv.getD to 0) to;have ln:=fun {h1:Hp} {c:KV}=>EF O2.S (h1:=h1) (c:=c);have w2:Am .i64 (Int.sub (.ofNat (bkw g.lv g.edges (g.lv.getD to 0) to).length) (.ofNat 1))=dec (bkw g.lv g.edges (g.lv.getD to 0) to).length:=Bi tO;refine Sst (J4 u6 @ln w2 @Ad) ?_;refine Sy O2.S tO _ _ _ h2 [] .nils [] (Nat.le_refl _) tO (by show 0+_≤_;omega) ⟨.refl _,Sl.nil,fun b hb=>(nomatch hb)⟩ (Ssc u6) Af Af (fun t3 h3 o3 s3 O3 v10=>?_);refine Sst v10 ?_;refine hk h3 o3 s3 ⟨(K01.trans O2.kp).trans O3.kp,?_,fun b hb=>by have:=O3.own b hb;have:=O2.kp.nx;have:=K01.nx;omega⟩;have e:(bkw g.lv g.edges (g.lv.getD to 0) to).take (bkw g.lv g.edges (g.lv.getD to 0) to).length=bkw g.lv g.edges (g.lv.getD to 0) to:=List.take_length;have S3:=O3.S;rw[e,List.nil_append] at S3;exact S3
end
end Go.AJ
