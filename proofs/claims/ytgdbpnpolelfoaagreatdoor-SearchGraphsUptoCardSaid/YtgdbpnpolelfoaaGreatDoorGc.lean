/- Next and runs. -/
import Derived.Test.YtgdbpnpolelfoaaGreatDoorGb
set_option linter.all false
namespace Go.AJ
open Go
set_option maxRecDepth 100000
def nxs (fr:Nat):List (Int×Int)→List Nat
 | []=> []
 |e::r=>if Aq e.1 (.ofNat fr)=true then e.2.toNat::nxs fr r else nxs fr r
section
variable {E:Env} {L n:Nat} {h:Hp} {kc:KC} {t:T V} {d:Dc} {k:KE} {fi:FI} {c:KV} {C:As}
theorem SX {g:Gr} {nn fr:Nat} (hlen:g.edges.length≤100000) (hed:∀e∈g.edges,∃a b:Nat,e=(.ofNat a,.ofNat b)∧a<nn∧b<nn) {h0:Hp}:
  ∀(r:List (Int×Int)) (i M:Nat) (t:T V) (h:Hp) (o:List K) (s:V) (l:List Nat),g.edges.drop i=r→i+r.length=g.edges.length→r.length+1≤M→l.length≤i→Ot h0 h o s l→
  tg 1 t=vI fr→tg 6 t=s→tg 22 t=slR g.eb g.ec (Dq g.edges) g.edges.length→tg 23 t=vI g.edges.length→tg 24 t=vI i→
  (∀t1 h1 o1 s1,Ot h0 h1 o1 s1 (l++nxs fr r)→tg 6 t1=s1→k (.exit 0) t1 d h1=true)→
  iter (exec C L fi Mm) M t d h k=true:=by
 intro r;induction r with
 |nil=>intro i M t h o s l hr hi hM hl O g1 g6 g22 g23 g24 hk;obtain ⟨M,rfl⟩:=pM M;simp only[List.length_nil] at hi;have hi':(i<g.edges.length)=False:=eF;rw[Ab,Mm];refine Tst (J3 g23 g24 hi') ?_;refine hk _ _ o s ?_ (Ssc g6);rw[nxs,List.append_nil];exact O
 |cons e r ih=>
  intro i M t h o s l hr hi hM hl O g1 g6 g22 g23 g24 hk;obtain ⟨M,rfl⟩:=pM M;simp only[List.length_cons] at hi hM;have hi':(i<g.edges.length)=True:=eT;obtain ⟨x,y,rfl,hx,hy⟩:=hed e (List.mem_of_getElem? (Ak hr));have e1:=fun c h=>Ch (c:=c) (h:=h) (Bm (Ak hr)) rfl;simp only at e1;have w1:=wA i;have e3:∀(h:Hp) (c:KV),ldB (.cells [vI x,vI y]) 0 h c=c (vI x) h:=fun h c=>BS rfl;have e4:∀(h:Hp) (c:KV),ldB (.cells [vI x,vI y]) 1 h c=c (vI y) h:=fun h c=>BS rfl;have k4:Ae h (h.upd (nxt h) (.cells [vI x,vI y])).bump:=(Ae.refl h).new _;rw[nxs] at hk;simp only[show (Int.ofNat y).toNat=y from rfl] at hk;rw[Ab,Mm];cases c1:Aq (.ofNat x) (.ofNat fr)
  ·rw[c1,if_neg (by simp)] at hk;refine Tst (J12 g1 g6 g22 g23 g24 hi' e1 @Bu @AX e3 c1 w1) ?_;exact ih (i+1) M _ _ o s l (Ai hr) tO tO tO (O.keeps k4) (Ssc g1) (Ssc g6) (Ssc g22) (Ssc g23) Af hk
  ·rw[c1,if_pos rfl] at hk;refine Tst (J14 g1 g6 g22 g23 g24 hi' e1 @Bu @AX e3 e4 c1 @GB @Dk) ?_;refine Mp (x:=y) (h:=(h.upd (nxt h) (.cells [vI x,vI y])).bump) ?_ ?_ (O.S.keep (fun b hb=>k4.old b (O.S.lt b hb)) k4.nx) tO (fun o1 s1 h1 S1 w2=>?_)
   ·simp only[Ay,Ap]
   ·simp only[CT]
   have O1:=(O.keeps k4).wr w2 S1;refine Tst (J6 g1 g22 g23 g24 w1 c1) ?_;refine ih (i+1) M _ h1 o1 s1 (l++ [y]) (Ai hr) tO tO (by simp;omega) O1 (Ssc g1) Af (Ssc g22) (Ssc g23) Af (fun t2 h2 o2 s2 O2 v=>hk t2 h2 o2 s2 ?_ v);rw[List.append_assoc] at O2;exact O2
theorem SV {g:Gr} {bg:K} {nn fr:Nat} (hlen:g.edges.length≤100000) (hed:∀e∈g.edges,∃a b:Nat,e=(.ofNat a,.ofNat b)∧a<nn∧b<nn) {h0:Hp} (ng:bg.num<(nxt h0).num) (mg:blk h0 bg=.cells g.cells):
  ∀(r:List (Int×Int)) (i M:Nat) (t:T V) (h:Hp) (o:List K) (s:V) (l:List Nat),g.edges.drop i=r→i+r.length=g.edges.length→r.length+1≤M→l.length≤i→Ot h0 h o s l→
  tg 1 t=vI fr→tg 2 t=.ptr bg 0→tg 6 t=s→tg 7 t=vI i→
  (∀t1 h1 o1 s1,Ot h0 h1 o1 s1 (l++nxs fr r)→tg 6 t1=s1→k (.exit 0) t1 d h1=true)→
  iter (exec C L fi Ml) M t d h k=true:=by
 intro r;induction r with
 |nil=>intro i M t h o s l hr hi hM hl O g1 g2 g6 g7 hk;obtain ⟨M,rfl⟩:=pM M;simp only[List.length_nil] at hi;have hi':(i<g.edges.length)=False:=eF;have mgh:=(O.kp.old bg ng).trans mg;rw[Ab,Ml];refine Tst (J5 g2 g7 hi' mgh @Gr.ld2) ?_;refine hk _ _ o s ?_ (Ssc g6);rw[nxs,List.append_nil];exact O
 |cons e r ih=>
  intro i M t h o s l hr hi hM hl O g1 g2 g6 g7 hk;obtain ⟨M,rfl⟩:=pM M;simp only[List.length_cons] at hi hM;have hi':(i<g.edges.length)=True:=eT;have mgh:=(O.kp.old bg ng).trans mg;obtain ⟨x,y,rfl,hx,hy⟩:=hed e (List.mem_of_getElem? (Ak hr));have e1:=fun c h=>Ab2 (c:=c) (h:=h) (Ak hr);have e2:=fun c h=>Ab1 (c:=c) (h:=h) (Ak hr);simp only at e1 e2;have w1:=wA i;rw[nxs] at hk;simp only[show (Int.ofNat y).toNat=y from rfl] at hk;rw[Ab,Ml];cases c1:Aq (.ofNat x) (.ofNat fr)
  ·rw[c1,if_neg (by simp)] at hk;refine Tst (J10 g1 g2 g6 g7 hi' mgh @Gr.ld2 e1 c1 (J2 w1 @Nat.add_zero)) ?_;exact ih (i+1) M _ _ o s l (Ai hr) tO tO tO O (Ssc g1) (Ssc g2) (Ssc g6) Af hk
  ·rw[c1,if_pos rfl] at hk;refine Tst (J13 g1 g2 g6 g7 hi' mgh @Gr.ld2 e1 e2 c1 @Nat.add_zero @GB @Dk) ?_;refine Mp (x:=y) (h:=h) rfl rfl O.S tO (fun o1 s1 h1 S1 w2=>?_);have O1:=O.wr w2 S1;refine Tst (J5 g1 g2 g7 w1 c1) ?_;refine ih (i+1) M _ h1 o1 s1 (l++ [y]) (Ai hr) tO tO (by simp;omega) O1 (Ssc g1) (Ssc g2) Af Af (fun t2 h2 o2 s2 O2 v=>hk t2 h2 o2 s2 ?_ v);rw[List.append_assoc] at O2;exact O2
/-- What Next returns. -/
def NxC (E:Env) (L n i:Nat) (g:Gr) (fr:Int):Prop:=∀(h:Hp) (kc:KC),
  (g.ok=false→∀h1,Ae h h1→kc (.ret (.tup [.nils,vI 230])) none h1=true)→
  (g.ok=true→Cq g.states.length fr=true→∀h1,Ae h h1→kc (.ret (.tup [.nils,vI 1])) none h1=true)→
  (g.ok=true→∀a:Nat,fr=.ofNat a→a<g.states.length→∀h1 o s,Ot h h1 o s (nxs a g.edges)→kc (.ret (.tup [s,vI 0])) none h1=true)→
  call E L n (.fn i) [.agg g.cells,.int .i64 fr] none h kc=true
theorem Aad (hG:Gns E) {g:Gr} {fr:Int} (hc:OkC E (L+1) n 46 g) (hL:g.bulk≤L):NxC E (L+1) (n+1) 14 g fr:=fun h kc hbad harg hk=>by
 have hbb:g.states.length+BH g.states+g.init.length+2*g.edges.length≤L:=hL;have l3:=g.cells_length;have K0:Ae h (h.upd (nxt h) (.cells g.cells)).bump:=kO;rw[Ag hG.f1014,wu,rT,ai,ah,ag,ae,ad,aa];refine Sst (J2 @Ax l3) ?_;refine hc _ _ (fun h1 K1=>?_);have K01:=K0.trans K1;have m1:blk h1 (nxt h)=.cells g.cells:=(K1.old _ tN).trans Af;cases hok:g.ok
 ·refine AV ?_;exact hbad hok h1 K01
 obtain ⟨h1',h2',h3',h4',h5',h6'⟩:=Gr.ok_parts hok;cases c1:ltI fr (.ofNat 0)
 ·cases c2:ltI fr (.ofNat g.states.length)
  ·refine Sst (J4 m1 @Gr.ld0 c1 c2) ?_;exact harg hok (by rw[Cq,c1,c2];rfl) h1 K01
  ·obtain ⟨a,rfl,ha⟩:=Km (nn:=g.states.length) (x:=fr) (by rw[Cq,c1,c2];rfl);have hz:(a<0)=False:=eF;have hn:(a<g.states.length)=True:=eT;refine Tst (J6 m1 @Gr.ld0 @Gr.ld2 hz hn @Ad) ?_;refine SX (g:=g) (fr:=a) h2' (Df _ h6') (h0:=h1) g.edges 0 _ _ h1 [] .nils [] rfl tO tO (Nat.le_refl _) ⟨.refl _,Sl.nil,fun b hb=>(nomatch hb)⟩ Af Af Af Af Af (fun t2 h2 o s O u6=>?_);refine Sst u6 ?_;exact hk hok a rfl ha h2 o s ⟨K01.trans O.kp,O.S,fun b hb=>by have:=O.own b hb;have:=K01.nx;omega⟩
 ·refine Sst c1 ?_;exact harg hok (by rw[Cq,c1];rfl) h1 K01
theorem Aac (hG:Gns E) {g:Gr} {fr:Int} (hc:OkC E (L+1) n 24 g) (hL:g.bulk≤L):NxC E (L+1) (n+1) 15 g fr:=fun h kc hbad harg hk=>by
 have hbb:g.states.length+BH g.states+g.init.length+2*g.edges.length≤L:=hL;have l3:=g.cells_length;have K0:Ae h (h.upd (nxt h) (.cells g.cells)).bump:=kO;rw[Ag hG.f1015,wq,rS,Z8,Z7,Z2,Z1,Z0,ZZ];refine Sst (J2 @Ax l3) ?_;refine hc _ _ (fun h1 K1=>?_);have K01:=K0.trans K1;have nb1:=K1.nx;simp only[nB] at nb1;have m1:blk h1 (nxt h)=.cells g.cells:=(K1.old _ tN).trans Af;cases hok:g.ok
 ·refine AV ?_;exact hbad hok h1 K01
 obtain ⟨h1',h2',h3',h4',h5',h6'⟩:=Gr.ok_parts hok;cases c1:ltI fr (.ofNat 0)
 ·cases c2:ltI fr (.ofNat g.states.length)
  ·refine Sst (J4 m1 @Gr.ld0 c1 c2) ?_;exact harg hok (by rw[Cq,c1,c2];rfl) h1 K01
  ·obtain ⟨a,rfl,ha⟩:=Km (nn:=g.states.length) (x:=fr) (by rw[Cq,c1,c2];rfl);have hz:(a<0)=False:=eF;have hn:(a<g.states.length)=True:=eT;refine Tst (J6 m1 @Gr.ld0 @Gr.ld2 hz hn @Ad) ?_;refine SV (g:=g) (bg:=nxt h) (fr:=a) h2' (Df _ h6') (h0:=h1) tO m1 g.edges 0 _ _ h1 [] .nils [] rfl tO tO (Nat.le_refl _) ⟨.refl _,Sl.nil,fun b hb=>(nomatch hb)⟩ Af Af Af Af (fun t2 h2 o s O u6=>?_);refine Sst u6 ?_;exact hk hok a rfl ha h2 o s ⟨K01.trans O.kp,O.S,fun b hb=>by have:=O.own b hb;have:=K01.nx;omega⟩
 ·refine Sst c1 ?_;exact harg hok (by rw[Cq,c1];rfl) h1 K01
end
end Go.AJ
namespace Go.AJ
open Go
set_option maxRecDepth 100000
section
variable {E:Env} {L n:Nat} {h:Hp} {kc:KC} {t:T V} {d:Dc} {k:KE} {fi:FI} {c:KV} {C:As}
theorem zh:Gz t [] [] 0 h c=c (.sl (nxt h) 0 0 0 0) (h.upd (nxt h) (.cells [])).bump:=tp (z':= []) (fun f=>rfl)
theorem P8 {z v:V} (hv:flat v=true):mk1 z v h c=c (.sl (nxt h) 0 1 1 0) (h.upd (nxt h) (.cells [v])).bump:=by show Ba v (fun q=>BP q 1 (AN 0 [z] q fun z'=>Bw h (.cells z') fun b h'=>c (.sl b 0 1 1 0) h'))=_;rw[Bz hv];show Bw h (.cells [v]) (fun b h'=>c (.sl b 0 1 1 0) h')=_;rw[Ar]
theorem dJ {z v:V} {bb:K} (hv:flat v=true):zO v z h (.sl bb 0 1 1 0)=FL (blk h bb) [v]:=by simp only[zO,Nat.beq_refl,Bz hv,BP,AN,Hr,EP]
theorem Aap {v:V} (hv:flat v=true):FL (.cells [v]) [v]=true:=EQ (by simp [hv])
/-- slices.Clone of a state. -/
theorem zY (hG:Gns E) {s:St} (hs:s.l.length≤8000000) (hk:∀h1 o p,Ae h h1→Sl h1 7 o p s.l.length (AC s.l)→(∀b∈o,(nxt h).num≤b.num)→kc (.ret p) none h1=true):
  call E (L+1) (n+1) (.fn 51) [s.cell] none h kc=true:=by
 obtain ⟨b,cp,l⟩:=s;simp only[St.cell] at hs hk⊢;rw[Ag hG.f1051,wb,rH,YQ,YP,YO];by_cases hb:b=true∧l.length=0
 ·have e1:slR b cp (AC l) l.length=.nils:=if_pos hb;have e2:∀(h:Hp) (c:KV),oEq false .sl .nils .nils h c=c (.bool true) h:=fun _ _=>rfl;have hl:l= []:=List.length_eq_zero_iff.1 hb.2;subst hl;refine Sst (J2 e1 e2) ?_;exact hk h [] .nils (.refl h) Sl.nil (fun b hb=>(nomatch hb))
 ·have e1:slR b cp (AC l) l.length=.rsl (AC l) 0 l.length cp:=if_neg hb;have e2:∀(h:Hp) (c:KV),oEq false .sl (.rsl (AC l) 0 l.length cp) .nils h c=c (.bool false) h:=fun _ _=>rfl;have e3:=fun (f:Nat→List V→Bool) (h:Hp)=>NB (h:=h) (b:=b) (cp:=cp) (l:=l) f;rw[e1] at e3⊢;refine Sst (J2 e2 @zh) ?_;refine Gg (h:=(h.upd (nxt h) (.cells [])).bump) (sz:=6) (n:=0) (o:= [nxt h]) (q:= []) (.row (nxt h) 0 0 [] [] Af rfl rfl (Nat.le_refl _) tO tN) (new:=AC l) (m:=l.length) (fun f=>e3 f _) (Cs l) rfl tO (fun o' s' h' S w=>?_);rw[Nat.zero_add,List.nil_append] at S;refine AV ?_;have nx:=w.nx;simp only[nB] at nx;refine hk h' o' s' ⟨by omega,fun c hc=>?_⟩ S (fun b hb=>?_)
  ·rw[w.old c tN (by simp only[List.mem_singleton];exact fun e=>by rw[e] at hc;omega)];rw[An,Cc tO]
  ·rcases w.new b hb with q|q
   ·rw[List.mem_singleton.1 q];exact Nat.le_refl _
   ·simp only[nB] at q;omega
theorem Aar {o:List K} {sv p:V} {l:List V} {kv:KV} {bn:K} {H:Hp} (en:bn=nxt h) (eH:H=(h.upd bn (.cells [p])).bump) (S:Sl h 1 o sv l.length l) (hp:l.length≤1000000)
  (hk:∀o' s' h',Sl h' 1 o' s' (l++ [p]).length (l++ [p])→Wr o h o' h'→kv s' h'=true):
  eQ (some [.nils]) sv (.sl bn 0 1 1 0) 1 24 H kv=true:=by
 subst en eH;have k4:Ae h (h.upd (nxt h) (.cells [p])).bump:=(Ae.refl h).new _;have e4:blk (h.upd (nxt h) (.cells [p])).bump (nxt h)=.cells [p]:=by rw[An,AE]
 refine Gg (sz:=0) (Sl.keeps S k4) (new:= [p]) (m:=1) (fun f=>?_) rfl rfl tO (fun o5 s5 h5 S5 w5=>?_)
 ·exact DK (q:= [p]) (f:=fun l=>f 1 l) e4 rfl rfl
 refine hk o5 s5 h5 ?_ ((k4.wr o).trans w5);rw[List.length_append];exact S5
/-- A list of states that was begun behind a heap. -/
structure Rt (h0 h:Hp) (o:List K) (v:V) (ps:List V) (ls:List (List Va)):Prop where
 kp:Ae h0 h
 S:Sl h 1 o v ps.length ps
 own:∀b∈o,(nxt h0).num≤b.num
 len:ps.length=ls.length
 el:∀{i:Nat} {p:V} {l:List Va},ps[i]? =some p→ls[i]? =some l→Fs h p l∧∀h',Ac o h h'→Fs h' p l
theorem Rt.ss {h0 h:Hp} {o:List K} {v:V} {ps:List V} {ls:List (List Va)} (R:Rt h0 h o v ps ls):Ss h v ls:=Ss.ofE (Es.ofS R.S) R.len fun hp hx=>(R.el hp hx).1
theorem Rt.nil (h:Hp):Rt h h [] .nils [] []:=⟨.refl h,Sl.nil,fun b hb=>(nomatch hb),rfl,fun hp=>by simp at hp⟩
theorem Rt.keeps {h0 h h1:Hp} {o:List K} {v:V} {ps:List V} {ls:List (List Va)} (R:Rt h0 h o v ps ls) (K:Ae h h1):Rt h0 h1 o v ps ls:=
 ⟨R.kp.trans K,R.S.keeps K,R.own,R.len,fun hp hx=>⟨(R.el hp hx).2 h1 K.but,fun h' K'=>(R.el hp hx).2 h' (K.but.trans K')⟩⟩
/-- One more state: it may be read in memory of its own, which the list does not write. -/
theorem Rt.wr {h0 h h1:Hp} {o o':List K} {v v' p:V} {ps:List V} {ls:List (List Va)} {l:List Va} (R:Rt h0 h o v ps ls) (w:Wr o h o' h1) (S:Sl h1 1 o' v' (ps++ [p]).length (ps++ [p])) (hp:∀h',(∀b,b.num<(nxt h).num→b∉o→blk h' b=blk h b)→(nxt h).num≤(nxt h').num→Fs h' p l):Rt h0 h1 o' v' (ps++ [p]) (ls++ [l]):=by
 have old:∀h',Ac o' h1 h'→(∀b,b.num<(nxt h).num→b∉o→blk h' b=blk h b)∧(nxt h).num≤(nxt h').num:=fun h' K'=>by
  refine ⟨fun b hb hbo=>?_,Nat.le_trans w.nx K'.nx⟩;rw[K'.old b (Nat.lt_of_lt_of_le hb w.nx) (fun q=>?_),w.old b hb hbo];rcases w.new b q with z|z
  ·exact hbo z
  ·omega
 have e:∀h',Ac o' h1 h'→Ac o h h':=fun h' K'=>⟨(old h' K').2,(old h' K').1⟩
 refine ⟨⟨Nat.le_trans R.kp.nx w.nx,fun b hb=>(w.old b (Nat.lt_of_lt_of_le hb R.kp.nx) (fun q=>by have:=R.own b q;omega)).trans (R.kp.old b hb)⟩,S,fun b hb=>?_,by simp [R.len],fun {i q x} hq hx=>?_⟩
 ·rcases w.new b hb with q|q
  ·exact R.own b q
  ·have:=R.kp.nx;omega
 ·have F:∀h',Ac o' h1 h'→Fs h' q x:=fun h' K'=>by
   rcases Nat.lt_or_ge i ps.length with hi|hi
   ·rw[List.getElem?_append_left hi] at hq;rw[List.getElem?_append_left (by rw[←R.len];exact hi)] at hx;exact (R.el hq hx).2 h' (e h' K')
   ·have hi2:=DE hq;rw[List.length_append,List.length_singleton] at hi2;have ei:i=ps.length:=tO;subst ei;rw[List.getElem?_append_right (Nat.le_refl _),Nat.sub_self] at hq;rw[R.len,List.getElem?_append_right (Nat.le_refl _),Nat.sub_self] at hx;simp at hq hx;subst hq hx;exact hp h' (old h' K').1 (old h' K').2
  exact ⟨F h1 (.refl _ _),F⟩
end
end Go.AJ
namespace Go.AJ
open Go
set_option maxRecDepth 100000
def Gr.stl (g:Gr) (x:Nat):List Va:=((g.states[x]?).map St.l).getD []
theorem pG {g:Gr} (hok:g.ok=true):∀(w to:Nat),g.lv.getD to 0=w→to<g.states.length→∀x∈bkw g.lv g.edges w to,x<g.states.length
 |0,to,_,hto,x,hx=>by rw[bkw,List.mem_singleton] at hx;omega
 |w+1,to,hw,hto,x,hx=>by
  obtain ⟨a,ha,han,hav⟩:=Gr.pre_ok hok hto hw;rw[bkw,ha,Option.getD_some,List.mem_cons] at hx;rcases hx with rfl|hx
  ·exact hto
  ·exact pG hok w a hav han x hx
theorem Gr.path_lt {g:Gr} (hok:g.ok=true) {to:Nat} (hto:to<g.states.length):∀x∈g.path to,x<g.states.length:=fun x hx=>by rw[Gr.path,List.mem_reverse] at hx;exact pG hok _ to rfl hto x hx
theorem Gr.path_len {g:Gr} (hok:g.ok=true) (to:Nat):(g.path to).length≤20001:=by rw[Gr.path,List.length_reverse,Lo];have:=Gr.lv_le hok to;omega
section
variable {E:Env} {L n:Nat} {h:Hp} {kc:KC} {t:T V} {d:Dc} {k:KE} {fi:FI} {c:KV} {C:As}
theorem AbB {x:X} {dst:Option K} {ks:KS} {kp:KP}:Bd C (.mvh x) dst t d h ks kp=kv dst t d ks (ev t x) h:=rfl
theorem SZ (hG:Gns E) {g:Gr} {bg:K} {hB:Hp} (nl:bg.num<(nxt hB).num) (mg:blk hB bg=.cells g.cells) {ob:List K} {sb:V} {pt:List Nat} (SB:Slz hB ob sb pt) (hpl:pt.length≤20001) (hlt:∀x∈pt,x<g.states.length) (hst:∀s∈g.states,s.l.length≤8000000):
  ∀(r:List Nat) (i M:Nat) (t:T V) (h:Hp) (o:List K) (v:V) (ps:List V) (ls:List (List Va)),pt.drop i=r→i+r.length=pt.length→r.length+1≤M→ps.length≤i→Rt hB h o v ps ls→
  tg 2 t=.ptr bg 0→tg 8 t=v→tg 20 t=sb→tg 21 t=vI pt.length→tg 22 t=vI i→
  (∀t1 h1 o1 v1 ps1,Rt hB h1 o1 v1 ps1 (ls++r.map g.stl)→tg 8 t1=v1→k (.exit 0) t1 d h1=true)→
  iter (exec (call E (L+1) (n+1)) (L+1) fi Mo) M t d h k=true:=by
 intro r;induction r with
 |nil=>intro i M t h o v ps ls hr hi hM hl R g2 g8 g20 g21 g22 hk;obtain ⟨M,rfl⟩:=pM M;simp only[List.length_nil] at hi;have hi':(i<pt.length)=False:=eF;rw[Ab,Mo];refine Tst (J3 g21 g22 hi') ?_;refine hk _ _ o v ps ?_ (Ssc g8);rw[List.map_nil,List.append_nil];exact R
 |cons x r ih=>
  intro i M t h o v ps ls hr hi hM hl R g2 g8 g20 g21 g22 hk;obtain ⟨M,rfl⟩:=pM M;simp only[List.length_cons] at hi hM;have hi2:i<pt.length:=tO;have hi':(i<pt.length)=True:=eq_true hi2;have hx:=hlt x (List.mem_of_getElem? (Ak hr));have hxd:pt.getD i 0=x:=by rw[List.getD_eq_getElem?_getD,Ak hr];rfl
  obtain ⟨b,hob,i1,i2⟩:=GE SB hi2;have hb:=SB.lt b (by rw[hob];simp);have i3:=fun c=>i2 h c (R.kp.old b hb);rw[hxd] at i3;have mgh:=(R.kp.old bg nl).trans mg;obtain ⟨s,hs⟩:∃s,g.states[x]? =some s:=⟨_,List.getElem?_eq_getElem hx⟩
  have e1:=fun c h=>AM (c:=c) (h:=h) (BX hs);have hsl:g.stl x=s.l:=by rw[Gr.stl,hs];rfl
  have w1:=wA i;rw[Ab,Mo];refine Tst (J13 g2 g8 g20 g21 g22 hi' i1 i3 mgh @Gr.ld0 hx e1 @Nat.mul_one) ?_;refine zY hG (L:=L) (n:=n) (hst s (List.mem_of_getElem? hs)) (fun h1 op p K1 Sp own=>?_);have fp:=Sp.flat;have R1:=R.keeps K1;refine Tst (J3 g8 @GB @P8) ?_;refine Aar (p:=p) (h:=h1) rfl rfl R1.S tO (fun o2 s2 h2 S2 w2=>?_);have R2:=R1.wr (p:=p) (l:=s.l) w2 S2 (fun h' ho hn=>Fs.ofS (Sp.keep (fun c hc=>ho c (Sp.lt c hc) (fun q=>by have:=own c hc;have:=R.S.lt c q;omega)) hn));refine Tst (J5 g2 g20 g21 g22 w1) ?_;refine ih (i+1) M _ h2 o2 s2 (ps++ [p]) (ls++ [s.l]) (Ai hr) tO tO (by simp;omega) R2 (Ssc g2) Af (Ssc g20) (Ssc g21) Af (fun t3 h3 o3 v3 ps3 R3 v8=>hk t3 h3 o3 v3 ps3 ?_ v8);rw[List.append_assoc] at R3;rw[List.map_cons,hsl];exact R3
theorem SY {g:Gr} {bg:K} {hB:Hp} (nl:bg.num<(nxt hB).num) (mg:blk hB bg=.cells g.cells) {ob:List K} {sb:V} {pt:List Nat} (SB:Slz hB ob sb pt) (hpl:pt.length≤20001) (hlt:∀x∈pt,x<g.states.length):
  ∀(r:List Nat) (i M:Nat) (t:T V) (h:Hp) (o:List K) (v:V) (ps:List V) (ls:List (List Va)),pt.drop i=r→i+r.length=pt.length→r.length+1≤M→ps.length≤i→Rt hB h o v ps ls→
  tg 2 t=.ptr bg 0→tg 6 t=sb→tg 8 t=v→tg 9 t=vI i→
  (∀t1 h1 o1 v1 ps1,Rt hB h1 o1 v1 ps1 (ls++r.map g.stl)→tg 8 t1=v1→k (.exit 0) t1 d h1=true)→
  iter (exec C L fi Mn) M t d h k=true:=by
 have ln:=fun {h1:Hp} {c:KV}=>EF SB (h1:=h1) (c:=c);have fsb:flat sb=true:=Sl.flat SB;intro r;induction r with
 |nil=>intro i M t h o v ps ls hr hi hM hl R g2 g6 g8 g9 hk;obtain ⟨M,rfl⟩:=pM M;simp only[List.length_nil] at hi;have hi':(i<pt.length)=False:=eF;rw[Ab,Mn];refine Tst (J4 g6 g9 hi' @ln) ?_;refine hk _ _ o v ps ?_ (Ssc g8);rw[List.map_nil,List.append_nil];exact R
 |cons x r ih=>
  intro i M t h o v ps ls hr hi hM hl R g2 g6 g8 g9 hk;obtain ⟨M,rfl⟩:=pM M;simp only[List.length_cons] at hi hM;have hi2:i<pt.length:=tO;have hi':(i<pt.length)=True:=eq_true hi2;have hx:=hlt x (List.mem_of_getElem? (Ak hr));have hxd:pt.getD i 0=x:=by rw[List.getD_eq_getElem?_getD,Ak hr];rfl
  obtain ⟨b,hob,i1,i2⟩:=GE SB hi2;have hb:=SB.lt b (by rw[hob];simp);have i3:=fun c=>i2 h c (R.kp.old b hb);have k4:∀q,Ae h (h.upd (nxt h) (.cells q)).bump:=fun q=>(Ae.refl h).new _;have i4:=fun q c=>i2 (h.upd (nxt h) (.cells q)).bump c (((k4 q).old b (Nat.lt_of_lt_of_le hb R.kp.nx)).trans (R.kp.old b hb));rw[hxd] at i3 i4;have mgh:=(R.kp.old bg nl).trans mg;have nlh:=Nat.lt_of_lt_of_le nl R.kp.nx;obtain ⟨s,hs⟩:∃s,g.states[x]? =some s:=⟨_,List.getElem?_eq_getElem hx⟩
  have e1:=fun c h=>AM (c:=c) (h:=h) (BX hs);have hsl:g.stl x=s.l:=by rw[Gr.stl,hs];rfl
  have fs:flat s.cell=true:=EM s;have fv:flat v=true:=R.S.flat;have w1:=wA i;rw[Ab,Mn];refine Tst (J14 g2 g6 g8 g9 hi' @ln i1 i3 i4 mgh @Gr.ld0 hx e1 (J8 @Nat.mul_one @AP @GB @P8 @M8 @dJ @Aap @Gp)) ?_;refine Aar (p:=s.cell) (h:=h) rfl rfl R.S tO (fun o2 s2 h2 S2 w2=>?_);have R2:=R.wr (p:=s.cell) (l:=s.l) w2 S2 (fun h' ho hn=>Fs.ofR);refine Tst (J5 g2 g6 g9 w1 @AbB) ?_;refine ih (i+1) M _ h2 o2 s2 (ps++ [s.cell]) (ls++ [s.l]) (Ai hr) tO tO (by simp;omega) R2 (Ssc g2) (Ssc g6) Af Af (fun t3 h3 o3 v3 ps3 R3 v8=>hk t3 h3 o3 v3 ps3 ?_ v8);rw[List.append_assoc] at R3;rw[List.map_cons,hsl];exact R3
/-- What Run returns: a list of states that can be read. -/
def RnC (E:Env) (L n i:Nat) (g:Gr) (to:Int):Prop:=∀(h:Hp) (kc:KC),
  (g.ok=false→∀h1,Ae h h1→kc (.ret (.tup [.nils,vI 230])) none h1=true)→
  (g.ok=true→Cq g.states.length to=true→∀h1,Ae h h1→kc (.ret (.tup [.nils,vI 1])) none h1=true)→
  (g.ok=true→∀a:Nat,to=.ofNat a→a<g.states.length→∀h1 v,Ae h h1→Ss h1 v ((g.path a).map g.stl)→kc (.ret (.tup [v,vI 0])) none h1=true)→
  call E L n (.fn i) [.agg g.cells,.int .i64 to] none h kc=true
theorem Aaf (hG:Gns E) {g:Gr} {to:Int} (hc:OkC E (L+1) n 46 g) (hp:g.ok=true→∀a:Nat,to=.ofNat a→a<g.states.length→PtC E (L+1) n 49 g a) (hL:20100≤L) (hst:∀s∈g.states,s.l.length≤8000000):RnC E (L+1) (n+2) 12 g to:=fun h kc hbad harg hk=>by
 have l3:=g.cells_length;have K0:Ae h (h.upd (nxt h) (.cells g.cells)).bump:=kO;rw[Ag hG.f1012,wx,rV,aB,aA,az,ay,ax,aw];refine Sst (J2 @Ax l3) ?_;refine dZ hc hp hG.f1010 (fun hok h1 K1=>?_) (fun hok ho h1 K1=>?_) (fun hok a ea ha h1 o s O=>?_)
 ·refine AV ?_;exact hbad hok h1 (K0.trans K1)
 ·refine AV ?_;exact harg hok ho h1 (K0.trans K1)
 ·have m1:blk h1 (nxt h)=.cells g.cells:=(O.kp.old _ tN).trans Af;have nb1:=O.kp.nx;simp only[nB] at nb1;have ln:=fun {h1:Hp} {c:KV}=>EF O.S (h1:=h1) (c:=c);have hpl:=Gr.path_len hok a;refine Sst (J2 @ln @Ad) ?_;refine SZ hG (g:=g) (bg:=nxt h) (hB:=h1) tO m1 O.S hpl (Gr.path_lt hok ha) hst (g.path a) 0 _ _ h1 [] .nils [] [] rfl tO tO (Nat.le_refl _) (Rt.nil h1) Af Af Af Af Af (fun t2 h2 o2 v2 ps2 R2 u8=>?_);rw[List.nil_append] at R2;refine Sst u8 ?_;exact hk hok a ea ha h2 v2 ((K0.trans O.kp).trans R2.kp) R2.ss
theorem Aae (hG:Gns E) {g:Gr} {to:Int} (hc:OkC E (L+1) n 24 g) (hp:g.ok=true→∀a:Nat,to=.ofNat a→a<g.states.length→PtC E (L+1) n 50 g a) (hL:20100≤L):RnC E (L+1) (n+2) 13 g to:=fun h kc hbad harg hk=>by
 have l3:=g.cells_length;have K0:Ae h (h.upd (nxt h) (.cells g.cells)).bump:=kO;rw[Ag hG.f1013,ww,rU,ar,aq,an,am,ak,aj];refine Sst (J2 @Ax l3) ?_;refine dZ hc hp hG.f1011 (fun hok h1 K1=>?_) (fun hok ho h1 K1=>?_) (fun hok a ea ha h1 o s O=>?_)
 ·refine AV ?_;exact hbad hok h1 (K0.trans K1)
 ·refine AV ?_;exact harg hok ho h1 (K0.trans K1)
 ·have m1:blk h1 (nxt h)=.cells g.cells:=(O.kp.old _ tN).trans Af;have nb1:=O.kp.nx;simp only[nB] at nb1;have hpl:=Gr.path_len hok a;refine Sst @Ad ?_;refine SY (g:=g) (bg:=nxt h) (hB:=h1) tO m1 O.S hpl (Gr.path_lt hok ha) (g.path a) 0 _ _ h1 [] .nils [] [] rfl tO tO (Nat.le_refl _) (Rt.nil h1) Af Af Af Af (fun t2 h2 o2 v2 ps2 R2 u8=>?_);rw[List.nil_append] at R2;refine Sst u8 ?_;exact hk hok a ea ha h2 v2 ((K0.trans O.kp).trans R2.kp) R2.ss
end
end Go.AJ
