/- The walk of the law. -/
import Derived.Test.YtgdbpnpolelfoaaGreatDoorGd
set_option linter.all false
namespace Go.AJ
open Go
set_option maxRecDepth 100000
theorem pO:∀{l m:List Nat},l.Pairwise (·<·)→m.Pairwise (·<·)→(∀x,x∈l↔x∈m)→l=m
 | [],[],_,_,_=>rfl
 | [],y::m,_,_,h=>absurd ((h y).2 (by simp)) (by simp)
 |x::l,[],_,_,h=>absurd ((h x).1 (by simp)) (by simp)
 |x::l,y::m,hl,hm,h=>by
  obtain ⟨l1,l2⟩:=List.pairwise_cons.1 hl;obtain ⟨m1,m2⟩:=List.pairwise_cons.1 hm;have e:x=y:=by
   rcases List.mem_cons.1 ((h x).1 (by simp)) with q|q
   ·exact q
   ·rcases List.mem_cons.1 ((h y).2 (by simp)) with q2|q2
    ·exact q2.symm
    ·have:=m1 x q;have:=l1 y q2;omega
  subst e;rw[pO l2 m2 fun z=>⟨fun hz=>?_,fun hz=>?_⟩]
  ·rcases List.mem_cons.1 ((h z).1 (by simp [hz])) with q|q
   ·have:=l1 z hz;omega
   ·exact q
  ·rcases List.mem_cons.1 ((h z).2 (by simp [hz])) with q|q
   ·have:=m1 z hz;omega
   ·exact q
open Classical in
noncomputable def rcL (g:Gr) (f s:List Int):List Nat:=(List.range g.states.length).filter fun x=>decide (g.rg f s x)
open Classical in
theorem qB {g:Gr} {f s:List Int} {inn:List Bool} (h:∀x,inn.getD x false=true↔g.rg f s x):sel inn 0 g.states.length=rcL g f s:=by rw[sel,rcL,List.range_eq_range'];refine List.filter_congr fun x _=>?_;rw[Bool.eq_iff_iff,decide_eq_true_iff];exact h x
open Classical in
theorem xp {g:Gr} {f s:List Int} {l:List Nat} (hs:∀p q,p<q→q<l.length→l.getD p 0<l.getD q 0) (hm:∀x,x∈l↔g.rg f s x) (hl:∀x∈l,x<g.states.length):l=rcL g f s:=by
 refine pO (List.pairwise_iff_getElem.2 fun i j hi hj hij=>?_) ?_ fun x=>?_
 ·have:=hs i j hij hj;rw[List.getD_eq_getElem?_getD,List.getD_eq_getElem?_getD,List.getElem?_eq_getElem hi,List.getElem?_eq_getElem hj] at this;exact this
 ·exact List.Pairwise.filter _ List.pairwise_lt_range
 ·rw[rcL,List.mem_filter,List.mem_range,decide_eq_true_iff];exact ⟨fun h=>⟨hl x h,(hm x).1 h⟩,fun h=>(hm x).2 h.2⟩
/-- A list of numbers and an error. -/
def VC (E:Env) (L n f:Nat) (args:List V) (r:List Int×Int):Prop:=∀(h:Hp) (kc:KC),(∀h1 v,Ae h h1→Zs h1 v r.1→kc (.ret (.tup [v,.int .i64 r.2])) none h1=true)→call E L n (.fn f) args none h kc=true
def SC (E:Env) (L n f:Nat) (args:List V) (r:List (List Va)×Int):Prop:=∀(h:Hp) (kc:KC),(∀h1 v,Ae h h1→Ss h1 v r.1→kc (.ret (.tup [v,.int .i64 r.2])) none h1=true)→call E L n (.fn f) args none h kc=true
def Gr.ans {α:Type} (g:Gr) (b:Bool) (l:List α):List α×Int:=if g.ok=true then (if b=true then ([],.ofNat 1) else (l,.ofNat 0)) else ([],.ofNat 230)
theorem Gi {α:Type} {g:Gr} {b:Bool} {l:List α} (h:g.ok=false):g.ans b l=([],.ofNat 230):=by rw[Gr.ans,h];rfl
theorem FO {α:Type} {g:Gr} {b:Bool} {l:List α} (h:g.ok=true) (hb:b=true):g.ans b l=([],.ofNat 1):=by rw[Gr.ans,h,hb];rfl
theorem Gh {α:Type} {g:Gr} {b:Bool} {l:List α} (h:g.ok=true) (hb:b=false):g.ans b l=(l,.ofNat 0):=by rw[Gr.ans,h,hb];rfl
theorem N6 {nn a:Nat} (h:a<nn):Cq nn (.ofNat a)=false:=by
 have h0:ltI (.ofNat a) (.ofNat 0)=false:=by rw[Aj];exact decide_eq_false (by omega)
 have h1:ltI (.ofNat a) (.ofNat nn)=true:=by rw[Aj];exact decide_eq_true h
 rw[Cq,h0,h1];rfl
theorem Zs.nil {h:Hp}:Zs h .nils []:=Zs.ofS (l:= []) Sl.nil
theorem Ss.nil {h:Hp}:Ss h .nils []:=(Rt.nil h).ss
section
variable {E:Env} {L n:Nat} {h:Hp} {kc:KC} {t:T V} {d:Dc} {k:KE} {fi:FI} {c:KV} {C:As}
theorem vc8 (hE:Fns E) (hL9:L≤9223372036854775800) (hn:181≤n) {g:Gr} (hb:g.bulk≤L) (hb2:g.bulk≤20000000):VC E (L+8) (n+7) 8 [.agg g.cells] (g.ans false (g.lv.map Int.ofNat)):=fun h kc hk=>by
 refine z8 hE hL9 hn hb hb2 (fun hok h1 K1=>?_) (fun hok h1 b K1 m1 _ hb2=>?_)
 ·rw[Gi hok] at hk;exact hk h1 _ K1 Zs.nil
 ·rw[Gh hok rfl] at hk;have:=(Gr.ok_parts hok).1;exact hk h1 _ K1 (Zs.ofB (Gr.lv_length g) m1 hb2 tO)
theorem vc9 (hG:Gns E) {g:Gr} (hc:OkC E (L+1) n 24 g) (hl:g.ok=true→LvC E (L+1) n 48 g):VC E (L+1) (n+1) 9 [.agg g.cells] (g.ans false (g.lv.map Int.ofNat)):=fun h kc hk=>by
 refine Acn hG hc hl (fun hok h1 K1=>?_) (fun hok h1 b K1 m1 _ hb2=>?_)
 ·rw[Gi hok] at hk;exact hk h1 _ K1 Zs.nil
 ·rw[Gh hok rfl] at hk;have:=(Gr.ok_parts hok).1;exact hk h1 _ K1 (Zs.ofB (Gr.lv_length g) m1 hb2 tO)
theorem Ac6 {f q i:Nat} {g:Gr} {to:Int} (hc:OkC E (L+1) n f g) (hp:g.ok=true→∀a:Nat,to=.ofNat a→a<g.states.length→PtC E (L+1) n q g a) (hf:Wf E i (OW f q) NG):VC E (L+1) (n+1) i [.agg g.cells,.int .i64 to] (g.ans (Cq g.states.length to) ((g.path to.toNat).map Int.ofNat)):=fun h kc hk=>by
 refine dZ hc hp hf (fun hok h1 K1=>?_) (fun hok ho h1 K1=>?_) (fun hok a ea ha h1 o s O=>?_)
 ·rw[Gi hok] at hk;exact hk h1 _ K1 Zs.nil
 ·rw[FO hok ho] at hk;exact hk h1 _ K1 Zs.nil
 ·subst ea;rw[Gh hok (N6 ha)] at hk;exact hk h1 _ O.kp (Zs.ofS O.S)
theorem vcN {i:Nat} {g:Gr} {fr:Int} (hx:NxC E L n i g fr):VC E L n i [.agg g.cells,.int .i64 fr] (g.ans (Cq g.states.length fr) ((nxs fr.toNat g.edges).map Int.ofNat)):=fun h kc hk=>by
 refine hx h kc (fun hok h1 K1=>?_) (fun hok ho h1 K1=>?_) (fun hok a ea ha h1 o s O=>?_)
 ·rw[Gi hok] at hk;exact hk h1 _ K1 Zs.nil
 ·rw[FO hok ho] at hk;exact hk h1 _ K1 Zs.nil
 ·subst ea;rw[Gh hok (N6 ha)] at hk;exact hk h1 _ O.kp (Zs.ofS O.S)
theorem scR {i:Nat} {g:Gr} {to:Int} (hx:RnC E L n i g to):SC E L n i [.agg g.cells,.int .i64 to] (g.ans (Cq g.states.length to) ((g.path to.toNat).map g.stl)):=fun h kc hk=>by
 refine hx h kc (fun hok h1 K1=>?_) (fun hok ho h1 K1=>?_) (fun hok a ea ha h1 v K1 S=>?_)
 ·rw[Gi hok] at hk;exact hk h1 _ K1 Ss.nil
 ·rw[FO hok ho] at hk;exact hk h1 _ K1 Ss.nil
 ·subst ea;rw[Gh hok (N6 ha)] at hk;exact hk h1 _ K1 S
theorem Adg (hE:Fns E) (hF:Hns E) (hS:Sns E) (hL9:L≤9223372036854775700) (hLL:110000≤L) {g:Gr} (hn:20200≤n) (hb:g.bulk≤L) (hb2:g.bulk≤20000000) {fb sb:Bool} {fc sc:Nat} {f s:List Int} (hf:f.length≤400) (hs:s.length≤400):VC E (L+8) (n+7) 16 [.agg g.cells,slR fb fc (AH f) f.length,slR sb sc (AH s) s.length] (g.ans (f.any (Cq g.states.length)||s.any (Cq g.states.length)) ((rcL g f s).map Int.ofNat)):=fun h kc hk=>by
 cases hok:g.ok
 ·rw[Gi hok] at hk;have l3:=g.cells_length;have K0:Ae h (h.upd (nxt h) (.cells g.cells)).bump:=kO;rw[Ag hS.f1016,jW,fC,N5,N4];refine Sst (J2 @Ax l3) ?_;refine QA hE (L:=L) (n:=n) tO tO hb hb2 (fun h1 K1=>?_);rw[hok];refine AV ?_;exact hk h1 _ (K0.trans K1) Zs.nil
 ·refine jS hE hF hS hL9 hLL hn hok hb hb2 hf hs (fun ho h1 K1=>?_) (fun hfa hsa h1 o v l K1 S _ _ hsrt hm hlt=>?_)
  ·rw[FO hok ho] at hk;exact hk h1 _ K1 Zs.nil
  ·rw[Gh hok (by rw[hfa,hsa];rfl),←xp hsrt hm hlt] at hk;exact hk h1 _ K1 (Zs.ofS S)
theorem Adf (hG:Gns E) {g:Gr} (hc:OkC E (L+1) (n+1) 24 g) (hb:g.bulk≤L) (hL:120000≤L) {fb sb:Bool} {fc sc:Nat} {f s:List Int} (hf:f.length≤400) (hs:s.length≤400):VC E (L+1) (n+2) 17 [.agg g.cells,slR fb fc (AH f) f.length,slR sb sc (AH s) s.length] (g.ans (f.any (Cq g.states.length)||s.any (Cq g.states.length)) ((rcL g f s).map Int.ofNat)):=fun h kc hk=>by
 refine Aab hG hc hb hL hf hs (fun hok h1 K1=>?_) (fun hok ho h1 K1=>?_) (fun hok hfa hsa h1 o v inn O _ hi=>?_)
 ·rw[Gi hok] at hk;exact hk h1 _ K1 Zs.nil
 ·rw[FO hok ho] at hk;exact hk h1 _ K1 Zs.nil
 ·rw[Gh hok (by rw[hfa,hsa];rfl),←qB hi] at hk;exact hk h1 _ O.kp (Zs.ofS O.S)
end
end Go.AJ
namespace Go.AJ
open Go
set_option maxRecDepth 100000
theorem Gr.flat (g:Gr):∀v∈g.cells,flat v=true:=fun v hv=>by simp only[Gr.cells,List.mem_cons,List.not_mem_nil,or_false] at hv;rcases hv with rfl|rfl|rfl<;>exact CS
theorem IM {α:Type} {g:Gr} {b:Bool} {l:List α} {N:Nat} (h:g.ok=true→l.length≤N):(g.ans b l).1.length≤N:=by
 cases ho:g.ok
 ·rw[Gi ho];exact Nat.zero_le _
 ·cases hb:b
  ·rw[Gh ho rfl];exact h ho
  ·rw[FO ho rfl];exact Nat.zero_le _
theorem wL {α:Type} {g:Gr} {b:Bool} {l:List α} {x:α} (h:x∈(g.ans b l).1):x∈l:=by
 cases ho:g.ok
 ·rw[Gi ho] at h;cases h
 ·cases hb:b
  ·rw[hb,Gh ho rfl] at h;exact h
  ·rw[hb,FO ho rfl] at h;cases h
theorem bC (fr:Nat):∀r:List (Int×Int),(nxs fr r).length≤r.length
 | []=>Nat.le_refl _
 |e::r=>by
  have:=bC fr r;rw[nxs];split
  ·simp;omega
  ·simp;omega
theorem Ss.keeps {h h':Hp} {v:V} {l:List (List Va)} (S:Ss h v l) (K:Ae h h'):Ss h' v l:=
 ⟨S.flat,S.len,fun hx=>by obtain ⟨a,s,a1,a2,a3,F⟩:=S.get hx;exact ⟨a,s,a1,a2,fun h1 c K1=>a3 h1 c (K.trans K1),F.keeps K⟩⟩
section
variable {E:Env} {L n:Nat} {h:Hp} {kc:KC} {t:T V} {d:Dc} {k:KE} {fi:FI} {c:KV} {C:As}
theorem qz (hE:Fns E) (hF:Hns E) (hG:Gns E) (hL9:L≤9000000000000000000) (hL2:120000≤L) {D:Nat} {g q:Gr} (hn:2*D+20≤n) (hd:∀s∈g.states,Bq s.l≤D) (hb:g.bulk≤L) (hb2:g.bulk≤8000000) (hq:q.bulk≤L) (hq2:q.bulk≤8000000) {h0:Hp} {bg bq:K} (gm:∀{h':Hp},Ae h0 h'→blk h' bg=.cells g.cells) (qm:∀{h':Hp},Ae h0 h'→blk h' bq=.cells q.cells) (o46:OkC E (L+8) (n+7) 46 g) (o24:OkC E (L+8) (n+7) 24 g) (K112:Ae h0 h)
  {v3 v4 v5 v6 v7 v8 v9 v10 v11 v12:V} {ra rb rd re:List Int×Int} {rc:List (List Va)×Int} (Z3:Zs h v3 ra.1) (Z4:Zs h v4 ra.1) (Z5:Zs h v5 rb.1) (Z6:Zs h v6 rb.1) (S7:Ss h v7 rc.1) (S8:Ss h v8 rc.1) (Z9:Zs h v9 rd.1) (Z10:Zs h v10 rd.1) (Z11:Zs h v11 re.1) (Z12:Zs h v12 re.1) (la:ra.1.length≤100000) (lb:rb.1.length≤100000) (lc:rc.1.length≤100000) (ld:rd.1.length≤100000) (le:re.1.length≤100000) (lrc:∀x∈rc.1,Bq x≤D∧Av x≤L)
  (t5:tg 5 t=.ptr bg 0) (t6:tg 6 t=.ptr bq 0) (t11:tg 11 t=v3) (t12:tg 12 t=.int .i64 ra.2) (t13:tg 13 t=v4) (t14:tg 14 t=.int .i64 ra.2) (t15:tg 15 t=v5) (t16:tg 16 t=.int .i64 rb.2) (t17:tg 17 t=v6) (t18:tg 18 t=.int .i64 rb.2) (t19:tg 19 t=v7) (t20:tg 20 t=.int .i64 rc.2) (t21:tg 21 t=v8) (t22:tg 22 t=.int .i64 rc.2) (t23:tg 23 t=v9) (t24:tg 24 t=.int .i64 rd.2) (t25:tg 25 t=v10) (t26:tg 26 t=.int .i64 rd.2) (t27:tg 27 t=v11) (t28:tg 28 t=.int .i64 re.2) (t29:tg 29 t=v12) (t30:tg 30 t=.int .i64 re.2)
  (hk:∀t1 h1,Ae h0 h1→tg 10 t1=.bool true→k .normal t1 d h1=true):
  exec (call E (L+8) (n+8)) (L+8) fi Kl t d h k=true:=by
 have l3:=g.cells_length;have q3:=q.cells_length;have m12:=gm K112;have gf:∀{m:Nat},veq (m+2) (.agg g.cells) (.agg g.cells)=true:=fun {m}=>JT (Gr.flat g);have qf:∀{m:Nat},veq (m+2) (.agg q.cells) (.agg q.cells)=true:=fun {m}=>JT (Gr.flat q);rw[Kl];refine Sst (J6 m12 @Ax l3 @gf t5 t6) ?_;refine pj (L:=L+7) (n:=n+7) o46 hG.f1018 (fun h13 K13'=>?_);have K113:=K112.trans K13';have m13:=gm K113;refine Sst (J5 t6 m13 @Ax l3 (J2 @gf t5)) ?_;refine pj (L:=L+7) (n:=n+7) o24 hG.f1019 (fun h14 K14'=>?_);have K114:=K113.trans K14';have m14:=gm K114;have n14:=qm K114;refine Sst (J10 m14 n14 @Ax l3 q3 @gf @qf @AG t5 t6) ?_;refine Aaa hE hG (L:=L+4) (n:=n+3) (D:=D) tO tO hd tO tO tO (fun h15 K15'=>?_);have K115:=K114.trans K15';have m15:=gm K115;have n15:=qm K115;refine Sst (J9 m15 n15 @Ax l3 q3 @gf @qf t5 t6) ?_;refine z9 hF hG (L:=L+4) (n:=n+5) (D:=D) tO tO hd tO tO tO (fun h16 K16'=>?_);have K116:=K115.trans K16';have Y3:=Es.keeps Z3 (((K13'.trans K14').trans K15').trans K16');have Y4:=Es.keeps Z4 (((K13'.trans K14').trans K15').trans K16');have Y5:=Es.keeps Z5 (((K13'.trans K14').trans K15').trans K16');have Y6:=Es.keeps Z6 (((K13'.trans K14').trans K15').trans K16');have Y7:=S7.keeps (((K13'.trans K14').trans K15').trans K16');have Y8:=S8.keeps (((K13'.trans K14').trans K15').trans K16');have Y9:=Es.keeps Z9 (((K13'.trans K14').trans K15').trans K16');have Y10:=Es.keeps Z10 (((K13'.trans K14').trans K15').trans K16');have Y11:=Es.keeps Z11 (((K13'.trans K14').trans K15').trans K16');have Y12:=Es.keeps Z12 (((K13'.trans K14').trans K15').trans K16');have f3:=Es.flat Y3;have f4:=Es.flat Y4;have f5:=Es.flat Y5;have f6:=Es.flat Y6;have f7:=Y7.flat;have f8:=Y8.flat;have f9:=Es.flat Y9;have f10:=Es.flat Y10;have f11:=Es.flat Y11;have f12:=Es.flat Y12;have hbb:(g.same q==g.same q)=true:=by simp
 refine Sst (J7 @Qk hbb @AP t11 t13 @M9 (show (false !=true)=true from rfl)) ?_;refine Nd hG (L:=L+7) (n:=n+7) Y3 Y4 tO tO ?_;rw[decide_eq_true rfl];refine Sst (J6 @AG @AP t12 t14 t15 t17) ?_;refine Nd hG (L:=L+7) (n:=n+7) Y5 Y6 tO tO ?_;rw[decide_eq_true rfl];refine Sst (J6 @AG @AP t16 t18 t19 t21) ?_;refine pi hF hG (L:=L+5) (n:=n+6) (D:=D) tO tO Y7 Y8 tO tO (fun x hx=>(lrc x hx).1) (fun x hx=>by have:=(lrc x hx).2;omega) (fun x hx=>by have:=(lrc x hx).2;omega) (fun h17 K17'=>?_);rw[M0];refine Sst (J6 @AG @AP t20 t22 t23 t25) ?_;refine Nd hG (L:=L+7) (n:=n+7) (Es.keeps Y9 K17') (Es.keeps Y10 K17') tO tO ?_;rw[decide_eq_true rfl];refine Sst (J6 @AG @AP t24 t26 t27 t29) ?_;refine Nd hG (L:=L+7) (n:=n+7) (Es.keeps Y11 K17') (Es.keeps Y12 K17') tO tO ?_;rw[decide_eq_true rfl];refine Sst (J4 @AG @AP t28 t30) ?_;exact hk _ _ (K116.trans K17') Af
theorem law3 (hE:Fns E) (hF:Hns E) (hG:Gns E) (hR:Sns E) (hS:qb E) (hL9:L≤9000000000000000000) (hL2:120000≤L) {D:Nat} {g q:Gr} (hn:g.states.length+2*D+260≤n) (hn2:20200≤n) (hd:∀s∈g.states,Bq s.l≤D) (hsc:g.states.length≤g.sc) (hb:g.bulk≤L) (hb2:g.bulk≤8000000) (hq:q.bulk≤L) (hq2:q.bulk≤8000000) {to:Int} {fb sb:Bool} {fc sc:Nat} {f s:List Int} (hf:f.length≤1000000000) (hs:s.length≤1000000000) (hk:∀h1,Ae h h1→kc (.ret (.bool true)) none h1=true):
  call E (L+8) (n+9) (.fn 3) [.agg g.cells,.agg q.cells,.int .i64 to,slR fb fc (AH f) f.length,slR sb sc (AH s) s.length] none h kc=true:=by
 have l3:=g.cells_length;have q3:=q.cells_length;have hbb:g.states.length+BH g.states+g.init.length+2*g.edges.length≤8000000:=hb2;have hbL:g.states.length+BH g.states+g.init.length+2*g.edges.length≤L:=hb;have K0:Ae h ((h.upd (nxt h) (.cells g.cells)).upd (nxt h).succ (.cells q.cells)).bump.bump:=kO;have mg:blk ((h.upd (nxt h) (.cells g.cells)).upd (nxt h).succ (.cells q.cells)).bump.bump (nxt h)=.cells g.cells:=Af;have mq:blk ((h.upd (nxt h) (.cells g.cells)).upd (nxt h).succ (.cells q.cells)).bump.bump (nxt h).succ=.cells q.cells:=Af;have ng:(nxt h).num<(nxt ((h.upd (nxt h) (.cells g.cells)).upd (nxt h).succ (.cells q.cells)).bump.bump).num:=tN;have nq:(nxt h).succ.num<(nxt ((h.upd (nxt h) (.cells g.cells)).upd (nxt h).succ (.cells q.cells)).bump.bump).num:=tN;have hS':∀{L n:Nat} {h:Hp} {kc:KC},call E L (n+1) (.fn 6) [] none h kc=kc (.ret (.bool true)) none h:=hS;rw[Ag hG.f1003,wB,rZ,aV,aU,aS,aR,aQ,aP,aO,aN,aM,aL,PX,PW,PV];refine Sst (J3 @hS' @Ax l3) ?_;generalize ((h.upd (nxt h) (.cells g.cells)).upd (nxt h).succ (.cells q.cells)).bump.bump=H at K0 mg mq ng nq
 refine QJ hE hF (L:=L+5) (n:=n+1) tO tO tO tO (fun b h1 K1=>?_);have gm:∀{h':Hp},Ae H h'→blk h' (nxt h)=.cells g.cells:=fun K=>(K.old _ ng).trans mg;have qm:∀{h':Hp},Ae H h'→blk h' (nxt h).succ=.cells q.cells:=fun K=>(K.old _ nq).trans mq;have m1:=qm K1;cases b
 ·refine AV ?_;exact hk _ (K0.trans K1)
 refine Sst (J3 m1 @Ax q3) ?_;refine QJ hE hF (L:=L+5) (n:=n+1) tO tO tO tO (fun b h2 K2=>?_);have K12:=K1.trans K2;cases b
 ·refine AV ?_;exact hk _ (K0.trans K12)
 by_cases hf4:400<f.length
 ·have c1:(400<f.length)=True:=eq_true hf4;refine Tst c1 ?_;exact hk _ (K0.trans K12)
 have c1:(400<f.length)=False:=eq_false hf4;by_cases hs4:400<s.length
 ·have c2:(400<s.length)=True:=eq_true hs4;refine Tst (J2 c1 c2) ?_;exact hk _ (K0.trans K12)
 have c2:(400<s.length)=False:=eq_false hs4;have o46:∀{m:Nat},181≤m→OkC E (L+8) (m+6) 46 g:=fun hm=>Adj hE tO hm hb tO;have o24:∀{m:Nat},g.states.length+2*D+10≤m→OkC E (L+8) (m+6) 24 g:=fun hm=>Adk hF tO hm hd hb hsc;have p49:∀{m:Nat},g.ok=true→∀a:Nat,to=.ofNat a→a<g.states.length→PtC E (L+8) (m+2) 49 g a:=fun ho a _ ha=>Adi hE hG (L:=L+7) ho tO tO ha;have p50:∀{m:Nat},g.ok=true→∀a:Nat,to=.ofNat a→a<g.states.length→PtC E (L+8) (m+2) 50 g a:=fun ho a _ ha=>Adh hG (L:=L+7) ho tO tO ha;have hst:∀x∈g.states,x.l.length≤8000000:=fun x hx=>by have:=Dn hx;have:=AL x.l;omega
 have m2:=gm K12;refine Tst (J5 c1 c2 m2 @Ax l3) ?_;refine vc8 hE (L:=L) (n:=n+1) tO tO hb tO _ _ (fun h3 v3 K3 Z3=>?_);have K13:=K12.trans K3;have m3:=gm K13;refine Sst (J3 m3 @Ax l3) ?_;refine vc9 hG (L:=L+7) (n:=n+7) (o24 (m:=n+1) tO) (fun ho=>Ac8 hG (L:=L+7) (n:=n+6) ho tO) _ _ (fun h4 v4 K4 Z4=>?_);have K14:=K13.trans K4;have m4:=gm K14;refine Sst (J3 m4 @Ax l3) ?_;refine Ac6 (L:=L+7) (n:=n+7) (o46 (m:=n+1) tO) (p49 (m:=n+5)) hG.f1010 _ _ (fun h5 v5 K5 Z5=>?_);have K15:=K14.trans K5;have m5:=gm K15;refine Sst (J3 m5 @Ax l3) ?_;refine Ac6 (L:=L+7) (n:=n+7) (o24 (m:=n+1) tO) (p50 (m:=n+5)) hG.f1011 _ _ (fun h6 v6 K6 Z6=>?_);have K16:=K15.trans K6;have m6:=gm K16;refine Sst (J3 m6 @Ax l3) ?_;refine scR (Aaf hG (L:=L+7) (n:=n+6) (o46 (m:=n) tO) (p49 (m:=n+4)) tO hst) _ _ (fun h7 v7 K7 S7=>?_);have K17:=K16.trans K7;have m7:=gm K17;refine Sst (J3 m7 @Ax l3) ?_;refine scR (Aae hG (L:=L+7) (n:=n+6) (o24 (m:=n) tO) (p50 (m:=n+4)) tO) _ _ (fun h8 v8 K8 S8=>?_);have K18:=K17.trans K8;have m8:=gm K18;refine Sst (J3 m8 @Ax l3) ?_;refine vcN (Aad hG (L:=L+7) (n:=n+7) (o46 (m:=n+1) tO) tO) _ _ (fun h9 v9 K9 Z9=>?_);have K19:=K18.trans K9;have m9:=gm K19;refine Sst (J3 m9 @Ax l3) ?_;refine vcN (Aac hG (L:=L+7) (n:=n+7) (o24 (m:=n+1) tO) tO) _ _ (fun h10 v10 K10 Z10=>?_);have K110:=K19.trans K10;have m10:=gm K110;refine Sst (J3 m10 @Ax l3) ?_;refine Adg hE hF hR (L:=L) (n:=n+1) tO tO tO hb tO tO tO _ _ (fun h11 v11 K11 Z11=>?_);have K111:=K110.trans K11;have m11:=gm K111;refine Sst (J3 m11 @Ax l3) ?_;refine Adf hG (L:=L+7) (n:=n+6) (o24 (m:=n+1) tO) tO tO tO tO _ _ (fun h12 v12 K12' Z12=>?_);have K112:=K111.trans K12';have la:(g.ans false (g.lv.map Int.ofNat)).1.length≤100000:=IM fun ho=>by have:=(Gr.ok_parts ho).1;rw[List.length_map,Gr.lv_length];omega
 have lb:(g.ans (Cq g.states.length to) ((g.path to.toNat).map Int.ofNat)).1.length≤100000:=IM fun ho=>by have:=Gr.path_len ho to.toNat;rw[List.length_map];omega
 have lc:(g.ans (Cq g.states.length to) ((g.path to.toNat).map g.stl)).1.length≤100000:=IM fun ho=>by have:=Gr.path_len ho to.toNat;rw[List.length_map];omega
 have ld:(g.ans (Cq g.states.length to) ((nxs to.toNat g.edges).map Int.ofNat)).1.length≤100000:=IM fun ho=>by have:=(Gr.ok_parts ho).2.1;have:=bC to.toNat g.edges;rw[List.length_map];omega
 have le:(g.ans (f.any (Cq g.states.length)||s.any (Cq g.states.length)) ((rcL g f s).map Int.ofNat)).1.length≤100000:=IM fun ho=>by have:=(Gr.ok_parts ho).1;have h2:(rcL g f s).length≤(List.range g.states.length).length:=List.length_filter_le _ _;rw[List.length_range] at h2;rw[List.length_map];omega
 have lrc:∀x∈(g.ans (Cq g.states.length to) ((g.path to.toNat).map g.stl)).1,Bq x≤D∧Av x≤L:=fun x hx=>by
  have hx:=wL hx;obtain ⟨j,_,rfl⟩:=List.mem_map.1 hx;rw[Gr.stl];cases hj:g.states[j]? with
  |none=>exact ⟨Nat.zero_le _,Nat.zero_le _⟩
  |some y=>have hy:=List.mem_of_getElem? hj;exact ⟨hd y hy,by have:=Dn hy;show Av y.l≤L;omega⟩
 have Z3':=Es.keeps Z3 ((((((((K4.trans K5).trans K6).trans K7).trans K8).trans K9).trans K10).trans K11).trans K12');have Z4':=Es.keeps Z4 (((((((K5.trans K6).trans K7).trans K8).trans K9).trans K10).trans K11).trans K12');have Z5':=Es.keeps Z5 ((((((K6.trans K7).trans K8).trans K9).trans K10).trans K11).trans K12');have Z6':=Es.keeps Z6 (((((K7.trans K8).trans K9).trans K10).trans K11).trans K12');have S7':=S7.keeps ((((K8.trans K9).trans K10).trans K11).trans K12');have S8':=S8.keeps (((K9.trans K10).trans K11).trans K12');have Z9':=Es.keeps Z9 ((K10.trans K11).trans K12');have Z10':=Es.keeps Z10 (K11.trans K12');have Z11':=Es.keeps Z11 K12';generalize g.ans false (g.lv.map Int.ofNat)=ra at Z3' Z4' la⊢;generalize g.ans (Cq g.states.length to) ((g.path to.toNat).map Int.ofNat)=rb at Z5' Z6' lb⊢;generalize g.ans (Cq g.states.length to) ((g.path to.toNat).map g.stl)=rc at S7' S8' lc lrc⊢;generalize g.ans (Cq g.states.length to) ((nxs to.toNat g.edges).map Int.ofNat)=rd at Z9' Z10' ld⊢;generalize g.ans (f.any (Cq g.states.length)||s.any (Cq g.states.length)) ((rcL g f s).map Int.ofNat)=re at Z11' Z12 le⊢;refine AV ?_;refine qz hE hF hG (L:=L) (n:=n) (h0:=H) (bg:=nxt h) (bq:=(nxt h).succ) (g:=g) (q:=q) (D:=D) tO tO tO hd hb hb2 hq hq2 gm qm (o46 (m:=n+1) tO) (o24 (m:=n+1) tO) K112 Z3' Z4' Z5' Z6' S7' S8' Z9' Z10' Z11' Z12 la lb lc ld le lrc Af Af Af Af Af Af Af Af Af Af Af Af Af Af Af Af Af Af Af Af Af Af (fun t1 h1 K g10=>?_);refine Sst g10 ?_;exact hk _ (K0.trans K)
end
end Go.AJ
