/- The reference: states are sorted. -/
import Derived.Test.YtgdbpnpolelfoaaGreatDoorRb
import Derived.Test.YtgdbpnpolelfoaaGreatDoorOb
set_option linter.all false
namespace Go.AJ
open Go
set_option maxRecDepth 100000
mutual
theorem Mw:∀(x:Va) (s:Nat×Nat) (d:Nat),s.1≤8000→s.2≤50→1≤d→
  (s.1+x.cnt≤8000→d+x.dep≤51→x.walk C0 s d=((s.1+x.cnt,max s.2 (d+x.dep-1)),true))∧
  (¬(s.1+x.cnt≤8000∧d+x.dep≤51)→(x.walk C0 s d).2=false∧(8000<(x.walk C0 s d).1.1∨50<(x.walk C0 s d).1.2))
 |.mk k n g db dc dd ss lb lc l mb mc m,s,d,h1,h2,h3=>by
  rw[Va.walk,Va.cnt,Va.dep];by_cases c0:s.1+1≤8000∧d≤50
  ·have e0:C0 s (.mk k n g db dc dd ss lb lc l mb mc m) d=((s.1+1,max s.2 d),true):=by unfold C0;rw[decide_eq_false (by omega),decide_eq_false (by omega)];rfl
   simp only[e0,if_true];obtain ⟨l1,l2⟩:=Gm l (s.1+1,max s.2 d) (d+1) (by simp only;omega) (by simp only;omega) tO (by simp only;omega);by_cases cl:s.1+1+Ip l≤8000∧d+1+Bq l≤51
   ·rw[l1 cl.1 cl.2];simp only[if_true];obtain ⟨m1,m2⟩:=Gm m (s.1+1+Ip l,max (max s.2 d) (d+1+Bq l-1)) (d+1) (by simp only;omega) (by simp only;omega) tO (by simp only;omega);simp only at m1 m2;refine ⟨fun a1 a2=>?_,fun a=>m2 tO⟩;rw[m1 tO tO];simp only[Prod.mk.injEq,and_true];omega
   ·have:=l2 cl;simp only[this.1,Bool.false_eq_true,if_false];exact ⟨fun a1 a2=>absurd ⟨by omega,by omega⟩ cl,fun _=>⟨trivial,this.2⟩⟩
  ·have e0:(C0 s (.mk k n g db dc dd ss lb lc l mb mc m) d).2=false∧(C0 s (.mk k n g db dc dd ss lb lc l mb mc m) d).1=(s.1+1,max s.2 d):=by
    unfold C0;refine ⟨?_,rfl⟩;by_cases c1:8000<s.1+1
    ·rw[decide_eq_true c1];rfl
    ·rw[decide_eq_true (by omega:50<d),Bool.or_true];rfl
   simp only[e0.1,e0.2,Bool.false_eq_true,if_false];exact ⟨fun a1 a2=>absurd ⟨by omega,by omega⟩ c0,fun _=>⟨trivial,by omega⟩⟩
theorem Gm:∀(l:List Va) (s:Nat×Nat) (d:Nat),s.1≤8000→s.2≤50→1≤d→d≤s.2+1→
  (s.1+Ip l≤8000→d+Bq l≤51→Ck C0 l s d=((s.1+Ip l,max s.2 (d+Bq l-1)),true))∧
  (¬(s.1+Ip l≤8000∧d+Bq l≤51)→(Ck C0 l s d).2=false∧(8000<(Ck C0 l s d).1.1∨50<(Ck C0 l s d).1.2))
 | [],s,d,h1,h2,h3,h4=>by rw[Ck,Ip,Bq];refine ⟨fun a1 a2=>?_,fun a=>absurd ⟨by omega,by omega⟩ a⟩;have e:max s.2 (d+0-1)=s.2:=tO;rw[e,Nat.add_zero]
 |x::l,s,d,h1,h2,h3,h4=>by
  rw[Ck,Ip,Bq];obtain ⟨x1,x2⟩:=Mw x s d h1 h2 h3;by_cases cx:s.1+x.cnt≤8000∧d+x.dep≤51
  ·rw[x1 cx.1 cx.2];simp only[if_true];obtain ⟨l1,l2⟩:=Gm l (s.1+x.cnt,max s.2 (d+x.dep-1)) d (by simp only;omega) (by simp only;omega) h3 (by simp only;omega);simp only at l1 l2;refine ⟨fun a1 a2=>?_,fun a=>l2 tO⟩;rw[l1 tO tO];simp only[Prod.mk.injEq,and_true];omega
  ·have:=x2 cx;simp only[this.1,Bool.false_eq_true,if_false];exact ⟨fun a1 a2=>absurd ⟨by omega,by omega⟩ cx,fun _=>⟨trivial,this.2⟩⟩
end
theorem uh (x:Va):KO x=(decide (x.cnt≤8000)&&decide (x.dep≤50)):=by
 obtain ⟨h1,h2⟩:=Mw x (0,0) 1 (by simp) (by simp) tO;simp only[Nat.zero_add] at h1 h2;unfold KO HM;by_cases c:x.cnt≤8000∧1+x.dep≤51
 ·rw[h1 c.1 c.2,decide_eq_true c.1,decide_eq_true (by omega:x.dep≤50),decide_eq_false (by simp only;omega),decide_eq_false (by simp only;omega)];rfl
 ·have:=(h2 c).2;have e:(!decide (8000<(x.walk C0 (0,0) 1).1.1)&& !decide (50<(x.walk C0 (0,0) 1).1.2))=false:=by
   rcases this with h|h
   ·rw[decide_eq_true h];rfl
   ·rw[decide_eq_true h,Bool.not_true,Bool.and_false]
  rw[e];by_cases c1:x.cnt≤8000
  ·rw[decide_eq_false (by omega:¬x.dep≤50),Bool.and_false]
  ·rw[decide_eq_false c1];rfl
theorem sS (x:Va):okV x=(decide (x.cnt≤8000)&&decide (x.dep≤50)&&x.good):=by rw[okV,uh,Gn]
section
variable {E:Env} {L n:Nat} {h:Hp} {kc:KC} {t:T V} {d:Dc} {k:KE} {fi:FI} {c:KV} {C:As}
def km (E:Env) (L n D:Nat):Prop:=∀(x:Va) (h:Hp) (kc:KC),x.dep≤D→x.bulk≤L→(∀h1,Ae h h1→kc (.ret (.bool x.good)) none h1=true)→
 call E (L+3) n (.fn 153) [.agg x.cells] none h kc=true
theorem Jw {D:Nat} (hS:km E L n D) (hL9:L≤9223372036854775807) {b1:K} {v0 v1 v2 v3 v4 v6:V} {lb:Bool} {lc:Nat} {l:List Va} {h0:Hp} (nb:b1.num<(nxt h0).num) (m1:blk h0 b1=.cells [v0,v1,v2,v3,v4,slR lb lc (AC l) l.length,v6]) (hl:Av l≤L):
  ∀(r:List Va) (i M:Nat) (t:T V) (h:Hp),l.drop i=r→i+r.length=l.length→r.length+1≤M→Bq r≤D→Av r≤L→Ae h0 h→
  tg 1 t=.ptr b1 0→tg 3 t=vI i→
  (BL r=true→∀t1 h1,Ae h0 h1→tg 1 t1=.ptr b1 0→k (.exit 0) t1 d h1=true)→
  (BL r=false→∀t1 h1,Ae h0 h1→tg 2 t1=.bool false→k .ret t1 d h1=true)→
  iter (exec (call E (L+3) n) (L+3) fi Lw) M t d h k=true:=by
 intro r;have hll:=AL l;induction r with
 |nil=>intro i M t h hr hi hM hd hb K0 g1 g3 hk hf;obtain ⟨M,rfl⟩:=pM M;have mb:blk h b1=_:=(K0.old b1 nb).trans m1;have hi':(i<l.length)=False:=eq_false (by simp at hi;omega);rw[Ab,Lw];refine Tst (J4 g1 g3 mb hi') ?_;refine hk rfl _ _ K0 ?_;exact Ssc g1
 |cons x r ih=>
  intro i M t h hr hi hM hd hb K0 g1 g3 hk hf;obtain ⟨M,rfl⟩:=pM M;simp only[List.length_cons] at hi hM;simp only[Bq,Av] at hd hb;have mb:blk h b1=_:=(K0.old b1 nb).trans m1;have hi':(i<l.length)=True:=eT;have e1:=fun c h=>Dr (c:=c) (h:=h) (Ak hr);rw[Ab,Lw];refine Tst (J5 g1 g3 mb hi' e1) ?_;refine hS x _ _ tO tO (fun h1 K1=>?_);rw[BL] at hk hf;cases hg:x.good
  ·refine AV ?_;refine hf (by rw[hg];rfl) _ _ (K0.trans K1) ?_;exact Af
  ·rw[hg,Bool.true_and] at hk hf;refine Sst g3 ?_;refine ih (i+1) _ _ _ (Ai hr) tO tO tO tO (K0.trans K1) ?_ ?_ hk hf
   ·exact Ssc g1
   ·exact Af
theorem Jv {D:Nat} (hS:km E L n D) (hL9:L≤9223372036854775807) {b1:K} {v0 v1 v2 v3 v4 v5:V} {lb:Bool} {lc:Nat} {l:List Va} {h0:Hp} (nb:b1.num<(nxt h0).num) (m1:blk h0 b1=.cells [v0,v1,v2,v3,v4,v5,slR lb lc (AC l) l.length]) (hl:Av l≤L):
  ∀(r:List Va) (i M:Nat) (t:T V) (h:Hp),l.drop i=r→i+r.length=l.length→r.length+1≤M→Bq r≤D→Av r≤L→Ae h0 h→
  tg 1 t=.ptr b1 0→tg 4 t=vI i→
  (BL r=true→∀t1 h1,Ae h0 h1→tg 1 t1=.ptr b1 0→k (.exit 2) t1 d h1=true)→
  (BL r=false→∀t1 h1,Ae h0 h1→tg 2 t1=.bool false→k .ret t1 d h1=true)→
  iter (exec (call E (L+3) n) (L+3) fi Lv) M t d h k=true:=by
 intro r;have hll:=AL l;induction r with
 |nil=>intro i M t h hr hi hM hd hb K0 g1 g3 hk hf;obtain ⟨M,rfl⟩:=pM M;have mb:blk h b1=_:=(K0.old b1 nb).trans m1;have hi':(i<l.length)=False:=eq_false (by simp at hi;omega);rw[Ab,Lv];refine Tst (J4 g1 g3 mb hi') ?_;refine hk rfl _ _ K0 ?_;exact Ssc g1
 |cons x r ih=>
  intro i M t h hr hi hM hd hb K0 g1 g3 hk hf;obtain ⟨M,rfl⟩:=pM M;simp only[List.length_cons] at hi hM;simp only[Bq,Av] at hd hb;have mb:blk h b1=_:=(K0.old b1 nb).trans m1;have hi':(i<l.length)=True:=eT;have e1:=fun c h=>Dr (c:=c) (h:=h) (Ak hr);rw[Ab,Lv];refine Tst (J5 g1 g3 mb hi' e1) ?_;refine hS x _ _ tO tO (fun h1 K1=>?_);rw[BL] at hk hf;cases hg:x.good
  ·refine AV ?_;refine hf (by rw[hg];rfl) _ _ (K0.trans K1) ?_;exact Af
  ·rw[hg,Bool.true_and] at hk hf;refine Sst g3 ?_;refine ih (i+1) _ _ _ (Ai hr) tO tO tO tO (K0.trans K1) ?_ ?_ hk hf
   ·exact Ssc g1
   ·exact Af
theorem iu (hF:Hns E) (hL9:L≤9223372036854775700):∀(D n:Nat),km E L (n+2*D+6) D:=by
 intro D;induction D with
 |zero=>intro n x h kc hd;cases x;simp only[Va.dep] at hd;omega
 |succ D ih=>
  intro n x h kc hd hb hk;obtain ⟨kind,n0,neg,db,dc,dd,s,lb,lc,l,mb,mc,m⟩:=x;have hb0:(Va.mk kind n0 neg db dc dd s lb lc l mb mc m).bulk≤L+2:=tO;simp only[Va.dep] at hd;simp only[Va.bulk] at hb;have hl:=AL l;have hm:=AL m;have ih':km E L (n+2*D+7) D:=by rw[show n+2*D+7=(n+1)+2*D+6 by omega];exact ih (n+1)
  rw[show n+2*(D+1)+6=(n+2*D+7)+1 by omega];rw[Ag hF.f1153,vq,qQ,Wa,V9,V8,V7,V6,V5,V4];simp only[Va.cells];generalize hH:(h.upd (nxt h) (.cells [.int .i64 kind,.int .i64 n0,.bool neg,slR db dc (AH dd) dd.length,.str s,slR lb lc (AC l) l.length,slR mb mc (AC m) m.length])).bump=H;have K0:Ae h H:=by rw[←hH];exact kO
  have mH:blk H (nxt h)=.cells [.int .i64 kind,.int .i64 n0,.bool neg,slR db dc (AH dd) dd.length,.str s,slR lb lc (AC l) l.length,slR mb mc (AC m) m.length]:=by rw[←hH];simp -implicitDefEqProofs (disch:=exact tD) only[↓sD,sB,↓reduceIte,Nat.reduceEqDiff,reduceCtorEq,Nat.reduceLT,Nat.reduceMul,Nat.reduceAdd]
  have nH:(nxt h).num<(nxt H).num:=by rw[←hH];((try simp only[nB]);omega)
  have fin:∀{b:Bool} {h1:Hp},Ae H h1→(DY (.mk kind n0 neg db dc dd s lb lc l mb mc m)&&Gw (.mk kind n0 neg db dc dd s lb lc l mb mc m))=b→kc (.ret (.bool b)) none h1=true:=fun K e=>by rw[←e,←uc];exact hk _ (K0.trans K)
  refine Sst (J3 @hH @mH @Ax) ?_;refine ju hF (L:=L+2) (n:=n+2*D+5) (x:=.mk kind n0 neg db dc dd s lb lc l mb mc m) tO hb0 (fun h1 K1=>?_);have m1:=(K1.old (nxt h) nH).trans mH;cases hleaf:DY (.mk kind n0 neg db dc dd s lb lc l mb mc m)
  ·refine AV ?_;exact fin K1 (by rw[hleaf];rfl)
  cases k5:Aq kind (.ofNat 5)
  ·cases k6:Aq kind (.ofNat 6)
   ·cases z0:decide (l.length=0)
    ·refine Tst (J4 m1 k5 k6 z0) ?_;exact fin K1 (by rw[hleaf,Gw,k5,k6,z0];simp)
    ·refine Tst (J4 m1 k5 k6 z0) ?_;exact fin K1 (by rw[hleaf,Gw,k5,k6,z0];simp)
   ·cases z0:decide (4000<l.length)
    ·cases z1:decide (m.length=l.length)
     ·refine Tst (J5 m1 k5 k6 z0 z1) ?_;exact fin K1 (by rw[hleaf,Gw,k5,k6,z0,z1];simp)
     ·refine Tst (J6 m1 k5 k6 z0 z1 @Ad) ?_;have hrest:Gw (.mk kind n0 neg db dc dd s lb lc l mb mc m)=(BL l&&BL m&&ris l):=by rw[Gw,k5,k6,z0];rw[z1];simp
      refine Jw ih' tO (b1:=nxt h) (v0:=.int .i64 kind) (v1:=.int .i64 n0) (v2:=.bool neg) (v3:=slR db dc (AH dd) dd.length) (v4:=.str s) (v6:=slR mb mc (AC m) m.length) (lb:=lb) (lc:=lc) (l:=l) (h0:=H) nH mH tO l 0 _ _ _ rfl tO tO tO tO K1 ?_ ?_ (fun g1 t1 h1 K2 u1=>?_) (fun g1 t1 h1 K2 u2=>?_)
      ·exact Af
      ·exact Af
      ·refine Sst @Ad ?_;refine Jv ih' tO (b1:=nxt h) (v0:=.int .i64 kind) (v1:=.int .i64 n0) (v2:=.bool neg) (v3:=slR db dc (AH dd) dd.length) (v4:=.str s) (v5:=slR lb lc (AC l) l.length) (lb:=mb) (lc:=mc) (l:=m) (h0:=H) nH mH tO m 0 _ _ _ rfl tO tO tO tO K2 ?_ ?_ (fun g2 t2 h2 K3 u2=>?_) (fun g2 t2 h2 K3 u2=>?_)
       ·exact Ssc u1
       ·exact Af
       ·have m2:=(K3.old (nxt h) nH).trans mH;refine Sst (J2 u2 m2) ?_;refine QB hF tO (D:=D) (n:=n+2*D+6) tO tO tO tO (fun h3 K4=>?_);refine AV ?_;exact fin (K3.trans K4) (by rw[hleaf,hrest,g1,g2];rfl)
       ·refine Sst u2 ?_;exact fin K3 (by rw[hleaf,hrest,g1,g2];rfl)
      ·refine Sst u2 ?_;exact fin K2 (by rw[hleaf,hrest,g1];rfl)
    ·refine Tst (J4 m1 k5 k6 z0) ?_;exact fin K1 (by rw[hleaf,Gw,k5,k6,z0];simp)
  ·have k6:Aq kind (.ofNat 6)=false:=by rw[Au.1 k5];rfl
   cases z0:decide (4000<l.length)
   ·cases z1:decide (m.length=0)
    ·refine Tst (J5 m1 k5 k6 z0 z1) ?_;exact fin K1 (by rw[hleaf,Gw,k5,k6,z0,z1];simp)
    ·refine Tst (J6 m1 k5 k6 z0 z1 @Ad) ?_;have hrest:Gw (.mk kind n0 neg db dc dd s lb lc l mb mc m)=(BL l&&BL m&&ris l):=by rw[Gw,k5,k6,z0];rw[z1];simp
     refine Jw ih' tO (b1:=nxt h) (v0:=.int .i64 kind) (v1:=.int .i64 n0) (v2:=.bool neg) (v3:=slR db dc (AH dd) dd.length) (v4:=.str s) (v6:=slR mb mc (AC m) m.length) (lb:=lb) (lc:=lc) (l:=l) (h0:=H) nH mH tO l 0 _ _ _ rfl tO tO tO tO K1 ?_ ?_ (fun g1 t1 h1 K2 u1=>?_) (fun g1 t1 h1 K2 u2=>?_)
     ·exact Af
     ·exact Af
     ·refine Sst @Ad ?_;refine Jv ih' tO (b1:=nxt h) (v0:=.int .i64 kind) (v1:=.int .i64 n0) (v2:=.bool neg) (v3:=slR db dc (AH dd) dd.length) (v4:=.str s) (v5:=slR lb lc (AC l) l.length) (lb:=mb) (lc:=mc) (l:=m) (h0:=H) nH mH tO m 0 _ _ _ rfl tO tO tO tO K2 ?_ ?_ (fun g2 t2 h2 K3 u2=>?_) (fun g2 t2 h2 K3 u2=>?_)
      ·exact Ssc u1
      ·exact Af
      ·have m2:=(K3.old (nxt h) nH).trans mH;refine Sst (J2 u2 m2) ?_;refine QB hF tO (D:=D) (n:=n+2*D+6) tO tO tO tO (fun h3 K4=>?_);refine AV ?_;exact fin (K3.trans K4) (by rw[hleaf,hrest,g1,g2];rfl)
      ·refine Sst u2 ?_;exact fin K3 (by rw[hleaf,hrest,g1,g2];rfl)
     ·refine Sst u2 ?_;exact fin K2 (by rw[hleaf,hrest,g1];rfl)
   ·refine Tst (J4 m1 k5 k6 z0) ?_;exact fin K1 (by rw[hleaf,Gw,k5,k6,z0];simp)
theorem jy (hF:Hns E) (hL9:L≤9223372036854775700) {x:Va} {D:Nat} (hd:x.dep≤D) (hb:x.bulk≤L) (hn:2*D+6≤n) (hk:∀h1,Ae h h1→kc (.ret (.bool x.good)) none h1=true):
  call E (L+3) n (.fn 153) [.agg x.cells] none h kc=true:=by
 obtain ⟨m,rfl⟩:∃m,n=m+2*D+6:=⟨n-(2*D+6),by omega⟩
 exact iu hF hL9 D m x h kc hd hb hk
theorem jK (hF:Hns E) (hL9:L≤9223372036854775700) {x:Va} {D:Nat} (hd:x.dep≤D) (hb:x.bulk≤L) (hn:2*D+6≤n) (hk:∀h1,Ae h h1→kc (.ret (.bool (okV x))) none h1=true):
  call E (L+3) (n+1) (.fn 96) [.agg x.cells] none h kc=true:=by
 rw[Ag hF.f1096,vL,rn,XL,XK,XJ];generalize hH:(h.upd (nxt h) (.cells x.cells)).bump=H;have K0:Ae h H:=by rw[←hH];exact kO
 have mH:blk H (nxt h)=.cells x.cells:=by rw[←hH];simp -implicitDefEqProofs (disch:=exact tD) only[↓sD,sB,↓reduceIte,Nat.reduceEqDiff,reduceCtorEq,Nat.reduceLT,Nat.reduceMul,Nat.reduceAdd]
 have nH:(nxt h).num<(nxt H).num:=by rw[←hH];((try simp only[nB]);omega)
 have l7:=x.cells_length;refine Sst (J3 @hH @mH @Ax) ?_;refine jz hF (L:=L+2) tO hd tO tO (fun h1 K1=>?_);have m1:=(K1.old (nxt h) nH).trans mH;cases c1:decide (8000<x.cnt)
 ·cases c2:decide (50<x.dep)
  ·simp -implicitDefEqProofs (disch:=exact tD) only[↓sD,sB,↓reduceIte,Nat.reduceEqDiff,reduceCtorEq,Nat.reduceLT,Nat.reduceMul,Nat.reduceAdd,Aj,c1,c2,m1,Ax];refine jy hF hL9 hd hb tO (fun h2 K2=>?_);refine AV ?_;have e:okV x=x.good:=by have a1:=of_decide_eq_false c1;have a2:=of_decide_eq_false c2;rw[sS,decide_eq_true (by omega:x.cnt≤8000),decide_eq_true (by omega:x.dep≤50)];rfl
   rw[←e];exact hk _ ((K0.trans K1).trans K2)
  ·simp -implicitDefEqProofs (disch:=exact tD) only[↓sD,sB,↓reduceIte,Nat.reduceEqDiff,reduceCtorEq,Nat.reduceLT,Nat.reduceMul,Nat.reduceAdd,Aj,c1,c2];have e:okV x=false:=by have a2:=of_decide_eq_true c2;rw[sS,decide_eq_false (by omega:¬x.dep≤50),Bool.and_false];rfl
   have:=hk _ (K0.trans K1);rw[e] at this;exact this
 ·simp -implicitDefEqProofs (disch:=exact tD) only[↓sD,sB,↓reduceIte,Nat.reduceEqDiff,reduceCtorEq,Nat.reduceLT,Nat.reduceMul,Nat.reduceAdd,Aj,c1];have e:okV x=false:=by have a2:=of_decide_eq_true c1;rw[sS,decide_eq_false (by omega:¬x.cnt≤8000)];rfl
  have:=hk _ (K0.trans K1);rw[e] at this;exact this
theorem gN (hF:Hns E) (hL9:L≤9223372036854775700) {D:Nat} (hn:2*D+6≤n) {b:Bool} {cp:Nat} {s:List Va} (hs:s.length≤9223372036854775807) {h0:Hp}:
  ∀(r:List Va) (i M:Nat) (t:T V) (h:Hp),s.drop i=r→i+r.length=s.length→r.length+1≤M→Bq r≤D→Av r≤L→Ae h0 h→
  tg 0 t=slR b cp (AC s) s.length→tg 3 t=vI i→
  (r.all okV=true→∀t1 h1,Ae h0 h1→k (.exit 0) t1 d h1=true)→
  (r.all okV=false→∀t1 h1,Ae h0 h1→tg 2 t1=.bool false→k .ret t1 d h1=true)→
  iter (exec (call E (L+3) (n+1)) (L+3) fi LT) M t d h k=true:=by
 intro r;induction r with
 |nil=>intro i M t h hr hi hM hd hb K0 g0 g3 hk hf;obtain ⟨M,rfl⟩:=pM M;have hi':(i<s.length)=False:=eq_false (by simp at hi;omega);rw[Ab,LT];refine Tst (J3 g0 g3 hi') ?_;exact hk rfl _ _ K0
 |cons x r ih=>
  intro i M t h hr hi hM hd hb K0 g0 g3 hk hf;obtain ⟨M,rfl⟩:=pM M;simp only[List.length_cons] at hi hM;simp only[Bq,Av] at hd hb;have hi':(i<s.length)=True:=eT;have e1:=fun c h=>Dr (c:=c) (h:=h) (Ak hr);rw[Ab,LT];refine Tst (J4 g0 g3 hi' e1) ?_;refine jK hF hL9 (D:=D) tO tO hn (fun h1 K1=>?_);rw[List.all_cons] at hk hf;cases hg:okV x
  ·refine AV ?_;refine hf (by rw[hg];rfl) _ _ (K0.trans K1) ?_;exact Af
  ·rw[hg,Bool.true_and] at hk hf;refine Sst g3 ?_;refine ih (i+1) _ _ _ (Ai hr) tO tO tO tO (K0.trans K1) ?_ ?_ hk hf
   ·exact Ssc g0
   ·exact Af
theorem jO (hF:Hns E) (hL9:L≤9223372036854775700) {D:Nat} (hn:2*D+6≤n) {b:Bool} {cp:Nat} {s:List Va} (hs:s.length≤L) (hd:Bq s≤D) (hb:Av s≤L)
  (hk:∀h1,Ae h h1→kc (.ret (.bool (s.all okV))) none h1=true):
  call E (L+3) (n+2) (.fn 62) [slR b cp (AC s) s.length] none h kc=true:=by
 rw[Ag hF.f1062,vQ,rx,X5,X4,X3];refine Sst @Ad ?_;refine gN hF hL9 hn (b:=b) (cp:=cp) (s:=s) tO s 0 _ _ _ rfl tO tO hd hb (.refl h) ?_ ?_ (fun hr t1 h1 K1=>?_) (fun hr t1 h1 K1 g2=>?_)
 ·exact Af
 ·exact Af
 ·have hk1:=hk h1 K1;rw[hr] at hk1;refine AV ?_;exact hk1
 ·have hk1:=hk h1 K1;rw[hr] at hk1;refine Sst g2 ?_;exact hk1
end
end Go.AJ
namespace Go.AJ
open Go
set_option maxRecDepth 100000
inductive Ls (h:Hp):V→List St→Prop
 |nils:Ls h .nils []
 |rsl (q:List V) (off cp:Nat) (l:List St) (hq:∀i s,l[i]? =some s→q[off+i]? =some s.cell) (hcp:l.length≤cp):Ls h (.rsl q off l.length cp) l
 |own (b:K) (cp:Nat) (l:List St) (rest:List V) (hb:blk h b=.cells (BZ l++rest)) (nb:b.num<(nxt h).num):Ls h (.sl b 0 l.length cp 0) l
theorem Ls.keeps {h h':Hp} {v:V} {l:List St} (S:Ls h v l) (K:Ae h h'):Ls h' v l:=by
 cases S with
 |nils=>exact .nils
 |rsl q off cp l hq hcp=>exact .rsl q off cp l hq hcp
 |own b cp l rest hb nb=>exact .own b cp l rest ((K.old b nb).trans hb) (by have:=K.nx;omega)
theorem Ls.flat {h:Hp} {v:V} {l:List St} (S:Ls h v l):flat v=true:=by cases S<;>rfl
section
variable {E:Env} {L n:Nat} {h:Hp} {kc:KC} {t:T V} {d:Dc} {k:KE} {fi:FI} {c:KV} {C:As}
theorem Ls.len {v:V} {l:List St} (S:Ls h v l) {h1:Hp}:GX .sl v h1 c=c (vI l.length) h1:=by cases S<;>rfl
theorem EM (s:St):flat s.cell=true:=CS
theorem Ls.at {v:V} {l:List St} (S:Ls h v l) {i:Nat} {s:St} (hs:l[i]? =some s):∃p,Go.AJ.flat p=true∧(∀(h1:Hp) (c:KV),Jq v (vI i) 1 h1 c=c p h1)∧(∀(h1:Hp) (c:KV),Ae h h1→BU p h1 c=c s.cell h1):=by
 have hi:i<l.length:=by
  rcases Nat.lt_or_ge i l.length with h|h
  ·exact h
  ·rw[List.getElem?_eq_none h] at hs;cases hs
 cases S with
 |nils=>simp at hi
 |rsl q off cp l hq hcp=>exact ⟨.rp q (off+i*1),rfl,fun h1 c=>by rw[co,if_pos hi],fun h1 c K=>AM (by rw[Nat.mul_one];exact hq i s hs)⟩
 |own b cp l rest hb nb=>refine ⟨.ptr b (0+i*1),rfl,fun h1 c=>AA hi,fun h1 c K=>?_⟩;have hb1:blk h1 b=.cells (BZ l++rest):=(K.old b nb).trans hb;simp only[BU,CQ hb1];refine Jr ?_;rw[Nat.zero_add,Nat.mul_one,List.getElem?_append_left (by rw[BZ,List.length_map];exact hi)];exact BX hs
noncomputable def AbG (v a:V) (n:Nat) (h:Hp) (c:KV):Bool:=Ba v fun q=>BP q 1 (AN 0 [a] q fun z=>Bw h (.cells z) fun b h'=>c (.sl b 0 n n 0) h')
theorem MO {a:V} {x:X} {n:Nat}:Gz t [a] [(0,1,x)] n h c=AbG (ev t x) a n h c:=rfl
theorem ED {v a:V} {n:Nat} (hv:Go.AJ.flat v=true):AbG v a n h c=c (.sl (nxt h) 0 n n 0) (h.upd (nxt h) (.cells [v])).bump:=by simp only[AbG,Bz hv,BP,AN,Hr,Ar]
theorem gO (hF:Hns E) (hL9:L≤9223372036854775700) {D:Nat} (hn:2*D+4≤n) {lb mb:Bool} {lc mc:Nat} {l m:List Va} (hl:l.length≤9223372036854775807) {h0:Hp}:
  ∀(lr mr:List Va) (i:Nat) (M:Nat) (t:T V) (h:Hp),l.drop i=lr→m.drop i=mr→Bq lr≤D→Av lr≤L→Av mr≤L→lr.length+1≤M→i+lr.length=l.length→i+mr.length=m.length→Ae h0 h→
  tg 0 t=slR lb lc (AC l) l.length→tg 1 t=slR mb mc (AC m) m.length→tg 5 t=vI i→
  (∀t1 h1,Ae h0 h1→tg 0 t1=slR lb lc (AC l) l.length→tg 1 t1=slR mb mc (AC m) m.length→AS lr mr=Cz (.ofNat l.length) (.ofNat m.length)→k (.exit 0) t1 d h1=true)→
  (∀t1 h1,Ae h0 h1→tg 4 t1=.int .i64 (AS lr mr)→k .ret t1 d h1=true)→
  iter (exec (call E (L+3) n) (L+3) fi Ee) M t d h k=true:=by
 intro lr;induction lr with
 |nil=>
  intro mr i M t h hlr hmr hd hb hb' hM hi hi2 K0 g0 g1 g5 hk hr;obtain ⟨M,rfl⟩:=pM M;have hi':(i<l.length)=False:=eq_false (by simp at hi;omega);rw[Ab,Ee];refine Tst (J3 g0 g5 hi') ?_;refine hk _ _ K0 (Ssc g0) (Ssc g1) ?_;simp only[List.length_nil] at hi;rw[Cm];cases mr with
  |nil=>simp only[List.length_nil] at hi2;rw[if_neg (by simp;omega),if_neg (by simp;omega)];rfl
  |cons y mr=>simp only[List.length_cons] at hi2;rw[if_pos (by simp;omega)];rfl
 |cons x lr ih=>
  intro mr i M t h hlr hmr hd hb hb' hM hi hi2 K0 g0 g1 g5 hk hr;obtain ⟨M,rfl⟩:=pM M;simp only[List.length_cons] at hi hM;simp only[Bq,Av] at hd hb;have hi':(i<l.length)=True:=eT;cases mr with
  |nil=>simp only[List.length_nil] at hi2;have him:(i<m.length)=False:=eF;rw[Ab,Ee];refine Tst (J5 g0 g1 g5 hi' him) ?_;refine hk _ _ K0 (Ssc g0) (Ssc g1) ?_;rw[Cm,if_neg (by simp;omega),if_pos (by simp;omega)];rfl
  |cons y mr'=>
  simp only[List.length_cons] at hi2;have hx:l[i]? =some x:=Ak hlr;simp only[Av] at hb';have hy:m[i]? =some y:=Ak hmr;have e1:=fun c h=>Dr (c:=c) (h:=h) hx;have e2:=fun c h=>Dr (c:=c) (h:=h) hy;have him:(i<m.length)=True:=eT;rw[Ab,Ee];rw[AS] at hk hr;refine Tst (J8 g0 g1 g5 hi' him e1 e2 @DC) ?_;refine Lj hF tO (D:=D) tO tO tO hn (fun h1 K1=>?_);cases hc:Aq (x.cmp y) (.ofNat 0)
  ·have hne:x.cmp y≠0:=fun e=>by rw[e] at hc;cases hc
   rw[Bb,if_neg hne] at hr;refine Sst hc ?_;refine hr _ _ (K0.trans K1) ?_;exact Af
  ·have he:x.cmp y=0:=Au.1 hc;rw[he,Bb,if_pos rfl] at hk hr;refine Sst (J2 hc g5) ?_;refine ih mr' (i+1) _ _ _ (Ai hlr) (Ai hmr) tO tO tO tO tO tO (K0.trans K1) ?_ ?_ ?_ hk hr
   ·exact Ssc g0
   ·exact Ssc g1
   ·exact Af
theorem jP (hF:Hns E) (hL9:L≤9223372036854775700) {D:Nat} (hn:2*D+4≤n) {a b:St} (hd:Bq a.l≤D) (hb:Av a.l≤L) (hb':Av b.l≤L)
  (hk:∀h1,Ae h h1→kc (.ret (.int .i64 (AS a.l b.l))) none h1=true):
  call E (L+3) (n+1) (.fn 61) [a.cell,b.cell] none h kc=true:=by
 obtain ⟨lb,lc,l⟩:=a;obtain ⟨mb,mc,m⟩:=b;simp only at hd hb hb' hk;have hll:=AL l;simp only[St.cell];rw[Ag hF.f1061,jU,fA,NW,NV,NU,NT,NS];refine Sst @Ad ?_;refine gO hF hL9 hn (lb:=lb) (lc:=lc) (mb:=mb) (mc:=mc) (l:=l) (m:=m) tO (h0:=h) l m 0 _ _ _ rfl rfl hd hb hb' tO tO tO (.refl h) ?_ ?_ ?_ (fun t1 h1 K1 u0 u1 he=>?_) (fun t1 h1 K1 g4=>?_)
 ·exact Af
 ·exact Af
 ·exact Af
 ·have hk1:=hk h1 K1;rw[he,Cm] at hk1;by_cases c1:l.length<m.length
  ·rw[if_pos (by simpa using c1)] at hk1;simp -implicitDefEqProofs (disch:=exact tD) only[↓sD,sB,↓reduceIte,Nat.reduceEqDiff,reduceCtorEq,Nat.reduceLT,Nat.reduceMul,Nat.reduceAdd,u0,u1,Aj,c1,decide_true];exact hk1
  ·by_cases c2:m.length<l.length
   ·rw[if_neg (by simpa using c1),if_pos (by simpa using c2)] at hk1;simp -implicitDefEqProofs (disch:=exact tD) only[↓sD,sB,↓reduceIte,Nat.reduceEqDiff,reduceCtorEq,Nat.reduceLT,Nat.reduceMul,Nat.reduceAdd,u0,u1,Aj,c1,c2,decide_true,decide_false];exact hk1
   ·rw[if_neg (by simpa using c1),if_neg (by simpa using c2)] at hk1;simp -implicitDefEqProofs (disch:=exact tD) only[↓sD,sB,↓reduceIte,Nat.reduceEqDiff,reduceCtorEq,Nat.reduceLT,Nat.reduceMul,Nat.reduceAdd,u0,u1,Aj,c1,c2,decide_false];exact hk1
 ·refine Sst g4 ?_;exact hk h1 K1
end
end Go.AJ
namespace Go.AJ
open Go
set_option maxRecDepth 100000
section
variable {E:Env} {L n:Nat} {h:Hp} {kc:KC} {t:T V} {d:Dc} {k:KE} {fi:FI} {c:KV} {C:As}
theorem Rm (p:List St) (s:St):BZ p++ [s.cell]=BZ (p++ [s]):=by simp [BZ]
theorem Ns {h0 H:Hp} {o:List K} {sv:V} {p:List St} {s:St} {kv:KV} (S:Sl H 1 o sv p.length (BZ p)) (K0:Ae h0 H) (ho:∀b∈o,(nxt h0).num≤b.num) (hp:p.length≤1000000)
  (hk:∀o' s' h',Sl h' 1 o' s' (p++ [s]).length (BZ (p++ [s]))→Ae h0 h'→(∀b∈o',(nxt h0).num≤b.num)→kv s' h'=true):
  eQ (some [.nils]) sv (.sl (nxt H) 0 1 1 0) 1 24 (H.upd (nxt H) (.cells [s.cell])).bump kv=true:=by
 have k4:Ae H (H.upd (nxt H) (.cells [s.cell])).bump:=(Ae.refl H).new _;have e4:blk (H.upd (nxt H) (.cells [s.cell])).bump (nxt H)=.cells [s.cell]:=by rw[An,AE]
 refine Gg (sz:=0) (S.keeps k4) (new:= [s.cell]) (m:=1) (fun f=>?_) rfl rfl tO (fun o5 s5 h5 S5 w5=>?_)
 ·exact DK (q:= [s.cell]) (f:=fun l=>f 1 l) e4 rfl rfl
 rw[Rm] at S5;have K4:=K0.trans k4;refine hk o5 s5 h5 (by rw[List.length_append];exact S5) ⟨Nat.le_trans K4.nx w5.nx,fun b hb=>?_⟩ (fun b hb=>?_)
 ·rw[w5.old b (Nat.lt_of_lt_of_le hb K4.nx) (fun hm=>by have:=ho b hm;omega),K4.old b hb]
 ·rcases w5.new b hb with h7|h7
  ·exact ho b h7
  ·have:=K4.nx;omega
theorem gL (hF:Hns E) (hL9:L≤9223372036854775700) {D:Nat} (hn:2*D+5≤n) {av bv:V} {a b:List St} {h0:Hp} (SA:Ls h0 av a) (SB:Ls h0 bv b) (hda:∀s∈a,Bq s.l≤D∧Av s.l≤L) (hdb:∀s∈b,Bq s.l≤D∧Av s.l≤L) (hsz:a.length+b.length≤1000000):
  ∀(N:Nat) (ra rb p:List St) (i j M:Nat) (t:T V) (h:Hp) (o:List K) (sv:V),a.drop i=ra→b.drop j=rb→ra.length+rb.length≤N→N+1≤M→i+ra.length=a.length→j+rb.length=b.length→p.length+ra.length+rb.length≤a.length+b.length→Sl h 1 o sv p.length (BZ p)→Ae h0 h→(∀b∈o,(nxt h0).num≤b.num)→
  T.get und (K.of 0) t=av→T.get und (K.of 1) t=bv→T.get und (K.of 5) t=sv→T.get und (K.of 6) t=.int .i64 (.ofNat i)→T.get und (K.of 7) t=.int .i64 (.ofNat j)→
  (∀t1 h1 o1 s1,Sl h1 1 o1 s1 (p++mrg ra rb).length (BZ (p++mrg ra rb))→Ae h0 h1→(∀b∈o1,(nxt h0).num≤b.num)→T.get und (K.of 5) t1=s1→k (.exit 0) t1 d h1=true)→
  iter (exec (call E (L+3) n) (L+3) fi FM) M t d h k=true:=by
 intro N;obtain ⟨n',rfl⟩:∃n',n=n'+1:=⟨n-1,by omega⟩
 have la:=fun {h1:Hp} {c:KV}=>SA.len (h1:=h1) (c:=c);have lb:=fun {h1:Hp} {c:KV}=>SB.len (h1:=h1) (c:=c);induction N with
 |zero=>
  intro ra rb p i j M t h o sv hra hrb hN hM hi hj hp S K0 ho g0 g1 g5 g6 g7 hk;obtain ⟨M,rfl⟩:∃q,M=q+1:=⟨M-1,by omega⟩
  have ea:ra= []:=List.length_eq_zero_iff.1 (by omega);have eb:rb= []:=List.length_eq_zero_iff.1 (by omega);subst ea eb;have hi':(i<a.length)=False:=eq_false (by simp at hi;omega);have hj':(j<b.length)=False:=eq_false (by simp at hj;omega);rw[Ab,FM];simp -implicitDefEqProofs (disch:=first|assumption|((try simp only[dB]);first|done|omega)) only[↓sD,sB,↓reduceIte,Nat.reduceEqDiff,reduceCtorEq,Nat.reduceLT,Nat.reduceMul,Nat.reduceAdd,g0,g1,g6,g7,la,lb,Aj,hi',hj',decide_false];rw[Fy,List.append_nil] at hk;exact hk _ h o sv S K0 ho (Ssc g5)
 |succ N ih=>
  intro ra rb p i j M t h o sv hra hrb hN hM hi hj hp S K0 ho g0 g1 g5 g6 g7 hk;obtain ⟨M,rfl⟩:∃q,M=q+1:=⟨M-1,by omega⟩
  have ba:=fun {h1:Hp} {c:KV}=>Ib S (h1:=h1) (c:=c);match ra,rb with
  | [],[]=>have hi':(i<a.length)=False:=eq_false (by simp at hi;omega);have hj':(j<b.length)=False:=eq_false (by simp at hj;omega);rw[Ab,FM];simp -implicitDefEqProofs (disch:=first|assumption|((try simp only[dB]);first|done|omega)) only[↓sD,sB,↓reduceIte,Nat.reduceEqDiff,reduceCtorEq,Nat.reduceLT,Nat.reduceMul,Nat.reduceAdd,g0,g1,g6,g7,la,lb,Aj,hi',hj',decide_false];rw[Fy,List.append_nil] at hk;exact hk _ h o sv S K0 ho (Ssc g5)
  | [],y::rb=>
   simp only[List.length_cons,List.length_nil] at hN hi hj hp;have hi':(i<a.length)=False:=eq_false (by omega);have hi2:decide (i=a.length)=true:=decide_eq_true (by omega);have hj':(j<b.length)=True:=eq_true (by omega);obtain ⟨q,fq,ei,el⟩:=SB.at (Ak hrb);have fc:=EM y;rw[Ab,FM];simp -implicitDefEqProofs (disch:=first|assumption|((try simp only[dB]);first|done|omega)) only[↓sD,sB,↓reduceIte,Nat.reduceEqDiff,reduceCtorEq,Nat.reduceLT,Nat.reduceMul,Nat.reduceAdd,g0,g1,g5,g6,g7,la,lb,Aj,AB,hi',hi2,hj',decide_true,decide_false,ei,el,K0,MO,ED];rw[Fy] at hk;refine Ns S K0 ho (by omega) (fun o5 s5 h5 S5 K5 ho5=>?_);refine Sst g7 ?_;refine ih [] rb (p++ [y]) i (j+1) M _ h5 o5 s5 hra (Ai hrb) (by simp only[List.length_nil];omega) (by omega) (by simp only[List.length_nil];omega) (by omega) (by simp only[List.length_append,List.length_cons,List.length_nil];omega) S5 K5 ho5 ?_ ?_ ?_ ?_ ?_ ?_
   ·exact Ssc g0
   ·exact Ssc g1
   ·exact Af
   ·exact Ssc g6
   ·exact Af
   ·rw[Fy,List.append_assoc,List.singleton_append];exact hk
  |x::ra,[]=>
   simp only[List.length_cons,List.length_nil] at hN hi hj hp;have hi':(i<a.length)=True:=eq_true (by omega);have hi2:decide (i=a.length)=false:=decide_eq_false (by omega);have hj2:decide (j=b.length)=true:=decide_eq_true (by omega);obtain ⟨q,fq,ei,el⟩:=SA.at (Ak hra);have fc:=EM x;rw[Ab,FM];simp -implicitDefEqProofs (disch:=first|assumption|((try simp only[dB]);first|done|omega)) only[↓sD,sB,↓reduceIte,Nat.reduceEqDiff,reduceCtorEq,Nat.reduceLT,Nat.reduceMul,Nat.reduceAdd,g0,g1,g5,g6,g7,la,lb,Aj,AB,hi',hi2,hj2,decide_true,decide_false,ei,el,K0,MO,ED,FA,BG];rw[Ht] at hk;refine Ns S K0 ho (by omega) (fun o5 s5 h5 S5 K5 ho5=>?_);refine Sst (J2 g6 @BG) ?_;refine ih ra [] (p++ [x]) (i+1) j M _ h5 o5 s5 (Ai hra) hrb (by simp only[List.length_nil];omega) (by omega) (by omega) (by simp only[List.length_nil];omega) (by simp only[List.length_append,List.length_cons,List.length_nil];omega) S5 K5 ho5 ?_ ?_ ?_ ?_ ?_ ?_
   ·exact Ssc g0
   ·exact Ssc g1
   ·exact Af
   ·exact Af
   ·exact Ssc g7
   ·rw[Ht,List.append_assoc,List.singleton_append];exact hk
  |x::ra,y::rb=>
   simp only[List.length_cons] at hN hi hj hp;have hi':(i<a.length)=True:=eq_true (by omega);have hi2:decide (i=a.length)=false:=decide_eq_false (by omega);have hj2:decide (j=b.length)=false:=decide_eq_false (by omega);obtain ⟨q,fq,ei,el⟩:=SA.at (Ak hra);obtain ⟨q',fq',ei',el'⟩:=SB.at (Ak hrb);have fc:=EM x;have fc':=EM y;have fav:=SA.flat;have fbv:=SB.flat;have hxm:x∈a:=List.mem_of_getElem? (Ak hra);have hym:y∈b:=List.mem_of_getElem? (Ak hrb);rw[bL] at hk;rw[Ab,FM];simp -implicitDefEqProofs (disch:=first|assumption|((try simp only[dB]);first|done|omega)) only[↓sD,sB,↓reduceIte,Nat.reduceEqDiff,reduceCtorEq,Nat.reduceLT,Nat.reduceMul,Nat.reduceAdd,g0,g1,g5,g6,g7,la,lb,Aj,AB,hi',hi2,hj2,decide_true,decide_false,ei,el,ei',el',K0,AP];refine jP hF hL9 (n:=n') (D:=D) (by omega) (hda x hxm).1 (hda x hxm).2 (hdb y hym).2 (fun h1 K1=>?_);have K01:=K0.trans K1;have S1:=S.keeps K1;rcases Qs x.l y.l with hc|hc|hc
   ·have hc':AS x.l y.l=.negSucc 0:=hc;rw[if_neg (by omega),if_pos (by omega)] at hk;simp -implicitDefEqProofs (disch:=first|assumption|((try simp only[dB]);first|done|omega)) only[↓sD,sB,↓reduceIte,Nat.reduceEqDiff,reduceCtorEq,Nat.reduceLT,Nat.reduceMul,Nat.reduceAdd,hc',g0,g1,g5,g6,g7,ei,el,K01,FA,BG,Aj,Nat.lt_irrefl,Nat.not_lt_zero,decide_true,decide_false,MO,ED];refine Ns S1 K01 ho (by omega) (fun o5 s5 h5 S5 K5 ho5=>?_);refine Tst (J7 g6 g7 hc' @FA @BG @Nat.lt_irrefl @Nat.not_lt_zero) ?_;refine ih ra (y::rb) (p++ [x]) (i+1) j M _ h5 o5 s5 (Ai hra) hrb (by (try simp only[List.length_cons]);omega) (by omega) (by (try simp only[List.length_cons]);omega) (by (try simp only[List.length_cons]);omega) (by simp only[List.length_append,List.length_cons,List.length_nil];omega) S5 K5 ho5 ?_ ?_ ?_ ?_ ?_ ?_
    ·exact Ssc g0
    ·exact Ssc g1
    ·exact Af
    ·exact Ssc g6
    ·exact Ssc g7
    ·rw[List.append_assoc,List.singleton_append];exact hk
   ·have hc':AS x.l y.l=.ofNat 0:=hc;rw[if_pos hc] at hk;simp -implicitDefEqProofs (disch:=first|assumption|((try simp only[dB]);first|done|omega)) only[↓sD,sB,↓reduceIte,Nat.reduceEqDiff,reduceCtorEq,Nat.reduceLT,Nat.reduceMul,Nat.reduceAdd,hc',g0,g1,g5,g6,g7,ei,el,K01,FA,BG,Aj,Nat.lt_irrefl,Nat.not_lt_zero,decide_true,decide_false,MO,ED];refine Ns S1 K01 ho (by omega) (fun o5 s5 h5 S5 K5 ho5=>?_);refine Tst (J7 g6 g7 hc' @FA @BG @Nat.lt_irrefl @Nat.not_lt_zero) ?_;refine ih ra rb (p++ [x]) (i+1) (j+1) M _ h5 o5 s5 (Ai hra) (Ai hrb) (by (try simp only[List.length_cons]);omega) (by omega) (by (try simp only[List.length_cons]);omega) (by (try simp only[List.length_cons]);omega) (by simp only[List.length_append,List.length_cons,List.length_nil];omega) S5 K5 ho5 ?_ ?_ ?_ ?_ ?_ ?_
    ·exact Ssc g0
    ·exact Ssc g1
    ·exact Af
    ·exact Ssc g6
    ·exact Ssc g7
    ·rw[List.append_assoc,List.singleton_append];exact hk
   ·have hc':AS x.l y.l=.ofNat 1:=hc;rw[if_neg (by omega),if_neg (by omega)] at hk;simp -implicitDefEqProofs (disch:=first|assumption|((try simp only[dB]);first|done|omega)) only[↓sD,sB,↓reduceIte,Nat.reduceEqDiff,reduceCtorEq,Nat.reduceLT,Nat.reduceMul,Nat.reduceAdd,hc',g0,g1,g5,g6,g7,ei',el',K01,FA,BG,Aj,Nat.lt_irrefl,Nat.not_lt_zero,decide_true,decide_false,MO,ED];refine Ns S1 K01 ho (by omega) (fun o5 s5 h5 S5 K5 ho5=>?_);refine Tst (J7 g6 g7 hc' @FA @BG @Nat.lt_irrefl @Nat.not_lt_zero) ?_;refine ih (x::ra) rb (p++ [y]) i (j+1) M _ h5 o5 s5 hra (Ai hrb) (by (try simp only[List.length_cons]);omega) (by omega) (by (try simp only[List.length_cons]);omega) (by (try simp only[List.length_cons]);omega) (by simp only[List.length_append,List.length_cons,List.length_nil];omega) S5 K5 ho5 ?_ ?_ ?_ ?_ ?_ ?_
    ·exact Ssc g0
    ·exact Ssc g1
    ·exact Af
    ·exact Ssc g6
    ·exact Ssc g7
    ·rw[List.append_assoc,List.singleton_append];exact hk
theorem jJ (hF:Hns E) (hL9:L≤9223372036854775700) {D:Nat} (hn:2*D+5≤n) {av bv:V} {a b:List St} (SA:Ls h av a) (SB:Ls h bv b) (hda:∀s∈a,Bq s.l≤D∧Av s.l≤L) (hdb:∀s∈b,Bq s.l≤D∧Av s.l≤L) (hsz:a.length+b.length≤1000000) (hL:a.length+b.length≤L)
  (hk:∀h1 s1,Ls h1 s1 (mrg a b)→Ae h h1→kc (.ret s1) none h1=true):
  call E (L+3) (n+1) (.fn 97) [av,bv] none h kc=true:=by
 rw[Ag hF.f1097,vK,rm,XI,XH,XG,XF,XE,XD];refine Sst @Ad ?_;refine gL hF hL9 hn SA SB hda hdb hsz (a.length+b.length) a b [] 0 0 _ _ h [] .nils rfl rfl (Nat.le_refl _) tO tO tO (by simp) .nil (.refl h) (fun b hb=>by cases hb) ?_ ?_ ?_ ?_ ?_ (fun t1 h1 o1 s1 S1 K1 ho1 g5=>?_)
 ·exact Af
 ·exact Af
 ·exact Af
 ·exact Af
 ·exact Af
 ·refine Sst g5 ?_;rw[List.nil_append] at S1;refine hk h1 s1 ?_ K1;rcases S1.inv with ⟨_,rfl,hz,_⟩|⟨b,cp,rest,rfl,rfl,hb,_,_,_,_,hnb⟩
  ·rw[List.length_eq_zero_iff.1 hz];exact .nils
  ·exact .own b cp _ rest hb hnb
theorem QO {m e:Nat} {c:Nat→Bool}:bnd none m e c=c e:=rfl
theorem eo {ik:IntKind} {v m e:Nat} {c:Nat→Bool} (hv:v≤m):bnd (some (.int ik (.ofNat v))) m e c=c v:=by show (match Nat.ble v m with|true=>c v|false=>false)=_;rw[Nat.ble_eq_true_of_le hv]
theorem kD {q:List V} {off len cp v:Nat} (hv:v≤cp):BT (.rsl q off len cp) none (some (vI v)) none 1 h c=c (.rsl q off v cp) h:=by simp only[BT,eo hv,QO,um];cases hb:Nat.beq cp 0<;>simp only[AF,Nat.sub_zero,Nat.zero_mul,Nat.add_zero]
theorem kC {q:List V} {off len cp v:Nat} (hv:v≤len) (hc:v<cp):BT (.rsl q off len cp) (some (vI v)) none none 1 h c=c (.rsl q (off+v) (len-v) (cp-v)) h:=by
 simp only[BT,eo hv,QO,um];have:Nat.beq cp v=false:=by rw[Bool.eq_false_iff];intro e;have:=Nat.eq_of_beq_eq_true e;omega
 simp only[this,AF,Nat.mul_one]
theorem Un {n o l cp:Nat} {q:List V}:veq (n+1) (.rsl q o l cp) (.rsl q o l cp)=true:=AP rfl
theorem Ac9 {a:Nat} (ha:a≤9223372036854775807):AU .quo (vI a) (vI 2) h c=c (vI (a/2)) h:=by rw[D5 BB rfl,show Int.tdiv (.ofNat a) (.ofNat 2)=.ofNat (a/2) from rfl,Ah tO]
theorem Om {q:List V} {off len cp:Nat}:GX .sl (.rsl q off len cp) h c=c (vI len) h:=rfl
def AdC (E:Env) (L n N D:Nat):Prop:=∀(q:List V) (off cp:Nat) (l:List St) (h:Hp) (kc:KC),l.length≤N→(∀i s,l[i]? =some s→q[off+i]? =some s.cell)→l.length≤cp→(∀s∈l,Bq s.l≤D∧Av s.l≤L)→
 (∀h1 s1,Ls h1 s1 (srt l)→Ae h h1→kc (.ret s1) none h1=true)→call E (L+3) n (.fn 63) [.rsl q off l.length cp] none h kc=true
theorem qp (hF:Hns E) (hL9:L≤9223372036854775700) {D:Nat}:∀(N n:Nat),N≤1000000→N≤L→AdC E L (n+N+2*D+7) N D:=by
 intro N;induction N with
 |zero=>intro n hN hL q off cp l h kc hl hq hcp hd hk;have e:l= []:=List.length_eq_zero_iff.1 tO;subst e;rw[show n+0+2*D+7=(n+2*D+6)+1 by omega];rw[Ag hF.f1063,d8,UK,Kk,Kj,Ki,Kg];refine Tst (J2 @Om @List.length_nil.{0}) ?_;refine hk h _ ?_ (.refl h);rw[FQ (by simp)];exact .rsl q off cp [] hq hcp
 |succ N ih=>
  intro n hN hL q off cp l h kc hl hq hcp hd hk;rw[show n+(N+1)+2*D+7=(n+N+2*D+7)+1 by omega];rw[Ag hF.f1063,d8,UK,Kk,Kj,Ki,Kg];by_cases h2:l.length<2
  ·refine Tst (J2 @Om h2) ?_;refine hk h _ ?_ (.refl h);rw[FQ h2];exact .rsl q off cp l hq hcp
  ·have e1:(l.take (l.length/2)).length=l.length/2:=by rw[List.length_take];omega
   have e2:(l.drop (l.length/2)).length=l.length-l.length/2:=by rw[List.length_drop]
   have eq2:Int.tdiv (.ofNat l.length) (.ofNat 2)=.ofNat (l.length/2):=rfl;have ew:Am .i64 (.ofNat (l.length/2))=.ofNat (l.length/2):=Ah tO;have eb:Aq (.ofNat 2) 0=false:=rfl;have l2:l.length/2≤cp:=tO;have l3:l.length/2<cp:=tO;have l4:l.length/2≤l.length:=tO;have hq1:∀i s,(l.take (l.length/2))[i]? =some s→q[off+i]? =some s.cell:=fun i s hs=>by
    refine hq i s ?_;rw[List.getElem?_take] at hs;split at hs
    ·exact hs
    ·cases hs
   have hq2:∀i s,(l.drop (l.length/2))[i]? =some s→q[off+l.length/2+i]? =some s.cell:=fun i s hs=>by rw[List.getElem?_drop] at hs;rw[Nat.add_assoc];exact hq _ s hs
   have A:=fun h kc=>ih n tO tO q off cp (l.take (l.length/2)) h kc tO hq1 tO (fun s hs=>hd s (List.mem_of_mem_take hs));have B:=fun h kc=>ih n tO tO q (off+l.length/2) (cp-l.length/2) (l.drop (l.length/2)) h kc tO hq2 tO (fun s hs=>hd s (List.mem_of_mem_drop hs));rw[e1] at A;rw[e2] at B;have OA:=Jc _ (l.take (l.length/2)) (Nat.le_refl _);have OB:=Jc _ (l.drop (l.length/2)) (Nat.le_refl _);have la:=OA.len;have lb:=OB.len;rw[Pk h2] at hk;refine Tst (J7 @Om h2 @Ac9 @kD @kC @Un @AP) ?_;refine A _ _ (fun h1 s1 S1 K1=>?_);have f1:=S1.flat;refine Sst (J4 @kD @kC @Un @AP) ?_;refine B _ _ (fun h2' s2 S2 K2=>?_);have f2:=S2.flat;have S1':=S1.keeps K2;refine Sst @AP ?_;refine jJ hF hL9 (n:=n+N+2*D+6) (D:=D) tO S1' S2 (fun s hs=>hd s (List.mem_of_mem_take (OA.mem s hs))) (fun s hs=>hd s (List.mem_of_mem_drop (OB.mem s hs))) tO tO (fun h3 s3 S3 K3=>?_);have f3:=S3.flat;refine Sst @AP ?_;exact hk h3 s3 S3 ((K1.trans K2).trans K3)
theorem jN (hF:Hns E) (hL9:L≤9223372036854775700) {D:Nat} {b:Bool} {cp:Nat} {l:List St} (hn:l.length+2*D+7≤n) (hl:l.length≤1000000) (hL:l.length≤L) (hc:l.length≤cp) (hd:∀s∈l,Bq s.l≤D∧Av s.l≤L)
  (hk:∀h1 s1,Ls h1 s1 (srt l)→Ae h h1→kc (.ret s1) none h1=true):
  call E (L+3) n (.fn 63) [slR b cp (BZ l) l.length] none h kc=true:=by
 obtain ⟨m,rfl⟩:∃m,n=m+l.length+2*D+7:=⟨n-(l.length+2*D+7),by omega⟩
 by_cases hz:b=true∧l.length=0
 ·have e:l= []:=List.length_eq_zero_iff.1 hz.2;subst e;rw[hz.1] at*;rw[show m+([]:List St).length+2*D+7=(m+2*D+6)+1 by simp];show call E (L+3) (m+2*D+6+1) (.fn 63) [.nils] none h kc=true;rw[Ag hF.f1063,d8,UK,Kk,Kj,Ki,Kg];have ln:∀(h:Hp) (c:KV),GX .sl .nils h c=c (vI 0) h:=fun _ _=>rfl;refine Tst ln ?_;refine hk h _ ?_ (.refl h);rw[FQ (by simp)];exact .nils
 ·have e:slR b cp (BZ l) l.length=.rsl (BZ l) 0 l.length cp:=by unfold slR;rw[if_neg hz]
  rw[e];exact qp hF hL9 l.length m hl hL (BZ l) 0 cp l h kc (Nat.le_refl _) (fun i s hs=>by rw[Nat.zero_add];exact BX hs) hc hd hk
end
end Go.AJ
