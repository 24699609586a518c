/- The walk: what is small. -/
import Derived.Test.YtgdbpnpolelfoaaGreatDoorWd
set_option linter.all false
namespace Go.AJ
open Go
set_option maxRecDepth 100000
theorem GQ:∀{l:List Va} {x:Va},x∈l→x.bulk≤Ax l
 |y::l,x,h=>by
  rw[Ax];rcases List.mem_cons.1 h with rfl|h
  ·omega
  ·have:=GQ h;omega
section
variable {E:Env} {L n N:Nat} {h:Hp} {kc:KC} {t:T V} {d:Dc} {k:KE} {fi:FI} {c:KV} {C:Av}
def Cnt (bm:K) (h:Hp):Prop:=∃z,blk h bm=.cells [.int .i64 z]
def AnsOK (E:Env) (L n:Nat) (bm:K) (f:Nat) (cs:List V) (P:Va→Prop) (Q:Hp→Prop):Prop:=∀(x:Va) (h:Hp) (kc:KC),P x→Q h→Cnt bm h→bm.num<(nxt h).num→
 (∀b h',Q h'→Cnt bm h'→Ac [bm] h h'→kc (.ret (.bool b)) none h'=true)→call E (L+3) n (.fn f) (.agg x.cells::cs) none h kc=true
theorem loopC (_hE:Fns E) {bm:K} {f:Nat} {cs:List V} {P:Va→Prop} {Q:Hp→Prop} (hA:AnsOK E L n bm f cs P Q) {b:Bool} {cp:Nat} {s:List Va} (hs:s.length≤9223372036854775800) {h0:Hp}:∀(r:List Va) (i M:Nat) (t:T V) (h:Hp),s.drop i=r→i+r.length=s.length→r.length+1≤M→(∀x∈r,P x)→Q h→Cnt bm h→bm.num<(nxt h).num→Ac [bm] h0 h→
  T.get und (K.of 0) t=slR b cp (AB s) s.length→T.get und (K.of 1) t=.fn f [] cs→T.get und (K.of 7) t=.int .i64 (.ofNat s.length)→T.get und (K.of 8) t=.int .i64 (.ofNat i)→
  (∀t1 h1,Q h1→Cnt bm h1→Ac [bm] h0 h1→k (.exit 0) t1 d h1=true)→(∀t1 j h1,Q h1→Cnt bm h1→Ac [bm] h0 h1→T.get und (K.of 4) t1=.int .i64 (.ofNat j)→k .ret t1 d h1=true)→
  iter (exec (call E (L+3) n) (L+3) fi HJ) M t d h k=true:=by
 intro r;induction r with
 |nil=>intro i M t h hr hi hM hP hQ hC hn K0 g0 g1 g5 g6 hk hf;obtain ⟨M,rfl⟩:=pM M;have hi':(i<s.length)=False:=eq_false (by simp at hi;omega);rw[Ab,HJ];refine Tst (J3 g5 g6 hi') ?_;exact hk _ _ hQ hC K0
 |cons x r ih=>
  intro i M t h hr hi hM hP hQ hC hn K0 g0 g1 g5 g6 hk hf;obtain ⟨M,rfl⟩:=pM M;simp only[List.length_cons] at hi hM;have hi':(i<s.length)=True:=eT;have e1:=fun c h=>DD (c:=c) (h:=h) (Ap hr);rw[Ab,HJ];refine Tst (J6 g0 g1 g5 g6 hi' e1) ?_;refine hA x _ _ (hP x (by simp)) hQ hC hn (fun b h1 Q1 C1 K1=>?_);cases b
  ·refine Sst g6 ?_;refine ih (i+1) _ _ _ (Al hr) tO tO (fun y hy=>hP y (by simp [hy])) Q1 C1 (K1.lt hn) (K0.trans K1) ?_ ?_ ?_ ?_ hk hf
   ·exact Ssc g0
   ·exact Ssc g1
   ·exact Ssc g5
   ·exact Ag
  ·refine Be ?_;exact hf _ i _ Q1 C1 (K0.trans K1) (Ag)
theorem call99c (hE:Fns E) {bm:K} {f:Nat} {cs:List V} {P:Va→Prop} {Q:Hp→Prop} (hA:AnsOK E L n bm f cs P Q) {b:Bool} {cp:Nat} {s:List Va} (hs:s.length≤9223372036854775800) (hl:s.length≤L) (hP:∀x∈s,P x) (hQ:Q h) (hC:Cnt bm h) (hn:bm.num<(nxt h).num)
  (hk:∀b h1,Q h1→Cnt bm h1→Ac [bm] h h1→kc (.ret (.bool b)) none h1=true):
  call E (L+3) (n+2) (.fn 86) [slR b cp (AB s) s.length,.fn f [] cs] none h kc=true:=by
 rw[Af hE.f99,c99,r99,p99_0,p99_1];refine Be ?_;rw[Af hE.f159,c159,r159,p159_0,p159_1,p159_2];refine Sst @Ae ?_;refine loopC hE hA (b:=b) (cp:=cp) hs (h0:=h) s 0 _ _ h rfl tO tO hP hQ hC hn (.refl _ _) ?_ ?_ ?_ ?_ (fun t1 h1 Q1 C1 K1=>?_) (fun t1 j h1 Q1 C1 K1 g4=>?_)
 ·exact Ag
 ·exact Ag
 ·exact Ag
 ·exact Ag
 ·refine Sst @Bw ?_;exact hk _ h1 Q1 C1 K1
 ·refine Tst (J2 g4 @Nat.not_lt_zero) ?_;exact hk _ h1 Q1 C1 K1
def HT (E:Env) (L n d:Nat):Prop:=∀(x:Va) (h:Hp) (kc:KC) (bm:K),x.bulk≤L→Cnt bm h→bm.num<(nxt h).num→
 (∀b h',Cnt bm h'→Ac [bm] h h'→kc (.ret (.bool b)) none h'=true)→call E (L+3) n (.fn 190) [.ptr bm 0,.agg x.cells,.int .i64 (.ofNat d)] none h kc=true
theorem ans282 (hE:Fns E) {d:Nat} (hd:d≤100) (hV:HT E L n (d+1)) {bm b3 b5:K} (h3:b3≠bm) (h5:b5≠bm) (f:Nat) (hf:f=292∨f=293):
  AnsOK E L (n+1) bm f [.ptr b3 0,.ptr b5 0] (fun x=>x.bulk≤L) (fun h=>blk h b3=.cells [.ptr bm 0]∧blk h b5=.cells [.int .i64 (.ofNat d)]∧b3.num<(nxt h).num∧b5.num<(nxt h).num):=by
 intro x h kc hP ⟨m3,m5,n3,n5⟩ hC hn hk;have l7:=x.cells_length;have k1:Ah h (h.upd (nxt h) (.cells x.cells)).bump:=(Ah.refl h).new _;have e1:Ai .i64 (.ofNat (d+1))=.ofNat (d+1):=Ad tO;obtain ⟨z,hz⟩:=hC;rcases hf with rfl|rfl
 ·rw[Af hE.f282,c282,r282,p282_0,p282_1];refine Sst (J4 m3 m5 @AX e1) ?_;refine hV x _ _ bm hP ⟨z,by rw[Am,BW tO,hz]⟩ tN (fun b h2 C2 K2=>?_);have K3:=k1.but.trans K2;refine Be ?_;exact hk _ h2 ⟨(K3.old _ n3 (by simp [h3])).trans m3,(K3.old _ n5 (by simp [h5])).trans m5,K3.lt n3,K3.lt n5⟩ C2 K3
 ·rw[Af hE.f283,c283,r283,p283_0,p283_1];refine Sst (J4 m3 m5 @AX e1) ?_;refine hV x _ _ bm hP ⟨z,by rw[Am,BW tO,hz]⟩ tN (fun b h2 C2 K2=>?_);have K3:=k1.but.trans K2;refine Be ?_;exact hk _ h2 ⟨(K3.old _ n3 (by simp [h3])).trans m3,(K3.old _ n5 (by simp [h5])).trans m5,K3.lt n3,K3.lt n5⟩ C2 K3
theorem val_step (hE:Fns E) (hL9:L≤9223372036854775800) {d:Nat} (hd:d≤61) (hV:d≤60→HT E L n (d+1)):HT E L (n+4) d:=by
 intro x h kc bm hb hC hn hk;obtain ⟨z,hz⟩:=hC;have l7:=x.cells_length;obtain ⟨kind,nn,neg,db,dc,dd,s,lb,lc,l,mb,mc,m⟩:=x;simp only[Va.bulk] at hb;have hll:l.length≤Ax l:=AI l;have hml:m.length≤Ax m:=AI m;have eq20:∀(a:Nat) (h:Hp) (c:KV),AK .quo (.int .i64 (.ofNat a)) (.int .i64 (.ofNat 20)) h c=c (.int .i64 (Ai .i64 (.ofNat (a/20)))) h:=fun a h c=>DH Bt (by rfl);have k1:Ah h (((h.upd (nxt h) (.cells [.ptr bm 0])).upd (nxt h).succ (.cells (Va.mk kind nn neg db dc dd s lb lc l mb mc m).cells)).upd (nxt h).succ.succ (.cells [.int .i64 (.ofNat d)])).bump.bump.bump:=kO;have box_ptr:∀(b:K) (o:Nat) (h:Hp) (c:KV),Jv (.ptr b o) h c=c (.ptr (nxt h) 0) (h.upd (nxt h) (.cells [.ptr b o])).bump:=fun b o h c=>by simp only[Jv,AU,Aq]
 rw[Af hE.f163,c163,r163,p163_0,p163_1];simp only[Va.cells] at l7 k1⊢;refine Sst (J3 @box_ptr hz eq20) ?_
 generalize hz':Ai .i64 (Int.sub z _)=z';have k2:Ac [bm] h ((((h.upd (nxt h) (.cells [.ptr bm 0])).upd (nxt h).succ (.cells (Va.mk kind nn neg db dc dd s lb lc l mb mc m).cells)).upd (nxt h).succ.succ (.cells [.int .i64 (.ofNat d)])).upd bm (.cells [.int .i64 z'])).bump.bump.bump:=by have:=k1.but (S:= [bm])|>.put (b:=bm) (.inr (by simp)) (.cells [.int .i64 z']);simpa only[DS,Va.cells] using this
 simp only[Va.cells] at k2;have c2:Cnt bm ((((h.upd (nxt h) (.cells [.ptr bm 0])).upd (nxt h).succ (.cells (Va.mk kind nn neg db dc dd s lb lc l mb mc m).cells)).upd (nxt h).succ.succ (.cells [.int .i64 (.ofNat d)])).upd bm (.cells [.int .i64 z'])).bump.bump.bump:=⟨z',by rw[Am,Am,Am,AC]⟩
 simp only[Va.cells] at c2;rw[p163_2];cases hneg:ltI z' (.ofNat 0)
 ·by_cases c60:60<d
  ·simp -implicitDefEqProofs (disch:=exact tD) only[↓sD,sB,↓reduceIte,Nat.reduceEqDiff,c60,decide_true,hneg];exact hk _ _ c2 k2
  ·rw[p163_3];have nb1:(nxt h).succ.num≠bm.num:=by rw[K.num_succ];omega
   simp -implicitDefEqProofs (disch:=first|assumption|((try simp only[dB]);first|done|omega)) only[↓sD,sB,↓reduceIte,Nat.reduceEqDiff,c60,decide_false,hneg];have hA:=fun f hf=>ans282 hE (L:=L) (n:=n) (d:=d) tO (hV tO) (bm:=bm) (b3:=nxt h) (b5:=(nxt h).succ.succ) (fun e=>by rw[e] at hn;omega) (fun e=>by have:=congrArg K.num e;rw[K.num_succ,K.num_succ] at this;omega) f hf;refine call99c hE (n:=n+1) (hA 292 (.inl rfl)) tO tO (fun x hx=>by have:=GQ hx;omega) ⟨?_,?_,?_,?_⟩ c2 tN (fun b h3 Q3 C3 K3=>?_)
   ·exact Ag
   ·exact Ag
   ·((try simp only[nB]);omega)
   ·((try simp only[nB]);omega)
   ·have n3:=K3.nx;simp only[nB] at n3;cases b
    ·have m4:=K3.old (nxt h).succ tN (by simp only[List.mem_cons,List.not_mem_nil,or_false];exact fun e=>nb1 (by rw[e]));simp -implicitDefEqProofs (disch:=exact tD) only[sB] at m4;refine Sst m4 ?_;refine call99c hE (n:=n+1) (hA 293 (.inr rfl)) tO tO (fun x hx=>by have:=GQ hx;omega) Q3 C3 tO (fun b h4 Q4 C4 K4=>?_);refine Be ?_;exact hk _ h4 C4 ((k2.trans K3).trans K4)
    ·refine Be ?_;exact hk _ h3 C3 (k2.trans K3)
 ·refine Sst @hneg ?_;exact hk _ _ c2 k2
theorem val_ok (hE:Fns E) (hL9:L≤9223372036854775800):∀(j d n:Nat),d+j=61→HT E L (n+4*(j+1)) d:=by
 intro j;induction j with
 |zero=>intro d n hd;exact val_step hE hL9 tO (fun h=>by omega)
 |succ j ih=>intro d n hd;have:=ih (d+1) n tO;exact val_step hE hL9 tO (fun _=>this)
theorem val_one (hE:Fns E) (hL9:L≤9223372036854775800) (hn:244≤n):HT E L n 1:=by
 obtain ⟨m,rfl⟩:∃m,n=m+4*(60+1):=⟨n-244,by omega⟩
 exact val_ok hE hL9 60 1 m rfl
end
end Go.AJ
namespace Go.AJ
open Go
set_option maxRecDepth 100000
def zeroE:List V:= [.int .i64 (.ofNat 0),.int .i64 (.ofNat 0),.nils,.int .i64 (.ofNat 0),.int .i64 (.ofNat 0),.bool false,.nils,.str [],.nils,.nils,.nils]
def zeroS:List V:= [.nils,.nils,.nils,.nils,.nils,.int .i64 (.ofNat 0),.int .i64 (.ofNat 0),.nils,.int .i64 (.ofNat 0),.int .i64 (.ofNat 0),.bool false,.nils,.str [],.nils,.nils,.nils,.int .i64 (.ofNat 0),.int .i64 (.ofNat 0),.nils,.int .i64 (.ofNat 0),.int .i64 (.ofNat 0),.bool false,.nils,.str [],.nils,.nils,.nils,.nils,.nils,.nils,.nils,.nils,.nils,.nils,.bool false]
def zeroX:Va:=.mk (.ofNat 0) (.ofNat 0) false true 0 [] [] true 0 [] true 0 []
theorem zeroX_cells:zeroX.cells=zeroVa:=by simp only[zeroX,Va.cells,AB,slR,List.length_nil,and_self,if_true,zeroVa]
theorem zeroX_bulk:zeroX.bulk=1:=by simp only[zeroX,Va.bulk,Ax,List.length_nil]
section
variable {E:Env} {L n N:Nat} {h:Hp} {kc:KC} {t:T V} {d:Dc} {k:KE} {fi:FI} {c:KV} {C:Av}
theorem Cnt.keeps {bm:K} {h h':Hp} (hC:Cnt bm h) (kk:Ah h h') (hn:bm.num<(nxt h).num):Cnt bm h':=by obtain ⟨z,hz⟩:=hC;exact ⟨z,(kk.old _ hn).trans hz⟩
theorem ans164 (hE:Fns E) (hV:HT E L n 1) {bm b2:K} (h2:b2≠bm):
  AnsOK E L (n+1) bm 191 [.ptr b2 0] (fun x=>x.bulk≤L) (fun h=>blk h b2=.cells [.ptr bm 0]∧b2.num<(nxt h).num):=by
 intro x h kc hP ⟨m2,n2⟩ hC hn hk;have l7:=x.cells_length;have k1:Ah h (h.upd (nxt h) (.cells x.cells)).bump:=(Ah.refl h).new _;rw[Af hE.f164,c164,r164,p164_0,p164_1];refine Sst (J2 m2 @AX) ?_;refine hV x _ _ bm hP (hC.keeps k1 hn) tN (fun b h3 C3 K3=>?_);have K4:=k1.but.trans K3;refine Be ?_;exact hk _ h3 ⟨(K4.old _ n2 (by simp [h2])).trans m2,K4.lt n2⟩ C3 K4
theorem loop105 (hE:Fns E) (hV:HT E L n 1) {bm b2:K} (h2:b2≠bm) {b:Bool} {cp:Nat} {s:List St} (hbs:D7 s≤L) (hL9:L≤9223372036854775800) (hls:s.length≤9223372036854775800) {h0:Hp}:∀(r:List St) (i M:Nat) (t:T V) (h:Hp),s.drop i=r→i+r.length=s.length→r.length+1≤M→blk h b2=.cells [.ptr bm 0]→b2.num<(nxt h).num→Cnt bm h→bm.num<(nxt h).num→Ac [bm] h0 h→
  T.get und (K.of 2) t=.ptr b2 0→T.get und (K.of 7) t=slR b cp (CF s) s.length→T.get und (K.of 8) t=.int .i64 (.ofNat s.length)→T.get und (K.of 9) t=.int .i64 (.ofNat i)→
  (∀t1 h1,Cnt bm h1→Ac [bm] h0 h1→k (.exit 0) t1 d h1=true)→(∀t1 h1,Cnt bm h1→Ac [bm] h0 h1→T.get und (K.of 4) t1=.bool false→k .ret t1 d h1=true)→
  iter (exec (call E (L+3) (n+3)) (L+3) fi b105_0) M t d h k=true:=by
 intro r;induction r with
 |nil=>intro i M t h hr hi hM m2 n2 hC hn K0 g2 g7 g8 g9 hk hf;obtain ⟨M,rfl⟩:=pM M;have hi':(i<s.length)=False:=eq_false (by simp at hi;omega);rw[Ab,b105_0];refine Tst (J3 g8 g9 hi') ?_;exact hk _ _ hC K0
 |cons x r ih=>
  intro i M t h hr hi hM m2 n2 hC hn K0 g2 g7 g8 g9 hk hf;obtain ⟨M,rfl⟩:=pM M;simp only[List.length_cons] at hi hM;have hi':(i<s.length)=True:=eT;have e1:=fun c h=>AS (c:=c) (h:=h) (C0 (Ap hr));have hxb:=Ev (List.mem_of_getElem? (Ap hr));have hxl:=AI x.l;rw[Ab,b105_0];refine Tst (J6 g2 g7 g8 g9 hi' e1) ?_;refine call99c hE (n:=n+1) (ans164 hE hV h2) tO tO (fun y hy=>by have:=GQ hy;omega) ⟨m2,n2⟩ hC hn (fun b h1 Q1 C1 K1=>?_);cases b
  ·refine Sst g9 ?_;refine ih (i+1) _ _ _ (Al hr) tO tO Q1.1 Q1.2 C1 (K1.lt hn) (K0.trans K1) ?_ ?_ ?_ ?_ hk hf
   ·exact Ssc g2
   ·exact Ssc g7
   ·exact Ssc g8
   ·exact Ag
  ·refine Be ?_;exact hf _ _ C1 (K0.trans K1) (Ag)
theorem box_ptr {b:K} {o:Nat}:Jv (.ptr b o) h c=c (.ptr (nxt h) 0) (h.upd (nxt h) (.cells [.ptr b o])).bump:=by simp only[Jv,AU,Aq]
theorem call105 (hE:Fns E) (hV:HT E L n 1) {bm:K} {b:Bool} {cp:Nat} {s:List St} (hbs:D7 s≤L) (hL9:L≤9223372036854775800) (hls:s.length≤L) (hC:Cnt bm h) (hn:bm.num<(nxt h).num)
  (hk:∀b h1,Cnt bm h1→Ac [bm] h h1→kc (.ret (.bool b)) none h1=true):
  call E (L+3) (n+4) (.fn 127) [.ptr bm 0,slR b cp (CF s) s.length] none h kc=true:=by
 have k1:Ah h (h.upd (nxt h) (.cells [.ptr bm 0])).bump:=kO;rw[Af hE.f105,c105,r105,p105_0,p105_1,p105_2];refine Sst (J2 @box_ptr @Ae) ?_;refine loop105 hE hV (bm:=bm) (b2:=nxt h) (fun e=>by rw[e] at hn;omega) (b:=b) (cp:=cp) hbs hL9 tO (h0:=h) s 0 _ _ _ rfl tO tO ?_ tN (hC.keeps k1 hn) tN k1.but ?_ ?_ ?_ ?_ (fun t1 h1 C1 K1=>?_) (fun t1 h1 C1 K1 g4=>?_)
 ·exact Ag
 ·exact Ag
 ·exact Ag
 ·exact Ag
 ·exact Ag
 ·refine Be ?_;exact hk _ h1 C1 K1
 ·refine Sst g4 ?_;exact hk _ h1 C1 K1
theorem Fg (hE:Fns E) {bm:K} {a:Int}:call E (L+1) (n+1) (.fn 128) [.ptr bm 0,.int .i64 a,.nils] none h kc=kc (.ret (.bool true)) none h:=by rw[Af hE.f106,c106,r106,p106_0,p106_1,p106_2];simp -implicitDefEqProofs only[↓sD,sB,↓reduceIte,Nat.reduceEqDiff,Nat.reduceAdd,Ae,Ab,b106_0,Nat.lt_irrefl,decide_false]
theorem loop106 (hE:Fns E) (hV:HT E L n 1) (hn1:1≤n) (hL1:1≤L) {bm b:K} {m:Nat} (hm:m≤100) (hb:b≠bm) {h0:Hp}:∀(j i M:Nat) (t:T V) (h:Hp),i+j=m→j+1≤M→blk h b=.cells (rep m zeroE)→b.num<(nxt h).num→Cnt bm h→bm.num<(nxt h).num→Ac [bm] h0 h→
  T.get und (K.of 0) t=.ptr bm 0→T.get und (K.of 1) t=.int .i64 (.ofNat 1)→T.get und (K.of 9) t=.sl b 0 m m 0→T.get und (K.of 10) t=.int .i64 (.ofNat m)→T.get und (K.of 11) t=.int .i64 (.ofNat i)→
  (∀t1 h1,Cnt bm h1→Ac [bm] h0 h1→k (.exit 0) t1 d h1=true)→(∀t1 h1,Cnt bm h1→Ac [bm] h0 h1→T.get und (K.of 6) t1=.bool false→k .ret t1 d h1=true)→
  iter (exec (call E (L+3) n) (L+3) fi b106_0) M t d h k=true:=by
 intro j;induction j with
 |zero=>intro i M t h hi hM mb nb hC hn K0 g0 g1 g9 g10 g11 hk hf;obtain ⟨M,rfl⟩:=pM M;have hi':(i<m)=False:=eF;rw[Ab,b106_0];refine Tst (J3 g10 g11 hi') ?_;exact hk _ _ hC K0
 |succ j ih=>
  intro i M t h hi hM mb nb hC hn K0 g0 g1 g9 g10 g11 hk hf;obtain ⟨M,rfl⟩:=pM M;have hi':(i<m)=True:=eT;obtain ⟨z,hz⟩:=hC;have e1:∀(h:Hp) (c:KV),ldN (.cells (rep m zeroE)) (i*11) 11 h c=c (.agg zeroE) h:=fun h c=>IL (by rw[show m=i+(j+1) by omega,rep_add,show i*11=(rep i zeroE).length from by rw[Cw];rfl,List.drop_left];simp only[rep];show (zeroE++rep j zeroE).take zeroE.length=zeroE;exact List.take_left) rfl;have e2:∀(h:Hp) (c:KV),ldN (.cells zeroE) 3 7 h c=c (.agg zeroX.cells) h:=fun h c=>by rw[zeroX_cells];exact IL rfl rfl
  have e3:∀(h:Hp) (c:KV),ldB (.cells zeroE) 2 h c=c .nils h:=fun h c=>rfl;have e4:∀(h:Hp) (c:KV),ldB (.cells zeroE) 10 h c=c .nils h:=fun h c=>rfl;have lz:zeroE.length=11:=rfl;have e5:Ai .i64 (.ofNat 1)=.ofNat 1:=rfl;have e6:Ai .i64 (.ofNat 2)=.ofNat 2:=rfl;rw[Ab,b106_0];obtain ⟨z',hz'⟩:∃z',Ai .i64 (Int.sub z (.ofNat 1))=z':=⟨_,rfl⟩
  have hbn:b.num≠bm.num:=fun e=>hb (K.num_inj e);have k2:Ac [bm] h ((h.upd (nxt h) (.cells zeroE)).upd bm (.cells [.int .i64 z'])).bump:=by
   have:=(((Ac.refl [bm] h).new (.cells zeroE)).put (b:=bm) (.inr (by simp)) (.cells [.int .i64 z']))
   simpa only[DS] using this
  have c2:Cnt bm ((h.upd (nxt h) (.cells zeroE)).upd bm (.cells [.int .i64 z'])).bump:=⟨z',by rw[Am,AC]⟩
  cases hneg:ltI z' (.ofNat 0)
  ·simp -implicitDefEqProofs (disch:=exact tD) only[↓sD,sB,↓reduceIte,Nat.reduceEqDiff,reduceCtorEq,Nat.reduceLT,Nat.reduceAdd,g0,g1,g9,g10,g11,hi',decide_true,decide_false,mb,e1,Cg,Bq,hz,e3,e5,Nat.add_zero,hz',hneg,Nat.reduceLT,e2];refine hV zeroX _ _ bm (by rw[zeroX_bulk];exact hL1) c2 tN (fun b3 h3 C3 K3=>?_);have n3:=K3.nx;simp only[nB] at n3;have K23:=k2.trans K3;have m8:=K3.old (nxt h) tN (by simp only[List.mem_cons,List.not_mem_nil,or_false];exact fun e=>by rw[e] at hn;omega);simp -implicitDefEqProofs (disch:=exact tD) only[sB] at m8;cases b3
   ·refine Be ?_;exact hf _ _ C3 (K0.trans K23) (Ag)
   ·obtain ⟨n,rfl⟩:∃m,n=m+1:=⟨n-1,by have:=hn1;omega⟩
    simp -implicitDefEqProofs (disch:=exact tD) only[↓sD,sB,↓reduceIte,Nat.reduceEqDiff,reduceCtorEq,Nat.reduceAdd,g0,g1,g11,m8,e4,e6,Fg hE];refine ih (i+1) M _ _ tO tO ?_ tO C3 tO (K0.trans K23) ?_ ?_ ?_ ?_ ?_ hk hf
    ·rw[K23.old b nb (by simp [hb])];exact mb
    ·exact Ssc g0
    ·exact Ssc g1
    ·exact Ssc g9
    ·exact Ssc g10
    ·exact Ag
  ·simp -implicitDefEqProofs (disch:=exact tD) only[↓sD,sB,↓reduceIte,Nat.reduceEqDiff,reduceCtorEq,Nat.reduceAdd,g0,g9,g10,g11,hi',decide_true,mb,e1,Cg,Bq,hz,e3,e5,Nat.add_zero,hz',hneg];exact hf _ _ c2 (K0.trans k2) (Ag)
theorem call106z (hE:Fns E) (hV:HT E L n 1) (hn1:1≤n) (hL1:1≤L) (hLL:102≤L) {bm b:K} {m:Nat} (hm:m≤100) (hb:b≠bm) (mb:blk h b=.cells (rep m zeroE)) (nb:b.num<(nxt h).num) (hC:Cnt bm h) (hn:bm.num<(nxt h).num)
  (hk:∀b h1,Cnt bm h1→Ac [bm] h h1→kc (.ret (.bool b)) none h1=true):
  call E (L+3) (n+1) (.fn 128) [.ptr bm 0,.int .i64 (.ofNat 1),.sl b 0 m m 0] none h kc=true:=by
 rw[Af hE.f106,c106,r106,p106_0,p106_1,p106_2];refine Sst @Ae ?_;refine loop106 hE hV hn1 hL1 hm hb (h0:=h) m 0 _ _ h tO tO mb nb hC hn (.refl _ _) ?_ ?_ ?_ ?_ ?_ (fun t1 h1 C1 K1=>?_) (fun t1 h1 C1 K1 g6=>?_)
 ·exact Ag
 ·exact Ag
 ·exact Ag
 ·exact Ag
 ·exact Ag
 ·refine Be ?_;exact hk _ h1 C1 K1
 ·refine Sst g6 ?_;exact hk _ h1 C1 K1
end
end Go.AJ
namespace Go.AJ
open Go
set_option maxRecDepth 100000
section
variable {E:Env} {L n N:Nat} {h:Hp} {kc:KC} {t:T V} {d:Dc} {k:KE} {fi:FI} {c:KV} {C:Av}
noncomputable def mkS22 (v w:V) (z:List V) (h:Hp) (c:KV):Bool:=AU v fun q=>BM q 11 (AN 0 z q fun z1=>AU w fun q'=>BM q' 11 (AN 11 z1 q' fun z2=>Br h (.cells z2) fun b h'=>c (.sl b 0 2 2 0) h'))
theorem mkSl_22 {z:List V} {x y:X}:H6 t z [(0,11,x),(11,11,y)] 2 h c=mkS22 (ev t x) (ev t y) z h c:=rfl
theorem mkS22_zero:mkS22 (.agg zeroE) (.agg zeroE) (zeroE++zeroE) h c=c (.sl (nxt h) 0 2 2 0) (h.upd (nxt h) (.cells (rep 2 zeroE))).bump:=by simp only[mkS22,AU,zeroE,List.cons_append,List.nil_append,BM,AN,G9,Aq,rep,List.append_nil]
theorem call104 (hE:Fns E) (hV:HT E L n 1) (hn1:1≤n) (hLL:102≤L) {bm:K} (hC:Cnt bm h) (hn:bm.num<(nxt h).num)
  (hk:∀b h1,Cnt bm h1→Ac [bm] h h1→kc (.ret (.bool b)) none h1=true):
  call E (L+3) (n+2) (.fn 126) [.ptr bm 0,.agg zeroS] none h kc=true:=by
 obtain ⟨z,hz⟩:=hC;obtain ⟨z',hz'⟩:∃z',Ai .i64 (Int.sub z (.ofNat 0))=z':=⟨_,rfl⟩
 have e0:Ai .i64 (.ofNat 0)=.ofNat 0:=rfl;have ld:∀i∈ [0,1,2,3,4,27,28,29,30,31,32,33],∀(h:Hp) (c:KV),ldB (.cells zeroS) i h c=c .nils h:=by intro i hi h c;simp only[List.mem_cons,List.not_mem_nil,or_false] at hi;rcases hi with rfl|rfl|rfl|rfl|rfl|rfl|rfl|rfl|rfl|rfl|rfl|rfl<;>rfl
 have l0:=ld 0 (by simp);have l1:=ld 1 (by simp);have l2:=ld 2 (by simp);have l3:=ld 3 (by simp);have l4:=ld 4 (by simp);have l27:=ld 27 (by simp);have l28:=ld 28 (by simp);have l29:=ld 29 (by simp);have l30:=ld 30 (by simp);have l31:=ld 31 (by simp);have l32:=ld 32 (by simp);have l33:=ld 33 (by simp);have n5:∀(h:Hp) (c:KV),ldN (.cells zeroS) 5 11 h c=c (.agg zeroE) h:=fun h c=>IL rfl rfl;have n16:∀(h:Hp) (c:KV),ldN (.cells zeroS) 16 11 h c=c (.agg zeroE) h:=fun h c=>IL rfl rfl;rw[Af hE.f104,c104,r104,p104_0,p104_1];refine Sst (J7 hz l0 l32 l29 e0 @Nat.add_zero hz') ?_;rw[p104_2,p104_3,p104_4,p104_5,p104_6,p104_7];have k2:Ac [bm] h ((h.upd (nxt h) (.cells zeroS)).upd bm (.cells [.int .i64 z'])).bump:=by
  have:=(((Ac.refl [bm] h).new (.cells zeroS)).put (b:=bm) (.inr (by simp)) (.cells [.int .i64 z']))
  simpa only[DS] using this
 have c2:Cnt bm ((h.upd (nxt h) (.cells zeroS)).upd bm (.cells [.int .i64 z'])).bump:=⟨z',by rw[Am,AC]⟩
 simp -implicitDefEqProofs (disch:=exact tD) only[↓sD,sB,↓reduceIte,Nat.reduceEqDiff,Ae,Ab,b104_0,b104_1,b104_2,b104_3,b104_4,b104_5,l1,l2,l3,l27,l28,l32,Nat.lt_irrefl,decide_false];rw[p104_8];refine Sst (J3 n5 n16 @mkSl_22) ?_;change mkS22 (.agg zeroE) (.agg zeroE) (zeroE++zeroE) _ _=true;rw[mkS22_zero];refine Be ?_;refine call106z hE hV hn1 tO hLL (m:=2) tO (b:=(nxt h).succ) (fun e=>by rw[←e,K.num_succ] at hn;omega) (Ag) tN ⟨z',Ag⟩ tN (fun b h3 C3 K3=>?_);have k3:Ac [bm] h h3:=Ac.trans (k2.new (.cells (rep 2 zeroE))) (by simpa only[DS,Au,An] using K3);have m3:=K3.old (nxt h) tN (by simp only[List.mem_cons,List.not_mem_nil,or_false];exact fun e=>by rw[←e] at hn;omega);simp -implicitDefEqProofs (disch:=exact tD) only[sB] at m3;cases b<;>(simp -implicitDefEqProofs (disch:=exact tD) only[↓sD,sB,↓reduceIte,Nat.reduceEqDiff,reduceCtorEq,m3,l4,l30,l31,l33,Fg hE];exact hk _ h3 C3 k3)
theorem call64 (hE:Fns E) (hn2:244≤n) (hLL:102≤L) (hL9:L≤9223372036854775800) {b:Bool} {cp:Nat} {s:List St} (hbs:D7 s≤L) (hls:s.length≤L)
  (hk:∀b h1,Ah h h1→kc (.ret (.bool b)) none h1=true):
  call E (L+3) (n+5) (.fn 85) [.agg zeroS,slR b cp (CF s) s.length,.nils] none h kc=true:=by
 have e1:∀(t:T V) (h:Hp) (c:KV),oMk t [.int .i64 (.ofNat 0)] [(0,1,.c (.int .i64 (.ofNat 12000)))] h c=c (.agg [.int .i64 (.ofNat 12000)]) h:=fun _ _ _=>rfl;have lz:zeroS.length=35:=rfl;have hsub:∀{h1:Hp},Ac [(nxt h).succ] ((h.upd (nxt h) (.cells zeroS)).upd (nxt h).succ (.cells [.int .i64 (.ofNat 12000)])).bump.bump h1→Ah h h1:=fun {h1} kk=>by have n1:=kk.nx;simp only[nB] at n1;refine ⟨by omega,fun c hc=>?_⟩;rw[kk.old c tN (by simp only[List.mem_cons,List.not_mem_nil,or_false];exact fun e=>by subst e;rw[K.num_succ] at hc;omega)];exact Ag
 rw[Af hE.f64,c64,r64,p64_0,p64_1,p64_2];refine Sst (J2 e1 @AX) ?_;refine call104 hE (n:=n+2) (val_one hE hL9 tO) tO hLL (bm:=(nxt h).succ) ⟨.ofNat 12000,Ag⟩ tN (fun b1 h1 C1 K1=>?_);have n1:=K1.nx;simp only[nB] at n1;cases b1
 ·refine Be ?_;exact hk _ h1 (hsub K1)
 ·refine Be ?_;refine call105 hE (n:=n) (val_one hE hL9 tO) hbs hL9 hls C1 tN (fun b2 h2 C2 K2=>?_);cases b2
  ·refine Be ?_;exact hk _ h2 (hsub (K1.trans K2))
  ·simp -implicitDefEqProofs (disch:=exact tD) only[↓sD,sB,↓reduceIte,Nat.reduceEqDiff,Fg hE];exact hk _ h2 (hsub (K1.trans K2))
theorem call31 (hE:Fns E) (hn2:244≤n) (hLL:102≤L) (hL9:L≤9223372036854775800) {b:Bool} {cp:Nat} {s:List St} (hbs:D7 s≤L) (hls:s.length≤L)
  (hk:∀b h1,Ah h h1→kc (.ret (.bool b)) none h1=true):
  call E (L+3) (n+6) (.fn 45) [.agg zeroS,slR b cp (CF s) s.length] none h kc=true:=by
 have lz:zeroS.length=35:=rfl;have K0:Ah h (h.upd (nxt h) (.cells zeroS)).bump:=kO;rw[Af hE.f31,c31,r31,p31_0,p31_1];refine Sst (J2 @AX lz) ?_;refine call64 hE hn2 hLL hL9 hbs hls (fun b h1 K1=>?_);refine Be ?_;exact hk _ h1 (K0.trans K1)
end
end Go.AJ
