/- The walk: what is small. -/
import Derived.Test.YtgdbpnpolelfoaaGreatDoorWd
set_option linter.all false
namespace Go.AJ
open Go
set_option maxRecDepth 100000
theorem HD:∀{l:List Va} {x:Va},x∈l→x.bulk≤Av l
 |y::l,x,h=>by
  rw[Av];rcases List.mem_cons.1 h with rfl|h
  ·omega
  ·have:=HD h;omega
section
variable {E:Env} {L n N:Nat} {h:Hp} {kc:KC} {t:T V} {d:Dc} {k:KE} {fi:FI} {c:KV} {C:As}
def Cnt (bm:K) (h:Hp):Prop:=∃z,blk h bm=.cells [.int .i64 z]
def kq (E:Env) (L n:Nat) (bm:K) (f:Nat) (cs:List V) (P:Va→Prop) (Q:Hp→Prop):Prop:=∀(x:Va) (h:Hp) (kc:KC),P x→Q h→Cnt bm h→bm.num<(nxt h).num→
 (∀b h',Q h'→Cnt bm h'→Ac [bm] h h'→kc (.ret (.bool b)) none h'=true)→call E (L+3) n (.fn f) (.agg x.cells::cs) none h kc=true
theorem AbY (_hE:Fns E) {bm:K} {f:Nat} {cs:List V} {P:Va→Prop} {Q:Hp→Prop} (hA:kq E L n bm f cs P Q) {b:Bool} {cp:Nat} {s:List Va} (hs:s.length≤9223372036854775800) {h0:Hp}:∀(r:List Va) (i M:Nat) (t:T V) (h:Hp),s.drop i=r→i+r.length=s.length→r.length+1≤M→(∀x∈r,P x)→Q h→Cnt bm h→bm.num<(nxt h).num→Ac [bm] h0 h→
  tg 0 t=slR b cp (AC s) s.length→tg 1 t=.fn f [] cs→tg 7 t=vI s.length→tg 8 t=vI i→
  (∀t1 h1,Q h1→Cnt bm h1→Ac [bm] h0 h1→k (.exit 0) t1 d h1=true)→(∀t1 j h1,Q h1→Cnt bm h1→Ac [bm] h0 h1→tg 4 t1=vI j→k .ret t1 d h1=true)→
  iter (exec (call E (L+3) n) (L+3) fi IH) M t d h k=true:=by
 intro r;induction r with
 |nil=>intro i M t h hr hi hM hP hQ hC hn K0 g0 g1 g5 g6 hk hf;obtain ⟨M,rfl⟩:=pM M;have hi':(i<s.length)=False:=eq_false (by simp at hi;omega);rw[Ab,IH];refine Tst (J3 g5 g6 hi') ?_;exact hk _ _ hQ hC K0
 |cons x r ih=>
  intro i M t h hr hi hM hP hQ hC hn K0 g0 g1 g5 g6 hk hf;obtain ⟨M,rfl⟩:=pM M;simp only[List.length_cons] at hi hM;have hi':(i<s.length)=True:=eT;have e1:=fun c h=>Dr (c:=c) (h:=h) (Ak hr);rw[Ab,IH];refine Tst (J6 g0 g1 g5 g6 hi' e1) ?_;refine hA x _ _ (hP x (by simp)) hQ hC hn (fun b h1 Q1 C1 K1=>?_);cases b
  ·refine Sst g6 ?_;refine ih (i+1) _ _ _ (Ai hr) tO tO (fun y hy=>hP y (by simp [hy])) Q1 C1 (K1.lt hn) (K0.trans K1) ?_ ?_ ?_ ?_ hk hf
   ·exact Ssc g0
   ·exact Ssc g1
   ·exact Ssc g5
   ·exact Af
  ·refine AV ?_;exact hf _ i _ Q1 C1 (K0.trans K1) Af
theorem OT (hE:Fns E) {bm:K} {f:Nat} {cs:List V} {P:Va→Prop} {Q:Hp→Prop} (hA:kq E L n bm f cs P Q) {b:Bool} {cp:Nat} {s:List Va} (hs:s.length≤9223372036854775800) (hl:s.length≤L) (hP:∀x∈s,P x) (hQ:Q h) (hC:Cnt bm h) (hn:bm.num<(nxt h).num)
  (hk:∀b h1,Q h1→Cnt bm h1→Ac [bm] h h1→kc (.ret (.bool b)) none h1=true):
  call E (L+3) (n+2) (.fn 86) [slR b cp (AC s) s.length,.fn f [] cs] none h kc=true:=by
 rw[Ag hE.f99,c99,r99,r6,r5];refine AV ?_;rw[Ag hE.f159,AaJ,AaB,Vh,Vg,Vf];refine Sst @Ad ?_;refine AbY hE hA (b:=b) (cp:=cp) hs (h0:=h) s 0 _ _ h rfl tO tO hP hQ hC hn (.refl _ _) ?_ ?_ ?_ ?_ (fun t1 h1 Q1 C1 K1=>?_) (fun t1 j h1 Q1 C1 K1 g4=>?_)
 ·exact Af
 ·exact Af
 ·exact Af
 ·exact Af
 ·refine Sst @BG ?_;exact hk _ h1 Q1 C1 K1
 ·refine Tst (J2 g4 @Nat.not_lt_zero) ?_;exact hk _ h1 Q1 C1 K1
def IP (E:Env) (L n d:Nat):Prop:=∀(x:Va) (h:Hp) (kc:KC) (bm:K),x.bulk≤L→Cnt bm h→bm.num<(nxt h).num→
 (∀b h',Cnt bm h'→Ac [bm] h h'→kc (.ret (.bool b)) none h'=true)→call E (L+3) n (.fn 190) [.ptr bm 0,.agg x.cells,vI d] none h kc=true
theorem Aas (hE:Fns E) {d:Nat} (hd:d≤100) (hV:IP E L n (d+1)) {bm b3 b5:K} (h3:b3≠bm) (h5:b5≠bm) (f:Nat) (hf:f=292∨f=293):
  kq E L (n+1) bm f [.ptr b3 0,.ptr b5 0] (fun x=>x.bulk≤L) (fun h=>blk h b3=.cells [.ptr bm 0]∧blk h b5=.cells [vI d]∧b3.num<(nxt h).num∧b5.num<(nxt h).num):=by
 intro x h kc hP ⟨m3,m5,n3,n5⟩ hC hn hk;have l7:=x.cells_length;have k1:Ae h (h.upd (nxt h) (.cells x.cells)).bump:=(Ae.refl h).new _;have e1:Am .i64 (.ofNat (d+1))=.ofNat (d+1):=Ah tO;obtain ⟨z,hz⟩:=hC;rcases hf with rfl|rfl
 ·rw[Ag hE.f282,AcI,Abg,mV,mU];refine Sst (J4 m3 m5 @Ax e1) ?_;refine hV x _ _ bm hP ⟨z,by rw[An,Cc tO,hz]⟩ tN (fun b h2 C2 K2=>?_);have K3:=k1.but.trans K2;refine AV ?_;exact hk _ h2 ⟨(K3.old _ n3 (by simp [h3])).trans m3,(K3.old _ n5 (by simp [h5])).trans m5,K3.lt n3,K3.lt n5⟩ C2 K3
 ·rw[Ag hE.f283,AcH,Abf,mT,mS];refine Sst (J4 m3 m5 @Ax e1) ?_;refine hV x _ _ bm hP ⟨z,by rw[An,Cc tO,hz]⟩ tN (fun b h2 C2 K2=>?_);have K3:=k1.but.trans K2;refine AV ?_;exact hk _ h2 ⟨(K3.old _ n3 (by simp [h3])).trans m3,(K3.old _ n5 (by simp [h5])).trans m5,K3.lt n3,K3.lt n5⟩ C2 K3
theorem Pe (hE:Fns E) (hL9:L≤9223372036854775800) {d:Nat} (hd:d≤61) (hV:d≤60→IP E L n (d+1)):IP E L (n+4) d:=by
 intro x h kc bm hb hC hn hk;obtain ⟨z,hz⟩:=hC;have l7:=x.cells_length;obtain ⟨kind,nn,neg,db,dc,dd,s,lb,lc,l,mb,mc,m⟩:=x;simp only[Va.bulk] at hb;have hll:l.length≤Av l:=AL l;have hml:m.length≤Av m:=AL m;have eq20:∀(a:Nat) (h:Hp) (c:KV),AU .quo (vI a) (vI 20) h c=c (.int .i64 (Am .i64 (.ofNat (a/20)))) h:=fun a h c=>D5 BB (by rfl);have k1:Ae h (((h.upd (nxt h) (.cells [.ptr bm 0])).upd (nxt h).succ (.cells (Va.mk kind nn neg db dc dd s lb lc l mb mc m).cells)).upd (nxt h).succ.succ (.cells [vI d])).bump.bump.bump:=kO;have box_ptr:∀(b:K) (o:Nat) (h:Hp) (c:KV),Kq (.ptr b o) h c=c (.ptr (nxt h) 0) (h.upd (nxt h) (.cells [.ptr b o])).bump:=fun b o h c=>by simp only[Kq,Ba,Ar]
 rw[Ag hE.f163,AcP,Abn,nF,nE];simp only[Va.cells] at l7 k1⊢;refine Sst (J3 @box_ptr hz eq20) ?_
 generalize hz':Am .i64 (Int.sub z _)=z';have k2:Ac [bm] h ((((h.upd (nxt h) (.cells [.ptr bm 0])).upd (nxt h).succ (.cells (Va.mk kind nn neg db dc dd s lb lc l mb mc m).cells)).upd (nxt h).succ.succ (.cells [vI d])).upd bm (.cells [.int .i64 z'])).bump.bump.bump:=by have:=k1.but (S:= [bm])|>.put (b:=bm) (.inr (by simp)) (.cells [.int .i64 z']);simpa only[CT,Va.cells] using this
 simp only[Va.cells] at k2;have c2:Cnt bm ((((h.upd (nxt h) (.cells [.ptr bm 0])).upd (nxt h).succ (.cells (Va.mk kind nn neg db dc dd s lb lc l mb mc m).cells)).upd (nxt h).succ.succ (.cells [vI d])).upd bm (.cells [.int .i64 z'])).bump.bump.bump:=⟨z',by rw[An,An,An,AE]⟩
 simp only[Va.cells] at c2;rw[nD];cases hneg:ltI z' (.ofNat 0)
 ·by_cases c60:60<d
  ·simp -implicitDefEqProofs (disch:=exact tD) only[↓sD,sB,↓reduceIte,Nat.reduceEqDiff,c60,decide_true,hneg];exact hk _ _ c2 k2
  ·rw[nC];have nb1:(nxt h).succ.num≠bm.num:=by rw[K.num_succ];omega
   simp -implicitDefEqProofs (disch:=first|assumption|((try simp only[dB]);first|done|omega)) only[↓sD,sB,↓reduceIte,Nat.reduceEqDiff,c60,decide_false,hneg];have hA:=fun f hf=>Aas hE (L:=L) (n:=n) (d:=d) tO (hV tO) (bm:=bm) (b3:=nxt h) (b5:=(nxt h).succ.succ) (fun e=>by rw[e] at hn;omega) (fun e=>by have:=congrArg K.num e;rw[K.num_succ,K.num_succ] at this;omega) f hf;refine OT hE (n:=n+1) (hA 292 (.inl rfl)) tO tO (fun x hx=>by have:=HD hx;omega) ⟨?_,?_,?_,?_⟩ c2 tN (fun b h3 Q3 C3 K3=>?_)
   ·exact Af
   ·exact Af
   ·((try simp only[nB]);omega)
   ·((try simp only[nB]);omega)
   ·have n3:=K3.nx;simp only[nB] at n3;cases b
    ·have m4:=K3.old (nxt h).succ tN (by simp only[List.mem_cons,List.not_mem_nil,or_false];exact fun e=>nb1 (by rw[e]));simp -implicitDefEqProofs (disch:=exact tD) only[sB] at m4;refine Sst m4 ?_;refine OT hE (n:=n+1) (hA 293 (.inr rfl)) tO tO (fun x hx=>by have:=HD hx;omega) Q3 C3 tO (fun b h4 Q4 C4 K4=>?_);refine AV ?_;exact hk _ h4 C4 ((k2.trans K3).trans K4)
    ·refine AV ?_;exact hk _ h3 C3 (k2.trans K3)
 ·refine Sst @hneg ?_;exact hk _ _ c2 k2
theorem wY (hE:Fns E) (hL9:L≤9223372036854775800):∀(j d n:Nat),d+j=61→IP E L (n+4*(j+1)) d:=by
 intro j;induction j with
 |zero=>intro d n hd;exact Pe hE hL9 tO (fun h=>by omega)
 |succ j ih=>intro d n hd;have:=ih (d+1) n tO;exact Pe hE hL9 tO (fun _=>this)
theorem Uo (hE:Fns E) (hL9:L≤9223372036854775800) (hn:244≤n):IP E L n 1:=by
 obtain ⟨m,rfl⟩:∃m,n=m+4*(60+1):=⟨n-244,by omega⟩
 exact wY hE hL9 60 1 m rfl
end
end Go.AJ
namespace Go.AJ
open Go
set_option maxRecDepth 100000
def zeroE:List V:= [vI 0,vI 0,.nils,vI 0,vI 0,.bool false,.nils,.str [],.nils,.nils,.nils]
def zeroS:List V:= [.nils,.nils,.nils,.nils,.nils,vI 0,vI 0,.nils,vI 0,vI 0,.bool false,.nils,.str [],.nils,.nils,.nils,vI 0,vI 0,.nils,vI 0,vI 0,.bool false,.nils,.str [],.nils,.nils,.nils,.nils,.nils,.nils,.nils,.nils,.nils,.nils,.bool false]
def zeroX:Va:=.mk (.ofNat 0) (.ofNat 0) false true 0 [] [] true 0 [] true 0 []
theorem Nx:zeroX.cells=Mt:=by simp only[zeroX,Va.cells,AC,slR,List.length_nil,and_self,if_true,Mt]
theorem Q8:zeroX.bulk=1:=by simp only[zeroX,Va.bulk,Av,List.length_nil]
section
variable {E:Env} {L n N:Nat} {h:Hp} {kc:KC} {t:T V} {d:Dc} {k:KE} {fi:FI} {c:KV} {C:As}
theorem Cnt.keeps {bm:K} {h h':Hp} (hC:Cnt bm h) (kk:Ae h h') (hn:bm.num<(nxt h).num):Cnt bm h':=by obtain ⟨z,hz⟩:=hC;exact ⟨z,(kk.old _ hn).trans hz⟩
theorem Aat (hE:Fns E) (hV:IP E L n 1) {bm b2:K} (h2:b2≠bm):
  kq E L (n+1) bm 191 [.ptr b2 0] (fun x=>x.bulk≤L) (fun h=>blk h b2=.cells [.ptr bm 0]∧b2.num<(nxt h).num):=by
 intro x h kc hP ⟨m2,n2⟩ hC hn hk;have l7:=x.cells_length;have k1:Ae h (h.upd (nxt h) (.cells x.cells)).bump:=(Ae.refl h).new _;rw[Ag hE.f164,AcO,Abm,nA,nt];refine Sst (J2 m2 @Ax) ?_;refine hV x _ _ bm hP (hC.keeps k1 hn) tN (fun b h3 C3 K3=>?_);have K4:=k1.but.trans K3;refine AV ?_;exact hk _ h3 ⟨(K4.old _ n2 (by simp [h2])).trans m2,K4.lt n2⟩ C3 K4
theorem tQ (hE:Fns E) (hV:IP E L n 1) {bm b2:K} (h2:b2≠bm) {b:Bool} {cp:Nat} {s:List St} (hbs:BH s≤L) (hL9:L≤9223372036854775800) (hls:s.length≤9223372036854775800) {h0:Hp}:∀(r:List St) (i M:Nat) (t:T V) (h:Hp),s.drop i=r→i+r.length=s.length→r.length+1≤M→blk h b2=.cells [.ptr bm 0]→b2.num<(nxt h).num→Cnt bm h→bm.num<(nxt h).num→Ac [bm] h0 h→
  tg 2 t=.ptr b2 0→tg 7 t=slR b cp (BZ s) s.length→tg 8 t=vI s.length→tg 9 t=vI i→
  (∀t1 h1,Cnt bm h1→Ac [bm] h0 h1→k (.exit 0) t1 d h1=true)→(∀t1 h1,Cnt bm h1→Ac [bm] h0 h1→tg 4 t1=.bool false→k .ret t1 d h1=true)→
  iter (exec (call E (L+3) (n+3)) (L+3) fi QT) M t d h k=true:=by
 intro r;induction r with
 |nil=>intro i M t h hr hi hM m2 n2 hC hn K0 g2 g7 g8 g9 hk hf;obtain ⟨M,rfl⟩:=pM M;have hi':(i<s.length)=False:=eq_false (by simp at hi;omega);rw[Ab,QT];refine Tst (J3 g8 g9 hi') ?_;exact hk _ _ hC K0
 |cons x r ih=>
  intro i M t h hr hi hM m2 n2 hC hn K0 g2 g7 g8 g9 hk hf;obtain ⟨M,rfl⟩:=pM M;simp only[List.length_cons] at hi hM;have hi':(i<s.length)=True:=eT;have e1:=fun c h=>AM (c:=c) (h:=h) (BX (Ak hr));have hxb:=Dn (List.mem_of_getElem? (Ak hr));have hxl:=AL x.l;rw[Ab,QT];refine Tst (J6 g2 g7 g8 g9 hi' e1) ?_;refine OT hE (n:=n+1) (Aat hE hV h2) tO tO (fun y hy=>by have:=HD hy;omega) ⟨m2,n2⟩ hC hn (fun b h1 Q1 C1 K1=>?_);cases b
  ·refine Sst g9 ?_;refine ih (i+1) _ _ _ (Ai hr) tO tO Q1.1 Q1.2 C1 (K1.lt hn) (K0.trans K1) ?_ ?_ ?_ ?_ hk hf
   ·exact Ssc g2
   ·exact Ssc g7
   ·exact Ssc g8
   ·exact Af
  ·refine AV ?_;exact hf _ _ C1 (K0.trans K1) Af
theorem box_ptr {b:K} {o:Nat}:Kq (.ptr b o) h c=c (.ptr (nxt h) 0) (h.upd (nxt h) (.cells [.ptr b o])).bump:=by simp only[Kq,Ba,Ar]
theorem uT (hE:Fns E) (hV:IP E L n 1) {bm:K} {b:Bool} {cp:Nat} {s:List St} (hbs:BH s≤L) (hL9:L≤9223372036854775800) (hls:s.length≤L) (hC:Cnt bm h) (hn:bm.num<(nxt h).num)
  (hk:∀b h1,Cnt bm h1→Ac [bm] h h1→kc (.ret (.bool b)) none h1=true):
  call E (L+3) (n+4) (.fn 127) [.ptr bm 0,slR b cp (BZ s) s.length] none h kc=true:=by
 have k1:Ae h (h.upd (nxt h) (.cells [.ptr bm 0])).bump:=kO;rw[Ag hE.f105,AcU,Abs,n8,nZ,nY];refine Sst (J2 @box_ptr @Ad) ?_;refine tQ hE hV (bm:=bm) (b2:=nxt h) (fun e=>by rw[e] at hn;omega) (b:=b) (cp:=cp) hbs hL9 tO (h0:=h) s 0 _ _ _ rfl tO tO ?_ tN (hC.keeps k1 hn) tN k1.but ?_ ?_ ?_ ?_ (fun t1 h1 C1 K1=>?_) (fun t1 h1 C1 K1 g4=>?_)
 ·exact Af
 ·exact Af
 ·exact Af
 ·exact Af
 ·exact Af
 ·refine AV ?_;exact hk _ h1 C1 K1
 ·refine Sst g4 ?_;exact hk _ h1 C1 K1
theorem FH (hE:Fns E) {bm:K} {a:Int}:call E (L+1) (n+1) (.fn 128) [.ptr bm 0,.int .i64 a,.nils] none h kc=kc (.ret (.bool true)) none h:=by rw[Ag hE.f106,AaK,AaC,X0,XZ,XY];simp -implicitDefEqProofs only[↓sD,sB,↓reduceIte,Nat.reduceEqDiff,Nat.reduceAdd,Ad,Ab,Nq,Nat.lt_irrefl,decide_false]
theorem tP (hE:Fns E) (hV:IP E L n 1) (hn1:1≤n) (hL1:1≤L) {bm b:K} {m:Nat} (hm:m≤100) (hb:b≠bm) {h0:Hp}:∀(j i M:Nat) (t:T V) (h:Hp),i+j=m→j+1≤M→blk h b=.cells (rep m zeroE)→b.num<(nxt h).num→Cnt bm h→bm.num<(nxt h).num→Ac [bm] h0 h→
  tg 0 t=.ptr bm 0→tg 1 t=vI 1→tg 9 t=.sl b 0 m m 0→tg 10 t=vI m→tg 11 t=vI i→
  (∀t1 h1,Cnt bm h1→Ac [bm] h0 h1→k (.exit 0) t1 d h1=true)→(∀t1 h1,Cnt bm h1→Ac [bm] h0 h1→tg 6 t1=.bool false→k .ret t1 d h1=true)→
  iter (exec (call E (L+3) n) (L+3) fi Nq) M t d h k=true:=by
 intro j;induction j with
 |zero=>intro i M t h hi hM mb nb hC hn K0 g0 g1 g9 g10 g11 hk hf;obtain ⟨M,rfl⟩:=pM M;have hi':(i<m)=False:=eF;rw[Ab,Nq];refine Tst (J3 g10 g11 hi') ?_;exact hk _ _ hC K0
 |succ j ih=>
  intro i M t h hi hM mb nb hC hn K0 g0 g1 g9 g10 g11 hk hf;obtain ⟨M,rfl⟩:=pM M;have hi':(i<m)=True:=eT;obtain ⟨z,hz⟩:=hC;have e1:∀(h:Hp) (c:KV),ldN (.cells (rep m zeroE)) (i*11) 11 h c=c (.agg zeroE) h:=fun h c=>Ic (by rw[show m=i+(j+1) by omega,UH,show i*11=(rep i zeroE).length from by rw[CJ];rfl,List.drop_left];simp only[rep];show (zeroE++rep j zeroE).take zeroE.length=zeroE;exact List.take_left) rfl;have e2:∀(h:Hp) (c:KV),ldN (.cells zeroE) 3 7 h c=c (.agg zeroX.cells) h:=fun h c=>by rw[Nx];exact Ic rfl rfl
  have e3:∀(h:Hp) (c:KV),ldB (.cells zeroE) 2 h c=c .nils h:=fun h c=>rfl;have e4:∀(h:Hp) (c:KV),ldB (.cells zeroE) 10 h c=c .nils h:=fun h c=>rfl;have lz:zeroE.length=11:=rfl;have e5:Am .i64 (.ofNat 1)=.ofNat 1:=rfl;have e6:Am .i64 (.ofNat 2)=.ofNat 2:=rfl;rw[Ab,Nq];obtain ⟨z',hz'⟩:∃z',Am .i64 (Int.sub z (.ofNat 1))=z':=⟨_,rfl⟩
  have hbn:b.num≠bm.num:=fun e=>hb (K.num_inj e);have k2:Ac [bm] h ((h.upd (nxt h) (.cells zeroE)).upd bm (.cells [.int .i64 z'])).bump:=by
   have:=(((Ac.refl [bm] h).new (.cells zeroE)).put (b:=bm) (.inr (by simp)) (.cells [.int .i64 z']))
   simpa only[CT] using this
  have c2:Cnt bm ((h.upd (nxt h) (.cells zeroE)).upd bm (.cells [.int .i64 z'])).bump:=⟨z',by rw[An,AE]⟩
  cases hneg:ltI z' (.ofNat 0)
  ·simp -implicitDefEqProofs (disch:=exact tD) only[↓sD,sB,↓reduceIte,Nat.reduceEqDiff,reduceCtorEq,Nat.reduceLT,Nat.reduceAdd,g0,g1,g9,g10,g11,hi',decide_true,decide_false,mb,e1,Bu,AX,hz,e3,e5,Nat.add_zero,hz',hneg,Nat.reduceLT,e2];refine hV zeroX _ _ bm (by rw[Q8];exact hL1) c2 tN (fun b3 h3 C3 K3=>?_);have n3:=K3.nx;simp only[nB] at n3;have K23:=k2.trans K3;have m8:=K3.old (nxt h) tN (by simp only[List.mem_cons,List.not_mem_nil,or_false];exact fun e=>by rw[e] at hn;omega);simp -implicitDefEqProofs (disch:=exact tD) only[sB] at m8;cases b3
   ·refine AV ?_;exact hf _ _ C3 (K0.trans K23) Af
   ·obtain ⟨n,rfl⟩:∃m,n=m+1:=⟨n-1,by have:=hn1;omega⟩
    simp -implicitDefEqProofs (disch:=exact tD) only[↓sD,sB,↓reduceIte,Nat.reduceEqDiff,reduceCtorEq,Nat.reduceAdd,g0,g1,g11,m8,e4,e6,FH hE];refine ih (i+1) M _ _ tO tO ?_ tO C3 tO (K0.trans K23) ?_ ?_ ?_ ?_ ?_ hk hf
    ·rw[K23.old b nb (by simp [hb])];exact mb
    ·exact Ssc g0
    ·exact Ssc g1
    ·exact Ssc g9
    ·exact Ssc g10
    ·exact Af
  ·simp -implicitDefEqProofs (disch:=exact tD) only[↓sD,sB,↓reduceIte,Nat.reduceEqDiff,reduceCtorEq,Nat.reduceAdd,g0,g9,g10,g11,hi',decide_true,mb,e1,Bu,AX,hz,e3,e5,Nat.add_zero,hz',hneg];exact hf _ _ c2 (K0.trans k2) Af
theorem jM (hE:Fns E) (hV:IP E L n 1) (hn1:1≤n) (hL1:1≤L) (hLL:102≤L) {bm b:K} {m:Nat} (hm:m≤100) (hb:b≠bm) (mb:blk h b=.cells (rep m zeroE)) (nb:b.num<(nxt h).num) (hC:Cnt bm h) (hn:bm.num<(nxt h).num)
  (hk:∀b h1,Cnt bm h1→Ac [bm] h h1→kc (.ret (.bool b)) none h1=true):
  call E (L+3) (n+1) (.fn 128) [.ptr bm 0,vI 1,.sl b 0 m m 0] none h kc=true:=by
 rw[Ag hE.f106,AaK,AaC,X0,XZ,XY];refine Sst @Ad ?_;refine tP hE hV hn1 hL1 hm hb (h0:=h) m 0 _ _ h tO tO mb nb hC hn (.refl _ _) ?_ ?_ ?_ ?_ ?_ (fun t1 h1 C1 K1=>?_) (fun t1 h1 C1 K1 g6=>?_)
 ·exact Af
 ·exact Af
 ·exact Af
 ·exact Af
 ·exact Af
 ·refine AV ?_;exact hk _ h1 C1 K1
 ·refine Sst g6 ?_;exact hk _ h1 C1 K1
end
end Go.AJ
namespace Go.AJ
open Go
set_option maxRecDepth 100000
section
variable {E:Env} {L n N:Nat} {h:Hp} {kc:KC} {t:T V} {d:Dc} {k:KE} {fi:FI} {c:KV} {C:As}
noncomputable def gA (v w:V) (z:List V) (h:Hp) (c:KV):Bool:=Ba v fun q=>BP q 11 (AN 0 z q fun z1=>Ba w fun q'=>BP q' 11 (AN 11 z1 q' fun z2=>Bw h (.cells z2) fun b h'=>c (.sl b 0 2 2 0) h'))
theorem tq {z:List V} {x y:X}:Gz t z [(0,11,x),(11,11,y)] 2 h c=gA (ev t x) (ev t y) z h c:=rfl
theorem RT:gA (.agg zeroE) (.agg zeroE) (zeroE++zeroE) h c=c (.sl (nxt h) 0 2 2 0) (h.upd (nxt h) (.cells (rep 2 zeroE))).bump:=by simp only[gA,Ba,zeroE,List.cons_append,List.nil_append,BP,AN,Hr,Ar,rep,List.append_nil]
theorem uU (hE:Fns E) (hV:IP E L n 1) (hn1:1≤n) (hLL:102≤L) {bm:K} (hC:Cnt bm h) (hn:bm.num<(nxt h).num)
  (hk:∀b h1,Cnt bm h1→Ac [bm] h h1→kc (.ret (.bool b)) none h1=true):
  call E (L+3) (n+2) (.fn 126) [.ptr bm 0,.agg zeroS] none h kc=true:=by
 obtain ⟨z,hz⟩:=hC;obtain ⟨z',hz'⟩:∃z',Am .i64 (Int.sub z (.ofNat 0))=z':=⟨_,rfl⟩
 have e0:Am .i64 (.ofNat 0)=.ofNat 0:=rfl;have ld:∀i∈ [0,1,2,3,4,27,28,29,30,31,32,33],∀(h:Hp) (c:KV),ldB (.cells zeroS) i h c=c .nils h:=by intro i hi h c;simp only[List.mem_cons,List.not_mem_nil,or_false] at hi;rcases hi with rfl|rfl|rfl|rfl|rfl|rfl|rfl|rfl|rfl|rfl|rfl|rfl<;>rfl
 have l0:=ld 0 (by simp);have l1:=ld 1 (by simp);have l2:=ld 2 (by simp);have l3:=ld 3 (by simp);have l4:=ld 4 (by simp);have l27:=ld 27 (by simp);have l28:=ld 28 (by simp);have l29:=ld 29 (by simp);have l30:=ld 30 (by simp);have l31:=ld 31 (by simp);have l32:=ld 32 (by simp);have l33:=ld 33 (by simp);have n5:∀(h:Hp) (c:KV),ldN (.cells zeroS) 5 11 h c=c (.agg zeroE) h:=fun h c=>Ic rfl rfl;have n16:∀(h:Hp) (c:KV),ldN (.cells zeroS) 16 11 h c=c (.agg zeroE) h:=fun h c=>Ic rfl rfl;rw[Ag hE.f104,AcV,Abt,ol,oj];refine Sst (J7 hz l0 l32 l29 e0 @Nat.add_zero hz') ?_;rw[oi,oh,og,oe,od,oc];have k2:Ac [bm] h ((h.upd (nxt h) (.cells zeroS)).upd bm (.cells [.int .i64 z'])).bump:=by
  have:=(((Ac.refl [bm] h).new (.cells zeroS)).put (b:=bm) (.inr (by simp)) (.cells [.int .i64 z']))
  simpa only[CT] using this
 have c2:Cnt bm ((h.upd (nxt h) (.cells zeroS)).upd bm (.cells [.int .i64 z'])).bump:=⟨z',by rw[An,AE]⟩
 simp -implicitDefEqProofs (disch:=exact tD) only[↓sD,sB,↓reduceIte,Nat.reduceEqDiff,Ad,Ab,pN,pL,pK,pJ,pI,pH,l1,l2,l3,l27,l28,l32,Nat.lt_irrefl,decide_false];rw[n9];refine Sst (J3 n5 n16 @tq) ?_;change gA (.agg zeroE) (.agg zeroE) (zeroE++zeroE) _ _=true;rw[RT];refine AV ?_;refine jM hE hV hn1 tO hLL (m:=2) tO (b:=(nxt h).succ) (fun e=>by rw[←e,K.num_succ] at hn;omega) Af tN ⟨z',Af⟩ tN (fun b h3 C3 K3=>?_);have k3:Ac [bm] h h3:=Ac.trans (k2.new (.cells (rep 2 zeroE))) (by simpa only[CT,Ay,Ap] using K3);have m3:=K3.old (nxt h) tN (by simp only[List.mem_cons,List.not_mem_nil,or_false];exact fun e=>by rw[←e] at hn;omega);simp -implicitDefEqProofs (disch:=exact tD) only[sB] at m3;cases b<;>(simp -implicitDefEqProofs (disch:=exact tD) only[↓sD,sB,↓reduceIte,Nat.reduceEqDiff,reduceCtorEq,m3,l4,l30,l31,l33,FH hE];exact hk _ h3 C3 k3)
theorem zT (hE:Fns E) (hn2:244≤n) (hLL:102≤L) (hL9:L≤9223372036854775800) {b:Bool} {cp:Nat} {s:List St} (hbs:BH s≤L) (hls:s.length≤L)
  (hk:∀b h1,Ae h h1→kc (.ret (.bool b)) none h1=true):
  call E (L+3) (n+5) (.fn 85) [.agg zeroS,slR b cp (BZ s) s.length,.nils] none h kc=true:=by
 have e1:∀(t:T V) (h:Hp) (c:KV),oMk t [vI 0] [(0,1,.c (vI 12000))] h c=c (.agg [vI 12000]) h:=fun _ _ _=>rfl;have lz:zeroS.length=35:=rfl;have hsub:∀{h1:Hp},Ac [(nxt h).succ] ((h.upd (nxt h) (.cells zeroS)).upd (nxt h).succ (.cells [vI 12000])).bump.bump h1→Ae h h1:=fun {h1} kk=>by have n1:=kk.nx;simp only[nB] at n1;refine ⟨by omega,fun c hc=>?_⟩;rw[kk.old c tN (by simp only[List.mem_cons,List.not_mem_nil,or_false];exact fun e=>by subst e;rw[K.num_succ] at hc;omega)];exact Af
 rw[Ag hE.f64,c64,r64,yb,ya,xY];refine Sst (J2 e1 @Ax) ?_;refine uU hE (n:=n+2) (Uo hE hL9 tO) tO hLL (bm:=(nxt h).succ) ⟨.ofNat 12000,Af⟩ tN (fun b1 h1 C1 K1=>?_);have n1:=K1.nx;simp only[nB] at n1;cases b1
 ·refine AV ?_;exact hk _ h1 (hsub K1)
 ·refine AV ?_;refine uT hE (n:=n) (Uo hE hL9 tO) hbs hL9 hls C1 tN (fun b2 h2 C2 K2=>?_);cases b2
  ·refine AV ?_;exact hk _ h2 (hsub (K1.trans K2))
  ·simp -implicitDefEqProofs (disch:=exact tD) only[↓sD,sB,↓reduceIte,Nat.reduceEqDiff,FH hE];exact hk _ h2 (hsub (K1.trans K2))
theorem zZ (hE:Fns E) (hn2:244≤n) (hLL:102≤L) (hL9:L≤9223372036854775800) {b:Bool} {cp:Nat} {s:List St} (hbs:BH s≤L) (hls:s.length≤L)
  (hk:∀b h1,Ae h h1→kc (.ret (.bool b)) none h1=true):
  call E (L+3) (n+6) (.fn 45) [.agg zeroS,slR b cp (BZ s) s.length] none h kc=true:=by
 have lz:zeroS.length=35:=rfl;have K0:Ae h (h.upd (nxt h) (.cells zeroS)).bump:=kO;rw[Ag hE.f31,c31,r31,yx,yw];refine Sst (J2 @Ax lz) ?_;refine zT hE hn2 hLL hL9 hbs hls (fun b h1 K1=>?_);refine AV ?_;exact hk _ h1 (K0.trans K1)
end
end Go.AJ
