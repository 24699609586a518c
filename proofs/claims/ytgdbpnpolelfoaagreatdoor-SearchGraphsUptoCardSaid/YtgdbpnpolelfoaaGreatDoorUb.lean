/- What is reached: the whole. -/
import Derived.Test.YtgdbpnpolelfoaaGreatDoorUa
import Derived.Test.YtgdbpnpolelfoaaGreatDoorWd
set_option linter.all false
namespace Go.AJ
open Go
set_option maxRecDepth 100000
inductive Rch (F st:Nat→Prop) (Ed:Nat→Nat→Prop):Nat→Prop
 |base {x:Nat} (h:F x):Rch F st Ed x
 |step {a b:Nat} (h:Rch F st Ed a) (hs:¬st a) (he:Ed a b):Rch F st Ed b
def Gr.rg (g:Gr) (f s:List Int):Nat→Prop:=Rch (fun x=>Int.ofNat x∈f) (fun x=>Int.ofNat x∈s) (fun a b=>(Int.ofNat a,Int.ofNat b)∈g.edges)
theorem Ae.fresh {h H h2:Hp} {S:List K} (a:Ae h H) (b:Ac S H h2) (hs:∀x∈S,(nxt h).num≤x.num):Ae h h2:=
 ⟨Nat.le_trans a.nx b.nx,fun x hx=>(b.old x (Nat.lt_of_lt_of_le hx a.nx) (fun q=>by have:=hs x q;omega)).trans (a.old x hx)⟩
theorem GD (l:List Nat):Bx l=(List.range l.length).map fun i=> .int .i64 (.ofNat (l.getD i 0)):=by
 apply List.ext_getElem
 ·simp [Bx]
 ·intro k h1 h2;rw[Ct] at h1;simp [Bx,List.getD_eq_getElem?_getD,List.getElem?_eq_getElem h1]
theorem HT (n:Nat):rep n [.bool false]=bls (List.replicate n false):=by rw[FW];simp [bls]
theorem j7 (l:List Bool):FL (.cells (bls l)) (bls l)=true:=EQ (by intro v hv;obtain ⟨b,_,rfl⟩:=List.mem_map.1 hv;rfl)
theorem ep:FL (.cells [.nils]) [.nils]=true:=EQ (by simp [flat])
section
variable {E:Env} {L n:Nat} {h:Hp} {kc:KC} {t:T V} {d:Dc} {k:KE} {fi:FI} {c:KV} {C:As}
theorem dY (hG:Sns E) (hk:kc (.ret (.tup [])) none h=true):call E (L+1) (n+8) (.fn 54) [.nils] none h kc=true:=by
 letI:IT:=⟨[]⟩
 rw[Ag hG.f1054,jV,fB,NX];have w1:Am .u64 (.ofNat 0)=.ofNat 0:=rfl;refine Tst w1 ?_;refine Lk (n:=n+5) hG (by decide) (fun l l1 _=>?_);refine Hj ?_;rw[Ag hG.f1092,d7,UJ,Kf,Ke];have u1:Am .i64 (Int.sub (.ofNat 0) (.ofNat 0))=.ofNat 0:=rfl;refine Tst @Ad ?_;rw[Ab,FN];have c1:(12<0)=False:=eF;refine Tst (J2 u1 c1) ?_;rw[Ag hG.f1135,jT,fu,NR];have e1:Am .i64 (Int.add (.ofNat 0) (.ofNat 1))=.ofNat 1:=rfl;have c2:(1<0)=False:=eF;refine Tst (J2 e1 @Ad) ?_;rw[Ab,GS];refine Tst c2 ?_;exact hk
theorem xf (hE:Fns E) (hF:Hns E) (hG:Sns E) {o:List K} {sv:V} {l:List Nat} (S:Slz h o sv l) (hl:l.length≤60000) (hL:l.length+5≤L) (hn:l.length+8≤n) (hnd:l.Pairwise (·≠·))
  (hk:∀h1 l1,Ac o h h1→Slz h1 o sv l1→(∀p q,p<q→q<l1.length→l1.getD p 0<l1.getD q 0)→(∀x,x∈l1↔x∈l)→kc (.ret (.tup [])) none h1=true):
  call E (L+1) n (.fn 54) [sv] none h kc=true:=by
 rcases Sl.inv S with ⟨ho,hs,h0,_⟩|⟨b,cp,rest,ho,hs,hb,hq,hr,hle,hcp,hnb⟩
 ·obtain ⟨n,rfl⟩:∃m,n=m+8:=⟨n-8,by omega⟩
  rw[hs];refine dY hG ?_;exact hk h l (.refl _ _) S (fun p q _ q2=>by omega) (fun x=>Iff.rfl)
 ·obtain ⟨n,rfl⟩:∃m,n=m+l.length+8:=⟨n-l.length-8,by omega⟩
  letI:IT:=⟨rest⟩
  have mb:blk h b=.cells (Az (fun i=>l.getD i 0) l.length):=by rw[hb,GD];rfl
  rw[hs];refine jQ hE hF hG (N:=l.length) (A:=fun i=>l.getD i 0) (Nat.le_refl _) hl hL mb hnb (fun h1 A1 s1 S1 K1 mb1=>?_);have hmem:∀x,(∃i,i<l.length∧l.getD i 0=x)↔x∈l:=fun x=>by
   constructor
   ·rintro ⟨i,hi,e⟩;rw[List.getD_eq_getElem?_getD,List.getElem?_eq_getElem hi] at e;exact e▸List.getElem_mem hi
   ·intro hx;obtain ⟨i,hi,e⟩:=List.getElem_of_mem hx;exact ⟨i,hi,by rw[List.getD_eq_getElem?_getD,List.getElem?_eq_getElem hi];exact e⟩
  have hinj:∀p q,p<l.length→q<l.length→l.getD p 0=l.getD q 0→p=q:=fun p q hp hq e=>by
   rw[List.getD_eq_getElem?_getD,List.getD_eq_getElem?_getD,List.getElem?_eq_getElem hp,List.getElem?_eq_getElem hq] at e;rcases Nat.lt_trichotomy p q with z|z|z
   ·exact absurd e (List.pairwise_iff_getElem.1 hnd p q hp hq z)
   ·exact z
   ·exact absurd e.symm (List.pairwise_iff_getElem.1 hnd q p hq hp z)
  have len1:((List.range l.length).map A1).length=l.length:=by simp
  have get1:∀i,i<l.length→((List.range l.length).map A1).getD i 0=A1 i:=fun i hi=>by simp [List.getD_eq_getElem?_getD,hi]
  refine hk h1 ((List.range l.length).map A1) (ho▸K1) ?_ (fun p q hp hq=>?_) (fun x=>?_)
  ·rw[ho,hs];unfold Slz;rw[len1];refine .row b l.length cp _ rest ?_ (by rw[Ct,len1,Nat.mul_one]) hr hle hcp (K1.lt hnb);rw[mb1];simp only[Az,Bx,List.map_map];rfl
  ·rw[len1] at hq;rw[get1 p tO,get1 q hq];have h1:=s1 p q (Nat.zero_le _) hp hq;have h2:A1 p≠A1 q:=fun e=>by have:=S1.inj (Nat.le_refl _) hinj p q tO hq e;omega
   omega
  ·rw[←hmem x,←S1.mem (Nat.le_refl _) x];simp only[List.mem_map,List.mem_range]
theorem jS (hE:Fns E) (hF:Hns E) (hG:Sns E) (hL9:L≤9223372036854775700) (hLL:110000≤L) {g:Gr} (hn:20200≤n) (hok:g.ok=true) (hb:g.bulk≤L) (hb2:g.bulk≤20000000) {fb sb:Bool} {fc sc:Nat} {f s:List Int} (hf:f.length≤400) (hs:s.length≤400)
  (hbad:(f.any (Cq g.states.length)||s.any (Cq g.states.length))=true→∀h1,Ae h h1→kc (.ret (.tup [.nils,vI 1])) none h1=true)
  (hk:f.any (Cq g.states.length)=false→s.any (Cq g.states.length)=false→∀h1 o v l,Ae h h1→Slz h1 o v l→(∀b∈o,(nxt h).num≤b.num)→l.length≤20000→(∀p q,p<q→q<l.length→l.getD p 0<l.getD q 0)→(∀x,x∈l↔g.rg f s x)→(∀x∈l,x<g.states.length)→kc (.ret (.tup [v,vI 0])) none h1=true):
  call E (L+8) (n+7) (.fn 16) [.agg g.cells,slR fb fc (AH f) f.length,slR sb sc (AH s) s.length] none h kc=true:=by
 have l3:=g.cells_length;obtain ⟨c1,c2,c3,c4,c5,c6⟩:=Gr.ok_parts hok;have K0:Ae h (h.upd (nxt h) (.cells g.cells)).bump:=kO;rw[Ag hG.f1016,jW,fC,N5,N4,ZY,ZX,ZW,ZV,ZU,ZT,ZS,ZR,PU,PT,PS,PQ];refine Sst (J2 @Ax l3) ?_;refine QA hE (L:=L) (n:=n) tO tO hb hb2 (fun h1 K1=>?_);have nb1:=K1.nx;simp only[nB] at nb1;have m1:=K1.old (nxt h) tN;simp -implicitDefEqProofs (disch:=exact tD) only[↓sD,sB,↓reduceIte,Nat.reduceEqDiff,reduceCtorEq,Nat.reduceLT,Nat.reduceMul,Nat.reduceAdd] at m1;have K01:=K0.trans K1;rw[hok];refine AV ?_;refine QI hE (L:=L+7) (n:=n+3) (fun x kc=>QH hG m1) tO tO ?_;cases hfa:f.any (Cq g.states.length) with
 |true=>refine AV ?_;exact hbad (by rw[hfa];rfl) h1 K01
 |false=>
 refine AV ?_;refine QI hE (L:=L+7) (n:=n+3) (fun x kc=>QH hG m1) tO tO ?_;cases hsa:s.any (Cq g.states.length) with
 |true=>refine AV ?_;exact hbad (by rw[hsa,Bool.or_true]) h1 K01
 |false=>
 have m1':=m1;simp only[Gr.cells] at m1';have em:∀(h:Hp) (c:KV),Bf (vI g.states.length) (vI g.states.length) [.bool false] 1 h c=c (.sl (nxt h) 0 g.states.length g.states.length 0) (h.upd (nxt h) (.cells (bls (List.replicate g.states.length false)))).bump:=fun h c=>by rw[GA tO,HT]
 have em2:∀(h:Hp) (c:KV),Bf (vI g.states.length) (vI g.states.length) [.nils] 24 h c=c (.sl (nxt h) 0 g.states.length g.states.length 0) (h.upd (nxt h) (.cells (rep g.states.length [.nils]))).bump:=fun h c=>by rw[GA tO]
 have e5:∀(v w:V) (h:Hp) (b:K) (f:Hp→Bool),stB (.cells [w]) b 0 [v] h f=f (h.upd b (.cells [v])):=fun v w h b f=>C5 (Nat.zero_lt_succ _);have lrep:∀(b:Bool),(List.replicate g.states.length b).length=g.states.length:=fun b=>List.length_replicate ..;have emc:∀(h:Hp) (b:K),AaF (vI g.states.length) (vI g.states.length) [.bool false] 1 h (.sl b 0 g.states.length g.states.length 0)=FL (blk h b) (bls (List.replicate g.states.length false)):=fun h b=>by rw[gw tO,HT,EP]
 refine Sst (J7 m1' em e5 @Ad emc j7 ep) ?_;refine SU (bs:=nxt h1) (nn:=g.states.length) (b:=sb) (cp:=sc) (f:=s) tO hsa s 0 _ _ _ (List.replicate g.states.length false) rfl tO tO (lrep _) (.refl _ _) Af Af Af Af Af (fun t2 h2 K2 ms2 kp2=>?_);have k2:Ae h1 h2:=Ae.fresh kO K2 (by simp);have nx2:=K2.nx;simp only[nB] at nx2;have mm2:=K2.old (nxt h1).succ tN (by simp only[List.mem_singleton];exact fun e=>by have:=congrArg K.num e;rw[K.num_succ] at this;omega);have mc2:=K2.old (nxt h1).succ.succ tN (by simp only[List.mem_singleton];exact fun e=>by have:=congrArg K.num e;rw[K.num_succ,K.num_succ] at this;omega);have mg2:=(k2.old (nxt h) tO).trans m1';simp -implicitDefEqProofs (disch:=exact tD) only[↓sD,sB,↓reduceIte,Nat.reduceEqDiff,reduceCtorEq,Nat.reduceLT,Nat.reduceMul,Nat.reduceAdd] at mm2 mc2;have q1:=kp2 1 (by simp);have q3:=kp2 3 (by simp);have q9:=kp2 9 (by simp);have q10:=kp2 10 (by simp);simp -implicitDefEqProofs (disch:=exact tD) only[↓sD,sB,↓reduceIte,Nat.reduceEqDiff,reduceCtorEq,Nat.reduceLT,Nat.reduceMul,Nat.reduceAdd] at q1 q3 q9 q10;clear kp2;have k2w:Ae h2 (h2.upd (nxt h2) (.cells (rep g.states.length [.nils]))).bump:=(Ae.refl h2).new _;have mg2w:=(k2w.old (nxt h) tO).trans mg2;refine Sst (J8 q1 q3 q9 q10 mg2 em2 mg2w @Ad) ?_;refine ST (bw:=nxt h2) (g:=g) (nn:=g.states.length) tO c2 (Df _ c6) tN g.edges 0 _ _ _ (fun _=> []) (rep g.states.length [.nils]) (fun _=> []) rfl tO tO (.refl _ _) ⟨Af,?_,fun i hi=>?_,fun i hi b hb=>(nomatch hb),fun i j _ _ _ b hb=>(nomatch hb),fun i hi=>Nat.le_refl _⟩ Af Af Af Af (fun t3 h3 ws os K3 Q3 kp3=>?_)
 ·rw[CJ];simp
 ·rw[FW,show (List.replicate g.states.length V.nils).getD i und=V.nils from by simp [List.getD_eq_getElem?_getD,hi]];exact Sl.nil
 have k3:Ae h1 h3:=(k2.trans k2w).fresh K3 (fun x hx=>by rw[List.mem_singleton.1 hx];exact k2.nx);have nx3:=K3.nx;simp only[nB] at nx3;have nx2':=k2.nx;have ne2:∀b:K,b.num<(nxt h2).num→b∉ [nxt h2]:=fun b hb q=>by rw[List.mem_singleton.1 q] at hb;omega
 have old3:∀b:K,b.num<(nxt h2).num→blk h3 b=blk h2 b:=fun b hb=>(K3.old b (by have:=k2w.nx;omega) (ne2 b hb)).trans (k2w.old b hb);have w1:=kp3 1 (by simp);have w9:=kp3 9 (by simp);have w10:=kp3 10 (by simp);have w13:=kp3 13 (by simp);simp -implicitDefEqProofs (disch:=exact tD) only[↓sD,sB,↓reduceIte,Nat.reduceEqDiff,reduceCtorEq,Nat.reduceLT,Nat.reduceMul,Nat.reduceAdd,q1,q9,q10] at w1 w9 w10 w13;clear kp3
 have k3n:Ae h3 (h3.upd (nxt h3) (.cells [.nils])).bump:=(Ae.refl h3).new _;have nH:(nxt (h3.upd (nxt h3) (.cells [.nils])).bump).num=(nxt h3).num+1:=by rw[Ay,Ap,K.num_succ]
 have mlH:blk (h3.upd (nxt h3) (.cells [.nils])).bump (nxt h3)=.cells [.nils]:=by rw[An,AE]
 refine Sst (J5 w1 w9 w10 w13 @Ad) ?_;generalize (h3.upd (nxt h3) (.cells [.nils])).bump=H at k3n nH mlH;have kH:Ae h1 H:=k3.trans k3n;have nbs:(nxt h1).num<(nxt H).num:=tO;have nbm:(nxt h1).succ.num<(nxt H).num:=by rw[K.num_succ];omega
 have nbc:(nxt h1).succ.succ.num<(nxt H).num:=by rw[K.num_succ,K.num_succ];omega
 have oldH:∀b:K,b.num<(nxt h2).num→blk H b=blk h2 b:=fun b hb=>(k3n.old b tO).trans (old3 b hb);have msH:=(oldH (nxt h1) tO).trans ms2;have mmH:=(oldH (nxt h1).succ (by rw[K.num_succ];omega)).trans mm2;have mcH:=(oldH (nxt h1).succ.succ (by rw[K.num_succ,K.num_succ];omega)).trans mc2;have mwH:blk H (nxt h2)=.cells ws:=(k3n.old (nxt h2) tO).trans Q3.mw;have nk:∀{a b:K},a.num≠b.num→a≠b:=fun h e=>h (congrArg K.num e);have RCH:RC H (nxt h1).succ.succ (nxt h1).succ (nxt h3) g.states.length:=⟨mcH,nbc,nbm,by omega,nk (by simp only[K.num_succ];omega),nk (by simp only[K.num_succ];omega),nk (by simp only[K.num_succ];omega)⟩
 refine SS hG (L:=L+7) (n:=n+5) (h0:=H) (bc:=(nxt h1).succ.succ) (bm:=(nxt h1).succ) (bl:=nxt h3) (nn:=g.states.length) tO RCH (b:=fb) (cp:=fc) tO hfa f 0 _ _ _ (List.replicate g.states.length false) [] [] .nils rfl tO tO ⟨.refl _ _,mmH,mlH,Sl.nil,fun b hb=>(nomatch hb),lrep _,?_,fun i=>?_,.nil⟩ Af Af Af Af (fun t4 h4 met4 o4 sv4 R4 kp4=>?_)
 ·have:∀m,pa (List.replicate m false)=0:=fun m=>by induction m with|zero=>rfl|succ m ih=>exact ih
  exact this _
 ·rw[List.getD_eq_getElem?_getD,List.getElem?_replicate];split<;>simp
 have v9:=kp4 9 (by simp);have v13:=kp4 13 (by simp);have v16:=kp4 16 (by simp);have v17:=kp4 17 (by simp);simp -implicitDefEqProofs (disch:=exact tD) only[↓sD,sB,↓reduceIte,Nat.reduceEqDiff,reduceCtorEq,Nat.reduceLT,Nat.reduceMul,Nat.reduceAdd,w9,w13] at v9 v13 v16 v17;clear kp4;have hst:=HL s (List.replicate g.states.length false) (by rw[lrep];exact ER hsa);have hst2:∀a,(Gs s (List.replicate g.states.length false)).getD a false=true↔Int.ofNat a∈s:=fun a=>by rw[hst a];exact ⟨fun q=>q.resolve_left fun z=>by rw[List.getD_eq_getElem?_getD,List.getElem?_replicate] at z;split at z<;>simp at z,.inr⟩
 have hed:=Df _ c6;have hW:∀a b,b∈kw g.edges (fun _=> []) a↔(Int.ofNat a,Int.ofNat b)∈g.edges:=fun a b=>by
  rw[P9];constructor
  ·rintro (q|⟨e,he,e1,e2⟩)
   ·cases q
   ·obtain ⟨x,y,rfl,_,_⟩:=hed e he;simp only[show (Int.ofNat x).toNat=x from rfl,show (Int.ofNat y).toNat=y from rfl] at e1 e2;rw[←e1,←e2];exact he
  ·exact fun q=> .inr ⟨_,q,rfl,rfl⟩
 have hlt:∀i,i<g.states.length→∀x∈kw g.edges (fun _=> []) i,x<g.states.length:=fun i _ x hx=>by obtain ⟨a,b,e,_,hb⟩:=hed _ ((hW i x).1 hx);have:=Int.ofNat.inj (Prod.mk.inj e).2;omega
 have hff:∀x,x∈f.map Int.toNat↔Int.ofNat x∈f:=fun x=>by
  rw[List.mem_map];constructor
  ·rintro ⟨y,hy,e⟩;obtain ⟨a,rfl,_⟩:=ER hfa y hy;exact e▸hy
  ·exact fun q=>⟨_,q,rfl⟩
 refine Sst (J5 v9 v13 v16 v17 @Ad) ?_;refine SP hG (L:=L+7) (n:=n+5) (h0:=H) (bc:=(nxt h1).succ.succ) (bm:=(nxt h1).succ) (bl:=nxt h3) (bs:=nxt h1) (bw:=nxt h2) (nn:=g.states.length) tO RCH nbs tO (nk (by simp only[K.num_succ];omega)) (nk tO) (nk (by simp only[K.num_succ];omega)) (nk tO) msH (by rw[Eu,lrep]) mwH Q3.len (fun i hi=>(Q3.S i hi).keep (fun b hb=>k3n.old b ((Q3.S i hi).lt b hb)) k3n.nx) (fun i hi b hb=>?_) (fun i hi=>Nat.le_trans (Q3.cap i hi) tO) (fun i hi=>Nat.le_trans (Q3.cap i hi) tO) hlt (R:=g.rg f s) (fun a b ra rs rb=> .step ra (fun q=>by rw[(hst2 a).2 q] at rs;cases rs) ((hW a b).1 rb)) g.states.length 0 _ _ h4 met4 _ o4 sv4 (Nat.zero_add _) tO (Nat.zero_le _) R4 (fun x hx=>?_) (fun i hi=>absurd hi (Nat.not_lt_zero _)) (Ssc v9) (Ssc v13) (Ssc v16) (Ssc v17) Af (fun t5 h5 met5 l5 o5 sv5 R5 hl5 hi5 hc5 u16=>?_)
 ·have z1:=Q3.own i hi b hb;have z2:=(Q3.S i hi).lt b hb;simp only[nB] at z1;exact ⟨nk (by simp only[K.num_succ];omega),nk tO⟩
 ·rcases CM.1 hx with q|q
  ·cases q
  ·exact .base ((hff x).1 q)
 have ml5:=R5.ml;have nx5:=R5.kp.nx;have e4:∀(v:V) (h:Hp) (c':KV),ldB (.cells [v]) 0 h c'=c' v h:=fun v h c'=>BS rfl;have hle5:=R5.le;refine Sst (J3 u16 ml5 e4) ?_;refine xf hE hF hG (L:=L+7) (n:=n+6) R5.S tO tO tO R5.nd (fun h6 l6 K6 S6 srt6 mem6=>?_);have ho5:nxt h3∉o5:=fun q=>by have:=R5.own _ q;omega
 have ml6:blk h6 (nxt h3)=.cells [sv5]:=(K6.old (nxt h3) tO ho5).trans ml5;refine Sst (J3 u16 ml6 e4) ?_;have K15:Ae h1 h5:=kH.fresh R5.kp (fun x hx=>by
  simp only[List.mem_cons,List.not_mem_nil,or_false] at hx;rcases hx with rfl|rfl
  ·rw[K.num_succ];omega
  ·exact k3.nx)
 have K16:Ae h1 h6:=K15.fresh K6 (fun x hx=>by have:=R5.own x hx;have:=kH.nx;omega);have n01:=K01.nx;have hmem:∀x,x∈l5↔g.rg f s x:=fun x=>⟨hl5 x,fun r=>by
  induction r with
  |base hx=>exact hi5 _ (CM.2 (.inr ((hff _).2 hx)))
  |step _ hs he ih=>exact hc5 _ ih (by
    cases q:(Gs s (List.replicate g.states.length false)).getD _ false
    ·rfl
    ·exact absurd ((hst2 _).1 q) hs) _ ((hW _ _).2 he)⟩
 have hll:l6.length≤20000:=by
  have e1:=(Sl.inv S6)
  have e2:=(Sl.inv R5.S)
  rcases e1 with ⟨_,_,z,_⟩|⟨b,cp,rest,_,hs1,_⟩
  ·omega
  ·rcases e2 with ⟨_,hs2,_,_⟩|⟨b2,cp2,rest2,_,hs2,_⟩
   ·rw[hs1] at hs2;cases hs2
   ·rw[hs1] at hs2;injection hs2 with _ _ z
    omega
 exact hk (by first|rfl|assumption) (by first|rfl|assumption) h6 o5 sv5 l6 (K01.trans K16) S6 (fun b hb=>by have:=R5.own b hb;have:=kH.nx;omega) hll srt6 (fun x=>(mem6 x).trans (hmem x)) (fun x hx=>R5.lt ((mem6 x).1 hx))
end
end Go.AJ
