/- What is reached: lists and ways. -/
import Derived.Test.YtgdbpnpolelfoaaGreatDoorTc
import Derived.Test.YtgdbpnpolelfoaaGreatDoorWd
set_option linter.all false
namespace Go.AJ
open Go
set_option maxRecDepth 100000
def Cq (n:Nat) (x:Int):Bool:=ltI x (.ofNat 0)|| !ltI x (.ofNat n)
def Slz (h:Hp) (o:List K) (s:V) (l:List Nat):Prop:=Sl h 1 o s l.length (Bx l)
theorem Slz.keep {h h':Hp} {o:List K} {s:V} {l:List Nat} (S:Slz h o s l) (ho:∀b∈o,blk h' b=blk h b) (hn:(nxt h).num≤(nxt h').num):Slz h' o s l:=Sl.keep S ho hn
theorem Slz.lt {h:Hp} {o:List K} {s:V} {l:List Nat} (S:Slz h o s l):∀b∈o,b.num<(nxt h).num:=Sl.lt S
theorem MU (l:List Nat) (x:Nat):Bx (l++ [x])=Bx l++ [vI x]:=by simp [Bx]
section
variable {E:Env} {L n:Nat} {h:Hp} {kc:KC} {t:T V} {d:Dc} {k:KE} {fi:FI} {c:KV} {C:As}
theorem EF {o:List K} {s:V} {l:List Nat} (S:Slz h o s l) {h1:Hp}:GX .sl s h1 c=c (vI l.length) h1:=Ib S
theorem GE {o:List K} {s:V} {l:List Nat} (S:Slz h o s l) {i:Nat} (hi:i<l.length):∃b,o= [b]∧(∀(h1:Hp) (c:KV),Jq s (vI i) 1 h1 c=c (.ptr b i) h1)∧∀(h1:Hp) (c:KV),blk h1 b=blk h b→BU (.ptr b i) h1 c=c (vI (l.getD i 0)) h1:=by
 rcases Sl.inv S with ⟨_,_,h0,_⟩|⟨b,cp,rest,ho,hs,hb,_,_,_,_,_⟩
 ·omega
 ·refine ⟨b,ho,fun h1 c=>?_,fun h1 c e=>?_⟩
  ·rw[hs,AA hi,Nat.mul_one,Nat.zero_add]
  ·refine gY (e.trans hb) ?_;rw[List.getElem?_append_left (by rw[Ct];exact hi)];simp [Bx,List.getD_eq_getElem?_getD,List.getElem?_eq_getElem hi]
theorem Mp {o:List K} {sv:V} {l:List Nat} {x:Nat} {kv:KV} {bn:K} {H:Hp} (en:bn=nxt h) (eH:H=(h.upd bn (.cells [vI x])).bump) (S:Slz h o sv l) (hp:l.length≤1000000)
  (hk:∀o' s' h',Slz h' o' s' (l++ [x])→Wr o h o' h'→kv s' h'=true):
  eQ (some [vI 0]) sv (.sl bn 0 1 1 0) 1 8 H kv=true:=by
 subst en eH;have k4:Ae h (h.upd (nxt h) (.cells [vI x])).bump:=(Ae.refl h).new _;have e4:blk (h.upd (nxt h) (.cells [vI x])).bump (nxt h)=.cells [vI x]:=by rw[An,AE]
 refine Gg (sz:=0) (Sl.keeps S k4) (new:= [vI x]) (m:=1) (fun f=>?_) rfl rfl tO (fun o5 s5 h5 S5 w5=>?_)
 ·exact DK (q:= [vI x]) (f:=fun l=>f 1 l) e4 rfl rfl
 refine hk o5 s5 h5 ?_ ((k4.wr o).trans w5);rw[←MU] at S5;unfold Slz;rw[List.length_append];exact S5
noncomputable def mk1 (z v:V) (h:Hp) (c:KV):Bool:=Ba v fun q=>BP q 1 (AN 0 [z] q fun z'=>Bw h (.cells z') fun b h'=>c (.sl b 0 1 1 0) h')
theorem GB {z:V} {x:X}:Gz t [z] [(0,1,x)] 1 h c=mk1 z (ev t x) h c:=rfl
theorem Dk {z:V} {k:IntKind} {x:Int}:mk1 z (.int k x) h c=c (.sl (nxt h) 0 1 1 0) (h.upd (nxt h) (.cells [.int k x])).bump:=by show Bw h (.cells [.int k x]) (fun b h'=>c (.sl b 0 1 1 0) h')=_;rw[Ar]
noncomputable def zO (v z:V) (h:Hp) (u:V):Bool:=match u with
 |.sl bb o l c p=>(match o with
  |0=>(match Nat.beq l 1 with
   |true=>(match Nat.beq c 1 with
    |true=>(match p with
     |0=>Ba v fun q=>BP q 1 (AN 0 [z] q fun z'=>GQ h bb z')
     |_+1=>false)
    |false=>false)
   |false=>false)
  |_+1=>false)
 |_=>false
theorem M8 {z u:V} {x:X}:Bg (.mkSl [z] [(0,1,x)] 1) t h u=zO (ev t x) z h u:=rfl
theorem jm {z:V} {k:IntKind} {x:Int} {bb:K}:zO (.int k x) z h (.sl bb 0 1 1 0)=FL (blk h bb) [.int k x]:=by simp only[zO,Nat.beq_refl,Bz F3,BP,AN,Hr,EP]
theorem Ac0 {k:IntKind} {x:Int}:FL (.cells [.int k x]) [.int k x]=true:=EQ (by simp [flat])
theorem QH (hG:Sns E) {g:Gr} {bg:K} (mb:blk h bg=.cells g.cells) {x:Int}:call E (L+1) (n+1) (.fn 52) [.int .i64 x,.ptr bg 0] none h kc=kc (.ret (.bool (Cq g.states.length x))) none h:=by simp only[Gr.cells] at mb;rw[Ag hG.f1052,wa,rG,YN,YM];cases h1:ltI x (.ofNat 0)<;>cases h2:ltI x (.ofNat g.states.length)<;>simp -implicitDefEqProofs (disch:=exact tD) only[↓sD,sB,↓reduceIte,Nat.reduceEqDiff,reduceCtorEq,Nat.reduceLT,Nat.reduceMul,Nat.reduceAdd,mb,h1,h2,Cq,Bool.or_false,Bool.or_true,Bool.not_true,Bool.not_false,Bool.or_self]
theorem gF (hE:Fns E) {f:Nat} {bg:K} {P:Int→Bool} (hP:∀(x:Int) (kc:KC),call E (L+1) (n+1) (.fn f) [.int .i64 x,.ptr bg 0] none h kc=kc (.ret (.bool (P x))) none h) {b:Bool} {cp:Nat} {s:List Int} (hs:s.length≤9223372036854775807):∀(r:List Int) (i M:Nat) (t:T V),s.drop i=r→i+r.length=s.length→r.length+1≤M→tg 0 t=slR b cp (AH s) s.length→tg 1 t=.fn f [] [.ptr bg 0]→tg 7 t=vI s.length→tg 8 t=vI i→
  (r.any P=false→∀t1,k (.exit 0) t1 d h=true)→(r.any P=true→∀t1 j,tg 4 t1=vI j→k .ret t1 d h=true)→
  iter (exec (call E (L+1) (n+1)) (L+1) fi IG) M t d h k=true:=by
 intro r;induction r with
 |nil=>intro i M t hr hi hM g0 g1 g5 g6 hk hb;obtain ⟨M,rfl⟩:=pM M;have hi':(i<s.length)=False:=eq_false (by simp at hi;omega);rw[Ab,IG];refine Tst (J3 g5 g6 hi') ?_;exact hk rfl _
 |cons x r ih=>
  intro i M t hr hi hM g0 g1 g5 g6 hk hb;obtain ⟨M,rfl⟩:=pM M;simp only[List.length_cons] at hi hM;have hi':(i<s.length)=True:=eT;have hx:s.getD i 0=x:=by rw[List.getD_eq_getElem?_getD,Ak hr];rfl
  have e1:=fun c h=>AM (c:=c) (h:=h) (Bp (l:=s) (i:=i) tO);simp only[hx] at e1;simp only[List.any_cons] at hk hb;rw[Ab,IG];cases h1:P x
  ·refine Tst (J8 g0 g1 g5 g6 hi' e1 hP h1) ?_;rw[h1,Bool.false_or] at hk hb;refine ih (i+1) _ _ (Ai hr) tO tO ?_ ?_ ?_ ?_ hk hb
   ·exact Ssc g0
   ·exact Ssc g1
   ·exact Ssc g5
   ·exact Af
  ·refine Tst (J8 g0 g1 g5 g6 hi' e1 hP h1) ?_;refine hb (by rw[h1];rfl) _ i Af
theorem QI (hE:Fns E) {f:Nat} {bg:K} {P:Int→Bool} (hP:∀(x:Int) (kc:KC),call E (L+1) (n+1) (.fn f) [.int .i64 x,.ptr bg 0] none h kc=kc (.ret (.bool (P x))) none h) {b:Bool} {cp:Nat} {s:List Int} (hs:s.length≤9223372036854775807) (hL:s.length≤L) (hk:kc (.ret (.bool (s.any P))) none h=true):
  call E (L+1) (n+3) (.fn 26) [slR b cp (AH s) s.length,.fn f [] [.ptr bg 0]] none h kc=true:=by
 rw[Ag hE.f313,AaI,AaA,U7,U6];refine AV ?_;rw[Ag hE.f453,AaH,Aaz,UZ,UY,UX];refine Sst @Ad ?_;refine gF hE hP hs (b:=b) (cp:=cp) s 0 _ _ rfl tO tO ?_ ?_ ?_ ?_ (fun hn t1=>?_) (fun hy t1 j g4=>?_)
 ·exact Af
 ·exact Af
 ·exact Af
 ·exact Af
 ·rw[hn] at hk;refine Sst @BG ?_;exact hk
 ·rw[hy] at hk;refine Tst (J2 g4 @Nat.not_lt_zero) ?_;exact hk
end
end Go.AJ
namespace Go.AJ
open Go
set_option maxRecDepth 100000
def pa:List Bool→Nat
 | []=>0
 |true::l=>pa l+1
 |false::l=>pa l
theorem OH:∀l:List Bool,pa l≤l.length
 | []=>Nat.le_refl _
 |true::l=>Nat.succ_le_succ (OH l)
 |false::l=>Nat.le_succ_of_le (OH l)
theorem KW:∀(l:List Bool) (x:Nat),x<l.length→l.getD x false=false→pa (l.set x true)=pa l+1
 | [],x,h,_=>absurd h (Nat.not_lt_zero _)
 |true::l,0,_,h=>by cases h
 |false::l,0,_,_=>rfl
 |true::l,x+1,h,e=>by have:=KW l x (Nat.lt_of_succ_lt_succ h) e;simp only[List.set_cons_succ,pa,this]
 |false::l,x+1,h,e=>KW l x (Nat.lt_of_succ_lt_succ h) e
theorem Bl {α:Type} {l:List α} {i k:Nat} {v d:α} (hi:i<l.length):(l.set i v).getD k d=if k=i then v else l.getD k d:=by
 rw[List.getD_eq_getElem?_getD,List.getD_eq_getElem?_getD];by_cases h:k=i
 ·subst h;rw[List.getElem?_set_self hi,if_pos rfl];rfl
 ·rw[List.getElem?_set_ne (Ne.symm h),if_neg h]
theorem ue {l:List Bool} {k:Nat} (h:l.getD k false=true):k<l.length:=by
 rcases Nat.lt_or_ge k l.length with h1|h1
 ·exact h1
 ·rw[List.getD_eq_getElem?_getD,List.getElem?_eq_none h1] at h;cases h
def eG (l:List Nat) (x:Nat):List Nat:=if x∈l then l else l++ [x]
theorem gB {l:List Nat} {x y:Nat}:y∈eG l x↔y∈l∨y=x:=by
 unfold eG;split
 ·exact ⟨.inl,fun h=>h.elim id fun e=>e▸(by assumption)⟩
 ·rw[List.mem_append,List.mem_singleton]
theorem fG (l:List Nat) (x:Nat):∃e,eG l x=l++e:=by
 unfold eG;split
 ·exact ⟨[],(List.append_nil l).symm⟩
 ·exact ⟨[x],rfl⟩
def Gj (l ys:List Nat):List Nat:=ys.foldl eG l
theorem CM:∀{ys l:List Nat} {y:Nat},y∈Gj l ys↔y∈l∨y∈ys
 | [],l,y=>by simp [Gj]
 |x::ys,l,y=>by show y∈Gj (eG l x) ys↔_;rw[CM,gB,List.mem_cons,or_assoc]
theorem Jj:∀(ys l:List Nat),∃e,Gj l ys=l++e
 | [],l=>⟨[],(List.append_nil l).symm⟩
 |x::ys,l=>by obtain ⟨e1,h1⟩:=fG l x;obtain ⟨e2,h2⟩:=Jj ys (eG l x);exact ⟨e1++e2,by rw[show Gj l (x::ys)=Gj (eG l x) ys from rfl,h2,h1,List.append_assoc]⟩
structure RC (h0:Hp) (bc bm bl:K) (nn:Nat):Prop where
 mc:blk h0 bc=.cells [.sl bm 0 nn nn 0]
 nc:bc.num<(nxt h0).num
 nm:bm.num<(nxt h0).num
 nl:bl.num<(nxt h0).num
 cm:bc≠bm
 cl:bc≠bl
 ml:bm≠bl
structure RS (h0 h:Hp) (bm bl:K) (nn:Nat) (met:List Bool) (l:List Nat) (o:List K) (sv:V):Prop where
 kp:Ac [bm,bl] h0 h
 mm:blk h bm=.cells (bls met)
 ml:blk h bl=.cells [sv]
 S:Slz h o sv l
 own:∀b∈o,(nxt h0).num≤b.num
 len:met.length=nn
 cnt:pa met=l.length
 iff:∀k,met.getD k false=true↔k∈l
 nd:l.Pairwise (·≠·)
theorem RS.le {h0 h:Hp} {bm bl:K} {nn:Nat} {met:List Bool} {l:List Nat} {o:List K} {sv:V} (R:RS h0 h bm bl nn met l o sv):l.length≤nn:=by rw[←R.cnt,←R.len];exact OH met
theorem RS.lt {h0 h:Hp} {bm bl:K} {nn:Nat} {met:List Bool} {l:List Nat} {o:List K} {sv:V} (R:RS h0 h bm bl nn met l o sv) {x:Nat} (hx:x∈l):x<nn:=by rw[←R.len];exact ue ((R.iff x).2 hx)
section
variable {E:Env} {L n:Nat} {h:Hp} {kc:KC} {t:T V} {d:Dc} {k:KE} {fi:FI} {c:KV} {C:As}
theorem QG (hG:Sns E) {h0:Hp} {bc bm bl:K} {nn:Nat} (hn:nn≤1000000) (Q:RC h0 bc bm bl nn) {met:List Bool} {l:List Nat} {o:List K} {sv:V} (R:RS h0 h bm bl nn met l o sv) {x:Nat} (hx:x<nn)
  (hk:∀h1 met1 o1 sv1,RS h0 h1 bm bl nn met1 (eG l x) o1 sv1→kc (.ret (.tup [])) none h1=true):
  call E (L+1) (n+1) (.fn 53) [vI x,.ptr bc 0,.ptr bl 0] none h kc=true:=by
 have mc:blk h bc=.cells [.sl bm 0 nn nn 0]:=(R.kp.old bc Q.nc (by simp [Q.cm,Q.cl])).trans Q.mc;have mm:=R.mm;have ml:=R.ml;have hxl:x<met.length:=by rw[R.len];exact hx
 have nx0:=R.kp.nx;have e4:∀(v:V) (h:Hp) (c':KV),ldB (.cells [v]) 0 h c'=c' v h:=fun v h c'=>BS rfl;have e5:∀(v w:V) (h:Hp) (f:Hp→Bool),stB (.cells [w]) bl 0 [v] h f=f (h.upd bl (.cells [v])):=fun v w h f=>C5 (Nat.zero_lt_succ _);have e6:=fun (h:Hp) (c:KV)=>GC (l:=met) (h:=h) (c:=c) hxl;have e7:∀(h:Hp) (f:Hp→Bool),stB (.cells (bls met)) bm x [.bool true] h f=f (h.upd bm (.cells (bls (met.set x true)))):=fun h f=>by rw[C5 (by rw[Fa];exact hxl),Ln]
 rw[Ag hG.f1053,vY,rF,YL];by_cases hm:met.getD x false=true
 ·refine Tst (J10 mc mm e4 e6 hx hm @AA @Nat.mul_one @Nat.zero_add hx) ?_;have e:eG l x=l:=if_pos ((R.iff x).1 hm);exact hk h met o sv (by rw[e];exact R)
 ·have hm':met.getD x false=false:=by cases q:met.getD x false;rfl;exact absurd q hm
  have hxn:¬x∈l:=fun q=>hm ((R.iff x).2 q);have ea:eG l x=l++ [x]:=if_neg hxn;have mc2:∀X,blk (h.upd bm X) bc=.cells [.sl bm 0 nn nn 0]:=fun X=>by rw[Al,if_neg Q.cm];exact mc
  have ml2:∀X,blk (h.upd bm X) bl=.cells [sv]:=fun X=>by rw[Al,if_neg (Ne.symm Q.ml)];exact ml
  have hob:∀b∈o,b≠bm:=fun b hb e=>by have:=R.own b hb;have:=Q.nm;rw[e] at*;omega
  have hol:bl∉o:=fun e=>by have:=R.own bl e;have:=Q.nl;omega
  have hom:bm∉o:=fun e=>by have:=R.own bm e;have:=Q.nm;omega
  refine Tst (J14 mc mm e4 e6 e7 hx hm' @AA @Nat.mul_one @Nat.zero_add mc2 ml2 @GB @Dk) ?_;refine Mp (h:=h.upd bm (.cells (bls (met.set x true)))) (by rw[Ap]) rfl (S:=R.S.keep (fun b hb=>by rw[Al,if_neg (hob b hb)]) (by rw[Ap];exact Nat.le_refl _)) (Nat.le_trans R.le hn) (fun o1 s1 h1 S1 w1=>?_);have nx1:=w1.nx;rw[Ap] at nx1;have ml3:blk h1 bl=.cells [sv]:=(w1.old bl (by rw[Ap];have:=Q.nl;omega) hol).trans (ml2 _);have mm3:blk h1 bm=.cells (bls (met.set x true)):=(w1.old bm (by rw[Ap];have:=Q.nm;omega) hom).trans AE;have ho1:∀b∈o1,(nxt h0).num≤b.num:=fun b hb=>by
   rcases w1.new b hb with q|q
   ·exact R.own b q
   ·rw[Ap] at q;omega
  have f1:=fun (b:K) (o:Nat) (h:Hp) (f:Hp→Bool)=>HJ (b:=b) (o:=o) (n:=0) (h:=h) (f:=f) (fun g=>Bz (f:=g) (Sl.flat S1)) (q:= [s1]) rfl;refine Tst (J3 ml3 e5 f1) ?_;refine hk _ (met.set x true) o1 s1 ?_;rw[ea];have nl':=Q.nl;refine ⟨⟨by rw[Ap];omega,fun b hb hs=>?_⟩,?_,AE,S1.keep (fun b hb=>?_) (by rw[Ap];exact Nat.le_refl _),ho1,by rw[List.length_set];exact R.len,?_,fun k=>?_,List.pairwise_append.2 ⟨R.nd,List.pairwise_singleton _ _,fun a ha b hb e=>hxn (by rw[←List.mem_singleton.1 hb,←e];exact ha)⟩⟩
  ·simp only[List.mem_cons,List.not_mem_nil,or_false,not_or] at hs;rw[Al,if_neg hs.2,w1.old b (by rw[Ap];omega) (fun q=>by have:=R.own b q;omega),Al,if_neg hs.1];exact R.kp.old b hb (by simp [hs.1,hs.2])
  ·rw[Al,if_neg Q.ml];exact mm3
  ·rw[Al,if_neg (fun q=>by have:=ho1 b hb;rw[q] at this;omega)]
  ·rw[KW met x hxl hm',R.cnt,List.length_append];rfl
  ·rw[Bl hxl,List.mem_append,List.mem_singleton];by_cases q:k=x
   ·rw[if_pos q];exact ⟨fun _=> .inr q,fun _=>rfl⟩
   ·rw[if_neg q,R.iff k];exact ⟨.inl,fun z=>z.resolve_right q⟩
theorem SS (hG:Sns E) {h0:Hp} {bc bm bl:K} {nn:Nat} (hn:nn≤1000000) (Q:RC h0 bc bm bl nn) {b:Bool} {cp:Nat} {f:List Int} (hf:f.length≤1000000000) (hb:f.any (Cq nn)=false):
  ∀(r:List Int) (i M:Nat) (t:T V) (h:Hp) (met:List Bool) (l:List Nat) (o:List K) (sv:V),f.drop i=r→i+r.length=f.length→r.length+1≤M→RS h0 h bm bl nn met l o sv→
  tg 17 t=.fn 53 [] [.ptr bc 0,.ptr bl 0]→tg 79 t=slR b cp (AH f) f.length→tg 80 t=vI f.length→tg 81 t=vI i→
  (∀t1 h1 met1 o1 sv1,RS h0 h1 bm bl nn met1 (Gj l (r.map Int.toNat)) o1 sv1→Kp [9,13,16,17] t t1→k (.exit 4) t1 d h1=true)→
  iter (exec (call E (L+1) (n+1)) (L+1) fi Mi) M t d h k=true:=by
 intro r;induction r with
 |nil=>intro i M t h met l o sv hr hi hM R g17 g79 g80 g81 hk;obtain ⟨M,rfl⟩:=pM M;have hi':(i<f.length)=False:=eq_false (by simp at hi;omega);rw[Ab,Mi];refine Tst (J3 g80 g81 hi') ?_;refine hk _ _ met o sv R ?_;exact kK
 |cons x r ih=>
  intro i M t h met l o sv hr hi hM R g17 g79 g80 g81 hk;obtain ⟨M,rfl⟩:=pM M;simp only[List.length_cons] at hi hM;have hi':(i<f.length)=True:=eT;have hx:f.getD i 0=x:=by rw[List.getD_eq_getElem?_getD,Ak hr];rfl
  have e1:=fun c h=>AM (c:=c) (h:=h) (Bp (l:=f) (i:=i) tO);simp only[hx] at e1;have hxo:Cq nn x=false:=by
   have:=List.any_eq_false.1 hb x (List.mem_of_getElem? (Ak hr));cases q:Cq nn x
   ·rfl
   ·exact absurd q this
  obtain ⟨a,rfl,ha⟩:∃a:Nat,x=.ofNat a∧a<nn:=by
   simp only[Cq,Bool.or_eq_false_iff,Bool.not_eq_false'] at hxo;cases x with
   |ofNat a=>exact ⟨a,rfl,by have:=hxo.2;rw[Aj] at this;exact of_decide_eq_true this⟩
   |negSucc a=>exact absurd hxo.1 (fun e=>by rw[BG] at e;cases e)
  have w1:=wA i;rw[Ab,Mi];refine Tst (J7 g17 g79 g80 g81 hi' e1 w1) ?_;refine QG hG hn Q R ha (fun h1 met1 o1 sv1 R1=>?_);refine Tst (J5 g17 g79 g80 g81 w1) ?_;refine ih (i+1) M _ h1 met1 _ o1 sv1 (Ai hr) tO tO R1 (Ssc g17) (Ssc g79) (Ssc g80) Af (fun t2 h2 met2 o2 sv2 R2 kp=>hk t2 h2 met2 o2 sv2 R2 (Kp.trans ?_ kp));exact kK
theorem SQ (hG:Sns E) {h0:Hp} {bc bm bl:K} {nn:Nat} (hn:nn≤1000000) (Q:RC h0 bc bm bl nn) {ow:List K} {wv:V} {W:List Nat} (SW:Slz h0 ow wv W) (hW:W.length≤1000000000) (how:∀b∈ow,b≠bm∧b≠bl) (hlt:∀x∈W,x<nn):
  ∀(r:List Nat) (i M:Nat) (t:T V) (h:Hp) (met:List Bool) (l:List Nat) (o:List K) (sv:V),W.drop i=r→i+r.length=W.length→r.length+1≤M→RS h0 h bm bl nn met l o sv→
  tg 17 t=.fn 53 [] [.ptr bc 0,.ptr bl 0]→tg 108 t=wv→tg 109 t=vI W.length→tg 110 t=vI i→
  (∀t1 h1 met1 o1 sv1,RS h0 h1 bm bl nn met1 (Gj l r) o1 sv1→Kp [9,13,16,17,20] t t1→k (.exit 8) t1 d h1=true)→
  iter (exec (call E (L+1) (n+1)) (L+1) fi Mh) M t d h k=true:=by
 intro r;induction r with
 |nil=>intro i M t h met l o sv hr hi hM R g17 g108 g109 g110 hk;obtain ⟨M,rfl⟩:=pM M;have hi':(i<W.length)=False:=eq_false (by simp at hi;omega);rw[Ab,Mh];refine Tst (J3 g109 g110 hi') ?_;refine hk _ _ met o sv R ?_;exact kK
 |cons a r ih=>
  intro i M t h met l o sv hr hi hM R g17 g108 g109 g110 hk;obtain ⟨M,rfl⟩:=pM M;simp only[List.length_cons] at hi hM;have hi2:i<W.length:=tO;have hi':(i<W.length)=True:=eq_true hi2;have hx:W.getD i 0=a:=by rw[List.getD_eq_getElem?_getD,Ak hr];rfl
  have ha:a<nn:=hlt a (List.mem_of_getElem? (Ak hr));obtain ⟨b,rfl,i1,i2⟩:=GE SW hi2;rw[hx] at i2;have hb:=how b (List.mem_singleton.2 rfl);have hbk:blk h b=blk h0 b:=R.kp.old b (SW.lt b (List.mem_singleton.2 rfl)) (by simp [hb.1,hb.2]);have i3:=fun c=>i2 h c hbk;have w1:=wA i;rw[Ab,Mh];refine Tst (J8 g17 g108 g109 g110 hi' i1 i3 w1) ?_;refine QG hG hn Q R ha (fun h1 met1 o1 sv1 R1=>?_);refine Tst (J5 g17 g108 g109 g110 w1) ?_;refine ih (i+1) M _ h1 met1 _ o1 sv1 (Ai hr) tO tO R1 (Ssc g17) (Ssc g108) (Ssc g109) Af (fun t2 h2 met2 o2 sv2 R2 kp=>hk t2 h2 met2 o2 sv2 R2 (Kp.trans ?_ kp));exact kK
end
end Go.AJ
namespace Go.AJ
open Go
set_option maxRecDepth 100000
def Gs:List Int→List Bool→List Bool
 | [],st=>st
 |x::r,st=>Gs r (st.set x.toNat true)
theorem Eu:∀(r:List Int) (st:List Bool),(Gs r st).length=st.length
 | [],st=>rfl
 |x::r,st=>by rw[Gs,Eu r,List.length_set]
theorem HL:∀(r:List Int) (st:List Bool),(∀x∈r,∃a:Nat,x=.ofNat a∧a<st.length)→∀k:Nat,((Gs r st).getD k false=true↔st.getD k false=true∨Int.ofNat k∈r)
 | [],st,_,k=>by simp [Gs]
 |x::r,st,h,k=>by
  obtain ⟨a,rfl,ha⟩:=h x (by simp);rw[Gs,HL r _ (fun y hy=>by rw[List.length_set];exact h y (by simp [hy])),show (Int.ofNat a).toNat=a from rfl,Bl ha,List.mem_cons];by_cases e:k=a
  ·subst e;simp
  ·rw[if_neg e];exact ⟨fun q=>q.elim .inl fun z=> .inr (.inr z),fun q=>q.elim .inl fun z=> .inr (z.resolve_left fun w=>e (Int.ofNat.inj w))⟩
theorem Km {nn:Nat} {x:Int} (hxo:Cq nn x=false):∃a:Nat,x=.ofNat a∧a<nn:=by
 simp only[Cq,Bool.or_eq_false_iff,Bool.not_eq_false'] at hxo;cases x with
 |ofNat a=>exact ⟨a,rfl,by have:=hxo.2;rw[Aj] at this;exact of_decide_eq_true this⟩
 |negSucc a=>exact absurd hxo.1 (fun e=>by rw[BG] at e;cases e)
theorem ER {nn:Nat} {s:List Int} (hb:s.any (Cq nn)=false):∀x∈s,∃a:Nat,x=.ofNat a∧a<nn:=fun x hx=>by
 have:=List.any_eq_false.1 hb x hx;cases q:Cq nn x
 ·exact Km q
 ·exact absurd q this
def kw:List (Int×Int)→(Nat→List Nat)→Nat→List Nat
 | [],W=>W
 |e::r,W=>kw r fun i=>if i=e.1.toNat then W i++ [e.2.toNat] else W i
theorem P9:∀(r:List (Int×Int)) (W:Nat→List Nat) (a b:Nat),b∈kw r W a↔b∈W a∨∃e∈r,e.1.toNat=a∧e.2.toNat=b
 | [],W,a,b=>by simp [kw]
 |e::r,W,a,b=>by
  rw[kw,P9 r];constructor
  ·rintro (q|⟨x,hx,q⟩)
   ·split at q
    ·rename_i h;rcases List.mem_append.1 q with q|q
     ·exact .inl q
     ·exact .inr ⟨e,List.mem_cons_self ..,h.symm,(List.mem_singleton.1 q).symm⟩
    ·exact .inl q
   ·exact .inr ⟨x,List.mem_cons_of_mem _ hx,q⟩
  ·rintro (q|⟨x,hx,q1,q2⟩)
   ·refine .inl ?_;split
    ·exact List.mem_append_left _ q
    ·exact q
   ·rcases List.mem_cons.1 hx with rfl|hx
    ·refine .inl ?_;rw[if_pos q1.symm];exact List.mem_append_right _ (List.mem_singleton.2 q2.symm)
    ·exact .inr ⟨x,hx,q1,q2⟩
theorem Df {nn:Nat}:∀(r:List (Int×Int)) {prev:Option (Int×Int)} {found f:Nat},G0 nn prev found r=some f→∀e∈r,∃a b:Nat,e=(.ofNat a,.ofNat b)∧a<nn∧b<nn
 | [],_,_,_,_,e,he=>by cases he
 |x::r,prev,found,f,h,e,he=>by
  rw[G0] at h;cases hed:Ci nn prev found x
  ·rw[hed,if_neg (by simp)] at h;cases h
  rw[hed,if_pos rfl] at h;rcases List.mem_cons.1 he with rfl|he
  ·obtain ⟨a,b,h1,h2,h3,_⟩:=EI hed;exact ⟨a,b,h1,h2,h3⟩
  ·exact Df r h e he
structure WS (h:Hp) (bw:K) (lo nn cnt:Nat) (W:Nat→List Nat) (ws:List V) (os:Nat→List K):Prop where
 mw:blk h bw=.cells ws
 len:ws.length=nn
 S:∀i,i<nn→Slz h (os i) (ws.getD i und) (W i)
 own:∀i,i<nn→∀b∈os i,lo≤b.num
 dis:∀i j,i<nn→j<nn→i≠j→∀b∈os i,b∉os j
 cap:∀i,i<nn→(W i).length≤cnt
section
variable {E:Env} {L n:Nat} {h:Hp} {kc:KC} {t:T V} {d:Dc} {k:KE} {fi:FI} {c:KV} {C:As}
theorem zq {ws:List V} {i:Nat} (hi:i<ws.length):ldB (.cells ws) i h c=c (ws.getD i und) h:=BS (by rw[List.getD_eq_getElem?_getD,List.getElem?_eq_getElem hi];rfl)
theorem SU {bs:K} {nn:Nat} {b:Bool} {cp:Nat} {f:List Int} (hf:f.length≤1000000000) (hb:f.any (Cq nn)=false) {h0:Hp}:
  ∀(r:List Int) (i M:Nat) (t:T V) (h:Hp) (st:List Bool),f.drop i=r→i+r.length=f.length→r.length+1≤M→st.length=nn→Ac [bs] h0 h→blk h bs=.cells (bls st)→
  tg 9 t=.sl bs 0 nn nn 0→tg 43 t=slR b cp (AH f) f.length→tg 44 t=vI f.length→tg 45 t=vI i→
  (∀t1 h1,Ac [bs] h0 h1→blk h1 bs=.cells (bls (Gs r st))→Kp [1,3,9,10] t t1→k (.exit 0) t1 d h1=true)→
  iter (exec C L fi Mk) M t d h k=true:=by
 intro r;induction r with
 |nil=>intro i M t h st hr hi hM hl K0 ms g9 g43 g44 g45 hk;obtain ⟨M,rfl⟩:=pM M;have hi':(i<f.length)=False:=eq_false (by simp at hi;omega);rw[Ab,Mk];refine Tst (J3 g44 g45 hi') ?_;refine hk _ _ K0 ms ?_;exact kK
 |cons x r ih=>
  intro i M t h st hr hi hM hl K0 ms g9 g43 g44 g45 hk;obtain ⟨M,rfl⟩:=pM M;simp only[List.length_cons] at hi hM;have hi':(i<f.length)=True:=eT;have hx:f.getD i 0=x:=by rw[List.getD_eq_getElem?_getD,Ak hr];rfl
  have e1:=fun c h=>AM (c:=c) (h:=h) (Bp (l:=f) (i:=i) tO);simp only[hx] at e1;obtain ⟨a,rfl,ha⟩:=ER hb x (List.mem_of_getElem? (Ak hr));have w1:=wA i;have e7:∀(h:Hp) (f:Hp→Bool),stB (.cells (bls st)) bs a [.bool true] h f=f (h.upd bs (.cells (bls (st.set a true)))):=fun h f=>by rw[C5 (by rw[Fa];omega),Ln]
  rw[Ab,Mk];refine Tst (J12 g9 g43 g44 g45 hi' e1 w1 e7 ms ha @AA (J2 @Nat.mul_one @Nat.zero_add)) ?_;refine ih (i+1) M _ _ (st.set a true) (Ai hr) tO tO (by rw[List.length_set];exact hl) (K0.put (.inr (List.mem_singleton.2 rfl)) _) AE (Ssc g9) (Ssc g43) (Ssc g44) Af (fun t2 h2 z1 z2 kp=>hk t2 h2 z1 z2 (Kp.trans ?_ kp));exact kK
theorem ST {bw:K} {g:Gr} {nn:Nat} (hnn:nn≤1000000) (hlen:g.edges.length≤100000) (hed:∀e∈g.edges,∃a b:Nat,e=(.ofNat a,.ofNat b)∧a<nn∧b<nn) {h0:Hp} (nw0:bw.num<(nxt h0).num):
  ∀(r:List (Int×Int)) (i M:Nat) (t:T V) (h:Hp) (W:Nat→List Nat) (ws:List V) (os:Nat→List K),g.edges.drop i=r→i+r.length=g.edges.length→r.length+1≤M→Ac [bw] h0 h→WS h bw (nxt h0).num nn i W ws os→
  tg 13 t=.sl bw 0 nn nn 0→tg 58 t=slR g.eb g.ec (Dq g.edges) g.edges.length→tg 59 t=vI g.edges.length→tg 60 t=vI i→
  (∀t1 h1 ws1 os1,Ac [bw] h0 h1→WS h1 bw (nxt h0).num nn g.edges.length (kw r W) ws1 os1→Kp [1,9,10,13] t t1→k (.exit 2) t1 d h1=true)→
  iter (exec C L fi Mj) M t d h k=true:=by
 intro r;induction r with
 |nil=>
  intro i M t h W ws os hr hi hM K0 Q g13 g58 g59 g60 hk;obtain ⟨M,rfl⟩:=pM M;have hi':(i<g.edges.length)=False:=eq_false (by simp at hi;omega);rw[Ab,Mj];refine Tst (J3 g59 g60 hi') ?_;have ei:i=g.edges.length:=by simpa using hi
  refine hk _ _ ws os K0 (ei▸Q) ?_;exact kK
 |cons e r ih=>
  intro i M t h W ws os hr hi hM K0 Q g13 g58 g59 g60 hk;obtain ⟨M,rfl⟩:=pM M;simp only[List.length_cons] at hi hM;have hi':(i<g.edges.length)=True:=eT;have e1:=fun c h=>Ch (c:=c) (h:=h) (Bm (Ak hr)) rfl;obtain ⟨a,b,rfl,ha,hb⟩:=hed e (List.mem_of_getElem? (Ak hr));simp only at e1;rw[kw] at hk;simp only[show (Int.ofNat a).toNat=a from rfl,show (Int.ofNat b).toNat=b from rfl] at hk;have nw:bw.num<(nxt h).num:=K0.lt nw0;have nx0:=K0.nx;have w1:=wA i;have haw:a<ws.length:=by rw[Q.len];exact ha
  have e3:∀(h:Hp) (c:KV),ldB (.cells [vI a,vI b]) 0 h c=c (vI a) h:=fun h c=>BS rfl;have e4:∀(h:Hp) (c:KV),ldB (.cells [vI a,vI b]) 1 h c=c (vI b) h:=fun h c=>BS rfl;have e5:=fun (h:Hp) (c:KV)=>zq (h:=h) (c:=c) haw;have mw:=Q.mw;have f0:flat (ws.getD a und)=true:=Sl.flat (Q.S a ha);have k4:Ae h (h.upd (nxt h) (.cells [vI a,vI b])).bump:=(Ae.refl h).new _;rw[Ab,Mj];refine Tst (J14 g13 g58 g59 g60 hi' e1 w1 @Bu @AX e3 e4 e5 mw (J11 ha @AA @Nat.mul_one @Nat.zero_add @GB @Dk @AP @M8 @jm @Ac0 f0)) ?_;refine Mp (x:=b) (h:=(h.upd (nxt h) (.cells [vI a,vI b])).bump) ?_ ?_ ((Q.S a ha).keep (fun b hb=>k4.old b ((Q.S a ha).lt b hb)) k4.nx) (Nat.le_trans (Q.cap a ha) tO) (fun o1 s1 h1 S1 w1'=>?_)
  ·simp only[Ay,Ap]
  ·simp only[CT]
  have nx1:=w1'.nx;simp only[Ay,Ap,K.num_succ] at nx1;have me1:blk h1 (nxt h)=.cells [vI a,vI b]:=(w1'.old (nxt h) (by simp only[Ay,Ap,K.num_succ];omega) (fun q=>Nat.lt_irrefl _ ((Q.S a ha).lt _ q))).trans (by rw[An,AE]);have hwo:bw∉os a:=fun q=>by have:=Q.own a ha _ q;omega
  have mw1:blk h1 bw=.cells ws:=(w1'.old bw (by simp only[Ay,Ap,K.num_succ];omega) hwo).trans ((k4.old bw nw).trans mw);have f1:=fun (b:K) (o:Nat) (h:Hp) (f:Hp→Bool)=>HJ (b:=b) (o:=o) (n:=0) (h:=h) (f:=f) (fun g=>Bz (f:=g) (Sl.flat S1)) (q:= [s1]) rfl;have f2:flat s1=true:=Sl.flat S1;have e6:∀(h:Hp) (f:Hp→Bool),stB (.cells ws) bw a [s1] h f=f (h.upd bw (.cells (ws.set a s1))):=fun h f=>C5 haw;have o1b:∀x∈o1,x∈os a∨(nxt h).num<x.num:=fun x hx=>by
   rcases w1'.new x hx with q|q
   ·exact .inl q
   ·simp only[Ay,Ap,K.num_succ] at q;exact .inr tO
  have o1w:∀x∈o1,x≠bw:=fun x hx q=>by
   rcases o1b x hx with z|z
   ·exact hwo (q▸z)
   ·rw[q] at z;omega
  have o1l:∀x∈o1,(nxt h0).num≤x.num:=fun x hx=>by
   rcases o1b x hx with z|z
   ·exact Q.own a ha x z
   ·omega
  have keep:∀x,x.num<(nxt h).num→x∉os a→x≠bw→blk (h1.upd bw (.cells (ws.set a s1))) x=blk h x:=fun x x1 x2 x3=>by rw[Al,if_neg x3,w1'.old x (by simp only[Ay,Ap,K.num_succ];omega) x2,k4.old x x1]
  refine Tst (J14 g13 me1 mw1 e3 e4 e6 ha @AA @Nat.mul_one @Nat.zero_add g58 g59 g60 (J2 w1 f1)) ?_;refine ih (i+1) M _ _ (fun j=>if j=a then W j++ [b] else W j) (ws.set a s1) (fun j=>if j=a then o1 else os j) (Ai hr) tO tO ⟨by rw[Ap];omega,fun x hx hs=>?_⟩ ⟨AE,by rw[List.length_set];exact Q.len,fun j hj=>?_,fun j hj=>?_,fun j j2 hj hj2 hne=>?_,fun j hj=>?_⟩ (Ssc g13) (Ssc g58) (Ssc g59) Af (fun t2 h2 ws2 os2 z1 z2 kp=>hk t2 h2 ws2 os2 z1 z2 (Kp.trans ?_ kp))
  ·have hs':=fun q=>hs (List.mem_singleton.2 q);rw[keep x tO (fun q=>by have:=Q.own a ha x q;omega) hs',K0.old x hx hs]
  ·by_cases q:j=a
   ·subst q;simp only[if_true];rw[Bl haw,if_pos rfl];exact S1.keep (fun x hx=>by rw[Al,if_neg (o1w x hx)]) (by rw[Ap];exact Nat.le_refl _)
   ·simp only[if_neg q];rw[Bl haw,if_neg q];refine (Q.S j hj).keep (fun x hx=>keep x ((Q.S j hj).lt x hx) (fun z=>Q.dis j a hj ha q x hx z) (fun z=>by have:=Q.own j hj x hx;rw[z] at this;omega)) (by rw[Ap];omega)
  ·by_cases q:j=a
   ·simp only[if_pos q];exact o1l
   ·simp only[if_neg q];exact Q.own j hj
  ·by_cases q:j=a<;>by_cases q2:j2=a
   ·omega
   ·simp only[if_pos q,if_neg q2];intro x hx;rcases o1b x hx with z|z
    ·exact Q.dis a j2 ha hj2 (fun w=>q2 w.symm) x z
    ·exact fun w=>by have:=(Q.S j2 hj2).lt x w;omega
   ·simp only[if_neg q,if_pos q2];intro x hx w;rcases o1b x w with z|z
    ·exact Q.dis j a hj ha q x hx z
    ·have:=(Q.S j hj).lt x hx;omega
   ·simp only[if_neg q,if_neg q2];exact Q.dis j j2 hj hj2 hne
  ·by_cases q:j=a
   ·simp only[if_pos q,List.length_append];have:=Q.cap j hj;simp;omega
   ·simp only[if_neg q];have:=Q.cap j hj;omega
  ·exact kK
theorem SP (hG:Sns E) {h0:Hp} {bc bm bl bs bw:K} {nn:Nat} (hn:nn≤1000000) (Q:RC h0 bc bm bl nn) (nbs:bs.num<(nxt h0).num) (nbw:bw.num<(nxt h0).num) (sm:bs≠bm) (sl:bs≠bl) (wm:bw≠bm) (wl:bw≠bl)
  {st:List Bool} (ms:blk h0 bs=.cells (bls st)) (lst:st.length=nn) {W:Nat→List Nat} {ws:List V} {os:Nat→List K} (mw:blk h0 bw=.cells ws) (lws:ws.length=nn) (SW:∀i,i<nn→Slz h0 (os i) (ws.getD i und) (W i)) (how:∀i,i<nn→∀b∈os i,b≠bm∧b≠bl) (hcap:∀i,i<nn→(W i).length≤1000000) (hcL:∀i,i<nn→(W i).length≤L) (hlt:∀i,i<nn→∀x∈W i,x<nn)
  {R:Nat→Prop} (hR:∀a b,R a→st.getD a false=false→b∈W a→R b):
  ∀(w j M:Nat) (t:T V) (h:Hp) (met:List Bool) (l:List Nat) (o:List K) (sv:V),j+w=nn→w+1≤M→j≤l.length→RS h0 h bm bl nn met l o sv→(∀x∈l,R x)→(∀i,i<j→st.getD (l.getD i 0) false=false→∀b∈W (l.getD i 0),b∈l)→
  tg 9 t=.sl bs 0 nn nn 0→tg 13 t=.sl bw 0 nn nn 0→tg 16 t=.ptr bl 0→tg 17 t=.fn 53 [] [.ptr bc 0,.ptr bl 0]→tg 20 t=vI j→
  (∀t1 h1 met1 l1 o1 sv1,RS h0 h1 bm bl nn met1 l1 o1 sv1→(∀x∈l1,R x)→(∀x∈l,x∈l1)→(∀a∈l1,st.getD a false=false→∀b∈W a,b∈l1)→tg 16 t1=.ptr bl 0→k (.exit 6) t1 d h1=true)→
  iter (exec (call E (L+1) (n+1)) (L+1) fi Mg) M t d h k=true:=by
 have fin:∀(j:Nat) (l:List Nat),j=l.length→(∀i,i<j→st.getD (l.getD i 0) false=false→∀b∈W (l.getD i 0),b∈l)→∀a∈l,st.getD a false=false→∀b∈W a,b∈l:=by
  intro j l hj hc a ha hs b hb;obtain ⟨i,hi,e⟩:=List.getElem_of_mem ha;have e2:l.getD i 0=a:=by rw[List.getD_eq_getElem?_getD,List.getElem?_eq_getElem hi];exact e
  exact hc i tO (by rw[e2];exact hs) b (by rw[e2];exact hb)
 intro w;induction w with
 |zero=>intro j M t h met l o sv hw hM hj Q1 hl hc g9 g13 g16 g17 g20 hk;obtain ⟨M,rfl⟩:=pM M;have:=Q1.le;have hj':(j<l.length)=False:=eF;have ml:=Q1.ml;have e4:∀(v:V) (h:Hp) (c':KV),ldB (.cells [v]) 0 h c'=c' v h:=fun v h c'=>BS rfl;have ln:=fun {h1:Hp} {c:KV}=>EF Q1.S (h1:=h1) (c:=c);rw[Ab,Mg];refine Tst (J6 g16 g20 ml e4 @ln hj') ?_;exact hk _ h met l o sv Q1 hl (fun x hx=>hx) (fin j l tO hc) (Ssc g16)
 |succ w ih=>
  intro j M t h met l o sv hw hM hj Q1 hl hc g9 g13 g16 g17 g20 hk;obtain ⟨M,rfl⟩:=pM M;have ml:=Q1.ml;have e4:∀(v:V) (h:Hp) (c':KV),ldB (.cells [v]) 0 h c'=c' v h:=fun v h c'=>BS rfl;have ln:=fun {h1:Hp} {c:KV}=>EF Q1.S (h1:=h1) (c:=c);rw[Ab,Mg];by_cases hjl:j<l.length
  ·have hj':(j<l.length)=True:=eq_true hjl;obtain ⟨bb,rfl,i1,i2⟩:=GE Q1.S hjl;have i3:=fun c=>i2 h c rfl;have hal:l.getD j 0∈l:=by rw[List.getD_eq_getElem?_getD,List.getElem?_eq_getElem hjl];exact List.getElem_mem hjl
   have eal:l.getD j 0=l.getD j 0:=rfl;generalize hae:l.getD j 0=a at hal i3 eal;have ha:a<nn:=Q1.lt hal;have ms1:blk h bs=.cells (bls st):=(Q1.kp.old bs nbs (by simp [sm,sl])).trans ms;have mw1:blk h bw=.cells ws:=(Q1.kp.old bw nbw (by simp [wm,wl])).trans mw;have e5:=fun (h:Hp) (c:KV)=>GC (l:=st) (h:=h) (c:=c) (i:=a) (by rw[lst];exact ha);have e6:=fun (h:Hp) (c:KV)=>zq (ws:=ws) (h:=h) (c:=c) (i:=a) (by rw[lws];exact ha);have w1:Am .i64 (Int.add (.ofNat j) (.ofNat 1))=.ofNat (j+1):=by have:=Q1.le;exact Ah tO
   by_cases hs:st.getD a false=true
   ·refine Tst (J14 g9 g16 g20 ml e4 @ln hj' i1 i3 ms1 e5 ha hs (J5 @AA @Nat.mul_one @Nat.zero_add w1 g13)) ?_;refine ih (j+1) M _ h met l _ sv tO tO hjl Q1 hl (fun i hi hz=>?_) (Ssc g9) (Ssc g13) (Ssc g16) (Ssc g17) Af hk;by_cases q:i=j
    ·rw[q,hae,hs] at hz;cases hz
    ·exact hc i tO hz
   ·have hs':st.getD a false=false:=by cases q:st.getD a false;rfl;exact absurd q hs
    have lw:=fun {h1:Hp} {c:KV}=>EF (SW a ha) (h1:=h1) (c:=c);refine Tst (J14 g9 g16 g20 ml e4 @ln hj' i1 i3 ms1 e5 ha hs' (J9 @AA @Nat.mul_one @Nat.zero_add w1 g13 mw1 e6 @lw @Ad)) ?_;have:=hcL a ha;refine SQ hG hn Q (SW a ha) (by have:=hcap a ha;omega) (how a ha) (hlt a ha) (W a) 0 _ _ h met l _ sv rfl (Nat.zero_add _) tO Q1 (Ssc g17) Af Af Af (fun t1 h1 met1 o1 sv1 R1 kp=>?_);have q9:=kp 9 (by simp);have q13:=kp 13 (by simp);have q16:=kp 16 (by simp);have q17:=kp 17 (by simp);have q20:=kp 20 (by simp);simp -implicitDefEqProofs (disch:=exact tD) only[↓sD,sB,↓reduceIte,Nat.reduceEqDiff,reduceCtorEq,Nat.reduceLT,Nat.reduceMul,Nat.reduceAdd,g9,g13,g16,g17,g20] at q9 q13 q16 q17 q20;refine Tst (J6 q9 q13 q16 q17 q20 w1) ?_;obtain ⟨ex,he⟩:=Jj (W a) l;have hget:∀i,i<l.length→(Gj l (W a)).getD i 0=l.getD i 0:=fun i hi=>by rw[he,List.getD_eq_getElem?_getD,List.getElem?_append_left hi,←List.getD_eq_getElem?_getD]
    refine ih (j+1) M _ h1 met1 _ o1 sv1 tO tO (by rw[he,List.length_append];omega) R1 (fun x hx=>?_) (fun i hi hz b hb=>?_) (Ssc q9) (Ssc q13) (Ssc q16) (Ssc q17) Af (fun t2 h2 met2 l2 o2 sv2 y1 y2 y3 y4 y5=>hk t2 h2 met2 l2 o2 sv2 y1 y2 (fun x hx=>y3 x (CM.2 (.inl hx))) y4 y5)
    ·rcases CM.1 hx with q|q
     ·exact hl x q
     ·exact hR a x (hl a hal) hs' q
    ·rw[hget i tO] at hz hb;by_cases q:i=j
     ·rw[q,hae] at hb;exact CM.2 (.inr hb)
     ·exact CM.2 (.inl (hc i tO hz b hb))
  ·have hj':(j<l.length)=False:=eq_false hjl;refine Tst (J6 g16 g20 ml e4 @ln hj') ?_;exact hk _ h met l o sv Q1 hl (fun x hx=>hx) (fin j l tO hc) (Ssc g16)
end
end Go.AJ
