/- An order of the values. -/
import Derived.Test.YtgdbpnpolelfoaaGreatDoorWa
set_option linter.all false
namespace Go.AJ
open Go
theorem CO (a b:Int):Cf a b=if a<b then -1 else if b<a then 1 else 0:=by unfold Cf;rw[Ck,Ck];simp only[decide_eq_true_eq];rfl
theorem AY (a b:Int):orI a b=if a=0 then b else a:=by unfold orI;rw[DT];simp only[decide_eq_true_eq];rfl
def Tr (a b c:Int):Prop:=(a≤0→b≤0→c≤0)∧(a≤0→b≤0→c=0→a=0∧b=0)
def Sg (a:Int):Prop:=a= -1∨a=0∨a=1
theorem Tr.zero:Tr 0 0 0:=⟨fun _ _=>by omega,fun _ _ _=>⟨rfl,rfl⟩⟩
theorem Tr.or {a b c a' b' c':Int} (h:Tr a b c) (h':a=0→b=0→c=0→Tr a' b' c'):Tr (orI a a') (orI b b') (orI c c'):=by
 obtain ⟨h1,h2⟩:=h;rw[AY,AY,AY];by_cases ha:a=0
 ·by_cases hb:b=0
  ·have hc:c=0∨c<0:=by have:=h1 tO tO;omega
   rcases hc with hc|hc
   ·rw[if_pos ha,if_pos hb,if_pos hc];exact h' ha hb hc
   ·rw[if_pos ha,if_pos hb,if_neg tO];exact ⟨fun _ _=>by omega,fun _ _ _=>by omega⟩
  ·rw[if_pos ha,if_neg hb];refine ⟨fun _ h4=>?_,fun _ h4 h5=>?_⟩
   ·have:=h1 tO h4;have h6:=h2 tO h4;by_cases hc:c=0
    ·exact absurd (h6 hc).2 hb
    ·rw[if_neg hc];exact this
   ·have:=h1 tO h4;have h6:=h2 tO h4;by_cases hc:c=0
    ·exact absurd (h6 hc).2 hb
    ·rw[if_neg hc] at h5;exact absurd h5 hc
 ·rw[if_neg ha];have hb:(if b=0 then b' else b)≤0→a≤0→b≤0:=by
   intro h3 h4;by_cases hb:b=0
   ·omega
   ·rw[if_neg hb] at h3;exact h3
  refine ⟨fun h3 h4=>?_,fun h3 h4 h5=>?_⟩
  ·have:=h1 h3 (hb h4 h3);have h6:=h2 h3 (hb h4 h3);by_cases hc:c=0
   ·exact absurd (h6 hc).1 ha
   ·rw[if_neg hc];exact this
  ·have:=h1 h3 (hb h4 h3);have h6:=h2 h3 (hb h4 h3);by_cases hc:c=0
   ·exact absurd (h6 hc).1 ha
   ·rw[if_neg hc] at h5;exact absurd h5 hc
theorem Tr.symm {a b c:Int} (h:Tr a b c):Tr b a c:=⟨fun h1 h2=>h.1 h2 h1,fun h1 h2 h3=>(h.2 h2 h1 h3).symm⟩
theorem DU {a b a' b':Int} (h:a'= -a) (h':a=0→b'= -b):orI a' b'= - orI a b:=by
 rw[AY,AY];by_cases ha:a=0
 ·rw[if_pos tO,if_pos ha];exact h' ha
 ·rw[if_neg tO,if_neg ha];exact h
theorem Gw {a b:Int} (h:Sg a) (h':Sg b):Sg (orI a b):=by rw[AY];split<;>assumption
theorem Ek {a b:Int}:orI a b=0↔a=0∧b=0:=by rw[AY];split<;>constructor<;>intro h<;>(try omega)
theorem or00:orI 0 0=0:=rfl
theorem AV (a:Int):Cf a a=0:=by rw[CO];simp
theorem DN (a b:Int):Cf b a= - Cf a b:=by
 rw[CO,CO];rcases Int.lt_trichotomy a b with h|h|h
 ·rw[if_neg tO,if_pos h,if_pos h];rfl
 ·subst h;simp
 ·rw[if_pos h,if_neg tO,if_pos h]
theorem cmpI_le (a b:Int):(Cf a b≤0↔a≤b)∧(Cf a b=0↔a=b):=by
 rw[CO];rcases Int.lt_trichotomy a b with h|h|h
 ·rw[if_pos h];omega
 ·subst h;simp
 ·rw[if_neg tO,if_pos h];omega
theorem Fd (a b c:Int):Tr (Cf a b) (Cf b c) (Cf a c):=by obtain ⟨a1,a2⟩:=cmpI_le a b;obtain ⟨b1,b2⟩:=cmpI_le b c;obtain ⟨c1,c2⟩:=cmpI_le a c;refine ⟨fun h1 h2=>c1.2 (Int.le_trans (a1.1 h1) (b1.1 h2)),fun h1 h2 h3=>?_⟩;have:=a1.1 h1;have:=b1.1 h2;have:=c2.1 h3;exact ⟨a2.2 tO,b2.2 tO⟩
theorem Fe (a b:Int):Sg (Cf a b):=by
 unfold Sg;rw[CO];split
 ·exact .inl rfl
 ·split
  ·exact .inr (.inr rfl)
  ·exact .inr (.inl rfl)
theorem CJ {a b:Int}:Cf a b=0↔a=b:=by
 rw[CO];constructor
 ·intro h;by_cases h1:a<b
  ·rw[if_pos h1] at h;cases h
  ·rw[if_neg h1] at h;by_cases h2:b<a
   ·rw[if_pos h2] at h;cases h
   ·omega
 ·intro h;subst h;simp
theorem cmpS_nil:EY [] []=0:=rfl
theorem Hx (a b:List Nat):EY a b=if ltL a b=true then -1 else if ltL b a=true then 1 else 0:=rfl
theorem Hw {y:Nat} {b:List Nat}:EY [] (y::b)= -1:=rfl
theorem Er {x:Nat} {a:List Nat}:EY (x::a) []=1:=rfl
theorem ltL_cc (x y:Nat) (a b:List Nat):ltL (x::a) (y::b)=(decide (x<y)||(decide (x=y)&&ltL a b)):=by
 have e1:Nat.blt x y=decide (x<y):=by
  by_cases h:x<y
  ·rw[decide_eq_true h];exact Nat.blt_eq▸h
  ·rw[decide_eq_false h,Bool.eq_false_iff];intro e;exact h (Nat.blt_eq▸e)
 have e2:Nat.beq x y=decide (x=y):=by
  by_cases h:x=y
  ·rw[decide_eq_true h];exact Nat.beq_eq▸h
  ·rw[decide_eq_false h,Bool.eq_false_iff];intro e;exact h (Nat.beq_eq▸e)
 rw[ltL];simp only[e1,e2];cases decide (x<y)<;>cases decide (x=y)<;>rfl
theorem Es (x y:Nat) (a b:List Nat):EY (x::a) (y::b)=orI (Cf (.ofNat x) (.ofNat y)) (EY a b):=by
 rw[Hx,ltL_cc,ltL_cc,AY,CO];rcases Nat.lt_trichotomy x y with h|h|h
 ·rw[if_pos (by simp [h]),if_pos (show (Int.ofNat x)<Int.ofNat y by simpa using h)];rfl
 ·subst h;simp only[Nat.lt_irrefl,decide_false,decide_true,Bool.false_or,Bool.true_and,Int.lt_irrefl,if_false,if_true];rfl
 ·have n1:¬x<y:=by omega
  have n2:¬x=y:=by omega
  have n3:¬(Int.ofNat x<Int.ofNat y):=by simpa using n1
  rw[decide_eq_false n1,decide_eq_false n2,if_neg (by simp),decide_eq_true h,if_pos (by simp),if_neg n3,if_pos (show (Int.ofNat y)<Int.ofNat x by simpa using h)];rfl
theorem Cn:∀a:List Nat,EY a a=0
 | []=>rfl
 |x::a=>by rw[Es,AV,AY,if_pos rfl];exact Cn a
theorem cmpS_neg:∀a b:List Nat,EY b a= - EY a b
 | [],[]=>rfl
 | [],_::_=>rfl
 |_::_,[]=>rfl
 |x::a,y::b=>by rw[Es,Es];exact DU (DN _ _) fun _=>cmpS_neg a b
theorem cmpS_sg:∀a b:List Nat,Sg (EY a b)
 | [],[]=> .inr (.inl rfl)
 | [],_::_=> .inl rfl
 |_::_,[]=> .inr (.inr rfl)
 |x::a,y::b=>by rw[Es];exact Gw (Fe _ _) (cmpS_sg a b)
theorem cmpS_tr:∀a b c:List Nat,Tr (EY a b) (EY b c) (EY a c)
 | [],[],[]=> .zero
 | [],[],_::_=>⟨fun _ _=>by rw[Hw];omega,fun _ _ h=>by rw[Hw] at h;omega⟩
 | [],_::_,[]=>⟨fun _ _=>by rw[cmpS_nil];omega,fun _ h _=>by rw[Er] at h;omega⟩
 | [],_::_,_::_=>⟨fun _ _=>by rw[Hw];omega,fun _ _ h=>by rw[Hw] at h;omega⟩
 |_::_,[],[]=>⟨fun h=>by rw[Er] at h;omega,fun h=>by rw[Er] at h;omega⟩
 |_::_,[],_::_=>⟨fun h=>by rw[Er] at h;omega,fun h=>by rw[Er] at h;omega⟩
 |_::_,_::_,[]=>⟨fun _ h=>by rw[Er] at h;omega,fun _ h=>by rw[Er] at h;omega⟩
 |x::a,y::b,z::c=>by rw[Es,Es,Es];exact (Fd _ _ _).or fun _ _ _=>cmpS_tr a b c
theorem Hv:∀{a b:List Nat},EY a b=0→a=b
 | [],[],_=>rfl
 | [],_::_,h=>by rw[Hw] at h;omega
 |_::_,[],h=>by rw[Er] at h;omega
 |x::a,y::b,h=>by rw[Es,Ek,CJ] at h;have hx:x=y:=Int.ofNat.inj h.1;rw[hx,Hv h.2]
def Gx (a b:List Int):Nat→Int
 |0=>0
 |i+1=>orI (Cf (a.getD i 0) (b.getD i 0)) (Gx a b i)
theorem cmpDn_eq (a b:List Int):∀(i:Nat) (c:Int),J1 a b i c=orI c (Gx a b i)
 |0,c=>by rw[J1,Gx,AY];split<;>simp_all
 |i+1,c=>by rw[J1,cmpDn_eq a b i,Gx,DT];simp only[decide_eq_true_eq];rw[AY c];rfl
theorem cmpD_refl (a:List Int):∀i,Gx a a i=0
 |0=>rfl
 |i+1=>by rw[Gx,AV,AY,if_pos rfl];exact cmpD_refl a i
theorem cmpD_neg (a b:List Int):∀i,Gx b a i= - Gx a b i
 |0=>rfl
 |i+1=>by rw[Gx,Gx];exact DU (DN _ _) fun _=>cmpD_neg a b i
theorem cmpD_sg (a b:List Int):∀i,Sg (Gx a b i)
 |0=> .inr (.inl rfl)
 |i+1=>by rw[Gx];exact Gw (Fe _ _) (cmpD_sg a b i)
theorem cmpD_tr (a b c:List Int):∀i,Tr (Gx a b i) (Gx b c i) (Gx a c i)
 |0=> .zero
 |i+1=>by rw[Gx,Gx,Gx];exact (Fd _ _ _).or fun _ _ _=>cmpD_tr a b c i
theorem cmpD_zero {a b:List Int}:∀{i},Gx a b i=0→∀j,j<i→a.getD j 0=b.getD j 0
 |0,_,j,h=>by omega
 |i+1,h,j,hj=>by
  rw[Gx,Ek,CJ] at h;by_cases e:j=i
  ·rw[e];exact h.1
  ·exact cmpD_zero h.2 j tO
def Hu (a b:List Int):Int:=orI (Cf (.ofNat a.length) (.ofNat b.length)) (Gx a b a.length)
theorem lens {m n:Nat} (h:Cf (.ofNat m) (.ofNat n)=0):m=n:=Int.ofNat.inj (CJ.1 h)
theorem cmpZ_refl (a:List Int):Hu a a=0:=by rw[Hu,AV,cmpD_refl];rfl
theorem FJ (a b:List Int):Hu b a= - Hu a b:=by rw[Hu,Hu];exact DU (DN _ _) fun h=>by rw[←lens h];exact cmpD_neg a b _
theorem cmpZ_sg (a b:List Int):Sg (Hu a b):=Gw (Fe _ _) (cmpD_sg _ _ _)
theorem cmpZ_tr (a b c:List Int):Tr (Hu a b) (Hu b c) (Hu a c):=by rw[Hu,Hu,Hu];exact (Fd _ _ _).or fun h _ _=>by rw[←lens h];exact cmpD_tr a b c _
theorem cmpZ_zero {a b:List Int} (h:Hu a b=0):a=b:=by rw[Hu,Ek] at h;have hl:=lens h.1;refine List.ext_getElem hl fun i h1 h2=>?_;have:=cmpD_zero h.2 i h1;rw[List.getD_eq_getElem?_getD,List.getD_eq_getElem?_getD,List.getElem?_eq_getElem h1,List.getElem?_eq_getElem h2] at this;exact this
theorem Co (na nb:Bool) (a b:List Int):BK na nb a b=if na=nb then (if na=true then-Hu a b else Hu a b) else if na=true then -1 else 1:=by
 have e:∀c:Int,Sg c→Ai .i64 (Int.sub 0 c)= - c:=by rintro c (rfl|rfl|rfl)<;>rfl
 unfold BK;rw[cmpDn_eq];show (if na=nb then (if na=true then Ai .i64 (Int.sub 0 (Hu a b)) else Hu a b) else if na=true then -1 else 1)=_;rw[e _ (cmpZ_sg a b)]
theorem Cd (na:Bool) (a:List Int):BK na na a a=0:=by rw[Co,if_pos rfl,cmpZ_refl];split<;>rfl
theorem cmpNum_neg (na nb:Bool) (a b:List Int):BK nb na b a= - BK na nb a b:=by rw[Co,Co,FJ a b];cases na<;>cases nb<;>simp
theorem cmpNum_tr (na nb nc:Bool) (a b c:List Int):Tr (BK na nb a b) (BK nb nc b c) (BK na nc a c):=by have h1:=cmpZ_tr a b c;have h2:=(cmpZ_tr c b a).symm;rw[FJ b c,FJ a b,FJ a c] at h2;rw[Co,Co,Co];cases na<;>cases nb<;>cases nc<;>simp only[reduceIte,reduceCtorEq,if_true,if_false,Bool.false_eq_true]<;>first|exact h1|exact h2|(unfold Tr;constructor<;>intros<;>omega)
theorem cmpNum_zero {na nb:Bool} {a b:List Int} (h:BK na nb a b=0):na=nb∧a=b:=by
 rw[Co] at h;by_cases hn:na=nb
 ·rw[if_pos hn] at h;refine ⟨hn,cmpZ_zero ?_⟩;split at h<;>omega
 ·rw[if_neg hn] at h;split at h<;>omega
theorem GO (l m:List Va):FM l m=orI (Cf (.ofNat l.length) (.ofNat m.length)) (Ea l m):=rfl
theorem Cp (x y:Va) (l m:List Va):Ea (x::l) (y::m)=orI (x.cmp y) (Ea l m):=by rw[Ea];rfl
theorem FN (m:List Va):Ea [] m=0:=by cases m<;>rfl
theorem Hy (l:List Va):Ea l []=0:=by cases l<;>rfl
theorem Va.cmp_or (k n:Int) (g ab:Bool) (ac:Nat) (d:List Int) (s:List Nat) (lb:Bool) (lc:Nat) (l:List Va) (mb:Bool) (mc:Nat) (m:List Va) (k' n':Int) (g' ab':Bool) (ac':Nat) (d':List Int) (s':List Nat) (lb':Bool) (lc':Nat) (l':List Va) (mb':Bool) (mc':Nat) (m':List Va):
  (Va.mk k n g ab ac d s lb lc l mb mc m).cmp (Va.mk k' n' g' ab' ac' d' s' lb' lc' l' mb' mc' m')=
   orI (orI (Cf k k') (Cf n n')) (orI (orI (BK g g' d d') (EY s s')) (orI (orI (Cf (.ofNat l.length) (.ofNat l'.length)) (Ea l l')) (orI (Cf (.ofNat m.length) (.ofNat m'.length)) (Ea m m')))):=by
 rw[Va.cmp_eq];rfl
mutual
theorem Va.cmp_refl:∀x:Va,x.cmp x=0
 |.mk k n g ab ac d s lb lc l mb mc m=>by rw[Va.cmp_or,AV,AV,Cd,Cn,AV,AV,CI l,CI m];rfl
theorem CI:∀l:List Va,Ea l l=0
 | []=>rfl
 |x::l=>by rw[Cp,Va.cmp_refl x,CI l];rfl
end
mutual
theorem Va.cmp_neg:∀x y:Va,y.cmp x= - x.cmp y
 |.mk k n g ab ac d s lb lc l mb mc m,.mk k' n' g' ab' ac' d' s' lb' lc' l' mb' mc' m'=>by rw[Va.cmp_or,Va.cmp_or];exact DU (DU (DN _ _) fun _=>DN _ _) fun _=>DU (DU (cmpNum_neg _ _ _ _) fun _=>cmpS_neg _ _) fun _=>DU (DU (DN _ _) fun _=>JZ l l') fun _=>DU (DN _ _) fun _=>JZ m m'
theorem JZ:∀l m:List Va,Ea m l= - Ea l m
 | [],m=>by rw[FN,Hy];rfl
 |x::l,[]=>by rw[FN,Hy];rfl
 |x::l,y::m=>by rw[Cp,Cp];exact DU (Va.cmp_neg x y) fun _=>JZ l m
end
mutual
theorem Va.cmp_sg:∀x y:Va,Sg (x.cmp y)
 |.mk k n g ab ac d s lb lc l mb mc m,.mk k' n' g' ab' ac' d' s' lb' lc' l' mb' mc' m'=>by
  rw[Va.cmp_or];refine Gw (Gw (Fe _ _) (Fe _ _)) (Gw (Gw ?_ (cmpS_sg _ _)) (Gw (Gw (Fe _ _) (cmpL_sg l l')) (Gw (Fe _ _) (cmpL_sg m m'))));rw[Co];have:=cmpZ_sg d d';unfold Sg at this⊢;split
  ·split<;>omega
  ·split<;>omega
theorem cmpL_sg:∀l m:List Va,Sg (Ea l m)
 | [],m=>by rw[FN];exact .inr (.inl rfl)
 |x::l,[]=>by rw[Hy];exact .inr (.inl rfl)
 |x::l,y::m=>by rw[Cp];exact Gw (Va.cmp_sg x y) (cmpL_sg l m)
end
mutual
theorem Va.cmp_tr:∀x y z:Va,Tr (x.cmp y) (y.cmp z) (x.cmp z)
 |.mk k n g ab ac d s lb lc l mb mc m,.mk k' n' g' ab' ac' d' s' lb' lc' l' mb' mc' m',.mk k2 n2 g2 ab2 ac2 d2 s2 lb2 lc2 l2 mb2 mc2 m2=>by
  rw[Va.cmp_or,Va.cmp_or,Va.cmp_or];exact ((Fd _ _ _).or fun _ _ _=>Fd _ _ _).or fun _ _ _=>((cmpNum_tr _ _ _ _ _ _).or fun _ _ _=>cmpS_tr _ _ _).or fun _ _ _=>
   ((Fd _ _ _).or fun h1 h2 _=>cmpL_tr l l' l2 (lens h1) (lens h2)).or fun _ _ _=>(Fd _ _ _).or fun h1 h2 _=>cmpL_tr m m' m2 (lens h1) (lens h2)
theorem cmpL_tr:∀a b c:List Va,a.length=b.length→b.length=c.length→Tr (Ea a b) (Ea b c) (Ea a c)
 | [],[],[],_,_=>by rw[FN];exact .zero
 |x::a,y::b,z::c,h1,h2=>by rw[Cp,Cp,Cp];exact (Va.cmp_tr x y z).or fun _ _ _=>cmpL_tr a b c (by simpa using h1) (by simpa using h2)
 | [],_::_,_,h,_=>by simp at h
 |_::_,[],_,h,_=>by simp at h
 |_,[],_::_,_,h=>by simp at h
 |_,_::_,[],_,h=>by simp at h
end
def Va.le (x y:Va):Prop:=x.cmp y≤0
theorem Va.le_refl (x:Va):x.le x:=by unfold Va.le;rw[Va.cmp_refl];omega
theorem Va.le_trans {x y z:Va} (h1:x.le y) (h2:y.le z):x.le z:=(Va.cmp_tr x y z).1 h1 h2
theorem Va.le_total (x y:Va):x.le y∨y.le x:=by unfold Va.le;have:=Va.cmp_neg x y;omega
theorem Va.le_of_lt {x y:Va} (h:x.cmp y<0):x.le y:=by unfold Va.le;omega
theorem Va.eqv_symm {x y:Va} (h:x.cmp y=0):y.cmp x=0:=by have:=Va.cmp_neg x y;omega
theorem Va.eqv_trans {x y z:Va} (h1:x.cmp y=0) (h2:y.cmp z=0):x.cmp z=0:=by have a:=(Va.cmp_tr x y z).1 tO tO;have b:=(Va.cmp_tr z y x).1 (by have:=Va.cmp_neg y z;omega) (by have:=Va.cmp_neg x y;omega);have:=Va.cmp_neg x z;omega
end Go.AJ
