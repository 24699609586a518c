/- An order of the values. -/
import Derived.Test.YtgdbpnpolelfoaaGreatDoorWa
set_option linter.all false
namespace Go.AJ
open Go
theorem Cm (a b:Int):Cz a b=if a<b then -1 else if b<a then 1 else 0:=by unfold Cz;rw[Cw,Cw];simp only[decide_eq_true_eq];rfl
theorem Bb (a b:Int):orI a b=if a=0 then b else a:=by unfold orI;rw[Ec];simp only[decide_eq_true_eq];rfl
def Tr (a b c:Int):Prop:=(a≤0→b≤0→c≤0)∧(a≤0→b≤0→c=0→a=0∧b=0)
def Sg (a:Int):Prop:=a= -1∨a=0∨a=1
theorem Tr.zero:Tr 0 0 0:=⟨fun _ _=>by omega,fun _ _ _=>⟨rfl,rfl⟩⟩
theorem Tr.or {a b c a' b' c':Int} (h:Tr a b c) (h':a=0→b=0→c=0→Tr a' b' c'):Tr (orI a a') (orI b b') (orI c c'):=by
 obtain ⟨h1,h2⟩:=h;rw[Bb,Bb,Bb];by_cases ha:a=0
 ·by_cases hb:b=0
  ·have hc:c=0∨c<0:=by have:=h1 tO tO;omega
   rcases hc with hc|hc
   ·rw[if_pos ha,if_pos hb,if_pos hc];exact h' ha hb hc
   ·rw[if_pos ha,if_pos hb,if_neg tO];exact ⟨fun _ _=>by omega,fun _ _ _=>by omega⟩
  ·rw[if_pos ha,if_neg hb];refine ⟨fun _ h4=>?_,fun _ h4 h5=>?_⟩
   ·have:=h1 tO h4;have h6:=h2 tO h4;by_cases hc:c=0
    ·exact absurd (h6 hc).2 hb
    ·rw[if_neg hc];exact this
   ·have:=h1 tO h4;have h6:=h2 tO h4;by_cases hc:c=0
    ·exact absurd (h6 hc).2 hb
    ·rw[if_neg hc] at h5;exact absurd h5 hc
 ·rw[if_neg ha];have hb:(if b=0 then b' else b)≤0→a≤0→b≤0:=by
   intro h3 h4;by_cases hb:b=0
   ·omega
   ·rw[if_neg hb] at h3;exact h3
  refine ⟨fun h3 h4=>?_,fun h3 h4 h5=>?_⟩
  ·have:=h1 h3 (hb h4 h3);have h6:=h2 h3 (hb h4 h3);by_cases hc:c=0
   ·exact absurd (h6 hc).1 ha
   ·rw[if_neg hc];exact this
  ·have:=h1 h3 (hb h4 h3);have h6:=h2 h3 (hb h4 h3);by_cases hc:c=0
   ·exact absurd (h6 hc).1 ha
   ·rw[if_neg hc] at h5;exact absurd h5 hc
theorem Tr.symm {a b c:Int} (h:Tr a b c):Tr b a c:=⟨fun h1 h2=>h.1 h2 h1,fun h1 h2 h3=>(h.2 h2 h1 h3).symm⟩
theorem Ef {a b a' b':Int} (h:a'= -a) (h':a=0→b'= -b):orI a' b'= - orI a b:=by
 rw[Bb,Bb];by_cases ha:a=0
 ·rw[if_pos tO,if_pos ha];exact h' ha
 ·rw[if_neg tO,if_neg ha];exact h
theorem Hf {a b:Int} (h:Sg a) (h':Sg b):Sg (orI a b):=by rw[Bb];split<;>assumption
theorem EB {a b:Int}:orI a b=0↔a=0∧b=0:=by rw[Bb];split<;>constructor<;>intro h<;>(try omega)
theorem su:orI 0 0=0:=rfl
theorem Bc (a:Int):Cz a a=0:=by rw[Cm];simp
theorem D9 (a b:Int):Cz b a= - Cz a b:=by
 rw[Cm,Cm];rcases Int.lt_trichotomy a b with h|h|h
 ·rw[if_neg tO,if_pos h,if_pos h];rfl
 ·subst h;simp
 ·rw[if_pos h,if_neg tO,if_pos h]
theorem OM (a b:Int):(Cz a b≤0↔a≤b)∧(Cz a b=0↔a=b):=by
 rw[Cm];rcases Int.lt_trichotomy a b with h|h|h
 ·rw[if_pos h];omega
 ·subst h;simp
 ·rw[if_neg tO,if_pos h];omega
theorem FE (a b c:Int):Tr (Cz a b) (Cz b c) (Cz a c):=by obtain ⟨a1,a2⟩:=OM a b;obtain ⟨b1,b2⟩:=OM b c;obtain ⟨c1,c2⟩:=OM a c;refine ⟨fun h1 h2=>c1.2 (Int.le_trans (a1.1 h1) (b1.1 h2)),fun h1 h2 h3=>?_⟩;have:=a1.1 h1;have:=b1.1 h2;have:=c2.1 h3;exact ⟨a2.2 tO,b2.2 tO⟩
theorem FF (a b:Int):Sg (Cz a b):=by
 unfold Sg;rw[Cm];split
 ·exact .inl rfl
 ·split
  ·exact .inr (.inr rfl)
  ·exact .inr (.inl rfl)
theorem CY {a b:Int}:Cz a b=0↔a=b:=by
 rw[Cm];constructor
 ·intro h;by_cases h1:a<b
  ·rw[if_pos h1] at h;cases h
  ·rw[if_neg h1] at h;by_cases h2:b<a
   ·rw[if_pos h2] at h;cases h
   ·omega
 ·intro h;subst h;simp
theorem jc:Fn [] []=0:=rfl
theorem Iu (a b:List Nat):Fn a b=if ltL a b=true then -1 else if ltL b a=true then 1 else 0:=rfl
theorem It {y:Nat} {b:List Nat}:Fn [] (y::b)= -1:=rfl
theorem EJ {x:Nat} {a:List Nat}:Fn (x::a) []=1:=rfl
theorem oZ (x y:Nat) (a b:List Nat):ltL (x::a) (y::b)=(decide (x<y)||(decide (x=y)&&ltL a b)):=by
 have e1:Nat.blt x y=decide (x<y):=by
  by_cases h:x<y
  ·rw[decide_eq_true h];exact Nat.blt_eq▸h
  ·rw[decide_eq_false h,Bool.eq_false_iff];intro e;exact h (Nat.blt_eq▸e)
 have e2:Nat.beq x y=decide (x=y):=by
  by_cases h:x=y
  ·rw[decide_eq_true h];exact Nat.beq_eq▸h
  ·rw[decide_eq_false h,Bool.eq_false_iff];intro e;exact h (Nat.beq_eq▸e)
 rw[ltL];simp only[e1,e2];cases decide (x<y)<;>cases decide (x=y)<;>rfl
theorem EL (x y:Nat) (a b:List Nat):Fn (x::a) (y::b)=orI (Cz (.ofNat x) (.ofNat y)) (Fn a b):=by
 rw[Iu,oZ,oZ,Bb,Cm];rcases Nat.lt_trichotomy x y with h|h|h
 ·rw[if_pos (by simp [h]),if_pos (show (Int.ofNat x)<Int.ofNat y by simpa using h)];rfl
 ·subst h;simp only[Nat.lt_irrefl,decide_false,decide_true,Bool.false_or,Bool.true_and,Int.lt_irrefl,if_false,if_true];rfl
 ·have n1:¬x<y:=tO;have n2:¬x=y:=tO;have n3:¬(Int.ofNat x<Int.ofNat y):=by simpa using n1
  rw[decide_eq_false n1,decide_eq_false n2,if_neg (by simp),decide_eq_true h,if_pos (by simp),if_neg n3,if_pos (show (Int.ofNat y)<Int.ofNat x by simpa using h)];rfl
theorem CE:∀a:List Nat,Fn a a=0
 | []=>rfl
 |x::a=>by rw[EL,Bc,Bb,if_pos rfl];exact CE a
theorem Qt:∀a b:List Nat,Fn b a= - Fn a b
 | [],[]=>rfl
 | [],_::_=>rfl
 |_::_,[]=>rfl
 |x::a,y::b=>by rw[EL,EL];exact Ef (D9 _ _) fun _=>Qt a b
theorem OI:∀a b:List Nat,Sg (Fn a b)
 | [],[]=> .inr (.inl rfl)
 | [],_::_=> .inl rfl
 |_::_,[]=> .inr (.inr rfl)
 |x::a,y::b=>by rw[EL];exact Hf (FF _ _) (OI a b)
theorem dz:∀a b c:List Nat,Tr (Fn a b) (Fn b c) (Fn a c)
 | [],[],[]=> .zero
 | [],[],_::_=>⟨fun _ _=>by rw[It];omega,fun _ _ h=>by rw[It] at h;omega⟩
 | [],_::_,[]=>⟨fun _ _=>by rw[jc];omega,fun _ h _=>by rw[EJ] at h;omega⟩
 | [],_::_,_::_=>⟨fun _ _=>by rw[It];omega,fun _ _ h=>by rw[It] at h;omega⟩
 |_::_,[],[]=>⟨fun h=>by rw[EJ] at h;omega,fun h=>by rw[EJ] at h;omega⟩
 |_::_,[],_::_=>⟨fun h=>by rw[EJ] at h;omega,fun h=>by rw[EJ] at h;omega⟩
 |_::_,_::_,[]=>⟨fun _ h=>by rw[EJ] at h;omega,fun _ h=>by rw[EJ] at h;omega⟩
 |x::a,y::b,z::c=>by rw[EL,EL,EL];exact (FE _ _ _).or fun _ _ _=>dz a b c
theorem Ir:∀{a b:List Nat},Fn a b=0→a=b
 | [],[],_=>rfl
 | [],_::_,h=>by rw[It] at h;omega
 |_::_,[],h=>by rw[EJ] at h;omega
 |x::a,y::b,h=>by rw[EL,EB,CY] at h;have hx:x=y:=Int.ofNat.inj h.1;rw[hx,Ir h.2]
def Hg (a b:List Int):Nat→Int
 |0=>0
 |i+1=>orI (Cz (a.getD i 0) (b.getD i 0)) (Hg a b i)
theorem Qw (a b:List Int):∀(i:Nat) (c:Int),KZ a b i c=orI c (Hg a b i)
 |0,c=>by rw[KZ,Hg,Bb];split<;>simp_all
 |i+1,c=>by rw[KZ,Qw a b i,Hg,Ec];simp only[decide_eq_true_eq];rw[Bb c];rfl
theorem M6 (a:List Int):∀i,Hg a a i=0
 |0=>rfl
 |i+1=>by rw[Hg,Bc,Bb,if_pos rfl];exact M6 a i
theorem Qx (a b:List Int):∀i,Hg b a i= - Hg a b i
 |0=>rfl
 |i+1=>by rw[Hg,Hg];exact Ef (D9 _ _) fun _=>Qx a b i
theorem dD (a b:List Int):∀i,Sg (Hg a b i)
 |0=> .inr (.inl rfl)
 |i+1=>by rw[Hg];exact Hf (FF _ _) (dD a b i)
theorem dC (a b c:List Int):∀i,Tr (Hg a b i) (Hg b c i) (Hg a c i)
 |0=> .zero
 |i+1=>by rw[Hg,Hg,Hg];exact (FE _ _ _).or fun _ _ _=>dC a b c i
theorem M5 {a b:List Int}:∀{i},Hg a b i=0→∀j,j<i→a.getD j 0=b.getD j 0
 |0,_,j,h=>by omega
 |i+1,h,j,hj=>by
  rw[Hg,EB,CY] at h;by_cases e:j=i
  ·rw[e];exact h.1
  ·exact M5 h.2 j tO
def Iq (a b:List Int):Int:=orI (Cz (.ofNat a.length) (.ofNat b.length)) (Hg a b a.length)
theorem Ud {m n:Nat} (h:Cz (.ofNat m) (.ofNat n)=0):m=n:=Int.ofNat.inj (CY.1 h)
theorem dv (a:List Int):Iq a a=0:=by rw[Iq,Bc,M6];rfl
theorem F8 (a b:List Int):Iq b a= - Iq a b:=by rw[Iq,Iq];exact Ef (D9 _ _) fun h=>by rw[←Ud h];exact Qx a b _
theorem du (a b:List Int):Sg (Iq a b):=Hf (FF _ _) (dD _ _ _)
theorem dt (a b c:List Int):Tr (Iq a b) (Iq b c) (Iq a c):=by rw[Iq,Iq,Iq];exact (FE _ _ _).or fun h _ _=>by rw[←Ud h];exact dC a b c _
theorem dr {a b:List Int} (h:Iq a b=0):a=b:=by rw[Iq,EB] at h;have hl:=Ud h.1;refine List.ext_getElem hl fun i h1 h2=>?_;have:=M5 h.2 i h1;rw[List.getD_eq_getElem?_getD,List.getD_eq_getElem?_getD,List.getElem?_eq_getElem h1,List.getElem?_eq_getElem h2] at this;exact this
theorem CF (na nb:Bool) (a b:List Int):BV na nb a b=if na=nb then (if na=true then-Iq a b else Iq a b) else if na=true then -1 else 1:=by
 have e:∀c:Int,Sg c→Am .i64 (Int.sub 0 c)= - c:=by rintro c (rfl|rfl|rfl)<;>rfl
 unfold BV;rw[Qw];show (if na=nb then (if na=true then Am .i64 (Int.sub 0 (Iq a b)) else Iq a b) else if na=true then -1 else 1)=_;rw[e _ (du a b)]
theorem Cv (na:Bool) (a:List Int):BV na na a a=0:=by rw[CF,if_pos rfl,dv];split<;>rfl
theorem TH (na nb:Bool) (a b:List Int):BV nb na b a= - BV na nb a b:=by rw[CF,CF,F8 a b];cases na<;>cases nb<;>simp
theorem dA (na nb nc:Bool) (a b c:List Int):Tr (BV na nb a b) (BV nb nc b c) (BV na nc a c):=by have h1:=dt a b c;have h2:=(dt c b a).symm;rw[F8 b c,F8 a b,F8 a c] at h2;rw[CF,CF,CF];cases na<;>cases nb<;>cases nc<;>simp only[reduceIte,reduceCtorEq,if_true,if_false,Bool.false_eq_true]<;>first|exact h1|exact h2|(unfold Tr;constructor<;>intros<;>omega)
theorem OJ {na nb:Bool} {a b:List Int} (h:BV na nb a b=0):na=nb∧a=b:=by
 rw[CF] at h;by_cases hn:na=nb
 ·rw[if_pos hn] at h;refine ⟨hn,dr ?_⟩;split at h<;>omega
 ·rw[if_neg hn] at h;split at h<;>omega
theorem HC (l m:List Va):Gb l m=orI (Cz (.ofNat l.length) (.ofNat m.length)) (Er l m):=rfl
theorem CG (x y:Va) (l m:List Va):Er (x::l) (y::m)=orI (x.cmp y) (Er l m):=by rw[Er];rfl
theorem Gc (m:List Va):Er [] m=0:=by cases m<;>rfl
theorem Iv (l:List Va):Er l []=0:=by cases l<;>rfl
theorem Va.cmp_or (k n:Int) (g ab:Bool) (ac:Nat) (d:List Int) (s:List Nat) (lb:Bool) (lc:Nat) (l:List Va) (mb:Bool) (mc:Nat) (m:List Va) (k' n':Int) (g' ab':Bool) (ac':Nat) (d':List Int) (s':List Nat) (lb':Bool) (lc':Nat) (l':List Va) (mb':Bool) (mc':Nat) (m':List Va):
  (Va.mk k n g ab ac d s lb lc l mb mc m).cmp (Va.mk k' n' g' ab' ac' d' s' lb' lc' l' mb' mc' m')=
   orI (orI (Cz k k') (Cz n n')) (orI (orI (BV g g' d d') (Fn s s')) (orI (orI (Cz (.ofNat l.length) (.ofNat l'.length)) (Er l l')) (orI (Cz (.ofNat m.length) (.ofNat m'.length)) (Er m m')))):=by
 rw[Va.cmp_eq];rfl
mutual
theorem Va.cmp_refl:∀x:Va,x.cmp x=0
 |.mk k n g ab ac d s lb lc l mb mc m=>by rw[Va.cmp_or,Bc,Bc,Cv,CE,Bc,Bc,CX l,CX m];rfl
theorem CX:∀l:List Va,Er l l=0
 | []=>rfl
 |x::l=>by rw[CG,Va.cmp_refl x,CX l];rfl
end
mutual
theorem Va.cmp_neg:∀x y:Va,y.cmp x= - x.cmp y
 |.mk k n g ab ac d s lb lc l mb mc m,.mk k' n' g' ab' ac' d' s' lb' lc' l' mb' mc' m'=>by rw[Va.cmp_or,Va.cmp_or];exact Ef (Ef (D9 _ _) fun _=>D9 _ _) fun _=>Ef (Ef (TH _ _ _ _) fun _=>Qt _ _) fun _=>Ef (Ef (D9 _ _) fun _=>KX l l') fun _=>Ef (D9 _ _) fun _=>KX m m'
theorem KX:∀l m:List Va,Er m l= - Er l m
 | [],m=>by rw[Gc,Iv];rfl
 |x::l,[]=>by rw[Gc,Iv];rfl
 |x::l,y::m=>by rw[CG,CG];exact Ef (Va.cmp_neg x y) fun _=>KX l m
end
mutual
theorem Va.cmp_sg:∀x y:Va,Sg (x.cmp y)
 |.mk k n g ab ac d s lb lc l mb mc m,.mk k' n' g' ab' ac' d' s' lb' lc' l' mb' mc' m'=>by
  rw[Va.cmp_or];refine Hf (Hf (FF _ _) (FF _ _)) (Hf (Hf ?_ (OI _ _)) (Hf (Hf (FF _ _) (OL l l')) (Hf (FF _ _) (OL m m'))));rw[CF];have:=du d d';unfold Sg at this⊢;split
  ·split<;>omega
  ·split<;>omega
theorem OL:∀l m:List Va,Sg (Er l m)
 | [],m=>by rw[Gc];exact .inr (.inl rfl)
 |x::l,[]=>by rw[Iv];exact .inr (.inl rfl)
 |x::l,y::m=>by rw[CG];exact Hf (Va.cmp_sg x y) (OL l m)
end
mutual
theorem Va.cmp_tr:∀x y z:Va,Tr (x.cmp y) (y.cmp z) (x.cmp z)
 |.mk k n g ab ac d s lb lc l mb mc m,.mk k' n' g' ab' ac' d' s' lb' lc' l' mb' mc' m',.mk k2 n2 g2 ab2 ac2 d2 s2 lb2 lc2 l2 mb2 mc2 m2=>by
  rw[Va.cmp_or,Va.cmp_or,Va.cmp_or];exact ((FE _ _ _).or fun _ _ _=>FE _ _ _).or fun _ _ _=>((dA _ _ _ _ _ _).or fun _ _ _=>dz _ _ _).or fun _ _ _=>
   ((FE _ _ _).or fun h1 h2 _=>OK l l' l2 (Ud h1) (Ud h2)).or fun _ _ _=>(FE _ _ _).or fun h1 h2 _=>OK m m' m2 (Ud h1) (Ud h2)
theorem OK:∀a b c:List Va,a.length=b.length→b.length=c.length→Tr (Er a b) (Er b c) (Er a c)
 | [],[],[],_,_=>by rw[Gc];exact .zero
 |x::a,y::b,z::c,h1,h2=>by rw[CG,CG,CG];exact (Va.cmp_tr x y z).or fun _ _ _=>OK a b c (by simpa using h1) (by simpa using h2)
 | [],_::_,_,h,_=>by simp at h
 |_::_,[],_,h,_=>by simp at h
 |_,[],_::_,_,h=>by simp at h
 |_,_::_,[],_,h=>by simp at h
end
def Va.le (x y:Va):Prop:=x.cmp y≤0
theorem Va.le_refl (x:Va):x.le x:=by unfold Va.le;rw[Va.cmp_refl];omega
theorem Va.le_trans {x y z:Va} (h1:x.le y) (h2:y.le z):x.le z:=(Va.cmp_tr x y z).1 h1 h2
theorem Va.le_total (x y:Va):x.le y∨y.le x:=by unfold Va.le;have:=Va.cmp_neg x y;omega
theorem Va.le_of_lt {x y:Va} (h:x.cmp y<0):x.le y:=by unfold Va.le;omega
theorem Va.eqv_symm {x y:Va} (h:x.cmp y=0):y.cmp x=0:=by have:=Va.cmp_neg x y;omega
theorem Va.eqv_trans {x y z:Va} (h1:x.cmp y=0) (h2:y.cmp z=0):x.cmp z=0:=by have a:=(Va.cmp_tr x y z).1 tO tO;have b:=(Va.cmp_tr z y x).1 (by have:=Va.cmp_neg y z;omega) (by have:=Va.cmp_neg x y;omega);have:=Va.cmp_neg x z;omega
end Go.AJ
