/- The walk: what is formed; traversals. -/
import Derived.Test.YtgdbpnpolelfoaaGreatDoorWa
set_option linter.all false
namespace Go.AJ
open Go
def badB (x:Nat):Bool:=decide (x<32)||decide (126<x)
def CH (s:List Nat):Bool:= !s.any badB&&decide (s.length≤200)
def Bh (x:Nat):Bool:=(!decide (x<97)&& !decide (122<x))||(!decide (x<65)&& !decide (90<x))
def CB (x:Nat):Bool:=Bh x||(!decide (x<48)&& !decide (57<x))||decide (x=95)
def Bv (s:List Nat):Bool:=match s with
 | []=>false
 |x::r=> !(decide (40<(x::r).length))&&Bh x&& !CD (x::r) [84,82,85,69]&& !CD (x::r) [70,65,76,83,69]&&(x::r).all CB
def Gk (x:Int):Bool:=ltI x (.ofNat 0)|| !ltI x (.ofNat 1000000000)
def C6 (neg:Bool) (d:List Int):Bool:=
 !decide (40<d.length)&& !(decide (d.length=0)&&neg)&& !(decide (0<d.length)&&Ar (d.getD (d.length-1) 0) (.ofNat 0))&& !d.any Gk
theorem Ap {α:Type} {s r:List α} {x:α} {i:Nat} (h:s.drop i=x::r):s[i]? =some x:=by have:=congrArg (·[0]?) h;simpa using this
theorem Al {α:Type} {s r:List α} {x:α} {i:Nat} (h:s.drop i=x::r):s.drop (i+1)=r:=by have:=congrArg (List.drop 1) h;simpa [List.drop_drop] using this
section
variable {E:Env} {L n:Nat} {h:Hp} {kc:KC} {t:T V} {d:Dc} {k:KE} {fi:FI} {c:KV} {C:Av}
theorem loop428 {s:List Nat} (hs:s.length≤9223372036854775807):∀(r:List Nat) (i M:Nat) (t:T V),s.drop i=r→i+r.length=s.length→r.length+1≤M→T.get und (K.of 0) t=.str s→T.get und (K.of 5) t=.int .i64 (.ofNat s.length)→T.get und (K.of 6) t=.int .i64 (.ofNat i)→
  (r.any badB=false→∀t1,T.get und (K.of 0) t1=.str s→k (.exit 0) t1 d h=true)→(r.any badB=true→∀t1,T.get und (K.of 2) t1=.bool false→k .ret t1 d h=true)→
  iter (exec C L fi b428_0) M t d h k=true:=by
 intro r;induction r with
 |nil=>intro i M t hr hi hM g0 g5 g6 hk hb;obtain ⟨M,rfl⟩:=pM M;have hi':(i<s.length)=False:=eq_false (by simp at hi;omega);rw[Ab,b428_0];refine Tst (J3 g5 g6 hi') ?_;exact hk rfl _ (Ssc g0)
 |cons x r ih=>
  intro i M t hr hi hM g0 g5 g6 hk hb;obtain ⟨M,rfl⟩:=pM M;simp only[List.length_cons] at hi hM;have hi':(i<s.length)=True:=eT;have hx:=Ap hr;have e1:=fun c h=>DG (c:=c) (h:=h) (ik:=.i64) hx;simp only[List.any_cons] at hk hb;rw[Ab,b428_0];by_cases h1:x<32
  ·refine Tst (J6 g0 g5 g6 hi' e1 h1) ?_;refine hb (by simp [badB,h1]) _ (Ag)
  ·by_cases h2:126<x
   ·refine Tst (J7 g0 g5 g6 hi' e1 h1 h2) ?_;refine hb (by simp [badB,h2]) _ (Ag)
   ·refine Tst (J7 g0 g5 g6 hi' e1 h1 h2) ?_;have hx0:badB x=false:=by simp [badB,h1,h2]
    rw[hx0,Bool.false_or] at hk hb;refine ih (i+1) _ _ (Al hr) tO tO ?_ ?_ ?_ hk hb
    ·exact Ssc g0
    ·exact Ssc g5
    ·exact Ag
theorem call428 (hE:Fns E) {s:List Nat} (hs:s.length≤9223372036854775807) (hL:s.length≤L) (hk:kc (.ret (.bool (CH s))) none h=true):
  call E (L+1) (n+1) (.fn 298) [.str s] none h kc=true:=by
 rw[Af hE.f428,c428,r428,p428_0,p428_1,p428_2];refine Sst @Ae ?_;refine loop428 hs s 0 _ _ rfl tO tO ?_ ?_ ?_ (fun hb t1 g0=>?_) (fun hb t1 g2=>?_)
 ·exact Ag
 ·exact Ag
 ·exact Ag
 ·have e:CH s= !decide (200<s.length):=by rw[CH,hb,Bool.not_false,Bool.true_and];by_cases h2:200<s.length<;>simp [h2]<;>omega
  rw[e] at hk;refine Sst g0 ?_;exact hk
 ·have e:CH s=false:=by rw[CH,hb];rfl
  rw[e] at hk;refine Sst g2 ?_;exact hk
theorem HB (hE:Fns E) {x:Nat}:call E (L+1) (n+1) (.fn 423) [.int .u8 (.ofNat x)] none h kc=kc (.ret (.bool (Bh x))) none h:=by rw[Af hE.f568,c568,r568,p568_0,p568_1];by_cases h1:x<97<;>by_cases h2:122<x<;>by_cases h3:x<65<;>by_cases h4:90<x<;>simp -implicitDefEqProofs only[↓sD,sB,↓reduceIte,Nat.reduceEqDiff,reduceCtorEq,h1,h2,h3,h4,decide_true,decide_false,Bh,Bool.or_false,Bool.or_true,Bool.and_false]
theorem call569 (hE:Fns E) {x:Nat}:call E (L+1) (n+2) (.fn 424) [.int .u8 (.ofNat x)] none h kc=kc (.ret (.bool (CB x))) none h:=by rw[Af hE.f569,c569,r569,p569_0,p569_1];cases h1:Bh x<;>by_cases h2:x<48<;>by_cases h3:57<x<;>cases h4:decide (x=95)<;>simp -implicitDefEqProofs only[↓sD,sB,↓reduceIte,Nat.reduceEqDiff,reduceCtorEq,HB hE,h1,h2,h3,h4,decide_true,decide_false,CB,Bool.or_false,Bool.or_true,Bool.and_false]
theorem loop429 (hE:Fns E) {s:List Nat} (hs:s.length≤9223372036854775807):∀(r:List Nat) (i M:Nat) (t:T V),s.drop i=r→i+r.length=s.length→r.length+1≤M→T.get und (K.of 0) t=.str s→T.get und (K.of 26) t=.int .i64 (.ofNat s.length)→T.get und (K.of 27) t=.int .i64 (.ofNat i)→
  (r.all CB=true→∀t1,k (.exit 0) t1 d h=true)→(r.all CB=false→∀t1,T.get und (K.of 2) t1=.bool false→k .ret t1 d h=true)→
  iter (exec (call E (L+1) (n+2)) (L+1) fi b429_0) M t d h k=true:=by
 intro r;induction r with
 |nil=>intro i M t hr hi hM g0 g5 g6 hk hb;obtain ⟨M,rfl⟩:=pM M;have hi':(i<s.length)=False:=eq_false (by simp at hi;omega);rw[Ab,b429_0];refine Tst (J3 g5 g6 hi') ?_;exact hk rfl _
 |cons x r ih=>
  intro i M t hr hi hM g0 g5 g6 hk hb;obtain ⟨M,rfl⟩:=pM M;simp only[List.length_cons] at hi hM;have hi':(i<s.length)=True:=eT;have e1:=fun c h=>DG (c:=c) (h:=h) (ik:=.i64) (Ap hr);simp only[List.all_cons] at hk hb;rw[Ab,b429_0];cases h1:CB x
  ·simp -implicitDefEqProofs (disch:=exact tD) only[↓sD,sB,↓reduceIte,Nat.reduceEqDiff,reduceCtorEq,g0,g5,g6,hi',decide_true,e1,call569 hE,h1];refine hb (by rw[h1];rfl) _ (Ag)
  ·simp -implicitDefEqProofs (disch:=exact tD) only[↓sD,sB,↓reduceIte,Nat.reduceEqDiff,reduceCtorEq,g0,g5,g6,hi',decide_true,e1,call569 hE,h1];rw[h1,Bool.true_and] at hk hb;refine ih (i+1) _ _ (Al hr) tO tO ?_ ?_ ?_ hk hb
   ·exact Ssc g0
   ·exact Ssc g5
   ·exact Ag
theorem call429 (hE:Fns E) {s:List Nat} (hs:s.length≤9223372036854775807) (hL:s.length≤L) (hk:kc (.ret (.bool (Bv s))) none h=true):
  call E (L+1) (n+3) (.fn 299) [.str s] none h kc=true:=by
 rw[Af hE.f429,c429,r429,p429_0,p429_1,p429_2,p429_3];cases s with
 |nil=>simp -implicitDefEqProofs only[↓sD,sB,↓reduceIte,Nat.reduceEqDiff,reduceCtorEq];exact hk
 |cons x r=>
  have e0:CD (x::r) []=false:=rfl;have e1:=fun c h=>DG (c:=c) (h:=h) (ik:=.i64) (s:=x::r) (i:=0) (x:=x) rfl;by_cases h1:40<(x::r).length
  ·have e:Bv (x::r)=false:=by simp only[Bv,h1,decide_true,Bool.not_true,Bool.false_and]
   rw[e] at hk;simp -implicitDefEqProofs only[↓sD,sB,↓reduceIte,Nat.reduceEqDiff,reduceCtorEq,e0,h1,decide_true];exact hk
  ·cases h2:Bh x
   ·have e:Bv (x::r)=false:=by simp only[Bv,h2,Bool.and_false,Bool.false_and]
    rw[e] at hk;simp -implicitDefEqProofs only[↓sD,sB,↓reduceIte,Nat.reduceEqDiff,reduceCtorEq,e0,e1,h1,decide_false,HB hE,h2];exact hk
   ·cases h3:CD (x::r) [84,82,85,69]
    ·cases h4:CD (x::r) [70,65,76,83,69]
     ·have e:Bv (x::r)=(x::r).all CB:=by simp only[Bv,h1,h2,h3,h4,decide_false,Bool.not_false,Bool.true_and]
      rw[e] at hk;simp -implicitDefEqProofs only[↓sD,sB,↓reduceIte,Nat.reduceEqDiff,reduceCtorEq,e0,e1,h1,decide_false,HB hE,h2,h3,h4,Ae];refine loop429 hE hs (x::r) 0 _ _ rfl tO tO ?_ ?_ ?_ (fun hb t1=>?_) (fun hb t1 g2=>?_)
      ·exact Ag
      ·exact Ag
      ·exact Ag
      ·rw[hb] at hk;simp -implicitDefEqProofs only[↓sD,sB,↓reduceIte];exact hk
      ·rw[hb] at hk;simp -implicitDefEqProofs only[↓sD,sB,g2];exact hk
     ·have e:Bv (x::r)=false:=by simp only[Bv,h4,Bool.not_true,Bool.and_false,Bool.false_and]
      rw[e] at hk;simp -implicitDefEqProofs only[↓sD,sB,↓reduceIte,Nat.reduceEqDiff,reduceCtorEq,e0,e1,h1,decide_false,HB hE,h2,h3,h4];exact hk
    ·have e:Bv (x::r)=false:=by simp only[Bv,h3,Bool.not_true,Bool.and_false,Bool.false_and]
     rw[e] at hk;simp -implicitDefEqProofs only[↓sD,sB,↓reduceIte,Nat.reduceEqDiff,reduceCtorEq,e0,e1,h1,decide_false,HB hE,h2,h3];exact hk
end
end Go.AJ
namespace Go.AJ
open Go
def ris:List Va→Bool
 |x::y::l=>ltI (x.cmp y) (.ofNat 0)&&ris (y::l)
 |_=>true
def BZ (l:List Va):Bool:=ris l&& !decide (4000<l.length)
section
variable {E:Env} {L n:Nat} {h:Hp} {kc:KC} {t:T V} {d:Dc} {k:KE} {fi:FI} {c:KV} {C:Av}
theorem call567 (hE:Fns E) {x:Int}:call E (L+1) (n+1) (.fn 422) [.int .i64 x] none h kc=kc (.ret (.bool (Gk x))) none h:=by rw[Af hE.f567,c567,r567,p567_0,p567_1];cases h1:ltI x (.ofNat 0)<;>cases h2:ltI x (.ofNat 1000000000)<;>simp -implicitDefEqProofs only[↓sD,sB,↓reduceIte,Nat.reduceEqDiff,reduceCtorEq,h1,h2,Gk,Bool.or_false,Bool.or_true]
theorem loop453 (hE:Fns E) {b:Bool} {cp:Nat} {s:List Int} (hs:s.length≤9223372036854775807):∀(r:List Int) (i M:Nat) (t:T V),s.drop i=r→i+r.length=s.length→r.length+1≤M→T.get und (K.of 0) t=slR b cp (AL s) s.length→T.get und (K.of 1) t=.fn 422 [] []→T.get und (K.of 7) t=.int .i64 (.ofNat s.length)→T.get und (K.of 8) t=.int .i64 (.ofNat i)→
  (r.any Gk=false→∀t1,k (.exit 0) t1 d h=true)→(r.any Gk=true→∀t1 j,T.get und (K.of 4) t1=.int .i64 (.ofNat j)→k .ret t1 d h=true)→
  iter (exec (call E (L+1) (n+1)) (L+1) fi HI) M t d h k=true:=by
 intro r;induction r with
 |nil=>intro i M t hr hi hM g0 g1 g5 g6 hk hb;obtain ⟨M,rfl⟩:=pM M;have hi':(i<s.length)=False:=eq_false (by simp at hi;omega);rw[Ab,HI];refine Tst (J3 g5 g6 hi') ?_;exact hk rfl _
 |cons x r ih=>
  intro i M t hr hi hM g0 g1 g5 g6 hk hb;obtain ⟨M,rfl⟩:=pM M;simp only[List.length_cons] at hi hM;have hi':(i<s.length)=True:=eT;have hx:s.getD i 0=x:=by rw[List.getD_eq_getElem?_getD,Ap hr];rfl
  have e1:=fun c h=>AS (c:=c) (h:=h) (Bc (l:=s) (i:=i) tO);simp only[hx] at e1;simp only[List.any_cons] at hk hb;rw[Ab,HI];cases h1:Gk x
  ·simp -implicitDefEqProofs (disch:=exact tD) only[↓sD,sB,↓reduceIte,Nat.reduceEqDiff,reduceCtorEq,g0,g1,g5,g6,hi',decide_true,AR,e1,call567 hE,h1];rw[h1,Bool.false_or] at hk hb;refine ih (i+1) _ _ (Al hr) tO tO ?_ ?_ ?_ ?_ hk hb
   ·exact Ssc g0
   ·exact Ssc g1
   ·exact Ssc g5
   ·exact Ag
  ·simp -implicitDefEqProofs (disch:=exact tD) only[↓sD,sB,↓reduceIte,Nat.reduceEqDiff,reduceCtorEq,g0,g1,g5,g6,hi',decide_true,AR,e1,call567 hE,h1];refine hb (by rw[h1];rfl) _ i (Ag)
theorem call453 (hE:Fns E) {b:Bool} {cp:Nat} {s:List Int} (hs:s.length≤9223372036854775807) (hL:s.length≤L)
  (hk:s.any Gk=false→kc (.ret (.int .i64 (.negSucc 0))) none h=true) (hb:s.any Gk=true→∀j,kc (.ret (.int .i64 (.ofNat j))) none h=true):
  call E (L+1) (n+2) (.fn 64) [slR b cp (AL s) s.length,.fn 422 [] []] none h kc=true:=by
 rw[Af hE.f453,c453,r453,p453_0,p453_1,p453_2];refine Sst @Ae ?_;refine loop453 hE hs (b:=b) (cp:=cp) s 0 _ _ rfl tO tO ?_ ?_ ?_ ?_ (fun hn t1=>?_) (fun hy t1 j g4=>?_)
 ·exact Ag
 ·exact Ag
 ·exact Ag
 ·exact Ag
 ·simp -implicitDefEqProofs only[↓sD,sB,↓reduceIte];exact hk hn
 ·simp -implicitDefEqProofs only[↓sD,sB,g4];exact hb hy j
theorem call313 (hE:Fns E) {b:Bool} {cp:Nat} {s:List Int} (hs:s.length≤9223372036854775807) (hL:s.length≤L) (hk:kc (.ret (.bool (s.any Gk))) none h=true):
  call E (L+1) (n+3) (.fn 26) [slR b cp (AL s) s.length,.fn 422 [] []] none h kc=true:=by
 rw[Af hE.f313,c313,r313,p313_0,p313_1];refine Be ?_;refine call453 hE hs hL (fun hn=>?_) (fun hy j=>?_)
 ·rw[hn] at hk;simp -implicitDefEqProofs only[↓sD,sB,↓reduceIte,Bw];exact hk
 ·rw[hy] at hk;simp -implicitDefEqProofs only[↓sD,sB,↓reduceIte,Nat.not_lt_zero,decide_false];exact hk
theorem call427 (hE:Fns E) {g b:Bool} {cp:Nat} {s:List Int} (hs:s.length≤9223372036854775807) (hL:s.length≤L)
  (hk:∀h1,Ah h h1→kc (.ret (.int .i64 (.ofNat (if C6 g s=true then 0 else 10)))) none h1=true):
  call E (L+1) (n+4) (.fn 297) [.agg [.bool g,slR b cp (AL s) s.length]] none h kc=true:=by
 have K1:Ah h (h.upd (nxt h) (.cells [.bool g,slR b cp (AL s) s.length])).bump:=kO;replace hk:=hk _ K1;rw[Af hE.f427,c427,r427,p427_0,p427_1,p427_2,p427_3,p427_4];have e40:C6 g s=(!decide (40<s.length)&& !(decide (s.length=0)&&g)&& !(decide (0<s.length)&&Ar (s.getD (s.length-1) 0) (.ofNat 0))&& !s.any Gk):=rfl;by_cases h1:40<s.length
 ·rw[decide_eq_true h1] at e40;simp only[Bool.not_true,Bool.false_and] at e40;rw[e40,if_neg (by simp)] at hk;simp -implicitDefEqProofs (disch:=exact tD) only[↓sD,sB,↓reduceIte,Nat.reduceEqDiff,h1,decide_true];exact hk
 ·cases hl:s.length with
  |zero=>
   obtain rfl:s= []:=List.length_eq_zero_iff.1 hl;cases g
   ·have e:C6 false []=true:=rfl;rw[e,if_pos rfl] at hk;refine Tst @Nat.not_lt_zero ?_;refine call313 hE (by simp) (by simp) ?_;simp -implicitDefEqProofs (disch:=exact tD) only[↓sD,sB,↓reduceIte,List.any_nil];exact hk
   ·have e:C6 true []=false:=rfl;rw[e,if_neg (by simp)] at hk;simp -implicitDefEqProofs (disch:=exact tD) only[↓sD,sB,↓reduceIte,Nat.reduceEqDiff,Nat.not_lt_zero,decide_false];exact hk
  |succ m=>
   rw[hl] at h1 hs hL e40;simp only[h1,decide_false,Nat.add_one_ne_zero,Bool.not_false,Bool.true_and,Bool.false_and,Nat.zero_lt_succ,decide_true,Nat.add_sub_cancel] at e40;have e1:=fun c h=>AS (c:=c) (h:=h) (Bc (l:=s) (i:=m) tO);have em:Int.ofNat (m+1)=Int.ofNat s.length:=by rw[hl]
   cases h2:Ar (s.getD m 0) (.ofNat 0)
   ·rw[h2] at e40;simp -implicitDefEqProofs (disch:=first|assumption|((try simp only[dB]);first|done|omega)) only[↓sD,sB,↓reduceIte,Nat.reduceEqDiff,←hl,decide_false,decide_true,show (s.length=0)=False from eq_false (by omega),show (0<s.length)=True from eq_true (by omega),show (40<s.length)=False from eq_false (by omega),Bn,show dec s.length=.ofNat m from by rw[hl];rfl,AR,e1,h2];refine call313 hE tO tO ?_;simp only[Bool.not_false,Bool.true_and] at e40;cases h3:s.any Gk
    ·rw[e40,h3,Bool.not_false,if_pos rfl] at hk;simp -implicitDefEqProofs (disch:=exact tD) only[↓sD,sB,↓reduceIte];exact hk
    ·rw[e40,h3,Bool.not_true,if_neg (by simp)] at hk;simp -implicitDefEqProofs (disch:=exact tD) only[↓sD,sB,↓reduceIte];exact hk
   ·rw[h2] at e40;simp only[Bool.not_true,Bool.false_and] at e40;rw[e40,if_neg (by simp)] at hk;simp -implicitDefEqProofs (disch:=exact tD) only[↓sD,sB,↓reduceIte,Nat.reduceEqDiff,←hl,decide_false,decide_true,show (s.length=0)=False from eF,show (0<s.length)=True from eT,show (40<s.length)=False from eF,Bn,show dec s.length=.ofNat m from by rw[hl];rfl,AR,e1,h2];exact hk
end
end Go.AJ
namespace Go.AJ
open Go
def AM:Va→Bool
 |.mk kind n neg _ _ d s _ _ l _ _ m=>
  if Ar kind (.ofNat 1)=true then (Ar n (.ofNat 0)||Ar n (.ofNat 1))&& !(neg||decide (0<d.length))&&CD s []&&decide (l.length+m.length=0)
  else if Ar kind (.ofNat 2)=true then C6 neg d&&Ar n (.ofNat 0)&&CD s []&&decide (l.length+m.length=0)
  else if Ar kind (.ofNat 3)=true then Ar n (.ofNat 0)&& !(neg||decide (0<d.length))&& !decide (0<l.length+m.length)&&CH s
  else if Ar kind (.ofNat 4)=true then Ar n (.ofNat 0)&& !(neg||decide (0<d.length))&& !decide (0<l.length+m.length)&&Bv s
  else if Ar kind (.ofNat 5)=true then Ar n (.ofNat 0)&& !(neg||decide (0<d.length))&&CD s []&&BZ l&&decide (m.length=0)
  else if Ar kind (.ofNat 6)=true then Ar n (.ofNat 0)&& !(neg||decide (0<d.length))&&CD s []&&BZ l&&decide (m.length=l.length)
  else false
theorem ris_cons (x y:Va) (l:List Va):ris (x::y::l)=(ltI (x.cmp y) (.ofNat 0)&&ris (y::l)):=rfl
section
variable {E:Env} {L n:Nat} {h:Hp} {kc:KC} {t:T V} {d:Dc} {k:KE} {fi:FI} {c:KV} {C:Av}
theorem loop430 (hE:Fns E) (hL9:L≤9223372036854775807) {D:Nat} (hn:2*D+4≤n) {b:Bool} {cp:Nat} {s:List Va} (hs:s.length≤9223372036854775807) {h0:Hp}:
  ∀(r:List Va) (x:Va) (i M:Nat) (t:T V) (h:Hp),s.drop i=x::r→i+1+r.length=s.length→r.length+1≤M→x.dep≤D→x.bulk≤L→BC r≤D→Ax r≤L→Ah h0 h→
  T.get und (K.of 0) t=slR b cp (AB s) s.length→T.get und (K.of 3) t=.int .i64 (.ofNat (i+1))→
  (ris (x::r)=true→∀t1 h1,Ah h0 h1→T.get und (K.of 0) t1=slR b cp (AB s) s.length→k (.exit 0) t1 d h1=true)→
  (ris (x::r)=false→∀t1 h1,Ah h0 h1→T.get und (K.of 2) t1=.bool false→k .ret t1 d h1=true)→
  iter (exec (call E (L+3) n) (L+3) fi b430_0) M t d h k=true:=by
 intro r;induction r with
 |nil=>intro x i M t h hr hi hM hxd hxb hd hb K0 g0 g3 hk hf;obtain ⟨M,rfl⟩:=pM M;have hi':(i+1<s.length)=False:=eq_false (by simp at hi;omega);rw[Ab,b430_0];refine Tst (J3 g0 g3 hi') ?_;exact hk rfl _ _ K0 (Ssc g0)
 |cons y r ih=>
  intro x i M t h hr hi hM hxd hxb hd hb K0 g0 g3 hk hf;obtain ⟨M,rfl⟩:=pM M;simp only[List.length_cons] at hi hM;simp only[BC,Ax] at hd hb;have hi':(i+1<s.length)=True:=eT;have e1:=fun c h=>DD (c:=c) (h:=h) (Ap hr);have e2:=fun c h=>DD (c:=c) (h:=h) (Ap (Al hr));have e3:Ai .i64 (Int.sub (.ofNat (i+1)) (.ofNat 1))=.ofNat i:=Bn (i:=i+1) tO;rw[Ab,b430_0];refine Tst (J7 g0 g3 hi' e3 e1 e2 @Eb) ?_;refine call34 hE hL9 hxd hxb hn (fun h1 K1=>?_);rw[ris_cons] at hk hf;cases hc:ltI (x.cmp y) (.ofNat 0)
  ·refine Sst hc ?_;refine hf (by rw[hc];rfl) _ _ (K0.trans K1) ?_;exact Ag
  ·rw[hc,Bool.true_and] at hk hf;refine Sst (J2 hc g3) ?_;refine ih y (i+1) _ _ _ (Al hr) tO tO tO tO tO tO (K0.trans K1) ?_ ?_ hk hf
   ·exact Ssc g0
   ·exact Ag
theorem call430 (hE:Fns E) (hL9:L≤9223372036854775807) {D:Nat} (hn:2*D+4≤n) {b:Bool} {cp:Nat} {s:List Va} (hs:s.length≤L) (hd:BC s≤D) (hb:Ax s≤L)
  (hk:∀h1,Ah h h1→kc (.ret (.bool (BZ s))) none h1=true):
  call E (L+3) (n+1) (.fn 300) [slR b cp (AB s) s.length] none h kc=true:=by
 have e4:ris s=true→BZ s= !decide (4000<s.length):=fun e=>by rw[BZ,e,Bool.true_and]
 rw[Af hE.f430,c430,r430,p430_0,p430_1,p430_2];cases s with
 |nil=>have hk:=hk h (.refl h);rw[e4 rfl] at hk;simp -implicitDefEqProofs only[↓sD,sB,↓reduceIte,Nat.reduceEqDiff,reduceCtorEq,Ae,Ab,b430_0,List.length_nil,Nat.not_lt_zero,decide_false] at hk⊢;exact hk
 |cons x r=>
  simp only[BC,Ax] at hd hb;simp only[List.length_cons] at hs;refine Sst @Ae ?_;refine loop430 hE hL9 hn (b:=b) (cp:=cp) (s:=x::r) (by simp only[List.length_cons];omega) (h0:=h) r x 0 _ _ _ rfl (by simp only[List.length_cons];omega) tO tO tO tO tO (.refl h) ?_ ?_ (fun hy t1 h1 K1 g0=>?_) (fun hf t1 h1 K1 g2=>?_)
  ·exact Ag
  ·exact Ag
  ·have hk:=hk h1 K1;rw[e4 hy] at hk;simp -implicitDefEqProofs only[↓sD,sB,↓reduceIte,g0];exact hk
  ·have hk:=hk h1 K1;rw[BZ,hf,Bool.false_and] at hk;simp -implicitDefEqProofs only[↓sD,sB,g2];exact hk
end
end Go.AJ
namespace Go.AJ
open Go
section
variable {E:Env} {L n:Nat} {h:Hp} {kc:KC} {t:T V} {d:Dc} {k:KE} {fi:FI} {c:KV} {C:Av}
theorem rest278 (hE:Fns E) (hL9:L≤9223372036854775807) {D:Nat} (hn:2*D+4≤n) {b1:K} {kind m1:Int} {neg ab:Bool} {ac:Nat} {dd:List Int} {s:List Nat} {lb:Bool} {lc:Nat} {l:List Va} {mb:Bool} {mc:Nat} {m:List Va}
  (hd:BC l≤D) (hb:1+dd.length+s.length+Ax l+Ax m≤L)
  (g1:T.get und (K.of 1) t=.ptr b1 0) (g3:T.get und (K.of 3) t=.bool (neg||decide (0<dd.length)))
  (mm:blk h b1=.cells (Va.mk kind m1 neg ab ac dd s lb lc l mb mc m).cells) (hb1:b1.num<(nxt h).num)
  (hk:∀t1 h1,Ah h h1→T.get und (K.of 2) t1=.bool (AM (.mk kind m1 neg ab ac dd s lb lc l mb mc m))→k .ret t1 d h1=true):
  exec (call E (L+3) (n+2)) (L+3) fi p278_2 t d h (CV (Ga (call E (L+3) (n+2)) (L+3) fi (.seq p278_3 .ret) k) k)=true:=by
 obtain ⟨n,rfl⟩:∃n',n=n'+4:=⟨n-4,by omega⟩
 have hll:l.length≤Ax l:=AI l;have hml:m.length≤Ax m:=AI m;have e0:∀a b:Nat,a+b≤L→Ai .i64 (.ofNat (a+b))=.ofNat (a+b):=fun a b hab=>Ad tO;have e9:=e0 l.length m.length tO;simp only[Va.cells] at mm;rw[p278_2,p278_3];generalize hnb:(neg||decide (0<dd.length))=nb at g3;cases k1:Ar kind (.ofNat 1)
 ·cases k2:Ar kind (.ofNat 2)
  ·cases k3:Ar kind (.ofNat 3)
   ·cases k4:Ar kind (.ofNat 4)
    ·cases k5:Ar kind (.ofNat 5)
     ·cases k6:Ar kind (.ofNat 6)
      ·have e:AM (.mk kind m1 neg ab ac dd s lb lc l mb mc m)=false:=by simp only[AM,k1,k2,k3,k4,k5,k6,Bool.false_eq_true,if_false]
       rw[e] at hk;refine Sst (J8 g1 mm k1 k2 k3 k4 k5 k6) ?_;exact hk _ _ (.refl h) (Ag)
      ·have e:AM (.mk kind m1 neg ab ac dd s lb lc l mb mc m)=(Ar m1 (.ofNat 0)&& !nb&&CD s []&&BZ l&&decide (m.length=l.length)):=by simp only[AM,k1,k2,k3,k4,k5,k6,Bool.false_eq_true,if_false,if_true,hnb]
       cases c1:Ar m1 (.ofNat 0)
       ·simp only[c1,Bool.false_and] at e;rw[e] at hk;simp -implicitDefEqProofs only[↓sD,sB,↓reduceIte,Nat.reduceEqDiff,g1,mm,k1,k2,k3,k4,k5,k6,c1];exact hk _ _ (.refl h) (Ag)
       ·cases nb
        ·cases c2:CD s []
         ·simp only[c1,c2,Bool.false_and,Bool.and_false] at e;rw[e] at hk;simp -implicitDefEqProofs only[↓sD,sB,↓reduceIte,Nat.reduceEqDiff,g1,g3,mm,k1,k2,k3,k4,k5,k6,c1,c2];exact hk _ _ (.refl h) (Ag)
         ·simp -implicitDefEqProofs only[↓sD,sB,↓reduceIte,Nat.reduceEqDiff,g1,g3,mm,k1,k2,k3,k4,k5,k6,c1,c2];refine call430 hE hL9 (n:=n+5) (D:=D) tO tO hd tO (fun h1 K1=>?_);have mm:=(K1.old b1 hb1).trans mm;simp only[c1,c2,Bool.not_false,Bool.true_and] at e;rw[e] at hk;cases c3:BZ l
          ·refine Be ?_;exact hk _ _ K1 (by simp -implicitDefEqProofs only[sB,↓reduceIte,c3,Bool.false_and])
          ·refine Sst (J3 g1 mm k5) ?_;exact hk _ _ K1 (by simp -implicitDefEqProofs only[sB,↓reduceIte,c3])
        ·simp only[Bool.not_true,Bool.false_and,Bool.and_false] at e;rw[e] at hk;simp -implicitDefEqProofs only[↓sD,sB,↓reduceIte,Nat.reduceEqDiff,g1,g3,mm,k1,k2,k3,k4,k5,k6,c1];exact hk _ _ (.refl h) (Ag)
     ·have e:AM (.mk kind m1 neg ab ac dd s lb lc l mb mc m)=(Ar m1 (.ofNat 0)&& !nb&&CD s []&&BZ l&&decide (m.length=0)):=by simp only[AM,k1,k2,k3,k4,k5,Bool.false_eq_true,if_false,if_true,hnb]
      cases c1:Ar m1 (.ofNat 0)
      ·simp only[c1,Bool.false_and] at e;rw[e] at hk;simp -implicitDefEqProofs only[↓sD,sB,↓reduceIte,Nat.reduceEqDiff,g1,mm,k1,k2,k3,k4,k5,c1];exact hk _ _ (.refl h) (Ag)
      ·cases nb
       ·cases c2:CD s []
        ·simp only[c1,c2,Bool.false_and,Bool.and_false] at e;rw[e] at hk;simp -implicitDefEqProofs only[↓sD,sB,↓reduceIte,Nat.reduceEqDiff,g1,g3,mm,k1,k2,k3,k4,k5,c1,c2];exact hk _ _ (.refl h) (Ag)
        ·simp -implicitDefEqProofs only[↓sD,sB,↓reduceIte,Nat.reduceEqDiff,g1,g3,mm,k1,k2,k3,k4,k5,c1,c2];refine call430 hE hL9 (n:=n+5) (D:=D) tO tO hd tO (fun h1 K1=>?_);have mm:=(K1.old b1 hb1).trans mm;simp only[c1,c2,Bool.not_false,Bool.true_and] at e;rw[e] at hk;cases c3:BZ l
         ·refine Be ?_;exact hk _ _ K1 (by simp -implicitDefEqProofs only[sB,↓reduceIte,c3,Bool.false_and])
         ·refine Sst (J3 g1 mm k5) ?_;exact hk _ _ K1 (by simp -implicitDefEqProofs only[sB,↓reduceIte,c3])
       ·simp only[Bool.not_true,Bool.false_and,Bool.and_false] at e;rw[e] at hk;simp -implicitDefEqProofs only[↓sD,sB,↓reduceIte,Nat.reduceEqDiff,g1,g3,mm,k1,k2,k3,k4,k5,c1];exact hk _ _ (.refl h) (Ag)
    ·have e:AM (.mk kind m1 neg ab ac dd s lb lc l mb mc m)=(Ar m1 (.ofNat 0)&& !nb&& !decide (0<l.length+m.length)&&Bv s):=by simp only[AM,k1,k2,k3,k4,Bool.false_eq_true,if_false,if_true,hnb]
     cases c1:Ar m1 (.ofNat 0)
     ·simp only[c1,Bool.false_and] at e;rw[e] at hk;simp -implicitDefEqProofs only[↓sD,sB,↓reduceIte,Nat.reduceEqDiff,g1,mm,k1,k2,k3,k4,c1];exact hk _ _ (.refl h) (Ag)
     ·cases nb
      ·by_cases c2:0<l.length+m.length
       ·simp only[c1,c2,decide_true,Bool.not_true,Bool.false_and,Bool.and_false] at e;rw[e] at hk;simp -implicitDefEqProofs only[↓sD,sB,↓reduceIte,Nat.reduceEqDiff,g1,g3,mm,k1,k2,k3,k4,c1,c2,e9,decide_true];exact hk _ _ (.refl h) (Ag)
       ·simp only[c1,c2,decide_false,Bool.not_false,Bool.true_and] at e;rw[e] at hk;simp -implicitDefEqProofs only[↓sD,sB,↓reduceIte,Nat.reduceEqDiff,g1,g3,mm,k1,k2,k3,k4,c1,c2,e9,decide_false];refine call429 hE tO tO ?_;refine Be ?_;exact hk _ _ (.refl h) (Ag)
      ·simp only[Bool.not_true,Bool.false_and,Bool.and_false] at e;rw[e] at hk;simp -implicitDefEqProofs only[↓sD,sB,↓reduceIte,Nat.reduceEqDiff,g1,g3,mm,k1,k2,k3,k4,c1];exact hk _ _ (.refl h) (Ag)
   ·have e:AM (.mk kind m1 neg ab ac dd s lb lc l mb mc m)=(Ar m1 (.ofNat 0)&& !nb&& !decide (0<l.length+m.length)&&CH s):=by simp only[AM,k1,k2,k3,Bool.false_eq_true,if_false,if_true,hnb]
    cases c1:Ar m1 (.ofNat 0)
    ·simp only[c1,Bool.false_and] at e;rw[e] at hk;simp -implicitDefEqProofs only[↓sD,sB,↓reduceIte,Nat.reduceEqDiff,g1,mm,k1,k2,k3,c1];exact hk _ _ (.refl h) (Ag)
    ·cases nb
     ·by_cases c2:0<l.length+m.length
      ·simp only[c1,c2,decide_true,Bool.not_true,Bool.false_and,Bool.and_false] at e;rw[e] at hk;simp -implicitDefEqProofs only[↓sD,sB,↓reduceIte,Nat.reduceEqDiff,g1,g3,mm,k1,k2,k3,c1,c2,e9,decide_true];exact hk _ _ (.refl h) (Ag)
      ·simp only[c1,c2,decide_false,Bool.not_false,Bool.true_and] at e;rw[e] at hk;simp -implicitDefEqProofs only[↓sD,sB,↓reduceIte,Nat.reduceEqDiff,g1,g3,mm,k1,k2,k3,c1,c2,e9,decide_false];refine call428 hE tO tO ?_;refine Be ?_;exact hk _ _ (.refl h) (Ag)
     ·simp only[Bool.not_true,Bool.false_and,Bool.and_false] at e;rw[e] at hk;simp -implicitDefEqProofs only[↓sD,sB,↓reduceIte,Nat.reduceEqDiff,g1,g3,mm,k1,k2,k3,c1];exact hk _ _ (.refl h) (Ag)
  ·have e:AM (.mk kind m1 neg ab ac dd s lb lc l mb mc m)=(C6 neg dd&&Ar m1 (.ofNat 0)&&CD s []&&decide (l.length+m.length=0)):=by simp only[AM,k1,k2,Bool.false_eq_true,if_false,if_true]
   refine Sst (J4 g1 mm k1 k2) ?_;refine call427 hE tO tO (fun h1 K1=>?_);have mm:=(K1.old b1 hb1).trans mm;cases c0:C6 neg dd
   ·simp only[c0,Bool.false_and] at e;rw[e] at hk;refine FV ?_;exact hk _ _ K1 (Ag)
   ·cases c1:Ar m1 (.ofNat 0)
    ·simp only[c0,c1,Bool.false_and,Bool.and_false] at e;rw[e] at hk;simp -implicitDefEqProofs only[↓sD,sB,↓reduceIte,Nat.reduceEqDiff,g1,mm,c1];exact hk _ _ K1 (Ag)
    ·cases c2:CD s []
     ·simp only[c0,c1,c2,Bool.false_and,Bool.and_false] at e;rw[e] at hk;simp -implicitDefEqProofs only[↓sD,sB,↓reduceIte,Nat.reduceEqDiff,g1,mm,c1,c2];exact hk _ _ K1 (Ag)
     ·simp only[c0,c1,c2,Bool.true_and] at e;rw[e] at hk;simp -implicitDefEqProofs only[↓sD,sB,↓reduceIte,Nat.reduceEqDiff,g1,mm,c1,c2,e9];exact hk _ _ K1 (Ag)
 ·have e:AM (.mk kind m1 neg ab ac dd s lb lc l mb mc m)=((Ar m1 (.ofNat 0)||Ar m1 (.ofNat 1))&& !nb&&CD s []&&decide (l.length+m.length=0)):=by simp only[AM,k1,if_true,hnb]
  cases c1:(Ar m1 (.ofNat 0)||Ar m1 (.ofNat 1))
  ·simp only[c1,Bool.false_and] at e;rw[e] at hk;obtain ⟨c3,c4⟩:=Bool.or_eq_false_iff.1 c1;simp -implicitDefEqProofs only[↓sD,sB,↓reduceIte,Nat.reduceEqDiff,g1,mm,k1,c3,c4];exact hk _ _ (.refl h) (Ag)
  ·cases nb
   ·cases c2:CD s []
    ·simp only[c1,c2,Bool.false_and,Bool.and_false] at e;rw[e] at hk;cases c3:Ar m1 (.ofNat 0)
     ·have c4:Ar m1 (.ofNat 1)=true:=by rw[c3] at c1;simpa using c1
      simp -implicitDefEqProofs only[↓sD,sB,↓reduceIte,Nat.reduceEqDiff,g1,g3,mm,k1,c3,c4,c2];exact hk _ _ (.refl h) (Ag)
     ·simp -implicitDefEqProofs only[↓sD,sB,↓reduceIte,Nat.reduceEqDiff,g1,g3,mm,k1,c3,c2];exact hk _ _ (.refl h) (Ag)
    ·simp only[c1,c2,Bool.not_false,Bool.true_and] at e;rw[e] at hk;cases c3:Ar m1 (.ofNat 0)
     ·have c4:Ar m1 (.ofNat 1)=true:=by rw[c3] at c1;simpa using c1
      simp -implicitDefEqProofs only[↓sD,sB,↓reduceIte,Nat.reduceEqDiff,g1,g3,mm,k1,c3,c4,c2,e9];exact hk _ _ (.refl h) (Ag)
     ·simp -implicitDefEqProofs only[↓sD,sB,↓reduceIte,Nat.reduceEqDiff,g1,g3,mm,k1,c3,c2,e9];exact hk _ _ (.refl h) (Ag)
   ·simp only[Bool.not_true,Bool.false_and,Bool.and_false] at e;rw[e] at hk;cases c3:Ar m1 (.ofNat 0)
    ·have c4:Ar m1 (.ofNat 1)=true:=by rw[c3] at c1;simpa using c1
     simp -implicitDefEqProofs only[↓sD,sB,↓reduceIte,Nat.reduceEqDiff,g1,g3,mm,k1,c3,c4];exact hk _ _ (.refl h) (Ag)
    ·simp -implicitDefEqProofs only[↓sD,sB,↓reduceIte,Nat.reduceEqDiff,g1,g3,mm,k1,c3];exact hk _ _ (.refl h) (Ag)
theorem call278 (hE:Fns E) (hL9:L≤9223372036854775807) {D:Nat} (hn:2*D+4≤n) {x:Va} (hd:x.dep≤D) (hb:x.bulk≤L)
  (hk:∀h1,Ah h h1→kc (.ret (.bool (AM x))) none h1=true):
  call E (L+3) (n+3) (.fn 194) [.agg x.cells] none h kc=true:=by
 obtain ⟨kind,nn,neg,db,dc,dd,s,lb,lc,l,mb,mc,m⟩:=x;simp only[Va.dep] at hd;simp only[Va.bulk] at hb;have K1:Ah h (h.upd (nxt h) (.cells (Va.mk kind nn neg db dc dd s lb lc l mb mc m).cells)).bump:=kO;rw[Af hE.f278,c278,r278,p278_0,p278_1];simp only[Va.cells] at K1⊢;rcases Bool.eq_false_or_eq_true neg with hg|hg<;>by_cases h1:0<dd.length
 all_goals
  refine Tst (J2 hg h1) ?_;refine rest278 hE hL9 hn (b1:=nxt h) (D:=D) (neg:=neg) (kind:=kind) (m1:=nn) (ab:=db) (ac:=dc) (dd:=dd) (s:=s) (lb:=lb) (lc:=lc) (l:=l) (mb:=mb) (mc:=mc) (m:=m) tO tO ?_ ?_ ?_ ?_ (fun t1 h1 K2 g2=>?_)
  ·exact Ag
  ·exact Tsc (J4 hg h1 @Bool.true_or @Bool.false_or)
  ·simp -implicitDefEqProofs only[sB,hg,Va.cells]
  ·((try simp only[nB]);omega)
  ·refine Sst g2 ?_;exact hk _ (Ah.trans (by simpa only[hg] using K1) K2)
end
end Go.AJ
namespace Go.AJ
open Go
section
variable {σ:Type} (stp:σ→Va→Nat→σ×Bool)
mutual
def Va.walk:Va→σ→Nat→σ×Bool
 |.mk k n g db dc dd s lb lc l mb mc m,a,d=>
  if (stp a (.mk k n g db dc dd s lb lc l mb mc m) d).2=true then
   if (BX l (stp a (.mk k n g db dc dd s lb lc l mb mc m) d).1 (d+1)).2=true then BX m (BX l (stp a (.mk k n g db dc dd s lb lc l mb mc m) d).1 (d+1)).1 (d+1)
   else ((BX l (stp a (.mk k n g db dc dd s lb lc l mb mc m) d).1 (d+1)).1,false)
  else ((stp a (.mk k n g db dc dd s lb lc l mb mc m) d).1,false)
def BX:List Va→σ→Nat→σ×Bool
 | [],a,_=>(a,true)
 |x::l,a,d=>if (x.walk a d).2=true then BX l (x.walk a d).1 d else ((x.walk a d).1,false)
end
end
structure I8 (E:Env) (L N:Nat) (S:List K) (l:K) {σ:Type} (stp:σ→Va→Nat→σ×Bool) (I F:σ→Hp→Prop) (P:Va→Prop):Prop where
 stab:∀s h h',(∀b∈S,b.num<(nxt h).num)→I s h→Ah h h'→I s h'
 round:∀s h x d n kc,N≤n→1≤d→d≤60→P x→x.bulk≤L→(∀b∈S,b.num<(nxt h).num)→I s h→
  (∀h',Ac S h h'→(if (stp s x d).2=true then I (stp s x d).1 h' else F (stp s x d).1 h')→kc (.ret (.bool (stp s x d).2)) none h'=true)→
  call E (L+3) n (.round l) [.agg x.cells,.int .i64 (.ofNat d)] none h kc=true
def Deep {σ:Type} (stp:σ→Va→Nat→σ×Bool) (k d:Nat) (e:Nat):Prop:=e≤k∨((∀s y d',51≤d'→(stp s y d').2=false)∧52≤d+k)
section
variable {E:Env} {L n N:Nat} {h:Hp} {kc:KC} {t:T V} {d:Dc} {k:KE} {fi:FI} {c:KV} {C:Av}
variable {S:List K} {l0 b2 b3:K} {σ:Type} {stp:σ→Va→Nat→σ×Bool} {I F:σ→Hp→Prop} {P:Va→Prop}
def WalkOK (E:Env) (L n:Nat) (S:List K) (l0 b2 b3:K) (stp:σ→Va→Nat→σ×Bool) (I F:σ→Hp→Prop) (P:Va→Prop) (q:Nat):Prop:=
 ∀(x:Va) (s:σ) (dp:Nat) (h:Hp) (kc:KC),Deep stp q dp x.dep→P x→x.bulk≤L→dp+q≤60→1≤dp→I s h→blk h b2=.cells [.yld l0]→blk h b3=.cells [.fn 296 [] [.ptr b2 0,.ptr b3 0]]→
  b2.num<(nxt h).num→b3.num<(nxt h).num→(∀b∈S,b.num<(nxt h).num)→
  (∀h',Ac S h h'→(if (x.walk stp s dp).2=true then I (x.walk stp s dp).1 h' else F (x.walk stp s dp).1 h')→kc (.ret (.bool (x.walk stp s dp).2)) none h'=true)→
  call E (L+3) n (.fn 296) [.agg x.cells,.int .i64 (.ofNat dp),.ptr b2 0,.ptr b3 0] none h kc=true
theorem deep_le {stp:σ→Va→Nat→σ×Bool} {q d e e':Nat} (h:Deep stp q d e) (he:e'≤e):Deep stp q d e':=by
 rcases h with h|h
 ·exact .inl tO
 ·exact .inr h
theorem loop426 (_hE:Fns E) (Y:I8 E L N S l0 stp I F P) (hs2:b2∉S) (hs3:b3∉S) {q:Nat} (hW:WalkOK E L n S l0 b2 b3 stp I F P q) {b:Bool} {cp dp:Nat} {s:List Va} (hs:s.length≤9223372036854775807) (hdp:dp+1+q≤60) {h0:Hp}:
  ∀(r:List Va) (i M:Nat) (t:T V) (a:σ) (h:Hp),s.drop i=r→i+r.length=s.length→r.length+1≤M→Deep stp q (dp+1) (BC r)→(∀x∈r,P x)→Ax r≤L→Ac S h0 h→I a h→blk h b2=.cells [.yld l0]→blk h b3=.cells [.fn 296 [] [.ptr b2 0,.ptr b3 0]]→
  b2.num<(nxt h).num→b3.num<(nxt h).num→(∀b∈S,b.num<(nxt h).num)→
  T.get und (K.of 1) t=.int .i64 (.ofNat dp)→T.get und (K.of 3) t=.ptr b3 0→T.get und (K.of 26) t=slR b cp (AB s) s.length→T.get und (K.of 27) t=.int .i64 (.ofNat s.length)→T.get und (K.of 28) t=.int .i64 (.ofNat i)→
  ((BX stp r a (dp+1)).2=true→∀t1 h1,Ac S h0 h1→I (BX stp r a (dp+1)).1 h1→Kp [1,3,20,21,22] t t1→k (.exit 2) t1 d h1=true)→
  ((BX stp r a (dp+1)).2=false→∀t1 h1,Ac S h0 h1→F (BX stp r a (dp+1)).1 h1→T.get und (K.of 6) t1=.bool false→k .ret t1 d h1=true)→
  iter (exec (call E (L+3) n) (L+3) fi b426_0) M t d h k=true:=by
 intro r;induction r with
 |nil=>intro i M t a h hr hi hM hD hP hb K0 hI e2 e3 n2 n3 nS g1 g3 g26 g27 g28 hk hf;obtain ⟨M,rfl⟩:=pM M;have hi':(i<s.length)=False:=eq_false (by simp at hi;omega);rw[Ab,b426_0];refine Tst (J3 g27 g28 hi') ?_;exact hk rfl _ _ K0 hI (by simp -implicitDefEqProofs only[Kp,kpB,Nat.reduceEqDiff,↓reduceIte])
 |cons x r ih=>
  intro i M t a h hr hi hM hD hP hb K0 hI e2 e3 n2 n3 nS g1 g3 g26 g27 g28 hk hf;obtain ⟨M,rfl⟩:=pM M;simp only[List.length_cons] at hi hM;simp only[BC] at hD;simp only[Ax] at hb;have hi':(i<s.length)=True:=eT;have e1:=fun c h=>DD (c:=c) (h:=h) (Ap hr);have e5:Ai .i64 (.ofNat (dp+1))=.ofNat (dp+1):=Ad tO;have K1:Ah h (h.upd (nxt h) (.cells x.cells)).bump:=(Ah.refl h).new _;have l7:=x.cells_length;rw[Ab,b426_0];refine Tst (J12 g1 g3 g26 g27 g28 hi' e1 @Cg @Bq e3 @AX e5) ?_;refine hW x a (dp+1) _ _ (deep_le hD tO) (hP x (by simp)) tO hdp tO (Y.stab a _ _ nS hI K1) ?_ ?_ (Nat.lt_of_lt_of_le n2 K1.nx) (Nat.lt_of_lt_of_le n3 K1.nx) (fun b hb=>Nat.lt_of_lt_of_le (nS b hb) K1.nx) (fun h1 K2 hI1=>?_)
  ·rw[K1.old _ n2];exact e2
  ·rw[K1.old _ n3];exact e3
  ·have K3:Ac S h h1:=K1.but.trans K2;simp only[BX] at hk hf;cases hw:(x.walk stp a (dp+1)).2
   ·rw[hw,if_neg (by simp)] at hI1;simp only[hw,Bool.false_eq_true,if_false] at hf;refine Be ?_;exact hf trivial _ _ (K0.trans K3) hI1 (Ag)
   ·rw[hw,if_pos rfl] at hI1;simp only[hw,if_true] at hk hf;refine Sst g28 ?_;refine ih (i+1) _ _ _ _ (Al hr) tO tO (deep_le hD tO) (fun y hy=>hP y (by simp [hy])) tO (K0.trans K3) hI1 ?_ ?_ (K3.lt n2) (K3.lt n3) (fun b hb=>K3.lt (nS b hb)) ?_ ?_ ?_ ?_ ?_ (fun hy t1 h1 K4 hI4 kp=>hk hy t1 h1 K4 hI4 (Kp.trans (by simp -implicitDefEqProofs only[Kp,kpB,Nat.reduceEqDiff,↓reduceIte]) kp)) hf
    ·rw[K3.old _ n2 hs2];exact e2
    ·rw[K3.old _ n3 hs3];exact e3
    ·exact Ssc g1
    ·exact Ssc g3
    ·exact Ssc g26
    ·exact Ssc g27
    ·exact Ag
theorem DF {B b:Aa} (hB:B=b):iter (exec C L fi B) (n+1) t d h k=exec C L fi b t d h (CV (fun t' d' h'=>iter (exec C L fi B) n t' d' h' k) k):=by subst hB;rfl
theorem walk_step (hE:Fns E) (Y:I8 E L N S l0 stp I F P) (hs2:b2∉S) (hs3:b3∉S) (hP:∀k n g db dc dd s lb lc l mb mc m,P (.mk k n g db dc dd s lb lc l mb mc m)→(∀y∈l,P y)∧∀y∈m,P y) (hL9:L≤9223372036854775807)
  {q:Nat} (hn:N≤n) (hih:∀q',q=q'+1→WalkOK E L n S l0 b2 b3 stp I F P q'):WalkOK E L (n+1) S l0 b2 b3 stp I F P q:=by
 intro x s dp h kc hD hPx hb hdq hd1 hI e2 e3 n2 n3 nS hk;have K1:Ah h (h.upd (nxt h) (.cells x.cells)).bump:=(Ah.refl h).new _;have l7:=x.cells_length;obtain ⟨B,hB⟩:∃B,B=b426_1:=⟨_,rfl⟩
 rw[Af hE.f426,c426,r426,p426_0,p426_1,p426_2,p426_3];refine Sst (J2 e2 @AX) ?_;refine Y.round s _ x dp n _ hn hd1 tO hPx hb (fun b hb=>Nat.lt_of_lt_of_le (nS b hb) K1.nx) (Y.stab s _ _ nS hI K1) (fun h1 K2 hI1=>?_);have K3:Ac S h h1:=K1.but.trans K2;cases hr:(stp s x dp).2
 ·rw[hr,if_neg (by simp)] at hI1;have e:x.walk stp s dp=((stp s x dp).1,false):=by cases x;rw[Va.walk,hr,if_neg (by simp)]
  rw[e] at hk;refine Be ?_;exact hk _ K3 (by simpa using hI1)
 ·rw[hr,if_pos rfl] at hI1;obtain ⟨kind,nn,neg,db,dc,dd,ss,lb,lc,l,mb,mc,m⟩:=x;obtain ⟨hPl,hPm⟩:=hP _ _ _ _ _ _ _ _ _ _ _ _ _ hPx;simp only[Va.dep] at hD;simp only[Va.bulk] at hb;have hll:l.length≤Ax l:=AI l;have hml:m.length≤Ax m:=AI m;have hq:∃q',q=q'+1:=by
   rcases hD with h1|⟨h1,h2⟩
   ·exact ⟨q-1,by omega⟩
   ·by_cases hd:51≤dp
    ·rw[h1 _ _ _ hd] at hr;cases hr
    ·exact ⟨q-1,by omega⟩
  obtain ⟨q',rfl⟩:=hq;have hW:=hih q' rfl;have hDl:Deep stp q' (dp+1) (BC l):=by
   rcases hD with h1|⟨h1,h2⟩
   ·exact .inl tO
   ·exact .inr ⟨h1,by omega⟩
  have hDm:Deep stp q' (dp+1) (BC m):=by
   rcases hD with h1|⟨h1,h2⟩
   ·exact .inl tO
   ·exact .inr ⟨h1,by omega⟩
  rw[Va.walk,hr,if_pos rfl] at hk;have n1:=K2.nx;simp only[nB] at n1;have hnS:nxt h∉S:=fun hm=>by have:=nS _ hm;omega
  have m4:=K2.old (nxt h) tN hnS;simp -implicitDefEqProofs (disch:=exact tD) only[sB,Va.cells] at m4;refine Sst (J2 m4 @Ae) ?_;have e1:Ai .i64 (.ofNat 1)=.ofNat 1:=rfl;have e5:Ai .i64 (.ofNat 2)=.ofNat 2:=rfl;have K4:Ac S h (h1.upd (nxt h1) (.cells [slR lb lc (AB l) l.length,slR mb mc (AB m) m.length])).bump:=K3.new _;have hI4:=Y.stab _ _ _ (fun b hb=>K3.lt (nS b hb)) hI1 ((Ah.refl h1).new (.cells [slR lb lc (AB l) l.length,slR mb mc (AB m) m.length]));rw[←hB,DF hB,b426_1];refine Tst @Ae ?_;refine loop426 hE Y hs2 hs3 hW (b:=lb) (cp:=lc) (dp:=dp) (s:=l) tO tO (h0:=(h1.upd (nxt h1) (.cells [slR lb lc (AB l) l.length,slR mb mc (AB m) m.length])).bump) l 0 _ _ _ _ rfl tO tO hDl hPl tO (.refl _ _) hI4 ?_ ?_ (K4.lt n2) (K4.lt n3) (fun b hb=>K4.lt (nS b hb)) ?_ ?_ ?_ ?_ ?_ (fun hy t5 h5 K5 hI5 kp=>?_) (fun hf t5 h5 K5 hF5 g6=>?_)
  ·rw[K4.old _ n2 hs2];exact e2
  ·rw[K4.old _ n3 hs3];exact e3
  ·exact Ag
  ·exact Ag
  ·exact Ag
  ·exact Ag
  ·exact Ag
  ·rw[hy,if_pos rfl] at hk;have hnS1:nxt h1∉S:=fun hm=>by have:=nS _ hm;omega
   have m5:=K5.old (nxt h1) tN hnS1;simp -implicitDefEqProofs (disch:=exact tD) only[sB] at m5;have K6:=K4.trans K5;have g1:=kp 1 (by simp);have g3:=kp 3 (by simp);have g20:=kp 20 (by simp);have g21:=kp 21 (by simp);have g22:=kp 22 (by simp);simp -implicitDefEqProofs (disch:=exact tD) only[sB,↓reduceIte,Nat.reduceEqDiff] at g1 g3 g20 g21 g22;refine Sst (J2 g22 e1) ?_;rw[DF hB,b426_1];refine Tst (J4 g20 g21 m5 @Ae) ?_;refine loop426 hE Y hs2 hs3 hW (b:=mb) (cp:=mc) (dp:=dp) (s:=m) tO tO (h0:=h5) m 0 _ _ _ _ rfl tO tO hDm hPm tO (.refl _ _) hI5 ?_ ?_ (K6.lt n2) (K6.lt n3) (fun b hb=>K6.lt (nS b hb)) ?_ ?_ ?_ ?_ ?_ (fun hy t7 h7 K7 hI7 kp=>?_) (fun hf t7 h7 K7 hF7 g6=>?_)
   ·rw[K6.old _ n2 hs2];exact e2
   ·rw[K6.old _ n3 hs3];exact e3
   ·exact Ssc g1
   ·exact Ssc g3
   ·exact Ag
   ·exact Ag
   ·exact Ag
   ·have q21:=kp 21 (by simp);have q22:=kp 22 (by simp);simp -implicitDefEqProofs (disch:=exact tD) only[sB,↓reduceIte,Nat.reduceEqDiff,g21] at q21 q22;refine Sst (J2 q22 e5) ?_;rw[DF hB,b426_1];refine Tst (J2 q21 @Nat.lt_irrefl) ?_;rw[hy] at hk;exact hk _ (K6.trans K7) (by rw[if_pos rfl];exact hI7)
   ·rw[hf] at hk;refine Sst g6 ?_;exact hk _ (K6.trans K7) (by rw[if_neg (by simp)];exact hF7)
  ·rw[hf,if_neg (by simp)] at hk;refine Sst g6 ?_;exact hk _ (K4.trans K5) (by simpa using hF5)
theorem walk_ok (hE : Fns E) (Y : I8 E L N S l0 stp I F P) (hs2 : b2 ∉ S) (hs3 : b3 ∉ S) (hP : ∀ k n g db dc dd s lb lc l mb mc m, P (.mk k n g db dc dd s lb lc l mb mc m) → (∀ y ∈ l, P y) ∧ ∀ y ∈ m, P y) (hL9 : L ≤ 9223372036854775807) :
    ∀ (q n : Nat), N + q + 1 ≤ n → WalkOK E L n S l0 b2 b3 stp I F P q := by
  intro q
  induction q with
  | zero =>
    intro n hn
    obtain ⟨n, rfl⟩ : ∃ m, n = m + 1 := ⟨n - 1, by omega⟩
    exact walk_step hE Y hs2 hs3 hP hL9 tO (fun q' e => by omega)
  | succ q ih =>
    intro n hn
    obtain ⟨n, rfl⟩ : ∃ m, n = m + 1 := ⟨n - 1, by omega⟩
    exact walk_step hE Y hs2 hs3 hP hL9 (by omega) (fun q' e => by obtain rfl : q' = q := by omega
                                                                   exact ih n tO)
theorem call277 (hE:Fns E) {x:Va}:call E (L+1) (n+1) (.fn 193) [.agg x.cells] none h kc=kc (.ret (.fn 295 [] [.ptr (nxt h) 0])) none (h.upd (nxt h) (.cells x.cells)).bump:=by rw[Af hE.f277,c277,r277,p277_0,p277_1];exact Ag
theorem call425 (hE:Fns E) (hP:∀k n g db dc dd s lb lc l mb mc m,P (.mk k n g db dc dd s lb lc l mb mc m)→(∀y∈l,P y)∧∀y∈m,P y) (hL9:L≤9223372036854775807) {b1:K} {x:Va} (m1:blk h b1=.cells x.cells) (hb1:b1.num<(nxt h).num)
  (Y:I8 E L N S l0 stp I F P) {s:σ} {q:Nat} (hD:Deep stp q 1 x.dep) (hPx:P x) (hb:x.bulk≤L) (hq:q≤59) (hn:N+q+2≤n) (nS:∀b∈S,b.num<(nxt h).num) (hI:I s h)
  (hk:∀h',Ac S h h'→(if (x.walk stp s 1).2=true then I (x.walk stp s 1).1 h' else F (x.walk stp s 1).1 h')→∀v,kc (.ret v) none h'=true):
  call E (L+3) n (.fn 295) [.yld l0,.ptr b1 0] none h kc=true:=by
 obtain ⟨n,rfl⟩:∃m,n=m+1:=⟨n-1,by omega⟩
 have l7:=x.cells_length;rw[Af hE.f425,c425,r425,p425_0,p425_1,p425_2];refine Sst (J3 @Bq m1 @AX) ?_;have K1:Ah h (((h.upd (nxt h) (.cells [.yld l0])).upd (nxt h).succ (.cells [.fn 296 [] [.ptr (nxt h) 0,.ptr (nxt h).succ 0]])).bump.bump):=kO;refine walk_ok hE Y (b2:=nxt h) (b3:=(nxt h).succ) (fun hm=>by have:=nS _ hm;omega) (fun hm=>by have:=nS _ hm;rw[K.num_succ] at this;omega) hP hL9 q n tO x s 1 _ _ hD hPx hb tO tO (Y.stab s _ _ nS hI K1) ?_ ?_ tN tN (fun b hb=>Nat.lt_of_lt_of_le (nS b hb) K1.nx) (fun h2 K2 hI2=>?_)
 ·exact Ag
 ·exact Ag
 ·refine Be ?_;exact hk _ (K1.but.trans K2) hI2 _
end
end Go.AJ
namespace Go.AJ
open Go
def CM (s:Nat×Nat) (_:Va) (d:Nat):(Nat×Nat)×Bool:=((s.1+1,max s.2 d),!(decide (8000<s.1+1)||decide (50<d)))
def GY (x:Va):Nat×Nat:=(x.walk CM (0,0) 1).1
def JT (x:Va):Bool:= !decide (8000<(GY x).1)&& !decide (50<(GY x).2)
mutual
theorem walkZ_t:∀(x:Va) (s:Nat×Nat) (d:Nat),(x.walk CM s d).2=true→d+x.dep≤(x.walk CM s d).1.2+1∧s.2≤(x.walk CM s d).1.2
 |.mk k n g db dc dd ss lb lc l mb mc m,s,d,h=>by
  rw[Va.walk] at h⊢;cases h1:(CM s (.mk k n g db dc dd ss lb lc l mb mc m) d).2
  ·simp only[h1,Bool.false_eq_true,if_false] at h
  ·simp only[h1,if_true] at h⊢;cases h2:(BX CM l (CM s (.mk k n g db dc dd ss lb lc l mb mc m) d).1 (d+1)).2
   ·simp only[h2,Bool.false_eq_true,if_false] at h
   ·simp only[h2,if_true] at h⊢;have a1:=Ja l _ (d+1) h2;have a2:=Ja m _ (d+1) h;have e1:d≤(CM s (.mk k n g db dc dd ss lb lc l mb mc m) d).1.2:=Nat.le_max_right _ _;have e2:s.2≤(CM s (.mk k n g db dc dd ss lb lc l mb mc m) d).1.2:=Nat.le_max_left _ _;rw[Va.dep];omega
theorem Ja:∀(l:List Va) (s:Nat×Nat) (d:Nat),(BX CM l s d).2=true→(l= []∨d+BC l≤(BX CM l s d).1.2+1)∧s.2≤(BX CM l s d).1.2∧(BC l=0∨d+BC l≤(BX CM l s d).1.2+1)
 | [],s,d,h=>by rw[BX];exact ⟨.inl rfl,Nat.le_refl _,.inl rfl⟩
 |x::l,s,d,h=>by
  rw[BX] at h⊢;cases h1:(x.walk CM s d).2
  ·simp only[h1,Bool.false_eq_true,if_false] at h
  ·simp only[h1,if_true] at h⊢;have a1:=walkZ_t x s d h1;have a2:=Ja l _ d h;rw[BC];omega
end
mutual
theorem walkZ_f:∀(x:Va) (s:Nat×Nat) (d:Nat),(x.walk CM s d).2=false→8000<(x.walk CM s d).1.1∨50<(x.walk CM s d).1.2
 |.mk k n g db dc dd ss lb lc l mb mc m,s,d,h=>by
  rw[Va.walk] at h⊢;cases h1:(CM s (.mk k n g db dc dd ss lb lc l mb mc m) d).2
  ·rw[if_neg (by simp)];simp only[CM,Bool.not_eq_false',Bool.or_eq_true,decide_eq_true_eq] at h1⊢;omega
  ·simp only[h1,if_true] at h⊢;cases h2:(BX CM l (CM s (.mk k n g db dc dd ss lb lc l mb mc m) d).1 (d+1)).2
   ·rw[if_neg (by simp)];exact Jb l _ (d+1) h2
   ·simp only[h2,if_true] at h⊢;exact Jb m _ (d+1) h
theorem Jb:∀(l:List Va) (s:Nat×Nat) (d:Nat),(BX CM l s d).2=false→8000<(BX CM l s d).1.1∨50<(BX CM l s d).1.2
 | [],s,d,h=>by rw[BX] at h;cases h
 |x::l,s,d,h=>by
  rw[BX] at h⊢;cases h1:(x.walk CM s d).2
  ·rw[if_neg (by simp)];exact walkZ_f x s d h1
  ·simp only[h1,if_true] at h⊢;exact Jb l _ d h
end
theorem JS {x:Va} (h:JT x=true):x.dep≤50:=by
 have h1:¬8000<(x.walk CM (0,0) 1).1.1:=fun e=>by rw[JT,GY,decide_eq_true e] at h;simp at h
 have h2:¬50<(x.walk CM (0,0) 1).1.2:=fun e=>by rw[JT,GY,decide_eq_true e] at h;simp at h
 cases h3:(x.walk CM (0,0) 1).2
 ·have:=walkZ_f x _ _ h3;omega
 ·have:=walkZ_t x _ _ h3;omega
section
variable {E:Env} {L n N:Nat} {h:Hp} {kc:KC} {t:T V} {d:Dc} {k:KE} {fi:FI} {c:KV} {C:Av}
def Gv:Aa:=(.reg [⟨some (K.of 11),none,.mv (.t (K.of 15))⟩])
def Gu:Aa:=(.block 1 (.seq
   (.reg [⟨some (K.of 16),none,.load1 (.t (K.of 8))⟩,
   ⟨some (K.of 17),none,.ibin .add (.t (K.of 16)) (.c (.int .i64 (.ofNat 1)))⟩,
   ⟨none,none,.store (.t (K.of 8)) (.t (K.of 17)) 1⟩])
   (.seq
   (.reg [⟨some (K.of 18),none,.load1 (.t (K.of 9))⟩,
   ⟨some (K.of 19),none,.mv (.t (K.of 11))⟩,
   ⟨some (K.of 20),none,.mxn true (.t (K.of 18)) [(.t (K.of 19))]⟩,
   ⟨none,none,.store (.t (K.of 9)) (.t (K.of 20)) 1⟩])
   (.seq
   (.reg [⟨some (K.of 21),none,.load1 (.t (K.of 8))⟩,
   ⟨some (K.of 22),none,.load1 (.t (K.of 4))⟩,
   ⟨some (K.of 23),none,.ibin .gtr (.t (K.of 21)) (.t (K.of 22))⟩,
   ⟨some (K.of 24),none,.mv (.t (K.of 23))⟩,
   ⟨some (K.of 25),some ((K.of 24),false),.mv (.t (K.of 11))⟩,
   ⟨some (K.of 26),some ((K.of 24),false),.load1 (.t (K.of 5))⟩,
   ⟨some (K.of 27),some ((K.of 24),false),.ibin .gtr (.t (K.of 25)) (.t (K.of 26))⟩,
   ⟨some (K.of 28),none,.pick (.t (K.of 24)) (.c (.bool true)) (.t (K.of 27))⟩])
   (.cond (.t (K.of 28))
   (.exit 0)
   .skip)))))
theorem p424_2_eq:p424_2=(.seq
 (.reg [⟨some (K.of 12),none,.loadN (.t (K.of 3)) 7⟩,
   ⟨some (K.of 13),none,.call 193 [(.t (K.of 12))]⟩])
 (.block 0 (.range (.t (K.of 13)) [(K.of 14),(K.of 15)] Gv Gu))):=rfl
structure I424 (A B:Aa) (l b4 b5 b8 b9 D:K) (T0:T V) (s:Nat×Nat) (h:Hp):Prop where
 hl:blk h l=.loop .ready .none 294 T0 [K.of 14,K.of 15] A B D
 h4:blk h b4=.cells [.int .i64 (.ofNat 8000)]
 h5:blk h b5=.cells [.int .i64 (.ofNat 50)]
 h8:blk h b8=.cells [.int .i64 (.ofNat s.1)]
 h9:blk h b9=.cells [.int .i64 (.ofNat s.2)]
 n4:b4.num<(nxt h).num
 n5:b5.num<(nxt h).num
 m1:s.1≤8000
 m2:s.2≤60
structure F424 (A B:Aa) (l b8 b9 D:K) (T0:T V) (s:Nat×Nat) (h:Hp):Prop where
 hl:blk h l=.loop .done (.exit 0) 294 T0 [K.of 14,K.of 15] A B D
 h8:blk h b8=.cells [.int .i64 (.ofNat s.1)]
 h9:blk h b9=.cells [.int .i64 (.ofNat s.2)]
theorem max_if {a b:Nat}:(if decide (a<b)=true then Int.ofNat b else Int.ofNat a)=Int.ofNat (max a b):=by
 by_cases e:a<b
 ·rw[if_pos (by simpa using e),Nat.max_eq_right tO]
 ·rw[if_neg (by simpa using e),Nat.max_eq_left tO]
theorem yields424 (hE:Fns E) {A B:Aa} (hA:A=Gv) (hB:B=Gu) {l b4 b5 b8 b9 D:K} {T0:T V} (g4:T.get und (K.of 4) T0=.ptr b4 0) (g5:T.get und (K.of 5) T0=.ptr b5 0) (g8:T.get und (K.of 8) T0=.ptr b8 0) (g9:T.get und (K.of 9) T0=.ptr b9 0)
  (q1:l.num≠b8.num) (q2:l.num≠b9.num) (q3:b8.num≠b9.num) (q4:b4.num≠l.num∧b4.num≠b8.num∧b4.num≠b9.num) (q5:b5.num≠l.num∧b5.num≠b8.num∧b5.num≠b9.num):
  I8 E L 1 [l,b8,b9] l CM (I424 A B l b4 b5 b8 b9 D T0) (F424 A B l b8 b9 D T0) (fun _=>True) where
 stab s h h' hS hI K:=⟨(K.old _ (hS _ (by simp))).trans hI.hl,(K.old _ hI.n4).trans hI.h4,(K.old _ hI.n5).trans hI.h5,(K.old _ (hS _ (by simp))).trans hI.h8,(K.old _ (hS _ (by simp))).trans hI.h9,Nat.lt_of_lt_of_le hI.n4 K.nx,Nat.lt_of_lt_of_le hI.n5 K.nx,hI.m1,hI.m2⟩
 round s h x d n kc hn hd1 hd hP hb hS hI hk:=by
  obtain ⟨n,rfl⟩:∃m,n=m+1:=⟨n-1,by omega⟩
  obtain ⟨a,b⟩:=s;have i1:=hI.h8;have i2:=hI.h9;have i3:=hI.hl;have i4:=hI.h4;have i5:=hI.h5;have m1:=hI.m1;have m2:=hI.m2;simp only at i1 i2 m1 m2;have sl:=hS l (by simp);have s8:=hS b8 (by simp);have s9:=hS b9 (by simp);have e1:Ai .i64 (.ofNat (a+1))=.ofNat (a+1):=Ad tO;rw[IW i3 hE.f424];have kb:Ac [l,b8,b9] h (((h.upd l (.loop .busy .none 294 T0 [K.of 14,K.of 15] A B D)).upd b8 (.cells [.int .i64 (.ofNat (a+1))])).upd b9 (.cells [.int .i64 (.ofNat (max b d))])):=
   (((Ac.refl _ h).put (.inr (by simp)) _).put (.inr (by simp)) _).put (.inr (by simp)) _
  by_cases c1:8000<a+1
  ·have es:CM (a,b) x d=((a+1,max b d),false):=by simp only[CM,c1,decide_true,Bool.true_or,Bool.not_true]
   rw[es] at hk;simp -implicitDefEqProofs (disch:=exact tD) only[↓sD,sB,↓reduceIte,Nat.reduceEqDiff,reduceCtorEq,CT i3,Ep hA,Ep hB,Gv,Gu,g4,g8,g9,i1,i2,i4,e1,max_if,c1,decide_true];rw[G1 (st:=.busy) (j:=.none) (f:=294) (t0:=T0) (ps:= [K.of 14,K.of 15]) (a:=A) (b0:=B) (D:=D) (Ag)];refine hk _ (kb.put (.inr (by simp)) _) ?_;rw[if_neg (by simp)];refine ⟨?_,?_,?_⟩<;>simp -implicitDefEqProofs (disch:=exact tD) only[sB]
  ·by_cases c2:50<d
   ·have es:CM (a,b) x d=((a+1,max b d),false):=by simp only[CM,c2,decide_true,Bool.or_true,Bool.not_true]
    rw[es] at hk;simp -implicitDefEqProofs (disch:=exact tD) only[↓sD,sB,↓reduceIte,Nat.reduceEqDiff,reduceCtorEq,CT i3,Ep hA,Ep hB,Gv,Gu,g4,g5,g8,g9,i1,i2,i4,i5,e1,max_if,c1,c2,decide_true,decide_false];rw[G1 (st:=.busy) (j:=.none) (f:=294) (t0:=T0) (ps:= [K.of 14,K.of 15]) (a:=A) (b0:=B) (D:=D) (Ag)];refine hk _ (kb.put (.inr (by simp)) _) ?_;rw[if_neg (by simp)];refine ⟨?_,?_,?_⟩<;>simp -implicitDefEqProofs (disch:=exact tD) only[sB]
   ·have es:CM (a,b) x d=((a+1,max b d),true):=by simp only[CM,c1,c2,decide_false,Bool.or_false,Bool.not_false]
    rw[es] at hk;simp -implicitDefEqProofs (disch:=exact tD) only[↓sD,sB,↓reduceIte,Nat.reduceEqDiff,CT i3,Ep hA,Ep hB,Gv,Gu,g4,g5,g8,g9,i1,i2,i4,i5,e1,max_if,c1,c2,decide_false];rw[Fu (st:=.busy) (j:=.none) (f:=294) (t0:=T0) (ps:= [K.of 14,K.of 15]) (a:=A) (b0:=B) (D:=D) (Ag)];refine hk _ (kb.put (.inr (by simp)) _) ?_;rw[if_pos rfl];obtain ⟨q6,q7,q8⟩:=q4;obtain ⟨q9,q10,q11⟩:=q5;have hn4:=hI.n4;have hn5:=hI.n5;refine ⟨?_,?_,?_,?_,?_,?_,?_,?_,?_⟩
    ·exact Ag
    ·exact Ssc i4
    ·exact Ssc i5
    ·exact Ag
    ·exact Ag
    ·((try simp only[nB]);omega)
    ·((try simp only[nB]);omega)
    ·simp only;omega
    ·simp only;omega
end
end Go.AJ
namespace Go.AJ
open Go
section
variable {E:Env} {L n N:Nat} {h:Hp} {kc:KC} {t:T V} {d:Dc} {k:KE} {fi:FI} {c:KV} {C:Av}
theorem call424 (hE:Fns E) (hL9:L≤9223372036854775807) {x:Va} (hb:x.bulk≤L) (hn:60≤n)
  (hk:∀h1,Ah h h1→kc (.ret (.tup [.int .i64 (.ofNat (GY x).1),.int .i64 (.ofNat (GY x).2)])) none h1=true):
  call E (L+3) (n+1) (.fn 294) [.agg x.cells,.int .i64 (.ofNat 8000),.int .i64 (.ofNat 50)] none h kc=true:=by
 obtain ⟨n,rfl⟩:∃m,n=m+1:=⟨n-1,by omega⟩
 have l7:=x.cells_length;rw[Af hE.f424,c424,r424,p424_0,p424_1,p424_2_eq,p424_3];simp -implicitDefEqProofs (disch:=first|assumption|((try simp only[dB]);first|done|omega)) only[↓sD,sB,↓reduceIte,Nat.reduceEqDiff,reduceCtorEq,Nat.reduceAdd,AX,call277 hE,Bq];obtain ⟨T0,hT⟩:∃T0:T V,T0=T.ins und (V.fn 295 [] [V.ptr (nxt h).succ.succ.succ.succ.succ 0]) (K.of 13)
     (T.ins und (V.agg x.cells) (K.of 12)
      (T.ins und (V.ptr (nxt h).succ.succ.succ.succ 0) (K.of 9)
       (T.ins und (V.ptr (nxt h).succ.succ.succ 0) (K.of 8)
        (T.ins und (V.int IntKind.i64 (Int.ofNat 0)) (K.of 7)
         (T.ins und (V.int IntKind.i64 (Int.ofNat 0)) (K.of 6)
          (T.ins und (V.ptr (nxt h).succ.succ 0) (K.of 5)
           (T.ins und (V.ptr (nxt h).succ 0) (K.of 4)
            (T.ins und (V.ptr (nxt h) 0) (K.of 3)
             (T.ins und (V.int IntKind.i64 (Int.ofNat 50)) (K.of 2)
              (T.ins und (V.int IntKind.i64 (Int.ofNat 8000)) (K.of 1)
               (T.ins und (V.agg x.cells) (K.of 0) T.l))))))))))):=⟨_,rfl⟩
 rw[←hT];have g4:T.get und (K.of 4) T0=.ptr (nxt h).succ 0:=by rw[hT];simp -implicitDefEqProofs (disch:=exact tD) only[sB,↓reduceIte,Nat.reduceEqDiff]
 have g5:T.get und (K.of 5) T0=.ptr (nxt h).succ.succ 0:=by rw[hT];simp -implicitDefEqProofs (disch:=exact tD) only[sB,↓reduceIte,Nat.reduceEqDiff]
 have g8:T.get und (K.of 8) T0=.ptr (nxt h).succ.succ.succ 0:=by rw[hT];simp -implicitDefEqProofs (disch:=exact tD) only[sB,↓reduceIte,Nat.reduceEqDiff]
 have g9:T.get und (K.of 9) T0=.ptr (nxt h).succ.succ.succ.succ 0:=by rw[hT];simp -implicitDefEqProofs (disch:=exact tD) only[sB,↓reduceIte,Nat.reduceEqDiff]
 have Y:=yields424 (L:=L) hE (A:=Gv) (B:=Gu) rfl rfl (l:=(nxt h).succ.succ.succ.succ.succ.succ.succ) (D:=(nxt h).succ.succ.succ.succ.succ.succ) g4 g5 g8 g9 tN tN tN ⟨by ((try simp only[nB]);omega),by ((try simp only[nB]);omega),by ((try simp only[nB]);omega)⟩ ⟨by ((try simp only[nB]);omega),by ((try simp only[nB]);omega),by ((try simp only[nB]);omega)⟩;refine call425 hE (fun _ _ _ _ _ _ _ _ _ _ _ _ _ _=>⟨fun _ _=>trivial,fun _ _=>trivial⟩) hL9 (x:=x) ?_ ?_ Y (s:=(0,0)) (q:=51) (.inr ⟨fun s y d' hd=>?_,by omega⟩) trivial hb tO tO ?_ ?_ (fun h1 K1 hI v=>?_)
 ·exact Ag
 ·((try simp only[nB]);omega)
 ·simp only[CM,show 50<d' by omega,decide_true,Bool.or_true,Bool.not_true]
 ·intro b hb;simp only[List.mem_cons,List.not_mem_nil,or_false] at hb;rcases hb with rfl|rfl|rfl<;>((try simp only[nB]);omega)
 ·refine ⟨?_,?_,?_,?_,?_,?_,?_,?_,?_⟩<;>first|(simp -implicitDefEqProofs (disch:=exact tD) only[sB];done)|((try simp only[nB]);omega)
 ·have n1:=K1.nx;simp only[nB] at n1;have mD:=K1.old (nxt h).succ.succ.succ.succ.succ.succ tN (fun hm=>by simp only[List.mem_cons,List.not_mem_nil,or_false] at hm;rcases hm with hm|hm|hm<;>(have:=congrArg K.num hm;simp only[K.num_succ] at this;omega));simp -implicitDefEqProofs (disch:=exact tD) only[sB] at mD;have hK:∀b,b.num<(nxt h).num→blk h1 b=blk h b:=fun b hb=>by rw[K1.old b tN (fun hm=>by simp only[List.mem_cons,List.not_mem_nil,or_false] at hm;rcases hm with rfl|rfl|rfl<;>(simp only[K.num_succ] at hb;omega))];exact Ag
  obtain ⟨st,j,hl,hj,m8,m9⟩:∃st j,blk h1 (nxt h).succ.succ.succ.succ.succ.succ.succ=.loop st j 294 T0 [K.of 14,K.of 15] Gv Gu (nxt h).succ.succ.succ.succ.succ.succ∧(st≠.busy∧(j=.none∨j=.exit 0))∧blk h1 (nxt h).succ.succ.succ=.cells [.int .i64 (.ofNat (GY x).1)]∧blk h1 (nxt h).succ.succ.succ.succ=.cells [.int .i64 (.ofNat (GY x).2)]:=by
   cases hw:(x.walk CM (0,0) 1).2
   ·rw[hw,if_neg (by simp)] at hI;exact ⟨_,_,hI.hl,⟨by simp,.inr rfl⟩,hI.h8,hI.h9⟩
   ·rw[hw,if_pos rfl] at hI;exact ⟨_,_,hI.hl,⟨by simp,.inl rfl⟩,hI.h8,hI.h9⟩
  rw[F6 hl hj.1];have K2:Ah h ((h1.upd (nxt h).succ.succ.succ.succ.succ.succ.succ (.loop .exhausted j 294 T0 [K.of 14,K.of 15] Gv Gu (nxt h).succ.succ.succ.succ.succ.succ)).upd (nxt h).succ.succ.succ.succ.succ.succ .none):=by refine ⟨by ((try simp only[nB]);omega),fun b hb=>?_⟩;rw[BW tN,BW tN,hK b hb]
  have hk:=hk _ K2;rcases hj.2 with rfl|rfl
  all_goals
   refine Sst (J4 g8 g9 m8 m9) ?_;rw[F9 (.inl rfl) (Ssc @mD)];refine Be ?_;exact hk
theorem call276 (hE:Fns E) (hL9:L≤9223372036854775807) {x:Va} (hb:x.bulk≤L) (hn:60≤n) (hk:∀h1,Ah h h1→kc (.ret (.bool (JT x))) none h1=true):
  call E (L+3) (n+2) (.fn 192) [.agg x.cells] none h kc=true:=by
 have l7:=x.cells_length;have K1:Ah h (h.upd (nxt h) (.cells x.cells)).bump:=kO;rw[Af hE.f276,c276,r276,p276_0,p276_1,p276_2];refine Sst (J2 @AX l7) ?_;refine call424 hE hL9 hb hn (fun h1 K2=>?_);have hk:=hk _ (K1.trans K2);rw[JT] at hk;by_cases c1:8000<(GY x).1<;>by_cases c2:50<(GY x).2<;>
  (simp only[c1,c2,decide_true,decide_false,Bool.not_true,Bool.not_false,Bool.and_self,Bool.and_true,Bool.and_false] at hk
   simp -implicitDefEqProofs only[↓sD,sB,↓reduceIte,Nat.reduceEqDiff,c1,c2,decide_true,decide_false];exact hk)
end
end Go.AJ
namespace Go.AJ
open Go
def stpF (_:Unit) (x:Va) (_:Nat):Unit×Bool:=((),AM x)
def okV (x:Va):Bool:=JT x&&(x.walk stpF () 1).2
def asg160:Aa:=(.reg [⟨some (K.of 3),none,.alloc [(.int .i64 (.ofNat 0)),(.int .i64 (.ofNat 0)),(.bool false),.nils,(.str []),.nils,.nils]⟩,
   ⟨none,none,.store (.t (K.of 3)) (.t (K.of 9)) 7⟩])
def bod160:Aa:=(.block 1 (.seq
   (.reg [⟨some (K.of 11),none,.loadN (.t (K.of 3)) 7⟩,
   ⟨some (K.of 12),none,.call 194 [(.t (K.of 11))]⟩,
   ⟨some (K.of 13),none,.not (.t (K.of 12))⟩])
   (.cond (.t (K.of 13))
   (.seq
   (.reg [⟨none,none,.store (.t (K.of 2)) (.c (.bool false)) 1⟩])
   .ret)
   .skip)))
theorem p160_2_eq:p160_2=(.seq
 (.reg [⟨some (K.of 7),none,.loadN (.t (K.of 1)) 7⟩,
   ⟨some (K.of 8),none,.call 193 [(.t (K.of 7))]⟩])
 (.block 0 (.range (.t (K.of 8)) [(K.of 9),(K.of 10)] asg160 bod160))):=rfl
structure I160 (A B:Aa) (l b2 D:K) (T0:T V) (_:Unit) (h:Hp):Prop where
 hl:blk h l=.loop .ready .none 130 T0 [K.of 9,K.of 10] A B D
 h2:blk h b2=.cells [.bool false]
structure F160 (A B:Aa) (l b2 D:K) (T0:T V) (_:Unit) (h:Hp):Prop where
 hl:blk h l=.loop .done .ret 130 T0 [K.of 9,K.of 10] A B D
 h2:blk h b2=.cells [.bool false]
section
variable {E:Env} {L n N:Nat} {h:Hp} {kc:KC} {t:T V} {d:Dc} {k:KE} {fi:FI} {c:KV} {C:Av}
theorem dep_mem:∀{l:List Va} {y:Va},y∈l→y.dep≤BC l
 |x::l,y,h=>by
  rw[BC];rcases List.mem_cons.1 h with rfl|h
  ·omega
  ·have:=dep_mem h;omega
theorem yields160 (hE:Fns E) (hL9:L≤9223372036854775807) {A B:Aa} (hA:A=asg160) (hB:B=bod160) {l b2 D:K} {T0:T V} (g2:T.get und (K.of 2) T0=.ptr b2 0) (q1:l.num≠b2.num):
  I8 E L 108 [l,b2] l stpF (I160 A B l b2 D T0) (F160 A B l b2 D T0) (fun x=>x.dep≤50) where
 stab s h h' hS hI K:=⟨(K.old _ (hS _ (by simp))).trans hI.hl,(K.old _ (hS _ (by simp))).trans hI.h2⟩
 round s h x d n kc hn hd1 hd hP hb hS hI hk:=by
  obtain ⟨n,rfl⟩:∃m,n=m+4:=⟨n-4,by omega⟩
  have i1:=hI.h2;have i3:=hI.hl;have l7:=x.cells_length;have sl:=hS l (by simp);have s2:=hS b2 (by simp);rw[show n+4=(n+3)+1 from rfl,IW i3 hE.f160];simp -implicitDefEqProofs (disch:=exact tD) only[↓sD,sB,↓reduceIte,Nat.reduceEqDiff,Ep hA,asg160,Cg,Bq];rw[CT (j:=.none) (f:=130) (t0:=T0) (ps:= [K.of 9,K.of 10]) (a:=A) (b0:=B) (D:=D) (Ssc i3)];simp -implicitDefEqProofs (disch:=first|assumption|((try simp only[dB]);first|done|omega)) only[↓sD,sB,↓reduceIte,Nat.reduceAdd,Ep hB,bod160,AX];refine call278 hE hL9 (D:=50) tO hP hb (fun h1 K1=>?_);have n1:=K1.nx;simp only[nB] at n1;have m3:=K1.old l tN;have m2:=K1.old b2 tN;simp -implicitDefEqProofs (disch:=exact tD) only[sB,i1] at m3 m2;have kb:Ac [l,b2] h h1:=Ac.trans (((Ac.refl _ h).new (.cells x.cells)).put (b:=l) (.inr (by simp)) (.loop .busy .none 130 T0 [K.of 9,K.of 10] A B D)) (by simpa only[DS] using K1.but);have es:stpF s x d=((),AM x):=rfl;rw[es] at hk;cases hf:AM x
  ·simp only[hf] at hk;refine Sst (J2 g2 m2) ?_;rw[roundK_ret (st:=.busy) (j:=.none) (f:=130) (t0:=T0) (ps:= [K.of 9,K.of 10]) (a:=A) (b0:=B) (D:=D) (Ssc m3)];refine hk _ ((kb.put (.inr (by simp)) _).put (.inr (by simp)) _) ?_;simp only[Bool.false_eq_true,if_false];refine ⟨?_,?_⟩<;>simp -implicitDefEqProofs (disch:=exact tD) only[sB]
  ·simp only[hf] at hk;refine Be ?_;rw[Fu (st:=.busy) (j:=.none) (f:=130) (t0:=T0) (ps:= [K.of 9,K.of 10]) (a:=A) (b0:=B) (D:=D) (by simp -implicitDefEqProofs (disch:=exact tD) only[m3])];refine hk _ (kb.put (.inr (by simp)) _) ?_;simp only[if_true];refine ⟨?_,?_⟩
   ·exact Ag
   ·exact Ssc m2
theorem call160 (hE:Fns E) (hL9:L≤9223372036854775807) {x:Va} (hb:x.bulk≤L) (hn:170≤n) (hk:∀h1,Ah h h1→kc (.ret (.bool (okV x))) none h1=true):
  call E (L+3) (n+1) (.fn 130) [.agg x.cells] none h kc=true:=by
 obtain ⟨n,rfl⟩:∃m,n=m+2:=⟨n-2,by omega⟩
 have l7:=x.cells_length;have K0:Ah h (((h.upd (nxt h) (.cells x.cells)).upd (nxt h).succ (.cells [.bool false])).bump.bump):=kO;rw[Af hE.f160,c160,r160,p160_0,p160_1,p160_2_eq,p160_3];refine Sst @AX ?_;refine call276 hE hL9 hb tO (fun h1 K1=>?_);have n1:=K1.nx;simp only[nB] at n1;have m1:=K1.old (nxt h) tN;have m2:=K1.old (nxt h).succ tN;simp -implicitDefEqProofs (disch:=exact tD) only[sB] at m1 m2;cases hf:JT x
 ·have e:okV x=false:=by rw[okV,hf,Bool.false_and]
  rw[e] at hk;refine Sst m2 ?_;refine hk _ ?_;exact (Ah.trans K0 K1).put tN _
 ·have e:okV x=(x.walk stpF () 1).2:=by rw[okV,hf,Bool.true_and]
  rw[e] at hk;simp -implicitDefEqProofs (disch:=first|assumption|((try simp only[dB]);first|done|omega)) only[↓sD,sB,↓reduceIte,Nat.reduceEqDiff,Nat.reduceAdd,m1,AX,call277 hE];obtain ⟨T0,hT⟩:∃T0:T V,T0=T.ins und (V.fn 295 [] [V.ptr (nxt h1) 0]) (K.of 8)
         (T.ins und (V.agg x.cells) (K.of 7)
          (T.ins und (V.bool false) (K.of 6)
           (T.ins und (V.bool true) (K.of 5)
            (T.ins und (V.agg x.cells) (K.of 4)
             (T.ins und (V.ptr (nxt h).succ 0) (K.of 2)
              (T.ins und (V.ptr (nxt h) 0) (K.of 1) (T.ins und (V.agg x.cells) (K.of 0) T.l))))))):=⟨_,rfl⟩
  rw[←hT];have g2:T.get und (K.of 2) T0=.ptr (nxt h).succ 0:=by rw[hT];simp -implicitDefEqProofs (disch:=exact tD) only[sB,↓reduceIte,Nat.reduceEqDiff]
  have Y:=yields160 (L:=L) hE hL9 (A:=asg160) (B:=bod160) rfl rfl (l:=(nxt h1).succ.succ) (D:=(nxt h1).succ) g2 tN;refine call425 hE (fun _ _ _ _ _ _ _ _ _ l _ _ m hd=>⟨fun y hy=>?_,fun y hy=>?_⟩) hL9 (x:=x) ?_ ?_ Y (s:=()) (q:=50) (.inl (JS hf)) (JS hf) hb tO tO ?_ ?_ (fun h3 K3 hI v=>?_)
  ·simp only[Va.dep] at hd;have:=dep_mem hy;omega
  ·simp only[Va.dep] at hd;have:=dep_mem hy;omega
  ·exact Ag
  ·((try simp only[nB]);omega)
  ·intro b hb;simp only[List.mem_cons,List.not_mem_nil,or_false] at hb;rcases hb with rfl|rfl<;>((try simp only[nB]);omega)
  ·refine ⟨?_,?_⟩<;>simp -implicitDefEqProofs (disch:=exact tD) only[sB,m2]
  ·have n3:=K3.nx;simp only[nB] at n3;have mD:=K3.old (nxt h1).succ tN (fun hm=>by simp only[List.mem_cons,List.not_mem_nil,or_false] at hm;rcases hm with hm|hm<;>(have:=congrArg K.num hm;simp only[K.num_succ] at this;omega));simp -implicitDefEqProofs (disch:=exact tD) only[sB] at mD;have hK:∀b,b.num<(nxt h).num→blk h3 b=blk h b:=fun b hb=>by rw[K3.old b tN (fun hm=>by simp only[List.mem_cons,List.not_mem_nil,or_false] at hm;rcases hm with rfl|rfl<;>(simp only[K.num_succ] at hb n1;omega))];have:=(K0.trans K1).old b hb;exact Ssc @this
   cases hw:(x.walk stpF () 1).2
   ·rw[hw,if_neg (by simp)] at hI;have hl:=hI.hl;have h2:=hI.h2;rw[hw] at hk;rw[F6 hl (by simp)];refine Be ?_;rw[F9 (.inl rfl) (Ssc @mD)];refine Sst (J2 g2 h2) ?_;refine hk _ ⟨by ((try simp only[nB]);omega),fun b hb=>?_⟩;rw[BW tN,BW tN,hK b hb]
   ·rw[hw,if_pos rfl] at hI;have hl:=hI.hl;have h2:=hI.h2;rw[hw] at hk;rw[F6 hl (by simp)];refine Sst (J2 g2 h2) ?_;rw[F9 (.inl rfl) (Ssc @mD)];refine Sst g2 ?_;refine hk _ ⟨by ((try simp only[nB]);omega),fun b hb=>?_⟩;rw[BW tN,BW tN,BW tN,hK b hb]
theorem call101 (hE:Fns E) (hL9:L≤9223372036854775807) {x:Va} (hb:x.bulk≤L) (hn:170≤n) (hk:∀h1,Ah h h1→kc (.ret (.int .i64 (.ofNat (if okV x=true then 0 else 4)))) none h1=true):
  call E (L+3) (n+2) (.fn 88) [.agg x.cells] none h kc=true:=by
 have l7:=x.cells_length;have K0:Ah h (h.upd (nxt h) (.cells x.cells)).bump:=kO;rw[Af hE.f101,c101,r101,p101_0,p101_1,p101_2];refine Sst (J2 @AX l7) ?_;refine call160 hE hL9 hb hn (fun h1 K1=>?_);have hk:=hk _ (K0.trans K1);cases hf:okV x
 ·rw[hf,if_neg (by simp)] at hk;simp -implicitDefEqProofs only[↓sD,sB,↓reduceIte];exact hk
 ·rw[hf,if_pos rfl] at hk;simp -implicitDefEqProofs only[↓sD,sB,↓reduceIte];exact hk
theorem call100 (hE:Fns E) (hL9:L≤9223372036854775807) {x:Va} (hb:x.bulk≤L) (hn:170≤n) (hk:∀h1,Ah h h1→kc (.ret (.bool (!okV x))) none h1=true):
  call E (L+3) (n+3) (.fn 87) [.agg x.cells] none h kc=true:=by
 have l7:=x.cells_length;have K0:Ah h (h.upd (nxt h) (.cells x.cells)).bump:=kO;rw[Af hE.f100,c100,r100,p100_0,p100_1];refine Sst (J2 @AX l7) ?_;refine call101 hE hL9 hb hn (fun h1 K1=>?_);have hk:=hk _ (K0.trans K1);cases hf:okV x
 ·rw[hf] at hk;simp -implicitDefEqProofs only[↓sD,sB,↓reduceIte,reduceCtorEq,decide_false];exact hk
 ·rw[hf] at hk;simp -implicitDefEqProofs only[↓sD,sB,↓reduceIte];exact hk
theorem loop159 (hE:Fns E) (hL9:L≤9223372036854775807) {b:Bool} {cp:Nat} {s:List Va} (hn:170≤n) (hs:s.length≤9223372036854775807) {h0:Hp}:∀(r:List Va) (i M:Nat) (t:T V) (h:Hp),s.drop i=r→i+r.length=s.length→r.length+1≤M→Ax r≤L→Ah h0 h→
  T.get und (K.of 0) t=slR b cp (AB s) s.length→T.get und (K.of 1) t=.fn 87 [] []→T.get und (K.of 7) t=.int .i64 (.ofNat s.length)→T.get und (K.of 8) t=.int .i64 (.ofNat i)→
  (r.all okV=true→∀t1 h1,Ah h0 h1→k (.exit 0) t1 d h1=true)→(r.all okV=false→∀t1 j h1,Ah h0 h1→T.get und (K.of 4) t1=.int .i64 (.ofNat j)→k .ret t1 d h1=true)→
  iter (exec (call E (L+3) (n+3)) (L+3) fi HJ) M t d h k=true:=by
 intro r;induction r with
 |nil=>intro i M t h hr hi hM hb K0 g0 g1 g5 g6 hk hf;obtain ⟨M,rfl⟩:=pM M;have hi':(i<s.length)=False:=eq_false (by simp at hi;omega);rw[Ab,HJ];refine Tst (J3 g5 g6 hi') ?_;exact hk rfl _ _ K0
 |cons x r ih=>
  intro i M t h hr hi hM hb K0 g0 g1 g5 g6 hk hf;obtain ⟨M,rfl⟩:=pM M;simp only[List.length_cons] at hi hM;simp only[Ax] at hb;have hi':(i<s.length)=True:=eT;have e1:=fun c h=>DD (c:=c) (h:=h) (Ap hr);simp only[List.all_cons] at hk hf;rw[Ab,HJ];refine Tst (J6 g0 g1 g5 g6 hi' e1) ?_;refine call100 hE hL9 tO hn (fun h1 K1=>?_);cases h2:okV x
  ·refine Be ?_;refine hf (by rw[h2];rfl) _ i _ (K0.trans K1) ?_;exact Ag
  ·refine Sst g6 ?_;rw[h2,Bool.true_and] at hk hf;refine ih (i+1) _ _ _ (Al hr) tO tO tO (K0.trans K1) ?_ ?_ ?_ ?_ hk hf
   ·exact Ssc g0
   ·exact Ssc g1
   ·exact Ssc g5
   ·exact Ag
theorem call99 (hE:Fns E) (hL9:L≤9223372036854775807) {b:Bool} {cp:Nat} {s:List Va} (hn:170≤n) (hb:Ax s≤L) (hk:∀h1,Ah h h1→kc (.ret (.bool (!s.all okV))) none h1=true):
  call E (L+3) (n+5) (.fn 86) [slR b cp (AB s) s.length,.fn 87 [] []] none h kc=true:=by
 have hl:=AI s;rw[Af hE.f99,c99,r99,p99_0,p99_1];refine Be ?_;rw[Af hE.f159,c159,r159,p159_0,p159_1,p159_2];refine Sst @Ae ?_;refine loop159 hE hL9 (b:=b) (cp:=cp) (s:=s) hn tO (h0:=h) s 0 _ _ _ rfl tO tO hb (.refl h) ?_ ?_ ?_ ?_ (fun hy t1 h1 K1=>?_) (fun hf t1 j h1 K1 g4=>?_)
 ·exact Ag
 ·exact Ag
 ·exact Ag
 ·exact Ag
 ·have hk:=hk _ K1;rw[hy] at hk;simp -implicitDefEqProofs only[↓sD,sB,↓reduceIte,Bw];exact hk
 ·have hk:=hk _ K1;rw[hf] at hk;simp -implicitDefEqProofs only[↓sD,sB,↓reduceIte,g4,Nat.not_lt_zero,decide_false];exact hk
end
end Go.AJ
