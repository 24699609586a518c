/- The walk: what is formed; traversals. -/
import Derived.Test.YtgdbpnpolelfoaaGreatDoorWa
set_option linter.all false
namespace Go.AJ
open Go
def O0 (x:Nat):Bool:=decide (x<32)||decide (126<x)
def CU (s:List Nat):Bool:= !s.any O0&&decide (s.length≤200)
def Bo (x:Nat):Bool:=(!decide (x<97)&& !decide (122<x))||(!decide (x<65)&& !decide (90<x))
def CO (x:Nat):Bool:=Bo x||(!decide (x<48)&& !decide (57<x))||decide (x=95)
def BF (s:List Nat):Bool:=match s with
 | []=>false
 |x::r=> !(decide (40<(x::r).length))&&Bo x&& !CR (x::r) [84,82,85,69]&& !CR (x::r) [70,65,76,83,69]&&(x::r).all CO
def GR (x:Int):Bool:=ltI x (.ofNat 0)|| !ltI x (.ofNat 1000000000)
def Dj (neg:Bool) (d:List Int):Bool:=
 !decide (40<d.length)&& !(decide (d.length=0)&&neg)&& !(decide (0<d.length)&&Aq (d.getD (d.length-1) 0) (.ofNat 0))&& !d.any GR
theorem Ak {α:Type} {s r:List α} {x:α} {i:Nat} (h:s.drop i=x::r):s[i]? =some x:=by have:=congrArg (·[0]?) h;simpa using this
theorem Ai {α:Type} {s r:List α} {x:α} {i:Nat} (h:s.drop i=x::r):s.drop (i+1)=r:=by have:=congrArg (List.drop 1) h;simpa [List.drop_drop] using this
section
variable {E:Env} {L n:Nat} {h:Hp} {kc:KC} {t:T V} {d:Dc} {k:KE} {fi:FI} {c:KV} {C:As}
theorem tL {s:List Nat} (hs:s.length≤9223372036854775807):∀(r:List Nat) (i M:Nat) (t:T V),s.drop i=r→i+r.length=s.length→r.length+1≤M→tg 0 t=.str s→tg 5 t=vI s.length→tg 6 t=vI i→
  (r.any O0=false→∀t1,tg 0 t1=.str s→k (.exit 0) t1 d h=true)→(r.any O0=true→∀t1,tg 2 t1=.bool false→k .ret t1 d h=true)→
  iter (exec C L fi QR) M t d h k=true:=by
 intro r;induction r with
 |nil=>intro i M t hr hi hM g0 g5 g6 hk hb;obtain ⟨M,rfl⟩:=pM M;have hi':(i<s.length)=False:=eq_false (by simp at hi;omega);rw[Ab,QR];refine Tst (J3 g5 g6 hi') ?_;exact hk rfl _ (Ssc g0)
 |cons x r ih=>
  intro i M t hr hi hM g0 g5 g6 hk hb;obtain ⟨M,rfl⟩:=pM M;simp only[List.length_cons] at hi hM;have hi':(i<s.length)=True:=eT;have hx:=Ak hr;have e1:=fun c h=>D4 (c:=c) (h:=h) (ik:=.i64) hx;simp only[List.any_cons] at hk hb;rw[Ab,QR];by_cases h1:x<32
  ·refine Tst (J6 g0 g5 g6 hi' e1 h1) ?_;refine hb (by simp [O0,h1]) _ Af
  ·by_cases h2:126<x
   ·refine Tst (J7 g0 g5 g6 hi' e1 h1 h2) ?_;refine hb (by simp [O0,h2]) _ Af
   ·refine Tst (J7 g0 g5 g6 hi' e1 h1 h2) ?_;have hx0:O0 x=false:=by simp [O0,h1,h2]
    rw[hx0,Bool.false_or] at hk hb;refine ih (i+1) _ _ (Ai hr) tO tO ?_ ?_ ?_ hk hb
    ·exact Ssc g0
    ·exact Ssc g5
    ·exact Af
theorem uI (hE:Fns E) {s:List Nat} (hs:s.length≤9223372036854775807) (hL:s.length≤L) (hk:kc (.ret (.bool (CU s))) none h=true):
  call E (L+1) (n+1) (.fn 298) [.str s] none h kc=true:=by
 rw[Ag hE.f428,AcB,Aa9,mf,me,md];refine Sst @Ad ?_;refine tL hs s 0 _ _ rfl tO tO ?_ ?_ ?_ (fun hb t1 g0=>?_) (fun hb t1 g2=>?_)
 ·exact Af
 ·exact Af
 ·exact Af
 ·have e:CU s= !decide (200<s.length):=by rw[CU,hb,Bool.not_false,Bool.true_and];by_cases h2:200<s.length<;>simp [h2]<;>omega
  rw[e] at hk;refine Sst g0 ?_;exact hk
 ·have e:CU s=false:=by rw[CU,hb];rfl
  rw[e] at hk;refine Sst g2 ?_;exact hk
theorem Iy (hE:Fns E) {x:Nat}:call E (L+1) (n+1) (.fn 423) [.int .u8 (.ofNat x)] none h kc=kc (.ret (.bool (Bo x))) none h:=by rw[Ag hE.f568,Acs,Aa1,lF,lE];by_cases h1:x<97<;>by_cases h2:122<x<;>by_cases h3:x<65<;>by_cases h4:90<x<;>simp -implicitDefEqProofs only[↓sD,sB,↓reduceIte,Nat.reduceEqDiff,reduceCtorEq,h1,h2,h3,h4,decide_true,decide_false,Bo,Bool.or_false,Bool.or_true,Bool.and_false]
theorem dQ (hE:Fns E) {x:Nat}:call E (L+1) (n+2) (.fn 424) [.int .u8 (.ofNat x)] none h kc=kc (.ret (.bool (CO x))) none h:=by rw[Ag hE.f569,Acr,Aa0,lD,lC];cases h1:Bo x<;>by_cases h2:x<48<;>by_cases h3:57<x<;>cases h4:decide (x=95)<;>simp -implicitDefEqProofs only[↓sD,sB,↓reduceIte,Nat.reduceEqDiff,reduceCtorEq,Iy hE,h1,h2,h3,h4,decide_true,decide_false,CO,Bool.or_false,Bool.or_true,Bool.and_false]
theorem tK (hE:Fns E) {s:List Nat} (hs:s.length≤9223372036854775807):∀(r:List Nat) (i M:Nat) (t:T V),s.drop i=r→i+r.length=s.length→r.length+1≤M→tg 0 t=.str s→tg 26 t=vI s.length→tg 27 t=vI i→
  (r.all CO=true→∀t1,k (.exit 0) t1 d h=true)→(r.all CO=false→∀t1,tg 2 t1=.bool false→k .ret t1 d h=true)→
  iter (exec (call E (L+1) (n+2)) (L+1) fi QQ) M t d h k=true:=by
 intro r;induction r with
 |nil=>intro i M t hr hi hM g0 g5 g6 hk hb;obtain ⟨M,rfl⟩:=pM M;have hi':(i<s.length)=False:=eq_false (by simp at hi;omega);rw[Ab,QQ];refine Tst (J3 g5 g6 hi') ?_;exact hk rfl _
 |cons x r ih=>
  intro i M t hr hi hM g0 g5 g6 hk hb;obtain ⟨M,rfl⟩:=pM M;simp only[List.length_cons] at hi hM;have hi':(i<s.length)=True:=eT;have e1:=fun c h=>D4 (c:=c) (h:=h) (ik:=.i64) (Ak hr);simp only[List.all_cons] at hk hb;rw[Ab,QQ];cases h1:CO x
  ·simp -implicitDefEqProofs (disch:=exact tD) only[↓sD,sB,↓reduceIte,Nat.reduceEqDiff,reduceCtorEq,g0,g5,g6,hi',decide_true,e1,dQ hE,h1];refine hb (by rw[h1];rfl) _ Af
  ·simp -implicitDefEqProofs (disch:=exact tD) only[↓sD,sB,↓reduceIte,Nat.reduceEqDiff,reduceCtorEq,g0,g5,g6,hi',decide_true,e1,dQ hE,h1];rw[h1,Bool.true_and] at hk hb;refine ih (i+1) _ _ (Ai hr) tO tO ?_ ?_ ?_ hk hb
   ·exact Ssc g0
   ·exact Ssc g5
   ·exact Af
theorem uH (hE:Fns E) {s:List Nat} (hs:s.length≤9223372036854775807) (hL:s.length≤L) (hk:kc (.ret (.bool (BF s))) none h=true):
  call E (L+1) (n+3) (.fn 299) [.str s] none h kc=true:=by
 rw[Ag hE.f429,AcA,Aa8,l9,l8,lZ,lY];cases s with
 |nil=>simp -implicitDefEqProofs only[↓sD,sB,↓reduceIte,Nat.reduceEqDiff,reduceCtorEq];exact hk
 |cons x r=>
  have e0:CR (x::r) []=false:=rfl;have e1:=fun c h=>D4 (c:=c) (h:=h) (ik:=.i64) (s:=x::r) (i:=0) (x:=x) rfl;by_cases h1:40<(x::r).length
  ·have e:BF (x::r)=false:=by simp only[BF,h1,decide_true,Bool.not_true,Bool.false_and]
   rw[e] at hk;simp -implicitDefEqProofs only[↓sD,sB,↓reduceIte,Nat.reduceEqDiff,reduceCtorEq,e0,h1,decide_true];exact hk
  ·cases h2:Bo x
   ·have e:BF (x::r)=false:=by simp only[BF,h2,Bool.and_false,Bool.false_and]
    rw[e] at hk;simp -implicitDefEqProofs only[↓sD,sB,↓reduceIte,Nat.reduceEqDiff,reduceCtorEq,e0,e1,h1,decide_false,Iy hE,h2];exact hk
   ·cases h3:CR (x::r) [84,82,85,69]
    ·cases h4:CR (x::r) [70,65,76,83,69]
     ·have e:BF (x::r)=(x::r).all CO:=by simp only[BF,h1,h2,h3,h4,decide_false,Bool.not_false,Bool.true_and]
      rw[e] at hk;simp -implicitDefEqProofs only[↓sD,sB,↓reduceIte,Nat.reduceEqDiff,reduceCtorEq,e0,e1,h1,decide_false,Iy hE,h2,h3,h4,Ad];refine tK hE hs (x::r) 0 _ _ rfl tO tO ?_ ?_ ?_ (fun hb t1=>?_) (fun hb t1 g2=>?_)
      ·exact Af
      ·exact Af
      ·exact Af
      ·rw[hb] at hk;simp -implicitDefEqProofs only[↓sD,sB,↓reduceIte];exact hk
      ·rw[hb] at hk;simp -implicitDefEqProofs only[↓sD,sB,g2];exact hk
     ·have e:BF (x::r)=false:=by simp only[BF,h4,Bool.not_true,Bool.and_false,Bool.false_and]
      rw[e] at hk;simp -implicitDefEqProofs only[↓sD,sB,↓reduceIte,Nat.reduceEqDiff,reduceCtorEq,e0,e1,h1,decide_false,Iy hE,h2,h3,h4];exact hk
    ·have e:BF (x::r)=false:=by simp only[BF,h3,Bool.not_true,Bool.and_false,Bool.false_and]
     rw[e] at hk;simp -implicitDefEqProofs only[↓sD,sB,↓reduceIte,Nat.reduceEqDiff,reduceCtorEq,e0,e1,h1,decide_false,Iy hE,h2,h3];exact hk
end
end Go.AJ
namespace Go.AJ
open Go
def ris:List Va→Bool
 |x::y::l=>ltI (x.cmp y) (.ofNat 0)&&ris (y::l)
 |_=>true
def Cl (l:List Va):Bool:=ris l&& !decide (4000<l.length)
section
variable {E:Env} {L n:Nat} {h:Hp} {kc:KC} {t:T V} {d:Dc} {k:KE} {fi:FI} {c:KV} {C:As}
theorem dR (hE:Fns E) {x:Int}:call E (L+1) (n+1) (.fn 422) [.int .i64 x] none h kc=kc (.ret (.bool (GR x))) none h:=by rw[Ag hE.f567,Acu,Aa2,lH,lG];cases h1:ltI x (.ofNat 0)<;>cases h2:ltI x (.ofNat 1000000000)<;>simp -implicitDefEqProofs only[↓sD,sB,↓reduceIte,Nat.reduceEqDiff,reduceCtorEq,h1,h2,GR,Bool.or_false,Bool.or_true]
theorem tF (hE:Fns E) {b:Bool} {cp:Nat} {s:List Int} (hs:s.length≤9223372036854775807):∀(r:List Int) (i M:Nat) (t:T V),s.drop i=r→i+r.length=s.length→r.length+1≤M→tg 0 t=slR b cp (AH s) s.length→tg 1 t=.fn 422 [] []→tg 7 t=vI s.length→tg 8 t=vI i→
  (r.any GR=false→∀t1,k (.exit 0) t1 d h=true)→(r.any GR=true→∀t1 j,tg 4 t1=vI j→k .ret t1 d h=true)→
  iter (exec (call E (L+1) (n+1)) (L+1) fi IG) M t d h k=true:=by
 intro r;induction r with
 |nil=>intro i M t hr hi hM g0 g1 g5 g6 hk hb;obtain ⟨M,rfl⟩:=pM M;have hi':(i<s.length)=False:=eq_false (by simp at hi;omega);rw[Ab,IG];refine Tst (J3 g5 g6 hi') ?_;exact hk rfl _
 |cons x r ih=>
  intro i M t hr hi hM g0 g1 g5 g6 hk hb;obtain ⟨M,rfl⟩:=pM M;simp only[List.length_cons] at hi hM;have hi':(i<s.length)=True:=eT;have hx:s.getD i 0=x:=by rw[List.getD_eq_getElem?_getD,Ak hr];rfl
  have e1:=fun c h=>AM (c:=c) (h:=h) (Bp (l:=s) (i:=i) tO);simp only[hx] at e1;simp only[List.any_cons] at hk hb;rw[Ab,IG];cases h1:GR x
  ·simp -implicitDefEqProofs (disch:=exact tD) only[↓sD,sB,↓reduceIte,Nat.reduceEqDiff,reduceCtorEq,g0,g1,g5,g6,hi',decide_true,AR,e1,dR hE,h1];rw[h1,Bool.false_or] at hk hb;refine ih (i+1) _ _ (Ai hr) tO tO ?_ ?_ ?_ ?_ hk hb
   ·exact Ssc g0
   ·exact Ssc g1
   ·exact Ssc g5
   ·exact Af
  ·simp -implicitDefEqProofs (disch:=exact tD) only[↓sD,sB,↓reduceIte,Nat.reduceEqDiff,reduceCtorEq,g0,g1,g5,g6,hi',decide_true,AR,e1,dR hE,h1];refine hb (by rw[h1];rfl) _ i Af
theorem uF (hE:Fns E) {b:Bool} {cp:Nat} {s:List Int} (hs:s.length≤9223372036854775807) (hL:s.length≤L)
  (hk:s.any GR=false→kc (.ret (.int .i64 (.negSucc 0))) none h=true) (hb:s.any GR=true→∀j,kc (.ret (vI j)) none h=true):
  call E (L+1) (n+2) (.fn 64) [slR b cp (AH s) s.length,.fn 422 [] []] none h kc=true:=by
 rw[Ag hE.f453,AaH,Aaz,UZ,UY,UX];refine Sst @Ad ?_;refine tF hE hs (b:=b) (cp:=cp) s 0 _ _ rfl tO tO ?_ ?_ ?_ ?_ (fun hn t1=>?_) (fun hy t1 j g4=>?_)
 ·exact Af
 ·exact Af
 ·exact Af
 ·exact Af
 ·simp -implicitDefEqProofs only[↓sD,sB,↓reduceIte];exact hk hn
 ·simp -implicitDefEqProofs only[↓sD,sB,g4];exact hb hy j
theorem dU (hE:Fns E) {b:Bool} {cp:Nat} {s:List Int} (hs:s.length≤9223372036854775807) (hL:s.length≤L) (hk:kc (.ret (.bool (s.any GR))) none h=true):
  call E (L+1) (n+3) (.fn 26) [slR b cp (AH s) s.length,.fn 422 [] []] none h kc=true:=by
 rw[Ag hE.f313,AaI,AaA,U7,U6];refine AV ?_;refine uF hE hs hL (fun hn=>?_) (fun hy j=>?_)
 ·rw[hn] at hk;simp -implicitDefEqProofs only[↓sD,sB,↓reduceIte,BG];exact hk
 ·rw[hy] at hk;simp -implicitDefEqProofs only[↓sD,sB,↓reduceIte,Nat.not_lt_zero,decide_false];exact hk
theorem uJ (hE:Fns E) {g b:Bool} {cp:Nat} {s:List Int} (hs:s.length≤9223372036854775807) (hL:s.length≤L)
  (hk:∀h1,Ae h h1→kc (.ret (vI (if Dj g s=true then 0 else 10))) none h1=true):
  call E (L+1) (n+4) (.fn 297) [.agg [.bool g,slR b cp (AH s) s.length]] none h kc=true:=by
 have K1:Ae h (h.upd (nxt h) (.cells [.bool g,slR b cp (AH s) s.length])).bump:=kO;replace hk:=hk _ K1;rw[Ag hE.f427,AcC,Aba,my,mu,mn,mj,mh];have e40:Dj g s=(!decide (40<s.length)&& !(decide (s.length=0)&&g)&& !(decide (0<s.length)&&Aq (s.getD (s.length-1) 0) (.ofNat 0))&& !s.any GR):=rfl;by_cases h1:40<s.length
 ·rw[decide_eq_true h1] at e40;simp only[Bool.not_true,Bool.false_and] at e40;rw[e40,if_neg (by simp)] at hk;simp -implicitDefEqProofs (disch:=exact tD) only[↓sD,sB,↓reduceIte,Nat.reduceEqDiff,h1,decide_true];exact hk
 ·cases hl:s.length with
  |zero=>
   obtain rfl:s= []:=List.length_eq_zero_iff.1 hl;cases g
   ·have e:Dj false []=true:=rfl;rw[e,if_pos rfl] at hk;refine Tst @Nat.not_lt_zero ?_;refine dU hE (by simp) (by simp) ?_;simp -implicitDefEqProofs (disch:=exact tD) only[↓sD,sB,↓reduceIte,List.any_nil];exact hk
   ·have e:Dj true []=false:=rfl;rw[e,if_neg (by simp)] at hk;simp -implicitDefEqProofs (disch:=exact tD) only[↓sD,sB,↓reduceIte,Nat.reduceEqDiff,Nat.not_lt_zero,decide_false];exact hk
  |succ m=>
   rw[hl] at h1 hs hL e40;simp only[h1,decide_false,Nat.add_one_ne_zero,Bool.not_false,Bool.true_and,Bool.false_and,Nat.zero_lt_succ,decide_true,Nat.add_sub_cancel] at e40;have e1:=fun c h=>AM (c:=c) (h:=h) (Bp (l:=s) (i:=m) tO);have em:Int.ofNat (m+1)=Int.ofNat s.length:=by rw[hl]
   cases h2:Aq (s.getD m 0) (.ofNat 0)
   ·rw[h2] at e40;simp -implicitDefEqProofs (disch:=first|assumption|((try simp only[dB]);first|done|omega)) only[↓sD,sB,↓reduceIte,Nat.reduceEqDiff,←hl,decide_false,decide_true,show (s.length=0)=False from eF,show (0<s.length)=True from eT,show (40<s.length)=False from eF,Bi,show dec s.length=.ofNat m from by rw[hl];rfl,AR,e1,h2];refine dU hE tO tO ?_;simp only[Bool.not_false,Bool.true_and] at e40;cases h3:s.any GR
    ·rw[e40,h3,Bool.not_false,if_pos rfl] at hk;simp -implicitDefEqProofs (disch:=exact tD) only[↓sD,sB,↓reduceIte];exact hk
    ·rw[e40,h3,Bool.not_true,if_neg (by simp)] at hk;simp -implicitDefEqProofs (disch:=exact tD) only[↓sD,sB,↓reduceIte];exact hk
   ·rw[h2] at e40;simp only[Bool.not_true,Bool.false_and] at e40;rw[e40,if_neg (by simp)] at hk;simp -implicitDefEqProofs (disch:=exact tD) only[↓sD,sB,↓reduceIte,Nat.reduceEqDiff,←hl,decide_false,decide_true,show (s.length=0)=False from eF,show (0<s.length)=True from eT,show (40<s.length)=False from eF,Bi,show dec s.length=.ofNat m from by rw[hl];rfl,AR,e1,h2];exact hk
end
end Go.AJ
namespace Go.AJ
open Go
def AW:Va→Bool
 |.mk kind n neg _ _ d s _ _ l _ _ m=>
  if Aq kind (.ofNat 1)=true then (Aq n (.ofNat 0)||Aq n (.ofNat 1))&& !(neg||decide (0<d.length))&&CR s []&&decide (l.length+m.length=0)
  else if Aq kind (.ofNat 2)=true then Dj neg d&&Aq n (.ofNat 0)&&CR s []&&decide (l.length+m.length=0)
  else if Aq kind (.ofNat 3)=true then Aq n (.ofNat 0)&& !(neg||decide (0<d.length))&& !decide (0<l.length+m.length)&&CU s
  else if Aq kind (.ofNat 4)=true then Aq n (.ofNat 0)&& !(neg||decide (0<d.length))&& !decide (0<l.length+m.length)&&BF s
  else if Aq kind (.ofNat 5)=true then Aq n (.ofNat 0)&& !(neg||decide (0<d.length))&&CR s []&&Cl l&&decide (m.length=0)
  else if Aq kind (.ofNat 6)=true then Aq n (.ofNat 0)&& !(neg||decide (0<d.length))&&CR s []&&Cl l&&decide (m.length=l.length)
  else false
theorem Po (x y:Va) (l:List Va):ris (x::y::l)=(ltI (x.cmp y) (.ofNat 0)&&ris (y::l)):=rfl
section
variable {E:Env} {L n:Nat} {h:Hp} {kc:KC} {t:T V} {d:Dc} {k:KE} {fi:FI} {c:KV} {C:As}
theorem tJ (hE:Fns E) (hL9:L≤9223372036854775807) {D:Nat} (hn:2*D+4≤n) {b:Bool} {cp:Nat} {s:List Va} (hs:s.length≤9223372036854775807) {h0:Hp}:
  ∀(r:List Va) (x:Va) (i M:Nat) (t:T V) (h:Hp),s.drop i=x::r→i+1+r.length=s.length→r.length+1≤M→x.dep≤D→x.bulk≤L→Bq r≤D→Av r≤L→Ae h0 h→
  tg 0 t=slR b cp (AC s) s.length→tg 3 t=vI (i+1)→
  (ris (x::r)=true→∀t1 h1,Ae h0 h1→tg 0 t1=slR b cp (AC s) s.length→k (.exit 0) t1 d h1=true)→
  (ris (x::r)=false→∀t1 h1,Ae h0 h1→tg 2 t1=.bool false→k .ret t1 d h1=true)→
  iter (exec (call E (L+3) n) (L+3) fi Nk) M t d h k=true:=by
 intro r;induction r with
 |nil=>intro x i M t h hr hi hM hxd hxb hd hb K0 g0 g3 hk hf;obtain ⟨M,rfl⟩:=pM M;have hi':(i+1<s.length)=False:=eq_false (by simp at hi;omega);rw[Ab,Nk];refine Tst (J3 g0 g3 hi') ?_;exact hk rfl _ _ K0 (Ssc g0)
 |cons y r ih=>
  intro x i M t h hr hi hM hxd hxb hd hb K0 g0 g3 hk hf;obtain ⟨M,rfl⟩:=pM M;simp only[List.length_cons] at hi hM;simp only[Bq,Av] at hd hb;have hi':(i+1<s.length)=True:=eT;have e1:=fun c h=>Dr (c:=c) (h:=h) (Ak hr);have e2:=fun c h=>Dr (c:=c) (h:=h) (Ak (Ai hr));have e3:Am .i64 (Int.sub (.ofNat (i+1)) (.ofNat 1))=.ofNat i:=Bi (i:=i+1) tO;rw[Ab,Nk];refine Tst (J7 g0 g3 hi' e3 e1 e2 @DC) ?_;refine ph hE hL9 hxd hxb hn (fun h1 K1=>?_);rw[Po] at hk hf;cases hc:ltI (x.cmp y) (.ofNat 0)
  ·refine Sst hc ?_;refine hf (by rw[hc];rfl) _ _ (K0.trans K1) ?_;exact Af
  ·rw[hc,Bool.true_and] at hk hf;refine Sst (J2 hc g3) ?_;refine ih y (i+1) _ _ _ (Ai hr) tO tO tO tO tO tO (K0.trans K1) ?_ ?_ hk hf
   ·exact Ssc g0
   ·exact Af
theorem dS (hE:Fns E) (hL9:L≤9223372036854775807) {D:Nat} (hn:2*D+4≤n) {b:Bool} {cp:Nat} {s:List Va} (hs:s.length≤L) (hd:Bq s≤D) (hb:Av s≤L)
  (hk:∀h1,Ae h h1→kc (.ret (.bool (Cl s))) none h1=true):
  call E (L+3) (n+1) (.fn 300) [slR b cp (AC s) s.length] none h kc=true:=by
 have e4:ris s=true→Cl s= !decide (4000<s.length):=fun e=>by rw[Cl,e,Bool.true_and]
 rw[Ag hE.f430,Acz,Aa7,lX,lW,lV];cases s with
 |nil=>have hk:=hk h (.refl h);rw[e4 rfl] at hk;simp -implicitDefEqProofs only[↓sD,sB,↓reduceIte,Nat.reduceEqDiff,reduceCtorEq,Ad,Ab,Nk,List.length_nil,Nat.not_lt_zero,decide_false] at hk⊢;exact hk
 |cons x r=>
  simp only[Bq,Av] at hd hb;simp only[List.length_cons] at hs;refine Sst @Ad ?_;refine tJ hE hL9 hn (b:=b) (cp:=cp) (s:=x::r) (by simp only[List.length_cons];omega) (h0:=h) r x 0 _ _ _ rfl (by simp only[List.length_cons];omega) tO tO tO tO tO (.refl h) ?_ ?_ (fun hy t1 h1 K1 g0=>?_) (fun hf t1 h1 K1 g2=>?_)
  ·exact Af
  ·exact Af
  ·have hk:=hk h1 K1;rw[e4 hy] at hk;simp -implicitDefEqProofs only[↓sD,sB,↓reduceIte,g0];exact hk
  ·have hk:=hk h1 K1;rw[Cl,hf,Bool.false_and] at hk;simp -implicitDefEqProofs only[↓sD,sB,g2];exact hk
end
end Go.AJ
namespace Go.AJ
open Go
section
variable {E:Env} {L n:Nat} {h:Hp} {kc:KC} {t:T V} {d:Dc} {k:KE} {fi:FI} {c:KV} {C:As}
theorem qv (hE:Fns E) (hL9:L≤9223372036854775807) {D:Nat} (hn:2*D+4≤n) {b1:K} {kind m1:Int} {neg ab:Bool} {ac:Nat} {dd:List Int} {s:List Nat} {lb:Bool} {lc:Nat} {l:List Va} {mb:Bool} {mc:Nat} {m:List Va}
  (hd:Bq l≤D) (hb:1+dd.length+s.length+Av l+Av m≤L)
  (g1:tg 1 t=.ptr b1 0) (g3:tg 3 t=.bool (neg||decide (0<dd.length)))
  (mm:blk h b1=.cells (Va.mk kind m1 neg ab ac dd s lb lc l mb mc m).cells) (hb1:b1.num<(nxt h).num)
  (hk:∀t1 h1,Ae h h1→tg 2 t1=.bool (AW (.mk kind m1 neg ab ac dd s lb lc l mb mc m))→k .ret t1 d h1=true):
  exec (call E (L+3) (n+2)) (L+3) fi Vd t d h (Dd (GH (call E (L+3) (n+2)) (L+3) fi (.seq Vc .ret) k) k)=true:=by
 obtain ⟨n,rfl⟩:∃n',n=n'+4:=⟨n-4,by omega⟩
 have hll:l.length≤Av l:=AL l;have hml:m.length≤Av m:=AL m;have e0:∀a b:Nat,a+b≤L→Am .i64 (.ofNat (a+b))=.ofNat (a+b):=fun a b hab=>Ah tO;have e9:=e0 l.length m.length tO;simp only[Va.cells] at mm;rw[Vd,Vc];generalize hnb:(neg||decide (0<dd.length))=nb at g3;cases k1:Aq kind (.ofNat 1)
 ·cases k2:Aq kind (.ofNat 2)
  ·cases k3:Aq kind (.ofNat 3)
   ·cases k4:Aq kind (.ofNat 4)
    ·cases k5:Aq kind (.ofNat 5)
     ·cases k6:Aq kind (.ofNat 6)
      ·have e:AW (.mk kind m1 neg ab ac dd s lb lc l mb mc m)=false:=by simp only[AW,k1,k2,k3,k4,k5,k6,Bool.false_eq_true,if_false]
       rw[e] at hk;refine Sst (J8 g1 mm k1 k2 k3 k4 k5 k6) ?_;exact hk _ _ (.refl h) Af
      ·have e:AW (.mk kind m1 neg ab ac dd s lb lc l mb mc m)=(Aq m1 (.ofNat 0)&& !nb&&CR s []&&Cl l&&decide (m.length=l.length)):=by simp only[AW,k1,k2,k3,k4,k5,k6,Bool.false_eq_true,if_false,if_true,hnb]
       cases c1:Aq m1 (.ofNat 0)
       ·simp only[c1,Bool.false_and] at e;rw[e] at hk;simp -implicitDefEqProofs only[↓sD,sB,↓reduceIte,Nat.reduceEqDiff,g1,mm,k1,k2,k3,k4,k5,k6,c1];exact hk _ _ (.refl h) Af
       ·cases nb
        ·cases c2:CR s []
         ·simp only[c1,c2,Bool.false_and,Bool.and_false] at e;rw[e] at hk;simp -implicitDefEqProofs only[↓sD,sB,↓reduceIte,Nat.reduceEqDiff,g1,g3,mm,k1,k2,k3,k4,k5,k6,c1,c2];exact hk _ _ (.refl h) Af
         ·simp -implicitDefEqProofs only[↓sD,sB,↓reduceIte,Nat.reduceEqDiff,g1,g3,mm,k1,k2,k3,k4,k5,k6,c1,c2];refine dS hE hL9 (n:=n+5) (D:=D) tO tO hd tO (fun h1 K1=>?_);have mm:=(K1.old b1 hb1).trans mm;simp only[c1,c2,Bool.not_false,Bool.true_and] at e;rw[e] at hk;cases c3:Cl l
          ·refine AV ?_;exact hk _ _ K1 (by simp -implicitDefEqProofs only[sB,↓reduceIte,c3,Bool.false_and])
          ·refine Sst (J3 g1 mm k5) ?_;exact hk _ _ K1 (by simp -implicitDefEqProofs only[sB,↓reduceIte,c3])
        ·simp only[Bool.not_true,Bool.false_and,Bool.and_false] at e;rw[e] at hk;simp -implicitDefEqProofs only[↓sD,sB,↓reduceIte,Nat.reduceEqDiff,g1,g3,mm,k1,k2,k3,k4,k5,k6,c1];exact hk _ _ (.refl h) Af
     ·have e:AW (.mk kind m1 neg ab ac dd s lb lc l mb mc m)=(Aq m1 (.ofNat 0)&& !nb&&CR s []&&Cl l&&decide (m.length=0)):=by simp only[AW,k1,k2,k3,k4,k5,Bool.false_eq_true,if_false,if_true,hnb]
      cases c1:Aq m1 (.ofNat 0)
      ·simp only[c1,Bool.false_and] at e;rw[e] at hk;simp -implicitDefEqProofs only[↓sD,sB,↓reduceIte,Nat.reduceEqDiff,g1,mm,k1,k2,k3,k4,k5,c1];exact hk _ _ (.refl h) Af
      ·cases nb
       ·cases c2:CR s []
        ·simp only[c1,c2,Bool.false_and,Bool.and_false] at e;rw[e] at hk;simp -implicitDefEqProofs only[↓sD,sB,↓reduceIte,Nat.reduceEqDiff,g1,g3,mm,k1,k2,k3,k4,k5,c1,c2];exact hk _ _ (.refl h) Af
        ·simp -implicitDefEqProofs only[↓sD,sB,↓reduceIte,Nat.reduceEqDiff,g1,g3,mm,k1,k2,k3,k4,k5,c1,c2];refine dS hE hL9 (n:=n+5) (D:=D) tO tO hd tO (fun h1 K1=>?_);have mm:=(K1.old b1 hb1).trans mm;simp only[c1,c2,Bool.not_false,Bool.true_and] at e;rw[e] at hk;cases c3:Cl l
         ·refine AV ?_;exact hk _ _ K1 (by simp -implicitDefEqProofs only[sB,↓reduceIte,c3,Bool.false_and])
         ·refine Sst (J3 g1 mm k5) ?_;exact hk _ _ K1 (by simp -implicitDefEqProofs only[sB,↓reduceIte,c3])
       ·simp only[Bool.not_true,Bool.false_and,Bool.and_false] at e;rw[e] at hk;simp -implicitDefEqProofs only[↓sD,sB,↓reduceIte,Nat.reduceEqDiff,g1,g3,mm,k1,k2,k3,k4,k5,c1];exact hk _ _ (.refl h) Af
    ·have e:AW (.mk kind m1 neg ab ac dd s lb lc l mb mc m)=(Aq m1 (.ofNat 0)&& !nb&& !decide (0<l.length+m.length)&&BF s):=by simp only[AW,k1,k2,k3,k4,Bool.false_eq_true,if_false,if_true,hnb]
     cases c1:Aq m1 (.ofNat 0)
     ·simp only[c1,Bool.false_and] at e;rw[e] at hk;simp -implicitDefEqProofs only[↓sD,sB,↓reduceIte,Nat.reduceEqDiff,g1,mm,k1,k2,k3,k4,c1];exact hk _ _ (.refl h) Af
     ·cases nb
      ·by_cases c2:0<l.length+m.length
       ·simp only[c1,c2,decide_true,Bool.not_true,Bool.false_and,Bool.and_false] at e;rw[e] at hk;simp -implicitDefEqProofs only[↓sD,sB,↓reduceIte,Nat.reduceEqDiff,g1,g3,mm,k1,k2,k3,k4,c1,c2,e9,decide_true];exact hk _ _ (.refl h) Af
       ·simp only[c1,c2,decide_false,Bool.not_false,Bool.true_and] at e;rw[e] at hk;simp -implicitDefEqProofs only[↓sD,sB,↓reduceIte,Nat.reduceEqDiff,g1,g3,mm,k1,k2,k3,k4,c1,c2,e9,decide_false];refine uH hE tO tO ?_;refine AV ?_;exact hk _ _ (.refl h) Af
      ·simp only[Bool.not_true,Bool.false_and,Bool.and_false] at e;rw[e] at hk;simp -implicitDefEqProofs only[↓sD,sB,↓reduceIte,Nat.reduceEqDiff,g1,g3,mm,k1,k2,k3,k4,c1];exact hk _ _ (.refl h) Af
   ·have e:AW (.mk kind m1 neg ab ac dd s lb lc l mb mc m)=(Aq m1 (.ofNat 0)&& !nb&& !decide (0<l.length+m.length)&&CU s):=by simp only[AW,k1,k2,k3,Bool.false_eq_true,if_false,if_true,hnb]
    cases c1:Aq m1 (.ofNat 0)
    ·simp only[c1,Bool.false_and] at e;rw[e] at hk;simp -implicitDefEqProofs only[↓sD,sB,↓reduceIte,Nat.reduceEqDiff,g1,mm,k1,k2,k3,c1];exact hk _ _ (.refl h) Af
    ·cases nb
     ·by_cases c2:0<l.length+m.length
      ·simp only[c1,c2,decide_true,Bool.not_true,Bool.false_and,Bool.and_false] at e;rw[e] at hk;simp -implicitDefEqProofs only[↓sD,sB,↓reduceIte,Nat.reduceEqDiff,g1,g3,mm,k1,k2,k3,c1,c2,e9,decide_true];exact hk _ _ (.refl h) Af
      ·simp only[c1,c2,decide_false,Bool.not_false,Bool.true_and] at e;rw[e] at hk;simp -implicitDefEqProofs only[↓sD,sB,↓reduceIte,Nat.reduceEqDiff,g1,g3,mm,k1,k2,k3,c1,c2,e9,decide_false];refine uI hE tO tO ?_;refine AV ?_;exact hk _ _ (.refl h) Af
     ·simp only[Bool.not_true,Bool.false_and,Bool.and_false] at e;rw[e] at hk;simp -implicitDefEqProofs only[↓sD,sB,↓reduceIte,Nat.reduceEqDiff,g1,g3,mm,k1,k2,k3,c1];exact hk _ _ (.refl h) Af
  ·have e:AW (.mk kind m1 neg ab ac dd s lb lc l mb mc m)=(Dj neg dd&&Aq m1 (.ofNat 0)&&CR s []&&decide (l.length+m.length=0)):=by simp only[AW,k1,k2,Bool.false_eq_true,if_false,if_true]
   refine Sst (J4 g1 mm k1 k2) ?_;refine uJ hE tO tO (fun h1 K1=>?_);have mm:=(K1.old b1 hb1).trans mm;cases c0:Dj neg dd
   ·simp only[c0,Bool.false_and] at e;rw[e] at hk;refine Hj ?_;exact hk _ _ K1 Af
   ·cases c1:Aq m1 (.ofNat 0)
    ·simp only[c0,c1,Bool.false_and,Bool.and_false] at e;rw[e] at hk;simp -implicitDefEqProofs only[↓sD,sB,↓reduceIte,Nat.reduceEqDiff,g1,mm,c1];exact hk _ _ K1 Af
    ·cases c2:CR s []
     ·simp only[c0,c1,c2,Bool.false_and,Bool.and_false] at e;rw[e] at hk;simp -implicitDefEqProofs only[↓sD,sB,↓reduceIte,Nat.reduceEqDiff,g1,mm,c1,c2];exact hk _ _ K1 Af
     ·simp only[c0,c1,c2,Bool.true_and] at e;rw[e] at hk;simp -implicitDefEqProofs only[↓sD,sB,↓reduceIte,Nat.reduceEqDiff,g1,mm,c1,c2,e9];exact hk _ _ K1 Af
 ·have e:AW (.mk kind m1 neg ab ac dd s lb lc l mb mc m)=((Aq m1 (.ofNat 0)||Aq m1 (.ofNat 1))&& !nb&&CR s []&&decide (l.length+m.length=0)):=by simp only[AW,k1,if_true,hnb]
  cases c1:(Aq m1 (.ofNat 0)||Aq m1 (.ofNat 1))
  ·simp only[c1,Bool.false_and] at e;rw[e] at hk;obtain ⟨c3,c4⟩:=Bool.or_eq_false_iff.1 c1;simp -implicitDefEqProofs only[↓sD,sB,↓reduceIte,Nat.reduceEqDiff,g1,mm,k1,c3,c4];exact hk _ _ (.refl h) Af
  ·cases nb
   ·cases c2:CR s []
    ·simp only[c1,c2,Bool.false_and,Bool.and_false] at e;rw[e] at hk;cases c3:Aq m1 (.ofNat 0)
     ·have c4:Aq m1 (.ofNat 1)=true:=by rw[c3] at c1;simpa using c1
      simp -implicitDefEqProofs only[↓sD,sB,↓reduceIte,Nat.reduceEqDiff,g1,g3,mm,k1,c3,c4,c2];exact hk _ _ (.refl h) Af
     ·simp -implicitDefEqProofs only[↓sD,sB,↓reduceIte,Nat.reduceEqDiff,g1,g3,mm,k1,c3,c2];exact hk _ _ (.refl h) Af
    ·simp only[c1,c2,Bool.not_false,Bool.true_and] at e;rw[e] at hk;cases c3:Aq m1 (.ofNat 0)
     ·have c4:Aq m1 (.ofNat 1)=true:=by rw[c3] at c1;simpa using c1
      simp -implicitDefEqProofs only[↓sD,sB,↓reduceIte,Nat.reduceEqDiff,g1,g3,mm,k1,c3,c4,c2,e9];exact hk _ _ (.refl h) Af
     ·simp -implicitDefEqProofs only[↓sD,sB,↓reduceIte,Nat.reduceEqDiff,g1,g3,mm,k1,c3,c2,e9];exact hk _ _ (.refl h) Af
   ·simp only[Bool.not_true,Bool.false_and,Bool.and_false] at e;rw[e] at hk;cases c3:Aq m1 (.ofNat 0)
    ·have c4:Aq m1 (.ofNat 1)=true:=by rw[c3] at c1;simpa using c1
     simp -implicitDefEqProofs only[↓sD,sB,↓reduceIte,Nat.reduceEqDiff,g1,g3,mm,k1,c3,c4];exact hk _ _ (.refl h) Af
    ·simp -implicitDefEqProofs only[↓sD,sB,↓reduceIte,Nat.reduceEqDiff,g1,g3,mm,k1,c3];exact hk _ _ (.refl h) Af
theorem uO (hE:Fns E) (hL9:L≤9223372036854775807) {D:Nat} (hn:2*D+4≤n) {x:Va} (hd:x.dep≤D) (hb:x.bulk≤L)
  (hk:∀h1,Ae h h1→kc (.ret (.bool (AW x))) none h1=true):
  call E (L+3) (n+3) (.fn 194) [.agg x.cells] none h kc=true:=by
 obtain ⟨kind,nn,neg,db,dc,dd,s,lb,lc,l,mb,mc,m⟩:=x;simp only[Va.dep] at hd;simp only[Va.bulk] at hb;have K1:Ae h (h.upd (nxt h) (.cells (Va.mk kind nn neg db dc dd s lb lc l mb mc m).cells)).bump:=kO;rw[Ag hE.f278,AcL,Abj,mZ,mY];simp only[Va.cells] at K1⊢;rcases Bool.eq_false_or_eq_true neg with hg|hg<;>by_cases h1:0<dd.length
 all_goals
  refine Tst (J2 hg h1) ?_;refine qv hE hL9 hn (b1:=nxt h) (D:=D) (neg:=neg) (kind:=kind) (m1:=nn) (ab:=db) (ac:=dc) (dd:=dd) (s:=s) (lb:=lb) (lc:=lc) (l:=l) (mb:=mb) (mc:=mc) (m:=m) tO tO ?_ ?_ ?_ ?_ (fun t1 h1 K2 g2=>?_)
  ·exact Af
  ·exact Tsc (J4 hg h1 @Bool.true_or @Bool.false_or)
  ·simp -implicitDefEqProofs only[sB,hg,Va.cells]
  ·((try simp only[nB]);omega)
  ·refine Sst g2 ?_;exact hk _ (Ae.trans (by simpa only[hg] using K1) K2)
end
end Go.AJ
namespace Go.AJ
open Go
section
variable {σ:Type} (stp:σ→Va→Nat→σ×Bool)
mutual
def Va.walk:Va→σ→Nat→σ×Bool
 |.mk k n g db dc dd s lb lc l mb mc m,a,d=>
  if (stp a (.mk k n g db dc dd s lb lc l mb mc m) d).2=true then
   if (Ck l (stp a (.mk k n g db dc dd s lb lc l mb mc m) d).1 (d+1)).2=true then Ck m (Ck l (stp a (.mk k n g db dc dd s lb lc l mb mc m) d).1 (d+1)).1 (d+1)
   else ((Ck l (stp a (.mk k n g db dc dd s lb lc l mb mc m) d).1 (d+1)).1,false)
  else ((stp a (.mk k n g db dc dd s lb lc l mb mc m) d).1,false)
def Ck:List Va→σ→Nat→σ×Bool
 | [],a,_=>(a,true)
 |x::l,a,d=>if (x.walk a d).2=true then Ck l (x.walk a d).1 d else ((x.walk a d).1,false)
end
end
structure JP (E:Env) (L N:Nat) (S:List K) (l:K) {σ:Type} (stp:σ→Va→Nat→σ×Bool) (I F:σ→Hp→Prop) (P:Va→Prop):Prop where
 stab:∀s h h',(∀b∈S,b.num<(nxt h).num)→I s h→Ae h h'→I s h'
 round:∀s h x d n kc,N≤n→1≤d→d≤60→P x→x.bulk≤L→(∀b∈S,b.num<(nxt h).num)→I s h→
  (∀h',Ac S h h'→(if (stp s x d).2=true then I (stp s x d).1 h' else F (stp s x d).1 h')→kc (.ret (.bool (stp s x d).2)) none h'=true)→
  call E (L+3) n (.round l) [.agg x.cells,vI d] none h kc=true
def wR {σ:Type} (stp:σ→Va→Nat→σ×Bool) (k d:Nat) (e:Nat):Prop:=e≤k∨((∀s y d',51≤d'→(stp s y d').2=false)∧52≤d+k)
section
variable {E:Env} {L n N:Nat} {h:Hp} {kc:KC} {t:T V} {d:Dc} {k:KE} {fi:FI} {c:KV} {C:As}
variable {S:List K} {l0 b2 b3:K} {σ:Type} {stp:σ→Va→Nat→σ×Bool} {I F:σ→Hp→Prop} {P:Va→Prop}
def QZ (E:Env) (L n:Nat) (S:List K) (l0 b2 b3:K) (stp:σ→Va→Nat→σ×Bool) (I F:σ→Hp→Prop) (P:Va→Prop) (q:Nat):Prop:=
 ∀(x:Va) (s:σ) (dp:Nat) (h:Hp) (kc:KC),wR stp q dp x.dep→P x→x.bulk≤L→dp+q≤60→1≤dp→I s h→blk h b2=.cells [.yld l0]→blk h b3=.cells [.fn 296 [] [.ptr b2 0,.ptr b3 0]]→
  b2.num<(nxt h).num→b3.num<(nxt h).num→(∀b∈S,b.num<(nxt h).num)→
  (∀h',Ac S h h'→(if (x.walk stp s dp).2=true then I (x.walk stp s dp).1 h' else F (x.walk stp s dp).1 h')→kc (.ret (.bool (x.walk stp s dp).2)) none h'=true)→
  call E (L+3) n (.fn 296) [.agg x.cells,vI dp,.ptr b2 0,.ptr b3 0] none h kc=true
theorem dg {stp:σ→Va→Nat→σ×Bool} {q d e e':Nat} (h:wR stp q d e) (he:e'≤e):wR stp q d e':=by
 rcases h with h|h
 ·exact .inl tO
 ·exact .inr h
theorem bV (_hE:Fns E) (Y:JP E L N S l0 stp I F P) (hs2:b2∉S) (hs3:b3∉S) {q:Nat} (hW:QZ E L n S l0 b2 b3 stp I F P q) {b:Bool} {cp dp:Nat} {s:List Va} (hs:s.length≤9223372036854775807) (hdp:dp+1+q≤60) {h0:Hp}:
  ∀(r:List Va) (i M:Nat) (t:T V) (a:σ) (h:Hp),s.drop i=r→i+r.length=s.length→r.length+1≤M→wR stp q (dp+1) (Bq r)→(∀x∈r,P x)→Av r≤L→Ac S h0 h→I a h→blk h b2=.cells [.yld l0]→blk h b3=.cells [.fn 296 [] [.ptr b2 0,.ptr b3 0]]→
  b2.num<(nxt h).num→b3.num<(nxt h).num→(∀b∈S,b.num<(nxt h).num)→
  tg 1 t=vI dp→tg 3 t=.ptr b3 0→tg 26 t=slR b cp (AC s) s.length→tg 27 t=vI s.length→tg 28 t=vI i→
  ((Ck stp r a (dp+1)).2=true→∀t1 h1,Ac S h0 h1→I (Ck stp r a (dp+1)).1 h1→Kp [1,3,20,21,22] t t1→k (.exit 2) t1 d h1=true)→
  ((Ck stp r a (dp+1)).2=false→∀t1 h1,Ac S h0 h1→F (Ck stp r a (dp+1)).1 h1→tg 6 t1=.bool false→k .ret t1 d h1=true)→
  iter (exec (call E (L+3) n) (L+3) fi QS) M t d h k=true:=by
 intro r;induction r with
 |nil=>intro i M t a h hr hi hM hD hP hb K0 hI e2 e3 n2 n3 nS g1 g3 g26 g27 g28 hk hf;obtain ⟨M,rfl⟩:=pM M;have hi':(i<s.length)=False:=eq_false (by simp at hi;omega);rw[Ab,QS];refine Tst (J3 g27 g28 hi') ?_;exact hk rfl _ _ K0 hI (by simp -implicitDefEqProofs only[Kp,kpB,Nat.reduceEqDiff,↓reduceIte])
 |cons x r ih=>
  intro i M t a h hr hi hM hD hP hb K0 hI e2 e3 n2 n3 nS g1 g3 g26 g27 g28 hk hf;obtain ⟨M,rfl⟩:=pM M;simp only[List.length_cons] at hi hM;simp only[Bq] at hD;simp only[Av] at hb;have hi':(i<s.length)=True:=eT;have e1:=fun c h=>Dr (c:=c) (h:=h) (Ak hr);have e5:Am .i64 (.ofNat (dp+1))=.ofNat (dp+1):=Ah tO;have K1:Ae h (h.upd (nxt h) (.cells x.cells)).bump:=(Ae.refl h).new _;have l7:=x.cells_length;rw[Ab,QS];refine Tst (J12 g1 g3 g26 g27 g28 hi' e1 @Bu @AX e3 @Ax e5) ?_;refine hW x a (dp+1) _ _ (dg hD tO) (hP x (by simp)) tO hdp tO (Y.stab a _ _ nS hI K1) ?_ ?_ (Nat.lt_of_lt_of_le n2 K1.nx) (Nat.lt_of_lt_of_le n3 K1.nx) (fun b hb=>Nat.lt_of_lt_of_le (nS b hb) K1.nx) (fun h1 K2 hI1=>?_)
  ·rw[K1.old _ n2];exact e2
  ·rw[K1.old _ n3];exact e3
  ·have K3:Ac S h h1:=K1.but.trans K2;simp only[Ck] at hk hf;cases hw:(x.walk stp a (dp+1)).2
   ·rw[hw,if_neg (by simp)] at hI1;simp only[hw,Bool.false_eq_true,if_false] at hf;refine AV ?_;exact hf trivial _ _ (K0.trans K3) hI1 Af
   ·rw[hw,if_pos rfl] at hI1;simp only[hw,if_true] at hk hf;refine Sst g28 ?_;refine ih (i+1) _ _ _ _ (Ai hr) tO tO (dg hD tO) (fun y hy=>hP y (by simp [hy])) tO (K0.trans K3) hI1 ?_ ?_ (K3.lt n2) (K3.lt n3) (fun b hb=>K3.lt (nS b hb)) ?_ ?_ ?_ ?_ ?_ (fun hy t1 h1 K4 hI4 kp=>hk hy t1 h1 K4 hI4 (Kp.trans (by simp -implicitDefEqProofs only[Kp,kpB,Nat.reduceEqDiff,↓reduceIte]) kp)) hf
    ·rw[K3.old _ n2 hs2];exact e2
    ·rw[K3.old _ n3 hs3];exact e3
    ·exact Ssc g1
    ·exact Ssc g3
    ·exact Ssc g26
    ·exact Ssc g27
    ·exact Af
theorem DZ {B b:Aa} (hB:B=b):iter (exec C L fi B) (n+1) t d h k=exec C L fi b t d h (Dd (fun t' d' h'=>iter (exec C L fi B) n t' d' h' k) k):=by subst hB;rfl
theorem Mv (hE:Fns E) (Y:JP E L N S l0 stp I F P) (hs2:b2∉S) (hs3:b3∉S) (hP:∀k n g db dc dd s lb lc l mb mc m,P (.mk k n g db dc dd s lb lc l mb mc m)→(∀y∈l,P y)∧∀y∈m,P y) (hL9:L≤9223372036854775807)
  {q:Nat} (hn:N≤n) (hih:∀q',q=q'+1→QZ E L n S l0 b2 b3 stp I F P q'):QZ E L (n+1) S l0 b2 b3 stp I F P q:=by
 intro x s dp h kc hD hPx hb hdq hd1 hI e2 e3 n2 n3 nS hk;have K1:Ae h (h.upd (nxt h) (.cells x.cells)).bump:=(Ae.refl h).new _;have l7:=x.cells_length;obtain ⟨B,hB⟩:∃B,B=Nl:=⟨_,rfl⟩
 rw[Ag hE.f426,AcD,Abb,mC,mB,mA,mz];refine Sst (J2 e2 @Ax) ?_;refine Y.round s _ x dp n _ hn hd1 tO hPx hb (fun b hb=>Nat.lt_of_lt_of_le (nS b hb) K1.nx) (Y.stab s _ _ nS hI K1) (fun h1 K2 hI1=>?_);have K3:Ac S h h1:=K1.but.trans K2;cases hr:(stp s x dp).2
 ·rw[hr,if_neg (by simp)] at hI1;have e:x.walk stp s dp=((stp s x dp).1,false):=by cases x;rw[Va.walk,hr,if_neg (by simp)]
  rw[e] at hk;refine AV ?_;exact hk _ K3 (by simpa using hI1)
 ·rw[hr,if_pos rfl] at hI1;obtain ⟨kind,nn,neg,db,dc,dd,ss,lb,lc,l,mb,mc,m⟩:=x;obtain ⟨hPl,hPm⟩:=hP _ _ _ _ _ _ _ _ _ _ _ _ _ hPx;simp only[Va.dep] at hD;simp only[Va.bulk] at hb;have hll:l.length≤Av l:=AL l;have hml:m.length≤Av m:=AL m;have hq:∃q',q=q'+1:=by
   rcases hD with h1|⟨h1,h2⟩
   ·exact ⟨q-1,by omega⟩
   ·by_cases hd:51≤dp
    ·rw[h1 _ _ _ hd] at hr;cases hr
    ·exact ⟨q-1,by omega⟩
  obtain ⟨q',rfl⟩:=hq;have hW:=hih q' rfl;have hDl:wR stp q' (dp+1) (Bq l):=by
   rcases hD with h1|⟨h1,h2⟩
   ·exact .inl tO
   ·exact .inr ⟨h1,by omega⟩
  have hDm:wR stp q' (dp+1) (Bq m):=by
   rcases hD with h1|⟨h1,h2⟩
   ·exact .inl tO
   ·exact .inr ⟨h1,by omega⟩
  rw[Va.walk,hr,if_pos rfl] at hk;have n1:=K2.nx;simp only[nB] at n1;have hnS:nxt h∉S:=fun hm=>by have:=nS _ hm;omega
  have m4:=K2.old (nxt h) tN hnS;simp -implicitDefEqProofs (disch:=exact tD) only[sB,Va.cells] at m4;refine Sst (J2 m4 @Ad) ?_;have e1:Am .i64 (.ofNat 1)=.ofNat 1:=rfl;have e5:Am .i64 (.ofNat 2)=.ofNat 2:=rfl;have K4:Ac S h (h1.upd (nxt h1) (.cells [slR lb lc (AC l) l.length,slR mb mc (AC m) m.length])).bump:=K3.new _;have hI4:=Y.stab _ _ _ (fun b hb=>K3.lt (nS b hb)) hI1 ((Ae.refl h1).new (.cells [slR lb lc (AC l) l.length,slR mb mc (AC m) m.length]));rw[←hB,DZ hB,Nl];refine Tst @Ad ?_;refine bV hE Y hs2 hs3 hW (b:=lb) (cp:=lc) (dp:=dp) (s:=l) tO tO (h0:=(h1.upd (nxt h1) (.cells [slR lb lc (AC l) l.length,slR mb mc (AC m) m.length])).bump) l 0 _ _ _ _ rfl tO tO hDl hPl tO (.refl _ _) hI4 ?_ ?_ (K4.lt n2) (K4.lt n3) (fun b hb=>K4.lt (nS b hb)) ?_ ?_ ?_ ?_ ?_ (fun hy t5 h5 K5 hI5 kp=>?_) (fun hf t5 h5 K5 hF5 g6=>?_)
  ·rw[K4.old _ n2 hs2];exact e2
  ·rw[K4.old _ n3 hs3];exact e3
  ·exact Af
  ·exact Af
  ·exact Af
  ·exact Af
  ·exact Af
  ·rw[hy,if_pos rfl] at hk;have hnS1:nxt h1∉S:=fun hm=>by have:=nS _ hm;omega
   have m5:=K5.old (nxt h1) tN hnS1;simp -implicitDefEqProofs (disch:=exact tD) only[sB] at m5;have K6:=K4.trans K5;have g1:=kp 1 (by simp);have g3:=kp 3 (by simp);have g20:=kp 20 (by simp);have g21:=kp 21 (by simp);have g22:=kp 22 (by simp);simp -implicitDefEqProofs (disch:=exact tD) only[sB,↓reduceIte,Nat.reduceEqDiff] at g1 g3 g20 g21 g22;refine Sst (J2 g22 e1) ?_;rw[DZ hB,Nl];refine Tst (J4 g20 g21 m5 @Ad) ?_;refine bV hE Y hs2 hs3 hW (b:=mb) (cp:=mc) (dp:=dp) (s:=m) tO tO (h0:=h5) m 0 _ _ _ _ rfl tO tO hDm hPm tO (.refl _ _) hI5 ?_ ?_ (K6.lt n2) (K6.lt n3) (fun b hb=>K6.lt (nS b hb)) ?_ ?_ ?_ ?_ ?_ (fun hy t7 h7 K7 hI7 kp=>?_) (fun hf t7 h7 K7 hF7 g6=>?_)
   ·rw[K6.old _ n2 hs2];exact e2
   ·rw[K6.old _ n3 hs3];exact e3
   ·exact Ssc g1
   ·exact Ssc g3
   ·exact Af
   ·exact Af
   ·exact Af
   ·have q21:=kp 21 (by simp);have q22:=kp 22 (by simp);simp -implicitDefEqProofs (disch:=exact tD) only[sB,↓reduceIte,Nat.reduceEqDiff,g21] at q21 q22;refine Sst (J2 q22 e5) ?_;rw[DZ hB,Nl];refine Tst (J2 q21 @Nat.lt_irrefl) ?_;rw[hy] at hk;exact hk _ (K6.trans K7) (by rw[if_pos rfl];exact hI7)
   ·rw[hf] at hk;refine Sst g6 ?_;exact hk _ (K6.trans K7) (by rw[if_neg (by simp)];exact hF7)
  ·rw[hf,if_neg (by simp)] at hk;refine Sst g6 ?_;exact hk _ (K4.trans K5) (by simpa using hF5)
theorem qd (hE : Fns E) (Y : JP E L N S l0 stp I F P) (hs2 : b2 ∉ S) (hs3 : b3 ∉ S) (hP : ∀ k n g db dc dd s lb lc l mb mc m, P (.mk k n g db dc dd s lb lc l mb mc m) → (∀ y ∈ l, P y) ∧ ∀ y ∈ m, P y) (hL9 : L ≤ 9223372036854775807) :
    ∀ (q n : Nat), N + q + 1 ≤ n → QZ E L n S l0 b2 b3 stp I F P q := by
  intro q
  induction q with
  | zero =>
    intro n hn
    obtain ⟨n, rfl⟩ : ∃ m, n = m + 1 := ⟨n - 1, by omega⟩
    exact Mv hE Y hs2 hs3 hP hL9 tO (fun q' e => by omega)
  | succ q ih =>
    intro n hn
    obtain ⟨n, rfl⟩ : ∃ m, n = m + 1 := ⟨n - 1, by omega⟩
    exact Mv hE Y hs2 hs3 hP hL9 (by omega) (fun q' e => by obtain rfl : q' = q := tO; exact ih n tO)
theorem dV (hE:Fns E) {x:Va}:call E (L+1) (n+1) (.fn 193) [.agg x.cells] none h kc=kc (.ret (.fn 295 [] [.ptr (nxt h) 0])) none (h.upd (nxt h) (.cells x.cells)).bump:=by rw[Ag hE.f277,AcM,Abk,nh,nf];exact Af
theorem dT (hE:Fns E) (hP:∀k n g db dc dd s lb lc l mb mc m,P (.mk k n g db dc dd s lb lc l mb mc m)→(∀y∈l,P y)∧∀y∈m,P y) (hL9:L≤9223372036854775807) {b1:K} {x:Va} (m1:blk h b1=.cells x.cells) (hb1:b1.num<(nxt h).num)
  (Y:JP E L N S l0 stp I F P) {s:σ} {q:Nat} (hD:wR stp q 1 x.dep) (hPx:P x) (hb:x.bulk≤L) (hq:q≤59) (hn:N+q+2≤n) (nS:∀b∈S,b.num<(nxt h).num) (hI:I s h)
  (hk:∀h',Ac S h h'→(if (x.walk stp s 1).2=true then I (x.walk stp s 1).1 h' else F (x.walk stp s 1).1 h')→∀v,kc (.ret v) none h'=true):
  call E (L+3) n (.fn 295) [.yld l0,.ptr b1 0] none h kc=true:=by
 obtain ⟨n,rfl⟩:∃m,n=m+1:=⟨n-1,by omega⟩
 have l7:=x.cells_length;rw[Ag hE.f425,AcE,Abc,mG,mF,mE];refine Sst (J3 @AX m1 @Ax) ?_;have K1:Ae h (((h.upd (nxt h) (.cells [.yld l0])).upd (nxt h).succ (.cells [.fn 296 [] [.ptr (nxt h) 0,.ptr (nxt h).succ 0]])).bump.bump):=kO;refine qd hE Y (b2:=nxt h) (b3:=(nxt h).succ) (fun hm=>by have:=nS _ hm;omega) (fun hm=>by have:=nS _ hm;rw[K.num_succ] at this;omega) hP hL9 q n tO x s 1 _ _ hD hPx hb tO tO (Y.stab s _ _ nS hI K1) ?_ ?_ tN tN (fun b hb=>Nat.lt_of_lt_of_le (nS b hb) K1.nx) (fun h2 K2 hI2=>?_)
 ·exact Af
 ·exact Af
 ·refine AV ?_;exact hk _ (K1.but.trans K2) hI2 _
end
end Go.AJ
namespace Go.AJ
open Go
def C0 (s:Nat×Nat) (_:Va) (d:Nat):(Nat×Nat)×Bool:=((s.1+1,max s.2 d),!(decide (8000<s.1+1)||decide (50<d)))
def HM (x:Va):Nat×Nat:=(x.walk C0 (0,0) 1).1
def KO (x:Va):Bool:= !decide (8000<(HM x).1)&& !decide (50<(HM x).2)
mutual
theorem Ul:∀(x:Va) (s:Nat×Nat) (d:Nat),(x.walk C0 s d).2=true→d+x.dep≤(x.walk C0 s d).1.2+1∧s.2≤(x.walk C0 s d).1.2
 |.mk k n g db dc dd ss lb lc l mb mc m,s,d,h=>by
  rw[Va.walk] at h⊢;cases h1:(C0 s (.mk k n g db dc dd ss lb lc l mb mc m) d).2
  ·simp only[h1,Bool.false_eq_true,if_false] at h
  ·simp only[h1,if_true] at h⊢;cases h2:(Ck C0 l (C0 s (.mk k n g db dc dd ss lb lc l mb mc m) d).1 (d+1)).2
   ·simp only[h2,Bool.false_eq_true,if_false] at h
   ·simp only[h2,if_true] at h⊢;have a1:=JQ l _ (d+1) h2;have a2:=JQ m _ (d+1) h;have e1:d≤(C0 s (.mk k n g db dc dd ss lb lc l mb mc m) d).1.2:=Nat.le_max_right _ _;have e2:s.2≤(C0 s (.mk k n g db dc dd ss lb lc l mb mc m) d).1.2:=Nat.le_max_left _ _;rw[Va.dep];omega
theorem JQ:∀(l:List Va) (s:Nat×Nat) (d:Nat),(Ck C0 l s d).2=true→(l= []∨d+Bq l≤(Ck C0 l s d).1.2+1)∧s.2≤(Ck C0 l s d).1.2∧(Bq l=0∨d+Bq l≤(Ck C0 l s d).1.2+1)
 | [],s,d,h=>by rw[Ck];exact ⟨.inl rfl,Nat.le_refl _,.inl rfl⟩
 |x::l,s,d,h=>by
  rw[Ck] at h⊢;cases h1:(x.walk C0 s d).2
  ·simp only[h1,Bool.false_eq_true,if_false] at h
  ·simp only[h1,if_true] at h⊢;have a1:=Ul x s d h1;have a2:=JQ l _ d h;rw[Bq];omega
end
mutual
theorem Um:∀(x:Va) (s:Nat×Nat) (d:Nat),(x.walk C0 s d).2=false→8000<(x.walk C0 s d).1.1∨50<(x.walk C0 s d).1.2
 |.mk k n g db dc dd ss lb lc l mb mc m,s,d,h=>by
  rw[Va.walk] at h⊢;cases h1:(C0 s (.mk k n g db dc dd ss lb lc l mb mc m) d).2
  ·rw[if_neg (by simp)];simp only[C0,Bool.not_eq_false',Bool.or_eq_true,decide_eq_true_eq] at h1⊢;omega
  ·simp only[h1,if_true] at h⊢;cases h2:(Ck C0 l (C0 s (.mk k n g db dc dd ss lb lc l mb mc m) d).1 (d+1)).2
   ·rw[if_neg (by simp)];exact JS l _ (d+1) h2
   ·simp only[h2,if_true] at h⊢;exact JS m _ (d+1) h
theorem JS:∀(l:List Va) (s:Nat×Nat) (d:Nat),(Ck C0 l s d).2=false→8000<(Ck C0 l s d).1.1∨50<(Ck C0 l s d).1.2
 | [],s,d,h=>by rw[Ck] at h;cases h
 |x::l,s,d,h=>by
  rw[Ck] at h⊢;cases h1:(x.walk C0 s d).2
  ·rw[if_neg (by simp)];exact Um x s d h1
  ·simp only[h1,if_true] at h⊢;exact JS l _ d h
end
theorem KN {x:Va} (h:KO x=true):x.dep≤50:=by
 have h1:¬8000<(x.walk C0 (0,0) 1).1.1:=fun e=>by rw[KO,HM,decide_eq_true e] at h;simp at h
 have h2:¬50<(x.walk C0 (0,0) 1).1.2:=fun e=>by rw[KO,HM,decide_eq_true e] at h;simp at h
 cases h3:(x.walk C0 (0,0) 1).2
 ·have:=Um x _ _ h3;omega
 ·have:=Ul x _ _ h3;omega
section
variable {E:Env} {L n N:Nat} {h:Hp} {kc:KC} {t:T V} {d:Dc} {k:KE} {fi:FI} {c:KV} {C:As}
def He:Aa:=(.reg [⟨some (K.of 11),none,.mv (.t (K.of 15))⟩])
def Hc:Aa:=(.block 1 (.seq
   (.reg [⟨some (K.of 16),none,.load1 (.t (K.of 8))⟩,
   ⟨some (K.of 17),none,.ibin .add (.t (K.of 16)) (.c (vI 1))⟩,
   ⟨none,none,.store (.t (K.of 8)) (.t (K.of 17)) 1⟩])
   (.seq
   (.reg [⟨some (K.of 18),none,.load1 (.t (K.of 9))⟩,
   ⟨some (K.of 19),none,.mv (.t (K.of 11))⟩,
   ⟨some (K.of 20),none,.mxn true (.t (K.of 18)) [(.t (K.of 19))]⟩,
   ⟨none,none,.store (.t (K.of 9)) (.t (K.of 20)) 1⟩])
   (.seq
   (.reg [⟨some (K.of 21),none,.load1 (.t (K.of 8))⟩,
   ⟨some (K.of 22),none,.load1 (.t (K.of 4))⟩,
   ⟨some (K.of 23),none,.ibin .gtr (.t (K.of 21)) (.t (K.of 22))⟩,
   ⟨some (K.of 24),none,.mv (.t (K.of 23))⟩,
   ⟨some (K.of 25),some ((K.of 24),false),.mv (.t (K.of 11))⟩,
   ⟨some (K.of 26),some ((K.of 24),false),.load1 (.t (K.of 5))⟩,
   ⟨some (K.of 27),some ((K.of 24),false),.ibin .gtr (.t (K.of 25)) (.t (K.of 26))⟩,
   ⟨some (K.of 28),none,.pick (.t (K.of 24)) (.c (.bool true)) (.t (K.of 27))⟩])
   (.cond (.t (K.of 28))
   (.exit 0)
   .skip)))))
theorem U5:mJ=(.seq
 (.reg [⟨some (K.of 12),none,.loadN (.t (K.of 3)) 7⟩,
   ⟨some (K.of 13),none,.call 193 [(.t (K.of 12))]⟩])
 (.block 0 (.range (.t (K.of 13)) [(K.of 14),(K.of 15)] He Hc))):=rfl
structure AdD (A B:Aa) (l b4 b5 b8 b9 D:K) (T0:T V) (s:Nat×Nat) (h:Hp):Prop where
 hl:blk h l=.loop .ready .none 294 T0 [K.of 14,K.of 15] A B D
 h4:blk h b4=.cells [vI 8000]
 h5:blk h b5=.cells [vI 50]
 h8:blk h b8=.cells [vI s.1]
 h9:blk h b9=.cells [vI s.2]
 n4:b4.num<(nxt h).num
 n5:b5.num<(nxt h).num
 m1:s.1≤8000
 m2:s.2≤60
structure AdF (A B:Aa) (l b8 b9 D:K) (T0:T V) (s:Nat×Nat) (h:Hp):Prop where
 hl:blk h l=.loop .done (.exit 0) 294 T0 [K.of 14,K.of 15] A B D
 h8:blk h b8=.cells [vI s.1]
 h9:blk h b9=.cells [vI s.2]
theorem bN {a b:Nat}:(if decide (a<b)=true then Int.ofNat b else Int.ofNat a)=Int.ofNat (max a b):=by
 by_cases e:a<b
 ·rw[if_pos (by simpa using e),Nat.max_eq_right tO]
 ·rw[if_neg (by simpa using e),Nat.max_eq_left tO]
theorem Ug (hE:Fns E) {A B:Aa} (hA:A=He) (hB:B=Hc) {l b4 b5 b8 b9 D:K} {T0:T V} (g4:tg 4 T0=.ptr b4 0) (g5:tg 5 T0=.ptr b5 0) (g8:tg 8 T0=.ptr b8 0) (g9:tg 9 T0=.ptr b9 0)
  (q1:l.num≠b8.num) (q2:l.num≠b9.num) (q3:b8.num≠b9.num) (q4:b4.num≠l.num∧b4.num≠b8.num∧b4.num≠b9.num) (q5:b5.num≠l.num∧b5.num≠b8.num∧b5.num≠b9.num):
  JP E L 1 [l,b8,b9] l C0 (AdD A B l b4 b5 b8 b9 D T0) (AdF A B l b8 b9 D T0) (fun _=>True) where
 stab s h h' hS hI K:=⟨(K.old _ (hS _ (by simp))).trans hI.hl,(K.old _ hI.n4).trans hI.h4,(K.old _ hI.n5).trans hI.h5,(K.old _ (hS _ (by simp))).trans hI.h8,(K.old _ (hS _ (by simp))).trans hI.h9,Nat.lt_of_lt_of_le hI.n4 K.nx,Nat.lt_of_lt_of_le hI.n5 K.nx,hI.m1,hI.m2⟩
 round s h x d n kc hn hd1 hd hP hb hS hI hk:=by
  obtain ⟨n,rfl⟩:∃m,n=m+1:=⟨n-1,by omega⟩
  obtain ⟨a,b⟩:=s;have i1:=hI.h8;have i2:=hI.h9;have i3:=hI.hl;have i4:=hI.h4;have i5:=hI.h5;have m1:=hI.m1;have m2:=hI.m2;simp only at i1 i2 m1 m2;have sl:=hS l (by simp);have s8:=hS b8 (by simp);have s9:=hS b9 (by simp);have e1:Am .i64 (.ofNat (a+1))=.ofNat (a+1):=Ah tO;rw[JH i3 hE.f424];have kb:Ac [l,b8,b9] h (((h.upd l (.loop .busy .none 294 T0 [K.of 14,K.of 15] A B D)).upd b8 (.cells [vI (a+1)])).upd b9 (.cells [vI (max b d)])):=
   (((Ac.refl _ h).put (.inr (by simp)) _).put (.inr (by simp)) _).put (.inr (by simp)) _
  by_cases c1:8000<a+1
  ·have es:C0 (a,b) x d=((a+1,max b d),false):=by simp only[C0,c1,decide_true,Bool.true_or,Bool.not_true]
   rw[es] at hk;simp -implicitDefEqProofs (disch:=exact tD) only[↓sD,sB,↓reduceIte,Nat.reduceEqDiff,reduceCtorEq,Da i3,EH hA,EH hB,He,Hc,g4,g8,g9,i1,i2,i4,e1,bN,c1,decide_true];rw[HQ (st:=.busy) (j:=.none) (f:=294) (t0:=T0) (ps:= [K.of 14,K.of 15]) (a:=A) (b0:=B) (D:=D) Af];refine hk _ (kb.put (.inr (by simp)) _) ?_;rw[if_neg (by simp)];refine ⟨?_,?_,?_⟩<;>simp -implicitDefEqProofs (disch:=exact tD) only[sB]
  ·by_cases c2:50<d
   ·have es:C0 (a,b) x d=((a+1,max b d),false):=by simp only[C0,c2,decide_true,Bool.or_true,Bool.not_true]
    rw[es] at hk;simp -implicitDefEqProofs (disch:=exact tD) only[↓sD,sB,↓reduceIte,Nat.reduceEqDiff,reduceCtorEq,Da i3,EH hA,EH hB,He,Hc,g4,g5,g8,g9,i1,i2,i4,i5,e1,bN,c1,c2,decide_true,decide_false];rw[HQ (st:=.busy) (j:=.none) (f:=294) (t0:=T0) (ps:= [K.of 14,K.of 15]) (a:=A) (b0:=B) (D:=D) Af];refine hk _ (kb.put (.inr (by simp)) _) ?_;rw[if_neg (by simp)];refine ⟨?_,?_,?_⟩<;>simp -implicitDefEqProofs (disch:=exact tD) only[sB]
   ·have es:C0 (a,b) x d=((a+1,max b d),true):=by simp only[C0,c1,c2,decide_false,Bool.or_false,Bool.not_false]
    rw[es] at hk;simp -implicitDefEqProofs (disch:=exact tD) only[↓sD,sB,↓reduceIte,Nat.reduceEqDiff,Da i3,EH hA,EH hB,He,Hc,g4,g5,g8,g9,i1,i2,i4,i5,e1,bN,c1,c2,decide_false];rw[FV (st:=.busy) (j:=.none) (f:=294) (t0:=T0) (ps:= [K.of 14,K.of 15]) (a:=A) (b0:=B) (D:=D) Af];refine hk _ (kb.put (.inr (by simp)) _) ?_;rw[if_pos rfl];obtain ⟨q6,q7,q8⟩:=q4;obtain ⟨q9,q10,q11⟩:=q5;have hn4:=hI.n4;have hn5:=hI.n5;refine ⟨?_,?_,?_,?_,?_,?_,?_,?_,?_⟩
    ·exact Af
    ·exact Ssc i4
    ·exact Ssc i5
    ·exact Af
    ·exact Af
    ·((try simp only[nB]);omega)
    ·((try simp only[nB]);omega)
    ·simp only;omega
    ·simp only;omega
end
end Go.AJ
namespace Go.AJ
open Go
section
variable {E:Env} {L n N:Nat} {h:Hp} {kc:KC} {t:T V} {d:Dc} {k:KE} {fi:FI} {c:KV} {C:As}
theorem uK (hE:Fns E) (hL9:L≤9223372036854775807) {x:Va} (hb:x.bulk≤L) (hn:60≤n)
  (hk:∀h1,Ae h h1→kc (.ret (.tup [.int .i64 (.ofNat (HM x).1),.int .i64 (.ofNat (HM x).2)])) none h1=true):
  call E (L+3) (n+1) (.fn 294) [.agg x.cells,vI 8000,vI 50] none h kc=true:=by
 obtain ⟨n,rfl⟩:∃m,n=m+1:=⟨n-1,by omega⟩
 have l7:=x.cells_length;rw[Ag hE.f424,AcF,Abd,mL,mK,U5,mI];simp -implicitDefEqProofs (disch:=first|assumption|((try simp only[dB]);first|done|omega)) only[↓sD,sB,↓reduceIte,Nat.reduceEqDiff,reduceCtorEq,Nat.reduceAdd,Ax,dV hE,AX];obtain ⟨T0,hT⟩:∃T0:T V,T0=T.ins und (V.fn 295 [] [V.ptr (nxt h).succ.succ.succ.succ.succ 0]) (K.of 13)
     (T.ins und (V.agg x.cells) (K.of 12)
      (T.ins und (V.ptr (nxt h).succ.succ.succ.succ 0) (K.of 9)
       (T.ins und (V.ptr (nxt h).succ.succ.succ 0) (K.of 8)
        (T.ins und (V.int IntKind.i64 (Int.ofNat 0)) (K.of 7)
         (T.ins und (V.int IntKind.i64 (Int.ofNat 0)) (K.of 6)
          (T.ins und (V.ptr (nxt h).succ.succ 0) (K.of 5)
           (T.ins und (V.ptr (nxt h).succ 0) (K.of 4)
            (T.ins und (V.ptr (nxt h) 0) (K.of 3)
             (T.ins und (V.int IntKind.i64 (Int.ofNat 50)) (K.of 2)
              (T.ins und (V.int IntKind.i64 (Int.ofNat 8000)) (K.of 1)
               (T.ins und (V.agg x.cells) (K.of 0) T.l))))))))))):=⟨_,rfl⟩
 rw[←hT];have g4:tg 4 T0=.ptr (nxt h).succ 0:=by rw[hT];simp -implicitDefEqProofs (disch:=exact tD) only[sB,↓reduceIte,Nat.reduceEqDiff]
 have g5:tg 5 T0=.ptr (nxt h).succ.succ 0:=by rw[hT];simp -implicitDefEqProofs (disch:=exact tD) only[sB,↓reduceIte,Nat.reduceEqDiff]
 have g8:tg 8 T0=.ptr (nxt h).succ.succ.succ 0:=by rw[hT];simp -implicitDefEqProofs (disch:=exact tD) only[sB,↓reduceIte,Nat.reduceEqDiff]
 have g9:tg 9 T0=.ptr (nxt h).succ.succ.succ.succ 0:=by rw[hT];simp -implicitDefEqProofs (disch:=exact tD) only[sB,↓reduceIte,Nat.reduceEqDiff]
 have Y:=Ug (L:=L) hE (A:=He) (B:=Hc) rfl rfl (l:=(nxt h).succ.succ.succ.succ.succ.succ.succ) (D:=(nxt h).succ.succ.succ.succ.succ.succ) g4 g5 g8 g9 tN tN tN ⟨by ((try simp only[nB]);omega),by ((try simp only[nB]);omega),by ((try simp only[nB]);omega)⟩ ⟨by ((try simp only[nB]);omega),by ((try simp only[nB]);omega),by ((try simp only[nB]);omega)⟩;refine dT hE (fun _ _ _ _ _ _ _ _ _ _ _ _ _ _=>⟨fun _ _=>trivial,fun _ _=>trivial⟩) hL9 (x:=x) ?_ ?_ Y (s:=(0,0)) (q:=51) (.inr ⟨fun s y d' hd=>?_,by omega⟩) trivial hb tO tO ?_ ?_ (fun h1 K1 hI v=>?_)
 ·exact Af
 ·((try simp only[nB]);omega)
 ·simp only[C0,show 50<d' by omega,decide_true,Bool.or_true,Bool.not_true]
 ·intro b hb;simp only[List.mem_cons,List.not_mem_nil,or_false] at hb;rcases hb with rfl|rfl|rfl<;>((try simp only[nB]);omega)
 ·refine ⟨?_,?_,?_,?_,?_,?_,?_,?_,?_⟩<;>first|(simp -implicitDefEqProofs (disch:=exact tD) only[sB];done)|((try simp only[nB]);omega)
 ·have n1:=K1.nx;simp only[nB] at n1;have mD:=K1.old (nxt h).succ.succ.succ.succ.succ.succ tN (fun hm=>by simp only[List.mem_cons,List.not_mem_nil,or_false] at hm;rcases hm with hm|hm|hm<;>(have:=congrArg K.num hm;simp only[K.num_succ] at this;omega));simp -implicitDefEqProofs (disch:=exact tD) only[sB] at mD;have hK:∀b,b.num<(nxt h).num→blk h1 b=blk h b:=fun b hb=>by rw[K1.old b tN (fun hm=>by simp only[List.mem_cons,List.not_mem_nil,or_false] at hm;rcases hm with rfl|rfl|rfl<;>(simp only[K.num_succ] at hb;omega))];exact Af
  obtain ⟨st,j,hl,hj,m8,m9⟩:∃st j,blk h1 (nxt h).succ.succ.succ.succ.succ.succ.succ=.loop st j 294 T0 [K.of 14,K.of 15] He Hc (nxt h).succ.succ.succ.succ.succ.succ∧(st≠.busy∧(j=.none∨j=.exit 0))∧blk h1 (nxt h).succ.succ.succ=.cells [.int .i64 (.ofNat (HM x).1)]∧blk h1 (nxt h).succ.succ.succ.succ=.cells [.int .i64 (.ofNat (HM x).2)]:=by
   cases hw:(x.walk C0 (0,0) 1).2
   ·rw[hw,if_neg (by simp)] at hI;exact ⟨_,_,hI.hl,⟨by simp,.inr rfl⟩,hI.h8,hI.h9⟩
   ·rw[hw,if_pos rfl] at hI;exact ⟨_,_,hI.hl,⟨by simp,.inl rfl⟩,hI.h8,hI.h9⟩
  rw[Gx hl hj.1];have K2:Ae h ((h1.upd (nxt h).succ.succ.succ.succ.succ.succ.succ (.loop .exhausted j 294 T0 [K.of 14,K.of 15] He Hc (nxt h).succ.succ.succ.succ.succ.succ)).upd (nxt h).succ.succ.succ.succ.succ.succ .none):=by refine ⟨by ((try simp only[nB]);omega),fun b hb=>?_⟩;rw[Cc tN,Cc tN,hK b hb]
  have hk:=hk _ K2;rcases hj.2 with rfl|rfl
  all_goals
   refine Sst (J4 g8 g9 m8 m9) ?_;rw[GG (.inl rfl) (Ssc @mD)];refine AV ?_;exact hk
theorem uP (hE:Fns E) (hL9:L≤9223372036854775807) {x:Va} (hb:x.bulk≤L) (hn:60≤n) (hk:∀h1,Ae h h1→kc (.ret (.bool (KO x))) none h1=true):
  call E (L+3) (n+2) (.fn 192) [.agg x.cells] none h kc=true:=by
 have l7:=x.cells_length;have K1:Ae h (h.upd (nxt h) (.cells x.cells)).bump:=kO;rw[Ag hE.f276,AcN,Abl,nr,np,nj];refine Sst (J2 @Ax l7) ?_;refine uK hE hL9 hb hn (fun h1 K2=>?_);have hk:=hk _ (K1.trans K2);rw[KO] at hk;by_cases c1:8000<(HM x).1<;>by_cases c2:50<(HM x).2<;>
  (simp only[c1,c2,decide_true,decide_false,Bool.not_true,Bool.not_false,Bool.and_self,Bool.and_true,Bool.and_false] at hk
   simp -implicitDefEqProofs only[↓sD,sB,↓reduceIte,Nat.reduceEqDiff,c1,c2,decide_true,decide_false];exact hk)
end
end Go.AJ
namespace Go.AJ
open Go
def eP (_:Unit) (x:Va) (_:Nat):Unit×Bool:=((),AW x)
def okV (x:Va):Bool:=KO x&&(x.walk eP () 1).2
def QV:Aa:=(.reg [⟨some (K.of 3),none,.alloc [(vI 0),(vI 0),(.bool false),.nils,(.str []),.nils,.nils]⟩,
   ⟨none,none,.store (.t (K.of 3)) (.t (K.of 9)) 7⟩])
def QN:Aa:=(.block 1 (.seq
   (.reg [⟨some (K.of 11),none,.loadN (.t (K.of 3)) 7⟩,
   ⟨some (K.of 12),none,.call 194 [(.t (K.of 11))]⟩,
   ⟨some (K.of 13),none,.not (.t (K.of 12))⟩])
   (.cond (.t (K.of 13))
   (.seq
   (.reg [⟨none,none,.store (.t (K.of 2)) (.c (.bool false)) 1⟩])
   .ret)
   .skip)))
theorem Ve:nN=(.seq
 (.reg [⟨some (K.of 7),none,.loadN (.t (K.of 1)) 7⟩,
   ⟨some (K.of 8),none,.call 193 [(.t (K.of 7))]⟩])
 (.block 0 (.range (.t (K.of 8)) [(K.of 9),(K.of 10)] QV QN))):=rfl
structure AdE (A B:Aa) (l b2 D:K) (T0:T V) (_:Unit) (h:Hp):Prop where
 hl:blk h l=.loop .ready .none 130 T0 [K.of 9,K.of 10] A B D
 h2:blk h b2=.cells [.bool false]
structure AdG (A B:Aa) (l b2 D:K) (T0:T V) (_:Unit) (h:Hp):Prop where
 hl:blk h l=.loop .done .ret 130 T0 [K.of 9,K.of 10] A B D
 h2:blk h b2=.cells [.bool false]
section
variable {E:Env} {L n N:Nat} {h:Hp} {kc:KC} {t:T V} {d:Dc} {k:KE} {fi:FI} {c:KV} {C:As}
theorem OE:∀{l:List Va} {y:Va},y∈l→y.dep≤Bq l
 |x::l,y,h=>by
  rw[Bq];rcases List.mem_cons.1 h with rfl|h
  ·omega
  ·have:=OE h;omega
theorem Uh (hE:Fns E) (hL9:L≤9223372036854775807) {A B:Aa} (hA:A=QV) (hB:B=QN) {l b2 D:K} {T0:T V} (g2:tg 2 T0=.ptr b2 0) (q1:l.num≠b2.num):
  JP E L 108 [l,b2] l eP (AdE A B l b2 D T0) (AdG A B l b2 D T0) (fun x=>x.dep≤50) where
 stab s h h' hS hI K:=⟨(K.old _ (hS _ (by simp))).trans hI.hl,(K.old _ (hS _ (by simp))).trans hI.h2⟩
 round s h x d n kc hn hd1 hd hP hb hS hI hk:=by
  obtain ⟨n,rfl⟩:∃m,n=m+4:=⟨n-4,by omega⟩
  have i1:=hI.h2;have i3:=hI.hl;have l7:=x.cells_length;have sl:=hS l (by simp);have s2:=hS b2 (by simp);rw[show n+4=(n+3)+1 from rfl,JH i3 hE.f160];simp -implicitDefEqProofs (disch:=exact tD) only[↓sD,sB,↓reduceIte,Nat.reduceEqDiff,EH hA,QV,Bu,AX];rw[Da (j:=.none) (f:=130) (t0:=T0) (ps:= [K.of 9,K.of 10]) (a:=A) (b0:=B) (D:=D) (Ssc i3)];simp -implicitDefEqProofs (disch:=first|assumption|((try simp only[dB]);first|done|omega)) only[↓sD,sB,↓reduceIte,Nat.reduceAdd,EH hB,QN,Ax];refine uO hE hL9 (D:=50) tO hP hb (fun h1 K1=>?_);have n1:=K1.nx;simp only[nB] at n1;have m3:=K1.old l tN;have m2:=K1.old b2 tN;simp -implicitDefEqProofs (disch:=exact tD) only[sB,i1] at m3 m2;have kb:Ac [l,b2] h h1:=Ac.trans (((Ac.refl _ h).new (.cells x.cells)).put (b:=l) (.inr (by simp)) (.loop .busy .none 130 T0 [K.of 9,K.of 10] A B D)) (by simpa only[CT] using K1.but);have es:eP s x d=((),AW x):=rfl;rw[es] at hk;cases hf:AW x
  ·simp only[hf] at hk;refine Sst (J2 g2 m2) ?_;rw[Rq (st:=.busy) (j:=.none) (f:=130) (t0:=T0) (ps:= [K.of 9,K.of 10]) (a:=A) (b0:=B) (D:=D) (Ssc m3)];refine hk _ ((kb.put (.inr (by simp)) _).put (.inr (by simp)) _) ?_;simp only[Bool.false_eq_true,if_false];refine ⟨?_,?_⟩<;>simp -implicitDefEqProofs (disch:=exact tD) only[sB]
  ·simp only[hf] at hk;refine AV ?_;rw[FV (st:=.busy) (j:=.none) (f:=130) (t0:=T0) (ps:= [K.of 9,K.of 10]) (a:=A) (b0:=B) (D:=D) (by simp -implicitDefEqProofs (disch:=exact tD) only[m3])];refine hk _ (kb.put (.inr (by simp)) _) ?_;simp only[if_true];refine ⟨?_,?_⟩
   ·exact Af
   ·exact Ssc m2
theorem dW (hE:Fns E) (hL9:L≤9223372036854775807) {x:Va} (hb:x.bulk≤L) (hn:170≤n) (hk:∀h1,Ae h h1→kc (.ret (.bool (okV x))) none h1=true):
  call E (L+3) (n+1) (.fn 130) [.agg x.cells] none h kc=true:=by
 obtain ⟨n,rfl⟩:∃m,n=m+2:=⟨n-2,by omega⟩
 have l7:=x.cells_length;have K0:Ae h (((h.upd (nxt h) (.cells x.cells)).upd (nxt h).succ (.cells [.bool false])).bump.bump):=kO;rw[Ag hE.f160,AcR,Abp,nQ,nP,Ve,nM];refine Sst @Ax ?_;refine uP hE hL9 hb tO (fun h1 K1=>?_);have n1:=K1.nx;simp only[nB] at n1;have m1:=K1.old (nxt h) tN;have m2:=K1.old (nxt h).succ tN;simp -implicitDefEqProofs (disch:=exact tD) only[sB] at m1 m2;cases hf:KO x
 ·have e:okV x=false:=by rw[okV,hf,Bool.false_and]
  rw[e] at hk;refine Sst m2 ?_;refine hk _ ?_;exact (Ae.trans K0 K1).put tN _
 ·have e:okV x=(x.walk eP () 1).2:=by rw[okV,hf,Bool.true_and]
  rw[e] at hk;simp -implicitDefEqProofs (disch:=first|assumption|((try simp only[dB]);first|done|omega)) only[↓sD,sB,↓reduceIte,Nat.reduceEqDiff,Nat.reduceAdd,m1,Ax,dV hE];obtain ⟨T0,hT⟩:∃T0:T V,T0=T.ins und (V.fn 295 [] [V.ptr (nxt h1) 0]) (K.of 8)
         (T.ins und (V.agg x.cells) (K.of 7)
          (T.ins und (V.bool false) (K.of 6)
           (T.ins und (V.bool true) (K.of 5)
            (T.ins und (V.agg x.cells) (K.of 4)
             (T.ins und (V.ptr (nxt h).succ 0) (K.of 2)
              (T.ins und (V.ptr (nxt h) 0) (K.of 1) (T.ins und (V.agg x.cells) (K.of 0) T.l))))))):=⟨_,rfl⟩
  rw[←hT];have g2:tg 2 T0=.ptr (nxt h).succ 0:=by rw[hT];simp -implicitDefEqProofs (disch:=exact tD) only[sB,↓reduceIte,Nat.reduceEqDiff]
  have Y:=Uh (L:=L) hE hL9 (A:=QV) (B:=QN) rfl rfl (l:=(nxt h1).succ.succ) (D:=(nxt h1).succ) g2 tN;refine dT hE (fun _ _ _ _ _ _ _ _ _ l _ _ m hd=>⟨fun y hy=>?_,fun y hy=>?_⟩) hL9 (x:=x) ?_ ?_ Y (s:=()) (q:=50) (.inl (KN hf)) (KN hf) hb tO tO ?_ ?_ (fun h3 K3 hI v=>?_)
  ·simp only[Va.dep] at hd;have:=OE hy;omega
  ·simp only[Va.dep] at hd;have:=OE hy;omega
  ·exact Af
  ·((try simp only[nB]);omega)
  ·intro b hb;simp only[List.mem_cons,List.not_mem_nil,or_false] at hb;rcases hb with rfl|rfl<;>((try simp only[nB]);omega)
  ·refine ⟨?_,?_⟩<;>simp -implicitDefEqProofs (disch:=exact tD) only[sB,m2]
  ·have n3:=K3.nx;simp only[nB] at n3;have mD:=K3.old (nxt h1).succ tN (fun hm=>by simp only[List.mem_cons,List.not_mem_nil,or_false] at hm;rcases hm with hm|hm<;>(have:=congrArg K.num hm;simp only[K.num_succ] at this;omega));simp -implicitDefEqProofs (disch:=exact tD) only[sB] at mD;have hK:∀b,b.num<(nxt h).num→blk h3 b=blk h b:=fun b hb=>by rw[K3.old b tN (fun hm=>by simp only[List.mem_cons,List.not_mem_nil,or_false] at hm;rcases hm with rfl|rfl<;>(simp only[K.num_succ] at hb n1;omega))];have:=(K0.trans K1).old b hb;exact Ssc @this
   cases hw:(x.walk eP () 1).2
   ·rw[hw,if_neg (by simp)] at hI;have hl:=hI.hl;have h2:=hI.h2;rw[hw] at hk;rw[Gx hl (by simp)];refine AV ?_;rw[GG (.inl rfl) (Ssc @mD)];refine Sst (J2 g2 h2) ?_;refine hk _ ⟨by ((try simp only[nB]);omega),fun b hb=>?_⟩;rw[Cc tN,Cc tN,hK b hb]
   ·rw[hw,if_pos rfl] at hI;have hl:=hI.hl;have h2:=hI.h2;rw[hw] at hk;rw[Gx hl (by simp)];refine Sst (J2 g2 h2) ?_;rw[GG (.inl rfl) (Ssc @mD)];refine Sst g2 ?_;refine hk _ ⟨by ((try simp only[nB]);omega),fun b hb=>?_⟩;rw[Cc tN,Cc tN,Cc tN,hK b hb]
theorem uX (hE:Fns E) (hL9:L≤9223372036854775807) {x:Va} (hb:x.bulk≤L) (hn:170≤n) (hk:∀h1,Ae h h1→kc (.ret (vI (if okV x=true then 0 else 4))) none h1=true):
  call E (L+3) (n+2) (.fn 88) [.agg x.cells] none h kc=true:=by
 have l7:=x.cells_length;have K0:Ae h (h.upd (nxt h) (.cells x.cells)).bump:=kO;rw[Ag hE.f101,AcY,Abw,oA,oz,oy];refine Sst (J2 @Ax l7) ?_;refine dW hE hL9 hb hn (fun h1 K1=>?_);have hk:=hk _ (K0.trans K1);cases hf:okV x
 ·rw[hf,if_neg (by simp)] at hk;simp -implicitDefEqProofs only[↓sD,sB,↓reduceIte];exact hk
 ·rw[hf,if_pos rfl] at hk;simp -implicitDefEqProofs only[↓sD,sB,↓reduceIte];exact hk
theorem uY (hE:Fns E) (hL9:L≤9223372036854775807) {x:Va} (hb:x.bulk≤L) (hn:170≤n) (hk:∀h1,Ae h h1→kc (.ret (.bool (!okV x))) none h1=true):
  call E (L+3) (n+3) (.fn 87) [.agg x.cells] none h kc=true:=by
 have l7:=x.cells_length;have K0:Ae h (h.upd (nxt h) (.cells x.cells)).bump:=kO;rw[Ag hE.f100,AcZ,Abx,oD,oC];refine Sst (J2 @Ax l7) ?_;refine uX hE hL9 hb hn (fun h1 K1=>?_);have hk:=hk _ (K0.trans K1);cases hf:okV x
 ·rw[hf] at hk;simp -implicitDefEqProofs only[↓sD,sB,↓reduceIte,reduceCtorEq,decide_false];exact hk
 ·rw[hf] at hk;simp -implicitDefEqProofs only[↓sD,sB,↓reduceIte];exact hk
theorem tM (hE:Fns E) (hL9:L≤9223372036854775807) {b:Bool} {cp:Nat} {s:List Va} (hn:170≤n) (hs:s.length≤9223372036854775807) {h0:Hp}:∀(r:List Va) (i M:Nat) (t:T V) (h:Hp),s.drop i=r→i+r.length=s.length→r.length+1≤M→Av r≤L→Ae h0 h→
  tg 0 t=slR b cp (AC s) s.length→tg 1 t=.fn 87 [] []→tg 7 t=vI s.length→tg 8 t=vI i→
  (r.all okV=true→∀t1 h1,Ae h0 h1→k (.exit 0) t1 d h1=true)→(r.all okV=false→∀t1 j h1,Ae h0 h1→tg 4 t1=vI j→k .ret t1 d h1=true)→
  iter (exec (call E (L+3) (n+3)) (L+3) fi IH) M t d h k=true:=by
 intro r;induction r with
 |nil=>intro i M t h hr hi hM hb K0 g0 g1 g5 g6 hk hf;obtain ⟨M,rfl⟩:=pM M;have hi':(i<s.length)=False:=eq_false (by simp at hi;omega);rw[Ab,IH];refine Tst (J3 g5 g6 hi') ?_;exact hk rfl _ _ K0
 |cons x r ih=>
  intro i M t h hr hi hM hb K0 g0 g1 g5 g6 hk hf;obtain ⟨M,rfl⟩:=pM M;simp only[List.length_cons] at hi hM;simp only[Av] at hb;have hi':(i<s.length)=True:=eT;have e1:=fun c h=>Dr (c:=c) (h:=h) (Ak hr);simp only[List.all_cons] at hk hf;rw[Ab,IH];refine Tst (J6 g0 g1 g5 g6 hi' e1) ?_;refine uY hE hL9 tO hn (fun h1 K1=>?_);cases h2:okV x
  ·refine AV ?_;refine hf (by rw[h2];rfl) _ i _ (K0.trans K1) ?_;exact Af
  ·refine Sst g6 ?_;rw[h2,Bool.true_and] at hk hf;refine ih (i+1) _ _ _ (Ai hr) tO tO tO (K0.trans K1) ?_ ?_ ?_ ?_ hk hf
   ·exact Ssc g0
   ·exact Ssc g1
   ·exact Ssc g5
   ·exact Af
theorem zQ (hE:Fns E) (hL9:L≤9223372036854775807) {b:Bool} {cp:Nat} {s:List Va} (hn:170≤n) (hb:Av s≤L) (hk:∀h1,Ae h h1→kc (.ret (.bool (!s.all okV))) none h1=true):
  call E (L+3) (n+5) (.fn 86) [slR b cp (AC s) s.length,.fn 87 [] []] none h kc=true:=by
 have hl:=AL s;rw[Ag hE.f99,c99,r99,r6,r5];refine AV ?_;rw[Ag hE.f159,AaJ,AaB,Vh,Vg,Vf];refine Sst @Ad ?_;refine tM hE hL9 (b:=b) (cp:=cp) (s:=s) hn tO (h0:=h) s 0 _ _ _ rfl tO tO hb (.refl h) ?_ ?_ ?_ ?_ (fun hy t1 h1 K1=>?_) (fun hf t1 j h1 K1 g4=>?_)
 ·exact Af
 ·exact Af
 ·exact Af
 ·exact Af
 ·have hk:=hk _ K1;rw[hy] at hk;simp -implicitDefEqProofs only[↓sD,sB,↓reduceIte,BG];exact hk
 ·have hk:=hk _ K1;rw[hf] at hk;simp -implicitDefEqProofs only[↓sD,sB,↓reduceIte,g4,Nat.not_lt_zero,decide_false];exact hk
end
end Go.AJ
