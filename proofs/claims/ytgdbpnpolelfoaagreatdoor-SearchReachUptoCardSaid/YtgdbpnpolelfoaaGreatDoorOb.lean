/- An order of the states. -/
import Derived.Test.YtgdbpnpolelfoaaGreatDoorWc
import Derived.Test.YtgdbpnpolelfoaaGreatDoorOa
import Derived.Test.YtgdbpnpolelfoaaGreatDoorWd
set_option linter.all false
namespace Go.AJ
open Go
mutual
theorem Va.cmp_enc:∀x y:Va,x.cmp y=0→x.enc=y.enc
 |.mk k n g ab ac d s lb lc l mb mc m,.mk k' n' g' ab' ac' d' s' lb' lc' l' mb' mc' m',h=>by rw[Va.cmp_or] at h;simp only[Ek] at h;obtain ⟨⟨h1,h2⟩,⟨h3,h4⟩,⟨h5,h6⟩,h7,h8⟩:=h;obtain rfl:=CJ.1 h1;obtain rfl:=CJ.1 h2;obtain ⟨rfl,rfl⟩:=cmpNum_zero h3;obtain rfl:=Hv h4;rw[Va.enc,Va.enc,J0 l l' (lens h5) h6,J0 m m' (lens h7) h8,lens h5]
theorem J0:∀l m:List Va,l.length=m.length→Ea l m=0→Fc l=Fc m
 | [],[],_,_=>rfl
 |x::l,y::m,hl,h=>by rw[Cp,Ek] at h;rw[Fc,Fc,Va.cmp_enc x y h.1,J0 l m (by simpa using hl) h.2]
 | [],_::_,h,_=>by simp at h
 |_::_,[],h,_=>by simp at h
end
theorem cmpL_key:∀l m:List Va,l.length=m.length→Ea l m=0→Hj l=Hj m
 | [],[],_,_=>rfl
 |x::l,y::m,hl,h=>by rw[Cp,Ek] at h;rw[Hj,Hj,Va.cmp_enc x y h.1,cmpL_key l m (by simpa using hl) h.2]
 | [],_::_,h,_=>by simp at h
 |_::_,[],h,_=>by simp at h
theorem keyN_same {l m:List Va} (hl:l.length=m.length) (h:Ea l m=0):Ic l=Ic m:=by rw[Ic,Ic,cmpL_key l m hl h]
theorem BQ {a b:Nat} (h:AQ a=AQ b):a=b:=by
 unfold AQ at h;injection h with _ h
 exact Int.ofNat.inj h
theorem byteAt0 (n:Nat):HE n 0=n%256:=by show Nat.div n (Nat.pow 2 (min (8*0) 64))%256=_;rw[show Nat.pow 2 (min (8*0) 64)=1 from rfl,show Nat.div n 1=n/1 from rfl,Nat.div_one]
theorem byteAt1 (n:Nat):HE n 1=n/256%256:=rfl
theorem byteAt2 (n:Nat):HE n 2=n/65536%256:=rfl
theorem byteAt3 (n:Nat):HE n 3=n/16777216%256:=rfl
theorem numB1 {a b:Nat} {r r':List V} (ha:a<256) (hb:b<256) (h:D9 a 1++r=D9 b 1++r'):a=b∧r=r':=by simp only[D9,byteAt0,List.cons_append,List.nil_append,List.cons.injEq] at h;have:=BQ h.1;exact ⟨by omega,h.2⟩
theorem numB2 {a b:Nat} {r r':List V} (ha:a<65536) (hb:b<65536) (h:D9 a 2++r=D9 b 2++r'):a=b∧r=r':=by simp only[D9,byteAt0,byteAt1,List.cons_append,List.nil_append,List.cons.injEq] at h;have h1:=BQ h.1;have h2:=BQ h.2.1;exact ⟨by omega,h.2.2⟩
theorem numB4 {a b:Nat} {r r':List V} (ha:a<4294967296) (hb:b<4294967296) (h:D9 a 4++r=D9 b 4++r'):a=b∧r=r':=by simp only[D9,byteAt0,byteAt1,byteAt2,byteAt3,List.cons_append,List.nil_append,List.cons.injEq] at h;have h1:=BQ h.1;have h2:=BQ h.2.1;have h3:=BQ h.2.2.1;have h4:=BQ h.2.2.2.1;exact ⟨by omega,h.2.2.2.2⟩
theorem Jc:∀{s s':List Nat} {r r':List V},s.length=s'.length→s.map AQ++r=s'.map AQ++r'→s=s'∧r=r'
 | [],[],_,_,_,h=>⟨rfl,h⟩
 |x::s,y::s',r,r',hl,h=>by simp only[List.map_cons,List.cons_append,List.cons.injEq] at h;obtain ⟨h1,h2⟩:=Jc (by simpa using hl) h.2;exact ⟨by rw[BQ h.1,h1],h2⟩
 | [],_::_,_,_,h,_=>by simp at h
 |_::_,[],_,_,h,_=>by simp at h
theorem I4 {x:Int} (h:Gk x=false):0≤x∧x<1000000000:=by simp only[Gk,Bool.or_eq_false_iff,Ck,decide_eq_false_iff_not,Int.ofNat_eq_natCast,Bool.not_eq_false',decide_eq_true_eq] at h;omega
theorem IT:∀{s s':List Int} {r r':List V},s.length=s'.length→s.any Gk=false→s'.any Gk=false→(s.flatMap fun x=>D9 x.toNat 4)++r=(s'.flatMap fun x=>D9 x.toNat 4)++r'→s=s'∧r=r'
 | [],[],_,_,_,_,_,h=>⟨rfl,h⟩
 |x::s,y::s',r,r',hl,hx,hy,h=>by simp only[List.any_cons,Bool.or_eq_false_iff] at hx hy;simp only[List.flatMap_cons,List.append_assoc] at h;have h1:=I4 hx.1;have h2:=I4 hy.1;obtain ⟨e,h⟩:=numB4 tO tO h;obtain ⟨h3,h4⟩:=IT (by simpa using hl) hx.2 hy.2 h;exact ⟨by rw[h3,show x=y by omega],h4⟩
 | [],_::_,_,_,h,_,_,_=>by simp at h
 |_::_,[],_,_,h,_,_,_=>by simp at h
theorem form_of {k n:Int} {g db:Bool} {dc:Nat} {d:List Int} {s:List Nat} {lb:Bool} {lc:Nat} {l:List Va} {mb:Bool} {mc:Nat} {m:List Va} (h:AM (.mk k n g db dc d s lb lc l mb mc m)=true):
  (k=1∧(n=0∨n=1)∧g=false∧d= []∧s= []∧l= []∧m= [])∨(k=2∧n=0∧d.any Gk=false∧d.length≤40∧s= []∧l= []∧m= [])∨
  (k=3∧n=0∧g=false∧d= []∧s.length≤200∧l= []∧m= [])∨(k=4∧n=0∧g=false∧d= []∧s.length≤40∧l= []∧m= [])∨
  (k=5∧n=0∧g=false∧d= []∧s= []∧l.length≤4000∧m= [])∨(k=6∧n=0∧g=false∧d= []∧s= []∧l.length≤4000∧m.length=l.length):=by
 have z:∀{a b:List Va},a.length+b.length=0→a= []∧b= []:=fun e=>⟨List.length_eq_zero_iff.1 tO,List.length_eq_zero_iff.1 tO⟩
 unfold AM at h;simp only[Ay,Int.ofNat_eq_natCast] at h;by_cases k1:k=1
 ·refine .inl ?_;rw[if_pos (by simpa using k1)] at h;simp only[Bool.and_eq_true,Bool.or_eq_true,Bool.not_eq_true',Bool.or_eq_false_iff,Ay,BV,decide_eq_true_eq,decide_eq_false_iff_not] at h;obtain ⟨⟨⟨h1,h2,h3⟩,h4⟩,h5⟩:=h;exact ⟨k1,by simpa using h1,h2,List.length_eq_zero_iff.1 tO,h4,z h5⟩
 refine .inr ?_;rw[if_neg (by simpa using k1)] at h;by_cases k2:k=2
 ·refine .inl ?_;rw[if_pos (by simpa using k2)] at h;simp only[Bool.and_eq_true,Bool.not_eq_true',Ay,BV,decide_eq_true_eq,decide_eq_false_iff_not,C6] at h;obtain ⟨⟨⟨⟨⟨⟨h1,_⟩,_⟩,h2⟩,h3⟩,h4⟩,h5⟩:=h;exact ⟨k2,by simpa using h3,h2,by omega,h4,z h5⟩
 refine .inr ?_;rw[if_neg (by simpa using k2)] at h;by_cases k3:k=3
 ·refine .inl ?_;rw[if_pos (by simpa using k3)] at h;simp only[Bool.and_eq_true,Bool.not_eq_true',Bool.or_eq_false_iff,Ay,decide_eq_true_eq,decide_eq_false_iff_not,CH] at h;obtain ⟨⟨⟨h1,h2,h3⟩,h4⟩,_,h5⟩:=h;exact ⟨k3,by simpa using h1,h2,List.length_eq_zero_iff.1 tO,h5,z tO⟩
 refine .inr ?_;rw[if_neg (by simpa using k3)] at h;by_cases k4:k=4
 ·refine .inl ?_;rw[if_pos (by simpa using k4)] at h;simp only[Bool.and_eq_true,Bool.not_eq_true',Bool.or_eq_false_iff,Ay,decide_eq_true_eq,decide_eq_false_iff_not] at h;obtain ⟨⟨⟨h1,h2,h3⟩,h4⟩,h5⟩:=h;refine ⟨k4,by simpa using h1,h2,List.length_eq_zero_iff.1 tO,?_,z tO⟩;unfold Bv at h5;cases s with
  |nil=>simp
  |cons x s=>simp only[Bool.and_eq_true,Bool.not_eq_true',decide_eq_false_iff_not] at h5;omega
 refine .inr ?_;rw[if_neg (by simpa using k4)] at h;by_cases k5:k=5
 ·refine .inl ?_;rw[if_pos (by simpa using k5)] at h;simp only[Bool.and_eq_true,Bool.not_eq_true',Bool.or_eq_false_iff,Ay,BV,decide_eq_true_eq,decide_eq_false_iff_not,BZ] at h;obtain ⟨⟨⟨⟨h1,h2,h3⟩,h4⟩,_,h5⟩,h6⟩:=h;exact ⟨k5,by simpa using h1,h2,List.length_eq_zero_iff.1 tO,h4,by omega,List.length_eq_zero_iff.1 h6⟩
 refine .inr ?_;rw[if_neg (by simpa using k5)] at h;by_cases k6:k=6
 ·rw[if_pos (by simpa using k6)] at h;simp only[Bool.and_eq_true,Bool.not_eq_true',Bool.or_eq_false_iff,Ay,BV,decide_eq_true_eq,decide_eq_false_iff_not,BZ] at h;obtain ⟨⟨⟨⟨h1,h2,h3⟩,h4⟩,_,h5⟩,h6⟩:=h;exact ⟨k6,by simpa using h1,h2,List.length_eq_zero_iff.1 tO,h4,by omega,h6⟩
 ·rw[if_neg (by simpa using k6)] at h;cases h
theorem Va.good_mk {k n:Int} {g db:Bool} {dc:Nat} {d:List Int} {s:List Nat} {lb:Bool} {lc:Nat} {l:List Va} {mb:Bool} {mc:Nat} {m:List Va} (h:(Va.mk k n g db dc d s lb lc l mb mc m).good=true):
  AM (.mk k n g db dc d s lb lc l mb mc m)=true∧BB l=true∧BB m=true:=by
 rw[Va.good,Bool.and_eq_true,Bool.and_eq_true] at h;exact ⟨h.1.1,h.1.2,h.2⟩
theorem enc1 {n:Int} {g ab:Bool} {ac:Nat} {d:List Int} {s:List Nat} {lb:Bool} {lc:Nat} {l:List Va} {mb:Bool} {mc:Nat} {m:List Va}:(Va.mk 1 n g ab ac d s lb lc l mb mc m).enc= [AQ 1,AQ (if n=0 then 0 else 1)]:=by rw[Va.enc,if_pos (show Ar 1 (.ofNat 1)=true from rfl)];rw[DT];simp only[decide_eq_true_eq];rfl
theorem enc2 {n:Int} {g ab:Bool} {ac:Nat} {d:List Int} {s:List Nat} {lb:Bool} {lc:Nat} {l:List Va} {mb:Bool} {mc:Nat} {m:List Va}:(Va.mk 2 n g ab ac d s lb lc l mb mc m).enc= [AQ 2,AQ (if g=true then 1 else 0)]++(D9 d.length 1++d.flatMap fun x=>D9 x.toNat 4):=by rw[Va.enc,if_neg (show¬Ar 2 (.ofNat 1)=true by decide),if_pos (show Ar 2 (.ofNat 2)=true from rfl)]
theorem enc3 {n:Int} {g ab:Bool} {ac:Nat} {d:List Int} {s:List Nat} {lb:Bool} {lc:Nat} {l:List Va} {mb:Bool} {mc:Nat} {m:List Va}:(Va.mk 3 n g ab ac d s lb lc l mb mc m).enc=AQ 3::(D9 s.length 1++s.map AQ):=by rw[Va.enc,if_neg (show¬Ar 3 (.ofNat 1)=true by decide),if_neg (show¬Ar 3 (.ofNat 2)=true by decide),if_pos (show Ar 3 (.ofNat 3)=true from rfl)]
theorem enc4 {n:Int} {g ab:Bool} {ac:Nat} {d:List Int} {s:List Nat} {lb:Bool} {lc:Nat} {l:List Va} {mb:Bool} {mc:Nat} {m:List Va}:(Va.mk 4 n g ab ac d s lb lc l mb mc m).enc=AQ 4::(D9 s.length 1++s.map AQ):=by rw[Va.enc,if_neg (show¬Ar 4 (.ofNat 1)=true by decide),if_neg (show¬Ar 4 (.ofNat 2)=true by decide),if_neg (show¬Ar 4 (.ofNat 3)=true by decide),if_pos (show Ar 4 (.ofNat 4)=true from rfl)]
theorem enc5 {n:Int} {g ab:Bool} {ac:Nat} {d:List Int} {s:List Nat} {lb:Bool} {lc:Nat} {l:List Va} {mb:Bool} {mc:Nat} {m:List Va}:(Va.mk 5 n g ab ac d s lb lc l mb mc m).enc=AQ 5::(D9 l.length 2++(Fc l++Fc m)):=by rw[Va.enc,if_neg (show¬Ar 5 (.ofNat 1)=true by decide),if_neg (show¬Ar 5 (.ofNat 2)=true by decide),if_neg (show¬Ar 5 (.ofNat 3)=true by decide),if_neg (show¬Ar 5 (.ofNat 4)=true by decide),if_pos (show Ar 5 (.ofNat 5)=true from rfl)]
theorem enc6 {n:Int} {g ab:Bool} {ac:Nat} {d:List Int} {s:List Nat} {lb:Bool} {lc:Nat} {l:List Va} {mb:Bool} {mc:Nat} {m:List Va}:(Va.mk 6 n g ab ac d s lb lc l mb mc m).enc=AQ 6::(D9 l.length 2++(Fc l++Fc m)):=by rw[Va.enc,if_neg (show¬Ar 6 (.ofNat 1)=true by decide),if_neg (show¬Ar 6 (.ofNat 2)=true by decide),if_neg (show¬Ar 6 (.ofNat 3)=true by decide),if_neg (show¬Ar 6 (.ofNat 4)=true by decide),if_neg (show¬Ar 6 (.ofNat 5)=true by decide)]
theorem head_no {a b:Nat} {r r':List V} {P:Prop} (hab:a≠b) (h:AQ a::r=AQ b::r'):P:=by
 injection h with h _
 exact absurd (BQ h) hab
theorem F8 {a:Nat} {r r':List V} (h:AQ a::r=AQ a::r'):r=r':=by injection h
mutual
theorem Va.enc_inj:∀(x y:Va) (r r':List V),x.good=true→y.good=true→x.enc++r=y.enc++r'→x.cmp y=0∧r=r'
 |.mk k n g ab ac d s lb lc l mb mc m,.mk k' n' g' ab' ac' d' s' lb' lc' l' mb' mc' m',r,r',hx,hy,h=>by
  obtain ⟨fx,gl,gm⟩:=Va.good_mk hx;obtain ⟨fy,gl',gm'⟩:=Va.good_mk hy;rw[Va.cmp_or];rcases form_of fx with ⟨rfl,hn,rfl,rfl,rfl,rfl,rfl⟩|⟨rfl,rfl,hb,hd,rfl,rfl,rfl⟩|⟨rfl,rfl,rfl,rfl,hs,rfl,rfl⟩|⟨rfl,rfl,rfl,rfl,hs,rfl,rfl⟩|⟨rfl,rfl,rfl,rfl,rfl,hl,rfl⟩|⟨rfl,rfl,rfl,rfl,rfl,hl,hm⟩<;>
  rcases form_of fy with ⟨rfl,hn',rfl,rfl,rfl,rfl,rfl⟩|⟨rfl,rfl,hb',hd',rfl,rfl,rfl⟩|⟨rfl,rfl,rfl,rfl,hs',rfl,rfl⟩|⟨rfl,rfl,rfl,rfl,hs',rfl,rfl⟩|⟨rfl,rfl,rfl,rfl,rfl,hl',rfl⟩|⟨rfl,rfl,rfl,rfl,rfl,hl',hm'⟩<;>
  simp only[enc1,enc2,enc3,enc4,enc5,enc6,List.cons_append,List.nil_append,List.append_assoc] at h<;>
  first
  |exact head_no (by decide) h
  |skip
  ·have h:=F8 h;injection h with h1 h2
   have h1:=BQ h1;have:n=n':=by rcases hn with rfl|rfl<;>rcases hn' with rfl|rfl<;>first|rfl|(simp at h1)
   subst this;exact ⟨by simp only[AV,Cd,Cn,CI,or00],h2⟩
  ·have h:=F8 h;injection h with h1 h2
   have h1:=BQ h1;have:g=g':=by cases g<;>cases g'<;>simp at h1<;>rfl
   subst this;obtain ⟨h3,h4⟩:=numB1 tO tO h2;obtain ⟨rfl,h5⟩:=IT h3 hb hb' h4;exact ⟨by simp only[AV,Cd,Cn,CI,or00],h5⟩
  ·obtain ⟨h3,h4⟩:=numB1 tO tO (F8 h);obtain ⟨rfl,h5⟩:=Jc h3 h4;exact ⟨by simp only[AV,Cd,Cn,CI,or00],h5⟩
  ·obtain ⟨h3,h4⟩:=numB1 tO tO (F8 h);obtain ⟨rfl,h5⟩:=Jc h3 h4;exact ⟨by simp only[AV,Cd,Cn,CI,or00],h5⟩
  ·obtain ⟨h3,h4⟩:=numB2 tO tO (F8 h);obtain ⟨h5,h6⟩:=GL l l' _ _ gl gl' h3 h4;rw[Fc,List.nil_append,List.nil_append] at h6;exact ⟨by rw[h3];simp only[AV,Cd,Cn,CI,h5,or00],h6⟩
  ·obtain ⟨h3,h4⟩:=numB2 tO tO (F8 h);obtain ⟨h5,h6⟩:=GL l l' _ _ gl gl' h3 h4;obtain ⟨h7,h8⟩:=GL m m' _ _ gm gm' tO h6;exact ⟨by rw[hm,hm',h3];simp only[AV,Cd,Cn,h5,h7,or00],h8⟩
theorem GL:∀(l m:List Va) (r r':List V),BB l=true→BB m=true→l.length=m.length→Fc l++r=Fc m++r'→Ea l m=0∧r=r'
 | [],[],r,r',_,_,_,h=>⟨rfl,h⟩
 |x::l,y::m,r,r',hl,hm,hn,h=>by rw[BB,Bool.and_eq_true] at hl hm;rw[Fc,Fc,List.append_assoc,List.append_assoc] at h;obtain ⟨h1,h2⟩:=Va.enc_inj x y _ _ hl.1 hm.1 h;obtain ⟨h3,h4⟩:=GL l m r r' hl.2 hm.2 (by simpa using hn) h2;exact ⟨by rw[Cp,h1,h3];rfl,h4⟩
 | [],_::_,_,_,_,_,h,_=>by simp at h
 |_::_,[],_,_,_,_,h,_=>by simp at h
end
theorem unB_byt:∀{a b:List V},Byt a→Byt b→a.map unB=b.map unB→a=b
 | [],[],_,_,_=>rfl
 |x::a,y::b,ha,hb,h=>by obtain ⟨m,_,rfl⟩:=ha x (by simp);obtain ⟨n,_,rfl⟩:=hb y (by simp);simp only[List.map_cons,List.cons.injEq] at h;rw[unB_byt (fun v hv=>ha v (by simp [hv])) (fun v hv=>hb v (by simp [hv])) h.2,show m=n from h.1]
 | [],_::_,_,_,h=>by simp at h
 |_::_,[],_,_,h=>by simp at h
theorem keyV_inj:∀{l m:List Va},l.all okV=true→m.all okV=true→l.length=m.length→Hj l=Hj m→Ea l m=0
 | [],[],_,_,_,_=>rfl
 |x::l,y::m,hl,hm,hn,h=>by rw[List.all_cons,Bool.and_eq_true] at hl hm;rw[Hj,Hj] at h;obtain ⟨_,h⟩:=List.append_inj h rfl;obtain ⟨h1,h2⟩:=Va.enc_inj x y _ _ (GE hl.1) (GE hm.1) h;rw[Cp,h1,keyV_inj hl.2 hm.2 (by simpa using hn) h2];rfl
 | [],_::_,_,_,h,_=>by simp at h
 |_::_,[],_,_,h,_=>by simp at h
theorem keyN_inj {l m:List Va} (hl:l.all okV=true) (hm:m.all okV=true) (hn:l.length=m.length) (h:Ic l=Ic m):Ea l m=0:=by
 rw[Ic,Ic] at h;injection h with _ h
 exact keyV_inj hl hm hn (unB_byt (GI hl) (GI hm) h)
end Go.AJ
namespace Go.AJ
open Go
def Ba:List Va→List Va→Int
 | [],[]=>0
 | [],_::_=> -1
 |_::_,[]=>1
 |x::a,y::b=>orI (x.cmp y) (Ba a b)
theorem IV:∀a:List Va,Ba a a=0
 | []=>rfl
 |x::a=>by rw[Ba,Va.cmp_refl,AY,if_pos rfl];exact IV a
theorem Dq:∀a b:List Va,Ba b a= - Ba a b
 | [],[]=>rfl
 | [],_::_=>rfl
 |_::_,[]=>rfl
 |x::a,y::b=>by rw[Ba,Ba];exact DU (Va.cmp_neg x y) fun _=>Dq a b
theorem cmpSt_sg:∀a b:List Va,Sg (Ba a b)
 | [],[]=> .inr (.inl rfl)
 | [],_::_=> .inl rfl
 |_::_,[]=> .inr (.inr rfl)
 |x::a,y::b=>by rw[Ba];exact Gw (Va.cmp_sg x y) (cmpSt_sg a b)
theorem FK:∀a b c:List Va,Tr (Ba a b) (Ba b c) (Ba a c)
 | [],[],[]=> .zero
 | [],[],_::_=>⟨fun _ _=>by rw[Ba];omega,fun _ _ h=>by rw[Ba] at h;omega⟩
 | [],_::_,[]=>⟨fun _ _=>by rw[Ba];omega,fun _ h _=>by rw[Ba] at h;omega⟩
 | [],_::_,_::_=>⟨fun _ _=>by rw[Ba];omega,fun _ _ h=>by rw[Ba] at h;omega⟩
 |_::_,[],[]=>⟨fun h=>by rw[Ba] at h;omega,fun h=>by rw[Ba] at h;omega⟩
 |_::_,[],_::_=>⟨fun h=>by rw[Ba] at h;omega,fun h=>by rw[Ba] at h;omega⟩
 |_::_,_::_,[]=>⟨fun _ h=>by rw[Ba] at h;omega,fun _ h=>by rw[Ba] at h;omega⟩
 |x::a,y::b,z::c=>by rw[Ba,Ba,Ba];exact (Va.cmp_tr x y z).or fun _ _ _=>FK a b c
theorem IU:∀{a b:List Va},Ba a b=0→a.length=b.length∧Ea a b=0
 | [],[],_=>⟨rfl,rfl⟩
 | [],_::_,h=>by rw[Ba] at h;omega
 |_::_,[],h=>by rw[Ba] at h;omega
 |x::a,y::b,h=>by rw[Ba,Ek] at h;obtain ⟨h1,h2⟩:=IU h.2;exact ⟨by simp [h1],by rw[Cp,h.1,h2];rfl⟩
theorem FL:∀{a b:List Va},a.length=b.length→Ea a b=0→Ba a b=0
 | [],[],_,_=>rfl
 | [],_::_,h,_=>by simp at h
 |_::_,[],h,_=>by simp at h
 |x::a,y::b,h,hc=>by rw[Cp,Ek] at hc;rw[Ba,hc.1,FL (by simpa using h) hc.2];rfl
def St.lt (a b:St):Prop:=Ba a.l b.l<0
def St.eqv (a b:St):Prop:=Ba a.l b.l=0
theorem St.lt_trans {a b c:St} (h1:a.lt b) (h2:b.lt c):a.lt c:=by
 unfold St.lt at*;obtain ⟨t1,t2⟩:=FK a.l b.l c.l;have h3:=t1 tO tO;have h4:=t2 tO tO;by_cases h5:Ba a.l c.l=0
 ·have:=h4 h5;omega
 ·omega
theorem St.eqv_symm {a b:St} (h:a.eqv b):b.eqv a:=by unfold St.eqv at*;have:=Dq a.l b.l;omega
theorem St.eqv_trans {a b c:St} (h1:a.eqv b) (h2:b.eqv c):a.eqv c:=by unfold St.eqv at*;have a1:=(FK a.l b.l c.l).1 tO tO;have a2:=(FK c.l b.l a.l).1 (by have:=Dq b.l c.l;omega) (by have:=Dq a.l b.l;omega);have:=Dq a.l c.l;omega
theorem St.lt_ne {a b:St} (h:a.lt b):¬a.eqv b:=by unfold St.lt at h;unfold St.eqv;omega
def mrg:List St→List St→List St
 | [],b=>b
 |x::a,[]=>x::a
 |x::a,y::b=>if Ba x.l y.l=0 then x::mrg a b else if Ba x.l y.l<0 then x::mrg a (y::b) else y::mrg (x::a) b
termination_by a b=>a.length+b.length
theorem E9 (b:List St):mrg [] b=b:=by rw[mrg]
theorem GF (a:List St):mrg a []=a:=by cases a<;>rw[mrg]
theorem mrg_cc (x y:St) (a b:List St):mrg (x::a) (y::b)=if Ba x.l y.l=0 then x::mrg a b else if Ba x.l y.l<0 then x::mrg a (y::b) else y::mrg (x::a) b:=by rw[mrg]
structure MrgOK (a b r:List St):Prop where
 mem:∀z∈r,z∈a∨z∈b
 lt:r.Pairwise St.lt
 cova:∀x∈a,∃z∈r,x.eqv z
 covb:∀x∈b,∃z∈r,x.eqv z
 len:r.length≤a.length+b.length
 all:r.length=a.length+b.length→∀x∈a,∀y∈b,¬x.eqv y
theorem St.eqv_refl (a:St):a.eqv a:=IV a.l
theorem mrg_ok:∀(N:Nat) (a b:List St),a.length+b.length≤N→a.Pairwise St.lt→b.Pairwise St.lt→MrgOK a b (mrg a b)
 |N,[],b,_,_,hb=>by rw[E9];exact ⟨fun z hz=> .inr hz,hb,fun x hx=>(by cases hx),fun x hx=>⟨x,hx,x.eqv_refl⟩,by simp,fun _ x hx=>(by cases hx)⟩
 |N,x::a,[],_,ha,_=>by rw[GF];exact ⟨fun z hz=> .inl hz,ha,fun x hx=>⟨x,hx,x.eqv_refl⟩,fun x hx=>(by cases hx),by simp,fun _ x _ y hy=>(by cases hy)⟩
 |0,x::a,y::b,h,_,_=>by simp at h
 |N+1,x::a,y::b,h,ha,hb=>by
  obtain ⟨hxa,ha'⟩:=List.pairwise_cons.1 ha;obtain ⟨hyb,hb'⟩:=List.pairwise_cons.1 hb;simp only[List.length_cons] at h;rw[mrg_cc];by_cases c0:Ba x.l y.l=0
  ·rw[if_pos c0];have M:=mrg_ok N a b tO ha' hb';have hxy:x.eqv y:=c0;have hlt:∀z∈b,x.lt z:=fun z hz=>by
    have h1:y.lt z:=hyb z hz;unfold St.lt at h1⊢;obtain ⟨t1,t2⟩:=FK x.l y.l z.l;have h3:=t1 tO tO;have h4:=t2 tO tO;by_cases h5:Ba x.l z.l=0
    ·have:=h4 h5;omega
    ·omega
   refine ⟨fun z hz=>?_,List.pairwise_cons.2 ⟨fun z hz=>?_,M.lt⟩,fun z hz=>?_,fun z hz=>?_,?_,fun e=>?_⟩
   ·rcases List.mem_cons.1 hz with rfl|hz
    ·exact .inl (by simp)
    ·exact (M.mem z hz).imp (fun h=>by simp [h]) fun h=>by simp [h]
   ·exact (M.mem z hz).elim (hxa z) (hlt z)
   ·rcases List.mem_cons.1 hz with rfl|hz
    ·exact ⟨z,by simp,z.eqv_refl⟩
    ·obtain ⟨w,hw,e⟩:=M.cova z hz;exact ⟨w,by simp [hw],e⟩
   ·rcases List.mem_cons.1 hz with rfl|hz
    ·exact ⟨x,by simp,St.eqv_symm hxy⟩
    ·obtain ⟨w,hw,e⟩:=M.covb z hz;exact ⟨w,by simp [hw],e⟩
   ·have:=M.len;simp only[List.length_cons];omega
   ·have:=M.len;simp only[List.length_cons] at e;omega
  rw[if_neg c0];by_cases c1:Ba x.l y.l<0
  ·rw[if_pos c1];have M:=mrg_ok N a (y::b) (by simp only[List.length_cons];omega) ha' hb;have hlt:∀z∈y::b,x.lt z:=fun z hz=>by
    rcases List.mem_cons.1 hz with rfl|hz
    ·exact c1
    ·exact St.lt_trans c1 (hyb z hz)
   refine ⟨fun z hz=>?_,List.pairwise_cons.2 ⟨fun z hz=>?_,M.lt⟩,fun z hz=>?_,fun z hz=>?_,?_,fun e=>?_⟩
   ·rcases List.mem_cons.1 hz with rfl|hz
    ·exact .inl (by simp)
    ·exact (M.mem z hz).imp (fun h=>by simp [h]) id
   ·exact (M.mem z hz).elim (hxa z) (hlt z)
   ·rcases List.mem_cons.1 hz with rfl|hz
    ·exact ⟨z,by simp,z.eqv_refl⟩
    ·obtain ⟨w,hw,e⟩:=M.cova z hz;exact ⟨w,by simp [hw],e⟩
   ·obtain ⟨w,hw,e⟩:=M.covb z hz;exact ⟨w,by simp [hw],e⟩
   ·have:=M.len;simp only[List.length_cons] at this⊢;omega
   ·intro z hz w hw;rcases List.mem_cons.1 hz with rfl|hz
    ·exact St.lt_ne (hlt w hw)
    ·exact M.all (by simp only[List.length_cons] at e⊢;omega) z hz w hw
  ·rw[if_neg c1];have c2:y.lt x:=by unfold St.lt;have:=Dq x.l y.l;omega
   have M:=mrg_ok N (x::a) b (by simp only[List.length_cons];omega) ha hb';have hlt:∀z∈x::a,y.lt z:=fun z hz=>by
    rcases List.mem_cons.1 hz with rfl|hz
    ·exact c2
    ·exact St.lt_trans c2 (hxa z hz)
   refine ⟨fun z hz=>?_,List.pairwise_cons.2 ⟨fun z hz=>?_,M.lt⟩,fun z hz=>?_,fun z hz=>?_,?_,fun e=>?_⟩
   ·rcases List.mem_cons.1 hz with rfl|hz
    ·exact .inr (by simp)
    ·exact (M.mem z hz).imp id fun h=>by simp [h]
   ·exact (M.mem z hz).elim (hlt z) (hyb z)
   ·obtain ⟨w,hw,e⟩:=M.cova z hz;exact ⟨w,by simp [hw],e⟩
   ·rcases List.mem_cons.1 hz with rfl|hz
    ·exact ⟨z,by simp,z.eqv_refl⟩
    ·obtain ⟨w,hw,e⟩:=M.covb z hz;exact ⟨w,by simp [hw],e⟩
   ·have:=M.len;simp only[List.length_cons] at this⊢;omega
   ·intro z hz w hw;rcases List.mem_cons.1 hw with rfl|hw
    ·exact fun e=>St.lt_ne (hlt z hz) (St.eqv_symm e)
    ·exact M.all (by simp only[List.length_cons] at e⊢;omega) z hz w hw
def srt (l:List St):List St:=if h:l.length<2 then l else mrg (srt (l.take (l.length/2))) (srt (l.drop (l.length/2)))
termination_by l.length
decreasing_by
 ·rw[List.length_take];omega
 ·rw[List.length_drop];omega
theorem Fp {l:List St} (h:l.length<2):srt l=l:=by rw[srt,dif_pos h]
theorem srt_long {l:List St} (h:¬l.length<2):srt l=mrg (srt (l.take (l.length/2))) (srt (l.drop (l.length/2))):=by rw[srt,dif_neg h]
structure SrtOK (l r:List St):Prop where
 mem:∀z∈r,z∈l
 lt:r.Pairwise St.lt
 cov:∀x∈l,∃z∈r,x.eqv z
 len:r.length≤l.length
 all:r.length=l.length↔l.Pairwise fun a b=>¬a.eqv b
theorem Ik:∀(N:Nat) (l:List St),l.length≤N→SrtOK l (srt l)
 |N,l,hN=>by
  by_cases h:l.length<2
  ·rw[Fp h];have e:l= []∨∃x,l= [x]:=by
    match l,h with
    | [],_=>exact .inl rfl
    | [x],_=>exact .inr ⟨x,rfl⟩
    |x::y::r,h=>simp at h;omega
   refine ⟨fun z hz=>hz,?_,fun x hx=>⟨x,hx,x.eqv_refl⟩,Nat.le_refl _,⟨fun _=>?_,fun _=>rfl⟩⟩<;>rcases e with rfl|⟨x,rfl⟩<;>simp
  ·match N,hN with
   |0,hN=>omega
   |N+1,hN=>
    rw[srt_long h];have A:=Ik N (l.take (l.length/2)) (by rw[List.length_take];omega);have B:=Ik N (l.drop (l.length/2)) (by rw[List.length_drop];omega);have M:=mrg_ok _ _ _ (Nat.le_refl _) A.lt B.lt;have e:l=l.take (l.length/2)++l.drop (l.length/2):=(List.take_append_drop _ _).symm;have el:l.length=(l.take (l.length/2)).length+(l.drop (l.length/2)).length:=by rw[←List.length_append,←e]
    refine ⟨fun z hz=>?_,M.lt,fun x hx=>?_,?_,⟨fun hl=>?_,fun hp=>?_⟩⟩
    ·rw[e];rcases M.mem z hz with h1|h1
     ·exact List.mem_append.2 (.inl (A.mem z h1))
     ·exact List.mem_append.2 (.inr (B.mem z h1))
    ·rw[e] at hx;rcases List.mem_append.1 hx with h1|h1
     ·obtain ⟨w,hw,e1⟩:=A.cov x h1;obtain ⟨v,hv,e2⟩:=M.cova w hw;exact ⟨v,hv,St.eqv_trans e1 e2⟩
     ·obtain ⟨w,hw,e1⟩:=B.cov x h1;obtain ⟨v,hv,e2⟩:=M.covb w hw;exact ⟨v,hv,St.eqv_trans e1 e2⟩
    ·have:=M.len;have:=A.len;have:=B.len;omega
    ·have h1:=M.len;have h2:=A.len;have h3:=B.len;have h4:=M.all tO;rw[e,List.pairwise_append];refine ⟨A.all.1 tO,B.all.1 tO,fun x hx y hy hxy=>?_⟩;obtain ⟨w,hw,e1⟩:=A.cov x hx;obtain ⟨v,hv,e2⟩:=B.cov y hy;exact h4 w hw v hv (St.eqv_trans (St.eqv_symm e1) (St.eqv_trans hxy e2))
    ·rw[e,List.pairwise_append] at hp;obtain ⟨p1,p2,p3⟩:=hp;have h2:=A.all.2 p1;have h3:=B.all.2 p2
     have key:∀(N:Nat) (a b:List St),a.length+b.length≤N→(∀x∈a,∀y∈b,¬x.eqv y)→(mrg a b).length=a.length+b.length:=by
      intro N;induction N with
      |zero=>intro a b hab _;have ea:a= []:=List.length_eq_zero_iff.1 tO;have eb:b= []:=List.length_eq_zero_iff.1 tO;subst ea eb;rw[E9];rfl
      |succ N ih=>
       intro a b hab hne;match a,b with
       | [],b=>rw[E9];simp
       |x::a,[]=>rw[GF];simp
       |x::a,y::b=>
        simp only[List.length_cons] at hab;rw[mrg_cc,if_neg (show¬Ba x.l y.l=0 from hne x (by simp) y (by simp))];by_cases c1:Ba x.l y.l<0
        ·rw[if_pos c1,List.length_cons,ih a (y::b) (by simp only[List.length_cons];omega) (fun z hz w hw=>hne z (by simp [hz]) w hw)];simp only[List.length_cons];omega
        ·rw[if_neg c1,List.length_cons,ih (x::a) b (by simp only[List.length_cons];omega) (fun z hz w hw=>hne z hz w (by simp [hw]))];simp only[List.length_cons];omega
     rw[key _ _ _ (Nat.le_refl _) (fun x hx y hy=>p3 x (A.mem x hx) y (B.mem y hy)),h2,h3];exact el.symm
end Go.AJ
