/- An order of the states. -/
import Derived.Test.YtgdbpnpolelfoaaGreatDoorWc
import Derived.Test.YtgdbpnpolelfoaaGreatDoorOa
import Derived.Test.YtgdbpnpolelfoaaGreatDoorWd
set_option linter.all false
namespace Go.AJ
open Go
mutual
theorem Va.cmp_enc:∀x y:Va,x.cmp y=0→x.enc=y.enc
 |.mk k n g ab ac d s lb lc l mb mc m,.mk k' n' g' ab' ac' d' s' lb' lc' l' mb' mc' m',h=>by rw[Va.cmp_or] at h;simp only[EB] at h;obtain ⟨⟨h1,h2⟩,⟨h3,h4⟩,⟨h5,h6⟩,h7,h8⟩:=h;obtain rfl:=CY.1 h1;obtain rfl:=CY.1 h2;obtain ⟨rfl,rfl⟩:=OJ h3;obtain rfl:=Ir h4;rw[Va.enc,Va.enc,KY l l' (Ud h5) h6,KY m m' (Ud h7) h8,Ud h5]
theorem KY:∀l m:List Va,l.length=m.length→Er l m=0→FB l=FB m
 | [],[],_,_=>rfl
 |x::l,y::m,hl,h=>by rw[CG,EB] at h;rw[FB,FB,Va.cmp_enc x y h.1,KY l m (by simpa using hl) h.2]
 | [],_::_,h,_=>by simp at h
 |_::_,[],h,_=>by simp at h
end
theorem Qu:∀l m:List Va,l.length=m.length→Er l m=0→Ie l=Ie m
 | [],[],_,_=>rfl
 |x::l,y::m,hl,h=>by rw[CG,EB] at h;rw[Ie,Ie,Va.cmp_enc x y h.1,Qu l m (by simpa using hl) h.2]
 | [],_::_,h,_=>by simp at h
 |_::_,[],h,_=>by simp at h
theorem cg {l m:List Va} (hl:l.length=m.length) (h:Er l m=0):I6 l=I6 m:=by rw[I6,I6,Qu l m hl h]
theorem Cb {a b:Nat} (h:AZ a=AZ b):a=b:=by
 unfold AZ at h;injection h with _ h
 exact Int.ofNat.inj h
theorem OY (n:Nat):IB n 0=n%256:=by show Nat.div n (Nat.pow 2 (min (8*0) 64))%256=_;rw[show Nat.pow 2 (min (8*0) 64)=1 from rfl,show Nat.div n 1=n/1 from rfl,Nat.div_one]
theorem ef (n:Nat):IB n 1=n/256%256:=rfl
theorem wD (n:Nat):IB n 2=n/65536%256:=rfl
theorem wC (n:Nat):IB n 3=n/16777216%256:=rfl
theorem tj {a b:Nat} {r r':List V} (ha:a<256) (hb:b<256) (h:Ep a 1++r=Ep b 1++r'):a=b∧r=r':=by simp only[Ep,OY,List.cons_append,List.nil_append,List.cons.injEq] at h;have:=Cb h.1;exact ⟨by omega,h.2⟩
theorem zc {a b:Nat} {r r':List V} (ha:a<65536) (hb:b<65536) (h:Ep a 2++r=Ep b 2++r'):a=b∧r=r':=by simp only[Ep,OY,ef,List.cons_append,List.nil_append,List.cons.injEq] at h;have h1:=Cb h.1;have h2:=Cb h.2.1;exact ⟨by omega,h.2.2⟩
theorem AbD {a b:Nat} {r r':List V} (ha:a<4294967296) (hb:b<4294967296) (h:Ep a 4++r=Ep b 4++r'):a=b∧r=r':=by simp only[Ep,OY,ef,wD,wC,List.cons_append,List.nil_append,List.cons.injEq] at h;have h1:=Cb h.1;have h2:=Cb h.2.1;have h3:=Cb h.2.2.1;have h4:=Cb h.2.2.2.1;exact ⟨by omega,h.2.2.2.2⟩
theorem JU:∀{s s':List Nat} {r r':List V},s.length=s'.length→s.map AZ++r=s'.map AZ++r'→s=s'∧r=r'
 | [],[],_,_,_,h=>⟨rfl,h⟩
 |x::s,y::s',r,r',hl,h=>by simp only[List.map_cons,List.cons_append,List.cons.injEq] at h;obtain ⟨h1,h2⟩:=JU (by simpa using hl) h.2;exact ⟨by rw[Cb h.1,h1],h2⟩
 | [],_::_,_,_,h,_=>by simp at h
 |_::_,[],_,_,h,_=>by simp at h
theorem JM {x:Int} (h:GR x=false):0≤x∧x<1000000000:=by simp only[GR,Bool.or_eq_false_iff,Cw,decide_eq_false_iff_not,Int.ofNat_eq_natCast,Bool.not_eq_false',decide_eq_true_eq] at h;omega
theorem JG:∀{s s':List Int} {r r':List V},s.length=s'.length→s.any GR=false→s'.any GR=false→(s.flatMap fun x=>Ep x.toNat 4)++r=(s'.flatMap fun x=>Ep x.toNat 4)++r'→s=s'∧r=r'
 | [],[],_,_,_,_,_,h=>⟨rfl,h⟩
 |x::s,y::s',r,r',hl,hx,hy,h=>by simp only[List.any_cons,Bool.or_eq_false_iff] at hx hy;simp only[List.flatMap_cons,List.append_assoc] at h;have h1:=JM hx.1;have h2:=JM hy.1;obtain ⟨e,h⟩:=AbD tO tO h;obtain ⟨h3,h4⟩:=JG (by simpa using hl) hx.2 hy.2 h;exact ⟨by rw[h3,show x=y by omega],h4⟩
 | [],_::_,_,_,h,_,_,_=>by simp at h
 |_::_,[],_,_,h,_,_,_=>by simp at h
theorem cK {k n:Int} {g db:Bool} {dc:Nat} {d:List Int} {s:List Nat} {lb:Bool} {lc:Nat} {l:List Va} {mb:Bool} {mc:Nat} {m:List Va} (h:AW (.mk k n g db dc d s lb lc l mb mc m)=true):
  (k=1∧(n=0∨n=1)∧g=false∧d= []∧s= []∧l= []∧m= [])∨(k=2∧n=0∧d.any GR=false∧d.length≤40∧s= []∧l= []∧m= [])∨
  (k=3∧n=0∧g=false∧d= []∧s.length≤200∧l= []∧m= [])∨(k=4∧n=0∧g=false∧d= []∧s.length≤40∧l= []∧m= [])∨
  (k=5∧n=0∧g=false∧d= []∧s= []∧l.length≤4000∧m= [])∨(k=6∧n=0∧g=false∧d= []∧s= []∧l.length≤4000∧m.length=l.length):=by
 have z:∀{a b:List Va},a.length+b.length=0→a= []∧b= []:=fun e=>⟨List.length_eq_zero_iff.1 tO,List.length_eq_zero_iff.1 tO⟩
 unfold AW at h;simp only[Au,Int.ofNat_eq_natCast] at h;by_cases k1:k=1
 ·refine .inl ?_;rw[if_pos (by simpa using k1)] at h;simp only[Bool.and_eq_true,Bool.or_eq_true,Bool.not_eq_true',Bool.or_eq_false_iff,Au,Cj,decide_eq_true_eq,decide_eq_false_iff_not] at h;obtain ⟨⟨⟨h1,h2,h3⟩,h4⟩,h5⟩:=h;exact ⟨k1,by simpa using h1,h2,List.length_eq_zero_iff.1 tO,h4,z h5⟩
 refine .inr ?_;rw[if_neg (by simpa using k1)] at h;by_cases k2:k=2
 ·refine .inl ?_;rw[if_pos (by simpa using k2)] at h;simp only[Bool.and_eq_true,Bool.not_eq_true',Au,Cj,decide_eq_true_eq,decide_eq_false_iff_not,Dj] at h;obtain ⟨⟨⟨⟨⟨⟨h1,_⟩,_⟩,h2⟩,h3⟩,h4⟩,h5⟩:=h;exact ⟨k2,by simpa using h3,h2,by omega,h4,z h5⟩
 refine .inr ?_;rw[if_neg (by simpa using k2)] at h;by_cases k3:k=3
 ·refine .inl ?_;rw[if_pos (by simpa using k3)] at h;simp only[Bool.and_eq_true,Bool.not_eq_true',Bool.or_eq_false_iff,Au,decide_eq_true_eq,decide_eq_false_iff_not,CU] at h;obtain ⟨⟨⟨h1,h2,h3⟩,h4⟩,_,h5⟩:=h;exact ⟨k3,by simpa using h1,h2,List.length_eq_zero_iff.1 tO,h5,z tO⟩
 refine .inr ?_;rw[if_neg (by simpa using k3)] at h;by_cases k4:k=4
 ·refine .inl ?_;rw[if_pos (by simpa using k4)] at h;simp only[Bool.and_eq_true,Bool.not_eq_true',Bool.or_eq_false_iff,Au,decide_eq_true_eq,decide_eq_false_iff_not] at h;obtain ⟨⟨⟨h1,h2,h3⟩,h4⟩,h5⟩:=h;refine ⟨k4,by simpa using h1,h2,List.length_eq_zero_iff.1 tO,?_,z tO⟩;unfold BF at h5;cases s with
  |nil=>simp
  |cons x s=>simp only[Bool.and_eq_true,Bool.not_eq_true',decide_eq_false_iff_not] at h5;omega
 refine .inr ?_;rw[if_neg (by simpa using k4)] at h;by_cases k5:k=5
 ·refine .inl ?_;rw[if_pos (by simpa using k5)] at h;simp only[Bool.and_eq_true,Bool.not_eq_true',Bool.or_eq_false_iff,Au,Cj,decide_eq_true_eq,decide_eq_false_iff_not,Cl] at h;obtain ⟨⟨⟨⟨h1,h2,h3⟩,h4⟩,_,h5⟩,h6⟩:=h;exact ⟨k5,by simpa using h1,h2,List.length_eq_zero_iff.1 tO,h4,by omega,List.length_eq_zero_iff.1 h6⟩
 refine .inr ?_;rw[if_neg (by simpa using k5)] at h;by_cases k6:k=6
 ·rw[if_pos (by simpa using k6)] at h;simp only[Bool.and_eq_true,Bool.not_eq_true',Bool.or_eq_false_iff,Au,Cj,decide_eq_true_eq,decide_eq_false_iff_not,Cl] at h;obtain ⟨⟨⟨⟨h1,h2,h3⟩,h4⟩,_,h5⟩,h6⟩:=h;exact ⟨k6,by simpa using h1,h2,List.length_eq_zero_iff.1 tO,h4,by omega,h6⟩
 ·rw[if_neg (by simpa using k6)] at h;cases h
theorem Va.good_mk {k n:Int} {g db:Bool} {dc:Nat} {d:List Int} {s:List Nat} {lb:Bool} {lc:Nat} {l:List Va} {mb:Bool} {mc:Nat} {m:List Va} (h:(Va.mk k n g db dc d s lb lc l mb mc m).good=true):
  AW (.mk k n g db dc d s lb lc l mb mc m)=true∧BL l=true∧BL m=true:=by
 rw[Va.good,Bool.and_eq_true,Bool.and_eq_true] at h;exact ⟨h.1.1,h.1.2,h.2⟩
theorem Adx {n:Int} {g ab:Bool} {ac:Nat} {d:List Int} {s:List Nat} {lb:Bool} {lc:Nat} {l:List Va} {mb:Bool} {mc:Nat} {m:List Va}:(Va.mk 1 n g ab ac d s lb lc l mb mc m).enc= [AZ 1,AZ (if n=0 then 0 else 1)]:=by rw[Va.enc,if_pos (show Aq 1 (.ofNat 1)=true from rfl)];rw[Ec];simp only[decide_eq_true_eq];rfl
theorem Adw {n:Int} {g ab:Bool} {ac:Nat} {d:List Int} {s:List Nat} {lb:Bool} {lc:Nat} {l:List Va} {mb:Bool} {mc:Nat} {m:List Va}:(Va.mk 2 n g ab ac d s lb lc l mb mc m).enc= [AZ 2,AZ (if g=true then 1 else 0)]++(Ep d.length 1++d.flatMap fun x=>Ep x.toNat 4):=by rw[Va.enc,if_neg (show¬Aq 2 (.ofNat 1)=true by decide),if_pos (show Aq 2 (.ofNat 2)=true from rfl)]
theorem Adv {n:Int} {g ab:Bool} {ac:Nat} {d:List Int} {s:List Nat} {lb:Bool} {lc:Nat} {l:List Va} {mb:Bool} {mc:Nat} {m:List Va}:(Va.mk 3 n g ab ac d s lb lc l mb mc m).enc=AZ 3::(Ep s.length 1++s.map AZ):=by rw[Va.enc,if_neg (show¬Aq 3 (.ofNat 1)=true by decide),if_neg (show¬Aq 3 (.ofNat 2)=true by decide),if_pos (show Aq 3 (.ofNat 3)=true from rfl)]
theorem Adu {n:Int} {g ab:Bool} {ac:Nat} {d:List Int} {s:List Nat} {lb:Bool} {lc:Nat} {l:List Va} {mb:Bool} {mc:Nat} {m:List Va}:(Va.mk 4 n g ab ac d s lb lc l mb mc m).enc=AZ 4::(Ep s.length 1++s.map AZ):=by rw[Va.enc,if_neg (show¬Aq 4 (.ofNat 1)=true by decide),if_neg (show¬Aq 4 (.ofNat 2)=true by decide),if_neg (show¬Aq 4 (.ofNat 3)=true by decide),if_pos (show Aq 4 (.ofNat 4)=true from rfl)]
theorem Adt {n:Int} {g ab:Bool} {ac:Nat} {d:List Int} {s:List Nat} {lb:Bool} {lc:Nat} {l:List Va} {mb:Bool} {mc:Nat} {m:List Va}:(Va.mk 5 n g ab ac d s lb lc l mb mc m).enc=AZ 5::(Ep l.length 2++(FB l++FB m)):=by rw[Va.enc,if_neg (show¬Aq 5 (.ofNat 1)=true by decide),if_neg (show¬Aq 5 (.ofNat 2)=true by decide),if_neg (show¬Aq 5 (.ofNat 3)=true by decide),if_neg (show¬Aq 5 (.ofNat 4)=true by decide),if_pos (show Aq 5 (.ofNat 5)=true from rfl)]
theorem Ads {n:Int} {g ab:Bool} {ac:Nat} {d:List Int} {s:List Nat} {lb:Bool} {lc:Nat} {l:List Va} {mb:Bool} {mc:Nat} {m:List Va}:(Va.mk 6 n g ab ac d s lb lc l mb mc m).enc=AZ 6::(Ep l.length 2++(FB l++FB m)):=by rw[Va.enc,if_neg (show¬Aq 6 (.ofNat 1)=true by decide),if_neg (show¬Aq 6 (.ofNat 2)=true by decide),if_neg (show¬Aq 6 (.ofNat 3)=true by decide),if_neg (show¬Aq 6 (.ofNat 4)=true by decide),if_neg (show¬Aq 6 (.ofNat 5)=true by decide)]
theorem ua {a b:Nat} {r r':List V} {P:Prop} (hab:a≠b) (h:AZ a::r=AZ b::r'):P:=by
 injection h with h _
 exact absurd (Cb h) hab
theorem GF {a:Nat} {r r':List V} (h:AZ a::r=AZ a::r'):r=r':=by injection h
mutual
theorem Va.enc_inj:∀(x y:Va) (r r':List V),x.good=true→y.good=true→x.enc++r=y.enc++r'→x.cmp y=0∧r=r'
 |.mk k n g ab ac d s lb lc l mb mc m,.mk k' n' g' ab' ac' d' s' lb' lc' l' mb' mc' m',r,r',hx,hy,h=>by
  obtain ⟨fx,gl,gm⟩:=Va.good_mk hx;obtain ⟨fy,gl',gm'⟩:=Va.good_mk hy;rw[Va.cmp_or];rcases cK fx with ⟨rfl,hn,rfl,rfl,rfl,rfl,rfl⟩|⟨rfl,rfl,hb,hd,rfl,rfl,rfl⟩|⟨rfl,rfl,rfl,rfl,hs,rfl,rfl⟩|⟨rfl,rfl,rfl,rfl,hs,rfl,rfl⟩|⟨rfl,rfl,rfl,rfl,rfl,hl,rfl⟩|⟨rfl,rfl,rfl,rfl,rfl,hl,hm⟩<;>
  rcases cK fy with ⟨rfl,hn',rfl,rfl,rfl,rfl,rfl⟩|⟨rfl,rfl,hb',hd',rfl,rfl,rfl⟩|⟨rfl,rfl,rfl,rfl,hs',rfl,rfl⟩|⟨rfl,rfl,rfl,rfl,hs',rfl,rfl⟩|⟨rfl,rfl,rfl,rfl,rfl,hl',rfl⟩|⟨rfl,rfl,rfl,rfl,rfl,hl',hm'⟩<;>
  simp only[Adx,Adw,Adv,Adu,Adt,Ads,List.cons_append,List.nil_append,List.append_assoc] at h<;>
  first
  |exact ua (by decide) h
  |skip
  ·have h:=GF h;injection h with h1 h2
   have h1:=Cb h1;have:n=n':=by rcases hn with rfl|rfl<;>rcases hn' with rfl|rfl<;>first|rfl|(simp at h1)
   subst this;exact ⟨by simp only[Bc,Cv,CE,CX,su],h2⟩
  ·have h:=GF h;injection h with h1 h2
   have h1:=Cb h1;have:g=g':=by cases g<;>cases g'<;>simp at h1<;>rfl
   subst this;obtain ⟨h3,h4⟩:=tj tO tO h2;obtain ⟨rfl,h5⟩:=JG h3 hb hb' h4;exact ⟨by simp only[Bc,Cv,CE,CX,su],h5⟩
  ·obtain ⟨h3,h4⟩:=tj tO tO (GF h);obtain ⟨rfl,h5⟩:=JU h3 h4;exact ⟨by simp only[Bc,Cv,CE,CX,su],h5⟩
  ·obtain ⟨h3,h4⟩:=tj tO tO (GF h);obtain ⟨rfl,h5⟩:=JU h3 h4;exact ⟨by simp only[Bc,Cv,CE,CX,su],h5⟩
  ·obtain ⟨h3,h4⟩:=zc tO tO (GF h);obtain ⟨h5,h6⟩:=Hz l l' _ _ gl gl' h3 h4;rw[FB,List.nil_append,List.nil_append] at h6;exact ⟨by rw[h3];simp only[Bc,Cv,CE,CX,h5,su],h6⟩
  ·obtain ⟨h3,h4⟩:=zc tO tO (GF h);obtain ⟨h5,h6⟩:=Hz l l' _ _ gl gl' h3 h4;obtain ⟨h7,h8⟩:=Hz m m' _ _ gm gm' tO h6;exact ⟨by rw[hm,hm',h3];simp only[Bc,Cv,CE,h5,h7,su],h8⟩
theorem Hz:∀(l m:List Va) (r r':List V),BL l=true→BL m=true→l.length=m.length→FB l++r=FB m++r'→Er l m=0∧r=r'
 | [],[],r,r',_,_,_,h=>⟨rfl,h⟩
 |x::l,y::m,r,r',hl,hm,hn,h=>by rw[BL,Bool.and_eq_true] at hl hm;rw[FB,FB,List.append_assoc,List.append_assoc] at h;obtain ⟨h1,h2⟩:=Va.enc_inj x y _ _ hl.1 hm.1 h;obtain ⟨h3,h4⟩:=Hz l m r r' hl.2 hm.2 (by simpa using hn) h2;exact ⟨by rw[CG,h1,h3];rfl,h4⟩
 | [],_::_,_,_,_,_,h,_=>by simp at h
 |_::_,[],_,_,_,_,h,_=>by simp at h
end
theorem Ur:∀{a b:List V},Byt a→Byt b→a.map unB=b.map unB→a=b
 | [],[],_,_,_=>rfl
 |x::a,y::b,ha,hb,h=>by obtain ⟨m,_,rfl⟩:=ha x (by simp);obtain ⟨n,_,rfl⟩:=hb y (by simp);simp only[List.map_cons,List.cons.injEq] at h;rw[Ur (fun v hv=>ha v (by simp [hv])) (fun v hv=>hb v (by simp [hv])) h.2,show m=n from h.1]
 | [],_::_,_,_,h=>by simp at h
 |_::_,[],_,_,h=>by simp at h
theorem Qd:∀{l m:List Va},l.all okV=true→m.all okV=true→l.length=m.length→Ie l=Ie m→Er l m=0
 | [],[],_,_,_,_=>rfl
 |x::l,y::m,hl,hm,hn,h=>by rw[List.all_cons,Bool.and_eq_true] at hl hm;rw[Ie,Ie] at h;obtain ⟨_,h⟩:=List.append_inj h rfl;obtain ⟨h1,h2⟩:=Va.enc_inj x y _ _ (Hs hl.1) (Hs hm.1) h;rw[CG,h1,Qd hl.2 hm.2 (by simpa using hn) h2];rfl
 | [],_::_,_,_,h,_=>by simp at h
 |_::_,[],_,_,h,_=>by simp at h
theorem ii {l m:List Va} (hl:l.all okV=true) (hm:m.all okV=true) (hn:l.length=m.length) (h:I6 l=I6 m):Er l m=0:=by
 rw[I6,I6] at h;injection h with _ h
 exact Qd hl hm hn (Ur (Hw hl) (Hw hm) h)
end Go.AJ
namespace Go.AJ
open Go
def AS:List Va→List Va→Int
 | [],[]=>0
 | [],_::_=> -1
 |_::_,[]=>1
 |x::a,y::b=>orI (x.cmp y) (AS a b)
theorem GN:∀a:List Va,AS a a=0
 | []=>rfl
 |x::a=>by rw[AS,Va.cmp_refl,Bb,if_pos rfl];exact GN a
theorem DJ:∀a b:List Va,AS b a= - AS a b
 | [],[]=>rfl
 | [],_::_=>rfl
 |_::_,[]=>rfl
 |x::a,y::b=>by rw[AS,AS];exact Ef (Va.cmp_neg x y) fun _=>DJ a b
theorem Qs:∀a b:List Va,Sg (AS a b)
 | [],[]=> .inr (.inl rfl)
 | [],_::_=> .inl rfl
 |_::_,[]=> .inr (.inr rfl)
 |x::a,y::b=>by rw[AS];exact Hf (Va.cmp_sg x y) (Qs a b)
theorem F9:∀a b c:List Va,Tr (AS a b) (AS b c) (AS a c)
 | [],[],[]=> .zero
 | [],[],_::_=>⟨fun _ _=>by rw[AS];omega,fun _ _ h=>by rw[AS] at h;omega⟩
 | [],_::_,[]=>⟨fun _ _=>by rw[AS];omega,fun _ h _=>by rw[AS] at h;omega⟩
 | [],_::_,_::_=>⟨fun _ _=>by rw[AS];omega,fun _ _ h=>by rw[AS] at h;omega⟩
 |_::_,[],[]=>⟨fun h=>by rw[AS] at h;omega,fun h=>by rw[AS] at h;omega⟩
 |_::_,[],_::_=>⟨fun h=>by rw[AS] at h;omega,fun h=>by rw[AS] at h;omega⟩
 |_::_,_::_,[]=>⟨fun _ h=>by rw[AS] at h;omega,fun _ h=>by rw[AS] at h;omega⟩
 |x::a,y::b,z::c=>by rw[AS,AS,AS];exact (Va.cmp_tr x y z).or fun _ _ _=>F9 a b c
theorem GM:∀{a b:List Va},AS a b=0→a.length=b.length∧Er a b=0
 | [],[],_=>⟨rfl,rfl⟩
 | [],_::_,h=>by rw[AS] at h;omega
 |_::_,[],h=>by rw[AS] at h;omega
 |x::a,y::b,h=>by rw[AS,EB] at h;obtain ⟨h1,h2⟩:=GM h.2;exact ⟨by simp [h1],by rw[CG,h.1,h2];rfl⟩
theorem Ga:∀{a b:List Va},a.length=b.length→Er a b=0→AS a b=0
 | [],[],_,_=>rfl
 | [],_::_,h,_=>by simp at h
 |_::_,[],h,_=>by simp at h
 |x::a,y::b,h,hc=>by rw[CG,EB] at hc;rw[AS,hc.1,Ga (by simpa using h) hc.2];rfl
def St.lt (a b:St):Prop:=AS a.l b.l<0
def St.eqv (a b:St):Prop:=AS a.l b.l=0
theorem St.lt_trans {a b c:St} (h1:a.lt b) (h2:b.lt c):a.lt c:=by
 unfold St.lt at*;obtain ⟨t1,t2⟩:=F9 a.l b.l c.l;have h3:=t1 tO tO;have h4:=t2 tO tO;by_cases h5:AS a.l c.l=0
 ·have:=h4 h5;omega
 ·omega
theorem St.eqv_symm {a b:St} (h:a.eqv b):b.eqv a:=by unfold St.eqv at*;have:=DJ a.l b.l;omega
theorem St.eqv_trans {a b c:St} (h1:a.eqv b) (h2:b.eqv c):a.eqv c:=by unfold St.eqv at*;have a1:=(F9 a.l b.l c.l).1 tO tO;have a2:=(F9 c.l b.l a.l).1 (by have:=DJ b.l c.l;omega) (by have:=DJ a.l b.l;omega);have:=DJ a.l c.l;omega
theorem St.lt_ne {a b:St} (h:a.lt b):¬a.eqv b:=by unfold St.lt at h;unfold St.eqv;omega
def mrg:List St→List St→List St
 | [],b=>b
 |x::a,[]=>x::a
 |x::a,y::b=>if AS x.l y.l=0 then x::mrg a b else if AS x.l y.l<0 then x::mrg a (y::b) else y::mrg (x::a) b
termination_by a b=>a.length+b.length
theorem Fy (b:List St):mrg [] b=b:=by rw[mrg]
theorem Ht (a:List St):mrg a []=a:=by cases a<;>rw[mrg]
theorem bL (x y:St) (a b:List St):mrg (x::a) (y::b)=if AS x.l y.l=0 then x::mrg a b else if AS x.l y.l<0 then x::mrg a (y::b) else y::mrg (x::a) b:=by rw[mrg]
structure Ac4 (a b r:List St):Prop where
 mem:∀z∈r,z∈a∨z∈b
 lt:r.Pairwise St.lt
 cova:∀x∈a,∃z∈r,x.eqv z
 covb:∀x∈b,∃z∈r,x.eqv z
 len:r.length≤a.length+b.length
 all:r.length=a.length+b.length→∀x∈a,∀y∈b,¬x.eqv y
theorem St.eqv_refl (a:St):a.eqv a:=GN a.l
theorem P4:∀(N:Nat) (a b:List St),a.length+b.length≤N→a.Pairwise St.lt→b.Pairwise St.lt→Ac4 a b (mrg a b)
 |N,[],b,_,_,hb=>by rw[Fy];exact ⟨fun z hz=> .inr hz,hb,fun x hx=>(by cases hx),fun x hx=>⟨x,hx,x.eqv_refl⟩,by simp,fun _ x hx=>(by cases hx)⟩
 |N,x::a,[],_,ha,_=>by rw[Ht];exact ⟨fun z hz=> .inl hz,ha,fun x hx=>⟨x,hx,x.eqv_refl⟩,fun x hx=>(by cases hx),by simp,fun _ x _ y hy=>(by cases hy)⟩
 |0,x::a,y::b,h,_,_=>by simp at h
 |N+1,x::a,y::b,h,ha,hb=>by
  obtain ⟨hxa,ha'⟩:=List.pairwise_cons.1 ha;obtain ⟨hyb,hb'⟩:=List.pairwise_cons.1 hb;simp only[List.length_cons] at h;rw[bL];by_cases c0:AS x.l y.l=0
  ·rw[if_pos c0];have M:=P4 N a b tO ha' hb';have hxy:x.eqv y:=c0;have hlt:∀z∈b,x.lt z:=fun z hz=>by
    have h1:y.lt z:=hyb z hz;unfold St.lt at h1⊢;obtain ⟨t1,t2⟩:=F9 x.l y.l z.l;have h3:=t1 tO tO;have h4:=t2 tO tO;by_cases h5:AS x.l z.l=0
    ·have:=h4 h5;omega
    ·omega
   refine ⟨fun z hz=>?_,List.pairwise_cons.2 ⟨fun z hz=>?_,M.lt⟩,fun z hz=>?_,fun z hz=>?_,?_,fun e=>?_⟩
   ·rcases List.mem_cons.1 hz with rfl|hz
    ·exact .inl (by simp)
    ·exact (M.mem z hz).imp (fun h=>by simp [h]) fun h=>by simp [h]
   ·exact (M.mem z hz).elim (hxa z) (hlt z)
   ·rcases List.mem_cons.1 hz with rfl|hz
    ·exact ⟨z,by simp,z.eqv_refl⟩
    ·obtain ⟨w,hw,e⟩:=M.cova z hz;exact ⟨w,by simp [hw],e⟩
   ·rcases List.mem_cons.1 hz with rfl|hz
    ·exact ⟨x,by simp,St.eqv_symm hxy⟩
    ·obtain ⟨w,hw,e⟩:=M.covb z hz;exact ⟨w,by simp [hw],e⟩
   ·have:=M.len;simp only[List.length_cons];omega
   ·have:=M.len;simp only[List.length_cons] at e;omega
  rw[if_neg c0];by_cases c1:AS x.l y.l<0
  ·rw[if_pos c1];have M:=P4 N a (y::b) (by simp only[List.length_cons];omega) ha' hb;have hlt:∀z∈y::b,x.lt z:=fun z hz=>by
    rcases List.mem_cons.1 hz with rfl|hz
    ·exact c1
    ·exact St.lt_trans c1 (hyb z hz)
   refine ⟨fun z hz=>?_,List.pairwise_cons.2 ⟨fun z hz=>?_,M.lt⟩,fun z hz=>?_,fun z hz=>?_,?_,fun e=>?_⟩
   ·rcases List.mem_cons.1 hz with rfl|hz
    ·exact .inl (by simp)
    ·exact (M.mem z hz).imp (fun h=>by simp [h]) id
   ·exact (M.mem z hz).elim (hxa z) (hlt z)
   ·rcases List.mem_cons.1 hz with rfl|hz
    ·exact ⟨z,by simp,z.eqv_refl⟩
    ·obtain ⟨w,hw,e⟩:=M.cova z hz;exact ⟨w,by simp [hw],e⟩
   ·obtain ⟨w,hw,e⟩:=M.covb z hz;exact ⟨w,by simp [hw],e⟩
   ·have:=M.len;simp only[List.length_cons] at this⊢;omega
   ·intro z hz w hw;rcases List.mem_cons.1 hz with rfl|hz
    ·exact St.lt_ne (hlt w hw)
    ·exact M.all (by simp only[List.length_cons] at e⊢;omega) z hz w hw
  ·rw[if_neg c1];have c2:y.lt x:=by unfold St.lt;have:=DJ x.l y.l;omega
   have M:=P4 N (x::a) b (by simp only[List.length_cons];omega) ha hb';have hlt:∀z∈x::a,y.lt z:=fun z hz=>by
    rcases List.mem_cons.1 hz with rfl|hz
    ·exact c2
    ·exact St.lt_trans c2 (hxa z hz)
   refine ⟨fun z hz=>?_,List.pairwise_cons.2 ⟨fun z hz=>?_,M.lt⟩,fun z hz=>?_,fun z hz=>?_,?_,fun e=>?_⟩
   ·rcases List.mem_cons.1 hz with rfl|hz
    ·exact .inr (by simp)
    ·exact (M.mem z hz).imp id fun h=>by simp [h]
   ·exact (M.mem z hz).elim (hlt z) (hyb z)
   ·obtain ⟨w,hw,e⟩:=M.cova z hz;exact ⟨w,by simp [hw],e⟩
   ·rcases List.mem_cons.1 hz with rfl|hz
    ·exact ⟨z,by simp,z.eqv_refl⟩
    ·obtain ⟨w,hw,e⟩:=M.covb z hz;exact ⟨w,by simp [hw],e⟩
   ·have:=M.len;simp only[List.length_cons] at this⊢;omega
   ·intro z hz w hw;rcases List.mem_cons.1 hw with rfl|hw
    ·exact fun e=>St.lt_ne (hlt z hz) (St.eqv_symm e)
    ·exact M.all (by simp only[List.length_cons] at e⊢;omega) z hz w hw
def srt (l:List St):List St:=if h:l.length<2 then l else mrg (srt (l.take (l.length/2))) (srt (l.drop (l.length/2)))
termination_by l.length
decreasing_by
 ·rw[List.length_take];omega
 ·rw[List.length_drop];omega
theorem FQ {l:List St} (h:l.length<2):srt l=l:=by rw[srt,dif_pos h]
theorem Pk {l:List St} (h:¬l.length<2):srt l=mrg (srt (l.take (l.length/2))) (srt (l.drop (l.length/2))):=by rw[srt,dif_neg h]
structure Ac2 (l r:List St):Prop where
 mem:∀z∈r,z∈l
 lt:r.Pairwise St.lt
 cov:∀x∈l,∃z∈r,x.eqv z
 len:r.length≤l.length
 all:r.length=l.length↔l.Pairwise fun a b=>¬a.eqv b
theorem Jc:∀(N:Nat) (l:List St),l.length≤N→Ac2 l (srt l)
 |N,l,hN=>by
  by_cases h:l.length<2
  ·rw[FQ h];have e:l= []∨∃x,l= [x]:=by
    match l,h with
    | [],_=>exact .inl rfl
    | [x],_=>exact .inr ⟨x,rfl⟩
    |x::y::r,h=>simp at h;omega
   refine ⟨fun z hz=>hz,?_,fun x hx=>⟨x,hx,x.eqv_refl⟩,Nat.le_refl _,⟨fun _=>?_,fun _=>rfl⟩⟩<;>rcases e with rfl|⟨x,rfl⟩<;>simp
  ·match N,hN with
   |0,hN=>omega
   |N+1,hN=>
    rw[Pk h];have A:=Jc N (l.take (l.length/2)) (by rw[List.length_take];omega);have B:=Jc N (l.drop (l.length/2)) (by rw[List.length_drop];omega);have M:=P4 _ _ _ (Nat.le_refl _) A.lt B.lt;have e:l=l.take (l.length/2)++l.drop (l.length/2):=(List.take_append_drop _ _).symm;have el:l.length=(l.take (l.length/2)).length+(l.drop (l.length/2)).length:=by rw[←List.length_append,←e]
    refine ⟨fun z hz=>?_,M.lt,fun x hx=>?_,?_,⟨fun hl=>?_,fun hp=>?_⟩⟩
    ·rw[e];rcases M.mem z hz with h1|h1
     ·exact List.mem_append.2 (.inl (A.mem z h1))
     ·exact List.mem_append.2 (.inr (B.mem z h1))
    ·rw[e] at hx;rcases List.mem_append.1 hx with h1|h1
     ·obtain ⟨w,hw,e1⟩:=A.cov x h1;obtain ⟨v,hv,e2⟩:=M.cova w hw;exact ⟨v,hv,St.eqv_trans e1 e2⟩
     ·obtain ⟨w,hw,e1⟩:=B.cov x h1;obtain ⟨v,hv,e2⟩:=M.covb w hw;exact ⟨v,hv,St.eqv_trans e1 e2⟩
    ·have:=M.len;have:=A.len;have:=B.len;omega
    ·have h1:=M.len;have h2:=A.len;have h3:=B.len;have h4:=M.all tO;rw[e,List.pairwise_append];refine ⟨A.all.1 tO,B.all.1 tO,fun x hx y hy hxy=>?_⟩;obtain ⟨w,hw,e1⟩:=A.cov x hx;obtain ⟨v,hv,e2⟩:=B.cov y hy;exact h4 w hw v hv (St.eqv_trans (St.eqv_symm e1) (St.eqv_trans hxy e2))
    ·rw[e,List.pairwise_append] at hp;obtain ⟨p1,p2,p3⟩:=hp;have h2:=A.all.2 p1;have h3:=B.all.2 p2
     have key:∀(N:Nat) (a b:List St),a.length+b.length≤N→(∀x∈a,∀y∈b,¬x.eqv y)→(mrg a b).length=a.length+b.length:=by
      intro N;induction N with
      |zero=>intro a b hab _;have ea:a= []:=List.length_eq_zero_iff.1 tO;have eb:b= []:=List.length_eq_zero_iff.1 tO;subst ea eb;rw[Fy];rfl
      |succ N ih=>
       intro a b hab hne;match a,b with
       | [],b=>rw[Fy];simp
       |x::a,[]=>rw[Ht];simp
       |x::a,y::b=>
        simp only[List.length_cons] at hab;rw[bL,if_neg (show¬AS x.l y.l=0 from hne x (by simp) y (by simp))];by_cases c1:AS x.l y.l<0
        ·rw[if_pos c1,List.length_cons,ih a (y::b) (by simp only[List.length_cons];omega) (fun z hz w hw=>hne z (by simp [hz]) w hw)];simp only[List.length_cons];omega
        ·rw[if_neg c1,List.length_cons,ih (x::a) b (by simp only[List.length_cons];omega) (fun z hz w hw=>hne z hz w (by simp [hw]))];simp only[List.length_cons];omega
     rw[key _ _ _ (Nat.le_refl _) (fun x hx y hy=>p3 x (A.mem x hx) y (B.mem y hy)),h2,h3];exact el.symm
end Go.AJ
