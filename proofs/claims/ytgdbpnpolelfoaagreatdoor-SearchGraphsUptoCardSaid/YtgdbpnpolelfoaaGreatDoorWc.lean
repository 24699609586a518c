/- The walk: appends, buffers, encodings, keys. -/
import Derived.Test.YtgdbpnpolelfoaaGreatDoorWb
set_option linter.all false
namespace Go.AJ
open Go
theorem CJ (n:Nat) (z:List V):(rep n z).length=n*z.length:=by
 induction n with
 |zero=>simp [rep]
 |succ n ih=>simp only[rep,List.length_append,ih,Nat.succ_mul];omega
theorem FW (n:Nat) (v:V):rep n [v]=List.replicate n v:=by
 induction n with
 |zero=>rfl
 |succ n ih=>simp only[rep,ih,List.replicate_succ,List.singleton_append]
theorem UH (n m:Nat) (z:List V):rep (n+m) z=rep n z++rep m z:=by
 induction n with
 |zero=>simp [rep]
 |succ n ih=>rw[show n+1+m=(n+m)+1 by omega];simp only[rep,ih,List.append_assoc]
theorem Nu {need:Nat} {c:Nat→Bool} (hc:∀cp,need≤cp→cp<9223372036854775808→c cp=true):JO need c=true:=by unfold JO;rw[if_pos hc]
inductive Sl (h:Hp) (sz:Nat):List K→V→Nat→List V→Prop
 |nil:Sl h sz [] .nils 0 []
 |row (b:K) (n cp:Nat) (q rest:List V) (hb:blk h b=.cells (q++rest)) (hq:q.length=n*sz) (hr:rest.length=(cp-n)*sz) (hle:n≤cp) (hcp:cp<9223372036854775808) (hn:b.num<(nxt h).num):
   Sl h sz [b] (.sl b 0 n cp 0) n q
structure Wr (o:List K) (h:Hp) (o':List K) (h':Hp):Prop where
 nx:(nxt h).num≤(nxt h').num
 old:∀b,b.num<(nxt h).num→b∉o→blk h' b=blk h b
 new:∀b∈o',b∈o∨(nxt h).num≤b.num
theorem Wr.refl (o:List K) (h:Hp):Wr o h o h:=⟨Nat.le_refl _,fun _ _ _=>rfl,fun _ hb=> .inl hb⟩
theorem Wr.trans {o o1 o2:List K} {h h1 h2:Hp} (a:Wr o h o1 h1) (b:Wr o1 h1 o2 h2):Wr o h o2 h2 where
 nx:=Nat.le_trans a.nx b.nx
 old k hk hs:=by rw[b.old k (Nat.lt_of_lt_of_le hk a.nx) (fun hm=>by rcases a.new k hm with h1|h1;exact hs h1;omega),a.old k hk hs]
 new k hk:=by
  rcases b.new k hk with h1|h1
  ·exact a.new k h1
  ·exact .inr (Nat.le_trans a.nx h1)
theorem Ae.wr {h h':Hp} (kk:Ae h h') (o:List K):Wr o h o h':=⟨kk.nx,fun b hb _=>kk.old b hb,fun _ hb=> .inl hb⟩
theorem Wr.keeps {h h':Hp} {o:List K} (w:Wr [] h o h'):Ae h h':=⟨w.nx,fun b hb=>w.old b hb (by simp)⟩
theorem Wr.mono {o o' p:List K} {h h':Hp} (w:Wr o h o' h') (hp:∀b∈o,b∈p):Wr p h o' h':=
 ⟨w.nx,fun b hb hs=>w.old b hb (fun hm=>hs (hp b hm)),fun b hb=>(w.new b hb).imp (hp b) id⟩
theorem Wr.more {o o':List K} {h h':Hp} (w:Wr o h o' h') (p:List K):Wr (p++o) h (p++o') h' where
 nx:=w.nx
 old b hb hs:=w.old b hb (fun hm=>hs (by simp [hm]))
 new b hb:=by
  rcases List.mem_append.1 hb with h1|h1
  ·exact .inl (by simp [h1])
  ·exact (w.new b h1).imp (fun h2=>by simp [h2]) id
theorem Wr.cons {o o':List K} {h h':Hp} (w:Wr o h o' h') (p:K):Wr (p::o) h (p::o') h':=w.more [p]
theorem Wr.get {o o':List K} {h h':Hp} (w:Wr o h o' h') {b:K} {x:Blk} (hb:blk h b=x) (hn:b.num<(nxt h).num) (hs:b∉o):blk h' b=x:=(w.old b hn hs).trans hb
theorem Sl.keep {h h':Hp} {sz n:Nat} {o:List K} {s:V} {q:List V} (S:Sl h sz o s n q) (ho:∀b∈o,blk h' b=blk h b) (hn:(nxt h).num≤(nxt h').num):Sl h' sz o s n q:=by
 cases S with
 |nil=>exact .nil
 |row b n cp q rest hb hq hr hle hcp hnb=>exact .row b n cp q rest ((ho b (by simp)).trans hb) hq hr hle hcp (Nat.lt_of_lt_of_le hnb hn)
theorem Sl.lt {h:Hp} {sz n:Nat} {o:List K} {s:V} {q:List V} (S:Sl h sz o s n q):∀b∈o,b.num<(nxt h).num:=by
 cases S with
 |nil=>intro b hb;cases hb
 |row b n cp q rest hb hq hr hle hcp hnb=>intro b' hb';simp only[List.mem_cons,List.not_mem_nil,or_false] at hb';subst hb';exact hnb
theorem Sl.len {h:Hp} {sz n:Nat} {o:List K} {s:V} {q:List V} (S:Sl h sz o s n q):q.length=n*sz:=by
 cases S with
 |nil=>simp
 |row b n cp q rest hb hq hr hle hcp hnb=>exact hq
theorem Sl.flat {h:Hp} {sz n:Nat} {o:List K} {s:V} {q:List V} (S:Sl h sz o s n q):flat s=true:=by cases S<;>rfl
theorem Sl.by {h:Hp} {sz n:Nat} {o:List K} {s:V} {q:List V} {h':Hp} {p p':List K} (S:Sl h sz o s n q) (w:Wr p h p' h') (hd:∀b∈o,b∉p):Sl h' sz o s n q:=
 S.keep (fun b hb=>w.old b (S.lt b hb) (hd b hb)) w.nx
theorem Sl.inv {h:Hp} {sz n:Nat} {o:List K} {s:V} {q:List V} (S:Sl h sz o s n q):(o= []∧s=.nils∧n=0∧q= [])∨
  ∃b cp rest,o= [b]∧s=.sl b 0 n cp 0∧blk h b=.cells (q++rest)∧q.length=n*sz∧rest.length=(cp-n)*sz∧n≤cp∧cp<9223372036854775808∧b.num<(nxt h).num:=by
 cases S with
 |nil=>exact .inl ⟨rfl,rfl,rfl,rfl⟩
 |row b n cp q rest hb hq hr hle hcp hnb=>exact .inr ⟨b,cp,rest,rfl,rfl,hb,hq,hr,hle,hcp,hnb⟩
section
variable {E:Env} {L n N:Nat} {h:Hp} {kc:KC} {t:T V} {d:Dc} {k:KE} {fi:FI} {c:KV} {C:As}
theorem Ib {sz n:Nat} {o:List K} {s:V} {q:List V} (S:Sl h sz o s n q) {h1:Hp}:GX .sl s h1 c=c (vI n) h1:=by cases S<;>rfl
theorem DK {b:K} {n o:Nat} {q:List V} {l:List V} {f:List V→Bool} (hb:blk h b=.cells l) (hq:(l.drop o).take n=q) (hl:q.length=n):Ea h b o n f=f q:=by
 cases n with
 |zero=>simp only[Ea];rw[List.length_eq_zero_iff.1 hl]
 |succ n=>
  simp only[Ea,CQ hb];rw[FD,Ft,hq];have:q.length≤(l.drop o).length:=by rw[←hq];exact List.length_take_le' _ _
  omega
theorem Gg {sz n:Nat} {o:List K} {s x:V} {q new z:List V} {m by_:Nat} (S:Sl h (sz+1) o s n q) (hx:∀f,DQ x (sz+1) h f=f m new) (hm:new.length=m*(sz+1)) (hz:z.length=sz+1)
  (hby:(n+m)*(by_+1)≤1000000000) (hk:∀o' s' h',Sl h' (sz+1) o' s' (n+m) (q++new)→Wr o h o' h'→c s' h'=true):eQ (some z) s x (sz+1) by_ h c=true:=by
 have hnew:∀(old:List V) (need:Nat),need=n+m→old=q→El (some z) old new (sz+1) need h c=true:=by
  intro old need hneed hold;subst hneed hold;simp only[El];refine Nu fun cp h1 h2=>?_;rw[Ar];refine hk _ _ _ (.row (nxt h) (n+m) cp (old++new) (rep (cp-(n+m)) z) ?_ ?_ ?_ h1 h2 ?_) ⟨?_,fun b hb _=>?_,fun b hb=>?_⟩
  ·rw[An,AE]
  ·rw[List.length_append,S.len,hm,Nat.add_mul]
  ·rw[CJ,hz]
  ·rw[Ay,Ap,K.num_succ];omega
  ·rw[Ay,Ap,K.num_succ];omega
  ·rw[An,Cc tO]
  ·simp only[List.mem_cons,List.not_mem_nil,or_false] at hb;subst hb;exact .inr (Nat.le_refl _)
 simp only[eQ,hx];cases S with
 |nil=>
  simp only[Hi];cases m with
  |zero=>have:new= []:=List.length_eq_zero_iff.1 (by simpa using hm);subst this;exact hk _ _ _ .nil (.refl _ _)
  |succ m=>simp only;rw[Nat.ble_eq_true_of_le (by simpa using hby)];exact hnew [] (m+1) tO rfl
 |row b n cp q rest hb hq hr hle hcp hnb=>
  simp only[Hi,AF,Nat.zero_add];by_cases hc:n+m≤cp
  ·rw[Nat.ble_eq_true_of_le hc];cases new with
   |nil=>
    have hm0:m=0:=by simp only[List.length_nil] at hm;rcases Nat.mul_eq_zero.1 hm.symm with h1|h1<;>omega
    subst hm0;simp only[storeAt];exact hk _ _ _ (.row b n cp _ rest (by rw[List.append_nil];exact hb) (by rw[List.append_nil];exact hq) hr hle hcp hnb) (.refl _ _)
   |cons v r=>
    simp only[storeAt,CQ hb];have hdr:m*(sz+1)≤rest.length:=by rw[hr];exact Nat.mul_le_mul_right _ tO
    rw[Hn _ _ _ _ (by rw[hm,List.length_append,hq];omega),AK];have e1:(q++rest).take (n*(sz+1))=q:=by rw[←hq];exact List.take_left
    have e2:(q++rest).drop (n*(sz+1)+(v::r).length)=rest.drop (m*(sz+1)):=by rw[←List.drop_drop,←hq,List.drop_left,hm]
    rw[e1,e2,←List.append_assoc];refine hk _ _ _ (.row b (n+m) cp (q++v::r) (rest.drop (m*(sz+1))) (AE) ?_ ?_ hc hcp (by rw[Ap];exact hnb)) ⟨by rw[Ap];exact Nat.le_refl _,fun b' hb' hs=>?_,fun _ hb'=> .inl hb'⟩
    ·rw[List.length_append,hq,hm,Nat.add_mul]
    ·rw[List.length_drop,hr,←Nat.sub_mul];congr 1;omega
    ·rw[Al,if_neg (fun e=>hs (by simp [e]))]
  ·rw[show Nat.ble (n+m) cp=false from by rw[Bool.eq_false_iff];exact fun e=>hc (Nat.le_of_ble_eq_true e)];simp only[Mq];rw[Nat.ble_eq_true_of_le hby];simp only;rw[DK hb (q:=q) (by rw[List.drop_zero,←hq];exact List.take_left) hq];exact hnew q (n+m) rfl rfl
theorem Nr {n sz by_:Nat} {z:List V} {ik:IntKind} (hz:z.length=sz+1) (hby:n*(by_+1)≤1000000000) (hn:1≤n)
  (hk:∀cp,n≤cp→cp<9223372036854775808→c (.sl (nxt h) 0 n cp 0) (h.upd (nxt h) (.cells (rep n z++rep (cp-n) z))).bump=true):RN (some z) .nils (.int ik (.ofNat n)) (sz+1) by_ z h c=true:=by
 simp only[RN,Nat.ble_eq_true_of_le hby];rw[Oo _ _ _ hz];obtain ⟨m,rfl⟩:∃m,n=m+1:=⟨n-1,by omega⟩
 simp only[Hi,Nat.ble_eq_true_of_le hby,El];refine Nu fun cp h1 h2=>?_;rw[Ar,List.nil_append];exact hk cp h1 h2
end
end Go.AJ
namespace Go.AJ
open Go
structure Buf (h:Hp) (bw:K) (o:List K) (q:List V):Prop where
 ex:∃s r,blk h bw=.cells [s,vI 0,.int .i8 r]∧Sl h 1 o s q.length q
 nb:bw.num<(nxt h).num
 no:bw∉o
section
variable {E:Env} {L n N:Nat} {h:Hp} {kc:KC} {t:T V} {d:Dc} {k:KE} {fi:FI} {c:KV} {C:As}
theorem FR {b:K} {n cp m sz:Nat} {ik:IntKind} (hm:m≤cp):BT (.sl b 0 n cp 0) none (some (.int ik (.ofNat m))) none sz h c=c (.sl b 0 m cp 0) h:=by simp only[BT,bnd,Nat.ble_eq_true_of_le hm,di,AF,Nat.sub_zero,Nat.zero_mul,Nat.zero_add];cases Nat.beq cp 0<;>rfl
theorem Mz {b:K} {n cp sz:Nat} {ik:IntKind}:BT (.sl b 0 n cp 0) (some (.int ik (.ofNat 0))) none none sz h c=c (.sl b 0 n cp 0) h:=by simp only[BT,bnd,Nat.ble_eq_true_of_le (Nat.zero_le n),di,AF,Nat.sub_zero,Nat.zero_mul,Nat.zero_add];cases Nat.beq cp 0<;>rfl
theorem ff {b:K} {n cp l sz:Nat} {ik:IntKind} (hl:l≤n):BT (.sl b 0 n cp 0) (some (.int ik (.ofNat l))) none none sz h c=c (.sl b (if cp=l then 0 else l*sz) (n-l) (cp-l) 0) h:=by
 simp only[BT,bnd,Nat.ble_eq_true_of_le hl,di,AF];by_cases e:cp=l
 ·rw[if_pos e,e,Nat.beq_refl]
 ·rw[if_neg e,show Nat.beq cp l=false from by rw[Bool.eq_false_iff];exact fun e'=>e (Nat.eq_of_beq_eq_true e'),Nat.zero_add]
theorem Je {lo hi:Option V} {sz:Nat} (h1:lo=none∨∃ik,lo=some (.int ik (.ofNat 0))) (h2:hi=none∨∃ik,hi=some (.int ik (.ofNat 0))):BT .nils lo hi none sz h c=c .nils h:=by rcases h1 with rfl|⟨_,rfl⟩<;>rcases h2 with rfl|⟨_,rfl⟩<;>rfl
theorem kA {sz n:Nat} {o:List K} {s:V} {q:List V} (S:Sl h (sz+1) o s n q) (f:Nat→List V→Bool):DQ s (sz+1) h f=f n q:=by
 cases S with
 |nil=>rfl
 |row b n cp q rest hb hq hr hle hcp hnb=>simp only[DQ];rw[DK hb (q:=q) (by rw[List.drop_zero,←hq];exact List.take_left) hq]
theorem dn {b:K} {off len cp p m sz:Nat} {s:V} {new l:List V} (hs:∀f,DQ s sz h f=f m new) (hm:m≤len) (hb:blk h b=.cells l) (hl:off+new.length≤l.length)
  (hk:∀h',blk h' b=.cells (l.take off++(new++l.drop (off+new.length)))→(∀b',b'≠b→blk h' b'=blk h b')→nxt h'=nxt h→c (vI m) h'=true):
  RL (.sl b off len cp p) s sz h c=true:=by
 simp only[RL,hs,Nat.ble_eq_true_of_le hm];cases new with
 |nil=>simp only[storeAt];exact hk h (by rw[hb,List.length_nil,Nat.add_zero,List.nil_append,List.take_append_drop]) (fun _ _=>rfl) rfl
 |cons x r=>simp only[storeAt,CQ hb,Hn _ _ _ _ hl,AK];exact hk _ AE (fun b' hne=>by rw[Al,if_neg hne]) (by rw[Ap])
theorem Ou {res:List RV} {cm:Option Md} {f:Nat} {args:List V}:De C (L+2) res kc .ret t (.mk [.call f args] cm) h=C (.fn f) args (some .ret) h (Acl fun u' h'=>unwind C res [] cm t (L+1) u' [] h' kc):=rfl
theorem i9 {r:Md→Hp→Bool} {v:V}:Acl r (.ret v) (some .ret) h=r .ret h:=rfl
theorem Ra {res:List RV} {cm:Option Md}:unwind C res [] cm t (L+1) .ret [] h kc=results [] t h res fun vs=>kc (.ret (one vs)) cm h:=rfl
theorem iO:oEq true .ifc .nili .nili h c=c (.bool false) h:=rfl
theorem uB (hE:Fns E):call E (L+1) (n+1) (.fn 580) [] (some .ret) h kc=kc (.ret (.tup [])) (some .ret) h:=by rw[Ag hE.f761,Aco,AaX,lj];exact Ssc @iO
theorem tZ {a:Nat} (ha:a≤9223372036854775807):AU .quo (vI a) (vI 2) h c=c (vI (a/2)) h:=by rw[D5 BB (by rfl),I7,Ah tO]
theorem uC (hE:Fns E) {o:List K} {s:V} {q:List V} {m:Nat} (S:Sl h 1 o s q.length q) (hsz:q.length+m≤100000000) (hm:1≤m) (hc:∀b cp,s=.sl b 0 q.length cp 0→cp<q.length+m)
  (hk:∀h' cp rest,blk h' (nxt h)=.cells (q++rest)→rest.length=cp-q.length→q.length+m≤cp→cp<9223372036854775808→Ae h h'→(nxt h).num<(nxt h').num→kc (.ret (.sl (nxt h) 0 q.length cp 0)) none h'=true):
  call E (L+4) (n+2) (.fn 520) [s,vI m] none h kc=true:=by
 rw[Ag hE.f685,Acp,AaY,lu,lq,lp,lm];have e0:Am .i64 (.ofNat (q.length+m))=.ofNat (q.length+m):=Ah tO
 have key:∀(cc:Nat) (tt:T V),q.length+m≤cc→cc≤300000000→tg 0 tt=s→tg 5 tt=vI cc→
   exec (call E (L+4) (n+1)) (L+4) (.mk 685 none) UW tt (.mk [.call 580 []] none) h (Dd (GH (call E (L+4) (n+1)) (L+4) (.mk 685 none) (.seq UV (.seq UU .ret)) (De (call E (L+4) (n+1)) (L+4) [.t (K.of 4)] kc)) (De (call E (L+4) (n+1)) (L+4) [.t (K.of 4)] kc))=true:=by
  intro cc tt h1 h2 g0 g5;rw[UW,UV,UU];refine Sst g5 ?_;refine Nr rfl tO tO (fun cp hc1 hc2=>?_);refine Sst g0 ?_;have S':=S.keep (h':=(h.upd (nxt h) (.cells (rep cc [.int .u8 (.ofNat 0)]++rep (cp-cc) [.int .u8 (.ofNat 0)]))).bump) (fun b hb=>by rw[An,Cc (by have:=S.lt b hb;omega)]) tN;refine dn (kA S') tO (by rw[An,AE]) (by simp only[List.length_append,CJ,List.length_cons,List.length_nil];omega) (fun h' hb ho hn=>?_);refine AV ?_;rw[FR tO];simp -implicitDefEqProofs only[↓sD,sB,↓reduceIte,Ou,uB hE,i9,Ra];rw[List.take_zero,List.nil_append,Nat.zero_add] at hb;refine hk _ cp _ hb ?_ tO hc2 ⟨?_,fun b hb=>?_⟩ ?_
  ·simp only[List.length_drop,List.length_append,CJ,List.length_cons,List.length_nil];omega
  ·rw[hn];((try simp only[nB]);omega)
  ·rw[ho b (fun e=>by subst e;omega),An,Cc tO]
  ·rw[hn];((try simp only[nB]);omega)
 rcases S.inv with ⟨rfl,rfl,_,rfl⟩|⟨b,cp,rest,rfl,rfl,hb,hq,hr,hle,hcp,hnb⟩
 ·simp only[List.length_nil] at e0 key hsz;simp only[Nat.zero_add] at e0 key hsz;have e1:(m<0)=False:=eF;have e2:Am .i64 (.ofNat 0)=.ofNat 0:=rfl;refine Tst (J4 e0 @Nat.mul_zero e2 e1) ?_;refine key m _ (Nat.le_refl _) tO ?_ ?_<;>simp -implicitDefEqProofs only[sB,↓reduceIte,Nat.reduceEqDiff,reduceCtorEq]
 ·have hcp':=hc b cp rfl;have e3:Am .i64 (.ofNat (2*cp))=.ofNat (2*cp):=Ah tO;by_cases e1:q.length+m<2*cp
  ·refine Tst (J3 e0 e3 e1) ?_;refine key (2*cp) _ tO tO ?_ ?_<;>simp -implicitDefEqProofs only[sB,↓reduceIte,reduceCtorEq]
  ·refine Tst (J3 e0 e3 e1) ?_;refine key (q.length+m) _ tO tO ?_ ?_<;>simp -implicitDefEqProofs only[sB,↓reduceIte,Nat.reduceEqDiff,reduceCtorEq]
end
end Go.AJ
namespace Go.AJ
open Go
section
variable {E:Env} {L n N:Nat} {h:Hp} {kc:KC} {t:T V} {d:Dc} {k:KE} {fi:FI} {c:KV} {C:As}
theorem OU (hE:Fns E) {bw:K} {o:List K} {s:V} {q:List V} {r:Int} (hb:blk h bw=.cells [s,vI 0,.int .i8 r]) (S:Sl h 1 o s q.length q) (hq:q.length≤9223372036854775807):
  call E (L+1) (n+1) (.fn 518) [.ptr bw 0] none h kc=kc (.ret (vI q.length)) none h:=by
 rw[Ag hE.f683,Acq,AaZ,lB,lA];have e1:Am .i64 (Int.sub (.ofNat q.length) (.ofNat 0))=.ofNat q.length:=by rw[Ao (Nat.zero_le _),Nat.sub_zero,Ah hq]
 have e2:veq 40 s s=true:=AP S.flat;simp -implicitDefEqProofs only[↓sD,sB,↓reduceIte,Nat.reduceEqDiff,reduceCtorEq,hb,Ib S,e1,e2]
theorem JI (hE:Fns E) {bw b:K} {m cp x:Nat} {r:Int} (hb:blk h bw=.cells [.sl b 0 m cp 0,vI 0,.int .i8 r]) (hm:m+x≤cp) (hcp:cp<9223372036854775808):
  call E (L+1) (n+1) (.fn 425) [.ptr bw 0,vI x] none h kc=kc (.ret (.tup [vI m,.bool true])) none (h.upd bw (.cells [.sl b 0 (m+x) cp 0,vI 0,.int .i8 r])):=by
 rw[Ag hE.f570,Aam,xw,PI,PH,PG];have e1:Am .i64 (Int.sub (.ofNat cp) (.ofNat m))=.ofNat (cp-m):=by rw[Ao tO,Ah tO]
 have e2:Am .i64 (.ofNat (m+x))=.ofNat (m+x):=Ah tO;have e3:(cp-m<x)=False:=eF;simp -implicitDefEqProofs only[↓sD,sB,↓reduceIte,Nat.reduceEqDiff,reduceCtorEq,Nat.reduceAdd,hb,e1,e2,e3,decide_false,FR hm]
theorem GP (hE:Fns E) {bw b:K} {m cp x:Nat} {r:Int} (hb:blk h bw=.cells [.sl b 0 m cp 0,vI 0,.int .i8 r]) (hm:cp<m+x) (hle:m≤cp) (hcp:cp<9223372036854775808):
  call E (L+1) (n+1) (.fn 425) [.ptr bw 0,vI x] none h kc=kc (.ret (.tup [vI 0,.bool false])) none h:=by
 rw[Ag hE.f570,Aam,xw,PI,PH,PG];have e1:Am .i64 (Int.sub (.ofNat cp) (.ofNat m))=.ofNat (cp-m):=by rw[Ao tO,Ah tO]
 have e3:(cp-m<x)=True:=eT;exact Tsc (J3 hb e1 e3)
theorem FG (hE:Fns E) {bw:K} {x:Nat} {r:Int} (hb:blk h bw=.cells [.nils,vI 0,.int .i8 r]) (hx:1≤x):
  call E (L+1) (n+1) (.fn 425) [.ptr bw 0,vI x] none h kc=kc (.ret (.tup [vI 0,.bool false])) none h:=by
 rw[Ag hE.f570,Aam,xw,PI,PH,PG];have e1:Am .i64 (Int.sub (.ofNat 0) (.ofNat 0))=.ofNat 0:=rfl;have e3:(0<x)=True:=eT;exact Tsc (J3 hb e1 e3)
theorem ze {m cp by_:Nat} {z:List V} (hm:m≤cp) (hb:cp*(by_+1)≤1000000000):Bf (vI m) (vI cp) z by_ h c=c (.sl (nxt h) 0 m cp 0) (h.upd (nxt h) (.cells (rep cp z))).bump:=by simp only[Bf,Nat.ble_eq_true_of_le hm,Nat.ble_eq_true_of_le hb,Ar]
theorem eS {m:Nat} (hm:m≤9223372036854775807):Am .i64 (.negSucc m)=.negSucc m:=by simp only[Am];rw[Nat.ble_eq_true_of_le hm]
theorem ub {cc m x:Nat} (h1:cc<m+x) (h2:m+x≤100000000):ltI (Am .i64 (Int.sub (.ofNat (cc/2)) (.ofNat m))) (.ofNat x)=true:=by
 by_cases e:m≤cc/2
 ·rw[Ao e,Ah (by omega),Aj,decide_eq_true (by omega)]
 ·obtain ⟨z,hz⟩:∃z,m=cc/2+z+1:=⟨m-cc/2-1,by omega⟩
  have:Int.sub (.ofNat (cc/2)) (.ofNat m)=.negSucc z:=by show ((cc/2:Nat):Int) - (m:Int)=_;rw[hz,Int.negSucc_eq];omega
  rw[this,eS tO];rfl
theorem Ut (hE:Fns E) {bw:K} {o:List K} {s:V} {q:List V} {x cc:Nat} {r:Int} (hb:blk h bw=.cells [s,vI 0,.int .i8 r]) (S:Sl h 1 o s q.length q) (nb:bw.num<(nxt h).num) (no:bw∉o) (hx:1≤x) (hsz:q.length+x≤100000000)
  (hcap:∀(c:KV) (h:Hp),gp s h c=c (vI cc) h) (hlo:∀(c:KV) (h:Hp),BT s (some (vI 0)) none none 1 h c=c s h) (h1:cc<q.length+x) (hno:∀b cp,s=.sl b 0 q.length cp 0→cp<q.length+x)
  {tt:T V} (g0:tg 0 tt=.ptr bw 0) (g1:tg 1 tt=vI x) (g5:tg 5 tt=vI q.length)
  (hk:∀h' b' junk,junk.length=x→Buf h' bw [b'] (q++junk)→Wr (bw::o) h (bw:: [b']) h'→∀t1,tg 4 t1=vI q.length→k .ret t1 d h'=true):
  exec (call E (L+4) (n+3)) (L+4) fi Pz tt d h (Dd (GH (call E (L+4) (n+3)) (L+4) fi (.seq Py (.seq Px (.seq Pw (.seq Pv .ret)))) k) k)=true:=by
 rw[Pz,Py,Px,Pw,Pv];have e1:=ub h1 hsz;have e2:Int.sub (.ofNat 9223372036854775807) (.ofNat cc)=.ofNat (9223372036854775807-cc):=Ao tO;have e3:Am .i64 (.ofNat (9223372036854775807-cc))=.ofNat (9223372036854775807-cc):=Ah tO;have e4:Int.sub (.ofNat (9223372036854775807-cc)) (.ofNat x)=.ofNat (9223372036854775807-cc-x):=Ao tO;have e5:Am .i64 (.ofNat (9223372036854775807-cc-x))=.ofNat (9223372036854775807-cc-x):=Ah tO;have e6:(9223372036854775807-cc-x<cc)=False:=eF;have e7:veq 40 s s=true:=AP S.flat;have e8:Am .i64 (.ofNat x)=.ofNat x:=Ah tO;have e9:Am .i64 (.ofNat (q.length+x))=.ofNat (q.length+x):=Ah tO;simp -implicitDefEqProofs (disch:=first|assumption|((try simp only[dB]);first|done|omega)) only[↓sD,sB,↓reduceIte,Nat.reduceEqDiff,reduceCtorEq,g0,g1,g5,hb,hcap,tZ,e1,e2,e3,e4,e5,e6,e7,e8,hlo,decide_false];refine uC hE S hsz hx hno (fun h1 cp rest hr hrl hc1 hc2 K1 hnx=>?_);have hb1:=K1.old bw nb;rw[hb] at hb1;refine Sst (J6 g0 g1 g5 hb1 e9 @FR) ?_;refine hk _ (nxt h) (rest.take x) ?_ ⟨⟨.sl (nxt h) 0 (q.length+x) cp 0,r,?_,?_⟩,?_,?_⟩ ⟨?_,fun b hb hs=>?_,fun b hb=>?_⟩ _ ?_
 ·rw[List.length_take,hrl];omega
 ·exact Af
 ·have el:(q++rest.take x).length=q.length+x:=by rw[List.length_append,List.length_take,hrl];omega
  rw[el];refine .row (nxt h) (q.length+x) cp _ (rest.drop x) ?_ (by rw[el];omega) (by rw[List.length_drop,hrl];omega) hc1 hc2 tN;rw[Cc tN,hr,List.append_assoc,List.take_append_drop]
 ·have:=K1.nx;((try simp only[nB]);omega)
 ·simp only[List.mem_cons,List.not_mem_nil,or_false];exact fun e=>by subst e;omega
 ·have:=K1.nx;((try simp only[nB]);omega)
 ·rw[Cc (by have:=hs;simp only[List.mem_cons,not_or] at this;exact fun e=>this.1 (K.num_inj e)),K1.old b hb]
 ·simp only[List.mem_cons,List.not_mem_nil,or_false] at hb⊢;rcases hb with rfl|rfl
  ·exact .inl (.inl rfl)
  ·exact .inr (Nat.le_refl _)
 ·exact Af
theorem dP (hE:Fns E) {bw:K} {o:List K} {q:List V} {x:Nat} (B:Buf h bw o q) (hx:1≤x) (hsz:q.length+x≤100000000) (hno:∀b cp r,blk h bw=.cells [.sl b 0 q.length cp 0,vI 0,.int .i8 r]→cp<q.length+x)
  (hk:∀h' b' junk,junk.length=x→Buf h' bw [b'] (q++junk)→Wr (bw::o) h (bw:: [b']) h'→kc (.ret (vI q.length)) none h'=true):
  call E (L+4) (n+4) (.fn 426) [.ptr bw 0,vI x] none h kc=true:=by
 obtain ⟨⟨s,r,hb,S⟩,nb,no⟩:=B;rcases S.inv with ⟨rfl,rfl,h0,rfl⟩|⟨b,cp,rest,rfl,rfl,hbb,hq,hr,hle,hcp,hnb⟩
 ·have S0:=S;simp only[List.length_nil] at hsz;have e0:Am .i64 (.ofNat 0)=.ofNat 0:=rfl;by_cases h64:x≤64
  ·rw[Ag hE.f571,Aal,xq,PF,PD,PC,PB,PA,Pz,Py,Px,Pw,Pv];have e1:(64<x)=False:=eF;have e6:∀y z:V,veq 40 y y=true→veq 40 y y=true:=fun _ _ e=>e;simp -implicitDefEqProofs (disch:=exact tD) only[↓sD,sB,↓reduceIte,Nat.reduceEqDiff,reduceCtorEq,Nat.reduceAdd,OU hE hb S,List.length_nil,hb,FG hE hb hx,decide_false,e1,show∀(h:Hp) (c:KV),oEq false .sl .nils .nils h c=c (.bool true) h from fun _ _=>rfl];rw[ze h64 tO];refine Sst hb ?_;refine hk _ (nxt h) (List.replicate x (.int .u8 (.ofNat 0))) (by simp) ⟨⟨.sl (nxt h) 0 x 64 0,r,?_,?_⟩,?_,?_⟩ ⟨?_,fun b hb hs=>?_,fun b hb=>?_⟩
   ·exact Af
   ·rw[List.nil_append,List.length_replicate];refine .row (nxt h) x 64 _ (List.replicate (64-x) (.int .u8 (.ofNat 0))) ?_ (by simp) (by simp) h64 tO tN;rw[An,Cc tN,AE,←FW,←FW,←UH,show x+(64-x)=64 by omega]
   ·((try simp only[nB]);omega)
   ·simp only[List.mem_cons,List.not_mem_nil,or_false];exact fun e=>by subst e;omega
   ·((try simp only[nB]);omega)
   ·rw[An,Cc (by have:=hs;simp only[List.mem_cons,List.not_mem_nil,or_false] at this;exact fun e=>this (K.num_inj e)),Cc tO]
   ·simp only[List.mem_cons,List.not_mem_nil,or_false] at hb⊢;rcases hb with rfl|rfl
    ·exact .inl rfl
    ·exact .inr (Nat.le_refl _)
  ·rw[Ag hE.f571,Aal,xq,PF,PD,PC,PB,PA];have e1:(64<x)=True:=eT;simp -implicitDefEqProofs (disch:=exact tD) only[↓sD,sB,↓reduceIte,Nat.reduceEqDiff,reduceCtorEq,Nat.reduceAdd,OU hE hb S,List.length_nil,hb,FG hE hb hx,decide_true,e1,show∀(h:Hp) (c:KV),oEq false .sl .nils .nils h c=c (.bool true) h from fun _ _=>rfl];refine Ut hE hb S nb no hx (by simpa using hsz) (cc:=0) (fun c h=>Qz) (fun c h=>Je (.inr ⟨_,rfl⟩) (.inl rfl)) (by simp only[List.length_nil];omega) (fun b cp e=>by cases e) ?_ ?_ ?_ (fun h' b' junk hj hB hw t1 g4=>?_)
   ·exact Af
   ·exact Af
   ·simp -implicitDefEqProofs (disch:=exact tD) only[sB,↓reduceIte,Nat.reduceEqDiff,List.length_nil]
   ·refine Sst g4 ?_;exact hk h' b' junk hj hB hw
 ·have hcx:=hno b cp r hb;have e2:(q.length=0∨¬q.length=0):=Classical.em _;have hq9:q.length≤9223372036854775807:=tO;rw[Ag hE.f571,Aal,xq,PF,PD,PC,PB,PA];have tl:=fun (tt:T V) (g0:tg 0 tt=.ptr bw 0) (g1:tg 1 tt=vI x) (g5:tg 5 tt=vI q.length)=>
   Ut (L:=L) (n:=n) (fi:=.mk 571 none) (d:=.mk [] none) (k:=De (call E (L+4) (n+3)) (L+4) [.t (K.of 4)] kc) hE hb S nb no hx hsz (cc:=cp) (fun c h=>pc) (fun c h=>Mz) hcx (fun b' cp' e=>by cases e;exact hcx) g0 g1 g5 (fun h' b' junk hj hB hw t1 g4=>by refine Sst g4 ?_;exact hk h' b' junk hj hB hw)
  rcases e2 with e2|e2
  all_goals
   simp -implicitDefEqProofs (disch:=exact tD) only[↓sD,sB,↓reduceIte,Nat.reduceEqDiff,reduceCtorEq,Nat.reduceAdd,OU hE hb S,hb,GP hE hb hcx hle hcp,e2,decide_false,show∀(h:Hp) (c:KV) (n:Nat),oEq false .sl (.sl b 0 n cp 0) .nils h c=c (.bool false) h from fun _ _ _=>rfl];refine tl _ ?_ ?_ ?_<;>simp -implicitDefEqProofs (disch:=exact tD) only[sB,↓reduceIte,Nat.reduceEqDiff,reduceCtorEq,e2]
end
end Go.AJ
namespace Go.AJ
open Go
def AZ (x:Nat):V:=.int .u8 (.ofNat x)
def IB (n i:Nat):Nat:=Nat.div n (Nat.pow 2 (min (8*i) IntKind.i64.bits))%256
def Ep (n:Nat):Nat→List V
 |0=> []
 |i+1=>AZ (IB n i)::Ep n i
theorem Bn (n k:Nat):(Ep n k).length=k:=by
 induction k with
 |zero=>rfl
 |succ k ih=>simp only[Ep,List.length_cons,ih]
theorem Gl {n:Nat}:Am .u8 (.ofNat n)=.ofNat (n%256):=rfl
theorem d9 (s:List Nat):Cy s=s.map AZ:=by
 induction s with
 |nil=>rfl
 |cons x s ih=>simp only[Cy,ih,List.map_cons];rfl
section
variable {E:Env} {L n N:Nat} {h:Hp} {kc:KC} {t:T V} {d:Dc} {k:KE} {fi:FI} {c:KV} {C:As}
theorem Buf.row {bw:K} {o:List K} {q:List V} (B:Buf h bw o q) (hq:q≠ []):∃b cp r rest,o= [b]∧blk h bw=.cells [.sl b 0 q.length cp 0,vI 0,.int .i8 r]∧blk h b=.cells (q++rest)∧rest.length=cp-q.length∧q.length≤cp∧cp<9223372036854775808∧b.num<(nxt h).num∧bw.num<(nxt h).num∧bw≠b:=by
 obtain ⟨⟨s,r,hb,S⟩,nb,no⟩:=B;rcases S.inv with ⟨rfl,rfl,h0,rfl⟩|⟨b,cp,rest,rfl,rfl,hbb,hqq,hr,hle,hcp,hnb⟩
 ·exact absurd rfl hq
 ·exact ⟨b,cp,r,rest,rfl,hb,hbb,by simpa using hr,hle,hcp,hnb,nb,fun e=>no (by simp [e])⟩
theorem Buf.put {bw b:K} {q':List V} {cp:Nat} {r:Int} {rest:List V} (hb:blk h bw=.cells [.sl b 0 q'.length cp 0,vI 0,.int .i8 r]) (hr:blk h b=.cells (q'++rest)) (hl:(q'++rest).length=cp) (hcp:cp<9223372036854775808) (hn:b.num<(nxt h).num) (nb:bw.num<(nxt h).num) (no:bw≠b):Buf h bw [b] q':=
 ⟨⟨_,r,hb,.row b q'.length cp q' rest hr tO (by rw[List.length_append] at hl;omega) (by rw[List.length_append] at hl;omega) hcp hn⟩,nb,by simp [no]⟩
theorem qj (_hE:Fns E) {bw b:K} {q:List V} {j:V} {x:Nat} (B:Buf h bw [b] (q++ [j])) {tt:T V} (g0:tg 0 tt=.ptr bw 0) (g1:tg 1 tt=AZ x) (g5:tg 5 tt=vI q.length)
  (hk:∀h',Buf h' bw [b] (q++ [AZ x])→Ac [b] h h'→∀t1,tg 4 t1=.nili→k .ret t1 d h'=true):
  exec C L fi HY tt d h (Dd (GH C L fi (.seq HX .ret) k) k)=true:=by
 obtain ⟨b',cp,r,rest,e,hb,hr,hrl,hle,hcp,hnb,nb,no⟩:=B.row (by simp);cases e;rw[HY,HX];rw[List.length_append,List.length_cons,List.length_nil] at hle hrl;have el:(q++ [j]++rest).length=cp:=by simp only[List.length_append,List.length_cons,List.length_nil];omega
 have hi:q.length<(q++ [j]).length:=by simp
 have e1:(q++ [j]++rest).set q.length (AZ x)=q++ [AZ x]++rest:=by simp
 simp only[AZ] at g1 e1;refine Sst (J4 g0 g1 g5 hb) ?_;have e2:∀f,stB (blk h b) b q.length [.int .u8 (.ofNat x)] h f=f (h.upd b (.cells (q++ [.int .u8 (.ofNat x)]++rest))):=fun f=>by rw[hr,C5 (by simp),e1]
 refine Sst (J2 e2 hi) ?_;refine hk _ ?_ ?_ _ ?_
 ·refine Buf.put (cp:=cp) (r:=r) (rest:=rest) ?_ ?_ ?_ hcp tN tN no
  ·rw[Al,if_neg no,hb];simp
  ·rw[AE];rfl
  ·simpa [AZ] using el
 ·exact (Ac.refl _ h).put (.inr (by simp)) _
 ·exact Af
theorem Ld (hE:Fns E) {bw:K} {o:List K} {q:List V} {x:Nat} (B:Buf h bw o q) (hsz:q.length+1≤100000000)
  (hk:∀o' h',Buf h' bw o' (q++ [AZ x])→Wr (bw::o) h (bw::o') h'→kc (.ret .nili) none h'=true):
  call E (L+4) (n+5) (.fn 301) [.ptr bw 0,AZ x] none h kc=true:=by
 rw[Ag hE.f431,Acy,Aa6,lU,lT,lS,lR];obtain ⟨⟨s,r,hb,S⟩,nb,no⟩:=B;have e0:∀i,tg 1 i=AZ x→tg 1 i=AZ x:=fun _ e=>e
 have hb1:blk (h.upd bw (.cells [s,vI 0,.int .i8 (.ofNat 0)])) bw=.cells [s,vI 0,.int .i8 (.ofNat 0)]:=AE;have S1:Sl (h.upd bw (.cells [s,vI 0,.int .i8 (.ofNat 0)])) 1 o s q.length q:=S.keep (fun b hbo=>by rw[Al,if_neg (fun e:b=bw=>no (e▸hbo))]) tN;have w1:Wr (bw::o) h (bw::o) (h.upd bw (.cells [s,vI 0,.int .i8 (.ofNat 0)])):=⟨by ((try simp only[nB]);omega),fun b hb hs=>by rw[Al,if_neg (fun e=>hs (by simp [e]))],fun _ hb=> .inl hb⟩
 have B1:Buf (h.upd bw (.cells [s,vI 0,.int .i8 (.ofNat 0)])) bw o q:=⟨⟨s,.ofNat 0,hb1,S1⟩,by ((try simp only[nB]);omega),no⟩
 have fin:∀(h2:Hp) (b:K) (j:V) (tt:T V),Buf h2 bw [b] (q++ [j])→Wr (bw::o) h (bw:: [b]) h2→tg 0 tt=.ptr bw 0→tg 1 tt=AZ x→tg 5 tt=vI q.length→
   exec (call E (L+4) (n+4)) (L+4) (.mk 431 none) HY tt (.mk [] none) h2 (Dd (GH (call E (L+4) (n+4)) (L+4) (.mk 431 none) (.seq HX .ret) (De (call E (L+4) (n+4)) (L+4) [.t (K.of 4)] kc)) (De (call E (L+4) (n+4)) (L+4) [.t (K.of 4)] kc))=true:=by
  intro h2 b j tt B2 w2 g0 g1 g5;refine qj hE B2 g0 g1 g5 (fun h' B3 k3 t1 g4=>?_);refine Sst g4 ?_;exact hk [b] h' B3 (w2.trans ⟨k3.nx,fun c hc hs=>k3.old c hc (fun hm=>hs (by simp only[List.mem_cons,List.not_mem_nil,or_false] at hm⊢;exact .inr hm)),fun _ hb=> .inl hb⟩)
 have grown:∀tt:T V,tg 0 tt=.ptr bw 0→tg 1 tt=AZ x→(∀b cp r,blk (h.upd bw (.cells [s,vI 0,.int .i8 (.ofNat 0)])) bw=.cells [.sl b 0 q.length cp 0,vI 0,.int .i8 r]→cp<q.length+1)→
   call E (L+4) (n+4) (.fn 426) [.ptr bw 0,vI 1] none (h.upd bw (.cells [s,vI 0,.int .i8 (.ofNat 0)])) (dL (some (K.of 18)) tt (.mk [] none) (yK (call E (L+4) (n+4)) [⟨some (K.of 5),none,.mv (.t (K.of 18))⟩] (gv (Dd (GH (call E (L+4) (n+4)) (L+4) (.mk 431 none) (.seq HY (.seq HX .ret)) (De (call E (L+4) (n+4)) (L+4) [.t (K.of 4)] kc)) (De (call E (L+4) (n+4)) (L+4) [.t (K.of 4)] kc))) (xy (Dd (GH (call E (L+4) (n+4)) (L+4) (.mk 431 none) (.seq HY (.seq HX .ret)) (De (call E (L+4) (n+4)) (L+4) [.t (K.of 4)] kc)) (De (call E (L+4) (n+4)) (L+4) [.t (K.of 4)] kc)) [])) (xy (Dd (GH (call E (L+4) (n+4)) (L+4) (.mk 431 none) (.seq HY (.seq HX .ret)) (De (call E (L+4) (n+4)) (L+4) [.t (K.of 4)] kc)) (De (call E (L+4) (n+4)) (L+4) [.t (K.of 4)] kc)) []))=true:=by
  intro tt g0 g1 hno;refine dP hE B1 tO hsz hno (fun h' b' junk hj B2 w2=>?_);obtain ⟨j,rfl⟩:=List.length_eq_one_iff.1 hj;refine AV ?_;refine fin h' b' j _ B2 (w1.trans w2) ?_ ?_ ?_<;>simp -implicitDefEqProofs (disch:=exact tD) only[sB,↓reduceIte,Nat.reduceEqDiff,reduceCtorEq,g0,g1]
 rcases S.inv with ⟨rfl,rfl,h0,rfl⟩|⟨b,cp,rest,rfl,rfl,hbb,hqq,hr,hle,hcp,hnb⟩
 ·simp -implicitDefEqProofs (disch:=first|assumption|((try simp only[dB]);first|done|omega)) only[↓sD,sB,↓reduceIte,Nat.reduceEqDiff,reduceCtorEq,Nat.reduceAdd,hb,FG hE hb1];refine grown _ ?_ ?_ (fun b cp r e=>by rw[hb1] at e;cases e)
  ·exact Af
  ·exact Af
 ·by_cases hfit:q.length+1≤cp
  ·simp -implicitDefEqProofs (disch:=exact tD) only[↓sD,sB,↓reduceIte,Nat.reduceEqDiff,reduceCtorEq,Nat.reduceAdd,hb,JI hE hb1 hfit hcp];obtain ⟨j,rest',rfl⟩:∃j rest',rest=j::rest':=by
    cases rest with
    |nil=>simp at hr;omega
    |cons j r=>exact ⟨j,r,rfl⟩
   have nob:bw≠b:=fun e=>no (by simp [e]);refine fin _ b j _ ?_ ?_ ?_ ?_ ?_
   ·refine Buf.put (cp:=cp) (r:=.ofNat 0) (rest:=rest') ?_ ?_ ?_ hcp tN tN nob
    ·rw[AE];simp
    ·rw[Al,if_neg (fun e=>nob e.symm),hbb];simp
    ·simp only[List.length_append,List.length_cons,List.length_nil] at hr⊢;omega
   ·exact ⟨by ((try simp only[nB]);omega),fun b' hb' hs=>by rw[Al,if_neg (fun e=>hs (by simp [e]))],fun _ hb=> .inl hb⟩
   ·exact Af
   ·exact Af
   ·exact Af
  ·simp -implicitDefEqProofs (disch:=first|assumption|((try simp only[dB]);first|done|omega)) only[↓sD,sB,↓reduceIte,Nat.reduceEqDiff,reduceCtorEq,Nat.reduceAdd,hb,GP hE hb1 (show cp<q.length+1 by omega) hle hcp];refine grown _ ?_ ?_ (fun b' cp' r' e=>by rw[hb1] at e;cases e;omega)
   ·exact Af
   ·exact Af
end
end Go.AJ
namespace Go.AJ
open Go
section
variable {E:Env} {L n N:Nat} {h:Hp} {kc:KC} {t:T V} {d:Dc} {k:KE} {fi:FI} {c:KV} {C:As}
theorem Uu {bw b:K} {q junk:List V} {s:List Nat} (B:Buf h bw [b] (q++junk)) (hj:junk.length=s.length) (hq:q≠ []) {tt:T V} (g0:tg 0 tt=.ptr bw 0) (g1:tg 1 tt=.str s) (g6:tg 6 tt=vI q.length)
  (hk:∀h',Buf h' bw [b] (q++s.map AZ)→Ac [b] h h'→∀t1,tg 4 t1=vI s.length→tg 5 t1=.nili→k .ret t1 d h'=true):
  exec C L fi U0 tt d h (Dd (GH C L fi .ret k) k)=true:=by
 obtain ⟨b',cp,r,rest,e,hb,hr,hrl,hle,hcp,hnb,nb,no⟩:=B.row (by simp [hq]);cases e;rw[U0];rw[List.length_append,hj] at hle hrl;refine Sst (J3 g0 g6 hb) ?_;rw[ff (by simp)];refine Sst g1 ?_;refine dn (m:=s.length) (new:=s.map AZ) (fun f=>by simp only[DQ,AF,CN,d9]) (by simp [hj]) hr ?_ (fun h' hb' ho hn=>?_)
 ·simp only[List.length_append,List.length_map,hj];split<;>omega
 ·refine AV ?_;have e1:blk h' b=.cells (q++s.map AZ++rest):=by
   rw[hb'];by_cases e:cp=q.length
   ·have hs0:s.length=0:=tO;obtain rfl:s= []:=List.length_eq_zero_iff.1 hs0;obtain rfl:junk= []:=List.length_eq_zero_iff.1 (by simpa using hj);rw[if_pos e];simp
   ·rw[if_neg e];have e2:(q++junk++rest).take q.length=q:=by simp
    have e3:(q++junk++rest).drop (q.length+(s.map AZ).length)=rest:=by rw[←List.drop_drop,List.append_assoc,List.drop_left,List.length_map,←hj,List.drop_left]
    rw[e2,e3,List.append_assoc]
  refine hk _ ?_ ⟨by rw[hn];exact Nat.le_refl _,fun b' _ hs=>ho b' (by simpa using hs)⟩ _ ?_ ?_
  ·refine Buf.put (cp:=cp) (r:=r) (rest:=rest) ?_ e1 ?_ hcp (by rw[hn];exact hnb) (by rw[hn];exact nb) no
   ·rw[ho _ no,hb];simp [hj]
   ·simp only[List.length_append,List.length_map];omega
  ·exact Af
  ·exact Af
theorem uG (hE:Fns E) {bw:K} {o:List K} {q:List V} {s:List Nat} (B:Buf h bw o q) (hq:q≠ []) (hsz:q.length+s.length≤100000000)
  (hk:∀o' h',Buf h' bw o' (q++s.map AZ)→Wr (bw::o) h (bw::o') h'→kc (.ret (.tup [vI s.length,.nili])) none h'=true):
  call E (L+4) (n+5) (.fn 304) [.ptr bw 0,.str s] none h kc=true:=by
 rw[Ag hE.f433,Acw,Aa4,lP,lO,lN,lM];obtain ⟨b,cp,r,rest,rfl,hb,hbb,hr,hle,hcp,hnb,nb,no⟩:=B.row hq;have hb1:blk (h.upd bw (.cells [.sl b 0 q.length cp 0,vI 0,.int .i8 (.ofNat 0)])) bw=.cells [.sl b 0 q.length cp 0,vI 0,.int .i8 (.ofNat 0)]:=AE;have hbb1:blk (h.upd bw (.cells [.sl b 0 q.length cp 0,vI 0,.int .i8 (.ofNat 0)])) b=.cells (q++rest):=by rw[Al,if_neg (fun e=>no e.symm)];exact hbb
 have w1:Wr [bw,b] h [bw,b] (h.upd bw (.cells [.sl b 0 q.length cp 0,vI 0,.int .i8 (.ofNat 0)])):=⟨by ((try simp only[nB]);omega),fun b hb hs=>by rw[Al,if_neg (fun e=>hs (by simp [e]))],fun _ hb=> .inl hb⟩
 have B1:Buf (h.upd bw (.cells [.sl b 0 q.length cp 0,vI 0,.int .i8 (.ofNat 0)])) bw [b] q:=Buf.put (cp:=cp) (r:=.ofNat 0) (rest:=rest) hb1 hbb1 (by rw[List.length_append];omega) hcp tN tN no;by_cases hfit:q.length+s.length≤cp
 ·simp -implicitDefEqProofs only[↓sD,sB,↓reduceIte,Nat.reduceEqDiff,reduceCtorEq,Nat.reduceAdd,hb,JI hE hb1 hfit hcp];refine Uu (bw:=bw) (b:=b) (q:=q) (s:=s) (junk:=rest.take s.length) ?_ (by rw[List.length_take];omega) hq ?_ ?_ ?_ (fun h' B3 k3 t1 g4 g5=>?_)
  ·have el:(q++rest.take s.length).length=q.length+s.length:=by rw[List.length_append,List.length_take];omega
   refine Buf.put (cp:=cp) (r:=.ofNat 0) (rest:=rest.drop s.length) ?_ ?_ ?_ hcp tN tN no
   ·rw[AE,el]
   ·rw[Al,if_neg (fun e=>no e.symm),hbb,List.append_assoc,List.take_append_drop]
   ·rw[List.append_assoc,List.take_append_drop,List.length_append];omega
  ·exact Af
  ·exact Af
  ·exact Af
  ·refine Sst (J2 g4 g5) ?_;refine hk [b] h' B3 (Wr.trans (h1:=h.upd bw (.cells [.sl b 0 (q.length+s.length) cp 0,vI 0,.int .i8 (.ofNat 0)])) (o1:= [bw,b]) ⟨by ((try simp only[nB]);omega),fun b hb hs=>by rw[Al,if_neg (fun e=>hs (by simp [e]))],fun _ hb=> .inl hb⟩ ⟨k3.nx,fun c hc hs=>k3.old c hc (fun hm=>hs (by simp only[List.mem_cons,List.not_mem_nil,or_false] at hm⊢;exact .inr hm)),fun _ hb=> .inl hb⟩)
 ·simp -implicitDefEqProofs only[↓sD,sB,↓reduceIte,Nat.reduceEqDiff,reduceCtorEq,Nat.reduceAdd,hb,GP hE hb1 (show cp<q.length+s.length by omega) hle hcp];obtain ⟨m,rfl⟩:∃m,n=m:=⟨_,rfl⟩
  refine dP hE B1 tO hsz (fun b' cp' r' e=>by rw[hb1] at e;cases e;omega) (fun h' b' junk hj B2 w2=>?_);refine AV ?_;refine Uu (b:=b') (q:=q) (junk:=junk) B2 hj hq ?_ ?_ ?_ (fun h3 B3 k3 t1 g4 g5=>?_)
  ·exact Af
  ·exact Af
  ·exact Af
  ·refine Sst (J2 g4 g5) ?_;exact hk [b'] h3 B3 ((w1.trans w2).trans ⟨k3.nx,fun c hc hs=>k3.old c hc (fun hm=>hs (by simp only[List.mem_cons,List.not_mem_nil,or_false] at hm⊢;exact .inr hm)),fun _ hb=> .inl hb⟩)
theorem uN (hE:Fns E) {bw b:K} {q:List V} {cp:Nat} {r:Int} (hb:blk h bw=.cells [.sl b 0 q.length cp 0,vI 0,.int .i8 r]):
  call E (L+1) (n+1) (.fn 196) [.ptr bw 0] none h kc=kc (.ret (.sl b 0 q.length cp 0)) none h:=by
 rw[Ag hE.f280,AcJ,Abh,mX,mW];exact Ssc (J2 hb @Mz)
theorem tH (hE:Fns E) {bw:K} {m:Nat} (_hm:m≤9223372036854775807) {h0:Hp} {o0:List K}:∀(i M:Nat) (t:T V) (h:Hp) (o:List K) (q:List V),i≤8→i+1≤M→Buf h bw o q→q.length+i≤100000000→Wr (bw::o0) h0 (bw::o) h→
  tg 0 t=.ptr bw 0→tg 1 t=vI m→tg 6 t=.int .i64 (dec i)→
  (∀t1 h1 o1,Buf h1 bw o1 (q++Ep m i)→Wr (bw::o0) h0 (bw::o1) h1→k (.exit 0) t1 d h1=true)→
  iter (exec (call E (L+4) (n+5)) (L+4) fi QP) M t d h k=true:=by
 intro i;induction i with
 |zero=>intro M t h o q hi hM B hq w g0 g1 g6 hk;obtain ⟨M,rfl⟩:=pM M;rw[Ab,QP];refine Sst (J3 g6 @KT @BG) ?_;exact hk _ _ o (by rw[Ep,List.append_nil];exact B) w
 |succ i ih=>
  intro M t h o q hi hM B hq w g0 g1 g6 hk;obtain ⟨M,rfl⟩:=pM M;have e1:Am .i64 (.ofNat (8*i))=.ofNat (8*i):=Ah tO;have e2:(i<0)=False:=eF;rw[Ab,QP];refine Tst (J7 g0 g1 g6 @Cr e1 e2 @Gl) ?_;refine Ld hE (x:=IB m i) B tO (fun o' h' B' w'=>?_);refine Sst (J3 g6 @Cr @Bi) ?_;refine ih M _ _ o' (q++ [AZ (IB m i)]) tO tO B' (by simp only[List.length_append,List.length_cons,List.length_nil];omega) (w.trans w') ?_ ?_ ?_ (fun t1 h1 o1 B1 w1=>hk t1 h1 o1 (by rw[Ep,List.append_cons];exact B1) w1)
  ·exact Ssc g0
  ·exact Ssc g1
  ·exact Af
theorem Lc (hE:Fns E) {bw:K} {o:List K} {q:List V} {m i:Nat} (hm:m≤9223372036854775807) (hi:i≤8) (hL:i≤L) (B:Buf h bw o q) (hsz:q.length+i≤100000000)
  (hk:∀o' h',Buf h' bw o' (q++Ep m i)→Wr (bw::o) h (bw::o') h'→∀v,kc (.ret v) none h'=true):
  call E (L+4) (n+6) (.fn 303) [.ptr bw 0,vI m,vI i] none h kc=true:=by
 rw[Ag hE.f432,Acx,Aa5,lQ];refine Sst (J2 @Bi @Ad) ?_;refine tH hE hm (h0:=h) (o0:=o) i _ _ _ o q hi tO B hsz (.refl _ _) ?_ ?_ ?_ (fun t1 h1 o1 B1 w1=>?_)
 ·exact Af
 ·exact Af
 ·exact Af
 ·refine AV ?_;exact hk o1 h1 B1 w1 _
end
end Go.AJ
namespace Go.AJ
open Go
def Mt:List V:= [vI 0,vI 0,.bool false,.nils,.str [],.nils,.nils]
theorem MB (l m:List Va):AC (l++m)=AC l++AC m:=by
 induction l with
 |nil=>rfl
 |cons x l ih=>simp only[List.cons_append,AC,ih,List.append_assoc]
section
variable {E:Env} {L n N:Nat} {h:Hp} {kc:KC} {t:T V} {d:Dc} {k:KE} {fi:FI} {c:KV} {C:As}
theorem uR (hE:Fns E) {g:Bool} (hk:∀h1,Ae h h1→kc (.ret (.agg [vI 1,vI (if g=true then 1 else 0),.bool false,.nils,.str [],.nils,.nils])) none h1=true):
  call E (L+1) (n+1) (.fn 302) [.bool g] none h kc=true:=by
 rw[Ag hE.f158,AcS,Abq,nV,nU,nT,nR];have e1:∀(t:T V) (h:Hp) (c:KV),oMk t [vI 0,vI 0,.bool false,.nils,.str [],.nils,.nils] [(0,1,.c (vI 1))] h c=c (.agg [vI 1,vI 0,.bool false,.nils,.str [],.nils,.nils]) h:=fun _ _ _=>rfl;have e2:∀(b:K) (x y v:V) (l:List V) (h:Hp) (f:Hp→Bool),stB (.cells (x::y::l)) b 1 [v] h f=f (h.upd b (.cells (x::v::l))):=fun _ _ _ _ _ _ _=>by simp only[stB,AN,Hr]
 cases g<;>simp -implicitDefEqProofs (disch:=exact tD) only[↓sD,sB,↓reduceIte,Nat.reduceEqDiff,reduceCtorEq,Nat.reduceAdd,e1,e2,Bu,AX,Ax]
 all_goals
  refine hk _ ?_;exact kO
theorem uE (hE:Fns E) {m:Nat} (hm:m≤100000) (hk:∀o s h1,Sl h1 7 o s 0 []→Ae h h1→(∀b∈o,(nxt h).num≤b.num)→kc (.ret s) none h1=true):
  call E (L+1) (n+1) (.fn 427) [.nils,vI m] none h kc=true:=by
 rw[Ag hE.f543,Acv,Aa3,lL,lK,lJ,lI];have e1:Am .i64 (Int.sub (.ofNat 0) (.ofNat 0))=.ofNat 0:=rfl;have e2:Am .i64 (Int.sub (.ofNat m) (.ofNat 0))=.ofNat m:=by rw[Ao (Nat.zero_le _),Nat.sub_zero,Ah tO]
 have e4:=fun (c:KV) (h:Hp)=>Je (c:=c) (h:=h) (sz:=7) (lo:=none) (hi:=some (vI 0)) (.inl rfl) (.inr ⟨_,rfl⟩);by_cases h0:0<m
 ·refine Tst (J5 @Nat.not_lt_zero e1 e2 h0 e4) ?_;refine Nr rfl tO h0 (fun cp h1 h2=>?_);refine AV ?_;rw[FR tO];refine AV ?_;refine hk [nxt h] _ _ (.row (nxt h) 0 cp [] (rep m Mt++rep (cp-m) Mt) ?_ rfl ?_ tO h2 tN) ((Ae.refl h).new _) (by simp)
  ·rw[An,AE];rfl
  ·rw[List.length_append,CJ,CJ,Mt];simp only[List.length_cons,List.length_nil];omega
 ·refine Tst (J4 @Nat.not_lt_zero e1 e2 h0) ?_;exact hk [] _ _ .nil (.refl h) (by simp)
theorem NB {b:Bool} {cp:Nat} {l:List Va} (f:Nat→List V→Bool):DQ (slR b cp (AC l) l.length) 7 h f=f l.length (AC l):=by
 unfold slR;split
 ·rename_i e;obtain rfl:l= []:=List.length_eq_zero_iff.1 e.2;rfl
 ·simp only[DQ];rw[FD,List.drop_zero,Ft _ _ _ (Nat.le_of_eq (Cs l).symm),←Cs,List.take_length]
theorem uL (hE:Fns E) {b:K} {lb mb:Bool} {lc mc:Nat} {l m:List Va} (hb:blk h b=.cells [slR lb lc (AC l) l.length,slR mb mc (AC m) m.length]) (hbn:b.num<(nxt h).num) (hlm:l.length+m.length≤100000)
  (hk:∀o s h1,Sl h1 7 o s (l.length+m.length) (AC (l++m))→Ae h h1→(∀b∈o,(nxt h).num≤b.num)→kc (.ret s) none h1=true):
  call E (L+3) (n+2) (.fn 305) [.sl b 0 2 2 0] none h kc=true:=by
 obtain ⟨B0,hB0⟩:∃B,B=Nn:=⟨_,rfl⟩
 obtain ⟨B1,hB1⟩:∃B,B=Nm:=⟨_,rfl⟩
 have e0:∀x,Am .i64 (.ofNat (0+x))=Am .i64 (.ofNat x):=fun x=>by rw[Nat.zero_add]
 have e1:Am .i64 (.ofNat l.length)=.ofNat l.length:=Ah tO;have e2:Am .i64 (.ofNat (l.length+m.length))=.ofNat (l.length+m.length):=Ah tO;have e3:Am .i64 (.ofNat 1)=.ofNat 1:=rfl;have e4:Am .i64 (.ofNat 2)=.ofNat 2:=rfl;rw[Ag hE.f397,AcG,Abe,mR,mQ,mP,mO,mN,mM];simp -implicitDefEqProofs only[↓sD,sB,↓reduceIte,reduceCtorEq,Ad,←hB0];rw[DZ hB0,Nn];refine Tst (J4 hb e1 @Nat.not_lt_zero e3) ?_;rw[DZ hB0,Nn];refine Tst (J4 hb e2 @Nat.not_lt_zero e4) ?_;rw[DZ hB0,Nn];refine Tst @Nat.lt_irrefl ?_;refine uE hE tO (fun o s h1 S1 K1 ho=>?_);have m1:=(K1.old b hbn).trans hb;simp -implicitDefEqProofs only[↓sD,sB,↓reduceIte,reduceCtorEq,Ad,←hB1];rw[DZ hB1,Nm];refine Tst m1 ?_;refine Gg (sz:=6) S1 (new:=AC l) (m:=l.length) NB (Cs l) rfl tO (fun o2 s2 h2 S2 W2=>?_);have hbo:b∉o:=fun hm=>by have:=ho b hm;omega
 have m2:=W2.get m1 (Nat.lt_of_lt_of_le hbn K1.nx) hbo;have ho2:∀b∈o2,(nxt h).num≤b.num:=fun b hb=>by rcases W2.new b hb with h3|h3;exact ho b h3;have:=K1.nx;omega
 have hbo2:b∉o2:=fun hm=>by have:=ho2 b hm;omega
 refine Sst e3 ?_;rw[DZ hB1,Nm];refine Tst m2 ?_;refine Gg (sz:=6) S2 (new:=AC m) (m:=m.length) NB (Cs m) rfl tO (fun o3 s3 h3 S3 W3=>?_);have ho3:∀b∈o3,(nxt h).num≤b.num:=fun b hb=>by rcases W3.new b hb with h3|h3;exact ho2 b h3;have:=K1.nx;have:=W2.nx;omega
 refine Sst e4 ?_;rw[DZ hB1,Nm];refine Tst @Nat.lt_irrefl ?_;refine hk o3 s3 h3 (by rw[MB];simpa only[Nat.zero_add,List.nil_append] using S3) ?_ ho3;have kk:Wr o h1 o3 h3:=W2.trans W3;exact ⟨Nat.le_trans K1.nx kk.nx,fun c hc=>by rw[kk.old c (Nat.lt_of_lt_of_le hc K1.nx) (fun hm=>by have:=ho c hm;omega),K1.old c hc]⟩
end
end Go.AJ
namespace Go.AJ
open Go
mutual
def Va.good:Va→Bool
 |.mk k n g db dc dd s lb lc l mb mc m=>AW (.mk k n g db dc dd s lb lc l mb mc m)&&BL l&&BL m
def BL:List Va→Bool
 | []=>true
 |x::l=>x.good&&BL l
end
mutual
theorem Gn:∀(x:Va) (d:Nat),(x.walk eP () d).2=x.good
 |.mk k n g db dc dd s lb lc l mb mc m,d=>by
  rw[Va.walk,Va.good,←Fr l (d+1),←Fr m (d+1)];simp only[eP];cases AW (.mk k n g db dc dd s lb lc l mb mc m)
  ·rfl
  ·simp only[if_true,Bool.true_and];cases h:(Ck eP l () (d+1)).2
   ·simp
   ·simp only[if_true,Bool.true_and]
theorem Fr:∀(l:List Va) (d:Nat),(Ck eP l () d).2=BL l
 | [],d=>by rw[Ck,BL]
 |x::l,d=>by
  rw[Ck,BL,←Gn x d,←Fr l d];cases h:(x.walk eP () d).2
  ·simp
  ·simp only[if_true,Bool.true_and]
end
mutual
def Va.enc:Va→List V
 |.mk k n g _ _ dd s _ _ l _ _ m=>
  if Aq k (.ofNat 1)=true then [AZ 1,AZ (if Aq n (.ofNat 0)=true then 0 else 1)]
  else if Aq k (.ofNat 2)=true then [AZ 2,AZ (if g=true then 1 else 0)]++(Ep dd.length 1++dd.flatMap fun x=>Ep x.toNat 4)
  else if Aq k (.ofNat 3)=true then AZ 3::(Ep s.length 1++s.map AZ)
  else if Aq k (.ofNat 4)=true then AZ 4::(Ep s.length 1++s.map AZ)
  else AZ (if Aq k (.ofNat 5)=true then 5 else 6)::(Ep l.length 2++(FB l++FB m))
def FB:List Va→List V
 | []=> []
 |x::l=>x.enc++FB l
end
theorem Oy (l m:List Va):FB (l++m)=FB l++FB m:=by
 induction l with
 |nil=>rfl
 |cons x l ih=>simp only[List.cons_append,FB,ih,List.append_assoc]
theorem MW (l m:List Va):BL (l++m)=(BL l&&BL m):=by
 induction l with
 |nil=>simp [BL]
 |cons x l ih=>simp only[List.cons_append,BL,ih,Bool.and_assoc]
theorem OG (l m:List Va):Bq (l++m)=max (Bq l) (Bq m):=by
 induction l with
 |nil=>simp [Bq]
 |cons x l ih=>simp only[List.cons_append,Bq,ih];omega
section
variable {E:Env} {L n N:Nat} {h:Hp} {kc:KC} {t:T V} {d:Dc} {k:KE} {fi:FI} {c:KV} {C:As}
theorem bX (hE:Fns E) {bw:K} {db:Bool} {dc:Nat} {dd:List Int} (hok:dd.any GR=false) (hl:dd.length≤9223372036854775807) {h0:Hp} {o0:List K}:∀(r:List Int) (i M:Nat) (t:T V) (h:Hp) (o:List K) (q:List V),dd.drop i=r→i+r.length=dd.length→r.length+1≤M→Buf h bw o q→q.length+r.length*4≤100000000→Wr (bw::o0) h0 (bw::o) h→
  tg 0 t=.ptr bw 0→tg 66 t=slR db dc (AH dd) dd.length→tg 67 t=vI dd.length→tg 68 t=vI i→
  (∀t1 h1 o1,Buf h1 bw o1 (q++r.flatMap fun x=>Ep x.toNat 4)→Wr (bw::o0) h0 (bw::o1) h1→k (.exit 3) t1 d h1=true)→
  iter (exec (call E (L+4+4) (n+6)) (L+4+4) fi Np) M t d h k=true:=by
 intro r;induction r with
 |nil=>intro i M t h o q hr hi hM B hq w g0 g66 g67 g68 hk;obtain ⟨M,rfl⟩:=pM M;have hi':(i<dd.length)=False:=eq_false (by simp at hi;omega);rw[Ab,Np];refine Tst (J3 g67 g68 hi') ?_;exact hk _ _ o (by simpa using B) w
 |cons x r ih=>
  intro i M t h o q hr hi hM B hq w g0 g66 g67 g68 hk;obtain ⟨M,rfl⟩:=pM M;simp only[List.length_cons] at hi hM hq;have hi':(i<dd.length)=True:=eT;have hx:dd.getD i 0=x:=by rw[List.getD_eq_getElem?_getD,Ak hr];rfl
  have e1:=fun c h=>AM (c:=c) (h:=h) (Bp (l:=dd) (i:=i) tO);simp only[hx] at e1;have hbx:GR x=false:=by rw[List.any_eq_false] at hok;simpa using hok x (List.mem_of_getElem? (Ak hr))
  have hx0:0≤x:=by simp only[GR,Bool.or_eq_false_iff,Cw,decide_eq_false_iff_not,Int.ofNat_eq_natCast] at hbx;omega
  have hx1:x<1000000000:=by simp only[GR,Bool.or_eq_false_iff,Cw,Bool.not_eq_false',decide_eq_true_eq,Int.ofNat_eq_natCast] at hbx;omega
  obtain ⟨y,rfl⟩:=Int.eq_ofNat_of_zero_le hx0;have hy:y≤9223372036854775807:=tO;rw[Ab,Np];refine Tst (J6 g0 g66 g67 g68 hi' e1) ?_;refine Lc hE (m:=y) (i:=4) hy tO tO B tO (fun o' h' B' w' v=>?_);refine Sst g68 ?_;refine ih (i+1) _ _ _ o' _ (Ai hr) tO tO B' (by rw[List.length_append,Bn];omega) (w.trans w') ?_ ?_ ?_ ?_ (fun t1 h1 o1 B1 w1=>hk t1 h1 o1 (by rw[List.flatMap_cons,←List.append_assoc];exact B1) w1)
  ·exact Ssc g0
  ·exact Ssc g66
  ·exact Ssc g67
  ·exact Af
def kn (E:Env) (L n D:Nat):Prop:=∀(x:Va) (h:Hp) (kc:KC) (bw:K) (o:List K) (q:List V),x.dep≤D→x.good=true→x.bulk≤L→Buf h bw o q→(q++x.enc).length≤100000000→
 (∀o' h',Buf h' bw o' (q++x.enc)→Wr (bw::o) h (bw::o') h'→∀v,kc (.ret v) none h'=true)→
 call E (L+8) n (.fn 195) [.ptr bw 0,.agg x.cells] none h kc=true
theorem bW (_hE:Fns E) {D:Nat} (hC:kn E L n D) {bw b:K} {s:List Va} {cp:Nat} {rest:List V} (hl:s.length≤100000) {h0:Hp} {o0:List K}:
  ∀(r:List Va) (i M:Nat) (t:T V) (h:Hp) (o:List K) (q:List V),s.drop i=r→i+r.length=s.length→r.length+1≤M→Bq r≤D→BL r=true→Av r≤L→Buf h bw o q→(q++FB r).length≤100000000→Wr (bw::o0) h0 (bw::o) h→
  blk h b=.cells (AC s++rest)→b.num<(nxt h).num→b≠bw→b∉o→
  tg 0 t=.ptr bw 0→tg 27 t=.sl b 0 s.length cp 0→tg 28 t=vI s.length→tg 29 t=vI i→
  (∀t1 h1 o1,Buf h1 bw o1 (q++FB r)→Wr (bw::o0) h0 (bw::o1) h1→k (.exit 1) t1 d h1=true)→
  iter (exec (call E (L+8) n) (L+8) fi JN) M t d h k=true:=by
 intro r;induction r with
 |nil=>intro i M t h o q hr hi hM hd hg hb B hq w mb nb ne no g0 g27 g28 g29 hk;obtain ⟨M,rfl⟩:=pM M;have hi':(i<s.length)=False:=eq_false (by simp at hi;omega);rw[Ab,JN];refine Tst (J3 g28 g29 hi') ?_;exact hk _ _ o (by rw[FB,List.append_nil];exact B) w
 |cons x r ih=>
  intro i M t h o q hr hi hM hd hg hb B hq w mb nb ne no g0 g27 g28 g29 hk;obtain ⟨M,rfl⟩:=pM M;simp only[List.length_cons] at hi hM;simp only[Bq] at hd;simp only[Av] at hb;rw[BL,Bool.and_eq_true] at hg;rw[FB,←List.append_assoc] at hq;have hi':(i<s.length)=True:=eT;have l7:=x.cells_length;have e1:∀(c:KV) (h:Hp),ldN (.cells (AC s++rest)) (i*7) 7 h c=c (.agg x.cells) h:=fun c h=>Ic (by
   have h1:=Ho (Ak hr);have h2:i*7+7≤(AC s).length:=by rw[Cs];omega
   rw[List.drop_append_of_le_length tO,List.take_append_of_le_length (by rw[List.length_drop];omega)];exact h1) l7
  have w1:Wr (bw::o) h (bw::o) (h.upd (nxt h) (.cells x.cells)).bump:=((Ae.refl h).new _).wr _;have B1:Buf (h.upd (nxt h) (.cells x.cells)).bump bw o q:=by obtain ⟨⟨s,r,hb,S⟩,nb,no⟩:=B;exact ⟨⟨s,r,by rw[An,Cc tO];exact hb,S.keep (fun b hb=>by rw[An,Cc (by have:=S.lt b hb;omega)]) tN⟩,by ((try simp only[nB]);omega),no⟩
  rw[Ab,JN];refine Tst (J10 g0 g27 g28 g29 hi' mb e1 @Bu @AX @Ax) ?_;refine hC x _ _ bw o q tO hg.1 tO B1 (by rw[List.length_append] at hq;omega) (fun o' h' B' w' v=>?_);have w2:=w1.trans w';refine Sst g29 ?_;have no':b∉o':=fun hm=>by
   rcases w2.new b (by simp [hm]) with h1|h1
   ·simp only[List.mem_cons] at h1;exact h1.elim ne no
   ·omega
  refine ih (i+1) _ _ _ o' _ (Ai hr) tO tO tO hg.2 tO B' hq (w.trans w2) (w2.get mb nb (by simp [ne,no])) (Nat.lt_of_lt_of_le nb w2.nx) ne no' ?_ ?_ ?_ ?_ (fun t1 h1 o1 B1 w1=>hk t1 h1 o1 (by rw[FB,←List.append_assoc];exact B1) w1)
  ·exact Ssc g0
  ·exact Ssc g27
  ·exact Ssc g28
  ·exact Af
end
end Go.AJ
namespace Go.AJ
open Go
theorem Sl.keeps {h h':Hp} {sz n:Nat} {o:List K} {s:V} {q:List V} (S:Sl h sz o s n q) (kk:Ae h h'):Sl h' sz o s n q:=S.keep (fun b hb=>kk.old b (S.lt b hb)) kk.nx
theorem Buf.keep {h h':Hp} {bw:K} {o:List K} {q:List V} (B:Buf h bw o q) (kk:Ae h h'):Buf h' bw o q:=by obtain ⟨⟨s,r,hb,S⟩,nb,no⟩:=B;exact ⟨⟨s,r,(kk.old bw nb).trans hb,S.keeps kk⟩,Nat.lt_of_lt_of_le nb kk.nx,no⟩
theorem Buf.own {h:Hp} {bw:K} {o:List K} {q:List V} (B:Buf h bw o q):∀b∈bw::o,b.num<(nxt h).num:=by
 obtain ⟨⟨s,r,hb,S⟩,nb,no⟩:=B;intro b hb;rcases List.mem_cons.1 hb with rfl|hb
 ·exact nb
 ·exact S.lt b hb
theorem Hb (l m:List Va):Av (l++m)=Av l+Av m:=by
 induction l with
 |nil=>simp [Av]
 |cons x l ih=>simp only[List.cons_append,Av,ih];omega
theorem GY (dd:List Int):(dd.flatMap fun x=>Ep x.toNat 4).length=dd.length*4:=by
 induction dd with
 |nil=>rfl
 |cons x r ih=>simp only[List.flatMap_cons,List.length_append,Bn,List.length_cons,ih];omega
noncomputable def wU:Aa:=(.block 0 (.seq (.reg [Ws 38 (.ibin .eql (Xv 16) (.c (vI 1))),Ws 37 (.mv (Xv 38))]) (.cond (Xv 37) (.draw [⟨[Ws 39 (.mv (Xv 0)),Ws 40 (.nilchk (Xv 39)),Ws 41 (.addOff (Xv 40) 0),Ws 42 (.addOff (Xv 3) 1),Ws 43 (.load1 (Xv 42)),Ws 44 (.conv .u8 (Xv 43))],[Ws 39 (.mv (Xv 0)),Ws 40 (.nilchk (Xv 39)),Ws 41 (.addOff (Xv 40) 0),Ws 42 (.addOff (Xv 3) 1),Ws 43 (.load1 (Xv 42)),Ws 44 (.conv .u8 (Xv 43))],some (Ws 45 (.call 301 [(Xv 41),(Xv 44)]))⟩,⟨[],[],none⟩] [(K.of 39),(K.of 40),(K.of 41),(K.of 42),(K.of 43),(K.of 44),(K.of 45)]) (.seq (.reg [Ws 47 (.ibin .eql (Xv 16) (.c (vI 2))),Ws 46 (.mv (Xv 47))]) (.cond (Xv 46) (.seq (.draw [⟨[Ws 48 (.mv (Xv 0)),Ws 49 (.nilchk (Xv 48)),Ws 50 (.addOff (Xv 49) 0),Ws 51 (.addOff (Xv 3) 2),Ws 52 (.addOff (Xv 51) 0),Ws 53 (.load1 (Xv 52))],[Ws 48 (.mv (Xv 0)),Ws 49 (.nilchk (Xv 48)),Ws 50 (.addOff (Xv 49) 0),Ws 51 (.addOff (Xv 3) 2),Ws 52 (.addOff (Xv 51) 0),Ws 53 (.load1 (Xv 52))],some (Ws 54 (.call 302 [(Xv 53)]))⟩,⟨[Ws 55 (.fld (Xv 54) 1 1 false),Ws 56 (.conv .u8 (Xv 55))],[Ws 48 (.mv (Xv 0)),Ws 49 (.nilchk (Xv 48)),Ws 50 (.addOff (Xv 49) 0),Ws 55 (.fld (Xv 54) 1 1 false),Ws 56 (.conv .u8 (Xv 55))],some (Ws 57 (.call 301 [(Xv 50),(Xv 56)]))⟩,⟨[],[],none⟩] [(K.of 48),(K.of 49),(K.of 50),(K.of 51),(K.of 52),(K.of 53),(K.of 54),(K.of 55),(K.of 56),(K.of 57)]) (.seq (.reg [Ws 58 (.mv (Xv 0)),Ws 59 (.addOff (Xv 3) 2),Ws 60 (.addOff (Xv 59) 1),Ws 61 (.load1 (Xv 60)),Ws 62 (.len .sl (Xv 61)),Ws 63 (.call 303 [(Xv 58),(Xv 62),(.c (vI 1))])]) (.seq (.reg [Ws 64 (.addOff (Xv 3) 2),Ws 65 (.addOff (Xv 64) 1),Ws 66 (.load1 (Xv 65)),Ws 67 (.len .sl (Xv 66)),Ws 68 (.mv (.c (vI 0)))]) (.block 3 (.loop Np))))) (.seq (.seq (.reg [Ws 77 (.ibin .eql (Xv 16) (.c (vI 3))),Ws 76 (.mv (Xv 77))]) (.cond (Xv 76) .skip (.reg [Ws 78 (.ibin .eql (Xv 16) (.c (vI 4))),Ws 76 (.mv (Xv 78))]))) (.cond (Xv 76) (.seq (.reg [Ws 79 (.mv (Xv 0)),Ws 80 (.addOff (Xv 3) 4),Ws 81 (.load1 (Xv 80)),Ws 82 (.len .str (Xv 81)),Ws 83 (.call 303 [(Xv 79),(Xv 82),(.c (vI 1))])]) (.draw [⟨[Ws 84 (.mv (Xv 0)),Ws 85 (.nilchk (Xv 84)),Ws 86 (.addOff (Xv 85) 0),Ws 87 (.addOff (Xv 3) 4),Ws 88 (.load1 (Xv 87))],[Ws 84 (.mv (Xv 0)),Ws 85 (.nilchk (Xv 84)),Ws 86 (.addOff (Xv 85) 0),Ws 87 (.addOff (Xv 3) 4),Ws 88 (.load1 (Xv 87))],some (Ws 89 (.call 304 [(Xv 86),(Xv 88)]))⟩,⟨[],[],none⟩] [(K.of 84),(K.of 85),(K.of 86),(K.of 87),(K.of 88),(K.of 89)])) (.seq (.reg [Ws 17 (.mv (Xv 0)),Ws 18 (.addOff (Xv 3) 5),Ws 19 (.load1 (Xv 18)),Ws 20 (.len .sl (Xv 19)),Ws 21 (.call 303 [(Xv 17),(Xv 20),(.c (vI 2))])]) (.seq (.reg [Ws 22 (.addOff (Xv 3) 5),Ws 23 (.load1 (Xv 22)),Ws 24 (.addOff (Xv 3) 6),Ws 25 (.load1 (Xv 24)),Ws 26 (.mkSl [.nils,.nils] [(0,1,(Xv 23)),(1,1,(Xv 25))] 2),Ws 27 (.call 305 [(Xv 26)]),Ws 28 (.len .sl (Xv 27)),Ws 29 (.mv (.c (vI 0)))]) (.block 1 (.loop JN)))))))))))
theorem va:AcK=.seq Vb (.seq U9 (.seq U8 wU)):=rfl
section
variable {E:Env} {L n N:Nat} {h:Hp} {kc:KC} {t:T V} {d:Dc} {k:KE} {fi:FI} {c:KV} {C:As}
theorem Qr (hE:Fns E) (hL9:L≤9223372036854775807) {D:Nat} (hD:∀D',D=D'+1→kn E L (n+6) D'):kn E L (n+7) D:=by
 intro x h kc bw o q hd hg hb B hq hk;have l7:=x.cells_length;have kk:Ae h (h.upd (nxt h) (.cells x.cells)).bump:=(Ae.refl h).new _;have B1:=B.keep kk;have hno:nxt h∉bw::o:=fun hm=>by have:=B.own _ hm;omega
 obtain ⟨kind,nn,neg,db,dc,dd,s,lb,lc,l,mb,mc,m⟩:=x;rw[Va.good,Bool.and_eq_true,Bool.and_eq_true] at hg;obtain ⟨⟨hf,hgl⟩,hgm⟩:=hg;simp only[Va.dep] at hd;simp only[Va.bulk] at hb;have hll:l.length≤Av l:=AL l;have hml:m.length≤Av m:=AL m
 have first:∀(kd:Nat) (hkd:kd<256),kind=.ofNat kd→(∀(h2:Hp) (o2:List K),Buf h2 bw o2 (q++ [AZ kd])→Wr (bw::o) h (bw::o2) h2→blk h2 (nxt h)=.cells (Va.mk kind nn neg db dc dd s lb lc l mb mc m).cells→(nxt h).num<(nxt h2).num→nxt h∉bw::o2→
   ∀tt,tg 0 tt=.ptr bw 0→tg 3 tt=.ptr (nxt h) 0→tg 16 tt=vI kd→exec (call E (L+8) (n+6)) (L+8) (.mk 279 none) wU tt (.mk [] none) h2 (De (call E (L+8) (n+6)) (L+8) [] kc)=true)→
   call E (L+8) (n+7) (.fn 195) [.ptr bw 0,.agg (Va.mk kind nn neg db dc dd s lb lc l mb mc m).cells] none h kc=true:=by
  intro kd hkd ek hr;subst ek;have e1:Am .u8 (.ofNat kd)=.ofNat kd:=by rw[Gl,Nat.mod_eq_of_lt hkd]
  have hq1:q.length+1≤100000000:=by
   have:1≤(Va.mk (.ofNat kd) nn neg db dc dd s lb lc l mb mc m).enc.length:=by rw[Va.enc];split<;>(try split)<;>(try split)<;>(try split)<;>simp only[List.length_cons,List.length_append,List.length_nil]<;>omega
   rw[List.length_append] at hq;omega
  rw[Ag hE.f279,va,Abi,Vb,U9,U8];simp only[Va.cells] at l7 B1 hr⊢;refine Sst e1 ?_;refine Ld hE (x:=kd) B1 hq1 (fun o2 h2 B2 w2=>?_);have n2:=w2.nx;simp only[nB] at n2;have m3:blk h2 (nxt h)=.cells (Va.mk (.ofNat kd) nn neg db dc dd s lb lc l mb mc m).cells:=w2.get (by rw[An,AE,Va.cells]) tN hno;have w3:Wr (bw::o) h (bw::o2) h2:=(kk.wr _).trans w2;have hno2:nxt h∉bw::o2:=fun hm=>by
   rcases w2.new _ hm with h1|h1
   ·exact hno h1
   ·simp only[nB] at h1;omega
  have m4:=m3;simp only[Va.cells] at m3;refine Sst m3 ?_;refine hr h2 o2 B2 w3 m3 tO hno2 _ ?_ ?_ ?_<;>simp -implicitDefEqProofs only[sB,↓reduceIte,Nat.reduceEqDiff,reduceCtorEq]
 have hkind:Aq kind (.ofNat 1)=true∨(Aq kind (.ofNat 1)=false∧(Aq kind (.ofNat 2)=true∨(Aq kind (.ofNat 2)=false∧(Aq kind (.ofNat 3)=true∨(Aq kind (.ofNat 3)=false∧(Aq kind (.ofNat 4)=true∨(Aq kind (.ofNat 4)=false∧(Aq kind (.ofNat 5)=true∨(Aq kind (.ofNat 5)=false∧Aq kind (.ofNat 6)=true))))))))):=by
  cases k1:Aq kind (.ofNat 1)
  ·cases k2:Aq kind (.ofNat 2)
   ·cases k3:Aq kind (.ofNat 3)
    ·cases k4:Aq kind (.ofNat 4)
     ·cases k5:Aq kind (.ofNat 5)
      ·cases k6:Aq kind (.ofNat 6)
       ·simp only[AW,k1,k2,k3,k4,k5,k6,Bool.false_eq_true,if_false] at hf
       ·simp
      ·simp
     ·simp
    ·simp
   ·simp
  ·simp
 rcases hkind with k1|⟨_,k2|⟨_,k34⟩⟩
 ·obtain rfl:=Au.1 k1
  have ee:(Va.mk (.ofNat 1) nn neg db dc dd s lb lc l mb mc m).enc= [AZ 1]++ [AZ (if Aq nn (.ofNat 0)=true then 0 else 1)]:=by rw[Va.enc,k1,if_pos rfl];rfl
  rw[ee,←List.append_assoc] at hk hq;have hn:nn=.ofNat (if Aq nn (.ofNat 0)=true then 0 else 1):=by
   simp only[AW,k1,if_true,Bool.and_eq_true,Bool.or_eq_true,Au] at hf;rcases hf.1.1.1 with h1|h1
   ·subst h1;rfl
   ·subst h1;rfl
  have hn2:(if Aq nn (.ofNat 0)=true then 0 else 1)<256:=by split<;>omega
  generalize (if Aq nn (.ofNat 0)=true then 0 else 1)=vb at hn hn2 hk hq;subst hn;refine first 1 tO rfl (fun h2 o2 B2 w2 m3 hn3 hno2 tt g0 g3 g16=>?_)
  have e1:Am .u8 (.ofNat vb)=.ofNat vb:=by rw[Gl,Nat.mod_eq_of_lt hn2]
  simp only[Va.cells] at m3;rw[wU];refine Sst (J5 g0 g3 g16 m3 e1) ?_;refine Ld hE (x:=vb) B2 (by simp only[List.length_append,List.length_cons,List.length_nil] at hq⊢;omega) (fun o4 h4 B4 w4=>?_);refine AV ?_;exact hk o4 h4 B4 (w2.trans w4) _
 ·obtain rfl:=Au.1 k2
  have ee:(Va.mk (.ofNat 2) nn neg db dc dd s lb lc l mb mc m).enc= [AZ 2]++([AZ (if neg=true then 1 else 0)]++(Ep dd.length 1++dd.flatMap fun x=>Ep x.toNat 4)):=by rw[Va.enc,if_neg (by decide),if_pos k2];rfl
  rw[ee] at hk hq;rw[←List.append_assoc,←List.append_assoc,←List.append_assoc] at hk hq;have hlen:=GY dd;simp only[List.length_append,List.length_cons,List.length_nil,Bn,hlen] at hq;have hok:dd.any GR=false:=by
   have e2:AW (.mk (.ofNat 2) nn neg db dc dd s lb lc l mb mc m)=(Dj neg dd&&Aq nn (.ofNat 0)&&CR s []&&decide (l.length+m.length=0)):=by rw[AW,if_neg (by decide),if_pos k2]
   rw[e2] at hf;simp only[Bool.and_eq_true,Dj,Bool.not_eq_true'] at hf;exact hf.1.1.1.2
  refine first 2 tO rfl (fun h2 o2 B2 w2 m3 hn3 hno2 tt g0 g3 g16=>?_)
  simp only[Va.cells] at m3;rw[wU];refine Tst (J4 g0 g3 g16 m3) ?_;refine uR hE (fun h3 K3=>?_);have e1:Am .u8 (.ofNat (if neg=true then 1 else 0))=.ofNat (if neg=true then 1 else 0):=by cases neg<;>rfl
  have m3:=(K3.old _ hn3).trans m3;have B3:=B2.keep K3;refine Sst (J2 g0 e1) ?_;refine Ld hE (x:=if neg=true then 1 else 0) B3 (by simp only[List.length_append,List.length_cons,List.length_nil];omega) (fun o4 h4 B4 w4=>?_);have hn3':=Nat.lt_of_lt_of_le hn3 K3.nx;have m4:=w4.get m3 hn3' hno2;have w24:=w2.trans ((K3.wr _).trans w4);have hno4:nxt h∉bw::o4:=fun hm=>by
   rcases w4.new _ hm with h1|h1
   ·exact hno2 h1
   ·omega
  have hn4:=Nat.lt_of_lt_of_le hn3' w4.nx;refine Sst (J3 g0 g3 m4) ?_;refine Lc hE (m:=dd.length) (i:=1) tO tO tO B4 (by simp only[List.length_append,List.length_cons,List.length_nil];omega) (fun o5 h5 B5 w5 v=>?_);have m5:=w5.get m4 hn4 hno4;refine Sst (J3 g3 m5 @Ad) ?_;refine bX hE hok tO (db:=db) (dc:=dc) (h0:=h5) (o0:=o5) dd 0 _ _ _ o5 _ rfl tO tO B5 (by simp only[List.length_append,List.length_cons,List.length_nil,Bn];omega) (.refl _ _) ?_ ?_ ?_ ?_ (fun t1 h6 o6 B6 w6=>?_)
  ·exact Ssc g0
  ·exact Af
  ·exact Af
  ·exact Af
  ·refine AV ?_;exact hk o6 h6 B6 ((w24.trans w5).trans w6) _
 ·have htext:∀kd,(kd=3∨kd=4)→kind=.ofNat kd→call E (L+8) (n+7) (.fn 195) [.ptr bw 0,.agg (Va.mk kind nn neg db dc dd s lb lc l mb mc m).cells] none h kc=true:=by
   intro kd hkd ek;subst ek;have ee:(Va.mk (.ofNat kd) nn neg db dc dd s lb lc l mb mc m).enc= [AZ kd]++(Ep s.length 1++s.map AZ):=by rcases hkd with rfl|rfl<;>(rw[Va.enc];simp only[AB,Nat.reduceEqDiff,decide_false,decide_true,Bool.false_eq_true,if_false,if_true,List.singleton_append])
   rw[ee] at hk hq;rw[←List.append_assoc,←List.append_assoc] at hk hq;simp only[List.length_append,List.length_cons,List.length_nil,Bn,List.length_map] at hq;refine first kd tO rfl (fun h2 o2 B2 w2 m3 hn3 hno2 tt g0 g3 g16=>?_)
   simp only[Va.cells] at m3;rw[wU];have go:call E (L+8) (n+6) (.fn 195) [] none h kc=true→True:=fun _=>trivial;rcases hkd with rfl|rfl
   all_goals
    refine Tst (J4 g0 g3 g16 m3) ?_;refine Lc hE (m:=s.length) (i:=1) tO tO tO B2 (by simp only[List.length_append,List.length_cons,List.length_nil];omega) (fun o5 h5 B5 w5 v=>?_);have m5:=w5.get m3 hn3 hno2;refine Sst (J3 g0 g3 m5) ?_;refine uG hE B5 (by simp) (by simp only[List.length_append,List.length_cons,List.length_nil,Bn];omega) (fun o6 h6 B6 w6=>?_);refine AV ?_;exact hk o6 h6 B6 ((w2.trans w5).trans w6) _
  have hcoll:∀kd,(kd=5∨kd=6)→kind=.ofNat kd→call E (L+8) (n+7) (.fn 195) [.ptr bw 0,.agg (Va.mk kind nn neg db dc dd s lb lc l mb mc m).cells] none h kc=true:=by
   intro kd hkd ek;subst ek;have ee:(Va.mk (.ofNat kd) nn neg db dc dd s lb lc l mb mc m).enc= [AZ kd]++(Ep l.length 2++FB (l++m)):=by rcases hkd with rfl|rfl<;>(rw[Va.enc,Oy];simp only[AB,Nat.reduceEqDiff,decide_false,decide_true,Bool.false_eq_true,if_false,if_true,List.singleton_append])
   rw[ee] at hk hq;rw[←List.append_assoc,←List.append_assoc] at hk hq;have hq2:=hq;simp only[List.length_append,List.length_cons,List.length_nil,Bn] at hq2;have hlm:l.length+m.length≤100000:=by
    have e2:AW (.mk (.ofNat kd) nn neg db dc dd s lb lc l mb mc m)=true:=hf;rcases hkd with rfl|rfl
    ·simp only[AW,AB,Nat.reduceEqDiff,decide_false,decide_true,Bool.false_eq_true,if_false,if_true,Bool.and_eq_true,decide_eq_true_eq,Cl,Bool.not_eq_true',decide_eq_false_iff_not] at e2;omega
    ·simp only[AW,AB,Nat.reduceEqDiff,decide_false,decide_true,Bool.false_eq_true,if_false,if_true,Bool.and_eq_true,decide_eq_true_eq,Cl,Bool.not_eq_true',decide_eq_false_iff_not] at e2;omega
   obtain ⟨D',rfl⟩:∃D',D=D'+1:=⟨D-1,by omega⟩
   have hC:=hD D' rfl;refine first kd tO rfl (fun h2 o2 B2 w2 m3 hn3 hno2 tt g0 g3 g16=>?_)
   simp only[Va.cells] at m3;rw[wU];rcases hkd with rfl|rfl
   all_goals
    refine Tst (J4 g0 g3 g16 m3) ?_;refine Lc hE (m:=l.length) (i:=2) tO tO tO B2 (by simp only[List.length_append,List.length_cons,List.length_nil];omega) (fun o5 h5 B5 w5 v=>?_);have m5:=w5.get m3 hn3 hno2;refine Sst (J2 g3 m5) ?_;have k6:Ae h5 (h5.upd (nxt h5) (.cells [slR lb lc (AC l) l.length,slR mb mc (AC m) m.length])).bump:=(Ae.refl h5).new _;refine uL hE (lb:=lb) (lc:=lc) (l:=l) (mb:=mb) (mc:=mc) (m:=m) (by rw[An,AE]) tN hlm (fun o7 s7 h7 S7 k7 ho7=>?_);have k57:=k6.trans k7;have B7:=B5.keep k57;have n6:=k6.nx;simp -implicitDefEqProofs only[↓sD,sB,↓reduceIte,Ib S7,Ad];have hl2:(l++m).length=l.length+m.length:=List.length_append;rcases S7.inv with ⟨rfl,rfl,h0,hnil⟩|⟨b,cp,rest,rfl,rfl,mb7,_,_,_,_,nb7⟩
    ·have hl0:l++m= []:=List.length_eq_zero_iff.1 tO;rw[Ab,JN];rw[h0];refine Tst @Nat.lt_irrefl ?_;rw[hl0,FB,List.append_nil] at hk;exact hk o5 h7 B7 ((w2.trans w5).trans (k57.wr _)) _
    ·have hb6:=ho7 b (by simp);have hbo:∀c∈bw::o5,c.num<b.num:=fun c hc=>by have:=B5.own c hc;simp only[nB] at hb6;omega
     rw[←hl2];refine bW hE hC (bw:=bw) (b:=b) (s:=l++m) (cp:=cp) (rest:=rest) tO (h0:=h7) (o0:=o5) (l++m) 0 _ _ _ o5 _ rfl tO tO (by rw[OG];omega) (by rw[MW,hgl,hgm];rfl) (by rw[Hb];omega) B7 hq (.refl _ _) mb7 nb7 (fun e=>by have:=hbo bw (by simp);rw[e] at this;omega) (fun hm=>by have:=hbo b (by simp [hm]);omega) ?_ ?_ ?_ ?_ (fun t1 h8 o8 B8 w8=>?_)
     ·exact Ssc g0
     ·exact Af
     ·exact Af
     ·exact Af
     ·refine AV ?_;exact hk o8 h8 B8 (((w2.trans w5).trans (k57.wr _)).trans w8) _
  rcases k34 with k3|⟨_,k4|⟨_,k5|⟨_,k6⟩⟩⟩
  ·exact htext 3 (.inl rfl) (Au.1 k3)
  ·exact htext 4 (.inr rfl) (Au.1 k4)
  ·exact hcoll 5 (.inl rfl) (Au.1 k5)
  ·exact hcoll 6 (.inr rfl) (Au.1 k6)
end
end Go.AJ
namespace Go.AJ
open Go
mutual
theorem Va.enc_le:∀x:Va,x.enc.length≤4*x.bulk
 |.mk k n g _ _ dd s _ _ l _ _ m=>by
  have h1:=Ox l;have h2:=Ox m;rw[Va.enc,Va.bulk];split
  ·simp only[List.length_cons,List.length_nil];omega
  ·split
   ·simp only[List.length_append,List.length_cons,List.length_nil,Bn,GY];omega
   ·split
    ·simp only[List.length_append,List.length_cons,Bn,List.length_map];omega
    ·split
     ·simp only[List.length_append,List.length_cons,Bn,List.length_map];omega
     ·simp only[List.length_append,List.length_cons,Bn];omega
theorem Ox:∀l:List Va,(FB l).length≤4*Av l
 | []=>Nat.le_refl 0
 |x::l=>by have h1:=x.enc_le;have h2:=Ox l;rw[FB,Av,List.length_append];omega
end
theorem Va.enc_ne (x:Va):x.enc≠ []:=by
 cases x;rw[Va.enc];split
 ·simp
 ·split
  ·simp
  ·split
   ·simp
   ·split<;>simp
def Byt (q:List V):Prop:=∀v∈q,∃x,x<256∧v=AZ x
theorem Byt.append {a b:List V} (ha:Byt a) (hb:Byt b):Byt (a++b):=fun v hv=>(List.mem_append.1 hv).elim (ha v) (hb v)
theorem Byt.cons {x:Nat} {b:List V} (hx:x<256) (hb:Byt b):Byt (AZ x::b):=fun v hv=>by
 rcases List.mem_cons.1 hv with rfl|h
 ·exact ⟨x,hx,rfl⟩
 ·exact hb v h
theorem Byt.nil:Byt []:=fun v hv=>by cases hv
theorem FZ (n k:Nat):Byt (Ep n k):=by
 induction k with
 |zero=>exact .nil
 |succ k ih=>exact .cons (Nat.mod_lt _ tO) ih
theorem Pf {s:List Nat} (h:∀x∈s,x<256):Byt (s.map AZ):=fun v hv=>by obtain ⟨x,hx,rfl⟩:=List.mem_map.1 hv;exact ⟨x,h x hx,rfl⟩
theorem UN {s:List Nat} (h:CU s=true):∀x∈s,x<256:=fun x hx=>by simp only[CU,Bool.and_eq_true,Bool.not_eq_true',List.any_eq_false] at h;have:=h.1 x hx;simp only[O0,Bool.or_eq_true,decide_eq_true_eq,not_or] at this;omega
theorem bI {s:List Nat} (h:BF s=true):∀x∈s,x<256:=fun x hx=>by
 cases s with
 |nil=>cases hx
 |cons y r=>simp only[BF,Bool.and_eq_true,List.all_eq_true] at h;have:=h.2 x hx;simp only[CO,Bo,Bool.or_eq_true,Bool.and_eq_true,Bool.not_eq_true',decide_eq_false_iff_not,decide_eq_true_eq] at this;omega
mutual
theorem Va.enc_byt:∀x:Va,x.good=true→Byt x.enc
 |.mk k n g _ _ dd s _ _ l _ _ m,h=>by
  rw[Va.good,Bool.and_eq_true,Bool.and_eq_true] at h;have h1:=KR l h.1.2;have h2:=KR m h.2;have hf:=h.1.1;rw[AW] at hf;rw[Va.enc];split
  ·exact .cons tO (.cons (by split<;>omega) .nil)
  ·rename_i k1;rw[if_neg k1] at hf;split
   ·refine .append (.cons tO (.cons (by split<;>omega) .nil)) (.append (FZ _ _) fun v hv=>?_);obtain ⟨x,_,hx⟩:=List.mem_flatMap.1 hv;exact FZ _ _ v hx
   ·rename_i k2;rw[if_neg k2] at hf;split
    ·rename_i k3;rw[if_pos k3,Bool.and_eq_true] at hf;exact .cons tO (.append (FZ _ _) (Pf (UN hf.2)))
    ·rename_i k3;rw[if_neg k3] at hf;split
     ·rename_i k4;rw[if_pos k4,Bool.and_eq_true] at hf;exact .cons tO (.append (FZ _ _) (Pf (bI hf.2)))
     ·exact .cons (by split<;>omega) (.append (FZ _ _) (.append h1 h2))
theorem KR:∀l:List Va,BL l=true→Byt (FB l)
 | [],_=> .nil
 |x::l,h=>by rw[BL,Bool.and_eq_true] at h;rw[FB];exact .append (x.enc_byt h.1) (KR l h.2)
end
theorem Hs {x:Va} (h:okV x=true):x.good=true:=by rw[okV,Bool.and_eq_true,Gn] at h;exact h.2
theorem sT {x:Va} (h:okV x=true):x.dep≤50:=by rw[okV,Bool.and_eq_true] at h;exact KN h.1
section
variable {E:Env} {L n N:Nat} {h:Hp} {kc:KC} {t:T V} {d:Dc} {k:KE} {fi:FI} {c:KV} {C:As}
theorem zI (hE:Fns E) (hL9:L≤9223372036854775807):∀(D n:Nat),kn E L (n+D+7) D:=by
 intro D;induction D with
 |zero=>intro n;exact Qr hE hL9 fun D' e=>by omega
 |succ D ih=>
  intro n;rw[show n+(D+1)+7=(n+D+1)+7 by omega];refine Qr hE hL9 fun D' e=>?_;obtain rfl:D=D':=tO;have:=ih n
  rwa [show n+D+7=n+D+1+6 by omega] at this
theorem uQ (hE:Fns E) (hL9:L≤9223372036854775800) {x:Va} (hx:okV x=true) (hb:x.bulk≤L) (hb2:x.bulk≤20000000) (hn:180≤n)
  (hk:∀o s h1,Sl h1 1 o s x.enc.length x.enc→Ae h h1→(∀b∈o,(nxt h).num≤b.num)→kc (.ret (.tup [s,vI 0])) none h1=true):
  call E (L+8) (n+1) (.fn 131) [.agg x.cells] none h kc=true:=by
 obtain ⟨n,rfl⟩:∃m,n=m+1:=⟨n-1,by omega⟩
 have l7:=x.cells_length;have k0:Ae h (h.upd (nxt h) (.cells x.cells)).bump:=kO;have hle:=x.enc_le;rw[Ag hE.f161,AcQ,Abo,nL,nK,nJ,nI,nG];refine Sst @Ax ?_;refine dW hE (L:=L+5) tO tO tO (fun h1 k1=>?_);have n1:=k1.nx;simp only[nB] at n1;have m1:=k1.old (nxt h) tN;simp -implicitDefEqProofs (disch:=exact tD) only[sB] at m1;refine Sst (J3 hx m1 @Ax) ?_;obtain ⟨n',rfl⟩:∃n',n=n'+50+6:=⟨n-56,by omega⟩
 have B1:Buf (h1.upd (nxt h1) (.cells [.nils,vI 0,.int .i8 (.ofNat 0)])).bump (nxt h1) [] []:=⟨⟨.nils,.ofNat 0,by rw[An,AE],.nil⟩,by ((try simp only[nB]);omega),by simp⟩
 refine zI hE tO 50 n' x _ _ (nxt h1) [] [] (sT hx) (Hs hx) hb B1 (by rw[List.nil_append];omega) (fun o2 h2 B2 w2 v=>?_);rw[List.nil_append] at B2;obtain ⟨b,cp,r,rest,rfl,hbw,hbb,hr,hle2,hcp,hnb,nb,no⟩:=B2.row x.enc_ne;refine AV ?_;rw[uN hE hbw];refine AV ?_;have kk1:Ae h h1:=k0.trans k1;have hb3:(nxt h1).num≤b.num:=by
  rcases w2.new b (by simp) with h3|h3
  ·simp only[List.mem_cons,List.not_mem_nil,or_false] at h3;exact absurd h3.symm no
  ·simp only[nB] at h3;omega
 refine hk [b] _ h2 (.row b _ cp _ rest hbb tO tO hle2 hcp hnb) ⟨?_,fun c hc=>?_⟩ (fun c hc=>?_)
 ·have:=w2.nx;have:=kk1.nx;simp only[nB] at*;omega
 ·have:=kk1.nx;rw[w2.old c tN (by simp only[List.mem_cons,List.not_mem_nil,or_false];exact fun e=>by subst e;omega),An,Cc tO];exact kk1.old c hc
 ·simp only[List.mem_cons,List.not_mem_nil,or_false] at hc;subst hc;have:=kk1.nx;omega
end
end Go.AJ
namespace Go.AJ
open Go
def eR (n:Nat):List V:= [AZ (Nat.div n (Nat.pow 2 (min 24 IntKind.i64.bits))%256),AZ (Nat.div n (Nat.pow 2 (min 16 IntKind.i64.bits))%256),AZ (Nat.div n (Nat.pow 2 (min 8 IntKind.i64.bits))%256),AZ (n%256)]
theorem hU (n:Nat):Byt (eR n):=
 .cons (Nat.mod_lt _ tO) (.cons (Nat.mod_lt _ tO) (.cons (Nat.mod_lt _ tO) (.cons (Nat.mod_lt _ tO) .nil)))
def Ie:List Va→List V
 | []=> []
 |x::l=>eR x.enc.length++(x.enc++Ie l)
theorem Hw:∀{l:List Va},l.all okV=true→Byt (Ie l)
 | [],_=> .nil
 |x::l,h=>by rw[List.all_cons,Bool.and_eq_true] at h;exact .append (hU _) (.append (x.enc_byt (Hs h.1)) (Hw h.2))
theorem Oq:∀l:List Va,(Ie l).length≤8*Av l
 | []=>Nat.le_refl 0
 |x::l=>by
  have h1:=x.enc_le;have h2:=Oq l;have h3:1≤x.bulk:=by cases x;rw[Va.bulk];omega
  rw[Ie,Av,List.length_append,List.length_append,show (eR x.enc.length).length=4 from rfl];omega
theorem ce (p:List Va) (x:Va):Ie p++eR x.enc.length++x.enc=Ie (p++ [x]):=by
 induction p with
 |nil=>simp only[Ie,List.nil_append,List.append_nil]
 |cons y p ih=>simp only[List.cons_append,Ie,←ih,List.append_assoc]
def unB (v:V):Nat:=match v with|.int _ (.ofNat n)=>n|_=>0
def I6 (l:List Va):List Nat:=98::(Ie l).map unB
theorem Js:∀{q:List V} (f:List Nat→Bool),Byt q→H6 q f=f (q.map unB)
 | [],f,_=>rfl
 |v::q,f,h=>by obtain ⟨x,hx,rfl⟩:=h v (by simp);simp only[H6,AZ,Nat.blt_eq▸(show x<256 from hx:x<256)];exact Js _ fun w hw=>h w (by simp [hw])
section
variable {E:Env} {L n N:Nat} {h:Hp} {kc:KC} {t:T V} {d:Dc} {k:KE} {fi:FI} {c:KV} {C:As}
noncomputable def AbE (v w x y a b e g:V) (n:Nat) (h:Hp) (c:KV):Bool:=Ba v fun q=>BP q 1 (AN 0 [a,b,e,g] q fun z=>Ba w fun q'=>BP q' 1 (AN 1 z q' fun z'=>Ba x fun q''=>BP q'' 1 (AN 2 z' q'' fun z''=>Ba y fun q3=>BP q3 1 (AN 3 z'' q3 fun z3=>Bw h (.cells z3) fun b h'=>c (.sl b 0 n n 0) h'))))
theorem zf {a b e g:V} {x y z w:X} {n:Nat}:Gz t [a,b,e,g] [(0,1,x),(1,1,y),(2,1,z),(3,1,w)] n h c=AbE (ev t x) (ev t y) (ev t z) (ev t w) a b e g n h c:=rfl
theorem gz {k1 k2 k3 k4:IntKind} {a1 a2 a3 a4:Int} {a b e g:V} {n:Nat}:AbE (.int k1 a1) (.int k2 a2) (.int k3 a3) (.int k4 a4) a b e g n h c=c (.sl (nxt h) 0 n n 0) (h.upd (nxt h) (.cells [.int k1 a1,.int k2 a2,.int k3 a3,.int k4 a4])).bump:=by simp only[AbE,Ba,BP,AN,Hr,Ar]
theorem RG {o:List K} {s:V} {n:Nat} {q:List V} (S:Sl h 1 o s n q) (hq:Byt q):EZ s h c=c (.str (q.map unB)) h:=by
 cases S with
 |nil=>rfl
 |row b n cp q rest hb hl hr hle hcp hnb=>
  cases n with
  |zero=>obtain rfl:q= []:=List.length_eq_zero_iff.1 (by simpa using hl);rfl
  |succ n=>simp only[EZ,CQ hb];rw[FD,List.drop_zero,Ft _ _ _ (by rw[List.length_append];omega),show n+1=q.length by omega,List.take_left,Js _ hq]
theorem tR (hE:Fns E) (hL9:L≤9223372036854775800) (hn:181≤n) {b:Bool} {cp:Nat} {s:List Va} (hok:s.all okV=true) (hbs:Av s≤L) (hbs2:Av s≤20000000) {h0:Hp}:
  ∀(r p:List Va) (i M:Nat) (t:T V) (h:Hp) (o:List K) (sl:V),s.drop i=r→p++r=s→p.length=i→r.length+1≤M→Sl h 1 o sl (Ie p).length (Ie p)→Ae h0 h→(∀b∈o,(nxt h0).num≤b.num)→
  tg 3 t=sl→tg 8 t=slR b cp (AC s) s.length→tg 9 t=vI s.length→tg 10 t=vI i→
  (∀t1 h1 o1 s1,Sl h1 1 o1 s1 (Ie s).length (Ie s)→Ae h0 h1→tg 3 t1=s1→k (.exit 0) t1 d h1=true)→
  iter (exec (call E (L+8) n) (L+8) fi QU) M t d h k=true:=by
 intro r;induction r with
 |nil=>intro p i M t h o sl hr hp hi hM S K0 ho g3 g8 g9 g10 hk;obtain ⟨M,rfl⟩:=pM M;rw[List.append_nil] at hp;subst hp;have hi':(i<p.length)=False:=eF;rw[Ab,QU];refine Tst (J3 g9 g10 hi') ?_;exact hk _ _ o sl S K0 (Ssc g3)
 |cons x r ih=>
  intro p i M t h o sl hr hp hi hM S K0 ho g3 g8 g9 g10 hk;obtain ⟨M,rfl⟩:=pM M;have hsl:s.length=i+(r.length+1):=by rw[←hp,List.length_append,List.length_cons,hi]
  simp only[List.length_cons] at hM;have hi':(i<s.length)=True:=eT;have l7:=x.cells_length;have e1:=fun c h=>Dr (c:=c) (h:=h) (Ak hr);have hx:okV x=true:=by rw[List.all_eq_true] at hok;exact hok x (by rw[←hp];simp)
  have hpb:Av p+x.bulk+Av r=Av s:=by rw[←hp,Hb,Av];omega
  have hkp:=Oq p;have hxe:=x.enc_le;have hls:=AL s;have k1:Ae h (h.upd (nxt h) (.cells x.cells)).bump:=(Ae.refl h).new _;rw[Ab,QU];refine Tst (J8 g8 g9 g10 hi' e1 @Bu @AX @Ax) ?_;obtain ⟨n',rfl⟩:∃n',n=n'+1:=⟨n-1,by omega⟩
  refine uQ hE hL9 hx tO tO tO (fun o2 s2 h2 S2 K2 ho2=>?_);have K3:Ae h h2:=k1.trans K2;have S3:=S.keeps K3;simp -implicitDefEqProofs (disch:=exact tD) only[↓sD,sB,↓reduceIte,Nat.reduceEqDiff,g3,Ib S2,Gl,zf,gz];have k4:Ae h2 (h2.upd (nxt h2) (.cells (eR x.enc.length))).bump:=(Ae.refl h2).new _;have e4:blk (h2.upd (nxt h2) (.cells (eR x.enc.length))).bump (nxt h2)=.cells (eR x.enc.length):=by rw[An,AE]
  change eQ _ _ _ _ _ (h2.upd (nxt h2) (.cells (eR x.enc.length))).bump _=true;refine Gg (sz:=0) (S3.keeps k4) (new:=eR x.enc.length) (m:=4) (fun f=>?_) rfl rfl tO (fun o5 s5 h5 S5 w5=>?_)
  ·exact DK (q:=eR x.enc.length) (f:=fun l=>f 4 l) e4 (by rw[List.drop_zero];rfl) rfl
  have ho5:∀c∈o2,c∉o:=fun c hc hm=>by have h6:=ho2 c hc;have h7:=S.lt c hm;simp only[nB] at h6;omega
  have S2':=(S2.keeps k4).by (p':=o5) w5 ho5;refine AV ?_;refine Gg (sz:=0) S5 (new:=x.enc) (m:=x.enc.length) (kA S2') tO rfl tO (fun o6 s6 h6 S6 w6=>?_);have w56:=w5.trans w6;have eK:=ce p x;have eL:(Ie p).length+4+x.enc.length=(Ie (p++ [x])).length:=by rw[←eK,List.length_append,List.length_append];rfl
  rw[eK,eL] at S6;have hnx:(nxt h0).num≤(nxt h).num:=K0.nx;have kk:Ae h0 h6:=by have K03:=(K0.trans K3).trans k4;exact ⟨Nat.le_trans K03.nx w56.nx,fun c hc=>by rw[w56.old c (Nat.lt_of_lt_of_le hc K03.nx) (fun hm=>by have:=ho c hm;omega),K03.old c hc]⟩
  have ho6:∀c∈o6,(nxt h0).num≤c.num:=fun c hc=>by
   rcases w56.new c hc with h7|h7
   ·exact ho c h7
   ·have:=(K0.trans K3).trans k4|>.nx;omega
  refine Sst g10 ?_;refine ih (p++ [x]) (i+1) M _ h6 o6 s6 (Ai hr) (by rw[List.append_assoc];exact hp) (by rw[List.length_append,hi];rfl) tO S6 kk ho6 ?_ ?_ ?_ ?_ hk
  ·exact Af
  ·exact Ssc g8
  ·exact Ssc g9
  ·exact Af
theorem uW (hE:Fns E) (hL9:L≤9223372036854775800) (hn:181≤n) {b:Bool} {cp:Nat} {s:List Va} (hok:s.all okV=true) (hbs:Av s≤L) (hbs2:Av s≤20000000)
  (hk:∀h1,Ae h h1→kc (.ret (.str (I6 s))) none h1=true):
  call E (L+8) (n+1) (.fn 89) [slR b cp (AC s) s.length] none h kc=true:=by
 have hls:=AL s;have hkl:=Oq s;rw[Ag hE.f102,AcX,Abv,ox,ov,ou,ot];refine Sst @Ad ?_;refine tR hE hL9 hn (b:=b) (cp:=cp) hok hbs hbs2 (h0:=h) s [] 0 _ _ h [] .nils rfl rfl rfl tO .nil (.refl h) (by simp) ?_ ?_ ?_ ?_ (fun t1 h1 o1 s1 S1 K1 g3=>?_)
 ·exact Af
 ·exact Af
 ·exact Af
 ·exact Af
 ·simp -implicitDefEqProofs only[↓sD,sB,↓reduceIte,g3,RG S1 (Hw hok)];rw[xk (by simp only[List.length_cons,List.length_nil,List.length_map];omega)];refine AV ?_;exact hk h1 K1
end
end Go.AJ
