/- The equations of the interpreter, for values that are not known. Nothing is asked of the program. -/
import Derived.Test.YtgdbpnpolelfoaaGreatDoorAiD
set_option linter.all false
namespace Go.AJ
open Go
section
variable {C:As} {L:Nat} {fi:FI} {t:T V} {d:Dc} {h:Hp} {k:KE} {E:Env} {c:KV} {ks:KS} {kp:KP}
def gv (k:KE):KS:=fun t' d' h'=>k .normal t' d' h'
def xy (k:KE) (q:List K):KP:=fun ch t' d' h'=>k (.panic ch q) t' d' h'
def Ack:KP:=fun _ _ _ _=>false
noncomputable def GH (C:As) (L:Nat) (fi:FI) (b:Aa) (k:KE):T V→Dc→Hp→Bool:=fun t' d' h'=>exec C L fi b t' d' h' k
noncomputable def yK (C:As) (l:List AO) (ks:KS) (kp:KP):KS:=fun t' d' h'=>Bv C l t' d' h' ks kp
noncomputable def iZ (C:As) (chk:List AO) (hv:Option AO) (l:List Fe) (ks:KS) (kp:KP):KS:=fun t1 d1 h1=>if Br t1 h1 chk=true then (match hv with
    |none=>AY C l t1 d1 h1 ks kp
    |some o=>Bv C [o] t1 d1 h1 (fun t2 d2 h2=>AY C l t2 d2 h2 ks kp) kp) else false
noncomputable def Ux (C:As) (l:List Fe) (ks:KS) (kp:KP):KS:=fun t2 d2 h2=>AY C l t2 d2 h2 ks kp
noncomputable def dL (dst:Option K) (t:T V) (d:Dc) (ks:KS) (kp:KP):KC:=fun e _ h'=>Ix dst t d ks kp e h'
noncomputable def isV (v:V):KV:=fun v' _=>veq 40 v' v
def isT (v:V):Bool:=match v with|.bool b=>b|_=>false
def isF (v:V):Bool:=match v with|.bool b=> !b|_=>false
noncomputable def Aao (C:As) (L:Nat) (fi:FI) (body:Aa) (cm:Option Md) (h:Hp) (kc:KE):T V→Bool:=fun t=>exec C L fi body t (.mk [] cm) h kc
theorem gu:gv k t d h=k .normal t d h:=rfl
theorem r4 {ch:List PE} {q:List K}:xy k q ch t d h=k (.panic ch q) t d h:=rfl
theorem iI {b:Aa}:GH C L fi b k t d h=exec C L fi b t d h k:=rfl
theorem sA {l:List AO}:yK C l ks kp t d h=Bv C l t d h ks kp:=rfl
theorem Rh {l:List Fe}:Ux C l ks kp t d h=AY C l t d h ks kp:=rfl
theorem jq {dst:Option K} {e:End} {u:Option Md} {h':Hp}:dL dst t d ks kp e u h'=Ix dst t d ks kp e h':=rfl
theorem zt {v v':V}:isV v v' h=veq 40 v' v:=rfl
theorem im {b:Bool}:isT (.bool b)=b:=rfl
theorem io {b:Bool}:isF (.bool b)= !b:=rfl
theorem jY {body:Aa} {cm:Option Md}:Aao C L fi body cm h k t=exec C L fi body t (.mk [] cm) h k:=rfl
theorem cU:exec C L fi .skip t d h k=k .normal t d h:=rfl
theorem iH {l:List AO}:exec C L fi (.reg l) t d h k=Bv C l t d h (gv k) (xy k []):=rfl
theorem cY {l:List Fe} {q:List K}:exec C L fi (.draw l q) t d h k=AY C l t d h (gv k) (xy k q):=rfl
theorem iE {a b:Aa}:exec C L fi (.seq a b) t d h k=exec C L fi a t d h (Dd (GH C L fi b k) k):=rfl
theorem cZ {x:X} {a b:Aa}:exec C L fi (.cond x a b) t d h k=if isT (ev t x)=true then exec C L fi a t d h k else if isF (ev t x)=true then exec C L fi b t d h k else false:=by
 show dq (ev t x) (exec C L fi a t d h k) (exec C L fi b t d h k)=_;generalize ev t x=v;cases v with
 |bool b=>cases b<;>rfl
 |_=>rfl
theorem Tz {id:Nat} {a:Aa}:exec C L fi (.block id a) t d h k=exec C L fi a t d h (Ek id k):=rfl
theorem Ad {a:Aa}:exec C L fi (.loop a) t d h k=iter (exec C L fi a) L t d h k:=rfl
theorem cW {id:Nat}:exec C L fi (.exit id) t d h k=k (.exit id) t d h:=rfl
theorem iG:exec C L fi .ret t d h k=k .ret t d h:=rfl
theorem Ab {a:Aa} {n:Nat}:iter (exec C L fi a) (n+1) t d h k=exec C L fi a t d h (Dd (fun t' d' h'=>iter (exec C L fi a) n t' d' h' k) k):=rfl
theorem EG {r:T V→Dc→Hp→Bool}:Dd r k .normal t d h=r t d h:=rfl
theorem Ta {r:T V→Dc→Hp→Bool} {id:Nat}:Dd r k (.exit id) t d h=k (.exit id) t d h:=rfl
theorem MS {r:T V→Dc→Hp→Bool}:Dd r k .ret t d h=k .ret t d h:=rfl
theorem Os {r:T V→Dc→Hp→Bool} {ch:List PE} {q:List K}:Dd r k (.panic ch q) t d h=k (.panic ch q) t d h:=rfl
theorem Gf {id:Nat}:Ek id k .normal t d h=k .normal t d h:=rfl
theorem JL {id:Nat}:Ek id k .ret t d h=k .ret t d h:=rfl
theorem Nh {id:Nat} {ch:List PE} {q:List K}:Ek id k (.panic ch q) t d h=k (.panic ch q) t d h:=rfl
theorem IE {id id':Nat}:Ek id k (.exit id') t d h=if id=id' then k .normal t d h else k (.exit id') t d h:=by
 simp only[Ek];split
 ·rename_i e;rw[if_pos (Nat.eq_of_beq_eq_true e)]
 ·rename_i e;rw[if_neg (fun e'=>by subst e';rw[Nat.beq_refl] at e;cases e)]
theorem RA:Bv C [] t d h ks kp=ks t d h:=rfl
def Uk (v:V) (w:Bool):Bool:=match v with
 |.bool b=>b==w
 |_=>false
theorem Q9 {b w:Bool}:Uk (.bool b) w=(b==w):=rfl
noncomputable def fE (dst:Option K) (v:V) (t:T V) (d:Dc) (h:Hp) (ks:KS):Bool:=put dst v t fun t'=>ks t' d h
theorem UL {p:K} {v:V}:fE (some p) v t d h ks=ks (T.ins und v p t) d h:=by simp only[fE,put,T.set_eq]
theorem UM {v:V}:fE none v t d h ks=ks t d h:=rfl
theorem sy {dst:Option K} {op:AOp} {l:List AO}:Bv C (⟨dst,none,op⟩::l) t d h ks kp=Bd C op dst t d h (yK C l ks kp) kp:=rfl
theorem HG {p:K} {w:Bool} {y n:Bool}:wanted (some (p,w)) t y n=if Uk (T.get und p t) w=true then y else n:=by
 simp only[wanted];generalize T.get und p t=v;cases v with
 |bool b=>cases b<;>cases w<;>rfl
 |_=>rfl
theorem fK {dst:Option K} {p:K} {w:Bool} {op:AOp} {l:List AO}:Bv C (⟨dst,some (p,w),op⟩::l) t d h ks kp=
  if Uk (T.get und p t) w=true then Bd C op dst t d h (yK C l ks kp) kp else fE dst und t d h (yK C l ks kp):=by
 show wanted (some (p,w)) t _ _=_;rw[HG];rfl
theorem Aca {dst:Option K} {v:V}:kv dst t d ks v h=fE dst v t d h ks:=rfl
theorem Acb {dst:Option K}:kh dst t d ks h=fE dst und t d h ks:=rfl
theorem Adq {p:K}:ev t (.t p)=T.get und p t:=rfl
theorem Adr {v:V}:ev t (.c v)=v:=rfl
theorem uj:evs t []= []:=rfl
theorem iK {x:X} {l:List X}:evs t (x::l)=ev t x::evs t l:=rfl
theorem iM:evo t none=none:=rfl
theorem iL {x:X}:evo t (some x)=some (ev t x):=rfl
theorem get_ins {a b:Nat} {v:V}:T.get und (K.of a) (T.ins und v (K.of b) t)=if a=b then v else T.get und (K.of a) t:=by
 rw[T.get_ins];by_cases e:a=b
 ·rw[if_pos (by rw[e]),if_pos e]
 ·rw[if_neg (fun h=>e (K.of_inj h)),if_neg e]
theorem yP {x:X} {dst:Option K}:Bd C (.mvh x) dst t d h ks kp=kv dst t d ks (ev t x) h:=rfl
theorem Abz {x:X} {dst:Option K}:Bd C (.mv x) dst t d h ks kp=kv dst t d ks (ev t x) h:=rfl
theorem sE {x a b:X} {dst:Option K}:Bd C (.pick x a b) dst t d h ks kp=IX (ev t x) (ev t a) (ev t b) h (kv dst t d ks):=rfl
theorem fP {x:X} {dst:Option K}:Bd C (.load1 x) dst t d h ks kp=BU (ev t x) h (kv dst t d ks):=rfl
theorem fO {x:X} {n:Nat} {dst:Option K}:Bd C (.loadN x n) dst t d h ks kp=CV (ev t x) n h (kv dst t d ks):=rfl
theorem bf {x:X} {n:Nat} {dst:Option K}:Bd C (.addOff x n) dst t d h ks kp=CL (ev t x) n h (kv dst t d ks):=rfl
theorem sK {o:IOp} {x y:X} {dst:Option K}:Bd C (.ibin o x y) dst t d h ks kp=AU o (ev t x) (ev t y) h (kv dst t d ks):=rfl
theorem sC {o:SOp} {x y:X} {dst:Option K}:Bd C (.sbin o x y) dst t d h ks kp=Fw o (ev t x) (ev t y) h (kv dst t d ks):=rfl
theorem yW {neg:Bool} {q:EK} {x y:X} {dst:Option K}:Bd C (.eqv neg q x y) dst t d h ks kp=oEq neg q (ev t x) (ev t y) h (kv dst t d ks):=rfl
theorem yY {x:X} {dst:Option K}:Bd C (.box x) dst t d h ks kp=Kq (ev t x) h (kv dst t d ks):=rfl
theorem fR {z:List V} {dst:Option K}:Bd C (.alloc z) dst t d h ks kp=kv dst t d ks (.ptr (nxt h) 0) (h.upd (nxt h) (.cells z)).bump:=by show Bw h (.cells z) (fun b h'=>kv dst t d ks (.ptr b 0) h')=_;rw[Ar]
theorem AbA {z:List V} {ps:List (Nat×Nat×X)} {dst:Option K}:Bd C (.mk z ps) dst t d h ks kp=oMk t z ps h (kv dst t d ks):=rfl
theorem sG {z:List V} {ps:List (Nat×Nat×X)} {n:Nat} {dst:Option K}:Bd C (.mkSl z ps n) dst t d h ks kp=Gz t z ps n h (kv dst t d ks):=rfl
theorem yM {x:X} {dst:Option K}:Bd C (.not x) dst t d h ks kp=fX (ev t x) h (kv dst t d ks):=rfl
theorem yN {x:X} {dst:Option K}:Bd C (.neg x) dst t d h ks kp=sZ (ev t x) h (kv dst t d ks):=rfl
theorem yT {x i:X} {sz:Nat} {dst:Option K}:Bd C (.idx x i sz) dst t d h ks kp=Jq (ev t x) (ev t i) sz h (kv dst t d ks):=rfl
theorem sJ {x i:X} {sz n:Nat} {dst:Option K}:Bd C (.idxA x i sz n) dst t d h ks kp=IZ (ev t x) (ev t i) sz n h (kv dst t d ks):=rfl
theorem fL {a x:X} {n:Nat} {dst:Option K}:Bd C (.store a x n) dst t d h ks kp=Bj (ev t a) (ev t x) n h (kh dst t d ks):=rfl
theorem aX {x:X} {dst:Option K}:Bd C (.nilchk x) dst t d h ks kp=DW (ev t x) h (kv dst t d ks):=rfl
theorem yV {x:X} {i:Nat} {dst:Option K}:Bd C (.ext x i) dst t d h ks kp=bu (ev t x) i h (kv dst t d ks):=rfl
theorem fM {x:X} {a b m:Option X} {sz:Nat} {dst:Option K}:Bd C (.slice x a b m sz) dst t d h ks kp=BT (ev t x) (evo t a) (evo t b) (evo t m) sz h (kv dst t d ks):=rfl
theorem sI {x i:X} {sz n:Nat} {agg:Bool} {dst:Option K}:Bd C (.idxG x i sz n agg) dst t d h ks kp=IY (ev t x) (ev t i) sz n agg h (kv dst t d ks):=rfl
theorem sM {ik:IntKind} {x:X} {dst:Option K}:Bd C (.conv ik x) dst t d h ks kp=Ko ik (ev t x) h (kv dst t d ks):=rfl
theorem yU {x:X} {o n:Nat} {agg:Bool} {dst:Option K}:Bd C (.fld x o n agg) dst t d h ks kp=gg (ev t x) o n agg h (kv dst t d ks):=rfl
theorem RF {l cp:X} {z:List V} {by_:Nat} {dst:Option K}:Bd C (.mkslice l cp z by_) dst t d h ks kp=Bf (ev t l) (ev t cp) z by_ h (kv dst t d ks):=rfl
theorem yR {q:LK} {x:X} {dst:Option K}:Bd C (.len q x) dst t d h ks kp=GX q (ev t x) h (kv dst t d ks):=rfl
theorem yZ {s x:X} {sz by_:Nat} {u:Option (List V)} {dst:Option K}:Bd C (.app s x sz by_ u) dst t d h ks kp=eQ u (ev t s) (ev t x) sz by_ h (kv dst t d ks):=rfl
theorem sN {f:Nat} {l:List X} {dst:Option K}:Bd C (.call f l) dst t d h ks kp=C (.fn f) (evs t l) none h (dL dst t d ks kp):=rfl
theorem OS {dst:Option K} {v:V}:Ix dst t d ks kp (.ret v) h=fE dst v t d h ks:=rfl
theorem iY:AY C [] t d h ks kp=ks t d h:=rfl
theorem da {ops chk:List AO} {hv:Option AO} {l:List Fe}:AY C (⟨ops,chk,hv⟩::l) t d h ks kp=Bv C ops t d h (iZ C chk hv l ks kp) Ack:=by simp only[AY];congr 1;funext t1 d1 h1;simp only[iZ];cases Br t1 h1 chk<;>rfl
theorem TF {chk:List AO} {l:List Fe}:iZ C chk none l ks kp t d h=if Br t h chk=true then AY C l t d h ks kp else false:=rfl
theorem TE {chk:List AO} {o:AO} {l:List Fe}:iZ C chk (some o) l ks kp t d h=if Br t h chk=true then Bv C [o] t d h (Ux C l ks kp) kp else false:=rfl
theorem TN:Br t h []=true:=rfl
theorem OP {o:AO} {l:List AO}:Br t h (o::l)=(TM o t h&&Br t h l):=by simp only[Br];cases TM o t h<;>rfl
theorem uy {p:K} {op:AOp}:TM ⟨some p,none,op⟩ t h=Bg op t h (T.get und p t):=rfl
theorem jd {p q:K} {w:Bool} {op:AOp}:TM ⟨some p,some (q,w),op⟩ t h=if Uk (T.get und q t) w=true then Bg op t h (T.get und p t) else veq 2 und (T.get und p t):=by show wanted (some (q,w)) t _ _=_;rw[HG]
theorem zM {x:X} {v:V}:Bg (.mv x) t h v=veq 40 (ev t x) v:=rfl
theorem jf {x a b:X} {v:V}:Bg (.pick x a b) t h v=IX (ev t x) (ev t a) (ev t b) h (isV v):=rfl
theorem dH {x:X} {v:V}:Bg (.load1 x) t h v=BU (ev t x) h (isV v):=rfl
theorem jj {o:IOp} {x y:X} {v:V}:Bg (.ibin o x y) t h v=AU o (ev t x) (ev t y) h (isV v):=rfl
theorem uv {x i:X} {sz:Nat} {v:V}:Bg (.idx x i sz) t h v=Jq (ev t x) (ev t i) sz h (isV v):=rfl
theorem ji {x i:X} {sz n:Nat} {v:V}:Bg (.idxA x i sz n) t h v=IZ (ev t x) (ev t i) sz n h (isV v):=rfl
theorem TJ {x:X} {v:V}:Bg (.nilchk x) t h v=DW (ev t x) h (isV v):=rfl
theorem ux {x:X} {i:Nat} {v:V}:Bg (.ext x i) t h v=bu (ev t x) i h (isV v):=rfl
theorem jk {ik:IntKind} {x:X} {v:V}:Bg (.conv ik x) t h v=Ko ik (ev t x) h (isV v):=rfl
theorem jh {x i:X} {sz n:Nat} {agg:Bool} {v:V}:Bg (.idxG x i sz n agg) t h v=IY (ev t x) (ev t i) sz n agg h (isV v):=rfl
theorem uu {q:LK} {x:X} {v:V}:Bg (.len q x) t h v=GX q (ev t x) h (isV v):=rfl
theorem ut {x:X} {v:V}:Bg (.not x) t h v=fX (ev t x) h (isV v):=rfl
theorem Ny {n:Nat} {ik ik':IntKind} {a b:Int}:veq (n+1) (.int ik a) (.int ik' b)=(kEq ik ik'&&Aq a b):=by simp only[veq];cases kEq ik ik'<;>rfl
theorem Hx {ik:IntKind}:kEq ik ik=true:=by simp [kEq]
theorem eW {n:Nat} {a b:Bool}:veq (n+1) (.bool a) (.bool b)=(a==b):=by cases a<;>cases b<;>rfl
theorem qh {n:Nat} {b:K} {o:Nat}:veq (n+1) (.ptr b o) (.ptr b o)=true:=by simp [veq,K.beq_refl]
theorem wW {n:Nat} {b:K} {o l cp q:Nat}:veq (n+1) (.sl b o l cp q) (.sl b o l cp q)=true:=by simp [veq,K.beq_refl]
theorem eV {n:Nat}:veq (n+1) .nils .nils=true:=rfl
theorem qe {n:Nat}:veq (n+1) und und=true:=rfl
theorem UQ {b:Bool} {x y:V}:IX (.bool b) x y h c=c (if b=true then x else y) h:=by cases b<;>rfl
theorem AB {a b:Nat}:Aq (.ofNat a) (.ofNat b)=decide (a=b):=by
 rw[Ec];by_cases e:a=b
 ·subst e;simp
 ·rw[decide_eq_false e,decide_eq_false (fun e'=>e (Int.ofNat.inj e'))]
theorem AG {a:Int}:Aq a a=true:=Au.2 rfl
theorem Eh {b:Bool}:mkB b h c=c (.bool b) h:=by cases b<;>rfl
theorem Fm {ik:IntKind} {n:Int}:mkI ik n h c=c (.int ik (Am ik n)) h:=by unfold mkI;rw[F2]
theorem FP {n:Nat}:Am .u64 (.ofNat n)=.ofNat (n%18446744073709551616):=rfl
theorem Ah {n:Nat} (hn:n≤9223372036854775807):Am .i64 (.ofNat n)=.ofNat n:=by simp only[Am];rw[Nat.ble_eq_true_of_le hn]
theorem KL {ik:IntKind} {a b:Int} (hk:BO ik ik true=true):AU .add (.int ik a) (.int ik b) h c=c (.int ik (Am ik (Int.add a b))) h:=by cases ik<;>first|exact Fm|cases hk
theorem KB {ik:IntKind} {a b:Int} (hk:BO ik ik true=true):AU .sub (.int ik a) (.int ik b) h c=c (.int ik (Am ik (Int.sub a b))) h:=by cases ik<;>first|exact Fm|cases hk
theorem KF {ik:IntKind} {a b:Int} (hk:BO ik ik true=true):AU .mul (.int ik a) (.int ik b) h c=c (.int ik (Am ik (Int.mul a b))) h:=by cases ik<;>first|exact Fm|cases hk
theorem Ce {ik:IntKind} {x:Bool} (hk:BO ik ik true=true):BO ik ik x=x:=by cases ik<;>first|rfl|cases hk
theorem D5 {ik:IntKind} {a b:Int} (hk:BO ik ik true=true) (hb:Aq b 0=false):AU .quo (.int ik a) (.int ik b) h c=c (.int ik (Am ik (Int.tdiv a b))) h:=by simp only[AU,C7,hb,Ce hk,Fm]
theorem KK {ik:IntKind} {a b:Int} (hk:BO ik ik true=true):AU .eql (.int ik a) (.int ik b) h c=c (.bool (Aq a b)) h:=by simp only[AU,C7,Ce hk,Eh]
theorem KD {ik:IntKind} {a b:Int} (hk:BO ik ik true=true):AU .neq (.int ik a) (.int ik b) h c=c (.bool (!Aq a b)) h:=by simp only[AU,C7,Ce hk,Eh]
theorem KG {ik:IntKind} {a b:Int} (hk:BO ik ik true=true):AU .lss (.int ik a) (.int ik b) h c=c (.bool (ltI a b)) h:=by simp only[AU,C7,Ce hk,Eh]
theorem KH {ik:IntKind} {a b:Int} (hk:BO ik ik true=true):AU .leq (.int ik a) (.int ik b) h c=c (.bool (!ltI b a)) h:=by simp only[AU,C7,Ce hk,Eh]
theorem KI {ik:IntKind} {a b:Int} (hk:BO ik ik true=true):AU .gtr (.int ik a) (.int ik b) h c=c (.bool (ltI b a)) h:=by simp only[AU,C7,Ce hk,Eh]
theorem KJ {ik:IntKind} {a b:Int} (hk:BO ik ik true=true):AU .geq (.int ik a) (.int ik b) h c=c (.bool (!ltI a b)) h:=by simp only[AU,C7,Ce hk,Eh]
theorem ir {ik ik':IntKind} {a b:Nat}:AU .shr (.int ik (.ofNat a)) (.int ik' (.ofNat b)) h c=c (.int ik (.ofNat (Nat.div a (Nat.pow 2 (min b ik.bits))))) h:=by simp only[AU,C7,wS,AF]
theorem BB:BO .i64 .i64 true=true:=rfl
theorem CA:BO .u64 .u64 true=true:=rfl
theorem DT:BO .u8 .u8 true=true:=rfl
theorem Tv {a b:Int}:AU .add (.int .i64 a) (.int .i64 b) h c=c (.int .i64 (Am .i64 (Int.add a b))) h:=KL BB
theorem Tu {a b:Int}:AU .add (.int .u64 a) (.int .u64 b) h c=c (.int .u64 (Am .u64 (Int.add a b))) h:=KL CA
theorem cD {a b:Int}:AU .add (.int .u8 a) (.int .u8 b) h c=c (.int .u8 (Am .u8 (Int.add a b))) h:=KL DT
theorem Td {a b:Int}:AU .sub (.int .i64 a) (.int .i64 b) h c=c (.int .i64 (Am .i64 (Int.sub a b))) h:=KB BB
theorem Tc {a b:Int}:AU .sub (.int .u64 a) (.int .u64 b) h c=c (.int .u64 (Am .u64 (Int.sub a b))) h:=KB CA
theorem cr {a b:Int}:AU .sub (.int .u8 a) (.int .u8 b) h c=c (.int .u8 (Am .u8 (Int.sub a b))) h:=KB DT
theorem Th {a b:Int}:AU .mul (.int .i64 a) (.int .i64 b) h c=c (.int .i64 (Am .i64 (Int.mul a b))) h:=KF BB
theorem Tg {a b:Int}:AU .mul (.int .u64 a) (.int .u64 b) h c=c (.int .u64 (Am .u64 (Int.mul a b))) h:=KF CA
theorem cv {a b:Int}:AU .mul (.int .u8 a) (.int .u8 b) h c=c (.int .u8 (Am .u8 (Int.mul a b))) h:=KF DT
theorem Tt {a b:Int}:AU .eql (.int .i64 a) (.int .i64 b) h c=c (.bool (Aq a b)) h:=KK BB
theorem Ts {a b:Int}:AU .eql (.int .u64 a) (.int .u64 b) h c=c (.bool (Aq a b)) h:=KK CA
theorem cC {a b:Int}:AU .eql (.int .u8 a) (.int .u8 b) h c=c (.bool (Aq a b)) h:=KK DT
theorem Tf {a b:Int}:AU .neq (.int .i64 a) (.int .i64 b) h c=c (.bool (!Aq a b)) h:=KD BB
theorem Te {a b:Int}:AU .neq (.int .u64 a) (.int .u64 b) h c=c (.bool (!Aq a b)) h:=KD CA
theorem ct {a b:Int}:AU .neq (.int .u8 a) (.int .u8 b) h c=c (.bool (!Aq a b)) h:=KD DT
theorem Tj {a b:Int}:AU .lss (.int .i64 a) (.int .i64 b) h c=c (.bool (ltI a b)) h:=KG BB
theorem Ti {a b:Int}:AU .lss (.int .u64 a) (.int .u64 b) h c=c (.bool (ltI a b)) h:=KG CA
theorem cw {a b:Int}:AU .lss (.int .u8 a) (.int .u8 b) h c=c (.bool (ltI a b)) h:=KG DT
theorem Tl {a b:Int}:AU .leq (.int .i64 a) (.int .i64 b) h c=c (.bool (!ltI b a)) h:=KH BB
theorem Tk {a b:Int}:AU .leq (.int .u64 a) (.int .u64 b) h c=c (.bool (!ltI b a)) h:=KH CA
theorem cy {a b:Int}:AU .leq (.int .u8 a) (.int .u8 b) h c=c (.bool (!ltI b a)) h:=KH DT
theorem Tn {a b:Int}:AU .gtr (.int .i64 a) (.int .i64 b) h c=c (.bool (ltI b a)) h:=KI BB
theorem Tm {a b:Int}:AU .gtr (.int .u64 a) (.int .u64 b) h c=c (.bool (ltI b a)) h:=KI CA
theorem cz {a b:Int}:AU .gtr (.int .u8 a) (.int .u8 b) h c=c (.bool (ltI b a)) h:=KI DT
theorem Tq {a b:Int}:AU .geq (.int .i64 a) (.int .i64 b) h c=c (.bool (!ltI a b)) h:=KJ BB
theorem Tp {a b:Int}:AU .geq (.int .u64 a) (.int .u64 b) h c=c (.bool (!ltI a b)) h:=KJ CA
theorem cA {a b:Int}:AU .geq (.int .u8 a) (.int .u8 b) h c=c (.bool (!ltI a b)) h:=KJ DT
theorem eD {a b:Nat}:Int.add (.ofNat a) (.ofNat b)=.ofNat (a+b):=rfl
theorem Ao {a b:Nat} (hb:b≤a):Int.sub (.ofNat a) (.ofNat b)=.ofNat (a-b):=by show ((a:Int) - (b:Int))=_;simp only[Int.ofNat_eq_natCast];omega
theorem bK {a b:Nat}:Int.mul (.ofNat a) (.ofNat b)=.ofNat (a*b):=rfl
theorem I7 {a b:Nat}:Int.tdiv (.ofNat a) (.ofNat b)=.ofNat (a/b):=rfl
theorem Rc {a b:Nat}:Int.tmod (.ofNat a) (.ofNat b)=.ofNat (a%b):=rfl
theorem Aj {a b:Nat}:ltI (.ofNat a) (.ofNat b)=decide (a<b):=by rw[Cw,Bool.eq_iff_iff,decide_eq_true_iff,decide_eq_true_iff];exact Int.ofNat_lt
theorem jb {ik ik':IntKind} {n:Int}:Ko ik (.int ik' n) h c=c (.int ik (Am ik n)) h:=Fm
theorem gt {b:Bool}:fX (.bool b) h c=c (.bool (!b)) h:=Eh
theorem RP {b:K} {o:Nat}:DW (.ptr b o) h c=c (.ptr b o) h:=rfl
theorem iC {x:V} {l:List V}:bu (.tup (x::l)) 0 h c=c x h:=rfl
theorem iB {x y:V} {l:List V}:bu (.tup (x::y::l)) 1 h c=c y h:=rfl
theorem iA {x y z:V} {l:List V}:bu (.tup (x::y::z::l)) 2 h c=c z h:=rfl
theorem CQ {b:K} {l:List V} {f:List V→Bool} (hb:blk h b=.cells l):cellsOf h b f=f l:=by unfold cellsOf;rw[hb]
theorem gY {b:K} {o:Nat} {l:List V} {v:V} (hb:blk h b=.cells l) (hv:l[o]? =some v):BU (.ptr b o) h c=c v h:=by
 simp only[BU,CQ hb];clear hb;induction l generalizing o with
 |nil=>simp at hv
 |cons x l ih=>
  cases o with
  |zero=>simp at hv;subst hv;rfl
  |succ o=>exact ih (by simpa using hv)
theorem Jd {x:V}:∀{l:List V} {o:Nat} {f:List V→Bool},o<l.length→AN o l [x] f=f (l.set o x):=by
 intro l;induction l with
 |nil=>intro o f h;simp at h
 |cons y l ih=>
  intro o f h;cases o with
  |zero=>simp [AN,Hr]
  |succ o=>simp only[AN,List.set_cons_succ];exact ih (by simpa using h)
theorem AE {b:K} {x:Blk}:blk (h.upd b x) b=x:=by rw[Al,if_pos rfl]
theorem Ag {n f:Nat} {body:Aa} {res:List RV} {args:List V} {cm:Option Md} {kc:KC} (hf:T.get .no (K.of f) E.fn=.fn (some ⟨body,res⟩)):
  call E L (n+1) (.fn f) args cm h kc=Dx args (K.of 0) .l (Aao (call E L n) L (.mk f none) body cm h (De (call E L n) L res kc)):=by
 show Iw (call E L n) L E f args cm h kc=_;unfold Iw;rw[hf];rfl
theorem Nb {n f:Nat} {g:Eo} {args:List V} {kc:KC} (hf:T.get .no (K.of f) E.fn=.prim g):
  call E L (n+1) (.fn f) args none h kc=g args h fun v h'=>kc (.ret v) none h':=by
 show Iw (call E L n) L E f args none h kc=_;unfold Iw;rw[hf]
theorem NP {i:K} {f:T V→Bool}:Dx [] i t f=f t:=rfl
theorem MG {v:V} {l:List V} {i:Nat} {f:T V→Bool}:Dx (v::l) (K.of i) t f=Dx l (K.of (i+1)) (T.ins und v (K.of i) t) f:=by simp only[Dx,T.set_eq,K.of_succ]
theorem cP {res:List RV} {kc:KC} {cm:Option Md}:De C (L+1) res kc .ret t (.mk [] cm) h=results [] t h res fun vs=>kc (.ret (one vs)) cm h:=rfl
theorem MX {res:List RV} {kc:KC} {cm:Option Md}:De C (L+1) res kc .normal t (.mk [] cm) h=results [] t h res fun vs=>kc (.ret (one vs)) cm h:=rfl
theorem qw {f:List V→Bool}:results [] t h [] f=f []:=rfl
theorem AaW {p:K} {l:List RV} {f:List V→Bool}:results [] t h (.t p::l) f=results [] t h l fun vs=>f (T.get und p t::vs):=rfl
theorem UG {p:K} {l:List RV} {f:List V→Bool}:results [] t h (.cell1 p::l) f=BU (T.get und p t) h fun v _=>results [] t h l fun vs=>f (v::vs):=rfl
theorem UF {p:K} {n:Nat} {l:List RV} {f:List V→Bool}:results [] t h (.cellN p n::l) f=CV (T.get und p t) n h fun v _=>results [] t h l fun vs=>f (v::vs):=rfl
theorem sR:one []=.tup []:=rfl
theorem sQ {v:V}:one [v]=v:=rfl
theorem sP {v w:V} {l:List V}:one (v::w::l)=.tup (v::w::l):=rfl
end
end Go.AJ
namespace Go.AJ
open Go
structure Ae (h h':Hp):Prop where
 nx:(nxt h).num≤(nxt h').num
 old:∀b,b.num<(nxt h).num→blk h' b=blk h b
theorem Ae.refl (h:Hp):Ae h h:=⟨Nat.le_refl _,fun _ _=>rfl⟩
theorem Ae.trans {h h1 h2:Hp} (a:Ae h h1) (b:Ae h1 h2):Ae h h2:=⟨Nat.le_trans a.nx b.nx,fun k hk=>(b.old k (Nat.lt_of_lt_of_le hk a.nx)).trans (a.old k hk)⟩
theorem Ae.new {h h':Hp} (a:Ae h h') (x:Blk):Ae h (h'.upd (nxt h') x).bump:=by
 refine ⟨?_,fun b hb=>?_⟩
 ·rw[Ay,Ap,K.num_succ];have:=a.nx;omega
 ·rw[An,Al,if_neg (fun e=>by subst e;have:=a.nx;omega)];exact a.old b hb
theorem Ae.put {h h':Hp} (a:Ae h h') {b:K} (hb:(nxt h).num≤b.num) (x:Blk):Ae h (h'.upd b x):=by refine ⟨by rw[Ap];exact a.nx,fun c hc=>?_⟩;rw[Al,if_neg (fun e=>by subst e;omega)];exact a.old c hc
theorem K.self_ne_succ (k:K):(k=k.succ)=False:=eq_false fun e=>by have:=congrArg K.num e;rw[K.num_succ] at this;omega
theorem K.succ_ne_self (k:K):(k.succ=k)=False:=eq_false fun e=>by have:=congrArg K.num e;rw[K.num_succ] at this;omega
theorem K.self_ne_succ2 (k:K):(k=k.succ.succ)=False:=eq_false fun e=>by have:=congrArg K.num e;rw[K.num_succ,K.num_succ] at this;omega
theorem K.succ2_ne_self (k:K):(k.succ.succ=k)=False:=eq_false fun e=>by have:=congrArg K.num e;rw[K.num_succ,K.num_succ] at this;omega
theorem K.succ_eq_succ (a b:K):(a.succ=b.succ)=(a=b):=propext ⟨fun e=>K.num_inj (by have:=congrArg K.num e;rw[K.num_succ,K.num_succ] at this;omega),fun e=>by rw[e]⟩
theorem CT {h:Hp} {b:K} {x:Blk}:h.bump.upd b x=(h.upd b x).bump:=by cases h;rfl
theorem T.ins_ins {α:Type} {d x y:α} (k:K):∀t:T α,T.ins d x k (T.ins d y k t)=T.ins d x k t:=by
 induction k with
 |h=>intro t;cases t<;>rfl
 |o k ih=>intro t;cases t<;>simp only[T.ins,ih]
 |i k ih=>intro t;cases t<;>simp only[T.ins,ih]
theorem qi {h:Hp} {b:K} {x y:Blk}:(h.upd b x).upd b y=h.upd b y:=by cases h;simp only[Hp.upd,T.ins_ins]
section
variable {C:As} {L:Nat} {fi:FI} {t:T V} {d:Dc} {h:Hp} {k:KE} {E:Env} {c:KV} {ks:KS} {kp:KP}
def ldB (x:Blk) (o:Nat) (h:Hp) (c:KV):Bool:=match x with
 |.cells l=>nth l o fun v=>c v h
 |_=>false
def ldN (x:Blk) (o n:Nat) (h:Hp) (c:KV):Bool:=match x with
 |.cells l=>Et n (Fd o l) fun r=>c (.agg r) h
 |_=>false
theorem zo {b:K} {o:Nat}:BU (.ptr b o) h c=ldB (blk h b) o h c:=by simp only[BU,cellsOf,ldB];cases blk h b<;>rfl
theorem b6 {b:K} {o n:Nat}:CV (.ptr b o) (n+1) h c=ldN (blk h b) o (n+1) h c:=by simp only[CV,cellsOf,ldN];cases blk h b<;>rfl
theorem Ab9 {x:V} {l:List V}:ldB (.cells (x::l)) 0 h c=c x h:=rfl
theorem Ab8 {x y:V} {l:List V}:ldB (.cells (x::y::l)) 1 h c=c y h:=rfl
theorem Ab7 {x y z:V} {l:List V}:ldB (.cells (x::y::z::l)) 2 h c=c z h:=rfl
theorem Ab0 {x y:V} {l:List V}:ldN (.cells (x::y::l)) 0 2 h c=c (.agg [x,y]) h:=rfl
noncomputable def stB (x:Blk) (b:K) (o:Nat) (q:List V) (h:Hp) (f:Hp→Bool):Bool:=match x with
 |.cells l=>AN o l q fun l'=>f (h.upd b (.cells l'))
 |_=>false
theorem w7 {b:K} {o:Nat} {ik:IntKind} {n:Int} {f:Hp→Bool}:Bj (.ptr b o) (.int ik n) 1 h f=stB (blk h b) b o [.int ik n] h f:=by simp only[Bj,Ba,BP,cellsOf,stB,AK];cases blk h b<;>rfl
theorem qo {b:K} {o:Nat} {x y:V} {f:Hp→Bool}:Bj (.ptr b o) (.agg [x,y]) 2 h f=stB (blk h b) b o [x,y] h f:=by simp only[Bj,Ba,BP,cellsOf,stB,AK];cases blk h b<;>rfl
theorem AaS {b:K} {x y:V} {l:List V} {f:Hp→Bool}:stB (.cells (x::l)) b 0 [y] h f=f (h.upd b (.cells (y::l))):=by simp only[stB,AN,Hr]
theorem AaR {b:K} {x y u v:V} {l:List V} {f:Hp→Bool}:stB (.cells (x::y::l)) b 0 [u,v] h f=f (h.upd b (.cells (u::v::l))):=by simp only[stB,AN,Hr]
theorem wG {ik:IntKind} {n:Int}:Kq (.int ik n) h c=c (.ptr (nxt h) 0) (h.upd (nxt h) (.cells [.int ik n])).bump:=by simp only[Kq,Ba,Ar]
theorem wH {l:List V}:Kq (.agg l) h c=c (.ptr (nxt h) 0) (h.upd (nxt h) (.cells l)).bump:=by simp only[Kq,Ba,Ar]
theorem ip {b:K} {o i sz n:Nat} {ik:IntKind}:IZ (.ptr b o) (.int ik (.ofNat i)) sz n h c=if i<n then c (.ptr b (o+i*sz)) h else false:=by
 simp only[IZ,Kz,AF];split
 ·rename_i e;rw[if_pos (Nat.blt_eq▸e)]
 ·rename_i e;rw[if_neg (fun e'=>by rw[show Nat.blt i n=true from Nat.blt_eq▸e'] at e;cases e)]
theorem cq {b:K} {o i sz n cp p:Nat} {ik:IntKind}:Jq (.sl b o n cp p) (.int ik (.ofNat i)) sz h c=if i<n then c (.ptr b (o+i*sz)) h else false:=by
 simp only[Jq,Kz,AF];split
 ·rename_i e;rw[if_pos (Nat.blt_eq▸e)]
 ·rename_i e;rw[if_neg (fun e'=>by rw[show Nat.blt i n=true from Nat.blt_eq▸e'] at e;cases e)]
def mk2 (x y a b:V) (h:Hp) (c:KV):Bool:=Ba x fun q=>BP q 1 (AN 0 [a,b] q fun z=>Ba y fun q'=>BP q' 1 (AN 1 z q' fun z'=>c (.agg z') h))
theorem Adm {a b:V} {x y:X}:oMk t [a,b] [(0,1,x),(1,1,y)] h c=mk2 (ev t x) (ev t y) a b h c:=rfl
theorem tu {k1 k2:IntKind} {n1 n2:Int} {a b:V}:mk2 (.int k1 n1) (.int k2 n2) a b h c=c (.agg [.int k1 n1,.int k2 n2]) h:=by simp only[mk2,Ba,BP,AN,Hr]
theorem iP {a b a' b':Int}:oEq false (.cells [.int,.int]) (.agg [.int .u64 a,.int .u64 b]) (.agg [.int .u64 a',.int .u64 b']) h c=c (.bool (Aq a a'&&Aq b b')) h:=by simp only[oEq,eqK,BM,Bk,BO];cases Aq a a'<;>cases Aq b b'<;>rfl
end
end Go.AJ
namespace Go.AJ
open Go
def Bx (l:List Nat):List V:=l.map fun n=> .int .i64 (.ofNat n)
theorem Ct (l:List Nat):(Bx l).length=l.length:=by simp [Bx]
theorem Jr {α:Type} {c:α→Bool}:∀{l:List α} {i:Nat} {x:α},l[i]? =some x→nth l i c=c x:=by
 intro l;induction l with
 |nil=>intro i x h;simp at h
 |cons y l ih=>
  intro i x h;cases i with
  |zero=>simp at h;subst h;rfl
  |succ i=>exact ih (by simpa using h)
def swp (l:List Nat) (i k:Nat):List Nat:=(l.set i (l.getD k 0)).set k (l.getD i 0)
section
variable {C:As} {L:Nat} {fi:FI} {t:T V} {d:Dc} {h:Hp} {k:KE} {E:Env} {c:KV} {ks:KS} {kp:KP}
theorem BD {l:List Nat} {i:Nat} (hi:i<l.length):ldB (.cells (Bx l)) i h c=c (.int .i64 (.ofNat (l.getD i 0))) h:=by simp only[ldB];rw[Jr (x:=.int .i64 (.ofNat (l.getD i 0)))];simp [Bx,List.getD_eq_getElem?_getD,List.getElem?_eq_getElem hi]
theorem Hm {l:List Nat} {i v:Nat} {b:K} {f:Hp→Bool} (hi:i<l.length):stB (.cells (Bx l)) b i [.int .i64 (.ofNat v)] h f=f (h.upd b (.cells (Bx (l.set i v)))):=by simp only[stB];rw[Jd (by rw[Ct];exact hi)];simp [Bx]
theorem Hq (n:Nat):rep n [.int .i64 (.ofNat 0)]=Bx (List.replicate n 0):=by
 induction n with
 |zero=>rfl
 |succ n ih=>simp only[rep,ih,Bx,List.replicate_succ,List.map_cons];rfl
theorem GA {n by_:Nat} {z:List V} (hb:n*(by_+1)≤1000000000):Bf (.int .i64 (.ofNat n)) (.int .i64 (.ofNat n)) z by_ h c=c (.sl (nxt h) 0 n n 0) (h.upd (nxt h) (.cells (rep n z))).bump:=by simp only[Bf,Nat.ble_eq_true_of_le (Nat.le_refl n),Nat.ble_eq_true_of_le hb,Ar]
noncomputable def FL (x:Blk) (l:List V):Bool:=match x with
 |.cells l'=>Cd (veq 40) l' l
 |_=>false
theorem EP {b:K} {l:List V}:GQ h b l=FL (blk h b) l:=by simp only[GQ,FL];cases blk h b<;>rfl
theorem TX (l:List Nat):Cd (veq 40) (Bx l) (Bx l)=true:=by
 induction l with
 |nil=>rfl
 |cons x l ih=>
  simp only[Bx,List.map_cons,Cd];have:veq 40 (.int .i64 (.ofNat x)) (.int .i64 (.ofNat x))=true:=by rw[Ny,Hx,AG];rfl
  rw[this];exact ih
theorem eq {l:List Nat}:FL (.cells (Bx l)) (Bx l)=true:=TX l
theorem j6 {ik:IntKind} {n:Int}:FL (.cells [.int ik n]) [.int ik n]=true:=by simp only[FL,Cd,Ny,Hx,AG,Bool.and_self]
theorem dI {z:List V} {b:K}:Bg (.alloc z) t h (.ptr b 0)=GQ h b z:=rfl
noncomputable def AaF (l c:V) (z:List V) (by_:Nat) (h:Hp) (v:V):Bool:=match v with
 |.sl b o n cp p=>(match o with
   |0=>(match p with
    |0=>(match l with
     |.int _ l=>(match c with
      |.int _ c=>(match Aq l (.ofNat n) with
       |true=>(match Aq c (.ofNat cp) with
        |true=>(match Nat.ble n cp with
         |true=>(match Nat.ble (cp*(by_+1)) 1000000000 with
          |true=>GQ h b (rep cp z)
          |false=>false)
         |false=>false)
        |false=>false)
       |false=>false)
      |_=>false)
     |_=>false)
    |_+1=>false)
   |_+1=>false)
  |_=>false
theorem ON {x y:X} {z:List V} {by_:Nat} {v:V}:Bg (.mkslice x y z by_) t h v=AaF (ev t x) (ev t y) z by_ h v:=rfl
theorem gw {n by_:Nat} {z:List V} {b:K} (hb:n*(by_+1)≤1000000000):AaF (.int .i64 (.ofNat n)) (.int .i64 (.ofNat n)) z by_ h (.sl b 0 n n 0)=GQ h b (rep n z):=by simp only[AaF,AG,Nat.ble_eq_true_of_le (Nat.le_refl n),Nat.ble_eq_true_of_le hb]
theorem zn {b:K} {o n cp p:Nat}:GX .sl (.sl b o n cp p) h c=c (.int .i64 (.ofNat n)) h:=rfl
theorem hJ:GX .sl .nils h c=c (.int .i64 (.ofNat 0)) h:=rfl
end
end Go.AJ
namespace Go.AJ
open Go
def slR (b:Bool) (c:Nat) (q:List V) (n:Nat):V:=if b=true∧n=0 then .nils else .rsl q 0 n c
theorem FD {α:Type}:∀(n:Nat) (l:List α),Fd n l=l.drop n
 |0,l=>rfl
 |n+1,[]=>rfl
 |n+1,x::l=>by simp only[Fd,List.drop_succ_cons];exact FD n l
theorem Ft:∀(n:Nat) (l:List V) (c:List V→Bool),n≤l.length→Et n l c=c (l.take n)
 |0,l,c,_=>rfl
 |n+1,[],c,h=>absurd h (by simp)
 |n+1,x::l,c,h=>by simp only[Et,List.take_succ_cons];exact Ft n l _ (by simpa using h)
theorem oE:∀(l q:List V) (c:List V→Bool),q.length≤l.length→Hr l q c=c (q++l.drop q.length)
 |l,[],c,_=>by simp [Hr]
 | [],x::q,c,h=>absurd h (by simp)
 |y::l,x::q,c,h=>by simp only[Hr,List.length_cons,List.drop_succ_cons,List.cons_append];exact oE l q _ (by simpa using h)
theorem Hn:∀(o:Nat) (l q:List V) (c:List V→Bool),o+q.length≤l.length→AN o l q c=c (l.take o++(q++l.drop (o+q.length)))
 |0,l,q,c,h=>by simp only[AN,List.take_zero,List.nil_append,Nat.zero_add];exact oE l q c tO
 |o+1,[],q,c,h=>absurd h (by simp)
 |o+1,x::l,q,c,h=>by simp only[AN,List.take_succ_cons,List.cons_append];rw[Hn o l q _ (by simp only[List.length_cons] at h;omega)];rw[show o+1+q.length=(o+q.length)+1 by omega,List.drop_succ_cons]
theorem Oo {α:Type}:∀(l:List α) (n:Nat) (c:Bool),l.length=n→BP l n c=c
 | [],0,c,_=>rfl
 |x::l,n+1,c,h=>by simp only[BP];exact Oo l n c (by simpa using h)
 | [],n+1,c,h=>by cases h
 |x::l,0,c,h=>by cases h
section
variable {C:As} {L:Nat} {fi:FI} {t:T V} {d:Dc} {h:Hp} {k:KE} {E:Env} {c:KV} {ks:KS} {kp:KP}
theorem Kw {b:Bool} {cp n:Nat} {q:List V}:GX .sl (slR b cp q n) h c=c (.int .i64 (.ofNat n)) h:=by
 unfold slR;split
 ·rename_i e;rw[e.2];rfl
 ·rfl
theorem co {o cp n i sz:Nat} {q:List V} {ik:IntKind}:Jq (.rsl q o n cp) (.int ik (.ofNat i)) sz h c=if i<n then c (.rp q (o+i*sz)) h else false:=by
 simp only[Jq,Ii,AF];split
 ·rename_i e;rw[if_pos (Nat.blt_eq▸e)]
 ·rename_i e;rw[if_neg (fun e'=>by rw[show Nat.blt i n=true from Nat.blt_eq▸e'] at e;cases e)]
theorem AR {b:Bool} {cp n i sz:Nat} {q:List V} {ik:IntKind} (hi:i<n):Jq (slR b cp q n) (.int ik (.ofNat i)) sz h c=c (.rp q (i*sz)) h:=by unfold slR;rw[if_neg (fun e=>by omega),co,if_pos hi,Nat.zero_add]
theorem TZ {b:K} {o n:Nat}:CL (.ptr b o) n h c=c (.ptr b (o+n)) h:=by simp only[CL,AF]
theorem eE {q:List V} {o n:Nat}:CL (.rp q o) n h c=c (.rp q (o+n)) h:=by simp only[CL,AF]
theorem AM {q:List V} {o:Nat} {v:V} (hv:q[o]? =some v):BU (.rp q o) h c=c v h:=Jr hv
theorem Ch {q r:List V} {o n:Nat} (hr:(q.drop o).take n=r) (hn:r.length=n):CV (.rp q o) n h c=c (.agg r) h:=by
 simp only[CV];rw[FD,Ft,hr];have:r.length≤(q.drop o).length:=by rw[←hr];exact List.length_take_le' _ _
 omega
theorem bG {q:List V} {o:Nat}:DW (.rp q o) h c=c (.rp q o) h:=rfl
theorem zr {x:V} {l:List V}:ldB (.cells (x::l)) 0 h c=c x h:=rfl
theorem Ab6 {x y z u:V} {l:List V}:ldB (.cells (x::y::z::u::l)) 3 h c=c u h:=rfl
theorem Ab5 {x y z u v:V} {l:List V}:ldB (.cells (x::y::z::u::v::l)) 4 h c=c v h:=rfl
theorem Ab4 {x y z u v w:V} {l:List V}:ldB (.cells (x::y::z::u::v::w::l)) 5 h c=c w h:=rfl
theorem Ab3 {x y z u v w a:V} {l:List V}:ldB (.cells (x::y::z::u::v::w::a::l)) 6 h c=c a h:=rfl
theorem BS {l:List V} {i:Nat} {x:V} (hx:l[i]? =some x):ldB (.cells l) i h c=c x h:=Jr hx
theorem Ic {l r:List V} {o n:Nat} (hr:(l.drop o).take n=r) (hn:r.length=n):ldN (.cells l) o n h c=c (.agg r) h:=by
 simp only[ldN];rw[FD,Ft,hr];have:r.length≤(l.drop o).length:=by rw[←hr];exact List.length_take_le' _ _
 omega
theorem Ax {l:List V} {n:Nat} (hn:l.length=n):ldN (.cells l) 0 n h c=c (.agg l) h:=Ic (by rw[List.drop_zero,←hn,List.take_length]) hn
theorem zp {x y z u v w a:V}:ldN (.cells [x,y,z,u,v,w,a]) 2 2 h c=c (.agg [z,u]) h:=rfl
theorem HJ {b:K} {o n:Nat} {v:V} {q:List V} {f:Hp→Bool} (hv:∀g:List V→Bool,Ba v g=g q) (hn:q.length=n+1):Bj (.ptr b o) v (n+1) h f=stB (blk h b) b o q h f:=by simp only[Bj,hv,Oo _ _ _ hn,cellsOf,stB,AK];cases blk h b<;>rfl
theorem Bu {b:K} {o n:Nat} {q:List V} {f:Hp→Bool} (hn:q.length=n+1):Bj (.ptr b o) (.agg q) (n+1) h f=stB (blk h b) b o q h f:=HJ (fun _=>rfl) hn
theorem qn {b:K} {o:Nat} {x:Bool} {f:Hp→Bool}:Bj (.ptr b o) (.bool x) 1 h f=stB (blk h b) b o [.bool x] h f:=HJ (fun _=>rfl) rfl
theorem AaQ {b:K} {o g:Nat} {x y:List V} {f:Hp→Bool}:Bj (.ptr b o) (.fn g x y) 1 h f=stB (blk h b) b o [.fn g x y] h f:=HJ (fun _=>rfl) rfl
theorem AaP {b b':K} {o o' l cp p:Nat} {f:Hp→Bool}:Bj (.ptr b o) (.sl b' o' l cp p) 1 h f=stB (blk h b) b o [.sl b' o' l cp p] h f:=HJ (fun _=>rfl) rfl
theorem ql {b:K} {o:Nat} {f:Hp→Bool}:Bj (.ptr b o) .nils 1 h f=stB (blk h b) b o [.nils] h f:=HJ (fun _=>rfl) rfl
theorem AX {b:K} {l q:List V} {f:Hp→Bool} (hn:q.length=l.length):stB (.cells l) b 0 q h f=f (h.upd b (.cells q)):=by simp only[stB];rw[Hn _ _ _ _ tO,Nat.zero_add,hn,List.drop_length,List.take_zero,List.append_nil,List.nil_append]
theorem C5 {b:K} {l:List V} {o:Nat} {v:V} {f:Hp→Bool} (ho:o<l.length):stB (.cells l) b o [v] h f=f (h.upd b (.cells (l.set o v))):=by simp only[stB];rw[Jd ho]
theorem xe {bb:K} {x y z v:V} {f:Hp→Bool}:stB (.cells [x,y,z]) bb 1 [v] h f=f (h.upd bb (.cells [x,v,z])):=rfl
theorem xd {bb:K} {x y z v:V} {f:Hp→Bool}:stB (.cells [x,y,z]) bb 2 [v] h f=f (h.upd bb (.cells [x,y,v])):=rfl
theorem wF {s:List Nat}:Kq (.str s) h c=c (.ptr (nxt h) 0) (h.upd (nxt h) (.cells [.str s])).bump:=by simp only[Kq,Ba,Ar]
theorem jX {x:Bool}:Kq (.bool x) h c=c (.ptr (nxt h) 0) (h.upd (nxt h) (.cells [.bool x])).bump:=by simp only[Kq,Ba,Ar]
theorem wE {l:K}:Kq (.yld l) h c=c (.ptr (nxt h) 0) (h.upd (nxt h) (.cells [.yld l])).bump:=by simp only[Kq,Ba,Ar]
theorem tp {z:List V} {ps:List (Nat×Nat×X)} {n:Nat} {z':List V} (hz:∀f,fill t ps z f=f z'):Gz t z ps n h c=c (.sl (nxt h) 0 n n 0) (h.upd (nxt h) (.cells z')).bump:=by simp only[Gz,hz,Ar]
theorem AA {b:K} {o i sz n cp p:Nat} {ik:IntKind} (hi:i<n):Jq (.sl b o n cp p) (.int ik (.ofNat i)) sz h c=c (.ptr b (o+i*sz)) h:=by rw[cq,if_pos hi]
theorem Qk {neg a b:Bool}:oEq neg .bool (.bool a) (.bool b) h c=c (.bool (neg !=(a==b))) h:=by cases neg<;>cases a<;>cases b<;>rfl
theorem tU {s:List Nat}:GX .str (.str s) h c=c (.int .i64 (.ofNat s.length)) h:=by simp only[GX,AF,CN]
theorem D4 {s:List Nat} {i x:Nat} {ik:IntKind} (hi:s[i]? =some x):HZ (.str s) (.int ik (.ofNat i)) h c=c (.int .u8 (.ofNat x)) h:=Jr hi
theorem xj {a b:List Nat}:Fw .eql (.str a) (.str b) h c=c (.bool (CR a b)) h:=Eh
theorem xg {a b:List Nat}:Fw .neq (.str a) (.str b) h c=c (.bool (!CR a b)) h:=Eh
theorem xh {a b:List Nat}:Fw .lss (.str a) (.str b) h c=c (.bool (ltL a b)) h:=Eh
theorem xi {a b:List Nat}:Fw .gtr (.str a) (.str b) h c=c (.bool (ltL b a)) h:=Eh
theorem xk {a b:List Nat} (hn:a.length+b.length≤1000000000):Fw .add (.str a) (.str b) h c=c (.str (a++b)) h:=by simp only[Fw,PZ,CN];rw[Nat.ble_eq_true_of_le hn]
theorem Ni (s:List Nat):CR s s=true:=Cj.2 rfl
theorem sH {x i:X} {dst:Option K}:Bd C (.idxS x i) dst t d h ks kp=HZ (ev t x) (ev t i) h (kv dst t d ks):=rfl
theorem yQ {f:Nat} {a b:List X} {dst:Option K}:Bd C (.mkf f a b) dst t d h ks kp=kv dst t d ks (.fn f (evs t a) (evs t b)) h:=rfl
theorem N7 {f:X} {l:List X} {dst:Option K}:Bd C (.callv f l) dst t d h ks kp=GJ C dst (ev t f) (evs t l) t d h ks kp:=rfl
theorem jp {f:Nat} {a cs args:List V} {dst:Option K}:GJ C dst (.fn f a cs) args t d h ks kp=C (.fn f) (a++(args++cs)) none h (dL dst t d ks kp):=rfl
theorem dK {l:K} {args:List V} {dst:Option K}:GJ C dst (.yld l) args t d h ks kp=C (.round l) args none h (dL dst t d ks kp):=rfl
theorem aZ {q:CK} {m i:X} {z:V} {ok:Bool} {dst:Option K}:Bd C (.mapget q m i z ok) dst t d h ks kp=DX q (ev t m) (ev t i) z ok h (kv dst t d ks):=rfl
theorem aY {q:CK} {m i x:X} {dst:Option K}:Bd C (.mapset q m i x) dst t d h ks kp=Fx q (ev t m) (ev t i) (ev t x) h (kh dst t d ks):=rfl
theorem fN {dst:Option K}:Bd C .mkmap dst t d h ks kp=kv dst t d ks (.map (nxt h)) (h.upd (nxt h) (.map [] 0)).bump:=by show Bw h (.map [] 0) (fun b h'=>kv dst t d ks (.map b) h')=_;rw[Ar]
theorem yO {mx:Bool} {x:X} {l:List X} {dst:Option K}:Bd C (.mxn mx x l) dst t d h ks kp=Oa mx (evs t l) (ev t x) (fun v=>kv dst t d ks v h):=rfl
theorem bJ {a b:Int} {f:V→Bool}:Oa true [.int .i64 b] (.int .i64 a) f=f (.int .i64 (if ltI a b=true then b else a)):=by simp only[Oa,mxn,BO];cases ltI a b<;>rfl
theorem sO {s x:X} {sz by_:Nat} {z:List V} {u:Option (List V)} {dst:Option K}:Bd C (.appz s x sz by_ z u) dst t d h ks kp=RN u (ev t s) (ev t x) sz by_ z h (kv dst t d ks):=rfl
theorem sL {a b:X} {sz:Nat} {dst:Option K}:Bd C (.copy a b sz) dst t d h ks kp=RL (ev t a) (ev t b) sz h (kv dst t d ks):=rfl
theorem yX {x:X} {dst:Option K}:Bd C (.cap x) dst t d h ks kp=gp (ev t x) h (kv dst t d ks):=rfl
theorem RE {x:X} {dst:Option K}:Bd C (.ofBytes x) dst t d h ks kp=EZ (ev t x) h (kv dst t d ks):=rfl
theorem RD {dst:Option K}:Bd C .recover dst t d h ks kp=DH dst t d h ks:=rfl
theorem NF {dst:Option K} {ds:List D}:DH dst t (.mk ds (some .ret)) h ks=fE dst .nili t (.mk ds (some .ret)) h ks:=rfl
theorem fQ {f:X} {l:List X} {dst:Option K}:Bd C (.defer f l) dst t d h ks kp=GI (ev t f) (evs t l) d (fun d'=>fE dst und t d' h ks):=rfl
theorem ja {f:Nat} {a cs args:List V} {ds:List D} {cm:Option Md} {g:Dc→Bool}:GI (.fn f a cs) args (.mk ds cm) g=g (.mk (.call f (a++(args++cs))::ds) cm):=rfl
theorem sF {ty:Nat} {x:X} {dst:Option K}:Bd C (.mkif ty x) dst t d h ks kp=kv dst t d ks (.ifc ty (ev t x)) h:=rfl
theorem tk {ik:IntKind} {n:Int}:sZ (.int ik n) h c=c (.int ik (Am ik (Int.sub 0 n))) h:=Fm
theorem Qz:gp .nils h c=c (.int .i64 (.ofNat 0)) h:=rfl
theorem pc {b:K} {o l n:Nat}:gp (.sl b o l n 0) h c=c (.int .i64 (.ofNat n)) h:=rfl
theorem TK {x:X} {n:Nat} {v:V}:Bg (.addOff x n) t h v=CL (ev t x) n h (isV v):=rfl
theorem dG {x:X} {n:Nat} {v:V}:Bg (.loadN x n) t h v=CV (ev t x) n h (isV v):=rfl
theorem je {o:SOp} {x y:X} {v:V}:Bg (.sbin o x y) t h v=Fw o (ev t x) (ev t y) h (isV v):=rfl
theorem dE {x:X} {a b m:Option X} {sz:Nat} {v:V}:Bg (.slice x a b m sz) t h v=BT (ev t x) (evo t a) (evo t b) (evo t m) sz h (isV v):=rfl
theorem uw {x:X} {o n:Nat} {agg:Bool} {v:V}:Bg (.fld x o n agg) t h v=gg (ev t x) o n agg h (isV v):=rfl
theorem jg {x i:X} {v:V}:Bg (.idxS x i) t h v=HZ (ev t x) (ev t i) h (isV v):=rfl
theorem Acj {x y:V} {l:List V}:gg (.agg (x::y::l)) 1 1 false h c=c y h:=rfl
def flat (v:V):Bool:=match v with
 |.int _ _|.bool _|.str _|.nilp|.ptr _ _|.nils|.sl _ _ _ _ _|.nilm|.map _|.yld _|.nilf|.nili|.rp _ _|.rsl _ _ _ _|.esl=>true
 |_=>false
theorem AP {n:Nat} {v:V} (hv:flat v=true):veq (n+1) v v=true:=by
 cases v<;>first|(simp [flat] at hv;done)|skip
 all_goals simp only[veq,Hx,AG,Ni,K.beq_refl,Nat.beq_refl]
 case bool b=>cases b<;>rfl
 all_goals (unfold HN;rw[if_pos rfl])
theorem GV {n:Nat}:∀{l:List V},(∀v∈l,flat v=true)→Cd (veq (n+1)) l l=true
 | [],_=>rfl
 |v::l,hl=>by simp only[Cd];rw[AP (hl v (by simp)),GV fun w hw=>hl w (by simp [hw])]
theorem JT {n:Nat} {l:List V} (hl:∀v∈l,flat v=true):veq (n+2) (.agg l) (.agg l)=true:=by simp only[veq];exact GV hl
theorem qg {n:Nat} {s:List Nat}:veq (n+1) (.str s) (.str s)=true:=AP rfl
theorem wX {n o:Nat} {q:List V}:veq (n+1) (.rp q o) (.rp q o)=true:=AP rfl
theorem CS {b:Bool} {cp n:Nat} {q:List V}:flat (slR b cp q n)=true:=by unfold slR;split<;>rfl
theorem Gp {b:Bool} {m cp n:Nat} {q:List V}:veq (m+1) (slR b cp q n) (slR b cp q n)=true:=AP CS
theorem EQ {l:List V} (hl:∀v∈l,flat v=true):FL (.cells l) l=true:=GV hl
theorem Bz {v:V} {f:List V→Bool} (hv:flat v=true):Ba v f=f [v]:=by cases v<;>first|rfl|(simp [flat] at hv;done)
theorem Uj {w:Bool}:Uk und w=false:=rfl
theorem cR {b:Bool}:flat (.bool b)=true:=rfl
theorem iy {l:List Nat}:flat (.str l)=true:=rfl
theorem Pd {n:Nat} {v w:V} (hv:flat v=true) (hw:flat w=true):veq (n+2) (.agg [v,w]) (.agg [v,w])=true:=JT (by simp [hv,hw])
theorem F3 {ik:IntKind} {n:Int}:flat (.int ik n)=true:=rfl
theorem cQ {b:K} {o l n p:Nat}:flat (.sl b o l n p)=true:=rfl
theorem MY:flat .nils=true:=rfl
noncomputable def AbF (v w a b:V) (n:Nat) (h:Hp) (c:KV):Bool:=Ba v fun q=>BP q 1 (AN 0 [a,b] q fun z=>Ba w fun q'=>BP q' 1 (AN 1 z q' fun z'=>Bw h (.cells z') fun b h'=>c (.sl b 0 n n 0) h'))
theorem zg {a b:V} {x y:X} {n:Nat}:Gz t [a,b] [(0,1,x),(1,1,y)] n h c=AbF (ev t x) (ev t y) a b n h c:=rfl
theorem bM {v w a b:V} {n:Nat} (hv:flat v=true) (hw:flat w=true):AbF v w a b n h c=c (.sl (nxt h) 0 n n 0) (h.upd (nxt h) (.cells [v,w])).bump:=by simp only[AbF,Bz hv,Bz hw,BP,AN,Hr,Ar]
noncomputable def uz (v w a b:V) (n:Nat) (h:Hp) (u:V):Bool:=match u with
  |.sl bb o l c p=>(match o with
   |0=>(match Nat.beq l n with
    |true=>(match Nat.beq c n with
     |true=>(match p with
      |0=>Ba v fun q=>BP q 1 (AN 0 [a,b] q fun z=>Ba w fun q'=>BP q' 1 (AN 1 z q' fun z'=>GQ h bb z'))
      |_+1=>false)
     |false=>false)
    |false=>false)
   |_+1=>false)
  |_=>false
theorem dF {a b:V} {x y:X} {n:Nat} {u:V}:Bg (.mkSl [a,b] [(0,1,x),(1,1,y)] n) t h u=uz (ev t x) (ev t y) a b n h u:=rfl
theorem TL {v w a b:V} {n:Nat} {bb:K} (hv:flat v=true) (hw:flat w=true):uz v w a b n h (.sl bb 0 n n 0)=FL (blk h bb) [v,w]:=by simp only[uz,Nat.beq_refl,Bz hv,Bz hw,BP,AN,Hr,EP]
theorem wK {v w:V} (hv:flat v=true) (hw:flat w=true):FL (.cells [v,w]) [v,w]=true:=EQ (by simp [hv,hw])
noncomputable def UI (l:K) (t:T V) (d:Dc) (k:KE):KC:=fun e _ h=>FX l t d k e h
theorem Tx {f:X} {ps:List K} {a b:Aa}:exec C L fi (.range f ps a b) t d h k=DU C fi (ev t f) ps a b t d h k:=rfl
theorem ft {fn g:Nat} {x cs:List V} {ps:List K} {a b:Aa} {ds:List D} {cm:Option Md}:
  DU C (.mk fn none) (.fn g x cs) ps a b t (.mk ds cm) h k=
   C (.fn g) (x++(.yld (nxt h).succ::cs)) none ((((h.upd (nxt h) (.dfr [])).bump).upd (nxt h).succ (.loop .ready .none fn t ps a b (nxt h))).bump)
    (UI (nxt h).succ t (.mk (.coll (nxt h)::ds) cm) k):=by
 simp only[DU,Ar,Fv,Ay,Ap];rfl
theorem Gx {l:K} {v:V} {u:Option Md} {st:LSt} {j:Jmp} {f:Nat} {t0:T V} {ps:List K} {a b:Aa} {D:K} (hl:blk h l=.loop st j f t0 ps a b D) (hs:st≠.busy):
  UI l t d k (.ret v) u h=JC j t d (h.upd l (.loop .exhausted j f t0 ps a b D)) k:=by
 simp only[UI,FX,hl,AK]
theorem ci:JC .none t d h k=k .normal t d h:=rfl
theorem ij:JC .ret t d h k=k .ret t d h:=rfl
theorem cj {id:Nat}:JC (.exit id) t d h k=k (.exit id) t d h:=rfl
noncomputable def HS (l:K) (kc:KC):KE:=fun e _ _ h3=>EX l kc e h3
noncomputable def UE (C:As) (L:Nat) (fi:FI) (l:K) (body:Aa) (kc:KC):KE:=fun e t d h=>ND C L fi l body kc e t d h
theorem JH {n:Nat} {l:K} {args:List V} {kc:KC} {st:LSt} {j:Jmp} {f:Nat} {ps:List K} {a b:Aa} {D:K} {af:AFn} (hl:blk h l=.loop st j f t ps a b D) (hf:T.get .no (K.of f) E.fn=.fn (some af)):
  call E L (n+1) (.round l) args none h kc=CC ps args t (fun t0=>exec (call E L n) L (.mk f (some l)) a t0 .rnd h (UE (call E L n) L (.mk f (some l)) l b kc)):=by
 show EN (call E L n) L E l args h kc=_;simp only[EN,hl,ig,hf];rfl
theorem Kd {f:T V→Bool}:CC [] [] t f=f t:=rfl
theorem IW {p:K} {ps:List K} {v:V} {vs:List V} {f:T V→Bool}:CC (p::ps) (v::vs) t f=CC ps vs (T.ins und v p t) f:=by simp only[CC,T.set_eq]
theorem Da {l:K} {b:Aa} {kc:KC} {j:Jmp} {f:Nat} {t0:T V} {ps:List K} {a b0:Aa} {D:K} (hl:blk h l=.loop .ready j f t0 ps a b0 D):
  UE C L fi l b kc .normal t d h=exec C L fi b t d (h.upd l (.loop .busy j f t0 ps a b0 D)) (HS l kc):=by
 simp only[UE,ND,EY,hl,AK];rfl
theorem FV {l:K} {kc:KC} {st:LSt} {j:Jmp} {f:Nat} {t0:T V} {ps:List K} {a b0:Aa} {D:K} (hl:blk h l=.loop st j f t0 ps a b0 D):
  HS l kc .normal t d h=kc (.ret (.bool true)) none (h.upd l (.loop .ready .none f t0 ps a b0 D)):=by
 simp only[HS,EX,Ey,hl,AK]
theorem Rq {l:K} {kc:KC} {st:LSt} {j:Jmp} {f:Nat} {t0:T V} {ps:List K} {a b0:Aa} {D:K} (hl:blk h l=.loop st j f t0 ps a b0 D):
  HS l kc .ret t d h=kc (.ret (.bool false)) none (h.upd l (.loop .done .ret f t0 ps a b0 D)):=by
 simp only[HS,EX,Ey,hl,AK]
theorem HQ {l:K} {id:Nat} {kc:KC} {st:LSt} {j:Jmp} {f:Nat} {t0:T V} {ps:List K} {a b0:Aa} {D:K} (hl:blk h l=.loop st j f t0 ps a b0 D):
  HS l kc (.exit id) t d h=kc (.ret (.bool false)) none (h.upd l (.loop .done (.exit id) f t0 ps a b0 D)):=by
 simp only[HS,EX,Ey,hl,AK]
theorem GG {res:List RV} {kc:KC} {cm:Option Md} {D:K} {e:Ex} (he:e=.ret∨e=.normal) (hD:blk h D=.dfr []):
  De C (L+2) res kc e t (.mk [.coll D] cm) h=results [] t (h.upd D .none) res fun vs=>kc (.ret (one vs)) cm (h.upd D .none):=by
 rcases he with rfl|rfl<;>(simp only[De,unwind,hD,AK,List.append_nil])
structure Ac (S:List K) (h h':Hp):Prop where
 nx:(nxt h).num≤(nxt h').num
 old:∀b,b.num<(nxt h).num→b∉S→blk h' b=blk h b
theorem Ac.refl (S:List K) (h:Hp):Ac S h h:=⟨Nat.le_refl _,fun _ _ _=>rfl⟩
theorem Ac.trans {S:List K} {h h1 h2:Hp} (a:Ac S h h1) (b:Ac S h1 h2):Ac S h h2:=
 ⟨Nat.le_trans a.nx b.nx,fun k hk hs=>(b.old k (Nat.lt_of_lt_of_le hk a.nx) hs).trans (a.old k hk hs)⟩
theorem Ae.but {S:List K} {h h':Hp} (a:Ae h h'):Ac S h h':=⟨a.nx,fun b hb _=>a.old b hb⟩
theorem Ac.none {h h':Hp} (a:Ac [] h h'):Ae h h':=⟨a.nx,fun b hb=>a.old b hb (by simp)⟩
theorem Ac.new {S:List K} {h h':Hp} (a:Ac S h h') (x:Blk):Ac S h (h'.upd (nxt h') x).bump:=by
 refine ⟨?_,fun b hb hs=>?_⟩
 ·rw[Ay,Ap,K.num_succ];have:=a.nx;omega
 ·rw[An,Al,if_neg (fun e=>by subst e;have:=a.nx;omega)];exact a.old b hb hs
theorem Ac.put {S : List K} {h h' : Hp} (a : Ac S h h') {b : K} (hb : (nxt h).num ≤ b.num ∨ b ∈ S) (x : Blk) : Ac S h (h'.upd b x) := by
  refine ⟨by rw [Ap]; exact a.nx, fun c hc hs => ?_⟩
  rw [Al, if_neg (fun e => by subst e;exact hb.elim (fun h1=>by omega) hs)];exact a.old c hc hs
theorem Cc {b b':K} {x:Blk} (hne:b'.num≠b.num):blk (h.upd b x) b'=blk h b':=by rw[Al,if_neg (fun e=>hne (by rw[e]))]
def Kp (l:List Nat) (t t':T V):Prop:=∀i∈l,T.get und (K.of i) t'=T.get und (K.of i) t
theorem Kp.refl (l:List Nat) (t:T V):Kp l t t:=fun _ _=>rfl
theorem Kp.trans {l:List Nat} {t t1 t2:T V} (a:Kp l t t1) (b:Kp l t1 t2):Kp l t t2:=fun i hi=>(b i hi).trans (a i hi)
theorem Ac.lt {S:List K} {h h1:Hp} (a:Ac S h h1) {b:K} (hb:b.num<(nxt h).num):b.num<(nxt h1).num:=Nat.lt_of_lt_of_le hb a.nx
theorem EH {B b:Aa} (hB:B=b):exec C L fi B t d h k=exec C L fi b t d h k:=by rw[hB]
end
end Go.AJ
namespace Go.AJ
open Go
set_option maxRecDepth 10000
theorem eqS {α:Type} {a:α}:(a=a)=True:=eq_self a
theorem ifT {α:Type} {a b:α}:(if True then a else b)=a:=rfl
theorem ifF {α:Type} {a b:α}:(if False then a else b)=b:=rfl
theorem Adz {a:Nat}:(a==a)=true:=beq_self_eq_true a
theorem AdA {a:Bool}:(a==a)=true:=beq_self_eq_true a
theorem Adl {α:Type} {a:List α}: []++a=a:=rfl
theorem Acm {α:Type} {a b:List α} {x:α}:(x::a)++b=x::(a++b):=rfl
theorem AdB {α:Type} {a:List α}:a++ []=a:=List.append_nil a
def sD:=And.intro @gu (And.intro @iI (And.intro @sA (And.intro @Rh (And.intro @jY (And.intro @sy (And.intro @fK (And.intro @da (And.intro @TF (And.intro @TE (And.intro @cU (And.intro @iH (And.intro @cY (And.intro @iE (And.intro @cZ (And.intro @Tz (And.intro @cW (And.intro @iG (And.intro @EG (And.intro @Ta (And.intro @MS (And.intro @Gf (And.intro @JL (And.intro @IE (And.intro @RA (And.intro @iY (And.intro @Tx (@ft)))))))))))))))))))))))))))
def sB:=And.intro @eqS (And.intro @ifT (And.intro @ifF (And.intro @Adz (And.intro @AdA (And.intro @Adl (And.intro @Acm (And.intro @AdB (And.intro @r4 (And.intro @jq (And.intro @zt (And.intro @im (And.intro @io (And.intro @UL (And.intro @UM (And.intro @uy (And.intro @jd (And.intro @Os (And.intro @Nh (And.intro @Q9 (And.intro @Aca (And.intro @Acb (And.intro @Adq (And.intro @Adr (And.intro @uj (And.intro @iK (And.intro @iM (And.intro @iL (And.intro @get_ins (And.intro @Abz (And.intro @yP (And.intro @sE (And.intro @fP (And.intro @fO (And.intro @bf (And.intro @sK (And.intro @sC (And.intro @yW (And.intro @yY (And.intro @fR (And.intro @AbA (And.intro @sG (And.intro @yM (And.intro @yN (And.intro @yT (And.intro @sJ (And.intro @fL (And.intro @aX (And.intro @yV (And.intro @fM (And.intro @sI (And.intro @sM (And.intro @yU (And.intro @RF (And.intro @yR (And.intro @yZ (And.intro @sN (And.intro @OS (And.intro @TN (And.intro @OP (And.intro @zM (And.intro @jf (And.intro @dH (And.intro @jj (And.intro @uv (And.intro @ji (And.intro @TJ (And.intro @ux (And.intro @jk (And.intro @jh (And.intro @uu (And.intro @ut (And.intro @Ny (And.intro @Hx (And.intro @eW (And.intro @qh (And.intro @wW (And.intro @eV (And.intro @qe (And.intro @UQ (And.intro @AB (And.intro @AG (And.intro @Eh (And.intro @Fm (And.intro @FP (And.intro @Tv (And.intro @Tu (And.intro @cD (And.intro @Td (And.intro @Tc (And.intro @cr (And.intro @Th (And.intro @Tg (And.intro @cv (And.intro @Tt (And.intro @Ts (And.intro @cC (And.intro @Tf (And.intro @Te (And.intro @ct (And.intro @Tj (And.intro @Ti (And.intro @cw (And.intro @Tl (And.intro @Tk (And.intro @cy (And.intro @Tn (And.intro @Tm (And.intro @cz (And.intro @Tq (And.intro @Tp (And.intro @cA (And.intro @ir (And.intro @eD (And.intro @bK (And.intro @I7 (And.intro @Rc (And.intro @Aj (And.intro @jb (And.intro @gt (And.intro @RP (And.intro @iC (And.intro @iB (And.intro @iA (And.intro @AE (And.intro @Nb (And.intro @NP (And.intro @MG (And.intro @cP (And.intro @MX (And.intro @qw (And.intro @AaW (And.intro @UG (And.intro @UF (And.intro @sR (And.intro @sQ (And.intro @sP (And.intro @Bool.not_true (And.intro @Bool.not_false (And.intro @Bool.true_eq_false (And.intro @Bool.false_eq_true (And.intro @Bool.and_self (And.intro @Bool.and_true (And.intro @Bool.true_and (And.intro @Bool.true_beq (And.intro @Bool.false_beq (And.intro @Ap (And.intro @Ay (And.intro @EP (And.intro @eq (And.intro @j6 (And.intro @dI (And.intro @ON (And.intro @zn (And.intro @hJ (And.intro @Hq (And.intro @zo (And.intro @b6 (And.intro @Ab9 (And.intro @Ab8 (And.intro @Ab7 (And.intro @Ab0 (And.intro @w7 (And.intro @qo (And.intro @AaS (And.intro @AaR (And.intro @wG (And.intro @wH (And.intro @ip (And.intro @cq (And.intro @iP (And.intro @Adm (And.intro @tu (And.intro @An (And.intro @Cc (And.intro @CT (And.intro @qi (And.intro @K.self_ne_succ (And.intro @K.succ_ne_self (And.intro @K.self_ne_succ2 (And.intro @K.succ2_ne_self (And.intro @K.succ_eq_succ (And.intro @Nat.zero_add (And.intro @Nat.mul_one (And.intro @Nat.zero_lt_succ (And.intro @Nat.lt_add_one (And.intro @Kw (And.intro @TZ (And.intro @eE (And.intro @bG (And.intro @zr (And.intro @Ab6 (And.intro @Ab5 (And.intro @Ab4 (And.intro @Ab3 (And.intro @zp (And.intro @qn (And.intro @AaQ (And.intro @AaP (And.intro @ql (And.intro @xe (And.intro @xd (And.intro @wF (And.intro @jX (And.intro @wE (And.intro @Qk (And.intro @tU (And.intro @xj (And.intro @xg (And.intro @xh (And.intro @xi (And.intro @Ni (And.intro @sH (And.intro @yQ (And.intro @N7 (And.intro @jp (And.intro @dK (And.intro @aZ (And.intro @aY (And.intro @fN (And.intro @yO (And.intro @bJ (And.intro @sO (And.intro @sL (And.intro @yX (And.intro @RE (And.intro @RD (And.intro @NF (And.intro @fQ (And.intro @ja (And.intro @sF (And.intro @Qz (And.intro @pc (And.intro @tk (And.intro @Uj (And.intro @Pd (And.intro @F3 (And.intro @cQ (And.intro @MY (And.intro @CS (And.intro @zg (And.intro @bM (And.intro @dF (And.intro @TL (And.intro @wK (And.intro @TK (And.intro @dG (And.intro @je (And.intro @dE (And.intro @uw (And.intro @jg (And.intro @Acj (And.intro @qg (And.intro @wX (And.intro @Gp (And.intro @ci (And.intro @ij (And.intro @cj (And.intro @Kd (And.intro @IW (@Ah))))))))))))))))))))))))))))))))))))))))))))))))))))))))))))))))))))))))))))))))))))))))))))))))))))))))))))))))))))))))))))))))))))))))))))))))))))))))))))))))))))))))))))))))))))))))))))))))))))))))))))))))))))))))))))))))))))))))))))))))))))))))))))))))))))
def nB:=And.intro @Ay (And.intro @Ap (And.intro @K.num_succ (@An)))
theorem Adp {x:V} {l:List V}:(x::l).length=l.length+1:=rfl
theorem Ado:([]:List V).length=0:=rfl
def dB:=And.intro @F3 (And.intro @cR (And.intro @iy (And.intro @CS (And.intro @cQ (And.intro @MY (And.intro @Ay (And.intro @Ap (And.intro @K.num_succ (And.intro @An (And.intro @Adp (@Ado)))))))))))
end Go.AJ
namespace Go.AJ
open Go
theorem AV {p q:Prop} (g:q) (h:q→p:=by intro g;simp -implicitDefEqProofs (disch:=first|assumption|((try simp only[dB]);first|done|omega)) only[↓sD,sB,↓reduceIte,Nat.reduceEqDiff,reduceCtorEq,Nat.reduceLT,Nat.reduceMul,Nat.reduceAdd];exact g):p:=h g
theorem Af {p:Prop} (h:p:=by simp -implicitDefEqProofs (disch:=first|assumption|((try simp only[dB]);first|done|omega)) only[↓sD,sB,↓reduceIte,Nat.reduceEqDiff,reduceCtorEq,Nat.reduceLT,Nat.reduceMul,Nat.reduceAdd]):p:=h
theorem Sst {p q:Prop} {A:Prop} (a:A) (g:q) (h:A→q→p:=by intro a g;simp -implicitDefEqProofs (disch:=first|assumption|((try simp only[dB]);first|done|omega)) only[↓sD,sB,↓reduceIte,Nat.reduceEqDiff,reduceCtorEq,Nat.reduceLT,Nat.reduceMul,Nat.reduceAdd,a];exact g):p:=h a g
theorem Ssc {p:Prop} {A:Prop} (a:A) (h:A→p:=by intro a;simp -implicitDefEqProofs (disch:=first|assumption|((try simp only[dB]);first|done|omega)) only[↓sD,sB,↓reduceIte,Nat.reduceEqDiff,reduceCtorEq,Nat.reduceLT,Nat.reduceMul,Nat.reduceAdd,a]):p:=h a
theorem Hj {p q:Prop} (g:q) (h:q→p:=by intro g;simp -implicitDefEqProofs (disch:=first|assumption|((try simp only[dB]);first|done|omega)) only[↓sD,sB,↓reduceIte,Nat.reduceEqDiff,reduceCtorEq,Nat.reduceLT,Nat.reduceMul,Nat.reduceAdd,decide_true,decide_false,Aj,AB,AR];exact g):p:=h g
theorem Tst {p q:Prop} {A:Prop} (a:A) (g:q) (h:A→q→p:=by intro a g;simp -implicitDefEqProofs (disch:=first|assumption|((try simp only[dB]);first|done|omega)) only[↓sD,sB,↓reduceIte,Nat.reduceEqDiff,reduceCtorEq,Nat.reduceLT,Nat.reduceMul,Nat.reduceAdd,decide_true,decide_false,Aj,AB,AR,a];exact g):p:=h a g
theorem Tsc {p:Prop} {A:Prop} (a:A) (h:A→p:=by intro a;simp -implicitDefEqProofs (disch:=first|assumption|((try simp only[dB]);first|done|omega)) only[↓sD,sB,↓reduceIte,Nat.reduceEqDiff,reduceCtorEq,Nat.reduceLT,Nat.reduceMul,Nat.reduceAdd,decide_true,decide_false,Aj,AB,AR,a]):p:=h a
theorem J2 {A1 A2:Prop} (a1:A1) (a2:A2):A1∧A2:=⟨a1,a2⟩
theorem J3 {A1 A2 A3:Prop} (a1:A1) (a2:A2) (a3:A3):A1∧A2∧A3:=⟨a1,a2,a3⟩
theorem J4 {A1 A2 A3 A4:Prop} (a1:A1) (a2:A2) (a3:A3) (a4:A4):A1∧A2∧A3∧A4:=⟨a1,a2,a3,a4⟩
theorem J5 {A1 A2 A3 A4 A5:Prop} (a1:A1) (a2:A2) (a3:A3) (a4:A4) (a5:A5):A1∧A2∧A3∧A4∧A5:=⟨a1,a2,a3,a4,a5⟩
theorem J6 {A1 A2 A3 A4 A5 A6:Prop} (a1:A1) (a2:A2) (a3:A3) (a4:A4) (a5:A5) (a6:A6):A1∧A2∧A3∧A4∧A5∧A6:=⟨a1,a2,a3,a4,a5,a6⟩
theorem J7 {A1 A2 A3 A4 A5 A6 A7:Prop} (a1:A1) (a2:A2) (a3:A3) (a4:A4) (a5:A5) (a6:A6) (a7:A7):A1∧A2∧A3∧A4∧A5∧A6∧A7:=⟨a1,a2,a3,a4,a5,a6,a7⟩
theorem J8 {A1 A2 A3 A4 A5 A6 A7 A8:Prop} (a1:A1) (a2:A2) (a3:A3) (a4:A4) (a5:A5) (a6:A6) (a7:A7) (a8:A8):A1∧A2∧A3∧A4∧A5∧A6∧A7∧A8:=⟨a1,a2,a3,a4,a5,a6,a7,a8⟩
theorem J9 {A1 A2 A3 A4 A5 A6 A7 A8 A9:Prop} (a1:A1) (a2:A2) (a3:A3) (a4:A4) (a5:A5) (a6:A6) (a7:A7) (a8:A8) (a9:A9):A1∧A2∧A3∧A4∧A5∧A6∧A7∧A8∧A9:=⟨a1,a2,a3,a4,a5,a6,a7,a8,a9⟩
theorem J10 {A1 A2 A3 A4 A5 A6 A7 A8 A9 A10:Prop} (a1:A1) (a2:A2) (a3:A3) (a4:A4) (a5:A5) (a6:A6) (a7:A7) (a8:A8) (a9:A9) (a10:A10):A1∧A2∧A3∧A4∧A5∧A6∧A7∧A8∧A9∧A10:=⟨a1,a2,a3,a4,a5,a6,a7,a8,a9,a10⟩
theorem J11 {A1 A2 A3 A4 A5 A6 A7 A8 A9 A10 A11:Prop} (a1:A1) (a2:A2) (a3:A3) (a4:A4) (a5:A5) (a6:A6) (a7:A7) (a8:A8) (a9:A9) (a10:A10) (a11:A11):A1∧A2∧A3∧A4∧A5∧A6∧A7∧A8∧A9∧A10∧A11:=⟨a1,a2,a3,a4,a5,a6,a7,a8,a9,a10,a11⟩
theorem J12 {A1 A2 A3 A4 A5 A6 A7 A8 A9 A10 A11 A12:Prop} (a1:A1) (a2:A2) (a3:A3) (a4:A4) (a5:A5) (a6:A6) (a7:A7) (a8:A8) (a9:A9) (a10:A10) (a11:A11) (a12:A12):A1∧A2∧A3∧A4∧A5∧A6∧A7∧A8∧A9∧A10∧A11∧A12:=⟨a1,a2,a3,a4,a5,a6,a7,a8,a9,a10,a11,a12⟩
theorem J13 {A1 A2 A3 A4 A5 A6 A7 A8 A9 A10 A11 A12 A13:Prop} (a1:A1) (a2:A2) (a3:A3) (a4:A4) (a5:A5) (a6:A6) (a7:A7) (a8:A8) (a9:A9) (a10:A10) (a11:A11) (a12:A12) (a13:A13):A1∧A2∧A3∧A4∧A5∧A6∧A7∧A8∧A9∧A10∧A11∧A12∧A13:=⟨a1,a2,a3,a4,a5,a6,a7,a8,a9,a10,a11,a12,a13⟩
theorem J14 {A1 A2 A3 A4 A5 A6 A7 A8 A9 A10 A11 A12 A13 A14:Prop} (a1:A1) (a2:A2) (a3:A3) (a4:A4) (a5:A5) (a6:A6) (a7:A7) (a8:A8) (a9:A9) (a10:A10) (a11:A11) (a12:A12) (a13:A13) (a14:A14):A1∧A2∧A3∧A4∧A5∧A6∧A7∧A8∧A9∧A10∧A11∧A12∧A13∧A14:=⟨a1,a2,a3,a4,a5,a6,a7,a8,a9,a10,a11,a12,a13,a14⟩
theorem tD {p:Prop} (h:p:=by first|assumption|((try simp only[dB]);first|done|omega)):p:=h
theorem tN {p:Prop} (h:p:=by ((try simp only[nB]);omega)):p:=h
theorem kO {h h':Hp} (a:(nxt h).num≤(nxt h').num:=by ((try simp only[nB]);(try omega))) (b:∀b,b.num<(nxt h).num→blk h' b=blk h b:=by intro b hb;simp (disch:=exact tN) only[An,Cc]):Ae h h':=⟨a,b⟩
theorem kpB:type_of%(And.intro @List.mem_cons.{0} (And.intro @List.not_mem_nil.{0} (And.intro @or_false (And.intro @forall_eq_or_imp.{1} (And.intro @forall_eq.{1} (And.intro @get_ins (And.intro @if_false.{1} (@and_self)))))))):=And.intro @List.mem_cons.{0} (And.intro @List.not_mem_nil.{0} (And.intro @or_false (And.intro @forall_eq_or_imp.{1} (And.intro @forall_eq.{1} (And.intro @get_ins (And.intro @if_false.{1} (@and_self)))))))
theorem kK {l:List Nat} {t t':T V} (h:Kp l t t':=by simp -implicitDefEqProofs only[Kp,kpB,Nat.reduceEqDiff,reduceCtorEq,↓reduceIte]):Kp l t t':=h
theorem wA (i:Nat) (h:i+1≤9223372036854775807:=by omega):Am .i64 (Int.add (.ofNat i) (.ofNat 1))=.ofNat (i+1):=Ah h
end Go.AJ
