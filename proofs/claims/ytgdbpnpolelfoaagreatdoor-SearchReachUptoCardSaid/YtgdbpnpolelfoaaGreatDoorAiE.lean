/- The equations of the interpreter, for values that are not known. Nothing is asked of the program. -/
import Derived.Test.YtgdbpnpolelfoaaGreatDoorAiD
set_option linter.all false
namespace Go.AJ
open Go
section
variable {C:Av} {L:Nat} {fi:FI} {t:T V} {d:Dc} {h:Hp} {k:KE} {E:Env} {c:KV} {ks:KS} {kp:KP}
def normK (k:KE):KS:=fun t' d' h'=>k .normal t' d' h'
def panK (k:KE) (q:List K):KP:=fun ch t' d' h'=>k (.panic ch q) t' d' h'
def failK:KP:=fun _ _ _ _=>false
noncomputable def Ga (C:Av) (L:Nat) (fi:FI) (b:Aa) (k:KE):T V→Dc→Hp→Bool:=fun t' d' h'=>exec C L fi b t' d' h' k
noncomputable def opsK (C:Av) (l:List AO) (ks:KS) (kp:KP):KS:=fun t' d' h'=>Bm C l t' d' h' ks kp
noncomputable def drawK (C:Av) (chk:List AO) (hv:Option AO) (l:List ES) (ks:KS) (kp:KP):KS:=fun t1 d1 h1=>if Bj t1 h1 chk=true then (match hv with
    |none=>AP C l t1 d1 h1 ks kp
    |some o=>Bm C [o] t1 d1 h1 (fun t2 d2 h2=>AP C l t2 d2 h2 ks kp) kp) else false
noncomputable def stagesK (C:Av) (l:List ES) (ks:KS) (kp:KP):KS:=fun t2 d2 h2=>AP C l t2 d2 h2 ks kp
noncomputable def callK (dst:Option K) (t:T V) (d:Dc) (ks:KS) (kp:KP):KC:=fun e _ h'=>HA dst t d ks kp e h'
noncomputable def isV (v:V):KV:=fun v' _=>veq 40 v' v
def isT (v:V):Bool:=match v with|.bool b=>b|_=>false
def isF (v:V):Bool:=match v with|.bool b=> !b|_=>false
noncomputable def bodyK (C:Av) (L:Nat) (fi:FI) (body:Aa) (cm:Option Md) (h:Hp) (kc:KE):T V→Bool:=fun t=>exec C L fi body t (.mk [] cm) h kc
theorem normK_eq:normK k t d h=k .normal t d h:=rfl
theorem panK_eq {ch:List PE} {q:List K}:panK k q ch t d h=k (.panic ch q) t d h:=rfl
theorem execK_eq {b:Aa}:Ga C L fi b k t d h=exec C L fi b t d h k:=rfl
theorem opsK_eq {l:List AO}:opsK C l ks kp t d h=Bm C l t d h ks kp:=rfl
theorem stagesK_eq {l:List ES}:stagesK C l ks kp t d h=AP C l t d h ks kp:=rfl
theorem callK_eq {dst:Option K} {e:End} {u:Option Md} {h':Hp}:callK dst t d ks kp e u h'=HA dst t d ks kp e h':=rfl
theorem isV_eq {v v':V}:isV v v' h=veq 40 v' v:=rfl
theorem isT_bool {b:Bool}:isT (.bool b)=b:=rfl
theorem isF_bool {b:Bool}:isF (.bool b)= !b:=rfl
theorem bodyK_eq {body:Aa} {cm:Option Md}:bodyK C L fi body cm h k t=exec C L fi body t (.mk [] cm) h k:=rfl
theorem exec_skip:exec C L fi .skip t d h k=k .normal t d h:=rfl
theorem exec_reg {l:List AO}:exec C L fi (.reg l) t d h k=Bm C l t d h (normK k) (panK k []):=rfl
theorem exec_draw {l:List ES} {q:List K}:exec C L fi (.draw l q) t d h k=AP C l t d h (normK k) (panK k q):=rfl
theorem exec_seq {a b:Aa}:exec C L fi (.seq a b) t d h k=exec C L fi a t d h (CV (Ga C L fi b k) k):=rfl
theorem exec_cond {x:X} {a b:Aa}:exec C L fi (.cond x a b) t d h k=if isT (ev t x)=true then exec C L fi a t d h k else if isF (ev t x)=true then exec C L fi b t d h k else false:=by
 show condGo (ev t x) (exec C L fi a t d h k) (exec C L fi b t d h k)=_;generalize ev t x=v;cases v with
 |bool b=>cases b<;>rfl
 |_=>rfl
theorem exec_block {id:Nat} {a:Aa}:exec C L fi (.block id a) t d h k=exec C L fi a t d h (DZ id k):=rfl
theorem Ae {a:Aa}:exec C L fi (.loop a) t d h k=iter (exec C L fi a) L t d h k:=rfl
theorem exec_exit {id:Nat}:exec C L fi (.exit id) t d h k=k (.exit id) t d h:=rfl
theorem exec_ret:exec C L fi .ret t d h k=k .ret t d h:=rfl
theorem Ab {a:Aa} {n:Nat}:iter (exec C L fi a) (n+1) t d h k=exec C L fi a t d h (CV (fun t' d' h'=>iter (exec C L fi a) n t' d' h' k) k):=rfl
theorem Eo {r:T V→Dc→Hp→Bool}:CV r k .normal t d h=r t d h:=rfl
theorem iterK_exit {r:T V→Dc→Hp→Bool} {id:Nat}:CV r k (.exit id) t d h=k (.exit id) t d h:=rfl
theorem iterK_ret {r:T V→Dc→Hp→Bool}:CV r k .ret t d h=k .ret t d h:=rfl
theorem iterK_panic {r:T V→Dc→Hp→Bool} {ch:List PE} {q:List K}:CV r k (.panic ch q) t d h=k (.panic ch q) t d h:=rfl
theorem FR {id:Nat}:DZ id k .normal t d h=k .normal t d h:=rfl
theorem I3 {id:Nat}:DZ id k .ret t d h=k .ret t d h:=rfl
theorem blockK_panic {id:Nat} {ch:List PE} {q:List K}:DZ id k (.panic ch q) t d h=k (.panic ch q) t d h:=rfl
theorem HH {id id':Nat}:DZ id k (.exit id') t d h=if id=id' then k .normal t d h else k (.exit id') t d h:=by
 simp only[DZ];split
 ·rename_i e;rw[if_pos (Nat.eq_of_beq_eq_true e)]
 ·rename_i e;rw[if_neg (fun e'=>by subst e';rw[Nat.beq_refl] at e;cases e)]
theorem opsRun_nil:Bm C [] t d h ks kp=ks t d h:=rfl
def wantB (v:V) (w:Bool):Bool:=match v with
 |.bool b=>b==w
 |_=>false
theorem wantB_bool {b w:Bool}:wantB (.bool b) w=(b==w):=rfl
noncomputable def putK (dst:Option K) (v:V) (t:T V) (d:Dc) (h:Hp) (ks:KS):Bool:=put dst v t fun t'=>ks t' d h
theorem putK_some {p:K} {v:V}:putK (some p) v t d h ks=ks (T.ins und v p t) d h:=by simp only[putK,put,T.set_eq]
theorem putK_none {v:V}:putK none v t d h ks=ks t d h:=rfl
theorem ops_all {dst:Option K} {op:AOp} {l:List AO}:Bm C (⟨dst,none,op⟩::l) t d h ks kp=AW C op dst t d h (opsK C l ks kp) kp:=rfl
theorem GT {p:K} {w:Bool} {y n:Bool}:wanted (some (p,w)) t y n=if wantB (T.get und p t) w=true then y else n:=by
 simp only[wanted];generalize T.get und p t=v;cases v with
 |bool b=>cases b<;>cases w<;>rfl
 |_=>rfl
theorem ops_some {dst:Option K} {p:K} {w:Bool} {op:AOp} {l:List AO}:Bm C (⟨dst,some (p,w),op⟩::l) t d h ks kp=
  if wantB (T.get und p t) w=true then AW C op dst t d h (opsK C l ks kp) kp else putK dst und t d h (opsK C l ks kp):=by
 show wanted (some (p,w)) t _ _=_;rw[GT];rfl
theorem kv_eq {dst:Option K} {v:V}:kv dst t d ks v h=putK dst v t d h ks:=rfl
theorem kh_eq {dst:Option K}:kh dst t d ks h=putK dst und t d h ks:=rfl
theorem ev_t {p:K}:ev t (.t p)=T.get und p t:=rfl
theorem ev_c {v:V}:ev t (.c v)=v:=rfl
theorem evs_nil:evs t []= []:=rfl
theorem evs_cons {x:X} {l:List X}:evs t (x::l)=ev t x::evs t l:=rfl
theorem evo_none:evo t none=none:=rfl
theorem evo_some {x:X}:evo t (some x)=some (ev t x):=rfl
theorem get_ins {a b:Nat} {v:V}:T.get und (K.of a) (T.ins und v (K.of b) t)=if a=b then v else T.get und (K.of a) t:=by
 rw[T.get_ins];by_cases e:a=b
 ·rw[if_pos (by rw[e]),if_pos e]
 ·rw[if_neg (fun h=>e (K.of_inj h)),if_neg e]
theorem op_mvh {x:X} {dst:Option K}:AW C (.mvh x) dst t d h ks kp=kv dst t d ks (ev t x) h:=rfl
theorem op_mv {x:X} {dst:Option K}:AW C (.mv x) dst t d h ks kp=kv dst t d ks (ev t x) h:=rfl
theorem op_pick {x a b:X} {dst:Option K}:AW C (.pick x a b) dst t d h ks kp=H5 (ev t x) (ev t a) (ev t b) h (kv dst t d ks):=rfl
theorem op_load1 {x:X} {dst:Option K}:AW C (.load1 x) dst t d h ks kp=Cr (ev t x) h (kv dst t d ks):=rfl
theorem op_loadN {x:X} {n:Nat} {dst:Option K}:AW C (.loadN x n) dst t d h ks kp=CP (ev t x) n h (kv dst t d ks):=rfl
theorem op_addOff {x:X} {n:Nat} {dst:Option K}:AW C (.addOff x n) dst t d h ks kp=Cy (ev t x) n h (kv dst t d ks):=rfl
theorem op_ibin {o:IOp} {x y:X} {dst:Option K}:AW C (.ibin o x y) dst t d h ks kp=AK o (ev t x) (ev t y) h (kv dst t d ks):=rfl
theorem op_sbin {o:SOp} {x y:X} {dst:Option K}:AW C (.sbin o x y) dst t d h ks kp=E7 o (ev t x) (ev t y) h (kv dst t d ks):=rfl
theorem op_eqv {neg:Bool} {q:EK} {x y:X} {dst:Option K}:AW C (.eqv neg q x y) dst t d h ks kp=oEq neg q (ev t x) (ev t y) h (kv dst t d ks):=rfl
theorem op_box {x:X} {dst:Option K}:AW C (.box x) dst t d h ks kp=Jv (ev t x) h (kv dst t d ks):=rfl
theorem op_alloc {z:List V} {dst:Option K}:AW C (.alloc z) dst t d h ks kp=kv dst t d ks (.ptr (nxt h) 0) (h.upd (nxt h) (.cells z)).bump:=by show Br h (.cells z) (fun b h'=>kv dst t d ks (.ptr b 0) h')=_;rw[Aq]
theorem op_mk {z:List V} {ps:List (Nat×Nat×X)} {dst:Option K}:AW C (.mk z ps) dst t d h ks kp=oMk t z ps h (kv dst t d ks):=rfl
theorem op_mkSl {z:List V} {ps:List (Nat×Nat×X)} {n:Nat} {dst:Option K}:AW C (.mkSl z ps n) dst t d h ks kp=H6 t z ps n h (kv dst t d ks):=rfl
theorem op_not {x:X} {dst:Option K}:AW C (.not x) dst t d h ks kp=oNot (ev t x) h (kv dst t d ks):=rfl
theorem op_neg {x:X} {dst:Option K}:AW C (.neg x) dst t d h ks kp=oNeg (ev t x) h (kv dst t d ks):=rfl
theorem op_idx {x i:X} {sz:Nat} {dst:Option K}:AW C (.idx x i sz) dst t d h ks kp=oIdx (ev t x) (ev t i) sz h (kv dst t d ks):=rfl
theorem op_idxA {x i:X} {sz n:Nat} {dst:Option K}:AW C (.idxA x i sz n) dst t d h ks kp=H8 (ev t x) (ev t i) sz n h (kv dst t d ks):=rfl
theorem op_store {a x:X} {n:Nat} {dst:Option K}:AW C (.store a x n) dst t d h ks kp=Bf (ev t a) (ev t x) n h (kh dst t d ks):=rfl
theorem op_nilchk {x:X} {dst:Option K}:AW C (.nilchk x) dst t d h ks kp=DB (ev t x) h (kv dst t d ks):=rfl
theorem op_ext {x:X} {i:Nat} {dst:Option K}:AW C (.ext x i) dst t d h ks kp=oExt (ev t x) i h (kv dst t d ks):=rfl
theorem op_slice {x:X} {a b m:Option X} {sz:Nat} {dst:Option K}:AW C (.slice x a b m sz) dst t d h ks kp=BJ (ev t x) (evo t a) (evo t b) (evo t m) sz h (kv dst t d ks):=rfl
theorem op_idxG {x i:X} {sz n:Nat} {agg:Bool} {dst:Option K}:AW C (.idxG x i sz n agg) dst t d h ks kp=H7 (ev t x) (ev t i) sz n agg h (kv dst t d ks):=rfl
theorem op_conv {ik:IntKind} {x:X} {dst:Option K}:AW C (.conv ik x) dst t d h ks kp=Ju ik (ev t x) h (kv dst t d ks):=rfl
theorem op_fld {x:X} {o n:Nat} {agg:Bool} {dst:Option K}:AW C (.fld x o n agg) dst t d h ks kp=oFld (ev t x) o n agg h (kv dst t d ks):=rfl
theorem op_mkslice {l cp:X} {z:List V} {by_:Nat} {dst:Option K}:AW C (.mkslice l cp z by_) dst t d h ks kp=Bo (ev t l) (ev t cp) z by_ h (kv dst t d ks):=rfl
theorem op_len {q:LK} {x:X} {dst:Option K}:AW C (.len q x) dst t d h ks kp=HW q (ev t x) h (kv dst t d ks):=rfl
theorem op_app {s x:X} {sz by_:Nat} {u:Option (List V)} {dst:Option K}:AW C (.app s x sz by_ u) dst t d h ks kp=oApp u (ev t s) (ev t x) sz by_ h (kv dst t d ks):=rfl
theorem op_call {f:Nat} {l:List X} {dst:Option K}:AW C (.call f l) dst t d h ks kp=C (.fn f) (evs t l) none h (callK dst t d ks kp):=rfl
theorem callEnd_ret {dst:Option K} {v:V}:HA dst t d ks kp (.ret v) h=putK dst v t d h ks:=rfl
theorem draw_nil:AP C [] t d h ks kp=ks t d h:=rfl
theorem draw_cons {ops chk:List AO} {hv:Option AO} {l:List ES}:AP C (⟨ops,chk,hv⟩::l) t d h ks kp=Bm C ops t d h (drawK C chk hv l ks kp) failK:=by simp only[AP];congr 1;funext t1 d1 h1;simp only[drawK];cases Bj t1 h1 chk<;>rfl
theorem drawK_none {chk:List AO} {l:List ES}:drawK C chk none l ks kp t d h=if Bj t h chk=true then AP C l t d h ks kp else false:=rfl
theorem drawK_some {chk:List AO} {o:AO} {l:List ES}:drawK C chk (some o) l ks kp t d h=if Bj t h chk=true then Bm C [o] t d h (stagesK C l ks kp) kp else false:=rfl
theorem chkAll_nil:Bj t h []=true:=rfl
theorem chkAll_cons {o:AO} {l:List AO}:Bj t h (o::l)=(chkOp o t h&&Bj t h l):=by simp only[Bj];cases chkOp o t h<;>rfl
theorem chk_all {p:K} {op:AOp}:chkOp ⟨some p,none,op⟩ t h=Bd op t h (T.get und p t):=rfl
theorem chk_some {p q:K} {w:Bool} {op:AOp}:chkOp ⟨some p,some (q,w),op⟩ t h=if wantB (T.get und q t) w=true then Bd op t h (T.get und p t) else veq 2 und (T.get und p t):=by show wanted (some (q,w)) t _ _=_;rw[GT]
theorem chk_mv {x:X} {v:V}:Bd (.mv x) t h v=veq 40 (ev t x) v:=rfl
theorem chk_pick {x a b:X} {v:V}:Bd (.pick x a b) t h v=H5 (ev t x) (ev t a) (ev t b) h (isV v):=rfl
theorem chk_load1 {x:X} {v:V}:Bd (.load1 x) t h v=Cr (ev t x) h (isV v):=rfl
theorem chk_ibin {o:IOp} {x y:X} {v:V}:Bd (.ibin o x y) t h v=AK o (ev t x) (ev t y) h (isV v):=rfl
theorem chk_idx {x i:X} {sz:Nat} {v:V}:Bd (.idx x i sz) t h v=oIdx (ev t x) (ev t i) sz h (isV v):=rfl
theorem chk_idxA {x i:X} {sz n:Nat} {v:V}:Bd (.idxA x i sz n) t h v=H8 (ev t x) (ev t i) sz n h (isV v):=rfl
theorem chk_nilchk {x:X} {v:V}:Bd (.nilchk x) t h v=DB (ev t x) h (isV v):=rfl
theorem chk_ext {x:X} {i:Nat} {v:V}:Bd (.ext x i) t h v=oExt (ev t x) i h (isV v):=rfl
theorem chk_conv {ik:IntKind} {x:X} {v:V}:Bd (.conv ik x) t h v=Ju ik (ev t x) h (isV v):=rfl
theorem chk_idxG {x i:X} {sz n:Nat} {agg:Bool} {v:V}:Bd (.idxG x i sz n agg) t h v=H7 (ev t x) (ev t i) sz n agg h (isV v):=rfl
theorem chk_len {q:LK} {x:X} {v:V}:Bd (.len q x) t h v=HW q (ev t x) h (isV v):=rfl
theorem chk_not {x:X} {v:V}:Bd (.not x) t h v=oNot (ev t x) h (isV v):=rfl
theorem veq_int {n:Nat} {ik ik':IntKind} {a b:Int}:veq (n+1) (.int ik a) (.int ik' b)=(kEq ik ik'&&Ar a b):=by simp only[veq];cases kEq ik ik'<;>rfl
theorem GJ {ik:IntKind}:kEq ik ik=true:=by simp [kEq]
theorem veq_bool {n:Nat} {a b:Bool}:veq (n+1) (.bool a) (.bool b)=(a==b):=by cases a<;>cases b<;>rfl
theorem veq_ptr {n:Nat} {b:K} {o:Nat}:veq (n+1) (.ptr b o) (.ptr b o)=true:=by simp [veq,K.beq_refl]
theorem veq_sl {n:Nat} {b:K} {o l cp q:Nat}:veq (n+1) (.sl b o l cp q) (.sl b o l cp q)=true:=by simp [veq,K.beq_refl]
theorem veq_nils {n:Nat}:veq (n+1) .nils .nils=true:=rfl
theorem veq_und {n:Nat}:veq (n+1) und und=true:=rfl
theorem pick_bool {b:Bool} {x y:V}:H5 (.bool b) x y h c=c (if b=true then x else y) h:=by cases b<;>rfl
theorem AG {a b:Nat}:Ar (.ofNat a) (.ofNat b)=decide (a=b):=by
 rw[DT];by_cases e:a=b
 ·subst e;simp
 ·rw[decide_eq_false e,decide_eq_false (fun e'=>e (Int.ofNat.inj e'))]
theorem Bp {a:Int}:Ar a a=true:=Ay.2 rfl
theorem DW {b:Bool}:mkB b h c=c (.bool b) h:=by cases b<;>rfl
theorem EX {ik:IntKind} {n:Int}:mkI ik n h c=c (.int ik (Ai ik n)) h:=by unfold mkI;rw[FC]
theorem Fn {n:Nat}:Ai .u64 (.ofNat n)=.ofNat (n%18446744073709551616):=rfl
theorem Ad {n:Nat} (hn:n≤9223372036854775807):Ai .i64 (.ofNat n)=.ofNat n:=by simp only[Ai];rw[Nat.ble_eq_true_of_le hn]
theorem JO {ik:IntKind} {a b:Int} (hk:BG ik ik true=true):AK .add (.int ik a) (.int ik b) h c=c (.int ik (Ai ik (Int.add a b))) h:=by cases ik<;>first|exact EX|cases hk
theorem JG {ik:IntKind} {a b:Int} (hk:BG ik ik true=true):AK .sub (.int ik a) (.int ik b) h c=c (.int ik (Ai ik (Int.sub a b))) h:=by cases ik<;>first|exact EX|cases hk
theorem JI {ik:IntKind} {a b:Int} (hk:BG ik ik true=true):AK .mul (.int ik a) (.int ik b) h c=c (.int ik (Ai ik (Int.mul a b))) h:=by cases ik<;>first|exact EX|cases hk
theorem BT {ik:IntKind} {x:Bool} (hk:BG ik ik true=true):BG ik ik x=x:=by cases ik<;>first|rfl|cases hk
theorem DH {ik:IntKind} {a b:Int} (hk:BG ik ik true=true) (hb:Ar b 0=false):AK .quo (.int ik a) (.int ik b) h c=c (.int ik (Ai ik (Int.tdiv a b))) h:=by simp only[AK,CQ,hb,BT hk,EX]
theorem JN {ik:IntKind} {a b:Int} (hk:BG ik ik true=true):AK .eql (.int ik a) (.int ik b) h c=c (.bool (Ar a b)) h:=by simp only[AK,CQ,BT hk,DW]
theorem JH {ik:IntKind} {a b:Int} (hk:BG ik ik true=true):AK .neq (.int ik a) (.int ik b) h c=c (.bool (!Ar a b)) h:=by simp only[AK,CQ,BT hk,DW]
theorem JJ {ik:IntKind} {a b:Int} (hk:BG ik ik true=true):AK .lss (.int ik a) (.int ik b) h c=c (.bool (ltI a b)) h:=by simp only[AK,CQ,BT hk,DW]
theorem JK {ik:IntKind} {a b:Int} (hk:BG ik ik true=true):AK .leq (.int ik a) (.int ik b) h c=c (.bool (!ltI b a)) h:=by simp only[AK,CQ,BT hk,DW]
theorem JL {ik:IntKind} {a b:Int} (hk:BG ik ik true=true):AK .gtr (.int ik a) (.int ik b) h c=c (.bool (ltI b a)) h:=by simp only[AK,CQ,BT hk,DW]
theorem JM {ik:IntKind} {a b:Int} (hk:BG ik ik true=true):AK .geq (.int ik a) (.int ik b) h c=c (.bool (!ltI a b)) h:=by simp only[AK,CQ,BT hk,DW]
theorem ibin_shr {ik ik':IntKind} {a b:Nat}:AK .shr (.int ik (.ofNat a)) (.int ik' (.ofNat b)) h c=c (.int ik (.ofNat (Nat.div a (Nat.pow 2 (min b ik.bits))))) h:=by simp only[AK,CQ,oShr,AA]
theorem Bt:BG .i64 .i64 true=true:=rfl
theorem Ch:BG .u64 .u64 true=true:=rfl
theorem Dx:BG .u8 .u8 true=true:=rfl
theorem ib_add_i64 {a b:Int}:AK .add (.int .i64 a) (.int .i64 b) h c=c (.int .i64 (Ai .i64 (Int.add a b))) h:=JO Bt
theorem ib_add_u64 {a b:Int}:AK .add (.int .u64 a) (.int .u64 b) h c=c (.int .u64 (Ai .u64 (Int.add a b))) h:=JO Ch
theorem ib_add_u8 {a b:Int}:AK .add (.int .u8 a) (.int .u8 b) h c=c (.int .u8 (Ai .u8 (Int.add a b))) h:=JO Dx
theorem ib_sub_i64 {a b:Int}:AK .sub (.int .i64 a) (.int .i64 b) h c=c (.int .i64 (Ai .i64 (Int.sub a b))) h:=JG Bt
theorem ib_sub_u64 {a b:Int}:AK .sub (.int .u64 a) (.int .u64 b) h c=c (.int .u64 (Ai .u64 (Int.sub a b))) h:=JG Ch
theorem ib_sub_u8 {a b:Int}:AK .sub (.int .u8 a) (.int .u8 b) h c=c (.int .u8 (Ai .u8 (Int.sub a b))) h:=JG Dx
theorem ib_mul_i64 {a b:Int}:AK .mul (.int .i64 a) (.int .i64 b) h c=c (.int .i64 (Ai .i64 (Int.mul a b))) h:=JI Bt
theorem ib_mul_u64 {a b:Int}:AK .mul (.int .u64 a) (.int .u64 b) h c=c (.int .u64 (Ai .u64 (Int.mul a b))) h:=JI Ch
theorem ib_mul_u8 {a b:Int}:AK .mul (.int .u8 a) (.int .u8 b) h c=c (.int .u8 (Ai .u8 (Int.mul a b))) h:=JI Dx
theorem ib_eql_i64 {a b:Int}:AK .eql (.int .i64 a) (.int .i64 b) h c=c (.bool (Ar a b)) h:=JN Bt
theorem ib_eql_u64 {a b:Int}:AK .eql (.int .u64 a) (.int .u64 b) h c=c (.bool (Ar a b)) h:=JN Ch
theorem ib_eql_u8 {a b:Int}:AK .eql (.int .u8 a) (.int .u8 b) h c=c (.bool (Ar a b)) h:=JN Dx
theorem ib_neq_i64 {a b:Int}:AK .neq (.int .i64 a) (.int .i64 b) h c=c (.bool (!Ar a b)) h:=JH Bt
theorem ib_neq_u64 {a b:Int}:AK .neq (.int .u64 a) (.int .u64 b) h c=c (.bool (!Ar a b)) h:=JH Ch
theorem ib_neq_u8 {a b:Int}:AK .neq (.int .u8 a) (.int .u8 b) h c=c (.bool (!Ar a b)) h:=JH Dx
theorem ib_lss_i64 {a b:Int}:AK .lss (.int .i64 a) (.int .i64 b) h c=c (.bool (ltI a b)) h:=JJ Bt
theorem ib_lss_u64 {a b:Int}:AK .lss (.int .u64 a) (.int .u64 b) h c=c (.bool (ltI a b)) h:=JJ Ch
theorem ib_lss_u8 {a b:Int}:AK .lss (.int .u8 a) (.int .u8 b) h c=c (.bool (ltI a b)) h:=JJ Dx
theorem ib_leq_i64 {a b:Int}:AK .leq (.int .i64 a) (.int .i64 b) h c=c (.bool (!ltI b a)) h:=JK Bt
theorem ib_leq_u64 {a b:Int}:AK .leq (.int .u64 a) (.int .u64 b) h c=c (.bool (!ltI b a)) h:=JK Ch
theorem ib_leq_u8 {a b:Int}:AK .leq (.int .u8 a) (.int .u8 b) h c=c (.bool (!ltI b a)) h:=JK Dx
theorem ib_gtr_i64 {a b:Int}:AK .gtr (.int .i64 a) (.int .i64 b) h c=c (.bool (ltI b a)) h:=JL Bt
theorem ib_gtr_u64 {a b:Int}:AK .gtr (.int .u64 a) (.int .u64 b) h c=c (.bool (ltI b a)) h:=JL Ch
theorem ib_gtr_u8 {a b:Int}:AK .gtr (.int .u8 a) (.int .u8 b) h c=c (.bool (ltI b a)) h:=JL Dx
theorem ib_geq_i64 {a b:Int}:AK .geq (.int .i64 a) (.int .i64 b) h c=c (.bool (!ltI a b)) h:=JM Bt
theorem ib_geq_u64 {a b:Int}:AK .geq (.int .u64 a) (.int .u64 b) h c=c (.bool (!ltI a b)) h:=JM Ch
theorem ib_geq_u8 {a b:Int}:AK .geq (.int .u8 a) (.int .u8 b) h c=c (.bool (!ltI a b)) h:=JM Dx
theorem add_ofNat {a b:Nat}:Int.add (.ofNat a) (.ofNat b)=.ofNat (a+b):=rfl
theorem Ao {a b:Nat} (hb:b≤a):Int.sub (.ofNat a) (.ofNat b)=.ofNat (a-b):=by show ((a:Int) - (b:Int))=_;simp only[Int.ofNat_eq_natCast];omega
theorem mul_ofNat {a b:Nat}:Int.mul (.ofNat a) (.ofNat b)=.ofNat (a*b):=rfl
theorem Ie {a b:Nat}:Int.tdiv (.ofNat a) (.ofNat b)=.ofNat (a/b):=rfl
theorem tmod_ofNat {a b:Nat}:Int.tmod (.ofNat a) (.ofNat b)=.ofNat (a%b):=rfl
theorem Aj {a b:Nat}:ltI (.ofNat a) (.ofNat b)=decide (a<b):=by rw[Ck,Bool.eq_iff_iff,decide_eq_true_iff,decide_eq_true_iff];exact Int.ofNat_lt
theorem conv_int {ik ik':IntKind} {n:Int}:Ju ik (.int ik' n) h c=c (.int ik (Ai ik n)) h:=EX
theorem not_bool {b:Bool}:oNot (.bool b) h c=c (.bool (!b)) h:=DW
theorem nilchk_ptr {b:K} {o:Nat}:DB (.ptr b o) h c=c (.ptr b o) h:=rfl
theorem ext_tup0 {x:V} {l:List V}:oExt (.tup (x::l)) 0 h c=c x h:=rfl
theorem ext_tup1 {x y:V} {l:List V}:oExt (.tup (x::y::l)) 1 h c=c y h:=rfl
theorem ext_tup2 {x y z:V} {l:List V}:oExt (.tup (x::y::z::l)) 2 h c=c z h:=rfl
theorem CY {b:K} {l:List V} {f:List V→Bool} (hb:blk h b=.cells l):cellsOf h b f=f l:=by unfold cellsOf;rw[hb]
theorem load1_of {b:K} {o:Nat} {l:List V} {v:V} (hb:blk h b=.cells l) (hv:l[o]? =some v):Cr (.ptr b o) h c=c v h:=by
 simp only[Cr,CY hb];clear hb;induction l generalizing o with
 |nil=>simp at hv
 |cons x l ih=>
  cases o with
  |zero=>simp at hv;subst hv;rfl
  |succ o=>exact ih (by simpa using hv)
theorem splice_set {x:V}:∀{l:List V} {o:Nat} {f:List V→Bool},o<l.length→AN o l [x] f=f (l.set o x):=by
 intro l;induction l with
 |nil=>intro o f h;simp at h
 |cons y l ih=>
  intro o f h;cases o with
  |zero=>simp [AN,G9]
  |succ o=>simp only[AN,List.set_cons_succ];exact ih (by simpa using h)
theorem AC {b:K} {x:Blk}:blk (h.upd b x) b=x:=by rw[Ak,if_pos rfl]
theorem Af {n f:Nat} {body:Aa} {res:List RV} {args:List V} {cm:Option Md} {kc:KC} (hf:T.get .no (K.of f) E.fn=.fn (some ⟨body,res⟩)):
  call E L (n+1) (.fn f) args cm h kc=Dh args (K.of 0) .l (bodyK (call E L n) L (.mk f none) body cm h (CW (call E L n) L res kc)):=by
 show Hz (call E L n) L E f args cm h kc=_;unfold Hz;rw[hf];rfl
theorem call_prim {n f:Nat} {g:D8} {args:List V} {kc:KC} (hf:T.get .no (K.of f) E.fn=.prim g):
  call E L (n+1) (.fn f) args none h kc=g args h fun v h'=>kc (.ret v) none h':=by
 show Hz (call E L n) L E f args none h kc=_;unfold Hz;rw[hf]
theorem putArgs_nil {i:K} {f:T V→Bool}:Dh [] i t f=f t:=rfl
theorem putArgs_cons {v:V} {l:List V} {i:Nat} {f:T V→Bool}:Dh (v::l) (K.of i) t f=Dh l (K.of (i+1)) (T.ins und v (K.of i) t) f:=by simp only[Dh,T.set_eq,K.of_succ]
theorem fnEnd_ret {res:List RV} {kc:KC} {cm:Option Md}:CW C (L+1) res kc .ret t (.mk [] cm) h=results [] t h res fun vs=>kc (.ret (one vs)) cm h:=rfl
theorem fnEnd_normal {res:List RV} {kc:KC} {cm:Option Md}:CW C (L+1) res kc .normal t (.mk [] cm) h=results [] t h res fun vs=>kc (.ret (one vs)) cm h:=rfl
theorem res_nil {f:List V→Bool}:results [] t h [] f=f []:=rfl
theorem res_t {p:K} {l:List RV} {f:List V→Bool}:results [] t h (.t p::l) f=results [] t h l fun vs=>f (T.get und p t::vs):=rfl
theorem res_cell1 {p:K} {l:List RV} {f:List V→Bool}:results [] t h (.cell1 p::l) f=Cr (T.get und p t) h fun v _=>results [] t h l fun vs=>f (v::vs):=rfl
theorem res_cellN {p:K} {n:Nat} {l:List RV} {f:List V→Bool}:results [] t h (.cellN p n::l) f=CP (T.get und p t) n h fun v _=>results [] t h l fun vs=>f (v::vs):=rfl
theorem one_nil:one []=.tup []:=rfl
theorem one_one {v:V}:one [v]=v:=rfl
theorem one_two {v w:V} {l:List V}:one (v::w::l)=.tup (v::w::l):=rfl
end
end Go.AJ
namespace Go.AJ
open Go
structure Ah (h h':Hp):Prop where
 nx:(nxt h).num≤(nxt h').num
 old:∀b,b.num<(nxt h).num→blk h' b=blk h b
theorem Ah.refl (h:Hp):Ah h h:=⟨Nat.le_refl _,fun _ _=>rfl⟩
theorem Ah.trans {h h1 h2:Hp} (a:Ah h h1) (b:Ah h1 h2):Ah h h2:=⟨Nat.le_trans a.nx b.nx,fun k hk=>(b.old k (Nat.lt_of_lt_of_le hk a.nx)).trans (a.old k hk)⟩
theorem Ah.new {h h':Hp} (a:Ah h h') (x:Blk):Ah h (h'.upd (nxt h') x).bump:=by
 refine ⟨?_,fun b hb=>?_⟩
 ·rw[Au,An,K.num_succ];have:=a.nx;omega
 ·rw[Am,Ak,if_neg (fun e=>by subst e;have:=a.nx;omega)];exact a.old b hb
theorem Ah.put {h h':Hp} (a:Ah h h') {b:K} (hb:(nxt h).num≤b.num) (x:Blk):Ah h (h'.upd b x):=by refine ⟨by rw[An];exact a.nx,fun c hc=>?_⟩;rw[Ak,if_neg (fun e=>by subst e;omega)];exact a.old c hc
theorem K.self_ne_succ (k:K):(k=k.succ)=False:=eq_false fun e=>by have:=congrArg K.num e;rw[K.num_succ] at this;omega
theorem K.succ_ne_self (k:K):(k.succ=k)=False:=eq_false fun e=>by have:=congrArg K.num e;rw[K.num_succ] at this;omega
theorem K.self_ne_succ2 (k:K):(k=k.succ.succ)=False:=eq_false fun e=>by have:=congrArg K.num e;rw[K.num_succ,K.num_succ] at this;omega
theorem K.succ2_ne_self (k:K):(k.succ.succ=k)=False:=eq_false fun e=>by have:=congrArg K.num e;rw[K.num_succ,K.num_succ] at this;omega
theorem K.succ_eq_succ (a b:K):(a.succ=b.succ)=(a=b):=propext ⟨fun e=>K.num_inj (by have:=congrArg K.num e;rw[K.num_succ,K.num_succ] at this;omega),fun e=>by rw[e]⟩
theorem DS {h:Hp} {b:K} {x:Blk}:h.bump.upd b x=(h.upd b x).bump:=by cases h;rfl
theorem T.ins_ins {α:Type} {d x y:α} (k:K):∀t:T α,T.ins d x k (T.ins d y k t)=T.ins d x k t:=by
 induction k with
 |h=>intro t;cases t<;>rfl
 |o k ih=>intro t;cases t<;>simp only[T.ins,ih]
 |i k ih=>intro t;cases t<;>simp only[T.ins,ih]
theorem upd_upd {h:Hp} {b:K} {x y:Blk}:(h.upd b x).upd b y=h.upd b y:=by cases h;simp only[Hp.upd,T.ins_ins]
section
variable {C:Av} {L:Nat} {fi:FI} {t:T V} {d:Dc} {h:Hp} {k:KE} {E:Env} {c:KV} {ks:KS} {kp:KP}
def ldB (x:Blk) (o:Nat) (h:Hp) (c:KV):Bool:=match x with
 |.cells l=>nth l o fun v=>c v h
 |_=>false
def ldN (x:Blk) (o n:Nat) (h:Hp) (c:KV):Bool:=match x with
 |.cells l=>Ec n (ER o l) fun r=>c (.agg r) h
 |_=>false
theorem ld_ptr {b:K} {o:Nat}:Cr (.ptr b o) h c=ldB (blk h b) o h c:=by simp only[Cr,cellsOf,ldB];cases blk h b<;>rfl
theorem ldN_ptr {b:K} {o n:Nat}:CP (.ptr b o) (n+1) h c=ldN (blk h b) o (n+1) h c:=by simp only[CP,cellsOf,ldN];cases blk h b<;>rfl
theorem ldB_0 {x:V} {l:List V}:ldB (.cells (x::l)) 0 h c=c x h:=rfl
theorem ldB_1 {x y:V} {l:List V}:ldB (.cells (x::y::l)) 1 h c=c y h:=rfl
theorem ldB_2 {x y z:V} {l:List V}:ldB (.cells (x::y::z::l)) 2 h c=c z h:=rfl
theorem ldN_2 {x y:V} {l:List V}:ldN (.cells (x::y::l)) 0 2 h c=c (.agg [x,y]) h:=rfl
noncomputable def stB (x:Blk) (b:K) (o:Nat) (q:List V) (h:Hp) (f:Hp→Bool):Bool:=match x with
 |.cells l=>AN o l q fun l'=>f (h.upd b (.cells l'))
 |_=>false
theorem st_int {b:K} {o:Nat} {ik:IntKind} {n:Int} {f:Hp→Bool}:Bf (.ptr b o) (.int ik n) 1 h f=stB (blk h b) b o [.int ik n] h f:=by simp only[Bf,AU,BM,cellsOf,stB,AE];cases blk h b<;>rfl
theorem st_agg2 {b:K} {o:Nat} {x y:V} {f:Hp→Bool}:Bf (.ptr b o) (.agg [x,y]) 2 h f=stB (blk h b) b o [x,y] h f:=by simp only[Bf,AU,BM,cellsOf,stB,AE];cases blk h b<;>rfl
theorem stB_0 {b:K} {x y:V} {l:List V} {f:Hp→Bool}:stB (.cells (x::l)) b 0 [y] h f=f (h.upd b (.cells (y::l))):=by simp only[stB,AN,G9]
theorem stB_2 {b:K} {x y u v:V} {l:List V} {f:Hp→Bool}:stB (.cells (x::y::l)) b 0 [u,v] h f=f (h.upd b (.cells (u::v::l))):=by simp only[stB,AN,G9]
theorem box_int {ik:IntKind} {n:Int}:Jv (.int ik n) h c=c (.ptr (nxt h) 0) (h.upd (nxt h) (.cells [.int ik n])).bump:=by simp only[Jv,AU,Aq]
theorem box_agg {l:List V}:Jv (.agg l) h c=c (.ptr (nxt h) 0) (h.upd (nxt h) (.cells l)).bump:=by simp only[Jv,AU,Aq]
theorem idxA_nat {b:K} {o i sz n:Nat} {ik:IntKind}:H8 (.ptr b o) (.int ik (.ofNat i)) sz n h c=if i<n then c (.ptr b (o+i*sz)) h else false:=by
 simp only[H8,JE,AA];split
 ·rename_i e;rw[if_pos (Nat.blt_eq▸e)]
 ·rename_i e;rw[if_neg (fun e'=>by rw[show Nat.blt i n=true from Nat.blt_eq▸e'] at e;cases e)]
theorem idx_nat {b:K} {o i sz n cp p:Nat} {ik:IntKind}:oIdx (.sl b o n cp p) (.int ik (.ofNat i)) sz h c=if i<n then c (.ptr b (o+i*sz)) h else false:=by
 simp only[oIdx,JE,AA];split
 ·rename_i e;rw[if_pos (Nat.blt_eq▸e)]
 ·rename_i e;rw[if_neg (fun e'=>by rw[show Nat.blt i n=true from Nat.blt_eq▸e'] at e;cases e)]
def mk2 (x y a b:V) (h:Hp) (c:KV):Bool:=AU x fun q=>BM q 1 (AN 0 [a,b] q fun z=>AU y fun q'=>BM q' 1 (AN 1 z q' fun z'=>c (.agg z') h))
theorem mk_2 {a b:V} {x y:X}:oMk t [a,b] [(0,1,x),(1,1,y)] h c=mk2 (ev t x) (ev t y) a b h c:=rfl
theorem mk2_int {k1 k2:IntKind} {n1 n2:Int} {a b:V}:mk2 (.int k1 n1) (.int k2 n2) a b h c=c (.agg [.int k1 n1,.int k2 n2]) h:=by simp only[mk2,AU,BM,AN,G9]
theorem eq_u64_2 {a b a' b':Int}:oEq false (.cells [.int,.int]) (.agg [.int .u64 a,.int .u64 b]) (.agg [.int .u64 a',.int .u64 b']) h c=c (.bool (Ar a a'&&Ar b b')) h:=by simp only[oEq,eqK,BH,Bi,BG];cases Ar a a'<;>cases Ar b b'<;>rfl
end
end Go.AJ
namespace Go.AJ
open Go
def ints (l:List Nat):List V:=l.map fun n=> .int .i64 (.ofNat n)
theorem Fb (l:List Nat):(ints l).length=l.length:=by simp [ints]
theorem nth_of {α:Type} {c:α→Bool}:∀{l:List α} {i:Nat} {x:α},l[i]? =some x→nth l i c=c x:=by
 intro l;induction l with
 |nil=>intro i x h;simp at h
 |cons y l ih=>
  intro i x h;cases i with
  |zero=>simp at h;subst h;rfl
  |succ i=>exact ih (by simpa using h)
def swp (l:List Nat) (i k:Nat):List Nat:=(l.set i (l.getD k 0)).set k (l.getD i 0)
section
variable {C:Av} {L:Nat} {fi:FI} {t:T V} {d:Dc} {h:Hp} {k:KE} {E:Env} {c:KV} {ks:KS} {kp:KP}
theorem rep_ints (n:Nat):rep n [.int .i64 (.ofNat 0)]=ints (List.replicate n 0):=by
 induction n with
 |zero=>rfl
 |succ n ih=>simp only[rep,ih,ints,List.replicate_succ,List.map_cons];rfl
theorem mks_nat {n by_:Nat} {z:List V} (hb:n*(by_+1)≤1000000000):Bo (.int .i64 (.ofNat n)) (.int .i64 (.ofNat n)) z by_ h c=c (.sl (nxt h) 0 n n 0) (h.upd (nxt h) (.cells (rep n z))).bump:=by simp only[Bo,Nat.ble_eq_true_of_le (Nat.le_refl n),Nat.ble_eq_true_of_le hb,Aq]
noncomputable def Gj (x:Blk) (l:List V):Bool:=match x with
 |.cells l'=>BS (veq 40) l' l
 |_=>false
theorem FS {b:K} {l:List V}:Gi h b l=Gj (blk h b) l:=by simp only[Gi,Gj];cases blk h b<;>rfl
theorem allEq_ints (l:List Nat):BS (veq 40) (ints l) (ints l)=true:=by
 induction l with
 |nil=>rfl
 |cons x l ih=>
  simp only[ints,List.map_cons,BS];have:veq 40 (.int .i64 (.ofNat x)) (.int .i64 (.ofNat x))=true:=by rw[veq_int,GJ,Bp];rfl
  rw[this];exact ih
theorem bear_ints {l:List Nat}:Gj (.cells (ints l)) (ints l)=true:=allEq_ints l
theorem bear_int {ik:IntKind} {n:Int}:Gj (.cells [.int ik n]) [.int ik n]=true:=by simp only[Gj,BS,veq_int,GJ,Bp,Bool.and_self]
theorem chk_alloc {z:List V} {b:K}:Bd (.alloc z) t h (.ptr b 0)=Gi h b z:=rfl
noncomputable def mksC (l c:V) (z:List V) (by_:Nat) (h:Hp) (v:V):Bool:=match v with
 |.sl b o n cp p=>(match o with
   |0=>(match p with
    |0=>(match l with
     |.int _ l=>(match c with
      |.int _ c=>(match Ar l (.ofNat n) with
       |true=>(match Ar c (.ofNat cp) with
        |true=>(match Nat.ble n cp with
         |true=>(match Nat.ble (cp*(by_+1)) 1000000000 with
          |true=>Gi h b (rep cp z)
          |false=>false)
         |false=>false)
        |false=>false)
       |false=>false)
      |_=>false)
     |_=>false)
    |_+1=>false)
   |_+1=>false)
  |_=>false
theorem chk_mkslice {x y:X} {z:List V} {by_:Nat} {v:V}:Bd (.mkslice x y z by_) t h v=mksC (ev t x) (ev t y) z by_ h v:=rfl
theorem mksC_nat {n by_:Nat} {z:List V} {b:K} (hb:n*(by_+1)≤1000000000):mksC (.int .i64 (.ofNat n)) (.int .i64 (.ofNat n)) z by_ h (.sl b 0 n n 0)=Gi h b (rep n z):=by simp only[mksC,Bp,Nat.ble_eq_true_of_le (Nat.le_refl n),Nat.ble_eq_true_of_le hb]
theorem len_sl {b:K} {o n cp p:Nat}:HW .sl (.sl b o n cp p) h c=c (.int .i64 (.ofNat n)) h:=rfl
theorem len_nils:HW .sl .nils h c=c (.int .i64 (.ofNat 0)) h:=rfl
end
end Go.AJ
namespace Go.AJ
open Go
def slR (b:Bool) (c:Nat) (q:List V) (n:Nat):V:=if b=true∧n=0 then .nils else .rsl q 0 n c
theorem Gb {α:Type}:∀(n:Nat) (l:List α),ER n l=l.drop n
 |0,l=>rfl
 |n+1,[]=>rfl
 |n+1,x::l=>by simp only[ER,List.drop_succ_cons];exact Gb n l
theorem F0:∀(n:Nat) (l:List V) (c:List V→Bool),n≤l.length→Ec n l c=c (l.take n)
 |0,l,c,_=>rfl
 |n+1,[],c,h=>absurd h (by simp)
 |n+1,x::l,c,h=>by simp only[Ec,List.take_succ_cons];exact F0 n l _ (by simpa using h)
theorem over_w:∀(l q:List V) (c:List V→Bool),q.length≤l.length→G9 l q c=c (q++l.drop q.length)
 |l,[],c,_=>by simp [G9]
 | [],x::q,c,h=>absurd h (by simp)
 |y::l,x::q,c,h=>by simp only[G9,List.length_cons,List.drop_succ_cons,List.cons_append];exact over_w l q _ (by simpa using h)
theorem GC:∀(o:Nat) (l q:List V) (c:List V→Bool),o+q.length≤l.length→AN o l q c=c (l.take o++(q++l.drop (o+q.length)))
 |0,l,q,c,h=>by simp only[AN,List.take_zero,List.nil_append,Nat.zero_add];exact over_w l q c (by omega)
 |o+1,[],q,c,h=>absurd h (by simp)
 |o+1,x::l,q,c,h=>by simp only[AN,List.take_succ_cons,List.cons_append];rw[GC o l q _ (by simp only[List.length_cons] at h;omega)];rw[show o+1+q.length=(o+q.length)+1 by omega,List.drop_succ_cons]
theorem lenIs_w {α:Type}:∀(l:List α) (n:Nat) (c:Bool),l.length=n→BM l n c=c
 | [],0,c,_=>rfl
 |x::l,n+1,c,h=>by simp only[BM];exact lenIs_w l n c (by simpa using h)
 | [],n+1,c,h=>by cases h
 |x::l,0,c,h=>by cases h
section
variable {C:Av} {L:Nat} {fi:FI} {t:T V} {d:Dc} {h:Hp} {k:KE} {E:Env} {c:KV} {ks:KS} {kp:KP}
theorem len_slR {b:Bool} {cp n:Nat} {q:List V}:HW .sl (slR b cp q n) h c=c (.int .i64 (.ofNat n)) h:=by
 unfold slR;split
 ·rename_i e;rw[e.2];rfl
 ·rfl
theorem idx_rsl {o cp n i sz:Nat} {q:List V} {ik:IntKind}:oIdx (.rsl q o n cp) (.int ik (.ofNat i)) sz h c=if i<n then c (.rp q (o+i*sz)) h else false:=by
 simp only[oIdx,Hm,AA];split
 ·rename_i e;rw[if_pos (Nat.blt_eq▸e)]
 ·rename_i e;rw[if_neg (fun e'=>by rw[show Nat.blt i n=true from Nat.blt_eq▸e'] at e;cases e)]
theorem AR {b:Bool} {cp n i sz:Nat} {q:List V} {ik:IntKind} (hi:i<n):oIdx (slR b cp q n) (.int ik (.ofNat i)) sz h c=c (.rp q (i*sz)) h:=by unfold slR;rw[if_neg (fun e=>by omega),idx_rsl,if_pos hi,Nat.zero_add]
theorem addOff_ptr {b:K} {o n:Nat}:Cy (.ptr b o) n h c=c (.ptr b (o+n)) h:=by simp only[Cy,AA]
theorem addOff_rp {q:List V} {o n:Nat}:Cy (.rp q o) n h c=c (.rp q (o+n)) h:=by simp only[Cy,AA]
theorem AS {q:List V} {o:Nat} {v:V} (hv:q[o]? =some v):Cr (.rp q o) h c=c v h:=nth_of hv
theorem EL {q r:List V} {o n:Nat} (hr:(q.drop o).take n=r) (hn:r.length=n):CP (.rp q o) n h c=c (.agg r) h:=by
 simp only[CP];rw[Gb,F0,hr];have:r.length≤(q.drop o).length:=by rw[←hr];exact List.length_take_le' _ _
 omega
theorem nilchk_rp {q:List V} {o:Nat}:DB (.rp q o) h c=c (.rp q o) h:=rfl
theorem ldB_hd {x:V} {l:List V}:ldB (.cells (x::l)) 0 h c=c x h:=rfl
theorem ldB_3 {x y z u:V} {l:List V}:ldB (.cells (x::y::z::u::l)) 3 h c=c u h:=rfl
theorem ldB_4 {x y z u v:V} {l:List V}:ldB (.cells (x::y::z::u::v::l)) 4 h c=c v h:=rfl
theorem ldB_5 {x y z u v w:V} {l:List V}:ldB (.cells (x::y::z::u::v::w::l)) 5 h c=c w h:=rfl
theorem ldB_6 {x y z u v w a:V} {l:List V}:ldB (.cells (x::y::z::u::v::w::a::l)) 6 h c=c a h:=rfl
theorem Cl {l:List V} {i:Nat} {x:V} (hx:l[i]? =some x):ldB (.cells l) i h c=c x h:=nth_of hx
theorem IL {l r:List V} {o n:Nat} (hr:(l.drop o).take n=r) (hn:r.length=n):ldN (.cells l) o n h c=c (.agg r) h:=by
 simp only[ldN];rw[Gb,F0,hr];have:r.length≤(l.drop o).length:=by rw[←hr];exact List.length_take_le' _ _
 omega
theorem AX {l:List V} {n:Nat} (hn:l.length=n):ldN (.cells l) 0 n h c=c (.agg l) h:=IL (by rw[List.drop_zero,←hn,List.take_length]) hn
theorem ldN_22 {x y z u v w a:V}:ldN (.cells [x,y,z,u,v,w,a]) 2 2 h c=c (.agg [z,u]) h:=rfl
theorem GW {b:K} {o n:Nat} {v:V} {q:List V} {f:Hp→Bool} (hv:∀g:List V→Bool,AU v g=g q) (hn:q.length=n+1):Bf (.ptr b o) v (n+1) h f=stB (blk h b) b o q h f:=by simp only[Bf,hv,lenIs_w _ _ _ hn,cellsOf,stB,AE];cases blk h b<;>rfl
theorem Cg {b:K} {o n:Nat} {q:List V} {f:Hp→Bool} (hn:q.length=n+1):Bf (.ptr b o) (.agg q) (n+1) h f=stB (blk h b) b o q h f:=GW (fun _=>rfl) hn
theorem st_bool {b:K} {o:Nat} {x:Bool} {f:Hp→Bool}:Bf (.ptr b o) (.bool x) 1 h f=stB (blk h b) b o [.bool x] h f:=GW (fun _=>rfl) rfl
theorem st_fn {b:K} {o g:Nat} {x y:List V} {f:Hp→Bool}:Bf (.ptr b o) (.fn g x y) 1 h f=stB (blk h b) b o [.fn g x y] h f:=GW (fun _=>rfl) rfl
theorem st_sl {b b':K} {o o' l cp p:Nat} {f:Hp→Bool}:Bf (.ptr b o) (.sl b' o' l cp p) 1 h f=stB (blk h b) b o [.sl b' o' l cp p] h f:=GW (fun _=>rfl) rfl
theorem st_nils {b:K} {o:Nat} {f:Hp→Bool}:Bf (.ptr b o) .nils 1 h f=stB (blk h b) b o [.nils] h f:=GW (fun _=>rfl) rfl
theorem Bq {b:K} {l q:List V} {f:Hp→Bool} (hn:q.length=l.length):stB (.cells l) b 0 q h f=f (h.upd b (.cells q)):=by simp only[stB];rw[GC _ _ _ _ (by omega),Nat.zero_add,hn,List.drop_length,List.take_zero,List.append_nil,List.nil_append]
theorem Cs {b:K} {l:List V} {o:Nat} {v:V} {f:Hp→Bool} (ho:o<l.length):stB (.cells l) b o [v] h f=f (h.upd b (.cells (l.set o v))):=by simp only[stB];rw[splice_set ho]
theorem stB_31 {bb:K} {x y z v:V} {f:Hp→Bool}:stB (.cells [x,y,z]) bb 1 [v] h f=f (h.upd bb (.cells [x,v,z])):=rfl
theorem stB_32 {bb:K} {x y z v:V} {f:Hp→Bool}:stB (.cells [x,y,z]) bb 2 [v] h f=f (h.upd bb (.cells [x,y,v])):=rfl
theorem box_str {s:List Nat}:Jv (.str s) h c=c (.ptr (nxt h) 0) (h.upd (nxt h) (.cells [.str s])).bump:=by simp only[Jv,AU,Aq]
theorem box_bool {x:Bool}:Jv (.bool x) h c=c (.ptr (nxt h) 0) (h.upd (nxt h) (.cells [.bool x])).bump:=by simp only[Jv,AU,Aq]
theorem box_yld {l:K}:Jv (.yld l) h c=c (.ptr (nxt h) 0) (h.upd (nxt h) (.cells [.yld l])).bump:=by simp only[Jv,AU,Aq]
theorem AD {b:K} {o i sz n cp p:Nat} {ik:IntKind} (hi:i<n):oIdx (.sl b o n cp p) (.int ik (.ofNat i)) sz h c=c (.ptr b (o+i*sz)) h:=by rw[idx_nat,if_pos hi]
theorem eqv_bool {neg a b:Bool}:oEq neg .bool (.bool a) (.bool b) h c=c (.bool (neg !=(a==b))) h:=by cases neg<;>cases a<;>cases b<;>rfl
theorem len_str {s:List Nat}:HW .str (.str s) h c=c (.int .i64 (.ofNat s.length)) h:=by simp only[HW,AA,CA]
theorem DG {s:List Nat} {i x:Nat} {ik:IntKind} (hi:s[i]? =some x):Ha (.str s) (.int ik (.ofNat i)) h c=c (.int .u8 (.ofNat x)) h:=nth_of hi
theorem sb_eql {a b:List Nat}:E7 .eql (.str a) (.str b) h c=c (.bool (CD a b)) h:=DW
theorem sb_neq {a b:List Nat}:E7 .neq (.str a) (.str b) h c=c (.bool (!CD a b)) h:=DW
theorem sb_lss {a b:List Nat}:E7 .lss (.str a) (.str b) h c=c (.bool (ltL a b)) h:=DW
theorem sb_gtr {a b:List Nat}:E7 .gtr (.str a) (.str b) h c=c (.bool (ltL b a)) h:=DW
theorem sb_add {a b:List Nat} (hn:a.length+b.length≤1000000000):E7 .add (.str a) (.str b) h c=c (.str (a++b)) h:=by simp only[E7,oSbin2,CA];rw[Nat.ble_eq_true_of_le hn]
theorem beqL_refl (s:List Nat):CD s s=true:=BV.2 rfl
theorem op_idxS {x i:X} {dst:Option K}:AW C (.idxS x i) dst t d h ks kp=Ha (ev t x) (ev t i) h (kv dst t d ks):=rfl
theorem op_mkf {f:Nat} {a b:List X} {dst:Option K}:AW C (.mkf f a b) dst t d h ks kp=kv dst t d ks (.fn f (evs t a) (evs t b)) h:=rfl
theorem op_callv_fn {f:X} {l:List X} {dst:Option K}:AW C (.callv f l) dst t d h ks kp=Gd C dst (ev t f) (evs t l) t d h ks kp:=rfl
theorem callv_fn {f:Nat} {a cs args:List V} {dst:Option K}:Gd C dst (.fn f a cs) args t d h ks kp=C (.fn f) (a++(args++cs)) none h (callK dst t d ks kp):=rfl
theorem callv_yld {l:K} {args:List V} {dst:Option K}:Gd C dst (.yld l) args t d h ks kp=C (.round l) args none h (callK dst t d ks kp):=rfl
theorem op_mapget {q:CK} {m i:X} {z:V} {ok:Bool} {dst:Option K}:AW C (.mapget q m i z ok) dst t d h ks kp=DC q (ev t m) (ev t i) z ok h (kv dst t d ks):=rfl
theorem op_mapset {q:CK} {m i x:X} {dst:Option K}:AW C (.mapset q m i x) dst t d h ks kp=E8 q (ev t m) (ev t i) (ev t x) h (kh dst t d ks):=rfl
theorem op_mkmap {dst:Option K}:AW C .mkmap dst t d h ks kp=kv dst t d ks (.map (nxt h)) (h.upd (nxt h) (.map [] 0)).bump:=by show Br h (.map [] 0) (fun b h'=>kv dst t d ks (.map b) h')=_;rw[Aq]
theorem op_mxn {mx:Bool} {x:X} {l:List X} {dst:Option K}:AW C (.mxn mx x l) dst t d h ks kp=oMxn mx (evs t l) (ev t x) (fun v=>kv dst t d ks v h):=rfl
theorem mxn_max {a b:Int} {f:V→Bool}:oMxn true [.int .i64 b] (.int .i64 a) f=f (.int .i64 (if ltI a b=true then b else a)):=by simp only[oMxn,mxn,BG];cases ltI a b<;>rfl
theorem op_appz {s x:X} {sz by_:Nat} {z:List V} {u:Option (List V)} {dst:Option K}:AW C (.appz s x sz by_ z u) dst t d h ks kp=oAppz u (ev t s) (ev t x) sz by_ z h (kv dst t d ks):=rfl
theorem op_copy {a b:X} {sz:Nat} {dst:Option K}:AW C (.copy a b sz) dst t d h ks kp=oCopy (ev t a) (ev t b) sz h (kv dst t d ks):=rfl
theorem op_cap {x:X} {dst:Option K}:AW C (.cap x) dst t d h ks kp=oCap (ev t x) h (kv dst t d ks):=rfl
theorem op_ofBytes {x:X} {dst:Option K}:AW C (.ofBytes x) dst t d h ks kp=EH (ev t x) h (kv dst t d ks):=rfl
theorem op_recover {dst:Option K}:AW C .recover dst t d h ks kp=Dp dst t d h ks:=rfl
theorem recover_ret {dst:Option K} {ds:List D}:Dp dst t (.mk ds (some .ret)) h ks=putK dst .nili t (.mk ds (some .ret)) h ks:=rfl
theorem op_defer {f:X} {l:List X} {dst:Option K}:AW C (.defer f l) dst t d h ks kp=Gc (ev t f) (evs t l) d (fun d'=>putK dst und t d' h ks):=rfl
theorem defer_fn {f:Nat} {a cs args:List V} {ds:List D} {cm:Option Md} {g:Dc→Bool}:Gc (.fn f a cs) args (.mk ds cm) g=g (.mk (.call f (a++(args++cs))::ds) cm):=rfl
theorem op_mkif {ty:Nat} {x:X} {dst:Option K}:AW C (.mkif ty x) dst t d h ks kp=kv dst t d ks (.ifc ty (ev t x)) h:=rfl
theorem neg_int {ik:IntKind} {n:Int}:oNeg (.int ik n) h c=c (.int ik (Ai ik (Int.sub 0 n))) h:=EX
theorem cap_nils:oCap .nils h c=c (.int .i64 (.ofNat 0)) h:=rfl
theorem cap_sl {b:K} {o l n:Nat}:oCap (.sl b o l n 0) h c=c (.int .i64 (.ofNat n)) h:=rfl
theorem chk_addOff {x:X} {n:Nat} {v:V}:Bd (.addOff x n) t h v=Cy (ev t x) n h (isV v):=rfl
theorem chk_loadN {x:X} {n:Nat} {v:V}:Bd (.loadN x n) t h v=CP (ev t x) n h (isV v):=rfl
theorem chk_sbin {o:SOp} {x y:X} {v:V}:Bd (.sbin o x y) t h v=E7 o (ev t x) (ev t y) h (isV v):=rfl
theorem chk_slice {x:X} {a b m:Option X} {sz:Nat} {v:V}:Bd (.slice x a b m sz) t h v=BJ (ev t x) (evo t a) (evo t b) (evo t m) sz h (isV v):=rfl
theorem chk_fld {x:X} {o n:Nat} {agg:Bool} {v:V}:Bd (.fld x o n agg) t h v=oFld (ev t x) o n agg h (isV v):=rfl
theorem chk_idxS {x i:X} {v:V}:Bd (.idxS x i) t h v=Ha (ev t x) (ev t i) h (isV v):=rfl
theorem fld_1 {x y:V} {l:List V}:oFld (.agg (x::y::l)) 1 1 false h c=c y h:=rfl
def flat (v:V):Bool:=match v with
 |.int _ _|.bool _|.str _|.nilp|.ptr _ _|.nils|.sl _ _ _ _ _|.nilm|.map _|.yld _|.nilf|.nili|.rp _ _|.rsl _ _ _ _|.esl=>true
 |_=>false
theorem BI {n:Nat} {v:V} (hv:flat v=true):veq (n+1) v v=true:=by
 cases v<;>first|(simp [flat] at hv;done)|skip
 all_goals simp only[veq,GJ,Bp,beqL_refl,K.beq_refl,Nat.beq_refl]
 case bool b=>cases b<;>rfl
 all_goals (unfold GZ;rw[if_pos rfl])
theorem Gm {n:Nat}:∀{l:List V},(∀v∈l,flat v=true)→BS (veq (n+1)) l l=true
 | [],_=>rfl
 |v::l,hl=>by simp only[BS];rw[BI (hl v (by simp)),Gm fun w hw=>hl w (by simp [hw])]
theorem veq_agg {n:Nat} {l:List V} (hl:∀v∈l,flat v=true):veq (n+2) (.agg l) (.agg l)=true:=by simp only[veq];exact Gm hl
theorem veq_str {n:Nat} {s:List Nat}:veq (n+1) (.str s) (.str s)=true:=BI rfl
theorem veq_rp {n o:Nat} {q:List V}:veq (n+1) (.rp q o) (.rp q o)=true:=BI rfl
theorem DJ {b:Bool} {cp n:Nat} {q:List V}:flat (slR b cp q n)=true:=by unfold slR;split<;>rfl
theorem veq_slR {b:Bool} {m cp n:Nat} {q:List V}:veq (m+1) (slR b cp q n) (slR b cp q n)=true:=BI DJ
theorem FT {l:List V} (hl:∀v∈l,flat v=true):Gj (.cells l) l=true:=Gm hl
theorem BO {v:V} {f:List V→Bool} (hv:flat v=true):AU v f=f [v]:=by cases v<;>first|rfl|(simp [flat] at hv;done)
theorem wantB_und {w:Bool}:wantB und w=false:=rfl
theorem flat_bool {b:Bool}:flat (.bool b)=true:=rfl
theorem flat_str {l:List Nat}:flat (.str l)=true:=rfl
theorem veq_agg2 {n:Nat} {v w:V} (hv:flat v=true) (hw:flat w=true):veq (n+2) (.agg [v,w]) (.agg [v,w])=true:=veq_agg (by simp [hv,hw])
theorem JQ {ik:IntKind} {n:Int}:flat (.int ik n)=true:=rfl
theorem flat_sl {b:K} {o l n p:Nat}:flat (.sl b o l n p)=true:=rfl
theorem flat_nils:flat .nils=true:=rfl
noncomputable def mkS2 (v w a b:V) (n:Nat) (h:Hp) (c:KV):Bool:=AU v fun q=>BM q 1 (AN 0 [a,b] q fun z=>AU w fun q'=>BM q' 1 (AN 1 z q' fun z'=>Br h (.cells z') fun b h'=>c (.sl b 0 n n 0) h'))
theorem mkSl_2 {a b:V} {x y:X} {n:Nat}:H6 t [a,b] [(0,1,x),(1,1,y)] n h c=mkS2 (ev t x) (ev t y) a b n h c:=rfl
theorem mkS2_flat {v w a b:V} {n:Nat} (hv:flat v=true) (hw:flat w=true):mkS2 v w a b n h c=c (.sl (nxt h) 0 n n 0) (h.upd (nxt h) (.cells [v,w])).bump:=by simp only[mkS2,BO hv,BO hw,BM,AN,G9,Aq]
noncomputable def chkS2 (v w a b:V) (n:Nat) (h:Hp) (u:V):Bool:=match u with
  |.sl bb o l c p=>(match o with
   |0=>(match Nat.beq l n with
    |true=>(match Nat.beq c n with
     |true=>(match p with
      |0=>AU v fun q=>BM q 1 (AN 0 [a,b] q fun z=>AU w fun q'=>BM q' 1 (AN 1 z q' fun z'=>Gi h bb z'))
      |_+1=>false)
     |false=>false)
    |false=>false)
   |_+1=>false)
  |_=>false
theorem chk_mkSl2 {a b:V} {x y:X} {n:Nat} {u:V}:Bd (.mkSl [a,b] [(0,1,x),(1,1,y)] n) t h u=chkS2 (ev t x) (ev t y) a b n h u:=rfl
theorem chkS2_flat {v w a b:V} {n:Nat} {bb:K} (hv:flat v=true) (hw:flat w=true):chkS2 v w a b n h (.sl bb 0 n n 0)=Gj (blk h bb) [v,w]:=by simp only[chkS2,Nat.beq_refl,BO hv,BO hw,BM,AN,G9,FS]
theorem bearB_2 {v w:V} (hv:flat v=true) (hw:flat w=true):Gj (.cells [v,w]) [v,w]=true:=FT (by simp [hv,hw])
noncomputable def rangeK (l:K) (t:T V) (d:Dc) (k:KE):KC:=fun e _ h=>Fw l t d k e h
theorem exec_range {f:X} {ps:List K} {a b:Aa}:exec C L fi (.range f ps a b) t d h k=Dy C fi (ev t f) ps a b t d h k:=rfl
theorem range_fn {fn g:Nat} {x cs:List V} {ps:List K} {a b:Aa} {ds:List D} {cm:Option Md}:
  Dy C (.mk fn none) (.fn g x cs) ps a b t (.mk ds cm) h k=
   C (.fn g) (x++(.yld (nxt h).succ::cs)) none ((((h.upd (nxt h) (.dfr [])).bump).upd (nxt h).succ (.loop .ready .none fn t ps a b (nxt h))).bump)
    (rangeK (nxt h).succ t (.mk (.coll (nxt h)::ds) cm) k):=by
 simp only[Dy,Aq,E6,Au,An];rfl
theorem F6 {l:K} {v:V} {u:Option Md} {st:LSt} {j:Jmp} {f:Nat} {t0:T V} {ps:List K} {a b:Aa} {D:K} (hl:blk h l=.loop st j f t0 ps a b D) (hs:st≠.busy):
  rangeK l t d k (.ret v) u h=IP j t d (h.upd l (.loop .exhausted j f t0 ps a b D)) k:=by
 simp only[rangeK,Fw,hl,AE]
theorem jump_none:IP .none t d h k=k .normal t d h:=rfl
theorem jump_ret:IP .ret t d h k=k .ret t d h:=rfl
theorem jump_exit {id:Nat}:IP (.exit id) t d h k=k (.exit id) t d h:=rfl
noncomputable def G2 (l:K) (kc:KC):KE:=fun e _ _ h3=>EF l kc e h3
noncomputable def roundB (C:Av) (L:Nat) (fi:FI) (l:K) (body:Aa) (kc:KC):KE:=fun e t d h=>roundGo C L fi l body kc e t d h
theorem IW {n:Nat} {l:K} {args:List V} {kc:KC} {st:LSt} {j:Jmp} {f:Nat} {ps:List K} {a b:Aa} {D:K} {af:AFn} (hl:blk h l=.loop st j f t ps a b D) (hf:T.get .no (K.of f) E.fn=.fn (some af)):
  call E L (n+1) (.round l) args none h kc=Cj ps args t (fun t0=>exec (call E L n) L (.mk f (some l)) a t0 .rnd h (roundB (call E L n) L (.mk f (some l)) l b kc)):=by
 show Eu (call E L n) L E l args h kc=_;simp only[Eu,hl,known,hf];rfl
theorem Jm {f:T V→Bool}:Cj [] [] t f=f t:=rfl
theorem HZ {p:K} {ps:List K} {v:V} {vs:List V} {f:T V→Bool}:Cj (p::ps) (v::vs) t f=Cj ps vs (T.ins und v p t) f:=by simp only[Cj,T.set_eq]
theorem CT {l:K} {b:Aa} {kc:KC} {j:Jmp} {f:Nat} {t0:T V} {ps:List K} {a b0:Aa} {D:K} (hl:blk h l=.loop .ready j f t0 ps a b0 D):
  roundB C L fi l b kc .normal t d h=exec C L fi b t d (h.upd l (.loop .busy j f t0 ps a b0 D)) (G2 l kc):=by
 simp only[roundB,roundGo,EG,hl,AE];rfl
theorem Fu {l:K} {kc:KC} {st:LSt} {j:Jmp} {f:Nat} {t0:T V} {ps:List K} {a b0:Aa} {D:K} (hl:blk h l=.loop st j f t0 ps a b0 D):
  G2 l kc .normal t d h=kc (.ret (.bool true)) none (h.upd l (.loop .ready .none f t0 ps a b0 D)):=by
 simp only[G2,EF,Ei,hl,AE]
theorem roundK_ret {l:K} {kc:KC} {st:LSt} {j:Jmp} {f:Nat} {t0:T V} {ps:List K} {a b0:Aa} {D:K} (hl:blk h l=.loop st j f t0 ps a b0 D):
  G2 l kc .ret t d h=kc (.ret (.bool false)) none (h.upd l (.loop .done .ret f t0 ps a b0 D)):=by
 simp only[G2,EF,Ei,hl,AE]
theorem G1 {l:K} {id:Nat} {kc:KC} {st:LSt} {j:Jmp} {f:Nat} {t0:T V} {ps:List K} {a b0:Aa} {D:K} (hl:blk h l=.loop st j f t0 ps a b0 D):
  G2 l kc (.exit id) t d h=kc (.ret (.bool false)) none (h.upd l (.loop .done (.exit id) f t0 ps a b0 D)):=by
 simp only[G2,EF,Ei,hl,AE]
theorem F9 {res:List RV} {kc:KC} {cm:Option Md} {D:K} {e:Ex} (he:e=.ret∨e=.normal) (hD:blk h D=.dfr []):
  CW C (L+2) res kc e t (.mk [.coll D] cm) h=results [] t (h.upd D .none) res fun vs=>kc (.ret (one vs)) cm (h.upd D .none):=by
 rcases he with rfl|rfl<;>(simp only[CW,unwind,hD,AE,List.append_nil])
structure Ac (S:List K) (h h':Hp):Prop where
 nx:(nxt h).num≤(nxt h').num
 old:∀b,b.num<(nxt h).num→b∉S→blk h' b=blk h b
theorem Ac.refl (S:List K) (h:Hp):Ac S h h:=⟨Nat.le_refl _,fun _ _ _=>rfl⟩
theorem Ac.trans {S:List K} {h h1 h2:Hp} (a:Ac S h h1) (b:Ac S h1 h2):Ac S h h2:=
 ⟨Nat.le_trans a.nx b.nx,fun k hk hs=>(b.old k (Nat.lt_of_lt_of_le hk a.nx) hs).trans (a.old k hk hs)⟩
theorem Ah.but {S:List K} {h h':Hp} (a:Ah h h'):Ac S h h':=⟨a.nx,fun b hb _=>a.old b hb⟩
theorem Ac.none {h h':Hp} (a:Ac [] h h'):Ah h h':=⟨a.nx,fun b hb=>a.old b hb (by simp)⟩
theorem Ac.new {S:List K} {h h':Hp} (a:Ac S h h') (x:Blk):Ac S h (h'.upd (nxt h') x).bump:=by
 refine ⟨?_,fun b hb hs=>?_⟩
 ·rw[Au,An,K.num_succ];have:=a.nx;omega
 ·rw[Am,Ak,if_neg (fun e=>by subst e;have:=a.nx;omega)];exact a.old b hb hs
theorem Ac.put {S : List K} {h h' : Hp} (a : Ac S h h') {b : K} (hb : (nxt h).num ≤ b.num ∨ b ∈ S) (x : Blk) : Ac S h (h'.upd b x) := by
  refine ⟨by rw [An]; exact a.nx, fun c hc hs => ?_⟩
  rw [Ak, if_neg (fun e => by subst e;exact hb.elim (fun h1=>by omega) hs)];exact a.old c hc hs
theorem BW {b b':K} {x:Blk} (hne:b'.num≠b.num):blk (h.upd b x) b'=blk h b':=by rw[Ak,if_neg (fun e=>hne (by rw[e]))]
def Kp (l:List Nat) (t t':T V):Prop:=∀i∈l,T.get und (K.of i) t'=T.get und (K.of i) t
theorem Kp.refl (l:List Nat) (t:T V):Kp l t t:=fun _ _=>rfl
theorem Kp.trans {l:List Nat} {t t1 t2:T V} (a:Kp l t t1) (b:Kp l t1 t2):Kp l t t2:=fun i hi=>(b i hi).trans (a i hi)
theorem Ac.lt {S:List K} {h h1:Hp} (a:Ac S h h1) {b:K} (hb:b.num<(nxt h).num):b.num<(nxt h1).num:=Nat.lt_of_lt_of_le hb a.nx
theorem Ep {B b:Aa} (hB:B=b):exec C L fi B t d h k=exec C L fi b t d h k:=by rw[hB]
end
end Go.AJ
namespace Go.AJ
open Go
set_option maxRecDepth 10000
theorem eqS {α:Type} {a:α}:(a=a)=True:=eq_self a
theorem ifT {α:Type} {a b:α}:(if True then a else b)=a:=rfl
theorem ifF {α:Type} {a b:α}:(if False then a else b)=b:=rfl
theorem beqS {a:Nat}:(a==a)=true:=beq_self_eq_true a
theorem beqB {a:Bool}:(a==a)=true:=beq_self_eq_true a
theorem nilA {α:Type} {a:List α}: []++a=a:=rfl
theorem consA {α:Type} {a b:List α} {x:α}:(x::a)++b=x::(a++b):=rfl
theorem appN {α:Type} {a:List α}:a++ []=a:=List.append_nil a
def sD:=And.intro @normK_eq (And.intro @execK_eq (And.intro @opsK_eq (And.intro @stagesK_eq (And.intro @bodyK_eq (And.intro @ops_all (And.intro @ops_some (And.intro @draw_cons (And.intro @drawK_none (And.intro @drawK_some (And.intro @exec_skip (And.intro @exec_reg (And.intro @exec_draw (And.intro @exec_seq (And.intro @exec_cond (And.intro @exec_block (And.intro @exec_exit (And.intro @exec_ret (And.intro @Eo (And.intro @iterK_exit (And.intro @iterK_ret (And.intro @FR (And.intro @I3 (And.intro @HH (And.intro @opsRun_nil (And.intro @draw_nil (And.intro @exec_range (@range_fn)))))))))))))))))))))))))))
def sB:=And.intro @eqS (And.intro @ifT (And.intro @ifF (And.intro @beqS (And.intro @beqB (And.intro @nilA (And.intro @consA (And.intro @appN (And.intro @panK_eq (And.intro @callK_eq (And.intro @isV_eq (And.intro @isT_bool (And.intro @isF_bool (And.intro @putK_some (And.intro @putK_none (And.intro @chk_all (And.intro @chk_some (And.intro @iterK_panic (And.intro @blockK_panic (And.intro @wantB_bool (And.intro @kv_eq (And.intro @kh_eq (And.intro @ev_t (And.intro @ev_c (And.intro @evs_nil (And.intro @evs_cons (And.intro @evo_none (And.intro @evo_some (And.intro @get_ins (And.intro @op_mv (And.intro @op_mvh (And.intro @op_pick (And.intro @op_load1 (And.intro @op_loadN (And.intro @op_addOff (And.intro @op_ibin (And.intro @op_sbin (And.intro @op_eqv (And.intro @op_box (And.intro @op_alloc (And.intro @op_mk (And.intro @op_mkSl (And.intro @op_not (And.intro @op_neg (And.intro @op_idx (And.intro @op_idxA (And.intro @op_store (And.intro @op_nilchk (And.intro @op_ext (And.intro @op_slice (And.intro @op_idxG (And.intro @op_conv (And.intro @op_fld (And.intro @op_mkslice (And.intro @op_len (And.intro @op_app (And.intro @op_call (And.intro @callEnd_ret (And.intro @chkAll_nil (And.intro @chkAll_cons (And.intro @chk_mv (And.intro @chk_pick (And.intro @chk_load1 (And.intro @chk_ibin (And.intro @chk_idx (And.intro @chk_idxA (And.intro @chk_nilchk (And.intro @chk_ext (And.intro @chk_conv (And.intro @chk_idxG (And.intro @chk_len (And.intro @chk_not (And.intro @veq_int (And.intro @GJ (And.intro @veq_bool (And.intro @veq_ptr (And.intro @veq_sl (And.intro @veq_nils (And.intro @veq_und (And.intro @pick_bool (And.intro @AG (And.intro @Bp (And.intro @DW (And.intro @EX (And.intro @Fn (And.intro @ib_add_i64 (And.intro @ib_add_u64 (And.intro @ib_add_u8 (And.intro @ib_sub_i64 (And.intro @ib_sub_u64 (And.intro @ib_sub_u8 (And.intro @ib_mul_i64 (And.intro @ib_mul_u64 (And.intro @ib_mul_u8 (And.intro @ib_eql_i64 (And.intro @ib_eql_u64 (And.intro @ib_eql_u8 (And.intro @ib_neq_i64 (And.intro @ib_neq_u64 (And.intro @ib_neq_u8 (And.intro @ib_lss_i64 (And.intro @ib_lss_u64 (And.intro @ib_lss_u8 (And.intro @ib_leq_i64 (And.intro @ib_leq_u64 (And.intro @ib_leq_u8 (And.intro @ib_gtr_i64 (And.intro @ib_gtr_u64 (And.intro @ib_gtr_u8 (And.intro @ib_geq_i64 (And.intro @ib_geq_u64 (And.intro @ib_geq_u8 (And.intro @ibin_shr (And.intro @add_ofNat (And.intro @mul_ofNat (And.intro @Ie (And.intro @tmod_ofNat (And.intro @Aj (And.intro @conv_int (And.intro @not_bool (And.intro @nilchk_ptr (And.intro @ext_tup0 (And.intro @ext_tup1 (And.intro @ext_tup2 (And.intro @AC (And.intro @call_prim (And.intro @putArgs_nil (And.intro @putArgs_cons (And.intro @fnEnd_ret (And.intro @fnEnd_normal (And.intro @res_nil (And.intro @res_t (And.intro @res_cell1 (And.intro @res_cellN (And.intro @one_nil (And.intro @one_one (And.intro @one_two (And.intro @Bool.not_true (And.intro @Bool.not_false (And.intro @Bool.true_eq_false (And.intro @Bool.false_eq_true (And.intro @Bool.and_self (And.intro @Bool.and_true (And.intro @Bool.true_and (And.intro @Bool.true_beq (And.intro @Bool.false_beq (And.intro @An (And.intro @Au (And.intro @FS (And.intro @bear_ints (And.intro @bear_int (And.intro @chk_alloc (And.intro @chk_mkslice (And.intro @len_sl (And.intro @len_nils (And.intro @rep_ints (And.intro @ld_ptr (And.intro @ldN_ptr (And.intro @ldB_0 (And.intro @ldB_1 (And.intro @ldB_2 (And.intro @ldN_2 (And.intro @st_int (And.intro @st_agg2 (And.intro @stB_0 (And.intro @stB_2 (And.intro @box_int (And.intro @box_agg (And.intro @idxA_nat (And.intro @idx_nat (And.intro @eq_u64_2 (And.intro @mk_2 (And.intro @mk2_int (And.intro @Am (And.intro @BW (And.intro @DS (And.intro @upd_upd (And.intro @K.self_ne_succ (And.intro @K.succ_ne_self (And.intro @K.self_ne_succ2 (And.intro @K.succ2_ne_self (And.intro @K.succ_eq_succ (And.intro @Nat.zero_add (And.intro @Nat.mul_one (And.intro @Nat.zero_lt_succ (And.intro @Nat.lt_add_one (And.intro @len_slR (And.intro @addOff_ptr (And.intro @addOff_rp (And.intro @nilchk_rp (And.intro @ldB_hd (And.intro @ldB_3 (And.intro @ldB_4 (And.intro @ldB_5 (And.intro @ldB_6 (And.intro @ldN_22 (And.intro @st_bool (And.intro @st_fn (And.intro @st_sl (And.intro @st_nils (And.intro @stB_31 (And.intro @stB_32 (And.intro @box_str (And.intro @box_bool (And.intro @box_yld (And.intro @eqv_bool (And.intro @len_str (And.intro @sb_eql (And.intro @sb_neq (And.intro @sb_lss (And.intro @sb_gtr (And.intro @beqL_refl (And.intro @op_idxS (And.intro @op_mkf (And.intro @op_callv_fn (And.intro @callv_fn (And.intro @callv_yld (And.intro @op_mapget (And.intro @op_mapset (And.intro @op_mkmap (And.intro @op_mxn (And.intro @mxn_max (And.intro @op_appz (And.intro @op_copy (And.intro @op_cap (And.intro @op_ofBytes (And.intro @op_recover (And.intro @recover_ret (And.intro @op_defer (And.intro @defer_fn (And.intro @op_mkif (And.intro @cap_nils (And.intro @cap_sl (And.intro @neg_int (And.intro @wantB_und (And.intro @veq_agg2 (And.intro @JQ (And.intro @flat_sl (And.intro @flat_nils (And.intro @DJ (And.intro @mkSl_2 (And.intro @mkS2_flat (And.intro @chk_mkSl2 (And.intro @chkS2_flat (And.intro @bearB_2 (And.intro @chk_addOff (And.intro @chk_loadN (And.intro @chk_sbin (And.intro @chk_slice (And.intro @chk_fld (And.intro @chk_idxS (And.intro @fld_1 (And.intro @veq_str (And.intro @veq_rp (And.intro @veq_slR (And.intro @jump_none (And.intro @jump_ret (And.intro @jump_exit (And.intro @Jm (And.intro @HZ (@Ad))))))))))))))))))))))))))))))))))))))))))))))))))))))))))))))))))))))))))))))))))))))))))))))))))))))))))))))))))))))))))))))))))))))))))))))))))))))))))))))))))))))))))))))))))))))))))))))))))))))))))))))))))))))))))))))))))))))))))))))))))))))))))))))))))))
def nB:=And.intro @Au (And.intro @An (And.intro @K.num_succ (@Am)))
theorem lenC {x:V} {l:List V}:(x::l).length=l.length+1:=rfl
theorem lenZ:([]:List V).length=0:=rfl
def dB:=And.intro @JQ (And.intro @flat_bool (And.intro @flat_str (And.intro @DJ (And.intro @flat_sl (And.intro @flat_nils (And.intro @Au (And.intro @An (And.intro @K.num_succ (And.intro @Am (And.intro @lenC (@lenZ)))))))))))
end Go.AJ
namespace Go.AJ
open Go
theorem Be {p q:Prop} (g:q) (h:q→p:=by intro g;simp -implicitDefEqProofs (disch:=first|assumption|((try simp only[dB]);first|done|omega)) only[↓sD,sB,↓reduceIte,Nat.reduceEqDiff,reduceCtorEq,Nat.reduceLT,Nat.reduceMul,Nat.reduceAdd];exact g):p:=h g
theorem Ag {p:Prop} (h:p:=by simp -implicitDefEqProofs (disch:=first|assumption|((try simp only[dB]);first|done|omega)) only[↓sD,sB,↓reduceIte,Nat.reduceEqDiff,reduceCtorEq,Nat.reduceLT,Nat.reduceMul,Nat.reduceAdd]):p:=h
theorem Sst {p q:Prop} {A:Prop} (a:A) (g:q) (h:A→q→p:=by intro a g;simp -implicitDefEqProofs (disch:=first|assumption|((try simp only[dB]);first|done|omega)) only[↓sD,sB,↓reduceIte,Nat.reduceEqDiff,reduceCtorEq,Nat.reduceLT,Nat.reduceMul,Nat.reduceAdd,a];exact g):p:=h a g
theorem Ssc {p:Prop} {A:Prop} (a:A) (h:A→p:=by intro a;simp -implicitDefEqProofs (disch:=first|assumption|((try simp only[dB]);first|done|omega)) only[↓sD,sB,↓reduceIte,Nat.reduceEqDiff,reduceCtorEq,Nat.reduceLT,Nat.reduceMul,Nat.reduceAdd,a]):p:=h a
theorem FV {p q:Prop} (g:q) (h:q→p:=by intro g;simp -implicitDefEqProofs (disch:=first|assumption|((try simp only[dB]);first|done|omega)) only[↓sD,sB,↓reduceIte,Nat.reduceEqDiff,reduceCtorEq,Nat.reduceLT,Nat.reduceMul,Nat.reduceAdd,decide_true,decide_false,Aj,AG,AR];exact g):p:=h g
theorem Tst {p q:Prop} {A:Prop} (a:A) (g:q) (h:A→q→p:=by intro a g;simp -implicitDefEqProofs (disch:=first|assumption|((try simp only[dB]);first|done|omega)) only[↓sD,sB,↓reduceIte,Nat.reduceEqDiff,reduceCtorEq,Nat.reduceLT,Nat.reduceMul,Nat.reduceAdd,decide_true,decide_false,Aj,AG,AR,a];exact g):p:=h a g
theorem Tsc {p:Prop} {A:Prop} (a:A) (h:A→p:=by intro a;simp -implicitDefEqProofs (disch:=first|assumption|((try simp only[dB]);first|done|omega)) only[↓sD,sB,↓reduceIte,Nat.reduceEqDiff,reduceCtorEq,Nat.reduceLT,Nat.reduceMul,Nat.reduceAdd,decide_true,decide_false,Aj,AG,AR,a]):p:=h a
theorem J2 {A1 A2:Prop} (a1:A1) (a2:A2):A1∧A2:=⟨a1,a2⟩
theorem J3 {A1 A2 A3:Prop} (a1:A1) (a2:A2) (a3:A3):A1∧A2∧A3:=⟨a1,a2,a3⟩
theorem J4 {A1 A2 A3 A4:Prop} (a1:A1) (a2:A2) (a3:A3) (a4:A4):A1∧A2∧A3∧A4:=⟨a1,a2,a3,a4⟩
theorem J5 {A1 A2 A3 A4 A5:Prop} (a1:A1) (a2:A2) (a3:A3) (a4:A4) (a5:A5):A1∧A2∧A3∧A4∧A5:=⟨a1,a2,a3,a4,a5⟩
theorem J6 {A1 A2 A3 A4 A5 A6:Prop} (a1:A1) (a2:A2) (a3:A3) (a4:A4) (a5:A5) (a6:A6):A1∧A2∧A3∧A4∧A5∧A6:=⟨a1,a2,a3,a4,a5,a6⟩
theorem J7 {A1 A2 A3 A4 A5 A6 A7:Prop} (a1:A1) (a2:A2) (a3:A3) (a4:A4) (a5:A5) (a6:A6) (a7:A7):A1∧A2∧A3∧A4∧A5∧A6∧A7:=⟨a1,a2,a3,a4,a5,a6,a7⟩
theorem J8 {A1 A2 A3 A4 A5 A6 A7 A8:Prop} (a1:A1) (a2:A2) (a3:A3) (a4:A4) (a5:A5) (a6:A6) (a7:A7) (a8:A8):A1∧A2∧A3∧A4∧A5∧A6∧A7∧A8:=⟨a1,a2,a3,a4,a5,a6,a7,a8⟩
theorem J9 {A1 A2 A3 A4 A5 A6 A7 A8 A9:Prop} (a1:A1) (a2:A2) (a3:A3) (a4:A4) (a5:A5) (a6:A6) (a7:A7) (a8:A8) (a9:A9):A1∧A2∧A3∧A4∧A5∧A6∧A7∧A8∧A9:=⟨a1,a2,a3,a4,a5,a6,a7,a8,a9⟩
theorem J10 {A1 A2 A3 A4 A5 A6 A7 A8 A9 A10:Prop} (a1:A1) (a2:A2) (a3:A3) (a4:A4) (a5:A5) (a6:A6) (a7:A7) (a8:A8) (a9:A9) (a10:A10):A1∧A2∧A3∧A4∧A5∧A6∧A7∧A8∧A9∧A10:=⟨a1,a2,a3,a4,a5,a6,a7,a8,a9,a10⟩
theorem J11 {A1 A2 A3 A4 A5 A6 A7 A8 A9 A10 A11:Prop} (a1:A1) (a2:A2) (a3:A3) (a4:A4) (a5:A5) (a6:A6) (a7:A7) (a8:A8) (a9:A9) (a10:A10) (a11:A11):A1∧A2∧A3∧A4∧A5∧A6∧A7∧A8∧A9∧A10∧A11:=⟨a1,a2,a3,a4,a5,a6,a7,a8,a9,a10,a11⟩
theorem J12 {A1 A2 A3 A4 A5 A6 A7 A8 A9 A10 A11 A12:Prop} (a1:A1) (a2:A2) (a3:A3) (a4:A4) (a5:A5) (a6:A6) (a7:A7) (a8:A8) (a9:A9) (a10:A10) (a11:A11) (a12:A12):A1∧A2∧A3∧A4∧A5∧A6∧A7∧A8∧A9∧A10∧A11∧A12:=⟨a1,a2,a3,a4,a5,a6,a7,a8,a9,a10,a11,a12⟩
theorem J13 {A1 A2 A3 A4 A5 A6 A7 A8 A9 A10 A11 A12 A13:Prop} (a1:A1) (a2:A2) (a3:A3) (a4:A4) (a5:A5) (a6:A6) (a7:A7) (a8:A8) (a9:A9) (a10:A10) (a11:A11) (a12:A12) (a13:A13):A1∧A2∧A3∧A4∧A5∧A6∧A7∧A8∧A9∧A10∧A11∧A12∧A13:=⟨a1,a2,a3,a4,a5,a6,a7,a8,a9,a10,a11,a12,a13⟩
theorem J14 {A1 A2 A3 A4 A5 A6 A7 A8 A9 A10 A11 A12 A13 A14:Prop} (a1:A1) (a2:A2) (a3:A3) (a4:A4) (a5:A5) (a6:A6) (a7:A7) (a8:A8) (a9:A9) (a10:A10) (a11:A11) (a12:A12) (a13:A13) (a14:A14):A1∧A2∧A3∧A4∧A5∧A6∧A7∧A8∧A9∧A10∧A11∧A12∧A13∧A14:=⟨a1,a2,a3,a4,a5,a6,a7,a8,a9,a10,a11,a12,a13,a14⟩
theorem tD {p:Prop} (h:p:=by first|assumption|((try simp only[dB]);first|done|omega)):p:=h
theorem tN {p:Prop} (h:p:=by ((try simp only[nB]);omega)):p:=h
theorem tO {p:Prop} (h:p:=by omega):p:=h
theorem eF {p:Prop} (h:¬p:=by omega):p=False:=eq_false h
theorem eT {p:Prop} (h:p:=by omega):p=True:=eq_true h
theorem pM (M:Nat) (h:1≤M:=by omega):∃j,M=j+1:=⟨M-1,by omega⟩
theorem kO {h h':Hp} (a:(nxt h).num≤(nxt h').num:=by ((try simp only[nB]);(try omega))) (b:∀b,b.num<(nxt h).num→blk h' b=blk h b:=by intro b hb;simp (disch:=exact tN) only[Am,BW]):Ah h h':=⟨a,b⟩
theorem kpB:type_of%(And.intro @List.mem_cons.{0} (And.intro @List.not_mem_nil.{0} (And.intro @or_false (And.intro @forall_eq_or_imp.{1} (And.intro @forall_eq.{1} (And.intro @get_ins (And.intro @if_false.{1} (@and_self)))))))):=And.intro @List.mem_cons.{0} (And.intro @List.not_mem_nil.{0} (And.intro @or_false (And.intro @forall_eq_or_imp.{1} (And.intro @forall_eq.{1} (And.intro @get_ins (And.intro @if_false.{1} (@and_self)))))))
end Go.AJ
