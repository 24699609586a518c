/- The equations of the interpreter, for values that are not known. Nothing is asked of the program. -/
import Derived.Test.YtgdbpnpolelfoaaGreatDoorAiD
set_option linter.all false
/- The interpreter's run, as equations: for values that are not known. -/
namespace Go.AJ
open Go
section
variable {C : CallF} {L : Nat} {fi : FI} {t : T V} {d : Dc} {h : Hp} {k : KE} {E : Env} {c : KV} {ks : KS} {kp : KP}
def normK (k : KE) : KS := fun t' d' h' => k .normal t' d' h'
def panK (k : KE) (q : List K) : KP := fun ch t' d' h' => k (.panic ch q) t' d' h'
def failK : KP := fun _ _ _ _ => false
noncomputable def execK (C : CallF) (L : Nat) (fi : FI) (b : ACode) (k : KE) : T V → Dc → Hp → Bool := fun t' d' h' => exec C L fi b t' d' h' k
noncomputable def opsK (C : CallF) (l : List AO) (ks : KS) (kp : KP) : KS := fun t' d' h' => opsRun C l t' d' h' ks kp
noncomputable def drawK (C : CallF) (chk : List AO) (hv : Option AO) (l : List Stage) (ks : KS) (kp : KP) : KS := fun t1 d1 h1 => if chkAll t1 h1 chk = true then (match hv with
    | none => drawRun C l t1 d1 h1 ks kp
    | some o => opsRun C [o] t1 d1 h1 (fun t2 d2 h2 => drawRun C l t2 d2 h2 ks kp) kp) else false
noncomputable def stagesK (C : CallF) (l : List Stage) (ks : KS) (kp : KP) : KS := fun t2 d2 h2 => drawRun C l t2 d2 h2 ks kp
noncomputable def callK (dst : Option K) (t : T V) (d : Dc) (ks : KS) (kp : KP) : KC := fun e _ h' => callEnd dst t d ks kp e h'
noncomputable def isV (v : V) : KV := fun v' _ => veq 40 v' v
def isT (v : V) : Bool := match v with | .bool b => b | _ => false
def isF (v : V) : Bool := match v with | .bool b => !b | _ => false
noncomputable def bodyK (C : CallF) (L : Nat) (fi : FI) (body : ACode) (cm : Option Md) (h : Hp) (kc : KE) : T V → Bool := fun t => exec C L fi body t (.mk [] cm) h kc
theorem normK_eq : normK k t d h = k .normal t d h := rfl
theorem panK_eq {ch : List PE} {q : List K} : panK k q ch t d h = k (.panic ch q) t d h := rfl
theorem execK_eq {b : ACode} : execK C L fi b k t d h = exec C L fi b t d h k := rfl
theorem opsK_eq {l : List AO} : opsK C l ks kp t d h = opsRun C l t d h ks kp := rfl
theorem stagesK_eq {l : List Stage} : stagesK C l ks kp t d h = drawRun C l t d h ks kp := rfl
theorem callK_eq {dst : Option K} {e : End} {u : Option Md} {h' : Hp} : callK dst t d ks kp e u h' = callEnd dst t d ks kp e h' := rfl
theorem isV_eq {v v' : V} : isV v v' h = veq 40 v' v := rfl
theorem isT_bool {b : Bool} : isT (.bool b) = b := rfl
theorem isF_bool {b : Bool} : isF (.bool b) = !b := rfl
theorem bodyK_eq {body : ACode} {cm : Option Md} : bodyK C L fi body cm h k t = exec C L fi body t (.mk [] cm) h k := rfl
theorem exec_skip : exec C L fi .skip t d h k = k .normal t d h := rfl
theorem exec_reg {l : List AO} : exec C L fi (.reg l) t d h k = opsRun C l t d h (normK k) (panK k []) := rfl
theorem exec_draw {l : List Stage} {q : List K} : exec C L fi (.draw l q) t d h k = drawRun C l t d h (normK k) (panK k q) := rfl
theorem exec_seq {a b : ACode} : exec C L fi (.seq a b) t d h k = exec C L fi a t d h (iterK (execK C L fi b k) k) := rfl
theorem exec_cond {x : X} {a b : ACode} : exec C L fi (.cond x a b) t d h k = if isT (ev t x) = true then exec C L fi a t d h k else if isF (ev t x) = true then exec C L fi b t d h k else false := by
 show condGo (ev t x) (exec C L fi a t d h k) (exec C L fi b t d h k) = _
 generalize ev t x = v
 cases v with
 | bool b => cases b <;> rfl
 | _ => rfl
theorem exec_block {id : Nat} {a : ACode} : exec C L fi (.block id a) t d h k = exec C L fi a t d h (blockK id k) := rfl
theorem exec_loop {a : ACode} : exec C L fi (.loop a) t d h k = iter (exec C L fi a) L t d h k := rfl
theorem exec_exit {id : Nat} : exec C L fi (.exit id) t d h k = k (.exit id) t d h := rfl
theorem exec_ret : exec C L fi .ret t d h k = k .ret t d h := rfl
theorem iter_succ {a : ACode} {n : Nat} : iter (exec C L fi a) (n + 1) t d h k = exec C L fi a t d h (iterK (fun t' d' h' => iter (exec C L fi a) n t' d' h' k) k) := rfl
theorem iterK_normal {r : T V → Dc → Hp → Bool} : iterK r k .normal t d h = r t d h := rfl
theorem iterK_exit {r : T V → Dc → Hp → Bool} {id : Nat} : iterK r k (.exit id) t d h = k (.exit id) t d h := rfl
theorem iterK_ret {r : T V → Dc → Hp → Bool} : iterK r k .ret t d h = k .ret t d h := rfl
theorem iterK_panic {r : T V → Dc → Hp → Bool} {ch : List PE} {q : List K} : iterK r k (.panic ch q) t d h = k (.panic ch q) t d h := rfl
theorem blockK_normal {id : Nat} : blockK id k .normal t d h = k .normal t d h := rfl
theorem blockK_ret {id : Nat} : blockK id k .ret t d h = k .ret t d h := rfl
theorem blockK_panic {id : Nat} {ch : List PE} {q : List K} : blockK id k (.panic ch q) t d h = k (.panic ch q) t d h := rfl
theorem blockK_exit {id id' : Nat} : blockK id k (.exit id') t d h = if id = id' then k .normal t d h else k (.exit id') t d h := by
 simp only [blockK]
 split
 ·rename_i e; rw [if_pos (Nat.eq_of_beq_eq_true e)]
 ·rename_i e; rw [if_neg (fun e' => by subst e'; rw [Nat.beq_refl] at e; cases e)]
theorem opsRun_nil : opsRun C [] t d h ks kp = ks t d h := rfl
def wantB (v : V) (w : Bool) : Bool := match v with
 | .bool b => b == w
 | _ => false
theorem wantB_bool {b w : Bool} : wantB (.bool b) w = (b == w) := rfl
noncomputable def putK (dst : Option K) (v : V) (t : T V) (d : Dc) (h : Hp) (ks : KS) : Bool := put dst v t fun t' => ks t' d h
theorem putK_some {p : K} {v : V} : putK (some p) v t d h ks = ks (T.ins und v p t) d h := by simp only [putK, put, T.set_eq]
theorem putK_none {v : V} : putK none v t d h ks = ks t d h := rfl
theorem ops_all {dst : Option K} {op : AOp} {l : List AO} : opsRun C (⟨dst, none, op⟩ :: l) t d h ks kp = opRun C op dst t d h (opsK C l ks kp) kp := rfl
theorem wanted_some {p : K} {w : Bool} {y n : Bool} : wanted (some (p, w)) t y n = if wantB (T.get und p t) w = true then y else n := by
 simp only [wanted]
 generalize T.get und p t = v
 cases v with
 | bool b => cases b <;> cases w <;> rfl
 | _ => rfl
theorem ops_some {dst : Option K} {p : K} {w : Bool} {op : AOp} {l : List AO} : opsRun C (⟨dst, some (p, w), op⟩ :: l) t d h ks kp =
  if wantB (T.get und p t) w = true then opRun C op dst t d h (opsK C l ks kp) kp else putK dst und t d h (opsK C l ks kp) := by
 show wanted (some (p, w)) t _ _ = _
 rw [wanted_some]
 rfl
theorem kv_eq {dst : Option K} {v : V} : kv dst t d ks v h = putK dst v t d h ks := rfl
theorem kh_eq {dst : Option K} : kh dst t d ks h = putK dst und t d h ks := rfl
theorem ev_t {p : K} : ev t (.t p) = T.get und p t := rfl
theorem ev_c {v : V} : ev t (.c v) = v := rfl
theorem evs_nil : evs t [] = [] := rfl
theorem evs_cons {x : X} {l : List X} : evs t (x :: l) = ev t x :: evs t l := rfl
theorem evo_none : evo t none = none := rfl
theorem evo_some {x : X} : evo t (some x) = some (ev t x) := rfl
theorem get_ins {a b : Nat} {v : V} : T.get und (K.of a) (T.ins und v (K.of b) t) = if a = b then v else T.get und (K.of a) t := by
 rw [T.get_ins]
 by_cases e : a = b
 ·rw [if_pos (by rw [e]), if_pos e]
 ·rw [if_neg (fun h => e (K.of_inj h)), if_neg e]
theorem op_mvh {x : X} {dst : Option K} : opRun C (.mvh x) dst t d h ks kp = kv dst t d ks (ev t x) h := rfl
theorem op_mv {x : X} {dst : Option K} : opRun C (.mv x) dst t d h ks kp = kv dst t d ks (ev t x) h := rfl
theorem op_pick {x a b : X} {dst : Option K} : opRun C (.pick x a b) dst t d h ks kp = oPick (ev t x) (ev t a) (ev t b) h (kv dst t d ks) := rfl
theorem op_load1 {x : X} {dst : Option K} : opRun C (.load1 x) dst t d h ks kp = oLoad1 (ev t x) h (kv dst t d ks) := rfl
theorem op_loadN {x : X} {n : Nat} {dst : Option K} : opRun C (.loadN x n) dst t d h ks kp = oLoadN (ev t x) n h (kv dst t d ks) := rfl
theorem op_addOff {x : X} {n : Nat} {dst : Option K} : opRun C (.addOff x n) dst t d h ks kp = oAddOff (ev t x) n h (kv dst t d ks) := rfl
theorem op_ibin {o : IOp} {x y : X} {dst : Option K} : opRun C (.ibin o x y) dst t d h ks kp = oIbin o (ev t x) (ev t y) h (kv dst t d ks) := rfl
theorem op_sbin {o : SOp} {x y : X} {dst : Option K} : opRun C (.sbin o x y) dst t d h ks kp = oSbin o (ev t x) (ev t y) h (kv dst t d ks) := rfl
theorem op_eqv {neg : Bool} {q : EK} {x y : X} {dst : Option K} : opRun C (.eqv neg q x y) dst t d h ks kp = oEq neg q (ev t x) (ev t y) h (kv dst t d ks) := rfl
theorem op_box {x : X} {dst : Option K} : opRun C (.box x) dst t d h ks kp = oBox (ev t x) h (kv dst t d ks) := rfl
theorem op_alloc {z : List V} {dst : Option K} : opRun C (.alloc z) dst t d h ks kp = kv dst t d ks (.ptr (nxt h) 0) (h.upd (nxt h) (.cells z)).bump := by
 show newBlk h (.cells z) (fun b h' => kv dst t d ks (.ptr b 0) h') = _
 rw [newBlk_eq]
theorem op_mk {z : List V} {ps : List (Nat × Nat × X)} {dst : Option K} : opRun C (.mk z ps) dst t d h ks kp = oMk t z ps h (kv dst t d ks) := rfl
theorem op_mkSl {z : List V} {ps : List (Nat × Nat × X)} {n : Nat} {dst : Option K} : opRun C (.mkSl z ps n) dst t d h ks kp = oMkSl t z ps n h (kv dst t d ks) := rfl
theorem op_not {x : X} {dst : Option K} : opRun C (.not x) dst t d h ks kp = oNot (ev t x) h (kv dst t d ks) := rfl
theorem op_neg {x : X} {dst : Option K} : opRun C (.neg x) dst t d h ks kp = oNeg (ev t x) h (kv dst t d ks) := rfl
theorem op_idx {x i : X} {sz : Nat} {dst : Option K} : opRun C (.idx x i sz) dst t d h ks kp = oIdx (ev t x) (ev t i) sz h (kv dst t d ks) := rfl
theorem op_idxA {x i : X} {sz n : Nat} {dst : Option K} : opRun C (.idxA x i sz n) dst t d h ks kp = oIdxA (ev t x) (ev t i) sz n h (kv dst t d ks) := rfl
theorem op_store {a x : X} {n : Nat} {dst : Option K} : opRun C (.store a x n) dst t d h ks kp = oStore (ev t a) (ev t x) n h (kh dst t d ks) := rfl
theorem op_nilchk {x : X} {dst : Option K} : opRun C (.nilchk x) dst t d h ks kp = oNilchk (ev t x) h (kv dst t d ks) := rfl
theorem op_ext {x : X} {i : Nat} {dst : Option K} : opRun C (.ext x i) dst t d h ks kp = oExt (ev t x) i h (kv dst t d ks) := rfl
theorem op_slice {x : X} {a b m : Option X} {sz : Nat} {dst : Option K} : opRun C (.slice x a b m sz) dst t d h ks kp = oSlice (ev t x) (evo t a) (evo t b) (evo t m) sz h (kv dst t d ks) := rfl
theorem op_idxG {x i : X} {sz n : Nat} {agg : Bool} {dst : Option K} : opRun C (.idxG x i sz n agg) dst t d h ks kp = oIdxG (ev t x) (ev t i) sz n agg h (kv dst t d ks) := rfl
theorem op_conv {ik : IntKind} {x : X} {dst : Option K} : opRun C (.conv ik x) dst t d h ks kp = oConv ik (ev t x) h (kv dst t d ks) := rfl
theorem op_fld {x : X} {o n : Nat} {agg : Bool} {dst : Option K} : opRun C (.fld x o n agg) dst t d h ks kp = oFld (ev t x) o n agg h (kv dst t d ks) := rfl
theorem op_mkslice {l cp : X} {z : List V} {by_ : Nat} {dst : Option K} : opRun C (.mkslice l cp z by_) dst t d h ks kp = oMkslice (ev t l) (ev t cp) z by_ h (kv dst t d ks) := rfl
theorem op_len {q : LK} {x : X} {dst : Option K} : opRun C (.len q x) dst t d h ks kp = oLen q (ev t x) h (kv dst t d ks) := rfl
theorem op_app {s x : X} {sz by_ : Nat} {u : Option (List V)} {dst : Option K} : opRun C (.app s x sz by_ u) dst t d h ks kp = oApp u (ev t s) (ev t x) sz by_ h (kv dst t d ks) := rfl
theorem op_call {f : Nat} {l : List X} {dst : Option K} : opRun C (.call f l) dst t d h ks kp = C (.fn f) (evs t l) none h (callK dst t d ks kp) := rfl
theorem callEnd_ret {dst : Option K} {v : V} : callEnd dst t d ks kp (.ret v) h = putK dst v t d h ks := rfl
theorem draw_nil : drawRun C [] t d h ks kp = ks t d h := rfl
theorem draw_cons {ops chk : List AO} {hv : Option AO} {l : List Stage} : drawRun C (⟨ops, chk, hv⟩ :: l) t d h ks kp = opsRun C ops t d h (drawK C chk hv l ks kp) failK := by
 simp only [drawRun]
 congr 1
 funext t1 d1 h1
 simp only [drawK]
 cases chkAll t1 h1 chk <;> rfl
theorem drawK_none {chk : List AO} {l : List Stage} : drawK C chk none l ks kp t d h = if chkAll t h chk = true then drawRun C l t d h ks kp else false := rfl
theorem drawK_some {chk : List AO} {o : AO} {l : List Stage} : drawK C chk (some o) l ks kp t d h = if chkAll t h chk = true then opsRun C [o] t d h (stagesK C l ks kp) kp else false := rfl
theorem chkAll_nil : chkAll t h [] = true := rfl
theorem chkAll_cons {o : AO} {l : List AO} : chkAll t h (o :: l) = (chkOp o t h && chkAll t h l) := by
 simp only [chkAll]
 cases chkOp o t h <;> rfl
theorem chk_all {p : K} {op : AOp} : chkOp ⟨some p, none, op⟩ t h = chkVal op t h (T.get und p t) := rfl
theorem chk_some {p q : K} {w : Bool} {op : AOp} : chkOp ⟨some p, some (q, w), op⟩ t h = if wantB (T.get und q t) w = true then chkVal op t h (T.get und p t) else veq 2 und (T.get und p t) := by
 show wanted (some (q, w)) t _ _ = _
 rw [wanted_some]
theorem chk_mv {x : X} {v : V} : chkVal (.mv x) t h v = veq 40 (ev t x) v := rfl
theorem chk_pick {x a b : X} {v : V} : chkVal (.pick x a b) t h v = oPick (ev t x) (ev t a) (ev t b) h (isV v) := rfl
theorem chk_load1 {x : X} {v : V} : chkVal (.load1 x) t h v = oLoad1 (ev t x) h (isV v) := rfl
theorem chk_ibin {o : IOp} {x y : X} {v : V} : chkVal (.ibin o x y) t h v = oIbin o (ev t x) (ev t y) h (isV v) := rfl
theorem chk_idx {x i : X} {sz : Nat} {v : V} : chkVal (.idx x i sz) t h v = oIdx (ev t x) (ev t i) sz h (isV v) := rfl
theorem chk_idxA {x i : X} {sz n : Nat} {v : V} : chkVal (.idxA x i sz n) t h v = oIdxA (ev t x) (ev t i) sz n h (isV v) := rfl
theorem chk_nilchk {x : X} {v : V} : chkVal (.nilchk x) t h v = oNilchk (ev t x) h (isV v) := rfl
theorem chk_ext {x : X} {i : Nat} {v : V} : chkVal (.ext x i) t h v = oExt (ev t x) i h (isV v) := rfl
theorem chk_conv {ik : IntKind} {x : X} {v : V} : chkVal (.conv ik x) t h v = oConv ik (ev t x) h (isV v) := rfl
theorem chk_idxG {x i : X} {sz n : Nat} {agg : Bool} {v : V} : chkVal (.idxG x i sz n agg) t h v = oIdxG (ev t x) (ev t i) sz n agg h (isV v) := rfl
theorem chk_len {q : LK} {x : X} {v : V} : chkVal (.len q x) t h v = oLen q (ev t x) h (isV v) := rfl
theorem chk_not {x : X} {v : V} : chkVal (.not x) t h v = oNot (ev t x) h (isV v) := rfl
theorem veq_int {n : Nat} {ik ik' : IntKind} {a b : Int} : veq (n + 1) (.int ik a) (.int ik' b) = (kEq ik ik' && beqI a b) := by simp only [veq]; cases kEq ik ik' <;> rfl
theorem kEq_refl {ik : IntKind} : kEq ik ik = true := by simp [kEq]
theorem veq_bool {n : Nat} {a b : Bool} : veq (n + 1) (.bool a) (.bool b) = (a == b) := by cases a <;> cases b <;> rfl
theorem veq_ptr {n : Nat} {b : K} {o : Nat} : veq (n + 1) (.ptr b o) (.ptr b o) = true := by simp [veq, K.beq_refl]
theorem veq_sl {n : Nat} {b : K} {o l cp q : Nat} : veq (n + 1) (.sl b o l cp q) (.sl b o l cp q) = true := by simp [veq, K.beq_refl]
theorem veq_nils {n : Nat} : veq (n + 1) .nils .nils = true := rfl
theorem veq_und {n : Nat} : veq (n + 1) und und = true := rfl
theorem pick_bool {b : Bool} {x y : V} : oPick (.bool b) x y h c = c (if b = true then x else y) h := by cases b <;> rfl
theorem beqI_ofNat {a b : Nat} : beqI (.ofNat a) (.ofNat b) = decide (a = b) := by
 rw [beqI_eq]
 by_cases e : a = b
 ·subst e; simp
 ·rw [decide_eq_false e, decide_eq_false (fun e' => e (Int.ofNat.inj e'))]
theorem beqI_self {a : Int} : beqI a a = true := beqI_iff.2 rfl
theorem mkB_eq {b : Bool} : mkB b h c = c (.bool b) h := by cases b <;> rfl
theorem mkI_eq {ik : IntKind} {n : Int} : mkI ik n h c = c (.int ik (wrapI ik n)) h := by unfold mkI; rw [forceI_eq]
theorem wrap_u64 {n : Nat} : wrapI .u64 (.ofNat n) = .ofNat (n % 18446744073709551616) := rfl
theorem wrap_i64 {n : Nat} (hn : n ≤ 9223372036854775807) : wrapI .i64 (.ofNat n) = .ofNat n := by
 simp only [wrapI]
 rw [Nat.ble_eq_true_of_le hn]
theorem ibin_add {ik : IntKind} {a b : Int} (hk : sameK ik ik true = true) : oIbin .add (.int ik a) (.int ik b) h c = c (.int ik (wrapI ik (Int.add a b))) h := by
 cases ik <;> first | exact mkI_eq | cases hk
theorem ibin_sub {ik : IntKind} {a b : Int} (hk : sameK ik ik true = true) : oIbin .sub (.int ik a) (.int ik b) h c = c (.int ik (wrapI ik (Int.sub a b))) h := by
 cases ik <;> first | exact mkI_eq | cases hk
theorem ibin_mul {ik : IntKind} {a b : Int} (hk : sameK ik ik true = true) : oIbin .mul (.int ik a) (.int ik b) h c = c (.int ik (wrapI ik (Int.mul a b))) h := by
 cases ik <;> first | exact mkI_eq | cases hk
theorem sameK_same {ik : IntKind} {x : Bool} (hk : sameK ik ik true = true) : sameK ik ik x = x := by
 cases ik <;> first | rfl | cases hk
theorem ibin_quo {ik : IntKind} {a b : Int} (hk : sameK ik ik true = true) (hb : beqI b 0 = false) : oIbin .quo (.int ik a) (.int ik b) h c = c (.int ik (wrapI ik (Int.tdiv a b))) h := by
 simp only [oIbin, oIbin2, hb, sameK_same hk, mkI_eq]
theorem ibin_rem {ik : IntKind} {a b : Int} (hk : sameK ik ik true = true) (hb : beqI b 0 = false) : oIbin .rem (.int ik a) (.int ik b) h c = c (.int ik (Int.tmod a b)) h := by
 simp only [oIbin, oIbin2, hb, sameK_same hk, forceI_eq]
theorem ibin_eql {ik : IntKind} {a b : Int} (hk : sameK ik ik true = true) : oIbin .eql (.int ik a) (.int ik b) h c = c (.bool (beqI a b)) h := by
 simp only [oIbin, oIbin2, sameK_same hk, mkB_eq]
theorem ibin_neq {ik : IntKind} {a b : Int} (hk : sameK ik ik true = true) : oIbin .neq (.int ik a) (.int ik b) h c = c (.bool (!beqI a b)) h := by
 simp only [oIbin, oIbin2, sameK_same hk, mkB_eq]
theorem ibin_lss {ik : IntKind} {a b : Int} (hk : sameK ik ik true = true) : oIbin .lss (.int ik a) (.int ik b) h c = c (.bool (ltI a b)) h := by
 simp only [oIbin, oIbin2, sameK_same hk, mkB_eq]
theorem ibin_leq {ik : IntKind} {a b : Int} (hk : sameK ik ik true = true) : oIbin .leq (.int ik a) (.int ik b) h c = c (.bool (!ltI b a)) h := by
 simp only [oIbin, oIbin2, sameK_same hk, mkB_eq]
theorem ibin_gtr {ik : IntKind} {a b : Int} (hk : sameK ik ik true = true) : oIbin .gtr (.int ik a) (.int ik b) h c = c (.bool (ltI b a)) h := by
 simp only [oIbin, oIbin2, sameK_same hk, mkB_eq]
theorem ibin_geq {ik : IntKind} {a b : Int} (hk : sameK ik ik true = true) : oIbin .geq (.int ik a) (.int ik b) h c = c (.bool (!ltI a b)) h := by
 simp only [oIbin, oIbin2, sameK_same hk, mkB_eq]
theorem ibin_shr {ik ik' : IntKind} {a b : Nat} : oIbin .shr (.int ik (.ofNat a)) (.int ik' (.ofNat b)) h c = c (.int ik (.ofNat (Nat.div a (Nat.pow 2 (min b ik.bits))))) h := by
 simp only [oIbin, oIbin2, oShr, force_eq]
theorem same_i64 : sameK .i64 .i64 true = true := rfl
theorem same_u64 : sameK .u64 .u64 true = true := rfl
theorem same_u8 : sameK .u8 .u8 true = true := rfl
theorem ib_add_i64 {a b : Int} : oIbin .add (.int .i64 a) (.int .i64 b) h c = c (.int .i64 (wrapI .i64 (Int.add a b))) h := ibin_add same_i64
theorem ib_add_u64 {a b : Int} : oIbin .add (.int .u64 a) (.int .u64 b) h c = c (.int .u64 (wrapI .u64 (Int.add a b))) h := ibin_add same_u64
theorem ib_add_u8 {a b : Int} : oIbin .add (.int .u8 a) (.int .u8 b) h c = c (.int .u8 (wrapI .u8 (Int.add a b))) h := ibin_add same_u8
theorem ib_sub_i64 {a b : Int} : oIbin .sub (.int .i64 a) (.int .i64 b) h c = c (.int .i64 (wrapI .i64 (Int.sub a b))) h := ibin_sub same_i64
theorem ib_sub_u64 {a b : Int} : oIbin .sub (.int .u64 a) (.int .u64 b) h c = c (.int .u64 (wrapI .u64 (Int.sub a b))) h := ibin_sub same_u64
theorem ib_sub_u8 {a b : Int} : oIbin .sub (.int .u8 a) (.int .u8 b) h c = c (.int .u8 (wrapI .u8 (Int.sub a b))) h := ibin_sub same_u8
theorem ib_mul_i64 {a b : Int} : oIbin .mul (.int .i64 a) (.int .i64 b) h c = c (.int .i64 (wrapI .i64 (Int.mul a b))) h := ibin_mul same_i64
theorem ib_mul_u64 {a b : Int} : oIbin .mul (.int .u64 a) (.int .u64 b) h c = c (.int .u64 (wrapI .u64 (Int.mul a b))) h := ibin_mul same_u64
theorem ib_mul_u8 {a b : Int} : oIbin .mul (.int .u8 a) (.int .u8 b) h c = c (.int .u8 (wrapI .u8 (Int.mul a b))) h := ibin_mul same_u8
theorem ib_eql_i64 {a b : Int} : oIbin .eql (.int .i64 a) (.int .i64 b) h c = c (.bool (beqI a b)) h := ibin_eql same_i64
theorem ib_eql_u64 {a b : Int} : oIbin .eql (.int .u64 a) (.int .u64 b) h c = c (.bool (beqI a b)) h := ibin_eql same_u64
theorem ib_eql_u8 {a b : Int} : oIbin .eql (.int .u8 a) (.int .u8 b) h c = c (.bool (beqI a b)) h := ibin_eql same_u8
theorem ib_neq_i64 {a b : Int} : oIbin .neq (.int .i64 a) (.int .i64 b) h c = c (.bool (!beqI a b)) h := ibin_neq same_i64
theorem ib_neq_u64 {a b : Int} : oIbin .neq (.int .u64 a) (.int .u64 b) h c = c (.bool (!beqI a b)) h := ibin_neq same_u64
theorem ib_neq_u8 {a b : Int} : oIbin .neq (.int .u8 a) (.int .u8 b) h c = c (.bool (!beqI a b)) h := ibin_neq same_u8
theorem ib_lss_i64 {a b : Int} : oIbin .lss (.int .i64 a) (.int .i64 b) h c = c (.bool (ltI a b)) h := ibin_lss same_i64
theorem ib_lss_u64 {a b : Int} : oIbin .lss (.int .u64 a) (.int .u64 b) h c = c (.bool (ltI a b)) h := ibin_lss same_u64
theorem ib_lss_u8 {a b : Int} : oIbin .lss (.int .u8 a) (.int .u8 b) h c = c (.bool (ltI a b)) h := ibin_lss same_u8
theorem ib_leq_i64 {a b : Int} : oIbin .leq (.int .i64 a) (.int .i64 b) h c = c (.bool (!ltI b a)) h := ibin_leq same_i64
theorem ib_leq_u64 {a b : Int} : oIbin .leq (.int .u64 a) (.int .u64 b) h c = c (.bool (!ltI b a)) h := ibin_leq same_u64
theorem ib_leq_u8 {a b : Int} : oIbin .leq (.int .u8 a) (.int .u8 b) h c = c (.bool (!ltI b a)) h := ibin_leq same_u8
theorem ib_gtr_i64 {a b : Int} : oIbin .gtr (.int .i64 a) (.int .i64 b) h c = c (.bool (ltI b a)) h := ibin_gtr same_i64
theorem ib_gtr_u64 {a b : Int} : oIbin .gtr (.int .u64 a) (.int .u64 b) h c = c (.bool (ltI b a)) h := ibin_gtr same_u64
theorem ib_gtr_u8 {a b : Int} : oIbin .gtr (.int .u8 a) (.int .u8 b) h c = c (.bool (ltI b a)) h := ibin_gtr same_u8
theorem ib_geq_i64 {a b : Int} : oIbin .geq (.int .i64 a) (.int .i64 b) h c = c (.bool (!ltI a b)) h := ibin_geq same_i64
theorem ib_geq_u64 {a b : Int} : oIbin .geq (.int .u64 a) (.int .u64 b) h c = c (.bool (!ltI a b)) h := ibin_geq same_u64
theorem ib_geq_u8 {a b : Int} : oIbin .geq (.int .u8 a) (.int .u8 b) h c = c (.bool (!ltI a b)) h := ibin_geq same_u8
theorem add_ofNat {a b : Nat} : Int.add (.ofNat a) (.ofNat b) = .ofNat (a + b) := rfl
theorem sub_ofNat {a b : Nat} (hb : b ≤ a) : Int.sub (.ofNat a) (.ofNat b) = .ofNat (a - b) := by
 show ((a : Int) - (b : Int)) = _
 simp only [Int.ofNat_eq_natCast]
 omega
theorem mul_ofNat {a b : Nat} : Int.mul (.ofNat a) (.ofNat b) = .ofNat (a * b) := rfl
theorem tdiv_ofNat {a b : Nat} : Int.tdiv (.ofNat a) (.ofNat b) = .ofNat (a / b) := rfl
theorem tmod_ofNat {a b : Nat} : Int.tmod (.ofNat a) (.ofNat b) = .ofNat (a % b) := rfl
theorem ltI_ofNat {a b : Nat} : ltI (.ofNat a) (.ofNat b) = decide (a < b) := by
 rw [ltI_eq, Bool.eq_iff_iff, decide_eq_true_iff, decide_eq_true_iff]
 exact Int.ofNat_lt
theorem conv_int {ik ik' : IntKind} {n : Int} : oConv ik (.int ik' n) h c = c (.int ik (wrapI ik n)) h := mkI_eq
theorem not_bool {b : Bool} : oNot (.bool b) h c = c (.bool (!b)) h := mkB_eq
theorem nilchk_ptr {b : K} {o : Nat} : oNilchk (.ptr b o) h c = c (.ptr b o) h := rfl
theorem ext_tup0 {x : V} {l : List V} : oExt (.tup (x :: l)) 0 h c = c x h := rfl
theorem ext_tup1 {x y : V} {l : List V} : oExt (.tup (x :: y :: l)) 1 h c = c y h := rfl
theorem ext_tup2 {x y z : V} {l : List V} : oExt (.tup (x :: y :: z :: l)) 2 h c = c z h := rfl
theorem cellsOf_of {b : K} {l : List V} {f : List V → Bool} (hb : blk h b = .cells l) : cellsOf h b f = f l := by unfold cellsOf; rw [hb]
theorem load1_of {b : K} {o : Nat} {l : List V} {v : V} (hb : blk h b = .cells l) (hv : l[o]? = some v) : oLoad1 (.ptr b o) h c = c v h := by
 simp only [oLoad1, cellsOf_of hb]
 clear hb
 induction l generalizing o with
 | nil => simp at hv
 | cons x l ih =>
  cases o with
  | zero => simp at hv; subst hv; rfl
  | succ o => exact ih (by simpa using hv)
theorem cellsV_int {ik : IntKind} {n : Int} {f : List V → Bool} : cellsV (.int ik n) f = f [.int ik n] := rfl
theorem splice_set {x : V} : ∀ {l : List V} {o : Nat} {f : List V → Bool}, o < l.length → splice o l [x] f = f (l.set o x) := by
 intro l
 induction l with
 | nil => intro o f h; simp at h
 | cons y l ih =>
  intro o f h
  cases o with
  | zero => simp [splice, over]
  | succ o => simp only [splice, List.set_cons_succ]; exact ih (by simpa using h)
theorem store1_of {b : K} {o : Nat} {l : List V} {v : V} {f : Hp → Bool} (hb : blk h b = .cells l) (ho : o < l.length) (hv : cellsV v = fun f => f [v]) : oStore (.ptr b o) v 1 h f = f (h.upd b (.cells (l.set o v))) := by
 simp only [oStore, hv, lenIs, cellsOf_of hb, splice_set ho, putBlk_eq]
theorem upd_same {b : K} {x : Blk} : blk (h.upd b x) b = x := by rw [blk_upd, if_pos rfl]
theorem upd_other {b b' : K} {x : Blk} (hne : b' ≠ b) : blk (h.upd b x) b' = blk h b' := by rw [blk_upd, if_neg hne]
theorem call_fn {n f : Nat} {body : ACode} {res : List RV} {args : List V} {cm : Option Md} {kc : KC} (hf : T.get .no (K.of f) E.fn = .fn (some ⟨body, res⟩)) :
  call E L (n + 1) (.fn f) args cm h kc = putArgs args (K.of 0) .l (bodyK (call E L n) L (.mk f none) body cm h (fnEnd (call E L n) L res kc)) := by
 show callFn (call E L n) L E f args cm h kc = _
 unfold callFn
 rw [hf]
 rfl
theorem call_prim {n f : Nat} {g : PrimF} {args : List V} {kc : KC} (hf : T.get .no (K.of f) E.fn = .prim g) :
  call E L (n + 1) (.fn f) args none h kc = g args h fun v h' => kc (.ret v) none h' := by
 show callFn (call E L n) L E f args none h kc = _
 unfold callFn
 rw [hf]
theorem putArgs_nil {i : K} {f : T V → Bool} : putArgs [] i t f = f t := rfl
theorem putArgs_cons {v : V} {l : List V} {i : Nat} {f : T V → Bool} : putArgs (v :: l) (K.of i) t f = putArgs l (K.of (i + 1)) (T.ins und v (K.of i) t) f := by
 simp only [putArgs, T.set_eq, K.of_succ]
theorem fnEnd_ret {res : List RV} {kc : KC} {cm : Option Md} : fnEnd C (L + 1) res kc .ret t (.mk [] cm) h = results [] t h res fun vs => kc (.ret (one vs)) cm h := rfl
theorem fnEnd_normal {res : List RV} {kc : KC} {cm : Option Md} : fnEnd C (L + 1) res kc .normal t (.mk [] cm) h = results [] t h res fun vs => kc (.ret (one vs)) cm h := rfl
theorem res_nil {f : List V → Bool} : results [] t h [] f = f [] := rfl
theorem res_t {p : K} {l : List RV} {f : List V → Bool} : results [] t h (.t p :: l) f = results [] t h l fun vs => f (T.get und p t :: vs) := rfl
theorem res_cell1 {p : K} {l : List RV} {f : List V → Bool} : results [] t h (.cell1 p :: l) f = oLoad1 (T.get und p t) h fun v _ => results [] t h l fun vs => f (v :: vs) := rfl
theorem res_cellN {p : K} {n : Nat} {l : List RV} {f : List V → Bool} : results [] t h (.cellN p n :: l) f = oLoadN (T.get und p t) n h fun v _ => results [] t h l fun vs => f (v :: vs) := rfl
theorem one_nil : one [] = .tup [] := rfl
theorem one_one {v : V} : one [v] = v := rfl
theorem one_two {v w : V} {l : List V} : one (v :: w :: l) = .tup (v :: w :: l) := rfl
end
end Go.AJ
/- More equations of the run: memory, arrays. -/
namespace Go.AJ
open Go
structure Keeps (h h' : Hp) : Prop where
 nx : (nxt h).num ≤ (nxt h').num
 old : ∀ b, b.num < (nxt h).num → blk h' b = blk h b
theorem Keeps.refl (h : Hp) : Keeps h h := ⟨Nat.le_refl _, fun _ _ => rfl⟩
theorem Keeps.trans {h h1 h2 : Hp} (a : Keeps h h1) (b : Keeps h1 h2) : Keeps h h2 := ⟨Nat.le_trans a.nx b.nx, fun k hk => (b.old k (Nat.lt_of_lt_of_le hk a.nx)).trans (a.old k hk)⟩
theorem Keeps.new {h h' : Hp} (a : Keeps h h') (x : Blk) : Keeps h (h'.upd (nxt h') x).bump := by
 refine ⟨?_, fun b hb => ?_⟩
 ·rw [nxt_bump, nxt_upd, K.num_succ]; have := a.nx; omega
 ·rw [blk_bump, blk_upd, if_neg (fun e => by subst e; have := a.nx; omega)]; exact a.old b hb
theorem Keeps.put {h h' : Hp} (a : Keeps h h') {b : K} (hb : (nxt h).num ≤ b.num) (x : Blk) : Keeps h (h'.upd b x) := by
 refine ⟨by rw [nxt_upd]; exact a.nx, fun c hc => ?_⟩
 rw [blk_upd, if_neg (fun e => by subst e; omega)]; exact a.old c hc
theorem K.self_ne_succ (k : K) : (k = k.succ) = False := eq_false fun e => by have := congrArg K.num e; rw [K.num_succ] at this; omega
theorem K.succ_ne_self (k : K) : (k.succ = k) = False := eq_false fun e => by have := congrArg K.num e; rw [K.num_succ] at this; omega
theorem K.self_ne_succ2 (k : K) : (k = k.succ.succ) = False := eq_false fun e => by have := congrArg K.num e; rw [K.num_succ, K.num_succ] at this; omega
theorem K.succ2_ne_self (k : K) : (k.succ.succ = k) = False := eq_false fun e => by have := congrArg K.num e; rw [K.num_succ, K.num_succ] at this; omega
theorem K.succ_eq_succ (a b : K) : (a.succ = b.succ) = (a = b) := propext ⟨fun e => K.num_inj (by have := congrArg K.num e; rw [K.num_succ, K.num_succ] at this; omega), fun e => by rw [e]⟩
theorem bump_upd {h : Hp} {b : K} {x : Blk} : h.bump.upd b x = (h.upd b x).bump := by
 cases h; rfl
theorem T.ins_ins {α : Type} {d x y : α} (k : K) : ∀ t : T α, T.ins d x k (T.ins d y k t) = T.ins d x k t := by
 induction k with
 | h => intro t; cases t <;> rfl
 | o k ih => intro t; cases t <;> simp only [T.ins, ih]
 | i k ih => intro t; cases t <;> simp only [T.ins, ih]
theorem upd_upd {h : Hp} {b : K} {x y : Blk} : (h.upd b x).upd b y = h.upd b y := by
 cases h; simp only [Hp.upd, T.ins_ins]
section
variable {C : CallF} {L : Nat} {fi : FI} {t : T V} {d : Dc} {h : Hp} {k : KE} {E : Env} {c : KV} {ks : KS} {kp : KP}
def ldB (x : Blk) (o : Nat) (h : Hp) (c : KV) : Bool := match x with
 | .cells l => nth l o fun v => c v h
 | _ => false
def ldN (x : Blk) (o n : Nat) (h : Hp) (c : KV) : Bool := match x with
 | .cells l => takeN n (dropN o l) fun r => c (.agg r) h
 | _ => false
theorem ld_ptr {b : K} {o : Nat} : oLoad1 (.ptr b o) h c = ldB (blk h b) o h c := by
 simp only [oLoad1, cellsOf, ldB]
 cases blk h b <;> rfl
theorem ldN_ptr {b : K} {o n : Nat} : oLoadN (.ptr b o) (n + 1) h c = ldN (blk h b) o (n + 1) h c := by
 simp only [oLoadN, cellsOf, ldN]
 cases blk h b <;> rfl
theorem ldB_0 {x : V} {l : List V} : ldB (.cells (x :: l)) 0 h c = c x h := rfl
theorem ldB_1 {x y : V} {l : List V} : ldB (.cells (x :: y :: l)) 1 h c = c y h := rfl
theorem ldB_2 {x y z : V} {l : List V} : ldB (.cells (x :: y :: z :: l)) 2 h c = c z h := rfl
theorem ldN_2 {x y : V} {l : List V} : ldN (.cells (x :: y :: l)) 0 2 h c = c (.agg [x, y]) h := rfl
noncomputable def stB (x : Blk) (b : K) (o : Nat) (q : List V) (h : Hp) (f : Hp → Bool) : Bool := match x with
 | .cells l => splice o l q fun l' => f (h.upd b (.cells l'))
 | _ => false
theorem st_int {b : K} {o : Nat} {ik : IntKind} {n : Int} {f : Hp → Bool} : oStore (.ptr b o) (.int ik n) 1 h f = stB (blk h b) b o [.int ik n] h f := by
 simp only [oStore, cellsV, lenIs, cellsOf, stB, putBlk_eq]
 cases blk h b <;> rfl
theorem st_agg2 {b : K} {o : Nat} {x y : V} {f : Hp → Bool} : oStore (.ptr b o) (.agg [x, y]) 2 h f = stB (blk h b) b o [x, y] h f := by
 simp only [oStore, cellsV, lenIs, cellsOf, stB, putBlk_eq]
 cases blk h b <;> rfl
theorem stB_0 {b : K} {x y : V} {l : List V} {f : Hp → Bool} : stB (.cells (x :: l)) b 0 [y] h f = f (h.upd b (.cells (y :: l))) := by
 simp only [stB, splice, over]
theorem stB_2 {b : K} {x y u v : V} {l : List V} {f : Hp → Bool} : stB (.cells (x :: y :: l)) b 0 [u, v] h f = f (h.upd b (.cells (u :: v :: l))) := by
 simp only [stB, splice, over]
theorem box_int {ik : IntKind} {n : Int} : oBox (.int ik n) h c = c (.ptr (nxt h) 0) (h.upd (nxt h) (.cells [.int ik n])).bump := by simp only [oBox, cellsV, newBlk_eq]
theorem box_agg {l : List V} : oBox (.agg l) h c = c (.ptr (nxt h) 0) (h.upd (nxt h) (.cells l)).bump := by simp only [oBox, cellsV, newBlk_eq]
theorem idxA_nat {b : K} {o i sz n : Nat} {ik : IntKind} : oIdxA (.ptr b o) (.int ik (.ofNat i)) sz n h c = if i < n then c (.ptr b (o + i * sz)) h else false := by
 simp only [oIdxA, idxGo, force_eq]
 split
 ·rename_i e; rw [if_pos (Nat.blt_eq ▸ e)]
 ·rename_i e; rw [if_neg (fun e' => by rw [show Nat.blt i n = true from Nat.blt_eq ▸ e'] at e; cases e)]
theorem idx_nat {b : K} {o i sz n cp p : Nat} {ik : IntKind} : oIdx (.sl b o n cp p) (.int ik (.ofNat i)) sz h c = if i < n then c (.ptr b (o + i * sz)) h else false := by
 simp only [oIdx, idxGo, force_eq]
 split
 ·rename_i e; rw [if_pos (Nat.blt_eq ▸ e)]
 ·rename_i e; rw [if_neg (fun e' => by rw [show Nat.blt i n = true from Nat.blt_eq ▸ e'] at e; cases e)]
def mk2 (x y a b : V) (h : Hp) (c : KV) : Bool := cellsV x fun q => lenIs q 1 (splice 0 [a, b] q fun z => cellsV y fun q' => lenIs q' 1 (splice 1 z q' fun z' => c (.agg z') h))
theorem mk_2 {a b : V} {x y : X} : oMk t [a, b] [(0, 1, x), (1, 1, y)] h c = mk2 (ev t x) (ev t y) a b h c := rfl
theorem mk2_int {k1 k2 : IntKind} {n1 n2 : Int} {a b : V} : mk2 (.int k1 n1) (.int k2 n2) a b h c = c (.agg [.int k1 n1, .int k2 n2]) h := by
 simp only [mk2, cellsV, lenIs, splice, over]
theorem eq_u64_2 {a b a' b' : Int} : oEq false (.cells [.int, .int]) (.agg [.int .u64 a, .int .u64 b]) (.agg [.int .u64 a', .int .u64 b']) h c = c (.bool (beqI a a' && beqI b b')) h := by
 simp only [oEq, eqK, eqCells, eqCell, sameK]
 cases beqI a a' <;> cases beqI b b' <;> rfl
theorem ib_and_i64 {a b : Nat} (ha : a ≤ 9223372036854775807) (hb : b ≤ 9223372036854775807) : oIbin .and (.int .i64 (.ofNat a)) (.int .i64 (.ofNat b)) h c = c (.int .i64 (.ofNat (Nat.land a b))) h := by
 have hl : Nat.land a b ≤ 9223372036854775807 := Nat.le_trans Nat.and_le_left ha
 simp only [oIbin, oIbin2, sameK, ibits, Nat.ble_eq_true_of_le ha, Nat.ble_eq_true_of_le hb, mkI_eq, wrap_i64 hl]
end
end Go.AJ
/- More equations of the run: slices of whole numbers. -/
namespace Go.AJ
open Go
def ints (l : List Nat) : List V := l.map fun n => .int .i64 (.ofNat n)
theorem ints_length (l : List Nat) : (ints l).length = l.length := by simp [ints]
theorem nth_of {α : Type} {c : α → Bool} : ∀ {l : List α} {i : Nat} {x : α}, l[i]? = some x → nth l i c = c x := by
 intro l
 induction l with
 | nil => intro i x h; simp at h
 | cons y l ih =>
  intro i x h
  cases i with
  | zero => simp at h; subst h; rfl
  | succ i => exact ih (by simpa using h)
def swp (l : List Nat) (i k : Nat) : List Nat := (l.set i (l.getD k 0)).set k (l.getD i 0)
theorem swp_length (l : List Nat) (i k : Nat) : (swp l i k).length = l.length := by simp [swp]
section
variable {C : CallF} {L : Nat} {fi : FI} {t : T V} {d : Dc} {h : Hp} {k : KE} {E : Env} {c : KV} {ks : KS} {kp : KP}
theorem ldB_ints {l : List Nat} {i : Nat} (hi : i < l.length) : ldB (.cells (ints l)) i h c = c (.int .i64 (.ofNat (l.getD i 0))) h := by
 simp only [ldB]
 rw [nth_of (x := .int .i64 (.ofNat (l.getD i 0)))]
 simp [ints, List.getD_eq_getElem?_getD, List.getElem?_eq_getElem hi]
theorem stB_ints {l : List Nat} {i v : Nat} {b : K} {f : Hp → Bool} (hi : i < l.length) : stB (.cells (ints l)) b i [.int .i64 (.ofNat v)] h f = f (h.upd b (.cells (ints (l.set i v)))) := by
 simp only [stB]
 rw [splice_set (by rw [ints_length]; exact hi)]
 simp [ints]
theorem rep_ints (n : Nat) : rep n [.int .i64 (.ofNat 0)] = ints (List.replicate n 0) := by
 induction n with
 | zero => rfl
 | succ n ih => simp only [rep, ih, ints, List.replicate_succ, List.map_cons]; rfl
theorem mks_nat {n by_ : Nat} {z : List V} (hb : n * (by_ + 1) ≤ 1000000000) : oMkslice (.int .i64 (.ofNat n)) (.int .i64 (.ofNat n)) z by_ h c = c (.sl (nxt h) 0 n n 0) (h.upd (nxt h) (.cells (rep n z))).bump := by
 simp only [oMkslice, Nat.ble_eq_true_of_le (Nat.le_refl n), Nat.ble_eq_true_of_le hb, newBlk_eq]
noncomputable def bearB (x : Blk) (l : List V) : Bool := match x with
 | .cells l' => allEq (veq 40) l' l
 | _ => false
theorem bears_def {b : K} {l : List V} : bears h b l = bearB (blk h b) l := by
 simp only [bears, bearB]
 cases blk h b <;> rfl
theorem allEq_ints (l : List Nat) : allEq (veq 40) (ints l) (ints l) = true := by
 induction l with
 | nil => rfl
 | cons x l ih =>
  simp only [ints, List.map_cons, allEq]
  have : veq 40 (.int .i64 (.ofNat x)) (.int .i64 (.ofNat x)) = true := by rw [veq_int, kEq_refl, beqI_self]; rfl
  rw [this]
  exact ih
theorem bear_ints {l : List Nat} : bearB (.cells (ints l)) (ints l) = true := allEq_ints l
theorem bear_int {ik : IntKind} {n : Int} : bearB (.cells [.int ik n]) [.int ik n] = true := by
 simp only [bearB, allEq, veq_int, kEq_refl, beqI_self, Bool.and_self]
theorem chk_alloc {z : List V} {b : K} : chkVal (.alloc z) t h (.ptr b 0) = bears h b z := rfl
theorem chk_mks {n by_ : Nat} {p q : K} {z : List V} {b : K} (hp : T.get und p t = .int .i64 (.ofNat n)) (hq : T.get und q t = .int .i64 (.ofNat n)) (hb : n * (by_ + 1) ≤ 1000000000) :
  chkVal (.mkslice (.t p) (.t q) z by_) t h (.sl b 0 n n 0) = bears h b (rep n z) := by
 simp only [chkVal, ev_t, hp, hq, beqI_self, Nat.ble_eq_true_of_le (Nat.le_refl n), Nat.ble_eq_true_of_le hb]
noncomputable def mksC (l c : V) (z : List V) (by_ : Nat) (h : Hp) (v : V) : Bool := match v with
 | .sl b o n cp p => (match o with
   | 0 => (match p with
    | 0 => (match l with
     | .int _ l => (match c with
      | .int _ c => (match beqI l (.ofNat n) with
       | true => (match beqI c (.ofNat cp) with
        | true => (match Nat.ble n cp with
         | true => (match Nat.ble (cp * (by_ + 1)) 1000000000 with
          | true => bears h b (rep cp z)
          | false => false)
         | false => false)
        | false => false)
       | false => false)
      | _ => false)
     | _ => false)
    | _ + 1 => false)
   | _ + 1 => false)
  | _ => false
theorem chk_mkslice {x y : X} {z : List V} {by_ : Nat} {v : V} : chkVal (.mkslice x y z by_) t h v = mksC (ev t x) (ev t y) z by_ h v := rfl
theorem mksC_nat {n by_ : Nat} {z : List V} {b : K} (hb : n * (by_ + 1) ≤ 1000000000) : mksC (.int .i64 (.ofNat n)) (.int .i64 (.ofNat n)) z by_ h (.sl b 0 n n 0) = bears h b (rep n z) := by
 simp only [mksC, beqI_self, Nat.ble_eq_true_of_le (Nat.le_refl n), Nat.ble_eq_true_of_le hb]
theorem len_sl {b : K} {o n cp p : Nat} : oLen .sl (.sl b o n cp p) h c = c (.int .i64 (.ofNat n)) h := rfl
theorem len_nils : oLen .sl .nils h c = c (.int .i64 (.ofNat 0)) h := rfl
end
end Go.AJ
/- More equations of the run: data that came in, ranges over functions, bytes. -/
namespace Go.AJ
open Go
def slR (b : Bool) (c : Nat) (q : List V) (n : Nat) : V := if b = true ∧ n = 0 then .nils else .rsl q 0 n c
theorem nth_get {α : Type} {l : List α} {i : Nat} {x : α} {c : α → Bool} (h : l[i]? = some x) : nth l i c = c x := nth_of h
theorem dropN_w {α : Type} : ∀ (n : Nat) (l : List α), dropN n l = l.drop n
 | 0, l => rfl
 | n + 1, [] => rfl
 | n + 1, x :: l => by simp only [dropN, List.drop_succ_cons]; exact dropN_w n l
theorem takeN_w : ∀ (n : Nat) (l : List V) (c : List V → Bool), n ≤ l.length → takeN n l c = c (l.take n)
 | 0, l, c, _ => rfl
 | n + 1, [], c, h => absurd h (by simp)
 | n + 1, x :: l, c, h => by
  simp only [takeN, List.take_succ_cons]
  exact takeN_w n l _ (by simpa using h)
theorem over_w : ∀ (l q : List V) (c : List V → Bool), q.length ≤ l.length → over l q c = c (q ++ l.drop q.length)
 | l, [], c, _ => by simp [over]
 | [], x :: q, c, h => absurd h (by simp)
 | y :: l, x :: q, c, h => by
  simp only [over, List.length_cons, List.drop_succ_cons, List.cons_append]
  exact over_w l q _ (by simpa using h)
theorem splice_w : ∀ (o : Nat) (l q : List V) (c : List V → Bool), o + q.length ≤ l.length → splice o l q c = c (l.take o ++ (q ++ l.drop (o + q.length)))
 | 0, l, q, c, h => by simp only [splice, List.take_zero, List.nil_append, Nat.zero_add]; exact over_w l q c (by omega)
 | o + 1, [], q, c, h => absurd h (by simp)
 | o + 1, x :: l, q, c, h => by
  simp only [splice, List.take_succ_cons, List.cons_append]
  rw [splice_w o l q _ (by simp only [List.length_cons] at h; omega)]
  rw [show o + 1 + q.length = (o + q.length) + 1 by omega, List.drop_succ_cons]
theorem lenIs_w {α : Type} : ∀ (l : List α) (n : Nat) (c : Bool), l.length = n → lenIs l n c = c
 | [], 0, c, _ => rfl
 | x :: l, n + 1, c, h => by simp only [lenIs]; exact lenIs_w l n c (by simpa using h)
 | [], n + 1, c, h => by cases h
 | x :: l, 0, c, h => by cases h
section
variable {C : CallF} {L : Nat} {fi : FI} {t : T V} {d : Dc} {h : Hp} {k : KE} {E : Env} {c : KV} {ks : KS} {kp : KP}
theorem len_slR {b : Bool} {cp n : Nat} {q : List V} : oLen .sl (slR b cp q n) h c = c (.int .i64 (.ofNat n)) h := by
 unfold slR
 split
 ·rename_i e; rw [e.2]; rfl
 ·rfl
theorem idx_rsl {o cp n i sz : Nat} {q : List V} {ik : IntKind} : oIdx (.rsl q o n cp) (.int ik (.ofNat i)) sz h c = if i < n then c (.rp q (o + i * sz)) h else false := by
 simp only [oIdx, idxGoR, force_eq]
 split
 ·rename_i e; rw [if_pos (Nat.blt_eq ▸ e)]
 ·rename_i e; rw [if_neg (fun e' => by rw [show Nat.blt i n = true from Nat.blt_eq ▸ e'] at e; cases e)]
theorem idx_slR {b : Bool} {cp n i sz : Nat} {q : List V} {ik : IntKind} (hi : i < n) : oIdx (slR b cp q n) (.int ik (.ofNat i)) sz h c = c (.rp q (i * sz)) h := by
 unfold slR
 rw [if_neg (fun e => by omega), idx_rsl, if_pos hi, Nat.zero_add]
theorem addOff_ptr {b : K} {o n : Nat} : oAddOff (.ptr b o) n h c = c (.ptr b (o + n)) h := by simp only [oAddOff, force_eq]
theorem addOff_rp {q : List V} {o n : Nat} : oAddOff (.rp q o) n h c = c (.rp q (o + n)) h := by simp only [oAddOff, force_eq]
theorem load1_rp {q : List V} {o : Nat} {v : V} (hv : q[o]? = some v) : oLoad1 (.rp q o) h c = c v h := nth_of hv
theorem loadN_rp {q r : List V} {o n : Nat} (hr : (q.drop o).take n = r) (hn : r.length = n) : oLoadN (.rp q o) n h c = c (.agg r) h := by
 simp only [oLoadN]
 rw [dropN_w, takeN_w, hr]
 have : r.length ≤ (q.drop o).length := by rw [← hr]; exact List.length_take_le' _ _
 omega
theorem nilchk_rp {q : List V} {o : Nat} : oNilchk (.rp q o) h c = c (.rp q o) h := rfl
theorem ldB_hd {x : V} {l : List V} : ldB (.cells (x :: l)) 0 h c = c x h := rfl
theorem ldB_3 {x y z u : V} {l : List V} : ldB (.cells (x :: y :: z :: u :: l)) 3 h c = c u h := rfl
theorem ldB_4 {x y z u v : V} {l : List V} : ldB (.cells (x :: y :: z :: u :: v :: l)) 4 h c = c v h := rfl
theorem ldB_5 {x y z u v w : V} {l : List V} : ldB (.cells (x :: y :: z :: u :: v :: w :: l)) 5 h c = c w h := rfl
theorem ldB_6 {x y z u v w a : V} {l : List V} : ldB (.cells (x :: y :: z :: u :: v :: w :: a :: l)) 6 h c = c a h := rfl
theorem ldB_get {l : List V} {i : Nat} {x : V} (hx : l[i]? = some x) : ldB (.cells l) i h c = c x h := nth_of hx
theorem ldN_of {l r : List V} {o n : Nat} (hr : (l.drop o).take n = r) (hn : r.length = n) : ldN (.cells l) o n h c = c (.agg r) h := by
 simp only [ldN]
 rw [dropN_w, takeN_w, hr]
 have : r.length ≤ (l.drop o).length := by rw [← hr]; exact List.length_take_le' _ _
 omega
theorem ldN_all {l : List V} {n : Nat} (hn : l.length = n) : ldN (.cells l) 0 n h c = c (.agg l) h := ldN_of (by rw [List.drop_zero, ← hn, List.take_length]) hn
theorem ldN_22 {x y z u v w a : V} : ldN (.cells [x, y, z, u, v, w, a]) 2 2 h c = c (.agg [z, u]) h := rfl
theorem st_any {b : K} {o n : Nat} {v : V} {q : List V} {f : Hp → Bool} (hv : ∀ g : List V → Bool, cellsV v g = g q) (hn : q.length = n + 1) : oStore (.ptr b o) v (n + 1) h f = stB (blk h b) b o q h f := by
 simp only [oStore, hv, lenIs_w _ _ _ hn, cellsOf, stB, putBlk_eq]
 cases blk h b <;> rfl
theorem st_agg {b : K} {o n : Nat} {q : List V} {f : Hp → Bool} (hn : q.length = n + 1) : oStore (.ptr b o) (.agg q) (n + 1) h f = stB (blk h b) b o q h f := st_any (fun _ => rfl) hn
theorem st_bool {b : K} {o : Nat} {x : Bool} {f : Hp → Bool} : oStore (.ptr b o) (.bool x) 1 h f = stB (blk h b) b o [.bool x] h f := st_any (fun _ => rfl) rfl
theorem st_fn {b : K} {o g : Nat} {x y : List V} {f : Hp → Bool} : oStore (.ptr b o) (.fn g x y) 1 h f = stB (blk h b) b o [.fn g x y] h f := st_any (fun _ => rfl) rfl
theorem st_sl {b b' : K} {o o' l cp p : Nat} {f : Hp → Bool} : oStore (.ptr b o) (.sl b' o' l cp p) 1 h f = stB (blk h b) b o [.sl b' o' l cp p] h f := st_any (fun _ => rfl) rfl
theorem st_nils {b : K} {o : Nat} {f : Hp → Bool} : oStore (.ptr b o) .nils 1 h f = stB (blk h b) b o [.nils] h f := st_any (fun _ => rfl) rfl
theorem stB_all {b : K} {l q : List V} {f : Hp → Bool} (hn : q.length = l.length) : stB (.cells l) b 0 q h f = f (h.upd b (.cells q)) := by
 simp only [stB]
 rw [splice_w _ _ _ _ (by omega), Nat.zero_add, hn, List.drop_length, List.take_zero, List.append_nil, List.nil_append]
theorem stB_set {b : K} {l : List V} {o : Nat} {v : V} {f : Hp → Bool} (ho : o < l.length) : stB (.cells l) b o [v] h f = f (h.upd b (.cells (l.set o v))) := by
 simp only [stB]; rw [splice_set ho]
theorem stB_31 {bb : K} {x y z v : V} {f : Hp → Bool} : stB (.cells [x, y, z]) bb 1 [v] h f = f (h.upd bb (.cells [x, v, z])) := rfl
theorem stB_32 {bb : K} {x y z v : V} {f : Hp → Bool} : stB (.cells [x, y, z]) bb 2 [v] h f = f (h.upd bb (.cells [x, y, v])) := rfl
theorem box_str {s : List Nat} : oBox (.str s) h c = c (.ptr (nxt h) 0) (h.upd (nxt h) (.cells [.str s])).bump := by simp only [oBox, cellsV, newBlk_eq]
theorem box_bool {x : Bool} : oBox (.bool x) h c = c (.ptr (nxt h) 0) (h.upd (nxt h) (.cells [.bool x])).bump := by simp only [oBox, cellsV, newBlk_eq]
theorem box_yld {l : K} : oBox (.yld l) h c = c (.ptr (nxt h) 0) (h.upd (nxt h) (.cells [.yld l])).bump := by simp only [oBox, cellsV, newBlk_eq]
theorem mkSl_eq {z : List V} {ps : List (Nat × Nat × X)} {n : Nat} {z' : List V} (hz : ∀ f, fill t ps z f = f z') : oMkSl t z ps n h c = c (.sl (nxt h) 0 n n 0) (h.upd (nxt h) (.cells z')).bump := by
 simp only [oMkSl, hz, newBlk_eq]
theorem idx_sl {b : K} {o i sz n cp p : Nat} {ik : IntKind} (hi : i < n) : oIdx (.sl b o n cp p) (.int ik (.ofNat i)) sz h c = c (.ptr b (o + i * sz)) h := by rw [idx_nat, if_pos hi]
theorem pick_if {b : Bool} {x y : V} : oPick (.bool b) x y h c = c (if b = true then x else y) h := pick_bool
theorem eqv_bool {neg a b : Bool} : oEq neg .bool (.bool a) (.bool b) h c = c (.bool (neg != (a == b))) h := by
 cases neg <;> cases a <;> cases b <;> rfl
theorem len_str {s : List Nat} : oLen .str (.str s) h c = c (.int .i64 (.ofNat s.length)) h := by simp only [oLen, force_eq, lenN_eq]
theorem idxS_nat {s : List Nat} {i x : Nat} {ik : IntKind} (hi : s[i]? = some x) : oIdxS (.str s) (.int ik (.ofNat i)) h c = c (.int .u8 (.ofNat x)) h := nth_of hi
theorem sb_eql {a b : List Nat} : oSbin .eql (.str a) (.str b) h c = c (.bool (beqL a b)) h := mkB_eq
theorem sb_neq {a b : List Nat} : oSbin .neq (.str a) (.str b) h c = c (.bool (!beqL a b)) h := mkB_eq
theorem sb_lss {a b : List Nat} : oSbin .lss (.str a) (.str b) h c = c (.bool (ltL a b)) h := mkB_eq
theorem sb_gtr {a b : List Nat} : oSbin .gtr (.str a) (.str b) h c = c (.bool (ltL b a)) h := mkB_eq
theorem sb_add {a b : List Nat} (hn : a.length + b.length ≤ 1000000000) : oSbin .add (.str a) (.str b) h c = c (.str (a ++ b)) h := by
 simp only [oSbin, oSbin2, lenN_eq]
 rw [Nat.ble_eq_true_of_le hn]
theorem beqL_refl (s : List Nat) : beqL s s = true := beqL_iff.2 rfl
theorem op_idxS {x i : X} {dst : Option K} : opRun C (.idxS x i) dst t d h ks kp = oIdxS (ev t x) (ev t i) h (kv dst t d ks) := rfl
theorem op_mkf {f : Nat} {a b : List X} {dst : Option K} : opRun C (.mkf f a b) dst t d h ks kp = kv dst t d ks (.fn f (evs t a) (evs t b)) h := rfl
theorem op_callv_fn {f : X} {l : List X} {dst : Option K} : opRun C (.callv f l) dst t d h ks kp = doCallv C dst (ev t f) (evs t l) t d h ks kp := rfl
theorem callv_fn {f : Nat} {a cs args : List V} {dst : Option K} : doCallv C dst (.fn f a cs) args t d h ks kp = C (.fn f) (a ++ (args ++ cs)) none h (callK dst t d ks kp) := rfl
theorem callv_yld {l : K} {args : List V} {dst : Option K} : doCallv C dst (.yld l) args t d h ks kp = C (.round l) args none h (callK dst t d ks kp) := rfl
theorem op_mapget {q : CK} {m i : X} {z : V} {ok : Bool} {dst : Option K} : opRun C (.mapget q m i z ok) dst t d h ks kp = oMapget q (ev t m) (ev t i) z ok h (kv dst t d ks) := rfl
theorem op_mapset {q : CK} {m i x : X} {dst : Option K} : opRun C (.mapset q m i x) dst t d h ks kp = oMapset q (ev t m) (ev t i) (ev t x) h (kh dst t d ks) := rfl
theorem op_mkmap {dst : Option K} : opRun C .mkmap dst t d h ks kp = kv dst t d ks (.map (nxt h)) (h.upd (nxt h) (.map [] 0)).bump := by
 show newBlk h (.map [] 0) (fun b h' => kv dst t d ks (.map b) h') = _
 rw [newBlk_eq]
theorem op_mxn {mx : Bool} {x : X} {l : List X} {dst : Option K} : opRun C (.mxn mx x l) dst t d h ks kp = oMxn mx (evs t l) (ev t x) (fun v => kv dst t d ks v h) := rfl
theorem mxn_max {a b : Int} {f : V → Bool} : oMxn true [.int .i64 b] (.int .i64 a) f = f (.int .i64 (if ltI a b = true then b else a)) := by
 simp only [oMxn, mxn, sameK]
 cases ltI a b <;> rfl
theorem op_appz {s x : X} {sz by_ : Nat} {z : List V} {u : Option (List V)} {dst : Option K} : opRun C (.appz s x sz by_ z u) dst t d h ks kp = oAppz u (ev t s) (ev t x) sz by_ z h (kv dst t d ks) := rfl
theorem op_copy {a b : X} {sz : Nat} {dst : Option K} : opRun C (.copy a b sz) dst t d h ks kp = oCopy (ev t a) (ev t b) sz h (kv dst t d ks) := rfl
theorem op_cap {x : X} {dst : Option K} : opRun C (.cap x) dst t d h ks kp = oCap (ev t x) h (kv dst t d ks) := rfl
theorem op_ofBytes {x : X} {dst : Option K} : opRun C (.ofBytes x) dst t d h ks kp = oOfBytes (ev t x) h (kv dst t d ks) := rfl
theorem op_recover {dst : Option K} : opRun C .recover dst t d h ks kp = doRecover dst t d h ks := rfl
theorem recover_ret {dst : Option K} {ds : List D} : doRecover dst t (.mk ds (some .ret)) h ks = putK dst .nili t (.mk ds (some .ret)) h ks := rfl
theorem op_defer {f : X} {l : List X} {dst : Option K} : opRun C (.defer f l) dst t d h ks kp = doDefer (ev t f) (evs t l) d (fun d' => putK dst und t d' h ks) := rfl
theorem defer_fn {f : Nat} {a cs args : List V} {ds : List D} {cm : Option Md} {g : Dc → Bool} : doDefer (.fn f a cs) args (.mk ds cm) g = g (.mk (.call f (a ++ (args ++ cs)) :: ds) cm) := rfl
theorem op_mkif {ty : Nat} {x : X} {dst : Option K} : opRun C (.mkif ty x) dst t d h ks kp = kv dst t d ks (.ifc ty (ev t x)) h := rfl
theorem neg_int {ik : IntKind} {n : Int} : oNeg (.int ik n) h c = c (.int ik (wrapI ik (Int.sub 0 n))) h := mkI_eq
theorem cap_nils : oCap .nils h c = c (.int .i64 (.ofNat 0)) h := rfl
theorem cap_sl {b : K} {o l n : Nat} : oCap (.sl b o l n 0) h c = c (.int .i64 (.ofNat n)) h := rfl
theorem chk_addOff {x : X} {n : Nat} {v : V} : chkVal (.addOff x n) t h v = oAddOff (ev t x) n h (isV v) := rfl
theorem chk_loadN {x : X} {n : Nat} {v : V} : chkVal (.loadN x n) t h v = oLoadN (ev t x) n h (isV v) := rfl
theorem chk_sbin {o : SOp} {x y : X} {v : V} : chkVal (.sbin o x y) t h v = oSbin o (ev t x) (ev t y) h (isV v) := rfl
theorem chk_slice {x : X} {a b m : Option X} {sz : Nat} {v : V} : chkVal (.slice x a b m sz) t h v = oSlice (ev t x) (evo t a) (evo t b) (evo t m) sz h (isV v) := rfl
theorem chk_fld {x : X} {o n : Nat} {agg : Bool} {v : V} : chkVal (.fld x o n agg) t h v = oFld (ev t x) o n agg h (isV v) := rfl
theorem chk_idxS {x i : X} {v : V} : chkVal (.idxS x i) t h v = oIdxS (ev t x) (ev t i) h (isV v) := rfl
theorem fld_1 {x y : V} {l : List V} : oFld (.agg (x :: y :: l)) 1 1 false h c = c y h := rfl
theorem chk_mkSl {z : List V} {ps : List (Nat × Nat × X)} {n : Nat} {b : K} {z' : List V} (hz : ∀ f, fill t ps z f = f z') : chkVal (.mkSl z ps n) t h (.sl b 0 n n 0) = bears h b z' := by
 simp only [chkVal, hz, Nat.beq_refl]
def flat (v : V) : Bool := match v with
 | .int _ _ | .bool _ | .str _ | .nilp | .ptr _ _ | .nils | .sl _ _ _ _ _ | .nilm | .map _ | .yld _ | .nilf | .nili | .rp _ _ | .rsl _ _ _ _ | .esl => true
 | _ => false
theorem veq_flat {n : Nat} {v : V} (hv : flat v = true) : veq (n + 1) v v = true := by
 cases v <;> first | (simp [flat] at hv; done) | skip
 all_goals simp only [veq, kEq_refl, beqI_self, beqL_refl, K.beq_refl, Nat.beq_refl]
 case bool b => cases b <;> rfl
 all_goals (unfold sameRow; rw [if_pos rfl])
theorem allEq_flat {n : Nat} : ∀ {l : List V}, (∀ v ∈ l, flat v = true) → allEq (veq (n + 1)) l l = true
 | [], _ => rfl
 | v :: l, hl => by
  simp only [allEq]
  rw [veq_flat (hl v (by simp)), allEq_flat fun w hw => hl w (by simp [hw])]
theorem veq_agg {n : Nat} {l : List V} (hl : ∀ v ∈ l, flat v = true) : veq (n + 2) (.agg l) (.agg l) = true := by
 simp only [veq]; exact allEq_flat hl
theorem veq_str {n : Nat} {s : List Nat} : veq (n + 1) (.str s) (.str s) = true := veq_flat rfl
theorem veq_rp {n o : Nat} {q : List V} : veq (n + 1) (.rp q o) (.rp q o) = true := veq_flat rfl
theorem flat_slR {b : Bool} {cp n : Nat} {q : List V} : flat (slR b cp q n) = true := by unfold slR; split <;> rfl
theorem veq_slR {b : Bool} {m cp n : Nat} {q : List V} : veq (m + 1) (slR b cp q n) (slR b cp q n) = true := veq_flat flat_slR
theorem bear_flat {l : List V} (hl : ∀ v ∈ l, flat v = true) : bearB (.cells l) l = true := allEq_flat hl
theorem cellsV_flat {v : V} {f : List V → Bool} (hv : flat v = true) : cellsV v f = f [v] := by
 cases v <;> first | rfl | (simp [flat] at hv; done)
theorem wantB_und {w : Bool} : wantB und w = false := rfl
theorem flat_bool {b : Bool} : flat (.bool b) = true := rfl
theorem flat_str {l : List Nat} : flat (.str l) = true := rfl
theorem veq_agg2 {n : Nat} {v w : V} (hv : flat v = true) (hw : flat w = true) : veq (n + 2) (.agg [v, w]) (.agg [v, w]) = true := veq_agg (by simp [hv, hw])
theorem flat_int {ik : IntKind} {n : Int} : flat (.int ik n) = true := rfl
theorem flat_sl {b : K} {o l n p : Nat} : flat (.sl b o l n p) = true := rfl
theorem flat_nils : flat .nils = true := rfl
noncomputable def mkS2 (v w a b : V) (n : Nat) (h : Hp) (c : KV) : Bool := cellsV v fun q => lenIs q 1 (splice 0 [a, b] q fun z => cellsV w fun q' => lenIs q' 1 (splice 1 z q' fun z' => newBlk h (.cells z') fun b h' => c (.sl b 0 n n 0) h'))
theorem mkSl_2 {a b : V} {x y : X} {n : Nat} : oMkSl t [a, b] [(0, 1, x), (1, 1, y)] n h c = mkS2 (ev t x) (ev t y) a b n h c := rfl
theorem mkS2_flat {v w a b : V} {n : Nat} (hv : flat v = true) (hw : flat w = true) : mkS2 v w a b n h c = c (.sl (nxt h) 0 n n 0) (h.upd (nxt h) (.cells [v, w])).bump := by
 simp only [mkS2, cellsV_flat hv, cellsV_flat hw, lenIs, splice, over, newBlk_eq]
noncomputable def chkS2 (v w a b : V) (n : Nat) (h : Hp) (u : V) : Bool := match u with
  | .sl bb o l c p => (match o with
   | 0 => (match Nat.beq l n with
    | true => (match Nat.beq c n with
     | true => (match p with
      | 0 => cellsV v fun q => lenIs q 1 (splice 0 [a, b] q fun z => cellsV w fun q' => lenIs q' 1 (splice 1 z q' fun z' => bears h bb z'))
      | _ + 1 => false)
     | false => false)
    | false => false)
   | _ + 1 => false)
  | _ => false
theorem chk_mkSl2 {a b : V} {x y : X} {n : Nat} {u : V} : chkVal (.mkSl [a, b] [(0, 1, x), (1, 1, y)] n) t h u = chkS2 (ev t x) (ev t y) a b n h u := rfl
theorem chkS2_flat {v w a b : V} {n : Nat} {bb : K} (hv : flat v = true) (hw : flat w = true) : chkS2 v w a b n h (.sl bb 0 n n 0) = bearB (blk h bb) [v, w] := by
 simp only [chkS2, Nat.beq_refl, cellsV_flat hv, cellsV_flat hw, lenIs, splice, over, bears_def]
theorem bearB_2 {v w : V} (hv : flat v = true) (hw : flat w = true) : bearB (.cells [v, w]) [v, w] = true := bear_flat (by simp [hv, hw])
noncomputable def rangeK (l : K) (t : T V) (d : Dc) (k : KE) : KC := fun e _ h => rangeEnd l t d k e h
theorem exec_range {f : X} {ps : List K} {a b : ACode} : exec C L fi (.range f ps a b) t d h k = rangeRun C fi (ev t f) ps a b t d h k := rfl
theorem range_fn {fn g : Nat} {x cs : List V} {ps : List K} {a b : ACode} {ds : List D} {cm : Option Md} :
  rangeRun C (.mk fn none) (.fn g x cs) ps a b t (.mk ds cm) h k =
   C (.fn g) (x ++ (.yld (nxt h).succ :: cs)) none ((((h.upd (nxt h) (.dfr [])).bump).upd (nxt h).succ (.loop .ready .none fn t ps a b (nxt h))).bump)
    (rangeK (nxt h).succ t (.mk (.coll (nxt h) :: ds) cm) k) := by
 simp only [rangeRun, newBlk_eq, rangeGo, nxt_bump, nxt_upd]
 rfl
theorem rangeK_ret {l : K} {v : V} {u : Option Md} {st : LSt} {j : Jmp} {f : Nat} {t0 : T V} {ps : List K} {a b : ACode} {D : K} (hl : blk h l = .loop st j f t0 ps a b D) (hs : st ≠ .busy) :
  rangeK l t d k (.ret v) u h = jumpOn j t d (h.upd l (.loop .exhausted j f t0 ps a b D)) k := by
 simp only [rangeK, rangeEnd, hl, putBlk_eq]
theorem jump_none : jumpOn .none t d h k = k .normal t d h := rfl
theorem jump_ret : jumpOn .ret t d h k = k .ret t d h := rfl
theorem jump_exit {id : Nat} : jumpOn (.exit id) t d h k = k (.exit id) t d h := rfl
noncomputable def roundK (l : K) (kc : KC) : KE := fun e _ _ h3 => roundEnd l kc e h3
noncomputable def roundB (C : CallF) (L : Nat) (fi : FI) (l : K) (body : ACode) (kc : KC) : KE := fun e t d h => roundGo C L fi l body kc e t d h
theorem call_round {n : Nat} {l : K} {args : List V} {kc : KC} {st : LSt} {j : Jmp} {f : Nat} {ps : List K} {a b : ACode} {D : K} {af : AFn} (hl : blk h l = .loop st j f t ps a b D) (hf : T.get .no (K.of f) E.fn = .fn (some af)) :
  call E L (n + 1) (.round l) args none h kc = putParams ps args t (fun t0 => exec (call E L n) L (.mk f (some l)) a t0 .rnd h (roundB (call E L n) L (.mk f (some l)) l b kc)) := by
 show callRound (call E L n) L E l args h kc = _
 simp only [callRound, hl, known, hf]
 rfl
theorem putParams_nil {f : T V → Bool} : putParams [] [] t f = f t := rfl
theorem putParams_cons {p : K} {ps : List K} {v : V} {vs : List V} {f : T V → Bool} : putParams (p :: ps) (v :: vs) t f = putParams ps vs (T.ins und v p t) f := by
 simp only [putParams, T.set_eq]
theorem roundB_normal {l : K} {b : ACode} {kc : KC} {j : Jmp} {f : Nat} {t0 : T V} {ps : List K} {a b0 : ACode} {D : K} (hl : blk h l = .loop .ready j f t0 ps a b0 D) :
  roundB C L fi l b kc .normal t d h = exec C L fi b t d (h.upd l (.loop .busy j f t0 ps a b0 D)) (roundK l kc) := by
 simp only [roundB, roundGo, roundBegin, hl, putBlk_eq]
 rfl
theorem roundK_normal {l : K} {kc : KC} {st : LSt} {j : Jmp} {f : Nat} {t0 : T V} {ps : List K} {a b0 : ACode} {D : K} (hl : blk h l = .loop st j f t0 ps a b0 D) :
  roundK l kc .normal t d h = kc (.ret (.bool true)) none (h.upd l (.loop .ready .none f t0 ps a b0 D)) := by
 simp only [roundK, roundEnd, setLoop, hl, putBlk_eq]
theorem roundK_ret {l : K} {kc : KC} {st : LSt} {j : Jmp} {f : Nat} {t0 : T V} {ps : List K} {a b0 : ACode} {D : K} (hl : blk h l = .loop st j f t0 ps a b0 D) :
  roundK l kc .ret t d h = kc (.ret (.bool false)) none (h.upd l (.loop .done .ret f t0 ps a b0 D)) := by
 simp only [roundK, roundEnd, setLoop, hl, putBlk_eq]
theorem roundK_exit {l : K} {id : Nat} {kc : KC} {st : LSt} {j : Jmp} {f : Nat} {t0 : T V} {ps : List K} {a b0 : ACode} {D : K} (hl : blk h l = .loop st j f t0 ps a b0 D) :
  roundK l kc (.exit id) t d h = kc (.ret (.bool false)) none (h.upd l (.loop .done (.exit id) f t0 ps a b0 D)) := by
 simp only [roundK, roundEnd, setLoop, hl, putBlk_eq]
theorem fnEnd_coll {res : List RV} {kc : KC} {cm : Option Md} {D : K} {e : Ex} (he : e = .ret ∨ e = .normal) (hD : blk h D = .dfr []) :
  fnEnd C (L + 2) res kc e t (.mk [.coll D] cm) h = results [] t (h.upd D .none) res fun vs => kc (.ret (one vs)) cm (h.upd D .none) := by
 rcases he with rfl | rfl <;> (simp only [fnEnd, unwind, hD, putBlk_eq, List.append_nil])
structure KeepsBut (S : List K) (h h' : Hp) : Prop where
 nx : (nxt h).num ≤ (nxt h').num
 old : ∀ b, b.num < (nxt h).num → b ∉ S → blk h' b = blk h b
theorem KeepsBut.refl (S : List K) (h : Hp) : KeepsBut S h h := ⟨Nat.le_refl _, fun _ _ _ => rfl⟩
theorem KeepsBut.trans {S : List K} {h h1 h2 : Hp} (a : KeepsBut S h h1) (b : KeepsBut S h1 h2) : KeepsBut S h h2 :=
 ⟨Nat.le_trans a.nx b.nx, fun k hk hs => (b.old k (Nat.lt_of_lt_of_le hk a.nx) hs).trans (a.old k hk hs)⟩
theorem Keeps.but {S : List K} {h h' : Hp} (a : Keeps h h') : KeepsBut S h h' := ⟨a.nx, fun b hb _ => a.old b hb⟩
theorem KeepsBut.none {h h' : Hp} (a : KeepsBut [] h h') : Keeps h h' := ⟨a.nx, fun b hb => a.old b hb (by simp)⟩
theorem KeepsBut.new {S : List K} {h h' : Hp} (a : KeepsBut S h h') (x : Blk) : KeepsBut S h (h'.upd (nxt h') x).bump := by
 refine ⟨?_, fun b hb hs => ?_⟩
 ·rw [nxt_bump, nxt_upd, K.num_succ]; have := a.nx; omega
 ·rw [blk_bump, blk_upd, if_neg (fun e => by subst e; have := a.nx; omega)]; exact a.old b hb hs
theorem KeepsBut.put {S : List K} {h h' : Hp} (a : KeepsBut S h h') {b : K} (hb : (nxt h).num ≤ b.num ∨ b ∈ S) (x : Blk) : KeepsBut S h (h'.upd b x) := by
  refine ⟨by rw [nxt_upd]; exact a.nx, fun c hc hs => ?_⟩
  rw [blk_upd, if_neg (fun e => by subst e; rcases hb with h1 | h1; · omega
                                   · exact hs h1)]; exact a.old c hc hs
theorem blk_ne {b b' : K} {x : Blk} (hne : b'.num ≠ b.num) : blk (h.upd b x) b' = blk h b' := by rw [blk_upd, if_neg (fun e => hne (by rw [e]))]
theorem call_to {n : Nat} {f : Nat} {args : List V} {kc : KC} {R : Prop} (hc : R → call E L n (.fn f) args none h kc = true) (hr : R) : call E L n (.fn f) args none h kc = true := hc hr
def Kp (l : List Nat) (t t' : T V) : Prop := ∀ i ∈ l, T.get und (K.of i) t' = T.get und (K.of i) t
theorem Kp.refl (l : List Nat) (t : T V) : Kp l t t := fun _ _ => rfl
theorem Kp.trans {l : List Nat} {t t1 t2 : T V} (a : Kp l t t1) (b : Kp l t1 t2) : Kp l t t2 := fun i hi => (b i hi).trans (a i hi)
theorem KeepsBut.lt {S : List K} {h h1 : Hp} (a : KeepsBut S h h1) {b : K} (hb : b.num < (nxt h).num) : b.num < (nxt h1).num := Nat.lt_of_lt_of_le hb a.nx
theorem exec_as {B b : ACode} (hB : B = b) : exec C L fi B t d h k = exec C L fi b t d h k := by rw [hB]
theorem if_t {b : Bool} {x y : Bool} (hb : b = true) : (if b = true then x else y) = x := if_pos hb
theorem if_f {b : Bool} {x y : Bool} (hb : b = false) : (if b = true then x else y) = y := by rw [hb]; rfl
end
end Go.AJ
/- The equations, bundled. -/
namespace Go.AJ
open Go
set_option maxRecDepth 10000
theorem eqS {α : Type} {a : α} : (a = a) = True := eq_self a
theorem ifT {α : Type} {a b : α} : (if True then a else b) = a := rfl
theorem ifF {α : Type} {a b : α} : (if False then a else b) = b := rfl
theorem beqS {a : Nat} : (a == a) = true := beq_self_eq_true a
theorem beqB {a : Bool} : (a == a) = true := beq_self_eq_true a
theorem nilA {α : Type} {a : List α} : [] ++ a = a := rfl
theorem consA {α : Type} {a b : List α} {x : α} : (x :: a) ++ b = x :: (a ++ b) := rfl
theorem appN {α : Type} {a : List α} : a ++ [] = a := List.append_nil a
def sD := And.intro @normK_eq (And.intro @execK_eq (And.intro @opsK_eq (And.intro @stagesK_eq (And.intro @bodyK_eq (And.intro @ops_all (And.intro @ops_some (And.intro @draw_cons (And.intro @drawK_none (And.intro @drawK_some (And.intro @exec_skip (And.intro @exec_reg (And.intro @exec_draw (And.intro @exec_seq (And.intro @exec_cond (And.intro @exec_block (And.intro @exec_exit (And.intro @exec_ret (And.intro @iterK_normal (And.intro @iterK_exit (And.intro @iterK_ret (And.intro @blockK_normal (And.intro @blockK_ret (And.intro @blockK_exit (And.intro @opsRun_nil (And.intro @draw_nil (And.intro @exec_range (@range_fn)))))))))))))))))))))))))))
def sB := And.intro @eqS (And.intro @ifT (And.intro @ifF (And.intro @beqS (And.intro @beqB (And.intro @nilA (And.intro @consA (And.intro @appN (And.intro @panK_eq (And.intro @callK_eq (And.intro @isV_eq (And.intro @isT_bool (And.intro @isF_bool (And.intro @putK_some (And.intro @putK_none (And.intro @chk_all (And.intro @chk_some (And.intro @iterK_panic (And.intro @blockK_panic (And.intro @wantB_bool (And.intro @kv_eq (And.intro @kh_eq (And.intro @ev_t (And.intro @ev_c (And.intro @evs_nil (And.intro @evs_cons (And.intro @evo_none (And.intro @evo_some (And.intro @get_ins (And.intro @op_mv (And.intro @op_mvh (And.intro @op_pick (And.intro @op_load1 (And.intro @op_loadN (And.intro @op_addOff (And.intro @op_ibin (And.intro @op_sbin (And.intro @op_eqv (And.intro @op_box (And.intro @op_alloc (And.intro @op_mk (And.intro @op_mkSl (And.intro @op_not (And.intro @op_neg (And.intro @op_idx (And.intro @op_idxA (And.intro @op_store (And.intro @op_nilchk (And.intro @op_ext (And.intro @op_slice (And.intro @op_idxG (And.intro @op_conv (And.intro @op_fld (And.intro @op_mkslice (And.intro @op_len (And.intro @op_app (And.intro @op_call (And.intro @callEnd_ret (And.intro @chkAll_nil (And.intro @chkAll_cons (And.intro @chk_mv (And.intro @chk_pick (And.intro @chk_load1 (And.intro @chk_ibin (And.intro @chk_idx (And.intro @chk_idxA (And.intro @chk_nilchk (And.intro @chk_ext (And.intro @chk_conv (And.intro @chk_idxG (And.intro @chk_len (And.intro @chk_not (And.intro @veq_int (And.intro @kEq_refl (And.intro @veq_bool (And.intro @veq_ptr (And.intro @veq_sl (And.intro @veq_nils (And.intro @veq_und (And.intro @pick_bool (And.intro @beqI_ofNat (And.intro @beqI_self (And.intro @mkB_eq (And.intro @mkI_eq (And.intro @wrap_u64 (And.intro @ib_add_i64 (And.intro @ib_add_u64 (And.intro @ib_add_u8 (And.intro @ib_sub_i64 (And.intro @ib_sub_u64 (And.intro @ib_sub_u8 (And.intro @ib_mul_i64 (And.intro @ib_mul_u64 (And.intro @ib_mul_u8 (And.intro @ib_eql_i64 (And.intro @ib_eql_u64 (And.intro @ib_eql_u8 (And.intro @ib_neq_i64 (And.intro @ib_neq_u64 (And.intro @ib_neq_u8 (And.intro @ib_lss_i64 (And.intro @ib_lss_u64 (And.intro @ib_lss_u8 (And.intro @ib_leq_i64 (And.intro @ib_leq_u64 (And.intro @ib_leq_u8 (And.intro @ib_gtr_i64 (And.intro @ib_gtr_u64 (And.intro @ib_gtr_u8 (And.intro @ib_geq_i64 (And.intro @ib_geq_u64 (And.intro @ib_geq_u8 (And.intro @ibin_shr (And.intro @add_ofNat (And.intro @mul_ofNat (And.intro @tdiv_ofNat (And.intro @tmod_ofNat (And.intro @ltI_ofNat (And.intro @conv_int (And.intro @not_bool (And.intro @nilchk_ptr (And.intro @ext_tup0 (And.intro @ext_tup1 (And.intro @ext_tup2 (And.intro @upd_same (And.intro @call_prim (And.intro @putArgs_nil (And.intro @putArgs_cons (And.intro @fnEnd_ret (And.intro @fnEnd_normal (And.intro @res_nil (And.intro @res_t (And.intro @res_cell1 (And.intro @res_cellN (And.intro @one_nil (And.intro @one_one (And.intro @one_two (And.intro @Bool.not_true (And.intro @Bool.not_false (And.intro @Bool.true_eq_false (And.intro @Bool.false_eq_true (And.intro @Bool.and_self (And.intro @Bool.and_true (And.intro @Bool.true_and (And.intro @Bool.true_beq (And.intro @Bool.false_beq (And.intro @nxt_upd (And.intro @nxt_bump (And.intro @bears_def (And.intro @bear_ints (And.intro @bear_int (And.intro @chk_alloc (And.intro @chk_mkslice (And.intro @len_sl (And.intro @len_nils (And.intro @rep_ints (And.intro @ld_ptr (And.intro @ldN_ptr (And.intro @ldB_0 (And.intro @ldB_1 (And.intro @ldB_2 (And.intro @ldN_2 (And.intro @st_int (And.intro @st_agg2 (And.intro @stB_0 (And.intro @stB_2 (And.intro @box_int (And.intro @box_agg (And.intro @idxA_nat (And.intro @idx_nat (And.intro @eq_u64_2 (And.intro @mk_2 (And.intro @mk2_int (And.intro @blk_bump (And.intro @blk_ne (And.intro @bump_upd (And.intro @upd_upd (And.intro @K.self_ne_succ (And.intro @K.succ_ne_self (And.intro @K.self_ne_succ2 (And.intro @K.succ2_ne_self (And.intro @K.succ_eq_succ (And.intro @Nat.zero_add (And.intro @Nat.mul_one (And.intro @Nat.zero_lt_succ (And.intro @Nat.lt_add_one (And.intro @len_slR (And.intro @addOff_ptr (And.intro @addOff_rp (And.intro @nilchk_rp (And.intro @ldB_hd (And.intro @ldB_3 (And.intro @ldB_4 (And.intro @ldB_5 (And.intro @ldB_6 (And.intro @ldN_22 (And.intro @st_bool (And.intro @st_fn (And.intro @st_sl (And.intro @st_nils (And.intro @stB_31 (And.intro @stB_32 (And.intro @box_str (And.intro @box_bool (And.intro @box_yld (And.intro @eqv_bool (And.intro @len_str (And.intro @sb_eql (And.intro @sb_neq (And.intro @sb_lss (And.intro @sb_gtr (And.intro @beqL_refl (And.intro @op_idxS (And.intro @op_mkf (And.intro @op_callv_fn (And.intro @callv_fn (And.intro @callv_yld (And.intro @op_mapget (And.intro @op_mapset (And.intro @op_mkmap (And.intro @op_mxn (And.intro @mxn_max (And.intro @op_appz (And.intro @op_copy (And.intro @op_cap (And.intro @op_ofBytes (And.intro @op_recover (And.intro @recover_ret (And.intro @op_defer (And.intro @defer_fn (And.intro @op_mkif (And.intro @cap_nils (And.intro @cap_sl (And.intro @neg_int (And.intro @wantB_und (And.intro @veq_agg2 (And.intro @flat_int (And.intro @flat_sl (And.intro @flat_nils (And.intro @flat_slR (And.intro @mkSl_2 (And.intro @mkS2_flat (And.intro @chk_mkSl2 (And.intro @chkS2_flat (And.intro @bearB_2 (And.intro @chk_addOff (And.intro @chk_loadN (And.intro @chk_sbin (And.intro @chk_slice (And.intro @chk_fld (And.intro @chk_idxS (And.intro @fld_1 (And.intro @veq_str (And.intro @veq_rp (And.intro @veq_slR (And.intro @jump_none (And.intro @jump_ret (And.intro @jump_exit (And.intro @putParams_nil (And.intro @putParams_cons (@wrap_i64))))))))))))))))))))))))))))))))))))))))))))))))))))))))))))))))))))))))))))))))))))))))))))))))))))))))))))))))))))))))))))))))))))))))))))))))))))))))))))))))))))))))))))))))))))))))))))))))))))))))))))))))))))))))))))))))))))))))))))))))))))))))))))))))))))
def nB := And.intro @nxt_bump (And.intro @nxt_upd (And.intro @K.num_succ (@blk_bump)))
theorem lenC {x : V} {l : List V} : (x :: l).length = l.length + 1 := rfl
theorem lenZ : ([] : List V).length = 0 := rfl
def dB := And.intro @flat_int (And.intro @flat_bool (And.intro @flat_str (And.intro @flat_slR (And.intro @flat_sl (And.intro @flat_nils (And.intro @nxt_bump (And.intro @nxt_upd (And.intro @K.num_succ (And.intro @blk_bump (And.intro @lenC (@lenZ)))))))))))
end Go.AJ
/- Short words for the steps of a walk. -/
namespace Go.AJ
open Go
theorem Sst0 {p q : Prop} (g : q) (h : q → p := by intro g; simp -implicitDefEqProofs (disch := first | assumption | ((try simp only [dB]); first | done | omega)) only [↓sD, sB, ↓reduceIte, Nat.reduceEqDiff, reduceCtorEq, Nat.reduceLT, Nat.reduceMul, Nat.reduceAdd]; exact g) : p := h g
theorem Ssc0 {p : Prop} (h : p := by simp -implicitDefEqProofs (disch := first | assumption | ((try simp only [dB]); first | done | omega)) only [↓sD, sB, ↓reduceIte, Nat.reduceEqDiff, reduceCtorEq, Nat.reduceLT, Nat.reduceMul, Nat.reduceAdd]) : p := h
theorem Sst {p q : Prop} {A : Prop} (a : A) (g : q) (h : A → q → p := by intro a g; simp -implicitDefEqProofs (disch := first | assumption | ((try simp only [dB]); first | done | omega)) only [↓sD, sB, ↓reduceIte, Nat.reduceEqDiff, reduceCtorEq, Nat.reduceLT, Nat.reduceMul, Nat.reduceAdd, a]; exact g) : p := h a g
theorem Ssc {p : Prop} {A : Prop} (a : A) (h : A → p := by intro a; simp -implicitDefEqProofs (disch := first | assumption | ((try simp only [dB]); first | done | omega)) only [↓sD, sB, ↓reduceIte, Nat.reduceEqDiff, reduceCtorEq, Nat.reduceLT, Nat.reduceMul, Nat.reduceAdd, a]) : p := h a
theorem Tst0 {p q : Prop} (g : q) (h : q → p := by intro g; simp -implicitDefEqProofs (disch := first | assumption | ((try simp only [dB]); first | done | omega)) only [↓sD, sB, ↓reduceIte, Nat.reduceEqDiff, reduceCtorEq, Nat.reduceLT, Nat.reduceMul, Nat.reduceAdd, decide_true, decide_false, ltI_ofNat, beqI_ofNat, idx_slR]; exact g) : p := h g
theorem Tsc0 {p : Prop} (h : p := by simp -implicitDefEqProofs (disch := first | assumption | ((try simp only [dB]); first | done | omega)) only [↓sD, sB, ↓reduceIte, Nat.reduceEqDiff, reduceCtorEq, Nat.reduceLT, Nat.reduceMul, Nat.reduceAdd, decide_true, decide_false, ltI_ofNat, beqI_ofNat, idx_slR]) : p := h
theorem Tst {p q : Prop} {A : Prop} (a : A) (g : q) (h : A → q → p := by intro a g; simp -implicitDefEqProofs (disch := first | assumption | ((try simp only [dB]); first | done | omega)) only [↓sD, sB, ↓reduceIte, Nat.reduceEqDiff, reduceCtorEq, Nat.reduceLT, Nat.reduceMul, Nat.reduceAdd, decide_true, decide_false, ltI_ofNat, beqI_ofNat, idx_slR, a]; exact g) : p := h a g
theorem Tsc {p : Prop} {A : Prop} (a : A) (h : A → p := by intro a; simp -implicitDefEqProofs (disch := first | assumption | ((try simp only [dB]); first | done | omega)) only [↓sD, sB, ↓reduceIte, Nat.reduceEqDiff, reduceCtorEq, Nat.reduceLT, Nat.reduceMul, Nat.reduceAdd, decide_true, decide_false, ltI_ofNat, beqI_ofNat, idx_slR, a]) : p := h a
theorem J2 {A1 A2 : Prop} (a1 : A1) (a2 : A2) : A1 ∧ A2 := ⟨a1, a2⟩
theorem J3 {A1 A2 A3 : Prop} (a1 : A1) (a2 : A2) (a3 : A3) : A1 ∧ A2 ∧ A3 := ⟨a1, a2, a3⟩
theorem J4 {A1 A2 A3 A4 : Prop} (a1 : A1) (a2 : A2) (a3 : A3) (a4 : A4) : A1 ∧ A2 ∧ A3 ∧ A4 := ⟨a1, a2, a3, a4⟩
theorem J5 {A1 A2 A3 A4 A5 : Prop} (a1 : A1) (a2 : A2) (a3 : A3) (a4 : A4) (a5 : A5) : A1 ∧ A2 ∧ A3 ∧ A4 ∧ A5 := ⟨a1, a2, a3, a4, a5⟩
theorem J6 {A1 A2 A3 A4 A5 A6 : Prop} (a1 : A1) (a2 : A2) (a3 : A3) (a4 : A4) (a5 : A5) (a6 : A6) : A1 ∧ A2 ∧ A3 ∧ A4 ∧ A5 ∧ A6 := ⟨a1, a2, a3, a4, a5, a6⟩
theorem J7 {A1 A2 A3 A4 A5 A6 A7 : Prop} (a1 : A1) (a2 : A2) (a3 : A3) (a4 : A4) (a5 : A5) (a6 : A6) (a7 : A7) : A1 ∧ A2 ∧ A3 ∧ A4 ∧ A5 ∧ A6 ∧ A7 := ⟨a1, a2, a3, a4, a5, a6, a7⟩
theorem J8 {A1 A2 A3 A4 A5 A6 A7 A8 : Prop} (a1 : A1) (a2 : A2) (a3 : A3) (a4 : A4) (a5 : A5) (a6 : A6) (a7 : A7) (a8 : A8) : A1 ∧ A2 ∧ A3 ∧ A4 ∧ A5 ∧ A6 ∧ A7 ∧ A8 := ⟨a1, a2, a3, a4, a5, a6, a7, a8⟩
theorem J9 {A1 A2 A3 A4 A5 A6 A7 A8 A9 : Prop} (a1 : A1) (a2 : A2) (a3 : A3) (a4 : A4) (a5 : A5) (a6 : A6) (a7 : A7) (a8 : A8) (a9 : A9) : A1 ∧ A2 ∧ A3 ∧ A4 ∧ A5 ∧ A6 ∧ A7 ∧ A8 ∧ A9 := ⟨a1, a2, a3, a4, a5, a6, a7, a8, a9⟩
theorem J10 {A1 A2 A3 A4 A5 A6 A7 A8 A9 A10 : Prop} (a1 : A1) (a2 : A2) (a3 : A3) (a4 : A4) (a5 : A5) (a6 : A6) (a7 : A7) (a8 : A8) (a9 : A9) (a10 : A10) : A1 ∧ A2 ∧ A3 ∧ A4 ∧ A5 ∧ A6 ∧ A7 ∧ A8 ∧ A9 ∧ A10 := ⟨a1, a2, a3, a4, a5, a6, a7, a8, a9, a10⟩
theorem J11 {A1 A2 A3 A4 A5 A6 A7 A8 A9 A10 A11 : Prop} (a1 : A1) (a2 : A2) (a3 : A3) (a4 : A4) (a5 : A5) (a6 : A6) (a7 : A7) (a8 : A8) (a9 : A9) (a10 : A10) (a11 : A11) : A1 ∧ A2 ∧ A3 ∧ A4 ∧ A5 ∧ A6 ∧ A7 ∧ A8 ∧ A9 ∧ A10 ∧ A11 := ⟨a1, a2, a3, a4, a5, a6, a7, a8, a9, a10, a11⟩
theorem J12 {A1 A2 A3 A4 A5 A6 A7 A8 A9 A10 A11 A12 : Prop} (a1 : A1) (a2 : A2) (a3 : A3) (a4 : A4) (a5 : A5) (a6 : A6) (a7 : A7) (a8 : A8) (a9 : A9) (a10 : A10) (a11 : A11) (a12 : A12) : A1 ∧ A2 ∧ A3 ∧ A4 ∧ A5 ∧ A6 ∧ A7 ∧ A8 ∧ A9 ∧ A10 ∧ A11 ∧ A12 := ⟨a1, a2, a3, a4, a5, a6, a7, a8, a9, a10, a11, a12⟩
theorem J13 {A1 A2 A3 A4 A5 A6 A7 A8 A9 A10 A11 A12 A13 : Prop} (a1 : A1) (a2 : A2) (a3 : A3) (a4 : A4) (a5 : A5) (a6 : A6) (a7 : A7) (a8 : A8) (a9 : A9) (a10 : A10) (a11 : A11) (a12 : A12) (a13 : A13) : A1 ∧ A2 ∧ A3 ∧ A4 ∧ A5 ∧ A6 ∧ A7 ∧ A8 ∧ A9 ∧ A10 ∧ A11 ∧ A12 ∧ A13 := ⟨a1, a2, a3, a4, a5, a6, a7, a8, a9, a10, a11, a12, a13⟩
theorem J14 {A1 A2 A3 A4 A5 A6 A7 A8 A9 A10 A11 A12 A13 A14 : Prop} (a1 : A1) (a2 : A2) (a3 : A3) (a4 : A4) (a5 : A5) (a6 : A6) (a7 : A7) (a8 : A8) (a9 : A9) (a10 : A10) (a11 : A11) (a12 : A12) (a13 : A13) (a14 : A14) : A1 ∧ A2 ∧ A3 ∧ A4 ∧ A5 ∧ A6 ∧ A7 ∧ A8 ∧ A9 ∧ A10 ∧ A11 ∧ A12 ∧ A13 ∧ A14 := ⟨a1, a2, a3, a4, a5, a6, a7, a8, a9, a10, a11, a12, a13, a14⟩
theorem tD {p : Prop} (h : p := by first | assumption | ((try simp only [dB]); first | done | omega)) : p := h
theorem tN {p : Prop} (h : p := by ((try simp only [nB]); omega)) : p := h
theorem tO {p : Prop} (h : p := by omega) : p := h
theorem eF {p : Prop} (h : ¬p := by omega) : p = False := eq_false h
theorem eT {p : Prop} (h : p := by omega) : p = True := eq_true h
theorem pM (M : Nat) (h : 1 ≤ M := by omega) : ∃ j, M = j + 1 := ⟨M - 1, by omega⟩
theorem kO {h h' : Hp} (a : (nxt h).num ≤ (nxt h').num := by ((try simp only [nB]); (try omega))) (b : ∀ b, b.num < (nxt h).num → blk h' b = blk h b := by intro b hb; simp (disch := exact tN) only [blk_bump, blk_ne]) : Keeps h h' := ⟨a, b⟩
theorem kpB : type_of% (And.intro @List.mem_cons.{0} (And.intro @List.not_mem_nil.{0} (And.intro @or_false (And.intro @forall_eq_or_imp.{1} (And.intro @forall_eq.{1} (And.intro @get_ins (And.intro @if_false.{1} (@and_self)))))))) := And.intro @List.mem_cons.{0} (And.intro @List.not_mem_nil.{0} (And.intro @or_false (And.intro @forall_eq_or_imp.{1} (And.intro @forall_eq.{1} (And.intro @get_ins (And.intro @if_false.{1} (@and_self)))))))
end Go.AJ
