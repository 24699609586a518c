/- The equations of the interpreter, for values that are not known. Nothing is asked of the program. -/
import Derived.Test.YtflhojkjjlfegaaGreatDoorAiC
/- The interpreter's run, as equations: for values that are not known. -/
namespace Go.AJ
open Go

section
variable {C : CallF} {L : Nat} {fi : FI} {t : T V} {d : Dc} {h : Hp} {k : KE} {E : Env} {c : KV} {ks : KS} {kp : KP}

/-! What is left to do, under names: so that nothing is reckoned ahead of its time. -/
def normK (k : KE) : KS := fun t' d' h' => k .normal t' d' h'
def panK (k : KE) (q : List K) : KP := fun ch t' d' h' => k (.panic ch q) t' d' h'
def failK : KP := fun _ _ _ _ => false
noncomputable def execK (C : CallF) (L : Nat) (fi : FI) (b : ACode) (k : KE) : T V → Dc → Hp → Bool := fun t' d' h' => exec C L fi b t' d' h' k
noncomputable def opsK (C : CallF) (l : List AO) (ks : KS) (kp : KP) : KS := fun t' d' h' => opsRun C l t' d' h' ks kp
noncomputable def drawK (C : CallF) (chk : List AO) (hv : Option AO) (l : List Stage) (ks : KS) (kp : KP) : KS := fun t1 d1 h1 => if chkAll t1 h1 chk = true then (match hv with
        | none => drawRun C l t1 d1 h1 ks kp
        | some o => opsRun C [o] t1 d1 h1 (fun t2 d2 h2 => drawRun C l t2 d2 h2 ks kp) kp) else false
noncomputable def stagesK (C : CallF) (l : List Stage) (ks : KS) (kp : KP) : KS := fun t2 d2 h2 => drawRun C l t2 d2 h2 ks kp
noncomputable def callK (dst : Option K) (t : T V) (d : Dc) (ks : KS) (kp : KP) : KC := fun e _ h' => callEnd dst t d ks kp e h'
def isV (v : V) : KV := fun v' _ => veq 40 v' v
def isT (v : V) : Bool := match v with | .bool b => b | _ => false
def isF (v : V) : Bool := match v with | .bool b => !b | _ => false
noncomputable def bodyK (C : CallF) (L : Nat) (fi : FI) (body : ACode) (cm : Option Md) (h : Hp) (kc : KE) : T V → Bool := fun t => exec C L fi body t (.mk [] cm) h kc

theorem normK_eq : normK k t d h = k .normal t d h := rfl
theorem panK_eq {ch : List PE} {q : List K} : panK k q ch t d h = k (.panic ch q) t d h := rfl
theorem execK_eq {b : ACode} : execK C L fi b k t d h = exec C L fi b t d h k := rfl
theorem opsK_eq {l : List AO} : opsK C l ks kp t d h = opsRun C l t d h ks kp := rfl
theorem stagesK_eq {l : List Stage} : stagesK C l ks kp t d h = drawRun C l t d h ks kp := rfl
theorem callK_eq {dst : Option K} {e : End} {u : Option Md} {h' : Hp} : callK dst t d ks kp e u h' = callEnd dst t d ks kp e h' := rfl
theorem isV_eq {v v' : V} : isV v v' h = veq 40 v' v := rfl
theorem isT_bool {b : Bool} : isT (.bool b) = b := rfl
theorem isF_bool {b : Bool} : isF (.bool b) = !b := rfl
theorem bodyK_eq {body : ACode} {cm : Option Md} : bodyK C L fi body cm h k t = exec C L fi body t (.mk [] cm) h k := rfl

theorem exec_skip : exec C L fi .skip t d h k = k .normal t d h := rfl
theorem exec_reg {l : List AO} : exec C L fi (.reg l) t d h k = opsRun C l t d h (normK k) (panK k []) := rfl
theorem exec_draw {l : List Stage} {q : List K} : exec C L fi (.draw l q) t d h k = drawRun C l t d h (normK k) (panK k q) := rfl
theorem exec_seq {a b : ACode} : exec C L fi (.seq a b) t d h k = exec C L fi a t d h (iterK (execK C L fi b k) k) := rfl
theorem exec_cond {x : X} {a b : ACode} : exec C L fi (.cond x a b) t d h k = if isT (ev t x) = true then exec C L fi a t d h k else if isF (ev t x) = true then exec C L fi b t d h k else false := by
  show condGo (ev t x) (exec C L fi a t d h k) (exec C L fi b t d h k) = _
  generalize ev t x = v
  cases v with
  | bool b => cases b <;> rfl
  | _ => rfl
theorem exec_block {id : Nat} {a : ACode} : exec C L fi (.block id a) t d h k = exec C L fi a t d h (blockK id k) := rfl
theorem exec_loop {a : ACode} : exec C L fi (.loop a) t d h k = iter (exec C L fi a) L t d h k := rfl
theorem exec_exit {id : Nat} : exec C L fi (.exit id) t d h k = k (.exit id) t d h := rfl
theorem exec_ret : exec C L fi .ret t d h k = k .ret t d h := rfl
theorem iter_succ {a : ACode} {n : Nat} : iter (exec C L fi a) (n + 1) t d h k = exec C L fi a t d h (iterK (fun t' d' h' => iter (exec C L fi a) n t' d' h' k) k) := rfl
theorem iterK_normal {r : T V → Dc → Hp → Bool} : iterK r k .normal t d h = r t d h := rfl
theorem iterK_exit {r : T V → Dc → Hp → Bool} {id : Nat} : iterK r k (.exit id) t d h = k (.exit id) t d h := rfl
theorem iterK_ret {r : T V → Dc → Hp → Bool} : iterK r k .ret t d h = k .ret t d h := rfl
theorem iterK_panic {r : T V → Dc → Hp → Bool} {ch : List PE} {q : List K} : iterK r k (.panic ch q) t d h = k (.panic ch q) t d h := rfl
theorem blockK_normal {id : Nat} : blockK id k .normal t d h = k .normal t d h := rfl
theorem blockK_ret {id : Nat} : blockK id k .ret t d h = k .ret t d h := rfl
theorem blockK_panic {id : Nat} {ch : List PE} {q : List K} : blockK id k (.panic ch q) t d h = k (.panic ch q) t d h := rfl
theorem blockK_exit {id id' : Nat} : blockK id k (.exit id') t d h = if id = id' then k .normal t d h else k (.exit id') t d h := by
  simp only [blockK]
  split
  · rename_i e; rw [if_pos (Nat.eq_of_beq_eq_true e)]
  · rename_i e; rw [if_neg (fun e' => by subst e'; rw [Nat.beq_refl] at e; cases e)]
theorem opsRun_nil : opsRun C [] t d h ks kp = ks t d h := rfl
/-- Whether an operation is wanted. -/
def wantB (v : V) (w : Bool) : Bool := match v with
  | .bool b => b == w
  | _ => false
theorem wantB_bool {b w : Bool} : wantB (.bool b) w = (b == w) := rfl
noncomputable def putK (dst : Option K) (v : V) (t : T V) (d : Dc) (h : Hp) (ks : KS) : Bool := put dst v t fun t' => ks t' d h
theorem putK_some {p : K} {v : V} : putK (some p) v t d h ks = ks (T.ins und v p t) d h := by simp only [putK, put, T.set_eq]
theorem putK_none {v : V} : putK none v t d h ks = ks t d h := rfl
theorem ops_all {dst : Option K} {op : AOp} {l : List AO} : opsRun C (⟨dst, none, op⟩ :: l) t d h ks kp = opRun C op dst t d h (opsK C l ks kp) kp := rfl
theorem wanted_some {p : K} {w : Bool} {y n : Bool} : wanted (some (p, w)) t y n = if wantB (T.get und p t) w = true then y else n := by
  simp only [wanted]
  generalize T.get und p t = v
  cases v with
  | bool b => cases b <;> cases w <;> rfl
  | _ => rfl
theorem ops_some {dst : Option K} {p : K} {w : Bool} {op : AOp} {l : List AO} : opsRun C (⟨dst, some (p, w), op⟩ :: l) t d h ks kp =
    if wantB (T.get und p t) w = true then opRun C op dst t d h (opsK C l ks kp) kp else putK dst und t d h (opsK C l ks kp) := by
  show wanted (some (p, w)) t _ _ = _
  rw [wanted_some]
  rfl
theorem kv_eq {dst : Option K} {v : V} : kv dst t d ks v h = putK dst v t d h ks := rfl
theorem kh_eq {dst : Option K} : kh dst t d ks h = putK dst und t d h ks := rfl
theorem ev_t {p : K} : ev t (.t p) = T.get und p t := rfl
theorem ev_c {v : V} : ev t (.c v) = v := rfl
theorem evs_nil : evs t [] = [] := rfl
theorem evs_cons {x : X} {l : List X} : evs t (x :: l) = ev t x :: evs t l := rfl
theorem evo_none : evo t none = none := rfl
theorem evo_some {x : X} : evo t (some x) = some (ev t x) := rfl
theorem get_ins {a b : Nat} {v : V} : T.get und (K.of a) (T.ins und v (K.of b) t) = if a = b then v else T.get und (K.of a) t := by
  rw [T.get_ins]
  by_cases e : a = b
  · rw [if_pos (by rw [e]), if_pos e]
  · rw [if_neg (fun h => e (K.of_inj h)), if_neg e]

theorem op_mv {x : X} {dst : Option K} : opRun C (.mv x) dst t d h ks kp = kv dst t d ks (ev t x) h := rfl
theorem op_pick {x a b : X} {dst : Option K} : opRun C (.pick x a b) dst t d h ks kp = oPick (ev t x) (ev t a) (ev t b) h (kv dst t d ks) := rfl
theorem op_load1 {x : X} {dst : Option K} : opRun C (.load1 x) dst t d h ks kp = oLoad1 (ev t x) h (kv dst t d ks) := rfl
theorem op_loadN {x : X} {n : Nat} {dst : Option K} : opRun C (.loadN x n) dst t d h ks kp = oLoadN (ev t x) n h (kv dst t d ks) := rfl
theorem op_addOff {x : X} {n : Nat} {dst : Option K} : opRun C (.addOff x n) dst t d h ks kp = oAddOff (ev t x) n h (kv dst t d ks) := rfl
theorem op_ibin {o : IOp} {x y : X} {dst : Option K} : opRun C (.ibin o x y) dst t d h ks kp = oIbin o (ev t x) (ev t y) h (kv dst t d ks) := rfl
theorem op_sbin {o : SOp} {x y : X} {dst : Option K} : opRun C (.sbin o x y) dst t d h ks kp = oSbin o (ev t x) (ev t y) h (kv dst t d ks) := rfl
theorem op_eqv {neg : Bool} {q : EK} {x y : X} {dst : Option K} : opRun C (.eqv neg q x y) dst t d h ks kp = oEq neg q (ev t x) (ev t y) h (kv dst t d ks) := rfl
theorem op_box {x : X} {dst : Option K} : opRun C (.box x) dst t d h ks kp = oBox (ev t x) h (kv dst t d ks) := rfl
theorem op_alloc {z : List V} {dst : Option K} : opRun C (.alloc z) dst t d h ks kp = kv dst t d ks (.ptr (nxt h) 0) (h.upd (nxt h) (.cells z)).bump := by
  show newBlk h (.cells z) (fun b h' => kv dst t d ks (.ptr b 0) h') = _
  rw [newBlk_eq]
theorem op_mk {z : List V} {ps : List (Nat × Nat × X)} {dst : Option K} : opRun C (.mk z ps) dst t d h ks kp = oMk t z ps h (kv dst t d ks) := rfl
theorem op_mkSl {z : List V} {ps : List (Nat × Nat × X)} {n : Nat} {dst : Option K} : opRun C (.mkSl z ps n) dst t d h ks kp = oMkSl t z ps n h (kv dst t d ks) := rfl
theorem op_not {x : X} {dst : Option K} : opRun C (.not x) dst t d h ks kp = oNot (ev t x) h (kv dst t d ks) := rfl
theorem op_neg {x : X} {dst : Option K} : opRun C (.neg x) dst t d h ks kp = oNeg (ev t x) h (kv dst t d ks) := rfl
theorem op_idx {x i : X} {sz : Nat} {dst : Option K} : opRun C (.idx x i sz) dst t d h ks kp = oIdx (ev t x) (ev t i) sz h (kv dst t d ks) := rfl
theorem op_idxA {x i : X} {sz n : Nat} {dst : Option K} : opRun C (.idxA x i sz n) dst t d h ks kp = oIdxA (ev t x) (ev t i) sz n h (kv dst t d ks) := rfl
theorem op_store {a x : X} {n : Nat} {dst : Option K} : opRun C (.store a x n) dst t d h ks kp = oStore (ev t a) (ev t x) n h (kh dst t d ks) := rfl
theorem op_nilchk {x : X} {dst : Option K} : opRun C (.nilchk x) dst t d h ks kp = oNilchk (ev t x) h (kv dst t d ks) := rfl
theorem op_ext {x : X} {i : Nat} {dst : Option K} : opRun C (.ext x i) dst t d h ks kp = oExt (ev t x) i h (kv dst t d ks) := rfl
theorem op_slice {x : X} {a b m : Option X} {sz : Nat} {dst : Option K} : opRun C (.slice x a b m sz) dst t d h ks kp = oSlice (ev t x) (evo t a) (evo t b) (evo t m) sz h (kv dst t d ks) := rfl
theorem op_idxG {x i : X} {sz n : Nat} {agg : Bool} {dst : Option K} : opRun C (.idxG x i sz n agg) dst t d h ks kp = oIdxG (ev t x) (ev t i) sz n agg h (kv dst t d ks) := rfl
theorem op_conv {ik : IntKind} {x : X} {dst : Option K} : opRun C (.conv ik x) dst t d h ks kp = oConv ik (ev t x) h (kv dst t d ks) := rfl
theorem op_fld {x : X} {o n : Nat} {agg : Bool} {dst : Option K} : opRun C (.fld x o n agg) dst t d h ks kp = oFld (ev t x) o n agg h (kv dst t d ks) := rfl
theorem op_mkslice {l cp : X} {z : List V} {by_ : Nat} {dst : Option K} : opRun C (.mkslice l cp z by_) dst t d h ks kp = oMkslice (ev t l) (ev t cp) z by_ h (kv dst t d ks) := rfl
theorem op_len {q : LK} {x : X} {dst : Option K} : opRun C (.len q x) dst t d h ks kp = oLen q (ev t x) h (kv dst t d ks) := rfl
theorem op_app {s x : X} {sz by_ : Nat} {dst : Option K} : opRun C (.app s x sz by_) dst t d h ks kp = oApp (ev t s) (ev t x) sz by_ h (kv dst t d ks) := rfl
theorem op_call {f : Nat} {l : List X} {dst : Option K} : opRun C (.call f l) dst t d h ks kp = C (.fn f) (evs t l) none h (callK dst t d ks kp) := rfl
theorem callEnd_ret {dst : Option K} {v : V} : callEnd dst t d ks kp (.ret v) h = putK dst v t d h ks := rfl

/-! Draws -/
theorem draw_nil : drawRun C [] t d h ks kp = ks t d h := rfl
theorem draw_cons {ops chk : List AO} {hv : Option AO} {l : List Stage} : drawRun C (⟨ops, chk, hv⟩ :: l) t d h ks kp = opsRun C ops t d h (drawK C chk hv l ks kp) failK := by
  simp only [drawRun]
  congr 1
  funext t1 d1 h1
  simp only [drawK]
  cases chkAll t1 h1 chk <;> rfl
theorem drawK_none {chk : List AO} {l : List Stage} : drawK C chk none l ks kp t d h = if chkAll t h chk = true then drawRun C l t d h ks kp else false := rfl
theorem drawK_some {chk : List AO} {o : AO} {l : List Stage} : drawK C chk (some o) l ks kp t d h = if chkAll t h chk = true then opsRun C [o] t d h (stagesK C l ks kp) kp else false := rfl
theorem chkAll_nil : chkAll t h [] = true := rfl
theorem chkAll_cons {o : AO} {l : List AO} : chkAll t h (o :: l) = (chkOp o t h && chkAll t h l) := by
  simp only [chkAll]
  cases chkOp o t h <;> rfl
theorem chk_all {p : K} {op : AOp} : chkOp ⟨some p, none, op⟩ t h = chkVal op t h (T.get und p t) := rfl
theorem chk_some {p q : K} {w : Bool} {op : AOp} : chkOp ⟨some p, some (q, w), op⟩ t h = if wantB (T.get und q t) w = true then chkVal op t h (T.get und p t) else veq 2 und (T.get und p t) := by
  show wanted (some (q, w)) t _ _ = _
  rw [wanted_some]
theorem chk_mv {x : X} {v : V} : chkVal (.mv x) t h v = veq 40 (ev t x) v := rfl
theorem chk_pick {x a b : X} {v : V} : chkVal (.pick x a b) t h v = oPick (ev t x) (ev t a) (ev t b) h (isV v) := rfl
theorem chk_load1 {x : X} {v : V} : chkVal (.load1 x) t h v = oLoad1 (ev t x) h (isV v) := rfl
theorem chk_ibin {o : IOp} {x y : X} {v : V} : chkVal (.ibin o x y) t h v = oIbin o (ev t x) (ev t y) h (isV v) := rfl
theorem chk_idx {x i : X} {sz : Nat} {v : V} : chkVal (.idx x i sz) t h v = oIdx (ev t x) (ev t i) sz h (isV v) := rfl
theorem chk_idxA {x i : X} {sz n : Nat} {v : V} : chkVal (.idxA x i sz n) t h v = oIdxA (ev t x) (ev t i) sz n h (isV v) := rfl
theorem chk_nilchk {x : X} {v : V} : chkVal (.nilchk x) t h v = oNilchk (ev t x) h (isV v) := rfl
theorem chk_ext {x : X} {i : Nat} {v : V} : chkVal (.ext x i) t h v = oExt (ev t x) i h (isV v) := rfl
theorem chk_conv {ik : IntKind} {x : X} {v : V} : chkVal (.conv ik x) t h v = oConv ik (ev t x) h (isV v) := rfl
theorem chk_idxG {x i : X} {sz n : Nat} {agg : Bool} {v : V} : chkVal (.idxG x i sz n agg) t h v = oIdxG (ev t x) (ev t i) sz n agg h (isV v) := rfl
theorem chk_len {q : LK} {x : X} {v : V} : chkVal (.len q x) t h v = oLen q (ev t x) h (isV v) := rfl
theorem chk_not {x : X} {v : V} : chkVal (.not x) t h v = oNot (ev t x) h (isV v) := rfl
theorem veq_int {n : Nat} {ik ik' : IntKind} {a b : Int} : veq (n + 1) (.int ik a) (.int ik' b) = (kEq ik ik' && beqI a b) := by simp only [veq]; cases kEq ik ik' <;> rfl
theorem kEq_refl {ik : IntKind} : kEq ik ik = true := by simp [kEq]
theorem veq_bool {n : Nat} {a b : Bool} : veq (n + 1) (.bool a) (.bool b) = (a == b) := by cases a <;> cases b <;> rfl
theorem veq_ptr {n : Nat} {b : K} {o : Nat} : veq (n + 1) (.ptr b o) (.ptr b o) = true := by simp [veq, K.beq_refl]
theorem veq_sl {n : Nat} {b : K} {o l cp q : Nat} : veq (n + 1) (.sl b o l cp q) (.sl b o l cp q) = true := by simp [veq, K.beq_refl]
theorem veq_nils {n : Nat} : veq (n + 1) .nils .nils = true := rfl
theorem veq_und {n : Nat} : veq (n + 1) und und = true := rfl

/-! Values -/
theorem pick_bool {b : Bool} {x y : V} : oPick (.bool b) x y h c = c (if b = true then x else y) h := by cases b <;> rfl
theorem beqI_ofNat {a b : Nat} : beqI (.ofNat a) (.ofNat b) = decide (a = b) := by
  rw [beqI_eq]
  by_cases e : a = b
  · subst e; simp
  · rw [decide_eq_false e, decide_eq_false (fun e' => e (Int.ofNat.inj e'))]
theorem beqI_self {a : Int} : beqI a a = true := beqI_iff.2 rfl
theorem mkB_eq {b : Bool} : mkB b h c = c (.bool b) h := by cases b <;> rfl
theorem mkI_eq {ik : IntKind} {n : Int} : mkI ik n h c = c (.int ik (wrapI ik n)) h := by unfold mkI; rw [forceI_eq]
theorem wrap_u64 {n : Nat} : wrapI .u64 (.ofNat n) = .ofNat (n % 18446744073709551616) := rfl
theorem wrap_i64 {n : Nat} (hn : n ≤ 9223372036854775807) : wrapI .i64 (.ofNat n) = .ofNat n := by
  simp only [wrapI]
  rw [Nat.ble_eq_true_of_le hn]
theorem ibin_add {ik : IntKind} {a b : Int} (hk : sameK ik ik true = true) : oIbin .add (.int ik a) (.int ik b) h c = c (.int ik (wrapI ik (Int.add a b))) h := by
  cases ik <;> first | exact mkI_eq | cases hk
theorem ibin_sub {ik : IntKind} {a b : Int} (hk : sameK ik ik true = true) : oIbin .sub (.int ik a) (.int ik b) h c = c (.int ik (wrapI ik (Int.sub a b))) h := by
  cases ik <;> first | exact mkI_eq | cases hk
theorem ibin_mul {ik : IntKind} {a b : Int} (hk : sameK ik ik true = true) : oIbin .mul (.int ik a) (.int ik b) h c = c (.int ik (wrapI ik (Int.mul a b))) h := by
  cases ik <;> first | exact mkI_eq | cases hk
theorem sameK_same {ik : IntKind} {x : Bool} (hk : sameK ik ik true = true) : sameK ik ik x = x := by
  cases ik <;> first | rfl | cases hk
theorem ibin_quo {ik : IntKind} {a b : Int} (hk : sameK ik ik true = true) (hb : beqI b 0 = false) : oIbin .quo (.int ik a) (.int ik b) h c = c (.int ik (wrapI ik (Int.tdiv a b))) h := by
  simp only [oIbin, oIbin2, hb, sameK_same hk, mkI_eq]
theorem ibin_rem {ik : IntKind} {a b : Int} (hk : sameK ik ik true = true) (hb : beqI b 0 = false) : oIbin .rem (.int ik a) (.int ik b) h c = c (.int ik (Int.tmod a b)) h := by
  simp only [oIbin, oIbin2, hb, sameK_same hk, forceI_eq]
theorem ibin_eql {ik : IntKind} {a b : Int} (hk : sameK ik ik true = true) : oIbin .eql (.int ik a) (.int ik b) h c = c (.bool (beqI a b)) h := by
  simp only [oIbin, oIbin2, sameK_same hk, mkB_eq]
theorem ibin_neq {ik : IntKind} {a b : Int} (hk : sameK ik ik true = true) : oIbin .neq (.int ik a) (.int ik b) h c = c (.bool (!beqI a b)) h := by
  simp only [oIbin, oIbin2, sameK_same hk, mkB_eq]
theorem ibin_lss {ik : IntKind} {a b : Int} (hk : sameK ik ik true = true) : oIbin .lss (.int ik a) (.int ik b) h c = c (.bool (ltI a b)) h := by
  simp only [oIbin, oIbin2, sameK_same hk, mkB_eq]
theorem ibin_leq {ik : IntKind} {a b : Int} (hk : sameK ik ik true = true) : oIbin .leq (.int ik a) (.int ik b) h c = c (.bool (!ltI b a)) h := by
  simp only [oIbin, oIbin2, sameK_same hk, mkB_eq]
theorem ibin_gtr {ik : IntKind} {a b : Int} (hk : sameK ik ik true = true) : oIbin .gtr (.int ik a) (.int ik b) h c = c (.bool (ltI b a)) h := by
  simp only [oIbin, oIbin2, sameK_same hk, mkB_eq]
theorem ibin_geq {ik : IntKind} {a b : Int} (hk : sameK ik ik true = true) : oIbin .geq (.int ik a) (.int ik b) h c = c (.bool (!ltI a b)) h := by
  simp only [oIbin, oIbin2, sameK_same hk, mkB_eq]
theorem ibin_shr {ik ik' : IntKind} {a b : Nat} : oIbin .shr (.int ik (.ofNat a)) (.int ik' (.ofNat b)) h c = c (.int ik (.ofNat (Nat.div a (Nat.pow 2 (min b ik.bits))))) h := by
  simp only [oIbin, oIbin2, oShr, force_eq]
theorem same_i64 : sameK .i64 .i64 true = true := rfl
theorem same_u64 : sameK .u64 .u64 true = true := rfl
theorem same_u8 : sameK .u8 .u8 true = true := rfl
theorem ib_add_i64 {a b : Int} : oIbin .add (.int .i64 a) (.int .i64 b) h c = c (.int .i64 (wrapI .i64 (Int.add a b))) h := ibin_add same_i64
theorem ib_add_u64 {a b : Int} : oIbin .add (.int .u64 a) (.int .u64 b) h c = c (.int .u64 (wrapI .u64 (Int.add a b))) h := ibin_add same_u64
theorem ib_add_u8 {a b : Int} : oIbin .add (.int .u8 a) (.int .u8 b) h c = c (.int .u8 (wrapI .u8 (Int.add a b))) h := ibin_add same_u8
theorem ib_sub_i64 {a b : Int} : oIbin .sub (.int .i64 a) (.int .i64 b) h c = c (.int .i64 (wrapI .i64 (Int.sub a b))) h := ibin_sub same_i64
theorem ib_sub_u64 {a b : Int} : oIbin .sub (.int .u64 a) (.int .u64 b) h c = c (.int .u64 (wrapI .u64 (Int.sub a b))) h := ibin_sub same_u64
theorem ib_sub_u8 {a b : Int} : oIbin .sub (.int .u8 a) (.int .u8 b) h c = c (.int .u8 (wrapI .u8 (Int.sub a b))) h := ibin_sub same_u8
theorem ib_mul_i64 {a b : Int} : oIbin .mul (.int .i64 a) (.int .i64 b) h c = c (.int .i64 (wrapI .i64 (Int.mul a b))) h := ibin_mul same_i64
theorem ib_mul_u64 {a b : Int} : oIbin .mul (.int .u64 a) (.int .u64 b) h c = c (.int .u64 (wrapI .u64 (Int.mul a b))) h := ibin_mul same_u64
theorem ib_mul_u8 {a b : Int} : oIbin .mul (.int .u8 a) (.int .u8 b) h c = c (.int .u8 (wrapI .u8 (Int.mul a b))) h := ibin_mul same_u8
theorem ib_eql_i64 {a b : Int} : oIbin .eql (.int .i64 a) (.int .i64 b) h c = c (.bool (beqI a b)) h := ibin_eql same_i64
theorem ib_eql_u64 {a b : Int} : oIbin .eql (.int .u64 a) (.int .u64 b) h c = c (.bool (beqI a b)) h := ibin_eql same_u64
theorem ib_eql_u8 {a b : Int} : oIbin .eql (.int .u8 a) (.int .u8 b) h c = c (.bool (beqI a b)) h := ibin_eql same_u8
theorem ib_neq_i64 {a b : Int} : oIbin .neq (.int .i64 a) (.int .i64 b) h c = c (.bool (!beqI a b)) h := ibin_neq same_i64
theorem ib_neq_u64 {a b : Int} : oIbin .neq (.int .u64 a) (.int .u64 b) h c = c (.bool (!beqI a b)) h := ibin_neq same_u64
theorem ib_neq_u8 {a b : Int} : oIbin .neq (.int .u8 a) (.int .u8 b) h c = c (.bool (!beqI a b)) h := ibin_neq same_u8
theorem ib_lss_i64 {a b : Int} : oIbin .lss (.int .i64 a) (.int .i64 b) h c = c (.bool (ltI a b)) h := ibin_lss same_i64
theorem ib_lss_u64 {a b : Int} : oIbin .lss (.int .u64 a) (.int .u64 b) h c = c (.bool (ltI a b)) h := ibin_lss same_u64
theorem ib_lss_u8 {a b : Int} : oIbin .lss (.int .u8 a) (.int .u8 b) h c = c (.bool (ltI a b)) h := ibin_lss same_u8
theorem ib_leq_i64 {a b : Int} : oIbin .leq (.int .i64 a) (.int .i64 b) h c = c (.bool (!ltI b a)) h := ibin_leq same_i64
theorem ib_leq_u64 {a b : Int} : oIbin .leq (.int .u64 a) (.int .u64 b) h c = c (.bool (!ltI b a)) h := ibin_leq same_u64
theorem ib_leq_u8 {a b : Int} : oIbin .leq (.int .u8 a) (.int .u8 b) h c = c (.bool (!ltI b a)) h := ibin_leq same_u8
theorem ib_gtr_i64 {a b : Int} : oIbin .gtr (.int .i64 a) (.int .i64 b) h c = c (.bool (ltI b a)) h := ibin_gtr same_i64
theorem ib_gtr_u64 {a b : Int} : oIbin .gtr (.int .u64 a) (.int .u64 b) h c = c (.bool (ltI b a)) h := ibin_gtr same_u64
theorem ib_gtr_u8 {a b : Int} : oIbin .gtr (.int .u8 a) (.int .u8 b) h c = c (.bool (ltI b a)) h := ibin_gtr same_u8
theorem ib_geq_i64 {a b : Int} : oIbin .geq (.int .i64 a) (.int .i64 b) h c = c (.bool (!ltI a b)) h := ibin_geq same_i64
theorem ib_geq_u64 {a b : Int} : oIbin .geq (.int .u64 a) (.int .u64 b) h c = c (.bool (!ltI a b)) h := ibin_geq same_u64
theorem ib_geq_u8 {a b : Int} : oIbin .geq (.int .u8 a) (.int .u8 b) h c = c (.bool (!ltI a b)) h := ibin_geq same_u8
theorem add_ofNat {a b : Nat} : Int.add (.ofNat a) (.ofNat b) = .ofNat (a + b) := rfl
theorem sub_ofNat {a b : Nat} (hb : b ≤ a) : Int.sub (.ofNat a) (.ofNat b) = .ofNat (a - b) := by
  show ((a : Int) - (b : Int)) = _
  simp only [Int.ofNat_eq_natCast]
  omega
theorem mul_ofNat {a b : Nat} : Int.mul (.ofNat a) (.ofNat b) = .ofNat (a * b) := rfl
theorem tdiv_ofNat {a b : Nat} : Int.tdiv (.ofNat a) (.ofNat b) = .ofNat (a / b) := rfl
theorem tmod_ofNat {a b : Nat} : Int.tmod (.ofNat a) (.ofNat b) = .ofNat (a % b) := rfl
theorem ltI_ofNat {a b : Nat} : ltI (.ofNat a) (.ofNat b) = decide (a < b) := by
  rw [ltI_eq, Bool.eq_iff_iff, decide_eq_true_iff, decide_eq_true_iff]
  exact Int.ofNat_lt
theorem conv_int {ik ik' : IntKind} {n : Int} : oConv ik (.int ik' n) h c = c (.int ik (wrapI ik n)) h := mkI_eq
theorem not_bool {b : Bool} : oNot (.bool b) h c = c (.bool (!b)) h := mkB_eq
theorem nilchk_ptr {b : K} {o : Nat} : oNilchk (.ptr b o) h c = c (.ptr b o) h := rfl
theorem ext_tup0 {x : V} {l : List V} : oExt (.tup (x :: l)) 0 h c = c x h := rfl
theorem ext_tup1 {x y : V} {l : List V} : oExt (.tup (x :: y :: l)) 1 h c = c y h := rfl
theorem ext_tup2 {x y z : V} {l : List V} : oExt (.tup (x :: y :: z :: l)) 2 h c = c z h := rfl
theorem cellsOf_of {b : K} {l : List V} {f : List V → Bool} (hb : blk h b = .cells l) : cellsOf h b f = f l := by unfold cellsOf; rw [hb]
theorem load1_of {b : K} {o : Nat} {l : List V} {v : V} (hb : blk h b = .cells l) (hv : l[o]? = some v) : oLoad1 (.ptr b o) h c = c v h := by
  simp only [oLoad1, cellsOf_of hb]
  clear hb
  induction l generalizing o with
  | nil => simp at hv
  | cons x l ih =>
    cases o with
    | zero => simp at hv; subst hv; rfl
    | succ o => exact ih (by simpa using hv)
theorem cellsV_int {ik : IntKind} {n : Int} {f : List V → Bool} : cellsV (.int ik n) f = f [.int ik n] := rfl
theorem splice_set {x : V} : ∀ {l : List V} {o : Nat} {f : List V → Bool}, o < l.length → splice o l [x] f = f (l.set o x) := by
  intro l
  induction l with
  | nil => intro o f h; simp at h
  | cons y l ih =>
    intro o f h
    cases o with
    | zero => simp [splice, over]
    | succ o => simp only [splice, List.set_cons_succ]; exact ih (by simpa using h)
theorem store1_of {b : K} {o : Nat} {l : List V} {v : V} {f : Hp → Bool} (hb : blk h b = .cells l) (ho : o < l.length) (hv : cellsV v = fun f => f [v]) : oStore (.ptr b o) v 1 h f = f (h.upd b (.cells (l.set o v))) := by
  simp only [oStore, hv, lenIs, cellsOf_of hb, splice_set ho, putBlk_eq]
theorem upd_same {b : K} {x : Blk} : blk (h.upd b x) b = x := by rw [blk_upd, if_pos rfl]
theorem upd_other {b b' : K} {x : Blk} (hne : b' ≠ b) : blk (h.upd b x) b' = blk h b' := by rw [blk_upd, if_neg hne]

/-! Calls -/
theorem call_fn {n f : Nat} {body : ACode} {res : List RV} {args : List V} {cm : Option Md} {kc : KC} (hf : T.get .no (K.of f) E.fn = .fn (some ⟨body, res⟩)) :
    call E L (n + 1) (.fn f) args cm h kc = putArgs args (K.of 0) .l (bodyK (call E L n) L (.mk f none) body cm h (fnEnd (call E L n) L res kc)) := by
  show callFn (call E L n) L E f args cm h kc = _
  unfold callFn
  rw [hf]
  rfl
theorem call_prim {n f : Nat} {g : PrimF} {args : List V} {kc : KC} (hf : T.get .no (K.of f) E.fn = .prim g) :
    call E L (n + 1) (.fn f) args none h kc = g args h fun v h' => kc (.ret v) none h' := by
  show callFn (call E L n) L E f args none h kc = _
  unfold callFn
  rw [hf]
theorem putArgs_nil {i : K} {f : T V → Bool} : putArgs [] i t f = f t := rfl
theorem putArgs_cons {v : V} {l : List V} {i : Nat} {f : T V → Bool} : putArgs (v :: l) (K.of i) t f = putArgs l (K.of (i + 1)) (T.ins und v (K.of i) t) f := by
  simp only [putArgs, T.set_eq, K.of_succ]
theorem fnEnd_ret {res : List RV} {kc : KC} {cm : Option Md} : fnEnd C (L + 1) res kc .ret t (.mk [] cm) h = results [] t h res fun vs => kc (.ret (one vs)) cm h := rfl
theorem fnEnd_normal {res : List RV} {kc : KC} {cm : Option Md} : fnEnd C (L + 1) res kc .normal t (.mk [] cm) h = results [] t h res fun vs => kc (.ret (one vs)) cm h := rfl
theorem res_nil {f : List V → Bool} : results [] t h [] f = f [] := rfl
theorem res_t {p : K} {l : List RV} {f : List V → Bool} : results [] t h (.t p :: l) f = results [] t h l fun vs => f (T.get und p t :: vs) := rfl
theorem res_cell1 {p : K} {l : List RV} {f : List V → Bool} : results [] t h (.cell1 p :: l) f = oLoad1 (T.get und p t) h fun v _ => results [] t h l fun vs => f (v :: vs) := rfl
theorem res_cellN {p : K} {n : Nat} {l : List RV} {f : List V → Bool} : results [] t h (.cellN p n :: l) f = oLoadN (T.get und p t) n h fun v _ => results [] t h l fun vs => f (v :: vs) := rfl
theorem one_nil : one [] = .tup [] := rfl
theorem one_one {v : V} : one [v] = v := rfl
theorem one_two {v w : V} {l : List V} : one (v :: w :: l) = .tup (v :: w :: l) := rfl

end
end Go.AJ

/- More equations of the run: memory, arrays. -/
namespace Go.AJ
open Go

/-- What there was is as it was; there may be more. -/
structure Keeps (h h' : Hp) : Prop where
  nx : (nxt h).num ≤ (nxt h').num
  old : ∀ b, b.num < (nxt h).num → blk h' b = blk h b

theorem Keeps.refl (h : Hp) : Keeps h h := ⟨Nat.le_refl _, fun _ _ => rfl⟩
theorem Keeps.trans {h h1 h2 : Hp} (a : Keeps h h1) (b : Keeps h1 h2) : Keeps h h2 := ⟨Nat.le_trans a.nx b.nx, fun k hk => (b.old k (Nat.lt_of_lt_of_le hk a.nx)).trans (a.old k hk)⟩
theorem Keeps.new {h h' : Hp} (a : Keeps h h') (x : Blk) : Keeps h (h'.upd (nxt h') x).bump := by
  refine ⟨?_, fun b hb => ?_⟩
  · rw [nxt_bump, nxt_upd, K.num_succ]; have := a.nx; omega
  · rw [blk_bump, blk_upd, if_neg (fun e => by subst e; have := a.nx; omega)]; exact a.old b hb
/-- A block that has been made since is written. -/
theorem Keeps.put {h h' : Hp} (a : Keeps h h') {b : K} (hb : (nxt h).num ≤ b.num) (x : Blk) : Keeps h (h'.upd b x) := by
  refine ⟨by rw [nxt_upd]; exact a.nx, fun c hc => ?_⟩
  rw [blk_upd, if_neg (fun e => by subst e; omega)]; exact a.old c hc

theorem K.self_ne_succ (k : K) : (k = k.succ) = False := eq_false fun e => by have := congrArg K.num e; rw [K.num_succ] at this; omega
theorem K.succ_ne_self (k : K) : (k.succ = k) = False := eq_false fun e => by have := congrArg K.num e; rw [K.num_succ] at this; omega
theorem K.self_ne_succ2 (k : K) : (k = k.succ.succ) = False := eq_false fun e => by have := congrArg K.num e; rw [K.num_succ, K.num_succ] at this; omega
theorem K.succ2_ne_self (k : K) : (k.succ.succ = k) = False := eq_false fun e => by have := congrArg K.num e; rw [K.num_succ, K.num_succ] at this; omega
theorem K.succ_eq_succ (a b : K) : (a.succ = b.succ) = (a = b) := propext ⟨fun e => K.num_inj (by have := congrArg K.num e; rw [K.num_succ, K.num_succ] at this; omega), fun e => by rw [e]⟩

theorem bump_upd {h : Hp} {b : K} {x : Blk} : h.bump.upd b x = (h.upd b x).bump := by
  cases h; rfl

theorem T.ins_ins {α : Type} {d x y : α} (k : K) : ∀ t : T α, T.ins d x k (T.ins d y k t) = T.ins d x k t := by
  induction k with
  | h => intro t; cases t <;> rfl
  | o k ih => intro t; cases t <;> simp only [T.ins, ih]
  | i k ih => intro t; cases t <;> simp only [T.ins, ih]

theorem upd_upd {h : Hp} {b : K} {x y : Blk} : (h.upd b x).upd b y = h.upd b y := by
  cases h; simp only [Hp.upd, T.ins_ins]

section
variable {C : CallF} {L : Nat} {fi : FI} {t : T V} {d : Dc} {h : Hp} {k : KE} {E : Env} {c : KV} {ks : KS} {kp : KP}

/-- Reading of a block. -/
def ldB (x : Blk) (o : Nat) (h : Hp) (c : KV) : Bool := match x with
  | .cells l => nth l o fun v => c v h
  | _ => false
def ldN (x : Blk) (o n : Nat) (h : Hp) (c : KV) : Bool := match x with
  | .cells l => takeN n (dropN o l) fun r => c (.agg r) h
  | _ => false
theorem ld_ptr {b : K} {o : Nat} : oLoad1 (.ptr b o) h c = ldB (blk h b) o h c := by
  simp only [oLoad1, cellsOf, ldB]
  cases blk h b <;> rfl
theorem ldN_ptr {b : K} {o n : Nat} : oLoadN (.ptr b o) (n + 1) h c = ldN (blk h b) o (n + 1) h c := by
  simp only [oLoadN, cellsOf, ldN]
  cases blk h b <;> rfl
theorem ldB_0 {x : V} {l : List V} : ldB (.cells (x :: l)) 0 h c = c x h := rfl
theorem ldB_1 {x y : V} {l : List V} : ldB (.cells (x :: y :: l)) 1 h c = c y h := rfl
theorem ldB_2 {x y z : V} {l : List V} : ldB (.cells (x :: y :: z :: l)) 2 h c = c z h := rfl
theorem ldN_2 {x y : V} {l : List V} : ldN (.cells (x :: y :: l)) 0 2 h c = c (.agg [x, y]) h := rfl
/-- Writing. -/
noncomputable def stB (x : Blk) (b : K) (o : Nat) (q : List V) (h : Hp) (f : Hp → Bool) : Bool := match x with
  | .cells l => splice o l q fun l' => f (h.upd b (.cells l'))
  | _ => false
theorem st_int {b : K} {o : Nat} {ik : IntKind} {n : Int} {f : Hp → Bool} : oStore (.ptr b o) (.int ik n) 1 h f = stB (blk h b) b o [.int ik n] h f := by
  simp only [oStore, cellsV, lenIs, cellsOf, stB, putBlk_eq]
  cases blk h b <;> rfl
theorem st_agg2 {b : K} {o : Nat} {x y : V} {f : Hp → Bool} : oStore (.ptr b o) (.agg [x, y]) 2 h f = stB (blk h b) b o [x, y] h f := by
  simp only [oStore, cellsV, lenIs, cellsOf, stB, putBlk_eq]
  cases blk h b <;> rfl
theorem stB_0 {b : K} {x y : V} {l : List V} {f : Hp → Bool} : stB (.cells (x :: l)) b 0 [y] h f = f (h.upd b (.cells (y :: l))) := by
  simp only [stB, splice, over]
theorem stB_2 {b : K} {x y u v : V} {l : List V} {f : Hp → Bool} : stB (.cells (x :: y :: l)) b 0 [u, v] h f = f (h.upd b (.cells (u :: v :: l))) := by
  simp only [stB, splice, over]
theorem box_int {ik : IntKind} {n : Int} : oBox (.int ik n) h c = c (.ptr (nxt h) 0) (h.upd (nxt h) (.cells [.int ik n])).bump := by simp only [oBox, cellsV, newBlk_eq]
theorem box_agg {l : List V} : oBox (.agg l) h c = c (.ptr (nxt h) 0) (h.upd (nxt h) (.cells l)).bump := by simp only [oBox, cellsV, newBlk_eq]
theorem idxA_nat {b : K} {o i sz n : Nat} {ik : IntKind} : oIdxA (.ptr b o) (.int ik (.ofNat i)) sz n h c = if i < n then c (.ptr b (o + i * sz)) h else false := by
  simp only [oIdxA, idxGo, force_eq]
  split
  · rename_i e; rw [if_pos (Nat.blt_eq ▸ e)]
  · rename_i e; rw [if_neg (fun e' => by rw [show Nat.blt i n = true from Nat.blt_eq ▸ e'] at e; cases e)]
theorem idx_nat {b : K} {o i sz n cp p : Nat} {ik : IntKind} : oIdx (.sl b o n cp p) (.int ik (.ofNat i)) sz h c = if i < n then c (.ptr b (o + i * sz)) h else false := by
  simp only [oIdx, idxGo, force_eq]
  split
  · rename_i e; rw [if_pos (Nat.blt_eq ▸ e)]
  · rename_i e; rw [if_neg (fun e' => by rw [show Nat.blt i n = true from Nat.blt_eq ▸ e'] at e; cases e)]
def mk2 (x y a b : V) (h : Hp) (c : KV) : Bool := cellsV x fun q => lenIs q 1 (splice 0 [a, b] q fun z => cellsV y fun q' => lenIs q' 1 (splice 1 z q' fun z' => c (.agg z') h))
theorem mk_2 {a b : V} {x y : X} : oMk t [a, b] [(0, 1, x), (1, 1, y)] h c = mk2 (ev t x) (ev t y) a b h c := rfl
theorem mk2_int {k1 k2 : IntKind} {n1 n2 : Int} {a b : V} : mk2 (.int k1 n1) (.int k2 n2) a b h c = c (.agg [.int k1 n1, .int k2 n2]) h := by
  simp only [mk2, cellsV, lenIs, splice, over]
theorem eq_u64_2 {a b a' b' : Int} : oEq false (.cells [.int, .int]) (.agg [.int .u64 a, .int .u64 b]) (.agg [.int .u64 a', .int .u64 b']) h c = c (.bool (beqI a a' && beqI b b')) h := by
  simp only [oEq, eqK, eqCells, eqCell, sameK]
  cases beqI a a' <;> cases beqI b b' <;> rfl
theorem ib_and_i64 {a b : Nat} (ha : a ≤ 9223372036854775807) (hb : b ≤ 9223372036854775807) : oIbin .and (.int .i64 (.ofNat a)) (.int .i64 (.ofNat b)) h c = c (.int .i64 (.ofNat (Nat.land a b))) h := by
  have hl : Nat.land a b ≤ 9223372036854775807 := Nat.le_trans Nat.and_le_left ha
  simp only [oIbin, oIbin2, sameK, ibits, Nat.ble_eq_true_of_le ha, Nat.ble_eq_true_of_le hb, mkI_eq, wrap_i64 hl]

end
end Go.AJ

/- More equations of the run: slices of whole numbers. -/
namespace Go.AJ
open Go

/-- A row of whole numbers. -/
def ints (l : List Nat) : List V := l.map fun n => .int .i64 (.ofNat n)

theorem ints_length (l : List Nat) : (ints l).length = l.length := by simp [ints]

theorem nth_of {α : Type} {c : α → Bool} : ∀ {l : List α} {i : Nat} {x : α}, l[i]? = some x → nth l i c = c x := by
  intro l
  induction l with
  | nil => intro i x h; simp at h
  | cons y l ih =>
    intro i x h
    cases i with
    | zero => simp at h; subst h; rfl
    | succ i => exact ih (by simpa using h)

/-- The exchange of two places. -/
def swp (l : List Nat) (i k : Nat) : List Nat := (l.set i (l.getD k 0)).set k (l.getD i 0)

theorem swp_length (l : List Nat) (i k : Nat) : (swp l i k).length = l.length := by simp [swp]

section
variable {C : CallF} {L : Nat} {fi : FI} {t : T V} {d : Dc} {h : Hp} {k : KE} {E : Env} {c : KV} {ks : KS} {kp : KP}

theorem ldB_ints {l : List Nat} {i : Nat} (hi : i < l.length) : ldB (.cells (ints l)) i h c = c (.int .i64 (.ofNat (l.getD i 0))) h := by
  simp only [ldB]
  rw [nth_of (x := .int .i64 (.ofNat (l.getD i 0)))]
  simp [ints, List.getD_eq_getElem?_getD, List.getElem?_eq_getElem hi]

theorem stB_ints {l : List Nat} {i v : Nat} {b : K} {f : Hp → Bool} (hi : i < l.length) : stB (.cells (ints l)) b i [.int .i64 (.ofNat v)] h f = f (h.upd b (.cells (ints (l.set i v)))) := by
  simp only [stB]
  rw [splice_set (by rw [ints_length]; exact hi)]
  simp [ints]

theorem rep_ints (n : Nat) : rep n [.int .i64 (.ofNat 0)] = ints (List.replicate n 0) := by
  induction n with
  | zero => rfl
  | succ n ih => simp only [rep, ih, ints, List.replicate_succ, List.map_cons]; rfl

theorem mks_nat {n by_ : Nat} {z : List V} (hb : n * (by_ + 1) ≤ 1000000000) : oMkslice (.int .i64 (.ofNat n)) (.int .i64 (.ofNat n)) z by_ h c = c (.sl (nxt h) 0 n n 0) (h.upd (nxt h) (.cells (rep n z))).bump := by
  simp only [oMkslice, Nat.ble_eq_true_of_le (Nat.le_refl n), Nat.ble_eq_true_of_le hb, newBlk_eq]

def bearB (x : Blk) (l : List V) : Bool := match x with
  | .cells l' => allEq (veq 40) l' l
  | _ => false
theorem bears_def {b : K} {l : List V} : bears h b l = bearB (blk h b) l := by
  simp only [bears, bearB]
  cases blk h b <;> rfl
theorem allEq_ints (l : List Nat) : allEq (veq 40) (ints l) (ints l) = true := by
  induction l with
  | nil => rfl
  | cons x l ih =>
    simp only [ints, List.map_cons, allEq]
    have : veq 40 (.int .i64 (.ofNat x)) (.int .i64 (.ofNat x)) = true := by rw [veq_int, kEq_refl, beqI_self]; rfl
    rw [this]
    exact ih
theorem bear_ints {l : List Nat} : bearB (.cells (ints l)) (ints l) = true := allEq_ints l
theorem bear_int {ik : IntKind} {n : Int} : bearB (.cells [.int ik n]) [.int ik n] = true := by
  simp only [bearB, allEq, veq_int, kEq_refl, beqI_self, Bool.and_self]
theorem chk_alloc {z : List V} {b : K} : chkVal (.alloc z) t h (.ptr b 0) = bears h b z := rfl
theorem chk_mks {n by_ : Nat} {p q : K} {z : List V} {b : K} (hp : T.get und p t = .int .i64 (.ofNat n)) (hq : T.get und q t = .int .i64 (.ofNat n)) (hb : n * (by_ + 1) ≤ 1000000000) :
    chkVal (.mkslice (.t p) (.t q) z by_) t h (.sl b 0 n n 0) = bears h b (rep n z) := by
  simp only [chkVal, ev_t, hp, hq, beqI_self, Nat.ble_eq_true_of_le (Nat.le_refl n), Nat.ble_eq_true_of_le hb]
/-- The check of a slice that was made. -/
noncomputable def mksC (l c : V) (z : List V) (by_ : Nat) (h : Hp) (v : V) : Bool := match v with
  | .sl b o n cp p => (match o with
      | 0 => (match p with
        | 0 => (match l with
          | .int _ l => (match c with
            | .int _ c => (match beqI l (.ofNat n) with
              | true => (match beqI c (.ofNat cp) with
                | true => (match Nat.ble n cp with
                  | true => (match Nat.ble (cp * (by_ + 1)) 1000000000 with
                    | true => bears h b (rep cp z)
                    | false => false)
                  | false => false)
                | false => false)
              | false => false)
            | _ => false)
          | _ => false)
        | _ + 1 => false)
      | _ + 1 => false)
    | _ => false
theorem chk_mkslice {x y : X} {z : List V} {by_ : Nat} {v : V} : chkVal (.mkslice x y z by_) t h v = mksC (ev t x) (ev t y) z by_ h v := rfl
theorem mksC_nat {n by_ : Nat} {z : List V} {b : K} (hb : n * (by_ + 1) ≤ 1000000000) : mksC (.int .i64 (.ofNat n)) (.int .i64 (.ofNat n)) z by_ h (.sl b 0 n n 0) = bears h b (rep n z) := by
  simp only [mksC, beqI_self, Nat.ble_eq_true_of_le (Nat.le_refl n), Nat.ble_eq_true_of_le hb]
theorem len_sl {b : K} {o n cp p : Nat} : oLen .sl (.sl b o n cp p) h c = c (.int .i64 (.ofNat n)) h := rfl
theorem len_nils : oLen .sl .nils h c = c (.int .i64 (.ofNat 0)) h := rfl

end
end Go.AJ

