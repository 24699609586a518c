/- The law over the program. -/
import Derived.Test.YtgdbpnpolelfoaaGreatDoorMe
import Derived.Test.YtgdbpnpolelfoaaGreatDoorGe
import Derived.Test.YtgdbpnpolelfoaaGreatDoorD
import Derived.KernelRfl
set_option linter.all false
namespace Go.AJ
open Go Go.Proofs Go.Proofs.Tryz
set_option maxRecDepth 100000
variable [BN]
noncomputable section
def Xe : Cx := ⟨wZ tyT plz true,zu⟩
theorem Ac1 : POK Tryz.prog Xe := POK.of li kx (fun n h => Nat.eq_of_beq_eq_true h) func308 rfl rfl rfl rfl
def g6 : Eo := AbH [] [] (.bool true)
theorem Acf : CZ Tryz.prog Xe 6 g6 := tx ES Em Aaw m6
abbrev cE (f : Func) : Option AFn := cFn Xe.T Xe.ext f
abbrev Fl (i : Nat) (a : Option AFn) : Prop := FnOK Tryz.prog Xe (K.of i) (.fn a)
theorem fl {i : Nat} {fn : Func} (hf : Tryz.prog.funcs[i]? = some fn) (hn : (fn.name == "runtime.NumGoroutine") = false) : Fl i (cE fn) := FnOK.code rfl hf hn
theorem nm {p : K → K} : ∀ k,FnOK Tryz.prog Xe (p k) (T.get .no k .l) := T.all_l fun _ => FnOK.no _
theorem ny {k : K} : FnOK Tryz.prog Xe k .no := FnOK.no _
abbrev wf (c : Aa) (r : List RV) : FnE := .fn (some ⟨c,r⟩)
theorem fkk {i : Nat} {fn : Func} {c : Aa} {r : List RV} (hf : Tryz.prog.funcs[i]? = some fn) (hn : (fn.name == "runtime.NumGoroutine") = false) (h : cE fn = some ⟨c, r⟩) : FnOK Tryz.prog Xe (K.of i) (wf c r) := by have := fl hf hn; rw [h] at this; exact this
theorem l6 : FnOK Tryz.prog Xe (K.of 6) (.prim g6) := FnOK.prim rfl Acf
def Ada : T FnE := (.n (.n (.n (.n (.n (.n (.n (.n .l (wf AcU Abs) .l) (wf d8 UK) (.n .l (wf AcO Abm) .l)) .no (.n .l (wf vM ro) .l)) (wf wq rS) (.n (.n (.n .l (wf Aan xx) .l) .no (.n .l (wf vh qH) .l)) (wf c62 r62) (.n (.n (.n .l (wf Acx Aa5) .l) .no .l) .no .l))) (wf wz rY) (.n (.n (.n (.n .l (wf jT fu) .l) .no (.n .l (wf vo qO) .l)) .no (.n (.n (.n .l (wf AcE Abc) .l) .no (.n .l (wf Acs Aa1) .l)) .no .l)) (wf wi rN) (.n (.n (.n .l (wf vt qS) .l) (wf AcZ Abx) .l) (wf vX rE) (.n (.n (.n .l (wf vd qD) .l) .no .l) .no .l)))) (wf wB rZ) (.n (.n (.n (.n (.n .l (wf AcQ Abo) .l) .no (.n .l (wf AcK Abi) .l)) .no .l) (wf (TU 24) Rv) (.n (.n (.n .l (wf c70 r70) .l) .no .l) (wf wb rH) (.n (.n (.n .l (wf vg qG) .l) .no .l) .no .l))) (wf (OW 24 50) NG) (.n (.n (.n (.n .l (wf vD rh) .l) .no (.n .l (wf AcT Abr) .l)) .no (.n (.n (.n .l (wf AcA Aa8) .l) .no (.n .l (wf Acv Aa3) .l)) .no .l)) .no (.n (.n .l (wf vO ru) .l) (wf vT rz) .l)))) .no (.n (.n (.n (.n (.n (.n .l (wf AaJ AaB) .l) .no (.n .l (wf AcM Abk) .l)) .no (.n .l (wf vK rm) .l)) (wf wp rR) (.n (.n (.n .l (wf c68 r68) .l) .no .l) (wf wd rJ) (.n (.n (.n .l (wf AcG Abe) .l) .no .l) .no .l))) (wf wy rX) (.n (.n (.n (.n .l (wf vH rj) .l) .no (.n .l (wf vm qM) .l)) .no (.n (.n (.n .l (wf AcC Aba) .l) .no (.n .l (wf Aam xw) .l)) .no .l)) .no (.n (.n (.n .l (wf vq qQ) .l) (wf AcX Abv) .l) (wf vV rB) .l))) .no (.n (.n (.n (.n (.n .l (wf c67 r67) .l) .no .l) .no (.n (.n (.n .l (wf AcH Abf) .l) .no .l) .no .l)) (wf wk rP) (.n (.n (.n .l (wf vw qU) .l) (wf c64 r64) .l) (wf vY rF) (.n (.n (.n .l (wf vf qF) .l) .no .l) .no .l))) (wf ww rU) (.n (.n (.n (.n .l (wf vB qY) .l) .no (.n .l (wf vj qJ) .l)) (wf c31 r31) (.n (.n (.n .l (wf Acy Aa6) .l) .no .l) .no .l)) .no (.n (.n .l (wf vN rq) .l) (wf jU fA) .l))))) .no (.n (.n (.n (.n (.n (.n (.n .l (wf AaK AaC) .l) (wf AaH Aaz) (.n .l (wf AcN Abl) .l)) .no (.n .l (wf vL rn) .l)) (wf jW fC) (.n (.n (.n .l (wf vz qW) .l) .no .l) (wf we rK) (.n (.n (.n .l (wf Acw Aa4) .l) .no .l) .no .l))) (wf c29 r29) (.n (.n (.n (.n (.n (.n .l (wf Acp AaY) .l) .no .l) (wf vJ rk) .l) .no (.n .l (wf vn qN) .l)) .no (.n (.n (.n .l (wf AcD Abb) .l) .no (.n .l (wf Acr Aa0) .l)) .no .l)) (wf wh rM) (.n (.n (.n .l (wf vr qR) .l) (wf AcY Abw) .l) (wf vW rC) (.n (.n (.n .l (wf vc qC) .l) .no .l) .no .l)))) .no (.n (.n (.n (.n .l .no (.n (.n (.n .l (wf Aco AaX) .l) .no .l) (wf AcJ Abh) .l)) .no (.n (.n (.n .l (wf AcI Abg) .l) .no .l) .no .l)) (wf wo rQ) (.n (.n (.n .l (wf vy qV) .l) .no .l) (wf wa rG) .l)) (wf wx rV) (.n (.n (.n (.n .l (wf vC qZ) .l) .no (.n .l (wf vk qK) .l)) .no (.n (.n (.n .l (wf Acz Aa7) .l) .no .l) .no .l)) .no (.n (.n .l (wf d7 UJ) .l) (wf vR ry) .l)))) .no (.n (.n (.n (.n (.n (.n .l (wf AcR Abp) .l) (wf vP rv) (.n .l (wf AcL Abj) .l)) (wf wg rL) (.n .l (wf c63 r63) .l)) (wf (TU 46) Rv) (.n (.n (.n .l (wf c69 r69) .l) .no .l) (wf wc rI) .l)) (wf (OW 46 49) NG) (.n (.n (.n (.n .l (wf vG ri) .l) .no (.n .l (wf vl qL) .l)) .no (.n (.n (.n .l (wf AcB Aa9) .l) .no (.n .l (wf Aal xq) .l)) .no .l)) (wf AaI AaA) (.n (.n .l (wf AcW Abu) .l) (wf vU rA) .l))) (.prim g6) (.n (.n (.n (.n (.n (.n (.n .l (wf Acq AaZ) .l) .no .l) (wf c30 r30) .l) .no (.n .l (wf vp qP) .l)) .no (.n (.n (.n .l (wf AcF Abd) .l) .no (.n .l (wf Acu Aa2) .l)) .no .l)) (wf wj rO) (.n (.n (.n .l (wf vu qT) .l) (wf c99 r99) .l) (wf jV fB) (.n (.n (.n .l (wf ve qE) .l) .no .l) .no .l))) (wf wu rT) (.n (.n (.n (.n .l (wf vA qX) .l) .no (.n .l (wf vi qI) .l)) (wf c61 r61) (.n (.n (.n .l (wf AcS Abq) .l) .no .l) .no .l)) .no (.n (.n .l (wf c34 r34) .l) (wf vQ rx) (.n (.n .l (wf AcP Abn) .l) (wf AcV Abt) .l)))))))
def EzL : Env := ⟨Ada⟩
theorem uf : ∀ k,FnOK Tryz.prog Xe k (T.get .no k Ada) := (T.all_n (T.all_n (T.all_n (T.all_n (T.all_n (T.all_n (T.all_n (T.all_n nm (fkk func127 rfl (by kernel_rfl)) nm) (fkk func63 rfl (by kernel_rfl)) (T.all_n nm (fkk func191 rfl (by kernel_rfl)) nm)) ny (T.all_n nm (fkk func95 rfl (by kernel_rfl)) nm)) (fkk func15 rfl (by kernel_rfl)) (T.all_n (T.all_n (T.all_n nm (fkk func143 rfl (by kernel_rfl)) nm) ny (T.all_n nm (fkk func207 rfl (by kernel_rfl)) nm)) (fkk func47 rfl (by kernel_rfl)) (T.all_n (T.all_n (T.all_n nm (fkk func303 rfl (by kernel_rfl)) nm) ny nm) ny nm))) (fkk func7 rfl (by kernel_rfl)) (T.all_n (T.all_n (T.all_n (T.all_n nm (fkk func135 rfl (by kernel_rfl)) nm) ny (T.all_n nm (fkk func199 rfl (by kernel_rfl)) nm)) ny (T.all_n (T.all_n (T.all_n nm (fkk func295 rfl (by kernel_rfl)) nm) ny (T.all_n nm (fkk func423 rfl (by kernel_rfl)) nm)) ny nm)) (fkk func23 rfl (by kernel_rfl)) (T.all_n (T.all_n (T.all_n nm (fkk func151 rfl (by kernel_rfl)) nm) (fkk func87 rfl (by kernel_rfl)) nm) (fkk func55 rfl (by kernel_rfl)) (T.all_n (T.all_n (T.all_n nm (fkk func311 rfl (by kernel_rfl)) nm) ny nm) ny nm)))) (fkk func3 rfl (by kernel_rfl)) (T.all_n (T.all_n (T.all_n (T.all_n (T.all_n nm (fkk func131 rfl (by kernel_rfl)) nm) ny (T.all_n nm (fkk func195 rfl (by kernel_rfl)) nm)) ny nm) (fkk func19 rfl (by kernel_rfl)) (T.all_n (T.all_n (T.all_n nm (fkk func147 rfl (by kernel_rfl)) nm) ny nm) (fkk func51 rfl (by kernel_rfl)) (T.all_n (T.all_n (T.all_n nm (fkk func307 rfl (by kernel_rfl)) nm) ny nm) ny nm))) (fkk func11 rfl (by kernel_rfl)) (T.all_n (T.all_n (T.all_n (T.all_n nm (fkk func139 rfl (by kernel_rfl)) nm) ny (T.all_n nm (fkk func203 rfl (by kernel_rfl)) nm)) ny (T.all_n (T.all_n (T.all_n nm (fkk func299 rfl (by kernel_rfl)) nm) ny (T.all_n nm (fkk func427 rfl (by kernel_rfl)) nm)) ny nm)) ny (T.all_n (T.all_n nm (fkk func91 rfl (by kernel_rfl)) nm) (fkk func59 rfl (by kernel_rfl)) nm)))) ny (T.all_n (T.all_n (T.all_n (T.all_n (T.all_n (T.all_n nm (fkk func129 rfl (by kernel_rfl)) nm) ny (T.all_n nm (fkk func193 rfl (by kernel_rfl)) nm)) ny (T.all_n nm (fkk func97 rfl (by kernel_rfl)) nm)) (fkk func17 rfl (by kernel_rfl)) (T.all_n (T.all_n (T.all_n nm (fkk func145 rfl (by kernel_rfl)) nm) ny nm) (fkk func49 rfl (by kernel_rfl)) (T.all_n (T.all_n (T.all_n nm (fkk func305 rfl (by kernel_rfl)) nm) ny nm) ny nm))) (fkk func9 rfl (by kernel_rfl)) (T.all_n (T.all_n (T.all_n (T.all_n nm (fkk func137 rfl (by kernel_rfl)) nm) ny (T.all_n nm (fkk func201 rfl (by kernel_rfl)) nm)) ny (T.all_n (T.all_n (T.all_n nm (fkk func297 rfl (by kernel_rfl)) nm) ny (T.all_n nm (fkk func425 rfl (by kernel_rfl)) nm)) ny nm)) ny (T.all_n (T.all_n (T.all_n nm (fkk func153 rfl (by kernel_rfl)) nm) (fkk func89 rfl (by kernel_rfl)) nm) (fkk func57 rfl (by kernel_rfl)) nm))) ny (T.all_n (T.all_n (T.all_n (T.all_n (T.all_n nm (fkk func133 rfl (by kernel_rfl)) nm) ny nm) ny (T.all_n (T.all_n (T.all_n nm (fkk func293 rfl (by kernel_rfl)) nm) ny nm) ny nm)) (fkk func21 rfl (by kernel_rfl)) (T.all_n (T.all_n (T.all_n nm (fkk func149 rfl (by kernel_rfl)) nm) (fkk func85 rfl (by kernel_rfl)) nm) (fkk func53 rfl (by kernel_rfl)) (T.all_n (T.all_n (T.all_n nm (fkk func309 rfl (by kernel_rfl)) nm) ny nm) ny nm))) (fkk func13 rfl (by kernel_rfl)) (T.all_n (T.all_n (T.all_n (T.all_n nm (fkk func141 rfl (by kernel_rfl)) nm) ny (T.all_n nm (fkk func205 rfl (by kernel_rfl)) nm)) (fkk func45 rfl (by kernel_rfl)) (T.all_n (T.all_n (T.all_n nm (fkk func301 rfl (by kernel_rfl)) nm) ny nm) ny nm)) ny (T.all_n (T.all_n nm (fkk func93 rfl (by kernel_rfl)) nm) (fkk func61 rfl (by kernel_rfl)) nm))))) ny (T.all_n (T.all_n (T.all_n (T.all_n (T.all_n (T.all_n (T.all_n nm (fkk func128 rfl (by kernel_rfl)) nm) (fkk func64 rfl (by kernel_rfl)) (T.all_n nm (fkk func192 rfl (by kernel_rfl)) nm)) ny (T.all_n nm (fkk func96 rfl (by kernel_rfl)) nm)) (fkk func16 rfl (by kernel_rfl)) (T.all_n (T.all_n (T.all_n nm (fkk func144 rfl (by kernel_rfl)) nm) ny nm) (fkk func48 rfl (by kernel_rfl)) (T.all_n (T.all_n (T.all_n nm (fkk func304 rfl (by kernel_rfl)) nm) ny nm) ny nm))) (fkk func8 rfl (by kernel_rfl)) (T.all_n (T.all_n (T.all_n (T.all_n (T.all_n (T.all_n nm (fkk func520 rfl (by kernel_rfl)) nm) ny nm) (fkk func136 rfl (by kernel_rfl)) nm) ny (T.all_n nm (fkk func200 rfl (by kernel_rfl)) nm)) ny (T.all_n (T.all_n (T.all_n nm (fkk func296 rfl (by kernel_rfl)) nm) ny (T.all_n nm (fkk func424 rfl (by kernel_rfl)) nm)) ny nm)) (fkk func24 rfl (by kernel_rfl)) (T.all_n (T.all_n (T.all_n nm (fkk func152 rfl (by kernel_rfl)) nm) (fkk func88 rfl (by kernel_rfl)) nm) (fkk func56 rfl (by kernel_rfl)) (T.all_n (T.all_n (T.all_n nm (fkk func312 rfl (by kernel_rfl)) nm) ny nm) ny nm)))) ny (T.all_n (T.all_n (T.all_n (T.all_n nm ny (T.all_n (T.all_n (T.all_n nm (fkk func580 rfl (by kernel_rfl)) nm) ny nm) (fkk func196 rfl (by kernel_rfl)) nm)) ny (T.all_n (T.all_n (T.all_n nm (fkk func292 rfl (by kernel_rfl)) nm) ny nm) ny nm)) (fkk func20 rfl (by kernel_rfl)) (T.all_n (T.all_n (T.all_n nm (fkk func148 rfl (by kernel_rfl)) nm) ny nm) (fkk func52 rfl (by kernel_rfl)) nm)) (fkk func12 rfl (by kernel_rfl)) (T.all_n (T.all_n (T.all_n (T.all_n nm (fkk func140 rfl (by kernel_rfl)) nm) ny (T.all_n nm (fkk func204 rfl (by kernel_rfl)) nm)) ny (T.all_n (T.all_n (T.all_n nm (fkk func300 rfl (by kernel_rfl)) nm) ny nm) ny nm)) ny (T.all_n (T.all_n nm (fkk func92 rfl (by kernel_rfl)) nm) (fkk func60 rfl (by kernel_rfl)) nm)))) ny (T.all_n (T.all_n (T.all_n (T.all_n (T.all_n (T.all_n nm (fkk func130 rfl (by kernel_rfl)) nm) (fkk func66 rfl (by kernel_rfl)) (T.all_n nm (fkk func194 rfl (by kernel_rfl)) nm)) (fkk func34 rfl (by kernel_rfl)) (T.all_n nm (fkk func98 rfl (by kernel_rfl)) nm)) (fkk func18 rfl (by kernel_rfl)) (T.all_n (T.all_n (T.all_n nm (fkk func146 rfl (by kernel_rfl)) nm) ny nm) (fkk func50 rfl (by kernel_rfl)) nm)) (fkk func10 rfl (by kernel_rfl)) (T.all_n (T.all_n (T.all_n (T.all_n nm (fkk func138 rfl (by kernel_rfl)) nm) ny (T.all_n nm (fkk func202 rfl (by kernel_rfl)) nm)) ny (T.all_n (T.all_n (T.all_n nm (fkk func298 rfl (by kernel_rfl)) nm) ny (T.all_n nm (fkk func426 rfl (by kernel_rfl)) nm)) ny nm)) (fkk func26 rfl (by kernel_rfl)) (T.all_n (T.all_n nm (fkk func90 rfl (by kernel_rfl)) nm) (fkk func58 rfl (by kernel_rfl)) nm))) l6 (T.all_n (T.all_n (T.all_n (T.all_n (T.all_n (T.all_n (T.all_n nm (fkk func518 rfl (by kernel_rfl)) nm) ny nm) (fkk func134 rfl (by kernel_rfl)) nm) ny (T.all_n nm (fkk func198 rfl (by kernel_rfl)) nm)) ny (T.all_n (T.all_n (T.all_n nm (fkk func294 rfl (by kernel_rfl)) nm) ny (T.all_n nm (fkk func422 rfl (by kernel_rfl)) nm)) ny nm)) (fkk func22 rfl (by kernel_rfl)) (T.all_n (T.all_n (T.all_n nm (fkk func150 rfl (by kernel_rfl)) nm) (fkk func86 rfl (by kernel_rfl)) nm) (fkk func54 rfl (by kernel_rfl)) (T.all_n (T.all_n (T.all_n nm (fkk func310 rfl (by kernel_rfl)) nm) ny nm) ny nm))) (fkk func14 rfl (by kernel_rfl)) (T.all_n (T.all_n (T.all_n (T.all_n nm (fkk func142 rfl (by kernel_rfl)) nm) ny (T.all_n nm (fkk func206 rfl (by kernel_rfl)) nm)) (fkk func46 rfl (by kernel_rfl)) (T.all_n (T.all_n (T.all_n nm (fkk func302 rfl (by kernel_rfl)) nm) ny nm) ny nm)) ny (T.all_n (T.all_n nm (fkk func94 rfl (by kernel_rfl)) nm) (fkk func62 rfl (by kernel_rfl)) (T.all_n (T.all_n nm (fkk func190 rfl (by kernel_rfl)) nm) (fkk func126 rfl (by kernel_rfl)) nm)))))))
theorem Aav : DB Tryz.prog Xe EzL := DB.of uf
theorem fns : Fns EzL where
  f31 := rfl
  f64 := rfl
  f104 := rfl
  f105 := rfl
  f163 := rfl
  f164 := rfl
  f282 := rfl
  f283 := rfl
  f106 := rfl
  f29 := rfl
  f61 := rfl
  f62 := rfl
  f30 := rfl
  f63 := rfl
  f67 := rfl
  f68 := rfl
  f69 := rfl
  f117 := rfl
  f70 := rfl
  f34 := rfl
  f99 := rfl
  f159 := rfl
  f100 := rfl
  f101 := rfl
  f160 := rfl
  f276 := rfl
  f424 := rfl
  f277 := rfl
  f425 := rfl
  f426 := rfl
  f278 := rfl
  f427 := rfl
  f567 := rfl
  f313 := rfl
  f453 := rfl
  f428 := rfl
  f429 := rfl
  f430 := rfl
  f568 := rfl
  f569 := rfl
  f102 := rfl
  f103 := rfl
  f161 := rfl
  f158 := rfl
  f279 := rfl
  f397 := rfl
  f543 := rfl
  f280 := rfl
  f431 := rfl
  f432 := rfl
  f433 := rfl
  f570 := rfl
  f571 := rfl
  f685 := rfl
  f761 := rfl
  f683 := rfl
theorem hns : Hns EzL where
  f1007 := rfl
  f1024 := rfl
  f1066 := rfl
  f1061 := rfl
  f1062 := rfl
  f1063 := rfl
  f1097 := rfl
  f1095 := rfl
  f1096 := rfl
  f1148 := rfl
  f1149 := rfl
  f1150 := rfl
  f1151 := rfl
  f1152 := rfl
  f1153 := rfl
  f1204 := rfl
  f1205 := rfl
  f1206 := rfl
  f1207 := rfl
  f1309 := rfl
  f1310 := rfl
  f1311 := rfl
  f1312 := rfl
theorem sns : Sns EzL where
  f1016 := rfl
  f1052 := rfl
  f1053 := rfl
  f1054 := rfl
  f1093 := rfl
  f1092 := rfl
  f1143 := rfl
  f1144 := rfl
  f1135 := rfl
  f1136 := rfl
  f1137 := rfl
  f1138 := rfl
  f1139 := rfl
  f1140 := rfl
  f1141 := rfl
  f1142 := rfl
  f1198 := rfl
  f1199 := rfl
  f1200 := rfl
  f1201 := rfl
  f1202 := rfl
  f1307 := rfl
theorem gns : Gns EzL where
  f1003 := rfl
  f1009 := rfl
  f1010 := rfl
  f1011 := rfl
  f1012 := rfl
  f1013 := rfl
  f1014 := rfl
  f1015 := rfl
  f1017 := rfl
  f1018 := rfl
  f1019 := rfl
  f1020 := rfl
  f1021 := rfl
  f1022 := rfl
  f1023 := rfl
  f1034 := rfl
  f1048 := rfl
  f1049 := rfl
  f1050 := rfl
  f1051 := rfl
  f1055 := rfl
  f1056 := rfl
  f1057 := rfl
  f1058 := rfl
  f1059 := rfl
  f1060 := rfl
  f1091 := rfl
theorem xl : qb EzL := fun {L n h kc} => Nb (f := 6) (g := g6) rfl
end
end Go.AJ
namespace Go.AJ
open Go Go.Proofs
set_option maxRecDepth 100000

theorem gty : GTy Tryz.prog 3 4 9 60 57 23 58 22 45 24 26 where
  i := Tryz.underlying3
  b := Tryz.underlying4
  s := Tryz.underlying9
  v := ⟨_, Tryz.underlying60, by kernel_rfl⟩
  n := ⟨_, Tryz.underlying57, by kernel_rfl⟩
  is := Tryz.underlying23
  vs := Tryz.underlying58
  ss := Tryz.underlying22
  e := ⟨_, Tryz.underlying45, by kernel_rfl⟩
  es := Tryz.underlying24
  g := ⟨_, Tryz.underlying26, by kernel_rfl⟩
  cI := by kernel_rfl
  cB := by kernel_rfl
  cS := by kernel_rfl
  cV := by kernel_rfl
  cIn := by kernel_rfl
  cIs := by kernel_rfl
  cVs := by kernel_rfl
  cSs := by kernel_rfl
  cE := by kernel_rfl
  cEs := by kernel_rfl
  cG := by kernel_rfl

theorem qr {b : Bool} {c : Nat} {l : List V} {n : Nat} : (slR b c l n).one = true := by
  unfold slR
  split <;> rfl
theorem Gr.one (g : Gr) : ∀ v ∈ g.cells, v.one = true := by
  intro v hv
  simp only [Gr.cells, List.mem_cons, List.not_mem_nil, or_false] at hv
  rcases hv with rfl | rfl | rfl <;> exact qr

theorem graphs_calls {H : Type} {enc : TypeId × Value → H} {W : World} {sp : Nat → Bool} {held : Bool} {f1 f2 f3 f4 f5 : Nat} {v1 v2 v3 v4 v5 : Value} {d1 d2 d3 d4 d5 : DataW H} {p1 p2 p3 p4 p5 : List MemPlace} (h1 : DataW.trod enc Tryz.prog W 0 sp held f1 26 v1.cells.toList = some (d1, p1)) (h2 : DataW.trod enc Tryz.prog W 0 sp held f2 26 v2.cells.toList = some (d2, p2)) (h3 : DataW.trod enc Tryz.prog W 0 sp held f3 3 [v3] = some (d3, p3)) (h4 : DataW.trod enc Tryz.prog W 0 sp held f4 23 [v4] = some (d4, p4)) (h5 : DataW.trod enc Tryz.prog W 0 sp held f5 23 [v5] = some (d5, p5)) (hb : bulkD d1 ≤ 8000000) (hb2 : bulkD d2 ≤ 8000000) (hb4 : bulkD d4 ≤ 20000000) (hb5 : bulkD d5 ≤ 20000000) :
    Calls Tryz.prog 3 #[v1, v2, v3, v4, v5] W fun r w' => r = .returned (.bool true) ∧ W.heap.size ≤ w'.heap.size ∧ (∀ i, i < W.heap.size → w'.heap[i]? = W.heap[i]?) ∧ w'.os = W.os ∧ w'.tape = W.tape ∧ w'.output = W.output := by
  letI : BN := ⟨W⟩
  obtain ⟨g, hg, hgb, hsc⟩ := JF (ρ := fun _ => none) gty (show DataW.trod enc Tryz.prog BN.w0 0 sp held f1 26 v1.cells.toList = some (d1, p1) from h1)
  obtain ⟨q, hq, hqb, hqsc⟩ := JF (ρ := fun _ => none) gty (show DataW.trod enc Tryz.prog BN.w0 0 sp held f2 26 v2.cells.toList = some (d2, p2) from h2)
  have h3l : v1.cells.toList.length = 3 := by rw [← hg.length]; exact g.cells_length
  obtain ⟨a, rfl⟩ : ∃ a, v1 = .agg a := by
    cases v1 with
    | agg a => exact ⟨a, rfl⟩
    | _ => cases h3l
  have h3q : v2.cells.toList.length = 3 := by rw [← hq.length]; exact q.cells_length
  obtain ⟨a2, rfl⟩ : ∃ a, v2 = .agg a := by
    cases v2 with
    | agg a => exact ⟨a, rfl⟩
    | _ => cases h3q
  obtain ⟨f3, rfl⟩ : ∃ m, f3 = m + 1 := by
    cases f3 with
    | zero => cases h3
    | succ m => exact ⟨m, rfl⟩
  obtain ⟨f4, rfl⟩ : ∃ m, f4 = m + 1 := by
    cases f4 with
    | zero => cases h4
    | succ m => exact ⟨m, rfl⟩
  obtain ⟨f5, rfl⟩ : ∃ m, f5 = m + 1 := by
    cases f5 with
    | zero => cases h5
    | succ m => exact ⟨m, rfl⟩
  obtain ⟨to, rfl⟩ := E8 (t := 3) Tryz.underlying3 (show DataW.trod enc Tryz.prog BN.w0 0 sp held (f3 + 1) 3 [v3] = some (d3, p3) from h3)
  obtain ⟨fb, fc, f, hf, hfl⟩ := F7 (ρ := fun _ => none) gty (show DataW.trod enc Tryz.prog BN.w0 0 sp held (f4 + 1) 23 [v4] = some (d4, p4) from h4)
  obtain ⟨sb, sc, s, hs, hsl⟩ := F7 (ρ := fun _ => none) gty (show DataW.trod enc Tryz.prog BN.w0 0 sp held (f5 + 1) 23 [v5] = some (d5, p5) from h5)
  have hgb2 : g.states.length + BH g.states + g.init.length + 2 * g.edges.length ≤ 8000000 := Nat.le_trans hgb hb
  have hrun : call EzL (20000000 + 8) (70000000 + 9) (.fn 3) [.agg g.cells, .agg q.cells, .int .i64 to, slR fb fc (AH f) f.length, slR sb sc (AH s) s.length] none (.mk .l .h) (Aay fun v _ => isT v) = true :=
    law3 fns hns gns sns xl (by decide) (by decide) (D := 20000000) (by omega) (by decide) (fun s hs => by have := GK s.l; have := Dn hs; omega) hsc (by omega) (by omega) (by omega) (by omega) (by omega) (by omega) (fun _ _ => rfl)
  have hv : VR (fun _ => none) (.agg g.cells) (.agg a) := .agg _ _ hg g.one
  have hv2 : VR (fun _ => none) (.agg q.cells) (.agg a2) := .agg _ _ hq q.one
  intro cs
  obtain ⟨e, w', fr, ⟨v, h', ρ', v', hg, rfl, hv, H, E⟩, hc⟩ := TT Ac1 Em Aav _ _ hrun HR.empty (.cons _ _ _ _ hv (.cons _ _ _ _ hv2 (.cons _ _ _ _ (.int _ _) (.cons _ _ _ _ hf (.cons _ _ _ _ hs .nil))))) cs
  refine ⟨_, w', fr, ⟨?_, E.size, H.bas, E.os, E.tape, E.out⟩, hc⟩
  cases hv <;> simp_all [isT]
end Go.AJ
