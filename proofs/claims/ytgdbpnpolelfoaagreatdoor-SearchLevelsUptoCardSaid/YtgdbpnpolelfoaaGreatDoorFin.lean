/- SearchLevels: for every graph of bulk at most 1048576 the law returns true, and the argument reads afterwards as it read before; the package-level variables that its code names are tied to the program's text. No condition of our own. -/
import Derived.Test.YtgdbpnpolelfoaaGreatDoorCards
import Derived.Test.YtgdbpnpolelfoaaGreatDoorCloFacts
import Derived.Test.YtgdbpnpolelfoaaGreatDoorLev
import Derived.Test.YtgdbpnpolelfoaaGreatDoorTiedB
import Derived.Test.YtgdbpnpolelfoaaGreatDoorGlob
import Derived.WalkKit
import Derived.ProofKit
import Derived.OpenShut
import Derived.ReadAgain
import Derived.Deep.DeepHandedRow
namespace Go.Proofs.YtgdbpnpolelfoaaGreatDoor.searchLevels
open Go Go.ChangeShapes Go.WideShapes Go.ChangeAt Go.RowKit Go.TF
set_option maxRecDepth 100000

mutual
theorem bulkD_le {H : Type} : ∀ d : DataW H, Go.AJ.bulkD d ≤ Rows.uptoBulk d
  | .lit l => by cases l <;> simp [Go.AJ.bulkD, Rows.uptoBulk]
  | .nil => by simp [Go.AJ.bulkD, Rows.uptoBulk]
  | .ptr d => by simp [Go.AJ.bulkD, Rows.uptoBulk]
  | .slice es sp => by
    have h := bulkDs_le es
    simp only [Go.AJ.bulkD, Rows.uptoBulk]
    omega
  | .agg ps => by
    have h := bulkDs_le ps
    simp only [Go.AJ.bulkD, Rows.uptoBulk]
    omega
  | .iface _ d => by simp [Go.AJ.bulkD, Rows.uptoBulk]
  | .map es => by simp [Go.AJ.bulkD, Rows.uptoBulk]
  | .held h => by simp [Go.AJ.bulkD, Rows.uptoBulk]
theorem bulkDs_le {H : Type} : ∀ l : List (DataW H), Go.AJ.bulkD.bulkDs l ≤ Rows.uptoBulkAll l
  | [] => by simp [Go.AJ.bulkD.bulkDs, Rows.uptoBulkAll]
  | d :: r => by
    have h1 := bulkD_le d
    have h2 := bulkDs_le r
    simp only [Go.AJ.bulkD.bulkDs, Rows.uptoBulkAll]
    omega
end

theorem own : ownKnob Tryz.prog.godebug = none := by kernel_rfl
theorem noInit : Tryz.prog.inits.idxOf? 5 = none := by kernel_rfl
theorem named : Tryz.prog.funcNamed Rows.searchLevelsUptoRow.func = some 5 := named5
theorem k1 : Rows.searchLevelsUptoRow.wf ((Rows.OpenSpec.upto Rows.searchLevelsSpec)) = true := by kernel_rfl

theorem k4 : Tryz.f5.params.all (Tryz.prog.readableRec ·) = true := by kernel_rfl
theorem k5 : namedTie Tryz.prog Rows.searchLevelsUptoRow.named Rows.searchLevelsSpec.vars = true := by kernel_rfl
theorem k6 : (Rows.searchLevelsUptoRow.stops == []) = true := by kernel_rfl
theorem k8 : (Rows.searchLevelsUptoRow.knobs == []) = true := by kernel_rfl
theorem k14 : (Rows.searchLevelsUptoRow.maps == (Tryz.f5.params.toList ++ Rows.searchLevelsSpec.plain.varTypes Tryz.prog).any (Tryz.prog.mapsRec ·)) = true := by kernel_rfl
theorem k15 : (Rows.searchLevelsUptoRow.ifaces == (Tryz.f5.params.toList ++ Rows.searchLevelsSpec.plain.varTypes Tryz.prog).any (Tryz.prog.ifacesRec ·)) = true := by kernel_rfl
theorem k16 : (Rows.searchLevelsUptoRow.mapsOut == Tryz.prog.mapsAmong Tryz.f5.resultTypes.toList) = true := by kernel_rfl
theorem k17 : (Rows.searchLevelsUptoRow.loops == (Tryz.f5.params.toList ++ Rows.searchLevelsSpec.plain.varTypes Tryz.prog).any (Tryz.prog.loopsFrom ·)) = true := by kernel_rfl
theorem k18 : (Rows.searchLevelsUptoRow.wideKeys == (Tryz.f5.params.toList ++ Rows.searchLevelsSpec.plain.varTypes Tryz.prog ++ Tryz.f5.resultTypes.toList).any (Tryz.prog.wideKeysFrom ·)) = true := by kernel_rfl
theorem k19 : Rows.searchLevelsSpec.vars.all (Tryz.prog.varReadable ·) = true := by kernel_rfl
theorem k20 : Tryz.f5.resultTypes.all (fun t => Tryz.prog.readableRec t && decide (t < Tryz.prog.types.size)) = true := by kernel_rfl
theorem k21 : (Rows.searchLevelsUptoRow.ifacesOut == Tryz.f5.resultTypes.toList.any (Tryz.prog.ifacesRec ·)) = true := by kernel_rfl
theorem k22 : (Rows.searchLevelsUptoRow.loopsOut == Tryz.f5.resultTypes.toList.any (Tryz.prog.loopsFrom ·)) = true := by kernel_rfl
theorem k23 : (Rows.searchLevelsUptoRow.plainKeys == Tryz.prog.plainKeys) = true := by kernel_rfl
theorem k24 : Rows.searchLevelsUptoRow.shortTexts.isNone = true := by kernel_rfl
theorem k27 : (Rows.searchLevelsUptoRow.lifted == Tryz.prog.liftsFinal) = true := by kernel_rfl
theorem k28 : (Tryz.prog.make == some Rows.searchLevelsUptoRow.make) = true := by kernel_rfl
theorem k29 : (Rows.searchLevelsUptoRow.kinds == (if Rows.searchLevelsUptoRow.domain.isEmpty then [] else Tryz.f5.params.toList.map fun t => match Tryz.prog.underlying t with | some (.int k) => some k | _ => none)) = true := by kernel_rfl
theorem k30 : (Rows.searchLevelsUptoRow.pinned == Rows.searchLevelsUptoRow.pinnedBy) = true := by kernel_rfl
theorem k31 : (Rows.searchLevelsUptoRow.veiled == (Tryz.f5.params.toList ++ Rows.searchLevelsSpec.plain.varTypes Tryz.prog ++ Tryz.f5.resultTypes.toList).any (Tryz.prog.veiledRec ·)) = true := by kernel_rfl
theorem k32 : Rows.searchLevelsUptoRow.veiledFits Tryz.prog Tryz.f5.params.toList (Tryz.f5.params.toList ++ Rows.searchLevelsSpec.plain.varTypes Tryz.prog ++ Tryz.f5.resultTypes.toList) = true := by kernel_rfl
theorem k10 : (Rows.searchLevelsUptoRow.inPlace == Tryz.prog.inPlace 5) = true := by rw [inPlace5]; kernel_rfl
theorem k11 : (Rows.searchLevelsUptoRow.unfollowed == Tryz.prog.unfollowed 5) = true := by rw [unfollowed5]; rfl
theorem k12 : (Rows.searchLevelsUptoRow.recurses == Tryz.prog.recurses 5) = true := by rw [recurses5]; rfl
theorem k13 : (Rows.searchLevelsUptoRow.named == Tryz.prog.varsNamed 5) = true := by rw [varsNamed5]; kernel_rfl
theorem facts : joinedFacts Tryz.prog 5 Tryz.f5 Rows.searchLevelsSpec Rows.searchLevelsUptoRow = true := by
  unfold joinedFacts
  exact (both (both (both (both (both (both (both (both (both (both (both (both (both (both (both (both (both (both (both (both (both (both (both (both (both (both (both (both (both (both (both k1 glaid) gmaps) k4) k5) k6) gstops) k8) gknobs) k10) k11) k12) k13) k14) k15) k16) k17) k18) k19) k20) k21) k22) k23) k24) gheard) genter) k27) k28) k29) k30) k31) k32)
theorem inst : Tryz.f5.isInstance Tryz.prog Rows.searchLevelsUptoRow.origin Rows.searchLevelsUptoRow.targs := of_decide_eq_true (by kernel_rfl)
theorem wrapper : Tryz.f5.isWrapper Tryz.prog Rows.searchLevelsUptoRow.wrapper Rows.searchLevelsUptoRow.mainSum := by unfold Func.isWrapper; first | (rw [if_pos (by decide +kernel)]; kernel_rfl) | (rw [if_neg (by decide +kernel)]; exact ⟨rfl, rfl⟩)
theorem res1 : Tryz.f5.resultTypes = #[4] := by kernel_rfl
theorem full : ((List.range Tryz.prog.types.size).all fun t => match Tryz.prog.underlying t with | some (.slice e) => decide (0 < Tryz.prog.cellsOf e) | _ => true) = true := by kernel_rfl
theorem small : 26 < Tryz.prog.types.size := by
  have h : decide (26 < Tryz.prog.types.size) = true := by kernel_rfl
  exact of_decide_eq_true h

theorem contract (H : Type) (enc : TypeId × Value → H) (W : World) (args : Array Value) (ds gs : List (DataW H)) (before : List MemPlace)
    (hW : DataW.Whole enc Tryz.prog Tryz.f5.params.toList Rows.searchLevelsSpec.vars false W args.toList ds gs before) (hb : Rows.uptoBulkAll (ds ++ gs) ≤ 1048576) :
    Calls Tryz.prog 5 args W fun e W' => ∃ v, e = .returned v ∧ Rows.searchLevelsSpec.post enc Tryz.prog Tryz.f5 false true false false W args v W' := by
  have hW' := hW
  obtain ⟨p, q, hA0, hV, rfl, hfz, hnd⟩ := hW
  have hA : DataW.TrodAll enc Tryz.prog W 0 (fun _ => true) true Tryz.f5.params.toList args.toList ds p := hA0
  rw [Tryz.params5] at hA
  obtain ⟨v1, vs1, d1, ds1, p1, q1, hargs, rfl, rfl, h1, r1⟩ := trodAll_cons hA
  obtain ⟨rfl, rfl, rfl⟩ := trodAll_nil r1
  obtain rfl : args = #[v1] := by apply Array.ext'; simpa using hargs
  obtain ⟨rfl, rfl⟩ := trodVars_none hV
  have hlt := hW'.lt
  simp only [List.append_nil] at hW' hlt
  obtain ⟨fuel, h1⟩ := h1
  have hd := bulkD_le d1
  simp only [List.append_nil, Rows.uptoBulkAll] at hb
  refine (Go.AJ.levels_calls h1 (by omega)).mono fun e W' ⟨he, hsz, hold, hos, _, hout⟩ => ?_
  subst he
  have hk : W.keptBut W' (fun _ => False) := by
    refine ⟨hos, hout, fun i hi => ?_⟩
    rw [hold i hi]
    split
    · rename_i h1 h2
      rw [h1] at h2
      cases h2
      exact ⟨rfl, rfl, rfl, fun _ _ => rfl⟩
    · rename_i h1 h2
      rw [h1] at h2
      cases h2
      exact .inr ⟨rfl, rfl⟩
    · rfl
  refine ⟨_, rfl, _, _, _, [], p1, [], hW', ?_, ?_, ?_, World.keptBut_mono (fun _ f => f.elim) hk, fun h => by cases h⟩
  · rw [res1]
    exact trodAll_mk1 (shut_bool Tryz.underlying4 _)
  · rw [Tryz.params5]
    have h2 : DataW.Trod enc Tryz.prog W 0 (fun b => decide (b < W.heap.size)) true 26 v1 d1 p1 :=
      DataW.Trod.respare (kids_rows glaid gmaps) (slices_full_of Tryz.prog full) small ⟨fuel, h1⟩ (fun x hx => by simpa using hlt x hx)
    obtain ⟨m, h2⟩ := h2
    refine trodAll_mk1 ⟨m, ?_⟩
    refine DataW.trod_carry m 26 _ _ h2 ?_
    intro x hx
    have hl : x.block < W.heap.size := hlt x hx
    cases x <;> simp only [World.sameAt, World.cell?, MemPlace.block] at hl ⊢ <;> rw [hold _ hl]
  · exact rfl

theorem reads (os : Os) {H : Type} (enc : TypeId × Value → H) : ∃ places, DataW.whole enc Tryz.prog (((World.doorLaid Tryz.prog 400 os).forCall (fun _ _ => 0) ⟨#[], #[.agg #[.slice none 0 0, .slice none 0 0, .slice none 0 0]], []⟩)).memory Tryz.f5.params.toList Rows.searchLevelsSpec.vars false #[.agg #[.slice none 0 0, .slice none 0 0, .slice none 0 0]].toList 8 = some ([.agg [.nil, .nil, .nil]], [], places) := by
  unfold World.doorLaid
  rw [varsId_eq]
  exact ⟨[], by kernel_rfl⟩
theorem wshaped (os : Os) : (((World.doorLaid Tryz.prog 400 os).forCall (fun _ _ => 0) ⟨#[], #[.agg #[.slice none 0 0, .slice none 0 0, .slice none 0 0]], []⟩)).Shaped Tryz.prog := by
  unfold World.doorLaid
  rw [varsId_eq]
  exact World.shaped_of_RefB (by kernel_rfl) (by kernel_rfl)
theorem wok (os : Os) : Input.okWideB Tryz.prog (((World.doorLaid Tryz.prog 400 os).forCall (fun _ _ => 0) ⟨#[], #[.agg #[.slice none 0 0, .slice none 0 0, .slice none 0 0]], []⟩)) 5 ⟨#[], #[.agg #[.slice none 0 0, .slice none 0 0, .slice none 0 0]], []⟩ = true := by
  unfold World.doorLaid
  rw [varsId_eq]
  kernel_rfl
theorem wsized (os : Os) (H : Type) (enc : TypeId × Value → H) : Rows.searchLevelsSpec.sizedB enc Tryz.prog Tryz.f5 false (((World.doorLaid Tryz.prog 400 os).forCall (fun _ _ => 0) ⟨#[], #[.agg #[.slice none 0 0, .slice none 0 0, .slice none 0 0]], []⟩)).memory #[.agg #[.slice none 0 0, .slice none 0 0, .slice none 0 0]] 8 = true := by
  unfold World.doorLaid
  rw [varsId_eq]
  kernel_rfl
theorem wcond (H : Type) : Rows.uptoSmall H ([.agg [.nil, .nil, .nil]] ++ []) = true := by kernel_rfl

theorem lifted (os : Os) (started : os.Started) (H : Type) (enc : TypeId × Value → H) (G : Stop.Interp) :
    ReturnsInHanded {} Tryz.checked os 5 .any ((Rows.OpenSpec.upto Rows.searchLevelsSpec).preRow enc Tryz.prog Tryz.f5 Rows.searchLevelsUptoRow.domain false Rows.searchLevelsUptoRow.laid) (((Rows.OpenSpec.upto Rows.searchLevelsSpec).at G).post enc Tryz.prog Tryz.f5 false true false false) := by
  obtain ⟨places, hx⟩ := reads os enc
  refine returnsInHanded_of_row (C := Tryz.checked) (s := (Rows.OpenSpec.upto Rows.searchLevelsSpec)) own started noInit Tryz.func5
    ⟨World.doorLaid Tryz.prog 400 os, fun _ _ => 0, ⟨#[], #[.agg #[.slice none 0 0, .slice none 0 0, .slice none 0 0]], []⟩, rfl, wshaped os, rfl, (Input.okWide_of_okWideB (wok os)).2, OpenSpec.preRow_of_cond 8 hx rfl (fun k hk => by cases hk; exact wcond H) (wsized os H enc) (door_met os _), by
      simp only [Assume.holds]
      exact ⟨by simp, by simp, fun _ => Modest.zero, by simp, by simp⟩⟩ ?_
  intro W base args ds gs before _ hW _ hcond _ _ _ _
  have hk := hcond _ rfl
  exact contract H enc W args ds gs before hW (of_decide_eq_true hk)

theorem said : Rows.SearchLevelsUptoSaid :=
  OpenClaim.holds_of_cond 5 Tryz.f5 rfl rfl rfl rfl rfl rfl rfl ⟨rfl, rfl, rfl, rfl, rfl⟩ rfl rfl rfl rfl rfl named Tryz.func5 facts inst wrapper
    (fun os started H enc _ G => by rw [OpenClaim.pre_eq_preRow]; exact lifted os started H enc G)

theorem looks : true = Tryz.prog.looks [] := by kernel_rfl
theorem noStand : (Tryz.prog.wantsStandIn 26) = false := by kernel_rfl
theorem plain (f : FuncId) (fn : Func) (hf : Tryz.pinned.checked.prog.funcNamed "foregone/foregonelaw23.SearchLevels" = some f) (hfn : Tryz.pinned.checked.prog.funcs[f]? = some fn) :
    true = Tryz.pinned.checked.prog.looks [] ∧ ∀ (j : Nat) t, fn.params[j]? = some t → Tryz.pinned.checked.prog.wantsStandIn t = false := by
  obtain rfl : f = 5 := Option.some.inj (named.symm.trans hf) |>.symm
  obtain rfl : fn = Tryz.f5 := (Option.some.inj (Tryz.func5.symm.trans hfn)).symm
  refine ⟨looks, fun j t ht => ?_⟩
  rw [Tryz.params5] at ht
  obtain rfl : t = 26 := by simpa using Array.mem_of_getElem? ht
  exact noStand
theorem wf : Rows.searchLevelsUptoRow.wfByText (Rows.OpenSpec.upto Rows.searchLevelsSpec) = true := by kernel_rfl
theorem mains : Tryz.pinned.checked.prog.mainIs = some (Rows.searchLevelsUptoCard.stood.harness.1, Rows.searchLevelsUptoCard.stood.harness.2.toList) := by kernel_rfl
theorem goes : false = Rows.searchLevelsUptoRow.goesBy Tryz.pinned.checked.prog := by
  have h0 : Rows.searchLevelsUptoRow.goesBy Tryz.pinned.checked.prog = (((Tryz.prog.funcNamed Rows.searchLevelsUptoRow.func).any Tryz.prog.goes) || false) := rfl
  rw [h0, named, Option.any_some, goes_none gnogo, Bool.or_false]

/-- The card. -/
theorem card : Rows.SearchLevelsUptoCardSaid :=
  Claim7.holds_tied_plain_at .later [] _ _ _ _ said (fun _ h => by cases h) wf (fun _ h => by cases h) (OpenClaim.laidByTextAt_later rfl rfl tied noUnsafe) rfl ⟨rfl, rfl⟩ mains rfl plain goes
#print axioms card
end Go.Proofs.YtgdbpnpolelfoaaGreatDoor.searchLevels
