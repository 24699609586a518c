/- SearchReach: for every graph and lists of numbers of bulk at most 1048576 together the law returns true, and the arguments read afterwards as they read before; the package-level variables that its code names are tied to the program's text. No condition of our own. -/
import Derived.Test.YtgdbpnpolelfoaaGreatDoorCards
import Derived.Test.YtgdbpnpolelfoaaGreatDoorCloFacts
import Derived.Test.YtgdbpnpolelfoaaGreatDoorLev
import Derived.Test.YtgdbpnpolelfoaaGreatDoorTiedB
import Derived.Test.YtgdbpnpolelfoaaGreatDoorGlob
import Derived.WalkKit
import Derived.ProofKit
import Derived.OpenShut
import Derived.ReadAgain
import Derived.Deep.DeepHandedRow
namespace Go.Proofs.YtgdbpnpolelfoaaGreatDoor.searchReach
open Go Go.ChangeShapes Go.WideShapes Go.ChangeAt Go.RowKit Go.TF
set_option maxRecDepth 100000

mutual
theorem bulkD_le {H : Type} : ∀ d : DataW H, Go.AJ.bulkD d ≤ Rows.uptoBulk d
  | .lit l => by cases l <;> simp [Go.AJ.bulkD, Rows.uptoBulk]
  | .nil => by simp [Go.AJ.bulkD, Rows.uptoBulk]
  | .ptr d => by simp [Go.AJ.bulkD, Rows.uptoBulk]
  | .slice es sp => by
    have h := bulkDs_le es
    simp only [Go.AJ.bulkD, Rows.uptoBulk]
    omega
  | .agg ps => by
    have h := bulkDs_le ps
    simp only [Go.AJ.bulkD, Rows.uptoBulk]
    omega
  | .iface _ d => by simp [Go.AJ.bulkD, Rows.uptoBulk]
  | .map es => by simp [Go.AJ.bulkD, Rows.uptoBulk]
  | .held h => by simp [Go.AJ.bulkD, Rows.uptoBulk]
theorem bulkDs_le {H : Type} : ∀ l : List (DataW H), Go.AJ.bulkD.bulkDs l ≤ Rows.uptoBulkAll l
  | [] => by simp [Go.AJ.bulkD.bulkDs, Rows.uptoBulkAll]
  | d :: r => by
    have h1 := bulkD_le d
    have h2 := bulkDs_le r
    simp only [Go.AJ.bulkD.bulkDs, Rows.uptoBulkAll]
    omega
end

theorem own : ownKnob Tryz.prog.godebug = none := by kernel_rfl
theorem noInit : Tryz.prog.inits.idxOf? 4 = none := by kernel_rfl
theorem named : Tryz.prog.funcNamed Rows.searchReachUptoRow.func = some 4 := named4
theorem k1 : Rows.searchReachUptoRow.wf ((Rows.OpenSpec.upto Rows.searchReachSpec)) = true := by kernel_rfl

theorem k4 : Tryz.f4.params.all (Tryz.prog.readableRec ·) = true := by kernel_rfl
theorem k5 : namedTie Tryz.prog Rows.searchReachUptoRow.named Rows.searchReachSpec.vars = true := by kernel_rfl
theorem k6 : (Rows.searchReachUptoRow.stops == []) = true := by kernel_rfl
theorem k8 : (Rows.searchReachUptoRow.knobs == []) = true := by kernel_rfl
theorem k14 : (Rows.searchReachUptoRow.maps == (Tryz.f4.params.toList ++ Rows.searchReachSpec.plain.varTypes Tryz.prog).any (Tryz.prog.mapsRec ·)) = true := by kernel_rfl
theorem k15 : (Rows.searchReachUptoRow.ifaces == (Tryz.f4.params.toList ++ Rows.searchReachSpec.plain.varTypes Tryz.prog).any (Tryz.prog.ifacesRec ·)) = true := by kernel_rfl
theorem k16 : (Rows.searchReachUptoRow.mapsOut == Tryz.prog.mapsAmong Tryz.f4.resultTypes.toList) = true := by kernel_rfl
theorem k17 : (Rows.searchReachUptoRow.loops == (Tryz.f4.params.toList ++ Rows.searchReachSpec.plain.varTypes Tryz.prog).any (Tryz.prog.loopsFrom ·)) = true := by kernel_rfl
theorem k18 : (Rows.searchReachUptoRow.wideKeys == (Tryz.f4.params.toList ++ Rows.searchReachSpec.plain.varTypes Tryz.prog ++ Tryz.f4.resultTypes.toList).any (Tryz.prog.wideKeysFrom ·)) = true := by kernel_rfl
theorem k19 : Rows.searchReachSpec.vars.all (Tryz.prog.varReadable ·) = true := by kernel_rfl
theorem k20 : Tryz.f4.resultTypes.all (fun t => Tryz.prog.readableRec t && decide (t < Tryz.prog.types.size)) = true := by kernel_rfl
theorem k21 : (Rows.searchReachUptoRow.ifacesOut == Tryz.f4.resultTypes.toList.any (Tryz.prog.ifacesRec ·)) = true := by kernel_rfl
theorem k22 : (Rows.searchReachUptoRow.loopsOut == Tryz.f4.resultTypes.toList.any (Tryz.prog.loopsFrom ·)) = true := by kernel_rfl
theorem k23 : (Rows.searchReachUptoRow.plainKeys == Tryz.prog.plainKeys) = true := by kernel_rfl
theorem k24 : Rows.searchReachUptoRow.shortTexts.isNone = true := by kernel_rfl
theorem k27 : (Rows.searchReachUptoRow.lifted == Tryz.prog.liftsFinal) = true := by kernel_rfl
theorem k28 : (Tryz.prog.make == some Rows.searchReachUptoRow.make) = true := by kernel_rfl
theorem k29 : (Rows.searchReachUptoRow.kinds == (if Rows.searchReachUptoRow.domain.isEmpty then [] else Tryz.f4.params.toList.map fun t => match Tryz.prog.underlying t with | some (.int k) => some k | _ => none)) = true := by kernel_rfl
theorem k30 : (Rows.searchReachUptoRow.pinned == Rows.searchReachUptoRow.pinnedBy) = true := by kernel_rfl
theorem k31 : (Rows.searchReachUptoRow.veiled == (Tryz.f4.params.toList ++ Rows.searchReachSpec.plain.varTypes Tryz.prog ++ Tryz.f4.resultTypes.toList).any (Tryz.prog.veiledRec ·)) = true := by kernel_rfl
theorem k32 : Rows.searchReachUptoRow.veiledFits Tryz.prog Tryz.f4.params.toList (Tryz.f4.params.toList ++ Rows.searchReachSpec.plain.varTypes Tryz.prog ++ Tryz.f4.resultTypes.toList) = true := by kernel_rfl
theorem k10 : (Rows.searchReachUptoRow.inPlace == Tryz.prog.inPlace 4) = true := by rw [inPlace4]; kernel_rfl
theorem k11 : (Rows.searchReachUptoRow.unfollowed == Tryz.prog.unfollowed 4) = true := by rw [unfollowed4]; rfl
theorem k12 : (Rows.searchReachUptoRow.recurses == Tryz.prog.recurses 4) = true := by rw [recurses4]; rfl
theorem k13 : (Rows.searchReachUptoRow.named == Tryz.prog.varsNamed 4) = true := by rw [varsNamed4]; kernel_rfl
theorem facts : joinedFacts Tryz.prog 4 Tryz.f4 Rows.searchReachSpec Rows.searchReachUptoRow = true := by
  unfold joinedFacts
  exact (both (both (both (both (both (both (both (both (both (both (both (both (both (both (both (both (both (both (both (both (both (both (both (both (both (both (both (both (both (both (both k1 glaid) gmaps) k4) k5) k6) gstops) k8) gknobs) k10) k11) k12) k13) k14) k15) k16) k17) k18) k19) k20) k21) k22) k23) k24) gheard) genter) k27) k28) k29) k30) k31) k32)
theorem inst : Tryz.f4.isInstance Tryz.prog Rows.searchReachUptoRow.origin Rows.searchReachUptoRow.targs := of_decide_eq_true (by kernel_rfl)
theorem wrapper : Tryz.f4.isWrapper Tryz.prog Rows.searchReachUptoRow.wrapper Rows.searchReachUptoRow.mainSum := by unfold Func.isWrapper; first | (rw [if_pos (by decide +kernel)]; kernel_rfl) | (rw [if_neg (by decide +kernel)]; exact ⟨rfl, rfl⟩)
theorem res1 : Tryz.f4.resultTypes = #[4] := by kernel_rfl
theorem full : ((List.range Tryz.prog.types.size).all fun t => match Tryz.prog.underlying t with | some (.slice e) => decide (0 < Tryz.prog.cellsOf e) | _ => true) = true := by kernel_rfl
theorem small : 26 < Tryz.prog.types.size := by
  have h : decide (26 < Tryz.prog.types.size) = true := by kernel_rfl
  exact of_decide_eq_true h
theorem small23 : 23 < Tryz.prog.types.size := by
  have h : decide (23 < Tryz.prog.types.size) = true := by kernel_rfl
  exact of_decide_eq_true h

theorem contract (H : Type) (enc : TypeId × Value → H) (W : World) (base : Nat) (args : Array Value) (ds gs : List (DataW H)) (before : List MemPlace)
    (hval0 : ∀ (j : Nat) t v, Tryz.f4.params[j]? = some t → args[j]? = some v → Value.okWide Tryz.prog W .any base t v)
    (hW : DataW.Whole enc Tryz.prog Tryz.f4.params.toList Rows.searchReachSpec.vars false W args.toList ds gs before) (hb : Rows.uptoBulkAll (ds ++ gs) ≤ 1048576) :
    Calls Tryz.prog 4 args W fun e W' => ∃ v, e = .returned v ∧ Rows.searchReachSpec.post enc Tryz.prog Tryz.f4 false true false false W args v W' := by
  have hval : ∀ (j : Nat) t v, Tryz.f4.params[j]? = some t → args[j]? = some v → Value.okWide Tryz.prog W .any base t v := hval0
  have hW' := hW
  obtain ⟨p, q, hA0, hV, rfl, hfz, hnd⟩ := hW
  have hA : DataW.TrodAll enc Tryz.prog W 0 (fun _ => true) true Tryz.f4.params.toList args.toList ds p := hA0
  rw [Tryz.params4] at hA hval
  clear hval0
  obtain ⟨v1, vs1, d1, ds1, p1, q1, hargs, rfl, rfl, h1, r1⟩ := trodAll_cons hA
  obtain ⟨v2, vs2, d2, ds2, p2, q2, rfl, rfl, rfl, h2, r2⟩ := trodAll_cons r1
  obtain ⟨v3, vs3, d3, ds3, p3, q3, rfl, rfl, rfl, h3, r3⟩ := trodAll_cons r2
  obtain ⟨rfl, rfl, rfl⟩ := trodAll_nil r3
  obtain rfl : args = #[v1, v2, v3] := by apply Array.ext'; simpa using hargs
  obtain ⟨rfl, rfl⟩ := trodVars_none hV
  have hlt := hW'.lt
  simp only [List.append_nil] at hW' hlt
  obtain ⟨a2, l2, c2, rfl⟩ := Go.WideShapes.okWide_slice Tryz.underlying23 (hval 1 23 v2 rfl rfl)
  obtain ⟨a3, l3, c3, rfl⟩ := Go.WideShapes.okWide_slice Tryz.underlying23 (hval 2 23 v3 rfl rfl)
  obtain ⟨f1, h1⟩ := h1
  obtain ⟨f2, h2⟩ := h2
  obtain ⟨f3, h3⟩ := h3
  have b1 := bulkD_le d1
  have b2 := bulkD_le d2
  have b3 := bulkD_le d3
  simp only [List.append_nil, Rows.uptoBulkAll] at hb
  refine (Go.AJ.reach_calls h1 h2 h3 (by omega) (by omega) (by omega)).mono fun e W' ⟨he, hsz, hold, hos, _, hout⟩ => ?_
  subst he
  have hk : W.keptBut W' (fun _ => False) := by
    refine ⟨hos, hout, fun i hi => ?_⟩
    rw [hold i hi]
    split
    · rename_i h1 h2
      rw [h1] at h2
      cases h2
      exact ⟨rfl, rfl, rfl, fun _ _ => rfl⟩
    · rename_i h1 h2
      rw [h1] at h2
      cases h2
      exact .inr ⟨rfl, rfl⟩
    · rfl
  have carry : ∀ (t : TypeId) (v : Value) (d : DataW H) (ps : List MemPlace) (m : Nat), t < Tryz.prog.types.size → DataW.trod enc Tryz.prog W 0 (fun _ => true) true m t v.cells.toList = some (d, ps) → (∀ x ∈ ps, x.block < W.heap.size) → DataW.Trod enc Tryz.prog W' 0 (fun b => decide (b < W.heap.size)) true t v d ps := by
    intro t v d ps m ht hm hl
    have h2 : DataW.Trod enc Tryz.prog W 0 (fun b => decide (b < W.heap.size)) true t v d ps :=
      DataW.Trod.respare (kids_rows glaid gmaps) (slices_full_of Tryz.prog full) ht ⟨m, hm⟩ (fun x hx => by simpa using hl x hx)
    obtain ⟨m, h2⟩ := h2
    refine ⟨m, DataW.trod_carry m t _ _ h2 ?_⟩
    intro x hx
    have hl : x.block < W.heap.size := hl x hx
    cases x <;> simp only [World.sameAt, World.cell?, MemPlace.block] at hl ⊢ <;> rw [hold _ hl]
  refine ⟨_, rfl, _, _, _, [], p1 ++ (p2 ++ p3), [], hW', ?_, ?_, ?_, World.keptBut_mono (fun _ f => f.elim) hk, fun h => by cases h⟩
  · rw [res1]
    exact trodAll_mk1 (shut_bool Tryz.underlying4 _)
  · rw [Tryz.params4]
    refine trodAll_cons_mk (carry 26 _ _ _ _ small h1 fun x hx => hlt x (by simp [hx])) (trodAll_cons_mk (carry 23 _ _ _ _ small23 h2 fun x hx => hlt x (by simp [hx])) (trodAll_mk1 (carry 23 _ _ _ _ small23 h3 fun x hx => hlt x (by simp [hx]))))
  · rfl

theorem reads (os : Os) {H : Type} (enc : TypeId × Value → H) : ∃ places, DataW.whole enc Tryz.prog (((World.doorLaid Tryz.prog 400 os).forCall (fun _ _ => 0) ⟨#[], #[.agg #[.slice none 0 0, .slice none 0 0, .slice none 0 0], .slice none 0 0, .slice none 0 0], []⟩)).memory Tryz.f4.params.toList Rows.searchReachSpec.vars false #[.agg #[.slice none 0 0, .slice none 0 0, .slice none 0 0], .slice none 0 0, .slice none 0 0].toList 8 = some ([.agg [.nil, .nil, .nil], .nil, .nil], [], places) := by
  unfold World.doorLaid
  rw [varsId_eq]
  exact ⟨[], by kernel_rfl⟩
theorem wshaped (os : Os) : (((World.doorLaid Tryz.prog 400 os).forCall (fun _ _ => 0) ⟨#[], #[.agg #[.slice none 0 0, .slice none 0 0, .slice none 0 0], .slice none 0 0, .slice none 0 0], []⟩)).Shaped Tryz.prog := by
  unfold World.doorLaid
  rw [varsId_eq]
  exact World.shaped_of_RefB (by kernel_rfl) (by kernel_rfl)
theorem wok (os : Os) : Input.okWideB Tryz.prog (((World.doorLaid Tryz.prog 400 os).forCall (fun _ _ => 0) ⟨#[], #[.agg #[.slice none 0 0, .slice none 0 0, .slice none 0 0], .slice none 0 0, .slice none 0 0], []⟩)) 4 ⟨#[], #[.agg #[.slice none 0 0, .slice none 0 0, .slice none 0 0], .slice none 0 0, .slice none 0 0], []⟩ = true := by
  unfold World.doorLaid
  rw [varsId_eq]
  kernel_rfl
theorem wsized (os : Os) (H : Type) (enc : TypeId × Value → H) : Rows.searchReachSpec.sizedB enc Tryz.prog Tryz.f4 false (((World.doorLaid Tryz.prog 400 os).forCall (fun _ _ => 0) ⟨#[], #[.agg #[.slice none 0 0, .slice none 0 0, .slice none 0 0], .slice none 0 0, .slice none 0 0], []⟩)).memory #[.agg #[.slice none 0 0, .slice none 0 0, .slice none 0 0], .slice none 0 0, .slice none 0 0] 8 = true := by
  unfold World.doorLaid
  rw [varsId_eq]
  kernel_rfl
theorem wcond (H : Type) : Rows.uptoSmall H ([.agg [.nil, .nil, .nil], .nil, .nil] ++ []) = true := by kernel_rfl

theorem lifted (os : Os) (started : os.Started) (H : Type) (enc : TypeId × Value → H) (G : Stop.Interp) :
    ReturnsInHanded {} Tryz.checked os 4 .any ((Rows.OpenSpec.upto Rows.searchReachSpec).preRow enc Tryz.prog Tryz.f4 Rows.searchReachUptoRow.domain false Rows.searchReachUptoRow.laid) (((Rows.OpenSpec.upto Rows.searchReachSpec).at G).post enc Tryz.prog Tryz.f4 false true false false) := by
  obtain ⟨places, hx⟩ := reads os enc
  refine returnsInHanded_of_row (C := Tryz.checked) (s := (Rows.OpenSpec.upto Rows.searchReachSpec)) own started noInit Tryz.func4
    ⟨World.doorLaid Tryz.prog 400 os, fun _ _ => 0, ⟨#[], #[.agg #[.slice none 0 0, .slice none 0 0, .slice none 0 0], .slice none 0 0, .slice none 0 0], []⟩, rfl, wshaped os, rfl, (Input.okWide_of_okWideB (wok os)).2, OpenSpec.preRow_of_cond 8 hx rfl (fun k hk => by cases hk; exact wcond H) (wsized os H enc) (door_met os _), by
      simp only [Assume.holds]
      exact ⟨by simp, by simp, fun _ => Modest.zero, by simp, by simp⟩⟩ ?_
  intro W base args ds gs before hval hW _ hcond _ _ _ _
  have hk := hcond _ rfl
  exact contract H enc W base args ds gs before hval hW (of_decide_eq_true hk)

theorem said : Rows.SearchReachUptoSaid :=
  OpenClaim.holds_of_cond 4 Tryz.f4 rfl rfl rfl rfl rfl rfl rfl ⟨rfl, rfl, rfl, rfl, rfl⟩ rfl rfl rfl rfl rfl named Tryz.func4 facts inst wrapper
    (fun os started H enc _ G => by rw [OpenClaim.pre_eq_preRow]; exact lifted os started H enc G)

theorem looks : true = Tryz.prog.looks [] := by kernel_rfl
theorem noStand : (Tryz.prog.wantsStandIn 26) = false := by kernel_rfl
theorem noStand23 : (Tryz.prog.wantsStandIn 23) = false := by kernel_rfl
theorem plain (f : FuncId) (fn : Func) (hf : Tryz.pinned.checked.prog.funcNamed "foregone/foregonelaw23.SearchReach" = some f) (hfn : Tryz.pinned.checked.prog.funcs[f]? = some fn) :
    true = Tryz.pinned.checked.prog.looks [] ∧ ∀ (j : Nat) t, fn.params[j]? = some t → Tryz.pinned.checked.prog.wantsStandIn t = false := by
  obtain rfl : f = 4 := Option.some.inj (named.symm.trans hf) |>.symm
  obtain rfl : fn = Tryz.f4 := (Option.some.inj (Tryz.func4.symm.trans hfn)).symm
  refine ⟨looks, fun j t ht => ?_⟩
  rw [Tryz.params4] at ht
  have : t = 26 ∨ t = 23 := by simpa using Array.mem_of_getElem? ht
  rcases this with rfl | rfl
  · exact noStand
  · exact noStand23
theorem wf : Rows.searchReachUptoRow.wfByText (Rows.OpenSpec.upto Rows.searchReachSpec) = true := by kernel_rfl
theorem mains : Tryz.pinned.checked.prog.mainIs = some (Rows.searchReachUptoCard.stood.harness.1, Rows.searchReachUptoCard.stood.harness.2.toList) := by kernel_rfl
theorem goes : false = Rows.searchReachUptoRow.goesBy Tryz.pinned.checked.prog := by
  have h0 : Rows.searchReachUptoRow.goesBy Tryz.pinned.checked.prog = (((Tryz.prog.funcNamed Rows.searchReachUptoRow.func).any Tryz.prog.goes) || false) := rfl
  rw [h0, named, Option.any_some, goes_none gnogo, Bool.or_false]

/-- The card. -/
theorem card : Rows.SearchReachUptoCardSaid :=
  Claim7.holds_tied_plain_at .later [] _ _ _ _ said (fun _ h => by cases h) wf (fun _ h => by cases h) (OpenClaim.laidByTextAt_later rfl rfl tied noUnsafe) rfl ⟨rfl, rfl⟩ mains rfl plain goes
#print axioms card
end Go.Proofs.YtgdbpnpolelfoaaGreatDoor.searchReach
