/- SearchGraphs: for every two graphs, number and lists of numbers of bulk at most 1048576 together the law returns true, and the arguments read afterwards as they read before; the package-level variables that its code names are tied to the program's text. No condition of our own. -/
import Derived.Test.YtgdbpnpolelfoaaGreatDoorCards
import Derived.Test.YtgdbpnpolelfoaaGreatDoorCloFacts
import Derived.Test.YtgdbpnpolelfoaaGreatDoorLev
import Derived.Test.YtgdbpnpolelfoaaGreatDoorTiedB
import Derived.Test.YtgdbpnpolelfoaaGreatDoorGlob
import Derived.WalkKit
import Derived.ProofKit
import Derived.OpenShut
import Derived.ReadAgain
import Derived.Deep.DeepHandedRow
namespace Go.Proofs.YtgdbpnpolelfoaaGreatDoor.searchGraphs
open Go Go.ChangeShapes Go.WideShapes Go.ChangeAt Go.RowKit Go.TF
set_option maxRecDepth 100000

mutual
theorem bulkD_le {H : Type} : ∀ d : DataW H, Go.AJ.bulkD d ≤ Rows.uptoBulk d
  | .lit l => by cases l <;> simp [Go.AJ.bulkD, Rows.uptoBulk]
  | .nil => by simp [Go.AJ.bulkD, Rows.uptoBulk]
  | .ptr d => by simp [Go.AJ.bulkD, Rows.uptoBulk]
  | .slice es sp => by
    have h := bulkDs_le es
    simp only [Go.AJ.bulkD, Rows.uptoBulk]
    omega
  | .agg ps => by
    have h := bulkDs_le ps
    simp only [Go.AJ.bulkD, Rows.uptoBulk]
    omega
  | .iface _ d => by simp [Go.AJ.bulkD, Rows.uptoBulk]
  | .map es => by simp [Go.AJ.bulkD, Rows.uptoBulk]
  | .held h => by simp [Go.AJ.bulkD, Rows.uptoBulk]
theorem bulkDs_le {H : Type} : ∀ l : List (DataW H), Go.AJ.bulkD.bulkDs l ≤ Rows.uptoBulkAll l
  | [] => by simp [Go.AJ.bulkD.bulkDs, Rows.uptoBulkAll]
  | d :: r => by
    have h1 := bulkD_le d
    have h2 := bulkDs_le r
    simp only [Go.AJ.bulkD.bulkDs, Rows.uptoBulkAll]
    omega
end

theorem own : ownKnob Tryz.prog.godebug = none := by kernel_rfl
theorem noInit : Tryz.prog.inits.idxOf? 3 = none := by kernel_rfl
theorem named : Tryz.prog.funcNamed Rows.searchGraphsUptoRow.func = some 3 := named3
theorem k1 : Rows.searchGraphsUptoRow.wf ((Rows.OpenSpec.upto Rows.searchGraphsSpec)) = true := by kernel_rfl

theorem k4 : Tryz.f3.params.all (Tryz.prog.readableRec ·) = true := by kernel_rfl
theorem k5 : namedTie Tryz.prog Rows.searchGraphsUptoRow.named Rows.searchGraphsSpec.vars = true := by kernel_rfl
theorem k6 : (Rows.searchGraphsUptoRow.stops == []) = true := by kernel_rfl
theorem k8 : (Rows.searchGraphsUptoRow.knobs == []) = true := by kernel_rfl
theorem k14 : (Rows.searchGraphsUptoRow.maps == (Tryz.f3.params.toList ++ Rows.searchGraphsSpec.plain.varTypes Tryz.prog).any (Tryz.prog.mapsRec ·)) = true := by kernel_rfl
theorem k15 : (Rows.searchGraphsUptoRow.ifaces == (Tryz.f3.params.toList ++ Rows.searchGraphsSpec.plain.varTypes Tryz.prog).any (Tryz.prog.ifacesRec ·)) = true := by kernel_rfl
theorem k16 : (Rows.searchGraphsUptoRow.mapsOut == Tryz.prog.mapsAmong Tryz.f3.resultTypes.toList) = true := by kernel_rfl
theorem k17 : (Rows.searchGraphsUptoRow.loops == (Tryz.f3.params.toList ++ Rows.searchGraphsSpec.plain.varTypes Tryz.prog).any (Tryz.prog.loopsFrom ·)) = true := by kernel_rfl
theorem k18 : (Rows.searchGraphsUptoRow.wideKeys == (Tryz.f3.params.toList ++ Rows.searchGraphsSpec.plain.varTypes Tryz.prog ++ Tryz.f3.resultTypes.toList).any (Tryz.prog.wideKeysFrom ·)) = true := by kernel_rfl
theorem k19 : Rows.searchGraphsSpec.vars.all (Tryz.prog.varReadable ·) = true := by kernel_rfl
theorem k20 : Tryz.f3.resultTypes.all (fun t => Tryz.prog.readableRec t && decide (t < Tryz.prog.types.size)) = true := by kernel_rfl
theorem k21 : (Rows.searchGraphsUptoRow.ifacesOut == Tryz.f3.resultTypes.toList.any (Tryz.prog.ifacesRec ·)) = true := by kernel_rfl
theorem k22 : (Rows.searchGraphsUptoRow.loopsOut == Tryz.f3.resultTypes.toList.any (Tryz.prog.loopsFrom ·)) = true := by kernel_rfl
theorem k23 : (Rows.searchGraphsUptoRow.plainKeys == Tryz.prog.plainKeys) = true := by kernel_rfl
theorem k24 : Rows.searchGraphsUptoRow.shortTexts.isNone = true := by kernel_rfl
theorem k27 : (Rows.searchGraphsUptoRow.lifted == Tryz.prog.liftsFinal) = true := by kernel_rfl
theorem k28 : (Tryz.prog.make == some Rows.searchGraphsUptoRow.make) = true := by kernel_rfl
theorem k29 : (Rows.searchGraphsUptoRow.kinds == (if Rows.searchGraphsUptoRow.domain.isEmpty then [] else Tryz.f3.params.toList.map fun t => match Tryz.prog.underlying t with | some (.int k) => some k | _ => none)) = true := by kernel_rfl
theorem k30 : (Rows.searchGraphsUptoRow.pinned == Rows.searchGraphsUptoRow.pinnedBy) = true := by kernel_rfl
theorem k31 : (Rows.searchGraphsUptoRow.veiled == (Tryz.f3.params.toList ++ Rows.searchGraphsSpec.plain.varTypes Tryz.prog ++ Tryz.f3.resultTypes.toList).any (Tryz.prog.veiledRec ·)) = true := by kernel_rfl
theorem k32 : Rows.searchGraphsUptoRow.veiledFits Tryz.prog Tryz.f3.params.toList (Tryz.f3.params.toList ++ Rows.searchGraphsSpec.plain.varTypes Tryz.prog ++ Tryz.f3.resultTypes.toList) = true := by kernel_rfl
theorem k10 : (Rows.searchGraphsUptoRow.inPlace == Tryz.prog.inPlace 3) = true := by rw [inPlace3]; kernel_rfl
theorem k11 : (Rows.searchGraphsUptoRow.unfollowed == Tryz.prog.unfollowed 3) = true := by rw [unfollowed3]; rfl
theorem k12 : (Rows.searchGraphsUptoRow.recurses == Tryz.prog.recurses 3) = true := by rw [recurses3]; rfl
theorem k13 : (Rows.searchGraphsUptoRow.named == Tryz.prog.varsNamed 3) = true := by rw [varsNamed3]; kernel_rfl
theorem facts : joinedFacts Tryz.prog 3 Tryz.f3 Rows.searchGraphsSpec Rows.searchGraphsUptoRow = true := by
  unfold joinedFacts
  exact (both (both (both (both (both (both (both (both (both (both (both (both (both (both (both (both (both (both (both (both (both (both (both (both (both (both (both (both (both (both (both k1 glaid) gmaps) k4) k5) k6) gstops) k8) gknobs) k10) k11) k12) k13) k14) k15) k16) k17) k18) k19) k20) k21) k22) k23) k24) gheard) genter) k27) k28) k29) k30) k31) k32)
theorem inst : Tryz.f3.isInstance Tryz.prog Rows.searchGraphsUptoRow.origin Rows.searchGraphsUptoRow.targs := of_decide_eq_true (by kernel_rfl)
theorem wrapper : Tryz.f3.isWrapper Tryz.prog Rows.searchGraphsUptoRow.wrapper Rows.searchGraphsUptoRow.mainSum := by unfold Func.isWrapper; first | (rw [if_pos (by decide +kernel)]; kernel_rfl) | (rw [if_neg (by decide +kernel)]; exact ⟨rfl, rfl⟩)
theorem res1 : Tryz.f3.resultTypes = #[4] := by kernel_rfl
theorem full : ((List.range Tryz.prog.types.size).all fun t => match Tryz.prog.underlying t with | some (.slice e) => decide (0 < Tryz.prog.cellsOf e) | _ => true) = true := by kernel_rfl
theorem small : 26 < Tryz.prog.types.size := by
  have h : decide (26 < Tryz.prog.types.size) = true := by kernel_rfl
  exact of_decide_eq_true h
theorem small3 : 3 < Tryz.prog.types.size := by
  have h : decide (3 < Tryz.prog.types.size) = true := by kernel_rfl
  exact of_decide_eq_true h
theorem small23 : 23 < Tryz.prog.types.size := by
  have h : decide (23 < Tryz.prog.types.size) = true := by kernel_rfl
  exact of_decide_eq_true h

theorem contract (H : Type) (enc : TypeId × Value → H) (W : World) (base : Nat) (args : Array Value) (ds gs : List (DataW H)) (before : List MemPlace)
    (hval0 : ∀ (j : Nat) t v, Tryz.f3.params[j]? = some t → args[j]? = some v → Value.okWide Tryz.prog W .any base t v)
    (hW : DataW.Whole enc Tryz.prog Tryz.f3.params.toList Rows.searchGraphsSpec.vars false W args.toList ds gs before) (hb : Rows.uptoBulkAll (ds ++ gs) ≤ 1048576) :
    Calls Tryz.prog 3 args W fun e W' => ∃ v, e = .returned v ∧ Rows.searchGraphsSpec.post enc Tryz.prog Tryz.f3 false true false false W args v W' := by
  have hval : ∀ (j : Nat) t v, Tryz.f3.params[j]? = some t → args[j]? = some v → Value.okWide Tryz.prog W .any base t v := hval0
  have hW' := hW
  obtain ⟨p, q, hA0, hV, rfl, hfz, hnd⟩ := hW
  have hA : DataW.TrodAll enc Tryz.prog W 0 (fun _ => true) true Tryz.f3.params.toList args.toList ds p := hA0
  rw [Tryz.params3] at hA hval
  clear hval0
  obtain ⟨v1, vs1, d1, ds1, p1, q1, hargs, rfl, rfl, h1, r1⟩ := trodAll_cons hA
  obtain ⟨v2, vs2, d2, ds2, p2, q2, rfl, rfl, rfl, h2, r2⟩ := trodAll_cons r1
  obtain ⟨v3, vs3, d3, ds3, p3, q3, rfl, rfl, rfl, h3, r3⟩ := trodAll_cons r2
  obtain ⟨v4, vs4, d4, ds4, p4, q4, rfl, rfl, rfl, h4, r4⟩ := trodAll_cons r3
  obtain ⟨v5, vs5, d5, ds5, p5, q5, rfl, rfl, rfl, h5, r5⟩ := trodAll_cons r4
  obtain ⟨rfl, rfl, rfl⟩ := trodAll_nil r5
  obtain rfl : args = #[v1, v2, v3, v4, v5] := by apply Array.ext'; simpa using hargs
  obtain ⟨rfl, rfl⟩ := trodVars_none hV
  have hlt := hW'.lt
  simp only [List.append_nil] at hW' hlt
  obtain ⟨n3, rfl⟩ := Go.WideShapes.okWide_int Tryz.underlying3 (hval 2 3 v3 rfl rfl)
  obtain ⟨a4, l4, c4, rfl⟩ := Go.WideShapes.okWide_slice Tryz.underlying23 (hval 3 23 v4 rfl rfl)
  obtain ⟨a5, l5, c5, rfl⟩ := Go.WideShapes.okWide_slice Tryz.underlying23 (hval 4 23 v5 rfl rfl)
  obtain ⟨f1, h1⟩ := h1
  obtain ⟨f2, h2⟩ := h2
  obtain ⟨f3, h3⟩ := h3
  obtain ⟨f4, h4⟩ := h4
  obtain ⟨f5, h5⟩ := h5
  have b1 := bulkD_le d1
  have b2 := bulkD_le d2
  have b4 := bulkD_le d4
  have b5 := bulkD_le d5
  simp only [List.append_nil, Rows.uptoBulkAll] at hb
  refine (Go.AJ.graphs_calls h1 h2 h3 h4 h5 (by omega) (by omega) (by omega) (by omega)).mono fun e W' ⟨he, hsz, hold, hos, _, hout⟩ => ?_
  subst he
  have hk : W.keptBut W' (fun _ => False) := by
    refine ⟨hos, hout, fun i hi => ?_⟩
    rw [hold i hi]
    split
    · rename_i h1 h2
      rw [h1] at h2
      cases h2
      exact ⟨rfl, rfl, rfl, fun _ _ => rfl⟩
    · rename_i h1 h2
      rw [h1] at h2
      cases h2
      exact .inr ⟨rfl, rfl⟩
    · rfl
  have carry : ∀ (t : TypeId) (v : Value) (d : DataW H) (ps : List MemPlace) (m : Nat), t < Tryz.prog.types.size → DataW.trod enc Tryz.prog W 0 (fun _ => true) true m t v.cells.toList = some (d, ps) → (∀ x ∈ ps, x.block < W.heap.size) → DataW.Trod enc Tryz.prog W' 0 (fun b => decide (b < W.heap.size)) true t v d ps := by
    intro t v d ps m ht hm hl
    have h2 : DataW.Trod enc Tryz.prog W 0 (fun b => decide (b < W.heap.size)) true t v d ps :=
      DataW.Trod.respare (kids_rows glaid gmaps) (slices_full_of Tryz.prog full) ht ⟨m, hm⟩ (fun x hx => by simpa using hl x hx)
    obtain ⟨m, h2⟩ := h2
    refine ⟨m, DataW.trod_carry m t _ _ h2 ?_⟩
    intro x hx
    have hl : x.block < W.heap.size := hl x hx
    cases x <;> simp only [World.sameAt, World.cell?, MemPlace.block] at hl ⊢ <;> rw [hold _ hl]
  refine ⟨_, rfl, _, _, _, [], p1 ++ (p2 ++ (p3 ++ (p4 ++ p5))), [], hW', ?_, ?_, ?_, World.keptBut_mono (fun _ f => f.elim) hk, fun h => by cases h⟩
  · rw [res1]
    exact trodAll_mk1 (shut_bool Tryz.underlying4 _)
  · rw [Tryz.params3]
    refine trodAll_cons_mk (carry 26 _ _ _ _ small h1 fun x hx => hlt x (by simp [hx])) (trodAll_cons_mk (carry 26 _ _ _ _ small h2 fun x hx => hlt x (by simp [hx])) (trodAll_cons_mk (carry 3 _ _ _ _ small3 h3 fun x hx => hlt x (by simp [hx])) (trodAll_cons_mk (carry 23 _ _ _ _ small23 h4 fun x hx => hlt x (by simp [hx])) (trodAll_mk1 (carry 23 _ _ _ _ small23 h5 fun x hx => hlt x (by simp [hx]))))))
  · rfl

theorem reads (os : Os) {H : Type} (enc : TypeId × Value → H) : ∃ places, DataW.whole enc Tryz.prog (((World.doorLaid Tryz.prog 400 os).forCall (fun _ _ => 0) ⟨#[], #[.agg #[.slice none 0 0, .slice none 0 0, .slice none 0 0], .agg #[.slice none 0 0, .slice none 0 0, .slice none 0 0], .int .i64 0, .slice none 0 0, .slice none 0 0], []⟩)).memory Tryz.f3.params.toList Rows.searchGraphsSpec.vars false #[.agg #[.slice none 0 0, .slice none 0 0, .slice none 0 0], .agg #[.slice none 0 0, .slice none 0 0, .slice none 0 0], .int .i64 0, .slice none 0 0, .slice none 0 0].toList 8 = some ([.agg [.nil, .nil, .nil], .agg [.nil, .nil, .nil], .lit (.int .i64 0), .nil, .nil], [], places) := by
  unfold World.doorLaid
  rw [varsId_eq]
  exact ⟨[], by kernel_rfl⟩
theorem wshaped (os : Os) : (((World.doorLaid Tryz.prog 400 os).forCall (fun _ _ => 0) ⟨#[], #[.agg #[.slice none 0 0, .slice none 0 0, .slice none 0 0], .agg #[.slice none 0 0, .slice none 0 0, .slice none 0 0], .int .i64 0, .slice none 0 0, .slice none 0 0], []⟩)).Shaped Tryz.prog := by
  unfold World.doorLaid
  rw [varsId_eq]
  exact World.shaped_of_RefB (by kernel_rfl) (by kernel_rfl)
theorem wok (os : Os) : Input.okWideB Tryz.prog (((World.doorLaid Tryz.prog 400 os).forCall (fun _ _ => 0) ⟨#[], #[.agg #[.slice none 0 0, .slice none 0 0, .slice none 0 0], .agg #[.slice none 0 0, .slice none 0 0, .slice none 0 0], .int .i64 0, .slice none 0 0, .slice none 0 0], []⟩)) 3 ⟨#[], #[.agg #[.slice none 0 0, .slice none 0 0, .slice none 0 0], .agg #[.slice none 0 0, .slice none 0 0, .slice none 0 0], .int .i64 0, .slice none 0 0, .slice none 0 0], []⟩ = true := by
  unfold World.doorLaid
  rw [varsId_eq]
  kernel_rfl
theorem wsized (os : Os) (H : Type) (enc : TypeId × Value → H) : Rows.searchGraphsSpec.sizedB enc Tryz.prog Tryz.f3 false (((World.doorLaid Tryz.prog 400 os).forCall (fun _ _ => 0) ⟨#[], #[.agg #[.slice none 0 0, .slice none 0 0, .slice none 0 0], .agg #[.slice none 0 0, .slice none 0 0, .slice none 0 0], .int .i64 0, .slice none 0 0, .slice none 0 0], []⟩)).memory #[.agg #[.slice none 0 0, .slice none 0 0, .slice none 0 0], .agg #[.slice none 0 0, .slice none 0 0, .slice none 0 0], .int .i64 0, .slice none 0 0, .slice none 0 0] 8 = true := by
  unfold World.doorLaid
  rw [varsId_eq]
  kernel_rfl
theorem wcond (H : Type) : Rows.uptoSmall H ([.agg [.nil, .nil, .nil], .agg [.nil, .nil, .nil], .lit (.int .i64 0), .nil, .nil] ++ []) = true := by kernel_rfl

theorem lifted (os : Os) (started : os.Started) (H : Type) (enc : TypeId × Value → H) (G : Stop.Interp) :
    ReturnsInHanded {} Tryz.checked os 3 .any ((Rows.OpenSpec.upto Rows.searchGraphsSpec).preRow enc Tryz.prog Tryz.f3 Rows.searchGraphsUptoRow.domain false Rows.searchGraphsUptoRow.laid) (((Rows.OpenSpec.upto Rows.searchGraphsSpec).at G).post enc Tryz.prog Tryz.f3 false true false false) := by
  obtain ⟨places, hx⟩ := reads os enc
  refine returnsInHanded_of_row (C := Tryz.checked) (s := (Rows.OpenSpec.upto Rows.searchGraphsSpec)) own started noInit Tryz.func3
    ⟨World.doorLaid Tryz.prog 400 os, fun _ _ => 0, ⟨#[], #[.agg #[.slice none 0 0, .slice none 0 0, .slice none 0 0], .agg #[.slice none 0 0, .slice none 0 0, .slice none 0 0], .int .i64 0, .slice none 0 0, .slice none 0 0], []⟩, rfl, wshaped os, rfl, (Input.okWide_of_okWideB (wok os)).2, OpenSpec.preRow_of_cond 8 hx rfl (fun k hk => by cases hk; exact wcond H) (wsized os H enc) (door_met os _), by
      simp only [Assume.holds]
      exact ⟨by simp, by simp, fun _ => Modest.zero, by simp, by simp⟩⟩ ?_
  intro W base args ds gs before hval hW _ hcond _ _ _ _
  have hk := hcond _ rfl
  exact contract H enc W base args ds gs before hval hW (of_decide_eq_true hk)

theorem said : Rows.SearchGraphsUptoSaid :=
  OpenClaim.holds_of_cond 3 Tryz.f3 rfl rfl rfl rfl rfl rfl rfl ⟨rfl, rfl, rfl, rfl, rfl⟩ rfl rfl rfl rfl rfl named Tryz.func3 facts inst wrapper
    (fun os started H enc _ G => by rw [OpenClaim.pre_eq_preRow]; exact lifted os started H enc G)

theorem looks : true = Tryz.prog.looks [] := by kernel_rfl
theorem noStand : (Tryz.prog.wantsStandIn 26) = false := by kernel_rfl
theorem noStand3 : (Tryz.prog.wantsStandIn 3) = false := by kernel_rfl
theorem noStand23 : (Tryz.prog.wantsStandIn 23) = false := by kernel_rfl
theorem plain (f : FuncId) (fn : Func) (hf : Tryz.pinned.checked.prog.funcNamed "foregone/foregonelaw23.SearchGraphs" = some f) (hfn : Tryz.pinned.checked.prog.funcs[f]? = some fn) :
    true = Tryz.pinned.checked.prog.looks [] ∧ ∀ (j : Nat) t, fn.params[j]? = some t → Tryz.pinned.checked.prog.wantsStandIn t = false := by
  obtain rfl : f = 3 := Option.some.inj (named.symm.trans hf) |>.symm
  obtain rfl : fn = Tryz.f3 := (Option.some.inj (Tryz.func3.symm.trans hfn)).symm
  refine ⟨looks, fun j t ht => ?_⟩
  rw [Tryz.params3] at ht
  have : t = 26 ∨ t = 3 ∨ t = 23 := by simpa using Array.mem_of_getElem? ht
  rcases this with rfl | rfl | rfl
  · exact noStand
  · exact noStand3
  · exact noStand23
theorem wf : Rows.searchGraphsUptoRow.wfByText (Rows.OpenSpec.upto Rows.searchGraphsSpec) = true := by kernel_rfl
theorem mains : Tryz.pinned.checked.prog.mainIs = some (Rows.searchGraphsUptoCard.stood.harness.1, Rows.searchGraphsUptoCard.stood.harness.2.toList) := by kernel_rfl
theorem goes : false = Rows.searchGraphsUptoRow.goesBy Tryz.pinned.checked.prog := by
  have h0 : Rows.searchGraphsUptoRow.goesBy Tryz.pinned.checked.prog = (((Tryz.prog.funcNamed Rows.searchGraphsUptoRow.func).any Tryz.prog.goes) || false) := rfl
  rw [h0, named, Option.any_some, goes_none gnogo, Bool.or_false]

/-- The card. -/
theorem card : Rows.SearchGraphsUptoCardSaid :=
  Claim7.holds_tied_plain_at .later [] _ _ _ _ said (fun _ h => by cases h) wf (fun _ h => by cases h) (OpenClaim.laidByTextAt_later rfl rfl tied noUnsafe) rfl ⟨rfl, rfl⟩ mains rfl plain goes
#print axioms card
end Go.Proofs.YtgdbpnpolelfoaaGreatDoor.searchGraphs
