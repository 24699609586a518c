/- The interpreter: operations that write, code, calls, ranges over functions. Nothing is asked of the program. -/
import Derived.Test.YtflhojkjjlfegaaGreatDoorAiA
import Derived.Great.BuildSlice
import Derived.Laws.MakeOwn
import Derived.Laws.CopyRow
import Derived.Laws.AppendOwn
import Derived.Laws.IdiomStrings
import Derived.Laws.BytesString
import Derived.RangeFuncIn
/- Operations that make blocks. -/
namespace Go.AJ
open Go

section
variable {P : Program} {X : Cx} {ρ : Ren} {h : Hp} {w : World}

/-- What an operation that turns the heap comes to. -/
def Did (X : Cx) (ρ : Ren) (h : Hp) (w : World) (c : KV) (r : Result Value) : Prop :=
  ∃ z z' ρ' h' w', c z h' = true ∧ r = .ok z' w' ∧ VR ρ' z z' ∧ HR X ρ' h' w' ∧ Ext ρ h w ρ' h' w'

theorem HR.newCells (H : HR X ρ h w) {l : List V} {cs : Array Value} (hl : VL ρ l cs.toList) (ho : ∀ v ∈ l, v.one = true) (el sz : Nat) :
    HR X (ρ.add (nxt h) ⟨w.heap.size, 0, 0, sz, l.length⟩) (h.upd (nxt h) (.cells l)).bump (w.alloc (.cells cs el)) ∧
    Ext ρ h w (ρ.add (nxt h) ⟨w.heap.size, 0, 0, sz, l.length⟩) (h.upd (nxt h) (.cells l)).bump (w.alloc (.cells cs el)) := by
  have hn : ρ (nxt h) = none := H.fresh (Nat.le_refl _)
  refine H.newName (.cells l) ⟨w.heap.size, 0, 0, sz, l.length⟩ (.cells cs el) _ rfl rfl ⟨cs, el, (0, 0), rfl, rfl, ?_, ?_, ?_, ho⟩
  · have := hl.length
    simp only [Array.length_toList] at this
    simp [this]
  · intro i _; simp
  · have := hl.length
    simp only [List.drop_zero]
    rw [List.take_of_length_le (by omega)]
    exact hl.mono (Ren.add_sub hn)

theorem oBox_ok {v : V} {v' : Value} {c : KV} (H : HR X ρ h w) (hv : VR ρ v v') (el : Nat) (e : oBox v h c = true) : Did X ρ h w c ((Instr.box el v').run P w) := by
  obtain ⟨l, e, hl, ho⟩ := cellsV_eq e hv
  rw [newBlk_eq] at e
  obtain ⟨H', E⟩ := H.newCells hl ho el 0
  refine ⟨_, .pointer (some ⟨w.heap.size, 0, none⟩), _, _, _, e, ?_, .ptr _ 0 ⟨w.heap.size, 0, 0, 0, l.length⟩ (Ren.add_same _ _ _), H', E⟩
  simp [Instr.box, newVar, newRow]

theorem oAlloc_ok {z : List V} {z' : Value} {i : TypeInfo} {el : Nat} {c : KV} (H : HR X ρ h w) (hi : P.info? el = some i) (hz : i.zero = some z') (hl : VL ρ z z'.cells.toList) (ho : ∀ v ∈ z, v.one = true)
    (e : (newBlk h (.cells z) fun b h' => c (.ptr b 0) h') = true) : Did X ρ h w c ((Instr.alloc el true (.tuple #[])).run P w) := by
  rw [newBlk_eq] at e
  obtain ⟨H', E⟩ := H.newCells hl ho el 0
  refine ⟨_, .pointer (some ⟨w.heap.size, 0, none⟩), _, _, _, e, ?_, .ptr _ 0 ⟨w.heap.size, 0, 0, 0, z.length⟩ (Ren.add_same _ _ _), H', E⟩
  simp [Instr.alloc, run_zeroValue hi hz, newVar, newRow]

theorem rep_zeros {z : List V} {z' : Array Value} {n : Nat} (hl : VL ρ z z'.toList) (hn : z.length = n) (m : Nat) : VL ρ (rep m z) ((Array.range (m * n)).map (z'[· % z'.size]!)).toList := by
  have hlen := hl.length
  simp only [Array.length_toList] at hlen
  have hrep : ∀ m, (rep m z).length = m * z.length := by
    intro m
    induction m with
    | zero => simp [rep]
    | succ m ih => simp [rep, ih, Nat.succ_mul]; omega
  have get : ∀ m i, i < m * z.length → (rep m z)[i]? = z[i % z.length]? := by
    intro m
    induction m with
    | zero => intro i hi; simp at hi
    | succ m ih =>
      intro i hi
      rw [Nat.succ_mul] at hi
      rw [rep]
      by_cases h1 : i < z.length
      · rw [List.getElem?_append_left h1, Nat.mod_eq_of_lt h1]
      · rw [List.getElem?_append_right (by omega), ih _ (by omega), ← Nat.mod_eq_sub_mod (by omega)]
  refine VL.of_get ?_ fun i v hv => ?_
  · rw [Array.length_toList]; simp [hrep, hn]
  · have hi := (List.getElem?_eq_some_iff.1 hv).1
    rw [hrep] at hi
    rw [get m i hi] at hv
    obtain ⟨v', hv', hr⟩ := hl.get hv
    refine ⟨v', ?_, hr⟩
    rw [Array.getElem?_toList, Array.getElem?_map]
    have hi2 : i < m * n := by rw [← hn]; exact hi
    rw [Array.getElem?_range, if_pos hi2]
    simp only [Option.map_some, Option.some.injEq]
    rw [hlen] at hv'
    rw [Array.getElem?_toList] at hv'
    rw [getElem!_def, hv']

theorem rep_one {z : List V} (ho : ∀ v ∈ z, v.one = true) : ∀ (m : Nat), ∀ v ∈ rep m z, v.one = true := by
  intro m
  induction m with
  | zero => intro v hv; simp [rep] at hv
  | succ m ih =>
    intro v hv
    simp only [rep, List.mem_append] at hv
    rcases hv with h | h
    · exact ho _ h
    · exact ih _ h

theorem oMkSl_ok {t : T V} {ty el : Nat} {i : TypeInfo} {z' : Value} {ps : List (Nat × Nat × AJ.X)} {ps' : Array (Nat × Value)} {z : List V} {len : Nat} {c : KV} (H : HR X ρ h w) (hu : P.underlying ty = some (.slice el))
    (hi : P.info? el = some i) (hzz : i.zero = some z') (hp : PR ρ t (fun j => some (j * i.size, i.size)) ps ps'.toList) (hz : VL ρ z z'.cells.toList) (hn : z.length = i.size) (ho : ∀ v ∈ z, v.one = true)
    (hle : len * i.size ≤ 65536) (e : oMkSl t (rep len z) ps len h c = true) : Did X ρ h w c ((Instr.buildSlice ty len ps').run P w) := by
  have hz0 := rep_zeros hz hn len
  obtain ⟨z1, cs, e, hf, hv, ho1, _⟩ := fill_ok hp hz0 (rep_one ho len) e
  rw [newBlk_eq] at e
  obtain ⟨H', E⟩ := H.newCells hv ho1 el 0
  refine ⟨_, .slice (some ⟨w.heap.size, 0, none⟩) len len, _, _, _, e, ?_, .slc _ 0 len len ⟨w.heap.size, 0, 0, 0, z1.length⟩ (Ren.add_same _ _ _), H', E⟩
  by_cases hpos : len * i.size = 0
  · have e0 : ∀ f : Nat → Value, (Array.range 0).map f = #[] := fun f => by simp [Array.range_zero']
    rw [hpos, e0] at hf
    simp [Instr.buildSlice, run_underlying hu, run_sizeOf hi, hpos, e0, hf, newRow]
  · exact run_buildSlice w ty el len ps' cs i z' hu hi hzz (by omega) hpos hf

theorem oMkmap_ok {ty : Nat} {c : KV} (H : HR X ρ h w) (e : (newBlk h (.map [] 0) fun b h' => c (.map b) h') = true) : Did X ρ h w c ((Instr.makeMap ty none).run P w) := by
  rw [newBlk_eq] at e
  obtain ⟨H', E⟩ := H.newName (.map [] 0) ⟨w.heap.size, 0, 0, 0, 0⟩ (.map #[] 0) _ rfl rfl ⟨#[], rfl, .nil⟩
  refine ⟨_, .map (some w.heap.size), _, _, _, e, ?_, .map _ ⟨w.heap.size, 0, 0, 0, 0⟩ (Ren.add_same _ _ _), H', E⟩
  simp [Instr.makeMap]

theorem mkslice_bounds {cp b : Nat} (h : cp * (b + 1) ≤ 1000000000) : (b : Int) * (Int.ofNat cp) ≤ 281474976710656 ∧ Int.ofNat cp ≤ 9223372036854775807 := by
  rw [Nat.mul_add, Nat.mul_one] at h
  have h1 : b * cp ≤ 1000000000 := by rw [Nat.mul_comm]; omega
  have h2 : ((b * cp : Nat) : Int) ≤ 1000000000 := by omega
  rw [Int.natCast_mul] at h2
  simp only [Int.ofNat_eq_natCast]
  exact ⟨by omega, by omega⟩

theorem oMkslice_ok {ty el : Nat} {i : TypeInfo} {z' : Value} {z : List V} {l cp : V} {l' cp' : Value} {c : KV} (H : HR X ρ h w) (hu : P.underlying ty = some (.slice el))
    (hi : P.info? el = some i) (hzz : i.zero = some z') (hz : VL ρ z z'.cells.toList) (hn : z.length = i.size) (ho : ∀ v ∈ z, v.one = true) (hl : VR ρ l l') (hc : VR ρ cp cp')
    (e : oMkslice l cp z i.bytes h c = true) : Did X ρ h w c ((Instr.makeSlice ty l' cp').run P w) := by
  cases hl with
  | int kl nl =>
    cases hc with
    | int kc nc =>
      cases nl with
      | negSucc m => simp [oMkslice] at e
      | ofNat l =>
        cases nc with
        | negSucc m => simp [oMkslice] at e
        | ofNat cp =>
          simp only [oMkslice] at e
          split at e
          · rename_i h1
            have h1 := Nat.le_of_ble_eq_true h1
            split at e
            · rename_i h2
              have h2 := Nat.le_of_ble_eq_true h2
              rw [newBlk_eq] at e
              have hz0 := rep_zeros hz hn cp
              obtain ⟨H', E⟩ := H.newCells hz0 (rep_one ho cp) el 0
              refine ⟨_, .slice (some ⟨w.heap.size, 0, none⟩) l cp, _, _, _, e, ?_, .slc _ 0 l cp ⟨w.heap.size, 0, 0, 0, _⟩ (Ren.add_same _ _ _), H', E⟩
              obtain ⟨hb1, hb2⟩ := mkslice_bounds h2
              exact run_make w ty el i z' hu hi hzz kl kc (Int.ofNat l) (Int.ofNat cp) (by simp) (by simpa using h1) hb1 hb2
            · cases e
          · cases e
    | _ => simp [oMkslice] at e
  | _ => simp [oMkslice] at e

end
end Go.AJ

/- Operations that write into blocks. -/
namespace Go.AJ
open Go

section
variable {P : Program} {X : Cx} {ρ : Ren} {h : Hp} {w : World}

theorem setRow_set (w : World) (g : Nat) (old cs : Array Value) (t : TypeId) (fz : Nat × Nat) (hg : w.heap[g]? = some (.cells old t fz)) : (w.setRow g cs).heap = w.heap.set! g (.cells cs t fz) := by
  have hlt := (Array.getElem?_eq_some_iff.1 hg).1
  apply Array.ext_getElem?
  intro i
  rw [Array.set!_eq_setIfInBounds]
  by_cases hi : i = g
  · subst hi
    rw [setRow_heap w i old cs t fz hg]
    simp [hlt]
  · rw [setRow_other w g i cs hi, Array.getElem?_setIfInBounds_ne (Ne.symm hi)]

theorem run_storeCells_fz (P : Program) (g o : Nat) (t : TypeId) (fz : Nat × Nat) : ∀ (vs : List Value) (i : Nat) (cur : Array Value) (w : World), w.heap[g]? = some (.cells cur t fz) → (∀ i, i < cur.size → ¬ (fz.1 ≤ i ∧ i < fz.2)) → o + i + vs.length ≤ cur.size → (∀ v ∈ vs, v.oneCell' = true) →
    (storeCells ⟨g, o, none⟩ vs i).run P w = .ok () (w.setRow g (cur.toList.take (o + i) ++ vs ++ cur.toList.drop (o + i + vs.length)).toArray)
  | [], i, cur, w, hg, _, _, _ => by
    simp only [storeCells, List.append_nil, List.length_nil, Nat.add_zero, List.take_append_drop, Array.toArray_toList]
    rw [setRow_self w g cur t fz hg]
    rfl
  | v :: rest, i, cur, w, hg, hfz, hl, h1 => by
    have hi : o + i < cur.size := by simp at hl; omega
    have hadd : (⟨g, o, none⟩ : Addr).add i = ⟨g, o + i, none⟩ := by unfold Addr.add; split <;> simp_all
    have hcell : w.cell? ⟨g, o + i, none⟩ = some cur[o + i] := by simp [World.cell?, hg, hi]
    have hfro : w.frozen? ⟨g, o + i, none⟩ = false := by
      obtain ⟨lo, hi'⟩ := fz
      have := hfz (o + i) hi
      simp only [World.frozen?, hg, Bool.and_eq_false_iff, decide_eq_false_iff_not]
      simp only at this
      omega
    have hst : (store ((⟨g, o, none⟩ : Addr).add i) v).run P w = .ok () (w.setRow g (cur.setIfInBounds (o + i) v)) := by
      rw [hadd, run_store P w _ v _ (h1 v (by simp)), hcell]
      simp [hfro, setCell_eq_setRow w g (o + i) cur t fz v hg]
    have ih := run_storeCells_fz P g o t fz rest (i + 1) (cur.setIfInBounds (o + i) v) (w.setRow g (cur.setIfInBounds (o + i) v)) (setRow_heap w g cur _ t _ hg) (by simpa using hfz) (by simp at hl ⊢; omega) (fun x hx => h1 x (by simp [hx]))
    simp only [storeCells, Sem.run_bind, hst, Result.andThen_ok, ih, setRow_setRow]
    congr 3
    have e := list_seg_step cur.toList (o + i) v rest (by simp at hl ⊢; omega)
    simpa [Array.toList_setIfInBounds, Nat.add_assoc] using e

theorem seg_lay {α : Type} (c vs : List α) (d fill off : Nat) (h1 : off + vs.length ≤ fill) (h2 : d + fill ≤ c.length) :
    ((c.take (off + d) ++ vs ++ c.drop (off + d + vs.length)).drop d).take fill = ((c.drop d).take fill).take off ++ vs ++ ((c.drop d).take fill).drop (off + vs.length) := by
  apply List.ext_getElem?
  intro i
  by_cases hi : i < fill
  · rw [List.getElem?_take_of_lt hi, List.getElem?_drop]
    by_cases ha : i < off
    · rw [List.append_assoc, List.getElem?_append_left (by simp; omega), List.append_assoc, List.getElem?_append_left (by simp; omega)]
      rw [List.getElem?_take_of_lt (by omega), List.getElem?_take_of_lt ha, List.getElem?_take_of_lt hi, List.getElem?_drop]
    · by_cases hb : i < off + vs.length
      · rw [List.append_assoc, List.getElem?_append_right (by simp; omega), List.getElem?_append_left (by simp; omega), List.append_assoc, List.getElem?_append_right (by simp; omega), List.getElem?_append_left (by simp; omega)]
        simp only [List.length_take, List.length_drop]
        congr 1
        omega
      · rw [List.getElem?_append_right (by simp; omega), List.getElem?_append_right (by simp; omega), List.getElem?_drop, List.getElem?_drop]
        simp only [List.length_append, List.length_take, List.length_drop]
        rw [List.getElem?_take_of_lt (by omega), List.getElem?_drop]
        congr 1
        omega
  · rw [List.getElem?_eq_none (by simp; omega), List.getElem?_eq_none (by simp; omega)]

theorem VL.one {l : List V} {l' : List Value} (h : VL ρ l l') (ho : ∀ v ∈ l, v.one = true) : ∀ v ∈ l', v.oneCell' = true := by
  induction l generalizing l' with
  | nil => cases h; simp
  | cons v l ih =>
    cases h with
    | cons _ v' _ l' h hl =>
      intro x hx
      rcases List.mem_cons.1 hx with rfl | hx
      · rw [← h.one]; exact ho _ (.head _)
      · exact ih hl (fun y hy => ho y (.tail _ hy)) x hx

/-- Cells are laid into a block that has a name. -/
theorem HR.lay (H : HR X ρ h w) {b : K} {l : List V} {r : RB} (hb : blk h b = .cells l) (hr : ρ b = some r) {q : List V} {vs : List Value} {off : Nat} (hq : VL ρ q vs) (hqo : ∀ v ∈ q, v.one = true)
    (hle : off + q.length ≤ l.length) :
    ∃ w', (storeCells ⟨r.blk, off + r.d, none⟩ vs).run P w = .ok () w' ∧ HR X ρ (h.upd b (.cells (AJ.lay off l q))) w' ∧ Ext ρ h w ρ (h.upd b (.cells (AJ.lay off l q))) w' := by
  obtain ⟨c, t, fz, hw, hl, hs, hfz, hvl, ho⟩ := H.cells hb hr
  have hql := hq.length
  have hrun := run_storeCells_fz P r.blk (off + r.d) t fz vs 0 c w hw hfz (by omega) (hq.one hqo)
  simp only [Nat.add_zero] at hrun
  refine ⟨_, hrun, H.turn (by rw [hb]; simp) hr _ _ _ (setRow_set w r.blk c _ t fz hw) rfl rfl rfl ⟨_, t, fz, rfl, ?_, ?_, ?_, ?_, ?_⟩⟩
  · rw [lay_length hle, hl]
  · simp only [List.size_toArray, List.length_append, List.length_take, List.length_drop, Array.length_toList]; omega
  · intro i hi
    simp only [List.size_toArray, List.length_append, List.length_take, List.length_drop, Array.length_toList] at hi
    exact hfz i (by omega)
  · simp only
    rw [seg_lay c.toList vs r.d r.fill off (by omega) (by simp; omega)]
    unfold AJ.lay
    rw [hql]
    exact ((hvl.take off).append hq).append (hvl.drop _)
  · exact lay_one ho hqo

/-- What an operation without an answer comes to. -/
def DidU (X : Cx) (ρ : Ren) (h : Hp) (w : World) (c : Hp → Bool) (r : Result Unit) : Prop :=
  ∃ h' w', c h' = true ∧ r = .ok () w' ∧ HR X ρ h' w' ∧ Ext ρ h w ρ h' w'

theorem oStore_ok {a x : V} {a' x' : Value} {t : Nat} {i : TypeInfo} {c : Hp → Bool} (H : HR X ρ h w) (hi : P.info? t = some i) (ha : VR ρ a a') (hx : VR ρ x x') (e : oStore a x i.size h c = true) :
    DidU X ρ h w c ((Instr.storeAt t a' x').run P w) := by
  cases ha with
  | ptr b o r hr =>
    simp only [oStore] at e
    split at e
    · cases e
    · rename_i n hn
      obtain ⟨q, e, hq, hqo⟩ := cellsV_eq e hx
      obtain ⟨hlen, e⟩ := lenIs_eq _ _ _ e
      obtain ⟨l, hb, e⟩ := cellsOf_eq e
      obtain ⟨hle, e⟩ := splice_eq _ _ _ _ e
      rw [putBlk_eq] at e
      obtain ⟨w', hrun, H', E⟩ := H.lay (P := P) hb hr hq hqo hle
      refine ⟨_, w', e, ?_, H', E⟩
      have hsz : x'.cells.size = i.size := by
        have := hq.length
        simp only [Array.length_toList] at this
        omega
      simp [Instr.storeAt, Instr.sureAddr, storeVar, run_sizeOf hi, hsz, hrun]
  | _ => simp [oStore] at e

end
end Go.AJ

/- Maps that are written into; slices. -/
namespace Go.AJ
open Go

section
variable {P : Program} {X : Cx} {ρ : Ren} {h : Hp} {w : World}

theorem mapSet_ok {q : CK} {D : TypeDesc} (hq : ckOf D = some q) {k x : V} {k' x' : Value} {clock : Nat} {c : List ME → Nat → Bool} (hk : VR ρ k k') (hx : VR ρ x x') :
    ∀ {es : List ME} {es' : List MapEntry} (i : Nat), MR ρ es es' → mapSet q k x clock es c = true →
    ∃ r, Instr.findNow D k' es' i = some r ∧ (match r with
      | none => ∃ es1, c es1 (clock + 1) = true ∧ MR ρ es1 (es' ++ [⟨k', x', clock⟩])
      | some p => ∃ es1 e0, i ≤ p.1 ∧ es'[p.1 - i]? = some e0 ∧ Instr.sameBits 10000 e0.key k' = true ∧ c es1 clock = true ∧ MR ρ es1 (es'.modify (p.1 - i) fun e => { e with key := k', val := x' })) := by
  intro es
  induction es generalizing c with
  | nil =>
    intro es' i hm e
    cases hm
    exact ⟨none, rfl, _, e, .cons _ _ _ _ _ _ _ hk hx .nil⟩
  | cons y es ih =>
    intro es' i hm e
    cases hm with
    | cons ek ev ek' ev' b l l' hek hev hl =>
      simp only [mapSet] at e
      obtain ⟨r, hc, hs, hbits⟩ := eqCell_now hq hk hek e
      cases r with
      | true =>
        refine ⟨some (i, ev'), by simp [Instr.findNow, hs], _, ⟨ek', ev', b⟩, Nat.le_refl _, by simp, ?_, hc, ?_⟩
        · exact hbits rfl
        · simp
          exact .cons _ _ _ _ _ _ _ hk hx hl
      | false =>
        obtain ⟨r, hr, rest⟩ := ih (i + 1) hl hc
        refine ⟨r, by simp [Instr.findNow, hs, hr], ?_⟩
        cases r with
        | none =>
          obtain ⟨es1, hc1, hm1⟩ := rest
          exact ⟨_, hc1, .cons _ _ _ _ _ _ _ hek hev hm1⟩
        | some p =>
          obtain ⟨es1, e0, hle, hget, hb2, hc1, hm1⟩ := rest
          refine ⟨_, e0, by omega, ?_, hb2, hc1, ?_⟩
          · rw [show p.1 - i = (p.1 - (i + 1)) + 1 by omega]; simpa using hget
          · rw [show p.1 - i = (p.1 - (i + 1)) + 1 by omega]
            simp only [List.modify_succ_cons]
            exact .cons _ _ _ _ _ _ _ hek hev hm1

theorem run_setMap {r : Nat} {es : Array MapEntry} {clock : Nat} (hb : w.heap[r]? = some (.map es clock)) (o : Obj) :
    ∃ w', (setObj r o).run P w = .ok () w' ∧ w'.heap = w.heap.set! r o ∧ w'.os = w.os ∧ w'.tape = w.tape ∧ w'.output = w.output :=
  ⟨{ w with heap := w.heap.setIfInBounds r o }, by simp [setObj, Sem.run, hb], by rw [Array.set!_eq_setIfInBounds], rfl, rfl, rfl⟩

theorem oMapset_ok {q : CK} {ty kt el : Nat} {D : TypeDesc} {m k x : V} {m' k' x' : Value} {c : Hp → Bool} (H : HR X ρ h w) (hu : P.underlying ty = some (.map kt el)) (huk : P.underlying kt = some D)
    (hq : ckOf D = some q) (hm : VR ρ m m') (hk : VR ρ k k') (hx : VR ρ x x') (e : oMapset q m k x h c = true) : DidU X ρ h w c ((Instr.mapUpdate ty m' k' x').run P w) := by
  cases hm with
  | map b r hr =>
    simp only [oMapset] at e
    split at e
    · rename_i es clock hb
      have hbn : blk h b ≠ .none := by rw [hb]; simp
      obtain ⟨o, ho, hbr⟩ := H.live b r hbn hr
      rw [hb] at hbr
      obtain ⟨es', rfl, hmr⟩ := hbr
      obtain ⟨res, hf, hres⟩ := mapSet_ok hq hk hx 0 hmr e
      have hg : (getObj r.blk).run P w = .ok (.map es' clock) w := by simp [getObj, Sem.run, ho]
      have hfk := run_findKey (P := P) huk hf w
      have hck := fun w => run_checkKey (P := P) (em := false) (n := 9999) huk hq k' w
      cases res with
      | none =>
        obtain ⟨es1, hc1, hm1⟩ := hres
        rw [putBlk_eq] at hc1
        obtain ⟨w', hw', h1, h2, h3, h4⟩ := run_setMap (P := P) ho (.map (es'.push ⟨k', x', clock⟩) (clock + 1))
        obtain ⟨H', E⟩ := H.turn hbn hr (.map es1 (clock + 1)) _ w' h1 h2 h3 h4 ⟨_, rfl, by simpa using hm1⟩
        refine ⟨_, w', hc1, ?_, H', E⟩
        simp [Instr.mapUpdate, run_underlying hu, hck, hg, hfk, hw']
      | some p =>
        obtain ⟨es1, e0, hle, hget, hbits, hc1, hm1⟩ := hres
        rw [putBlk_eq] at hc1
        simp only [Nat.sub_zero] at hget hm1
        obtain ⟨w', hw', h1, h2, h3, h4⟩ := run_setMap (P := P) ho (.map (es'.modify p.1 fun e => { e with key := k', val := x' }) clock)
        obtain ⟨H', E⟩ := H.turn hbn hr (.map es1 clock) _ w' h1 h2 h3 h4 ⟨_, rfl, by simpa using hm1⟩
        refine ⟨_, w', hc1, ?_, H', E⟩
        have hg0 : es'[p.1]? = some e0 := by simpa using hget
        have hk2 : (Instr.keyThatStays e0.key k').run P w = .ok k' w := by
          simp only [Instr.keyThatStays, hbits, if_true, Sem.run_pure]
        simp only [Instr.mapUpdate, Sem.run_bind, run_underlying hu, Result.andThen_ok, hg, hck, hfk, hg0, Option.map_some, Option.getD_some, hk2, hw']
    · cases e
  | _ => simp [oMapset] at e

theorem Addr.add_none (b o n : Nat) : (⟨b, o, none⟩ : Addr).add n = ⟨b, o + n, none⟩ := Addr.add_lit b o n

theorem cutC_ok {b : K} {r : RB} {off sz l hi m : Nat} {c : KV} (hr : ρ b = some r) (e : cutC b off sz l hi m h c = true) :
    ∃ z, c z h = true ∧ VR ρ z (.slice (some (if m = l then ⟨r.blk, off + r.d, none⟩ else (⟨r.blk, off + r.d, none⟩ : Addr).add (l * sz))) (hi - l) (m - l)) := by
  simp only [cutC, force_eq] at e
  split at e
  · rename_i hq
    have := Nat.eq_of_beq_eq_true hq
    rw [if_pos this]
    exact ⟨_, e, .slc b off _ _ r hr⟩
  · rename_i hq
    have : m ≠ l := fun e => by subst e; simp at hq
    rw [if_neg this, Addr.add_none]
    refine ⟨_, e, ?_⟩
    have := VR.slc (ρ := ρ) b (off + l * sz) (hi - l) (m - l) r hr
    rw [show off + l * sz + r.d = off + r.d + l * sz by omega] at this
    exact this

theorem oSliceA_ok {x : V} {x' : Value} {lo hi : Option V} {lo' hi' : Option Value} {t el n : Nat} {ti : TypeInfo} {c : KV} (hu : P.underlying t = some (.array n el)) (hi0 : P.info? el = some ti)
    (hx : VR ρ x x') (hl : OptR ρ lo lo') (hh : OptR ρ hi hi') (e : oSliceA x lo hi none ti.size n h c = true) : ∃ z z', c z h = true ∧ (Instr.sliceAt t x' lo' hi' none).run P w = .ok z' w ∧ VR ρ z z' := by
  cases hx with
  | ptr b o r hr =>
    simp only [oSliceA] at e
    obtain ⟨m, e, hm, h1, h2⟩ := bnd_ok (P := P) hh e (Nat.le_refl _) .sliceAlen w
    obtain ⟨l, e, hl', h3, h4⟩ := bnd_ok (P := P) hl e (Nat.le_refl _) .sliceB w
    obtain ⟨z, hz, hv⟩ := cutC_ok hr e
    refine ⟨z, _, hz, ?_, hv⟩
    simp [Instr.sliceAt, run_underlying hu, Instr.sureAddr, bounds2 (isS := false) hm hl', run_sizeOf hi0]
  | _ => simp [oSliceA] at e

theorem Did.of_pure {c : KV} {r : Result Value} (H : HR X ρ h w) (hd : ∃ z z', c z h = true ∧ r = .ok z' w ∧ VR ρ z z') : Did X ρ h w c r := by
  obtain ⟨z, z', h1, h2, h3⟩ := hd
  exact ⟨z, z', ρ, h, w, h1, h2, h3, H, Ext.refl _ _ _⟩

theorem cutO_ok {b : K} {r : RB} {off op sz l hi m : Nat} {c : KV} (H : HR X ρ h w) (hr : ρ b = some r) (hp : r.sz = op) (hop : op ≠ 0) (hf : off + m * op = r.fill) (hlh : l ≤ hi) (e : cutO b off op sz l hi m h c = true) :
    Did X ρ h w c (.ok (.slice (if m + r.x = l then some ⟨r.blk, off + r.d, none⟩ else (some ⟨r.blk, off + r.d, none⟩ : Option Addr).map (·.add (l * sz))) (hi - l) (m + r.x - l)) w) := by
  obtain ⟨p, rfl⟩ : ∃ p, op = p + 1 := ⟨op - 1, by omega⟩
  simp only [cutO, force_eq] at e
  split at e
  · cases e
  · rename_i hsz
    have hsz := Nat.eq_of_beq_eq_true hsz
    subst hsz
    split at e
    · cases e
    rename_i hhm
    have hhm := Nat.le_of_ble_eq_true hhm
    split at e
    · rename_i hml
      have hml := Nat.eq_of_beq_eq_true hml
      subst hml
      split at e
      · have e1 : (if 0 + r.x = 0 then (some ⟨r.blk, off + r.d, none⟩ : Option Addr) else (some ⟨r.blk, off + r.d, none⟩ : Option Addr).map (·.add (0 * (p + 1)))) = some ⟨r.blk, off + r.d, none⟩ := by
          split
          · rfl
          · simp [Addr.add_none]
        rw [e1]
        refine Did.of_pure H ⟨_, _, e, rfl, ?_⟩
        simpa using VR.slo (ρ := ρ) b off hi 0 p r hr hp hf
      · rename_i m0 _
        obtain ⟨H', E⟩ := H.dead ⟨r.blk, if r.x = 0 then off + r.d else off + r.d + (m0 + 1) * (p + 1), r.x, r.sz, 0⟩
        have e1 : c (.sl (nxt h) 0 0 0 (p + 1)) h.bump = true := by cases h; exact e
        refine ⟨_, _, _, _, w, e1, rfl, ?_, H', E⟩
        have hv := VR.slo (ρ := ρ.add (nxt h) ⟨r.blk, if r.x = 0 then off + r.d else off + r.d + (m0 + 1) * (p + 1), r.x, r.sz, 0⟩) (nxt h) 0 0 0 p _ (Ren.add_same _ _ _) hp (by simp)
        simp only [Nat.zero_add] at hv
        have e2 : hi - (m0 + 1) = 0 := by omega
        have e3 : m0 + 1 + r.x - (m0 + 1) = r.x := by omega
        rw [e2, e3]
        by_cases hx0 : r.x = 0
        · rw [if_pos (by omega)]
          simpa [hx0] using hv
        · rw [if_neg (by omega)]
          simpa [hx0, Addr.add_none] using hv
    · rename_i hml
      have hne : m ≠ l := fun e => by subst e; simp at hml
      refine Did.of_pure H ⟨_, _, e, rfl, ?_⟩
      rw [if_neg (by omega)]
      simp only [Option.map_some, Addr.add_none]
      have h1 : (m - l) * (p + 1) + l * (p + 1) = m * (p + 1) := by rw [← Nat.add_mul]; congr 1; omega
      have hv := VR.slo (ρ := ρ) b (off + l * (p + 1)) (hi - l) (m - l) p r hr hp (by omega)
      rw [show off + l * (p + 1) + r.d = off + r.d + l * (p + 1) by omega, show m - l + r.x = m + r.x - l by omega] at hv
      exact hv

theorem oSlice_ok {x : V} {x' : Value} {lo hi mx : Option V} {lo' hi' mx' : Option Value} {t el : Nat} {ti : TypeInfo} {c : KV} (H : HR X ρ h w) (hu : P.underlying t = some (.slice el)) (hi0 : P.info? el = some ti)
    (hx : VR ρ x x') (hl : OptR ρ lo lo') (hh : OptR ρ hi hi') (hm : OptR ρ mx mx') (e : oSlice x lo hi mx ti.size h c = true) : Did X ρ h w c ((Instr.sliceAt t x' lo' hi' mx').run P w) := by
  have run : ∀ {a : Option Addr} {len cp l n m : Nat}, (Instr.sliceBounds true len cp lo' hi' mx').run P w = .ok (l, n, m) w →
      (Instr.sliceAt t (.slice a len cp) lo' hi' mx').run P w = .ok (.slice (if m = l then a else a.map (·.add (l * ti.size))) (n - l) (m - l)) w := fun hb => by
    simp [Instr.sliceAt, run_underlying hu, Instr.slice, hb, run_sizeOf hi0]
  have most : ∀ {v : Option V} {n d k : Nat}, (v = none → n = d) → (v ≠ none → n ≤ k) → d ≤ k → n ≤ k := fun {v} {n} {d} {k} h1 h2 h3 => by
    cases v with
    | none => rw [h1 rfl]; exact h3
    | some v => exact h2 (by simp)
  cases hx with
  | nils =>
    simp only [oSlice] at e
    cases hm with
    | some mv mv' hmv =>
      simp only at e
      cases hh with
      | none => cases e
      | some hv1 hv1' hhv =>
        simp only at e
        obtain ⟨m, e, hm', h5, h6⟩ := bnd_ok (P := P) (.some _ _ hmv) e (Nat.le_refl _) .slice3Acap w
        obtain ⟨n, e, hn, h1, h2⟩ := bnd_ok (P := P) (.some _ _ hhv) e (Nat.zero_le m) .slice3B w
        obtain ⟨l, e, hl', h3, h4⟩ := bnd_ok (P := P) hl e (Nat.zero_le n) .slice3C w
        have m0 : m = 0 := Nat.le_zero.1 (most h5 h6 (Nat.le_refl _))
        have n0 : n = 0 := Nat.le_zero.1 (most h1 h2 (Nat.le_refl _))
        have l0 : l = 0 := Nat.le_zero.1 (most h3 h4 (Nat.le_refl _))
        subst m0 n0 l0
        rw [run (bounds3 (isS := true) hm' hn hl')]
        exact Did.of_pure H ⟨_, _, e, rfl, by simpa using VR.nils⟩
    | none =>
      simp only at e
      obtain ⟨n, e, hn, h1, h2⟩ := bnd_ok (P := P) hh e (Nat.le_refl _) .sliceAcap w
      obtain ⟨l, e, hl', h3, h4⟩ := bnd_ok (P := P) hl e (Nat.zero_le n) .sliceB w
      have n0 : n = 0 := Nat.le_zero.1 (most h1 h2 (Nat.le_refl _))
      have l0 : l = 0 := Nat.le_zero.1 (most h3 h4 (Nat.le_refl _))
      subst n0 l0
      rw [run (bounds2 (isS := true) hn hl')]
      exact Did.of_pure H ⟨_, _, e, rfl, by simpa using VR.nils⟩
  | slc b o len cp r hr =>
    simp only [oSlice] at e
    cases hm with
    | none =>
      simp only at e
      obtain ⟨n, e, hn, h1, h2⟩ := bnd_ok (P := P) hh e (Nat.le_refl _) .sliceAcap w
      obtain ⟨l, e, hl', h3, h4⟩ := bnd_ok (P := P) hl e (Nat.le_refl _) .sliceB w
      rw [run (bounds2 (isS := true) hn hl')]
      obtain ⟨z, hz, hv⟩ := cutC_ok hr e
      refine Did.of_pure H ⟨z, _, hz, rfl, ?_⟩
      by_cases hml : cp = l <;> simpa [hml] using hv
    | some mv mv' hmv =>
      simp only at e
      obtain ⟨m, e, hm', h5, h6⟩ := bnd_ok (P := P) (.some _ _ hmv) e (Nat.le_refl _) .slice3Acap w
      cases hh with
      | none => cases e
      | some hv1 hv1' hhv =>
        simp only at e
        obtain ⟨n, e, hn, h1, h2⟩ := bnd_ok (P := P) (.some _ _ hhv) e (Nat.le_refl _) .slice3B w
        obtain ⟨l, e, hl', h3, h4⟩ := bnd_ok (P := P) hl e (Nat.le_refl _) .slice3C w
        rw [run (bounds3 (isS := true) hm' hn hl')]
        obtain ⟨z, hz, hv⟩ := cutC_ok hr e
        refine Did.of_pure H ⟨z, _, hz, rfl, ?_⟩
        by_cases hml : m = l <;> simpa [hml] using hv
  | slo b o len cp p r hr hp hf =>
    simp only [oSlice] at e
    cases hm with
    | none =>
      simp only at e
      obtain ⟨n, e, hn, h1, h2⟩ := bnd_ok (P := P) hh e (show cp ≤ cp + r.x by omega) .sliceAcap w
      obtain ⟨l, e, hl', h3, h4⟩ := bnd_ok (P := P) hl e (Nat.le_refl _) .sliceB w
      rw [run (bounds2 (isS := true) hn hl')]
      have hln : l ≤ n := most h3 h4 (Nat.zero_le _)
      exact cutO_ok H hr hp (by omega) hf hln e
    | some mv mv' hmv =>
      simp only at e
      obtain ⟨m, e, hm', h5, h6⟩ := bnd_ok (P := P) (.some _ _ hmv) e (show cp ≤ cp + r.x by omega) .slice3Acap w
      cases hh with
      | none => cases e
      | some hv1 hv1' hhv =>
        simp only at e
        obtain ⟨n, e, hn, h1, h2⟩ := bnd_ok (P := P) (.some _ _ hhv) e (Nat.le_refl _) .slice3B w
        obtain ⟨l, e, hl', h3, h4⟩ := bnd_ok (P := P) hl e (Nat.le_refl _) .slice3C w
        rw [run (bounds3 (isS := true) hm' hn hl')]
        split at e
        · obtain ⟨z, hz, hv⟩ := cutC_ok hr e
          refine Did.of_pure H ⟨z, _, hz, rfl, ?_⟩
          by_cases hml : m = l <;> simpa [hml] using hv
        · cases e
  | _ => simp [oSlice] at e

end
end Go.AJ

/- 'append'. -/
namespace Go.AJ
open Go

section
variable {P : Program} {X : Cx} {ρ : Ren} {h : Hp} {w : World}

/-- What is appended. -/
structure Src (P : Program) (w : World) (elem sz : Nat) (d : TypeDesc) (x : Value) (n : Nat) (news : Array Value) : Prop where
  kind : (∃ k m, d = .int k ∧ x = .int m (n : Int) ∧ (n : Int) ≤ 1000000000 ∧ (n : Int) * (((P.info? elem).map (·.bytes)).getD 0 : Nat) ≤ 1000000000 ∧ ∃ z, (∀ w, (zeroValue elem).run P w = .ok z w) ∧ news = Builtin.zeroCells z.cells n) ∨
    (((∃ e, d = .slice e) ∨ d = .string) ∧ (Builtin.lenOf x).run P w = .ok n w ∧ ∀ k, (Builtin.firstCells sz n x).run P { w with drawn := k } = .ok news { w with drawn := k })
  size : news.size = n * sz

theorem run_append_in {t u ty elem : Nat} {i : TypeInfo} {d : TypeDesc} {base : Option Addr} {sLen sCap n : Nat} {x : Value} {news : Array Value} {w' : World} (ht : P.underlying t = some (.slice elem)) (hu : P.underlying u = some d)
    (hi : P.info? elem = some i) (hx : Src P w elem i.size d x n news) (hroom : sLen + n ≤ sCap)
    (hst : match base with | none => w' = w | some a => (storeCells (a.add (sLen * i.size)) news.toList).run P w = .ok () w') :
    (Builtin.append_ #[t, u] ty #[.slice base sLen sCap, x]).run P w = .ok (.slice base (sLen + n) sCap) w' := by
  rcases hx.kind with ⟨k, m, rfl, rfl, hn1, hn2, z, hz, rfl⟩ | ⟨hd, hlen, hf⟩
  · simp only [hi, Option.map_some, Option.getD_some] at hn2
    have wn : IntKind.i64.wrap (n : Int) = n := wrap_i64_of (by omega) (by omega)
    have c1 : ¬ ((n : Int) < 0) := by omega
    have c2 : ¬ (281474976710656 < (n : Int) * (i.bytes : Int)) := by omega
    have hemp : n * i.size = 0 → Builtin.zeroCells z.cells n = #[] := fun h0 => Array.eq_empty_of_size_eq_zero (by rw [hx.size, h0])
    by_cases h0 : n * i.size = 0
    · rw [hemp h0] at hst
      cases base with
      | none =>
        subst hst
        simp [Builtin.append_, run_underlying ht, run_underlying hu, run_sizeOf hi, run_typeInfo hi, asInt, asIntOf, wn, c1, c2, hroom, h0]
      | some a =>
        simp at hst
        simp [Builtin.append_, run_underlying ht, run_underlying hu, run_sizeOf hi, run_typeInfo hi, asInt, asIntOf, wn, c1, c2, hroom, h0, hst]
    · cases base with
      | none =>
        subst hst
        simp [Builtin.append_, run_underlying ht, run_underlying hu, run_sizeOf hi, run_typeInfo hi, asInt, asIntOf, wn, c1, c2, hroom, hz]
      | some a =>
        simp at hst
        simp [Builtin.append_, run_underlying ht, run_underlying hu, run_sizeOf hi, run_typeInfo hi, asInt, asIntOf, wn, c1, c2, hroom, h0, hz, hst]
  · have hf' : (Builtin.firstCells i.size n x).run P w = .ok news w := hf w.drawn
    rcases hd with ⟨e, rfl⟩ | rfl
    · cases base with
      | none => subst hst; simp [Builtin.append_, run_underlying ht, run_underlying hu, run_sizeOf hi, hlen, hroom, hf']
      | some a => simp [Builtin.append_, run_underlying ht, run_underlying hu, run_sizeOf hi, hlen, hroom, hf', hst]
    · cases base with
      | none => subst hst; simp [Builtin.append_, run_underlying ht, run_underlying hu, run_sizeOf hi, hlen, hroom, hf']
      | some a => simp [Builtin.append_, run_underlying ht, run_underlying hu, run_sizeOf hi, hlen, hroom, hf', hst]

theorem run_append_out {t u ty elem : Nat} {i : TypeInfo} {z : Value} {d : TypeDesc} {base : Option Addr} {sLen sCap n : Nat} {x : Value} {news olds : Array Value} (ht : P.underlying t = some (.slice elem)) (hu : P.underlying u = some d)
    (hi : P.info? elem = some i) (hz : i.zero = some z) (hx : Src P w elem i.size d x n news) (hroom : sCap < sLen + n) (h63 : sLen + n ≤ 1000000000) (hby : (sLen + n) * i.bytes ≤ 1000000000)
    (hold : (Builtin.firstCells i.size sLen (.slice base sLen sCap)).run P w.drew = .ok olds w.drew) :
    (Builtin.append_ #[t, u] ty #[.slice base sLen sCap, x]).run P w = .ok (.slice (some ⟨w.heap.size, 0, none⟩) (sLen + n) (grownCap w (sLen + n) sCap elem))
        (w.drew.alloc (.cells (olds ++ news ++ Builtin.zeroCells z.cells (grownCap w (sLen + n) sCap elem - (sLen + n))) elem)) := by
  have hn : ¬ (sLen + n ≤ sCap) := by omega
  have h63' : ¬ (9223372036854775807 < ((sLen : Int) + (n : Int))) := by omega
  have hfit := growslice_fits hroom (show (sLen + n) * i.bytes ≤ 140737488355328 by omega)
  have h48' : ¬ (281474976710656 < Builtin.nextslicecap (sLen + n) sCap * i.bytes) := by omega
  rcases hx.kind with ⟨k, m, rfl, rfl, hn1, hn2, z1, hz1, rfl⟩ | ⟨hd, hlen, hf⟩
  · simp only [hi, Option.map_some, Option.getD_some] at hn2
    have wn : IntKind.i64.wrap (n : Int) = n := wrap_i64_of (by omega) (by omega)
    have c1 : ¬ ((n : Int) < 0) := by omega
    have c2 : ¬ (281474976710656 < (n : Int) * (i.bytes : Int)) := by omega
    have hemp : n * i.size = 0 → Builtin.zeroCells z1.cells n = #[] := fun h0 => Array.eq_empty_of_size_eq_zero (by rw [hx.size, h0])
    have hzz : z1 = z := by
      have := hz1 w
      rw [run_zeroValue hi hz] at this
      cases this; rfl
    subst hzz
    by_cases h0 : n * i.size = 0
    · rw [hemp h0]
      simp [Builtin.append_, run_underlying ht, run_underlying hu, run_sizeOf hi, run_typeInfo hi, run_zeroValue hi hz, asInt, asIntOf, wn, c1, c2, hn, h63', h48', Question.forced, hold, newRow, grownCap, h0]
    · simp [Builtin.append_, run_underlying ht, run_underlying hu, run_sizeOf hi, run_typeInfo hi, run_zeroValue hi hz, asInt, asIntOf, wn, c1, c2, hn, h63', h48', Question.forced, hold, newRow, grownCap, h0]
  · have hf' : (Builtin.firstCells i.size n x).run P w.drew = .ok news w.drew := hf _
    rcases hd with ⟨e, rfl⟩ | rfl
    · simp [Builtin.append_, run_underlying ht, run_underlying hu, run_sizeOf hi, run_typeInfo hi, run_zeroValue hi hz, hlen, hn, h63', h48', Question.forced, hf', hold, newRow, grownCap]
    · simp [Builtin.append_, run_underlying ht, run_underlying hu, run_sizeOf hi, run_typeInfo hi, run_zeroValue hi hz, hlen, hn, h63', h48', Question.forced, hf', hold, newRow, grownCap]

/-- A block's name is changed. -/
theorem HR.move (H : HR X ρ h w) {b : K} {r : RB} (hb : blk h b ≠ .none) (hr : ρ b = some r) (x : Blk) (r' : RB) (o : Obj) (w' : World) (hrr : r'.blk = r.blk)
    (hw : w'.heap = w.heap.set! r.blk o) (hos : w'.os = w.os) (ht : w'.tape = w.tape) (hout : w'.output = w.output) (hx : BR X (ρ.add (nxt h) r') r' x o) :
    HR X (ρ.add (nxt h) r') ((h.upd b .none).upd (nxt h) x).bump w' ∧ Ext ρ h w (ρ.add (nxt h) r') ((h.upd b .none).upd (nxt h) x).bump w' := by
  have hn : ρ (nxt h) = none := H.fresh (Nat.le_refl _)
  have hsub := Ren.add_sub (r := r') hn
  have hlt := H.lt hb hr
  have hbn : b ≠ nxt h := fun e => by rw [e, hn] at hr; cases hr
  have other : ∀ i, i ≠ r.blk → w'.heap[i]? = w.heap[i]? := fun i hi => by
    rw [hw]; simp [Array.set!_eq_setIfInBounds, Array.getElem?_setIfInBounds_ne (Ne.symm hi)]
  have same : w'.heap[r.blk]? = some o := by rw [hw]; simp [Array.set!_eq_setIfInBounds, hlt]
  have bk : ∀ b', blk ((h.upd b .none).upd (nxt h) x).bump b' = if b' = nxt h then x else if b' = b then .none else blk h b' := fun b' => by rw [blk_bump, blk_upd, blk_upd]
  have old : ∀ b', b' ≠ nxt h → blk ((h.upd b .none).upd (nxt h) x).bump b' ≠ .none → b' ≠ b ∧ blk h b' ≠ .none := fun b' e hb' => by
    rw [bk, if_neg e] at hb'
    by_cases e2 : b' = b
    · simp [e2] at hb'
    · rw [if_neg e2] at hb'; exact ⟨e2, hb'⟩
  constructor
  · refine ⟨?_, ?_, ?_, ?_⟩
    · intro b' r1 hb' hr1
      by_cases e : b' = nxt h
      · subst e
        rw [Ren.add_same] at hr1
        cases hr1
        rw [bk, if_pos rfl, hrr]
        exact ⟨o, same, hx⟩
      · obtain ⟨hne, hbl⟩ := old b' e hb'
        rw [Ren.add_other _ _ e] at hr1
        obtain ⟨o', ho', hbr⟩ := H.live b' r1 hbl hr1
        rw [bk, if_neg e, if_neg hne]
        refine ⟨o', ?_, hbr.mono hsub⟩
        rw [other _ (fun e' => hne (H.inj b' b r1 r hbl hb hr1 hr e'))]
        exact ho'
    · intro b1 b2 r1 r2 h1 h2 e1 e2 e
      by_cases f1 : b1 = nxt h <;> by_cases f2 : b2 = nxt h
      · rw [f1, f2]
      · exfalso
        subst f1
        rw [Ren.add_same] at e1; cases e1
        obtain ⟨hne, hbl⟩ := old b2 f2 h2
        rw [Ren.add_other _ _ f2] at e2
        exact hne (H.inj b2 b r2 r hbl hb e2 hr (by rw [← e, hrr]))
      · exfalso
        subst f2
        rw [Ren.add_same] at e2; cases e2
        obtain ⟨hne, hbl⟩ := old b1 f1 h1
        rw [Ren.add_other _ _ f1] at e1
        exact hne (H.inj b1 b r1 r hbl hb e1 hr (by rw [e, hrr]))
      · rw [Ren.add_other _ _ f1] at e1
        rw [Ren.add_other _ _ f2] at e2
        exact H.inj b1 b2 r1 r2 (old b1 f1 h1).2 (old b2 f2 h2).2 e1 e2 e
    · intro b' r1 hr1
      rw [nxt_bump, nxt_upd, nxt_upd, K.num_succ]
      by_cases e : b' = nxt h
      · subst e; omega
      · rw [Ren.add_other _ _ e] at hr1; have := H.dom b' r1 hr1; omega
    · intro b' hb'
      rw [nxt_bump, nxt_upd, nxt_upd, K.num_succ] at hb'
      rw [bk, if_neg (fun e => by subst e; omega)]
      split
      · rfl
      · exact H.free b' (by omega)
  · refine ⟨hsub, ?_, by rw [nxt_bump, nxt_upd, nxt_upd, K.num_succ]; omega, ?_, by rw [hw]; simp, ?_, ?_, hos, ht, hout⟩
    · intro b' r1 hr1
      by_cases e : b' = nxt h
      · subst e; exact .inr (Nat.le_refl _)
      · rw [Ren.add_other _ _ e] at hr1; exact .inl hr1
    · intro b' hb' hlt'
      rw [bk, if_neg (fun e => by subst e; omega), if_neg (fun e => by subst e; rw [hr] at hb'; cases hb')]
    · intro i _ hne; exact other i (fun e => hne b r hb hr e.symm)
    · intro b' r1 hb' hr1
      by_cases e : b' = nxt h
      · subst e; rw [Ren.add_same] at hr1; cases hr1; exact .inl ⟨b, r, hb, hr, hrr.symm⟩
      · rw [Ren.add_other _ _ e] at hr1; exact .inl ⟨b', r1, (old b' e hb').2, hr1, rfl⟩

theorem cellsAt_ok (H : HR X ρ h w) {b : K} {r : RB} {off n : Nat} {c : List V → Bool} (hr : ρ b = some r) (e : cellsAt h b off n c = true) :
    ∃ l l', c l = true ∧ l.length = n ∧ VL ρ l l' ∧ (∀ v ∈ l, v.one = true) ∧ (∀ j v, l'[j]? = some v → w.cell? ⟨r.blk, off + r.d + j, none⟩ = some v) ∧
      (∀ L, blk h b = .cells L → n ≠ 0 → off + n ≤ L.length ∧ l = (L.drop off).take n) := by
  unfold cellsAt at e
  split at e
  · exact ⟨[], [], e, rfl, .nil, by simp, by simp, fun _ _ h => absurd rfl h⟩
  · rename_i n
    obtain ⟨l, hb, e⟩ := cellsOf_eq e
    obtain ⟨hle, hc⟩ := takeN_eq _ _ _ e
    rw [dropN_eq] at hle hc
    obtain ⟨c0, t0, fz, hw, hl, hs, _, hvl, ho⟩ := H.cells hb hr
    have hlen : off + (n + 1) ≤ l.length := by
      rw [List.length_drop] at hle; omega
    refine ⟨_, _, hc, ?_, (hvl.drop off).take (n + 1), fun v hv => ho v (List.mem_of_mem_drop (List.mem_of_mem_take hv)), ?_, ?_⟩
    · simp; omega
    · intro j v hj
      have hj' := (List.getElem?_eq_some_iff.1 hj).1
      have hjn : j < n + 1 := by rw [List.length_take] at hj'; omega
      rw [List.getElem?_take_of_lt hjn, List.getElem?_drop, List.getElem?_take_of_lt (by omega), List.getElem?_drop] at hj
      simp only [World.cell?, hw, Option.isSome_none, Bool.false_eq_true, if_false]
      rw [show off + r.d + j = r.d + (off + j) by omega]
      simpa using hj
    · intro L hL _
      rw [hb] at hL
      cases hL
      exact ⟨hlen, rfl⟩

theorem byteVs_ok (s : ByteArray) : VL ρ (byteVs (nats s)) (s.data.map fun b => Value.int .u8 b.toNat).toList := by
  simp only [nats, Array.toList_map]
  generalize s.data.toList = l
  induction l with
  | nil => exact .nil
  | cons b l ih => exact .cons _ _ _ _ (.int _ _) ih

theorem srcOf_ok (H : HR X ρ h w) {x : V} {x' : Value} {sz elem : Nat} {d : TypeDesc} {c : Nat → List V → Bool} (hd : (∃ e, d = .slice e) ∨ d = .string) (hx : VR ρ x x') (e : srcOf x sz h c = true) :
    ∃ n l news, c n l = true ∧ Src P w elem sz d x' n news ∧ VL ρ l news.toList ∧ ∀ v ∈ l, v.one = true := by
  cases hx with
  | nils =>
    refine ⟨0, [], #[], e, ⟨.inr ⟨hd, by simp [Builtin.lenOf], fun k => by simp [Builtin.firstCells]⟩, by simp⟩, .nil, by simp⟩
  | slc b o n cp r hr =>
    obtain ⟨l, l', hc, hn, hv, ho, hcell, _⟩ := cellsAt_ok H hr (by simpa only [srcOf] using e)
    have hl' := hv.length
    refine ⟨n, l, l'.toArray, hc, ⟨.inr ⟨hd, by simp [Builtin.lenOf], fun k => ?_⟩, by simp; omega⟩, hv, ho⟩
    exact run_firstCells_some (P := P) _ sz n _ n cp l' (by omega) (fun j v hj => by rw [Addr.add_none]; exact hcell j v hj)
  | slo b o n cp p r hr hp hf =>
    obtain ⟨l, l', hc, hn, hv, ho, hcell, _⟩ := cellsAt_ok H hr (by simpa only [srcOf] using e)
    have hl' := hv.length
    refine ⟨n, l, l'.toArray, hc, ⟨.inr ⟨hd, by simp [Builtin.lenOf], fun k => ?_⟩, by simp; omega⟩, hv, ho⟩
    exact run_firstCells_some (P := P) _ sz n _ n _ l' (by omega) (fun j v hj => by rw [Addr.add_none]; exact hcell j v hj)
  | str a s hs =>
    change nats s = a at hs
    subst hs
    simp only [srcOf] at e
    split at e
    · rw [force_eq, lenN_eq, nats_length] at e
      refine ⟨s.size, _, _, e, ⟨.inr ⟨hd, by simp [Builtin.lenOf], fun k => ?_⟩, ?_⟩, byteVs_ok s, ?_⟩
      · simp only [Builtin.firstCells, Sem.run_pure]
        congr 2
        have : s.extract 0 s.size = s := ByteArray.extract_zero_size
        rw [this]
      · simp
      · intro v hv
        generalize nats s = l at hv
        induction l with
        | nil => simp [byteVs] at hv
        | cons b l ih =>
          simp only [byteVs, List.mem_cons] at hv
          rcases hv with rfl | hv
          · rfl
          · exact ih hv
    · cases e
  | _ => simp [srcOf] at e

theorem HR.grown (H : HR X ρ h w) {l : List V} {cs rest : Array Value} (hl : VL ρ l cs.toList) (ho : ∀ v ∈ l, v.one = true) (el sz xn : Nat) (hrest : rest.size = xn * sz) :
    HR X (ρ.add (nxt h) ⟨w.heap.size, 0, xn, sz, l.length⟩) (h.upd (nxt h) (.cells l)).bump (w.drew.alloc (.cells (cs ++ rest) el)) ∧
    Ext ρ h w (ρ.add (nxt h) ⟨w.heap.size, 0, xn, sz, l.length⟩) (h.upd (nxt h) (.cells l)).bump (w.drew.alloc (.cells (cs ++ rest) el)) := by
  have hn : ρ (nxt h) = none := H.fresh (Nat.le_refl _)
  have hlen := hl.length
  simp only [Array.length_toList] at hlen
  have H1 : HR X ρ h w.drew := H.drew _
  obtain ⟨H', E⟩ := H1.newName (.cells l) ⟨w.heap.size, 0, xn, sz, l.length⟩ (.cells (cs ++ rest) el) _ rfl rfl ⟨cs ++ rest, el, (0, 0), rfl, rfl, by simp [hlen, hrest], by intro i _; simp, by
    simp only [List.drop_zero, Array.toList_append]
    rw [List.take_append_of_le_length (by simp; omega), List.take_of_length_le (by simp; omega)]
    exact hl.mono (Ren.add_sub hn), ho⟩
  exact ⟨H', (Ext.drew ρ h w _).trans E⟩

theorem storeAt_ok (H : HR X ρ h w) {b : K} {r : RB} {off : Nat} {new : List V} {news : List Value} {c : Hp → Bool} (hr : ρ b = some r) (hv : VL ρ new news) (ho : ∀ v ∈ new, v.one = true) (e : storeAt h b off new c = true) :
    ∃ h' w', c h' = true ∧ (storeCells ⟨r.blk, off + r.d, none⟩ news).run P w = .ok () w' ∧ HR X ρ h' w' ∧ Ext ρ h w ρ h' w' := by
  unfold storeAt at e
  split at e
  · cases hv
    exact ⟨h, w, e, rfl, H, Ext.refl _ _ _⟩
  · obtain ⟨l, hb, e⟩ := cellsOf_eq e
    obtain ⟨hle, e⟩ := splice_eq _ _ _ _ e
    rw [putBlk_eq] at e
    obtain ⟨w', hrun, H', E⟩ := H.lay (P := P) hb hr hv ho hle
    exact ⟨_, w', e, hrun, H', E⟩

theorem appNew_ok (H : HR X ρ h w) {old new : List V} {olds news rest : Array Value} {sz need el newCap : Nat} {c : KV} (hvo : VL ρ old olds.toList) (hoo : ∀ v ∈ old, v.one = true) (hvn : VL ρ new news.toList) (hon : ∀ v ∈ new, v.one = true)
    (hsz : sz ≠ 0) (hlen : (old ++ new).length = need * sz) (hcap : need ≤ newCap) (hrest : rest.size = (newCap - need) * sz) (e : appNew old new sz need h c = true) :
    Did X ρ h w c (.ok (.slice (some ⟨w.heap.size, 0, none⟩) need newCap) (w.drew.alloc (.cells (olds ++ news ++ rest) el))) := by
  obtain ⟨p, rfl⟩ : ∃ p, sz = p + 1 := ⟨sz - 1, by omega⟩
  simp only [appNew, newBlk_eq] at e
  obtain ⟨H', E⟩ := H.grown (cs := olds ++ news) (rest := rest) (by simpa using hvo.append hvn) (by
    intro v hv
    rcases List.mem_append.1 hv with h | h
    · exact hoo _ h
    · exact hon _ h) el (p + 1) (newCap - need) hrest
  refine ⟨_, _, _, _, _, e, rfl, ?_, H', E⟩
  have hv := VR.slo (ρ := ρ.add (nxt h) ⟨w.heap.size, 0, newCap - need, p + 1, (old ++ new).length⟩) (nxt h) 0 need need p _ (Ren.add_same _ _ _) rfl (by simpa using hlen.symm)
  rw [show need + (newCap - need) = newCap by omega] at hv
  exact hv

theorem move_cells {c olds vs : List Value} {a k : Nat} (hol : olds.length = k) (h : ∀ (j : Nat) (v : Value), olds[j]? = some v → c[a + j]? = some v) (hfit : a + k + vs.length ≤ c.length) :
    ((c.take (a + k) ++ vs ++ c.drop (a + k + vs.length)).drop a).take (k + vs.length) = olds ++ vs := by
  subst hol
  apply List.ext_getElem?
  intro i
  by_cases hi : i < olds.length + vs.length
  · rw [List.getElem?_take_of_lt hi, List.getElem?_drop, List.append_assoc]
    by_cases h1 : i < olds.length
    · rw [List.getElem?_append_left (by simp; omega), List.getElem?_take_of_lt (by omega), List.getElem?_append_left h1]
      rw [h i olds[i] (List.getElem?_eq_getElem h1), List.getElem?_eq_getElem h1]
    · rw [List.getElem?_append_right (by simp; omega), List.getElem?_append_left (by simp; omega), List.getElem?_append_right (by omega)]
      simp only [List.length_take]
      congr 1
      omega
  · rw [List.getElem?_eq_none (by simp; omega), List.getElem?_eq_none (by simp; omega)]

theorem appIn_ok (H : HR X ρ h w) {t u ty elem : Nat} {i : TypeInfo} {d : TypeDesc} {x' : Value} {n : Nat} {new : List V} {news : Array Value} {c : KV} (ht : P.underlying t = some (.slice elem)) (hu : P.underlying u = some d)
    (hi : P.info? elem = some i) (hx : Src P w elem i.size d x' n news) (hvn : VL ρ new news.toList) (hon : ∀ v ∈ new, v.one = true) (hnl : new.length = n * i.size)
    {b : K} {off len cap p : Nat} {r : RB} {L old : List V} {olds : List Value} (hr : ρ b = some r) (hp : r.sz = p + 1) (hps : p + 1 = i.size) (hf : off + cap * (p + 1) = r.fill) (hbL : blk h b = .cells L)
    (hvo : VL ρ old olds) (hoo : ∀ v ∈ old, v.one = true) (hol : old.length = len * i.size) (hcell : ∀ (j : Nat) (v : Value), olds[j]? = some v → w.cell? ⟨r.blk, off + r.d + j, none⟩ = some v)
    (hin : len + n ≤ cap + r.x) (e : appNew old new i.size (len + n) (h.upd b .none) c = true) :
    Did X ρ h w c ((Builtin.append_ #[t, u] ty #[.slice (some ⟨r.blk, off + r.d, none⟩) len (cap + r.x), x']).run P w) := by
  have hlo := hvo.length
  have hbn : blk h b ≠ .none := by rw [hbL]; simp
  obtain ⟨c0, t0, fz, hw, hl, hsz, hfz, hvl, ho⟩ := H.cells hbL hr
  have hm1 : (len + n) * i.size ≤ (cap + r.x) * i.size := Nat.mul_le_mul_right _ hin
  rw [Nat.add_mul, Nat.add_mul] at hm1
  rw [hp, hps] at hsz
  rw [hps] at hf
  have hns : news.toList.length = n * i.size := by rw [Array.length_toList, hx.size]
  have hcl : c0.toList.length = c0.size := Array.length_toList
  have hfit : off + len * i.size + r.d + 0 + news.toList.length ≤ c0.size := by omega
  have hrun := run_storeCells_fz P r.blk (off + len * i.size + r.d) t0 fz news.toList 0 c0 w hw hfz hfit (hvn.one hon)
  simp only [Nat.add_zero] at hrun
  generalize hc1 : (c0.toList.take (off + len * i.size + r.d) ++ news.toList ++ c0.toList.drop (off + len * i.size + r.d + news.toList.length)).toArray = c1 at hrun
  have hc1l : c1.toList = c0.toList.take (off + len * i.size + r.d) ++ news.toList ++ c0.toList.drop (off + len * i.size + r.d + news.toList.length) := by rw [← hc1]
  have hc1s : c1.size = c0.size := by
    rw [← hc1]
    simp only [List.size_toArray, List.length_append, List.length_take, List.length_drop]
    omega
  have hx1 : (cap + r.x - (len + n)) * i.size + (len + n) * i.size = (cap + r.x) * i.size := by rw [← Nat.add_mul]; congr 1; omega
  rw [Nat.add_mul cap] at hx1
  have hnn : ρ (nxt h) = none := H.fresh (Nat.le_refl _)
  simp only [appNew, newBlk_eq, nxt_upd] at e
  have hmono := Ren.add_sub (ρ := ρ) (b := nxt h) (r := ⟨r.blk, off + r.d, cap + r.x - (len + n), i.size, (len + n) * i.size⟩) hnn
  have e1 : (c1.toList.drop (off + r.d)).take ((len + n) * i.size) = olds ++ news.toList := by
    rw [hc1l, show off + len * i.size + r.d = off + r.d + len * i.size by omega, Nat.add_mul, ← hns]
    refine move_cells (by omega) (fun j v hj => ?_) (by omega)
    have := hcell j v hj
    simp [World.cell?, hw] at this
    simpa using this
  have hbr : BR X (ρ.add (nxt h) ⟨r.blk, off + r.d, cap + r.x - (len + n), i.size, (len + n) * i.size⟩) ⟨r.blk, off + r.d, cap + r.x - (len + n), i.size, (len + n) * i.size⟩ (.cells (old ++ new)) (.cells c1 t0 fz) := by
    refine ⟨c1, t0, fz, rfl, ?_, ?_, ?_, ?_, ?_⟩
    · rw [List.length_append, hol, hnl, Nat.add_mul]
    · simp only; omega
    · rw [hc1s]; exact hfz
    · simp only
      rw [e1]
      exact (hvo.append hvn).mono hmono
    · intro v hv
      rcases List.mem_append.1 hv with h | h
      · exact hoo _ h
      · exact hon _ h
  obtain ⟨H', E⟩ := H.move hbn hr (.cells (old ++ new)) ⟨r.blk, off + r.d, cap + r.x - (len + n), i.size, (len + n) * i.size⟩ _ (w.setRow r.blk c1) rfl (setRow_set w r.blk c0 c1 t0 fz hw) rfl rfl rfl hbr
  refine ⟨_, _, _, _, _, e, run_append_in (w' := w.setRow r.blk c1) ht hu hi hx hin ?_, ?_, H', E⟩
  · simp only [Addr.add_none]
    rw [show off + r.d + len * i.size = off + len * i.size + r.d by omega]
    exact hrun
  · have hv := VR.slo (ρ := ρ.add (nxt h) ⟨r.blk, off + r.d, cap + r.x - (len + n), i.size, (len + n) * i.size⟩) (nxt h) 0 (len + n) (len + n) p _ (Ren.add_same _ _ _) hps.symm (by simp [hps])
    rw [hps] at hv
    rw [show len + n + (cap + r.x - (len + n)) = cap + r.x by omega, Nat.zero_add] at hv
    exact hv

theorem appGo_ok (H : HR X ρ h w) {t u ty elem : Nat} {i : TypeInfo} {z : Value} {d : TypeDesc} {s : V} {s' x' : Value} {n : Nat} {new : List V} {news : Array Value} {c : KV} (ht : P.underlying t = some (.slice elem)) (hu : P.underlying u = some d)
    (hi : P.info? elem = some i) (hz : i.zero = some z) (hzs : z.cells.size = i.size) (hs0 : i.size ≠ 0) (hx : Src P w elem i.size d x' n news) (hvn : VL ρ new news.toList) (hon : ∀ v ∈ new, v.one = true) (hs : VR ρ s s')
    (e : appGo s n new i.size i.bytes h c = true) : Did X ρ h w c ((Builtin.append_ #[t, u] ty #[s', x']).run P w) := by
  have hnl := hvn.length
  simp only [Array.length_toList] at hnl
  rw [hx.size] at hnl
  have small : ∀ {need : Nat}, Nat.ble (need * (i.bytes + 1)) 1000000000 = true → need ≤ 1000000000 ∧ need * i.bytes ≤ 1000000000 := fun {need} hb => by
    have := Nat.le_of_ble_eq_true hb
    rw [Nat.mul_add, Nat.mul_one] at this
    omega
  have hzc : ∀ k, (Builtin.zeroCells z.cells k).size = k * i.size := fun k => by rw [size_zeroCells, hzs]
  -- the slice grows into a new row
  have out : ∀ {ρ1 : Ren} {h1 : Hp} {base : Option Addr} {sLen sCap : Nat} {old : List V} {olds : Array Value}, HR X ρ1 h1 w → VL ρ1 old olds.toList → VL ρ1 new news.toList → (∀ v ∈ old, v.one = true) → old.length = sLen * i.size →
      sCap < sLen + n → Nat.ble ((sLen + n) * (i.bytes + 1)) 1000000000 = true → (Builtin.firstCells i.size sLen (.slice base sLen sCap)).run P w.drew = .ok olds w.drew → appNew old new i.size (sLen + n) h1 c = true →
      Did X ρ1 h1 w c ((Builtin.append_ #[t, u] ty #[.slice base sLen sCap, x']).run P w) := by
    intro ρ1 h1 base sLen sCap old olds H1 hvo hvn1 hoo hol hcap hb hold e
    obtain ⟨b1, b2⟩ := small hb
    rw [run_append_out ht hu hi hz hx hcap b1 b2 hold]
    exact appNew_ok H1 hvo hoo hvn1 hon hs0 (by rw [List.length_append, hol, hnl, Nat.add_mul]) (grownCap_ge w _ _ _) (hzc _) e
  cases hs with
  | nils =>
    simp only [appGo] at e
    cases n with
    | zero =>
      refine Did.of_pure H ⟨_, _, e, run_append_in ht hu hi hx (by simp) rfl, ?_⟩
      simpa using VR.nils
    | succ m =>
      simp only at e
      split at e
      · rename_i hb
        exact out (sLen := 0) (olds := #[]) H .nil hvn (by simp) (by simp) (by omega) (by simpa using hb) (by simp [Builtin.firstCells]) (by simpa using e)
      · cases e
  | slc b off len cap r hr =>
    simp only [appGo, force_eq] at e
    split at e
    · rename_i hle
      have hle := Nat.le_of_ble_eq_true hle
      obtain ⟨h', w', hc, hrun, H', E⟩ := storeAt_ok (P := P) H hr hvn hon e
      refine ⟨_, _, ρ, h', w', hc, run_append_in ht hu hi hx hle ?_, .slc b off _ _ r hr, H', E⟩
      simp only [Addr.add_none]
      rw [show off + r.d + len * i.size = off + len * i.size + r.d by omega]
      exact hrun
    · rename_i hle
      have hgt : cap < len + n := by
        have : ¬ (len + n ≤ cap) := fun h => by rw [Nat.ble_eq_true_of_le h] at hle; cases hle
        omega
      simp only [appGrow] at e
      split at e
      · rename_i hb
        obtain ⟨old, olds, hc, hol, hvo, hoo, hcell, _⟩ := cellsAt_ok H hr e
        refine out H (by simpa using hvo) hvn hoo hol hgt hb ?_ hc
        have hlo := hvo.length
        have hcell' : ∀ j v, olds[j]? = some v → w.drew.cell? ((⟨r.blk, off + r.d, none⟩ : Addr).add j) = some v := fun j v hj => by rw [Addr.add_none]; exact hcell j v hj
        simpa using run_firstCells_some (P := P) w.drew i.size len _ len cap olds (by omega) hcell'
      · cases e
  | slo b off len cap p r hr hp hf =>
    simp only [appGo, force_eq] at e
    split at e
    · rename_i hle
      have hle := Nat.le_of_ble_eq_true hle
      obtain ⟨h', w', hc, hrun, H', E⟩ := storeAt_ok (P := P) H hr hvn hon e
      refine ⟨_, _, ρ, h', w', hc, run_append_in ht hu hi hx (by omega) ?_, .slo b off _ _ p r hr hp hf, H', E⟩
      simp only [Addr.add_none]
      rw [show off + r.d + len * i.size = off + len * i.size + r.d by omega]
      exact hrun
    · rename_i hle
      have hgt : cap < len + n := by
        have : ¬ (len + n ≤ cap) := fun h => by rw [Nat.ble_eq_true_of_le h] at hle; cases hle
        omega
      simp only [appGrow] at e
      split at e
      · rename_i hb
        split at e
        · rename_i hps
          have hps := Nat.eq_of_beq_eq_true hps
          obtain ⟨L, hbL, e⟩ := cellsOf_eq e
          obtain ⟨old, olds, hc, hol, hvo, hoo, hcell, _⟩ := cellsAt_ok H hr e
          rw [putBlk_eq] at hc
          have hbn : blk h b ≠ .none := by rw [hbL]; simp
          have hlo := hvo.length
          have hcell' : ∀ j v, olds[j]? = some v → w.drew.cell? ((⟨r.blk, off + r.d, none⟩ : Addr).add j) = some v := fun j v hj => by rw [Addr.add_none]; exact hcell j v hj
          by_cases hin : len + n ≤ cap + r.x
          · exact appIn_ok H ht hu hi hx hvn hon hnl hr hp hps hf hbL hvo hoo hol hcell hin hc
          · obtain ⟨H1, E1⟩ := H.drop hr
            obtain ⟨z1, z2, ρ', h', w', g1, g2, g3, g4, g5⟩ := out (base := some ⟨r.blk, off + r.d, none⟩) (sCap := cap + r.x) (olds := olds.toArray) H1 (by simpa using hvo) hvn hoo hol (by omega) hb (run_firstCells_some (P := P) w.drew i.size len _ len (cap + r.x) olds (by omega) hcell') hc
            exact ⟨z1, z2, ρ', h', w', g1, g2, g3, g4, E1.trans g5⟩
        · cases e
      · cases e
  | _ => simp [appGo] at e

theorem oApp_ok (H : HR X ρ h w) {t u ty elem : Nat} {i : TypeInfo} {z : Value} {d : TypeDesc} {s x : V} {s' x' : Value} {c : KV} (ht : P.underlying t = some (.slice elem)) (hu : P.underlying u = some d)
    (hd : (∃ e, d = .slice e) ∨ d = .string) (hi : P.info? elem = some i) (hz : i.zero = some z) (hzs : z.cells.size = i.size) (hs : VR ρ s s') (hx : VR ρ x x')
    (e : oApp s x i.size i.bytes h c = true) : Did X ρ h w c ((Builtin.append_ #[t, u] ty #[s', x']).run P w) := by
  unfold oApp at e
  split at e
  · cases e
  · rename_i sz hsz
    have hsz : sz + 1 = i.size := hsz.symm
    rw [hsz] at e
    obtain ⟨n, l, news, hc, hsrc, hvn, hon⟩ := srcOf_ok (P := P) (elem := elem) H hd hx e
    exact appGo_ok H ht hu hi hz hzs (by omega) hsrc hvn hon hs hc

theorem oAppz_ok (H : HR X ρ h w) {t u ty elem : Nat} {i : TypeInfo} {zv : List V} {z : Value} {k : IntKind} {s x : V} {s' x' : Value} {c : KV} (ht : P.underlying t = some (.slice elem)) (hu : P.underlying u = some (.int k))
    (hi : P.info? elem = some i) (hz : i.zero = some z) (hzv : VL ρ zv z.cells.toList) (hzo : ∀ v ∈ zv, v.one = true) (hzl : zv.length = i.size) (hs : VR ρ s s') (hx : VR ρ x x')
    (e : oAppz s x i.size i.bytes zv h c = true) : Did X ρ h w c ((Builtin.append_ #[t, u] ty #[s', x']).run P w) := by
  unfold oAppz at e
  split at e
  · cases e
  · rename_i sz hsz
    have hsz : sz + 1 = i.size := hsz.symm
    rw [hsz] at e
    cases hx with
    | int k' n =>
      cases n with
      | negSucc m => simp at e
      | ofNat n =>
        simp only at e
        split at e
        · rename_i hb
          have hb := Nat.le_of_ble_eq_true hb
          rw [Nat.mul_add, Nat.mul_one] at hb
          obtain ⟨_, e⟩ := lenIs_eq _ _ _ e
          have hzs : z.cells.size = i.size := by
            have h1 := hzv.length
            simp only [Array.length_toList] at h1
            exact h1.symm.trans hzl
          have hb2 : ((n * i.bytes : Nat) : Int) ≤ 1000000000 := by omega
          rw [Int.natCast_mul] at hb2
          refine appGo_ok H ht hu hi hz hzs (by omega) (new := rep n zv) (news := Builtin.zeroCells z.cells n) ⟨.inl ⟨k, k', rfl, rfl, by omega, by simpa [hi] using hb2, z, fun w => run_zeroValue hi hz w, rfl⟩, by rw [size_zeroCells, hzs]⟩ ?_ (rep_one hzo n) hs e
          have := rep_zeros hzv hzl n
          rw [← hzs] at this
          exact this
        · cases e
    | _ => simp at e

end
end Go.AJ

/- The reading and reckoning operations, all of them. -/
namespace Go.AJ
open Go

structure POK (P : Program) (X : Cx) : Prop extends TyOK P X where
  plain : ∀ t, X.T.plain t = true → P.stoodInHeld t = false
  ext : ∀ g, X.ext g = true → ∀ (s u : ByteArray) (w : World), (callFunc g #[.string s, .string u]).run P w = .ok (.value (.int .i64 (cmpN (nats s) (nats u)))) w

section
variable {P : Program} {X : Cx} {ρ : Ren} {h : Hp} {w : World} {t : T V} {a : Act}

/-- What an operation comes to that only reads. -/
def Reads (P : Program) (ρ : Ren) (h : Hp) (w : World) (c : KV) (s : Sem Next) : Prop := ∃ v v', c v h = true ∧ s.run P w = .ok (.value v') w ∧ VR ρ v v'

theorem Reads.of {c : KV} {s : Sem Value} (hs : ∃ z z', c z h = true ∧ s.run P w = .ok z' w ∧ VR ρ z z') : Reads P ρ h w c (do pure (.value (← s))) := by
  obtain ⟨z, z', h1, h2, h3⟩ := hs
  exact ⟨z, z', h1, by simp [h2], h3⟩

theorem binOp_eql {x y : Value} (hv : ∃ v, VR ρ v x) (hx : x.isNum = false) {r : Bool} {t0 : Nat} (h : (Op.equalIn 10000 t0 x y).run P w = .ok r w) :
    (binOp .eql t0 x y).run P w = .ok (.bool r) w ∧ (binOp .neq t0 x y).run P w = .ok (.bool (!r)) w := by
  obtain ⟨v, hv⟩ := hv
  cases hv <;> first | (cases hx; done) | simp [binOp, Op.equal, Op.maxDepth, h]

theorem builtin_ok (hP : POK P X) (H : HR X ρ h w) {b : Builtin} {ts : Array TypeId} {ty : TypeId} {consts : Array Bool} {as : List AJ.X} {args : Array Value} {op : AOp} (hop : cBuiltin X.T b ts.toList as = some op) (hs : clsOf op = .simple)
    (hargs : VL ρ (evs t as) args.toList) {c : KV} (e : simpleV op t h c = true) : Reads P ρ h w c (builtin b ts ty consts args) := by
  unfold cBuiltin at hop
  split at hop
  · exfalso
    unfold cAppend at hop
    split at hop
    · split at hop
      · split at hop <;> cases hop <;> cases hs
      · cases hop
    · cases hop
  · rename_i t1 x hts
    simp only [evs] at hargs
    generalize hl : args.toList = l at hargs
    have hts' : ts = #[t1] := by apply Array.ext'; simpa using hts
    subst hts'
    cases hargs with
    | cons _ x' _ _ hx hr =>
      cases hr
      have hargs' : args = #[x'] := by apply Array.ext'; simpa using hl
      subst hargs'
      unfold builtin
      unfold cLen at hop
      split at hop
      · rename_i n el hd
        cases hop
        exact Reads.of ⟨_, _, e, by simp [Builtin.len_, run_underlying (hP.un _ _ hd), goInt], .int _ _⟩
      · rename_i hd
        cases hop
        exact Reads.of (oLen_ok H (hP.un _ _ hd) (q := .str) rfl hx e)
      · rename_i el hd
        cases hop
        exact Reads.of (oLen_ok H (hP.un _ _ hd) (q := .sl) ⟨_, rfl⟩ hx e)
      · rename_i k el hd
        cases hop
        exact Reads.of (oLen_ok H (hP.un _ _ hd) (q := .map) ⟨_, _, rfl⟩ hx e)
      · cases hop
  · rename_i t1 x hts
    simp only [evs] at hargs
    generalize hl : args.toList = l at hargs
    have hts' : ts = #[t1] := by apply Array.ext'; simpa using hts
    subst hts'
    cases hargs with
    | cons _ x' _ _ hx hr =>
      cases hr
      have hargs' : args = #[x'] := by apply Array.ext'; simpa using hl
      subst hargs'
      unfold builtin
      unfold cCap at hop
      split at hop
      · rename_i el hd
        cases hop
        exact Reads.of (oCap_ok (hP.un _ _ hd) hx e)
      · cases hop
  · rename_i x l
    cases hop
    simp only [evs] at hargs
    generalize hl : args.toList = l' at hargs
    cases hargs with
    | cons _ x' _ l2 hx hr =>
      obtain ⟨z, z', hc, hrun, hv⟩ := oMxn_ok (P := P) (w := w) (mx := true) (c := fun v => c v h) hx hr e
      unfold builtin
      exact Reads.of ⟨z, z', hc, by simpa [Builtin.max_, hl] using hrun, hv⟩
  · rename_i x l
    cases hop
    simp only [evs] at hargs
    generalize hl : args.toList = l' at hargs
    cases hargs with
    | cons _ x' _ l2 hx hr =>
      obtain ⟨z, z', hc, hrun, hv⟩ := oMxn_ok (P := P) (w := w) (mx := false) (c := fun v => c v h) hx hr e
      unfold builtin
      exact Reads.of ⟨z, z', hc, by simpa [Builtin.min_, hl] using hrun, hv⟩
  · exfalso
    unfold cCopy at hop
    (repeat' split at hop) <;> cases hop <;> cases hs
  · exfalso
    unfold cClr at hop
    (repeat' split at hop) <;> cases hop <;> cases hs
  · cases hop

theorem simple_ok (hP : POK P X) (H : HR X ρ h w) {o : Oper} {op : AOp} (hop : cOp X.T X.ext o.op = some op) (hs : clsOf op = .simple) (hE : ∀ x ∈ o.op.operands.toList, EvR ρ t a x) {c : KV}
    (e : simpleV op t h c = true) : Reads P ρ h w c (execOp a.eval o) := by
  unfold execOp
  cases ho : o.op with
  | move x =>
    rw [ho] at hop hE
    simp only [cOp, Option.bind_eq_bind, Option.pure_def, Option.bind_eq_some_iff, Option.some.injEq] at hop
    obtain ⟨x', hx, rfl⟩ := hop
    exact ⟨_, _, e, rfl, hE x (by simp [Op.operands]) _ hx⟩
  | assign x =>
    rw [ho] at hop hE
    simp only [cOp, Option.bind_eq_bind, Option.pure_def, Option.bind_eq_some_iff, Option.some.injEq] at hop
    obtain ⟨x', hx, rfl⟩ := hop
    exact ⟨_, _, e, rfl, hE x (by simp [Op.operands]) _ hx⟩
  | pick q x y =>
    rw [ho] at hop hE
    simp only [cOp, Option.bind_eq_bind, Option.pure_def, Option.bind_eq_some_iff, Option.some.injEq] at hop
    obtain ⟨q', hq, x', hx, y', hy, rfl⟩ := hop
    obtain ⟨b, v, v', hc, h1, h2, h3⟩ := oPick_ok (hE q (by simp [Op.operands]) _ hq) (hE x (by simp [Op.operands]) _ hx) (hE y (by simp [Op.operands]) _ hy) e
    refine ⟨v, v', hc, ?_, h3⟩
    subst h2
    simp [h1, asBool]
  | load ty x =>
    rw [ho] at hop hE
    simp only [cOp, Option.bind_eq_bind, Option.pure_def, Option.bind_eq_some_iff] at hop
    obtain ⟨d, hd, n, hn, x', hx, hop⟩ := hop
    have hv := hE x (by simp [Op.operands]) _ hx
    split at hop
    · rename_i hagg
      cases hop
      obtain ⟨i, hi, rfl⟩ := sizeT_ok hP.toTyOK hn
      exact Reads.of (oLoadN_ok H (hP.un _ _ hd) hagg hi hv e)
    · rename_i hagg
      cases hop
      exact Reads.of (oLoad1_ok H (hP.un _ _ hd) (by simpa using hagg) hv e)
  | fieldAddr s x f =>
    rw [ho] at hop hE
    simp only [cOp, Option.bind_eq_bind, Option.pure_def, Option.bind_eq_some_iff] at hop
    obtain ⟨d, hd, hop⟩ := hop
    split at hop
    · rename_i fs
      simp only [Option.bind_eq_some_iff] at hop
      obtain ⟨fd, hfd, n, hn, x', hx, hop⟩ := hop
      split at hop
      · cases hop
      · rename_i hn0
        cases hop
        obtain ⟨i, hi, rfl⟩ := sizeT_ok hP.toTyOK hn
        exact Reads.of (oAddOff_ok (hP.un _ _ hd) hfd hi hn0 (hE x (by simp [Op.operands]) _ hx) e)
    · cases hop
  | binOp b ty x y ty2 =>
    rw [ho] at hop hE
    simp only [cOp, Option.bind_eq_bind, Option.pure_def, Option.bind_eq_some_iff] at hop
    obtain ⟨d, hd, x', hx, y', hy, hop⟩ := hop
    have hvx := hE x (by simp [Op.operands]) _ hx
    have hvy := hE y (by simp [Op.operands]) _ hy
    have hu := hP.un _ _ hd
    have hg : ∀ {u v : Value}, (∃ k n, u = .int k n) ∨ (∃ s, u = .string s) → (eqGuard b ty x y u v).run P w = .ok () w := fun {u} {v} hk =>
      eqGuard_flat _ _ _ _ (by rcases hk with ⟨k, n, rfl⟩ | ⟨s, rfl⟩ <;> rfl) w
    have eqs : ∀ {neg : Bool} {q : EK}, ekOf X.T ty x y = some q → oEq neg q (ev t x') (ev t y') h c = true →
        ∃ r, c (.bool r) h = true ∧ (eqGuard b ty x y (a.eval x) (a.eval y)).run P w = .ok () w ∧ (binOp .eql ty (a.eval x) (a.eval y)).run P w = .ok (.bool (if neg then !r else r)) w ∧
          (binOp .neq ty (a.eval x) (a.eval y)).run P w = .ok (.bool (if neg then r else !r)) w := fun {neg} {q} hq e => by
      obtain ⟨r, hc, h1, h2, h3⟩ := eqK_ok (w := w) hP.toTyOK hq hvx hvy e hP.plain b
      obtain ⟨g1, g2⟩ := binOp_eql ⟨_, hvx⟩ h3 h1
      cases neg with
      | true => exact ⟨!r, mkB_ok (by simpa using hc), h2, by simpa using g1, g2⟩
      | false => exact ⟨r, mkB_ok (by simpa using hc), h2, g1, g2⟩
    cases d with
    | int k =>
      simp only [Option.bind_eq_some_iff, Option.some.injEq] at hop
      obtain ⟨i, hi, rfl⟩ := hop
      obtain ⟨z, z', hc, hr, hv, hk⟩ := oIbin_ok (P := P) (w := w) ty hi hvx hvy e
      exact ⟨z, z', hc, by simp [hg (.inl hk), hr], hv⟩
    | string =>
      simp only [Option.bind_eq_some_iff, Option.some.injEq] at hop
      obtain ⟨i, hi, rfl⟩ := hop
      obtain ⟨z, z', hc, hr, hv, hk⟩ := oSbin_ok (P := P) (w := w) ty hi hvx hvy e
      exact ⟨z, z', hc, by simp [hg (.inr hk), hr], hv⟩
    | _ =>
      cases b <;> simp only [Option.bind_eq_some_iff, Option.some.injEq, reduceCtorEq] at hop
      · obtain ⟨q, hq, rfl⟩ := hop
        obtain ⟨r, hc, h1, h2, h3⟩ := eqs (neg := false) hq e
        exact ⟨_, _, hc, by simp [h1, h2], .bool r⟩
      · obtain ⟨q, hq, rfl⟩ := hop
        obtain ⟨r, hc, h1, h2, h3⟩ := eqs (neg := true) hq e
        exact ⟨_, _, hc, by simp [h1, h3], .bool r⟩
  | build ty ps =>
    rw [ho] at hop hE
    simp only [cOp, Option.bind_eq_bind, Option.pure_def, Option.bind_eq_some_iff] at hop
    obtain ⟨z, hz, d, hd, hop⟩ := hop
    obtain ⟨i, z', hi, hz', hv, hlen, hone⟩ := zeroL_ok (ρ := ρ) hP.toTyOK hz
    have hu := hP.un _ _ hd
    have hev : ∀ p ∈ ps.toList, EvR ρ t a p.2 := fun p hp => hE p.2 (by simp [Op.operands]; exact ⟨p.1, by simpa using hp⟩)
    have hmap : (ps.map fun p => (p.1, a.eval p.2)).toList = ps.toList.map fun p => (p.1, a.eval p.2) := by simp
    split at hop
    · rename_i fs
      split at hop
      · rename_i hall
        simp only [Option.bind_eq_some_iff, Option.some.injEq] at hop
        obtain ⟨ps', hps, rfl⟩ := hop
        obtain ⟨places, hpl⟩ : ∃ places, fs.toList.mapM (fun f => (P.info? f.type).map fun i => (f.offset, i.size)) = some places := by
          have hall := allB_iff.1 hall
          generalize fs.toList = l at hall
          clear hps
          induction l with
          | nil => exact ⟨[], rfl⟩
          | cons f l ih =>
            obtain ⟨r, hr⟩ := ih fun x hx => hall x (.tail _ hx)
            obtain ⟨j, hj⟩ := Option.isSome_iff_exists.1 (hall f (.head _))
            exact ⟨(f.offset, j.size) :: r, by simp [List.mapM_cons, hr, hP.inf _ _ hj]⟩
        refine Reads.of (oMk_ok (place := (places.toArray[·]?)) ?_ (fun cs hcs => ?_) hv hone e)
        · rw [hmap]; exact partsS_ok hP.toTyOK hpl hps hev
        · simp only [Program.built, hi, hu, hz', hpl]
          exact hcs
      · cases hop
    · rename_i n el
      simp only [Option.bind_eq_some_iff, Option.some.injEq] at hop
      obtain ⟨m, hm, ps', hps, rfl⟩ := hop
      obtain ⟨ie, hie, rfl⟩ := sizeT_ok hP.toTyOK hm
      refine Reads.of (oMk_ok (place := fun i => some (i * ie.size, ie.size)) ?_ (fun cs hcs => ?_) hv hone e)
      · rw [hmap]; exact partsA_ok _ hps hev
      · simp only [Program.built, hi, hu, hz', hie]
        exact hcs
    · cases hop
  | unOp u ty x =>
    rw [ho] at hop hE
    simp only [cOp, Option.bind_eq_bind, Option.pure_def, Option.bind_eq_some_iff] at hop
    obtain ⟨x', hx, hop⟩ := hop
    have hv := hE x (by simp [Op.operands]) _ hx
    cases u <;> simp only [Option.some.injEq, reduceCtorEq] at hop <;> subst hop
    · exact Reads.of (oNeg_ok hv e)
    · exact Reads.of (oNot_ok hv e)
  | indexAddr ty x ix =>
    rw [ho] at hop hE
    simp only [cOp, Option.bind_eq_bind, Option.pure_def, Option.bind_eq_some_iff] at hop
    obtain ⟨x', hx, i', hi, d, hd, hop⟩ := hop
    have hvx := hE x (by simp [Op.operands]) _ hx
    have hvi := hE ix (by simp [Op.operands]) _ hi
    split at hop
    · simp only [Option.bind_eq_some_iff, Option.some.injEq] at hop
      obtain ⟨n, hn, rfl⟩ := hop
      obtain ⟨i, hi, rfl⟩ := sizeT_ok hP.toTyOK hn
      exact Reads.of (oIdx_ok (hP.un _ _ hd) hi hvx hvi e)
    · simp only [Option.bind_eq_some_iff, Option.some.injEq] at hop
      obtain ⟨n, hn, rfl⟩ := hop
      obtain ⟨i, hi, rfl⟩ := sizeT_ok hP.toTyOK hn
      exact Reads.of (oIdxA_ok (hP.un _ _ hd) hi hvx hvi e)
    · cases hop
  | nilCheck x =>
    rw [ho] at hop hE
    simp only [cOp, Option.bind_eq_bind, Option.pure_def, Option.bind_eq_some_iff, Option.some.injEq] at hop
    obtain ⟨x', hx, rfl⟩ := hop
    have hv := hE x (by simp [Op.operands]) _ hx
    obtain ⟨hc, hk⟩ := oNilchk_ok hv e
    refine ⟨_, _, hc, ?_, hv⟩
    rcases hk with ⟨p, hp⟩ | ⟨f, b, c', hp⟩ | ⟨l, b, c', hp⟩ <;> simp only [hp, Sem.run_pure]
  | extract x i =>
    rw [ho] at hop hE
    simp only [cOp, Option.bind_eq_bind, Option.pure_def, Option.bind_eq_some_iff, Option.some.injEq] at hop
    obtain ⟨x', hx, rfl⟩ := hop
    exact Reads.of (oExt_ok (hE x (by simp [Op.operands]) _ hx) e)
  | makeFunc fn first captured =>
    rw [ho] at hop hE
    cases fn with
    | func f =>
      simp only [cOp, Option.bind_eq_bind, Option.pure_def, Option.bind_eq_some_iff, Option.some.injEq] at hop
      obtain ⟨fs, hf, cs, hc, rfl⟩ := hop
      refine Reads.of ⟨_, _, e, rfl, ?_⟩
      have h1 := evs_ok (ρ := ρ) (t := t) (a := a) (fun x hx => hE x (by simp [Op.operands]; exact .inl (by simpa using hx))) hf
      have h2 := evs_ok (ρ := ρ) (t := t) (a := a) (fun x hx => hE x (by simp [Op.operands]; exact .inr (by simpa using hx))) hc
      have h3 := VR.fn f _ _ _ _ h1 h2
      have e1 : (⟨first.toList.map a.eval⟩ : Array Value) = first.map a.eval := by apply Array.ext'; simp
      have e2 : (⟨captured.toList.map a.eval⟩ : Array Value) = captured.map a.eval := by apply Array.ext'; simp
      rw [e1, e2] at h3
      exact h3
    | _ => simp [cOp] at hop
  | lookup ty m k ok =>
    rw [ho] at hop hE
    simp only [cOp, Option.bind_eq_bind, Option.pure_def, Option.bind_eq_some_iff] at hop
    obtain ⟨d, hd, hop⟩ := hop
    split at hop
    · simp only [Option.bind_eq_some_iff, Option.some.injEq] at hop
      obtain ⟨dk, hdk, z, hz, q, hq, m', hm, k', hk, rfl⟩ := hop
      obtain ⟨i, z', hi, hz', hv⟩ := zeroV_ok (ρ := ρ) hP.toTyOK hz
      exact Reads.of (oMapget_ok H (hP.un _ _ hd) (hP.un _ _ hdk) hq hi hz' (hE m (by simp [Op.operands]) _ hm) (hE k (by simp [Op.operands]) _ hk) hv e)
    · cases hop
  | index ty x ix =>
    rw [ho] at hop hE
    simp only [cOp, Option.bind_eq_bind, Option.pure_def, Option.bind_eq_some_iff] at hop
    obtain ⟨x', hx, i', hi, d, hd, hop⟩ := hop
    have hvx := hE x (by simp [Op.operands]) _ hx
    have hvi := hE ix (by simp [Op.operands]) _ hi
    split at hop
    · simp only [Option.some.injEq] at hop
      subst hop
      exact Reads.of (oIdxS_ok (hP.un _ _ hd) hvx hvi e)
    · simp only [Option.bind_eq_some_iff, Option.some.injEq] at hop
      obtain ⟨d', hd', n, hn, rfl⟩ := hop
      obtain ⟨i, hi, rfl⟩ := sizeT_ok hP.toTyOK hn
      exact Reads.of (oIdxG_ok (hP.un _ _ hd) (hP.un _ _ hd') hi hvx hvi e)
    · cases hop
  | field ty x f =>
    rw [ho] at hop hE
    simp only [cOp, Option.bind_eq_bind, Option.pure_def, Option.bind_eq_some_iff] at hop
    obtain ⟨d, hd, hop⟩ := hop
    split at hop
    · simp only [Option.bind_eq_some_iff, Option.some.injEq] at hop
      obtain ⟨fd, hfd, d', hd', x', hx, n, hn, rfl⟩ := hop
      obtain ⟨i, hi, rfl⟩ := sizeT_ok hP.toTyOK hn
      exact Reads.of (oFld_ok (hP.un _ _ hd) hfd (hP.un _ _ hd') hi (hE x (by simp [Op.operands]) _ hx) e)
    · cases hop
  | convert s d x =>
    rw [ho] at hop hE
    simp only [cOp, Option.bind_eq_bind, Option.bind_eq_some_iff] at hop
    obtain ⟨ds, hds, dd, hdd, x', hx, hop⟩ := hop
    have hv := hE x (by simp [Op.operands]) _ hx
    unfold cConv at hop
    split at hop
    · cases hop
      exact Reads.of (oConv_ok (hP.un _ _ hds) (hP.un _ _ hdd) hv e)
    · cases hop
      have e' : oSliceS (ev t x') none none h c = true := e
      generalize hq : a.eval x = vx at hv
      generalize ev t x' = vv at hv e'
      cases hv with
      | str l s hs =>
        simp only [oSliceS, force_eq, bnd, dropN, takeL_eq, lenN_eq, List.take_length] at e'
        refine Reads.of ⟨_, _, e', ?_, .str _ s hs⟩
        simp [convert, run_underlying (hP.un _ _ hds), run_underlying (hP.un _ _ hdd), hq]
      | _ => simp [oSliceS] at e'
    · split at hop <;> cases hop
      cases hs
    · split at hop <;> cases hop
      cases hs
    · cases hop
  | slice ty x lo hi mx =>
    rw [ho] at hop hE
    simp only [cOp, Option.bind_eq_bind, Option.pure_def, Option.bind_eq_some_iff] at hop
    obtain ⟨x', hx, lo', hlo, hi', hhi, mx', hmx, d, hd, hop⟩ := hop
    have hvx := hE x (by simp [Op.operands]) _ hx
    have hl := evo_ok (ρ := ρ) (t := t) (a := a) (fun y hy => hE y (by subst hy; simp [Op.operands])) hlo
    have hh := evo_ok (ρ := ρ) (t := t) (a := a) (fun y hy => hE y (by subst hy; simp [Op.operands])) hhi
    split at hop
    · simp only [Option.bind_eq_some_iff, Option.some.injEq] at hop
      obtain ⟨n, hn, rfl⟩ := hop
      cases hs
    · split at hop
      · cases hop
        have : mx = none := by cases mx with
          | none => rfl
          | some y => simp only [cXo] at hmx; split at hmx <;> cases hmx
        subst this
        exact Reads.of (oSliceS_ok (hP.un _ _ hd) hvx hl hh e)
      · cases hop
    · simp only [Option.bind_eq_some_iff, Option.some.injEq] at hop
      obtain ⟨n, hn, rfl⟩ := hop
      cases hs
    · cases hop
  | typeAssert x xt ty ok =>
    rw [ho] at hop
    simp only [cOp, Option.bind_eq_bind, Option.pure_def, Option.bind_eq_some_iff] at hop
    obtain ⟨d, hd, z, hz, x', hx, hop⟩ := hop
    split at hop
    · cases hop
    · cases hop
      cases hs
  | makeInterface ty x =>
    rw [ho] at hop hE
    simp only [cOp, Option.bind_eq_bind, Option.pure_def, Option.bind_eq_some_iff] at hop
    obtain ⟨d, hd, x', hx, hop⟩ := hop
    split at hop
    · cases hop
    · rename_i hni
      cases hop
      refine Reads.of ⟨_, _, e, ?_, .ifc _ _ _ (hE x (by simp [Op.operands]) _ hx)⟩
      simp only [Instr.makeInterface, Sem.run_bind, run_underlying (hP.un _ _ hd), Result.andThen_ok]
      cases d <;> first | exact absurd rfl (hni _) | simp
  | call cl =>
    rw [ho] at hop hE
    simp only [cOp] at hop
    split at hop
    · rename_i b hcal
      split at hop
      · cases hop; cases hs
      · simp only [Option.bind_eq_bind, Option.pure_def, Option.bind_eq_some_iff, Option.some.injEq] at hop
        obtain ⟨x', hx, rfl⟩ := hop
        cases hs
      · simp only [Option.bind_eq_bind, Option.bind_eq_some_iff] at hop
        obtain ⟨as, has, hop⟩ := hop
        have hall := evs_ok (ρ := ρ) (t := t) (a := a) (fun x hx => hE x (by simp [Op.operands, Call.operands, hcal]; simpa using hx)) has
        obtain ⟨v, v', hc, hrun, hv⟩ := builtin_ok (ty := o.type) (consts := cl.args.map fun | .const _ => true | _ => false) (args := cl.args.map a.eval) hP H hop hs (by simpa using hall) e
        refine ⟨v, v', hc, ?_, hv⟩
        simp only [resolve, hcal, invoke, Sem.run_bind, Sem.run_pure, Result.andThen_ok]
        exact hrun
    · rename_i f hcal
      simp only [Option.bind_eq_bind, Option.pure_def, Option.bind_eq_some_iff] at hop
      obtain ⟨as, has, hop⟩ := hop
      have hall := evs_ok (ρ := ρ) (t := t) (a := a) (fun x hx => hE x (by simp [Op.operands, Call.operands, hcal]; exact .inr (by simpa using hx))) has
      split at hop
      · rename_i g
        split at hop
        · rename_i hg
          split at hop
          · rename_i x y
            cases hop
            obtain ⟨x', y', hargs⟩ : ∃ x' y', cl.args.toList.map a.eval = [x', y'] := by
              have := hall.length
              simp only [evs, List.length_cons, List.length_nil] at this
              match hm : cl.args.toList.map a.eval, this with
              | [x', y'], _ => exact ⟨x', y', rfl⟩
            rw [hargs] at hall
            simp only [evs] at hall
            cases hall with
            | cons _ _ _ _ h1 hr =>
              cases hr with
              | cons _ _ _ _ h2 _ =>
                obtain ⟨s, u, rfl, rfl, hc⟩ := oCmpStr_ok h1 h2 e
                refine ⟨_, _, hc, ?_, .int _ _⟩
                have hm : cl.args.map a.eval = #[.string s, .string u] := by apply Array.ext'; simpa using hargs
                simp only [resolve, hcal, Sem.run_bind, Sem.run_pure, Result.andThen_ok, Deferred.ofValue, Act.eval]
                rw [hm]
                simp only [invoke]
                exact hP.ext g hg s u w
          · cases hop
        · cases hop; cases hs
      · cases hop; cases hs
      · cases hop
    · cases hop
  | alloc p0 =>
    rw [ho] at hop
    simp only [cOp, Option.bind_eq_bind, Option.pure_def, Option.bind_eq_some_iff, Option.some.injEq] at hop
    obtain ⟨_, _, rfl⟩ := hop
    cases hs
  | box p0 p1 =>
    rw [ho] at hop
    simp only [cOp, Option.bind_eq_bind, Option.pure_def, Option.bind_eq_some_iff, Option.some.injEq] at hop
    obtain ⟨_, _, rfl⟩ := hop
    cases hs
  | store p0 p1 p2 =>
    rw [ho] at hop
    simp only [cOp, Option.bind_eq_bind, Option.pure_def, Option.bind_eq_some_iff, Option.some.injEq] at hop
    obtain ⟨_, _, _, _, _, _, rfl⟩ := hop
    cases hs
  | mapUpdate p0 p1 p2 p3 =>
    rw [ho] at hop
    simp only [cOp, Option.bind_eq_bind, Option.pure_def, Option.bind_eq_some_iff] at hop
    obtain ⟨_, _, hop⟩ := hop
    split at hop
    · simp only [Option.bind_eq_some_iff, Option.some.injEq] at hop
      obtain ⟨_, _, _, _, _, _, _, _, _, _, rfl⟩ := hop
      cases hs
    · cases hop
  | insert p0 p1 p2 p3 =>
    rw [ho] at hop
    simp only [cOp, Option.bind_eq_bind, Option.pure_def, Option.bind_eq_some_iff] at hop
    obtain ⟨_, _, hop⟩ := hop
    split at hop
    · simp only [Option.bind_eq_some_iff, Option.some.injEq] at hop
      obtain ⟨_, _, _, _, _, _, _, _, _, _, rfl⟩ := hop
      cases hs
    · cases hop
  | makeSlice p0 p1 p2 =>
    rw [ho] at hop
    simp only [cOp, Option.bind_eq_bind, Option.pure_def, Option.bind_eq_some_iff] at hop
    obtain ⟨_, _, hop⟩ := hop
    split at hop
    · simp only [Option.bind_eq_some_iff, Option.some.injEq] at hop
      obtain ⟨_, _, _, _, _, _, _, _, rfl⟩ := hop
      cases hs
    · cases hop
  | panic p0 =>
    rw [ho] at hop
    simp only [cOp, Option.bind_eq_bind, Option.pure_def, Option.bind_eq_some_iff, Option.some.injEq] at hop
    obtain ⟨_, _, rfl⟩ := hop
    cases hs
  | buildSlice p0 p1 p2 =>
    rw [ho] at hop
    simp only [cOp, Option.bind_eq_bind, Option.pure_def, Option.bind_eq_some_iff] at hop
    obtain ⟨_, _, hop⟩ := hop
    split at hop
    · simp only [Option.bind_eq_some_iff] at hop
      obtain ⟨_, _, _, _, hop⟩ := hop
      split at hop
      · simp only [Option.bind_eq_some_iff, Option.some.injEq] at hop
        obtain ⟨_, _, rfl⟩ := hop
        cases hs
      · cases hop
    · cases hop
  | makeMap p0 p1 =>
    rw [ho] at hop
    simp only [cOp] at hop
    split at hop <;> cases hop
    cases hs
  | defer p0 =>
    rw [ho] at hop
    simp only [cOp] at hop
    split at hop
    · simp only [Option.bind_eq_bind, Option.pure_def, Option.bind_eq_some_iff, Option.some.injEq] at hop
      obtain ⟨_, _, _, _, rfl⟩ := hop
      cases hs
    · cases hop
  | _ => rw [ho] at hop; simp [cOp] at hop

end
end Go.AJ

/- Bytes and strings; rows that are copied and cleared. -/
namespace Go.AJ
open Go

section
variable {P : Program} {X : Cx} {ρ : Ren} {h : Hp} {w : World}

theorem byteVs_length (l : List Nat) : (byteVs l).length = l.length := by
  induction l with
  | nil => rfl
  | cons x l ih => simp [byteVs, ih]

theorem byteVs_one (l : List Nat) : ∀ v ∈ byteVs l, v.one = true := by
  induction l with
  | nil => intro v hv; simp [byteVs] at hv
  | cons x l ih =>
    intro v hv
    simp only [byteVs, List.mem_cons] at hv
    rcases hv with rfl | hv
    · rfl
    · exact ih v hv

theorem oToBytes_ok (H : HR X ρ h w) {x : V} {x' : Value} {c : KV} {s t el : Nat} (hs : P.underlying s = some .string) (hd : P.underlying t = some (.slice el)) (he : P.underlying el = some (.int .u8)) (hx : VR ρ x x')
    (e : oToBytes x h c = true) : Did X ρ h w c ((convert s t x').run P w) := by
  cases hx with
  | str a u hu =>
    change nats u = a at hu
    subst hu
    simp only [oToBytes, newBlk_eq, force_eq, lenN_eq, nats_length] at e
    have hcap : u.size ≤ grownCap w u.size 0 el := grownCap_ge _ _ _ _
    have hn : ρ (nxt h) = none := H.fresh (Nat.le_refl _)
    have hrow := byteVs_ok (ρ := ρ) u
    have hlen : (byteVs (nats u)).length = u.size := by rw [byteVs_length, nats_length]
    obtain ⟨H', E⟩ := (H.drew (w.drawn + 1)).newName (.cells (byteVs (nats u))) ⟨w.heap.size, 0, grownCap w u.size 0 el - u.size, 1, u.size⟩
      (.cells (bytesRow u (grownCap w u.size 0 el)) el ((bytesRow u (grownCap w u.size 0 el)).size, (bytesRow u (grownCap w u.size 0 el)).size + 1)) _ rfl rfl
      ⟨_, _, _, rfl, hlen, by simp [bytesRow], fun i hi hf => by simp only at hf; omega, by
        simp only [bytesRow, List.drop_zero, Array.toList_append]
        rw [List.take_append_of_le_length (by simp), List.take_of_length_le (by simp)]
        exact hrow.mono (Ren.add_sub hn), byteVs_one _⟩
    refine ⟨_, .slice (some ⟨w.heap.size, 0, none⟩) u.size (grownCap w u.size 0 el), _, _, _, e, ?_, ?_, H', (Ext.drew ρ h w _).trans E⟩
    · exact run_bytes_of_string w s t el u hs hd he
    · have := VR.slo (ρ := ρ.add (nxt h) ⟨w.heap.size, 0, grownCap w u.size 0 el - u.size, 1, u.size⟩) (nxt h) 0 u.size u.size 0 ⟨w.heap.size, 0, grownCap w u.size 0 el - u.size, 1, u.size⟩ (Ren.add_same _ _ _) rfl (by simp)
      simpa only [Nat.zero_add, show u.size + (grownCap w u.size 0 el - u.size) = grownCap w u.size 0 el by omega] using this
  | _ => simp [oToBytes] at e

theorem natsOf_ok : ∀ {l : List V} {c : List Nat → Bool}, natsOf l c = true → ∃ ns, c ns = true ∧ (∀ n ∈ ns, n < 256) ∧ l = byteVs ns := by
  intro l
  induction l with
  | nil => intro c e; exact ⟨[], e, by simp, rfl⟩
  | cons v l ih =>
    intro c e
    simp only [natsOf] at e
    (repeat' split at e) <;> first
      | (rename_i n hn
         obtain ⟨ns, h1, h2, h3⟩ := ih e
         refine ⟨_ :: ns, h1, ?_, by rw [h3]; rfl⟩
         intro m hm
         rcases List.mem_cons.1 hm with rfl | hm
         · exact Nat.blt_eq ▸ hn
         · exact h2 m hm)
      | cases e

theorem byteVs_vals {ns : List Nat} {l' : List Value} (h : VL ρ (byteVs ns) l') : l' = (ns.map Int.ofNat).map (Value.int .u8) := by
  induction ns generalizing l' with
  | nil => cases h; rfl
  | cons n ns ih =>
    cases h with
    | cons _ v' _ l' hv hl =>
      cases hv
      rw [ih hl]
      rfl

theorem push_bytes (ns : List Nat) (hb : ∀ n ∈ ns, n < 256) : ∀ (s : ByteArray), nats ((ns.map Int.ofNat).foldl (fun r n => r.push (UInt8.ofNat n.toNat)) s) = nats s ++ ns := by
  induction ns with
  | nil => intro s; simp
  | cons n ns ih =>
    intro s
    rw [List.map_cons, List.foldl_cons, ih (fun m hm => hb m (.tail _ hm))]
    have hn := hb n (.head _)
    simp [nats, ByteArray.push]
    omega

theorem oOfBytes_ok (H : HR X ρ h w) {x : V} {x' : Value} {c : KV} {s t el : Nat} (hs : P.underlying s = some (.slice el)) (he : P.underlying el = some (.int .u8)) (hd : P.underlying t = some .string) (hx : VR ρ x x')
    (e : oOfBytes x h c = true) : ∃ z z', c z h = true ∧ (convert s t x').run P w = .ok z' w ∧ VR ρ z z' := by
  have cells : ∀ (b : K) (off len : Nat) (r : RB) (cp : Nat), ρ b = some r → (cellsAt h b off len fun q => natsOf q fun u => c (.str u) h) = true →
      ∃ z z', c z h = true ∧ (convert s t (.slice (some ⟨r.blk, off + r.d, none⟩) len cp)).run P w = .ok z' w ∧ VR ρ z z' := by
    intro b off len r cp hr e
    obtain ⟨l, l', hc, hn, hv, ho, hcell, _⟩ := cellsAt_ok H hr e
    obtain ⟨ns, hq, hb, rfl⟩ := natsOf_ok hc
    have hl' := byteVs_vals hv
    have hlen := hv.length
    refine ⟨.str ns, .string ((ns.map Int.ofNat).foldl (fun r n => r.push (UInt8.ofNat n.toNat)) ByteArray.empty), hq, ?_, .str _ _ ?_⟩
    · rw [run_convert_bytes_string w s t el _ len cp hs he hd]
      refine run_bytesToString w _ len cp _ ?_
      have := run_firstCells_some (P := P) w 1 len ⟨r.blk, off + r.d, none⟩ len cp l' (by omega) (fun j v hj => by rw [Addr.add_none]; exact hcell j v hj)
      simp only [Builtin.firstCells, Nat.mul_one] at this
      rw [this, hl']
    · have := push_bytes ns hb ByteArray.empty
      simpa [nats] using this
  cases hx with
  | nils =>
    refine ⟨.str [], .string .empty, e, ?_, .str _ _ rfl⟩
    rw [run_convert_bytes_string w s t el _ _ _ hs he hd]
    simp [Conv.bytesToString]
  | slc b o l cp r hr =>
    cases l with
    | zero => exact cells b o 0 r cp hr e
    | succ n => exact cells b o (n + 1) r cp hr e
  | slo b o l cp p r hr hp hf =>
    cases l with
    | zero => exact cells b o 0 r _ hr e
    | succ n => exact cells b o (n + 1) r _ hr e
  | _ => simp [oOfBytes] at e

theorem oCopy_ok (H : HR X ρ h w) {s t ty el : Nat} {i : TypeInfo} {d : TypeDesc} {x y : V} {x' y' : Value} {c : KV} (ht : P.underlying t = some (.slice el)) (hd : (∃ e, d = .slice e) ∨ d = .string) (hi : P.info? el = some i)
    (hx : VR ρ x x') (hy : VR ρ y y') (e : oCopy x y i.size h c = true) : Did X ρ h w c ((Builtin.copy_ #[t, s] ty #[x', y']).run P w) := by
  have go : ∀ (b : K) (off len cp : Nat) (r : RB), ρ b = some r → (srcOf y i.size h fun n0 new => (match Nat.ble n0 len with
      | true => storeAt h b off new fun h' => c (.int .i64 (.ofNat n0)) h'
      | false => false)) = true → Did X ρ h w c ((Builtin.copy_ #[t, s] ty #[.slice (some ⟨r.blk, off + r.d, none⟩) len cp, y']).run P w) := by
    intro b off len cp r hr e
    obtain ⟨n, l, news, hc, hsrc, hvn, hon⟩ := srcOf_ok (P := P) (elem := el) H hd hy e
    split at hc
    · rename_i hle
      have hle := Nat.le_of_ble_eq_true hle
      obtain ⟨h', w', hk, hrun, H', E⟩ := storeAt_ok (P := P) H hr hvn hon hc
      rcases hsrc.kind with ⟨k, m, hk1, _⟩ | ⟨_, hlen, hfirst⟩
      · rcases hd with ⟨e, he⟩ | he <;> rw [he] at hk1 <;> cases hk1
      · refine ⟨_, .int .i64 (n : Int), ρ, h', w', hk, ?_, .int _ _, H', E⟩
        have hf := hfirst w.drawn
        have hf : (Builtin.firstCells i.size n y').run P w = .ok news w := hf
        have hmin : Nat.min n len = n := Nat.min_eq_left hle
        simp [Builtin.copy_, run_underlying ht, hlen, run_sizeOf hi, hmin, hf, hrun, goInt]
    · cases hc
  cases hx with
  | slc b o l cp r hr => exact go b o l cp r hr e
  | slo b o l cp p r hr hp hf => exact go b o l _ r hr e
  | _ => simp [oCopy] at e

theorem oClr_ok (H : HR X ρ h w) {t ty el : Nat} {i : TypeInfo} {z : List V} {z' : Value} {x : V} {x' : Value} {c : Hp → Bool} (ht : P.underlying t = some (.slice el)) (hi : P.info? el = some i) (hz' : i.zero = some z') (hz : VL ρ z z'.cells.toList) (hn : z.length = i.size)
    (ho : ∀ v ∈ z, v.one = true) (hx : VR ρ x x') (e : oClr x z h c = true) :
    ∃ h' w', c h' = true ∧ (Builtin.clear_ #[t] ty #[x']).run P w = .ok (.tuple #[]) w' ∧ HR X ρ h' w' ∧ Ext ρ h w ρ h' w' := by
  have hzs : z'.cells.size = i.size := by
    have h1 := hz.length
    simp only [Array.length_toList] at h1
    exact h1.symm.trans hn
  have go : ∀ (b : K) (off len cp : Nat) (r : RB), ρ b = some r → storeAt h b off (rep len z) c = true → ∃ h' w', c h' = true ∧ (Builtin.clear_ #[t] ty #[.slice (some ⟨r.blk, off + r.d, none⟩) len cp]).run P w = .ok (.tuple #[]) w' ∧ HR X ρ h' w' ∧ Ext ρ h w ρ h' w' := by
    intro b off len cp r hr e
    cases len with
    | zero =>
      refine ⟨h, w, e, ?_, H, Ext.refl _ _ _⟩
      simp [Builtin.clear_, run_underlying ht]
    | succ m =>
      have hv := rep_zeros hz hn (m + 1)
      rw [← hzs] at hv
      obtain ⟨h', w', hk, hrun, H', E⟩ := storeAt_ok (P := P) H hr (news := (Builtin.zeroCells z'.cells (m + 1)).toList) hv (rep_one ho _) e
      refine ⟨h', w', hk, ?_, H', E⟩
      simp [Builtin.clear_, run_underlying ht, run_zeroValue hi hz', hrun]
  cases hx with
  | nils => exact ⟨h, w, e, by simp [Builtin.clear_, run_underlying ht], H, Ext.refl _ _ _⟩
  | slc b o l cp r hr => exact go b o l cp r hr e
  | slo b o l cp p r hr hp hf => exact go b o l _ r hr e
  | _ => simp [oClr] at e

end
end Go.AJ

/- Every operation that hands a value on by itself. -/
namespace Go.AJ
open Go

section
variable {P : Program} {X : Cx} {ρ : Ren} {h : Hp} {w : World} {t : T V} {a : Act}

/-- What an operation comes to that hands on a value, or none. -/
def OpVal (P : Program) (X : Cx) (ρ : Ren) (h : Hp) (w : World) (c : KV) (s : Sem Next) : Prop :=
  ∃ v v' ρ' h' w' nx, c v h' = true ∧ s.run P w = .ok nx w' ∧ (nx = .value v' ∨ (nx = .skip ∧ v' = undef)) ∧ VR ρ' v v' ∧ HR X ρ' h' w' ∧ Ext ρ h w ρ' h' w'

theorem Reads.opVal {c : KV} {s : Sem Next} (H : HR X ρ h w) (hr : Reads P ρ h w c s) : OpVal P X ρ h w c s := by
  obtain ⟨v, v', h1, h2, h3⟩ := hr
  exact ⟨v, v', ρ, h, w, _, h1, h2, .inl rfl, h3, H, Ext.refl _ _ _⟩

theorem Did.opVal {c : KV} {s : Sem Value} (hr : Did X ρ h w c (s.run P w)) : OpVal P X ρ h w c (do pure (.value (← s))) := by
  obtain ⟨v, v', ρ', h', w', h1, h2, h3, h4, h5⟩ := hr
  exact ⟨v, v', ρ', h', w', _, h1, by simp [h2], .inl rfl, h3, h4, h5⟩

theorem DidU.opVal {dst : Option K} {d : Dc} {k : KS} {s : Sem Unit} (hr : DidU X ρ h w (kh dst t d k) (s.run P w)) : OpVal P X ρ h w (kv dst t d k) (do s; pure .skip) := by
  obtain ⟨h', w', h1, h2, h3, h4⟩ := hr
  exact ⟨und, undef, ρ, h', w', _, h1, by simp [h2], .inr ⟨rfl, rfl⟩, .tup [] [] .nil, h3, h4⟩

def isCtl : AOp → Bool
  | .call .. | .callv .. | .defer .. | .recover | .panic _ | .bad => true
  | _ => false

theorem opRun_simple (C : CallF) {op : AOp} (hs : clsOf op = .simple) (dst : Option K) (t : T V) (d : Dc) (h : Hp) (k : KS) (p : KP) : opRun C op dst t d h k p = simpleV op t h (kv dst t d k) := by
  cases op <;> first | rfl | cases hs

theorem append_ok (hP : POK P X) (H : HR X ρ h w) {b : Builtin} {ts : Array TypeId} {ty : TypeId} {consts : Array Bool} {as : List AJ.X} {args : Array Value} {op : AOp} (hop : cBuiltin X.T b ts.toList as = some op) (hs : ¬ clsOf op = .simple)
    (hargs : VL ρ (evs t as) args.toList) {C : CallF} {dst : Option K} {d : Dc} {k : KS} {p : KP} (e : opRun C op dst t d h k p = true) : OpVal P X ρ h w (kv dst t d k) (builtin b ts ty consts args) := by
  unfold cBuiltin at hop
  split at hop
  · rename_i t1 t2 s x hts
    simp only [evs] at hargs
    generalize hl : args.toList = l at hargs
    have hts' : ts = #[t1, t2] := by apply Array.ext'; simpa using hts
    subst hts'
    cases hargs with
    | cons _ s' _ _ hs1 hr =>
      cases hr with
      | cons _ x' _ _ hx hr =>
        cases hr
        have hargs' : args = #[s', x'] := by apply Array.ext'; simpa using hl
        subst hargs'
        unfold builtin
        unfold cAppend at hop
        split at hop
        · rename_i el d' h1 h2
          split at hop
          · rename_i i z hi hz
            obtain ⟨i', z', hi', hz', hv, hlen, hone⟩ := zeroL_ok (ρ := ρ) hP.toTyOK hz
            have hi2 := hP.inf _ _ hi
            rw [hi2] at hi'
            cases hi'
            have hzs : z'.cells.size = i.size := by
              have h1 := hv.length
              simp only [Array.length_toList] at h1
              exact h1.symm.trans hlen
            split at hop
            · cases hop
              exact (oAppz_ok H (hP.un _ _ h1) (hP.un _ _ h2) hi2 hz' hv hone hlen hs1 hx e).opVal
            · cases hop
              exact (oApp_ok H (hP.un _ _ h1) (hP.un _ _ h2) (.inl ⟨_, rfl⟩) hi2 hz' hzs hs1 hx e).opVal
            · cases hop
              exact (oApp_ok H (hP.un _ _ h1) (hP.un _ _ h2) (.inr rfl) hi2 hz' hzs hs1 hx e).opVal
            · cases hop
          · cases hop
        · cases hop
  · unfold cLen at hop
    split at hop <;> cases hop <;> exact absurd rfl hs
  · unfold cCap at hop
    split at hop <;> cases hop
    exact absurd rfl hs
  · cases hop; exact absurd rfl hs
  · cases hop; exact absurd rfl hs
  · rename_i t1 t2 s x hts
    simp only [evs] at hargs
    generalize hl : args.toList = l at hargs
    have hts' : ts = #[t1, t2] := by apply Array.ext'; simpa using hts
    subst hts'
    cases hargs with
    | cons _ s' _ _ hs1 hr =>
      cases hr with
      | cons _ x' _ _ hx hr =>
        cases hr
        have hargs' : args = #[s', x'] := by apply Array.ext'; simpa using hl
        subst hargs'
        unfold builtin
        unfold cCopy at hop
        split at hop
        · rename_i h1 h2
          split at hop
          · rename_i i hi
            cases hop
            exact (oCopy_ok (d := .slice 0) H (hP.un _ _ h1) (.inl ⟨0, rfl⟩) (hP.inf _ _ hi) hs1 hx e).opVal
          · cases hop
        · rename_i h1 h2
          split at hop
          · rename_i i hi
            cases hop
            exact (oCopy_ok (d := .string) H (hP.un _ _ h1) (.inr rfl) (hP.inf _ _ hi) hs1 hx e).opVal
          · cases hop
        · cases hop
  · rename_i t1 x hts
    simp only [evs] at hargs
    generalize hl : args.toList = l at hargs
    have hts' : ts = #[t1] := by apply Array.ext'; simpa using hts
    subst hts'
    cases hargs with
    | cons _ x' _ _ hx hr =>
      cases hr
      have hargs' : args = #[x'] := by apply Array.ext'; simpa using hl
      subst hargs'
      unfold builtin
      unfold cClr at hop
      split at hop
      · rename_i el h1
        split at hop
        · rename_i z hz
          cases hop
          obtain ⟨i, z', hi, hz', hv, hlen, hone⟩ := zeroL_ok (ρ := ρ) hP.toTyOK hz
          obtain ⟨h', w', hk, hrun, H', E⟩ := oClr_ok (ty := ty) H (hP.un _ _ h1) hi hz' hv hlen hone hx e
          exact ⟨und, .tuple #[], ρ, h', w', _, hk, by simp [hrun], .inl rfl, .tup [] [] .nil, H', E⟩
        · cases hop
      · cases hop
  · cases hop

theorem isByte_ok (hP : POK P X) {e : TypeId} (h : isByte X.T e = true) : P.underlying e = some (.int .u8) := by
  unfold isByte at h
  split at h
  · rename_i hu; exact hP.un _ _ hu
  · cases h

theorem valop_ok (hP : POK P X) (H : HR X ρ h w) {o : Oper} {op : AOp} (hop : cOp X.T X.ext o.op = some op) (hE : ∀ x ∈ o.op.operands.toList, EvR ρ t a x) {C : CallF} {dst : Option K} {d : Dc} {k : KS} {p : KP}
    (hc : isCtl op = false) (e : opRun C op dst t d h k p = true) : OpVal P X ρ h w (kv dst t d k) (execOp a.eval o) := by
  by_cases hs : clsOf op = .simple
  · rw [opRun_simple C hs] at e
    exact (simple_ok hP H hop hs hE e).opVal H
  unfold execOp
  cases ho : o.op with
  | alloc ty =>
    rw [ho] at hop
    simp only [cOp, Option.bind_eq_bind, Option.pure_def, Option.bind_eq_some_iff, Option.some.injEq] at hop
    obtain ⟨z, hz, rfl⟩ := hop
    obtain ⟨i, z', hi, hz', hv, hlen, hone⟩ := zeroL_ok (ρ := ρ) hP.toTyOK hz
    exact (oAlloc_ok H hi hz' hv hone e).opVal
  | box ty x =>
    rw [ho] at hop hE
    simp only [cOp, Option.bind_eq_bind, Option.pure_def, Option.bind_eq_some_iff, Option.some.injEq] at hop
    obtain ⟨x', hx, rfl⟩ := hop
    exact (oBox_ok H (hE x (by simp [Op.operands]) _ hx) ty e).opVal
  | buildSlice ty len ps =>
    rw [ho] at hop hE
    simp only [cOp, Option.bind_eq_bind, Option.pure_def, Option.bind_eq_some_iff] at hop
    obtain ⟨d', hd, hop⟩ := hop
    split at hop
    · rename_i el
      simp only [Option.bind_eq_some_iff] at hop
      obtain ⟨sz, hsz, z, hz, hop⟩ := hop
      split at hop
      · rename_i hle
        simp only [Option.bind_eq_some_iff, Option.some.injEq] at hop
        obtain ⟨ps', hps, rfl⟩ := hop
        obtain ⟨i, hi, rfl⟩ := sizeT_ok hP.toTyOK hsz
        obtain ⟨i', z', hi', hz', hv, hlen, hone⟩ := zeroL_ok (ρ := ρ) hP.toTyOK hz
        rw [hi] at hi'
        cases hi'
        have hev : ∀ p ∈ ps.toList, EvR ρ t a p.2 := fun p hp => hE p.2 (by simp [Op.operands]; exact ⟨p.1, by simpa using hp⟩)
        have hmap : (ps.map fun p => (p.1, a.eval p.2)).toList = ps.toList.map fun p => (p.1, a.eval p.2) := by simp
        exact (oMkSl_ok H (hP.un _ _ hd) hi hz' (by rw [hmap]; exact partsA_ok _ hps hev) hv hlen hone hle e).opVal
      · cases hop
    · cases hop
  | makeMap ty r =>
    rw [ho] at hop
    simp only [cOp] at hop
    split at hop
    · cases hop
      exact (oMkmap_ok (ty := ty) H e).opVal
    · cases hop
  | makeSlice ty l cp =>
    rw [ho] at hop hE
    simp only [cOp, Option.bind_eq_bind, Option.pure_def, Option.bind_eq_some_iff] at hop
    obtain ⟨d', hd, hop⟩ := hop
    split at hop
    · simp only [Option.bind_eq_some_iff, Option.some.injEq] at hop
      obtain ⟨i, hi, z, hz, l', hl, cp', hcp, rfl⟩ := hop
      obtain ⟨i', z', hi', hz', hv, hlen, hone⟩ := zeroL_ok (ρ := ρ) hP.toTyOK hz
      have hi2 := hP.inf _ _ hi
      rw [hi2] at hi'
      cases hi'
      exact (oMkslice_ok H (hP.un _ _ hd) hi2 hz' hv hlen hone (hE l (by simp [Op.operands]) _ hl) (hE cp (by simp [Op.operands]) _ hcp) e).opVal
    · cases hop
  | store ty p1 x =>
    rw [ho] at hop hE
    simp only [cOp, Option.bind_eq_bind, Option.pure_def, Option.bind_eq_some_iff, Option.some.injEq] at hop
    obtain ⟨a', ha, x', hx, n, hn, rfl⟩ := hop
    obtain ⟨i, hi, rfl⟩ := sizeT_ok hP.toTyOK hn
    exact (oStore_ok H hi (hE p1 (by simp [Op.operands]) _ ha) (hE x (by simp [Op.operands]) _ hx) e).opVal
  | mapUpdate ty m k1 x =>
    rw [ho] at hop hE
    simp only [cOp, Option.bind_eq_bind, Option.pure_def, Option.bind_eq_some_iff] at hop
    obtain ⟨d', hd, hop⟩ := hop
    split at hop
    · simp only [Option.bind_eq_some_iff, Option.some.injEq] at hop
      obtain ⟨dk, hdk, q, hq, m', hm, k', hk, x', hx, rfl⟩ := hop
      exact (oMapset_ok H (hP.un _ _ hd) (hP.un _ _ hdk) hq (hE m (by simp [Op.operands]) _ hm) (hE k1 (by simp [Op.operands]) _ hk) (hE x (by simp [Op.operands]) _ hx) e).opVal
    · cases hop
  | insert ty m k1 x =>
    rw [ho] at hop hE
    simp only [cOp, Option.bind_eq_bind, Option.pure_def, Option.bind_eq_some_iff] at hop
    obtain ⟨d', hd, hop⟩ := hop
    split at hop
    · simp only [Option.bind_eq_some_iff, Option.some.injEq] at hop
      obtain ⟨dk, hdk, q, hq, m', hm, k', hk, x', hx, rfl⟩ := hop
      exact (oMapset_ok H (hP.un _ _ hd) (hP.un _ _ hdk) hq (hE m (by simp [Op.operands]) _ hm) (hE k1 (by simp [Op.operands]) _ hk) (hE x (by simp [Op.operands]) _ hx) e).opVal
    · cases hop
  | slice ty x lo hi mx =>
    rw [ho] at hop hE
    simp only [cOp, Option.bind_eq_bind, Option.pure_def, Option.bind_eq_some_iff] at hop
    obtain ⟨x', hx, lo', hlo, hi', hhi, mx', hmx, d', hd, hop⟩ := hop
    have hvx := hE x (by simp [Op.operands]) _ hx
    have hl := evo_ok (ρ := ρ) (t := t) (a := a) (fun y hy => hE y (by subst hy; simp [Op.operands])) hlo
    have hh := evo_ok (ρ := ρ) (t := t) (a := a) (fun y hy => hE y (by subst hy; simp [Op.operands])) hhi
    have hm := evo_ok (ρ := ρ) (t := t) (a := a) (fun y hy => hE y (by subst hy; simp [Op.operands])) hmx
    split at hop
    · simp only [Option.bind_eq_some_iff, Option.some.injEq] at hop
      obtain ⟨n, hn, rfl⟩ := hop
      obtain ⟨i, hi, rfl⟩ := sizeT_ok hP.toTyOK hn
      exact (oSlice_ok H (hP.un _ _ hd) hi hvx hl hh hm e).opVal
    · split at hop
      · cases hop
        exact absurd rfl hs
      · cases hop
    · simp only [Option.bind_eq_some_iff, Option.some.injEq] at hop
      obtain ⟨n, hn, rfl⟩ := hop
      obtain ⟨i, hi, rfl⟩ := sizeT_ok hP.toTyOK hn
      have e' : oSliceA (ev t x') (evo t lo') (evo t hi') (evo t mx') i.size _ h (kv dst t d k) = true := e
      cases hm' : evo t mx' with
      | some y =>
        rw [hm'] at e'
        cases hvv : ev t x' <;> rw [hvv] at e' <;> simp [oSliceA] at e'
      | none =>
        rw [hm'] at e' hm
        generalize hmm : mx.map a.eval = mm at hm
        cases hm
        refine Reads.opVal H ?_
        simp only [hmm]
        exact Reads.of (oSliceA_ok (hP.un _ _ hd) hi hvx hl hh e')
    · cases hop
  | typeAssert x xt ty ok =>
    rw [ho] at hop hE
    simp only [cOp, Option.bind_eq_bind, Option.pure_def, Option.bind_eq_some_iff] at hop
    obtain ⟨d', hd, z, hz, x', hx, hop⟩ := hop
    obtain ⟨i, z', hi, hz', hv⟩ := zeroV_ok (ρ := ρ) hP.toTyOK hz
    split at hop
    · cases hop
    · rename_i hni
      cases hop
      exact (Reads.of (oTas_ok (hP.un _ _ hd) hni hi hz' (hE x (by simp [Op.operands]) _ hx) hv e)).opVal H
  | call cl =>
    rw [ho] at hop hE
    simp only [cOp] at hop
    split at hop
    · rename_i b hcal
      split at hop
      · cases hop; cases hc
      · simp only [Option.bind_eq_bind, Option.pure_def, Option.bind_eq_some_iff, Option.some.injEq] at hop
        obtain ⟨x', hx, rfl⟩ := hop
        cases hc
      · simp only [Option.bind_eq_bind, Option.bind_eq_some_iff] at hop
        obtain ⟨as, has, hop⟩ := hop
        have hall := evs_ok (ρ := ρ) (t := t) (a := a) (fun x hx => hE x (by simp [Op.operands, Call.operands, hcal]; simpa using hx)) has
        have hr := append_ok (ty := o.type) (consts := cl.args.map fun | .const _ => true | _ => false) (args := cl.args.map a.eval) hP H hop hs (by simpa using hall) e
        obtain ⟨v, v', ρ', h', w', nx, g1, g2, g3⟩ := hr
        refine ⟨v, v', ρ', h', w', nx, g1, ?_, g3⟩
        simp only [resolve, hcal, invoke, Sem.run_bind, Sem.run_pure, Result.andThen_ok]
        exact g2
    · simp only [Option.bind_eq_bind, Option.pure_def, Option.bind_eq_some_iff] at hop
      obtain ⟨as, has, hop⟩ := hop
      split at hop
      · split at hop
        · split at hop
          · cases hop; exact absurd rfl hs
          · cases hop
        · cases hop; cases hc
      · cases hop; cases hc
      · cases hop
    · cases hop
  | move p0 =>
    rw [ho] at hop
    simp only [cOp, Option.bind_eq_bind, Option.pure_def, Option.bind_eq_some_iff, Option.some.injEq] at hop
    obtain ⟨_, _, rfl⟩ := hop
    exact absurd rfl hs
  | assign p0 =>
    rw [ho] at hop
    simp only [cOp, Option.bind_eq_bind, Option.pure_def, Option.bind_eq_some_iff, Option.some.injEq] at hop
    obtain ⟨_, _, rfl⟩ := hop
    exact absurd rfl hs
  | pick p0 p1 p2 =>
    rw [ho] at hop
    simp only [cOp, Option.bind_eq_bind, Option.pure_def, Option.bind_eq_some_iff, Option.some.injEq] at hop
    obtain ⟨_, _, _, _, _, _, rfl⟩ := hop
    exact absurd rfl hs
  | nilCheck p0 =>
    rw [ho] at hop
    simp only [cOp, Option.bind_eq_bind, Option.pure_def, Option.bind_eq_some_iff, Option.some.injEq] at hop
    obtain ⟨_, _, rfl⟩ := hop
    exact absurd rfl hs
  | extract p0 p1 =>
    rw [ho] at hop
    simp only [cOp, Option.bind_eq_bind, Option.pure_def, Option.bind_eq_some_iff, Option.some.injEq] at hop
    obtain ⟨_, _, rfl⟩ := hop
    exact absurd rfl hs
  | panic p0 =>
    rw [ho] at hop
    simp only [cOp, Option.bind_eq_bind, Option.pure_def, Option.bind_eq_some_iff, Option.some.injEq] at hop
    obtain ⟨_, _, rfl⟩ := hop
    cases hc
  | load p0 p1 =>
    rw [ho] at hop
    simp only [cOp, Option.bind_eq_bind, Option.pure_def, Option.bind_eq_some_iff] at hop
    obtain ⟨_, _, _, _, _, _, hop⟩ := hop
    split at hop <;> cases hop <;> exact absurd rfl hs
  | fieldAddr p0 p1 p2 =>
    rw [ho] at hop
    simp only [cOp, Option.bind_eq_bind, Option.pure_def, Option.bind_eq_some_iff] at hop
    obtain ⟨_, _, hop⟩ := hop
    split at hop
    · simp only [Option.bind_eq_some_iff] at hop
      obtain ⟨_, _, _, _, _, _, hop⟩ := hop
      split at hop <;> cases hop
      exact absurd rfl hs
    · cases hop
  | binOp p0 p1 p2 p3 p4 =>
    rw [ho] at hop
    simp only [cOp, Option.bind_eq_bind, Option.pure_def, Option.bind_eq_some_iff] at hop
    obtain ⟨d', _, _, _, _, _, hop⟩ := hop
    split at hop
    · simp only [Option.bind_eq_some_iff, Option.some.injEq] at hop
      obtain ⟨_, _, rfl⟩ := hop
      exact absurd rfl hs
    · simp only [Option.bind_eq_some_iff, Option.some.injEq] at hop
      obtain ⟨_, _, rfl⟩ := hop
      exact absurd rfl hs
    · split at hop
      · simp only [Option.bind_eq_some_iff, Option.some.injEq] at hop
        obtain ⟨_, _, rfl⟩ := hop
        exact absurd rfl hs
      · simp only [Option.bind_eq_some_iff, Option.some.injEq] at hop
        obtain ⟨_, _, rfl⟩ := hop
        exact absurd rfl hs
      · cases hop
  | build p0 p1 =>
    rw [ho] at hop
    simp only [cOp, Option.bind_eq_bind, Option.pure_def, Option.bind_eq_some_iff] at hop
    obtain ⟨_, _, _, _, hop⟩ := hop
    split at hop
    · split at hop
      · simp only [Option.bind_eq_some_iff, Option.some.injEq] at hop
        obtain ⟨_, _, rfl⟩ := hop
        exact absurd rfl hs
      · cases hop
    · simp only [Option.bind_eq_some_iff, Option.some.injEq] at hop
      obtain ⟨_, _, _, _, rfl⟩ := hop
      exact absurd rfl hs
    · cases hop
  | unOp p0 p1 p2 =>
    rw [ho] at hop
    simp only [cOp, Option.bind_eq_bind, Option.pure_def, Option.bind_eq_some_iff] at hop
    obtain ⟨_, _, hop⟩ := hop
    split at hop <;> cases hop <;> exact absurd rfl hs
  | indexAddr p0 p1 p2 =>
    rw [ho] at hop
    simp only [cOp, Option.bind_eq_bind, Option.pure_def, Option.bind_eq_some_iff] at hop
    obtain ⟨_, _, _, _, _, _, hop⟩ := hop
    split at hop
    · simp only [Option.bind_eq_some_iff, Option.some.injEq] at hop
      obtain ⟨_, _, rfl⟩ := hop
      exact absurd rfl hs
    · simp only [Option.bind_eq_some_iff, Option.some.injEq] at hop
      obtain ⟨_, _, rfl⟩ := hop
      exact absurd rfl hs
    · cases hop
  | index p0 p1 p2 =>
    rw [ho] at hop
    simp only [cOp, Option.bind_eq_bind, Option.pure_def, Option.bind_eq_some_iff] at hop
    obtain ⟨_, _, _, _, _, _, hop⟩ := hop
    split at hop
    · cases hop; exact absurd rfl hs
    · simp only [Option.bind_eq_some_iff, Option.some.injEq] at hop
      obtain ⟨_, _, _, _, rfl⟩ := hop
      exact absurd rfl hs
    · cases hop
  | field p0 p1 p2 =>
    rw [ho] at hop
    simp only [cOp, Option.bind_eq_bind, Option.pure_def, Option.bind_eq_some_iff] at hop
    obtain ⟨_, _, hop⟩ := hop
    split at hop
    · simp only [Option.bind_eq_some_iff, Option.some.injEq] at hop
      obtain ⟨_, _, _, _, _, _, _, _, rfl⟩ := hop
      exact absurd rfl hs
    · cases hop
  | lookup p0 p1 p2 p3 =>
    rw [ho] at hop
    simp only [cOp, Option.bind_eq_bind, Option.pure_def, Option.bind_eq_some_iff] at hop
    obtain ⟨_, _, hop⟩ := hop
    split at hop
    · simp only [Option.bind_eq_some_iff, Option.some.injEq] at hop
      obtain ⟨_, _, _, _, _, _, _, _, _, _, rfl⟩ := hop
      exact absurd rfl hs
    · cases hop
  | makeFunc p0 p1 p2 =>
    rw [ho] at hop
    cases p0 with
    | func f =>
      simp only [cOp, Option.bind_eq_bind, Option.pure_def, Option.bind_eq_some_iff, Option.some.injEq] at hop
      obtain ⟨_, _, _, _, rfl⟩ := hop
      exact absurd rfl hs
    | _ => simp [cOp] at hop
  | convert p0 p1 p2 =>
    rw [ho] at hop hE
    simp only [cOp, Option.bind_eq_bind, Option.bind_eq_some_iff] at hop
    obtain ⟨ds, hds, dd, hdd, x', hx, hop⟩ := hop
    have hv := hE p2 (by simp [Op.operands]) _ hx
    unfold cConv at hop
    split at hop
    · cases hop; exact absurd rfl hs
    · cases hop; exact absurd rfl hs
    · split at hop
      · rename_i hb
        cases hop
        exact (oToBytes_ok H (hP.un _ _ hds) (hP.un _ _ hdd) (isByte_ok hP hb) hv e).opVal
      · cases hop
    · split at hop
      · rename_i hb
        cases hop
        exact (Reads.of (oOfBytes_ok H (hP.un _ _ hds) (isByte_ok hP hb) (hP.un _ _ hdd) hv e)).opVal H
      · cases hop
    · cases hop
  | makeInterface p0 p1 =>
    rw [ho] at hop
    simp only [cOp, Option.bind_eq_bind, Option.pure_def, Option.bind_eq_some_iff] at hop
    obtain ⟨_, _, _, _, hop⟩ := hop
    split at hop <;> cases hop
    exact absurd rfl hs
  | defer cl =>
    rw [ho] at hop
    simp only [cOp] at hop
    split at hop
    · simp only [Option.bind_eq_bind, Option.pure_def, Option.bind_eq_some_iff, Option.some.injEq] at hop
      obtain ⟨_, _, _, _, rfl⟩ := hop
      cases hc
    · cases hop
  | _ => rw [ho] at hop; simp [cOp] at hop

end
end Go.AJ

/- One operation of a region. -/
namespace Go.AJ
open Go

/-- A chain of panics. -/
inductive PER (ρ : Ren) : List PE → List PanicEntry → Prop
  | nil : PER ρ [] []
  | cons (v : V) (v' : Value) (r : Bool) (l : List PE) (l' : List PanicEntry) (h : VR ρ v v') (hl : PER ρ l l') : PER ρ (⟨v, r⟩ :: l) ({ v := v', recovered := r } :: l')

inductive MdR (ρ : Ren) : Md → FrameMode → Prop
  | ret : MdR ρ .ret .returning
  | pan (ch : List PE) (ch' : List PanicEntry) (h : PER ρ ch ch') : MdR ρ (.pan ch) (.panicking ch')

theorem PER.mono {ρ ρ' : Ren} (hs : ∀ b r, ρ b = some r → ρ' b = some r) {l : List PE} {l' : List PanicEntry} (h : PER ρ l l') : PER ρ' l l' := by
  induction h with
  | nil => exact .nil
  | cons v v' r l l' h _ ih => exact .cons _ _ _ _ _ (h.mono hs) ih

theorem MdR.mono {ρ ρ' : Ren} (hs : ∀ b r, ρ b = some r → ρ' b = some r) {m : Md} {m' : FrameMode} (h : MdR ρ m m') : MdR ρ' m m' := by
  cases h with
  | ret => exact .ret
  | pan ch ch' h => exact .pan _ _ (h.mono hs)

/-- The callers: of an ordinary call; of a deferred call, with the mode of the first of them. -/
def CmR (ρ : Ren) (cm : Option Md) (kind : CallKind) (cf : FrameMode → List Frame) (μ : FrameMode) : Prop := match cm with
  | none => kind = .normal
  | some m => kind = .deferred ∧ (∃ (c : Frame) (rest : List Frame), ∀ m, cf m = { c with mode := m } :: rest) ∧ MdR ρ m μ

def DcR (ρ : Ren) (b : Frame) (cf : FrameMode → List Frame) (μ : FrameMode) (d : Dc) (ds : List Deferred) : Prop := match d with
  | .mk l cm => b.roundOf = none ∧ DR ρ l ds ∧ CmR ρ cm b.kind cf μ
  | .rnd => b.kind = .normal ∧ (∃ l, b.roundOf = some l) ∧ ds = []

theorem CmR.mono {ρ ρ' : Ren} (hs : ∀ b r, ρ b = some r → ρ' b = some r) {cm : Option Md} {kind : CallKind} {cf : FrameMode → List Frame} {μ : FrameMode} (h : CmR ρ cm kind cf μ) : CmR ρ' cm kind cf μ := by
  cases cm with
  | none => exact h
  | some m => exact ⟨h.1, h.2.1, h.2.2.mono hs⟩

theorem DcR.mono {ρ ρ' : Ren} (hs : ∀ b r, ρ b = some r → ρ' b = some r) {b : Frame} {cf : FrameMode → List Frame} {μ : FrameMode} {d : Dc} {ds : List Deferred} (h : DcR ρ b cf μ d ds) : DcR ρ' b cf μ d ds := by
  cases d with
  | mk l cm => exact ⟨h.1, h.2.1.mono hs, h.2.2.mono hs⟩
  | rnd => exact h

/-- How a call ends. -/
def EndR (P : Program) (ρ : Ren) (e : End) (kind : CallKind) (fr : Frame) (w : World) : Prop := match e with
  | .ret v => ∃ v', VR ρ v v' ∧ fr.mode = .returning ∧ fr.defers = [] ∧ fr.kind = kind ∧ ∃ fn, P.funcs[fr.fn]? = some fn ∧ (Go.results fn fr.tmps).run P w = .ok v' w
  | .pan ch => ∃ ch', PER ρ ch ch' ∧ fr.mode = .panicking ch' ∧ fr.defers = [] ∧ ∃ fn, P.funcs[fr.fn]? = some fn

/-- Where a round of a range over a function leads. -/
def RoundR (ρ : Ren) (e : End) (c : Frame) (cs : List Frame) (w : World) (m : Machine) : Prop := match e with
  | .ret v => ∃ v', VR ρ v v' ∧ m = lone (c.finish v') cs w
  | .pan ch => ∃ ch', PER ρ ch ch' ∧ m = lone (c.raise ch') cs w

def roundTmps (L : Loop) (args : Array Value) : Array Value := (L.params.zip args).foldl (fun tmps (t, a) => tmps.setIfInBounds t a) L.tmps

/-- What calls come to, as the interpreter says it. -/
structure CSound (P : Program) (X : Cx) (C : CallF) : Prop where
  fn : ∀ f args cm h k, C (.fn f) args cm h k = true → (∀ (as : Array Value) (w : World), (callFunc f as).run P w = .ok (.enter f as) w) ∧
    ∀ (ρ : Ren) (w : World) (args' : Array Value) (kind : CallKind) (cf : FrameMode → List Frame) (μ : FrameMode), HR X ρ h w → VL ρ args args'.toList → CmR ρ cm kind cf μ →
      ∃ e u h' ρ' w' μ' fr, k e u h' = true ∧ Steps P (lone (Frame.enter P f args' kind) (cf μ) w) (lone fr (cf μ') w') ∧ EndR P ρ' e kind fr w' ∧ CmR ρ' u kind cf μ' ∧ HR X ρ' h' w' ∧ Ext ρ h w ρ' h' w' ∧ fr.fn = f
  round : ∀ l args h k, C (.round l) args none h k = true → ∀ (ρ : Ren) (w : World) (args' : Array Value) (r : RB), ρ l = some r → HR X ρ h w → VL ρ args args'.toList →
    ∃ L : Loop, w.heap[r.blk]? = some (.loop L) ∧ L.params.size = args'.size ∧ ∀ (c : Frame) (cs : List Frame), ∃ e h' ρ' w' m, k e none h' = true ∧
      Steps P (lone (Frame.round r.blk L.fn (roundTmps L args') L.assign L.body .normal) (c :: cs) w) m ∧ RoundR ρ' e c cs w' m ∧ HR X ρ' h' w' ∧ Ext ρ h w ρ' h' w'

section
variable {P : Program} {X : Cx} {ρ : Ren} {h : Hp} {w : World} {t : T V} {a : Act} {b : Frame} {cf : FrameMode → List Frame} {μ : FrameMode} {todo : List Item} {ops : Array Oper} {i : Nat} {rest : List Nat} {o : Oper}

theorem put_eq (dst : Option K) (v : V) (t : T V) (c : T V → Bool) : put dst v t c = c (match dst with | none => t | some k => T.ins und v k t) := by
  cases dst with
  | none => rfl
  | some k => simp only [put, T.set_eq]

/-- What one operation comes to. -/
def OpOut (P : Program) (X : Cx) (ρ : Ren) (h : Hp) (w : World) (b : Frame) (cf : FrameMode → List Frame) (_μ : FrameMode) (a : Act) (dst : Option K) (t : T V) (k : KS) (p : KP) (odst : Option Tmp) (ops : Array Oper) (rest : List Nat) (todo : List Item) (m : Machine) : Prop :=
  ∃ ρ' h' w' μ' d', HR X ρ' h' w' ∧ Ext ρ h w ρ' h' w' ∧ ∃ ds, DcR ρ' b cf μ' d' ds ∧
  ((∃ v v', put dst v t (fun t' => k t' d' h') = true ∧ VR ρ' v v' ∧ Steps P m (lone (b.atR (Act.put ⟨a.tmps, ds⟩ odst v') (.inRegion ops rest :: todo)) (cf μ') w')) ∨
   (∃ ch ch' todo', p ch t d' h' = true ∧ PER ρ' ch ch' ∧ Steps P m (lone { b.atR ⟨a.tmps, ds⟩ todo' with mode := .panicking ch' } (cf μ') w')))

theorem step_value {v : Value} {w' : World} {nx : Next} (ho : ops[i]? = some o) (hw : Region.wanted o (yielded ops a.tmps) = true) (hd : ∀ c, o.op ≠ .defer c) (hr : (execOp a.eval o).run P w = .ok nx w')
    (hn : nx = .value v ∨ (nx = .skip ∧ v = undef)) (cs : List Frame) :
    step P (lone (b.atR a (.inRegion ops (i :: rest) :: todo)) cs w) = .next (lone (b.atR (a.put o.dst v) (.inRegion ops rest :: todo)) cs w') := by
  have hf := Frame.finish_atR b a ops i rest todo v
  rw [ho] at hf
  simp only [Option.bind_some] at hf
  rw [← hf]
  refine step_lone_go ?_
  rw [stepGR_op ho hw, Oper.semAt_eq _ _ _ hd]
  rcases hn with rfl | ⟨rfl, rfl⟩
  · simp [stepG.apply, Sem.runT_eq, hr]
  · simp [stepG.apply, Sem.runT_eq, hr]

theorem step_panic {v : Value} {w' : World} (ho : ops[i]? = some o) (hw : Region.wanted o (yielded ops a.tmps) = true) (hd : ∀ c, o.op ≠ .defer c) (hr : (execOp a.eval o).run P w = .halt (.panic v) w') (cs : List Frame) :
    step P (lone (b.atR a (.inRegion ops (i :: rest) :: todo)) cs w) = .next (lone { b.atR a (.inRegion ops (i :: rest) :: todo) with mode := .panicking [{ v, recovered := false }] } cs w') := by
  refine step_lone_go ?_
  rw [stepGR_op ho hw, Oper.semAt_eq _ _ _ hd]
  simp [stepG.apply, Sem.runT_eq, hr, Frame.raise_atR]

theorem step_enter {f : Nat} {args : Array Value} {w' : World} (ho : ops[i]? = some o) (hw : Region.wanted o (yielded ops a.tmps) = true) (hd : ∀ c, o.op ≠ .defer c) (hr : (execOp a.eval o).run P w = .ok (.enter f args) w') (cs : List Frame) :
    step P (lone (b.atR a (.inRegion ops (i :: rest) :: todo)) cs w) = .next (lone (Frame.enter P f args .normal) (b.atR a (.inRegion ops (i :: rest) :: todo) :: cs) w') := by
  refine step_lone_go ?_
  rw [stepGR_op ho hw, Oper.semAt_eq _ _ _ hd]
  simp [stepG.apply, Sem.runT_eq, hr, Frame.atR]

theorem step_round {l f : Nat} {tmps : Array Value} {as bd : Code} {w' : World} (ho : ops[i]? = some o) (hw : Region.wanted o (yielded ops a.tmps) = true) (hd : ∀ c, o.op ≠ .defer c) (hr : (execOp a.eval o).run P w = .ok (.round l f tmps as bd) w') (cs : List Frame) :
    step P (lone (b.atR a (.inRegion ops (i :: rest) :: todo)) cs w) = .next (lone (Frame.round l f tmps as bd .normal) (b.atR a (.inRegion ops (i :: rest) :: todo) :: cs) w') := by
  refine step_lone_go ?_
  rw [stepGR_op ho hw, Oper.semAt_eq _ _ _ hd]
  simp [stepG.apply, Sem.runT_eq, hr]

theorem step_defer {dd : Deferred} {w' : World} (ho : ops[i]? = some o) (hw : Region.wanted o (yielded ops a.tmps) = true) (hro : b.roundOf = none) (hr : (execOp a.eval o).run P w = .ok (.defer dd) w') (cs : List Frame) :
    step P (lone (b.atR a (.inRegion ops (i :: rest) :: todo)) cs w) = .next (lone (b.atR (Act.put ⟨a.tmps, dd :: a.defers⟩ o.dst undef) (.inRegion ops rest :: todo)) cs w') := by
  have hf := Frame.finish_atR b ⟨a.tmps, dd :: a.defers⟩ ops i rest todo undef
  rw [ho] at hf
  simp only [Option.bind_some] at hf
  rw [← hf]
  refine step_lone_go ?_
  rw [stepGR_op ho hw, hro, Oper.semAt_none]
  simp [stepG.apply, Sem.runT_eq, hr, Frame.atR]

theorem finish_eq (v : Value) (ho : ops[i]? = some o) : (b.atR a (.inRegion ops (i :: rest) :: todo)).finish v = b.atR (a.put o.dst v) (.inRegion ops rest :: todo) := by
  have hf := Frame.finish_atR b a ops i rest todo v
  rw [ho] at hf
  simpa using hf

/-- A call that an operation makes. -/
theorem call_step {C : CallF} (hC : CSound P X C) {dst : Option K} {d : Dc} {k : KS} {p : KP} {f : Nat} {args : List V} {args' : Array Value} (ho : ops[i]? = some o) (hw : Region.wanted o (yielded ops a.tmps) = true) (hnd : ∀ c, o.op ≠ .defer c)
    (H : HR X ρ h w) (hd : DcR ρ b cf μ d a.defers) (ha : VL ρ args args'.toList) (hr : (execOp a.eval o).run P w = (callFunc f args').run P w) (e : doCall C dst f args t d h k p = true) :
    OpOut P X ρ h w b cf μ a dst t k p o.dst ops rest todo (lone (b.atR a (.inRegion ops (i :: rest) :: todo)) (cf μ) w) := by
  obtain ⟨hent, hall⟩ := hC.fn _ _ _ _ _ e
  rw [hent] at hr
  obtain ⟨e1, u, h', ρ', w', μ', fr, hk, hs, hend, hcm, H', E, _⟩ := hall ρ w args' .normal (fun _ => b.atR a (.inRegion ops (i :: rest) :: todo) :: cf μ) .run H ha rfl
  have h1 := step_enter (b := b) (rest := rest) (todo := todo) ho hw hnd hr (cf μ)
  refine ⟨ρ', h', w', μ, d, H', E, a.defers, hd.mono E.sub, ?_⟩
  cases e1 with
  | ret v =>
    obtain ⟨v', hv, hm, hds, hkd, fn, hfn, hres⟩ := hend
    refine .inl ⟨v, v', hk, hv, ?_⟩
    have h2 := step_leave_returned (P := P) (fr := fr) (c := b.atR a (.inRegion ops (i :: rest) :: todo)) (cs := cf μ) (w := w') (v := v') ⟨hm, hds, hkd, fn, hfn, hres⟩
    rw [finish_eq v' ho] at h2
    exact .head h1 (.trans hs (.one h2))
  | pan ch =>
    obtain ⟨ch', hper, hm, hds, fn, hfn⟩ := hend
    refine .inr ⟨ch, ch', .inRegion ops (i :: rest) :: todo, hk, hper, ?_⟩
    have h2 := step_leave_panicked (P := P) (fr := fr) (c := b.atR a (.inRegion ops (i :: rest) :: todo)) (cs := cf μ) (w := w') (chain := ch') ⟨hm, hds, fn, hfn⟩
    rw [Frame.raise_atR] at h2
    exact .head h1 (.trans hs (.one h2))

/-- A panic that an operation raises. -/
theorem panic_step {dst : Option K} {d : Dc} {k : KS} {p : KP} {v : V} {v' : Value} (ho : ops[i]? = some o) (hw : Region.wanted o (yielded ops a.tmps) = true) (hnd : ∀ c, o.op ≠ .defer c)
    (H : HR X ρ h w) (hd : DcR ρ b cf μ d a.defers) (hv : VR ρ v v') (hr : (execOp a.eval o).run P w = (do pure (.value (← Instr.panic v')) : Sem Next).run P w) (e : doPanic v t d h p = true) :
    OpOut P X ρ h w b cf μ a dst t k p o.dst ops rest todo (lone (b.atR a (.inRegion ops (i :: rest) :: todo)) (cf μ) w) := by
  cases hv with
  | ifc ty u u' hu =>
    have hr' : (execOp a.eval o).run P w = .halt (.panic (.iface ty u')) w := by
      rw [hr]
      simp [Instr.panic, goPanic, Sem.run]
    exact ⟨ρ, h, w, μ, d, H, Ext.refl _ _ _, a.defers, hd, .inr ⟨_, _, .inRegion ops (i :: rest) :: todo, e, .cons _ _ _ _ _ (.ifc _ _ _ hu) .nil, .one (step_panic ho hw hnd hr' (cf μ))⟩⟩
  | _ => simp [doPanic] at e

theorem recover_step {dst : Option K} {d : Dc} {k : KS} {p : KP} (ho : ops[i]? = some o) (hw : Region.wanted o (yielded ops a.tmps) = true) (hnd : ∀ c, o.op ≠ .defer c)
    (H : HR X ρ h w) (hd : DcR ρ b cf μ d a.defers) (hr : (execOp a.eval o).run P w = .ok .recover w) (e : doRecover dst t d h k = true) :
    OpOut P X ρ h w b cf μ a dst t k p o.dst ops rest todo (lone (b.atR a (.inRegion ops (i :: rest) :: todo)) (cf μ) w) := by
  cases d with
  | rnd => simp [doRecover] at e
  | mk ds cm =>
    obtain ⟨hro, hdr, hcm⟩ := hd
    -- nothing is recovered
    have none : tryRecover (b.atR a (.inRegion ops (i :: rest) :: todo)) (cf μ) = none →
        step P (lone (b.atR a (.inRegion ops (i :: rest) :: todo)) (cf μ) w) = .next (lone (b.atR (a.put o.dst .nilIface) (.inRegion ops rest :: todo)) (cf μ) w) := fun hn => by
      rw [← finish_eq .nilIface ho]
      refine step_lone_go ?_
      rw [stepGR_op ho hw, Oper.semAt_eq _ _ _ hnd]
      have hro' : (b.atR a (.inRegion ops (i :: rest) :: todo)).roundOf = Option.none := hro
      simp [stepG.apply, Sem.runT_eq, hr, hro', hn]
    have some : ∀ v cs', tryRecover (b.atR a (.inRegion ops (i :: rest) :: todo)) (cf μ) = some (v, cs') →
        step P (lone (b.atR a (.inRegion ops (i :: rest) :: todo)) (cf μ) w) = .next (lone (b.atR (a.put o.dst v) (.inRegion ops rest :: todo)) cs' w) := fun v cs' hn => by
      rw [← finish_eq v ho]
      refine step_lone_go ?_
      rw [stepGR_op ho hw, Oper.semAt_eq _ _ _ hnd]
      have hro' : (b.atR a (.inRegion ops (i :: rest) :: todo)).roundOf = Option.none := hro
      simp [stepG.apply, Sem.runT_eq, hr, hro', hn]
    cases cm with
    | none =>
      have hk : b.kind = .normal := hcm
      refine ⟨ρ, h, w, μ, .mk ds Option.none, H, Ext.refl _ _ _, a.defers, ⟨hro, hdr, hcm⟩, .inl ⟨.nili, .nilIface, e, .nili, .one (none ?_)⟩⟩
      simp [tryRecover, Frame.atR, hk]
    | some m =>
      obtain ⟨hk, ⟨c, rs, hcf⟩, hm⟩ := hcm
      cases hm with
      | ret =>
        refine ⟨ρ, h, w, .returning, .mk ds (Option.some .ret), H, Ext.refl _ _ _, a.defers, ⟨hro, hdr, hk, ⟨c, rs, hcf⟩, .ret⟩, .inl ⟨.nili, .nilIface, e, .nili, .one (none ?_)⟩⟩
        simp [tryRecover, Frame.atR, hk, hcf]
      | pan ch ch' hper =>
        cases hper with
        | nil => simp [doRecover] at e
        | cons v v' r l l' hv hl =>
          cases r with
          | true =>
            refine ⟨ρ, h, w, .panicking ({ v := v', recovered := true } :: l'), .mk ds (Option.some (.pan (⟨v, true⟩ :: l))), H, Ext.refl _ _ _, a.defers, ⟨hro, hdr, hk, ⟨c, rs, hcf⟩, .pan _ _ (.cons _ _ _ _ _ hv hl)⟩, .inl ⟨.nili, .nilIface, e, .nili, .one (none ?_)⟩⟩
            simp [tryRecover, Frame.atR, hk, hcf]
          | false =>
            refine ⟨ρ, h, w, .panicking ({ v := v', recovered := true } :: l'), .mk ds (Option.some (.pan (⟨v, true⟩ :: l))), H, Ext.refl _ _ _, a.defers, ⟨hro, hdr, hk, ⟨c, rs, hcf⟩, .pan _ _ (.cons _ _ _ _ _ hv hl)⟩, .inl ⟨v, v', e, hv, .one (some _ _ ?_)⟩⟩
            simp [tryRecover, Frame.atR, hk, hcf]

theorem callv_step {C : CallF} (hC : CSound P X C) {dst : Option K} {d : Dc} {k : KS} {p : KP} {f : V} {f' : Value} {args : List V} {args' : Array Value} (ho : ops[i]? = some o) (hw : Region.wanted o (yielded ops a.tmps) = true) (hnd : ∀ c, o.op ≠ .defer c)
    (H : HR X ρ h w) (hd : DcR ρ b cf μ d a.defers) (hf : VR ρ f f') (ha : VL ρ args args'.toList) (hr : (execOp a.eval o).run P w = (do let d ← Deferred.ofValue f' args'; invoke d.target d.args : Sem Next).run P w)
    (e : doCallv C dst f args t d h k p = true) : OpOut P X ρ h w b cf μ a dst t k p o.dst ops rest todo (lone (b.atR a (.inRegion ops (i :: rest) :: todo)) (cf μ) w) := by
  cases hf with
  | fn g fs cs fs' cs' hfs hcs =>
    refine call_step hC ho hw hnd H hd (args' := (⟨fs'⟩ : Array Value) ++ args' ++ ⟨cs'⟩) (by simpa using hfs.append (ha.append hcs)) ?_ e
    rw [hr]
    simp [Deferred.ofValue, invoke]
  | yld l r hl =>
    obtain ⟨L, hL, hsz, hall⟩ := hC.round _ _ _ _ e ρ w args' r hl H ha
    obtain ⟨e1, h', ρ', w', m, hk, hs, hend, H', E⟩ := hall (b.atR a (.inRegion ops (i :: rest) :: todo)) (cf μ)
    have hr' : (execOp a.eval o).run P w = .ok (.round r.blk L.fn (roundTmps L args') L.assign L.body) w := by
      rw [hr]
      have hg : (Instr.getLoop r.blk).run P w = .ok L w := by simp [Instr.getLoop, getObj, Sem.run, hL]
      simp [Deferred.ofValue, invoke, Instr.yield, hg, hsz, roundTmps]
    have h1 := step_round (b := b) (rest := rest) (todo := todo) ho hw hnd hr' (cf μ)
    refine ⟨ρ', h', w', μ, d, H', E, a.defers, hd.mono E.sub, ?_⟩
    cases e1 with
    | ret v =>
      obtain ⟨v', hv, rfl⟩ := hend
      rw [finish_eq v' ho] at hs
      exact .inl ⟨v, v', hk, hv, .head h1 hs⟩
    | pan ch =>
      obtain ⟨ch', hper, rfl⟩ := hend
      rw [Frame.raise_atR] at hs
      exact .inr ⟨ch, ch', .inRegion ops (i :: rest) :: todo, hk, hper, .head h1 hs⟩
  | _ => simp [doCallv] at e

theorem defer_step {dst : Option K} {d : Dc} {k : KS} {p : KP} {f : V} {f' : Value} {args : List V} {args' : Array Value} (ho : ops[i]? = some o) (hw : Region.wanted o (yielded ops a.tmps) = true)
    (H : HR X ρ h w) (hd : DcR ρ b cf μ d a.defers) (hf : VR ρ f f') (ha : VL ρ args args'.toList) (hr : (execOp a.eval o).run P w = (do let d ← Deferred.ofValue f' args'; pure (.defer d) : Sem Next).run P w)
    (e : (doDefer f args d fun d' => put dst und t fun t' => k t' d' h) = true) : OpOut P X ρ h w b cf μ a dst t k p o.dst ops rest todo (lone (b.atR a (.inRegion ops (i :: rest) :: todo)) (cf μ) w) := by
  cases hf with
  | fn g fs cs fs' cs' hfs hcs =>
    cases d with
    | rnd => simp [doDefer] at e
    | mk ds cm =>
      obtain ⟨hro, hdr, hcm⟩ := hd
      have hr' : (execOp a.eval o).run P w = .ok (.defer ⟨.fn (.func g) ⟨cs'⟩, (⟨fs'⟩ : Array Value) ++ args'⟩) w := by
        rw [hr]
        simp [Deferred.ofValue]
      have hdr' : DR ρ (.call g (fs ++ (args ++ cs)) :: ds) (⟨.fn (.func g) ⟨cs'⟩, (⟨fs'⟩ : Array Value) ++ args'⟩ :: a.defers) := .call g _ ⟨cs'⟩ ((⟨fs'⟩ : Array Value) ++ args') _ _ (by simpa using hfs.append (ha.append hcs)) hdr
      exact ⟨ρ, h, w, μ, .mk (.call g (fs ++ (args ++ cs)) :: ds) cm, H, Ext.refl _ _ _, ⟨.fn (.func g) ⟨cs'⟩, (⟨fs'⟩ : Array Value) ++ args'⟩ :: a.defers, ⟨hro, hdr', hcm⟩, .inl ⟨und, undef, e, .tup [] [] .nil, .one (step_defer ho hw hro hr' (cf μ))⟩⟩
  | _ => simp [doDefer] at e

theorem op_step (hP : POK P X) {C : CallF} (hC : CSound P X C) {op : AOp} {dst : Option K} {d : Dc} {k : KS} {p : KP} (ho : ops[i]? = some o) (hw : Region.wanted o (yielded ops a.tmps) = true)
    (hop : cOp X.T X.ext o.op = some op) (hE : ∀ x ∈ o.op.operands.toList, EvR ρ t a x) (H : HR X ρ h w) (hd : DcR ρ b cf μ d a.defers) (e : opRun C op dst t d h k p = true) :
    OpOut P X ρ h w b cf μ a dst t k p o.dst ops rest todo (lone (b.atR a (.inRegion ops (i :: rest) :: todo)) (cf μ) w) := by
  have nodefer : (∀ f as, op ≠ .defer f as) → ∀ c, o.op ≠ .defer c := by
    intro hnd c hc
    rw [hc] at hop
    simp only [cOp] at hop
    split at hop
    · simp only [Option.bind_eq_bind, Option.pure_def, Option.bind_eq_some_iff, Option.some.injEq] at hop
      obtain ⟨_, _, _, _, hq⟩ := hop
      exact hnd _ _ hq.symm
    · cases hop
  cases hctl : isCtl op with
  | false =>
    obtain ⟨v, v', ρ', h', w', nx, hk, hr, hn, hv, H', E⟩ := valop_ok hP H hop hE hctl e
    refine ⟨ρ', h', w', μ, d, H', E, a.defers, hd.mono E.sub, .inl ⟨v, v', hk, hv, .one ?_⟩⟩
    exact step_value ho hw (nodefer (fun f as hq => by subst hq; cases hctl)) hr hn (cf μ)
  | true =>
    have callE : ∀ cl : Call, o.op = .call cl → ∀ f, cl.callee = .value f → ∀ as, cXs cl.args.toList = some as → VL ρ (evs t as) (cl.args.map a.eval).toList := fun cl hcl f hcal as has => by
      have := evs_ok (ρ := ρ) (t := t) (a := a) (fun x hx => hE x (by rw [hcl]; simp [Op.operands, Call.operands, hcal]; exact .inr (by simpa using hx))) has
      simpa using this
    cases hoo : o.op with
    | panic x =>
      rw [hoo] at hop hE
      simp only [cOp, Option.bind_eq_bind, Option.pure_def, Option.bind_eq_some_iff, Option.some.injEq] at hop
      obtain ⟨x', hx, rfl⟩ := hop
      exact panic_step ho hw (nodefer (by simp)) H hd (hE x (by simp [Op.operands]) _ hx) (by simp only [execOp, hoo]) e
    | defer cl =>
      rw [hoo] at hop hE
      simp only [cOp] at hop
      split at hop
      · rename_i f hcal
        simp only [Option.bind_eq_bind, Option.pure_def, Option.bind_eq_some_iff, Option.some.injEq] at hop
        obtain ⟨f', hf, as, has, rfl⟩ := hop
        have hall := evs_ok (ρ := ρ) (t := t) (a := a) (fun x hx => hE x (by simp [Op.operands, Call.operands, hcal]; exact .inr (by simpa using hx))) has
        refine defer_step (args' := cl.args.map a.eval) ho hw H hd (hE f (by simp [Op.operands, Call.operands, hcal]) _ hf) (by simpa using hall) ?_ e
        simp [execOp, hoo, resolve, hcal]
      · cases hop
    | call cl =>
      have hnd : ∀ c, o.op ≠ .defer c := fun c hc => by rw [hoo] at hc; cases hc
      have hE' := hE
      rw [hoo] at hop hE'
      simp only [cOp] at hop
      split at hop
      · rename_i bb hcal
        split at hop
        · cases hop
          exact recover_step ho hw hnd H hd (by simp [execOp, hoo, resolve, hcal, invoke, builtin]) e
        · rename_i x hx0
          simp only [Option.bind_eq_bind, Option.pure_def, Option.bind_eq_some_iff, Option.some.injEq] at hop
          obtain ⟨x', hx, rfl⟩ := hop
          have hargs : cl.args = #[x] := by apply Array.ext'; simpa using hx0
          exact panic_step ho hw hnd H hd (hE' x (by simp [Op.operands, Call.operands, hcal, hargs]) _ hx) (by simp [execOp, hoo, resolve, hcal, invoke, builtin, hargs]) e
        · exfalso
          simp only [Option.bind_eq_bind, Option.bind_eq_some_iff] at hop
          obtain ⟨as, has, hop⟩ := hop
          unfold cBuiltin at hop
          split at hop
          · unfold cAppend at hop
            split at hop
            · split at hop
              · split at hop <;> cases hop <;> cases hctl
              · cases hop
            · cases hop
          · unfold cLen at hop
            split at hop <;> cases hop <;> cases hctl
          · unfold cCap at hop
            split at hop <;> cases hop
            cases hctl
          · cases hop; cases hctl
          · cases hop; cases hctl
          · unfold cCopy at hop
            (repeat' split at hop) <;> cases hop <;> cases hctl
          · unfold cClr at hop
            (repeat' split at hop) <;> cases hop <;> cases hctl
          · cases hop
      · rename_i f hcal
        simp only [Option.bind_eq_bind, Option.pure_def, Option.bind_eq_some_iff] at hop
        obtain ⟨as, has, hop⟩ := hop
        have hall := callE cl hoo f hcal as has
        split at hop
        · rename_i g
          split at hop
          · split at hop
            · cases hop; cases hctl
            · cases hop
          · cases hop
            refine call_step hC ho hw hnd H hd hall ?_ e
            simp [execOp, hoo, resolve, hcal, Deferred.ofValue, Act.eval, invoke]
        · rename_i g
          cases hop
          refine callv_step (f' := a.eval (.tmp g)) (args' := cl.args.map a.eval) hC ho hw hnd H hd (hE' (.tmp g) (by simp [Op.operands, Call.operands, hcal]) _ rfl) hall ?_ e
          simp [execOp, hoo, resolve, hcal]
        · cases hop
      · cases hop
    | move p0 =>
      rw [hoo] at hop
      simp only [cOp, Option.bind_eq_bind, Option.pure_def, Option.bind_eq_some_iff, Option.some.injEq] at hop
      obtain ⟨_, _, rfl⟩ := hop
      cases hctl
    | assign p0 =>
      rw [hoo] at hop
      simp only [cOp, Option.bind_eq_bind, Option.pure_def, Option.bind_eq_some_iff, Option.some.injEq] at hop
      obtain ⟨_, _, rfl⟩ := hop
      cases hctl
    | pick p0 p1 p2 =>
      rw [hoo] at hop
      simp only [cOp, Option.bind_eq_bind, Option.pure_def, Option.bind_eq_some_iff, Option.some.injEq] at hop
      obtain ⟨_, _, _, _, _, _, rfl⟩ := hop
      cases hctl
    | nilCheck p0 =>
      rw [hoo] at hop
      simp only [cOp, Option.bind_eq_bind, Option.pure_def, Option.bind_eq_some_iff, Option.some.injEq] at hop
      obtain ⟨_, _, rfl⟩ := hop
      cases hctl
    | extract p0 p1 =>
      rw [hoo] at hop
      simp only [cOp, Option.bind_eq_bind, Option.pure_def, Option.bind_eq_some_iff, Option.some.injEq] at hop
      obtain ⟨_, _, rfl⟩ := hop
      cases hctl
    | load p0 p1 =>
      rw [hoo] at hop
      simp only [cOp, Option.bind_eq_bind, Option.pure_def, Option.bind_eq_some_iff] at hop
      obtain ⟨_, _, _, _, _, _, hop⟩ := hop
      split at hop <;> cases hop <;> cases hctl
    | fieldAddr p0 p1 p2 =>
      rw [hoo] at hop
      simp only [cOp, Option.bind_eq_bind, Option.pure_def, Option.bind_eq_some_iff] at hop
      obtain ⟨_, _, hop⟩ := hop
      split at hop
      · simp only [Option.bind_eq_some_iff] at hop
        obtain ⟨_, _, _, _, _, _, hop⟩ := hop
        split at hop <;> cases hop
        cases hctl
      · cases hop
    | binOp p0 p1 p2 p3 p4 =>
      rw [hoo] at hop
      simp only [cOp, Option.bind_eq_bind, Option.pure_def, Option.bind_eq_some_iff] at hop
      obtain ⟨d', _, _, _, _, _, hop⟩ := hop
      split at hop
      · simp only [Option.bind_eq_some_iff, Option.some.injEq] at hop
        obtain ⟨_, _, rfl⟩ := hop
        cases hctl
      · simp only [Option.bind_eq_some_iff, Option.some.injEq] at hop
        obtain ⟨_, _, rfl⟩ := hop
        cases hctl
      · split at hop
        · simp only [Option.bind_eq_some_iff, Option.some.injEq] at hop
          obtain ⟨_, _, rfl⟩ := hop
          cases hctl
        · simp only [Option.bind_eq_some_iff, Option.some.injEq] at hop
          obtain ⟨_, _, rfl⟩ := hop
          cases hctl
        · cases hop
    | build p0 p1 =>
      rw [hoo] at hop
      simp only [cOp, Option.bind_eq_bind, Option.pure_def, Option.bind_eq_some_iff] at hop
      obtain ⟨_, _, _, _, hop⟩ := hop
      split at hop
      · split at hop
        · simp only [Option.bind_eq_some_iff, Option.some.injEq] at hop
          obtain ⟨_, _, rfl⟩ := hop
          cases hctl
        · cases hop
      · simp only [Option.bind_eq_some_iff, Option.some.injEq] at hop
        obtain ⟨_, _, _, _, rfl⟩ := hop
        cases hctl
      · cases hop
    | unOp p0 p1 p2 =>
      rw [hoo] at hop
      simp only [cOp, Option.bind_eq_bind, Option.pure_def, Option.bind_eq_some_iff] at hop
      obtain ⟨_, _, hop⟩ := hop
      split at hop <;> cases hop <;> cases hctl
    | indexAddr p0 p1 p2 =>
      rw [hoo] at hop
      simp only [cOp, Option.bind_eq_bind, Option.pure_def, Option.bind_eq_some_iff] at hop
      obtain ⟨_, _, _, _, _, _, hop⟩ := hop
      split at hop
      · simp only [Option.bind_eq_some_iff, Option.some.injEq] at hop
        obtain ⟨_, _, rfl⟩ := hop
        cases hctl
      · simp only [Option.bind_eq_some_iff, Option.some.injEq] at hop
        obtain ⟨_, _, rfl⟩ := hop
        cases hctl
      · cases hop
    | index p0 p1 p2 =>
      rw [hoo] at hop
      simp only [cOp, Option.bind_eq_bind, Option.pure_def, Option.bind_eq_some_iff] at hop
      obtain ⟨_, _, _, _, _, _, hop⟩ := hop
      split at hop
      · cases hop; cases hctl
      · simp only [Option.bind_eq_some_iff, Option.some.injEq] at hop
        obtain ⟨_, _, _, _, rfl⟩ := hop
        cases hctl
      · cases hop
    | field p0 p1 p2 =>
      rw [hoo] at hop
      simp only [cOp, Option.bind_eq_bind, Option.pure_def, Option.bind_eq_some_iff] at hop
      obtain ⟨_, _, hop⟩ := hop
      split at hop
      · simp only [Option.bind_eq_some_iff, Option.some.injEq] at hop
        obtain ⟨_, _, _, _, _, _, _, _, rfl⟩ := hop
        cases hctl
      · cases hop
    | lookup p0 p1 p2 p3 =>
      rw [hoo] at hop
      simp only [cOp, Option.bind_eq_bind, Option.pure_def, Option.bind_eq_some_iff] at hop
      obtain ⟨_, _, hop⟩ := hop
      split at hop
      · simp only [Option.bind_eq_some_iff, Option.some.injEq] at hop
        obtain ⟨_, _, _, _, _, _, _, _, _, _, rfl⟩ := hop
        cases hctl
      · cases hop
    | makeFunc p0 p1 p2 =>
      rw [hoo] at hop
      cases p0 with
      | func f =>
        simp only [cOp, Option.bind_eq_bind, Option.pure_def, Option.bind_eq_some_iff, Option.some.injEq] at hop
        obtain ⟨_, _, _, _, rfl⟩ := hop
        cases hctl
      | _ => simp [cOp] at hop
    | convert p0 p1 p2 =>
      rw [hoo] at hop
      simp only [cOp, Option.bind_eq_bind, Option.bind_eq_some_iff] at hop
      obtain ⟨_, _, _, _, _, _, hop⟩ := hop
      unfold cConv at hop
      (repeat' split at hop) <;> cases hop <;> cases hctl
    | makeInterface p0 p1 =>
      rw [hoo] at hop
      simp only [cOp, Option.bind_eq_bind, Option.pure_def, Option.bind_eq_some_iff] at hop
      obtain ⟨_, _, _, _, hop⟩ := hop
      split at hop <;> cases hop
      cases hctl
    | alloc p0 =>
      rw [hoo] at hop
      simp only [cOp, Option.bind_eq_bind, Option.pure_def, Option.bind_eq_some_iff, Option.some.injEq] at hop
      obtain ⟨_, _, rfl⟩ := hop
      cases hctl
    | box p0 p1 =>
      rw [hoo] at hop
      simp only [cOp, Option.bind_eq_bind, Option.pure_def, Option.bind_eq_some_iff, Option.some.injEq] at hop
      obtain ⟨_, _, rfl⟩ := hop
      cases hctl
    | store p0 p1 p2 =>
      rw [hoo] at hop
      simp only [cOp, Option.bind_eq_bind, Option.pure_def, Option.bind_eq_some_iff, Option.some.injEq] at hop
      obtain ⟨_, _, _, _, _, _, rfl⟩ := hop
      cases hctl
    | mapUpdate p0 p1 p2 p3 =>
      rw [hoo] at hop
      simp only [cOp, Option.bind_eq_bind, Option.pure_def, Option.bind_eq_some_iff] at hop
      obtain ⟨_, _, hop⟩ := hop
      split at hop
      · simp only [Option.bind_eq_some_iff, Option.some.injEq] at hop
        obtain ⟨_, _, _, _, _, _, _, _, _, _, rfl⟩ := hop
        cases hctl
      · cases hop
    | insert p0 p1 p2 p3 =>
      rw [hoo] at hop
      simp only [cOp, Option.bind_eq_bind, Option.pure_def, Option.bind_eq_some_iff] at hop
      obtain ⟨_, _, hop⟩ := hop
      split at hop
      · simp only [Option.bind_eq_some_iff, Option.some.injEq] at hop
        obtain ⟨_, _, _, _, _, _, _, _, _, _, rfl⟩ := hop
        cases hctl
      · cases hop
    | makeSlice p0 p1 p2 =>
      rw [hoo] at hop
      simp only [cOp, Option.bind_eq_bind, Option.pure_def, Option.bind_eq_some_iff] at hop
      obtain ⟨_, _, hop⟩ := hop
      split at hop
      · simp only [Option.bind_eq_some_iff, Option.some.injEq] at hop
        obtain ⟨_, _, _, _, _, _, _, _, rfl⟩ := hop
        cases hctl
      · cases hop
    | buildSlice p0 p1 p2 =>
      rw [hoo] at hop
      simp only [cOp, Option.bind_eq_bind, Option.pure_def, Option.bind_eq_some_iff] at hop
      obtain ⟨_, _, hop⟩ := hop
      split at hop
      · simp only [Option.bind_eq_some_iff] at hop
        obtain ⟨_, _, _, _, hop⟩ := hop
        split at hop
        · simp only [Option.bind_eq_some_iff, Option.some.injEq] at hop
          obtain ⟨_, _, rfl⟩ := hop
          cases hctl
        · cases hop
      · cases hop
    | makeMap p0 p1 =>
      rw [hoo] at hop
      simp only [cOp] at hop
      split at hop <;> cases hop
      cases hctl
    | slice p0 p1 p2 p3 p4 =>
      rw [hoo] at hop
      simp only [cOp, Option.bind_eq_bind, Option.pure_def, Option.bind_eq_some_iff] at hop
      obtain ⟨_, _, _, _, _, _, _, _, _, _, hop⟩ := hop
      split at hop
      · simp only [Option.bind_eq_some_iff, Option.some.injEq] at hop
        obtain ⟨_, _, rfl⟩ := hop
        cases hctl
      · split at hop <;> cases hop
        cases hctl
      · simp only [Option.bind_eq_some_iff, Option.some.injEq] at hop
        obtain ⟨_, _, rfl⟩ := hop
        cases hctl
      · cases hop
    | typeAssert p0 p1 p2 p3 =>
      rw [hoo] at hop
      simp only [cOp, Option.bind_eq_bind, Option.pure_def, Option.bind_eq_some_iff] at hop
      obtain ⟨_, _, _, _, _, _, hop⟩ := hop
      split at hop <;> cases hop
      cases hctl
    | _ => rw [hoo] at hop; simp [cOp] at hop

end
end Go.AJ

/- Regions in the order of the text. -/
namespace Go.AJ
open Go

section
variable {P : Program} {X : Cx} {ρ : Ren} {h : Hp} {w : World} {t : T V} {a : Act} {b : Frame} {cf : FrameMode → List Frame} {μ : FrameMode} {todo : List Item} {n : Nat}

/-- Where a piece of code leads. -/
def At (ρ : Ren) (b : Frame) (cf : FrameMode → List Frame) (μ : FrameMode) (todo : List Item) (e : Ex) (a : Act) (w : World) (m : Machine) : Prop := match e with
  | .normal => m = lone (b.atR a todo) (cf μ) w
  | .exit id => ∃ todo', exitTo id todo' = exitTo id todo ∧ m = lone (b.atR a (.code (.exit id) :: todo')) (cf μ) w
  | .ret => ∃ todo', m = lone (b.atR a (.code .ret :: todo')) (cf μ) w
  | .panic ch _ => ∃ ch' todo', PER ρ ch ch' ∧ m = lone { b.atR a todo' with mode := .panicking ch' } (cf μ) w

def dirt : Ex → List K
  | .panic _ q => q
  | _ => []

/-- What is known in the midst of an activation. -/
structure SR (X : Cx) (ρ : Ren) (n : Nat) (b : Frame) (cf : FrameMode → List Frame) (q : List K) (t : T V) (d : Dc) (h : Hp) (a : Act) (μ : FrameMode) (w : World) : Prop where
  tr : TR ρ q n t a.tmps
  dc : DcR ρ b cf μ d a.defers
  hr : HR X ρ h w

def ExOut (P : Program) (X : Cx) (ρ : Ren) (h : Hp) (w : World) (n : Nat) (b : Frame) (cf : FrameMode → List Frame) (todo : List Item) (k : KE) (m0 : Machine) : Prop :=
  ∃ e t' d' h' ρ' a' w' μ' m, k e t' d' h' = true ∧ Steps P m0 m ∧ At ρ' b cf μ' todo e a' w' m ∧ SR X ρ' n b cf (dirt e) t' d' h' a' μ' w' ∧ Ext ρ h w ρ' h' w'

theorem ExOut.head {k : KE} {m0 m1 : Machine} (hs : step P m0 = .next m1) (hx : ExOut P X ρ h w n b cf todo k m1) : ExOut P X ρ h w n b cf todo k m0 := by
  obtain ⟨e, t', d', h', ρ', a', w', μ', m, h1, h2, h3⟩ := hx
  exact ⟨e, t', d', h', ρ', a', w', μ', m, h1, .head hs h2, h3⟩

theorem TR.put {v : V} {v' : Value} {i : Nat} (ht : TR ρ [] n t a.tmps) (hi : i < n) (hv : VR ρ v v') : TR ρ [] n (T.ins und v (K.of i) t) (a.put (some i) v').tmps := by
  refine ⟨by simp [Act.put, ht.size], fun j _ => ?_⟩
  rw [T.get_ins]
  by_cases hji : j = i
  · subst hji
    have : j < a.tmps.size := Nat.lt_of_lt_of_le hi ht.size
    simpa [Act.put, this] using hv
  · rw [if_neg (fun e => hji (K.of_inj e))]
    have := ht.val j (by simp)
    simpa [Act.put, Array.getElem?_setIfInBounds_ne (Ne.symm hji)] using this

/-- The temporaries behind an operation. -/
noncomputable def putT (dst : Option K) (v : V) (t : T V) : T V := match dst with
  | none => t
  | some k => T.ins und v k t

theorem put_eqT (dst : Option K) (v : V) (t : T V) (c : T V → Bool) : put dst v t c = c (putT dst v t) := by
  cases dst with
  | none => rfl
  | some k => simp only [put, T.set_eq, putT]

theorem TR.putO {v : V} {v' : Value} {dst : Option Tmp} {dst' : Option K} (ht : TR ρ [] n t a.tmps) (hd : cDst n dst = some dst') (hv : VR ρ v v') :
    TR ρ [] n (putT dst' v t) (a.put dst v').tmps := by
  cases dst with
  | none => simp only [cDst, Option.some.injEq] at hd; subst hd; exact ht
  | some i =>
    simp only [cDst] at hd
    split at hd
    · rename_i hi
      simp only [Option.some.injEq] at hd
      subst hd
      exact ht.put hi hv
    · cases hd

theorem cAO_some {T : Ty} {ext : Nat → Bool} {ops : Array Oper} {o : Oper} {C : CallF} {t : AJ.T V} {d : Dc} {h : Hp} {k : KS} {p : KP}
    (e : opRun C (cAO T ext n ops o).op (cAO T ext n ops o).dst t d h k p = true) :
    ∃ dst g op, cAO T ext n ops o = ⟨dst, g, op⟩ ∧ cDst n o.dst = some dst ∧ cGuard n ops o.guard = some g ∧ cOp T ext o.op = some op := by
  unfold cAO at e ⊢
  split at e
  · rename_i d' g' op' h1 h2 h3
    exact ⟨d', g', op', by simp [], h1, h2, h3⟩
  · cases e

theorem wanted_ok {ops : Array Oper} {o : Oper} {g : Option (K × Bool)} (hg : cGuard n ops o.guard = some g) (hsz : n ≤ a.tmps.size)
    (hv : ∀ j want d, o.guard = some (j, want) → (ops[j]?).bind (·.dst) = some d → VR ρ (T.get und (K.of d) t) (a.tmps.getD d undef)) {yes no : Bool} (e : wanted g t yes no = true) :
    (Region.wanted o (yielded ops a.tmps) = true ∧ yes = true) ∨ (Region.wanted o (yielded ops a.tmps) = false ∧ no = true) := by
  cases hgo : o.guard with
  | none =>
    rw [hgo] at hg
    simp only [cGuard, Option.some.injEq] at hg
    subst hg
    exact .inl ⟨by simp [Region.wanted, hgo], e⟩
  | some p =>
    obtain ⟨j, want⟩ := p
    rw [hgo] at hg
    simp only [cGuard] at hg
    split at hg
    · rename_i d hd
      split at hg
      · rename_i hdn
        simp only [Option.some.injEq] at hg
        subst hg
        have hr := hv j want d hgo hd
        have hlt : d < a.tmps.size := Nat.lt_of_lt_of_le hdn hsz
        have hget : a.tmps.getD d undef = a.tmps[d] := by simp [hlt]
        have hy : yielded ops a.tmps j = match a.tmps[d] with | .bool b => some b | _ => none := by
          simp only [yielded, hd, Option.bind_some, Array.getElem?_eq_getElem hlt]
          cases a.tmps[d] <;> rfl
        rw [hget] at hr
        generalize a.tmps[d] = vv at hr hy
        simp only [wanted] at e
        simp only [Region.wanted, hgo, hy]
        generalize T.get und (K.of d) t = tv at hr e
        cases hr with
        | bool q => cases q <;> cases want <;> simp_all
        | _ => exact .inr ⟨by simp, e⟩
      · cases hg
    · cases hg

theorem exOut_trans {k : KE} {m0 m1 : Machine} {ρ1 : Ren} {h1 : Hp} {w1 : World} (hs : Steps P m0 m1) (E : Ext ρ h w ρ1 h1 w1) (hx : ExOut P X ρ1 h1 w1 n b cf todo k m1) : ExOut P X ρ h w n b cf todo k m0 := by
  obtain ⟨e, t', d', h', ρ', a', w', μ', m, g1, g2, g3, g4, g5⟩ := hx
  exact ⟨e, t', d', h', ρ', a', w', μ', m, g1, .trans hs g2, g3, g4, E.trans g5⟩

theorem regs_ok (hP : POK P X) {C : CallF} (hC : CSound P X C) {ops : Array Oper} {k : KE} : ∀ (l : List Oper) (i : Nat) (ρ : Ren) (h : Hp) (w : World) (t : T V) (a : Act) (d : Dc) (μ : FrameMode), ops.toList.drop i = l →
    SR X ρ n b cf [] t d h a μ w →
    opsRun C (l.map (cAO X.T X.ext n ops)) t d h (fun t' d' h' => k .normal t' d' h') (fun ch t' d' h' => k (.panic ch []) t' d' h') = true →
    ExOut P X ρ h w n b cf todo k (lone (b.atR a (.inRegion ops (List.range' i (ops.size - i)) :: todo)) (cf μ) w) := by
  intro l
  induction l with
  | nil =>
    intro i ρ h w t a d μ hl S e
    have hi : ops.size ≤ i := by
      have := congrArg List.length hl
      simp at this
      omega
    rw [show ops.size - i = 0 by omega]
    exact ⟨.normal, t, d, h, ρ, a, w, μ, _, e, .one stepR_region_end, rfl, S, Ext.refl _ _ _⟩
  | cons o l ih =>
    intro i ρ h w t a d μ hl S e
    have hi : i < ops.size := by
      have := congrArg List.length hl
      simp at this
      omega
    have ho : ops[i]? = some o := by
      have : (ops.toList.drop i)[0]? = some o := by rw [hl]; rfl
      simpa using this
    have hl' : ops.toList.drop (i + 1) = l := by rw [← List.drop_drop, hl]; rfl
    rw [show ops.size - i = (ops.size - (i + 1)) + 1 by omega, List.range'_succ]
    -- the operation's parts
    have parts : ∃ dst g op, cAO X.T X.ext n ops o = ⟨dst, g, op⟩ ∧ cDst n o.dst = some dst ∧ cGuard n ops o.guard = some g ∧ cOp X.T X.ext o.op = some op := by
      unfold cAO
      split
      · rename_i d' g' op' h1 h2 h3
        exact ⟨d', g', op', rfl, h1, h2, h3⟩
      · rename_i hbad
        exfalso
        have hb : cAO X.T X.ext n ops o = badAO := by
          unfold cAO
          split
          · rename_i d' g' op' h1 h2 h3; exact (hbad _ _ _ h1 h2 h3).elim
          · rfl
        rw [List.map_cons, hb] at e
        cases e
    obtain ⟨dst, g, op, hao, hdst, hg, hop⟩ := parts
    rw [List.map_cons, hao] at e
    have e : wanted g t (opRun C op dst t d h (fun t' d' h' => opsRun C (l.map (cAO X.T X.ext n ops)) t' d' h' (fun t' d' h' => k .normal t' d' h') (fun ch t' d' h' => k (.panic ch []) t' d' h')) (fun ch t' d' h' => k (.panic ch []) t' d' h'))
        (put dst und t fun t' => opsRun C (l.map (cAO X.T X.ext n ops)) t' d h (fun t' d' h' => k .normal t' d' h') (fun ch t' d' h' => k (.panic ch []) t' d' h')) = true := e
    rcases wanted_ok hg S.tr.size (fun j want dd _ _ => S.tr.val dd (by simp)) e with ⟨hw, e⟩ | ⟨hw, e⟩
    · obtain ⟨ρ', h', w', μ', d', H', E, ds, hd', hout⟩ := op_step (todo := todo) (rest := List.range' (i + 1) (ops.size - (i + 1))) hP hC ho hw hop (fun x _ => ev_ok S.tr (by simp)) S.hr S.dc e
      rcases hout with ⟨v, v', hk, hv, hs⟩ | ⟨ch, ch', todo', hk, hper, hs⟩
      · rw [put_eqT] at hk
        refine exOut_trans hs E (ih (i + 1) ρ' h' w' _ _ d' μ' hl' ⟨?_, ?_, H'⟩ hk)
        · exact (TR.mono E.sub S.tr : TR ρ' [] n t (Act.mk a.tmps ds).tmps).putO hdst hv
        · cases o.dst <;> exact hd'
      · exact ⟨.panic ch [], t, d', h', ρ', ⟨a.tmps, ds⟩, w', μ', _, hk, hs, ⟨ch', todo', hper, rfl⟩, ⟨TR.mono E.sub S.tr, hd', H'⟩, E⟩
    · rw [put_eqT] at e
      have hskip := stepR_op_skip (P := P) (b := b) (a := a) (k := todo) (cs := cf μ) (w := w) (ops := ops) (i := i) (rest := List.range' (i + 1) (ops.size - (i + 1))) (by rw [ho]; simpa using hw)
      rw [ho] at hskip
      refine ExOut.head hskip (ih (i + 1) ρ h w _ _ d μ hl' ⟨?_, ?_, S.hr⟩ e)
      · exact S.tr.putO hdst (.tup [] [] .nil)
      · simp only [Option.bind_some]
        cases o.dst <;> exact S.dc

end
end Go.AJ

/- Code. -/
namespace Go.AJ
open Go

section
variable {P : Program} {X : Cx} {ρ : Ren} {h : Hp} {w : World} {t : T V} {a : Act} {b : Frame} {cf : FrameMode → List Frame} {μ : FrameMode} {todo : List Item} {n : Nat}

/-- The function, and the loop whose round this is. -/
def FiR (ρ : Ren) (fi : FI) (b : Frame) : Prop := match fi with
  | .mk fn r => b.fn = fn ∧ (match r with | none => b.roundOf = none | some l => ∃ rl, ρ l = some rl ∧ b.roundOf = some rl.blk)

theorem FiR.mono {ρ ρ' : Ren} (hs : ∀ b r, ρ b = some r → ρ' b = some r) {fi : FI} (hf : FiR ρ fi b) : FiR ρ' fi b := by
  cases fi with
  | mk fn r =>
    refine ⟨hf.1, ?_⟩
    cases r with
    | none => exact hf.2
    | some l => obtain ⟨rl, h1, h2⟩ := hf.2; exact ⟨rl, hs _ _ h1, h2⟩

/-- A piece of code does what the interpreter says of it. -/
def CodeOK (P : Program) (X : Cx) (n : Nat) (c : Code) (f : T V → Dc → Hp → KE → Bool) (fi : FI) : Prop :=
  ∀ (b : Frame) (cf : FrameMode → List Frame) (todo : List Item) (k : KE) (ρ : Ren) (h : Hp) (w : World) (t : T V) (a : Act) (d : Dc) (μ : FrameMode),
    SR X ρ n b cf [] t d h a μ w → FiR ρ fi b → f t d h k = true → ExOut P X ρ h w n b cf todo k (lone (b.atR a (.code c :: todo)) (cf μ) w)

theorem stepR_scope {c : Code} {k : List Item} {cs : List Frame} : step P (lone (b.atR a (.code (.scope c) :: k)) cs w) = .next (lone (b.atR a (.code c :: .inScope c :: k)) cs w) :=
  step_lone_go (by simp [stepG, stepG.exec, Frame.atR])
theorem stepR_inScope {c : Code} {k : List Item} {cs : List Frame} : step P (lone (b.atR a (.inScope c :: k)) cs w) = .next (lone (b.atR a k) cs w) :=
  step_lone_go (by simp [stepG, stepG.exec, Frame.atR])

theorem ExOut.wrap {x : Item} {k' k : KE} {m0 : Machine} (hx : ExOut P X ρ h w n b cf (x :: todo) k' m0) (hex : ∀ id, exitTo id (x :: todo) = exitTo id todo)
    (hn : ∀ (ρ1 : Ren) (h1 : Hp) (w1 : World) (t1 : T V) (a1 : Act) (d1 : Dc) (μ1 : FrameMode), (∀ b r, ρ b = some r → ρ1 b = some r) → SR X ρ1 n b cf [] t1 d1 h1 a1 μ1 w1 → k' .normal t1 d1 h1 = true →
      ExOut P X ρ1 h1 w1 n b cf todo k (lone (b.atR a1 (x :: todo)) (cf μ1) w1))
    (he : ∀ e t d h, (∀ _hn : e = .normal, False) → k' e t d h = true → k e t d h = true) : ExOut P X ρ h w n b cf todo k m0 := by
  obtain ⟨e, t', d', h', ρ', a', w', μ', m, g1, g2, g3, g4, g5⟩ := hx
  cases e with
  | normal =>
    have g3 : m = lone (b.atR a' (x :: todo)) (cf μ') w' := g3
    subst g3
    exact exOut_trans g2 g5 (hn _ _ _ _ _ _ _ g5.sub g4 g1)
  | exit id =>
    obtain ⟨todo', h1, h2⟩ := g3
    exact ⟨.exit id, t', d', h', ρ', a', w', μ', m, he _ _ _ _ (by simp) g1, g2, ⟨todo', h1.trans (hex id), h2⟩, g4, g5⟩
  | ret => exact ⟨.ret, t', d', h', ρ', a', w', μ', m, he _ _ _ _ (by simp) g1, g2, g3, g4, g5⟩
  | panic ch q => exact ⟨.panic ch q, t', d', h', ρ', a', w', μ', m, he _ _ _ _ (by simp) g1, g2, g3, g4, g5⟩

theorem iterK_other {r : T V → Dc → Hp → Bool} {k : KE} : ∀ e t d h, (∀ _hn : e = .normal, False) → iterK r k e t d h = true → k e t d h = true := by
  intro e t d h hn hk
  cases e with
  | normal => exact (hn rfl).elim
  | exit id => exact hk
  | ret => exact hk
  | panic ch q => exact hk

theorem iter_ok {c : Code} {f : T V → Dc → Hp → KE → Bool} {fi : FI} (hc : CodeOK P X n c f fi) : ∀ (L : Nat) (b : Frame) (cf : FrameMode → List Frame) (todo : List Item) (k : KE) (ρ : Ren) (h : Hp) (w : World) (t : T V) (a : Act) (d : Dc) (μ : FrameMode),
    SR X ρ n b cf [] t d h a μ w → FiR ρ fi b → iter f L t d h k = true → ExOut P X ρ h w n b cf todo k (lone (b.atR a (.code c :: .inLoop c :: todo)) (cf μ) w) := by
  intro L
  induction L with
  | zero => intro b cf todo k ρ h w t a d μ _ _ e; cases e
  | succ L ih =>
    intro b cf todo k ρ h w t a d μ S F e
    refine ExOut.wrap (hc b cf (.inLoop c :: todo) _ ρ h w t a d μ S F e) (fun _ => rfl) (fun ρ1 h1 w1 t1 a1 d1 μ1 hs S1 e1 => ?_) iterK_other
    exact ExOut.head stepR_inLoop (ih b cf todo k ρ1 h1 w1 t1 a1 d1 μ1 S1 (F.mono hs) e1)

theorem exec_ok (hP : POK P X) {C : CallF} (hC : CSound P X C) (L : Nat) (fi : FI)
    (hD : ∀ id ops, CodeOK P X n (.region id ops true) (exec C L fi (cCode X.T X.ext n (.region id ops true))) fi)
    (hR : ∀ f ps x y, CodeOK P X n (.rangeFunc f ps x y) (exec C L fi (cCode X.T X.ext n (.rangeFunc f ps x y))) fi) :
    ∀ c : Code, CodeOK P X n c (exec C L fi (cCode X.T X.ext n c)) fi := by
  intro c
  induction c with
  | skip =>
    intro b cf todo k ρ h w t a d μ S F e
    exact ⟨.normal, t, d, h, ρ, a, w, μ, _, e, .one stepR_skip, rfl, S, Ext.refl _ _ _⟩
  | label l =>
    intro b cf todo k ρ h w t a d μ S F e
    exact ⟨.normal, t, d, h, ρ, a, w, μ, _, e, .one stepR_label, rfl, S, Ext.refl _ _ _⟩
  | region id ops draw =>
    cases draw with
    | true => exact hD id ops
    | false =>
      intro b cf todo k ρ h w t a d μ S F e
      refine ExOut.head stepR_region ?_
      rw [List.range_eq_range']
      exact regs_ok hP hC ops.toList 0 ρ h w t a d μ rfl S e
  | seq x y ihx ihy =>
    intro b cf todo k ρ h w t a d μ S F e
    refine ExOut.head stepR_seq (ExOut.wrap (ihx b cf (.code y :: todo) _ ρ h w t a d μ S F e) (fun _ => rfl) (fun ρ1 h1 w1 t1 a1 d1 μ1 hs S1 e1 => ?_) iterK_other)
    exact ihy b cf todo k ρ1 h1 w1 t1 a1 d1 μ1 S1 (F.mono hs) e1
  | cond q x y ihx ihy =>
    intro b cf todo k ρ h w t a d μ S F e
    simp only [cCode] at e
    split at e
    · rename_i q' hq
      have hv := ev_ok (ρ := ρ) S.tr (x := q) (by simp) _ hq
      have e : condGo (ev t q') (exec C L fi (cCode X.T X.ext n x) t d h k) (exec C L fi (cCode X.T X.ext n y) t d h k) = true := e
      generalize ev t q' = vv at hv e
      generalize hqe : a.eval q = qq at hv
      cases hv with
      | bool u =>
        refine ExOut.head (stepR_cond hqe) ?_
        cases u with
        | true => exact ihx b cf todo k ρ h w t a d μ S F e
        | false => exact ihy b cf todo k ρ h w t a d μ S F e
      | _ => cases e
    · cases e
  | block id x ih =>
    intro b cf todo k ρ h w t a d μ S F e
    refine ExOut.head stepR_block ?_
    obtain ⟨e1, t', d', h', ρ', a', w', μ', m, g1, g2, g3, g4, g5⟩ := ih b cf (.inBlock id :: todo) (blockK id k) ρ h w t a d μ S F e
    cases e1 with
    | normal =>
      have g3 : m = lone (b.atR a' (.inBlock id :: todo)) (cf μ') w' := g3
      subst g3
      exact ⟨.normal, t', d', h', ρ', a', w', μ', _, g1, .trans g2 (.one stepR_inBlock), rfl, g4, g5⟩
    | exit id' =>
      obtain ⟨todo', q1, rfl⟩ := g3
      simp only [blockK] at g1
      split at g1
      · rename_i hq
        have hq := Nat.eq_of_beq_eq_true hq
        subst hq
        have hx : exitTo id todo' = some todo := by rw [q1]; simp [exitTo]
        exact ⟨.normal, t', d', h', ρ', a', w', μ', _, g1, .trans g2 (.one (stepR_exit hx)), rfl, g4, g5⟩
      · rename_i hq
        have hne : id ≠ id' := fun e => by subst e; simp at hq
        refine ⟨.exit id', t', d', h', ρ', a', w', μ', _, g1, g2, ⟨todo', ?_, rfl⟩, g4, g5⟩
        rw [q1]
        simp [exitTo, hne]
    | ret => exact ⟨.ret, t', d', h', ρ', a', w', μ', m, g1, g2, g3, g4, g5⟩
    | panic ch q => exact ⟨.panic ch q, t', d', h', ρ', a', w', μ', m, g1, g2, g3, g4, g5⟩
  | loop x ih =>
    intro b cf todo k ρ h w t a d μ S F e
    exact ExOut.head stepR_loop (iter_ok ih L b cf todo k ρ h w t a d μ S F e)
  | rangeFunc f ps x y _ _ => exact hR f ps x y
  | exit id =>
    intro b cf todo k ρ h w t a d μ S F e
    exact ⟨.exit id, t, d, h, ρ, a, w, μ, _, e, .refl _ _, ⟨todo, rfl, rfl⟩, S, Ext.refl _ _ _⟩
  | scope x ih =>
    intro b cf todo k ρ h w t a d μ S F e
    refine ExOut.head stepR_scope (ExOut.wrap (ih b cf (.inScope x :: todo) k ρ h w t a d μ S F e) (fun _ => rfl) (fun ρ1 h1 w1 t1 a1 d1 μ1 hs S1 e1 => ?_) (fun _ _ _ _ _ hk => hk))
    exact ⟨.normal, t1, d1, h1, ρ1, a1, w1, μ1, _, e1, .one stepR_inScope, rfl, S1, Ext.refl _ _ _⟩
  | goto l =>
    intro b cf todo k ρ h w t a d μ S F e
    cases e
  | ret =>
    intro b cf todo k ρ h w t a d μ S F e
    exact ⟨.ret, t, d, h, ρ, a, w, μ, _, e, .refl _ _, ⟨todo, rfl⟩, S, Ext.refl _ _ _⟩
  | refuse why =>
    intro b cf todo k ρ h w t a d μ S F e
    cases e

end
end Go.AJ

/- Calls, their ends, ranges over functions. -/
namespace Go.AJ
open Go

section
variable {P : Program} {X : Cx} {ρ : Ren} {h : Hp} {w : World} {t : T V} {a : Act} {b : Frame} {cf : FrameMode → List Frame} {μ : FrameMode} {todo : List Item} {n : Nat}

/-! ### Results -/

theorem clean_ok {q : List K} {k : K} {c : Bool} (e : clean q k c = true) : k ∉ q ∧ c = true := by
  induction q with
  | nil => exact ⟨by simp, e⟩
  | cons k' q ih =>
    simp only [clean] at e
    split at e
    · cases e
    · rename_i hk
      obtain ⟨h1, h2⟩ := ih e
      refine ⟨?_, h2⟩
      intro hm
      rcases List.mem_cons.1 hm with rfl | hm
      · rw [K.beq_refl] at hk; cases hk
      · exact h1 hm

/-- The value of one result. -/
def resSem (tmps : Array Value) : ResultVar → Sem Value
  | .tmp t => pure (tmps.getD t undef)
  | .cell a t => do loadVar t (← asAddr (tmps.getD a undef))

theorem load_addr {ty : Nat} {v x : Value} (hx : (Instr.loadAt ty v).run P w = .ok x w) : ((asAddr v).run P w).andThen (fun r w' => (loadVar ty r).run P w') = .ok x w := by
  cases v with
  | pointer p =>
    cases p with
    | none => simp [Instr.loadAt, Instr.sureAddr, stuck, Sem.run, Result.andThen] at hx
    | some p => simpa [Instr.loadAt, Instr.sureAddr, asAddr] using hx
  | _ => simp [Instr.loadAt, Instr.sureAddr, stuck, Sem.run, Result.andThen] at hx

theorem results_ok (hT : TyOK P X) {q : List K} (H : HR X ρ h w) (ht : TR ρ q n t a.tmps) : ∀ {rs : List ResultVar} {res : List RV} {c : List V → Bool}, cRes X.T rs = some res → results q t h res c = true →
    ∃ vs vs', c vs = true ∧ (rs.mapM (resSem a.tmps)).run P w = .ok vs' w ∧ VL ρ vs vs' := by
  intro rs
  induction rs with
  | nil =>
    intro res c hr e
    simp only [cRes, Option.some.injEq] at hr
    subst hr
    exact ⟨[], [], e, by simp, .nil⟩
  | cons r rs ih =>
    intro res c hr e
    simp only [cRes] at hr
    split at hr
    · cases hr
    · rename_i res' hres
      split at hr
      · rename_i tt
        simp only [Option.some.injEq] at hr
        subst hr
        simp only [results] at e
        obtain ⟨hq, e⟩ := clean_ok e
        obtain ⟨vs, vs', hc, hrun, hv⟩ := ih hres e
        exact ⟨_, _, hc, by simp [List.mapM_cons, resSem, hrun], .cons _ _ _ _ (ht.val tt hq) hv⟩
      · rename_i ca ty
        split at hr
        · rename_i d m hd hm
          obtain ⟨i, hi, rfl⟩ := sizeT_ok hT hm
          have hu := hT.un _ _ hd
          split at hr
          · rename_i hagg
            simp only [Option.some.injEq] at hr
            subst hr
            simp only [results] at e
            obtain ⟨hq, e⟩ := clean_ok e
            obtain ⟨x, x', e, hx, hvx⟩ := oLoadN_ok (P := P) H hu hagg hi (ht.val ca hq) e
            obtain ⟨vs, vs', hc, hrun, hv⟩ := ih hres e
            exact ⟨_, _, hc, by simp only [List.mapM_cons, resSem, Sem.run_bind, load_addr hx, Result.andThen_ok, hrun, Sem.run_pure], .cons _ _ _ _ hvx hv⟩
          · rename_i hagg
            simp only [Option.some.injEq] at hr
            subst hr
            simp only [results] at e
            obtain ⟨hq, e⟩ := clean_ok e
            obtain ⟨x, x', e, hx, hvx⟩ := oLoad1_ok (P := P) H hu (by simpa using hagg) (ht.val ca hq) e
            obtain ⟨vs, vs', hc, hrun, hv⟩ := ih hres e
            exact ⟨_, _, hc, by simp only [List.mapM_cons, resSem, Sem.run_bind, load_addr hx, Result.andThen_ok, hrun, Sem.run_pure], .cons _ _ _ _ hvx hv⟩
        · cases hr

theorem one_ok {vs : List V} {vs' : List Value} (h : VL ρ vs vs') : VR ρ (one vs) (if hh : (⟨vs'⟩ : Array Value).size = 1 then (⟨vs'⟩ : Array Value)[0] else .tuple ⟨vs'⟩) := by
  cases h with
  | nil => exact .tup [] [] .nil
  | cons v v' l l' hv hl =>
    cases hl with
    | nil => exact hv
    | cons u u' m m' hu hm => exact .tup _ _ (.cons _ _ _ _ hv (.cons _ _ _ _ hu hm))

theorem results_run {fn : Func} {tmps : Array Value} {vs' : List Value} (hr : (fn.results.toList.mapM (resSem tmps)).run P w = .ok vs' w) :
    (Go.results fn tmps).run P w = .ok (if hh : (⟨vs'⟩ : Array Value).size = 1 then (⟨vs'⟩ : Array Value)[0] else .tuple ⟨vs'⟩) w := by
  have e : Go.results fn tmps = (do
      let vs ← fn.results.mapM (resSem tmps)
      pure (if h : vs.size = 1 then vs[0] else .tuple vs)) := by
    unfold Go.results
    congr 1
  rw [e, Array.mapM_eq_mapM_toList]
  simp only [Sem.run_bind, Sem.run_map, hr, Result.andThen_ok, Sem.run_pure]

/-! ### The end of an activation -/

theorem PER.all {ch : List PE} {ch' : List PanicEntry} (h : PER ρ ch ch') : ch'.dropWhile (!·.goexit) = [] := by
  induction h with
  | nil => rfl
  | cons v v' r l l' _ _ ih => simpa using ih

theorem PER.append {a c : List PE} {a' c' : List PanicEntry} (h1 : PER ρ a a') (h2 : PER ρ c c') : PER ρ (a ++ c) (a' ++ c') := by
  induction h1 with
  | nil => exact h2
  | cons v v' r l l' hv _ ih => exact .cons _ _ _ _ _ hv ih

theorem mode_self {c : Frame} {m : FrameMode} (h : c.mode = m) : { c with mode := m } = c := by subst h; rfl

/-- The mode behind a deferred call. -/
def back (u : Md) : End → Md
  | .ret _ => settle u
  | .pan ch => raised u ch

/-- A deferred call comes back. -/
theorem step_back {fr c : Frame} {cs : List Frame} {e : End} {u : Md} {w : World} (hend : EndR P ρ e .deferred fr w) (hu : MdR ρ u c.mode) :
    ∃ μ', step P (lone fr (c :: cs) w) = .next (lone { c with mode := μ' } cs w) ∧ MdR ρ (back u e) μ' := by
  generalize hcm : c.mode = μ0 at hu
  cases e with
  | ret v =>
    obtain ⟨v', hv, hm, hd, hk, fn, hf, hr⟩ := hend
    cases hu with
    | ret =>
      refine ⟨.returning, ?_, .ret⟩
      rw [mode_self hcm]
      exact step_lone_go (by simp [stepG, Go.unwind, doReturn, hm, hd, hk, hf, hr, hcm])
    | pan ch ch' hp =>
      cases hp with
      | nil =>
        refine ⟨.panicking [], ?_, .pan [] [] .nil⟩
        rw [mode_self hcm]
        exact step_lone_go (by simp [stepG, Go.unwind, doReturn, hm, hd, hk, hf, hr, hcm])
      | cons v2 v2' r l l' hv2 hl =>
        cases r with
        | true =>
          refine ⟨.returning, ?_, .ret⟩
          have := hl.all
          exact step_lone_go (by simp only [stepG, Go.unwind, doReturn, hm, hd, hk, hf, Sem.runT_eq, hr, hcm, this]; rfl)
        | false =>
          refine ⟨.panicking ({ v := v2', recovered := false } :: l'), ?_, .pan _ _ (.cons _ _ _ _ _ hv2 hl)⟩
          rw [mode_self hcm]
          exact step_lone_go (by simp [stepG, Go.unwind, doReturn, hm, hd, hk, hf, hr, hcm])
  | pan ch =>
    obtain ⟨ch', hper, hm, hd, fn, hf⟩ := hend
    cases hu with
    | ret =>
      refine ⟨.panicking ch', ?_, .pan _ _ hper⟩
      exact step_lone_go (by simp [stepG, Go.unwind, Frame.catches, Frame.raise, hm, hd, hf, hcm])
    | pan ch2 ch2' hp =>
      refine ⟨.panicking (ch' ++ ch2'), ?_, .pan _ _ (hper.append hp)⟩
      exact step_lone_go (by simp [stepG, Go.unwind, Frame.catches, Frame.raise, hm, hd, hf, hcm])

theorem step_deferred {fr : Frame} {cs : List Frame} {f : Nat} {cap args : Array Value} {ds : List Deferred} {u : Md} (hd : fr.defers = ⟨.fn (.func f) cap, args⟩ :: ds) (hu : MdR ρ u fr.mode)
    (he : (callFunc f (args ++ cap)).run P w = .ok (.enter f (args ++ cap)) w) :
    step P (lone fr cs w) = .next (lone (Frame.enter P f (args ++ cap) .deferred) ({ fr with defers := ds } :: cs) w) := by
  generalize hm : fr.mode = m at hu
  cases hu <;> exact step_lone_go (by simp [stepG, Go.unwind, callDeferred, hm, hd, invoke, he])

theorem run_setDfr {r : Nat} {ds : List Deferred} (hb : w.heap[r]? = some (.deferred (some ds))) :
    ∃ w', (Instr.takeDeferred r).run P w = .ok ds w' ∧ w'.heap = w.heap.set! r (.deferred none) ∧ w'.os = w.os ∧ w'.tape = w.tape ∧ w'.output = w.output :=
  ⟨{ w with heap := w.heap.setIfInBounds r (.deferred none) }, by simp [Instr.takeDeferred, getObj, setObj, Sem.run, hb], by rw [Array.set!_eq_setIfInBounds], rfl, rfl, rfl⟩

theorem step_collected {fr : Frame} {cs : List Frame} {r : Nat} {args : Array Value} {ds calls : List Deferred} {u : Md} {w' : World} (hd : fr.defers = ⟨.collected r, args⟩ :: ds) (hu : MdR ρ u fr.mode)
    (ht : (Instr.takeDeferred r).run P w = .ok calls w') : step P (lone fr cs w) = .next (lone { fr with defers := calls ++ ds } cs w') := by
  generalize hm : fr.mode = m at hu
  cases hu <;> exact step_lone_go (by simp [stepG, Go.unwind, hm, hd, ht])

theorem DR.append {l1 l2 : List D} {m1 m2 : List Deferred} (h1 : DR ρ l1 m1) (h2 : DR ρ l2 m2) : DR ρ (l1 ++ l2) (m1 ++ m2) := by
  induction h1 with
  | nil => exact h2
  | coll b r l l' h _ ih => exact .coll _ _ _ _ h ih
  | call f a c a' l l' h _ ih => exact .call _ _ _ _ _ _ h ih

theorem unwind_ok (hT : TyOK P X) {C : CallF} (hC : CSound P X C) {fn : Func} {res : List RV} (hf : P.funcs[b.fn]? = some fn) (hres : cRes X.T fn.results.toList = some res) {q : List K} {cm : Option Md} {k : KC} :
    ∀ (L : Nat) (u : Md) (ds : List D) (h : Hp) (ρ : Ren) (w : World) (a : Act) (M : FrameMode), unwind C res q cm t L u ds h k = true → TR ρ q n t a.tmps → DR ρ ds a.defers → HR X ρ h w → MdR ρ u M → CmR ρ cm b.kind cf μ →
    ∃ e h' ρ' w' fr, k e cm h' = true ∧ Steps P (lone { b.atR a todo with mode := M } (cf μ) w) (lone fr (cf μ) w') ∧ EndR P ρ' e b.kind fr w' ∧ CmR ρ' cm b.kind cf μ ∧ HR X ρ' h' w' ∧ Ext ρ h w ρ' h' w' ∧ fr.fn = b.fn := by
  intro L
  induction L with
  | zero => intro u ds h ρ w a M e; cases e
  | succ L ih =>
    intro u ds h ρ w a M e ht hd H hu hcm
    cases hd' : a.defers with
    | nil =>
      rw [hd'] at hd
      cases hd
      simp only [unwind] at e
      cases hu with
      | ret =>
        obtain ⟨vs, vs', hc, hrun, hv⟩ := results_ok hT H ht hres e
        exact ⟨_, h, ρ, w, _, hc, .refl _ _, ⟨_, one_ok hv, rfl, hd', rfl, fn, hf, results_run hrun⟩, hcm, H, Ext.refl _ _ _, rfl⟩
      | pan ch ch' hp =>
        exact ⟨_, h, ρ, w, _, e, .refl _ _, ⟨ch', hp, rfl, hd', fn, hf⟩, hcm, H, Ext.refl _ _ _, rfl⟩
    | cons dd ds' =>
      rw [hd'] at hd
      cases hd with
      | coll bk r l l' hr hl =>
        simp only [unwind] at e
        split at e
        · rename_i calls hblk
          rw [putBlk_eq] at e
          have hbn : blk h bk ≠ .none := by rw [hblk]; simp
          obtain ⟨o, ho, hbr⟩ := H.live bk r hbn hr
          rw [hblk] at hbr
          obtain ⟨calls', rfl, hdc⟩ := hbr
          obtain ⟨w1, hw1, g1, g2, g3, g4⟩ := run_setDfr (P := P) ho
          obtain ⟨H1, E1⟩ := H.turn hbn hr .none (.deferred none) w1 g1 g2 g3 g4 trivial
          have hstep := step_collected (P := P) (fr := { b.atR a todo with mode := M }) (cs := cf μ) (w := w) hd' hu hw1
          obtain ⟨e1, h', ρ', w', fr, k1, k2, k3, k4, k5, k6⟩ := ih u (calls ++ l) _ ρ w1 ⟨a.tmps, calls' ++ ds'⟩ M e ht (hdc.append hl) H1 hu hcm
          exact ⟨e1, h', ρ', w', fr, k1, .head hstep k2, k3, k4, k5, E1.trans k6.1, k6.2⟩
        · cases e
      | call f as cap as' l l' hargs hl =>
        simp only [unwind] at e
        obtain ⟨hent, hall⟩ := hC.fn _ _ _ _ _ e
        have hstep := step_deferred (P := P) (fr := { b.atR a todo with mode := M }) (cs := cf μ) (w := w) hd' hu (hent _ _)
        obtain ⟨e1, u1, h1, ρ1, w1, μ1, fr1, hk, hs, hend, hcm1, H1, E1, _⟩ := hall ρ w (as' ++ cap) .deferred (fun m => { { b.atR a todo with mode := M } with defers := ds', mode := m } :: cf μ) M H (by simpa using hargs)
          ⟨rfl, ⟨{ { b.atR a todo with mode := M } with defers := ds' }, cf μ, fun _ => rfl⟩, hu⟩
        cases u1 with
        | none => cases hk
        | some u2 =>
          obtain ⟨_, _, hu2⟩ := hcm1
          obtain ⟨μ2, hback, hmd⟩ := step_back (P := P) (cs := cf μ) (c := { { b.atR a todo with mode := M } with defers := ds', mode := μ1 }) hend hu2
          have hk : unwind C res q cm t L (back u2 e1) l h1 k = true := by
            cases e1 <;> exact hk
          obtain ⟨e3, h', ρ', w', fr, k1, k2, k3, k4, k5, k6⟩ := ih (back u2 e1) l h1 ρ1 w1 ⟨a.tmps, ds'⟩ μ2 hk (ht.mono E1.sub) (hl.mono E1.sub) H1 hmd (hcm.mono E1.sub)
          exact ⟨e3, h', ρ', w', fr, k1, .head hstep (.trans hs (.head hback k2)), k3, k4, k5, E1.trans k6.1, k6.2⟩

/-! ### Functions -/

theorem putArgs_ok : ∀ (args : List V) (i : Nat) (t : T V) (c : T V → Bool), putArgs args (K.of i) t c = true →
    ∃ t', c t' = true ∧ ∀ j, T.get und (K.of j) t' = if i ≤ j then (match args[j - i]? with | some v => v | none => T.get und (K.of j) t) else T.get und (K.of j) t := by
  intro args
  induction args with
  | nil => intro i t c e; exact ⟨t, e, fun j => by simp⟩
  | cons v args ih =>
    intro i t c e
    simp only [putArgs, T.set_eq, ← K.of_succ] at e
    obtain ⟨t', hc, hall⟩ := ih (i + 1) _ c e
    refine ⟨t', hc, fun j => ?_⟩
    rw [hall j, T.get_ins]
    by_cases h1 : j = i
    · subst h1
      rw [if_neg (by omega), if_pos rfl, if_pos (Nat.le_refl _)]
      simp
    · rw [if_neg (fun e => h1 (K.of_inj e))]
      by_cases h2 : i + 1 ≤ j
      · rw [if_pos h2, if_pos (by omega), show j - i = (j - (i + 1)) + 1 by omega]
        simp
      · rw [if_neg h2, if_neg (by omega)]

/-- What is known of a function that is not walked into. -/
def PrimOK (P : Program) (X : Cx) (f : Nat) (g : PrimF) : Prop :=
  (∀ (as : Array Value) (w : World), (callFunc f as).run P w = .ok (.enter f as) w) ∧
  ∀ (args : List V) (h : Hp) (k : V → Hp → Bool), g args h k = true → ∀ (ρ : Ren) (w : World) (args' : Array Value) (cs : List Frame), HR X ρ h w → VL ρ args args'.toList →
    ∃ v h' ρ' w' fr, k v h' = true ∧ Steps P (lone (Frame.enter P f args' .normal) cs w) (lone fr cs w') ∧ EndR P ρ' (.ret v) .normal fr w' ∧ HR X ρ' h' w' ∧ Ext ρ h w ρ' h' w' ∧ fr.fn = f

/-- The functions that are known. -/
structure EnvOK (P : Program) (X : Cx) (E : Env) : Prop where
  fn : ∀ f a, T.get .no (K.of f) E.fn = .fn (some a) → ∃ fn, P.funcs[f]? = some fn ∧ cFn X.T X.ext fn = some a ∧ ∀ (as : Array Value) (w : World), (callFunc f as).run P w = .ok (.enter f as) w
  prim : ∀ f g, T.get .no (K.of f) E.fn = .prim g → PrimOK P X f g

theorem cFn_some {T : Ty} {ext : Nat → Bool} {f : Func} {a : AFn} (h : cFn T ext f = some a) : ∃ c, f.body = some c ∧ a.body = cCode T ext f.ntmps c ∧ cRes T f.results.toList = some a.res := by
  unfold cFn at h
  split at h
  · rename_i c r hc hr
    cases h
    exact ⟨c, hc, rfl, hr⟩
  · cases h

/-- Pieces of code of every kind do what is said of them. -/
def AllCode (P : Program) (X : Cx) (C : CallF) (L : Nat) : Prop := ∀ (n : Nat) (fi : FI) (c : Code), CodeOK P X n c (exec C L fi (cCode X.T X.ext n c)) fi

theorem callFn_ok (hP : POK P X) {E : Env} (hE : EnvOK P X E) {C : CallF} (hC : CSound P X C) {L : Nat} (hA : AllCode P X C L) (f : Nat) (args : List V) (cm : Option Md) (h : Hp) (k : KC) (e : callFn C L E f args cm h k = true) :
    (∀ (as : Array Value) (w : World), (callFunc f as).run P w = .ok (.enter f as) w) ∧
    ∀ (ρ : Ren) (w : World) (args' : Array Value) (kind : CallKind) (cf : FrameMode → List Frame) (μ : FrameMode), HR X ρ h w → VL ρ args args'.toList → CmR ρ cm kind cf μ →
      ∃ e u h' ρ' w' μ' fr, k e u h' = true ∧ Steps P (lone (Frame.enter P f args' kind) (cf μ) w) (lone fr (cf μ') w') ∧ EndR P ρ' e kind fr w' ∧ CmR ρ' u kind cf μ' ∧ HR X ρ' h' w' ∧ Ext ρ h w ρ' h' w' ∧ fr.fn = f := by
  unfold callFn at e
  split at e
  · cases e
  · rename_i g hg
    obtain ⟨hent, hall⟩ := hE.prim f g hg
    refine ⟨hent, fun ρ w args' kind cf μ H ha hcm => ?_⟩
    split at e
    · have hk : kind = .normal := hcm
      subst hk
      obtain ⟨v, h', ρ', w', fr, k1, k2, k3, k4, k5⟩ := hall args h _ e ρ w args' (cf μ) H ha
      exact ⟨.ret v, none, h', ρ', w', μ, fr, k1, k2, k3, rfl, k4, k5⟩
    · cases e
  · rename_i oa hoa
    split at e
    · cases e
    · rename_i af
      obtain ⟨body, res⟩ := af
      obtain ⟨fn, hfn, hcf, hent⟩ := hE.fn f _ hoa
      refine ⟨hent, fun ρ w args' kind cf μ H ha hcm => ?_⟩
      obtain ⟨c, hbody, hb, hres⟩ := cFn_some hcf
      simp only at hb hres
      have e : putArgs args .h .l (fun t => exec C L (.mk f none) body t (.mk [] cm) h (fnEnd C L res k)) = true := e
      rw [← K.of_zero] at e
      obtain ⟨t, e, ht⟩ := putArgs_ok args 0 .l _ e
      subst hb
      let b : Frame := { fn := f, tmps := #[], todo := [], defers := [], mode := .run, kind := kind }
      let a : Act := ⟨args' ++ Array.replicate (fn.ntmps - args'.size) undef, []⟩
      have hlen := ha.length
      simp only [Array.length_toList] at hlen
      have hent2 : Frame.enter P f args' kind = b.atR a [.code c] := by simp [Frame.enter, Frame.atR, b, a, hfn, hbody]
      have S : SR X ρ fn.ntmps b cf [] t (.mk [] cm) h a μ w := by
        refine ⟨⟨by simp [a]; omega, fun i _ => ?_⟩, ⟨rfl, .nil, hcm⟩, H⟩
        rw [ht i, if_pos (Nat.zero_le i)]
        simp only [Nat.sub_zero, T.get_l]
        by_cases hi : i < args.length
        · obtain ⟨v', hv', hr⟩ := ha.get (List.getElem?_eq_getElem hi)
          have hi' : i < args'.size := by omega
          rw [List.getElem?_eq_getElem hi]
          have : a.tmps.getD i undef = v' := by
            simp only [a]
            rw [Array.getElem?_toList] at hv'
            simp [Array.getElem?_append_left hi', hv']
          rw [this]
          exact hr
        · rw [List.getElem?_eq_none (by omega)]
          have : a.tmps.getD i undef = undef := by
            simp only [a, Array.getD_eq_getD_getElem?]
            rw [Array.getElem?_append_right (by omega), Array.getElem?_replicate]
            split <;> rfl
          rw [this]
          exact .tup [] [] .nil
      rw [hent2]
      obtain ⟨e1, t1, d1, h1, ρ1, a1, w1, μ1, m, g1, g2, g3, g4, g5⟩ := hA fn.ntmps (.mk f none) c b cf [] _ ρ h w t a (.mk [] cm) μ S ⟨rfl, rfl⟩ e
      have fin : ∀ (u : Md) (M : FrameMode) (q : List K) (ds : List D) (cm1 : Option Md) (todo' : List Item), dirt e1 = q → d1 = .mk ds cm1 → MdR ρ1 u M → unwind C res q cm1 t1 L u ds h1 k = true →
          Steps P m (lone { b.atR a1 todo' with mode := M } (cf μ1) w1) →
          ∃ e u h' ρ' w' μ' fr, k e u h' = true ∧ Steps P (lone (b.atR a [.code c]) (cf μ) w) (lone fr (cf μ') w') ∧ EndR P ρ' e kind fr w' ∧ CmR ρ' u kind cf μ' ∧ HR X ρ' h' w' ∧ Ext ρ h w ρ' h' w' ∧ fr.fn = f := by
        intro u M q ds cm1 todo' hq hd hu hun hst
        subst hq hd
        obtain ⟨hro, hdr, hcm1⟩ := g4.dc
        obtain ⟨e3, h', ρ', w', fr, k1, k2, k3, k4, k5, k6⟩ := unwind_ok (b := b) (todo := todo') hP.toTyOK hC hfn hres L u ds h1 ρ1 w1 a1 M hun g4.tr hdr g4.hr hu hcm1
        exact ⟨e3, cm1, h', ρ', w', μ1, fr, k1, .trans g2 (.trans hst k2), k3, k4, k5, g5.trans k6.1, k6.2⟩
      cases d1 with
      | rnd => cases g1
      | mk ds cm1 =>
        cases e1 with
        | normal =>
          have g3 : m = lone (b.atR a1 []) (cf μ1) w1 := g3
          subst g3
          exact fin .ret .returning [] ds cm1 [] rfl rfl .ret g1 (.one (stepR_end rfl))
        | ret =>
          obtain ⟨todo', rfl⟩ := g3
          exact fin .ret .returning [] ds cm1 _ rfl rfl .ret g1 (.one (stepR_ret rfl))
        | panic ch q =>
          obtain ⟨ch', todo', hper, rfl⟩ := g3
          exact fin (.pan ch) (.panicking ch') q ds cm1 todo' rfl rfl (.pan _ _ hper) g1 (.refl _ _)
        | exit id => cases g1

/-! ### Rounds -/

theorem putParams_ok {n : Nat} : ∀ {l : List Tmp} {ps : List K}, cParams n l = some ps → ∀ {vs : List V} {vs' : List Value} {ρ : Ren} {t : T V} {tmps : Array Value} {c : T V → Bool}, VL ρ vs vs' → TR ρ [] n t tmps → putParams ps vs t c = true →
    l.length = vs'.length ∧ ∃ t', c t' = true ∧ TR ρ [] n t' ((l.zip vs').foldl (fun tmps p => tmps.setIfInBounds p.1 p.2) tmps) := by
  intro l
  induction l with
  | nil =>
    intro ps hp vs vs' ρ t tmps c hv ht e
    simp only [cParams, Option.some.injEq] at hp
    subst hp
    cases hv with
    | nil => exact ⟨rfl, t, e, ht⟩
    | cons => cases e
  | cons p l ih =>
    intro ps hp vs vs' ρ t tmps c hv ht e
    simp only [cParams] at hp
    split at hp
    · rename_i hpn
      split at hp
      · rename_i r hr
        simp only [Option.some.injEq] at hp
        subst hp
        cases hv with
        | nil => cases e
        | cons v v' vs vs' h1 h2 =>
          simp only [putParams, T.set_eq] at e
          have ht' : TR ρ [] n (T.ins und v (K.of p) t) (tmps.setIfInBounds p v') := by
            have := TR.put (a := ⟨tmps, []⟩) ht hpn h1
            simpa [Act.put] using this
          obtain ⟨g1, t', g2, g3⟩ := ih hr h2 ht' e
          exact ⟨by simp [g1], t', g2, by simpa using g3⟩
      · cases hp
    · cases hp

theorem roundTmps_eq (L : Loop) (args : Array Value) : roundTmps L args = (L.params.toList.zip args.toList).foldl (fun tmps p => tmps.setIfInBounds p.1 p.2) L.tmps := by
  unfold roundTmps
  rw [← Array.foldl_toList, Array.toList_zip]

theorem run_getLoop {r : Nat} {L : Loop} (hL : w.heap[r]? = some (.loop L)) : (Instr.getLoop r).run P w = .ok L w := by simp [Instr.getLoop, getObj, Sem.run, hL]

theorem run_setLoop {r : Nat} {L : Loop} (hL : w.heap[r]? = some (.loop L)) (o : Obj) :
    ∃ w', (setObj r o).run P w = .ok () w' ∧ w'.heap = w.heap.set! r o ∧ w'.os = w.os ∧ w'.tape = w.tape ∧ w'.output = w.output :=
  ⟨{ w with heap := w.heap.setIfInBounds r o }, by simp [setObj, Sem.run, hL], by rw [Array.set!_eq_setIfInBounds], rfl, rfl, rfl⟩

/-- The loop block is turned: its state, and what is pending. -/
theorem HR.loop (H : HR X ρ h w) {l : K} {r : RB} (hr : ρ l = some r) {st : LSt} {j : Jmp} {f : Nat} {t : T V} {ps : List K} {x y : ACode} {D : K} (hb : blk h l = .loop st j f t ps x y D) :
    ∃ L : Loop, w.heap[r.blk]? = some (.loop L) ∧ StR st L.state ∧ JR j L.pending ∧ L.fn = f ∧ (∃ n, TR ρ [] n t L.tmps ∧ ParR n ps L.params.toList ∧ x = cCode X.T X.ext n L.assign ∧ y = cCode X.T X.ext n L.body) ∧ (∃ rD, ρ D = some rD ∧ L.defers = rD.blk) ∧
      ∀ (st' : LSt) (j' : Jmp) (st1 : LoopState) (j1 : Option Code), StR st' st1 → JR j' j1 → ∃ w', (setObj r.blk (.loop { L with state := st1, pending := j1 })).run P w = .ok () w' ∧ w'.heap[r.blk]? = some (.loop { L with state := st1, pending := j1 }) ∧
        HR X ρ (h.upd l (.loop st' j' f t ps x y D)) w' ∧ Ext ρ h w ρ (h.upd l (.loop st' j' f t ps x y D)) w' := by
  have hbn : blk h l ≠ .none := by rw [hb]; simp
  obtain ⟨o, ho, hbr⟩ := H.live l r hbn hr
  rw [hb] at hbr
  obtain ⟨L, n, rD, rfl, h1, h2, h3, h4, h5, h6, h7, h8, h9⟩ := hbr
  refine ⟨L, ho, h1, h2, h3, ⟨n, h4, h5, h6, h7⟩, ⟨rD, h8, h9⟩, fun st' j' st1 j1 hs hj => ?_⟩
  obtain ⟨w', g1, g2, g3, g4, g5⟩ := run_setLoop (P := P) ho (.loop { L with state := st1, pending := j1 })
  obtain ⟨H', E⟩ := H.turn hbn hr (.loop st' j' f t ps x y D) _ w' g2 g3 g4 g5 ⟨_, n, rD, rfl, hs, hj, h3, h4, h5, h6, h7, h8, h9⟩
  refine ⟨w', g1, ?_, H', E⟩
  have hlt := H.lt hbn hr
  rw [g2]
  simp [Array.set!_eq_setIfInBounds, hlt]

theorem known_ok {E : Env} (hE : EnvOK P X E) {f : Nat} {c : Bool} (e : known E f c = true) : (∃ fn, P.funcs[f]? = some fn) ∧ c = true := by
  unfold known at e
  split at e
  · cases e
  · cases e
  · rename_i oa hoa
    split at e
    · cases e
    · obtain ⟨fn, hfn, _⟩ := hE.fn f _ hoa
      exact ⟨⟨fn, hfn⟩, e⟩

theorem setLoop_eq {h : Hp} {l : K} {st : LSt} {j : Jmp} {c : Hp → Bool} (e : setLoop h l st j c = true) :
    ∃ st0 j0 f t ps x y D, blk h l = .loop st0 j0 f t ps x y D ∧ c (h.upd l (.loop st j f t ps x y D)) = true := by
  unfold setLoop at e
  split at e
  · rename_i st0 j0 f t ps x y D hb
    rw [putBlk_eq] at e
    exact ⟨st0, j0, f, t, ps, x, y, D, hb, e⟩
  · cases e

theorem callRound_ok {E : Env} (hE : EnvOK P X E) {C : CallF} {L : Nat} (hA : AllCode P X C L) (l : K) (args : List V) (h : Hp) (k : KC) (e : callRound C L E l args h k = true) :
    ∀ (ρ : Ren) (w : World) (args' : Array Value) (r : RB), ρ l = some r → HR X ρ h w → VL ρ args args'.toList →
    ∃ L : Loop, w.heap[r.blk]? = some (.loop L) ∧ L.params.size = args'.size ∧ ∀ (c : Frame) (cs : List Frame), ∃ e h' ρ' w' m, k e none h' = true ∧
      Steps P (lone (Frame.round r.blk L.fn (roundTmps L args') L.assign L.body .normal) (c :: cs) w) m ∧ RoundR ρ' e c cs w' m ∧ HR X ρ' h' w' ∧ Ext ρ h w ρ' h' w' := by
  intro ρ w args' r hr H ha
  unfold callRound at e
  split at e
  · rename_i st j f t ps x y D hb
    obtain ⟨⟨fn, hfn⟩, e⟩ := known_ok hE e
    obtain ⟨Lp, hL, hst, hj, hf, ⟨n, ht, hps, hx, hy⟩, _, _⟩ := H.loop (P := P) hr hb
    obtain ⟨hlen, t0, e, ht0⟩ := putParams_ok hps ha ht e
    refine ⟨Lp, hL, by simpa using hlen, fun c cs => ?_⟩
    subst hx hy
    let b : Frame := { fn := Lp.fn, tmps := #[], todo := [], defers := [], mode := .run, kind := .normal, roundOf := some r.blk }
    have hround : Frame.round r.blk Lp.fn (roundTmps Lp args') Lp.assign Lp.body .normal = b.atR ⟨roundTmps Lp args', []⟩ (.code Lp.assign :: [.beginRound, .code Lp.body]) := rfl
    rw [hround]
    have S : SR X ρ n b (fun _ => c :: cs) [] t0 .rnd h ⟨roundTmps Lp args', []⟩ .run w := ⟨by rw [roundTmps_eq]; exact ht0, ⟨rfl, ⟨_, rfl⟩, rfl⟩, H⟩
    obtain ⟨e1, t1, d1, h1, ρ1, a1, w1, μ1, m1, g1, g2, g3, g4, g5⟩ := hA n (.mk f (some l)) Lp.assign b (fun _ => c :: cs) [.beginRound, .code Lp.body] _ ρ h w t0 _ .rnd .run S ⟨hf, r, hr, rfl⟩ e
    cases e1 with
    | normal =>
      have g3 : m1 = lone (b.atR a1 [.beginRound, .code Lp.body]) (c :: cs) w1 := g3
      subst g3
      have g1 : roundBegin l h1 (fun h2 => exec C L (.mk f (some l)) (cCode X.T X.ext n Lp.body) t1 d1 h2 fun e _ _ h3 => roundEnd l k e h3) = true := g1
      unfold roundBegin at g1
      split at g1
      · rename_i st1 j1 f1 tt1 ps1 x1 y1 D1 hb1
        split at g1
        · rw [putBlk_eq] at g1
          have hr1 := g5.sub _ _ hr
          obtain ⟨L1, hL1, hst1, hj1, hf1, _, _, hset⟩ := g4.hr.loop (P := P) hr1 hb1
          obtain ⟨w2, hw2, _, H2, E2⟩ := hset .busy j1 .busy L1.pending rfl hj1
          have hbegin : (Instr.beginRound r.blk).run P w1 = .ok () w2 := by
            have hs : L1.state = .ready := hst1
            have hw2' : (setObj r.blk (.loop { L1 with state := .busy })).run P w1 = .ok () w2 := hw2
            simp [Instr.beginRound, run_getLoop hL1, hw2', hs]
          have hstep := stepR_beginRound (P := P) (b := b) (a := a1) (k := [.code Lp.body]) (cs := c :: cs) (w := w1) rfl hbegin
          have S2 : SR X ρ1 n b (fun _ => c :: cs) [] t1 d1 (h1.upd l (.loop .busy j1 f1 tt1 ps1 x1 y1 D1)) a1 μ1 w2 := ⟨g4.tr, g4.dc, H2⟩
          obtain ⟨e2, t2, d2, h3, ρ2, a2, w3, μ2, m2, k1, k2, k3, k4, k5⟩ := hA n (.mk f (some l)) Lp.body b (fun _ => c :: cs) [] _ ρ1 _ w2 t1 a1 d1 μ1 S2 ⟨hf, r, hr1, rfl⟩ g1
          have hr2 := k5.sub _ _ hr1
          have EE := g5.trans (E2.trans k5)
          have steps := Steps.trans g2 (.head hstep k2)
          cases e2 with
          | normal =>
            obtain ⟨st0, j0, f0, tt0, ps0, x0, y0, D0, hb0, hk⟩ := setLoop_eq k1
            obtain ⟨L3, hL3, _, _, _, _, _, hset3⟩ := k4.hr.loop (P := P) hr2 hb0
            obtain ⟨w4, hw4, _, H4, E4⟩ := hset3 .ready .none .ready none rfl rfl
            have hend : (Instr.endRound r.blk none).run P w3 = .ok (.bool true) w4 := by simp [Instr.endRound, run_getLoop hL3, hw4]
            have k3 : m2 = lone (b.atR a2 []) (c :: cs) w3 := k3
            subst k3
            exact ⟨_, _, ρ2, w4, _, hk, .trans steps (.one (stepR_round_end (b := b) rfl rfl hend)), ⟨_, .bool true, rfl⟩, H4, EE.trans E4⟩
          | ret =>
            obtain ⟨st0, j0, f0, tt0, ps0, x0, y0, D0, hb0, hk⟩ := setLoop_eq k1
            obtain ⟨L3, hL3, _, _, _, _, _, hset3⟩ := k4.hr.loop (P := P) hr2 hb0
            obtain ⟨w4, hw4, _, H4, E4⟩ := hset3 .done .ret .done (some .ret) rfl rfl
            have hend : (Instr.endRound r.blk (some .ret)).run P w3 = .ok (.bool false) w4 := by simp [Instr.endRound, run_getLoop hL3, hw4]
            obtain ⟨todo', rfl⟩ := k3
            exact ⟨_, _, ρ2, w4, _, hk, .trans steps (.one (stepR_round_ret (b := b) rfl rfl hend)), ⟨_, .bool false, rfl⟩, H4, EE.trans E4⟩
          | exit id =>
            obtain ⟨st0, j0, f0, tt0, ps0, x0, y0, D0, hb0, hk⟩ := setLoop_eq k1
            obtain ⟨L3, hL3, _, _, _, _, _, hset3⟩ := k4.hr.loop (P := P) hr2 hb0
            obtain ⟨w4, hw4, _, H4, E4⟩ := hset3 .done (.exit id) .done (some (.exit id)) rfl rfl
            have hend : (Instr.endRound r.blk (some (.exit id))).run P w3 = .ok (.bool false) w4 := by simp [Instr.endRound, run_getLoop hL3, hw4]
            obtain ⟨todo', hx, rfl⟩ := k3
            exact ⟨_, _, ρ2, w4, _, hk, .trans steps (.one (stepR_round_exit (b := b) rfl rfl hx hend)), ⟨_, .bool false, rfl⟩, H4, EE.trans E4⟩
          | panic ch q =>
            obtain ⟨ch', todo', hper, rfl⟩ := k3
            have hds : a2.defers = [] := by
              have := k4.dc
              cases d2 with
              | mk ds cm => obtain ⟨h0, _⟩ := this; cases h0
              | rnd => exact this.2.2
            refine ⟨.pan ch, h3, ρ2, w3, _, k1, .trans steps (.one (step_leave_panicked (chain := ch') ⟨rfl, hds, fn, ?_⟩)), ⟨ch', hper, rfl⟩, k4.hr, EE⟩
            show P.funcs[Lp.fn]? = some fn
            rw [hf]; exact hfn
        · cases g1
      · cases g1
    | ret => cases g1
    | exit id => cases g1
    | panic ch q => cases g1
  · cases e

end
end Go.AJ

/- Ranges over functions. -/
namespace Go.AJ
open Go

section
variable {P : Program} {X : Cx} {ρ : Ren} {h : Hp} {w : World} {t : T V} {a : Act} {b : Frame} {cf : FrameMode → List Frame} {μ : FrameMode} {todo : List Item} {n : Nat}

theorem jump_ok {j : Jmp} {c : Option Code} {d : Dc} {k : KE} (hj : JR j c) (S : SR X ρ n b cf [] t d h a μ w) (e : jumpOn j t d h k = true) :
    ExOut P X ρ h w n b cf todo k (lone (b.atR a ((c.map Item.code).toList ++ todo)) (cf μ) w) := by
  cases j with
  | none =>
    have hj : c = none := hj
    subst hj
    exact ⟨.normal, t, d, h, ρ, a, w, μ, _, e, .refl _ _, rfl, S, Ext.refl _ _ _⟩
  | ret =>
    have hj : c = some .ret := hj
    subst hj
    exact ⟨.ret, t, d, h, ρ, a, w, μ, _, e, .refl _ _, ⟨todo, rfl⟩, S, Ext.refl _ _ _⟩
  | exit id =>
    have hj : c = some (.exit id) := hj
    subst hj
    exact ⟨.exit id, t, d, h, ρ, a, w, μ, _, e, .refl _ _, ⟨todo, rfl, rfl⟩, S, Ext.refl _ _ _⟩

theorem rangeGo_ok {C : CallF} (hC : CSound P X C) {D : K} {rD : RB} {ds : List Deferred} {d : Dc} {fv : V} {fv' : Value} {ps : Array Tmp} {ps' : List K} {x y : Code} {k : KE} (H : HR X ρ h w) (ht : TR ρ [] n t a.tmps) (hD : ρ D = some rD)
    (hdc : DcR ρ b cf μ d ds) (hv : VR ρ fv fv') (hps : cParams n ps.toList = some ps') (e : rangeGo C b.fn fv ps' (cCode X.T X.ext n x) (cCode X.T X.ext n y) D t d h k = true) :
    ∃ g fs cs, fv' = .func (.func g) fs cs ∧ (∀ (as : Array Value) (w : World), (callFunc g as).run P w = .ok (.enter g as) w) ∧
      ExOut P X ρ h w n b cf todo k (lone (Frame.enter P g (fs ++ #[.func (.yield w.heap.size) #[] #[]] ++ cs) .normal) (b.atR ⟨a.tmps, ds⟩ (.inRangeFunc w.heap.size :: todo) :: cf μ)
        (w.alloc (.loop { state := .ready, pending := none, fn := b.fn, tmps := a.tmps, params := ps, assign := x, body := y, defers := rD.blk }))) := by
  cases hv with
  | fn g fs cs fs' cs' hfs hcs =>
    refine ⟨g, ⟨fs'⟩, ⟨cs'⟩, rfl, ?_⟩
    simp only [rangeGo, newBlk_eq] at e
    have hn : ρ (nxt h) = none := H.fresh (Nat.le_refl _)
    have hsub := Ren.add_sub (r := ⟨w.heap.size, 0, 0, 0, 0⟩) hn
    obtain ⟨H1, E1⟩ := H.newName (.loop .ready .none b.fn t ps' (cCode X.T X.ext n x) (cCode X.T X.ext n y) D) ⟨w.heap.size, 0, 0, 0, 0⟩
      (.loop { state := .ready, pending := none, fn := b.fn, tmps := a.tmps, params := ps, assign := x, body := y, defers := rD.blk }) _ rfl rfl
      ⟨_, n, rD, rfl, rfl, rfl, rfl, ht.mono hsub, hps, rfl, rfl, hsub _ _ hD, rfl⟩
    have hl : (ρ.add (nxt h) ⟨w.heap.size, 0, 0, 0, 0⟩) (nxt h) = some ⟨w.heap.size, 0, 0, 0, 0⟩ := Ren.add_same _ _ _
    obtain ⟨hent, hall⟩ := hC.fn _ _ _ _ _ e
    refine ⟨hent, ?_⟩
    obtain ⟨e1, u, h2, ρ2, w2, μ2, fr, hk, hs, hend, _, H2, E2, _⟩ := hall _ _ ((⟨fs'⟩ : Array Value) ++ #[.func (.yield w.heap.size) #[] #[]] ++ ⟨cs'⟩) .normal (fun _ => b.atR ⟨a.tmps, ds⟩ (.inRangeFunc w.heap.size :: todo) :: cf μ) .run H1
      (by simpa using (hfs.mono hsub).append (.cons _ _ _ _ (.yld _ _ hl) (hcs.mono hsub))) rfl
    have EE := E1.trans E2
    have hl2 := E2.sub _ _ hl
    cases e1 with
    | ret v =>
      obtain ⟨v', hv, hm, hds, hkd, fn, hfn, hres⟩ := hend
      have h3 := step_leave_returned (P := P) (fr := fr) (c := b.atR ⟨a.tmps, ds⟩ (.inRangeFunc w.heap.size :: todo)) (cs := cf μ) (w := w2) (v := v') ⟨hm, hds, hkd, fn, hfn, hres⟩
      rw [finish_atR_inRangeFunc] at h3
      have hk : rangeEnd (nxt h) t d k (.ret v) h2 = true := hk
      simp only [rangeEnd] at hk
      split at hk
      · rename_i st j f0 t0 ps0 x0 y0 D0 hb
        split at hk
        · cases hk
        · rename_i hnb
          rw [putBlk_eq] at hk
          obtain ⟨Lp, hL, hst, hj, _, _, _, hset⟩ := H2.loop (P := P) hl2 hb
          obtain ⟨w3, hw3, _, H3, E3⟩ := hset .exhausted j .exhausted Lp.pending rfl hj
          have hbusy : (Lp.state == .busy) = false := by
            cases st with
            | ready => have : Lp.state = .ready := hst; rw [this]; rfl
            | busy => exact (hnb rfl).elim
            | done => have : Lp.state = .done := hst; rw [this]; rfl
            | exhausted => have : Lp.state = .exhausted := hst; rw [this]; rfl
          have hendl : (Instr.endLoop w.heap.size).run P w2 = .ok Lp.pending w3 := by
            have hw3' : (setObj w.heap.size (.loop { Lp with state := .exhausted })).run P w2 = .ok () w3 := hw3
            have hg : (Instr.getLoop w.heap.size).run P w2 = .ok Lp w2 := run_getLoop hL
            simp only [Instr.endLoop, Sem.run_bind, hg, Result.andThen_ok, hbusy, Bool.false_eq_true, if_false, Sem.run_pure, hw3']
          have h4 := stepR_endRangeFunc (P := P) (b := b) (a := ⟨a.tmps, ds⟩) (k := todo) (cs := cf μ) hendl
          have EEE := EE.trans E3
          exact exOut_trans (.trans hs (.head h3 (.one h4))) EEE (jump_ok hj ⟨ht.mono EEE.sub, hdc.mono EEE.sub, H3⟩ hk)
      · cases hk
    | pan ch =>
      obtain ⟨ch', hper, hm, hds, fn, hfn⟩ := hend
      have h3 := step_leave_panicked (P := P) (fr := fr) (c := b.atR ⟨a.tmps, ds⟩ (.inRangeFunc w.heap.size :: todo)) (cs := cf μ) (w := w2) (chain := ch') ⟨hm, hds, fn, hfn⟩
      rw [Frame.raise_atR] at h3
      exact ⟨.panic ch [], t, d, h2, ρ2, ⟨a.tmps, ds⟩, w2, μ, _, hk, .trans hs (.one h3), ⟨ch', _, hper, rfl⟩, ⟨ht.mono EE.sub, hdc.mono EE.sub, H2⟩, EE⟩
  | _ => simp [rangeGo] at e

theorem eval_const (a : Act) (v : Value) : a.eval (.const v) = v := rfl

theorem range_ok {C : CallF} (hC : CSound P X C) (L : Nat) (fi : FI) (f : Operand) (ps : Array Tmp) (x y : Code) : CodeOK P X n (.rangeFunc f ps x y) (exec C L fi (cCode X.T X.ext n (.rangeFunc f ps x y))) fi := by
  intro b cf todo k ρ h w t a d μ S F e
  simp only [cCode] at e
  split at e
  · rename_i f' ps' hf hps
    have hv := ev_ok (ρ := ρ) S.tr (x := f) (by simp) _ hf
    obtain ⟨fn, r⟩ := fi
    obtain ⟨hfn, hr⟩ := F
    subst hfn
    have e : rangeRun C (.mk b.fn r) (ev t f') ps' (cCode X.T X.ext n x) (cCode X.T X.ext n y) t d h k = true := e
    -- the call
    have go : ∀ (ρ1 : Ren) (h1 : Hp) (w1 : World) (D : K) (rD : RB) (mark : List Deferred) (d1 : Dc), HR X ρ1 h1 w1 → Ext ρ h w ρ1 h1 w1 → ρ1 D = some rD → DcR ρ1 b cf μ d1 (mark ++ a.defers) →
        (Instr.enterLoop b.fn a.tmps ps x y b.roundOf).run P w = .ok (w1.heap.size, mark) (w1.alloc (.loop { state := .ready, pending := none, fn := b.fn, tmps := a.tmps, params := ps, assign := x, body := y, defers := rD.blk })) →
        rangeGo C b.fn (ev t f') ps' (cCode X.T X.ext n x) (cCode X.T X.ext n y) D t d1 h1 k = true → ExOut P X ρ h w n b cf todo k (lone (b.atR a (.code (.rangeFunc f ps x y) :: todo)) (cf μ) w) := by
      intro ρ1 h1 w1 D rD mark d1 H1 E1 hD hdc hent e
      obtain ⟨g, fs, cs, hq, hen, hx⟩ := rangeGo_ok (a := a) (todo := todo) hC H1 (S.tr.mono E1.sub) hD hdc (hv.mono E1.sub) hps e
      have hres : ∀ w2 : World, (resolve a.eval (rangeCall f w1.heap.size) 0).run P w2 = .ok ⟨.fn (.func g) cs, fs ++ #[.func (.yield w1.heap.size) #[] #[]]⟩ w2 := fun w2 => by
        simp [resolve, hq, Deferred.ofValue, eval_const]
      have hinv : ∀ w2 : World, (invoke (.fn (.func g) cs) (fs ++ #[.func (.yield w1.heap.size) #[] #[]])).run P w2 = .ok (.enter g (fs ++ #[.func (.yield w1.heap.size) #[] #[]] ++ cs)) w2 := fun w2 => by
        simp only [invoke]
        exact hen _ _
      have hstep := stepR_rangeFunc (P := P) (b := b) (a := a) (k := todo) (cs := cf μ) (w := w) (g := f) (ps := ps) (assign := x) (body := y) hent (hres _) (hinv _)
      exact exOut_trans (.one hstep) E1 hx
    cases r with
    | some l =>
      obtain ⟨rl, hl, hro⟩ := hr
      simp only [rangeRun] at e
      split at e
      · rename_i st j f0 t0 ps0 x0 y0 D hb
        obtain ⟨Lp, hL, _, _, _, _, ⟨rD, hD, hLD⟩, _⟩ := S.hr.loop (P := P) hl hb
        refine go ρ h w D rD [] d S.hr (Ext.refl _ _ _) hD (by simpa using S.dc) ?_ e
        rw [hro]
        simp [Instr.enterLoop, run_getLoop hL, hLD]
      · cases e
    | none =>
      have hr : b.roundOf = none := hr
      simp only [rangeRun] at e
      split at e
      · rename_i ds cm _
        rw [newBlk_eq] at e
        obtain ⟨H1, E1⟩ := S.hr.newName (.dfr []) ⟨w.heap.size, 0, 0, 0, 0⟩ (.deferred (some [])) _ rfl rfl ⟨[], rfl, .nil⟩
        have hD : (ρ.add (nxt h) ⟨w.heap.size, 0, 0, 0, 0⟩) (nxt h) = some ⟨w.heap.size, 0, 0, 0, 0⟩ := Ren.add_same _ _ _
        obtain ⟨g1, g2, g3⟩ := S.dc
        refine go _ _ (w.alloc (.deferred (some []))) (nxt h) _ [⟨.collected w.heap.size, #[]⟩] (.mk (.coll (nxt h) :: ds) cm) H1 E1 hD ⟨g1, .coll _ _ _ _ hD (g2.mono E1.sub), g3.mono E1.sub⟩ ?_ e
        rw [hr]
        simp [Instr.enterLoop]
      · cases e
  · cases e

end
end Go.AJ

