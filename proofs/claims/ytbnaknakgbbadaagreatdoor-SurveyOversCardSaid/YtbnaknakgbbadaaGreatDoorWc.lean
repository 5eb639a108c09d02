/-
  SurveyOvers holds at every state from which the call may be made.
-/
import Derived.Test.YtbnaknakgbbadaaGreatDoorWb
import Derived.Test.YtbnaknakgbbadaaGreatDoorTie
import Derived.Test.YtbnaknakgbbadaaGreatDoorCards
import Derived.ProofKit
import Derived.OpenShut
import Derived.LaidMore
import Derived.LaidHandle
import Derived.Lay
import Derived.SevenTiedAt
import Derived.Stop.Joined
import Derived.Carry
import Derived.Deep.SlicePairs
import Derived.Deep.Strs
section
namespace Ax
open Go Go.RowKit
theorem cell_at {w : World} {k o : Nat} {v : Value} (h : w.cell? ⟨k, o, none⟩ = some v) : ∃ c e fr, w.heap[k]? = some (.cells c e fr) ∧ c[o]? = some v := by
  unfold World.cell? at h
  split at h
  · rename_i c e fr hk
    exact ⟨c, e, fr, hk, by simpa using h⟩
  · cases h
theorem slice_val {P : Program} {w : World} {r : Reach} {b : Nat} {t e : TypeId} {v : Value} (ht : P.underlying t = some (.slice e)) (h : Value.okWide P w r b t v) :
    v = .slice none 0 0 ∨ ∃ k off len cap, v = .slice (some ⟨k, off, none⟩) len cap ∧ len ≤ cap := by
  cases v with
  | slice p len cap =>
    cases p with
    | none =>
      rcases len with _ | len <;> rcases cap with _ | cap <;> first
        | exact .inl rfl
        | (exfalso; simp [Value.okWide, ht, Cell.okWide, Cell.ok] at h)
    | some a =>
      simp only [Value.okWide, ht, Cell.okWide, Cell.ok] at h
      obtain ⟨h1, _, _, h2, _⟩ := h
      obtain ⟨k, off, sp⟩ := a
      simp only at h2
      subst h2
      exact .inr ⟨k, off, len, cap, rfl, h1⟩
  | _ => exfalso; simp [Value.okWide, ht, Cell.okWide, Cell.ok] at h
theorem slL_get {w : World} {s k off n cap : Nat} {c : Array Value} {e : TypeId} {fr : Nat × Nat} (hk : w.heap[k]? = some (.cells c e fr)) {j : Nat} (hj : j < n * s) {v : Value} (hv : c[off + j]? = some v) :
    (SlL w s (.slice (some ⟨k, off, none⟩) n cap))[j]? = some (absC v) := by
  rw [SlL_pos hk, List.getElem?_take, if_pos hj, List.getElem?_drop, List.getElem?_map, Array.getElem?_toList, hv]; rfl
end Ax
namespace Go.Proofs.YtbnaknakgbbadaaGreatDoor
open Go Go.ChangeShapes Go.WideShapes Go.ChangeAt Go.RowKit Go.Deep Ax
set_option maxRecDepth 100000

theorem seatOwn : ownKnob Tryz.prog.godebug = none := by kernel_rfl
theorem seatOut : laidOutB Tryz.prog = true := by kernel_rfl
/-- What is listed and is plain data. -/
def seatD : List (String × DataW Unit) := [("unicode/utf8.acceptRanges", Rows.laid_unicode_utf8_acceptRanges), ("unicode/utf8.first", Rows.laid_unicode_utf8_first)]
def seatL : List (String × DataW Unit) := [("unicode/utf8.acceptRanges", Rows.laid_unicode_utf8_acceptRanges), ("errors.errorType", Rows.laid_errors_errorType), ("unicode/utf8.first", Rows.laid_unicode_utf8_first)]
/-- A world that meets the conditions: the handle laid, then the data. -/
noncomputable def seatW1 (os : Os) : World :=
  let w0 := World.holding Tryz.prog os ⟨#[], #[], []⟩
  { w0 with heap := w0.heap.modify 0 fun
      | .cells _ t fr => .cells #[.iface (((Tryz.prog.cutTypes.find? (·.1 == "internal/reflectlite.rtype")).map (·.2)).getD 0) (.agg #[typeHandle Tryz.prog (((List.range Tryz.prog.types.size).find? fun t => Tryz.prog.rowNamed t [101, 114, 114, 111, 114]).getD 0)])] t fr
      | o => o }
noncomputable def seatW (os : Os) : World := (seatW1 os).layVars Tryz.prog seatD
theorem seatW_os (os : Os) : (seatW os).os = os := World.layVars_os _ _ _
theorem seatW_data (os : Os) (args : Array Value) : laidMet Tryz.prog seatD ((seatW os).forCall (fun _ _ => 0) ⟨#[], args, []⟩).memory := by
  have e1 : (seatD.filter fun x => (seatD.map (·.1)).contains x.1) = seatD := List.filter_eq_self.2 fun x hx => List.contains_iff_mem.2 (List.mem_map.2 ⟨x, hx, rfl⟩)
  have e2 : (seatD.filter fun x => !(seatD.map (·.1)).contains x.1) = [] := List.filter_eq_nil_iff.2 fun x hx => by rw [List.contains_iff_mem.2 (List.mem_map.2 ⟨x, hx, rfl⟩)]; simp
  have h : laidMet Tryz.prog seatD (seatW os) := laidMet_layVars (w0 := seatW1 os) (seatD.map (·.1)) [] (by rw [e1]; rfl) (by rw [e1]; kernel_rfl) (by rw [e1]; kernel_rfl) (by rw [e2]; exact LaidIn.none)
  exact h.of_heap (by simp [World.memory, World.forCall, Input.heap])
theorem seatW_met (os : Os) (args : Array Value) : laidMetH Tryz.prog seatL ((seatW os).forCall (fun _ _ => 0) ⟨#[], args, []⟩).memory :=
  laidMetH_of_parts (by
    have e : (seatL.filter fun x => x.2.handleName?.isNone) = seatD := by kernel_rfl
    rw [e]; exact seatW_data os args) (by kernel_rfl)

theorem overs_lifted (os : Os) (started : os.Started) (H : Type) (enc : TypeId × Value → H) :
    ReturnsInHanded {} Tryz.checked os 4 .any (fun w args => (Rows.surveyOversSpec.pre enc Tryz.prog Tryz.f4 [] false w args ∧ laidMetH Tryz.prog seatL w) ∧ sizedMet enc Tryz.prog Tryz.f4 (OpenSpec.ofChange Rows.surveyOversSpec) false w args)
      (Rows.surveyOversSpec.post enc Tryz.prog Tryz.f4 false true false false) := by
  refine returnsInHanded_of_change_and (C := Tryz.checked) (X := fun w _ => laidMetH Tryz.prog seatL w) (fun _ _ _ hh h => h.of_heap hh) seatOwn started (by kernel_rfl) Tryz.func4
    (ChangeSpec.witness_shaped (enc := enc) (C := Tryz.checked) (os := os) (X := fun w _ => laidMetH Tryz.prog seatL w) false (seatW os) #[.int .i64 0, .slice none 0 0, .slice none 0 0] 8 (seatW_os os)
      (World.shaped_of_ZipB (by kernel_rfl) (by kernel_rfl)) (by kernel_rfl) (by kernel_rfl) (by kernel_rfl) (seatW_met os _)) ?_
  intro W base args ds gs before hval0 hW _ _ _ _
  have hval : ∀ (j : Nat) t v, Tryz.f4.params[j]? = some t → args[j]? = some v → Value.okWide Tryz.prog W .any base t v := hval0
  have hW' := hW
  obtain ⟨p, q, hA0, hV, rfl, hfz, _⟩ := hW
  have hA : DataW.TrodAll enc Tryz.prog W 0 (fun _ => true) true Tryz.f4.params.toList args.toList ds p := hA0
  rw [Tryz.params4] at hA hval
  obtain ⟨v0, v1, v2, d0, d1, d2, p0, p1, p2, rfl, rfl, rfl, h0, h1, h2⟩ := trodAll_three hA
  obtain ⟨rfl, rfl⟩ := trodVars_none hV
  obtain ⟨n, rfl, rfl, rfl, wn⟩ := open_int Tryz.underlying3 (hval 0 3 v0 rfl rfl) h0
  have hlt : ∀ x ∈ p1 ++ p2, x.block < W.heap.size := fun x hx => hW'.lt x (by simpa using hx)
  have g1 : ∃ nm, SlV W 1 v1 nm ∧ ∃ M : Nat → Int, ∀ j, j < nm → (SlL W 1 v1)[j]? = some (.int .i64 (M j)) := by
    obtain ⟨fuel, h1⟩ := h1
    rcases slice_val Tryz.underlying28 (hval 1 28 v1 rfl rfl) with rfl | ⟨k, off, len, cap, rfl, hlc⟩
    · exact ⟨0, .nil, fun _ => 0, fun j hj => by omega⟩
    · rcases open_ints Tryz.underlying28 Tryz.underlying3 (by kernel_rfl) h1 with ⟨h, _⟩ | ⟨a, len', cap', zs, e1, _, _, _, hz, _, hc, _⟩
      · cases h
      · cases e1
        simp only [if_true] at hz
        by_cases h0 : cap = 0
        · subst h0
          obtain rfl : len = 0 := by omega
          exact ⟨0, .zero _ _, fun _ => 0, fun j hj => by omega⟩
        · have hc' : ∀ i, i < cap → W.cell? ⟨k, off + i, none⟩ = some (.int .i64 (zs.getD i 0)) := fun i hi => by
            have := hc i (by omega)
            rwa [Ax.addr_add] at this
          obtain ⟨c, e, fr, hk, hl⟩ := cell_at (hc' (cap - 1) (by omega))
          have hsz := (Array.getElem?_eq_some_iff.1 hl).1
          refine ⟨len, .pos hk hlc (by omega) (by omega), fun j => zs.getD j 0, fun j hj => ?_⟩
          obtain ⟨c', e', fr', hk', hl'⟩ := cell_at (hc' j (by omega))
          rw [hk] at hk'
          cases hk'
          exact slL_get hk (by omega) hl'
  have g2 : ∃ nw, SlV W 2 v2 nw ∧ ∃ (A : Nat → Int) (sn sb : Nat → Nat), ∀ j, j < nw → (SlL W 2 v2)[j * 2 + 0]? = some (.int .i64 (A j)) ∧ (SlL W 2 v2)[j * 2 + 1]? = some (.str (sn j) (sb j)) := by
    obtain ⟨fuel, h2⟩ := h2
    rcases slice_val Tryz.underlying29 (hval 2 29 v2 rfl rfl) with rfl | ⟨k, off, len, cap, rfl, hlc⟩
    · exact ⟨0, .nil, fun _ => 0, fun _ => 0, fun _ => 0, fun j hj => by omega⟩
    · rcases open_slice_pairs Tryz.underlying29 Tryz.underlying34 (by kernel_rfl) rfl rfl (by kernel_rfl) (by kernel_rfl) h2 with ⟨h, _⟩ | ⟨a, len', cap', mm, fuel', V0, V1, D0, D1, P0, P1, e1, _, _, _, hz, _, hc⟩
      · cases h
      · cases e1
        simp only [if_true] at hz
        subst hz
        by_cases h0 : mm = 0
        · subst h0
          obtain rfl : len = 0 := by omega
          exact ⟨0, .zero _ _, fun _ => 0, fun _ => 0, fun _ => 0, fun j hj => by omega⟩
        · have hc0 : ∀ i, i < mm → ∃ z : Int, W.cell? ⟨k, off + i * 2, none⟩ = some (.int .i64 z) := fun i hi => by
            obtain ⟨q1, q2, q3, q4⟩ := hc i hi
            obtain ⟨z, e1, _⟩ := DataW.trod_int Tryz.underlying3 q3
            rw [Ax.addr_add] at q1
            have e2 : V0 i = .int .i64 z := by simpa using e1
            exact ⟨z, by rw [q1, e2]⟩
          have hc1 : ∀ i, i < mm → ∃ s : ByteArray, W.cell? ⟨k, off + (i * 2 + 1), none⟩ = some (.string s) := fun i hi => by
            obtain ⟨q1, q2, q3, q4⟩ := hc i hi
            obtain ⟨s, e1, _⟩ := DataW.trod_string Tryz.underlying9 q4
            rw [Ax.addr_add] at q2
            exact ⟨s, by rw [q2]; simpa using e1⟩
          obtain ⟨s, hs⟩ := hc1 (mm - 1) (by omega)
          obtain ⟨c, e, fr, hk, hl⟩ := cell_at hs
          have hsz := (Array.getElem?_eq_some_iff.1 hl).1
          obtain ⟨A, hA⟩ := choose_lt hc0
          obtain ⟨Sx, hS⟩ := choose_lt hc1
          refine ⟨len, .pos hk hlc (by omega) (by omega), A, fun j => (Sx j).size, fun j => numOf (Sx j).data.toList, fun j hj => ⟨?_, ?_⟩⟩
          · obtain ⟨c', e', fr', hk', hl'⟩ := cell_at (hA j (by omega))
            rw [hk] at hk'
            cases hk'
            exact slL_get hk (by omega) hl'
          · obtain ⟨c', e', fr', hk', hl'⟩ := cell_at (hS j (by omega))
            rw [hk] at hk'
            cases hk'
            exact slL_get hk (by omega) hl'
  obtain ⟨nm, a1, M, hml⟩ := g1
  obtain ⟨nw, a2, A, sn, sb, hwl⟩ := g2
  refine (overs_calls n a1 a2 A M sn sb hml hwl).mono fun e W' ⟨he, hg⟩ => ?_
  subst he
  have hb : Below W.heap.size W W' := ⟨hg.os, hg.tape, hg.output, hg.size, hg.block⟩
  refine ⟨_, rfl, _, _, _, [], [] ++ (p1 ++ p2), [], hW', ?_, ?_, ?_, ?_, fun h => by cases h⟩
  · exact trodAll_mk1 (shut_bool Tryz.underlying4 true)
  · exact trodAll_mk3 (shut_int Tryz.underlying3 wn) (Below.trod seatOut (by kernel_rfl) (of_decide_eq_true (by kernel_rfl)) h1 hb fun x hx => hlt x (List.mem_append_left _ hx)) (Below.trod seatOut (by kernel_rfl) (of_decide_eq_true (by kernel_rfl)) h2 hb fun x hx => hlt x (List.mem_append_right _ hx))
  · rfl
  · exact hb.frame _
theorem overs_holds : Rows.SurveyOversSaid :=
  OpenClaim.holds_of_wide 4 Tryz.f4 rfl rfl rfl rfl rfl rfl rfl ⟨rfl, rfl, rfl, rfl, rfl⟩ rfl rfl rfl rfl rfl (by kernel_rfl) Tryz.func4 (by kernel_rfl)
    (of_decide_eq_true (by kernel_rfl)) (by unfold Func.isWrapper; first | (rw [if_pos (by decide +kernel)]; kernel_rfl) | (rw [if_neg (by decide +kernel)]; exact ⟨rfl, rfl⟩))
    (fun os started H enc _ => overs_lifted os started H enc)
theorem overs_card : Rows.SurveyOversCardSaid :=
  Claim7.holds_tied_plain_at .later [] [.data, .handle, .pinned] true (true, "9d6ffce0ef731b9499a04309972c7f3e1a68e809867dc5f7680ed8db4f1e8d5d") true overs_holds (fun _ h => by cases h) (by kernel_rfl) (fun _ h => by cases h) surveyOvers_row_tie rfl ⟨rfl, rfl⟩ (by kernel_rfl) rfl
    (fun f fn hf hfn => by
      obtain rfl : f = 4 := Option.some.inj ((show Tryz.prog.funcNamed "grapnel/grapnellaw14.SurveyOvers" = some 4 by kernel_rfl).symm.trans hf) |>.symm
      obtain rfl : fn = Tryz.f4 := (Option.some.inj (Tryz.func4.symm.trans hfn)).symm
      exact ⟨by kernel_rfl, fun j t ht => by
        rw [Tryz.params4] at ht
        have hm : t ∈ [3, 28, 29] := by simpa using Array.mem_of_getElem? ht
        have hall : ([3, 28, 29].all fun u => !Tryz.prog.wantsStandIn u) = true := by kernel_rfl
        exact (show Tryz.prog.wantsStandIn t = false by simpa using List.all_eq_true.1 hall t hm)⟩)
    (by kernel_rfl)
#print axioms overs_card
end Go.Proofs.YtbnaknakgbbadaaGreatDoor
end
