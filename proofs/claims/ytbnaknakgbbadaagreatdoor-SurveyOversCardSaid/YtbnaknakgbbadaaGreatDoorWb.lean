/-
  What survey.Over and the law function of SurveyOvers answer.
-/
import Derived.Test.YtbnaknakgbbadaaGreatDoorWa
import Derived.Test.YtbnaknakgbbadaaGreatDoorMf
section
set_option maxRecDepth 10000
namespace Ax
open Go
noncomputable def w9 : Fn' := .mk (.seq (.reg [.mk (.box 32) (some 2) [.tmp 0] none, .mk (.box 32) (some 4) [.const (.agg [.nils, .nils])] none]) (.seq (.regD [.mk 0 0 .a (.mk (.bslice 9 0 1 [] []) (some 8) [] none), .mk 1 0 .p (.mk (.fieldA 0) (some 9) [.tmp 2] none), .mk 2 0 (.r 0 2) (.mk .load1 (some 10) [.tmp 9] none), .mk 3 0 (.e [4, 9]) (.mk (.append 9 1 16) (some 11) [.tmp 8, .tmp 10] none), .mk 4 1 .a (.mk (.bslice 3 0 1 [] []) (some 12) [] none), .mk 5 1 .p (.mk (.fieldA 1) (some 13) [.tmp 2] none), .mk 6 1 (.r 0 32) (.mk .load1 (some 14) [.tmp 13] none), .mk 7 1 (.e [9]) (.mk (.append 3 1 8) (some 15) [.tmp 12, .tmp 14] none), .mk 8 2 .p (.mk (.build [.nils, .nils] [(0, 1), (1, 1)]) (some 16) [.tmp 11, .tmp 15] none), .mk 9 2 .a (.mk (.box 32) (some 5) [.const (.agg [.nils, .nils])] none), .mk 10 2 (.e []) (.mk (.store 2) none [.tmp 5, .tmp 16] none)] 11) (.seq (.seq (.reg [.mk .mov (some 17) [.tmp 1] none, .mk .len (some 18) [.tmp 17] none, .mk .mov (some 19) [.const (.int .i64 0)] none]) (.block 0 (.loop (.seq (.reg [.mk (.bin .lss) (some 20) [.tmp 19, .tmp 18] none]) (.seq (.cond (.tmp 20) .skip (.exit 0)) (.seq (.block 1 (.seq (.reg [.mk (.indexA 2) (some 21) [.tmp 17, .tmp 19] none, .mk (.loadn 2) (some 22) [.tmp 21] none, .mk (.box 34) (some 7) [.const (.agg [.int .i64 0, .str 0 0])] none, .mk (.store 2) none [.tmp 7, .tmp 22] none]) (.seq (.reg [.mk (.fieldA 0) (some 23) [.tmp 7] none, .mk .load1 (some 24) [.tmp 23] none, .mk (.bin .geq) (some 25) [.tmp 24, .const (.int .i64 0)] none, .mk .mov (some 26) [.tmp 25] none, .mk (.fieldA 0) (some 27) [.tmp 7] (some (26, true)), .mk .load1 (some 28) [.tmp 27] (some (26, true)), .mk (.fieldA 0) (some 29) [.tmp 5] (some (26, true)), .mk .load1 (some 30) [.tmp 29] (some (26, true)), .mk .len (some 31) [.tmp 30] (some (26, true)), .mk (.bin .lss) (some 32) [.tmp 28, .tmp 31] (some (26, true)), .mk .pick (some 33) [.tmp 26, .tmp 32, .const (.bool false)] none, .mk .mov (some 34) [.tmp 33] none, .mk (.fieldA 0) (some 35) [.tmp 7] (some (34, true)), .mk .load1 (some 36) [.tmp 35] (some (34, true)), .mk (.fieldA 1) (some 37) [.tmp 5] (some (34, true)), .mk .load1 (some 38) [.tmp 37] (some (34, true)), .mk .len (some 39) [.tmp 38] (some (34, true)), .mk (.bin .lss) (some 40) [.tmp 36, .tmp 39] (some (34, true)), .mk .pick (some 41) [.tmp 34, .tmp 40, .const (.bool false)] none]) (.cond (.tmp 41) (.regD [.mk 0 0 .p (.mk (.fieldA 0) (some 42) [.tmp 5] none), .mk 1 0 (.r 0 1) (.mk .load1 (some 43) [.tmp 42] none), .mk 2 0 .p (.mk (.fieldA 0) (some 44) [.tmp 7] none), .mk 3 0 (.r 0 4) (.mk .load1 (some 45) [.tmp 44] none), .mk 8 0 .p (.mk (.fieldA 1) (some 50) [.tmp 7] none), .mk 9 0 (.r 0 256) (.mk .load1 (some 51) [.tmp 50] none), .mk 10 0 .p (.mk (.indexA 1) (some 52) [.tmp 43, .tmp 45] none), .mk 11 0 (.e []) (.mk (.store 1) none [.tmp 52, .tmp 51] none), .mk 4 1 .p (.mk (.fieldA 1) (some 46) [.tmp 5] none), .mk 5 1 (.r 0 16) (.mk .load1 (some 47) [.tmp 46] none), .mk 6 1 .p (.mk (.fieldA 0) (some 48) [.tmp 7] none), .mk 7 1 (.r 0 64) (.mk .load1 (some 49) [.tmp 48] none), .mk 12 1 .p (.mk (.indexA 1) (some 53) [.tmp 47, .tmp 49] none), .mk 13 1 (.e []) (.mk (.store 1) none [.tmp 53, .const (.int .i64 0)] none)] 14) .skip)))) (.reg [.mk (.bin .add) (some 54) [.tmp 19, .const (.int .i64 1)] none, .mk .mov (some 19) [.tmp 54] none]))))))) (.seq (.reg [.mk (.loadn 2) (some 55) [.tmp 5] none, .mk (.store 2) none [.tmp 4, .tmp 55] none]) .ret)))) [.cell 4 (some 2)]
noncomputable def ovR (n nm : Nat) (A : Nat → Int) (sv : Nat → V) (l : List V) : Nat → List V
  | 0 => l
  | j + 1 => if 0 ≤ A j ∧ A j < n ∧ A j < nm then (ovR n nm A sv l j).set (A j).toNat (sv j) else ovR n nm A sv l j
attribute [local irreducible] exec insl exD exC runFn Wk W1 G GD En Op Then Blk Lp Fq FrIs
theorem ovR_len (n nm : Nat) (A : Nat → Int) (sv : Nat → V) (l : List V) (j : Nat) : (ovR n nm A sv l j).length = l.length := by
  induction j with
  | zero => rfl
  | succ j ih => rw [ovR]; split <;> simp [ih]
section
variable {quiet : Nat → Bool} {call : FuncId → List V → H → R1} {F : Nat} {N m : Nat} {L : List Cell}
set_option maxHeartbeats 4000000 in
theorem over_spec (n nm nw : Nat) (hF : nw < F) (A : Nat → Int) (sn sb : Nat → Nat) (xr xm xw : V) (Lr Lm Lw : List V)
    (hr : Srs L 1 xr n Lr) (hm : Srs L 1 xm nm Lm) (hw : Srs L 2 xw nw Lw) (hwl : ∀ j, j < nw → Lw[j * 2 + 0]? = some (.int .i64 (A j)) ∧ Lw[j * 2 + 1]? = some (.str (sn j) (sb j)))
    (o1 : ones Lr = true) (o2 : ones Lm = true) (b1 : n ≤ 50) (b2 : nm ≤ 60) (b3 : nw ≤ 50) (hN : N ≤ 1000000) :
    ∀ h, Sto h N m L → W1 (runFn quiet call F w9 [.agg [xr, xm], xw] h) fun v h' => ∃ b1 b2 ex1 ex2 N' m', v = .agg [.slice b1 0 n n 1, .slice b2 0 nm nm 1] ∧ N' ≤ N + 100 * (nw + 1) ∧
      Sto h' N' m' (.row b1 9 (ovR n nm A (fun j => .str (sn j) (sb j)) Lr nw) ⟨0, false, false, ex1⟩ :: .row b2 3 (ovR n nm A (fun _ => .int .i64 0) Lm nw) ⟨0, false, false, ex2⟩ :: L) := by
  unfold w9
  intro h hs
  have hmN := hs.le
  refine G_fn (by simp) (by first | simp only [Kargs, Nat.zero_add, Nat.reduceAdd] <;> rfl | rfl) ?_ h hs
  refine G_seq ?_
  refine G_reg (by first | simp only [zn, Nat.reduceAdd] <;> rfl | rfl) ?_
  (refine g_box rfl rfl rfl (by first | simp only [zz, Nat.reduceAdd] <;> rfl | rfl) (by omega) (by omega) (by omega) ?_; intro _)
  (refine g_box rfl rfl rfl (by first | simp only [zz, Nat.reduceAdd] <;> rfl | rfl) (by omega) (by omega) (by omega) ?_; intro _)
  refine G_nil ?_
  refine E_then ?_
  refine G_seq ?_
  refine G_regD ?_
  (refine d_bslice rfl rfl rfl rfl (by omega) ?_; intro _)
  refine d_fieldA rfl rfl (by first | simp only [zi, Nat.reduceAdd, Nat.reduceMul] <;> rfl | rfl) ?_
  refine d_load1 rfl rfl (by repeat (first | exact SetR.nil | (apply SetR.no; decide) | (apply SetR.yes; decide) | omega)) (by repeat (first | exact List.Mem.head _ | assumption | apply List.Mem.tail)) (by first | rfl | assumption) (by repeat (first | exact Old.low rfl | refine Old.step rfl (by repeat (first | exact SetR.nil | (apply SetR.no; decide) | (apply SetR.yes; decide) | omega)) (op_load1 (by repeat (first | exact List.Mem.head _ | assumption | apply List.Mem.tail)) (by first | rfl | assumption)) (by first | exact veq_bool _ | exact veq_int _ _ | exact veq_str _ _ | exact veq_ptr _ _ | exact veq_slice _ _ _ _ _ | exact veq_map _ | rfl | exact veq_srs (by assumption)) ?_)) ?_
  refine D_app_empty (i := 0) rfl rfl (by repeat (first | exact SetR.nil | (apply SetR.no; decide) | (apply SetR.yes; decide) | omega)) hr.cons.cons.cons (by rfl) o1 (by omega) (by omega) (by omega) (by omega) (by omega) (by first | simp only [zs] <;> rfl | rfl) (by intro i hi; first | (simp only [List.mem_cons, List.not_mem_nil, or_false] at hi; omega) | (simp at hi; done)) ?_
  intro bR exR
  (refine d_bslice rfl rfl rfl rfl (by omega) ?_; intro _)
  refine d_fieldA rfl rfl (by first | simp only [zi, Nat.reduceAdd, Nat.reduceMul] <;> rfl | rfl) ?_
  refine d_load1 rfl rfl (by repeat (first | exact SetR.nil | (apply SetR.no; decide) | (apply SetR.yes; decide) | omega)) (by repeat (first | exact List.Mem.head _ | assumption | apply List.Mem.tail)) (by first | rfl | assumption) (by repeat (first | exact Old.low rfl | refine Old.step rfl (by repeat (first | exact SetR.nil | (apply SetR.no; decide) | (apply SetR.yes; decide) | omega)) (op_load1 (by repeat (first | exact List.Mem.head _ | assumption | apply List.Mem.tail)) (by first | rfl | assumption)) (by first | exact veq_bool _ | exact veq_int _ _ | exact veq_str _ _ | exact veq_ptr _ _ | exact veq_slice _ _ _ _ _ | exact veq_map _ | rfl | exact veq_srs (by assumption)) ?_)) ?_
  refine D_app_empty (i := 0) rfl rfl (by repeat (first | exact SetR.nil | (apply SetR.no; decide) | (apply SetR.yes; decide) | omega)) hm.cons.cons.cons.cons (by rfl) o2 (by omega) (by omega) (by omega) (by omega) (by omega) (by first | simp only [zs] <;> rfl | rfl) (by intro i hi; first | (simp only [List.mem_cons, List.not_mem_nil, or_false] at hi; omega) | (simp at hi; done)) ?_
  intro bM exM
  refine d_build rfl rfl (by rfl) ?_
  (refine d_box rfl rfl rfl (by first | simp only [zz, Nat.reduceAdd] <;> rfl | rfl) (by omega) ?_; intro _)
  refine d_store (i := 0) rfl (by repeat (first | exact SetR.nil | (apply SetR.no; decide) | (apply SetR.yes; decide) | omega)) (by rfl) rfl (Nat.zero_le _) (by first | simp only [zz, Nat.reduceAdd] <;> rfl | rfl) (by rfl) (by rfl) (by first | omega | (simp only [List.length_cons, List.length_nil]; omega) | (simp; omega) | (simp; done)) (by first | simp only [zz, Nat.reduceAdd] <;> rfl | rfl) (by first | simp only [zs] <;> rfl | rfl) (by intro i hi; first | (simp only [List.mem_cons, List.not_mem_nil, or_false] at hi; omega) | (simp at hi; done)) ?_
  refine D_nil (by first | simp only [zn, Nat.reduceAdd] <;> rfl | rfl) (by repeat (first | exact SetR.nil | (apply SetR.no; decide) | (apply SetR.yes; decide) | omega)) ?_
  refine E_then ?_
  refine G_seq ?_
  refine G_seq ?_
  refine G_reg (by first | simp only [zn, Nat.reduceAdd] <;> rfl | rfl) ?_
  refine g_mov rfl rfl ?_
  refine g_len_s (size := 2) rfl rfl (by repeat (first | assumption | apply Srs.cons)) ?_
  refine g_mov rfl rfl ?_
  refine G_nil ?_
  refine E_then ?_
  refine G_block ?_
  rename_i c2 c4 c8 c12 c5
  refine G_loop (α := Nat × Nat) (fun a => a.1 ≤ nw ∧ a.2 ≤ N + 30 + 60 * a.1) (fun a => nw - a.1)
    (fun a => [(19, .int .i64 (a.1 : Int)), (18, .int .i64 (nw : Int)), (17, xw), (5, .ptr c5 0), (4, .ptr c4 0)]) (fun a => a.2) (fun a => a.2)
    (fun a => .row c5 32 [.slice bR 0 n n 1, .slice bM 0 nm nm 1] nf :: .row bM 3 (ovR n nm A (fun _ => .int .i64 0) Lm a.1) ⟨0, false, false, exM⟩ :: .row bR 9 (ovR n nm A (fun j => .str (sn j) (sb j)) Lr a.1) ⟨0, false, false, exR⟩ :: .row c4 32 [.nils, .nils] nf :: L)
    ?_ (0, _) ⟨(by first | omega | (dsimp only; omega) | (simp; omega) | (simp; done)), (by first | omega | (dsimp only; omega) | (simp; omega) | (simp; done))⟩ (by first | omega | (dsimp only; omega) | (simp; omega) | (simp; done)) (G_start (by repeat (first | exact trivial | refine ⟨by rfl, ?_⟩)) rfl (by first | omega | (dsimp only; omega) | (simp; omega) | (simp; done)) (Nat.le_refl _) (by simp only [ovR]; exact (by repeat (first | exact List.Sublist.refl _ | exact List.nil_sublist _ | apply List.Sublist.cons_cons | apply List.Sublist.cons))))
  rintro ⟨j, nx⟩ ⟨hj, hnx⟩ J HJ
  dsimp only at hj hnx HJ ⊢
  have lR := ovR_len n nm A (fun j => .str (sn j) (sb j)) Lr j
  have lM := ovR_len n nm A (fun _ => .int .i64 0) Lm j
  have lr := hr.len
  have lm := hm.len
  refine G_seq ?_
  refine G_reg (by first | simp only [zn, Nat.reduceAdd] <;> rfl | rfl) ?_
  refine G_cmp ((j : Int) < (nw : Int)) rfl rfl (op_lss rfl) (fun h1 => ?_) (fun h1 => ?_)
  · refine G_nil ?_
    refine E_then ?_
    refine G_seq ?_
    refine G_cond_t rfl ?_
    refine G_skip ?_
    refine E_then ?_
    refine G_seq ?_
    refine G_block ?_
    refine G_seq ?_
    refine G_reg (by first | simp only [zn, Nat.reduceAdd] <;> rfl | rfl) ?_
    refine G_index (n := nw) (l := Lw) rfl rfl hw.cons.cons.cons.cons rfl (by omega) ?_
    intro b o e l0 fl hmem hget
    have q0 := hget 0 _ (by omega) (hwl j (by omega)).1
    have q1 := hget 1 _ (by omega) (hwl j (by omega)).2
    have q2 := (List.getElem?_eq_some_iff.1 q1).1
    rw [Nat.add_zero] at q0
    refine g_loadn rfl rfl (by repeat (first | exact List.Mem.head _ | assumption | apply List.Mem.tail)) (by first | omega | (simp only [List.length_cons, List.length_nil]; omega) | (simp; omega) | (simp; done)) (by first | exact take2 (by assumption) (by assumption) | rfl) ?_
    (refine g_box rfl rfl rfl (by first | simp only [zz, Nat.reduceAdd] <;> rfl | rfl) (by omega) (by omega) (by omega) ?_; intro _)
    refine g_store (i := 0) rfl (by rfl) rfl (Nat.zero_le _) (by first | simp only [zz, Nat.reduceAdd] <;> rfl | rfl) (by rfl) (by rfl) (by first | omega | (simp only [List.length_cons, List.length_nil]; omega) | (simp; omega) | (simp; done)) (by first | simp only [zz, Nat.reduceAdd] <;> rfl | rfl) (by first | simp only [zs] <;> rfl | rfl) ?_
    refine G_nil ?_
    refine E_then ?_
    refine G_seq ?_
    refine G_reg (by first | simp only [zn, Nat.reduceAdd] <;> rfl | rfl) ?_
    refine g_fieldA rfl rfl (by first | simp only [zi, Nat.reduceAdd, Nat.reduceMul] <;> rfl | rfl) ?_
    refine g_load1 rfl rfl (by repeat (first | exact List.Mem.head _ | assumption | apply List.Mem.tail)) (by first | rfl | assumption) ?_
    by_cases c1 : 0 ≤ A j
    · obtain ⟨a, ha⟩ := Int.eq_ofNat_of_zero_le c1
      by_cases c2 : A j < (n : Int)
      · by_cases c3 : A j < (nm : Int)
        · have eR : ovR n nm A (fun j => .str (sn j) (sb j)) Lr (j + 1) = (ovR n nm A (fun j => .str (sn j) (sb j)) Lr j).set a (.str (sn j) (sb j)) := by rw [ovR, if_pos ⟨c1, c2, c3⟩, ha]; rfl
          have eM : ovR n nm A (fun _ => .int .i64 0) Lm (j + 1) = (ovR n nm A (fun _ => .int .i64 0) Lm j).set a (.int .i64 0) := by rw [ovR, if_pos ⟨c1, c2, c3⟩, ha]; rfl
          rw [ha] at c1 c2 c3 ⊢
          refine g_geq_t rfl rfl (by omega) ?_
          refine g_mov rfl rfl ?_
          refine G_yes rfl ?_
          refine g_fieldA rfl rfl (by first | simp only [zi, Nat.reduceAdd, Nat.reduceMul] <;> rfl | rfl) ?_
          refine G_yes rfl ?_
          refine g_load1 rfl rfl (by repeat (first | exact List.Mem.head _ | assumption | apply List.Mem.tail)) (by first | rfl | assumption) ?_
          refine G_yes rfl ?_
          refine g_fieldA rfl rfl (by first | simp only [zi, Nat.reduceAdd, Nat.reduceMul] <;> rfl | rfl) ?_
          refine G_yes rfl ?_
          refine g_load1 rfl rfl (by repeat (first | exact List.Mem.head _ | assumption | apply List.Mem.tail)) (by first | rfl | assumption) ?_
          refine G_yes rfl ?_
          refine g_len rfl rfl ?_
          refine G_yes rfl ?_
          refine g_lss_t rfl rfl (by omega) ?_
          refine g_pick_t rfl rfl ?_
          refine g_mov rfl rfl ?_
          refine G_yes rfl ?_
          refine g_fieldA rfl rfl (by first | simp only [zi, Nat.reduceAdd, Nat.reduceMul] <;> rfl | rfl) ?_
          refine G_yes rfl ?_
          refine g_load1 rfl rfl (by repeat (first | exact List.Mem.head _ | assumption | apply List.Mem.tail)) (by first | rfl | assumption) ?_
          refine G_yes rfl ?_
          refine g_fieldA rfl rfl (by first | simp only [zi, Nat.reduceAdd, Nat.reduceMul] <;> rfl | rfl) ?_
          refine G_yes rfl ?_
          refine g_load1 rfl rfl (by repeat (first | exact List.Mem.head _ | assumption | apply List.Mem.tail)) (by first | rfl | assumption) ?_
          refine G_yes rfl ?_
          refine g_len rfl rfl ?_
          refine G_yes rfl ?_
          refine g_lss_t rfl rfl (by omega) ?_
          refine g_pick_t rfl rfl ?_
          refine G_nil ?_
          refine E_then ?_
          refine G_cond_t rfl ?_
          refine G_regD ?_
          refine d_fieldA rfl rfl (by first | simp only [zi, Nat.reduceAdd, Nat.reduceMul] <;> rfl | rfl) ?_
          refine d_load1 rfl rfl (by repeat (first | exact SetR.nil | (apply SetR.no; decide) | (apply SetR.yes; decide) | omega)) (by repeat (first | exact List.Mem.head _ | assumption | apply List.Mem.tail)) (by first | rfl | assumption) (by repeat (first | exact Old.low rfl | refine Old.step rfl (by repeat (first | exact SetR.nil | (apply SetR.no; decide) | (apply SetR.yes; decide) | omega)) (op_load1 (by repeat (first | exact List.Mem.head _ | assumption | apply List.Mem.tail)) (by first | rfl | assumption)) (by first | exact veq_bool _ | exact veq_int _ _ | exact veq_str _ _ | exact veq_ptr _ _ | exact veq_slice _ _ _ _ _ | exact veq_map _ | rfl | exact veq_srs (by assumption)) ?_)) ?_
          refine d_fieldA rfl rfl (by first | simp only [zi, Nat.reduceAdd, Nat.reduceMul] <;> rfl | rfl) ?_
          refine d_load1 rfl rfl (by repeat (first | exact SetR.nil | (apply SetR.no; decide) | (apply SetR.yes; decide) | omega)) (by repeat (first | exact List.Mem.head _ | assumption | apply List.Mem.tail)) (by first | rfl | assumption) (by repeat (first | exact Old.low rfl | refine Old.step rfl (by repeat (first | exact SetR.nil | (apply SetR.no; decide) | (apply SetR.yes; decide) | omega)) (op_load1 (by repeat (first | exact List.Mem.head _ | assumption | apply List.Mem.tail)) (by first | rfl | assumption)) (by first | exact veq_bool _ | exact veq_int _ _ | exact veq_str _ _ | exact veq_ptr _ _ | exact veq_slice _ _ _ _ _ | exact veq_map _ | rfl | exact veq_srs (by assumption)) ?_)) ?_
          refine d_fieldA rfl rfl (by first | simp only [zi, Nat.reduceAdd, Nat.reduceMul] <;> rfl | rfl) ?_
          refine d_load1 rfl rfl (by repeat (first | exact SetR.nil | (apply SetR.no; decide) | (apply SetR.yes; decide) | omega)) (by repeat (first | exact List.Mem.head _ | assumption | apply List.Mem.tail)) (by first | rfl | assumption) (by repeat (first | exact Old.low rfl | refine Old.step rfl (by repeat (first | exact SetR.nil | (apply SetR.no; decide) | (apply SetR.yes; decide) | omega)) (op_load1 (by repeat (first | exact List.Mem.head _ | assumption | apply List.Mem.tail)) (by first | rfl | assumption)) (by first | exact veq_bool _ | exact veq_int _ _ | exact veq_str _ _ | exact veq_ptr _ _ | exact veq_slice _ _ _ _ _ | exact veq_map _ | rfl | exact veq_srs (by assumption)) ?_)) ?_
          refine d_indexA rfl rfl (by rfl) (by omega) (by first | simp only [zi, Nat.reduceAdd, Nat.reduceMul] <;> rfl | rfl) ?_
          refine d_store1 (i := 3) rfl (by repeat (first | exact SetR.nil | (apply SetR.no; decide) | (apply SetR.yes; decide) | omega)) (by rfl) rfl (Nat.zero_le _) (by first | simp only [zz, Nat.reduceAdd] <;> rfl | rfl) (by rfl) (by first | omega | (simp only [List.length_cons, List.length_nil]; omega) | (simp; omega) | (simp; done)) (by first | simp only [zs] <;> rfl | rfl) (by first | simp only [zs] <;> rfl | rfl) (by intro i hi; first | (simp only [List.mem_cons, List.not_mem_nil, or_false] at hi; omega) | (simp at hi; done)) ?_
          refine d_fieldA rfl rfl (by first | simp only [zi, Nat.reduceAdd, Nat.reduceMul] <;> rfl | rfl) ?_
          refine d_load1 rfl rfl (by repeat (first | exact SetR.nil | (apply SetR.no; decide) | (apply SetR.yes; decide) | omega)) (by repeat (first | exact List.Mem.head _ | assumption | apply List.Mem.tail)) (by first | rfl | assumption) (by repeat (first | exact Old.low rfl | refine Old.step rfl (by repeat (first | exact SetR.nil | (apply SetR.no; decide) | (apply SetR.yes; decide) | omega)) (op_load1 (by repeat (first | exact List.Mem.head _ | assumption | apply List.Mem.tail)) (by first | rfl | assumption)) (by first | exact veq_bool _ | exact veq_int _ _ | exact veq_str _ _ | exact veq_ptr _ _ | exact veq_slice _ _ _ _ _ | exact veq_map _ | rfl | exact veq_srs (by assumption)) ?_)) ?_
          refine d_fieldA rfl rfl (by first | simp only [zi, Nat.reduceAdd, Nat.reduceMul] <;> rfl | rfl) ?_
          refine d_load1 rfl rfl (by repeat (first | exact SetR.nil | (apply SetR.no; decide) | (apply SetR.yes; decide) | omega)) (by repeat (first | exact List.Mem.head _ | assumption | apply List.Mem.tail)) (by first | rfl | assumption) (by repeat (first | exact Old.low rfl | refine Old.step rfl (by repeat (first | exact SetR.nil | (apply SetR.no; decide) | (apply SetR.yes; decide) | omega)) (op_load1 (by repeat (first | exact List.Mem.head _ | assumption | apply List.Mem.tail)) (by first | rfl | assumption)) (by first | exact veq_bool _ | exact veq_int _ _ | exact veq_str _ _ | exact veq_ptr _ _ | exact veq_slice _ _ _ _ _ | exact veq_map _ | rfl | exact veq_srs (by assumption)) ?_)) ?_
          refine d_indexA rfl rfl (by rfl) (by omega) (by first | simp only [zi, Nat.reduceAdd, Nat.reduceMul] <;> rfl | rfl) ?_
          refine d_store1 (i := 2) rfl (by repeat (first | exact SetR.nil | (apply SetR.no; decide) | (apply SetR.yes; decide) | omega)) (by rfl) rfl (Nat.zero_le _) (by first | simp only [zz, Nat.reduceAdd] <;> rfl | rfl) (by rfl) (by first | omega | (simp only [List.length_cons, List.length_nil]; omega) | (simp; omega) | (simp; done)) (by first | simp only [zs] <;> rfl | rfl) (by first | simp only [zs] <;> rfl | rfl) (by intro i hi; first | (simp only [List.mem_cons, List.not_mem_nil, or_false] at hi; omega) | (simp at hi; done)) ?_
          refine D_nil (by first | simp only [zn, Nat.reduceAdd] <;> rfl | rfl) (by repeat (first | exact SetR.nil | (apply SetR.no; decide) | (apply SetR.yes; decide) | omega)) ?_
          refine E_blk ?_
          refine E_then ?_
          refine G_reg (by first | simp only [zn, Nat.reduceAdd] <;> rfl | rfl) ?_
          refine g_add rfl rfl (by rfl) (by omega) (by omega) ?_
          refine g_mov rfl rfl ?_
          refine G_nil ?_
          refine E_again (HJ (j + 1, _) (by first | omega | (dsimp only; omega) | (simp; omega) | (simp; done)) ⟨(by first | omega | (dsimp only; omega) | (simp; omega) | (simp; done)), (by first | omega | (dsimp only; omega) | (simp; omega) | (simp; done))⟩) (by repeat (first | exact trivial | refine ⟨by rfl, ?_⟩)) rfl (by first | omega | (dsimp only; omega) | (simp; omega) | (simp; done)) (Nat.le_refl _) (by rw [eR, eM]; exact (by repeat (first | exact List.Sublist.refl _ | exact List.nil_sublist _ | apply List.Sublist.cons_cons | apply List.Sublist.cons)))
        · have eR : ovR n nm A (fun j => .str (sn j) (sb j)) Lr (j + 1) = ovR n nm A (fun j => .str (sn j) (sb j)) Lr j := by simp [ovR, c3]
          have eM : ovR n nm A (fun _ => .int .i64 0) Lm (j + 1) = ovR n nm A (fun _ => .int .i64 0) Lm j := by simp [ovR, c3]
          refine g_geq_t rfl rfl (by omega) ?_
          refine g_mov rfl rfl ?_
          refine G_yes rfl ?_
          refine g_fieldA rfl rfl (by first | simp only [zi, Nat.reduceAdd, Nat.reduceMul] <;> rfl | rfl) ?_
          refine G_yes rfl ?_
          refine g_load1 rfl rfl (by repeat (first | exact List.Mem.head _ | assumption | apply List.Mem.tail)) (by first | rfl | assumption) ?_
          refine G_yes rfl ?_
          refine g_fieldA rfl rfl (by first | simp only [zi, Nat.reduceAdd, Nat.reduceMul] <;> rfl | rfl) ?_
          refine G_yes rfl ?_
          refine g_load1 rfl rfl (by repeat (first | exact List.Mem.head _ | assumption | apply List.Mem.tail)) (by first | rfl | assumption) ?_
          refine G_yes rfl ?_
          refine g_len rfl rfl ?_
          refine G_yes rfl ?_
          refine g_lss_t rfl rfl (by omega) ?_
          refine g_pick_t rfl rfl ?_
          refine g_mov rfl rfl ?_
          refine G_yes rfl ?_
          refine g_fieldA rfl rfl (by first | simp only [zi, Nat.reduceAdd, Nat.reduceMul] <;> rfl | rfl) ?_
          refine G_yes rfl ?_
          refine g_load1 rfl rfl (by repeat (first | exact List.Mem.head _ | assumption | apply List.Mem.tail)) (by first | rfl | assumption) ?_
          refine G_yes rfl ?_
          refine g_fieldA rfl rfl (by first | simp only [zi, Nat.reduceAdd, Nat.reduceMul] <;> rfl | rfl) ?_
          refine G_yes rfl ?_
          refine g_load1 rfl rfl (by repeat (first | exact List.Mem.head _ | assumption | apply List.Mem.tail)) (by first | rfl | assumption) ?_
          refine G_yes rfl ?_
          refine g_len rfl rfl ?_
          refine G_yes rfl ?_
          refine g_lss_f rfl rfl (by omega) ?_
          refine g_pick_t rfl rfl ?_
          refine G_nil ?_
          refine E_then ?_
          refine G_cond_f rfl ?_
          refine G_skip ?_
          refine E_blk ?_
          refine E_then ?_
          refine G_reg (by first | simp only [zn, Nat.reduceAdd] <;> rfl | rfl) ?_
          refine g_add rfl rfl (by rfl) (by omega) (by omega) ?_
          refine g_mov rfl rfl ?_
          refine G_nil ?_
          refine E_again (HJ (j + 1, _) (by first | omega | (dsimp only; omega) | (simp; omega) | (simp; done)) ⟨(by first | omega | (dsimp only; omega) | (simp; omega) | (simp; done)), (by first | omega | (dsimp only; omega) | (simp; omega) | (simp; done))⟩) (by repeat (first | exact trivial | refine ⟨by rfl, ?_⟩)) rfl (by first | omega | (dsimp only; omega) | (simp; omega) | (simp; done)) (Nat.le_refl _) (by rw [eR, eM]; exact (by repeat (first | exact List.Sublist.refl _ | exact List.nil_sublist _ | apply List.Sublist.cons_cons | apply List.Sublist.cons)))
      · have eR : ovR n nm A (fun j => .str (sn j) (sb j)) Lr (j + 1) = ovR n nm A (fun j => .str (sn j) (sb j)) Lr j := by simp [ovR, c2]
        have eM : ovR n nm A (fun _ => .int .i64 0) Lm (j + 1) = ovR n nm A (fun _ => .int .i64 0) Lm j := by simp [ovR, c2]
        refine g_geq_t rfl rfl (by omega) ?_
        refine g_mov rfl rfl ?_
        refine G_yes rfl ?_
        refine g_fieldA rfl rfl (by first | simp only [zi, Nat.reduceAdd, Nat.reduceMul] <;> rfl | rfl) ?_
        refine G_yes rfl ?_
        refine g_load1 rfl rfl (by repeat (first | exact List.Mem.head _ | assumption | apply List.Mem.tail)) (by first | rfl | assumption) ?_
        refine G_yes rfl ?_
        refine g_fieldA rfl rfl (by first | simp only [zi, Nat.reduceAdd, Nat.reduceMul] <;> rfl | rfl) ?_
        refine G_yes rfl ?_
        refine g_load1 rfl rfl (by repeat (first | exact List.Mem.head _ | assumption | apply List.Mem.tail)) (by first | rfl | assumption) ?_
        refine G_yes rfl ?_
        refine g_len rfl rfl ?_
        refine G_yes rfl ?_
        refine g_lss_f rfl rfl (by omega) ?_
        refine g_pick_t rfl rfl ?_
        refine g_mov rfl rfl ?_
        refine G_no rfl rfl rfl ?_
        refine G_no rfl rfl rfl ?_
        refine G_no rfl rfl rfl ?_
        refine G_no rfl rfl rfl ?_
        refine G_no rfl rfl rfl ?_
        refine G_no rfl rfl rfl ?_
        refine g_pick_f rfl rfl ?_
        refine G_nil ?_
        refine E_then ?_
        refine G_cond_f rfl ?_
        refine G_skip ?_
        refine E_blk ?_
        refine E_then ?_
        refine G_reg (by first | simp only [zn, Nat.reduceAdd] <;> rfl | rfl) ?_
        refine g_add rfl rfl (by rfl) (by omega) (by omega) ?_
        refine g_mov rfl rfl ?_
        refine G_nil ?_
        refine E_again (HJ (j + 1, _) (by first | omega | (dsimp only; omega) | (simp; omega) | (simp; done)) ⟨(by first | omega | (dsimp only; omega) | (simp; omega) | (simp; done)), (by first | omega | (dsimp only; omega) | (simp; omega) | (simp; done))⟩) (by repeat (first | exact trivial | refine ⟨by rfl, ?_⟩)) rfl (by first | omega | (dsimp only; omega) | (simp; omega) | (simp; done)) (Nat.le_refl _) (by rw [eR, eM]; exact (by repeat (first | exact List.Sublist.refl _ | exact List.nil_sublist _ | apply List.Sublist.cons_cons | apply List.Sublist.cons)))
    · have eR : ovR n nm A (fun j => .str (sn j) (sb j)) Lr (j + 1) = ovR n nm A (fun j => .str (sn j) (sb j)) Lr j := by simp [ovR, c1]
      have eM : ovR n nm A (fun _ => .int .i64 0) Lm (j + 1) = ovR n nm A (fun _ => .int .i64 0) Lm j := by simp [ovR, c1]
      refine g_geq_f rfl rfl (by omega) ?_
      refine g_mov rfl rfl ?_
      refine G_no rfl rfl rfl ?_
      refine G_no rfl rfl rfl ?_
      refine G_no rfl rfl rfl ?_
      refine G_no rfl rfl rfl ?_
      refine G_no rfl rfl rfl ?_
      refine G_no rfl rfl rfl ?_
      refine g_pick_f rfl rfl ?_
      refine g_mov rfl rfl ?_
      refine G_no rfl rfl rfl ?_
      refine G_no rfl rfl rfl ?_
      refine G_no rfl rfl rfl ?_
      refine G_no rfl rfl rfl ?_
      refine G_no rfl rfl rfl ?_
      refine G_no rfl rfl rfl ?_
      refine g_pick_f rfl rfl ?_
      refine G_nil ?_
      refine E_then ?_
      refine G_cond_f rfl ?_
      refine G_skip ?_
      refine E_blk ?_
      refine E_then ?_
      refine G_reg (by first | simp only [zn, Nat.reduceAdd] <;> rfl | rfl) ?_
      refine g_add rfl rfl (by rfl) (by omega) (by omega) ?_
      refine g_mov rfl rfl ?_
      refine G_nil ?_
      refine E_again (HJ (j + 1, _) (by first | omega | (dsimp only; omega) | (simp; omega) | (simp; done)) ⟨(by first | omega | (dsimp only; omega) | (simp; omega) | (simp; done)), (by first | omega | (dsimp only; omega) | (simp; omega) | (simp; done))⟩) (by repeat (first | exact trivial | refine ⟨by rfl, ?_⟩)) rfl (by first | omega | (dsimp only; omega) | (simp; omega) | (simp; done)) (Nat.le_refl _) (by rw [eR, eM]; exact (by repeat (first | exact List.Sublist.refl _ | exact List.nil_sublist _ | apply List.Sublist.cons_cons | apply List.Sublist.cons)))
  · refine G_nil ?_
    refine E_then ?_
    refine G_seq ?_
    refine G_cond_f rfl ?_
    refine G_exit ?_
    refine E_then_exit ?_
    refine E_lp_exit ?_
    refine E_blk_eq ?_
    refine E_then ?_
    refine G_seq ?_
    refine G_reg (by first | simp only [zn, Nat.reduceAdd] <;> rfl | rfl) ?_
    refine g_loadn rfl rfl (by repeat (first | exact List.Mem.head _ | assumption | apply List.Mem.tail)) (by first | omega | (simp only [List.length_cons, List.length_nil]; omega) | (simp; omega) | (simp; done)) (by first | exact take2 (by assumption) (by assumption) | rfl) ?_
    refine g_store (i := 3) rfl (by rfl) rfl (Nat.zero_le _) (by first | simp only [zz, Nat.reduceAdd] <;> rfl | rfl) (by rfl) (by rfl) (by first | omega | (simp only [List.length_cons, List.length_nil]; omega) | (simp; omega) | (simp; done)) (by first | simp only [zz, Nat.reduceAdd] <;> rfl | rfl) (by first | simp only [zs] <;> rfl | rfl) ?_
    refine G_nil ?_
    refine E_then ?_
    refine G_ret ?_
    refine E_fq (l := [.agg [.slice bR 0 n n 1, .slice bM 0 nm nm 1]]) ⟨_, _, _, _, 3, _, _, _, rfl, rfl, rfl, (by first | omega | (simp only [List.length_cons, List.length_nil]; omega) | (simp; omega) | (simp; done)), rfl, rfl⟩ ?_
    intro h' hs'
    obtain rfl : j = nw := by omega
    refine ⟨bR, bM, exR, exM, _, _, rfl, ?_, (hs'.sub (L' := .row bM 3 (ovR n nm A (fun _ => .int .i64 0) Lm j) ⟨0, false, false, exM⟩ :: .row bR 9 (ovR n nm A (fun j => .str (sn j) (sb j)) Lr j) ⟨0, false, false, exR⟩ :: L) (by repeat (first | exact List.Sublist.refl _ | exact List.nil_sublist _ | apply List.Sublist.cons_cons | apply List.Sublist.cons))).perm (List.Perm.swap _ _ _)⟩
    omega
end
end Ax
end
section
set_option maxRecDepth 10000
set_option linter.unusedSimpArgs false
set_option linter.unusedVariables false
namespace Ax
open Go
noncomputable def w4 : Fn' := .mk (.seq (.reg [.mk .mov (some 6) [.const (.bool false)] none]) (.seq (.seq (.reg [.mk .mov (some 16) [.tmp 0] none, .mk (.bin .lss) (some 17) [.tmp 16, .const (.int .i64 0)] none, .mk .mov (some 18) [.tmp 17] none, .mk .mov (some 19) [.tmp 0] (some (18, false)), .mk (.bin .gtr) (some 20) [.tmp 19, .const (.int .i64 50)] (some (18, false)), .mk .pick (some 21) [.tmp 18, .const (.bool true), .tmp 20] none, .mk .mov (some 22) [.tmp 21] none, .mk .mov (some 23) [.tmp 1] (some (22, false)), .mk .len (some 24) [.tmp 23] (some (22, false)), .mk (.bin .gtr) (some 25) [.tmp 24, .const (.int .i64 60)] (some (22, false)), .mk .pick (some 26) [.tmp 22, .const (.bool true), .tmp 25] none, .mk .mov (some 27) [.tmp 26] none, .mk .mov (some 28) [.tmp 2] (some (27, false)), .mk .len (some 29) [.tmp 28] (some (27, false)), .mk (.bin .gtr) (some 30) [.tmp 29, .const (.int .i64 50)] (some (27, false)), .mk .pick (some 31) [.tmp 27, .const (.bool true), .tmp 30] none]) (.cond (.tmp 31) (.seq (.reg [.mk .call (some 32) [.const (.func 8 [] [])] none, .mk .mov (some 6) [.tmp 32] none]) .ret) .skip)) (.seq (.reg [.mk .mov (some 33) [.tmp 0] none, .mk (.mksl 9 1 16 [.str 0 0]) (some 34) [.tmp 33, .tmp 33] none, .mk .mov (some 35) [.tmp 1] none, .mk (.build [.nils, .nils] [(0, 1), (1, 1)]) (some 36) [.tmp 34, .tmp 35] none, .mk (.box 32) (some 7) [.const (.agg [.nils, .nils])] none, .mk (.store 2) none [.tmp 7, .tmp 36] none]) (.seq (.reg [.mk (.bslice 9 0 1 [] []) (some 37) [] none, .mk (.fieldA 0) (some 38) [.tmp 7] none, .mk .load1 (some 39) [.tmp 38] none, .mk (.append 9 1 16) (some 40) [.tmp 37, .tmp 39] none, .mk .mov (some 8) [.tmp 40] none]) (.seq (.reg [.mk (.bslice 3 0 1 [] []) (some 41) [] none, .mk .mov (some 42) [.tmp 1] none, .mk (.append 3 1 8) (some 43) [.tmp 41, .tmp 42] none, .mk .mov (some 9) [.tmp 43] none]) (.seq (.seq (.reg [.mk .mov (some 10) [.const (.int .i64 0)] none]) (.block 0 (.loop (.seq (.seq (.reg [.mk .mov (some 44) [.tmp 10] none, .mk .mov (some 45) [.tmp 2] none, .mk .len (some 46) [.tmp 45] none, .mk (.bin .lss) (some 47) [.tmp 44, .tmp 46] none]) (.cond (.tmp 47) .skip (.exit 0))) (.seq (.block 1 (.seq (.reg [.mk .mov (some 50) [.tmp 2] none, .mk .mov (some 51) [.tmp 10] none, .mk (.indexA 2) (some 52) [.tmp 50, .tmp 51] none, .mk (.fieldA 0) (some 53) [.tmp 52] none, .mk .load1 (some 54) [.tmp 53] none, .mk .mov (some 11) [.tmp 54] none]) (.seq (.reg [.mk .mov (some 55) [.tmp 11] none, .mk (.bin .geq) (some 56) [.tmp 55, .const (.int .i64 0)] none, .mk .mov (some 57) [.tmp 56] none, .mk .mov (some 58) [.tmp 11] (some (57, true)), .mk .mov (some 59) [.tmp 0] (some (57, true)), .mk (.bin .lss) (some 60) [.tmp 58, .tmp 59] (some (57, true)), .mk .pick (some 61) [.tmp 57, .tmp 60, .const (.bool false)] none, .mk .mov (some 62) [.tmp 61] none, .mk .mov (some 63) [.tmp 11] (some (62, true)), .mk .mov (some 64) [.tmp 9] (some (62, true)), .mk .len (some 65) [.tmp 64] (some (62, true)), .mk (.bin .lss) (some 66) [.tmp 63, .tmp 65] (some (62, true)), .mk .pick (some 67) [.tmp 62, .tmp 66, .const (.bool false)] none]) (.cond (.tmp 67) (.seq (.reg [.mk .mov (some 68) [.tmp 8] none, .mk .mov (some 69) [.tmp 11] none, .mk .mov (some 70) [.tmp 2] none, .mk .mov (some 71) [.tmp 10] none, .mk (.indexA 2) (some 72) [.tmp 70, .tmp 71] none, .mk (.fieldA 1) (some 73) [.tmp 72] none, .mk .load1 (some 74) [.tmp 73] none, .mk (.indexA 1) (some 75) [.tmp 68, .tmp 69] none, .mk (.store 1) none [.tmp 75, .tmp 74] none]) (.reg [.mk .mov (some 76) [.tmp 9] none, .mk .mov (some 77) [.tmp 11] none, .mk (.indexA 1) (some 78) [.tmp 76, .tmp 77] none, .mk (.store 1) none [.tmp 78, .const (.int .i64 0)] none])) .skip)))) (.reg [.mk .mov (some 48) [.tmp 10] none, .mk (.bin .add) (some 49) [.tmp 48, .const (.int .i64 1)] none, .mk .mov (some 10) [.tmp 49] none])))))) (.seq (.reg [.mk (.bslice 3 0 1 [] []) (some 79) [] none, .mk .mov (some 80) [.tmp 1] none, .mk (.append 3 1 8) (some 81) [.tmp 79, .tmp 80] none, .mk .mov (some 12) [.tmp 81] none]) (.seq (.reg [.mk (.loadn 2) (some 82) [.tmp 7] none, .mk .mov (some 83) [.tmp 2] none, .mk .call (some 84) [.const (.func 9 [] []), .tmp 82, .tmp 83] none, .mk (.box 32) (some 13) [.const (.agg [.nils, .nils])] none, .mk (.store 2) none [.tmp 13, .tmp 84] none]) (.seq (.seq (.reg [.mk (.fieldA 0) (some 85) [.tmp 13] none, .mk .load1 (some 86) [.tmp 85] none, .mk .len (some 87) [.tmp 86] none, .mk .mov (some 88) [.tmp 0] none, .mk (.bin .neq) (some 89) [.tmp 87, .tmp 88] none, .mk .mov (some 90) [.tmp 89] none, .mk (.fieldA 1) (some 91) [.tmp 13] (some (90, false)), .mk .load1 (some 92) [.tmp 91] (some (90, false)), .mk .len (some 93) [.tmp 92] (some (90, false)), .mk .mov (some 94) [.tmp 9] (some (90, false)), .mk .len (some 95) [.tmp 94] (some (90, false)), .mk (.bin .neq) (some 96) [.tmp 93, .tmp 95] (some (90, false)), .mk .pick (some 97) [.tmp 90, .const (.bool true), .tmp 96] none]) (.cond (.tmp 97) (.seq (.reg [.mk .mov (some 6) [.const (.bool false)] none]) .ret) .skip)) (.seq (.seq (.reg [.mk .mov (some 14) [.const (.int .i64 0)] none]) (.block 2 (.loop (.seq (.seq (.reg [.mk .mov (some 98) [.tmp 14] none, .mk .mov (some 99) [.tmp 0] none, .mk (.bin .lss) (some 100) [.tmp 98, .tmp 99] none]) (.cond (.tmp 100) .skip (.exit 2))) (.seq (.block 3 (.seq (.regD [.mk 0 0 .p (.mk (.fieldA 0) (some 103) [.tmp 13] none), .mk 1 0 (.r 0 1) (.mk .load1 (some 104) [.tmp 103] none), .mk 2 0 .p (.mk .mov (some 105) [.tmp 14] none), .mk 3 0 .p (.mk (.indexA 1) (some 106) [.tmp 104, .tmp 105] none), .mk 4 0 (.r 0 15) (.mk .load1 (some 107) [.tmp 106] none), .mk 5 0 .p (.mk .mov (some 108) [.tmp 8] none), .mk 6 0 .p (.mk .mov (some 109) [.tmp 14] none), .mk 7 0 .p (.mk (.indexA 1) (some 110) [.tmp 108, .tmp 109] none), .mk 8 0 (.r 0 224) (.mk .load1 (some 111) [.tmp 110] none), .mk 9 0 .p (.mk (.bin .neq) (some 112) [.tmp 107, .tmp 111] none), .mk 10 0 .p (.mk .mov (some 113) [.tmp 112] none), .mk 11 0 .p (.mk (.fieldA 0) (some 114) [.tmp 7] (some (113, false))), .mk 12 0 (.r 0 4095) (.mk .load1 (some 115) [.tmp 114] (some (113, false))), .mk 13 0 .p (.mk .mov (some 116) [.tmp 14] (some (113, false))), .mk 14 0 .p (.mk (.indexA 1) (some 117) [.tmp 115, .tmp 116] (some (113, false))), .mk 15 0 (.r 0 32767) (.mk .load1 (some 118) [.tmp 117] (some (113, false))), .mk 16 0 .p (.mk (.bin .neq) (some 119) [.tmp 118, .const (.str 0 0)] (some (113, false))), .mk 17 0 .p (.mk .pick (some 120) [.tmp 113, .const (.bool true), .tmp 119] none)] 18) (.cond (.tmp 120) (.seq (.reg [.mk .mov (some 6) [.const (.bool false)] none]) .ret) .skip))) (.reg [.mk .mov (some 101) [.tmp 14] none, .mk (.bin .add) (some 102) [.tmp 101, .const (.int .i64 1)] none, .mk .mov (some 14) [.tmp 102] none])))))) (.seq (.seq (.reg [.mk .mov (some 15) [.const (.int .i64 0)] none]) (.block 4 (.loop (.seq (.seq (.reg [.mk .mov (some 121) [.tmp 15] none, .mk .mov (some 122) [.tmp 9] none, .mk .len (some 123) [.tmp 122] none, .mk (.bin .lss) (some 124) [.tmp 121, .tmp 123] none]) (.cond (.tmp 124) .skip (.exit 4))) (.seq (.block 5 (.seq (.regD [.mk 0 0 .p (.mk (.fieldA 1) (some 127) [.tmp 13] none), .mk 1 0 (.r 0 1) (.mk .load1 (some 128) [.tmp 127] none), .mk 2 0 .p (.mk .mov (some 129) [.tmp 15] none), .mk 3 0 .p (.mk (.indexA 1) (some 130) [.tmp 128, .tmp 129] none), .mk 4 0 (.r 0 15) (.mk .load1 (some 131) [.tmp 130] none), .mk 5 0 .p (.mk .mov (some 132) [.tmp 9] none), .mk 6 0 .p (.mk .mov (some 133) [.tmp 15] none), .mk 7 0 .p (.mk (.indexA 1) (some 134) [.tmp 132, .tmp 133] none), .mk 8 0 (.r 0 224) (.mk .load1 (some 135) [.tmp 134] none), .mk 9 0 .p (.mk (.bin .neq) (some 136) [.tmp 131, .tmp 135] none), .mk 10 0 .p (.mk .mov (some 137) [.tmp 136] none), .mk 11 0 .p (.mk .mov (some 138) [.tmp 1] (some (137, false))), .mk 12 0 .p (.mk .mov (some 139) [.tmp 15] (some (137, false))), .mk 13 0 .p (.mk (.indexA 1) (some 140) [.tmp 138, .tmp 139] (some (137, false))), .mk 14 0 (.r 0 16383) (.mk .load1 (some 141) [.tmp 140] (some (137, false))), .mk 15 0 .p (.mk .mov (some 142) [.tmp 12] (some (137, false))), .mk 16 0 .p (.mk .mov (some 143) [.tmp 15] (some (137, false))), .mk 17 0 .p (.mk (.indexA 1) (some 144) [.tmp 142, .tmp 143] (some (137, false))), .mk 18 0 (.r 0 231423) (.mk .load1 (some 145) [.tmp 144] (some (137, false))), .mk 19 0 .p (.mk (.bin .neq) (some 146) [.tmp 141, .tmp 145] (some (137, false))), .mk 20 0 .p (.mk .pick (some 147) [.tmp 137, .const (.bool true), .tmp 146] none)] 21) (.cond (.tmp 147) (.seq (.reg [.mk .mov (some 6) [.const (.bool false)] none]) .ret) .skip))) (.reg [.mk .mov (some 125) [.tmp 15] none, .mk (.bin .add) (some 126) [.tmp 125, .const (.int .i64 1)] none, .mk .mov (some 15) [.tmp 126] none])))))) (.seq (.reg [.mk .call (some 148) [.const (.func 8 [] [])] none, .mk .mov (some 6) [.tmp 148] none]) .ret)))))))))))) [.tmp 6]
attribute [local irreducible] exec insl exD exC runFn Wk W1 G GD En Op Then Blk Lp Fq FrIs
theorem ovR_all {n nm : Nat} {A : Nat → Int} {sv : Nat → V} {l : List V} (P : V → Prop) (hl : ∀ (i : Nat) (v : V), l[i]? = some v → P v) (hs : ∀ j, P (sv j)) : ∀ (j i : Nat) (v : V), (ovR n nm A sv l j)[i]? = some v → P v
  | 0, i, v, h => hl i v h
  | j + 1, i, v, h => by
    rw [ovR] at h
    split at h
    · rw [List.getElem?_set] at h
      split at h
      · split at h
        · cases h; exact hs j
        · cases h
      · exact ovR_all P hl hs j i v h
    · exact ovR_all P hl hs j i v h
section
variable {quiet : Nat → Bool} {call call' : FuncId → List V → H → R1} {F F' : Nat} {N m : Nat} {L : List Cell}
set_option maxHeartbeats 4000000 in
theorem overs_spec (n : Int) (nm nw : Nat) (hF : 200 < F) (hF' : 200 < F') (A : Nat → Int) (M : Nat → Int) (sn sb : Nat → Nat) (xm xw : V) (Lm Lw : List V)
    (hm : Srs L 1 xm nm Lm) (hw : Srs L 2 xw nw Lw) (hwl : ∀ j, j < nw → Lw[j * 2 + 0]? = some (.int .i64 (A j)) ∧ Lw[j * 2 + 1]? = some (.str (sn j) (sb j)))
    (hml : ∀ j, j < nm → Lm[j]? = some (.int .i64 (M j))) (o2 : ones Lm = true) (hN : N ≤ 100000)
    (h8 : ∀ h, call 8 [] h = .ok (.bool true) h) (h9 : ∀ vs h, call 9 vs h = runFn quiet call' F' w9 vs h) :
    ∀ h, Sto h N m L → W1 (runFn quiet call F w4 [.int .i64 n, xm, xw] h) fun v h' => v = .bool true ∧ ∃ N' m', Sto h' N' m' L := by
  unfold w4
  intro h hs
  have hmN := hs.le
  refine G_fn (by simp) (by first | simp only [Kargs, Nat.zero_add, Nat.reduceAdd] <;> rfl | rfl) ?_ h hs
  by_cases c1 : n < 0
  · refine G_seq ?_
    refine G_reg (by first | simp only [zn, Nat.reduceAdd] <;> rfl | rfl) ?_
    refine g_mov rfl rfl ?_
    refine G_nil ?_
    refine E_then ?_
    refine G_seq ?_
    refine G_seq ?_
    refine G_reg (by first | simp only [zn, Nat.reduceAdd] <;> rfl | rfl) ?_
    refine g_mov rfl rfl ?_
    refine g_lss_t rfl rfl (by omega) ?_
    refine g_mov rfl rfl ?_
    refine G_no rfl rfl rfl ?_
    refine G_no rfl rfl rfl ?_
    refine g_pick_t rfl rfl ?_
    refine g_mov rfl rfl ?_
    refine G_no rfl rfl rfl ?_
    refine G_no rfl rfl rfl ?_
    refine G_no rfl rfl rfl ?_
    refine g_pick_t rfl rfl ?_
    refine g_mov rfl rfl ?_
    refine G_no rfl rfl rfl ?_
    refine G_no rfl rfl rfl ?_
    refine G_no rfl rfl rfl ?_
    refine g_pick_t rfl rfl ?_
    refine G_nil ?_
    refine E_then ?_
    refine G_cond_t rfl ?_
    refine G_seq ?_
    refine G_reg (by first | simp only [zn, Nat.reduceAdd] <;> rfl | rfl) ?_
    refine G_callv rfl rfl h8 ?_
    refine g_mov rfl rfl ?_
    refine G_nil ?_
    refine E_then ?_
    refine G_ret ?_
    refine E_then_ret ?_
    refine E_fq (l := [.bool true]) ⟨_, _, rfl, rfl, rfl⟩ ?_
    exact fun h' hs' => ⟨rfl, _, _, hs'⟩
  by_cases c2 : 50 < n
  · refine G_seq ?_
    refine G_reg (by first | simp only [zn, Nat.reduceAdd] <;> rfl | rfl) ?_
    refine g_mov rfl rfl ?_
    refine G_nil ?_
    refine E_then ?_
    refine G_seq ?_
    refine G_seq ?_
    refine G_reg (by first | simp only [zn, Nat.reduceAdd] <;> rfl | rfl) ?_
    refine g_mov rfl rfl ?_
    refine g_lss_f rfl rfl (by omega) ?_
    refine g_mov rfl rfl ?_
    refine G_yes rfl ?_
    refine g_mov rfl rfl ?_
    refine G_yes rfl ?_
    refine g_gtr_t rfl rfl (by omega) ?_
    refine g_pick_f rfl rfl ?_
    refine g_mov rfl rfl ?_
    refine G_no rfl rfl rfl ?_
    refine G_no rfl rfl rfl ?_
    refine G_no rfl rfl rfl ?_
    refine g_pick_t rfl rfl ?_
    refine g_mov rfl rfl ?_
    refine G_no rfl rfl rfl ?_
    refine G_no rfl rfl rfl ?_
    refine G_no rfl rfl rfl ?_
    refine g_pick_t rfl rfl ?_
    refine G_nil ?_
    refine E_then ?_
    refine G_cond_t rfl ?_
    refine G_seq ?_
    refine G_reg (by first | simp only [zn, Nat.reduceAdd] <;> rfl | rfl) ?_
    refine G_callv rfl rfl h8 ?_
    refine g_mov rfl rfl ?_
    refine G_nil ?_
    refine E_then ?_
    refine G_ret ?_
    refine E_then_ret ?_
    refine E_fq (l := [.bool true]) ⟨_, _, rfl, rfl, rfl⟩ ?_
    exact fun h' hs' => ⟨rfl, _, _, hs'⟩
  by_cases c3 : 60 < nm
  · refine G_seq ?_
    refine G_reg (by first | simp only [zn, Nat.reduceAdd] <;> rfl | rfl) ?_
    refine g_mov rfl rfl ?_
    refine G_nil ?_
    refine E_then ?_
    refine G_seq ?_
    refine G_seq ?_
    refine G_reg (by first | simp only [zn, Nat.reduceAdd] <;> rfl | rfl) ?_
    refine g_mov rfl rfl ?_
    refine g_lss_f rfl rfl (by omega) ?_
    refine g_mov rfl rfl ?_
    refine G_yes rfl ?_
    refine g_mov rfl rfl ?_
    refine G_yes rfl ?_
    refine g_gtr_f rfl rfl (by omega) ?_
    refine g_pick_f rfl rfl ?_
    refine g_mov rfl rfl ?_
    refine G_yes rfl ?_
    refine g_mov rfl rfl ?_
    refine G_yes rfl ?_
    refine g_len_s (size := 1) rfl rfl (by repeat (first | assumption | apply Srs.cons)) ?_
    refine G_yes rfl ?_
    refine g_gtr_t rfl rfl (by omega) ?_
    refine g_pick_f rfl rfl ?_
    refine g_mov rfl rfl ?_
    refine G_no rfl rfl rfl ?_
    refine G_no rfl rfl rfl ?_
    refine G_no rfl rfl rfl ?_
    refine g_pick_t rfl rfl ?_
    refine G_nil ?_
    refine E_then ?_
    refine G_cond_t rfl ?_
    refine G_seq ?_
    refine G_reg (by first | simp only [zn, Nat.reduceAdd] <;> rfl | rfl) ?_
    refine G_callv rfl rfl h8 ?_
    refine g_mov rfl rfl ?_
    refine G_nil ?_
    refine E_then ?_
    refine G_ret ?_
    refine E_then_ret ?_
    refine E_fq (l := [.bool true]) ⟨_, _, rfl, rfl, rfl⟩ ?_
    exact fun h' hs' => ⟨rfl, _, _, hs'⟩
  by_cases c4 : 50 < nw
  · refine G_seq ?_
    refine G_reg (by first | simp only [zn, Nat.reduceAdd] <;> rfl | rfl) ?_
    refine g_mov rfl rfl ?_
    refine G_nil ?_
    refine E_then ?_
    refine G_seq ?_
    refine G_seq ?_
    refine G_reg (by first | simp only [zn, Nat.reduceAdd] <;> rfl | rfl) ?_
    refine g_mov rfl rfl ?_
    refine g_lss_f rfl rfl (by omega) ?_
    refine g_mov rfl rfl ?_
    refine G_yes rfl ?_
    refine g_mov rfl rfl ?_
    refine G_yes rfl ?_
    refine g_gtr_f rfl rfl (by omega) ?_
    refine g_pick_f rfl rfl ?_
    refine g_mov rfl rfl ?_
    refine G_yes rfl ?_
    refine g_mov rfl rfl ?_
    refine G_yes rfl ?_
    refine g_len_s (size := 1) rfl rfl (by repeat (first | assumption | apply Srs.cons)) ?_
    refine G_yes rfl ?_
    refine g_gtr_f rfl rfl (by omega) ?_
    refine g_pick_f rfl rfl ?_
    refine g_mov rfl rfl ?_
    refine G_yes rfl ?_
    refine g_mov rfl rfl ?_
    refine G_yes rfl ?_
    refine g_len_s (size := 2) rfl rfl (by repeat (first | assumption | apply Srs.cons)) ?_
    refine G_yes rfl ?_
    refine g_gtr_t rfl rfl (by omega) ?_
    refine g_pick_f rfl rfl ?_
    refine G_nil ?_
    refine E_then ?_
    refine G_cond_t rfl ?_
    refine G_seq ?_
    refine G_reg (by first | simp only [zn, Nat.reduceAdd] <;> rfl | rfl) ?_
    refine G_callv rfl rfl h8 ?_
    refine g_mov rfl rfl ?_
    refine G_nil ?_
    refine E_then ?_
    refine G_ret ?_
    refine E_then_ret ?_
    refine E_fq (l := [.bool true]) ⟨_, _, rfl, rfl, rfl⟩ ?_
    exact fun h' hs' => ⟨rfl, _, _, hs'⟩
  obtain ⟨nn, rfl⟩ := Int.eq_ofNat_of_zero_le (show 0 ≤ n by omega)
  refine G_seq ?_
  refine G_reg (by first | simp only [zn, Nat.reduceAdd] <;> rfl | rfl) ?_
  refine g_mov rfl rfl ?_
  refine G_nil ?_
  refine E_then ?_
  refine G_seq ?_
  refine G_seq ?_
  refine G_reg (by first | simp only [zn, Nat.reduceAdd] <;> rfl | rfl) ?_
  refine g_mov rfl rfl ?_
  refine g_lss_f rfl rfl (by omega) ?_
  refine g_mov rfl rfl ?_
  refine G_yes rfl ?_
  refine g_mov rfl rfl ?_
  refine G_yes rfl ?_
  refine g_gtr_f rfl rfl (by omega) ?_
  refine g_pick_f rfl rfl ?_
  refine g_mov rfl rfl ?_
  refine G_yes rfl ?_
  refine g_mov rfl rfl ?_
  refine G_yes rfl ?_
  refine g_len_s (size := 1) rfl rfl (by repeat (first | assumption | apply Srs.cons)) ?_
  refine G_yes rfl ?_
  refine g_gtr_f rfl rfl (by omega) ?_
  refine g_pick_f rfl rfl ?_
  refine g_mov rfl rfl ?_
  refine G_yes rfl ?_
  refine g_mov rfl rfl ?_
  refine G_yes rfl ?_
  refine g_len_s (size := 2) rfl rfl (by repeat (first | assumption | apply Srs.cons)) ?_
  refine G_yes rfl ?_
  refine g_gtr_f rfl rfl (by omega) ?_
  refine g_pick_f rfl rfl ?_
  refine G_nil ?_
  refine E_then ?_
  refine G_cond_f rfl ?_
  refine G_skip ?_
  refine E_then ?_
  refine G_seq ?_
  refine G_reg (by first | simp only [zn, Nat.reduceAdd] <;> rfl | rfl) ?_
  refine g_mov rfl rfl ?_
  (refine g_mksl rfl rfl (by rfl) (by rfl) (by omega) (by omega) (by omega) (by omega) (by omega) ?_; intro _)
  refine g_mov rfl rfl ?_
  rename_i cI
  obtain ⟨u1, u2, u3⟩ := hm.shape
  refine g_build rfl rfl (fill2 rfl rfl u1 u2) ?_
  (refine g_box rfl rfl rfl (by first | simp only [zz, Nat.reduceAdd] <;> rfl | rfl) (by omega) (by omega) (by omega) ?_; intro _)
  rename_i c7
  refine g_store (i := 0) rfl (by rfl) rfl (Nat.zero_le _) (by first | simp only [zz, Nat.reduceAdd] <;> rfl | rfl) (ones2 rfl u3) (by rfl) (by first | omega | (simp only [List.length_cons, List.length_nil]; omega) | (simp; omega) | (simp; done)) (by first | simp only [zz, Nat.reduceAdd] <;> rfl | rfl) (by first | simp only [zs] <;> rfl | rfl) ?_
  refine G_nil ?_
  refine E_then ?_
  refine G_seq ?_
  refine G_reg (by first | simp only [zn, Nat.reduceAdd] <;> rfl | rfl) ?_
  (refine g_bslice rfl rfl rfl rfl (by omega) (by omega) (by omega) ?_; intro _)
  refine g_fieldA rfl rfl (by first | simp only [zi, Nat.reduceAdd, Nat.reduceMul] <;> rfl | rfl) ?_
  refine g_load1 rfl rfl (by repeat (first | exact List.Mem.head _ | assumption | apply List.Mem.tail)) (by first | rfl | assumption) ?_
  refine G_app_empty (i := 0) (n := nn) (l := List.replicate nn (.str 0 0)) rfl rfl (.row (by repeat (first | exact List.Mem.head _ | assumption | apply List.Mem.tail)) (by simp) (by simp)) (by rfl) (ones_rep nn _ rfl) (by omega) (by omega) (by omega) (by omega) (by omega) (by first | simp only [zs] <;> rfl | rfl) ?_
  intro bW exW
  refine g_mov rfl rfl ?_
  refine G_nil ?_
  refine E_then ?_
  refine G_seq ?_
  refine G_reg (by first | simp only [zn, Nat.reduceAdd] <;> rfl | rfl) ?_
  (refine g_bslice rfl rfl rfl rfl (by omega) (by omega) (by omega) ?_; intro _)
  refine g_mov rfl rfl ?_
  refine G_app_empty (i := 0) (n := nm) (l := Lm) rfl rfl (by repeat (first | assumption | apply Srs.cons)) (by rfl) o2 (by omega) (by omega) (by omega) (by omega) (by omega) (by first | simp only [zs] <;> rfl | rfl) ?_
  intro bB exB
  refine g_mov rfl rfl ?_
  refine G_nil ?_
  refine E_then ?_
  refine G_seq ?_
  refine G_seq ?_
  refine G_reg (by first | simp only [zn, Nat.reduceAdd] <;> rfl | rfl) ?_
  refine g_mov rfl rfl ?_
  refine G_nil ?_
  refine E_then ?_
  refine G_block ?_
  refine G_loop (α := Nat × Nat) (fun a => a.1 ≤ nw ∧ a.2 ≤ N + 100 + 60 * a.1) (fun a => nw - a.1)
    (fun a => [(10, .int .i64 (a.1 : Int)), (9, .slice bB 0 nm nm 1), (8, .slice bW 0 nn nn 1), (7, .ptr c7 0), (0, .int .i64 (nn : Int)), (1, xm), (2, xw)]) (fun a => a.2) (fun a => a.2)
    (fun a => .row bB 3 (ovR nn nm A (fun _ => .int .i64 0) Lm a.1) ⟨0, false, false, exB⟩ :: .row bW 9 (ovR nn nm A (fun j => .str (sn j) (sb j)) (List.replicate nn (.str 0 0)) a.1) ⟨0, false, false, exW⟩ :: .row c7 32 [.slice cI 0 nn nn 1, xm] nf :: .row cI 9 (List.replicate nn (.str 0 0)) nf :: L)
    ?_ (0, _) ⟨(by first | omega | (dsimp only; omega) | (simp; omega) | (simp; done)), (by first | omega | (dsimp only; omega) | (simp; omega) | (simp; done))⟩ (by first | omega | (dsimp only; omega) | (simp; omega) | (simp; done)) (G_start (by repeat (first | exact trivial | refine ⟨by rfl, ?_⟩)) rfl (by first | omega | (dsimp only; omega) | (simp; omega) | (simp; done)) (Nat.le_refl _) (by simp only [ovR]; exact (by repeat (first | exact List.Sublist.refl _ | exact List.nil_sublist _ | apply List.Sublist.cons_cons | apply List.Sublist.cons))))
  rintro ⟨j, nx⟩ ⟨hj, hnx⟩ J HJ
  dsimp only at hj hnx HJ ⊢
  have lR := ovR_len nn nm A (fun j => .str (sn j) (sb j)) (List.replicate nn (.str 0 0)) j
  have lM := ovR_len nn nm A (fun _ => .int .i64 0) Lm j
  have lr : (List.replicate nn (V.str 0 0)).length = nn := by simp
  have lm := hm.len
  refine G_seq ?_
  refine G_seq ?_
  refine G_reg (by first | simp only [zn, Nat.reduceAdd] <;> rfl | rfl) ?_
  refine g_mov rfl rfl ?_
  refine g_mov rfl rfl ?_
  refine g_len_s (size := 2) rfl rfl (by repeat (first | assumption | apply Srs.cons)) ?_
  refine G_cmp ((j : Int) < (nw : Int)) rfl rfl (op_lss rfl) (fun h1 => ?_) (fun h1 => ?_)
  · refine G_nil ?_
    refine E_then ?_
    refine G_cond_t rfl ?_
    refine G_skip ?_
    refine E_then ?_
    refine G_seq ?_
    refine G_block ?_
    refine G_seq ?_
    refine G_reg (by first | simp only [zn, Nat.reduceAdd] <;> rfl | rfl) ?_
    refine g_mov rfl rfl ?_
    refine g_mov rfl rfl ?_
    refine G_index (n := nw) (l := Lw) rfl rfl (by repeat (first | assumption | apply Srs.cons)) rfl (by omega) ?_
    intro b o e l0 fl hmem hget
    have q0 := hget 0 _ (by omega) (hwl j (by omega)).1
    have q1 := hget 1 _ (by omega) (hwl j (by omega)).2
    have q2 := (List.getElem?_eq_some_iff.1 q1).1
    rw [Nat.add_zero] at q0
    refine g_fieldA rfl rfl (by first | simp only [zi, Nat.reduceAdd, Nat.reduceMul] <;> rfl | rfl) ?_
    refine g_load1 rfl rfl (by repeat (first | exact List.Mem.head _ | assumption | apply List.Mem.tail)) (by first | rfl | assumption) ?_
    refine g_mov rfl rfl ?_
    refine G_nil ?_
    refine E_then ?_
    refine G_seq ?_
    refine G_reg (by first | simp only [zn, Nat.reduceAdd] <;> rfl | rfl) ?_
    refine g_mov rfl rfl ?_
    by_cases c1 : 0 ≤ A j
    · obtain ⟨a, ha⟩ := Int.eq_ofNat_of_zero_le c1
      by_cases c2 : A j < (nn : Int)
      · by_cases c3 : A j < (nm : Int)
        · have eR : ovR nn nm A (fun j => .str (sn j) (sb j)) (List.replicate nn (.str 0 0)) (j + 1) = (ovR nn nm A (fun j => .str (sn j) (sb j)) (List.replicate nn (.str 0 0)) j).set a (.str (sn j) (sb j)) := by rw [ovR, if_pos ⟨c1, c2, c3⟩, ha]; rfl
          have eM : ovR nn nm A (fun _ => .int .i64 0) Lm (j + 1) = (ovR nn nm A (fun _ => .int .i64 0) Lm j).set a (.int .i64 0) := by rw [ovR, if_pos ⟨c1, c2, c3⟩, ha]; rfl
          rw [ha] at c1 c2 c3 ⊢
          refine g_geq_t rfl rfl (by omega) ?_
          refine g_mov rfl rfl ?_
          refine G_yes rfl ?_
          refine g_mov rfl rfl ?_
          refine G_yes rfl ?_
          refine g_mov rfl rfl ?_
          refine G_yes rfl ?_
          refine g_lss_t rfl rfl (by omega) ?_
          refine g_pick_t rfl rfl ?_
          refine g_mov rfl rfl ?_
          refine G_yes rfl ?_
          refine g_mov rfl rfl ?_
          refine G_yes rfl ?_
          refine g_mov rfl rfl ?_
          refine G_yes rfl ?_
          refine g_len rfl rfl ?_
          refine G_yes rfl ?_
          refine g_lss_t rfl rfl (by omega) ?_
          refine g_pick_t rfl rfl ?_
          refine G_nil ?_
          refine E_then ?_
          refine G_cond_t rfl ?_
          refine G_seq ?_
          refine G_reg (by first | simp only [zn, Nat.reduceAdd] <;> rfl | rfl) ?_
          refine g_mov rfl rfl ?_
          refine g_mov rfl rfl ?_
          refine g_mov rfl rfl ?_
          refine g_mov rfl rfl ?_
          refine G_index (n := nw) (l := Lw) rfl rfl (by repeat (first | assumption | apply Srs.cons)) rfl (by omega) ?_
          intro b o e l0 fl hmem hget
          have q1 := hget 1 _ (by omega) (hwl j (by omega)).2
          refine g_fieldA rfl rfl (by first | simp only [zi, Nat.reduceAdd, Nat.reduceMul] <;> rfl | rfl) ?_
          refine g_load1 rfl rfl (by repeat (first | exact List.Mem.head _ | assumption | apply List.Mem.tail)) (by first | rfl | assumption) ?_
          refine g_indexA rfl rfl (by rfl) (by omega) (by first | simp only [zi, Nat.reduceAdd, Nat.reduceMul] <;> rfl | rfl) ?_
          refine g_store1 (i := 1) rfl (by rfl) rfl (Nat.zero_le _) (by first | simp only [zz, Nat.reduceAdd] <;> rfl | rfl) (by rfl) (by first | omega | (simp only [List.length_cons, List.length_nil]; omega) | (simp; omega) | (simp; done)) (by first | simp only [zs] <;> rfl | rfl) (by first | simp only [zs] <;> rfl | rfl) ?_
          refine G_nil ?_
          refine E_then ?_
          refine G_reg (by first | simp only [zn, Nat.reduceAdd] <;> rfl | rfl) ?_
          refine g_mov rfl rfl ?_
          refine g_mov rfl rfl ?_
          refine g_indexA rfl rfl (by rfl) (by omega) (by first | simp only [zi, Nat.reduceAdd, Nat.reduceMul] <;> rfl | rfl) ?_
          refine g_store1 (i := 0) rfl (by rfl) rfl (Nat.zero_le _) (by first | simp only [zz, Nat.reduceAdd] <;> rfl | rfl) (by rfl) (by first | omega | (simp only [List.length_cons, List.length_nil]; omega) | (simp; omega) | (simp; done)) (by first | simp only [zs] <;> rfl | rfl) (by first | simp only [zs] <;> rfl | rfl) ?_
          refine G_nil ?_
          refine E_blk ?_
          refine E_then ?_
          refine G_reg (by first | simp only [zn, Nat.reduceAdd] <;> rfl | rfl) ?_
          refine g_mov rfl rfl ?_
          refine g_add rfl rfl (by rfl) (by omega) (by omega) ?_
          refine g_mov rfl rfl ?_
          refine G_nil ?_
          refine E_again (HJ (j + 1, _) (by first | omega | (dsimp only; omega) | (simp; omega) | (simp; done)) ⟨(by first | omega | (dsimp only; omega) | (simp; omega) | (simp; done)), (by first | omega | (dsimp only; omega) | (simp; omega) | (simp; done))⟩) (by repeat (first | exact trivial | refine ⟨by rfl, ?_⟩)) rfl (by first | omega | (dsimp only; omega) | (simp; omega) | (simp; done)) (Nat.le_refl _) (by rw [eR, eM]; exact (by repeat (first | exact List.Sublist.refl _ | exact List.nil_sublist _ | apply List.Sublist.cons_cons | apply List.Sublist.cons)))
        · have eR : ovR nn nm A (fun j => .str (sn j) (sb j)) (List.replicate nn (.str 0 0)) (j + 1) = ovR nn nm A (fun j => .str (sn j) (sb j)) (List.replicate nn (.str 0 0)) j := by simp [ovR, c3]
          have eM : ovR nn nm A (fun _ => .int .i64 0) Lm (j + 1) = ovR nn nm A (fun _ => .int .i64 0) Lm j := by simp [ovR, c3]
          refine g_geq_t rfl rfl (by omega) ?_
          refine g_mov rfl rfl ?_
          refine G_yes rfl ?_
          refine g_mov rfl rfl ?_
          refine G_yes rfl ?_
          refine g_mov rfl rfl ?_
          refine G_yes rfl ?_
          refine g_lss_t rfl rfl (by omega) ?_
          refine g_pick_t rfl rfl ?_
          refine g_mov rfl rfl ?_
          refine G_yes rfl ?_
          refine g_mov rfl rfl ?_
          refine G_yes rfl ?_
          refine g_mov rfl rfl ?_
          refine G_yes rfl ?_
          refine g_len rfl rfl ?_
          refine G_yes rfl ?_
          refine g_lss_f rfl rfl (by omega) ?_
          refine g_pick_t rfl rfl ?_
          refine G_nil ?_
          refine E_then ?_
          refine G_cond_f rfl ?_
          refine G_skip ?_
          refine E_blk ?_
          refine E_then ?_
          refine G_reg (by first | simp only [zn, Nat.reduceAdd] <;> rfl | rfl) ?_
          refine g_mov rfl rfl ?_
          refine g_add rfl rfl (by rfl) (by omega) (by omega) ?_
          refine g_mov rfl rfl ?_
          refine G_nil ?_
          refine E_again (HJ (j + 1, _) (by first | omega | (dsimp only; omega) | (simp; omega) | (simp; done)) ⟨(by first | omega | (dsimp only; omega) | (simp; omega) | (simp; done)), (by first | omega | (dsimp only; omega) | (simp; omega) | (simp; done))⟩) (by repeat (first | exact trivial | refine ⟨by rfl, ?_⟩)) rfl (by first | omega | (dsimp only; omega) | (simp; omega) | (simp; done)) (Nat.le_refl _) (by rw [eR, eM]; exact (by repeat (first | exact List.Sublist.refl _ | exact List.nil_sublist _ | apply List.Sublist.cons_cons | apply List.Sublist.cons)))
      · have eR : ovR nn nm A (fun j => .str (sn j) (sb j)) (List.replicate nn (.str 0 0)) (j + 1) = ovR nn nm A (fun j => .str (sn j) (sb j)) (List.replicate nn (.str 0 0)) j := by simp [ovR, c2]
        have eM : ovR nn nm A (fun _ => .int .i64 0) Lm (j + 1) = ovR nn nm A (fun _ => .int .i64 0) Lm j := by simp [ovR, c2]
        refine g_geq_t rfl rfl (by omega) ?_
        refine g_mov rfl rfl ?_
        refine G_yes rfl ?_
        refine g_mov rfl rfl ?_
        refine G_yes rfl ?_
        refine g_mov rfl rfl ?_
        refine G_yes rfl ?_
        refine g_lss_f rfl rfl (by omega) ?_
        refine g_pick_t rfl rfl ?_
        refine g_mov rfl rfl ?_
        refine G_no rfl rfl rfl ?_
        refine G_no rfl rfl rfl ?_
        refine G_no rfl rfl rfl ?_
        refine G_no rfl rfl rfl ?_
        refine g_pick_f rfl rfl ?_
        refine G_nil ?_
        refine E_then ?_
        refine G_cond_f rfl ?_
        refine G_skip ?_
        refine E_blk ?_
        refine E_then ?_
        refine G_reg (by first | simp only [zn, Nat.reduceAdd] <;> rfl | rfl) ?_
        refine g_mov rfl rfl ?_
        refine g_add rfl rfl (by rfl) (by omega) (by omega) ?_
        refine g_mov rfl rfl ?_
        refine G_nil ?_
        refine E_again (HJ (j + 1, _) (by first | omega | (dsimp only; omega) | (simp; omega) | (simp; done)) ⟨(by first | omega | (dsimp only; omega) | (simp; omega) | (simp; done)), (by first | omega | (dsimp only; omega) | (simp; omega) | (simp; done))⟩) (by repeat (first | exact trivial | refine ⟨by rfl, ?_⟩)) rfl (by first | omega | (dsimp only; omega) | (simp; omega) | (simp; done)) (Nat.le_refl _) (by rw [eR, eM]; exact (by repeat (first | exact List.Sublist.refl _ | exact List.nil_sublist _ | apply List.Sublist.cons_cons | apply List.Sublist.cons)))
    · have eR : ovR nn nm A (fun j => .str (sn j) (sb j)) (List.replicate nn (.str 0 0)) (j + 1) = ovR nn nm A (fun j => .str (sn j) (sb j)) (List.replicate nn (.str 0 0)) j := by simp [ovR, c1]
      have eM : ovR nn nm A (fun _ => .int .i64 0) Lm (j + 1) = ovR nn nm A (fun _ => .int .i64 0) Lm j := by simp [ovR, c1]
      refine g_geq_f rfl rfl (by omega) ?_
      refine g_mov rfl rfl ?_
      refine G_no rfl rfl rfl ?_
      refine G_no rfl rfl rfl ?_
      refine G_no rfl rfl rfl ?_
      refine g_pick_f rfl rfl ?_
      refine g_mov rfl rfl ?_
      refine G_no rfl rfl rfl ?_
      refine G_no rfl rfl rfl ?_
      refine G_no rfl rfl rfl ?_
      refine G_no rfl rfl rfl ?_
      refine g_pick_f rfl rfl ?_
      refine G_nil ?_
      refine E_then ?_
      refine G_cond_f rfl ?_
      refine G_skip ?_
      refine E_blk ?_
      refine E_then ?_
      refine G_reg (by first | simp only [zn, Nat.reduceAdd] <;> rfl | rfl) ?_
      refine g_mov rfl rfl ?_
      refine g_add rfl rfl (by rfl) (by omega) (by omega) ?_
      refine g_mov rfl rfl ?_
      refine G_nil ?_
      refine E_again (HJ (j + 1, _) (by first | omega | (dsimp only; omega) | (simp; omega) | (simp; done)) ⟨(by first | omega | (dsimp only; omega) | (simp; omega) | (simp; done)), (by first | omega | (dsimp only; omega) | (simp; omega) | (simp; done))⟩) (by repeat (first | exact trivial | refine ⟨by rfl, ?_⟩)) rfl (by first | omega | (dsimp only; omega) | (simp; omega) | (simp; done)) (Nat.le_refl _) (by rw [eR, eM]; exact (by repeat (first | exact List.Sublist.refl _ | exact List.nil_sublist _ | apply List.Sublist.cons_cons | apply List.Sublist.cons)))
  clear HJ
  obtain rfl : j = nw := by omega
  refine G_nil ?_
  refine E_then ?_
  refine G_cond_f rfl ?_
  refine G_exit ?_
  refine E_then_exit ?_
  refine E_lp_exit ?_
  refine E_blk_eq ?_
  refine E_then ?_
  refine G_seq ?_
  refine G_reg (by first | simp only [zn, Nat.reduceAdd] <;> rfl | rfl) ?_
  (refine g_bslice rfl rfl rfl rfl (by omega) (by omega) (by omega) ?_; intro _)
  refine g_mov rfl rfl ?_
  refine G_app_empty (i := 0) (n := nm) (l := Lm) rfl rfl (by repeat (first | assumption | apply Srs.cons)) (by rfl) o2 (by omega) (by omega) (by omega) (by omega) (by omega) (by first | simp only [zs] <;> rfl | rfl) ?_
  intro bZ exZ
  refine g_mov rfl rfl ?_
  refine G_nil ?_
  refine E_then ?_
  refine G_seq ?_
  refine G_reg (by first | simp only [zn, Nat.reduceAdd] <;> rfl | rfl) ?_
  refine g_loadn rfl rfl (by repeat (first | exact List.Mem.head _ | assumption | apply List.Mem.tail)) (by first | omega | (simp only [List.length_cons, List.length_nil]; omega) | (simp; omega) | (simp; done)) (by first | exact take2 (by assumption) (by assumption) | rfl) ?_
  refine g_mov rfl rfl ?_
  refine G_res _ (show _ ≤ nx + 4 + 4 + 3 by omega) (by omega) (by omega) ?_
  refine G_call rfl rfl (fun h hs => W1.eq (h9 _ h) (over_spec (F := F') nn nm j (by omega) A sn sb (.slice cI 0 nn nn 1) xm xw (List.replicate nn (.str 0 0)) Lm Lw (.row (by repeat (first | exact List.Mem.head _ | assumption | apply List.Mem.tail)) (by simp) (by simp)) (by repeat (first | assumption | apply Srs.cons)) (by repeat (first | assumption | apply Srs.cons)) hwl (ones_rep nn _ rfl) o2 (by omega) (by omega) (by omega) (by omega) h hs)) ?_
  rintro _ h1 ⟨bO, bP, exO, exP, N1, m1, rfl, hN1, hs1⟩
  have hm1 := hs1.le
  refine ⟨_, _, _, hs1, ?_⟩
  (refine g_box_h (i := 2) rfl rfl (by rfl) rfl (by first | simp only [zz, Nat.reduceAdd] <;> rfl | rfl) (by first | simp only [zs] <;> rfl | rfl) ?_; intro _)
  refine g_store (i := 0) rfl (by rfl) rfl (Nat.zero_le _) (by first | simp only [zz, Nat.reduceAdd] <;> rfl | rfl) (by rfl) (by rfl) (by first | omega | (simp only [List.length_cons, List.length_nil]; omega) | (simp; omega) | (simp; done)) (by first | simp only [zz, Nat.reduceAdd] <;> rfl | rfl) (by first | simp only [zs] <;> rfl | rfl) ?_
  refine G_nil ?_
  refine E_then ?_
  refine G_seq ?_
  refine G_seq ?_
  refine G_reg (by first | simp only [zn, Nat.reduceAdd] <;> rfl | rfl) ?_
  refine g_fieldA rfl rfl (by first | simp only [zi, Nat.reduceAdd, Nat.reduceMul] <;> rfl | rfl) ?_
  refine g_load1 rfl rfl (by repeat (first | exact List.Mem.head _ | assumption | apply List.Mem.tail)) (by first | rfl | assumption) ?_
  refine g_len rfl rfl ?_
  refine g_mov rfl rfl ?_
  refine g_neq_f rfl rfl (by omega) ?_
  refine g_mov rfl rfl ?_
  refine G_yes rfl ?_
  refine g_fieldA rfl rfl (by first | simp only [zi, Nat.reduceAdd, Nat.reduceMul] <;> rfl | rfl) ?_
  refine G_yes rfl ?_
  refine g_load1 rfl rfl (by repeat (first | exact List.Mem.head _ | assumption | apply List.Mem.tail)) (by first | rfl | assumption) ?_
  refine G_yes rfl ?_
  refine g_len rfl rfl ?_
  refine G_yes rfl ?_
  refine g_mov rfl rfl ?_
  refine G_yes rfl ?_
  refine g_len rfl rfl ?_
  refine G_yes rfl ?_
  refine g_neq_f rfl rfl (by omega) ?_
  refine g_pick_f rfl rfl ?_
  refine G_nil ?_
  refine E_then ?_
  refine G_cond_f rfl ?_
  refine G_skip ?_
  refine E_then ?_
  refine G_seq ?_
  refine G_seq ?_
  refine G_reg (by first | simp only [zn, Nat.reduceAdd] <;> rfl | rfl) ?_
  refine g_mov rfl rfl ?_
  refine G_nil ?_
  refine E_then ?_
  refine G_block ?_
  rename_i c13
  have hR : ∀ i, i < nn → ∃ a b, (ovR nn nm A (fun j => .str (sn j) (sb j)) (List.replicate nn (.str 0 0)) j)[i]? = some (.str a b) := fun i hi => by
    have hl : i < (ovR nn nm A (fun j => .str (sn j) (sb j)) (List.replicate nn (.str 0 0)) j).length := by rw [ovR_len]; simpa using hi
    obtain ⟨a, b, e⟩ := ovR_all (P := fun v => ∃ a b, v = .str a b) (fun i v h => by
      rw [List.getElem?_replicate] at h
      split at h
      · cases h; exact ⟨0, 0, rfl⟩
      · cases h) (fun j => ⟨sn j, sb j, rfl⟩) j i _ (List.getElem?_eq_getElem hl)
    exact ⟨a, b, by rw [List.getElem?_eq_getElem hl, e]⟩
  have hM : ∀ i, i < nm → ∃ x, (ovR nn nm A (fun _ => .int .i64 0) Lm j)[i]? = some (.int .i64 x) := fun i hi => by
    have hl : i < (ovR nn nm A (fun _ => .int .i64 0) Lm j).length := by rw [ovR_len, lm]; omega
    obtain ⟨a, e⟩ := ovR_all (P := fun v => ∃ a, v = .int .i64 a) (fun i v h => by
      have hi : i < nm := by have := (List.getElem?_eq_some_iff.1 h).1; omega
      rw [hml i hi] at h
      cases h; exact ⟨_, rfl⟩) (fun j => ⟨0, rfl⟩) j i _ (List.getElem?_eq_getElem hl)
    exact ⟨a, by rw [List.getElem?_eq_getElem hl, e]⟩
  refine G_loop (α := Nat × Nat) (fun a => a.1 ≤ nn ∧ a.2 ≤ N + 20000 + 60 * a.1) (fun a => nn - a.1)
    (fun a => [(14, .int .i64 (a.1 : Int)), (13, .ptr c13 0), (12, .slice bZ 0 nm nm 1), (9, .slice bB 0 nm nm 1), (8, .slice bW 0 nn nn 1), (7, .ptr c7 0), (0, .int .i64 (nn : Int)), (1, xm)]) (fun a => a.2) (fun a => a.2)
    (fun _ => .row c13 32 [.slice bO 0 nn nn 1, .slice bP 0 nm nm 1] nf :: .row bO 9 (ovR nn nm A (fun j => .str (sn j) (sb j)) (List.replicate nn (.str 0 0)) j) ⟨0, false, false, exO⟩ :: .row bP 3 (ovR nn nm A (fun _ => .int .i64 0) Lm j) ⟨0, false, false, exP⟩ ::
      .row bZ 3 Lm ⟨0, false, false, exZ⟩ :: .row bB 3 (ovR nn nm A (fun _ => .int .i64 0) Lm j) ⟨0, false, false, exB⟩ :: .row bW 9 (ovR nn nm A (fun j => .str (sn j) (sb j)) (List.replicate nn (.str 0 0)) j) ⟨0, false, false, exW⟩ ::
      .row c7 32 [.slice cI 0 nn nn 1, xm] nf :: .row cI 9 (List.replicate nn (.str 0 0)) nf :: L)
    ?_ (0, _) ⟨(by first | omega | (dsimp only; omega) | (simp; omega) | (simp; done)), (by first | omega | (dsimp only; omega) | (simp; omega) | (simp; done))⟩ (by first | omega | (dsimp only; omega) | (simp; omega) | (simp; done)) (G_start (by repeat (first | exact trivial | refine ⟨by rfl, ?_⟩)) rfl (by first | omega | (dsimp only; omega) | (simp; omega) | (simp; done)) (Nat.le_refl _) (by repeat (first | exact List.Sublist.refl _ | exact List.nil_sublist _ | apply List.Sublist.cons_cons | apply List.Sublist.cons)))
  · rintro ⟨i, nx2⟩ ⟨hi, hnx2⟩ J HJ
    dsimp only at hi hnx2 HJ ⊢
    refine G_seq ?_
    refine G_seq ?_
    refine G_reg (by first | simp only [zn, Nat.reduceAdd] <;> rfl | rfl) ?_
    refine g_mov rfl rfl ?_
    refine g_mov rfl rfl ?_
    refine G_cmp ((i : Int) < (nn : Int)) rfl rfl (op_lss rfl) (fun h2 => ?_) (fun h2 => ?_)
    · obtain ⟨a, b, hRi⟩ := hR i (by omega)
      have hI : (List.replicate nn (V.str 0 0))[i]? = some (.str 0 0) := by rw [List.getElem?_replicate, if_pos (by omega)]
      refine G_nil ?_
      refine E_then ?_
      refine G_cond_t rfl ?_
      refine G_skip ?_
      refine E_then ?_
      refine G_seq ?_
      refine G_block ?_
      refine G_seq ?_
      refine G_regD ?_
      refine d_fieldA rfl rfl (by first | simp only [zi, Nat.reduceAdd, Nat.reduceMul] <;> rfl | rfl) ?_
      refine d_load1 rfl rfl (by repeat (first | exact SetR.nil | (apply SetR.no; decide) | (apply SetR.yes; decide) | omega)) (by repeat (first | exact List.Mem.head _ | assumption | apply List.Mem.tail)) (by first | rfl | assumption) (by repeat (first | exact Old.low rfl | refine Old.step rfl (by repeat (first | exact SetR.nil | (apply SetR.no; decide) | (apply SetR.yes; decide) | omega)) (op_load1 (by repeat (first | exact List.Mem.head _ | assumption | apply List.Mem.tail)) (by first | rfl | assumption)) (by first | exact veq_bool _ | exact veq_int _ _ | exact veq_str _ _ | exact veq_ptr _ _ | exact veq_slice _ _ _ _ _ | exact veq_map _ | rfl | exact veq_srs (by assumption)) ?_)) ?_
      refine d_mov rfl rfl ?_
      refine d_indexA rfl rfl (by rfl) (by omega) (by first | simp only [zi, Nat.reduceAdd, Nat.reduceMul] <;> rfl | rfl) ?_
      refine d_load1 rfl rfl (by repeat (first | exact SetR.nil | (apply SetR.no; decide) | (apply SetR.yes; decide) | omega)) (by repeat (first | exact List.Mem.head _ | assumption | apply List.Mem.tail)) (by first | rfl | assumption) (by repeat (first | exact Old.low rfl | refine Old.step rfl (by repeat (first | exact SetR.nil | (apply SetR.no; decide) | (apply SetR.yes; decide) | omega)) (op_load1 (by repeat (first | exact List.Mem.head _ | assumption | apply List.Mem.tail)) (by first | rfl | assumption)) (by first | exact veq_bool _ | exact veq_int _ _ | exact veq_str _ _ | exact veq_ptr _ _ | exact veq_slice _ _ _ _ _ | exact veq_map _ | rfl | exact veq_srs (by assumption)) ?_)) ?_
      refine d_mov rfl rfl ?_
      refine d_mov rfl rfl ?_
      refine d_indexA rfl rfl (by rfl) (by omega) (by first | simp only [zi, Nat.reduceAdd, Nat.reduceMul] <;> rfl | rfl) ?_
      refine d_load1 rfl rfl (by repeat (first | exact SetR.nil | (apply SetR.no; decide) | (apply SetR.yes; decide) | omega)) (by repeat (first | exact List.Mem.head _ | assumption | apply List.Mem.tail)) (by first | rfl | assumption) (by repeat (first | exact Old.low rfl | refine Old.step rfl (by repeat (first | exact SetR.nil | (apply SetR.no; decide) | (apply SetR.yes; decide) | omega)) (op_load1 (by repeat (first | exact List.Mem.head _ | assumption | apply List.Mem.tail)) (by first | rfl | assumption)) (by first | exact veq_bool _ | exact veq_int _ _ | exact veq_str _ _ | exact veq_ptr _ _ | exact veq_slice _ _ _ _ _ | exact veq_map _ | rfl | exact veq_srs (by assumption)) ?_)) ?_
      refine d_sneq_f rfl rfl ?_
      refine d_mov rfl rfl ?_
      refine D_yes rfl ?_
      refine d_fieldA rfl rfl (by first | simp only [zi, Nat.reduceAdd, Nat.reduceMul] <;> rfl | rfl) ?_
      refine D_yes rfl ?_
      refine d_load1 rfl rfl (by repeat (first | exact SetR.nil | (apply SetR.no; decide) | (apply SetR.yes; decide) | omega)) (by repeat (first | exact List.Mem.head _ | assumption | apply List.Mem.tail)) (by first | rfl | assumption) (by repeat (first | exact Old.low rfl | refine Old.step rfl (by repeat (first | exact SetR.nil | (apply SetR.no; decide) | (apply SetR.yes; decide) | omega)) (op_load1 (by repeat (first | exact List.Mem.head _ | assumption | apply List.Mem.tail)) (by first | rfl | assumption)) (by first | exact veq_bool _ | exact veq_int _ _ | exact veq_str _ _ | exact veq_ptr _ _ | exact veq_slice _ _ _ _ _ | exact veq_map _ | rfl | exact veq_srs (by assumption)) ?_)) ?_
      refine D_yes rfl ?_
      refine d_mov rfl rfl ?_
      refine D_yes rfl ?_
      refine d_indexA rfl rfl (by rfl) (by omega) (by first | simp only [zi, Nat.reduceAdd, Nat.reduceMul] <;> rfl | rfl) ?_
      refine D_yes rfl ?_
      refine d_load1 rfl rfl (by repeat (first | exact SetR.nil | (apply SetR.no; decide) | (apply SetR.yes; decide) | omega)) (by repeat (first | exact List.Mem.head _ | assumption | apply List.Mem.tail)) (by first | rfl | assumption) (by repeat (first | exact Old.low rfl | refine Old.step rfl (by repeat (first | exact SetR.nil | (apply SetR.no; decide) | (apply SetR.yes; decide) | omega)) (op_load1 (by repeat (first | exact List.Mem.head _ | assumption | apply List.Mem.tail)) (by first | rfl | assumption)) (by first | exact veq_bool _ | exact veq_int _ _ | exact veq_str _ _ | exact veq_ptr _ _ | exact veq_slice _ _ _ _ _ | exact veq_map _ | rfl | exact veq_srs (by assumption)) ?_)) ?_
      refine D_yes rfl ?_
      refine d_sneq_f rfl rfl ?_
      refine d_pick_f rfl rfl ?_
      refine D_nil (by first | simp only [zn, Nat.reduceAdd] <;> rfl | rfl) (by repeat (first | exact SetR.nil | (apply SetR.no; decide) | (apply SetR.yes; decide) | omega)) ?_
      refine E_then ?_
      refine G_cond_f rfl ?_
      refine G_skip ?_
      refine E_blk ?_
      refine E_then ?_
      refine G_reg (by first | simp only [zn, Nat.reduceAdd] <;> rfl | rfl) ?_
      refine g_mov rfl rfl ?_
      refine g_add rfl rfl (by rfl) (by omega) (by omega) ?_
      refine g_mov rfl rfl ?_
      refine G_nil ?_
      refine E_again (HJ (i + 1, _) (by first | omega | (dsimp only; omega) | (simp; omega) | (simp; done)) ⟨(by first | omega | (dsimp only; omega) | (simp; omega) | (simp; done)), (by first | omega | (dsimp only; omega) | (simp; omega) | (simp; done))⟩) (by repeat (first | exact trivial | refine ⟨by rfl, ?_⟩)) rfl (by first | omega | (dsimp only; omega) | (simp; omega) | (simp; done)) (Nat.le_refl _) (by repeat (first | exact List.Sublist.refl _ | exact List.nil_sublist _ | apply List.Sublist.cons_cons | apply List.Sublist.cons))
    · clear HJ
      refine G_nil ?_
      refine E_then ?_
      refine G_cond_f rfl ?_
      refine G_exit ?_
      refine E_then_exit ?_
      refine E_lp_exit ?_
      refine E_blk_eq ?_
      refine E_then ?_
      refine G_seq ?_
      refine G_seq ?_
      refine G_reg (by first | simp only [zn, Nat.reduceAdd] <;> rfl | rfl) ?_
      refine g_mov rfl rfl ?_
      refine G_nil ?_
      refine E_then ?_
      refine G_block ?_
      refine G_loop (α := Nat × Nat) (fun a => a.1 ≤ nm ∧ a.2 ≤ N + 30000 + 60 * a.1) (fun a => nm - a.1)
        (fun a => [(15, .int .i64 (a.1 : Int)), (13, .ptr c13 0), (12, .slice bZ 0 nm nm 1), (9, .slice bB 0 nm nm 1), (1, xm)]) (fun a => a.2) (fun a => a.2)
        (fun _ => .row c13 32 [.slice bO 0 nn nn 1, .slice bP 0 nm nm 1] nf :: .row bP 3 (ovR nn nm A (fun _ => .int .i64 0) Lm j) ⟨0, false, false, exP⟩ ::
          .row bZ 3 Lm ⟨0, false, false, exZ⟩ :: .row bB 3 (ovR nn nm A (fun _ => .int .i64 0) Lm j) ⟨0, false, false, exB⟩ :: L)
        ?_ (0, _) ⟨(by first | omega | (dsimp only; omega) | (simp; omega) | (simp; done)), (by first | omega | (dsimp only; omega) | (simp; omega) | (simp; done))⟩ (by first | omega | (dsimp only; omega) | (simp; omega) | (simp; done)) (G_start (by repeat (first | exact trivial | refine ⟨by rfl, ?_⟩)) rfl (by first | omega | (dsimp only; omega) | (simp; omega) | (simp; done)) (Nat.le_refl _) (by repeat (first | exact List.Sublist.refl _ | exact List.nil_sublist _ | apply List.Sublist.cons_cons | apply List.Sublist.cons)))
      rintro ⟨q, nx3⟩ ⟨hq, hnx3⟩ J HJ
      dsimp only at hq hnx3 HJ ⊢
      refine G_seq ?_
      refine G_seq ?_
      refine G_reg (by first | simp only [zn, Nat.reduceAdd] <;> rfl | rfl) ?_
      refine g_mov rfl rfl ?_
      refine g_mov rfl rfl ?_
      refine g_len rfl rfl ?_
      refine G_cmp ((q : Int) < (nm : Int)) rfl rfl (op_lss rfl) (fun h3 => ?_) (fun h3 => ?_)
      · obtain ⟨x, hMi⟩ := hM q (by omega)
        have hZ := hml q (by omega)
        refine G_nil ?_
        refine E_then ?_
        refine G_cond_t rfl ?_
        refine G_skip ?_
        refine E_then ?_
        refine G_seq ?_
        refine G_block ?_
        refine G_seq ?_
        refine G_regD ?_
        refine d_fieldA rfl rfl (by first | simp only [zi, Nat.reduceAdd, Nat.reduceMul] <;> rfl | rfl) ?_
        refine d_load1 rfl rfl (by repeat (first | exact SetR.nil | (apply SetR.no; decide) | (apply SetR.yes; decide) | omega)) (by repeat (first | exact List.Mem.head _ | assumption | apply List.Mem.tail)) (by first | rfl | assumption) (by repeat (first | exact Old.low rfl | refine Old.step rfl (by repeat (first | exact SetR.nil | (apply SetR.no; decide) | (apply SetR.yes; decide) | omega)) (op_load1 (by repeat (first | exact List.Mem.head _ | assumption | apply List.Mem.tail)) (by first | rfl | assumption)) (by first | exact veq_bool _ | exact veq_int _ _ | exact veq_str _ _ | exact veq_ptr _ _ | exact veq_slice _ _ _ _ _ | exact veq_map _ | rfl | exact veq_srs (by assumption)) ?_)) ?_
        refine d_mov rfl rfl ?_
        refine d_indexA rfl rfl (by rfl) (by omega) (by first | simp only [zi, Nat.reduceAdd, Nat.reduceMul] <;> rfl | rfl) ?_
        refine d_load1 rfl rfl (by repeat (first | exact SetR.nil | (apply SetR.no; decide) | (apply SetR.yes; decide) | omega)) (by repeat (first | exact List.Mem.head _ | assumption | apply List.Mem.tail)) (by first | rfl | assumption) (by repeat (first | exact Old.low rfl | refine Old.step rfl (by repeat (first | exact SetR.nil | (apply SetR.no; decide) | (apply SetR.yes; decide) | omega)) (op_load1 (by repeat (first | exact List.Mem.head _ | assumption | apply List.Mem.tail)) (by first | rfl | assumption)) (by first | exact veq_bool _ | exact veq_int _ _ | exact veq_str _ _ | exact veq_ptr _ _ | exact veq_slice _ _ _ _ _ | exact veq_map _ | rfl | exact veq_srs (by assumption)) ?_)) ?_
        refine d_mov rfl rfl ?_
        refine d_mov rfl rfl ?_
        refine d_indexA rfl rfl (by rfl) (by omega) (by first | simp only [zi, Nat.reduceAdd, Nat.reduceMul] <;> rfl | rfl) ?_
        refine d_load1 rfl rfl (by repeat (first | exact SetR.nil | (apply SetR.no; decide) | (apply SetR.yes; decide) | omega)) (by repeat (first | exact List.Mem.head _ | assumption | apply List.Mem.tail)) (by first | rfl | assumption) (by repeat (first | exact Old.low rfl | refine Old.step rfl (by repeat (first | exact SetR.nil | (apply SetR.no; decide) | (apply SetR.yes; decide) | omega)) (op_load1 (by repeat (first | exact List.Mem.head _ | assumption | apply List.Mem.tail)) (by first | rfl | assumption)) (by first | exact veq_bool _ | exact veq_int _ _ | exact veq_str _ _ | exact veq_ptr _ _ | exact veq_slice _ _ _ _ _ | exact veq_map _ | rfl | exact veq_srs (by assumption)) ?_)) ?_
        refine d_neq_f rfl rfl (by omega) ?_
        refine d_mov rfl rfl ?_
        refine D_yes rfl ?_
        refine d_mov rfl rfl ?_
        refine D_yes rfl ?_
        refine d_mov rfl rfl ?_
        refine D_yes rfl ?_
        refine D_index (n := nm) (l := Lm) rfl rfl (by repeat (first | assumption | apply Srs.cons)) rfl (by omega) ?_
        intro b o e l0 fl hmem hget
        have q0 : l0[o]? = some (.int .i64 (M q)) := by
          have := hget 0 _ (by omega) (by rw [Nat.mul_one, Nat.add_zero]; exact hml q (by omega))
          rwa [Nat.add_zero] at this
        refine D_yes rfl ?_
        refine d_load1 rfl rfl (by repeat (first | exact SetR.nil | (apply SetR.no; decide) | (apply SetR.yes; decide) | omega)) (by repeat (first | exact List.Mem.head _ | assumption | apply List.Mem.tail)) (by first | rfl | assumption) (by repeat (first | exact Old.low rfl | refine Old.step rfl (by repeat (first | exact SetR.nil | (apply SetR.no; decide) | (apply SetR.yes; decide) | omega)) (op_load1 (by repeat (first | exact List.Mem.head _ | assumption | apply List.Mem.tail)) (by first | rfl | assumption)) (by first | exact veq_bool _ | exact veq_int _ _ | exact veq_str _ _ | exact veq_ptr _ _ | exact veq_slice _ _ _ _ _ | exact veq_map _ | rfl | exact veq_srs (by assumption)) ?_)) ?_
        refine D_yes rfl ?_
        refine d_mov rfl rfl ?_
        refine D_yes rfl ?_
        refine d_mov rfl rfl ?_
        refine D_yes rfl ?_
        refine d_indexA rfl rfl (by rfl) (by omega) (by first | simp only [zi, Nat.reduceAdd, Nat.reduceMul] <;> rfl | rfl) ?_
        refine D_yes rfl ?_
        refine d_load1 rfl rfl (by repeat (first | exact SetR.nil | (apply SetR.no; decide) | (apply SetR.yes; decide) | omega)) (by repeat (first | exact List.Mem.head _ | assumption | apply List.Mem.tail)) (by first | rfl | assumption) (by repeat (first | exact Old.low rfl | refine Old.step rfl (by repeat (first | exact SetR.nil | (apply SetR.no; decide) | (apply SetR.yes; decide) | omega)) (op_load1 (by repeat (first | exact List.Mem.head _ | assumption | apply List.Mem.tail)) (by first | rfl | assumption)) (by first | exact veq_bool _ | exact veq_int _ _ | exact veq_str _ _ | exact veq_ptr _ _ | exact veq_slice _ _ _ _ _ | exact veq_map _ | rfl | exact veq_srs (by assumption)) ?_)) ?_
        refine D_yes rfl ?_
        refine d_neq_f rfl rfl (by omega) ?_
        refine d_pick_f rfl rfl ?_
        refine D_nil (by first | simp only [zn, Nat.reduceAdd] <;> rfl | rfl) (by repeat (first | exact SetR.nil | (apply SetR.no; decide) | (apply SetR.yes; decide) | omega)) ?_
        refine E_then ?_
        refine G_cond_f rfl ?_
        refine G_skip ?_
        refine E_blk ?_
        refine E_then ?_
        refine G_reg (by first | simp only [zn, Nat.reduceAdd] <;> rfl | rfl) ?_
        refine g_mov rfl rfl ?_
        refine g_add rfl rfl (by rfl) (by omega) (by omega) ?_
        refine g_mov rfl rfl ?_
        refine G_nil ?_
        refine E_again (HJ (q + 1, _) (by first | omega | (dsimp only; omega) | (simp; omega) | (simp; done)) ⟨(by first | omega | (dsimp only; omega) | (simp; omega) | (simp; done)), (by first | omega | (dsimp only; omega) | (simp; omega) | (simp; done))⟩) (by repeat (first | exact trivial | refine ⟨by rfl, ?_⟩)) rfl (by first | omega | (dsimp only; omega) | (simp; omega) | (simp; done)) (Nat.le_refl _) (by repeat (first | exact List.Sublist.refl _ | exact List.nil_sublist _ | apply List.Sublist.cons_cons | apply List.Sublist.cons))
      · clear HJ
        refine G_nil ?_
        refine E_then ?_
        refine G_cond_f rfl ?_
        refine G_exit ?_
        refine E_then_exit ?_
        refine E_lp_exit ?_
        refine E_blk_eq ?_
        refine E_then ?_
        refine G_seq ?_
        refine G_reg (by first | simp only [zn, Nat.reduceAdd] <;> rfl | rfl) ?_
        refine G_callv rfl rfl h8 ?_
        refine g_mov rfl rfl ?_
        refine G_nil ?_
        refine E_then ?_
        refine G_ret ?_
        refine E_fq (l := [.bool true]) ⟨_, _, rfl, rfl, rfl⟩ ?_
        exact fun h' hs' => ⟨rfl, _, _, hs'.sub (by repeat (first | exact List.Sublist.refl _ | exact List.nil_sublist _ | apply List.Sublist.cons_cons | apply List.Sublist.cons))⟩
end
end Ax
end
section
namespace Ax
open Go Go.RowKit

/-- A cell as it is read: numbers, truths, texts. -/
def absC : Value → V
  | .int k n => .int k n
  | .bool b => .bool b
  | .string s => .str s.size (numOf s.data.toList)
  | _ => .undef
theorem absC_rel (φ : Phi) (v : Value) : VRel φ (absC v) v := by
  cases v <;> simp only [absC, VRel]
  rename_i s
  rw [strOf_list]
/-- Everything that was there is lent. -/
def lendB (w : World) : Base := ⟨w, fun _ => True, fun _ => True⟩
noncomputable def lrow (c : Array Value) (e : TypeId) : Row := ⟨e, c.size, deep c.size, .tree (T.ofFn (deep c.size) fun i => absC (c.getD i Go.undef)), 0, false, true, false⟩
abbrev lfl : Fl := ⟨0, false, true, false⟩
theorem lrow_get (c : Array Value) (e : TypeId) {i : Nat} (hi : i < c.size) : (lrow c e).get i = absC (c.getD i Go.undef) := by
  rw [Row.get_of_lt (r := lrow c e) hi]
  exact T.get_ofFn _ _ _ (Nat.lt_of_lt_of_le hi (lt_deep _))
theorem lrow_is (c : Array Value) (e : TypeId) : RowIs (lrow c e) e (c.toList.map absC) lfl := by
  refine ⟨⟨T.full_ofFn _ _, lt_deep _⟩, rfl, by simp [lrow], fun i v h => ?_, rfl, rfl, rfl, rfl⟩
  have hi : i < c.size := by have := (List.getElem?_eq_some_iff.1 h).1; simpa using this
  rw [lrow_get c e hi]
  rw [List.getElem?_map, Array.getElem?_toList, Array.getElem?_eq_getElem hi] at h
  simp only [Option.map_some, Option.some.injEq] at h
  rw [← h]
  simp [Array.getD, hi]
theorem lrow_rel (φ : Phi) (c : Array Value) (e : TypeId) (fr : Nat × Nat) : RowRel φ (lrow c e) 0 c.size c e fr := by
  refine ⟨⟨T.full_ofFn _ _, lt_deep _⟩, rfl, rfl, by simp [lrow], fun i hi => ?_, fun h => (by cases h), fun h => (by cases h), fun h => (by cases h)⟩
  have hi : i < c.size := hi
  refine ⟨c[i], by simp [hi], ?_⟩
  rw [lrow_get c e hi, show c.getD i Go.undef = c[i] by simp [Array.getD, hi]]
  exact absC_rel φ _
noncomputable def h20 : H := ⟨2, T.mk .none hd⟩
def phi2 (x0 x1 : Option (Nat × Nat × Nat)) : Phi := fun b => match b with
  | 0 => x0
  | 1 => x1
  | _ => none
theorem h20_get (b : Nat) : h20.get b = .none := by
  by_cases hb : b < hmax
  · rw [H.get_of_lt hb]; exact T.get_mk O.none hd b
  · exact H.get_of_not hb
theorem start2 (w : World) (x0 x1 : Option (Nat × Nat × Nat)) : HRel (lendB w) (phi2 x0 x1) h20 w ∧ Sto h20 2 0 [] := by
  refine ⟨⟨T.full_mk _ _, ⟨rfl, rfl, rfl, Nat.le_refl _, fun _ _ _ => rfl⟩, fun b hb => ?_, fun b hb => absurd (h20_get b) hb, fun b _ _ _ _ hb => absurd (h20_get b) hb⟩,
    T.full_mk _ _, rfl, Nat.zero_le _, fun _ h => (by cases h), List.Pairwise.nil, fun _ h => (by cases h), fun b _ => h20_get b⟩
  match b, hb with
  | 0, hb => exact absurd hb (by decide)
  | 1, hb => exact absurd hb (by decide)
  | b + 2, _ => rfl
theorem addrow {w : World} {φ : Phi} {h : H} {m : Nat} {L : List Cell} (R : HRel (lendB w) φ h w) (S : Sto h 2 m L) {b k : Nat} {c : Array Value} {e : TypeId} {fr : Nat × Nat} (hm : m ≤ b) (hb : b < 2) (hφ : φ b = some (k, 0, c.size))
    (hk : w.heap[k]? = some (.cells c e fr)) (hd : ∀ b' x, h.get b' ≠ .none → φ b' = some (k, x) → False) :
    HRel (lendB w) φ (h.set b (.row (lrow c e))) w ∧ Sto (h.set b (.row (lrow c e))) 2 (b + 1) (.row b e (c.toList.map absC) lfl :: L) := by
  have hx : b < 1048576 := by omega
  refine ⟨R.step (Ext.refl _) (H.ok_set R.ok _ _) R.below R.free b k 0 c.size hφ (fun b' hne hn => ?_) ?_, S.new hm hb hx _ (.row b e (c.toList.map absC) lfl) rfl fun h' e' => ⟨_, e', lrow_is c e⟩⟩
  · rw [H.get_set R.ok, if_neg (fun x => hne x.1.symm)] at hn ⊢
    exact ⟨rfl, fun k' x ek => ⟨fun h => hd b' x hn (h ▸ ek), rfl⟩⟩
  · rw [H.get_set R.ok, if_pos ⟨rfl, hx⟩, hk]
    exact ⟨.inr ⟨rfl, trivial⟩, c, e, fr, rfl, lrow_rel _ _ _ _⟩

/-- A slice that came in. -/
inductive SlV (w : World) (s : Nat) : Value → Nat → Prop
  | nil : SlV w s (.slice none 0 0) 0
  | zero (k off : Nat) : SlV w s (.slice (some ⟨k, off, none⟩) 0 0) 0
  | pos {k off n cap : Nat} {c : Array Value} {e : TypeId} {fr : Nat × Nat} (hk : w.heap[k]? = some (.cells c e fr)) (hn : n ≤ cap) (hc : 0 < cap) (ho : off + cap * s ≤ c.size) : SlV w s (.slice (some ⟨k, off, none⟩) n cap) n
/-- Its cells, as they are read. -/
def SlL (w : World) (s : Nat) : Value → List V
  | .slice (some a) n _ => match w.heap[a.block]? with
    | some (.cells c _ _) => ((c.toList.map absC).drop a.off).take (n * s)
    | _ => []
  | _ => []
theorem SlL_zero (w : World) (s k off cap : Nat) : SlL w s (.slice (some ⟨k, off, none⟩) 0 cap) = [] := by
  show (match w.heap[k]? with | some (.cells c _ _) => ((c.toList.map absC).drop off).take (0 * s) | _ => []) = []
  split <;> simp
theorem SlL_pos {w : World} {s k off n cap : Nat} {c : Array Value} {e : TypeId} {fr : Nat × Nat} (hk : w.heap[k]? = some (.cells c e fr)) : SlL w s (.slice (some ⟨k, off, none⟩) n cap) = ((c.toList.map absC).drop off).take (n * s) := by
  show (match w.heap[k]? with | some (.cells c _ _) => ((c.toList.map absC).drop off).take (n * s) | _ => []) = _
  rw [hk]
theorem v_zero {φ : Phi} {b k off s : Nat} (h : φ b = some (k, 0, off)) : VRel φ (.slice b off 0 0 s) (.slice (some ⟨k, off, none⟩) 0 0) := by
  simp only [VRel]
  exact ⟨k, 0, off, off, 0, h, rfl, Nat.le_refl _, Nat.le_refl _, .inl rfl, by simp⟩
theorem v_pos {φ : Phi} {b k off n cap N s : Nat} (h : φ b = some (k, 0, N)) (hn : n ≤ cap) (ho : off + cap * s ≤ N) : VRel φ (.slice b off n n s) (.slice (some ⟨k, off, none⟩) n cap) := by
  simp only [VRel]
  exact ⟨k, 0, N, off, cap, h, rfl, Nat.le_refl _, hn, .inr rfl, ho⟩
theorem s_pos {w : World} {L : List Cell} {b k off n cap s : Nat} {c : Array Value} {e : TypeId} {fr : Nat × Nat} (hk : w.heap[k]? = some (.cells c e fr)) (hn : n ≤ cap) (ho : off + cap * s ≤ c.size) (hm : Cell.row b e (c.toList.map absC) lfl ∈ L) :
    Srs L s (.slice b off n n s) n (SlL w s (.slice (some ⟨k, off, none⟩) n cap)) := by
  rw [SlL_pos hk]
  have : n * s ≤ cap * s := Nat.mul_le_mul_right _ hn
  exact .row hm (by simp; omega) rfl
theorem s_zero {w : World} {L : List Cell} {b k off s : Nat} : Srs L s (.slice b off 0 0 s) 0 (SlL w s (.slice (some ⟨k, off, none⟩) 0 0)) := by
  rw [SlL_zero]; exact .zero
/-- Two slices that came in. -/
theorem two_args {w : World} {s1 s2 : Nat} {v1 v2 : Value} {n1 n2 : Nat} (a1 : SlV w s1 v1 n1) (a2 : SlV w s2 v2 n2) :
    ∃ x1 x2 L h φ m, HRel (lendB w) φ h w ∧ Sto h 2 m L ∧ VRel φ x1 v1 ∧ VRel φ x2 v2 ∧ Srs L s1 x1 n1 (SlL w s1 v1) ∧ Srs L s2 x2 n2 (SlL w s2 v2) := by
  have free : ∀ {x0 x1 : Option (Nat × Nat × Nat)} {k : Nat}, ∀ (b' : Nat) (x : Nat × Nat), h20.get b' ≠ .none → phi2 x0 x1 b' = some (k, x) → False := fun b' x h => absurd (h20_get b') h
  cases a1 with
  | nil =>
    cases a2 with
    | nil =>
      obtain ⟨R, S⟩ := start2 w none none
      exact ⟨.nils, .nils, _, _, _, _, R, S, by simp only [VRel], by simp only [VRel], .nils, .nils⟩
    | zero k off =>
      obtain ⟨R, S⟩ := start2 w none (some (k, 0, off))
      exact ⟨.nils, _, _, _, _, _, R, S, by simp only [VRel], v_zero (b := 1) rfl, .nils, s_zero⟩
    | @pos k off n cap c e fr hk hn hc ho =>
      obtain ⟨R, S⟩ := start2 w none (some (k, 0, c.size))
      obtain ⟨R, S⟩ := addrow R S (b := 1) (Nat.zero_le _) (by decide) rfl hk free
      exact ⟨.nils, _, _, _, _, _, R, S, by simp only [VRel], v_pos (b := 1) rfl hn ho, .nils, s_pos hk hn ho (List.Mem.head _)⟩
  | zero k1 off1 =>
    cases a2 with
    | nil =>
      obtain ⟨R, S⟩ := start2 w (some (k1, 0, off1)) none
      exact ⟨_, .nils, _, _, _, _, R, S, v_zero (b := 0) rfl, by simp only [VRel], s_zero, .nils⟩
    | zero k off =>
      obtain ⟨R, S⟩ := start2 w (some (k1, 0, off1)) (some (k, 0, off))
      exact ⟨_, _, _, _, _, _, R, S, v_zero (b := 0) rfl, v_zero (b := 1) rfl, s_zero, s_zero⟩
    | @pos k off n cap c e fr hk hn hc ho =>
      obtain ⟨R, S⟩ := start2 w (some (k1, 0, off1)) (some (k, 0, c.size))
      obtain ⟨R, S⟩ := addrow R S (b := 1) (Nat.zero_le _) (by decide) rfl hk free
      exact ⟨_, _, _, _, _, _, R, S, v_zero (b := 0) rfl, v_pos (b := 1) rfl hn ho, s_zero, s_pos hk hn ho (List.Mem.head _)⟩
  | @pos k1 off1 n1 cap1 c1 e1 fr1 hk1 hn1 hc1 ho1 =>
    cases a2 with
    | nil =>
      obtain ⟨R, S⟩ := start2 w (some (k1, 0, c1.size)) none
      obtain ⟨R, S⟩ := addrow R S (b := 0) (Nat.zero_le _) (by decide) rfl hk1 free
      exact ⟨_, .nils, _, _, _, _, R, S, v_pos (b := 0) rfl hn1 ho1, by simp only [VRel], s_pos hk1 hn1 ho1 (List.Mem.head _), .nils⟩
    | zero k off =>
      obtain ⟨R, S⟩ := start2 w (some (k1, 0, c1.size)) (some (k, 0, off))
      obtain ⟨R, S⟩ := addrow R S (b := 0) (Nat.zero_le _) (by decide) rfl hk1 free
      exact ⟨_, _, _, _, _, _, R, S, v_pos (b := 0) rfl hn1 ho1, v_zero (b := 1) rfl, s_pos hk1 hn1 ho1 (List.Mem.head _), s_zero⟩
    | @pos k off n cap c e fr hk hn hc ho =>
      by_cases hkk : k = k1
      · subst hkk
        rw [hk] at hk1
        cases hk1
        obtain ⟨R, S⟩ := start2 w (some (k, 0, c1.size)) none
        obtain ⟨R, S⟩ := addrow R S (b := 0) (Nat.zero_le _) (by decide) rfl hk free
        exact ⟨_, _, _, _, _, _, R, S, v_pos (b := 0) rfl hn1 ho1, v_pos (b := 0) rfl hn ho, s_pos hk hn1 ho1 (List.Mem.head _), s_pos hk hn ho (List.Mem.head _)⟩
      · obtain ⟨R, S⟩ := start2 w (some (k1, 0, c1.size)) (some (k, 0, c.size))
        obtain ⟨R0, S⟩ := addrow R S (b := 0) (Nat.zero_le _) (by decide) rfl hk1 free
        obtain ⟨R, S⟩ := addrow R0 S (b := 1) (Nat.le_refl _) (by decide) rfl hk (fun b' x h1 h2 => by
          rw [H.get_set R.ok] at h1
          by_cases h0 : 0 = b' ∧ 0 < hmax
          · obtain ⟨rfl, _⟩ := h0
            cases h2
            exact hkk rfl
          · rw [if_neg h0] at h1
            exact absurd (h20_get b') h1)
        exact ⟨_, _, _, _, _, _, R, S, v_pos (b := 0) rfl hn1 ho1, v_pos (b := 1) rfl hn ho, s_pos hk1 hn1 ho1 (.tail _ (.head _)), s_pos hk hn ho (List.Mem.head _)⟩
end Ax
end
section
set_option maxRecDepth 100000
namespace Ax
open Go Go.Proofs Go.RowKit
theorem kw4 : compF Tryz.prog Tryz.f4 = some w4 := by kernel_rfl
theorem kw9 : compF Tryz.prog Tryz.f9 = some w9 := by kernel_rfl
noncomputable def q4 : Nat → (FuncId → List V → H → R1) → List V → H → R1 := fun F call vs h => runFn quietZ call F w4 vs h
noncomputable def q9 : Nat → (FuncId → List V → H → R1) → List V → H → R1 := fun F call vs h => runFn quietZ call F w9 vs h
noncomputable def q8 : Nat → (FuncId → List V → H → R1) → List V → H → R1 := memoF [⟨[], .bool true⟩] fun _ _ _ _ => .bad 0
theorem zq4 : EntOK Tryz.prog 4 (.run q4) := ent_code quiet_all mixedQ namesQ Tryz.func4 kw4 (fun _ _ _ _ => rfl)
theorem zq9 : EntOK Tryz.prog 9 (.run q9) := ent_code quiet_all mixedQ namesQ Tryz.func9 kw9 (fun _ _ _ _ => rfl)
theorem bad_ok (f n : Nat) : EntOK Tryz.prog f (.run fun _ _ _ _ => .bad n) := fun _ _ _ _ _ _ _ _ e => by cases e
theorem zq8 : EntOK Tryz.prog 8 (.run q8) := ent_memo (calls3_ok 100000 60) (bad_ok 8 0) (List.forall_mem_cons.2 ⟨⟨rfl, rfl, awake_run⟩, List.forall_mem_nil _⟩)
noncomputable def tab4 : T Ent := (.nd (.nd (.nd (.nd n5 (.nd (.nd (.nd (.nd (.nd (.lf (.run q8)) n0) n1) n2) n3) n4)) (.nd (.nd (.nd (.nd (.nd (.nd (.lf (.run q4)) n0) n1) n2) n3) n4) n5)) n7) (.nd (.nd (.nd n5 (.nd (.nd (.nd (.nd (.nd (.lf (.run q9)) n0) n1) n2) n3) n4)) n6) n7))
theorem tab4_ok : AllT (EntOK Tryz.prog) 9 tab4 0 1 := ⟨⟨⟨⟨no5 _ _, ⟨⟨⟨⟨⟨zq8, no0 _ _⟩, no1 _ _⟩, no2 _ _⟩, no3 _ _⟩, no4 _ _⟩⟩, ⟨⟨⟨⟨⟨⟨zq4, no0 _ _⟩, no1 _ _⟩, no2 _ _⟩, no3 _ _⟩, no4 _ _⟩, no5 _ _⟩⟩, no7 _ _⟩, ⟨⟨⟨no5 _ _, ⟨⟨⟨⟨⟨zq9, no0 _ _⟩, no1 _ _⟩, no2 _ _⟩, no3 _ _⟩, no4 _ _⟩⟩, no6 _ _⟩, no7 _ _⟩⟩
theorem ones_of {l : List V} (h : ∀ (i : Nat) (v : V), l[i]? = some v → v.one' = true) : ones l = true := by
  induction l with
  | nil => rfl
  | cons a l ih =>
    show (Bool.rec false (ones l) a.one' : Bool) = true
    rw [h 0 a rfl, ih (fun i v hv => h (i + 1) v (by simpa using hv))]
theorem overs_calls (n : Int) {w : World} {v1 v2 : Value} {nm nw : Nat} (a1 : SlV w 1 v1 nm) (a2 : SlV w 2 v2 nw) (A M : Nat → Int) (sn sb : Nat → Nat)
    (hml : ∀ j, j < nm → (SlL w 1 v1)[j]? = some (.int .i64 (M j))) (hwl : ∀ j, j < nw → (SlL w 2 v2)[j * 2 + 0]? = some (.int .i64 (A j)) ∧ (SlL w 2 v2)[j * 2 + 1]? = some (.str (sn j) (sb j))) :
    Calls Tryz.prog 4 #[.int .i64 n, v1, v2] w fun e w' => e = .returned (.bool true) ∧ Grows w w' := by
  obtain ⟨x1, x2, L, h, φ, m, R, S, q1, q2, s1, s2⟩ := two_args a1 a2
  have o2 : ones (SlL w 1 v1) = true := ones_of fun i v hv => by
    have hi := (List.getElem?_eq_some_iff.1 hv).1
    rw [s1.len, Nat.mul_one] at hi
    rw [hml i hi] at hv
    cases hv; rfl
  have hov := overs_spec (quiet := quietZ) (call := callE tab4 300 2) (call' := callE tab4 300 1) (F := 300) (F' := 300) n nm nw (by decide) (by decide) A M sn sb x1 x2 _ _ s1 s2 hwl hml o2 (by decide) (fun _ => rfl) (fun _ _ => rfl) h S
  obtain ⟨v, h', e, rfl, _⟩ := hov
  have hc := callE_ok tab4_ok 300 3 (lendB w) 4 [.int .i64 n, x1, x2] h (.bool true) h' e φ w #[.int .i64 n, v1, v2] ⟨_, _, rfl, by simp only [VRel], _, _, rfl, q1, _, _, rfl, q2, rfl⟩ R
  rw [run_enter (P := Tryz.prog) Tryz.func4 (by kernel_rfl) rfl _ w] at hc
  refine Calls.mono hc fun e w' he => ?_
  cases e with
  | returned v =>
    obtain ⟨φ', _, _, _, h4, h5⟩ := he
    simp only [VRel] at h4
    exact ⟨by rw [h4], h5.below.os, h5.below.tape, h5.below.output, h5.below.size, fun k hk => h5.below.block k hk trivial⟩
  | _ => exact he.elim
end Ax
end
