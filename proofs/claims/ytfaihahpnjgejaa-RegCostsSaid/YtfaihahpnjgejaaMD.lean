/- The walk of RegCosts: whatever the input. -/
import Derived.Deep.RegionHeld3
import Derived.Test.YtfaihahpnjgejaaMB
import Derived.Test.YtfaihahpnjgejaaPRegCostsx2
import Derived.Test.YtfaihahpnjgejaaPrt4
import Derived.Test.YtfaihahpnjgejaaPRegCostsx6
import Derived.Test.YtfaihahpnjgejaaMC
set_option linter.unusedVariables false
set_option linter.unusedSimpArgs false
namespace Go.Proofs.Ytfaihahpnjgejaa
open Go.RowKit Go.Proofs.YtfaihahpnjgejaaW.PrintWords Go.Proofs.YtfaihahpnjgejaaW.PrintLast Go.Proofs.YtfaihahpnjgejaaW.PrintMore Go.Proofs.Ytfaihahpnjgejaa.PRegCosts

/-- all fields are ints -/
def Reg.I64 (r : Reg) : Prop := (-9223372036854775808 ≤ r.base ∧ r.base ≤ 9223372036854775807) ∧ (-9223372036854775808 ≤ r.loc ∧ r.loc ≤ 9223372036854775807)
/-- what a register that may be is known to be -/
structure FineP (r : Reg) : Prop where
  k1 : 1 ≤ r.kind
  k7 : r.kind ≤ 7
  b0 : 0 ≤ r.base
  l0 : 0 ≤ r.loc
  n1 : 1 ≤ r.n
  n8 : r.n ≤ 8
  t1 : 1 ≤ r.top
  t3 : r.kind = 3 → r.top ≤ 255
  cells : r.base + cellsS r (r.n - 1).toNat ≤ 32768
  locals : r.loc + localsS r (r.n - 1).toNat ≤ 32768

theorem w64_in {x : Int} (h1 : -9223372036854775808 ≤ x) (h2 : x ≤ 9223372036854775807) : wrap64 x = x := by unfold wrap64; omega
theorem clamp_in (a t : Int) (h0 : 0 ≤ a) (h1 : a ≤ t) (ht : t ≤ 1099511627776) : kevelref01_Clamp.f a t = some a := by
  unfold kevelref01_Clamp.f kevelref01_within.f
  rw [if_neg (by omega), if_neg (by omega)]
  simp only [Option.bind_some]
  rw [if_neg (by omega), if_neg (by omega)]
  rfl
theorem clamp_top (t : Int) : kevelref01_Clamp.f t 255 = some (uMost t) := by
  unfold kevelref01_Clamp.f kevelref01_within.f uMost
  rw [if_neg (by omega), if_neg (by omega)]
  simp only [Option.bind_some]
  split
  · simp only [Option.bind_some]; congr 1; omega
  · split
    · simp only [Option.bind_some]; congr 1; omega
    · simp only [Option.bind_some]; congr 1; omega
theorem refN (r : Reg) (h1 : 1 ≤ r.n) (h8 : r.n ≤ 8) : kevelref15_N.f r.kind r.base r.loc r.n r.writer r.reader r.top = some r.n := by
  unfold kevelref15_N.f
  rw [clamp_in r.n 8 (by omega) h8 (by decide)]
  simp only [Option.bind_some]
  rw [if_neg (by omega)]
theorem uMost_in (t : Int) : 0 ≤ uMost t ∧ uMost t ≤ 255 := by unfold uMost; omega
theorem ref_cells (r : Reg) (k : Nat) (hk1 : 1 ≤ r.kind) (hk7 : r.kind ≤ 7) (h1 : 1 ≤ r.n) (h8 : r.n ≤ 8) :
    kevelref17_Cells.f (k + 1) r.kind r.base r.loc r.n r.writer r.reader r.top = some (cellsS r (r.n - 1).toNat) := by
  have hu := uMost_in r.top
  unfold kevelref17_Cells.f
  rw [refN r h1 h8]
  simp only [Option.bind_some]
  obtain ⟨kind, base, loc, n, wr, rd, top⟩ := r
  simp only at *
  rcases (show kind = 1 ∨ kind = 2 ∨ kind = 3 ∨ kind = 4 ∨ kind = 5 ∨ kind = 6 ∨ kind = 7 by omega) with rfl | rfl | rfl | rfl | rfl | rfl | rfl
  · simp [kevelref17_Cells.j0, cellsS]
  · simp [kevelref17_Cells.j0, cellsS]
  · simp [kevelref17_Cells.j0, cellsS, clamp_top]
    exact w64_in (by omega) (by omega)
  · simp [kevelref17_Cells.j0, cellsS]
  · simp [kevelref17_Cells.j0, cellsS]
  all_goals
    rcases (show n = 1 ∨ n = 2 ∨ n = 3 ∨ n = 4 ∨ n = 5 ∨ n = 6 ∨ n = 7 ∨ n = 8 by omega) with rfl | rfl | rfl | rfl | rfl | rfl | rfl | rfl <;> (change _ = _; kernel_rfl)
theorem ref_locals (r : Reg) (hk1 : 1 ≤ r.kind) (hk7 : r.kind ≤ 7) (h1 : 1 ≤ r.n) (h8 : r.n ≤ 8) :
    kevelref17_Locals.f r.kind r.base r.loc r.n r.writer r.reader r.top = some (localsS r (r.n - 1).toNat) := by
  have hu := uMost_in r.top
  unfold kevelref17_Locals.f
  rw [refN r h1 h8]
  simp only [Option.bind_some]
  obtain ⟨kind, base, loc, n, wr, rd, top⟩ := r
  simp only at *
  rcases (show kind = 1 ∨ kind = 2 ∨ kind = 3 ∨ kind = 4 ∨ kind = 5 ∨ kind = 6 ∨ kind = 7 by omega) with rfl | rfl | rfl | rfl | rfl | rfl | rfl
  · simp [localsS]
  · simp [localsS]
  · simp [localsS, clamp_top]
    exact w64_in (by omega) (by omega)
  · simp [localsS]
  · simp [localsS]
  all_goals
    rcases (show n = 1 ∨ n = 2 ∨ n = 3 ∨ n = 4 ∨ n = 5 ∨ n = 6 ∨ n = 7 ∨ n = 8 by omega) with rfl | rfl | rfl | rfl | rfl | rfl | rfl | rfl <;> (change _ = _; kernel_rfl)
theorem thread_some (a b : Int) (c : Bool) : ∃ t, kevelref17_thread.f a b c = some t := by
  unfold kevelref17_thread.f; repeat' split
  all_goals exact ⟨_, rfl⟩
theorem cellsS_pos (r : Reg) (k : Nat) : 0 ≤ cellsS r k := by
  have hu := uMost_in r.top
  unfold cellsS; repeat' split
  all_goals omega
theorem localsS_pos (r : Reg) (k : Nat) : 0 ≤ localsS r k := by
  have hu := uMost_in r.top
  unfold localsS; repeat' split
  all_goals omega
theorem cellsS_le (r : Reg) (k : Nat) (h : k ≤ 7) : cellsS r k ≤ 10000 ∧ localsS r k ≤ 10000 := by
  have hu := uMost_in r.top
  unfold cellsS localsS
  rcases (show k = 0 ∨ k = 1 ∨ k = 2 ∨ k = 3 ∨ k = 4 ∨ k = 5 ∨ k = 6 ∨ k = 7 by omega) with rfl | rfl | rfl | rfl | rfl | rfl | rfl | rfl <;> constructor <;> (repeat' split) <;> first | omega | (simp; done) | (simp; omega)
theorem fine_j2 (r : Reg) (k : Nat) (p : Bool) (hk1 : 1 ≤ r.kind) (hk7 : r.kind ≤ 7) (h1 : 1 ≤ r.n) (h8 : r.n ≤ 8) (b0 : 0 ≤ r.base) (b1 : r.base ≤ 32768) (l0 : 0 ≤ r.loc) (l1 : r.loc ≤ 32768) :
    ∃ b, kevelref17_Fine.j2 (k + 2) p r.kind r.base r.loc r.n r.writer r.reader r.top = some b ∧ (b = true → FineP r) := by
  have hu := uMost_in r.top
  have hc := ref_cells r k hk1 hk7 h1 h8
  have hl := ref_locals r hk1 hk7 h1 h8
  have hb := cellsS_le r (r.n - 1).toNat (by omega)
  have hp := cellsS_pos r (r.n - 1).toNat
  have hp2 := localsS_pos r (r.n - 1).toNat
  rw [kevelref17_Fine.j2]
  split
  · exact ⟨false, rfl, fun h => by cases h⟩
  · simp only [Option.bind_some]
    split
    · rename_i ht
      rw [if_pos (by omega), if_pos (by simp; omega)]
      split
      · rename_i hm
        rw [hc]
        simp only [Option.bind_some]
        rw [w64_in (by omega) (by omega)]
        split
        · rename_i hcc
          rw [hl]
          simp only [Option.bind_some]
          rw [w64_in (by omega) (by omega)]
          refine ⟨_, rfl, fun h => ?_⟩
          refine ⟨hk1, hk7, b0, l0, h1, h8, by omega, fun e => ?_, hcc, of_decide_eq_true h⟩
          rw [e] at hm
          exact hm
        · exact ⟨false, rfl, fun h => by cases h⟩
      · exact ⟨false, rfl, fun h => by cases h⟩
    · exact ⟨false, rfl, fun h => by cases h⟩
theorem fine_j1 (r : Reg) (k : Nat) (p : Bool) (hk1 : 1 ≤ r.kind) (hk7 : r.kind ≤ 7) (h1 : 1 ≤ r.n) (h8 : r.n ≤ 8) (b0 : 0 ≤ r.base) (b1 : r.base ≤ 32768) (l0 : 0 ≤ r.loc) (l1 : r.loc ≤ 32768) :
    ∃ b, kevelref17_Fine.j1 (k + 3) p r.kind r.base r.loc r.n r.writer r.reader r.top = some b ∧ (b = true → FineP r) := by
  have F := fun p => fine_j2 r k p hk1 hk7 h1 h8 b0 b1 l0 l1
  rw [kevelref17_Fine.j1]
  obtain ⟨t1, e1⟩ := thread_some r.n r.writer (decide (r.kind < 7))
  obtain ⟨t2, e2⟩ := thread_some r.n r.reader p
  obtain ⟨t3, e3⟩ := thread_some r.n r.writer false
  rw [e1, e2, e3]
  simp only [Option.bind_some]
  repeat' split
  all_goals exact F _
theorem fine_ref (r : Reg) (k : Nat) : ∃ b, kevelref17_Fine.f (k + 4) r.kind r.base r.loc r.n r.writer r.reader r.top = some b ∧ (b = true → FineP r) := by
  have no : ∃ b, kevelref17_Fine.j0 (k + 4) true r.kind r.base r.loc r.n r.writer r.reader r.top = some b ∧ (b = true → FineP r) := ⟨false, by rw [kevelref17_Fine.j0, if_pos rfl], fun h => by cases h⟩
  unfold kevelref17_Fine.f
  repeat' split
  all_goals try exact no
  rename_i h1 h2 h3 h4 h5 h6 h7
  rw [kevelref17_Fine.j0]
  split
  · exact ⟨false, rfl, fun h => by cases h⟩
  · rename_i h8
    simp at h8
    split
    all_goals exact fine_j1 r k _ (by omega) (by omega) (by omega) (by omega) (by omega) (by omega) (by omega) (by omega)
theorem locals_reg (r : Reg) (h : FineP r) (h4 : r.n ≤ 4) : reg_Locals.f r.kind r.base r.loc r.n r.writer r.reader r.top = some (localsS r (r.n - 1).toNat) := by
  have hu := uMost_in r.top
  obtain ⟨k1, k7, _, _, n1, _, t1, t3, _, _⟩ := h
  obtain ⟨kind, base, loc, n, wr, rd, top⟩ := r
  simp only at *
  rcases (show kind = 1 ∨ kind = 2 ∨ kind = 3 ∨ kind = 4 ∨ kind = 5 ∨ kind = 6 ∨ kind = 7 by omega) with rfl | rfl | rfl | rfl | rfl | rfl | rfl
  · change _ = _; kernel_rfl
  · change _ = _; kernel_rfl
  · have e : uMost top = top := by unfold uMost; have := t3 rfl; omega
    have t := t3 rfl
    simp [reg_Locals.f, localsS, e, unary_Locals.f, unary_most.f, steady_Locals.f]
    have e2 : mx 0 (mn top 255) = top := by unfold mx mn; repeat' split
                                            all_goals omega
    rw [e2, w64_in (x := top + 1) (by omega) (by omega)]
    exact w64_in (by omega) (by omega)
  · change _ = _; kernel_rfl
  · change _ = _; kernel_rfl
  all_goals
    rcases (show n = 1 ∨ n = 2 ∨ n = 3 ∨ n = 4 by omega) with rfl | rfl | rfl | rfl <;> (change _ = _; kernel_rfl)
theorem unary_strips (t : Int) (h1 : 1 ≤ t) (h2 : t ≤ 255) : unary_Strips.f t = some [⟨t + 1, 1, 1⟩] := by
  have e2 : mx 0 (mn t 255) = t := by
    unfold mx mn; repeat' split
    all_goals omega
  have w1 := w64_in (x := t + 1) (by omega) (by omega)
  simp [unary_Strips.f, steady_Strips.f, unary_most.f, e2, rd_T60, w1]
theorem reg_strips3 (base loc n wr rd t : Int) (h1 : 1 ≤ t) (h2 : t ≤ 255) : reg_Strips.f 100 3 base loc n wr rd t = some [⟨t + 1, 1, 1⟩] := by
  show (unary_Strips.f t).bind (fun t => some t) = _
  rw [unary_strips t h1 h2]
  rfl
theorem cells_one (k : Nat) (x : S60) (h : wrap64 (0 + x.f0) = x.f0) : reg_Cells.l0 (k + 2) 0 [x] 1 0 = some x.f0 := by
  have e : (rd_T60 [x] 0) = x := rfl
  have e1 : wrap64 (0 + 1) = 1 := w64_in (by omega) (by omega)
  rw [reg_Cells.l0, if_pos (by decide), if_pos (by decide), if_pos (by simp), e, h, e1, reg_Cells.l0, if_neg (by decide)]
theorem cells3 (base loc n wr rd t : Int) (h1 : 1 ≤ t) (h2 : t ≤ 255) : reg_Cells.f 100 3 base loc n wr rd t = some (t + 1) := by
  unfold reg_Cells.f
  rw [reg_strips3 base loc n wr rd t h1 h2]
  simp only [Option.bind_some, List.length_cons, List.length_nil]
  exact cells_one 98 ⟨t + 1, 1, 1⟩ (by show wrap64 (0 + (t + 1)) = t + 1; rw [Int.zero_add]; exact w64_in (by omega) (by omega))
set_option maxRecDepth 100000 in
theorem cells_reg (r : Reg) (h : FineP r) (h4 : r.n ≤ 4) : reg_Cells.f 100 r.kind r.base r.loc r.n r.writer r.reader r.top = some (cellsS r (r.n - 1).toNat) := by
  have hu := uMost_in r.top
  obtain ⟨k1, k7, _, _, n1, _, t1, t3, _, _⟩ := h
  obtain ⟨kind, base, loc, n, wr, rd, top⟩ := r
  simp only at *
  rcases (show kind = 1 ∨ kind = 2 ∨ kind = 3 ∨ kind = 4 ∨ kind = 5 ∨ kind = 6 ∨ kind = 7 by omega) with rfl | rfl | rfl | rfl | rfl | rfl | rfl
  · change _ = _; kernel_rfl
  · change _ = _; kernel_rfl
  · have e : uMost top = top := by unfold uMost; have := t3 rfl; omega
    rw [cells3 base loc n wr rd top t1 (t3 rfl)]
    simp [cellsS, e]
  · change _ = _; kernel_rfl
  · change _ = _; kernel_rfl
  all_goals
    rcases (show n = 1 ∨ n = 2 ∨ n = 3 ∨ n = 4 by omega) with rfl | rfl | rfl | rfl <;> (change _ = _; kernel_rfl)
theorem alive_cells : reg_Cells.f 100 6 0 0 3 0 (-1) 9 = some 64 := by kernel_rfl
theorem alive_locals : reg_Locals.f 6 0 0 3 0 (-1) 9 = some 74 := by kernel_rfl
theorem alive_w0 : reg_MayWrite.f 6 0 0 3 0 (-1) 9 0 = some true := by kernel_rfl
theorem alive_w1 : reg_MayWrite.f 6 0 0 3 0 (-1) 9 1 = some false := by kernel_rfl
theorem alive_r2 : reg_MayRead.f 6 0 0 3 0 (-1) 9 2 = some true := by kernel_rfl
end Go.Proofs.Ytfaihahpnjgejaa
namespace Go.Proofs.Ytfaihahpnjgejaa
open Go.RowKit Go.Proofs.YtfaihahpnjgejaaW.PrintWords Go.Proofs.YtfaihahpnjgejaaW.PrintLast Go.Proofs.YtfaihahpnjgejaaW.PrintMore Go.Proofs.Ytfaihahpnjgejaa.PRegCosts

set_option maxRecDepth 100000 in
theorem greatest6 (w : World) : Calls Try.prog 49 #[.int .i64 6] w fun e w' => e = .returned (.int .i64 1048576) ∧ w = w' := by
  go_enter Try.func49, Try.ntmps49
  go_wp2
  go_ret
  exact ⟨rfl, rfl⟩
theorem within_yes (a b : Int) (w : World) (h0 : 0 ≤ a) (h1 : a ≤ 32768) (h2 : 0 ≤ b) (h3 : a + b ≤ 32768) : Calls Try.prog 50 #[.int .i64 a, .int .i64 b, .int .i64 32768] w fun e w' => e = .returned (.bool true) ∧ w = w' := by
  go_enter Try.func50, Try.ntmps50
  go_wp2
  go_ret
  exact ⟨by simp, rfl⟩
set_option maxRecDepth 100000 in
set_option maxHeartbeats 4000000 in
theorem fine_alive (w : World) : Calls Try.prog 19 #[.agg #[.int .i64 6, .int .i64 0, .int .i64 0, .int .i64 3, .int .i64 0, .int .i64 (-1), .int .i64 9]] w fun e w' => e = .returned (.bool true) ∧ Below w.heap.size w w' := by
  have H0 := Lib.hid ((Below.refl w.heap.size w).alloc (Nat.le_refl _) (.cells #[.int .i64 6, .int .i64 0, .int .i64 0, .int .i64 3, .int .i64 0, .int .i64 (-1), .int .i64 9] 23))
  have HX := Lib.hid (heap_alloc_new w (.cells #[.int .i64 6, .int .i64 0, .int .i64 0, .int .i64 3, .int .i64 0, .int .i64 (-1), .int .i64 9] 23))
  go_enter Try.func19, Try.ntmps19
  go_wp2_with fail
  obtain ⟨b, hb⟩ : ∃ b, w.heap.size = b := ⟨_, rfl⟩
  rw [hb] at HX
  simp only [hb]
  clear hb
  generalize (w.alloc (.cells #[.int .i64 6, .int .i64 0, .int .i64 0, .int .i64 3, .int .i64 0, .int .i64 (-1), .int .i64 9] 23)) = W at *
  have c0 := cell_of_blk HX.out 0
  have c1 := cell_of_blk HX.out 1
  have c2 := cell_of_blk HX.out 2
  have c3 := cell_of_blk HX.out 3
  have c4 := cell_of_blk HX.out 4
  have c5 := cell_of_blk HX.out 5
  have c6 := cell_of_blk HX.out 6
  simp at c0 c1 c2 c3 c4 c5 c6
  have lx := heap_lt HX.out
  have HZ := Lib.hid ((Below.refl W.heap.size W).drew)
  go_region_held3 (fun w' => w'.cell? ⟨b, 0, none⟩ = some (.int .i64 6) ∧ w'.cell? ⟨b, 1, none⟩ = some (.int .i64 0) ∧ w'.cell? ⟨b, 2, none⟩ = some (.int .i64 0) ∧ w'.cell? ⟨b, 3, none⟩ = some (.int .i64 3) ∧ w'.cell? ⟨b, 4, none⟩ = some (.int .i64 0) ∧ w'.cell? ⟨b, 5, none⟩ = some (.int .i64 (-1)) ∧ w'.cell? ⟨b, 6, none⟩ = some (.int .i64 9)) (first | exact ⟨c0, c1, c2, c3, c4, c5, c6⟩ | exact ⟨(HZ.out.cell (p := ⟨b, 0, none⟩) lx).trans c0, (HZ.out.cell (p := ⟨b, 1, none⟩) lx).trans c1, (HZ.out.cell (p := ⟨b, 2, none⟩) lx).trans c2, (HZ.out.cell (p := ⟨b, 3, none⟩) lx).trans c3, (HZ.out.cell (p := ⟨b, 4, none⟩) lx).trans c4, (HZ.out.cell (p := ⟨b, 5, none⟩) lx).trans c5, (HZ.out.cell (p := ⟨b, 6, none⟩) lx).trans c6⟩) (first | (go_at_call 49; refine (greatest6 _).mono ?_; rintro e_ w_ ⟨rfl, rfl⟩))
  rename_i hK _
  refine hK _ _ ?_
  clear hK HZ lx
  clear c0 c1 c2 c3 c4 c5 c6
  have hd := (Below.refl W.heap.size W).drew
  replace HX := Lib.hid (show W.drew.heap[b]? = _ from HX.out)
  replace H0 := Lib.hid (H0.out.drew)
  clear hd
  generalize W.drew = W2 at *
  have c0 := cell_of_blk HX.out 0
  have c1 := cell_of_blk HX.out 1
  have c2 := cell_of_blk HX.out 2
  have c3 := cell_of_blk HX.out 3
  have c4 := cell_of_blk HX.out 4
  have c5 := cell_of_blk HX.out 5
  have c6 := cell_of_blk HX.out 6
  simp at c0 c1 c2 c3 c4 c5 c6
  have lx := heap_lt HX.out
  have HZ := Lib.hid ((Below.refl W2.heap.size W2).drew)
  go_wp2_with fail
  go_region_held3 (fun w' => w'.cell? ⟨b, 0, none⟩ = some (.int .i64 6) ∧ w'.cell? ⟨b, 1, none⟩ = some (.int .i64 0) ∧ w'.cell? ⟨b, 2, none⟩ = some (.int .i64 0) ∧ w'.cell? ⟨b, 3, none⟩ = some (.int .i64 3) ∧ w'.cell? ⟨b, 4, none⟩ = some (.int .i64 0) ∧ w'.cell? ⟨b, 5, none⟩ = some (.int .i64 (-1)) ∧ w'.cell? ⟨b, 6, none⟩ = some (.int .i64 9)) (first | exact ⟨c0, c1, c2, c3, c4, c5, c6⟩ | exact ⟨(HZ.out.cell (p := ⟨b, 0, none⟩) lx).trans c0, (HZ.out.cell (p := ⟨b, 1, none⟩) lx).trans c1, (HZ.out.cell (p := ⟨b, 2, none⟩) lx).trans c2, (HZ.out.cell (p := ⟨b, 3, none⟩) lx).trans c3, (HZ.out.cell (p := ⟨b, 4, none⟩) lx).trans c4, (HZ.out.cell (p := ⟨b, 5, none⟩) lx).trans c5, (HZ.out.cell (p := ⟨b, 6, none⟩) lx).trans c6⟩) (first | (go_at_call 13; refine (reg_Cells.calls 100 _ _ _ _ _ _ _ _ _ alive_cells).mono ?_; rintro e_ w_ ⟨rfl, hb_⟩; replace HZ := Lib.hid (HZ.out.trans (hb_.mono HZ.out.size)); clear hb_) | (go_at_call 14; refine (reg_Locals.calls _ _ _ _ _ _ _ _ _ alive_locals).mono ?_; rintro e_ w_ ⟨rfl, hb_⟩; replace HZ := Lib.hid (HZ.out.trans (hb_.mono HZ.out.size)); clear hb_) | (go_at_call 50; refine (within_yes _ _ _ (by decide) (by decide) (by decide) (by decide)).mono ?_; rintro e_ w_ ⟨rfl, rfl⟩))
  rename_i hK _ hHeld
  refine hK _ _ ?_
  go_wp2_with fail
  go_ret
  exact ⟨rfl, H0.out.trans (HZ.out.mono H0.out.size)⟩

set_option maxRecDepth 100000 in
set_option maxHeartbeats 4000000 in
theorem fine_none (w : World) : Calls Try.prog 19 #[.agg #[.int .i64 0, .int .i64 0, .int .i64 0, .int .i64 0, .int .i64 0, .int .i64 0, .int .i64 0]] w fun e w' => e = .returned (.bool false) ∧ Below w.heap.size w w' := by
  have H0 := Lib.hid ((Below.refl w.heap.size w).alloc (Nat.le_refl _) (.cells #[.int .i64 0, .int .i64 0, .int .i64 0, .int .i64 0, .int .i64 0, .int .i64 0, .int .i64 0] 23))
  have HX := Lib.hid (heap_alloc_new w (.cells #[.int .i64 0, .int .i64 0, .int .i64 0, .int .i64 0, .int .i64 0, .int .i64 0, .int .i64 0] 23))
  go_enter Try.func19, Try.ntmps19
  go_wp2_with fail
  obtain ⟨b, hb⟩ : ∃ b, w.heap.size = b := ⟨_, rfl⟩
  rw [hb] at HX
  simp only [hb]
  clear hb
  generalize (w.alloc (.cells #[.int .i64 0, .int .i64 0, .int .i64 0, .int .i64 0, .int .i64 0, .int .i64 0, .int .i64 0] 23)) = W at *
  have c0 := cell_of_blk HX.out 0
  have c1 := cell_of_blk HX.out 1
  have c2 := cell_of_blk HX.out 2
  have c3 := cell_of_blk HX.out 3
  have c4 := cell_of_blk HX.out 4
  have c5 := cell_of_blk HX.out 5
  have c6 := cell_of_blk HX.out 6
  simp at c0 c1 c2 c3 c4 c5 c6
  go_quiet (fail)
  go_wp2_with fail
  go_ret
  exact ⟨rfl, pw_below_drewN H0.out _⟩
end Go.Proofs.Ytfaihahpnjgejaa
namespace Go.Proofs.Ytfaihahpnjgejaa
open Go.RowKit Go.Proofs.YtfaihahpnjgejaaW.PrintWords Go.Proofs.YtfaihahpnjgejaaW.PrintLast Go.Proofs.YtfaihahpnjgejaaW.PrintMore Go.Proofs.Ytfaihahpnjgejaa.PRegCosts
attribute [local go_sem] max2_int min2_int max_two min_two max_three min_three max_four min_four

theorem costs_box {w : World} {cs : Array Value} {T : Nat} (i : Nat) : (w.alloc (.cells cs T)).cell? ⟨w.heap.size, i, none⟩ = cs[i]? := cell_of_blk (heap_alloc_new w _) i
set_option maxRecDepth 100000 in
set_option maxHeartbeats 8000000 in
theorem costs_calls (r : Reg) (w : World) (h : FineP r) (h4 : r.n ≤ 4) :
    Calls Try.prog 6 #[r.v] w fun e w' => e = .returned (.tuple #[.int .i64 (costW r (r.n - 1).toNat), .int .i64 (costR r (r.n - 1).toNat)]) ∧ Below w.heap.size w w' := by
  have hcl := cells_reg r h h4
  have hu := uMost_in r.top
  obtain ⟨k1, k7, _, _, n1, _, t1, t3, _, _⟩ := h
  obtain ⟨kind, base, loc, n, wr, rd, top⟩ := r
  simp only [Reg.v, Reg.cs] at *
  have HB : Below w.heap.size w (w.alloc (.cells #[.int .i64 kind, .int .i64 base, .int .i64 loc, .int .i64 n, .int .i64 wr, .int .i64 rd, .int .i64 top] 23)) := (Below.refl _ _).alloc (Nat.le_refl _) _
  have E := fun (a b c d : Int) (h1 : a = c) (h2 : b = d) => (show Ending.returned (.tuple #[.int .i64 a, .int .i64 b]) = Ending.returned (.tuple #[.int .i64 c, .int .i64 d]) by rw [h1, h2])
  rcases (show kind = 1 ∨ kind = 2 ∨ kind = 3 ∨ kind = 4 ∨ kind = 5 ∨ kind = 6 ∨ kind = 7 by omega) with rfl | rfl | rfl | rfl | rfl | rfl | rfl
  case inr.inr.inl =>
    have ht := t3 rfl
    have e : uMost top = top := by unfold uMost; omega
    have eW : ((costW ⟨3, base, loc, n, wr, rd, top⟩ (n - 1).toNat : Nat) : Int) = top + 1 := by simp [costW, e]; omega
    have eR : ((costR ⟨3, base, loc, n, wr, rd, top⟩ (n - 1).toNat : Nat) : Int) = top + 1 := by simp [costR, e]; omega
    have ec : cellsS ⟨3, base, loc, n, wr, rd, top⟩ (n - 1).toNat = top + 1 := by simp [cellsS, e]
    rw [eW, eR]
    rw [ec] at hcl
    replace hcl := Lib.hid hcl
    replace HB := Lib.hid HB
    clear eW eR ec e hu t3 E
    rcases (show n = 1 ∨ n = 2 ∨ n = 3 ∨ n = 4 by omega) with rfl | rfl | rfl | rfl
    all_goals
      go_enter Try.func6, Try.ntmps6
      go_wp2_with fail
      refine (reg_Cells.calls 100 _ _ _ _ _ _ _ _ _ hcl.out).mono ?_
      rintro e_ w_ ⟨rfl, hb_⟩
      replace hb_ := Lib.hid hb_
      go_wp2_with fail
      go_ret2
      exact ⟨rfl, HB.out.trans (hb_.out.mono HB.out.size)⟩
  all_goals
    clear hcl hu t3
    replace HB := Lib.hid HB
    replace E := Lib.hid E
    rcases (show n = 1 ∨ n = 2 ∨ n = 3 ∨ n = 4 by omega) with rfl | rfl | rfl | rfl
    all_goals
      go_enter Try.func6, Try.ntmps6
      go_wp2_with fail
      go_ret2
      exact ⟨E.out _ _ _ _ (by first | rfl | simp [costW, costR, tCost]) (by first | rfl | simp [costW, costR, tCost]), HB.out⟩
end Go.Proofs.Ytfaihahpnjgejaa
namespace Go.Proofs.Ytfaihahpnjgejaa
open Go.RowKit Go.Proofs.YtfaihahpnjgejaaW.PrintWords Go.Proofs.YtfaihahpnjgejaaW.PrintLast Go.Proofs.YtfaihahpnjgejaaW.PrintMore Go.Proofs.Ytfaihahpnjgejaa.PRegCosts

def aliveReg : Reg := { kind := 6, base := 0, loc := 0, n := 3, writer := 0, reader := -1, top := 9 }
theorem aliveFine : FineP aliveReg := ⟨by decide, by decide, by decide, by decide, by decide, by decide, by decide, by decide, by decide, by decide⟩
theorem aliveCosts (w : World) : Calls Try.prog 6 #[.agg #[.int .i64 6, .int .i64 0, .int .i64 0, .int .i64 3, .int .i64 0, .int .i64 (-1), .int .i64 9]] w fun e w' => e = .returned (.tuple #[.int .i64 28, .int .i64 50]) ∧ Below w.heap.size w w' :=
  costs_calls aliveReg w aliveFine (by decide)
theorem alivePlay (w : World) : Calls Try.prog 8 #[.func (.func 18) #[] #[], .slice none 0 0, .slice (some ⟨w.heap.size, 0, none⟩) 1 1] (w.alloc (.cells #[.int .i64 6] 3)) fun e w' =>
    ∃ g s B n c, e = .returned (.tuple #[.int .i64 6, .agg (outV true g s (.slice B n c))]) ∧ Below w.heap.size w w' := by
  refine (play_calls0 (w.alloc (.cells #[.int .i64 6] 3)) 18 #[] (some ⟨w.heap.size, 0, none⟩) 1 [6] (fun s => OpM.bind (regR cell4 0) OpM.ret s) ?_ (by decide) (enters_of Try.func18 (by kernel_rfl) rfl) ?_).mono ?_
  · intro j hj
    obtain rfl : j = 0 := by simp at hj; exact hj
    exact ⟨_, rfl, by have h := cell_of_blk (heap_alloc_new w (.cells #[.int .i64 6] 3)) 0; simp [Addr.add]⟩
  · intro b W hm _ _
    exact alive1_calls hm
  · rintro e w' ⟨g, s, l, hb, _, _, hl, ⟨x, hx, rfl⟩ | ⟨hx, rfl⟩⟩
    · have h6 : x = 6 := by
        have : (some x, s) = ((some 6 : Option Int), _) := hx.symm.trans rfl
        exact Option.some.inj (congrArg Prod.fst this)
      subst h6
      obtain ⟨B, n, c, rfl⟩ := own_slice hl
      exact ⟨g, s, B, n, c, rfl, ((Below.refl _ _).alloc (Nat.le_refl _) _).trans (hb.mono (by simp))⟩
    · have : (none : Option Int) = some 6 := congrArg Prod.fst (hx.symm.trans rfl)
      cases this
set_option maxRecDepth 100000 in
set_option maxHeartbeats 8000000 in
theorem alive_calls (w : World) : Calls Try.prog 5 #[] w fun e w' => e = .returned (.bool true) ∧ Below w.heap.size w w' := by
  have H0 := Lib.hid ((Below.refl w.heap.size w).alloc (Nat.le_refl _) (.cells #[.int .i64 6, .int .i64 0, .int .i64 0, .int .i64 3, .int .i64 0, .int .i64 (-1), .int .i64 9] 23))
  have HX : Hid ((w.alloc (.cells #[.int .i64 6, .int .i64 0, .int .i64 0, .int .i64 3, .int .i64 0, .int .i64 (-1), .int .i64 9] 23)).heap[w.heap.size]? = some _) := Lib.hid (heap_alloc_new w _)
  go_enter Try.func5, Try.ntmps5
  go_wp2_with fail
  generalize (w.alloc (.cells #[.int .i64 6, .int .i64 0, .int .i64 0, .int .i64 3, .int .i64 0, .int .i64 (-1), .int .i64 9] 23)) = w0 at *
  refine (aliveCosts _).mono ?_
  rintro e_ w1 ⟨rfl, hb⟩
  replace HX := Lib.hid ((hb.block _ (heap_lt HX.out)).trans HX.out)
  replace H0 := Lib.hid (H0.out.trans (hb.mono H0.out.size))
  clear hb
  go_wp2_with fail
  refine (alivePlay _).mono ?_
  rintro e_ w_ ⟨g_, s_, B_, n_, c_, rfl, hb⟩
  replace HX := Lib.hid ((hb.block _ (heap_lt HX.out)).trans HX.out)
  replace H0 := Lib.hid (H0.out.trans (hb.mono H0.out.size))
  clear hb
  simp only [outV]
  have HS := Lib.hid ((Below.refl w_.heap.size w_).alloc (Nat.le_refl _) (.cells #[.bool true, .slice g_.vA s_.acc.length g_.vC, .slice g_.nA s_.nts.length g_.nC, .slice B_ n_ c_] 33))
  have O0 := Lib.hid (heap_alloc_new w_ (.cells #[.bool true, .slice g_.vA s_.acc.length g_.vC, .slice g_.nA s_.nts.length g_.nC, .slice B_ n_ c_] 33))
  replace HX := Lib.hid ((HS.out.block _ (heap_lt HX.out)).trans HX.out)
  replace H0 := Lib.hid (H0.out.trans (HS.out.mono H0.out.size))
  have c0 := cell_of_blk HX.out 0
  have c1 := cell_of_blk HX.out 1
  have c2 := cell_of_blk HX.out 2
  have c3 := cell_of_blk HX.out 3
  have c4 := cell_of_blk HX.out 4
  have c5 := cell_of_blk HX.out 5
  have c6 := cell_of_blk HX.out 6
  simp at c0 c1 c2 c3 c4 c5 c6
  have o0 := cell_of_blk O0.out 0
  simp at o0
  go_wp2_with fail
  have hob := Lib.hid (heap_lt O0.out)
  clear HS
  generalize (w_.alloc (.cells #[.bool true, .slice g_.vA s_.acc.length g_.vC, .slice g_.nA s_.nts.length g_.nC, .slice B_ n_ c_] 33)) = w2 at *
  generalize w_.heap.size = ob at *
  refine (fine_alive _).mono ?_
  rintro e_ w_ ⟨rfl, hb⟩
  clear c0 c1 c2 c3 c4 c5 c6 o0
  replace HX := Lib.hid ((hb.block _ (heap_lt HX.out)).trans HX.out)
  replace H0 := Lib.hid (H0.out.trans (hb.mono H0.out.size))
  replace O0 := Lib.hid ((hb.block _ (heap_lt O0.out)).trans O0.out)
  clear hb
  have c0 := cell_of_blk HX.out 0
  have c1 := cell_of_blk HX.out 1
  have c2 := cell_of_blk HX.out 2
  have c3 := cell_of_blk HX.out 3
  have c4 := cell_of_blk HX.out 4
  have c5 := cell_of_blk HX.out 5
  have c6 := cell_of_blk HX.out 6
  simp at c0 c1 c2 c3 c4 c5 c6
  have o0 := cell_of_blk O0.out 0
  simp at o0
  go_wp2_with fail
  refine (reg_Cells.calls 100 _ _ _ _ _ _ _ _ _ alive_cells).mono ?_
  rintro e_ w_ ⟨rfl, hb⟩
  clear c0 c1 c2 c3 c4 c5 c6 o0
  replace HX := Lib.hid ((hb.block _ (heap_lt HX.out)).trans HX.out)
  replace H0 := Lib.hid (H0.out.trans (hb.mono H0.out.size))
  replace O0 := Lib.hid ((hb.block _ (heap_lt O0.out)).trans O0.out)
  clear hb
  have c0 := cell_of_blk HX.out 0
  have c1 := cell_of_blk HX.out 1
  have c2 := cell_of_blk HX.out 2
  have c3 := cell_of_blk HX.out 3
  have c4 := cell_of_blk HX.out 4
  have c5 := cell_of_blk HX.out 5
  have c6 := cell_of_blk HX.out 6
  simp at c0 c1 c2 c3 c4 c5 c6
  have o0 := cell_of_blk O0.out 0
  simp at o0
  go_wp2_with fail
  refine (reg_Locals.calls _ _ _ _ _ _ _ _ _ alive_locals).mono ?_
  rintro e_ w_ ⟨rfl, hb⟩
  clear c0 c1 c2 c3 c4 c5 c6 o0
  replace HX := Lib.hid ((hb.block _ (heap_lt HX.out)).trans HX.out)
  replace H0 := Lib.hid (H0.out.trans (hb.mono H0.out.size))
  replace O0 := Lib.hid ((hb.block _ (heap_lt O0.out)).trans O0.out)
  clear hb
  have c0 := cell_of_blk HX.out 0
  have c1 := cell_of_blk HX.out 1
  have c2 := cell_of_blk HX.out 2
  have c3 := cell_of_blk HX.out 3
  have c4 := cell_of_blk HX.out 4
  have c5 := cell_of_blk HX.out 5
  have c6 := cell_of_blk HX.out 6
  simp at c0 c1 c2 c3 c4 c5 c6
  have o0 := cell_of_blk O0.out 0
  simp at o0
  go_wp2_with fail
  refine (reg_MayWrite.calls _ _ _ _ _ _ _ _ _ _ alive_w0).mono ?_
  rintro e_ w_ ⟨rfl, hb⟩
  clear c0 c1 c2 c3 c4 c5 c6 o0
  replace HX := Lib.hid ((hb.block _ (heap_lt HX.out)).trans HX.out)
  replace H0 := Lib.hid (H0.out.trans (hb.mono H0.out.size))
  replace O0 := Lib.hid ((hb.block _ (heap_lt O0.out)).trans O0.out)
  clear hb
  have c0 := cell_of_blk HX.out 0
  have c1 := cell_of_blk HX.out 1
  have c2 := cell_of_blk HX.out 2
  have c3 := cell_of_blk HX.out 3
  have c4 := cell_of_blk HX.out 4
  have c5 := cell_of_blk HX.out 5
  have c6 := cell_of_blk HX.out 6
  simp at c0 c1 c2 c3 c4 c5 c6
  have o0 := cell_of_blk O0.out 0
  simp at o0
  go_wp2_with fail
  refine (reg_MayWrite.calls _ _ _ _ _ _ _ _ _ _ alive_w1).mono ?_
  rintro e_ w_ ⟨rfl, hb⟩
  clear c0 c1 c2 c3 c4 c5 c6 o0
  replace HX := Lib.hid ((hb.block _ (heap_lt HX.out)).trans HX.out)
  replace H0 := Lib.hid (H0.out.trans (hb.mono H0.out.size))
  replace O0 := Lib.hid ((hb.block _ (heap_lt O0.out)).trans O0.out)
  clear hb
  have c0 := cell_of_blk HX.out 0
  have c1 := cell_of_blk HX.out 1
  have c2 := cell_of_blk HX.out 2
  have c3 := cell_of_blk HX.out 3
  have c4 := cell_of_blk HX.out 4
  have c5 := cell_of_blk HX.out 5
  have c6 := cell_of_blk HX.out 6
  simp at c0 c1 c2 c3 c4 c5 c6
  have o0 := cell_of_blk O0.out 0
  simp at o0
  go_wp2_with fail
  refine (reg_MayRead.calls _ _ _ _ _ _ _ _ _ _ alive_r2).mono ?_
  rintro e_ w_ ⟨rfl, hb⟩
  clear c0 c1 c2 c3 c4 c5 c6 o0
  replace HX := Lib.hid ((hb.block _ (heap_lt HX.out)).trans HX.out)
  replace H0 := Lib.hid (H0.out.trans (hb.mono H0.out.size))
  replace O0 := Lib.hid ((hb.block _ (heap_lt O0.out)).trans O0.out)
  clear hb
  have c0 := cell_of_blk HX.out 0
  have c1 := cell_of_blk HX.out 1
  have c2 := cell_of_blk HX.out 2
  have c3 := cell_of_blk HX.out 3
  have c4 := cell_of_blk HX.out 4
  have c5 := cell_of_blk HX.out 5
  have c6 := cell_of_blk HX.out 6
  simp at c0 c1 c2 c3 c4 c5 c6
  have o0 := cell_of_blk O0.out 0
  simp at o0
  go_wp2_with fail
  refine (fine_none _).mono ?_
  rintro e_ w_ ⟨rfl, hb⟩
  clear c0 c1 c2 c3 c4 c5 c6 o0
  replace H0 := Lib.hid (H0.out.trans (hb.mono H0.out.size))
  clear hb HX O0
  go_wp2_with fail
  go_ret
  exact ⟨rfl, H0.out⟩
end Go.Proofs.Ytfaihahpnjgejaa
namespace Go.Proofs.Ytfaihahpnjgejaa
open Go.RowKit Go.Proofs.YtfaihahpnjgejaaW.PrintWords Go.Proofs.YtfaihahpnjgejaaW.PrintLast Go.Proofs.YtfaihahpnjgejaaW.PrintMore Go.Proofs.Ytfaihahpnjgejaa.PRegCosts

theorem wrap_ref (a : Int) : kevelref01_Wrap.f a 1048576 = some (a % 1048577) := by
  unfold kevelref01_Wrap.f kevelref01_within.f
  rw [if_neg (by decide), if_neg (by decide)]
  simp only [Option.bind_some]
  rw [w64_in (x := 1048576 + 1) (by decide) (by decide), if_neg (by decide)]
  have e : (1048576 + 1 : Int) = 1048577 := rfl
  rw [e]
  split
  · rename_i h
    congr 1
    have h1 : Int.tmod a 1048577 = a % 1048577 - 1048577 ∨ Int.tmod a 1048577 = a % 1048577 := by
      rw [Int.tmod_eq_emod]; split <;> simp
    have h2 : 0 ≤ a % 1048577 := Int.emod_nonneg _ (by decide)
    have h3 : a % 1048577 < 1048577 := Int.emod_lt_of_pos _ (by decide)
    rw [w64_in (by omega) (by omega)]
    omega
  · rename_i h
    congr 1
    have h1 : Int.tmod a 1048577 = a % 1048577 - 1048577 ∨ Int.tmod a 1048577 = a % 1048577 := by
      rw [Int.tmod_eq_emod]; split <;> simp
    have h3 : a % 1048577 < 1048577 := Int.emod_lt_of_pos _ (by decide)
    omega
def tameL (l : List Int) : List Int := l.map (· % 1048577)
theorem tame_loop (l : List Int) (hl : l.length ≤ 2500) : ∀ (d i k : Nat), l.length - i = d → i ≤ l.length → d < k → kevelref10_Tame.l0 k l 1048576 (tameL (l.take i)) i = some (tameL l)
  | 0, i, k, hd, hi, hk => by
    obtain ⟨k, rfl⟩ : ∃ m, k = m + 1 := ⟨k - 1, by omega⟩
    have : i = l.length := by omega
    subst this
    rw [kevelref10_Tame.l0, if_neg (by omega), List.take_length]
  | d + 1, i, k, hd, hi, hk => by
    obtain ⟨k, rfl⟩ : ∃ m, k = m + 1 := ⟨k - 1, by omega⟩
    have hlt : i < l.length := by omega
    have hlen : (tameL (l.take i)).length = i := by simp [tameL]; omega
    rw [kevelref10_Tame.l0, if_pos (by omega), if_pos (by omega), if_pos (by omega), wrap_ref]
    simp only [Option.bind_some]
    rw [if_pos (by omega), w64_in (by omega) (by omega)]
    have e : tameL (l.take i) ++ [rd l (i : Int) % 1048577] = tameL (l.take (i + 1)) := by
      rw [List.take_add_one, List.getElem?_eq_getElem hlt]
      simp [tameL, rd, hlt]
      rw [List.take_add_one]
      simp [hlt]
    rw [e]
    have := tame_loop l hl d (i + 1) k (by omega) (by omega) (by omega)
    rw [← this]
    congr 1
theorem tame_ref (l : List Int) (hl : l.length ≤ 2500) : kevelref10_Tame.f 2502 l 1048576 = some (tameL l) := by
  have := tame_loop l hl l.length 0 2502 rfl (by omega) (by omega)
  simpa [kevelref10_Tame.f, tameL] using this
theorem reps_ints {xs : List Int} {cs : List Value} (h : Reps (fun x c => c = [Value.int .i64 x]) 1 xs cs) : cs = xs.map (Value.int .i64) := by
  obtain ⟨hl, hr⟩ := h
  have hl' : cs.length = xs.length := by omega
  apply List.ext_getElem (by simpa using hl')
  intro i h1 h2
  have hi : i < xs.length := by omega
  have := hr i xs[i] (List.getElem?_eq_getElem hi)
  rw [Nat.mul_one, List.drop_eq_getElem_cons h1] at this
  have e : cs[i] = Value.int .i64 xs[i] := by simpa only [List.take_succ_cons, List.take_zero, List.cons.injEq, and_true] using this
  simp [e]
theorem R_ints {e : Nat} {w : World} {base : Nat} {ok : Nat → Prop} {v : Value} {xs : List Int} (h : (Kd.int .i64).R e w base ok v xs) : w.ownsRow base e 1 v xs.length (xs.map (Value.int .i64)) := by
  obtain ⟨_, inner, ho, hr⟩ := h
  have : inner = xs.map (Value.int .i64) := reps_ints hr
  subst this
  exact ho
/-- zeros laid behind a row of the call's own, as one step of a list of operations -/
theorem wpList_append_zeros {P : Program} {ops : Array Oper} {rest : List Oper} {o : Oper} {a : Act} {Q : Exit → Act → World → Prop} {W : World}
    (hgd : o.guard = none) (s x : Operand) (t ti e : TypeId) (z : Value) (size bytes : Nat) (ho : o.op = .call { callee := .builtin .append, args := #[s, x], argTypes := #[t, ti] })
    (ht : P.underlying t = some (.slice e)) {k : IntKind} (hti : P.underlying ti = some (.int k)) (hinfo : (P.info? e).map (fun i => (i.zero, i.size, i.bytes)) = some (some z, size, bytes)) (hz : z.cells.size = size) (hs0 : 0 < size) (hb0 : 0 < bytes)
    (A : Option Addr) (n c m : Nat) (xs : List Value) (hs : a.eval s = .slice A n c) (hx : a.eval x = .int .i64 m)
    (h1 : ∀ u ∈ (Builtin.zeroCells z.cells m).toList, u.oneCell' = true) (hm : 0 < m)
    (HO : W.ownsRow 0 e size (.slice A n c) n xs) (hl : (n + m) * bytes ≤ 140737488355328)
    (h : ∀ A' c' w1, w1.ownsRow 0 e size (.slice A' (n + m) c') (n + m) (xs ++ (Builtin.zeroCells z.cells m).toList) → W.grownBy w1 (blk? A) → (blk? A' = blk? A ∨ blk? A' = some W.heap.size) → wpList P ops Q rest (a.put o.dst (.slice A' (n + m) c')) w1) :
    wpList P ops Q (o :: rest) a W := by
  have hw : Region.wanted o (yielded ops a.tmps) = true := by simp [Region.wanted, hgd]
  have := step_append_zeros (ops := ops) (Q := Q) (E := True) hgd s x t ti e z size bytes ho ht hti hinfo hz hs0 hb0 A n c m xs hs hx h1 hm HO hl h
  rw [if_pos hw] at this
  unfold wpList
  rw [if_pos hw]
  exact .inl this
theorem own_ans {w : World} {base e n c : Nat} {A : Option Addr} {xs : List Int} (h : w.ownsRow base e 1 (.slice A n c) n (xs.map (Value.int .i64))) (hn : xs.length = n) : ∀ j, j < xs.length → ∃ ad, A = some ad ∧ w.cell? (ad.add j) = some (.int .i64 (xs.getD j 0)) := by
  intro j hj
  rcases h.2 with ⟨_, h0⟩ | ⟨g, cap, cur, hv, _, hg, _, _, _, ht⟩
  · omega
  · simp at hv
    refine ⟨_, hv.1, ?_⟩
    have : (xs.map (Value.int .i64))[j]? = some (.int .i64 (xs.getD j 0)) := by simp [hj, List.getD_eq_getElem?_getD]
    rw [← ht, List.getElem?_take] at this
    simp at this
    have ha : (⟨g, 0, none⟩ : Addr).add j = ⟨g, j, none⟩ := by unfold Addr.add; split <;> simp_all
    rw [ha, World.cell?, hg]
    simpa using this.2
end Go.Proofs.Ytfaihahpnjgejaa
namespace Go.Proofs.Ytfaihahpnjgejaa
open Go.RowKit Go.Proofs.YtfaihahpnjgejaaW.PrintWords Go.Proofs.YtfaihahpnjgejaaW.PrintLast Go.Proofs.YtfaihahpnjgejaaW.PrintMore Go.Proofs.Ytfaihahpnjgejaa.PRegCosts

set_option maxRecDepth 100000 in
set_option maxHeartbeats 8000000 in
theorem rc_out (r : Reg) (me : Int) (A : Option Addr) (len cap : Nat) (v : Int) (w : World) (b : Bool) (hf : kevelref17_Fine.f 10 r.kind r.base r.loc r.n r.writer r.reader r.top = some b) (hlen : len ≤ 9223372036854775807) (hc : b = false ∨ 4 < r.n ∨ 2500 < len) :
    Calls Try.prog 3 #[r.v, .int .u8 me, .slice A len cap, .int .i64 v] w fun e w' => e = .returned (.bool true) ∧ Below w.heap.size w w' := by
  have HS := Lib.hid (((Below.refl w.heap.size w).alloc (Nat.le_refl _) (.cells r.cs 23)).alloc (by simp) (.cells #[.int .i64 v] 3))
  have HX := Lib.hid ((Below.heap_alloc (w.alloc (.cells r.cs 23)) (.cells #[.int .i64 v] 3) w.heap.size (by simp)).trans (heap_alloc_new w (.cells r.cs 23)))
  unfold Reg.v
  unfold Reg.cs at *
  have c0 := cell_of_blk HX.out 0
  have c1 := cell_of_blk HX.out 1
  have c2 := cell_of_blk HX.out 2
  have c3 := cell_of_blk HX.out 3
  have c4 := cell_of_blk HX.out 4
  have c5 := cell_of_blk HX.out 5
  have c6 := cell_of_blk HX.out 6
  simp at c0 c1 c2 c3 c4 c5 c6
  replace hf := Lib.hid hf
  have step : ∀ W : World, Below w.heap.size w W → Calls Try.prog 5 #[] W fun e w' => e = .returned (.bool true) ∧ Below w.heap.size w w' := fun W hb =>
    (alive_calls W).mono fun e w' ⟨he, hb'⟩ => ⟨he, hb.trans (hb'.mono hb.size)⟩
  replace step := Lib.hid step
  cases b with
  | false =>
    clear hc
    go_enter Try.func3, Try.ntmps3
    go_wp2_with fail
    refine (kevelref17_Fine.calls 10 _ _ _ _ _ _ _ _ _ hf.out).mono ?_
    rintro e_ w_ ⟨rfl, hb⟩
    have HB := Lib.hid (HS.out.trans (hb.mono HS.out.size))
    clear hb HS HX c0 c1 c2 c3 c4 c5 c6
    go_wp2_with fail
    refine (step.out _ HB.out).mono ?_
    rintro e_ w2 ⟨rfl, hb⟩
    go_wp2_with fail
    go_ret
    exact ⟨rfl, hb⟩
  | true =>
    by_cases h4 : 4 < r.n
    · clear hc
      go_enter Try.func3, Try.ntmps3
      go_wp2_with fail
      refine (kevelref17_Fine.calls 10 _ _ _ _ _ _ _ _ _ hf.out).mono ?_
      rintro e_ w_ ⟨rfl, hb⟩
      have HB := Lib.hid (HS.out.trans (hb.mono HS.out.size))
      have HX2 := Lib.hid ((hb.block _ (heap_lt HX.out)).trans HX.out)
      clear hb HS HX c0 c1 c2 c3 c4 c5 c6
      have c3 := cell_of_blk HX2.out 3
      simp at c3
      go_wp2_with fail
      refine (step.out _ HB.out).mono ?_
      rintro e_ w2 ⟨rfl, hb⟩
      go_wp2_with fail
      go_ret
      exact ⟨rfl, hb⟩
    · have hl : (2500 : Int) < (len : Int) := by rcases hc with h | h | h; cases h; exact (h4 h).elim; omega
      clear hc
      go_enter Try.func3, Try.ntmps3
      go_wp2_with fail
      refine (kevelref17_Fine.calls 10 _ _ _ _ _ _ _ _ _ hf.out).mono ?_
      rintro e_ w_ ⟨rfl, hb⟩
      have HB := Lib.hid (HS.out.trans (hb.mono HS.out.size))
      have HX2 := Lib.hid ((hb.block _ (heap_lt HX.out)).trans HX.out)
      clear hb HS HX c0 c1 c2 c3 c4 c5 c6
      have c3 := cell_of_blk HX2.out 3
      simp at c3
      go_wp2_with fail
      refine (step.out _ HB.out).mono ?_
      rintro e_ w2 ⟨rfl, hb⟩
      go_wp2_with fail
      go_ret
      exact ⟨rfl, hb⟩
end Go.Proofs.Ytfaihahpnjgejaa
namespace Go.Proofs.Ytfaihahpnjgejaa
open Go.RowKit Go.Proofs.YtfaihahpnjgejaaW.PrintWords Go.Proofs.YtfaihahpnjgejaaW.PrintLast Go.Proofs.YtfaihahpnjgejaaW.PrintMore Go.Proofs.Ytfaihahpnjgejaa.PRegCosts

def fullL (l : List Int) : List Int := tameL l ++ List.replicate 700 0
theorem fullL_len (l : List Int) : (fullL l).length = l.length + 700 := by
  unfold fullL; rw [List.length_append, List.length_replicate]; simp only [tameL, List.length_map]
theorem own_slice_n {w : World} {base e size m : Nat} {v : Value} {xs : List Value} (h : w.ownsRow base e size v m xs) : ∃ A c, v = .slice A m c := by
  rcases h.2 with ⟨rfl, h0⟩ | ⟨g, cap, cur, rfl, _⟩
  · subst h0; exact ⟨_, _, rfl⟩
  · exact ⟨_, _, rfl⟩
/-- a play that was not stopped: what it hands back -/
def PlayOk (r : Reg) (k cost : Nat) (w : World) (e : Ending) (w' : World) : Prop :=
  ∃ (x : Int) (acc : List Acc) (A : Option Addr) (c : Nat) (N : Option Addr) (nn nc : Nat) (B : Option Addr) (nl cl : Nat),
    e = .returned (.tuple #[.int .i64 x, .agg #[.bool true, .slice A acc.length c, .slice N nn nc, .slice B nl cl]]) ∧ Below w.heap.size w w' ∧
    w'.ownsRow 0 41 3 (.slice A acc.length c) acc.length (acc.flatMap Acc.cells) ∧ acc.length ≤ cost ∧ (∀ a ∈ acc, r.base ≤ a.cell ∧ a.cell < r.base + cellsS r k) ∧ (nl : Int) ≤ r.loc + localsS r k ∧ cost ≤ 300
theorem playOk_of {r : Reg} {k cost : Nat} {w : World} {ans : List Int} {m : OpM Int} (hK : Kst r.base (r.base + cellsS r k) (r.loc + localsS r k) cost m) (hans : 700 ≤ ans.length) (hcost : cost ≤ 300) (hloc : 0 ≤ r.loc + localsS r k) {e : Ending} {w' : World}
    (h : PlayPost w ans m e w') : PlayOk r k cost w e w' := by
  obtain ⟨g', s', l, hb, _, hm, hl, hc⟩ := h
  obtain ⟨x, s2, more, hx, _, ha, hlen, hin, hloc2⟩ := hK (st0 ans) (by simp [st0]; omega) (by simp [st0]; exact hloc)
  have e2 : (st0 ans).acc = [] := rfl
  rw [e2, List.nil_append] at ha
  rcases hc with ⟨y, hy, rfl⟩ | ⟨hy, _⟩
  · have : (some x, s2) = (some y, s') := hx.symm.trans hy
    simp only [Prod.mk.injEq] at this
    obtain ⟨_, rfl⟩ := this
    obtain ⟨B, cl, rfl⟩ := own_slice_n hl
    refine ⟨y, s2.acc, g'.vA, g'.vC, g'.nA, s2.nts.length, g'.nC, B, _, cl, rfl, hb, hm.vown, by rw [ha]; exact hlen, by rw [ha]; exact hin, ?_, hcost⟩
    have := shortN_le s2.loc s2.loc.length
    omega
  · have : (some x, s2) = (none, s') := hx.symm.trans hy
    simp at this
theorem kst_bind0 {lo hi L : Int} {c : Nat} {α β : Type} {m : OpM α} {f : α → OpM β} (h : Kst lo hi L c m) (k : ∀ x, Kst lo hi L 0 (f x)) : Kst lo hi L c (OpM.bind m f) := (k_bind (d := 0) h k).le (by omega)

/-- the boxes that the closures have captured -/
theorem reg_in4 {r : Reg} (h : FineP r) : r.In4 := by
  have h1 := cellsS_pos r (r.n - 1).toNat
  have h2 := localsS_pos r (r.n - 1).toNat
  have := h.b0; have := h.l0; have := h.cells; have := h.locals
  exact ⟨by omega, by omega, by omega, by omega⟩
theorem rc_play1 (r : Reg) (t v : Int) (k : Nat) (w : World) (rb tb vb : Nat) (A : Option Addr) (c : Nat) (l : List Int) (hF : FineP r) (hk : (r.n - 1).toNat = k) (hk3 : k ≤ 3) (hkt : threadsS r.n = k + 1) (hl : l.length ≤ 2500)
    (hX : w.heap[rb]? = some (.cells r.cs 23 (0, 0))) (hT : w.heap[tb]? = some (.cells #[.int .i64 t] 3 (0, 0))) (hV : w.heap[vb]? = some (.cells #[.int .i64 v] 3 (0, 0)))
    (hA : w.ownsRow 0 3 1 (.slice A (l.length + 700) c) (l.length + 700) ((fullL l).map (Value.int .i64))) :
    Calls Try.prog 8 #[.func (.func 9) #[] #[.pointer (some ⟨rb, 0, none⟩), .pointer (some ⟨tb, 0, none⟩), .pointer (some ⟨vb, 0, none⟩)], .slice none 0 0, .slice A (l.length + 700) c] w
      (PlayOk r k (costW r k) w) := by
  have P := play_calls0 w 9 #[.pointer (some ⟨rb, 0, none⟩), .pointer (some ⟨tb, 0, none⟩), .pointer (some ⟨vb, 0, none⟩)] A c (fullL l) (OpM.bind (regW r t v) (fun _ => OpM.ret 0))
    (own_ans hA (fullL_len l)) (by rw [fullL_len]; omega) (enters_of Try.func9 (by kernel_rfl) rfl)
    (fun b W hm _ hb => costs1_calls r t v rb tb vb (reg_in4 hF) hm (fun i => by rw [hb.cell (p := ⟨rb, i, none⟩) (heap_lt hX)]; exact cell_of_blk hX i) (by rw [hb.cell (p := ⟨tb, 0, none⟩) (heap_lt hT)]; exact cell_of_blk hT 0) (by rw [hb.cell (p := ⟨vb, 0, none⟩) (heap_lt hV)]; exact cell_of_blk hV 0))
  rw [fullL_len] at P
  refine P.mono fun e w' h => ?_
  have h1 := localsS_pos r k
  have h2 := hF.l0
  exact playOk_of (kst_bind0 (k_regW r t v k hkt hk3) fun _ => k_ret _) (by rw [fullL_len]; omega) (cost_max r k hk3).1 (by omega) h
theorem rc_play2 (r : Reg) (t : Int) (k : Nat) (w : World) (rb tb : Nat) (A : Option Addr) (c : Nat) (l : List Int) (hF : FineP r) (hk : (r.n - 1).toNat = k) (hk3 : k ≤ 3) (hkt : threadsS r.n = k + 1) (hl : l.length ≤ 2500)
    (hX : w.heap[rb]? = some (.cells r.cs 23 (0, 0))) (hT : w.heap[tb]? = some (.cells #[.int .i64 t] 3 (0, 0)))
    (hA : w.ownsRow 0 3 1 (.slice A (l.length + 700) c) (l.length + 700) ((fullL l).map (Value.int .i64))) :
    Calls Try.prog 8 #[.func (.func 11) #[] #[.pointer (some ⟨rb, 0, none⟩), .pointer (some ⟨tb, 0, none⟩)], .slice none 0 0, .slice A (l.length + 700) c] w
      (PlayOk r k (costR r k) w) := by
  have P := play_calls0 w 11 #[.pointer (some ⟨rb, 0, none⟩), .pointer (some ⟨tb, 0, none⟩)] A c (fullL l) (OpM.bind (regR r t) OpM.ret)
    (own_ans hA (fullL_len l)) (by rw [fullL_len]; omega) (enters_of Try.func11 (by kernel_rfl) rfl)
    (fun b W hm _ hb => costs2_calls r t rb tb (reg_in4 hF) hm (fun i => by rw [hb.cell (p := ⟨rb, i, none⟩) (heap_lt hX)]; exact cell_of_blk hX i) (by rw [hb.cell (p := ⟨tb, 0, none⟩) (heap_lt hT)]; exact cell_of_blk hT 0))
  rw [fullL_len] at P
  refine P.mono fun e w' h => ?_
  have h1 := localsS_pos r k
  have h2 := hF.l0
  exact playOk_of (kst_bind0 (k_regR r t k hkt hk3) fun x => k_ret x) (by rw [fullL_len]; omega) (cost_max r k hk3).2 (by omega) h
/-- a row of the call's own laid behind another, as one step of a region -/
theorem step_append_row {P : Program} {ops : Array Oper} {o : Oper} {a : Act} {Q : Exit → Act → World → Prop} {K : Act → World → Prop} {E : Prop} {W : World}
    (hgd : o.guard = none) (s x : Operand) (t e : TypeId) (z : Value) (size bytes : Nat) (ho : o.op = .call { callee := .builtin .append, args := #[s, x], argTypes := #[t, t] })
    (ht : P.underlying t = some (.slice e)) (hinfo : (P.info? e).map (fun i => (i.zero, i.size, i.bytes)) = some (some z, size, bytes)) (hz : z.cells.size = size) (hs0 : 0 < size) (hb0 : 0 < bytes)
    (A : Option Addr) (n c : Nat) (B : Option Addr) (m d : Nat) (xs ys : List Value) (hs : a.eval s = .slice A n c) (hx : a.eval x = .slice B m d) (h1 : ∀ u ∈ ys, u.oneCell' = true)
    (HO : W.ownsRow 0 e size (.slice A n c) n xs) (HY : W.ownsRow 0 e size (.slice B m d) m ys) (hl : (n + m) * bytes ≤ 140737488355328)
    (h : ∀ A' c' w1, w1.ownsRow 0 e size (.slice A' (n + m) c') (n + m) (xs ++ ys) → W.grownBy w1 (blk? A) → (blk? A' = blk? A ∨ blk? A' = some W.heap.size) → K (a.put o.dst (.slice A' (n + m) c')) w1) :
    if Region.wanted o (yielded ops a.tmps) = true then Oper.wp P o a W K Q else E := by
  have hw : Region.wanted o (yielded ops a.tmps) = true := by simp [Region.wanted, hgd]
  rw [if_pos hw]
  obtain ⟨i0, hi, hzz⟩ := Option.map_eq_some_iff.1 hinfo
  simp only [Prod.mk.injEq] at hzz
  obtain ⟨hz0, hz1, hz2⟩ := hzz
  have hlen : n + m ≤ 140737488355328 := Nat.le_trans (Nat.le_mul_of_pos_right _ hb0) hl
  have hrun : ∃ A' c' w1, (Builtin.append_ #[t, t] o.type #[.slice A n c, .slice B m d]).run P W = .ok (.slice A' (n + m) c') w1 ∧ w1.ownsRow 0 e size (.slice A' (n + m) c') (n + m) (xs ++ ys) ∧ W.grownBy w1 (blk? A) ∧ (blk? A' = blk? A ∨ blk? A' = some W.heap.size) := by
    rcases HY.2 with ⟨hv, h0⟩ | ⟨g, cap, cur, hv, _, hh, _, _, _, htk⟩
    · simp at hv
      obtain ⟨rfl, rfl, rfl⟩ := hv
      obtain rfl : ys = [] := List.eq_nil_of_length_eq_zero (by have := HY.1; omega)
      refine ⟨A, c, W, ?_, by simpa using HO, World.grownBy.refl W _, .inl rfl⟩
      rcases HO.2 with ⟨hv, hn⟩ | ⟨g, cap, cur, hv, _, _, hnc, _⟩
      · simp at hv; obtain ⟨rfl, rfl, rfl⟩ := hv
        simp [Builtin.append_, run_underlying ht, sizeOf, typeInfo, hi, Builtin.lenOf, Builtin.firstCells]
      · simp at hv; obtain ⟨rfl, rfl⟩ := hv
        simp [Builtin.append_, run_underlying ht, sizeOf, typeInfo, hi, Builtin.lenOf, Builtin.firstCells, hnc, storeCells]
    · simp at hv
      obtain ⟨rfl, rfl⟩ := hv
      have hcells : ∀ j u, ys[j]? = some u → W.cell? ((⟨g, 0, none⟩ : Addr).add j) = some u := by
        intro j u hu
        have hadd : (⟨g, 0, none⟩ : Addr).add j = ⟨g, j, none⟩ := by unfold Addr.add; split <;> simp_all
        rw [hadd, World.cell?, hh]
        rw [← htk, List.getElem?_take] at hu
        split at hu
        · simpa using hu
        · cases hu
      obtain ⟨v1, w1, hr, h2, h3, _, h5⟩ := run_append_own_at (P := P) W 0 t o.type e i0 z size bytes ht hi hz0 hz1 hz2 hz hs0 (.slice A n c) n xs HO ⟨g, 0, none⟩ m d ys HY.1 hcells h1 (by simp only [maxLen]; omega) hl (by simp)
      obtain ⟨A', c', rfl⟩ : ∃ A' c', v1 = .slice A' (n + m) c' := by
        rcases h2.2 with ⟨rfl, hn⟩ | ⟨g, cap, cur, rfl, _⟩
        · exact ⟨none, 0, by rw [hn]⟩
        · exact ⟨_, _, rfl⟩
      rw [ownBlock_slice, ownBlock_slice] at h5
      rw [ownBlock_slice] at h3
      exact ⟨A', c', w1, hr, h2, h3, h5⟩
  obtain ⟨A', c', w1, hr, h2, h3, h5⟩ := hrun
  unfold Oper.wp execOp
  simp only [ho, resolve, invoke, builtin, Sem.run_bind, Sem.run_pure, Result.andThen_ok, List.map_toArray, List.map_cons, List.map_nil, hs, hx, hr]
  exact h A' c' w1 h2 h3 h5
theorem accs_one (l : List Acc) : ∀ u ∈ l.flatMap Acc.cells, u.oneCell' = true := by
  intro u hu
  obtain ⟨a, _, ha⟩ := List.mem_flatMap.1 hu
  exact acc_oneCell a u ha
theorem accs_get : ∀ (l : List Acc) (j : Nat) (h : j < l.length), (l.flatMap Acc.cells)[j * 3 + 1]? = some (.int .i64 l[j].cell)
  | a :: l, 0, _ => rfl
  | a :: l, j + 1, h => by
    have ih := accs_get l j (by simpa using h)
    have e : (j + 1) * 3 + 1 = a.cells.length + (j * 3 + 1) := by simp [Acc.cells]; omega
    rw [List.flatMap_cons, e, List.getElem?_append_right (by omega), Nat.add_sub_cancel_left, ih]
    rfl
theorem own_acc {w : World} {T N d : Nat} {D : Option Addr} {l : List Acc} (h : w.ownsRow 0 T 3 (.slice D N d) N (l.flatMap Acc.cells)) (hN : l.length = N) (j : Nat) (hj : j < l.length) :
    ∃ g, D = some ⟨g, 0, none⟩ ∧ w.cell? ⟨g, j * 3 + 1, none⟩ = some (.int .i64 l[j].cell) := by
  rcases h.2 with ⟨_, h0⟩ | ⟨g, cap, cur, hv, _, hh, _, _, _, htk⟩
  · omega
  · simp at hv
    refine ⟨g, hv.1, ?_⟩
    have := accs_get l j hj
    rw [← htk, List.getElem?_take] at this
    split at this
    · rw [World.cell?, hh]; simpa using this
    · cases this
end Go.Proofs.Ytfaihahpnjgejaa
namespace Go.Proofs.Ytfaihahpnjgejaa
open Go.RowKit Go.Proofs.YtfaihahpnjgejaaW.PrintWords Go.Proofs.YtfaihahpnjgejaaW.PrintLast Go.Proofs.YtfaihahpnjgejaaW.PrintMore Go.Proofs.Ytfaihahpnjgejaa.PRegCosts

set_option maxRecDepth 100000 in
set_option maxHeartbeats 16000000 in
theorem rc_main (r : Reg) (me : Int) (A : Option Addr) (l : List Int) (cap : Nat) (v : Int) (w : World) (hf : kevelref17_Fine.f 10 r.kind r.base r.loc r.n r.writer r.reader r.top = some true) (hF : FineP r) (h4 : r.n ≤ 4)
    (hme0 : 0 ≤ me) (hme1 : me ≤ 255) (hlen : l.length ≤ 2500) (hcap : l.length ≤ cap) (hC : Kd.C (Kd.int .i64) w A l.length l) :
    Calls Try.prog 3 #[r.v, .int .u8 me, .slice A l.length cap, .int .i64 v] w fun e w' => e = .returned (.bool true) ∧ Below w.heap.size w w' := by
  have BS := Lib.hid (((Below.refl w.heap.size w).alloc (Nat.le_refl _) (.cells r.cs 23)).alloc (by simp) (.cells #[.int .i64 v] 3))
  have HX := Lib.hid ((Below.heap_alloc (w.alloc (.cells r.cs 23)) (.cells #[.int .i64 v] 3) w.heap.size (by simp)).trans (heap_alloc_new w (.cells r.cs 23)))
  have HV : Hid (((w.alloc (.cells r.cs 23)).alloc (.cells #[.int .i64 v] 3)).heap[w.heap.size + 1]? = some (.cells #[.int .i64 v] 3 (0, 0))) := Lib.hid (by
    have h := heap_alloc_new (w.alloc (.cells r.cs 23)) (.cells #[.int .i64 v] 3)
    simpa using h)
  have hcost := Lib.hid (fun W => costs_calls r W hF h4)
  have hcells := Lib.hid (cells_reg r hF h4)
  have hlocals := Lib.hid (locals_reg r hF h4)
  obtain ⟨k, hk, hk3, hkt⟩ : ∃ k : Nat, (r.n - 1).toNat = k ∧ k ≤ 3 ∧ threadsS r.n = k + 1 := ⟨(r.n - 1).toNat, rfl, by have := hF.n1; omega, by have := hF.n1; unfold threadsS; omega⟩
  rw [hk] at hcells hlocals
  have hcost2 : Hid (∀ W, Calls Try.prog 6 #[r.v] W fun e w' => e = .returned (.tuple #[.int .i64 (costW r k), .int .i64 (costR r k)]) ∧ Below W.heap.size W w') := by rw [← hk]; exact hcost
  clear hcost
  have hn1 := hF.n1
  replace hF := Lib.hid hF
  replace hk := Lib.hid hk
  replace hk3 := Lib.hid hk3
  replace hkt := Lib.hid hkt
  replace hC := Lib.hid hC
  unfold Reg.v at hcost2
  obtain ⟨cs, hcs⟩ : ∃ cs, r.cs = cs := ⟨_, rfl⟩
  have hcs' : Hid (r.cs = cs) := Lib.hid hcs
  unfold Reg.v
  unfold Reg.cs at *
  have c0 := cell_of_blk HX.out 0
  have c1 := cell_of_blk HX.out 1
  have c2 := cell_of_blk HX.out 2
  have c3 := cell_of_blk HX.out 3
  have c4 := cell_of_blk HX.out 4
  have c5 := cell_of_blk HX.out 5
  have c6 := cell_of_blk HX.out 6
  simp at c0 c1 c2 c3 c4 c5 c6
  clear hcs hcs'
  replace hf := Lib.hid hf
  go_enter Try.func3, Try.ntmps3
  go_wp2_with fail
  refine (kevelref17_Fine.calls 10 _ _ _ _ _ _ _ _ _ hf.out).mono ?_
  rintro e_ w1 ⟨rfl, hb⟩
  replace BS := Lib.hid (BS.out.trans (hb.mono BS.out.size))
  replace HX := Lib.hid ((hb.block _ (heap_lt HX.out)).trans HX.out)
  replace HV := Lib.hid ((hb.block _ (heap_lt HV.out)).trans HV.out)
  clear hb hf
  clear c0 c1 c2 c3 c4 c5 c6
  have c0 := cell_of_blk HX.out 0
  have c1 := cell_of_blk HX.out 1
  have c2 := cell_of_blk HX.out 2
  have c3 := cell_of_blk HX.out 3
  have c4 := cell_of_blk HX.out 4
  have c5 := cell_of_blk HX.out 5
  have c6 := cell_of_blk HX.out 6
  simp at c0 c1 c2 c3 c4 c5 c6
  have HX1 := HX
  have hb_ := (Below.refl (w1).heap.size (w1)).alloc (Nat.le_refl _) (.cells #[.int .i64 (me % r.n)] 3)
  have HT := Lib.hid (heap_alloc_new (w1) (.cells #[.int .i64 (me % r.n)] 3))
  replace BS := Lib.hid (BS.out.trans (hb_.mono BS.out.size))
  replace HX := Lib.hid ((hb_.block _ (heap_lt HX.out)).trans HX.out)
  replace HV := Lib.hid ((hb_.block _ (heap_lt HV.out)).trans HV.out)
  clear hb_
  have d0 := cell_of_blk HX.out 0
  have d1 := cell_of_blk HX.out 1
  have d2 := cell_of_blk HX.out 2
  have d3 := cell_of_blk HX.out 3
  have d4 := cell_of_blk HX.out 4
  have d5 := cell_of_blk HX.out 5
  have d6 := cell_of_blk HX.out 6
  simp at d0 d1 d2 d3 d4 d5 d6
  have hlt := heap_lt HX1.out
  clear HX1
  go_wp2_with fail
  clear hlt
  clear c0 c1 c2 c3 c4 c5 c6
  clear d0 d1 d2 d3 d4 d5 d6
  generalize hW : w1.alloc (.cells #[.int .i64 (me % r.n)] 3) = W1 at *
  obtain ⟨tb, htb⟩ : ∃ tb, w1.heap.size = tb := ⟨_, rfl⟩
  rw [htb] at HT ⊢
  clear hW
  refine (hcost2.out _).mono ?_
  rintro e_ w2 ⟨rfl, hb⟩
  replace BS := Lib.hid (BS.out.trans (hb.mono BS.out.size))
  replace HX := Lib.hid ((hb.block _ (heap_lt HX.out)).trans HX.out)
  replace HV := Lib.hid ((hb.block _ (heap_lt HV.out)).trans HV.out)
  replace HT := Lib.hid ((hb.block _ (heap_lt HT.out)).trans HT.out)
  clear hb hcost2
  go_wp2_with fail
  refine (kevelref10_Tame.calls 2502 A cap l 1048576 (tameL l) _ (Kd.C_below hC.out BS.out) hcap (tame_ref l hlen)).mono ?_
  rintro e_ w3 ⟨v0, rfl, hR, hb⟩
  obtain ⟨A2, c2, rfl⟩ := Kd.R_slice hR
  have hown := Lib.hid (R_ints hR)
  replace hb := Lib.hid hb
  have hl2 : (tameL l).length = l.length := by simp [tameL]
  rw [hl2] at hown ⊢
  replace hl2 := Lib.hid hl2
  clear hR
  go_wp2_with (first | ((with_reducible refine gate_dst (N := 45) rfl ?_); refine wpList_append_zeros rfl (.tmp 44) (.const (.int .i64 700)) 24 3 3 _ 1 8 rfl Try.underlying24 Try.underlying3 infoInt rfl (by omega) (by omega) A2 l.length c2 700 ((tameL l).map (Value.int .i64)) rfl rfl (zeroInts_one 700) (by omega) (own_weaken hown.out (Nat.zero_le _)) (by omega) ?_; intro A3 c3 w4 ho hg hat; replace ho := Lib.hid ho; replace hg := Lib.hid hg; clear hat))
  have hb4 : Below w2.heap.size w2 w4 := hb.out.grown hg.out hb.out.size (fun k hk => own_base hown.out k (by rw [ownBlock_slice]; exact hk))
  replace BS := Lib.hid (BS.out.trans (hb4.mono BS.out.size))
  replace HX := Lib.hid ((hb4.block _ (heap_lt HX.out)).trans HX.out)
  replace HV := Lib.hid ((hb4.block _ (heap_lt HV.out)).trans HV.out)
  replace HT := Lib.hid ((hb4.block _ (heap_lt HT.out)).trans HT.out)
  have AF : Hid (w4.ownsRow 0 3 1 (.slice A3 (l.length + 700) c3) (l.length + 700) ((fullL l).map (Value.int .i64))) := Lib.hid (by
    have h := ho.out
    rw [zeroInts, ← List.map_append] at h
    exact h)
  clear hb4 hb hg ho hown hl2
  refine (rc_play1 r (me % r.n) v k w4 w.heap.size tb (w.heap.size + 1) A3 c3 l hF.out hk.out hk3.out hkt.out hlen HX.out HT.out HV.out AF.out).mono ?_
  rintro e_ w5 ⟨x1, acc1, V1, vc1, N1, nn1, nc1, B1, nl1, cl1, rfl, hb, A1, ha1, hi1, hl1, hm1⟩
  replace A1 := Lib.hid A1
  replace hi1 := Lib.hid hi1
  replace BS := Lib.hid (BS.out.trans (hb.mono BS.out.size))
  replace HX := Lib.hid ((hb.block _ (heap_lt HX.out)).trans HX.out)
  replace HT := Lib.hid ((hb.block _ (heap_lt HT.out)).trans HT.out)
  replace AF := Lib.hid (own_below AF.out hb)
  clear hb HV
  have hb_ := (Below.refl (w5).heap.size (w5)).alloc (Nat.le_refl _) (.cells #[.bool true, .slice V1 acc1.length vc1, .slice N1 nn1 nc1, .slice B1 nl1 cl1] 33)
  have HO1 := Lib.hid (heap_alloc_new (w5) (.cells #[.bool true, .slice V1 acc1.length vc1, .slice N1 nn1 nc1, .slice B1 nl1 cl1] 33))
  replace BS := Lib.hid (BS.out.trans (hb_.mono BS.out.size))
  replace HX := Lib.hid ((hb_.block _ (heap_lt HX.out)).trans HX.out)
  replace HT := Lib.hid ((hb_.block _ (heap_lt HT.out)).trans HT.out)
  replace AF := Lib.hid (own_below AF.out hb_)
  replace A1 := Lib.hid (own_below A1.out hb_)
  clear hb_
  go_wp2_with fail
  obtain ⟨ob1, hob1⟩ : ∃ ob1, w5.heap.size = ob1 := ⟨_, rfl⟩
  rw [hob1] at HO1 ⊢
  clear hob1
  generalize w5.alloc (.cells #[.bool true, .slice V1 acc1.length vc1, .slice N1 nn1 nc1, .slice B1 nl1 cl1] 33) = w6 at *
  refine (rc_play2 r (me % r.n) k w6 w.heap.size tb A3 c3 l hF.out hk.out hk3.out hkt.out hlen HX.out HT.out AF.out).mono ?_
  rintro e_ w7 ⟨x2, acc2, V2, vc2, N2, nn2, nc2, B2, nl2, cl2, rfl, hb, A2_, ha2, hi2, hl2, hm2⟩
  replace A2_ := Lib.hid A2_
  replace hi2 := Lib.hid hi2
  replace BS := Lib.hid (BS.out.trans (hb.mono BS.out.size))
  replace HX := Lib.hid ((hb.block _ (heap_lt HX.out)).trans HX.out)
  replace A1 := Lib.hid (own_below A1.out hb)
  replace HO1 := Lib.hid ((hb.block _ (heap_lt HO1.out)).trans HO1.out)
  clear hb HT AF
  have hb_ := (Below.refl (w7).heap.size (w7)).alloc (Nat.le_refl _) (.cells #[.bool true, .slice V2 acc2.length vc2, .slice N2 nn2 nc2, .slice B2 nl2 cl2] 33)
  have HO2 := Lib.hid (heap_alloc_new (w7) (.cells #[.bool true, .slice V2 acc2.length vc2, .slice N2 nn2 nc2, .slice B2 nl2 cl2] 33))
  replace BS := Lib.hid (BS.out.trans (hb_.mono BS.out.size))
  replace HX := Lib.hid ((hb_.block _ (heap_lt HX.out)).trans HX.out)
  replace A1 := Lib.hid (own_below A1.out hb_)
  replace HO1 := Lib.hid ((hb_.block _ (heap_lt HO1.out)).trans HO1.out)
  replace A2_ := Lib.hid (own_below A2_.out hb_)
  clear hb_
  have o0 := cell_of_blk HO1.out 0
  have o1 := cell_of_blk HO1.out 1
  have o2 := cell_of_blk HO1.out 2
  have o3 := cell_of_blk HO1.out 3
  simp at o0 o1 o2 o3
  go_wp2_with fail
  obtain ⟨ob2, hob2⟩ : ∃ ob2, w7.heap.size = ob2 := ⟨_, rfl⟩
  rw [hob2] at HO2 ⊢
  clear hob2
  generalize w7.alloc (.cells #[.bool true, .slice V2 acc2.length vc2, .slice N2 nn2 nc2, .slice B2 nl2 cl2] 33) = W8 at *
  clear o0 o1 o2 o3
  have o0 := cell_of_blk HO1.out 0
  have o1 := cell_of_blk HO1.out 1
  have o2 := cell_of_blk HO1.out 2
  have o3 := cell_of_blk HO1.out 3
  simp at o0 o1 o2 o3
  have p0 := cell_of_blk HO2.out 0
  have p1 := cell_of_blk HO2.out 1
  have p2 := cell_of_blk HO2.out 2
  have p3 := cell_of_blk HO2.out 3
  simp at p0 p1 p2 p3
  clear o0 o2 o3 p0 p2 p3
  have hbD := Lib.hid (((Below.refl W8.heap.size W8).alloc (Nat.le_refl _) (.cells #[] 41)).drew)
  have hD : Hid (((W8.alloc (.cells #[] 41)).drew).ownsRow 0 41 3 (.slice (some ⟨W8.heap.size, 0, none⟩) 0 0) 0 []) := Lib.hid ⟨by simp, .inr ⟨_, 0, #[], rfl, Nat.zero_le _, heap_alloc_new W8 _, Nat.le_refl _, by simp [maxLen], by simp, by simp⟩⟩
  have lo1 := heap_lt HO1.out
  have lo2 := heap_lt HO2.out
  have q1 : ((W8.alloc (.cells #[] 41)).drew).cell? ⟨ob1, 1, none⟩ = some (.slice V1 acc1.length vc1) := (hbD.out.cell (p := ⟨ob1, 1, none⟩) lo1).trans o1
  have q2 : ((W8.alloc (.cells #[] 41)).drew).cell? ⟨ob2, 1, none⟩ = some (.slice V2 acc2.length vc2) := (hbD.out.cell (p := ⟨ob2, 1, none⟩) lo2).trans p1
  go_region_held3 (fun w' => w'.cell? ⟨ob1, 1, none⟩ = some (.slice V1 acc1.length vc1) ∧ w'.cell? ⟨ob2, 1, none⟩ = some (.slice V2 acc2.length vc2)) (first | exact ⟨q1, q2⟩ | exact ⟨(hb10.out.cell (p := ⟨ob1, 1, none⟩) lo1).trans o1, (hb10.out.cell (p := ⟨ob2, 1, none⟩) lo2).trans p1⟩ | exact ⟨(hb9.out.cell (p := ⟨ob1, 1, none⟩) lo1).trans o1, (hb9.out.cell (p := ⟨ob2, 1, none⟩) lo2).trans p1⟩ | go_keep) (first
    | (refine step_append_row (by rfl) (.tmp 80) (.tmp 82) 30 41 _ 3 24 (by rfl) Try.underlying30 infoAcc rfl (by omega) (by omega) (some ⟨W8.heap.size, 0, none⟩) 0 0 V1 acc1.length vc1 [] (acc1.flatMap Acc.cells) (by rfl) (by rfl) (accs_one _) hD.out (own_below A1.out hbD.out) (by omega) ?_
       intro D1 d1 w9 ho9 hg9 hat9
       simp only [Nat.zero_add, List.nil_append] at ho9
       simp only [Nat.zero_add]
       replace ho9 := Lib.hid ho9
       have hb9 : Hid (Below W8.heap.size W8 w9) := Lib.hid (hbD.out.grown hg9 hbD.out.size (fun k hk => by simp [blk?] at hk; omega))
       have hd9 : Hid (∀ k, blk? D1 = some k → W8.heap.size ≤ k) := Lib.hid (fun k hk => by rcases hat9 with h | h <;> rw [h] at hk <;> simp [blk?] at hk <;> omega)
       clear hg9 hat9)
    | (refine step_append_row (by rfl) (.tmp 83) (.tmp 85) 30 41 _ 3 24 (by rfl) Try.underlying30 infoAcc rfl (by omega) (by omega) D1 acc1.length d1 V2 acc2.length vc2 (acc1.flatMap Acc.cells) (acc2.flatMap Acc.cells) (by rfl) (by rfl) (accs_one _) ho9.out (own_below A2_.out hb9.out) (by omega) ?_
       intro D2 d2 w10 ho10 hg10 hat10
       replace ho10 := Lib.hid ho10
       have hb10 : Hid (Below W8.heap.size W8 w10) := Lib.hid (hb9.out.grown hg10 hb9.out.size hd9.out)
       clear hg10 hat10))
  rename_i hK _
  refine hK _ _ ?_
  clear hK q1 q2 o1 p1 hD hbD
  have hbW := hb10.out
  replace BS := Lib.hid (BS.out.trans (hbW.mono BS.out.size))
  replace HX := Lib.hid ((hbW.block _ (heap_lt HX.out)).trans HX.out)
  replace HO1 := Lib.hid ((hbW.block _ (heap_lt HO1.out)).trans HO1.out)
  replace HO2 := Lib.hid ((hbW.block _ (heap_lt HO2.out)).trans HO2.out)
  clear hbW hb9 hb10 hd9 ho9 A1 A2_ lo1 lo2
  have AL : Hid (w10.ownsRow 0 41 3 (.slice D2 (acc1.length + acc2.length) d2) (acc1.length + acc2.length) ((acc1 ++ acc2).flatMap Acc.cells)) := Lib.hid (by rw [List.flatMap_append]; exact ho10.out)
  have hin : Hid (∀ a ∈ acc1 ++ acc2, r.base ≤ a.cell ∧ a.cell < r.base + cellsS r k) := Lib.hid (fun a ha => (List.mem_append.1 ha).elim (hi1.out a) (hi2.out a))
  have hNl : (acc1 ++ acc2).length = acc1.length + acc2.length := List.length_append
  generalize acc1 ++ acc2 = all at *
  obtain ⟨N, hN⟩ : ∃ N, acc1.length + acc2.length = N := ⟨_, rfl⟩
  rw [hN] at AL hNl ⊢
  have hNb : N ≤ 600 := by omega
  replace hNl := Lib.hid hNl
  clear ho10 hi1 hi2 hN
  go_wp2_with fail
  have hW0 := Lib.hid (Below.refl w10.heap.size w10)
  have hbd := cellsS_le r k (by have := hk3.out; omega)
  have hcp := cellsS_pos r k
  have hlp := localsS_pos r k
  have hb0 := hF.out.b0
  have hbc := hF.out.cells
  have hl0 := hF.out.l0
  have hlc := hF.out.locals
  rw [hk.out] at hbc hlc
  go_loopw [18] (fun i wr => ∃ j : Nat, j ≤ N ∧ i = .int .i64 j ∧ Hid (Below w10.heap.size w10 wr)) (fun i _ => N - (intOf i).toNat)
  case atStart => exact ⟨0, Nat.zero_le _, rfl, hW0⟩
  case round =>
    obtain ⟨j, hj, rfl, hbr⟩ := hrel
    have hbx := hbr.out
    replace BS := Lib.hid (BS.out.trans (hbx.mono BS.out.size))
    replace HX := Lib.hid ((hbx.block _ (heap_lt HX.out)).trans HX.out)
    replace HO1 := Lib.hid ((hbx.block _ (heap_lt HO1.out)).trans HO1.out)
    replace HO2 := Lib.hid ((hbx.block _ (heap_lt HO2.out)).trans HO2.out)
    replace AL := Lib.hid (own_below AL.out hbx)
    clear hbx
    by_cases hlt : j < N
    · have hjl : j < all.length := by rw [hNl.out]; exact hlt
      obtain ⟨g, hg, hcell⟩ := own_acc AL.out hNl.out j hjl
      subst hg
      obtain ⟨hin1, hin2⟩ := hin.out _ (List.getElem_mem hjl)
      generalize all[j].cell = cl at *
      have lx := heap_lt HX.out
      have lg := World.block_lt_of_cell? _ _ hcell
      simp only at lg
      have c0 := cell_of_blk HX.out 0
      have c1 := cell_of_blk HX.out 1
      have c2 := cell_of_blk HX.out 2
      have c3 := cell_of_blk HX.out 3
      have c4 := cell_of_blk HX.out 4
      have c5 := cell_of_blk HX.out 5
      have c6 := cell_of_blk HX.out 6
      simp at c0 c1 c2 c3 c4 c5 c6
      have hj0 : (0 : Int) ≤ (j : Int) := by omega
      have hj1 : (j : Int) < (N : Int) := by omega
      have hd1 : decide (cl < r.base) = false := by simp; omega
      have hs : IntKind.i64.wrap (r.base + cellsS r k) = r.base + cellsS r k := IntWalk.i64_in _ (by omega)
      go_wp2_with fail
      go_region_held3 (fun w' => w'.cell? ⟨g, j * 3 + 1, none⟩ = some (.int .i64 cl) ∧ w'.cell? ⟨w.heap.size, 0, none⟩ = some (.int .i64 r.kind) ∧ w'.cell? ⟨w.heap.size, 1, none⟩ = some (.int .i64 r.base) ∧ w'.cell? ⟨w.heap.size, 2, none⟩ = some (.int .i64 r.loc) ∧ w'.cell? ⟨w.heap.size, 3, none⟩ = some (.int .i64 r.n) ∧ w'.cell? ⟨w.heap.size, 4, none⟩ = some (.int .i64 r.writer) ∧ w'.cell? ⟨w.heap.size, 5, none⟩ = some (.int .i64 r.reader) ∧ w'.cell? ⟨w.heap.size, 6, none⟩ = some (.int .i64 r.top)) (first | exact ⟨hcell, c0, c1, c2, c3, c4, c5, c6⟩ | exact ⟨(hb_.out.cell (p := ⟨g, j * 3 + 1, none⟩) lg).trans hcell, (hb_.out.cell (p := ⟨w.heap.size, 0, none⟩) lx).trans c0, (hb_.out.cell (p := ⟨w.heap.size, 1, none⟩) lx).trans c1, (hb_.out.cell (p := ⟨w.heap.size, 2, none⟩) lx).trans c2, (hb_.out.cell (p := ⟨w.heap.size, 3, none⟩) lx).trans c3, (hb_.out.cell (p := ⟨w.heap.size, 4, none⟩) lx).trans c4, (hb_.out.cell (p := ⟨w.heap.size, 5, none⟩) lx).trans c5, (hb_.out.cell (p := ⟨w.heap.size, 6, none⟩) lx).trans c6⟩) (first | (go_at_call 13; refine (reg_Cells.calls 100 _ _ _ _ _ _ _ _ _ hcells.out).mono ?_; rintro e_ w_ ⟨rfl, hb_⟩; replace hb_ := Lib.hid hb_))
      rename_i hK hHeld
      refine hK _ _ ?_
      clear hK hHeld hs hd1 c0 c1 c2 c3 c4 c5 c6 hcell
      go_wp2_with fail
      go_roundw
      case rel => exact ⟨j + 1, by omega, by go_num, Lib.hid (hbr.out.trans ((((Below.refl _ wr).drew).trans hb_.out).mono hbr.out.size))⟩
      case measure => simp [intOf]; omega
    · have lx := heap_lt HX.out
      have l1 := heap_lt HO1.out
      have l2 := heap_lt HO2.out
      have c0 := cell_of_blk HX.out 0
      have c1 := cell_of_blk HX.out 1
      have c2 := cell_of_blk HX.out 2
      have c3 := cell_of_blk HX.out 3
      have c4 := cell_of_blk HX.out 4
      have c5 := cell_of_blk HX.out 5
      have c6 := cell_of_blk HX.out 6
      simp at c0 c1 c2 c3 c4 c5 c6
      have o3 := cell_of_blk HO1.out 3
      have p3 := cell_of_blk HO2.out 3
      simp at o3 p3
      go_wp2_with fail
      have hs : IntKind.i64.wrap (r.loc + localsS r k) = r.loc + localsS r k := IntWalk.i64_in _ (by omega)
      have hd1 : decide ((nl1 : Int) ≤ r.loc + localsS r k) = true := decide_eq_true hl1
      have hd2 : decide ((nl2 : Int) ≤ r.loc + localsS r k) = true := decide_eq_true hl2
      have HZ := Lib.hid ((Below.refl wr.heap.size wr).drew)
      clear hl1 hl2 hlc hl0
      go_region_held3 (fun w' => w'.cell? ⟨ob1, 3, none⟩ = some (.slice B1 nl1 cl1) ∧ w'.cell? ⟨ob2, 3, none⟩ = some (.slice B2 nl2 cl2) ∧ w'.cell? ⟨w.heap.size, 0, none⟩ = some (.int .i64 r.kind) ∧ w'.cell? ⟨w.heap.size, 1, none⟩ = some (.int .i64 r.base) ∧ w'.cell? ⟨w.heap.size, 2, none⟩ = some (.int .i64 r.loc) ∧ w'.cell? ⟨w.heap.size, 3, none⟩ = some (.int .i64 r.n) ∧ w'.cell? ⟨w.heap.size, 4, none⟩ = some (.int .i64 r.writer) ∧ w'.cell? ⟨w.heap.size, 5, none⟩ = some (.int .i64 r.reader) ∧ w'.cell? ⟨w.heap.size, 6, none⟩ = some (.int .i64 r.top)) (first | exact ⟨o3, p3, c0, c1, c2, c3, c4, c5, c6⟩ | exact ⟨(HZ.out.cell (p := ⟨ob1, 3, none⟩) l1).trans o3, (HZ.out.cell (p := ⟨ob2, 3, none⟩) l2).trans p3, (HZ.out.cell (p := ⟨w.heap.size, 0, none⟩) lx).trans c0, (HZ.out.cell (p := ⟨w.heap.size, 1, none⟩) lx).trans c1, (HZ.out.cell (p := ⟨w.heap.size, 2, none⟩) lx).trans c2, (HZ.out.cell (p := ⟨w.heap.size, 3, none⟩) lx).trans c3, (HZ.out.cell (p := ⟨w.heap.size, 4, none⟩) lx).trans c4, (HZ.out.cell (p := ⟨w.heap.size, 5, none⟩) lx).trans c5, (HZ.out.cell (p := ⟨w.heap.size, 6, none⟩) lx).trans c6⟩) (first | (go_at_call 14; refine (reg_Locals.calls _ _ _ _ _ _ _ _ _ hlocals.out).mono ?_; rintro e_ w_ ⟨rfl, hb_⟩; replace HZ := Lib.hid (HZ.out.trans (hb_.mono HZ.out.size)); clear hb_) | (go_at_call 5; refine (alive_calls _).mono ?_; rintro e_ w_ ⟨rfl, hb_⟩; replace HZ := Lib.hid (HZ.out.trans (hb_.mono HZ.out.size)); clear hb_))
      rename_i hK _ _ hHeld
      refine hK _ _ ?_
      go_wp2_with fail
      go_ret
      exact ⟨rfl, BS.out.trans (HZ.out.mono BS.out.size)⟩
end Go.Proofs.Ytfaihahpnjgejaa
