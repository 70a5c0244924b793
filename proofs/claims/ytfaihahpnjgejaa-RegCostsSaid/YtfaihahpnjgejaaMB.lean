/- Tables and registers of many, reg.Write and reg.Read, and what they cost: contracts. -/
import Derived.Test.YtfaihahpnjgejaaMA
set_option linter.unusedVariables false
set_option linter.unusedSimpArgs false
namespace Go.Proofs.Ytfaihahpnjgejaa
open Go.RowKit Go.Proofs.YtfaihahpnjgejaaW.PrintWords Go.Proofs.YtfaihahpnjgejaaW.PrintLast

attribute [local go_sem] Oper.semAt_some
/-! ### A box of the function's own that a round stores into -/
theorem heap_setBox (w : World) {k l : Nat} (i : Nat) (v : Value) (h : l ≠ k) : (w.setCell ⟨k, i, none⟩ v).heap[l]? = w.heap[l]? := Below.heap_setCell _ _ _ _ h
theorem MemP.setBox {b w g s k cs T} (h : MemP b w g s) (hB : BoxAt w g k cs T) (hx : ∀ ad, g.aA = some ad → 0 < g.aN → ad.block ≠ k) (i : Nat) (v : Value) : MemP b (w.setCell ⟨k, i, none⟩ v) g s :=
  ⟨h.hb, h.at_.kept (fun l hl => heap_setBox w i v (fun e => hB.2 (e ▸ hl))) (fun ad e hp => heap_setBox w i v (hx ad e (h.at_.al ▸ hp))), h.le⟩
theorem BoxAt.setOther {w g k cs T k2} (h : BoxAt w g k cs T) (hne : k ≠ k2) (i : Nat) (v : Value) : BoxAt (w.setCell ⟨k2, i, none⟩ v) g k cs T := ⟨(heap_setBox w i v hne).trans h.1, h.2⟩
theorem BoxAt.setSelf {w g k v0 T} (h : BoxAt w g k #[v0] T) (v : Value) : BoxAt (w.setCell ⟨k, 0, none⟩ v) g k #[v] T := by
  refine ⟨?_, h.2⟩
  have := h.1
  simp [World.setCell, Array.getElem?_modify, this]
theorem Step.setBox {w0 g0 w g} (h : Step w0 g0 w g) {k : Nat} (hk : w0.heap.size ≤ k) (i : Nat) (v : Value) : Step w0 g0 (w.setCell ⟨k, i, none⟩ v) g :=
  ⟨h.os, h.tape, h.output, by simpa [World.setCell] using h.size, fun l hl hm => (heap_setBox w i v (by omega)).trans (h.same l hl hm), h.mine, h.b, h.aA, h.aN⟩

/-- what follows a region, told apart where it is left by a panic -/
def panQ (X : List PanicEntry → World → Prop) (Q : Exit → Act → World → Prop) : Exit → Act → World → Prop
  | .panic ch, a, w => a.defers = [] ∧ X ch w
  | .normal, a, w => Q .normal a w
  | .ret, a, w => Q .ret a w
  | .exit i, a, w => Q (.exit i) a w
  | .goto l, a, w => Q (.goto l) a w
  | .outgrown, a, w => Q .outgrown a w
theorem wpF_panQ {P : Program} {f : FuncId} {c : Code} {Q : Exit → Act → World → Prop} {a : Act} {w : World} (X : List PanicEntry → World → Prop) (hQ : ∀ ch a w, a.defers = [] → X ch w → Q (.panic ch) a w) (h : c.wp P (panQ X Q) a w) : wpF P f c Q a w := by
  refine wpF_of_wp (Code.wp_mono ?_ h)
  intro e a w hh
  cases e with
  | panic ch => exact hQ ch a w hh.1 hh.2
  | normal => exact hh
  | ret => exact hh
  | exit _ => exact hh
  | goto _ => exact hh
  | outgrown => exact hh

def imax (x y : Int) : Int := if x < y then y else x
def tGather (r : Reg) (k a : Int) : Nat → Nat → Int → OpM Int
  | _, 0, x => OpM.ret x
  | i, n + 1, x => if (i : Int) = a then tGather r k a (i + 1) n x else OpM.bind (slotsR (tTells r k i a)) fun y => tGather r k a (i + 1) n (imax x y)
def tTell (r : Reg) (k a x : Int) : Nat → Nat → OpM Unit
  | _, 0 => OpM.ret ()
  | i, n + 1 => if (i : Int) = a then tTell r k a x (i + 1) n else OpM.bind (slotsW (tTells r k a i) x) fun _ => tTell r k a x (i + 1) n
def tableR (r : Reg) (me : Int) : OpM Int := fun s =>
  if me = writerS r then (some (getS (r.loc + 1) s), s)
  else if isReader r me = false then (some 0, s)
  else
    OpM.bind (slotsR (tSlot r (rankS r me))) (fun x =>
    OpM.bind (tGather r (threadsS r.n - 1) (rankS r me) 0 (threadsS r.n - 1).toNat x) fun x =>
    OpM.bind (tTell r (threadsS r.n - 1) (rankS r me) x 0 (threadsS r.n - 1).toNat) fun _ =>
    OpM.ret (unpackY x % unpackM (clampS r.top 1048576))) s
theorem rankS_range {r : Reg} {me : Int} (h : isReader r me = true) : 0 ≤ rankS r me ∧ rankS r me < threadsS r.n - 1 := by
  have := threadsS_range r.n
  have := writerS_range r
  unfold isReader at h
  unfold rankS
  by_cases h1 : me < 0 ∨ me ≥ threadsS r.n ∨ me = writerS r
  · rw [decide_eq_true h1] at h; cases h
  · rw [if_neg h1]; split <;> omega

theorem unpack_calls {w W : World} (x t : Int) (hW : Below w.heap.size w W) : Calls Try.prog 76 #[.int .i64 x, .int .i64 t] W fun e w' => e = .returned (.tuple #[.int .i64 (unpackY x / unpackM t), .int .i64 (unpackY x % unpackM t)]) ∧ Below w.heap.size w w' := Calls.from_below hW ((unpack_calls0 x t W).mono fun _ _ h => ⟨h.1, h.2 ▸ (Below.refl _ _).drew⟩)
theorem tTells_in {r : Reg} (h : r.In3) (k a c : Int) (hk : 0 ≤ k ∧ k ≤ 8) (ha : 0 ≤ a ∧ a ≤ 8) (hc : 0 ≤ c ∧ c ≤ 8) (hi : 0 ≤ k + a * (k - 1) + (if c > a then c - 1 else c)) : (tTells r k a c).In2 := by
  refine tSlot_in h _ ⟨hi, ?_⟩
  have h4 : a * (k - 1) ≤ 8 * 8 := by
    rcases Int.lt_or_le 0 k with h | h
    · exact Int.mul_le_mul (by omega) (by omega) (by omega) (by omega)
    · have : k = 0 := by omega
      subst this; omega
  split <;> omega
theorem rank_calls {w W : World} (r : Reg) (me : Int) (hW : Below w.heap.size w W) : Calls Try.prog 74 #[r.v, .int .i64 me] W fun e w' => e = .returned (.tuple #[.int .i64 (rankS r me), .bool (isReader r me)]) ∧ Below w.heap.size w w' := Calls.from_below hW (rank_calls0 r me W)
theorem tells_calls {w W : World} (r : Reg) (k a c : Int) (hr : r.In2) (hk : 0 ≤ k ∧ k ≤ 8) (ha : 0 ≤ a ∧ a ≤ 8) (hc : 0 ≤ c ∧ c ≤ 8) (hi : 0 ≤ k + a * (k - 1) + (if c > a then c - 1 else c)) (hW : Below w.heap.size w W) :
    Calls Try.prog 75 #[r.v, .int .i64 k, .int .i64 a, .int .i64 c] W fun e w' => e = .returned (tTells r k a c).v ∧ Below w.heap.size w w' := Calls.from_below hW (tells_calls0 r k a c hr hk ha hc hi W)

set_option maxRecDepth 100000 in
set_option maxHeartbeats 8000000 in
theorem tableR_calls0 {b : Nat} {w : World} {g : Gh} {s : St} (r : Reg) (me : Int) (hr : r.In3) (hm : MemP b w g s) :
    Calls Try.prog 38 #[.pointer (some ⟨b, 0, none⟩), r.v, .int .i64 me] w (MPost b (Value.int .i64) w g (tableR r me s)) := by
  refine Calls.of_post fun R HR => ?_
  refine calls_of_wpF Try.func38 rfl ?_
  simp only [Try.ntmps38, List.size_toArray, List.length_cons, List.length_nil, Nat.reduceAdd, Nat.reduceSub, Array.replicate_succ, Array.replicate_zero, List.push_toArray, List.append_toArray, List.nil_append, List.cons_append]
  simp only [Reg.v, Reg.cs] at HR ⊢
  obtain ⟨hm1, BM⟩ := hm.box #[.pointer (some ⟨b, 0, none⟩)] 36
  have hst : Step w g (w.alloc (.cells #[.pointer (some ⟨b, 0, none⟩)] 36)) g := Step.of_alloc _ _ _
  obtain ⟨hm2, BX⟩ := hm1.box r.cs 23
  replace hst := hst.trans (Step.of_alloc _ g (.cells r.cs 23))
  replace BM := BM.below ((Below.refl _ _).alloc (Nat.le_refl _) (.cells r.cs 23))
  replace hm := hm2
  clear hm1 hm2
  rw [show (w.alloc (Obj.cells #[Value.pointer (some ⟨b, 0, none⟩)] 36)).heap.size = w.heap.size + 1 from by simp] at BX
  simp only [Reg.cs] at hm HR BX BM hst
  replace BX := Lib.hid BX
  replace BM := Lib.hid BM
  have m0 := cell_of_blk BM.out.1 0
  simp at m0
  have r0 := cell_of_blk BX.out.1 0
  have r1 := cell_of_blk BX.out.1 1
  have r2 := cell_of_blk BX.out.1 2
  have r3 := cell_of_blk BX.out.1 3
  have r4 := cell_of_blk BX.out.1 4
  have r5 := cell_of_blk BX.out.1 5
  have r6 := cell_of_blk BX.out.1 6
  simp at r0 r1 r2 r3 r4 r5 r6
  refine wpF_seq (wpF_of_wp ?_)
  go_wp2_with fail
  have hin := hr
  obtain ⟨hb1, hb2, hl1, hl2⟩ := hr
  refine wpF_seq (wpF_of_wp ?_)
  go_wp2_with fail
  refine (writer_calls r (MemP.blw hm (by first | exact Below.refl _ _ | exact (Below.refl _ _).drew))).mono ?_
  rintro e_ w_ ⟨rfl, hbl_⟩
  replace hst := hst.trans (Step.of_below _ hbl_)
  replace hm := hm.below hbl_
  clear m0
  replace BM := Lib.hid (BM.out.below hbl_)
  have m0 := cell_of_blk BM.out.1 0
  simp at m0
  clear r0 r1 r2 r3 r4 r5 r6
  replace BX := Lib.hid (BX.out.below hbl_)
  have r0 := cell_of_blk BX.out.1 0
  have r1 := cell_of_blk BX.out.1 1
  have r2 := cell_of_blk BX.out.1 2
  have r3 := cell_of_blk BX.out.1 3
  have r4 := cell_of_blk BX.out.1 4
  have r5 := cell_of_blk BX.out.1 5
  have r6 := cell_of_blk BX.out.1 6
  simp at r0 r1 r2 r3 r4 r5 r6
  clear hbl_
  by_cases hw : me = writerS r
  · unfold tableR at HR
    rw [if_pos hw] at HR
    have hq : (me == writerS r) = true := beq_iff_eq.2 hw
    clear hw
    go_wp2_with fail
    refine (get_calls _ hm (by first | exact Below.refl _ _ | exact (Below.refl _ _).drew)).mono ?_
    rintro e_ w_ ⟨rfl, rfl⟩
    go_wp2_with fail
    exact ⟨_, results_tmp rfl _ _ _, HR _ _ ⟨g, s, hst, .inl ⟨_, rfl, rfl, hm⟩⟩⟩
  unfold tableR at HR
  rw [if_neg hw] at HR
  have hq : (me == writerS r) = false := beq_eq_false_iff_ne.2 hw
  clear hw
  go_wp2_with fail
  clear hq
  refine wpF_seq (wpF_of_wp ?_)
  go_wp2_with fail
  refine (rank_calls r me (MemP.blw hm (by first | exact Below.refl _ _ | exact (Below.refl _ _).drew))).mono ?_
  rintro e_ w_ ⟨rfl, hbl_⟩
  replace hst := hst.trans (Step.of_below _ hbl_)
  replace hm := hm.below hbl_
  clear m0
  replace BM := Lib.hid (BM.out.below hbl_)
  have m0 := cell_of_blk BM.out.1 0
  simp at m0
  clear r0 r1 r2 r3 r4 r5 r6
  replace BX := Lib.hid (BX.out.below hbl_)
  have r0 := cell_of_blk BX.out.1 0
  have r1 := cell_of_blk BX.out.1 1
  have r2 := cell_of_blk BX.out.1 2
  have r3 := cell_of_blk BX.out.1 3
  have r4 := cell_of_blk BX.out.1 4
  have r5 := cell_of_blk BX.out.1 5
  have r6 := cell_of_blk BX.out.1 6
  simp at r0 r1 r2 r3 r4 r5 r6
  clear hbl_
  go_wp2_with fail
  have hAB : w.heap.size + 1 < w_.heap.size := heap_lt BX.out.1
  obtain ⟨hm1_, AB⟩ := hm.box #[.int .i64 (rankS r me)] 3
  have hbl_ : Below (w_).heap.size (w_) ((w_).alloc (.cells #[.int .i64 (rankS r me)] 3)) := (Below.refl _ _).alloc (Nat.le_refl _) _
  replace hst := hst.trans (Step.of_below _ hbl_)
  replace hm := hm1_
  replace AB := Lib.hid AB
  replace BM := Lib.hid (BM.out.below hbl_)
  clear m0
  replace BX := Lib.hid (BX.out.below hbl_)
  clear r0 r1 r2 r3 r4 r5 r6
  clear hm1_ hbl_
  generalize w_.heap.size = ab at *
  generalize w_.alloc (.cells #[.int .i64 (rankS r me)] 3) = V at *
  have m0 := cell_of_blk BM.out.1 0
  simp at m0
  have r0 := cell_of_blk BX.out.1 0
  have r1 := cell_of_blk BX.out.1 1
  have r2 := cell_of_blk BX.out.1 2
  have r3 := cell_of_blk BX.out.1 3
  have r4 := cell_of_blk BX.out.1 4
  have r5 := cell_of_blk BX.out.1 5
  have r6 := cell_of_blk BX.out.1 6
  simp at r0 r1 r2 r3 r4 r5 r6
  have a0 := cell_of_blk AB.out.1 0
  simp at a0
  refine wpF_seq (wpF_seq (wpF_of_wp ?_))
  by_cases hre : isReader r me = false
  · rw [if_pos hre] at HR
    rw [hre]
    go_wp2_with fail
    refine wpF_of_wp ?_
    go_wp2_with fail
    exact ⟨_, results_tmp rfl _ _ _, HR _ _ ⟨g, s, hst, .inl ⟨_, rfl, rfl, hm⟩⟩⟩
  rw [if_neg hre] at HR
  have hre : isReader r me = true := by simpa using hre
  have hRK := rankS_range hre
  rw [hre]
  clear hre
  generalize rankS r me = a at *
  obtain ⟨ha0, ha1⟩ := hRK
  go_wp2_with fail
  refine wpF_of_wp ?_
  go_wp2_with fail
  refine wpF_seq (wpF_of_wp ?_)
  go_wp2_with fail
  refine (threads_calls _ hm (by first | exact Below.refl _ _ | exact (Below.refl _ _).drew)).mono ?_
  rintro e_ w_ ⟨rfl, rfl⟩
  have hT := threadsS_range r.n
  generalize threadsS r.n = T at *
  obtain ⟨hT1, hT2⟩ := hT
  obtain ⟨n, hn⟩ : ∃ n : Nat, T - 1 = n := ⟨(T - 1).toNat, by omega⟩
  have hn7 : n ≤ 7 := by omega
  rw [hn] at HR ha1
  rw [Int.toNat_natCast] at HR
  go_wp2_with fail
  have hNB : ab < V.heap.size := heap_lt AB.out.1
  have hA2 : ∀ ad, g.aA = some ad → 0 < g.aN → ad.block < V.heap.size := fun ad e hp => hm.at_.ans_lt e (hm.at_.al.symm ▸ hp)
  obtain ⟨hm1_, NB⟩ := hm.box #[.int .i64 n] 3
  have hbl_ : Below (V).heap.size (V) ((V).alloc (.cells #[.int .i64 n] 3)) := (Below.refl _ _).alloc (Nat.le_refl _) _
  replace hst := hst.trans (Step.of_below _ hbl_)
  replace hm := hm1_
  replace NB := Lib.hid NB
  replace BM := Lib.hid (BM.out.below hbl_)
  clear m0
  replace BX := Lib.hid (BX.out.below hbl_)
  clear r0 r1 r2 r3 r4 r5 r6
  replace AB := Lib.hid (AB.out.below hbl_)
  clear a0
  clear hm1_ hbl_
  generalize V.heap.size = nb at *
  generalize V.alloc (.cells #[.int .i64 n] 3) = V2 at *
  have m0 := cell_of_blk BM.out.1 0
  simp at m0
  have r0 := cell_of_blk BX.out.1 0
  have r1 := cell_of_blk BX.out.1 1
  have r2 := cell_of_blk BX.out.1 2
  have r3 := cell_of_blk BX.out.1 3
  have r4 := cell_of_blk BX.out.1 4
  have r5 := cell_of_blk BX.out.1 5
  have r6 := cell_of_blk BX.out.1 6
  simp at r0 r1 r2 r3 r4 r5 r6
  have a0 := cell_of_blk AB.out.1 0
  simp at a0
  have n0 := cell_of_blk NB.out.1 0
  simp at n0
  clear hn hT1 hT2
  refine wpF_seq (wpF_panQ (fun ch w => R (.panicked ch) w) (by rintro ch ⟨tm, df⟩ w rfl h; exact h) ?_)
  have hsl := tSlot_in hin a (by omega)
  have hNB2 : nb < V2.heap.size := heap_lt NB.out.1
  refine start_ (S := fun W => W.cell? ⟨w.heap.size, 0, none⟩ = some (.pointer (some ⟨b, 0, none⟩)) ∧ W.cell? ⟨ab, 0, none⟩ = some (.int .i64 a) ∧ W.cell? ⟨w.heap.size + 1, 0, none⟩ = some (.int .i64 r.kind) ∧ W.cell? ⟨w.heap.size + 1, 1, none⟩ = some (.int .i64 r.base) ∧ W.cell? ⟨w.heap.size + 1, 2, none⟩ = some (.int .i64 r.loc) ∧ W.cell? ⟨w.heap.size + 1, 3, none⟩ = some (.int .i64 r.n) ∧ W.cell? ⟨w.heap.size + 1, 4, none⟩ = some (.int .i64 r.writer) ∧ W.cell? ⟨w.heap.size + 1, 5, none⟩ = some (.int .i64 r.reader) ∧ W.cell? ⟨w.heap.size + 1, 6, none⟩ = some (.int .i64 r.top)) (ds := [6]) #[false, false, false, false, false, false, false] (by kernel_rfl) rfl rfl ⟨m0, a0, r0, r1, r2, r3, r4, r5, r6⟩ (fun hHeld => ?_)
  refine take_ (i := 0) (N := some 36) (v := ?_) (a' := ?_) #[true, false, false, false, false, false, false] rfl rfl (by kernel_rfl) (fun _ _ _ h => h) (Or.inl ⟨by rfl, ?_⟩) hHeld ?_ ?_
  rotate_left
  · intro w' hS'; (try obtain ⟨s0_, s1_⟩ := hS'); (try obtain ⟨s1_, s2_⟩ := s1_); (try obtain ⟨s2_, s3_⟩ := s2_); (try obtain ⟨s3_, s4_⟩ := s3_); (try obtain ⟨s4_, s5_⟩ := s4_); (try obtain ⟨s5_, s6_⟩ := s5_); (try obtain ⟨s6_, s7_⟩ := s6_); (try obtain ⟨s7_, s8_⟩ := s7_); (try obtain ⟨s8_, s9_⟩ := s8_); (try obtain ⟨s9_, s10_⟩ := s9_); (try obtain ⟨s10_, s11_⟩ := s10_)
    go_simp
    with_reducible rfl
  rotate_left
  · simp only [Act.put, List.setIfInBounds_toArray, List.set_cons_zero, List.set_cons_succ, i64_w, i32_w]
    rfl
  refine take_ (i := 1) (N := some 37) (v := ?_) (a' := ?_) #[true, true, false, false, false, false, false] rfl rfl (by kernel_rfl) (fun _ _ _ h => h) (Or.inl ⟨by rfl, ?_⟩) hHeld ?_ ?_
  rotate_left
  · intro w' hS'; (try obtain ⟨s0_, s1_⟩ := hS'); (try obtain ⟨s1_, s2_⟩ := s1_); (try obtain ⟨s2_, s3_⟩ := s2_); (try obtain ⟨s3_, s4_⟩ := s3_); (try obtain ⟨s4_, s5_⟩ := s4_); (try obtain ⟨s5_, s6_⟩ := s5_); (try obtain ⟨s6_, s7_⟩ := s6_); (try obtain ⟨s7_, s8_⟩ := s7_); (try obtain ⟨s8_, s9_⟩ := s8_); (try obtain ⟨s9_, s10_⟩ := s9_); (try obtain ⟨s10_, s11_⟩ := s10_)
    go_simp
    with_reducible rfl
  rotate_left
  · simp only [Act.put, List.setIfInBounds_toArray, List.set_cons_zero, List.set_cons_succ, i64_w, i32_w]
    rfl
  refine take_ (i := 2) (N := some 38) (v := ?_) (a' := ?_) #[true, true, true, false, false, false, false] rfl rfl (by kernel_rfl) (fun _ _ _ h => h) (Or.inl ⟨by rfl, ?_⟩) hHeld ?_ ?_
  rotate_left
  · intro w' hS'; (try obtain ⟨s0_, s1_⟩ := hS'); (try obtain ⟨s1_, s2_⟩ := s1_); (try obtain ⟨s2_, s3_⟩ := s2_); (try obtain ⟨s3_, s4_⟩ := s3_); (try obtain ⟨s4_, s5_⟩ := s4_); (try obtain ⟨s5_, s6_⟩ := s5_); (try obtain ⟨s6_, s7_⟩ := s6_); (try obtain ⟨s7_, s8_⟩ := s7_); (try obtain ⟨s8_, s9_⟩ := s8_); (try obtain ⟨s9_, s10_⟩ := s9_); (try obtain ⟨s10_, s11_⟩ := s10_)
    go_simp
    with_reducible rfl
  rotate_left
  · simp only [Act.put, List.setIfInBounds_toArray, List.set_cons_zero, List.set_cons_succ, i64_w, i32_w]
    rfl
  have hbl_ : Below (V2).heap.size (V2) (V2).drew := (Below.refl _ _).drew
  replace hst := hst.trans (Step.of_below _ hbl_)
  replace hm := hm.below hbl_
  clear m0
  replace BM := Lib.hid (BM.out.below hbl_)
  clear r0 r1 r2 r3 r4 r5 r6
  replace BX := Lib.hid (BX.out.below hbl_)
  clear a0
  replace AB := Lib.hid (AB.out.below hbl_)
  clear n0
  replace NB := Lib.hid (NB.out.below hbl_)
  clear hbl_
  generalize (V2).drew = Vd_ at *
  have m0 := cell_of_blk BM.out.1 0
  simp at m0
  have r0 := cell_of_blk BX.out.1 0
  have r1 := cell_of_blk BX.out.1 1
  have r2 := cell_of_blk BX.out.1 2
  have r3 := cell_of_blk BX.out.1 3
  have r4 := cell_of_blk BX.out.1 4
  have r5 := cell_of_blk BX.out.1 5
  have r6 := cell_of_blk BX.out.1 6
  simp at r0 r1 r2 r3 r4 r5 r6
  have a0 := cell_of_blk AB.out.1 0
  simp at a0
  have n0 := cell_of_blk NB.out.1 0
  simp at n0
  refine join_ 1 #[true, true, true, true, true, true, false] (fun (p : Value × Int × Nat) => [(39, p.1), (40, .int .i64 p.2.1), (10, .pointer (some ⟨p.2.2, 0, none⟩))])
    (fun (p : Value × Int × Nat) W => p.1 = (tSlot r a).v ∧ nb < p.2.2 ∧ ∃ g' s', (∀ ad, g'.aA = some ad → 0 < g'.aN → ad.block < p.2.2) ∧ Step w g W g' ∧ MemP b W g' s' ∧ Hid (BoxAt W g' w.heap.size #[.pointer (some ⟨b, 0, none⟩)] 36) ∧ Hid (BoxAt W g' (w.heap.size + 1) #[.int .i64 r.kind, .int .i64 r.base, .int .i64 r.loc, .int .i64 r.n, .int .i64 r.writer, .int .i64 r.reader, .int .i64 r.top] 23) ∧ Hid (BoxAt W g' ab #[.int .i64 a] 3) ∧ Hid (BoxAt W g' nb #[.int .i64 n] 3) ∧ Hid (BoxAt W g' p.2.2 #[.int .i64 0] 3) ∧ Hid (∀ e w', MPost b (Value.int .i64) w g ((OpM.bind (tGather r n a 0 n p.2.1) fun x => OpM.bind (tTell r n a x 0 n) fun _ => OpM.ret (unpackY x % unpackM (clampS r.top 1048576))) s') e w' → R e w')) ?cont ?orders
  case orders =>
    intro hc
    refine two_ (i := 3) (j := 5) (Ni := some 39) (Nj := some 10) #[true, true, true, true, false, false, false] #[true, true, true, false, false, true, false] rfl rfl rfl rfl (by kernel_rfl) (by decide) (by decide) (fun K hK => ?_) (fun K hK => ?_)
    · refine callP_ Try.func67 (by kernel_rfl) rfl #[r.v, .int .i64 a] (by rfl) rfl rfl (by (try simp only [List.map_toArray, List.map_cons, List.map_nil]); first | done | rfl) ?_
      refine (tSlot_calls r a hin.in2 (by omega) (MemP.blw hm (by first | exact Below.refl _ _ | exact (Below.refl _ _).drew))).mono ?_
      rintro e_ w_ ⟨rfl, hbl_⟩
      replace hst := hst.trans (Step.of_below _ hbl_)
      replace hm := hm.below hbl_
      clear m0
      replace BM := Lib.hid (BM.out.below hbl_)
      have m0 := cell_of_blk BM.out.1 0
      simp at m0
      clear r0 r1 r2 r3 r4 r5 r6
      replace BX := Lib.hid (BX.out.below hbl_)
      have r0 := cell_of_blk BX.out.1 0
      have r1 := cell_of_blk BX.out.1 1
      have r2 := cell_of_blk BX.out.1 2
      have r3 := cell_of_blk BX.out.1 3
      have r4 := cell_of_blk BX.out.1 4
      have r5 := cell_of_blk BX.out.1 5
      have r6 := cell_of_blk BX.out.1 6
      simp at r0 r1 r2 r3 r4 r5 r6
      clear a0
      replace AB := Lib.hid (AB.out.below hbl_)
      have a0 := cell_of_blk AB.out.1 0
      simp at a0
      clear n0
      replace NB := Lib.hid (NB.out.below hbl_)
      have n0 := cell_of_blk NB.out.1 0
      simp at n0
      clear hbl_
      refine Or.inl ?_
      refine ⟨_, rfl, ?_⟩
      refine hK.out _ _ ⟨m0, a0, r0, r1, r2, r3, r4, r5, r6⟩ (fun hHeld => ?_)
      clear hK K
      refine norm_ (a' := ?_) ?_ ?_
      rotate_left
      · show Act.put _ (some 39) _ = _
        simp only [Act.put, List.setIfInBounds_toArray, List.set_cons_zero, List.set_cons_succ, i64_w, i32_w]
        rfl
      refine two_ (i := 4) (j := 5) (Ni := some 40) (Nj := some 10) #[true, true, true, true, true, false, false] #[true, true, true, true, false, true, false] rfl rfl rfl rfl (by kernel_rfl) (by decide) (by decide) (fun K hK => ?_) (fun K hK => ?_)
      · refine callP_ Try.func37 (by kernel_rfl) rfl #[.pointer (some ⟨b, 0, none⟩), (tSlot r a).v] (by rfl) rfl rfl (by (try simp only [List.map_toArray, List.map_cons, List.map_nil]); first | done | rfl) ?_
        refine (slotsR_calls (tSlot r a) hsl hm (by first | exact Below.refl _ _ | exact (Below.refl _ _).drew)).mono ?_
        rintro e_ w_ ⟨g_, s_, st_, hc_⟩
        refine Or.elim hc_ (fun hd_ => ?_) (fun ⟨hx_, he_, hm_⟩ => by subst he_; first | exact ⟨rfl, MPost.haltB hx_ (hst.trans st_) hm_ HR⟩ | exact MPost.haltB hx_ (hst.trans st_) hm_ HR | exact Or.inr ⟨_, rfl, rfl, MPost.haltB hx_ (hst.trans st_) hm_ HR⟩ | exact Or.inr ⟨_, rfl, MPost.haltB hx_ (hst.trans st_) hm_ HR⟩)
        clear hc_
        obtain ⟨x, hx_, rfl, hm_⟩ := hd_
        replace HR := MPost.seqB hx_ HR
        replace hst := hst.trans st_
        replace hm := hm_
        clear m0
        replace BM := Lib.hid (BM.out.step st_)
        have m0 := cell_of_blk BM.out.1 0
        simp at m0
        clear r0 r1 r2 r3 r4 r5 r6
        replace BX := Lib.hid (BX.out.step st_)
        have r0 := cell_of_blk BX.out.1 0
        have r1 := cell_of_blk BX.out.1 1
        have r2 := cell_of_blk BX.out.1 2
        have r3 := cell_of_blk BX.out.1 3
        have r4 := cell_of_blk BX.out.1 4
        have r5 := cell_of_blk BX.out.1 5
        have r6 := cell_of_blk BX.out.1 6
        simp at r0 r1 r2 r3 r4 r5 r6
        clear a0
        replace AB := Lib.hid (AB.out.step st_)
        have a0 := cell_of_blk AB.out.1 0
        simp at a0
        clear n0
        replace NB := Lib.hid (NB.out.step st_)
        have n0 := cell_of_blk NB.out.1 0
        simp at n0
        refine Or.inl ?_
        refine ⟨_, rfl, ?_⟩
        refine hK.out _ _ ⟨m0, a0, r0, r1, r2, r3, r4, r5, r6⟩ (fun hHeld => ?_)
        clear hK K
        refine norm_ (a' := ?_) ?_ ?_
        rotate_left
        · show Act.put _ (some 40) _ = _
          simp only [Act.put, List.setIfInBounds_toArray, List.set_cons_zero, List.set_cons_succ, i64_w, i32_w]
          rfl
        refine one_ (i := 5) (N := some 10) #[true, true, true, true, true, true, false] rfl rfl (by kernel_rfl) (by decide) (fun K hK => ?_)
        refine value_ (w1 := ?_) (v := ?_) (by rfl) rfl ?_ ?_
        rotate_left 2
        · go_simp
          constructor <;> rfl
        have hK2 := heap_lt NB.out.1
        obtain ⟨hm1_, XB⟩ := hm.box #[.int .i64 0] 3
        have hbl_ : Below (w_).heap.size (w_) ((w_).alloc (.cells #[.int .i64 0] 3)) := (Below.refl _ _).alloc (Nat.le_refl _) _
        replace hst := hst.trans (Step.of_below _ hbl_)
        replace hm := hm1_
        replace XB := Lib.hid XB
        replace BM := Lib.hid (BM.out.below hbl_)
        clear m0
        replace BX := Lib.hid (BX.out.below hbl_)
        clear r0 r1 r2 r3 r4 r5 r6
        replace AB := Lib.hid (AB.out.below hbl_)
        clear a0
        replace NB := Lib.hid (NB.out.below hbl_)
        clear n0
        clear hm1_ hbl_
        have m0 := cell_of_blk BM.out.1 0
        simp at m0
        have r0 := cell_of_blk BX.out.1 0
        have r1 := cell_of_blk BX.out.1 1
        have r2 := cell_of_blk BX.out.1 2
        have r3 := cell_of_blk BX.out.1 3
        have r4 := cell_of_blk BX.out.1 4
        have r5 := cell_of_blk BX.out.1 5
        have r6 := cell_of_blk BX.out.1 6
        simp at r0 r1 r2 r3 r4 r5 r6
        have a0 := cell_of_blk AB.out.1 0
        simp at a0
        have n0 := cell_of_blk NB.out.1 0
        simp at n0
        refine hK.out _ _ ⟨m0, a0, r0, r1, r2, r3, r4, r5, r6⟩ (fun hHeld => ?_)
        clear hK K
        refine norm_ (a' := ?_) ?_ ?_
        rotate_left
        · show Act.put _ (some 10) _ = _
          simp only [Act.put, List.setIfInBounds_toArray, List.set_cons_zero, List.set_cons_succ, i64_w, i32_w]
          rfl
        generalize hkb : w_.heap.size = kb at hK2 XB ⊢
        clear hkb
        generalize w_.alloc _ = V3 at *
        have hfin := hc ((tSlot r a).v, x, kb) _ ⟨rfl, hK2, _, _, fun ad e hp => Nat.lt_trans (hA2 ad (hst.aA.symm.trans e) (hst.aN ▸ hp)) hK2, hst, hm, BM, BX, AB, NB, XB, HR⟩
        simp only [putAll, Act.put, List.setIfInBounds_toArray, List.set_cons_zero, List.set_cons_succ] at hfin
        exact hfin
      · refine value_ (w1 := ?_) (v := ?_) (by rfl) rfl ?_ ?_
        rotate_left 2
        · go_simp
          constructor <;> rfl
        have hK2 := heap_lt NB.out.1
        obtain ⟨hm1_, XB⟩ := hm.box #[.int .i64 0] 3
        have hbl_ : Below (w_).heap.size (w_) ((w_).alloc (.cells #[.int .i64 0] 3)) := (Below.refl _ _).alloc (Nat.le_refl _) _
        replace hst := hst.trans (Step.of_below _ hbl_)
        replace hm := hm1_
        replace XB := Lib.hid XB
        replace BM := Lib.hid (BM.out.below hbl_)
        clear m0
        replace BX := Lib.hid (BX.out.below hbl_)
        clear r0 r1 r2 r3 r4 r5 r6
        replace AB := Lib.hid (AB.out.below hbl_)
        clear a0
        replace NB := Lib.hid (NB.out.below hbl_)
        clear n0
        clear hm1_ hbl_
        have m0 := cell_of_blk BM.out.1 0
        simp at m0
        have r0 := cell_of_blk BX.out.1 0
        have r1 := cell_of_blk BX.out.1 1
        have r2 := cell_of_blk BX.out.1 2
        have r3 := cell_of_blk BX.out.1 3
        have r4 := cell_of_blk BX.out.1 4
        have r5 := cell_of_blk BX.out.1 5
        have r6 := cell_of_blk BX.out.1 6
        simp at r0 r1 r2 r3 r4 r5 r6
        have a0 := cell_of_blk AB.out.1 0
        simp at a0
        have n0 := cell_of_blk NB.out.1 0
        simp at n0
        refine hK.out _ _ ⟨m0, a0, r0, r1, r2, r3, r4, r5, r6⟩ (fun hHeld => ?_)
        clear hK K
        refine norm_ (a' := ?_) ?_ ?_
        rotate_left
        · show Act.put _ (some 10) _ = _
          simp only [Act.put, List.setIfInBounds_toArray, List.set_cons_zero, List.set_cons_succ, i64_w, i32_w]
          rfl
        generalize hkb : w_.heap.size = kb at hK2 XB ⊢
        clear hkb
        generalize w_.alloc _ = V3 at *
        have x0 := cell_of_blk XB.out.1 0
        simp at x0
        refine one_ (i := 4) (N := some 40) #[true, true, true, true, true, true, false] rfl rfl (by kernel_rfl) (by decide) (fun K hK => ?_)
        refine callP_ Try.func37 (by kernel_rfl) rfl #[.pointer (some ⟨b, 0, none⟩), (tSlot r a).v] (by rfl) rfl rfl (by (try simp only [List.map_toArray, List.map_cons, List.map_nil]); first | done | rfl) ?_
        refine (slotsR_calls (tSlot r a) hsl hm (by first | exact Below.refl _ _ | exact (Below.refl _ _).drew)).mono ?_
        rintro e_ w_ ⟨g_, s_, st_, hc_⟩
        refine Or.elim hc_ (fun hd_ => ?_) (fun ⟨hx_, he_, hm_⟩ => by subst he_; first | exact ⟨rfl, MPost.haltB hx_ (hst.trans st_) hm_ HR⟩ | exact MPost.haltB hx_ (hst.trans st_) hm_ HR | exact Or.inr ⟨_, rfl, rfl, MPost.haltB hx_ (hst.trans st_) hm_ HR⟩ | exact Or.inr ⟨_, rfl, MPost.haltB hx_ (hst.trans st_) hm_ HR⟩)
        clear hc_
        obtain ⟨x, hx_, rfl, hm_⟩ := hd_
        replace HR := MPost.seqB hx_ HR
        replace hst := hst.trans st_
        replace hm := hm_
        clear m0
        replace BM := Lib.hid (BM.out.step st_)
        have m0 := cell_of_blk BM.out.1 0
        simp at m0
        clear r0 r1 r2 r3 r4 r5 r6
        replace BX := Lib.hid (BX.out.step st_)
        have r0 := cell_of_blk BX.out.1 0
        have r1 := cell_of_blk BX.out.1 1
        have r2 := cell_of_blk BX.out.1 2
        have r3 := cell_of_blk BX.out.1 3
        have r4 := cell_of_blk BX.out.1 4
        have r5 := cell_of_blk BX.out.1 5
        have r6 := cell_of_blk BX.out.1 6
        simp at r0 r1 r2 r3 r4 r5 r6
        clear a0
        replace AB := Lib.hid (AB.out.step st_)
        have a0 := cell_of_blk AB.out.1 0
        simp at a0
        clear n0
        replace NB := Lib.hid (NB.out.step st_)
        have n0 := cell_of_blk NB.out.1 0
        simp at n0
        clear x0
        replace XB := Lib.hid (XB.out.step st_)
        have x0 := cell_of_blk XB.out.1 0
        simp at x0
        refine Or.inl ?_
        refine ⟨_, rfl, ?_⟩
        refine hK.out _ _ ⟨m0, a0, r0, r1, r2, r3, r4, r5, r6⟩ (fun hHeld => ?_)
        clear hK K
        refine norm_ (a' := ?_) ?_ ?_
        rotate_left
        · show Act.put _ (some 40) _ = _
          simp only [Act.put, List.setIfInBounds_toArray, List.set_cons_zero, List.set_cons_succ, i64_w, i32_w]
          rfl
        have hfin := hc ((tSlot r a).v, x, kb) _ ⟨rfl, hK2, _, _, fun ad e hp => Nat.lt_trans (hA2 ad (hst.aA.symm.trans e) (hst.aN ▸ hp)) hK2, hst, hm, BM, BX, AB, NB, XB, HR⟩
        simp only [putAll, Act.put, List.setIfInBounds_toArray, List.set_cons_zero, List.set_cons_succ] at hfin
        exact hfin
    · refine value_ (w1 := ?_) (v := ?_) (by rfl) rfl ?_ ?_
      rotate_left 2
      · go_simp
        constructor <;> rfl
      have hK2 := heap_lt NB.out.1
      obtain ⟨hm1_, XB⟩ := hm.box #[.int .i64 0] 3
      have hbl_ : Below (Vd_).heap.size (Vd_) ((Vd_).alloc (.cells #[.int .i64 0] 3)) := (Below.refl _ _).alloc (Nat.le_refl _) _
      replace hst := hst.trans (Step.of_below _ hbl_)
      replace hm := hm1_
      replace XB := Lib.hid XB
      replace BM := Lib.hid (BM.out.below hbl_)
      clear m0
      replace BX := Lib.hid (BX.out.below hbl_)
      clear r0 r1 r2 r3 r4 r5 r6
      replace AB := Lib.hid (AB.out.below hbl_)
      clear a0
      replace NB := Lib.hid (NB.out.below hbl_)
      clear n0
      clear hm1_ hbl_
      have m0 := cell_of_blk BM.out.1 0
      simp at m0
      have r0 := cell_of_blk BX.out.1 0
      have r1 := cell_of_blk BX.out.1 1
      have r2 := cell_of_blk BX.out.1 2
      have r3 := cell_of_blk BX.out.1 3
      have r4 := cell_of_blk BX.out.1 4
      have r5 := cell_of_blk BX.out.1 5
      have r6 := cell_of_blk BX.out.1 6
      simp at r0 r1 r2 r3 r4 r5 r6
      have a0 := cell_of_blk AB.out.1 0
      simp at a0
      have n0 := cell_of_blk NB.out.1 0
      simp at n0
      refine hK.out _ _ ⟨m0, a0, r0, r1, r2, r3, r4, r5, r6⟩ (fun hHeld => ?_)
      clear hK K
      refine norm_ (a' := ?_) ?_ ?_
      rotate_left
      · show Act.put _ (some 10) _ = _
        simp only [Act.put, List.setIfInBounds_toArray, List.set_cons_zero, List.set_cons_succ, i64_w, i32_w]
        rfl
      generalize hkb : Vd_.heap.size = kb at hK2 XB ⊢
      clear hkb
      generalize Vd_.alloc _ = V3 at *
      have x0 := cell_of_blk XB.out.1 0
      simp at x0
      refine one_ (i := 3) (N := some 39) #[true, true, true, true, false, true, false] rfl rfl (by kernel_rfl) (by decide) (fun K hK => ?_)
      refine callP_ Try.func67 (by kernel_rfl) rfl #[r.v, .int .i64 a] (by rfl) rfl rfl (by (try simp only [List.map_toArray, List.map_cons, List.map_nil]); first | done | rfl) ?_
      refine (tSlot_calls r a hin.in2 (by omega) (MemP.blw hm (by first | exact Below.refl _ _ | exact (Below.refl _ _).drew))).mono ?_
      rintro e_ w_ ⟨rfl, hbl_⟩
      replace hst := hst.trans (Step.of_below _ hbl_)
      replace hm := hm.below hbl_
      clear m0
      replace BM := Lib.hid (BM.out.below hbl_)
      have m0 := cell_of_blk BM.out.1 0
      simp at m0
      clear r0 r1 r2 r3 r4 r5 r6
      replace BX := Lib.hid (BX.out.below hbl_)
      have r0 := cell_of_blk BX.out.1 0
      have r1 := cell_of_blk BX.out.1 1
      have r2 := cell_of_blk BX.out.1 2
      have r3 := cell_of_blk BX.out.1 3
      have r4 := cell_of_blk BX.out.1 4
      have r5 := cell_of_blk BX.out.1 5
      have r6 := cell_of_blk BX.out.1 6
      simp at r0 r1 r2 r3 r4 r5 r6
      clear a0
      replace AB := Lib.hid (AB.out.below hbl_)
      have a0 := cell_of_blk AB.out.1 0
      simp at a0
      clear n0
      replace NB := Lib.hid (NB.out.below hbl_)
      have n0 := cell_of_blk NB.out.1 0
      simp at n0
      clear x0
      replace XB := Lib.hid (XB.out.below hbl_)
      have x0 := cell_of_blk XB.out.1 0
      simp at x0
      clear hbl_
      refine Or.inl ?_
      refine ⟨_, rfl, ?_⟩
      refine hK.out _ _ ⟨m0, a0, r0, r1, r2, r3, r4, r5, r6⟩ (fun hHeld => ?_)
      clear hK K
      refine norm_ (a' := ?_) ?_ ?_
      rotate_left
      · show Act.put _ (some 39) _ = _
        simp only [Act.put, List.setIfInBounds_toArray, List.set_cons_zero, List.set_cons_succ, i64_w, i32_w]
        rfl
      refine one_ (i := 4) (N := some 40) #[true, true, true, true, true, true, false] rfl rfl (by kernel_rfl) (by decide) (fun K hK => ?_)
      refine callP_ Try.func37 (by kernel_rfl) rfl #[.pointer (some ⟨b, 0, none⟩), (tSlot r a).v] (by rfl) rfl rfl (by (try simp only [List.map_toArray, List.map_cons, List.map_nil]); first | done | rfl) ?_
      refine (slotsR_calls (tSlot r a) hsl hm (by first | exact Below.refl _ _ | exact (Below.refl _ _).drew)).mono ?_
      rintro e_ w_ ⟨g_, s_, st_, hc_⟩
      refine Or.elim hc_ (fun hd_ => ?_) (fun ⟨hx_, he_, hm_⟩ => by subst he_; first | exact ⟨rfl, MPost.haltB hx_ (hst.trans st_) hm_ HR⟩ | exact MPost.haltB hx_ (hst.trans st_) hm_ HR | exact Or.inr ⟨_, rfl, rfl, MPost.haltB hx_ (hst.trans st_) hm_ HR⟩ | exact Or.inr ⟨_, rfl, MPost.haltB hx_ (hst.trans st_) hm_ HR⟩)
      clear hc_
      obtain ⟨x, hx_, rfl, hm_⟩ := hd_
      replace HR := MPost.seqB hx_ HR
      replace hst := hst.trans st_
      replace hm := hm_
      clear m0
      replace BM := Lib.hid (BM.out.step st_)
      have m0 := cell_of_blk BM.out.1 0
      simp at m0
      clear r0 r1 r2 r3 r4 r5 r6
      replace BX := Lib.hid (BX.out.step st_)
      have r0 := cell_of_blk BX.out.1 0
      have r1 := cell_of_blk BX.out.1 1
      have r2 := cell_of_blk BX.out.1 2
      have r3 := cell_of_blk BX.out.1 3
      have r4 := cell_of_blk BX.out.1 4
      have r5 := cell_of_blk BX.out.1 5
      have r6 := cell_of_blk BX.out.1 6
      simp at r0 r1 r2 r3 r4 r5 r6
      clear a0
      replace AB := Lib.hid (AB.out.step st_)
      have a0 := cell_of_blk AB.out.1 0
      simp at a0
      clear n0
      replace NB := Lib.hid (NB.out.step st_)
      have n0 := cell_of_blk NB.out.1 0
      simp at n0
      clear x0
      replace XB := Lib.hid (XB.out.step st_)
      have x0 := cell_of_blk XB.out.1 0
      simp at x0
      refine Or.inl ?_
      refine ⟨_, rfl, ?_⟩
      refine hK.out _ _ ⟨m0, a0, r0, r1, r2, r3, r4, r5, r6⟩ (fun hHeld => ?_)
      clear hK K
      refine norm_ (a' := ?_) ?_ ?_
      rotate_left
      · show Act.put _ (some 40) _ = _
        simp only [Act.put, List.setIfInBounds_toArray, List.set_cons_zero, List.set_cons_succ, i64_w, i32_w]
        rfl
      have hfin := hc ((tSlot r a).v, x, kb) _ ⟨rfl, hK2, _, _, fun ad e hp => Nat.lt_trans (hA2 ad (hst.aA.symm.trans e) (hst.aN ▸ hp)) hK2, hst, hm, BM, BX, AB, NB, XB, HR⟩
      simp only [putAll, Act.put, List.setIfInBounds_toArray, List.set_cons_zero, List.set_cons_succ] at hfin
      exact hfin
  case cont =>
    rintro ⟨v, x, kb⟩ V3 ⟨hv, hK2, g1, s1, hxa, hst, hm, BM, BX, AB, NB, XB, HR⟩
    simp only at hv hK2 hxa XB HR
    subst hv
    simp only [putAll, Act.put, List.setIfInBounds_toArray, List.set_cons_zero, List.set_cons_succ]
    clear m0 r0 r1 r2 r3 r4 r5 r6 a0 n0
    have x0 := cell_of_blk XB.out.1 0
    have x0f := frozen_of_blk XB.out.1 0
    simp at x0
    refine last_ (i := 6) (N := none) #[true, true, true, true, true, true, true] rfl rfl (by kernel_rfl) (by decide) (fun K hK => ?_)
    refine skip_ (w1 := ?_) (by rfl) rfl ?_ ?_
    rotate_left
    · go_simp
      rfl
    refine hK.out _ _ ?_
    clear hK K
    refine done_ (by kernel_rfl) ?_
    clear x0 x0f
    replace hm := hm.setBox XB.out (fun ad e hp => by have := hxa ad e hp; omega) 0 (.int .i64 x)
    replace hst := hst.setBox (k := kb) (by omega) 0 (.int .i64 x)
    replace BM := Lib.hid (BM.out.setOther (k2 := kb) (by omega) 0 (.int .i64 x))
    replace BX := Lib.hid (BX.out.setOther (k2 := kb) (by omega) 0 (.int .i64 x))
    replace AB := Lib.hid (AB.out.setOther (k2 := kb) (by omega) 0 (.int .i64 x))
    replace NB := Lib.hid (NB.out.setOther (k2 := kb) (by omega) 0 (.int .i64 x))
    replace XB := Lib.hid (XB.out.setSelf (.int .i64 x))
    generalize V3.setCell ⟨kb, 0, none⟩ (.int .i64 x) = V4 at *
    have m0 := cell_of_blk BM.out.1 0
    simp at m0
    have r0 := cell_of_blk BX.out.1 0
    have r1 := cell_of_blk BX.out.1 1
    have r2 := cell_of_blk BX.out.1 2
    have r3 := cell_of_blk BX.out.1 3
    have r4 := cell_of_blk BX.out.1 4
    have r5 := cell_of_blk BX.out.1 5
    have r6 := cell_of_blk BX.out.1 6
    simp at r0 r1 r2 r3 r4 r5 r6
    have a0 := cell_of_blk AB.out.1 0
    simp at a0
    have n0 := cell_of_blk NB.out.1 0
    simp at n0
    have x0 := cell_of_blk XB.out.1 0
    simp at x0
    change wpF _ _ _ _ _ _
    refine wpF_seq (wpF_seq (wpF_of_wp ?_))
    go_wp2_with fail
    have hKC : kb < V4.heap.size := heap_lt XB.out.1
    refine (ranks_calls0 _ _ _).mono ?_
    rintro e_ w_ ⟨rfl, rfl⟩
    obtain ⟨hm1, KB⟩ := hm.box #[.int .i64 n] 3
    obtain ⟨hm2, BB⟩ := hm1.box #[.int .i64 a] 3
    have hbl : Below V4.heap.size V4 ((V4.alloc (.cells #[.int .i64 n] 3)).alloc (.cells #[.int .i64 a] 3)) := ((Below.refl _ _).alloc (Nat.le_refl _) _).alloc (by simp) _
    replace hst := hst.trans (Step.of_below _ hbl)
    replace BM := Lib.hid (BM.out.below hbl)
    replace BX := Lib.hid (BX.out.below hbl)
    replace AB := Lib.hid (AB.out.below hbl)
    replace NB := Lib.hid (NB.out.below hbl)
    replace XB := Lib.hid (XB.out.below hbl)
    replace KB := Lib.hid (KB.below ((Below.refl _ _).alloc (Nat.le_refl _) (.cells #[.int .i64 a] 3)))
    rw [show (V4.alloc (.cells #[.int .i64 n] 3)).heap.size = V4.heap.size + 1 from by simp] at BB
    replace BB := Lib.hid BB
    replace hm := hm2
    skip
    clear hm1 hm2 hbl m0 r0 r1 r2 r3 r4 r5 r6 a0 n0 x0
    generalize V4.heap.size = kc at *
    generalize (V4.alloc (.cells #[.int .i64 n] 3)).alloc (.cells #[.int .i64 a] 3) = w0 at *
    go_wp2_with fail
    refine wpF_block ?_
    have hw0 : w.heap.size ≤ w0.heap.size := hst.size
    refine wpF_ranks Try.func38 kc (kc + 1) n a rfl (by omega) (by omega)
      (fun i V => ∃ g2 s2 x, (∀ ad, g2.aA = some ad → 0 < g2.aN → ad.block < kb) ∧ MemP b V g2 s2 ∧ Step w g V g2 ∧ Hid (BoxAt V g2 w.heap.size #[.pointer (some ⟨b, 0, none⟩)] 36) ∧ Hid (BoxAt V g2 (w.heap.size + 1) #[.int .i64 r.kind, .int .i64 r.base, .int .i64 r.loc, .int .i64 r.n, .int .i64 r.writer, .int .i64 r.reader, .int .i64 r.top] 23) ∧ Hid (BoxAt V g2 ab #[.int .i64 a] 3) ∧ Hid (BoxAt V g2 nb #[.int .i64 n] 3) ∧ Hid (BoxAt V g2 kb #[.int .i64 x] 3) ∧ Hid (BoxAt V g2 kc #[.int .i64 n] 3) ∧ Hid (BoxAt V g2 (kc + 1) #[.int .i64 a] 3) ∧ (i ≤ n → Hid (∀ e w', MPost b (Value.int .i64) w g (OpM.bind (tGather r n a i (n - i) x) (fun x => OpM.bind (tTell r n a x 0 n) fun _ => OpM.ret (unpackY x % unpackM (clampS r.top 1048576))) s2) e w' → R e w')))
      (fun ch V => ch = [stopOf b] ∧ ∃ g2 s2, Step w g V g2 ∧ MemAt 2 V g2 s2 ∧ g2.b = b ∧ Hid (∀ e w', MPost b (Value.int .i64) w g ((none : Option Int), s2) e w' → R e w'))
      ?cells ?hI ?hX ?h0 ?skip ?round ?done ?panic
    case cells =>
      rintro i V ⟨g2, s2, x, hxa, h1, h2, h4, h5, h6, h7, h8, h9, h10, h11⟩
      exact ⟨by rw [cell_of_blk h9.out.1 0]; rfl, by rw [cell_of_blk h10.out.1 0]; rfl⟩
    case hI =>
      rintro i V l o o' ⟨g2, s2, x, hxa, h1, h2, h4, h5, h6, h7, h8, h9, h10, h11⟩ hl ho hoc
      exact ⟨g2, s2, x, hxa, h1.putObj o' ho hoc, h2.putObj o' (by omega), Lib.hid (h4.out.putObj o' ho hoc), Lib.hid (h5.out.putObj o' ho hoc), Lib.hid (h6.out.putObj o' ho hoc), Lib.hid (h7.out.putObj o' ho hoc), Lib.hid (h8.out.putObj o' ho hoc), Lib.hid (h9.out.putObj o' ho hoc), Lib.hid (h10.out.putObj o' ho hoc), h11⟩
    case hX =>
      rintro ch V l o o' ⟨rfl, g2, s2, h1, h2, h3, h4⟩ hl ho hoc
      exact ⟨rfl, g2, s2, h1.putObj o' (by omega), h2.putObj o' ho hoc, h3, h4⟩
    case h0 =>
      intro W hW
      exact ⟨_, _, x, hxa, hm.below hW, hst.trans (Step.of_below _ hW), Lib.hid (BM.out.below hW), Lib.hid (BX.out.below hW), Lib.hid (AB.out.below hW), Lib.hid (NB.out.below hW), Lib.hid (XB.out.below hW), Lib.hid (KB.out.below hW), Lib.hid (BB.out.below hW), fun _ => HR⟩
    case skip =>
      rintro i V ⟨g2, s2, x, hxa, h1, h2, h4, h5, h6, h7, h8, h9, h10, h11⟩ hia
      refine ⟨g2, s2, x, hxa, h1, h2, h4, h5, h6, h7, h8, h9, h10, fun hle => ?_⟩
      replace h11 := h11 (by omega)
      obtain ⟨m, hnk⟩ : ∃ m, n - i = m + 1 := ⟨n - i - 1, by omega⟩
      rw [hnk, tGather, if_pos hia] at h11
      rw [show n - (i + 1) = m by omega]
      exact h11
    case panic =>
      rintro ch V D ⟨rfl, g2, s2, h1, h2, h3, h4⟩ hD hDl
      refine ⟨by simp, .inl ⟨_, _, rfl, run_takeDeferred hD, ?_⟩⟩
      exact h4.out _ _ ⟨g2, s2, h1.putObj _ (by omega), .inr ⟨rfl, rfl, h2.putObj _ hD rfl, h3⟩⟩
    case done =>
      rintro V D1 ⟨g2, s2, x, hxa, hm, hst, BM, BX, AB, NB, XB, KB, BB, h8⟩ hD hDl
      rw [Int.toNat_natCast] at h8
      have HR := h8 (Nat.le_refl _)
      rw [Nat.sub_self] at HR
      replace HR := MPost.seqB (m := tGather r n a n 0 x) (x := x) (s1 := s2) rfl HR
      clear h8
      clear KB BB
      have HD1 := Lib.hid hD
      clear hD
      have m0 := cell_of_blk BM.out.1 0
      simp at m0
      have r0 := cell_of_blk BX.out.1 0
      have r1 := cell_of_blk BX.out.1 1
      have r2 := cell_of_blk BX.out.1 2
      have r3 := cell_of_blk BX.out.1 3
      have r4 := cell_of_blk BX.out.1 4
      have r5 := cell_of_blk BX.out.1 5
      have r6 := cell_of_blk BX.out.1 6
      simp at r0 r1 r2 r3 r4 r5 r6
      have a0 := cell_of_blk AB.out.1 0
      simp at a0
      have n0 := cell_of_blk NB.out.1 0
      simp at n0
      have x0 := cell_of_blk XB.out.1 0
      simp at x0
      change wpF _ _ _ _ _ _
      dsimp only
      refine wpF_seq (wpF_seq (wpF_of_wp ?_))
      go_wp2_with fail
      refine (ranks_calls0 _ _ _).mono ?_
      rintro e_ w_ ⟨rfl, rfl⟩
      obtain ⟨hm1, KB⟩ := hm.box #[.int .i64 n] 3
      obtain ⟨hm2, BB⟩ := hm1.box #[.int .i64 a] 3
      have hbl : Below V.heap.size V ((V.alloc (.cells #[.int .i64 n] 3)).alloc (.cells #[.int .i64 a] 3)) := ((Below.refl _ _).alloc (Nat.le_refl _) _).alloc (by simp) _
      replace hst := hst.trans (Step.of_below _ hbl)
      replace BM := Lib.hid (BM.out.below hbl)
      replace BX := Lib.hid (BX.out.below hbl)
      replace AB := Lib.hid (AB.out.below hbl)
      replace NB := Lib.hid (NB.out.below hbl)
      replace XB := Lib.hid (XB.out.below hbl)
      replace KB := Lib.hid (KB.below ((Below.refl _ _).alloc (Nat.le_refl _) (.cells #[.int .i64 a] 3)))
      rw [show (V.alloc (.cells #[.int .i64 n] 3)).heap.size = V.heap.size + 1 from by simp] at BB
      replace BB := Lib.hid BB
      replace hm := hm2
      replace HD1 := Lib.hid ((hbl.block _ (heap_lt HD1.out)).trans HD1.out)
      skip
      clear hm1 hm2 hbl m0 r0 r1 r2 r3 r4 r5 r6 a0 n0 x0
      generalize V.heap.size = kd at *
      generalize (V.alloc (.cells #[.int .i64 n] 3)).alloc (.cells #[.int .i64 a] 3) = w1 at *
      go_wp2_with fail
      refine wpF_block ?_
      have hw1 : w.heap.size ≤ w1.heap.size := hst.size
      have hD1w := heap_lt HD1.out
      refine wpF_ranks Try.func38 kd (kd + 1) n a rfl (by omega) (by omega)
        (fun i V => ∃ g2 s2, MemP b V g2 s2 ∧ Step w g V g2 ∧ Hid (BoxAt V g2 w.heap.size #[.pointer (some ⟨b, 0, none⟩)] 36) ∧ Hid (BoxAt V g2 (w.heap.size + 1) #[.int .i64 r.kind, .int .i64 r.base, .int .i64 r.loc, .int .i64 r.n, .int .i64 r.writer, .int .i64 r.reader, .int .i64 r.top] 23) ∧ Hid (BoxAt V g2 ab #[.int .i64 a] 3) ∧ Hid (BoxAt V g2 nb #[.int .i64 n] 3) ∧ Hid (BoxAt V g2 kb #[.int .i64 x] 3) ∧ Hid (BoxAt V g2 kd #[.int .i64 n] 3) ∧ Hid (BoxAt V g2 (kd + 1) #[.int .i64 a] 3) ∧ Hid (V.heap[D1]? = some (.deferred (some []))) ∧ (i ≤ n → Hid (∀ e w', MPost b (Value.int .i64) w g (OpM.bind (tTell r n a x i (n - i)) (fun _ => OpM.ret (unpackY x % unpackM (clampS r.top 1048576))) s2) e w' → R e w')))
        (fun ch V => ch = [stopOf b] ∧ ∃ g2 s2, Step w g V g2 ∧ MemAt 2 V g2 s2 ∧ g2.b = b ∧ Hid (V.heap[D1]? = some (.deferred (some []))) ∧ Hid (∀ e w', MPost b (Value.int .i64) w g ((none : Option Int), s2) e w' → R e w'))
        ?cells2 ?hI2 ?hX2 ?h02 ?skip2 ?round2 ?done2 ?panic2
      case cells2 =>
        rintro i V ⟨g2, s2, h1, h2, h4, h5, h6, h7, h8, h9, h10, hD, h11⟩
        exact ⟨by rw [cell_of_blk h9.out.1 0]; rfl, by rw [cell_of_blk h10.out.1 0]; rfl⟩
      case hI2 =>
        rintro i V l o o' ⟨g2, s2, h1, h2, h4, h5, h6, h7, h8, h9, h10, hD, h11⟩ hl ho hoc
        exact ⟨g2, s2, h1.putObj o' ho hoc, h2.putObj o' (by omega), Lib.hid (h4.out.putObj o' ho hoc), Lib.hid (h5.out.putObj o' ho hoc), Lib.hid (h6.out.putObj o' ho hoc), Lib.hid (h7.out.putObj o' ho hoc), Lib.hid (h8.out.putObj o' ho hoc), Lib.hid (h9.out.putObj o' ho hoc), Lib.hid (h10.out.putObj o' ho hoc), Lib.hid ((World.putObj_heap_other (by omega)).trans hD.out), h11⟩
      case hX2 =>
        rintro ch V l o o' ⟨rfl, g2, s2, h1, h2, h3, hD, h4⟩ hl ho hoc
        exact ⟨rfl, g2, s2, h1.putObj o' (by omega), h2.putObj o' ho hoc, h3, Lib.hid ((World.putObj_heap_other (by omega)).trans hD.out), h4⟩
      case h02 =>
        intro W hW
        exact ⟨_, _, hm.below hW, hst.trans (Step.of_below _ hW), Lib.hid (BM.out.below hW), Lib.hid (BX.out.below hW), Lib.hid (AB.out.below hW), Lib.hid (NB.out.below hW), Lib.hid (XB.out.below hW), Lib.hid (KB.out.below hW), Lib.hid (BB.out.below hW), Lib.hid ((hW.block _ (heap_lt HD1.out)).trans HD1.out), fun _ => HR⟩
      case skip2 =>
        rintro i V ⟨g2, s2, h1, h2, h4, h5, h6, h7, h8, h9, h10, hD, h11⟩ hia
        refine ⟨g2, s2, h1, h2, h4, h5, h6, h7, h8, h9, h10, hD, fun hle => ?_⟩
        replace h11 := h11 (by omega)
        obtain ⟨m, hnk⟩ : ∃ m, n - i = m + 1 := ⟨n - i - 1, by omega⟩
        rw [hnk, tTell, if_pos hia] at h11
        rw [show n - (i + 1) = m by omega]
        exact h11
      case panic2 =>
        rintro ch V D ⟨rfl, g2, s2, h1, h2, h3, hD1, h4⟩ hD hDl
        refine ⟨by simp, .inl ⟨_, _, rfl, run_takeDeferred hD, ?_⟩⟩
        refine ⟨by simp, .inl ⟨_, _, rfl, run_takeDeferred ((World.putObj_heap_other (by omega)).trans hD1.out), ?_⟩⟩
        exact h4.out _ _ ⟨g2, s2, (h1.putObj _ (by omega)).putObj _ (by omega), .inr ⟨rfl, rfl, (h2.putObj _ hD rfl).putObj _ ((World.putObj_heap_other (by omega)).trans hD1.out) rfl, h3⟩⟩
      case round2 =>
        rintro l i V ⟨g2, s2, h1, h2, h4, h5, h6, h7, h8, h9, h10, hD, h11⟩ hlt hne
        gi_wp2
        refine ⟨trivial, ?_⟩
        rintro V' ⟨g2, s2, hm, hst, BM, BX, AB, NB, XB, KB, BB, hD, h11⟩
        have HR := h11 (by omega)
        clear h11 h1 h2 h4 h5 h6 h7 h8 h9 h10
        obtain ⟨m, hnk⟩ : ∃ m, n - i = m + 1 := ⟨n - i - 1, by omega⟩
        rw [hnk, tTell] at HR
        replace HR : Hid (∀ e w', MPost b (Value.int .i64) w g (OpM.bind (OpM.bind (slotsW (tTells r n a i) x) fun _ => tTell r n a x (i + 1) m) (fun _ => OpM.ret (unpackY x % unpackM (clampS r.top 1048576))) s2) e w' → R e w') := by rw [if_neg hne] at HR; exact HR
        rw [OpM.bind_assoc] at HR
        have m0 := cell_of_blk BM.out.1 0
        simp at m0
        have r0 := cell_of_blk BX.out.1 0
        have r1 := cell_of_blk BX.out.1 1
        have r2 := cell_of_blk BX.out.1 2
        have r3 := cell_of_blk BX.out.1 3
        have r4 := cell_of_blk BX.out.1 4
        have r5 := cell_of_blk BX.out.1 5
        have r6 := cell_of_blk BX.out.1 6
        simp at r0 r1 r2 r3 r4 r5 r6
        have a0 := cell_of_blk AB.out.1 0
        simp at a0
        have n0 := cell_of_blk NB.out.1 0
        simp at n0
        have x0 := cell_of_blk XB.out.1 0
        simp at x0
        gi_wp2_with fail
        refine wpIn_round_region (S := fun W => W.cell? ⟨w.heap.size, 0, none⟩ = some (.pointer (some ⟨b, 0, none⟩)) ∧ W.cell? ⟨kb, 0, none⟩ = some (.int .i64 x) ∧ W.cell? ⟨ab, 0, none⟩ = some (.int .i64 a) ∧ W.cell? ⟨nb, 0, none⟩ = some (.int .i64 n) ∧ W.cell? ⟨w.heap.size + 1, 0, none⟩ = some (.int .i64 r.kind) ∧ W.cell? ⟨w.heap.size + 1, 1, none⟩ = some (.int .i64 r.base) ∧ W.cell? ⟨w.heap.size + 1, 2, none⟩ = some (.int .i64 r.loc) ∧ W.cell? ⟨w.heap.size + 1, 3, none⟩ = some (.int .i64 r.n) ∧ W.cell? ⟨w.heap.size + 1, 4, none⟩ = some (.int .i64 r.writer) ∧ W.cell? ⟨w.heap.size + 1, 5, none⟩ = some (.int .i64 r.reader) ∧ W.cell? ⟨w.heap.size + 1, 6, none⟩ = some (.int .i64 r.top)) (ds := [7]) (by kernel_rfl) (by kernel_rfl) (fun _ _ h => h) #[false, false, false, false, false, false, false, false] rfl rfl ⟨m0, x0, a0, n0, r0, r1, r2, r3, r4, r5, r6⟩ (fun hHeld => ?_)
        refine take_ (i := 0) (N := some 58) (v := ?_) (a' := ?_) #[true, false, false, false, false, false, false, false] rfl rfl (by kernel_rfl) (fun _ _ _ h => h) (Or.inl ⟨by rfl, ?_⟩) hHeld ?_ ?_
        rotate_left
        · intro w' hS'; (try obtain ⟨s0_, s1_⟩ := hS'); (try obtain ⟨s1_, s2_⟩ := s1_); (try obtain ⟨s2_, s3_⟩ := s2_); (try obtain ⟨s3_, s4_⟩ := s3_); (try obtain ⟨s4_, s5_⟩ := s4_); (try obtain ⟨s5_, s6_⟩ := s5_); (try obtain ⟨s6_, s7_⟩ := s6_); (try obtain ⟨s7_, s8_⟩ := s7_); (try obtain ⟨s8_, s9_⟩ := s8_); (try obtain ⟨s9_, s10_⟩ := s9_); (try obtain ⟨s10_, s11_⟩ := s10_)
          go_simp
          with_reducible rfl
        rotate_left
        · simp only [Act.put, List.setIfInBounds_toArray, List.set_cons_zero, List.set_cons_succ, i64_w, i32_w]
          rfl
        refine take_ (i := 1) (N := some 59) (v := ?_) (a' := ?_) #[true, true, false, false, false, false, false, false] rfl rfl (by kernel_rfl) (fun _ _ _ h => h) (Or.inl ⟨by rfl, ?_⟩) hHeld ?_ ?_
        rotate_left
        · intro w' hS'; (try obtain ⟨s0_, s1_⟩ := hS'); (try obtain ⟨s1_, s2_⟩ := s1_); (try obtain ⟨s2_, s3_⟩ := s2_); (try obtain ⟨s3_, s4_⟩ := s3_); (try obtain ⟨s4_, s5_⟩ := s4_); (try obtain ⟨s5_, s6_⟩ := s5_); (try obtain ⟨s6_, s7_⟩ := s6_); (try obtain ⟨s7_, s8_⟩ := s7_); (try obtain ⟨s8_, s9_⟩ := s8_); (try obtain ⟨s9_, s10_⟩ := s9_); (try obtain ⟨s10_, s11_⟩ := s10_)
          go_simp
          with_reducible rfl
        rotate_left
        · simp only [Act.put, List.setIfInBounds_toArray, List.set_cons_zero, List.set_cons_succ, i64_w, i32_w]
          rfl
        refine take_ (i := 2) (N := some 60) (v := ?_) (a' := ?_) #[true, true, true, false, false, false, false, false] rfl rfl (by kernel_rfl) (fun _ _ _ h => h) (Or.inl ⟨by rfl, ?_⟩) hHeld ?_ ?_
        rotate_left
        · intro w' hS'; (try obtain ⟨s0_, s1_⟩ := hS'); (try obtain ⟨s1_, s2_⟩ := s1_); (try obtain ⟨s2_, s3_⟩ := s2_); (try obtain ⟨s3_, s4_⟩ := s3_); (try obtain ⟨s4_, s5_⟩ := s4_); (try obtain ⟨s5_, s6_⟩ := s5_); (try obtain ⟨s6_, s7_⟩ := s6_); (try obtain ⟨s7_, s8_⟩ := s7_); (try obtain ⟨s8_, s9_⟩ := s8_); (try obtain ⟨s9_, s10_⟩ := s9_); (try obtain ⟨s10_, s11_⟩ := s10_)
          go_simp
          with_reducible rfl
        rotate_left
        · simp only [Act.put, List.setIfInBounds_toArray, List.set_cons_zero, List.set_cons_succ, i64_w, i32_w]
          rfl
        refine take_ (i := 3) (N := some 61) (v := ?_) (a' := ?_) #[true, true, true, true, false, false, false, false] rfl rfl (by kernel_rfl) (fun _ _ _ h => h) (Or.inl ⟨by rfl, ?_⟩) hHeld ?_ ?_
        rotate_left
        · intro w' hS'; (try obtain ⟨s0_, s1_⟩ := hS'); (try obtain ⟨s1_, s2_⟩ := s1_); (try obtain ⟨s2_, s3_⟩ := s2_); (try obtain ⟨s3_, s4_⟩ := s3_); (try obtain ⟨s4_, s5_⟩ := s4_); (try obtain ⟨s5_, s6_⟩ := s5_); (try obtain ⟨s6_, s7_⟩ := s6_); (try obtain ⟨s7_, s8_⟩ := s7_); (try obtain ⟨s8_, s9_⟩ := s8_); (try obtain ⟨s9_, s10_⟩ := s9_); (try obtain ⟨s10_, s11_⟩ := s10_)
          go_simp
          with_reducible rfl
        rotate_left
        · simp only [Act.put, List.setIfInBounds_toArray, List.set_cons_zero, List.set_cons_succ, i64_w, i32_w]
          rfl
        refine pure_ (i := 4) (N := some 62) (v := ?_) (a' := ?_) #[true, true, true, true, true, false, false, false] rfl rfl (by kernel_rfl) (fun _ _ _ h => h) (Or.inl ⟨by rfl, ?_⟩) ?_ ?_
        rotate_left
        · intro w'
          go_simp
          with_reducible rfl
        rotate_left
        · simp only [Act.put, List.setIfInBounds_toArray, List.set_cons_zero, List.set_cons_succ, i64_w, i32_w]
          rfl
        refine take_ (i := 6) (N := some 64) (v := ?_) (a' := ?_) #[true, true, true, true, true, false, true, false] rfl rfl (by kernel_rfl) (fun _ _ _ h => h) (Or.inl ⟨by rfl, ?_⟩) hHeld ?_ ?_
        rotate_left
        · intro w' hS'; (try obtain ⟨s0_, s1_⟩ := hS'); (try obtain ⟨s1_, s2_⟩ := s1_); (try obtain ⟨s2_, s3_⟩ := s2_); (try obtain ⟨s3_, s4_⟩ := s3_); (try obtain ⟨s4_, s5_⟩ := s4_); (try obtain ⟨s5_, s6_⟩ := s5_); (try obtain ⟨s6_, s7_⟩ := s6_); (try obtain ⟨s7_, s8_⟩ := s7_); (try obtain ⟨s8_, s9_⟩ := s8_); (try obtain ⟨s9_, s10_⟩ := s9_); (try obtain ⟨s10_, s11_⟩ := s10_)
          go_simp
          with_reducible rfl
        rotate_left
        · simp only [Act.put, List.setIfInBounds_toArray, List.set_cons_zero, List.set_cons_succ, i64_w, i32_w]
          rfl
        have hO : Hid (∀ (r : Nat) (o : Obj), V'.heap[r]? = some o → o.isCells = false → V'.drew.heap[r]? = some o) := fun r o h _ => h
        replace hD : Hid (V'.drew.heap[D1]? = some (.deferred (some []))) := Lib.hid hD.out
        have hbl_ : Below (V').heap.size (V') (V').drew := (Below.refl _ _).drew
        replace hst := hst.trans (Step.of_below _ hbl_)
        replace hm := hm.below hbl_
        clear m0
        replace BM := Lib.hid (BM.out.below hbl_)
        clear r0 r1 r2 r3 r4 r5 r6
        replace BX := Lib.hid (BX.out.below hbl_)
        clear a0
        replace AB := Lib.hid (AB.out.below hbl_)
        clear n0
        replace NB := Lib.hid (NB.out.below hbl_)
        clear x0
        replace XB := Lib.hid (XB.out.below hbl_)
        replace KB := Lib.hid (KB.out.below hbl_)
        replace BB := Lib.hid (BB.out.below hbl_)
        clear hbl_
        generalize (V').drew = Vd_ at *
        have m0 := cell_of_blk BM.out.1 0
        simp at m0
        have r0 := cell_of_blk BX.out.1 0
        have r1 := cell_of_blk BX.out.1 1
        have r2 := cell_of_blk BX.out.1 2
        have r3 := cell_of_blk BX.out.1 3
        have r4 := cell_of_blk BX.out.1 4
        have r5 := cell_of_blk BX.out.1 5
        have r6 := cell_of_blk BX.out.1 6
        simp at r0 r1 r2 r3 r4 r5 r6
        have a0 := cell_of_blk AB.out.1 0
        simp at a0
        have n0 := cell_of_blk NB.out.1 0
        simp at n0
        have x0 := cell_of_blk XB.out.1 0
        simp at x0
        have hix : 0 ≤ (n : Int) + a * (n - 1) + (if (i : Int) > a then (i : Int) - 1 else i) := by have : 0 ≤ a * ((n : Int) - 1) := Int.mul_nonneg (by omega) (by omega); split <;> omega
        refine one_ (i := 5) (N := some 63) #[true, true, true, true, true, true, true, false] rfl rfl (by kernel_rfl) (by decide) (fun K hK => ?_)
        refine callP_ Try.func75 (by kernel_rfl) rfl #[r.v, .int .i64 (n : Int), .int .i64 a, .int .i64 (i : Int)] (by rfl) rfl rfl (by (try simp only [List.map_toArray, List.map_cons, List.map_nil]); first | done | rfl) ?_
        refine (tells_calls r n a i hin.in2 (by omega) (by omega) (by omega) hix (MemP.blw hm (Below.refl _ _))).mono ?_
        rintro e_ w_ ⟨rfl, hbl⟩
        refine Or.inl ?_
        replace hO : Hid (∀ (r : Nat) (o : Obj), V'.heap[r]? = some o → o.isCells = false → w_.heap[r]? = some o) := fun r o h ho => (hbl.block r (heap_lt (hO.out r o h ho))).trans (hO.out r o h ho)
        replace hD := Lib.hid ((hbl.block _ (heap_lt hD.out)).trans hD.out)
        replace hst := hst.trans (Step.of_below _ hbl)
        replace hm := hm.below hbl
        replace BM := Lib.hid (BM.out.below hbl)
        replace BX := Lib.hid (BX.out.below hbl)
        replace AB := Lib.hid (AB.out.below hbl)
        replace NB := Lib.hid (NB.out.below hbl)
        replace XB := Lib.hid (XB.out.below hbl)
        replace KB := Lib.hid (KB.out.below hbl)
        replace BB := Lib.hid (BB.out.below hbl)
        clear m0 r0 r1 r2 r3 r4 r5 r6 a0 n0 x0 hbl hHeld
        have m0 := cell_of_blk BM.out.1 0
        simp at m0
        have r0 := cell_of_blk BX.out.1 0
        have r1 := cell_of_blk BX.out.1 1
        have r2 := cell_of_blk BX.out.1 2
        have r3 := cell_of_blk BX.out.1 3
        have r4 := cell_of_blk BX.out.1 4
        have r5 := cell_of_blk BX.out.1 5
        have r6 := cell_of_blk BX.out.1 6
        simp at r0 r1 r2 r3 r4 r5 r6
        have a0 := cell_of_blk AB.out.1 0
        simp at a0
        have n0 := cell_of_blk NB.out.1 0
        simp at n0
        have x0 := cell_of_blk XB.out.1 0
        simp at x0
        refine ⟨_, rfl, ?_⟩
        refine hK.out _ _ ⟨m0, x0, a0, n0, r0, r1, r2, r3, r4, r5, r6⟩ (fun hHeld => ?_)
        clear hK K
        refine norm_ (a' := ?_) ?_ ?_
        rotate_left
        · show Act.put _ (some 63) _ = _
          simp only [Act.put, List.setIfInBounds_toArray, List.set_cons_zero, List.set_cons_succ, i64_w, i32_w]
          rfl
        refine last_ (i := 7) (N := some 65) #[true, true, true, true, true, true, true, true] rfl rfl (by kernel_rfl) (by decide) (fun K hK => ?_)
        refine callP_ Try.func30 (by kernel_rfl) rfl #[.pointer (some ⟨b, 0, none⟩), (tTells r n a i).v, .int .i64 x] (by rfl) rfl rfl (by (try simp only [List.map_toArray, List.map_cons, List.map_nil]); first | done | rfl) ?_
        refine (slotsW_calls (tTells r n a i) x (tTells_in hin n a i (by omega) (by omega) (by omega) hix) hm (Below.refl _ _)).mono ?_
        rintro e_ w2 ⟨g_, s_, st_, hc_⟩
        replace hO : Hid (∀ (r : Nat) (o : Obj), V'.heap[r]? = some o → o.isCells = false → w2.heap[r]? = some o) := fun r o h ho => st_.other hm.at_.mine_cells (hO.out r o h ho) ho
        replace hD := Lib.hid (st_.other hm.at_.mine_cells hD.out rfl)
        refine Or.elim hc_ (fun hd_ => ?_) (fun ⟨hx_, he_, hm_⟩ => ?_)
        rotate_left
        · subst he_
          refine Or.inr ⟨_, rfl, ?_⟩
          refine ⟨rfl, ⟨rfl, g_, s_, hst.trans st_, hm_.1, hm_.2, hD, ?_⟩, fun r o h ho => hO.out r o h ho⟩
          have h9 := OpM.bind_none (f := fun _ => OpM.bind (tTell r n a x (i + 1) m) (fun _ => OpM.ret (unpackY x % unpackM (clampS r.top 1048576)))) hx_
          rw [h9] at HR
          exact HR
        clear hc_
        obtain ⟨y, hx_, rfl, hm_⟩ := hd_
        refine Or.inl ?_
        refine ⟨_, rfl, ?_⟩
        refine hK.out _ _ ?_
        refine done_ (by kernel_rfl) ?_
        refine ⟨⟨g_, s_, hm_, hst.trans st_, Lib.hid (BM.out.step st_), Lib.hid (BX.out.step st_), Lib.hid (AB.out.step st_), Lib.hid (NB.out.step st_), Lib.hid (XB.out.step st_), Lib.hid (KB.out.step st_), Lib.hid (BB.out.step st_), hD, fun _ => ?_⟩, fun r o h ho => hO.out r o h ho⟩
        rw [show n - (i + 1) = m by omega]
        exact MPost.seqB (m := slotsW (tTells r n a i) x) (f := fun _ => OpM.bind (tTell r n a x (i + 1) m) (fun _ => OpM.ret (unpackY x % unpackM (clampS r.top 1048576)))) hx_ HR
      case done2 =>
        rintro V D2 ⟨g2, s2, hm, hst, BM, BX, AB, NB, XB, KB, BB, hD1, h8⟩ hD hDl
        rw [Int.toNat_natCast] at h8
        have HR := h8 (Nat.le_refl _)
        rw [Nat.sub_self] at HR
        replace HR := MPost.seqB (m := tTell r n a x n 0) (x := ()) (s1 := s2) rfl HR
        clear h8 KB BB
        have m0 := cell_of_blk BM.out.1 0
        simp at m0
        have r0 := cell_of_blk BX.out.1 0
        have r1 := cell_of_blk BX.out.1 1
        have r2 := cell_of_blk BX.out.1 2
        have r3 := cell_of_blk BX.out.1 3
        have r4 := cell_of_blk BX.out.1 4
        have r5 := cell_of_blk BX.out.1 5
        have r6 := cell_of_blk BX.out.1 6
        simp at r0 r1 r2 r3 r4 r5 r6
        have a0 := cell_of_blk AB.out.1 0
        simp at a0
        have n0 := cell_of_blk NB.out.1 0
        simp at n0
        have x0 := cell_of_blk XB.out.1 0
        simp at x0
        change wpF _ _ _ _ _ _
        dsimp only
        refine wpF_seq (wpF_panQ (fun _ _ => False) (by rintro ch a w _ h; exact h.elim) ?_)
        have hst0 := Lib.hid hst
        have hm0 := Lib.hid hm
        replace hst := Step.refl V g2
        go_region_held2 (fun W => W.cell? ⟨kb, 0, none⟩ = some (.int .i64 x) ∧ W.cell? ⟨w.heap.size + 1, 6, none⟩ = some (.int .i64 r.top)) (first | assumption | exact ⟨by assumption, by assumption⟩ | exact ⟨by assumption, by assumption, by assumption, by assumption, by assumption, by assumption, by assumption⟩ | simp [*]) (first | (go_at_call 63; refine (clamp_calls _ _ hm (by first | exact Below.refl _ _ | exact (Below.refl _ _).drew)).mono ?_; rintro e_ w_ ⟨rfl, rfl⟩) | (go_at_call 76; refine (unpack_calls x (clampS r.top 1048576) (MemP.blw hm (by first | exact Below.refl _ _ | exact (Below.refl _ _).drew))).mono ?_; rintro e_ w_ ⟨rfl, hbl_⟩; replace hst := hst.trans (Step.of_below _ hbl_); replace hm := hm.below hbl_; clear m0; replace BM := Lib.hid (BM.out.below hbl_); have m0 := cell_of_blk BM.out.1 0; simp at m0; clear r0 r1 r2 r3 r4 r5 r6; replace BX := Lib.hid (BX.out.below hbl_); have r0 := cell_of_blk BX.out.1 0; have r1 := cell_of_blk BX.out.1 1; have r2 := cell_of_blk BX.out.1 2; have r3 := cell_of_blk BX.out.1 3; have r4 := cell_of_blk BX.out.1 4; have r5 := cell_of_blk BX.out.1 5; have r6 := cell_of_blk BX.out.1 6; simp at r0 r1 r2 r3 r4 r5 r6; clear a0; replace AB := Lib.hid (AB.out.below hbl_); have a0 := cell_of_blk AB.out.1 0; simp at a0; clear n0; replace NB := Lib.hid (NB.out.below hbl_); have n0 := cell_of_blk NB.out.1 0; simp at n0; clear x0; replace XB := Lib.hid (XB.out.below hbl_); have x0 := cell_of_blk XB.out.1 0; simp at x0; clear hbl_))
        change wpF _ _ _ _ _ _
        refine wpF_seq (wpF_of_wp ?_)
        go_wp2_with fail
        change wpF _ _ _ _ _ _
        refine wpF_of_wp ?_
        go_wp2_with fail
        have hD2 := hst.other hm0.out.at_.mine_cells hD rfl
        have hD3 := hst.other hm0.out.at_.mine_cells hD1.out rfl
        refine ⟨by simp, .inl ⟨_, _, rfl, run_takeDeferred hD2, ?_⟩⟩
        refine ⟨by simp, .inl ⟨_, _, rfl, run_takeDeferred ((World.putObj_heap_other (by omega)).trans hD3), ?_⟩⟩
        exact ⟨_, results_tmp rfl _ _ _, HR.out _ _ ⟨g2, s2, ((hst0.out.trans hst).putObj _ (by omega)).putObj _ (by omega), .inl ⟨_, rfl, rfl, (hm.putObj _ hD2 rfl).putObj _ ((World.putObj_heap_other (by omega)).trans hD3) rfl⟩⟩⟩
    case round =>
      rintro l i V ⟨g2, s2, x, hxa, h1, h2, h4, h5, h6, h7, h8, h9, h10, h11⟩ hlt hne
      gi_wp2
      refine ⟨trivial, ?_⟩
      rintro V' ⟨g2, s2, x, hxa, hm, hst, BM, BX, AB, NB, XB, KB, BB, h11⟩
      have HR := h11 (by omega)
      clear h11 h1 h2 h4 h5 h6 h7 h8 h9 h10
      obtain ⟨m, hnk⟩ : ∃ m, n - i = m + 1 := ⟨n - i - 1, by omega⟩
      rw [hnk, tGather] at HR
      replace HR : Hid (∀ e w', MPost b (Value.int .i64) w g (OpM.bind (OpM.bind (slotsR (tTells r n i a)) fun y => tGather r n a (i + 1) m (imax x y)) (fun x => OpM.bind (tTell r n a x 0 n) fun _ => OpM.ret (unpackY x % unpackM (clampS r.top 1048576))) s2) e w' → R e w') := by rw [if_neg hne] at HR; exact HR
      rw [OpM.bind_assoc] at HR
      have m0 := cell_of_blk BM.out.1 0
      simp at m0
      have r0 := cell_of_blk BX.out.1 0
      have r1 := cell_of_blk BX.out.1 1
      have r2 := cell_of_blk BX.out.1 2
      have r3 := cell_of_blk BX.out.1 3
      have r4 := cell_of_blk BX.out.1 4
      have r5 := cell_of_blk BX.out.1 5
      have r6 := cell_of_blk BX.out.1 6
      simp at r0 r1 r2 r3 r4 r5 r6
      have a0 := cell_of_blk AB.out.1 0
      simp at a0
      have n0 := cell_of_blk NB.out.1 0
      simp at n0
      have x0 := cell_of_blk XB.out.1 0
      simp at x0
      gi_wp2_with fail
      refine wpIn_round_region (S := fun W => W.cell? ⟨w.heap.size, 0, none⟩ = some (.pointer (some ⟨b, 0, none⟩)) ∧ W.cell? ⟨kb, 0, none⟩ = some (.int .i64 x) ∧ W.cell? ⟨ab, 0, none⟩ = some (.int .i64 a) ∧ W.cell? ⟨nb, 0, none⟩ = some (.int .i64 n) ∧ W.cell? ⟨w.heap.size + 1, 0, none⟩ = some (.int .i64 r.kind) ∧ W.cell? ⟨w.heap.size + 1, 1, none⟩ = some (.int .i64 r.base) ∧ W.cell? ⟨w.heap.size + 1, 2, none⟩ = some (.int .i64 r.loc) ∧ W.cell? ⟨w.heap.size + 1, 3, none⟩ = some (.int .i64 r.n) ∧ W.cell? ⟨w.heap.size + 1, 4, none⟩ = some (.int .i64 r.writer) ∧ W.cell? ⟨w.heap.size + 1, 5, none⟩ = some (.int .i64 r.reader) ∧ W.cell? ⟨w.heap.size + 1, 6, none⟩ = some (.int .i64 r.top)) (ds := [9]) (by kernel_rfl) (by kernel_rfl) (fun _ _ h => h) #[false, false, false, false, false, false, false, false, false, false] rfl rfl ⟨m0, x0, a0, n0, r0, r1, r2, r3, r4, r5, r6⟩ (fun hHeld => ?_)
      refine take_ (i := 0) (N := some 45) (v := ?_) (a' := ?_) #[true, false, false, false, false, false, false, false, false, false] rfl rfl (by kernel_rfl) (fun _ _ _ h => h) (Or.inl ⟨by rfl, ?_⟩) hHeld ?_ ?_
      rotate_left
      · intro w' hS'; (try obtain ⟨s0_, s1_⟩ := hS'); (try obtain ⟨s1_, s2_⟩ := s1_); (try obtain ⟨s2_, s3_⟩ := s2_); (try obtain ⟨s3_, s4_⟩ := s3_); (try obtain ⟨s4_, s5_⟩ := s4_); (try obtain ⟨s5_, s6_⟩ := s5_); (try obtain ⟨s6_, s7_⟩ := s6_); (try obtain ⟨s7_, s8_⟩ := s7_); (try obtain ⟨s8_, s9_⟩ := s8_); (try obtain ⟨s9_, s10_⟩ := s9_); (try obtain ⟨s10_, s11_⟩ := s10_)
        go_simp
        with_reducible rfl
      rotate_left
      · simp only [Act.put, List.setIfInBounds_toArray, List.set_cons_zero, List.set_cons_succ, i64_w, i32_w]
        rfl
      refine take_ (i := 1) (N := some 46) (v := ?_) (a' := ?_) #[true, true, false, false, false, false, false, false, false, false] rfl rfl (by kernel_rfl) (fun _ _ _ h => h) (Or.inl ⟨by rfl, ?_⟩) hHeld ?_ ?_
      rotate_left
      · intro w' hS'; (try obtain ⟨s0_, s1_⟩ := hS'); (try obtain ⟨s1_, s2_⟩ := s1_); (try obtain ⟨s2_, s3_⟩ := s2_); (try obtain ⟨s3_, s4_⟩ := s3_); (try obtain ⟨s4_, s5_⟩ := s4_); (try obtain ⟨s5_, s6_⟩ := s5_); (try obtain ⟨s6_, s7_⟩ := s6_); (try obtain ⟨s7_, s8_⟩ := s7_); (try obtain ⟨s8_, s9_⟩ := s8_); (try obtain ⟨s9_, s10_⟩ := s9_); (try obtain ⟨s10_, s11_⟩ := s10_)
        go_simp
        with_reducible rfl
      rotate_left
      · simp only [Act.put, List.setIfInBounds_toArray, List.set_cons_zero, List.set_cons_succ, i64_w, i32_w]
        rfl
      refine take_ (i := 2) (N := some 47) (v := ?_) (a' := ?_) #[true, true, true, false, false, false, false, false, false, false] rfl rfl (by kernel_rfl) (fun _ _ _ h => h) (Or.inl ⟨by rfl, ?_⟩) hHeld ?_ ?_
      rotate_left
      · intro w' hS'; (try obtain ⟨s0_, s1_⟩ := hS'); (try obtain ⟨s1_, s2_⟩ := s1_); (try obtain ⟨s2_, s3_⟩ := s2_); (try obtain ⟨s3_, s4_⟩ := s3_); (try obtain ⟨s4_, s5_⟩ := s4_); (try obtain ⟨s5_, s6_⟩ := s5_); (try obtain ⟨s6_, s7_⟩ := s6_); (try obtain ⟨s7_, s8_⟩ := s7_); (try obtain ⟨s8_, s9_⟩ := s8_); (try obtain ⟨s9_, s10_⟩ := s9_); (try obtain ⟨s10_, s11_⟩ := s10_)
        go_simp
        with_reducible rfl
      rotate_left
      · simp only [Act.put, List.setIfInBounds_toArray, List.set_cons_zero, List.set_cons_succ, i64_w, i32_w]
        rfl
      refine take_ (i := 3) (N := some 48) (v := ?_) (a' := ?_) #[true, true, true, true, false, false, false, false, false, false] rfl rfl (by kernel_rfl) (fun _ _ _ h => h) (Or.inl ⟨by rfl, ?_⟩) hHeld ?_ ?_
      rotate_left
      · intro w' hS'; (try obtain ⟨s0_, s1_⟩ := hS'); (try obtain ⟨s1_, s2_⟩ := s1_); (try obtain ⟨s2_, s3_⟩ := s2_); (try obtain ⟨s3_, s4_⟩ := s3_); (try obtain ⟨s4_, s5_⟩ := s4_); (try obtain ⟨s5_, s6_⟩ := s5_); (try obtain ⟨s6_, s7_⟩ := s6_); (try obtain ⟨s7_, s8_⟩ := s7_); (try obtain ⟨s8_, s9_⟩ := s8_); (try obtain ⟨s9_, s10_⟩ := s9_); (try obtain ⟨s10_, s11_⟩ := s10_)
        go_simp
        with_reducible rfl
      rotate_left
      · simp only [Act.put, List.setIfInBounds_toArray, List.set_cons_zero, List.set_cons_succ, i64_w, i32_w]
        rfl
      refine pure_ (i := 4) (N := some 49) (v := ?_) (a' := ?_) #[true, true, true, true, true, false, false, false, false, false] rfl rfl (by kernel_rfl) (fun _ _ _ h => h) (Or.inl ⟨by rfl, ?_⟩) ?_ ?_
      rotate_left
      · intro w'
        go_simp
        with_reducible rfl
      rotate_left
      · simp only [Act.put, List.setIfInBounds_toArray, List.set_cons_zero, List.set_cons_succ, i64_w, i32_w]
        rfl
      refine take_ (i := 5) (N := some 50) (v := ?_) (a' := ?_) #[true, true, true, true, true, true, false, false, false, false] rfl rfl (by kernel_rfl) (fun _ _ _ h => h) (Or.inl ⟨by rfl, ?_⟩) hHeld ?_ ?_
      rotate_left
      · intro w' hS'; (try obtain ⟨s0_, s1_⟩ := hS'); (try obtain ⟨s1_, s2_⟩ := s1_); (try obtain ⟨s2_, s3_⟩ := s2_); (try obtain ⟨s3_, s4_⟩ := s3_); (try obtain ⟨s4_, s5_⟩ := s4_); (try obtain ⟨s5_, s6_⟩ := s5_); (try obtain ⟨s6_, s7_⟩ := s6_); (try obtain ⟨s7_, s8_⟩ := s7_); (try obtain ⟨s8_, s9_⟩ := s8_); (try obtain ⟨s9_, s10_⟩ := s9_); (try obtain ⟨s10_, s11_⟩ := s10_)
        go_simp
        with_reducible rfl
      rotate_left
      · simp only [Act.put, List.setIfInBounds_toArray, List.set_cons_zero, List.set_cons_succ, i64_w, i32_w]
        rfl
      skip
      have hO : Hid (∀ (r : Nat) (o : Obj), V'.heap[r]? = some o → o.isCells = false → V'.drew.heap[r]? = some o) := fun r o h _ => h
      have hbl_ : Below (V').heap.size (V') (V').drew := (Below.refl _ _).drew
      replace hst := hst.trans (Step.of_below _ hbl_)
      replace hm := hm.below hbl_
      clear m0
      replace BM := Lib.hid (BM.out.below hbl_)
      clear r0 r1 r2 r3 r4 r5 r6
      replace BX := Lib.hid (BX.out.below hbl_)
      clear a0
      replace AB := Lib.hid (AB.out.below hbl_)
      clear n0
      replace NB := Lib.hid (NB.out.below hbl_)
      clear x0
      replace XB := Lib.hid (XB.out.below hbl_)
      replace KB := Lib.hid (KB.out.below hbl_)
      replace BB := Lib.hid (BB.out.below hbl_)
      clear hbl_
      generalize (V').drew = Vd_ at *
      have m0 := cell_of_blk BM.out.1 0
      simp at m0
      have r0 := cell_of_blk BX.out.1 0
      have r1 := cell_of_blk BX.out.1 1
      have r2 := cell_of_blk BX.out.1 2
      have r3 := cell_of_blk BX.out.1 3
      have r4 := cell_of_blk BX.out.1 4
      have r5 := cell_of_blk BX.out.1 5
      have r6 := cell_of_blk BX.out.1 6
      simp at r0 r1 r2 r3 r4 r5 r6
      have a0 := cell_of_blk AB.out.1 0
      simp at a0
      have n0 := cell_of_blk NB.out.1 0
      simp at n0
      have x0 := cell_of_blk XB.out.1 0
      simp at x0
      have hix : 0 ≤ (n : Int) + i * (n - 1) + (if a > (i : Int) then a - 1 else a) := by have : 0 ≤ (i : Int) * ((n : Int) - 1) := Int.mul_nonneg (by omega) (by omega); split <;> omega
      refine one_ (i := 6) (N := some 51) #[true, true, true, true, true, true, true, false, false, false] rfl rfl (by kernel_rfl) (by decide) (fun K hK => ?_)
      refine callP_ Try.func75 (by kernel_rfl) rfl #[r.v, .int .i64 (n : Int), .int .i64 (i : Int), .int .i64 a] (by rfl) rfl rfl (by (try simp only [List.map_toArray, List.map_cons, List.map_nil]); first | done | rfl) ?_
      refine (tells_calls r n i a hin.in2 (by omega) (by omega) (by omega) hix (MemP.blw hm (Below.refl _ _))).mono ?_
      rintro e_ w_ ⟨rfl, hbl⟩
      refine Or.inl ?_
      replace hO : Hid (∀ (r : Nat) (o : Obj), V'.heap[r]? = some o → o.isCells = false → w_.heap[r]? = some o) := fun r o h ho => (hbl.block r (heap_lt (hO.out r o h ho))).trans (hO.out r o h ho)
      replace hst := hst.trans (Step.of_below _ hbl)
      replace hm := hm.below hbl
      replace BM := Lib.hid (BM.out.below hbl)
      replace BX := Lib.hid (BX.out.below hbl)
      replace AB := Lib.hid (AB.out.below hbl)
      replace NB := Lib.hid (NB.out.below hbl)
      replace XB := Lib.hid (XB.out.below hbl)
      replace KB := Lib.hid (KB.out.below hbl)
      replace BB := Lib.hid (BB.out.below hbl)
      clear m0 r0 r1 r2 r3 r4 r5 r6 a0 n0 x0 hbl hHeld
      have m0 := cell_of_blk BM.out.1 0
      simp at m0
      have r0 := cell_of_blk BX.out.1 0
      have r1 := cell_of_blk BX.out.1 1
      have r2 := cell_of_blk BX.out.1 2
      have r3 := cell_of_blk BX.out.1 3
      have r4 := cell_of_blk BX.out.1 4
      have r5 := cell_of_blk BX.out.1 5
      have r6 := cell_of_blk BX.out.1 6
      simp at r0 r1 r2 r3 r4 r5 r6
      have a0 := cell_of_blk AB.out.1 0
      simp at a0
      have n0 := cell_of_blk NB.out.1 0
      simp at n0
      have x0 := cell_of_blk XB.out.1 0
      simp at x0
      refine ⟨_, rfl, ?_⟩
      refine hK.out _ _ ⟨m0, x0, a0, n0, r0, r1, r2, r3, r4, r5, r6⟩ (fun hHeld => ?_)
      clear hK K
      refine norm_ (a' := ?_) ?_ ?_
      rotate_left
      · show Act.put _ (some 51) _ = _
        simp only [Act.put, List.setIfInBounds_toArray, List.set_cons_zero, List.set_cons_succ, i64_w, i32_w]
        rfl
      refine one_ (i := 7) (N := some 52) #[true, true, true, true, true, true, true, true, false, false] rfl rfl (by kernel_rfl) (by decide) (fun K hK => ?_)
      refine callP_ Try.func37 (by kernel_rfl) rfl #[.pointer (some ⟨b, 0, none⟩), (tTells r n i a).v] (by rfl) rfl rfl (by (try simp only [List.map_toArray, List.map_cons, List.map_nil]); first | done | rfl) ?_
      refine (slotsR_calls (tTells r n i a) (tTells_in hin n i a (by omega) (by omega) (by omega) hix) hm (Below.refl _ _)).mono ?_
      rintro e_ w2 ⟨g_, s_, st_, hc_⟩
      replace hO : Hid (∀ (r : Nat) (o : Obj), V'.heap[r]? = some o → o.isCells = false → w2.heap[r]? = some o) := fun r o h ho => st_.other hm.at_.mine_cells (hO.out r o h ho) ho
      refine Or.elim hc_ (fun hd_ => ?_) (fun ⟨hx_, he_, hm_⟩ => ?_)
      rotate_left
      · subst he_
        refine Or.inr ⟨_, rfl, ?_⟩
        refine ⟨rfl, ⟨rfl, g_, s_, hst.trans st_, hm_.1, hm_.2, ?_⟩, fun r o h ho => hO.out r o h ho⟩
        have h9 := OpM.bind_none (f := fun y => OpM.bind (tGather r n a (i + 1) m (imax x y)) (fun x => OpM.bind (tTell r n a x 0 n) fun _ => OpM.ret (unpackY x % unpackM (clampS r.top 1048576)))) hx_
        rw [h9] at HR
        exact HR
      clear hc_
      obtain ⟨y, hx_, rfl, hm_⟩ := hd_
      replace HR := MPost.seqB hx_ HR
      replace hst := hst.trans st_
      replace hm := hm_
      replace hxa : ∀ ad, g_.aA = some ad → 0 < g_.aN → ad.block < kb := fun ad e hp => hxa ad (st_.aA.symm.trans e) (st_.aN ▸ hp)
      clear m0 r0 r1 r2 r3 r4 r5 r6 a0 n0 x0
      replace BM := Lib.hid (BM.out.step st_)
      replace BX := Lib.hid (BX.out.step st_)
      replace AB := Lib.hid (AB.out.step st_)
      replace NB := Lib.hid (NB.out.step st_)
      replace XB := Lib.hid (XB.out.step st_)
      replace KB := Lib.hid (KB.out.step st_)
      replace BB := Lib.hid (BB.out.step st_)
      have m0 := cell_of_blk BM.out.1 0
      simp at m0
      have r0 := cell_of_blk BX.out.1 0
      have r1 := cell_of_blk BX.out.1 1
      have r2 := cell_of_blk BX.out.1 2
      have r3 := cell_of_blk BX.out.1 3
      have r4 := cell_of_blk BX.out.1 4
      have r5 := cell_of_blk BX.out.1 5
      have r6 := cell_of_blk BX.out.1 6
      simp at r0 r1 r2 r3 r4 r5 r6
      have a0 := cell_of_blk AB.out.1 0
      simp at a0
      have n0 := cell_of_blk NB.out.1 0
      simp at n0
      have x0 := cell_of_blk XB.out.1 0
      simp at x0
      clear hx_ st_ hm_
      refine Or.inl ?_
      refine ⟨_, rfl, ?_⟩
      refine hK.out _ _ ⟨m0, x0, a0, n0, r0, r1, r2, r3, r4, r5, r6⟩ (fun hHeld => ?_)
      clear hK K
      refine norm_ (a' := ?_) ?_ ?_
      rotate_left
      · show Act.put _ (some 52) _ = _
        simp only [Act.put, List.setIfInBounds_toArray, List.set_cons_zero, List.set_cons_succ, i64_w, i32_w]
        rfl
      obtain ⟨z, hz⟩ : ∃ z, imax x y = z := ⟨_, rfl⟩
      rw [hz] at HR
      unfold imax at hz
      refine pure_ (i := 8) (N := some 53) (v := ?_) (a' := ?_) #[true, true, true, true, true, true, true, true, true, false] rfl rfl (by kernel_rfl) (fun _ _ _ h => h) (Or.inl ⟨by rfl, ?_⟩) ?_ ?_
      rotate_left
      · intro w'
        go_simp
        with_reducible rfl
      rotate_left
      · simp only [Act.put, List.setIfInBounds_toArray, List.set_cons_zero, List.set_cons_succ, i64_w, i32_w]
        rfl
      have x0f := frozen_of_blk XB.out.1 0
      refine last_ (i := 9) (N := none) #[true, true, true, true, true, true, true, true, true, true] rfl rfl (by kernel_rfl) (by decide) (fun K hK => ?_)
      refine skip_ (w1 := ?_) (by rfl) rfl ?_ ?_
      rotate_left
      · go_simp
        rfl
      refine hK.out _ _ ?_
      clear hK K
      refine done_ (by kernel_rfl) ?_
      have hm2 := hm.setBox XB.out (fun ad e hp => by have := hxa ad e hp; omega) 0 (.int .i64 z)
      have hst2 := hst.setBox (k := kb) (by omega) 0 (.int .i64 z)
      refine ⟨⟨g_, s_, z, hxa, hm2, hst2, Lib.hid (BM.out.setOther (k2 := kb) (by omega) 0 (.int .i64 z)), Lib.hid (BX.out.setOther (k2 := kb) (by omega) 0 (.int .i64 z)), Lib.hid (AB.out.setOther (k2 := kb) (by omega) 0 (.int .i64 z)), Lib.hid (NB.out.setOther (k2 := kb) (by omega) 0 (.int .i64 z)), Lib.hid (XB.out.setSelf (.int .i64 z)), Lib.hid (KB.out.setOther (k2 := kb) (by omega) 0 (.int .i64 z)), Lib.hid (BB.out.setOther (k2 := kb) (by omega) 0 (.int .i64 z)), fun _ => ?_⟩, fun r o h ho => (heap_setBox _ _ _ (fun e => ne_of_cells ⟨_, _, _, XB.out.1⟩ (hO.out r o h ho) ho e.symm)).trans (hO.out r o h ho)⟩
      rw [show n - (i + 1) = m by omega]
      exact HR
end Go.Proofs.Ytfaihahpnjgejaa
namespace Go.Proofs.Ytfaihahpnjgejaa
open Go.RowKit Go.Proofs.YtfaihahpnjgejaaW.PrintWords Go.Proofs.YtfaihahpnjgejaaW.PrintLast
attribute [local go_sem] Oper.semAt_some

def mostS (t : Int) : Int := clampS t 255
def tLocals (n : Int) : Int := 2 + 18 * (threadsS n - 1) * (threadsS n - 1)
set_option maxRecDepth 100000 in
theorem manyThreads_calls0 (n : Int) (w : World) : Calls Try.prog 68 #[.int .i64 n] w fun e w' => e = .returned (.int .i64 (threadsS n)) ∧ w = w' := by
  go_enter Try.func68, Try.ntmps68
  go_wp2
  all_goals
    go_ret
    exact ⟨ret_int (by unfold threadsS; omega), rfl⟩
set_option maxRecDepth 100000 in
theorem manyMost_calls0 (t : Int) (w : World) : Calls Try.prog 71 #[.int .i64 t] w fun e w' => e = .returned (.int .i64 (mostS t)) ∧ w = w' := by
  have C := Lib.hid (fun w => clamp_calls0 t 255 w)
  unfold mostS
  generalize clampS t 255 = z at *
  go_enter Try.func71, Try.ntmps71
  go_wp2_with fail
  refine (C.out _).mono ?_
  rintro e w' ⟨rfl, rfl⟩
  go_wp2
  go_ret
  exact ⟨rfl, rfl⟩
set_option maxRecDepth 100000 in
theorem slotsLocals_calls0 (w : World) : Calls Try.prog 44 #[] w fun e w' => e = .returned (.int .i64 18) ∧ w = w' := by
  have C : Hid (∀ w, Calls Try.prog 43 #[] w fun e w' => e = .returned (.int .i64 4) ∧ w = w') := by
    intro w
    go_enter Try.func43, Try.ntmps43
    go_wp2
    go_ret
    exact ⟨rfl, rfl⟩
  go_enter Try.func44, Try.ntmps44
  go_wp2_with fail
  refine (C.out _).mono ?_
  rintro e w' ⟨rfl, rfl⟩
  go_wp2
  go_ret
  exact ⟨rfl, rfl⟩
theorem sq_range {T : Int} (h1 : 1 ≤ T) (h8 : T ≤ 8) (x : Int) (hx : 0 ≤ x) : 0 ≤ x * (T - 1) ∧ x * (T - 1) ≤ x * 7 := ⟨Int.mul_nonneg hx (by omega), Int.mul_le_mul_of_nonneg_left (by omega) hx⟩
theorem tLocals_range (n : Int) : 2 ≤ tLocals n ∧ tLocals n ≤ 1000 := by
  unfold tLocals
  obtain ⟨h1, h8⟩ := threadsS_range n
  have a := sq_range h1 h8 18 (by omega)
  have b := sq_range h1 h8 _ a.1
  omega
set_option maxRecDepth 100000 in
theorem tLocals_calls0 (n : Int) (w : World) : Calls Try.prog 45 #[.int .i64 n] w fun e w' => e = .returned (.int .i64 (tLocals n)) ∧ w = w' := by
  have CT := Lib.hid (fun w => threads_calls0 n w)
  have CL := Lib.hid slotsLocals_calls0
  unfold tLocals
  obtain ⟨h1, h8⟩ := threadsS_range n
  generalize threadsS n = T at *
  have a := sq_range h1 h8 18 (by omega)
  have b := sq_range h1 h8 _ a.1
  have e1 : IntKind.i64.wrap (18 * (T - 1)) = 18 * (T - 1) := IntWalk.i64_in _ (by omega)
  have e2 : IntKind.i64.wrap (18 * (T - 1) * (T - 1)) = 18 * (T - 1) * (T - 1) := IntWalk.i64_in _ (by omega)
  have e3 : IntKind.i64.wrap (2 + 18 * (T - 1) * (T - 1)) = 2 + 18 * (T - 1) * (T - 1) := IntWalk.i64_in _ (by omega)
  go_enter Try.func45, Try.ntmps45
  go_wp2_with fail
  refine (CT.out _).mono ?_
  rintro e w' ⟨rfl, rfl⟩
  go_wp2_with fail
  refine (CL.out _).mono ?_
  rintro e w' ⟨rfl, rfl⟩
  go_wp2
  go_ret
  exact ⟨rfl, rfl⟩
def mOf (r : Reg) (j : Int) : Reg :=
  { kind := 6, base := r.base + 16 * j * (threadsS r.n - 1) * (threadsS r.n - 1), loc := r.loc + j * tLocals (threadsS r.n), n := threadsS r.n, writer := j, reader := -1, top := packS 4095 (mostS r.top) (mostS r.top) }
def Reg.In4 (r : Reg) : Prop := -576460752303423488 ≤ r.base ∧ r.base ≤ 576460752303423488 ∧ -576460752303423488 ≤ r.loc ∧ r.loc ≤ 576460752303423488
theorem mOf_range {r : Reg} (j : Int) (hj : 0 ≤ j ∧ j ≤ 8) : 0 ≤ 16 * j * (threadsS r.n - 1) * (threadsS r.n - 1) ∧ 16 * j * (threadsS r.n - 1) * (threadsS r.n - 1) ≤ 10000 ∧ 0 ≤ j * tLocals (threadsS r.n) ∧ j * tLocals (threadsS r.n) ≤ 8000 := by
  obtain ⟨h1, h8⟩ := threadsS_range r.n
  have a := sq_range h1 h8 (16 * j) (by omega)
  have b := sq_range h1 h8 _ a.1
  have c := tLocals_range (threadsS r.n)
  have d : 0 ≤ j * tLocals (threadsS r.n) := Int.mul_nonneg hj.1 (by omega)
  have e : j * tLocals (threadsS r.n) ≤ 8 * 1000 := Int.mul_le_mul hj.2 c.2 (by omega) (by omega)
  omega
theorem mOf_in {r : Reg} (h : r.In4) (j : Int) (hj : 0 ≤ j ∧ j ≤ 8) : (mOf r j).In3 := by
  obtain ⟨a, b, c, d⟩ := h
  have := mOf_range (r := r) j hj
  simp only [mOf]
  exact ⟨by simp only; omega, by simp only; omega, by simp only; omega, by simp only; omega⟩
set_option maxRecDepth 100000 in
set_option maxHeartbeats 4000000 in
theorem mOf_calls0 (r : Reg) (j : Int) (hr : r.In4) (hj : 0 ≤ j ∧ j ≤ 8) (w : World) : Calls Try.prog 70 #[r.v, .int .i64 j] w fun e w' => e = .returned (mOf r j).v ∧ Below w.heap.size w w' := by
  have CT := Lib.hid (fun w => manyThreads_calls0 r.n w)
  have CM := Lib.hid (fun w => manyMost_calls0 r.top w)
  have CL := Lib.hid (fun w => tLocals_calls0 (threadsS r.n) w)
  have CP := Lib.hid (fun w => pack_calls0 4095 (mostS r.top) (mostS r.top) w)
  obtain ⟨h1, h8⟩ := threadsS_range r.n
  have hR := mOf_range (r := r) j hj
  have hL := tLocals_range (threadsS r.n)
  obtain ⟨hb1, hb2, hl1, hl2⟩ := hr
  simp only [Reg.v, Reg.cs, mOf]
  generalize tLocals (threadsS r.n) = L at *
  generalize packS 4095 (mostS r.top) (mostS r.top) = TP at *
  generalize mostS r.top = M at *
  generalize threadsS r.n = T at *
  have a := sq_range h1 h8 (16 * j) (by omega)
  have e0 : IntKind.i64.wrap (16 * j) = 16 * j := IntWalk.i64_in _ (by omega)
  have e1 : IntKind.i64.wrap (16 * j * (T - 1)) = 16 * j * (T - 1) := IntWalk.i64_in _ (by omega)
  have e2 : IntKind.i64.wrap (16 * j * (T - 1) * (T - 1)) = 16 * j * (T - 1) * (T - 1) := IntWalk.i64_in _ (by omega)
  have e3 : IntKind.i64.wrap (r.base + 16 * j * (T - 1) * (T - 1)) = r.base + 16 * j * (T - 1) * (T - 1) := IntWalk.i64_in _ (by omega)
  have e4 : IntKind.i64.wrap (j * L) = j * L := IntWalk.i64_in _ (by omega)
  have e5 : IntKind.i64.wrap (r.loc + j * L) = r.loc + j * L := IntWalk.i64_in _ (by omega)
  have e6 : IntKind.i64.wrap (T - 1) = T - 1 := IntWalk.i64_in _ (by omega)
  go_enter Try.func70, Try.ntmps70
  go_wp2_with fail
  refine (CT.out _).mono ?_
  rintro e w' ⟨rfl, rfl⟩
  go_wp2_with fail
  go_region_held2 (fun W => W.cell? ⟨w.heap.size, 1, none⟩ = some (.int .i64 r.base) ∧ W.cell? ⟨w.heap.size, 2, none⟩ = some (.int .i64 r.loc) ∧ W.cell? ⟨w.heap.size, 6, none⟩ = some (.int .i64 r.top)) (first | assumption | exact ⟨by assumption, by assumption, by assumption⟩ | simp [*]) (first | (go_at_call 45; refine (CL.out _).mono ?_; rintro e_ w_ ⟨rfl, rfl⟩) | (go_at_call 71; refine (CM.out _).mono ?_; rintro e_ w_ ⟨rfl, rfl⟩) | (go_at_call 64; refine (CP.out _).mono ?_; rintro e_ w_ ⟨rfl, rfl⟩))
  go_wp2_with fail
  exact bodyPost_ret (v := .agg #[.int .i64 6, .int .i64 (r.base + 16 * j * (T - 1) * (T - 1)), .int .i64 (r.loc + j * L), .int .i64 T, .int .i64 j, .int .i64 (-1), .int .i64 TP]) (by simp [results, Try.results70, go_sem]) rfl ⟨rfl, (by repeat first | exact Below.refl _ _ | refine Below.alloc ?_ (by simp) _ | refine Below.setCell ?_ (by simp) _ | refine Below.drew ?_ | refine RowKit.below_drewN ?_ _ | refine below_drewN ?_ _)⟩
theorem mOf_calls {w W : World} (r : Reg) (j : Int) (hr : r.In4) (hj : 0 ≤ j ∧ j ≤ 8) (hW : Below w.heap.size w W) : Calls Try.prog 70 #[r.v, .int .i64 j] W fun e w' => e = .returned (mOf r j).v ∧ Below w.heap.size w w' := Calls.from_below hW (mOf_calls0 r j hr hj W)
theorem manyThreads_calls {b : Nat} {w W : World} {g : Gh} {s : St} (n : Int) (_hm : MemP b w g s) (_hW : Below w.heap.size w W) : Calls Try.prog 68 #[.int .i64 n] W fun e w' => e = .returned (.int .i64 (threadsS n)) ∧ W = w' := manyThreads_calls0 n W
theorem manyMost_calls {b : Nat} {w W : World} {g : Gh} {s : St} (t : Int) (_hm : MemP b w g s) (_hW : Below w.heap.size w W) : Calls Try.prog 71 #[.int .i64 t] W fun e w' => e = .returned (.int .i64 (mostS t)) ∧ W = w' := manyMost_calls0 t W
theorem tableR_calls {b : Nat} {w W : World} {g : Gh} {s : St} (r : Reg) (me : Int) (hr : r.In3) (hm : MemP b w g s) (hW : Below w.heap.size w W) :
    Calls Try.prog 38 #[.pointer (some ⟨b, 0, none⟩), r.v, .int .i64 me] W (MPost b (Value.int .i64) w g (tableR r me s)) := (tableR_calls0 r me hr (hm.below hW)).mono (MPost.from hW)
theorem tableW_calls {b : Nat} {w W : World} {g : Gh} {s : St} (r : Reg) (me v : Int) (hr : r.In3) (hm : MemP b w g s) (hW : Below w.heap.size w W) :
    Calls Try.prog 31 #[.pointer (some ⟨b, 0, none⟩), r.v, .int .i64 me, .int .i64 v] W (MPost b unitV w g (tableW r me v s)) := (tableW_calls0 r me v hr (hm.below hW)).mono (MPost.from hW)

/-- the last of the pairs with the greatest stamp -/
def greatFrom (r : Reg) (me : Int) : Nat → Nat → Int × Int → OpM (Int × Int)
  | _, 0, best => OpM.ret best
  | j, n + 1, best => OpM.bind (tableR (mOf r j) me) fun x =>
    greatFrom r me (j + 1) n (if unpackY x / unpackM (mostS r.top) ≥ best.1 then (unpackY x / unpackM (mostS r.top), unpackY x % unpackM (mostS r.top)) else best)
def greatS (r : Reg) (me : Int) : OpM (Int × Int) := greatFrom r me 0 (threadsS r.n).toNat (0, 0)
def pairV (p : Int × Int) : Value := .agg #[.int .i64 p.1, .int .i64 p.2]
def manyW (r : Reg) (me v : Int) : OpM Unit := fun s =>
  if me < 0 ∨ me ≥ threadsS r.n then (some (), s) else
  OpM.bind (greatS r me) (fun p => OpM.bind (tableW (mOf r me) me (packS (min (wrap64 (p.1 + 1)) 4095) (clampS v (mostS r.top)) (mostS r.top))) OpM.ret) s
def manyR (r : Reg) (me : Int) : OpM Int := fun s =>
  if me < 0 ∨ me ≥ threadsS r.n then (some 0, s) else OpM.bind (greatS r me) (fun p => OpM.ret p.2) s
end Go.Proofs.Ytfaihahpnjgejaa
namespace Go.Proofs.Ytfaihahpnjgejaa
open Go.RowKit Go.Proofs.YtfaihahpnjgejaaW.PrintWords Go.Proofs.YtfaihahpnjgejaaW.PrintLast

theorem BoxAt.set1 {w g k cs T} (h : BoxAt w g k cs T) (i : Nat) (v : Value) : BoxAt (w.setCell ⟨k, i, none⟩ v) g k (cs.setIfInBounds i v) T := by
  refine ⟨?_, h.2⟩
  have := h.1
  simp [World.setCell, Array.getElem?_modify, this]

set_option maxRecDepth 100000 in
set_option maxHeartbeats 8000000 in
theorem greatS_calls0 {b : Nat} {w : World} {g : Gh} {s : St} (r : Reg) (me : Int) (hr : r.In4) (hm : MemP b w g s) :
    Calls Try.prog 69 #[.pointer (some ⟨b, 0, none⟩), r.v, .int .i64 me] w (MPost b pairV w g (greatS r me s)) := by
  refine Calls.of_post fun R HR => ?_
  have hxa : ∀ ad, g.aA = some ad → 0 < g.aN → ad.block < w.heap.size := fun ad e hp => hm.at_.ans_lt e (hm.at_.al.symm ▸ hp)
  have hT := threadsS_range r.n
  unfold greatS at HR
  obtain ⟨hm1, BX⟩ := hm.box r.cs 23
  have hst : Step w g (w.alloc (.cells r.cs 23)) g := Step.of_alloc _ _ _
  obtain ⟨hm2, RB⟩ := hm1.box #[.int .i64 0, .int .i64 0] 72
  replace hst := hst.trans (Step.of_alloc _ g (.cells #[.int .i64 0, .int .i64 0] 72))
  replace BX := BX.below ((Below.refl _ _).alloc (Nat.le_refl _) (.cells #[.int .i64 0, .int .i64 0] 72))
  obtain ⟨hm3, BB⟩ := hm2.box #[.int .i64 0, .int .i64 0] 72
  replace hst := hst.trans (Step.of_alloc _ g (.cells #[.int .i64 0, .int .i64 0] 72))
  replace BX := BX.below ((Below.refl _ _).alloc (Nat.le_refl _) (.cells #[.int .i64 0, .int .i64 0] 72))
  replace RB := RB.below ((Below.refl _ _).alloc (Nat.le_refl _) (.cells #[.int .i64 0, .int .i64 0] 72))
  replace hm := hm3
  clear hm1 hm2 hm3
  simp only [Reg.v, Reg.cs, World.size_alloc] at hm HR BX RB BB hst ⊢
  replace BX := Lib.hid BX
  replace RB := Lib.hid RB
  replace BB := Lib.hid BB
  replace HR := Lib.hid HR.out
  replace hxa := Lib.hid hxa
  have r0 := cell_of_blk BX.out.1 0
  have r1 := cell_of_blk BX.out.1 1
  have r2 := cell_of_blk BX.out.1 2
  have r3 := cell_of_blk BX.out.1 3
  have r4 := cell_of_blk BX.out.1 4
  have r5 := cell_of_blk BX.out.1 5
  have r6 := cell_of_blk BX.out.1 6
  simp at r0 r1 r2 r3 r4 r5 r6
  have q0 := cell_of_blk RB.out.1 0
  have q1 := cell_of_blk RB.out.1 1
  simp at q0 q1
  have b0 := cell_of_blk BB.out.1 0
  have b1 := cell_of_blk BB.out.1 1
  simp at b0 b1
  have b0f := fun i => frozen_of_blk BB.out.1 i
  go_enter Try.func69, Try.ntmps69
  go_wp2_with fail
  refine (manyThreads_calls0 _ _).mono ?_
  rintro e_ w_ ⟨rfl, rfl⟩
  generalize (((w.alloc (.cells #[.int .i64 r.kind, .int .i64 r.base, .int .i64 r.loc, .int .i64 r.n, .int .i64 r.writer, .int .i64 r.reader, .int .i64 r.top] 23)).alloc (.cells #[.int .i64 0, .int .i64 0] 72)).alloc (.cells #[.int .i64 0, .int .i64 0] 72)) = V at *
  obtain ⟨n, hn⟩ : ∃ n : Nat, threadsS r.n = n := ⟨(threadsS r.n).toNat, by omega⟩
  rw [hn] at HR hT ⊢
  rw [Int.toNat_natCast] at HR
  clear hn
  obtain ⟨hT1, hT8⟩ := hT
  obtain ⟨xb, hxb⟩ : ∃ xb, w.heap.size = xb := ⟨_, rfl⟩
  have hxa2 := hxa.out
  rw [hxb] at BX RB BB r0 r1 r2 r3 r4 r5 r6 q0 q1 b0 b1 b0f hxa2 ⊢
  have hst0 := Lib.hid hst
  clear hxa hst
  go_wp2_with fail
  clear r0 r1 r2 r3 r4 r5 r6 q0 q1 b0 b1 b0f
  go_loopw [14] (fun i wr => ∃ (k : Nat) (g' : Gh) (s' : St) (best : Int × Int), k ≤ n ∧ i = .int .i64 k ∧ MemP b wr g' s' ∧ Hid (Step w g wr g') ∧ Hid (BoxAt wr g' xb #[.int .i64 r.kind, .int .i64 r.base, .int .i64 r.loc, .int .i64 r.n, .int .i64 r.writer, .int .i64 r.reader, .int .i64 r.top] 23) ∧ Hid (BoxAt wr g' (xb + 1) #[.int .i64 0, .int .i64 0] 72) ∧ Hid (BoxAt wr g' (xb + 1 + 1) #[.int .i64 best.1, .int .i64 best.2] 72) ∧ Hid (∀ e w', MPost b pairV w g (greatFrom r me k (n - k) best s') e w' → R e w')) (fun i _ => n - (intOf i).toNat)
  case atStart => exact ⟨0, _, _, (0, 0), Nat.zero_le _, rfl, hm, hst0, BX, RB, BB, HR⟩
  case round =>
    obtain ⟨k, g', s', best, hk, rfl, hm, hst, BX, RB, BB, HR⟩ := hrel
    replace hst := hst.out
    have r0 := cell_of_blk BX.out.1 0
    have r1 := cell_of_blk BX.out.1 1
    have r2 := cell_of_blk BX.out.1 2
    have r3 := cell_of_blk BX.out.1 3
    have r4 := cell_of_blk BX.out.1 4
    have r5 := cell_of_blk BX.out.1 5
    have r6 := cell_of_blk BX.out.1 6
    simp at r0 r1 r2 r3 r4 r5 r6
    have q0 := cell_of_blk RB.out.1 0
    have q1 := cell_of_blk RB.out.1 1
    simp at q0 q1
    have b0 := cell_of_blk BB.out.1 0
    have b1 := cell_of_blk BB.out.1 1
    simp at b0 b1
    have b0f := fun i => frozen_of_blk BB.out.1 i
    by_cases hlt : k < n
    · obtain ⟨m, hnk⟩ : ∃ m, n - k = m + 1 := ⟨n - k - 1, by omega⟩
      rw [hnk, greatFrom] at HR
      replace hnk := Lib.hid hnk
      have hj : 0 ≤ (k : Int) ∧ (k : Int) ≤ 8 := by omega
      have hin := mOf_in hr k hj
      go_wp2_with fail
      replace hxa2 := Lib.hid hxa2
      go_region_held2 (fun W => W.cell? ⟨xb, 0, none⟩ = some (.int .i64 r.kind) ∧ W.cell? ⟨xb, 1, none⟩ = some (.int .i64 r.base) ∧ W.cell? ⟨xb, 2, none⟩ = some (.int .i64 r.loc) ∧ W.cell? ⟨xb, 3, none⟩ = some (.int .i64 r.n) ∧ W.cell? ⟨xb, 4, none⟩ = some (.int .i64 r.writer) ∧ W.cell? ⟨xb, 5, none⟩ = some (.int .i64 r.reader) ∧ W.cell? ⟨xb, 6, none⟩ = some (.int .i64 r.top)) (first | assumption | exact ⟨by assumption, by assumption⟩ | exact ⟨by assumption, by assumption, by assumption, by assumption, by assumption, by assumption, by assumption⟩ | simp [*]) (first | (go_at_call 70; refine (mOf_calls r k hr hj (MemP.blw hm (by first | exact Below.refl _ _ | exact (Below.refl _ _).drew))).mono ?_; rintro e_ w_ ⟨rfl, hbl_⟩; replace hst := hst.trans (Step.of_below _ hbl_); replace hm := hm.below hbl_; clear r0 r1 r2 r3 r4 r5 r6; replace BX := Lib.hid (BX.out.below hbl_); have r0 := cell_of_blk BX.out.1 0; have r1 := cell_of_blk BX.out.1 1; have r2 := cell_of_blk BX.out.1 2; have r3 := cell_of_blk BX.out.1 3; have r4 := cell_of_blk BX.out.1 4; have r5 := cell_of_blk BX.out.1 5; have r6 := cell_of_blk BX.out.1 6; simp at r0 r1 r2 r3 r4 r5 r6; clear q0 q1; replace RB := Lib.hid (RB.out.below hbl_); have q0 := cell_of_blk RB.out.1 0; have q1 := cell_of_blk RB.out.1 1; simp at q0 q1; clear b0 b1; replace BB := Lib.hid (BB.out.below hbl_); have b0 := cell_of_blk BB.out.1 0; have b1 := cell_of_blk BB.out.1 1; simp at b0 b1; clear hbl_) | (go_at_call 38; refine (tableR_calls (mOf r k) me hin hm (by first | exact Below.refl _ _ | exact (Below.refl _ _).drew)).mono ?_; rintro e_ w_ ⟨g_, s_, st_, hc_⟩; refine Or.elim hc_ (fun hd_ => ?_) (fun ⟨hx_, he_, hm_⟩ => by subst he_; first | exact ⟨rfl, MPost.haltB hx_ (hst.trans st_) hm_ HR⟩ | exact MPost.haltB hx_ (hst.trans st_) hm_ HR | exact Or.inr ⟨_, rfl, rfl, MPost.haltB hx_ (hst.trans st_) hm_ HR⟩ | exact Or.inr ⟨_, rfl, MPost.haltB hx_ (hst.trans st_) hm_ HR⟩); clear hc_; obtain ⟨x, hx_, rfl, hm_⟩ := hd_; replace HR := MPost.seqB hx_ HR; replace hst := hst.trans st_; replace hm := hm_; clear r0 r1 r2 r3 r4 r5 r6; replace BX := Lib.hid (BX.out.step st_); have r0 := cell_of_blk BX.out.1 0; have r1 := cell_of_blk BX.out.1 1; have r2 := cell_of_blk BX.out.1 2; have r3 := cell_of_blk BX.out.1 3; have r4 := cell_of_blk BX.out.1 4; have r5 := cell_of_blk BX.out.1 5; have r6 := cell_of_blk BX.out.1 6; simp at r0 r1 r2 r3 r4 r5 r6; clear q0 q1; replace RB := Lib.hid (RB.out.step st_); have q0 := cell_of_blk RB.out.1 0; have q1 := cell_of_blk RB.out.1 1; simp at q0 q1; clear b0 b1; replace BB := Lib.hid (BB.out.step st_); have b0 := cell_of_blk BB.out.1 0; have b1 := cell_of_blk BB.out.1 1; simp at b0 b1; clear hx_ st_) | (go_at_call 71; refine (manyMost_calls _ hm (by first | exact Below.refl _ _ | exact (Below.refl _ _).drew)).mono ?_; rintro e_ w_ ⟨rfl, rfl⟩) | (go_at_call 76; refine (unpack_calls x (mostS r.top) (MemP.blw hm (by first | exact Below.refl _ _ | exact (Below.refl _ _).drew))).mono ?_; rintro e_ w_ ⟨rfl, hbl_⟩; replace hst := hst.trans (Step.of_below _ hbl_); replace hm := hm.below hbl_; clear r0 r1 r2 r3 r4 r5 r6; replace BX := Lib.hid (BX.out.below hbl_); have r0 := cell_of_blk BX.out.1 0; have r1 := cell_of_blk BX.out.1 1; have r2 := cell_of_blk BX.out.1 2; have r3 := cell_of_blk BX.out.1 3; have r4 := cell_of_blk BX.out.1 4; have r5 := cell_of_blk BX.out.1 5; have r6 := cell_of_blk BX.out.1 6; simp at r0 r1 r2 r3 r4 r5 r6; clear q0 q1; replace RB := Lib.hid (RB.out.below hbl_); have q0 := cell_of_blk RB.out.1 0; have q1 := cell_of_blk RB.out.1 1; simp at q0 q1; clear b0 b1; replace BB := Lib.hid (BB.out.below hbl_); have b0 := cell_of_blk BB.out.1 0; have b1 := cell_of_blk BB.out.1 1; simp at b0 b1; clear hbl_))
      all_goals
        replace b0f := fun i => frozen_of_blk BB.out.1 i
        generalize unpackY x / unpackM (mostS r.top) = st at HR ⊢
        generalize unpackY x % unpackM (mostS r.top) = vl at HR ⊢
        by_cases hge : st ≥ best.1
        · rw [if_pos hge] at HR
          go_wp2_with fail
          have hne1 : xb ≠ xb + 1 + 1 := by omega
          have hne2 : xb + 1 ≠ xb + 1 + 1 := by omega
          have hwx : w.heap.size ≤ xb + 1 + 1 := by omega
          have hm2 := (hm.setBox BB.out (fun ad e hp => by have := hxa2.out ad (hst.aA.symm.trans e) (hst.aN ▸ hp); omega) 0 (.int .i64 st)).setBox (BB.out.set1 0 (.int .i64 st)) (fun ad e hp => by have := hxa2.out ad (hst.aA.symm.trans e) (hst.aN ▸ hp); omega) 1 (.int .i64 vl)
          have hst2 := (hst.setBox hwx 0 (.int .i64 st)).setBox hwx 1 (.int .i64 vl)
          have BX2 := (BX.out.setOther hne1 0 (.int .i64 st)).setOther hne1 1 (.int .i64 vl)
          have RB2 := (RB.out.setOther hne2 0 (.int .i64 st)).setOther hne2 1 (.int .i64 vl)
          have BB2 := (BB.out.set1 0 (.int .i64 st)).set1 1 (.int .i64 vl)
          go_roundw
          case rel => exact ⟨k + 1, _, _, (st, vl), by omega, by go_num, hm2, Lib.hid hst2, Lib.hid BX2, Lib.hid RB2, Lib.hid BB2, by have h := hnk.out; rw [show n - (k + 1) = m by omega]; exact HR⟩
          case measure => simp [intOf]; omega
        · rw [if_neg hge] at HR
          go_wp2_with fail
          go_roundw
          case rel => exact ⟨k + 1, _, _, best, by omega, by go_num, hm, Lib.hid hst, BX, RB, BB, by have h := hnk.out; rw [show n - (k + 1) = m by omega]; exact HR⟩
          case measure => simp [intOf]; omega
    · have hnk : n - k = 0 := by omega
      rw [hnk, greatFrom] at HR
      clear hnk
      have q0f := fun i => frozen_of_blk RB.out.1 i
      go_wp2_with fail
      have hwx : w.heap.size ≤ xb + 1 := by omega
      have hm2 := (hm.setBox RB.out (fun ad e hp => by have := hxa2 ad (hst.aA.symm.trans e) (hst.aN ▸ hp); omega) 0 (.int .i64 best.1)).setBox (RB.out.set1 0 (.int .i64 best.1)) (fun ad e hp => by have := hxa2 ad (hst.aA.symm.trans e) (hst.aN ▸ hp); omega) 1 (.int .i64 best.2)
      have hst2 := (hst.setBox hwx 0 (.int .i64 best.1)).setBox hwx 1 (.int .i64 best.2)
      have RB2 := (RB.out.set1 0 (.int .i64 best.1)).set1 1 (.int .i64 best.2)
      have y0 := cell_of_blk RB2.1 0
      have y1 := cell_of_blk RB2.1 1
      simp at y0 y1
      refine bodyPost_ret (v := pairV best) (by simp [results, Try.results69, go_sem, pairV, y0, y1]) rfl (HR.out _ _ ⟨_, _, hst2, .inl ⟨best, rfl, rfl, hm2⟩⟩)
theorem greatS_calls {b : Nat} {w W : World} {g : Gh} {s : St} (r : Reg) (me : Int) (hr : r.In4) (hm : MemP b w g s) (hW : Below w.heap.size w W) :
    Calls Try.prog 69 #[.pointer (some ⟨b, 0, none⟩), r.v, .int .i64 me] W (MPost b pairV w g (greatS r me s)) := (greatS_calls0 r me hr (hm.below hW)).mono (MPost.from hW)
end Go.Proofs.Ytfaihahpnjgejaa
namespace Go.Proofs.Ytfaihahpnjgejaa
open Go.RowKit Go.Proofs.YtfaihahpnjgejaaW.PrintWords Go.Proofs.YtfaihahpnjgejaaW.PrintLast
attribute [local irreducible] greatS tableW
set_option maxRecDepth 100000 in
set_option maxHeartbeats 4000000 in
theorem manyR_calls0 {b : Nat} {w : World} {g : Gh} {s : St} (r : Reg) (me : Int) (hr : r.In4) (hm : MemP b w g s) :
    Calls Try.prog 39 #[.pointer (some ⟨b, 0, none⟩), r.v, .int .i64 me] w (MPost b (Value.int .i64) w g (manyR r me s)) := by
  unfold manyR
  by_cases h0 : me < 0
  · rw [if_pos (Or.inl h0)]
    refine Calls.of_post fun R HR => ?_
    obtain ⟨hm0, BX⟩ := hm.box r.cs 23
    replace HR := MPost.move (Step.of_alloc w g (.cells r.cs 23)) HR
    replace hm := hm0
    clear hm0
    simp only [Reg.v, Reg.cs] at hm HR BX ⊢
    replace BX := Lib.hid BX
    have r0 := cell_of_blk BX.out.1 0
    have r1 := cell_of_blk BX.out.1 1
    have r2 := cell_of_blk BX.out.1 2
    have r3 := cell_of_blk BX.out.1 3
    have r4 := cell_of_blk BX.out.1 4
    have r5 := cell_of_blk BX.out.1 5
    have r6 := cell_of_blk BX.out.1 6
    simp at r0 r1 r2 r3 r4 r5 r6
    go_enter Try.func39, Try.ntmps39
    go_wp2_with fail
    exact MPost.done (enc := Value.int .i64) hm HR
  · by_cases h1 : me ≥ threadsS r.n
    · rw [if_pos (Or.inr h1)]
      refine Calls.of_post fun R HR => ?_
      obtain ⟨hm0, BX⟩ := hm.box r.cs 23
      replace HR := MPost.move (Step.of_alloc w g (.cells r.cs 23)) HR
      replace hm := hm0
      clear hm0
      simp only [Reg.v, Reg.cs] at hm HR BX ⊢
      replace BX := Lib.hid BX
      have r0 := cell_of_blk BX.out.1 0
      have r1 := cell_of_blk BX.out.1 1
      have r2 := cell_of_blk BX.out.1 2
      have r3 := cell_of_blk BX.out.1 3
      have r4 := cell_of_blk BX.out.1 4
      have r5 := cell_of_blk BX.out.1 5
      have r6 := cell_of_blk BX.out.1 6
      simp at r0 r1 r2 r3 r4 r5 r6
      go_enter Try.func39, Try.ntmps39
      go_wp2_with fail
      refine (manyThreads_calls _ hm (by first | exact Below.refl _ _ | exact (Below.refl _ _).drew)).mono ?_
      rintro e_ w_ ⟨rfl, rfl⟩
      go_wp2_with fail
      exact MPost.done (enc := Value.int .i64) hm HR
    · rw [if_neg (by omega)]
      refine Calls.of_post fun R HR => ?_
      obtain ⟨hm0, BX⟩ := hm.box r.cs 23
      replace HR := MPost.move (Step.of_alloc w g (.cells r.cs 23)) HR
      replace hm := hm0
      clear hm0
      simp only [Reg.v, Reg.cs] at hm HR BX ⊢
      replace BX := Lib.hid BX
      have r0 := cell_of_blk BX.out.1 0
      have r1 := cell_of_blk BX.out.1 1
      have r2 := cell_of_blk BX.out.1 2
      have r3 := cell_of_blk BX.out.1 3
      have r4 := cell_of_blk BX.out.1 4
      have r5 := cell_of_blk BX.out.1 5
      have r6 := cell_of_blk BX.out.1 6
      simp at r0 r1 r2 r3 r4 r5 r6
      go_enter Try.func39, Try.ntmps39
      go_wp2_with fail
      refine (manyThreads_calls _ hm (by first | exact Below.refl _ _ | exact (Below.refl _ _).drew)).mono ?_
      rintro e_ w_ ⟨rfl, rfl⟩
      go_wp2_with fail
      refine (greatS_calls r me hr hm (by first | exact Below.refl _ _ | exact (Below.refl _ _).drew)).mono ?_
      rintro e_ w_ ⟨g_, s_, st_, hc_⟩
      refine Or.elim hc_ (fun hd_ => ?_) (fun ⟨hx_, he_, hm_⟩ => by subst he_; first | exact ⟨rfl, MPost.halt hx_ st_ hm_ HR⟩ | exact MPost.halt hx_ st_ hm_ HR)
      clear hc_
      obtain ⟨p, hx_, rfl, hm_⟩ := hd_
      replace HR := MPost.seq hx_ st_ HR
      replace hm := hm_
      clear r0 r1 r2 r3 r4 r5 r6
      replace BX := Lib.hid (BX.out.step st_)
      have r0 := cell_of_blk BX.out.1 0
      have r1 := cell_of_blk BX.out.1 1
      have r2 := cell_of_blk BX.out.1 2
      have r3 := cell_of_blk BX.out.1 3
      have r4 := cell_of_blk BX.out.1 4
      have r5 := cell_of_blk BX.out.1 5
      have r6 := cell_of_blk BX.out.1 6
      simp at r0 r1 r2 r3 r4 r5 r6
      clear hx_ st_
      obtain ⟨p1, p2⟩ := p
      unfold pairV
      have hfd0 : ∀ w : World, (Instr.field 72 (.agg #[.int .i64 p1, .int .i64 p2]) 1).run Try.prog w = .ok (.int .i64 p2) w := fun _ => by kernel_rfl
      go_wp2_with fail
      exact MPost.done (enc := Value.int .i64) hm HR
theorem manyR_calls {b : Nat} {w W : World} {g : Gh} {s : St} (r : Reg) (me : Int) (hr : r.In4) (hm : MemP b w g s) (hW : Below w.heap.size w W) :
    Calls Try.prog 39 #[.pointer (some ⟨b, 0, none⟩), r.v, .int .i64 me] W (MPost b (Value.int .i64) w g (manyR r me s)) :=
  (manyR_calls0 r me hr (hm.below hW)).mono (MPost.from hW)
set_option maxRecDepth 100000 in
set_option maxHeartbeats 4000000 in
theorem manyW_calls0 {b : Nat} {w : World} {g : Gh} {s : St} (r : Reg) (me v : Int) (hr : r.In4) (hm : MemP b w g s) :
    Calls Try.prog 32 #[.pointer (some ⟨b, 0, none⟩), r.v, .int .i64 me, .int .i64 v] w (MPost b (unitV) w g (manyW r me v s)) := by
  unfold manyW
  by_cases h0 : me < 0
  · rw [if_pos (Or.inl h0)]
    refine Calls.of_post fun R HR => ?_
    obtain ⟨hm0, BX⟩ := hm.box r.cs 23
    replace HR := MPost.move (Step.of_alloc w g (.cells r.cs 23)) HR
    replace hm := hm0
    clear hm0
    simp only [Reg.v, Reg.cs] at hm HR BX ⊢
    replace BX := Lib.hid BX
    have r0 := cell_of_blk BX.out.1 0
    have r1 := cell_of_blk BX.out.1 1
    have r2 := cell_of_blk BX.out.1 2
    have r3 := cell_of_blk BX.out.1 3
    have r4 := cell_of_blk BX.out.1 4
    have r5 := cell_of_blk BX.out.1 5
    have r6 := cell_of_blk BX.out.1 6
    simp at r0 r1 r2 r3 r4 r5 r6
    go_enter Try.func32, Try.ntmps32
    go_wp2_with fail
    go_end0
    exact MPost.done (enc := unitV) (x := ()) hm HR
  · by_cases h1 : me ≥ threadsS r.n
    · rw [if_pos (Or.inr h1)]
      refine Calls.of_post fun R HR => ?_
      obtain ⟨hm0, BX⟩ := hm.box r.cs 23
      replace HR := MPost.move (Step.of_alloc w g (.cells r.cs 23)) HR
      replace hm := hm0
      clear hm0
      simp only [Reg.v, Reg.cs] at hm HR BX ⊢
      replace BX := Lib.hid BX
      have r0 := cell_of_blk BX.out.1 0
      have r1 := cell_of_blk BX.out.1 1
      have r2 := cell_of_blk BX.out.1 2
      have r3 := cell_of_blk BX.out.1 3
      have r4 := cell_of_blk BX.out.1 4
      have r5 := cell_of_blk BX.out.1 5
      have r6 := cell_of_blk BX.out.1 6
      simp at r0 r1 r2 r3 r4 r5 r6
      go_enter Try.func32, Try.ntmps32
      go_wp2_with fail
      refine (manyThreads_calls _ hm (by first | exact Below.refl _ _ | exact (Below.refl _ _).drew)).mono ?_
      rintro e_ w_ ⟨rfl, rfl⟩
      go_wp2_with fail
      go_end0
      exact MPost.done (enc := unitV) (x := ()) hm HR
    · rw [if_neg (by omega)]
      have hT := threadsS_range r.n
      have hme : 0 ≤ me ∧ me ≤ 8 := by omega
      have hin := mOf_in hr me hme
      refine Calls.of_post fun R HR => ?_
      obtain ⟨hm0, BX⟩ := hm.box r.cs 23
      replace HR := MPost.move (Step.of_alloc w g (.cells r.cs 23)) HR
      replace hm := hm0
      clear hm0
      simp only [Reg.v, Reg.cs] at hm HR BX ⊢
      replace BX := Lib.hid BX
      have r0 := cell_of_blk BX.out.1 0
      have r1 := cell_of_blk BX.out.1 1
      have r2 := cell_of_blk BX.out.1 2
      have r3 := cell_of_blk BX.out.1 3
      have r4 := cell_of_blk BX.out.1 4
      have r5 := cell_of_blk BX.out.1 5
      have r6 := cell_of_blk BX.out.1 6
      simp at r0 r1 r2 r3 r4 r5 r6
      go_enter Try.func32, Try.ntmps32
      go_wp2_with fail
      refine (manyThreads_calls _ hm (by first | exact Below.refl _ _ | exact (Below.refl _ _).drew)).mono ?_
      rintro e_ w_ ⟨rfl, rfl⟩
      go_wp2_with fail
      refine (greatS_calls r me hr hm (by first | exact Below.refl _ _ | exact (Below.refl _ _).drew)).mono ?_
      rintro e_ w_ ⟨g_, s_, st_, hc_⟩
      refine Or.elim hc_ (fun hd_ => ?_) (fun ⟨hx_, he_, hm_⟩ => by subst he_; first | exact ⟨rfl, MPost.halt hx_ st_ hm_ HR⟩ | exact MPost.halt hx_ st_ hm_ HR)
      clear hc_
      obtain ⟨p, hx_, rfl, hm_⟩ := hd_
      replace HR := MPost.seq hx_ st_ HR
      replace hm := hm_
      clear r0 r1 r2 r3 r4 r5 r6
      replace BX := Lib.hid (BX.out.step st_)
      have r0 := cell_of_blk BX.out.1 0
      have r1 := cell_of_blk BX.out.1 1
      have r2 := cell_of_blk BX.out.1 2
      have r3 := cell_of_blk BX.out.1 3
      have r4 := cell_of_blk BX.out.1 4
      have r5 := cell_of_blk BX.out.1 5
      have r6 := cell_of_blk BX.out.1 6
      simp at r0 r1 r2 r3 r4 r5 r6
      clear hx_ st_
      obtain ⟨p1, p2⟩ := p
      unfold pairV
      have hfd0 : ∀ w : World, (Instr.field 72 (.agg #[.int .i64 p1, .int .i64 p2]) 0).run Try.prog w = .ok (.int .i64 p1) w := fun _ => by kernel_rfl
      obtain ⟨y, hy⟩ : ∃ y : Int, (if 4095 < wrap64 (p1 + 1) then 4095 else wrap64 (p1 + 1)) = y := ⟨_, rfl⟩
      have hyy : min (wrap64 (p1 + 1)) 4095 = y := by rw [← hy]; split <;> omega
      simp only [hyy] at HR
      clear hyy
      go_wp2_with fail
      clear hy
      go_region_held2 (fun W => W.cell? ⟨w.heap.size, 0, none⟩ = some (.int .i64 r.kind) ∧ W.cell? ⟨w.heap.size, 1, none⟩ = some (.int .i64 r.base) ∧ W.cell? ⟨w.heap.size, 2, none⟩ = some (.int .i64 r.loc) ∧ W.cell? ⟨w.heap.size, 3, none⟩ = some (.int .i64 r.n) ∧ W.cell? ⟨w.heap.size, 4, none⟩ = some (.int .i64 r.writer) ∧ W.cell? ⟨w.heap.size, 5, none⟩ = some (.int .i64 r.reader) ∧ W.cell? ⟨w.heap.size, 6, none⟩ = some (.int .i64 r.top)) (first | assumption | exact ⟨by assumption, by assumption⟩ | exact ⟨by assumption, by assumption, by assumption, by assumption, by assumption, by assumption, by assumption⟩ | simp [*]) (first | (go_at_call 70; refine (mOf_calls r me hr hme (MemP.blw hm (by first | exact Below.refl _ _ | exact (Below.refl _ _).drew))).mono ?_; rintro e_ w_ ⟨rfl, hbl_⟩; replace HR := MPost.move (Step.of_below _ hbl_) HR; replace hm := hm.below hbl_; clear r0 r1 r2 r3 r4 r5 r6; replace BX := Lib.hid (BX.out.below hbl_); have r0 := cell_of_blk BX.out.1 0; have r1 := cell_of_blk BX.out.1 1; have r2 := cell_of_blk BX.out.1 2; have r3 := cell_of_blk BX.out.1 3; have r4 := cell_of_blk BX.out.1 4; have r5 := cell_of_blk BX.out.1 5; have r6 := cell_of_blk BX.out.1 6; simp at r0 r1 r2 r3 r4 r5 r6; clear hbl_) | (go_at_call 71; refine (manyMost_calls _ hm (by first | exact Below.refl _ _ | exact (Below.refl _ _).drew)).mono ?_; rintro e_ w_ ⟨rfl, rfl⟩) | (go_at_call 63; refine (clamp_calls _ _ hm (by first | exact Below.refl _ _ | exact (Below.refl _ _).drew)).mono ?_; rintro e_ w_ ⟨rfl, rfl⟩) | (go_at_call 64; refine (pack_calls _ _ _ hm (by first | exact Below.refl _ _ | exact (Below.refl _ _).drew)).mono ?_; rintro e_ w_ ⟨rfl, rfl⟩) | (go_at_call 31; refine (tableW_calls (mOf r me) me _ hin hm (by first | exact Below.refl _ _ | exact (Below.refl _ _).drew)).mono ?_; rintro e_ w_ ⟨g_, s_, st_, hc_⟩; refine Or.elim hc_ (fun hd_ => ?_) (fun ⟨hx_, he_, hm_⟩ => by subst he_; first | exact ⟨rfl, MPost.halt hx_ st_ hm_ HR⟩ | exact MPost.halt hx_ st_ hm_ HR); clear hc_; obtain ⟨x_, hx_, rfl, hm_⟩ := hd_; replace HR := MPost.seq hx_ st_ HR; replace hm := hm_; clear r0 r1 r2 r3 r4 r5 r6; replace BX := Lib.hid (BX.out.step st_); have r0 := cell_of_blk BX.out.1 0; have r1 := cell_of_blk BX.out.1 1; have r2 := cell_of_blk BX.out.1 2; have r3 := cell_of_blk BX.out.1 3; have r4 := cell_of_blk BX.out.1 4; have r5 := cell_of_blk BX.out.1 5; have r6 := cell_of_blk BX.out.1 6; simp at r0 r1 r2 r3 r4 r5 r6; clear hx_ st_))
      go_wp2_with fail
      go_end0
      exact MPost.done (enc := unitV) (x := ()) hm HR
theorem manyW_calls {b : Nat} {w W : World} {g : Gh} {s : St} (r : Reg) (me v : Int) (hr : r.In4) (hm : MemP b w g s) (hW : Below w.heap.size w W) :
    Calls Try.prog 32 #[.pointer (some ⟨b, 0, none⟩), r.v, .int .i64 me, .int .i64 v] W (MPost b (unitV) w g (manyW r me v s)) :=
  (manyW_calls0 r me v hr (hm.below hW)).mono (MPost.from hW)
end Go.Proofs.Ytfaihahpnjgejaa
namespace Go.Proofs.Ytfaihahpnjgejaa
open Go.RowKit Go.Proofs.YtfaihahpnjgejaaW.PrintWords Go.Proofs.YtfaihahpnjgejaaW.PrintLast
attribute [local irreducible] steadyW unaryW trompW slotsW tableW manyW steadyR unaryR trompR slotsR tableR manyR

def regW (r : Reg) (me v : Int) : OpM Unit :=
  if r.kind = 1 then OpM.bind (writeM r.base v) OpM.ret
  else if r.kind = 2 then OpM.bind (steadyW r v) OpM.ret
  else if r.kind = 3 then OpM.bind (unaryW r v) OpM.ret
  else if r.kind = 4 then OpM.bind (trompW r v) OpM.ret
  else if r.kind = 5 then OpM.bind (slotsW r v) OpM.ret
  else if r.kind = 6 then OpM.bind (tableW r me v) OpM.ret
  else if r.kind = 7 then OpM.bind (manyW r me v) OpM.ret
  else OpM.ret ()
def regR (r : Reg) (me : Int) : OpM Int :=
  if r.kind = 1 then OpM.bind (readM r.base) OpM.ret
  else if r.kind = 2 then OpM.bind (steadyR r) OpM.ret
  else if r.kind = 3 then OpM.bind (unaryR r) OpM.ret
  else if r.kind = 4 then OpM.bind (trompR r) OpM.ret
  else if r.kind = 5 then OpM.bind (slotsR r) OpM.ret
  else if r.kind = 6 then OpM.bind (tableR r me) OpM.ret
  else if r.kind = 7 then OpM.bind (manyR r me) OpM.ret
  else OpM.ret 0
theorem Reg.In4.in3 {r : Reg} (h : r.In4) : r.In3 := by obtain ⟨a, b, c, d⟩ := h; exact ⟨by omega, by omega, by omega, by omega⟩
set_option maxRecDepth 100000 in
set_option maxHeartbeats 4000000 in
theorem regW_calls0 {b : Nat} {w : World} {g : Gh} {s : St} (r : Reg) (me v : Int) (hr : r.In4) (hm : MemP b w g s) :
    Calls Try.prog 10 #[.pointer (some ⟨b, 0, none⟩), r.v, .int .i64 me, .int .i64 v] w (MPost b (unitV) w g (regW r me v s)) := by
  have hr3 := hr.in3
  have hr2 := hr3.in2
  have hr1 := hr2.in_
  unfold regW
  by_cases h1 : r.kind = 1
  · rw [if_pos h1]
    have q1 : (r.kind == 1) = true := beq_iff_eq.2 h1
    clear h1
    refine Calls.of_post fun R HR => ?_
    obtain ⟨hm0, BX⟩ := hm.box r.cs 23
    replace HR := MPost.move (Step.of_alloc w g (.cells r.cs 23)) HR
    replace hm := hm0
    clear hm0
    simp only [Reg.v, Reg.cs] at hm HR BX ⊢
    replace BX := Lib.hid BX
    have r0 := cell_of_blk BX.out.1 0
    have r1 := cell_of_blk BX.out.1 1
    have r2 := cell_of_blk BX.out.1 2
    have r3 := cell_of_blk BX.out.1 3
    have r4 := cell_of_blk BX.out.1 4
    have r5 := cell_of_blk BX.out.1 5
    have r6 := cell_of_blk BX.out.1 6
    simp at r0 r1 r2 r3 r4 r5 r6
    go_enter Try.func10, Try.ntmps10
    go_wp2_with fail
    refine (write_calls _ _ hm (by first | exact Below.refl _ _ | exact (Below.refl _ _).drew)).mono ?_
    rintro e_ w_ ⟨g_, s_, st_, hc_⟩
    refine Or.elim hc_ (fun hd_ => ?_) (fun ⟨hx_, he_, hm_⟩ => by subst he_; first | exact ⟨rfl, MPost.halt hx_ st_ hm_ HR⟩ | exact MPost.halt hx_ st_ hm_ HR)
    clear hc_
    obtain ⟨x_, hx_, rfl, hm_⟩ := hd_
    replace HR := MPost.seq hx_ st_ HR
    replace hm := hm_
    clear r0 r1 r2 r3 r4 r5 r6
    replace BX := Lib.hid (BX.out.step st_)
    have r0 := cell_of_blk BX.out.1 0
    have r1 := cell_of_blk BX.out.1 1
    have r2 := cell_of_blk BX.out.1 2
    have r3 := cell_of_blk BX.out.1 3
    have r4 := cell_of_blk BX.out.1 4
    have r5 := cell_of_blk BX.out.1 5
    have r6 := cell_of_blk BX.out.1 6
    simp at r0 r1 r2 r3 r4 r5 r6
    clear hx_ st_
    go_wp2_with fail
    go_end0
    exact MPost.done (enc := unitV) (x := ()) hm HR
  rw [if_neg h1]
  have q1 : (r.kind == 1) = false := beq_eq_false_iff_ne.2 h1
  clear h1
  by_cases h2 : r.kind = 2
  · rw [if_pos h2]
    have q2 : (r.kind == 2) = true := beq_iff_eq.2 h2
    clear h2
    refine Calls.of_post fun R HR => ?_
    obtain ⟨hm0, BX⟩ := hm.box r.cs 23
    replace HR := MPost.move (Step.of_alloc w g (.cells r.cs 23)) HR
    replace hm := hm0
    clear hm0
    simp only [Reg.v, Reg.cs] at hm HR BX ⊢
    replace BX := Lib.hid BX
    have r0 := cell_of_blk BX.out.1 0
    have r1 := cell_of_blk BX.out.1 1
    have r2 := cell_of_blk BX.out.1 2
    have r3 := cell_of_blk BX.out.1 3
    have r4 := cell_of_blk BX.out.1 4
    have r5 := cell_of_blk BX.out.1 5
    have r6 := cell_of_blk BX.out.1 6
    simp at r0 r1 r2 r3 r4 r5 r6
    go_enter Try.func10, Try.ntmps10
    go_wp2_with fail
    refine (steadyW_calls r v hm (by first | exact Below.refl _ _ | exact (Below.refl _ _).drew)).mono ?_
    rintro e_ w_ ⟨g_, s_, st_, hc_⟩
    refine Or.elim hc_ (fun hd_ => ?_) (fun ⟨hx_, he_, hm_⟩ => by subst he_; first | exact ⟨rfl, MPost.halt hx_ st_ hm_ HR⟩ | exact MPost.halt hx_ st_ hm_ HR)
    clear hc_
    obtain ⟨x_, hx_, rfl, hm_⟩ := hd_
    replace HR := MPost.seq hx_ st_ HR
    replace hm := hm_
    clear r0 r1 r2 r3 r4 r5 r6
    replace BX := Lib.hid (BX.out.step st_)
    have r0 := cell_of_blk BX.out.1 0
    have r1 := cell_of_blk BX.out.1 1
    have r2 := cell_of_blk BX.out.1 2
    have r3 := cell_of_blk BX.out.1 3
    have r4 := cell_of_blk BX.out.1 4
    have r5 := cell_of_blk BX.out.1 5
    have r6 := cell_of_blk BX.out.1 6
    simp at r0 r1 r2 r3 r4 r5 r6
    clear hx_ st_
    go_wp2_with fail
    go_end0
    exact MPost.done (enc := unitV) (x := ()) hm HR
  rw [if_neg h2]
  have q2 : (r.kind == 2) = false := beq_eq_false_iff_ne.2 h2
  clear h2
  by_cases h3 : r.kind = 3
  · rw [if_pos h3]
    have q3 : (r.kind == 3) = true := beq_iff_eq.2 h3
    clear h3
    refine Calls.of_post fun R HR => ?_
    obtain ⟨hm0, BX⟩ := hm.box r.cs 23
    replace HR := MPost.move (Step.of_alloc w g (.cells r.cs 23)) HR
    replace hm := hm0
    clear hm0
    simp only [Reg.v, Reg.cs] at hm HR BX ⊢
    replace BX := Lib.hid BX
    have r0 := cell_of_blk BX.out.1 0
    have r1 := cell_of_blk BX.out.1 1
    have r2 := cell_of_blk BX.out.1 2
    have r3 := cell_of_blk BX.out.1 3
    have r4 := cell_of_blk BX.out.1 4
    have r5 := cell_of_blk BX.out.1 5
    have r6 := cell_of_blk BX.out.1 6
    simp at r0 r1 r2 r3 r4 r5 r6
    go_enter Try.func10, Try.ntmps10
    go_wp2_with fail
    refine (unaryW_calls r v hr1 hm (by first | exact Below.refl _ _ | exact (Below.refl _ _).drew)).mono ?_
    rintro e_ w_ ⟨g_, s_, st_, hc_⟩
    refine Or.elim hc_ (fun hd_ => ?_) (fun ⟨hx_, he_, hm_⟩ => by subst he_; first | exact ⟨rfl, MPost.halt hx_ st_ hm_ HR⟩ | exact MPost.halt hx_ st_ hm_ HR)
    clear hc_
    obtain ⟨x_, hx_, rfl, hm_⟩ := hd_
    replace HR := MPost.seq hx_ st_ HR
    replace hm := hm_
    clear r0 r1 r2 r3 r4 r5 r6
    replace BX := Lib.hid (BX.out.step st_)
    have r0 := cell_of_blk BX.out.1 0
    have r1 := cell_of_blk BX.out.1 1
    have r2 := cell_of_blk BX.out.1 2
    have r3 := cell_of_blk BX.out.1 3
    have r4 := cell_of_blk BX.out.1 4
    have r5 := cell_of_blk BX.out.1 5
    have r6 := cell_of_blk BX.out.1 6
    simp at r0 r1 r2 r3 r4 r5 r6
    clear hx_ st_
    go_wp2_with fail
    go_end0
    exact MPost.done (enc := unitV) (x := ()) hm HR
  rw [if_neg h3]
  have q3 : (r.kind == 3) = false := beq_eq_false_iff_ne.2 h3
  clear h3
  by_cases h4 : r.kind = 4
  · rw [if_pos h4]
    have q4 : (r.kind == 4) = true := beq_iff_eq.2 h4
    clear h4
    refine Calls.of_post fun R HR => ?_
    obtain ⟨hm0, BX⟩ := hm.box r.cs 23
    replace HR := MPost.move (Step.of_alloc w g (.cells r.cs 23)) HR
    replace hm := hm0
    clear hm0
    simp only [Reg.v, Reg.cs] at hm HR BX ⊢
    replace BX := Lib.hid BX
    have r0 := cell_of_blk BX.out.1 0
    have r1 := cell_of_blk BX.out.1 1
    have r2 := cell_of_blk BX.out.1 2
    have r3 := cell_of_blk BX.out.1 3
    have r4 := cell_of_blk BX.out.1 4
    have r5 := cell_of_blk BX.out.1 5
    have r6 := cell_of_blk BX.out.1 6
    simp at r0 r1 r2 r3 r4 r5 r6
    go_enter Try.func10, Try.ntmps10
    go_wp2_with fail
    refine (trompW_calls r v hr1 hm (by first | exact Below.refl _ _ | exact (Below.refl _ _).drew)).mono ?_
    rintro e_ w_ ⟨g_, s_, st_, hc_⟩
    refine Or.elim hc_ (fun hd_ => ?_) (fun ⟨hx_, he_, hm_⟩ => by subst he_; first | exact ⟨rfl, MPost.halt hx_ st_ hm_ HR⟩ | exact MPost.halt hx_ st_ hm_ HR)
    clear hc_
    obtain ⟨x_, hx_, rfl, hm_⟩ := hd_
    replace HR := MPost.seq hx_ st_ HR
    replace hm := hm_
    clear r0 r1 r2 r3 r4 r5 r6
    replace BX := Lib.hid (BX.out.step st_)
    have r0 := cell_of_blk BX.out.1 0
    have r1 := cell_of_blk BX.out.1 1
    have r2 := cell_of_blk BX.out.1 2
    have r3 := cell_of_blk BX.out.1 3
    have r4 := cell_of_blk BX.out.1 4
    have r5 := cell_of_blk BX.out.1 5
    have r6 := cell_of_blk BX.out.1 6
    simp at r0 r1 r2 r3 r4 r5 r6
    clear hx_ st_
    go_wp2_with fail
    go_end0
    exact MPost.done (enc := unitV) (x := ()) hm HR
  rw [if_neg h4]
  have q4 : (r.kind == 4) = false := beq_eq_false_iff_ne.2 h4
  clear h4
  by_cases h5 : r.kind = 5
  · rw [if_pos h5]
    have q5 : (r.kind == 5) = true := beq_iff_eq.2 h5
    clear h5
    refine Calls.of_post fun R HR => ?_
    obtain ⟨hm0, BX⟩ := hm.box r.cs 23
    replace HR := MPost.move (Step.of_alloc w g (.cells r.cs 23)) HR
    replace hm := hm0
    clear hm0
    simp only [Reg.v, Reg.cs] at hm HR BX ⊢
    replace BX := Lib.hid BX
    have r0 := cell_of_blk BX.out.1 0
    have r1 := cell_of_blk BX.out.1 1
    have r2 := cell_of_blk BX.out.1 2
    have r3 := cell_of_blk BX.out.1 3
    have r4 := cell_of_blk BX.out.1 4
    have r5 := cell_of_blk BX.out.1 5
    have r6 := cell_of_blk BX.out.1 6
    simp at r0 r1 r2 r3 r4 r5 r6
    go_enter Try.func10, Try.ntmps10
    go_wp2_with fail
    refine (slotsW_calls r v hr2 hm (by first | exact Below.refl _ _ | exact (Below.refl _ _).drew)).mono ?_
    rintro e_ w_ ⟨g_, s_, st_, hc_⟩
    refine Or.elim hc_ (fun hd_ => ?_) (fun ⟨hx_, he_, hm_⟩ => by subst he_; first | exact ⟨rfl, MPost.halt hx_ st_ hm_ HR⟩ | exact MPost.halt hx_ st_ hm_ HR)
    clear hc_
    obtain ⟨x_, hx_, rfl, hm_⟩ := hd_
    replace HR := MPost.seq hx_ st_ HR
    replace hm := hm_
    clear r0 r1 r2 r3 r4 r5 r6
    replace BX := Lib.hid (BX.out.step st_)
    have r0 := cell_of_blk BX.out.1 0
    have r1 := cell_of_blk BX.out.1 1
    have r2 := cell_of_blk BX.out.1 2
    have r3 := cell_of_blk BX.out.1 3
    have r4 := cell_of_blk BX.out.1 4
    have r5 := cell_of_blk BX.out.1 5
    have r6 := cell_of_blk BX.out.1 6
    simp at r0 r1 r2 r3 r4 r5 r6
    clear hx_ st_
    go_wp2_with fail
    go_end0
    exact MPost.done (enc := unitV) (x := ()) hm HR
  rw [if_neg h5]
  have q5 : (r.kind == 5) = false := beq_eq_false_iff_ne.2 h5
  clear h5
  by_cases h6 : r.kind = 6
  · rw [if_pos h6]
    have q6 : (r.kind == 6) = true := beq_iff_eq.2 h6
    clear h6
    refine Calls.of_post fun R HR => ?_
    obtain ⟨hm0, BX⟩ := hm.box r.cs 23
    replace HR := MPost.move (Step.of_alloc w g (.cells r.cs 23)) HR
    replace hm := hm0
    clear hm0
    simp only [Reg.v, Reg.cs] at hm HR BX ⊢
    replace BX := Lib.hid BX
    have r0 := cell_of_blk BX.out.1 0
    have r1 := cell_of_blk BX.out.1 1
    have r2 := cell_of_blk BX.out.1 2
    have r3 := cell_of_blk BX.out.1 3
    have r4 := cell_of_blk BX.out.1 4
    have r5 := cell_of_blk BX.out.1 5
    have r6 := cell_of_blk BX.out.1 6
    simp at r0 r1 r2 r3 r4 r5 r6
    go_enter Try.func10, Try.ntmps10
    go_wp2_with fail
    refine (tableW_calls r me v hr3 hm (by first | exact Below.refl _ _ | exact (Below.refl _ _).drew)).mono ?_
    rintro e_ w_ ⟨g_, s_, st_, hc_⟩
    refine Or.elim hc_ (fun hd_ => ?_) (fun ⟨hx_, he_, hm_⟩ => by subst he_; first | exact ⟨rfl, MPost.halt hx_ st_ hm_ HR⟩ | exact MPost.halt hx_ st_ hm_ HR)
    clear hc_
    obtain ⟨x_, hx_, rfl, hm_⟩ := hd_
    replace HR := MPost.seq hx_ st_ HR
    replace hm := hm_
    clear r0 r1 r2 r3 r4 r5 r6
    replace BX := Lib.hid (BX.out.step st_)
    have r0 := cell_of_blk BX.out.1 0
    have r1 := cell_of_blk BX.out.1 1
    have r2 := cell_of_blk BX.out.1 2
    have r3 := cell_of_blk BX.out.1 3
    have r4 := cell_of_blk BX.out.1 4
    have r5 := cell_of_blk BX.out.1 5
    have r6 := cell_of_blk BX.out.1 6
    simp at r0 r1 r2 r3 r4 r5 r6
    clear hx_ st_
    go_wp2_with fail
    go_end0
    exact MPost.done (enc := unitV) (x := ()) hm HR
  rw [if_neg h6]
  have q6 : (r.kind == 6) = false := beq_eq_false_iff_ne.2 h6
  clear h6
  by_cases h7 : r.kind = 7
  · rw [if_pos h7]
    have q7 : (r.kind == 7) = true := beq_iff_eq.2 h7
    clear h7
    refine Calls.of_post fun R HR => ?_
    obtain ⟨hm0, BX⟩ := hm.box r.cs 23
    replace HR := MPost.move (Step.of_alloc w g (.cells r.cs 23)) HR
    replace hm := hm0
    clear hm0
    simp only [Reg.v, Reg.cs] at hm HR BX ⊢
    replace BX := Lib.hid BX
    have r0 := cell_of_blk BX.out.1 0
    have r1 := cell_of_blk BX.out.1 1
    have r2 := cell_of_blk BX.out.1 2
    have r3 := cell_of_blk BX.out.1 3
    have r4 := cell_of_blk BX.out.1 4
    have r5 := cell_of_blk BX.out.1 5
    have r6 := cell_of_blk BX.out.1 6
    simp at r0 r1 r2 r3 r4 r5 r6
    go_enter Try.func10, Try.ntmps10
    go_wp2_with fail
    refine (manyW_calls r me v hr hm (by first | exact Below.refl _ _ | exact (Below.refl _ _).drew)).mono ?_
    rintro e_ w_ ⟨g_, s_, st_, hc_⟩
    refine Or.elim hc_ (fun hd_ => ?_) (fun ⟨hx_, he_, hm_⟩ => by subst he_; first | exact ⟨rfl, MPost.halt hx_ st_ hm_ HR⟩ | exact MPost.halt hx_ st_ hm_ HR)
    clear hc_
    obtain ⟨x_, hx_, rfl, hm_⟩ := hd_
    replace HR := MPost.seq hx_ st_ HR
    replace hm := hm_
    clear r0 r1 r2 r3 r4 r5 r6
    replace BX := Lib.hid (BX.out.step st_)
    have r0 := cell_of_blk BX.out.1 0
    have r1 := cell_of_blk BX.out.1 1
    have r2 := cell_of_blk BX.out.1 2
    have r3 := cell_of_blk BX.out.1 3
    have r4 := cell_of_blk BX.out.1 4
    have r5 := cell_of_blk BX.out.1 5
    have r6 := cell_of_blk BX.out.1 6
    simp at r0 r1 r2 r3 r4 r5 r6
    clear hx_ st_
    go_wp2_with fail
    go_end0
    exact MPost.done (enc := unitV) (x := ()) hm HR
  rw [if_neg h7]
  have q7 : (r.kind == 7) = false := beq_eq_false_iff_ne.2 h7
  clear h7
  refine Calls.of_post fun R HR => ?_
  obtain ⟨hm0, BX⟩ := hm.box r.cs 23
  replace HR := MPost.move (Step.of_alloc w g (.cells r.cs 23)) HR
  replace hm := hm0
  clear hm0
  simp only [Reg.v, Reg.cs] at hm HR BX ⊢
  replace BX := Lib.hid BX
  have r0 := cell_of_blk BX.out.1 0
  have r1 := cell_of_blk BX.out.1 1
  have r2 := cell_of_blk BX.out.1 2
  have r3 := cell_of_blk BX.out.1 3
  have r4 := cell_of_blk BX.out.1 4
  have r5 := cell_of_blk BX.out.1 5
  have r6 := cell_of_blk BX.out.1 6
  simp at r0 r1 r2 r3 r4 r5 r6
  go_enter Try.func10, Try.ntmps10
  go_wp2_with fail
  go_end0
  exact MPost.done (enc := unitV) (x := ()) hm HR
theorem regW_calls {b : Nat} {w W : World} {g : Gh} {s : St} (r : Reg) (me v : Int) (hr : r.In4) (hm : MemP b w g s) (hW : Below w.heap.size w W) :
    Calls Try.prog 10 #[.pointer (some ⟨b, 0, none⟩), r.v, .int .i64 me, .int .i64 v] W (MPost b (unitV) w g (regW r me v s)) :=
  (regW_calls0 r me v hr (hm.below hW)).mono (MPost.from hW)
set_option maxRecDepth 100000 in
set_option maxHeartbeats 4000000 in
theorem regR_calls0 {b : Nat} {w : World} {g : Gh} {s : St} (r : Reg) (me : Int) (hr : r.In4) (hm : MemP b w g s) :
    Calls Try.prog 12 #[.pointer (some ⟨b, 0, none⟩), r.v, .int .i64 me] w (MPost b (Value.int .i64) w g (regR r me s)) := by
  have hr3 := hr.in3
  have hr2 := hr3.in2
  have hr1 := hr2.in_
  unfold regR
  by_cases h1 : r.kind = 1
  · rw [if_pos h1]
    have q1 : (r.kind == 1) = true := beq_iff_eq.2 h1
    clear h1
    refine Calls.of_post fun R HR => ?_
    obtain ⟨hm0, BX⟩ := hm.box r.cs 23
    replace HR := MPost.move (Step.of_alloc w g (.cells r.cs 23)) HR
    replace hm := hm0
    clear hm0
    simp only [Reg.v, Reg.cs] at hm HR BX ⊢
    replace BX := Lib.hid BX
    have r0 := cell_of_blk BX.out.1 0
    have r1 := cell_of_blk BX.out.1 1
    have r2 := cell_of_blk BX.out.1 2
    have r3 := cell_of_blk BX.out.1 3
    have r4 := cell_of_blk BX.out.1 4
    have r5 := cell_of_blk BX.out.1 5
    have r6 := cell_of_blk BX.out.1 6
    simp at r0 r1 r2 r3 r4 r5 r6
    go_enter Try.func12, Try.ntmps12
    go_wp2_with fail
    refine (read_calls _ hm (by first | exact Below.refl _ _ | exact (Below.refl _ _).drew)).mono ?_
    rintro e_ w_ ⟨g_, s_, st_, hc_⟩
    refine Or.elim hc_ (fun hd_ => ?_) (fun ⟨hx_, he_, hm_⟩ => by subst he_; first | exact ⟨rfl, MPost.halt hx_ st_ hm_ HR⟩ | exact MPost.halt hx_ st_ hm_ HR)
    clear hc_
    obtain ⟨x_, hx_, rfl, hm_⟩ := hd_
    replace HR := MPost.seq hx_ st_ HR
    replace hm := hm_
    clear r0 r1 r2 r3 r4 r5 r6
    replace BX := Lib.hid (BX.out.step st_)
    have r0 := cell_of_blk BX.out.1 0
    have r1 := cell_of_blk BX.out.1 1
    have r2 := cell_of_blk BX.out.1 2
    have r3 := cell_of_blk BX.out.1 3
    have r4 := cell_of_blk BX.out.1 4
    have r5 := cell_of_blk BX.out.1 5
    have r6 := cell_of_blk BX.out.1 6
    simp at r0 r1 r2 r3 r4 r5 r6
    clear hx_ st_
    go_wp2_with fail
    exact MPost.done (enc := Value.int .i64) hm HR
  rw [if_neg h1]
  have q1 : (r.kind == 1) = false := beq_eq_false_iff_ne.2 h1
  clear h1
  by_cases h2 : r.kind = 2
  · rw [if_pos h2]
    have q2 : (r.kind == 2) = true := beq_iff_eq.2 h2
    clear h2
    refine Calls.of_post fun R HR => ?_
    obtain ⟨hm0, BX⟩ := hm.box r.cs 23
    replace HR := MPost.move (Step.of_alloc w g (.cells r.cs 23)) HR
    replace hm := hm0
    clear hm0
    simp only [Reg.v, Reg.cs] at hm HR BX ⊢
    replace BX := Lib.hid BX
    have r0 := cell_of_blk BX.out.1 0
    have r1 := cell_of_blk BX.out.1 1
    have r2 := cell_of_blk BX.out.1 2
    have r3 := cell_of_blk BX.out.1 3
    have r4 := cell_of_blk BX.out.1 4
    have r5 := cell_of_blk BX.out.1 5
    have r6 := cell_of_blk BX.out.1 6
    simp at r0 r1 r2 r3 r4 r5 r6
    go_enter Try.func12, Try.ntmps12
    go_wp2_with fail
    refine (steadyR_calls r hm (by first | exact Below.refl _ _ | exact (Below.refl _ _).drew)).mono ?_
    rintro e_ w_ ⟨g_, s_, st_, hc_⟩
    refine Or.elim hc_ (fun hd_ => ?_) (fun ⟨hx_, he_, hm_⟩ => by subst he_; first | exact ⟨rfl, MPost.halt hx_ st_ hm_ HR⟩ | exact MPost.halt hx_ st_ hm_ HR)
    clear hc_
    obtain ⟨x_, hx_, rfl, hm_⟩ := hd_
    replace HR := MPost.seq hx_ st_ HR
    replace hm := hm_
    clear r0 r1 r2 r3 r4 r5 r6
    replace BX := Lib.hid (BX.out.step st_)
    have r0 := cell_of_blk BX.out.1 0
    have r1 := cell_of_blk BX.out.1 1
    have r2 := cell_of_blk BX.out.1 2
    have r3 := cell_of_blk BX.out.1 3
    have r4 := cell_of_blk BX.out.1 4
    have r5 := cell_of_blk BX.out.1 5
    have r6 := cell_of_blk BX.out.1 6
    simp at r0 r1 r2 r3 r4 r5 r6
    clear hx_ st_
    go_wp2_with fail
    exact MPost.done (enc := Value.int .i64) hm HR
  rw [if_neg h2]
  have q2 : (r.kind == 2) = false := beq_eq_false_iff_ne.2 h2
  clear h2
  by_cases h3 : r.kind = 3
  · rw [if_pos h3]
    have q3 : (r.kind == 3) = true := beq_iff_eq.2 h3
    clear h3
    refine Calls.of_post fun R HR => ?_
    obtain ⟨hm0, BX⟩ := hm.box r.cs 23
    replace HR := MPost.move (Step.of_alloc w g (.cells r.cs 23)) HR
    replace hm := hm0
    clear hm0
    simp only [Reg.v, Reg.cs] at hm HR BX ⊢
    replace BX := Lib.hid BX
    have r0 := cell_of_blk BX.out.1 0
    have r1 := cell_of_blk BX.out.1 1
    have r2 := cell_of_blk BX.out.1 2
    have r3 := cell_of_blk BX.out.1 3
    have r4 := cell_of_blk BX.out.1 4
    have r5 := cell_of_blk BX.out.1 5
    have r6 := cell_of_blk BX.out.1 6
    simp at r0 r1 r2 r3 r4 r5 r6
    go_enter Try.func12, Try.ntmps12
    go_wp2_with fail
    refine (unaryR_calls r hr1 hm (by first | exact Below.refl _ _ | exact (Below.refl _ _).drew)).mono ?_
    rintro e_ w_ ⟨g_, s_, st_, hc_⟩
    refine Or.elim hc_ (fun hd_ => ?_) (fun ⟨hx_, he_, hm_⟩ => by subst he_; first | exact ⟨rfl, MPost.halt hx_ st_ hm_ HR⟩ | exact MPost.halt hx_ st_ hm_ HR)
    clear hc_
    obtain ⟨x_, hx_, rfl, hm_⟩ := hd_
    replace HR := MPost.seq hx_ st_ HR
    replace hm := hm_
    clear r0 r1 r2 r3 r4 r5 r6
    replace BX := Lib.hid (BX.out.step st_)
    have r0 := cell_of_blk BX.out.1 0
    have r1 := cell_of_blk BX.out.1 1
    have r2 := cell_of_blk BX.out.1 2
    have r3 := cell_of_blk BX.out.1 3
    have r4 := cell_of_blk BX.out.1 4
    have r5 := cell_of_blk BX.out.1 5
    have r6 := cell_of_blk BX.out.1 6
    simp at r0 r1 r2 r3 r4 r5 r6
    clear hx_ st_
    go_wp2_with fail
    exact MPost.done (enc := Value.int .i64) hm HR
  rw [if_neg h3]
  have q3 : (r.kind == 3) = false := beq_eq_false_iff_ne.2 h3
  clear h3
  by_cases h4 : r.kind = 4
  · rw [if_pos h4]
    have q4 : (r.kind == 4) = true := beq_iff_eq.2 h4
    clear h4
    refine Calls.of_post fun R HR => ?_
    obtain ⟨hm0, BX⟩ := hm.box r.cs 23
    replace HR := MPost.move (Step.of_alloc w g (.cells r.cs 23)) HR
    replace hm := hm0
    clear hm0
    simp only [Reg.v, Reg.cs] at hm HR BX ⊢
    replace BX := Lib.hid BX
    have r0 := cell_of_blk BX.out.1 0
    have r1 := cell_of_blk BX.out.1 1
    have r2 := cell_of_blk BX.out.1 2
    have r3 := cell_of_blk BX.out.1 3
    have r4 := cell_of_blk BX.out.1 4
    have r5 := cell_of_blk BX.out.1 5
    have r6 := cell_of_blk BX.out.1 6
    simp at r0 r1 r2 r3 r4 r5 r6
    go_enter Try.func12, Try.ntmps12
    go_wp2_with fail
    refine (trompR_calls r hr1 hm (by first | exact Below.refl _ _ | exact (Below.refl _ _).drew)).mono ?_
    rintro e_ w_ ⟨g_, s_, st_, hc_⟩
    refine Or.elim hc_ (fun hd_ => ?_) (fun ⟨hx_, he_, hm_⟩ => by subst he_; first | exact ⟨rfl, MPost.halt hx_ st_ hm_ HR⟩ | exact MPost.halt hx_ st_ hm_ HR)
    clear hc_
    obtain ⟨x_, hx_, rfl, hm_⟩ := hd_
    replace HR := MPost.seq hx_ st_ HR
    replace hm := hm_
    clear r0 r1 r2 r3 r4 r5 r6
    replace BX := Lib.hid (BX.out.step st_)
    have r0 := cell_of_blk BX.out.1 0
    have r1 := cell_of_blk BX.out.1 1
    have r2 := cell_of_blk BX.out.1 2
    have r3 := cell_of_blk BX.out.1 3
    have r4 := cell_of_blk BX.out.1 4
    have r5 := cell_of_blk BX.out.1 5
    have r6 := cell_of_blk BX.out.1 6
    simp at r0 r1 r2 r3 r4 r5 r6
    clear hx_ st_
    go_wp2_with fail
    exact MPost.done (enc := Value.int .i64) hm HR
  rw [if_neg h4]
  have q4 : (r.kind == 4) = false := beq_eq_false_iff_ne.2 h4
  clear h4
  by_cases h5 : r.kind = 5
  · rw [if_pos h5]
    have q5 : (r.kind == 5) = true := beq_iff_eq.2 h5
    clear h5
    refine Calls.of_post fun R HR => ?_
    obtain ⟨hm0, BX⟩ := hm.box r.cs 23
    replace HR := MPost.move (Step.of_alloc w g (.cells r.cs 23)) HR
    replace hm := hm0
    clear hm0
    simp only [Reg.v, Reg.cs] at hm HR BX ⊢
    replace BX := Lib.hid BX
    have r0 := cell_of_blk BX.out.1 0
    have r1 := cell_of_blk BX.out.1 1
    have r2 := cell_of_blk BX.out.1 2
    have r3 := cell_of_blk BX.out.1 3
    have r4 := cell_of_blk BX.out.1 4
    have r5 := cell_of_blk BX.out.1 5
    have r6 := cell_of_blk BX.out.1 6
    simp at r0 r1 r2 r3 r4 r5 r6
    go_enter Try.func12, Try.ntmps12
    go_wp2_with fail
    refine (slotsR_calls r hr2 hm (by first | exact Below.refl _ _ | exact (Below.refl _ _).drew)).mono ?_
    rintro e_ w_ ⟨g_, s_, st_, hc_⟩
    refine Or.elim hc_ (fun hd_ => ?_) (fun ⟨hx_, he_, hm_⟩ => by subst he_; first | exact ⟨rfl, MPost.halt hx_ st_ hm_ HR⟩ | exact MPost.halt hx_ st_ hm_ HR)
    clear hc_
    obtain ⟨x_, hx_, rfl, hm_⟩ := hd_
    replace HR := MPost.seq hx_ st_ HR
    replace hm := hm_
    clear r0 r1 r2 r3 r4 r5 r6
    replace BX := Lib.hid (BX.out.step st_)
    have r0 := cell_of_blk BX.out.1 0
    have r1 := cell_of_blk BX.out.1 1
    have r2 := cell_of_blk BX.out.1 2
    have r3 := cell_of_blk BX.out.1 3
    have r4 := cell_of_blk BX.out.1 4
    have r5 := cell_of_blk BX.out.1 5
    have r6 := cell_of_blk BX.out.1 6
    simp at r0 r1 r2 r3 r4 r5 r6
    clear hx_ st_
    go_wp2_with fail
    exact MPost.done (enc := Value.int .i64) hm HR
  rw [if_neg h5]
  have q5 : (r.kind == 5) = false := beq_eq_false_iff_ne.2 h5
  clear h5
  by_cases h6 : r.kind = 6
  · rw [if_pos h6]
    have q6 : (r.kind == 6) = true := beq_iff_eq.2 h6
    clear h6
    refine Calls.of_post fun R HR => ?_
    obtain ⟨hm0, BX⟩ := hm.box r.cs 23
    replace HR := MPost.move (Step.of_alloc w g (.cells r.cs 23)) HR
    replace hm := hm0
    clear hm0
    simp only [Reg.v, Reg.cs] at hm HR BX ⊢
    replace BX := Lib.hid BX
    have r0 := cell_of_blk BX.out.1 0
    have r1 := cell_of_blk BX.out.1 1
    have r2 := cell_of_blk BX.out.1 2
    have r3 := cell_of_blk BX.out.1 3
    have r4 := cell_of_blk BX.out.1 4
    have r5 := cell_of_blk BX.out.1 5
    have r6 := cell_of_blk BX.out.1 6
    simp at r0 r1 r2 r3 r4 r5 r6
    go_enter Try.func12, Try.ntmps12
    go_wp2_with fail
    refine (tableR_calls r me hr3 hm (by first | exact Below.refl _ _ | exact (Below.refl _ _).drew)).mono ?_
    rintro e_ w_ ⟨g_, s_, st_, hc_⟩
    refine Or.elim hc_ (fun hd_ => ?_) (fun ⟨hx_, he_, hm_⟩ => by subst he_; first | exact ⟨rfl, MPost.halt hx_ st_ hm_ HR⟩ | exact MPost.halt hx_ st_ hm_ HR)
    clear hc_
    obtain ⟨x_, hx_, rfl, hm_⟩ := hd_
    replace HR := MPost.seq hx_ st_ HR
    replace hm := hm_
    clear r0 r1 r2 r3 r4 r5 r6
    replace BX := Lib.hid (BX.out.step st_)
    have r0 := cell_of_blk BX.out.1 0
    have r1 := cell_of_blk BX.out.1 1
    have r2 := cell_of_blk BX.out.1 2
    have r3 := cell_of_blk BX.out.1 3
    have r4 := cell_of_blk BX.out.1 4
    have r5 := cell_of_blk BX.out.1 5
    have r6 := cell_of_blk BX.out.1 6
    simp at r0 r1 r2 r3 r4 r5 r6
    clear hx_ st_
    go_wp2_with fail
    exact MPost.done (enc := Value.int .i64) hm HR
  rw [if_neg h6]
  have q6 : (r.kind == 6) = false := beq_eq_false_iff_ne.2 h6
  clear h6
  by_cases h7 : r.kind = 7
  · rw [if_pos h7]
    have q7 : (r.kind == 7) = true := beq_iff_eq.2 h7
    clear h7
    refine Calls.of_post fun R HR => ?_
    obtain ⟨hm0, BX⟩ := hm.box r.cs 23
    replace HR := MPost.move (Step.of_alloc w g (.cells r.cs 23)) HR
    replace hm := hm0
    clear hm0
    simp only [Reg.v, Reg.cs] at hm HR BX ⊢
    replace BX := Lib.hid BX
    have r0 := cell_of_blk BX.out.1 0
    have r1 := cell_of_blk BX.out.1 1
    have r2 := cell_of_blk BX.out.1 2
    have r3 := cell_of_blk BX.out.1 3
    have r4 := cell_of_blk BX.out.1 4
    have r5 := cell_of_blk BX.out.1 5
    have r6 := cell_of_blk BX.out.1 6
    simp at r0 r1 r2 r3 r4 r5 r6
    go_enter Try.func12, Try.ntmps12
    go_wp2_with fail
    refine (manyR_calls r me hr hm (by first | exact Below.refl _ _ | exact (Below.refl _ _).drew)).mono ?_
    rintro e_ w_ ⟨g_, s_, st_, hc_⟩
    refine Or.elim hc_ (fun hd_ => ?_) (fun ⟨hx_, he_, hm_⟩ => by subst he_; first | exact ⟨rfl, MPost.halt hx_ st_ hm_ HR⟩ | exact MPost.halt hx_ st_ hm_ HR)
    clear hc_
    obtain ⟨x_, hx_, rfl, hm_⟩ := hd_
    replace HR := MPost.seq hx_ st_ HR
    replace hm := hm_
    clear r0 r1 r2 r3 r4 r5 r6
    replace BX := Lib.hid (BX.out.step st_)
    have r0 := cell_of_blk BX.out.1 0
    have r1 := cell_of_blk BX.out.1 1
    have r2 := cell_of_blk BX.out.1 2
    have r3 := cell_of_blk BX.out.1 3
    have r4 := cell_of_blk BX.out.1 4
    have r5 := cell_of_blk BX.out.1 5
    have r6 := cell_of_blk BX.out.1 6
    simp at r0 r1 r2 r3 r4 r5 r6
    clear hx_ st_
    go_wp2_with fail
    exact MPost.done (enc := Value.int .i64) hm HR
  rw [if_neg h7]
  have q7 : (r.kind == 7) = false := beq_eq_false_iff_ne.2 h7
  clear h7
  refine Calls.of_post fun R HR => ?_
  obtain ⟨hm0, BX⟩ := hm.box r.cs 23
  replace HR := MPost.move (Step.of_alloc w g (.cells r.cs 23)) HR
  replace hm := hm0
  clear hm0
  simp only [Reg.v, Reg.cs] at hm HR BX ⊢
  replace BX := Lib.hid BX
  have r0 := cell_of_blk BX.out.1 0
  have r1 := cell_of_blk BX.out.1 1
  have r2 := cell_of_blk BX.out.1 2
  have r3 := cell_of_blk BX.out.1 3
  have r4 := cell_of_blk BX.out.1 4
  have r5 := cell_of_blk BX.out.1 5
  have r6 := cell_of_blk BX.out.1 6
  simp at r0 r1 r2 r3 r4 r5 r6
  go_enter Try.func12, Try.ntmps12
  go_wp2_with fail
  exact MPost.done (enc := Value.int .i64) hm HR
theorem regR_calls {b : Nat} {w W : World} {g : Gh} {s : St} (r : Reg) (me : Int) (hr : r.In4) (hm : MemP b w g s) (hW : Below w.heap.size w W) :
    Calls Try.prog 12 #[.pointer (some ⟨b, 0, none⟩), r.v, .int .i64 me] W (MPost b (Value.int .i64) w g (regR r me s)) :=
  (regR_calls0 r me hr (hm.below hW)).mono (MPost.from hW)
end Go.Proofs.Ytfaihahpnjgejaa
namespace Go.Proofs.Ytfaihahpnjgejaa
open Go.RowKit

/-- an operation that is never stopped where so many answers are left: it takes at most c of them, for cells from lo to hi, and sets locals below L -/
def KAt {α : Type} (lo hi L : Int) (c : Nat) (r : Option α × St) (s : St) : Prop :=
  s.acc.length + c ≤ s.ans.length → (s.loc.length : Int) ≤ L → ∃ x s' more, r = (some x, s') ∧ s'.ans = s.ans ∧ s'.acc = s.acc ++ more ∧ more.length ≤ c ∧ (∀ a ∈ more, lo ≤ a.cell ∧ a.cell < hi) ∧ (s'.loc.length : Int) ≤ L
def Kst {α : Type} (lo hi L : Int) (c : Nat) (m : OpM α) : Prop := ∀ s, KAt lo hi L c (m s) s

section
variable {α β : Type} {lo hi L : Int} {c d : Nat}
theorem KAt.le {r : Option α × St} {s : St} (h : KAt lo hi L c r s) (hc : c ≤ d) : KAt lo hi L d r s := fun h1 h2 => by
  obtain ⟨x, s', more, e, e1, e2, e3, e4, e5⟩ := h (by omega) h2
  exact ⟨x, s', more, e, e1, e2, by omega, e4, e5⟩
theorem Kst.le {m : OpM α} (h : Kst lo hi L c m) (hc : c ≤ d) : Kst lo hi L d m := fun s => (h s).le hc
theorem k_some (x : α) (s : St) : KAt lo hi L c (some x, s) s := fun _ h2 => ⟨x, s, [], rfl, rfl, by simp, by simp, by simp, h2⟩
theorem k_ret (x : α) : Kst lo hi L c (OpM.ret x) := fun s => k_some x s
theorem k_bind {m : OpM α} {f : α → OpM β} (h : Kst lo hi L c m) (k : ∀ x, Kst lo hi L d (f x)) : Kst lo hi L (c + d) (OpM.bind m f) := by
  intro s h1 h2
  obtain ⟨x, s1, m1, e, a1, a2, a3, a4, a5⟩ := h s (by omega) h2
  obtain ⟨y, s2, m2, e', b1, b2, b3, b4, b5⟩ := k x s1 (by rw [a1, a2]; simp; omega) a5
  refine ⟨y, s2, m1 ++ m2, (OpM.bind_some e).trans e', b1.trans a1, by rw [b2, a2, List.append_assoc], by simp; omega, ?_, b5⟩
  intro a ha
  rcases List.mem_append.1 ha with h | h
  · exact a4 a h
  · exact b4 a h
theorem k_ask (a : Acc) (h1 : lo ≤ a.cell) (h2 : a.cell < hi) : Kst lo hi L 1 (askS a) := by
  intro s hs hl
  have : s.acc.length < s.ans.length := by omega
  exact ⟨s.ans[s.acc.length], { s with acc := s.acc ++ [a] }, [a], by simp [askS, this], rfl, rfl, by simp, by simp; exact ⟨h1, h2⟩, hl⟩
theorem k_read (i : Int) (h1 : lo ≤ i) (h2 : i < hi) : Kst lo hi L 1 (readM i) := fun s => k_ask ⟨1, i, 0⟩ h1 h2 s
theorem k_write (i v : Int) (h1 : lo ≤ i) (h2 : i < hi) : Kst lo hi L 1 (writeM i v) := k_bind (d := 0) (k_ask ⟨2, i, v⟩ h1 h2) (fun _ => k_ret ())
theorem setS_same (i v : Int) (s : St) : (setS i v s).ans = s.ans ∧ (setS i v s).acc = s.acc ∧ ((setS i v s).loc.length = s.loc.length ∨ ((setS i v s).loc.length : Int) = i + 1) := by
  unfold setS
  split
  · split
    · exact ⟨rfl, rfl, .inl (by simp)⟩
    · split
      · exact ⟨rfl, rfl, .inl rfl⟩
      · exact ⟨rfl, rfl, .inr (by simp; omega)⟩
  · exact ⟨rfl, rfl, .inl rfl⟩
theorem k_set (i v : Int) (h : i < L) : Kst lo hi L c (setM i v) := by
  intro s _ hl
  obtain ⟨h1, h2, h3⟩ := setS_same i v s
  exact ⟨(), setS i v s, [], rfl, h1, by simp [h2], by simp, by simp, by omega⟩

theorem k_trompR3 (r : Reg) (x : Int) (h1 : lo ≤ r.base) (h2 : r.base + 3 ≤ hi) (h3 : r.loc + 4 ≤ L) : Kst lo hi L 3 (trompR3 r x) := by
  unfold trompR3
  refine k_bind (c := 1) (d := 2) (k_read _ h1 (by omega)) fun _ => k_bind (c := 0) (d := 2) (k_set _ _ (by omega)) fun _ => k_bind (c := 1) (d := 1) (k_read _ (by omega) (by omega)) fun w3 s3 => ?_
  split
  · exact k_some _ _
  · exact k_bind (c := 1) (d := 0) (k_read _ h1 (by omega)) (fun _ => k_bind (c := 0) (d := 0) (k_set _ _ (by omega)) fun _ => k_ret _) s3
theorem k_trompR (r : Reg) (h1 : lo ≤ r.base) (h2 : r.base + 3 ≤ hi) (h3 : r.loc + 4 ≤ L) : Kst lo hi L 7 (trompR r) := by
  have T := fun x => k_trompR3 (lo := lo) (hi := hi) r x h1 h2 h3
  unfold trompR
  refine k_bind (c := 1) (d := 6) (k_read _ (by omega) (by omega)) fun w1 s1 => ?_
  split
  · exact k_some _ _
  · refine k_bind (c := 1) (d := 5) (k_read _ h1 (by omega)) (fun x => k_bind (c := 1) (d := 4) (k_read _ (by omega) (by omega)) fun w2 s2 => ?_) s1
    split
    · exact (T x s2).le (by omega)
    · exact k_bind (c := 1) (d := 3) (k_write _ _ (by omega) (by omega)) (fun _ => k_bind (c := 0) (d := 3) (k_set _ _ (by omega)) fun _ => T x) s2
theorem k_trompW (r : Reg) (v : Int) (h1 : lo ≤ r.base) (h2 : r.base + 3 ≤ hi) (h3 : r.loc + 4 ≤ L) : Kst lo hi L 3 (trompW r v) := by
  intro s
  unfold trompW
  split
  · exact k_some _ _
  · refine k_bind (c := 1) (d := 2) (k_write _ _ (by omega) (by omega)) (fun _ => k_bind (c := 0) (d := 2) (k_set _ _ (by omega)) fun _ s1 => k_bind (c := 1) (d := 1) (k_read _ (by omega) (by omega)) (fun x s2 => ?_) s1) s
    split
    · exact k_bind (c := 1) (d := 0) (k_write _ _ (by omega) (by omega)) (fun _ => k_bind (c := 0) (d := 0) (k_set _ _ (by omega)) fun _ => k_ret _) s2
    · exact k_some _ _
theorem k_steadyW (r : Reg) (v : Int) (h1 : lo ≤ r.base) (h2 : r.base + 1 ≤ hi) (h3 : r.loc + 1 ≤ L) : Kst lo hi L 1 (steadyW r v) := by
  intro s
  unfold steadyW
  split
  · exact k_some _ _
  · exact k_bind (c := 1) (d := 0) (k_write _ _ (by omega) (by omega)) (fun _ => k_bind (c := 0) (d := 0) (k_set _ _ (by omega)) fun _ => k_ret _) s
theorem k_steadyR (r : Reg) (h1 : lo ≤ r.base) (h2 : r.base + 1 ≤ hi) : Kst lo hi L 1 (steadyR r) := k_bind (d := 0) (k_read _ h1 (by omega)) fun x => k_ret x
theorem k_unaryPut (r : Reg) (i : Int) (up : Bool) (h1 : lo ≤ r.base + i) (h2 : r.base + i + 1 ≤ hi) (h3 : r.loc + i + 1 ≤ L) : Kst lo hi L 1 (unaryPut r i up) :=
  k_bind (c := 1) (d := 0) (k_steadyW _ _ h1 h2 h3) fun x => k_ret x
theorem k_unaryUp (r : Reg) (i : Int) (h1 : lo ≤ r.base + i) (h2 : r.base + i + 1 ≤ hi) : Kst lo hi L 1 (unaryUp r i) :=
  k_bind (c := 1) (d := 0) (k_steadyR _ h1 h2) fun x => k_ret _
theorem k_unaryLow (r : Reg) (h1 : lo ≤ r.base) : ∀ n : Nat, r.base + n ≤ hi → r.loc + n ≤ L → Kst lo hi L n (unaryLow r n)
  | 0, _, _ => k_ret _
  | n + 1, h2, h3 => by
    unfold unaryLow
    rw [Nat.add_comm]
    exact k_bind (k_unaryPut r n false (by omega) (by omega) (by omega)) fun _ => k_unaryLow r h1 n (by omega) (by omega)
theorem k_unaryW (r : Reg) (v : Int) (h1 : lo ≤ r.base) (h2 : r.base + (uMost r.top + 1) ≤ hi) (h3 : r.loc + (uMost r.top + 1) ≤ L) : Kst lo hi L (uMost r.top + 1).toNat (unaryW r v) := by
  unfold unaryW
  have hu : 0 ≤ uMost r.top := by unfold uMost; omega
  generalize hm : max 0 (min v (uMost r.top)) = m
  have hm0 : 0 ≤ m := by omega
  have hm1 : m ≤ uMost r.top := by omega
  refine (k_bind (c := 1) (d := m.toNat) (k_unaryPut r m true (by omega) (by omega) (by omega)) fun _ => k_unaryLow r h1 m.toNat (by omega) (by omega)).le (by omega)
theorem k_unaryFrom (r : Reg) (top : Int) (h1 : lo ≤ r.base) : ∀ (i n : Nat), r.base + (i + n : Nat) ≤ hi → Kst lo hi L n (unaryFrom r top i n)
  | _, 0, _ => k_ret _
  | i, n + 1, h2 => by
    unfold unaryFrom
    rw [Nat.add_comm n 1]
    refine k_bind (k_unaryUp r i (by omega) (by omega)) fun u => ?_
    split
    · exact k_ret _
    · exact k_unaryFrom r top h1 (i + 1) n (by omega)
theorem k_unaryR (r : Reg) (h1 : lo ≤ r.base) (h2 : r.base + (uMost r.top + 1) ≤ hi) : Kst lo hi L (uMost r.top + 1).toNat (unaryR r) := by
  have hu : 0 ≤ uMost r.top := by unfold uMost; omega
  exact k_unaryFrom r _ h1 0 _ (by omega)
theorem k_bitR (r : Reg) (n : Int) (h0 : 0 ≤ n) (h4 : n ≤ 3) (h1 : lo ≤ r.base) (h2 : r.base + 16 ≤ hi) (h3 : r.loc + 18 ≤ L) : Kst lo hi L 7 (trompR (slotsBit r n)) :=
  k_trompR _ (by simp only [slotsBit]; omega) (by simp only [slotsBit]; omega) (by simp only [slotsBit]; omega)
theorem k_bitW (r : Reg) (n v : Int) (h0 : 0 ≤ n) (h4 : n ≤ 3) (h1 : lo ≤ r.base) (h2 : r.base + 16 ≤ hi) (h3 : r.loc + 18 ≤ L) : Kst lo hi L 3 (trompW (slotsBit r n) v) :=
  k_trompW _ _ (by simp only [slotsBit]; omega) (by simp only [slotsBit]; omega) (by simp only [slotsBit]; omega)
theorem k_slotsW (r : Reg) (v : Int) (h1 : lo ≤ r.base) (h2 : r.base + 16 ≤ hi) (h3 : r.loc + 18 ≤ L) : Kst lo hi L 14 (slotsW r v) := by
  unfold slotsW
  refine k_bind (c := 7) (d := 7) (k_bitR r 3 (by omega) (by omega) h1 h2 h3) fun x s => ?_
  have a := sOther_01 x
  have b := sOther_01 (getS (r.loc + sOther x) s)
  generalize sOther (getS (r.loc + sOther x) s) = i at *
  generalize sOther x = p at *
  exact k_bind (c := 1) (d := 6) (k_write _ _ (by omega) (by omega)) (fun _ => k_bind (c := 0) (d := 6) (k_set _ _ (by omega)) fun _ => k_bind (c := 3) (d := 3) (k_bitW r p _ (by omega) (by omega) h1 h2 h3) fun _ => k_bind (c := 3) (d := 0) (k_bitW r 2 _ (by omega) (by omega) h1 h2 h3) fun x => k_ret x) s
theorem k_slotsR (r : Reg) (h1 : lo ≤ r.base) (h2 : r.base + 16 ≤ hi) (h3 : r.loc + 18 ≤ L) : Kst lo hi L 18 (slotsR r) := by
  unfold slotsR
  refine k_bind (c := 7) (d := 11) (k_bitR r 2 (by omega) (by omega) h1 h2 h3) fun x => ?_
  have a := sOther_01 x
  refine k_bind (c := 3) (d := 8) (k_bitW r 3 _ (by omega) (by omega) h1 h2 h3) fun _ => ?_
  refine k_bind (c := 7) (d := 1) (k_bitR r _ (by omega) (by omega) h1 h2 h3) fun y => ?_
  have b := sOther_01 y
  exact k_bind (c := 1) (d := 0) (k_read _ (by omega) (by omega)) fun x => k_ret x
theorem k_slotW (r : Reg) (n v : Int) (h0 : 0 ≤ n) (h1 : lo ≤ r.base) (h2 : r.base + 16 * (n + 1) ≤ hi) (h3 : r.loc + 2 + 18 * (n + 1) ≤ L) : Kst lo hi L 14 (slotsW (tSlot r n) v) :=
  k_slotsW _ _ (by simp only [tSlot]; omega) (by simp only [tSlot]; omega) (by simp only [tSlot]; omega)
theorem k_slotR (r : Reg) (n : Int) (h0 : 0 ≤ n) (h1 : lo ≤ r.base) (h2 : r.base + 16 * (n + 1) ≤ hi) (h3 : r.loc + 2 + 18 * (n + 1) ≤ L) : Kst lo hi L 18 (slotsR (tSlot r n)) :=
  k_slotsR _ (by simp only [tSlot]; omega) (by simp only [tSlot]; omega) (by simp only [tSlot]; omega)
theorem k_tSpread (r : Reg) (x but : Int) (h1 : lo ≤ r.base) : ∀ (i n : Nat), r.base + 16 * (i + n : Nat) ≤ hi → r.loc + 2 + 18 * (i + n : Nat) ≤ L → Kst lo hi L (14 * n) (tSpread r x but i n)
  | _, 0, _, _ => k_ret _
  | i, n + 1, h2, h3 => by
    unfold tSpread
    split
    · exact (k_tSpread r x but h1 (i + 1) n (by omega) (by omega)).le (by omega)
    · rw [show 14 * (n + 1) = 14 + 14 * n by omega]
      exact k_bind (k_slotW r i x (by omega) h1 (by omega) (by omega)) fun _ => k_tSpread r x but h1 (i + 1) n (by omega) (by omega)
theorem k_tableW (r : Reg) (me v : Int) (k : Nat) (hk : threadsS r.n = k + 1) (h1 : lo ≤ r.base) (h2 : r.base + 16 * k ≤ hi) (h3 : r.loc + 2 + 18 * k ≤ L) : Kst lo hi L (14 * k) (tableW r me v) := by
  intro s
  unfold tableW
  have e : (threadsS r.n - 1).toNat = k := by omega
  rw [e]
  split
  · refine k_bind (c := 0) (d := 14 * k) (k_set _ _ (by omega)) (fun _ => k_bind (c := 14 * k) (d := 0) (k_tSpread r _ _ h1 0 k (by omega) (by omega)) fun _ => k_bind (c := 0) (d := 0) (k_set _ _ (by omega)) fun x => k_ret x) s |>.le (by omega)
  · exact k_some _ _
/-- how many of i .. i + n - 1 are not a -/
def cntB (a : Int) (i n : Nat) : Nat := if (i : Int) ≤ a ∧ a < (i + n : Nat) then n - 1 else n
theorem cntB_skip (a : Int) (i n : Nat) (h : (i : Int) = a) : cntB a (i + 1) n ≤ cntB a i (n + 1) := by unfold cntB; split <;> split <;> omega
theorem cntB_take (a : Int) (i n : Nat) (h : ¬ (i : Int) = a) : 1 + cntB a (i + 1) n ≤ cntB a i (n + 1) := by unfold cntB; split <;> split <;> omega
theorem tells_place (r : Reg) (k i a : Int) (j : Int) (hj : j = k + a * (k - 1) + (if i > a then i - 1 else i)) : tTells r k a i = tSlot r j := by subst hj; rfl
/-- of k readers: which slot one tells another in -/
theorem tells_in (k a i : Nat) (hk : k ≤ 7) (ha : a < k) (hi : i < k) (hn : ¬ (i : Int) = a) :
    ∃ j : Int, 0 ≤ j ∧ j + 1 ≤ (k * k : Nat) ∧ j = k + a * (k - 1) + (if (i : Int) > a then (i : Int) - 1 else i) := by
  refine ⟨_, ?_, ?_, rfl⟩
  all_goals
    rcases (show k = 1 ∨ k = 2 ∨ k = 3 ∨ k = 4 ∨ k = 5 ∨ k = 6 ∨ k = 7 ∨ k = 0 by omega) with rfl | rfl | rfl | rfl | rfl | rfl | rfl | rfl <;> split <;> simp <;> omega
theorem k_tGather (r : Reg) (k a : Nat) (hk : k ≤ 7) (ha : a < k) (h1 : lo ≤ r.base) (h2 : r.base + 16 * (k * k : Nat) ≤ hi) (h3 : r.loc + 2 + 18 * (k * k : Nat) ≤ L) :
    ∀ (i n : Nat) (x : Int), i + n ≤ k → Kst lo hi L (18 * cntB a i n) (tGather r k a i n x)
  | _, 0, _, _ => k_ret _
  | i, n + 1, x, hi => by
    unfold tGather
    split
    · rename_i e
      exact (k_tGather r k a hk ha h1 h2 h3 (i + 1) n x (by omega)).le (by have := cntB_skip a i n e; omega)
    · rename_i e
      obtain ⟨j, j0, j1, hj⟩ := tells_in k i a hk (by omega) ha (fun h => e h.symm)
      rw [tells_place r k a i j (by rw [hj])]
      refine (k_bind (c := 18) (d := 18 * cntB a (i + 1) n) (k_slotR r j j0 h1 (by omega) (by omega)) fun y => k_tGather r k a hk ha h1 h2 h3 (i + 1) n _ (by omega)).le (by have := cntB_take a i n e; omega)
theorem k_tTell (r : Reg) (k a : Nat) (x : Int) (hk : k ≤ 7) (ha : a < k) (h1 : lo ≤ r.base) (h2 : r.base + 16 * (k * k : Nat) ≤ hi) (h3 : r.loc + 2 + 18 * (k * k : Nat) ≤ L) :
    ∀ (i n : Nat), i + n ≤ k → Kst lo hi L (14 * cntB a i n) (tTell r k a x i n)
  | _, 0, _ => k_ret _
  | i, n + 1, hi => by
    unfold tTell
    split
    · rename_i e
      exact (k_tTell r k a x hk ha h1 h2 h3 (i + 1) n (by omega)).le (by have := cntB_skip a i n e; omega)
    · rename_i e
      obtain ⟨j, j0, j1, hj⟩ := tells_in k a i hk ha (by omega) e
      rw [tells_place r k i a j (by rw [hj])]
      refine (k_bind (c := 14) (d := 14 * cntB a (i + 1) n) (k_slotW r j x j0 h1 (by omega) (by omega)) fun y => k_tTell r k a x hk ha h1 h2 h3 (i + 1) n (by omega)).le (by have := cntB_take a i n e; omega)
/-- what a read of a table costs -/
def tCost (k : Nat) : Nat := 18 * k + 14 * (k - 1)
theorem k_tableR (r : Reg) (me : Int) (k : Nat) (hk7 : k ≤ 7) (hk : threadsS r.n = k + 1) (h1 : lo ≤ r.base) (h2 : r.base + 16 * (k * k : Nat) ≤ hi) (h3 : r.loc + 2 + 18 * (k * k : Nat) ≤ L) : Kst lo hi L (tCost k) (tableR r me) := by
  intro s
  unfold tableR
  have e : (threadsS r.n - 1).toNat = k := by omega
  have e' : threadsS r.n - 1 = k := by omega
  rw [e, e']
  split
  · exact k_some _ _
  · rename_i hw
    split
    · exact k_some _ _
    · rename_i hr
      have hr' : ¬ (me < 0 ∨ me ≥ threadsS r.n ∨ me = writerS r) := by
        intro h; apply hr; simp [isReader, h]
      have hwr : 0 ≤ writerS r ∧ writerS r < k + 1 := by unfold writerS; split <;> omega
      obtain ⟨a, ha, hak⟩ : ∃ a : Nat, rankS r me = a ∧ a < k := by
        refine ⟨(rankS r me).toNat, ?_, ?_⟩ <;> (unfold rankS; rw [if_neg hr']; split <;> omega)
      rw [ha]
      have hkk : k ≤ k * k := Nat.le_mul_self k
      have hc : cntB a 0 k = k - 1 := by unfold cntB; rw [if_pos ⟨by omega, by omega⟩]
      have G := fun x => k_tGather (lo := lo) (hi := hi) (L := L) r k a hk7 hak h1 h2 h3 0 k x (by omega)
      have T := fun x => k_tTell (lo := lo) (hi := hi) (L := L) r k a x hk7 hak h1 h2 h3 0 k (by omega)
      rw [hc] at G T
      refine (k_bind (c := 18) (d := 18 * (k - 1) + (14 * (k - 1) + 0)) (k_slotR r a (by omega) h1 (by omega) (by omega)) fun x => k_bind (G x) fun y => k_bind (T y) fun _ => k_ret _) s |>.le (by unfold tCost; omega)
theorem threads_idem (n : Int) : threadsS (threadsS n) = threadsS n := by unfold threadsS; omega
theorem mOf_writer (r : Reg) (j : Int) (h0 : 0 ≤ j) (h : j < threadsS r.n) : writerS (mOf r j) = j := by
  unfold writerS
  have : threadsS (mOf r j).n = threadsS r.n := threads_idem _
  rw [this]
  have hj : (mOf r j).writer = j := rfl
  rw [hj, if_neg (by omega)]
theorem k_mTableR (r : Reg) (me : Int) (j k : Nat) (hk : threadsS r.n = k + 1) (hk3 : k ≤ 3) (hj : j ≤ k) (h1 : lo ≤ r.base) (h2 : r.base + 16 * ((k + 1) * (k * k) : Nat) ≤ hi) (h3 : r.loc + ((k + 1) * (2 + 18 * (k * k)) : Nat) ≤ L) :
    Kst lo hi L (if (j : Int) = me then 0 else tCost k) (tableR (mOf r j) me) := by
  split
  · rename_i e
    intro s
    unfold tableR
    rw [mOf_writer r j (by omega) (by omega), if_pos e.symm]
    exact k_some _ _
  · refine k_tableR _ _ k (by omega) ?_ ?_ ?_ ?_
    · exact (threads_idem _).trans hk
    all_goals
      have ht : threadsS ((k : Int) + 1) = k + 1 := by unfold threadsS; omega
      simp only [mOf, tLocals, hk, ht]
      rcases (show k = 0 ∨ k = 1 ∨ k = 2 ∨ k = 3 by omega) with rfl | rfl | rfl | rfl <;> simp at * <;> omega
theorem k_mTableW (r : Reg) (me v : Int) (j k : Nat) (hk : threadsS r.n = k + 1) (hk3 : k ≤ 3) (hj : j ≤ k) (h1 : lo ≤ r.base) (h2 : r.base + 16 * ((k + 1) * (k * k) : Nat) ≤ hi) (h3 : r.loc + ((k + 1) * (2 + 18 * (k * k)) : Nat) ≤ L) :
    Kst lo hi L (14 * k) (tableW (mOf r j) me v) := by
  refine k_tableW _ _ _ k ?_ ?_ ?_ ?_
  · exact (threads_idem _).trans hk
  all_goals
    have ht : threadsS ((k : Int) + 1) = k + 1 := by unfold threadsS; omega
    simp only [mOf, tLocals, hk, ht]
    rcases (show k = 0 ∨ k = 1 ∨ k = 2 ∨ k = 3 by omega) with rfl | rfl | rfl | rfl <;> simp at * <;> omega
theorem k_great (r : Reg) (me : Int) (k : Nat) (hk : threadsS r.n = k + 1) (hk3 : k ≤ 3) (h1 : lo ≤ r.base) (h2 : r.base + 16 * ((k + 1) * (k * k) : Nat) ≤ hi) (h3 : r.loc + ((k + 1) * (2 + 18 * (k * k)) : Nat) ≤ L) :
    ∀ (j n : Nat) (best : Int × Int), j + n ≤ k + 1 → Kst lo hi L (tCost k * cntB me j n) (greatFrom r me j n best)
  | _, 0, _, _ => k_ret _
  | j, n + 1, best, hn => by
    unfold greatFrom
    have T := k_mTableR (lo := lo) (hi := hi) (L := L) r me j k hk hk3 (by omega) h1 h2 h3
    refine (k_bind T fun x => k_great r me k hk hk3 h1 h2 h3 (j + 1) n _ (by omega)).le ?_
    split
    · rename_i e
      rw [Nat.zero_add]
      exact Nat.mul_le_mul_left _ (cntB_skip me j n e)
    · rename_i e
      have := Nat.mul_le_mul_left (tCost k) (cntB_take me j n e)
      rw [Nat.mul_add, Nat.mul_one] at this
      exact this
theorem k_greatS (r : Reg) (me : Int) (k : Nat) (hk : threadsS r.n = k + 1) (hk3 : k ≤ 3) (hm : 0 ≤ me ∧ me < threadsS r.n) (h1 : lo ≤ r.base) (h2 : r.base + 16 * ((k + 1) * (k * k) : Nat) ≤ hi) (h3 : r.loc + ((k + 1) * (2 + 18 * (k * k)) : Nat) ≤ L) :
    Kst lo hi L (k * tCost k) (greatS r me) := by
  unfold greatS
  have e : (threadsS r.n).toNat = k + 1 := by omega
  rw [e]
  have hc : cntB me 0 (k + 1) = k := by unfold cntB; rw [if_pos ⟨by omega, by omega⟩]; omega
  have := k_great (lo := lo) (hi := hi) (L := L) r me k hk hk3 h1 h2 h3 0 (k + 1) (0, 0) (by omega)
  rw [hc, Nat.mul_comm] at this
  exact this
theorem k_manyW (r : Reg) (me v : Int) (k : Nat) (hk : threadsS r.n = k + 1) (hk3 : k ≤ 3) (h1 : lo ≤ r.base) (h2 : r.base + 16 * ((k + 1) * (k * k) : Nat) ≤ hi) (h3 : r.loc + ((k + 1) * (2 + 18 * (k * k)) : Nat) ≤ L) :
    Kst lo hi L (k * tCost k + 14 * k) (manyW r me v) := by
  intro s
  unfold manyW
  split
  · exact k_some _ _
  · rename_i hm
    obtain ⟨j, rfl⟩ : ∃ j : Nat, me = j := ⟨me.toNat, by omega⟩
    exact k_bind (d := 14 * k) (k_greatS r j k hk hk3 (by omega) h1 h2 h3) (fun p => k_bind (d := 0) (k_mTableW r j _ j k hk hk3 (by omega) h1 h2 h3) fun x => k_ret x) s
theorem k_manyR (r : Reg) (me : Int) (k : Nat) (hk : threadsS r.n = k + 1) (hk3 : k ≤ 3) (h1 : lo ≤ r.base) (h2 : r.base + 16 * ((k + 1) * (k * k) : Nat) ≤ hi) (h3 : r.loc + ((k + 1) * (2 + 18 * (k * k)) : Nat) ≤ L) :
    Kst lo hi L (k * tCost k) (manyR r me) := by
  intro s
  unfold manyR
  split
  · exact k_some _ _
  · exact k_bind (d := 0) (k_greatS r me k hk hk3 (by omega) h1 h2 h3) (fun p => k_ret _) s
end

/-- how many cells and locals a register has, and what a write and a read cost -/
def cellsS (r : Reg) (k : Nat) : Int :=
  if r.kind = 1 ∨ r.kind = 2 then 1 else if r.kind = 3 then uMost r.top + 1 else if r.kind = 4 then 3 else if r.kind = 5 then 16 else if r.kind = 6 then 16 * (k * k : Nat) else if r.kind = 7 then 16 * ((k + 1) * (k * k) : Nat) else 0
def localsS (r : Reg) (k : Nat) : Int :=
  if r.kind = 2 then 1 else if r.kind = 3 then uMost r.top + 1 else if r.kind = 4 then 4 else if r.kind = 5 then 18 else if r.kind = 6 then 2 + 18 * (k * k : Nat) else if r.kind = 7 then ((k + 1) * (2 + 18 * (k * k)) : Nat) else 0
def costW (r : Reg) (k : Nat) : Nat :=
  if r.kind = 1 ∨ r.kind = 2 then 1 else if r.kind = 3 then (uMost r.top + 1).toNat else if r.kind = 4 then 3 else if r.kind = 5 then 14 else if r.kind = 6 then 14 * k else if r.kind = 7 then k * tCost k + 14 * k else 0
def costR (r : Reg) (k : Nat) : Nat :=
  if r.kind = 1 ∨ r.kind = 2 then 1 else if r.kind = 3 then (uMost r.top + 1).toNat else if r.kind = 4 then 7 else if r.kind = 5 then 18 else if r.kind = 6 then tCost k else if r.kind = 7 then k * tCost k else 0
theorem k_regW (r : Reg) (me v : Int) (k : Nat) (hk : threadsS r.n = k + 1) (hk3 : k ≤ 3) : Kst r.base (r.base + cellsS r k) (r.loc + localsS r k) (costW r k) (regW r me v) := by
  have hkk : k ≤ k * k := Nat.le_mul_self k
  unfold regW cellsS localsS costW
  by_cases h1 : r.kind = 1
  · simp only [h1]; exact k_bind (d := 0) (k_write _ _ (by omega) (by simp; omega)) fun x => k_ret x
  by_cases h2 : r.kind = 2
  · simp [h2]; exact k_bind (d := 0) (k_steadyW _ _ (by omega) (by omega) (by omega)) fun x => k_ret x
  by_cases h3 : r.kind = 3
  · simp [h3]; exact k_bind (d := 0) (k_unaryW _ _ (by omega) (by omega) (by omega)) fun x => k_ret x
  by_cases h4 : r.kind = 4
  · simp [h4]; exact k_bind (d := 0) (k_trompW _ _ (by omega) (by omega) (by omega)) fun x => k_ret x
  by_cases h5 : r.kind = 5
  · simp [h5]; exact k_bind (d := 0) (k_slotsW _ _ (by omega) (by omega) (by omega)) fun x => k_ret x
  by_cases h6 : r.kind = 6
  · rw [if_neg h1, if_neg h2, if_neg h3, if_neg h4, if_neg h5, if_pos h6, if_neg (by omega), if_neg h3, if_neg h4, if_neg h5, if_pos h6, if_neg h2, if_neg h3, if_neg h4, if_neg h5, if_pos h6, if_neg (by omega), if_neg h3, if_neg h4, if_neg h5, if_pos h6]
    exact k_bind (d := 0) (k_tableW _ _ _ k hk (by omega) (by omega) (by omega)) fun x => k_ret x
  by_cases h7 : r.kind = 7
  · rw [if_neg h1, if_neg h2, if_neg h3, if_neg h4, if_neg h5, if_neg h6, if_pos h7, if_neg (by omega), if_neg h3, if_neg h4, if_neg h5, if_neg h6, if_pos h7, if_neg h2, if_neg h3, if_neg h4, if_neg h5, if_neg h6, if_pos h7, if_neg (by omega), if_neg h3, if_neg h4, if_neg h5, if_neg h6, if_pos h7]
    exact k_bind (d := 0) (k_manyW _ _ _ k hk hk3 (by omega) (by omega) (by omega)) fun x => k_ret x
  simp [h1, h2, h3, h4, h5, h6, h7]; exact k_ret _
theorem k_regR (r : Reg) (me : Int) (k : Nat) (hk : threadsS r.n = k + 1) (hk3 : k ≤ 3) : Kst r.base (r.base + cellsS r k) (r.loc + localsS r k) (costR r k) (regR r me) := by
  have hkk : k ≤ k * k := Nat.le_mul_self k
  unfold regR cellsS localsS costR
  by_cases h1 : r.kind = 1
  · simp only [h1]; exact k_bind (d := 0) (k_read _ (by omega) (by simp; omega)) fun x => k_ret x
  by_cases h2 : r.kind = 2
  · simp [h2]; exact k_bind (d := 0) (k_steadyR _ (by omega) (by omega)) fun x => k_ret x
  by_cases h3 : r.kind = 3
  · simp [h3]; exact k_bind (d := 0) (k_unaryR _ (by omega) (by omega)) fun x => k_ret x
  by_cases h4 : r.kind = 4
  · simp [h4]; exact k_bind (d := 0) (k_trompR _ (by omega) (by omega) (by omega)) fun x => k_ret x
  by_cases h5 : r.kind = 5
  · simp [h5]; exact k_bind (d := 0) (k_slotsR _ (by omega) (by omega) (by omega)) fun x => k_ret x
  by_cases h6 : r.kind = 6
  · rw [if_neg h1, if_neg h2, if_neg h3, if_neg h4, if_neg h5, if_pos h6, if_neg (by omega), if_neg h3, if_neg h4, if_neg h5, if_pos h6, if_neg h2, if_neg h3, if_neg h4, if_neg h5, if_pos h6, if_neg (by omega), if_neg h3, if_neg h4, if_neg h5, if_pos h6]
    exact k_bind (d := 0) (k_tableR _ _ k (by omega) hk (by omega) (by omega) (by omega)) fun x => k_ret x
  by_cases h7 : r.kind = 7
  · rw [if_neg h1, if_neg h2, if_neg h3, if_neg h4, if_neg h5, if_neg h6, if_pos h7, if_neg (by omega), if_neg h3, if_neg h4, if_neg h5, if_neg h6, if_pos h7, if_neg h2, if_neg h3, if_neg h4, if_neg h5, if_neg h6, if_pos h7, if_neg (by omega), if_neg h3, if_neg h4, if_neg h5, if_neg h6, if_pos h7]
    exact k_bind (d := 0) (k_manyR _ _ k hk hk3 (by omega) (by omega) (by omega)) fun x => k_ret x
  simp [h1, h2, h3, h4, h5, h6, h7]; exact k_ret _
theorem cost_max (r : Reg) (k : Nat) (hk3 : k ≤ 3) : costW r k ≤ 300 ∧ costR r k ≤ 300 := by
  have hu : (uMost r.top + 1).toNat ≤ 256 := by unfold uMost; omega
  unfold costW costR tCost
  rcases (show k = 0 ∨ k = 1 ∨ k = 2 ∨ k = 3 by omega) with rfl | rfl | rfl | rfl <;> constructor <;> (repeat' split) <;> simp <;> omega
end Go.Proofs.Ytfaihahpnjgejaa
