/- tape.Play, by a contract: whatever is played. -/
import Derived.Defers
import Derived.Recover
import Derived.Laws.Pointers
import Derived.Test.YtfaihahpnjgejaaMB
import Derived.Test.YtfaihahpnjgejaaShelf
import Derived.Test.YtfaihahpnjgejaaMA
set_option linter.unusedVariables false
set_option linter.unusedSimpArgs false
namespace Go.Proofs.Ytfaihahpnjgejaa
open Go.RowKit

def shortN (l : List Int) : Nat → Nat
  | 0 => 0
  | n + 1 => if l.getD n 0 = 0 then shortN l n else n + 1
theorem shortN_le (l : List Int) : ∀ n, shortN l n ≤ n
  | 0 => Nat.le_refl _
  | n + 1 => by unfold shortN; split; exact Nat.le_succ_of_le (shortN_le l n); exact Nat.le_refl _

theorem hv_nil (w : World) (base : Nat) : w.ownsRow base 3 1 (.slice none 0 0) (shortN ([] : List Int) ([] : List Int).length) ((([] : List Int).take (shortN ([] : List Int) ([] : List Int).length)).map (Value.int .i64)) := ⟨by simp [shortN], .inl ⟨rfl, rfl⟩⟩
set_option maxRecDepth 100000 in
theorem short_calls0 {w : World} {v : Value} {xs : List Int} (hb : xs.length ≤ 32768) (hv : w.ownsRow 0 3 1 v xs.length (xs.map (Value.int .i64))) :
    Calls Try.prog 25 #[v] w fun e w' => ∃ v', e = .returned v' ∧ w'.ownsRow w.heap.size 3 1 v' (shortN xs xs.length) ((xs.take (shortN xs xs.length)).map (Value.int .i64)) ∧ Below w.heap.size w w' := by
  rcases hv.2 with ⟨rfl, hn⟩ | ⟨g, cap, cur, rfl, _, hg, hh, hcm, hs, ht⟩
  · have hx : xs = [] := List.length_eq_zero_iff.1 hn
    subst hx
    have C := Lib.hid (fun w => Try.slices_Clone_int_nil 0 0 w)
    go_enter Try.func25, Try.ntmps25
    go_wp2_with fail
    go_loopw [3] (fun i wr => i = .int .i64 0 ∧ wr = w) (fun _ _ => 0)
    case atStart => exact ⟨rfl, rfl⟩
    case round =>
      obtain ⟨rfl, rfl⟩ := hrel
      go_wp2_with fail
      refine (C.out _).mono ?_
      rintro e w2 ⟨rfl, rfl⟩
      go_wp2_with fail
      first
        | exact ⟨_, rfl, hv_nil _ _, Below.refl _ _⟩
        | (go_ret; exact ⟨_, rfl, hv_nil _ _, Below.refl _ _⟩)
  · have hc : ∀ i, i < xs.length → w.cell? ⟨g, i, none⟩ = some (.int .i64 (xs.getD i 0)) := by
      intro i hi
      rw [World.cell?, hg]
      have : (xs.map (Value.int .i64))[i]? = some (.int .i64 (xs.getD i 0)) := by simp [hi, List.getD_eq_getElem?_getD]
      rw [← ht, List.getElem?_take] at this
      simp at this
      simpa using this.2
    obtain ⟨m, hm⟩ : ∃ m, shortN xs xs.length = m := ⟨_, rfl⟩
    rw [hm]
    have hmn : m ≤ xs.length := hm ▸ shortN_le _ _
    have C := Lib.hid (Try.slices_Clone_int g 0 m cap xs w hmn (by omega) (by intro j hj; simpa using hc j hj))
    have hcap : xs.length ≤ cap := by first | exact hh | exact hcm | (simp at hh hcm; omega)
    generalize hn : xs.length = n at *
    replace hc := Lib.hid hc
    replace hm := Lib.hid hm
    clear hv hg hh hcm hs ht hn
    go_enter Try.func25, Try.ntmps25
    go_wp2_with fail
    go_loopw [3] (fun i wr => ∃ k : Nat, k ≤ n ∧ i = .int .i64 k ∧ wr = w ∧ Hid (shortN xs k = m)) (fun i _ => (intOf i).toNat)
    case atStart => exact ⟨n, Nat.le_refl _, rfl, rfl, hm⟩
    case round =>
      obtain ⟨k, hk, rfl, rfl, hmk⟩ := hrel
      rcases k with _ | j
      · have : m = 0 := hmk.out.symm
        subst this
        go_wp2_with fail
        refine C.out.mono ?_
        rintro e w2 ⟨v', rfl, hv', _, hb'⟩
        go_wp2_with fail
        first | exact ⟨v', rfl, hv', hb'⟩ | (go_ret; exact ⟨v', rfl, hv', hb'⟩)
      · have hcj := hc.out j (by omega)
        by_cases hz : xs.getD j 0 = 0
        · rw [hz] at hcj
          replace hmk : Hid (shortN xs j = m) := by have h := hmk.out; unfold shortN at h; rw [if_pos hz] at h; exact h
          replace hz := Lib.hid hz
          go_wp2_with fail
          go_roundw
          case rel => exact ⟨j, by omega, rfl, trivial, hmk⟩
          case measure => simp [intOf]
        · have : m = j + 1 := by have h := hmk.out; unfold shortN at h; rw [if_neg hz] at h; exact h.symm
          subst this
          generalize xs.getD j 0 = z at *
          have hq : (z == 0) = false := beq_eq_false_iff_ne.2 hz
          clear hz
          go_wp2_with fail
          refine C.out.mono ?_
          rintro e w2 ⟨v', rfl, hv', _, hb'⟩
          go_wp2_with fail
          first | exact ⟨v', rfl, hv', hb'⟩ | (go_ret; exact ⟨v', rfl, hv', hb'⟩)
end Go.Proofs.Ytfaihahpnjgejaa
namespace Go.Proofs.Ytfaihahpnjgejaa
open Go.RowKit

/-- what lies where a play has ended: the accesses and the notes as they were, the locals short -/
def outV (done : Bool) (g : Gh) (s : St) (l : Value) : Array Value := #[.bool done, .slice g.vA s.acc.length g.vC, .slice g.nA s.nts.length g.nC, l]

theorem BoxAt.far {w g k cs T} (h : BoxAt w g k cs T) {b : Nat} (hb : g.mine b) (i : Nat) (v : Value) : BoxAt (w.setCell ⟨b, i, none⟩ v) g k cs T := h.setOther (fun e => h.2 (e ▸ hb)) i v
theorem MemAt.setBox {st w g s k cs T} (h : MemAt st w g s) (hB : BoxAt w g k cs T) (hx : ∀ ad, g.aA = some ad → 0 < g.aN → ad.block ≠ k) (i : Nat) (v : Value) : MemAt st (w.setCell ⟨k, i, none⟩ v) g s :=
  h.kept (fun l hl => heap_setBox w i v (fun e => hB.2 (e ▸ hl))) (fun ad e hp => heap_setBox w i v (hx ad e (h.al ▸ hp)))

theorem own_slice {w : World} {base e size m} {v : Value} {xs} (h : w.ownsRow base e size v m xs) : ∃ A n c, v = .slice A n c := by
  rcases h.2 with ⟨rfl, _⟩ | ⟨_, _, _, rfl, _⟩ <;> exact ⟨_, _, _, rfl⟩
/-- a row of new memory lies where it lay behind stores into an older block -/
theorem own_new {w W : World} {base e size m : Nat} {xs} {v : Value} (h : w.ownsRow base e size v m xs) (hs : ∀ k, base ≤ k → k < w.heap.size → W.heap[k]? = w.heap[k]?) : W.ownsRow 0 e size v m xs := by
  refine ⟨h.1, ?_⟩
  rcases h.2 with h1 | ⟨g, cap, cur, hv, hb, hg, hh⟩
  · exact .inl h1
  · exact .inr ⟨g, cap, cur, hv, Nat.zero_le _, (hs g hb (heap_lt hg)).trans hg, hh⟩

theorem heap_far4 (w : World) {k l : Nat} (a b c d : Value) (h : l ≠ k) : ((((w.setCell ⟨k, 0, none⟩ a).setCell ⟨k, 1, none⟩ b).setCell ⟨k, 2, none⟩ c).setCell ⟨k, 3, none⟩ d).heap[l]? = w.heap[l]? :=
  (heap_setBox _ _ _ h).trans ((heap_setBox _ _ _ h).trans ((heap_setBox _ _ _ h).trans (heap_setBox _ _ _ h)))
theorem cell_far4 {w : World} {k l i : Nat} {x : Option Value} {a b c d : Value} (hc : w.cell? ⟨l, i, none⟩ = x) (h : l ≠ k) : ((((w.setCell ⟨k, 0, none⟩ a).setCell ⟨k, 1, none⟩ b).setCell ⟨k, 2, none⟩ c).setCell ⟨k, 3, none⟩ d).cell? ⟨l, i, none⟩ = x :=
  (World.cell?_of_block (w := w) (heap_far4 w a b c d h)).trans hc
/-- what a play leaves behind -/
structure Played (w : World) (g : Gh) (s : St) (gb ob : Nat) (x : Int) (done : Bool) (w' : World) (l : Value) : Prop where
  os : w'.os = w.os
  tape : w'.tape = w.tape
  output : w'.output = w.output
  size : w.heap.size ≤ w'.heap.size
  same : ∀ k, k < w.heap.size → ¬ g.mine k → k ≠ gb → k ≠ ob → w'.heap[k]? = w.heap[k]?
  mem : MemAt 0 w' g s
  got : w'.heap[gb]? = some (.cells #[.int .i64 x] 3 (0, 0))
  out : w'.heap[ob]? = some (.cells (outV done g s l) 33 (0, 0))
  loc : w'.ownsRow 0 3 1 l (shortN s.loc s.loc.length) ((s.loc.take (shortN s.loc s.loc.length)).map (Value.int .i64))

set_option maxRecDepth 100000 in
set_option maxHeartbeats 4000000 in
theorem play1_idle {b mb gb ob : Nat} {w : World} {g : Gh} {s : St} (x : Int) (hm : MemP b w g s)
    (MB : Hid (BoxAt w g mb #[.pointer (some ⟨b, 0, none⟩)] 36)) (GB : Hid (BoxAt w g gb #[.int .i64 x] 3))
    (OB : Hid (BoxAt w g ob #[.bool false, .slice none 0 0, .slice none 0 0, .slice none 0 0] 33))
    (hog : gb ≠ ob) (hmo : mb ≠ ob) (hx : ∀ ad, g.aA = some ad → 0 < g.aN → ad.block ≠ ob) :
    CallsD Try.prog 24 #[.pointer (some ⟨mb, 0, none⟩), .pointer (some ⟨gb, 0, none⟩), .pointer (some ⟨ob, 0, none⟩)] .returning w fun e u' w' => e = .returned (.tuple #[]) ∧ u' = .returning ∧ ∃ l, Played w g s gb ob x true w' l := by
  refine callsD_of_wpS Try.func24 rfl fun c₀ cs hu => ?_
  simp only [Try.ntmps24, List.size_toArray, List.length_cons, List.length_nil, Nat.reduceAdd, Nat.reduceSub, Array.replicate_succ, Array.replicate_zero, List.push_toArray, List.append_toArray, List.nil_append, List.cons_append]
  have m0 := cell_of_blk MB.out.1 0
  simp at m0
  have g0 := cell_of_blk GB.out.1 0
  simp at g0
  have o0 := cell_of_blk OB.out.1 0
  have o1 := cell_of_blk OB.out.1 1
  have o2 := cell_of_blk OB.out.1 2
  have o3 := cell_of_blk OB.out.1 3
  simp at o0 o1 o2 o3
  have c0 := cell_of_blk hm.at_.blk 0
  have hgb := hm.hb
  rw [hgb] at c0
  simp at c0
  have c0f := frozen_of_blk hm.at_.blk 0
  rw [hgb] at c0f
  apply wpS_seq
  refine wpS_of_wp ?_
  go_wp2_with fail
  change Code.wpS _ _ _ _ _ _
  apply wpS_seq
  refine wpS_of_wp ?_
  go_wp2_with fail
  have hbo : b ≠ ob := fun e => OB.out.2 (.inl (by rw [hgb]; exact e.symm))
  obtain ⟨hM, hst⟩ := hm.at_.setState 0
  rw [hgb] at hM hst
  replace MB := Lib.hid (MB.out.step hst)
  replace GB := Lib.hid (GB.out.step hst)
  replace OB := Lib.hid (OB.out.step hst)
  clear m0 g0 o0 o1 o2 o3 c0 c0f hm
  generalize w.setCell ⟨b, 0, none⟩ (.int .i64 0) = w1 at *
  have m0 := cell_of_blk MB.out.1 0
  simp at m0
  have g0 := cell_of_blk GB.out.1 0
  simp at g0
  have o0 := cell_of_blk OB.out.1 0
  have o1 := cell_of_blk OB.out.1 1
  have o2 := cell_of_blk OB.out.1 2
  have o3 := cell_of_blk OB.out.1 3
  simp at o0 o1 o2 o3
  have c2 := cell_of_blk hM.blk 2
  have c3 := cell_of_blk hM.blk 3
  have c4 := cell_of_blk hM.blk 4
  rw [hgb] at c2 c3 c4
  simp at c2 c3 c4
  change Code.wpS _ _ _ _ _ _
  apply wpS_seq
  apply wpS_seq
  apply wpS_region
  simp [wpOpsS, go_sem, recoverD, hu, Exit.thenS, List.range, List.range.loop]
  refine wpS_of_wp ?_
  go_wp2_with fail
  change Code.wpS _ _ _ _ _ _
  refine wpS_of_wp ?_
  go_wp2_with fail
  have hob1 : ob < w1.heap.size := heap_lt OB.out.1
  have hM0 := Lib.hid hM
  have hst0 := Lib.hid hst
  clear hM hst
  go_region_held2 (fun W => W.cell? ⟨mb, 0, none⟩ = some (.pointer (some ⟨b, 0, none⟩)) ∧ W.cell? ⟨b, 2, none⟩ = some (.slice g.lA s.loc.length g.lC) ∧ W.cell? ⟨b, 3, none⟩ = some (.slice g.vA s.acc.length g.vC) ∧ W.cell? ⟨b, 4, none⟩ = some (.slice g.nA s.nts.length g.nC)) (first | exact ⟨by assumption, by assumption, by assumption, by assumption⟩ | exact ⟨cell_far4 m0 hmo, cell_far4 c2 hbo, cell_far4 c3 hbo, cell_far4 c4 hbo⟩) (first | (go_at_call 25; refine (short_calls0 (xs := s.loc) hM0.out.sl (own_below hM0.out.lown (Below.refl _ _).drew)).mono ?_; rintro e_ w_ ⟨v', rfl, hv', hbl_⟩; obtain ⟨A', n', c', hvs⟩ := own_slice hv'; subst hvs; replace hbl_ : Below w1.heap.size w1 w_ := ((Below.refl _ _).drew).trans (hbl_.mono (by simp)); have hM := hM0.out.below hbl_; replace MB := Lib.hid (MB.out.below hbl_); replace GB := Lib.hid (GB.out.below hbl_); replace OB := Lib.hid (OB.out.below hbl_); clear m0 g0 o0 o1 o2 o3 c2 c3 c4; have m0 := cell_of_blk MB.out.1 0; have o0 := fun i => cell_of_blk OB.out.1 i; have of := fun i => frozen_of_blk OB.out.1 i; have c2 := cell_of_blk hM.blk 2; have c3 := cell_of_blk hM.blk 3; have c4 := cell_of_blk hM.blk 4; rw [hgb] at c2 c3 c4; simp at m0 c2 c3 c4))
  cases c₀
  go_wp2_with fail
  have hh : ∀ ad, g.aA = some ad → 0 < g.aN → ad.block ≠ ob := hx
  have M4 := ((((hM.setBox OB.out hh 0 (.bool true)).setBox (OB.out.set1 0 (.bool true)) hh 1 (.slice g.vA s.acc.length g.vC)).setBox ((OB.out.set1 0 (.bool true)).set1 1 (.slice g.vA s.acc.length g.vC)) hh 2 (.slice g.nA s.nts.length g.nC)).setBox (((OB.out.set1 0 (.bool true)).set1 1 (.slice g.vA s.acc.length g.vC)).set1 2 (.slice g.nA s.nts.length g.nC)) hh 3 (.slice A' n' c'))
  have O4 := ((((OB.out.set1 0 (.bool true)).set1 1 (.slice g.vA s.acc.length g.vC)).set1 2 (.slice g.nA s.nts.length g.nC)).set1 3 (.slice A' n' c')).1
  have hP : Played w g s gb ob x true ((((w_.setCell ⟨ob, 0, none⟩ (.bool true)).setCell ⟨ob, 1, none⟩ (.slice g.vA s.acc.length g.vC)).setCell ⟨ob, 2, none⟩ (.slice g.nA s.nts.length g.nC)).setCell ⟨ob, 3, none⟩ (.slice A' n' c')) (.slice A' n' c') :=
    { os := hbl_.os.trans hst0.out.os, tape := hbl_.tape.trans hst0.out.tape, output := hbl_.output.trans hst0.out.output
      size := by have h1 := hst0.out.size; have h2 := hbl_.size; simp [World.setCell]; omega
      same := fun k hk hm _ ho => (heap_far4 _ _ _ _ _ ho).trans ((hbl_.block k (Nat.lt_of_lt_of_le hk hst0.out.size)).trans (hst0.out.same k hk hm))
      mem := M4
      got := (heap_far4 _ _ _ _ _ hog).trans GB.out.1
      out := by simpa [outV] using O4
      loc := own_new hv' (fun k hb hk => heap_far4 _ _ _ _ _ (by simp at hb; omega)) }
  exact ⟨rfl, _, rfl, _, results_none rfl _ _ _, rfl, rfl, _, hP⟩
end Go.Proofs.Ytfaihahpnjgejaa
namespace Go.Proofs.Ytfaihahpnjgejaa
open Go.RowKit
theorem equalIn_self (P : Program) (d n : Nat) (t : TypeId) (b : Nat) (w : World) (h : P.underlying t = some (.pointer (P.pointee t))) (hn : ¬ n = 0) (hs : ∀ w, (sizeOf (P.pointee t)).run P w = .ok n w) :
    (Op.equalIn (d + 1) t (.pointer (some ⟨b, 0, none⟩)) (.pointer (some ⟨b, 0, none⟩))).run P w = .ok true w := by
  simp [Op.equalIn, run_underlying h, hs, hn, sameAddr]
theorem equal_self (P : Program) (n : Nat) (t : TypeId) (b : Nat) (w : World) (h : P.underlying t = some (.pointer (P.pointee t))) (hn : ¬ n = 0) (hs : ∀ w, (sizeOf (P.pointee t)).run P w = .ok n w) :
    (Op.equal t (.pointer (some ⟨b, 0, none⟩)) (.pointer (some ⟨b, 0, none⟩))).run P w = .ok true w := equalIn_self P 9999 n t b w h hn hs
theorem neq_self_mem (b : Nat) (w : World) : (binOp .neq 36 (.pointer (some ⟨b, 0, none⟩)) (.pointer (some ⟨b, 0, none⟩))).run Try.prog w = .ok (.bool false) w := by
  simp only [binOp]
  simp [equal_self Try.prog 5 36 b w (by kernel_rfl) (by decide) (fun w => by kernel_rfl)]
end Go.Proofs.Ytfaihahpnjgejaa
namespace Go.Proofs.Ytfaihahpnjgejaa
open Go.RowKit

set_option maxRecDepth 100000 in
set_option maxHeartbeats 4000000 in
theorem play1_stop {b mb gb ob : Nat} {w : World} {g : Gh} {s : St} (x : Int) (hgb : g.b = b) (hm : MemAt 2 w g s)
    (MB : Hid (BoxAt w g mb #[.pointer (some ⟨b, 0, none⟩)] 36)) (GB : Hid (BoxAt w g gb #[.int .i64 x] 3))
    (OB : Hid (BoxAt w g ob #[.bool false, .slice none 0 0, .slice none 0 0, .slice none 0 0] 33))
    (hog : gb ≠ ob) (hmo : mb ≠ ob) (hx : ∀ ad, g.aA = some ad → 0 < g.aN → ad.block ≠ ob) (hmg : mb ≠ gb) (hxg : ∀ ad, g.aA = some ad → 0 < g.aN → ad.block ≠ gb) :
    CallsD Try.prog 24 #[.pointer (some ⟨mb, 0, none⟩), .pointer (some ⟨gb, 0, none⟩), .pointer (some ⟨ob, 0, none⟩)] (.panicking [stopOf b]) w fun e u' w' => e = .returned (.tuple #[]) ∧ u' = .panicking [{ stopOf b with recovered := true }] ∧ ∃ l, Played w g s gb ob 0 false w' l := by
  refine callsD_of_wpS Try.func24 rfl fun c₀ cs hu => ?_
  simp only [Try.ntmps24, List.size_toArray, List.length_cons, List.length_nil, Nat.reduceAdd, Nat.reduceSub, Array.replicate_succ, Array.replicate_zero, List.push_toArray, List.append_toArray, List.nil_append, List.cons_append]
  have m0 := cell_of_blk MB.out.1 0
  simp at m0
  have g0 := cell_of_blk GB.out.1 0
  simp at g0
  have o0 := cell_of_blk OB.out.1 0
  have o1 := cell_of_blk OB.out.1 1
  have o2 := cell_of_blk OB.out.1 2
  have o3 := cell_of_blk OB.out.1 3
  simp at o0 o1 o2 o3
  have c0 := cell_of_blk hm.blk 0
  rw [hgb] at c0
  simp at c0
  have c0f := frozen_of_blk hm.blk 0
  rw [hgb] at c0f
  apply wpS_seq
  refine wpS_of_wp ?_
  go_wp2_with fail
  change Code.wpS _ _ _ _ _ _
  apply wpS_seq
  refine wpS_of_wp ?_
  go_wp2_with fail
  have hbo : b ≠ ob := fun e => OB.out.2 (.inl (by rw [hgb]; exact e.symm))
  obtain ⟨hM, hst⟩ := hm.setState 0
  rw [hgb] at hM hst
  replace MB := Lib.hid (MB.out.step hst)
  replace GB := Lib.hid (GB.out.step hst)
  replace OB := Lib.hid (OB.out.step hst)
  clear m0 g0 o0 o1 o2 o3 c0 c0f hm
  generalize w.setCell ⟨b, 0, none⟩ (.int .i64 0) = w1 at *
  have m0 := cell_of_blk MB.out.1 0
  simp at m0
  have g0 := cell_of_blk GB.out.1 0
  simp at g0
  have o0 := cell_of_blk OB.out.1 0
  have o1 := cell_of_blk OB.out.1 1
  have o2 := cell_of_blk OB.out.1 2
  have o3 := cell_of_blk OB.out.1 3
  simp at o0 o1 o2 o3
  have c2 := cell_of_blk hM.blk 2
  have c3 := cell_of_blk hM.blk 3
  have c4 := cell_of_blk hM.blk 4
  rw [hgb] at c2 c3 c4
  simp at c2 c3 c4
  change Code.wpS _ _ _ _ _ _
  apply wpS_seq
  apply wpS_seq
  apply wpS_region
  simp [wpOpsS, go_sem, recoverD, hu, Exit.thenS, List.range, List.range.loop, stopOf]
  have hta : ∀ w : World, (Instr.typeAssert (.iface 51 (.agg #[.pointer (some ⟨b, 0, none⟩)])) 20 51 true).run Try.prog w = .ok (.tuple #[.agg #[.pointer (some ⟨b, 0, none⟩)], .bool true]) w := fun _ => by kernel_rfl
  have hblA : Below w1.heap.size w1 (w1.alloc (.cells #[.pointer (some ⟨b, 0, none⟩)] 51)) := (Below.refl _ _).alloc (Nat.le_refl _) _
  have ma : (w1.alloc (.cells #[.pointer (some ⟨b, 0, none⟩)] 51)).cell? ⟨mb, 0, none⟩ = some (.pointer (some ⟨b, 0, none⟩)) := cell_of_blk (MB.out.below hblA).1 0
  have hne := fun w => neq_self_mem b w
  refine wpS_of_wp ?_
  go_wp2_with fail
  have hM2 := hM.below hblA
  have hst2 := hst.trans (Step.of_below g hblA)
  replace MB := Lib.hid (MB.out.below hblA)
  replace GB := Lib.hid (GB.out.below hblA)
  replace OB := Lib.hid (OB.out.below hblA)
  clear m0 g0 o0 o1 o2 o3 c2 c3 c4 ma hblA hM hst hta
  have hM := hM2
  have hst := hst2
  clear hM2 hst2
  generalize (w1.alloc (.cells #[.pointer (some ⟨b, 0, none⟩)] 51)) = w2 at *
  have g0 := cell_of_blk GB.out.1 0
  have gf := frozen_of_blk GB.out.1 0
  simp at g0
  change Code.wpS _ _ _ _ _ _
  apply wpS_seq
  refine wpS_of_wp ?_
  go_wp2_with fail
  have hM3 := hM.setBox GB.out hxg 0 (.int .i64 0)
  have hk3 : ∀ k, k ≠ gb → (w2.setCell ⟨gb, 0, none⟩ (.int .i64 0)).heap[k]? = w2.heap[k]? := fun k h => heap_setBox w2 0 _ h
  have hs3 : (w2.setCell ⟨gb, 0, none⟩ (.int .i64 0)).heap.size = w2.heap.size := by simp [World.setCell]
  have ho3 : (w2.setCell ⟨gb, 0, none⟩ (.int .i64 0)).os = w2.os := rfl
  have ht3 : (w2.setCell ⟨gb, 0, none⟩ (.int .i64 0)).tape = w2.tape := rfl
  have hu3 : (w2.setCell ⟨gb, 0, none⟩ (.int .i64 0)).output = w2.output := rfl
  replace MB := Lib.hid (MB.out.setOther hmg 0 (.int .i64 0))
  replace OB := Lib.hid (OB.out.setOther hog.symm 0 (.int .i64 0))
  replace GB := Lib.hid (GB.out.setSelf (.int .i64 0))
  have hst0 := Lib.hid hst
  clear g0 gf hM hst
  generalize w2.setCell ⟨gb, 0, none⟩ (.int .i64 0) = w1 at *
  have hM0 := Lib.hid hM3
  clear hM3
  have m0 := cell_of_blk MB.out.1 0
  simp at m0
  have g0 := cell_of_blk GB.out.1 0
  simp at g0
  have o0 := cell_of_blk OB.out.1 0
  have o1 := cell_of_blk OB.out.1 1
  have o2 := cell_of_blk OB.out.1 2
  have o3 := cell_of_blk OB.out.1 3
  simp at o0 o1 o2 o3
  have c2 := cell_of_blk hM0.out.blk 2
  have c3 := cell_of_blk hM0.out.blk 3
  have c4 := cell_of_blk hM0.out.blk 4
  rw [hgb] at c2 c3 c4
  simp at c2 c3 c4
  have hob1 : ob < w1.heap.size := heap_lt OB.out.1
  replace hk3 := Lib.hid hk3
  replace hs3 := Lib.hid hs3
  replace ho3 := Lib.hid ho3
  replace ht3 := Lib.hid ht3
  replace hu3 := Lib.hid hu3
  change Code.wpS _ _ _ _ _ _
  refine wpS_of_wp ?_
  go_region_held2 (fun W => W.cell? ⟨mb, 0, none⟩ = some (.pointer (some ⟨b, 0, none⟩)) ∧ W.cell? ⟨b, 2, none⟩ = some (.slice g.lA s.loc.length g.lC) ∧ W.cell? ⟨b, 3, none⟩ = some (.slice g.vA s.acc.length g.vC) ∧ W.cell? ⟨b, 4, none⟩ = some (.slice g.nA s.nts.length g.nC)) (first | exact ⟨by assumption, by assumption, by assumption, by assumption⟩ | exact ⟨cell_far4 m0 hmo, cell_far4 c2 hbo, cell_far4 c3 hbo, cell_far4 c4 hbo⟩) (first | (go_at_call 25; refine (short_calls0 (xs := s.loc) hM0.out.sl (own_below hM0.out.lown (Below.refl _ _).drew)).mono ?_; rintro e_ w_ ⟨v', rfl, hv', hbl_⟩; obtain ⟨A', n', c', hvs⟩ := own_slice hv'; subst hvs; replace hbl_ : Below w1.heap.size w1 w_ := ((Below.refl _ _).drew).trans (hbl_.mono (by simp)); have hM := hM0.out.below hbl_; replace MB := Lib.hid (MB.out.below hbl_); replace GB := Lib.hid (GB.out.below hbl_); replace OB := Lib.hid (OB.out.below hbl_); clear m0 g0 o0 o1 o2 o3 c2 c3 c4; have m0 := cell_of_blk MB.out.1 0; have o0 := fun i => cell_of_blk OB.out.1 i; have of := fun i => frozen_of_blk OB.out.1 i; have c2 := cell_of_blk hM.blk 2; have c3 := cell_of_blk hM.blk 3; have c4 := cell_of_blk hM.blk 4; rw [hgb] at c2 c3 c4; simp at m0 c2 c3 c4))
  cases c₀
  go_wp2_with fail
  have hh : ∀ ad, g.aA = some ad → 0 < g.aN → ad.block ≠ ob := hx
  have M4 := ((((hM.setBox OB.out hh 0 (.bool false)).setBox (OB.out.set1 0 (.bool false)) hh 1 (.slice g.vA s.acc.length g.vC)).setBox ((OB.out.set1 0 (.bool false)).set1 1 (.slice g.vA s.acc.length g.vC)) hh 2 (.slice g.nA s.nts.length g.nC)).setBox (((OB.out.set1 0 (.bool false)).set1 1 (.slice g.vA s.acc.length g.vC)).set1 2 (.slice g.nA s.nts.length g.nC)) hh 3 (.slice A' n' c'))
  have O4 := ((((OB.out.set1 0 (.bool false)).set1 1 (.slice g.vA s.acc.length g.vC)).set1 2 (.slice g.nA s.nts.length g.nC)).set1 3 (.slice A' n' c')).1
  have hP : Played w g s gb ob 0 false ((((w_.setCell ⟨ob, 0, none⟩ (.bool false)).setCell ⟨ob, 1, none⟩ (.slice g.vA s.acc.length g.vC)).setCell ⟨ob, 2, none⟩ (.slice g.nA s.nts.length g.nC)).setCell ⟨ob, 3, none⟩ (.slice A' n' c')) (.slice A' n' c') :=
    { os := hbl_.os.trans (ho3.out.trans hst0.out.os), tape := hbl_.tape.trans (ht3.out.trans hst0.out.tape), output := hbl_.output.trans (hu3.out.trans hst0.out.output)
      size := by have h1 := hst0.out.size; have h2 := hbl_.size; have h3 := hs3.out; simp [World.setCell]; omega
      same := fun k hk hm hgk ho => (heap_far4 _ _ _ _ _ ho).trans ((hbl_.block k (by have h1 := hst0.out.size; have h3 := hs3.out; omega)).trans ((hk3.out k hgk).trans (hst0.out.same k hk hm)))
      mem := M4
      got := (heap_far4 _ _ _ _ _ hog).trans GB.out.1
      out := by simpa [outV] using O4
      loc := own_new hv' (fun k hb hk => heap_far4 _ _ _ _ _ (by simp at hb; omega)) }
  exact ⟨rfl, _, rfl, _, results_none rfl _ _ _, rfl, rfl, _, hP⟩
end Go.Proofs.Ytfaihahpnjgejaa
namespace Go.Proofs.Ytfaihahpnjgejaa
open Go.RowKit

theorem wp_panQ {P : Program} {c : Code} {Q : Exit → Act → World → Prop} {a : Act} {w : World} (X : List PanicEntry → World → Prop) (hQ : ∀ ch a w, a.defers = [] → X ch w → Q (.panic ch) a w) (h : c.wp P (panQ X Q) a w) : c.wp P Q a w := by
  refine Code.wp_mono ?_ h
  intro e a w hh
  cases e with
  | panic ch => exact hQ ch a w hh.1 hh.2
  | normal => exact hh
  | ret => exact hh
  | exit _ => exact hh
  | goto _ => exact hh
  | outgrown => exact hh

/-- where a play begins -/
def gh0 (b : Nat) (A : Option Addr) (c n : Nat) : Gh := { b := b, aA := A, aC := c, lA := none, lC := 0, vA := none, vC := 0, nA := none, nC := 0, aN := n }
def st0 (ans : List Int) : St := { ans := ans, loc := [], acc := [], nts := [] }
theorem gh0_mine {b : Nat} {A : Option Addr} {c n k : Nat} : (gh0 b A c n).mine k ↔ k = b := by
  unfold Gh.mine gh0; simp [blk?]
theorem own_nil (w : World) (e size : Nat) : w.ownsRow 0 e size (.slice none 0 0) 0 [] := ⟨by simp, .inl ⟨rfl, rfl⟩⟩
theorem memP_new {w : World} {b : Nat} {A : Option Addr} {c : Nat} {ans : List Int} (hb : w.heap[b]? = some (.cells #[.int .i64 1, .slice A ans.length c, .slice none 0 0, .slice none 0 0, .slice none 0 0] 48 (0, 0)))
    (hans : ∀ j, j < ans.length → ∃ ad, A = some ad ∧ w.cell? (ad.add j) = some (.int .i64 (ans.getD j 0)) ∧ ad.block ≠ b) (hl : ans.length ≤ 1073741824) : MemP b w (gh0 b A c ans.length) (st0 ans) :=
  { hb := rfl
    at_ := { blk := hb
             ansr := fun j hj => by
               obtain ⟨ad, e, hc, hn⟩ := hans j hj
               exact ⟨ad, e, hc, fun h => hn (gh0_mine.1 h)⟩
             lown := own_nil w _ _, vown := own_nil w _ _, nown := own_nil w _ _
             lb := by simp [gh0, blk?], vb := by simp [gh0, blk?], nb := by simp [gh0, blk?]
             vl := by simp [gh0, blk?], nl := by simp [gh0, blk?], nv := by simp [gh0, blk?]
             sa := hl, sv := by simp [st0], sl := by simp [st0], sn := by simp [st0], al := rfl }
    le := by simp [st0] }
end Go.Proofs.Ytfaihahpnjgejaa
namespace Go.Proofs.Ytfaihahpnjgejaa
open Go.RowKit

def playW (w : World) (A : Option Addr) (c n : Nat) : World :=
  (((w.alloc (.cells #[.int .i64 0] 3)).alloc (.cells #[.bool false, .slice none 0 0, .slice none 0 0, .slice none 0 0] 33)).alloc
    (.cells #[.int .i64 1, .slice A n c, .slice none 0 0, .slice none 0 0, .slice none 0 0] 48)).alloc (.cells #[.pointer (some ⟨w.heap.size + 1 + 1, 0, none⟩)] 36)
theorem playW_heap (w : World) (A : Option Addr) (c n : Nat) :
    (playW w A c n).heap[w.heap.size]? = some (.cells #[.int .i64 0] 3 (0, 0)) ∧
    (playW w A c n).heap[w.heap.size + 1]? = some (.cells #[.bool false, .slice none 0 0, .slice none 0 0, .slice none 0 0] 33 (0, 0)) ∧
    (playW w A c n).heap[w.heap.size + 1 + 1]? = some (.cells #[.int .i64 1, .slice A n c, .slice none 0 0, .slice none 0 0, .slice none 0 0] 48 (0, 0)) ∧
    (playW w A c n).heap[w.heap.size + 1 + 1 + 1]? = some (.cells #[.pointer (some ⟨w.heap.size + 1 + 1, 0, none⟩)] 36 (0, 0)) := by
  refine ⟨?_, ?_, ?_, ?_⟩
  · exact ((Below.heap_alloc _ _ _ (by simp; omega)).trans ((Below.heap_alloc _ _ _ (by simp; omega)).trans ((Below.heap_alloc _ _ _ (by simp)).trans (heap_alloc_new w _))))
  · exact (Below.heap_alloc _ _ _ (by simp)).trans ((Below.heap_alloc _ _ _ (by simp)).trans (by have h := heap_alloc_new (w.alloc (.cells #[.int .i64 0] 3)) (.cells #[.bool false, .slice none 0 0, .slice none 0 0, .slice none 0 0] 33); simpa using h))
  · refine (Below.heap_alloc _ _ _ (by simp)).trans ?_
    have h := heap_alloc_new ((w.alloc (.cells #[.int .i64 0] 3)).alloc (.cells #[.bool false, .slice none 0 0, .slice none 0 0, .slice none 0 0] 33)) (.cells #[.int .i64 1, .slice A n c, .slice none 0 0, .slice none 0 0, .slice none 0 0] 48)
    simpa using h
  · have h := heap_alloc_new (((w.alloc (.cells #[.int .i64 0] 3)).alloc (.cells #[.bool false, .slice none 0 0, .slice none 0 0, .slice none 0 0] 33)).alloc (.cells #[.int .i64 1, .slice A n c, .slice none 0 0, .slice none 0 0, .slice none 0 0] 48)) (.cells #[.pointer (some ⟨w.heap.size + 1 + 1, 0, none⟩)] 36)
    unfold playW
    simpa using h
theorem playW_below (w : World) (A : Option Addr) (c n : Nat) : Below w.heap.size w (playW w A c n) :=
  ((((Below.refl _ _).alloc (Nat.le_refl _) _).alloc (by simp) _).alloc (by simp; omega) _).alloc (by simp; omega) _
end Go.Proofs.Ytfaihahpnjgejaa
namespace Go.Proofs.Ytfaihahpnjgejaa
open Go.RowKit

/-- a store of what a cell holds turns nothing -/
theorem setCell_held (w : World) (k i : Nat) (cs : Array Value) (T : Nat) (v : Value) (h : w.heap[k]? = some (.cells cs T (0, 0))) (hv : cs[i]? = some v) : w.setCell ⟨k, i, none⟩ v = w := by
  have hh : (w.setCell ⟨k, i, none⟩ v).heap = w.heap := by
    apply Array.ext_getElem?
    intro l
    by_cases hl : l = k
    · subst hl
      rw [heap_setCell_same w l i cs T v h, h]
      congr 2
      apply Array.ext_getElem?
      intro j
      rw [Array.getElem?_setIfInBounds]
      split
      · rename_i e; subst e
        have := (Array.getElem?_eq_some_iff.1 hv).1
        rw [if_pos this, hv]
      · rfl
    · exact heap_setBox w i v hl
  show { w with heap := (w.setCell ⟨k, i, none⟩ v).heap } = w
  rw [hh]

theorem play_below {w V1 W4 w' : World} {g : Gh} {s : St} {gb ob : Nat} {x : Int} {d : Bool} {l : Value} (h1 : Below w.heap.size w V1) (ho : W4.os = V1.os) (ht : W4.tape = V1.tape) (hp : W4.output = V1.output)
    (hz : V1.heap.size ≤ W4.heap.size) (hs : ∀ k, k < w.heap.size → W4.heap[k]? = V1.heap[k]?) (hm : ∀ k, k < w.heap.size → ¬ g.mine k) (hP : Played W4 g s gb ob x d w' l) (hgb : w.heap.size ≤ gb) (hob : w.heap.size ≤ ob) : Below w.heap.size w w' :=
  ⟨hP.os.trans (ho.trans h1.os), hP.tape.trans (ht.trans h1.tape), hP.output.trans (hp.trans h1.output), Nat.le_trans h1.size (Nat.le_trans hz hP.size),
   fun k hk => (hP.same k (Nat.lt_of_lt_of_le hk (Nat.le_trans h1.size hz)) (hm k hk) (by omega) (by omega)).trans ((hs k hk).trans (h1.block k hk))⟩

/-- what Play hands back, and what lies behind it -/
def PlayPost (w : World) (ans : List Int) (spec : OpM Int) (e : Ending) (w' : World) : Prop :=
  ∃ g' s' l, Below w.heap.size w w' ∧ w.heap.size ≤ w'.heap.size ∧ MemAt 0 w' g' s' ∧
    w'.ownsRow 0 3 1 l (shortN s'.loc s'.loc.length) ((s'.loc.take (shortN s'.loc s'.loc.length)).map (Value.int .i64)) ∧
    ((∃ x, spec (st0 ans) = (some x, s') ∧ e = .returned (.tuple #[.int .i64 x, .agg (outV true g' s' l)])) ∨ (spec (st0 ans) = (none, s') ∧ e = .returned (.tuple #[.int .i64 0, .agg (outV false g' s' l)])))

set_option maxRecDepth 100000 in
set_option maxHeartbeats 4000000 in
theorem play_calls0 (w : World) (fn : FuncId) (caps : Array Value) (A : Option Addr) (c : Nat) (ans : List Int) (spec : OpM Int)
    (hans : ∀ j, j < ans.length → ∃ ad, A = some ad ∧ w.cell? (ad.add j) = some (.int .i64 (ans.getD j 0))) (hl : ans.length ≤ 1073741824)
    (hfn : ∀ args w, (callFunc fn args).run Try.prog w = .ok (.enter fn args) w)
    (hdo : ∀ (b : Nat) (W : World), MemP b W (gh0 b A c ans.length) (st0 ans) → w.heap.size ≤ b → Below w.heap.size w W → Calls Try.prog fn (#[.pointer (some ⟨b, 0, none⟩)] ++ caps) W (MPost b (Value.int .i64) W (gh0 b A c ans.length) (spec (st0 ans)))) :
    Calls Try.prog 8 #[.func (.func fn) #[] caps, .slice none 0 0, .slice A ans.length c] w (PlayPost w ans spec) := by
  refine Calls.of_post fun R HR => ?_
  have hmf : ∀ (fn : Fn) (first cap : Array Value) (w : World), (Instr.makeFunc fn first cap).run Try.prog w = .ok (.func fn first cap) w := fun _ _ _ _ => rfl
  have C := Lib.hid (fun w => Try.slices_Clone_int_nil 0 0 w)
  have hans0 := Lib.hid hans
  have hl0 := Lib.hid hl
  have hdo0 := Lib.hid hdo
  clear hans hl hdo
  obtain ⟨n, hn⟩ : ∃ n, ans.length = n := ⟨_, rfl⟩
  rw [hn]
  obtain ⟨hG, hO, hB, hM⟩ := playW_heap w A c n
  have hbl := playW_below w A c n
  unfold playW at hG hO hB hM hbl
  go_enter_defers Try.func8, Try.ntmps8
  go_wp2_with fail
  generalize (((w.alloc (.cells #[.int .i64 0] 3)).alloc (.cells #[.bool false, .slice none 0 0, .slice none 0 0, .slice none 0 0] 33)).alloc (.cells #[.int .i64 1, .slice A n c, .slice none 0 0, .slice none 0 0, .slice none 0 0] 48)).alloc (.cells #[.pointer (some ⟨w.heap.size + 1 + 1, 0, none⟩)] 36) = V at *
  have m0 := cell_of_blk hM 0
  have b2 := cell_of_blk hB 2
  have b2f := frozen_of_blk hB 2
  simp at m0 b2
  have hmin : min (0 : Int) 32768 = 0 := by decide
  have HG := Lib.hid hG
  have HO := Lib.hid hO
  have HB := Lib.hid hB
  have HM := Lib.hid hM
  have HL := Lib.hid hbl
  clear hG hO hB hM hbl
  refine wp_panQ (fun _ _ => False) (by intro _ _ _ _ h; exact h.elim) ?_
  go_region_held2 (fun W => W.cell? ⟨w.heap.size + 1 + 1 + 1, 0, none⟩ = some (.pointer (some ⟨w.heap.size + 1 + 1, 0, none⟩))) (first | assumption | exact (World.cell?_of_block (w := V) (heap_setBox V (k := w.heap.size + 1 + 1) (l := w.heap.size + 1 + 1 + 1) 2 _ (by omega))).trans m0) (first | (go_at_call 23; refine (C.out _).mono ?_; rintro e_ w_ ⟨rfl, rfl⟩))
  rename_i hK hHeld
  clear hHeld m0 b2 b2f hmin C
  have hsame := setCell_held V (w.heap.size + 1 + 1) 2 _ _ (.slice none 0 0) HB.out rfl
  rw [hsame]
  clear hsame
  refine hK _ _ ?_
  clear hK
  have HG2 := Lib.hid (show V.drew.heap[w.heap.size]? = _ from HG.out)
  have HO2 := Lib.hid (show V.drew.heap[w.heap.size + 1]? = _ from HO.out)
  have HB2 := Lib.hid (show V.drew.heap[w.heap.size + 1 + 1]? = _ from HB.out)
  have HM2 := Lib.hid (show V.drew.heap[w.heap.size + 1 + 1 + 1]? = _ from HM.out)
  have HL2 := Lib.hid (HL.out.drew)
  clear HG HO HB HM HL
  generalize V.drew = V1 at *
  have m0 := cell_of_blk HM2.out 0
  simp at m0
  have hne : ∀ w, (binOp .neq 38 (.func (.func fn) #[] caps) .nilFunc).run Try.prog w = .ok (.bool true) w := fun _ => by rfl
  go_wp2_with fail
  have hP : MemP (w.heap.size + 1 + 1) V1 (gh0 (w.heap.size + 1 + 1) A c ans.length) (st0 ans) := by
    refine memP_new (by rw [hn]; exact HB2.out) ?_ hl0.out
    intro j hj
    obtain ⟨ad, e, hc⟩ := hans0.out j hj
    have hb : (ad.add j).block = ad.block := by unfold Addr.add; split <;> rfl
    have hlt := World.block_lt_of_cell? w _ hc
    refine ⟨ad, e, (HL2.out.cell hlt).trans hc, ?_⟩
    rw [hb] at hlt; omega
  have mine : ∀ k, k ≠ w.heap.size + 1 + 1 → ¬ (gh0 (w.heap.size + 1 + 1) A c ans.length).mine k := fun k hk h => hk (gh0_mine.1 h)
  have BG := Lib.hid (show BoxAt V1 (gh0 (w.heap.size + 1 + 1) A c ans.length) w.heap.size _ _ from ⟨HG2.out, mine _ (by omega)⟩)
  have BO := Lib.hid (show BoxAt V1 (gh0 (w.heap.size + 1 + 1) A c ans.length) (w.heap.size + 1) _ _ from ⟨HO2.out, mine _ (by omega)⟩)
  have BM := Lib.hid (show BoxAt V1 (gh0 (w.heap.size + 1 + 1) A c ans.length) (w.heap.size + 1 + 1 + 1) _ _ from ⟨HM2.out, mine _ (by omega)⟩)
  clear mine m0 HG2 HO2 HB2 HM2
  refine (hdo0.out _ V1 hP (by omega) HL2.out).mono ?_
  rintro e_ w_ ⟨g_, s_, st_, hc_⟩
  have hsz1 : w.heap.size ≤ V1.heap.size := HL2.out.size
  have hax : ∀ ad, g_.aA = some ad → 0 < g_.aN → ad.block < w.heap.size := by
    intro ad e h0
    rw [st_.aA] at e
    rw [st_.aN] at h0
    obtain ⟨ad', e', hc⟩ := hans0.out 0 h0
    have : ad = ad' := Option.some.inj (e.symm.trans e')
    subst this
    have hb : (ad.add 0).block = ad.block := by unfold Addr.add; split <;> rfl
    have hlt := World.block_lt_of_cell? w _ hc
    rw [hb] at hlt; exact hlt
  have hmn : ∀ k, k < w.heap.size → ¬ g_.mine k := by
    intro k hk hm
    rcases st_.mine k hm with h | h
    · have := gh0_mine.1 h; omega
    · omega
  replace BG := Lib.hid (BG.out.step st_)
  replace BO := Lib.hid (BO.out.step st_)
  replace BM := Lib.hid (BM.out.step st_)
  have hsame : ∀ k, k < w.heap.size → w_.heap[k]? = V1.heap[k]? := fun k hk => st_.same k (Nat.lt_of_lt_of_le hk hsz1) (fun h => by have := gh0_mine.1 h; omega)
  rcases hc_ with ⟨x, hx, rfl, hm⟩ | ⟨hx, rfl, hm, hgb⟩
  · rename_i hK1 _ hK2
    refine hK2 _ _ ?_
    clear hK2 hne hmf hdo0 hP
    have g0 := cell_of_blk BG.out.1 0
    have gf := frozen_of_blk BG.out.1 0
    simp at g0
    replace hsame := Lib.hid hsame
    replace hx := Lib.hid hx
    replace hax := Lib.hid hax
    replace hmn := Lib.hid hmn
    have hgb := hm.hb
    replace hn := Lib.hid hn
    replace hgb := Lib.hid hgb
    go_wp2_with fail
    have hm4 := Lib.hid (hm.setBox BG.out (fun ad e h0 => by have := hax.out ad e h0; omega) 0 (.int .i64 x))
    have BG4 := Lib.hid (BG.out.setSelf (.int .i64 x))
    have BO4 := Lib.hid (BO.out.setOther (k2 := w.heap.size) (by omega) 0 (.int .i64 x))
    have BM4 := Lib.hid (BM.out.setOther (k2 := w.heap.size) (by omega) 0 (.int .i64 x))
    have hk4 := Lib.hid (fun (k : Nat) (h : k < w.heap.size) => (heap_setBox w_ 0 (.int .i64 x) (show k ≠ w.heap.size by omega)).trans (hsame.out k h))
    have hz4 : Hid (V1.heap.size ≤ (w_.setCell ⟨w.heap.size, 0, none⟩ (.int .i64 x)).heap.size) := Lib.hid (by have := st_.size; simp [World.setCell]; exact this)
    have ho4 : Hid ((w_.setCell ⟨w.heap.size, 0, none⟩ (.int .i64 x)).os = V1.os) := Lib.hid st_.os
    have ht4 : Hid ((w_.setCell ⟨w.heap.size, 0, none⟩ (.int .i64 x)).tape = V1.tape) := Lib.hid st_.tape
    have hp4 : Hid ((w_.setCell ⟨w.heap.size, 0, none⟩ (.int .i64 x)).output = V1.output) := Lib.hid st_.output
    clear g0 gf hm BG BO BM hsame st_
    generalize w_.setCell ⟨w.heap.size, 0, none⟩ (.int .i64 x) = W4 at *
    have g0 := cell_of_blk BG4.out.1 0
    have gf := frozen_of_blk BG4.out.1 0
    have o0 := cell_of_blk BO4.out.1 0
    have o1 := cell_of_blk BO4.out.1 1
    have o2 := cell_of_blk BO4.out.1 2
    have o3 := cell_of_blk BO4.out.1 3
    have f0 := frozen_of_blk BO4.out.1 0
    have f1 := frozen_of_blk BO4.out.1 1
    have f2 := frozen_of_blk BO4.out.1 2
    have f3 := frozen_of_blk BO4.out.1 3
    simp at g0 o0 o1 o2 o3
    go_region
    rename_i hK
    have e0 := setCell_held W4 w.heap.size 0 _ _ (.int .i64 x) BG4.out.1 rfl
    have e1 := setCell_held W4 (w.heap.size + 1) 0 _ _ (.bool false) BO4.out.1 rfl
    have e2 := setCell_held W4 (w.heap.size + 1) 1 _ _ (.slice none 0 0) BO4.out.1 rfl
    have e3 := setCell_held W4 (w.heap.size + 1) 2 _ _ (.slice none 0 0) BO4.out.1 rfl
    have e4 := setCell_held W4 (w.heap.size + 1) 3 _ _ (.slice none 0 0) BO4.out.1 rfl
    rw [e0, e1, e2, e3, e4]
    clear e0 e1 e2 e3 e4 g0 gf o0 o1 o2 o3 f0 f1 f2 f3
    refine hK _ _ ?_
    clear hK
    go_wp2_with fail
    have hbl4 : Below W4.heap.size W4 W4.drew := (Below.refl _ _).drew
    refine leaves_cons (f := 24) (args := #[.pointer (some ⟨w.heap.size + 1 + 1 + 1, 0, none⟩), .pointer (some ⟨w.heap.size, 0, none⟩), .pointer (some ⟨w.heap.size + 1, 0, none⟩)]) (by simp) (by simp [go_sem]) ?_
    refine (play1_idle x (hm4.out.below hbl4) (Lib.hid (BM4.out.below hbl4)) (Lib.hid (BG4.out.below hbl4)) (Lib.hid (BO4.out.below hbl4)) (by omega) (by omega) (fun ad e h0 => by have := hax.out ad e h0; omega)).mono ?_
    rintro e u' w' ⟨rfl, rfl, l, hp⟩
    have hbl := play_below (W4 := W4.drew) HL2.out ho4.out ht4.out hp4.out hz4.out hk4.out hmn.out hp (Nat.le_refl _) (by omega)
    have g0 := cell_of_blk hp.got 0
    have o0 := cell_of_blk hp.out 0
    have o1 := cell_of_blk hp.out 1
    have o2 := cell_of_blk hp.out 2
    have o3 := cell_of_blk hp.out 3
    simp [outV] at g0 o0 o1 o2 o3
    refine ⟨.tuple #[.int .i64 x, .agg (outV true g_ s_ l)], ?_, HR.out _ _ ⟨g_, s_, l, hbl, hbl.size, hp.mem, hp.loc, .inl ⟨x, hx.out, rfl⟩⟩⟩
    simp [results, Try.results8, go_sem, g0, o0, o1, o2, o3, outV]
  · refine leaves_cons (f := 24) (args := #[.pointer (some ⟨w.heap.size + 1 + 1 + 1, 0, none⟩), .pointer (some ⟨w.heap.size, 0, none⟩), .pointer (some ⟨w.heap.size + 1, 0, none⟩)]) (by simp) (by simp [go_sem]) ?_
    refine (play1_stop 0 hgb hm BM BG BO (by omega) (by omega) (fun ad e h0 => by have := hax ad e h0; omega) (by omega) (fun ad e h0 => by have := hax ad e h0; omega)).mono ?_
    rintro e u' w' ⟨rfl, rfl, l, hp⟩
    have hbl := play_below HL2.out st_.os st_.tape st_.output st_.size hsame hmn hp (Nat.le_refl _) (by omega)
    have g0 := cell_of_blk hp.got 0
    have o0 := cell_of_blk hp.out 0
    have o1 := cell_of_blk hp.out 1
    have o2 := cell_of_blk hp.out 2
    have o3 := cell_of_blk hp.out 3
    simp [outV] at g0 o0 o1 o2 o3
    refine ⟨.tuple #[.int .i64 0, .agg (outV false g_ s_ l)], ?_, HR.out _ _ ⟨g_, s_, l, hbl, hbl.size, hp.mem, hp.loc, .inr ⟨hx, rfl⟩⟩⟩
    simp [results, Try.results8, go_sem, g0, o0, o1, o2, o3, outV]
end Go.Proofs.Ytfaihahpnjgejaa
namespace Go.Proofs.Ytfaihahpnjgejaa
open Go.RowKit

set_option maxRecDepth 100000 in
set_option maxHeartbeats 4000000 in
theorem costs1_calls {b : Nat} {W : World} {g : Gh} {s : St} (r : Reg) (t v : Int) (rb tb vb : Nat) (hr : r.In4) (hm : MemP b W g s) (hc : ∀ i, W.cell? ⟨rb, i, none⟩ = r.cs[i]?)
    (ht : W.cell? ⟨tb, 0, none⟩ = some (.int .i64 t)) (hv : W.cell? ⟨vb, 0, none⟩ = some (.int .i64 v)) :
    Calls Try.prog 9 #[.pointer (some ⟨b, 0, none⟩), .pointer (some ⟨rb, 0, none⟩), .pointer (some ⟨tb, 0, none⟩), .pointer (some ⟨vb, 0, none⟩)] W
      (MPost b (Value.int .i64) W g (OpM.bind (regW r t v) (fun _ => OpM.ret 0) s)) := by
  refine Calls.of_post fun R HR => ?_
  have r0 := hc 0
  have r1 := hc 1
  have r2 := hc 2
  have r3 := hc 3
  have r4 := hc 4
  have r5 := hc 5
  have r6 := hc 6
  simp [Reg.cs] at r0 r1 r2 r3 r4 r5 r6
  clear hc
  go_enter Try.func9, Try.ntmps9
  go_wp2_with fail
  refine (regW_calls r t v hr hm (by first | exact Below.refl _ _ | exact (Below.refl _ _).drew)).mono ?_
  rintro e_ w_ ⟨g_, s_, st_, hc_⟩
  refine Or.elim hc_ (fun hd_ => ?_) (fun ⟨hx_, he_, hm_⟩ => by subst he_; first | exact ⟨rfl, MPost.halt hx_ st_ hm_ HR⟩ | exact MPost.halt hx_ st_ hm_ HR)
  clear hc_
  obtain ⟨x_, hx_, rfl, hm_⟩ := hd_
  replace HR := MPost.seq hx_ st_ HR
  replace hm := hm_
  clear hx_ st_
  clear r0 r1 r2 r3 r4 r5 r6 ht hv
  go_wp2_with fail
  exact MPost.done (enc := Value.int .i64) (x := 0) hm HR

set_option maxRecDepth 100000 in
set_option maxHeartbeats 4000000 in
theorem costs2_calls {b : Nat} {W : World} {g : Gh} {s : St} (r : Reg) (t : Int) (rb tb : Nat) (hr : r.In4) (hm : MemP b W g s) (hc : ∀ i, W.cell? ⟨rb, i, none⟩ = r.cs[i]?)
    (ht : W.cell? ⟨tb, 0, none⟩ = some (.int .i64 t)) :
    Calls Try.prog 11 #[.pointer (some ⟨b, 0, none⟩), .pointer (some ⟨rb, 0, none⟩), .pointer (some ⟨tb, 0, none⟩)] W
      (MPost b (Value.int .i64) W g (OpM.bind (regR r t) OpM.ret s)) := by
  refine Calls.of_post fun R HR => ?_
  have r0 := hc 0
  have r1 := hc 1
  have r2 := hc 2
  have r3 := hc 3
  have r4 := hc 4
  have r5 := hc 5
  have r6 := hc 6
  simp [Reg.cs] at r0 r1 r2 r3 r4 r5 r6
  clear hc
  go_enter Try.func11, Try.ntmps11
  go_wp2_with fail
  refine (regR_calls r t hr hm (by first | exact Below.refl _ _ | exact (Below.refl _ _).drew)).mono ?_
  rintro e_ w_ ⟨g_, s_, st_, hc_⟩
  refine Or.elim hc_ (fun hd_ => ?_) (fun ⟨hx_, he_, hm_⟩ => by subst he_; first | exact ⟨rfl, MPost.halt hx_ st_ hm_ HR⟩ | exact MPost.halt hx_ st_ hm_ HR)
  clear hc_
  obtain ⟨x_, hx_, rfl, hm_⟩ := hd_
  replace HR := MPost.seq hx_ st_ HR
  replace hm := hm_
  clear hx_ st_
  clear r0 r1 r2 r3 r4 r5 r6 ht
  go_wp2_with fail
  exact MPost.done (enc := Value.int .i64) hm HR

/-- the register of the test that all is alive: one cell, at 4 -/
def cell4 : Reg := { kind := 1, base := 4, loc := 0, n := 0, writer := 0, reader := 0, top := 0 }
set_option maxRecDepth 100000 in
theorem alive1_calls {b : Nat} {W : World} {g : Gh} {s : St} (hm : MemP b W g s) :
    Calls Try.prog 18 #[.pointer (some ⟨b, 0, none⟩)] W (MPost b (Value.int .i64) W g (OpM.bind (regR cell4 0) OpM.ret s)) := by
  refine Calls.of_post fun R HR => ?_
  go_enter Try.func18, Try.ntmps18
  go_wp2_with fail
  refine (regR_calls cell4 0 ⟨by decide, by decide, by decide, by decide⟩ hm (by first | exact Below.refl _ _ | exact (Below.refl _ _).drew)).mono ?_
  rintro e_ w_ ⟨g_, s_, st_, hc_⟩
  refine Or.elim hc_ (fun hd_ => ?_) (fun ⟨hx_, he_, hm_⟩ => by subst he_; first | exact ⟨rfl, MPost.halt hx_ st_ hm_ HR⟩ | exact MPost.halt hx_ st_ hm_ HR)
  clear hc_
  obtain ⟨x_, hx_, rfl, hm_⟩ := hd_
  replace HR := MPost.seq hx_ st_ HR
  replace hm := hm_
  clear hx_ st_
  go_wp2_with fail
  exact MPost.done (enc := Value.int .i64) hm HR
end Go.Proofs.Ytfaihahpnjgejaa
