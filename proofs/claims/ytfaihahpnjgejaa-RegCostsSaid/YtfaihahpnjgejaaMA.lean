/- What an operation on a tape sees (tape.Mem) and the registers' functions, each by a contract: whatever the world, as the tape has it. -/
import Derived.WalkKit
import Derived.WalkSpells
import Derived.WalkLawsBesides
import Derived.BigQuiet
import Derived.Deep.QuietTactic
import Derived.Deep.RegionLaw
import Derived.Maps.AppendAt
import Derived.Lib.Hide
import Derived.Deep.RegionHeld2
import Derived.RangeFuncLeaves
import Derived.RangeFuncRecord
import Derived.TacticsInMore
import Derived.OwnWalkIn
import Derived.LoopNIn
import Derived.LoopIn
import Derived.RangeFuncCalls
import Derived.RangeFuncMany
import Derived.BigFrameIn
import Derived.Test.YtfaihahpnjgejaaProg
import Derived.Test.YtfaihahpnjgejaaWZeros
import Derived.Test.YtfaihahpnjgejaaWLast
set_option linter.unusedVariables false
set_option linter.unusedSimpArgs false
namespace Go.Proofs.Ytfaihahpnjgejaa
open Go.RowKit

structure Acc where
  kind : Int
  cell : Int
  val : Int
def Acc.cells (a : Acc) : List Value := [.int .i64 a.kind, .int .i64 a.cell, .int .i64 a.val]
structure Nt where
  kind : Int
  pos : Int
def Nt.cells (a : Nt) : List Value := [.int .i64 a.kind, .int .i64 a.pos]
/-- what an operation sees -/
structure St where
  ans : List Int
  loc : List Int
  acc : List Acc
  nts : List Nt
/-- where it lies -/
structure Gh where
  b : Nat
  aA : Option Addr
  aC : Nat
  lA : Option Addr
  lC : Nat
  vA : Option Addr
  vC : Nat
  nA : Option Addr
  nC : Nat
  aN : Nat
def blk? (A : Option Addr) : Option Nat := A.map (·.block)
def Gh.mine (g : Gh) (k : Nat) : Prop := k = g.b ∨ blk? g.lA = some k ∨ blk? g.vA = some k ∨ blk? g.nA = some k

structure MemAt (st : Int) (w : World) (g : Gh) (s : St) : Prop where
  blk : w.heap[g.b]? = some (.cells #[.int .i64 st, .slice g.aA s.ans.length g.aC, .slice g.lA s.loc.length g.lC, .slice g.vA s.acc.length g.vC, .slice g.nA s.nts.length g.nC] 48 (0, 0))
  ansr : ∀ j, j < s.ans.length → ∃ ad, g.aA = some ad ∧ w.cell? (ad.add j) = some (.int .i64 (s.ans.getD j 0)) ∧ ¬ g.mine ad.block
  lown : w.ownsRow 0 3 1 (.slice g.lA s.loc.length g.lC) s.loc.length (s.loc.map (Value.int .i64))
  vown : w.ownsRow 0 41 3 (.slice g.vA s.acc.length g.vC) s.acc.length (s.acc.flatMap Acc.cells)
  nown : w.ownsRow 0 100 2 (.slice g.nA s.nts.length g.nC) s.nts.length (s.nts.flatMap Nt.cells)
  lb : blk? g.lA ≠ some g.b
  vb : blk? g.vA ≠ some g.b
  nb : blk? g.nA ≠ some g.b
  vl : ∀ k, blk? g.vA = some k → blk? g.lA ≠ some k
  nl : ∀ k, blk? g.nA = some k → blk? g.lA ≠ some k
  nv : ∀ k, blk? g.nA = some k → blk? g.vA ≠ some k
  sa : s.ans.length ≤ 1073741824
  sv : s.acc.length ≤ s.ans.length + 1
  sl : s.loc.length ≤ 32768
  sn : s.nts.length ≤ 1073741824
  al : s.ans.length = g.aN

/-- playing -/
structure MemP (b : Nat) (w : World) (g : Gh) (s : St) : Prop where
  hb : g.b = b
  at_ : MemAt 1 w g s
  le : s.acc.length ≤ s.ans.length
/-- from one place and world to another: only what was the operation's own has turned -/
structure Step (w : World) (g : Gh) (w' : World) (g' : Gh) : Prop where
  os : w'.os = w.os
  tape : w'.tape = w.tape
  output : w'.output = w.output
  size : w.heap.size ≤ w'.heap.size
  same : ∀ k, k < w.heap.size → ¬ g.mine k → w'.heap[k]? = w.heap[k]?
  mine : ∀ k, g'.mine k → g.mine k ∨ w.heap.size ≤ k
  b : g'.b = g.b
  aA : g'.aA = g.aA
  aN : g'.aN = g.aN

theorem Step.refl (w : World) (g : Gh) : Step w g w g := ⟨rfl, rfl, rfl, Nat.le_refl _, fun _ _ _ => rfl, fun _ h => .inl h, rfl, rfl, rfl⟩
theorem Step.trans {w w' w'' : World} {g g' g'' : Gh} (h : Step w g w' g') (k : Step w' g' w'' g'') : Step w g w'' g'' :=
  ⟨k.os.trans h.os, k.tape.trans h.tape, k.output.trans h.output, Nat.le_trans h.size k.size,
   fun i hi hn => (k.same i (Nat.lt_of_lt_of_le hi h.size) (fun hm => (h.mine i hm).elim hn (fun hh => by omega))).trans (h.same i hi hn),
   fun i hi => (k.mine i hi).elim (h.mine i) (fun hh => .inr (Nat.le_trans h.size hh)), k.b.trans h.b, k.aA.trans h.aA, k.aN.trans h.aN⟩
theorem Step.of_below {w w' : World} (g : Gh) (h : Below w.heap.size w w') : Step w g w' g :=
  ⟨h.os, h.tape, h.output, h.size, fun k hk _ => h.block k hk, fun _ h => .inl h, rfl, rfl, rfl⟩

theorem heap_lt {w : World} {k : Nat} {o : Obj} (h : w.heap[k]? = some o) : k < w.heap.size := (Array.getElem?_eq_some_iff.1 h).1
theorem ownsRow_lt {w : World} {base e size n c m xs} {A : Option Addr} (h : w.ownsRow base e size (.slice A n c) m xs) : ∀ k, blk? A = some k → k < w.heap.size := by
  intro k hk
  refine (h.lt k ?_).2
  cases A with
  | none => simp [blk?] at hk
  | some a => simpa [blk?, Value.ownBlock] using hk
theorem ownBlock_slice (A : Option Addr) (n c : Nat) : (Value.slice A n c).ownBlock = blk? A := by cases A <;> rfl

theorem MemAt.mine_lt {st w g s} (h : MemAt st w g s) : ∀ k, g.mine k → k < w.heap.size := by
  intro k hk
  rcases hk with rfl | hk | hk | hk
  · exact heap_lt h.blk
  · exact ownsRow_lt h.lown k hk
  · exact ownsRow_lt h.vown k hk
  · exact ownsRow_lt h.nown k hk

theorem ownsRow_of_block {w w' : World} {base e size n m c xs} {A : Option Addr} (h : w.ownsRow base e size (.slice A n c) m xs) (hs : ∀ k, blk? A = some k → w'.heap[k]? = w.heap[k]?) : w'.ownsRow base e size (.slice A n c) m xs := by
  refine ⟨h.1, ?_⟩
  rcases h.2 with hn | ⟨g, cap, cur, hv, hb, hg, rest⟩
  · exact .inl hn
  · refine .inr ⟨g, cap, cur, hv, hb, ?_, rest⟩
    rw [hs g ?_]; exact hg
    simp at hv; rw [hv.1]; rfl

/-- whatever keeps the operation's own blocks and the answers' block -/
theorem MemAt.kept {st w w' g s} (h : MemAt st w g s) (hs : ∀ k, g.mine k → w'.heap[k]? = w.heap[k]?) (ha : ∀ ad, g.aA = some ad → 0 < s.ans.length → w'.heap[ad.block]? = w.heap[ad.block]?) : MemAt st w' g s :=
  { h with
    blk := by rw [hs _ (.inl rfl)]; exact h.blk
    ansr := fun j hj => by
      obtain ⟨ad, e, hc, hm⟩ := h.ansr j hj
      refine ⟨ad, e, ?_, hm⟩
      have hb : (ad.add j).block = ad.block := by unfold Addr.add; split <;> rfl
      rw [World.cell?_of_block (w := w)]; exact hc
      rw [hb]; exact ha ad e (by omega)
    lown := ownsRow_of_block h.lown fun k hk => hs k (.inr (.inl hk))
    vown := ownsRow_of_block h.vown fun k hk => hs k (.inr (.inr (.inl hk)))
    nown := ownsRow_of_block h.nown fun k hk => hs k (.inr (.inr (.inr hk))) }
theorem MemAt.ans_lt {st w g s} (h : MemAt st w g s) {ad} (e : g.aA = some ad) (hp : 0 < s.ans.length) : ad.block < w.heap.size := by
  obtain ⟨ad', e', hc, _⟩ := h.ansr 0 hp
  have : ad' = ad := by rw [e] at e'; exact (Option.some.inj e').symm
  subst this
  have hb : (ad'.add 0).block = ad'.block := by unfold Addr.add; split <;> rfl
  have := World.block_lt_of_cell? w _ hc
  rw [hb] at this; exact this
theorem MemAt.below {st w w' g s} (h : MemAt st w g s) (hb : Below w.heap.size w w') : MemAt st w' g s :=
  h.kept (fun k hk => hb.block k (h.mine_lt k hk)) (fun ad e hp => hb.block _ (h.ans_lt e hp))
theorem cell_of_blk {w : World} {b : Nat} {cs : Array Value} {T : Nat} {fz : Nat × Nat} (h : w.heap[b]? = some (.cells cs T fz)) (i : Nat) : w.cell? ⟨b, i, none⟩ = cs[i]? := by simp [World.cell?, h]
theorem frozen_of_blk {w : World} {b : Nat} {cs : Array Value} {T : Nat} (h : w.heap[b]? = some (.cells cs T (0, 0))) (i : Nat) : w.frozen? ⟨b, i, none⟩ = false := by simp [World.frozen?, h]

theorem infoAcc : (Try.prog.info? 41).map (fun i => (i.zero, i.size, i.bytes)) = some (some (.agg #[.int .i64 0, .int .i64 0, .int .i64 0]), 3, 24) := by kernel_rfl
theorem infoNt : (Try.prog.info? 100).map (fun i => (i.zero, i.size, i.bytes)) = some (some (.agg #[.int .i64 0, .int .i64 0]), 2, 16) := by kernel_rfl


/-- one element laid behind a row of the call's own, as one step of a region -/
theorem step_append_one {P : Program} {ops : Array Oper} {o : Oper} {a : Act} {Q : Exit → Act → World → Prop} {K : Act → World → Prop} {E : Prop} {W : World}
    (hgd : o.guard = none) (s x : Operand) (t e : TypeId) (z : Value) (size bytes : Nat) (ho : o.op = .call { callee := .builtin .append, args := #[s, x], argTypes := #[t, t] })
    (ht : P.underlying t = some (.slice e)) (hinfo : (P.info? e).map (fun i => (i.zero, i.size, i.bytes)) = some (some z, size, bytes)) (hz : z.cells.size = size) (hs0 : 0 < size) (hb0 : 0 < bytes)
    (A : Option Addr) (n c : Nat) (xs ys : List Value) (bx : Nat) (hs : a.eval s = .slice A n c) (hx : a.eval x = .slice (some ⟨bx, 0, none⟩) 1 1)
    (hy : W.heap[bx]? = some (.cells ys.toArray e (0, 0))) (hys : ys.length = size) (h1 : ∀ u ∈ ys, u.oneCell' = true)
    (HO : W.ownsRow 0 e size (.slice A n c) n xs) (hl : (n + 1) * bytes ≤ 140737488355328)
    (h : ∀ A' c' w1, w1.ownsRow 0 e size (.slice A' (n + 1) c') (n + 1) (xs ++ ys) → W.grownBy w1 (blk? A) → (blk? A' = blk? A ∨ blk? A' = some W.heap.size) → K (a.put o.dst (.slice A' (n + 1) c')) w1) :
    if Region.wanted o (yielded ops a.tmps) = true then Oper.wp P o a W K Q else E := by
  have hw : Region.wanted o (yielded ops a.tmps) = true := by simp [Region.wanted, hgd]
  rw [if_pos hw]
  obtain ⟨i0, hi, hzz⟩ := Option.map_eq_some_iff.1 hinfo
  simp only [Prod.mk.injEq] at hzz
  obtain ⟨hz0, hz1, hz2⟩ := hzz
  have hlen : n + 1 ≤ 140737488355328 := Nat.le_trans (Nat.le_mul_of_pos_right _ hb0) hl
  have hnews : ∀ j u, ys[j]? = some u → W.cell? ((⟨bx, 0, none⟩ : Addr).add j) = some u := by
    intro j u hu
    have hadd : (⟨bx, 0, none⟩ : Addr).add j = ⟨bx, j, none⟩ := by unfold Addr.add; split <;> simp_all
    rw [hadd, World.cell?, hy]; simpa using hu
  obtain ⟨v1, w1, hr, hown, hg, hnil, hat⟩ := run_append_own_at (P := P) W 0 t o.type e i0 z size bytes ht hi hz0 hz1 hz2 hz hs0 (.slice A n c) n xs HO ⟨bx, 0, none⟩ 1 1 ys (by rw [hys]; simp) hnews h1 (by simp only [maxLen]; omega) hl (by simp)
  obtain ⟨A', c', rfl⟩ : ∃ A' c', v1 = .slice A' (n + 1) c' := by
    rcases hown.2 with ⟨rfl, hn⟩ | ⟨g, cap, cur, rfl, _⟩
    · omega
    · exact ⟨_, _, rfl⟩
  unfold Oper.wp execOp
  simp only [ho, resolve, invoke, builtin, Sem.run_bind, Sem.run_pure, Result.andThen_ok, List.map_toArray, List.map_cons, List.map_nil, hs, hx, hr]
  rw [ownBlock_slice, ownBlock_slice] at hat
  rw [ownBlock_slice] at hg
  exact h A' c' w1 hown hg hat

theorem own_below {w W : World} {e size n m c xs} {A : Option Addr} (h : w.ownsRow 0 e size (.slice A n c) m xs) (hb : Below w.heap.size w W) : W.ownsRow 0 e size (.slice A n c) m xs :=
  ownsRow_of_block h fun k hk => hb.block k (ownsRow_lt h k hk)
theorem heap_two (w : World) (o o2 : Obj) : ((w.alloc o).alloc o2).drew.heap[w.heap.size + 1]? = some o2 := by
  have h := heap_alloc_new (w.alloc o) o2
  rw [show (w.alloc o).heap.size = w.heap.size + 1 from by simp] at h
  exact h
def stopOf (b : Nat) : PanicEntry := { v := .iface 51 (.agg #[.pointer (some ⟨b, 0, none⟩)]), recovered := false }
def MPost {α : Type} (b : Nat) (enc : α → Value) (w : World) (g : Gh) (r : Option α × St) (e : Ending) (w' : World) : Prop :=
  ∃ g' s', Step w g w' g' ∧ ((∃ x, r = (some x, s') ∧ e = .returned (enc x) ∧ MemP b w' g' s') ∨ (r = (none, s') ∧ e = .panicked [stopOf b] ∧ MemAt 2 w' g' s' ∧ g'.b = b))

def askS (a : Acc) (s : St) : Option Int × St := (s.ans[s.acc.length]?, { s with acc := s.acc ++ [a] })

theorem MemAt.accs {st w g s} (h : MemAt st w g s) (a : Acc) {W w1 : World} (hW : Below w.heap.size w W) {A : Option Addr} {c : Nat}
    (hown : w1.ownsRow 0 41 3 (.slice A (s.acc.length + 1) c) (s.acc.length + 1) (s.acc.flatMap Acc.cells ++ a.cells)) (hg : W.grownBy w1 (blk? g.vA)) (hat : blk? A = blk? g.vA ∨ blk? A = some W.heap.size)
    (hl : s.acc.length ≤ s.ans.length) :
    MemAt st (w1.setCell ⟨g.b, 3, none⟩ (.slice A (s.acc.length + 1) c)) { g with vA := A, vC := c } { s with acc := s.acc ++ [a] } ∧
    Step w g (w1.setCell ⟨g.b, 3, none⟩ (.slice A (s.acc.length + 1) c)) { g with vA := A, vC := c } := by
  have hbW : ∀ k, g.mine k → k < W.heap.size := fun k hk => Nat.lt_of_lt_of_le (h.mine_lt k hk) hW.size
  have h1 : ∀ k, k < w.heap.size → blk? g.vA ≠ some k → w1.heap[k]? = w.heap[k]? := fun k hk hn => (hg.block k (Nat.lt_of_lt_of_le hk hW.size) (fun e => hn e.symm)).trans (hW.block k hk)
  have hset : ∀ k, k ≠ g.b → (w1.setCell ⟨g.b, 3, none⟩ (.slice A (s.acc.length + 1) c)).heap[k]? = w1.heap[k]? := fun k hk => Below.heap_setCell _ _ _ _ hk
  have hA : ∀ k, blk? A = some k → k < w1.heap.size := ownsRow_lt hown
  have hAb : blk? A ≠ some g.b := by
    rcases hat with e | e
    · rw [e]; exact h.vb
    · rw [e]; intro hh; have := hbW g.b (.inl rfl); simp at hh; omega
  have keep : ∀ k, k < w.heap.size → k ≠ g.b → blk? g.vA ≠ some k → (w1.setCell ⟨g.b, 3, none⟩ (.slice A (s.acc.length + 1) c)).heap[k]? = w.heap[k]? := fun k hk hb hv => (hset k hb).trans (h1 k hk hv)
  refine ⟨{ blk := ?_, ansr := ?_, lown := ?_, vown := ?_, nown := ?_, lb := h.lb, vb := hAb, nb := h.nb, vl := ?_, nl := h.nl, nv := ?_, sa := h.sa, sv := by simp; omega, sl := h.sl, sn := h.sn, al := h.al }, ?_⟩
  · have := (h1 g.b (h.mine_lt _ (.inl rfl)) h.vb).trans h.blk
    simp [World.setCell, Array.getElem?_modify, this]
  · intro j hj
    obtain ⟨ad, e, hc, hm⟩ := h.ansr j hj
    have hadlt := h.ans_lt e (Nat.lt_of_le_of_lt (Nat.zero_le _) hj)
    have hb : (ad.add j).block = ad.block := by unfold Addr.add; split <;> rfl
    refine ⟨ad, e, ?_, ?_⟩
    · rw [World.cell?_of_block (w := w)]; exact hc
      rw [hb]; exact keep _ hadlt (fun e => hm (.inl e)) (fun e => hm (.inr (.inr (.inl e))))
    · intro hm'
      rcases hm' with e' | e' | e' | e'
      · exact hm (.inl e')
      · exact hm (.inr (.inl e'))
      · simp only at e'
        rcases hat with e2 | e2
        · exact hm (.inr (.inr (.inl (e2 ▸ e'))))
        · rw [e2] at e'; simp at e'; have := hW.size; omega
      · exact hm (.inr (.inr (.inr e')))
  · exact ownsRow_of_block h.lown fun k hk => keep k (ownsRow_lt h.lown k hk) (fun e => h.lb (e ▸ hk)) (fun e => h.vl k e hk)
  · simp only [List.length_append, List.length_cons, List.length_nil, List.flatMap_append, List.flatMap_cons, List.flatMap_nil, List.append_nil]
    exact ownsRow_of_block hown fun k hk => hset k (fun e => hAb (e ▸ hk))
  · exact ownsRow_of_block h.nown fun k hk => keep k (ownsRow_lt h.nown k hk) (fun e => h.nb (e ▸ hk)) (fun e => h.nv k hk e)
  · intro k hk
    rcases hat with e | e
    · exact h.vl k (e ▸ hk)
    · intro e2
      have := ownsRow_lt h.lown k e2
      rw [e] at hk; simp at hk; have := hW.size; omega
  · intro k hk e2
    simp only at e2
    rcases hat with e | e
    · exact h.nv k hk (e ▸ e2)
    · have := ownsRow_lt h.nown k hk
      rw [e] at e2; simp at e2; have := hW.size; omega
  · refine ⟨by show w1.os = _; rw [hg.os, hW.os], by show w1.tape = _; rw [hg.tape, hW.tape], by show w1.output = _; rw [hg.output, hW.output], ?_, ?_, ?_, rfl, rfl, rfl⟩
    · have := hW.size; have := hg.size; simp [World.setCell]; omega
    · intro k hk hm
      exact keep k hk (fun e => hm (.inl e)) (fun e => hm (.inr (.inr (.inl e))))
    · intro k hk
      rcases hk with e | e | e | e
      · exact .inl (.inl e)
      · exact .inl (.inr (.inl e))
      · simp only at e
        rcases hat with e2 | e2
        · exact .inl (.inr (.inr (.inl (e2 ▸ e))))
        · rw [e2] at e; simp at e; have := hW.size; exact .inr (by omega)
      · exact .inl (.inr (.inr (.inr e)))

theorem MemAt.past {st w W w1 g s} (h : MemAt st w g s) (hW : Below w.heap.size w W) {row} (hg : W.grownBy w1 row) (hr : row ≠ some g.b) :
    w1.heap[g.b]? = w.heap[g.b]? :=
  (hg.block g.b (Nat.lt_of_lt_of_le (h.mine_lt _ (.inl rfl)) hW.size) (fun e => hr e.symm)).trans (hW.block _ (h.mine_lt _ (.inl rfl)))

theorem MemAt.setState {st w g s} (h : MemAt st w g s) (st' : Int) : MemAt st' (w.setCell ⟨g.b, 0, none⟩ (.int .i64 st')) g s ∧ Step w g (w.setCell ⟨g.b, 0, none⟩ (.int .i64 st')) g := by
  have keep : ∀ k, k ≠ g.b → (w.setCell ⟨g.b, 0, none⟩ (.int .i64 st')).heap[k]? = w.heap[k]? := fun k hk => Below.heap_setCell _ _ _ _ hk
  refine ⟨{ h with blk := ?_, ansr := ?_, lown := ?_, vown := ?_, nown := ?_ }, ⟨rfl, rfl, rfl, by simp [World.setCell], fun k hk hm => keep k (fun e => hm (.inl e)), fun k hk => .inl hk, rfl, rfl, rfl⟩⟩
  · have := h.blk
    simp [World.setCell, Array.getElem?_modify, this]
  · intro j hj
    obtain ⟨ad, e, hc, hm⟩ := h.ansr j hj
    have hb : (ad.add j).block = ad.block := by unfold Addr.add; split <;> rfl
    refine ⟨ad, e, ?_, hm⟩
    rw [World.cell?_of_block (w := w)]; exact hc
    rw [hb]; exact keep _ (fun e => hm (.inl e))
  · exact ownsRow_of_block h.lown fun k hk => keep k (fun e => h.lb (e ▸ hk))
  · exact ownsRow_of_block h.vown fun k hk => keep k (fun e => h.vb (e ▸ hk))
  · exact ownsRow_of_block h.nown fun k hk => keep k (fun e => h.nb (e ▸ hk))

theorem MemP.below {b w w' g s} (h : MemP b w g s) (hb : Below w.heap.size w w') : MemP b w' g s := ⟨h.hb, h.at_.below hb, h.le⟩
theorem MemP.blw {b w W g s} (_ : MemP b w g s) (h : Below w.heap.size w W) : Below w.heap.size w W := h
/-- a block that lies beside -/
def BoxAt (w : World) (g : Gh) (k : Nat) (cs : Array Value) (T : Nat) : Prop := w.heap[k]? = some (.cells cs T (0, 0)) ∧ ¬ g.mine k
theorem BoxAt.step {w w' g g' k cs T} (h : BoxAt w g k cs T) (hs : Step w g w' g') : BoxAt w' g' k cs T :=
  ⟨(hs.same k (heap_lt h.1) h.2).trans h.1, fun hm => (hs.mine k hm).elim h.2 (fun hh => by have := heap_lt h.1; omega)⟩
theorem BoxAt.below {w w' g k cs T} (h : BoxAt w g k cs T) (hb : Below w.heap.size w w') : BoxAt w' g k cs T := ⟨(hb.block k (heap_lt h.1)).trans h.1, h.2⟩
theorem MemAt.box {st w g s} (h : MemAt st w g s) (cs : Array Value) (T : Nat) : MemAt st (w.alloc (.cells cs T)) g s ∧ BoxAt (w.alloc (.cells cs T)) g w.heap.size cs T :=
  ⟨h.below ((Below.refl _ _).alloc (Nat.le_refl _) _), heap_alloc_new w _, fun hm => Nat.lt_irrefl _ (h.mine_lt _ hm)⟩
theorem MemP.box {b w g s} (h : MemP b w g s) (cs : Array Value) (T : Nat) : MemP b (w.alloc (.cells cs T)) g s ∧ BoxAt (w.alloc (.cells cs T)) g w.heap.size cs T :=
  ⟨⟨h.hb, (h.at_.box cs T).1, h.le⟩, (h.at_.box cs T).2⟩
theorem Step.of_alloc (w : World) (g : Gh) (o : Obj) : Step w g (w.alloc o) g := Step.of_below g ((Below.refl _ _).alloc (Nat.le_refl _) _)

theorem frame_lit (t : Array Value) (n : Nat) (h : t.size = n) : t = ((List.range n).map (fun i => t.getD i undef)).toArray := by
  subst h
  apply Array.ext
  · simp
  · intro i h1 h2
    simp [h1]

theorem infoInt : (Try.prog.info? 3).map (fun i => (i.zero, i.size, i.bytes)) = some (some (.int .i64 0), 1, 8) := by kernel_rfl
end Go.Proofs.Ytfaihahpnjgejaa
namespace Go.Proofs.Ytfaihahpnjgejaa
open Go.RowKit

theorem acc_oneCell (a : Acc) : ∀ u ∈ a.cells, u.oneCell' = true := by
  intro u hu; simp [Acc.cells] at hu; rcases hu with rfl | rfl | rfl <;> rfl

set_option maxHeartbeats 1000000 in
set_option maxRecDepth 100000 in
theorem ask_calls0 {b : Nat} {w : World} {g : Gh} {s : St} (a : Acc) (hP : MemP b w g s) :
    Calls Try.prog 53 #[.pointer (some ⟨b, 0, none⟩), .agg #[.int .i64 a.kind, .int .i64 a.cell, .int .i64 a.val]] w (MPost b (Value.int .i64) w g (askS a s)) := by
  obtain rfl := hP.hb
  have hm := hP.at_
  have hl := hP.le
  clear hP
  have c0 := cell_of_blk hm.blk 0
  have c3 := cell_of_blk hm.blk 3
  simp at c0 c3
  have hb : g.b < w.heap.size := hm.mine_lt _ (.inl rfl)
  have sa := hm.sa
  have HM : Hid (MemAt 1 w g s) := hm
  clear hm
  go_enter Try.func53, Try.ntmps53
  go_wp2
  go_region_law ((refine step_append_one rfl (.tmp 32) (.tmp 34) 30 41 _ 3 24 rfl Try.underlying30 infoAcc rfl (by omega) (by omega) g.vA s.acc.length g.vC (s.acc.flatMap Acc.cells) a.cells (w.heap.size + 1) (by simp [Act.eval, Act.put]) (by simp [Act.eval, Act.put]) (heap_two _ _ _) rfl (acc_oneCell a) (own_below HM.out.vown ((((Below.refl _ _).alloc (Nat.le_refl _) _).alloc (by simp) _).drew)) (by omega) ?_; intro A' c' w1 ho hg hat; have q1 := (HM.out.past ((((Below.refl _ _).alloc (Nat.le_refl _) _).alloc (by simp) _).drew) hg HM.out.vb).trans HM.out.blk; have q3 := cell_of_blk q1 3; have qf := frozen_of_blk q1 3; simp at q3; clear q1))
  all_goals
    have HN := Lib.hid (HM.out.accs a ((((Below.refl _ _).alloc (Nat.le_refl _) _).alloc (by simp) _).drew) ho hg hat hl)
    clear ho hg hat q3 qf
    revert HN
    generalize w1.setCell ⟨g.b, 3, none⟩ (.slice A' (s.acc.length + 1) c') = w2
    intro HN
    have d1 := cell_of_blk HN.out.1.blk 0
    have d2 := cell_of_blk HN.out.1.blk 1
    have d3 := frozen_of_blk HN.out.1.blk 0
    simp at d1 d2
    by_cases hlt : s.acc.length < s.ans.length
    · obtain ⟨ad, had, hcell, _⟩ := HN.out.1.ansr s.acc.length hlt
      simp only at had
      rw [had] at d2
      simp at hcell
      have hn : ¬ ((s.acc.length : Int) ≥ (s.ans.length : Int)) := by omega
      go_wp2
      all_goals
        go_ret
        exact ⟨_, _, HN.out.2, .inl ⟨s.ans[s.acc.length], by simp [askS, hlt], rfl, rfl, HN.out.1, by show (s.acc ++ [a]).length ≤ s.ans.length; simp; omega⟩⟩
    · have hn : (s.acc.length : Int) ≥ (s.ans.length : Int) := by omega
      go_wp2
      all_goals
        exact ⟨rfl, _, _, HN.out.2.trans (HN.out.1.setState 2).2, .inr ⟨by simp [askS, hlt], rfl, (HN.out.1.setState 2).1, rfl⟩⟩
end Go.Proofs.Ytfaihahpnjgejaa
namespace Go.Proofs.Ytfaihahpnjgejaa
open Go.RowKit

/-- an operation, as a function of the answers that it gets; none: it has stopped -/
def OpM (α : Type) := St → Option α × St
def OpM.bind {α β : Type} (m : OpM α) (f : α → OpM β) : OpM β := fun s => match m s with | (some a, s') => f a s' | (none, s') => (none, s')
def OpM.ret {α : Type} (a : α) : OpM α := fun s => (some a, s)
theorem OpM.bind_some {α β : Type} {m : OpM α} {f : α → OpM β} {s s' : St} {a : α} (h : m s = (some a, s')) : OpM.bind m f s = f a s' := by unfold OpM.bind; rw [h]
theorem OpM.bind_none {α β : Type} {m : OpM α} {f : α → OpM β} {s s' : St} (h : m s = (none, s')) : OpM.bind m f s = (none, s') := by unfold OpM.bind; rw [h]
theorem MPost.seq {b : Nat} {α β : Type} {m : OpM α} {f : α → OpM β} {enc : β → Value} {w w1 : World} {g g1 : Gh} {s s1 : St} {x : α} {R : Ending → World → Prop} (hx : m s = (some x, s1)) (st : Step w g w1 g1)
    (h : Hid (∀ e w', MPost b enc w g (OpM.bind m f s) e w' → R e w')) : Hid (∀ e w', MPost b enc w1 g1 (f x s1) e w' → R e w') := by
  intro e w' ⟨g', s', hs, hr⟩
  refine h e w' ⟨g', s', st.trans hs, ?_⟩
  rw [OpM.bind_some hx]
  exact hr
theorem MPost.halt {b : Nat} {α β : Type} {m : OpM α} {f : α → OpM β} {enc : β → Value} {w w1 : World} {g g1 : Gh} {s s1 : St} {R : Ending → World → Prop} (hx : m s = (none, s1)) (st : Step w g w1 g1) (hm : MemAt 2 w1 g1 s1 ∧ g1.b = b)
    (h : Hid (∀ e w', MPost b enc w g (OpM.bind m f s) e w' → R e w')) : R (.panicked [stopOf b]) w1 :=
  h _ _ ⟨g1, s1, st, .inr ⟨OpM.bind_none hx, rfl, hm⟩⟩
theorem MPost.move {b : Nat} {β : Type} {enc : β → Value} {w w1 : World} {g g1 : Gh} {r : Option β × St} {R : Ending → World → Prop} (st : Step w g w1 g1)
    (h : Hid (∀ e w', MPost b enc w g r e w' → R e w')) : Hid (∀ e w', MPost b enc w1 g1 r e w' → R e w') := by
  intro e w' ⟨g', s', hs, hr⟩
  refine h e w' ⟨g', s', st.trans hs, ?_⟩
  exact hr
theorem MPost.done {b : Nat} {β : Type} {enc : β → Value} {w : World} {g : Gh} {s : St} {x : β} {R : Ending → World → Prop} (hm : MemP b w g s)
    (h : Hid (∀ e w', MPost b enc w g (some x, s) e w' → R e w')) : R (.returned (enc x)) w := h _ _ ⟨g, s, Step.refl _ _, .inl ⟨x, rfl, rfl, hm⟩⟩
/-- a call's ending handed on as it is -/
theorem MPost.same {b : Nat} {β : Type} {enc : β → Value} {w w1 : World} {g g1 : Gh} {s1 : St} {r : Option β × St} {x : β} {R : Ending → World → Prop} (hx : r = (some x, s1)) (st : Step w g w1 g1) (hm : MemP b w1 g1 s1)
    (h : Hid (∀ e w', MPost b enc w g r e w' → R e w')) : R (.returned (enc x)) w1 := h _ _ ⟨g1, s1, st, .inl ⟨x, hx, rfl, hm⟩⟩
theorem Calls.of_post {P : Program} {f : FuncId} {args : Array Value} {w : World} {M : Ending → World → Prop} (h : ∀ R : Ending → World → Prop, Hid (∀ e w', M e w' → R e w') → Calls P f args w R) : Calls P f args w M := h M fun _ _ h => h
theorem MPost.from {b : Nat} {β : Type} {enc : β → Value} {w w0 : World} {g : Gh} {r : Option β × St} (hW : Below w0.heap.size w0 w) : ∀ e w', MPost b enc w g r e w' → MPost b enc w0 g r e w' := by
  intro e w' ⟨g', s', hs, hr⟩
  exact ⟨g', s', (Step.of_below g hW).trans hs, hr⟩
/-- a contract that makes memory at most, read from an earlier world -/
theorem Calls.from_below {P : Program} {f : FuncId} {args : Array Value} {w W : World} {v : Value} (hW : Below w.heap.size w W) (h : Calls P f args W fun e w' => e = .returned v ∧ Below W.heap.size W w') :
    Calls P f args W fun e w' => e = .returned v ∧ Below w.heap.size w w' := h.mono fun _ _ ⟨he, hb⟩ => ⟨he, hW.trans (hb.mono hW.size)⟩
theorem ask_calls {b : Nat} {w W : World} {g : Gh} {s : St} (a : Acc) (hP : MemP b w g s) (hW : Below w.heap.size w W) :
    Calls Try.prog 53 #[.pointer (some ⟨b, 0, none⟩), .agg #[.int .i64 a.kind, .int .i64 a.cell, .int .i64 a.val]] W (MPost b (Value.int .i64) w g (askS a s)) :=
  (ask_calls0 a (hP.below hW)).mono (MPost.from hW)
def readM (c : Int) : OpM Int := fun s => askS ⟨1, c, 0⟩ s
def writeM (c v : Int) : OpM Unit := OpM.bind (askS ⟨2, c, v⟩) fun _ => OpM.ret ()
def getS (i : Int) (s : St) : Int := if 0 ≤ i then s.loc.getD i.toNat 0 else 0
def noteS (k : Int) (s : St) : St := { s with nts := s.nts ++ [⟨k, (s.acc.length : Int)⟩] }
def unitV (_ : Unit) : Value := .tuple #[]

theorem read_calls {b : Nat} {w W : World} {g : Gh} {s : St} (c : Int) (hm : MemP b w g s) (hW : Below w.heap.size w W) :
    Calls Try.prog 33 #[.pointer (some ⟨b, 0, none⟩), .int .i64 c] W (MPost b (Value.int .i64) w g (readM c s)) := by
  refine Calls.of_post fun R HR => ?_
  go_enter Try.func33, Try.ntmps33
  go_wp2_with fail
  refine (ask_calls ⟨1, c, 0⟩ hm hW).mono ?_
  rintro e w1 ⟨g', s', hst, ⟨x, hx, rfl, hm'⟩ | ⟨hx, rfl, hm'⟩⟩
  · go_wp2
    exact MPost.same (enc := Value.int .i64) (x := x) hx hst hm' HR
  · exact ⟨rfl, HR _ _ ⟨g', s', hst, .inr ⟨hx, rfl, hm'⟩⟩⟩

theorem write_calls {b : Nat} {w W : World} {g : Gh} {s : St} (c v : Int) (hm : MemP b w g s) (hW : Below w.heap.size w W) :
    Calls Try.prog 26 #[.pointer (some ⟨b, 0, none⟩), .int .i64 c, .int .i64 v] W (MPost b unitV w g (writeM c v s)) := by
  refine Calls.of_post fun R HR => ?_
  go_enter Try.func26, Try.ntmps26
  go_wp2_with fail
  refine (ask_calls ⟨2, c, v⟩ hm hW).mono ?_
  rintro e w1 ⟨g', s', hst, ⟨x, hx, rfl, hm'⟩ | ⟨hx, rfl, hm'⟩⟩
  · go_wp2
    go_end0
    exact MPost.done (enc := unitV) (x := ()) hm' (MPost.seq (m := askS _) (f := fun _ => OpM.ret ()) hx hst HR)
  · exact ⟨rfl, MPost.halt hx hst hm' HR⟩

set_option maxRecDepth 100000 in
theorem get_calls0 {b : Nat} {w : World} {g : Gh} {s : St} (i : Int) (hP : MemP b w g s) :
    Calls Try.prog 54 #[.pointer (some ⟨b, 0, none⟩), .int .i64 i] w fun e w' => e = .returned (.int .i64 (getS i s)) ∧ w = w' := by
  obtain rfl := hP.hb
  have hm := hP.at_
  clear hP
  have c0 := cell_of_blk hm.blk 0
  have c2 := cell_of_blk hm.blk 2
  simp at c0 c2
  have sl := hm.sl
  have HO := Lib.hid hm.lown
  clear hm
  by_cases h0 : 0 ≤ i
  · by_cases h1 : i < s.loc.length
    · obtain ⟨A, hA, hc⟩ : ∃ A : Nat, g.lA = some ⟨A, 0, none⟩ ∧ w.cell? ⟨A, i.toNat, none⟩ = some (.int .i64 (s.loc.getD i.toNat 0)) := by
        rcases HO.out.2 with ⟨_, hn⟩ | ⟨gg, cap, cur, hv, _, hg, hh, _, hs, ht⟩
        · omega
        · simp at hv
          refine ⟨gg, hv.1, ?_⟩
          rw [World.cell?, hg]
          have hj : i.toNat < s.loc.length := by omega
          have : (s.loc.map (Value.int .i64))[i.toNat]? = some (.int .i64 (s.loc.getD i.toNat 0)) := by simp [hj, List.getD_eq_getElem?_getD]
          rw [← ht, List.getElem?_take] at this
          simp at this
          simpa using this.2
      rw [hA] at c2
      have hn : ¬ (i ≥ (s.loc.length : Int)) := by omega
      have e : getS i s = s.loc.getD i.toNat 0 := by simp [getS, h0]
      rw [e]
      clear e
      go_enter Try.func54, Try.ntmps54
      go_wp2
      go_ret
      exact ⟨by simp, rfl⟩
    · have e : getS i s = 0 := by simp [getS]; intro _; rw [List.getElem?_eq_none (by omega)]; rfl
      rw [e]
      clear e
      have hn : (i ≥ (s.loc.length : Int)) := by omega
      go_enter Try.func54, Try.ntmps54
      go_wp2
      go_ret
      exact ⟨rfl, rfl⟩
  · have e : getS i s = 0 := by simp [getS]; omega
    rw [e]
    clear e
    go_enter Try.func54, Try.ntmps54
    go_wp2
    go_ret
    exact ⟨rfl, rfl⟩
theorem get_calls {b : Nat} {w W : World} {g : Gh} {s : St} (i : Int) (hP : MemP b w g s) (hW : Below w.heap.size w W) :
    Calls Try.prog 54 #[.pointer (some ⟨b, 0, none⟩), .int .i64 i] W fun e w' => e = .returned (.int .i64 (getS i s)) ∧ W = w' := get_calls0 i (hP.below hW)
end Go.Proofs.Ytfaihahpnjgejaa
namespace Go.Proofs.Ytfaihahpnjgejaa
open Go.RowKit

/-- zeros laid behind a row of the call's own, as one step of a region -/
theorem step_append_zeros {P : Program} {ops : Array Oper} {o : Oper} {a : Act} {Q : Exit → Act → World → Prop} {K : Act → World → Prop} {E : Prop} {W : World}
    (hgd : o.guard = none) (s x : Operand) (t ti e : TypeId) (z : Value) (size bytes : Nat) (ho : o.op = .call { callee := .builtin .append, args := #[s, x], argTypes := #[t, ti] })
    (ht : P.underlying t = some (.slice e)) {k : IntKind} (hti : P.underlying ti = some (.int k)) (hinfo : (P.info? e).map (fun i => (i.zero, i.size, i.bytes)) = some (some z, size, bytes)) (hz : z.cells.size = size) (hs0 : 0 < size) (hb0 : 0 < bytes)
    (A : Option Addr) (n c m : Nat) (xs : List Value) (hs : a.eval s = .slice A n c) (hx : a.eval x = .int .i64 m)
    (h1 : ∀ u ∈ (Builtin.zeroCells z.cells m).toList, u.oneCell' = true) (hm : 0 < m)
    (HO : W.ownsRow 0 e size (.slice A n c) n xs) (hl : (n + m) * bytes ≤ 140737488355328)
    (h : ∀ A' c' w1, w1.ownsRow 0 e size (.slice A' (n + m) c') (n + m) (xs ++ (Builtin.zeroCells z.cells m).toList) → W.grownBy w1 (blk? A) → (blk? A' = blk? A ∨ blk? A' = some W.heap.size) → K (a.put o.dst (.slice A' (n + m) c')) w1) :
    if Region.wanted o (yielded ops a.tmps) = true then Oper.wp P o a W K Q else E := by
  have hw : Region.wanted o (yielded ops a.tmps) = true := by simp [Region.wanted, hgd]
  rw [if_pos hw]
  obtain ⟨i0, hi, hzz⟩ := Option.map_eq_some_iff.1 hinfo
  simp only [Prod.mk.injEq] at hzz
  obtain ⟨hz0, hz1, hz2⟩ := hzz
  obtain ⟨v1, w1, hr, hown, hg, hat⟩ := Go.Proofs.YtfaihahpnjgejaaW.PrintWords.run_append_zeros (P := P) W 0 t ti o.type e i0 z size bytes ht hti hi hz0 hz1 hz2 hz hs0 hb0 (.slice A n c) n xs HO .i64 m h1 hl (by simp)
  obtain ⟨A', c', rfl⟩ : ∃ A' c', v1 = .slice A' (n + m) c' := by
    rcases hown.2 with ⟨rfl, hn⟩ | ⟨g, cap, cur, rfl, _⟩
    · omega
    · exact ⟨_, _, rfl⟩
  unfold Oper.wp execOp
  simp only [ho, resolve, invoke, builtin, Sem.run_bind, Sem.run_pure, Result.andThen_ok, List.map_toArray, List.map_cons, List.map_nil, hs, hx, hr]
  rw [ownBlock_slice, ownBlock_slice] at hat
  rw [ownBlock_slice] at hg
  exact h A' c' w1 hown hg hat

theorem zeroInts (m : Nat) : (Builtin.zeroCells (Value.int .i64 0).cells m).toList = (List.replicate m (0 : Int)).map (Value.int .i64) := by
  apply List.ext_getElem
  · simp [Builtin.zeroCells, Value.cells]
  · intro i h1 h2
    simp [Builtin.zeroCells, Value.cells, Nat.mod_one]

theorem zeroInts_one (m : Nat) : ∀ u ∈ (Builtin.zeroCells (Value.int .i64 0).cells m).toList, u.oneCell' = true := by
  rw [zeroInts]; intro u hu; simp at hu; rw [hu.2]; rfl

def setS (i v : Int) (s : St) : St :=
  if 0 ≤ i ∧ i < 32768 then
    if i < s.loc.length then { s with loc := s.loc.set i.toNat v } else if v = 0 then s else { s with loc := (s.loc ++ List.replicate (i.toNat + 1 - s.loc.length) 0).set i.toNat v }
  else s

theorem MemAt.setLoc {st w g s} (h : MemAt st w g s) (i : Nat) (v : Int) (A : Nat) (hA : g.lA = some ⟨A, 0, none⟩) (hi : i < s.loc.length) :
    MemAt st (w.setCell ⟨A, i, none⟩ (.int .i64 v)) g { s with loc := s.loc.set i v } ∧ Step w g (w.setCell ⟨A, i, none⟩ (.int .i64 v)) g := by
  have hbA : blk? g.lA = some A := by simp [blk?, hA]
  have keep : ∀ k, k ≠ A → (w.setCell ⟨A, i, none⟩ (.int .i64 v)).heap[k]? = w.heap[k]? := fun k hk => Below.heap_setCell _ _ _ _ hk
  refine ⟨{ h with blk := ?_, ansr := ?_, lown := ?_, vown := ?_, nown := ?_, sl := by simpa using h.sl }, ⟨rfl, rfl, rfl, by simp [World.setCell], fun k hk hm => keep k (fun e => hm (.inr (.inl (e ▸ hbA)))), fun k hk => .inl hk, rfl, rfl, rfl⟩⟩
  · rw [keep _ (fun e => h.lb (by rw [hbA, e]))]
    simpa using h.blk
  · intro j hj
    obtain ⟨ad, e, hc, hm⟩ := h.ansr j hj
    have hb : (ad.add j).block = ad.block := by unfold Addr.add; split <;> rfl
    refine ⟨ad, e, ?_, hm⟩
    rw [World.cell?_of_block (w := w)]; exact hc
    rw [hb]; exact keep _ (fun e => hm (.inr (.inl (e ▸ hbA))))
  · have hl := h.lown
    obtain ⟨h1, h2⟩ := hl
    refine ⟨by simp, ?_⟩
    rcases h2 with ⟨_, hn⟩ | ⟨gg, cap, cur, hv, hb, hg, hh, hcm, hs, ht⟩
    · omega
    · simp [hA] at hv
      obtain ⟨rfl, rfl⟩ := hv
      refine .inr ⟨A, g.lC, cur.setIfInBounds i (.int .i64 v), by simp [hA], hb, ?_, by simpa using hh, hcm, by simpa using hs, ?_⟩
      · simp [World.setCell, Array.getElem?_modify, hg]
      · simp only [List.length_set, Array.toList_setIfInBounds]
        rw [List.take_set, ht, List.map_set]
  · exact ownsRow_of_block h.vown fun k hk => keep k (fun e => h.vl k hk (e ▸ hbA))
  · exact ownsRow_of_block h.nown fun k hk => keep k (fun e => h.nl k hk (e ▸ hbA))

theorem MemAt.growLoc {st w g s} (h : MemAt st w g s) (m : Nat) {W w1 : World} (hW : Below w.heap.size w W) {A : Option Addr} {c : Nat} {xs : List Int}
    (hown : w1.ownsRow 0 3 1 (.slice A (s.loc.length + m) c) (s.loc.length + m) (xs.map (Value.int .i64))) (hg : W.grownBy w1 (blk? g.lA)) (hat : blk? A = blk? g.lA ∨ blk? A = some W.heap.size)
    (hl : s.loc.length + m ≤ 32768) (hxs : xs.length = s.loc.length + m) :
    MemAt st (w1.setCell ⟨g.b, 2, none⟩ (.slice A (s.loc.length + m) c)) { g with lA := A, lC := c } { s with loc := xs } ∧
    Step w g (w1.setCell ⟨g.b, 2, none⟩ (.slice A (s.loc.length + m) c)) { g with lA := A, lC := c } := by
  have hbW : ∀ k, g.mine k → k < W.heap.size := fun k hk => Nat.lt_of_lt_of_le (h.mine_lt k hk) hW.size
  have h1 : ∀ k, k < w.heap.size → blk? g.lA ≠ some k → w1.heap[k]? = w.heap[k]? := fun k hk hn => (hg.block k (Nat.lt_of_lt_of_le hk hW.size) (fun e => hn e.symm)).trans (hW.block k hk)
  have hset : ∀ k, k ≠ g.b → (w1.setCell ⟨g.b, 2, none⟩ (.slice A (s.loc.length + m) c)).heap[k]? = w1.heap[k]? := fun k hk => Below.heap_setCell _ _ _ _ hk
  have hA : ∀ k, blk? A = some k → k < w1.heap.size := ownsRow_lt hown
  have hAb : blk? A ≠ some g.b := by
    rcases hat with e | e
    · rw [e]; exact h.lb
    · rw [e]; intro hh; have := hbW g.b (.inl rfl); simp at hh; omega
  have keep : ∀ k, k < w.heap.size → k ≠ g.b → blk? g.lA ≠ some k → (w1.setCell ⟨g.b, 2, none⟩ (.slice A (s.loc.length + m) c)).heap[k]? = w.heap[k]? := fun k hk hb hv => (hset k hb).trans (h1 k hk hv)
  refine ⟨{ blk := ?_, ansr := ?_, lown := ?_, vown := ?_, nown := ?_, lb := hAb, vb := h.vb, nb := h.nb, vl := ?_, nl := ?_, nv := h.nv, sa := h.sa, sv := h.sv, sl := by simp only [hxs]; exact hl, sn := h.sn, al := h.al }, ?_⟩
  · have := (h1 g.b (h.mine_lt _ (.inl rfl)) h.lb).trans h.blk
    simp [World.setCell, Array.getElem?_modify, this, hxs]
  · intro j hj
    obtain ⟨ad, e, hc, hm⟩ := h.ansr j hj
    have hadlt := h.ans_lt e (Nat.lt_of_le_of_lt (Nat.zero_le _) hj)
    have hb : (ad.add j).block = ad.block := by unfold Addr.add; split <;> rfl
    refine ⟨ad, e, ?_, ?_⟩
    · rw [World.cell?_of_block (w := w)]; exact hc
      rw [hb]; exact keep _ hadlt (fun e => hm (.inl e)) (fun e => hm (.inr (.inl e)))
    · intro hm'
      rcases hm' with e' | e' | e' | e'
      · exact hm (.inl e')
      · simp only at e'
        rcases hat with e2 | e2
        · exact hm (.inr (.inl (e2 ▸ e')))
        · rw [e2] at e'; simp at e'; have := hW.size; omega
      · exact hm (.inr (.inr (.inl e')))
      · exact hm (.inr (.inr (.inr e')))
  · simp only [hxs]
    exact ownsRow_of_block hown fun k hk => hset k (fun e => hAb (e ▸ hk))
  · exact ownsRow_of_block h.vown fun k hk => keep k (ownsRow_lt h.vown k hk) (fun e => h.vb (e ▸ hk)) (fun e => h.vl k hk e)
  · exact ownsRow_of_block h.nown fun k hk => keep k (ownsRow_lt h.nown k hk) (fun e => h.nb (e ▸ hk)) (fun e => h.nl k hk e)
  · intro k hk e2
    simp only at e2
    rcases hat with e | e
    · exact h.vl k hk (e ▸ e2)
    · have := ownsRow_lt h.vown k hk
      rw [e] at e2; simp at e2; have := hW.size; omega
  · intro k hk e2
    simp only at e2
    rcases hat with e | e
    · exact h.nl k hk (e ▸ e2)
    · have := ownsRow_lt h.nown k hk
      rw [e] at e2; simp at e2; have := hW.size; omega
  · refine ⟨by show w1.os = _; rw [hg.os, hW.os], by show w1.tape = _; rw [hg.tape, hW.tape], by show w1.output = _; rw [hg.output, hW.output], ?_, ?_, ?_, rfl, rfl, rfl⟩
    · have := hW.size; have := hg.size; simp [World.setCell]; omega
    · intro k hk hm
      exact keep k hk (fun e => hm (.inl e)) (fun e => hm (.inr (.inl e)))
    · intro k hk
      rcases hk with e | e | e | e
      · exact .inl (.inl e)
      · simp only at e
        rcases hat with e2 | e2
        · exact .inl (.inr (.inl (e2 ▸ e)))
        · rw [e2] at e; simp at e; have := hW.size; exact .inr (by omega)
      · exact .inl (.inr (.inr (.inl e)))
      · exact .inl (.inr (.inr (.inr e)))

/-- a local's cell -/
theorem MemAt.locCell {st w g s} (h : MemAt st w g s) (i : Nat) (hi : i < s.loc.length) :
    ∃ A : Nat, g.lA = some ⟨A, 0, none⟩ ∧ w.cell? ⟨A, i, none⟩ = some (.int .i64 (s.loc.getD i 0)) ∧ w.frozen? ⟨A, i, none⟩ = false := by
  rcases h.lown.2 with ⟨_, hn⟩ | ⟨gg, cap, cur, hv, _, hg, hh, _, hs, ht⟩
  · omega
  · simp at hv
    refine ⟨gg, hv.1, ?_, by simp [World.frozen?, hg]⟩
    rw [World.cell?, hg]
    have : (s.loc.map (Value.int .i64))[i]? = some (.int .i64 (s.loc.getD i 0)) := by simp [hi, List.getD_eq_getElem?_getD]
    rw [← ht, List.getElem?_take] at this
    simp at this
    simpa using this.2

set_option maxRecDepth 100000 in
set_option maxHeartbeats 1000000 in
theorem set_calls0 {b : Nat} {w : World} {g : Gh} {s : St} (i v : Int) (hP : MemP b w g s) :
    Calls Try.prog 55 #[.pointer (some ⟨b, 0, none⟩), .int .i64 i, .int .i64 v] w fun e w' => e = .returned (.tuple #[]) ∧ ∃ g', Step w g w' g' ∧ MemP b w' g' (setS i v s) := by
  obtain rfl := hP.hb
  have hm := hP.at_
  have hle := hP.le
  clear hP
  have c0 := cell_of_blk hm.blk 0
  have c2 := cell_of_blk hm.blk 2
  simp at c0 c2
  have sl := hm.sl
  have HM := Lib.hid hm
  have hb : g.b < w.heap.size := hm.mine_lt _ (.inl rfl)
  clear hm
  by_cases h0 : 0 ≤ i ∧ i < 32768
  · obtain ⟨h0, h32⟩ := h0
    have hr : ¬ (i ≥ 32768) := by omega
    have hq0 : ¬ i < 0 := by omega
    by_cases h1 : i < s.loc.length
    · obtain ⟨A, hA, hc, hf⟩ := HM.out.locCell i.toNat (by omega)
      have HN := Lib.hid (HM.out.setLoc i.toNat v A hA (by omega))
      rw [hA] at c2
      have hn : ¬ (i ≥ (s.loc.length : Int)) := by omega
      have e : Hid (setS i v s = { s with loc := s.loc.set i.toNat v }) := by show _ = _; simp [setS, h0, h32, h1]
      go_enter Try.func55, Try.ntmps55
      go_wp2
      (first | go_end0 | refine bodyPost_ret (results_none rfl _ _ _) rfl ?_)
      refine ⟨rfl, g, HN.out.2, ?_⟩
      rw [e.out]; exact ⟨rfl, HN.out.1, hle⟩
    · have hn : (i ≥ (s.loc.length : Int)) := by omega
      by_cases hv : v = 0
      · have e : Hid (setS i v s = s) := by show _ = _; simp [setS, h0, h32, h1, hv]
        have hvb : (v == 0) = true := by simp [hv]
        clear hv
        go_enter Try.func55, Try.ntmps55
        go_wp2
        (first | go_end0 | refine bodyPost_ret (results_none rfl _ _ _) rfl ?_)
        refine ⟨rfl, g, Step.refl _ _, ?_⟩
        rw [e.out]; exact ⟨rfl, HM.out, hle⟩
      · have e : Hid (setS i v s = { s with loc := (s.loc ++ List.replicate (i.toNat + 1 - s.loc.length) 0).set i.toNat v }) := by show _ = _; simp [setS, h0, h32, h1, hv]
        have hvb : (v == 0) = false := by simp [hv]
        clear hv
        go_enter Try.func55, Try.ntmps55
        go_wp2
        obtain ⟨m, HE, hmm, hm0, hm1⟩ : ∃ m : Nat, Hid ((m : Int) = i + 1 - s.loc.length) ∧ Hid (i.toNat + 1 - s.loc.length = m) ∧ 0 < m ∧ s.loc.length + m ≤ 32768 := ⟨(i + 1 - s.loc.length).toNat, by show _ = _; omega, by show _ = _; omega, by omega, by omega⟩
        have hw1 : IntKind.i64.wrap (i + 1) = i + 1 := IntWalk.i64_in _ (by omega)
        have hw2 : IntKind.i64.wrap (i + 1 - s.loc.length) = i + 1 - s.loc.length := IntWalk.i64_in _ (by omega)
        go_region_law ((refine step_append_zeros rfl (.tmp 36) (.tmp 44) 24 3 3 _ 1 8 rfl Try.underlying24 Try.underlying3 infoInt rfl (by omega) (by omega) g.lA s.loc.length g.lC m (s.loc.map (Value.int .i64)) (by simp [Act.eval, Act.put]) (by rw [HE.out]; simp [Act.eval, Act.put]) (zeroInts_one _) (by omega) (own_below HM.out.lown (Below.refl _ _).drew) (by omega) ?_; intro A' c' w1 ho hg hat; have q1 := (HM.out.past (Below.refl _ _).drew hg HM.out.lb).trans HM.out.blk; have q3 := cell_of_blk q1 2; have qf := frozen_of_blk q1 2; simp at q3; clear q1))
        all_goals
          clear hw1 hw2
          rw [zeroInts, ← List.map_append] at ho
          have hlen : i < ((s.loc.length + m : Nat) : Int) := by have := HE.out; omega
          have hlen2 : i.toNat < s.loc.length + m := by omega
          have HN := Lib.hid (HM.out.growLoc m (Below.refl _ _).drew ho hg hat hm1 (by simp))
          clear ho hg hat q3 qf
          revert HN
          generalize w1.setCell ⟨g.b, 2, none⟩ (.slice A' (s.loc.length + m) c') = w2
          intro HN
          obtain ⟨A, hA, hc, hf⟩ := HN.out.1.locCell i.toNat (by simpa using hlen2)
          have HP := Lib.hid (HN.out.1.setLoc i.toNat v A hA (by simpa using hlen2))
          simp only at hA
          have d2 : w2.cell? ⟨g.b, 2, none⟩ = some (.slice (some ⟨A, 0, none⟩) (s.loc.length + m) c') := by rw [cell_of_blk HN.out.1.blk 2]; simp [hA]
          have hn1 : i < (s.loc.length : Int) + m := by omega
          go_wp2
          (first | go_end0 | refine bodyPost_ret (results_none rfl _ _ _) rfl ?_)
          refine ⟨rfl, _, HN.out.2.trans HP.out.2, ?_⟩
          rw [e.out, hmm.out]; exact ⟨rfl, HP.out.1, hle⟩
  · have e : Hid (setS i v s = s) := by show _ = _; simp only [setS]; rw [if_neg h0]
    have hq : i < 0 ∨ i ≥ 32768 := by omega
    clear h0
    rcases hq with hq | hq
    · go_enter Try.func55, Try.ntmps55
      go_wp2
      (first | go_end0 | refine bodyPost_ret (results_none rfl _ _ _) rfl ?_)
      refine ⟨rfl, g, Step.refl _ _, ?_⟩
      rw [e.out]; exact ⟨rfl, HM.out, hle⟩
    · have hq2 : ¬ i < 0 := by omega
      go_enter Try.func55, Try.ntmps55
      go_wp2
      (first | go_end0 | refine bodyPost_ret (results_none rfl _ _ _) rfl ?_)
      refine ⟨rfl, g, Step.refl _ _, ?_⟩
      rw [e.out]; exact ⟨rfl, HM.out, hle⟩
def setM (i v : Int) : OpM Unit := fun s => (some (), setS i v s)
theorem set_calls {b : Nat} {w W : World} {g : Gh} {s : St} (i v : Int) (hm : MemP b w g s) (hW : Below w.heap.size w W) :
    Calls Try.prog 55 #[.pointer (some ⟨b, 0, none⟩), .int .i64 i, .int .i64 v] W (MPost b unitV w g (setM i v s)) :=
  (set_calls0 i v (hm.below hW)).mono fun _ _ ⟨he, g', hs, hm'⟩ => ⟨g', _, (Step.of_below g hW).trans hs, .inl ⟨(), rfl, he, hm'⟩⟩
end Go.Proofs.Ytfaihahpnjgejaa
namespace Go.Proofs.Ytfaihahpnjgejaa
open Go.RowKit

structure Reg where
  kind : Int
  base : Int
  loc : Int
  n : Int
  writer : Int
  reader : Int
  top : Int
def Reg.cs (r : Reg) : Array Value := #[.int .i64 r.kind, .int .i64 r.base, .int .i64 r.loc, .int .i64 r.n, .int .i64 r.writer, .int .i64 r.reader, .int .i64 r.top]
def Reg.v (r : Reg) : Value := .agg r.cs
def Reg.In (r : Reg) : Prop := -4611686018427387904 ≤ r.base ∧ r.base ≤ 4611686018427387904 ∧ -4611686018427387904 ≤ r.loc ∧ r.loc ≤ 4611686018427387904

def trompR3 (r : Reg) (x : Int) : OpM Int :=
  OpM.bind (readM r.base) fun v1 => OpM.bind (setM (r.loc + 3) v1) fun _ =>
  OpM.bind (readM (r.base + 1)) fun w3 s3 =>
  if w3 = getS (r.loc + 2) s3 then (some (getS (r.loc + 3) s3), s3) else
  OpM.bind (readM r.base) (fun v2 => OpM.bind (setM (r.loc + 3) v2) fun _ => OpM.ret x) s3
def trompR (r : Reg) : OpM Int :=
  OpM.bind (readM (r.base + 1)) fun w1 s1 =>
  if w1 = getS (r.loc + 2) s1 then (some (getS (r.loc + 3) s1), s1) else
  OpM.bind (readM r.base) (fun x =>
  OpM.bind (readM (r.base + 1)) fun w2 s2 =>
  if w2 = getS (r.loc + 2) s2 then trompR3 r x s2 else
  OpM.bind (writeM (r.base + 2) (wrap64 (1 - getS (r.loc + 2) s2))) (fun _ => OpM.bind (setM (r.loc + 2) (wrap64 (1 - getS (r.loc + 2) s2))) fun _ => trompR3 r x) s2) s1

set_option maxRecDepth 100000 in
set_option maxHeartbeats 4000000 in
theorem trompR_calls0 {b : Nat} {w : World} {g : Gh} {s : St} (r : Reg) (hr : r.In) (hm : MemP b w g s) :
    Calls Try.prog 36 #[.pointer (some ⟨b, 0, none⟩), r.v] w (MPost b (Value.int .i64) w g (trompR r s)) := by
  refine Calls.of_post fun R HR => ?_
  obtain ⟨hm0, BX⟩ := hm.box r.cs 23
  replace HR := MPost.move (Step.of_alloc w g (.cells r.cs 23)) HR
  replace hm := hm0
  obtain ⟨hb1, hb2, hl1, hl2⟩ := hr
  simp only [Reg.v, Reg.cs] at *
  replace BX := Lib.hid BX
  have r1 := cell_of_blk BX.out.1 1
  have r2 := cell_of_blk BX.out.1 2
  simp at r1 r2
  go_enter Try.func36, Try.ntmps36
  go_wp2_with fail
  have hw0 : IntKind.i64.wrap r.base = r.base := IntWalk.i64_in _ (by omega)
  have hw1 : IntKind.i64.wrap (r.base + 1) = r.base + 1 := IntWalk.i64_in _ (by omega)
  have hw2 : IntKind.i64.wrap (r.loc + 2) = r.loc + 2 := IntWalk.i64_in _ (by omega)
  have hw3 : IntKind.i64.wrap (r.loc + 3) = r.loc + 3 := IntWalk.i64_in _ (by omega)
  refine wp_scope_jumps 0 (fun a' w' => a'.defers = [] ∧ a'.tmps.size = 96 ∧ ∃ (x : Int), a'.tmps.getD 0 undef = Value.pointer (some { block := b, off := 0 }) ∧ a'.tmps.getD 6 undef = Value.int .i64 x ∧ R (.returned (.int .i64 x)) w') (fun _ _ => 0) rfl ?_ ?_
  rotate_left
  · rintro ⟨tm_, df_⟩ w_ ⟨hd_, hs_, x, k0_, k6_, hR⟩
    simp only at hd_ hs_ k0_ k6_
    subst hd_
    have ht_ := frame_lit tm_ 96 hs_
    generalize hu_ : (fun i => tm_.getD i undef) = u at ht_
    replace k0_ : u 0 = Value.pointer (some { block := b, off := 0 }) := by rw [← hu_]; exact k0_
    replace k6_ : u 6 = Value.int .i64 x := by rw [← hu_]; exact k6_
    clear hu_ hs_
    subst ht_
    show Code.wp _ _ _ { tmps := #[u 0, u 1, u 2, u 3, u 4, u 5, u 6, u 7, u 8, u 9, u 10, u 11, u 12, u 13, u 14, u 15, u 16, u 17, u 18, u 19, u 20, u 21, u 22, u 23, u 24, u 25, u 26, u 27, u 28, u 29, u 30, u 31, u 32, u 33, u 34, u 35, u 36, u 37, u 38, u 39, u 40, u 41, u 42, u 43, u 44, u 45, u 46, u 47, u 48, u 49, u 50, u 51, u 52, u 53, u 54, u 55, u 56, u 57, u 58, u 59, u 60, u 61, u 62, u 63, u 64, u 65, u 66, u 67, u 68, u 69, u 70, u 71, u 72, u 73, u 74, u 75, u 76, u 77, u 78, u 79, u 80, u 81, u 82, u 83, u 84, u 85, u 86, u 87, u 88, u 89, u 90, u 91, u 92, u 93, u 94, u 95], defers := [] } _
    rw [k0_, k6_]
    clear k0_ k6_
    go_wp2
    exact hR
  go_wp2_with fail
  go_region_held2 (fun W => W.cell? ⟨w.heap.size, 1, none⟩ = some (.int .i64 r.base) ∧ W.cell? ⟨w.heap.size, 2, none⟩ = some (.int .i64 r.loc)) (first | assumption | exact ⟨by assumption, by assumption⟩ | exact ⟨by assumption, by assumption, by assumption, by assumption, by assumption, by assumption, by assumption⟩ | simp [*]) (first | (go_at_call 33; refine (read_calls _ hm (by first | exact Below.refl _ _ | exact (Below.refl _ _).drew)).mono ?_; rintro e_ w_ ⟨g_, s_, st_, hc_⟩; refine Or.elim hc_ (fun hd_ => ?_) (fun ⟨hx_, he_, hm_⟩ => by subst he_; first | exact ⟨rfl, MPost.halt hx_ st_ hm_ HR⟩ | exact MPost.halt hx_ st_ hm_ HR); clear hc_; obtain ⟨x_, hx_, rfl, hm_⟩ := hd_; replace HR := MPost.seq hx_ st_ HR; replace hm := hm_; clear r1 r2; replace BX := Lib.hid (BX.out.step st_); have r1 := cell_of_blk BX.out.1 1; have r2 := cell_of_blk BX.out.1 2; simp at r1 r2; clear hx_ st_) | (go_at_call 54; refine (get_calls _ hm (by first | exact Below.refl _ _ | exact (Below.refl _ _).drew)).mono ?_; rintro e_ w_ ⟨rfl, rfl⟩))
  by_cases h1 : x_ = getS (r.loc + 2) s_
  · rw [if_pos h1] at HR
    have hq : (x_ == getS (r.loc + 2) s_) = true := by simp [h1]
    clear h1
    go_wp2_with fail
    refine (get_calls _ hm (by first | exact Below.refl _ _ | exact (Below.refl _ _).drew)).mono ?_
    rintro e_ w_ ⟨rfl, rfl⟩
    go_wp2_with fail
    go_step3
    exact ⟨rfl, rfl, rfl, _, rfl, rfl, MPost.done (enc := Value.int .i64) hm HR⟩
  · rw [if_neg h1] at HR
    have hq : (x_ == getS (r.loc + 2) s_) = false := by simp [h1]
    clear h1
    go_wp2_with fail
    clear hq
    refine (read_calls _ hm (by first | exact Below.refl _ _ | exact (Below.refl _ _).drew)).mono ?_
    rintro e_ w_ ⟨g_, s_, st_, hc_⟩
    refine Or.elim hc_ (fun hd_ => ?_) (fun ⟨hx_, he_, hm_⟩ => by subst he_; first | exact ⟨rfl, MPost.halt hx_ st_ hm_ HR⟩ | exact MPost.halt hx_ st_ hm_ HR)
    clear hc_
    obtain ⟨x, hx_, rfl, hm_⟩ := hd_
    replace HR := MPost.seq hx_ st_ HR
    replace hm := hm_
    clear r1 r2
    replace BX := Lib.hid (BX.out.step st_)
    have r1 := cell_of_blk BX.out.1 1
    have r2 := cell_of_blk BX.out.1 2
    simp at r1 r2
    clear hx_ st_
    go_wp2_with fail
    go_region_held2 (fun W => W.cell? ⟨w.heap.size, 1, none⟩ = some (.int .i64 r.base) ∧ W.cell? ⟨w.heap.size, 2, none⟩ = some (.int .i64 r.loc)) (first | assumption | exact ⟨by assumption, by assumption⟩ | exact ⟨by assumption, by assumption, by assumption, by assumption, by assumption, by assumption, by assumption⟩ | simp [*]) (first | (go_at_call 33; refine (read_calls _ hm (by first | exact Below.refl _ _ | exact (Below.refl _ _).drew)).mono ?_; rintro e_ w_ ⟨g_, s_, st_, hc_⟩; refine Or.elim hc_ (fun hd_ => ?_) (fun ⟨hx_, he_, hm_⟩ => by subst he_; first | exact ⟨rfl, MPost.halt hx_ st_ hm_ HR⟩ | exact MPost.halt hx_ st_ hm_ HR); clear hc_; obtain ⟨x_, hx_, rfl, hm_⟩ := hd_; replace HR := MPost.seq hx_ st_ HR; replace hm := hm_; clear r1 r2; replace BX := Lib.hid (BX.out.step st_); have r1 := cell_of_blk BX.out.1 1; have r2 := cell_of_blk BX.out.1 2; simp at r1 r2; clear hx_ st_) | (go_at_call 54; refine (get_calls _ hm (by first | exact Below.refl _ _ | exact (Below.refl _ _).drew)).mono ?_; rintro e_ w_ ⟨rfl, rfl⟩))
    by_cases h2 : x_ = getS (r.loc + 2) s_
    · rw [if_pos h2] at HR
      have hq : (x_ != getS (r.loc + 2) s_) = false := by simp [h2]
      clear h2
      go_wp2_with fail
      clear hq
      go_region_held2 (fun W => W.cell? ⟨w.heap.size, 1, none⟩ = some (.int .i64 r.base) ∧ W.cell? ⟨w.heap.size, 2, none⟩ = some (.int .i64 r.loc)) (first | assumption | exact ⟨by assumption, by assumption⟩ | exact ⟨by assumption, by assumption, by assumption, by assumption, by assumption, by assumption, by assumption⟩ | simp [*]) (first | (go_at_call 33; refine (read_calls _ hm (by first | exact Below.refl _ _ | exact (Below.refl _ _).drew)).mono ?_; rintro e_ w_ ⟨g_, s_, st_, hc_⟩; refine Or.elim hc_ (fun hd_ => ?_) (fun ⟨hx_, he_, hm_⟩ => by subst he_; first | exact ⟨rfl, MPost.halt hx_ st_ hm_ HR⟩ | exact MPost.halt hx_ st_ hm_ HR); clear hc_; obtain ⟨x_, hx_, rfl, hm_⟩ := hd_; replace HR := MPost.seq hx_ st_ HR; replace hm := hm_; clear r1 r2; replace BX := Lib.hid (BX.out.step st_); have r1 := cell_of_blk BX.out.1 1; have r2 := cell_of_blk BX.out.1 2; simp at r1 r2; clear hx_ st_) | (go_at_call 55; refine (set_calls _ _ hm (by first | exact Below.refl _ _ | exact (Below.refl _ _).drew)).mono ?_; rintro e_ w_ ⟨g_, s_, st_, hc_⟩; refine Or.elim hc_ (fun hd_ => ?_) (fun ⟨hx_, he_, hm_⟩ => by subst he_; first | exact ⟨rfl, MPost.halt hx_ st_ hm_ HR⟩ | exact MPost.halt hx_ st_ hm_ HR); clear hc_; obtain ⟨x_, hx_, rfl, hm_⟩ := hd_; replace HR := MPost.seq hx_ st_ HR; replace hm := hm_; clear r1 r2; replace BX := Lib.hid (BX.out.step st_); have r1 := cell_of_blk BX.out.1 1; have r2 := cell_of_blk BX.out.1 2; simp at r1 r2; clear hx_ st_))
      go_wp2_with fail
      go_region_held2 (fun W => W.cell? ⟨w.heap.size, 1, none⟩ = some (.int .i64 r.base) ∧ W.cell? ⟨w.heap.size, 2, none⟩ = some (.int .i64 r.loc)) (first | assumption | exact ⟨by assumption, by assumption⟩ | exact ⟨by assumption, by assumption, by assumption, by assumption, by assumption, by assumption, by assumption⟩ | simp [*]) (first | (go_at_call 33; refine (read_calls _ hm (by first | exact Below.refl _ _ | exact (Below.refl _ _).drew)).mono ?_; rintro e_ w_ ⟨g_, s_, st_, hc_⟩; refine Or.elim hc_ (fun hd_ => ?_) (fun ⟨hx_, he_, hm_⟩ => by subst he_; first | exact ⟨rfl, MPost.halt hx_ st_ hm_ HR⟩ | exact MPost.halt hx_ st_ hm_ HR); clear hc_; obtain ⟨x_, hx_, rfl, hm_⟩ := hd_; replace HR := MPost.seq hx_ st_ HR; replace hm := hm_; clear r1 r2; replace BX := Lib.hid (BX.out.step st_); have r1 := cell_of_blk BX.out.1 1; have r2 := cell_of_blk BX.out.1 2; simp at r1 r2; clear hx_ st_) | (go_at_call 54; refine (get_calls _ hm (by first | exact Below.refl _ _ | exact (Below.refl _ _).drew)).mono ?_; rintro e_ w_ ⟨rfl, rfl⟩))
      by_cases h3 : x_ = getS (r.loc + 2) s_
      · rw [if_pos h3] at HR
        have hq : (x_ == getS (r.loc + 2) s_) = true := by simp [h3]
        clear h3
        go_wp2_with fail
        refine (get_calls _ hm (by first | exact Below.refl _ _ | exact (Below.refl _ _).drew)).mono ?_
        rintro e_ w_ ⟨rfl, rfl⟩
        go_wp2_with fail
        go_step3
        exact ⟨rfl, rfl, rfl, _, rfl, rfl, MPost.done (enc := Value.int .i64) hm HR⟩
      · rw [if_neg h3] at HR
        have hq : (x_ == getS (r.loc + 2) s_) = false := by simp [h3]
        clear h3
        go_wp2_with fail
        clear hq
        go_region_held2 (fun W => W.cell? ⟨w.heap.size, 1, none⟩ = some (.int .i64 r.base) ∧ W.cell? ⟨w.heap.size, 2, none⟩ = some (.int .i64 r.loc)) (first | assumption | exact ⟨by assumption, by assumption⟩ | exact ⟨by assumption, by assumption, by assumption, by assumption, by assumption, by assumption, by assumption⟩ | simp [*]) (first | (go_at_call 33; refine (read_calls _ hm (by first | exact Below.refl _ _ | exact (Below.refl _ _).drew)).mono ?_; rintro e_ w_ ⟨g_, s_, st_, hc_⟩; refine Or.elim hc_ (fun hd_ => ?_) (fun ⟨hx_, he_, hm_⟩ => by subst he_; first | exact ⟨rfl, MPost.halt hx_ st_ hm_ HR⟩ | exact MPost.halt hx_ st_ hm_ HR); clear hc_; obtain ⟨x_, hx_, rfl, hm_⟩ := hd_; replace HR := MPost.seq hx_ st_ HR; replace hm := hm_; clear r1 r2; replace BX := Lib.hid (BX.out.step st_); have r1 := cell_of_blk BX.out.1 1; have r2 := cell_of_blk BX.out.1 2; simp at r1 r2; clear hx_ st_) | (go_at_call 55; refine (set_calls _ _ hm (by first | exact Below.refl _ _ | exact (Below.refl _ _).drew)).mono ?_; rintro e_ w_ ⟨g_, s_, st_, hc_⟩; refine Or.elim hc_ (fun hd_ => ?_) (fun ⟨hx_, he_, hm_⟩ => by subst he_; first | exact ⟨rfl, MPost.halt hx_ st_ hm_ HR⟩ | exact MPost.halt hx_ st_ hm_ HR); clear hc_; obtain ⟨x_, hx_, rfl, hm_⟩ := hd_; replace HR := MPost.seq hx_ st_ HR; replace hm := hm_; clear r1 r2; replace BX := Lib.hid (BX.out.step st_); have r1 := cell_of_blk BX.out.1 1; have r2 := cell_of_blk BX.out.1 2; simp at r1 r2; clear hx_ st_))
        go_wp2_with fail
        go_step3
        exact ⟨rfl, rfl, rfl, _, rfl, rfl, MPost.done (enc := Value.int .i64) hm HR⟩
    · rw [if_neg h2] at HR
      have hq : (x_ != getS (r.loc + 2) s_) = true := by simp [h2]
      clear h2
      go_wp2_with fail
      clear hq
      refine (get_calls _ hm (by first | exact Below.refl _ _ | exact (Below.refl _ _).drew)).mono ?_
      rintro e_ w_ ⟨rfl, rfl⟩
      go_wp2_with fail
      refine (write_calls _ _ hm (by first | exact Below.refl _ _ | exact (Below.refl _ _).drew)).mono ?_
      rintro e_ w_ ⟨g_, s_, st_, hc_⟩
      refine Or.elim hc_ (fun hd_ => ?_) (fun ⟨hx_, he_, hm_⟩ => by subst he_; first | exact ⟨rfl, MPost.halt hx_ st_ hm_ HR⟩ | exact MPost.halt hx_ st_ hm_ HR)
      clear hc_
      obtain ⟨x_, hx_, rfl, hm_⟩ := hd_
      replace HR := MPost.seq hx_ st_ HR
      replace hm := hm_
      clear r1 r2
      replace BX := Lib.hid (BX.out.step st_)
      have r1 := cell_of_blk BX.out.1 1
      have r2 := cell_of_blk BX.out.1 2
      simp at r1 r2
      clear hx_ st_
      go_wp2_with fail
      refine (set_calls _ _ hm (by first | exact Below.refl _ _ | exact (Below.refl _ _).drew)).mono ?_
      rintro e_ w_ ⟨g_, s_, st_, hc_⟩
      refine Or.elim hc_ (fun hd_ => ?_) (fun ⟨hx_, he_, hm_⟩ => by subst he_; first | exact ⟨rfl, MPost.halt hx_ st_ hm_ HR⟩ | exact MPost.halt hx_ st_ hm_ HR)
      clear hc_
      obtain ⟨x_, hx_, rfl, hm_⟩ := hd_
      replace HR := MPost.seq hx_ st_ HR
      replace hm := hm_
      clear r1 r2
      replace BX := Lib.hid (BX.out.step st_)
      have r1 := cell_of_blk BX.out.1 1
      have r2 := cell_of_blk BX.out.1 2
      simp at r1 r2
      clear hx_ st_
      go_wp2_with fail
      go_region_held2 (fun W => W.cell? ⟨w.heap.size, 1, none⟩ = some (.int .i64 r.base) ∧ W.cell? ⟨w.heap.size, 2, none⟩ = some (.int .i64 r.loc)) (first | assumption | exact ⟨by assumption, by assumption⟩ | exact ⟨by assumption, by assumption, by assumption, by assumption, by assumption, by assumption, by assumption⟩ | simp [*]) (first | (go_at_call 33; refine (read_calls _ hm (by first | exact Below.refl _ _ | exact (Below.refl _ _).drew)).mono ?_; rintro e_ w_ ⟨g_, s_, st_, hc_⟩; refine Or.elim hc_ (fun hd_ => ?_) (fun ⟨hx_, he_, hm_⟩ => by subst he_; first | exact ⟨rfl, MPost.halt hx_ st_ hm_ HR⟩ | exact MPost.halt hx_ st_ hm_ HR); clear hc_; obtain ⟨x_, hx_, rfl, hm_⟩ := hd_; replace HR := MPost.seq hx_ st_ HR; replace hm := hm_; clear r1 r2; replace BX := Lib.hid (BX.out.step st_); have r1 := cell_of_blk BX.out.1 1; have r2 := cell_of_blk BX.out.1 2; simp at r1 r2; clear hx_ st_) | (go_at_call 55; refine (set_calls _ _ hm (by first | exact Below.refl _ _ | exact (Below.refl _ _).drew)).mono ?_; rintro e_ w_ ⟨g_, s_, st_, hc_⟩; refine Or.elim hc_ (fun hd_ => ?_) (fun ⟨hx_, he_, hm_⟩ => by subst he_; first | exact ⟨rfl, MPost.halt hx_ st_ hm_ HR⟩ | exact MPost.halt hx_ st_ hm_ HR); clear hc_; obtain ⟨x_, hx_, rfl, hm_⟩ := hd_; replace HR := MPost.seq hx_ st_ HR; replace hm := hm_; clear r1 r2; replace BX := Lib.hid (BX.out.step st_); have r1 := cell_of_blk BX.out.1 1; have r2 := cell_of_blk BX.out.1 2; simp at r1 r2; clear hx_ st_))
      go_wp2_with fail
      go_region_held2 (fun W => W.cell? ⟨w.heap.size, 1, none⟩ = some (.int .i64 r.base) ∧ W.cell? ⟨w.heap.size, 2, none⟩ = some (.int .i64 r.loc)) (first | assumption | exact ⟨by assumption, by assumption⟩ | exact ⟨by assumption, by assumption, by assumption, by assumption, by assumption, by assumption, by assumption⟩ | simp [*]) (first | (go_at_call 33; refine (read_calls _ hm (by first | exact Below.refl _ _ | exact (Below.refl _ _).drew)).mono ?_; rintro e_ w_ ⟨g_, s_, st_, hc_⟩; refine Or.elim hc_ (fun hd_ => ?_) (fun ⟨hx_, he_, hm_⟩ => by subst he_; first | exact ⟨rfl, MPost.halt hx_ st_ hm_ HR⟩ | exact MPost.halt hx_ st_ hm_ HR); clear hc_; obtain ⟨x_, hx_, rfl, hm_⟩ := hd_; replace HR := MPost.seq hx_ st_ HR; replace hm := hm_; clear r1 r2; replace BX := Lib.hid (BX.out.step st_); have r1 := cell_of_blk BX.out.1 1; have r2 := cell_of_blk BX.out.1 2; simp at r1 r2; clear hx_ st_) | (go_at_call 54; refine (get_calls _ hm (by first | exact Below.refl _ _ | exact (Below.refl _ _).drew)).mono ?_; rintro e_ w_ ⟨rfl, rfl⟩))
      by_cases h3 : x_ = getS (r.loc + 2) s_
      · rw [if_pos h3] at HR
        have hq : (x_ == getS (r.loc + 2) s_) = true := by simp [h3]
        clear h3
        go_wp2_with fail
        refine (get_calls _ hm (by first | exact Below.refl _ _ | exact (Below.refl _ _).drew)).mono ?_
        rintro e_ w_ ⟨rfl, rfl⟩
        go_wp2_with fail
        go_step3
        exact ⟨rfl, rfl, rfl, _, rfl, rfl, MPost.done (enc := Value.int .i64) hm HR⟩
      · rw [if_neg h3] at HR
        have hq : (x_ == getS (r.loc + 2) s_) = false := by simp [h3]
        clear h3
        go_wp2_with fail
        clear hq
        go_region_held2 (fun W => W.cell? ⟨w.heap.size, 1, none⟩ = some (.int .i64 r.base) ∧ W.cell? ⟨w.heap.size, 2, none⟩ = some (.int .i64 r.loc)) (first | assumption | exact ⟨by assumption, by assumption⟩ | exact ⟨by assumption, by assumption, by assumption, by assumption, by assumption, by assumption, by assumption⟩ | simp [*]) (first | (go_at_call 33; refine (read_calls _ hm (by first | exact Below.refl _ _ | exact (Below.refl _ _).drew)).mono ?_; rintro e_ w_ ⟨g_, s_, st_, hc_⟩; refine Or.elim hc_ (fun hd_ => ?_) (fun ⟨hx_, he_, hm_⟩ => by subst he_; first | exact ⟨rfl, MPost.halt hx_ st_ hm_ HR⟩ | exact MPost.halt hx_ st_ hm_ HR); clear hc_; obtain ⟨x_, hx_, rfl, hm_⟩ := hd_; replace HR := MPost.seq hx_ st_ HR; replace hm := hm_; clear r1 r2; replace BX := Lib.hid (BX.out.step st_); have r1 := cell_of_blk BX.out.1 1; have r2 := cell_of_blk BX.out.1 2; simp at r1 r2; clear hx_ st_) | (go_at_call 55; refine (set_calls _ _ hm (by first | exact Below.refl _ _ | exact (Below.refl _ _).drew)).mono ?_; rintro e_ w_ ⟨g_, s_, st_, hc_⟩; refine Or.elim hc_ (fun hd_ => ?_) (fun ⟨hx_, he_, hm_⟩ => by subst he_; first | exact ⟨rfl, MPost.halt hx_ st_ hm_ HR⟩ | exact MPost.halt hx_ st_ hm_ HR); clear hc_; obtain ⟨x_, hx_, rfl, hm_⟩ := hd_; replace HR := MPost.seq hx_ st_ HR; replace hm := hm_; clear r1 r2; replace BX := Lib.hid (BX.out.step st_); have r1 := cell_of_blk BX.out.1 1; have r2 := cell_of_blk BX.out.1 2; simp at r1 r2; clear hx_ st_))
        go_wp2_with fail
        go_step3
        exact ⟨rfl, rfl, rfl, _, rfl, rfl, MPost.done (enc := Value.int .i64) hm HR⟩
theorem trompR_calls {b : Nat} {w W : World} {g : Gh} {s : St} (r : Reg) (hr : r.In) (hm : MemP b w g s) (hW : Below w.heap.size w W) :
    Calls Try.prog 36 #[.pointer (some ⟨b, 0, none⟩), r.v] W (MPost b (Value.int .i64) w g (trompR r s)) :=
  (trompR_calls0 r hr (hm.below hW)).mono (MPost.from hW)
end Go.Proofs.Ytfaihahpnjgejaa
namespace Go.Proofs.Ytfaihahpnjgejaa
open Go.RowKit

def bit01 (v : Int) : Int := if v = 0 then 0 else 1
def steadyW (r : Reg) (v : Int) : OpM Unit := fun s =>
  if getS r.loc s = bit01 v then (some (), s) else OpM.bind (writeM r.base (bit01 v)) (fun _ => OpM.bind (setM r.loc (bit01 v)) fun _ => OpM.ret ()) s
def steadyR (r : Reg) : OpM Int := OpM.bind (readM r.base) OpM.ret

set_option maxRecDepth 100000 in
set_option maxHeartbeats 4000000 in
theorem steadyR_calls0 {b : Nat} {w : World} {g : Gh} {s : St} (r : Reg) (hm : MemP b w g s) :
    Calls Try.prog 34 #[.pointer (some ⟨b, 0, none⟩), r.v] w (MPost b (Value.int .i64) w g (steadyR r s)) := by
  refine Calls.of_post fun R HR => ?_
  obtain ⟨hm0, BX⟩ := hm.box r.cs 23
  replace HR := MPost.move (Step.of_alloc w g (.cells r.cs 23)) HR
  replace hm := hm0
  clear hm0
  simp only [Reg.v, Reg.cs] at hm HR BX ⊢
  replace BX := Lib.hid BX
  have r1 := cell_of_blk BX.out.1 1
  have r2 := cell_of_blk BX.out.1 2
  simp at r1 r2
  go_enter Try.func34, Try.ntmps34
  go_wp2_with fail
  refine (read_calls _ hm (by first | exact Below.refl _ _ | exact (Below.refl _ _).drew)).mono ?_
  rintro e_ w_ ⟨g_, s_, st_, hc_⟩
  refine Or.elim hc_ (fun hd_ => ?_) (fun ⟨hx_, he_, hm_⟩ => by subst he_; first | exact ⟨rfl, MPost.halt hx_ st_ hm_ HR⟩ | exact MPost.halt hx_ st_ hm_ HR)
  clear hc_
  obtain ⟨x_, hx_, rfl, hm_⟩ := hd_
  replace HR := MPost.seq hx_ st_ HR
  replace hm := hm_
  clear r1 r2
  replace BX := Lib.hid (BX.out.step st_)
  have r1 := cell_of_blk BX.out.1 1
  have r2 := cell_of_blk BX.out.1 2
  simp at r1 r2
  clear hx_ st_
  go_wp2_with fail
  exact MPost.done (enc := Value.int .i64) hm HR
theorem steadyR_calls {b : Nat} {w W : World} {g : Gh} {s : St} (r : Reg) (hm : MemP b w g s) (hW : Below w.heap.size w W) :
    Calls Try.prog 34 #[.pointer (some ⟨b, 0, none⟩), r.v] W (MPost b (Value.int .i64) w g (steadyR r s)) :=
  (steadyR_calls0 r (hm.below hW)).mono (MPost.from hW)

set_option maxRecDepth 100000 in
set_option maxHeartbeats 4000000 in
theorem steadyW_calls0 {b : Nat} {w : World} {g : Gh} {s : St} (r : Reg) (v : Int) (hm : MemP b w g s) :
    Calls Try.prog 27 #[.pointer (some ⟨b, 0, none⟩), r.v, .int .i64 v] w (MPost b (unitV) w g (steadyW r v s)) := by
  obtain ⟨c, hc⟩ : ∃ c, bit01 v = c := ⟨_, rfl⟩
  unfold steadyW
  rw [hc]
  have hc2 : (v = 0 ∧ c = 0) ∨ (v ≠ 0 ∧ c = 1) := by rw [← hc]; unfold bit01; by_cases h : v = 0 <;> simp [h]
  clear hc
  rcases hc2 with ⟨rfl, rfl⟩ | ⟨hv, rfl⟩
  all_goals
    try have hvb : (v != 0) = true := by simp [hv]
    try clear hv
    refine Calls.of_post fun R HR => ?_
    obtain ⟨hm0, BX⟩ := hm.box r.cs 23
    replace HR := MPost.move (Step.of_alloc w g (.cells r.cs 23)) HR
    replace hm := hm0
    clear hm0
    simp only [Reg.v, Reg.cs] at hm HR BX ⊢
    replace BX := Lib.hid BX
    have r1 := cell_of_blk BX.out.1 1
    have r2 := cell_of_blk BX.out.1 2
    simp at r1 r2
    go_enter Try.func27, Try.ntmps27
    go_wp2_with fail
    refine (get_calls _ hm (by first | exact Below.refl _ _ | exact (Below.refl _ _).drew)).mono ?_
    rintro e_ w_ ⟨rfl, rfl⟩
  · by_cases h1 : getS r.loc s = 0
    · rw [if_pos h1] at HR
      have hq : (getS r.loc s == 0) = true := by simp [h1]
      clear h1
      go_wp2_with fail
      go_end0
      exact MPost.done (enc := unitV) (x := ()) hm HR
    · rw [if_neg h1] at HR
      have hq : (getS r.loc s == 0) = false := by simp [h1]
      clear h1
      go_wp2_with fail
      refine (write_calls _ _ hm (by first | exact Below.refl _ _ | exact (Below.refl _ _).drew)).mono ?_
      rintro e_ w_ ⟨g_, s_, st_, hc_⟩
      refine Or.elim hc_ (fun hd_ => ?_) (fun ⟨hx_, he_, hm_⟩ => by subst he_; first | exact ⟨rfl, MPost.halt hx_ st_ hm_ HR⟩ | exact MPost.halt hx_ st_ hm_ HR)
      clear hc_
      obtain ⟨x_, hx_, rfl, hm_⟩ := hd_
      replace HR := MPost.seq hx_ st_ HR
      replace hm := hm_
      clear r1 r2
      replace BX := Lib.hid (BX.out.step st_)
      have r1 := cell_of_blk BX.out.1 1
      have r2 := cell_of_blk BX.out.1 2
      simp at r1 r2
      clear hx_ st_
      go_wp2_with fail
      refine (set_calls _ _ hm (by first | exact Below.refl _ _ | exact (Below.refl _ _).drew)).mono ?_
      rintro e_ w_ ⟨g_, s_, st_, hc_⟩
      refine Or.elim hc_ (fun hd_ => ?_) (fun ⟨hx_, he_, hm_⟩ => by subst he_; first | exact ⟨rfl, MPost.halt hx_ st_ hm_ HR⟩ | exact MPost.halt hx_ st_ hm_ HR)
      clear hc_
      obtain ⟨x_, hx_, rfl, hm_⟩ := hd_
      replace HR := MPost.seq hx_ st_ HR
      replace hm := hm_
      clear r1 r2
      replace BX := Lib.hid (BX.out.step st_)
      have r1 := cell_of_blk BX.out.1 1
      have r2 := cell_of_blk BX.out.1 2
      simp at r1 r2
      clear hx_ st_
      go_wp2_with fail
      go_end0
      exact MPost.done (enc := unitV) (x := ()) hm HR
  · by_cases h1 : getS r.loc s = 1
    · rw [if_pos h1] at HR
      have hq : (getS r.loc s == 1) = true := by simp [h1]
      clear h1
      go_wp2_with fail
      go_end0
      exact MPost.done (enc := unitV) (x := ()) hm HR
    · rw [if_neg h1] at HR
      have hq : (getS r.loc s == 1) = false := by simp [h1]
      clear h1
      go_wp2_with fail
      refine (write_calls _ _ hm (by first | exact Below.refl _ _ | exact (Below.refl _ _).drew)).mono ?_
      rintro e_ w_ ⟨g_, s_, st_, hc_⟩
      refine Or.elim hc_ (fun hd_ => ?_) (fun ⟨hx_, he_, hm_⟩ => by subst he_; first | exact ⟨rfl, MPost.halt hx_ st_ hm_ HR⟩ | exact MPost.halt hx_ st_ hm_ HR)
      clear hc_
      obtain ⟨x_, hx_, rfl, hm_⟩ := hd_
      replace HR := MPost.seq hx_ st_ HR
      replace hm := hm_
      clear r1 r2
      replace BX := Lib.hid (BX.out.step st_)
      have r1 := cell_of_blk BX.out.1 1
      have r2 := cell_of_blk BX.out.1 2
      simp at r1 r2
      clear hx_ st_
      go_wp2_with fail
      refine (set_calls _ _ hm (by first | exact Below.refl _ _ | exact (Below.refl _ _).drew)).mono ?_
      rintro e_ w_ ⟨g_, s_, st_, hc_⟩
      refine Or.elim hc_ (fun hd_ => ?_) (fun ⟨hx_, he_, hm_⟩ => by subst he_; first | exact ⟨rfl, MPost.halt hx_ st_ hm_ HR⟩ | exact MPost.halt hx_ st_ hm_ HR)
      clear hc_
      obtain ⟨x_, hx_, rfl, hm_⟩ := hd_
      replace HR := MPost.seq hx_ st_ HR
      replace hm := hm_
      clear r1 r2
      replace BX := Lib.hid (BX.out.step st_)
      have r1 := cell_of_blk BX.out.1 1
      have r2 := cell_of_blk BX.out.1 2
      simp at r1 r2
      clear hx_ st_
      go_wp2_with fail
      go_end0
      exact MPost.done (enc := unitV) (x := ()) hm HR
theorem steadyW_calls {b : Nat} {w W : World} {g : Gh} {s : St} (r : Reg) (v : Int) (hm : MemP b w g s) (hW : Below w.heap.size w W) :
    Calls Try.prog 27 #[.pointer (some ⟨b, 0, none⟩), r.v, .int .i64 v] W (MPost b (unitV) w g (steadyW r v s)) :=
  (steadyW_calls0 r v (hm.below hW)).mono (MPost.from hW)
end Go.Proofs.Ytfaihahpnjgejaa
namespace Go.Proofs.Ytfaihahpnjgejaa
open Go.RowKit

def trompW (r : Reg) (v : Int) : OpM Unit := fun s =>
  if getS r.loc s = bit01 v then (some (), s) else
  OpM.bind (writeM r.base (bit01 v)) (fun _ => OpM.bind (setM r.loc (bit01 v)) fun _ s1 =>
  OpM.bind (readM (r.base + 2)) (fun x s2 =>
    if x = getS (r.loc + 1) s1 then
      OpM.bind (writeM (r.base + 1) (wrap64 (1 - getS (r.loc + 1) s1))) (fun _ => OpM.bind (setM (r.loc + 1) (wrap64 (1 - getS (r.loc + 1) s1))) fun _ => OpM.ret ()) s2
    else (some (), s2)) s1) s

set_option maxRecDepth 100000 in
set_option maxHeartbeats 4000000 in
theorem trompW_calls0 {b : Nat} {w : World} {g : Gh} {s : St} (r : Reg) (v : Int) (hr : r.In) (hm : MemP b w g s) :
    Calls Try.prog 29 #[.pointer (some ⟨b, 0, none⟩), r.v, .int .i64 v] w (MPost b (unitV) w g (trompW r v s)) := by
  obtain ⟨c, hc⟩ : ∃ c, bit01 v = c := ⟨_, rfl⟩
  unfold trompW
  rw [hc]
  have hc2 : (v = 0 ∧ c = 0) ∨ (v ≠ 0 ∧ c = 1) := by rw [← hc]; unfold bit01; by_cases h : v = 0 <;> simp [h]
  clear hc
  obtain ⟨hb1, hb2, hl1, hl2⟩ := hr
  by_cases h1 : getS r.loc s = c
  · rw [if_pos h1]
    rcases hc2 with ⟨rfl, rfl⟩ | ⟨hv, rfl⟩
    all_goals
      try have hvb : (v != 0) = true := by simp [hv]
      try clear hv
      refine (?_ : Calls _ _ _ _ _)
      have hq : (getS r.loc s == _) = true := beq_iff_eq.2 h1
      clear h1
      refine Calls.of_post fun R HR => ?_
      obtain ⟨hm0, BX⟩ := hm.box r.cs 23
      replace HR := MPost.move (Step.of_alloc w g (.cells r.cs 23)) HR
      replace hm := hm0
      clear hm0
      simp only [Reg.v, Reg.cs] at hm HR BX ⊢
      replace BX := Lib.hid BX
      have r1 := cell_of_blk BX.out.1 1
      have r2 := cell_of_blk BX.out.1 2
      simp at r1 r2
      go_enter Try.func29, Try.ntmps29
      go_wp2_with fail
      refine (get_calls _ hm (by first | exact Below.refl _ _ | exact (Below.refl _ _).drew)).mono ?_
      rintro e_ w_ ⟨rfl, rfl⟩
      go_wp2_with fail
      go_end0
      exact MPost.done (enc := unitV) (x := ()) hm HR
  · rw [if_neg h1]
    rcases hc2 with ⟨rfl, rfl⟩ | ⟨hv, rfl⟩
    all_goals
      try have hvb : (v != 0) = true := by simp [hv]
      try clear hv
      have hq : (getS r.loc s == _) = false := beq_eq_false_iff_ne.2 h1
      clear h1
      refine Calls.of_post fun R HR => ?_
      obtain ⟨hm0, BX⟩ := hm.box r.cs 23
      replace HR := MPost.move (Step.of_alloc w g (.cells r.cs 23)) HR
      replace hm := hm0
      clear hm0
      simp only [Reg.v, Reg.cs] at hm HR BX ⊢
      replace BX := Lib.hid BX
      have r1 := cell_of_blk BX.out.1 1
      have r2 := cell_of_blk BX.out.1 2
      simp at r1 r2
      go_enter Try.func29, Try.ntmps29
      go_wp2_with fail
      refine (get_calls _ hm (by first | exact Below.refl _ _ | exact (Below.refl _ _).drew)).mono ?_
      rintro e_ w_ ⟨rfl, rfl⟩
      go_wp2_with fail
      clear hq
      refine (write_calls _ _ hm (by first | exact Below.refl _ _ | exact (Below.refl _ _).drew)).mono ?_
      rintro e_ w_ ⟨g_, s_, st_, hc_⟩
      refine Or.elim hc_ (fun hd_ => ?_) (fun ⟨hx_, he_, hm_⟩ => by subst he_; first | exact ⟨rfl, MPost.halt hx_ st_ hm_ HR⟩ | exact MPost.halt hx_ st_ hm_ HR)
      clear hc_
      obtain ⟨x_, hx_, rfl, hm_⟩ := hd_
      replace HR := MPost.seq hx_ st_ HR
      replace hm := hm_
      clear r1 r2
      replace BX := Lib.hid (BX.out.step st_)
      have r1 := cell_of_blk BX.out.1 1
      have r2 := cell_of_blk BX.out.1 2
      simp at r1 r2
      clear hx_ st_
      go_wp2_with fail
      refine (set_calls _ _ hm (by first | exact Below.refl _ _ | exact (Below.refl _ _).drew)).mono ?_
      rintro e_ w_ ⟨g_, s_, st_, hc_⟩
      refine Or.elim hc_ (fun hd_ => ?_) (fun ⟨hx_, he_, hm_⟩ => by subst he_; first | exact ⟨rfl, MPost.halt hx_ st_ hm_ HR⟩ | exact MPost.halt hx_ st_ hm_ HR)
      clear hc_
      obtain ⟨x_, hx_, rfl, hm_⟩ := hd_
      replace HR := MPost.seq hx_ st_ HR
      replace hm := hm_
      clear r1 r2
      replace BX := Lib.hid (BX.out.step st_)
      have r1 := cell_of_blk BX.out.1 1
      have r2 := cell_of_blk BX.out.1 2
      simp at r1 r2
      clear hx_ st_
      go_wp2_with fail
      refine (get_calls _ hm (by first | exact Below.refl _ _ | exact (Below.refl _ _).drew)).mono ?_
      rintro e_ w_ ⟨rfl, rfl⟩
      go_wp2_with fail
      obtain ⟨y, hy⟩ : ∃ y, getS (r.loc + 1) s_ = y := ⟨_, rfl⟩
      rw [hy] at HR ⊢
      clear hy
      refine (read_calls _ hm (by first | exact Below.refl _ _ | exact (Below.refl _ _).drew)).mono ?_
      rintro e_ w_ ⟨g_, s_, st_, hc_⟩
      refine Or.elim hc_ (fun hd_ => ?_) (fun ⟨hx_, he_, hm_⟩ => by subst he_; first | exact ⟨rfl, MPost.halt hx_ st_ hm_ HR⟩ | exact MPost.halt hx_ st_ hm_ HR)
      clear hc_
      obtain ⟨z, hx_, rfl, hm_⟩ := hd_
      replace HR := MPost.seq hx_ st_ HR
      replace hm := hm_
      clear r1 r2
      replace BX := Lib.hid (BX.out.step st_)
      have r1 := cell_of_blk BX.out.1 1
      have r2 := cell_of_blk BX.out.1 2
      simp at r1 r2
      clear hx_ st_
      by_cases h2 : z = y
      · rw [if_pos h2] at HR
        have hq : (z == y) = true := beq_iff_eq.2 h2
        clear h2
        go_wp2_with fail
        clear hq
        refine (write_calls _ _ hm (by first | exact Below.refl _ _ | exact (Below.refl _ _).drew)).mono ?_
        rintro e_ w_ ⟨g_, s_, st_, hc_⟩
        refine Or.elim hc_ (fun hd_ => ?_) (fun ⟨hx_, he_, hm_⟩ => by subst he_; first | exact ⟨rfl, MPost.halt hx_ st_ hm_ HR⟩ | exact MPost.halt hx_ st_ hm_ HR)
        clear hc_
        obtain ⟨x_, hx_, rfl, hm_⟩ := hd_
        replace HR := MPost.seq hx_ st_ HR
        replace hm := hm_
        clear r1 r2
        replace BX := Lib.hid (BX.out.step st_)
        have r1 := cell_of_blk BX.out.1 1
        have r2 := cell_of_blk BX.out.1 2
        simp at r1 r2
        clear hx_ st_
        go_wp2_with fail
        refine (set_calls _ _ hm (by first | exact Below.refl _ _ | exact (Below.refl _ _).drew)).mono ?_
        rintro e_ w_ ⟨g_, s_, st_, hc_⟩
        refine Or.elim hc_ (fun hd_ => ?_) (fun ⟨hx_, he_, hm_⟩ => by subst he_; first | exact ⟨rfl, MPost.halt hx_ st_ hm_ HR⟩ | exact MPost.halt hx_ st_ hm_ HR)
        clear hc_
        obtain ⟨x_, hx_, rfl, hm_⟩ := hd_
        replace HR := MPost.seq hx_ st_ HR
        replace hm := hm_
        clear r1 r2
        replace BX := Lib.hid (BX.out.step st_)
        have r1 := cell_of_blk BX.out.1 1
        have r2 := cell_of_blk BX.out.1 2
        simp at r1 r2
        clear hx_ st_
        go_wp2_with fail
        go_end0
        exact MPost.done (enc := unitV) (x := ()) hm HR
      · rw [if_neg h2] at HR
        have hq : (z == y) = false := beq_eq_false_iff_ne.2 h2
        clear h2
        go_wp2_with fail
        go_end0
        exact MPost.done (enc := unitV) (x := ()) hm HR
theorem trompW_calls {b : Nat} {w W : World} {g : Gh} {s : St} (r : Reg) (v : Int) (hr : r.In) (hm : MemP b w g s) (hW : Below w.heap.size w W) :
    Calls Try.prog 29 #[.pointer (some ⟨b, 0, none⟩), r.v, .int .i64 v] W (MPost b (unitV) w g (trompW r v s)) :=
  (trompW_calls0 r v hr (hm.below hW)).mono (MPost.from hW)

def unaryBit (r : Reg) (i : Int) : Reg := { r with kind := 2, base := r.base + i, loc := r.loc + i, top := 1 }
set_option maxRecDepth 100000 in
theorem unaryBit_calls {w W : World} (r : Reg) (i : Int) (hr : r.In) (hi : 0 ≤ i ∧ i ≤ 1000000) (hW : Below w.heap.size w W) :
    Calls Try.prog 83 #[r.v, .int .i64 i] W fun e w' => e = .returned (unaryBit r i).v ∧ Below w.heap.size w w' := by
  refine Calls.from_below hW ?_
  clear hW
  obtain ⟨hb1, hb2, hl1, hl2⟩ := hr
  obtain ⟨hi1, hi2⟩ := hi
  simp only [Reg.v, Reg.cs, unaryBit]
  go_enter Try.func83, Try.ntmps83
  go_wp2
  exact bodyPost_ret (v := .agg #[.int .i64 2, .int .i64 (r.base + i), .int .i64 (r.loc + i), .int .i64 r.n, .int .i64 r.writer, .int .i64 r.reader, .int .i64 1]) (by simp [results, Try.results83, go_sem]) rfl ⟨rfl, (by repeat first | exact Below.refl _ _ | refine Below.alloc ?_ (by simp) _ | refine Below.setCell ?_ (by simp) _ | refine Below.drew ?_ | refine RowKit.below_drewN ?_ _ | refine below_drewN ?_ _)⟩
end Go.Proofs.Ytfaihahpnjgejaa
namespace Go.Proofs.Ytfaihahpnjgejaa
open Go.RowKit

def upV (up : Bool) (i : Int) : Int := if up = (i == 0) then 0 else 1
def unaryPut (r : Reg) (i : Int) (up : Bool) : OpM Unit := OpM.bind (steadyW (unaryBit r i) (upV up i)) OpM.ret
def unaryUp (r : Reg) (i : Int) : OpM Bool := OpM.bind (steadyR (unaryBit r i)) fun x => OpM.ret ((x == 1) != (i == 0))
def boolV (b : Bool) : Value := .bool b

set_option maxRecDepth 100000 in
set_option maxHeartbeats 4000000 in
theorem unaryPut_calls0 {b : Nat} {w : World} {g : Gh} {s : St} (r : Reg) (i : Int) (up : Bool) (hr : r.In) (hi : 0 ≤ i ∧ i ≤ 1000000) (hm : MemP b w g s) :
    Calls Try.prog 57 #[.pointer (some ⟨b, 0, none⟩), r.v, .int .i64 i, .bool up] w (MPost b (unitV) w g (unaryPut r i up s)) := by
  obtain ⟨z, hz⟩ : ∃ z, (i == 0) = z := ⟨_, rfl⟩
  obtain ⟨c, hc⟩ : ∃ c, upV up i = c := ⟨_, rfl⟩
  unfold unaryPut
  rw [hc]
  have hc2 : (up = z ∧ c = 0) ∨ (up ≠ z ∧ c = 1) := by rw [← hc]; unfold upV; rw [hz]; by_cases h : up = z <;> simp [h]
  clear hc
  have HU := fun {w W : World} (hW : Below w.heap.size w W) => unaryBit_calls (w := w) (W := W) r i hr hi hW
  have hi1 := hi.1
  have hi2 := hi.2
  have hrr := hr
  obtain ⟨hb1, hb2, hl1, hl2⟩ := hr
  rcases hc2 with ⟨rfl, rfl⟩ | ⟨hv, rfl⟩
  all_goals
    try have hvb : (up == z) = false := by simpa using hv
    try clear hv
    refine Calls.of_post fun R HR => ?_
    obtain ⟨hm0, BX⟩ := hm.box r.cs 23
    replace HR := MPost.move (Step.of_alloc w g (.cells r.cs 23)) HR
    replace hm := hm0
    clear hm0
    simp only [Reg.v, Reg.cs] at hm HR BX ⊢
    replace BX := Lib.hid BX
    have r0 := cell_of_blk BX.out.1 0
    have r1 := cell_of_blk BX.out.1 1
    have r2 := cell_of_blk BX.out.1 2
    have r3 := cell_of_blk BX.out.1 3
    have r4 := cell_of_blk BX.out.1 4
    have r5 := cell_of_blk BX.out.1 5
    have r6 := cell_of_blk BX.out.1 6
    simp at r0 r1 r2 r3 r4 r5 r6
    go_enter Try.func57, Try.ntmps57
    go_wp2_with fail
    refine (HU (MemP.blw hm (by first | exact Below.refl _ _ | exact (Below.refl _ _).drew))).mono ?_
    rintro e_ w_ ⟨rfl, hbl_⟩
    replace HR := MPost.move (Step.of_below _ hbl_) HR
    replace hm := hm.below hbl_
    clear r0 r1 r2 r3 r4 r5 r6
    replace BX := Lib.hid (BX.out.below hbl_)
    have r0 := cell_of_blk BX.out.1 0
    have r1 := cell_of_blk BX.out.1 1
    have r2 := cell_of_blk BX.out.1 2
    have r3 := cell_of_blk BX.out.1 3
    have r4 := cell_of_blk BX.out.1 4
    have r5 := cell_of_blk BX.out.1 5
    have r6 := cell_of_blk BX.out.1 6
    simp at r0 r1 r2 r3 r4 r5 r6
    clear hbl_
    go_wp2_with fail
    refine (steadyW_calls _ _ hm (by first | exact Below.refl _ _ | exact (Below.refl _ _).drew)).mono ?_
    rintro e_ w_ ⟨g_, s_, st_, hc_⟩
    refine Or.elim hc_ (fun hd_ => ?_) (fun ⟨hx_, he_, hm_⟩ => by subst he_; first | exact ⟨rfl, MPost.halt hx_ st_ hm_ HR⟩ | exact MPost.halt hx_ st_ hm_ HR)
    clear hc_
    obtain ⟨x_, hx_, rfl, hm_⟩ := hd_
    replace HR := MPost.seq hx_ st_ HR
    replace hm := hm_
    clear r0 r1 r2 r3 r4 r5 r6
    replace BX := Lib.hid (BX.out.step st_)
    have r0 := cell_of_blk BX.out.1 0
    have r1 := cell_of_blk BX.out.1 1
    have r2 := cell_of_blk BX.out.1 2
    have r3 := cell_of_blk BX.out.1 3
    have r4 := cell_of_blk BX.out.1 4
    have r5 := cell_of_blk BX.out.1 5
    have r6 := cell_of_blk BX.out.1 6
    simp at r0 r1 r2 r3 r4 r5 r6
    clear hx_ st_
    go_wp2_with fail
    go_end0
    exact MPost.done (enc := unitV) (x := ()) hm HR
theorem unaryPut_calls {b : Nat} {w W : World} {g : Gh} {s : St} (r : Reg) (i : Int) (up : Bool) (hr : r.In) (hi : 0 ≤ i ∧ i ≤ 1000000) (hm : MemP b w g s) (hW : Below w.heap.size w W) :
    Calls Try.prog 57 #[.pointer (some ⟨b, 0, none⟩), r.v, .int .i64 i, .bool up] W (MPost b (unitV) w g (unaryPut r i up s)) :=
  (unaryPut_calls0 r i up hr hi (hm.below hW)).mono (MPost.from hW)

set_option maxRecDepth 100000 in
set_option maxHeartbeats 4000000 in
theorem unaryUp_calls0 {b : Nat} {w : World} {g : Gh} {s : St} (r : Reg) (i : Int) (hr : r.In) (hi : 0 ≤ i ∧ i ≤ 1000000) (hm : MemP b w g s) :
    Calls Try.prog 72 #[.pointer (some ⟨b, 0, none⟩), r.v, .int .i64 i] w (MPost b (boolV) w g (unaryUp r i s)) := by
  have HU := fun {w W : World} (hW : Below w.heap.size w W) => unaryBit_calls (w := w) (W := W) r i hr hi hW
  have hi1 := hi.1
  have hi2 := hi.2
  have hrr := hr
  obtain ⟨hb1, hb2, hl1, hl2⟩ := hr
  refine Calls.of_post fun R HR => ?_
  obtain ⟨hm0, BX⟩ := hm.box r.cs 23
  replace HR := MPost.move (Step.of_alloc w g (.cells r.cs 23)) HR
  replace hm := hm0
  clear hm0
  simp only [Reg.v, Reg.cs] at hm HR BX ⊢
  replace BX := Lib.hid BX
  have r0 := cell_of_blk BX.out.1 0
  have r1 := cell_of_blk BX.out.1 1
  have r2 := cell_of_blk BX.out.1 2
  have r3 := cell_of_blk BX.out.1 3
  have r4 := cell_of_blk BX.out.1 4
  have r5 := cell_of_blk BX.out.1 5
  have r6 := cell_of_blk BX.out.1 6
  simp at r0 r1 r2 r3 r4 r5 r6
  go_enter Try.func72, Try.ntmps72
  go_wp2_with fail
  refine (HU (MemP.blw hm (by first | exact Below.refl _ _ | exact (Below.refl _ _).drew))).mono ?_
  rintro e_ w_ ⟨rfl, hbl_⟩
  replace HR := MPost.move (Step.of_below _ hbl_) HR
  replace hm := hm.below hbl_
  clear r0 r1 r2 r3 r4 r5 r6
  replace BX := Lib.hid (BX.out.below hbl_)
  have r0 := cell_of_blk BX.out.1 0
  have r1 := cell_of_blk BX.out.1 1
  have r2 := cell_of_blk BX.out.1 2
  have r3 := cell_of_blk BX.out.1 3
  have r4 := cell_of_blk BX.out.1 4
  have r5 := cell_of_blk BX.out.1 5
  have r6 := cell_of_blk BX.out.1 6
  simp at r0 r1 r2 r3 r4 r5 r6
  clear hbl_
  go_wp2_with fail
  refine (steadyR_calls _ hm (by first | exact Below.refl _ _ | exact (Below.refl _ _).drew)).mono ?_
  rintro e_ w_ ⟨g_, s_, st_, hc_⟩
  refine Or.elim hc_ (fun hd_ => ?_) (fun ⟨hx_, he_, hm_⟩ => by subst he_; first | exact ⟨rfl, MPost.halt hx_ st_ hm_ HR⟩ | exact MPost.halt hx_ st_ hm_ HR)
  clear hc_
  obtain ⟨x_, hx_, rfl, hm_⟩ := hd_
  replace HR := MPost.seq hx_ st_ HR
  replace hm := hm_
  clear r0 r1 r2 r3 r4 r5 r6
  replace BX := Lib.hid (BX.out.step st_)
  have r0 := cell_of_blk BX.out.1 0
  have r1 := cell_of_blk BX.out.1 1
  have r2 := cell_of_blk BX.out.1 2
  have r3 := cell_of_blk BX.out.1 3
  have r4 := cell_of_blk BX.out.1 4
  have r5 := cell_of_blk BX.out.1 5
  have r6 := cell_of_blk BX.out.1 6
  simp at r0 r1 r2 r3 r4 r5 r6
  clear hx_ st_
  go_wp2_with fail
  exact MPost.done (enc := boolV) hm HR
theorem unaryUp_calls {b : Nat} {w W : World} {g : Gh} {s : St} (r : Reg) (i : Int) (hr : r.In) (hi : 0 ≤ i ∧ i ≤ 1000000) (hm : MemP b w g s) (hW : Below w.heap.size w W) :
    Calls Try.prog 72 #[.pointer (some ⟨b, 0, none⟩), r.v, .int .i64 i] W (MPost b (boolV) w g (unaryUp r i s)) :=
  (unaryUp_calls0 r i hr hi (hm.below hW)).mono (MPost.from hW)
end Go.Proofs.Ytfaihahpnjgejaa
namespace Go.Proofs.Ytfaihahpnjgejaa
open Go.RowKit
theorem ret_int {k : IntKind} {a b : Int} (h : a = b) : Ending.returned (.int k a) = .returned (.int k b) := by rw [h]
def uMost (t : Int) : Int := max 0 (min t 255)
set_option maxRecDepth 100000 in
theorem unaryMost_calls0 (t : Int) (w : World) :
    Calls Try.prog 56 #[.int .i64 t] w fun e w' => e = .returned (.int .i64 (uMost t)) ∧ w = w' := by
  go_enter Try.func56, Try.ntmps56
  go_wp2
  all_goals
    go_ret
    exact ⟨ret_int (by unfold uMost; omega), rfl⟩
theorem unaryMost_calls {b : Nat} {w W : World} {g : Gh} {s : St} (t : Int) (_hm : MemP b w g s) (_hW : Below w.heap.size w W) :
    Calls Try.prog 56 #[.int .i64 t] W fun e w' => e = .returned (.int .i64 (uMost t)) ∧ W = w' := unaryMost_calls0 t W

theorem unaryMost_callsE {b : Nat} {w W : World} {g : Gh} {s : St} {t M : Int} (hM : Hid (uMost t = M)) (_hm : MemP b w g s) (_hW : Below w.heap.size w W) :
    Calls Try.prog 56 #[.int .i64 t] W fun e w' => e = .returned (.int .i64 M) ∧ W = w' := by
  have h := unaryMost_calls0 t W
  rw [hM.out] at h; exact h

def unaryLow (r : Reg) : Nat → OpM Unit
  | 0 => OpM.ret ()
  | n + 1 => OpM.bind (unaryPut r n false) fun _ => unaryLow r n
def unaryW (r : Reg) (v : Int) : OpM Unit :=
  OpM.bind (unaryPut r (max 0 (min v (uMost r.top))) true) fun _ => unaryLow r (max 0 (min v (uMost r.top))).toNat
theorem uMost_range (t : Int) : 0 ≤ uMost t ∧ uMost t ≤ 255 := by unfold uMost; omega

set_option maxRecDepth 100000 in
set_option maxHeartbeats 4000000 in
theorem unaryW_calls0 {b : Nat} {w : World} {g : Gh} {s : St} (r : Reg) (v : Int) (hr : r.In) (hm : MemP b w g s) :
    Calls Try.prog 28 #[.pointer (some ⟨b, 0, none⟩), r.v, .int .i64 v] w (MPost b (unitV) w g (unaryW r v s)) := by
  have hM := uMost_range r.top
  unfold unaryW
  generalize hMM : uMost r.top = M at *
  obtain ⟨y, hy⟩ : ∃ y : Int, (if M < v then M else v) = y := ⟨_, rfl⟩
  obtain ⟨z, hz⟩ : ∃ z : Int, (if 0 < y then y else 0) = z := ⟨_, rfl⟩
  have hzz : max 0 (min v M) = z := by rw [← hz, ← hy]; split <;> split <;> omega
  have hz0 : 0 ≤ z := by rw [← hz]; split <;> omega
  have hz1 : z ≤ 255 := by rw [← hz, ← hy]; split <;> split <;> omega
  rw [hzz]
  clear hzz hM
  replace hMM := Lib.hid hMM
  obtain ⟨n, rfl⟩ := Int.eq_ofNat_of_zero_le hz0
  rw [Int.toNat_natCast]
  refine Calls.of_post fun R HR => ?_
  obtain ⟨hm0, BX⟩ := hm.box r.cs 23
  replace HR := MPost.move (Step.of_alloc w g (.cells r.cs 23)) HR
  replace hm := hm0
  clear hm0
  simp only [Reg.v, Reg.cs] at hm HR BX ⊢
  replace BX := Lib.hid BX
  have r0 := cell_of_blk BX.out.1 0
  have r1 := cell_of_blk BX.out.1 1
  have r2 := cell_of_blk BX.out.1 2
  have r3 := cell_of_blk BX.out.1 3
  have r4 := cell_of_blk BX.out.1 4
  have r5 := cell_of_blk BX.out.1 5
  have r6 := cell_of_blk BX.out.1 6
  simp at r0 r1 r2 r3 r4 r5 r6
  go_enter Try.func28, Try.ntmps28
  go_wp2_with fail
  refine (unaryMost_callsE hMM hm (by first | exact Below.refl _ _ | exact (Below.refl _ _).drew)).mono ?_
  rintro e_ w_ ⟨rfl, rfl⟩
  go_wp2_with fail
  refine (unaryPut_calls _ _ _ hr (by omega) hm (by first | exact Below.refl _ _ | exact (Below.refl _ _).drew)).mono ?_
  rintro e_ w_ ⟨g_, s_, st_, hc_⟩
  refine Or.elim hc_ (fun hd_ => ?_) (fun ⟨hx_, he_, hm_⟩ => by subst he_; first | exact ⟨rfl, MPost.halt hx_ st_ hm_ HR⟩ | exact MPost.halt hx_ st_ hm_ HR)
  clear hc_
  obtain ⟨x_, hx_, rfl, hm_⟩ := hd_
  replace HR := MPost.seq hx_ st_ HR
  replace hm := hm_
  clear r0 r1 r2 r3 r4 r5 r6
  replace BX := Lib.hid (BX.out.step st_)
  have r0 := cell_of_blk BX.out.1 0
  have r1 := cell_of_blk BX.out.1 1
  have r2 := cell_of_blk BX.out.1 2
  have r3 := cell_of_blk BX.out.1 3
  have r4 := cell_of_blk BX.out.1 4
  have r5 := cell_of_blk BX.out.1 5
  have r6 := cell_of_blk BX.out.1 6
  simp at r0 r1 r2 r3 r4 r5 r6
  clear hx_ st_
  go_wp2_with fail
  clear hy hz
  obtain ⟨kb, hkb⟩ : ∃ kb, w.heap.size = kb := ⟨_, rfl⟩
  rw [hkb] at BX ⊢
  go_loopw [18] (fun i wr => ∃ (k : Nat) (g' : Gh) (s' : St), k ≤ n ∧ i = .int .i64 k ∧ MemP b wr g' s' ∧ Hid (BoxAt wr g' kb #[.int .i64 r.kind, .int .i64 r.base, .int .i64 r.loc, .int .i64 r.n, .int .i64 r.writer, .int .i64 r.reader, .int .i64 r.top] 23) ∧ Hid (∀ e w', MPost b unitV wr g' (unaryLow r (n - k) s') e w' → R e w')) (fun i _ => n - (intOf i).toNat)
  case atStart => exact ⟨0, _, _, Nat.zero_le _, rfl, hm, BX, HR⟩
  case round =>
    obtain ⟨k, g, s, hk, rfl, hm, BX, HR⟩ := hrel
    have r0 := cell_of_blk BX.out.1 0
    have r1 := cell_of_blk BX.out.1 1
    have r2 := cell_of_blk BX.out.1 2
    have r3 := cell_of_blk BX.out.1 3
    have r4 := cell_of_blk BX.out.1 4
    have r5 := cell_of_blk BX.out.1 5
    have r6 := cell_of_blk BX.out.1 6
    simp at r0 r1 r2 r3 r4 r5 r6
    by_cases hlt : k < n
    · obtain ⟨m, hnk⟩ : ∃ m, n - k = m + 1 := ⟨n - k - 1, by omega⟩
      have hmk : (m : Int) = (n : Int) - 1 - k := by omega
      rw [hnk, unaryLow, hmk] at HR
      replace hnk := Lib.hid hnk
      clear hmk
      go_wp2_with fail
      refine (unaryPut_calls _ _ _ hr (by omega) hm (by first | exact Below.refl _ _ | exact (Below.refl _ _).drew)).mono ?_
      rintro e_ w_ ⟨g_, s_, st_, hc_⟩
      refine Or.elim hc_ (fun hd_ => ?_) (fun ⟨hx_, he_, hm_⟩ => by subst he_; first | exact ⟨rfl, MPost.halt hx_ st_ hm_ HR⟩ | exact MPost.halt hx_ st_ hm_ HR)
      clear hc_
      obtain ⟨x_, hx_, rfl, hm_⟩ := hd_
      replace HR := MPost.seq hx_ st_ HR
      replace hm := hm_
      clear r0 r1 r2 r3 r4 r5 r6
      replace BX := Lib.hid (BX.out.step st_)
      have r0 := cell_of_blk BX.out.1 0
      have r1 := cell_of_blk BX.out.1 1
      have r2 := cell_of_blk BX.out.1 2
      have r3 := cell_of_blk BX.out.1 3
      have r4 := cell_of_blk BX.out.1 4
      have r5 := cell_of_blk BX.out.1 5
      have r6 := cell_of_blk BX.out.1 6
      simp at r0 r1 r2 r3 r4 r5 r6
      clear hx_ st_
      go_wp2_with fail
      go_roundw
      case rel => exact ⟨k + 1, _, _, by omega, by go_num, hm, BX, by have h := hnk.out; rw [show n - (k + 1) = m by omega]; exact HR⟩
      case measure => simp [intOf]; omega
    · have hnk : n - k = 0 := by omega
      rw [hnk, unaryLow] at HR
      clear hnk
      go_wp2_with fail
      go_end0
      exact MPost.done (enc := unitV) (x := ()) hm HR
theorem unaryW_calls {b : Nat} {w W : World} {g : Gh} {s : St} (r : Reg) (v : Int) (hr : r.In) (hm : MemP b w g s) (hW : Below w.heap.size w W) :
    Calls Try.prog 28 #[.pointer (some ⟨b, 0, none⟩), r.v, .int .i64 v] W (MPost b (unitV) w g (unaryW r v s)) :=
  (unaryW_calls0 r v hr (hm.below hW)).mono (MPost.from hW)
end Go.Proofs.Ytfaihahpnjgejaa
namespace Go.Proofs.Ytfaihahpnjgejaa
open Go.RowKit

def unaryFrom (r : Reg) (top : Int) : Nat → Nat → OpM Int
  | _, 0 => OpM.ret top
  | i, n + 1 => OpM.bind (unaryUp r i) fun u => if u = true then OpM.ret (i : Int) else unaryFrom r top (i + 1) n
def unaryR (r : Reg) : OpM Int := unaryFrom r (uMost r.top) 0 (uMost r.top + 1).toNat

set_option maxRecDepth 100000 in
set_option maxHeartbeats 4000000 in
theorem unaryR_calls0 {b : Nat} {w : World} {g : Gh} {s : St} (r : Reg) (hr : r.In) (hm : MemP b w g s) :
    Calls Try.prog 35 #[.pointer (some ⟨b, 0, none⟩), r.v] w (MPost b (Value.int .i64) w g (unaryR r s)) := by
  have hM := uMost_range r.top
  unfold unaryR
  obtain ⟨n, hn⟩ : ∃ n : Nat, uMost r.top = n := ⟨(uMost r.top).toNat, by omega⟩
  rw [hn] at hM ⊢
  rw [show ((n : Int) + 1).toNat = n + 1 from by omega]
  replace hMM := Lib.hid hn
  clear hn
  have hn255 : (n : Int) ≤ 255 := hM.2
  clear hM
  refine Calls.of_post fun R HR => ?_
  obtain ⟨hm0, BX⟩ := hm.box r.cs 23
  replace HR := MPost.move (Step.of_alloc w g (.cells r.cs 23)) HR
  replace hm := hm0
  clear hm0
  simp only [Reg.v, Reg.cs] at hm HR BX ⊢
  replace BX := Lib.hid BX
  have r0 := cell_of_blk BX.out.1 0
  have r1 := cell_of_blk BX.out.1 1
  have r2 := cell_of_blk BX.out.1 2
  have r3 := cell_of_blk BX.out.1 3
  have r4 := cell_of_blk BX.out.1 4
  have r5 := cell_of_blk BX.out.1 5
  have r6 := cell_of_blk BX.out.1 6
  simp at r0 r1 r2 r3 r4 r5 r6
  go_enter Try.func35, Try.ntmps35
  go_wp2_with fail
  refine (unaryMost_callsE hMM hm (by first | exact Below.refl _ _ | exact (Below.refl _ _).drew)).mono ?_
  rintro e_ w_ ⟨rfl, rfl⟩
  go_wp2_with fail
  obtain ⟨kb, hkb⟩ : ∃ kb, w.heap.size = kb := ⟨_, rfl⟩
  rw [hkb] at BX ⊢
  go_loopw [12] (fun i wr => ∃ (k : Nat) (g' : Gh) (s' : St), k ≤ n + 1 ∧ i = .int .i64 k ∧ MemP b wr g' s' ∧ Hid (BoxAt wr g' kb #[.int .i64 r.kind, .int .i64 r.base, .int .i64 r.loc, .int .i64 r.n, .int .i64 r.writer, .int .i64 r.reader, .int .i64 r.top] 23) ∧ Hid (∀ e w', MPost b (Value.int .i64) wr g' (unaryFrom r n k (n + 1 - k) s') e w' → R e w')) (fun i _ => n + 1 - (intOf i).toNat)
  case atStart => exact ⟨0, _, _, Nat.zero_le _, rfl, hm, BX, HR⟩
  case round =>
    obtain ⟨k, g, s, hk, rfl, hm, BX, HR⟩ := hrel
    have r0 := cell_of_blk BX.out.1 0
    have r1 := cell_of_blk BX.out.1 1
    have r2 := cell_of_blk BX.out.1 2
    have r3 := cell_of_blk BX.out.1 3
    have r4 := cell_of_blk BX.out.1 4
    have r5 := cell_of_blk BX.out.1 5
    have r6 := cell_of_blk BX.out.1 6
    simp at r0 r1 r2 r3 r4 r5 r6
    by_cases hlt : k < n + 1
    · obtain ⟨m, hnk⟩ : ∃ m, n + 1 - k = m + 1 := ⟨n + 1 - k - 1, by omega⟩
      rw [hnk, unaryFrom] at HR
      replace hnk := Lib.hid hnk
      go_wp2_with fail
      refine (unaryUp_calls _ _ hr (by omega) hm (by first | exact Below.refl _ _ | exact (Below.refl _ _).drew)).mono ?_
      rintro e_ w_ ⟨g_, s_, st_, hc_⟩
      refine Or.elim hc_ (fun hd_ => ?_) (fun ⟨hx_, he_, hm_⟩ => by subst he_; first | exact ⟨rfl, MPost.halt hx_ st_ hm_ HR⟩ | exact MPost.halt hx_ st_ hm_ HR)
      clear hc_
      obtain ⟨u, hx_, rfl, hm_⟩ := hd_
      replace HR := MPost.seq hx_ st_ HR
      replace hm := hm_
      clear r0 r1 r2 r3 r4 r5 r6
      replace BX := Lib.hid (BX.out.step st_)
      have r0 := cell_of_blk BX.out.1 0
      have r1 := cell_of_blk BX.out.1 1
      have r2 := cell_of_blk BX.out.1 2
      have r3 := cell_of_blk BX.out.1 3
      have r4 := cell_of_blk BX.out.1 4
      have r5 := cell_of_blk BX.out.1 5
      have r6 := cell_of_blk BX.out.1 6
      simp at r0 r1 r2 r3 r4 r5 r6
      clear hx_ st_
      cases u
      · rw [if_neg (by decide)] at HR
        simp only [boolV]
        go_wp2_with fail
        go_roundw
        case rel => exact ⟨k + 1, _, _, by omega, by go_num, hm, BX, by have h := hnk.out; rw [show n + 1 - (k + 1) = m by omega]; exact HR⟩
        case measure => simp [intOf]; omega
      · rw [if_pos rfl] at HR
        simp only [boolV]
        go_wp2_with fail
        exact MPost.done (enc := Value.int .i64) hm HR
    · have hnk : n + 1 - k = 0 := by omega
      rw [hnk, unaryFrom] at HR
      clear hnk
      go_wp2_with fail
      exact MPost.done (enc := Value.int .i64) hm HR
theorem unaryR_calls {b : Nat} {w W : World} {g : Gh} {s : St} (r : Reg) (hr : r.In) (hm : MemP b w g s) (hW : Below w.heap.size w W) :
    Calls Try.prog 35 #[.pointer (some ⟨b, 0, none⟩), r.v] W (MPost b (Value.int .i64) w g (unaryR r s)) :=
  (unaryR_calls0 r hr (hm.below hW)).mono (MPost.from hW)

/-! slots -/
def sOther (b : Int) : Int := if b = 0 then 1 else 0
theorem slotsOther_calls0 (c : Int) (w : World) : Calls Try.prog 58 #[.int .i64 c] w fun e w' => e = .returned (.int .i64 (sOther c)) ∧ w = w' := by
  by_cases h : c = 0
  · have hq : (c == 0) = true := by simp [h]
    have e : Hid (sOther c = 1) := by show _ = _; simp [sOther, h]
    clear h
    go_enter Try.func58, Try.ntmps58
    go_wp2
    go_ret
    exact ⟨ret_int e.out.symm, rfl⟩
  · have hq : (c == 0) = false := by simp [h]
    have e : Hid (sOther c = 0) := by show _ = _; simp [sOther, h]
    clear h
    go_enter Try.func58, Try.ntmps58
    go_wp2
    go_ret
    exact ⟨ret_int e.out.symm, rfl⟩
theorem sOther_range (c : Int) : 0 ≤ sOther c ∧ sOther c ≤ 1 := by unfold sOther; split <;> omega
theorem slotsSame_calls0 (c : Int) (w : World) : Calls Try.prog 73 #[.int .i64 c] w fun e w' => e = .returned (.int .i64 (1 - sOther c)) ∧ w = w' := by
  have h := sOther_range c
  obtain ⟨h1, h2⟩ := h
  go_enter Try.func73, Try.ntmps73
  go_wp2_with fail
  refine (slotsOther_calls0 c w).mono ?_
  rintro e w' ⟨rfl, rfl⟩
  go_wp2
  go_ret
  exact ⟨rfl, rfl⟩
theorem slotsSlot_calls0 (p : Int) (hp : p = 0 ∨ p = 1) (w : World) : Calls Try.prog 61 #[.int .i64 p] w fun e w' => e = .returned (.int .i64 p) ∧ w = w' := by
  have i0 : ∀ w, (Instr.index 81 (.agg #[.int .i64 0, .int .i64 1]) (.int .i64 0)).run Try.prog w = .ok (.int .i64 0) w := fun _ => by kernel_rfl
  have i1 : ∀ w, (Instr.index 81 (.agg #[.int .i64 0, .int .i64 1]) (.int .i64 1)).run Try.prog w = .ok (.int .i64 1) w := fun _ => by kernel_rfl
  rcases hp with rfl | rfl
  all_goals
    go_enter Try.func61, Try.ntmps61
    go_wp2
    go_ret
    exact ⟨rfl, rfl⟩
def slotsBit (r : Reg) (n : Int) : Reg := { r with kind := 4, base := r.base + (4 + 3 * n), loc := r.loc + (2 + 4 * n), top := 1 }
def Reg.In2 (r : Reg) : Prop := -2305843009213693952 ≤ r.base ∧ r.base ≤ 2305843009213693952 ∧ -2305843009213693952 ≤ r.loc ∧ r.loc ≤ 2305843009213693952
set_option maxRecDepth 100000 in
theorem slotsBit_calls {w W : World} (r : Reg) (i : Int) (hr : r.In2) (hi : 0 ≤ i ∧ i ≤ 3) (hW : Below w.heap.size w W) :
    Calls Try.prog 59 #[r.v, .int .i64 i] W fun e w' => e = .returned (slotsBit r i).v ∧ Below w.heap.size w w' := by
  refine Calls.from_below hW ?_
  clear hW
  obtain ⟨hb1, hb2, hl1, hl2⟩ := hr
  obtain ⟨hi1, hi2⟩ := hi
  simp only [Reg.v, Reg.cs, slotsBit]
  go_enter Try.func59, Try.ntmps59
  go_wp2
  exact bodyPost_ret (v := .agg #[.int .i64 4, .int .i64 (r.base + (4 + 3 * i)), .int .i64 (r.loc + (2 + 4 * i)), .int .i64 r.n, .int .i64 r.writer, .int .i64 r.reader, .int .i64 1]) (by simp [results, Try.results59, go_sem]) rfl ⟨rfl, (by repeat first | exact Below.refl _ _ | refine Below.alloc ?_ (by simp) _ | refine Below.setCell ?_ (by simp) _ | refine Below.drew ?_ | refine RowKit.below_drewN ?_ _ | refine below_drewN ?_ _)⟩
set_option maxRecDepth 100000 in
theorem slotsCell_calls {w W : World} (r : Reg) (p i : Int) (hr : r.In2) (hp : p = 0 ∨ p = 1) (hi : i = 0 ∨ i = 1) (hW : Below w.heap.size w W) :
    Calls Try.prog 60 #[r.v, .int .i64 p, .int .i64 i] W fun e w' => e = .returned (.int .i64 (r.base + (2 * p + i))) ∧ Below w.heap.size w w' := by
  refine Calls.from_below hW ?_
  clear hW
  obtain ⟨hb1, hb2, hl1, hl2⟩ := hr
  simp only [Reg.v, Reg.cs]
  rcases hp with rfl | rfl <;> rcases hi with rfl | rfl
  all_goals
    have hw1 : IntKind.i64.wrap (r.base + 0) = r.base + 0 := IntWalk.i64_in _ (by omega)
    have hw2 : IntKind.i64.wrap (r.base + 1) = r.base + 1 := IntWalk.i64_in _ (by omega)
    have hw3 : IntKind.i64.wrap (r.base + 2) = r.base + 2 := IntWalk.i64_in _ (by omega)
    have hw4 : IntKind.i64.wrap (r.base + 3) = r.base + 3 := IntWalk.i64_in _ (by omega)
    have hw5 : IntKind.i64.wrap r.base = r.base := IntWalk.i64_in _ (by omega)
    go_enter Try.func60, Try.ntmps60
    go_wp2
    go_region
  all_goals
    go_wp2
    go_ret
    exact ⟨ret_int (by omega), (by repeat first | exact Below.refl _ _ | refine Below.alloc ?_ (by simp) _ | refine Below.setCell ?_ (by simp) _ | refine Below.drew ?_)⟩
end Go.Proofs.Ytfaihahpnjgejaa
namespace Go.Proofs.Ytfaihahpnjgejaa
open Go.RowKit

theorem slotsOther_calls {b : Nat} {w W : World} {g : Gh} {s : St} (c : Int) (_hm : MemP b w g s) (_hW : Below w.heap.size w W) : Calls Try.prog 58 #[.int .i64 c] W fun e w' => e = .returned (.int .i64 (sOther c)) ∧ W = w' := slotsOther_calls0 c W
theorem slotsSame_calls {b : Nat} {w W : World} {g : Gh} {s : St} (c : Int) (_hm : MemP b w g s) (_hW : Below w.heap.size w W) : Calls Try.prog 73 #[.int .i64 c] W fun e w' => e = .returned (.int .i64 (1 - sOther c)) ∧ W = w' := slotsSame_calls0 c W
theorem slotsSlot_calls {b : Nat} {w W : World} {g : Gh} {s : St} (p : Int) (hp : p = 0 ∨ p = 1) (_hm : MemP b w g s) (_hW : Below w.heap.size w W) : Calls Try.prog 61 #[.int .i64 p] W fun e w' => e = .returned (.int .i64 p) ∧ W = w' := slotsSlot_calls0 p hp W
theorem sOther_01 (c : Int) : sOther c = 0 ∨ sOther c = 1 := by unfold sOther; split <;> simp
theorem sSame_01 (c : Int) : 1 - sOther c = 0 ∨ 1 - sOther c = 1 := by unfold sOther; split <;> simp
theorem Reg.In2.in_ {r : Reg} (h : r.In2) : r.In := by obtain ⟨a, b, c, d⟩ := h; exact ⟨by omega, by omega, by omega, by omega⟩
theorem slotsBit_in {r : Reg} (h : r.In2) (i : Int) (hi : 0 ≤ i ∧ i ≤ 3) : (slotsBit r i).In := by obtain ⟨a, b, c, d⟩ := h; obtain ⟨i1, i2⟩ := hi; simp only [slotsBit]; exact ⟨by simp only; omega, by simp only; omega, by simp only; omega, by simp only; omega⟩

def slotsW (r : Reg) (v : Int) : OpM Unit :=
  OpM.bind (trompR (slotsBit r 3)) fun x s =>
  OpM.bind (writeM (r.base + (2 * sOther x + sOther (getS (r.loc + sOther x) s))) v) (fun _ =>
  OpM.bind (setM (r.loc + sOther x) (sOther (getS (r.loc + sOther x) s))) fun _ =>
  OpM.bind (trompW (slotsBit r (sOther x)) (sOther (getS (r.loc + sOther x) s))) fun _ =>
  OpM.bind (trompW (slotsBit r 2) (sOther x)) OpM.ret) s
def slotsR (r : Reg) : OpM Int :=
  OpM.bind (trompR (slotsBit r 2)) fun x =>
  OpM.bind (trompW (slotsBit r 3) (1 - sOther x)) fun _ =>
  OpM.bind (trompR (slotsBit r (1 - sOther x))) fun y =>
  OpM.bind (readM (r.base + (2 * (1 - sOther x) + (1 - sOther y)))) OpM.ret

set_option maxRecDepth 100000 in
set_option maxHeartbeats 4000000 in
theorem slotsW_calls0 {b : Nat} {w : World} {g : Gh} {s : St} (r : Reg) (v : Int) (hr : r.In2) (hm : MemP b w g s) :
    Calls Try.prog 30 #[.pointer (some ⟨b, 0, none⟩), r.v, .int .i64 v] w (MPost b (unitV) w g (slotsW r v s)) := by
  have hin := hr
  obtain ⟨hb1, hb2, hl1, hl2⟩ := hr
  refine Calls.of_post fun R HR => ?_
  obtain ⟨hm0, BX⟩ := hm.box r.cs 23
  replace HR := MPost.move (Step.of_alloc w g (.cells r.cs 23)) HR
  replace hm := hm0
  clear hm0
  simp only [Reg.v, Reg.cs] at hm HR BX ⊢
  replace BX := Lib.hid BX
  have r0 := cell_of_blk BX.out.1 0
  have r1 := cell_of_blk BX.out.1 1
  have r2 := cell_of_blk BX.out.1 2
  have r3 := cell_of_blk BX.out.1 3
  have r4 := cell_of_blk BX.out.1 4
  have r5 := cell_of_blk BX.out.1 5
  have r6 := cell_of_blk BX.out.1 6
  simp at r0 r1 r2 r3 r4 r5 r6
  go_enter Try.func30, Try.ntmps30
  go_wp2_with fail
  refine (slotsBit_calls r 3 hin (by omega) (MemP.blw hm (by first | exact Below.refl _ _ | exact (Below.refl _ _).drew))).mono ?_
  rintro e_ w_ ⟨rfl, hbl_⟩
  replace HR := MPost.move (Step.of_below _ hbl_) HR
  replace hm := hm.below hbl_
  clear r0 r1 r2 r3 r4 r5 r6
  replace BX := Lib.hid (BX.out.below hbl_)
  have r0 := cell_of_blk BX.out.1 0
  have r1 := cell_of_blk BX.out.1 1
  have r2 := cell_of_blk BX.out.1 2
  have r3 := cell_of_blk BX.out.1 3
  have r4 := cell_of_blk BX.out.1 4
  have r5 := cell_of_blk BX.out.1 5
  have r6 := cell_of_blk BX.out.1 6
  simp at r0 r1 r2 r3 r4 r5 r6
  clear hbl_
  go_wp2_with fail
  refine (trompR_calls _ (slotsBit_in hin 3 (by omega)) hm (by first | exact Below.refl _ _ | exact (Below.refl _ _).drew)).mono ?_
  rintro e_ w_ ⟨g_, s_, st_, hc_⟩
  refine Or.elim hc_ (fun hd_ => ?_) (fun ⟨hx_, he_, hm_⟩ => by subst he_; first | exact ⟨rfl, MPost.halt hx_ st_ hm_ HR⟩ | exact MPost.halt hx_ st_ hm_ HR)
  clear hc_
  obtain ⟨x, hx_, rfl, hm_⟩ := hd_
  replace HR := MPost.seq hx_ st_ HR
  replace hm := hm_
  clear r0 r1 r2 r3 r4 r5 r6
  replace BX := Lib.hid (BX.out.step st_)
  have r0 := cell_of_blk BX.out.1 0
  have r1 := cell_of_blk BX.out.1 1
  have r2 := cell_of_blk BX.out.1 2
  have r3 := cell_of_blk BX.out.1 3
  have r4 := cell_of_blk BX.out.1 4
  have r5 := cell_of_blk BX.out.1 5
  have r6 := cell_of_blk BX.out.1 6
  simp at r0 r1 r2 r3 r4 r5 r6
  clear hx_ st_
  go_wp2_with fail
  refine (slotsOther_calls _ hm (by first | exact Below.refl _ _ | exact (Below.refl _ _).drew)).mono ?_
  rintro e_ w_ ⟨rfl, rfl⟩
  have p01 := Lib.hid (sOther_01 x)
  have pr1 := (sOther_range x).1
  have pr2 := (sOther_range x).2
  generalize sOther x = p at *
  go_wp2_with fail
  refine (get_calls _ hm (by first | exact Below.refl _ _ | exact (Below.refl _ _).drew)).mono ?_
  rintro e_ w_ ⟨rfl, rfl⟩
  go_wp2_with fail
  refine (slotsOther_calls _ hm (by first | exact Below.refl _ _ | exact (Below.refl _ _).drew)).mono ?_
  rintro e_ w_ ⟨rfl, rfl⟩
  have q01 := Lib.hid (sOther_01 (getS (r.loc + p) s_))
  generalize sOther (getS (r.loc + p) s_) = q at *
  go_wp2_with fail
  refine (slotsCell_calls r _ _ hin p01.out q01.out (MemP.blw hm (by first | exact Below.refl _ _ | exact (Below.refl _ _).drew))).mono ?_
  rintro e_ w_ ⟨rfl, hbl_⟩
  replace HR := MPost.move (Step.of_below _ hbl_) HR
  replace hm := hm.below hbl_
  clear r0 r1 r2 r3 r4 r5 r6
  replace BX := Lib.hid (BX.out.below hbl_)
  have r0 := cell_of_blk BX.out.1 0
  have r1 := cell_of_blk BX.out.1 1
  have r2 := cell_of_blk BX.out.1 2
  have r3 := cell_of_blk BX.out.1 3
  have r4 := cell_of_blk BX.out.1 4
  have r5 := cell_of_blk BX.out.1 5
  have r6 := cell_of_blk BX.out.1 6
  simp at r0 r1 r2 r3 r4 r5 r6
  clear hbl_
  go_wp2_with fail
  refine (write_calls _ _ hm (by first | exact Below.refl _ _ | exact (Below.refl _ _).drew)).mono ?_
  rintro e_ w_ ⟨g_, s_, st_, hc_⟩
  refine Or.elim hc_ (fun hd_ => ?_) (fun ⟨hx_, he_, hm_⟩ => by subst he_; first | exact ⟨rfl, MPost.halt hx_ st_ hm_ HR⟩ | exact MPost.halt hx_ st_ hm_ HR)
  clear hc_
  obtain ⟨x_, hx_, rfl, hm_⟩ := hd_
  replace HR := MPost.seq hx_ st_ HR
  replace hm := hm_
  clear r0 r1 r2 r3 r4 r5 r6
  replace BX := Lib.hid (BX.out.step st_)
  have r0 := cell_of_blk BX.out.1 0
  have r1 := cell_of_blk BX.out.1 1
  have r2 := cell_of_blk BX.out.1 2
  have r3 := cell_of_blk BX.out.1 3
  have r4 := cell_of_blk BX.out.1 4
  have r5 := cell_of_blk BX.out.1 5
  have r6 := cell_of_blk BX.out.1 6
  simp at r0 r1 r2 r3 r4 r5 r6
  clear hx_ st_
  go_wp2_with fail
  refine (set_calls _ _ hm (by first | exact Below.refl _ _ | exact (Below.refl _ _).drew)).mono ?_
  rintro e_ w_ ⟨g_, s_, st_, hc_⟩
  refine Or.elim hc_ (fun hd_ => ?_) (fun ⟨hx_, he_, hm_⟩ => by subst he_; first | exact ⟨rfl, MPost.halt hx_ st_ hm_ HR⟩ | exact MPost.halt hx_ st_ hm_ HR)
  clear hc_
  obtain ⟨x_, hx_, rfl, hm_⟩ := hd_
  replace HR := MPost.seq hx_ st_ HR
  replace hm := hm_
  clear r0 r1 r2 r3 r4 r5 r6
  replace BX := Lib.hid (BX.out.step st_)
  have r0 := cell_of_blk BX.out.1 0
  have r1 := cell_of_blk BX.out.1 1
  have r2 := cell_of_blk BX.out.1 2
  have r3 := cell_of_blk BX.out.1 3
  have r4 := cell_of_blk BX.out.1 4
  have r5 := cell_of_blk BX.out.1 5
  have r6 := cell_of_blk BX.out.1 6
  simp at r0 r1 r2 r3 r4 r5 r6
  clear hx_ st_
  go_wp2_with fail
  go_region_held2 (fun W => W.cell? ⟨w.heap.size, 0, none⟩ = some (.int .i64 r.kind) ∧ W.cell? ⟨w.heap.size, 1, none⟩ = some (.int .i64 r.base) ∧ W.cell? ⟨w.heap.size, 2, none⟩ = some (.int .i64 r.loc) ∧ W.cell? ⟨w.heap.size, 3, none⟩ = some (.int .i64 r.n) ∧ W.cell? ⟨w.heap.size, 4, none⟩ = some (.int .i64 r.writer) ∧ W.cell? ⟨w.heap.size, 5, none⟩ = some (.int .i64 r.reader) ∧ W.cell? ⟨w.heap.size, 6, none⟩ = some (.int .i64 r.top)) (first | assumption | exact ⟨by assumption, by assumption⟩ | exact ⟨by assumption, by assumption, by assumption, by assumption, by assumption, by assumption, by assumption⟩ | simp [*]) (first | (go_at_call 61; refine (slotsSlot_calls _ p01.out hm (by first | exact Below.refl _ _ | exact (Below.refl _ _).drew)).mono ?_; rintro e_ w_ ⟨rfl, rfl⟩) | (go_at_call 59; refine (slotsBit_calls r _ hin (by omega) (MemP.blw hm (by first | exact Below.refl _ _ | exact (Below.refl _ _).drew))).mono ?_; rintro e_ w_ ⟨rfl, hbl_⟩; replace HR := MPost.move (Step.of_below _ hbl_) HR; replace hm := hm.below hbl_; clear r0 r1 r2 r3 r4 r5 r6; replace BX := Lib.hid (BX.out.below hbl_); have r0 := cell_of_blk BX.out.1 0; have r1 := cell_of_blk BX.out.1 1; have r2 := cell_of_blk BX.out.1 2; have r3 := cell_of_blk BX.out.1 3; have r4 := cell_of_blk BX.out.1 4; have r5 := cell_of_blk BX.out.1 5; have r6 := cell_of_blk BX.out.1 6; simp at r0 r1 r2 r3 r4 r5 r6; clear hbl_) | (go_at_call 29; refine (trompW_calls _ _ (slotsBit_in hin _ (by omega)) hm (by first | exact Below.refl _ _ | exact (Below.refl _ _).drew)).mono ?_; rintro e_ w_ ⟨g_, s_, st_, hc_⟩; refine Or.elim hc_ (fun hd_ => ?_) (fun ⟨hx_, he_, hm_⟩ => by subst he_; first | exact ⟨rfl, MPost.halt hx_ st_ hm_ HR⟩ | exact MPost.halt hx_ st_ hm_ HR); clear hc_; obtain ⟨x_, hx_, rfl, hm_⟩ := hd_; replace HR := MPost.seq hx_ st_ HR; replace hm := hm_; clear r0 r1 r2 r3 r4 r5 r6; replace BX := Lib.hid (BX.out.step st_); have r0 := cell_of_blk BX.out.1 0; have r1 := cell_of_blk BX.out.1 1; have r2 := cell_of_blk BX.out.1 2; have r3 := cell_of_blk BX.out.1 3; have r4 := cell_of_blk BX.out.1 4; have r5 := cell_of_blk BX.out.1 5; have r6 := cell_of_blk BX.out.1 6; simp at r0 r1 r2 r3 r4 r5 r6; clear hx_ st_))
  go_wp2_with fail
  refine (slotsBit_calls r 2 hin (by omega) (MemP.blw hm (by first | exact Below.refl _ _ | exact (Below.refl _ _).drew))).mono ?_
  rintro e_ w_ ⟨rfl, hbl_⟩
  replace HR := MPost.move (Step.of_below _ hbl_) HR
  replace hm := hm.below hbl_
  clear r0 r1 r2 r3 r4 r5 r6
  replace BX := Lib.hid (BX.out.below hbl_)
  have r0 := cell_of_blk BX.out.1 0
  have r1 := cell_of_blk BX.out.1 1
  have r2 := cell_of_blk BX.out.1 2
  have r3 := cell_of_blk BX.out.1 3
  have r4 := cell_of_blk BX.out.1 4
  have r5 := cell_of_blk BX.out.1 5
  have r6 := cell_of_blk BX.out.1 6
  simp at r0 r1 r2 r3 r4 r5 r6
  clear hbl_
  go_wp2_with fail
  refine (trompW_calls _ _ (slotsBit_in hin 2 (by omega)) hm (by first | exact Below.refl _ _ | exact (Below.refl _ _).drew)).mono ?_
  rintro e_ w_ ⟨g_, s_, st_, hc_⟩
  refine Or.elim hc_ (fun hd_ => ?_) (fun ⟨hx_, he_, hm_⟩ => by subst he_; first | exact ⟨rfl, MPost.halt hx_ st_ hm_ HR⟩ | exact MPost.halt hx_ st_ hm_ HR)
  clear hc_
  obtain ⟨x_, hx_, rfl, hm_⟩ := hd_
  replace HR := MPost.seq hx_ st_ HR
  replace hm := hm_
  clear r0 r1 r2 r3 r4 r5 r6
  replace BX := Lib.hid (BX.out.step st_)
  have r0 := cell_of_blk BX.out.1 0
  have r1 := cell_of_blk BX.out.1 1
  have r2 := cell_of_blk BX.out.1 2
  have r3 := cell_of_blk BX.out.1 3
  have r4 := cell_of_blk BX.out.1 4
  have r5 := cell_of_blk BX.out.1 5
  have r6 := cell_of_blk BX.out.1 6
  simp at r0 r1 r2 r3 r4 r5 r6
  clear hx_ st_
  go_wp2_with fail
  go_end0
  exact MPost.done (enc := unitV) (x := ()) hm HR
theorem slotsW_calls {b : Nat} {w W : World} {g : Gh} {s : St} (r : Reg) (v : Int) (hr : r.In2) (hm : MemP b w g s) (hW : Below w.heap.size w W) :
    Calls Try.prog 30 #[.pointer (some ⟨b, 0, none⟩), r.v, .int .i64 v] W (MPost b (unitV) w g (slotsW r v s)) :=
  (slotsW_calls0 r v hr (hm.below hW)).mono (MPost.from hW)

set_option maxRecDepth 100000 in
set_option maxHeartbeats 4000000 in
theorem slotsR_calls0 {b : Nat} {w : World} {g : Gh} {s : St} (r : Reg) (hr : r.In2) (hm : MemP b w g s) :
    Calls Try.prog 37 #[.pointer (some ⟨b, 0, none⟩), r.v] w (MPost b (Value.int .i64) w g (slotsR r s)) := by
  have hin := hr
  obtain ⟨hb1, hb2, hl1, hl2⟩ := hr
  refine Calls.of_post fun R HR => ?_
  obtain ⟨hm0, BX⟩ := hm.box r.cs 23
  replace HR := MPost.move (Step.of_alloc w g (.cells r.cs 23)) HR
  replace hm := hm0
  clear hm0
  simp only [Reg.v, Reg.cs] at hm HR BX ⊢
  replace BX := Lib.hid BX
  have r0 := cell_of_blk BX.out.1 0
  have r1 := cell_of_blk BX.out.1 1
  have r2 := cell_of_blk BX.out.1 2
  have r3 := cell_of_blk BX.out.1 3
  have r4 := cell_of_blk BX.out.1 4
  have r5 := cell_of_blk BX.out.1 5
  have r6 := cell_of_blk BX.out.1 6
  simp at r0 r1 r2 r3 r4 r5 r6
  go_enter Try.func37, Try.ntmps37
  go_wp2_with fail
  refine (slotsBit_calls r 2 hin (by omega) (MemP.blw hm (by first | exact Below.refl _ _ | exact (Below.refl _ _).drew))).mono ?_
  rintro e_ w_ ⟨rfl, hbl_⟩
  replace HR := MPost.move (Step.of_below _ hbl_) HR
  replace hm := hm.below hbl_
  clear r0 r1 r2 r3 r4 r5 r6
  replace BX := Lib.hid (BX.out.below hbl_)
  have r0 := cell_of_blk BX.out.1 0
  have r1 := cell_of_blk BX.out.1 1
  have r2 := cell_of_blk BX.out.1 2
  have r3 := cell_of_blk BX.out.1 3
  have r4 := cell_of_blk BX.out.1 4
  have r5 := cell_of_blk BX.out.1 5
  have r6 := cell_of_blk BX.out.1 6
  simp at r0 r1 r2 r3 r4 r5 r6
  clear hbl_
  go_wp2_with fail
  refine (trompR_calls _ (slotsBit_in hin 2 (by omega)) hm (by first | exact Below.refl _ _ | exact (Below.refl _ _).drew)).mono ?_
  rintro e_ w_ ⟨g_, s_, st_, hc_⟩
  refine Or.elim hc_ (fun hd_ => ?_) (fun ⟨hx_, he_, hm_⟩ => by subst he_; first | exact ⟨rfl, MPost.halt hx_ st_ hm_ HR⟩ | exact MPost.halt hx_ st_ hm_ HR)
  clear hc_
  obtain ⟨x, hx_, rfl, hm_⟩ := hd_
  replace HR := MPost.seq hx_ st_ HR
  replace hm := hm_
  clear r0 r1 r2 r3 r4 r5 r6
  replace BX := Lib.hid (BX.out.step st_)
  have r0 := cell_of_blk BX.out.1 0
  have r1 := cell_of_blk BX.out.1 1
  have r2 := cell_of_blk BX.out.1 2
  have r3 := cell_of_blk BX.out.1 3
  have r4 := cell_of_blk BX.out.1 4
  have r5 := cell_of_blk BX.out.1 5
  have r6 := cell_of_blk BX.out.1 6
  simp at r0 r1 r2 r3 r4 r5 r6
  clear hx_ st_
  go_wp2_with fail
  refine (slotsSame_calls _ hm (by first | exact Below.refl _ _ | exact (Below.refl _ _).drew)).mono ?_
  rintro e_ w_ ⟨rfl, rfl⟩
  have p01 := Lib.hid (sSame_01 x)
  have pr : 0 ≤ 1 - sOther x ∧ 1 - sOther x ≤ 3 := by have := sOther_range x; omega
  generalize 1 - sOther x = p at *
  obtain ⟨pr1, pr2⟩ := pr
  go_wp2_with fail
  refine (slotsBit_calls r 3 hin (by omega) (MemP.blw hm (by first | exact Below.refl _ _ | exact (Below.refl _ _).drew))).mono ?_
  rintro e_ w_ ⟨rfl, hbl_⟩
  replace HR := MPost.move (Step.of_below _ hbl_) HR
  replace hm := hm.below hbl_
  clear r0 r1 r2 r3 r4 r5 r6
  replace BX := Lib.hid (BX.out.below hbl_)
  have r0 := cell_of_blk BX.out.1 0
  have r1 := cell_of_blk BX.out.1 1
  have r2 := cell_of_blk BX.out.1 2
  have r3 := cell_of_blk BX.out.1 3
  have r4 := cell_of_blk BX.out.1 4
  have r5 := cell_of_blk BX.out.1 5
  have r6 := cell_of_blk BX.out.1 6
  simp at r0 r1 r2 r3 r4 r5 r6
  clear hbl_
  go_wp2_with fail
  refine (trompW_calls _ _ (slotsBit_in hin 3 (by omega)) hm (by first | exact Below.refl _ _ | exact (Below.refl _ _).drew)).mono ?_
  rintro e_ w_ ⟨g_, s_, st_, hc_⟩
  refine Or.elim hc_ (fun hd_ => ?_) (fun ⟨hx_, he_, hm_⟩ => by subst he_; first | exact ⟨rfl, MPost.halt hx_ st_ hm_ HR⟩ | exact MPost.halt hx_ st_ hm_ HR)
  clear hc_
  obtain ⟨x_, hx_, rfl, hm_⟩ := hd_
  replace HR := MPost.seq hx_ st_ HR
  replace hm := hm_
  clear r0 r1 r2 r3 r4 r5 r6
  replace BX := Lib.hid (BX.out.step st_)
  have r0 := cell_of_blk BX.out.1 0
  have r1 := cell_of_blk BX.out.1 1
  have r2 := cell_of_blk BX.out.1 2
  have r3 := cell_of_blk BX.out.1 3
  have r4 := cell_of_blk BX.out.1 4
  have r5 := cell_of_blk BX.out.1 5
  have r6 := cell_of_blk BX.out.1 6
  simp at r0 r1 r2 r3 r4 r5 r6
  clear hx_ st_
  go_wp2_with fail
  go_region_held2 (fun W => W.cell? ⟨w.heap.size, 0, none⟩ = some (.int .i64 r.kind) ∧ W.cell? ⟨w.heap.size, 1, none⟩ = some (.int .i64 r.base) ∧ W.cell? ⟨w.heap.size, 2, none⟩ = some (.int .i64 r.loc) ∧ W.cell? ⟨w.heap.size, 3, none⟩ = some (.int .i64 r.n) ∧ W.cell? ⟨w.heap.size, 4, none⟩ = some (.int .i64 r.writer) ∧ W.cell? ⟨w.heap.size, 5, none⟩ = some (.int .i64 r.reader) ∧ W.cell? ⟨w.heap.size, 6, none⟩ = some (.int .i64 r.top)) (first | assumption | exact ⟨by assumption, by assumption⟩ | exact ⟨by assumption, by assumption, by assumption, by assumption, by assumption, by assumption, by assumption⟩ | simp [*]) (first | (go_at_call 61; refine (slotsSlot_calls _ p01.out hm (by first | exact Below.refl _ _ | exact (Below.refl _ _).drew)).mono ?_; rintro e_ w_ ⟨rfl, rfl⟩) | (go_at_call 59; refine (slotsBit_calls r _ hin (by omega) (MemP.blw hm (by first | exact Below.refl _ _ | exact (Below.refl _ _).drew))).mono ?_; rintro e_ w_ ⟨rfl, hbl_⟩; replace HR := MPost.move (Step.of_below _ hbl_) HR; replace hm := hm.below hbl_; clear r0 r1 r2 r3 r4 r5 r6; replace BX := Lib.hid (BX.out.below hbl_); have r0 := cell_of_blk BX.out.1 0; have r1 := cell_of_blk BX.out.1 1; have r2 := cell_of_blk BX.out.1 2; have r3 := cell_of_blk BX.out.1 3; have r4 := cell_of_blk BX.out.1 4; have r5 := cell_of_blk BX.out.1 5; have r6 := cell_of_blk BX.out.1 6; simp at r0 r1 r2 r3 r4 r5 r6; clear hbl_) | (go_at_call 36; refine (trompR_calls _ (slotsBit_in hin _ (by omega)) hm (by first | exact Below.refl _ _ | exact (Below.refl _ _).drew)).mono ?_; rintro e_ w_ ⟨g_, s_, st_, hc_⟩; refine Or.elim hc_ (fun hd_ => ?_) (fun ⟨hx_, he_, hm_⟩ => by subst he_; first | exact ⟨rfl, MPost.halt hx_ st_ hm_ HR⟩ | exact MPost.halt hx_ st_ hm_ HR); clear hc_; obtain ⟨y, hx_, rfl, hm_⟩ := hd_; replace HR := MPost.seq hx_ st_ HR; replace hm := hm_; clear r0 r1 r2 r3 r4 r5 r6; replace BX := Lib.hid (BX.out.step st_); have r0 := cell_of_blk BX.out.1 0; have r1 := cell_of_blk BX.out.1 1; have r2 := cell_of_blk BX.out.1 2; have r3 := cell_of_blk BX.out.1 3; have r4 := cell_of_blk BX.out.1 4; have r5 := cell_of_blk BX.out.1 5; have r6 := cell_of_blk BX.out.1 6; simp at r0 r1 r2 r3 r4 r5 r6; clear hx_ st_) | (go_at_call 73; refine (slotsSame_calls _ hm (by first | exact Below.refl _ _ | exact (Below.refl _ _).drew)).mono ?_; rintro e_ w_ ⟨rfl, rfl⟩))
  have q01 := Lib.hid (sSame_01 y)
  generalize 1 - sOther y = q at *
  go_wp2_with fail
  refine (slotsCell_calls r _ _ hin p01.out q01.out (MemP.blw hm (by first | exact Below.refl _ _ | exact (Below.refl _ _).drew))).mono ?_
  rintro e_ w_ ⟨rfl, hbl_⟩
  replace HR := MPost.move (Step.of_below _ hbl_) HR
  replace hm := hm.below hbl_
  clear r0 r1 r2 r3 r4 r5 r6
  replace BX := Lib.hid (BX.out.below hbl_)
  have r0 := cell_of_blk BX.out.1 0
  have r1 := cell_of_blk BX.out.1 1
  have r2 := cell_of_blk BX.out.1 2
  have r3 := cell_of_blk BX.out.1 3
  have r4 := cell_of_blk BX.out.1 4
  have r5 := cell_of_blk BX.out.1 5
  have r6 := cell_of_blk BX.out.1 6
  simp at r0 r1 r2 r3 r4 r5 r6
  clear hbl_
  go_wp2_with fail
  refine (read_calls _ hm (by first | exact Below.refl _ _ | exact (Below.refl _ _).drew)).mono ?_
  rintro e_ w_ ⟨g_, s_, st_, hc_⟩
  refine Or.elim hc_ (fun hd_ => ?_) (fun ⟨hx_, he_, hm_⟩ => by subst he_; first | exact ⟨rfl, MPost.halt hx_ st_ hm_ HR⟩ | exact MPost.halt hx_ st_ hm_ HR)
  clear hc_
  obtain ⟨x_, hx_, rfl, hm_⟩ := hd_
  replace HR := MPost.seq hx_ st_ HR
  replace hm := hm_
  clear r0 r1 r2 r3 r4 r5 r6
  replace BX := Lib.hid (BX.out.step st_)
  have r0 := cell_of_blk BX.out.1 0
  have r1 := cell_of_blk BX.out.1 1
  have r2 := cell_of_blk BX.out.1 2
  have r3 := cell_of_blk BX.out.1 3
  have r4 := cell_of_blk BX.out.1 4
  have r5 := cell_of_blk BX.out.1 5
  have r6 := cell_of_blk BX.out.1 6
  simp at r0 r1 r2 r3 r4 r5 r6
  clear hx_ st_
  go_wp2_with fail
  exact MPost.done (enc := Value.int .i64) hm HR
theorem slotsR_calls {b : Nat} {w W : World} {g : Gh} {s : St} (r : Reg) (hr : r.In2) (hm : MemP b w g s) (hW : Below w.heap.size w W) :
    Calls Try.prog 37 #[.pointer (some ⟨b, 0, none⟩), r.v] W (MPost b (Value.int .i64) w g (slotsR r s)) :=
  (slotsR_calls0 r hr (hm.below hW)).mono (MPost.from hW)
end Go.Proofs.Ytfaihahpnjgejaa
namespace Go.Proofs.Ytfaihahpnjgejaa
open Go.RowKit Go.Proofs.YtfaihahpnjgejaaW.PrintWords

section
variable {P : Program}
/-- how a round may be left: by its end, by a jump, by a panic that goes through -/
def roundP (P : Program) (l : Nat) (R : Ending → World → Prop) : Exit → Act → World → Prop
  | .normal, _, w => ∃ v w', (Instr.endRound l none).run P w = .ok v w' ∧ R (.returned v) w'
  | .ret, _, w => ∃ v w', (Instr.endRound l (some .ret)).run P w = .ok v w' ∧ R (.returned v) w'
  | .panic chain, a, w => a.defers = [] ∧ R (.panicked chain) w
  | _, _, _ => False

theorem round_of {l n : Nat} {f : FuncId} {fb : Func} {tmps : Array Value} {assign body : Code} {w : World} {R : Ending → World → Prop} (hf : P.funcs[f]? = some fb)
    (h : assign.wpIn (Fence.wide.inRound l) n P (Exit.then (fun a₁ w₁ => ∃ w₂, (Instr.beginRound l).run P w₁ = .ok () w₂ ∧ body.wpIn (Fence.wide.inRound l) n P (roundP P l R) a₁ w₂) (fun _ _ _ => False)) { tmps := tmps, defers := [] } w) :
    RoundIn Fence.wide n P l f tmps assign body w R := by
  refine ⟨trivial, fun c cs _ => ?_⟩
  have key : ∃ e w', R e w' ∧ Comes P (lone (Frame.round l f tmps assign body .normal) (c :: cs) w) (match e with | .returned v => lone (c.finish v) cs w' | .panicked chain => lone (c.raise chain) cs w' | .outgrown => lone c cs w') e := by
    obtain ⟨b, hb⟩ : ∃ b : Frame, b = { (default : Frame) with fn := f, kind := .normal, roundOf := some l } := ⟨_, rfl⟩
    have hro : b.roundOf = some l := by rw [hb]
    have hki : b.kind = .normal := by rw [hb]
    have hbf : b.fn = f := by rw [hb]
    have hstart : Frame.round l f tmps assign body .normal = b.atR { tmps := tmps, defers := [] } [.code assign, .beginRound, .code body] := by
      rw [hb]; simp [Frame.round, Frame.atR]
    rw [hstart]
    have hroom : (Fence.wide.inRound l).room ((c :: cs).length + 1 + n) := room_wide _
    obtain ⟨e, a₁, w₁, hq, harr⟩ := h b [.beginRound, .code body] (c :: cs) hro trivial hroom
    match e, hq, harr with
    | .normal, ⟨w₂, hbeg, hbody⟩, harr =>
      have s0 := stepsIn_wide.1 harr
      have s1 : Steps P _ _ := s0.trans (.one (stepR_beginRound (P := P) (b := b) (a := a₁) (k := [.code body]) (cs := c :: cs) hro hbeg))
      obtain ⟨e₂, a₂, w₃, hq₂, harr₂⟩ := hbody b [] (c :: cs) hro trivial hroom
      match e₂, hq₂, harr₂ with
      | .normal, ⟨v, w₄, hend, hR⟩, harr₂ =>
        exact ⟨.returned v, w₄, hR, s1.trans ((stepsIn_wide.1 harr₂).trans (.one (stepR_round_end hro hki hend)))⟩
      | .ret, ⟨v, w₄, hend, hR⟩, harr₂ =>
        obtain ⟨k₁, hs⟩ := harr₂.2 (by rw [hro]; rfl)
        exact ⟨.returned v, w₄, hR, s1.trans ((stepsIn_wide.1 hs).trans (.one (stepR_round_ret hro hki hend)))⟩
      | .panic chain, ⟨hd, hR⟩, harr₂ =>
        obtain ⟨todo, hs⟩ := harr₂
        refine ⟨.panicked chain, w₃, hR, s1.trans ((stepsIn_wide.1 hs).trans (.one ?_))⟩
        exact step_leave_panicked (fr := { b.atR a₂ todo with mode := .panicking chain }) ⟨rfl, hd, fb, by show P.funcs[b.fn]? = _; rw [hbf]; exact hf⟩
      | .exit _, hq₂, _ => exact hq₂.elim
      | .goto _, hq₂, _ => exact hq₂.elim
      | .outgrown, hq₂, _ => exact hq₂.elim
    | .exit _, hq, _ => exact hq.elim
    | .goto _, hq, _ => exact hq.elim
    | .ret, hq, _ => exact hq.elim
    | .panic _, hq, _ => exact hq.elim
    | .outgrown, hq, _ => exact hq.elim
  obtain ⟨e, w', hR, hc⟩ := key
  exact ⟨e, w', hR, comesIn_wide.2 hc⟩

/-- what a region does in whatever order, it does in a round's frame too -/
theorem anyIn_of_any {ops : Array Oper} {Q : Exit → Act → World → Prop} {md : Region.Mode} {l n : Nat} (hd : ∀ (i : Nat) (o : Oper) c, ops[i]? = some o → o.op ≠ .defer c) (ho : ∀ a w, ¬ Q .outgrown a w) :
    ∀ (fuel : Nat) (listed : Array Bool) (a : Act) (w : World), wpAny P md ops Q fuel listed a w → wpAnyIn (Fence.wide.inRound l) n P md ops Q fuel listed a w
  | 0, _, _, _, h => h
  | fuel + 1, listed, a, w, h => by
    refine ⟨h.1, fun i hi => ?_⟩
    have h2 := wpOp_mono (fun a' w' h' => anyIn_of_any (l := l) (n := n) hd ho fuel (listed.setIfInBounds i true) a' w' h') (h.2 i hi)
    unfold wpOpIn
    unfold wpOp at h2
    cases hoi : ops[i]? with
    | none => simp only [hoi] at h2 ⊢; exact h2
    | some o =>
      simp only [hoi] at h2 ⊢
      split
      · rename_i hw
        simp only [hw, if_true] at h2
        rcases h2 with h2 | ⟨_, a0, w0, hq⟩
        · unfold Oper.wpIn
          refine ⟨fun _ _ => trivial, ?_⟩
          rw [Oper.semAt_eq _ _ _ (fun c => hd i o c hoi)]
          unfold Oper.wp at h2
          generalize (execOp a.eval o).run P w = r at h2 ⊢
          cases r with
          | ok x w' =>
            cases x <;> simp only [Oper.upon, Oper.uponIn] at h2 ⊢ <;> first | exact h2 | exact h2.elim | skip
            · exact ⟨fun h => by simp [Fence.wide, Fence.inRound] at h, CallsIn.inRound l (callsIn_wide.2 h2)⟩
            · refine ⟨fun h => by simp [Fence.wide, Fence.inRound] at h, ?_⟩
              intro c cs _
              obtain ⟨v, w3, hr, hs⟩ := h2 c cs
              exact ⟨v, w3, hr, stepsIn_wide.2 hs⟩
          | halt x w' => cases x <;> simp only [Oper.upon, Oper.uponIn] at h2 ⊢ <;> first | exact h2 | exact h2.elim
        · exact (ho a0 w0 hq).elim
      · rename_i hw
        simp only [hw] at h2
        exact ⟨fun _ _ => trivial, h2⟩
end
end Go.Proofs.Ytfaihahpnjgejaa
namespace Go.Proofs.Ytfaihahpnjgejaa
open Go.RowKit Go.Proofs.YtfaihahpnjgejaaW.PrintWords
attribute [local go_sem] Oper.semAt_some

set_option maxRecDepth 100000 in
set_option maxHeartbeats 2000000 in
theorem ranks1_in (l kb bb n : Nat) (hn : 1 ≤ n) (k but : Int) (hk0 : 0 ≤ k) (hk8 : k ≤ 8) (J : Nat → World → Prop) (X : List PanicEntry → World → Prop)
    (hcells : ∀ i W, J i W → W.cell? ⟨kb, 0, none⟩ = some (.int .i64 k) ∧ W.cell? ⟨bb, 0, none⟩ = some (.int .i64 but))
    (hskip : ∀ (i : Nat) W, J i W → (i : Int) = but → J (i + 1) W)
    (hY : ∀ (i : Nat) W, J i W → (i : Int) < k → (i : Int) ≠ but → YieldAt Fence.wide (n - 1) Try.prog l #[.int .i64 i] W fun e W' => (e = .returned (.bool true) ∧ J (i + 1) W') ∨ ∃ ch, e = .panicked ch ∧ X ch W')
    (W : World) (h0 : J 0 W) :
    CallsIn Fence.wide n Try.prog 84 #[.func (.yield l) #[] #[], .pointer (some ⟨kb, 0, none⟩), .pointer (some ⟨bb, 0, none⟩)] W fun e W' => ((∃ v, e = .returned v) ∧ J k.toNat W') ∨ ∃ ch, e = .panicked ch ∧ X ch W' := by
  refine callsIn_of_wp Try.func84 rfl trivial ?_ rfl
  simp only [Try.ntmps84, List.size_toArray, List.length_cons, List.length_nil, Nat.reduceAdd, Nat.reduceSub, Array.replicate_succ, Array.replicate_zero, List.push_toArray, List.append_toArray, List.nil_append, List.cons_append]
  have hc0 := (hcells 0 W h0).1
  obtain ⟨K, rfl⟩ := Int.eq_ofNat_of_zero_le hk0
  rw [Int.toNat_natCast]
  have HC := Lib.hid hcells
  have HS := Lib.hid hskip
  have HY := Lib.hid hY
  clear hcells hskip hY
  gi_wp2
  gi_loopw [6] (fun i wr => ∃ j : Nat, j ≤ K ∧ i = .int .i64 j ∧ Hid (J j wr)) (fun i _ => K - (intOf i).toNat)
  case atStart => exact ⟨0, Nat.zero_le _, rfl, h0⟩
  case round =>
    obtain ⟨j, hj, rfl, hJ⟩ := hrel
    have hb1 := (HC.out j _ hJ.out).2
    by_cases hlt : j < K
    · by_cases hbut : (j : Int) = but
      · obtain rfl : but = (j : Int) := hbut.symm
        have hbut : True := trivial
        have hJ2 := Lib.hid (HS.out j _ hJ.out rfl)
        clear hbut
        gi_wp2
        repeat (refine ⟨fun _ _ => trivial, ?_⟩; gi_wp2)
        go_roundw
        case rel => exact ⟨j + 1, by omega, by go_num, hJ2⟩
        case measure => simp [intOf]; omega
      · have hq : ((j : Int) == but) = false := by simp [hbut]
        obtain ⟨fn, tmps, assign, body, hy, hR⟩ := HY.out j _ hJ.out (by omega) hbut
        gi_wp2
        refine hR.mono ?_
        rintro e W3 (⟨rfl, hJ3⟩ | ⟨ch, rfl, hX⟩)
        · replace hJ3 := Lib.hid hJ3
          gi_wp2
          go_roundw
          case rel => exact ⟨j + 1, by omega, by go_num, hJ3⟩
          case measure => simp [intOf]; omega
        · exact ⟨rfl, .inr ⟨ch, rfl, hX⟩⟩
    · obtain rfl : j = K := by omega
      gi_wp2
      go_end0
      exact .inl ⟨⟨_, rfl⟩, hJ.out⟩
end Go.Proofs.Ytfaihahpnjgejaa
namespace Go.Proofs.Ytfaihahpnjgejaa
open Go.RowKit

section
variable {P : Program}
/-- a frame of function f, called plainly -/
def bf (f : FuncId) : Frame := { (default : Frame) with fn := f, kind := .normal }
/-- 'wp' at the frames of one function -/
def wpF (P : Program) (f : FuncId) (c : Code) (Q : Exit → Act → World → Prop) (a : Act) (w : World) : Prop :=
  ∀ (k : List Item) (cs : List Frame), ∃ e a' w', Q e a' w' ∧ Arrives P (lone ((bf f).at a (.code c :: k)) cs w) (bf f) k cs e a' w'
theorem wpF_of_wp {f : FuncId} {c : Code} {Q : Exit → Act → World → Prop} {a : Act} {w : World} (h : c.wp P Q a w) : wpF P f c Q a w := fun k cs => h (bf f) k cs
theorem wpF_seq {f : FuncId} {x y : Code} {Q : Exit → Act → World → Prop} {a : Act} {w : World} (h : wpF P f x (Exit.then (wpF P f y Q) Q) a w) : wpF P f (Code.seq x y) Q a w := by
  intro k cs
  obtain ⟨e, a₁, w₁, hq, harr⟩ := h (.code y :: k) cs
  cases e with
  | normal =>
    obtain ⟨e₂, a₂, w₂, hq₂, harr₂⟩ := hq k cs
    exact ⟨e₂, a₂, w₂, hq₂, .of_steps (.head step_seq harr) harr₂⟩
  | exit id => exact ⟨_, a₁, w₁, hq, .of_steps (.one step_seq) (.pass (x := .code y) rfl (fun _ _ => .inl (by simp)) harr)⟩
  | goto l => exact ⟨_, a₁, w₁, hq, .of_steps (.one step_seq) (.pass (x := .code y) rfl (fun _ _ => .inl (by simp)) harr)⟩
  | ret => exact ⟨_, a₁, w₁, hq, .of_steps (.one step_seq) (.pass (x := .code y) rfl (fun _ _ => .inl (by simp)) harr)⟩
  | panic ch => exact ⟨_, a₁, w₁, hq, .of_steps (.one step_seq) (.pass (x := .code y) rfl (fun _ _ => .inl (by simp)) harr)⟩
  | outgrown => exact ⟨_, a₁, w₁, hq, .of_steps (.one step_seq) (.pass (x := .code y) rfl (fun _ _ => .inl (by simp)) harr)⟩
theorem wpF_block {f id : Nat} {c : Code} {Q : Exit → Act → World → Prop} {a : Act} {w : World} (h : wpF P f c (Exit.inBlock id Q) a w) : wpF P f (Code.block id c) Q a w := by
  intro k cs
  obtain ⟨e, a₁, w₁, hq, harr⟩ := h (.inBlock id :: k) cs
  cases e with
  | normal => exact ⟨.normal, a₁, w₁, hq, .head step_block (Steps.trans harr (.one step_inBlock))⟩
  | exit id' =>
    by_cases hid : id' = id
    · simp only [Exit.inBlock, hid, if_true] at hq
      exact ⟨.normal, a₁, w₁, hq, .head step_block (harr k (by simp [exitTo, hid]))⟩
    · simp only [Exit.inBlock, hid, if_false] at hq
      refine ⟨.exit id', a₁, w₁, hq, fun k' hk => .head step_block (harr k' ?_)⟩
      have : (id == id') = false := by simp; exact fun h => hid h.symm
      simp [exitTo, this, hk]
  | goto l => exact ⟨_, a₁, w₁, hq, fun k' hk => .head step_block (harr k' (by simp [gotoIn, hk]))⟩
  | ret => exact ⟨_, a₁, w₁, hq, .of_steps (.one step_block) harr⟩
  | panic ch => exact ⟨_, a₁, w₁, hq, .of_steps (.one step_block) harr⟩
  | outgrown => exact ⟨_, a₁, w₁, hq, .of_steps (b := bf f) (k := k) (cs := cs) (e := .outgrown) (.one step_block) harr⟩
theorem then_next {next : Act → World → Prop} {Q : Exit → Act → World → Prop} {a : Act} {w : World} (h : next a w) : Exit.then next Q .normal a w := h

theorem calls_of_wpF {f : FuncId} {fn : Func} {c : Code} {args : Array Value} {w : World} {R : Ending → World → Prop} (hf : P.funcs[f]? = some fn) (hb : fn.body = some c)
    (h : wpF P f c (bodyPostM Fence.wide 0 P fn R) { tmps := args ++ Array.replicate (fn.ntmps - args.size) undef, defers := [] } w) : Calls P f args w R := by
  intro cs
  have henter : Frame.enter P f args .normal = (bf f).at { tmps := args ++ Array.replicate (fn.ntmps - args.size) undef, defers := [] } [.code c] := by
    simp [Frame.enter, Frame.at, hf, hb, bf]
  obtain ⟨e, a', w', hq, harr⟩ := h [] cs
  rw [← henter] at harr
  have fin : ∀ {todo : List Item} {md : FrameMode}, LeavesInM Fence.wide 0 P fn a'.tmps R a'.defers md w' → Steps P (lone (Frame.enter P f args .normal) cs w) (lone { (bf f).at a' todo with mode := md } cs w') →
      ∃ e w'' fr, R e w'' ∧ Comes P (lone (Frame.enter P f args .normal) cs w) (lone fr cs w'') e ∧ fr.fn = f ∧ fr.leaving P w'' e := by
    intro todo md hl hs
    obtain ⟨e', w'', fr', hR, hs', hfn, hl'⟩ := leaves_stepsInM (n := 0) a'.defers md w' { (bf f).at a' todo with mode := md } cs rfl rfl rfl hf rfl trivial (room_wide _) hl
    exact ⟨e', w'', fr', hR, Comes.of_steps hs (comesIn_wide.1 hs'), hfn, hl'⟩
  cases e with
  | normal => exact fin (todo := []) hq (Steps.trans harr (.one step_end))
  | ret => obtain ⟨todo, hs₀⟩ := harr; exact fin hq hs₀
  | panic chain => obtain ⟨todo, hs₀⟩ := harr; exact fin hq hs₀
  | exit id => exact hq.elim
  | goto l => exact hq.elim
  | outgrown => exact ⟨.outgrown, w', bf f, hq, harr.resolve_left (by simp [bf]), rfl, trivial⟩

def rangeP (P : Program) (f l : Nat) (Q : Exit → Act → World → Prop) (a' : Act) : Ending → World → Prop
  | .returned _, w₃ => ∃ jump w₄, (Instr.endLoop l).run P w₃ = .ok jump w₄ ∧ (match jump with | none => Q .normal a' w₄ | some c => wpF P f c Q a' w₄)
  | .panicked chain, w₃ => Q (.panic chain) a' w₃
  | .outgrown, _ => LetsOut Q

theorem wpF_rangeFunc {f : FuncId} {g : Operand} {ps : Array Tmp} {assign body : Code} {Q : Exit → Act → World → Prop} {a : Act} {w : World} (l : Nat) (mark : List Deferred) (w₁ : World) (d : Deferred) (w₁' : World) (f' : FuncId) (args : Array Value) (w₂ : World)
    (he : (Instr.enterLoop f a.tmps ps assign body none).run P w = .ok (l, mark) w₁) (hres : (resolve a.eval (rangeCall g l) 0).run P w₁ = .ok d w₁')
    (hinv : (invoke d.target d.args).run P w₁' = .ok (.enter f' args) w₂) (hcall : Calls P f' args w₂ (rangeP P f l Q { a with defers := mark ++ a.defers })) :
    wpF P f (Code.rangeFunc g ps assign body) Q a w := by
  intro k cs
  have henter := stepR_rangeFunc (P := P) (b := bf f) (a := a) (k := k) (cs := cs) (w := w) he hres hinv
  obtain ⟨e, w₃, fr, hR, hsteps, hfn, hleave⟩ := hcall ((bf f).atR { a with defers := mark ++ a.defers } (.inRangeFunc l :: k) :: cs)
  cases e with
  | outgrown =>
    obtain ⟨a₀, w₀, hq⟩ := hR
    exact ⟨.outgrown, a₀, w₀, hq, .inr (Outgrown.of_steps (.one henter) hsteps)⟩
  | returned v =>
    obtain ⟨jump, w₄, hend, hj⟩ := hR
    have s1 : Steps P (lone ((bf f).at a (.code (.rangeFunc g ps assign body) :: k)) cs w) (lone ((bf f).atR { a with defers := mark ++ a.defers } ((jump.map Item.code).toList ++ k)) cs w₄) := by
      refine .head henter (Steps.trans hsteps (.head (step_leave_returned hleave) ?_))
      rw [finish_atR_inRangeFunc]
      exact .one (stepR_endRangeFunc hend)
    cases jump with
    | none => exact ⟨.normal, _, w₄, hj, s1⟩
    | some c =>
      obtain ⟨e₂, a₂, w₅, hq₂, harr₂⟩ := hj k cs
      exact ⟨e₂, a₂, w₅, hq₂, .of_steps s1 harr₂⟩
  | panicked chain =>
    refine ⟨.panic chain, _, w₃, hR, .inRangeFunc l :: k, .head henter (Steps.trans hsteps (.one ?_))⟩
    exact step_leave_panicked hleave
end

/-! ### A loop's record, and the block of its rounds' deferred calls, turn beside what an operation has -/
theorem ownsRow_cells {w : World} {e size n c m xs} {A : Option Addr} (h : w.ownsRow 0 e size (.slice A n c) m xs) : ∀ k, blk? A = some k → ∃ cs T fz, w.heap[k]? = some (.cells cs T fz) := by
  intro k hk
  rcases h.2 with ⟨h1, _⟩ | ⟨g, cap, cur, hv, _, hg, _⟩
  · simp at h1; simp [blk?, h1.1] at hk
  · simp at hv; simp [blk?, hv.1] at hk; subst hk; exact ⟨_, _, _, hg⟩
theorem MemAt.mine_cells {st w g s} (h : MemAt st w g s) : ∀ k, g.mine k → ∃ cs T fz, w.heap[k]? = some (.cells cs T fz) := by
  intro k hk
  rcases hk with rfl | hk | hk | hk
  · exact ⟨_, _, _, h.blk⟩
  · exact ownsRow_cells h.lown k hk
  · exact ownsRow_cells h.vown k hk
  · exact ownsRow_cells h.nown k hk
theorem ne_of_cells {w : World} {k l : Nat} {o : Obj} (hk : ∃ cs T fz, w.heap[k]? = some (.cells cs T fz)) (hl : w.heap[l]? = some o) (ho : o.isCells = false) : k ≠ l := by
  rintro rfl
  obtain ⟨cs, T, fz, h⟩ := hk
  rw [h] at hl
  cases hl
  simp [Obj.isCells] at ho
theorem MemAt.putObj {st w g s} (h : MemAt st w g s) {l : Nat} {o : Obj} (o' : Obj) (hl : w.heap[l]? = some o) (ho : o.isCells = false) : MemAt st (w.putObj l o') g s := by
  refine h.kept (fun k hk => World.putObj_heap_other (ne_of_cells (h.mine_cells k hk) hl ho)) (fun ad e hp => World.putObj_heap_other ?_)
  obtain ⟨ad', e', hc, _⟩ := h.ansr 0 hp
  have : ad' = ad := by rw [e] at e'; exact (Option.some.inj e').symm
  subst this
  have hb : (ad'.add 0).block = ad'.block := by unfold Addr.add; split <;> rfl
  refine ne_of_cells ?_ hl ho
  rw [← hb]
  unfold World.cell? at hc
  split at hc
  · rename_i cs T fz hh; exact ⟨cs, T, fz, hh⟩
  · cases hc
theorem MemP.putObj {b w g s} (h : MemP b w g s) {l : Nat} {o : Obj} (o' : Obj) (hl : w.heap[l]? = some o) (ho : o.isCells = false) : MemP b (w.putObj l o') g s := ⟨h.hb, h.at_.putObj o' hl ho, h.le⟩
theorem BoxAt.putObj {w g k cs T} (h : BoxAt w g k cs T) {l : Nat} {o : Obj} (o' : Obj) (hl : w.heap[l]? = some o) (ho : o.isCells = false) : BoxAt (w.putObj l o') g k cs T :=
  ⟨(World.putObj_heap_other (ne_of_cells ⟨_, _, _, h.1⟩ hl ho)).trans h.1, h.2⟩
theorem Step.putObj {w0 g0 w g} (h : Step w0 g0 w g) {l : Nat} (o' : Obj) (hl : w0.heap.size ≤ l) : Step w0 g0 (w.putObj l o') g :=
  ⟨h.os, h.tape, h.output, by simpa using h.size, fun k hk hm => (World.putObj_heap_other (by omega)).trans (h.same k hk hm), h.mine, h.b, h.aA, h.aN⟩
/-- a block of no cells lies as it lay behind what an operation does -/
theorem Step.other {w g w' g'} (h : Step w g w' g') (hm : ∀ k, g.mine k → ∃ cs T fz, w.heap[k]? = some (.cells cs T fz)) {l : Nat} {o : Obj} (hl : w.heap[l]? = some o) (ho : o.isCells = false) : w'.heap[l]? = some o :=
  (h.same l (heap_lt hl) (fun hk => ne_of_cells (hm l hk) hl ho rfl)).trans hl
end Go.Proofs.Ytfaihahpnjgejaa
namespace Go.Proofs.Ytfaihahpnjgejaa
open Go.RowKit
attribute [local go_sem] Oper.semAt_some

/-- how the body of a round is left -/
def bodyQ (I : World → Prop) (X : List PanicEntry → World → Prop) (V : World) : Exit → Act → World → Prop
  | .normal, _, V' => I V' ∧ ∀ (r : Nat) (o : Obj), V.heap[r]? = some o → o.isCells = false → V'.heap[r]? = some o
  | .panic ch, a, V' => a.defers = [] ∧ X ch V' ∧ ∀ (r : Nat) (o : Obj), V.heap[r]? = some o → o.isCells = false → V'.heap[r]? = some o
  | _, _, _ => False

theorem wpF_ranks {f : FuncId} {fb : Func} (hf : Try.prog.funcs[f]? = some fb) {g : Operand} {p : Tmp} {assign body : Code} {Q : Exit → Act → World → Prop} {a : Act} {w0 : World} (kb bb : Nat) (k but : Int)
    (hg : a.eval g = .func (.func 84) #[] #[.pointer (some ⟨kb, 0, none⟩), .pointer (some ⟨bb, 0, none⟩)]) (hk0 : 0 ≤ k) (hk8 : k ≤ 8)
    (I : Nat → World → Prop) (X : List PanicEntry → World → Prop)
    (hcells : ∀ i V, I i V → V.cell? ⟨kb, 0, none⟩ = some (.int .i64 k) ∧ V.cell? ⟨bb, 0, none⟩ = some (.int .i64 but))
    (hI : ∀ i V (l : Nat) (o o' : Obj), I i V → w0.heap.size ≤ l → V.heap[l]? = some o → o.isCells = false → I i (V.putObj l o'))
    (hX : ∀ ch V (l : Nat) (o o' : Obj), X ch V → w0.heap.size ≤ l → V.heap[l]? = some o → o.isCells = false → X ch (V.putObj l o'))
    (h0 : ∀ W, Below w0.heap.size w0 W → I 0 W) (hskip : ∀ (i : Nat) V, I i V → (i : Int) = but → I (i + 1) V)
    (hround : ∀ (l i : Nat) V, I i V → (i : Int) < k → (i : Int) ≠ but →
      assign.wpIn (Fence.wide.inRound l) 0 Try.prog (Exit.then (fun a₁ w₁ => w₁ = V ∧ ∀ V', I i V' → body.wpIn (Fence.wide.inRound l) 0 Try.prog (bodyQ (I (i + 1)) X V') a₁ V') (fun _ _ _ => False)) { tmps := a.tmps.setIfInBounds p (.int .i64 i), defers := [] } V)
    (hdone : ∀ V (D : Nat), I k.toNat V → V.heap[D]? = some (.deferred (some [])) → w0.heap.size ≤ D → Q .normal { a with defers := { target := .collected D, args := #[] } :: a.defers } V)
    (hpanic : ∀ ch V (D : Nat), X ch V → V.heap[D]? = some (.deferred (some [])) → w0.heap.size ≤ D → Q (.panic ch) { a with defers := { target := .collected D, args := #[] } :: a.defers } V) :
    wpF Try.prog f (Code.rangeFunc g #[p] assign body) Q a w0 := by
  obtain ⟨r, hr⟩ : ∃ r : Loop, r = { state := .ready, pending := none, fn := f, tmps := a.tmps, params := #[p], assign, body, defers := w0.heap.size } := ⟨_, rfl⟩
  obtain ⟨W1, hW1⟩ : ∃ W1, (w0.alloc (.deferred (some []))).alloc (.loop r) = W1 := ⟨_, rfl⟩
  have hb1 : Below w0.heap.size w0 W1 := by rw [← hW1]; exact ((Below.refl _ _).alloc (Nat.le_refl _) _).alloc (by simp) _
  have hL1 : W1.heap[w0.heap.size + 1]? = some (.loop r) := by
    rw [← hW1]
    have h := heap_alloc_new (w0.alloc (.deferred (some []))) (.loop r)
    rw [show (w0.alloc (.deferred (some []))).heap.size = w0.heap.size + 1 from by simp] at h
    exact h
  have hD1 : W1.heap[w0.heap.size]? = some (.deferred (some [])) := by
    rw [← hW1]
    exact (Below.heap_alloc _ _ _ (by simp)).trans (heap_alloc_new w0 _)
  refine wpF_rangeFunc (w0.heap.size + 1) [{ target := .collected w0.heap.size, args := #[] }] W1 { target := .fn (.func 84) #[.pointer (some ⟨kb, 0, none⟩), .pointer (some ⟨bb, 0, none⟩)], args := #[.func (.yield (w0.heap.size + 1)) #[] #[]] } W1 84
    #[.func (.yield (w0.heap.size + 1)) #[] #[], .pointer (some ⟨kb, 0, none⟩), .pointer (some ⟨bb, 0, none⟩)] W1 ?_ ?_ ?_ ?_
  · rw [← hW1, hr]; exact run_enterLoop_outer _ _ _ _ _
  · simp only [resolve, rangeCall]
    rw [hg]
    simp [Deferred.ofValue, Act.eval]
  · simp [invoke, go_sem]
  · have hit := ranks1_in (w0.heap.size + 1) kb bb 1 (Nat.le_refl _) k but hk0 hk8 (fun i V => I i V ∧ V.heap[w0.heap.size + 1]? = some (.loop r) ∧ V.heap[w0.heap.size]? = some (.deferred (some [])))
      (fun ch V => X ch V ∧ V.heap[w0.heap.size]? = some (.deferred (some []))) (fun i V h => hcells i V h.1) (fun i V h e => ⟨hskip i V h.1 e, h.2⟩) ?_ W1 ⟨h0 _ hb1, hL1, hD1⟩
    · refine (callsIn_wide.1 hit).mono ?_
      rintro e V (⟨⟨v, rfl⟩, hIk, hLk, hDk⟩ | ⟨ch, rfl, hXk, hDk⟩)
      · refine ⟨r.pending, _, run_endLoop hLk (by rw [hr]; simp), ?_⟩
        rw [hr]
        exact hdone _ _ (hI _ _ _ _ _ hIk (by omega) hLk rfl) ((World.putObj_heap_other (by omega)).trans hDk) (Nat.le_refl _)
      · exact hpanic ch V _ hXk hDk (Nat.le_refl _)
    · rintro i V ⟨hi, hL, hD⟩ hlt hne
      refine ⟨_, _, _, _, run_yield (args := #[.int .i64 i]) hL (by rw [hr]; rfl), ?_⟩
      refine round_of (fb := fb) (by rw [hr]; exact hf) ?_
      have hq := hround (w0.heap.size + 1) i V hi hlt hne
      have et : ((r.params.zip #[Value.int .i64 i]).foldl (fun tmps (t, a) => tmps.setIfInBounds t a) r.tmps) = a.tmps.setIfInBounds p (.int .i64 i) := by rw [hr]; simp
      rw [et, show r.assign = assign by rw [hr], show r.body = body by rw [hr]]
      refine Go.wpIn_mono hq ?_
      intro e a₁ w₁ hh
      cases e with
      | normal =>
        obtain ⟨rfl, hbody⟩ := hh
        have hst : r.state = .ready := by rw [hr]
        refine ⟨_, run_beginRound hL hst, ?_⟩
        have hi2 := hI _ _ _ _ (.loop { r with state := .busy }) hi (by omega) hL rfl
        have hL2 : (w₁.putObj (w0.heap.size + 1) (.loop { r with state := .busy })).heap[w0.heap.size + 1]? = some (.loop { r with state := .busy }) := World.putObj_heap_same (heap_lt hL)
        have hD2 : (w₁.putObj (w0.heap.size + 1) (.loop { r with state := .busy })).heap[w0.heap.size]? = some (.deferred (some [])) := (World.putObj_heap_other (by omega)).trans hD
        refine Go.wpIn_mono (hbody _ hi2) ?_
        intro e2 a2 w2 hh2
        cases e2 with
        | normal =>
          obtain ⟨hI3, hk3⟩ := hh2
          have hL3 := hk3 _ _ hL2 rfl
          refine ⟨_, _, run_endRound none hL3, .inl ⟨rfl, hI _ _ _ _ _ hI3 (by omega) hL3 rfl, ?_, (World.putObj_heap_other (by omega)).trans (hk3 _ _ hD2 rfl)⟩⟩
          rw [World.putObj_heap_same (heap_lt hL3), hr]
          rfl
        | panic ch =>
          obtain ⟨hd, hX3, hk3⟩ := hh2
          exact ⟨hd, .inr ⟨ch, rfl, hX3, hk3 _ _ hD2 rfl⟩⟩
        | ret => exact hh2.elim
        | exit _ => exact hh2.elim
        | goto _ => exact hh2.elim
        | outgrown => exact hh2.elim
      | ret => exact hh.elim
      | exit _ => exact hh.elim
      | goto _ => exact hh.elim
      | panic _ => exact hh.elim
      | outgrown => exact hh.elim
end Go.Proofs.Ytfaihahpnjgejaa
namespace Go.Proofs.Ytfaihahpnjgejaa
open Go.RowKit

def clampS (n top : Int) : Int := max 0 (min (min n top) 1099511627776)
def threadsS (n : Int) : Int := max 1 (min n 8)
def packS (hi lo top : Int) : Int := clampS hi 1048576 * (clampS top 1048576 + 1) + clampS lo (clampS top 1048576)
def unpackM (top : Int) : Int := clampS top 1048576 + 1
def unpackY (x : Int) : Int := max 0 (min x 4398046511104)
theorem threadsS_range (n : Int) : 1 ≤ threadsS n ∧ threadsS n ≤ 8 := by unfold threadsS; omega
theorem clampS_range (n top : Int) : 0 ≤ clampS n top ∧ clampS n top ≤ 1099511627776 ∧ clampS n top ≤ max 0 top := by unfold clampS; omega

set_option maxRecDepth 100000 in
theorem clamp_calls0 (n t : Int) (w : World) : Calls Try.prog 63 #[.int .i64 n, .int .i64 t] w fun e w' => e = .returned (.int .i64 (clampS n t)) ∧ w = w' := by
  go_enter Try.func63, Try.ntmps63
  go_wp2
  all_goals
    go_ret
    exact ⟨ret_int (by unfold clampS; omega), rfl⟩
set_option maxRecDepth 100000 in
theorem threads_calls0 (n : Int) (w : World) : Calls Try.prog 66 #[.int .i64 n] w fun e w' => e = .returned (.int .i64 (threadsS n)) ∧ w = w' := by
  go_enter Try.func66, Try.ntmps66
  go_wp2
  all_goals
    go_ret
    exact ⟨ret_int (by unfold threadsS; omega), rfl⟩
set_option maxRecDepth 100000 in
theorem pack_calls0 (hi lo t : Int) (w : World) : Calls Try.prog 64 #[.int .i64 hi, .int .i64 lo, .int .i64 t] w fun e w' => e = .returned (.int .i64 (packS hi lo t)) ∧ w = w' := by
  have h1 := clampS_range hi 1048576
  have h2 := clampS_range t 1048576
  have e : Hid (packS hi lo t = clampS hi 1048576 * (clampS t 1048576 + 1) + clampS lo (clampS t 1048576)) := by show _ = _; rfl
  rw [e.out]
  clear e
  have c1 := fun w => clamp_calls0 hi 1048576 w
  have c2 := fun w => clamp_calls0 t 1048576 w
  have c3 := fun w => clamp_calls0 lo (clampS t 1048576) w
  have h3 := clampS_range lo (clampS t 1048576)
  generalize clampS lo (clampS t 1048576) = z at *
  generalize clampS t 1048576 = y at *
  generalize clampS hi 1048576 = x at *
  have h4 : 0 ≤ x * (y + 1) := Int.mul_nonneg (by omega) (by omega)
  have h5 : x * (y + 1) ≤ 1048576 * 1048577 := Int.mul_le_mul (by omega) (by omega) (by omega) (by omega)
  obtain ⟨y0, y1, y2⟩ := h2
  obtain ⟨x0, x1, x2⟩ := h1
  obtain ⟨z0, z1, z2⟩ := h3
  have C1 := Lib.hid c1
  have C2 := Lib.hid c2
  have C3 := Lib.hid c3
  clear c1 c2 c3
  go_enter Try.func64, Try.ntmps64
  go_wp2_with fail
  refine (C2.out _).mono ?_
  rintro e w' ⟨rfl, rfl⟩
  go_wp2_with fail
  refine (C1.out _).mono ?_
  rintro e w' ⟨rfl, rfl⟩
  go_wp2_with fail
  refine (C3.out _).mono ?_
  rintro e w' ⟨rfl, rfl⟩
  go_wp2
  go_ret
  exact ⟨rfl, rfl⟩
set_option maxRecDepth 100000 in
theorem unpack_calls0 (x t : Int) (w : World) : Calls Try.prog 76 #[.int .i64 x, .int .i64 t] w fun e w' => e = .returned (.tuple #[.int .i64 (unpackY x / unpackM t), .int .i64 (unpackY x % unpackM t)]) ∧ w' = w.drew := by
  have h2 := clampS_range t 1048576
  have c2 := fun w => clamp_calls0 t 1048576 w
  unfold unpackM
  generalize clampS t 1048576 = y at *
  obtain ⟨y0, y1, y2⟩ := h2
  have C2 := Lib.hid c2
  clear c2
  obtain ⟨q, hq⟩ : ∃ q : Int, (if 4398046511104 < x then 4398046511104 else x) = q := ⟨_, rfl⟩
  obtain ⟨z, hz⟩ : ∃ z : Int, (if 0 < q then q else 0) = z := ⟨_, rfl⟩
  have hzz : unpackY x = z := by unfold unpackY; rw [← hz, ← hq]; split <;> split <;> omega
  have hz0 : 0 ≤ z := by rw [← hz]; split <;> omega
  have hz1 : z ≤ 4398046511104 := by rw [← hz, ← hq]; split <;> split <;> omega
  rw [hzz]
  clear hzz
  have hne : ¬ y + 1 = 0 := by omega
  have hneb : (y + 1 == 0) = false := by simpa using hne
  go_enter Try.func76, Try.ntmps76
  go_wp2_with fail
  refine (C2.out _).mono ?_
  rintro e w' ⟨rfl, rfl⟩
  go_wp2
  clear hq hz
  go_region
  all_goals
    go_wp2
    go_ret2
    exact ⟨rfl, rfl⟩

def writerS (r : Reg) : Int := if r.writer < 0 ∨ r.writer ≥ threadsS r.n then 0 else r.writer
theorem writerS_range (r : Reg) : 0 ≤ writerS r ∧ writerS r < threadsS r.n := by have := threadsS_range r.n; unfold writerS; split <;> omega
def tSlot (r : Reg) (n : Int) : Reg := { kind := 5, base := r.base + 16 * n, loc := r.loc + 2 + 18 * n, n := r.n, writer := r.writer, reader := r.reader, top := 1099511627776 }
def tTells (r : Reg) (k a b : Int) : Reg := tSlot r (k + a * (k - 1) + (if b > a then b - 1 else b))

set_option maxRecDepth 100000 in
set_option maxHeartbeats 1000000 in
theorem writer_calls0 (r : Reg) (w : World) : Calls Try.prog 62 #[r.v] w fun e w' => e = .returned (.int .i64 (writerS r)) ∧ Below w.heap.size w w' := by
  have CT := Lib.hid (fun w => threads_calls0 r.n w)
  have hT := threadsS_range r.n
  simp only [Reg.v, Reg.cs]
  by_cases h0 : r.writer < 0
  · have e : Hid (writerS r = 0) := by show _ = _; simp [writerS, h0]
    have hq : decide (r.writer < 0) = true := by simpa using h0
    rw [e.out]
    clear e
    go_enter Try.func62, Try.ntmps62
    go_wp2
    go_quiet (fail)
    go_wp2
    go_ret
    exact ⟨rfl, (by repeat first | exact Below.refl _ _ | refine Below.alloc ?_ (by simp) _ | refine Below.setCell ?_ (by simp) _ | refine Below.drew ?_ | refine RowKit.below_drewN ?_ _ | refine below_drewN ?_ _)⟩
  · have hq : decide (r.writer < 0) = false := by simpa using h0
    by_cases h1 : r.writer ≥ threadsS r.n
    · have e : Hid (writerS r = 0) := by show _ = _; simp [writerS, h1]
      rw [e.out]
      clear e
      generalize threadsS r.n = T at *
      have hq1 : decide (T ≤ r.writer) = true := by simpa using h1
      go_enter Try.func62, Try.ntmps62
      go_wp2
      go_quiet ((go_at_call 66; exact Calls.quiet_of_same ((CT.out _).mono fun _ _ ⟨a, b⟩ => ⟨a, b.symm⟩)))
      go_wp2
      go_ret
      exact ⟨rfl, (by repeat first | exact Below.refl _ _ | refine Below.alloc ?_ (by simp) _ | refine Below.setCell ?_ (by simp) _ | refine Below.drew ?_ | refine RowKit.below_drewN ?_ _ | refine below_drewN ?_ _)⟩
    · have e : Hid (writerS r = r.writer) := by show _ = _; unfold writerS; rw [if_neg (by omega)]
      rw [e.out]
      clear e
      generalize threadsS r.n = T at *
      have hq1 : decide (T ≤ r.writer) = false := by simpa using h1
      go_enter Try.func62, Try.ntmps62
      go_wp2
      go_quiet ((go_at_call 66; exact Calls.quiet_of_same ((CT.out _).mono fun _ _ ⟨a, b⟩ => ⟨a, b.symm⟩)))
      go_wp2
      go_ret
      exact ⟨rfl, (by repeat first | exact Below.refl _ _ | refine Below.alloc ?_ (by simp) _ | refine Below.setCell ?_ (by simp) _ | refine Below.drew ?_ | refine RowKit.below_drewN ?_ _ | refine below_drewN ?_ _)⟩

set_option maxRecDepth 100000 in
theorem tSlot_calls0 (r : Reg) (i : Int) (hr : r.In2) (hi : 0 ≤ i ∧ i ≤ 1000000) (W : World) :
    Calls Try.prog 67 #[r.v, .int .i64 i] W fun e w' => e = .returned (tSlot r i).v ∧ Below W.heap.size W w' := by
  obtain ⟨hb1, hb2, hl1, hl2⟩ := hr
  obtain ⟨hi1, hi2⟩ := hi
  simp only [Reg.v, Reg.cs, tSlot]
  go_enter Try.func67, Try.ntmps67
  go_wp2
  exact bodyPost_ret (v := .agg #[.int .i64 5, .int .i64 (r.base + 16 * i), .int .i64 (r.loc + 2 + 18 * i), .int .i64 r.n, .int .i64 r.writer, .int .i64 r.reader, .int .i64 1099511627776]) (by simp [results, Try.results67, go_sem]) rfl ⟨rfl, (by repeat first | exact Below.refl _ _ | refine Below.alloc ?_ (by simp) _ | refine Below.setCell ?_ (by simp) _ | refine Below.drew ?_ | refine RowKit.below_drewN ?_ _ | refine below_drewN ?_ _)⟩
end Go.Proofs.Ytfaihahpnjgejaa
namespace Go.Proofs.Ytfaihahpnjgejaa
open Go.RowKit Go.Proofs.YtfaihahpnjgejaaW.PrintWords Go.Proofs.YtfaihahpnjgejaaW.PrintLast

attribute [local go_sem] Oper.semAt_some
section
variable {P : Program}
theorem wpIn_round_region {id l n N : Nat} {ops : Array Oper} {Q : Exit → Act → World → Prop} {a : Act} {w : World} {S : World → Prop} {ds : List Nat} (hm : P.follows .mixedOrders = true)
    (hd : (ops.all fun o => match o.op with | .defer _ => false | _ => true) = true) (ho : ∀ a w, ¬ Q .outgrown a w) (ls : Array Bool) (hn : ops.size = N) (hl : Array.replicate N false = ls) (hS : S w.drew)
    (h : S w.drew → wpAnyLast P .any ops Q S ds N ls a w.drew) : (Code.region id ops true).wpIn (Fence.wide.inRound l) n P Q a w := by
  subst hn
  subst hl
  refine wpIn_region_any hm (anyIn_of_any ?_ ho _ _ _ _ (wpAny_of_last _ _ _ _ (h hS)))
  intro i o c hi hc
  have := (Array.all_eq_true.1 hd) i (Array.getElem?_eq_some_iff.1 hi).1
  rw [(Array.getElem?_eq_some_iff.1 hi).2, hc] at this
  cases this
/-- a call that may panic, as one step of a region -/
theorem callP_ {ops : Array Oper} {Q : Exit → Act → World → Prop} {oi : Oper} {N : Option Tmp} {a : Act} {w : World} {K : Act → World → Prop} {f : FuncId} {fn : Func} {ags : Array Operand} {ts : Array TypeId} (hf : P.funcs[f]? = some fn) (hname : (fn.name == "runtime.NumGoroutine") = false) (hb : fn.body.isSome = true) (args : Array Value)
    (hw : Region.wanted oi (yielded ops a.tmps) = true) (hN : oi.dst = N) (hop : oi.op = .call { callee := .value (.func f), args := ags, argTypes := ts }) (hargs : ags.map a.eval = args)
    (h : Calls P f args w fun e w' => (∃ v, e = .returned v ∧ K (a.put N v) w') ∨ ∃ ch, e = .panicked ch ∧ Q (.panic ch) a w') : if Region.wanted oi (yielded ops a.tmps) = true then Oper.wp P oi a w K Q else K (a.put N undef) w := by
  rw [if_pos hw]
  subst hN
  have he := enters_ hf hname hb args w
  have hrun : (execOp a.eval oi).run P w = .ok (.enter f args) w := by
    unfold execOp
    simp [hop, resolve, Deferred.ofValue, invoke, Act.eval, hargs, he]
  unfold Oper.wp
  rw [hrun, Oper.upon_enter]
  refine h.mono fun e w'' hh => ?_
  rcases hh with ⟨v, rfl, hk⟩ | ⟨ch, rfl, hk⟩
  · exact hk
  · exact hk
end

def Reg.In3 (r : Reg) : Prop := -1152921504606846976 ≤ r.base ∧ r.base ≤ 1152921504606846976 ∧ -1152921504606846976 ≤ r.loc ∧ r.loc ≤ 1152921504606846976
theorem tSlot_in {r : Reg} (h : r.In3) (i : Int) (hi : 0 ≤ i ∧ i ≤ 1000000) : (tSlot r i).In2 := by obtain ⟨a, b, c, d⟩ := h; obtain ⟨i1, i2⟩ := hi; simp only [tSlot]; exact ⟨by simp only; omega, by simp only; omega, by simp only; omega, by simp only; omega⟩
theorem Reg.In3.in2 {r : Reg} (h : r.In3) : r.In2 := by obtain ⟨a, b, c, d⟩ := h; exact ⟨by omega, by omega, by omega, by omega⟩
theorem OpM.bind_assoc {α β γ : Type} (m : OpM α) (f : α → OpM β) (k : β → OpM γ) : OpM.bind (OpM.bind m f) k = OpM.bind m (fun x => OpM.bind (f x) k) := by
  funext s; unfold OpM.bind; cases h : m s with | mk a s1 => cases a <;> rfl
theorem writer_calls {w W : World} (r : Reg) (hW : Below w.heap.size w W) : Calls Try.prog 62 #[r.v] W fun e w' => e = .returned (.int .i64 (writerS r)) ∧ Below w.heap.size w w' := Calls.from_below hW (writer_calls0 r W)
theorem tSlot_calls {w W : World} (r : Reg) (i : Int) (hr : r.In2) (hi : 0 ≤ i ∧ i ≤ 1000000) (hW : Below w.heap.size w W) : Calls Try.prog 67 #[r.v, .int .i64 i] W fun e w' => e = .returned (tSlot r i).v ∧ Below w.heap.size w w' := Calls.from_below hW (tSlot_calls0 r i hr hi W)
theorem clamp_calls {b : Nat} {w W : World} {g : Gh} {s : St} (n t : Int) (_hm : MemP b w g s) (_hW : Below w.heap.size w W) : Calls Try.prog 63 #[.int .i64 n, .int .i64 t] W fun e w' => e = .returned (.int .i64 (clampS n t)) ∧ W = w' := clamp_calls0 n t W
theorem pack_calls {b : Nat} {w W : World} {g : Gh} {s : St} (hi lo t : Int) (_hm : MemP b w g s) (_hW : Below w.heap.size w W) : Calls Try.prog 64 #[.int .i64 hi, .int .i64 lo, .int .i64 t] W fun e w' => e = .returned (.int .i64 (packS hi lo t)) ∧ W = w' := pack_calls0 hi lo t W
theorem threads_calls {b : Nat} {w W : World} {g : Gh} {s : St} (n : Int) (_hm : MemP b w g s) (_hW : Below w.heap.size w W) : Calls Try.prog 66 #[.int .i64 n] W fun e w' => e = .returned (.int .i64 (threadsS n)) ∧ W = w' := threads_calls0 n W

theorem ranks_calls0 (k but : Int) (w : World) : Calls Try.prog 65 #[.int .i64 k, .int .i64 but] w fun e w' => e = .returned (.func (.func 84) #[] #[.pointer (some ⟨w.heap.size, 0, none⟩), .pointer (some ⟨w.heap.size + 1, 0, none⟩)]) ∧ w' = (w.alloc (.cells #[.int .i64 k] 3)).alloc (.cells #[.int .i64 but] 3) := by
  have hmf : ∀ (fn : Fn) (first cap : Array Value) (w : World), (Instr.makeFunc fn first cap).run Try.prog w = .ok (.func fn first cap) w := fun _ _ _ _ => rfl
  go_enter Try.func65, Try.ntmps65
  go_wp2
  go_ret
  exact ⟨rfl, rfl⟩

/-- what is left to be done, told from where a loop began -/
theorem MPost.seqB {b : Nat} {α β : Type} {m : OpM α} {f : α → OpM β} {enc : β → Value} {w : World} {g : Gh} {s s1 : St} {x : α} {R : Ending → World → Prop} (hx : m s = (some x, s1))
    (h : Hid (∀ e w', MPost b enc w g (OpM.bind m f s) e w' → R e w')) : Hid (∀ e w', MPost b enc w g (f x s1) e w' → R e w') := by rw [OpM.bind_some hx] at h; exact h
theorem MPost.haltB {b : Nat} {α β : Type} {m : OpM α} {f : α → OpM β} {enc : β → Value} {w w1 : World} {g g1 : Gh} {s s1 : St} {R : Ending → World → Prop} (hx : m s = (none, s1)) (st : Step w g w1 g1) (hm : MemAt 2 w1 g1 s1 ∧ g1.b = b)
    (h : Hid (∀ e w', MPost b enc w g (OpM.bind m f s) e w' → R e w')) : R (.panicked [stopOf b]) w1 := h _ _ ⟨g1, s1, st, .inr ⟨OpM.bind_none hx, rfl, hm⟩⟩
theorem MPost.base {b : Nat} {β : Type} {enc : β → Value} {w w1 : World} {g g1 : Gh} {r : Option β × St} {R : Ending → World → Prop} (st : Step w g w1 g1)
    (h : Hid (∀ e w', MPost b enc w g r e w' → R e w')) : Hid (∀ e w', MPost b enc w1 g1 r e w' → R e w') := MPost.move st h

def tSpread (r : Reg) (x but : Int) : Nat → Nat → OpM Unit
  | _, 0 => OpM.ret ()
  | i, n + 1 => if (i : Int) = but then tSpread r x but (i + 1) n else OpM.bind (slotsW (tSlot r i) x) fun _ => tSpread r x but (i + 1) n
def tableW (r : Reg) (me v : Int) : OpM Unit := fun s =>
  if me = writerS r then
    OpM.bind (setM (r.loc + 0) (wrap64 (getS (r.loc + 0) s + 1))) (fun _ =>
    OpM.bind (tSpread r (packS (wrap64 (getS (r.loc + 0) s + 1)) (clampS v (clampS r.top 1048576)) (clampS r.top 1048576)) (-1) 0 (threadsS r.n - 1).toNat) fun _ =>
    OpM.bind (setM (r.loc + 1) (clampS v (clampS r.top 1048576))) OpM.ret) s
  else (some (), s)

set_option maxRecDepth 100000 in
set_option maxHeartbeats 4000000 in
theorem tableW_calls0 {b : Nat} {w : World} {g : Gh} {s : St} (r : Reg) (me v : Int) (hr : r.In3) (hm : MemP b w g s) :
    Calls Try.prog 31 #[.pointer (some ⟨b, 0, none⟩), r.v, .int .i64 me, .int .i64 v] w (MPost b unitV w g (tableW r me v s)) := by
  refine Calls.of_post fun R HR => ?_
  refine calls_of_wpF Try.func31 rfl ?_
  simp only [Try.ntmps31, List.size_toArray, List.length_cons, List.length_nil, Nat.reduceAdd, Nat.reduceSub, Array.replicate_succ, Array.replicate_zero, List.push_toArray, List.append_toArray, List.nil_append, List.cons_append]
  simp only [Reg.v, Reg.cs] at HR ⊢
  obtain ⟨hm1, BM⟩ := hm.box #[.pointer (some ⟨b, 0, none⟩)] 36
  replace HR := MPost.move (Step.of_alloc w g (.cells #[.pointer (some ⟨b, 0, none⟩)] 36)) HR
  obtain ⟨hm2, BX⟩ := hm1.box r.cs 23
  replace HR := MPost.move (Step.of_alloc _ g (.cells r.cs 23)) HR
  replace BM := BM.below ((Below.refl _ _).alloc (Nat.le_refl _) (.cells r.cs 23))
  replace hm := hm2
  clear hm1 hm2
  rw [show (w.alloc (Obj.cells #[Value.pointer (some ⟨b, 0, none⟩)] 36)).heap.size = w.heap.size + 1 from by simp] at BX
  simp only [Reg.cs] at hm HR BX BM
  replace BX := Lib.hid BX
  replace BM := Lib.hid BM
  have m0 := cell_of_blk BM.out.1 0
  simp at m0
  have r0 := cell_of_blk BX.out.1 0
  have r1 := cell_of_blk BX.out.1 1
  have r2 := cell_of_blk BX.out.1 2
  have r3 := cell_of_blk BX.out.1 3
  have r4 := cell_of_blk BX.out.1 4
  have r5 := cell_of_blk BX.out.1 5
  have r6 := cell_of_blk BX.out.1 6
  simp at r0 r1 r2 r3 r4 r5 r6
  refine wpF_seq (wpF_of_wp ?_)
  go_wp2_with fail
  have hin := hr
  obtain ⟨hb1, hb2, hl1, hl2⟩ := hr
  refine wpF_seq (wpF_of_wp ?_)
  go_wp2_with fail
  refine (writer_calls r (MemP.blw hm (by first | exact Below.refl _ _ | exact (Below.refl _ _).drew))).mono ?_
  rintro e_ w_ ⟨rfl, hbl_⟩
  replace HR := MPost.move (Step.of_below _ hbl_) HR
  replace hm := hm.below hbl_
  clear m0
  replace BM := Lib.hid (BM.out.below hbl_)
  have m0 := cell_of_blk BM.out.1 0
  simp at m0
  clear r0 r1 r2 r3 r4 r5 r6
  replace BX := Lib.hid (BX.out.below hbl_)
  have r0 := cell_of_blk BX.out.1 0
  have r1 := cell_of_blk BX.out.1 1
  have r2 := cell_of_blk BX.out.1 2
  have r3 := cell_of_blk BX.out.1 3
  have r4 := cell_of_blk BX.out.1 4
  have r5 := cell_of_blk BX.out.1 5
  have r6 := cell_of_blk BX.out.1 6
  simp at r0 r1 r2 r3 r4 r5 r6
  clear hbl_
  by_cases hw : me = writerS r
  rotate_left
  · unfold tableW at HR
    rw [if_neg hw] at HR
    have hq : (me == writerS r) = false := beq_eq_false_iff_ne.2 hw
    clear hw
    go_wp2_with fail
    exact ⟨_, results_none rfl _ _ _, MPost.done (enc := unitV) (x := ()) hm HR⟩
  unfold tableW at HR
  rw [if_pos hw] at HR
  have hq : (me == writerS r) = true := beq_iff_eq.2 hw
  clear hw
  go_wp2_with fail
  clear hq
  refine wpF_seq (wpF_of_wp ?_)
  go_wp2_with fail
  refine (clamp_calls _ _ hm (by first | exact Below.refl _ _ | exact (Below.refl _ _).drew)).mono ?_
  rintro e_ w_ ⟨rfl, rfl⟩
  have ht := clampS_range r.top 1048576
  generalize clampS r.top 1048576 = top at *
  go_wp2_with fail
  refine wpF_seq (wpF_of_wp ?_)
  go_wp2_with fail
  refine (clamp_calls _ _ hm (by first | exact Below.refl _ _ | exact (Below.refl _ _).drew)).mono ?_
  rintro e_ w_ ⟨rfl, rfl⟩
  generalize clampS v top = vv at *
  go_wp2_with fail
  refine wpF_seq (wpF_of_wp ?_)
  go_wp2_with fail
  refine (get_calls _ hm (by first | exact Below.refl _ _ | exact (Below.refl _ _).drew)).mono ?_
  rintro e_ w_ ⟨rfl, rfl⟩
  have hw0 : r.loc + 0 = r.loc := by omega
  rw [hw0] at HR
  clear hw0
  go_wp2_with fail
  generalize getS r.loc s = st at *
  refine wpF_seq (wpF_of_wp ?_)
  go_wp2_with fail
  refine (set_calls _ _ hm (by first | exact Below.refl _ _ | exact (Below.refl _ _).drew)).mono ?_
  rintro e_ w_ ⟨g_, s_, st_, hc_⟩
  refine Or.elim hc_ (fun hd_ => ?_) (fun ⟨hx_, he_, hm_⟩ => by subst he_; first | exact ⟨rfl, MPost.halt hx_ st_ hm_ HR⟩ | exact MPost.halt hx_ st_ hm_ HR)
  clear hc_
  obtain ⟨x_, hx_, rfl, hm_⟩ := hd_
  replace HR := MPost.seq hx_ st_ HR
  replace hm := hm_
  clear m0
  replace BM := Lib.hid (BM.out.step st_)
  have m0 := cell_of_blk BM.out.1 0
  simp at m0
  clear r0 r1 r2 r3 r4 r5 r6
  replace BX := Lib.hid (BX.out.step st_)
  have r0 := cell_of_blk BX.out.1 0
  have r1 := cell_of_blk BX.out.1 1
  have r2 := cell_of_blk BX.out.1 2
  have r3 := cell_of_blk BX.out.1 3
  have r4 := cell_of_blk BX.out.1 4
  have r5 := cell_of_blk BX.out.1 5
  have r6 := cell_of_blk BX.out.1 6
  simp at r0 r1 r2 r3 r4 r5 r6
  clear hx_ st_
  go_wp2_with fail
  refine wpF_seq (wpF_of_wp ?_)
  go_wp2_with fail
  refine (pack_calls _ _ _ hm (by first | exact Below.refl _ _ | exact (Below.refl _ _).drew)).mono ?_
  rintro e_ w_ ⟨rfl, rfl⟩
  generalize packS (wrap64 (st + 1)) vv top = x at *
  go_wp2_with fail
  obtain ⟨hm1, XB⟩ := hm.box #[.int .i64 x] 3
  replace HR := MPost.move (Step.of_alloc _ _ (.cells #[.int .i64 x] 3)) HR
  replace hm := hm1
  replace BM := Lib.hid (BM.out.below ((Below.refl _ _).alloc (Nat.le_refl _) (.cells #[.int .i64 x] 3)))
  replace BX := Lib.hid (BX.out.below ((Below.refl _ _).alloc (Nat.le_refl _) (.cells #[.int .i64 x] 3)))
  replace XB := Lib.hid XB
  clear hm1
  generalize w_.heap.size = xb at *
  generalize w_.alloc (.cells #[.int .i64 x] 3) = V at *
  clear m0 r0 r1 r2 r3 r4 r5 r6
  have m0 := cell_of_blk BM.out.1 0
  simp at m0
  have r0 := cell_of_blk BX.out.1 0
  have r1 := cell_of_blk BX.out.1 1
  have r2 := cell_of_blk BX.out.1 2
  have r3 := cell_of_blk BX.out.1 3
  have r4 := cell_of_blk BX.out.1 4
  have r5 := cell_of_blk BX.out.1 5
  have r6 := cell_of_blk BX.out.1 6
  simp at r0 r1 r2 r3 r4 r5 r6
  have x0 := cell_of_blk XB.out.1 0
  simp at x0
  refine wpF_seq (wpF_seq (wpF_of_wp ?_))
  go_wp2_with fail
  refine (threads_calls _ hm (by first | exact Below.refl _ _ | exact (Below.refl _ _).drew)).mono ?_
  rintro e_ w_ ⟨rfl, rfl⟩
  have hT := threadsS_range r.n
  generalize threadsS r.n = T at *
  obtain ⟨hT1, hT2⟩ := hT
  go_wp2_with fail
  refine (ranks_calls0 _ _ _).mono ?_
  rintro e_ w_ ⟨rfl, rfl⟩
  obtain ⟨hm1, KB⟩ := hm.box #[.int .i64 (T - 1)] 3
  obtain ⟨hm2, BB⟩ := hm1.box #[.int .i64 (-1)] 3
  have hbl : Below V.heap.size V ((V.alloc (.cells #[.int .i64 (T - 1)] 3)).alloc (.cells #[.int .i64 (-1)] 3)) := ((Below.refl _ _).alloc (Nat.le_refl _) _).alloc (by simp) _
  replace HR := MPost.move (Step.of_below _ hbl) HR
  replace BM := Lib.hid (BM.out.below hbl)
  replace BX := Lib.hid (BX.out.below hbl)
  replace XB := Lib.hid (XB.out.below hbl)
  replace KB := Lib.hid (KB.below ((Below.refl _ _).alloc (Nat.le_refl _) (.cells #[.int .i64 (-1)] 3)))
  rw [show (V.alloc (.cells #[.int .i64 (T - 1)] 3)).heap.size = V.heap.size + 1 from by simp] at BB
  replace BB := Lib.hid BB
  replace hm := hm2
  clear hm1 hm2 hbl m0 r0 r1 r2 r3 r4 r5 r6 x0
  generalize V.heap.size = kb at *
  generalize (V.alloc (.cells #[.int .i64 (T - 1)] 3)).alloc (.cells #[.int .i64 (-1)] 3) = w0 at *
  go_wp2_with fail
  refine wpF_block ?_
  obtain ⟨n, hn⟩ : ∃ n : Nat, T - 1 = n := ⟨(T - 1).toNat, by omega⟩
  rw [hn] at HR KB
  rw [Int.toNat_natCast] at HR
  have hn7 : n ≤ 7 := by omega
  clear hn
  generalize wpF_gen : s_ = s0 at *
  clear wpF_gen
  obtain ⟨g0, hg0⟩ : ∃ g0, g_ = g0 := ⟨_, rfl⟩
  rw [hg0] at hm HR BM BX XB KB BB
  clear hg0
  have hmb := hm.hb
  refine wpF_ranks Try.func31 kb (kb + 1) n (-1) rfl (by omega) (by omega)
    (fun i V => ∃ g s, MemP b V g s ∧ Step w0 g0 V g ∧ Hid (BoxAt V g w.heap.size #[.pointer (some ⟨b, 0, none⟩)] 36) ∧ Hid (BoxAt V g (w.heap.size + 1) #[.int .i64 r.kind, .int .i64 r.base, .int .i64 r.loc, .int .i64 r.n, .int .i64 r.writer, .int .i64 r.reader, .int .i64 r.top] 23) ∧ Hid (BoxAt V g xb #[.int .i64 x] 3) ∧ Hid (BoxAt V g kb #[.int .i64 n] 3) ∧ Hid (BoxAt V g (kb + 1) #[.int .i64 (-1)] 3) ∧ (i ≤ n → Hid (∀ e w', MPost b unitV w0 g0 (OpM.bind (tSpread r x (-1) i (n - i)) (fun _ => OpM.bind (setM (r.loc + 1) vv) OpM.ret) s) e w' → R e w')))
    (fun ch V => ch = [stopOf b] ∧ ∃ g s, Step w0 g0 V g ∧ MemAt 2 V g s ∧ g.b = b ∧ Hid (∀ e w', MPost b unitV w0 g0 ((none : Option Unit), s) e w' → R e w'))
    ?cells ?hI ?hX ?h0 ?skip ?round ?done ?panic
  case cells =>
    rintro i V ⟨g, s, _, _, _, _, _, h1, h2, _⟩
    exact ⟨by rw [cell_of_blk h1.out.1 0]; rfl, by rw [cell_of_blk h2.out.1 0]; rfl⟩
  case hI =>
    rintro i V l o o' ⟨g, s, h1, h2, h3, h4, h5, h6, h7, h8⟩ hl ho hoc
    exact ⟨g, s, h1.putObj o' ho hoc, h2.putObj o' hl, h3.out.putObj o' ho hoc, h4.out.putObj o' ho hoc, h5.out.putObj o' ho hoc, h6.out.putObj o' ho hoc, h7.out.putObj o' ho hoc, h8⟩
  case hX =>
    rintro ch V l o o' ⟨rfl, g, s, h1, h2, h3, h4⟩ hl ho hoc
    exact ⟨rfl, g, s, h1.putObj o' hl, h2.putObj o' ho hoc, h3, h4⟩
  case h0 =>
    intro W hW
    exact ⟨g0, s0, hm.below hW, Step.of_below _ hW, BM.out.below hW, BX.out.below hW, XB.out.below hW, KB.out.below hW, BB.out.below hW, fun _ => HR⟩
  case skip => intro i V _ h; omega
  case panic =>
    rintro ch V D ⟨rfl, g, s, h1, h2, h3, h4⟩ hD hDl
    refine ⟨by simp, .inl ⟨_, _, rfl, run_takeDeferred hD, ?_⟩⟩
    exact h4 _ _ ⟨g, s, h1.putObj _ hDl, .inr ⟨rfl, rfl, h2.putObj _ hD rfl, h3⟩⟩
  case done =>
    rintro V D ⟨g, s, hm, hst, BM, BX, XB, KB, BB, h8⟩ hD hDl
    rw [Int.toNat_natCast] at h8
    have HR := h8 (Nat.le_refl _)
    rw [Nat.sub_self] at HR
    replace HR := MPost.seqB (m := tSpread r x (-1) n 0) (x := ()) (s1 := s) rfl HR
    clear h8
    have m0 := cell_of_blk BM.out.1 0
    simp at m0
    have r0 := cell_of_blk BX.out.1 0
    have r1 := cell_of_blk BX.out.1 1
    have r2 := cell_of_blk BX.out.1 2
    have r3 := cell_of_blk BX.out.1 3
    have r4 := cell_of_blk BX.out.1 4
    have r5 := cell_of_blk BX.out.1 5
    have r6 := cell_of_blk BX.out.1 6
    simp at r0 r1 r2 r3 r4 r5 r6
    have x0 := cell_of_blk XB.out.1 0
    simp at x0
    change wpF _ _ _ _ _ _
    dsimp only
    refine wpF_of_wp ?_
    go_wp2_with fail
    refine (set_calls0 _ _ hm).mono ?_
    rintro e_ w_ ⟨rfl, g_, st_, hm_⟩
    have hD2 := st_.other hm.at_.mine_cells hD rfl
    replace hst := hst.trans st_
    replace HR := MPost.seqB (m := setM (r.loc + 1) vv) (x := ()) rfl HR
    go_wp2_with fail
    refine ⟨by simp, .inl ⟨_, _, rfl, run_takeDeferred hD2, ?_⟩⟩
    exact ⟨_, results_none rfl _ _ _, HR _ _ ⟨g_, _, hst.putObj _ hDl, .inl ⟨(), rfl, rfl, hm_.putObj _ hD2 rfl⟩⟩⟩
  case round =>
    rintro l i V ⟨g, s, h1, h2, h3, h4, h5, h6, h7, h8⟩ hlt _
    gi_wp2
    refine ⟨trivial, ?_⟩
    rintro V' ⟨g, s, hm, hst, BM, BX, XB, KB, BB, h8⟩
    have HR := h8 (by omega)
    clear h8 h1 h2 h3 h4 h5 h6 h7
    obtain ⟨m, hnk⟩ : ∃ m, n - i = m + 1 := ⟨n - i - 1, by omega⟩
    rw [hnk, tSpread] at HR
    replace HR : Hid (∀ e w', MPost b unitV w0 g0 (OpM.bind (OpM.bind (slotsW (tSlot r i) x) fun _ => tSpread r x (-1) (i + 1) m) (fun _ => OpM.bind (setM (r.loc + 1) vv) OpM.ret) s) e w' → R e w') := by rw [if_neg (by omega)] at HR; exact HR
    rw [OpM.bind_assoc] at HR
    have m0 := cell_of_blk BM.out.1 0
    simp at m0
    have r0 := cell_of_blk BX.out.1 0
    have r1 := cell_of_blk BX.out.1 1
    have r2 := cell_of_blk BX.out.1 2
    have r3 := cell_of_blk BX.out.1 3
    have r4 := cell_of_blk BX.out.1 4
    have r5 := cell_of_blk BX.out.1 5
    have r6 := cell_of_blk BX.out.1 6
    simp at r0 r1 r2 r3 r4 r5 r6
    have x0 := cell_of_blk XB.out.1 0
    simp at x0
    gi_wp2_with fail
    refine wpIn_round_region (S := fun W => W.cell? ⟨w.heap.size, 0, none⟩ = some (.pointer (some ⟨b, 0, none⟩)) ∧ W.cell? ⟨xb, 0, none⟩ = some (.int .i64 x) ∧ W.cell? ⟨w.heap.size + 1, 0, none⟩ = some (.int .i64 r.kind) ∧ W.cell? ⟨w.heap.size + 1, 1, none⟩ = some (.int .i64 r.base) ∧ W.cell? ⟨w.heap.size + 1, 2, none⟩ = some (.int .i64 r.loc) ∧ W.cell? ⟨w.heap.size + 1, 3, none⟩ = some (.int .i64 r.n) ∧ W.cell? ⟨w.heap.size + 1, 4, none⟩ = some (.int .i64 r.writer) ∧ W.cell? ⟨w.heap.size + 1, 5, none⟩ = some (.int .i64 r.reader) ∧ W.cell? ⟨w.heap.size + 1, 6, none⟩ = some (.int .i64 r.top)) (ds := [5]) (by kernel_rfl) (by kernel_rfl) (fun _ _ h => h) #[false, false, false, false, false, false] rfl rfl ⟨m0, x0, r0, r1, r2, r3, r4, r5, r6⟩ (fun hHeld => ?_)
    refine take_ (i := 0) (N := some 44) (v := ?_) (a' := ?_) #[true, false, false, false, false, false] rfl rfl (by kernel_rfl) (fun _ _ _ h => h) (Or.inl ⟨by rfl, ?_⟩) hHeld ?_ ?_
    rotate_left
    · intro w' hS'; (try obtain ⟨s0_, s1_⟩ := hS'); (try obtain ⟨s1_, s2_⟩ := s1_); (try obtain ⟨s2_, s3_⟩ := s2_); (try obtain ⟨s3_, s4_⟩ := s3_); (try obtain ⟨s4_, s5_⟩ := s4_); (try obtain ⟨s5_, s6_⟩ := s5_); (try obtain ⟨s6_, s7_⟩ := s6_); (try obtain ⟨s7_, s8_⟩ := s7_); (try obtain ⟨s8_, s9_⟩ := s8_); (try obtain ⟨s9_, s10_⟩ := s9_); (try obtain ⟨s10_, s11_⟩ := s10_)
      go_simp
      with_reducible rfl
    rotate_left
    · simp only [Act.put, List.setIfInBounds_toArray, List.set_cons_zero, List.set_cons_succ, i64_w, i32_w]
      rfl
    refine take_ (i := 1) (N := some 45) (v := ?_) (a' := ?_) #[true, true, false, false, false, false] rfl rfl (by kernel_rfl) (fun _ _ _ h => h) (Or.inl ⟨by rfl, ?_⟩) hHeld ?_ ?_
    rotate_left
    · intro w' hS'; (try obtain ⟨s0_, s1_⟩ := hS'); (try obtain ⟨s1_, s2_⟩ := s1_); (try obtain ⟨s2_, s3_⟩ := s2_); (try obtain ⟨s3_, s4_⟩ := s3_); (try obtain ⟨s4_, s5_⟩ := s4_); (try obtain ⟨s5_, s6_⟩ := s5_); (try obtain ⟨s6_, s7_⟩ := s6_); (try obtain ⟨s7_, s8_⟩ := s7_); (try obtain ⟨s8_, s9_⟩ := s8_); (try obtain ⟨s9_, s10_⟩ := s9_); (try obtain ⟨s10_, s11_⟩ := s10_)
      go_simp
      with_reducible rfl
    rotate_left
    · simp only [Act.put, List.setIfInBounds_toArray, List.set_cons_zero, List.set_cons_succ, i64_w, i32_w]
      rfl
    refine pure_ (i := 2) (N := some 46) (v := ?_) (a' := ?_) #[true, true, true, false, false, false] rfl rfl (by kernel_rfl) (fun _ _ _ h => h) (Or.inl ⟨by rfl, ?_⟩) ?_ ?_
    rotate_left
    · intro w'
      go_simp
      with_reducible rfl
    rotate_left
    · simp only [Act.put, List.setIfInBounds_toArray, List.set_cons_zero, List.set_cons_succ, i64_w, i32_w]
      rfl
    refine take_ (i := 4) (N := some 48) (v := ?_) (a' := ?_) #[true, true, true, false, true, false] rfl rfl (by kernel_rfl) (fun _ _ _ h => h) (Or.inl ⟨by rfl, ?_⟩) hHeld ?_ ?_
    rotate_left
    · intro w' hS'; (try obtain ⟨s0_, s1_⟩ := hS'); (try obtain ⟨s1_, s2_⟩ := s1_); (try obtain ⟨s2_, s3_⟩ := s2_); (try obtain ⟨s3_, s4_⟩ := s3_); (try obtain ⟨s4_, s5_⟩ := s4_); (try obtain ⟨s5_, s6_⟩ := s5_); (try obtain ⟨s6_, s7_⟩ := s6_); (try obtain ⟨s7_, s8_⟩ := s7_); (try obtain ⟨s8_, s9_⟩ := s8_); (try obtain ⟨s9_, s10_⟩ := s9_); (try obtain ⟨s10_, s11_⟩ := s10_)
      go_simp
      with_reducible rfl
    rotate_left
    · simp only [Act.put, List.setIfInBounds_toArray, List.set_cons_zero, List.set_cons_succ, i64_w, i32_w]
      rfl
    refine one_ (i := 3) (N := some 47) #[true, true, true, true, true, false] rfl rfl (by kernel_rfl) (by decide) (fun K hK => ?_)
    refine callP_ Try.func67 (by kernel_rfl) rfl #[r.v, .int .i64 (i : Int)] (by rfl) rfl rfl (by (try simp only [List.map_toArray, List.map_cons, List.map_nil]); first | done | rfl) ?_
    refine (tSlot_calls r i hin.in2 (by omega) (MemP.blw hm (Below.refl _ _).drew)).mono ?_
    rintro e_ w_ ⟨rfl, hbl⟩
    refine Or.inl ?_
    have hO : Hid (∀ (r : Nat) (o : Obj), V'.heap[r]? = some o → o.isCells = false → w_.heap[r]? = some o) := fun r o h _ => (hbl.block r (heap_lt h)).trans h
    replace hst := hst.trans (Step.of_below _ hbl)
    replace hm := hm.below hbl
    replace BM := Lib.hid (BM.out.below hbl)
    replace BX := Lib.hid (BX.out.below hbl)
    replace XB := Lib.hid (XB.out.below hbl)
    replace KB := Lib.hid (KB.out.below hbl)
    replace BB := Lib.hid (BB.out.below hbl)
    clear m0 r0 r1 r2 r3 r4 r5 r6 x0 hbl hHeld
    have m0 := cell_of_blk BM.out.1 0
    simp at m0
    have r0 := cell_of_blk BX.out.1 0
    have r1 := cell_of_blk BX.out.1 1
    have r2 := cell_of_blk BX.out.1 2
    have r3 := cell_of_blk BX.out.1 3
    have r4 := cell_of_blk BX.out.1 4
    have r5 := cell_of_blk BX.out.1 5
    have r6 := cell_of_blk BX.out.1 6
    simp at r0 r1 r2 r3 r4 r5 r6
    have x0 := cell_of_blk XB.out.1 0
    simp at x0
    refine ⟨_, rfl, ?_⟩
    refine hK.out _ _ ⟨m0, x0, r0, r1, r2, r3, r4, r5, r6⟩ (fun hHeld => ?_)
    clear hK K
    refine norm_ (a' := ?_) ?_ ?_
    rotate_left
    · show Act.put _ (some 47) _ = _
      simp only [Act.put, List.setIfInBounds_toArray, List.set_cons_zero, List.set_cons_succ, i64_w, i32_w]
      rfl
    refine last_ (i := 5) (N := some 49) #[true, true, true, true, true, true] rfl rfl (by kernel_rfl) (by decide) (fun K hK => ?_)
    refine callP_ Try.func30 (by kernel_rfl) rfl #[.pointer (some ⟨b, 0, none⟩), (tSlot r i).v, .int .i64 x] (by rfl) rfl rfl (by (try simp only [List.map_toArray, List.map_cons, List.map_nil]); first | done | rfl) ?_
    refine (slotsW_calls (tSlot r i) x (tSlot_in hin i (by omega)) hm (Below.refl _ _)).mono ?_
    rintro e_ w2 ⟨g_, s_, st_, ⟨x_, hx_, rfl, hm_⟩ | ⟨hx_, rfl, hm_⟩⟩
    · refine Or.inl ?_
      refine ⟨_, rfl, ?_⟩
      refine hK.out _ _ ?_
      refine done_ (by kernel_rfl) ?_
      refine ⟨⟨g_, s_, hm_, hst.trans st_, BM.out.step st_, BX.out.step st_, XB.out.step st_, KB.out.step st_, BB.out.step st_, fun _ => ?_⟩, fun r o h ho => st_.other hm.at_.mine_cells (hO.out r o h ho) ho⟩
      rw [show n - (i + 1) = m by omega]
      exact MPost.seqB (m := slotsW (tSlot r i) x) (f := fun _ => OpM.bind (tSpread r x (-1) (i + 1) m) fun _ => OpM.bind (setM (r.loc + 1) vv) OpM.ret) hx_ HR
    · refine Or.inr ⟨_, rfl, ?_⟩
      refine ⟨rfl, ⟨rfl, g_, s_, hst.trans st_, hm_.1, hm_.2, ?_⟩, fun r o h ho => st_.other hm.at_.mine_cells (hO.out r o h ho) ho⟩
      have h9 := OpM.bind_none (f := fun _ => OpM.bind (tSpread r x (-1) (i + 1) m) fun _ => OpM.bind (setM (r.loc + 1) vv) OpM.ret) hx_
      rw [h9] at HR
      exact HR
end Go.Proofs.Ytfaihahpnjgejaa
namespace Go.Proofs.Ytfaihahpnjgejaa
open Go.RowKit Go.Proofs.YtfaihahpnjgejaaW.PrintWords Go.Proofs.YtfaihahpnjgejaaW.PrintLast

set_option maxRecDepth 100000 in
theorem tells_calls0 (r : Reg) (k a c : Int) (hr : r.In2) (hk : 0 ≤ k ∧ k ≤ 8) (ha : 0 ≤ a ∧ a ≤ 8) (hc : 0 ≤ c ∧ c ≤ 8) (hi : 0 ≤ k + a * (k - 1) + (if c > a then c - 1 else c)) (W : World) :
    Calls Try.prog 75 #[r.v, .int .i64 k, .int .i64 a, .int .i64 c] W fun e w' => e = .returned (tTells r k a c).v ∧ Below W.heap.size W w' := by
  have h4 : a * (k - 1) ≤ 8 * 8 := by
    rcases Int.lt_or_le 0 k with h | h
    · exact Int.mul_le_mul (by omega) (by omega) (by omega) (by omega)
    · have : k = 0 := by omega
      subst this; omega
  have h5 : -8 ≤ a * (k - 1) := by
    rcases Int.lt_or_le 0 k with h | h
    · exact Int.le_trans (by omega) (Int.mul_nonneg (by omega) (by omega))
    · have : k = 0 := by omega
      subst this; omega
  obtain ⟨k0, k1⟩ := hk
  obtain ⟨a0, a1⟩ := ha
  obtain ⟨c0, c1⟩ := hc
  have CS := Lib.hid (fun (i : Int) (h : 0 ≤ i ∧ i ≤ 1000000) (w : World) => tSlot_calls0 r i hr h w)
  have e : Hid (tTells r k a c = tSlot r (k + a * (k - 1) + (if c > a then c - 1 else c))) := by show _ = _; rfl
  rw [e.out]
  clear e
  by_cases h : c > a
  · rw [if_pos h] at hi ⊢
    have C0 := Lib.hid (CS.out _ ⟨hi, by omega⟩)
    clear CS
    generalize hS : tSlot r _ = S at C0 ⊢
    clear hS
    have e2 : S.v = .agg #[.int .i64 S.kind, .int .i64 S.base, .int .i64 S.loc, .int .i64 S.n, .int .i64 S.writer, .int .i64 S.reader, .int .i64 S.top] := rfl
    rw [e2] at C0 ⊢
    simp only [Reg.v, Reg.cs] at C0 ⊢
    go_enter Try.func75, Try.ntmps75
    go_wp2_with fail
    refine (C0.out _).mono ?_
    rintro e w1 ⟨rfl, hb⟩
    have q := fun o => hb.cell (p := ⟨W.heap.size + 1, o, none⟩) (by simp)
    have qf := fun o => hb.frozen (p := ⟨W.heap.size + 1, o, none⟩) (by simp)
    go_wp2
    refine bodyPost_ret (v := .agg #[.int .i64 S.kind, .int .i64 S.base, .int .i64 S.loc, .int .i64 S.n, .int .i64 S.writer, .int .i64 S.reader, .int .i64 S.top]) (by simp [results, Try.results75, go_sem, q]) rfl ⟨rfl, ?_⟩
    repeat (refine Below.setCell ?_ (by simp) _)
    exact (((Below.refl _ _).alloc (Nat.le_refl _) _).alloc (by simp) _).trans (hb.mono (by simp; omega))
  · rw [if_neg h] at hi ⊢
    have C0 := Lib.hid (CS.out _ ⟨hi, by omega⟩)
    clear CS
    generalize hS : tSlot r _ = S at C0 ⊢
    clear hS
    have e2 : S.v = .agg #[.int .i64 S.kind, .int .i64 S.base, .int .i64 S.loc, .int .i64 S.n, .int .i64 S.writer, .int .i64 S.reader, .int .i64 S.top] := rfl
    rw [e2] at C0 ⊢
    simp only [Reg.v, Reg.cs] at C0 ⊢
    go_enter Try.func75, Try.ntmps75
    go_wp2_with fail
    refine (C0.out _).mono ?_
    rintro e w1 ⟨rfl, hb⟩
    have q := fun o => hb.cell (p := ⟨W.heap.size + 1, o, none⟩) (by simp)
    have qf := fun o => hb.frozen (p := ⟨W.heap.size + 1, o, none⟩) (by simp)
    go_wp2
    refine bodyPost_ret (v := .agg #[.int .i64 S.kind, .int .i64 S.base, .int .i64 S.loc, .int .i64 S.n, .int .i64 S.writer, .int .i64 S.reader, .int .i64 S.top]) (by simp [results, Try.results75, go_sem, q]) rfl ⟨rfl, ?_⟩
    repeat (refine Below.setCell ?_ (by simp) _)
    exact (((Below.refl _ _).alloc (Nat.le_refl _) _).alloc (by simp) _).trans (hb.mono (by simp; omega))

def rankS (r : Reg) (me : Int) : Int := if me < 0 ∨ me ≥ threadsS r.n ∨ me = writerS r then 0 else if me > writerS r then me - 1 else me
def isReader (r : Reg) (me : Int) : Bool := !decide (me < 0 ∨ me ≥ threadsS r.n ∨ me = writerS r)
set_option maxRecDepth 100000 in
set_option maxHeartbeats 1000000 in
theorem rank_calls0 (r : Reg) (me : Int) (W : World) :
    Calls Try.prog 74 #[r.v, .int .i64 me] W fun e w' => e = .returned (.tuple #[.int .i64 (rankS r me), .bool (isReader r me)]) ∧ Below W.heap.size W w' := by
  have CW := Lib.hid (fun w => writer_calls0 r w)
  have CT := Lib.hid (fun w => threads_calls0 r.n w)
  have hT := threadsS_range r.n
  have hwr := writerS_range r
  obtain ⟨e1, he1⟩ : ∃ e1, rankS r me = e1 := ⟨_, rfl⟩
  obtain ⟨e2, he2⟩ : ∃ e2, isReader r me = e2 := ⟨_, rfl⟩
  rw [he1, he2]
  unfold rankS at he1
  unfold isReader at he2
  generalize writerS r = u at *
  generalize threadsS r.n = T at *
  obtain ⟨hT1, hT2⟩ := hT
  obtain ⟨hu1, hu2⟩ := hwr
  simp only [Reg.v, Reg.cs] at CW ⊢
  by_cases h1 : me < 0
  · rw [if_pos (Or.inl h1)] at he1
    rw [decide_eq_true (Or.inl h1)] at he2
    subst he1
    subst he2
    go_enter Try.func74, Try.ntmps74
    go_wp2_with fail
    refine (CW.out _).mono ?_
    rintro e w1 ⟨rfl, hb⟩
    have q := fun o => hb.cell (p := ⟨W.heap.size, o, none⟩) (by simp)
    go_wp2_with (go_at_call 66; refine (CT.out _).mono ?_; rintro e w2 ⟨rfl, rfl⟩)
    go_ret2
    exact ⟨rfl, ((Below.refl _ _).alloc (Nat.le_refl _) _).trans (hb.mono (by simp))⟩
  by_cases h2 : me ≥ T
  · rw [if_pos (Or.inr (Or.inl h2))] at he1
    rw [decide_eq_true (Or.inr (Or.inl h2))] at he2
    subst he1
    subst he2
    go_enter Try.func74, Try.ntmps74
    go_wp2_with fail
    refine (CW.out _).mono ?_
    rintro e w1 ⟨rfl, hb⟩
    have q := fun o => hb.cell (p := ⟨W.heap.size, o, none⟩) (by simp)
    go_wp2_with (go_at_call 66; refine (CT.out _).mono ?_; rintro e w2 ⟨rfl, rfl⟩)
    go_ret2
    exact ⟨rfl, ((Below.refl _ _).alloc (Nat.le_refl _) _).trans (hb.mono (by simp))⟩
  by_cases h3 : me = u
  · rw [if_pos (Or.inr (Or.inr h3))] at he1
    rw [decide_eq_true (Or.inr (Or.inr h3))] at he2; have hq : (me == u) = true := beq_iff_eq.2 h3; clear h3
    subst he1
    subst he2
    go_enter Try.func74, Try.ntmps74
    go_wp2_with fail
    refine (CW.out _).mono ?_
    rintro e w1 ⟨rfl, hb⟩
    have q := fun o => hb.cell (p := ⟨W.heap.size, o, none⟩) (by simp)
    go_wp2_with (go_at_call 66; refine (CT.out _).mono ?_; rintro e w2 ⟨rfl, rfl⟩)
    go_ret2
    exact ⟨rfl, ((Below.refl _ _).alloc (Nat.le_refl _) _).trans (hb.mono (by simp))⟩
  rw [if_neg (by omega)] at he1
  rw [decide_eq_false (by omega)] at he2
  have hq : (me == u) = false := beq_eq_false_iff_ne.2 h3
  by_cases h4 : me > u
  · rw [if_pos h4] at he1
    skip
    subst he1
    subst he2
    go_enter Try.func74, Try.ntmps74
    go_wp2_with fail
    refine (CW.out _).mono ?_
    rintro e w1 ⟨rfl, hb⟩
    have q := fun o => hb.cell (p := ⟨W.heap.size, o, none⟩) (by simp)
    go_wp2_with (go_at_call 66; refine (CT.out _).mono ?_; rintro e w2 ⟨rfl, rfl⟩)
    go_ret2
    exact ⟨rfl, ((Below.refl _ _).alloc (Nat.le_refl _) _).trans (hb.mono (by simp))⟩
  · rw [if_neg h4] at he1
    skip
    subst he1
    subst he2
    go_enter Try.func74, Try.ntmps74
    go_wp2_with fail
    refine (CW.out _).mono ?_
    rintro e w1 ⟨rfl, hb⟩
    have q := fun o => hb.cell (p := ⟨W.heap.size, o, none⟩) (by simp)
    go_wp2_with (go_at_call 66; refine (CT.out _).mono ?_; rintro e w2 ⟨rfl, rfl⟩)
    go_ret2
    exact ⟨rfl, ((Below.refl _ _).alloc (Nat.le_refl _) _).trans (hb.mono (by simp))⟩
end Go.Proofs.Ytfaihahpnjgejaa
