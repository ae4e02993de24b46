/- slices.Backward over ints: the iterator's contract. -/
import Derived.RangeFuncNested
import Derived.RangeFuncBound
import Derived.RangeFuncCalls
import Derived.RangeFuncLeaves
import Derived.RangeFuncBox
import Derived.Shelf.Abstract
import Derived.Shelf.RegionOpen
import Derived.WalkKit
import Derived.OwnWalkIn
import Derived.TacticsInMore
import Derived.LoopNIn
import Derived.LoopIn
import Derived.Test.YthlpjpcnpcclhaaDoorXTxI
namespace Go.Proofs.YthlpjpcnpcclhaaDoor.X
open Go.RowKit Go.Shelf Go.XB
attribute [local go_sem] Oper.semAt_some

/-- a limb as a number of its own type -/
abbrev Limb := Fin 1000000000
def limF (xs : List Int) (i : Nat) : Limb := ⟨(xs[i]?.getD 0).toNat % 1000000000, Nat.mod_lt _ (by decide)⟩
/-- what has come when k rounds are over, from the back -/
def bk (xs : List Int) (len j : Nat) : Nat × Limb := (len - 1 - j, limF xs (len - 1 - j))
def upto (xs : List Int) (len k : Nat) : List (Nat × Limb) := (List.range k).map (bk xs len)
theorem upto_len (xs : List Int) (len k : Nat) : (upto xs len k).length = k := by simp [upto]
theorem upto_back (xs : List Int) {len j : Nat} (h : j < len) : upto xs len (len - j) = upto xs len (len - (j + 1)) ++ [(j, limF xs j)] := by
  rw [show len - j = len - (j + 1) + 1 by omega]
  unfold upto bk
  rw [List.range_succ, List.map_append]
  simp only [List.map_cons, List.map_nil]
  rw [show len - 1 - (len - (j + 1)) = j by omega]

theorem limF_val {xs : List Int} (hl : ∀ (k : Nat) (x : Int), xs[k]? = some x → 0 ≤ x ∧ x < 1000000000) {j : Nat} {x : Int} (h : xs[j]? = some x) : ((limF xs j).val : Int) = x := by
  have := hl j x h
  show (((xs[j]?.getD 0).toNat % 1000000000 : Nat) : Int) = x
  rw [h]
  simp only [Option.getD_some]
  omega
theorem upto_limbs {xs : List Int} {m : Nat} (hm : m ≤ xs.length) (hl : ∀ (k : Nat) (x : Int), xs[k]? = some x → 0 ≤ x ∧ x < 1000000000) :
    (upto xs m m).flatMap (fun p => limb (p.2.val : Int)) = (xs.take m).reverse.flatMap limb := by
  have e : (upto xs m m).map (fun p => (p.2.val : Int)) = (xs.take m).reverse := by
    apply List.ext_getElem
    · simp [upto, hm]
    · intro i h1 h2
      have hi : i < m := by simpa [upto] using h1
      have hx : xs[m - 1 - i]? = some (xs[m - 1 - i]'(by omega)) := List.getElem?_eq_getElem _
      simp only [upto, bk, List.getElem_map, List.getElem_range, List.getElem_reverse, List.length_take, List.getElem_take]
      rw [limF_val hl hx]
      congr 1; omega
  rw [← e, List.flatMap_map]

/-- what a round keeps: all below n₀, and the box of the slice -/
def KpB (n₀ Bs : Nat) (W W' : World) : Prop := Below n₀ W W' ∧ ∀ v, W.cell? ⟨Bs, 0, none⟩ = some v → W'.cell? ⟨Bs, 0, none⟩ = some v
theorem KpB.refl (n₀ Bs : Nat) (W : World) : KpB n₀ Bs W W := ⟨Below.refl _ _, fun _ h => h⟩
theorem KpB.trans {n₀ Bs : Nat} {A B C : World} (h : KpB n₀ Bs A B) (k : KpB n₀ Bs B C) : KpB n₀ Bs A C := ⟨h.1.trans k.1, fun v e => k.2 v (h.2 v e)⟩
theorem KpB.book {n₀ Bs : Nat} {w : World} (hn : n₀ ≤ w.heap.size) (W : World) (l : Nat) (o o' : Obj) (hl : w.heap.size ≤ l) (ho : W.heap[l]? = some o) (hc : o.isCells = false) (hw : o.isWalk = false) : KpB n₀ Bs W (W.putObj l o') :=
  ⟨belowK_b (w := w) hn W l o o' hl ho hc hw, fun v e => cell_kept e (grownBy_putObj' _ l o') (fun r e => by cases e; exact ⟨_, ho, hc⟩)⟩

set_option maxRecDepth 100000 in
set_option maxHeartbeats 2000000 in
theorem back1_in (F : Fence) (n : Nat) (hF : F.fn 73) (hro : F.round = none) (hn : 1 ≤ n) (l Bs n₀ b off len cap : Nat) (xs : List Int) (hreach : len ≤ 65536) (hb : b < n₀) (J Jx : List (Nat × Limb) → World → Prop)
    (hY : ∀ pre x W, J pre W → pre.length < len → YieldAt F (n - 1) Tryd.prog l #[.int .i64 (x.1 : Int), .int .i64 (x.2.val : Int)] W fun e W' =>
      (e = .returned (.bool true) ∧ J (pre ++ [x]) W' ∧ KpB n₀ Bs W W') ∨ (e = .returned (.bool false) ∧ Jx (pre ++ [x]) W'))
    (W : World) (hBs : W.cell? ⟨Bs, 0, none⟩ = some (.slice (some ⟨b, off, none⟩) len cap)) (hc : ∀ j, j < len → W.cell? ⟨b, off + j, none⟩ = some (.int .i64 ((limF xs j).val : Int))) (h0 : J [] W) :
    CallsIn F n Tryd.prog 73 #[.func (.yield l) #[] #[], .pointer (some ⟨Bs, 0, none⟩)] W fun e W' => (∃ v, e = .returned v) ∧
      ((∃ ys, ys = upto xs len len ∧ J ys W') ∨ (∃ pre, True ∧ Jx pre W')) := by
  refine callsIn_of_wp Tryd.func73 rfl hF ?_ hro
  simp only [Tryd.ntmps73, List.size_toArray, List.length_cons, List.length_nil, Nat.reduceAdd, Nat.reduceSub, Array.replicate_succ, Array.replicate_zero, List.push_toArray, List.append_toArray, List.nil_append, List.cons_append]
  gi_wp2
  gi_loopw [3] (fun i wr => ∃ g : Nat, g ≤ len ∧ i = .int .i64 ((g : Int) - 1) ∧ J (upto xs len (len - g)) wr ∧ KpB n₀ Bs W wr)
    (fun i _ => (intOf i + 1).toNat)
  case atStart => exact ⟨len, Nat.le_refl _, rfl, by rw [Nat.sub_self]; exact h0, KpB.refl _ _ _⟩
  case round =>
    obtain ⟨g, hg, rfl, hJs, hnx⟩ := hrel
    have hBs' := hnx.2 _ hBs
    rcases Nat.eq_zero_or_pos g with hz | hz
    · subst hz
      have hneg : ¬ ((0 : Int) ≤ ((0 : Nat) : Int) - 1) := by omega
      gi_wp2
      go_end0
      exact ⟨⟨_, rfl⟩, .inl hJs⟩
    · obtain ⟨j, rfl⟩ : ∃ j, g = j + 1 := ⟨g - 1, by omega⟩
      have hj : j < len := hg
      have hcx : wr.cell? ⟨b, off + j, none⟩ = some (.int .i64 ((limF xs j).val : Int)) := (hnx.1.cell (p := ⟨b, off + j, none⟩) hb).trans (hc j hj)
      have hst := upto_back xs hj
      generalize limF xs j = y at hcx hst
      obtain ⟨fn, tmps, assign, body, hy, hR⟩ := hY _ (j, y) wr hJs (by rw [upto_len]; omega)
      dsimp only at hy
      have ej : (((j + 1 : Nat) : Int) - 1) = j := by omega
      rw [ej]
      have hjl : (j : Int) < len := by omega
      have HST := hid hst
      clear hst ej hJs hg hz
      gi_wp2
      refine hR.mono ?_
      rintro e W3 (⟨rfl, hJ3, hk3⟩ | ⟨rfl, hJx3⟩)
      · gi_wp2
        go_roundw
        case rel => exact ⟨j, by omega, rfl, by rw [HST.out]; exact hJ3, hnx.trans hk3⟩
        case measure => simp [intOf]
      · gi_wp2
        refine bodyPost_ret (results_none rfl _ _ _) rfl ?_
        exact ⟨⟨_, rfl⟩, .inr ⟨_, trivial, hJx3⟩⟩

set_option maxHeartbeats 1000000 in
theorem back_in (F : Fence) (n : Nat) (hF : F.fn 56) (hro : F.round = none) (a : Option Addr) (len cap : Nat) (w : World) :
    CallsIn F n Tryd.prog 56 #[.slice a len cap] w fun e w' => e = .returned (.func (.func 73) #[] #[.pointer (some ⟨w.heap.size, 0, none⟩)]) ∧ w' = w.alloc (.cells #[.slice a len cap] 22) := by
  refine callsIn_of_wp Tryd.func56 rfl hF ?_ hro
  simp only [Tryd.ntmps56, List.size_toArray, List.length_cons, List.length_nil, Nat.reduceAdd, Nat.reduceSub, Array.replicate_succ, Array.replicate_zero, List.push_toArray, List.append_toArray, List.nil_append, List.cons_append]
  gi_wp2
  go_ret
  exact ⟨rfl, rfl⟩

theorem back_stops (F : Fence) (n : Nat) (hF : F.fn 73) (hro : F.round = none) (hn : 1 ≤ n) (Bs n₀ b off len cap : Nat) (xs : List Int) (hreach : len ≤ 65536) (w : World) (hn₀ : n₀ ≤ w.heap.size) (hBl : Bs < w.heap.size) (hb : b < n₀)
    (hBs : w.cell? ⟨Bs, 0, none⟩ = some (.slice (some ⟨b, off, none⟩) len cap)) (hc : ∀ j, j < len → w.cell? ⟨b, off + j, none⟩ = some (.int .i64 ((limF xs j).val : Int))) :
    SeqStopsK F n Tryd.prog 73 #[.pointer (some ⟨Bs, 0, none⟩)] (fun x : Nat × Limb => #[Value.int .i64 (x.1 : Int), Value.int .i64 (x.2.val : Int)]) (KpB n₀ Bs) (fun ys => ys = upto xs len len) (fun _ => True) len w := fun l J Jx W hW _ _ hY h0 =>
  back1_in F n hF hro hn l Bs n₀ b off len cap xs hreach hb J Jx hY W ((hW.cell (p := ⟨Bs, 0, none⟩) hBl).trans hBs) (fun j hj => (hW.cell (p := ⟨b, off + j, none⟩) (by show b < _; omega)).trans (hc j hj)) h0
end Go.Proofs.YthlpjpcnpcclhaaDoor.X
