/- The laws' cursor over the code: l01New, l01Byte, l01Below. -/
import Derived.Test.YtleegelljgnlpaaGreatP2
namespace Go.XB
open Go.RowKit
/-- a byte -/
structure TByte where
  v : Int
  deriving DecidableEq
instance : Dat TByte where
  sz := 1
  pos := by decide
  at_ := fun _ cs x bs => cs = [.int .u8 x.v] ∧ bs = [] ∧ 0 ≤ x.v ∧ x.v < 256
  len := fun h => by rw [h.1]; rfl
  one := fun h u hu => by rw [h.1] at hu; simp at hu; subst hu; rfl
  lt := fun h b hb => by rw [h.2.1] at hb; simp at hb
  keep := fun h _ => h
theorem Sl.getByte {w : World} {A : Option Addr} {n c : Nat} {xs : List TByte} {bs : List Nat} (h : Sl w A n c xs bs) {k : Nat} (hk : k < n) :
    ∃ b off x, A = some ⟨b, off, none⟩ ∧ b < w.heap.size ∧ b ∈ bs ∧ (0 ≤ x ∧ x < 256) ∧ w.cell? ⟨b, off + k, none⟩ = some (.int .u8 x) := by
  obtain ⟨h1, h2, h3, h4, h5⟩ := h
  obtain ⟨b, off, bss, hA, hbs, hl, hb, he⟩ := h5 (by omega)
  have hx : xs[k]? = some (xs[k]'(by omega)) := List.getElem?_eq_getElem (by omega)
  have hf : bss[k]? = some (bss[k]'(by omega)) := List.getElem?_eq_getElem (by omega)
  obtain ⟨cs, hc, ha⟩ := he k _ _ hx hf
  obtain ⟨e1, _, e3⟩ := ha
  refine ⟨b, off, (xs[k]'(by omega)).v, hA, hb, by rw [hbs]; simp, e3, ?_⟩
  have := hc 0 (.int .u8 (xs[k]'(by omega)).v) (by rw [e1]; rfl)
  simpa [Dat.sz] using this
end Go.XB
namespace Go.Proofs.YtleegelljgnlpaaGreat.X
open Go.RowKit Go.XB
attribute [local go_sem] fillBy opAt deps depOf Region.wanted yielded
attribute [local simp] deps depOf MP.eq MP.agg MP.sl Facts
set_option linter.constructorNameAsVariable false

theorem and255 (a : Int) : 0 ≤ bits .and .i64 a 255 ∧ bits .and .i64 a 255 < 256 := by
  have h : bits .and .i64 a 255 = IntKind.i64.wrap ((BitVec.ofInt 64 a &&& BitVec.ofInt 64 255).toNat) := rfl
  have h2 : (BitVec.ofInt 64 a &&& BitVec.ofInt 64 255).toNat ≤ 255 := by
    rw [BitVec.toNat_and]
    exact Nat.le_trans Nat.and_le_right (by decide)
  rw [h, IntWalk.i64_in _ (by omega)]
  omega
theorem grown_set (w : World) (g o : Nat) (v : Value) : w.grownBy (w.setCell ⟨g, o, none⟩ v) (some g) :=
  ⟨rfl, rfl, rfl, by simp, fun k _ hne => Below.heap_setCell w ⟨g, o, none⟩ v k (fun e => hne (by rw [e]))⟩
theorem grown_below0 {w w' : World} (hb : Below w.heap.size w w') (r : Option Nat) : w.grownBy w' r := ⟨hb.os, hb.tape, hb.output, hb.size, fun k hk _ => hb.block k hk⟩
/-- the cursor in block g -/
def Cur (w : World) (g : Nat) (A : Option Addr) (n c : Nat) : Prop := ∃ (i : Nat) (h : Int), i ≤ n ∧ g < w.heap.size ∧ w.cell? ⟨g, 0, none⟩ = some (.slice A n c) ∧ w.cell? ⟨g, 1, none⟩ = some (.int .i64 i) ∧ w.cell? ⟨g, 2, none⟩ = some (.int .i64 h) ∧ w.frozen? ⟨g, 1, none⟩ = false ∧ w.frozen? ⟨g, 2, none⟩ = false
def GivesByte (w : World) (g : Nat) (A : Option Addr) (n c : Nat) (m : Int) (e : Ending) (w' : World) : Prop := ∃ x : Int, e = .returned (.int .i64 x) ∧ (0 ≤ x ∧ x < m) ∧ Cur w' g A n c ∧ w.grownBy w' (some g)

set_option maxHeartbeats 2000000 in
set_option maxRecDepth 10000 in
theorem spec_l01Byte (g : Nat) (A : Option Addr) (n c : Nat) (xs : List TByte) (bs : List Nat) (w : World) (hx : Sl w A n c xs bs) (hn : n ≤ 1048576) (hc : Cur w g A n c) (hg : g ∉ bs) :
    Calls Tryz.prog 29 #[.pointer (some ⟨g, 0, none⟩)] w (GivesByte w g A n c 256) := by
  obtain ⟨i, h, hi, hl, c0, c1, c2, f1, f2⟩ := hc
  have HX := hid hx
  rcases Nat.lt_or_ge i n with hin | hin
  · obtain ⟨b, off, x, rfl, hb, hbm, hx1, cx⟩ := Sl.getByte hx hin
    have hbg : b ≠ g := fun e => hg (e ▸ hbm)
    have hgb : g ≠ b := fun e => hg (e ▸ hbm)
    have hii : (i : Int) < n := by omega
    have hi0 : (0 : Int) ≤ i := by omega
    clear hx hg hbm
    go_enter Tryz.func29, Tryz.ntmps29
    go_wp2_with fail
    refine wp_region_walk (by kernel_rfl) (by kernel_rfl) (by kernel_rfl) ?_
    iterate 13
      apply walkM_eq
      case h =>
        intro yq zq wq hC hd
        obtain ⟨hcq, hfq⟩ := bcell hC
        simp at hd
        refine ⟨by go_simp; done, ?_⟩
        go_simp
        first | (go_ints; exact rfl) | (go_ints; rw [if_pos (by omega)]; try exact rfl) | exact rfl | (rw [if_pos (by omega)]; try exact rfl)
    intro yq zq ux hC hd hdis0
    have hdis := hid hdis0
    clear hdis0
    simp at hd
    have q12 := hd.2.2.2.2.2.2.2.2.2.2.2.2
    obtain ⟨x1, e12, hb1⟩ : ∃ x1, yq 12 = .int .i64 x1 ∧ (0 ≤ x1 ∧ x1 < 256) := ⟨_, q12.1.1, and255 _⟩
    obtain ⟨hcu, hfu⟩ := bcell hC
    have hsu := hC.size
    simp at hsu
    have k0 : ux.cell? ⟨g, 0, none⟩ = some (.slice (some ⟨b, off, none⟩) n c) := by go_simp
    have k1 : ux.cell? ⟨g, 1, none⟩ = some (.int .i64 i) := by go_simp
    obtain ⟨h2, k2⟩ : ∃ h2, ux.cell? ⟨g, 2, none⟩ = some (.int .i64 h2) := ⟨_, by go_simp; first | done | rfl⟩
    have kx : ux.cell? ⟨b, off + i, none⟩ = some (.int .u8 x) := by go_simp
    have z1 : ux.frozen? ⟨g, 1, none⟩ = false := by go_simp
    have z2 : ux.frozen? ⟨g, 2, none⟩ = false := by go_simp
    have G1 := hid (show w.grownBy ux (some g) from (grown_set w g 2 _).trans (grown_below0 hC _))
    have hlu : g < ux.heap.size := by omega
    have hbu : b < ux.heap.size := by omega
    clear hd hdis q12 hcu hfu hC c0 c1 c2 f1 f2 cx hl hb
    go_simp
    go_wp2_with fail
    refine wp_region_walk (by kernel_rfl) (by kernel_rfl) (by kernel_rfl) ?_
    iterate 10
      apply walkM_eq
      case h =>
        intro yq zq wq hC hd
        obtain ⟨hcq, hfq⟩ := bcell hC
        simp at hd
        refine ⟨by go_simp; done, ?_⟩
        go_simp
        first | (go_ints; exact rfl) | (go_ints; rw [if_pos (by omega)]; try exact rfl) | exact rfl | (rw [if_pos (by omega)]; try exact rfl)
    intro yq zq uy hC hd hdis0
    have hdis := hid hdis0
    clear hdis0
    simp at hd
    have q9 := hd.2.2.2.2.2.2.2.2.2
    have e9 : yq 9 = .bool true := by rw [q9.1.1]
    obtain ⟨hcu, hfu⟩ := bcell hC
    have hsy := hC.size
    have m0 : uy.cell? ⟨g, 0, none⟩ = some (.slice (some ⟨b, off, none⟩) n c) := by go_simp
    have m1 : uy.cell? ⟨g, 1, none⟩ = some (.int .i64 i) := by go_simp
    have m2 : uy.cell? ⟨g, 2, none⟩ = some (.int .i64 h2) := by go_simp
    have mx : uy.cell? ⟨b, off + i, none⟩ = some (.int .u8 x) := by go_simp
    have y1 : uy.frozen? ⟨g, 1, none⟩ = false := by go_simp
    have y2 : uy.frozen? ⟨g, 2, none⟩ = false := by go_simp
    have G2 := hid (G1.out.trans (grown_below0 hC (some g)))
    have hly : g < uy.heap.size := by omega
    have hby : b < uy.heap.size := by omega
    clear hd hdis q9 hcu hfu hC k0 k1 k2 kx z1 z2 hlu hbu G1
    go_simp
    go_wp2_with fail
    refine wp_region_walk (by kernel_rfl) (by kernel_rfl) (by kernel_rfl) ?_
    iterate 15
      apply walkM_eq
      case h =>
        intro yq zq wq hC hd
        obtain ⟨hcq, hfq⟩ := bcell hC
        simp at hd
        refine ⟨by go_simp; done, ?_⟩
        go_simp
        first | (go_ints; exact rfl) | (go_ints; rw [if_pos (by omega)]; try exact rfl) | exact rfl | (rw [if_pos (by omega)]; try exact rfl)
    intro yq zq uz hC hd hdis0
    have hdis := hid hdis0
    clear hdis0
    simp at hd
    have q14 := hd.2.2.2.2.2.2.2.2.2.2.2.2.2.2
    obtain ⟨x2, e14, hb2⟩ : ∃ x2, yq 14 = .int .i64 x2 ∧ (0 ≤ x2 ∧ x2 < 256) := ⟨_, q14.1.1, and255 _⟩
    obtain ⟨hcu, hfu⟩ := bcell hC
    have hsz := hC.size
    have k0 : uz.cell? ⟨g, 0, none⟩ = some (.slice (some ⟨b, off, none⟩) n c) := by go_simp
    have k1 : uz.cell? ⟨g, 1, none⟩ = some (.int .i64 i) := by go_simp
    have k2 : uz.cell? ⟨g, 2, none⟩ = some (.int .i64 h2) := by go_simp
    have z1 : uz.frozen? ⟨g, 1, none⟩ = false := by go_simp
    have z2 : uz.frozen? ⟨g, 2, none⟩ = false := by go_simp
    have G3 := hid (G2.out.trans (grown_below0 hC (some g)))
    have hlz : g < uz.heap.size := by omega
    clear hd hdis q14 hcu hfu hC m0 m1 m2 mx y1 y2 hly hby G2
    go_simp
    go_wp2
    go_ret
    refine ⟨x2, rfl, hb2, ⟨i + 1, h2, by omega, by simpa using hlz, by go_simp, by first | (go_simp; done) | (go_simp; go_num), by go_simp, by go_simp, by go_simp⟩, G3.out.trans (grown_set uz g 1 _)⟩
  · have hii : ¬ ((i : Int) < n) := by omega
    go_enter Tryz.func29, Tryz.ntmps29
    go_wp2_with fail
    refine wp_region_walk (by kernel_rfl) (by kernel_rfl) (by kernel_rfl) ?_
    iterate 13
      apply walkM_eq
      case h =>
        intro yq zq wq hC hd
        obtain ⟨hcq, hfq⟩ := bcell hC
        simp at hd
        refine ⟨by go_simp; done, ?_⟩
        go_simp
        first | (go_ints; exact rfl) | (go_ints; rw [if_pos (by omega)]; try exact rfl) | exact rfl | (rw [if_pos (by omega)]; try exact rfl)
    intro yq zq ux hC hd hdis0
    have hdis := hid hdis0
    clear hdis0
    simp at hd
    have q12 := hd.2.2.2.2.2.2.2.2.2.2.2.2
    obtain ⟨x1, e12, hb1⟩ : ∃ x1, yq 12 = .int .i64 x1 ∧ (0 ≤ x1 ∧ x1 < 256) := ⟨_, q12.1.1, and255 _⟩
    obtain ⟨hcu, hfu⟩ := bcell hC
    have hsu := hC.size
    simp at hsu
    have k0 : ux.cell? ⟨g, 0, none⟩ = some (.slice A n c) := by go_simp
    have k1 : ux.cell? ⟨g, 1, none⟩ = some (.int .i64 i) := by go_simp
    obtain ⟨h2, k2⟩ : ∃ h2, ux.cell? ⟨g, 2, none⟩ = some (.int .i64 h2) := ⟨_, by go_simp; first | done | rfl⟩
    have z1 : ux.frozen? ⟨g, 1, none⟩ = false := by go_simp
    have z2 : ux.frozen? ⟨g, 2, none⟩ = false := by go_simp
    have G1 := hid (show w.grownBy ux (some g) from (grown_set w g 2 _).trans (grown_below0 hC _))
    have hlu : g < ux.heap.size := by omega
    clear hd hdis q12 hcu hfu hC c0 c1 c2 f1 f2 hl
    go_simp
    go_wp2_with fail
    refine wp_region_walk (by kernel_rfl) (by kernel_rfl) (by kernel_rfl) ?_
    iterate 10
      apply walkM_eq
      case h =>
        intro yq zq wq hC hd
        obtain ⟨hcq, hfq⟩ := bcell hC
        simp at hd
        refine ⟨by go_simp; done, ?_⟩
        go_simp
        first | (go_ints; exact rfl) | (go_ints; rw [if_pos (by omega)]; try exact rfl) | exact rfl | (rw [if_pos (by omega)]; try exact rfl)
    intro yq zq uy hC hd hdis0
    have hdis := hid hdis0
    clear hdis0
    simp at hd
    have q9 := hd.2.2.2.2.2.2.2.2.2
    have e9 : yq 9 = .bool false := by rw [q9.1.1]; simp; omega
    obtain ⟨hcu, hfu⟩ := bcell hC
    have hsy := hC.size
    have m0 : uy.cell? ⟨g, 0, none⟩ = some (.slice A n c) := by go_simp
    have m1 : uy.cell? ⟨g, 1, none⟩ = some (.int .i64 i) := by go_simp
    have m2 : uy.cell? ⟨g, 2, none⟩ = some (.int .i64 h2) := by go_simp
    have y1 : uy.frozen? ⟨g, 1, none⟩ = false := by go_simp
    have y2 : uy.frozen? ⟨g, 2, none⟩ = false := by go_simp
    have G2 := hid (G1.out.trans (grown_below0 hC (some g)))
    have hly : g < uy.heap.size := by omega
    clear hd hdis q9 hcu hfu hC k0 k1 k2 z1 z2 hlu G1
    go_simp
    go_wp2
    go_ret
    exact ⟨x1, rfl, hb1, ⟨i, h2, hi, hly, m0, m1, m2, y1, y2⟩, G2.out⟩
end Go.Proofs.YtleegelljgnlpaaGreat.X
