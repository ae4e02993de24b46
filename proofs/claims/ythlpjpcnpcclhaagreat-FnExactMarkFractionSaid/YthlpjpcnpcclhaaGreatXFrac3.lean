/- The flags' list: spec.l09List. -/
import Derived.Test.YthlpjpcnpcclhaaGreatXOrder2
namespace Go.Proofs.YthlpjpcnpcclhaaGreat.X
open Go.RowKit Go.XB Go.XN Go.XS
attribute [local go_sem] fillBy opAt deps depOf Region.wanted yielded
attribute [local simp] deps depOf MP.eq MP.agg MP.sl Facts
set_option linter.constructorNameAsVariable false

/-- the places that are true -/
def trues (fs : List Bool) (n : Nat) : List Int := (iota n).filter (fun i => fs.getD i.toNat false)
theorem trues_step {fs : List Bool} {k : Nat} {f : Bool} (h : fs[k]? = some f) : trues fs (k + 1) = if f then trues fs k ++ [(k : Int)] else trues fs k := by
  unfold trues
  rw [iota_succ, List.filter_append]
  cases f <;> simp [List.getD_eq_getElem?_getD, h]
theorem trues_len (fs : List Bool) (n : Nat) : (trues fs n).length ≤ n := by
  have := List.length_filter_le (fun i : Int => fs.getD i.toNat false) (iota n)
  rw [iota_len] at this
  exact this

set_option maxHeartbeats 1000000 in
theorem spec_l09List (g n : Nat) (fs : List Bool) (w : World) (hl : fs.length = n) (hn : n ≤ 1048576) (hg : g < w.heap.size) (hc : ∀ (i : Nat) (f : Bool), fs[i]? = some f → w.cell? ⟨g, i, none⟩ = some (.bool f)) :
    Calls Tryz.prog 44 #[.slice (some ⟨g, 0, none⟩) n n] w (GivesSl w (trues fs n)) := by
  have HC := hid hc; have HL := hid hl; have HG := hid hg
  obtain ⟨i0, hi, hz0, hz1, hz2⟩ := info_parts infoI
  clear hc hl
  go_enter Tryz.func44, Tryz.ntmps44
  go_wp2_with fail
  go_loopg [3, 9] n (fun gh v s wr => ∃ (k m gB cap : Nat), k + gh = n ∧ m ≤ k ∧ s = .int .i64 k ∧ v = .slice (some ⟨gB, 0, none⟩) m cap ∧ Hid (Row wr w.heap.size gB m cap (trues fs k)) ∧ Below w.heap.size w wr)
  case atStart =>
    refine ⟨0, 0, w.heap.size, 0, by omega, by omega, rfl, rfl, ?_, by (repeat (first | (with_reducible exact Below.refl _ _) | ((with_reducible refine Below.set ?_ ?_ _); rotate_left; (simp <;> omega)) | (with_reducible refine Below.box_ ?_ _) | (with_reducible refine Below.next ?_ (by assumption))))⟩
    exact World.ownsRow_made w #[] 0 (by omega) (Nat.zero_le _) rfl
  case round =>
    obtain ⟨k, m, gB, cap, hk, hm, rfl, rfl, hR, hb⟩ := hrel
    rcases Nat.lt_or_ge k n with hkn | hkn
    · have hki : (k : Int) < n := by omega
      obtain ⟨gh, rfl⟩ : ∃ g', gk = g' + 1 := ⟨gk - 1, by omega⟩
      have hk' := hid (show k + 1 + gh = n by omega)
      have hm' := hid (show m + 1 ≤ k + 1 by omega)
      have hm2 := hid (show m ≤ k + 1 by omega)
      obtain ⟨f, hf⟩ : ∃ f, fs[k]? = some f := ⟨_, List.getElem?_eq_getElem (by rw [HL.out]; exact hkn)⟩
      have c0 : wr.cell? ⟨g, k, none⟩ = some (.bool f) := (hb.cell (p := ⟨g, k, none⟩) HG.out).trans (HC.out k f hf)
      have T := hid (trues_step hf)
      have hf0 := hid hf
      have C3 := hid (show m + 1 ≤ maxLen by unfold maxLen; omega)
      have C4 := hid (show (m + 1) * 8 ≤ 140737488355328 by omega)
      have C5 := hid hb.size
      have hown : wr.ownsRow w.heap.size 3 1 (.slice (some ⟨gB, 0, none⟩) m cap) m ((trues fs k).map (.int .i64)) := hR.out
      clear hk hkn hf hm
      cases f
      · have RZ := hid (show Row wr w.heap.size gB m cap (trues fs (k + 1)) by rw [T.out]; exact hR.out)
        go_wp2_with fail
        go_roundg gh
        case measure => omega
        case rel => exact ⟨k + 1, m, gB, cap, hk'.out, hm2.out, by go_num, rfl, RZ.out, hb⟩
      · clear c0
        have c0 : wr.cell? ⟨g, k, none⟩ = some (.bool true) := (hb.cell (p := ⟨g, k, none⟩) HG.out).trans (HC.out k true hf0.out)
        go_wp2_with (first | (at_builtin; refine wpList_append_own _ rfl _ _ 31 rfl w.heap.size 3 i0 (.int .i64 0) 1 8 Tryz.underlying31 hi hz0 hz1 hz2 rfl (by decide) _ _ _ rfl (hown.alloc _) ⟨wr.heap.size, 0, none⟩ 1 1 [.int .i64 (k)] rfl rfl (cell_one_new _ _ _) (fun x hx => by simp at hx; subst hx; rfl) C3.out C4.out (le_alloc C5.out _) ?_; intro v' w3 hown' hgrow' hnil'))
        have hb' := below_push hb hown hgrow'
        have hp' : w3.ownsRow w.heap.size 3 1 v' (m + 1) ((trues fs (k + 1)).map (.int .i64)) := by rw [T.out, if_pos trivial, List.map_append]; exact hown'
        rcases row_cases hp' with ⟨_, h0⟩ | ⟨g2, cap2, rfl, _⟩
        · exfalso; omega
        have R2 := hid (show Row w3 w.heap.size g2 (m + 1) cap2 (trues fs (k + 1)) from hp')
        have B2 := hid hb'
        clear hown' hp' hb' hgrow'
        go_wp2_with fail
        go_roundg gh
        case measure => omega
        case rel => exact ⟨k + 1, m + 1, g2, cap2, hk'.out, hm'.out, by go_num, rfl, R2.out, B2.out⟩
    · have hki : ¬ ((k : Int) < n) := by omega
      have hke : k = n := by omega
      subst hke
      have R2 := hid hR.out; have B2 := hid hb
      have hlen := hid (row_len hR.out)
      clear hk hkn hm
      go_wp2
      go_ret
      refine gives_row R2.out hlen.out (fun x hx => ?_) B2.out
      have := iota_mem (List.mem_filter.1 hx).1
      unfold I64; omega
end Go.Proofs.YthlpjpcnpcclhaaGreat.X
