/- Texts of numbers: FormatInt, PadZeros of the reference. -/
import Derived.Test.YthlpjpcnpcclhaaDoorP2
import Derived.Test.YthlpjpcnpcclhaaDoorP4
import Derived.Deep.LoopGhost
import Derived.Lib.ItoaNum
import Derived.Laws.BytesArg
namespace Go.Proofs.YthlpjpcnpcclhaaDoor.X
open Go.RowKit Go.XB Go.XN
attribute [local go_sem] fillBy opAt deps depOf Region.wanted yielded
attribute [local simp] deps depOf MP.eq MP.agg MP.sl Facts
set_option linter.constructorNameAsVariable false

/-! Plain: texts as lists of bytes. -/
theorem str_one (x : Int) : strOfNums [x] = ⟨[UInt8.ofNat x.toNat].toArray⟩ := rfl
theorem str_app (a b : List UInt8) : (⟨a.toArray⟩ : ByteArray) ++ ⟨b.toArray⟩ = ⟨(a ++ b).toArray⟩ := by
  apply ByteArray.ext; simp
theorem str_app_nil (a : List UInt8) : (⟨a.toArray⟩ : ByteArray) ++ ⟨#[]⟩ = ⟨a.toArray⟩ := by
  apply ByteArray.ext; simp
theorem str_nil_app (a : List UInt8) : (⟨#[]⟩ : ByteArray) ++ ⟨a.toArray⟩ = ⟨a.toArray⟩ := by
  apply ByteArray.ext; simp
theorem nDigits_le : ∀ (k u : Nat), u < 10 ^ (k + 1) → Lib.nDigits u ≤ k + 1
  | 0, u, h => by rw [Lib.nDigits_small (by simpa using h)]; exact Nat.le_refl _
  | k + 1, u, h => by
    by_cases h0 : u < 10
    · rw [Lib.nDigits_small h0]; omega
    · rw [Lib.nDigits_big h0]
      have := nDigits_le k (u / 10) (by rw [Nat.pow_succ] at h; omega)
      omega
theorem dec_len {u : Nat} (k : Nat) (h : u < 10 ^ (k + 1)) : (Lib.decDigits u).length ≤ k + 1 := by rw [Lib.decDigits_length]; exact nDigits_le k u h
theorem dec_pos (u : Nat) : 1 ≤ (Lib.decDigits u).length := by rw [Lib.decDigits_length]; exact Lib.nDigits_pos u
theorem dec_step {m : Nat} (h : 9 < m) : Lib.decDigits m = Lib.decDigits (m / 10) ++ [UInt8.ofNat (48 + m % 10)] := by rw [Lib.decDigits, dif_neg (by omega)]

theorem shown {p : Prop} (h : Hid p) : p := h

/-- string([]byte{x}) -/
theorem conv_one (W : World) (x : Int) : (convert 68 9 (.slice (some ⟨W.heap.size, 0, none⟩) 1 1)).run Tryd.prog (W.alloc (.cells #[.int .u8 x] 5)) = .ok (.string ⟨[UInt8.ofNat x.toNat].toArray⟩) (W.alloc (.cells #[.int .u8 x] 5)) :=
  run_convert_bytes_arg (W.alloc (.cells #[.int .u8 x] 5)) 68 5 Tryd.underlying68 Tryd.underlying5 W.heap.size 0 1 1 [x] rfl (fun i hi => by
    obtain rfl : i = 0 := by omega
    exact cell_one_new W _ _ 0 _ rfl) 9 Tryd.underlying9

attribute [local go_sem] conv_one str_app str_app_nil
set_option maxHeartbeats 1000000 in
set_option maxRecDepth 10000 in
theorem spec_FormatInt (n : Nat) (hn : n ≤ 9223372036854775807) (w : World) :
    Calls Tryd.prog 22 #[.int .i64 n] w (Gives w (.string ⟨(Lib.decDigits n).toArray⟩)) := by
  have h0 : ¬ ((n : Int) < 0) := by omega
  have hl : (Lib.decDigits n).length ≤ 19 := dec_len 18 (by omega)
  have HN := hid hn
  have HL := hid hl
  clear hn hl
  go_enter Tryd.func22, Tryd.ntmps22
  go_wp2_with fail
  go_loopg [0, 3] n (fun g s0 s3 wr => ∃ (m : Nat) (t : List UInt8), s0 = .int .i64 m ∧ s3 = .string ⟨t.toArray⟩ ∧ Hid (m ≤ g ∧ m ≤ n) ∧ Hid (Lib.decDigits n = Lib.decDigits m ++ t) ∧ Below w.heap.size w wr)
  case atStart => exact ⟨n, [], rfl, rfl, ⟨Nat.le_refl _, Nat.le_refl _⟩, by show _ = _; simp, Below.refl _ _⟩
  case round =>
    obtain ⟨m, t, rfl, rfl, hm, hd, hb⟩ := hrel
    have hm1 : (m : Int) ≤ 9223372036854775807 := by have := hm.2; have := shown HN; omega
    have ht : t.length ≤ 19 := by have h := congrArg List.length (shown hd); simp at h; have := shown HL; omega
    have HB := hid hb
    clear hb
    by_cases h9 : (9 : Int) < m
    · go_wp2_with fail
      go_roundg (m / 10)
      case measure => have := (shown hm).1; omega
      case rel =>
        refine ⟨m / 10, (48 + UInt8.ofNat (m % 10)) :: t, by rw [Int.natCast_ediv]; rfl, rfl, ⟨Nat.le_refl _, by have := (shown hm).2; omega⟩, ?_, (shown HB).alloc (shown HB).size _⟩
        show _ = _
        rw [shown hd, dec_step (by omega)]
        simp
    · go_wp2
      refine bodyPost_ret (results_tmp rfl _ _ _) rfl ⟨?_, (shown HB).alloc (shown HB).size _⟩
      rw [shown hd, Lib.decDigits_one (by omega)]
      simp
end Go.Proofs.YthlpjpcnpcclhaaDoor.X
