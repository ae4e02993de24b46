/- Texts of natural numbers in limbs: the plain function. -/
import Derived.Test.YthlpjpcnpcclhaaDoorXTx1
import Derived.Test.YthlpjpcnpcclhaaDoorP3
import Derived.Test.YthlpjpcnpcclhaaDoorP1
namespace Go.Proofs.YthlpjpcnpcclhaaDoor.X
open Go.RowKit Go.XB Go.XN

/-- with leading zeros, nine digits -/
def pad9 (s : List UInt8) : List UInt8 := List.replicate (9 - s.length) 48 ++ s
def limb (x : Int) : List UInt8 := pad9 (Lib.decDigits x.toNat)
def natRest : List Int → List UInt8
  | [] => [48]
  | x :: r => Lib.decDigits x.toNat ++ r.flatMap limb
def natTxt (xs : List Int) : List UInt8 := natRest xs.reverse
def natTxtB (xs : List Int) : List UInt8 := if natOkB xs then natTxt xs else []

theorem pad9_len {s : List UInt8} (h : s.length ≤ 9) : (pad9 s).length = 9 := by unfold pad9; simp; omega
theorem dec9 {x : Int} (h : x < 1000000000) : (Lib.decDigits x.toNat).length ≤ 9 := dec_len 8 (by omega)
theorem limb_len {x : Int} (h : x < 1000000000) : (limb x).length = 9 := pad9_len (dec9 h)
theorem limbs_len : ∀ {r : List Int}, (∀ x ∈ r, x < 1000000000) → (r.flatMap limb).length = 9 * r.length
  | [], _ => rfl
  | x :: r, h => by
    rw [List.flatMap_cons, List.length_append, limb_len (h x (by simp)), limbs_len (fun y hy => h y (by simp [hy]))]
    simp; omega
theorem natTxt_len {xs : List Int} (h : natOkB xs = true) : (natTxt xs).length ≤ 540 := by
  obtain ⟨h1, h2⟩ := natOkB_iff.1 h
  have hl : ∀ x ∈ xs.reverse, x < 1000000000 := fun x hx => (h2.1 x (List.mem_reverse.1 hx)).2
  have hn : xs.reverse.length ≤ 60 := by simpa using h1
  unfold natTxt
  generalize xs.reverse = r at hl hn
  cases r with
  | nil => simp [natRest]
  | cons x r =>
    have := dec9 (hl x (by simp))
    have e := limbs_len (r := r) (fun y hy => hl y (by simp [hy]))
    simp at hn
    simp only [natRest, List.length_append]; omega
theorem natTxtB_len (xs : List Int) : (natTxtB xs).length ≤ 540 := by
  unfold natTxtB; split
  · exact natTxt_len (by assumption)
  · simp
/-- from the last limb on -/
theorem natTxt_last {xs : List Int} {m : Nat} {x : Int} (hl : xs.length = m + 1) (hx : xs[m]? = some x) : natTxt xs = Lib.decDigits x.toNat ++ (xs.take m).reverse.flatMap limb := by
  have h := List.take_add_one (l := xs) (i := m)
  rw [List.take_of_length_le (by omega), hx] at h
  unfold natTxt
  conv => lhs; rw [h]
  simp [natRest]
theorem limbs_step {xs : List Int} {m : Nat} {x : Int} (hx : xs[m]? = some x) : (xs.take (m + 1)).reverse.flatMap limb = limb x ++ (xs.take m).reverse.flatMap limb := by
  rw [List.take_add_one, hx]; simp
/-- the texts of integers, of fractions, of goals, of reports -/
def bigTxt (x : TBigInt) : List UInt8 := if bigOkB x then (if x.neg then 45 :: natTxtB x.mag else natTxtB x.mag) else []
def ratTxt (r : TRat) : List UInt8 := if ratOkB r then (if r.den = [1] then bigTxt r.num else bigTxt r.num ++ 47 :: natTxtB r.den) else []
def goalTxt (g : TGoal) : List UInt8 := if ratOkB g.value ∧ ratOkB g.square then ratTxt g.value ++ [32, 115, 113, 117, 97, 114, 101, 32] ++ ratTxt g.square else []
def reportTxt (r : TReport) : List UInt8 := if ratOkB r.energy ∧ ratOkB r.bound then Lib.itoa r.triangles ++ [32, 101, 110, 101, 114, 103, 121, 32] ++ ratTxt r.energy ++ [32, 98, 111, 117, 110, 100, 32] ++ ratTxt r.bound else []
theorem bigTxt_len (x : TBigInt) : (bigTxt x).length ≤ 541 := by
  have := natTxtB_len x.mag
  unfold bigTxt; split
  · split
    · simp; omega
    · omega
  · simp
theorem ratTxt_len (r : TRat) : (ratTxt r).length ≤ 1082 := by
  have := bigTxt_len r.num
  have := natTxtB_len r.den
  unfold ratTxt; split
  · split
    · omega
    · simp; omega
  · simp
end Go.Proofs.YthlpjpcnpcclhaaDoor.X
