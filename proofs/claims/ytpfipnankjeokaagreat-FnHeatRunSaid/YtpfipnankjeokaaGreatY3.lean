/- Part of a claim's proof: texts of this repository's wip,joined by prune.py,without the theorems that the claim does not reach. -/
import Derived.Test.YtpfipnankjeokaaGreatY1
import Derived.Test.YtpfipnankjeokaaGreatY2
set_option linter.constructorNameAsVariable false
namespace Go.XN

def val : List Int → Int
 | [] => 0
 | x :: xs => x + 1000000000 * val xs

def pw (n : Nat) : Int := 1000000000 ^ n
theorem pw_zero : pw 0 = 1 := by simp [pw]
theorem pw_succ (n : Nat) : pw (n + 1) = 1000000000 * pw n := by unfold pw; rw [Int.pow_succ,Int.mul_comm]
theorem pw_pos (n : Nat) : 0 < pw n := by
 induction n with
 | zero => rw [pw_zero]; omega
 | succ n ih => rw [pw_succ]; omega
theorem pw_add (m n : Nat) : pw (m + n) = pw m * pw n := by unfold pw; exact Int.pow_add ..
theorem pw_mono {m n : Nat} (h : m ≤ n) : pw m ≤ pw n := by
 induction n with
 | zero => have : m = 0 := by omega
           subst this; exact Int.le_refl _
 | succ n ih =>
  rcases Nat.lt_or_ge n m with h1 | h1
  ·have : m = n + 1 := by omega
   subst this; exact Int.le_refl _
  ·have h2 := ih h1; have h3 := pw_pos n; rw [pw_succ]; omega

def Lims (l : List Int) : Prop := ∀ x ∈ l,0 ≤ x ∧ x < 1000000000
theorem Lims.nil : Lims [] := fun _ h => by simp at h
theorem Lims.cons {x : Int} {l : List Int} (h0 : 0 ≤ x) (h1 : x < 1000000000) (h : Lims l) : Lims (x :: l) := fun y hy => by
 rcases List.mem_cons.1 hy with rfl | hy
 ·exact ⟨h0,h1⟩
 ·exact h y hy
theorem Lims.tail {x : Int} {l : List Int} (h : Lims (x :: l)) : Lims l := fun y hy => h y (List.mem_cons_of_mem _ hy)
theorem Lims.head {x : Int} {l : List Int} (h : Lims (x :: l)) : 0 ≤ x ∧ x < 1000000000 := h x (List.mem_cons_self ..)
theorem Lims.append {a b : List Int} (ha : Lims a) (hb : Lims b) : Lims (a ++ b) := fun y hy => by
 rcases List.mem_append.1 hy with hy | hy
 ·exact ha y hy
 ·exact hb y hy
theorem Lims.left {a b : List Int} (h : Lims (a ++ b)) : Lims a := fun y hy => h y (List.mem_append_left _ hy)
theorem Lims.take {l : List Int} (h : Lims l) (k : Nat) : Lims (l.take k) := fun y hy => h y (List.mem_of_mem_take hy)
theorem Lims.drop {l : List Int} (h : Lims l) (k : Nat) : Lims (l.drop k) := fun y hy => h y (List.mem_of_mem_drop hy)
theorem Lims.get {l : List Int} (h : Lims l) {k : Nat} {x : Int} (hx : l[k]? = some x) : 0 ≤ x ∧ x < 1000000000 := h x (List.mem_of_getElem? hx)
theorem Lims.one {x : Int} (h0 : 0 ≤ x) (h1 : x < 1000000000) : Lims [x] := Lims.cons h0 h1 Lims.nil

theorem val_append (a b : List Int) : val (a ++ b) = val a + pw a.length * val b := by
 induction a with
 | nil => simp [val,pw_zero]
 | cons x a ih => rw [List.cons_append,val,ih,val,List.length_cons,pw_succ]; grind
theorem val_snoc (a : List Int) (x : Int) : val (a ++ [x]) = val a + pw a.length * x := by rw [val_append]; simp [val]
theorem val_nonneg {l : List Int} (h : Lims l) : 0 ≤ val l := by
 induction l with
 | nil => simp [val]
 | cons x l ih => have := ih h.tail; have := h.head; rw [val]; omega
theorem val_lt {l : List Int} (h : Lims l) : val l < pw l.length := by
 induction l with
 | nil => simp [val,pw_zero]
 | cons x l ih => have := ih h.tail; have := h.head; rw [val,List.length_cons,pw_succ]; omega
theorem val_replicate (n : Nat) : val (List.replicate n 0) = 0 := by
 induction n with
 | zero => rfl
 | succ n ih => rw [List.replicate_succ,val,ih]; rfl
theorem val_take_step {l : List Int} {k : Nat} {x : Int} (h : l[k]? = some x) : val (l.take (k + 1)) = val (l.take k) + pw k * x := by
 have hk := (List.getElem?_eq_some_iff.1 h).1
 rw [Go.XB.take_step h,val_snoc,List.length_take,Nat.min_eq_left (by omega)]
theorem val_drop_step {l : List Int} {k : Nat} {x : Int} (h : l[k]? = some x) : val (l.drop k) = x + 1000000000 * val (l.drop (k + 1)) := by
 obtain ⟨hk,rfl⟩ := List.getElem?_eq_some_iff.1 h
 rw [List.drop_eq_getElem_cons hk,val]
theorem val_split (l : List Int) (k : Nat) (hk : k ≤ l.length) : val l = val (l.take k) + pw k * val (l.drop k) := by
 have := val_append (l.take k) (l.drop k)
 rwa [List.take_append_drop,List.length_take,Nat.min_eq_left hk] at this

def Can (l : List Int) : Prop := Lims l ∧ l.getLast? ≠ some 0
theorem Can.nil : Can [] := ⟨Lims.nil,by simp⟩

def digF : Nat → Nat → List Int
 | 0, _ => []
 | f + 1,n => if n = 0 then [] else ((n % 1000000000 : Nat) : Int) :: digF f (n / 1000000000)
def dig (n : Nat) : List Int := digF n n

theorem digF_more : ∀ (f g n : Nat),n ≤ f → n ≤ g → digF f n = digF g n
 | 0,0, _, _, _ => rfl
 | 0, g + 1, n, h, _ => by have : n = 0 := by omega
                           subst this; simp [digF]
 | f + 1, 0, n, _, h => by have : n = 0 := by omega
                           subst this; simp [digF]
 | f + 1,g + 1,n,hf,hg => by
  unfold digF
  split
  ·rfl
  ·rw [digF_more f g (n / 1000000000) (by omega) (by omega)]

theorem dig_zero : dig 0 = [] := rfl
theorem dig_step {n : Nat} (h : n ≠ 0) : dig n = ((n % 1000000000 : Nat) : Int) :: dig (n / 1000000000) := by
 unfold dig
 cases n with
 | zero => exact absurd rfl h
 | succ n =>
  conv => lhs; unfold digF
  rw [if_neg (by omega)]
  rw [digF_more n ((n + 1) / 1000000000) _ (by omega) (by omega)]

theorem dig_spec (n : Nat) : Lims (dig n) ∧ val (dig n) = n ∧ ((dig n).getLast? ≠ some 0) ∧ (dig n = [] ↔ n = 0) := by
 induction n using Nat.strongRecOn with
 | _ n ih =>
  by_cases h : n = 0
  ·subst h; rw [dig_zero]; exact ⟨Lims.nil,rfl,by simp,by simp⟩
  ·rw [dig_step h]
   obtain ⟨h1,h2,h3,h4⟩ := ih (n / 1000000000) (by omega)
   refine ⟨Lims.cons (by omega) (by omega) h1,by rw [val,h2]; omega, ?_,by simp [h]⟩
   by_cases h5 : n / 1000000000 = 0
   ·rw [h4.2 h5]
    simp; omega
   ·cases hd : dig (n / 1000000000) with
    | nil => exact absurd (h4.1 hd) h5
    | cons y ys => rw [List.getLast?_cons_cons, ← hd]; exact h3

theorem dig_can (n : Nat) : Can (dig n) := ⟨(dig_spec n).1,(dig_spec n).2.2.1⟩
theorem val_dig (n : Nat) : val (dig n) = n := (dig_spec n).2.1
theorem dig_nil {n : Nat} : dig n = [] ↔ n = 0 := (dig_spec n).2.2.2

theorem Can.tail {x : Int} {l : List Int} (h : Can (x :: l)) : Can l := by
 refine ⟨h.1.tail, ?_⟩
 cases l with
 | nil => simp
 | cons y l => have := h.2; rwa [List.getLast?_cons_cons] at this

theorem Can.eq_dig {l : List Int} (h : Can l) : l = dig (val l).toNat := by
 induction l with
 | nil => rfl
 | cons x l ih =>
  have h1 := ih h.tail
  have hx := h.1.head
  have hv := val_nonneg h.1.tail
  have hne : val (x :: l) ≠ 0 := by
   rw [val]
   intro e
   have hx0 : x = 0 := by omega
   have hv0 : val l = 0 := by omega
   rw [hv0] at h1
   have hl : l = [] := by rw [h1]; rfl
   subst hl; subst hx0
   exact h.2 (by simp)
  have hpos : 0 ≤ val (x :: l) := val_nonneg h.1
  rw [dig_step (by omega)]
  congr 1
  ·rw [val]; omega
  ·conv => lhs; rw [h1]
   congr 1
   rw [val]; omega

theorem Can.of_val {l : List Int} (h : Can l) {n : Nat} (hn : val l = n) : l = dig n := by
 rw [h.eq_dig,hn]; simp
theorem Can.val_inj {a b : List Int} (ha : Can a) (hb : Can b) (h : val a = val b) : a = b := by
 rw [ha.eq_dig,hb.eq_dig,h]

theorem Can.len_le {l : List Int} (h : Can l) (hne : l ≠ []) : pw (l.length - 1) ≤ val l := by
 have hl : l = l.take (l.length - 1) ++ [l.getLast hne] := by
  rw [← List.dropLast_eq_take,List.dropLast_concat_getLast]
 have hlast := h.1 (l.getLast hne) (List.getLast_mem hne)
 have hnz : l.getLast hne ≠ 0 := fun e => h.2 (by rw [List.getLast?_eq_some_getLast hne,e])
 have hlen : (l.take (l.length - 1)).length = l.length - 1 := by rw [List.length_take]; omega
 have hv : val l = val (l.take (l.length - 1)) + pw (l.length - 1) * l.getLast hne := by
  conv => lhs; rw [hl]
  rw [val_snoc,hlen]
 have h0 := val_nonneg (h.1.take (l.length - 1))
 have hp := pw_pos (l.length - 1)
 have : pw (l.length - 1) * 1 ≤ pw (l.length - 1) * l.getLast hne := Int.mul_le_mul_of_nonneg_left (by omega) (Int.le_of_lt hp)
 omega
theorem Can.lt_of_len {a b : List Int} (ha : Lims a) (hb : Can b) (h : a.length < b.length) : val a < val b := by
 have h1 := val_lt ha
 have h2 := hb.len_le (by intro e; rw [e] at h; simp at h)
 have h3 := pw_mono (show a.length ≤ b.length - 1 by omega)
 omega
theorem Can.pos {l : List Int} (h : Can l) (hne : l ≠ []) : 0 < val l := by
 have := h.len_le hne; have := pw_pos (l.length - 1); omega
def trim (l : List Int) : List Int := (l.reverse.dropWhile (· == 0)).reverse
theorem trim_snoc_zero (l : List Int) : trim (l ++ [0]) = trim l := by unfold trim; simp
theorem trim_snoc {l : List Int} {x : Int} (h : x ≠ 0) : trim (l ++ [x]) = l ++ [x] := by unfold trim; simp [h]
theorem trim_spec (l : List Int) : (∃ n,l = trim l ++ List.replicate n 0) ∧ (trim l).getLast? ≠ some 0 := by
 induction h : l.length generalizing l with
 | zero =>
  have : l = [] := List.eq_nil_of_length_eq_zero h
  subst this
  exact ⟨⟨0,rfl⟩,by simp [trim]⟩
 | succ n ih =>
  have hne : l ≠ [] := by intro e; subst e; simp at h
  have hl : l = l.dropLast ++ [l.getLast hne] := (List.dropLast_concat_getLast hne).symm
  by_cases hz : l.getLast hne = 0
  ·rw [hz] at hl
   obtain ⟨⟨m,hm⟩,h2⟩ := ih l.dropLast (by rw [List.length_dropLast]; omega)
   have e : trim l = trim l.dropLast := by conv => lhs; rw [hl]
                                           exact trim_snoc_zero _
   refine ⟨⟨m + 1, ?_⟩,by rw [e]; exact h2⟩
   rw [e,List.replicate_succ', ← List.append_assoc, ← hm]
   exact hl
  ·have e : trim l = l := by conv => lhs; rw [hl]
                             rw [trim_snoc hz]; exact hl.symm
   refine ⟨⟨0,by simp [e]⟩, ?_⟩
   rw [e,List.getLast?_eq_some_getLast hne]
   simpa using hz
theorem val_trim (l : List Int) : val (trim l) = val l := by
 obtain ⟨⟨n,h⟩, _⟩ := trim_spec l
 conv => rhs; rw [h]
 rw [val_append,val_replicate]; simp
theorem Can.trim {l : List Int} (h : Lims l) : Can (trim l) := by
 obtain ⟨⟨n,e⟩,h2⟩ := trim_spec l
 exact ⟨by rw [e] at h; exact h.left,h2⟩
theorem trim_dig {l : List Int} (h : Lims l) {n : Nat} (hn : val l = n) : trim l = dig n := (Can.trim h).of_val (by rw [val_trim,hn])
theorem Can.trim_eq {l : List Int} (h : Can l) : XN.trim l = l := (Can.trim h.1).val_inj h (val_trim l)
theorem trim_take (l : List Int) : trim l = l.take (trim l).length := by
 obtain ⟨⟨n,e⟩, _⟩ := trim_spec l
 conv => rhs; arg 2; rw [e]
 simp

theorem val_cmp_step {a b : List Int} (ha : Lims a) (hb : Lims b) {k : Nat} {x y : Int} (hx : a[k]? = some x) (hy : b[k]? = some y) (he : a.drop (k + 1) = b.drop (k + 1)) (hlen : a.length = b.length) :
  (x < y → val a < val b) ∧ (y < x → val b < val a) := by
 have hka := (List.getElem?_eq_some_iff.1 hx).1
 have hkb := (List.getElem?_eq_some_iff.1 hy).1
 have h1 := val_split a k (by omega)
 have h2 := val_split b k (by omega)
 rw [val_drop_step hx] at h1
 rw [val_drop_step hy, ← he] at h2
 have h3 := val_lt (ha.take k); have h4 := val_nonneg (ha.take k)
 have h5 := val_lt (hb.take k); have h6 := val_nonneg (hb.take k)
 rw [List.length_take,Nat.min_eq_left (by omega)] at h3 h5
 have hp := pw_pos k
 constructor
 ·intro hxy
  have : pw k * (x + 1) ≤ pw k * y := Int.mul_le_mul_of_nonneg_left (by omega) (Int.le_of_lt hp)
  grind
 ·intro hxy
  have : pw k * (y + 1) ≤ pw k * x := Int.mul_le_mul_of_nonneg_left (by omega) (Int.le_of_lt hp)
  grind
theorem dig_len {n k : Nat} (h : (n : Int) < pw k) : (dig n).length ≤ k := by
 rcases Nat.lt_or_ge k (dig n).length with h1 | h1
 ·have hne : dig n ≠ [] := by intro e; rw [e] at h1; simp at h1
  have h2 := (dig_can n).len_le hne
  rw [val_dig] at h2
  have := pw_mono (show k ≤ (dig n).length - 1 by omega)
  omega
 ·exact h1
theorem pw_vals : pw 1 = 1000000000 ∧ pw 2 = 1000000000000000000 ∧ pw 3 = 1000000000000000000000000000 := by
 refine ⟨?_, ?_, ?_⟩ <;> (unfold pw; rfl)
def sgn (n : Int) : Int := if n < 0 then -1 else if 0 < n then 1 else 0

end Go.XN

namespace Go.XN

theorem carry_out {out : List Int} {k : Nat} (hl : out.length = k) (s : Int) : val (out ++ [s % 1000000000]) + pw (k + 1) * (s / 1000000000) = val out + pw k * s := by
 rw [val_snoc,hl,pw_succ]
 have : s = 1000000000 * (s / 1000000000) + s % 1000000000 := by omega
 generalize s / 1000000000 = q at *
 generalize s % 1000000000 = r at *
 subst this
 grind

theorem Can.of_len {l : List Int} (h : Lims l) (hv : l ≠ [] → pw (l.length - 1) ≤ val l) : Can l := by
 refine ⟨h,fun e => ?_⟩
 have hne : l ≠ [] := by intro e'; subst e'; simp at e
 have h1 := hv hne
 have hl : l = l.take (l.length - 1) ++ [0] := by
  conv => lhs; rw [← List.dropLast_concat_getLast hne]
  rw [List.dropLast_eq_take]
  rw [List.getLast?_eq_some_getLast hne] at e
  rw [Option.some.inj e]
 have h2 := val_lt (h.take (l.length - 1))
 rw [List.length_take] at h2
 rw [hl,val_snoc] at h1
 have h3 := pw_mono (show min (l.length - 1) l.length ≤ l.length - 1 by omega)
 have h4 : (List.take (l.length - 1) l ++ [(0 : Int)]).length - 1 = l.length - 1 := by rw [← hl]
 rw [h4] at h1
 omega

theorem Lims.snoc {l : List Int} {x : Int} (h : Lims l) (h0 : 0 ≤ x) (h1 : x < 1000000000) : Lims (l ++ [x]) := h.append (Lims.one h0 h1)
theorem Can.snoc {l : List Int} {x : Int} (h : Lims l) (h0 : 0 < x) (h1 : x < 1000000000) : Can (l ++ [x]) := ⟨h.snoc (by omega) h1,by simp; omega⟩

theorem add_end {xs out : List Int} {c V : Int} (hx : Can xs) (ho : Lims out) (hl : out.length = xs.length) (hv : val out + pw xs.length * c = val xs + V) (hV : 0 ≤ V) (h0 : 0 ≤ c) (h1 : c < 1000000000) :
  (if 0 < c then out ++ [c] else out) = dig (val xs + V).toNat := by
 have hvx := val_nonneg hx.1
 split
 ·rename_i hc
  refine (Can.snoc ho hc h1).of_val ?_
  rw [val_snoc,hl,hv]; omega
 ·rename_i hc
  have : c = 0 := by omega
  subst this
  rw [Int.mul_zero,Int.add_zero] at hv
  refine (Can.of_len ho fun hne => ?_).of_val (by rw [hv]; omega)
  have hxne : xs ≠ [] := by intro e; apply hne; apply List.eq_nil_of_length_eq_zero; rw [hl,e]; rfl
  have := hx.len_le hxne
  rw [hl,hv]; omega
end Go.XN

namespace Go.XN
open Go.XB

theorem val_set {l : List Int} {j : Nat} {x : Int} (h : l[j]? = some x) (u : Int) : val (l.set j u) = val l + pw j * (u - x) := by
 induction l generalizing j with
 | nil => simp at h
 | cons a l ih =>
  cases j with
  | zero =>
   simp at h
   subst h
   rw [List.set_cons_zero,val,val,pw_zero]; omega
  | succ j =>
   rw [List.set_cons_succ,val,val,ih (by simpa using h),pw_succ]
   grind
theorem Lims.set {l : List Int} (h : Lims l) (j : Nat) {u : Int} (h0 : 0 ≤ u) (h1 : u < 1000000000) : Lims (l.set j u) := fun y hy => by
 rcases List.mem_or_eq_of_mem_set hy with hy | rfl
 ·exact h y hy
 ·exact ⟨h0,h1⟩
theorem Lims.zeros (n : Nat) : Lims (List.replicate n 0) := fun y hy => by rw [List.eq_of_mem_replicate hy]; omega
theorem Lims.num {l : List Int} (h : Lims l) {j : Nat} (hj : j < l.length) : ∃ x,l[j]? = some x ∧ 0 ≤ x ∧ x < 1000000000 :=
 ⟨_,List.getElem?_eq_getElem hj,h _ (List.getElem_mem hj)⟩
theorem mul_lim {x y : Int} (hx0 : 0 ≤ x) (hx : x < 1000000000) (hy0 : 0 ≤ y) (hy : y < 1000000000) : 0 ≤ x * y ∧ x * y ≤ 999999998000000001 := by
 refine ⟨Int.mul_nonneg hx0 hy0, ?_⟩
 have h1 : x * y ≤ 999999999 * y := Int.mul_le_mul_of_nonneg_right (by omega) hy0
 omega

theorem mul_step {l : List Int} {j : Nat} {x : Int} (h : l[j]? = some x) {t : Int} {V c : Int} (hv : val l + pw j * c = V) : val (l.set j (t % 1000000000)) + pw (j + 1) * (t / 1000000000) = V + pw j * (t - x - c) := by
 rw [val_set h,pw_succ]
 have : t = 1000000000 * (t / 1000000000) + t % 1000000000 := by omega
 generalize t / 1000000000 = q at *
 generalize t % 1000000000 = r at *
 subst this
 grind
end Go.XN
namespace Go.XB
theorem zeros_row (n : Nat) : (madeCells (Value.int .i64 0).cells (n * 1)).toList = (List.replicate n (0 : Int)).map (.int .i64) := by
 rw [List.map_replicate]
 refine List.eq_replicate_iff.2 ⟨by simp [size_madeCells],fun b hb => ?_⟩
 simp only [madeCells,Array.toList_map,List.mem_map] at hb
 obtain ⟨a, _,rfl⟩ := hb
 have : (Value.int .i64 0).cells = #[.int .i64 0] := rfl
 rw [this]
 simp [Nat.mod_one]
end Go.XB

namespace Go.XN
open Go.XB

theorem quo_lim {r x d : Int} (hd : 0 < d) (hr0 : 0 ≤ r) (hr : r < d) (hx0 : 0 ≤ x) (hx : x < 1000000000) :
  0 ≤ (r * 1000000000 + x) / d ∧ (r * 1000000000 + x) / d < 1000000000 ∧ 0 ≤ (r * 1000000000 + x) % d ∧ (r * 1000000000 + x) % d < d :=
 ⟨Int.ediv_nonneg (by omega) (by omega),Int.ediv_lt_of_lt_mul hd (by omega),Int.emod_nonneg _ (by omega),Int.emod_lt_of_pos _ hd⟩

theorem drop_set {l : List Int} {j : Nat} (hj : j < l.length) (u : Int) : (l.set j u).drop j = u :: l.drop (j + 1) := by
 rw [List.drop_eq_getElem_cons (by simpa using hj),List.drop_set_of_lt (by omega)]
 simp
theorem div_step {l xs : List Int} {j : Nat} {x r d : Int} (hj : j < l.length) (hx : xs[j]? = some x) (h : val (l.drop (j + 1)) * d + r = val (xs.drop (j + 1))) :
  val ((l.set j ((r * 1000000000 + x) / d)).drop j) * d + (r * 1000000000 + x) % d = val (xs.drop j) := by
 rw [drop_set hj,val,val_drop_step hx, ← h]
 have := Int.mul_ediv_add_emod (r * 1000000000 + x) d
 generalize (r * 1000000000 + x) / d = q at *
 generalize (r * 1000000000 + x) % d = s at *
 grind
theorem div_of {a q r d : Int} (hd : 0 < d) (h : q * d + r = a) (h0 : 0 ≤ r) (h1 : r < d) : a / d = q ∧ a % d = r := by
 refine (Int.ediv_emod_unique hd).2 ⟨?_,h0,h1⟩
 rw [Int.mul_comm]; omega
end Go.XN

namespace Go.XN
open Go.XB

section
variable {U V P F top u0 v1 v2 q rest m1 m2 l1 l2 : Int}

theorem est_first (hP : 0 < P) (hF : 0 < F) (hU : U = l1 + P * (1000000000 * F) * top) (hl1 : l1 < P * (1000000000 * F)) (hV : V = m1 + 1000000000 * F * v1) (hm1 : 0 ≤ m1) (_hv1 : 0 < v1)
  (hq0 : 0 ≤ q) (hq : top < (q + 1) * v1) : U < (q + 1) * (V * P) := by
 have hC : 0 < P * (1000000000 * F) := Int.mul_pos hP (by omega)
 generalize hc : P * (1000000000 * F) = C at *
 have h1 : C * (top + 1) ≤ C * ((q + 1) * v1) := Int.mul_le_mul_of_nonneg_left (by omega) (by omega)
 have h2 : 0 ≤ (q + 1) * (m1 * P) := Int.mul_nonneg (by omega) (Int.mul_nonneg hm1 (by omega))
 have h3 : (q + 1) * (V * P) = (q + 1) * (m1 * P) + C * ((q + 1) * v1) := by rw [hV, ← hc]; grind
 have h4 : C * (top + 1) = C * top + C := by grind
 omega

theorem est_step (hP : 0 < P) (hF : 0 < F) (hU : U = l2 + P * F * (u0 + 1000000000 * top)) (hl2 : l2 < P * F) (hV : V = m2 + F * (v2 + 1000000000 * v1)) (hm2 : 0 ≤ m2)
  (hq0 : 0 ≤ q) (hr : rest = top - q * v1) (ht : rest * 1000000000 + u0 < q * v2) : U < q * (V * P) := by
 have hC : 0 < P * F := Int.mul_pos hP hF
 generalize hc : P * F = C at *
 have h1 : C * (u0 + 1000000000 * top + 1) ≤ C * (q * v2 + 1000000000 * (q * v1)) := Int.mul_le_mul_of_nonneg_left (by omega) (by omega)
 have h2 : 0 ≤ q * (m2 * P) := Int.mul_nonneg hq0 (Int.mul_nonneg hm2 (by omega))
 have h3 : q * (V * P) = q * (m2 * P) + C * (q * v2 + 1000000000 * (q * v1)) := by rw [hV, ← hc]; grind
 have h4 : C * (u0 + 1000000000 * top + 1) = C * (u0 + 1000000000 * top) + C := by grind
 omega

theorem est_last (hP : 0 < P) (hF : 0 < F) (hU1 : U = l1 + P * (1000000000 * F) * top) (hl1 : 0 ≤ l1) (hU2 : U = l2 + P * F * (u0 + 1000000000 * top)) (hl2 : 0 ≤ l2)
  (hV1 : V = m1 + 1000000000 * F * v1) (hm0 : 0 ≤ m1) (hm1 : m1 < 1000000000 * F) (hV2 : V = m2 + F * (v2 + 1000000000 * v1)) (hm2 : m2 < F) (hv1 : 0 < v1)
  (hq0 : 0 ≤ q) (hq1 : q < 1000000000) (hr : rest = top - q * v1) (ht : 1000000000 ≤ rest ∨ q * v2 ≤ rest * 1000000000 + u0) : (q - 1) * (V * P) ≤ U := by
 have hVP : 0 ≤ V * P := Int.mul_nonneg (by rw [hV1]; have := Int.mul_nonneg (show (0 : Int) ≤ 1000000000 * F by omega) (Int.le_of_lt hv1); omega) (by omega)
 rcases ht with ht | ht
 ·have hC : 0 < P * (1000000000 * F) := Int.mul_pos hP (by omega)
  have h0 : q * (m1 * P) ≤ q * (1000000000 * F * P) := Int.mul_le_mul_of_nonneg_left (Int.mul_le_mul_of_nonneg_right (by omega) (by omega)) hq0
  have h1 : P * (1000000000 * F) * (q + q * v1) ≤ P * (1000000000 * F) * top := Int.mul_le_mul_of_nonneg_left (by omega) (by omega)
  have h3 : q * (V * P) = q * (m1 * P) + P * (1000000000 * F) * (q * v1) := by rw [hV1]; grind
  have h4 : P * (1000000000 * F) * (q + q * v1) = q * (1000000000 * F * P) + P * (1000000000 * F) * (q * v1) := by grind
  have h5 : (q - 1) * (V * P) = q * (V * P) - V * P := by grind
  omega
 ·have hC : 0 < P * F := Int.mul_pos hP hF
  have h0 : q * (m2 * P) ≤ q * (F * P) := Int.mul_le_mul_of_nonneg_left (Int.mul_le_mul_of_nonneg_right (by omega) (by omega)) hq0
  have h1 : P * F * (q * v2 + 1000000000 * (q * v1)) ≤ P * F * (u0 + 1000000000 * top) := Int.mul_le_mul_of_nonneg_left (by omega) (by omega)
  have h3 : q * (V * P) = q * (m2 * P) + P * F * (q * v2 + 1000000000 * (q * v1)) := by rw [hV2]; grind
  have h6 : q * (F * P) ≤ 1000000000 * (F * P) := Int.mul_le_mul_of_nonneg_right (by omega) (by rw [Int.mul_comm]; omega)
  have h7 : 1000000000 * F * 1 ≤ 1000000000 * F * v1 := Int.mul_le_mul_of_nonneg_left (by omega) (by omega)
  have h8 : 1000000000 * F * P ≤ V * P := Int.mul_le_mul_of_nonneg_right (by omega) (by omega)
  have h9 : 1000000000 * (F * P) = 1000000000 * F * P := by grind
  have h5 : (q - 1) * (V * P) = q * (V * P) - V * P := by grind
  omega
end
end Go.XN

namespace Go.XN
open Go.XB

theorem drop_zero_of_lt {l : List Int} (h : Lims l) {i : Nat} (hi : i ≤ l.length) (hU : val l < pw i) : val (l.drop i) = 0 := by
 have h1 := val_split l i hi
 have h2 := val_nonneg (h.drop i)
 have h3 := val_nonneg (h.take i)
 have h4 := pw_pos i
 rcases Int.lt_or_le 0 (val (l.drop i)) with h5 | h5
 ·have : pw i * 1 ≤ pw i * val (l.drop i) := Int.mul_le_mul_of_nonneg_left (by omega) (by omega)
  omega
 ·omega
theorem top2 {l : List Int} (h : Lims l) {i : Nat} {x y : Int} (hx : l[i]? = some x) (hy : l[i + 1]? = some y) (hU : val l < pw (i + 2)) : val l = val (l.take i) + pw i * (x + 1000000000 * y) := by
 have hl := (List.getElem?_eq_some_iff.1 hy).1
 have h1 := val_split l (i + 2) (by omega)
 rw [drop_zero_of_lt h (by omega) hU,val_take_step hy,val_take_step hx,pw_succ] at h1
 rw [h1]; grind
theorem top3 {l : List Int} (h : Lims l) {i : Nat} {z x y : Int} (hz : l[i]? = some z) (hx : l[i + 1]? = some x) (hy : l[i + 2]? = some y) (hU : val l < pw (i + 3)) : val l = val (l.take i) + pw i * (z + 1000000000 * (x + 1000000000 * y)) := by
 rw [top2 h hx hy hU,val_take_step hz,pw_succ]; grind
theorem take_lt {l : List Int} (h : Lims l) (i : Nat) (hi : i ≤ l.length) : 0 ≤ val (l.take i) ∧ val (l.take i) < pw i := by
 refine ⟨val_nonneg (h.take i), ?_⟩
 have := val_lt (h.take i)
 rwa [List.length_take,Nat.min_eq_left hi] at this
theorem still_lt {l l' : List Int} (h : Lims l) (h' : Lims l') {i : Nat} (hi : i ≤ l.length) (hl : l'.length = l.length) (he : ∀ k,i ≤ k → l'[k]? = l[k]?) (hU : val l < pw i) : val l' < pw i := by
 have e : l'.drop i = l.drop i := by
  apply List.ext_getElem?
  intro k
  rw [List.getElem?_drop,List.getElem?_drop,he _ (by omega)]
 have h1 := val_split l' i (by omega)
 rw [e,drop_zero_of_lt h hi hU] at h1
 have := (take_lt h' i (by omega)).2
 omega
theorem add_tells {X W r : Int} {hi : Nat} (hr : 0 ≤ r ∧ r ≤ 1) (h : W = X + pw hi - pw hi * r) (h0 : 0 ≤ X) (h1 : W < pw hi) : W = X := by
 rcases (show r = 0 ∨ r = 1 by omega) with rfl | rfl
 ·omega
 ·omega
theorem scale_lt {ys : List Int} (h : Can ys) {m : Nat} {t : Int} (hl : ys.length = m + 1) (ht : ys[m]? = some t) :
  0 < 1000000000 / (t + 1) ∧ 1000000000 / (t + 1) < 1000000000 ∧ val ys * (1000000000 / (t + 1)) < pw (m + 1) ∧ 0 < t ∧ t < 1000000000 := by
 have htl := h.1.get ht
 have ht0 : 0 < t := by
  have hne : ys ≠ [] := by intro e; subst e; simp at hl
  have h1 := h.2
  rw [List.getLast?_eq_getElem?,hl,Nat.add_sub_cancel,ht] at h1
  have : t ≠ 0 := fun e => h1 (by rw [e])
  omega
 have h0 : 1 ≤ 1000000000 / (t + 1) := Int.le_ediv_of_mul_le (by omega) (by omega)
 have h1 : 0 < 1000000000 / (t + 1) := by omega
 have h2 : 1000000000 / (t + 1) * (t + 1) ≤ 1000000000 := Int.ediv_mul_le _ (by omega)
 have h3 : 1000000000 / (t + 1) < 1000000000 := Int.ediv_lt_of_lt_mul (by omega) (by omega)
 refine ⟨h1,h3, ?_,ht0,htl.2⟩
 generalize 1000000000 / (t + 1) = b at *
 have h4 := val_take_step ht
 rw [List.take_of_length_le (by omega)] at h4
 have h5 := (take_lt h.1 m (by omega)).2
 have h6 : val ys * b < pw m * (t + 1) * b := Int.mul_lt_mul_of_pos_right (by rw [h4]; grind) h1
 have h7 : pw m * (b * (t + 1)) ≤ pw m * 1000000000 := Int.mul_le_mul_of_nonneg_left h2 (Int.le_of_lt (pw_pos m))
 rw [pw_succ]
 have h8 : pw m * (t + 1) * b = pw m * (b * (t + 1)) := by grind
 have h9 : pw m * 1000000000 = 1000000000 * pw m := by grind
 omega
end Go.XN

namespace Go.XN
open Go.XB

structure Dig3 (zs vs : List Int) (j p : Nat) (u0 top v1 v2 : Int) : Prop where
 lz : Lims zs
 lv : Lims vs
 z : ∃ u1 u2,zs[j + p]? = some u0 ∧ zs[j + p + 1]? = some u1 ∧ zs[j + p + 2]? = some u2 ∧ u2 * 1000000000 + u1 = top
 w2 : vs[p]? = some v2
 w1 : vs[p + 1]? = some v1
 vl : vs.length = p + 2
 v1p : 0 < v1
 up : val zs < val vs * pw (j + 1)

section
variable {zs vs : List Int} {j p : Nat} {u0 top v1 v2 : Int}

theorem Dig3.lt (h : Dig3 zs vs j p u0 top v1 v2) : val zs < pw (j + p + 3) := by
 have h1 := h.up
 have h2 : val vs < pw (p + 2) := by have := val_lt h.lv; rwa [h.vl] at this
 have h3 : val vs * pw (j + 1) < pw (p + 2) * pw (j + 1) := Int.mul_lt_mul_of_pos_right h2 (pw_pos _)
 rw [← pw_add,show p + 2 + (j + 1) = j + p + 3 by omega] at h3
 omega
theorem Dig3.zl (h : Dig3 zs vs j p u0 top v1 v2) : j + p + 2 < zs.length := by
 obtain ⟨u1,u2, _, _,h2, _⟩ := h.z
 exact (List.getElem?_eq_some_iff.1 h2).1
theorem Dig3.eu1 (h : Dig3 zs vs j p u0 top v1 v2) : val zs = val (zs.take (j + p + 1)) + pw j * (1000000000 * pw p) * top ∧ 0 ≤ val (zs.take (j + p + 1)) ∧ val (zs.take (j + p + 1)) < pw j * (1000000000 * pw p) := by
 obtain ⟨u1,u2,h0,h1,h2,e⟩ := h.z
 have hl := h.zl
 have hb := take_lt h.lz (j + p + 1) (by omega)
 rw [pw_succ,pw_add] at hb
 refine ⟨?_,hb.1,by have := hb.2; grind⟩
 rw [← e,top2 h.lz h1 h2 h.lt,pw_succ,pw_add]; grind
theorem Dig3.eu2 (h : Dig3 zs vs j p u0 top v1 v2) : val zs = val (zs.take (j + p)) + pw j * pw p * (u0 + 1000000000 * top) ∧ 0 ≤ val (zs.take (j + p)) ∧ val (zs.take (j + p)) < pw j * pw p := by
 obtain ⟨u1,u2,h0,h1,h2,e⟩ := h.z
 have hl := h.zl
 have hb := take_lt h.lz (j + p) (by omega)
 rw [pw_add] at hb
 refine ⟨?_,hb.1,hb.2⟩
 rw [← e,top3 h.lz h0 h1 h2 h.lt,pw_add]; grind
theorem Dig3.ev1 (h : Dig3 zs vs j p u0 top v1 v2) : val vs = val (vs.take (p + 1)) + 1000000000 * pw p * v1 ∧ 0 ≤ val (vs.take (p + 1)) ∧ val (vs.take (p + 1)) < 1000000000 * pw p := by
 have h4 := val_take_step h.w1
 rw [List.take_of_length_le (Nat.le_of_eq h.vl),pw_succ] at h4
 have hb := take_lt h.lv (p + 1) (by rw [h.vl]; omega)
 rw [pw_succ] at hb
 exact ⟨h4,hb⟩
theorem Dig3.ev2 (h : Dig3 zs vs j p u0 top v1 v2) : val vs = val (vs.take p) + pw p * (v2 + 1000000000 * v1) ∧ 0 ≤ val (vs.take p) ∧ val (vs.take p) < pw p := by
 refine ⟨?_,take_lt h.lv p (by rw [h.vl]; omega)⟩
 rw [h.ev1.1,val_take_step h.w2]; grind
theorem Dig3.top_lim (h : Dig3 zs vs j p u0 top v1 v2) : 0 ≤ top ∧ top ≤ 999999999999999999 := by
 obtain ⟨u1,u2,h0,h1,h2,e⟩ := h.z
 have := h.lz.get h1
 have := h.lz.get h2
 omega
theorem Dig3.start (h : Dig3 zs vs j p u0 top v1 v2) {q : Int} (hq : (q = top / v1 ∧ top / v1 < 999999999) ∨ (q = 999999999 ∧ 999999999 ≤ top / v1)) :
  (0 ≤ q ∧ q ≤ 999999999) ∧ (0 ≤ q * v1 ∧ q * v1 ≤ top) ∧ val zs < (q + 1) * (val vs * pw j) := by
 have hv := h.v1p
 have qm := Int.ediv_mul_le top (show v1 ≠ 0 by omega)
 have qn := Int.ediv_nonneg h.top_lim.1 (show 0 ≤ v1 by omega)
 rcases hq with ⟨rfl,hq⟩ | ⟨rfl,hq⟩
 ·refine ⟨⟨qn,by omega⟩,⟨Int.mul_nonneg qn (by omega),qm⟩, ?_⟩
  exact est_first (pw_pos j) (pw_pos p) h.eu1.1 h.eu1.2.2 h.ev1.1 h.ev1.2.1 hv qn (Int.lt_ediv_add_one_mul_self top hv)
 ·have h1 : 999999999 * v1 ≤ top / v1 * v1 := Int.mul_le_mul_of_nonneg_right hq (by omega)
  refine ⟨by omega,⟨by omega,by omega⟩, ?_⟩
  have := h.up
  rw [pw_succ] at this
  grind
theorem Dig3.step (h : Dig3 zs vs j p u0 top v1 v2) {q rest : Int} (hq0 : 0 ≤ q) (hr : rest = top - q * v1) (ht : rest * 1000000000 + u0 < q * v2) : rest + v1 = top - (q - 1) * v1 ∧ val zs < (q - 1 + 1) * (val vs * pw j) := by
 refine ⟨by rw [hr]; grind, ?_⟩
 rw [show q - 1 + 1 = q by omega]
 exact est_step (pw_pos j) (pw_pos p) h.eu2.1 h.eu2.2.2 h.ev2.1 h.ev2.2.1 hq0 hr ht
theorem Dig3.last (h : Dig3 zs vs j p u0 top v1 v2) {q rest : Int} (hq0 : 0 ≤ q) (hq1 : q ≤ 999999999) (hr : rest = top - q * v1) (ht : 1000000000 ≤ rest ∨ q * v2 ≤ rest * 1000000000 + u0) : (q - 1) * (val vs * pw j) ≤ val zs :=
 est_last (pw_pos j) (pw_pos p) h.eu1.1 h.eu1.2.1 h.eu2.1 h.eu2.2.1 h.ev1.1 h.ev1.2.1 h.ev1.2.2 h.ev2.1 h.ev2.2.2 h.v1p hq0 (by omega) hr ht
theorem Dig3.done0 (_h : Dig3 zs vs j p u0 top v1 v2) {q : Int} {z1 : List Int} (hU : val zs < (q + 1) * (val vs * pw j)) (hl : Lims z1) (hv : val z1 = val zs - pw j * (q * val vs) + pw (j + (p + 2) + 1) * 0) : val z1 = val zs - val vs * (pw j * q) ∧ 0 ≤ val z1 ∧ val z1 < val vs * pw j := by
 have := val_nonneg hl
 refine ⟨by rw [hv]; grind,this, ?_⟩
 have e : val z1 = val zs - pw j * (q * val vs) := by omega
 rw [e]
 have : (q + 1) * (val vs * pw j) = pw j * (q * val vs) + val vs * pw j := by grind
 omega
theorem Dig3.done1 (h : Dig3 zs vs j p u0 top v1 v2) {q cy : Int} {z1 z2 : List Int} (hL : (q - 1) * (val vs * pw j) ≤ val zs) (hl : Lims z1) (hv : val z1 = val zs - pw j * (q * val vs) + pw (j + (p + 2) + 1) * 1) (hn : z1.length = zs.length) (ho : ∀ k,j + (p + 2) + 1 ≤ k → z1[k]? = zs[k]?)
  (hl2 : Lims z2) (hc : 0 ≤ cy ∧ cy ≤ 1) (hv2 : val z2 = val z1 + pw j * val vs - pw (j + (p + 2) + 1) * cy) (hn2 : z2.length = z1.length) (ho2 : ∀ k,j + (p + 2) + 1 ≤ k → z2[k]? = z1[k]?) :
  val z2 = val zs - val vs * (pw j * (q - 1)) ∧ 0 ≤ val z2 ∧ val z2 < val vs * pw j := by
 have hz := h.zl
 have b0 := h.lt
 rw [show j + p + 3 = j + (p + 2) + 1 by omega] at b0
 have b1 := still_lt h.lz hl (i := j + (p + 2) + 1) (by omega) hn ho b0
 have b2 := still_lt hl hl2 (i := j + (p + 2) + 1) (by omega) hn2 ho2 b1
 have n2 := val_nonneg hl2
 have e1 : (q - 1) * (val vs * pw j) = pw j * (q * val vs) - val vs * pw j := by grind
 have e2 : pw j * val vs = val vs * pw j := Int.mul_comm _ _
 have key : val z2 = val zs - pw j * (q * val vs) + val vs * pw j := add_tells (hi := j + (p + 2) + 1) hc (by rw [hv2,hv,e2,Int.mul_one]; omega) (by omega) b2
 refine ⟨by rw [key]; grind,n2, ?_⟩
 omega
theorem quo_set {os : List Int} {X V q z z1 : Int} {j : Nat} (hj : j < os.length) (h : z = X - V * (pw (j + 1) * val (os.drop (j + 1)))) (h1 : z1 = z - V * (pw j * q)) : z1 = X - V * (pw j * val ((os.set j q).drop j)) := by
 rw [h1,h,drop_set hj,val,pw_succ]; grind
end
theorem top_pos {ys vs : List Int} {p : Nat} {f v1 : Int} (hy : Can ys) (ly : ys.length = p + 2) (lv : Lims vs) (hl : vs.length = p + 2) (hv : val vs = val ys * f) (hf : 0 < f) (h1 : vs[p + 1]? = some v1) : 0 < v1 := by
 have h2 := hy.len_le (by intro e; rw [e] at ly; simp at ly)
 rw [ly,show p + 2 - 1 = p + 1 from rfl] at h2
 have h3 : val ys * 1 ≤ val ys * f := Int.mul_le_mul_of_nonneg_left (by omega) (val_nonneg hy.1)
 have h4 := val_take_step h1
 rw [List.take_of_length_le (Nat.le_of_eq hl)] at h4
 have h5 := (take_lt lv (p + 1) (by omega)).2
 have h6 := (lv.get h1).1
 rcases Int.lt_or_le 0 v1 with h | h
 ·exact h
 ·have : v1 = 0 := by omega
  subst this
  omega
end Go.XN

namespace Go.XN
open Go.XB

def natOkB (a : List Int) : Bool := decide (a.length ≤ 60) && (a.all (fun x => decide (0 ≤ x ∧ x < 1000000000)) && decide (a.getLast? ≠ some 0))
theorem natOkB_iff {a : List Int} : natOkB a = true ↔ a.length ≤ 60 ∧ Can a := by
 unfold natOkB Can Lims; simp [List.all_eq_true]
def bigOkB (x : TBigInt) : Bool := natOkB x.mag && (!x.neg || !x.mag.isEmpty)
def ival (x : TBigInt) : Int := if x.neg then -val x.mag else val x.mag
def encI (n : Int) : TBigInt := ⟨decide (n < 0),dig n.natAbs⟩

theorem Can.dig_natAbs {l : List Int} (h : Can l) : dig (val l).natAbs = l := by
 have e : (val l).natAbs = (val l).toNat := by have := val_nonneg h.1; omega
 rw [e]; exact h.eq_dig.symm
theorem sign_enc {neg : Bool} {mag : List Int} {v : Int} (hm : Can mag) (hv : v = if neg then -val mag else val mag) : (⟨neg && !mag.isEmpty,mag⟩ : TBigInt) = encI v := by
 have h0 := val_nonneg hm.1
 unfold encI
 have e : dig v.natAbs = mag := by
  rw [hv]
  cases neg
  ·exact hm.dig_natAbs
  ·simpa using hm.dig_natAbs
 rw [e]
 congr 1
 cases mag with
 | nil => subst hv; cases neg <;> simp [val]
 | cons a l =>
  have hp := hm.pos (by simp)
  cases neg
  ·subst hv; simp; omega
  ·subst hv; simp; omega
theorem ival_enc (n : Int) : ival (encI n) = n := by
 unfold ival encI
 simp only [decide_eq_true_eq,val_dig]
 split <;> omega
theorem encI_can (n : Int) : Can (encI n).mag := dig_can _
theorem bigOkB_iff {x : TBigInt} : bigOkB x = true ↔ (x.mag.length ≤ 60 ∧ Can x.mag) ∧ (x.neg = true → x.mag ≠ []) := by
 unfold bigOkB
 rw [Bool.and_eq_true,natOkB_iff]
 cases x.neg <;> simp
theorem enc_ival {x : TBigInt} (h : bigOkB x = true) : encI (ival x) = x := by
 obtain ⟨⟨_,hc⟩,hn⟩ := bigOkB_iff.1 h
 have := sign_enc (neg := x.neg) hc (v := ival x) rfl
 rw [← this]
 cases x with
 | mk neg mag =>
  simp only at hn ⊢
  congr 1
  cases neg <;> simp_all

def lim24 : Nat := 1000000000 ^ 24
theorem len_le_iff {n k : Nat} : (dig n).length ≤ k ↔ (n : Int) < pw k := by
 refine ⟨fun h => ?_,dig_len⟩
 have h1 := val_lt (dig_spec n).1
 rw [val_dig] at h1
 have := pw_mono h
 omega

def ratOkB (r : TRat) : Bool := bigOkB r.num && (natOkB r.den && (!r.den.isEmpty && (decide (r.num.mag.length ≤ 24) && (decide (r.den.length ≤ 24) && decide (Int.gcd (val r.num.mag) (val r.den) = 1)))))
def zeroR : TRat := ⟨⟨false, []⟩, []⟩
structure RatV (r : TRat) : Prop where
 num : bigOkB r.num = true
 den : Can r.den
 den0 : 0 < val r.den
 num24 : r.num.mag.length ≤ 24
 den24 : r.den.length ≤ 24
 one : Int.gcd (val r.num.mag) (val r.den) = 1
theorem ratOkB_iff {r : TRat} : ratOkB r = true ↔ RatV r := by
 unfold ratOkB
 simp only [Bool.and_eq_true,decide_eq_true_eq,natOkB_iff,Bool.not_eq_true',List.isEmpty_eq_false_iff]
 constructor
 ·rintro ⟨h1,⟨_,h2⟩,h3,h4,h5,h6⟩
  exact ⟨h1,h2,h2.pos h3,h4,h5,h6⟩
 ·rintro ⟨h1,h2,h3,h4,h5,h6⟩
  exact ⟨h1,⟨by omega,h2⟩,by intro e; rw [e] at h3; simp [val] at h3,h4,h5,h6⟩
theorem RatV.mag {r : TRat} (h : RatV r) : Can r.num.mag := (bigOkB_iff.1 h.num).1.2

def mkR (n d : Int) : TRat :=
 if (dig (n / Int.gcd n d).natAbs).length ≤ 24 ∧ (dig (d / Int.gcd n d).natAbs).length ≤ 24 then ⟨encI (n / Int.gcd n d),dig (d / Int.gcd n d).natAbs⟩ else zeroR
def numv (r : TRat) : Int := ival r.num
def denv (r : TRat) : Int := val r.den

def radd (r s : TRat) : TRat := if ratOkB r && ratOkB s then mkR (numv r * denv s + numv s * denv r) (denv r * denv s) else zeroR
def rsub (r s : TRat) : TRat := if ratOkB r && ratOkB s then mkR (numv r * denv s - numv s * denv r) (denv r * denv s) else zeroR
def rmul (r s : TRat) : TRat := if ratOkB r && ratOkB s then mkR (numv r * numv s) (denv r * denv s) else zeroR
def rneg (r : TRat) : TRat := if ratOkB r then ⟨encI (-numv r),r.den⟩ else zeroR
def rcmpV (r s : TRat) : Int := sgn (numv r * denv s - numv s * denv r)
def rcmp (r s : TRat) : Int := if ratOkB r && ratOkB s then rcmpV r s else 0
def rsignV (r : TRat) : Int := sgn (numv r)
def rsign (r : TRat) : Int := if ratOkB r then rsignV r else 0
def rmin (r s : TRat) : TRat := if ratOkB r && ratOkB s then (if rcmpV r s ≤ 0 then r else s) else zeroR
def rmax (r s : TRat) : TRat := if ratOkB r && ratOkB s then (if 0 ≤ rcmpV r s then r else s) else zeroR
def rint (n : Int) : TRat := ⟨encI n, [1]⟩
end Go.XN

namespace Go.XB
open Go.RowKit
section
variable {α : Type} [Dat α] {w w' : World} {cells : List Value} {xs : List α} {fss : List (List Nat)}
theorem Filled.put (h : Filled w cells xs fss) {k : Nat} (hk : k < xs.length) {y : α} {fs : List Nat} {cs : List Value} (ha : Dat.at_ w cs y fs) :
  Filled w (setFrom cells (k * Dat.sz α) cs) (xs.set k y) (fss.set k fs) := by
 obtain ⟨h1,h2,h3⟩ := h
 have hcl := Dat.len ha
 have hpos : 0 < Dat.sz α := Dat.pos
 have hkm : (k + 1) * Dat.sz α ≤ xs.length * Dat.sz α := Nat.mul_le_mul_right _ hk
 rw [Nat.add_mul,Nat.one_mul] at hkm
 refine ⟨by simp [h1],by rw [length_setFrom,List.length_set]; exact h2,fun j x gs hx hg => ?_⟩
 by_cases hj : j = k
 ·subst hj
  rw [List.getElem?_set_self (by omega)] at hx
  rw [List.getElem?_set_self (by omega)] at hg
  cases hx; cases hg
  rw [take_drop_eq (cs := cs) (fun i hi => ?_) hcl]
  ·exact ha
  ·rw [getElem?_setFrom _ _ _ _ (by omega),if_pos (by omega),Nat.add_sub_cancel_left]
 ·rw [List.getElem?_set_ne (by omega)] at hx hg
  have hjl := (List.getElem?_eq_some_iff.1 hx).1
  have hjm : (j + 1) * Dat.sz α ≤ xs.length * Dat.sz α := Nat.mul_le_mul_right _ hjl
  rw [Nat.add_mul,Nat.one_mul] at hjm
  have := h3 j x gs hx hg
  rw [take_drop_eq (cs := (cells.drop (j * Dat.sz α)).take (Dat.sz α)) (fun i hi => ?_) (by simp; omega)]
  ·exact this
  ·rw [getElem?_setFrom _ _ _ _ (by omega),if_neg ?_,List.getElem?_take,if_pos hi,List.getElem?_drop]
   rcases Nat.lt_or_gt_of_ne hj with h' | h'
   ·have : (j + 1) * Dat.sz α ≤ k * Dat.sz α := Nat.mul_le_mul_right _ h'
    rw [Nat.add_mul,Nat.one_mul] at this
    omega
   ·have : (k + 1) * Dat.sz α ≤ j * Dat.sz α := Nat.mul_le_mul_right _ h'
    rw [Nat.add_mul,Nat.one_mul] at this
    omega
theorem flatten_set {P : Nat → Prop} {fss : List (List Nat)} {k : Nat} {fs : List Nat} (h : ∀ b ∈ fss.flatten,P b) (hf : ∀ b ∈ fs,P b) : ∀ b ∈ (fss.set k fs).flatten,P b := by
 intro b hb
 obtain ⟨gs,hgs,hb2⟩ := List.mem_flatten.1 hb
 rcases List.mem_or_eq_of_mem_set hgs with hgs | e
 ·exact h b (List.mem_flatten.2 ⟨gs,hgs,hb2⟩)
 ·exact hf b (e ▸ hb2)
end
end Go.XB
namespace Go.Proofs.YtpfipnankjeokaaGreat.X
open Go.RowKit Go.XB
def RR (bad : Nat → Prop) (w : World) (g n cap : Nat) (xs : List TRat) : Prop :=
 ∃ cells fss,w.ownsRow 0 32 3 (.slice (some ⟨g,0,none⟩) n cap) n cells ∧ Filled w cells xs fss ∧ xs.length = n ∧ (∀ b ∈ fss.flatten, ¬ bad b) ∧ bad g
section
variable {bad : Nat → Prop} {w w' : World} {g n cap : Nat} {xs : List TRat}
theorem RR.lt (h : RR bad w g n cap xs) : g < w.heap.size := by obtain ⟨_, _,h, _⟩ := h; exact (World.ownsRow.lt h _ rfl).2
theorem RR.below (h : RR bad w g n cap xs) (hb : Below w.heap.size w w') : RR bad w' g n cap xs := by
 obtain ⟨cells,fss,h1,h2,h3,h4,h5⟩ := h
 exact ⟨cells,fss,ownsRow_below h1 hb,h2.below hb,h3,h4,h5⟩
theorem RR.keep (h : RR bad w g n cap xs) (b0 : Nat) (hb0 : bad b0) (hne : b0 ≠ g) (hsz : w.heap.size ≤ w'.heap.size) (h1' : w'.os = w.os) (h2' : w'.tape = w.tape) (h3' : w'.output = w.output) (hk : ∀ b,b ≠ b0 → w'.heap[b]? = w.heap[b]?) : RR bad w' g n cap xs := by
 obtain ⟨cells,fss,h1,h2,h3,h4,h5⟩ := h
 refine ⟨cells,fss,h1.kept (row := some b0) ⟨h1',h2',h3',hsz,fun k _ hk0 => hk k (fun e => hk0 (by rw [e]))⟩ ?_,h2.keep (fun b hb => hk b (fun e => h4 b hb (e ▸ hb0))),h3,h4,h5⟩
 show some g = none ∨ some g ≠ some b0
 exact .inr (by simp; omega)
theorem RR.elem (h : RR bad w g n cap xs) {k : Nat} (hk : k < n) :
  ∃ (x : TRat) (A1 : Option Addr) (n1 c1 : Nat) (A2 : Option Addr) (n2 c2 : Nat) (fs : List Nat),xs[k]? = some x ∧ w.cell? ⟨g,k * 3,none⟩ = some (.bool x.num.neg) ∧ w.cell? ⟨g,k * 3 + 1,none⟩ = some (.slice A1 n1 c1) ∧ w.cell? ⟨g,k * 3 + 2,none⟩ = some (.slice A2 n2 c2)
   ∧ w.frozen? ⟨g,k * 3,none⟩ = false ∧ w.frozen? ⟨g,k * 3 + 1,none⟩ = false ∧ w.frozen? ⟨g,k * 3 + 2,none⟩ = false ∧ Agg w (.agg #[.bool x.num.neg, .slice A1 n1 c1, .slice A2 n2 c2]) x fs ∧ (∀ b ∈ fs, ¬ bad b) ∧ g < w.heap.size := by
 obtain ⟨cells,fss,h1,h2,h3,h4,h5⟩ := h
 have hlt := World.ownsRow.lt h1 _ rfl
 obtain ⟨k1,k2,k3⟩ := h2
 obtain ⟨x,hx⟩ : ∃ x,xs[k]? = some x := ⟨_,List.getElem?_eq_getElem (by omega)⟩
 obtain ⟨fs,hf⟩ : ∃ fs,fss[k]? = some fs := ⟨_,List.getElem?_eq_getElem (by omega)⟩
 have ha := k3 k x fs hx hf
 obtain ⟨A1,n1,c1,s1,A2,n2,c2,s2,e,rfl,w1,w2⟩ := TRat.open_ ha
 have hcell : ∀ j,j < 3 → w.cell? ⟨g,k * 3 + j,none⟩ = ([.bool x.num.neg, .slice A1 n1 c1, .slice A2 n2 c2] : List Value)[j]? := fun j hj => by
  rw [World.ownsRow.cellAt h1 _ (by omega), ← e,List.getElem?_take]
  show _ = if j < 3 then _ else _
  rw [if_pos hj,List.getElem?_drop]
  rfl
 have hfr : ∀ j,w.frozen? ⟨g,j,none⟩ = false := fun j => World.ownsRow.frozenAt h1 j
 refine ⟨x,A1,n1,c1,A2,n2,c2,s1 ++ s2,hx,hcell 0 (by decide),hcell 1 (by decide),hcell 2 (by decide),hfr _,hfr _,hfr _, ?_,fun b hb => h4 b (List.mem_flatten.2 ⟨_,List.mem_of_getElem? hf,hb⟩),hlt.2⟩
 exact TRat.mkAgg w1 w2
theorem RR.set (h : RR bad w g n cap xs) {k : Nat} (hk : k < n) {y : TRat} {O1 : Option Addr} {o1 u1 : Nat} {O2 : Option Addr} {o2 u2 : Nat} {fs : List Nat} (ha : Agg w (.agg #[.bool y.num.neg, .slice O1 o1 u1, .slice O2 o2 u2]) y fs) (hf : ∀ b ∈ fs, ¬ bad b) :
  RR bad (((w.setCell ⟨g,k * 3,none⟩ (.bool y.num.neg)).setCell ⟨g,k * 3 + 1,none⟩ (.slice O1 o1 u1)).setCell ⟨g,k * 3 + 2,none⟩ (.slice O2 o2 u2)) g n cap (xs.set k y) := by
 obtain ⟨cells,fss,h1,h2,h3,h4,h5⟩ := h
 obtain ⟨j1, _⟩ := World.ownsRow.stored h1 (k * 3) (.bool y.num.neg)
 obtain ⟨j2, _⟩ := World.ownsRow.stored j1 (k * 3 + 1) (.slice O1 o1 u1)
 obtain ⟨j3, _⟩ := World.ownsRow.stored j2 (k * 3 + 2) (.slice O2 o2 u2)
 have hkeep : ∀ b,b ≠ g → (((w.setCell ⟨g,k * 3,none⟩ (.bool y.num.neg)).setCell ⟨g,k * 3 + 1,none⟩ (.slice O1 o1 u1)).setCell ⟨g,k * 3 + 2,none⟩ (.slice O2 o2 u2)).heap[b]? = w.heap[b]? := fun b hb =>
  (Below.heap_setCell _ _ _ b (by simpa using hb)).trans ((Below.heap_setCell _ _ _ b (by simpa using hb)).trans (Below.heap_setCell _ _ _ b (by simpa using hb)))
 have hd : Dat.at_ w [.bool y.num.neg, .slice O1 o1 u1, .slice O2 o2 u2] y fs := by
  obtain ⟨cs,e,h⟩ := ha
  have : cs = [.bool y.num.neg, .slice O1 o1 u1, .slice O2 o2 u2] := by simpa using e.symm
  rwa [this] at h
 have hfil := h2.put (k := k) (by omega) hd
 refine ⟨_, _,j3,(hfil.keep (w' := ((w.setCell ⟨g,k * 3,none⟩ (.bool y.num.neg)).setCell ⟨g,k * 3 + 1,none⟩ (.slice O1 o1 u1)).setCell ⟨g,k * 3 + 2,none⟩ (.slice O2 o2 u2)) (fun b hb => hkeep b (fun e => ?_))),by simpa using h3,flatten_set h4 hf,h5⟩
 exact flatten_set (P := fun b => ¬ bad b) h4 hf b hb (e ▸ h5)
theorem RR.sl (h : RR bad w g n cap xs) : ∃ bs,Sl w (some ⟨g,0,none⟩) n cap xs bs ∧ ∀ b ∈ bs,b = g ∨ ¬ bad b := by
 obtain ⟨cells,fss,h1,h2,h3,h4,h5⟩ := h
 obtain ⟨A,c,bs,hv,hs,ho⟩ := h2.sl (α := TRat) h1 h3
 cases hv
 refine ⟨bs,hs,fun b hb => ?_⟩
 rcases ho with ⟨_,rfl⟩ | ⟨g',e,rfl, _⟩
 ·simp at hb
 ·simp [Value.ownBlock] at e
  rcases List.mem_cons.1 hb with e2 | hb
  ·exact .inl (e2.trans e.symm)
  ·exact .inr (h4 b hb)
end
theorem ownsRow_zero {w : World} {base : Nat} {e : TypeId} {size : Nat} {v : Value} {n : Nat} {xs : List Value} (h : w.ownsRow base e size v n xs) : w.ownsRow 0 e size v n xs := by
 obtain ⟨h1,h2⟩ := h
 refine ⟨h1, ?_⟩
 rcases h2 with h2 | ⟨g,cap,cur,hv,hb,h2⟩
 ·exact .inl h2
 ·exact .inr ⟨g,cap,cur,hv,Nat.zero_le _,h2⟩
theorem RR.weaken {bad bad' : Nat → Prop} {w : World} {g n cap : Nat} {xs : List TRat} (h : RR bad w g n cap xs) (hb : ∀ b,b < w.heap.size → bad' b → bad b) (hg : bad' g) : RR bad' w g n cap xs := by
 obtain ⟨cells,fss,h1,h2,h3,h4,h5⟩ := h
 exact ⟨cells,fss,h1,h2,h3,fun b hb' hbad => h4 b hb' (hb b (h2.lt b hb') hbad),hg⟩
theorem RR.grown {bad : Nat → Prop} {w w' : World} {g n cap : Nat} {xs : List TRat} {gB : Nat} (h : RR bad w g n cap xs) (hg : w.grownBy w' (some gB)) (hbad : bad gB) (hne : g ≠ gB) : RR bad w' g n cap xs := by
 obtain ⟨cells,fss,h1,h2,h3,h4,h5⟩ := h
 refine ⟨cells,fss,h1.kept hg ?_,h2.keep (fun b hb => hg.block b (h2.lt b hb) (by intro e; injection e with e; exact h4 b hb (e ▸ hbad))),h3,h4,h5⟩
 show some g = none ∨ some g ≠ some gB
 exact .inr (by simp; omega)
structure MSt (w U : World) (o i cap n : Nat) (gs : List (Nat × Nat)) (M : List (List TRat)) : Prop where
 bl : Below w.heap.size w U
 gl : gs.length = i
 ml : M.length = i
 nd : (o :: gs.map (·.1)).Nodup
 lo : ∀ b ∈ o :: gs.map (·.1),w.heap.size ≤ b
 ou : U.ownsRow w.heap.size 36 1 (.slice (some ⟨o,0,none⟩) i cap) i (gs.map fun g => .slice (some ⟨g.1,0,none⟩) n g.2)
 ro : ∀ (k : Nat) (g : Nat × Nat) (r : List TRat),gs[k]? = some g → M[k]? = some r → RR (fun b => b < w.heap.size ∨ b ∈ o :: gs.map (·.1)) U g.1 n g.2 r
theorem MSt.start {w wb : World} {n : Nat} (hw : Below w.heap.size w wb) : MSt w (wb.alloc (.cells #[] 36)) wb.heap.size 0 0 n [] [] :=
 ⟨Below.next hw (Below.box _),rfl,rfl,by simp,by simp; exact hw.size,World.ownsRow_made wb #[] 0 hw.size (Nat.zero_le _) (by simp),by simp⟩
theorem MSt.push {w wr wa w8 : World} {gB i cap n g c g' cap' : Nat} {gs : List (Nat × Nat)} {M : List (List TRat)} {r : List TRat} (h : MSt w wr gB i cap n gs M) (hb : Below wr.heap.size wr wa) (hr : RR (fun b => b < wr.heap.size ∨ b = g) wa g n c r) (hlo : wr.heap.size ≤ g)
  (hown : w8.ownsRow w.heap.size 36 1 (.slice (some ⟨g',0,none⟩) (i + 1) cap') (i + 1) ((gs.map fun g => Value.slice (some ⟨g.1,0,none⟩) n g.2) ++ [.slice (some ⟨g,0,none⟩) n c])) (hg : wa.grownBy w8 (some gB)) (hor : g' = gB ∨ g' = wa.heap.size) : MSt w w8 g' (i + 1) cap' n (gs ++ [(g,c)]) (M ++ [r]) := by
 have hoB : w.heap.size ≤ gB ∧ gB < wr.heap.size := World.ownsRow.lt h.ou _ rfl
 have hsz := hb.size
 have hbs := h.bl.size
 have hga := hr.lt
 have hgl : ∀ b ∈ gs.map (·.1),b < wr.heap.size := fun b hb' => by
  obtain ⟨q,hq,rfl⟩ := List.mem_map.1 hb'
  obtain ⟨k,hk⟩ := List.mem_iff_getElem?.1 hq
  have hkl := (List.getElem?_eq_some_iff.1 hk).1
  exact (h.ro k q _ hk (List.getElem?_eq_getElem (by rw [h.ml, ← h.gl]; exact hkl))).lt
 have hgB : gB ∉ gs.map (·.1) := (List.nodup_cons.1 h.nd).1
 have hg's : g' ∉ gs.map (·.1) := fun hm => by rcases hor with rfl | rfl; exact hgB hm; have := hgl _ hm; omega
 have hgg : g ≠ g' := fun e => by rcases hor with rfl | rfl <;> omega
 refine ⟨(Below.next h.bl hb).grown hg (by omega) (fun k2 hk2 => by injection hk2 with e; subst e; exact hoB.1),by simp [h.gl],by simp [h.ml], ?_, ?_,by simpa using hown, ?_⟩
 ·rw [List.map_append,List.map_cons,List.map_nil]
  refine List.nodup_cons.2 ⟨?_,List.nodup_append.2 ⟨(List.nodup_cons.1 h.nd).2,by simp,fun a ha b hb' e => ?_⟩⟩
  ·simp only [List.mem_append,List.mem_singleton,not_or]
   exact ⟨hg's,fun e => hgg e.symm⟩
  ·simp at hb'
   have := hgl a ha
   omega
 ·intro b hb'
  rw [List.map_append,List.map_cons,List.map_nil] at hb'
  simp only [List.mem_cons,List.mem_append,List.not_mem_nil,or_false] at hb'
  rcases hb' with rfl | hb' | rfl
  ·rcases hor with e | e <;> omega
  ·exact h.lo b (List.mem_cons_of_mem _ hb')
  ·omega
 ·intro k q r' hk hr'
  by_cases hki : k < i
  ·rw [List.getElem?_append_left (by rw [h.gl]; exact hki)] at hk
   rw [List.getElem?_append_left (by rw [h.ml]; exact hki)] at hr'
   have hqm : q.1 ∈ gs.map (·.1) := List.mem_map.2 ⟨q,List.mem_of_getElem? hk,rfl⟩
   have hne : q.1 ≠ gB := fun e => hgB (e ▸ hqm)
   have h2 : RR (fun c => (c < w.heap.size ∨ c ∈ gB :: gs.map (·.1)) ∨ wr.heap.size ≤ c) wa q.1 n q.2 r' := by
    obtain ⟨cells,fss,k1,k2,k3,k4,k5⟩ := h.ro k q r' hk hr'
    exact ⟨cells,fss,ownsRow_below k1 hb,k2.below hb,k3,fun c hc hbad => by
     rcases hbad with hbad | hbad
     ·exact k4 c hc hbad
     ·have := k2.lt c hc; omega, .inl (.inr (List.mem_cons_of_mem _ hqm))⟩
   have h3 := h2.grown hg (.inl (.inr (List.mem_cons_self ..))) hne
   refine h3.weaken (fun c _ hc => ?_) (.inr (by rw [List.map_append]; exact List.mem_cons_of_mem _ (List.mem_append_left _ hqm)))
   rcases hc with hc | hc
   ·exact .inl (.inl hc)
   rw [List.map_append,List.map_cons,List.map_nil] at hc
   simp only [List.mem_cons,List.mem_append,List.not_mem_nil,or_false] at hc ⊢
   rcases hc with rfl | hc | rfl
   ·rcases hor with e | e
    ·exact .inl (.inr (.inl e))
    ·exact .inr (by omega)
   ·exact .inl (.inr (.inr hc))
   ·exact .inr hlo
  ·have hke : k = i := by have := (List.getElem?_eq_some_iff.1 hk).1; simp [h.gl] at this; omega
   subst hke
   rw [List.getElem?_append_right (by rw [h.gl]; exact Nat.le_refl _),h.gl,Nat.sub_self] at hk
   rw [List.getElem?_append_right (by rw [h.ml]; exact Nat.le_refl _),h.ml,Nat.sub_self] at hr'
   simp at hk hr'
   subst hk; subst hr'
   have h2 : RR (fun c => (c < wr.heap.size ∨ c = g) ∨ wa.heap.size ≤ c) wa g n c r := by
    obtain ⟨cells,fss,k1,k2,k3,k4,k5⟩ := hr
    exact ⟨cells,fss,k1,k2,k3,fun c hc hbad => by
     rcases hbad with hbad | hbad
     ·exact k4 c hc hbad
     ·have := k2.lt c hc; omega, .inl k5⟩
   have h3 := h2.grown hg (.inl (.inl hoB.2)) (by omega)
   refine h3.weaken (fun c _ hc => ?_) (.inr (by rw [List.map_append]; exact List.mem_cons_of_mem _ (List.mem_append_right _ (by simp))))
   rcases hc with hc | hc
   ·exact .inl (.inl (by omega))
   rw [List.map_append,List.map_cons,List.map_nil] at hc
   simp only [List.mem_cons,List.mem_append,List.not_mem_nil,or_false] at hc ⊢
   rcases hc with rfl | hc | rfl
   ·rcases hor with e | e
    ·exact .inl (.inl (by omega))
    ·exact .inr (by omega)
   ·exact .inl (.inl (hgl c hc))
   ·exact .inl (.inr rfl)
section
variable {w U U' : World} {o i n cap : Nat} {gs : List (Nat × Nat)} {M : List (List TRat)}
theorem MSt.below (h : MSt w U o i cap n gs M) (hb : Below U.heap.size U U') : MSt w U' o i cap n gs M :=
 ⟨Below.next h.bl hb,h.gl,h.ml,h.nd,h.lo,ownsRow_below h.ou hb,fun k g r h1 h2 => (h.ro k g r h1 h2).below hb⟩
theorem MSt.row (h : MSt w U o i cap n gs M) {k : Nat} (hk : k < i) : ∃ (g c : Nat) (r : List TRat),gs[k]? = some (g,c) ∧ M[k]? = some r ∧ U.cell? ⟨o,k,none⟩ = some (.slice (some ⟨g,0,none⟩) n c) ∧ o < U.heap.size ∧ RR (fun b => b < w.heap.size ∨ b ∈ o :: gs.map (·.1)) U g n c r ∧ g ≠ o := by
 obtain ⟨⟨g,c⟩,hg⟩ : ∃ g,gs[k]? = some g := ⟨_,List.getElem?_eq_getElem (by rw [h.gl]; exact hk)⟩
 obtain ⟨r,hr⟩ : ∃ r,M[k]? = some r := ⟨_,List.getElem?_eq_getElem (by rw [h.ml]; exact hk)⟩
 refine ⟨g,c,r,hg,hr, ?_,(World.ownsRow.lt h.ou _ rfl).2,h.ro k (g,c) r hg hr,fun e => (List.nodup_cons.1 h.nd).1 (List.mem_map.2 ⟨(g,c),List.mem_of_getElem? hg,e⟩)⟩
 rw [World.ownsRow.cellAt h.ou _ (by omega),List.getElem?_map,hg]; rfl
theorem MSt.set (h : MSt w U o i cap n gs M) {k j g c : Nat} {r : List TRat} (hg : gs[k]? = some (g,c)) (hr : M[k]? = some r) (hj : j < n) {y : TRat} {O1 : Option Addr} {o1 u1 : Nat} {O2 : Option Addr} {o2 u2 : Nat} {fs : List Nat} (ha : Agg U (.agg #[.bool y.num.neg, .slice O1 o1 u1, .slice O2 o2 u2]) y fs) (hf : ∀ b ∈ fs,b ∉ o :: gs.map (·.1)) (hn : ∀ b ∈ fs,w.heap.size ≤ b) :
  MSt w (((U.setCell ⟨g,j * 3,none⟩ (.bool y.num.neg)).setCell ⟨g,j * 3 + 1,none⟩ (.slice O1 o1 u1)).setCell ⟨g,j * 3 + 2,none⟩ (.slice O2 o2 u2)) o i cap n gs (M.set k (r.set j y)) := by
 have hmm : g ∈ gs.map (·.1) := List.mem_map.2 ⟨(g,c),List.mem_of_getElem? hg,rfl⟩
 have hlo := h.lo g (List.mem_cons_of_mem _ hmm)
 have hgm : g ∈ o :: gs.map (·.1) := List.mem_cons_of_mem _ hmm
 have hgo : g ≠ o := fun e => (List.nodup_cons.1 h.nd).1 (e ▸ hmm)
 have hkeep : ∀ b,b ≠ g → (((U.setCell ⟨g,j * 3,none⟩ (.bool y.num.neg)).setCell ⟨g,j * 3 + 1,none⟩ (.slice O1 o1 u1)).setCell ⟨g,j * 3 + 2,none⟩ (.slice O2 o2 u2)).heap[b]? = U.heap[b]? := fun b hb =>
  (Below.heap_setCell _ _ _ b (by simpa using hb)).trans ((Below.heap_setCell _ _ _ b (by simpa using hb)).trans (Below.heap_setCell _ _ _ b (by simpa using hb)))
 have hsz : (((U.setCell ⟨g,j * 3,none⟩ (.bool y.num.neg)).setCell ⟨g,j * 3 + 1,none⟩ (.slice O1 o1 u1)).setCell ⟨g,j * 3 + 2,none⟩ (.slice O2 o2 u2)).heap.size = U.heap.size := by simp [World.setCell]
 refine ⟨((h.bl.setCell (p := ⟨g, _,none⟩) hlo _).setCell (p := ⟨g, _,none⟩) hlo _).setCell (p := ⟨g, _,none⟩) hlo _,h.gl,by simpa using h.ml,h.nd,h.lo,h.ou.kept (row := some g) ⟨rfl,rfl,rfl,by omega,fun k _ hk0 => hkeep k (fun e => hk0 (by rw [e]))⟩ ?_,fun k' q r' hg' hr' => ?_⟩
 ·show some o = none ∨ some o ≠ some g
  exact .inr (by simp; omega)
 ·by_cases hii : k' = k
  ·subst hii
   obtain rfl : (g,c) = q := by rw [hg] at hg'; exact Option.some.inj hg'
   rw [List.getElem?_set_self (by have := (List.getElem?_eq_some_iff.1 hr).1; omega)] at hr'
   cases hr'
   exact (h.ro k' (g,c) r hg hr).set hj ha (fun b hb hbad => by
    rcases hbad with h1 | h1
    ·have := hn b hb; omega
    ·exact hf b hb h1)
  ·rw [List.getElem?_set_ne (by omega)] at hr'
   have hne : g ≠ q.1 := fun e => by
    have h1 : (gs.map (·.1))[k]? = some g := by rw [List.getElem?_map,hg]; rfl
    have h2 : (gs.map (·.1))[k']? = some g := by rw [List.getElem?_map,hg',e]; rfl
    have hnd := (List.nodup_cons.1 h.nd).2
    have k1 := (List.getElem?_eq_some_iff.1 h1).1
    have k2 := (List.getElem?_eq_some_iff.1 h2).1
    have := (List.getElem_inj (h₀ := k1) (h₁ := k2) hnd).1 (by rw [(List.getElem?_eq_some_iff.1 h1).2,(List.getElem?_eq_some_iff.1 h2).2])
    omega
   exact (h.ro k' q r' hg' hr').keep g (.inr hgm) hne (by omega) rfl rfl rfl hkeep
theorem MSt.ltAll (h : MSt w U o i cap n gs M) : ∀ b ∈ o :: gs.map (·.1),b < U.heap.size := by
 intro b hb
 rcases List.mem_cons.1 hb with rfl | hb
 ·exact (World.ownsRow.lt h.ou _ rfl).2
 ·obtain ⟨q,hq,rfl⟩ := List.mem_map.1 hb
  obtain ⟨k,hk⟩ := List.mem_iff_getElem?.1 hq
  have hkl := (List.getElem?_eq_some_iff.1 hk).1
  exact (h.ro k q _ hk (List.getElem?_eq_getElem (by rw [h.ml, ← h.gl]; exact hkl))).lt
theorem MSt.sl (h : MSt w U o i cap n gs M) : ∃ bs,Sl U (some ⟨o,0,none⟩) i cap M bs ∧ ∀ b ∈ bs,w.heap.size ≤ b := by
 have hrow : ∀ k,k < i → ∃ g c r bs,gs[k]? = some (g,c) ∧ M[k]? = some r ∧ Sl U (some ⟨g,0,none⟩) n c r bs ∧ ∀ b ∈ bs,w.heap.size ≤ b := fun k hk => by
  obtain ⟨g,c,r,hg,hr, _, _,hR, _⟩ := h.row hk
  obtain ⟨bs,hs,hb⟩ := hR.sl
  refine ⟨g,c,r,bs,hg,hr,hs,fun b hb' => ?_⟩
  rcases hb b hb' with rfl | h1
  ·exact h.lo b (List.mem_cons_of_mem _ (List.mem_map.2 ⟨(b,c),List.mem_of_getElem? hg,rfl⟩))
  ·exact Nat.le_of_not_lt (fun h2 => h1 (.inl h2))
 have hex : ∀ m,m ≤ i → ∃ fss : List (List Nat),fss.length = m ∧ ∀ (k : Nat) (q : Nat × Nat) (r : List TRat) (fs : List Nat),k < m → gs[k]? = some q → M[k]? = some r → fss[k]? = some fs → Sl U (some ⟨q.1,0,none⟩) n q.2 r fs ∧ ∀ b ∈ fs,w.heap.size ≤ b := by
  intro m
  induction m with
  | zero => exact fun _ => ⟨[],rfl,fun i g r fs hi => absurd hi (Nat.not_lt_zero _)⟩
  | succ m ih =>
   intro hm
   obtain ⟨fss,hl,hf⟩ := ih (by omega)
   obtain ⟨g,c,r,bs,hg,hr,hs,hb⟩ := hrow m (by omega)
   refine ⟨fss ++ [bs],by simp [hl],fun k q r' fs hi hg' hr' hfs => ?_⟩
   by_cases him : k < m
   ·rw [List.getElem?_append_left (by omega)] at hfs
    exact hf k q r' fs him hg' hr' hfs
   ·obtain rfl : k = m := by omega
    rw [← hl] at hfs
    simp at hfs
    rw [hg] at hg'; rw [hr] at hr'
    cases hg'; cases hr'
    rw [← hfs]; exact ⟨hs,hb⟩
 obtain ⟨fss,hl,hf⟩ := hex i (Nat.le_refl _)
 have hfil : Filled U (gs.map fun g => Value.slice (some ⟨g.1,0,none⟩) n g.2) M fss := by
  refine ⟨by rw [hl,h.ml],by simp [h.ml,h.gl,Dat.sz],fun k x fs hx hfs => ?_⟩
  have hk : k < i := by rw [← h.ml]; exact (List.getElem?_eq_some_iff.1 hx).1
  obtain ⟨q,hq⟩ : ∃ q,gs[k]? = some q := ⟨_,List.getElem?_eq_getElem (by rw [h.gl]; exact hk)⟩
  refine ⟨some ⟨q.1,0,none⟩,n,q.2, ?_,(hf k q x fs hk hq hx hfs).1⟩
  exact take_drop_eq (fun j hj => by
   have : j = 0 := by simp [Dat.sz] at hj; exact hj
   subst this
   simp [Dat.sz,hq]) rfl
 obtain ⟨A,c,bs,hv,hs,ho⟩ := hfil.sl (α := List TRat) h.ou h.ml
 cases hv
 refine ⟨bs,hs,fun b hb => ?_⟩
 rcases ho with ⟨_,rfl⟩ | ⟨g',e,rfl, _⟩
 ·simp at hb
 ·simp [Value.ownBlock] at e
  subst e
  rcases List.mem_cons.1 hb with rfl | hb
  ·exact h.lo _ (List.mem_cons_self ..)
  ·obtain ⟨fs,hfs,hb⟩ := List.mem_flatten.1 hb
   obtain ⟨k,hk⟩ := List.mem_iff_getElem?.1 hfs
   have hki : k < i := by rw [← hl]; exact (List.getElem?_eq_some_iff.1 hk).1
   exact (hf k _ _ fs hki (List.getElem?_eq_getElem (by rw [h.gl]; exact hki)) (List.getElem?_eq_getElem (by rw [h.ml]; exact hki)) hk).2 b hb
end
def IRow (w : World) (base g n : Nat) (fs : List Int) : Prop := w.ownsRow base 3 1 (.slice (some ⟨g,0,none⟩) n n) n (fs.map (.int .i64))
theorem IRow.cell {w : World} {base g n : Nat} {fs : List Int} (h : IRow w base g n fs) {j : Nat} {f : Int} (hf : fs[j]? = some f) : w.cell? ⟨g,j,none⟩ = some (.int .i64 f) ∧ w.frozen? ⟨g,j,none⟩ = false := by
 have hj := (List.getElem?_eq_some_iff.1 hf).1
 have hn : fs.length = n * 1 := by have := h.1; simpa using this
 exact ⟨by rw [World.ownsRow.cellAt h j (by omega),List.getElem?_map,hf]; rfl,World.ownsRow.frozenAt h j⟩
theorem IRow.lt {w : World} {base g n : Nat} {fs : List Int} (h : IRow w base g n fs) : g < w.heap.size := (World.ownsRow.lt h _ rfl).2
theorem IRow.set {w : World} {base g n : Nat} {fs : List Int} (h : IRow w base g n fs) (j : Nat) (f : Int) : IRow (w.setCell ⟨g,j,none⟩ (.int .i64 f)) base g n (fs.set j f) := by
 unfold IRow; rw [List.map_set]; exact (World.ownsRow.stored h j _).1
theorem IRow.below {w w' : World} {base g n : Nat} {fs : List Int} (h : IRow w base g n fs) (hb : Below w.heap.size w w') : IRow w' base g n fs := ownsRow_below h hb
theorem IRow.sl {w : World} {base g n : Nat} {fs : List Int} (h : IRow w base g n fs) (hi : ∀ x ∈ fs,I64 x) : ∃ bs,Sl w (some ⟨g,0,none⟩) n n fs bs ∧ (∀ w0 : World,w0.heap.size ≤ base → Own w0 w bs) := by
 have hn : fs.length = n := by have := h.1; simpa using this
 have hf : Filled w (fs.map (.int .i64)) fs (List.replicate fs.length []) := Filled.ints (by rw [List.take_of_length_le (by simp)]) hi (by simp)
 obtain ⟨A,c,bs,hv,hs,ho⟩ := hf.sl (α := Int) h hn
 cases hv
 refine ⟨bs,hs,fun w0 hw0 => ?_⟩
 rw [flatten_nils] at ho
 rcases ho with ⟨_,rfl⟩ | ⟨g',hg',rfl,hb,hc⟩
 ·exact Own.nil _ _
 ·exact ⟨by simp,fun b hb' => by simp at hb'; subst hb'; exact ⟨by omega,hc⟩⟩
end Go.Proofs.YtpfipnankjeokaaGreat.X

namespace Go.XB
open Go.RowKit
section
variable {P : Program} {l : List Oper} {R : Nat → DP} {C : World → Prop} {a0 : Act} {base : Nat}
def takesB (o : Oper) : Bool := o.guard.isNone && match o.op with | .extract _ _ => true | _ => false
def tailsB (l : List Oper) (m s : Nat) : Bool :=
 let R := reach l (List.range l.length).reverse [m]
 decide (s < m) && ((List.range m).all fun k => k == s || R.contains k) && (match l[m]? with | some o => o.guard.isNone && !(deps o).contains s | none => false) && (match l[m + 1]? with | some o => (deps o).contains s | none => true) && (match l[s]? with | some o => takesB o | none => false)
theorem takes_run {o : Oper} (h : takesB o = true) (ev : Operand → Value) {w w1 : World} {n : Next} (hr : (execOp ev o).run P w = .ok n w1) : ∃ v,n = .value v ∧ w1 = w ∧ ∀ w',(execOp ev o).run P w' = .ok (.value v) w' := by
 unfold takesB at h
 simp only [Bool.and_eq_true] at h
 obtain ⟨_,h⟩ := h
 cases ho : o.op with
 | extract x i =>
  unfold execOp at hr ⊢
  simp only [ho] at hr ⊢
  unfold Instr.extract at hr ⊢
  cases hx : ev x with
  | tuple vs =>
   simp only [hx] at hr ⊢
   cases hv : vs[i]? with
   | some v =>
    simp only [hv] at hr ⊢
    have e : (Result.ok (Next.value v) w : Result Next) = .ok n w1 := hr
    cases e
    exact ⟨v,rfl,rfl,fun _ => rfl⟩
   | none => simp only [hv] at hr; cases hr
  | _ => simp only [hx] at hr; cases hr
 | _ => rw [ho] at h; cases h
theorem st_full {m : Nat} {listed : Array Bool} {a : Act} {w : World} {y : Nat → Value} {z : Nat → List Nat} (hs3 : ∀ (j k : Nat) t,opAt l j = some t → opAt l k = some t → j = k) (st : St l R C a0 base listed a w y z)
  (hfront : ∀ k,k < m → listed.getD k false = true) (hun : ∀ k,m ≤ k → k < l.length → listed.getD k false = false) : a = fillBy l y a0 (List.range m) := by
 have e1 : a.tmps = (fillBy l y a0 (List.range m)).tmps := by
  apply Array.ext
  ·rw [st.size,size_fill]
  ·intro t h1 h2
   have key : a.eval (.tmp t) = (fillBy l y a0 (List.range m)).eval (.tmp t) := by
    by_cases hk : ∃ k,k < m ∧ opAt l k = some t
    ·obtain ⟨k,hkl,hk⟩ := hk
     rw [st.evalL t k hk (hfront k hkl),fill_one y t k hk (fun j hj => hs3 j k t hj hk) _ _ (List.mem_range.2 hkl) (by rw [← st.size]; exact h1)]
    ·rw [st.evalN t (fun k hk' => ?_),fill_none y t _ _ (fun k hkm hk' => hk ⟨k,List.mem_range.1 hkm,hk'⟩)]
     by_cases hkl : k < m
     ·exact absurd ⟨k,hkl,hk'⟩ hk
     ·by_cases hke : k < l.length
      ·exact hun k (by omega) hke
      ·have : l.length ≤ k := by omega
       simp [opAt,List.getElem?_eq_none this] at hk'
   simpa [Act.eval,h1,h2] using key
 have e2 : a.defers = (fillBy l y a0 (List.range m)).defers := by rw [st.defers,defers_fill]
 cases a
 simp only at e1 e2
 rw [e1,e2]
theorem put_comm (a : Act) {d e : Option Tmp} (h : ∀ t,d = some t → e = some t → False) (u v : Value) : (a.put d u).put e v = (a.put e v).put d u := by
 cases d with
 | none => cases e <;> rfl
 | some d =>
  cases e with
  | none => rfl
  | some e =>
   have hne : d ≠ e := fun he => h d rfl (by rw [he])
   simp only [Act.put]
   congr 1
   exact Array.setIfInBounds_comm _ _ (by first | exact hne | exact hne.symm)
theorem wpAny_tails {Q : Exit → Act → World → Prop} {N m s : Nat} {om : Oper} (hom : l[m]? = some om) (hK : backB l = true) (hCup : ∀ w w',C w → base ≤ w.heap.size → Below w.heap.size w w' → C w') (hN : a0.tmps.size = N) (hB : monoB l N = true) (hT : tailsB l m s = true) (hL : lineB l m = true)
  (hpart : ∀ i o,i < m → l[i]? = some o → part P l R C a0 i o) (hRc : ∀ i o,i < m → l[i]? = some o → Cong (R i) (deps o))
  (hQ : ∀ (y : Nat → Value) (z : Nat → List Nat) (w : World),C w → (∀ i,i < m → (R i y).p (y i) (z i) w ∧ ∀ b ∈ z i,base ≤ b ∧ b < w.heap.size) → (∀ i j,i ≠ j → i < m → j < m → ∀ b ∈ z i,b ∉ z j) →
   ∃ w',(execOp (fillBy l y a0 (List.range m)).eval om).run P w = .ok .skip w' ∧ wpList P l.toArray Q (l.drop (m + 1)) ((fillBy l y a0 (List.range m)).put om.dst undef) w')
  (hcheck : ∀ (listed : Array Bool),listed.size = l.length → Region.ready .any l.toArray listed = [] → ∀ i,i < l.length → listed.getD i false = true) :
  ∀ (fuel : Nat) (listed : Array Bool) (a : Act) (w : World) (y : Nat → Value) (z : Nat → List Nat),listed.size = l.length → (listed.toList.filter (fun b => !b)).length ≤ fuel → (∀ k,m ≤ k → k < l.length → listed.getD k false = false) →
   St l R C a0 base listed a w y z → wpAny P .any l.toArray Q fuel listed a w := by
 obtain ⟨hs1,hs2,hs3,hs4⟩ := monoB_spec hB
 have hpos : m < l.length := (List.getElem?_eq_some_iff.1 hom).1
 simp only [tailsB,hom,Bool.and_eq_true,decide_eq_true_eq,List.all_eq_true] at hT
 obtain ⟨⟨⟨⟨hsm,hT⟩,hgm,hsd⟩,hnx⟩,htk⟩ := hT
 have hgm' : om.guard = none := by simpa using hgm
 have hsd' : s ∉ deps om := by simpa using hsd
 obtain ⟨os,hos⟩ : ∃ os,l[s]? = some os := ⟨_,List.getElem?_eq_getElem (by omega)⟩
 rw [hos] at htk
 have hback : ∀ (i : Nat) (o : Oper),l[i]? = some o → ∀ e ∈ deps o,e < i := fun i o ho e he => by
  have h1 := hK
  unfold backB at h1
  rw [List.all_eq_true] at h1
  have h2 := h1 (o,i) (by rw [List.mem_iff_getElem?]; exact ⟨i,by simp [List.getElem?_zipIdx,ho]⟩)
  simp only [List.all_eq_true,decide_eq_true_eq] at h2
  exact h2 e he
 have hwm : ∀ f,Region.wanted om f = true := fun f => by unfold Region.wanted; rw [hgm']
 have hrest : ∀ (fuel : Nat) (listed : Array Bool) (a : Act) (w : World),listed.size = l.length → l.length - (m + 1) ≤ fuel → (∀ k,k < l.length → listed.getD k false = decide (k < m + 1)) → wpList P l.toArray Q (l.drop (m + 1)) a w → wpAny P .any l.toArray Q fuel listed a w := fun fuel listed a w hsz hf hls h =>
  wpAny_line hL hcheck fuel (m + 1) listed a w (by omega) (by omega) hsz hf hls h
 have hcount : ∀ (L : List Bool) (p : Nat),(∀ k b,L[k]? = some b → p ≤ k → b = false) → L.length - p ≤ (L.filter (fun b => !b)).length := by
  intro L
  induction L with
  | nil => intro p _; simp
  | cons b L ihL =>
   intro p hp
   cases p with
   | zero =>
    have hb : b = false := hp 0 b rfl (Nat.zero_le _)
    have := ihL 0 (fun k c hc _ => hp (k + 1) c (by simpa using hc) (Nat.zero_le _))
    subst hb
    simp; omega
   | succ p =>
    have := ihL p (fun k c hc hk => hp (k + 1) c (by simpa using hc) (by omega))
    have h2 : (L.filter (fun b => !b)).length ≤ ((b :: L).filter (fun b => !b)).length := by
     cases b <;> simp
    simp only [List.length_cons]; omega
 intro fuel
 induction fuel with
 | zero =>
  intro listed a w y z hsz hf hun st
  exfalso
  have hlt : m < listed.size := by omega
  have hmem : false ∈ listed.toList.filter (fun b => !b) := by
   rw [List.mem_filter]
   refine ⟨?_,rfl⟩
   have : listed[m] = false := by simpa [Array.getD_eq_getD_getElem?,hlt] using hun m (Nat.le_refl _) hpos
   rw [← this]
   exact Array.getElem_mem_toList hlt
  have := List.length_pos_of_mem hmem
  omega
 | succ fuel ih =>
  intro listed a w y z hsz hf hun st
  by_cases hfront : ∀ k,k < m → listed.getD k false = true
  ·have ha : a = fillBy l y a0 (List.range m) := st_full hs3 st hfront hun
   obtain ⟨w',hrun,h⟩ := hQ y z w st.c (fun i hi => st.facts i (hfront i hi)) (fun i j hij hi hj => st.disj i j hij (hfront i hi) (hfront j hj))
   rw [← ha] at h hrun
   refine ⟨fun h0 => (by have := hcheck listed hsz h0 m hpos; rw [hun m (Nat.le_refl _) hpos] at this; cases this),fun i hi => ?_⟩
   obtain ⟨hunT,o,ho,hall⟩ := mem_ready.1 hi
   have hol : l[i]? = some o := by simpa using ho
   have hil : i < l.length := (List.getElem?_eq_some_iff.1 hol).1
   have hlt : i < listed.size := by omega
   have hunF : listed.getD i false = false := by
    have : listed[i] = false := by simpa [Array.getD_eq_getD_getElem?,hlt] using hunT
    simpa [Array.getD_eq_getD_getElem?,hlt] using this
   have him : i = m := by
    rcases Nat.lt_trichotomy i m with h1 | h1 | h1
    ·exfalso; rw [hfront i h1] at hunF; cases hunF
    ·exact h1
    ·exfalso
     obtain ⟨ed,hed,hbd,he⟩ := (mem_depOf (i - 1) _).1 (lineB_spec hL hol h1)
     have h3 : listed.getD (i - 1) false = true := by rw [← he]; simpa using hall ed (by simpa using hed) hbd
     rw [hun (i - 1) (by omega) (by omega)] at h3; cases h3
   subst him
   obtain rfl : om = o := by rw [hom] at hol; exact Option.some.inj hol
   unfold wpOp
   simp only [ho]
   rw [if_pos (hwm _)]
   refine .inl ?_
   unfold Oper.wp
   rw [hrun]
   show wpAny P .any l.toArray Q fuel (listed.setIfInBounds i true) (a.put om.dst undef) w'
   have hls : ∀ k,k < l.length → (listed.setIfInBounds i true).getD k false = decide (k < i + 1) := fun k hk => by
    by_cases hke : k = i
    ·subst hke; rw [Array.getD_eq_getD_getElem?]; simp [hlt]
    ·rw [Array.getD_eq_getD_getElem?,Array.getElem?_setIfInBounds_ne (by omega), ← Array.getD_eq_getD_getElem?]
     by_cases hki : k < i
     ·rw [hfront k hki]; simp; omega
     ·rw [hun k (by omega) hk]; simp; omega
   refine hrest fuel _ _ _ (by simpa using hsz) ?_ hls h
   have hc := hcount listed.toList i (fun k b hb hk => by
    have hkl : k < listed.size := by have := (List.getElem?_eq_some_iff.1 hb).1; simpa using this
    have h1 := hun k hk (by omega)
    have h2 : listed[k] = b := by simpa [hkl] using hb
    rw [← h2]
    simpa [Array.getD_eq_getD_getElem?,hkl] using h1)
   simp only [Array.length_toList] at hc
   omega
  ·refine ⟨fun h0 => (by have := hcheck listed hsz h0 m hpos; rw [hun m (Nat.le_refl _) hpos] at this; cases this),fun i hi => ?_⟩
   obtain ⟨hunT,o,ho,hall⟩ := mem_ready.1 hi
   have hol : l[i]? = some o := by simpa using ho
   have hil : i < l.length := by
    rcases Nat.lt_or_ge i l.length with h | h
    ·exact h
    ·simp [List.getElem?_eq_none h] at hol
   have hlt : i < listed.size := by omega
   have hunF : listed.getD i false = false := by
    have : listed[i] = false := by simpa [Array.getD_eq_getD_getElem?,hlt] using hunT
    simpa [Array.getD_eq_getD_getElem?,hlt] using this
   have hdep : ∀ e ∈ deps o,listed.getD e false = true := by
    intro e he
    obtain ⟨ed,hed,hbd,rfl⟩ := (mem_depOf e _).1 he
    simpa using hall ed (by simpa using hed) hbd
   have hsel : ∀ cs b,o.op ≠ .select cs b := fun cs b => Region.noSelect_spec hs1 i o cs b ho
   have hfr2 : i = m → ∀ k,k < m → k ≠ s → listed.getD k false = true := by
    intro h k hk hks
    subst h
    have hr := reach_listed (l := l) (listed := listed) (n := i) (fun k o hko _ hk => st.closed k o hko hk) (fun o' ho' e he => by
     rw [hol] at ho'; cases ho'; exact hdep e he) (List.range l.length).reverse [i] (fun k hk => by simp at hk; exact .inl hk) k
     (by
      have := hT k (List.mem_range.2 hk)
      simp only [Bool.or_eq_true,beq_iff_eq,List.contains_iff_mem] at this
      exact this.resolve_left hks)
    rcases hr with e | e
    ·omega
    ·exact e
   have him : i < m ∨ i = m := by
    rcases Nat.lt_trichotomy i m with h | h | h
    ·exact .inl h
    ·exact .inr h
    ·exfalso
     have h1 := hdep _ (lineB_spec hL hol h)
     rw [hun (i - 1) (by omega) (by omega)] at h1
     cases h1
   rcases him with him | him
   rotate_left
   ·subst him
    have hf2 := hfr2 rfl
    obtain rfl : om = o := by rw [hom] at hol; exact Option.some.inj hol
    have hsun : listed.getD s false = false := by
     cases h : listed.getD s false with
     | false => rfl
     | true => exact absurd (fun k hk => if hks : k = s then hks ▸ h else hf2 k hk hks) hfront
    have hslt : s < listed.size := by omega
    have hdeps : ∀ e ∈ deps os,listed.getD e false = true := fun e he => by
     have := hback s os hos e he
     exact hf2 e (by omega) (by omega)
    have hlk : ∀ t ∈ looks l os,a.eval (.tmp t) = (fillBy l y a0 (deps os)).eval (.tmp t) := by
     intro t ht
     by_cases hk : ∃ k,opAt l k = some t
     ·obtain ⟨k,hk⟩ := hk
      obtain ⟨o',ho',hd'⟩ : ∃ o',l[k]? = some o' ∧ o'.dst = some t := by
       unfold opAt at hk
       cases h : l[k]? with
       | none => simp [h] at hk
       | some o' => exact ⟨o',rfl,by simpa [h] using hk⟩
      by_cases hkd : k ∈ deps os
      ·rw [st.evalL t k hk (hdeps k hkd),fill_one y t k hk (fun j hj => hs3 j k t hj hk) _ _ hkd (by rw [hN]; exact hs2 k t hk)]
      ·have hik : s ∈ deps o' := (hs4 s os hos t ht k o' ho' hd').resolve_left hkd
       have hkun : listed.getD k false = false := by
        cases hkk : listed.getD k false with
        | false => rfl
        | true => have := st.closed k o' ho' hkk s hik; rw [hsun] at this; cases this
       rw [st.evalN t (fun k' hk' => by rw [hs3 k' k t hk' hk]; exact hkun),fill_none y t _ _ (fun k' hk'd hk' => hkd (hs3 k' k t hk' hk ▸ hk'd))]
     ·rw [st.evalN t (fun k hk' => absurd ⟨k,hk'⟩ hk),fill_none y t _ _ (fun k _ hk' => hk ⟨k,hk'⟩)]
    have hsels : ∀ cs b,os.op ≠ .select cs b := fun cs b => Region.noSelect_spec hs1 s os cs b (by simpa using hos)
    have htk' : takesB os = true := htk
    have hgs : os.guard = none := by
     have h := htk'
     unfold takesB at h; simp only [Bool.and_eq_true,Option.isNone_iff_eq_none] at h; exact h.1
    have hws : ∀ f,Region.wanted os f = true := fun f => by unfold Region.wanted; rw [hgs]
    have hp := hpart s os (by omega) hos y z w st.c (fun k hk => (st.facts k (hdeps k hk)).1)
    rw [if_pos (hws _)] at hp
    unfold gives at hp
    obtain ⟨vs,hpure,hbw,bs,hR,hbs⟩ : ∃ vs,(∀ w',(execOp (fillBy l y a0 (deps os)).eval os).run P w' = .ok (.value vs) w') ∧ Below w.heap.size w w ∧ ∃ bs,(R s y).p vs bs w ∧ ∀ b ∈ bs,w.heap.size ≤ b ∧ b < w.heap.size := by
     cases hr : (execOp (fillBy l y a0 (deps os)).eval os).run P w with
     | ok n w1 =>
      obtain ⟨vs,rfl,rfl,hpure⟩ := takes_run htk' _ hr
      rw [hr] at hp
      exact ⟨vs,hpure,hp.1,hp.2⟩
     | halt x w1 => rw [hr] at hp; exact hp.elim
    have st2 := st_put hN hs2 hs3 st hos hslt hsun hsz (fun j o' hj hor => hRc j o' (by
     have hjl := (List.getElem?_eq_some_iff.1 hj).1
     rcases Nat.lt_or_ge j i with h1 | h1
     ·exact h1
     ·exfalso
      rcases hor with h | h
      ·omega
      ·rw [hun j h1 hjl] at h; cases h) hj) hdeps st.c hbw hR hbs
    have hset : ∀ k,(listed.setIfInBounds s true).getD k false = if k = s then true else listed.getD k false := by
     intro k
     by_cases hk : k = s
     ·subst hk; simp [hslt]
     ·simp [Array.getD_eq_getD_getElem?,Array.getElem?_setIfInBounds_ne (Ne.symm hk),hk]
    have hfr3 : ∀ k,k < i → (listed.setIfInBounds s true).getD k false = true := fun k hk => by
     rw [hset]; split
     ·rfl
     ·rename_i hks; exact hf2 k hk hks
    have hun3 : ∀ k,i ≤ k → k < l.length → (listed.setIfInBounds s true).getD k false = false := fun k hk hkl => by
     rw [hset,if_neg (by omega)]; exact hun k hk hkl
    have ha := st_full hs3 st2 hfr3 hun3
    obtain ⟨w',hrun,h⟩ := hQ _ _ w st.c (fun k hk => st2.facts k (hfr3 k hk)) (fun k j hkj hk hj => st2.disj k j hkj (hfr3 k hk) (hfr3 j hj))
    rw [← ha] at h hrun
    have hmlook : ∀ t ∈ looks l om,(a.put os.dst vs).eval (.tmp t) = a.eval (.tmp t) := fun t ht => by
     rw [getD_put,if_neg]
     rintro ⟨hd, _⟩
     rcases hs4 i om hom t ht s os hos hd with h1 | h1
     ·exact hsd' h1
     ·have := hback s os hos i h1; omega
    rw [execOp_of_looks hsel hmlook] at hrun
    unfold wpOp
    simp only [ho]
    rw [if_pos (hwm _)]
    refine .inl ?_
    unfold Oper.wp
    rw [hrun]
    show wpAny P .any l.toArray Q fuel (listed.setIfInBounds i true) (a.put om.dst undef) w'
    have hseti : ∀ k,(listed.setIfInBounds i true).getD k false = if k = i then true else listed.getD k false := by
     intro k
     by_cases hk : k = i
     ·subst hk; simp [hlt]
     ·simp [Array.getD_eq_getD_getElem?,Array.getElem?_setIfInBounds_ne (Ne.symm hk),hk]
    have hcnt := filter_set listed.toList i (by
     have : listed[i] = false := by simpa [Array.getD_eq_getD_getElem?,hlt] using hunF
     simp [hlt,this])
    have hcnt2 := filter_set (listed.toList.set i true) s (by
     have : listed[s] = false := by simpa [Array.getD_eq_getD_getElem?,hslt] using hsun
     rw [List.getElem?_set_ne (by omega)]
     simp [hslt,this])
    obtain ⟨f,rfl⟩ : ∃ f,fuel = f + 1 := ⟨fuel - 1,by omega⟩
    refine ⟨fun h0 => (by
     have := hcheck _ (by simpa using hsz) h0 s (by omega)
     rw [hseti,if_neg (by omega),hsun] at this; cases this),fun j hj => ?_⟩
    obtain ⟨hunTj,oj,hoj,hallj⟩ := mem_ready.1 hj
    have holj : l[j]? = some oj := by simpa using hoj
    have hjl : j < l.length := (List.getElem?_eq_some_iff.1 holj).1
    have hunFj : (listed.setIfInBounds i true).getD j false = false := by
     have hjs : j < (listed.setIfInBounds i true).size := by simp; omega
     rw [Array.getD_eq_getD_getElem?,Array.getElem?_eq_getElem hjs] at hunTj ⊢
     exact hunTj
    have hdepj : ∀ e ∈ deps oj,(listed.setIfInBounds i true).getD e false = true := by
     intro e he
     obtain ⟨ed,hed,hbd,rfl⟩ := (mem_depOf e _).1 he
     simpa using hallj ed (by simpa using hed) hbd
    have hjs : j = s := by
     rcases Nat.lt_trichotomy j i with h1 | h1 | h1
     ·rcases Nat.lt_or_ge j s with h2 | h2
      ·rw [hseti,if_neg (by omega),hf2 j h1 (by omega)] at hunFj; cases hunFj
      ·rcases Nat.lt_or_ge s j with h3 | h3
       ·rw [hseti,if_neg (by omega),hf2 j h1 (by omega)] at hunFj; cases hunFj
       ·omega
     ·rw [h1,hseti,if_pos rfl] at hunFj; cases hunFj
     ·exfalso
      by_cases hj1 : j = i + 1
      ·subst hj1
       rw [holj] at hnx
       have hmem : s ∈ deps oj := by simpa using hnx
       have := hdepj s hmem
       rw [hseti,if_neg (by omega),hsun] at this; cases this
      ·have := hdepj _ (lineB_spec hL holj h1)
       rw [hseti,if_neg (by omega),hun (j - 1) (by omega) (by omega)] at this; cases this
    subst hjs
    obtain rfl : os = oj := by rw [hos] at holj; exact Option.some.inj holj
    have hlk2 : ∀ t ∈ looks l os,(a.put om.dst undef).eval (.tmp t) = (fillBy l y a0 (deps os)).eval (.tmp t) := fun t ht => by
     rw [getD_put,if_neg]
     ·exact hlk t ht
     ·rintro ⟨hd, _⟩
      rcases hs4 j os hos t ht i om hom hd with h1 | h1
      ·have := hback j os hos i h1; omega
      ·exact hsd' h1
    unfold wpOp
    simp only [hoj]
    rw [if_pos (hws _)]
    refine .inl ?_
    unfold Oper.wp
    rw [execOp_of_looks hsels hlk2,hpure w']
    show wpAny P .any l.toArray Q f ((listed.setIfInBounds i true).setIfInBounds j true) ((a.put om.dst undef).put os.dst vs) w'
    rw [put_comm a (fun t h1 h2 => by
     have := hs3 i j t (by simp [opAt,hom,h1]) (by simp [opAt,hos,h2])
     omega)]
    refine hrest f _ _ _ (by simpa using hsz) ?_ (fun k hk => ?_) h
    ·have hc := hcount ((listed.toList.set i true).set j true) (i + 1) (fun k b hb hk => by
      have hkl : k < listed.size := by have := (List.getElem?_eq_some_iff.1 hb).1; simpa using this
      rw [List.getElem?_set_ne (by omega),List.getElem?_set_ne (by omega)] at hb
      have h1 := hun k (by omega) (by omega)
      have h2 : listed[k] = b := by simpa [hkl] using hb
      rw [← h2]
      simpa [Array.getD_eq_getD_getElem?,hkl] using h1)
     simp only [List.length_set,Array.length_toList] at hc
     omega
    ·by_cases hkj : k = j
     ·subst hkj
      rw [Array.getD_eq_getD_getElem?]
      have : k < (listed.setIfInBounds i true).size := by simp; omega
      simp [hslt]; omega
     ·rw [Array.getD_eq_getD_getElem?,Array.getElem?_setIfInBounds_ne (Ne.symm hkj), ← Array.getD_eq_getD_getElem?,hseti]
      split
      ·rename_i h1; subst h1; simp
      ·rename_i h1
       rcases Nat.lt_or_ge k i with h2 | h2
       ·rw [hf2 k h2 hkj]; simp; omega
       ·rw [hun k h2 hk]; simp; omega
   have hlook : ∀ t ∈ looks l o,a.eval (.tmp t) = (fillBy l y a0 (deps o)).eval (.tmp t) := by
    intro t ht
    by_cases hk : ∃ k,opAt l k = some t
    ·obtain ⟨k,hk⟩ := hk
     obtain ⟨o',ho',hd'⟩ : ∃ o',l[k]? = some o' ∧ o'.dst = some t := by
      unfold opAt at hk
      cases h : l[k]? with
      | none => simp [h] at hk
      | some o' => exact ⟨o',rfl,by simpa [h] using hk⟩
     by_cases hkd : k ∈ deps o
     ·rw [st.evalL t k hk (hdep k hkd),fill_one y t k hk (fun j hj => hs3 j k t hj hk) _ _ hkd (by rw [hN]; exact hs2 k t hk)]
     ·have hik : i ∈ deps o' := (hs4 i o hol t ht k o' ho' hd').resolve_left hkd
      have hkun : listed.getD k false = false := by
       cases hkk : listed.getD k false with
       | false => rfl
       | true => have := st.closed k o' ho' hkk i hik; rw [hunF] at this; cases this
      rw [st.evalN t (fun k' hk' => by rw [hs3 k' k t hk' hk]; exact hkun),fill_none y t _ _ (fun k' hk'd hk' => hkd (hs3 k' k t hk' hk ▸ hk'd))]
    ·rw [st.evalN t (fun k hk' => absurd ⟨k,hk'⟩ hk),fill_none y t _ _ (fun k _ hk' => hk ⟨k,hk'⟩)]
   have hp := hpart i o him hol y z w st.c (fun k hk => (st.facts k (hdep k hk)).1)
   rw [← wanted_of_looks hlook] at hp
   have onward : ∀ (v : Value) (bs : List Nat) (w' : World),Below w.heap.size w w' → (R i y).p v bs w' → (∀ b ∈ bs,w.heap.size ≤ b ∧ b < w'.heap.size) → wpAny P .any l.toArray Q fuel (listed.setIfInBounds i true) (a.put o.dst v) w' := by
    intro v bs w' hbw hRv hbs
    have hn1 : ∀ k,m ≤ k → k < l.length → (listed.setIfInBounds i true).getD k false = false := fun k h1 h2 => by
     rw [Array.getD_eq_getD_getElem?,Array.getElem?_setIfInBounds_ne (by omega), ← Array.getD_eq_getD_getElem?]; exact hun k h1 h2
    refine ih (listed.setIfInBounds i true) (a.put o.dst v) w' (fun j => if j = i then v else y j) (fun j => if j = i then bs else z j) (by simpa using hsz) ?_ hn1 (st_put hN hs2 hs3 st hol hlt hunF hsz (fun j o' hj hor => hRc j o' (by
     have hjl := (List.getElem?_eq_some_iff.1 hj).1
     rcases Nat.lt_or_ge j m with h1 | h1
     ·exact h1
     ·exfalso
      rcases hor with h | h
      ·omega
      ·rw [hun j h1 hjl] at h; cases h) hj) hdep (hCup _ _ st.c st.hb hbw) hbw hRv hbs)
    have := filter_set listed.toList i (by
     have : listed[i] = false := by simpa [Array.getD_eq_getD_getElem?,hlt] using hunT
     simp [hlt,this])
    have h2 : (listed.setIfInBounds i true).toList = listed.toList.set i true := by simp
    rw [h2]; omega
   unfold wpOp
   simp only [ho]
   split
   ·rename_i hw
    rw [if_pos hw] at hp
    refine .inl ?_
    unfold gives at hp
    unfold Oper.wp
    rw [← execOp_of_looks hsel hlook] at hp
    generalize (execOp a.eval o).run P w = r at hp
    cases r with
    | ok n w' =>
     cases n <;> simp only [giveUpon] at hp <;> simp only [Oper.upon]
     case value u =>
      obtain ⟨h2,bs,h3,h4⟩ := hp
      exact onward _ bs _ h2 h3 h4
     case skip =>
      obtain ⟨h2,bs,h3,h4⟩ := hp
      exact onward _ bs _ h2 h3 h4
     case enter f args =>
      refine hp.mono fun e w'' he => ?_
      obtain ⟨v,rfl,h2,bs,h3,h4⟩ := he
      exact onward _ bs _ h2 h3 h4
    | halt x w' => simp only [giveUpon] at hp
   ·rename_i hw
    rw [if_neg hw] at hp
    exact onward undef [] w (Below.refl _ _) hp (fun b hb => by simp at hb)

theorem wp_region_lateline {id : Nat} {Q : Exit → Act → World → Prop} {w : World} (m s : Nat) (om : Oper) (hom : l[m]? = some om) (hm : P.follows .mixedOrders = true) (hB : monoB l a0.tmps.size = true) (hK : backB l = true) (hT : tailsB l m s = true) (hL : lineB l m = true)
  (h : walkM P l w a0 (fun Rs => ∀ (y : Nat → Value) (z : Nat → List Nat) (w' : World),Below w.heap.size w w' → Facts w w' y z 0 (Rs.take m) →
   Disj z m → ∃ w2,(execOp (fillBy l y a0 (List.range m)).eval om).run P w' = .ok .skip w2 ∧ wpList P l.toArray Q (l.drop (m + 1)) ((fillBy l y a0 (List.range m)).put om.dst undef) w2) (l.take m) []) : (Code.region id l.toArray true).wp P Q a0 w := by
 have hml : m < l.length := (List.getElem?_eq_some_iff.1 hom).1
 have hlen : (l.take m).length = m := by simp; omega
 have hfr : ∀ j,j < (l.take m).length → (l.take m)[j]? = l[j]? := fun j hj => by rw [List.getElem?_take,if_pos (by omega)]
 obtain ⟨Rs,hF, _,hps⟩ := walkM_front hK (l.take m) [] (fun j hj => by simpa using hfr j hj) h
 refine wp_region_any hm ?_
 refine wpAny_tails (m := m) (s := s) hom hK (R := fun i => Rs.getD i (fun _ => MP.eq undef)) (C := fun w' => Below w.heap.size w w') (a0 := a0) (base := w.heap.size) (N := a0.tmps.size) (fun w1 w2 h1 h2 h3 => h1.trans (h3.mono h2)) rfl hB hT hL
  (fun i o hi ho => ?_) ?_ ?_ (fun listed hsz h0 => ready_all hK listed hsz h0) _ _ a0 _ (fun _ => undef) (fun _ => []) (by simp) ?_ ?_ ?_
 ·have hi' : i < (l.take m).length := by omega
  have := (parts_spec (l.take m) 0 hps i o (by rw [hfr i hi']; exact ho)).2
  rwa [Nat.zero_add] at this
 ·intro i o hi ho
  have hi' : i < (l.take m).length := by omega
  have := (parts_spec (l.take m) 0 hps i o (by rw [hfr i hi']; exact ho)).1
  rwa [Nat.zero_add] at this
 ·intro y z w' h1 h2 h3
  refine hF y z w' h1 (facts_of _ 0 fun k m' hk => ?_) h3
  rw [Nat.zero_add]
  rw [List.getElem?_take] at hk
  split at hk
  ·rename_i hlt
   have := h2 k hlt
   simpa [List.getD_eq_getElem?_getD,hk] using this
  ·cases hk
 ·simp
 ·intro k _ _
  rw [Array.getD_eq_getD_getElem?,Array.getElem?_replicate]; split <;> rfl
 ·have hf : ∀ i,(Array.replicate l.toArray.size false).getD i false = false := by
   intro i
   rw [Array.getD_eq_getD_getElem?,Array.getElem?_replicate]
   split <;> rfl
  refine ⟨⟨rfl,rfl,rfl,Nat.le_refl _,fun _ _ => rfl⟩,Nat.le_refl _,rfl,rfl, ?_, ?_, ?_, ?_, ?_⟩
  ·intro i hi; rw [hf] at hi; cases hi
  ·intro i j _ hi; rw [hf] at hi; cases hi
  ·intro k o _ hk; rw [hf] at hk; cases hk
  ·intro t k _ hk; rw [hf] at hk; cases hk
  ·intro t _; rfl
end
end Go.XB
