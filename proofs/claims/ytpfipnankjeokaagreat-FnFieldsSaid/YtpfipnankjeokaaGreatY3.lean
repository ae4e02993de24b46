/- Part of a claim's proof: texts of this repository's wip,joined by prune.py,without the theorems that the claim does not reach. -/
import Derived.Test.YtpfipnankjeokaaGreatY1
import Derived.Test.YtpfipnankjeokaaGreatY2
/- Natural numbers of limbs and fractions: the plain mathematics. No condition. -/
/- Natural numbers as lists of limbs to the base 1000000000,least first: values,the canonical list of a value. Plain mathematics. -/
namespace Go.XN

def val : List Int → Int
 | [] => 0
 | x :: xs => x + 1000000000 * val xs

def pw (n : Nat) : Int := 1000000000 ^ n
theorem pw_zero : pw 0 = 1 := by simp [pw]
theorem pw_succ (n : Nat) : pw (n + 1) = 1000000000 * pw n := by unfold pw; rw [Int.pow_succ,Int.mul_comm]
theorem pw_pos (n : Nat) : 0 < pw n := by
 induction n with
 | zero => rw [pw_zero]; omega
 | succ n ih => rw [pw_succ]; omega
theorem pw_add (m n : Nat) : pw (m + n) = pw m * pw n := by unfold pw; exact Int.pow_add ..
theorem pw_mono {m n : Nat} (h : m ≤ n) : pw m ≤ pw n := by
 induction n with
 | zero => have : m = 0 := by omega
           subst this; exact Int.le_refl _
 | succ n ih =>
  rcases Nat.lt_or_ge n m with h1 | h1
  ·have : m = n + 1 := by omega
   subst this; exact Int.le_refl _
  ·have h2 := ih h1; have h3 := pw_pos n; rw [pw_succ]; omega

def Lims (l : List Int) : Prop := ∀ x ∈ l,0 ≤ x ∧ x < 1000000000
theorem Lims.nil : Lims [] := fun _ h => by simp at h
theorem Lims.cons {x : Int} {l : List Int} (h0 : 0 ≤ x) (h1 : x < 1000000000) (h : Lims l) : Lims (x :: l) := fun y hy => by
 rcases List.mem_cons.1 hy with rfl | hy
 ·exact ⟨h0,h1⟩
 ·exact h y hy
theorem Lims.tail {x : Int} {l : List Int} (h : Lims (x :: l)) : Lims l := fun y hy => h y (List.mem_cons_of_mem _ hy)
theorem Lims.head {x : Int} {l : List Int} (h : Lims (x :: l)) : 0 ≤ x ∧ x < 1000000000 := h x (List.mem_cons_self ..)
theorem Lims.append {a b : List Int} (ha : Lims a) (hb : Lims b) : Lims (a ++ b) := fun y hy => by
 rcases List.mem_append.1 hy with hy | hy
 ·exact ha y hy
 ·exact hb y hy
theorem Lims.left {a b : List Int} (h : Lims (a ++ b)) : Lims a := fun y hy => h y (List.mem_append_left _ hy)
theorem Lims.take {l : List Int} (h : Lims l) (k : Nat) : Lims (l.take k) := fun y hy => h y (List.mem_of_mem_take hy)
theorem Lims.drop {l : List Int} (h : Lims l) (k : Nat) : Lims (l.drop k) := fun y hy => h y (List.mem_of_mem_drop hy)
theorem Lims.get {l : List Int} (h : Lims l) {k : Nat} {x : Int} (hx : l[k]? = some x) : 0 ≤ x ∧ x < 1000000000 := h x (List.mem_of_getElem? hx)
theorem Lims.one {x : Int} (h0 : 0 ≤ x) (h1 : x < 1000000000) : Lims [x] := Lims.cons h0 h1 Lims.nil

theorem val_append (a b : List Int) : val (a ++ b) = val a + pw a.length * val b := by
 induction a with
 | nil => simp [val,pw_zero]
 | cons x a ih => rw [List.cons_append,val,ih,val,List.length_cons,pw_succ]; grind
theorem val_snoc (a : List Int) (x : Int) : val (a ++ [x]) = val a + pw a.length * x := by rw [val_append]; simp [val]
theorem val_nonneg {l : List Int} (h : Lims l) : 0 ≤ val l := by
 induction l with
 | nil => simp [val]
 | cons x l ih => have := ih h.tail; have := h.head; rw [val]; omega
theorem val_lt {l : List Int} (h : Lims l) : val l < pw l.length := by
 induction l with
 | nil => simp [val,pw_zero]
 | cons x l ih => have := ih h.tail; have := h.head; rw [val,List.length_cons,pw_succ]; omega
theorem val_replicate (n : Nat) : val (List.replicate n 0) = 0 := by
 induction n with
 | zero => rfl
 | succ n ih => rw [List.replicate_succ,val,ih]; rfl
theorem val_take_step {l : List Int} {k : Nat} {x : Int} (h : l[k]? = some x) : val (l.take (k + 1)) = val (l.take k) + pw k * x := by
 have hk := (List.getElem?_eq_some_iff.1 h).1
 rw [Go.XB.take_step h,val_snoc,List.length_take,Nat.min_eq_left (by omega)]
theorem val_drop_step {l : List Int} {k : Nat} {x : Int} (h : l[k]? = some x) : val (l.drop k) = x + 1000000000 * val (l.drop (k + 1)) := by
 obtain ⟨hk,rfl⟩ := List.getElem?_eq_some_iff.1 h
 rw [List.drop_eq_getElem_cons hk,val]
theorem val_split (l : List Int) (k : Nat) (hk : k ≤ l.length) : val l = val (l.take k) + pw k * val (l.drop k) := by
 have := val_append (l.take k) (l.drop k)
 rwa [List.take_append_drop,List.length_take,Nat.min_eq_left hk] at this

def Can (l : List Int) : Prop := Lims l ∧ l.getLast? ≠ some 0
theorem Can.nil : Can [] := ⟨Lims.nil,by simp⟩

def digF : Nat → Nat → List Int
 | 0, _ => []
 | f + 1,n => if n = 0 then [] else ((n % 1000000000 : Nat) : Int) :: digF f (n / 1000000000)
def dig (n : Nat) : List Int := digF n n

theorem digF_more : ∀ (f g n : Nat),n ≤ f → n ≤ g → digF f n = digF g n
 | 0,0, _, _, _ => rfl
 | 0, g + 1, n, h, _ => by have : n = 0 := by omega
                           subst this; simp [digF]
 | f + 1, 0, n, _, h => by have : n = 0 := by omega
                           subst this; simp [digF]
 | f + 1,g + 1,n,hf,hg => by
  unfold digF
  split
  ·rfl
  ·rw [digF_more f g (n / 1000000000) (by omega) (by omega)]

theorem dig_zero : dig 0 = [] := rfl
theorem dig_step {n : Nat} (h : n ≠ 0) : dig n = ((n % 1000000000 : Nat) : Int) :: dig (n / 1000000000) := by
 unfold dig
 cases n with
 | zero => exact absurd rfl h
 | succ n =>
  conv => lhs; unfold digF
  rw [if_neg (by omega)]
  rw [digF_more n ((n + 1) / 1000000000) _ (by omega) (by omega)]

theorem dig_spec (n : Nat) : Lims (dig n) ∧ val (dig n) = n ∧ ((dig n).getLast? ≠ some 0) ∧ (dig n = [] ↔ n = 0) := by
 induction n using Nat.strongRecOn with
 | _ n ih =>
  by_cases h : n = 0
  ·subst h; rw [dig_zero]; exact ⟨Lims.nil,rfl,by simp,by simp⟩
  ·rw [dig_step h]
   obtain ⟨h1,h2,h3,h4⟩ := ih (n / 1000000000) (by omega)
   refine ⟨Lims.cons (by omega) (by omega) h1,by rw [val,h2]; omega, ?_,by simp [h]⟩
   by_cases h5 : n / 1000000000 = 0
   ·rw [h4.2 h5]
    simp; omega
   ·cases hd : dig (n / 1000000000) with
    | nil => exact absurd (h4.1 hd) h5
    | cons y ys => rw [List.getLast?_cons_cons, ← hd]; exact h3

theorem dig_can (n : Nat) : Can (dig n) := ⟨(dig_spec n).1,(dig_spec n).2.2.1⟩
theorem val_dig (n : Nat) : val (dig n) = n := (dig_spec n).2.1
theorem dig_nil {n : Nat} : dig n = [] ↔ n = 0 := (dig_spec n).2.2.2

theorem Can.tail {x : Int} {l : List Int} (h : Can (x :: l)) : Can l := by
 refine ⟨h.1.tail, ?_⟩
 cases l with
 | nil => simp
 | cons y l => have := h.2; rwa [List.getLast?_cons_cons] at this

theorem Can.eq_dig {l : List Int} (h : Can l) : l = dig (val l).toNat := by
 induction l with
 | nil => rfl
 | cons x l ih =>
  have h1 := ih h.tail
  have hx := h.1.head
  have hv := val_nonneg h.1.tail
  have hne : val (x :: l) ≠ 0 := by
   rw [val]
   intro e
   have hx0 : x = 0 := by omega
   have hv0 : val l = 0 := by omega
   rw [hv0] at h1
   have hl : l = [] := by rw [h1]; rfl
   subst hl; subst hx0
   exact h.2 (by simp)
  have hpos : 0 ≤ val (x :: l) := val_nonneg h.1
  rw [dig_step (by omega)]
  congr 1
  ·rw [val]; omega
  ·conv => lhs; rw [h1]
   congr 1
   rw [val]; omega

theorem Can.of_val {l : List Int} (h : Can l) {n : Nat} (hn : val l = n) : l = dig n := by
 rw [h.eq_dig,hn]; simp
theorem Can.val_inj {a b : List Int} (ha : Can a) (hb : Can b) (h : val a = val b) : a = b := by
 rw [ha.eq_dig,hb.eq_dig,h]

theorem Can.len_le {l : List Int} (h : Can l) (hne : l ≠ []) : pw (l.length - 1) ≤ val l := by
 have hl : l = l.take (l.length - 1) ++ [l.getLast hne] := by
  rw [← List.dropLast_eq_take,List.dropLast_concat_getLast]
 have hlast := h.1 (l.getLast hne) (List.getLast_mem hne)
 have hnz : l.getLast hne ≠ 0 := fun e => h.2 (by rw [List.getLast?_eq_some_getLast hne,e])
 have hlen : (l.take (l.length - 1)).length = l.length - 1 := by rw [List.length_take]; omega
 have hv : val l = val (l.take (l.length - 1)) + pw (l.length - 1) * l.getLast hne := by
  conv => lhs; rw [hl]
  rw [val_snoc,hlen]
 have h0 := val_nonneg (h.1.take (l.length - 1))
 have hp := pw_pos (l.length - 1)
 have : pw (l.length - 1) * 1 ≤ pw (l.length - 1) * l.getLast hne := Int.mul_le_mul_of_nonneg_left (by omega) (Int.le_of_lt hp)
 omega
theorem Can.lt_of_len {a b : List Int} (ha : Lims a) (hb : Can b) (h : a.length < b.length) : val a < val b := by
 have h1 := val_lt ha
 have h2 := hb.len_le (by intro e; rw [e] at h; simp at h)
 have h3 := pw_mono (show a.length ≤ b.length - 1 by omega)
 omega
theorem Can.pos {l : List Int} (h : Can l) (hne : l ≠ []) : 0 < val l := by
 have := h.len_le hne; have := pw_pos (l.length - 1); omega
def trim (l : List Int) : List Int := (l.reverse.dropWhile (· == 0)).reverse
theorem trim_snoc_zero (l : List Int) : trim (l ++ [0]) = trim l := by unfold trim; simp
theorem trim_snoc {l : List Int} {x : Int} (h : x ≠ 0) : trim (l ++ [x]) = l ++ [x] := by unfold trim; simp [h]
theorem trim_spec (l : List Int) : (∃ n,l = trim l ++ List.replicate n 0) ∧ (trim l).getLast? ≠ some 0 := by
 induction h : l.length generalizing l with
 | zero =>
  have : l = [] := List.eq_nil_of_length_eq_zero h
  subst this
  exact ⟨⟨0,rfl⟩,by simp [trim]⟩
 | succ n ih =>
  have hne : l ≠ [] := by intro e; subst e; simp at h
  have hl : l = l.dropLast ++ [l.getLast hne] := (List.dropLast_concat_getLast hne).symm
  by_cases hz : l.getLast hne = 0
  ·rw [hz] at hl
   obtain ⟨⟨m,hm⟩,h2⟩ := ih l.dropLast (by rw [List.length_dropLast]; omega)
   have e : trim l = trim l.dropLast := by conv => lhs; rw [hl]
                                           exact trim_snoc_zero _
   refine ⟨⟨m + 1, ?_⟩,by rw [e]; exact h2⟩
   rw [e,List.replicate_succ', ← List.append_assoc, ← hm]
   exact hl
  ·have e : trim l = l := by conv => lhs; rw [hl]
                             rw [trim_snoc hz]; exact hl.symm
   refine ⟨⟨0,by simp [e]⟩, ?_⟩
   rw [e,List.getLast?_eq_some_getLast hne]
   simpa using hz
theorem val_trim (l : List Int) : val (trim l) = val l := by
 obtain ⟨⟨n,h⟩, _⟩ := trim_spec l
 conv => rhs; rw [h]
 rw [val_append,val_replicate]; simp
theorem Can.trim {l : List Int} (h : Lims l) : Can (trim l) := by
 obtain ⟨⟨n,e⟩,h2⟩ := trim_spec l
 exact ⟨by rw [e] at h; exact h.left,h2⟩
theorem trim_dig {l : List Int} (h : Lims l) {n : Nat} (hn : val l = n) : trim l = dig n := (Can.trim h).of_val (by rw [val_trim,hn])
theorem Can.trim_eq {l : List Int} (h : Can l) : XN.trim l = l := (Can.trim h.1).val_inj h (val_trim l)
theorem trim_take (l : List Int) : trim l = l.take (trim l).length := by
 obtain ⟨⟨n,e⟩, _⟩ := trim_spec l
 conv => rhs; arg 2; rw [e]
 simp

theorem val_cmp_step {a b : List Int} (ha : Lims a) (hb : Lims b) {k : Nat} {x y : Int} (hx : a[k]? = some x) (hy : b[k]? = some y) (he : a.drop (k + 1) = b.drop (k + 1)) (hlen : a.length = b.length) :
  (x < y → val a < val b) ∧ (y < x → val b < val a) := by
 have hka := (List.getElem?_eq_some_iff.1 hx).1
 have hkb := (List.getElem?_eq_some_iff.1 hy).1
 have h1 := val_split a k (by omega)
 have h2 := val_split b k (by omega)
 rw [val_drop_step hx] at h1
 rw [val_drop_step hy, ← he] at h2
 have h3 := val_lt (ha.take k); have h4 := val_nonneg (ha.take k)
 have h5 := val_lt (hb.take k); have h6 := val_nonneg (hb.take k)
 rw [List.length_take,Nat.min_eq_left (by omega)] at h3 h5
 have hp := pw_pos k
 constructor
 ·intro hxy
  have : pw k * (x + 1) ≤ pw k * y := Int.mul_le_mul_of_nonneg_left (by omega) (Int.le_of_lt hp)
  grind
 ·intro hxy
  have : pw k * (y + 1) ≤ pw k * x := Int.mul_le_mul_of_nonneg_left (by omega) (Int.le_of_lt hp)
  grind
theorem dig_len {n k : Nat} (h : (n : Int) < pw k) : (dig n).length ≤ k := by
 rcases Nat.lt_or_ge k (dig n).length with h1 | h1
 ·have hne : dig n ≠ [] := by intro e; rw [e] at h1; simp at h1
  have h2 := (dig_can n).len_le hne
  rw [val_dig] at h2
  have := pw_mono (show k ≤ (dig n).length - 1 by omega)
  omega
 ·exact h1
theorem pw_vals : pw 1 = 1000000000 ∧ pw 2 = 1000000000000000000 ∧ pw 3 = 1000000000000000000000000000 := by
 refine ⟨?_, ?_, ?_⟩ <;> (unfold pw; rfl)
def sgn (n : Int) : Int := if n < 0 then -1 else if 0 < n then 1 else 0

end Go.XN

/- Sums,differences,products,quotients limb by limb: plain mathematics. -/
namespace Go.XN

theorem carry_out {out : List Int} {k : Nat} (hl : out.length = k) (s : Int) : val (out ++ [s % 1000000000]) + pw (k + 1) * (s / 1000000000) = val out + pw k * s := by
 rw [val_snoc,hl,pw_succ]
 have : s = 1000000000 * (s / 1000000000) + s % 1000000000 := by omega
 generalize s / 1000000000 = q at *
 generalize s % 1000000000 = r at *
 subst this
 grind

theorem Can.of_len {l : List Int} (h : Lims l) (hv : l ≠ [] → pw (l.length - 1) ≤ val l) : Can l := by
 refine ⟨h,fun e => ?_⟩
 have hne : l ≠ [] := by intro e'; subst e'; simp at e
 have h1 := hv hne
 have hl : l = l.take (l.length - 1) ++ [0] := by
  conv => lhs; rw [← List.dropLast_concat_getLast hne]
  rw [List.dropLast_eq_take]
  rw [List.getLast?_eq_some_getLast hne] at e
  rw [Option.some.inj e]
 have h2 := val_lt (h.take (l.length - 1))
 rw [List.length_take] at h2
 rw [hl,val_snoc] at h1
 have h3 := pw_mono (show min (l.length - 1) l.length ≤ l.length - 1 by omega)
 have h4 : (List.take (l.length - 1) l ++ [(0 : Int)]).length - 1 = l.length - 1 := by rw [← hl]
 rw [h4] at h1
 omega

theorem Lims.snoc {l : List Int} {x : Int} (h : Lims l) (h0 : 0 ≤ x) (h1 : x < 1000000000) : Lims (l ++ [x]) := h.append (Lims.one h0 h1)
theorem Can.snoc {l : List Int} {x : Int} (h : Lims l) (h0 : 0 < x) (h1 : x < 1000000000) : Can (l ++ [x]) := ⟨h.snoc (by omega) h1,by simp; omega⟩

theorem add_end {xs out : List Int} {c V : Int} (hx : Can xs) (ho : Lims out) (hl : out.length = xs.length) (hv : val out + pw xs.length * c = val xs + V) (hV : 0 ≤ V) (h0 : 0 ≤ c) (h1 : c < 1000000000) :
  (if 0 < c then out ++ [c] else out) = dig (val xs + V).toNat := by
 have hvx := val_nonneg hx.1
 split
 ·rename_i hc
  refine (Can.snoc ho hc h1).of_val ?_
  rw [val_snoc,hl,hv]; omega
 ·rename_i hc
  have : c = 0 := by omega
  subst this
  rw [Int.mul_zero,Int.add_zero] at hv
  refine (Can.of_len ho fun hne => ?_).of_val (by rw [hv]; omega)
  have hxne : xs ≠ [] := by intro e; apply hne; apply List.eq_nil_of_length_eq_zero; rw [hl,e]; rfl
  have := hx.len_le hxne
  rw [hl,hv]; omega
end Go.XN

/- Limbs that are set in place; rows of zeros; bounds of products. Plain mathematics. -/
namespace Go.XN
open Go.XB

theorem val_set {l : List Int} {j : Nat} {x : Int} (h : l[j]? = some x) (u : Int) : val (l.set j u) = val l + pw j * (u - x) := by
 induction l generalizing j with
 | nil => simp at h
 | cons a l ih =>
  cases j with
  | zero =>
   simp at h
   subst h
   rw [List.set_cons_zero,val,val,pw_zero]; omega
  | succ j =>
   rw [List.set_cons_succ,val,val,ih (by simpa using h),pw_succ]
   grind
theorem Lims.set {l : List Int} (h : Lims l) (j : Nat) {u : Int} (h0 : 0 ≤ u) (h1 : u < 1000000000) : Lims (l.set j u) := fun y hy => by
 rcases List.mem_or_eq_of_mem_set hy with hy | rfl
 ·exact h y hy
 ·exact ⟨h0,h1⟩
theorem Lims.zeros (n : Nat) : Lims (List.replicate n 0) := fun y hy => by rw [List.eq_of_mem_replicate hy]; omega
theorem Lims.num {l : List Int} (h : Lims l) {j : Nat} (hj : j < l.length) : ∃ x,l[j]? = some x ∧ 0 ≤ x ∧ x < 1000000000 :=
 ⟨_,List.getElem?_eq_getElem hj,h _ (List.getElem_mem hj)⟩
theorem mul_lim {x y : Int} (hx0 : 0 ≤ x) (hx : x < 1000000000) (hy0 : 0 ≤ y) (hy : y < 1000000000) : 0 ≤ x * y ∧ x * y ≤ 999999998000000001 := by
 refine ⟨Int.mul_nonneg hx0 hy0, ?_⟩
 have h1 : x * y ≤ 999999999 * y := Int.mul_le_mul_of_nonneg_right (by omega) hy0
 omega

theorem mul_step {l : List Int} {j : Nat} {x : Int} (h : l[j]? = some x) {t : Int} {V c : Int} (hv : val l + pw j * c = V) : val (l.set j (t % 1000000000)) + pw (j + 1) * (t / 1000000000) = V + pw j * (t - x - c) := by
 rw [val_set h,pw_succ]
 have : t = 1000000000 * (t / 1000000000) + t % 1000000000 := by omega
 generalize t / 1000000000 = q at *
 generalize t % 1000000000 = r at *
 subst this
 grind
end Go.XN
namespace Go.XB
theorem zeros_row (n : Nat) : (madeCells (Value.int .i64 0).cells (n * 1)).toList = (List.replicate n (0 : Int)).map (.int .i64) := by
 rw [List.map_replicate]
 refine List.eq_replicate_iff.2 ⟨by simp [size_madeCells],fun b hb => ?_⟩
 simp only [madeCells,Array.toList_map,List.mem_map] at hb
 obtain ⟨a, _,rfl⟩ := hb
 have : (Value.int .i64 0).cells = #[.int .i64 0] := rfl
 rw [this]
 simp [Nat.mod_one]
end Go.XB

/- Quotients limb by limb: plain mathematics. -/
namespace Go.XN
open Go.XB

theorem quo_lim {r x d : Int} (hd : 0 < d) (hr0 : 0 ≤ r) (hr : r < d) (hx0 : 0 ≤ x) (hx : x < 1000000000) :
  0 ≤ (r * 1000000000 + x) / d ∧ (r * 1000000000 + x) / d < 1000000000 ∧ 0 ≤ (r * 1000000000 + x) % d ∧ (r * 1000000000 + x) % d < d :=
 ⟨Int.ediv_nonneg (by omega) (by omega),Int.ediv_lt_of_lt_mul hd (by omega),Int.emod_nonneg _ (by omega),Int.emod_lt_of_pos _ hd⟩

theorem drop_set {l : List Int} {j : Nat} (hj : j < l.length) (u : Int) : (l.set j u).drop j = u :: l.drop (j + 1) := by
 rw [List.drop_eq_getElem_cons (by simpa using hj),List.drop_set_of_lt (by omega)]
 simp
theorem div_step {l xs : List Int} {j : Nat} {x r d : Int} (hj : j < l.length) (hx : xs[j]? = some x) (h : val (l.drop (j + 1)) * d + r = val (xs.drop (j + 1))) :
  val ((l.set j ((r * 1000000000 + x) / d)).drop j) * d + (r * 1000000000 + x) % d = val (xs.drop j) := by
 rw [drop_set hj,val,val_drop_step hx, ← h]
 have := Int.mul_ediv_add_emod (r * 1000000000 + x) d
 generalize (r * 1000000000 + x) / d = q at *
 generalize (r * 1000000000 + x) % d = s at *
 grind
theorem div_of {a q r d : Int} (hd : 0 < d) (h : q * d + r = a) (h0 : 0 ≤ r) (h1 : r < d) : a / d = q ∧ a % d = r := by
 refine (Int.ediv_emod_unique hd).2 ⟨?_,h0,h1⟩
 rw [Int.mul_comm]; omega
end Go.XN

/- The estimate of a quotient's limb (Knuth's algorithm D): plain mathematics. -/
namespace Go.XN
open Go.XB

section
variable {U V P F top u0 v1 v2 q rest m1 m2 l1 l2 : Int}

theorem est_first (hP : 0 < P) (hF : 0 < F) (hU : U = l1 + P * (1000000000 * F) * top) (hl1 : l1 < P * (1000000000 * F)) (hV : V = m1 + 1000000000 * F * v1) (hm1 : 0 ≤ m1) (_hv1 : 0 < v1)
  (hq0 : 0 ≤ q) (hq : top < (q + 1) * v1) : U < (q + 1) * (V * P) := by
 have hC : 0 < P * (1000000000 * F) := Int.mul_pos hP (by omega)
 generalize hc : P * (1000000000 * F) = C at *
 have h1 : C * (top + 1) ≤ C * ((q + 1) * v1) := Int.mul_le_mul_of_nonneg_left (by omega) (by omega)
 have h2 : 0 ≤ (q + 1) * (m1 * P) := Int.mul_nonneg (by omega) (Int.mul_nonneg hm1 (by omega))
 have h3 : (q + 1) * (V * P) = (q + 1) * (m1 * P) + C * ((q + 1) * v1) := by rw [hV, ← hc]; grind
 have h4 : C * (top + 1) = C * top + C := by grind
 omega

theorem est_step (hP : 0 < P) (hF : 0 < F) (hU : U = l2 + P * F * (u0 + 1000000000 * top)) (hl2 : l2 < P * F) (hV : V = m2 + F * (v2 + 1000000000 * v1)) (hm2 : 0 ≤ m2)
  (hq0 : 0 ≤ q) (hr : rest = top - q * v1) (ht : rest * 1000000000 + u0 < q * v2) : U < q * (V * P) := by
 have hC : 0 < P * F := Int.mul_pos hP hF
 generalize hc : P * F = C at *
 have h1 : C * (u0 + 1000000000 * top + 1) ≤ C * (q * v2 + 1000000000 * (q * v1)) := Int.mul_le_mul_of_nonneg_left (by omega) (by omega)
 have h2 : 0 ≤ q * (m2 * P) := Int.mul_nonneg hq0 (Int.mul_nonneg hm2 (by omega))
 have h3 : q * (V * P) = q * (m2 * P) + C * (q * v2 + 1000000000 * (q * v1)) := by rw [hV, ← hc]; grind
 have h4 : C * (u0 + 1000000000 * top + 1) = C * (u0 + 1000000000 * top) + C := by grind
 omega

theorem est_last (hP : 0 < P) (hF : 0 < F) (hU1 : U = l1 + P * (1000000000 * F) * top) (hl1 : 0 ≤ l1) (hU2 : U = l2 + P * F * (u0 + 1000000000 * top)) (hl2 : 0 ≤ l2)
  (hV1 : V = m1 + 1000000000 * F * v1) (hm0 : 0 ≤ m1) (hm1 : m1 < 1000000000 * F) (hV2 : V = m2 + F * (v2 + 1000000000 * v1)) (hm2 : m2 < F) (hv1 : 0 < v1)
  (hq0 : 0 ≤ q) (hq1 : q < 1000000000) (hr : rest = top - q * v1) (ht : 1000000000 ≤ rest ∨ q * v2 ≤ rest * 1000000000 + u0) : (q - 1) * (V * P) ≤ U := by
 have hVP : 0 ≤ V * P := Int.mul_nonneg (by rw [hV1]; have := Int.mul_nonneg (show (0 : Int) ≤ 1000000000 * F by omega) (Int.le_of_lt hv1); omega) (by omega)
 rcases ht with ht | ht
 ·have hC : 0 < P * (1000000000 * F) := Int.mul_pos hP (by omega)
  have h0 : q * (m1 * P) ≤ q * (1000000000 * F * P) := Int.mul_le_mul_of_nonneg_left (Int.mul_le_mul_of_nonneg_right (by omega) (by omega)) hq0
  have h1 : P * (1000000000 * F) * (q + q * v1) ≤ P * (1000000000 * F) * top := Int.mul_le_mul_of_nonneg_left (by omega) (by omega)
  have h3 : q * (V * P) = q * (m1 * P) + P * (1000000000 * F) * (q * v1) := by rw [hV1]; grind
  have h4 : P * (1000000000 * F) * (q + q * v1) = q * (1000000000 * F * P) + P * (1000000000 * F) * (q * v1) := by grind
  have h5 : (q - 1) * (V * P) = q * (V * P) - V * P := by grind
  omega
 ·have hC : 0 < P * F := Int.mul_pos hP hF
  have h0 : q * (m2 * P) ≤ q * (F * P) := Int.mul_le_mul_of_nonneg_left (Int.mul_le_mul_of_nonneg_right (by omega) (by omega)) hq0
  have h1 : P * F * (q * v2 + 1000000000 * (q * v1)) ≤ P * F * (u0 + 1000000000 * top) := Int.mul_le_mul_of_nonneg_left (by omega) (by omega)
  have h3 : q * (V * P) = q * (m2 * P) + P * F * (q * v2 + 1000000000 * (q * v1)) := by rw [hV2]; grind
  have h6 : q * (F * P) ≤ 1000000000 * (F * P) := Int.mul_le_mul_of_nonneg_right (by omega) (by rw [Int.mul_comm]; omega)
  have h7 : 1000000000 * F * 1 ≤ 1000000000 * F * v1 := Int.mul_le_mul_of_nonneg_left (by omega) (by omega)
  have h8 : 1000000000 * F * P ≤ V * P := Int.mul_le_mul_of_nonneg_right (by omega) (by omega)
  have h9 : 1000000000 * (F * P) = 1000000000 * F * P := by grind
  have h5 : (q - 1) * (V * P) = q * (V * P) - V * P := by grind
  omega
end
end Go.XN

/- A number by its top limbs. Plain mathematics. -/
namespace Go.XN
open Go.XB

theorem drop_zero_of_lt {l : List Int} (h : Lims l) {i : Nat} (hi : i ≤ l.length) (hU : val l < pw i) : val (l.drop i) = 0 := by
 have h1 := val_split l i hi
 have h2 := val_nonneg (h.drop i)
 have h3 := val_nonneg (h.take i)
 have h4 := pw_pos i
 rcases Int.lt_or_le 0 (val (l.drop i)) with h5 | h5
 ·have : pw i * 1 ≤ pw i * val (l.drop i) := Int.mul_le_mul_of_nonneg_left (by omega) (by omega)
  omega
 ·omega
theorem top2 {l : List Int} (h : Lims l) {i : Nat} {x y : Int} (hx : l[i]? = some x) (hy : l[i + 1]? = some y) (hU : val l < pw (i + 2)) : val l = val (l.take i) + pw i * (x + 1000000000 * y) := by
 have hl := (List.getElem?_eq_some_iff.1 hy).1
 have h1 := val_split l (i + 2) (by omega)
 rw [drop_zero_of_lt h (by omega) hU,val_take_step hy,val_take_step hx,pw_succ] at h1
 rw [h1]; grind
theorem top3 {l : List Int} (h : Lims l) {i : Nat} {z x y : Int} (hz : l[i]? = some z) (hx : l[i + 1]? = some x) (hy : l[i + 2]? = some y) (hU : val l < pw (i + 3)) : val l = val (l.take i) + pw i * (z + 1000000000 * (x + 1000000000 * y)) := by
 rw [top2 h hx hy hU,val_take_step hz,pw_succ]; grind
theorem take_lt {l : List Int} (h : Lims l) (i : Nat) (hi : i ≤ l.length) : 0 ≤ val (l.take i) ∧ val (l.take i) < pw i := by
 refine ⟨val_nonneg (h.take i), ?_⟩
 have := val_lt (h.take i)
 rwa [List.length_take,Nat.min_eq_left hi] at this
theorem still_lt {l l' : List Int} (h : Lims l) (h' : Lims l') {i : Nat} (hi : i ≤ l.length) (hl : l'.length = l.length) (he : ∀ k,i ≤ k → l'[k]? = l[k]?) (hU : val l < pw i) : val l' < pw i := by
 have e : l'.drop i = l.drop i := by
  apply List.ext_getElem?
  intro k
  rw [List.getElem?_drop,List.getElem?_drop,he _ (by omega)]
 have h1 := val_split l' i (by omega)
 rw [e,drop_zero_of_lt h hi hU] at h1
 have := (take_lt h' i (by omega)).2
 omega
theorem add_tells {X W r : Int} {hi : Nat} (hr : 0 ≤ r ∧ r ≤ 1) (h : W = X + pw hi - pw hi * r) (h0 : 0 ≤ X) (h1 : W < pw hi) : W = X := by
 rcases (show r = 0 ∨ r = 1 by omega) with rfl | rfl
 ·omega
 ·omega
theorem scale_lt {ys : List Int} (h : Can ys) {m : Nat} {t : Int} (hl : ys.length = m + 1) (ht : ys[m]? = some t) :
  0 < 1000000000 / (t + 1) ∧ 1000000000 / (t + 1) < 1000000000 ∧ val ys * (1000000000 / (t + 1)) < pw (m + 1) ∧ 0 < t ∧ t < 1000000000 := by
 have htl := h.1.get ht
 have ht0 : 0 < t := by
  have hne : ys ≠ [] := by intro e; subst e; simp at hl
  have h1 := h.2
  rw [List.getLast?_eq_getElem?,hl,Nat.add_sub_cancel,ht] at h1
  have : t ≠ 0 := fun e => h1 (by rw [e])
  omega
 have h0 : 1 ≤ 1000000000 / (t + 1) := Int.le_ediv_of_mul_le (by omega) (by omega)
 have h1 : 0 < 1000000000 / (t + 1) := by omega
 have h2 : 1000000000 / (t + 1) * (t + 1) ≤ 1000000000 := Int.ediv_mul_le _ (by omega)
 have h3 : 1000000000 / (t + 1) < 1000000000 := Int.ediv_lt_of_lt_mul (by omega) (by omega)
 refine ⟨h1,h3, ?_,ht0,htl.2⟩
 generalize 1000000000 / (t + 1) = b at *
 have h4 := val_take_step ht
 rw [List.take_of_length_le (by omega)] at h4
 have h5 := (take_lt h.1 m (by omega)).2
 have h6 : val ys * b < pw m * (t + 1) * b := Int.mul_lt_mul_of_pos_right (by rw [h4]; grind) h1
 have h7 : pw m * (b * (t + 1)) ≤ pw m * 1000000000 := Int.mul_le_mul_of_nonneg_left h2 (Int.le_of_lt (pw_pos m))
 rw [pw_succ]
 have h8 : pw m * (t + 1) * b = pw m * (b * (t + 1)) := by grind
 have h9 : pw m * 1000000000 = 1000000000 * pw m := by grind
 omega
end Go.XN

/- The round of the long division: plain mathematics. -/
namespace Go.XN
open Go.XB

structure Dig3 (zs vs : List Int) (j p : Nat) (u0 top v1 v2 : Int) : Prop where
 lz : Lims zs
 lv : Lims vs
 z : ∃ u1 u2,zs[j + p]? = some u0 ∧ zs[j + p + 1]? = some u1 ∧ zs[j + p + 2]? = some u2 ∧ u2 * 1000000000 + u1 = top
 w2 : vs[p]? = some v2
 w1 : vs[p + 1]? = some v1
 vl : vs.length = p + 2
 v1p : 0 < v1
 up : val zs < val vs * pw (j + 1)

section
variable {zs vs : List Int} {j p : Nat} {u0 top v1 v2 : Int}

theorem Dig3.lt (h : Dig3 zs vs j p u0 top v1 v2) : val zs < pw (j + p + 3) := by
 have h1 := h.up
 have h2 : val vs < pw (p + 2) := by have := val_lt h.lv; rwa [h.vl] at this
 have h3 : val vs * pw (j + 1) < pw (p + 2) * pw (j + 1) := Int.mul_lt_mul_of_pos_right h2 (pw_pos _)
 rw [← pw_add,show p + 2 + (j + 1) = j + p + 3 by omega] at h3
 omega
theorem Dig3.zl (h : Dig3 zs vs j p u0 top v1 v2) : j + p + 2 < zs.length := by
 obtain ⟨u1,u2, _, _,h2, _⟩ := h.z
 exact (List.getElem?_eq_some_iff.1 h2).1
theorem Dig3.eu1 (h : Dig3 zs vs j p u0 top v1 v2) : val zs = val (zs.take (j + p + 1)) + pw j * (1000000000 * pw p) * top ∧ 0 ≤ val (zs.take (j + p + 1)) ∧ val (zs.take (j + p + 1)) < pw j * (1000000000 * pw p) := by
 obtain ⟨u1,u2,h0,h1,h2,e⟩ := h.z
 have hl := h.zl
 have hb := take_lt h.lz (j + p + 1) (by omega)
 rw [pw_succ,pw_add] at hb
 refine ⟨?_,hb.1,by have := hb.2; grind⟩
 rw [← e,top2 h.lz h1 h2 h.lt,pw_succ,pw_add]; grind
theorem Dig3.eu2 (h : Dig3 zs vs j p u0 top v1 v2) : val zs = val (zs.take (j + p)) + pw j * pw p * (u0 + 1000000000 * top) ∧ 0 ≤ val (zs.take (j + p)) ∧ val (zs.take (j + p)) < pw j * pw p := by
 obtain ⟨u1,u2,h0,h1,h2,e⟩ := h.z
 have hl := h.zl
 have hb := take_lt h.lz (j + p) (by omega)
 rw [pw_add] at hb
 refine ⟨?_,hb.1,hb.2⟩
 rw [← e,top3 h.lz h0 h1 h2 h.lt,pw_add]; grind
theorem Dig3.ev1 (h : Dig3 zs vs j p u0 top v1 v2) : val vs = val (vs.take (p + 1)) + 1000000000 * pw p * v1 ∧ 0 ≤ val (vs.take (p + 1)) ∧ val (vs.take (p + 1)) < 1000000000 * pw p := by
 have h4 := val_take_step h.w1
 rw [List.take_of_length_le (Nat.le_of_eq h.vl),pw_succ] at h4
 have hb := take_lt h.lv (p + 1) (by rw [h.vl]; omega)
 rw [pw_succ] at hb
 exact ⟨h4,hb⟩
theorem Dig3.ev2 (h : Dig3 zs vs j p u0 top v1 v2) : val vs = val (vs.take p) + pw p * (v2 + 1000000000 * v1) ∧ 0 ≤ val (vs.take p) ∧ val (vs.take p) < pw p := by
 refine ⟨?_,take_lt h.lv p (by rw [h.vl]; omega)⟩
 rw [h.ev1.1,val_take_step h.w2]; grind
theorem Dig3.top_lim (h : Dig3 zs vs j p u0 top v1 v2) : 0 ≤ top ∧ top ≤ 999999999999999999 := by
 obtain ⟨u1,u2,h0,h1,h2,e⟩ := h.z
 have := h.lz.get h1
 have := h.lz.get h2
 omega
theorem Dig3.start (h : Dig3 zs vs j p u0 top v1 v2) {q : Int} (hq : (q = top / v1 ∧ top / v1 < 999999999) ∨ (q = 999999999 ∧ 999999999 ≤ top / v1)) :
  (0 ≤ q ∧ q ≤ 999999999) ∧ (0 ≤ q * v1 ∧ q * v1 ≤ top) ∧ val zs < (q + 1) * (val vs * pw j) := by
 have hv := h.v1p
 have qm := Int.ediv_mul_le top (show v1 ≠ 0 by omega)
 have qn := Int.ediv_nonneg h.top_lim.1 (show 0 ≤ v1 by omega)
 rcases hq with ⟨rfl,hq⟩ | ⟨rfl,hq⟩
 ·refine ⟨⟨qn,by omega⟩,⟨Int.mul_nonneg qn (by omega),qm⟩, ?_⟩
  exact est_first (pw_pos j) (pw_pos p) h.eu1.1 h.eu1.2.2 h.ev1.1 h.ev1.2.1 hv qn (Int.lt_ediv_add_one_mul_self top hv)
 ·have h1 : 999999999 * v1 ≤ top / v1 * v1 := Int.mul_le_mul_of_nonneg_right hq (by omega)
  refine ⟨by omega,⟨by omega,by omega⟩, ?_⟩
  have := h.up
  rw [pw_succ] at this
  grind
theorem Dig3.step (h : Dig3 zs vs j p u0 top v1 v2) {q rest : Int} (hq0 : 0 ≤ q) (hr : rest = top - q * v1) (ht : rest * 1000000000 + u0 < q * v2) : rest + v1 = top - (q - 1) * v1 ∧ val zs < (q - 1 + 1) * (val vs * pw j) := by
 refine ⟨by rw [hr]; grind, ?_⟩
 rw [show q - 1 + 1 = q by omega]
 exact est_step (pw_pos j) (pw_pos p) h.eu2.1 h.eu2.2.2 h.ev2.1 h.ev2.2.1 hq0 hr ht
theorem Dig3.last (h : Dig3 zs vs j p u0 top v1 v2) {q rest : Int} (hq0 : 0 ≤ q) (hq1 : q ≤ 999999999) (hr : rest = top - q * v1) (ht : 1000000000 ≤ rest ∨ q * v2 ≤ rest * 1000000000 + u0) : (q - 1) * (val vs * pw j) ≤ val zs :=
 est_last (pw_pos j) (pw_pos p) h.eu1.1 h.eu1.2.1 h.eu2.1 h.eu2.2.1 h.ev1.1 h.ev1.2.1 h.ev1.2.2 h.ev2.1 h.ev2.2.2 h.v1p hq0 (by omega) hr ht
theorem Dig3.done0 (_h : Dig3 zs vs j p u0 top v1 v2) {q : Int} {z1 : List Int} (hU : val zs < (q + 1) * (val vs * pw j)) (hl : Lims z1) (hv : val z1 = val zs - pw j * (q * val vs) + pw (j + (p + 2) + 1) * 0) : val z1 = val zs - val vs * (pw j * q) ∧ 0 ≤ val z1 ∧ val z1 < val vs * pw j := by
 have := val_nonneg hl
 refine ⟨by rw [hv]; grind,this, ?_⟩
 have e : val z1 = val zs - pw j * (q * val vs) := by omega
 rw [e]
 have : (q + 1) * (val vs * pw j) = pw j * (q * val vs) + val vs * pw j := by grind
 omega
theorem Dig3.done1 (h : Dig3 zs vs j p u0 top v1 v2) {q cy : Int} {z1 z2 : List Int} (hL : (q - 1) * (val vs * pw j) ≤ val zs) (hl : Lims z1) (hv : val z1 = val zs - pw j * (q * val vs) + pw (j + (p + 2) + 1) * 1) (hn : z1.length = zs.length) (ho : ∀ k,j + (p + 2) + 1 ≤ k → z1[k]? = zs[k]?)
  (hl2 : Lims z2) (hc : 0 ≤ cy ∧ cy ≤ 1) (hv2 : val z2 = val z1 + pw j * val vs - pw (j + (p + 2) + 1) * cy) (hn2 : z2.length = z1.length) (ho2 : ∀ k,j + (p + 2) + 1 ≤ k → z2[k]? = z1[k]?) :
  val z2 = val zs - val vs * (pw j * (q - 1)) ∧ 0 ≤ val z2 ∧ val z2 < val vs * pw j := by
 have hz := h.zl
 have b0 := h.lt
 rw [show j + p + 3 = j + (p + 2) + 1 by omega] at b0
 have b1 := still_lt h.lz hl (i := j + (p + 2) + 1) (by omega) hn ho b0
 have b2 := still_lt hl hl2 (i := j + (p + 2) + 1) (by omega) hn2 ho2 b1
 have n2 := val_nonneg hl2
 have e1 : (q - 1) * (val vs * pw j) = pw j * (q * val vs) - val vs * pw j := by grind
 have e2 : pw j * val vs = val vs * pw j := Int.mul_comm _ _
 have key : val z2 = val zs - pw j * (q * val vs) + val vs * pw j := add_tells (hi := j + (p + 2) + 1) hc (by rw [hv2,hv,e2,Int.mul_one]; omega) (by omega) b2
 refine ⟨by rw [key]; grind,n2, ?_⟩
 omega
theorem quo_set {os : List Int} {X V q z z1 : Int} {j : Nat} (hj : j < os.length) (h : z = X - V * (pw (j + 1) * val (os.drop (j + 1)))) (h1 : z1 = z - V * (pw j * q)) : z1 = X - V * (pw j * val ((os.set j q).drop j)) := by
 rw [h1,h,drop_set hj,val,pw_succ]; grind
end
theorem top_pos {ys vs : List Int} {p : Nat} {f v1 : Int} (hy : Can ys) (ly : ys.length = p + 2) (lv : Lims vs) (hl : vs.length = p + 2) (hv : val vs = val ys * f) (hf : 0 < f) (h1 : vs[p + 1]? = some v1) : 0 < v1 := by
 have h2 := hy.len_le (by intro e; rw [e] at ly; simp at ly)
 rw [ly,show p + 2 - 1 = p + 1 from rfl] at h2
 have h3 : val ys * 1 ≤ val ys * f := Int.mul_le_mul_of_nonneg_left (by omega) (val_nonneg hy.1)
 have h4 := val_take_step h1
 rw [List.take_of_length_le (Nat.le_of_eq hl)] at h4
 have h5 := (take_lt lv (p + 1) (by omega)).2
 have h6 := (lv.get h1).1
 rcases Int.lt_or_le 0 v1 with h | h
 ·exact h
 ·have : v1 = 0 := by omega
  subst this
  omega
end Go.XN

/- Fractions of limbs: the plain mathematics. What each function of the program and of the reference returns,as one plain function. -/
namespace Go.XN
open Go.XB

def natOkB (a : List Int) : Bool := decide (a.length ≤ 60) && (a.all (fun x => decide (0 ≤ x ∧ x < 1000000000)) && decide (a.getLast? ≠ some 0))
theorem natOkB_iff {a : List Int} : natOkB a = true ↔ a.length ≤ 60 ∧ Can a := by
 unfold natOkB Can Lims; simp [List.all_eq_true]
def bigOkB (x : TBigInt) : Bool := natOkB x.mag && (!x.neg || !x.mag.isEmpty)
def ival (x : TBigInt) : Int := if x.neg then -val x.mag else val x.mag
def encI (n : Int) : TBigInt := ⟨decide (n < 0),dig n.natAbs⟩

theorem Can.dig_natAbs {l : List Int} (h : Can l) : dig (val l).natAbs = l := by
 have e : (val l).natAbs = (val l).toNat := by have := val_nonneg h.1; omega
 rw [e]; exact h.eq_dig.symm
theorem ival_natAbs {x : TBigInt} : (ival x).natAbs = (val x.mag).natAbs := by unfold ival; split <;> simp
theorem sign_enc {neg : Bool} {mag : List Int} {v : Int} (hm : Can mag) (hv : v = if neg then -val mag else val mag) : (⟨neg && !mag.isEmpty,mag⟩ : TBigInt) = encI v := by
 have h0 := val_nonneg hm.1
 unfold encI
 have e : dig v.natAbs = mag := by
  rw [hv]
  cases neg
  ·exact hm.dig_natAbs
  ·simpa using hm.dig_natAbs
 rw [e]
 congr 1
 cases mag with
 | nil => subst hv; cases neg <;> simp [val]
 | cons a l =>
  have hp := hm.pos (by simp)
  cases neg
  ·subst hv; simp; omega
  ·subst hv; simp; omega
theorem ival_enc (n : Int) : ival (encI n) = n := by
 unfold ival encI
 simp only [decide_eq_true_eq,val_dig]
 split <;> omega
theorem encI_can (n : Int) : Can (encI n).mag := dig_can _
theorem bigOkB_iff {x : TBigInt} : bigOkB x = true ↔ (x.mag.length ≤ 60 ∧ Can x.mag) ∧ (x.neg = true → x.mag ≠ []) := by
 unfold bigOkB
 rw [Bool.and_eq_true,natOkB_iff]
 cases x.neg <;> simp
theorem enc_ival {x : TBigInt} (h : bigOkB x = true) : encI (ival x) = x := by
 obtain ⟨⟨_,hc⟩,hn⟩ := bigOkB_iff.1 h
 have := sign_enc (neg := x.neg) hc (v := ival x) rfl
 rw [← this]
 cases x with
 | mk neg mag =>
  simp only at hn ⊢
  congr 1
  cases neg <;> simp_all

def lim24 : Nat := 1000000000 ^ 24
theorem len_le_iff {n k : Nat} : (dig n).length ≤ k ↔ (n : Int) < pw k := by
 refine ⟨fun h => ?_,dig_len⟩
 have h1 := val_lt (dig_spec n).1
 rw [val_dig] at h1
 have := pw_mono h
 omega

def ratOkB (r : TRat) : Bool := bigOkB r.num && (natOkB r.den && (!r.den.isEmpty && (decide (r.num.mag.length ≤ 24) && (decide (r.den.length ≤ 24) && decide (Int.gcd (val r.num.mag) (val r.den) = 1)))))
def zeroR : TRat := ⟨⟨false, []⟩, []⟩
theorem ratOkB_zeroR : ratOkB zeroR = false := by decide
structure RatV (r : TRat) : Prop where
 num : bigOkB r.num = true
 den : Can r.den
 den0 : 0 < val r.den
 num24 : r.num.mag.length ≤ 24
 den24 : r.den.length ≤ 24
 one : Int.gcd (val r.num.mag) (val r.den) = 1
theorem ratOkB_iff {r : TRat} : ratOkB r = true ↔ RatV r := by
 unfold ratOkB
 simp only [Bool.and_eq_true,decide_eq_true_eq,natOkB_iff,Bool.not_eq_true',List.isEmpty_eq_false_iff]
 constructor
 ·rintro ⟨h1,⟨_,h2⟩,h3,h4,h5,h6⟩
  exact ⟨h1,h2,h2.pos h3,h4,h5,h6⟩
 ·rintro ⟨h1,h2,h3,h4,h5,h6⟩
  exact ⟨h1,⟨by omega,h2⟩,by intro e; rw [e] at h3; simp [val] at h3,h4,h5,h6⟩
theorem RatV.mag {r : TRat} (h : RatV r) : Can r.num.mag := (bigOkB_iff.1 h.num).1.2

def mkR (n d : Int) : TRat :=
 if (dig (n / Int.gcd n d).natAbs).length ≤ 24 ∧ (dig (d / Int.gcd n d).natAbs).length ≤ 24 then ⟨encI (n / Int.gcd n d),dig (d / Int.gcd n d).natAbs⟩ else zeroR
def numv (r : TRat) : Int := ival r.num
def denv (r : TRat) : Int := val r.den

def radd (r s : TRat) : TRat := if ratOkB r && ratOkB s then mkR (numv r * denv s + numv s * denv r) (denv r * denv s) else zeroR
def rsub (r s : TRat) : TRat := if ratOkB r && ratOkB s then mkR (numv r * denv s - numv s * denv r) (denv r * denv s) else zeroR
def rmul (r s : TRat) : TRat := if ratOkB r && ratOkB s then mkR (numv r * numv s) (denv r * denv s) else zeroR
def rneg (r : TRat) : TRat := if ratOkB r then ⟨encI (-numv r),r.den⟩ else zeroR
def rcmpV (r s : TRat) : Int := sgn (numv r * denv s - numv s * denv r)
def rcmp (r s : TRat) : Int := if ratOkB r && ratOkB s then rcmpV r s else 0
def rsignV (r : TRat) : Int := sgn (numv r)
def rsign (r : TRat) : Int := if ratOkB r then rsignV r else 0
def rmin (r s : TRat) : TRat := if ratOkB r && ratOkB s then (if rcmpV r s ≤ 0 then r else s) else zeroR
def rmax (r s : TRat) : TRat := if ratOkB r && ratOkB s then (if 0 ≤ rcmpV r s then r else s) else zeroR
def rint (n : Int) : TRat := ⟨encI n, [1]⟩
end Go.XN
