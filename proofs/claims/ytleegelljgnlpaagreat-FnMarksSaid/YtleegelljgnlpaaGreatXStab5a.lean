/- Stable sorting, walked: symMergeCmpFunc. -/
import Derived.Test.YtleegelljgnlpaaGreatXStab4
import Derived.Deep.DeepCutAuto
import Derived.Deep.CutRange
import Derived.Deep.CutBlock
namespace Go.Proofs.YtleegelljgnlpaaGreat.X
open Go.RowKit Go.XB Go.XN Go.XS
attribute [local go_sem] fillBy opAt deps depOf Region.wanted yielded
attribute [local simp] deps depOf MP.eq MP.agg MP.sl Facts
set_option linter.constructorNameAsVariable false

/-- what is asked and given of the merge at a place, for parts of together at most N elements -/
def SymOk (base g n cap F : Nat) (pv : Value) (cf : Int → Int → Int) (le : Int → Int → Bool) (N : Nat) : Prop :=
  ∀ (a m b : Nat) (P L R Q : List Int) (w : World), b ≤ a + N → Row w base g n cap (P ++ L ++ R ++ Q) → P.length = a → a + L.length = m → m + R.length = b → 0 < L.length → 0 < R.length →
    Cmp w g n F pv cf le → (∀ x ∈ L ++ R, 0 ≤ x ∧ x < n) → (∀ x ∈ L, ∀ y ∈ R, x < y) → Srt le L → Srt le R →
    Calls Tryz.prog 79 #[.slice (some ⟨g, 0, none⟩) n cap, .int .i64 a, .int .i64 m, .int .i64 b, .func (.func F) #[] #[pv]] w (RowTo w base g n cap (P ++ (L ++ R).mergeSort le ++ Q))

/-- the Bool tells whether it holds -/
structure Tells (c : Bool) (p : Prop) : Prop where
  yes' : c = true → p
  no' : p → c = true
theorem Tells.yes {p : Prop} (h : p) : Tells true p := ⟨fun _ => h, fun _ => rfl⟩
theorem Tells.no {p : Prop} (h : ¬ p) : Tells false p := ⟨fun hf => (by cases hf), fun h' => absurd h' h⟩
theorem one_empty {le : Int → Int → Bool} (h : LinOrd le) {l m : List Int} (he : l = [] ∨ m = []) (hl : Srt le l) (hm : Srt le m) : (l ++ m).mergeSort le = l ++ m := by
  refine sort_eq h (List.Perm.refl _) ?_
  rcases he with e | e
  · subst e; simpa using hm
  · subst e; simpa using hl

/-- what follows the first part -/
def tlOf : Code → Code | .seq _ b => b | c => c

/-- the end of the merge, from its region 43 -/
noncomputable def tail43 : Code := tlOf (tlOf (tlOf (tlOf (tlOf (tlOf (tlOf (tlOf (tlOf (tlOf (tlOf ((Tryz.f79.body).getD .skip)))))))))))

set_option maxHeartbeats 8000000 in
set_option maxRecDepth 1000000 in
theorem sort_symTail43 (base g n cap F : Nat) (pv : Value) (cf : Int → Int → Int) (le : Int → Int → Bool) (_ : n ≤ 1048576) (N : Nat)
    (a m b mid s en : Nat) (P L R Q L1 L2 R1 R2 : List Int) (w wr : World) (IH : Hid (SymOk base g n cap F pv cf le N)) (HA : Hid (P.length = a)) (HC : Hid (Cmp w g n F pv cf le)) (HN : Hid (mid ≤ a + N ∧ b ≤ mid + N))
    (E : Hid ((L ++ R).mergeSort le = (L1 ++ R1).mergeSort le ++ (L2 ++ R2).mergeSort le)) (HS1 : Hid (Srt le L1 ∧ Srt le L2)) (HS2 : Hid (Srt le R1 ∧ Srt le R2))
    (HI1 : Hid ((∀ x ∈ L1 ++ R1, 0 ≤ x ∧ x < n) ∧ ∀ x ∈ L2 ++ R2, 0 ≤ x ∧ x < n)) (HU1 : Hid ((∀ x ∈ L1, ∀ y ∈ R1, x < y) ∧ ∀ x ∈ L2, ∀ y ∈ R2, x < y))
    (RW2 : Hid (Row wr base g n cap (P ++ (L1 ++ R1).mergeSort le ++ (L2 ++ R2 ++ Q)))) (GW2 : Hid (w.grownBy wr (some g)))
    (NUM : Hid ((L1.length = s - a ∧ L2.length = m - s ∧ R1.length = en - m ∧ R2.length = b - en) ∧ (en + s = mid + m ∧ a ≤ s ∧ s ≤ m ∧ s ≤ mid ∧ m ≤ en ∧ mid ≤ en ∧ en ≤ b ∧ a + 2 ≤ m ∧ m + 2 ≤ b ∧ b ≤ n)))
    (heni : (mid : Int) + m - s = en) (hsa : (a : Int) ≤ s) (hen2 : (en : Int) ≤ b) (t5 t6 t7 t8 t9 t10 t11 t12 t13 t14 t15 t16 t17 t21 t22 t23 t25 t26 t27 t28 t29 t30 t31 t32 t33 t34 t35 t36 t37 t38 t39 t40 t41 t42 t43 t44 t45 t46 t47 t48 t49 t50 t51 t52 t53 t54 t55 t56 t57 t58 t59 t60 t61 t62 t63 t64 t65 t66 t67 t68 t69 t70 t71 t72 t73 t74 t75 t76 t77 t78 t79 t80 t81 t82 t83 t84 t85 t86 t87 t88 t89 t90 t91 t92 t93 t94 t95 t96 t97 t98 t99 t100 t101 t102 t103 t104 t105 t106 t107 t108 t109 t110 t111 t112 t113 t114 t115 t116 t117 t118 t119 t120 t121 t122 t123 t124 t125 t126 t127 t128 t129 t130 t131 t132 t133 t134 t135 t136 t137 t138 t139 t140 t141 t142 t143 t144 t145 t146 t147 t148 t149 t150 t151 t152 t153 t154 t155 t156 t157 t158 t159 t160 t161 t162 t163 t164 t165 t166 t167 t168 t169 t170 t171 t172 t173 t174 t175 t176 t177 t178 t179 t180 t181 t182 t183 t184 t185 t186 t187 t188 t189 t190 t191 t192 t193 t194 t195 t196 t197 t198 t199 t200 t201 t202 t203 t204 t205 t206 t207 t208 t209 t210 t211 t212 t213 t214 t215 t216 t217 t218 t219 : Value) :
    Code.wp Tryz.prog tail43 (bodyPost Tryz.prog Tryz.f79 (RowTo w base g n cap (P ++ (L ++ R).mergeSort le ++ Q))) ⟨((.slice (some ⟨g, 0, none⟩) n cap) :: (.int .i64 a) :: (.int .i64 m) :: (.int .i64 b) :: (.func (.func F) #[] #[pv]) :: t5 :: t6 :: t7 :: t8 :: t9 :: t10 :: t11 :: t12 :: t13 :: t14 :: t15 :: t16 :: t17 :: (.int .i64 mid) :: (.int .i64 ((mid : Int) + m)) :: (.int .i64 s) :: t21 :: t22 :: t23 :: (.int .i64 en) :: t25 :: t26 :: t27 :: t28 :: t29 :: t30 :: t31 :: t32 :: t33 :: t34 :: t35 :: t36 :: t37 :: t38 :: t39 :: t40 :: t41 :: t42 :: t43 :: t44 :: t45 :: t46 :: t47 :: t48 :: t49 :: t50 :: t51 :: t52 :: t53 :: t54 :: t55 :: t56 :: t57 :: t58 :: t59 :: t60 :: t61 :: t62 :: t63 :: t64 :: t65 :: t66 :: t67 :: t68 :: t69 :: t70 :: t71 :: t72 :: t73 :: t74 :: t75 :: t76 :: t77 :: t78 :: t79 :: t80 :: t81 :: t82 :: t83 :: t84 :: t85 :: t86 :: t87 :: t88 :: t89 :: t90 :: t91 :: t92 :: t93 :: t94 :: t95 :: t96 :: t97 :: t98 :: t99 :: t100 :: t101 :: t102 :: t103 :: t104 :: t105 :: t106 :: t107 :: t108 :: t109 :: t110 :: t111 :: t112 :: t113 :: t114 :: t115 :: t116 :: t117 :: t118 :: t119 :: t120 :: t121 :: t122 :: t123 :: t124 :: t125 :: t126 :: t127 :: t128 :: t129 :: t130 :: t131 :: t132 :: t133 :: t134 :: t135 :: t136 :: t137 :: t138 :: t139 :: t140 :: t141 :: t142 :: t143 :: t144 :: t145 :: t146 :: t147 :: t148 :: t149 :: t150 :: t151 :: t152 :: t153 :: t154 :: t155 :: t156 :: t157 :: t158 :: t159 :: t160 :: t161 :: t162 :: t163 :: t164 :: t165 :: t166 :: t167 :: t168 :: t169 :: t170 :: t171 :: t172 :: t173 :: t174 :: t175 :: t176 :: t177 :: t178 :: t179 :: t180 :: t181 :: t182 :: t183 :: t184 :: t185 :: t186 :: t187 :: t188 :: t189 :: t190 :: t191 :: t192 :: t193 :: t194 :: t195 :: t196 :: t197 :: t198 :: t199 :: t200 :: t201 :: t202 :: t203 :: t204 :: t205 :: t206 :: t207 :: t208 :: t209 :: t210 :: t211 :: t212 :: t213 :: t214 :: t215 :: t216 :: t217 :: t218 :: t219 :: []).toArray, []⟩ wr := by
  have hnum := NUM.out
  have ham2 : (a : Int) + 2 ≤ m := by omega
  have hmb2 : (m : Int) + 2 ≤ b := by omega
  have hbn2 : (b : Int) ≤ n := by omega
  have hmid0 : (mid : Int) ≤ b := by omega
  have hkk := HC.out.known
  unfold Known at hkk
  clear hnum
  conv => arg 2; whnf
  go_upto_region 43 with fail
  go_cut [213] (fun sb wx => (∃ c : Bool, sb = .bool c ∧ Tells c (mid < en ∧ en < b)) ∧ wx = wr)
  case first =>
    rcases Nat.lt_or_ge mid en with h | h
    · have h' : (mid : Int) < en := by omega
      rcases Nat.lt_or_ge en b with h2 | h2
      · have h2' : (en : Int) < b := by omega
        go_wp2_with fail
        go_meet
        exact ⟨⟨true, rfl, Tells.yes ⟨h, h2⟩⟩, rfl⟩
      · have h2' : ¬ ((en : Int) < b) := by omega
        go_wp2_with fail
        go_meet
        exact ⟨⟨false, rfl, Tells.no fun q => absurd q.2 (by omega)⟩, rfl⟩
    · have h' : ¬ ((mid : Int) < en) := by omega
      go_wp2_with fail
      go_meet
      exact ⟨⟨false, rfl, Tells.no fun q => absurd q.1 (by omega)⟩, rfl⟩
  case rest =>
  obtain ⟨⟨cc, rfl, Ecc⟩, hwc⟩ := hcut
  obtain rfl : wr = wc := hwc.symm
  cases cc
  · have hno := hid (show L2 = [] ∨ R2 = [] by
      have hn := NUM.out
      rcases Nat.lt_or_ge mid en with h1 | h1
      · right; apply List.eq_nil_of_length_eq_zero
        have : ¬ (en < b) := fun h2 => by have := Ecc.2 ⟨h1, h2⟩; cases this
        omega
      · left; apply List.eq_nil_of_length_eq_zero; omega)
    have RF := hid (show Row wr base g n cap (P ++ (L ++ R).mergeSort le ++ Q) by
      rw [E.out, one_empty HC.out.ord hno.out HS1.out.2 HS2.out.2]; have := RW2.out; simpa using this)
    go_wp2
    go_end0
    exact ⟨rfl, by simpa using RF.out, GW2.out⟩
  · obtain ⟨h1, h2⟩ := Ecc.1 rfl
    have hn := NUM.out
    have C := IH.out mid en b (P ++ (L1 ++ R1).mergeSort le) L2 R2 Q wr HN.out.2 (by have := RW2.out; simpa using this) (by simp [HA.out]; omega) (by omega) (by omega) (by omega) (by omega) (HC.out.from_ GW2.out) HI1.out.2 HU1.out.2 HS1.out.2 HS2.out.2
    have C' := hid C
    clear C hn h1 h2
    go_wp2_with fail
    refine C'.out.mono ?_
    rintro _ wv ⟨rfl, hrow, hgr⟩
    have RF := hid (show Row wv base g n cap (P ++ (L ++ R).mergeSort le ++ Q) by
      rw [E.out]; have := hrow; simpa using this)
    have G3 := hid hgr
    clear hrow hgr
    go_wp2
    go_end0
    exact ⟨rfl, by simpa using RF.out, GW2.out.trans G3.out⟩
end Go.Proofs.YtleegelljgnlpaaGreat.X
