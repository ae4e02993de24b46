/- FnExactFormatReport: for every input, the program's FormatReport returns what the reference's returns: the law returns true, and its arguments read as before; the tied card. No condition. Written by gen_lawfmt.py. -/
import Derived.Test.YthlpjpcnpcclhaaDoorPL
import Derived.Test.YthlpjpcnpcclhaaDoorP2
import Derived.Test.YthlpjpcnpcclhaaDoorXTx6
import Derived.WalkLawsBesides
import Derived.ProofKit
import Derived.OpenShut
import Derived.LaidLaws
import Derived.LaidHandle
import Derived.Stop.Joined
import Derived.Stop.LaidErr
import Derived.Lib.LaidTab
import Derived.SevenTiedAt
import Derived.Test.YthlpjpcnpcclhaaDoorCards
import Derived.Test.YthlpjpcnpcclhaaDoorTie
namespace Go.Proofs.YthlpjpcnpcclhaaDoor.fnExactFormatReport
open Go.ChangeShapes Go.WideShapes Go.ChangeAt Go.RowKit Go.XB Go.XN Go.Proofs.YthlpjpcnpcclhaaDoor.X
attribute [local go_sem] fillBy opAt deps depOf Region.wanted yielded
attribute [local simp] deps depOf MP.eq MP.agg MP.sl Facts

set_option maxHeartbeats 4000000 in
theorem walk (v0 : Value) (x0 : TReport) (b0 : List Nat) (w : World) (h0 : Agg w v0 x0 b0) (ht : TabOk w) :
    Calls Tryd.prog 4 #[v0] w (Gives w (.bool true)) := by
  have H0 := hid h0
  have HT := hid ht
  obtain ⟨P0x2, nP0x2, cP0x2, sP0x2, P0x3, nP0x3, cP0x3, sP0x3, P0x5, nP0x5, cP0x5, sP0x5, P0x6, nP0x6, cP0x6, sP0x6, rfl, rfl, w0x0, w0x2, w0x3, w0x5, w0x6⟩ := TReport.agg h0
  clear w0x0 w0x2 w0x3 w0x5 w0x6
  clear h0 ht
  have k0a : (0 : Int) ≤ 1048576 := by omega
  have m0 : (1048576 : Int) ≤ 1048576 := by omega
  rcases minus_cases 1048576 (x0.cnt) with ⟨k1, e1, l1⟩ | ⟨k1, e1, l1⟩
  · clear e1 l1
    go_enter Tryd.func4, Tryd.ntmps4
    go_wp2_with fail
    refine (laws_szReport _ x0 _ 1048576 _ (Agg.below H0.out (by (repeat (first | (with_reducible exact Below.refl _ _) | ((with_reducible refine Below.set ?_ ?_ _); rotate_left; (simp <;> omega)) | (with_reducible refine Below.box_ ?_ _) | (with_reducible refine Below.next ?_ (by assumption)))))) k0a m0).mono ?_
    rintro e us0 ⟨rfl, hbs0⟩
    obtain ⟨hcs0, hfs0⟩ := bcell hbs0
    have hzs0 : w.heap.size < us0.heap.size := by have := hbs0.size; (try simp at this); omega
    go_wp2
    go_ret
    exact ⟨rfl, by (repeat (first | (with_reducible exact Below.refl _ _) | ((with_reducible refine Below.set ?_ ?_ _); rotate_left; (simp <;> omega)) | (with_reducible refine Below.box_ ?_ _) | (with_reducible refine Below.next ?_ (by assumption))))⟩
  have q0 : x0.cnt ≤ 1048576 := by omega
  clear e1 l1
  go_enter Tryd.func4, Tryd.ntmps4
  go_wp2_with fail
  refine (laws_szReport _ x0 _ 1048576 _ (Agg.below H0.out (by (repeat (first | (with_reducible exact Below.refl _ _) | ((with_reducible refine Below.set ?_ ?_ _); rotate_left; (simp <;> omega)) | (with_reducible refine Below.box_ ?_ _) | (with_reducible refine Below.next ?_ (by assumption)))))) k0a m0).mono ?_
  rintro e us0 ⟨rfl, hbs0⟩
  obtain ⟨hcs0, hfs0⟩ := bcell hbs0
  have hzs0 : w.heap.size < us0.heap.size := by have := hbs0.size; (try simp at this); omega
  go_wp2_with fail
  refine (laws_toReport _ x0 _ _ (Agg.below H0.out (by (repeat (first | (with_reducible exact Below.refl _ _) | ((with_reducible refine Below.set ?_ ?_ _); rotate_left; (simp <;> omega)) | (with_reducible refine Below.box_ ?_ _) | (with_reducible refine Below.next ?_ (by assumption)))))) q0).mono ?_
  rintro e uy0 ⟨ry0, ty0, rfl, hay, hoy, hby0⟩
  have HY0 := hid hay; clear hay hoy
  obtain ⟨hcy0, hfy0⟩ := bcell hby0
  have hzy0 : w.heap.size < uy0.heap.size := by have := hby0.size; (try simp at this); omega
  go_wp2_with fail
  refine (spec_FormatReport _ x0 _ _ (Agg.below HY0.out (by (repeat (first | (with_reducible exact Below.refl _ _) | ((with_reducible refine Below.set ?_ ?_ _); rotate_left; (simp <;> omega)) | (with_reducible refine Below.box_ ?_ _) | (with_reducible refine Below.next ?_ (by assumption))))))).mono ?_
  rintro e uw0 ⟨rfl, hbw0⟩
  obtain ⟨hcw0, hfw0⟩ := bcell hbw0
  have hzw0 : w.heap.size < uw0.heap.size := by have := hbw0.size; (try simp at this); omega
  go_wp2_with fail
  refine (laws_toReport _ x0 _ _ (Agg.below H0.out (by (repeat (first | (with_reducible exact Below.refl _ _) | ((with_reducible refine Below.set ?_ ?_ _); rotate_left; (simp <;> omega)) | (with_reducible refine Below.box_ ?_ _) | (with_reducible refine Below.next ?_ (by assumption)))))) q0).mono ?_
  rintro e ux0 ⟨rx0, tx0, rfl, ha0, ho0, hbx0⟩
  have HX0 := hid ha0
  obtain ⟨X0x2, nX0x2, cX0x2, sX0x2, X0x3, nX0x3, cX0x3, sX0x3, X0x5, nX0x5, cX0x5, sX0x5, X0x6, nX0x6, cX0x6, sX0x6, rfl, hqs0, y0x0, y0x2, y0x3, y0x5, y0x6⟩ := TReport.agg ha0
  clear ha0 ho0 hqs0 y0x0 y0x2 y0x3 y0x5 y0x6
  obtain ⟨hcx0, hfx0⟩ := bcell hbx0
  have hzx0 : w.heap.size < ux0.heap.size := by have := hbx0.size; (try simp at this); omega
  go_wp2_with fail
  refine (impl_FormatReport _ x0 _ _ (Agg.below HX0.out (by (repeat (first | (with_reducible exact Below.refl _ _) | ((with_reducible refine Below.set ?_ ?_ _); rotate_left; (simp <;> omega)) | (with_reducible refine Below.box_ ?_ _) | (with_reducible refine Below.next ?_ (by assumption)))))) (HT.out.below (by (repeat (first | (with_reducible exact Below.refl _ _) | ((with_reducible refine Below.set ?_ ?_ _); rotate_left; (simp <;> omega)) | (with_reducible refine Below.box_ ?_ _) | (with_reducible refine Below.next ?_ (by assumption))))))).mono ?_
  rintro e ug0 ⟨rfl, hbg0⟩
  obtain ⟨hcg0, hfg0⟩ := bcell hbg0
  have hzg0 : w.heap.size < ug0.heap.size := by have := hbg0.size; (try simp at this); omega
  have hyg0_x0 : ux0.heap.size < ug0.heap.size := by have := hbg0.size; (try simp at this); omega
  generalize reportTxt x0 = tx
  go_wp2_with fail
  have hd0 : decide (x0 = x0) = true := by simp
  refine wp_region_walk (by kernel_rfl) (by kernel_rfl) (by kernel_rfl) ?_
  apply walkM_eq
  case h =>
    intro yq zq wq hC hd
    obtain ⟨hcq, hfq⟩ := bcell hC
    simp at hd
    refine ⟨by go_simp; done, ?_⟩
    go_simp
    first | (go_ints; exact rfl) | (go_ints; rw [if_pos (by omega)]; try exact rfl) | exact rfl | (rw [if_pos (by omega)]; try exact rfl)
  apply walkM_eq
  case h =>
    intro yq zq wq hC hd
    obtain ⟨hcq, hfq⟩ := bcell hC
    simp at hd
    refine ⟨by go_simp; done, ?_⟩
    go_simp
    first | (go_ints; exact rfl) | (go_ints; rw [if_pos (by omega)]; try exact rfl) | exact rfl | (rw [if_pos (by omega)]; try exact rfl)
  refine walkM_call (MP.agg x0) ?_ ?_
  · intro yq zq wq hC hd
    obtain ⟨hcq, hfq⟩ := bcell hC
    simp at hd
    refine ⟨by go_simp; done, ?_⟩
    apply Exists.intro
    apply Exists.intro
    constructor
    · go_simp
      exact ⟨rfl, rfl⟩
    · exact gives_agg (laws_toReport _ x0 _ _ (Agg.below H0.out (by (repeat (first | (with_reducible exact Below.refl _ _) | ((with_reducible refine Below.set ?_ ?_ _); rotate_left; (simp <;> omega)) | (with_reducible refine Below.box_ ?_ _) | (with_reducible refine Below.next ?_ (by assumption)))))) q0)
  refine walkM_call (MP.eq (.bool true)) ?_ ?_
  · intro yq zq wq hC hd
    obtain ⟨hcq, hfq⟩ := bcell hC
    simp at hd
    refine ⟨by go_simp; done, ?_⟩
    apply Exists.intro
    apply Exists.intro
    constructor
    · go_simp
      exact ⟨rfl, rfl⟩
    · exact gives_eq (by have := laws_eqReport _ _ x0 x0 _ _ _ (Agg.below HX0.out (by (repeat (first | (with_reducible exact Below.refl _ _) | ((with_reducible refine Below.set ?_ ?_ _); rotate_left; (simp <;> omega)) | (with_reducible refine Below.box_ ?_ _) | (with_reducible refine Below.next ?_ (by assumption)))))) hd.2.1; rwa [hd0] at this)
  apply walkM_eq
  case h =>
    intro yq zq wq hC hd
    obtain ⟨hcq, hfq⟩ := bcell hC
    simp at hd
    refine ⟨by go_simp; done, ?_⟩
    go_simp
    first | (go_ints; exact rfl) | (go_ints; rw [if_pos (by omega)]; try exact rfl) | exact rfl | (rw [if_pos (by omega)]; try exact rfl)
  intro yq zq ue0 hC hd hdis0
  have hdis := hid hdis0
  clear hdis0
  simp at hd
  go_simp
  clear hd hdis
  have hbe0 := hC; clear hC
  obtain ⟨hce0, hfe0⟩ := bcell hbe0
  have hze0 : w.heap.size < ue0.heap.size := by have := hbe0.size; (try simp at this); omega
  have hye0_x0 : ux0.heap.size < ue0.heap.size := by have := hbe0.size; (try simp at this); omega
  go_wp2
  go_ret
  exact ⟨rfl, by (repeat (first | (with_reducible exact Below.refl _ _) | ((with_reducible refine Below.set ?_ ?_ _); rotate_left; (simp <;> omega)) | (with_reducible refine Below.box_ ?_ _) | (with_reducible refine Below.next ?_ (by assumption))))⟩

theorem own : ownKnob Tryd.prog.godebug = none := by kernel_rfl
theorem laidOut : laidOutB Tryd.prog = true := by kernel_rfl
def lay (l : List Value) : Obj → Obj
  | .cells _ t fr => .cells l.toArray t fr
  | o => o
def intsOf : DataW Unit → List Value
  | .agg l => l.map fun | .lit (.int k n) => .int k n | _ => .bool false
  | _ => []
theorem gT : Tryd.prog.globalNamed "internal/strconv.uint64pow10" = some 0 := by kernel_rfl
theorem gTType : (Tryd.prog.globals[0]?).map (·.type) = some 127 := by kernel_rfl
theorem tabData : (Rows.laid_internal_strconv_uint64pow10 : DataW Unit) = Lib.tabData .u64 Lib.pow10Tab := by kernel_rfl
theorem tab_of_laid {W : World} (h : laidMetH Tryd.prog Rows.fnExactFormatReportRow.laid W) : TabOk W := by
  have h1 : laidMet Tryd.prog [("math/bits.deBruijn32tab", Rows.laid_math_bits_deBruijn32tab), ("math/bits.deBruijn64tab", Rows.laid_math_bits_deBruijn64tab), ("internal/strconv.uint64pow10", Rows.laid_internal_strconv_uint64pow10)] W := h
  have h2 := h1.tail.tail
  rw [tabData] at h2
  exact Lib.tabIs_of_head gT gTType Tryd.underlying127 Tryd.underlying103 (by kernel_rfl) (by kernel_rfl) h2
theorem laid_met (os : Os) (args : Array Value) :
    laidMetH Tryd.prog Rows.fnExactFormatReportRow.laid (({ World.holding Tryd.prog os ⟨#[], #[], []⟩ with heap := (((World.holding Tryd.prog os ⟨#[], #[], []⟩).heap.modify 0 (lay (intsOf Rows.laid_internal_strconv_uint64pow10))).modify 2 (lay (intsOf Rows.laid_math_bits_deBruijn32tab))).modify 3 (lay (intsOf Rows.laid_math_bits_deBruijn64tab)) } : World).forCall (fun _ _ => 0) ⟨#[], args, []⟩).memory :=
  show laidMet Tryd.prog Rows.fnExactFormatReportRow.laid _ from laidMet_of_run' 8 (by kernel_rfl) (by kernel_rfl)

set_option maxRecDepth 100000 in
theorem lifted (os : Os) (started : os.Started) (H : Type) (enc : TypeId × Value → H) :
    ReturnsInHanded {} Tryd.checked os 4 .any (fun w args => (Rows.fnExactFormatReportSpec.pre enc Tryd.prog Tryd.f4 [] false w args ∧ laidMetH Tryd.prog Rows.fnExactFormatReportRow.laid w) ∧ sizedMet enc Tryd.prog Tryd.f4 (OpenSpec.ofChange Rows.fnExactFormatReportSpec) false w args)
      (Rows.fnExactFormatReportSpec.post enc Tryd.prog Tryd.f4 false true false false) := by
  refine returnsInHanded_of_change_and (C := Tryd.checked) (X := fun w _ => laidMetH Tryd.prog Rows.fnExactFormatReportRow.laid w) (fun _ _ _ hh h => h.of_heap hh) own started (by kernel_rfl) Tryd.func4
    (ChangeSpec.witness_at (enc := enc) (C := Tryd.checked) (os := os) (X := fun w _ => laidMetH Tryd.prog Rows.fnExactFormatReportRow.laid w) false
      ({ World.holding Tryd.prog os ⟨#[], #[], []⟩ with heap := (((World.holding Tryd.prog os ⟨#[], #[], []⟩).heap.modify 0 (lay (intsOf Rows.laid_internal_strconv_uint64pow10))).modify 2 (lay (intsOf Rows.laid_math_bits_deBruijn32tab))).modify 3 (lay (intsOf Rows.laid_math_bits_deBruijn64tab)) } : World)
      #[.agg #[.int .i64 0, .bool false, .slice none 0 0, .slice none 0 0, .bool false, .slice none 0 0, .slice none 0 0]] 8 rfl (by kernel_rfl) (by kernel_rfl) (by kernel_rfl) (by kernel_rfl) (by kernel_rfl) (laid_met os _)) ?_
  intro W base args ds gs before hval0 hW _ _ hL _
  have hval : ∀ (j : Nat) t v, Tryd.f4.params[j]? = some t → args[j]? = some v → Value.okWide Tryd.prog W .any base t v := hval0
  have hW' := hW
  obtain ⟨p, q, hA0, hV, rfl, hfz, hnd⟩ := hW
  have hA : DataW.TrodAll enc Tryd.prog W 0 (fun _ => true) true Tryd.f4.params.toList args.toList ds p := hA0
  rw [Tryd.params4] at hA hval
  obtain ⟨v0, vs0, d0, ds0, p0, q0, hargs, rfl, rfl, h0, r0⟩ := trodAll_cons hA
  obtain ⟨rfl, rfl, rfl⟩ := trodAll_nil r0
  obtain rfl : args = #[v0] := by cases args; simp_all
  obtain ⟨rfl, rfl⟩ := trodVars_none hV
  clear hA0 hval0
  simp only [List.append_nil] at hW'
  obtain ⟨x0, b0, g0⟩ := Opens.agg oTReport Tryd.underlying40 (hval 0 40 v0 rfl rfl) h0
  refine (walk _ x0 b0 W g0 (tab_of_laid hL)).mono fun e W' ⟨he, hB⟩ => ?_
  subst he
  have l0 : ∀ x ∈ p0, x.block < W.heap.size := fun x hx => hW'.lt x (by simp [hx])
  refine ⟨_, rfl, _, _, _, [], p0, [], hW', trodAll_cons_mk (shut_bool Tryd.underlying4 _) trodAll_mk0, ?_, rfl, hB.frame _, fun h => by cases h⟩
  have ha := trodAll_cons_mk (Below.trod laidOut (by kernel_rfl) (of_decide_eq_true (by kernel_rfl)) h0 hB l0) trodAll_mk0
  simp only [List.append_nil] at ha
  exact ha

theorem row_holds : Rows.FnExactFormatReportSaid :=
  OpenClaim.holds_of_wide 4 Tryd.f4 rfl rfl rfl rfl rfl rfl rfl ⟨rfl, rfl, rfl, rfl, rfl⟩ rfl rfl rfl rfl rfl (by kernel_rfl) Tryd.func4 (by kernel_rfl)
    (of_decide_eq_true (by kernel_rfl)) (by unfold Func.isWrapper; first | (rw [if_pos (by decide +kernel)]; kernel_rfl) | (rw [if_neg (by decide +kernel)]; exact ⟨rfl, rfl⟩))
    (fun os started H enc _ => lifted os started H enc)
theorem proved : Rows.FnExactFormatReportCardSaid :=
  Claim7.holds_tied_plain_at .later [] [.data, .data, .data] true (true, "05579bebf73ffe55ae0ccf803bfeb8f62d548c27d2f0cd722a1493e8fdcb4f35") false
    row_holds (fun _ h => by cases h) (by kernel_rfl) (fun _ h => by cases h) fnExactFormatReport_row_tie rfl ⟨rfl, rfl⟩ (by kernel_rfl) rfl
    (fun f fn hf hfn => by
      obtain rfl : f = 4 := Option.some.inj ((show Tryd.prog.funcNamed "loop.example/g00812/laws.FnExactFormatReport" = some 4 by kernel_rfl).symm.trans hf) |>.symm
      obtain rfl : fn = Tryd.f4 := (Option.some.inj (Tryd.func4.symm.trans hfn)).symm
      exact ⟨by kernel_rfl, fun j t ht => by
        rw [Tryd.params4] at ht
        have h3 : t = 40 := by
          rcases j with _ | j
          · simpa using ht.symm
          · simp at ht
        subst h3
        exact (show Tryd.prog.wantsStandIn 40 = false by kernel_rfl)⟩)
    (by kernel_rfl)
#print axioms proved
end Go.Proofs.YthlpjpcnpcclhaaDoor.fnExactFormatReport
