/- Points: what their functions compute (plain). -/
import Derived.Test.YthlpjpcnpcclhaaGreatXDen
namespace Go.XN
open Go.XB
def zeroP : TPoint := ⟨zeroR, zeroR⟩
def ptOkB (p : TPoint) : Bool := ratOkB p.x && ratOkB p.y
def ifP (p : TPoint) : TPoint := bif ptOkB p then p else zeroP
def padd (p q : TPoint) : TPoint := ifP ⟨radd p.x q.x, radd p.y q.y⟩
def psub (p q : TPoint) : TPoint := ifP ⟨rsub p.x q.x, rsub p.y q.y⟩
def pscale (r : TRat) (p : TPoint) : TPoint := ifP ⟨rmul r p.x, rmul r p.y⟩
def cross (p q : TPoint) : TRat := rsub (rmul p.x q.y) (rmul p.y q.x)
def darea (a b c : TPoint) : TRat := cross (psub b a) (psub c a)
def pmid (p q : TPoint) : TPoint := pscale (mkR 1 2) (padd p q)
end Go.XN
namespace Go.Proofs.YthlpjpcnpcclhaaGreat.X
open Go.RowKit Go.XB Go.XN
attribute [local go_sem] fillBy opAt deps depOf Region.wanted yielded
attribute [local simp] deps depOf MP.eq MP.agg MP.sl Facts
set_option linter.constructorNameAsVariable false

theorem rsub_den (r s : TRat) : (!(rsub r s).den.isEmpty) = ratOkB (rsub r s) := by
  unfold rsub
  split
  · rename_i h
    rw [Bool.and_eq_true] at h
    exact mk_den (Int.mul_pos (ratOkB_iff.1 h.1).den0 (ratOkB_iff.1 h.2).den0)
  · rfl
theorem ifP_den (p : TPoint) : (!(ifP p).x.den.isEmpty) = ptOkB (ifP p) := by
  unfold ifP
  cases h : ptOkB p
  · rfl
  · have h2 := h
    unfold ptOkB at h2
    rw [Bool.and_eq_true] at h2
    have h3 := (ratOkB_iff.1 h2.1).den0
    rw [cond_true, h]
    cases hd : p.x.den with
    | nil => rw [hd] at h3; simp [val] at h3
    | cons _ _ => rfl
theorem zeroP_agg (w : World) : Agg w (.agg #[.bool false, .slice none 0 0, .slice none 0 0, .bool false, .slice none 0 0, .slice none 0 0]) zeroP [] := TPoint.mkAgg (x := zeroP) (Sl.nil w) (Sl.nil w) (Sl.nil w) (Sl.nil w)
theorem gives_zeroP {w W : World} (hb : Below w.heap.size w W) : GivesAgg w zeroP (.returned (.agg #[.bool false, .slice none 0 0, .slice none 0 0, .bool false, .slice none 0 0, .slice none 0 0])) W := ⟨_, [], rfl, zeroP_agg W, Own.nil _ _, hb⟩
theorem Free.join {w : World} {a b : List Nat} (h1 : Free w a) (h2 : Free w b) (hd : ∀ x ∈ a, x ∉ b) : Free w (a ++ b) :=
  ⟨List.nodup_append.2 ⟨h1.1, h2.1, fun x hx _ hy e => hd x hx (e ▸ hy)⟩, fun x hx => (List.mem_append.1 hx).elim (h1.2 x) (h2.2 x)⟩
theorem pt_join {w : World} {x : TPoint} {u0 u1 u2 u3 u4 u5 : Value} {b1 b2 : List Nat} (h1 : Agg w (.agg #[u0, u1, u2]) x.x b1) (h2 : Agg w (.agg #[u3, u4, u5]) x.y b2) : Agg w (.agg #[u0, u1, u2, u3, u4, u5]) x (b1 ++ b2) := by
  obtain ⟨A1, n1, c1, s1, A2, n2, c2, s2, e1, rfl, k1, k2⟩ := TRat.agg h1
  obtain ⟨A4, n4, c4, s4, A5, n5, c5, s5, e2, rfl, k4, k5⟩ := TRat.agg h2
  injection e1 with e1
  injection e2 with e2
  simp at e1 e2
  obtain ⟨rfl, rfl, rfl⟩ := e1
  obtain ⟨rfl, rfl, rfl⟩ := e2
  rw [List.append_assoc]
  exact TPoint.mkAgg k1 k2 k4 k5
theorem pt_x {w : World} {x : TPoint} {u0 u1 u2 u3 u4 u5 : Value} {b : List Nat} (h : Agg w (.agg #[u0, u1, u2, u3, u4, u5]) x b) : ∃ b1 b2, b = b1 ++ b2 ∧ Agg w (.agg #[u0, u1, u2]) x.x b1 ∧ Agg w (.agg #[u3, u4, u5]) x.y b2 := by
  obtain ⟨A1, n1, c1, s1, A2, n2, c2, s2, A4, n4, c4, s4, A5, n5, c5, s5, e, rfl, k1, k2, k4, k5⟩ := TPoint.agg h
  injection e with e
  simp at e
  obtain ⟨rfl, rfl, rfl, rfl, rfl, rfl⟩ := e
  exact ⟨s1 ++ s2, s4 ++ s5, by rw [List.append_assoc], TRat.mkAgg k1 k2, TRat.mkAgg k4 k5⟩
end Go.Proofs.YthlpjpcnpcclhaaGreat.X
