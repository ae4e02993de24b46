/- The data types of the program, and how they lie in cells. Written by gen_types.py. -/
import Derived.Test.YtmhcfdipnofohaaXMem
import Derived.Test.YtmhcfdipnofohaaXElem
namespace Go.XB
open Go.RowKit

structure TBigInt where
  neg : Bool
  mag : List Int
  deriving DecidableEq
instance : Dat TBigInt := Dat.via fun x => (x.neg, x.mag)
theorem TBigInt.open_ {w : World} {cs : List Value} {x : TBigInt} {bs : List Nat} (h : Dat.at_ w cs x bs) : ∃ (A1 : Option Addr) (n1 c1 : Nat) (s1 : List Nat), cs = [.bool x.neg, .slice A1 n1 c1] ∧ bs = s1 ∧ Sl w A1 n1 c1 x.mag s1 := by
  obtain ⟨p1, q1, u1, v1, rfl, rfl, e1, g1⟩ := h
  obtain ⟨rfl, rfl⟩ := e1
  obtain ⟨A1, n1, c1, rfl, w1⟩ := g1
  exact ⟨_, _, _, _, rfl, by first | rfl | (simp; done) | simp [List.append_assoc], w1⟩
theorem TBigInt.shut {w : World} {x : TBigInt} {A1 : Option Addr} {n1 c1 : Nat} {s1 : List Nat} (w1 : Sl w A1 n1 c1 x.mag s1) : Dat.at_ w [.bool x.neg, .slice A1 n1 c1] x (s1) := by
  have h : Dat.at_ w _ x _ := ⟨_, _, _, _, rfl, rfl, ⟨rfl, rfl⟩, ⟨_, _, _, rfl, w1⟩⟩
  first | exact h | (simpa using h) | simpa [List.append_assoc] using h
theorem TBigInt.agg {w : World} {v : Value} {x : TBigInt} {bs : List Nat} (h : Agg w v x bs) : ∃ (A1 : Option Addr) (n1 c1 : Nat) (s1 : List Nat), v = .agg #[.bool x.neg, .slice A1 n1 c1] ∧ bs = s1 ∧ Sl w A1 n1 c1 x.mag s1 := by
  obtain ⟨cs, rfl, h⟩ := h
  obtain ⟨A1, n1, c1, s1, rfl, rfl, w1⟩ := TBigInt.open_ h
  exact ⟨_, _, _, _, rfl, rfl, w1⟩
theorem TBigInt.mkAgg {w : World} {x : TBigInt} {A1 : Option Addr} {n1 c1 : Nat} {s1 : List Nat} (w1 : Sl w A1 n1 c1 x.mag s1) : Agg w (.agg #[.bool x.neg, .slice A1 n1 c1]) x (s1) :=
  ⟨_, rfl, TBigInt.shut w1⟩
theorem TBigInt.elem {w : World} {A : Option Addr} {n c : Nat} {xs : List TBigInt} {bs : List Nat} (h : Sl w A n c xs bs) {k : Nat} (hk : k < n) :
    ∃ (b off : Nat) (x : TBigInt) (A1 : Option Addr) (n1 c1 : Nat) (s1 : List Nat), A = some ⟨b, off, none⟩ ∧ b < w.heap.size ∧ xs[k]? = some x ∧ w.cell? ⟨b, off + k * 2, none⟩ = some (.bool x.neg) ∧ w.cell? ⟨b, off + k * 2 + 1, none⟩ = some (.slice A1 n1 c1) ∧ Sl w A1 n1 c1 x.mag s1 ∧ ∀ g ∈ (s1), g ∈ bs := by
  obtain ⟨b, off, x, cs, fs, hA, hb, hx, hc, ha, hg⟩ := Sl.getAt h hk
  obtain ⟨A1, n1, c1, s1, rfl, rfl, w1⟩ := TBigInt.open_ ha
  exact ⟨b, off, x, _, _, _, _, hA, hb, hx, hc 0 _ rfl, hc 1 _ rfl, w1, hg⟩
theorem TBigInt.elemA {w : World} {A : Option Addr} {n c : Nat} {xs : List TBigInt} {bs : List Nat} (h : Sl w A n c xs bs) {k : Nat} (hk : k < n) :
    ∃ (b off : Nat) (x : TBigInt) (A1 : Option Addr) (n1 c1 : Nat) (s1 : List Nat), A = some ⟨b, off, none⟩ ∧ b < w.heap.size ∧ xs[k]? = some x ∧ w.cell? ⟨b, off + k * 2, none⟩ = some (.bool x.neg) ∧ w.cell? ⟨b, off + k * 2 + 1, none⟩ = some (.slice A1 n1 c1) ∧ Agg w (.agg #[.bool x.neg, .slice A1 n1 c1]) x (s1) := by
  obtain ⟨b, off, x, cs, fs, hA, hb, hx, hc, ha, hg⟩ := Sl.getAt h hk
  obtain ⟨A1, n1, c1, s1, rfl, rfl, w1⟩ := TBigInt.open_ ha
  exact ⟨b, off, x, _, _, _, _, hA, hb, hx, hc 0 _ rfl, hc 1 _ rfl, _, rfl, ha⟩

structure TRat where
  num : TBigInt
  den : List Int
  deriving DecidableEq
instance : Dat TRat := Dat.via fun x => (x.num, x.den)
theorem TRat.open_ {w : World} {cs : List Value} {x : TRat} {bs : List Nat} (h : Dat.at_ w cs x bs) : ∃ (A1 : Option Addr) (n1 c1 : Nat) (s1 : List Nat) (A2 : Option Addr) (n2 c2 : Nat) (s2 : List Nat), cs = [.bool x.num.neg, .slice A1 n1 c1, .slice A2 n2 c2] ∧ bs = s1 ++ (s2) ∧ Sl w A1 n1 c1 x.num.mag s1 ∧ Sl w A2 n2 c2 x.den s2 := by
  obtain ⟨p1, q1, u1, v1, rfl, rfl, e1, g1⟩ := h
  obtain ⟨p2, q2, u2, v2, rfl, rfl, e2, g2⟩ := e1
  obtain ⟨rfl, rfl⟩ := e2
  obtain ⟨A1, n1, c1, rfl, w1⟩ := g2
  obtain ⟨A2, n2, c2, rfl, w2⟩ := g1
  exact ⟨_, _, _, _, _, _, _, _, rfl, by first | rfl | (simp; done) | simp [List.append_assoc], w1, w2⟩
theorem TRat.shut {w : World} {x : TRat} {A1 : Option Addr} {n1 c1 : Nat} {s1 : List Nat} {A2 : Option Addr} {n2 c2 : Nat} {s2 : List Nat} (w1 : Sl w A1 n1 c1 x.num.mag s1) (w2 : Sl w A2 n2 c2 x.den s2) : Dat.at_ w [.bool x.num.neg, .slice A1 n1 c1, .slice A2 n2 c2] x (s1 ++ (s2)) := by
  have h : Dat.at_ w _ x _ := ⟨_, _, _, _, rfl, rfl, ⟨_, _, _, _, rfl, rfl, ⟨rfl, rfl⟩, ⟨_, _, _, rfl, w1⟩⟩, ⟨_, _, _, rfl, w2⟩⟩
  first | exact h | (simpa using h) | simpa [List.append_assoc] using h
theorem TRat.agg {w : World} {v : Value} {x : TRat} {bs : List Nat} (h : Agg w v x bs) : ∃ (A1 : Option Addr) (n1 c1 : Nat) (s1 : List Nat) (A2 : Option Addr) (n2 c2 : Nat) (s2 : List Nat), v = .agg #[.bool x.num.neg, .slice A1 n1 c1, .slice A2 n2 c2] ∧ bs = s1 ++ (s2) ∧ Sl w A1 n1 c1 x.num.mag s1 ∧ Sl w A2 n2 c2 x.den s2 := by
  obtain ⟨cs, rfl, h⟩ := h
  obtain ⟨A1, n1, c1, s1, A2, n2, c2, s2, rfl, rfl, w1, w2⟩ := TRat.open_ h
  exact ⟨_, _, _, _, _, _, _, _, rfl, rfl, w1, w2⟩
theorem TRat.mkAgg {w : World} {x : TRat} {A1 : Option Addr} {n1 c1 : Nat} {s1 : List Nat} {A2 : Option Addr} {n2 c2 : Nat} {s2 : List Nat} (w1 : Sl w A1 n1 c1 x.num.mag s1) (w2 : Sl w A2 n2 c2 x.den s2) : Agg w (.agg #[.bool x.num.neg, .slice A1 n1 c1, .slice A2 n2 c2]) x (s1 ++ (s2)) :=
  ⟨_, rfl, TRat.shut w1 w2⟩
theorem TRat.elem {w : World} {A : Option Addr} {n c : Nat} {xs : List TRat} {bs : List Nat} (h : Sl w A n c xs bs) {k : Nat} (hk : k < n) :
    ∃ (b off : Nat) (x : TRat) (A1 : Option Addr) (n1 c1 : Nat) (s1 : List Nat) (A2 : Option Addr) (n2 c2 : Nat) (s2 : List Nat), A = some ⟨b, off, none⟩ ∧ b < w.heap.size ∧ xs[k]? = some x ∧ w.cell? ⟨b, off + k * 3, none⟩ = some (.bool x.num.neg) ∧ w.cell? ⟨b, off + k * 3 + 1, none⟩ = some (.slice A1 n1 c1) ∧ w.cell? ⟨b, off + k * 3 + 2, none⟩ = some (.slice A2 n2 c2) ∧ Sl w A1 n1 c1 x.num.mag s1 ∧ Sl w A2 n2 c2 x.den s2 ∧ ∀ g ∈ (s1 ++ (s2)), g ∈ bs := by
  obtain ⟨b, off, x, cs, fs, hA, hb, hx, hc, ha, hg⟩ := Sl.getAt h hk
  obtain ⟨A1, n1, c1, s1, A2, n2, c2, s2, rfl, rfl, w1, w2⟩ := TRat.open_ ha
  exact ⟨b, off, x, _, _, _, _, _, _, _, _, hA, hb, hx, hc 0 _ rfl, hc 1 _ rfl, hc 2 _ rfl, w1, w2, hg⟩
theorem TRat.elemA {w : World} {A : Option Addr} {n c : Nat} {xs : List TRat} {bs : List Nat} (h : Sl w A n c xs bs) {k : Nat} (hk : k < n) :
    ∃ (b off : Nat) (x : TRat) (A1 : Option Addr) (n1 c1 : Nat) (s1 : List Nat) (A2 : Option Addr) (n2 c2 : Nat) (s2 : List Nat), A = some ⟨b, off, none⟩ ∧ b < w.heap.size ∧ xs[k]? = some x ∧ w.cell? ⟨b, off + k * 3, none⟩ = some (.bool x.num.neg) ∧ w.cell? ⟨b, off + k * 3 + 1, none⟩ = some (.slice A1 n1 c1) ∧ w.cell? ⟨b, off + k * 3 + 2, none⟩ = some (.slice A2 n2 c2) ∧ Agg w (.agg #[.bool x.num.neg, .slice A1 n1 c1, .slice A2 n2 c2]) x (s1 ++ (s2)) := by
  obtain ⟨b, off, x, cs, fs, hA, hb, hx, hc, ha, hg⟩ := Sl.getAt h hk
  obtain ⟨A1, n1, c1, s1, A2, n2, c2, s2, rfl, rfl, w1, w2⟩ := TRat.open_ ha
  exact ⟨b, off, x, _, _, _, _, _, _, _, _, hA, hb, hx, hc 0 _ rfl, hc 1 _ rfl, hc 2 _ rfl, _, rfl, ha⟩

structure TPoint where
  x : TRat
  y : TRat
  deriving DecidableEq
instance : Dat TPoint := Dat.via fun x => (x.x, x.y)
theorem TPoint.open_ {w : World} {cs : List Value} {x : TPoint} {bs : List Nat} (h : Dat.at_ w cs x bs) : ∃ (A1 : Option Addr) (n1 c1 : Nat) (s1 : List Nat) (A2 : Option Addr) (n2 c2 : Nat) (s2 : List Nat) (A4 : Option Addr) (n4 c4 : Nat) (s4 : List Nat) (A5 : Option Addr) (n5 c5 : Nat) (s5 : List Nat), cs = [.bool x.x.num.neg, .slice A1 n1 c1, .slice A2 n2 c2, .bool x.y.num.neg, .slice A4 n4 c4, .slice A5 n5 c5] ∧ bs = s1 ++ (s2 ++ (s4 ++ (s5))) ∧ Sl w A1 n1 c1 x.x.num.mag s1 ∧ Sl w A2 n2 c2 x.x.den s2 ∧ Sl w A4 n4 c4 x.y.num.mag s4 ∧ Sl w A5 n5 c5 x.y.den s5 := by
  obtain ⟨p1, q1, u1, v1, rfl, rfl, e1, g1⟩ := h
  obtain ⟨p2, q2, u2, v2, rfl, rfl, e2, g2⟩ := e1
  obtain ⟨p3, q3, u3, v3, rfl, rfl, e3, g3⟩ := e2
  obtain ⟨rfl, rfl⟩ := e3
  obtain ⟨A1, n1, c1, rfl, w1⟩ := g3
  obtain ⟨A2, n2, c2, rfl, w2⟩ := g2
  obtain ⟨p4, q4, u4, v4, rfl, rfl, e4, g4⟩ := g1
  obtain ⟨p5, q5, u5, v5, rfl, rfl, e5, g5⟩ := e4
  obtain ⟨rfl, rfl⟩ := e5
  obtain ⟨A4, n4, c4, rfl, w4⟩ := g5
  obtain ⟨A5, n5, c5, rfl, w5⟩ := g4
  exact ⟨_, _, _, _, _, _, _, _, _, _, _, _, _, _, _, _, rfl, by first | rfl | (simp; done) | simp [List.append_assoc], w1, w2, w4, w5⟩
theorem TPoint.shut {w : World} {x : TPoint} {A1 : Option Addr} {n1 c1 : Nat} {s1 : List Nat} {A2 : Option Addr} {n2 c2 : Nat} {s2 : List Nat} {A4 : Option Addr} {n4 c4 : Nat} {s4 : List Nat} {A5 : Option Addr} {n5 c5 : Nat} {s5 : List Nat} (w1 : Sl w A1 n1 c1 x.x.num.mag s1) (w2 : Sl w A2 n2 c2 x.x.den s2) (w4 : Sl w A4 n4 c4 x.y.num.mag s4) (w5 : Sl w A5 n5 c5 x.y.den s5) : Dat.at_ w [.bool x.x.num.neg, .slice A1 n1 c1, .slice A2 n2 c2, .bool x.y.num.neg, .slice A4 n4 c4, .slice A5 n5 c5] x (s1 ++ (s2 ++ (s4 ++ (s5)))) := by
  have h : Dat.at_ w _ x _ := ⟨_, _, _, _, rfl, rfl, ⟨_, _, _, _, rfl, rfl, ⟨_, _, _, _, rfl, rfl, ⟨rfl, rfl⟩, ⟨_, _, _, rfl, w1⟩⟩, ⟨_, _, _, rfl, w2⟩⟩, ⟨_, _, _, _, rfl, rfl, ⟨_, _, _, _, rfl, rfl, ⟨rfl, rfl⟩, ⟨_, _, _, rfl, w4⟩⟩, ⟨_, _, _, rfl, w5⟩⟩⟩
  first | exact h | (simpa using h) | simpa [List.append_assoc] using h
theorem TPoint.agg {w : World} {v : Value} {x : TPoint} {bs : List Nat} (h : Agg w v x bs) : ∃ (A1 : Option Addr) (n1 c1 : Nat) (s1 : List Nat) (A2 : Option Addr) (n2 c2 : Nat) (s2 : List Nat) (A4 : Option Addr) (n4 c4 : Nat) (s4 : List Nat) (A5 : Option Addr) (n5 c5 : Nat) (s5 : List Nat), v = .agg #[.bool x.x.num.neg, .slice A1 n1 c1, .slice A2 n2 c2, .bool x.y.num.neg, .slice A4 n4 c4, .slice A5 n5 c5] ∧ bs = s1 ++ (s2 ++ (s4 ++ (s5))) ∧ Sl w A1 n1 c1 x.x.num.mag s1 ∧ Sl w A2 n2 c2 x.x.den s2 ∧ Sl w A4 n4 c4 x.y.num.mag s4 ∧ Sl w A5 n5 c5 x.y.den s5 := by
  obtain ⟨cs, rfl, h⟩ := h
  obtain ⟨A1, n1, c1, s1, A2, n2, c2, s2, A4, n4, c4, s4, A5, n5, c5, s5, rfl, rfl, w1, w2, w4, w5⟩ := TPoint.open_ h
  exact ⟨_, _, _, _, _, _, _, _, _, _, _, _, _, _, _, _, rfl, rfl, w1, w2, w4, w5⟩
theorem TPoint.mkAgg {w : World} {x : TPoint} {A1 : Option Addr} {n1 c1 : Nat} {s1 : List Nat} {A2 : Option Addr} {n2 c2 : Nat} {s2 : List Nat} {A4 : Option Addr} {n4 c4 : Nat} {s4 : List Nat} {A5 : Option Addr} {n5 c5 : Nat} {s5 : List Nat} (w1 : Sl w A1 n1 c1 x.x.num.mag s1) (w2 : Sl w A2 n2 c2 x.x.den s2) (w4 : Sl w A4 n4 c4 x.y.num.mag s4) (w5 : Sl w A5 n5 c5 x.y.den s5) : Agg w (.agg #[.bool x.x.num.neg, .slice A1 n1 c1, .slice A2 n2 c2, .bool x.y.num.neg, .slice A4 n4 c4, .slice A5 n5 c5]) x (s1 ++ (s2 ++ (s4 ++ (s5)))) :=
  ⟨_, rfl, TPoint.shut w1 w2 w4 w5⟩
theorem TPoint.elem {w : World} {A : Option Addr} {n c : Nat} {xs : List TPoint} {bs : List Nat} (h : Sl w A n c xs bs) {k : Nat} (hk : k < n) :
    ∃ (b off : Nat) (x : TPoint) (A1 : Option Addr) (n1 c1 : Nat) (s1 : List Nat) (A2 : Option Addr) (n2 c2 : Nat) (s2 : List Nat) (A4 : Option Addr) (n4 c4 : Nat) (s4 : List Nat) (A5 : Option Addr) (n5 c5 : Nat) (s5 : List Nat), A = some ⟨b, off, none⟩ ∧ b < w.heap.size ∧ xs[k]? = some x ∧ w.cell? ⟨b, off + k * 6, none⟩ = some (.bool x.x.num.neg) ∧ w.cell? ⟨b, off + k * 6 + 1, none⟩ = some (.slice A1 n1 c1) ∧ w.cell? ⟨b, off + k * 6 + 2, none⟩ = some (.slice A2 n2 c2) ∧ w.cell? ⟨b, off + k * 6 + 3, none⟩ = some (.bool x.y.num.neg) ∧ w.cell? ⟨b, off + k * 6 + 4, none⟩ = some (.slice A4 n4 c4) ∧ w.cell? ⟨b, off + k * 6 + 5, none⟩ = some (.slice A5 n5 c5) ∧ Sl w A1 n1 c1 x.x.num.mag s1 ∧ Sl w A2 n2 c2 x.x.den s2 ∧ Sl w A4 n4 c4 x.y.num.mag s4 ∧ Sl w A5 n5 c5 x.y.den s5 ∧ ∀ g ∈ (s1 ++ (s2 ++ (s4 ++ (s5)))), g ∈ bs := by
  obtain ⟨b, off, x, cs, fs, hA, hb, hx, hc, ha, hg⟩ := Sl.getAt h hk
  obtain ⟨A1, n1, c1, s1, A2, n2, c2, s2, A4, n4, c4, s4, A5, n5, c5, s5, rfl, rfl, w1, w2, w4, w5⟩ := TPoint.open_ ha
  exact ⟨b, off, x, _, _, _, _, _, _, _, _, _, _, _, _, _, _, _, _, hA, hb, hx, hc 0 _ rfl, hc 1 _ rfl, hc 2 _ rfl, hc 3 _ rfl, hc 4 _ rfl, hc 5 _ rfl, w1, w2, w4, w5, hg⟩
theorem TPoint.elemA {w : World} {A : Option Addr} {n c : Nat} {xs : List TPoint} {bs : List Nat} (h : Sl w A n c xs bs) {k : Nat} (hk : k < n) :
    ∃ (b off : Nat) (x : TPoint) (A1 : Option Addr) (n1 c1 : Nat) (s1 : List Nat) (A2 : Option Addr) (n2 c2 : Nat) (s2 : List Nat) (A4 : Option Addr) (n4 c4 : Nat) (s4 : List Nat) (A5 : Option Addr) (n5 c5 : Nat) (s5 : List Nat), A = some ⟨b, off, none⟩ ∧ b < w.heap.size ∧ xs[k]? = some x ∧ w.cell? ⟨b, off + k * 6, none⟩ = some (.bool x.x.num.neg) ∧ w.cell? ⟨b, off + k * 6 + 1, none⟩ = some (.slice A1 n1 c1) ∧ w.cell? ⟨b, off + k * 6 + 2, none⟩ = some (.slice A2 n2 c2) ∧ w.cell? ⟨b, off + k * 6 + 3, none⟩ = some (.bool x.y.num.neg) ∧ w.cell? ⟨b, off + k * 6 + 4, none⟩ = some (.slice A4 n4 c4) ∧ w.cell? ⟨b, off + k * 6 + 5, none⟩ = some (.slice A5 n5 c5) ∧ Agg w (.agg #[.bool x.x.num.neg, .slice A1 n1 c1, .slice A2 n2 c2, .bool x.y.num.neg, .slice A4 n4 c4, .slice A5 n5 c5]) x (s1 ++ (s2 ++ (s4 ++ (s5)))) := by
  obtain ⟨b, off, x, cs, fs, hA, hb, hx, hc, ha, hg⟩ := Sl.getAt h hk
  obtain ⟨A1, n1, c1, s1, A2, n2, c2, s2, A4, n4, c4, s4, A5, n5, c5, s5, rfl, rfl, w1, w2, w4, w5⟩ := TPoint.open_ ha
  exact ⟨b, off, x, _, _, _, _, _, _, _, _, _, _, _, _, _, _, _, _, hA, hb, hx, hc 0 _ rfl, hc 1 _ rfl, hc 2 _ rfl, hc 3 _ rfl, hc 4 _ rfl, hc 5 _ rfl, _, rfl, ha⟩

structure TTri where
  a : Int
  b : Int
  c : Int
  region : Int
  level : Int
  deriving DecidableEq
instance : Dat TTri := Dat.via fun x => (x.a, x.b, x.c, x.region, x.level)
theorem TTri.open_ {w : World} {cs : List Value} {x : TTri} {bs : List Nat} (h : Dat.at_ w cs x bs) : cs = [.int .i64 x.a, .int .i64 x.b, .int .i64 x.c, .int .i64 x.region, .int .i64 x.level] ∧ bs = [] ∧ I64 x.a ∧ I64 x.b ∧ I64 x.c ∧ I64 x.region ∧ I64 x.level := by
  obtain ⟨p1, q1, u1, v1, rfl, rfl, e1, g1⟩ := h
  obtain ⟨rfl, rfl, w0⟩ := e1
  obtain ⟨p2, q2, u2, v2, rfl, rfl, e2, g2⟩ := g1
  obtain ⟨rfl, rfl, w1⟩ := e2
  obtain ⟨p3, q3, u3, v3, rfl, rfl, e3, g3⟩ := g2
  obtain ⟨rfl, rfl, w2⟩ := e3
  obtain ⟨p4, q4, u4, v4, rfl, rfl, e4, g4⟩ := g3
  obtain ⟨rfl, rfl, w3⟩ := e4
  obtain ⟨rfl, rfl, w4⟩ := g4
  exact ⟨rfl, by first | rfl | (simp; done) | simp [List.append_assoc], w0, w1, w2, w3, w4⟩
theorem TTri.shut {w : World} {x : TTri} (w0 : I64 x.a) (w1 : I64 x.b) (w2 : I64 x.c) (w3 : I64 x.region) (w4 : I64 x.level) : Dat.at_ w [.int .i64 x.a, .int .i64 x.b, .int .i64 x.c, .int .i64 x.region, .int .i64 x.level] x ([]) := by
  have h : Dat.at_ w _ x _ := ⟨_, _, _, _, rfl, rfl, ⟨rfl, rfl, w0⟩, ⟨_, _, _, _, rfl, rfl, ⟨rfl, rfl, w1⟩, ⟨_, _, _, _, rfl, rfl, ⟨rfl, rfl, w2⟩, ⟨_, _, _, _, rfl, rfl, ⟨rfl, rfl, w3⟩, ⟨rfl, rfl, w4⟩⟩⟩⟩⟩
  first | exact h | (simpa using h) | simpa [List.append_assoc] using h
theorem TTri.agg {w : World} {v : Value} {x : TTri} {bs : List Nat} (h : Agg w v x bs) : v = .agg #[.int .i64 x.a, .int .i64 x.b, .int .i64 x.c, .int .i64 x.region, .int .i64 x.level] ∧ bs = [] ∧ I64 x.a ∧ I64 x.b ∧ I64 x.c ∧ I64 x.region ∧ I64 x.level := by
  obtain ⟨cs, rfl, h⟩ := h
  obtain ⟨rfl, rfl, w0, w1, w2, w3, w4⟩ := TTri.open_ h
  exact ⟨rfl, rfl, w0, w1, w2, w3, w4⟩
theorem TTri.mkAgg {w : World} {x : TTri} (w0 : I64 x.a) (w1 : I64 x.b) (w2 : I64 x.c) (w3 : I64 x.region) (w4 : I64 x.level) : Agg w (.agg #[.int .i64 x.a, .int .i64 x.b, .int .i64 x.c, .int .i64 x.region, .int .i64 x.level]) x ([]) :=
  ⟨_, rfl, TTri.shut w0 w1 w2 w3 w4⟩
theorem TTri.elem {w : World} {A : Option Addr} {n c : Nat} {xs : List TTri} {bs : List Nat} (h : Sl w A n c xs bs) {k : Nat} (hk : k < n) :
    ∃ (b off : Nat) (x : TTri), A = some ⟨b, off, none⟩ ∧ b < w.heap.size ∧ xs[k]? = some x ∧ w.cell? ⟨b, off + k * 5, none⟩ = some (.int .i64 x.a) ∧ w.cell? ⟨b, off + k * 5 + 1, none⟩ = some (.int .i64 x.b) ∧ w.cell? ⟨b, off + k * 5 + 2, none⟩ = some (.int .i64 x.c) ∧ w.cell? ⟨b, off + k * 5 + 3, none⟩ = some (.int .i64 x.region) ∧ w.cell? ⟨b, off + k * 5 + 4, none⟩ = some (.int .i64 x.level) ∧ I64 x.a ∧ I64 x.b ∧ I64 x.c ∧ I64 x.region ∧ I64 x.level := by
  obtain ⟨b, off, x, cs, fs, hA, hb, hx, hc, ha, hg⟩ := Sl.getAt h hk
  obtain ⟨rfl, rfl, w0, w1, w2, w3, w4⟩ := TTri.open_ ha
  exact ⟨b, off, x, hA, hb, hx, hc 0 _ rfl, hc 1 _ rfl, hc 2 _ rfl, hc 3 _ rfl, hc 4 _ rfl, w0, w1, w2, w3, w4⟩
theorem TTri.elemA {w : World} {A : Option Addr} {n c : Nat} {xs : List TTri} {bs : List Nat} (h : Sl w A n c xs bs) {k : Nat} (hk : k < n) :
    ∃ (b off : Nat) (x : TTri), A = some ⟨b, off, none⟩ ∧ b < w.heap.size ∧ xs[k]? = some x ∧ w.cell? ⟨b, off + k * 5, none⟩ = some (.int .i64 x.a) ∧ w.cell? ⟨b, off + k * 5 + 1, none⟩ = some (.int .i64 x.b) ∧ w.cell? ⟨b, off + k * 5 + 2, none⟩ = some (.int .i64 x.c) ∧ w.cell? ⟨b, off + k * 5 + 3, none⟩ = some (.int .i64 x.region) ∧ w.cell? ⟨b, off + k * 5 + 4, none⟩ = some (.int .i64 x.level) ∧ Agg w (.agg #[.int .i64 x.a, .int .i64 x.b, .int .i64 x.c, .int .i64 x.region, .int .i64 x.level]) x ([]) := by
  obtain ⟨b, off, x, cs, fs, hA, hb, hx, hc, ha, hg⟩ := Sl.getAt h hk
  obtain ⟨rfl, rfl, w0, w1, w2, w3, w4⟩ := TTri.open_ ha
  exact ⟨b, off, x, hA, hb, hx, hc 0 _ rfl, hc 1 _ rfl, hc 2 _ rfl, hc 3 _ rfl, hc 4 _ rfl, _, rfl, ha⟩

structure TEdge where
  a : Int
  b : Int
  left : Int
  right : Int
  deriving DecidableEq
instance : Dat TEdge := Dat.via fun x => (x.a, x.b, x.left, x.right)
theorem TEdge.open_ {w : World} {cs : List Value} {x : TEdge} {bs : List Nat} (h : Dat.at_ w cs x bs) : cs = [.int .i64 x.a, .int .i64 x.b, .int .i64 x.left, .int .i64 x.right] ∧ bs = [] ∧ I64 x.a ∧ I64 x.b ∧ I64 x.left ∧ I64 x.right := by
  obtain ⟨p1, q1, u1, v1, rfl, rfl, e1, g1⟩ := h
  obtain ⟨rfl, rfl, w0⟩ := e1
  obtain ⟨p2, q2, u2, v2, rfl, rfl, e2, g2⟩ := g1
  obtain ⟨rfl, rfl, w1⟩ := e2
  obtain ⟨p3, q3, u3, v3, rfl, rfl, e3, g3⟩ := g2
  obtain ⟨rfl, rfl, w2⟩ := e3
  obtain ⟨rfl, rfl, w3⟩ := g3
  exact ⟨rfl, by first | rfl | (simp; done) | simp [List.append_assoc], w0, w1, w2, w3⟩
theorem TEdge.shut {w : World} {x : TEdge} (w0 : I64 x.a) (w1 : I64 x.b) (w2 : I64 x.left) (w3 : I64 x.right) : Dat.at_ w [.int .i64 x.a, .int .i64 x.b, .int .i64 x.left, .int .i64 x.right] x ([]) := by
  have h : Dat.at_ w _ x _ := ⟨_, _, _, _, rfl, rfl, ⟨rfl, rfl, w0⟩, ⟨_, _, _, _, rfl, rfl, ⟨rfl, rfl, w1⟩, ⟨_, _, _, _, rfl, rfl, ⟨rfl, rfl, w2⟩, ⟨rfl, rfl, w3⟩⟩⟩⟩
  first | exact h | (simpa using h) | simpa [List.append_assoc] using h
theorem TEdge.agg {w : World} {v : Value} {x : TEdge} {bs : List Nat} (h : Agg w v x bs) : v = .agg #[.int .i64 x.a, .int .i64 x.b, .int .i64 x.left, .int .i64 x.right] ∧ bs = [] ∧ I64 x.a ∧ I64 x.b ∧ I64 x.left ∧ I64 x.right := by
  obtain ⟨cs, rfl, h⟩ := h
  obtain ⟨rfl, rfl, w0, w1, w2, w3⟩ := TEdge.open_ h
  exact ⟨rfl, rfl, w0, w1, w2, w3⟩
theorem TEdge.mkAgg {w : World} {x : TEdge} (w0 : I64 x.a) (w1 : I64 x.b) (w2 : I64 x.left) (w3 : I64 x.right) : Agg w (.agg #[.int .i64 x.a, .int .i64 x.b, .int .i64 x.left, .int .i64 x.right]) x ([]) :=
  ⟨_, rfl, TEdge.shut w0 w1 w2 w3⟩
theorem TEdge.elem {w : World} {A : Option Addr} {n c : Nat} {xs : List TEdge} {bs : List Nat} (h : Sl w A n c xs bs) {k : Nat} (hk : k < n) :
    ∃ (b off : Nat) (x : TEdge), A = some ⟨b, off, none⟩ ∧ b < w.heap.size ∧ xs[k]? = some x ∧ w.cell? ⟨b, off + k * 4, none⟩ = some (.int .i64 x.a) ∧ w.cell? ⟨b, off + k * 4 + 1, none⟩ = some (.int .i64 x.b) ∧ w.cell? ⟨b, off + k * 4 + 2, none⟩ = some (.int .i64 x.left) ∧ w.cell? ⟨b, off + k * 4 + 3, none⟩ = some (.int .i64 x.right) ∧ I64 x.a ∧ I64 x.b ∧ I64 x.left ∧ I64 x.right := by
  obtain ⟨b, off, x, cs, fs, hA, hb, hx, hc, ha, hg⟩ := Sl.getAt h hk
  obtain ⟨rfl, rfl, w0, w1, w2, w3⟩ := TEdge.open_ ha
  exact ⟨b, off, x, hA, hb, hx, hc 0 _ rfl, hc 1 _ rfl, hc 2 _ rfl, hc 3 _ rfl, w0, w1, w2, w3⟩
theorem TEdge.elemA {w : World} {A : Option Addr} {n c : Nat} {xs : List TEdge} {bs : List Nat} (h : Sl w A n c xs bs) {k : Nat} (hk : k < n) :
    ∃ (b off : Nat) (x : TEdge), A = some ⟨b, off, none⟩ ∧ b < w.heap.size ∧ xs[k]? = some x ∧ w.cell? ⟨b, off + k * 4, none⟩ = some (.int .i64 x.a) ∧ w.cell? ⟨b, off + k * 4 + 1, none⟩ = some (.int .i64 x.b) ∧ w.cell? ⟨b, off + k * 4 + 2, none⟩ = some (.int .i64 x.left) ∧ w.cell? ⟨b, off + k * 4 + 3, none⟩ = some (.int .i64 x.right) ∧ Agg w (.agg #[.int .i64 x.a, .int .i64 x.b, .int .i64 x.left, .int .i64 x.right]) x ([]) := by
  obtain ⟨b, off, x, cs, fs, hA, hb, hx, hc, ha, hg⟩ := Sl.getAt h hk
  obtain ⟨rfl, rfl, w0, w1, w2, w3⟩ := TEdge.open_ ha
  exact ⟨b, off, x, hA, hb, hx, hc 0 _ rfl, hc 1 _ rfl, hc 2 _ rfl, hc 3 _ rfl, _, rfl, ha⟩

structure TMesh where
  points : List TPoint
  triangles : List TTri
  deriving DecidableEq
instance : Dat TMesh := Dat.via fun x => (x.points, x.triangles)
theorem TMesh.open_ {w : World} {cs : List Value} {x : TMesh} {bs : List Nat} (h : Dat.at_ w cs x bs) : ∃ (A0 : Option Addr) (n0 c0 : Nat) (s0 : List Nat) (A1 : Option Addr) (n1 c1 : Nat) (s1 : List Nat), cs = [.slice A0 n0 c0, .slice A1 n1 c1] ∧ bs = s0 ++ (s1) ∧ Sl w A0 n0 c0 x.points s0 ∧ Sl w A1 n1 c1 x.triangles s1 := by
  obtain ⟨p1, q1, u1, v1, rfl, rfl, e1, g1⟩ := h
  obtain ⟨A0, n0, c0, rfl, w0⟩ := e1
  obtain ⟨A1, n1, c1, rfl, w1⟩ := g1
  exact ⟨_, _, _, _, _, _, _, _, rfl, by first | rfl | (simp; done) | simp [List.append_assoc], w0, w1⟩
theorem TMesh.shut {w : World} {x : TMesh} {A0 : Option Addr} {n0 c0 : Nat} {s0 : List Nat} {A1 : Option Addr} {n1 c1 : Nat} {s1 : List Nat} (w0 : Sl w A0 n0 c0 x.points s0) (w1 : Sl w A1 n1 c1 x.triangles s1) : Dat.at_ w [.slice A0 n0 c0, .slice A1 n1 c1] x (s0 ++ (s1)) := by
  have h : Dat.at_ w _ x _ := ⟨_, _, _, _, rfl, rfl, ⟨_, _, _, rfl, w0⟩, ⟨_, _, _, rfl, w1⟩⟩
  first | exact h | (simpa using h) | simpa [List.append_assoc] using h
theorem TMesh.agg {w : World} {v : Value} {x : TMesh} {bs : List Nat} (h : Agg w v x bs) : ∃ (A0 : Option Addr) (n0 c0 : Nat) (s0 : List Nat) (A1 : Option Addr) (n1 c1 : Nat) (s1 : List Nat), v = .agg #[.slice A0 n0 c0, .slice A1 n1 c1] ∧ bs = s0 ++ (s1) ∧ Sl w A0 n0 c0 x.points s0 ∧ Sl w A1 n1 c1 x.triangles s1 := by
  obtain ⟨cs, rfl, h⟩ := h
  obtain ⟨A0, n0, c0, s0, A1, n1, c1, s1, rfl, rfl, w0, w1⟩ := TMesh.open_ h
  exact ⟨_, _, _, _, _, _, _, _, rfl, rfl, w0, w1⟩
theorem TMesh.mkAgg {w : World} {x : TMesh} {A0 : Option Addr} {n0 c0 : Nat} {s0 : List Nat} {A1 : Option Addr} {n1 c1 : Nat} {s1 : List Nat} (w0 : Sl w A0 n0 c0 x.points s0) (w1 : Sl w A1 n1 c1 x.triangles s1) : Agg w (.agg #[.slice A0 n0 c0, .slice A1 n1 c1]) x (s0 ++ (s1)) :=
  ⟨_, rfl, TMesh.shut w0 w1⟩
theorem TMesh.elem {w : World} {A : Option Addr} {n c : Nat} {xs : List TMesh} {bs : List Nat} (h : Sl w A n c xs bs) {k : Nat} (hk : k < n) :
    ∃ (b off : Nat) (x : TMesh) (A0 : Option Addr) (n0 c0 : Nat) (s0 : List Nat) (A1 : Option Addr) (n1 c1 : Nat) (s1 : List Nat), A = some ⟨b, off, none⟩ ∧ b < w.heap.size ∧ xs[k]? = some x ∧ w.cell? ⟨b, off + k * 2, none⟩ = some (.slice A0 n0 c0) ∧ w.cell? ⟨b, off + k * 2 + 1, none⟩ = some (.slice A1 n1 c1) ∧ Sl w A0 n0 c0 x.points s0 ∧ Sl w A1 n1 c1 x.triangles s1 ∧ ∀ g ∈ (s0 ++ (s1)), g ∈ bs := by
  obtain ⟨b, off, x, cs, fs, hA, hb, hx, hc, ha, hg⟩ := Sl.getAt h hk
  obtain ⟨A0, n0, c0, s0, A1, n1, c1, s1, rfl, rfl, w0, w1⟩ := TMesh.open_ ha
  exact ⟨b, off, x, _, _, _, _, _, _, _, _, hA, hb, hx, hc 0 _ rfl, hc 1 _ rfl, w0, w1, hg⟩
theorem TMesh.elemA {w : World} {A : Option Addr} {n c : Nat} {xs : List TMesh} {bs : List Nat} (h : Sl w A n c xs bs) {k : Nat} (hk : k < n) :
    ∃ (b off : Nat) (x : TMesh) (A0 : Option Addr) (n0 c0 : Nat) (s0 : List Nat) (A1 : Option Addr) (n1 c1 : Nat) (s1 : List Nat), A = some ⟨b, off, none⟩ ∧ b < w.heap.size ∧ xs[k]? = some x ∧ w.cell? ⟨b, off + k * 2, none⟩ = some (.slice A0 n0 c0) ∧ w.cell? ⟨b, off + k * 2 + 1, none⟩ = some (.slice A1 n1 c1) ∧ Agg w (.agg #[.slice A0 n0 c0, .slice A1 n1 c1]) x (s0 ++ (s1)) := by
  obtain ⟨b, off, x, cs, fs, hA, hb, hx, hc, ha, hg⟩ := Sl.getAt h hk
  obtain ⟨A0, n0, c0, s0, A1, n1, c1, s1, rfl, rfl, w0, w1⟩ := TMesh.open_ ha
  exact ⟨b, off, x, _, _, _, _, _, _, _, _, hA, hb, hx, hc 0 _ rfl, hc 1 _ rfl, _, rfl, ha⟩

structure TProblem where
  mesh : TMesh
  diffusion : List TRat
  source : List TRat
  deriving DecidableEq
instance : Dat TProblem := Dat.via fun x => (x.mesh, x.diffusion, x.source)
theorem TProblem.open_ {w : World} {cs : List Value} {x : TProblem} {bs : List Nat} (h : Dat.at_ w cs x bs) : ∃ (A0 : Option Addr) (n0 c0 : Nat) (s0 : List Nat) (A1 : Option Addr) (n1 c1 : Nat) (s1 : List Nat) (A2 : Option Addr) (n2 c2 : Nat) (s2 : List Nat) (A3 : Option Addr) (n3 c3 : Nat) (s3 : List Nat), cs = [.slice A0 n0 c0, .slice A1 n1 c1, .slice A2 n2 c2, .slice A3 n3 c3] ∧ bs = s0 ++ (s1 ++ (s2 ++ (s3))) ∧ Sl w A0 n0 c0 x.mesh.points s0 ∧ Sl w A1 n1 c1 x.mesh.triangles s1 ∧ Sl w A2 n2 c2 x.diffusion s2 ∧ Sl w A3 n3 c3 x.source s3 := by
  obtain ⟨p1, q1, u1, v1, rfl, rfl, e1, g1⟩ := h
  obtain ⟨p2, q2, u2, v2, rfl, rfl, e2, g2⟩ := e1
  obtain ⟨A0, n0, c0, rfl, w0⟩ := e2
  obtain ⟨A1, n1, c1, rfl, w1⟩ := g2
  obtain ⟨p3, q3, u3, v3, rfl, rfl, e3, g3⟩ := g1
  obtain ⟨A2, n2, c2, rfl, w2⟩ := e3
  obtain ⟨A3, n3, c3, rfl, w3⟩ := g3
  exact ⟨_, _, _, _, _, _, _, _, _, _, _, _, _, _, _, _, rfl, by first | rfl | (simp; done) | simp [List.append_assoc], w0, w1, w2, w3⟩
theorem TProblem.shut {w : World} {x : TProblem} {A0 : Option Addr} {n0 c0 : Nat} {s0 : List Nat} {A1 : Option Addr} {n1 c1 : Nat} {s1 : List Nat} {A2 : Option Addr} {n2 c2 : Nat} {s2 : List Nat} {A3 : Option Addr} {n3 c3 : Nat} {s3 : List Nat} (w0 : Sl w A0 n0 c0 x.mesh.points s0) (w1 : Sl w A1 n1 c1 x.mesh.triangles s1) (w2 : Sl w A2 n2 c2 x.diffusion s2) (w3 : Sl w A3 n3 c3 x.source s3) : Dat.at_ w [.slice A0 n0 c0, .slice A1 n1 c1, .slice A2 n2 c2, .slice A3 n3 c3] x (s0 ++ (s1 ++ (s2 ++ (s3)))) := by
  have h : Dat.at_ w _ x _ := ⟨_, _, _, _, rfl, rfl, ⟨_, _, _, _, rfl, rfl, ⟨_, _, _, rfl, w0⟩, ⟨_, _, _, rfl, w1⟩⟩, ⟨_, _, _, _, rfl, rfl, ⟨_, _, _, rfl, w2⟩, ⟨_, _, _, rfl, w3⟩⟩⟩
  first | exact h | (simpa using h) | simpa [List.append_assoc] using h
theorem TProblem.agg {w : World} {v : Value} {x : TProblem} {bs : List Nat} (h : Agg w v x bs) : ∃ (A0 : Option Addr) (n0 c0 : Nat) (s0 : List Nat) (A1 : Option Addr) (n1 c1 : Nat) (s1 : List Nat) (A2 : Option Addr) (n2 c2 : Nat) (s2 : List Nat) (A3 : Option Addr) (n3 c3 : Nat) (s3 : List Nat), v = .agg #[.slice A0 n0 c0, .slice A1 n1 c1, .slice A2 n2 c2, .slice A3 n3 c3] ∧ bs = s0 ++ (s1 ++ (s2 ++ (s3))) ∧ Sl w A0 n0 c0 x.mesh.points s0 ∧ Sl w A1 n1 c1 x.mesh.triangles s1 ∧ Sl w A2 n2 c2 x.diffusion s2 ∧ Sl w A3 n3 c3 x.source s3 := by
  obtain ⟨cs, rfl, h⟩ := h
  obtain ⟨A0, n0, c0, s0, A1, n1, c1, s1, A2, n2, c2, s2, A3, n3, c3, s3, rfl, rfl, w0, w1, w2, w3⟩ := TProblem.open_ h
  exact ⟨_, _, _, _, _, _, _, _, _, _, _, _, _, _, _, _, rfl, rfl, w0, w1, w2, w3⟩
theorem TProblem.mkAgg {w : World} {x : TProblem} {A0 : Option Addr} {n0 c0 : Nat} {s0 : List Nat} {A1 : Option Addr} {n1 c1 : Nat} {s1 : List Nat} {A2 : Option Addr} {n2 c2 : Nat} {s2 : List Nat} {A3 : Option Addr} {n3 c3 : Nat} {s3 : List Nat} (w0 : Sl w A0 n0 c0 x.mesh.points s0) (w1 : Sl w A1 n1 c1 x.mesh.triangles s1) (w2 : Sl w A2 n2 c2 x.diffusion s2) (w3 : Sl w A3 n3 c3 x.source s3) : Agg w (.agg #[.slice A0 n0 c0, .slice A1 n1 c1, .slice A2 n2 c2, .slice A3 n3 c3]) x (s0 ++ (s1 ++ (s2 ++ (s3)))) :=
  ⟨_, rfl, TProblem.shut w0 w1 w2 w3⟩
theorem TProblem.elem {w : World} {A : Option Addr} {n c : Nat} {xs : List TProblem} {bs : List Nat} (h : Sl w A n c xs bs) {k : Nat} (hk : k < n) :
    ∃ (b off : Nat) (x : TProblem) (A0 : Option Addr) (n0 c0 : Nat) (s0 : List Nat) (A1 : Option Addr) (n1 c1 : Nat) (s1 : List Nat) (A2 : Option Addr) (n2 c2 : Nat) (s2 : List Nat) (A3 : Option Addr) (n3 c3 : Nat) (s3 : List Nat), A = some ⟨b, off, none⟩ ∧ b < w.heap.size ∧ xs[k]? = some x ∧ w.cell? ⟨b, off + k * 4, none⟩ = some (.slice A0 n0 c0) ∧ w.cell? ⟨b, off + k * 4 + 1, none⟩ = some (.slice A1 n1 c1) ∧ w.cell? ⟨b, off + k * 4 + 2, none⟩ = some (.slice A2 n2 c2) ∧ w.cell? ⟨b, off + k * 4 + 3, none⟩ = some (.slice A3 n3 c3) ∧ Sl w A0 n0 c0 x.mesh.points s0 ∧ Sl w A1 n1 c1 x.mesh.triangles s1 ∧ Sl w A2 n2 c2 x.diffusion s2 ∧ Sl w A3 n3 c3 x.source s3 ∧ ∀ g ∈ (s0 ++ (s1 ++ (s2 ++ (s3)))), g ∈ bs := by
  obtain ⟨b, off, x, cs, fs, hA, hb, hx, hc, ha, hg⟩ := Sl.getAt h hk
  obtain ⟨A0, n0, c0, s0, A1, n1, c1, s1, A2, n2, c2, s2, A3, n3, c3, s3, rfl, rfl, w0, w1, w2, w3⟩ := TProblem.open_ ha
  exact ⟨b, off, x, _, _, _, _, _, _, _, _, _, _, _, _, _, _, _, _, hA, hb, hx, hc 0 _ rfl, hc 1 _ rfl, hc 2 _ rfl, hc 3 _ rfl, w0, w1, w2, w3, hg⟩
theorem TProblem.elemA {w : World} {A : Option Addr} {n c : Nat} {xs : List TProblem} {bs : List Nat} (h : Sl w A n c xs bs) {k : Nat} (hk : k < n) :
    ∃ (b off : Nat) (x : TProblem) (A0 : Option Addr) (n0 c0 : Nat) (s0 : List Nat) (A1 : Option Addr) (n1 c1 : Nat) (s1 : List Nat) (A2 : Option Addr) (n2 c2 : Nat) (s2 : List Nat) (A3 : Option Addr) (n3 c3 : Nat) (s3 : List Nat), A = some ⟨b, off, none⟩ ∧ b < w.heap.size ∧ xs[k]? = some x ∧ w.cell? ⟨b, off + k * 4, none⟩ = some (.slice A0 n0 c0) ∧ w.cell? ⟨b, off + k * 4 + 1, none⟩ = some (.slice A1 n1 c1) ∧ w.cell? ⟨b, off + k * 4 + 2, none⟩ = some (.slice A2 n2 c2) ∧ w.cell? ⟨b, off + k * 4 + 3, none⟩ = some (.slice A3 n3 c3) ∧ Agg w (.agg #[.slice A0 n0 c0, .slice A1 n1 c1, .slice A2 n2 c2, .slice A3 n3 c3]) x (s0 ++ (s1 ++ (s2 ++ (s3)))) := by
  obtain ⟨b, off, x, cs, fs, hA, hb, hx, hc, ha, hg⟩ := Sl.getAt h hk
  obtain ⟨A0, n0, c0, s0, A1, n1, c1, s1, A2, n2, c2, s2, A3, n3, c3, s3, rfl, rfl, w0, w1, w2, w3⟩ := TProblem.open_ ha
  exact ⟨b, off, x, _, _, _, _, _, _, _, _, _, _, _, _, _, _, _, _, hA, hb, hx, hc 0 _ rfl, hc 1 _ rfl, hc 2 _ rfl, hc 3 _ rfl, _, rfl, ha⟩

structure TRow where
  cols : List Int
  vals : List TRat
  deriving DecidableEq
instance : Dat TRow := Dat.via fun x => (x.cols, x.vals)
theorem TRow.open_ {w : World} {cs : List Value} {x : TRow} {bs : List Nat} (h : Dat.at_ w cs x bs) : ∃ (A0 : Option Addr) (n0 c0 : Nat) (s0 : List Nat) (A1 : Option Addr) (n1 c1 : Nat) (s1 : List Nat), cs = [.slice A0 n0 c0, .slice A1 n1 c1] ∧ bs = s0 ++ (s1) ∧ Sl w A0 n0 c0 x.cols s0 ∧ Sl w A1 n1 c1 x.vals s1 := by
  obtain ⟨p1, q1, u1, v1, rfl, rfl, e1, g1⟩ := h
  obtain ⟨A0, n0, c0, rfl, w0⟩ := e1
  obtain ⟨A1, n1, c1, rfl, w1⟩ := g1
  exact ⟨_, _, _, _, _, _, _, _, rfl, by first | rfl | (simp; done) | simp [List.append_assoc], w0, w1⟩
theorem TRow.shut {w : World} {x : TRow} {A0 : Option Addr} {n0 c0 : Nat} {s0 : List Nat} {A1 : Option Addr} {n1 c1 : Nat} {s1 : List Nat} (w0 : Sl w A0 n0 c0 x.cols s0) (w1 : Sl w A1 n1 c1 x.vals s1) : Dat.at_ w [.slice A0 n0 c0, .slice A1 n1 c1] x (s0 ++ (s1)) := by
  have h : Dat.at_ w _ x _ := ⟨_, _, _, _, rfl, rfl, ⟨_, _, _, rfl, w0⟩, ⟨_, _, _, rfl, w1⟩⟩
  first | exact h | (simpa using h) | simpa [List.append_assoc] using h
theorem TRow.agg {w : World} {v : Value} {x : TRow} {bs : List Nat} (h : Agg w v x bs) : ∃ (A0 : Option Addr) (n0 c0 : Nat) (s0 : List Nat) (A1 : Option Addr) (n1 c1 : Nat) (s1 : List Nat), v = .agg #[.slice A0 n0 c0, .slice A1 n1 c1] ∧ bs = s0 ++ (s1) ∧ Sl w A0 n0 c0 x.cols s0 ∧ Sl w A1 n1 c1 x.vals s1 := by
  obtain ⟨cs, rfl, h⟩ := h
  obtain ⟨A0, n0, c0, s0, A1, n1, c1, s1, rfl, rfl, w0, w1⟩ := TRow.open_ h
  exact ⟨_, _, _, _, _, _, _, _, rfl, rfl, w0, w1⟩
theorem TRow.mkAgg {w : World} {x : TRow} {A0 : Option Addr} {n0 c0 : Nat} {s0 : List Nat} {A1 : Option Addr} {n1 c1 : Nat} {s1 : List Nat} (w0 : Sl w A0 n0 c0 x.cols s0) (w1 : Sl w A1 n1 c1 x.vals s1) : Agg w (.agg #[.slice A0 n0 c0, .slice A1 n1 c1]) x (s0 ++ (s1)) :=
  ⟨_, rfl, TRow.shut w0 w1⟩
theorem TRow.elem {w : World} {A : Option Addr} {n c : Nat} {xs : List TRow} {bs : List Nat} (h : Sl w A n c xs bs) {k : Nat} (hk : k < n) :
    ∃ (b off : Nat) (x : TRow) (A0 : Option Addr) (n0 c0 : Nat) (s0 : List Nat) (A1 : Option Addr) (n1 c1 : Nat) (s1 : List Nat), A = some ⟨b, off, none⟩ ∧ b < w.heap.size ∧ xs[k]? = some x ∧ w.cell? ⟨b, off + k * 2, none⟩ = some (.slice A0 n0 c0) ∧ w.cell? ⟨b, off + k * 2 + 1, none⟩ = some (.slice A1 n1 c1) ∧ Sl w A0 n0 c0 x.cols s0 ∧ Sl w A1 n1 c1 x.vals s1 ∧ ∀ g ∈ (s0 ++ (s1)), g ∈ bs := by
  obtain ⟨b, off, x, cs, fs, hA, hb, hx, hc, ha, hg⟩ := Sl.getAt h hk
  obtain ⟨A0, n0, c0, s0, A1, n1, c1, s1, rfl, rfl, w0, w1⟩ := TRow.open_ ha
  exact ⟨b, off, x, _, _, _, _, _, _, _, _, hA, hb, hx, hc 0 _ rfl, hc 1 _ rfl, w0, w1, hg⟩
theorem TRow.elemA {w : World} {A : Option Addr} {n c : Nat} {xs : List TRow} {bs : List Nat} (h : Sl w A n c xs bs) {k : Nat} (hk : k < n) :
    ∃ (b off : Nat) (x : TRow) (A0 : Option Addr) (n0 c0 : Nat) (s0 : List Nat) (A1 : Option Addr) (n1 c1 : Nat) (s1 : List Nat), A = some ⟨b, off, none⟩ ∧ b < w.heap.size ∧ xs[k]? = some x ∧ w.cell? ⟨b, off + k * 2, none⟩ = some (.slice A0 n0 c0) ∧ w.cell? ⟨b, off + k * 2 + 1, none⟩ = some (.slice A1 n1 c1) ∧ Agg w (.agg #[.slice A0 n0 c0, .slice A1 n1 c1]) x (s0 ++ (s1)) := by
  obtain ⟨b, off, x, cs, fs, hA, hb, hx, hc, ha, hg⟩ := Sl.getAt h hk
  obtain ⟨A0, n0, c0, s0, A1, n1, c1, s1, rfl, rfl, w0, w1⟩ := TRow.open_ ha
  exact ⟨b, off, x, _, _, _, _, _, _, _, _, hA, hb, hx, hc 0 _ rfl, hc 1 _ rfl, _, rfl, ha⟩

structure TMatrix where
  rows : List TRow
  deriving DecidableEq
instance : Dat TMatrix := Dat.via fun x => x.rows
theorem TMatrix.open_ {w : World} {cs : List Value} {x : TMatrix} {bs : List Nat} (h : Dat.at_ w cs x bs) : ∃ (A0 : Option Addr) (n0 c0 : Nat) (s0 : List Nat), cs = [.slice A0 n0 c0] ∧ bs = s0 ∧ Sl w A0 n0 c0 x.rows s0 := by
  obtain ⟨A0, n0, c0, rfl, w0⟩ := h
  exact ⟨_, _, _, _, rfl, by first | rfl | (simp; done) | simp [List.append_assoc], w0⟩
theorem TMatrix.shut {w : World} {x : TMatrix} {A0 : Option Addr} {n0 c0 : Nat} {s0 : List Nat} (w0 : Sl w A0 n0 c0 x.rows s0) : Dat.at_ w [.slice A0 n0 c0] x (s0) := by
  have h : Dat.at_ w _ x _ := ⟨_, _, _, rfl, w0⟩
  first | exact h | (simpa using h) | simpa [List.append_assoc] using h
theorem TMatrix.agg {w : World} {v : Value} {x : TMatrix} {bs : List Nat} (h : Agg w v x bs) : ∃ (A0 : Option Addr) (n0 c0 : Nat) (s0 : List Nat), v = .agg #[.slice A0 n0 c0] ∧ bs = s0 ∧ Sl w A0 n0 c0 x.rows s0 := by
  obtain ⟨cs, rfl, h⟩ := h
  obtain ⟨A0, n0, c0, s0, rfl, rfl, w0⟩ := TMatrix.open_ h
  exact ⟨_, _, _, _, rfl, rfl, w0⟩
theorem TMatrix.mkAgg {w : World} {x : TMatrix} {A0 : Option Addr} {n0 c0 : Nat} {s0 : List Nat} (w0 : Sl w A0 n0 c0 x.rows s0) : Agg w (.agg #[.slice A0 n0 c0]) x (s0) :=
  ⟨_, rfl, TMatrix.shut w0⟩

structure TFactor where
  lower : List (List TRat)
  pivots : List TRat
  deriving DecidableEq
instance : Dat TFactor := Dat.via fun x => (x.lower, x.pivots)
theorem TFactor.open_ {w : World} {cs : List Value} {x : TFactor} {bs : List Nat} (h : Dat.at_ w cs x bs) : ∃ (A0 : Option Addr) (n0 c0 : Nat) (s0 : List Nat) (A1 : Option Addr) (n1 c1 : Nat) (s1 : List Nat), cs = [.slice A0 n0 c0, .slice A1 n1 c1] ∧ bs = s0 ++ (s1) ∧ Sl w A0 n0 c0 x.lower s0 ∧ Sl w A1 n1 c1 x.pivots s1 := by
  obtain ⟨p1, q1, u1, v1, rfl, rfl, e1, g1⟩ := h
  obtain ⟨A0, n0, c0, rfl, w0⟩ := e1
  obtain ⟨A1, n1, c1, rfl, w1⟩ := g1
  exact ⟨_, _, _, _, _, _, _, _, rfl, by first | rfl | (simp; done) | simp [List.append_assoc], w0, w1⟩
theorem TFactor.shut {w : World} {x : TFactor} {A0 : Option Addr} {n0 c0 : Nat} {s0 : List Nat} {A1 : Option Addr} {n1 c1 : Nat} {s1 : List Nat} (w0 : Sl w A0 n0 c0 x.lower s0) (w1 : Sl w A1 n1 c1 x.pivots s1) : Dat.at_ w [.slice A0 n0 c0, .slice A1 n1 c1] x (s0 ++ (s1)) := by
  have h : Dat.at_ w _ x _ := ⟨_, _, _, _, rfl, rfl, ⟨_, _, _, rfl, w0⟩, ⟨_, _, _, rfl, w1⟩⟩
  first | exact h | (simpa using h) | simpa [List.append_assoc] using h
theorem TFactor.agg {w : World} {v : Value} {x : TFactor} {bs : List Nat} (h : Agg w v x bs) : ∃ (A0 : Option Addr) (n0 c0 : Nat) (s0 : List Nat) (A1 : Option Addr) (n1 c1 : Nat) (s1 : List Nat), v = .agg #[.slice A0 n0 c0, .slice A1 n1 c1] ∧ bs = s0 ++ (s1) ∧ Sl w A0 n0 c0 x.lower s0 ∧ Sl w A1 n1 c1 x.pivots s1 := by
  obtain ⟨cs, rfl, h⟩ := h
  obtain ⟨A0, n0, c0, s0, A1, n1, c1, s1, rfl, rfl, w0, w1⟩ := TFactor.open_ h
  exact ⟨_, _, _, _, _, _, _, _, rfl, rfl, w0, w1⟩
theorem TFactor.mkAgg {w : World} {x : TFactor} {A0 : Option Addr} {n0 c0 : Nat} {s0 : List Nat} {A1 : Option Addr} {n1 c1 : Nat} {s1 : List Nat} (w0 : Sl w A0 n0 c0 x.lower s0) (w1 : Sl w A1 n1 c1 x.pivots s1) : Agg w (.agg #[.slice A0 n0 c0, .slice A1 n1 c1]) x (s0 ++ (s1)) :=
  ⟨_, rfl, TFactor.shut w0 w1⟩
theorem TFactor.elem {w : World} {A : Option Addr} {n c : Nat} {xs : List TFactor} {bs : List Nat} (h : Sl w A n c xs bs) {k : Nat} (hk : k < n) :
    ∃ (b off : Nat) (x : TFactor) (A0 : Option Addr) (n0 c0 : Nat) (s0 : List Nat) (A1 : Option Addr) (n1 c1 : Nat) (s1 : List Nat), A = some ⟨b, off, none⟩ ∧ b < w.heap.size ∧ xs[k]? = some x ∧ w.cell? ⟨b, off + k * 2, none⟩ = some (.slice A0 n0 c0) ∧ w.cell? ⟨b, off + k * 2 + 1, none⟩ = some (.slice A1 n1 c1) ∧ Sl w A0 n0 c0 x.lower s0 ∧ Sl w A1 n1 c1 x.pivots s1 ∧ ∀ g ∈ (s0 ++ (s1)), g ∈ bs := by
  obtain ⟨b, off, x, cs, fs, hA, hb, hx, hc, ha, hg⟩ := Sl.getAt h hk
  obtain ⟨A0, n0, c0, s0, A1, n1, c1, s1, rfl, rfl, w0, w1⟩ := TFactor.open_ ha
  exact ⟨b, off, x, _, _, _, _, _, _, _, _, hA, hb, hx, hc 0 _ rfl, hc 1 _ rfl, w0, w1, hg⟩
theorem TFactor.elemA {w : World} {A : Option Addr} {n c : Nat} {xs : List TFactor} {bs : List Nat} (h : Sl w A n c xs bs) {k : Nat} (hk : k < n) :
    ∃ (b off : Nat) (x : TFactor) (A0 : Option Addr) (n0 c0 : Nat) (s0 : List Nat) (A1 : Option Addr) (n1 c1 : Nat) (s1 : List Nat), A = some ⟨b, off, none⟩ ∧ b < w.heap.size ∧ xs[k]? = some x ∧ w.cell? ⟨b, off + k * 2, none⟩ = some (.slice A0 n0 c0) ∧ w.cell? ⟨b, off + k * 2 + 1, none⟩ = some (.slice A1 n1 c1) ∧ Agg w (.agg #[.slice A0 n0 c0, .slice A1 n1 c1]) x (s0 ++ (s1)) := by
  obtain ⟨b, off, x, cs, fs, hA, hb, hx, hc, ha, hg⟩ := Sl.getAt h hk
  obtain ⟨A0, n0, c0, s0, A1, n1, c1, s1, rfl, rfl, w0, w1⟩ := TFactor.open_ ha
  exact ⟨b, off, x, _, _, _, _, _, _, _, _, hA, hb, hx, hc 0 _ rfl, hc 1 _ rfl, _, rfl, ha⟩

structure TIterate where
  x : List TRat
  r : List TRat
  p : List TRat
  deriving DecidableEq
instance : Dat TIterate := Dat.via fun x => (x.x, x.r, x.p)
theorem TIterate.open_ {w : World} {cs : List Value} {x : TIterate} {bs : List Nat} (h : Dat.at_ w cs x bs) : ∃ (A0 : Option Addr) (n0 c0 : Nat) (s0 : List Nat) (A1 : Option Addr) (n1 c1 : Nat) (s1 : List Nat) (A2 : Option Addr) (n2 c2 : Nat) (s2 : List Nat), cs = [.slice A0 n0 c0, .slice A1 n1 c1, .slice A2 n2 c2] ∧ bs = s0 ++ (s1 ++ (s2)) ∧ Sl w A0 n0 c0 x.x s0 ∧ Sl w A1 n1 c1 x.r s1 ∧ Sl w A2 n2 c2 x.p s2 := by
  obtain ⟨p1, q1, u1, v1, rfl, rfl, e1, g1⟩ := h
  obtain ⟨A0, n0, c0, rfl, w0⟩ := e1
  obtain ⟨p2, q2, u2, v2, rfl, rfl, e2, g2⟩ := g1
  obtain ⟨A1, n1, c1, rfl, w1⟩ := e2
  obtain ⟨A2, n2, c2, rfl, w2⟩ := g2
  exact ⟨_, _, _, _, _, _, _, _, _, _, _, _, rfl, by first | rfl | (simp; done) | simp [List.append_assoc], w0, w1, w2⟩
theorem TIterate.shut {w : World} {x : TIterate} {A0 : Option Addr} {n0 c0 : Nat} {s0 : List Nat} {A1 : Option Addr} {n1 c1 : Nat} {s1 : List Nat} {A2 : Option Addr} {n2 c2 : Nat} {s2 : List Nat} (w0 : Sl w A0 n0 c0 x.x s0) (w1 : Sl w A1 n1 c1 x.r s1) (w2 : Sl w A2 n2 c2 x.p s2) : Dat.at_ w [.slice A0 n0 c0, .slice A1 n1 c1, .slice A2 n2 c2] x (s0 ++ (s1 ++ (s2))) := by
  have h : Dat.at_ w _ x _ := ⟨_, _, _, _, rfl, rfl, ⟨_, _, _, rfl, w0⟩, ⟨_, _, _, _, rfl, rfl, ⟨_, _, _, rfl, w1⟩, ⟨_, _, _, rfl, w2⟩⟩⟩
  first | exact h | (simpa using h) | simpa [List.append_assoc] using h
theorem TIterate.agg {w : World} {v : Value} {x : TIterate} {bs : List Nat} (h : Agg w v x bs) : ∃ (A0 : Option Addr) (n0 c0 : Nat) (s0 : List Nat) (A1 : Option Addr) (n1 c1 : Nat) (s1 : List Nat) (A2 : Option Addr) (n2 c2 : Nat) (s2 : List Nat), v = .agg #[.slice A0 n0 c0, .slice A1 n1 c1, .slice A2 n2 c2] ∧ bs = s0 ++ (s1 ++ (s2)) ∧ Sl w A0 n0 c0 x.x s0 ∧ Sl w A1 n1 c1 x.r s1 ∧ Sl w A2 n2 c2 x.p s2 := by
  obtain ⟨cs, rfl, h⟩ := h
  obtain ⟨A0, n0, c0, s0, A1, n1, c1, s1, A2, n2, c2, s2, rfl, rfl, w0, w1, w2⟩ := TIterate.open_ h
  exact ⟨_, _, _, _, _, _, _, _, _, _, _, _, rfl, rfl, w0, w1, w2⟩
theorem TIterate.mkAgg {w : World} {x : TIterate} {A0 : Option Addr} {n0 c0 : Nat} {s0 : List Nat} {A1 : Option Addr} {n1 c1 : Nat} {s1 : List Nat} {A2 : Option Addr} {n2 c2 : Nat} {s2 : List Nat} (w0 : Sl w A0 n0 c0 x.x s0) (w1 : Sl w A1 n1 c1 x.r s1) (w2 : Sl w A2 n2 c2 x.p s2) : Agg w (.agg #[.slice A0 n0 c0, .slice A1 n1 c1, .slice A2 n2 c2]) x (s0 ++ (s1 ++ (s2))) :=
  ⟨_, rfl, TIterate.shut w0 w1 w2⟩
theorem TIterate.elem {w : World} {A : Option Addr} {n c : Nat} {xs : List TIterate} {bs : List Nat} (h : Sl w A n c xs bs) {k : Nat} (hk : k < n) :
    ∃ (b off : Nat) (x : TIterate) (A0 : Option Addr) (n0 c0 : Nat) (s0 : List Nat) (A1 : Option Addr) (n1 c1 : Nat) (s1 : List Nat) (A2 : Option Addr) (n2 c2 : Nat) (s2 : List Nat), A = some ⟨b, off, none⟩ ∧ b < w.heap.size ∧ xs[k]? = some x ∧ w.cell? ⟨b, off + k * 3, none⟩ = some (.slice A0 n0 c0) ∧ w.cell? ⟨b, off + k * 3 + 1, none⟩ = some (.slice A1 n1 c1) ∧ w.cell? ⟨b, off + k * 3 + 2, none⟩ = some (.slice A2 n2 c2) ∧ Sl w A0 n0 c0 x.x s0 ∧ Sl w A1 n1 c1 x.r s1 ∧ Sl w A2 n2 c2 x.p s2 ∧ ∀ g ∈ (s0 ++ (s1 ++ (s2))), g ∈ bs := by
  obtain ⟨b, off, x, cs, fs, hA, hb, hx, hc, ha, hg⟩ := Sl.getAt h hk
  obtain ⟨A0, n0, c0, s0, A1, n1, c1, s1, A2, n2, c2, s2, rfl, rfl, w0, w1, w2⟩ := TIterate.open_ ha
  exact ⟨b, off, x, _, _, _, _, _, _, _, _, _, _, _, _, hA, hb, hx, hc 0 _ rfl, hc 1 _ rfl, hc 2 _ rfl, w0, w1, w2, hg⟩
theorem TIterate.elemA {w : World} {A : Option Addr} {n c : Nat} {xs : List TIterate} {bs : List Nat} (h : Sl w A n c xs bs) {k : Nat} (hk : k < n) :
    ∃ (b off : Nat) (x : TIterate) (A0 : Option Addr) (n0 c0 : Nat) (s0 : List Nat) (A1 : Option Addr) (n1 c1 : Nat) (s1 : List Nat) (A2 : Option Addr) (n2 c2 : Nat) (s2 : List Nat), A = some ⟨b, off, none⟩ ∧ b < w.heap.size ∧ xs[k]? = some x ∧ w.cell? ⟨b, off + k * 3, none⟩ = some (.slice A0 n0 c0) ∧ w.cell? ⟨b, off + k * 3 + 1, none⟩ = some (.slice A1 n1 c1) ∧ w.cell? ⟨b, off + k * 3 + 2, none⟩ = some (.slice A2 n2 c2) ∧ Agg w (.agg #[.slice A0 n0 c0, .slice A1 n1 c1, .slice A2 n2 c2]) x (s0 ++ (s1 ++ (s2))) := by
  obtain ⟨b, off, x, cs, fs, hA, hb, hx, hc, ha, hg⟩ := Sl.getAt h hk
  obtain ⟨A0, n0, c0, s0, A1, n1, c1, s1, A2, n2, c2, s2, rfl, rfl, w0, w1, w2⟩ := TIterate.open_ ha
  exact ⟨b, off, x, _, _, _, _, _, _, _, _, _, _, _, _, hA, hb, hx, hc 0 _ rfl, hc 1 _ rfl, hc 2 _ rfl, _, rfl, ha⟩

structure TFan where
  triangles : List Int
  spokes : List Int
  closed : Bool
  deriving DecidableEq
instance : Dat TFan := Dat.via fun x => (x.triangles, x.spokes, x.closed)
theorem TFan.open_ {w : World} {cs : List Value} {x : TFan} {bs : List Nat} (h : Dat.at_ w cs x bs) : ∃ (A0 : Option Addr) (n0 c0 : Nat) (s0 : List Nat) (A1 : Option Addr) (n1 c1 : Nat) (s1 : List Nat), cs = [.slice A0 n0 c0, .slice A1 n1 c1, .bool x.closed] ∧ bs = s0 ++ (s1) ∧ Sl w A0 n0 c0 x.triangles s0 ∧ Sl w A1 n1 c1 x.spokes s1 := by
  obtain ⟨p1, q1, u1, v1, rfl, rfl, e1, g1⟩ := h
  obtain ⟨A0, n0, c0, rfl, w0⟩ := e1
  obtain ⟨p2, q2, u2, v2, rfl, rfl, e2, g2⟩ := g1
  obtain ⟨A1, n1, c1, rfl, w1⟩ := e2
  obtain ⟨rfl, rfl⟩ := g2
  exact ⟨_, _, _, _, _, _, _, _, rfl, by first | rfl | (simp; done) | simp [List.append_assoc], w0, w1⟩
theorem TFan.shut {w : World} {x : TFan} {A0 : Option Addr} {n0 c0 : Nat} {s0 : List Nat} {A1 : Option Addr} {n1 c1 : Nat} {s1 : List Nat} (w0 : Sl w A0 n0 c0 x.triangles s0) (w1 : Sl w A1 n1 c1 x.spokes s1) : Dat.at_ w [.slice A0 n0 c0, .slice A1 n1 c1, .bool x.closed] x (s0 ++ (s1)) := by
  have h : Dat.at_ w _ x _ := ⟨_, _, _, _, rfl, rfl, ⟨_, _, _, rfl, w0⟩, ⟨_, _, _, _, rfl, rfl, ⟨_, _, _, rfl, w1⟩, ⟨rfl, rfl⟩⟩⟩
  first | exact h | (simpa using h) | simpa [List.append_assoc] using h
theorem TFan.agg {w : World} {v : Value} {x : TFan} {bs : List Nat} (h : Agg w v x bs) : ∃ (A0 : Option Addr) (n0 c0 : Nat) (s0 : List Nat) (A1 : Option Addr) (n1 c1 : Nat) (s1 : List Nat), v = .agg #[.slice A0 n0 c0, .slice A1 n1 c1, .bool x.closed] ∧ bs = s0 ++ (s1) ∧ Sl w A0 n0 c0 x.triangles s0 ∧ Sl w A1 n1 c1 x.spokes s1 := by
  obtain ⟨cs, rfl, h⟩ := h
  obtain ⟨A0, n0, c0, s0, A1, n1, c1, s1, rfl, rfl, w0, w1⟩ := TFan.open_ h
  exact ⟨_, _, _, _, _, _, _, _, rfl, rfl, w0, w1⟩
theorem TFan.mkAgg {w : World} {x : TFan} {A0 : Option Addr} {n0 c0 : Nat} {s0 : List Nat} {A1 : Option Addr} {n1 c1 : Nat} {s1 : List Nat} (w0 : Sl w A0 n0 c0 x.triangles s0) (w1 : Sl w A1 n1 c1 x.spokes s1) : Agg w (.agg #[.slice A0 n0 c0, .slice A1 n1 c1, .bool x.closed]) x (s0 ++ (s1)) :=
  ⟨_, rfl, TFan.shut w0 w1⟩
theorem TFan.elem {w : World} {A : Option Addr} {n c : Nat} {xs : List TFan} {bs : List Nat} (h : Sl w A n c xs bs) {k : Nat} (hk : k < n) :
    ∃ (b off : Nat) (x : TFan) (A0 : Option Addr) (n0 c0 : Nat) (s0 : List Nat) (A1 : Option Addr) (n1 c1 : Nat) (s1 : List Nat), A = some ⟨b, off, none⟩ ∧ b < w.heap.size ∧ xs[k]? = some x ∧ w.cell? ⟨b, off + k * 3, none⟩ = some (.slice A0 n0 c0) ∧ w.cell? ⟨b, off + k * 3 + 1, none⟩ = some (.slice A1 n1 c1) ∧ w.cell? ⟨b, off + k * 3 + 2, none⟩ = some (.bool x.closed) ∧ Sl w A0 n0 c0 x.triangles s0 ∧ Sl w A1 n1 c1 x.spokes s1 ∧ ∀ g ∈ (s0 ++ (s1)), g ∈ bs := by
  obtain ⟨b, off, x, cs, fs, hA, hb, hx, hc, ha, hg⟩ := Sl.getAt h hk
  obtain ⟨A0, n0, c0, s0, A1, n1, c1, s1, rfl, rfl, w0, w1⟩ := TFan.open_ ha
  exact ⟨b, off, x, _, _, _, _, _, _, _, _, hA, hb, hx, hc 0 _ rfl, hc 1 _ rfl, hc 2 _ rfl, w0, w1, hg⟩
theorem TFan.elemA {w : World} {A : Option Addr} {n c : Nat} {xs : List TFan} {bs : List Nat} (h : Sl w A n c xs bs) {k : Nat} (hk : k < n) :
    ∃ (b off : Nat) (x : TFan) (A0 : Option Addr) (n0 c0 : Nat) (s0 : List Nat) (A1 : Option Addr) (n1 c1 : Nat) (s1 : List Nat), A = some ⟨b, off, none⟩ ∧ b < w.heap.size ∧ xs[k]? = some x ∧ w.cell? ⟨b, off + k * 3, none⟩ = some (.slice A0 n0 c0) ∧ w.cell? ⟨b, off + k * 3 + 1, none⟩ = some (.slice A1 n1 c1) ∧ w.cell? ⟨b, off + k * 3 + 2, none⟩ = some (.bool x.closed) ∧ Agg w (.agg #[.slice A0 n0 c0, .slice A1 n1 c1, .bool x.closed]) x (s0 ++ (s1)) := by
  obtain ⟨b, off, x, cs, fs, hA, hb, hx, hc, ha, hg⟩ := Sl.getAt h hk
  obtain ⟨A0, n0, c0, s0, A1, n1, c1, s1, rfl, rfl, w0, w1⟩ := TFan.open_ ha
  exact ⟨b, off, x, _, _, _, _, _, _, _, _, hA, hb, hx, hc 0 _ rfl, hc 1 _ rfl, hc 2 _ rfl, _, rfl, ha⟩

structure TGoal where
  value : TRat
  square : TRat
  deriving DecidableEq
instance : Dat TGoal := Dat.via fun x => (x.value, x.square)
theorem TGoal.open_ {w : World} {cs : List Value} {x : TGoal} {bs : List Nat} (h : Dat.at_ w cs x bs) : ∃ (A1 : Option Addr) (n1 c1 : Nat) (s1 : List Nat) (A2 : Option Addr) (n2 c2 : Nat) (s2 : List Nat) (A4 : Option Addr) (n4 c4 : Nat) (s4 : List Nat) (A5 : Option Addr) (n5 c5 : Nat) (s5 : List Nat), cs = [.bool x.value.num.neg, .slice A1 n1 c1, .slice A2 n2 c2, .bool x.square.num.neg, .slice A4 n4 c4, .slice A5 n5 c5] ∧ bs = s1 ++ (s2 ++ (s4 ++ (s5))) ∧ Sl w A1 n1 c1 x.value.num.mag s1 ∧ Sl w A2 n2 c2 x.value.den s2 ∧ Sl w A4 n4 c4 x.square.num.mag s4 ∧ Sl w A5 n5 c5 x.square.den s5 := by
  obtain ⟨p1, q1, u1, v1, rfl, rfl, e1, g1⟩ := h
  obtain ⟨p2, q2, u2, v2, rfl, rfl, e2, g2⟩ := e1
  obtain ⟨p3, q3, u3, v3, rfl, rfl, e3, g3⟩ := e2
  obtain ⟨rfl, rfl⟩ := e3
  obtain ⟨A1, n1, c1, rfl, w1⟩ := g3
  obtain ⟨A2, n2, c2, rfl, w2⟩ := g2
  obtain ⟨p4, q4, u4, v4, rfl, rfl, e4, g4⟩ := g1
  obtain ⟨p5, q5, u5, v5, rfl, rfl, e5, g5⟩ := e4
  obtain ⟨rfl, rfl⟩ := e5
  obtain ⟨A4, n4, c4, rfl, w4⟩ := g5
  obtain ⟨A5, n5, c5, rfl, w5⟩ := g4
  exact ⟨_, _, _, _, _, _, _, _, _, _, _, _, _, _, _, _, rfl, by first | rfl | (simp; done) | simp [List.append_assoc], w1, w2, w4, w5⟩
theorem TGoal.shut {w : World} {x : TGoal} {A1 : Option Addr} {n1 c1 : Nat} {s1 : List Nat} {A2 : Option Addr} {n2 c2 : Nat} {s2 : List Nat} {A4 : Option Addr} {n4 c4 : Nat} {s4 : List Nat} {A5 : Option Addr} {n5 c5 : Nat} {s5 : List Nat} (w1 : Sl w A1 n1 c1 x.value.num.mag s1) (w2 : Sl w A2 n2 c2 x.value.den s2) (w4 : Sl w A4 n4 c4 x.square.num.mag s4) (w5 : Sl w A5 n5 c5 x.square.den s5) : Dat.at_ w [.bool x.value.num.neg, .slice A1 n1 c1, .slice A2 n2 c2, .bool x.square.num.neg, .slice A4 n4 c4, .slice A5 n5 c5] x (s1 ++ (s2 ++ (s4 ++ (s5)))) := by
  have h : Dat.at_ w _ x _ := ⟨_, _, _, _, rfl, rfl, ⟨_, _, _, _, rfl, rfl, ⟨_, _, _, _, rfl, rfl, ⟨rfl, rfl⟩, ⟨_, _, _, rfl, w1⟩⟩, ⟨_, _, _, rfl, w2⟩⟩, ⟨_, _, _, _, rfl, rfl, ⟨_, _, _, _, rfl, rfl, ⟨rfl, rfl⟩, ⟨_, _, _, rfl, w4⟩⟩, ⟨_, _, _, rfl, w5⟩⟩⟩
  first | exact h | (simpa using h) | simpa [List.append_assoc] using h
theorem TGoal.agg {w : World} {v : Value} {x : TGoal} {bs : List Nat} (h : Agg w v x bs) : ∃ (A1 : Option Addr) (n1 c1 : Nat) (s1 : List Nat) (A2 : Option Addr) (n2 c2 : Nat) (s2 : List Nat) (A4 : Option Addr) (n4 c4 : Nat) (s4 : List Nat) (A5 : Option Addr) (n5 c5 : Nat) (s5 : List Nat), v = .agg #[.bool x.value.num.neg, .slice A1 n1 c1, .slice A2 n2 c2, .bool x.square.num.neg, .slice A4 n4 c4, .slice A5 n5 c5] ∧ bs = s1 ++ (s2 ++ (s4 ++ (s5))) ∧ Sl w A1 n1 c1 x.value.num.mag s1 ∧ Sl w A2 n2 c2 x.value.den s2 ∧ Sl w A4 n4 c4 x.square.num.mag s4 ∧ Sl w A5 n5 c5 x.square.den s5 := by
  obtain ⟨cs, rfl, h⟩ := h
  obtain ⟨A1, n1, c1, s1, A2, n2, c2, s2, A4, n4, c4, s4, A5, n5, c5, s5, rfl, rfl, w1, w2, w4, w5⟩ := TGoal.open_ h
  exact ⟨_, _, _, _, _, _, _, _, _, _, _, _, _, _, _, _, rfl, rfl, w1, w2, w4, w5⟩
theorem TGoal.mkAgg {w : World} {x : TGoal} {A1 : Option Addr} {n1 c1 : Nat} {s1 : List Nat} {A2 : Option Addr} {n2 c2 : Nat} {s2 : List Nat} {A4 : Option Addr} {n4 c4 : Nat} {s4 : List Nat} {A5 : Option Addr} {n5 c5 : Nat} {s5 : List Nat} (w1 : Sl w A1 n1 c1 x.value.num.mag s1) (w2 : Sl w A2 n2 c2 x.value.den s2) (w4 : Sl w A4 n4 c4 x.square.num.mag s4) (w5 : Sl w A5 n5 c5 x.square.den s5) : Agg w (.agg #[.bool x.value.num.neg, .slice A1 n1 c1, .slice A2 n2 c2, .bool x.square.num.neg, .slice A4 n4 c4, .slice A5 n5 c5]) x (s1 ++ (s2 ++ (s4 ++ (s5)))) :=
  ⟨_, rfl, TGoal.shut w1 w2 w4 w5⟩
theorem TGoal.elem {w : World} {A : Option Addr} {n c : Nat} {xs : List TGoal} {bs : List Nat} (h : Sl w A n c xs bs) {k : Nat} (hk : k < n) :
    ∃ (b off : Nat) (x : TGoal) (A1 : Option Addr) (n1 c1 : Nat) (s1 : List Nat) (A2 : Option Addr) (n2 c2 : Nat) (s2 : List Nat) (A4 : Option Addr) (n4 c4 : Nat) (s4 : List Nat) (A5 : Option Addr) (n5 c5 : Nat) (s5 : List Nat), A = some ⟨b, off, none⟩ ∧ b < w.heap.size ∧ xs[k]? = some x ∧ w.cell? ⟨b, off + k * 6, none⟩ = some (.bool x.value.num.neg) ∧ w.cell? ⟨b, off + k * 6 + 1, none⟩ = some (.slice A1 n1 c1) ∧ w.cell? ⟨b, off + k * 6 + 2, none⟩ = some (.slice A2 n2 c2) ∧ w.cell? ⟨b, off + k * 6 + 3, none⟩ = some (.bool x.square.num.neg) ∧ w.cell? ⟨b, off + k * 6 + 4, none⟩ = some (.slice A4 n4 c4) ∧ w.cell? ⟨b, off + k * 6 + 5, none⟩ = some (.slice A5 n5 c5) ∧ Sl w A1 n1 c1 x.value.num.mag s1 ∧ Sl w A2 n2 c2 x.value.den s2 ∧ Sl w A4 n4 c4 x.square.num.mag s4 ∧ Sl w A5 n5 c5 x.square.den s5 ∧ ∀ g ∈ (s1 ++ (s2 ++ (s4 ++ (s5)))), g ∈ bs := by
  obtain ⟨b, off, x, cs, fs, hA, hb, hx, hc, ha, hg⟩ := Sl.getAt h hk
  obtain ⟨A1, n1, c1, s1, A2, n2, c2, s2, A4, n4, c4, s4, A5, n5, c5, s5, rfl, rfl, w1, w2, w4, w5⟩ := TGoal.open_ ha
  exact ⟨b, off, x, _, _, _, _, _, _, _, _, _, _, _, _, _, _, _, _, hA, hb, hx, hc 0 _ rfl, hc 1 _ rfl, hc 2 _ rfl, hc 3 _ rfl, hc 4 _ rfl, hc 5 _ rfl, w1, w2, w4, w5, hg⟩
theorem TGoal.elemA {w : World} {A : Option Addr} {n c : Nat} {xs : List TGoal} {bs : List Nat} (h : Sl w A n c xs bs) {k : Nat} (hk : k < n) :
    ∃ (b off : Nat) (x : TGoal) (A1 : Option Addr) (n1 c1 : Nat) (s1 : List Nat) (A2 : Option Addr) (n2 c2 : Nat) (s2 : List Nat) (A4 : Option Addr) (n4 c4 : Nat) (s4 : List Nat) (A5 : Option Addr) (n5 c5 : Nat) (s5 : List Nat), A = some ⟨b, off, none⟩ ∧ b < w.heap.size ∧ xs[k]? = some x ∧ w.cell? ⟨b, off + k * 6, none⟩ = some (.bool x.value.num.neg) ∧ w.cell? ⟨b, off + k * 6 + 1, none⟩ = some (.slice A1 n1 c1) ∧ w.cell? ⟨b, off + k * 6 + 2, none⟩ = some (.slice A2 n2 c2) ∧ w.cell? ⟨b, off + k * 6 + 3, none⟩ = some (.bool x.square.num.neg) ∧ w.cell? ⟨b, off + k * 6 + 4, none⟩ = some (.slice A4 n4 c4) ∧ w.cell? ⟨b, off + k * 6 + 5, none⟩ = some (.slice A5 n5 c5) ∧ Agg w (.agg #[.bool x.value.num.neg, .slice A1 n1 c1, .slice A2 n2 c2, .bool x.square.num.neg, .slice A4 n4 c4, .slice A5 n5 c5]) x (s1 ++ (s2 ++ (s4 ++ (s5)))) := by
  obtain ⟨b, off, x, cs, fs, hA, hb, hx, hc, ha, hg⟩ := Sl.getAt h hk
  obtain ⟨A1, n1, c1, s1, A2, n2, c2, s2, A4, n4, c4, s4, A5, n5, c5, s5, rfl, rfl, w1, w2, w4, w5⟩ := TGoal.open_ ha
  exact ⟨b, off, x, _, _, _, _, _, _, _, _, _, _, _, _, _, _, _, _, hA, hb, hx, hc 0 _ rfl, hc 1 _ rfl, hc 2 _ rfl, hc 3 _ rfl, hc 4 _ rfl, hc 5 _ rfl, _, rfl, ha⟩

structure TReport where
  triangles : Int
  energy : TRat
  bound : TRat
  deriving DecidableEq
instance : Dat TReport := Dat.via fun x => (x.triangles, x.energy, x.bound)
theorem TReport.open_ {w : World} {cs : List Value} {x : TReport} {bs : List Nat} (h : Dat.at_ w cs x bs) : ∃ (A2 : Option Addr) (n2 c2 : Nat) (s2 : List Nat) (A3 : Option Addr) (n3 c3 : Nat) (s3 : List Nat) (A5 : Option Addr) (n5 c5 : Nat) (s5 : List Nat) (A6 : Option Addr) (n6 c6 : Nat) (s6 : List Nat), cs = [.int .i64 x.triangles, .bool x.energy.num.neg, .slice A2 n2 c2, .slice A3 n3 c3, .bool x.bound.num.neg, .slice A5 n5 c5, .slice A6 n6 c6] ∧ bs = s2 ++ (s3 ++ (s5 ++ (s6))) ∧ I64 x.triangles ∧ Sl w A2 n2 c2 x.energy.num.mag s2 ∧ Sl w A3 n3 c3 x.energy.den s3 ∧ Sl w A5 n5 c5 x.bound.num.mag s5 ∧ Sl w A6 n6 c6 x.bound.den s6 := by
  obtain ⟨p1, q1, u1, v1, rfl, rfl, e1, g1⟩ := h
  obtain ⟨rfl, rfl, w0⟩ := e1
  obtain ⟨p2, q2, u2, v2, rfl, rfl, e2, g2⟩ := g1
  obtain ⟨p3, q3, u3, v3, rfl, rfl, e3, g3⟩ := e2
  obtain ⟨p4, q4, u4, v4, rfl, rfl, e4, g4⟩ := e3
  obtain ⟨rfl, rfl⟩ := e4
  obtain ⟨A2, n2, c2, rfl, w2⟩ := g4
  obtain ⟨A3, n3, c3, rfl, w3⟩ := g3
  obtain ⟨p5, q5, u5, v5, rfl, rfl, e5, g5⟩ := g2
  obtain ⟨p6, q6, u6, v6, rfl, rfl, e6, g6⟩ := e5
  obtain ⟨rfl, rfl⟩ := e6
  obtain ⟨A5, n5, c5, rfl, w5⟩ := g6
  obtain ⟨A6, n6, c6, rfl, w6⟩ := g5
  exact ⟨_, _, _, _, _, _, _, _, _, _, _, _, _, _, _, _, rfl, by first | rfl | (simp; done) | simp [List.append_assoc], w0, w2, w3, w5, w6⟩
theorem TReport.shut {w : World} {x : TReport} {A2 : Option Addr} {n2 c2 : Nat} {s2 : List Nat} {A3 : Option Addr} {n3 c3 : Nat} {s3 : List Nat} {A5 : Option Addr} {n5 c5 : Nat} {s5 : List Nat} {A6 : Option Addr} {n6 c6 : Nat} {s6 : List Nat} (w0 : I64 x.triangles) (w2 : Sl w A2 n2 c2 x.energy.num.mag s2) (w3 : Sl w A3 n3 c3 x.energy.den s3) (w5 : Sl w A5 n5 c5 x.bound.num.mag s5) (w6 : Sl w A6 n6 c6 x.bound.den s6) : Dat.at_ w [.int .i64 x.triangles, .bool x.energy.num.neg, .slice A2 n2 c2, .slice A3 n3 c3, .bool x.bound.num.neg, .slice A5 n5 c5, .slice A6 n6 c6] x (s2 ++ (s3 ++ (s5 ++ (s6)))) := by
  have h : Dat.at_ w _ x _ := ⟨_, _, _, _, rfl, rfl, ⟨rfl, rfl, w0⟩, ⟨_, _, _, _, rfl, rfl, ⟨_, _, _, _, rfl, rfl, ⟨_, _, _, _, rfl, rfl, ⟨rfl, rfl⟩, ⟨_, _, _, rfl, w2⟩⟩, ⟨_, _, _, rfl, w3⟩⟩, ⟨_, _, _, _, rfl, rfl, ⟨_, _, _, _, rfl, rfl, ⟨rfl, rfl⟩, ⟨_, _, _, rfl, w5⟩⟩, ⟨_, _, _, rfl, w6⟩⟩⟩⟩
  first | exact h | (simpa using h) | simpa [List.append_assoc] using h
theorem TReport.agg {w : World} {v : Value} {x : TReport} {bs : List Nat} (h : Agg w v x bs) : ∃ (A2 : Option Addr) (n2 c2 : Nat) (s2 : List Nat) (A3 : Option Addr) (n3 c3 : Nat) (s3 : List Nat) (A5 : Option Addr) (n5 c5 : Nat) (s5 : List Nat) (A6 : Option Addr) (n6 c6 : Nat) (s6 : List Nat), v = .agg #[.int .i64 x.triangles, .bool x.energy.num.neg, .slice A2 n2 c2, .slice A3 n3 c3, .bool x.bound.num.neg, .slice A5 n5 c5, .slice A6 n6 c6] ∧ bs = s2 ++ (s3 ++ (s5 ++ (s6))) ∧ I64 x.triangles ∧ Sl w A2 n2 c2 x.energy.num.mag s2 ∧ Sl w A3 n3 c3 x.energy.den s3 ∧ Sl w A5 n5 c5 x.bound.num.mag s5 ∧ Sl w A6 n6 c6 x.bound.den s6 := by
  obtain ⟨cs, rfl, h⟩ := h
  obtain ⟨A2, n2, c2, s2, A3, n3, c3, s3, A5, n5, c5, s5, A6, n6, c6, s6, rfl, rfl, w0, w2, w3, w5, w6⟩ := TReport.open_ h
  exact ⟨_, _, _, _, _, _, _, _, _, _, _, _, _, _, _, _, rfl, rfl, w0, w2, w3, w5, w6⟩
theorem TReport.mkAgg {w : World} {x : TReport} {A2 : Option Addr} {n2 c2 : Nat} {s2 : List Nat} {A3 : Option Addr} {n3 c3 : Nat} {s3 : List Nat} {A5 : Option Addr} {n5 c5 : Nat} {s5 : List Nat} {A6 : Option Addr} {n6 c6 : Nat} {s6 : List Nat} (w0 : I64 x.triangles) (w2 : Sl w A2 n2 c2 x.energy.num.mag s2) (w3 : Sl w A3 n3 c3 x.energy.den s3) (w5 : Sl w A5 n5 c5 x.bound.num.mag s5) (w6 : Sl w A6 n6 c6 x.bound.den s6) : Agg w (.agg #[.int .i64 x.triangles, .bool x.energy.num.neg, .slice A2 n2 c2, .slice A3 n3 c3, .bool x.bound.num.neg, .slice A5 n5 c5, .slice A6 n6 c6]) x (s2 ++ (s3 ++ (s5 ++ (s6)))) :=
  ⟨_, rfl, TReport.shut w0 w2 w3 w5 w6⟩
theorem TReport.elem {w : World} {A : Option Addr} {n c : Nat} {xs : List TReport} {bs : List Nat} (h : Sl w A n c xs bs) {k : Nat} (hk : k < n) :
    ∃ (b off : Nat) (x : TReport) (A2 : Option Addr) (n2 c2 : Nat) (s2 : List Nat) (A3 : Option Addr) (n3 c3 : Nat) (s3 : List Nat) (A5 : Option Addr) (n5 c5 : Nat) (s5 : List Nat) (A6 : Option Addr) (n6 c6 : Nat) (s6 : List Nat), A = some ⟨b, off, none⟩ ∧ b < w.heap.size ∧ xs[k]? = some x ∧ w.cell? ⟨b, off + k * 7, none⟩ = some (.int .i64 x.triangles) ∧ w.cell? ⟨b, off + k * 7 + 1, none⟩ = some (.bool x.energy.num.neg) ∧ w.cell? ⟨b, off + k * 7 + 2, none⟩ = some (.slice A2 n2 c2) ∧ w.cell? ⟨b, off + k * 7 + 3, none⟩ = some (.slice A3 n3 c3) ∧ w.cell? ⟨b, off + k * 7 + 4, none⟩ = some (.bool x.bound.num.neg) ∧ w.cell? ⟨b, off + k * 7 + 5, none⟩ = some (.slice A5 n5 c5) ∧ w.cell? ⟨b, off + k * 7 + 6, none⟩ = some (.slice A6 n6 c6) ∧ I64 x.triangles ∧ Sl w A2 n2 c2 x.energy.num.mag s2 ∧ Sl w A3 n3 c3 x.energy.den s3 ∧ Sl w A5 n5 c5 x.bound.num.mag s5 ∧ Sl w A6 n6 c6 x.bound.den s6 ∧ ∀ g ∈ (s2 ++ (s3 ++ (s5 ++ (s6)))), g ∈ bs := by
  obtain ⟨b, off, x, cs, fs, hA, hb, hx, hc, ha, hg⟩ := Sl.getAt h hk
  obtain ⟨A2, n2, c2, s2, A3, n3, c3, s3, A5, n5, c5, s5, A6, n6, c6, s6, rfl, rfl, w0, w2, w3, w5, w6⟩ := TReport.open_ ha
  exact ⟨b, off, x, _, _, _, _, _, _, _, _, _, _, _, _, _, _, _, _, hA, hb, hx, hc 0 _ rfl, hc 1 _ rfl, hc 2 _ rfl, hc 3 _ rfl, hc 4 _ rfl, hc 5 _ rfl, hc 6 _ rfl, w0, w2, w3, w5, w6, hg⟩
theorem TReport.elemA {w : World} {A : Option Addr} {n c : Nat} {xs : List TReport} {bs : List Nat} (h : Sl w A n c xs bs) {k : Nat} (hk : k < n) :
    ∃ (b off : Nat) (x : TReport) (A2 : Option Addr) (n2 c2 : Nat) (s2 : List Nat) (A3 : Option Addr) (n3 c3 : Nat) (s3 : List Nat) (A5 : Option Addr) (n5 c5 : Nat) (s5 : List Nat) (A6 : Option Addr) (n6 c6 : Nat) (s6 : List Nat), A = some ⟨b, off, none⟩ ∧ b < w.heap.size ∧ xs[k]? = some x ∧ w.cell? ⟨b, off + k * 7, none⟩ = some (.int .i64 x.triangles) ∧ w.cell? ⟨b, off + k * 7 + 1, none⟩ = some (.bool x.energy.num.neg) ∧ w.cell? ⟨b, off + k * 7 + 2, none⟩ = some (.slice A2 n2 c2) ∧ w.cell? ⟨b, off + k * 7 + 3, none⟩ = some (.slice A3 n3 c3) ∧ w.cell? ⟨b, off + k * 7 + 4, none⟩ = some (.bool x.bound.num.neg) ∧ w.cell? ⟨b, off + k * 7 + 5, none⟩ = some (.slice A5 n5 c5) ∧ w.cell? ⟨b, off + k * 7 + 6, none⟩ = some (.slice A6 n6 c6) ∧ Agg w (.agg #[.int .i64 x.triangles, .bool x.energy.num.neg, .slice A2 n2 c2, .slice A3 n3 c3, .bool x.bound.num.neg, .slice A5 n5 c5, .slice A6 n6 c6]) x (s2 ++ (s3 ++ (s5 ++ (s6)))) := by
  obtain ⟨b, off, x, cs, fs, hA, hb, hx, hc, ha, hg⟩ := Sl.getAt h hk
  obtain ⟨A2, n2, c2, s2, A3, n3, c3, s3, A5, n5, c5, s5, A6, n6, c6, s6, rfl, rfl, w0, w2, w3, w5, w6⟩ := TReport.open_ ha
  exact ⟨b, off, x, _, _, _, _, _, _, _, _, _, _, _, _, _, _, _, _, hA, hb, hx, hc 0 _ rfl, hc 1 _ rfl, hc 2 _ rfl, hc 3 _ rfl, hc 4 _ rfl, hc 5 _ rfl, hc 6 _ rfl, _, rfl, ha⟩

structure TState where
  problem : TProblem
  part : TRat
  reports : List TReport
  deriving DecidableEq
instance : Dat TState := Dat.via fun x => (x.problem, x.part, x.reports)
theorem TState.open_ {w : World} {cs : List Value} {x : TState} {bs : List Nat} (h : Dat.at_ w cs x bs) : ∃ (A0 : Option Addr) (n0 c0 : Nat) (s0 : List Nat) (A1 : Option Addr) (n1 c1 : Nat) (s1 : List Nat) (A2 : Option Addr) (n2 c2 : Nat) (s2 : List Nat) (A3 : Option Addr) (n3 c3 : Nat) (s3 : List Nat) (A5 : Option Addr) (n5 c5 : Nat) (s5 : List Nat) (A6 : Option Addr) (n6 c6 : Nat) (s6 : List Nat) (A7 : Option Addr) (n7 c7 : Nat) (s7 : List Nat), cs = [.slice A0 n0 c0, .slice A1 n1 c1, .slice A2 n2 c2, .slice A3 n3 c3, .bool x.part.num.neg, .slice A5 n5 c5, .slice A6 n6 c6, .slice A7 n7 c7] ∧ bs = s0 ++ (s1 ++ (s2 ++ (s3 ++ (s5 ++ (s6 ++ (s7)))))) ∧ Sl w A0 n0 c0 x.problem.mesh.points s0 ∧ Sl w A1 n1 c1 x.problem.mesh.triangles s1 ∧ Sl w A2 n2 c2 x.problem.diffusion s2 ∧ Sl w A3 n3 c3 x.problem.source s3 ∧ Sl w A5 n5 c5 x.part.num.mag s5 ∧ Sl w A6 n6 c6 x.part.den s6 ∧ Sl w A7 n7 c7 x.reports s7 := by
  obtain ⟨p1, q1, u1, v1, rfl, rfl, e1, g1⟩ := h
  obtain ⟨p2, q2, u2, v2, rfl, rfl, e2, g2⟩ := e1
  obtain ⟨p3, q3, u3, v3, rfl, rfl, e3, g3⟩ := e2
  obtain ⟨A0, n0, c0, rfl, w0⟩ := e3
  obtain ⟨A1, n1, c1, rfl, w1⟩ := g3
  obtain ⟨p4, q4, u4, v4, rfl, rfl, e4, g4⟩ := g2
  obtain ⟨A2, n2, c2, rfl, w2⟩ := e4
  obtain ⟨A3, n3, c3, rfl, w3⟩ := g4
  obtain ⟨p5, q5, u5, v5, rfl, rfl, e5, g5⟩ := g1
  obtain ⟨p6, q6, u6, v6, rfl, rfl, e6, g6⟩ := e5
  obtain ⟨p7, q7, u7, v7, rfl, rfl, e7, g7⟩ := e6
  obtain ⟨rfl, rfl⟩ := e7
  obtain ⟨A5, n5, c5, rfl, w5⟩ := g7
  obtain ⟨A6, n6, c6, rfl, w6⟩ := g6
  obtain ⟨A7, n7, c7, rfl, w7⟩ := g5
  exact ⟨_, _, _, _, _, _, _, _, _, _, _, _, _, _, _, _, _, _, _, _, _, _, _, _, _, _, _, _, rfl, by first | rfl | (simp; done) | simp [List.append_assoc], w0, w1, w2, w3, w5, w6, w7⟩
theorem TState.shut {w : World} {x : TState} {A0 : Option Addr} {n0 c0 : Nat} {s0 : List Nat} {A1 : Option Addr} {n1 c1 : Nat} {s1 : List Nat} {A2 : Option Addr} {n2 c2 : Nat} {s2 : List Nat} {A3 : Option Addr} {n3 c3 : Nat} {s3 : List Nat} {A5 : Option Addr} {n5 c5 : Nat} {s5 : List Nat} {A6 : Option Addr} {n6 c6 : Nat} {s6 : List Nat} {A7 : Option Addr} {n7 c7 : Nat} {s7 : List Nat} (w0 : Sl w A0 n0 c0 x.problem.mesh.points s0) (w1 : Sl w A1 n1 c1 x.problem.mesh.triangles s1) (w2 : Sl w A2 n2 c2 x.problem.diffusion s2) (w3 : Sl w A3 n3 c3 x.problem.source s3) (w5 : Sl w A5 n5 c5 x.part.num.mag s5) (w6 : Sl w A6 n6 c6 x.part.den s6) (w7 : Sl w A7 n7 c7 x.reports s7) : Dat.at_ w [.slice A0 n0 c0, .slice A1 n1 c1, .slice A2 n2 c2, .slice A3 n3 c3, .bool x.part.num.neg, .slice A5 n5 c5, .slice A6 n6 c6, .slice A7 n7 c7] x (s0 ++ (s1 ++ (s2 ++ (s3 ++ (s5 ++ (s6 ++ (s7))))))) := by
  have h : Dat.at_ w _ x _ := ⟨_, _, _, _, rfl, rfl, ⟨_, _, _, _, rfl, rfl, ⟨_, _, _, _, rfl, rfl, ⟨_, _, _, rfl, w0⟩, ⟨_, _, _, rfl, w1⟩⟩, ⟨_, _, _, _, rfl, rfl, ⟨_, _, _, rfl, w2⟩, ⟨_, _, _, rfl, w3⟩⟩⟩, ⟨_, _, _, _, rfl, rfl, ⟨_, _, _, _, rfl, rfl, ⟨_, _, _, _, rfl, rfl, ⟨rfl, rfl⟩, ⟨_, _, _, rfl, w5⟩⟩, ⟨_, _, _, rfl, w6⟩⟩, ⟨_, _, _, rfl, w7⟩⟩⟩
  first | exact h | (simpa using h) | simpa [List.append_assoc] using h
theorem TState.agg {w : World} {v : Value} {x : TState} {bs : List Nat} (h : Agg w v x bs) : ∃ (A0 : Option Addr) (n0 c0 : Nat) (s0 : List Nat) (A1 : Option Addr) (n1 c1 : Nat) (s1 : List Nat) (A2 : Option Addr) (n2 c2 : Nat) (s2 : List Nat) (A3 : Option Addr) (n3 c3 : Nat) (s3 : List Nat) (A5 : Option Addr) (n5 c5 : Nat) (s5 : List Nat) (A6 : Option Addr) (n6 c6 : Nat) (s6 : List Nat) (A7 : Option Addr) (n7 c7 : Nat) (s7 : List Nat), v = .agg #[.slice A0 n0 c0, .slice A1 n1 c1, .slice A2 n2 c2, .slice A3 n3 c3, .bool x.part.num.neg, .slice A5 n5 c5, .slice A6 n6 c6, .slice A7 n7 c7] ∧ bs = s0 ++ (s1 ++ (s2 ++ (s3 ++ (s5 ++ (s6 ++ (s7)))))) ∧ Sl w A0 n0 c0 x.problem.mesh.points s0 ∧ Sl w A1 n1 c1 x.problem.mesh.triangles s1 ∧ Sl w A2 n2 c2 x.problem.diffusion s2 ∧ Sl w A3 n3 c3 x.problem.source s3 ∧ Sl w A5 n5 c5 x.part.num.mag s5 ∧ Sl w A6 n6 c6 x.part.den s6 ∧ Sl w A7 n7 c7 x.reports s7 := by
  obtain ⟨cs, rfl, h⟩ := h
  obtain ⟨A0, n0, c0, s0, A1, n1, c1, s1, A2, n2, c2, s2, A3, n3, c3, s3, A5, n5, c5, s5, A6, n6, c6, s6, A7, n7, c7, s7, rfl, rfl, w0, w1, w2, w3, w5, w6, w7⟩ := TState.open_ h
  exact ⟨_, _, _, _, _, _, _, _, _, _, _, _, _, _, _, _, _, _, _, _, _, _, _, _, _, _, _, _, rfl, rfl, w0, w1, w2, w3, w5, w6, w7⟩
theorem TState.mkAgg {w : World} {x : TState} {A0 : Option Addr} {n0 c0 : Nat} {s0 : List Nat} {A1 : Option Addr} {n1 c1 : Nat} {s1 : List Nat} {A2 : Option Addr} {n2 c2 : Nat} {s2 : List Nat} {A3 : Option Addr} {n3 c3 : Nat} {s3 : List Nat} {A5 : Option Addr} {n5 c5 : Nat} {s5 : List Nat} {A6 : Option Addr} {n6 c6 : Nat} {s6 : List Nat} {A7 : Option Addr} {n7 c7 : Nat} {s7 : List Nat} (w0 : Sl w A0 n0 c0 x.problem.mesh.points s0) (w1 : Sl w A1 n1 c1 x.problem.mesh.triangles s1) (w2 : Sl w A2 n2 c2 x.problem.diffusion s2) (w3 : Sl w A3 n3 c3 x.problem.source s3) (w5 : Sl w A5 n5 c5 x.part.num.mag s5) (w6 : Sl w A6 n6 c6 x.part.den s6) (w7 : Sl w A7 n7 c7 x.reports s7) : Agg w (.agg #[.slice A0 n0 c0, .slice A1 n1 c1, .slice A2 n2 c2, .slice A3 n3 c3, .bool x.part.num.neg, .slice A5 n5 c5, .slice A6 n6 c6, .slice A7 n7 c7]) x (s0 ++ (s1 ++ (s2 ++ (s3 ++ (s5 ++ (s6 ++ (s7))))))) :=
  ⟨_, rfl, TState.shut w0 w1 w2 w3 w5 w6 w7⟩
theorem TState.elem {w : World} {A : Option Addr} {n c : Nat} {xs : List TState} {bs : List Nat} (h : Sl w A n c xs bs) {k : Nat} (hk : k < n) :
    ∃ (b off : Nat) (x : TState) (A0 : Option Addr) (n0 c0 : Nat) (s0 : List Nat) (A1 : Option Addr) (n1 c1 : Nat) (s1 : List Nat) (A2 : Option Addr) (n2 c2 : Nat) (s2 : List Nat) (A3 : Option Addr) (n3 c3 : Nat) (s3 : List Nat) (A5 : Option Addr) (n5 c5 : Nat) (s5 : List Nat) (A6 : Option Addr) (n6 c6 : Nat) (s6 : List Nat) (A7 : Option Addr) (n7 c7 : Nat) (s7 : List Nat), A = some ⟨b, off, none⟩ ∧ b < w.heap.size ∧ xs[k]? = some x ∧ w.cell? ⟨b, off + k * 8, none⟩ = some (.slice A0 n0 c0) ∧ w.cell? ⟨b, off + k * 8 + 1, none⟩ = some (.slice A1 n1 c1) ∧ w.cell? ⟨b, off + k * 8 + 2, none⟩ = some (.slice A2 n2 c2) ∧ w.cell? ⟨b, off + k * 8 + 3, none⟩ = some (.slice A3 n3 c3) ∧ w.cell? ⟨b, off + k * 8 + 4, none⟩ = some (.bool x.part.num.neg) ∧ w.cell? ⟨b, off + k * 8 + 5, none⟩ = some (.slice A5 n5 c5) ∧ w.cell? ⟨b, off + k * 8 + 6, none⟩ = some (.slice A6 n6 c6) ∧ w.cell? ⟨b, off + k * 8 + 7, none⟩ = some (.slice A7 n7 c7) ∧ Sl w A0 n0 c0 x.problem.mesh.points s0 ∧ Sl w A1 n1 c1 x.problem.mesh.triangles s1 ∧ Sl w A2 n2 c2 x.problem.diffusion s2 ∧ Sl w A3 n3 c3 x.problem.source s3 ∧ Sl w A5 n5 c5 x.part.num.mag s5 ∧ Sl w A6 n6 c6 x.part.den s6 ∧ Sl w A7 n7 c7 x.reports s7 ∧ ∀ g ∈ (s0 ++ (s1 ++ (s2 ++ (s3 ++ (s5 ++ (s6 ++ (s7))))))), g ∈ bs := by
  obtain ⟨b, off, x, cs, fs, hA, hb, hx, hc, ha, hg⟩ := Sl.getAt h hk
  obtain ⟨A0, n0, c0, s0, A1, n1, c1, s1, A2, n2, c2, s2, A3, n3, c3, s3, A5, n5, c5, s5, A6, n6, c6, s6, A7, n7, c7, s7, rfl, rfl, w0, w1, w2, w3, w5, w6, w7⟩ := TState.open_ ha
  exact ⟨b, off, x, _, _, _, _, _, _, _, _, _, _, _, _, _, _, _, _, _, _, _, _, _, _, _, _, _, _, _, _, hA, hb, hx, hc 0 _ rfl, hc 1 _ rfl, hc 2 _ rfl, hc 3 _ rfl, hc 4 _ rfl, hc 5 _ rfl, hc 6 _ rfl, hc 7 _ rfl, w0, w1, w2, w3, w5, w6, w7, hg⟩
theorem TState.elemA {w : World} {A : Option Addr} {n c : Nat} {xs : List TState} {bs : List Nat} (h : Sl w A n c xs bs) {k : Nat} (hk : k < n) :
    ∃ (b off : Nat) (x : TState) (A0 : Option Addr) (n0 c0 : Nat) (s0 : List Nat) (A1 : Option Addr) (n1 c1 : Nat) (s1 : List Nat) (A2 : Option Addr) (n2 c2 : Nat) (s2 : List Nat) (A3 : Option Addr) (n3 c3 : Nat) (s3 : List Nat) (A5 : Option Addr) (n5 c5 : Nat) (s5 : List Nat) (A6 : Option Addr) (n6 c6 : Nat) (s6 : List Nat) (A7 : Option Addr) (n7 c7 : Nat) (s7 : List Nat), A = some ⟨b, off, none⟩ ∧ b < w.heap.size ∧ xs[k]? = some x ∧ w.cell? ⟨b, off + k * 8, none⟩ = some (.slice A0 n0 c0) ∧ w.cell? ⟨b, off + k * 8 + 1, none⟩ = some (.slice A1 n1 c1) ∧ w.cell? ⟨b, off + k * 8 + 2, none⟩ = some (.slice A2 n2 c2) ∧ w.cell? ⟨b, off + k * 8 + 3, none⟩ = some (.slice A3 n3 c3) ∧ w.cell? ⟨b, off + k * 8 + 4, none⟩ = some (.bool x.part.num.neg) ∧ w.cell? ⟨b, off + k * 8 + 5, none⟩ = some (.slice A5 n5 c5) ∧ w.cell? ⟨b, off + k * 8 + 6, none⟩ = some (.slice A6 n6 c6) ∧ w.cell? ⟨b, off + k * 8 + 7, none⟩ = some (.slice A7 n7 c7) ∧ Agg w (.agg #[.slice A0 n0 c0, .slice A1 n1 c1, .slice A2 n2 c2, .slice A3 n3 c3, .bool x.part.num.neg, .slice A5 n5 c5, .slice A6 n6 c6, .slice A7 n7 c7]) x (s0 ++ (s1 ++ (s2 ++ (s3 ++ (s5 ++ (s6 ++ (s7))))))) := by
  obtain ⟨b, off, x, cs, fs, hA, hb, hx, hc, ha, hg⟩ := Sl.getAt h hk
  obtain ⟨A0, n0, c0, s0, A1, n1, c1, s1, A2, n2, c2, s2, A3, n3, c3, s3, A5, n5, c5, s5, A6, n6, c6, s6, A7, n7, c7, s7, rfl, rfl, w0, w1, w2, w3, w5, w6, w7⟩ := TState.open_ ha
  exact ⟨b, off, x, _, _, _, _, _, _, _, _, _, _, _, _, _, _, _, _, _, _, _, _, _, _, _, _, _, _, _, _, hA, hb, hx, hc 0 _ rfl, hc 1 _ rfl, hc 2 _ rfl, hc 3 _ rfl, hc 4 _ rfl, hc 5 _ rfl, hc 6 _ rfl, hc 7 _ rfl, _, rfl, ha⟩

structure TConsole where
  text : ByteArray
  state : TState
  deriving DecidableEq
instance : Dat TConsole := Dat.via fun x => (x.text, x.state)
theorem TConsole.open_ {w : World} {cs : List Value} {x : TConsole} {bs : List Nat} (h : Dat.at_ w cs x bs) : ∃ (A1 : Option Addr) (n1 c1 : Nat) (s1 : List Nat) (A2 : Option Addr) (n2 c2 : Nat) (s2 : List Nat) (A3 : Option Addr) (n3 c3 : Nat) (s3 : List Nat) (A4 : Option Addr) (n4 c4 : Nat) (s4 : List Nat) (A6 : Option Addr) (n6 c6 : Nat) (s6 : List Nat) (A7 : Option Addr) (n7 c7 : Nat) (s7 : List Nat) (A8 : Option Addr) (n8 c8 : Nat) (s8 : List Nat), cs = [.string x.text, .slice A1 n1 c1, .slice A2 n2 c2, .slice A3 n3 c3, .slice A4 n4 c4, .bool x.state.part.num.neg, .slice A6 n6 c6, .slice A7 n7 c7, .slice A8 n8 c8] ∧ bs = s1 ++ (s2 ++ (s3 ++ (s4 ++ (s6 ++ (s7 ++ (s8)))))) ∧ x.text.size ≤ maxLen ∧ Sl w A1 n1 c1 x.state.problem.mesh.points s1 ∧ Sl w A2 n2 c2 x.state.problem.mesh.triangles s2 ∧ Sl w A3 n3 c3 x.state.problem.diffusion s3 ∧ Sl w A4 n4 c4 x.state.problem.source s4 ∧ Sl w A6 n6 c6 x.state.part.num.mag s6 ∧ Sl w A7 n7 c7 x.state.part.den s7 ∧ Sl w A8 n8 c8 x.state.reports s8 := by
  obtain ⟨p1, q1, u1, v1, rfl, rfl, e1, g1⟩ := h
  obtain ⟨rfl, rfl, w0⟩ := e1
  obtain ⟨p2, q2, u2, v2, rfl, rfl, e2, g2⟩ := g1
  obtain ⟨p3, q3, u3, v3, rfl, rfl, e3, g3⟩ := e2
  obtain ⟨p4, q4, u4, v4, rfl, rfl, e4, g4⟩ := e3
  obtain ⟨A1, n1, c1, rfl, w1⟩ := e4
  obtain ⟨A2, n2, c2, rfl, w2⟩ := g4
  obtain ⟨p5, q5, u5, v5, rfl, rfl, e5, g5⟩ := g3
  obtain ⟨A3, n3, c3, rfl, w3⟩ := e5
  obtain ⟨A4, n4, c4, rfl, w4⟩ := g5
  obtain ⟨p6, q6, u6, v6, rfl, rfl, e6, g6⟩ := g2
  obtain ⟨p7, q7, u7, v7, rfl, rfl, e7, g7⟩ := e6
  obtain ⟨p8, q8, u8, v8, rfl, rfl, e8, g8⟩ := e7
  obtain ⟨rfl, rfl⟩ := e8
  obtain ⟨A6, n6, c6, rfl, w6⟩ := g8
  obtain ⟨A7, n7, c7, rfl, w7⟩ := g7
  obtain ⟨A8, n8, c8, rfl, w8⟩ := g6
  exact ⟨_, _, _, _, _, _, _, _, _, _, _, _, _, _, _, _, _, _, _, _, _, _, _, _, _, _, _, _, rfl, by first | rfl | (simp; done) | simp [List.append_assoc], w0, w1, w2, w3, w4, w6, w7, w8⟩
theorem TConsole.shut {w : World} {x : TConsole} {A1 : Option Addr} {n1 c1 : Nat} {s1 : List Nat} {A2 : Option Addr} {n2 c2 : Nat} {s2 : List Nat} {A3 : Option Addr} {n3 c3 : Nat} {s3 : List Nat} {A4 : Option Addr} {n4 c4 : Nat} {s4 : List Nat} {A6 : Option Addr} {n6 c6 : Nat} {s6 : List Nat} {A7 : Option Addr} {n7 c7 : Nat} {s7 : List Nat} {A8 : Option Addr} {n8 c8 : Nat} {s8 : List Nat} (w0 : x.text.size ≤ maxLen) (w1 : Sl w A1 n1 c1 x.state.problem.mesh.points s1) (w2 : Sl w A2 n2 c2 x.state.problem.mesh.triangles s2) (w3 : Sl w A3 n3 c3 x.state.problem.diffusion s3) (w4 : Sl w A4 n4 c4 x.state.problem.source s4) (w6 : Sl w A6 n6 c6 x.state.part.num.mag s6) (w7 : Sl w A7 n7 c7 x.state.part.den s7) (w8 : Sl w A8 n8 c8 x.state.reports s8) : Dat.at_ w [.string x.text, .slice A1 n1 c1, .slice A2 n2 c2, .slice A3 n3 c3, .slice A4 n4 c4, .bool x.state.part.num.neg, .slice A6 n6 c6, .slice A7 n7 c7, .slice A8 n8 c8] x (s1 ++ (s2 ++ (s3 ++ (s4 ++ (s6 ++ (s7 ++ (s8))))))) := by
  have h : Dat.at_ w _ x _ := ⟨_, _, _, _, rfl, rfl, ⟨rfl, rfl, w0⟩, ⟨_, _, _, _, rfl, rfl, ⟨_, _, _, _, rfl, rfl, ⟨_, _, _, _, rfl, rfl, ⟨_, _, _, rfl, w1⟩, ⟨_, _, _, rfl, w2⟩⟩, ⟨_, _, _, _, rfl, rfl, ⟨_, _, _, rfl, w3⟩, ⟨_, _, _, rfl, w4⟩⟩⟩, ⟨_, _, _, _, rfl, rfl, ⟨_, _, _, _, rfl, rfl, ⟨_, _, _, _, rfl, rfl, ⟨rfl, rfl⟩, ⟨_, _, _, rfl, w6⟩⟩, ⟨_, _, _, rfl, w7⟩⟩, ⟨_, _, _, rfl, w8⟩⟩⟩⟩
  first | exact h | (simpa using h) | simpa [List.append_assoc] using h
theorem TConsole.agg {w : World} {v : Value} {x : TConsole} {bs : List Nat} (h : Agg w v x bs) : ∃ (A1 : Option Addr) (n1 c1 : Nat) (s1 : List Nat) (A2 : Option Addr) (n2 c2 : Nat) (s2 : List Nat) (A3 : Option Addr) (n3 c3 : Nat) (s3 : List Nat) (A4 : Option Addr) (n4 c4 : Nat) (s4 : List Nat) (A6 : Option Addr) (n6 c6 : Nat) (s6 : List Nat) (A7 : Option Addr) (n7 c7 : Nat) (s7 : List Nat) (A8 : Option Addr) (n8 c8 : Nat) (s8 : List Nat), v = .agg #[.string x.text, .slice A1 n1 c1, .slice A2 n2 c2, .slice A3 n3 c3, .slice A4 n4 c4, .bool x.state.part.num.neg, .slice A6 n6 c6, .slice A7 n7 c7, .slice A8 n8 c8] ∧ bs = s1 ++ (s2 ++ (s3 ++ (s4 ++ (s6 ++ (s7 ++ (s8)))))) ∧ x.text.size ≤ maxLen ∧ Sl w A1 n1 c1 x.state.problem.mesh.points s1 ∧ Sl w A2 n2 c2 x.state.problem.mesh.triangles s2 ∧ Sl w A3 n3 c3 x.state.problem.diffusion s3 ∧ Sl w A4 n4 c4 x.state.problem.source s4 ∧ Sl w A6 n6 c6 x.state.part.num.mag s6 ∧ Sl w A7 n7 c7 x.state.part.den s7 ∧ Sl w A8 n8 c8 x.state.reports s8 := by
  obtain ⟨cs, rfl, h⟩ := h
  obtain ⟨A1, n1, c1, s1, A2, n2, c2, s2, A3, n3, c3, s3, A4, n4, c4, s4, A6, n6, c6, s6, A7, n7, c7, s7, A8, n8, c8, s8, rfl, rfl, w0, w1, w2, w3, w4, w6, w7, w8⟩ := TConsole.open_ h
  exact ⟨_, _, _, _, _, _, _, _, _, _, _, _, _, _, _, _, _, _, _, _, _, _, _, _, _, _, _, _, rfl, rfl, w0, w1, w2, w3, w4, w6, w7, w8⟩
theorem TConsole.mkAgg {w : World} {x : TConsole} {A1 : Option Addr} {n1 c1 : Nat} {s1 : List Nat} {A2 : Option Addr} {n2 c2 : Nat} {s2 : List Nat} {A3 : Option Addr} {n3 c3 : Nat} {s3 : List Nat} {A4 : Option Addr} {n4 c4 : Nat} {s4 : List Nat} {A6 : Option Addr} {n6 c6 : Nat} {s6 : List Nat} {A7 : Option Addr} {n7 c7 : Nat} {s7 : List Nat} {A8 : Option Addr} {n8 c8 : Nat} {s8 : List Nat} (w0 : x.text.size ≤ maxLen) (w1 : Sl w A1 n1 c1 x.state.problem.mesh.points s1) (w2 : Sl w A2 n2 c2 x.state.problem.mesh.triangles s2) (w3 : Sl w A3 n3 c3 x.state.problem.diffusion s3) (w4 : Sl w A4 n4 c4 x.state.problem.source s4) (w6 : Sl w A6 n6 c6 x.state.part.num.mag s6) (w7 : Sl w A7 n7 c7 x.state.part.den s7) (w8 : Sl w A8 n8 c8 x.state.reports s8) : Agg w (.agg #[.string x.text, .slice A1 n1 c1, .slice A2 n2 c2, .slice A3 n3 c3, .slice A4 n4 c4, .bool x.state.part.num.neg, .slice A6 n6 c6, .slice A7 n7 c7, .slice A8 n8 c8]) x (s1 ++ (s2 ++ (s3 ++ (s4 ++ (s6 ++ (s7 ++ (s8))))))) :=
  ⟨_, rfl, TConsole.shut w0 w1 w2 w3 w4 w6 w7 w8⟩
theorem TConsole.elem {w : World} {A : Option Addr} {n c : Nat} {xs : List TConsole} {bs : List Nat} (h : Sl w A n c xs bs) {k : Nat} (hk : k < n) :
    ∃ (b off : Nat) (x : TConsole) (A1 : Option Addr) (n1 c1 : Nat) (s1 : List Nat) (A2 : Option Addr) (n2 c2 : Nat) (s2 : List Nat) (A3 : Option Addr) (n3 c3 : Nat) (s3 : List Nat) (A4 : Option Addr) (n4 c4 : Nat) (s4 : List Nat) (A6 : Option Addr) (n6 c6 : Nat) (s6 : List Nat) (A7 : Option Addr) (n7 c7 : Nat) (s7 : List Nat) (A8 : Option Addr) (n8 c8 : Nat) (s8 : List Nat), A = some ⟨b, off, none⟩ ∧ b < w.heap.size ∧ xs[k]? = some x ∧ w.cell? ⟨b, off + k * 9, none⟩ = some (.string x.text) ∧ w.cell? ⟨b, off + k * 9 + 1, none⟩ = some (.slice A1 n1 c1) ∧ w.cell? ⟨b, off + k * 9 + 2, none⟩ = some (.slice A2 n2 c2) ∧ w.cell? ⟨b, off + k * 9 + 3, none⟩ = some (.slice A3 n3 c3) ∧ w.cell? ⟨b, off + k * 9 + 4, none⟩ = some (.slice A4 n4 c4) ∧ w.cell? ⟨b, off + k * 9 + 5, none⟩ = some (.bool x.state.part.num.neg) ∧ w.cell? ⟨b, off + k * 9 + 6, none⟩ = some (.slice A6 n6 c6) ∧ w.cell? ⟨b, off + k * 9 + 7, none⟩ = some (.slice A7 n7 c7) ∧ w.cell? ⟨b, off + k * 9 + 8, none⟩ = some (.slice A8 n8 c8) ∧ x.text.size ≤ maxLen ∧ Sl w A1 n1 c1 x.state.problem.mesh.points s1 ∧ Sl w A2 n2 c2 x.state.problem.mesh.triangles s2 ∧ Sl w A3 n3 c3 x.state.problem.diffusion s3 ∧ Sl w A4 n4 c4 x.state.problem.source s4 ∧ Sl w A6 n6 c6 x.state.part.num.mag s6 ∧ Sl w A7 n7 c7 x.state.part.den s7 ∧ Sl w A8 n8 c8 x.state.reports s8 ∧ ∀ g ∈ (s1 ++ (s2 ++ (s3 ++ (s4 ++ (s6 ++ (s7 ++ (s8))))))), g ∈ bs := by
  obtain ⟨b, off, x, cs, fs, hA, hb, hx, hc, ha, hg⟩ := Sl.getAt h hk
  obtain ⟨A1, n1, c1, s1, A2, n2, c2, s2, A3, n3, c3, s3, A4, n4, c4, s4, A6, n6, c6, s6, A7, n7, c7, s7, A8, n8, c8, s8, rfl, rfl, w0, w1, w2, w3, w4, w6, w7, w8⟩ := TConsole.open_ ha
  exact ⟨b, off, x, _, _, _, _, _, _, _, _, _, _, _, _, _, _, _, _, _, _, _, _, _, _, _, _, _, _, _, _, hA, hb, hx, hc 0 _ rfl, hc 1 _ rfl, hc 2 _ rfl, hc 3 _ rfl, hc 4 _ rfl, hc 5 _ rfl, hc 6 _ rfl, hc 7 _ rfl, hc 8 _ rfl, w0, w1, w2, w3, w4, w6, w7, w8, hg⟩
theorem TConsole.elemA {w : World} {A : Option Addr} {n c : Nat} {xs : List TConsole} {bs : List Nat} (h : Sl w A n c xs bs) {k : Nat} (hk : k < n) :
    ∃ (b off : Nat) (x : TConsole) (A1 : Option Addr) (n1 c1 : Nat) (s1 : List Nat) (A2 : Option Addr) (n2 c2 : Nat) (s2 : List Nat) (A3 : Option Addr) (n3 c3 : Nat) (s3 : List Nat) (A4 : Option Addr) (n4 c4 : Nat) (s4 : List Nat) (A6 : Option Addr) (n6 c6 : Nat) (s6 : List Nat) (A7 : Option Addr) (n7 c7 : Nat) (s7 : List Nat) (A8 : Option Addr) (n8 c8 : Nat) (s8 : List Nat), A = some ⟨b, off, none⟩ ∧ b < w.heap.size ∧ xs[k]? = some x ∧ w.cell? ⟨b, off + k * 9, none⟩ = some (.string x.text) ∧ w.cell? ⟨b, off + k * 9 + 1, none⟩ = some (.slice A1 n1 c1) ∧ w.cell? ⟨b, off + k * 9 + 2, none⟩ = some (.slice A2 n2 c2) ∧ w.cell? ⟨b, off + k * 9 + 3, none⟩ = some (.slice A3 n3 c3) ∧ w.cell? ⟨b, off + k * 9 + 4, none⟩ = some (.slice A4 n4 c4) ∧ w.cell? ⟨b, off + k * 9 + 5, none⟩ = some (.bool x.state.part.num.neg) ∧ w.cell? ⟨b, off + k * 9 + 6, none⟩ = some (.slice A6 n6 c6) ∧ w.cell? ⟨b, off + k * 9 + 7, none⟩ = some (.slice A7 n7 c7) ∧ w.cell? ⟨b, off + k * 9 + 8, none⟩ = some (.slice A8 n8 c8) ∧ Agg w (.agg #[.string x.text, .slice A1 n1 c1, .slice A2 n2 c2, .slice A3 n3 c3, .slice A4 n4 c4, .bool x.state.part.num.neg, .slice A6 n6 c6, .slice A7 n7 c7, .slice A8 n8 c8]) x (s1 ++ (s2 ++ (s3 ++ (s4 ++ (s6 ++ (s7 ++ (s8))))))) := by
  obtain ⟨b, off, x, cs, fs, hA, hb, hx, hc, ha, hg⟩ := Sl.getAt h hk
  obtain ⟨A1, n1, c1, s1, A2, n2, c2, s2, A3, n3, c3, s3, A4, n4, c4, s4, A6, n6, c6, s6, A7, n7, c7, s7, A8, n8, c8, s8, rfl, rfl, w0, w1, w2, w3, w4, w6, w7, w8⟩ := TConsole.open_ ha
  exact ⟨b, off, x, _, _, _, _, _, _, _, _, _, _, _, _, _, _, _, _, _, _, _, _, _, _, _, _, _, _, _, _, hA, hb, hx, hc 0 _ rfl, hc 1 _ rfl, hc 2 _ rfl, hc 3 _ rfl, hc 4 _ rfl, hc 5 _ rfl, hc 6 _ rfl, hc 7 _ rfl, hc 8 _ rfl, _, rfl, ha⟩

end Go.XB
