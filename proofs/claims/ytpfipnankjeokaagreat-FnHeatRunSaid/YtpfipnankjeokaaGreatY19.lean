/- Part of a claim's proof: texts of this repository's wip,joined by prune.py,without the theorems that the claim does not reach. -/
import Derived.Test.YtpfipnankjeokaaGreatY14
import Derived.Test.YtpfipnankjeokaaGreatY18
set_option linter.constructorNameAsVariable false
namespace Go.Proofs.YtpfipnankjeokaaGreat.X
open Go.RowKit Go.XB Go.XN
def mesh0 (r : Int) : TMesh := ⟨[ptI 0 0,ptI 2 0,ptI 2 2,ptI 0 2,ptI 1 1], [⟨4,0,1,0,0⟩,⟨4,1,2,0,0⟩,⟨4,2,3,1,0⟩,⟨4,3,0,r,0⟩]⟩
def mesh1 (r : Int) : TMesh := ⟨[ptI 0 0,ptI 2 0,ptI 2 1,ptI 0 2], [⟨1,2,0,0,0⟩,⟨3,0,2,r,0⟩]⟩
def mesh2 (_r : Int) : TMesh := ⟨[ptI 0 0,ptI 1 0,ptI 2 0,ptI 2 1,ptI 1 1,ptI 1 2,ptI 0 2,ptI 0 1], [⟨1,4,0,0,0⟩,⟨7,0,4,0,0⟩,⟨3,4,2,0,0⟩,⟨1,2,4,1,0⟩,⟨7,4,6,0,0⟩,⟨5,6,4,2,0⟩]⟩
def IsCoarse (m : TMesh) : Prop := (∃ r,(0 ≤ r ∧ r < 2) ∧ m = mesh0 r) ∨ (∃ r,(0 ≤ r ∧ r < 3) ∧ m = mesh1 r) ∨ m = mesh2 0
def GivesMesh (w : World) (g : Nat) (e : Ending) (w' : World) : Prop := ∃ (m : TMesh) (v : Value) (s : List Nat),e = .returned v ∧ IsCoarse m ∧ Agg w' v m s ∧ w.grownBy w' (some g) ∧ ∀ b ∈ s,w.heap.size ≤ b
theorem heap_setsA (v : World) (o1 o2 : Obj) (g : Nat) (x0 x1 : Value) (b : Nat) (hb : b ≠ g) : ((((v.setCell ⟨g,0,none⟩ x0).setCell ⟨g,1,none⟩ x1).alloc o1).alloc o2).heap[b]? = ((v.alloc o1).alloc o2).heap[b]? := by
 have hS : ((v.setCell ⟨g,0,none⟩ x0).setCell ⟨g,1,none⟩ x1).heap.size = v.heap.size := by simp
 have he : ((v.setCell ⟨g,0,none⟩ x0).setCell ⟨g,1,none⟩ x1).heap[b]? = v.heap[b]? := heap_setCells g [x0,x1] v 0 b hb
 show ((((v.setCell ⟨g,0,none⟩ x0).setCell ⟨g,1,none⟩ x1).heap.push o1).push o2)[b]? = ((v.heap.push o1).push o2)[b]?
 rw [Array.getElem?_push,Array.getElem?_push,Array.getElem?_push,Array.getElem?_push,Array.size_push,Array.size_push,hS,he]
theorem at_world {F : World → Prop} (W : World) (G : World → Prop) (hG : G W) (h : ∀ W,G W → F W) : F W := h W hG
theorem heap_keepC {w w' : World} {b : Nat} {o : Obj} (h : w.heap[b]? = some o) (hb : Below w.heap.size w w') : w'.heap[b]? = some o := (hb.block b (lt_of_get h)).trans h
theorem grown_nextC {w w1 w2 : World} {r : Option Nat} (h : w.grownBy w1 r) (h2 : w1.grownBy w2 r) : w.grownBy w2 r :=
 ⟨h2.os.trans h.os,h2.tape.trans h.tape,h2.output.trans h.output,Nat.le_trans h.size h2.size,fun k hk hne => (h2.block k (Nat.lt_of_lt_of_le hk h.size) hne).trans (h.block k hk hne)⟩
theorem grown_afterC {w w4 w' : World} {o : Obj} {g : Nat} (h : (w.alloc o).grownBy w4 (some g)) (hb : Below w.heap.size w4 w') : w.grownBy w' (some g) :=
 ⟨hb.os.trans h.os,hb.tape.trans h.tape,hb.output.trans h.output,by have := h.size; have := hb.size; simp at *; omega,fun k hk2 hne => (hb.block k hk2).trans ((h.block k (by simp; omega) hne).trans (Below.heap_alloc _ _ _ hk2))⟩
theorem lit_row {w : World} {g n size : Nat} {e : TypeId} {cells : List Value} (h : w.heap[g]? = some (.cells cells.toArray e)) (hl : cells.length = n * size) (hn : n ≤ maxLen) : w.ownsRow 0 e size (.slice (some ⟨g,0,none⟩) n n) n cells :=
 ⟨hl, .inr ⟨g,n,cells.toArray,rfl,Nat.zero_le _,h,Nat.le_refl _,hn,by simpa using hl,by rw [← hl]; simp⟩⟩
theorem lit_slG {α : Type} [Dat α] {w : World} {g n : Nat} {e : TypeId} {cells : List Value} {xs : List α} {fss : List (List Nat)} (h : w.heap[g]? = some (.cells cells.toArray e)) (hl : cells.length = n * Dat.sz α) (hn : n ≤ maxLen) (hf : Filled w cells xs fss) (hx : xs.length = n) : ∃ bs,Sl w (some ⟨g,0,none⟩) n n xs bs ∧ ∀ b ∈ bs,b = g ∨ b ∈ fss.flatten := by
 obtain ⟨A,c,bs,hv,hs,ho⟩ := hf.sl (lit_row h hl hn) hx
 cases hv
 refine ⟨bs,hs,fun b hb => ?_⟩
 rcases ho with ⟨_,rfl⟩ | ⟨g',h1,rfl, _⟩
 ·cases hb
 ·have e : g = g' := by simpa [Value.ownBlock] using h1
  rcases List.mem_cons.1 hb with h2 | h2
  ·exact .inl (h2.trans e.symm)
  ·exact .inr h2
theorem tri_dat (w : World) (a b c r l : Int) (ha : I64 a) (hb : I64 b) (hc : I64 c) (hr : I64 r) (hl : I64 l) : Dat.at_ w [.int .i64 a, .int .i64 b, .int .i64 c, .int .i64 r, .int .i64 l] (⟨a,b,c,r,l⟩ : TTri) [] := TTri.shut (x := ⟨a,b,c,r,l⟩) ha hb hc hr hl
theorem i64_small {a : Int} (h : -1000 ≤ a ∧ a ≤ 1000) : I64 a := by constructor <;> omega
theorem pt_dat {w : World} {y : TPoint} {u0 u1 u2 u3 u4 u5 : Value} {b : List Nat} (h : Agg w (.agg #[u0,u1,u2,u3,u4,u5]) y b) : Dat.at_ w [u0,u1,u2,u3,u4,u5] y b := by
 obtain ⟨cs,he,hd⟩ := h
 have e2 : cs = [u0,u1,u2,u3,u4,u5] := by have := congrArg (fun v => match v with | .agg c => c.toList | _ => []) he; simpa using this.symm
 rw [← e2]; exact hd
end Go.Proofs.YtpfipnankjeokaaGreat.X
namespace Go.Proofs.YtpfipnankjeokaaGreat.X
open Go.RowKit Go.XB Go.XN
attribute [local go_sem] fillBy opAt deps depOf Region.wanted yielded
attribute [local simp] deps depOf MP.eq MP.agg MP.sl Facts
set_option maxHeartbeats 16000000 in
set_option maxRecDepth 100000 in
theorem spec_l07Start (g : Nat) (A : Option Addr) (nn c : Nat) (xs : List TByte) (bs : List Nat) (w : World) (hx : Sl w A nn c xs bs) (hn : nn ≤ 1048576) (hc : Cur w g A nn c) (hg : g ∉ bs) :
  Calls Tryz.prog 26 #[.pointer (some ⟨g,0,none⟩)] w (GivesMesh w g) := by
 have HX := hid hx; have HC := hid hc; have HG := hid hg
 have hgl : g < w.heap.size := hc.lt'
 have HN := hid hn
 clear hx hc hg hn
 go_enter Tryz.func26,Tryz.ntmps26
 go_wp2_with fail
 have HB0 := hid (Below.box (w := w) (.cells #[.slice none 0 0, .slice none 0 0] 26))
 refine (spec_l01Below 3 (by decide) (by decide) g A nn c xs bs _ (HX.out.below HB0.out) HN.out (HC.out.below' HB0.out) HG.out).mono ?_
 rintro _ wi ⟨x,rfl,hx1,hc1,hg1⟩
 have CI := hid hc1; have G1 := hid hg1
 have XI := hid ((HX.out.below HB0.out).keep (fun b hb => hg1.block b ((HX.out.below HB0.out).lt b hb) (by intro e; injection e with e; exact HG.out (e ▸ hb))))
 have RI := hid (show wi.heap[w.heap.size]? = some (.cells #[.slice none 0 0, .slice none 0 0] 26) from (hg1.block _ (by simp) (by intro e; injection e with e; omega)).trans (heap_alloc_new w _))
 have BW0 := hid (Below.refl wi.heap.size wi)
 have hwi : w.heap.size + 1 ≤ wi.heap.size := by have := hg1.size; simp at this; omega
 clear hc1 hg1
 obtain rfl | rfl | rfl : x = 0 ∨ x = 1 ∨ x = 2 := by omega
 ·go_wp2_with fail
  refine (spec_PointAt 0 0 _ (by constructor <;> decide) (by constructor <;> decide)).mono ?_
  rintro _ v1 ⟨u0,s0,rfl,ha0,ho0,hb0⟩
  obtain ⟨D0_1,n0_1,c0_1,e0_1,D0_2,n0_2,c0_2,e0_2,D0_4,n0_4,c0_4,e0_4,D0_5,n0_5,c0_5,e0_5,rfl,z0, _, _, _, _⟩ := TPoint.agg ha0
  have A0 := hid ha0; have HB0 := hid hb0
  have S0 := hid (show ∀ b ∈ s0,wi.heap.size ≤ b from fun b hb => Nat.le_trans BW0.out.size (ho0.2 b hb).1)
  have BW1 := hid (Below.next BW0.out hb0)
  clear ha0 ho0 hb0 z0
  go_wp2_with fail
  refine (spec_PointAt 2 0 _ (by constructor <;> decide) (by constructor <;> decide)).mono ?_
  rintro _ v2 ⟨u1,s1,rfl,ha1,ho1,hb1⟩
  obtain ⟨D1_1,n1_1,c1_1,e1_1,D1_2,n1_2,c1_2,e1_2,D1_4,n1_4,c1_4,e1_4,D1_5,n1_5,c1_5,e1_5,rfl,z1, _, _, _, _⟩ := TPoint.agg ha1
  have A1 := hid ha1; have HB1 := hid hb1
  have S1 := hid (show ∀ b ∈ s1,wi.heap.size ≤ b from fun b hb => Nat.le_trans BW1.out.size (ho1.2 b hb).1)
  have BW2 := hid (Below.next BW1.out hb1)
  clear ha1 ho1 hb1 z1
  go_wp2_with fail
  refine (spec_PointAt 2 2 _ (by constructor <;> decide) (by constructor <;> decide)).mono ?_
  rintro _ v3 ⟨u2,s2,rfl,ha2,ho2,hb2⟩
  obtain ⟨D2_1,n2_1,c2_1,e2_1,D2_2,n2_2,c2_2,e2_2,D2_4,n2_4,c2_4,e2_4,D2_5,n2_5,c2_5,e2_5,rfl,z2, _, _, _, _⟩ := TPoint.agg ha2
  have A2 := hid ha2; have HB2 := hid hb2
  have S2 := hid (show ∀ b ∈ s2,wi.heap.size ≤ b from fun b hb => Nat.le_trans BW2.out.size (ho2.2 b hb).1)
  have BW3 := hid (Below.next BW2.out hb2)
  clear ha2 ho2 hb2 z2
  go_wp2_with fail
  refine (spec_PointAt 0 2 _ (by constructor <;> decide) (by constructor <;> decide)).mono ?_
  rintro _ v4 ⟨u3,s3,rfl,ha3,ho3,hb3⟩
  obtain ⟨D3_1,n3_1,c3_1,e3_1,D3_2,n3_2,c3_2,e3_2,D3_4,n3_4,c3_4,e3_4,D3_5,n3_5,c3_5,e3_5,rfl,z3, _, _, _, _⟩ := TPoint.agg ha3
  have A3 := hid ha3; have HB3 := hid hb3
  have S3 := hid (show ∀ b ∈ s3,wi.heap.size ≤ b from fun b hb => Nat.le_trans BW3.out.size (ho3.2 b hb).1)
  have BW4 := hid (Below.next BW3.out hb3)
  clear ha3 ho3 hb3 z3
  go_wp2_with fail
  refine (spec_PointAt 1 1 _ (by constructor <;> decide) (by constructor <;> decide)).mono ?_
  rintro _ v5 ⟨u4,s4,rfl,ha4,ho4,hb4⟩
  obtain ⟨D4_1,n4_1,c4_1,e4_1,D4_2,n4_2,c4_2,e4_2,D4_4,n4_4,c4_4,e4_4,D4_5,n4_5,c4_5,e4_5,rfl,z4, _, _, _, _⟩ := TPoint.agg ha4
  have A4 := hid ha4; have HB4 := hid hb4
  have S4 := hid (show ∀ b ∈ s4,wi.heap.size ≤ b from fun b hb => Nat.le_trans BW4.out.size (ho4.2 b hb).1)
  have BW5 := hid (Below.next BW4.out hb4)
  clear ha4 ho4 hb4 z4
  go_wp2_with fail
  have BP := hid (Below.box (w := v5) (.cells #[.bool (ptI 0 0).x.num.neg, .slice D0_1 n0_1 c0_1, .slice D0_2 n0_2 c0_2, .bool (ptI 0 0).y.num.neg, .slice D0_4 n0_4 c0_4, .slice D0_5 n0_5 c0_5, .bool (ptI 2 0).x.num.neg, .slice D1_1 n1_1 c1_1, .slice D1_2 n1_2 c1_2, .bool (ptI 2 0).y.num.neg, .slice D1_4 n1_4 c1_4, .slice D1_5 n1_5 c1_5, .bool (ptI 2 2).x.num.neg, .slice D2_1 n2_1 c2_1, .slice D2_2 n2_2 c2_2, .bool (ptI 2 2).y.num.neg, .slice D2_4 n2_4 c2_4, .slice D2_5 n2_5 c2_5, .bool (ptI 0 2).x.num.neg, .slice D3_1 n3_1 c3_1, .slice D3_2 n3_2 c3_2, .bool (ptI 0 2).y.num.neg, .slice D3_4 n3_4 c3_4, .slice D3_5 n3_5 c3_5, .bool (ptI 1 1).x.num.neg, .slice D4_1 n4_1 c4_1, .slice D4_2 n4_2 c4_2, .bool (ptI 1 1).y.num.neg, .slice D4_4 n4_4 c4_4, .slice D4_5 n4_5 c4_5] 34))
  have HP0 := hid (show (v5.alloc (.cells #[.bool (ptI 0 0).x.num.neg, .slice D0_1 n0_1 c0_1, .slice D0_2 n0_2 c0_2, .bool (ptI 0 0).y.num.neg, .slice D0_4 n0_4 c0_4, .slice D0_5 n0_5 c0_5, .bool (ptI 2 0).x.num.neg, .slice D1_1 n1_1 c1_1, .slice D1_2 n1_2 c1_2, .bool (ptI 2 0).y.num.neg, .slice D1_4 n1_4 c1_4, .slice D1_5 n1_5 c1_5, .bool (ptI 2 2).x.num.neg, .slice D2_1 n2_1 c2_1, .slice D2_2 n2_2 c2_2, .bool (ptI 2 2).y.num.neg, .slice D2_4 n2_4 c2_4, .slice D2_5 n2_5 c2_5, .bool (ptI 0 2).x.num.neg, .slice D3_1 n3_1 c3_1, .slice D3_2 n3_2 c3_2, .bool (ptI 0 2).y.num.neg, .slice D3_4 n3_4 c3_4, .slice D3_5 n3_5 c3_5, .bool (ptI 1 1).x.num.neg, .slice D4_1 n4_1 c4_1, .slice D4_2 n4_2 c4_2, .bool (ptI 1 1).y.num.neg, .slice D4_4 n4_4 c4_4, .slice D4_5 n4_5 c4_5] 34)).heap[v5.heap.size]? = some (.cells #[.bool (ptI 0 0).x.num.neg, .slice D0_1 n0_1 c0_1, .slice D0_2 n0_2 c0_2, .bool (ptI 0 0).y.num.neg, .slice D0_4 n0_4 c0_4, .slice D0_5 n0_5 c0_5, .bool (ptI 2 0).x.num.neg, .slice D1_1 n1_1 c1_1, .slice D1_2 n1_2 c1_2, .bool (ptI 2 0).y.num.neg, .slice D1_4 n1_4 c1_4, .slice D1_5 n1_5 c1_5, .bool (ptI 2 2).x.num.neg, .slice D2_1 n2_1 c2_1, .slice D2_2 n2_2 c2_2, .bool (ptI 2 2).y.num.neg, .slice D2_4 n2_4 c2_4, .slice D2_5 n2_5 c2_5, .bool (ptI 0 2).x.num.neg, .slice D3_1 n3_1 c3_1, .slice D3_2 n3_2 c3_2, .bool (ptI 0 2).y.num.neg, .slice D3_4 n3_4 c3_4, .slice D3_5 n3_5 c3_5, .bool (ptI 1 1).x.num.neg, .slice D4_1 n4_1 c4_1, .slice D4_2 n4_2 c4_2, .bool (ptI 1 1).y.num.neg, .slice D4_4 n4_4 c4_4, .slice D4_5 n4_5 c4_5] 34) from heap_alloc_new v5 _)
  have HGw := hid (show g < wi.heap.size by omega)
  refine (spec_l01Below 2 (by decide) (by decide) g A nn c xs bs (v5.alloc (.cells #[.bool (ptI 0 0).x.num.neg, .slice D0_1 n0_1 c0_1, .slice D0_2 n0_2 c0_2, .bool (ptI 0 0).y.num.neg, .slice D0_4 n0_4 c0_4, .slice D0_5 n0_5 c0_5, .bool (ptI 2 0).x.num.neg, .slice D1_1 n1_1 c1_1, .slice D1_2 n1_2 c1_2, .bool (ptI 2 0).y.num.neg, .slice D1_4 n1_4 c1_4, .slice D1_5 n1_5 c1_5, .bool (ptI 2 2).x.num.neg, .slice D2_1 n2_1 c2_1, .slice D2_2 n2_2 c2_2, .bool (ptI 2 2).y.num.neg, .slice D2_4 n2_4 c2_4, .slice D2_5 n2_5 c2_5, .bool (ptI 0 2).x.num.neg, .slice D3_1 n3_1 c3_1, .slice D3_2 n3_2 c3_2, .bool (ptI 0 2).y.num.neg, .slice D3_4 n3_4 c3_4, .slice D3_5 n3_5 c3_5, .bool (ptI 1 1).x.num.neg, .slice D4_1 n4_1 c4_1, .slice D4_2 n4_2 c4_2, .bool (ptI 1 1).y.num.neg, .slice D4_4 n4_4 c4_4, .slice D4_5 n4_5 c4_5] 34)) ((XI.out.below BW5.out).below BP.out) HN.out ((CI.out.below' BW5.out).below' BP.out) HG.out).mono ?_
  rintro _ y1 ⟨r,rfl,hr,hcy,hgy⟩
  have GY := hid hgy
  clear hcy hgy
  have HT9 := hid (show (y1.alloc (.cells #[.int .i64 4, .int .i64 0, .int .i64 1, .int .i64 0, .int .i64 0, .int .i64 4, .int .i64 1, .int .i64 2, .int .i64 0, .int .i64 0, .int .i64 4, .int .i64 2, .int .i64 3, .int .i64 1, .int .i64 0, .int .i64 4, .int .i64 3, .int .i64 0, .int .i64 r, .int .i64 0] 77)).heap[y1.heap.size]? = some (.cells #[.int .i64 4, .int .i64 0, .int .i64 1, .int .i64 0, .int .i64 0, .int .i64 4, .int .i64 1, .int .i64 2, .int .i64 0, .int .i64 0, .int .i64 4, .int .i64 2, .int .i64 3, .int .i64 1, .int .i64 0, .int .i64 4, .int .i64 3, .int .i64 0, .int .i64 r, .int .i64 0] 77) from by have := heap_alloc_new y1 (.cells #[.int .i64 4, .int .i64 0, .int .i64 1, .int .i64 0, .int .i64 0, .int .i64 4, .int .i64 1, .int .i64 2, .int .i64 0, .int .i64 0, .int .i64 4, .int .i64 2, .int .i64 3, .int .i64 1, .int .i64 0, .int .i64 4, .int .i64 3, .int .i64 0, .int .i64 r, .int .i64 0] 77); exact this)
  have BT := hid (Below.box (w := y1) (.cells #[.int .i64 4, .int .i64 0, .int .i64 1, .int .i64 0, .int .i64 0, .int .i64 4, .int .i64 1, .int .i64 2, .int .i64 0, .int .i64 0, .int .i64 4, .int .i64 2, .int .i64 3, .int .i64 1, .int .i64 0, .int .i64 4, .int .i64 3, .int .i64 0, .int .i64 r, .int .i64 0] 77))
  have hsz : v5.heap.size < y1.heap.size := by have := GY.out.size; simp at this; omega
  have hwn : w.heap.size + 1 ≤ v5.heap.size := by have := BW5.out.size; omega
  have HP9 := hid (show (y1.alloc (.cells #[.int .i64 4, .int .i64 0, .int .i64 1, .int .i64 0, .int .i64 0, .int .i64 4, .int .i64 1, .int .i64 2, .int .i64 0, .int .i64 0, .int .i64 4, .int .i64 2, .int .i64 3, .int .i64 1, .int .i64 0, .int .i64 4, .int .i64 3, .int .i64 0, .int .i64 r, .int .i64 0] 77)).heap[v5.heap.size]? = some (.cells #[.bool (ptI 0 0).x.num.neg, .slice D0_1 n0_1 c0_1, .slice D0_2 n0_2 c0_2, .bool (ptI 0 0).y.num.neg, .slice D0_4 n0_4 c0_4, .slice D0_5 n0_5 c0_5, .bool (ptI 2 0).x.num.neg, .slice D1_1 n1_1 c1_1, .slice D1_2 n1_2 c1_2, .bool (ptI 2 0).y.num.neg, .slice D1_4 n1_4 c1_4, .slice D1_5 n1_5 c1_5, .bool (ptI 2 2).x.num.neg, .slice D2_1 n2_1 c2_1, .slice D2_2 n2_2 c2_2, .bool (ptI 2 2).y.num.neg, .slice D2_4 n2_4 c2_4, .slice D2_5 n2_5 c2_5, .bool (ptI 0 2).x.num.neg, .slice D3_1 n3_1 c3_1, .slice D3_2 n3_2 c3_2, .bool (ptI 0 2).y.num.neg, .slice D3_4 n3_4 c3_4, .slice D3_5 n3_5 c3_5, .bool (ptI 1 1).x.num.neg, .slice D4_1 n4_1 c4_1, .slice D4_2 n4_2 c4_2, .bool (ptI 1 1).y.num.neg, .slice D4_4 n4_4 c4_4, .slice D4_5 n4_5 c4_5] 34) from heap_keepC ((GY.out.block _ (by simp) (by intro e; injection e with e; omega)).trans HP0.out) BT.out)
  have RR := hid (show y1.heap[w.heap.size]? = some (.cells #[.slice none 0 0, .slice none 0 0] 26) from (GY.out.block _ (by simp; omega) (by intro e; injection e with e; omega)).trans (heap_keepC (heap_keepC RI.out BW5.out) BP.out))
  have Q0 := hid (((((((A0.out.below HB1.out).below HB2.out).below HB3.out).below HB4.out).below BP.out).keep (fun b hb => GY.out.block b ((((((A0.out.below HB1.out).below HB2.out).below HB3.out).below HB4.out).below BP.out).lt b hb) (by intro e; injection e with e; have := S0.out b hb; omega))).below BT.out)
  have Q1 := hid ((((((A1.out.below HB2.out).below HB3.out).below HB4.out).below BP.out).keep (fun b hb => GY.out.block b (((((A1.out.below HB2.out).below HB3.out).below HB4.out).below BP.out).lt b hb) (by intro e; injection e with e; have := S1.out b hb; omega))).below BT.out)
  have Q2 := hid (((((A2.out.below HB3.out).below HB4.out).below BP.out).keep (fun b hb => GY.out.block b ((((A2.out.below HB3.out).below HB4.out).below BP.out).lt b hb) (by intro e; injection e with e; have := S2.out b hb; omega))).below BT.out)
  have Q3 := hid ((((A3.out.below HB4.out).below BP.out).keep (fun b hb => GY.out.block b (((A3.out.below HB4.out).below BP.out).lt b hb) (by intro e; injection e with e; have := S3.out b hb; omega))).below BT.out)
  have Q4 := hid (((A4.out.below BP.out).keep (fun b hb => GY.out.block b ((A4.out.below BP.out).lt b hb) (by intro e; injection e with e; have := S4.out b hb; omega))).below BT.out)
  obtain ⟨r0,e0⟩ := box_cell RR.out (j := 0) rfl
  obtain ⟨r1,e1⟩ := box_cell RR.out (j := 1) rfl
  have hz9 : w.heap.size < y1.heap.size := by omega
  go_wp2
  refine bodyPost_ret (v := .agg #[.slice (some ⟨v5.heap.size,0,none⟩) 5 5, .slice (some ⟨y1.heap.size,0,none⟩) 4 4]) (by simp [results,Tryz.results26,go_sem, *]) rfl ?_
  have hk : ∀ b,b ≠ w.heap.size → (((y1.alloc (.cells #[.int .i64 4, .int .i64 0, .int .i64 1, .int .i64 0, .int .i64 0, .int .i64 4, .int .i64 1, .int .i64 2, .int .i64 0, .int .i64 0, .int .i64 4, .int .i64 2, .int .i64 3, .int .i64 1, .int .i64 0, .int .i64 4, .int .i64 3, .int .i64 0, .int .i64 r, .int .i64 0] 77)).setCell ⟨w.heap.size,0,none⟩ (.slice (some ⟨v5.heap.size,0,none⟩) 5 5)).setCell ⟨w.heap.size,1,none⟩ (.slice (some ⟨y1.heap.size,0,none⟩) 4 4)).heap[b]? = (y1.alloc (.cells #[.int .i64 4, .int .i64 0, .int .i64 1, .int .i64 0, .int .i64 0, .int .i64 4, .int .i64 1, .int .i64 2, .int .i64 0, .int .i64 0, .int .i64 4, .int .i64 2, .int .i64 3, .int .i64 1, .int .i64 0, .int .i64 4, .int .i64 3, .int .i64 0, .int .i64 r, .int .i64 0] 77)).heap[b]? := fun b hb => heap_setCells w.heap.size [.slice (some ⟨v5.heap.size,0,none⟩) 5 5, .slice (some ⟨y1.heap.size,0,none⟩) 4 4] (y1.alloc (.cells #[.int .i64 4, .int .i64 0, .int .i64 1, .int .i64 0, .int .i64 0, .int .i64 4, .int .i64 1, .int .i64 2, .int .i64 0, .int .i64 0, .int .i64 4, .int .i64 2, .int .i64 3, .int .i64 1, .int .i64 0, .int .i64 4, .int .i64 3, .int .i64 0, .int .i64 r, .int .i64 0] 77)) 0 b hb
  have hv : (((y1.alloc (.cells #[.int .i64 4, .int .i64 0, .int .i64 1, .int .i64 0, .int .i64 0, .int .i64 4, .int .i64 1, .int .i64 2, .int .i64 0, .int .i64 0, .int .i64 4, .int .i64 2, .int .i64 3, .int .i64 1, .int .i64 0, .int .i64 4, .int .i64 3, .int .i64 0, .int .i64 r, .int .i64 0] 77)).setCell ⟨w.heap.size,0,none⟩ (.slice (some ⟨v5.heap.size,0,none⟩) 5 5)).setCell ⟨w.heap.size,1,none⟩ (.slice (some ⟨y1.heap.size,0,none⟩) 4 4)) = (((y1.setCell ⟨w.heap.size,0,none⟩ (.slice (some ⟨v5.heap.size,0,none⟩) 5 5)).setCell ⟨w.heap.size,1,none⟩ (.slice (some ⟨y1.heap.size,0,none⟩) 4 4)).alloc (.cells #[.int .i64 4, .int .i64 0, .int .i64 1, .int .i64 0, .int .i64 0, .int .i64 4, .int .i64 1, .int .i64 2, .int .i64 0, .int .i64 0, .int .i64 4, .int .i64 2, .int .i64 3, .int .i64 1, .int .i64 0, .int .i64 4, .int .i64 3, .int .i64 0, .int .i64 r, .int .i64 0] 77)) := by go_simp
  rw [hv] at hk
  have HBN := hid (show Below w.heap.size y1 (((y1.setCell ⟨w.heap.size,0,none⟩ (.slice (some ⟨v5.heap.size,0,none⟩) 5 5)).setCell ⟨w.heap.size,1,none⟩ (.slice (some ⟨y1.heap.size,0,none⟩) 4 4)).alloc (.cells #[.int .i64 4, .int .i64 0, .int .i64 1, .int .i64 0, .int .i64 0, .int .i64 4, .int .i64 1, .int .i64 2, .int .i64 0, .int .i64 0, .int .i64 4, .int .i64 2, .int .i64 3, .int .i64 1, .int .i64 0, .int .i64 4, .int .i64 3, .int .i64 0, .int .i64 r, .int .i64 0] 77)) from (((Below.refl w.heap.size y1).setCell (p := ⟨w.heap.size,0,none⟩) (Nat.le_refl _) _).setCell (p := ⟨w.heap.size,1,none⟩) (Nat.le_refl _) _).alloc (by simp; omega) _)
  obtain ⟨W,hW⟩ : ∃ W,(((y1.setCell ⟨w.heap.size,0,none⟩ (.slice (some ⟨v5.heap.size,0,none⟩) 5 5)).setCell ⟨w.heap.size,1,none⟩ (.slice (some ⟨y1.heap.size,0,none⟩) 4 4)).alloc (.cells #[.int .i64 4, .int .i64 0, .int .i64 1, .int .i64 0, .int .i64 0, .int .i64 4, .int .i64 1, .int .i64 2, .int .i64 0, .int .i64 0, .int .i64 4, .int .i64 2, .int .i64 3, .int .i64 1, .int .i64 0, .int .i64 4, .int .i64 3, .int .i64 0, .int .i64 r, .int .i64 0] 77)) = W := ⟨_,rfl⟩
  rw [hW] at hk HBN ⊢
  clear hv hW
  have D0 := pt_dat (Q0.out.keep (fun b hb => hk b (by have := S0.out b hb; omega)))
  have D1 := pt_dat (Q1.out.keep (fun b hb => hk b (by have := S1.out b hb; omega)))
  have D2 := pt_dat (Q2.out.keep (fun b hb => hk b (by have := S2.out b hb; omega)))
  have D3 := pt_dat (Q3.out.keep (fun b hb => hk b (by have := S3.out b hb; omega)))
  have D4 := pt_dat (Q4.out.keep (fun b hb => hk b (by have := S4.out b hb; omega)))
  obtain ⟨b1,hsl1,hr1⟩ := lit_slG (α := TPoint) (n := 5) ((hk _ (by omega)).trans HP9.out) (by rfl) (by decide) (Filled.push (Filled.push (Filled.push (Filled.push (Filled.push (Filled.nil (α := TPoint) W []) (by rfl) D0) (by rfl) D1) (by rfl) D2) (by rfl) D3) (by rfl) D4) (by rfl)
  obtain ⟨b2,hsl2,hr2⟩ := lit_slG (α := TTri) (n := 4) ((hk _ (by omega)).trans HT9.out) (by rfl) (by decide) (Filled.push (Filled.push (Filled.push (Filled.push (Filled.nil (α := TTri) W []) (by rfl) (tri_dat W 4 0 1 0 0 (i64_small (by decide)) (i64_small (by decide)) (i64_small (by decide)) (i64_small (by decide)) (i64_small (by decide)))) (by rfl) (tri_dat W 4 1 2 0 0 (i64_small (by decide)) (i64_small (by decide)) (i64_small (by decide)) (i64_small (by decide)) (i64_small (by decide)))) (by rfl) (tri_dat W 4 2 3 1 0 (i64_small (by decide)) (i64_small (by decide)) (i64_small (by decide)) (i64_small (by decide)) (i64_small (by decide)))) (by rfl) (tri_dat W 4 3 0 r 0 (i64_small (by decide)) (i64_small (by decide)) (i64_small (by decide)) (i64_small (by omega)) (i64_small (by decide)))) (by rfl)
  refine ⟨mesh0 r, _, _,rfl, .inl ⟨r,hr,rfl⟩,TMesh.mkAgg (x := mesh0 r) hsl1 hsl2,grown_afterC (grown_nextC (grown_nextC (grown_nextC G1.out (grown_below0 BW5.out _)) (grown_below0 BP.out _)) GY.out) HBN.out,fun b hb => ?_⟩
  rcases List.mem_append.1 hb with hb | hb
  ·rcases hr1 b hb with rfl | hb
   ·omega
   ·obtain ⟨l,hl,hb2⟩ := List.mem_flatten.1 hb
    simp at hl
    rcases hl with rfl | rfl | rfl | rfl | rfl
    ·have := S0.out b hb2; omega
    ·have := S1.out b hb2; omega
    ·have := S2.out b hb2; omega
    ·have := S3.out b hb2; omega
    ·have := S4.out b hb2; omega
  ·rcases hr2 b hb with rfl | hb
   ·omega
   ·obtain ⟨l,hl,hb2⟩ := List.mem_flatten.1 hb
    simp at hl
    subst hl
    cases hb2
 ·go_wp2_with fail
  refine (spec_PointAt 0 0 _ (by constructor <;> decide) (by constructor <;> decide)).mono ?_
  rintro _ v1 ⟨u0,s0,rfl,ha0,ho0,hb0⟩
  obtain ⟨D0_1,n0_1,c0_1,e0_1,D0_2,n0_2,c0_2,e0_2,D0_4,n0_4,c0_4,e0_4,D0_5,n0_5,c0_5,e0_5,rfl,z0, _, _, _, _⟩ := TPoint.agg ha0
  have A0 := hid ha0; have HB0 := hid hb0
  have S0 := hid (show ∀ b ∈ s0,wi.heap.size ≤ b from fun b hb => Nat.le_trans BW0.out.size (ho0.2 b hb).1)
  have BW1 := hid (Below.next BW0.out hb0)
  clear ha0 ho0 hb0 z0
  go_wp2_with fail
  refine (spec_PointAt 2 0 _ (by constructor <;> decide) (by constructor <;> decide)).mono ?_
  rintro _ v2 ⟨u1,s1,rfl,ha1,ho1,hb1⟩
  obtain ⟨D1_1,n1_1,c1_1,e1_1,D1_2,n1_2,c1_2,e1_2,D1_4,n1_4,c1_4,e1_4,D1_5,n1_5,c1_5,e1_5,rfl,z1, _, _, _, _⟩ := TPoint.agg ha1
  have A1 := hid ha1; have HB1 := hid hb1
  have S1 := hid (show ∀ b ∈ s1,wi.heap.size ≤ b from fun b hb => Nat.le_trans BW1.out.size (ho1.2 b hb).1)
  have BW2 := hid (Below.next BW1.out hb1)
  clear ha1 ho1 hb1 z1
  go_wp2_with fail
  refine (spec_PointAt 2 1 _ (by constructor <;> decide) (by constructor <;> decide)).mono ?_
  rintro _ v3 ⟨u2,s2,rfl,ha2,ho2,hb2⟩
  obtain ⟨D2_1,n2_1,c2_1,e2_1,D2_2,n2_2,c2_2,e2_2,D2_4,n2_4,c2_4,e2_4,D2_5,n2_5,c2_5,e2_5,rfl,z2, _, _, _, _⟩ := TPoint.agg ha2
  have A2 := hid ha2; have HB2 := hid hb2
  have S2 := hid (show ∀ b ∈ s2,wi.heap.size ≤ b from fun b hb => Nat.le_trans BW2.out.size (ho2.2 b hb).1)
  have BW3 := hid (Below.next BW2.out hb2)
  clear ha2 ho2 hb2 z2
  go_wp2_with fail
  refine (spec_PointAt 0 2 _ (by constructor <;> decide) (by constructor <;> decide)).mono ?_
  rintro _ v4 ⟨u3,s3,rfl,ha3,ho3,hb3⟩
  obtain ⟨D3_1,n3_1,c3_1,e3_1,D3_2,n3_2,c3_2,e3_2,D3_4,n3_4,c3_4,e3_4,D3_5,n3_5,c3_5,e3_5,rfl,z3, _, _, _, _⟩ := TPoint.agg ha3
  have A3 := hid ha3; have HB3 := hid hb3
  have S3 := hid (show ∀ b ∈ s3,wi.heap.size ≤ b from fun b hb => Nat.le_trans BW3.out.size (ho3.2 b hb).1)
  have BW4 := hid (Below.next BW3.out hb3)
  clear ha3 ho3 hb3 z3
  go_wp2_with fail
  have BP := hid (Below.box (w := v4) (.cells #[.bool (ptI 0 0).x.num.neg, .slice D0_1 n0_1 c0_1, .slice D0_2 n0_2 c0_2, .bool (ptI 0 0).y.num.neg, .slice D0_4 n0_4 c0_4, .slice D0_5 n0_5 c0_5, .bool (ptI 2 0).x.num.neg, .slice D1_1 n1_1 c1_1, .slice D1_2 n1_2 c1_2, .bool (ptI 2 0).y.num.neg, .slice D1_4 n1_4 c1_4, .slice D1_5 n1_5 c1_5, .bool (ptI 2 1).x.num.neg, .slice D2_1 n2_1 c2_1, .slice D2_2 n2_2 c2_2, .bool (ptI 2 1).y.num.neg, .slice D2_4 n2_4 c2_4, .slice D2_5 n2_5 c2_5, .bool (ptI 0 2).x.num.neg, .slice D3_1 n3_1 c3_1, .slice D3_2 n3_2 c3_2, .bool (ptI 0 2).y.num.neg, .slice D3_4 n3_4 c3_4, .slice D3_5 n3_5 c3_5] 34))
  have HP0 := hid (show (v4.alloc (.cells #[.bool (ptI 0 0).x.num.neg, .slice D0_1 n0_1 c0_1, .slice D0_2 n0_2 c0_2, .bool (ptI 0 0).y.num.neg, .slice D0_4 n0_4 c0_4, .slice D0_5 n0_5 c0_5, .bool (ptI 2 0).x.num.neg, .slice D1_1 n1_1 c1_1, .slice D1_2 n1_2 c1_2, .bool (ptI 2 0).y.num.neg, .slice D1_4 n1_4 c1_4, .slice D1_5 n1_5 c1_5, .bool (ptI 2 1).x.num.neg, .slice D2_1 n2_1 c2_1, .slice D2_2 n2_2 c2_2, .bool (ptI 2 1).y.num.neg, .slice D2_4 n2_4 c2_4, .slice D2_5 n2_5 c2_5, .bool (ptI 0 2).x.num.neg, .slice D3_1 n3_1 c3_1, .slice D3_2 n3_2 c3_2, .bool (ptI 0 2).y.num.neg, .slice D3_4 n3_4 c3_4, .slice D3_5 n3_5 c3_5] 34)).heap[v4.heap.size]? = some (.cells #[.bool (ptI 0 0).x.num.neg, .slice D0_1 n0_1 c0_1, .slice D0_2 n0_2 c0_2, .bool (ptI 0 0).y.num.neg, .slice D0_4 n0_4 c0_4, .slice D0_5 n0_5 c0_5, .bool (ptI 2 0).x.num.neg, .slice D1_1 n1_1 c1_1, .slice D1_2 n1_2 c1_2, .bool (ptI 2 0).y.num.neg, .slice D1_4 n1_4 c1_4, .slice D1_5 n1_5 c1_5, .bool (ptI 2 1).x.num.neg, .slice D2_1 n2_1 c2_1, .slice D2_2 n2_2 c2_2, .bool (ptI 2 1).y.num.neg, .slice D2_4 n2_4 c2_4, .slice D2_5 n2_5 c2_5, .bool (ptI 0 2).x.num.neg, .slice D3_1 n3_1 c3_1, .slice D3_2 n3_2 c3_2, .bool (ptI 0 2).y.num.neg, .slice D3_4 n3_4 c3_4, .slice D3_5 n3_5 c3_5] 34) from heap_alloc_new v4 _)
  have HGw := hid (show g < wi.heap.size by omega)
  refine (spec_l01Below 3 (by decide) (by decide) g A nn c xs bs (v4.alloc (.cells #[.bool (ptI 0 0).x.num.neg, .slice D0_1 n0_1 c0_1, .slice D0_2 n0_2 c0_2, .bool (ptI 0 0).y.num.neg, .slice D0_4 n0_4 c0_4, .slice D0_5 n0_5 c0_5, .bool (ptI 2 0).x.num.neg, .slice D1_1 n1_1 c1_1, .slice D1_2 n1_2 c1_2, .bool (ptI 2 0).y.num.neg, .slice D1_4 n1_4 c1_4, .slice D1_5 n1_5 c1_5, .bool (ptI 2 1).x.num.neg, .slice D2_1 n2_1 c2_1, .slice D2_2 n2_2 c2_2, .bool (ptI 2 1).y.num.neg, .slice D2_4 n2_4 c2_4, .slice D2_5 n2_5 c2_5, .bool (ptI 0 2).x.num.neg, .slice D3_1 n3_1 c3_1, .slice D3_2 n3_2 c3_2, .bool (ptI 0 2).y.num.neg, .slice D3_4 n3_4 c3_4, .slice D3_5 n3_5 c3_5] 34)) ((XI.out.below BW4.out).below BP.out) HN.out ((CI.out.below' BW4.out).below' BP.out) HG.out).mono ?_
  rintro _ y1 ⟨r,rfl,hr,hcy,hgy⟩
  have GY := hid hgy
  clear hcy hgy
  have HT9 := hid (show (y1.alloc (.cells #[.int .i64 1, .int .i64 2, .int .i64 0, .int .i64 0, .int .i64 0, .int .i64 3, .int .i64 0, .int .i64 2, .int .i64 r, .int .i64 0] 77)).heap[y1.heap.size]? = some (.cells #[.int .i64 1, .int .i64 2, .int .i64 0, .int .i64 0, .int .i64 0, .int .i64 3, .int .i64 0, .int .i64 2, .int .i64 r, .int .i64 0] 77) from by have := heap_alloc_new y1 (.cells #[.int .i64 1, .int .i64 2, .int .i64 0, .int .i64 0, .int .i64 0, .int .i64 3, .int .i64 0, .int .i64 2, .int .i64 r, .int .i64 0] 77); exact this)
  have BT := hid (Below.box (w := y1) (.cells #[.int .i64 1, .int .i64 2, .int .i64 0, .int .i64 0, .int .i64 0, .int .i64 3, .int .i64 0, .int .i64 2, .int .i64 r, .int .i64 0] 77))
  have hsz : v4.heap.size < y1.heap.size := by have := GY.out.size; simp at this; omega
  have hwn : w.heap.size + 1 ≤ v4.heap.size := by have := BW4.out.size; omega
  have HP9 := hid (show (y1.alloc (.cells #[.int .i64 1, .int .i64 2, .int .i64 0, .int .i64 0, .int .i64 0, .int .i64 3, .int .i64 0, .int .i64 2, .int .i64 r, .int .i64 0] 77)).heap[v4.heap.size]? = some (.cells #[.bool (ptI 0 0).x.num.neg, .slice D0_1 n0_1 c0_1, .slice D0_2 n0_2 c0_2, .bool (ptI 0 0).y.num.neg, .slice D0_4 n0_4 c0_4, .slice D0_5 n0_5 c0_5, .bool (ptI 2 0).x.num.neg, .slice D1_1 n1_1 c1_1, .slice D1_2 n1_2 c1_2, .bool (ptI 2 0).y.num.neg, .slice D1_4 n1_4 c1_4, .slice D1_5 n1_5 c1_5, .bool (ptI 2 1).x.num.neg, .slice D2_1 n2_1 c2_1, .slice D2_2 n2_2 c2_2, .bool (ptI 2 1).y.num.neg, .slice D2_4 n2_4 c2_4, .slice D2_5 n2_5 c2_5, .bool (ptI 0 2).x.num.neg, .slice D3_1 n3_1 c3_1, .slice D3_2 n3_2 c3_2, .bool (ptI 0 2).y.num.neg, .slice D3_4 n3_4 c3_4, .slice D3_5 n3_5 c3_5] 34) from heap_keepC ((GY.out.block _ (by simp) (by intro e; injection e with e; omega)).trans HP0.out) BT.out)
  have RR := hid (show y1.heap[w.heap.size]? = some (.cells #[.slice none 0 0, .slice none 0 0] 26) from (GY.out.block _ (by simp; omega) (by intro e; injection e with e; omega)).trans (heap_keepC (heap_keepC RI.out BW4.out) BP.out))
  have Q0 := hid ((((((A0.out.below HB1.out).below HB2.out).below HB3.out).below BP.out).keep (fun b hb => GY.out.block b (((((A0.out.below HB1.out).below HB2.out).below HB3.out).below BP.out).lt b hb) (by intro e; injection e with e; have := S0.out b hb; omega))).below BT.out)
  have Q1 := hid (((((A1.out.below HB2.out).below HB3.out).below BP.out).keep (fun b hb => GY.out.block b ((((A1.out.below HB2.out).below HB3.out).below BP.out).lt b hb) (by intro e; injection e with e; have := S1.out b hb; omega))).below BT.out)
  have Q2 := hid ((((A2.out.below HB3.out).below BP.out).keep (fun b hb => GY.out.block b (((A2.out.below HB3.out).below BP.out).lt b hb) (by intro e; injection e with e; have := S2.out b hb; omega))).below BT.out)
  have Q3 := hid (((A3.out.below BP.out).keep (fun b hb => GY.out.block b ((A3.out.below BP.out).lt b hb) (by intro e; injection e with e; have := S3.out b hb; omega))).below BT.out)
  obtain ⟨r0,e0⟩ := box_cell RR.out (j := 0) rfl
  obtain ⟨r1,e1⟩ := box_cell RR.out (j := 1) rfl
  have hz9 : w.heap.size < y1.heap.size := by omega
  go_wp2
  refine bodyPost_ret (v := .agg #[.slice (some ⟨v4.heap.size,0,none⟩) 4 4, .slice (some ⟨y1.heap.size,0,none⟩) 2 2]) (by simp [results,Tryz.results26,go_sem, *]) rfl ?_
  have hk : ∀ b,b ≠ w.heap.size → (((y1.alloc (.cells #[.int .i64 1, .int .i64 2, .int .i64 0, .int .i64 0, .int .i64 0, .int .i64 3, .int .i64 0, .int .i64 2, .int .i64 r, .int .i64 0] 77)).setCell ⟨w.heap.size,0,none⟩ (.slice (some ⟨v4.heap.size,0,none⟩) 4 4)).setCell ⟨w.heap.size,1,none⟩ (.slice (some ⟨y1.heap.size,0,none⟩) 2 2)).heap[b]? = (y1.alloc (.cells #[.int .i64 1, .int .i64 2, .int .i64 0, .int .i64 0, .int .i64 0, .int .i64 3, .int .i64 0, .int .i64 2, .int .i64 r, .int .i64 0] 77)).heap[b]? := fun b hb => heap_setCells w.heap.size [.slice (some ⟨v4.heap.size,0,none⟩) 4 4, .slice (some ⟨y1.heap.size,0,none⟩) 2 2] (y1.alloc (.cells #[.int .i64 1, .int .i64 2, .int .i64 0, .int .i64 0, .int .i64 0, .int .i64 3, .int .i64 0, .int .i64 2, .int .i64 r, .int .i64 0] 77)) 0 b hb
  have hv : (((y1.alloc (.cells #[.int .i64 1, .int .i64 2, .int .i64 0, .int .i64 0, .int .i64 0, .int .i64 3, .int .i64 0, .int .i64 2, .int .i64 r, .int .i64 0] 77)).setCell ⟨w.heap.size,0,none⟩ (.slice (some ⟨v4.heap.size,0,none⟩) 4 4)).setCell ⟨w.heap.size,1,none⟩ (.slice (some ⟨y1.heap.size,0,none⟩) 2 2)) = (((y1.setCell ⟨w.heap.size,0,none⟩ (.slice (some ⟨v4.heap.size,0,none⟩) 4 4)).setCell ⟨w.heap.size,1,none⟩ (.slice (some ⟨y1.heap.size,0,none⟩) 2 2)).alloc (.cells #[.int .i64 1, .int .i64 2, .int .i64 0, .int .i64 0, .int .i64 0, .int .i64 3, .int .i64 0, .int .i64 2, .int .i64 r, .int .i64 0] 77)) := by go_simp
  rw [hv] at hk
  have HBN := hid (show Below w.heap.size y1 (((y1.setCell ⟨w.heap.size,0,none⟩ (.slice (some ⟨v4.heap.size,0,none⟩) 4 4)).setCell ⟨w.heap.size,1,none⟩ (.slice (some ⟨y1.heap.size,0,none⟩) 2 2)).alloc (.cells #[.int .i64 1, .int .i64 2, .int .i64 0, .int .i64 0, .int .i64 0, .int .i64 3, .int .i64 0, .int .i64 2, .int .i64 r, .int .i64 0] 77)) from (((Below.refl w.heap.size y1).setCell (p := ⟨w.heap.size,0,none⟩) (Nat.le_refl _) _).setCell (p := ⟨w.heap.size,1,none⟩) (Nat.le_refl _) _).alloc (by simp; omega) _)
  obtain ⟨W,hW⟩ : ∃ W,(((y1.setCell ⟨w.heap.size,0,none⟩ (.slice (some ⟨v4.heap.size,0,none⟩) 4 4)).setCell ⟨w.heap.size,1,none⟩ (.slice (some ⟨y1.heap.size,0,none⟩) 2 2)).alloc (.cells #[.int .i64 1, .int .i64 2, .int .i64 0, .int .i64 0, .int .i64 0, .int .i64 3, .int .i64 0, .int .i64 2, .int .i64 r, .int .i64 0] 77)) = W := ⟨_,rfl⟩
  rw [hW] at hk HBN ⊢
  clear hv hW
  have D0 := pt_dat (Q0.out.keep (fun b hb => hk b (by have := S0.out b hb; omega)))
  have D1 := pt_dat (Q1.out.keep (fun b hb => hk b (by have := S1.out b hb; omega)))
  have D2 := pt_dat (Q2.out.keep (fun b hb => hk b (by have := S2.out b hb; omega)))
  have D3 := pt_dat (Q3.out.keep (fun b hb => hk b (by have := S3.out b hb; omega)))
  obtain ⟨b1,hsl1,hr1⟩ := lit_slG (α := TPoint) (n := 4) ((hk _ (by omega)).trans HP9.out) (by rfl) (by decide) (Filled.push (Filled.push (Filled.push (Filled.push (Filled.nil (α := TPoint) W []) (by rfl) D0) (by rfl) D1) (by rfl) D2) (by rfl) D3) (by rfl)
  obtain ⟨b2,hsl2,hr2⟩ := lit_slG (α := TTri) (n := 2) ((hk _ (by omega)).trans HT9.out) (by rfl) (by decide) (Filled.push (Filled.push (Filled.nil (α := TTri) W []) (by rfl) (tri_dat W 1 2 0 0 0 (i64_small (by decide)) (i64_small (by decide)) (i64_small (by decide)) (i64_small (by decide)) (i64_small (by decide)))) (by rfl) (tri_dat W 3 0 2 r 0 (i64_small (by decide)) (i64_small (by decide)) (i64_small (by decide)) (i64_small (by omega)) (i64_small (by decide)))) (by rfl)
  refine ⟨mesh1 r, _, _,rfl, .inr (.inl ⟨r,hr,rfl⟩),TMesh.mkAgg (x := mesh1 r) hsl1 hsl2,grown_afterC (grown_nextC (grown_nextC (grown_nextC G1.out (grown_below0 BW4.out _)) (grown_below0 BP.out _)) GY.out) HBN.out,fun b hb => ?_⟩
  rcases List.mem_append.1 hb with hb | hb
  ·rcases hr1 b hb with rfl | hb
   ·omega
   ·obtain ⟨l,hl,hb2⟩ := List.mem_flatten.1 hb
    simp at hl
    rcases hl with rfl | rfl | rfl | rfl
    ·have := S0.out b hb2; omega
    ·have := S1.out b hb2; omega
    ·have := S2.out b hb2; omega
    ·have := S3.out b hb2; omega
  ·rcases hr2 b hb with rfl | hb
   ·omega
   ·obtain ⟨l,hl,hb2⟩ := List.mem_flatten.1 hb
    simp at hl
    subst hl
    cases hb2
 ·go_wp2_with fail
  refine (spec_PointAt 0 0 _ (by constructor <;> decide) (by constructor <;> decide)).mono ?_
  rintro _ v1 ⟨u0,s0,rfl,ha0,ho0,hb0⟩
  obtain ⟨D0_1,n0_1,c0_1,e0_1,D0_2,n0_2,c0_2,e0_2,D0_4,n0_4,c0_4,e0_4,D0_5,n0_5,c0_5,e0_5,rfl,z0, _, _, _, _⟩ := TPoint.agg ha0
  have A0 := hid ha0; have HB0 := hid hb0
  have S0 := hid (show ∀ b ∈ s0,wi.heap.size ≤ b from fun b hb => Nat.le_trans BW0.out.size (ho0.2 b hb).1)
  have BW1 := hid (Below.next BW0.out hb0)
  clear ha0 ho0 hb0 z0
  go_wp2_with fail
  refine (spec_PointAt 1 0 _ (by constructor <;> decide) (by constructor <;> decide)).mono ?_
  rintro _ v2 ⟨u1,s1,rfl,ha1,ho1,hb1⟩
  obtain ⟨D1_1,n1_1,c1_1,e1_1,D1_2,n1_2,c1_2,e1_2,D1_4,n1_4,c1_4,e1_4,D1_5,n1_5,c1_5,e1_5,rfl,z1, _, _, _, _⟩ := TPoint.agg ha1
  have A1 := hid ha1; have HB1 := hid hb1
  have S1 := hid (show ∀ b ∈ s1,wi.heap.size ≤ b from fun b hb => Nat.le_trans BW1.out.size (ho1.2 b hb).1)
  have BW2 := hid (Below.next BW1.out hb1)
  clear ha1 ho1 hb1 z1
  go_wp2_with fail
  refine (spec_PointAt 2 0 _ (by constructor <;> decide) (by constructor <;> decide)).mono ?_
  rintro _ v3 ⟨u2,s2,rfl,ha2,ho2,hb2⟩
  obtain ⟨D2_1,n2_1,c2_1,e2_1,D2_2,n2_2,c2_2,e2_2,D2_4,n2_4,c2_4,e2_4,D2_5,n2_5,c2_5,e2_5,rfl,z2, _, _, _, _⟩ := TPoint.agg ha2
  have A2 := hid ha2; have HB2 := hid hb2
  have S2 := hid (show ∀ b ∈ s2,wi.heap.size ≤ b from fun b hb => Nat.le_trans BW2.out.size (ho2.2 b hb).1)
  have BW3 := hid (Below.next BW2.out hb2)
  clear ha2 ho2 hb2 z2
  go_wp2_with fail
  refine (spec_PointAt 2 1 _ (by constructor <;> decide) (by constructor <;> decide)).mono ?_
  rintro _ v4 ⟨u3,s3,rfl,ha3,ho3,hb3⟩
  obtain ⟨D3_1,n3_1,c3_1,e3_1,D3_2,n3_2,c3_2,e3_2,D3_4,n3_4,c3_4,e3_4,D3_5,n3_5,c3_5,e3_5,rfl,z3, _, _, _, _⟩ := TPoint.agg ha3
  have A3 := hid ha3; have HB3 := hid hb3
  have S3 := hid (show ∀ b ∈ s3,wi.heap.size ≤ b from fun b hb => Nat.le_trans BW3.out.size (ho3.2 b hb).1)
  have BW4 := hid (Below.next BW3.out hb3)
  clear ha3 ho3 hb3 z3
  go_wp2_with fail
  refine (spec_PointAt 1 1 _ (by constructor <;> decide) (by constructor <;> decide)).mono ?_
  rintro _ v5 ⟨u4,s4,rfl,ha4,ho4,hb4⟩
  obtain ⟨D4_1,n4_1,c4_1,e4_1,D4_2,n4_2,c4_2,e4_2,D4_4,n4_4,c4_4,e4_4,D4_5,n4_5,c4_5,e4_5,rfl,z4, _, _, _, _⟩ := TPoint.agg ha4
  have A4 := hid ha4; have HB4 := hid hb4
  have S4 := hid (show ∀ b ∈ s4,wi.heap.size ≤ b from fun b hb => Nat.le_trans BW4.out.size (ho4.2 b hb).1)
  have BW5 := hid (Below.next BW4.out hb4)
  clear ha4 ho4 hb4 z4
  go_wp2_with fail
  refine (spec_PointAt 1 2 _ (by constructor <;> decide) (by constructor <;> decide)).mono ?_
  rintro _ v6 ⟨u5,s5,rfl,ha5,ho5,hb5⟩
  obtain ⟨D5_1,n5_1,c5_1,e5_1,D5_2,n5_2,c5_2,e5_2,D5_4,n5_4,c5_4,e5_4,D5_5,n5_5,c5_5,e5_5,rfl,z5, _, _, _, _⟩ := TPoint.agg ha5
  have A5 := hid ha5; have HB5 := hid hb5
  have S5 := hid (show ∀ b ∈ s5,wi.heap.size ≤ b from fun b hb => Nat.le_trans BW5.out.size (ho5.2 b hb).1)
  have BW6 := hid (Below.next BW5.out hb5)
  clear ha5 ho5 hb5 z5
  go_wp2_with fail
  refine (spec_PointAt 0 2 _ (by constructor <;> decide) (by constructor <;> decide)).mono ?_
  rintro _ v7 ⟨u6,s6,rfl,ha6,ho6,hb6⟩
  obtain ⟨D6_1,n6_1,c6_1,e6_1,D6_2,n6_2,c6_2,e6_2,D6_4,n6_4,c6_4,e6_4,D6_5,n6_5,c6_5,e6_5,rfl,z6, _, _, _, _⟩ := TPoint.agg ha6
  have A6 := hid ha6; have HB6 := hid hb6
  have S6 := hid (show ∀ b ∈ s6,wi.heap.size ≤ b from fun b hb => Nat.le_trans BW6.out.size (ho6.2 b hb).1)
  have BW7 := hid (Below.next BW6.out hb6)
  clear ha6 ho6 hb6 z6
  go_wp2_with fail
  refine (spec_PointAt 0 1 _ (by constructor <;> decide) (by constructor <;> decide)).mono ?_
  rintro _ v8 ⟨u7,s7,rfl,ha7,ho7,hb7⟩
  obtain ⟨D7_1,n7_1,c7_1,e7_1,D7_2,n7_2,c7_2,e7_2,D7_4,n7_4,c7_4,e7_4,D7_5,n7_5,c7_5,e7_5,rfl,z7, _, _, _, _⟩ := TPoint.agg ha7
  have A7 := hid ha7; have HB7 := hid hb7
  have S7 := hid (show ∀ b ∈ s7,wi.heap.size ≤ b from fun b hb => Nat.le_trans BW7.out.size (ho7.2 b hb).1)
  have BW8 := hid (Below.next BW7.out hb7)
  clear ha7 ho7 hb7 z7
  have BP := hid (Below.box (w := v8) (.cells #[.bool (ptI 0 0).x.num.neg, .slice D0_1 n0_1 c0_1, .slice D0_2 n0_2 c0_2, .bool (ptI 0 0).y.num.neg, .slice D0_4 n0_4 c0_4, .slice D0_5 n0_5 c0_5, .bool (ptI 1 0).x.num.neg, .slice D1_1 n1_1 c1_1, .slice D1_2 n1_2 c1_2, .bool (ptI 1 0).y.num.neg, .slice D1_4 n1_4 c1_4, .slice D1_5 n1_5 c1_5, .bool (ptI 2 0).x.num.neg, .slice D2_1 n2_1 c2_1, .slice D2_2 n2_2 c2_2, .bool (ptI 2 0).y.num.neg, .slice D2_4 n2_4 c2_4, .slice D2_5 n2_5 c2_5, .bool (ptI 2 1).x.num.neg, .slice D3_1 n3_1 c3_1, .slice D3_2 n3_2 c3_2, .bool (ptI 2 1).y.num.neg, .slice D3_4 n3_4 c3_4, .slice D3_5 n3_5 c3_5, .bool (ptI 1 1).x.num.neg, .slice D4_1 n4_1 c4_1, .slice D4_2 n4_2 c4_2, .bool (ptI 1 1).y.num.neg, .slice D4_4 n4_4 c4_4, .slice D4_5 n4_5 c4_5, .bool (ptI 1 2).x.num.neg, .slice D5_1 n5_1 c5_1, .slice D5_2 n5_2 c5_2, .bool (ptI 1 2).y.num.neg, .slice D5_4 n5_4 c5_4, .slice D5_5 n5_5 c5_5, .bool (ptI 0 2).x.num.neg, .slice D6_1 n6_1 c6_1, .slice D6_2 n6_2 c6_2, .bool (ptI 0 2).y.num.neg, .slice D6_4 n6_4 c6_4, .slice D6_5 n6_5 c6_5, .bool (ptI 0 1).x.num.neg, .slice D7_1 n7_1 c7_1, .slice D7_2 n7_2 c7_2, .bool (ptI 0 1).y.num.neg, .slice D7_4 n7_4 c7_4, .slice D7_5 n7_5 c7_5] 34))
  have HP0 := hid (show (v8.alloc (.cells #[.bool (ptI 0 0).x.num.neg, .slice D0_1 n0_1 c0_1, .slice D0_2 n0_2 c0_2, .bool (ptI 0 0).y.num.neg, .slice D0_4 n0_4 c0_4, .slice D0_5 n0_5 c0_5, .bool (ptI 1 0).x.num.neg, .slice D1_1 n1_1 c1_1, .slice D1_2 n1_2 c1_2, .bool (ptI 1 0).y.num.neg, .slice D1_4 n1_4 c1_4, .slice D1_5 n1_5 c1_5, .bool (ptI 2 0).x.num.neg, .slice D2_1 n2_1 c2_1, .slice D2_2 n2_2 c2_2, .bool (ptI 2 0).y.num.neg, .slice D2_4 n2_4 c2_4, .slice D2_5 n2_5 c2_5, .bool (ptI 2 1).x.num.neg, .slice D3_1 n3_1 c3_1, .slice D3_2 n3_2 c3_2, .bool (ptI 2 1).y.num.neg, .slice D3_4 n3_4 c3_4, .slice D3_5 n3_5 c3_5, .bool (ptI 1 1).x.num.neg, .slice D4_1 n4_1 c4_1, .slice D4_2 n4_2 c4_2, .bool (ptI 1 1).y.num.neg, .slice D4_4 n4_4 c4_4, .slice D4_5 n4_5 c4_5, .bool (ptI 1 2).x.num.neg, .slice D5_1 n5_1 c5_1, .slice D5_2 n5_2 c5_2, .bool (ptI 1 2).y.num.neg, .slice D5_4 n5_4 c5_4, .slice D5_5 n5_5 c5_5, .bool (ptI 0 2).x.num.neg, .slice D6_1 n6_1 c6_1, .slice D6_2 n6_2 c6_2, .bool (ptI 0 2).y.num.neg, .slice D6_4 n6_4 c6_4, .slice D6_5 n6_5 c6_5, .bool (ptI 0 1).x.num.neg, .slice D7_1 n7_1 c7_1, .slice D7_2 n7_2 c7_2, .bool (ptI 0 1).y.num.neg, .slice D7_4 n7_4 c7_4, .slice D7_5 n7_5 c7_5] 34)).heap[v8.heap.size]? = some (.cells #[.bool (ptI 0 0).x.num.neg, .slice D0_1 n0_1 c0_1, .slice D0_2 n0_2 c0_2, .bool (ptI 0 0).y.num.neg, .slice D0_4 n0_4 c0_4, .slice D0_5 n0_5 c0_5, .bool (ptI 1 0).x.num.neg, .slice D1_1 n1_1 c1_1, .slice D1_2 n1_2 c1_2, .bool (ptI 1 0).y.num.neg, .slice D1_4 n1_4 c1_4, .slice D1_5 n1_5 c1_5, .bool (ptI 2 0).x.num.neg, .slice D2_1 n2_1 c2_1, .slice D2_2 n2_2 c2_2, .bool (ptI 2 0).y.num.neg, .slice D2_4 n2_4 c2_4, .slice D2_5 n2_5 c2_5, .bool (ptI 2 1).x.num.neg, .slice D3_1 n3_1 c3_1, .slice D3_2 n3_2 c3_2, .bool (ptI 2 1).y.num.neg, .slice D3_4 n3_4 c3_4, .slice D3_5 n3_5 c3_5, .bool (ptI 1 1).x.num.neg, .slice D4_1 n4_1 c4_1, .slice D4_2 n4_2 c4_2, .bool (ptI 1 1).y.num.neg, .slice D4_4 n4_4 c4_4, .slice D4_5 n4_5 c4_5, .bool (ptI 1 2).x.num.neg, .slice D5_1 n5_1 c5_1, .slice D5_2 n5_2 c5_2, .bool (ptI 1 2).y.num.neg, .slice D5_4 n5_4 c5_4, .slice D5_5 n5_5 c5_5, .bool (ptI 0 2).x.num.neg, .slice D6_1 n6_1 c6_1, .slice D6_2 n6_2 c6_2, .bool (ptI 0 2).y.num.neg, .slice D6_4 n6_4 c6_4, .slice D6_5 n6_5 c6_5, .bool (ptI 0 1).x.num.neg, .slice D7_1 n7_1 c7_1, .slice D7_2 n7_2 c7_2, .bool (ptI 0 1).y.num.neg, .slice D7_4 n7_4 c7_4, .slice D7_5 n7_5 c7_5] 34) from heap_alloc_new v8 _)
  have GY := hid (show (v8.alloc (.cells #[.bool (ptI 0 0).x.num.neg, .slice D0_1 n0_1 c0_1, .slice D0_2 n0_2 c0_2, .bool (ptI 0 0).y.num.neg, .slice D0_4 n0_4 c0_4, .slice D0_5 n0_5 c0_5, .bool (ptI 1 0).x.num.neg, .slice D1_1 n1_1 c1_1, .slice D1_2 n1_2 c1_2, .bool (ptI 1 0).y.num.neg, .slice D1_4 n1_4 c1_4, .slice D1_5 n1_5 c1_5, .bool (ptI 2 0).x.num.neg, .slice D2_1 n2_1 c2_1, .slice D2_2 n2_2 c2_2, .bool (ptI 2 0).y.num.neg, .slice D2_4 n2_4 c2_4, .slice D2_5 n2_5 c2_5, .bool (ptI 2 1).x.num.neg, .slice D3_1 n3_1 c3_1, .slice D3_2 n3_2 c3_2, .bool (ptI 2 1).y.num.neg, .slice D3_4 n3_4 c3_4, .slice D3_5 n3_5 c3_5, .bool (ptI 1 1).x.num.neg, .slice D4_1 n4_1 c4_1, .slice D4_2 n4_2 c4_2, .bool (ptI 1 1).y.num.neg, .slice D4_4 n4_4 c4_4, .slice D4_5 n4_5 c4_5, .bool (ptI 1 2).x.num.neg, .slice D5_1 n5_1 c5_1, .slice D5_2 n5_2 c5_2, .bool (ptI 1 2).y.num.neg, .slice D5_4 n5_4 c5_4, .slice D5_5 n5_5 c5_5, .bool (ptI 0 2).x.num.neg, .slice D6_1 n6_1 c6_1, .slice D6_2 n6_2 c6_2, .bool (ptI 0 2).y.num.neg, .slice D6_4 n6_4 c6_4, .slice D6_5 n6_5 c6_5, .bool (ptI 0 1).x.num.neg, .slice D7_1 n7_1 c7_1, .slice D7_2 n7_2 c7_2, .bool (ptI 0 1).y.num.neg, .slice D7_4 n7_4 c7_4, .slice D7_5 n7_5 c7_5] 34)).grownBy (v8.alloc (.cells #[.bool (ptI 0 0).x.num.neg, .slice D0_1 n0_1 c0_1, .slice D0_2 n0_2 c0_2, .bool (ptI 0 0).y.num.neg, .slice D0_4 n0_4 c0_4, .slice D0_5 n0_5 c0_5, .bool (ptI 1 0).x.num.neg, .slice D1_1 n1_1 c1_1, .slice D1_2 n1_2 c1_2, .bool (ptI 1 0).y.num.neg, .slice D1_4 n1_4 c1_4, .slice D1_5 n1_5 c1_5, .bool (ptI 2 0).x.num.neg, .slice D2_1 n2_1 c2_1, .slice D2_2 n2_2 c2_2, .bool (ptI 2 0).y.num.neg, .slice D2_4 n2_4 c2_4, .slice D2_5 n2_5 c2_5, .bool (ptI 2 1).x.num.neg, .slice D3_1 n3_1 c3_1, .slice D3_2 n3_2 c3_2, .bool (ptI 2 1).y.num.neg, .slice D3_4 n3_4 c3_4, .slice D3_5 n3_5 c3_5, .bool (ptI 1 1).x.num.neg, .slice D4_1 n4_1 c4_1, .slice D4_2 n4_2 c4_2, .bool (ptI 1 1).y.num.neg, .slice D4_4 n4_4 c4_4, .slice D4_5 n4_5 c4_5, .bool (ptI 1 2).x.num.neg, .slice D5_1 n5_1 c5_1, .slice D5_2 n5_2 c5_2, .bool (ptI 1 2).y.num.neg, .slice D5_4 n5_4 c5_4, .slice D5_5 n5_5 c5_5, .bool (ptI 0 2).x.num.neg, .slice D6_1 n6_1 c6_1, .slice D6_2 n6_2 c6_2, .bool (ptI 0 2).y.num.neg, .slice D6_4 n6_4 c6_4, .slice D6_5 n6_5 c6_5, .bool (ptI 0 1).x.num.neg, .slice D7_1 n7_1 c7_1, .slice D7_2 n7_2 c7_2, .bool (ptI 0 1).y.num.neg, .slice D7_4 n7_4 c7_4, .slice D7_5 n7_5 c7_5] 34)) (some g) from grown_below0 (Below.refl _ _) _)
  have HT9 := hid (show ((v8.alloc (.cells #[.bool (ptI 0 0).x.num.neg, .slice D0_1 n0_1 c0_1, .slice D0_2 n0_2 c0_2, .bool (ptI 0 0).y.num.neg, .slice D0_4 n0_4 c0_4, .slice D0_5 n0_5 c0_5, .bool (ptI 1 0).x.num.neg, .slice D1_1 n1_1 c1_1, .slice D1_2 n1_2 c1_2, .bool (ptI 1 0).y.num.neg, .slice D1_4 n1_4 c1_4, .slice D1_5 n1_5 c1_5, .bool (ptI 2 0).x.num.neg, .slice D2_1 n2_1 c2_1, .slice D2_2 n2_2 c2_2, .bool (ptI 2 0).y.num.neg, .slice D2_4 n2_4 c2_4, .slice D2_5 n2_5 c2_5, .bool (ptI 2 1).x.num.neg, .slice D3_1 n3_1 c3_1, .slice D3_2 n3_2 c3_2, .bool (ptI 2 1).y.num.neg, .slice D3_4 n3_4 c3_4, .slice D3_5 n3_5 c3_5, .bool (ptI 1 1).x.num.neg, .slice D4_1 n4_1 c4_1, .slice D4_2 n4_2 c4_2, .bool (ptI 1 1).y.num.neg, .slice D4_4 n4_4 c4_4, .slice D4_5 n4_5 c4_5, .bool (ptI 1 2).x.num.neg, .slice D5_1 n5_1 c5_1, .slice D5_2 n5_2 c5_2, .bool (ptI 1 2).y.num.neg, .slice D5_4 n5_4 c5_4, .slice D5_5 n5_5 c5_5, .bool (ptI 0 2).x.num.neg, .slice D6_1 n6_1 c6_1, .slice D6_2 n6_2 c6_2, .bool (ptI 0 2).y.num.neg, .slice D6_4 n6_4 c6_4, .slice D6_5 n6_5 c6_5, .bool (ptI 0 1).x.num.neg, .slice D7_1 n7_1 c7_1, .slice D7_2 n7_2 c7_2, .bool (ptI 0 1).y.num.neg, .slice D7_4 n7_4 c7_4, .slice D7_5 n7_5 c7_5] 34)).alloc (.cells #[.int .i64 1, .int .i64 4, .int .i64 0, .int .i64 0, .int .i64 0, .int .i64 7, .int .i64 0, .int .i64 4, .int .i64 0, .int .i64 0, .int .i64 3, .int .i64 4, .int .i64 2, .int .i64 0, .int .i64 0, .int .i64 1, .int .i64 2, .int .i64 4, .int .i64 1, .int .i64 0, .int .i64 7, .int .i64 4, .int .i64 6, .int .i64 0, .int .i64 0, .int .i64 5, .int .i64 6, .int .i64 4, .int .i64 2, .int .i64 0] 77)).heap[v8.heap.size + 1]? = some (.cells #[.int .i64 1, .int .i64 4, .int .i64 0, .int .i64 0, .int .i64 0, .int .i64 7, .int .i64 0, .int .i64 4, .int .i64 0, .int .i64 0, .int .i64 3, .int .i64 4, .int .i64 2, .int .i64 0, .int .i64 0, .int .i64 1, .int .i64 2, .int .i64 4, .int .i64 1, .int .i64 0, .int .i64 7, .int .i64 4, .int .i64 6, .int .i64 0, .int .i64 0, .int .i64 5, .int .i64 6, .int .i64 4, .int .i64 2, .int .i64 0] 77) from by have := heap_alloc_new (v8.alloc (.cells #[.bool (ptI 0 0).x.num.neg, .slice D0_1 n0_1 c0_1, .slice D0_2 n0_2 c0_2, .bool (ptI 0 0).y.num.neg, .slice D0_4 n0_4 c0_4, .slice D0_5 n0_5 c0_5, .bool (ptI 1 0).x.num.neg, .slice D1_1 n1_1 c1_1, .slice D1_2 n1_2 c1_2, .bool (ptI 1 0).y.num.neg, .slice D1_4 n1_4 c1_4, .slice D1_5 n1_5 c1_5, .bool (ptI 2 0).x.num.neg, .slice D2_1 n2_1 c2_1, .slice D2_2 n2_2 c2_2, .bool (ptI 2 0).y.num.neg, .slice D2_4 n2_4 c2_4, .slice D2_5 n2_5 c2_5, .bool (ptI 2 1).x.num.neg, .slice D3_1 n3_1 c3_1, .slice D3_2 n3_2 c3_2, .bool (ptI 2 1).y.num.neg, .slice D3_4 n3_4 c3_4, .slice D3_5 n3_5 c3_5, .bool (ptI 1 1).x.num.neg, .slice D4_1 n4_1 c4_1, .slice D4_2 n4_2 c4_2, .bool (ptI 1 1).y.num.neg, .slice D4_4 n4_4 c4_4, .slice D4_5 n4_5 c4_5, .bool (ptI 1 2).x.num.neg, .slice D5_1 n5_1 c5_1, .slice D5_2 n5_2 c5_2, .bool (ptI 1 2).y.num.neg, .slice D5_4 n5_4 c5_4, .slice D5_5 n5_5 c5_5, .bool (ptI 0 2).x.num.neg, .slice D6_1 n6_1 c6_1, .slice D6_2 n6_2 c6_2, .bool (ptI 0 2).y.num.neg, .slice D6_4 n6_4 c6_4, .slice D6_5 n6_5 c6_5, .bool (ptI 0 1).x.num.neg, .slice D7_1 n7_1 c7_1, .slice D7_2 n7_2 c7_2, .bool (ptI 0 1).y.num.neg, .slice D7_4 n7_4 c7_4, .slice D7_5 n7_5 c7_5] 34)) (.cells #[.int .i64 1, .int .i64 4, .int .i64 0, .int .i64 0, .int .i64 0, .int .i64 7, .int .i64 0, .int .i64 4, .int .i64 0, .int .i64 0, .int .i64 3, .int .i64 4, .int .i64 2, .int .i64 0, .int .i64 0, .int .i64 1, .int .i64 2, .int .i64 4, .int .i64 1, .int .i64 0, .int .i64 7, .int .i64 4, .int .i64 6, .int .i64 0, .int .i64 0, .int .i64 5, .int .i64 6, .int .i64 4, .int .i64 2, .int .i64 0] 77); rw [World.size_alloc] at this; exact this)
  have BT := hid (Below.box (w := (v8.alloc (.cells #[.bool (ptI 0 0).x.num.neg, .slice D0_1 n0_1 c0_1, .slice D0_2 n0_2 c0_2, .bool (ptI 0 0).y.num.neg, .slice D0_4 n0_4 c0_4, .slice D0_5 n0_5 c0_5, .bool (ptI 1 0).x.num.neg, .slice D1_1 n1_1 c1_1, .slice D1_2 n1_2 c1_2, .bool (ptI 1 0).y.num.neg, .slice D1_4 n1_4 c1_4, .slice D1_5 n1_5 c1_5, .bool (ptI 2 0).x.num.neg, .slice D2_1 n2_1 c2_1, .slice D2_2 n2_2 c2_2, .bool (ptI 2 0).y.num.neg, .slice D2_4 n2_4 c2_4, .slice D2_5 n2_5 c2_5, .bool (ptI 2 1).x.num.neg, .slice D3_1 n3_1 c3_1, .slice D3_2 n3_2 c3_2, .bool (ptI 2 1).y.num.neg, .slice D3_4 n3_4 c3_4, .slice D3_5 n3_5 c3_5, .bool (ptI 1 1).x.num.neg, .slice D4_1 n4_1 c4_1, .slice D4_2 n4_2 c4_2, .bool (ptI 1 1).y.num.neg, .slice D4_4 n4_4 c4_4, .slice D4_5 n4_5 c4_5, .bool (ptI 1 2).x.num.neg, .slice D5_1 n5_1 c5_1, .slice D5_2 n5_2 c5_2, .bool (ptI 1 2).y.num.neg, .slice D5_4 n5_4 c5_4, .slice D5_5 n5_5 c5_5, .bool (ptI 0 2).x.num.neg, .slice D6_1 n6_1 c6_1, .slice D6_2 n6_2 c6_2, .bool (ptI 0 2).y.num.neg, .slice D6_4 n6_4 c6_4, .slice D6_5 n6_5 c6_5, .bool (ptI 0 1).x.num.neg, .slice D7_1 n7_1 c7_1, .slice D7_2 n7_2 c7_2, .bool (ptI 0 1).y.num.neg, .slice D7_4 n7_4 c7_4, .slice D7_5 n7_5 c7_5] 34))) (.cells #[.int .i64 1, .int .i64 4, .int .i64 0, .int .i64 0, .int .i64 0, .int .i64 7, .int .i64 0, .int .i64 4, .int .i64 0, .int .i64 0, .int .i64 3, .int .i64 4, .int .i64 2, .int .i64 0, .int .i64 0, .int .i64 1, .int .i64 2, .int .i64 4, .int .i64 1, .int .i64 0, .int .i64 7, .int .i64 4, .int .i64 6, .int .i64 0, .int .i64 0, .int .i64 5, .int .i64 6, .int .i64 4, .int .i64 2, .int .i64 0] 77))
  have hsz : v8.heap.size < (v8.alloc (.cells #[.bool (ptI 0 0).x.num.neg, .slice D0_1 n0_1 c0_1, .slice D0_2 n0_2 c0_2, .bool (ptI 0 0).y.num.neg, .slice D0_4 n0_4 c0_4, .slice D0_5 n0_5 c0_5, .bool (ptI 1 0).x.num.neg, .slice D1_1 n1_1 c1_1, .slice D1_2 n1_2 c1_2, .bool (ptI 1 0).y.num.neg, .slice D1_4 n1_4 c1_4, .slice D1_5 n1_5 c1_5, .bool (ptI 2 0).x.num.neg, .slice D2_1 n2_1 c2_1, .slice D2_2 n2_2 c2_2, .bool (ptI 2 0).y.num.neg, .slice D2_4 n2_4 c2_4, .slice D2_5 n2_5 c2_5, .bool (ptI 2 1).x.num.neg, .slice D3_1 n3_1 c3_1, .slice D3_2 n3_2 c3_2, .bool (ptI 2 1).y.num.neg, .slice D3_4 n3_4 c3_4, .slice D3_5 n3_5 c3_5, .bool (ptI 1 1).x.num.neg, .slice D4_1 n4_1 c4_1, .slice D4_2 n4_2 c4_2, .bool (ptI 1 1).y.num.neg, .slice D4_4 n4_4 c4_4, .slice D4_5 n4_5 c4_5, .bool (ptI 1 2).x.num.neg, .slice D5_1 n5_1 c5_1, .slice D5_2 n5_2 c5_2, .bool (ptI 1 2).y.num.neg, .slice D5_4 n5_4 c5_4, .slice D5_5 n5_5 c5_5, .bool (ptI 0 2).x.num.neg, .slice D6_1 n6_1 c6_1, .slice D6_2 n6_2 c6_2, .bool (ptI 0 2).y.num.neg, .slice D6_4 n6_4 c6_4, .slice D6_5 n6_5 c6_5, .bool (ptI 0 1).x.num.neg, .slice D7_1 n7_1 c7_1, .slice D7_2 n7_2 c7_2, .bool (ptI 0 1).y.num.neg, .slice D7_4 n7_4 c7_4, .slice D7_5 n7_5 c7_5] 34)).heap.size := by simp
  have hwn : w.heap.size + 1 ≤ v8.heap.size := by have := BW8.out.size; omega
  have HP9 := hid (show ((v8.alloc (.cells #[.bool (ptI 0 0).x.num.neg, .slice D0_1 n0_1 c0_1, .slice D0_2 n0_2 c0_2, .bool (ptI 0 0).y.num.neg, .slice D0_4 n0_4 c0_4, .slice D0_5 n0_5 c0_5, .bool (ptI 1 0).x.num.neg, .slice D1_1 n1_1 c1_1, .slice D1_2 n1_2 c1_2, .bool (ptI 1 0).y.num.neg, .slice D1_4 n1_4 c1_4, .slice D1_5 n1_5 c1_5, .bool (ptI 2 0).x.num.neg, .slice D2_1 n2_1 c2_1, .slice D2_2 n2_2 c2_2, .bool (ptI 2 0).y.num.neg, .slice D2_4 n2_4 c2_4, .slice D2_5 n2_5 c2_5, .bool (ptI 2 1).x.num.neg, .slice D3_1 n3_1 c3_1, .slice D3_2 n3_2 c3_2, .bool (ptI 2 1).y.num.neg, .slice D3_4 n3_4 c3_4, .slice D3_5 n3_5 c3_5, .bool (ptI 1 1).x.num.neg, .slice D4_1 n4_1 c4_1, .slice D4_2 n4_2 c4_2, .bool (ptI 1 1).y.num.neg, .slice D4_4 n4_4 c4_4, .slice D4_5 n4_5 c4_5, .bool (ptI 1 2).x.num.neg, .slice D5_1 n5_1 c5_1, .slice D5_2 n5_2 c5_2, .bool (ptI 1 2).y.num.neg, .slice D5_4 n5_4 c5_4, .slice D5_5 n5_5 c5_5, .bool (ptI 0 2).x.num.neg, .slice D6_1 n6_1 c6_1, .slice D6_2 n6_2 c6_2, .bool (ptI 0 2).y.num.neg, .slice D6_4 n6_4 c6_4, .slice D6_5 n6_5 c6_5, .bool (ptI 0 1).x.num.neg, .slice D7_1 n7_1 c7_1, .slice D7_2 n7_2 c7_2, .bool (ptI 0 1).y.num.neg, .slice D7_4 n7_4 c7_4, .slice D7_5 n7_5 c7_5] 34)).alloc (.cells #[.int .i64 1, .int .i64 4, .int .i64 0, .int .i64 0, .int .i64 0, .int .i64 7, .int .i64 0, .int .i64 4, .int .i64 0, .int .i64 0, .int .i64 3, .int .i64 4, .int .i64 2, .int .i64 0, .int .i64 0, .int .i64 1, .int .i64 2, .int .i64 4, .int .i64 1, .int .i64 0, .int .i64 7, .int .i64 4, .int .i64 6, .int .i64 0, .int .i64 0, .int .i64 5, .int .i64 6, .int .i64 4, .int .i64 2, .int .i64 0] 77)).heap[v8.heap.size]? = some (.cells #[.bool (ptI 0 0).x.num.neg, .slice D0_1 n0_1 c0_1, .slice D0_2 n0_2 c0_2, .bool (ptI 0 0).y.num.neg, .slice D0_4 n0_4 c0_4, .slice D0_5 n0_5 c0_5, .bool (ptI 1 0).x.num.neg, .slice D1_1 n1_1 c1_1, .slice D1_2 n1_2 c1_2, .bool (ptI 1 0).y.num.neg, .slice D1_4 n1_4 c1_4, .slice D1_5 n1_5 c1_5, .bool (ptI 2 0).x.num.neg, .slice D2_1 n2_1 c2_1, .slice D2_2 n2_2 c2_2, .bool (ptI 2 0).y.num.neg, .slice D2_4 n2_4 c2_4, .slice D2_5 n2_5 c2_5, .bool (ptI 2 1).x.num.neg, .slice D3_1 n3_1 c3_1, .slice D3_2 n3_2 c3_2, .bool (ptI 2 1).y.num.neg, .slice D3_4 n3_4 c3_4, .slice D3_5 n3_5 c3_5, .bool (ptI 1 1).x.num.neg, .slice D4_1 n4_1 c4_1, .slice D4_2 n4_2 c4_2, .bool (ptI 1 1).y.num.neg, .slice D4_4 n4_4 c4_4, .slice D4_5 n4_5 c4_5, .bool (ptI 1 2).x.num.neg, .slice D5_1 n5_1 c5_1, .slice D5_2 n5_2 c5_2, .bool (ptI 1 2).y.num.neg, .slice D5_4 n5_4 c5_4, .slice D5_5 n5_5 c5_5, .bool (ptI 0 2).x.num.neg, .slice D6_1 n6_1 c6_1, .slice D6_2 n6_2 c6_2, .bool (ptI 0 2).y.num.neg, .slice D6_4 n6_4 c6_4, .slice D6_5 n6_5 c6_5, .bool (ptI 0 1).x.num.neg, .slice D7_1 n7_1 c7_1, .slice D7_2 n7_2 c7_2, .bool (ptI 0 1).y.num.neg, .slice D7_4 n7_4 c7_4, .slice D7_5 n7_5 c7_5] 34) from heap_keepC ((GY.out.block _ (by simp) (by intro e; injection e with e; omega)).trans HP0.out) BT.out)
  have RR := hid (show v8.heap[w.heap.size]? = some (.cells #[.slice none 0 0, .slice none 0 0] 26) from heap_keepC RI.out BW8.out)
  have Q0 := hid ((((((((((A0.out.below HB1.out).below HB2.out).below HB3.out).below HB4.out).below HB5.out).below HB6.out).below HB7.out).below BP.out).keep (fun b hb => GY.out.block b (((((((((A0.out.below HB1.out).below HB2.out).below HB3.out).below HB4.out).below HB5.out).below HB6.out).below HB7.out).below BP.out).lt b hb) (by intro e; injection e with e; have := S0.out b hb; omega))).below BT.out)
  have Q1 := hid (((((((((A1.out.below HB2.out).below HB3.out).below HB4.out).below HB5.out).below HB6.out).below HB7.out).below BP.out).keep (fun b hb => GY.out.block b ((((((((A1.out.below HB2.out).below HB3.out).below HB4.out).below HB5.out).below HB6.out).below HB7.out).below BP.out).lt b hb) (by intro e; injection e with e; have := S1.out b hb; omega))).below BT.out)
  have Q2 := hid ((((((((A2.out.below HB3.out).below HB4.out).below HB5.out).below HB6.out).below HB7.out).below BP.out).keep (fun b hb => GY.out.block b (((((((A2.out.below HB3.out).below HB4.out).below HB5.out).below HB6.out).below HB7.out).below BP.out).lt b hb) (by intro e; injection e with e; have := S2.out b hb; omega))).below BT.out)
  have Q3 := hid (((((((A3.out.below HB4.out).below HB5.out).below HB6.out).below HB7.out).below BP.out).keep (fun b hb => GY.out.block b ((((((A3.out.below HB4.out).below HB5.out).below HB6.out).below HB7.out).below BP.out).lt b hb) (by intro e; injection e with e; have := S3.out b hb; omega))).below BT.out)
  have Q4 := hid ((((((A4.out.below HB5.out).below HB6.out).below HB7.out).below BP.out).keep (fun b hb => GY.out.block b (((((A4.out.below HB5.out).below HB6.out).below HB7.out).below BP.out).lt b hb) (by intro e; injection e with e; have := S4.out b hb; omega))).below BT.out)
  have Q5 := hid (((((A5.out.below HB6.out).below HB7.out).below BP.out).keep (fun b hb => GY.out.block b ((((A5.out.below HB6.out).below HB7.out).below BP.out).lt b hb) (by intro e; injection e with e; have := S5.out b hb; omega))).below BT.out)
  have Q6 := hid ((((A6.out.below HB7.out).below BP.out).keep (fun b hb => GY.out.block b (((A6.out.below HB7.out).below BP.out).lt b hb) (by intro e; injection e with e; have := S6.out b hb; omega))).below BT.out)
  have Q7 := hid (((A7.out.below BP.out).keep (fun b hb => GY.out.block b ((A7.out.below BP.out).lt b hb) (by intro e; injection e with e; have := S7.out b hb; omega))).below BT.out)
  obtain ⟨r0,e0⟩ := box_cell RR.out (j := 0) rfl
  obtain ⟨r1,e1⟩ := box_cell RR.out (j := 1) rfl
  have hz9 : w.heap.size < v8.heap.size := by omega
  go_wp2
  have hk : ∀ b,b ≠ w.heap.size → ((((v8.setCell ⟨w.heap.size,0,none⟩ (.slice (some ⟨v8.heap.size,0,none⟩) 8 8)).setCell ⟨w.heap.size,1,none⟩ (.slice (some ⟨v8.heap.size + 1,0,none⟩) 6 6)).alloc (.cells #[.bool (ptI 0 0).x.num.neg, .slice D0_1 n0_1 c0_1, .slice D0_2 n0_2 c0_2, .bool (ptI 0 0).y.num.neg, .slice D0_4 n0_4 c0_4, .slice D0_5 n0_5 c0_5, .bool (ptI 1 0).x.num.neg, .slice D1_1 n1_1 c1_1, .slice D1_2 n1_2 c1_2, .bool (ptI 1 0).y.num.neg, .slice D1_4 n1_4 c1_4, .slice D1_5 n1_5 c1_5, .bool (ptI 2 0).x.num.neg, .slice D2_1 n2_1 c2_1, .slice D2_2 n2_2 c2_2, .bool (ptI 2 0).y.num.neg, .slice D2_4 n2_4 c2_4, .slice D2_5 n2_5 c2_5, .bool (ptI 2 1).x.num.neg, .slice D3_1 n3_1 c3_1, .slice D3_2 n3_2 c3_2, .bool (ptI 2 1).y.num.neg, .slice D3_4 n3_4 c3_4, .slice D3_5 n3_5 c3_5, .bool (ptI 1 1).x.num.neg, .slice D4_1 n4_1 c4_1, .slice D4_2 n4_2 c4_2, .bool (ptI 1 1).y.num.neg, .slice D4_4 n4_4 c4_4, .slice D4_5 n4_5 c4_5, .bool (ptI 1 2).x.num.neg, .slice D5_1 n5_1 c5_1, .slice D5_2 n5_2 c5_2, .bool (ptI 1 2).y.num.neg, .slice D5_4 n5_4 c5_4, .slice D5_5 n5_5 c5_5, .bool (ptI 0 2).x.num.neg, .slice D6_1 n6_1 c6_1, .slice D6_2 n6_2 c6_2, .bool (ptI 0 2).y.num.neg, .slice D6_4 n6_4 c6_4, .slice D6_5 n6_5 c6_5, .bool (ptI 0 1).x.num.neg, .slice D7_1 n7_1 c7_1, .slice D7_2 n7_2 c7_2, .bool (ptI 0 1).y.num.neg, .slice D7_4 n7_4 c7_4, .slice D7_5 n7_5 c7_5] 34)).alloc (.cells #[.int .i64 1, .int .i64 4, .int .i64 0, .int .i64 0, .int .i64 0, .int .i64 7, .int .i64 0, .int .i64 4, .int .i64 0, .int .i64 0, .int .i64 3, .int .i64 4, .int .i64 2, .int .i64 0, .int .i64 0, .int .i64 1, .int .i64 2, .int .i64 4, .int .i64 1, .int .i64 0, .int .i64 7, .int .i64 4, .int .i64 6, .int .i64 0, .int .i64 0, .int .i64 5, .int .i64 6, .int .i64 4, .int .i64 2, .int .i64 0] 77)).heap[b]? = ((v8.alloc (.cells #[.bool (ptI 0 0).x.num.neg, .slice D0_1 n0_1 c0_1, .slice D0_2 n0_2 c0_2, .bool (ptI 0 0).y.num.neg, .slice D0_4 n0_4 c0_4, .slice D0_5 n0_5 c0_5, .bool (ptI 1 0).x.num.neg, .slice D1_1 n1_1 c1_1, .slice D1_2 n1_2 c1_2, .bool (ptI 1 0).y.num.neg, .slice D1_4 n1_4 c1_4, .slice D1_5 n1_5 c1_5, .bool (ptI 2 0).x.num.neg, .slice D2_1 n2_1 c2_1, .slice D2_2 n2_2 c2_2, .bool (ptI 2 0).y.num.neg, .slice D2_4 n2_4 c2_4, .slice D2_5 n2_5 c2_5, .bool (ptI 2 1).x.num.neg, .slice D3_1 n3_1 c3_1, .slice D3_2 n3_2 c3_2, .bool (ptI 2 1).y.num.neg, .slice D3_4 n3_4 c3_4, .slice D3_5 n3_5 c3_5, .bool (ptI 1 1).x.num.neg, .slice D4_1 n4_1 c4_1, .slice D4_2 n4_2 c4_2, .bool (ptI 1 1).y.num.neg, .slice D4_4 n4_4 c4_4, .slice D4_5 n4_5 c4_5, .bool (ptI 1 2).x.num.neg, .slice D5_1 n5_1 c5_1, .slice D5_2 n5_2 c5_2, .bool (ptI 1 2).y.num.neg, .slice D5_4 n5_4 c5_4, .slice D5_5 n5_5 c5_5, .bool (ptI 0 2).x.num.neg, .slice D6_1 n6_1 c6_1, .slice D6_2 n6_2 c6_2, .bool (ptI 0 2).y.num.neg, .slice D6_4 n6_4 c6_4, .slice D6_5 n6_5 c6_5, .bool (ptI 0 1).x.num.neg, .slice D7_1 n7_1 c7_1, .slice D7_2 n7_2 c7_2, .bool (ptI 0 1).y.num.neg, .slice D7_4 n7_4 c7_4, .slice D7_5 n7_5 c7_5] 34)).alloc (.cells #[.int .i64 1, .int .i64 4, .int .i64 0, .int .i64 0, .int .i64 0, .int .i64 7, .int .i64 0, .int .i64 4, .int .i64 0, .int .i64 0, .int .i64 3, .int .i64 4, .int .i64 2, .int .i64 0, .int .i64 0, .int .i64 1, .int .i64 2, .int .i64 4, .int .i64 1, .int .i64 0, .int .i64 7, .int .i64 4, .int .i64 6, .int .i64 0, .int .i64 0, .int .i64 5, .int .i64 6, .int .i64 4, .int .i64 2, .int .i64 0] 77)).heap[b]? := fun b hb => heap_setsA v8 _ _ w.heap.size _ _ b hb
  have HBN := hid (show Below w.heap.size v8 ((((v8.setCell ⟨w.heap.size,0,none⟩ (.slice (some ⟨v8.heap.size,0,none⟩) 8 8)).setCell ⟨w.heap.size,1,none⟩ (.slice (some ⟨v8.heap.size + 1,0,none⟩) 6 6)).alloc (.cells #[.bool (ptI 0 0).x.num.neg, .slice D0_1 n0_1 c0_1, .slice D0_2 n0_2 c0_2, .bool (ptI 0 0).y.num.neg, .slice D0_4 n0_4 c0_4, .slice D0_5 n0_5 c0_5, .bool (ptI 1 0).x.num.neg, .slice D1_1 n1_1 c1_1, .slice D1_2 n1_2 c1_2, .bool (ptI 1 0).y.num.neg, .slice D1_4 n1_4 c1_4, .slice D1_5 n1_5 c1_5, .bool (ptI 2 0).x.num.neg, .slice D2_1 n2_1 c2_1, .slice D2_2 n2_2 c2_2, .bool (ptI 2 0).y.num.neg, .slice D2_4 n2_4 c2_4, .slice D2_5 n2_5 c2_5, .bool (ptI 2 1).x.num.neg, .slice D3_1 n3_1 c3_1, .slice D3_2 n3_2 c3_2, .bool (ptI 2 1).y.num.neg, .slice D3_4 n3_4 c3_4, .slice D3_5 n3_5 c3_5, .bool (ptI 1 1).x.num.neg, .slice D4_1 n4_1 c4_1, .slice D4_2 n4_2 c4_2, .bool (ptI 1 1).y.num.neg, .slice D4_4 n4_4 c4_4, .slice D4_5 n4_5 c4_5, .bool (ptI 1 2).x.num.neg, .slice D5_1 n5_1 c5_1, .slice D5_2 n5_2 c5_2, .bool (ptI 1 2).y.num.neg, .slice D5_4 n5_4 c5_4, .slice D5_5 n5_5 c5_5, .bool (ptI 0 2).x.num.neg, .slice D6_1 n6_1 c6_1, .slice D6_2 n6_2 c6_2, .bool (ptI 0 2).y.num.neg, .slice D6_4 n6_4 c6_4, .slice D6_5 n6_5 c6_5, .bool (ptI 0 1).x.num.neg, .slice D7_1 n7_1 c7_1, .slice D7_2 n7_2 c7_2, .bool (ptI 0 1).y.num.neg, .slice D7_4 n7_4 c7_4, .slice D7_5 n7_5 c7_5] 34)).alloc (.cells #[.int .i64 1, .int .i64 4, .int .i64 0, .int .i64 0, .int .i64 0, .int .i64 7, .int .i64 0, .int .i64 4, .int .i64 0, .int .i64 0, .int .i64 3, .int .i64 4, .int .i64 2, .int .i64 0, .int .i64 0, .int .i64 1, .int .i64 2, .int .i64 4, .int .i64 1, .int .i64 0, .int .i64 7, .int .i64 4, .int .i64 6, .int .i64 0, .int .i64 0, .int .i64 5, .int .i64 6, .int .i64 4, .int .i64 2, .int .i64 0] 77)) from ((((Below.refl w.heap.size v8).setCell (p := ⟨w.heap.size,0,none⟩) (Nat.le_refl _) _).setCell (p := ⟨w.heap.size,1,none⟩) (Nat.le_refl _) _).alloc (by simp; omega) _).alloc (by simp; omega) _)
  have q0 : ((((v8.setCell ⟨w.heap.size,0,none⟩ (.slice (some ⟨v8.heap.size,0,none⟩) 8 8)).setCell ⟨w.heap.size,1,none⟩ (.slice (some ⟨v8.heap.size + 1,0,none⟩) 6 6)).alloc (.cells #[.bool (ptI 0 0).x.num.neg, .slice D0_1 n0_1 c0_1, .slice D0_2 n0_2 c0_2, .bool (ptI 0 0).y.num.neg, .slice D0_4 n0_4 c0_4, .slice D0_5 n0_5 c0_5, .bool (ptI 1 0).x.num.neg, .slice D1_1 n1_1 c1_1, .slice D1_2 n1_2 c1_2, .bool (ptI 1 0).y.num.neg, .slice D1_4 n1_4 c1_4, .slice D1_5 n1_5 c1_5, .bool (ptI 2 0).x.num.neg, .slice D2_1 n2_1 c2_1, .slice D2_2 n2_2 c2_2, .bool (ptI 2 0).y.num.neg, .slice D2_4 n2_4 c2_4, .slice D2_5 n2_5 c2_5, .bool (ptI 2 1).x.num.neg, .slice D3_1 n3_1 c3_1, .slice D3_2 n3_2 c3_2, .bool (ptI 2 1).y.num.neg, .slice D3_4 n3_4 c3_4, .slice D3_5 n3_5 c3_5, .bool (ptI 1 1).x.num.neg, .slice D4_1 n4_1 c4_1, .slice D4_2 n4_2 c4_2, .bool (ptI 1 1).y.num.neg, .slice D4_4 n4_4 c4_4, .slice D4_5 n4_5 c4_5, .bool (ptI 1 2).x.num.neg, .slice D5_1 n5_1 c5_1, .slice D5_2 n5_2 c5_2, .bool (ptI 1 2).y.num.neg, .slice D5_4 n5_4 c5_4, .slice D5_5 n5_5 c5_5, .bool (ptI 0 2).x.num.neg, .slice D6_1 n6_1 c6_1, .slice D6_2 n6_2 c6_2, .bool (ptI 0 2).y.num.neg, .slice D6_4 n6_4 c6_4, .slice D6_5 n6_5 c6_5, .bool (ptI 0 1).x.num.neg, .slice D7_1 n7_1 c7_1, .slice D7_2 n7_2 c7_2, .bool (ptI 0 1).y.num.neg, .slice D7_4 n7_4 c7_4, .slice D7_5 n7_5 c7_5] 34)).alloc (.cells #[.int .i64 1, .int .i64 4, .int .i64 0, .int .i64 0, .int .i64 0, .int .i64 7, .int .i64 0, .int .i64 4, .int .i64 0, .int .i64 0, .int .i64 3, .int .i64 4, .int .i64 2, .int .i64 0, .int .i64 0, .int .i64 1, .int .i64 2, .int .i64 4, .int .i64 1, .int .i64 0, .int .i64 7, .int .i64 4, .int .i64 6, .int .i64 0, .int .i64 0, .int .i64 5, .int .i64 6, .int .i64 4, .int .i64 2, .int .i64 0] 77)).cell? ⟨w.heap.size,0,none⟩ = some (.slice (some ⟨v8.heap.size,0,none⟩) 8 8) := by go_simp
  have q1 : ((((v8.setCell ⟨w.heap.size,0,none⟩ (.slice (some ⟨v8.heap.size,0,none⟩) 8 8)).setCell ⟨w.heap.size,1,none⟩ (.slice (some ⟨v8.heap.size + 1,0,none⟩) 6 6)).alloc (.cells #[.bool (ptI 0 0).x.num.neg, .slice D0_1 n0_1 c0_1, .slice D0_2 n0_2 c0_2, .bool (ptI 0 0).y.num.neg, .slice D0_4 n0_4 c0_4, .slice D0_5 n0_5 c0_5, .bool (ptI 1 0).x.num.neg, .slice D1_1 n1_1 c1_1, .slice D1_2 n1_2 c1_2, .bool (ptI 1 0).y.num.neg, .slice D1_4 n1_4 c1_4, .slice D1_5 n1_5 c1_5, .bool (ptI 2 0).x.num.neg, .slice D2_1 n2_1 c2_1, .slice D2_2 n2_2 c2_2, .bool (ptI 2 0).y.num.neg, .slice D2_4 n2_4 c2_4, .slice D2_5 n2_5 c2_5, .bool (ptI 2 1).x.num.neg, .slice D3_1 n3_1 c3_1, .slice D3_2 n3_2 c3_2, .bool (ptI 2 1).y.num.neg, .slice D3_4 n3_4 c3_4, .slice D3_5 n3_5 c3_5, .bool (ptI 1 1).x.num.neg, .slice D4_1 n4_1 c4_1, .slice D4_2 n4_2 c4_2, .bool (ptI 1 1).y.num.neg, .slice D4_4 n4_4 c4_4, .slice D4_5 n4_5 c4_5, .bool (ptI 1 2).x.num.neg, .slice D5_1 n5_1 c5_1, .slice D5_2 n5_2 c5_2, .bool (ptI 1 2).y.num.neg, .slice D5_4 n5_4 c5_4, .slice D5_5 n5_5 c5_5, .bool (ptI 0 2).x.num.neg, .slice D6_1 n6_1 c6_1, .slice D6_2 n6_2 c6_2, .bool (ptI 0 2).y.num.neg, .slice D6_4 n6_4 c6_4, .slice D6_5 n6_5 c6_5, .bool (ptI 0 1).x.num.neg, .slice D7_1 n7_1 c7_1, .slice D7_2 n7_2 c7_2, .bool (ptI 0 1).y.num.neg, .slice D7_4 n7_4 c7_4, .slice D7_5 n7_5 c7_5] 34)).alloc (.cells #[.int .i64 1, .int .i64 4, .int .i64 0, .int .i64 0, .int .i64 0, .int .i64 7, .int .i64 0, .int .i64 4, .int .i64 0, .int .i64 0, .int .i64 3, .int .i64 4, .int .i64 2, .int .i64 0, .int .i64 0, .int .i64 1, .int .i64 2, .int .i64 4, .int .i64 1, .int .i64 0, .int .i64 7, .int .i64 4, .int .i64 6, .int .i64 0, .int .i64 0, .int .i64 5, .int .i64 6, .int .i64 4, .int .i64 2, .int .i64 0] 77)).cell? ⟨w.heap.size,1,none⟩ = some (.slice (some ⟨v8.heap.size + 1,0,none⟩) 6 6) := by go_simp
  have hqs : w.heap.size < ((((v8.setCell ⟨w.heap.size,0,none⟩ (.slice (some ⟨v8.heap.size,0,none⟩) 8 8)).setCell ⟨w.heap.size,1,none⟩ (.slice (some ⟨v8.heap.size + 1,0,none⟩) 6 6)).alloc (.cells #[.bool (ptI 0 0).x.num.neg, .slice D0_1 n0_1 c0_1, .slice D0_2 n0_2 c0_2, .bool (ptI 0 0).y.num.neg, .slice D0_4 n0_4 c0_4, .slice D0_5 n0_5 c0_5, .bool (ptI 1 0).x.num.neg, .slice D1_1 n1_1 c1_1, .slice D1_2 n1_2 c1_2, .bool (ptI 1 0).y.num.neg, .slice D1_4 n1_4 c1_4, .slice D1_5 n1_5 c1_5, .bool (ptI 2 0).x.num.neg, .slice D2_1 n2_1 c2_1, .slice D2_2 n2_2 c2_2, .bool (ptI 2 0).y.num.neg, .slice D2_4 n2_4 c2_4, .slice D2_5 n2_5 c2_5, .bool (ptI 2 1).x.num.neg, .slice D3_1 n3_1 c3_1, .slice D3_2 n3_2 c3_2, .bool (ptI 2 1).y.num.neg, .slice D3_4 n3_4 c3_4, .slice D3_5 n3_5 c3_5, .bool (ptI 1 1).x.num.neg, .slice D4_1 n4_1 c4_1, .slice D4_2 n4_2 c4_2, .bool (ptI 1 1).y.num.neg, .slice D4_4 n4_4 c4_4, .slice D4_5 n4_5 c4_5, .bool (ptI 1 2).x.num.neg, .slice D5_1 n5_1 c5_1, .slice D5_2 n5_2 c5_2, .bool (ptI 1 2).y.num.neg, .slice D5_4 n5_4 c5_4, .slice D5_5 n5_5 c5_5, .bool (ptI 0 2).x.num.neg, .slice D6_1 n6_1 c6_1, .slice D6_2 n6_2 c6_2, .bool (ptI 0 2).y.num.neg, .slice D6_4 n6_4 c6_4, .slice D6_5 n6_5 c6_5, .bool (ptI 0 1).x.num.neg, .slice D7_1 n7_1 c7_1, .slice D7_2 n7_2 c7_2, .bool (ptI 0 1).y.num.neg, .slice D7_4 n7_4 c7_4, .slice D7_5 n7_5 c7_5] 34)).alloc (.cells #[.int .i64 1, .int .i64 4, .int .i64 0, .int .i64 0, .int .i64 0, .int .i64 7, .int .i64 0, .int .i64 4, .int .i64 0, .int .i64 0, .int .i64 3, .int .i64 4, .int .i64 2, .int .i64 0, .int .i64 0, .int .i64 1, .int .i64 2, .int .i64 4, .int .i64 1, .int .i64 0, .int .i64 7, .int .i64 4, .int .i64 6, .int .i64 0, .int .i64 0, .int .i64 5, .int .i64 6, .int .i64 4, .int .i64 2, .int .i64 0] 77)).heap.size := by simp; omega
  clear r0 e0 r1 e1 hz9
  refine at_world _ (fun W => (∀ b,b ≠ w.heap.size → W.heap[b]? = ((v8.alloc (.cells #[.bool (ptI 0 0).x.num.neg, .slice D0_1 n0_1 c0_1, .slice D0_2 n0_2 c0_2, .bool (ptI 0 0).y.num.neg, .slice D0_4 n0_4 c0_4, .slice D0_5 n0_5 c0_5, .bool (ptI 1 0).x.num.neg, .slice D1_1 n1_1 c1_1, .slice D1_2 n1_2 c1_2, .bool (ptI 1 0).y.num.neg, .slice D1_4 n1_4 c1_4, .slice D1_5 n1_5 c1_5, .bool (ptI 2 0).x.num.neg, .slice D2_1 n2_1 c2_1, .slice D2_2 n2_2 c2_2, .bool (ptI 2 0).y.num.neg, .slice D2_4 n2_4 c2_4, .slice D2_5 n2_5 c2_5, .bool (ptI 2 1).x.num.neg, .slice D3_1 n3_1 c3_1, .slice D3_2 n3_2 c3_2, .bool (ptI 2 1).y.num.neg, .slice D3_4 n3_4 c3_4, .slice D3_5 n3_5 c3_5, .bool (ptI 1 1).x.num.neg, .slice D4_1 n4_1 c4_1, .slice D4_2 n4_2 c4_2, .bool (ptI 1 1).y.num.neg, .slice D4_4 n4_4 c4_4, .slice D4_5 n4_5 c4_5, .bool (ptI 1 2).x.num.neg, .slice D5_1 n5_1 c5_1, .slice D5_2 n5_2 c5_2, .bool (ptI 1 2).y.num.neg, .slice D5_4 n5_4 c5_4, .slice D5_5 n5_5 c5_5, .bool (ptI 0 2).x.num.neg, .slice D6_1 n6_1 c6_1, .slice D6_2 n6_2 c6_2, .bool (ptI 0 2).y.num.neg, .slice D6_4 n6_4 c6_4, .slice D6_5 n6_5 c6_5, .bool (ptI 0 1).x.num.neg, .slice D7_1 n7_1 c7_1, .slice D7_2 n7_2 c7_2, .bool (ptI 0 1).y.num.neg, .slice D7_4 n7_4 c7_4, .slice D7_5 n7_5 c7_5] 34)).alloc (.cells #[.int .i64 1, .int .i64 4, .int .i64 0, .int .i64 0, .int .i64 0, .int .i64 7, .int .i64 0, .int .i64 4, .int .i64 0, .int .i64 0, .int .i64 3, .int .i64 4, .int .i64 2, .int .i64 0, .int .i64 0, .int .i64 1, .int .i64 2, .int .i64 4, .int .i64 1, .int .i64 0, .int .i64 7, .int .i64 4, .int .i64 6, .int .i64 0, .int .i64 0, .int .i64 5, .int .i64 6, .int .i64 4, .int .i64 2, .int .i64 0] 77)).heap[b]?) ∧ (Hid (Below w.heap.size v8 W) ∧ (W.cell? ⟨w.heap.size,0,none⟩ = some (.slice (some ⟨v8.heap.size,0,none⟩) 8 8) ∧ (W.cell? ⟨w.heap.size,1,none⟩ = some (.slice (some ⟨v8.heap.size + 1,0,none⟩) 6 6) ∧ w.heap.size < W.heap.size)))) ⟨hk,HBN,q0,q1,hqs⟩ ?_
  clear hk HBN q0 q1 hqs
  rintro W ⟨hk,HBN,q0,q1,hqs⟩
  refine bodyPost_ret (v := .agg #[.slice (some ⟨v8.heap.size,0,none⟩) 8 8, .slice (some ⟨v8.heap.size + 1,0,none⟩) 6 6]) (by simp [results,Tryz.results26,go_sem, *]) rfl ?_
  have D0 := pt_dat (Q0.out.keep (fun b hb => hk b (by have := S0.out b hb; omega)))
  have D1 := pt_dat (Q1.out.keep (fun b hb => hk b (by have := S1.out b hb; omega)))
  have D2 := pt_dat (Q2.out.keep (fun b hb => hk b (by have := S2.out b hb; omega)))
  have D3 := pt_dat (Q3.out.keep (fun b hb => hk b (by have := S3.out b hb; omega)))
  have D4 := pt_dat (Q4.out.keep (fun b hb => hk b (by have := S4.out b hb; omega)))
  have D5 := pt_dat (Q5.out.keep (fun b hb => hk b (by have := S5.out b hb; omega)))
  have D6 := pt_dat (Q6.out.keep (fun b hb => hk b (by have := S6.out b hb; omega)))
  have D7 := pt_dat (Q7.out.keep (fun b hb => hk b (by have := S7.out b hb; omega)))
  obtain ⟨b1,hsl1,hr1⟩ := lit_slG (α := TPoint) (n := 8) ((hk _ (by omega)).trans HP9.out) (by rfl) (by decide) (Filled.push (Filled.push (Filled.push (Filled.push (Filled.push (Filled.push (Filled.push (Filled.push (Filled.nil (α := TPoint) W []) (by rfl) D0) (by rfl) D1) (by rfl) D2) (by rfl) D3) (by rfl) D4) (by rfl) D5) (by rfl) D6) (by rfl) D7) (by rfl)
  obtain ⟨b2,hsl2,hr2⟩ := lit_slG (α := TTri) (n := 6) ((hk _ (by omega)).trans HT9.out) (by rfl) (by decide) (Filled.push (Filled.push (Filled.push (Filled.push (Filled.push (Filled.push (Filled.nil (α := TTri) W []) (by rfl) (tri_dat W 1 4 0 0 0 (i64_small (by decide)) (i64_small (by decide)) (i64_small (by decide)) (i64_small (by decide)) (i64_small (by decide)))) (by rfl) (tri_dat W 7 0 4 0 0 (i64_small (by decide)) (i64_small (by decide)) (i64_small (by decide)) (i64_small (by decide)) (i64_small (by decide)))) (by rfl) (tri_dat W 3 4 2 0 0 (i64_small (by decide)) (i64_small (by decide)) (i64_small (by decide)) (i64_small (by decide)) (i64_small (by decide)))) (by rfl) (tri_dat W 1 2 4 1 0 (i64_small (by decide)) (i64_small (by decide)) (i64_small (by decide)) (i64_small (by decide)) (i64_small (by decide)))) (by rfl) (tri_dat W 7 4 6 0 0 (i64_small (by decide)) (i64_small (by decide)) (i64_small (by decide)) (i64_small (by decide)) (i64_small (by decide)))) (by rfl) (tri_dat W 5 6 4 2 0 (i64_small (by decide)) (i64_small (by decide)) (i64_small (by decide)) (i64_small (by decide)) (i64_small (by decide)))) (by rfl)
  refine ⟨mesh2 0, _, _,rfl, .inr (.inr rfl),TMesh.mkAgg (x := mesh2 0) hsl1 hsl2,grown_afterC (grown_nextC G1.out (grown_below0 BW8.out _)) HBN.out,fun b hb => ?_⟩
  rcases List.mem_append.1 hb with hb | hb
  ·rcases hr1 b hb with rfl | hb
   ·omega
   ·obtain ⟨l,hl,hb2⟩ := List.mem_flatten.1 hb
    simp at hl
    rcases hl with rfl | rfl | rfl | rfl | rfl | rfl | rfl | rfl
    ·have := S0.out b hb2; omega
    ·have := S1.out b hb2; omega
    ·have := S2.out b hb2; omega
    ·have := S3.out b hb2; omega
    ·have := S4.out b hb2; omega
    ·have := S5.out b hb2; omega
    ·have := S6.out b hb2; omega
    ·have := S7.out b hb2; omega
  ·rcases hr2 b hb with rfl | hb
   ·omega
   ·obtain ⟨l,hl,hb2⟩ := List.mem_flatten.1 hb
    simp at hl
    subst hl
    cases hb2
end Go.Proofs.YtpfipnankjeokaaGreat.X
