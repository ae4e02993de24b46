/- Part of a claim's proof: texts of this repository's wip,joined by prune.py,without the theorems that the claim does not reach. -/
import Derived.Test.YtpfipnankjeokaaGreatY11
import Derived.Test.YtpfipnankjeokaaGreatY10
set_option linter.constructorNameAsVariable false
namespace Go.Proofs.YtpfipnankjeokaaGreat.X
open Go.RowKit Go.XB Go.XN
attribute [local go_sem] fillBy opAt deps depOf Region.wanted yielded
attribute [local simp] deps depOf MP.eq MP.agg MP.sl Facts

set_option maxHeartbeats 1000000 in
set_option maxRecDepth 10000 in
theorem spec_RatMake (v1 v2 : Value) (x y : TBigInt) (b1 b2 : List Nat) (w : World) (hx : Agg w v1 x b1) (hy : Agg w v2 y b2) (ox : bigOkB x = true) (oy : bigOkB y = true) (hy0 : y.mag ≠ []) :
  Calls Tryz.prog 123 #[v1,v2] w (GivesAgg w (mkR (sval (x.neg != y.neg) x.mag) (val y.mag))) := by
 have HX := hid hx; have HY := hid hy
 obtain ⟨A1,n1,c1,s1,rfl,rfl,hs1⟩ := TBigInt.agg hx
 obtain ⟨A2,n2,c2,s2,rfl,rfl,hs2⟩ := TBigInt.agg hy
 have S1 := hid hs1; have S2 := hid hs2
 have OX := hid ox; have OY := hid oy
 have C1 := hid (bigOkB_iff.1 ox).1; have C2 := hid (bigOkB_iff.1 oy).1
 have N1 := hid (show n1 ≤ 65536 by rw [← hs1.1]; have := (bigOkB_iff.1 ox).1.1; omega)
 have N2 := hid (show n2 ≤ 65536 by rw [← hs2.1]; have := (bigOkB_iff.1 oy).1.1; omega)
 have N0 := hid (show 0 < n2 by rw [← hs2.1]; exact List.length_pos_iff.2 hy0)
 clear hs1 hs2 hx hy ox oy hy0
 go_enter Tryz.func123,Tryz.ntmps123
 go_wp2_with fail
 have C := spec_BigIntOk _ x _ (((w.alloc (.cells #[.bool x.neg, .slice A1 n1 c1] 30)).alloc (.cells #[.bool y.neg, .slice A2 n2 c2] 30)).alloc (.cells #[.bool false, .slice none 0 0, .slice none 0 0] 32)) (HX.out.below Below.go)
 rw [OX.out] at C
 refine C.mono ?_
 clear C
 rintro _ w1 ⟨rfl,hb1⟩
 obtain ⟨hc_w1,hf_w1⟩ := bcell hb1
 have hz0_w1 : w.heap.size < w1.heap.size := by have := hb1.size; (try simp at this); omega
 have hz1_w1 : w.heap.size + 1 < w1.heap.size := by have := hb1.size; (try simp at this); omega
 have hz2_w1 : w.heap.size + 1 + 1 < w1.heap.size := by have := hb1.size; (try simp at this); omega
 go_wp2_with fail
 have C := spec_BigIntOk _ y _ w1 (HY.out.below Below.go)
 rw [OY.out] at C
 refine C.mono ?_
 clear C
 rintro _ w2 ⟨rfl,hb2⟩
 obtain ⟨hc_w2,hf_w2⟩ := bcell hb2
 have hz0_w2 : w.heap.size < w2.heap.size := by have := hb2.size; (try simp at this); omega
 have hz1_w2 : w.heap.size + 1 < w2.heap.size := by have := hb2.size; (try simp at this); omega
 have hz2_w2 : w.heap.size + 1 + 1 < w2.heap.size := by have := hb2.size; (try simp at this); omega
 go_wp2_with fail
 refine (spec_l04Low (x.neg != y.neg) A1 A2 n1 n2 c1 c2 x.mag y.mag _ _ w2 (S1.out.below Below.go) (S2.out.below Below.go) C1.out.2 C2.out.2 N0.out N1.out N2.out).mono ?_
 rintro _ wb ⟨vb,sb,rfl,hab,hob,hb⟩
 obtain ⟨D1,nD1,cD1,d1,D2,nD2,cD2,d2,rfl,hzb, _, _⟩ := TRat.agg hab
 have HA := hid hab; have HO := hid hob
 clear hab hob hzb
 obtain ⟨hc_wb,hf_wb⟩ := bcell hb
 have hz0_wb : w.heap.size < wb.heap.size := by have := hb.size; (try simp at this); omega
 have hz1_wb : w.heap.size + 1 < wb.heap.size := by have := hb.size; (try simp at this); omega
 have hz2_wb : w.heap.size + 1 + 1 < wb.heap.size := by have := hb.size; (try simp at this); omega
 go_wp2
 refine bodyPost_ret (v := .agg #[.bool (mkR (sval (x.neg != y.neg) x.mag) (val y.mag)).num.neg, .slice D1 nD1 cD1, .slice D2 nD2 cD2]) (by simp [results,Tryz.results123,go_sem, *]) rfl ?_
 refine agg_fin (lo := w.heap.size + 3) HA.out HO.out.free (fun b hb => by have := (HO.out.2 b hb).1; (try simp at this); omega) (by omega) ?_ ?_
 ·exact Above.go
 ·exact Below.go

theorem small_val {a d : Int} (ha : 0 ≤ a) (hd : 0 < d) : sval ((encI a).neg != (encI d).neg) (encI a).mag = a ∧ val (encI d).mag = d := by
 have e1 : (encI a).neg = false := by unfold encI; simp; omega
 have e2 : (encI d).neg = false := by unfold encI; simp; omega
 rw [e1,e2]
 refine ⟨?_, ?_⟩
 ·show val (dig a.natAbs) = a; rw [val_dig]; omega
 ·show val (dig d.natAbs) = d; rw [val_dig]; omega
set_option maxHeartbeats 1000000 in
theorem spec_RatOf_small (a d : Int) (ha : 0 ≤ a) (ha2 : a ≤ 1000) (hd : 0 < d) (hd2 : d ≤ 1000) (w : World) : Calls Tryz.prog 73 #[.int .i64 a, .int .i64 d] w (GivesAgg w (mkR a d)) := by
 have V := hid (small_val ha hd)
 have OA := hid (enc_ok a ⟨by omega,by omega⟩)
 have OD := hid (enc_ok d ⟨by omega,by omega⟩)
 have ND := hid (show (encI d).mag ≠ [] by intro e; have := (small_val ha hd).2; rw [e] at this; simp [val] at this; omega)
 have IA := hid (show I64 a from ⟨by omega,by omega⟩)
 have ID := hid (show I64 d from ⟨by omega,by omega⟩)
 clear ha ha2 hd hd2
 go_enter Tryz.func73,Tryz.ntmps73
 go_wp2_with fail
 refine (spec_BigIntOf a _ IA.out).mono ?_
 rintro _ w1 ⟨v1,t1,rfl,ha1,ho1,hb1⟩
 have HA1 := hid ha1
 clear ha1 ho1
 obtain ⟨hc_w1,hf_w1⟩ := bcell hb1
 have hz0_w1 : w.heap.size < w1.heap.size := by have := hb1.size; (try simp at this); omega
 go_wp2_with fail
 refine (spec_BigIntOf d _ ID.out).mono ?_
 rintro _ w2 ⟨v2,t2,rfl,ha2,ho2,hb2⟩
 have HA2 := hid ha2
 clear ha2 ho2
 obtain ⟨hc_w2,hf_w2⟩ := bcell hb2
 have hz0_w2 : w.heap.size < w2.heap.size := by have := hb2.size; (try simp at this); omega
 go_wp2_with fail
 have C := spec_RatMake v1 v2 (encI a) (encI d) t1 t2 w2 (HA1.out.below hb2) HA2.out OA.out OD.out ND.out
 rw [V.out.1,V.out.2] at C
 refine (C).mono ?_
 rintro _ wb ⟨vb,sb,rfl,hab,hob,hb⟩
 obtain ⟨D1,nD1,cD1,d1,D2,nD2,cD2,d2,rfl,hzb, _, _⟩ := TRat.agg hab
 have HA := hid hab; have HO := hid hob
 clear hab hob hzb
 obtain ⟨hc_wb,hf_wb⟩ := bcell hb
 have hz0_wb : w.heap.size < wb.heap.size := by have := hb.size; (try simp at this); omega
 go_wp2
 refine bodyPost_ret (v := .agg #[.bool (mkR a d).num.neg, .slice D1 nD1 cD1, .slice D2 nD2 cD2]) (by simp [results,Tryz.results73,go_sem, *]) rfl ?_
 refine agg_fin (lo := w.heap.size + 1) HA.out HO.out.free (fun b hb => by have := (HO.out.2 b hb).1; (try simp at this); omega) (by omega) ?_ ?_
 ·exact Above.go
 ·exact Below.go

end Go.Proofs.YtpfipnankjeokaaGreat.X
namespace Go.Proofs.YtpfipnankjeokaaGreat.X
open Go.RowKit Go.XB Go.XN
def at0 (xs : List Int) (a : Int) : Int := xs.getD a.toNat 0
def tri2 (xs ys : List Int) (a b c : Int) : Int := (at0 xs b - at0 xs a) * (at0 ys c - at0 ys a) - (at0 ys b - at0 ys a) * (at0 xs c - at0 xs a)
def turnI (xs ys : List Int) (a b c : Int) : Int := sgn (tri2 xs ys a b c)
def insideI (xs ys : List Int) (a b c : Int) : Bool := decide (turnI xs ys a b c = 0) && (inB (min (at0 xs a) (at0 xs b)) (at0 xs c) (max (at0 xs a) (at0 xs b)) && inB (min (at0 ys a) (at0 ys b)) (at0 ys c) (max (at0 ys a) (at0 ys b)))
def Small (xs : List Int) : Prop := ∀ x ∈ xs, -100 ≤ x ∧ x ≤ 100
def Plc (w : World) (v : Value) (n : Nat) (xs ys : List Int) : Prop := ∃ (A : Option Addr) (c X oX cX Y oY cY : Nat) (bX bY : List Nat),v = .agg #[.slice A n c, .slice (some ⟨X,oX,none⟩) n cX, .slice (some ⟨Y,oY,none⟩) n cY] ∧ Sl w (some ⟨X,oX,none⟩) n cX xs bX ∧ Sl w (some ⟨Y,oY,none⟩) n cY ys bY
theorem Plc.below {w w' : World} {v : Value} {n : Nat} {xs ys : List Int} (h : Plc w v n xs ys) (hb : Below w.heap.size w w') : Plc w' v n xs ys := by
 obtain ⟨A,c,X,oX,cX,Y,oY,cY,bX,bY,h1,h2,h3⟩ := h
 exact ⟨A,c,X,oX,cX,Y,oY,cY,bX,bY,h1,h2.below hb,h3.below hb⟩
theorem mul_small {a b : Int} (h1 : -200 ≤ a ∧ a ≤ 200) (h2 : -200 ≤ b ∧ b ≤ 200) : -40000 ≤ a * b ∧ a * b ≤ 40000 := by
 have h : (a * b).natAbs ≤ 200 * 200 := by
  rw [Int.natAbs_mul]; exact Nat.mul_le_mul (by omega) (by omega)
 omega
end Go.Proofs.YtpfipnankjeokaaGreat.X
namespace Go.Proofs.YtpfipnankjeokaaGreat.X
open Go.RowKit Go.XB Go.XN
attribute [local go_sem] fillBy opAt deps depOf Region.wanted yielded
attribute [local simp] deps depOf MP.eq MP.agg MP.sl Facts

set_option maxHeartbeats 4000000 in
set_option maxRecDepth 10000 in
theorem impl_turn (v : Value) (n : Nat) (xs ys : List Int) (a b c : Int) (w : World) (hp : Plc w v n xs ys) (hsx : Small xs) (hsy : Small ys) (ha : 0 ≤ a ∧ a < n) (hb : 0 ≤ b ∧ b < n) (hc : 0 ≤ c ∧ c < n) :
  Calls Tryz.prog 126 #[v, .int .i64 a, .int .i64 b, .int .i64 c] w (Gives w (.int .i64 (turnI xs ys a b c))) := by
 obtain ⟨A,cA,X,oX,cX,Y,oY,cY,bX,bY,rfl,hX,hY⟩ := hp
 obtain ⟨ja,rfl⟩ := Int.eq_ofNat_of_zero_le ha.1
 obtain ⟨jb,rfl⟩ := Int.eq_ofNat_of_zero_le hb.1
 obtain ⟨jc,rfl⟩ := Int.eq_ofNat_of_zero_le hc.1
 obtain ⟨_, _,xa,e1,hXl,hxa, _,cxa⟩ := Sl.getInt hX (show ja < n by omega); cases e1
 obtain ⟨_, _,xb,e1, _,hxb, _,cxb⟩ := Sl.getInt hX (show jb < n by omega); cases e1
 obtain ⟨_, _,xc,e1, _,hxc, _,cxc⟩ := Sl.getInt hX (show jc < n by omega); cases e1
 obtain ⟨_, _,ya,e1,hYl,hya, _,cya⟩ := Sl.getInt hY (show ja < n by omega); cases e1
 obtain ⟨_, _,yb,e1, _,hyb, _,cyb⟩ := Sl.getInt hY (show jb < n by omega); cases e1
 obtain ⟨_, _,yc,e1, _,hyc, _,cyc⟩ := Sl.getInt hY (show jc < n by omega); cases e1
 have E := hid (show sgn ((xb - xa) * (yc - ya) - (yb - ya) * (xc - xa)) = turnI xs ys ja jb jc by
  unfold turnI tri2 at0; simp [List.getD,hxa,hxb,hxc,hya,hyb,hyc])
 have b1 := hsx xa (List.mem_of_getElem? hxa)
 have b2 := hsx xb (List.mem_of_getElem? hxb)
 have b3 := hsx xc (List.mem_of_getElem? hxc)
 have b4 := hsy ya (List.mem_of_getElem? hya)
 have b5 := hsy yb (List.mem_of_getElem? hyb)
 have b6 := hsy yc (List.mem_of_getElem? hyc)
 obtain ⟨p,hp⟩ : ∃ p,xb - xa = p := ⟨_,rfl⟩
 obtain ⟨q,hq⟩ : ∃ q,yc - ya = q := ⟨_,rfl⟩
 obtain ⟨r,hr⟩ : ∃ r,yb - ya = r := ⟨_,rfl⟩
 obtain ⟨s,hs⟩ : ∃ s,xc - xa = s := ⟨_,rfl⟩
 have p1 : -200 ≤ p ∧ p ≤ 200 := by omega
 have q1 : -200 ≤ q ∧ q ≤ 200 := by omega
 have r1 : -200 ≤ r ∧ r ≤ 200 := by omega
 have s1 : -200 ≤ s ∧ s ≤ 200 := by omega
 obtain ⟨m1,hm1⟩ : ∃ m,p * q = m := ⟨_,rfl⟩
 obtain ⟨m2,hm2⟩ : ∃ m,r * s = m := ⟨_,rfl⟩
 have k1 : -40000 ≤ m1 ∧ m1 ≤ 40000 := by have := mul_small p1 q1; rw [hm1] at this; exact this
 have k2 : -40000 ≤ m2 ∧ m2 ≤ 40000 := by have := mul_small r1 s1; rw [hm2] at this; exact this
 rw [hp,hq,hr,hs,hm1,hm2] at E
 have hja : (ja : Int) < n := ha.2
 have hjb : (jb : Int) < n := hb.2
 have hjc : (jc : Int) < n := hc.2
 clear hX hY hxa hxb hxc hya hyb hyc hsx hsy ha hb hc
 go_enter Tryz.func126,Tryz.ntmps126
 go_wp2_with fail
 refine wp_region_walk (by kernel_rfl) (by kernel_rfl) (by kernel_rfl) ?_
 iterate 47
  apply walkM_eq
  case h =>
   intro yq zq wq hC hd
   obtain ⟨hcq,hfq⟩ := bcell hC
   simp at hd
   refine ⟨by go_simp; done, ?_⟩
   go_simp
   first | (go_ints; exact rfl) | (go_ints; rw [if_pos (by omega)]; try exact rfl) | exact rfl | (rw [if_pos (by omega)]; try exact rfl)
 refine walkM_call (MP.eq (.int .i64 (sgn (m1 - m2)))) ?_ ?_
 ·intro yq zq wq hC hd
  obtain ⟨hcq,hfq⟩ := bcell hC
  simp at hd
  refine ⟨by go_simp; done, ?_⟩
  apply Exists.intro
  apply Exists.intro
  constructor
  ·go_simp
   exact ⟨rfl,rfl⟩
  ·exact gives_eq (impl_signOf _ _)
 apply walkM_eq
 case h =>
  intro yq zq wq hC hd
  obtain ⟨hcq,hfq⟩ := bcell hC
  simp at hd
  refine ⟨by go_simp; done, ?_⟩
  go_simp
  first | (go_ints; exact rfl) | (go_ints; rw [if_pos (by omega)]; try exact rfl) | exact rfl | (rw [if_pos (by omega)]; try exact rfl)
 intro yq zq wa hC hd hdis0
 have hdis := hid hdis0
 clear hdis0
 simp at hd
 go_simp
 clear hd hdis
 go_wp2
 go_ret
 rw [← E.out]
 exact ⟨rfl,Below.go⟩
end Go.Proofs.YtpfipnankjeokaaGreat.X
namespace Go.Proofs.YtpfipnankjeokaaGreat.X
open Go.RowKit Go.XB Go.XN
theorem ix0 (a b c : Int) (w : World) : Sem.run Tryz.prog (Instr.index 75 (.agg #[.int .i64 a, .int .i64 b, .int .i64 c]) (.int .i64 0)) w = .ok (.int .i64 a) w := by kernel_rfl
theorem ix1 (a b c : Int) (w : World) : Sem.run Tryz.prog (Instr.index 75 (.agg #[.int .i64 a, .int .i64 b, .int .i64 c]) (.int .i64 1)) w = .ok (.int .i64 b) w := by kernel_rfl
theorem ix2 (a b c : Int) (w : World) : Sem.run Tryz.prog (Instr.index 75 (.agg #[.int .i64 a, .int .i64 b, .int .i64 c]) (.int .i64 2)) w = .ok (.int .i64 c) w := by kernel_rfl
end Go.Proofs.YtpfipnankjeokaaGreat.X
namespace Go.Proofs.YtpfipnankjeokaaGreat.X
open Go.RowKit Go.XB Go.XN
attribute [local go_sem] fillBy opAt deps depOf Region.wanted yielded
attribute [local simp] deps depOf MP.eq MP.agg MP.sl Facts

set_option maxHeartbeats 8000000 in
set_option maxRecDepth 10000 in
theorem isInside_false (v : Value) (n : Nat) (xs ys : List Int) (a b c : Int) (w : World) (hp : Plc w v n xs ys) (hsx : Small xs) (hsy : Small ys) (ha : 0 ≤ a ∧ a < n) (hb : 0 ≤ b ∧ b < n) (hc : 0 ≤ c ∧ c < n) (ht : turnI xs ys a b c = 0) (hbx : inB (min (at0 xs a) (at0 xs b)) (at0 xs c) (max (at0 xs a) (at0 xs b)) = false) :
  Calls Tryz.prog 128 #[v, .int .i64 a, .int .i64 b, .int .i64 c] w (Gives w (.bool (insideI xs ys a b c))) := by
 have HP := hid hp
 obtain ⟨A,cA,X,oX,cX,Y,oY,cY,bX,bY,rfl,hX,hY⟩ := hp
 have CT := hid (impl_turn _ n xs ys a b c (w.alloc (.cells #[.slice A n cA, .slice (some ⟨X,oX,none⟩) n cX, .slice (some ⟨Y,oY,none⟩) n cY] 111)) (HP.out.below (Below.box _)) hsx hsy ha hb hc)
 have T0 := hid ht
 obtain ⟨ja,rfl⟩ := Int.eq_ofNat_of_zero_le ha.1
 obtain ⟨jb,rfl⟩ := Int.eq_ofNat_of_zero_le hb.1
 obtain ⟨jc,rfl⟩ := Int.eq_ofNat_of_zero_le hc.1
 obtain ⟨_, _,xa,e1,hXl,hxa, _,cxa⟩ := Sl.getInt hX (show ja < n by omega); cases e1
 obtain ⟨_, _,xb,e1, _,hxb, _,cxb⟩ := Sl.getInt hX (show jb < n by omega); cases e1
 obtain ⟨_, _,xc,e1, _,hxc, _,cxc⟩ := Sl.getInt hX (show jc < n by omega); cases e1
 obtain ⟨_, _,ya,e1,hYl,hya, _,cya⟩ := Sl.getInt hY (show ja < n by omega); cases e1
 obtain ⟨_, _,yb,e1, _,hyb, _,cyb⟩ := Sl.getInt hY (show jb < n by omega); cases e1
 obtain ⟨_, _,yc,e1, _,hyc, _,cyc⟩ := Sl.getInt hY (show jc < n by omega); cases e1
 have A0 : at0 xs ja = xa := by unfold at0; simp [List.getD,hxa]
 have A1 : at0 xs jb = xb := by unfold at0; simp [List.getD,hxb]
 have A2 : at0 xs jc = xc := by unfold at0; simp [List.getD,hxc]
 have A3 : at0 ys ja = ya := by unfold at0; simp [List.getD,hya]
 have A4 : at0 ys jb = yb := by unfold at0; simp [List.getD,hyb]
 have A5 : at0 ys jc = yc := by unfold at0; simp [List.getD,hyc]
 rw [A0,A1,A2] at hbx
 have BX := hid hbx
 obtain ⟨lx,hlx⟩ : ∃ l,min xa xb = l := ⟨_,rfl⟩
 obtain ⟨mx,hmx⟩ : ∃ l,max xa xb = l := ⟨_,rfl⟩
 obtain ⟨ly,hly⟩ : ∃ l,min ya yb = l := ⟨_,rfl⟩
 obtain ⟨my,hmy⟩ : ∃ l,max ya yb = l := ⟨_,rfl⟩
 rw [hlx,hmx] at BX hbx
 have E := hid (show (inB lx xc mx && inB ly yc my) = insideI xs ys ja jb jc by
  unfold insideI; rw [A0,A1,A2,A3,A4,A5,T0.out,hlx,hmx,hly,hmy]; simp)
 have LX := hid hlx; have MX := hid hmx; have LY := hid hly; have MY := hid hmy
 obtain ⟨by_,hby⟩ : ∃ b,inB ly yc my = b := ⟨_,rfl⟩
 have BY := hid hby
 rw [hby,hbx] at E
 have hja : (ja : Int) < n := ha.2
 have hjb : (jb : Int) < n := hb.2
 have hjc : (jc : Int) < n := hc.2
 clear hX hY hxa hxb hxc hya hyb hyc hsx hsy ha hb hc ht hby hbx hlx hmx hly hmy A0 A1 A2 A3 A4 A5
 go_enter Tryz.func128,Tryz.ntmps128
 go_wp2_with fail
 have C := CT.out
 rw [T0.out] at C
 refine C.mono ?_
 clear C
 rintro _ w1 ⟨rfl,hb1⟩
 obtain ⟨hc_w1,hf_w1⟩ := bcell hb1
 have hz0_w1 : w.heap.size < w1.heap.size := by have := hb1.size; (try simp at this); omega
 have hX1 : X < w1.heap.size := by have := hb1.size; simp at this; omega
 have hY1 : Y < w1.heap.size := by have := hb1.size; simp at this; omega
 go_wp2_with fail
 refine wp_region_walk (by kernel_rfl) (by kernel_rfl) (by kernel_rfl) ?_
 iterate 15
  apply walkM_eq
  case h =>
   intro yq zq wq hC hd
   obtain ⟨hcq,hfq⟩ := bcell hC
   simp at hd
   refine ⟨by go_simp; done, ?_⟩
   go_simp
   first | (go_ints; exact rfl) | (go_ints; rw [if_pos (by omega)]; try exact rfl) | exact rfl | (rw [if_pos (by omega)]; try exact rfl)
 refine walkM_eq (.int .i64 lx) ?_ ?_
 ·intro yq zq wq hC hd
  obtain ⟨hcq,hfq⟩ := bcell hC
  simp at hd
  refine ⟨by go_simp; done, ?_⟩
  go_simp
  (rw [← LX.out]; split <;> omega)
 iterate 10
  apply walkM_eq
  case h =>
   intro yq zq wq hC hd
   obtain ⟨hcq,hfq⟩ := bcell hC
   simp at hd
   refine ⟨by go_simp; done, ?_⟩
   go_simp
   first | (go_ints; exact rfl) | (go_ints; rw [if_pos (by omega)]; try exact rfl) | exact rfl | (rw [if_pos (by omega)]; try exact rfl)
 refine walkM_eq (.int .i64 mx) ?_ ?_
 ·intro yq zq wq hC hd
  obtain ⟨hcq,hfq⟩ := bcell hC
  simp at hd
  refine ⟨by go_simp; done, ?_⟩
  go_simp
  (rw [← MX.out]; split <;> omega)
 refine walkM_call (MP.eq (.bool false)) ?_ ?_
 ·intro yq zq wq hC hd
  obtain ⟨hcq,hfq⟩ := bcell hC
  simp at hd
  refine ⟨by go_simp; done, ?_⟩
  apply Exists.intro
  apply Exists.intro
  constructor
  ·go_simp
   exact ⟨rfl,rfl⟩
  ·exact gives_eq (by have C := impl_within xc lx mx wq; rw [BX.out] at C; exact C)
 apply walkM_eq
 case h =>
  intro yq zq wq hC hd
  obtain ⟨hcq,hfq⟩ := bcell hC
  simp at hd
  refine ⟨by go_simp; done, ?_⟩
  go_simp
  first | (go_ints; exact rfl) | (go_ints; rw [if_pos (by omega)]; try exact rfl) | exact rfl | (rw [if_pos (by omega)]; try exact rfl)
 iterate 28
  apply walkM_skip
  case h =>
   intro yq zq wq hC hd
   simp at hd
   go_simp
   done
 iterate 2
  apply walkM_eq
  case h =>
   intro yq zq wq hC hd
   obtain ⟨hcq,hfq⟩ := bcell hC
   simp at hd
   refine ⟨by go_simp; done, ?_⟩
   go_simp
   first | (go_ints; exact rfl) | (go_ints; rw [if_pos (by omega)]; try exact rfl) | exact rfl | (rw [if_pos (by omega)]; try exact rfl)
 intro yq zq wa hC hd hdis0
 have hdis := hid hdis0
 clear hdis0
 simp at hd
 go_simp
 clear hd hdis
 go_wp2
 go_ret
 rw [← E.out]
 exact ⟨by simp,Below.go⟩

set_option maxHeartbeats 8000000 in
set_option maxRecDepth 10000 in
theorem isInside_true (v : Value) (n : Nat) (xs ys : List Int) (a b c : Int) (w : World) (hp : Plc w v n xs ys) (hsx : Small xs) (hsy : Small ys) (ha : 0 ≤ a ∧ a < n) (hb : 0 ≤ b ∧ b < n) (hc : 0 ≤ c ∧ c < n) (ht : turnI xs ys a b c = 0) (hbx : inB (min (at0 xs a) (at0 xs b)) (at0 xs c) (max (at0 xs a) (at0 xs b)) = true) :
  Calls Tryz.prog 128 #[v, .int .i64 a, .int .i64 b, .int .i64 c] w (Gives w (.bool (insideI xs ys a b c))) := by
 have HP := hid hp
 obtain ⟨A,cA,X,oX,cX,Y,oY,cY,bX,bY,rfl,hX,hY⟩ := hp
 have CT := hid (impl_turn _ n xs ys a b c (w.alloc (.cells #[.slice A n cA, .slice (some ⟨X,oX,none⟩) n cX, .slice (some ⟨Y,oY,none⟩) n cY] 111)) (HP.out.below (Below.box _)) hsx hsy ha hb hc)
 have T0 := hid ht
 obtain ⟨ja,rfl⟩ := Int.eq_ofNat_of_zero_le ha.1
 obtain ⟨jb,rfl⟩ := Int.eq_ofNat_of_zero_le hb.1
 obtain ⟨jc,rfl⟩ := Int.eq_ofNat_of_zero_le hc.1
 obtain ⟨_, _,xa,e1,hXl,hxa, _,cxa⟩ := Sl.getInt hX (show ja < n by omega); cases e1
 obtain ⟨_, _,xb,e1, _,hxb, _,cxb⟩ := Sl.getInt hX (show jb < n by omega); cases e1
 obtain ⟨_, _,xc,e1, _,hxc, _,cxc⟩ := Sl.getInt hX (show jc < n by omega); cases e1
 obtain ⟨_, _,ya,e1,hYl,hya, _,cya⟩ := Sl.getInt hY (show ja < n by omega); cases e1
 obtain ⟨_, _,yb,e1, _,hyb, _,cyb⟩ := Sl.getInt hY (show jb < n by omega); cases e1
 obtain ⟨_, _,yc,e1, _,hyc, _,cyc⟩ := Sl.getInt hY (show jc < n by omega); cases e1
 have A0 : at0 xs ja = xa := by unfold at0; simp [List.getD,hxa]
 have A1 : at0 xs jb = xb := by unfold at0; simp [List.getD,hxb]
 have A2 : at0 xs jc = xc := by unfold at0; simp [List.getD,hxc]
 have A3 : at0 ys ja = ya := by unfold at0; simp [List.getD,hya]
 have A4 : at0 ys jb = yb := by unfold at0; simp [List.getD,hyb]
 have A5 : at0 ys jc = yc := by unfold at0; simp [List.getD,hyc]
 rw [A0,A1,A2] at hbx
 have BX := hid hbx
 obtain ⟨lx,hlx⟩ : ∃ l,min xa xb = l := ⟨_,rfl⟩
 obtain ⟨mx,hmx⟩ : ∃ l,max xa xb = l := ⟨_,rfl⟩
 obtain ⟨ly,hly⟩ : ∃ l,min ya yb = l := ⟨_,rfl⟩
 obtain ⟨my,hmy⟩ : ∃ l,max ya yb = l := ⟨_,rfl⟩
 rw [hlx,hmx] at BX hbx
 have E := hid (show (inB lx xc mx && inB ly yc my) = insideI xs ys ja jb jc by
  unfold insideI; rw [A0,A1,A2,A3,A4,A5,T0.out,hlx,hmx,hly,hmy]; simp)
 have LX := hid hlx; have MX := hid hmx; have LY := hid hly; have MY := hid hmy
 obtain ⟨by_,hby⟩ : ∃ b,inB ly yc my = b := ⟨_,rfl⟩
 have BY := hid hby
 rw [hby,hbx] at E
 have hja : (ja : Int) < n := ha.2
 have hjb : (jb : Int) < n := hb.2
 have hjc : (jc : Int) < n := hc.2
 clear hX hY hxa hxb hxc hya hyb hyc hsx hsy ha hb hc ht hby hbx hlx hmx hly hmy A0 A1 A2 A3 A4 A5
 go_enter Tryz.func128,Tryz.ntmps128
 go_wp2_with fail
 have C := CT.out
 rw [T0.out] at C
 refine C.mono ?_
 clear C
 rintro _ w1 ⟨rfl,hb1⟩
 obtain ⟨hc_w1,hf_w1⟩ := bcell hb1
 have hz0_w1 : w.heap.size < w1.heap.size := by have := hb1.size; (try simp at this); omega
 have hX1 : X < w1.heap.size := by have := hb1.size; simp at this; omega
 have hY1 : Y < w1.heap.size := by have := hb1.size; simp at this; omega
 go_wp2_with fail
 refine wp_region_walk (by kernel_rfl) (by kernel_rfl) (by kernel_rfl) ?_
 iterate 15
  apply walkM_eq
  case h =>
   intro yq zq wq hC hd
   obtain ⟨hcq,hfq⟩ := bcell hC
   simp at hd
   refine ⟨by go_simp; done, ?_⟩
   go_simp
   first | (go_ints; exact rfl) | (go_ints; rw [if_pos (by omega)]; try exact rfl) | exact rfl | (rw [if_pos (by omega)]; try exact rfl)
 refine walkM_eq (.int .i64 lx) ?_ ?_
 ·intro yq zq wq hC hd
  obtain ⟨hcq,hfq⟩ := bcell hC
  simp at hd
  refine ⟨by go_simp; done, ?_⟩
  go_simp
  (rw [← LX.out]; split <;> omega)
 iterate 10
  apply walkM_eq
  case h =>
   intro yq zq wq hC hd
   obtain ⟨hcq,hfq⟩ := bcell hC
   simp at hd
   refine ⟨by go_simp; done, ?_⟩
   go_simp
   first | (go_ints; exact rfl) | (go_ints; rw [if_pos (by omega)]; try exact rfl) | exact rfl | (rw [if_pos (by omega)]; try exact rfl)
 refine walkM_eq (.int .i64 mx) ?_ ?_
 ·intro yq zq wq hC hd
  obtain ⟨hcq,hfq⟩ := bcell hC
  simp at hd
  refine ⟨by go_simp; done, ?_⟩
  go_simp
  (rw [← MX.out]; split <;> omega)
 refine walkM_call (MP.eq (.bool true)) ?_ ?_
 ·intro yq zq wq hC hd
  obtain ⟨hcq,hfq⟩ := bcell hC
  simp at hd
  refine ⟨by go_simp; done, ?_⟩
  apply Exists.intro
  apply Exists.intro
  constructor
  ·go_simp
   exact ⟨rfl,rfl⟩
  ·exact gives_eq (by have C := impl_within xc lx mx wq; rw [BX.out] at C; exact C)
 apply walkM_eq
 case h =>
  intro yq zq wq hC hd
  obtain ⟨hcq,hfq⟩ := bcell hC
  simp at hd
  refine ⟨by go_simp; done, ?_⟩
  go_simp
  first | (go_ints; exact rfl) | (go_ints; rw [if_pos (by omega)]; try exact rfl) | exact rfl | (rw [if_pos (by omega)]; try exact rfl)
 iterate 15
  apply walkM_eq
  case h =>
   intro yq zq wq hC hd
   obtain ⟨hcq,hfq⟩ := bcell hC
   simp at hd
   refine ⟨by go_simp; done, ?_⟩
   go_simp
   first | (go_ints; exact rfl) | (go_ints; rw [if_pos (by omega)]; try exact rfl) | exact rfl | (rw [if_pos (by omega)]; try exact rfl)
 refine walkM_eq (.int .i64 ly) ?_ ?_
 ·intro yq zq wq hC hd
  obtain ⟨hcq,hfq⟩ := bcell hC
  simp at hd
  refine ⟨by go_simp; done, ?_⟩
  go_simp
  (rw [← LY.out]; split <;> omega)
 iterate 10
  apply walkM_eq
  case h =>
   intro yq zq wq hC hd
   obtain ⟨hcq,hfq⟩ := bcell hC
   simp at hd
   refine ⟨by go_simp; done, ?_⟩
   go_simp
   first | (go_ints; exact rfl) | (go_ints; rw [if_pos (by omega)]; try exact rfl) | exact rfl | (rw [if_pos (by omega)]; try exact rfl)
 refine walkM_eq (.int .i64 my) ?_ ?_
 ·intro yq zq wq hC hd
  obtain ⟨hcq,hfq⟩ := bcell hC
  simp at hd
  refine ⟨by go_simp; done, ?_⟩
  go_simp
  (rw [← MY.out]; split <;> omega)
 refine walkM_call (MP.eq (.bool by_)) ?_ ?_
 ·intro yq zq wq hC hd
  obtain ⟨hcq,hfq⟩ := bcell hC
  simp at hd
  refine ⟨by go_simp; done, ?_⟩
  apply Exists.intro
  apply Exists.intro
  constructor
  ·go_simp
   exact ⟨rfl,rfl⟩
  ·exact gives_eq (by have C := impl_within yc ly my wq; rw [BY.out] at C; exact C)
 iterate 2
  apply walkM_eq
  case h =>
   intro yq zq wq hC hd
   obtain ⟨hcq,hfq⟩ := bcell hC
   simp at hd
   refine ⟨by go_simp; done, ?_⟩
   go_simp
   first | (go_ints; exact rfl) | (go_ints; rw [if_pos (by omega)]; try exact rfl) | exact rfl | (rw [if_pos (by omega)]; try exact rfl)
 intro yq zq wa hC hd hdis0
 have hdis := hid hdis0
 clear hdis0
 simp at hd
 go_simp
 clear hd hdis
 go_wp2
 go_ret
 rw [← E.out]
 exact ⟨by simp,Below.go⟩

set_option maxHeartbeats 4000000 in
set_option maxRecDepth 10000 in
theorem impl_isInside (v : Value) (n : Nat) (xs ys : List Int) (a b c : Int) (w : World) (hp : Plc w v n xs ys) (hsx : Small xs) (hsy : Small ys) (ha : 0 ≤ a ∧ a < n) (hb : 0 ≤ b ∧ b < n) (hc : 0 ≤ c ∧ c < n) :
  Calls Tryz.prog 128 #[v, .int .i64 a, .int .i64 b, .int .i64 c] w (Gives w (.bool (insideI xs ys a b c))) := by
 by_cases ht : turnI xs ys a b c = 0
 ·cases hbx : inB (min (at0 xs a) (at0 xs b)) (at0 xs c) (max (at0 xs a) (at0 xs b))
  ·exact isInside_false v n xs ys a b c w hp hsx hsy ha hb hc ht hbx
  ·exact isInside_true v n xs ys a b c w hp hsx hsy ha hb hc ht hbx
 ·have HP := hid hp
  obtain ⟨A,cA,X,oX,cX,Y,oY,cY,bX,bY,rfl,hX,hY⟩ := hp
  have CT := hid (impl_turn _ n xs ys a b c (w.alloc (.cells #[.slice A n cA, .slice (some ⟨X,oX,none⟩) n cX, .slice (some ⟨Y,oY,none⟩) n cY] 111)) (HP.out.below (Below.box _)) hsx hsy ha hb hc)
  have E := hid (show false = insideI xs ys a b c by unfold insideI; rw [decide_eq_false ht]; rfl)
  obtain ⟨r,hr⟩ : ∃ r,turnI xs ys a b c = r := ⟨_,rfl⟩
  rw [hr] at ht
  have R := hid hr
  have hrb : (r == 0) = false := by simp [ht]
  clear hX hY hsx hsy ha hb hc hr
  go_enter Tryz.func128,Tryz.ntmps128
  go_wp2_with fail
  have C := CT.out
  rw [R.out] at C
  refine C.mono ?_
  clear C
  rintro _ w1 ⟨rfl,hb1⟩
  go_wp2
  go_ret
  rw [← E.out]
  exact ⟨rfl,Below.go⟩
end Go.Proofs.YtpfipnankjeokaaGreat.X
