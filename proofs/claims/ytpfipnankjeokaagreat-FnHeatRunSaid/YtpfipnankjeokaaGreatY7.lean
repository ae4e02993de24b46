/- Part of a claim's proof: texts of this repository's wip,joined by prune.py,without the theorems that the claim does not reach. -/
import Derived.Test.YtpfipnankjeokaaGreatY5
import Derived.Test.YtpfipnankjeokaaGreatY3
import Derived.Test.YtpfipnankjeokaaGreatY2
import Derived.Deep.CutBlock
import Derived.Deep.DeepCutAuto
set_option linter.constructorNameAsVariable false
namespace Go.Proofs.YtpfipnankjeokaaGreat.X
open Go.RowKit Go.XB Go.XN
attribute [local go_sem] fillBy opAt deps depOf Region.wanted yielded
attribute [local simp] deps depOf MP.eq Facts

structure Turned (w w' : World) (base g N cap lo hi : Nat) (us us' : List Int) : Prop where
 row : w'.ownsRow base 3 1 (.slice (some ⟨g,0,none⟩) N cap) N (us'.map (.int .i64))
 out : ∀ k,k < lo ∨ hi ≤ k → us'[k]? = us[k]?
 grown : w.grownBy w' (some g)

theorem Turned.set {w wr : World} {base g N cap lo hi : Nat} {us zs : List Int} (h : Turned w wr base g N cap lo hi us zs) (j : Nat) (h1 : lo ≤ j) (h2 : j < hi) (u : Int) :
  Turned w (wr.setCell ⟨g,j,none⟩ (.int .i64 u)) base g N cap lo hi us (zs.set j u) :=
 ⟨row_set h.row j u,fun k hk => by rw [List.getElem?_set_ne (by omega)]; exact h.out k hk,h.grown.trans (World.ownsRow.stored h.row j _).2⟩

set_option maxHeartbeats 4000000 in
theorem impl_subtract (B : Option Addr) (base g N cap j m c d : Nat) (us ys : List Int) (ds : List Nat) (q : Int) (w : World) (hu : w.ownsRow base 3 1 (.slice (some ⟨g,0,none⟩) N cap) N (us.map (.int .i64))) (hlu : Lims us)
  (hj : j + m + 1 ≤ N) (hN : N ≤ 1048576) (hy : Sl w B m d ys ds) (hly : Lims ys) (hsep : ∀ b o,B = some ⟨b,o,none⟩ → b ≠ g) (hq0 : 0 ≤ q) (hq1 : q < 1000000000) :
  Calls Tryz.prog 140 #[.slice (some ⟨g,j,none⟩) (m + 1) c, .slice B m d, .int .i64 q] w fun e w' =>
   ∃ us' r,e = .returned (.int .i64 r) ∧ (r = 0 ∨ r = 1) ∧ Turned w w' base g N cap j (j + m + 1) us us' ∧ (val us' = val us - pw j * (q * val ys) + pw (j + m + 1) * r ∧ Lims us') := by
 have HY := hid hy
 have LY := hid hly
 have SEP := hid hsep
 have T0 : Turned w w base g N cap j (j + m + 1) us us := ⟨hu,fun _ _ => rfl,World.grownBy.refl _ _⟩
 have LL := hid (show ys.length = m from hy.1)
 have HU := hid hu
 have HLU := hid hlu
 clear hy hly hsep hu hlu
 go_enter Tryz.func140,Tryz.ntmps140
 go_wp2_with fail
 go_loopw [7,14] (fun b i wr => ∃ (k : Nat) (bw : Int) (zs : List Int),k ≤ m ∧ 0 ≤ bw ∧ bw < 1000000000 ∧ i = .int .i64 k ∧ b = .int .i64 bw ∧ Turned w wr base g N cap j (j + m + 1) us zs ∧ Hid (Lims zs) ∧ Hid (∀ k',j + k ≤ k' → zs[k']? = us[k']?) ∧ Hid (val zs = val us - pw j * (q * val (ys.take k)) + pw (j + k) * bw)) (fun b i wr => m - (intOf i).toNat)
 case atStart => exact ⟨0,0,us,Nat.zero_le _,Int.le_refl _,by omega,rfl,rfl,T0,HLU.out,fun _ _ => rfl,by show val us = val us - pw j * (q * val (ys.take 0)) + pw (j + 0) * 0; rw [List.take_zero]; simp [val]⟩
 case round =>
  obtain ⟨k,bw,zs,hk,hb0,hb1,rfl,rfl,ht,hlz,hrest,hv⟩ := hrel
  clear T0
  have hzl := hid (row_len ht.row)
  have hjb : (j : Int) ≤ 1048576 := by omega
  have hkb : (k : Int) ≤ 1048576 := by omega
  rcases Nat.lt_or_ge k m with hkm | hkm
  ·have hki : (k : Int) < m := by omega
   have hki1 : (k : Int) < m + 1 := by omega
   obtain ⟨b2,o2,y,rfl,hb2,hy1, _,hc2⟩ := Sl.getInt HY.out hkm
   have hyl := LY.out.get hy1
   have HY1 := hid hy1
   have hy0 := hyl.1; have hy1' := hyl.2
   have hc2' := (World.cell?_of_block (a := ⟨b2,o2 + k,none⟩) (ht.grown.block b2 hb2 (by have := SEP.out b2 o2 rfl; simpa using this))).trans hc2
   obtain ⟨u,hu,hu0,hu1⟩ := hlz.out.num (j := j + k) (by rw [hzl.out]; omega)
   have HU1 := hid hu
   obtain ⟨hgl,hcu,hfu⟩ := row_cell ht.row hu
   have hT := hid ht
   clear hu hc2 hb2 hyl hy1 ht
   obtain ⟨hp0,hp1⟩ := mul_lim hy0 hy1' hq0 hq1
   have hk1 : k + 1 ≤ m := hkm
   have hB0 : (0 : Int) < 1000000000 := by omega
   have hlo : j ≤ j + k := Nat.le_add_right _ _
   have hhi : j + k < j + m + 1 := by omega
   rcases Int.lt_or_le (u - bw - y * q) 0 with hneg | hneg
   ·have hneg' : (u - bw - y * q < 0) := hneg
    have E0 := hid (show 0 ≤ ((-(u - bw - y * q) + 1000000000 - 1) / 1000000000) by omega)
    have E1 := hid (show ((-(u - bw - y * q) + 1000000000 - 1) / 1000000000) < 1000000000 by omega)
    have L := hid (hlz.out.set (j + k) (u := (u - bw - y * q + (-(u - bw - y * q) + 1000000000 - 1) / 1000000000 * 1000000000)) (by omega) (by omega))
    have Z := hid (show ∀ k',j + (k + 1) ≤ k' → (zs.set (j + k) (u - bw - y * q + (-(u - bw - y * q) + 1000000000 - 1) / 1000000000 * 1000000000))[k']? = us[k']? by
     intro k' h1; rw [List.getElem?_set_ne (by omega)]; exact hrest.out k' (by omega))
    have r := hid (show val (zs.set (j + k) (u - bw - y * q + (-(u - bw - y * q) + 1000000000 - 1) / 1000000000 * 1000000000)) = val us - pw j * (q * val (ys.take (k + 1))) + pw (j + (k + 1)) * ((-(u - bw - y * q) + 1000000000 - 1) / 1000000000) by
     rw [val_set HU1.out,hv.out,val_take_step HY1.out, ← Nat.add_assoc,pw_succ (j + k),pw_add]
     generalize ((-(u - bw - y * q) + 1000000000 - 1) / 1000000000) = D
     grind)
    have R := hid (hT.out.set (j + k) hlo hhi (u - bw - y * q + (-(u - bw - y * q) + 1000000000 - 1) / 1000000000 * 1000000000))
    clear hkm hk
    go_wp2_with fail
    first
    | exact ⟨⟨k + 1, _, _,hk1,E0.out,E1.out,rfl,rfl,R.out,L.out,Z.out,r.out⟩,meas_succ hk1⟩
    | exact ⟨by (repeat apply Exists.intro); exact ⟨⟨k + 1, _, _,hk1,E0.out,E1.out,rfl,rfl,R.out,L.out,Z.out,r.out⟩,rfl⟩,meas_succ hk1⟩
   ·have hneg' : ¬ (u - bw - y * q < 0) := by omega
    have L := hid (hlz.out.set (j + k) (u := u - bw - y * q) hneg (by omega))
    have Z := hid (show ∀ k',j + (k + 1) ≤ k' → (zs.set (j + k) (u - bw - y * q))[k']? = us[k']? by
     intro k' h1; rw [List.getElem?_set_ne (by omega)]; exact hrest.out k' (by omega))
    have r := hid (show val (zs.set (j + k) (u - bw - y * q)) = val us - pw j * (q * val (ys.take (k + 1))) + pw (j + (k + 1)) * 0 by
     rw [val_set HU1.out,hv.out,val_take_step HY1.out,pw_add]; grind)
    have R := hid (hT.out.set (j + k) hlo hhi (u - bw - y * q))
    clear hkm hk
    go_wp2_with fail
    first
    | exact ⟨⟨k + 1,0, _,hk1,Int.le_refl 0,hB0,rfl,rfl,R.out,L.out,Z.out,r.out⟩,meas_succ hk1⟩
    | exact ⟨by (repeat apply Exists.intro); exact ⟨⟨k + 1,0, _,hk1,Int.le_refl 0,hB0,rfl,rfl,R.out,L.out,Z.out,r.out⟩,rfl⟩,meas_succ hk1⟩
  ·have hke : k = m := by omega
   subst hke
   have hki : ¬ ((k : Int) < k) := by omega
   have hki1 : (k : Int) < k + 1 := by omega
   obtain ⟨u,hu,hu0,hu1⟩ := hlz.out.num (j := j + k) (by rw [hzl.out]; omega)
   have HU1 := hid hu
   obtain ⟨hgl,hcu,hfu⟩ := row_cell ht.row hu
   have hT := hid ht
   clear hu ht
   have hlo : j ≤ j + k := Nat.le_add_right _ _
   have hhi : j + k < j + k + 1 := Nat.lt_succ_self _
   have hv' := hid (show val zs = val us - pw j * (q * val ys) + pw (j + k) * bw by
    have h1 := hv.out; rwa [List.take_of_length_le (Nat.le_of_eq LL.out)] at h1)
   clear hkm hk
   rcases Int.lt_or_le (u - bw) 0 with hneg | hneg
   ·have hneg' : (u - bw < 0) := hneg
    have L := hid (hlz.out.set (j + k) (u := u - bw + 1000000000) (by omega) (by omega))
    have r := hid (show val (zs.set (j + k) (u - bw + 1000000000)) = val us - pw j * (q * val ys) + pw (j + k + 1) * 1 by
     rw [val_set HU1.out,hv'.out,pw_succ]; grind)
    have R := hid (show Turned w ((wr.setCell ⟨g,j + k,none⟩ (.int .i64 (u - bw))).setCell ⟨g,j + k,none⟩ (.int .i64 (u - bw + 1000000000))) base g N cap j (j + k + 1) us (zs.set (j + k) (u - bw + 1000000000)) by
     have := (hT.out.set (j + k) hlo hhi (u - bw)).set (j + k) hlo hhi (u - bw + 1000000000)
     rwa [List.set_set] at this)
    go_wp2_with fail
    go_ret
    exact ⟨_,1,rfl, .inr rfl,R.out,r.out,L.out⟩
   ·have hneg' : ¬ (u - bw < 0) := by omega
    have L := hid (hlz.out.set (j + k) (u := u - bw) hneg (by omega))
    have r := hid (show val (zs.set (j + k) (u - bw)) = val us - pw j * (q * val ys) + pw (j + k + 1) * 0 by
     rw [val_set HU1.out,hv'.out]; grind)
    have R := hid (hT.out.set (j + k) hlo hhi (u - bw))
    go_wp2_with fail
    go_ret
    exact ⟨_,0,rfl, .inl rfl,R.out,r.out,L.out⟩

set_option maxHeartbeats 4000000 in
theorem impl_addBack (B : Option Addr) (base g N cap j m c d : Nat) (us ys : List Int) (ds : List Nat) (w : World) (hu : w.ownsRow base 3 1 (.slice (some ⟨g,0,none⟩) N cap) N (us.map (.int .i64))) (hlu : Lims us)
  (hj : j + m + 1 ≤ N) (hN : N ≤ 1048576) (hy : Sl w B m d ys ds) (hly : Lims ys) (hsep : ∀ b o,B = some ⟨b,o,none⟩ → b ≠ g) :
  Calls Tryz.prog 141 #[.slice (some ⟨g,j,none⟩) (m + 1) c, .slice B m d] w fun e w' =>
   ∃ us' r,e = .returned (.tuple #[]) ∧ (0 ≤ r ∧ r ≤ 1) ∧ Turned w w' base g N cap j (j + m + 1) us us' ∧ (val us' = val us + pw j * val ys - pw (j + m + 1) * r ∧ Lims us') := by
 have HY := hid hy
 have LY := hid hly
 have SEP := hid hsep
 have T0 : Turned w w base g N cap j (j + m + 1) us us := ⟨hu,fun _ _ => rfl,World.grownBy.refl _ _⟩
 have LL := hid (show ys.length = m from hy.1)
 have HU := hid hu
 have HLU := hid hlu
 clear hy hly hsep hu hlu
 go_enter Tryz.func141,Tryz.ntmps141
 go_wp2_with fail
 go_loopw [4,9] (fun b i wr => ∃ (k : Nat) (cy : Int) (zs : List Int),k ≤ m + 1 ∧ 0 ≤ cy ∧ cy ≤ 1 ∧ i = .int .i64 k ∧ b = .int .i64 cy ∧ Turned w wr base g N cap j (j + m + 1) us zs ∧ Hid (Lims zs) ∧ Hid (val zs + pw (j + k) * cy = val us + pw j * val (ys.take k))) (fun b i wr => m + 1 - (intOf i).toNat)
 case atStart => exact ⟨0,0,us,Nat.zero_le _,Int.le_refl _,by omega,rfl,rfl,T0,HLU.out,by show val us + pw (j + 0) * 0 = val us + pw j * val (ys.take 0); rw [List.take_zero]; simp [val]⟩
 case round =>
  obtain ⟨k,cy,zs,hk,hb0,hb1,rfl,rfl,ht,hlz,hv⟩ := hrel
  clear T0
  have hzl := hid (row_len ht.row)
  have hjb : (j : Int) ≤ 1048576 := by omega
  have hkb : (k : Int) ≤ 1048576 := by omega
  rcases Nat.lt_or_ge k (m + 1) with hkm | hkm
  ·have hki : (k : Int) < m + 1 := by omega
   obtain ⟨u,hu,hu0,hu1⟩ := hlz.out.num (j := j + k) (by rw [hzl.out]; omega)
   have HU1 := hid hu
   obtain ⟨hgl,hcu,hfu⟩ := row_cell ht.row hu
   have hT := hid ht
   have hk1 : k + 1 ≤ m + 1 := hkm
   have hlo : j ≤ j + k := Nat.le_add_right _ _
   have hhi : j + k < j + m + 1 := by omega
   rcases Nat.lt_or_ge k m with hkl | hkl
   ·obtain ⟨b2,o2,y,rfl,hb2,hy1, _,hc2⟩ := Sl.getInt HY.out hkl
    have hyl := LY.out.get hy1
    have HY1 := hid hy1
    have hy0 := hyl.1; have hy1' := hyl.2
    have hc2' := (World.cell?_of_block (a := ⟨b2,o2 + k,none⟩) (ht.grown.block b2 hb2 (by have := SEP.out b2 o2 rfl; simpa using this))).trans hc2
    have hkl' : (k : Int) < m := by omega
    clear hu hc2 hb2 hyl hy1 ht
    have E0 := hid (show 0 ≤ (u + cy + y) / 1000000000 by omega)
    have E1 := hid (show (u + cy + y) / 1000000000 ≤ 1 by omega)
    have L := hid (hlz.out.set (j + k) (u := (u + cy + y) % 1000000000) (by omega) (by omega))
    have r := hid (show val (zs.set (j + k) ((u + cy + y) % 1000000000)) + pw (j + (k + 1)) * ((u + cy + y) / 1000000000) = val us + pw j * val (ys.take (k + 1)) by
     rw [show j + (k + 1) = j + k + 1 from rfl,mul_step HU1.out hv.out,val_take_step HY1.out,pw_add]; grind)
    have R := hid (hT.out.set (j + k) hlo hhi ((u + cy + y) % 1000000000))
    clear hkm hk hkl
    go_wp2_with fail
    first
    | exact ⟨⟨k + 1, _, _,hk1,E0.out,E1.out,rfl,rfl,R.out,L.out,r.out⟩,meas_succ hk1⟩
    | exact ⟨by (repeat apply Exists.intro); exact ⟨⟨k + 1, _, _,hk1,E0.out,E1.out,rfl,rfl,R.out,L.out,r.out⟩,rfl⟩,meas_succ hk1⟩
   ·have hkl' : ¬ ((k : Int) < m) := by omega
    clear hu ht
    have E0 := hid (show 0 ≤ (u + cy) / 1000000000 by omega)
    have E1 := hid (show (u + cy) / 1000000000 ≤ 1 by omega)
    have L := hid (hlz.out.set (j + k) (u := (u + cy) % 1000000000) (by omega) (by omega))
    have r := hid (show val (zs.set (j + k) ((u + cy) % 1000000000)) + pw (j + (k + 1)) * ((u + cy) / 1000000000) = val us + pw j * val (ys.take (k + 1)) by
     have hyl : ys.length ≤ k := by rw [LL.out]; exact hkl
     have h1 := hv.out
     rw [List.take_of_length_le hyl] at h1
     rw [show j + (k + 1) = j + k + 1 from rfl,mul_step HU1.out h1,List.take_of_length_le (Nat.le_succ_of_le hyl)]; grind)
    have R := hid (hT.out.set (j + k) hlo hhi ((u + cy) % 1000000000))
    clear hkm hk hkl
    go_wp2_with fail
    first
    | exact ⟨⟨k + 1, _, _,hk1,E0.out,E1.out,rfl,rfl,R.out,L.out,r.out⟩,meas_succ hk1⟩
    | exact ⟨by (repeat apply Exists.intro); exact ⟨⟨k + 1, _, _,hk1,E0.out,E1.out,rfl,rfl,R.out,L.out,r.out⟩,rfl⟩,meas_succ hk1⟩
  ·have hke : k = m + 1 := by omega
   subst hke
   have hki : ¬ ((m : Int) + 1 < m + 1) := by omega
   have r := hid (show val zs = val us + pw j * val ys - pw (j + m + 1) * cy by
    have h1 := hv.out
    rw [List.take_of_length_le (show ys.length ≤ m + 1 by rw [LL.out]; omega),show j + (m + 1) = j + m + 1 from rfl] at h1
    omega)
   have hT := hid ht
   clear hkm hk ht
   go_wp2_with fail
   go_end0
   exact ⟨rfl, _,cy,⟨hb0,hb1⟩,hT.out,r.out,hlz.out⟩

theorem sgn_nonneg {a b : Int} (h : b ≤ a) : ¬ (sgn (a - b) < 0) := by
 unfold sgn; rw [if_neg (by omega)]; split <;> omega

set_option maxHeartbeats 4000000 in
set_option maxRecDepth 10000 in
theorem impl_natDiv (A B : Option Addr) (n m c d : Nat) (xs ys : List Int) (bs ds : List Nat) (w : World) (hx : Sl w A n c xs bs) (hy : Sl w B m d ys ds) (hcx : XN.Can xs) (hcy : XN.Can ys) (hn : n ≤ 65536) (hm0 : 0 < m) :
  Calls Tryz.prog 103 #[.slice A n c, .slice B m d] w (GivesPair w (dig (val xs / val ys).toNat) (dig (val xs % val ys).toNat)) := by
 have HX := hid hx
 have HY := hid hy
 have CX := hid hcx
 have CY := hid hcy
 have LX := hid hx.1
 have LY := hid hy.1
 have PX := hid (val_nonneg hcx.1)
 have PY := hid (hcy.pos (by intro e; rw [← hy.1,e] at hm0; simp at hm0))
 clear hx hy hcx hcy
 go_enter Tryz.func103,Tryz.ntmps103
 go_wp2_with fail
 refine (impl_natCmp A B n m c d xs ys bs ds w HX.out HY.out CX.out CY.out).mono ?_
 rintro _ w1 ⟨rfl,hb1⟩
 rcases Int.lt_or_le (val xs) (val ys) with hlt | hge
 ·have E := hid (show dig (val xs / val ys).toNat = [] ∧ dig (val xs % val ys).toNat = xs by
   rw [Int.ediv_eq_zero_of_lt PX.out hlt,Int.emod_eq_of_lt PX.out hlt]
   exact ⟨rfl,(CX.out.eq_dig).symm⟩)
  rw [sgn_lt hlt]
  go_wp2_with fail
  refine (clone_row A n c xs bs _ (Sl.below HX.out Below.go) (Nat.le_trans hn (by decide))).mono ?_
  rintro _ w2 ⟨v2,rfl,hown2,hb2⟩
  have hb' : Below w.heap.size w w2 := Below.go
  have hr1 : w2.ownsRow w1.heap.size 3 1 (.slice (some ⟨w1.heap.size,0,none⟩) 0 0) 0 (([] : List Int).map (.int .i64)) := ownsRow_below (World.ownsRow_made w1 #[] 0 (Nat.le_refl _) (Nat.zero_le _) rfl) hb2
  have hs : w.heap.size ≤ w1.heap.size := hb1.size
  go_wp2
  go_ret2
  rw [E.out.1,E.out.2]
  refine gives_pair hr1 hown2 (fun _ h => by simp at h) (Sl.i64 HX.out) hs (by simp; omega) ?_ hb'
  intro g1 g2 e1 e2
  have := own_base hown2 _ e2
  simp [Value.ownBlock] at e1
  simp at this
  omega
 ·have hs := sgn_nonneg hge
  generalize sgn (val xs - val ys) = sg at *
  rcases Nat.lt_or_ge 1 m with h1 | h1
  ·have hnm : m ≤ n := by
    rcases Nat.lt_or_ge n m with h | h
    ·have := XN.Can.lt_of_len CX.out.1 CY.out (by rw [LX.out,LY.out]; exact h); omega
    ·exact h
   obtain ⟨p,rfl⟩ : ∃ p,m = p + 2 := ⟨m - 2,by omega⟩
   obtain ⟨l,rfl⟩ : ∃ l,n = p + 2 + l := ⟨n - (p + 2),by omega⟩
   obtain ⟨b2,o2,t,rfl,hbl2,hy1, _,hc2⟩ := Sl.getInt HY.out (show p + 1 < p + 2 by omega)
   obtain ⟨hby0,hby1,hbyV,ht0,ht1⟩ := scale_lt CY.out (m := p + 1) (by rw [LY.out]) hy1
   have hc2' := (hb1.cell (p := ⟨b2,o2 + (p + 1),none⟩) hbl2).trans hc2
   have HBV := hid hbyV
   have HGE := hid hge
   have hpb : (p : Int) + l ≤ 65534 := by omega
   have hone : ¬ ((p : Int) + 2 = 1) := by omega
   have honeb : ((p : Int) + 2 == 1) = false := by simp; omega
   clear hc2 hy1 hm0 h1 hbyV hge hnm
   go_wp2_with fail
   generalize 1000000000 / (t + 1) = f at *
   have hXf := hid (show val xs * f < pw (p + 2 + l + 1) by
    have h1 := val_lt CX.out.1
    rw [LX.out] at h1
    have h2 : val xs * f ≤ val xs * 1000000000 := Int.mul_le_mul_of_nonneg_left (by omega) PX.out
    rw [pw_succ]; omega)
   refine (impl_scaled A (p + 2 + l) c (p + 2 + l + 1) xs bs f w1 (Sl.below HX.out hb1) CX.out.1 hby0 hby1 (by omega) (by omega) hXf.out).mono ?_
   rintro _ w2 ⟨us,rfl,hul,hUl,hUv,hrow2,hb2⟩
   have UL := hid hul; have UM := hid hUl; have UV := hid hUv
   clear hul hUl hUv
   go_wp2_with fail
   have HY2 := hid (Sl.below (Sl.below HY.out hb1) hb2)
   refine (impl_scaled (some ⟨b2,o2,none⟩) (p + 2) d (p + 2) ys ds f w2 HY2.out CY.out.1 hby0 hby1 (by omega) (by omega) HBV.out).mono ?_
   rintro _ w3 ⟨vs,rfl,hvl,hVl,hVv,hrow3,hb3⟩
   have VL := hid hvl; have VM := hid hVl; have VV := hid hVv
   clear hvl hVl hVv
   obtain ⟨i0,hi,hz0,hz1,hz2⟩ := info_parts infoI
   have q2 := hid (show i0.bytes * (l + 1) ≤ 281474976710656 by rw [hz2]; omega)
   have q3 := hid (show l + 1 ≤ maxLen by unfold maxLen; omega)
   have q4 := hid (show (p : Int) + 2 + l - (p + 2) + 1 = ((l + 1 : Nat) : Int) by omega)
   go_wp2_with (at_make; (refine wpList_make_full _ rfl _ _ 28 rfl w3.heap.size 3 i0 (.int .i64 0) 1 Tryz.underlying28 hi hz0 hz1 .i64 .i64 _ _ (l + 1) rfl rfl q4.out q4.out q2.out q3.out (Nat.le_refl _) ?_); intro w4 hown4 hgrow4)
   rw [zeros_row] at hown4
   have hb4 := (Below.refl w3.heap.size w3).grown hgrow4 (Nat.le_refl _) (by intro k hk; cases hk)
   have hU4 := ownsRow_below (ownsRow_below hrow2 hb3) hb4
   have hV4 := ownsRow_below hrow3 hb4
   have hbAll : Below w.heap.size w w4 := Below.go
   have start := hid (show 0 ≤ val us ∧ val us < val vs * pw (l + 1) by
    rw [UV.out,VV.out]
    refine ⟨Int.mul_nonneg PX.out (by omega), ?_⟩
    have h1 := val_lt CX.out.1
    rw [LX.out] at h1
    have h2 := CY.out.len_le (by intro e; have := LY.out; rw [e] at this; simp at this)
    rw [LY.out] at h2
    have h3 : pw (p + 1) * pw (l + 1) ≤ val ys * pw (l + 1) := Int.mul_le_mul_of_nonneg_right h2 (Int.le_of_lt (pw_pos _))
    rw [← pw_add,show p + 1 + (l + 1) = p + 2 + l by omega] at h3
    have h4 : val xs * f < val ys * pw (l + 1) * f := Int.mul_lt_mul_of_pos_right (by omega) hby0
    have h5 : val ys * pw (l + 1) * f = val ys * f * pw (l + 1) := by grind
    omega)
   have hs12 : w1.heap.size < w2.heap.size := (World.ownsRow.lt hrow2 _ rfl).2
   have hs23 : w2.heap.size < w3.heap.size := (World.ownsRow.lt hrow3 _ rfl).2
   have hs01 : w.heap.size ≤ w1.heap.size := hb1.size
   clear hrow2 hrow3 hgrow4 hi hz0 hz1 hz2 hb2 hb3 hb4 hc2' hbl2 hone honeb hb1
   go_loopw [13] (fun i wr => ∃ (K : Nat) (zs os : List Int),K ≤ l + 1 ∧ i = .int .i64 ((K : Int) - 1) ∧ wr.ownsRow w1.heap.size 3 1 (.slice (some ⟨w1.heap.size,0,none⟩) (p + 2 + l + 1) (p + 2 + l + 1)) (p + 2 + l + 1) (zs.map (.int .i64)) ∧ wr.ownsRow w2.heap.size 3 1 (.slice (some ⟨w2.heap.size,0,none⟩) (p + 2) (p + 2)) (p + 2) (vs.map (.int .i64)) ∧ wr.ownsRow w3.heap.size 3 1 (.slice (some ⟨w3.heap.size,0,none⟩) (l + 1) (l + 1)) (l + 1) (os.map (.int .i64)) ∧ Hid (Lims zs) ∧ Hid (Lims os) ∧ Hid (val zs = val xs * f - val vs * (pw K * val (os.drop K))) ∧ Hid (0 ≤ val zs ∧ val zs < val vs * pw K) ∧ Below w.heap.size w wr) (fun i wr => (intOf i + 1).toNat)
   case atStart =>
    refine ⟨l + 1,us, _,Nat.le_refl _,congrArg (Value.int .i64) (by omega),hU4,hV4,hown4,UM.out,Lims.zeros _, ?_,start.out,hbAll⟩
    show val us = val xs * f - val vs * (pw (l + 1) * val ((List.replicate (l + 1) (0 : Int)).drop (l + 1)))
    rw [List.drop_eq_nil_of_le (by simp),UV.out]; simp [val]
   case round =>
    obtain ⟨K,zs,os,hK,rfl,hU,hV,hO,LU,LO,hv,hr,hb⟩ := hrel
    clear hU4 hV4 hown4 hbAll
    rcases Nat.eq_zero_or_pos K with h0 | h0
    ·subst h0
     have fin := hid (show val os = val xs / val ys ∧ val (zs.take (p + 2)) = (val xs % val ys) * f by
      have h1 := hv.out
      rw [List.drop_zero,pw_zero,Int.one_mul,VV.out] at h1
      obtain ⟨h2,h3⟩ := hr.out
      rw [pw_zero,Int.mul_one,VV.out] at h3
      have h4 : val zs = (val xs - val ys * val os) * f := by rw [h1]; grind
      have h5 : 0 ≤ val xs - val ys * val os := by
       rcases Int.lt_or_le (val xs - val ys * val os) 0 with h | h
       ·have := Int.mul_neg_of_neg_of_pos h hby0; omega
       ·exact h
      have h6 : val xs - val ys * val os < val ys := by
       rcases Int.lt_or_le (val xs - val ys * val os) (val ys) with h | h
       ·exact h
       ·have := Int.mul_le_mul_of_nonneg_right h (Int.le_of_lt hby0); omega
      obtain ⟨e1,e2⟩ := div_of (q := val os) (r := val xs - val ys * val os) (a := val xs) PY.out (by grind) h5 h6
      refine ⟨e1.symm, ?_⟩
      rw [e2, ← h4]
      have h7 := val_split zs (p + 2) (by rw [row_len hU]; omega)
      have h8 := HBV.out
      rw [show p + 1 + 1 = p + 2 from rfl] at h8
      rw [drop_zero_of_lt LU.out (by rw [row_len hU]; omega) (by omega)] at h7
      omega)
     have hneg : ¬ ((0 : Int) ≤ ((0 : Nat) : Int) - 1) := by omega
     have hU' := row_take hU (show p + 2 ≤ p + 2 + l + 1 by omega)
     have hcc : (p : Int) + 2 ≤ p + 2 + l + 1 := by omega
     have LT := hid (LU.out.take (p + 2))
     go_wp2_with fail
     refine (trimmed_row _ _ _ _ (zs.take (p + 2)) wr hU' LT.out.i64).mono ?_
     rintro _ w5 ⟨rfl,hb5,hU5⟩
     go_wp2_with fail
     obtain ⟨s5,hs5⟩ := row_sl hU5 (XN.Can.trim LT.out).1.i64
     refine (impl_divSmall _ _ _ (trim (zs.take (p + 2))) s5 f w5 hs5 (XN.Can.trim LT.out).1 hby0 hby1 (by
      have : (trim (zs.take (p + 2))).length ≤ p + 2 := by
       rw [trim_take,List.length_take,List.length_take]; omega
      omega)).mono ?_
     rintro _ w6 ⟨v6,rfl,hq6,hb6⟩
     have hO5 := ownsRow_below hO hb5
     have hO6 := ownsRow_below hO5 hb6
     clear hs5 hO hU hU' hU5 hV
     go_wp2_with fail
     refine (trimmed_row _ _ _ _ os w6 hO6 LO.out.i64).mono ?_
     rintro _ w7 ⟨rfl,hb7,hO7⟩
     have hbF : Below w.heap.size w w7 := Below.go
     have hq7 := ownsRow_below hq6 hb7
     have eq := hid (show trim os = dig (val xs / val ys).toNat by
      rw [← fin.out.1]; exact trim_dig LO.out (Int.toNat_of_nonneg (val_nonneg LO.out)).symm)
     have er := hid (show val (trim (zs.take (p + 2))) / f = val xs % val ys by
      rw [val_trim,fin.out.2]; exact Int.mul_ediv_cancel _ (by omega))
     go_wp2
     go_ret2
     rw [er.out] at hq7
     rw [eq.out] at hO7 ⊢
     have hO5' := apart_rows hO5 hq6
     exact gives_pair hO7 hq7 (dig_can _).1.i64 (dig_can _).1.i64 (by omega) (by have := hb.size; have := hb5.size; omega) (fun g1 g2 e1 e2 => hO5' g1 g2 e1 e2) hbF
    ·obtain ⟨j,rfl⟩ : ∃ j,K = j + 1 := ⟨K - 1,by omega⟩
     have ej : (((j + 1 : Nat) : Int) - 1) = j := by omega
     rw [ej]
     have HZL := hid (row_len hU)
     have hjl : (j : Int) ≤ l := by omega
     obtain ⟨u0,hu0,hu00,hu01⟩ := LU.out.num (j := j + p) (by rw [HZL.out]; omega)
     obtain ⟨u1,hu1,hu10,hu11⟩ := LU.out.num (j := j + p + 1) (by rw [HZL.out]; omega)
     obtain ⟨u2,hu2,hu20,hu21⟩ := LU.out.num (j := j + p + 2) (by rw [HZL.out]; omega)
     obtain ⟨vv2,hv2,hv20,hv21⟩ := VM.out.num (j := p) (by rw [VL.out]; omega)
     obtain ⟨vv1,hv1,hv10,hv11⟩ := VM.out.num (j := p + 1) (by rw [VL.out]; omega)
     have hv1p := top_pos CY.out LY.out VM.out VL.out VV.out hby0 hv1
     have D := hid (show Dig3 zs vs j p u0 (u2 * 1000000000 + u1) vv1 vv2 from ⟨LU.out,VM.out,⟨u1,u2,hu0,hu1,hu2,rfl⟩,hv2,hv1,VL.out,hv1p,hr.out.2⟩)
     obtain ⟨_,ca0, _⟩ := row_cell hU hu0
     obtain ⟨_,ca1, _⟩ := row_cell hU hu1
     obtain ⟨_,ca2, _⟩ := row_cell hU hu2
     have HU0 := hid hu0; have HV2 := hid hv2; have HV1 := hid hv1
     clear hu0 hu1 hu2 hv2 hv1
     rw [show j + p + 2 = j + (p + 2) by omega] at ca2
     rw [show j + p + 1 = j + (p + 1) by omega] at ca1
     have hpb2 : (p : Int) ≤ 65534 := by omega
     have hlb2 : (l : Int) ≤ 65534 := by omega
     clear hr hK h0
     go_wp2_with fail
     refine wp_region_walk (by kernel_rfl) (by kernel_rfl) (by kernel_rfl) ?_
     iterate 16
      apply walkM_eq
      case h =>
       intro yq zq wq hC hd
       obtain ⟨hcq,hfq⟩ := bcell hC
       simp at hd
       refine ⟨by go_simp; done, ?_⟩
       go_simp
       first | (go_ints; exact rfl) | (go_ints; rw [if_pos (by omega)]; try exact rfl) | exact rfl | (rw [if_pos (by omega)]; try exact rfl)
     intro yq zq wt hC hd hdis0
     have hdis := hid hdis0
     clear hdis0
     simp at hd
     go_simp
     clear hd hdis ca0 ca1 ca2
     have hU1 := hid (ownsRow_below hU hC)
     have hV1 := hid (ownsRow_below hV hC)
     have hO1 := hid (ownsRow_below hO hC)
     have hb1' : Below w.heap.size w wt := Below.go
     clear hU hV hO hb hC
     obtain ⟨hgU,ca0, _⟩ := row_cell hU1.out HU0.out
     obtain ⟨hgV,cv2, _⟩ := row_cell hV1.out HV2.out
     obtain ⟨_,cv1, _⟩ := row_cell hV1.out HV1.out
     clear hu10 hu11 hu20 hu21
     generalize u2 * 1000000000 + u1 = top at *
     obtain ⟨htop0,htop1⟩ := D.out.top_lim
     go_upto_region 14 with fail
     go_cut [15] (fun s15 wx => (∃ q : Int,s15 = .int .i64 q ∧ (0 ≤ q ∧ q ≤ 999999999) ∧ (0 ≤ q * vv1 ∧ q * vv1 ≤ top) ∧ Hid (val zs < (q + 1) * (val vs * pw j))) ∧ wx = wt)
     case first =>
      rcases Int.lt_or_le (top / vv1) 999999999 with hlt | hge
      ·have W := hid (D.out.start (.inl ⟨rfl,hlt⟩))
       go_wp2_with fail
       go_meet
       exact ⟨⟨_,rfl,W.out⟩,rfl⟩
      ·have W := hid (D.out.start (.inr ⟨rfl,hge⟩))
       go_wp2_with fail
       go_meet
       exact ⟨⟨_,rfl,W.out⟩,rfl⟩
     case rest =>
      obtain ⟨⟨q0,rfl,⟨a0,a1⟩,⟨a2,a3⟩,a4⟩,hwc⟩ := hcut
      obtain rfl : wt = wc := hwc.symm
      go_upto_block 2 with fail
      have W := hid (show ∃ q r : Int,Value.int .i64 q0 = .int .i64 q ∧ Value.int .i64 (top - q0 * vv1) = .int .i64 r ∧ 0 ≤ q ∧ q ≤ 999999999 ∧ 0 ≤ r ∧ r ≤ 999999999999999999 ∧ Hid (r = top - q * vv1) ∧ Hid (val zs < (q + 1) * (val vs * pw j)) from ⟨_, _,rfl,rfl,a0,a1,by omega,by omega,rfl,a4.out⟩)
      clear a0 a1 a2 a3 a4 htop0 htop1 ca0 cv1 cv2 hgU hgV
      go_cut [15] (fun s15 wx => (∃ q : Int,s15 = .int .i64 q ∧ (0 ≤ q ∧ q ≤ 999999999) ∧ Hid (val zs < (q + 1) * (val vs * pw j)) ∧ Hid ((q - 1) * (val vs * pw j) ≤ val zs)) ∧ Below wt.heap.size wt wx)
      case first =>
       go_wp2_with fail
       go_loopw [15,16] (fun sq sr wr => (∃ q r : Int,sq = .int .i64 q ∧ sr = .int .i64 r ∧ 0 ≤ q ∧ q ≤ 999999999 ∧ 0 ≤ r ∧ r ≤ 999999999999999999 ∧ Hid (r = top - q * vv1) ∧ Hid (val zs < (q + 1) * (val vs * pw j))) ∧ Below wt.heap.size wt wr) (fun sq sr wr => (intOf sq).toNat)
       case atStart => exact ⟨W.out,Below.refl _ _⟩
       case round =>
        obtain ⟨⟨q,rest,rfl,rfl,hq0,hq1,hr0,hr1,hre,hqU⟩,hbi⟩ := hrel
        have hU2 := hid (ownsRow_below hU1.out hbi)
        have hV2 := hid (ownsRow_below hV1.out hbi)
        have hbi2 := hid hbi
        clear hU1 hV1 hO1 hb1' hbi
        obtain ⟨hgU,ca0, _⟩ := row_cell hU2.out HU0.out
        obtain ⟨hgV,cv2, _⟩ := row_cell hV2.out HV2.out
        rw [show j + p = j + (p + 2) - 2 by omega] at ca0
        obtain ⟨hp0,hp1⟩ := mul_lim hq0 (show q < 1000000000 by omega) hv20 hv21
        by_cases hx : rest < 1000000000
        ·by_cases hy : rest * 1000000000 + u0 < q * vv2
         ·have hq2 : 0 < q := by
           rcases Int.lt_or_le 0 q with h | h
           ·exact h
           ·have : q = 0 := by omega
            subst this
            omega
          have rm := hid (show (intOf (.int .i64 (q - 1))).toNat < (intOf (.int .i64 q)).toNat by simp [intOf]; omega)
          have r3 := hid (D.out.step hq0 hre.out hy)
          have r5 := hid (show 0 ≤ q - 1 ∧ q - 1 ≤ 999999999 ∧ 0 ≤ rest + vv1 ∧ rest + vv1 ≤ 999999999999999999 by omega)
          go_wp2_with fail
          refine wp_region_walk (by kernel_rfl) (by kernel_rfl) (by kernel_rfl) ?_
          iterate 22
           apply walkM_eq
           case h =>
            intro yq zq wq hC hd
            obtain ⟨hcq,hfq⟩ := bcell hC
            simp at hd
            refine ⟨by go_simp; done, ?_⟩
            go_simp
            first | (go_ints; exact rfl) | (go_ints; rw [if_pos (by omega)]; try exact rfl) | exact rfl | (rw [if_pos (by omega)]; try exact rfl)
          intro yq zq wz hC hd hdis0
          have hdis := hid hdis0
          clear hdis0
          simp at hd
          go_simp
          clear hd hdis
          obtain ⟨_,cv1, _⟩ := row_cell (ownsRow_below hV2.out hC) HV1.out
          go_wp2_with fail
          have hbz := hid hC
          clear hC
          first
          | exact ⟨⟨⟨q - 1,rest + vv1,rfl,rfl,r5.out.1,r5.out.2.1,r5.out.2.2.1,r5.out.2.2.2,r3.out.1,r3.out.2⟩,Below.next hbi2.out hbz.out⟩,rm.out⟩
          | exact ⟨by (repeat apply Exists.intro); exact ⟨⟨⟨q - 1,rest + vv1,rfl,rfl,r5.out.1,r5.out.2.1,r5.out.2.2.1,r5.out.2.2.2,r3.out.1,r3.out.2⟩,Below.next hbi2.out hbz.out⟩,rfl⟩,rm.out⟩
         ·have T := hid (D.out.last hq0 hq1 hre.out (.inr (by omega)))
          go_wp2_with fail
          refine wp_region_walk (by kernel_rfl) (by kernel_rfl) (by kernel_rfl) ?_
          iterate 22
           apply walkM_eq
           case h =>
            intro yq zq wq hC hd
            obtain ⟨hcq,hfq⟩ := bcell hC
            simp at hd
            refine ⟨by go_simp; done, ?_⟩
            go_simp
            first | (go_ints; exact rfl) | (go_ints; rw [if_pos (by omega)]; try exact rfl) | exact rfl | (rw [if_pos (by omega)]; try exact rfl)
          intro yq zq wz hC hd hdis0
          have hdis := hid hdis0
          clear hdis0
          simp at hd
          go_simp
          clear hd hdis
          go_wp2_with fail
          have hbz := hid hC
          clear hC
          go_meet
          exact ⟨⟨_,rfl,⟨hq0,hq1⟩,hqU,T⟩,Below.next hbi2.out hbz.out⟩
        ·have T := hid (D.out.last hq0 hq1 hre.out (.inl (by omega)))
         go_wp2_with fail
         refine wp_region_walk (by kernel_rfl) (by kernel_rfl) (by kernel_rfl) ?_
         iterate 3
          apply walkM_eq
          case h =>
           intro yq zq wq hC hd
           obtain ⟨hcq,hfq⟩ := bcell hC
           simp at hd
           refine ⟨by go_simp; done, ?_⟩
           go_simp
           first | (go_ints; exact rfl) | (go_ints; rw [if_pos (by omega)]; try exact rfl) | exact rfl | (rw [if_pos (by omega)]; try exact rfl)
         iterate 18
          apply walkM_skip
          case h =>
           intro yq zq wq hC hd
           simp at hd
           go_simp
           done
         apply walkM_eq
         case h =>
          intro yq zq wq hC hd
          obtain ⟨hcq,hfq⟩ := bcell hC
          simp at hd
          refine ⟨by go_simp; done, ?_⟩
          go_simp
          first | (go_ints; exact rfl) | (go_ints; rw [if_pos (by omega)]; try exact rfl) | exact rfl | (rw [if_pos (by omega)]; try exact rfl)
         intro yq zq wz hC hd hdis0
         have hdis := hid hdis0
         clear hdis0
         simp at hd
         go_simp
         clear hd hdis
         go_wp2_with fail
         have hbz := hid hC
         clear hC
         go_meet
         exact ⟨⟨_,rfl,⟨hq0,hq1⟩,hqU,T⟩,Below.next hbi2.out hbz.out⟩
      case rest =>
       obtain ⟨⟨q,rfl,⟨hq0,hq1⟩,HqU,HqL⟩,hbx⟩ := hcut
       have hU2 := hid (ownsRow_below hU1.out hbx)
       have hV2 := hid (ownsRow_below hV1.out hbx)
       have hO2 := hid (ownsRow_below hO1.out hbx)
       have hb2' := hid (Below.next hb1' hbx)
       clear hU1 hV1 hO1 hb1' hbx W hv20 hv21
       obtain ⟨sv,hsv⟩ := row_sl hV2.out VM.out.i64
       have HSV := hid hsv
       clear hsv
       have hj1 : j + (p + 2) + 1 ≤ p + 2 + l + 1 := by omega
       have hN : p + 2 + l + 1 ≤ 1048576 := by omega
       have sep : ∀ b o,some (⟨w2.heap.size,0,none⟩ : Addr) = some ⟨b,o,none⟩ → b ≠ w1.heap.size := by intro b o e; cases e; omega
       have HSEP := hid sep
       clear sep
       obtain ⟨oj,hoj, _, _⟩ := LO.out.num (j := j) (by rw [row_len hO2.out]; omega)
       have HOJ := hid hoj
       clear hoj
       have hjl' : j < os.length := by rw [row_len hO2.out]; omega
       have HJL := hid hjl'
       clear hjl'
       have esl : p + 2 + 1 = j + (p + 2) + 1 - j := by omega
       have ESL := hid esl
       clear esl
       have rm := hid (show (intOf (.int .i64 ((j : Int) - 1)) + 1).toNat < (intOf (.int .i64 (j : Int)) + 1).toNat by simp [intOf])
       have rK : j ≤ l + 1 := by omega
       go_wp2_with fail
       have C := impl_subtract (some ⟨w2.heap.size,0,none⟩) w1.heap.size w1.heap.size (p + 2 + l + 1) (p + 2 + l + 1) j (p + 2) (p + 2 + l + 1 - j) (p + 2) zs vs sv q wc hU2.out LU.out hj1 hN HSV.out VM.out HSEP.out hq0 (by omega)
       rw [ESL.out] at C
       refine C.mono ?_
       clear C
       rintro _ w5 ⟨z1,r,rfl,hr01,hT,hv1',hl1⟩
       have hV5 := hid (World.ownsRow.kept hV2.out hT.grown (.inr (by simp [Value.ownBlock]; omega)))
       have hO5 := hid (World.ownsRow.kept hO2.out hT.grown (.inr (by simp [Value.ownBlock]; omega)))
       have hb5 := hid (hb2'.out.grown hT.grown hb2'.out.size (by intro k hk; cases hk; exact hs01))
       have HT := hid hT
       have HL1 := hid hl1
       have HV1' := hid hv1'
       clear hT hl1 hv1'
       rcases hr01 with rfl | rfl
       ·have F := hid (D.out.done0 HqU.out HL1.out HV1'.out)
        have R1 := hid (row_set hO5.out j q)
        have G := hid (World.ownsRow.stored hO5.out j (.int .i64 q)).2
        have R2 := hid (World.ownsRow.kept HT.out.row G.out (.inr (by simp [Value.ownBlock]; omega)))
        have R3 := hid (World.ownsRow.kept hV5.out G.out (.inr (by simp [Value.ownBlock]; omega)))
        have R4 := hid (hb5.out.grown G.out hb5.out.size (by intro k hk; cases hk; omega))
        have R5 := hid (LO.out.set j hq0 (show q < 1000000000 by omega))
        have R6 := hid (quo_set HJL.out hv.out F.out.1)
        obtain ⟨hgO,co,fo⟩ := row_cell hO5.out HOJ.out
        go_wp2_with fail
        first
        | exact ⟨⟨j,z1,os.set j q,rK,rfl,R2.out,R3.out,R1.out,HL1.out,R5.out,R6.out,F.out.2,R4.out⟩,rm.out⟩
        | exact ⟨by (repeat apply Exists.intro); exact ⟨⟨j,z1,os.set j q,rK,rfl,R2.out,R3.out,R1.out,HL1.out,R5.out,R6.out,F.out.2,R4.out⟩,rfl⟩,rm.out⟩
       ·obtain ⟨sv5,hsv5⟩ := row_sl hV5.out VM.out.i64
        have HSV5 := hid hsv5
        clear hsv5
        go_wp2_with fail
        have C := impl_addBack (some ⟨w2.heap.size,0,none⟩) w1.heap.size w1.heap.size (p + 2 + l + 1) (p + 2 + l + 1) j (p + 2) (p + 2 + l + 1 - j) (p + 2) z1 vs sv5 w5 HT.out.row HL1.out hj1 hN HSV5.out VM.out HSEP.out
        rw [ESL.out] at C
        refine C.mono ?_
        clear C
        rintro _ w6 ⟨z2,cy,rfl,hcy,hT2,hv2',hl2⟩
        have F := hid (D.out.done1 HqL.out HL1.out HV1'.out (by rw [row_len HT.out.row,row_len hU2.out]) (fun k hk => HT.out.out k (.inr hk)) hl2 hcy hv2' (by rw [row_len hT2.row,row_len HT.out.row]) (fun k hk => hT2.out k (.inr hk)))
        have hV6 := hid (World.ownsRow.kept hV5.out hT2.grown (.inr (by simp [Value.ownBlock]; omega)))
        have hO6 := hid (World.ownsRow.kept hO5.out hT2.grown (.inr (by simp [Value.ownBlock]; omega)))
        have hb6 := hid (hb5.out.grown hT2.grown hb5.out.size (by intro k hk; cases hk; exact hs01))
        have HT2 := hid hT2
        have HL2 := hid hl2
        clear hT2 hl2 hv2' hcy
        have hq1p : 0 ≤ q - 1 := by
         rcases Int.lt_or_le 0 q with h | h
         ·omega
         ·have h0 : q = 0 := by omega
          have h1 := HV1'.out
          have h2 := D.out.lt
          have h3 := F.out
          subst h0
          have h4 := val_nonneg LU.out
          have h5 : val z1 < pw (j + (p + 2) + 1) := by
           have h6 := still_lt LU.out HL1.out (i := j + p + 3) (by have := D.out.zl; omega) (by rw [row_len HT.out.row,row_len hU2.out]) (fun k hk => HT.out.out k (.inr (by omega))) h2
           rwa [show j + p + 3 = j + (p + 2) + 1 by omega] at h6
          rw [Int.zero_mul,Int.mul_zero] at h1
          omega
        have R1 := hid (row_set hO6.out j (q - 1))
        have G := hid (World.ownsRow.stored hO6.out j (.int .i64 (q - 1))).2
        have R2 := hid (World.ownsRow.kept HT2.out.row G.out (.inr (by simp [Value.ownBlock]; omega)))
        have R3 := hid (World.ownsRow.kept hV6.out G.out (.inr (by simp [Value.ownBlock]; omega)))
        have R4 := hid (hb6.out.grown G.out hb6.out.size (by intro k hk; cases hk; omega))
        have R5 := hid (LO.out.set j hq1p (show q - 1 < 1000000000 by omega))
        have R6 := hid (quo_set HJL.out hv.out F.out.1)
        obtain ⟨hgO,co,fo⟩ := row_cell hO6.out HOJ.out
        go_wp2_with fail
        first
        | exact ⟨⟨j,z2,os.set j (q - 1),rK,rfl,R2.out,R3.out,R1.out,HL2.out,R5.out,R6.out,F.out.2,R4.out⟩,rm.out⟩
        | exact ⟨by (repeat apply Exists.intro); exact ⟨⟨j,z2,os.set j (q - 1),rK,rfl,R2.out,R3.out,R1.out,HL2.out,R5.out,R6.out,F.out.2,R4.out⟩,rfl⟩,rm.out⟩
  ·obtain rfl : m = 1 := by omega
   obtain ⟨b2,o2,y,rfl,hbl2,hy1, _,hc2⟩ := Sl.getInt HY.out (show 0 < 1 by omega)
   have hyl := CY.out.1.get hy1
   have EV := hid (show val ys = y by
    have h2 := val_take_step hy1
    rw [List.take_of_length_le (Nat.le_of_eq LY.out)] at h2
    rw [h2,List.take_zero,pw_zero]; simp [val])
   have hy0 : 0 < y := by have := PY.out; rw [EV.out] at this; exact this
   have hyb := hyl.2
   have hc2' := (hb1.cell (p := ⟨b2,o2 + 0,none⟩) hbl2).trans hc2
   simp only [Nat.add_zero] at hc2'
   clear hc2 hyl hy1 hm0 hge h1
   go_wp2_with fail
   refine (impl_divSmall A n c xs bs y w1 (Sl.below HX.out hb1) CX.out.1 hy0 hyb (Nat.le_trans hn (by decide))).mono ?_
   rintro _ w2 ⟨v2,rfl,hown2,hb2⟩
   have hr0 : 0 ≤ val xs % y := Int.emod_nonneg _ (by omega)
   have hr1 : val xs % y < 1000000000 := by have := Int.emod_lt_of_pos (val xs) hy0; omega
   go_wp2_with fail
   refine (natOf_row (val xs % y) w2 hr0 (by omega)).mono ?_
   rintro _ w3 ⟨v3,rfl,hown3,hb3⟩
   have hb' : Below w.heap.size w w3 := Below.go
   go_wp2
   go_ret2
   rw [EV.out]
   exact gives_pair (ownsRow_below hown2 hb3) hown3 (dig_can _).1.i64 (dig_can _).1.i64 hb1.size (Nat.le_trans hb1.size hb2.size) (apart_rows hown2 hown3) hb'
end Go.Proofs.YtpfipnankjeokaaGreat.X
