/- Part of a claim's proof: texts of this repository's wip,joined by prune.py,without the theorems that the claim does not reach. -/
import Derived.Test.YtpfipnankjeokaaGreatY12
import Derived.Test.YtpfipnankjeokaaGreatY11
import Derived.Test.YtpfipnankjeokaaGreatY10
/- IsProper of the program. -/
namespace Go.XN
open Go.XB
def properB : List TPoint → Bool
 | [a,b,c] => (ptOkB a && (ptOkB b && ptOkB c)) && decide (0 < rsign (darea a b c))
 | _ => false
end Go.XN
namespace Go.Proofs.YtpfipnankjeokaaGreat.X
open Go.RowKit Go.XB Go.XN
attribute [local go_sem] fillBy opAt deps depOf Region.wanted yielded
attribute [local simp] deps depOf MP.eq MP.agg MP.sl Facts
set_option linter.constructorNameAsVariable false

set_option maxRecDepth 10000 in
set_option maxHeartbeats 1000000 in
theorem index_pts (f : Nat) (hf : Known f) (A : Option Addr) (n c : Nat) (xs : List TPoint) (bs : List Nat) (w : World) (p : TPoint → Bool) (hx : Sl w A n c xs bs)
  (hp : ∀ (v : Value) (x : TPoint) (b : List Nat) (w : World),x ∈ xs → Agg w v x b → Calls Tryz.prog f #[v] w (Gives w (.bool (p x)))) :
  Calls Tryz.prog 134 #[.slice A n c, .func (.func f) #[] #[]] w (GivesIdx w (xs.any p)) := by
 have HL := hid hx.1
 have HX := hid hx
 have HP := hid hp
 unfold Known at hf
 have hm : n ≤ maxLen := Nat.le_trans hx.2.1 hx.2.2.1
 unfold maxLen at hm
 clear hx hp
 go_enter Tryz.func134,Tryz.ntmps134
 go_wp2_with fail
 go_loopg [8] n (fun g s8 wr => ∃ k : Nat,k + g = n ∧ s8 = .int .i64 k ∧ Hid ((xs.take k).any p = false) ∧ Below w.heap.size w wr)
 case atStart => exact ⟨0,by omega,rfl,by show (xs.take 0).any p = false; simp,Below.refl _ _⟩
 case round =>
  obtain ⟨k,hk,rfl,ha,hb⟩ := hrel
  rcases Nat.lt_or_ge k n with hkn | hkn
  ·obtain ⟨be,offe,x,A1,m1,d1,s1,A2,m2,d2,s2,A4,m4,d4,s4,A5,m5,d5,s5,rfl,hble,hx1,e0,e1,e2,e3,e4,e5,hag⟩ := TPoint.elemA (Sl.below HX.out hb) hkn
   have HX1 := hid hx1
   have HAG := hid hag
   have hki : (k : Int) < n := by omega
   obtain ⟨g,rfl⟩ : ∃ g,gk = g + 1 := ⟨gk - 1,by omega⟩
   have hk' := hid (show k + 1 + g = n by omega)
   have hkj : k + 1 ≤ n := hkn
   clear hx1 hk hkn hag
   go_wp2_with fail
   refine (HP.out _ x _ wr (List.mem_of_getElem? HX1.out) HAG.out).mono ?_
   rintro _ w1 ⟨rfl,hb1⟩
   have hb2 := Below.next hb hb1
   cases hpx : p x
   ·have r1 := hid (any_step HX1.out ha.out hpx)
    clear hpx
    go_wp2_with fail
    go_roundg g
    case measure => omega
    case rel => exact ⟨k + 1,hk'.out,by go_num,r1,hb2⟩
   ·have r1 := hid (any_at HX1.out hpx)
    clear hpx
    go_wp2
    go_ret
    exact ⟨k,rfl,by rw [r1.out]; simp,hb2⟩
  ·have e := hid (show xs.any p = false by
    have := ha.out
    rwa [List.take_of_length_le (by rw [HL.out]; omega)] at this)
   have hki : ¬ ((k : Int) < n) := by omega
   clear hk hkn
   go_wp2
   go_ret
   exact ⟨-1,rfl,by rw [e.out]; rfl,hb⟩

set_option maxHeartbeats 400000 in
theorem contains_pts (f : Nat) (hf : Known f) (A : Option Addr) (n c : Nat) (xs : List TPoint) (bs : List Nat) (w : World) (p : TPoint → Bool) (hx : Sl w A n c xs bs)
  (hp : ∀ (v : Value) (x : TPoint) (b : List Nat) (w : World),x ∈ xs → Agg w v x b → Calls Tryz.prog f #[v] w (Gives w (.bool (p x)))) :
  Calls Tryz.prog 93 #[.slice A n c, .func (.func f) #[] #[]] w (Gives w (.bool (xs.any p))) := by
 have HX := hid hx
 have HP := hid hp
 have HF := hid hf
 clear hx hp hf
 go_enter Tryz.func93,Tryz.ntmps93
 go_wp2_with fail
 refine (index_pts f HF.out A n c xs bs _ p (Sl.below HX.out (by (with_reducible repeat first | exact Below.refl _ _ | (refine Below.set ?_ ?_ _; rotate_left; (simp <;> omega)) | refine Below.box_ ?_ _ | refine Below.next ?_ (by assumption)))) HP.out).mono ?_
 rintro _ w1 ⟨r,rfl,e,hb1⟩
 have E := hid e
 clear e
 go_wp2
 go_ret
 exact ⟨ret_bool E.out,hb1⟩

theorem known_IsProper_1 : Known 94 := fun a w => by kernel_rfl
def ptBad (x : TPoint) : Bool := !ptOkB x
set_option maxHeartbeats 400000 in
theorem impl_IsProper_1 (v : Value) (x : TPoint) (b : List Nat) (w : World) (hx : Agg w v x b) : Calls Tryz.prog 94 #[v] w (Gives w (.bool (ptBad x))) := by
 have HX := hid hx
 obtain ⟨A1,nA1,cA1,s1,A2,nA2,cA2,s2,A4,nA4,cA4,s4,A5,nA5,cA5,s5,rfl,rfl,hs1,hs2,hs4,hs5⟩ := TPoint.agg hx
 clear hs1 hs2 hs4 hs5 hx
 go_enter Tryz.func94,Tryz.ntmps94
 go_wp2_with fail
 refine (impl_IsValidPoint _ x _ _ (Agg.below HX.out (by (with_reducible repeat first | exact Below.refl _ _ | (refine Below.set ?_ ?_ _; rotate_left; (simp <;> omega)) | refine Below.box_ ?_ _ | refine Below.next ?_ (by assumption))))).mono ?_
 rintro _ w1 ⟨rfl,hb1⟩
 go_wp2
 go_ret
 exact ⟨rfl,by (with_reducible repeat first | exact Below.refl _ _ | (refine Below.set ?_ ?_ _; rotate_left; (simp <;> omega)) | refine Below.box_ ?_ _ | refine Below.next ?_ (by assumption))⟩

set_option maxHeartbeats 2000000 in
set_option maxRecDepth 10000 in
theorem impl_IsProper (A : Option Addr) (n c : Nat) (xs : List TPoint) (bs : List Nat) (w : World) (hx : Sl w A n c xs bs) :
  Calls Tryz.prog 42 #[.slice A n c] w (Gives w (.bool (properB xs))) := by
 have HX := hid hx
 by_cases hn : n = 3
 ·subst hn
  have hany := hid (show xs.any ptBad = !xs.all ptOkB by rw [List.not_all_eq_any_not]; rfl)
  cases hv : xs.all ptOkB
  ·have E := hid (show properB xs = false by
    match xs,hx.1 with
    | [a,b,c'], _ =>
     simp only [List.all_cons,List.all_nil,Bool.and_true] at hv
     show ((ptOkB a && (ptOkB b && ptOkB c')) && _) = false
     rw [hv]; rfl)
   have AN := hid (show xs.any ptBad = true by rw [hany.out,hv]; rfl)
   clear hv hany hx
   go_enter Tryz.func42,Tryz.ntmps42
   go_wp2_with fail
   refine wp_region_walk (by kernel_rfl) (by kernel_rfl) (by kernel_rfl) ?_
   iterate 5
    apply walkM_eq
    case h =>
     intro yq zq wq hC hd
     obtain ⟨hcq,hfq⟩ := bcell hC
     simp at hd
     refine ⟨by go_simp; done, ?_⟩
     go_simp
     first | (go_ints; exact rfl) | (go_ints; rw [if_pos (by omega)]; try exact rfl) | exact rfl | (rw [if_pos (by omega)]; try exact rfl)
   refine walkM_call (MP.eq (.bool true)) ?_ ?_
   ·intro yq zq wq hC hd
    obtain ⟨hcq,hfq⟩ := bcell hC
    simp at hd
    refine ⟨by go_simp; done, ?_⟩
    apply Exists.intro
    apply Exists.intro
    constructor
    ·go_simp
     exact ⟨rfl,rfl⟩
    ·exact gives_eq (by have C := contains_pts 94 known_IsProper_1 A 3 c xs bs wq ptBad (Sl.below HX.out hC) (fun v x b w _ h => impl_IsProper_1 v x b w h); rwa [AN.out] at C)
   iterate 3
    apply walkM_eq
    case h =>
     intro yq zq wq hC hd
     obtain ⟨hcq,hfq⟩ := bcell hC
     simp at hd
     refine ⟨by go_simp; done, ?_⟩
     go_simp
     first | (go_ints; exact rfl) | (go_ints; rw [if_pos (by omega)]; try exact rfl) | exact rfl | (rw [if_pos (by omega)]; try exact rfl)
   iterate 12
    apply walkM_skip
    case h =>
     intro yq zq wq hC hd
     simp at hd
     go_simp
     done
   iterate 2
    apply walkM_eq
    case h =>
     intro yq zq wq hC hd
     obtain ⟨hcq,hfq⟩ := bcell hC
     simp at hd
     refine ⟨by go_simp; done, ?_⟩
     go_simp
     first | (go_ints; exact rfl) | (go_ints; rw [if_pos (by omega)]; try exact rfl) | exact rfl | (rw [if_pos (by omega)]; try exact rfl)
   intro yq zq ux hC hd hdis0
   have hdis := hid hdis0
   clear hdis0
   simp at hd
   go_simp
   clear hd hdis
   go_wp2
   go_ret
   rw [E.out]
   exact ⟨rfl,hC⟩
  ·have AN := hid (show xs.any ptBad = false by rw [hany.out,hv]; rfl)
   have HV := hid hv
   clear hv hany
   have HX0 := hx
   obtain ⟨a1,b1,c1,rfl⟩ : ∃ a b c',xs = [a,b,c'] := by
    match xs,hx.1 with
    | [a,b,c'], _ => exact ⟨a,b,c',rfl⟩
   obtain ⟨be0,of0,a2,P1,nP1,cP1,p1,P2,nP2,cP2,p2,P4,nP4,cP4,p4,P5,nP5,cP5,p5,hA0,hbl0,hx0,Pe0,Pe1,Pe2,Pe3,Pe4,Pe5,hg0⟩ := TPoint.elemA HX.out (show 0 < 3 by decide)
   obtain ⟨be1,of1,b2,Q1,nQ1,cQ1,q1,Q2,nQ2,cQ2,q2,Q4,nQ4,cQ4,q4,Q5,nQ5,cQ5,q5,hA1,hbl1,hx1,Qe0,Qe1,Qe2,Qe3,Qe4,Qe5,hg1⟩ := TPoint.elemA HX.out (show 1 < 3 by decide)
   obtain ⟨be2,of2,c2,R1,nR1,cR1,r1,R2,nR2,cR2,r2,R4,nR4,cR4,r4,R5,nR5,cR5,r5,hA2,hbl2,hx2,Re0,Re1,Re2,Re3,Re4,Re5,hg2⟩ := TPoint.elemA HX.out (show 2 < 3 by decide)
   subst hA0
   injection hA1 with hA1; injection hA1 with h1 h2 _; subst h1; subst h2
   injection hA2 with hA2; injection hA2 with h1 h2 _; subst h1; subst h2
   simp at hx0 hx1 hx2
   subst hx0; subst hx1; subst hx2
   simp at Pe0 Pe1 Pe2 Pe3 Pe4 Pe5 Qe0 Qe1 Qe2 Qe3 Qe4 Qe5 Re0 Re1 Re2 Re3 Re4 Re5
   have HA := hid hg0; have HB := hid hg1; have HC := hid hg2
   clear hbl1 hbl2 hg0 hg1 hg2 hx HX0
   have E := hid (show decide (0 < rsign (darea a1 b1 c1)) = properB [a1,b1,c1] by
    have h := HV.out
    simp only [List.all_cons,List.all_nil,Bool.and_true] at h
    show _ = ((ptOkB a1 && (ptOkB b1 && ptOkB c1)) && _)
    rw [h]; rfl)
   clear HV
   go_enter Tryz.func42,Tryz.ntmps42
   go_wp2_with fail
   refine wp_region_walk (by kernel_rfl) (by kernel_rfl) (by kernel_rfl) ?_
   iterate 5
    apply walkM_eq
    case h =>
     intro yq zq wq hC hd
     obtain ⟨hcq,hfq⟩ := bcell hC
     simp at hd
     refine ⟨by go_simp; done, ?_⟩
     go_simp
     first | (go_ints; exact rfl) | (go_ints; rw [if_pos (by omega)]; try exact rfl) | exact rfl | (rw [if_pos (by omega)]; try exact rfl)
   refine walkM_call (MP.eq (.bool false)) ?_ ?_
   ·intro yq zq wq hC hd
    obtain ⟨hcq,hfq⟩ := bcell hC
    simp at hd
    refine ⟨by go_simp; done, ?_⟩
    apply Exists.intro
    apply Exists.intro
    constructor
    ·go_simp
     exact ⟨rfl,rfl⟩
    ·exact gives_eq (by have C := contains_pts 94 known_IsProper_1 _ 3 c [a1,b1,c1] bs wq ptBad (Sl.below HX.out hC) (fun v x b w _ h => impl_IsProper_1 v x b w h); rwa [AN.out] at C)
   iterate 3
    apply walkM_eq
    case h =>
     intro yq zq wq hC hd
     obtain ⟨hcq,hfq⟩ := bcell hC
     simp at hd
     refine ⟨by go_simp; done, ?_⟩
     go_simp
     first | (go_ints; exact rfl) | (go_ints; rw [if_pos (by omega)]; try exact rfl) | exact rfl | (rw [if_pos (by omega)]; try exact rfl)
   iterate 9
    apply walkM_eq
    case h =>
     intro yq zq wq hC hd
     obtain ⟨hcq,hfq⟩ := bcell hC
     simp at hd
     refine ⟨by go_simp; done, ?_⟩
     go_simp
     first | (go_ints; exact rfl) | (go_ints; rw [if_pos (by omega)]; try exact rfl) | exact rfl | (rw [if_pos (by omega)]; try exact rfl)
   refine walkM_call (MP.agg (darea a1 b1 c1)) ?_ ?_
   ·intro yq zq wq hC hd
    obtain ⟨hcq,hfq⟩ := bcell hC
    simp at hd
    refine ⟨by go_simp; done, ?_⟩
    apply Exists.intro
    apply Exists.intro
    constructor
    ·go_simp
     exact ⟨rfl,rfl⟩
    ·exact gives_agg (impl_DoubleArea _ _ _ a1 b1 c1 _ _ _ wq (HA.out.below hC) (HB.out.below hC) (HC.out.below hC))
   refine walkM_call (MP.eq (.int .i64 (rsign (darea a1 b1 c1)))) ?_ ?_
   ·intro yq zq wq hC hd
    obtain ⟨hcq,hfq⟩ := bcell hC
    simp at hd
    refine ⟨by go_simp; done, ?_⟩
    apply Exists.intro
    apply Exists.intro
    constructor
    ·go_simp
     exact ⟨rfl,rfl⟩
    ·exact gives_eq (impl_RatSign _ (darea a1 b1 c1) _ wq hd.1.1)
   iterate 3
    apply walkM_eq
    case h =>
     intro yq zq wq hC hd
     obtain ⟨hcq,hfq⟩ := bcell hC
     simp at hd
     refine ⟨by go_simp; done, ?_⟩
     go_simp
     first | (go_ints; exact rfl) | (go_ints; rw [if_pos (by omega)]; try exact rfl) | exact rfl | (rw [if_pos (by omega)]; try exact rfl)
   intro yq zq ux hC hd hdis0
   have hdis := hid hdis0
   clear hdis0
   simp at hd
   go_simp
   clear hd hdis
   go_wp2
   go_ret
   exact ⟨ret_bool E.out,hC⟩
 ·have E := hid (show properB xs = false by
   have hl := hx.1
   match xs with
   | [] => rfl
   | [_] => rfl
   | [_, _] => rfl
   | [_, _, _] => exact absurd hl.symm hn
   | _ :: _ :: _ :: _ :: _ => rfl)
  have hni : ¬ ((n : Int) = 3) := by omega
  have hnb : ((n : Int) == 3) = false := by simp; omega
  clear hx
  go_enter Tryz.func42,Tryz.ntmps42
  go_wp2_with fail
  refine wp_region_walk (by kernel_rfl) (by kernel_rfl) (by kernel_rfl) ?_
  iterate 4
   apply walkM_eq
   case h =>
    intro yq zq wq hC hd
    obtain ⟨hcq,hfq⟩ := bcell hC
    simp at hd
    refine ⟨by go_simp; done, ?_⟩
    go_simp
    first | (go_ints; exact rfl) | (go_ints; rw [if_pos (by omega)]; try exact rfl) | exact rfl | (rw [if_pos (by omega)]; try exact rfl)
  iterate 3
   apply walkM_skip
   case h =>
    intro yq zq wq hC hd
    simp at hd
    go_simp
    done
  iterate 2
   apply walkM_eq
   case h =>
    intro yq zq wq hC hd
    obtain ⟨hcq,hfq⟩ := bcell hC
    simp at hd
    refine ⟨by go_simp; done, ?_⟩
    go_simp
    first | (go_ints; exact rfl) | (go_ints; rw [if_pos (by omega)]; try exact rfl) | exact rfl | (rw [if_pos (by omega)]; try exact rfl)
  iterate 12
   apply walkM_skip
   case h =>
    intro yq zq wq hC hd
    simp at hd
    go_simp
    done
  iterate 2
   apply walkM_eq
   case h =>
    intro yq zq wq hC hd
    obtain ⟨hcq,hfq⟩ := bcell hC
    simp at hd
    refine ⟨by go_simp; done, ?_⟩
    go_simp
    first | (go_ints; exact rfl) | (go_ints; rw [if_pos (by omega)]; try exact rfl) | exact rfl | (rw [if_pos (by omega)]; try exact rfl)
  intro yq zq ux hC hd hdis0
  have hdis := hid hdis0
  clear hdis0
  simp at hd
  go_simp
  clear hd hdis
  go_wp2
  go_ret
  rw [E.out]
  exact ⟨rfl,hC⟩
end Go.Proofs.YtpfipnankjeokaaGreat.X

/- An append whose new row is the old block or a new one. -/
namespace Go
section
variable {P : Program} (w : World)
theorem run_push (base : Nat) (t ty e : TypeId) (i : TypeInfo) (z : Value) (size bytes : Nat) (ht : P.underlying t = some (.slice e)) (hi : P.info? e = some i) (hz : i.zero = some z)
  (hsize : i.size = size) (hby : i.bytes = bytes) (hzs : z.cells.size = size) (hsz : 0 < size)
  (g n cap : Nat) (xs : List Value) (hown : w.ownsRow base e size (.slice (some ⟨g,0,none⟩) n cap) n xs)
  (a : Addr) (m c : Nat) (news : List Value) (hl : news.length = m * size) (hnews : ∀ j u,news[j]? = some u → w.cell? (a.add j) = some u) (h1 : ∀ u ∈ news,u.oneCell' = true)
  (h63 : n + m ≤ maxLen) (hbytes : (n + m) * bytes ≤ 140737488355328) (hbase : base ≤ w.heap.size) :
  ∃ g' cap' w',(Builtin.append_ #[t,t] ty #[.slice (some ⟨g,0,none⟩) n cap, .slice (some a) m c]).run P w = .ok (.slice (some ⟨g',0,none⟩) (n + m) cap') w' ∧ w'.ownsRow base e size (.slice (some ⟨g',0,none⟩) (n + m) cap') (n + m) (xs ++ news) ∧ w.grownBy w' (some g) ∧ (g' = g ∨ g' = w.heap.size) := by
 obtain ⟨v',w',hr,h2,h3, _⟩ := run_append_own (P := P) w base t ty e i z size bytes ht hi hz hsize hby hzs hsz _ n xs hown a m c news hl hnews h1 h63 hbytes hbase
 by_cases hroom : n + m ≤ cap
 ·rcases hown.2 with ⟨h, _⟩ | ⟨g0,cap0,cur,hv,hb,hg,hnc,hcm,hcs,htake⟩
  ·cases h
  ·cases hv
   have hfit : n * i.size + news.length ≤ cur.size := by rw [hsize,hl,hcs, ← Nat.add_mul]; exact Nat.mul_le_mul_right _ hroom
   have hr2 := run_append_room (P := P) w t ty e i ht hi g n cap cur hg a m c news (by rw [hsize]; exact hl) hnews h1 hroom hfit
   rw [hr] at hr2
   cases hr2
   exact ⟨_, _, _,hr,h2,h3, .inl rfl⟩
 ·have holds : ∀ j u,xs[j]? = some u → w.cell? ((⟨g,0,none⟩ : Addr).add j) = some u := hown.cells (g := g) rfl
  have hr2 := run_append_grow (P := P) w t ty e i z ht hi hz ⟨g,0,none⟩ n cap xs (by rw [hsize]; exact hown.1) holds a m c news (by rw [hsize]; exact hl) hnews (by omega) (by unfold maxLen at h63; omega) (growslice_fits (by omega) (by rw [hby]; exact hbytes))
  rw [hr] at hr2
  cases hr2
  exact ⟨_, _, _,hr,h2,h3, .inr rfl⟩

theorem wpList_push {w : World} {ops : Array Oper} {rest : List Oper} {o : Oper} {a : Act} {Q : Exit → Act → World → Prop} (hgd : o.guard = none) (s x : Operand) (t : TypeId)
  (ho : o.op = .call { callee := .builtin .append,args := #[s,x],argTypes := #[t,t] })
  (base : Nat) (e : TypeId) (i : TypeInfo) (z : Value) (size bytes : Nat) (ht : P.underlying t = some (.slice e)) (hi : P.info? e = some i) (hz : i.zero = some z)
  (hsize : i.size = size) (hby : i.bytes = bytes) (hzs : z.cells.size = size) (hsz : 0 < size)
  (g n cap : Nat) (xs : List Value) (hs : a.eval s = .slice (some ⟨g,0,none⟩) n cap) (hown : w.ownsRow base e size (.slice (some ⟨g,0,none⟩) n cap) n xs)
  (ad : Addr) (m c : Nat) (news : List Value) (hx : a.eval x = .slice (some ad) m c) (hl : news.length = m * size) (hnews : ∀ j u,news[j]? = some u → w.cell? (ad.add j) = some u) (h1 : ∀ u ∈ news,u.oneCell' = true)
  (h63 : n + m ≤ maxLen) (hbytes : (n + m) * bytes ≤ 140737488355328) (hbase : base ≤ w.heap.size)
  (h : ∀ g' cap' w',w'.ownsRow base e size (.slice (some ⟨g',0,none⟩) (n + m) cap') (n + m) (xs ++ news) → w.grownBy w' (some g) → (g' = g ∨ g' = w.heap.size) → wpList P ops Q rest (a.put o.dst (.slice (some ⟨g',0,none⟩) (n + m) cap')) w') : wpList P ops Q (o :: rest) a w := by
 refine wpList_plain hgd fun _ hK => ?_
 obtain ⟨g',cap',w',hr,h2,h3,h4⟩ := run_push (P := P) w base t o.type e i z size bytes ht hi hz hsize hby hzs hsz g n cap xs hown ad m c news hl hnews h1 h63 hbytes hbase
 unfold Oper.wp execOp
 simp only [ho,resolve,invoke,builtin,Sem.run_bind,Sem.run_pure,Result.andThen_ok,List.map_toArray,List.map_cons,List.map_nil,hs,hx,hr]
 exact hK _ _ (h g' cap' w' h2 h3 h4)
end
end Go

/- midPoints of the program. -/
namespace Go.XB
open Go.RowKit
def MP.slbox (cs : Array Value) (t : TypeId) : MP := ⟨fun v bs w => ∃ g,v = .slice (some ⟨g,0,none⟩) 1 1 ∧ bs = [g] ∧ w.heap[g]? = some (.cells cs t),fun v bs w w' hb h => by
 obtain ⟨g,e,hz,hg⟩ := h; exact ⟨g,e,hz,(hb.block g (lt_of_get hg)).trans hg⟩⟩
section
variable {P : Program} {l : List Oper} {a0 : Act}
theorem walkM_runD {w0 : World} {F : List DP → Prop} {o : Oper} {os : List Oper} {acc : List DP} (m : DP) (hcg : Cong m (deps o))
  (h : ∀ (y : Nat → Value) (z : Nat → List Nat) (w : World),Below w0.heap.size w0 w → (∀ k ∈ deps o,(acc.getD k (fun _ => MP.eq undef) y).p (y k) (z k) w) →
   Region.wanted o (yielded l.toArray (fillBy l y a0 (deps o)).tmps) = true ∧ ∃ v w',(execOp (fillBy l y a0 (deps o)).eval o).run P w = .ok (.value v) w' ∧ Below w.heap.size w w' ∧ ∃ bs,(m y).p v bs w' ∧ ∀ b ∈ bs,w.heap.size ≤ b ∧ b < w'.heap.size)
  (hr : walkM P l w0 a0 F os (acc ++ [m])) : walkM P l w0 a0 F (o :: os) acc := by
 refine ⟨m,hcg,fun y z w hC hd => ?_,hr⟩
 obtain ⟨h1,v,w',h2,h3⟩ := h y z w hC hd
 rw [if_pos h1]
 unfold gives
 rw [h2]
 exact h3
end
theorem block_cells {w : World} {g : Nat} {arr : Array Value} {t : TypeId} (h : w.heap[g]? = some (.cells arr t)) : ∀ j u,arr.toList[j]? = some u → w.cell? ((⟨g,0,none⟩ : Addr).add j) = some u := by
 intro j u hu
 have e : (⟨g,0,none⟩ : Addr).add j = ⟨g,j,none⟩ := by unfold Addr.add; split <;> simp_all
 rw [e]
 exact (box_cell h (by simpa using hu)).1
end Go.XB
namespace Go.Proofs.YtpfipnankjeokaaGreat.X
open Go.RowKit Go.XB Go.XN
attribute [local go_sem] fillBy opAt deps depOf Region.wanted yielded
attribute [local simp] deps depOf MP.eq MP.agg MP.sl Facts
set_option linter.constructorNameAsVariable false

theorem infoPt : (Tryz.prog.info? 34).map (fun i => (i.zero,i.size,i.bytes)) = some (some (.agg #[.bool false, .slice none 0 0, .slice none 0 0, .bool false, .slice none 0 0, .slice none 0 0]),6,112) := by kernel_rfl
theorem push_own {w wr wa w8 : World} {gB g' k : Nat} {cells cs : List Value} {fss : List (List Nat)} {ps : List TPoint} {pt : TPoint} {z : List Nat} (hfil : Filled wr cells ps fss) (hlen : ps.length = k) (hcl : cells.length = k * 6) (how : Own w wr fss.flatten) (hnot : gB ∉ fss.flatten) (hb : Below w.heap.size w wr) (hgB : gB < wr.heap.size) (hbase : w.heap.size ≤ gB)
  (hC : Below wr.heap.size wr wa) (ha : Dat.at_ wa cs pt z) (hf : Free wa z) (hr : ∀ b ∈ z,wr.heap.size ≤ b) (hg : wa.grownBy w8 (some gB)) (hor : g' = gB ∨ g' = wa.heap.size) :
  Filled w8 (cells ++ cs) (ps ++ [pt]) (fss ++ [z]) ∧ Own w w8 (fss ++ [z]).flatten ∧ g' ∉ (fss ++ [z]).flatten ∧ Below w.heap.size w w8 ∧ (ps ++ [pt]).length = k + 1 := by
 have hsz := hC.size
 have hzl : ∀ b ∈ z,b < wa.heap.size := Dat.lt ha
 have hfl : ∀ b ∈ fss.flatten,b < wr.heap.size := how.lt
 have k1 : ∀ b ∈ fss.flatten,w8.heap[b]? = wr.heap[b]? := fun b hb1 => (hg.block b (by have := hfl b hb1; omega) (by intro e; injection e with e; exact hnot (e ▸ hb1))).trans (hC.block b (hfl b hb1))
 have k2 : ∀ b ∈ z,w8.heap[b]? = wa.heap[b]? := fun b hb1 => hg.block b (hzl b hb1) (by intro e; injection e with e; have := hr b hb1; omega)
 have hz : (fss ++ [z]).flatten = fss.flatten ++ z := by simp
 refine ⟨Filled.push (hfil.keep k1) (by rw [hcl,hlen]; rfl) (Dat.keep ha k2), ?_, ?_, ?_,by simp [hlen]⟩
 ·rw [hz]
  refine Own.append ⟨how.1,fun b hb1 => ⟨(how.2 b hb1).1,by obtain ⟨cs,t,e⟩ := (how.2 b hb1).2; exact ⟨cs,t,(k1 b hb1).trans e⟩⟩⟩ ⟨hf.1,fun b hb1 => ⟨by have := hr b hb1; have := hb.size; omega,by obtain ⟨cs,t,e⟩ := hf.2 b hb1; exact ⟨cs,t,(k2 b hb1).trans e⟩⟩⟩ ?_
  exact apart_of_lt hfl hr
 ·rw [hz]
  intro h
  rcases List.mem_append.1 h with h | h
  ·rcases hor with h2 | h2
   ·exact hnot (h2 ▸ h)
   ·have := hfl _ h; omega
  ·rcases hor with h2 | h2
   ·have := hr _ h; omega
   ·have := hzl _ h; omega
 ·exact (Below.next hb hC).grown hg (by have := hb.size; omega) (fun k2 hk2 => by injection hk2 with h; subst h; exact hbase)
theorem push_done {w wr : World} {gB k cap : Nat} {cells : List Value} {fss : List (List Nat)} {ps : List TPoint} (hown : wr.ownsRow w.heap.size 34 6 (.slice (some ⟨gB,0,none⟩) k cap) k cells) (hfil : Filled wr cells ps fss) (hlen : ps.length = k) (how : Own w wr fss.flatten) (hnot : gB ∉ fss.flatten) (hb : Below w.heap.size w wr) : GivesSl w ps (.returned (.slice (some ⟨gB,0,none⟩) k cap)) wr := by
 obtain ⟨A',c',bs',hv,hs,ho⟩ := hfil.sl (α := TPoint) hown hlen
 refine ⟨A',k,c',bs',by rw [← hv],hs,own_of_row (n := k) (fss := fss) ?_ how,hb⟩
 rcases ho with ho | ⟨g,h1,h2,h3,h4⟩
 ·exact .inl ho
 ·refine .inr ⟨g,h2,h3,h4,fun hg => ?_⟩
  have e : gB = g := by simpa [Value.ownBlock] using h1
  exact hnot (e ▸ hg)

set_option maxHeartbeats 4000000 in
set_option maxRecDepth 10000 in
theorem impl_midPoints (A : Option Addr) (c : Nat) (a1 b1 c1 : TPoint) (bs : List Nat) (w : World) (hx : Sl w A 3 c [a1,b1,c1] bs) :
  Calls Tryz.prog 61 #[.slice A 3 c] w (GivesSl w [pmid b1 c1,pmid c1 a1,pmid a1 b1]) := by
 have HX := hid hx
 obtain ⟨i0,hi,hz0,hz1,hz2⟩ := info_parts infoPt
 obtain ⟨be0,of0,a2,P1,nP1,cP1,p1,P2,nP2,cP2,p2,P4,nP4,cP4,p4,P5,nP5,cP5,p5,hA0,hbl0,hx0,Pe0,Pe1,Pe2,Pe3,Pe4,Pe5,hg0⟩ := TPoint.elemA HX.out (show 0 < 3 by decide)
 obtain ⟨be1,of1,b2,Q1,nQ1,cQ1,q1,Q2,nQ2,cQ2,q2,Q4,nQ4,cQ4,q4,Q5,nQ5,cQ5,q5,hA1,hbl1,hx1,Qe0,Qe1,Qe2,Qe3,Qe4,Qe5,hg1⟩ := TPoint.elemA HX.out (show 1 < 3 by decide)
 obtain ⟨be2,of2,c2,R1,nR1,cR1,r1,R2,nR2,cR2,r2,R4,nR4,cR4,r4,R5,nR5,cR5,r5,hA2,hbl2,hx2,Re0,Re1,Re2,Re3,Re4,Re5,hg2⟩ := TPoint.elemA HX.out (show 2 < 3 by decide)
 subst hA0
 injection hA1 with hA1; injection hA1 with h1 h2 _; subst h1; subst h2
 injection hA2 with hA2; injection hA2 with h1 h2 _; subst h1; subst h2
 simp at hx0 hx1 hx2
 subst hx0; subst hx1; subst hx2
 simp at Pe0 Pe1 Pe2 Pe3 Pe4 Pe5 Qe0 Qe1 Qe2 Qe3 Qe4 Qe5 Re0 Re1 Re2 Re3 Re4 Re5
 have HA := hid hg0; have HB := hid hg1; have HC := hid hg2
 clear hbl1 hbl2 hg0 hg1 hg2 hx
 go_enter Tryz.func61,Tryz.ntmps61
 go_wp2_with fail
 go_loopg [3,8] 3 (fun g v s wr => ∃ (k gB cap : Nat) (cells : List Value) (fss : List (List Nat)),k + g = 3 ∧ s = .int .i64 k ∧ v = .slice (some ⟨gB,0,none⟩) k cap ∧ Hid (wr.ownsRow w.heap.size 34 6 (.slice (some ⟨gB,0,none⟩) k cap) k cells) ∧ Hid (Filled wr cells ([pmid b1 c1,pmid c1 a1,pmid a1 b1].take k) fss) ∧ Hid (([pmid b1 c1,pmid c1 a1,pmid a1 b1].take k).length = k) ∧ Hid (Own w wr fss.flatten) ∧ Hid (gB ∉ fss.flatten) ∧ Hid (w.heap.size ≤ gB) ∧ Below w.heap.size w wr)
 case atStart => exact ⟨0,w.heap.size,0, [], [],rfl,rfl,rfl,World.ownsRow_made w #[] 0 (Nat.le_refl _) (Nat.zero_le _) rfl,Filled.nil _ _,rfl,Own.nil _ _,(show w.heap.size ∉ ([] : List (List Nat)).flatten by simp),Nat.le_refl _,Below.box _⟩
 case round =>
  obtain ⟨k,gB,cap,cells,fss,hk,rfl,rfl,hown,hfil,hlen,how,hnot,hbase,hb⟩ := hrel
  obtain rfl | rfl | rfl | rfl : k = 0 ∨ k = 1 ∨ k = 2 ∨ k = 3 := by omega
  ·obtain rfl : gk = 2 + 1 := by omega
   have hrowlt := (World.ownsRow.lt hown.out _ rfl).2
   have C3 := hid (show 0 + 1 ≤ maxLen by decide)
   have C4 := hid (show (0 + 1) * 112 ≤ 140737488355328 by decide)
   have hbr : be0 < wr.heap.size := by have := hb.size; omega
   obtain ⟨hc_wr,hf_wr⟩ := bcell hb
   have HB0 := hid hb
   clear hk hb
   go_wp2_with fail
   refine wp_region_line 15 (by kernel_rfl) (by kernel_rfl) (by kernel_rfl) (by kernel_rfl) (by kernel_rfl) ?_
   simp only [List.take_succ_cons,List.take_zero,List.drop_succ_cons,List.drop_zero]
   iterate 13
    apply walkM_eq
    case h =>
     intro yq zq wq hC hd
     obtain ⟨hcq,hfq⟩ := bcell hC
     simp at hd
     refine ⟨by go_simp; done, ?_⟩
     go_simp
     first | (go_ints; exact rfl) | (go_ints; rw [if_pos (by omega)]; try exact rfl) | exact rfl | (rw [if_pos (by omega)]; try exact rfl)
   refine walkM_call (MP.agg (pmid b1 c1)) ?_ ?_
   ·intro yq zq wq hC hd
    obtain ⟨hcq,hfq⟩ := bcell hC
    simp at hd
    refine ⟨by go_simp; done, ?_⟩
    apply Exists.intro
    apply Exists.intro
    constructor
    ·go_simp
     exact ⟨rfl,rfl⟩
    ·exact gives_agg (impl_Middle _ _ b1 c1 _ _ wq ((HB.out.below HB0.out).below hC) ((HC.out.below HB0.out).below hC))
   refine walkM_runD (fun y' => MP.slbox (y' 13).cells 34) (by intro y y' h; simp [deps,depOf] at h; simp [h]) ?_ ?_
   ·intro yq zq wq hC hd
    simp at hd
    obtain ⟨D1,nD1,cD1,d1,D2,nD2,cD2,d2,D4,nD4,cD4,d4,D5,nD5,cD5,d5,e13, _, _, _, _, _⟩ := TPoint.agg hd.1
    refine ⟨by go_simp; done, .slice (some ⟨wq.heap.size,0,none⟩) 1 1,wq.alloc (.cells (yq 13).cells 34), ?_,Below.box _, [wq.heap.size],⟨wq.heap.size,rfl,rfl,heap_alloc_new wq _⟩,by simp⟩
    rw [e13]
    go_simp
   intro yq zq wa hC hd hdis0
   have hdis := hid hdis0
   clear hdis0
   simp at hd
   have q0 := hd.1
   have q13 := hd.2.2.2.2.2.2.2.2.2.2.2.2.2.1
   have q14 := hd.2.2.2.2.2.2.2.2.2.2.2.2.2.2
   obtain ⟨⟨ha,hf⟩,hr⟩ := q13
   obtain ⟨D1,nD1,cD1,d1,D2,nD2,cD2,d2,D4,nD4,cD4,d4,D5,nD5,cD5,d5,e13,z13,k1,k2,k4,k5⟩ := TPoint.agg ha
   obtain ⟨⟨gn,e14,z14,hgn⟩,hr14⟩ := q14
   rw [e13] at hgn
   have AT := hid (show Dat.at_ wa [.bool (pmid b1 c1).x.num.neg, .slice D1 nD1 cD1, .slice D2 nD2 cD2, .bool (pmid b1 c1).y.num.neg, .slice D4 nD4 cD4, .slice D5 nD5 cD5] (pmid b1 c1) (zq 13) by rw [z13]; exact TPoint.shut k1 k2 k4 k5)
   have HF := hid hf; have HR := hid (show ∀ b ∈ zq 13,wr.heap.size ≤ b from fun b hb => (hr b hb).1)
   have HGN := hid hgn
   have e0 : yq 0 = .slice (some ⟨gB,0,none⟩) 0 cap := q0.1.1
   have hownA := ownsRow_below hown.out hC
   have HCC := hid hC
   have WL := hid (show w.heap.size ≤ wa.heap.size by have := HB0.out.size; have := hC.size; omega)
   clear hd hdis ha hf hr z13 k1 k2 k4 k5 hgn hr14 z14 q0
   go_wp2_with (at_builtin; refine wpList_push rfl _ _ 23 rfl w.heap.size 34 i0 (.agg #[.bool false, .slice none 0 0, .slice none 0 0, .bool false, .slice none 0 0, .slice none 0 0]) 6 112 Tryz.underlying23 hi hz0 hz1 hz2 rfl (by decide) gB 0 cap cells (by go_simp; done) hownA ⟨gn,0,none⟩ 1 1 [.bool (pmid b1 c1).x.num.neg, .slice D1 nD1 cD1, .slice D2 nD2 cD2, .bool (pmid b1 c1).y.num.neg, .slice D4 nD4 cD4, .slice D5 nD5 cD5] (by go_simp; done) rfl (block_cells HGN.out) (Dat.one AT.out) C3.out C4.out WL.out ?_; intro g' cap' w8 hown' hgrow' hor')
   have P := hid (push_own hfil.out hlen.out (by have := hown.out.1; omega) how.out hnot.out HB0.out hrowlt hbase.out HCC.out AT.out HF.out HR.out hgrow' hor')
   have OW := hid hown'
   have BA := hid (show w.heap.size ≤ g' from by have := (World.ownsRow.lt hown' _ rfl).1; exact this)
   clear hown' hgrow' hor' hownA
   generalize (cells ++ [.bool (pmid b1 c1).x.num.neg, .slice D1 nD1 cD1, .slice D2 nD2 cD2, .bool (pmid b1 c1).y.num.neg, .slice D4 nD4 cD4, .slice D5 nD5 cD5] : List Value) = cells2 at OW P
   go_wp2_with fail
   go_roundg 2
   case measure => omega
   case rel => exact ⟨0 + 1,g',cap',cells2,(fss ++ [zq 13] : List (List Nat)),rfl,by go_num,rfl,OW.out,(show Filled w8 _ ([pmid b1 c1,pmid c1 a1,pmid a1 b1].take (0 + 1)) _ from P.out.1),rfl,P.out.2.1,P.out.2.2.1,BA.out,P.out.2.2.2.1⟩
  ·obtain rfl : gk = 1 + 1 := by omega
   have hrowlt := (World.ownsRow.lt hown.out _ rfl).2
   have C3 := hid (show 1 + 1 ≤ maxLen by decide)
   have C4 := hid (show (1 + 1) * 112 ≤ 140737488355328 by decide)
   have hbr : be0 < wr.heap.size := by have := hb.size; omega
   obtain ⟨hc_wr,hf_wr⟩ := bcell hb
   have HB0 := hid hb
   clear hk hb
   go_wp2_with fail
   refine wp_region_line 15 (by kernel_rfl) (by kernel_rfl) (by kernel_rfl) (by kernel_rfl) (by kernel_rfl) ?_
   simp only [List.take_succ_cons,List.take_zero,List.drop_succ_cons,List.drop_zero]
   iterate 13
    apply walkM_eq
    case h =>
     intro yq zq wq hC hd
     obtain ⟨hcq,hfq⟩ := bcell hC
     simp at hd
     refine ⟨by go_simp; done, ?_⟩
     go_simp
     first | (go_ints; exact rfl) | (go_ints; rw [if_pos (by omega)]; try exact rfl) | exact rfl | (rw [if_pos (by omega)]; try exact rfl)
   refine walkM_call (MP.agg (pmid c1 a1)) ?_ ?_
   ·intro yq zq wq hC hd
    obtain ⟨hcq,hfq⟩ := bcell hC
    simp at hd
    refine ⟨by go_simp; done, ?_⟩
    apply Exists.intro
    apply Exists.intro
    constructor
    ·go_simp
     exact ⟨rfl,rfl⟩
    ·exact gives_agg (impl_Middle _ _ c1 a1 _ _ wq ((HC.out.below HB0.out).below hC) ((HA.out.below HB0.out).below hC))
   refine walkM_runD (fun y' => MP.slbox (y' 13).cells 34) (by intro y y' h; simp [deps,depOf] at h; simp [h]) ?_ ?_
   ·intro yq zq wq hC hd
    simp at hd
    obtain ⟨D1,nD1,cD1,d1,D2,nD2,cD2,d2,D4,nD4,cD4,d4,D5,nD5,cD5,d5,e13, _, _, _, _, _⟩ := TPoint.agg hd.1
    refine ⟨by go_simp; done, .slice (some ⟨wq.heap.size,0,none⟩) 1 1,wq.alloc (.cells (yq 13).cells 34), ?_,Below.box _, [wq.heap.size],⟨wq.heap.size,rfl,rfl,heap_alloc_new wq _⟩,by simp⟩
    rw [e13]
    go_simp
   intro yq zq wa hC hd hdis0
   have hdis := hid hdis0
   clear hdis0
   simp at hd
   have q0 := hd.1
   have q13 := hd.2.2.2.2.2.2.2.2.2.2.2.2.2.1
   have q14 := hd.2.2.2.2.2.2.2.2.2.2.2.2.2.2
   obtain ⟨⟨ha,hf⟩,hr⟩ := q13
   obtain ⟨D1,nD1,cD1,d1,D2,nD2,cD2,d2,D4,nD4,cD4,d4,D5,nD5,cD5,d5,e13,z13,k1,k2,k4,k5⟩ := TPoint.agg ha
   obtain ⟨⟨gn,e14,z14,hgn⟩,hr14⟩ := q14
   rw [e13] at hgn
   have AT := hid (show Dat.at_ wa [.bool (pmid c1 a1).x.num.neg, .slice D1 nD1 cD1, .slice D2 nD2 cD2, .bool (pmid c1 a1).y.num.neg, .slice D4 nD4 cD4, .slice D5 nD5 cD5] (pmid c1 a1) (zq 13) by rw [z13]; exact TPoint.shut k1 k2 k4 k5)
   have HF := hid hf; have HR := hid (show ∀ b ∈ zq 13,wr.heap.size ≤ b from fun b hb => (hr b hb).1)
   have HGN := hid hgn
   have e0 : yq 0 = .slice (some ⟨gB,0,none⟩) 1 cap := q0.1.1
   have hownA := ownsRow_below hown.out hC
   have HCC := hid hC
   have WL := hid (show w.heap.size ≤ wa.heap.size by have := HB0.out.size; have := hC.size; omega)
   clear hd hdis ha hf hr z13 k1 k2 k4 k5 hgn hr14 z14 q0
   go_wp2_with (at_builtin; refine wpList_push rfl _ _ 23 rfl w.heap.size 34 i0 (.agg #[.bool false, .slice none 0 0, .slice none 0 0, .bool false, .slice none 0 0, .slice none 0 0]) 6 112 Tryz.underlying23 hi hz0 hz1 hz2 rfl (by decide) gB 1 cap cells (by go_simp; done) hownA ⟨gn,0,none⟩ 1 1 [.bool (pmid c1 a1).x.num.neg, .slice D1 nD1 cD1, .slice D2 nD2 cD2, .bool (pmid c1 a1).y.num.neg, .slice D4 nD4 cD4, .slice D5 nD5 cD5] (by go_simp; done) rfl (block_cells HGN.out) (Dat.one AT.out) C3.out C4.out WL.out ?_; intro g' cap' w8 hown' hgrow' hor')
   have P := hid (push_own hfil.out hlen.out (by have := hown.out.1; omega) how.out hnot.out HB0.out hrowlt hbase.out HCC.out AT.out HF.out HR.out hgrow' hor')
   have OW := hid hown'
   have BA := hid (show w.heap.size ≤ g' from by have := (World.ownsRow.lt hown' _ rfl).1; exact this)
   clear hown' hgrow' hor' hownA
   generalize (cells ++ [.bool (pmid c1 a1).x.num.neg, .slice D1 nD1 cD1, .slice D2 nD2 cD2, .bool (pmid c1 a1).y.num.neg, .slice D4 nD4 cD4, .slice D5 nD5 cD5] : List Value) = cells2 at OW P
   go_wp2_with fail
   go_roundg 1
   case measure => omega
   case rel => exact ⟨1 + 1,g',cap',cells2,(fss ++ [zq 13] : List (List Nat)),rfl,by go_num,rfl,OW.out,(show Filled w8 _ ([pmid b1 c1,pmid c1 a1,pmid a1 b1].take (1 + 1)) _ from P.out.1),rfl,P.out.2.1,P.out.2.2.1,BA.out,P.out.2.2.2.1⟩
  ·obtain rfl : gk = 0 + 1 := by omega
   have hrowlt := (World.ownsRow.lt hown.out _ rfl).2
   have C3 := hid (show 2 + 1 ≤ maxLen by decide)
   have C4 := hid (show (2 + 1) * 112 ≤ 140737488355328 by decide)
   have hbr : be0 < wr.heap.size := by have := hb.size; omega
   obtain ⟨hc_wr,hf_wr⟩ := bcell hb
   have HB0 := hid hb
   clear hk hb
   go_wp2_with fail
   refine wp_region_line 15 (by kernel_rfl) (by kernel_rfl) (by kernel_rfl) (by kernel_rfl) (by kernel_rfl) ?_
   simp only [List.take_succ_cons,List.take_zero,List.drop_succ_cons,List.drop_zero]
   iterate 13
    apply walkM_eq
    case h =>
     intro yq zq wq hC hd
     obtain ⟨hcq,hfq⟩ := bcell hC
     simp at hd
     refine ⟨by go_simp; done, ?_⟩
     go_simp
     first | (go_ints; exact rfl) | (go_ints; rw [if_pos (by omega)]; try exact rfl) | exact rfl | (rw [if_pos (by omega)]; try exact rfl)
   refine walkM_call (MP.agg (pmid a1 b1)) ?_ ?_
   ·intro yq zq wq hC hd
    obtain ⟨hcq,hfq⟩ := bcell hC
    simp at hd
    refine ⟨by go_simp; done, ?_⟩
    apply Exists.intro
    apply Exists.intro
    constructor
    ·go_simp
     exact ⟨rfl,rfl⟩
    ·exact gives_agg (impl_Middle _ _ a1 b1 _ _ wq ((HA.out.below HB0.out).below hC) ((HB.out.below HB0.out).below hC))
   refine walkM_runD (fun y' => MP.slbox (y' 13).cells 34) (by intro y y' h; simp [deps,depOf] at h; simp [h]) ?_ ?_
   ·intro yq zq wq hC hd
    simp at hd
    obtain ⟨D1,nD1,cD1,d1,D2,nD2,cD2,d2,D4,nD4,cD4,d4,D5,nD5,cD5,d5,e13, _, _, _, _, _⟩ := TPoint.agg hd.1
    refine ⟨by go_simp; done, .slice (some ⟨wq.heap.size,0,none⟩) 1 1,wq.alloc (.cells (yq 13).cells 34), ?_,Below.box _, [wq.heap.size],⟨wq.heap.size,rfl,rfl,heap_alloc_new wq _⟩,by simp⟩
    rw [e13]
    go_simp
   intro yq zq wa hC hd hdis0
   have hdis := hid hdis0
   clear hdis0
   simp at hd
   have q0 := hd.1
   have q13 := hd.2.2.2.2.2.2.2.2.2.2.2.2.2.1
   have q14 := hd.2.2.2.2.2.2.2.2.2.2.2.2.2.2
   obtain ⟨⟨ha,hf⟩,hr⟩ := q13
   obtain ⟨D1,nD1,cD1,d1,D2,nD2,cD2,d2,D4,nD4,cD4,d4,D5,nD5,cD5,d5,e13,z13,k1,k2,k4,k5⟩ := TPoint.agg ha
   obtain ⟨⟨gn,e14,z14,hgn⟩,hr14⟩ := q14
   rw [e13] at hgn
   have AT := hid (show Dat.at_ wa [.bool (pmid a1 b1).x.num.neg, .slice D1 nD1 cD1, .slice D2 nD2 cD2, .bool (pmid a1 b1).y.num.neg, .slice D4 nD4 cD4, .slice D5 nD5 cD5] (pmid a1 b1) (zq 13) by rw [z13]; exact TPoint.shut k1 k2 k4 k5)
   have HF := hid hf; have HR := hid (show ∀ b ∈ zq 13,wr.heap.size ≤ b from fun b hb => (hr b hb).1)
   have HGN := hid hgn
   have e0 : yq 0 = .slice (some ⟨gB,0,none⟩) 2 cap := q0.1.1
   have hownA := ownsRow_below hown.out hC
   have HCC := hid hC
   have WL := hid (show w.heap.size ≤ wa.heap.size by have := HB0.out.size; have := hC.size; omega)
   clear hd hdis ha hf hr z13 k1 k2 k4 k5 hgn hr14 z14 q0
   go_wp2_with (at_builtin; refine wpList_push rfl _ _ 23 rfl w.heap.size 34 i0 (.agg #[.bool false, .slice none 0 0, .slice none 0 0, .bool false, .slice none 0 0, .slice none 0 0]) 6 112 Tryz.underlying23 hi hz0 hz1 hz2 rfl (by decide) gB 2 cap cells (by go_simp; done) hownA ⟨gn,0,none⟩ 1 1 [.bool (pmid a1 b1).x.num.neg, .slice D1 nD1 cD1, .slice D2 nD2 cD2, .bool (pmid a1 b1).y.num.neg, .slice D4 nD4 cD4, .slice D5 nD5 cD5] (by go_simp; done) rfl (block_cells HGN.out) (Dat.one AT.out) C3.out C4.out WL.out ?_; intro g' cap' w8 hown' hgrow' hor')
   have P := hid (push_own hfil.out hlen.out (by have := hown.out.1; omega) how.out hnot.out HB0.out hrowlt hbase.out HCC.out AT.out HF.out HR.out hgrow' hor')
   have OW := hid hown'
   have BA := hid (show w.heap.size ≤ g' from by have := (World.ownsRow.lt hown' _ rfl).1; exact this)
   clear hown' hgrow' hor' hownA
   generalize (cells ++ [.bool (pmid a1 b1).x.num.neg, .slice D1 nD1 cD1, .slice D2 nD2 cD2, .bool (pmid a1 b1).y.num.neg, .slice D4 nD4 cD4, .slice D5 nD5 cD5] : List Value) = cells2 at OW P
   go_wp2_with fail
   go_roundg 0
   case measure => omega
   case rel => exact ⟨2 + 1,g',cap',cells2,(fss ++ [zq 13] : List (List Nat)),rfl,by go_num,rfl,OW.out,(show Filled w8 _ ([pmid b1 c1,pmid c1 a1,pmid a1 b1].take (2 + 1)) _ from P.out.1),rfl,P.out.2.1,P.out.2.2.1,BA.out,P.out.2.2.2.1⟩
  ·have HB0 := hid hb
   clear hk hb
   go_wp2
   go_ret
   exact push_done hown.out hfil.out hlen.out how.out hnot.out HB0.out
end Go.Proofs.YtpfipnankjeokaaGreat.X

/- MidPoints of the program. -/
namespace Go.Proofs.YtpfipnankjeokaaGreat.X
open Go.RowKit Go.XB Go.XN
attribute [local go_sem] fillBy opAt deps depOf Region.wanted yielded
attribute [local simp] deps depOf MP.eq MP.agg MP.sl Facts
set_option linter.constructorNameAsVariable false

def mids3 (a b c : TPoint) : List TPoint := [pmid b c,pmid c a,pmid a b]
def midsOf : List TPoint → List TPoint
 | [a,b,c] => if properB [a,b,c] && (mids3 a b c).all ptOkB then mids3 a b c else []
 | _ => []
theorem mids_false {xs : List TPoint} (h : properB xs = false) : midsOf xs = [] := by
 match xs with
 | [] => rfl
 | [_] => rfl
 | [_, _] => rfl
 | [a,b,c] => show (if properB [a,b,c] && _ then _ else _) = _; rw [h]; rfl
 | _ :: _ :: _ :: _ :: _ => rfl
theorem mids_good {a b c : TPoint} (h : properB [a,b,c] = true) (h2 : ((mids3 a b c).take 3).all ptOkB = true) : midsOf [a,b,c] = mids3 a b c := by
 have h3 : (mids3 a b c).all ptOkB = true := h2
 show (if properB [a,b,c] && (mids3 a b c).all ptOkB then _ else _) = _
 rw [h,h3]; rfl
theorem mids_bad {a b c p : TPoint} {k : Nat} (hk : (mids3 a b c)[k]? = some p) (h : ptOkB p = false) : midsOf [a,b,c] = [] := by
 have h3 : (mids3 a b c).all ptOkB = false := by
  rw [List.all_eq_false]; exact ⟨p,List.mem_of_getElem? hk,by simp [h]⟩
 show (if properB [a,b,c] && (mids3 a b c).all ptOkB then _ else _) = _
 rw [h3,Bool.and_false]; rfl
theorem mids_den {a b c p : TPoint} {k : Nat} (hk : (mids3 a b c)[k]? = some p) : (!p.x.den.isEmpty) = ptOkB p := by
 have h := List.mem_of_getElem? hk
 simp only [mids3,List.mem_cons,List.not_mem_nil,or_false] at h
 rcases h with rfl | rfl | rfl <;> exact ifP_den _
theorem proper_three {xs : List TPoint} (h : properB xs = true) : ∃ a b c,xs = [a,b,c] := by
 match xs with
 | [] => cases h
 | [_] => cases h
 | [_, _] => cases h
 | [a,b,c] => exact ⟨a,b,c,rfl⟩
 | _ :: _ :: _ :: _ :: _ => cases h

set_option maxHeartbeats 4000000 in
set_option maxRecDepth 10000 in
theorem impl_MidPoints (A : Option Addr) (n c : Nat) (xs : List TPoint) (bs : List Nat) (w : World) (hx : Sl w A n c xs bs) :
  Calls Tryz.prog 19 #[.slice A n c] w (GivesSl w (midsOf xs)) := by
 have HX := hid hx
 have C0 := hid (impl_IsProper A n c xs bs w hx)
 cases hpr : properB xs
 ·have E := hid (mids_false hpr)
  have PR := hid hpr
  clear hpr hx
  go_enter Tryz.func19,Tryz.ntmps19
  go_wp2_with fail
  have C := C0.out
  rw [PR.out] at C
  refine C.mono ?_
  clear C
  rintro _ w1 ⟨rfl,hb1⟩
  go_wp2
  go_ret
  rw [E.out]
  exact ⟨none,0,0, [],rfl,Sl.nil _,Own.nil _ _,hb1⟩
 obtain ⟨a1,b1,c1,rfl⟩ := proper_three hpr
 obtain rfl : 3 = n := hx.1
 have HPR := hid hpr
 clear hpr
 clear hx
 go_enter Tryz.func19,Tryz.ntmps19
 go_wp2_with fail
 have C := C0.out
 rw [HPR.out] at C
 refine C.mono ?_
 clear C
 rintro _ w1 ⟨rfl,hb1⟩
 have HB1 := hid hb1
 clear hb1
 go_wp2_with fail
 refine (impl_midPoints A c a1 b1 c1 bs w1 (HX.out.below HB1.out)).mono ?_
 rintro _ w2 ⟨B,m,d,ds,rfl,hs,ho,hb2⟩
 obtain rfl : 3 = m := hs.1
 have HS := hid (show Sl w2 B 3 d (mids3 a1 b1 c1) ds from hs); have HO := hid (ho.older HB1.out.size)
 have HB2 := hid (Below.next HB1.out hb2)
 clear hs ho hb2 C0
 go_wp2_with fail
 go_loopg [13] 3 (fun g s wr => ∃ k : Nat,k + g = 3 ∧ s = .int .i64 k ∧ Hid (((mids3 a1 b1 c1).take k).all ptOkB = true) ∧ Below w2.heap.size w2 wr)
 case atStart => exact ⟨0,rfl,rfl,rfl,Below.refl _ _⟩
 case round =>
  obtain ⟨k,hk,rfl,hall,hb⟩ := hrel
  rcases Nat.lt_or_ge k 3 with hkn | hkn
  ·obtain ⟨be,of,x,D1,nD1,cD1,d1,D2,nD2,cD2,d2,D4,nD4,cD4,d4,D5,nD5,cD5,d5,rfl,hbl,hx1,d0,d1_,d2_,d3_,d4_,d5_,hag⟩ := TPoint.elemA (HS.out.below hb) hkn
   have HX1 := hid hx1; have HAG := hid hag
   have hki : (k : Int) < 3 := by omega
   have hki0 : (0 : Int) ≤ k := by omega
   obtain ⟨g,rfl⟩ : ∃ g,gk = g + 1 := ⟨gk - 1,by omega⟩
   have hk' := hid (show k + 1 + g = 3 by omega)
   have hk3 : k + 1 ≤ 3 := hkn
   have HB := hid hb
   clear hx1 hk hkn hag
   go_wp2_with fail
   have C := impl_isRat _ x.x _ (wr.alloc (.cells #[.bool x.x.num.neg, .slice D1 nD1 cD1, .slice D2 nD2 cD2, .bool x.y.num.neg, .slice D4 nD4 cD4, .slice D5 nD5 cD5] 34)) ((pt_x HAG.out).choose_spec.choose_spec.2.1.below (Below.box _))
   rw [mids_den HX1.out] at C
   cases ho : ptOkB x
   ·have E := hid (show midsOf [a1,b1,c1] = [] from mids_bad HX1.out ho)
    rw [ho] at C
    refine C.mono ?_
    clear C
    rintro _ w5 ⟨rfl,hb5⟩
    go_wp2
    go_ret
    rw [E.out]
    exact ⟨none,0,0, [],rfl,Sl.nil _,Own.nil _ _,Below.next (Below.next HB2.out HB.out) (Below.trans (Below.box _) (hb5.mono (by simp)))⟩
   ·have NX := hid (show ((mids3 a1 b1 c1).take (k + 1)).all ptOkB = true by rw [take_step HX1.out,List.all_append,hall.out]; simp [ho])
    rw [ho] at C
    refine C.mono ?_
    clear C
    rintro _ w5 ⟨rfl,hb5⟩
    go_wp2_with fail
    go_roundg g
    case measure => omega
    case rel => exact ⟨k + 1,hk'.out,by go_num,NX.out,Below.next HB.out (Below.trans (Below.box _) (hb5.mono (by simp)))⟩
  ·have hke : k = 3 := by omega
   subst hke
   have HB := hid hb
   have E := hid (show midsOf [a1,b1,c1] = mids3 a1 b1 c1 from mids_good HPR.out hall.out)
   clear hk hkn
   go_wp2
   go_ret
   rw [E.out]
   exact ⟨_,3,d,ds,rfl,HS.out.below HB.out,HO.out.below HB.out,Below.next HB2.out HB.out⟩
end Go.Proofs.YtpfipnankjeokaaGreat.X

/- Fractions reckoned over numerators and denominators that are not shortened (plain). -/
namespace Go.XN
open Go.XB
structure Q where
 n : Int
 d : Int
def Q.ok (q : Q) : Bool := decide (0 < q.d) && (decide (q.d < 10 ^ 200) && (decide (-(10 ^ 200) < q.n) && decide (q.n < 10 ^ 200)))
def toR (q : Q) : TRat := mkR q.n q.d
def qadd (q r : Q) : Q := ⟨q.n * r.d + r.n * q.d,q.d * r.d⟩
def qsub (q r : Q) : Q := ⟨q.n * r.d - r.n * q.d,q.d * r.d⟩
def qmul (q r : Q) : Q := ⟨q.n * r.n,q.d * r.d⟩
def qneg (q : Q) : Q := ⟨-q.n,q.d⟩
def qinv (q : Q) : Q := ⟨q.d,q.n⟩
def qeq (q r : Q) : Bool := decide (q.n * r.d = r.n * q.d)
def rdiv (r s : TRat) : TRat := if (ratOkB r && ratOkB s) && !s.num.mag.isEmpty then rmul r ⟨⟨s.num.neg,s.den⟩,s.num.mag⟩ else zeroR
end Go.XN
namespace Go.Proofs.YtpfipnankjeokaaGreat.X
open Go.RowKit Go.XB Go.XN

theorem pw24 : (10 : Int) ^ 200 < pw 24 := by decide +kernel
structure Q.Ok (q : Q) : Prop where
 d0 : 0 < q.d
 d1 : q.d < 10 ^ 200
 n0 : -(10 ^ 200) < q.n
 n1 : q.n < 10 ^ 200
theorem Q.ok_iff {q : Q} : q.ok = true ↔ Q.Ok q := by
 unfold Q.ok
 constructor
 ·intro h
  simp only [Bool.and_eq_true,decide_eq_true_eq] at h
  exact ⟨h.1,h.2.1,h.2.2.1,h.2.2.2⟩
 ·intro h
  simp only [Bool.and_eq_true,decide_eq_true_eq]
  exact ⟨h.d0,h.d1,h.n0,h.n1⟩
theorem toR_ok {q : Q} (h : q.ok = true) : ratOkB (toR q) = true := by
 obtain ⟨h0,h1,h2,h3⟩ := Q.ok_iff.1 h
 have hp := pw24
 obtain ⟨g,a,b,hg,ha,hb,hb0, _,e1,e2⟩ := gcd_parts (A := q.n) h0
 have hgb : b ≤ q.d := by
  have : 1 * b ≤ g * b := Int.mul_le_mul_of_nonneg_right (by omega) (by omega)
  omega
 have hga : a.natAbs ≤ q.n.natAbs := by
  rw [ha,Int.natAbs_mul]
  exact Nat.le_mul_of_pos_left _ (by omega)
 have hm : toR q = ⟨encI a,dig b.natAbs⟩ := by
  unfold toR mkR
  rw [e1,e2,if_pos ⟨len_le_iff.2 (by generalize (10 : Int) ^ 200 = T at *; omega),len_le_iff.2 (by generalize (10 : Int) ^ 200 = T at *; omega)⟩]
 unfold toR at hm ⊢
 rw [← mk_den h0,hm]
 have hv : val (dig b.natAbs) = b := by rw [val_dig]; omega
 cases hd : dig b.natAbs with
 | nil => rw [hd] at hv; simp [val] at hv; omega
 | cons _ _ => rfl
theorem toR_V {q : Q} (h : q.ok = true) : RatV (toR q) := ratOkB_iff.1 (toR_ok h)
theorem toR_val {q : Q} (h : q.ok = true) : numv (toR q) * q.d = q.n * denv (toR q) := mk_val (Q.ok_iff.1 h).d0 (toR_ok h)
theorem toR_add {q r : Q} (hq : q.ok = true) (hr : r.ok = true) (hs : (qadd q r).ok = true) : radd (toR q) (toR r) = toR (qadd q r) := by
 have h1 := toR_val hq; have h2 := toR_val hr; have h3 := toR_val hs
 rw [radd_eq (toR_ok hq) (toR_ok hr)]
 refine mk_ratio (toR_V hs) (Int.mul_pos (toR_V hq).den0 (toR_V hr).den0) ?_
 have d1 := (Q.ok_iff.1 hq).d0; have d2 := (Q.ok_iff.1 hr).d0
 have hd : 0 < q.d * r.d := Int.mul_pos d1 d2
 refine Int.eq_of_mul_eq_mul_right (a := q.d * r.d) (by omega) ?_
 simp only [qadd] at h3 ⊢
 grind
theorem toR_sub {q r : Q} (hq : q.ok = true) (hr : r.ok = true) (hs : (qsub q r).ok = true) : rsub (toR q) (toR r) = toR (qsub q r) := by
 have h1 := toR_val hq; have h2 := toR_val hr; have h3 := toR_val hs
 unfold rsub
 rw [toR_ok hq,toR_ok hr]
 show mkR _ _ = _
 refine mk_ratio (toR_V hs) (Int.mul_pos (toR_V hq).den0 (toR_V hr).den0) ?_
 have d1 := (Q.ok_iff.1 hq).d0; have d2 := (Q.ok_iff.1 hr).d0
 have hd : 0 < q.d * r.d := Int.mul_pos d1 d2
 refine Int.eq_of_mul_eq_mul_right (a := q.d * r.d) (by omega) ?_
 simp only [qsub] at h3 ⊢
 grind
theorem toR_mul {q r : Q} (hq : q.ok = true) (hr : r.ok = true) (hs : (qmul q r).ok = true) : rmul (toR q) (toR r) = toR (qmul q r) := by
 have h1 := toR_val hq; have h2 := toR_val hr; have h3 := toR_val hs
 unfold rmul
 rw [toR_ok hq,toR_ok hr]
 show mkR _ _ = _
 refine mk_ratio (toR_V hs) (Int.mul_pos (toR_V hq).den0 (toR_V hr).den0) ?_
 have d1 := (Q.ok_iff.1 hq).d0; have d2 := (Q.ok_iff.1 hr).d0
 have hd : 0 < q.d * r.d := Int.mul_pos d1 d2
 refine Int.eq_of_mul_eq_mul_right (a := q.d * r.d) (by omega) ?_
 simp only [qmul] at h3 ⊢
 grind
theorem toR_eq {q r : Q} (hq : q.ok = true) (hr : r.ok = true) (h : qeq q r = true) : toR q = toR r := by
 have h2 := toR_val hr
 have e : q.n * r.d = r.n * q.d := of_decide_eq_true h
 refine mk_ratio (toR_V hr) (Q.ok_iff.1 hq).d0 ?_
 have d2 := (Q.ok_iff.1 hr).d0
 refine Int.eq_of_mul_eq_mul_right (a := r.d) (by omega) ?_
 grind
theorem toR_neg {q : Q} (hq : q.ok = true) : rneg (toR q) = toR (qneg q) := by
 have h1 := toR_val hq
 have hs : (qneg q).ok = true := by
  obtain ⟨h0,h1,h2,h3⟩ := Q.ok_iff.1 hq
  exact Q.ok_iff.2 ⟨h0,h1,by show -(10 ^ 200) < -q.n; omega,by show -q.n < 10 ^ 200; omega⟩
 have V := toR_V hq
 unfold rneg
 rw [toR_ok hq]
 show (⟨encI (-numv (toR q)),(toR q).den⟩ : TRat) = _
 have ne : encI (-numv (toR q)) = ⟨!(toR q).num.neg && !(toR q).num.mag.isEmpty,(toR q).num.mag⟩ := neg_enc V.num
 have W : RatV ⟨encI (-numv (toR q)),(toR q).den⟩ := by
  refine ⟨?_,V.den,V.den0, ?_,V.den24, ?_⟩
  ·rw [ne,bigOkB_iff]
   refine ⟨(bigOkB_iff.1 V.num).1,fun h e => ?_⟩
   simp at h
   exact h.2 e
  ·rw [ne]; exact V.num24
  ·rw [ne]; exact V.one
 refine (mk_ratio W (Q.ok_iff.1 hq).d0 ?_).symm
 show -q.n * denv (toR q) = ival (encI (-numv (toR q))) * q.d
 rw [ival_enc]
 grind
theorem rint_V {n : Int} (h0 : -1000000 < n) (h1 : n < 1000000) : RatV (rint n) := by
 have hl : (dig n.natAbs).length ≤ 24 := len_le_iff.2 (by have := pw24; generalize pw 24 = T at *; omega)
 refine ⟨?_, ?_,(by decide : 0 < val [1]),hl,(by decide : [(1 : Int)].length ≤ 24), ?_⟩
 ·rw [bigOkB_iff]
  refine ⟨⟨by show (dig n.natAbs).length ≤ 60; omega,dig_can _⟩,fun h3 e => ?_⟩
  have h4 : n < 0 := by simpa [rint,encI] using h3
  have h5 := val_dig n.natAbs
  have e' : dig n.natAbs = [] := e
  rw [e'] at h5
  simp [val] at h5
  omega
 ·exact (natOkB_iff.1 (by decide : natOkB [1] = true)).2
 ·show Int.gcd _ (val [1]) = 1
  rw [show val [1] = 1 by decide]; exact Int.gcd_one
theorem toR_int {n : Int} (h0 : -1000000 < n) (h1 : n < 1000000) : rint n = toR ⟨n,1⟩ := by
 refine (mk_ratio (A := n) (B := 1) (T := rint n) (rint_V h0 h1) (by decide) ?_).symm
 show n * val [1] = ival (encI n) * 1
 rw [ival_enc]; simp [val]
theorem toR_div {q r : Q} (hq : q.ok = true) (hr : r.ok = true) (hn : 0 < r.n) (hs : (qmul q (qinv r)).ok = true) : rdiv (toR q) (toR r) = toR (qmul q (qinv r)) := by
 have h2 := toR_val hr
 have V := toR_V hr
 obtain ⟨d0,d1,n0,n1⟩ := Q.ok_iff.1 hr
 have hi : (qinv r).ok = true := Q.ok_iff.2 ⟨hn,n1,by show -(10 ^ 200) < r.d; omega,d1⟩
 have hden := V.den0
 have hpos : 0 < numv (toR r) := by
  have h3 : 0 < numv (toR r) * r.d := by rw [h2]; exact Int.mul_pos hn hden
  exact Int.pos_of_mul_pos_left h3 d0
 have hneg : (toR r).num.neg = false := by
  cases h : (toR r).num.neg with
  | false => rfl
  | true =>
   have := val_nonneg V.mag.1
   unfold numv ival at hpos
   rw [h] at hpos
   simp at hpos; omega
 have hmag : numv (toR r) = val (toR r).num.mag := by unfold numv ival; rw [hneg]; rfl
 have hne : (toR r).num.mag.isEmpty = false := by
  cases h : (toR r).num.mag with
  | nil => rw [hmag,h] at hpos; simp [val] at hpos
  | cons _ _ => rfl
 have hinv : (⟨⟨(toR r).num.neg,(toR r).den⟩,(toR r).num.mag⟩ : TRat) = toR (qinv r) := by
  have W : RatV ⟨⟨(toR r).num.neg,(toR r).den⟩,(toR r).num.mag⟩ := by
   refine ⟨?_,V.mag,by rw [← hmag]; exact hpos,V.den24,V.num24, ?_⟩
   ·rw [bigOkB_iff]
    refine ⟨⟨by have := V.den24; show (toR r).den.length ≤ 60; omega,V.den⟩,fun h => ?_⟩
    rw [hneg] at h; cases h
   ·show Int.gcd (val (toR r).den) (val (toR r).num.mag) = 1
    rw [Int.gcd_comm]; exact V.one
  refine (mk_ratio W (show 0 < (qinv r).d from hn) ?_).symm
  show r.d * val (toR r).num.mag = (if (toR r).num.neg then -val (toR r).den else val (toR r).den) * r.n
  rw [hneg, ← hmag]
  show r.d * numv (toR r) = denv (toR r) * r.n
  grind
 unfold rdiv
 rw [toR_ok hq,toR_ok hr,hne,hinv]
 exact toR_mul hq hi hs
theorem toR_sign {q : Q} (hq : q.ok = true) : rsign (toR q) = sgn q.n := by
 have h1 := toR_val hq
 have V := toR_V hq
 have d0 := (Q.ok_iff.1 hq).d0
 have d2 := V.den0
 unfold rsign
 rw [toR_ok hq]
 show sgn (numv (toR q)) = sgn q.n
 have hd : 0 < denv (toR q) := d2
 rcases Int.lt_trichotomy q.n 0 with h | h | h
 ·have : numv (toR q) < 0 := by
   rcases Int.lt_or_le (numv (toR q)) 0 with h3 | h3
   ·exact h3
   ·have := Int.mul_nonneg h3 (Int.le_of_lt d0)
    have h4 := Int.mul_pos (show 0 < -q.n by omega) hd
    have e : -q.n * denv (toR q) = -(q.n * denv (toR q)) := by rw [Int.neg_mul]
    omega
  unfold sgn; rw [if_pos this,if_pos h]
 ·have : numv (toR q) = 0 := by
   rw [h,Int.zero_mul] at h1
   exact (Int.mul_eq_zero.1 h1).resolve_right (by omega)
  rw [this,h]
 ·have : 0 < numv (toR q) := by
   have h3 : 0 < numv (toR q) * q.d := by rw [h1]; exact Int.mul_pos h hd
   exact Int.pos_of_mul_pos_left h3 d0
  rw [sgn_pos1 this,sgn_pos1 h]
end Go.Proofs.YtpfipnankjeokaaGreat.X

/- RatMake of the reference; RatOf of small numbers. -/
namespace Go.Proofs.YtpfipnankjeokaaGreat.X
open Go.RowKit Go.XB Go.XN
attribute [local go_sem] fillBy opAt deps depOf Region.wanted yielded
attribute [local simp] deps depOf MP.eq MP.agg MP.sl Facts
set_option linter.constructorNameAsVariable false

set_option maxHeartbeats 1000000 in
set_option maxRecDepth 10000 in
theorem spec_RatMake (v1 v2 : Value) (x y : TBigInt) (b1 b2 : List Nat) (w : World) (hx : Agg w v1 x b1) (hy : Agg w v2 y b2) (ox : bigOkB x = true) (oy : bigOkB y = true) (hy0 : y.mag ≠ []) :
  Calls Tryz.prog 123 #[v1,v2] w (GivesAgg w (mkR (sval (x.neg != y.neg) x.mag) (val y.mag))) := by
 have HX := hid hx; have HY := hid hy
 obtain ⟨A1,n1,c1,s1,rfl,rfl,hs1⟩ := TBigInt.agg hx
 obtain ⟨A2,n2,c2,s2,rfl,rfl,hs2⟩ := TBigInt.agg hy
 have S1 := hid hs1; have S2 := hid hs2
 have OX := hid ox; have OY := hid oy
 have C1 := hid (bigOkB_iff.1 ox).1; have C2 := hid (bigOkB_iff.1 oy).1
 have N1 := hid (show n1 ≤ 65536 by rw [← hs1.1]; have := (bigOkB_iff.1 ox).1.1; omega)
 have N2 := hid (show n2 ≤ 65536 by rw [← hs2.1]; have := (bigOkB_iff.1 oy).1.1; omega)
 have N0 := hid (show 0 < n2 by rw [← hs2.1]; exact List.length_pos_iff.2 hy0)
 clear hs1 hs2 hx hy ox oy hy0
 go_enter Tryz.func123,Tryz.ntmps123
 go_wp2_with fail
 have C := spec_BigIntOk _ x _ (((w.alloc (.cells #[.bool x.neg, .slice A1 n1 c1] 30)).alloc (.cells #[.bool y.neg, .slice A2 n2 c2] 30)).alloc (.cells #[.bool false, .slice none 0 0, .slice none 0 0] 32)) (HX.out.below (by (with_reducible repeat first | exact Below.refl _ _ | (refine Below.set ?_ ?_ _; rotate_left; (simp <;> omega)) | refine Below.box_ ?_ _ | refine Below.next ?_ (by assumption))))
 rw [OX.out] at C
 refine C.mono ?_
 clear C
 rintro _ w1 ⟨rfl,hb1⟩
 obtain ⟨hc_w1,hf_w1⟩ := bcell hb1
 have hz0_w1 : w.heap.size < w1.heap.size := by have := hb1.size; (try simp at this); omega
 have hz1_w1 : w.heap.size + 1 < w1.heap.size := by have := hb1.size; (try simp at this); omega
 have hz2_w1 : w.heap.size + 1 + 1 < w1.heap.size := by have := hb1.size; (try simp at this); omega
 go_wp2_with fail
 have C := spec_BigIntOk _ y _ w1 (HY.out.below (by (with_reducible repeat first | exact Below.refl _ _ | (refine Below.set ?_ ?_ _; rotate_left; (simp <;> omega)) | refine Below.box_ ?_ _ | refine Below.next ?_ (by assumption))))
 rw [OY.out] at C
 refine C.mono ?_
 clear C
 rintro _ w2 ⟨rfl,hb2⟩
 obtain ⟨hc_w2,hf_w2⟩ := bcell hb2
 have hz0_w2 : w.heap.size < w2.heap.size := by have := hb2.size; (try simp at this); omega
 have hz1_w2 : w.heap.size + 1 < w2.heap.size := by have := hb2.size; (try simp at this); omega
 have hz2_w2 : w.heap.size + 1 + 1 < w2.heap.size := by have := hb2.size; (try simp at this); omega
 go_wp2_with fail
 refine (spec_l04Low (x.neg != y.neg) A1 A2 n1 n2 c1 c2 x.mag y.mag _ _ w2 (S1.out.below (by (with_reducible repeat first | exact Below.refl _ _ | (refine Below.set ?_ ?_ _; rotate_left; (simp <;> omega)) | refine Below.box_ ?_ _ | refine Below.next ?_ (by assumption)))) (S2.out.below (by (with_reducible repeat first | exact Below.refl _ _ | (refine Below.set ?_ ?_ _; rotate_left; (simp <;> omega)) | refine Below.box_ ?_ _ | refine Below.next ?_ (by assumption)))) C1.out.2 C2.out.2 N0.out N1.out N2.out).mono ?_
 rintro _ wb ⟨vb,sb,rfl,hab,hob,hb⟩
 obtain ⟨D1,nD1,cD1,d1,D2,nD2,cD2,d2,rfl,hzb, _, _⟩ := TRat.agg hab
 have HA := hid hab; have HO := hid hob
 clear hab hob hzb
 obtain ⟨hc_wb,hf_wb⟩ := bcell hb
 have hz0_wb : w.heap.size < wb.heap.size := by have := hb.size; (try simp at this); omega
 have hz1_wb : w.heap.size + 1 < wb.heap.size := by have := hb.size; (try simp at this); omega
 have hz2_wb : w.heap.size + 1 + 1 < wb.heap.size := by have := hb.size; (try simp at this); omega
 go_wp2
 refine bodyPost_ret (v := .agg #[.bool (mkR (sval (x.neg != y.neg) x.mag) (val y.mag)).num.neg, .slice D1 nD1 cD1, .slice D2 nD2 cD2]) (by simp [results,Tryz.results123,go_sem, *]) rfl ?_
 refine agg_fin (lo := w.heap.size + 3) HA.out HO.out.free (fun b hb => by have := (HO.out.2 b hb).1; (try simp at this); omega) (by omega) ?_ ?_
 ·(with_reducible repeat first | exact Above.refl _ _ | (refine Above.set ?_ ?_ _; rotate_left; (simp <;> omega)) | refine Above.box ?_ _ | refine Above.below ?_ (by assumption))
 ·(with_reducible repeat first | exact Below.refl _ _ | (refine Below.set ?_ ?_ _; rotate_left; (simp <;> omega)) | refine Below.box_ ?_ _ | refine Below.next ?_ (by assumption))

theorem small_val {a d : Int} (ha : 0 ≤ a) (hd : 0 < d) : sval ((encI a).neg != (encI d).neg) (encI a).mag = a ∧ val (encI d).mag = d := by
 have e1 : (encI a).neg = false := by unfold encI; simp; omega
 have e2 : (encI d).neg = false := by unfold encI; simp; omega
 rw [e1,e2]
 refine ⟨?_, ?_⟩
 ·show val (dig a.natAbs) = a; rw [val_dig]; omega
 ·show val (dig d.natAbs) = d; rw [val_dig]; omega
set_option maxHeartbeats 1000000 in
theorem spec_RatOf_small (a d : Int) (ha : 0 ≤ a) (ha2 : a ≤ 1000) (hd : 0 < d) (hd2 : d ≤ 1000) (w : World) : Calls Tryz.prog 73 #[.int .i64 a, .int .i64 d] w (GivesAgg w (mkR a d)) := by
 have V := hid (small_val ha hd)
 have OA := hid (enc_ok a ⟨by omega,by omega⟩)
 have OD := hid (enc_ok d ⟨by omega,by omega⟩)
 have ND := hid (show (encI d).mag ≠ [] by intro e; have := (small_val ha hd).2; rw [e] at this; simp [val] at this; omega)
 have IA := hid (show I64 a from ⟨by omega,by omega⟩)
 have ID := hid (show I64 d from ⟨by omega,by omega⟩)
 clear ha ha2 hd hd2
 go_enter Tryz.func73,Tryz.ntmps73
 go_wp2_with fail
 refine (spec_BigIntOf a _ IA.out).mono ?_
 rintro _ w1 ⟨v1,t1,rfl,ha1,ho1,hb1⟩
 have HA1 := hid ha1
 clear ha1 ho1
 obtain ⟨hc_w1,hf_w1⟩ := bcell hb1
 have hz0_w1 : w.heap.size < w1.heap.size := by have := hb1.size; (try simp at this); omega
 go_wp2_with fail
 refine (spec_BigIntOf d _ ID.out).mono ?_
 rintro _ w2 ⟨v2,t2,rfl,ha2,ho2,hb2⟩
 have HA2 := hid ha2
 clear ha2 ho2
 obtain ⟨hc_w2,hf_w2⟩ := bcell hb2
 have hz0_w2 : w.heap.size < w2.heap.size := by have := hb2.size; (try simp at this); omega
 go_wp2_with fail
 have C := spec_RatMake v1 v2 (encI a) (encI d) t1 t2 w2 (HA1.out.below hb2) HA2.out OA.out OD.out ND.out
 rw [V.out.1,V.out.2] at C
 refine (C).mono ?_
 rintro _ wb ⟨vb,sb,rfl,hab,hob,hb⟩
 obtain ⟨D1,nD1,cD1,d1,D2,nD2,cD2,d2,rfl,hzb, _, _⟩ := TRat.agg hab
 have HA := hid hab; have HO := hid hob
 clear hab hob hzb
 obtain ⟨hc_wb,hf_wb⟩ := bcell hb
 have hz0_wb : w.heap.size < wb.heap.size := by have := hb.size; (try simp at this); omega
 go_wp2
 refine bodyPost_ret (v := .agg #[.bool (mkR a d).num.neg, .slice D1 nD1 cD1, .slice D2 nD2 cD2]) (by simp [results,Tryz.results73,go_sem, *]) rfl ?_
 refine agg_fin (lo := w.heap.size + 1) HA.out HO.out.free (fun b hb => by have := (HO.out.2 b hb).1; (try simp at this); omega) (by omega) ?_ ?_
 ·(with_reducible repeat first | exact Above.refl _ _ | (refine Above.set ?_ ?_ _; rotate_left; (simp <;> omega)) | refine Above.box ?_ _ | refine Above.below ?_ (by assumption))
 ·(with_reducible repeat first | exact Below.refl _ _ | (refine Below.set ?_ ?_ _; rotate_left; (simp <;> omega)) | refine Below.box_ ?_ _ | refine Below.next ?_ (by assumption))

end Go.Proofs.YtpfipnankjeokaaGreat.X

/- Placements: the side of a point,a point inside an edge. Written by gen_plc.py. -/
namespace Go.Proofs.YtpfipnankjeokaaGreat.X
open Go.RowKit Go.XB Go.XN
def at0 (xs : List Int) (a : Int) : Int := xs.getD a.toNat 0
def tri2 (xs ys : List Int) (a b c : Int) : Int := (at0 xs b - at0 xs a) * (at0 ys c - at0 ys a) - (at0 ys b - at0 ys a) * (at0 xs c - at0 xs a)
def turnI (xs ys : List Int) (a b c : Int) : Int := sgn (tri2 xs ys a b c)
def insideI (xs ys : List Int) (a b c : Int) : Bool := decide (turnI xs ys a b c = 0) && (inB (min (at0 xs a) (at0 xs b)) (at0 xs c) (max (at0 xs a) (at0 xs b)) && inB (min (at0 ys a) (at0 ys b)) (at0 ys c) (max (at0 ys a) (at0 ys b)))
def Small (xs : List Int) : Prop := ∀ x ∈ xs, -100 ≤ x ∧ x ≤ 100
def Plc (w : World) (v : Value) (n : Nat) (xs ys : List Int) : Prop := ∃ (A : Option Addr) (c X oX cX Y oY cY : Nat) (bX bY : List Nat),v = .agg #[.slice A n c, .slice (some ⟨X,oX,none⟩) n cX, .slice (some ⟨Y,oY,none⟩) n cY] ∧ Sl w (some ⟨X,oX,none⟩) n cX xs bX ∧ Sl w (some ⟨Y,oY,none⟩) n cY ys bY
theorem Plc.below {w w' : World} {v : Value} {n : Nat} {xs ys : List Int} (h : Plc w v n xs ys) (hb : Below w.heap.size w w') : Plc w' v n xs ys := by
 obtain ⟨A,c,X,oX,cX,Y,oY,cY,bX,bY,h1,h2,h3⟩ := h
 exact ⟨A,c,X,oX,cX,Y,oY,cY,bX,bY,h1,h2.below hb,h3.below hb⟩
theorem mul_small {a b : Int} (h1 : -200 ≤ a ∧ a ≤ 200) (h2 : -200 ≤ b ∧ b ≤ 200) : -40000 ≤ a * b ∧ a * b ≤ 40000 := by
 have h : (a * b).natAbs ≤ 200 * 200 := by
  rw [Int.natAbs_mul]; exact Nat.mul_le_mul (by omega) (by omega)
 omega
end Go.Proofs.YtpfipnankjeokaaGreat.X
namespace Go.Proofs.YtpfipnankjeokaaGreat.X
open Go.RowKit Go.XB Go.XN
attribute [local go_sem] fillBy opAt deps depOf Region.wanted yielded
attribute [local simp] deps depOf MP.eq MP.agg MP.sl Facts
set_option linter.constructorNameAsVariable false

set_option maxHeartbeats 4000000 in
set_option maxRecDepth 10000 in
theorem impl_turn (v : Value) (n : Nat) (xs ys : List Int) (a b c : Int) (w : World) (hp : Plc w v n xs ys) (hsx : Small xs) (hsy : Small ys) (ha : 0 ≤ a ∧ a < n) (hb : 0 ≤ b ∧ b < n) (hc : 0 ≤ c ∧ c < n) :
  Calls Tryz.prog 126 #[v, .int .i64 a, .int .i64 b, .int .i64 c] w (Gives w (.int .i64 (turnI xs ys a b c))) := by
 obtain ⟨A,cA,X,oX,cX,Y,oY,cY,bX,bY,rfl,hX,hY⟩ := hp
 obtain ⟨ja,rfl⟩ := Int.eq_ofNat_of_zero_le ha.1
 obtain ⟨jb,rfl⟩ := Int.eq_ofNat_of_zero_le hb.1
 obtain ⟨jc,rfl⟩ := Int.eq_ofNat_of_zero_le hc.1
 obtain ⟨_, _,xa,e1,hXl,hxa, _,cxa⟩ := Sl.getInt hX (show ja < n by omega); cases e1
 obtain ⟨_, _,xb,e1, _,hxb, _,cxb⟩ := Sl.getInt hX (show jb < n by omega); cases e1
 obtain ⟨_, _,xc,e1, _,hxc, _,cxc⟩ := Sl.getInt hX (show jc < n by omega); cases e1
 obtain ⟨_, _,ya,e1,hYl,hya, _,cya⟩ := Sl.getInt hY (show ja < n by omega); cases e1
 obtain ⟨_, _,yb,e1, _,hyb, _,cyb⟩ := Sl.getInt hY (show jb < n by omega); cases e1
 obtain ⟨_, _,yc,e1, _,hyc, _,cyc⟩ := Sl.getInt hY (show jc < n by omega); cases e1
 have E := hid (show sgn ((xb - xa) * (yc - ya) - (yb - ya) * (xc - xa)) = turnI xs ys ja jb jc by
  unfold turnI tri2 at0; simp [List.getD,hxa,hxb,hxc,hya,hyb,hyc])
 have b1 := hsx xa (List.mem_of_getElem? hxa)
 have b2 := hsx xb (List.mem_of_getElem? hxb)
 have b3 := hsx xc (List.mem_of_getElem? hxc)
 have b4 := hsy ya (List.mem_of_getElem? hya)
 have b5 := hsy yb (List.mem_of_getElem? hyb)
 have b6 := hsy yc (List.mem_of_getElem? hyc)
 obtain ⟨p,hp⟩ : ∃ p,xb - xa = p := ⟨_,rfl⟩
 obtain ⟨q,hq⟩ : ∃ q,yc - ya = q := ⟨_,rfl⟩
 obtain ⟨r,hr⟩ : ∃ r,yb - ya = r := ⟨_,rfl⟩
 obtain ⟨s,hs⟩ : ∃ s,xc - xa = s := ⟨_,rfl⟩
 have p1 : -200 ≤ p ∧ p ≤ 200 := by omega
 have q1 : -200 ≤ q ∧ q ≤ 200 := by omega
 have r1 : -200 ≤ r ∧ r ≤ 200 := by omega
 have s1 : -200 ≤ s ∧ s ≤ 200 := by omega
 obtain ⟨m1,hm1⟩ : ∃ m,p * q = m := ⟨_,rfl⟩
 obtain ⟨m2,hm2⟩ : ∃ m,r * s = m := ⟨_,rfl⟩
 have k1 : -40000 ≤ m1 ∧ m1 ≤ 40000 := by have := mul_small p1 q1; rw [hm1] at this; exact this
 have k2 : -40000 ≤ m2 ∧ m2 ≤ 40000 := by have := mul_small r1 s1; rw [hm2] at this; exact this
 rw [hp,hq,hr,hs,hm1,hm2] at E
 have hja : (ja : Int) < n := ha.2
 have hjb : (jb : Int) < n := hb.2
 have hjc : (jc : Int) < n := hc.2
 clear hX hY hxa hxb hxc hya hyb hyc hsx hsy ha hb hc
 go_enter Tryz.func126,Tryz.ntmps126
 go_wp2_with fail
 refine wp_region_walk (by kernel_rfl) (by kernel_rfl) (by kernel_rfl) ?_
 iterate 47
  apply walkM_eq
  case h =>
   intro yq zq wq hC hd
   obtain ⟨hcq,hfq⟩ := bcell hC
   simp at hd
   refine ⟨by go_simp; done, ?_⟩
   go_simp
   first | (go_ints; exact rfl) | (go_ints; rw [if_pos (by omega)]; try exact rfl) | exact rfl | (rw [if_pos (by omega)]; try exact rfl)
 refine walkM_call (MP.eq (.int .i64 (sgn (m1 - m2)))) ?_ ?_
 ·intro yq zq wq hC hd
  obtain ⟨hcq,hfq⟩ := bcell hC
  simp at hd
  refine ⟨by go_simp; done, ?_⟩
  apply Exists.intro
  apply Exists.intro
  constructor
  ·go_simp
   exact ⟨rfl,rfl⟩
  ·exact gives_eq (impl_signOf _ _)
 apply walkM_eq
 case h =>
  intro yq zq wq hC hd
  obtain ⟨hcq,hfq⟩ := bcell hC
  simp at hd
  refine ⟨by go_simp; done, ?_⟩
  go_simp
  first | (go_ints; exact rfl) | (go_ints; rw [if_pos (by omega)]; try exact rfl) | exact rfl | (rw [if_pos (by omega)]; try exact rfl)
 intro yq zq wa hC hd hdis0
 have hdis := hid hdis0
 clear hdis0
 simp at hd
 go_simp
 clear hd hdis
 go_wp2
 go_ret
 rw [← E.out]
 exact ⟨rfl,by (with_reducible repeat first | exact Below.refl _ _ | (refine Below.set ?_ ?_ _; rotate_left; (simp <;> omega)) | refine Below.box_ ?_ _ | refine Below.next ?_ (by assumption))⟩
end Go.Proofs.YtpfipnankjeokaaGreat.X

/- An element of an array of three ints. -/
namespace Go.Proofs.YtpfipnankjeokaaGreat.X
open Go.RowKit Go.XB Go.XN
theorem ix0 (a b c : Int) (w : World) : Sem.run Tryz.prog (Instr.index 75 (.agg #[.int .i64 a, .int .i64 b, .int .i64 c]) (.int .i64 0)) w = .ok (.int .i64 a) w := by kernel_rfl
theorem ix1 (a b c : Int) (w : World) : Sem.run Tryz.prog (Instr.index 75 (.agg #[.int .i64 a, .int .i64 b, .int .i64 c]) (.int .i64 1)) w = .ok (.int .i64 b) w := by kernel_rfl
theorem ix2 (a b c : Int) (w : World) : Sem.run Tryz.prog (Instr.index 75 (.agg #[.int .i64 a, .int .i64 b, .int .i64 c]) (.int .i64 2)) w = .ok (.int .i64 c) w := by kernel_rfl
end Go.Proofs.YtpfipnankjeokaaGreat.X

/- Placements: a point inside an edge (one case). Written by gen_plc.py. -/
namespace Go.Proofs.YtpfipnankjeokaaGreat.X
open Go.RowKit Go.XB Go.XN
attribute [local go_sem] fillBy opAt deps depOf Region.wanted yielded
attribute [local simp] deps depOf MP.eq MP.agg MP.sl Facts
set_option linter.constructorNameAsVariable false

set_option maxHeartbeats 8000000 in
set_option maxRecDepth 10000 in
theorem isInside_false (v : Value) (n : Nat) (xs ys : List Int) (a b c : Int) (w : World) (hp : Plc w v n xs ys) (hsx : Small xs) (hsy : Small ys) (ha : 0 ≤ a ∧ a < n) (hb : 0 ≤ b ∧ b < n) (hc : 0 ≤ c ∧ c < n) (ht : turnI xs ys a b c = 0) (hbx : inB (min (at0 xs a) (at0 xs b)) (at0 xs c) (max (at0 xs a) (at0 xs b)) = false) :
  Calls Tryz.prog 128 #[v, .int .i64 a, .int .i64 b, .int .i64 c] w (Gives w (.bool (insideI xs ys a b c))) := by
 have HP := hid hp
 obtain ⟨A,cA,X,oX,cX,Y,oY,cY,bX,bY,rfl,hX,hY⟩ := hp
 have CT := hid (impl_turn _ n xs ys a b c (w.alloc (.cells #[.slice A n cA, .slice (some ⟨X,oX,none⟩) n cX, .slice (some ⟨Y,oY,none⟩) n cY] 111)) (HP.out.below (Below.box _)) hsx hsy ha hb hc)
 have T0 := hid ht
 obtain ⟨ja,rfl⟩ := Int.eq_ofNat_of_zero_le ha.1
 obtain ⟨jb,rfl⟩ := Int.eq_ofNat_of_zero_le hb.1
 obtain ⟨jc,rfl⟩ := Int.eq_ofNat_of_zero_le hc.1
 obtain ⟨_, _,xa,e1,hXl,hxa, _,cxa⟩ := Sl.getInt hX (show ja < n by omega); cases e1
 obtain ⟨_, _,xb,e1, _,hxb, _,cxb⟩ := Sl.getInt hX (show jb < n by omega); cases e1
 obtain ⟨_, _,xc,e1, _,hxc, _,cxc⟩ := Sl.getInt hX (show jc < n by omega); cases e1
 obtain ⟨_, _,ya,e1,hYl,hya, _,cya⟩ := Sl.getInt hY (show ja < n by omega); cases e1
 obtain ⟨_, _,yb,e1, _,hyb, _,cyb⟩ := Sl.getInt hY (show jb < n by omega); cases e1
 obtain ⟨_, _,yc,e1, _,hyc, _,cyc⟩ := Sl.getInt hY (show jc < n by omega); cases e1
 have A0 : at0 xs ja = xa := by unfold at0; simp [List.getD,hxa]
 have A1 : at0 xs jb = xb := by unfold at0; simp [List.getD,hxb]
 have A2 : at0 xs jc = xc := by unfold at0; simp [List.getD,hxc]
 have A3 : at0 ys ja = ya := by unfold at0; simp [List.getD,hya]
 have A4 : at0 ys jb = yb := by unfold at0; simp [List.getD,hyb]
 have A5 : at0 ys jc = yc := by unfold at0; simp [List.getD,hyc]
 rw [A0,A1,A2] at hbx
 have BX := hid hbx
 obtain ⟨lx,hlx⟩ : ∃ l,min xa xb = l := ⟨_,rfl⟩
 obtain ⟨mx,hmx⟩ : ∃ l,max xa xb = l := ⟨_,rfl⟩
 obtain ⟨ly,hly⟩ : ∃ l,min ya yb = l := ⟨_,rfl⟩
 obtain ⟨my,hmy⟩ : ∃ l,max ya yb = l := ⟨_,rfl⟩
 rw [hlx,hmx] at BX hbx
 have E := hid (show (inB lx xc mx && inB ly yc my) = insideI xs ys ja jb jc by
  unfold insideI; rw [A0,A1,A2,A3,A4,A5,T0.out,hlx,hmx,hly,hmy]; simp)
 have LX := hid hlx; have MX := hid hmx; have LY := hid hly; have MY := hid hmy
 obtain ⟨by_,hby⟩ : ∃ b,inB ly yc my = b := ⟨_,rfl⟩
 have BY := hid hby
 rw [hby,hbx] at E
 have hja : (ja : Int) < n := ha.2
 have hjb : (jb : Int) < n := hb.2
 have hjc : (jc : Int) < n := hc.2
 clear hX hY hxa hxb hxc hya hyb hyc hsx hsy ha hb hc ht hby hbx hlx hmx hly hmy A0 A1 A2 A3 A4 A5
 go_enter Tryz.func128,Tryz.ntmps128
 go_wp2_with fail
 have C := CT.out
 rw [T0.out] at C
 refine C.mono ?_
 clear C
 rintro _ w1 ⟨rfl,hb1⟩
 obtain ⟨hc_w1,hf_w1⟩ := bcell hb1
 have hz0_w1 : w.heap.size < w1.heap.size := by have := hb1.size; (try simp at this); omega
 have hX1 : X < w1.heap.size := by have := hb1.size; simp at this; omega
 have hY1 : Y < w1.heap.size := by have := hb1.size; simp at this; omega
 go_wp2_with fail
 refine wp_region_walk (by kernel_rfl) (by kernel_rfl) (by kernel_rfl) ?_
 iterate 15
  apply walkM_eq
  case h =>
   intro yq zq wq hC hd
   obtain ⟨hcq,hfq⟩ := bcell hC
   simp at hd
   refine ⟨by go_simp; done, ?_⟩
   go_simp
   first | (go_ints; exact rfl) | (go_ints; rw [if_pos (by omega)]; try exact rfl) | exact rfl | (rw [if_pos (by omega)]; try exact rfl)
 refine walkM_eq (.int .i64 lx) ?_ ?_
 ·intro yq zq wq hC hd
  obtain ⟨hcq,hfq⟩ := bcell hC
  simp at hd
  refine ⟨by go_simp; done, ?_⟩
  go_simp
  (rw [← LX.out]; split <;> omega)
 iterate 10
  apply walkM_eq
  case h =>
   intro yq zq wq hC hd
   obtain ⟨hcq,hfq⟩ := bcell hC
   simp at hd
   refine ⟨by go_simp; done, ?_⟩
   go_simp
   first | (go_ints; exact rfl) | (go_ints; rw [if_pos (by omega)]; try exact rfl) | exact rfl | (rw [if_pos (by omega)]; try exact rfl)
 refine walkM_eq (.int .i64 mx) ?_ ?_
 ·intro yq zq wq hC hd
  obtain ⟨hcq,hfq⟩ := bcell hC
  simp at hd
  refine ⟨by go_simp; done, ?_⟩
  go_simp
  (rw [← MX.out]; split <;> omega)
 refine walkM_call (MP.eq (.bool false)) ?_ ?_
 ·intro yq zq wq hC hd
  obtain ⟨hcq,hfq⟩ := bcell hC
  simp at hd
  refine ⟨by go_simp; done, ?_⟩
  apply Exists.intro
  apply Exists.intro
  constructor
  ·go_simp
   exact ⟨rfl,rfl⟩
  ·exact gives_eq (by have C := impl_within xc lx mx wq; rw [BX.out] at C; exact C)
 apply walkM_eq
 case h =>
  intro yq zq wq hC hd
  obtain ⟨hcq,hfq⟩ := bcell hC
  simp at hd
  refine ⟨by go_simp; done, ?_⟩
  go_simp
  first | (go_ints; exact rfl) | (go_ints; rw [if_pos (by omega)]; try exact rfl) | exact rfl | (rw [if_pos (by omega)]; try exact rfl)
 iterate 28
  apply walkM_skip
  case h =>
   intro yq zq wq hC hd
   simp at hd
   go_simp
   done
 iterate 2
  apply walkM_eq
  case h =>
   intro yq zq wq hC hd
   obtain ⟨hcq,hfq⟩ := bcell hC
   simp at hd
   refine ⟨by go_simp; done, ?_⟩
   go_simp
   first | (go_ints; exact rfl) | (go_ints; rw [if_pos (by omega)]; try exact rfl) | exact rfl | (rw [if_pos (by omega)]; try exact rfl)
 intro yq zq wa hC hd hdis0
 have hdis := hid hdis0
 clear hdis0
 simp at hd
 go_simp
 clear hd hdis
 go_wp2
 go_ret
 rw [← E.out]
 exact ⟨by simp,by (with_reducible repeat first | exact Below.refl _ _ | (refine Below.set ?_ ?_ _; rotate_left; (simp <;> omega)) | refine Below.box_ ?_ _ | refine Below.next ?_ (by assumption))⟩
end Go.Proofs.YtpfipnankjeokaaGreat.X

/- Placements: a point inside an edge (one case). Written by gen_plc.py. -/
namespace Go.Proofs.YtpfipnankjeokaaGreat.X
open Go.RowKit Go.XB Go.XN
attribute [local go_sem] fillBy opAt deps depOf Region.wanted yielded
attribute [local simp] deps depOf MP.eq MP.agg MP.sl Facts
set_option linter.constructorNameAsVariable false

set_option maxHeartbeats 8000000 in
set_option maxRecDepth 10000 in
theorem isInside_true (v : Value) (n : Nat) (xs ys : List Int) (a b c : Int) (w : World) (hp : Plc w v n xs ys) (hsx : Small xs) (hsy : Small ys) (ha : 0 ≤ a ∧ a < n) (hb : 0 ≤ b ∧ b < n) (hc : 0 ≤ c ∧ c < n) (ht : turnI xs ys a b c = 0) (hbx : inB (min (at0 xs a) (at0 xs b)) (at0 xs c) (max (at0 xs a) (at0 xs b)) = true) :
  Calls Tryz.prog 128 #[v, .int .i64 a, .int .i64 b, .int .i64 c] w (Gives w (.bool (insideI xs ys a b c))) := by
 have HP := hid hp
 obtain ⟨A,cA,X,oX,cX,Y,oY,cY,bX,bY,rfl,hX,hY⟩ := hp
 have CT := hid (impl_turn _ n xs ys a b c (w.alloc (.cells #[.slice A n cA, .slice (some ⟨X,oX,none⟩) n cX, .slice (some ⟨Y,oY,none⟩) n cY] 111)) (HP.out.below (Below.box _)) hsx hsy ha hb hc)
 have T0 := hid ht
 obtain ⟨ja,rfl⟩ := Int.eq_ofNat_of_zero_le ha.1
 obtain ⟨jb,rfl⟩ := Int.eq_ofNat_of_zero_le hb.1
 obtain ⟨jc,rfl⟩ := Int.eq_ofNat_of_zero_le hc.1
 obtain ⟨_, _,xa,e1,hXl,hxa, _,cxa⟩ := Sl.getInt hX (show ja < n by omega); cases e1
 obtain ⟨_, _,xb,e1, _,hxb, _,cxb⟩ := Sl.getInt hX (show jb < n by omega); cases e1
 obtain ⟨_, _,xc,e1, _,hxc, _,cxc⟩ := Sl.getInt hX (show jc < n by omega); cases e1
 obtain ⟨_, _,ya,e1,hYl,hya, _,cya⟩ := Sl.getInt hY (show ja < n by omega); cases e1
 obtain ⟨_, _,yb,e1, _,hyb, _,cyb⟩ := Sl.getInt hY (show jb < n by omega); cases e1
 obtain ⟨_, _,yc,e1, _,hyc, _,cyc⟩ := Sl.getInt hY (show jc < n by omega); cases e1
 have A0 : at0 xs ja = xa := by unfold at0; simp [List.getD,hxa]
 have A1 : at0 xs jb = xb := by unfold at0; simp [List.getD,hxb]
 have A2 : at0 xs jc = xc := by unfold at0; simp [List.getD,hxc]
 have A3 : at0 ys ja = ya := by unfold at0; simp [List.getD,hya]
 have A4 : at0 ys jb = yb := by unfold at0; simp [List.getD,hyb]
 have A5 : at0 ys jc = yc := by unfold at0; simp [List.getD,hyc]
 rw [A0,A1,A2] at hbx
 have BX := hid hbx
 obtain ⟨lx,hlx⟩ : ∃ l,min xa xb = l := ⟨_,rfl⟩
 obtain ⟨mx,hmx⟩ : ∃ l,max xa xb = l := ⟨_,rfl⟩
 obtain ⟨ly,hly⟩ : ∃ l,min ya yb = l := ⟨_,rfl⟩
 obtain ⟨my,hmy⟩ : ∃ l,max ya yb = l := ⟨_,rfl⟩
 rw [hlx,hmx] at BX hbx
 have E := hid (show (inB lx xc mx && inB ly yc my) = insideI xs ys ja jb jc by
  unfold insideI; rw [A0,A1,A2,A3,A4,A5,T0.out,hlx,hmx,hly,hmy]; simp)
 have LX := hid hlx; have MX := hid hmx; have LY := hid hly; have MY := hid hmy
 obtain ⟨by_,hby⟩ : ∃ b,inB ly yc my = b := ⟨_,rfl⟩
 have BY := hid hby
 rw [hby,hbx] at E
 have hja : (ja : Int) < n := ha.2
 have hjb : (jb : Int) < n := hb.2
 have hjc : (jc : Int) < n := hc.2
 clear hX hY hxa hxb hxc hya hyb hyc hsx hsy ha hb hc ht hby hbx hlx hmx hly hmy A0 A1 A2 A3 A4 A5
 go_enter Tryz.func128,Tryz.ntmps128
 go_wp2_with fail
 have C := CT.out
 rw [T0.out] at C
 refine C.mono ?_
 clear C
 rintro _ w1 ⟨rfl,hb1⟩
 obtain ⟨hc_w1,hf_w1⟩ := bcell hb1
 have hz0_w1 : w.heap.size < w1.heap.size := by have := hb1.size; (try simp at this); omega
 have hX1 : X < w1.heap.size := by have := hb1.size; simp at this; omega
 have hY1 : Y < w1.heap.size := by have := hb1.size; simp at this; omega
 go_wp2_with fail
 refine wp_region_walk (by kernel_rfl) (by kernel_rfl) (by kernel_rfl) ?_
 iterate 15
  apply walkM_eq
  case h =>
   intro yq zq wq hC hd
   obtain ⟨hcq,hfq⟩ := bcell hC
   simp at hd
   refine ⟨by go_simp; done, ?_⟩
   go_simp
   first | (go_ints; exact rfl) | (go_ints; rw [if_pos (by omega)]; try exact rfl) | exact rfl | (rw [if_pos (by omega)]; try exact rfl)
 refine walkM_eq (.int .i64 lx) ?_ ?_
 ·intro yq zq wq hC hd
  obtain ⟨hcq,hfq⟩ := bcell hC
  simp at hd
  refine ⟨by go_simp; done, ?_⟩
  go_simp
  (rw [← LX.out]; split <;> omega)
 iterate 10
  apply walkM_eq
  case h =>
   intro yq zq wq hC hd
   obtain ⟨hcq,hfq⟩ := bcell hC
   simp at hd
   refine ⟨by go_simp; done, ?_⟩
   go_simp
   first | (go_ints; exact rfl) | (go_ints; rw [if_pos (by omega)]; try exact rfl) | exact rfl | (rw [if_pos (by omega)]; try exact rfl)
 refine walkM_eq (.int .i64 mx) ?_ ?_
 ·intro yq zq wq hC hd
  obtain ⟨hcq,hfq⟩ := bcell hC
  simp at hd
  refine ⟨by go_simp; done, ?_⟩
  go_simp
  (rw [← MX.out]; split <;> omega)
 refine walkM_call (MP.eq (.bool true)) ?_ ?_
 ·intro yq zq wq hC hd
  obtain ⟨hcq,hfq⟩ := bcell hC
  simp at hd
  refine ⟨by go_simp; done, ?_⟩
  apply Exists.intro
  apply Exists.intro
  constructor
  ·go_simp
   exact ⟨rfl,rfl⟩
  ·exact gives_eq (by have C := impl_within xc lx mx wq; rw [BX.out] at C; exact C)
 apply walkM_eq
 case h =>
  intro yq zq wq hC hd
  obtain ⟨hcq,hfq⟩ := bcell hC
  simp at hd
  refine ⟨by go_simp; done, ?_⟩
  go_simp
  first | (go_ints; exact rfl) | (go_ints; rw [if_pos (by omega)]; try exact rfl) | exact rfl | (rw [if_pos (by omega)]; try exact rfl)
 iterate 15
  apply walkM_eq
  case h =>
   intro yq zq wq hC hd
   obtain ⟨hcq,hfq⟩ := bcell hC
   simp at hd
   refine ⟨by go_simp; done, ?_⟩
   go_simp
   first | (go_ints; exact rfl) | (go_ints; rw [if_pos (by omega)]; try exact rfl) | exact rfl | (rw [if_pos (by omega)]; try exact rfl)
 refine walkM_eq (.int .i64 ly) ?_ ?_
 ·intro yq zq wq hC hd
  obtain ⟨hcq,hfq⟩ := bcell hC
  simp at hd
  refine ⟨by go_simp; done, ?_⟩
  go_simp
  (rw [← LY.out]; split <;> omega)
 iterate 10
  apply walkM_eq
  case h =>
   intro yq zq wq hC hd
   obtain ⟨hcq,hfq⟩ := bcell hC
   simp at hd
   refine ⟨by go_simp; done, ?_⟩
   go_simp
   first | (go_ints; exact rfl) | (go_ints; rw [if_pos (by omega)]; try exact rfl) | exact rfl | (rw [if_pos (by omega)]; try exact rfl)
 refine walkM_eq (.int .i64 my) ?_ ?_
 ·intro yq zq wq hC hd
  obtain ⟨hcq,hfq⟩ := bcell hC
  simp at hd
  refine ⟨by go_simp; done, ?_⟩
  go_simp
  (rw [← MY.out]; split <;> omega)
 refine walkM_call (MP.eq (.bool by_)) ?_ ?_
 ·intro yq zq wq hC hd
  obtain ⟨hcq,hfq⟩ := bcell hC
  simp at hd
  refine ⟨by go_simp; done, ?_⟩
  apply Exists.intro
  apply Exists.intro
  constructor
  ·go_simp
   exact ⟨rfl,rfl⟩
  ·exact gives_eq (by have C := impl_within yc ly my wq; rw [BY.out] at C; exact C)
 iterate 2
  apply walkM_eq
  case h =>
   intro yq zq wq hC hd
   obtain ⟨hcq,hfq⟩ := bcell hC
   simp at hd
   refine ⟨by go_simp; done, ?_⟩
   go_simp
   first | (go_ints; exact rfl) | (go_ints; rw [if_pos (by omega)]; try exact rfl) | exact rfl | (rw [if_pos (by omega)]; try exact rfl)
 intro yq zq wa hC hd hdis0
 have hdis := hid hdis0
 clear hdis0
 simp at hd
 go_simp
 clear hd hdis
 go_wp2
 go_ret
 rw [← E.out]
 exact ⟨by simp,by (with_reducible repeat first | exact Below.refl _ _ | (refine Below.set ?_ ?_ _; rotate_left; (simp <;> omega)) | refine Below.box_ ?_ _ | refine Below.next ?_ (by assumption))⟩
end Go.Proofs.YtpfipnankjeokaaGreat.X

/- Placements: a point inside an edge. Written by gen_plc.py. -/
namespace Go.Proofs.YtpfipnankjeokaaGreat.X
open Go.RowKit Go.XB Go.XN
attribute [local go_sem] fillBy opAt deps depOf Region.wanted yielded
attribute [local simp] deps depOf MP.eq MP.agg MP.sl Facts
set_option linter.constructorNameAsVariable false

set_option maxHeartbeats 4000000 in
set_option maxRecDepth 10000 in
theorem impl_isInside (v : Value) (n : Nat) (xs ys : List Int) (a b c : Int) (w : World) (hp : Plc w v n xs ys) (hsx : Small xs) (hsy : Small ys) (ha : 0 ≤ a ∧ a < n) (hb : 0 ≤ b ∧ b < n) (hc : 0 ≤ c ∧ c < n) :
  Calls Tryz.prog 128 #[v, .int .i64 a, .int .i64 b, .int .i64 c] w (Gives w (.bool (insideI xs ys a b c))) := by
 by_cases ht : turnI xs ys a b c = 0
 ·cases hbx : inB (min (at0 xs a) (at0 xs b)) (at0 xs c) (max (at0 xs a) (at0 xs b))
  ·exact isInside_false v n xs ys a b c w hp hsx hsy ha hb hc ht hbx
  ·exact isInside_true v n xs ys a b c w hp hsx hsy ha hb hc ht hbx
 ·have HP := hid hp
  obtain ⟨A,cA,X,oX,cX,Y,oY,cY,bX,bY,rfl,hX,hY⟩ := hp
  have CT := hid (impl_turn _ n xs ys a b c (w.alloc (.cells #[.slice A n cA, .slice (some ⟨X,oX,none⟩) n cX, .slice (some ⟨Y,oY,none⟩) n cY] 111)) (HP.out.below (Below.box _)) hsx hsy ha hb hc)
  have E := hid (show false = insideI xs ys a b c by unfold insideI; rw [decide_eq_false ht]; rfl)
  obtain ⟨r,hr⟩ : ∃ r,turnI xs ys a b c = r := ⟨_,rfl⟩
  rw [hr] at ht
  have R := hid hr
  have hrb : (r == 0) = false := by simp [ht]
  clear hX hY hsx hsy ha hb hc hr
  go_enter Tryz.func128,Tryz.ntmps128
  go_wp2_with fail
  have C := CT.out
  rw [R.out] at C
  refine C.mono ?_
  clear C
  rintro _ w1 ⟨rfl,hb1⟩
  go_wp2
  go_ret
  rw [← E.out]
  exact ⟨rfl,by (with_reducible repeat first | exact Below.refl _ _ | (refine Below.set ?_ ?_ _; rotate_left; (simp <;> omega)) | refine Below.box_ ?_ _ | refine Below.next ?_ (by assumption))⟩
end Go.Proofs.YtpfipnankjeokaaGreat.X
