/- Part of a claim's proof: texts of this repository's wip,joined by prune.py,without the theorems that the claim does not reach. -/
import Derived.Test.YtpfipnankjeokaaGreatY22
import Derived.Test.YtpfipnankjeokaaGreatY16
import Derived.Deep.RegionHeld3
set_option linter.constructorNameAsVariable false
namespace Go.Proofs.YtpfipnankjeokaaGreat.X
open Go.RowKit Go.XB Go.XN
attribute [local go_sem] fillBy opAt deps depOf Region.wanted yielded
attribute [local simp] deps depOf MP.eq MP.agg MP.sl MP.slbox Facts
theorem flat_len {xs : List Value} {K : Nat} (hx : xs.length = K) : ∀ n,(List.replicate n xs).flatten.length = n * K
 | 0 => by simp
 | n + 1 => by rw [List.replicate_succ,List.flatten_cons,List.length_append,flat_len hx n,hx,Nat.add_mul]; omega
theorem flat_mem {xs : List Value} {v : Value} : ∀ {n},v ∈ (List.replicate n xs).flatten → v ∈ xs
 | 0,h => by simp at h
 | n + 1,h => by
  rw [List.replicate_succ,List.flatten_cons] at h
  rcases List.mem_append.1 h with h | h
  ·exact h
  ·exact flat_mem h
theorem flat_add (xs : List Value) (a b : Nat) : (List.replicate (a + b) xs).flatten = (List.replicate a xs).flatten ++ (List.replicate b xs).flatten := by
 rw [← List.replicate_append_replicate,List.flatten_append]
theorem flat_take {xs : List Value} {K : Nat} (hx : xs.length = K) {a b : Nat} (h : a ≤ b) : ((List.replicate b xs).flatten).take (a * K) = (List.replicate a xs).flatten := by
 obtain ⟨d,rfl⟩ := Nat.exists_eq_add_of_le h
 rw [flat_add,List.take_append_of_le_length (by rw [flat_len hx]; exact Nat.le_refl _),List.take_of_length_le (by rw [flat_len hx]; exact Nat.le_refl _)]
def RepSt (w wr : World) (g n K : Nat) (E : TypeId) (xs : List Value) (k : Nat) : Prop :=
 ∃ cur : Array Value,wr.heap[g]? = some (.cells cur E (0,0)) ∧ cur.size = n * K ∧ cur.toList.take (k * K) = (List.replicate k xs).flatten ∧ k ≤ n ∧ (0 < n → 0 < k) ∧ Below w.heap.size w wr ∧ w.heap.size ≤ g
theorem RepSt.step {w wr wa : World} {g n K : Nat} {E : TypeId} {xs : List Value} {k : Nat} (hx : xs.length = K) (h1 : ∀ v ∈ xs,v.oneCell' = true) (h : RepSt w wr g n K E xs k) (hb : Below wr.heap.size wr wa) {P : Program} {T : TypeId} (hu : P.underlying T = some (.slice E)) (hs : (P.info? E).map (·.size) = some K) (hk : k < n) (o : Nat) (ho : o = k * K) :
  ∃ w',(∀ ty dc sc,(Builtin.copy_ #[T,T] ty #[.slice (some ⟨g,o,none⟩) (n - k) dc, .slice (some ⟨g,0,none⟩) k sc]).run P wa = .ok (.int .i64 (min k (n - k) : Nat)) w') ∧ RepSt w w' g n K E xs (k + min k (n - k)) := by
 subst ho
 obtain ⟨cur,hg,hsz,htk,hkn,hk0,hbl,hlo⟩ := h
 have hga : wa.heap[g]? = some (.cells cur E (0,0)) := by rw [hb.block g (lt_of_get hg)]; exact hg
 obtain ⟨m,hm⟩ : ∃ m,m = min k (n - k) := ⟨_,rfl⟩
 have hmk : m ≤ k ∧ m ≤ n - k ∧ 0 < m := by have := hk0 (by omega); omega
 have hm2 : Nat.min k (n - k) = m := hm.symm
 have hle : k * K + m * K ≤ n * K := by rw [← Nat.add_mul]; exact Nat.mul_le_mul_right _ (by omega)
 refine ⟨wa.setRow g (lput cur.toList (k * K) (List.replicate m xs).flatten).toArray,fun ty dc sc => ?_, ?_⟩
 ·have := run_copy_eq (P := P) (w := wa) (k := K) (g := g) (o := k * K) (dLen := n - k) (dCap := dc) (sLen := k) (sCap := sc) (a := ⟨g,0,none⟩) (ty := ty) hu hs hga (cs := (List.replicate m xs).flatten)
   (by rw [flat_len hx,hm2]) (fun j v hj => row_cells hga 0 j v (by
    rw [List.drop_zero]
    have : ((List.replicate k xs).flatten)[j]? = some v := by
     rw [← flat_take hx hmk.1,List.getElem?_take] at hj
     split at hj
     ·exact hj
     ·cases hj
    rw [← htk,List.getElem?_take] at this
    split at this
    ·exact this
    ·cases this)) (by rw [flat_len hx,hsz]; exact hle) (fun v hv => h1 v (flat_mem hv))
  rw [hm2] at this
  rw [← hm]
  exact this
 ·rw [← hm]
  have hll : k * K + (List.replicate m xs).flatten.length ≤ cur.toList.length := by rw [flat_len hx]; simpa [hsz] using hle
  refine ⟨_,setRow_heap wa g cur _ _ _ hga,by simpa [hsz] using lput_length hll, ?_,by omega,fun _ => by omega,Below.trans hbl ⟨hb.os,hb.tape,hb.output, ?_,fun b hb' => ?_⟩,hlo⟩
  ·rw [List.toList_toArray,flat_add, ← htk]
   unfold lput
   rw [Nat.add_mul,List.append_assoc,List.take_append,List.take_of_length_le (by simp; omega)]
   congr 1
   rw [show k * K + m * K - (cur.toList.take (k * K)).length = m * K by rw [List.length_take]; have h5 : cur.toList.length = n * K := (by simpa using hsz); omega]
   rw [List.take_append_of_le_length (by rw [flat_len hx]; exact Nat.le_refl _),List.take_of_length_le (by rw [flat_len hx]; exact Nat.le_refl _)]
  ·have := hb.size; have := hbl.size; simp [World.setRow]; omega
  ·rw [setRow_other wa g b _ (by omega)]; exact hb.block b (by have := hbl.size; omega)
theorem RepSt.start {w w1 : World} {g n K vb : Nat} {E : TypeId} {xs cells : List Value} (hx : xs.length = K) (h1 : ∀ v ∈ xs,v.oneCell' = true) (hown : w1.ownsRow w.heap.size E K (.slice (some ⟨g,0,none⟩) n n) n cells) (hb : Below w.heap.size w w1) (hv : w1.heap[vb]? = some (.cells xs.toArray E)) {P : Program} {T : TypeId} (hu : P.underlying T = some (.slice E)) (hs : (P.info? E).map (·.size) = some K) :
  ∃ w',(∀ ty,(Builtin.copy_ #[T,T] ty #[.slice (some ⟨g,0,none⟩) n n, .slice (some ⟨vb,0,none⟩) 1 1]).run P w1 = .ok (.int .i64 (min 1 n : Nat)) w') ∧ RepSt w w' g n K E xs (min 1 n) := by
 obtain ⟨cur,hbg,hg,hcs⟩ : ∃ cur,w.heap.size ≤ g ∧ w1.heap[g]? = some (.cells cur E (0,0)) ∧ cur.size = n * K := by
  rcases hown.2 with ⟨h', _⟩ | ⟨g',cap',cur,hvv,k1,k2,k3,k4,k5,k6⟩
  ·cases h'
  ·cases hvv; exact ⟨cur,k1,k2,k5⟩
 obtain ⟨m,hm⟩ : ∃ m,m = min 1 n := ⟨_,rfl⟩
 have hm2 : Nat.min 1 n = m := hm.symm
 have hmn : m ≤ n := by omega
 have hle : m * K ≤ n * K := Nat.mul_le_mul_right _ hmn
 have hfl : (List.replicate m xs).flatten.length = m * K := flat_len hx m
 refine ⟨w1.setRow g (lput cur.toList 0 (List.replicate m xs).flatten).toArray,fun ty => ?_, ?_⟩
 ·have := run_copy_eq (P := P) (w := w1) (k := K) (g := g) (o := 0) (dLen := n) (dCap := n) (sLen := 1) (sCap := 1) (a := ⟨vb,0,none⟩) (ty := ty) hu hs hg (cs := (List.replicate m xs).flatten)
   (by rw [flat_len hx,hm2]) (fun j v hj => by
    have hm1 : m = 0 ∨ m = 1 := by omega
    rcases hm1 with h0 | h0
    ·rw [h0] at hj; simp at hj
    ·rw [h0] at hj; simp at hj; exact block_cells hv j v (by simpa using hj)) (by rw [hfl,hcs]; omega) (fun v hv => h1 v (flat_mem hv))
  rw [hm2] at this
  rw [← hm]
  exact this
 ·rw [← hm]
  have hll : 0 + (List.replicate m xs).flatten.length ≤ cur.toList.length := by
   have h5 : cur.toList.length = n * K := by simpa using hcs
   omega
  refine ⟨_,setRow_heap w1 g cur _ _ _ hg,by simpa [hcs] using lput_length hll, ?_,hmn,fun _ => by omega,Below.trans hb ⟨rfl,rfl,rfl,by simp [World.setRow],fun b hb' => setRow_other w1 g b _ (by omega)⟩,hbg⟩
  rw [List.toList_toArray]
  unfold lput
  rw [List.take_zero,List.nil_append,List.take_append_of_le_length (by rw [hfl]; exact Nat.le_refl _),List.take_of_length_le (by rw [hfl]; exact Nat.le_refl _)]
theorem RepSt.done {w wr : World} {g n K : Nat} {E : TypeId} {xs : List Value} (hx : xs.length = K) (hn : n ≤ maxLen) (h : RepSt w wr g n K E xs n) : wr.ownsRow w.heap.size E K (.slice (some ⟨g,0,none⟩) n n) n (List.replicate n xs).flatten ∧ Below w.heap.size w wr := by
 obtain ⟨cur,hg,hsz,htk, _, _,hbl,hlo⟩ := h
 exact ⟨⟨flat_len hx n, .inr ⟨g,n,cur,rfl,hlo,hg,Nat.le_refl _,hn,hsz,htk⟩⟩,hbl⟩
theorem infoI1 : (Tryz.prog.info? 3).map (fun i => (i.zero,i.size,i.bytes)) = some (some (.int .i64 0),1,8) := by kernel_rfl
set_option maxHeartbeats 4000000 in
set_option maxRecDepth 10000 in
theorem repeat_I1 (vb n : Nat) (xs : List Value) (w : World) (hv : w.heap[vb]? = some (.cells xs.toArray 3)) (hx : xs.length = 1) (h1 : ∀ v ∈ xs,v.oneCell' = true) (hn : n ≤ 40) :
  Calls Tryz.prog 179 #[.slice (some ⟨vb,0,none⟩) 1 1, .int .i64 n] w fun e w' => e = .returned (.slice (some ⟨w.heap.size,0,none⟩) n n) ∧ w'.ownsRow w.heap.size 3 1 (.slice (some ⟨w.heap.size,0,none⟩) n n) n (List.replicate n xs).flatten ∧ Below w.heap.size w w' := by
 obtain ⟨i0,hi,hz0,hz1,hz2⟩ := info_parts infoI1
 have hsz : (Tryz.prog.info? 3).map (·.size) = some 1 := by rw [hi]; simp [hz1]
 have b2 := hid (show i0.bytes * n ≤ 281474976710656 by rw [hz2]; omega)
 have b3 := hid (show n ≤ maxLen by unfold maxLen; omega)
 have hn0 : ¬ ((n : Int) < 0) := by omega
 have hwu : IntKind.u64.wrap (n : Int) = n := by rw [IntKind.wrap_u64]; omega
 have hwi : IntKind.i64.wrap (n : Int) = n := by rw [IntKind.wrap_i64]; omega
 have hbig : ¬ ((9223372036854775807 : Int) < n) := by omega
 have hvl := lt_of_get hv
 have HV := hid hv; have H1 := hid h1
 clear hv h1
 go_enter Tryz.func179,Tryz.ntmps179
 go_upto_region 4 with (go_at_call 180; refine (bits_Mul_one n hn w).mono ?_; rintro e w' ⟨rfl,hw⟩; obtain rfl := hw.symm)
 go_upto_region 7 with (at_make; (refine wpList_make_full _ rfl _ _ 28 rfl w.heap.size 3 i0 (.int .i64 0) 1 Tryz.underlying28 hi hz0 hz1 .i64 .i64 _ _ n rfl rfl rfl rfl b2.out b3.out (Nat.le_refl _) ?_); intro w1 hown1 hgrow1)
 have hb1 := (Below.refl w.heap.size w).grown hgrow1 (Nat.le_refl _) (by intro k hk; cases hk)
 have hv1 : w1.heap[vb]? = some (.cells xs.toArray 3) := by rw [hb1.block vb hvl]; exact HV.out
 obtain ⟨w2,hcp,hrs⟩ := RepSt.start hx H1.out hown1 hb1 hv1 Tryz.underlying28 hsz
 obtain ⟨m0,hm0⟩ : ∃ m0,m0 = min 1 n := ⟨_,rfl⟩
 rw [← hm0] at hrs hcp
 have HM0 := hid hm0
 clear hm0
 have HRS := hid hrs
 clear hown1 hgrow1 hb1 hv1 hrs HV hvl
 go_wp2_with fail
 go_loopg [8] n (fun g s wr => ∃ k : Nat,n ≤ k + g ∧ s = .int .i64 k ∧ Hid (RepSt w wr w.heap.size n 1 3 xs k))
 case atStart => exact ⟨m0,by have := HM0.out; omega,rfl,HRS.out⟩
 case round =>
  clear HRS hcp
  obtain ⟨k,hk,rfl,hst⟩ := hrel
  obtain ⟨_, _, _, _,hkn, _⟩ := hst.out
  rcases Nat.lt_or_ge k n with hlt | hge
  ·have hki : (k : Int) < n := by omega
   obtain ⟨g,rfl⟩ : ∃ g,gk = g + 1 := ⟨gk - 1,by omega⟩
   have hk' := hid hk
   clear hk
   go_wp2_with fail
   obtain ⟨m,hm⟩ : ∃ m,m = min k (n - k) := ⟨_,rfl⟩
   have hmk := hid (show 0 < k from (by obtain ⟨_, _, _, _, _,h5, _⟩ := hst.out; exact h5 (by omega)))
   obtain ⟨w9,hcp,hs9⟩ := hst.out.step hx H1.out (Below.drew (Below.refl wr.heap.size wr)) Tryz.underlying28 hsz hlt (k) (by omega)
   rw [← hm] at hcp hs9
   have HM := hid hm
   have HS9 := hid hs9
   have hwk : IntKind.i64.wrap ((k : Int) + m) = ((k + m : Nat) : Int) := by rw [IntKind.wrap_i64]; omega
   have hk0i : (0 : Int) ≤ k := by omega
   have hkni : (k : Int) ≤ n := by omega
   clear hs9 hst hm
   go_region_held3 (fun w' => True) (trivial) (fail)
   all_goals go_wp2_with fail
   go_roundg g
   case measure => omega
   case rel => exact ⟨k + m,by have := hk'.out; have := hmk.out; have := HM.out; omega,by go_num,HS9⟩
  ·obtain rfl : k = n := by omega
   have hii : ¬ ((k : Int) < k) := by omega
   obtain ⟨d1,d2⟩ := hst.out.done hx b3.out
   have D1 := hid d1; have D2 := hid d2
   clear d1 d2 hst
   go_wp2
   go_ret
   exact ⟨rfl,D1.out,D2.out⟩
theorem infoR1 : (Tryz.prog.info? 32).map (fun i => (i.zero,i.size,i.bytes)) = some (some (.agg #[.bool false, .slice none 0 0, .slice none 0 0]),3,56) := by kernel_rfl
set_option maxHeartbeats 4000000 in
set_option maxRecDepth 10000 in
theorem repeat_R1 (vb n : Nat) (xs : List Value) (w : World) (hv : w.heap[vb]? = some (.cells xs.toArray 32)) (hx : xs.length = 3) (h1 : ∀ v ∈ xs,v.oneCell' = true) (hn : n ≤ 40) :
  Calls Tryz.prog 149 #[.slice (some ⟨vb,0,none⟩) 1 1, .int .i64 n] w fun e w' => e = .returned (.slice (some ⟨w.heap.size,0,none⟩) n n) ∧ w'.ownsRow w.heap.size 32 3 (.slice (some ⟨w.heap.size,0,none⟩) n n) n (List.replicate n xs).flatten ∧ Below w.heap.size w w' := by
 obtain ⟨i0,hi,hz0,hz1,hz2⟩ := info_parts infoR1
 have hsz : (Tryz.prog.info? 32).map (·.size) = some 3 := by rw [hi]; simp [hz1]
 have b2 := hid (show i0.bytes * n ≤ 281474976710656 by rw [hz2]; omega)
 have b3 := hid (show n ≤ maxLen by unfold maxLen; omega)
 have hn0 : ¬ ((n : Int) < 0) := by omega
 have hwu : IntKind.u64.wrap (n : Int) = n := by rw [IntKind.wrap_u64]; omega
 have hwi : IntKind.i64.wrap (n : Int) = n := by rw [IntKind.wrap_i64]; omega
 have hbig : ¬ ((9223372036854775807 : Int) < n) := by omega
 have hvl := lt_of_get hv
 have HV := hid hv; have H1 := hid h1
 clear hv h1
 go_enter Tryz.func149,Tryz.ntmps149
 go_upto_region 4 with (go_at_call 180; refine (bits_Mul_one n hn w).mono ?_; rintro e w' ⟨rfl,hw⟩; obtain rfl := hw.symm)
 go_upto_region 7 with (at_make; (refine wpList_make_full _ rfl _ _ 36 rfl w.heap.size 32 i0 (.agg #[.bool false, .slice none 0 0, .slice none 0 0]) 3 Tryz.underlying36 hi hz0 hz1 .i64 .i64 _ _ n rfl rfl rfl rfl b2.out b3.out (Nat.le_refl _) ?_); intro w1 hown1 hgrow1)
 have hb1 := (Below.refl w.heap.size w).grown hgrow1 (Nat.le_refl _) (by intro k hk; cases hk)
 have hv1 : w1.heap[vb]? = some (.cells xs.toArray 32) := by rw [hb1.block vb hvl]; exact HV.out
 obtain ⟨w2,hcp,hrs⟩ := RepSt.start hx H1.out hown1 hb1 hv1 Tryz.underlying36 hsz
 obtain ⟨m0,hm0⟩ : ∃ m0,m0 = min 1 n := ⟨_,rfl⟩
 rw [← hm0] at hrs hcp
 have HM0 := hid hm0
 clear hm0
 have HRS := hid hrs
 clear hown1 hgrow1 hb1 hv1 hrs HV hvl
 go_wp2_with fail
 go_loopg [8] n (fun g s wr => ∃ k : Nat,n ≤ k + g ∧ s = .int .i64 k ∧ Hid (RepSt w wr w.heap.size n 3 32 xs k))
 case atStart => exact ⟨m0,by have := HM0.out; omega,rfl,HRS.out⟩
 case round =>
  clear HRS hcp
  obtain ⟨k,hk,rfl,hst⟩ := hrel
  obtain ⟨_, _, _, _,hkn, _⟩ := hst.out
  rcases Nat.lt_or_ge k n with hlt | hge
  ·have hki : (k : Int) < n := by omega
   obtain ⟨g,rfl⟩ : ∃ g,gk = g + 1 := ⟨gk - 1,by omega⟩
   have hk' := hid hk
   clear hk
   go_wp2_with fail
   obtain ⟨m,hm⟩ : ∃ m,m = min k (n - k) := ⟨_,rfl⟩
   have hmk := hid (show 0 < k from (by obtain ⟨_, _, _, _, _,h5, _⟩ := hst.out; exact h5 (by omega)))
   obtain ⟨w9,hcp,hs9⟩ := hst.out.step hx H1.out (Below.drew (Below.refl wr.heap.size wr)) Tryz.underlying36 hsz hlt (k * 3) (by omega)
   rw [← hm] at hcp hs9
   have HM := hid hm
   have HS9 := hid hs9
   have hwk : IntKind.i64.wrap ((k : Int) + m) = ((k + m : Nat) : Int) := by rw [IntKind.wrap_i64]; omega
   have hk0i : (0 : Int) ≤ k := by omega
   have hkni : (k : Int) ≤ n := by omega
   clear hs9 hst hm
   go_region_held3 (fun w' => True) (trivial) (fail)
   all_goals go_wp2_with fail
   go_roundg g
   case measure => omega
   case rel => exact ⟨k + m,by have := hk'.out; have := hmk.out; have := HM.out; omega,by go_num,HS9⟩
  ·obtain rfl : k = n := by omega
   have hii : ¬ ((k : Int) < k) := by omega
   obtain ⟨d1,d2⟩ := hst.out.done hx b3.out
   have D1 := hid d1; have D2 := hid d2
   clear d1 d2 hst
   go_wp2
   go_ret
   exact ⟨rfl,D1.out,D2.out⟩
end Go.Proofs.YtpfipnankjeokaaGreat.X
