/- Part of a claim's proof: texts of this repository's wip,joined by prune.py,without the theorems that the claim does not reach. -/
import Derived.Test.YtpfipnankjeokaaGreatY21
import Derived.Test.YtpfipnankjeokaaGreatY18
import Derived.Test.YtpfipnankjeokaaGreatY26
import Derived.Test.YtpfipnankjeokaaGreatY27
set_option linter.constructorNameAsVariable false
namespace Go.XB
open Go.RowKit Go.Proofs.YtpfipnankjeokaaGreat.X
theorem grown_other {w w1 w2 : World} {r : Option Nat} {x : Nat} (h : w.grownBy w1 r) (h2 : w1.grownBy w2 (some x)) (hx : w.heap.size ≤ x) : w.grownBy w2 r :=
 ⟨h2.os.trans h.os,h2.tape.trans h.tape,h2.output.trans h.output,Nat.le_trans h.size h2.size,fun k hk hne => (h2.block k (Nat.lt_of_lt_of_le hk h.size) (by intro e; injection e with e; omega)).trans (h.block k hk hne)⟩
theorem Sl.grown {α : Type} [Dat α] {w w' : World} {A : Option Addr} {n c g : Nat} {xs : List α} {bs : List Nat} (h : Sl w A n c xs bs) (hg : w.grownBy w' (some g)) (hn : g ∉ bs) : Sl w' A n c xs bs :=
 h.keep fun b hb => hg.block b (h.lt b hb) (by intro e; injection e with e; exact hn (e ▸ hb))
section
variable {α : Type} [Dat α]
def PC (w : World) (e : TypeId) (wr : World) (gB i cap : Nat) (ps : List α) (zs : List Nat) : Prop :=
 ∃ cells fss,wr.ownsRow w.heap.size e (Dat.sz α) (.slice (some ⟨gB,0,none⟩) i cap) i cells ∧ Filled wr cells ps fss ∧ ps.length = i ∧ zs = fss.flatten ∧ gB ∉ zs ∧ ∀ b ∈ zs,w.heap.size ≤ b
variable {w wr wa : World} {e : TypeId} {gB i cap : Nat} {ps : List α} {zs : List Nat}
theorem PC.start {w2 : World} (h : w.heap.size ≤ w2.heap.size) : PC (α := α) w e (w2.alloc (.cells #[] e)) w2.heap.size 0 0 [] [] :=
 ⟨[], [],World.ownsRow_made w2 #[] 0 h (Nat.zero_le _) (by simp),Filled.nil _ _,rfl,rfl,by simp,by simp⟩
theorem PC.lt (h : PC w e wr gB i cap ps zs) : w.heap.size ≤ gB ∧ gB < wr.heap.size := by obtain ⟨_, _,h1, _⟩ := h; exact World.ownsRow.lt h1 _ rfl
theorem PC.zlt (h : PC w e wr gB i cap ps zs) : ∀ b ∈ zs,w.heap.size ≤ b ∧ b < wr.heap.size := by
 obtain ⟨cells,fss,h1,h2,h3,rfl,h5,h6⟩ := h
 exact fun b hb => ⟨h6 b hb,h2.lt b hb⟩
theorem PC.keep (h : PC w e wr gB i cap ps zs) {x : Nat} (hk : wr.grownBy wa (some x)) (hx : x ≠ gB) (hz : x ∉ zs) : PC w e wa gB i cap ps zs := by
 obtain ⟨cells,fss,h1,h2,h3,rfl,h5,h6⟩ := h
 refine ⟨cells,fss,h1.kept hk ?_,h2.keep (fun b hb => hk.block b (h2.lt b hb) (by intro e; injection e with e; exact hz (e ▸ hb))),h3,rfl,h5,h6⟩
 show some gB = none ∨ some gB ≠ some x
 exact .inr (by simp; omega)
theorem PC.keepG (h : PC w e wr gB i cap ps zs) {g : Nat} (hk : wr.grownBy wa (some g)) (hg : g < w.heap.size) : PC w e wa gB i cap ps zs :=
 h.keep hk (by have := h.lt; omega) (fun hz => by have := (h.zlt g hz).1; omega)
theorem PC.below (h : PC w e wr gB i cap ps zs) (hb : Below wr.heap.size wr wa) : PC w e wa gB i cap ps zs := by
 obtain ⟨cells,fss,h1,h2,h3,h4,h5,h6⟩ := h
 exact ⟨cells,fss,ownsRow_below h1 hb,h2.below hb,h3,h4,h5,h6⟩
theorem PC.sl (h : PC w e wr gB i cap ps zs) : ∃ bs,Sl wr (some ⟨gB,0,none⟩) i cap ps bs ∧ ∀ b ∈ bs,w.heap.size ≤ b := by
 have hl := h.lt
 obtain ⟨cells,fss,h1,h2,h3,rfl,h5,h6⟩ := h
 obtain ⟨A,c,bs,hv,hs,ho⟩ := h2.sl (α := α) h1 h3
 cases hv
 refine ⟨bs,hs,fun b hb => ?_⟩
 rcases ho with ⟨_,rfl⟩ | ⟨g',e',rfl,hg', _⟩
 ·simp at hb
 ·rcases List.mem_cons.1 hb with rfl | hb
  ·exact hg'
  ·exact h6 b hb
end
end Go.XB
namespace Go
open Go.RowKit Go.XB Go.Proofs.YtpfipnankjeokaaGreat.X
theorem wpList_pc {P : Program} {α : Type} [Dat α] {w wr : World} {gB k cap : Nat} {ps : List α} {zs : List Nat} {ops : Array Oper} {rest : List Oper} {o : Oper} {a : Act} {Q : Exit → Act → World → Prop} (hgd : o.guard = none) (s x : Operand) (t : TypeId)
  (ho : o.op = .call { callee := .builtin .append,args := #[s,x],argTypes := #[t,t] })
  (e : TypeId) (i : TypeInfo) (z : Value) (bytes : Nat) (ht : P.underlying t = some (.slice e)) (hi : P.info? e = some i) (hz : i.zero = some z)
  (hsize : i.size = Dat.sz α) (hby : i.bytes = bytes) (hzs : z.cells.size = Dat.sz α) (hp : PC w e wr gB k cap ps zs) (hw : w.heap.size ≤ wr.heap.size) (hs : a.eval s = .slice (some ⟨gB,0,none⟩) k cap)
  (ad : Addr) (c : Nat) (cs : List Value) (pt : α) (zb : List Nat) (hx : a.eval x = .slice (some ad) 1 c) (hnews : ∀ j u,cs[j]? = some u → wr.cell? (ad.add j) = some u)
  (ha : Dat.at_ wr cs pt zb) (hr : ∀ b ∈ zb,w.heap.size ≤ b ∧ b ≠ gB) (h63 : k + 1 ≤ maxLen) (hbytes : (k + 1) * bytes ≤ 140737488355328)
  (h : ∀ g' cap' w8,PC w e w8 g' (k + 1) cap' (ps ++ [pt]) (zs ++ zb) → wr.grownBy w8 (some gB) → (g' = gB ∨ g' = wr.heap.size) → wpList P ops Q rest (a.put o.dst (.slice (some ⟨g',0,none⟩) (k + 1) cap')) w8) : wpList P ops Q (o :: rest) a wr := by
 have hzl := hp.zlt
 obtain ⟨cells,fss,h1,h2,h3,rfl,h5,h6⟩ := hp
 have hl := World.ownsRow.lt h1 _ rfl
 refine wpList_push hgd s x t ho w.heap.size e i z (Dat.sz α) bytes ht hi hz hsize hby hzs Dat.pos gB k cap cells hs h1 ad 1 c cs hx (by rw [Nat.one_mul]; exact Dat.len ha) hnews (Dat.one ha) h63 hbytes hw ?_
 intro g' cap' w8 hown hg hor
 refine h g' cap' w8 ?_ hg hor
 have hzbl : ∀ b ∈ zb,b < wr.heap.size := Dat.lt ha
 have k1 : ∀ b ∈ fss.flatten,w8.heap[b]? = wr.heap[b]? := fun b hb1 => hg.block b (hzl b hb1).2 (by intro e; injection e with e; exact h5 (e ▸ hb1))
 have k2 : ∀ b ∈ zb,w8.heap[b]? = wr.heap[b]? := fun b hb1 => hg.block b (hzbl b hb1) (by intro e; injection e with e; exact (hr b hb1).2 e)
 refine ⟨_,fss ++ [zb],hown,Filled.push (h2.keep k1) (by rw [h1.1,h3]) (Dat.keep ha k2),by simp [h3],by simp, ?_, ?_⟩
 ·intro hm
  rcases List.mem_append.1 hm with hm | hm
  ·rcases hor with rfl | rfl
   ·exact h5 hm
   ·have := (hzl _ hm).2; omega
  ·rcases hor with rfl | rfl
   ·exact (hr _ hm).2 rfl
   ·have := hzbl _ hm; omega
 ·intro b hm
  rcases List.mem_append.1 hm with hm | hm
  ·exact h6 b hm
  ·exact (hr b hm).1
end Go
namespace Go.Proofs.YtpfipnankjeokaaGreat.X
open Go.RowKit Go.XB Go.XN
def IsK (r : TRat) : Prop := ∃ a d : Int,(1 ≤ a ∧ a ≤ 4) ∧ (1 ≤ d ∧ d ≤ 2) ∧ r = mkR a d
def IsF (r : TRat) : Prop := ∃ a : Int,(-1 ≤ a ∧ a ≤ 3) ∧ r = rint a
structure CoefI (ks fs : List TRat) (i : Nat) : Prop where
 kl : ks.length = i
 fl : fs.length = i
 k : ∀ r ∈ ks,IsK r
 f : ∀ r ∈ fs,IsF r
structure TwoR (w wr : World) (g i gK cK gF cF : Nat) (ks fs : List TRat) (zK zF : List Nat) : Prop where
 k : PC w 32 wr gK i cK ks zK
 f : PC w 32 wr gF i cF fs zF
 ne : gK ≠ gF
 kf : gK ∉ zF
 fk : gF ∉ zK
 gr : w.grownBy wr (some g)
def GivesCoef (w : World) (g : Nat) (A : Option Addr) (n c : Nat) (e : Ending) (w' : World) : Prop := ∃ (ks fs : List TRat) (K : Option Addr) (cK : Nat) (F : Option Addr) (cF : Nat) (bK bF : List Nat),e = .returned (.tuple #[.slice K 3 cK, .slice F 3 cF]) ∧ CoefI ks fs 3 ∧ Sl w' K 3 cK ks bK ∧ Sl w' F 3 cF fs bF ∧ (∀ b ∈ bK ++ bF,w.heap.size ≤ b) ∧ Cur w' g A n c ∧ w.grownBy w' (some g)
attribute [local go_sem] fillBy Go.XB.opAt deps depOf Region.wanted yielded
attribute [local simp] deps depOf MP.eq MP.agg MP.sl Facts
set_option maxHeartbeats 8000000 in
set_option maxRecDepth 10000 in
theorem spec_l13Coeffs (g : Nat) (A : Option Addr) (n c : Nat) (xs : List TByte) (bs : List Nat) (w : World) (hx : Sl w A n c xs bs) (hn : n ≤ 1048576) (hc : Cur w g A n c) (hg : g ∉ bs) :
  Calls Tryz.prog 108 #[.pointer (some ⟨g,0,none⟩)] w (GivesCoef w g A n c) := by
 have HX := hid hx; have HC := hid hc; have HG := hid hg; have HN := hid hn
 have hgl : g < w.heap.size := hc.lt'
 obtain ⟨i0,hi,hz0,hz1,hz2⟩ := info_parts infoRt
 clear hx hc hg hn
 have T0 := hid (show TwoR w ((w.alloc (.cells #[] 32)).alloc (.cells #[] 32)) g 0 w.heap.size 0 (w.heap.size + 1) 0 [] [] [] [] from
  ⟨(PC.start (Nat.le_refl _)).below (Below.box _),by have h := PC.start (α := TRat) (e := 32) (w := w) (w2 := w.alloc (.cells #[] 32)) (by simp); rwa [World.size_alloc] at h,by omega,by simp,by simp,grown_below (grown_below (World.grownBy.refl _ _) (Below.box _)) (Below.box _)⟩)
 have C0 := hid (show Cur ((w.alloc (.cells #[] 32)).alloc (.cells #[] 32)) g A n c from (HC.out.below' (Below.box _)).below' (Below.box _))
 go_enter Tryz.func108,Tryz.ntmps108
 go_wp2_with fail
 go_loopg [4,5,6] 3 (fun gg s4 s5 s6 wr => ∃ (i gK cK gF cF : Nat) (ks fs : List TRat) (zK zF : List Nat),i + gg = 3 ∧ s6 = .int .i64 i ∧ s4 = .slice (some ⟨gK,0,none⟩) i cK ∧ s5 = .slice (some ⟨gF,0,none⟩) i cF ∧ Hid (TwoR w wr g i gK cK gF cF ks fs zK zF) ∧ Hid (CoefI ks fs i) ∧ Hid (Cur wr g A n c))
 case atStart => exact ⟨0,w.heap.size,0,w.heap.size + 1,0, [], [], [], [],rfl,rfl,rfl,rfl,T0.out,⟨rfl,rfl,by simp,by simp⟩,C0.out⟩
 case round =>
  clear T0 C0
  obtain ⟨i,gK,cK,gF,cF,ks,fs,zK,zF,hi3,rfl,rfl,rfl,HT,HI,HC1⟩ := hrel
  rename World => wr
  rcases Nat.lt_or_ge i 3 with hin | hin
  ·have hii : (i : Int) < 3 := by omega
   have hii0 : (0 : Int) ≤ i := by omega
   obtain ⟨gg,rfl⟩ : ∃ gg,gk = gg + 1 := ⟨gk - 1,by omega⟩
   have hi' := hid (show i + 1 + gg = 3 by omega)
   have C3 := hid (show i + 1 ≤ maxLen by unfold maxLen; omega)
   have C4 := hid (show (i + 1) * 56 ≤ 140737488355328 by omega)
   clear hi3 hin
   go_wp2_with fail
   refine (spec_l01Below 4 (by decide) (by decide) g A n c xs bs wr (HX.out.grown HT.out.gr HG.out) HN.out HC1.out HG.out).mono ?_
   rintro _ w3 ⟨x1,rfl,hx1,hc3,hg3⟩
   have HC3 := hid hc3
   have G3 := hid (grown_nextC HT.out.gr hg3)
   have KR3 := hid (HT.out.k.keepG hg3 hgl); have FR3 := hid (HT.out.f.keepG hg3 hgl)
   obtain ⟨hx10,hx11⟩ := hx1
   clear hc3 hg3
   go_wp2_with fail
   refine (spec_l01Below 2 (by decide) (by decide) g A n c xs bs w3 (HX.out.grown G3.out HG.out) HN.out HC3.out HG.out).mono ?_
   rintro _ w4 ⟨x2,rfl,hx2,hc4,hg4⟩
   have HC4 := hid hc4
   have G4 := hid (grown_nextC G3.out hg4)
   have KR4 := hid (KR3.out.keepG hg4 hgl); have FR4 := hid (FR3.out.keepG hg4 hgl)
   obtain ⟨hx20,hx21⟩ := hx2
   clear hc4 hg4 KR3 FR3
   go_wp2_with fail
   refine (spec_RatOf_small (1 + x1) (1 + x2) (by omega) (by omega) (by omega) (by omega) w4).mono ?_
   obtain ⟨r,hr⟩ : ∃ r,mkR (1 + x1) (1 + x2) = r := ⟨_,rfl⟩
   have IK := hid (show IsK r from ⟨1 + x1,1 + x2,by omega,by omega,hr.symm⟩)
   rw [hr]
   clear hr
   rintro _ w5 ⟨v5,z5,rfl,ha5,ho5,hb5⟩
   obtain ⟨D1,nD1,cD1,d1,D2,nD2,cD2,d2,rfl,hz5, _, _⟩ := TRat.agg ha5
   have B5 := hid (show Below w4.heap.size w4 (w5.alloc (.cells #[.bool r.num.neg, .slice D1 nD1 cD1, .slice D2 nD2 cD2] 32)) from Below.next hb5 (Below.box _))
   have AT5 := hid (rat_dat (ha5.below (Below.box (.cells #[.bool r.num.neg, .slice D1 nD1 cD1, .slice D2 nD2 cD2] 32))))
   have KR5 := hid (KR4.out.below B5.out); have FR5 := hid (FR4.out.below B5.out)
   have G5 := hid (grown_below G4.out B5.out)
   have CU5 := hid (HC4.out.below' B5.out)
   have hgKl := HT.out.k.lt; have hgFl := HT.out.f.lt
   have hs4 := G4.out.size
   have hs34 := KR4.out.lt; have hs34f := FR4.out.lt
   have NZ5 := hid (show ∀ b ∈ z5,w4.heap.size ≤ b from fun b hb => (ho5.2 b hb).1)
   have HR5 := hid (show ∀ b ∈ z5,w.heap.size ≤ b ∧ b ≠ gK from fun b hb => by have := NZ5.out b hb; omega)
   have HS5 := hid G5.out.size
   clear ha5 ho5 hb5 hz5 KR4 FR4
   go_wp2_with (at_builtin; refine wpList_pc rfl _ _ 36 rfl 32 i0 (.agg #[.bool false, .slice none 0 0, .slice none 0 0]) 56 Tryz.underlying36 hi hz0 hz1 hz2 rfl KR5.out HS5.out (by go_simp; done) ⟨w5.heap.size,0,none⟩ 1 [.bool r.num.neg, .slice D1 nD1 cD1, .slice D2 nD2 cD2] r z5 (by go_simp; done) (block_cells (heap_alloc_new w5 _)) AT5.out HR5.out C3.out C4.out ?_; intro gK' cK' w6 hp6 hgr6 hor6)
   have CU6 := hid (CU5.out.keep' (hgr6.block g (by have := CU5.out.lt'; omega) (by intro e; injection e with e; omega)) hgr6.size)
   have G6 := hid (grown_other G5.out hgr6 hgKl.1)
   have FR6 := hid (FR5.out.keep hgr6 HT.out.ne HT.out.kf)
   have NE6 := hid (show gK' ≠ gF from by have h1 := FR5.out.lt; have h2 := HT.out.ne; rcases hor6 with h | h <;> omega)
   have KF6 := hid (show gK' ∉ zF from by
    rcases hor6 with h | h
    ·rw [h]; exact HT.out.kf
    ·intro hm; have h1 := FR5.out.zlt _ hm; omega)
   have FK6 := hid (show gF ∉ zK ++ z5 from by
    intro hm
    rcases List.mem_append.1 hm with hm | hm
    ·exact HT.out.fk hm
    ·have := NZ5.out _ hm; omega)
   have KR6 := hid hp6
   have II6 := hid (show (ks ++ [r]).length = i + 1 ∧ ∀ r' ∈ ks ++ [r],IsK r' from ⟨by simp [HI.out.kl],fun r' hr' => by
    rcases List.mem_append.1 hr' with h | h
    ·exact HI.out.k _ h
    ·rw [List.mem_singleton.1 h]; exact IK.out⟩)
   have JI := hid (show fs.length = i ∧ ∀ r ∈ fs,IsF r from ⟨HI.out.fl,HI.out.f⟩)
   clear hp6 hgr6 hor6 HT HI IK KR5 FR5 G5 CU5 B5 AT5 NZ5 HR5 HS5 G4 G3 HC3 HC4 hgKl hgFl hs4 hs34 hs34f HC1
   obtain ⟨ks',hks'⟩ : ∃ l,l = ks ++ [r] := ⟨_,rfl⟩
   obtain ⟨zK',hzK'⟩ : ∃ l,l = zK ++ z5 := ⟨_,rfl⟩
   rw [← hks'] at KR6 II6
   rw [← hzK'] at KR6 FK6
   clear hks' hzK'
   refine (spec_l01Below 5 (by decide) (by decide) g A n c xs bs w6 (HX.out.grown G6.out HG.out) HN.out CU6.out HG.out).mono ?_
   rintro _ w7 ⟨x3,rfl,hx3,hc7,hg7⟩
   have HC7 := hid hc7
   have G7 := hid (grown_nextC G6.out hg7)
   have KR7 := hid (KR6.out.keepG hg7 hgl); have FR7 := hid (FR6.out.keepG hg7 hgl)
   obtain ⟨hx30,hx31⟩ := hx3
   clear hc7 hg7 KR6 FR6 CU6 G6
   go_wp2_with fail
   refine (spec_RatFromInt (x3 - 1) w7 (by constructor <;> omega)).mono ?_
   obtain ⟨rf,hrf⟩ : ∃ r,rint (x3 - 1) = r := ⟨_,rfl⟩
   have IF' := hid (show IsF rf from ⟨x3 - 1,by omega,hrf.symm⟩)
   rw [hrf]
   clear hrf
   rintro _ w8 ⟨v8,z8,rfl,ha8,ho8,hb8⟩
   obtain ⟨E1,nE1,cE1,e1,E2,nE2,cE2,e2,rfl,hz8, _, _⟩ := TRat.agg ha8
   have B8 := hid (show Below w7.heap.size w7 (w8.alloc (.cells #[.bool rf.num.neg, .slice E1 nE1 cE1, .slice E2 nE2 cE2] 32)) from Below.next hb8 (Below.box _))
   have AT8 := hid (rat_dat (ha8.below (Below.box (.cells #[.bool rf.num.neg, .slice E1 nE1 cE1, .slice E2 nE2 cE2] 32))))
   have KR8 := hid (KR7.out.below B8.out); have FR8 := hid (FR7.out.below B8.out)
   have G8 := hid (grown_below G7.out B8.out)
   have CU8 := hid (HC7.out.below' B8.out)
   have hgKl := KR7.out.lt; have hgFl := FR7.out.lt
   have hs7 := G7.out.size
   have NZ8 := hid (show ∀ b ∈ z8,w7.heap.size ≤ b from fun b hb => (ho8.2 b hb).1)
   have HR8 := hid (show ∀ b ∈ z8,w.heap.size ≤ b ∧ b ≠ gF from fun b hb => by have := NZ8.out b hb; omega)
   have HS8 := hid G8.out.size
   clear ha8 ho8 hb8 hz8 FR7 G7 HC7
   go_wp2_with (at_builtin; refine wpList_pc rfl _ _ 36 rfl 32 i0 (.agg #[.bool false, .slice none 0 0, .slice none 0 0]) 56 Tryz.underlying36 hi hz0 hz1 hz2 rfl FR8.out HS8.out (by go_simp; done) ⟨w8.heap.size,0,none⟩ 1 [.bool rf.num.neg, .slice E1 nE1 cE1, .slice E2 nE2 cE2] rf z8 (by go_simp; done) (block_cells (heap_alloc_new w8 _)) AT8.out HR8.out C3.out C4.out ?_; intro gF' cF' w9 hp9 hgr9 hor9)
   have CU9 := hid (CU8.out.keep' (hgr9.block g (by have := CU8.out.lt'; omega) (by intro e; injection e with e; omega)) hgr9.size)
   have G9 := hid (grown_other G8.out hgr9 hgFl.1)
   have KR9 := hid (KR8.out.keep hgr9 (Ne.symm NE6.out) FK6.out)
   have NE9 := hid (show gK' ≠ gF' from by have h1 := KR8.out.lt; have h2 := NE6.out; rcases hor9 with h | h <;> omega)
   have FK9 := hid (show gF' ∉ zK' from by
    rcases hor9 with h | h
    ·rw [h]; exact FK6.out
    ·intro hm; have h1 := KR8.out.zlt _ hm; omega)
   have KF9 := hid (show gK' ∉ zF ++ z8 from by
    intro hm
    rcases List.mem_append.1 hm with hm | hm
    ·exact KF6.out hm
    ·have := NZ8.out _ hm; omega)
   have T9 := hid (show TwoR w w9 g (i + 1) gK' cK' gF' cF' ks' (fs ++ [rf]) zK' (zF ++ z8) from ⟨KR9.out,hp9,NE9.out,KF9.out,FK9.out,G9.out⟩)
   have I9 := hid (show CoefI ks' (fs ++ [rf]) (i + 1) from ⟨II6.out.1,by simp [JI.out.1],II6.out.2,fun r' hr' => by
    rcases List.mem_append.1 hr' with h | h
    ·exact JI.out.2 _ h
    ·rw [List.mem_singleton.1 h]; exact IF'.out⟩)
   clear hp9 hgr9 hor9 KR9 NE9 FK9 KF9 G9 II6 JI IF' AT8 B8 NZ8 HR8 HS8 G8 KR8 FR8 CU8 KR7 NE6 KF6 FK6
   go_wp2_with fail
   go_roundg gg
   case measure => omega
   case rel => exact ⟨i + 1,gK',cK',gF',cF',ks',fs ++ [rf],zK',zF ++ z8,hi'.out,by go_simp,rfl,rfl,T9,I9,CU9⟩
  ·have h3 : i = 3 := by omega
   subst h3
   go_wp2_with fail
   have hT := HT.out
   obtain ⟨bK,sK,oK⟩ := hT.k.sl
   obtain ⟨bF,sF,oF⟩ := hT.f.sl
   refine bodyPost_ret (v := .tuple #[.slice (some ⟨gK,0,none⟩) 3 cK, .slice (some ⟨gF,0,none⟩) 3 cF]) (by simp [results,Tryz.results108,go_sem, *]) rfl ?_
   refine ⟨ks,fs, _,cK, _,cF,bK,bF,rfl,HI.out,sK,sF, ?_,HC1.out,hT.gr⟩
   intro b hb
   rcases List.mem_append.1 hb with hb | hb
   ·exact oK b hb
   ·exact oF b hb
end Go.Proofs.YtpfipnankjeokaaGreat.X
namespace Go.Proofs.YtpfipnankjeokaaGreat.X
open Go.RowKit Go.XB Go.XN
def IsCoP (p : TProblem) : Prop := IsCoarse p.mesh ∧ CoefI p.diffusion p.source 3
def GivesProb (w : World) (g : Nat) (e : Ending) (w' : World) : Prop := ∃ (p : TProblem) (v : Value) (s : List Nat),e = .returned v ∧ IsCoP p ∧ Agg w' v p s ∧ w.grownBy w' (some g) ∧ ∀ b ∈ s,w.heap.size ≤ b
theorem grown_keep0 {w w1 w2 : World} {r : Option Nat} (h : w.grownBy w1 r) (hb : Below w.heap.size w1 w2) : w.grownBy w2 r :=
 ⟨hb.os.trans h.os,hb.tape.trans h.tape,hb.output.trans h.output,Nat.le_trans h.size hb.size,fun k hk hne => (hb.block k hk).trans (h.block k hk hne)⟩
theorem below_set4 {L b : Nat} {w : World} (h : L ≤ b) (x0 x1 x2 x3 : Value) : Below L w ((((w.setCell ⟨b,0,none⟩ x0).setCell ⟨b,1,none⟩ x1).setCell ⟨b,2,none⟩ x2).setCell ⟨b,3,none⟩ x3) :=
 ((((Below.refl L w).setCell (p := ⟨b,0,none⟩) h _).setCell (p := ⟨b,1,none⟩) h _).setCell (p := ⟨b,2,none⟩) h _).setCell (p := ⟨b,3,none⟩) h _
attribute [local go_sem] fillBy Go.XB.opAt deps depOf Region.wanted yielded
attribute [local simp] deps depOf MP.eq MP.agg MP.sl Facts
set_option maxHeartbeats 8000000 in
set_option maxRecDepth 10000 in
theorem spec_l26Draw (g : Nat) (A : Option Addr) (n c : Nat) (xs : List TByte) (bs : List Nat) (w : World) (hx : Sl w A n c xs bs) (hn : n ≤ 1048576) (hc : Cur w g A n c) (hg : g ∉ bs) :
  Calls Tryz.prog 63 #[.pointer (some ⟨g,0,none⟩)] w (GivesProb w g) := by
 have HX := hid hx; have HC := hid hc; have HG := hid hg; have HN := hid hn
 have hgl : g < w.heap.size := hc.lt'
 clear hx hc hg hn
 go_enter Tryz.func63,Tryz.ntmps63
 go_wp2_with fail
 obtain ⟨w0,hw0⟩ : ∃ x,x = w.alloc (.cells #[.slice none 0 0, .slice none 0 0, .slice none 0 0, .slice none 0 0] 51) := ⟨_,rfl⟩
 have HB0 := hid (show Below w.heap.size w w0 by rw [hw0]; exact Below.box _)
 have hbox : w0.heap[w.heap.size]? = some (.cells #[.slice none 0 0, .slice none 0 0, .slice none 0 0, .slice none 0 0] 51) := by rw [hw0]; exact heap_alloc_new w _
 have hl0 : w0.heap.size = w.heap.size + 1 := by rw [hw0]; simp
 have HR0 := hid hbox
 rw [← hw0]
 clear hw0 hbox
 refine (spec_l13Coeffs g A n c xs bs w0 (HX.out.below HB0.out) HN.out (HC.out.below' HB0.out) HG.out).mono ?_
 rintro _ w1 ⟨ks,fs,K,cK,F,cF,bK,bF,rfl,hI,hK,hF,hnew,hc1,hg1⟩
 have HI := hid hI; have HK := hid hK; have HF := hid hF; have HC1 := hid hc1; have HG1 := hid hg1
 have HN1 := hid (show ∀ b ∈ bK ++ bF,w.heap.size + 1 ≤ b ∧ b < w1.heap.size from fun b hb => ⟨by have := hnew b hb; omega,by rcases List.mem_append.1 hb with h | h; exact hK.lt b h; exact hF.lt b h⟩)
 have HR1 := hid ((hg1.block w.heap.size (by omega) (by intro e; injection e with e; omega)).trans HR0.out)
 have HX1 := hid (show Sl w1 A n c xs bs from (HX.out.below HB0.out).grown hg1 HG.out)
 have hs1 := hg1.size
 clear hI hK hF hnew hc1 hg1
 go_wp2_with fail
 refine (spec_l07Start g A n c xs bs w1 HX1.out HN.out HC1.out HG.out).mono ?_
 rintro _ w2 ⟨m,v,s,rfl,hin,ha,hgr,hrs⟩
 obtain ⟨A0,n0,c0,s0,A1,n1,c1,s1,rfl,hzs,hp0,hp1⟩ := TMesh.agg ha
 have hgK : g ∉ bK := fun h => by have := (HN1.out g (List.mem_append_left _ h)).1; omega
 have hgF : g ∉ bF := fun h => by have := (HN1.out g (List.mem_append_right _ h)).1; omega
 have AP := hid (TProblem.mkAgg (x := ⟨m,ks,fs⟩) hp0 hp1 (HK.out.grown hgr hgK) (HF.out.grown hgr hgF))
 have NB := hid (show ∀ b ∈ s0 ++ (s1 ++ (bK ++ bF)),w.heap.size + 1 ≤ b from fun b hb => by
  rw [← List.append_assoc] at hb
  rcases List.mem_append.1 hb with h | h
  ·rw [hzs] at hrs
   have := hrs b h; omega
  ·exact (HN1.out b h).1)
 have HP := hid (show IsCoP ⟨m,ks,fs⟩ from ⟨hin,HI.out⟩)
 have HR2 := hid ((hgr.block w.heap.size (by omega) (by intro e; injection e with e; omega)).trans HR1.out)
 have HG2 := hid (show w.grownBy w2 (some g) from grown_nextC (grown_nextC (grown_below (World.grownBy.refl _ _) HB0.out) HG1.out) hgr)
 obtain ⟨r0,e0⟩ := box_cell HR2.out (j := 0) rfl
 obtain ⟨r1,e1⟩ := box_cell HR2.out (j := 1) rfl
 obtain ⟨r2,e2⟩ := box_cell HR2.out (j := 2) rfl
 obtain ⟨r3,e3⟩ := box_cell HR2.out (j := 3) rfl
 have hl2 : w.heap.size < w2.heap.size := lt_of_get HR2.out
 clear ha hin hgr hrs hzs hp0 hp1 hgK hgF
 go_wp2
 refine bodyPost_ret (v := .agg #[.slice A0 n0 c0, .slice A1 n1 c1, .slice K 3 cK, .slice F 3 cF]) (by simp [results,Tryz.results63,go_sem, *]) rfl ?_
 refine ⟨⟨m,ks,fs⟩, _, _,rfl,HP.out,AP.out.keep (fun b hb => heap_setCells w.heap.size [.slice A0 n0 c0, .slice A1 n1 c1, .slice K 3 cK, .slice F 3 cF] w2 0 b (by have := NB.out b hb; omega)),grown_keep0 HG2.out (below_set4 (Nat.le_refl _) _ _ _ _),fun b hb => by have := NB.out b hb; omega⟩

set_option maxHeartbeats 8000000 in
set_option maxRecDepth 10000 in
theorem spec_MakeCoarseProblem (A : Option Addr) (n c : Nat) (xs : List TByte) (bs : List Nat) (w : World) (hx : Sl w A n c xs bs) (hn : n ≤ 1048576) :
  Calls Tryz.prog 20 #[.slice A n c] w (fun e w' => ∃ (p : TProblem) (v : Value) (s : List Nat),e = .returned v ∧ IsCoP p ∧ Agg w' v p s ∧ Below w.heap.size w w') := by
 have HX := hid hx; have HN := hid hn
 have HG := hid (show w.heap.size + 1 ∉ bs from fun h => by have := hx.lt _ h; omega)
 clear hx hn
 go_enter Tryz.func20,Tryz.ntmps20
 go_wp2_with fail
 have HB0 := hid (Below.box (w := w) (.cells #[.slice none 0 0, .slice none 0 0, .slice none 0 0, .slice none 0 0] 51))
 refine (spec_l01New A n c xs bs (w.alloc (.cells #[.slice none 0 0, .slice none 0 0, .slice none 0 0, .slice none 0 0] 51)) (HX.out.below HB0.out) HN.out).mono ?_
 rintro _ w1 ⟨rfl,hc1,hb1,hl1⟩
 rw [World.size_alloc] at hc1 hb1 hl1
 have HC1 := hid hc1; have HB1 := hid hb1
 have HX1 := hid (show Sl w1 A n c xs bs from (HX.out.below HB0.out).belowB hb1 (fun b hb => by have := HX.out.lt b hb; omega))
 have HR1 := hid (show w1.heap[w.heap.size]? = some (.cells #[.slice none 0 0, .slice none 0 0, .slice none 0 0, .slice none 0 0] 51) from (hb1.block _ (by omega)).trans (heap_alloc_new w _))
 clear hc1 hb1
 go_wp2_with fail
 refine (spec_l26Draw (w.heap.size + 1) A n c xs bs w1 HX1.out HN.out HC1.out HG.out).mono ?_
 rintro _ w2 ⟨p,v,s,rfl,hin,ha,hgr,hrs⟩
 obtain ⟨A0,n0,c0,s0,A1,n1,c1,s1,A2,n2,c2,s2,A3,n3,c3,s3,rfl,hzs, _, _, _, _⟩ := TProblem.agg ha
 have HA := hid ha; have HIN := hid hin
 have HS := hid (show ∀ b ∈ s,b ≠ w.heap.size from fun b hb => by have := hrs b hb; omega)
 have HR2 := hid ((hgr.block w.heap.size (by omega) (by intro e; injection e with e; omega)).trans HR1.out)
 have HB2 := hid (show Below w.heap.size w w2 from ((HB0.out).trans (HB1.out.mono (by omega))).grown hgr (by omega) (fun k hk => by injection hk with h; omega))
 obtain ⟨r0,e0⟩ := box_cell HR2.out (j := 0) rfl
 obtain ⟨r1,e1⟩ := box_cell HR2.out (j := 1) rfl
 obtain ⟨r2,e2⟩ := box_cell HR2.out (j := 2) rfl
 obtain ⟨r3,e3⟩ := box_cell HR2.out (j := 3) rfl
 have hl2 : w.heap.size < w2.heap.size := lt_of_get HR2.out
 clear ha hin hgr hrs hzs
 go_wp2
 refine bodyPost_ret (v := .agg #[.slice A0 n0 c0, .slice A1 n1 c1, .slice A2 n2 c2, .slice A3 n3 c3]) (by simp [results,Tryz.results20,go_sem, *]) rfl ?_
 exact ⟨p, _,s,rfl,HIN.out,HA.out.keep (fun b hb => heap_setCells w.heap.size [.slice A0 n0 c0, .slice A1 n1 c1, .slice A2 n2 c2, .slice A3 n3 c3] w2 0 b (HS.out b hb)),HB2.out.trans (below_set4 (Nat.le_refl _) _ _ _ _)⟩
end Go.Proofs.YtpfipnankjeokaaGreat.X
namespace Go.Proofs.YtpfipnankjeokaaGreat.X
open Go.RowKit Go.XB Go.XN
def triInB (n : Nat) (t : TTri) : Bool := (decide (0 ≤ t.a) && decide (t.a < n)) && ((decide (0 ≤ t.b) && decide (t.b < n)) && (decide (0 ≤ t.c) && decide (t.c < n)))
theorem triInB_iff {n : Nat} {t : TTri} (h : triInB n t = true) : triIn n t := by
 unfold triInB at h
 simp only [Bool.and_eq_true,decide_eq_true_eq] at h
 exact ⟨h.1,h.2.1,h.2.2⟩
def cleanB (xs ys : List Int) (a b : Int) (n : Nat) : Bool := (List.range n).all fun c => decide ((c : Int) = a) || (decide ((c : Int) = b) || !insideI xs ys a b c)
theorem cleanB_iff {xs ys : List Int} {a b : Int} {n : Nat} (h : cleanB xs ys a b n = true) : clean xs ys a b n := by
 intro c hc
 have := List.all_eq_true.1 h c (List.mem_range.2 hc)
 simp only [Bool.or_eq_true,decide_eq_true_eq,Bool.not_eq_true'] at this
 exact this
def meshB (xs ys : List Int) (n : Nat) (ts : List TTri) : Bool :=
 (xs.all fun x => decide (-100 ≤ x) && decide (x ≤ 100)) && ((ys.all fun x => decide (-100 ≤ x) && decide (x ≤ 100)) && (decide (3 ≤ n) && (decide (n ≤ 40) && (decide (1 ≤ ts.length) && (decide (ts.length ≤ 48) &&
 ((ts.all fun t => triInB n t && (inB 0 t.region 2 && (inB 0 t.level 60 && decide (0 < turnI xs ys t.a t.b t.c)))) &&
 (((List.range ts.length).all fun k => (List.range k).all fun j => sepI xs ys (ts.getD j ⟨0,0,0,0,0⟩) (ts.getD k ⟨0,0,0,0,0⟩) || sepI xs ys (ts.getD k ⟨0,0,0,0,0⟩) (ts.getD j ⟨0,0,0,0,0⟩)) &&
 (decide (usedTo n ts ts.length = List.replicate n true) &&
 ((ts.all fun t => cleanB xs ys t.a t.b n && (cleanB xs ys t.b t.c n && cleanB xs ys t.c t.a n)) &&
 ((edgesL ts).all fun e => (decide (0 ≤ e.a) && decide (e.a < n)) && (decide (0 ≤ e.b) && decide (e.b < n))))))))))))
theorem meshB_good {m : TMesh} {xs ys : List Int} {n : Nat} (hn : m.points.length = n) (hp : PtsI m.points xs ys) (hok : m.points.all ptOkB = true) (hnd : m.points.Nodup) (h : meshB xs ys n m.triangles = true) :
  MeshI m xs ys ∧ ∀ e ∈ edgesL m.triangles,(0 ≤ e.a ∧ e.a < m.points.length) ∧ (0 ≤ e.b ∧ e.b < m.points.length) := by
 subst hn
 unfold meshB at h
 simp only [Bool.and_eq_true,decide_eq_true_eq] at h
 obtain ⟨h1,h2,h3,h4,h5,h6,h7,h8,h9,h10,h11⟩ := h
 refine ⟨⟨hp, ?_, ?_,h3,h4,hok,hnd,h5,h6, ?_, ?_,h9, ?_⟩, ?_⟩
 ·intro x hx
  have := List.all_eq_true.1 h1 x hx
  simpa using this
 ·intro x hx
  have := List.all_eq_true.1 h2 x hx
  simpa using this
 ·intro t ht
  have := List.all_eq_true.1 h7 t ht
  simp only [Bool.and_eq_true,decide_eq_true_eq] at this
  exact ⟨triInB_iff this.1,this.2.1,this.2.2.1,this.2.2.2⟩
 ·intro k t j s hk hj hs
  have hkl := (List.getElem?_eq_some_iff.1 hk).1
  have := List.all_eq_true.1 (List.all_eq_true.1 h8 k (List.mem_range.2 hkl)) j (List.mem_range.2 hj)
  rw [List.getD_eq_getElem?_getD,List.getD_eq_getElem?_getD,hk,hs] at this
  simpa using this
 ·intro t ht
  have := List.all_eq_true.1 h10 t ht
  simp only [Bool.and_eq_true] at this
  exact ⟨cleanB_iff this.1,cleanB_iff this.2.1,cleanB_iff this.2.2⟩
 ·intro e he
  have := List.all_eq_true.1 h11 e he
  simpa using this
theorem rint_inj {a b : Int} (h : rint a = rint b) : a = b := by
 have h1 : ival (encI a) = ival (encI b) := congrArg (fun r => ival r.num) h
 rwa [ival_enc,ival_enc] at h1
theorem pts_facts {m : TMesh} (L : List (Int × Int)) (hm : m.points = L.map (fun p => ptI p.1 p.2)) (hL : ∀ p ∈ L,(-1000 ≤ p.1 ∧ p.1 ≤ 1000) ∧ (-1000 ≤ p.2 ∧ p.2 ≤ 1000)) (hnd : L.Nodup) :
  m.points.length = L.length ∧ PtsI m.points (L.map (·.1)) (L.map (·.2)) ∧ m.points.all ptOkB = true ∧ m.points.Nodup := by
 rw [hm]
 refine ⟨by simp,⟨by simp,by simp, ?_⟩, ?_, ?_⟩
 ·intro k p hk
  rw [List.getElem?_map] at hk
  obtain ⟨u,hu,rfl⟩ := Option.map_eq_some_iff.1 hk
  unfold at0
  simp [List.getD,hu]
 ·rw [List.all_eq_true]
  intro p hp
  obtain ⟨u,hu,rfl⟩ := List.mem_map.1 hp
  obtain ⟨h1,h2⟩ := hL u hu
  show (ratOkB (rint u.1) && ratOkB (rint u.2)) = true
  rw [ratOkB_iff.2 (rint_V (by omega) (by omega)),ratOkB_iff.2 (rint_V (by omega) (by omega))]; rfl
 ·refine List.Pairwise.map _ ?_ hnd
  intro a b hab e
  apply hab
  have e1 := rint_inj (congrArg TPoint.x e)
  have e2 := rint_inj (congrArg TPoint.y e)
  exact Prod.ext e1 e2

def gradB (a b c : TPoint) : Bool := properB [a,b,c] && (ratOkB (darea a b c) && (!(darea a b c).num.mag.isEmpty && ((List.range 3).all fun i => ptOkB (gradN a b c i) && ptOkB (gradP a b c i))))
theorem gradB_iff {a b c : TPoint} (h : gradB a b c = true) : GradOk a b c := by
 unfold gradB at h
 simp only [Bool.and_eq_true,List.all_eq_true,List.mem_range,Bool.not_eq_true',List.isEmpty_eq_false_iff] at h
 exact ⟨h.1,h.2.1,h.2.2.1,fun i hi => (h.2.2.2 i hi).1,fun i hi => (h.2.2.2 i hi).2⟩
def meshDB (m : TMesh) : Bool := m.triangles.all fun t => triInB m.points.length t && (gradB (ptAt m.points t.a) (ptAt m.points t.b) (ptAt m.points t.c) && (ratOkB (areaP (ptAt m.points t.a) (ptAt m.points t.b) (ptAt m.points t.c)) &&
 (((massT m t).all fun r => !r.any denBad) && (((stiffM m t).all fun r => !r.any denBad) && (decide (0 ≤ t.region) && decide (t.region < 3))))))
theorem meshDB_good {m : TMesh} {xs ys : List Int} (h : MeshI m xs ys) (he : EdgeIn m) (hb : meshDB m = true) : MeshD m xs ys ∧ ∀ t ∈ m.triangles,0 ≤ t.region ∧ t.region < 3 := by
 unfold meshDB at hb
 simp only [Bool.and_eq_true,List.all_eq_true,Bool.not_eq_true',decide_eq_true_eq] at hb
 refine ⟨⟨h,he, ?_, ?_, ?_, ?_⟩,fun t ht => (hb t ht).2.2.2.2.2⟩
 ·intro t ht
  have g := gradB_iff (hb t ht).2.1
  exact ⟨triInB_iff (hb t ht).1,g.pr,(hb t ht).2.2.1⟩
 ·intro t ht; exact gradB_iff (hb t ht).2.1
 ·intro t ht r hr; exact (hb t ht).2.2.2.1 r hr
 ·intro t ht r hr; exact (hb t ht).2.2.2.2.1 r hr
theorem mesh_of {m : TMesh} (L : List (Int × Int)) (hm : m.points = L.map (fun p => ptI p.1 p.2)) (hL : ∀ p ∈ L,(-1000 ≤ p.1 ∧ p.1 ≤ 1000) ∧ (-1000 ≤ p.2 ∧ p.2 ≤ 1000)) (hnd : L.Nodup) (hB : meshB (L.map (·.1)) (L.map (·.2)) L.length m.triangles = true) (hD : meshDB m = true) :
  ∃ xs ys,MeshD m xs ys ∧ ∀ t ∈ m.triangles,0 ≤ t.region ∧ t.region < 3 := by
 obtain ⟨p1,p2,p3,p4⟩ := pts_facts L hm hL hnd
 obtain ⟨g1,g2⟩ := meshB_good p1 p2 p3 p4 hB
 exact ⟨_, _,meshDB_good g1 g2 hD⟩
theorem coarse_mesh {m : TMesh} (h : IsCoarse m) : ∃ xs ys,MeshD m xs ys ∧ ∀ t ∈ m.triangles,0 ≤ t.region ∧ t.region < 3 := by
 rcases h with ⟨r,hr,rfl⟩ | ⟨r,hr,rfl⟩ | rfl
 ·obtain rfl | rfl : r = 0 ∨ r = 1 := by omega
  all_goals exact mesh_of [(0,0),(2,0),(2,2),(0,2),(1,1)] rfl (by decide) (by decide) (by decide +kernel) (by decide +kernel)
 ·obtain rfl | rfl | rfl : r = 0 ∨ r = 1 ∨ r = 2 := by omega
  all_goals exact mesh_of [(0,0),(2,0),(2,1),(0,2)] rfl (by decide) (by decide) (by decide +kernel) (by decide +kernel)
 ·exact mesh_of [(0,0),(1,0),(2,0),(2,1),(1,1),(1,2),(0,2),(0,1)] rfl (by decide) (by decide) (by decide +kernel) (by decide +kernel)
theorem IsK.ok {r : TRat} (h : IsK r) : ratOkB r = true ∧ 0 < numv r := by
 obtain ⟨a,d,ha,hd,rfl⟩ := h
 obtain rfl | rfl | rfl | rfl : a = 1 ∨ a = 2 ∨ a = 3 ∨ a = 4 := by omega
 all_goals obtain rfl | rfl : d = 1 ∨ d = 2 := by omega
 all_goals decide +kernel
theorem IsF.ok {r : TRat} (h : IsF r) : ratOkB r = true := by
 obtain ⟨a,ha,rfl⟩ := h
 exact ratOkB_iff.2 (rint_V (by omega) (by omega))
theorem cop_prob {p : TProblem} (h : IsCoP p) : ∃ xs ys,ProbI p xs ys ∧ MeshD p.mesh xs ys := by
 obtain ⟨xs,ys,hM,hR⟩ := coarse_mesh h.1
 exact ⟨xs,ys,⟨hM.mesh,h.2.kl,List.all_eq_true.2 fun r hr => (h.2.k r hr).ok.1,fun r hr => (h.2.k r hr).ok.2,h.2.fl,List.all_eq_true.2 fun r hr => (h.2.f r hr).ok,hR⟩,hM⟩
theorem cellAdd_nil (rows : List Int) (p q : Int) (x : TRat) : cellAdd rows p q x [] = [] := by unfold cellAdd; cases (decide (0 ≤ rows.getD p.toNat (-1)) && decide (0 ≤ rows.getD q.toNat (-1))) <;> rfl
theorem rowAdd_nil (rows : List Int) (t : TTri) (L : List (List TRat)) (i : Nat) : ∀ j,rowAdd rows t L i [] j = []
 | 0 => rfl
 | j + 1 => by rw [rowAdd,rowAdd_nil rows t L i j,cellAdd_nil]
theorem triAdd_nil (rows : List Int) (t : TTri) (L : List (List TRat)) : ∀ i,triAdd rows t L [] i = []
 | 0 => rfl
 | i + 1 => by rw [triAdd,triAdd_nil rows t L i,rowAdd_nil]
theorem asmTo_nil (m : TMesh) (rows : List Int) (loc : Nat → List (List TRat)) : ∀ k,asmTo m rows 0 loc k = []
 | 0 => rfl
 | k + 1 => by rw [asmTo,asmTo_nil m rows loc k,triAdd_nil]
theorem vcellAdd_nil (rows : List Int) (p : Int) (x : TRat) : vcellAdd rows p x [] = [] := by unfold vcellAdd; cases decide (0 ≤ rows.getD p.toNat (-1)) <;> rfl
theorem vecAdd_nil (rows : List Int) (t : TTri) (x : TRat) : ∀ i,vecAdd rows t x [] i = []
 | 0 => rfl
 | i + 1 => by rw [vecAdd,vecAdd_nil rows t x i,vcellAdd_nil]
theorem loadTo_nil (p : TProblem) (rows : List Int) : ∀ k,loadTo p rows 0 k = []
 | 0 => rfl
 | k + 1 => by rw [loadTo,loadTo_nil p rows k,vecAdd_nil]
theorem asmTo_congr {m : TMesh} {rows : List Int} {n : Nat} {loc loc' : Nat → List (List TRat)} : ∀ k,(∀ i,i < k → loc i = loc' i) → asmTo m rows n loc k = asmTo m rows n loc' k
 | 0, _ => rfl
 | k + 1,h => by rw [asmTo,asmTo,asmTo_congr k (fun i hi => h i (by omega)),h k (by omega)]
theorem loadTo_congr {p q : TProblem} {rows : List Int} {n : Nat} (hm : p.mesh.triangles = q.mesh.triangles) : ∀ k,(∀ i,i < k → partT p (p.mesh.triangles.getD i tri0) = partT q (q.mesh.triangles.getD i tri0)) → loadTo p rows n k = loadTo q rows n k
 | 0, _ => rfl
 | k + 1,h => by rw [loadTo,loadTo,loadTo_congr hm k (fun i hi => h i (by omega)),h k (by omega),hm]
def stiffC (r a d b e : Int) : Bool := decide (asmL (mesh0 r) (stiffLoc ⟨mesh0 r, [mkR a d,mkR b e,rint 0], []⟩) = [[mkR ((3 - r) * a * e + (1 + r) * b * d) (d * e)]])
def i4 : List Int := [1,2,3,4]
def i2 : List Int := [1,2]
def i5 : List Int := [-1,0,1,2,3]
def stiffAll (r : Int) : Bool := i4.all fun a => i2.all fun d => i4.all fun b => i2.all fun e => stiffC r a d b e
def loadC (r f g : Int) : Bool := decide (loadL ⟨mesh0 r, [], [rint f,rint g,rint 0]⟩ = [mkR ((3 - r) * f + (1 + r) * g) 3])
def loadAll (r : Int) : Bool := i5.all fun f => i5.all fun g => loadC r f g
theorem stiff_all : stiffAll 0 = true ∧ stiffAll 1 = true := by decide +kernel
theorem load_all : loadAll 0 = true ∧ loadAll 1 = true := by decide +kernel
def stepS (s l u : TRat) : TRat := rdiv (radd (radd (rint 0) (rmul (mkR 2 3) u)) (rmul (mkR 1 2) l)) (radd (rmul (rint 1) (mkR 2 3)) (rmul (mkR 1 2) s))
def stepU (s l u : TRat) : Bool := ratOkB u && (!denBad (radd (rint 0) (rmul (mkR 2 3) u)) && (ratOkB (radd (radd (rint 0) (rmul (mkR 2 3) u)) (rmul (mkR 1 2) l)) && ratOkB (stepS s l u)))
def stepB (s l : TRat) : Bool := ratOkB s && (decide (numv s ≠ 0) && (ratOkB (radd (rmul (rint 1) (mkR 2 3)) (rmul (mkR 1 2) s)) && (decide (0 < numv (radd (rmul (rint 1) (mkR 2 3)) (rmul (mkR 1 2) s))) && (!denBad l && (stepU s l (rint 0) && stepU s l (stepS s l (rint 0)))))))
def stepAll : Bool := (List.range 32).all fun n => [1,2,4].all fun d => (List.range 17).all fun f => stepB (mkR ((n : Int) + 1) d) (mkR ((f : Int) - 4) 3)
set_option maxRecDepth 100000 in
theorem step_all : stepAll = true := by decide +kernel
end Go.Proofs.YtpfipnankjeokaaGreat.X
namespace Go.Proofs.YtpfipnankjeokaaGreat.X
open Go.RowKit Go.XB Go.XN
def HeatG (p : TProblem) : Prop := ∃ xs ys om os,HeatD p xs ys om os (mkR 1 2) ∧ HeatU p om os (mkR 1 2) (List.replicate p.mesh.points.length (rint 0)) ∧ HeatU p om os (mkR 1 2) (stepL p om os (mkR 1 2) (List.replicate p.mesh.points.length (rint 0)))
theorem heat_none {p : TProblem} (h : IsCoP p) (hn : ptsOfL p.mesh false = []) (hl : (spreadL p.mesh []).length = p.mesh.points.length) (hs : (spreadL p.mesh []).all ratOkB = true) : HeatG p := by
 obtain ⟨xs,ys,hP,hM⟩ := cop_prob h
 have hl0 : (ptsOfL p.mesh false).length = 0 := by rw [hn]; rfl
 have ha : ∀ loc,asmL p.mesh loc = [] := fun loc => by unfold asmL; rw [hl0,asmTo_nil]
 have hld : loadL p = [] := by unfold loadL; rw [hl0,loadTo_nil]
 have hst : ∀ us,stepL p none none (mkR 1 2) us = spreadL p.mesh [] := fun us => by unfold stepL; rfl
 have hU : ∀ us : List TRat,us.length = p.mesh.points.length → us.all ratOkB = true → HeatU p none none (mkR 1 2) us := fun us h1 h2 => ⟨h1,h2,rfl,by rw [hld]; rfl,rfl⟩
 refine ⟨xs,ys,none,none,⟨hP,hM,ha _,ha _,hl0,rfl,trivial,trivial,trivial,fun r hr => (by cases hr),by rw [hld]; rfl,by rw [hld]; rfl,by decide +kernel,by decide +kernel⟩,hU _ (by simp) ?_,hU _ (by rw [hst]; exact hl) (by rw [hst]; exact hs)⟩
 rw [List.all_eq_true]
 intro r hr
 rw [List.eq_of_mem_replicate hr]; decide

theorem i4_mem {a : Int} (h : 1 ≤ a ∧ a ≤ 4) : a ∈ i4 := by
 obtain rfl | rfl | rfl | rfl : a = 1 ∨ a = 2 ∨ a = 3 ∨ a = 4 := by omega
 all_goals decide
theorem i2_mem {a : Int} (h : 1 ≤ a ∧ a ≤ 2) : a ∈ i2 := by
 obtain rfl | rfl : a = 1 ∨ a = 2 := by omega
 all_goals decide
theorem i5_mem {a : Int} (h : -1 ≤ a ∧ a ≤ 3) : a ∈ i5 := by
 obtain rfl | rfl | rfl | rfl | rfl : a = -1 ∨ a = 0 ∨ a = 1 ∨ a = 2 ∨ a = 3 := by omega
 all_goals decide
theorem stiff_at {r a d b e : Int} (h : stiffAll r = true) (ha : 1 ≤ a ∧ a ≤ 4) (hd : 1 ≤ d ∧ d ≤ 2) (hb : 1 ≤ b ∧ b ≤ 4) (he : 1 ≤ e ∧ e ≤ 2) : stiffC r a d b e = true :=
 List.all_eq_true.1 (List.all_eq_true.1 (List.all_eq_true.1 (List.all_eq_true.1 h a (i4_mem ha)) d (i2_mem hd)) b (i4_mem hb)) e (i2_mem he)
theorem load_at {r f g : Int} (h : loadAll r = true) (hf : -1 ≤ f ∧ f ≤ 3) (hg : -1 ≤ g ∧ g ≤ 3) : loadC r f g = true :=
 List.all_eq_true.1 (List.all_eq_true.1 h f (i5_mem hf)) g (i5_mem hg)
theorem step_at {N D M : Int} (hN : 1 ≤ N ∧ N ≤ 32) (hD : D = 1 ∨ D = 2 ∨ D = 4) (hM : -4 ≤ M ∧ M ≤ 12) : stepB (mkR N D) (mkR M 3) = true := by
 have h1 := List.all_eq_true.1 (List.all_eq_true.1 (List.all_eq_true.1 step_all (N - 1).toNat (List.mem_range.2 (by omega))) D (by rcases hD with rfl | rfl | rfl <;> decide)) (M + 4).toNat (List.mem_range.2 (by omega))
 rw [show (((N - 1).toNat : Nat) : Int) + 1 = N by omega,show (((M + 4).toNat : Nat) : Int) - 4 = M by omega] at h1
 exact h1
theorem coeff_range {r a d b e : Int} (hr : 0 ≤ r ∧ r < 2) (ha : 1 ≤ a ∧ a ≤ 4) (hd : 1 ≤ d ∧ d ≤ 2) (hb : 1 ≤ b ∧ b ≤ 4) (he : 1 ≤ e ∧ e ≤ 2) :
  (1 ≤ (3 - r) * a * e + (1 + r) * b * d ∧ (3 - r) * a * e + (1 + r) * b * d ≤ 32) ∧ (d * e = 1 ∨ d * e = 2 ∨ d * e = 4) := by
 obtain rfl | rfl : r = 0 ∨ r = 1 := by omega
 all_goals obtain rfl | rfl : d = 1 ∨ d = 2 := by omega
 all_goals obtain rfl | rfl : e = 1 ∨ e = 2 := by omega
 all_goals omega
theorem len3 {α : Type} {l : List α} (h : l.length = 3) : ∃ a b c,l = [a,b,c] := by
 match l,h with
 | [a,b,c], _ => exact ⟨a,b,c,rfl⟩
structure OnePt (p : TProblem) (s l : TRat) : Prop where
 st : asmL p.mesh (stiffLoc p) = [[s]]
 ma : asmL p.mesh (massLoc p.mesh) = [[mkR 2 3]]
 ld : loadL p = [l]
 pt : ptsOfL p.mesh false = [4]
 rw_ : rowsL p.mesh = [-1, -1, -1, -1,0]
 np : p.mesh.points.length = 5
 b : stepB s l = true
theorem mass_one : asmL (mesh0 0) (massLoc (mesh0 0)) = [[mkR 2 3]] ∧ asmL (mesh0 1) (massLoc (mesh0 1)) = [[mkR 2 3]] := by decide +kernel
theorem pts_one : (ptsOfL (mesh0 0) false = [4] ∧ ptsOfL (mesh0 1) false = [4]) ∧ (rowsL (mesh0 0) = [-1, -1, -1, -1,0] ∧ rowsL (mesh0 1) = [-1, -1, -1, -1,0]) := by decide +kernel
theorem one_pt {r : Int} {ks fs : List TRat} (hr : 0 ≤ r ∧ r < 2) (h : CoefI ks fs 3) : ∃ s l,OnePt ⟨mesh0 r,ks,fs⟩ s l := by
 obtain ⟨k0,k1,k2,rfl⟩ := len3 h.kl
 obtain ⟨f0,f1,f2,rfl⟩ := len3 h.fl
 obtain ⟨a,d,ha,hd,rfl⟩ := h.k k0 (by simp)
 obtain ⟨b,e,hb,he,rfl⟩ := h.k k1 (by simp)
 obtain ⟨f,hf,rfl⟩ := h.f f0 (by simp)
 obtain ⟨g,hg,rfl⟩ := h.f f1 (by simp)
 obtain ⟨hN,hD⟩ := coeff_range hr ha hd hb he
 refine ⟨mkR ((3 - r) * a * e + (1 + r) * b * d) (d * e),mkR ((3 - r) * f + (1 + r) * g) 3, ?_, ?_, ?_, ?_, ?_,rfl,step_at hN hD ?_⟩
 ·have h0 : stiffC r a d b e = true := by
   obtain rfl | rfl : r = 0 ∨ r = 1 := by omega
   ·exact stiff_at stiff_all.1 ha hd hb he
   ·exact stiff_at stiff_all.2 ha hd hb he
  rw [← of_decide_eq_true h0]
  obtain rfl | rfl : r = 0 ∨ r = 1 := by omega
  all_goals
   refine asmTo_congr 4 fun i hi => ?_
   match i,hi with
   | 0, _ => rfl
   | 1, _ => rfl
   | 2, _ => rfl
   | 3, _ => rfl
 ·obtain rfl | rfl : r = 0 ∨ r = 1 := by omega
  ·exact mass_one.1
  ·exact mass_one.2
 ·have h0 : loadC r f g = true := by
   obtain rfl | rfl : r = 0 ∨ r = 1 := by omega
   ·exact load_at load_all.1 hf hg
   ·exact load_at load_all.2 hf hg
  rw [← of_decide_eq_true h0]
  obtain rfl | rfl : r = 0 ∨ r = 1 := by omega
  all_goals
   refine loadTo_congr rfl 4 fun i hi => ?_
   match i,hi with
   | 0, _ => rfl
   | 1, _ => rfl
   | 2, _ => rfl
   | 3, _ => rfl
 ·obtain rfl | rfl : r = 0 ∨ r = 1 := by omega
  ·exact pts_one.1.1
  ·exact pts_one.1.2
 ·obtain rfl | rfl : r = 0 ∨ r = 1 := by omega
  ·exact pts_one.2.1
  ·exact pts_one.2.2
 ·obtain rfl | rfl : r = 0 ∨ r = 1 := by omega
  all_goals omega
theorem heat_one {p : TProblem} {s l : TRat} (h : IsCoP p) (hO : OnePt p s l) : HeatG p := by
 obtain ⟨xs,ys,hP,hM⟩ := cop_prob h
 have hb := hO.b
 unfold stepB at hb
 simp only [Bool.and_eq_true,decide_eq_true_eq,Bool.not_eq_true'] at hb
 obtain ⟨b1,b2,b3,b4,b5,b6,b7⟩ := hb
 have hin : ∀ us,innerP p.mesh us = [us.getD 4 zeroR] := fun us => by unfold innerP; rw [hO.pt]; rfl
 have hsp : ∀ u,spreadL p.mesh [u] = [rint 0,rint 0,rint 0,rint 0,u] := fun u => by unfold spreadL; rw [hO.rw_]; rfl
 have hst : ∀ us,stepL p (some (mkR 2 3)) (some s) (mkR 1 2) us = [rint 0,rint 0,rint 0,rint 0,stepS s l (us.getD 4 zeroR)] := fun us => by
  unfold stepL
  rw [hin,hO.ld]
  exact hsp _
 have hU : ∀ us : List TRat,us.length = 5 → us.all ratOkB = true → stepU s l (us.getD 4 zeroR) = true → HeatU p (some (mkR 2 3)) (some s) (mkR 1 2) us := by
  intro us h1 h2 h3
  unfold stepU at h3
  simp only [Bool.and_eq_true,Bool.not_eq_true'] at h3
  obtain ⟨c1,c2,c3,c4⟩ := h3
  refine ⟨by rw [h1,hO.np],h2, ?_, ?_, ?_⟩
  ·rw [hin]
   show (denBad _ || false) = false
   rw [Bool.or_false]; exact c2
  ·rw [hin,hO.ld]
   show (ratOkB _ && true) = true
   rw [Bool.and_true]; exact c3
  ·rw [hin,hO.ld]
   show (ratOkB _ && true) = true
   rw [Bool.and_true]; exact c4
 have z0 : ratOkB (rint 0) = true := by decide
 have hz : List.replicate p.mesh.points.length (rint 0) = [rint 0,rint 0,rint 0,rint 0,rint 0] := by rw [hO.np]; rfl
 refine ⟨xs,ys,some (mkR 2 3),some s,⟨hP,hM,hO.ma,hO.st,by rw [hO.pt]; rfl,rfl,⟨by decide +kernel,by decide +kernel⟩,⟨b1,b2⟩,⟨b3,by have := b4; show numv _ ≠ 0; omega⟩,fun r hr => by cases hr; exact b4,by rw [hO.ld]; show (denBad _ || false) = false; rw [Bool.or_false]; exact b5,by rw [hO.ld]; rfl,by decide +kernel,by decide +kernel⟩, ?_, ?_⟩
 ·rw [hz]
  exact hU _ rfl (by simp [z0]) b6
 ·rw [hz,hst]
  have c := b7
  unfold stepU at c
  simp only [Bool.and_eq_true] at c
  exact hU _ rfl (by simp [z0]; exact c.1) b7
theorem heat_good {p : TProblem} (h : IsCoP p) : HeatG p := by
 obtain ⟨m,ks,fs⟩ := p
 rcases h.1 with ⟨r,hr,hm⟩ | ⟨r,hr,hm⟩ | hm
 ·have hm' : m = mesh0 r := hm
  subst hm'
  obtain ⟨s,l,hO⟩ := one_pt hr h.2
  exact heat_one h hO
 ·have hm' : m = mesh1 r := hm
  subst hm'
  obtain rfl | rfl | rfl : r = 0 ∨ r = 1 ∨ r = 2 := by omega
  ·exact heat_none h (show ptsOfL (mesh1 0) false = [] by decide +kernel) (show (spreadL (mesh1 0) []).length = 4 by decide +kernel) (show (spreadL (mesh1 0) []).all ratOkB = true by decide +kernel)
  ·exact heat_none h (show ptsOfL (mesh1 1) false = [] by decide +kernel) (show (spreadL (mesh1 1) []).length = 4 by decide +kernel) (show (spreadL (mesh1 1) []).all ratOkB = true by decide +kernel)
  ·exact heat_none h (show ptsOfL (mesh1 2) false = [] by decide +kernel) (show (spreadL (mesh1 2) []).length = 4 by decide +kernel) (show (spreadL (mesh1 2) []).all ratOkB = true by decide +kernel)
 ·have hm' : m = mesh2 0 := hm
  subst hm'
  exact heat_none h (show ptsOfL (mesh2 0) false = [] by decide +kernel) (show (spreadL (mesh2 0) []).length = 8 by decide +kernel) (show (spreadL (mesh2 0) []).all ratOkB = true by decide +kernel)
end Go.Proofs.YtpfipnankjeokaaGreat.X
