/- Part of a claim's proof: texts of this repository's wip,joined by prune.py,without the theorems that the claim does not reach. -/
import Derived.Test.YtpfipnankjeokaaGreatY25
import Derived.LoopN
set_option linter.constructorNameAsVariable false
namespace Go
open Go.RowKit Go.XB
def allocs (w : World) : List Obj → World
 | [] => w
 | o :: os => allocs (w.alloc o) os
theorem allocs_below : ∀ (os : List Obj) (w : World),Below w.heap.size w (allocs w os)
 | [], _ => Below.refl _ _
 | o :: os,w => Below.next (Below.box o) (allocs_below os (w.alloc o))
theorem allocs_size : ∀ (os : List Obj) (w : World),(allocs w os).heap.size = w.heap.size + os.length
 | [],w => rfl
 | o :: os,w => by rw [allocs,allocs_size os,World.size_alloc,List.length_cons]; omega
theorem allocs_heap : ∀ (os : List Obj) (w : World) (k : Nat) (o : Obj),os[k]? = some o → (allocs w os).heap[w.heap.size + k]? = some o
 | [],w,k,o,h => by simp at h
 | p :: os,w,0,o,h => by
  simp at h; subst h
  rw [allocs,Nat.add_zero,(allocs_below os (w.alloc p)).block w.heap.size (by simp)]
  exact heap_alloc_new w p
 | p :: os,w,k + 1,o,h => by
  have := allocs_heap os (w.alloc p) k o (by simpa using h)
  rw [World.size_alloc] at this
  rw [allocs,show w.heap.size + (k + 1) = w.heap.size + 1 + k by omega]
  exact this
theorem wpList_push0 {P : Program} {w : World} {ops : Array Oper} {rest : List Oper} {o : Oper} {a : Act} {Q : Exit → Act → World → Prop} (hgd : o.guard = none) (s x : Operand) (t : TypeId)
  (ho : o.op = .call { callee := .builtin .append,args := #[s,x],argTypes := #[t,t] })
  (e : TypeId) (i : TypeInfo) (z : Value) (size bytes : Nat) (ht : P.underlying t = some (.slice e)) (hi : P.info? e = some i) (hz : i.zero = some z)
  (hsize : i.size = size) (hby : i.bytes = bytes) (hzs : z.cells.size = size) (hsz : 0 < size) (hs : a.eval s = .slice none 0 0)
  (ad : Addr) (c : Nat) (news : List Value) (hx : a.eval x = .slice (some ad) 1 c) (hl : news.length = size) (hnews : ∀ j u,news[j]? = some u → w.cell? (ad.add j) = some u) (h1 : ∀ u ∈ news,u.oneCell' = true)
  (hbytes : bytes ≤ 140737488355328)
  (h : ∀ g' cap' w',w'.ownsRow w.heap.size e size (.slice (some ⟨g',0,none⟩) 1 cap') 1 news → Below w.heap.size w w' → w.heap.size ≤ g' → wpList P ops Q rest (a.put o.dst (.slice (some ⟨g',0,none⟩) 1 cap')) w') : wpList P ops Q (o :: rest) a w := by
 refine wpList_append_own w hgd s x t ho w.heap.size e i z size bytes ht hi hz hsize hby hzs hsz (.slice none 0 0) 0 [] hs (World.ownsRow_nil w _ e size) ad 1 c news hx (by omega) hnews h1 (by unfold maxLen; omega) (by omega) (Nat.le_refl _) ?_
 intro v' w' hown hgrow hnil
 rw [List.nil_append,Nat.zero_add] at hown
 rcases hown.2 with ⟨hv, _⟩ | ⟨g,cap,cur,hv,hb,hr⟩
 ·exact absurd (hnil.1 hv).2 (by decide)
 ·subst hv
  exact h g cap w' hown ((Below.refl w.heap.size w).grown hgrow (Nat.le_refl _) (by intro k hk; cases hk)) hb
end Go
namespace Go.Proofs.YtpfipnankjeokaaGreat.X
open Go.RowKit Go.XB Go.XN
def mat1 : Option TRat → TMatrix
 | none => ⟨[]⟩
 | some r => ⟨[⟨[0], [r]⟩]⟩
def list1 : Option TRat → List (List TRat)
 | none => []
 | some r => [[r]]
def len1 : Option TRat → Nat
 | none => 0
 | some _ => 1
def Ok1 : Option TRat → Prop
 | none => True
 | some r => ratOkB r = true ∧ numv r ≠ 0
def GivesMx (w : World) (o : Option TRat) (e : Ending) (w' : World) : Prop := ∃ v s,e = .returned (.tuple #[v, .bool true]) ∧ Agg w' v (mat1 o) s ∧ (∀ b ∈ s,w.heap.size ≤ b) ∧ Below w.heap.size w w'
def GivesMa (w : World) (o : Option TRat) (e : Ending) (w' : World) : Prop := ∃ v s,e = .returned v ∧ Agg w' v (mat1 o) s ∧ (∀ b ∈ s,w.heap.size ≤ b) ∧ Below w.heap.size w w'
theorem mat0_agg (w : World) : Agg w (.agg #[.slice none 0 0]) (mat1 none) [] := TMatrix.mkAgg (x := mat1 none) (Sl.nil w)
theorem heap_setSelf {w : World} {b j : Nat} {cs : Array Value} {t : TypeId} {v : Value} (h : w.heap[b]? = some (.cells cs t)) : (w.setCell ⟨b,j,none⟩ v).heap[b]? = some (.cells (cs.setIfInBounds j v) t) := by
 have hlt := lt_of_block h
 have h' : w.heap[b] = .cells cs t (0,0) := by simpa [Array.getElem?_eq_getElem hlt] using h
 show (w.heap.modify b _)[b]? = _
 rw [Array.getElem?_eq_getElem (by simpa using hlt),Array.getElem_modify_self,h']
 rfl
theorem push0_sl {α : Type} [Dat α] {w8 : World} {base g cap : Nat} {e : TypeId} {cs : List Value} {x : α} {fs : List Nat} (h : w8.ownsRow base e (Dat.sz α) (.slice (some ⟨g,0,none⟩) 1 cap) 1 cs) (ha : Dat.at_ w8 cs x fs) : Sl w8 (some ⟨g,0,none⟩) 1 cap [x] (g :: fs) := by
 have hl := Dat.len ha
 have hf : Filled w8 cs [x] [fs] := ⟨rfl,by simp [hl],fun k y gs hy hg => by
  obtain rfl : k = 0 := by have := (List.getElem?_eq_some_iff.1 hy).1; simp at this; exact this
  simp at hy hg
  subst hy; subst hg
  rw [Nat.zero_mul,List.drop_zero,List.take_of_length_le (by omega)]
  exact ha⟩
 obtain ⟨A,c,bs,hv,hs,ho⟩ := hf.sl (α := α) h rfl
 cases hv
 rcases ho with ⟨h0, _⟩ | ⟨g',e',rfl, _⟩
 ·omega
 ·simp [Value.ownBlock] at e'
  subst e'
  simpa using hs
attribute [local go_sem] fillBy Go.XB.opAt deps depOf Region.wanted yielded
attribute [local simp] deps depOf MP.eq MP.agg MP.aggS MP.sl MP.slbox Facts
set_option maxHeartbeats 2000000 in
theorem impl_sparse0 (A : Option Addr) (c : Nat) (w : World) : Calls Tryz.prog 155 #[.slice A 0 c] w (GivesMx w none) := by
 go_enter Tryz.func155,Tryz.ntmps155
 go_wp2_with fail
 refine wp_loop_rounds 1 ?_
 rw [rounds_succ]
 go_wp2
 refine bodyPost_ret (v := .tuple #[.agg #[.slice none 0 0], .bool true]) (by simp [results,Tryz.results155,go_sem, *]) rfl ?_
 exact ⟨_, [],rfl,mat0_agg _,(fun b hb => by simp at hb),Below.next (Below.box _) (Below.box _)⟩
theorem infoRo : (Tryz.prog.info? 176).map (fun i => (i.zero,i.size,i.bytes)) = some (some (.agg #[.slice none 0 0, .slice none 0 0]),2,48) := by kernel_rfl
set_option maxHeartbeats 8000000 in
set_option maxRecDepth 10000 in
theorem impl_sparse1 (A : Option Addr) (c : Nat) (r : TRat) (bs : List Nat) (w : World) (hx : Sl w A 1 c [[r]] bs) (ok : ratOkB r = true) (h0 : numv r ≠ 0) : Calls Tryz.prog 155 #[.slice A 1 c] w (GivesMx w (some r)) := by
 have HX := hid hx; have VR := hid (ratOkB_iff.1 ok); have HOK := hid ok
 have hsg : ((rsignV r : Int) == 0) = false := by
  unfold rsignV sgn; simp; split
  ·omega
  ·split <;> omega
 obtain ⟨be,oe,r0,A1,n1,c1,fs,rfl,hbl,hr,he,hs, _⟩ := Sl.elemS hx (show 0 < 1 by decide)
 simp at hr
 subst hr
 obtain rfl : 1 = n1 := by rw [← hs.1]; rfl
 obtain ⟨bf,off,x,D1,nD1,cD1,d1,D2,nD2,cD2,d2,rfl,hblf,hr1,g0,g1,g2,hag⟩ := TRat.elemA hs (show 0 < 1 by decide)
 simp at hr1
 subst hr1
 simp at he g0 g1 g2
 have hbl1 : be < w.heap.size + 1 := by omega
 have hbl2 : be < w.heap.size + 1 + 1 := by omega
 have hbf1 : bf < w.heap.size + 1 := by omega
 have hbf2 : bf < w.heap.size + 1 + 1 := by omega
 have hbf3 : bf < w.heap.size + 1 + 1 + 1 := by omega
 have hbf4 : bf < w.heap.size + 1 + 1 + 1 + 1 := by omega
 have HAG := hid hag
 obtain ⟨i1,gi,gz0,gz1,gz2⟩ := info_parts infoI
 obtain ⟨i2,hi,hz0,hz1,hz2⟩ := info_parts infoRt
 obtain ⟨i3,ki,kz0,kz1,kz2⟩ := info_parts infoRo
 clear hx ok h0 hs hag
 go_enter Tryz.func155,Tryz.ntmps155
 go_wp2_with fail
 refine wp_loop_rounds 2 ?_
 rw [rounds_succ]
 go_wp2_with fail
 refine wp_loop_rounds 2 ?_
 rw [rounds_succ]
 go_wp2_with fail
 obtain ⟨W4,hW4⟩ : ∃ W4,W4 = ((((w.alloc (.cells #[.slice none 0 0] 143)).alloc (.cells #[.slice none 0 0] 143)).alloc (.cells #[.slice none 0 0, .slice none 0 0] 176)).alloc (.cells #[.bool r.num.neg, .slice D1 nD1 cD1, .slice D2 nD2 cD2] 32)) := ⟨_,rfl⟩
 have HB4 := hid (show Below w.heap.size w W4 by rw [hW4]; exact Below.next (Below.next (Below.next (Below.box _) (Below.box _)) (Below.box _)) (Below.box _))
 have hs4 : W4.heap.size = w.heap.size + 1 + 1 + 1 + 1 := by rw [hW4]; exact allocs_size [_, _, _, _] w
 have K0 := hid (show W4.heap[w.heap.size]? = some (.cells #[.slice none 0 0] 143) by rw [hW4]; exact allocs_heap [_, _, _, _] w 0 _ rfl)
 have K1 := hid (show W4.heap[w.heap.size + 1]? = some (.cells #[.slice none 0 0] 143) by rw [hW4]; exact allocs_heap [_, _, _, _] w 1 _ rfl)
 have K2 := hid (show W4.heap[w.heap.size + 1 + 1]? = some (.cells #[.slice none 0 0, .slice none 0 0] 176) by rw [hW4]; exact allocs_heap [_, _, _, _] w 2 _ rfl)
 have K3 := hid (show W4.heap[w.heap.size + 1 + 1 + 1]? = some (.cells #[.bool r.num.neg, .slice D1 nD1 cD1, .slice D2 nD2 cD2] 32) by rw [hW4]; exact allocs_heap [_, _, _, _] w 3 _ rfl)
 rw [← hW4]
 clear hW4
 have C := impl_isRat _ r _ W4 (HAG.out.below HB4.out)
 rw [ok_den HOK.out] at C
 refine C.mono ?_
 clear C
 rintro _ w5 ⟨rfl,hb5⟩
 have HB5 := hid hb5
 obtain ⟨x30,x31⟩ := box_cell (heap_keep' K3.out hb5) (j := 0) rfl
 obtain ⟨x32,x33⟩ := box_cell (heap_keep' K3.out hb5) (j := 1) rfl
 obtain ⟨x34,x35⟩ := box_cell (heap_keep' K3.out hb5) (j := 2) rfl
 have hs5 : w.heap.size + 1 + 1 + 1 < w5.heap.size := by have := hb5.size; omega
 clear hb5
 go_wp2_with fail
 refine (impl_sign _ r _ w5 (HAG.out.below (Below.next HB4.out HB5.out)) VR.out.mag (negOk_of VR.out.num)).mono ?_
 rintro _ w6 ⟨rfl,hb6⟩
 have HB6 := hid (Below.next HB5.out hb6)
 have hs6 := HB6.out.size
 obtain ⟨y20,y21⟩ := box_cell (heap_keep' K2.out HB6.out) (j := 0) rfl
 obtain ⟨y22,y23⟩ := box_cell (heap_keep' K2.out HB6.out) (j := 1) rfl
 have hl6 : w.heap.size + 1 + 1 < w6.heap.size := by omega
 clear x30 x31 x32 x33 x34 x35 hs5 hb6
 go_wp2_with (at_builtin; refine wpList_push0 rfl _ _ 28 rfl 3 i1 (.int .i64 0) 1 8 Tryz.underlying28 gi gz0 gz1 gz2 rfl (by decide) (by go_simp; done) ⟨w6.heap.size,0,none⟩ 1 [.int .i64 0] (by go_simp; done) rfl (block_cells (heap_alloc_new w6 _)) (by simp [Value.oneCell']) (by decide) ?_; intro gC capC w8 hownC hb8 hgC; have z20 := (hb8.cell (p := ⟨w.heap.size + 1 + 1,0,none⟩) (by simp; omega)).trans ((Below.box (w := w6) (.cells #[.int .i64 0] 3)).cell (p := ⟨w.heap.size + 1 + 1,0,none⟩) (by simp; omega) |>.trans y20); have z21 := (hb8.frozen (p := ⟨w.heap.size + 1 + 1,0,none⟩) (by simp; omega)).trans ((Below.box (w := w6) (.cells #[.int .i64 0] 3)).frozen (p := ⟨w.heap.size + 1 + 1,0,none⟩) (by simp; omega) |>.trans y21))
 obtain ⟨W9,hW9⟩ : ∃ W9,W9 = w8.setCell ⟨w.heap.size + 1 + 1,0,none⟩ (.slice (some ⟨gC,0,none⟩) 1 capC) := ⟨_,rfl⟩
 have HB68 := hid (show Below w6.heap.size w6 w8 from Below.next (Below.box _) hb8)
 have hgC6 : w6.heap.size < gC := by simp at hgC; omega
 have J2 := hid (show W9.heap[w.heap.size + 1 + 1]? = some (.cells #[.slice (some ⟨gC,0,none⟩) 1 capC, .slice none 0 0] 176) by rw [hW9]; exact heap_setSelf (heap_keep' (heap_keep' K2.out HB6.out) HB68.out))
 have J0 := hid (show W9.heap[w.heap.size]? = some (.cells #[.slice none 0 0] 143) by rw [hW9]; exact (Below.heap_setCell _ _ _ _ (by simp; omega)).trans (heap_keep' (heap_keep' K0.out HB6.out) HB68.out))
 have J1 := hid (show W9.heap[w.heap.size + 1]? = some (.cells #[.slice none 0 0] 143) by rw [hW9]; exact (Below.heap_setCell _ _ _ _ (by simp)).trans (heap_keep' (heap_keep' K1.out HB6.out) HB68.out))
 have J3 := hid (show W9.heap[w.heap.size + 1 + 1 + 1]? = some (.cells #[.bool r.num.neg, .slice D1 nD1 cD1, .slice D2 nD2 cD2] 32) by rw [hW9]; exact (Below.heap_setCell _ _ _ _ (by simp)).trans (heap_keep' (heap_keep' K3.out HB6.out) HB68.out))
 have SC := hid (show Sl W9 (some ⟨gC,0,none⟩) 1 capC [(0 : Int)] [gC] by rw [hW9]; exact (push0_sl (α := Int) hownC ⟨rfl,rfl,by constructor <;> decide⟩).keep (fun b hb => Below.heap_setCell _ _ _ _ (by simp at hb; subst hb; simp; omega)))
 have HB9 := hid (show Below w.heap.size w W9 by rw [hW9]; exact (Below.next (Below.next HB4.out HB6.out) HB68.out).setCell (p := ⟨w.heap.size + 1 + 1,0,none⟩) (by simp; omega) _)
 have hs9 : w.heap.size + 1 + 1 + 1 < W9.heap.size := lt_of_block J3.out
 have hs9' : w.heap.size + 1 + 1 < W9.heap.size := by omega
 rw [← hW9]
 clear hW9 hownC hb8 hgC z20 z21 y20 y21 y22 y23 hl6
 obtain ⟨y20,y21⟩ := box_cell J2.out (j := 0) rfl
 obtain ⟨y22,y23⟩ := box_cell J2.out (j := 1) rfl
 obtain ⟨x30,x31⟩ := box_cell J3.out (j := 0) rfl
 obtain ⟨x32,x33⟩ := box_cell J3.out (j := 1) rfl
 obtain ⟨x34,x35⟩ := box_cell J3.out (j := 2) rfl
 refine wp_region_line 5 (by kernel_rfl) (by kernel_rfl) (by kernel_rfl) (by kernel_rfl) (by kernel_rfl) ?_
 simp only [List.take_succ_cons,List.take_zero,List.drop_succ_cons,List.drop_zero]
 iterate 3
  apply walkM_eq
  case h =>
   intro yq zq wq hC hd
   obtain ⟨hcq,hfq⟩ := bcell hC
   simp at hd
   refine ⟨by go_simp; done, ?_⟩
   go_simp
   first | (go_ints; exact rfl) | (go_ints; rw [if_pos (by omega)]; try exact rfl) | exact rfl | (rw [if_pos (by omega)]; try exact rfl)
 refine walkM_call (MP.agg r) ?_ ?_
 ·intro yq zq wq hC hd
  obtain ⟨hcq,hfq⟩ := bcell hC
  simp at hd
  refine ⟨by go_simp; done, ?_⟩
  apply Exists.intro
  apply Exists.intro
  constructor
  ·go_simp
   exact ⟨rfl,rfl⟩
  ·exact gives_agg (impl_copyRat _ _ _ wq (HAG.out.below (Below.next HB9.out hC)) (Nat.le_trans (lim24_ok HOK.out).1 (by decide)) (Nat.le_trans (lim24_ok HOK.out).2 (by decide)))
 refine walkM_runD (fun y' => MP.slbox (y' 3).cells 32) (by intro y y' h; simp [deps,depOf] at h; simp [h]) ?_ ?_
 ·intro yq zq wq hC hd
  simp at hd
  obtain ⟨E1,nE1,cE1,e1,E2,nE2,cE2,e2,e13, _, _, _⟩ := TRat.agg hd.1
  refine ⟨by go_simp; done, .slice (some ⟨wq.heap.size,0,none⟩) 1 1,wq.alloc (.cells (yq 3).cells 32), ?_,Below.box _, [wq.heap.size],⟨wq.heap.size,rfl,rfl,heap_alloc_new wq _⟩,by simp⟩
  rw [e13]
  go_simp
 intro yq zq wa hC hd hdis0
 have hdis := hid hdis0
 clear hdis0
 simp at hd
 have q1 := hd.2.1
 have q3 := hd.2.2.2.1
 have q4 := hd.2.2.2.2
 obtain ⟨⟨ha,hf⟩,hr⟩ := q3
 obtain ⟨G1,nG1,cG1,g1',G2,nG2,cG2,g2',e15,z15,m1,m2⟩ := TRat.agg ha
 obtain ⟨⟨gn,e16,z16,hgn⟩,hr16⟩ := q4
 rw [e15] at hgn ha
 have AT := hid (rat_dat ha)
 have HR3 := hid (show ∀ b ∈ zq 3,W9.heap.size ≤ b from fun b hb => (hr b hb).1)
 have HBa := hid hC
 have HGN := hid hgn
 have e1' : yq 1 = .slice none 0 0 := q1.1.1
 generalize zq 3 = r3 at *
 clear hd hdis ha hf hr z15 m1 m2 hgn hr16 z16 q1 hC
 obtain ⟨u22,u23⟩ := box_cell (heap_keep' J2.out HBa.out) (j := 1) rfl
 have hla : w.heap.size + 1 + 1 < wa.heap.size := by have := HBa.out.size; omega
 go_wp2_with (at_builtin; refine wpList_push0 rfl _ _ 36 rfl 32 i2 (.agg #[.bool false, .slice none 0 0, .slice none 0 0]) 3 56 Tryz.underlying36 hi hz0 hz1 hz2 rfl (by decide) (by go_simp; done) ⟨gn,0,none⟩ 1 [.bool r.num.neg, .slice G1 nG1 cG1, .slice G2 nG2 cG2] (by go_simp; done) rfl (block_cells HGN.out) (Dat.one AT.out) (by decide) ?_; intro gV capV w11 hownV hb11 hgV; have v22 := (hb11.cell (p := ⟨w.heap.size + 1 + 1,1,none⟩) (by simp; omega)).trans u22; have v23 := (hb11.frozen (p := ⟨w.heap.size + 1 + 1,1,none⟩) (by simp; omega)).trans u23)
 obtain ⟨W12,hW12⟩ : ∃ W12,W12 = w11.setCell ⟨w.heap.size + 1 + 1,1,none⟩ (.slice (some ⟨gV,0,none⟩) 1 capV) := ⟨_,rfl⟩
 have HB911 := hid (show Below W9.heap.size W9 w11 from Below.next HBa.out hb11)
 have hgV9 : W9.heap.size ≤ gV := by have := HBa.out.size; omega
 have L2 := hid (show W12.heap[w.heap.size + 1 + 1]? = some (.cells #[.slice (some ⟨gC,0,none⟩) 1 capC, .slice (some ⟨gV,0,none⟩) 1 capV] 176) by rw [hW12]; exact heap_setSelf (heap_keep' J2.out HB911.out))
 have L0 := hid (show W12.heap[w.heap.size]? = some (.cells #[.slice none 0 0] 143) by rw [hW12]; exact (Below.heap_setCell _ _ _ _ (by simp; omega)).trans (heap_keep' J0.out HB911.out))
 have L1 := hid (show W12.heap[w.heap.size + 1]? = some (.cells #[.slice none 0 0] 143) by rw [hW12]; exact (Below.heap_setCell _ _ _ _ (by simp)).trans (heap_keep' J1.out HB911.out))
 have SV := hid (show Sl W12 (some ⟨gV,0,none⟩) 1 capV [r] (gV :: r3) by
  rw [hW12]
  exact (push0_sl (α := TRat) hownV (Dat.keep AT.out (fun b hb => hb11.block b (Dat.lt AT.out b hb)))).keep (fun b hb => Below.heap_setCell _ _ _ _ (by
   simp
   rcases List.mem_cons.1 hb with rfl | hb
   ·omega
   ·have := HR3.out b hb; omega)))
 have SC2 := hid (show Sl W12 (some ⟨gC,0,none⟩) 1 capC [(0 : Int)] [gC] by rw [hW12]; exact (SC.out.below HB911.out).keep (fun b hb => Below.heap_setCell _ _ _ _ (by simp at hb; subst hb; simp; omega)))
 have RA := hid (show Dat.at_ W12 [.slice (some ⟨gC,0,none⟩) 1 capC, .slice (some ⟨gV,0,none⟩) 1 capV] (⟨[0], [r]⟩ : TRow) ([gC] ++ (gV :: r3)) from TRow.shut (x := ⟨[0], [r]⟩) SC2.out SV.out)
 have HB12 := hid (show Below w.heap.size w W12 by rw [hW12]; exact (Below.next HB9.out HB911.out).setCell (p := ⟨w.heap.size + 1 + 1,1,none⟩) (by simp; omega) _)
 have hs12 : w.heap.size + 1 + 1 < W12.heap.size := lt_of_block L2.out
 have hs12' : w.heap.size + 1 < W12.heap.size := by omega
 have hs12'' : w.heap.size < W12.heap.size := by omega
 rw [← hW12]
 clear hW12 hownV hb11 hgV v22 v23 u22 u23 y20 y21 y22 y23 x30 x31 x32 x33 x34 x35 hs9 hs9' hla
 obtain ⟨y20,y21⟩ := box_cell L2.out (j := 0) rfl
 obtain ⟨y22,y23⟩ := box_cell L2.out (j := 1) rfl
 obtain ⟨x10,x11⟩ := box_cell L1.out (j := 0) rfl
 rw [rounds_succ]
 go_wp2_with (at_builtin; refine wpList_push0 rfl _ _ 141 rfl 176 i3 (.agg #[.slice none 0 0, .slice none 0 0]) 2 48 Tryz.underlying141 ki kz0 kz1 kz2 rfl (by decide) (by go_simp; done) ⟨W12.heap.size,0,none⟩ 1 [.slice (some ⟨gC,0,none⟩) 1 capC, .slice (some ⟨gV,0,none⟩) 1 capV] (by go_simp; done) rfl (block_cells (heap_alloc_new W12 _)) (Dat.one RA.out) (by decide) ?_; intro gR capR w14 hownR hb14 hgR; have v10 := (hb14.cell (p := ⟨w.heap.size + 1,0,none⟩) (by simp; omega)).trans (((Below.box (w := W12) (.cells #[.slice (some ⟨gC,0,none⟩) 1 capC, .slice (some ⟨gV,0,none⟩) 1 capV] 176)).cell (p := ⟨w.heap.size + 1,0,none⟩) (by simp; omega)).trans x10); have v11 := (hb14.frozen (p := ⟨w.heap.size + 1,0,none⟩) (by simp; omega)).trans (((Below.box (w := W12) (.cells #[.slice (some ⟨gC,0,none⟩) 1 capC, .slice (some ⟨gV,0,none⟩) 1 capV] 176)).frozen (p := ⟨w.heap.size + 1,0,none⟩) (by simp; omega)).trans x11))
 obtain ⟨W15,hW15⟩ : ∃ W15,W15 = w14.setCell ⟨w.heap.size + 1,0,none⟩ (.slice (some ⟨gR,0,none⟩) 1 capR) := ⟨_,rfl⟩
 have HB1214 := hid (show Below W12.heap.size W12 w14 from Below.next (Below.box _) hb14)
 have hgR12 : W12.heap.size < gR := by simp at hgR; omega
 have N0 := hid (show W15.heap[w.heap.size]? = some (.cells #[.slice none 0 0] 143) by rw [hW15]; exact (Below.heap_setCell _ _ _ _ (by simp)).trans (heap_keep' L0.out HB1214.out))
 have N1 := hid (show W15.heap[w.heap.size + 1]? = some (.cells #[.slice (some ⟨gR,0,none⟩) 1 capR] 143) by rw [hW15]; exact heap_setSelf (heap_keep' L1.out HB1214.out))
 have SR := hid (show Sl W15 (some ⟨gR,0,none⟩) 1 capR [(⟨[0], [r]⟩ : TRow)] (gR :: ([gC] ++ (gV :: r3))) by
  rw [hW15]
  exact (push0_sl (α := TRow) hownR (Dat.keep RA.out (fun b hb => HB1214.out.block b (Dat.lt RA.out b hb)))).keep (fun b hb => Below.heap_setCell _ _ _ _ (by
   simp
   rcases List.mem_cons.1 hb with rfl | hb
   ·omega
   rcases List.mem_append.1 hb with hb | hb
   ·simp at hb; subst hb; omega
   rcases List.mem_cons.1 hb with rfl | hb
   ·have := lt_of_block J3.out; omega
   ·have h1 := HR3.out b hb; have := lt_of_block J3.out; omega)))
 have HB15 := hid (show Below w.heap.size w W15 by rw [hW15]; exact (Below.next HB12.out HB1214.out).setCell (p := ⟨w.heap.size + 1,0,none⟩) (by simp) _)
 have hs15 : w.heap.size + 1 < W15.heap.size := lt_of_block N1.out
 have hs15' : w.heap.size < W15.heap.size := by omega
 rw [← hW15]
 clear hW15 hownR hb14 hgR v10 v11 y20 y21 y22 y23 x10 x11 hs12 hs12' hs12''
 obtain ⟨y10,y11⟩ := box_cell N1.out (j := 0) rfl
 obtain ⟨y00,y01⟩ := box_cell N0.out (j := 0) rfl
 rw [rounds_succ]
 go_wp2
 refine bodyPost_ret (v := .tuple #[.agg #[.slice (some ⟨gR,0,none⟩) 1 capR], .bool true]) (by simp [results,Tryz.results155,go_sem, *]) rfl ?_
 have HN := hid (show ∀ b ∈ gR :: ([gC] ++ (gV :: r3)),w.heap.size < b from fun b hb => by
   rcases List.mem_cons.1 hb with rfl | hb
   ·have := lt_of_block L2.out; omega
   rcases List.mem_append.1 hb with hb | hb
   ·simp at hb; subst hb; omega
   rcases List.mem_cons.1 hb with rfl | hb
   ·have := lt_of_block J3.out; omega
   ·have h1 := HR3.out b hb; have := lt_of_block J3.out; omega)
 exact ⟨_, _,rfl,TMatrix.mkAgg (x := mat1 (some r)) (SR.out.keep (fun b hb => Below.heap_setCell _ _ _ _ (by have := HN.out b hb; simp; omega))),(fun b hb => Nat.le_of_lt (HN.out b hb)),HB15.out.setCell (p := ⟨w.heap.size,0,none⟩) (by simp) _⟩
end Go.Proofs.YtpfipnankjeokaaGreat.X
namespace Go.Proofs.YtpfipnankjeokaaGreat.X
open Go.RowKit Go.XB Go.XN
def at3 (a b c : Int) : Nat → Int
 | 0 => a
 | 1 => b
 | _ => c
theorem ixs (a b c : Int) (i : Nat) (h : i < 3) (w : World) : Sem.run Tryz.prog (Instr.index 75 (.agg #[.int .i64 a, .int .i64 b, .int .i64 c]) (.int .i64 (i : Int))) w = .ok (.int .i64 (at3 a b c i)) w := by
 obtain rfl | rfl | rfl : i = 0 ∨ i = 1 ∨ i = 2 := by omega
 ·exact ix0 a b c w
 ·exact ix1 a b c w
 ·exact ix2 a b c w
theorem at3_in {n : Nat} {t : TTri} (h : triIn n t) (i : Nat) : 0 ≤ at3 t.a t.b t.c i ∧ at3 t.a t.b t.c i < n := by
 obtain ⟨⟨_, _⟩,⟨_, _⟩,⟨_, _⟩⟩ := h
 match i with
 | 0 => exact ⟨by assumption,by assumption⟩
 | 1 => exact ⟨by assumption,by assumption⟩
 | _ + 2 => exact ⟨by assumption,by assumption⟩
def cellAdd (rows : List Int) (p q : Int) (x : TRat) (M : List (List TRat)) : List (List TRat) :=
 bif decide (0 ≤ rows.getD p.toNat (-1)) && decide (0 ≤ rows.getD q.toNat (-1)) then
  M.set (rows.getD p.toNat (-1)).toNat ((M.getD (rows.getD p.toNat (-1)).toNat []).set (rows.getD q.toNat (-1)).toNat (radd ((M.getD (rows.getD p.toNat (-1)).toNat []).getD (rows.getD q.toNat (-1)).toNat zeroR) x))
 else M
def rowAdd (rows : List Int) (t : TTri) (L : List (List TRat)) (i : Nat) (M : List (List TRat)) : Nat → List (List TRat)
 | 0 => M
 | j + 1 => cellAdd rows (at3 t.a t.b t.c i) (at3 t.a t.b t.c j) ((L.getD i []).getD j zeroR) (rowAdd rows t L i M j)
def triAdd (rows : List Int) (t : TTri) (L : List (List TRat)) (M : List (List TRat)) : Nat → List (List TRat)
 | 0 => M
 | i + 1 => rowAdd rows t L i (triAdd rows t L M i) 3
def asmTo (m : TMesh) (rows : List Int) (n : Nat) (loc : Nat → List (List TRat)) : Nat → List (List TRat)
 | 0 => List.replicate n (List.replicate n (rint 0))
 | k + 1 => triAdd rows (m.triangles.getD k ⟨0,0,0,0,0⟩) (loc k) (asmTo m rows n loc k) 3
def asmL (m : TMesh) (loc : Nat → List (List TRat)) : List (List TRat) := asmTo m (rowsL m) (ptsOfL m false).length loc m.triangles.length
theorem cellAdd_dead {rows : List Int} {p q : Int} {x : TRat} {M : List (List TRat)} (h : rows.getD p.toNat (-1) < 0 ∨ rows.getD q.toNat (-1) < 0) : cellAdd rows p q x M = M := by
 unfold cellAdd
 have e : (decide (0 ≤ rows.getD p.toNat (-1)) && decide (0 ≤ rows.getD q.toNat (-1))) = false := by
  rcases h with h | h
  ·rw [decide_eq_false (by omega)]; rfl
  ·rw [decide_eq_false (p := 0 ≤ rows.getD q.toNat (-1)) (by omega),Bool.and_false]
 rw [e]; rfl
theorem rowAdd_dead {rows : List Int} {t : TTri} {L : List (List TRat)} {i : Nat} {M : List (List TRat)} (h : rows.getD (at3 t.a t.b t.c i).toNat (-1) < 0) : ∀ j,rowAdd rows t L i M j = M
 | 0 => rfl
 | j + 1 => by rw [rowAdd,rowAdd_dead h j,cellAdd_dead (.inl h)]
theorem triAdd_dead {rows : List Int} {t : TTri} {L : List (List TRat)} {M : List (List TRat)} (h : ∀ i,rows.getD (at3 t.a t.b t.c i).toNat (-1) < 0) : ∀ i,triAdd rows t L M i = M
 | 0 => rfl
 | i + 1 => by rw [triAdd,triAdd_dead h i,rowAdd_dead (h i)]
theorem rowsL_mem {m : TMesh} : ∀ x ∈ rowsL m, -1 ≤ x ∧ x < (ptsOfL m false).length := fun x h => rowsTo_lt _ _ _ x h
theorem rowsL_len (m : TMesh) : (rowsL m).length = m.points.length := rowsTo_len _ _ _
theorem list1_sl {w : World} {A : Option Addr} {n c : Nat} {M : List (List TRat)} {o : Option TRat} {bs : List Nat} (h : Sl w A n c M bs) (hM : M = list1 o) : n = len1 o := by
 have := h.1
 cases o <;> simp_all [list1,len1]
theorem impl_sparse (A : Option Addr) (n c : Nat) (M : List (List TRat)) (bs : List Nat) (o : Option TRat) (w : World) (hx : Sl w A n c M bs) (hM : M = list1 o) (ok : Ok1 o) : Calls Tryz.prog 155 #[.slice A n c] w (GivesMx w o) := by
 obtain rfl := list1_sl hx hM
 subst hM
 cases o with
 | none => exact impl_sparse0 A c w
 | some r => exact impl_sparse1 A c r bs w hx ok.1 ok.2
theorem Sl.intAt {w : World} {g n c : Nat} {xs : List Int} {bs : List Nat} (h : Sl w (some ⟨g,0,none⟩) n c xs bs) {k : Nat} {x : Int} (hx : xs[k]? = some x) : w.cell? ⟨g,k,none⟩ = some (.int .i64 x) ∧ g < w.heap.size := by
 have hk : k < n := by rw [← h.1]; exact (List.getElem?_eq_some_iff.1 hx).1
 obtain ⟨be,oe,y,e,hbl,hy, _,e0⟩ := Sl.getInt h hk
 rw [hx] at hy
 injection e with e
 injection e with e1 e2 _
 subst e1; subst e2
 rw [Option.some.inj hy]
 exact ⟨by simpa using e0,hbl⟩
def Tel (c : Bool) (P : Prop) : Prop := (c = true → P) ∧ (P → c = true)
structure Kp (bad : List Nat) (w w' : World) : Prop where
 sz : w.heap.size ≤ w'.heap.size
 kp : ∀ b,b < w.heap.size → b ∉ bad → w'.heap[b]? = w.heap[b]?
theorem Kp.refl (bad : List Nat) (w : World) : Kp bad w w := ⟨Nat.le_refl _,fun _ _ _ => rfl⟩
theorem Kp.below {bad : List Nat} {w w' w2 : World} (h : Kp bad w w') (hb : Below w'.heap.size w' w2) : Kp bad w w2 :=
 ⟨Nat.le_trans h.sz hb.size,fun b hl hn => (hb.block b (Nat.lt_of_lt_of_le hl h.sz)).trans (h.kp b hl hn)⟩
theorem Kp.set {bad : List Nat} {w w' : World} (h : Kp bad w w') {g : Nat} (hg : g ∈ bad) (o1 o2 o3 : Nat) (v1 v2 v3 : Value) : Kp bad w (((w'.setCell ⟨g,o1,none⟩ v1).setCell ⟨g,o2,none⟩ v2).setCell ⟨g,o3,none⟩ v3) :=
 ⟨by simpa [World.setCell] using h.sz,fun b hl hn => by
  have hne : b ≠ g := fun e => hn (e ▸ hg)
  exact (Below.heap_setCell _ _ _ b (by simpa using hne)).trans ((Below.heap_setCell _ _ _ b (by simpa using hne)).trans ((Below.heap_setCell _ _ _ b (by simpa using hne)).trans (h.kp b hl hn)))⟩
theorem Kp.sl {α : Type} [Dat α] {bad : List Nat} {w w' : World} {A : Option Addr} {n c : Nat} {xs : List α} {bs : List Nat} (h : Kp bad w w') (hs : Sl w A n c xs bs) (hd : ∀ b ∈ bs,b ∉ bad) : Sl w' A n c xs bs := hs.keep fun b hb => h.kp b (hs.lt b hb) (hd b hb)
theorem Kp.cell {bad : List Nat} {w w' : World} {b : Nat} {o : Obj} (h : Kp bad w w') (hc : w.heap[b]? = some o) (hd : b ∉ bad) : w'.heap[b]? = some o := (h.kp b (lt_of_get hc) hd).trans hc
theorem cellAdd_live {rows : List Int} {p q : Int} {y z : Nat} {x a : TRat} {r : List TRat} {M : List (List TRat)} (hp : rows[p.toNat]? = some (y : Int)) (hq : rows[q.toNat]? = some (z : Int)) (hr : M[y]? = some r) (ha : r[z]? = some a) : cellAdd rows p q x M = M.set y (r.set z (radd a x)) := by
 unfold cellAdd
 rw [getD_of hp,getD_of hq]
 simp only [Int.toNat_natCast,getD_of hr,getD_of ha]
 rw [decide_eq_true (by omega),decide_eq_true (p := (0 : Int) ≤ z) (by omega)]
 rfl
attribute [local go_sem] fillBy Go.XB.opAt deps depOf Region.wanted yielded
attribute [local go_sem] ixs eql_nil_rows
attribute [local simp] deps depOf MP.eq MP.agg MP.aggS MP.sl MP.slbox Facts
set_option maxHeartbeats 16000000 in
set_option maxRecDepth 20000 in
theorem impl_assembled (f : Nat) (hf : Known f) (cv : Value) (v : Value) (m : TMesh) (b : List Nat) (loc : Nat → List (List TRat)) (o : Option TRat) (w : World) (hx : Agg w v m b) (h40 : m.points.length ≤ 40) (h48 : m.triangles.length ≤ 48) (hes : EdgeIn m) (hin : ∀ t ∈ m.triangles,triIn m.points.length t)
  (hloc : ∀ (k : Nat) (W : World),k < m.triangles.length → Below w.heap.size w W → Calls Tryz.prog f #[.int .i64 k,cv] W (GivesMat W (loc k)))
  (hl3 : ∀ k,k < m.triangles.length → (loc k).length = 3 ∧ ∀ r ∈ loc k,r.length = 3)
  (hM : asmL m loc = list1 o) (ok : Ok1 o) :
  Calls Tryz.prog 145 #[v, .func (.func f) #[] #[cv]] w (GivesMa w o) := by
 unfold Known at hf
 have HX := hid hx; have H48 := hid h48; have H40 := hid h40; have HES := hid hes; have HIN := hid hin; have HLOC := hid hloc; have HL3 := hid hl3; have HMM := hid hM; have OK1 := hid ok
 obtain ⟨A0,n0,c0,s0,A1,n1,c1,s1,rfl,rfl,hs0,hs1⟩ := TMesh.agg hx
 have HS1 := hid hs1
 have HL0 := hid hs0.1
 have HL1 := hid hs1.1
 have hn40 : n0 ≤ 40 := by rw [← hs0.1]; exact h40
 have hn48 : n1 ≤ 48 := by rw [← hs1.1]; exact h48
 have hn40i : (n0 : Int) ≤ 40 := by omega
 have hn48i : (n1 : Int) ≤ 48 := by omega
 obtain ⟨n,hnn⟩ : ∃ n,(ptsOfL m false).length = n := ⟨_,rfl⟩
 have hnle : n ≤ 40 := by rw [← hnn]; exact Nat.le_trans (ptsOfL_len m false) h40
 have hnlei : (n : Int) ≤ 40 := by omega
 have HNN := hid hnn
 obtain ⟨rows,hrows⟩ : ∃ rows,rowsL m = rows := ⟨_,rfl⟩
 have HRW := hid hrows
 have HRL := hid (show rows.length = n0 by rw [← hrows,rowsL_len,hs0.1])
 have HRM := hid (show ∀ x ∈ rows, -1 ≤ x ∧ x < n by rw [← hrows, ← hnn]; exact rowsL_mem)
 have HASM := hid (show asmTo m rows n loc n1 = list1 o by rw [← hM,asmL,hrows,hnn,hs1.1])
 clear hx h40 h48 hes hin hloc hl3 hM ok hs0 hs1 hnn hrows
 go_enter Tryz.func145,Tryz.ntmps145
 go_wp2_with fail
 have C := impl_rowsOf _ m _ ((w.alloc (.cells #[.slice A0 n0 c0, .slice A1 n1 c1] 26)).alloc (.cells #[.slice none 0 0] 143)) (HX.out.below Below.go) H40.out H48.out HES.out
 rw [HRW.out,HNN.out] at C
 refine C.mono ?_
 clear C
 rintro _ w1 ⟨gr,nr,rbs,rfl,hsr,hor,hb1⟩
 obtain rfl : n0 = nr := by rw [← hsr.1]; exact HRL.out.symm
 obtain ⟨hc_w1,hf_w1⟩ := bcell hb1
 have hz0_w1 : w.heap.size < w1.heap.size := by have := hb1.size; (try simp at this); omega
 have hz1_w1 : w.heap.size + 1 < w1.heap.size := by have := hb1.size; (try simp at this); omega
 have HSR := hid hsr
 have HB1 := hid (show Below w.heap.size w w1 from Below.go)
 have K0 := hid (show w1.heap[w.heap.size]? = some (.cells #[.slice A0 n0 c0, .slice A1 n1 c1] 26) from heap_keep' (allocs_heap [_, _] w 0 _ rfl) (hb1.mono (Nat.le_refl _)))
 have K1 := hid (show w1.heap[w.heap.size + 1]? = some (.cells #[.slice none 0 0] 143) from heap_keep' (allocs_heap [_, _] w 1 _ rfl) (hb1.mono (Nat.le_refl _)))
 clear hsr hor hb1 hc_w1 hf_w1
 go_wp2_with fail
 refine (impl_zeros n _ hnle).mono ?_
 rintro _ w2 ⟨oM,cap,gs,rfl,hst⟩
 have HST := hid hst
 have hb2 := hst.bl
 obtain ⟨k10, _⟩ := box_cell (heap_keep' K0.out hb2) (j := 0) rfl
 obtain ⟨k11, _⟩ := box_cell (heap_keep' K0.out hb2) (j := 1) rfl
 have hz2 : w.heap.size < w2.heap.size := by have := hb2.size; omega
 clear hst hb2
 go_wp2_with fail
 go_loopg [28] n1 (fun g s wr => ∃ k : Nat,k + g = n1 ∧ s = .int .i64 k ∧ Hid (MSt w1 wr oM n cap n gs (asmTo m rows n loc k)))
 case atStart => exact ⟨0,by omega,rfl,HST.out⟩
 case round =>
  clear HST k10 k11 hz2
  obtain ⟨k,hk,rfl,HS⟩ := hrel
  rename World => wr
  have HBr := hid (Below.next HB1.out HS.out.bl)
  have hw1r := HS.out.bl.size
  rcases Nat.lt_or_ge k n1 with hkn | hkn
  ·have hki : (k : Int) < n1 := by omega
   have hki0 : (0 : Int) ≤ k := by omega
   obtain ⟨g,rfl⟩ : ∃ g,gk = g + 1 := ⟨gk - 1,by omega⟩
   have hk' := hid (show k + 1 + g = n1 by omega)
   have hk1 : k + 1 ≤ n1 := hkn
   obtain ⟨be,of,t,rfl,hbl,hx1,e0,e1,e2,e3,e4,hag⟩ := TTri.elemA (HS1.out.below HBr.out) hkn
   have HAG := hid hag
   have HIT := hid (show triIn n0 t by rw [← HL0.out]; exact HIN.out t (List.mem_of_getElem? hx1))
   have NA := hid (show asmTo m rows n loc (k + 1) = triAdd rows t (loc k) (asmTo m rows n loc k) 3 by rw [asmTo,getD_of hx1])
   have HKM := hid (show k < m.triangles.length by rw [HL1.out]; exact hkn)
   have HSRr := hid (HSR.out.below HS.out.bl)
   have hrow := hid (show ∀ p : Int,0 ≤ p → p < n0 → ∃ x,rows[p.toNat]? = some x by
    intro p h0 h1
    exact ⟨_,List.getElem?_eq_getElem (by rw [HRL.out]; omega)⟩)
   obtain ⟨ra,hra⟩ := hrow.out t.a HIT.out.1.1 HIT.out.1.2
   obtain ⟨rb,hrb⟩ := hrow.out t.b HIT.out.2.1.1 HIT.out.2.1.2
   obtain ⟨rc,hrc⟩ := hrow.out t.c HIT.out.2.2.1 HIT.out.2.2.2
   obtain ⟨ia0,ia1⟩ := HIT.out.1
   obtain ⟨ib0,ib1⟩ := HIT.out.2.1
   obtain ⟨ic0,ic1⟩ := HIT.out.2.2
   have RA := hid hra; have RB := hid hrb; have RC := hid hrc
   have HKK := hid hk
   clear hk hkn hx1 hag hra hrb hrc
   go_wp2_with fail
   refine (impl_corners _ t _ (wr.alloc (.cells #[.int .i64 t.a, .int .i64 t.b, .int .i64 t.c, .int .i64 t.region, .int .i64 t.level] 77)) (HAG.out.below (Below.box _))).mono ?_
   rintro _ w3 ⟨rfl,hb3⟩
   have HB3 := hid (show Below wr.heap.size wr w3 from Below.next (Below.box _) hb3)
   clear hb3
   go_upto_region 7 with fail
   obtain ⟨W4,hW4⟩ : ∃ W4,W4 = w3.alloc (.cells #[.int .i64 t.a, .int .i64 t.b, .int .i64 t.c] 75) := ⟨_,rfl⟩
   obtain ⟨ab,hab⟩ : ∃ ab,w3.heap.size = ab := ⟨_,rfl⟩
   have HB4 := hid (show Below wr.heap.size wr W4 by rw [hW4]; exact Below.next HB3.out (Below.box _))
   have KA := hid (show W4.heap[ab]? = some (.cells #[.int .i64 t.a, .int .i64 t.b, .int .i64 t.c] 75) by rw [hW4, ← hab]; exact heap_alloc_new w3 _)
   have hab0 : wr.heap.size ≤ ab := by rw [← hab]; exact HB3.out.size
   rw [← hW4,hab]
   clear hW4 hab
   have S4 := hid (HSRr.out.below HB4.out)
   obtain ⟨z0, _⟩ := box_cell KA.out (j := 0) rfl
   obtain ⟨z1, _⟩ := box_cell KA.out (j := 1) rfl
   obtain ⟨z2, _⟩ := box_cell KA.out (j := 2) rfl
   simp at z0 z1 z2
   obtain ⟨y0, _⟩ := Sl.intAt S4.out RA.out
   obtain ⟨y1, _⟩ := Sl.intAt S4.out RB.out
   obtain ⟨y2, _⟩ := Sl.intAt S4.out RC.out
   go_cut [56] (fun sb wx => (∃ c : Bool,sb = .bool c ∧ Tel c (ra < 0 ∧ rb < 0 ∧ rc < 0)) ∧ wx = W4)
   case first =>
    rcases Int.lt_or_le ra 0 with h1 | h1
    ·rcases Int.lt_or_le rb 0 with h2 | h2
     ·rcases Int.lt_or_le rc 0 with h3 | h3
      ·go_wp2_with fail
       go_meet
       exact ⟨⟨true,rfl,fun _ => ⟨h1,h2,h3⟩,fun _ => rfl⟩,rfl⟩
      ·have h3' : ¬ (rc < 0) := by omega
       go_wp2_with fail
       go_meet
       exact ⟨⟨false,rfl,(fun h => by cases h),fun h => by have := h.2.2; omega⟩,rfl⟩
     ·have h2' : ¬ (rb < 0) := by omega
      go_wp2_with fail
      go_meet
      exact ⟨⟨false,rfl,(fun h => by cases h),fun h => by have := h.2.1; omega⟩,rfl⟩
    ·have h1' : ¬ (ra < 0) := by omega
     go_wp2_with fail
     go_meet
     exact ⟨⟨false,rfl,(fun h => by cases h),fun h => by have := h.1; omega⟩,rfl⟩
   case rest =>
   obtain ⟨⟨cc,rfl,htc⟩,hwc⟩ := hcut
   obtain rfl : W4 = wc := hwc.symm
   have TC := hid htc
   clear htc hwc y0 y1 y2 z0 z1 z2 e0 e1 e2 e3 e4
   cases cc
   ·go_wp2_with fail
    refine (HLOC.out k W4 HKM.out (Below.next HBr.out HB4.out)).mono ?_
    obtain ⟨L,hL⟩ : ∃ L,loc k = L := ⟨_,rfl⟩
    rw [hL]
    have HLL := hid hL
    obtain ⟨hl3,hr3⟩ : L.length = 3 ∧ ∀ r ∈ L,r.length = 3 := by rw [← hL]; exact HL3.out k HKM.out
    have HR3 := hid hr3
    rintro _ w5 ⟨A5,n5,c5,fb,rfl,hsf,hnf,hb5⟩
    obtain rfl : 3 = n5 := by rw [← hsf.1]; exact hl3.symm
    obtain ⟨b5,o5, _,rfl, _⟩ := hsf.2.2.2.2 (by decide)
    have HSF := hid hsf
    have HB5 := hid hb5
    have HNF := hid hnf
    have Z0 := hid (show MSt w1 w5 oM n cap n gs (triAdd rows t L (asmTo m rows n loc k) 0) from (HS.out.below HB4.out).below hb5)
    have S5 := hid (S4.out.below hb5)
    have KA5 := hid (heap_keep' KA.out hb5)
    have HLT := hid HS.out.ltAll
    have hsz4 := HB4.out.size
    have DR := hid (show ∀ b ∈ rbs,b ∉ oM :: gs.map (·.1) from fun b hb hm => by
     have h1 := HSR.out.lt b hb; have h2 := HS.out.lo b hm; omega)
    have DF := hid (show ∀ b ∈ fb,b ∉ oM :: gs.map (·.1) from fun b hb hm => by
     have h1 := HNF.out b hb; have h2 := HLT.out b hm; omega)
    have DA := hid (show ab ∉ oM :: gs.map (·.1) from fun hm => by have h2 := HLT.out ab hm; omega)
    have NA2 := hid (show asmTo m rows n loc (k + 1) = triAdd rows t L (asmTo m rows n loc k) 3 by rw [NA.out,HLL.out])
    have AL := hid (show (asmTo m rows n loc k).length = n from HS.out.ml)
    obtain ⟨M0,hM0⟩ : ∃ M0,asmTo m rows n loc k = M0 := ⟨_,rfl⟩
    rw [hM0] at Z0 NA2 AL
    clear hsf hnf hb5 hl3 hr3 hL HS hM0 NA HLL S4 KA TC RA RB RC
    obtain ⟨x0, _⟩ := box_cell KA5.out (j := 0) rfl
    obtain ⟨x1, _⟩ := box_cell KA5.out (j := 1) rfl
    obtain ⟨x2, _⟩ := box_cell KA5.out (j := 2) rfl
    simp at x0 x1 x2
    go_wp2_with fail
    go_loopg [64] 3 (fun g2 s wr2 => ∃ i : Nat,i + g2 = 3 ∧ s = .int .i64 i ∧ Hid (MSt w1 wr2 oM n cap n gs (triAdd rows t L M0 i)) ∧ Hid (Kp (oM :: gs.map (·.1)) w5 wr2))
    case atStart => exact ⟨0,by omega,rfl,Z0.out,Kp.refl _ _⟩
    case round =>
     clear Z0 x0 x1 x2
     obtain ⟨i,hik,rfl,HS4,HK4⟩ := hrel
     rename World => w6
     rcases Nat.lt_or_ge i 3 with hin | hin
     ·have hii : (i : Int) < 3 := by omega
      have hii0 : (0 : Int) ≤ i := by omega
      have hi3 : i < 3 := hin
      obtain ⟨g2,rfl⟩ : ∃ g2,gk = g2 + 1 := ⟨gk - 1,by omega⟩
      have hi' := hid (show i + 1 + g2 = 3 by omega)
      obtain ⟨x0, _⟩ := box_cell (HK4.out.cell KA5.out DA.out) (j := 0) rfl
      obtain ⟨x1, _⟩ := box_cell (HK4.out.cell KA5.out DA.out) (j := 1) rfl
      obtain ⟨x2, _⟩ := box_cell (HK4.out.cell KA5.out DA.out) (j := 2) rfl
      simp at x0 x1 x2
      obtain ⟨hp0,hp1⟩ := at3_in HIT.out i
      obtain ⟨p,hp⟩ : ∃ p,at3 t.a t.b t.c i = p := ⟨_,rfl⟩
      rw [hp] at hp0 hp1
      have PP := hid hp
      obtain ⟨rp,hrp⟩ := hrow.out p hp0 hp1
      have RP := hid hrp
      have hrpm := HRM.out rp (List.mem_of_getElem? hrp)
      obtain ⟨hrp0,hrp1⟩ := hrpm
      have TN := hid (show triAdd rows t L M0 (i + 1) = rowAdd rows t L i (triAdd rows t L M0 i) 3 from rfl)
      have Z0 := hid (show MSt w1 w6 oM n cap n gs (rowAdd rows t L i (triAdd rows t L M0 i) 0) from HS4.out)
      obtain ⟨M1,hM1⟩ : ∃ M1,triAdd rows t L M0 i = M1 := ⟨_,rfl⟩
      rw [hM1] at TN Z0
      clear hik hin hrp HS4 hM1
      go_wp2_with fail
      go_loopg [69] 3 (fun g3 s wr3 => ∃ j : Nat,j + g3 = 3 ∧ s = .int .i64 j ∧ Hid (MSt w1 wr3 oM n cap n gs (rowAdd rows t L i M1 j)) ∧ Hid (Kp (oM :: gs.map (·.1)) w5 wr3))
      case atStart => exact ⟨0,by omega,rfl,Z0.out,HK4.out⟩
      case round =>
       clear Z0 x0 x1 x2 HK4
       obtain ⟨j,hjk,rfl,HS7,HK7⟩ := hrel
       rename World => w7
       rcases Nat.lt_or_ge j 3 with hjn | hjn
       ·have hjj : (j : Int) < 3 := by omega
        have hjj0 : (0 : Int) ≤ j := by omega
        have hj3 : j < 3 := hjn
        obtain ⟨g3,rfl⟩ : ∃ g3,gk = g3 + 1 := ⟨gk - 1,by omega⟩
        have hj' := hid (show j + 1 + g3 = 3 by omega)
        obtain ⟨hq0,hq1⟩ := at3_in HIT.out j
        obtain ⟨q,hq⟩ : ∃ q,at3 t.a t.b t.c j = q := ⟨_,rfl⟩
        rw [hq] at hq0 hq1
        have QQ := hid hq
        obtain ⟨rq,hrq⟩ := hrow.out q hq0 hq1
        have RQ := hid hrq
        obtain ⟨hrq0,hrq1⟩ := HRM.out rq (List.mem_of_getElem? hrq)
        have NX := hid (show rowAdd rows t L i M1 (j + 1) = cellAdd rows p q ((L.getD i []).getD j zeroR) (rowAdd rows t L i M1 j) by rw [rowAdd,PP.out,QQ.out])
        have S7 := hid (HK7.out.sl S5.out DR.out)
        obtain ⟨y0,hgr7⟩ := Sl.intAt S7.out RP.out
        obtain ⟨y1, _⟩ := Sl.intAt S7.out RQ.out
        clear hjk hjn hrq
        by_cases hpp : rp < 0
        ·obtain rfl : rp = -1 := by omega
         have Sn := hid (show MSt w1 w7 oM n cap n gs (rowAdd rows t L i M1 (j + 1)) by
          rw [NX.out,cellAdd_dead (.inl (by rw [getD_of RP.out]; decide))]; exact HS7.out)
         clear HS7 hpp
         go_wp2_with fail
         go_roundg g3
         case measure => omega
         case rel => exact ⟨j + 1,hj'.out,by go_num,Sn,HK7⟩
        by_cases hqq : rq < 0
        ·obtain rfl : rq = -1 := by omega
         have Sn := hid (show MSt w1 w7 oM n cap n gs (rowAdd rows t L i M1 (j + 1)) by
          rw [NX.out,cellAdd_dead (.inr (by rw [getD_of RQ.out]; decide))]; exact HS7.out)
         have hpp0 : 0 ≤ rp := by omega
         clear HS7 hpp hqq
         go_wp2_with fail
         go_roundg g3
         case measure => omega
         case rel => exact ⟨j + 1,hj'.out,by go_num,Sn,HK7⟩
        obtain ⟨y,rfl⟩ : ∃ y : Nat,rp = y := ⟨rp.toNat,by omega⟩
        obtain ⟨z,rfl⟩ : ∃ z : Nat,rq = z := ⟨rq.toNat,by omega⟩
        have hyn : y < n := by omega
        have hzn : z < n := by omega
        have SF7 := hid (HK7.out.sl HSF.out DF.out)
        obtain ⟨b6,o6,r6,A6,n6,c6,f6,hA6,hbl6,hr6,he6,hs6, _⟩ := Sl.elemS SF7.out hi3
        injection hA6 with hA6
        injection hA6 with hA7 hA8 _
        subst hA7; subst hA8
        obtain rfl : 3 = n6 := by rw [← hs6.1]; exact (HR3.out r6 (List.mem_of_getElem? hr6)).symm
        obtain ⟨b8,o8,x,D1,nD1,cD1,d1,D2,nD2,cD2,d2,rfl,hbl8,hx8,u0,u1,u2,hag8⟩ := TRat.elemA hs6 hj3
        obtain ⟨g4,c4,r4,hg4,hr4,hcell4,hol4,hRR, _⟩ := HS7.out.row hyn
        obtain ⟨a,G1,m1,e1,G2,m2,e2,fs2,ha,v0,v1,v2,w0',w1',w2',hag9, _,hgl⟩ := hRR.elem hzn
        have NY := hid (show rowAdd rows t L i M1 (j + 1) = (rowAdd rows t L i M1 j).set y (r4.set z (radd a x)) by
         rw [NX.out,getD_of hr6,getD_of hx8]
         exact cellAdd_live RP.out RQ.out hr4 ha)
        have HA8 := hid hag8; have HA9 := hid hag9
        have HG4 := hid hg4; have HR4 := hid hr4
        have hgm := hid (show g4 ∈ oM :: gs.map (·.1) from List.mem_cons_of_mem _ (List.mem_map.2 ⟨(g4,c4),List.mem_of_getElem? hg4,rfl⟩))
        clear hr6 hx8 ha hg4 hr4 hs6 hRR hag8 hag9 hpp hqq hrq0 hrq1 NX
        go_wp2_with fail
        refine wp_region_last (by simp) (by kernel_rfl) (by kernel_rfl) (by kernel_rfl) (by kernel_rfl) ?_
        dsimp only [List.dropLast,List.getLast,List.length]
        iterate 31
         apply walkM_eq
         case h =>
          intro yq zq wq hC hd
          obtain ⟨hcq,hfq⟩ := bcell hC
          simp at hd
          refine ⟨by go_simp; done, ?_⟩
          go_simp
          first | (go_ints; exact rfl) | (go_ints; rw [if_pos (by omega)]; try exact rfl) | exact rfl | (rw [if_pos (by omega)]; try exact rfl)
        refine walkM_call (MP.agg (radd a x)) ?_ ?_
        ·intro yq zq wq hC hd
         obtain ⟨hcq,hfq⟩ := bcell hC
         simp at hd
         refine ⟨by go_simp; done, ?_⟩
         apply Exists.intro
         apply Exists.intro
         constructor
         ·go_simp
          exact ⟨rfl,rfl⟩
         ·exact gives_agg (impl_RatAdd _ _ a x _ _ wq (HA9.out.below hC) (HA8.out.below hC))
        apply walkM_eq
        case h =>
         intro yq zq wq hC hd
         obtain ⟨hcq,hfq⟩ := bcell hC
         simp at hd
         refine ⟨by go_simp; done, ?_⟩
         go_simp
         first | (go_ints; exact rfl) | (go_ints; rw [if_pos (by omega)]; try exact rfl) | exact rfl | (rw [if_pos (by omega)]; try exact rfl)
        intro yq zq wa hC hd hdis0
        have hdis := hid hdis0
        clear hdis0
        simp at hd
        have q31 := hd.2.2.2.2.2.2.2.2.2.2.2.2.2.2.2.2.2.2.2.2.2.2.2.2.2.2.2.2.2.2.2.1
        have q32 := hd.2.2.2.2.2.2.2.2.2.2.2.2.2.2.2.2.2.2.2.2.2.2.2.2.2.2.2.2.2.2.2.2
        have e32 := q32.1.1
        obtain ⟨⟨ha9,hf9⟩,hr9⟩ := q31
        obtain ⟨V1,nV1,cV1,v1',V2,nV2,cV2,v2',e9,hz9, _, _⟩ := TRat.agg ha9
        rw [e9] at ha9
        have hwa := hC.size
        obtain ⟨k0,k1,k2,k3,k4,k5⟩ : wa.cell? ⟨g4,z * 3,none⟩ = some (.bool a.num.neg) ∧ wa.cell? ⟨g4,z * 3 + 1,none⟩ = some (.slice G1 m1 e1) ∧ wa.cell? ⟨g4,z * 3 + 2,none⟩ = some (.slice G2 m2 e2) ∧ wa.frozen? ⟨g4,z * 3,none⟩ = false ∧ wa.frozen? ⟨g4,z * 3 + 1,none⟩ = false ∧ wa.frozen? ⟨g4,z * 3 + 2,none⟩ = false :=
         ⟨(hC.cell (p := ⟨g4, _,none⟩) hgl).trans v0,(hC.cell (p := ⟨g4, _,none⟩) hgl).trans v1,(hC.cell (p := ⟨g4, _,none⟩) hgl).trans v2,(hC.frozen (p := ⟨g4, _,none⟩) hgl).trans w0',(hC.frozen (p := ⟨g4, _,none⟩) hgl).trans w1',(hC.frozen (p := ⟨g4, _,none⟩) hgl).trans w2'⟩
        have hgla : g4 < wa.heap.size := by omega
        have Sn := hid (show MSt w1 (((wa.setCell ⟨g4,z * 3,none⟩ (.bool (radd a x).num.neg)).setCell ⟨g4,z * 3 + 1,none⟩ (.slice V1 nV1 cV1)).setCell ⟨g4,z * 3 + 2,none⟩ (.slice V2 nV2 cV2)) oM n cap n gs (rowAdd rows t L i M1 (j + 1)) by
         rw [NY.out]
         exact (HS7.out.below hC).set HG4.out HR4.out (j := z) hzn ha9 (fun b hb hm => by
          have h1 := (hr9 b hb).1
          have h2 := HS7.out.ltAll b hm
          omega) (fun b hb => by
          have h1 := (hr9 b hb).1
          have h2 := HS7.out.bl.size
          omega))
        have Kn := hid (show Kp (oM :: gs.map (·.1)) w5 (((wa.setCell ⟨g4,z * 3,none⟩ (.bool (radd a x).num.neg)).setCell ⟨g4,z * 3 + 1,none⟩ (.slice V1 nV1 cV1)).setCell ⟨g4,z * 3 + 2,none⟩ (.slice V2 nV2 cV2)) from (HK7.out.below hC).set hgm.out _ _ _ _ _ _)
        generalize zq 31 = z31 at *
        clear hd hdis q32 ha9 hf9 hr9 hz9 hC HS7 HK7 v0 v1 v2 w0' w1' w2' hwa u0 u1 u2
        go_wp2_with fail
        go_roundg g3
        case measure => omega
        case rel => exact ⟨j + 1,hj'.out,by go_num,Sn,Kn⟩
       ·obtain rfl : j = 3 := by omega
        have S9 := hid (show MSt w1 w7 oM n cap n gs (triAdd rows t L M0 (i + 1)) by rw [TN.out]; exact HS7.out)
        clear hjk hjn HS7
        go_wp2_with fail
        go_roundg g2
        case measure => omega
        case rel => exact ⟨i + 1,hi'.out,by go_num,S9,HK7⟩
     ·obtain rfl : i = 3 := by omega
      have S9 := hid (show MSt w1 w6 oM n cap n gs (asmTo m rows n loc (k + 1)) by rw [NA2.out]; exact HS4.out)
      clear hik hin HS4 HK4
      go_wp2_with fail
      go_roundg g
      case measure => omega
      case rel => exact ⟨k + 1,hk'.out,by go_num,S9⟩
   ·have SN := hid (show asmTo m rows n loc (k + 1) = asmTo m rows n loc k by
     rw [NA.out]
     obtain ⟨h1,h2,h3⟩ := TC.out.1 rfl
     refine triAdd_dead (fun i => ?_) 3
     match i with
     | 0 => show rows.getD t.a.toNat (-1) < 0; rw [getD_of RA.out]; exact h1
     | 1 => show rows.getD t.b.toNat (-1) < 0; rw [getD_of RB.out]; exact h2
     | _ + 2 => show rows.getD t.c.toNat (-1) < 0; rw [getD_of RC.out]; exact h3)
    have Sn := hid (show MSt w1 W4 oM n cap n gs (asmTo m rows n loc (k + 1)) by rw [SN.out]; exact HS.out.below HB4.out)
    clear HS SN
    go_wp2_with fail
    go_roundg g
    case measure => omega
    case rel => exact ⟨k + 1,hk'.out,by go_num,Sn⟩
  ·obtain rfl : k = n1 := by omega
   have hii : ¬ ((k : Int) < k) := by omega
   obtain ⟨bs,hs9, _⟩ := HS.out.sl
   have HSS := hid hs9
   have AE := hid (show asmTo m rows n loc k = list1 o from HASM.out)
   clear hk hkn hs9
   go_wp2_with fail
   refine (impl_sparse _ n cap _ bs o wr HSS.out AE.out OK1.out).mono ?_
   rintro _ w6 ⟨v6,s6,rfl,ha6,hn6,hb6⟩
   obtain ⟨A6,n6,c6,r6,rfl,rfl,hr6⟩ := TMatrix.agg ha6
   have HA6 := hid ha6
   have HN6 := hid hn6
   have HB6 := hid (Below.next HBr.out hb6)
   obtain ⟨z0,z1⟩ := box_cell (heap_keep' (heap_keep' K1.out HS.out.bl) hb6) (j := 0) rfl
   have hz6 : w.heap.size + 1 < w6.heap.size := by have := hb6.size; omega
   clear ha6 hr6 hb6 hn6
   go_wp2
   have hw1z := HS.out.bl.size
   refine bodyPost_ret (v := .agg #[.slice A6 n6 c6]) (by simp [results,Tryz.results145,go_sem, *]) rfl ?_
   exact ⟨_,s6,rfl,(HA6.out.keep (fun b hb => Below.heap_setCell _ _ _ _ (by have := HN6.out b hb; simp; omega))).below (Below.box _),(fun b hb => by have := HN6.out b hb; omega),Below.next (HB6.out.setCell (p := ⟨w.heap.size + 1,0,none⟩) (by simp) _) (Below.box _)⟩
end Go.Proofs.YtpfipnankjeokaaGreat.X
namespace Go.Proofs.YtpfipnankjeokaaGreat.X
open Go.RowKit Go.XB Go.XN
def tri0 : TTri := ⟨0,0,0,0,0⟩
structure MeshD (m : TMesh) (xs ys : List Int) : Prop where
 mesh : MeshI m xs ys
 es : EdgeIn m
 tri : ∀ t ∈ m.triangles,TriOk m t
 grad : ∀ t ∈ m.triangles,GradOk (ptAt m.points t.a) (ptAt m.points t.b) (ptAt m.points t.c)
 massd : ∀ t ∈ m.triangles, ∀ r ∈ massT m t,r.any denBad = false
 stiffd : ∀ t ∈ m.triangles, ∀ r ∈ stiffM m t,r.any denBad = false
def massLoc (m : TMesh) (k : Nat) : List (List TRat) := massT m (m.triangles.getD k tri0)
def stiffLoc (p : TProblem) (k : Nat) : List (List TRat) := matSc (p.diffusion.getD (p.mesh.triangles.getD k tri0).region.toNat zeroR) (stiffM p.mesh (p.mesh.triangles.getD k tri0)) 3
theorem matSc_row {d : TRat} {M : List (List TRat)} (h : ∀ r ∈ M,r.length = 3) (hl : M.length = 3) : ∀ i,i ≤ 3 → ∀ r ∈ matSc d M i,r.length = 3
 | 0, _,r,hr => h r hr
 | i + 1,hi,r,hr => by
  rw [matSc] at hr
  rcases List.mem_or_eq_of_mem_set hr with hr | rfl
  ·exact matSc_row h hl i (by omega) r hr
  ·rw [rowSc_len]
   obtain ⟨x,hx⟩ : ∃ x,M[i]? = some x := ⟨_,List.getElem?_eq_getElem (by omega)⟩
   rw [getD_of hx]
   exact h x (List.mem_of_getElem? hx)
attribute [local go_sem] fillBy Go.XB.opAt deps depOf Region.wanted yielded
attribute [local simp] deps depOf MP.eq MP.agg MP.aggS MP.sl MP.slbox Facts
set_option maxHeartbeats 4000000 in
theorem impl_MassOf (v : Value) (m : TMesh) (b : List Nat) (xs ys : List Int) (o : Option TRat) (w : World) (hx : Agg w v m b) (hm : MeshD m xs ys) (hM : asmL m (massLoc m) = list1 o) (ok : Ok1 o) :
  Calls Tryz.prog 112 #[v] w (GivesMa w o) := by
 have HX := hid hx; have HM := hid hm; have HMM := hid hM; have OK1 := hid ok
 obtain ⟨A0,n0,c0,s0,A1,n1,c1,s1,rfl,rfl,hs0,hs1⟩ := TMesh.agg hx
 clear hx hm hM ok hs0 hs1
 go_enter Tryz.func112,Tryz.ntmps112
 go_wp2_with fail
 refine (impl_IsMesh _ m _ xs ys ((w.alloc (.cells #[.slice A0 n0 c0, .slice A1 n1 c1] 26)).alloc (.cells #[.slice none 0 0] 143)) (HX.out.below Below.go) HM.out.mesh).mono ?_
 rintro _ w1 ⟨rfl,hb1⟩
 have HB1 := hid (show Below w.heap.size w w1 from Below.go)
 have K0 := hid (show w1.heap[w.heap.size]? = some (.cells #[.slice A0 n0 c0, .slice A1 n1 c1] 26) from heap_keep' (allocs_heap [_, _] w 0 _ rfl) (hb1.mono (Nat.le_refl _)))
 have K1 := hid (show w1.heap[w.heap.size + 1]? = some (.cells #[.slice none 0 0] 143) from heap_keep' (allocs_heap [_, _] w 1 _ rfl) (hb1.mono (Nat.le_refl _)))
 have hz1 := lt_of_block K1.out
 have hz0 : w.heap.size < w1.heap.size := by omega
 obtain ⟨k0, _⟩ := box_cell K0.out (j := 0) rfl
 obtain ⟨k1, _⟩ := box_cell K0.out (j := 1) rfl
 simp at k0 k1
 clear hb1
 go_wp2_with fail
 refine (impl_assembled 146 known_MassOf_1 (.pointer (some ⟨w.heap.size,0,none⟩)) _ m _ (massLoc m) o w1 (HX.out.below HB1.out) HM.out.mesh.n40 HM.out.mesh.t48 HM.out.es (fun t ht => (HM.out.mesh.tri t ht).1) (fun k W hk hW => ?_) (fun k hk => ⟨massTo_len _ _ _ 3,massTo_row _ _ _ 3⟩) HMM.out OK1.out).mono ?_
 ·obtain ⟨t,ht⟩ : ∃ t,m.triangles[k]? = some t := ⟨_,List.getElem?_eq_getElem hk⟩
  have htm := List.mem_of_getElem? ht
  rw [massLoc,getD_of ht]
  exact impl_MassOf_1 k w.heap.size A0 n0 c0 A1 n1 c1 m (s0 ++ s1) t W ((HX.out.below HB1.out).below hW) ((hW.cell (p := ⟨w.heap.size,0,none⟩) hz0).trans k0) ((hW.cell (p := ⟨w.heap.size,1,none⟩) hz0).trans k1) ht (HM.out.tri t htm) HM.out.mesh.ok HM.out.mesh.n40 HM.out.mesh.t48 (HM.out.massd t htm)
 rintro _ w2 ⟨v6,s6,rfl,ha6,hn6,hb6⟩
 obtain ⟨A6,n6,c6,r6,rfl,rfl,hr6⟩ := TMatrix.agg ha6
 have HA6 := hid ha6
 have HN6 := hid hn6
 have HB6 := hid (Below.next HB1.out hb6)
 obtain ⟨z0,z1⟩ := box_cell (heap_keep' K1.out hb6) (j := 0) rfl
 have hz6 : w.heap.size + 1 < w2.heap.size := by have := hb6.size; omega
 clear ha6 hr6 hb6 hn6 k0 k1
 go_wp2
 refine bodyPost_ret (v := .agg #[.slice A6 n6 c6]) (by simp [results,Tryz.results112,go_sem, *]) rfl ?_
 exact ⟨_,s6,rfl,HA6.out.keep (fun b hb => Below.heap_setCell _ _ _ _ (by have := HN6.out b hb; simp; omega)),(fun b hb => by have := HN6.out b hb; omega),HB6.out.setCell (p := ⟨w.heap.size + 1,0,none⟩) (by simp) _⟩
set_option maxHeartbeats 4000000 in
theorem impl_stiffness (v : Value) (p : TProblem) (b : List Nat) (xs ys : List Int) (o : Option TRat) (w : World) (hx : Agg w v p b) (hm : MeshD p.mesh xs ys) (hdl : p.diffusion.length = 3) (hM : asmL p.mesh (stiffLoc p) = list1 o) (ok : Ok1 o) :
  Calls Tryz.prog 115 #[v] w (GivesMa w o) := by
 have HX := hid hx; have HM := hid hm; have HMM := hid hM; have OK1 := hid ok; have HDL := hid hdl
 obtain ⟨A0,n0,c0,s0,A1,n1,c1,s1,A2,n2,c2,s2,A3,n3,c3,s3,rfl,rfl,hs0,hs1,hs2,hs3⟩ := TProblem.agg hx
 have HMA := hid (TMesh.mkAgg (x := p.mesh) hs0 hs1)
 clear hx hm hM ok hs0 hs1 hs2 hs3 hdl
 go_enter Tryz.func115,Tryz.ntmps115
 obtain ⟨w1,hw1⟩ : ∃ w1,w1 = ((w.alloc (.cells #[.slice A0 n0 c0, .slice A1 n1 c1, .slice A2 n2 c2, .slice A3 n3 c3] 51)).alloc (.cells #[.slice none 0 0] 143)) := ⟨_,rfl⟩
 have HB1 := hid (show Below w.heap.size w w1 by rw [hw1]; exact Below.next (Below.box _) (Below.box _))
 have K0 := hid (show w1.heap[w.heap.size]? = some (.cells #[.slice A0 n0 c0, .slice A1 n1 c1, .slice A2 n2 c2, .slice A3 n3 c3] 51) by rw [hw1]; exact allocs_heap [_, _] w 0 _ rfl)
 have K1 := hid (show w1.heap[w.heap.size + 1]? = some (.cells #[.slice none 0 0] 143) by rw [hw1]; exact allocs_heap [_, _] w 1 _ rfl)
 have HW1 := hid hw1
 clear hw1
 go_wp2_with fail
 rw [← HW1.out]
 have hz1 := lt_of_block K1.out
 have hz0 : w.heap.size < w1.heap.size := by omega
 obtain ⟨k0, _⟩ := box_cell K0.out (j := 0) rfl
 obtain ⟨k1, _⟩ := box_cell K0.out (j := 1) rfl
 obtain ⟨k2, _⟩ := box_cell K0.out (j := 2) rfl
 obtain ⟨k3, _⟩ := box_cell K0.out (j := 3) rfl
 simp at k0 k1 k2 k3
 refine (impl_assembled 156 known_stiffness_1 (.pointer (some ⟨w.heap.size,0,none⟩)) _ p.mesh _ (stiffLoc p) o w1 (HMA.out.below HB1.out) HM.out.mesh.n40 HM.out.mesh.t48 HM.out.es (fun t ht => (HM.out.mesh.tri t ht).1) (fun k W hk hW => ?_) (fun k hk => ⟨?_, ?_⟩) HMM.out OK1.out).mono ?_
 ·obtain ⟨t,ht⟩ : ∃ t,p.mesh.triangles[k]? = some t := ⟨_,List.getElem?_eq_getElem hk⟩
  have htm := List.mem_of_getElem? ht
  have hrg : 0 ≤ t.region ∧ t.region < 3 := by
   have := (HM.out.mesh.tri t htm).2.1
   unfold inB at this; simp at this; omega
  rw [stiffLoc,getD_of ht]
  exact impl_stiffness_1 k w.heap.size A0 n0 c0 A1 n1 c1 A2 n2 c2 A3 n3 c3 p _ t W ((HX.out.below HB1.out).below hW) ((hW.cell (p := ⟨w.heap.size,0,none⟩) hz0).trans k0) ((hW.cell (p := ⟨w.heap.size,1,none⟩) hz0).trans k1) ((hW.cell (p := ⟨w.heap.size,2,none⟩) hz0).trans k2) ((hW.cell (p := ⟨w.heap.size,3,none⟩) hz0).trans k3) (Nat.lt_of_lt_of_le hz0 hW.size) ht (HM.out.tri t htm) (HM.out.grad t htm) HM.out.mesh.ok HM.out.mesh.n40 HM.out.mesh.t48 (HM.out.stiffd t htm) HDL.out hrg
 ·rw [stiffLoc,matSc_len]; exact stiffTo_len _ _ _ 3
 ·exact matSc_row (stiffTo_row _ _ _ 3) (stiffTo_len _ _ _ 3) 3 (Nat.le_refl _)
 rintro _ w2 ⟨v6,s6,rfl,ha6,hn6,hb6⟩
 obtain ⟨A6,n6,c6,r6,rfl,rfl,hr6⟩ := TMatrix.agg ha6
 have HA6 := hid ha6
 have HN6 := hid hn6
 have HB6 := hid (Below.next HB1.out hb6)
 obtain ⟨z0,z1⟩ := box_cell (heap_keep' K1.out hb6) (j := 0) rfl
 have hz6 : w.heap.size + 1 < w2.heap.size := by have := hb6.size; omega
 clear ha6 hr6 hb6 hn6 k0 k1 k2 k3
 go_wp2
 refine bodyPost_ret (v := .agg #[.slice A6 n6 c6]) (by simp [results,Tryz.results115,go_sem, *]) rfl ?_
 exact ⟨_,s6,rfl,HA6.out.keep (fun b hb => Below.heap_setCell _ _ _ _ (by have := HN6.out b hb; simp; omega)),(fun b hb => by have := HN6.out b hb; omega),HB6.out.setCell (p := ⟨w.heap.size + 1,0,none⟩) (by simp) _⟩
end Go.Proofs.YtpfipnankjeokaaGreat.X
namespace Go.Proofs.YtpfipnankjeokaaGreat.X
open Go.RowKit Go.XB Go.XN
def vcellAdd (rows : List Int) (p : Int) (x : TRat) (V : List TRat) : List TRat :=
 bif decide (0 ≤ rows.getD p.toNat (-1)) then V.set (rows.getD p.toNat (-1)).toNat (radd (V.getD (rows.getD p.toNat (-1)).toNat zeroR) x) else V
def vecAdd (rows : List Int) (t : TTri) (x : TRat) (V : List TRat) : Nat → List TRat
 | 0 => V
 | i + 1 => vcellAdd rows (at3 t.a t.b t.c i) x (vecAdd rows t x V i)
def partT (p : TProblem) (t : TTri) : TRat := rmul (p.source.getD t.region.toNat zeroR) (rmul (mkR 1 3) (areaP (ptAt p.mesh.points t.a) (ptAt p.mesh.points t.b) (ptAt p.mesh.points t.c)))
def loadTo (p : TProblem) (rows : List Int) (n : Nat) : Nat → List TRat
 | 0 => List.replicate n (rint 0)
 | k + 1 => vecAdd rows (p.mesh.triangles.getD k tri0) (partT p (p.mesh.triangles.getD k tri0)) (loadTo p rows n k) 3
def loadL (p : TProblem) : List TRat := loadTo p (rowsL p.mesh) (ptsOfL p.mesh false).length p.mesh.triangles.length
theorem vcellAdd_dead {rows : List Int} {p : Int} {x : TRat} {V : List TRat} (h : rows.getD p.toNat (-1) < 0) : vcellAdd rows p x V = V := by
 unfold vcellAdd
 rw [decide_eq_false (by omega)]; rfl
theorem vcellAdd_live {rows : List Int} {p : Int} {y : Nat} {x a : TRat} {V : List TRat} (hp : rows[p.toNat]? = some (y : Int)) (ha : V[y]? = some a) : vcellAdd rows p x V = V.set y (radd a x) := by
 unfold vcellAdd
 rw [getD_of hp]
 simp only [Int.toNat_natCast,getD_of ha]
 rw [decide_eq_true (by omega)]
 rfl
theorem vcellAdd_all {P : TRat → Prop} (hr : ∀ a b,P (radd a b)) {rows : List Int} {p : Int} {x : TRat} {V : List TRat} (h : ∀ v ∈ V,P v) : ∀ v ∈ vcellAdd rows p x V,P v := by
 unfold vcellAdd
 cases decide (0 ≤ rows.getD p.toNat (-1))
 ·exact h
 ·intro v hv
  rcases List.mem_or_eq_of_mem_set hv with hv | rfl
  ·exact h v hv
  ·exact hr _ _
theorem vecAdd_all {P : TRat → Prop} (hr : ∀ a b,P (radd a b)) {rows : List Int} {t : TTri} {x : TRat} {V : List TRat} (h : ∀ v ∈ V,P v) : ∀ i, ∀ v ∈ vecAdd rows t x V i,P v
 | 0 => h
 | i + 1 => vcellAdd_all hr (vecAdd_all hr h i)
theorem loadTo_all {P : TRat → Prop} (hr : ∀ a b,P (radd a b)) (h0 : P (rint 0)) (p : TProblem) (rows : List Int) (n : Nat) : ∀ k, ∀ v ∈ loadTo p rows n k,P v
 | 0,v,hv => by rw [List.eq_of_mem_replicate (show v ∈ List.replicate n (rint 0) from hv)]; exact h0
 | k + 1,v,hv => vecAdd_all hr (loadTo_all hr h0 p rows n k) 3 v hv
attribute [local go_sem] fillBy Go.XB.opAt deps depOf Region.wanted yielded
attribute [local go_sem] ixs
attribute [local simp] deps depOf MP.eq MP.agg MP.aggS MP.sl MP.slbox Facts
set_option maxHeartbeats 16000000 in
set_option maxRecDepth 20000 in
theorem impl_load (v : Value) (p : TProblem) (b : List Nat) (xs ys : List Int) (w : World) (hx : Agg w v p b) (hm : MeshD p.mesh xs ys) (hsl : p.source.length = 3) (hok : (loadL p).any denBad = false) :
  Calls Tryz.prog 113 #[v] w (GivesSl w (loadL p)) := by
 have HX := hid hx; have HM := hid hm; have HSL := hid hsl; have HOK := hid hok
 obtain ⟨A0,n0,c0,s0,A1,n1,c1,s1,A2,n2,c2,s2,A3,n3,c3,s3,rfl,rfl,hs0,hs1,hs2,hs3⟩ := TProblem.agg hx
 have HMA := hid (TMesh.mkAgg (x := p.mesh) hs0 hs1)
 have HS1 := hid hs1
 have HL0 := hid hs0.1
 have HL1 := hid hs1.1
 have hn40 : n0 ≤ 40 := by rw [← hs0.1]; exact hm.mesh.n40
 have hn48 : n1 ≤ 48 := by rw [← hs1.1]; exact hm.mesh.t48
 have hn40i : (n0 : Int) ≤ 40 := by omega
 have hn48i : (n1 : Int) ≤ 48 := by omega
 obtain ⟨n,hnn⟩ : ∃ n,(ptsOfL p.mesh false).length = n := ⟨_,rfl⟩
 have hnle : n ≤ 40 := by rw [← hnn]; exact Nat.le_trans (ptsOfL_len p.mesh false) hm.mesh.n40
 have hnlei : (n : Int) ≤ 40 := by omega
 have HNN := hid hnn
 obtain ⟨rows,hrows⟩ : ∃ rows,rowsL p.mesh = rows := ⟨_,rfl⟩
 have HRW := hid hrows
 have HRL := hid (show rows.length = n0 by rw [← hrows,rowsL_len,hs0.1])
 have HRM := hid (show ∀ x ∈ rows, -1 ≤ x ∧ x < n by rw [← hrows, ← hnn]; exact rowsL_mem)
 have HLD := hid (show loadL p = loadTo p rows n n1 by rw [loadL,hrows,hnn,hs1.1])
 clear hx hm hsl hok hs0 hs1 hs2 hs3 hnn hrows
 go_enter Tryz.func113,Tryz.ntmps113
 go_wp2_with fail
 have C := impl_rowsOf _ p.mesh _ (w.alloc (.cells #[.slice A0 n0 c0, .slice A1 n1 c1, .slice A2 n2 c2, .slice A3 n3 c3] 51)) (HMA.out.below Below.go) HM.out.mesh.n40 HM.out.mesh.t48 HM.out.es
 rw [HRW.out,HNN.out] at C
 refine C.mono ?_
 clear C
 rintro _ w1 ⟨gr,nr,rbs,rfl,hsr,hor,hb1⟩
 obtain rfl : n0 = nr := by rw [← hsr.1]; exact HRL.out.symm
 have HSR := hid hsr
 have HB1 := hid (show Below w.heap.size w w1 from Below.go)
 have K0 := hid (show w1.heap[w.heap.size]? = some (.cells #[.slice A0 n0 c0, .slice A1 n1 c1, .slice A2 n2 c2, .slice A3 n3 c3] 51) from heap_keep' (allocs_heap [_] w 0 _ rfl) (hb1.mono (Nat.le_refl _)))
 have hz1 := lt_of_block K0.out
 have HRN := hid (show ∀ b ∈ rbs,b < w1.heap.size from hsr.lt)
 clear hsr hor hb1
 go_wp2_with fail
 refine (impl_RatFromInt 0 w1 (by constructor <;> decide)).mono ?_
 rintro _ wa ⟨va,sa,rfl,ha,ho,hba⟩
 obtain ⟨G1,nG1,cG1,g1,G2,nG2,cG2,g2,rfl,z15, _, _⟩ := TRat.agg ha
 have AT := hid (rat_dat (ha.below (Below.box (.cells #[.bool (rint 0).num.neg, .slice G1 nG1 cG1, .slice G2 nG2 cG2] 32))))
 have HR := hid (show ∀ b ∈ sa,w1.heap.size ≤ b ∧ b < wa.heap.size from fun b hb => ⟨(ho.2 b hb).1,ha.lt b hb⟩)
 have HBa := hid hba
 clear ha ho z15 hba
 go_wp2_with fail
 refine (repeat_R1 wa.heap.size n [.bool (rint 0).num.neg, .slice G1 nG1 cG1, .slice G2 nG2 cG2] _ (heap_alloc_new wa _) rfl (Dat.one AT.out) hnle).mono ?_
 rintro _ wb ⟨rfl,hown,hbb⟩
 rw [World.size_alloc] at hown
 have hsza := HBa.out.size
 have HR0 := hid (show RR (fun b => b < w1.heap.size ∨ b = wa.heap.size + 1) wb (wa.heap.size + 1) n n (loadTo p rows n 0) from
  ⟨_, _,ownsRow_zero hown,flat_rats (Dat.keep AT.out (fun b hb => hbb.block b (Dat.lt AT.out b hb))),by simp [loadTo],fun b hb hbad => by
   have h5 := HR.out b (flat_mem_nat hb)
   rcases hbad with h6 | h6 <;> omega, .inr rfl⟩)
 have HBb := hid (Below.next (Below.next HBa.out (Below.box _)) hbb)
 obtain ⟨gV,hgV⟩ : ∃ gV,wa.heap.size + 1 = gV := ⟨_,rfl⟩
 have hgV1 : w1.heap.size ≤ gV := by omega
 simp only [World.size_alloc,hgV] at *
 clear hown hbb AT HR hgV
 obtain ⟨k0, _⟩ := box_cell (heap_keep' K0.out HBb.out) (j := 0) rfl
 obtain ⟨k1, _⟩ := box_cell (heap_keep' K0.out HBb.out) (j := 1) rfl
 have hzb : w.heap.size < wb.heap.size := by have := HBb.out.size; omega
 simp at k0 k1
 go_wp2_with fail
 go_loopg [25] n1 (fun g s wr => ∃ k : Nat,k + g = n1 ∧ s = .int .i64 k ∧ Hid (RR (fun b => b < w1.heap.size ∨ b = gV) wr gV n n (loadTo p rows n k)) ∧ Hid (Below w1.heap.size w1 wr))
 case atStart => exact ⟨0,by omega,rfl,HR0.out,HBb.out⟩
 case round =>
  clear HR0 k0 k1 hzb
  obtain ⟨k,hk,rfl,HS,HB⟩ := hrel
  rename World => wr
  have HBr := hid (Below.next HB1.out HB.out)
  have hw1r := HB.out.size
  have hVr := HS.out.lt
  rcases Nat.lt_or_ge k n1 with hkn | hkn
  ·have hki : (k : Int) < n1 := by omega
   have hki0 : (0 : Int) ≤ k := by omega
   obtain ⟨g,rfl⟩ : ∃ g,gk = g + 1 := ⟨gk - 1,by omega⟩
   have hk' := hid (show k + 1 + g = n1 by omega)
   have hk1 : k + 1 ≤ n1 := hkn
   obtain ⟨be,of,t,rfl,hbl,hx1,e0,e1,e2,e3,e4,hag⟩ := TTri.elemA (HS1.out.below HBr.out) hkn
   have HAG := hid hag
   have HK := hid (show p.mesh.triangles[k]? = some t from hx1)
   have htm := List.mem_of_getElem? hx1
   have HIT := hid (show triIn p.mesh.points.length t from (HM.out.mesh.tri t htm).1)
   have HIT0 := hid (show triIn n0 t by rw [← HL0.out]; exact HIT.out)
   have HRG := hid (show 0 ≤ t.region ∧ t.region < 3 by
    have := (HM.out.mesh.tri t htm).2.1
    unfold inB at this; simp at this; omega)
   have NA := hid (show loadTo p rows n (k + 1) = vecAdd rows t (partT p t) (loadTo p rows n k) 3 by rw [loadTo,getD_of hx1])
   obtain ⟨sr,hsr⟩ : ∃ sr,p.source.getD t.region.toNat zeroR = sr := ⟨_,rfl⟩
   obtain ⟨ar,har⟩ : ∃ ar,areaP (ptAt p.mesh.points t.a) (ptAt p.mesh.points t.b) (ptAt p.mesh.points t.c) = ar := ⟨_,rfl⟩
   have HSRC := hid hsr; have HAR := hid har
   have PT := hid (show partT p t = rmul sr (rmul (mkR 1 3) ar) by rw [partT,hsr,har])
   obtain ⟨q0, _⟩ := box_cell (heap_keep' K0.out HB.out) (j := 0) rfl
   obtain ⟨q1, _⟩ := box_cell (heap_keep' K0.out HB.out) (j := 1) rfl
   obtain ⟨q2, _⟩ := box_cell (heap_keep' K0.out HB.out) (j := 2) rfl
   obtain ⟨q3, _⟩ := box_cell (heap_keep' K0.out HB.out) (j := 3) rfl
   simp at q0 q1 q2 q3
   have hzr : w.heap.size < wr.heap.size := by omega
   have hzr1 : w.heap.size < wr.heap.size + 1 := by omega
   have hrow := hid (show ∀ p : Int,0 ≤ p → p < n0 → ∃ x,rows[p.toNat]? = some x by
    intro p h0 h1
    exact ⟨_,List.getElem?_eq_getElem (by rw [HRL.out]; omega)⟩)
   clear hk hkn hx1 hag hsr har
   obtain ⟨wt,hwt⟩ : ∃ wt,wt = wr.alloc (.cells #[.int .i64 t.a, .int .i64 t.b, .int .i64 t.c, .int .i64 t.region, .int .i64 t.level] 77) := ⟨_,rfl⟩
   have HWT := hid hwt
   have HBt := hid (show Below wr.heap.size wr wt by rw [hwt]; exact Below.box _)
   have KT := hid (show wt.heap[wr.heap.size]? = some (.cells #[.int .i64 t.a, .int .i64 t.b, .int .i64 t.c, .int .i64 t.region, .int .i64 t.level] 77) by rw [hwt]; exact heap_alloc_new wr _)
   have hst : wr.heap.size < wt.heap.size := lt_of_block KT.out
   have hzt : w.heap.size < wt.heap.size := by omega
   clear hwt
   go_upto_region 6 with fail
   rw [← HWT.out]
   obtain ⟨hc_wt,hf_wt⟩ := bcell HBt.out
   refine wp_region_last (by simp) (by kernel_rfl) (by kernel_rfl) (by kernel_rfl) (by kernel_rfl) ?_
   dsimp only [List.dropLast,List.getLast,List.length]
   iterate 2
    apply walkM_eq
    case h =>
     intro yq zq wq hC hd
     obtain ⟨hcq,hfq⟩ := bcell hC
     simp at hd
     refine ⟨by go_simp; done, ?_⟩
     go_simp
     first | (go_ints; exact rfl) | (go_ints; rw [if_pos (by omega)]; try exact rfl) | exact rfl | (rw [if_pos (by omega)]; try exact rfl)
   refine walkM_call (MP.aggS sr) ?_ ?_
   ·intro yq zq wq hC hd
    obtain ⟨hcq,hfq⟩ := bcell hC
    simp at hd
    refine ⟨by go_simp; done, ?_⟩
    apply Exists.intro
    apply Exists.intro
    constructor
    ·go_simp
     exact ⟨rfl,rfl⟩
    ·have C := impl_source _ p _ k t wq (HX.out.below (Below.next HBr.out (Below.next HBt.out hC))) HK.out HSL.out HRG.out
     rw [HSRC.out] at C
     exact gives_aggS C
   refine walkM_call (MP.agg (mkR 1 3)) ?_ ?_
   ·intro yq zq wq hC hd
    obtain ⟨hcq,hfq⟩ := bcell hC
    simp at hd
    refine ⟨by go_simp; done, ?_⟩
    apply Exists.intro
    apply Exists.intro
    constructor
    ·go_simp
     exact ⟨rfl,rfl⟩
    ·exact gives_agg (impl_RatOf 1 3 wq (by constructor <;> decide) (by constructor <;> decide) (by decide))
   iterate 3
    apply walkM_eq
    case h =>
     intro yq zq wq hC hd
     obtain ⟨hcq,hfq⟩ := bcell hC
     simp at hd
     refine ⟨by go_simp; done, ?_⟩
     go_simp
     first | (go_ints; exact rfl) | (go_ints; rw [if_pos (by omega)]; try exact rfl) | exact rfl | (rw [if_pos (by omega)]; try exact rfl)
   refine walkM_call (MP.sl (triPts p.mesh.points t)) ?_ ?_
   ·intro yq zq wq hC hd
    obtain ⟨hcq,hfq⟩ := bcell hC
    simp at hd
    refine ⟨by go_simp; done, ?_⟩
    apply Exists.intro
    apply Exists.intro
    constructor
    ·go_simp
     exact ⟨rfl,rfl⟩
    ·exact gives_sl (impl_Corners _ p.mesh _ k t wq (HMA.out.below (Below.next HBr.out (Below.next HBt.out hC))) HK.out HIT.out HM.out.mesh.ok HM.out.mesh.n40 HM.out.mesh.t48)
   refine walkM_call (MP.agg ar) ?_ ?_
   ·intro yq zq wq hC hd
    obtain ⟨hcq,hfq⟩ := bcell hC
    simp at hd
    obtain ⟨⟨C,nC,cC,eC,hC1⟩, _⟩ := hd
    obtain rfl : 3 = nC := hC1.1
    refine ⟨by go_simp; done, ?_⟩
    apply Exists.intro
    apply Exists.intro
    constructor
    ·go_simp
     exact ⟨rfl,rfl⟩
    ·have C := impl_area C cC _ _ _ _ wq hC1
     rw [HAR.out] at C
     exact gives_agg C
   refine walkM_call (MP.agg (rmul (mkR 1 3) ar)) ?_ ?_
   ·intro yq zq wq hC hd
    obtain ⟨hcq,hfq⟩ := bcell hC
    simp at hd
    refine ⟨by go_simp; done, ?_⟩
    apply Exists.intro
    apply Exists.intro
    constructor
    ·go_simp
     exact ⟨rfl,rfl⟩
    ·obtain ⟨t1,t2, _⟩ := hd
     exact gives_agg (impl_RatMul _ _ (mkR 1 3) ar _ _ wq t1.1 t2)
   refine walkM_call (MP.agg (rmul sr (rmul (mkR 1 3) ar))) ?_ ?_
   ·intro yq zq wq hC hd
    obtain ⟨hcq,hfq⟩ := bcell hC
    simp at hd
    refine ⟨by go_simp; done, ?_⟩
    apply Exists.intro
    apply Exists.intro
    constructor
    ·go_simp
     exact ⟨rfl,rfl⟩
    ·obtain ⟨⟨_,s4,t1⟩,t2, _⟩ := hd
     exact gives_agg (impl_RatMul _ _ sr (rmul (mkR 1 3) ar) _ _ wq t1 t2)
   refine walkM_new #[.bool false, .slice none 0 0, .slice none 0 0] 32 ?_ ?_
   ·intro yq zq wq hC hd
    refine ⟨by go_simp; done, ?_⟩
    go_simp
   intro yq zq wa hC hd hdis0
   have hdis := hid hdis0
   clear hdis0
   simp at hd
   have q10 := hd.2.2.2.2.2.2.2.2.2.2.1
   have q11 := hd.2.2.2.2.2.2.2.2.2.2.2
   obtain ⟨⟨ha9,hf9⟩,hr9⟩ := q10
   obtain ⟨⟨gd,e10,z10,hgd⟩,hr10⟩ := q11
   rw [← PT.out] at ha9
   obtain ⟨pt,hpt⟩ : ∃ pt,partT p t = pt := ⟨_,rfl⟩
   rw [hpt] at ha9 NA
   obtain ⟨V1,nV1,cV1,v1,V2,nV2,cV2,v2,e9,hz9, _, _⟩ := TRat.agg ha9
   rw [e9] at ha9
   have hdd := hdis.out 10 11 (by decide) (by decide) (by decide)
   rw [z10] at hdd hr10
   have hgdl := lt_of_get hgd
   have hgd1 : wt.heap.size ≤ gd := (hr10 gd (by simp)).1
   have hgn : gd ∉ zq 10 := fun h => hdd gd h (by simp)
   obtain ⟨d0,f0⟩ := box_cell hgd (j := 0) rfl
   obtain ⟨d1,f1⟩ := box_cell hgd (j := 1) rfl
   obtain ⟨d2,f2⟩ := box_cell hgd (j := 2) rfl
   obtain ⟨W2,hW2⟩ : ∃ W2,W2 = (((wa.setCell ⟨gd,0,none⟩ (.bool pt.num.neg)).setCell ⟨gd,1,none⟩ (.slice V1 nV1 cV1)).setCell ⟨gd,2,none⟩ (.slice V2 nV2 cV2)) := ⟨_,rfl⟩
   have BW2 := hid (show Below wr.heap.size wr W2 by
    rw [hW2]
    exact ((((Below.next HBt.out hC)).setCell (p := ⟨gd,0,none⟩) (by simp; omega) _).setCell (p := ⟨gd,1,none⟩) (by simp; omega) _).setCell (p := ⟨gd,2,none⟩) (by simp; omega) _)
   have AG2 := hid (show Agg W2 (.agg #[.bool pt.num.neg, .slice V1 nV1 cV1, .slice V2 nV2 cV2]) pt (zq 10) by
    rw [hW2]; exact ha9.keep (fun b hb => heap_set3 b (fun e => hgn (e ▸ hb))))
   have CL2 := hid (show W2.heap[gd]? = some (.cells #[.bool pt.num.neg, .slice V1 nV1 cV1, .slice V2 nV2 cV2] 32) by
    rw [hW2]; exact heap_setSelf (heap_setSelf (heap_setSelf hgd)))
   have KT2 := hid (show W2.heap[wr.heap.size]? = some (.cells #[.int .i64 t.a, .int .i64 t.b, .int .i64 t.c, .int .i64 t.region, .int .i64 t.level] 77) by
    rw [hW2]; exact (heap_set3 _ (by omega)).trans (heap_keep' KT.out hC))
   have PN := hid (show ∀ b ∈ zq 10,wt.heap.size ≤ b from fun b hb => (hr9 b hb).1)
   have hW2' := hid hW2
   generalize zq 10 = z9 at *
   clear hd hdis ha9 hf9 hr9 hr10 hdd hz9 hC hW2 hgn hc_wt hf_wt
   go_upto_region 7 with fail
   rw [← hW2'.out]
   obtain ⟨t0, _⟩ := box_cell KT2.out (j := 0) rfl
   obtain ⟨t1, _⟩ := box_cell KT2.out (j := 1) rfl
   obtain ⟨t2, _⟩ := box_cell KT2.out (j := 2) rfl
   obtain ⟨t3, _⟩ := box_cell KT2.out (j := 3) rfl
   obtain ⟨t4, _⟩ := box_cell KT2.out (j := 4) rfl
   simp at t0 t1 t2 t3 t4
   go_wp2_with fail
   refine (impl_corners _ t _ W2 (HAG.out.below BW2.out)).mono ?_
   rintro _ w3 ⟨rfl,hb3⟩
   have HB3 := hid (Below.next BW2.out hb3)
   have CL3 := hid (heap_keep' CL2.out hb3)
   have AG3 := hid (AG2.out.below hb3)
   have R3 := hid (show RR (fun b => b < w1.heap.size ∨ b = gV) w3 gV n n (vecAdd rows t pt (loadTo p rows n k) 0) from HS.out.below HB3.out)
   have BB3 := hid (Below.next HB.out HB3.out)
   have S3 := hid (HSR.out.below BB3.out)
   have hs3 := HB3.out.size
   have DR := hid (show ∀ b ∈ rbs,b ∉ [gV] from fun b hb hm => by have h1 := HRN.out b hb; simp at hm; omega)
   have DP := hid (show ∀ b ∈ z9,b ∉ [gV] from fun b hb hm => by have h1 := PN.out b hb; simp at hm; omega)
   have DG := hid (show gd ∉ [gV] from fun hm => by simp at hm; omega)
   obtain ⟨V0,hV0⟩ : ∃ V0,loadTo p rows n k = V0 := ⟨_,rfl⟩
   rw [hV0] at R3 NA
   clear hb3 HS hV0 CL2 AG2 KT KT2 t0 t1 t2 t3 t4 e0 e1 e2 e3 e4 d0 f0 d1 f1 d2 f2 q0 q1 q2 q3
   go_wp2_with fail
   go_loopg [43] 3 (fun g2 s wr2 => ∃ i : Nat,i + g2 = 3 ∧ s = .int .i64 i ∧ Hid (RR (fun b => b < w1.heap.size ∨ b = gV) wr2 gV n n (vecAdd rows t pt V0 i)) ∧ Hid (Kp [gV] w3 wr2) ∧ Hid (Below w1.heap.size w1 wr2))
   case atStart => exact ⟨0,by omega,rfl,R3.out,Kp.refl _ _,BB3.out⟩
   case round =>
    clear R3 BB3
    obtain ⟨i,hik,rfl,HS4,HK4,HB4⟩ := hrel
    rename World => w6
    rcases Nat.lt_or_ge i 3 with hin | hin
    ·have hii : (i : Int) < 3 := by omega
     have hii0 : (0 : Int) ≤ i := by omega
     have hi3 : i < 3 := hin
     obtain ⟨g2,rfl⟩ : ∃ g2,gk = g2 + 1 := ⟨gk - 1,by omega⟩
     have hi' := hid (show i + 1 + g2 = 3 by omega)
     obtain ⟨hq0,hq1⟩ := at3_in HIT0.out i
     obtain ⟨q,hq⟩ : ∃ q,at3 t.a t.b t.c i = q := ⟨_,rfl⟩
     rw [hq] at hq0 hq1
     have QQ := hid hq
     obtain ⟨rq,hrq⟩ := hrow.out q hq0 hq1
     have RQ := hid hrq
     obtain ⟨hrq0,hrq1⟩ := HRM.out rq (List.mem_of_getElem? hrq)
     have NX := hid (show vecAdd rows t pt V0 (i + 1) = vcellAdd rows q pt (vecAdd rows t pt V0 i) by rw [vecAdd,QQ.out])
     have S7 := hid (HK4.out.sl S3.out DR.out)
     obtain ⟨y1,hgr7⟩ := Sl.intAt S7.out RQ.out
     clear hik hin hrq
     by_cases hqq : rq < 0
     ·obtain rfl : rq = -1 := by omega
      have Sn := hid (show RR (fun b => b < w1.heap.size ∨ b = gV) w6 gV n n (vecAdd rows t pt V0 (i + 1)) by
       rw [NX.out,vcellAdd_dead (by rw [getD_of RQ.out]; decide)]; exact HS4.out)
      clear HS4 hqq
      go_wp2_with fail
      go_roundg g2
      case measure => omega
      case rel => exact ⟨i + 1,hi'.out,by go_num,Sn,HK4,HB4⟩
     obtain ⟨z,rfl⟩ : ∃ z : Nat,rq = z := ⟨rq.toNat,by omega⟩
     have hzn : z < n := by omega
     obtain ⟨a,G1,m1,e1,G2,m2,e2,fs2,ha,v0',v1',v2',u0',u1',u2',hag9, _,hgl⟩ := HS4.out.elem hzn
     have NY := hid (show vecAdd rows t pt V0 (i + 1) = (vecAdd rows t pt V0 i).set z (radd a pt) by
      rw [NX.out]; exact vcellAdd_live RQ.out ha)
     have HA9 := hid hag9
     have HAP := hid (AG3.out.keep (fun b hb => HK4.out.kp b (AG3.out.lt b hb) (DP.out b hb)))
     obtain ⟨d0, _⟩ := box_cell (HK4.out.cell CL3.out DG.out) (j := 0) rfl
     obtain ⟨d1, _⟩ := box_cell (HK4.out.cell CL3.out DG.out) (j := 1) rfl
     obtain ⟨d2, _⟩ := box_cell (HK4.out.cell CL3.out DG.out) (j := 2) rfl
     have hgd6 := lt_of_block (HK4.out.cell CL3.out DG.out)
     have hw16 := HB4.out.size
     simp at d0 d1 d2
     clear ha hag9 hqq hrq0 hrq1 NX
     go_wp2_with fail
     refine wp_region_last (by simp) (by kernel_rfl) (by kernel_rfl) (by kernel_rfl) (by kernel_rfl) ?_
     dsimp only [List.dropLast,List.getLast,List.length]
     iterate 13
      apply walkM_eq
      case h =>
       intro yq zq wq hC hd
       obtain ⟨hcq,hfq⟩ := bcell hC
       simp at hd
       refine ⟨by go_simp; done, ?_⟩
       go_simp
       first | (go_ints; exact rfl) | (go_ints; rw [if_pos (by omega)]; try exact rfl) | exact rfl | (rw [if_pos (by omega)]; try exact rfl)
     refine walkM_call (MP.agg (radd a pt)) ?_ ?_
     ·intro yq zq wq hC hd
      obtain ⟨hcq,hfq⟩ := bcell hC
      simp at hd
      refine ⟨by go_simp; done, ?_⟩
      apply Exists.intro
      apply Exists.intro
      constructor
      ·go_simp
       exact ⟨rfl,rfl⟩
      ·exact gives_agg (impl_RatAdd _ _ a pt _ _ wq (HA9.out.below hC) (HAP.out.below hC))
     apply walkM_eq
     case h =>
      intro yq zq wq hC hd
      obtain ⟨hcq,hfq⟩ := bcell hC
      simp at hd
      refine ⟨by go_simp; done, ?_⟩
      go_simp
      first | (go_ints; exact rfl) | (go_ints; rw [if_pos (by omega)]; try exact rfl) | exact rfl | (rw [if_pos (by omega)]; try exact rfl)
     intro yq zq wa hC hd hdis0
     have hdis := hid hdis0
     clear hdis0
     simp at hd
     have q13 := hd.2.2.2.2.2.2.2.2.2.2.2.2.2.1
     have q14 := hd.2.2.2.2.2.2.2.2.2.2.2.2.2.2
     have e14 := q14.1.1
     obtain ⟨⟨ha9,hf9⟩,hr9⟩ := q13
     obtain ⟨V1',nV1',cV1',v1'',V2',nV2',cV2',v2'',e9',hz9, _, _⟩ := TRat.agg ha9
     rw [e9'] at ha9
     have hwa := hC.size
     obtain ⟨k0,k1,k2,k3,k4,k5⟩ : wa.cell? ⟨gV,z * 3,none⟩ = some (.bool a.num.neg) ∧ wa.cell? ⟨gV,z * 3 + 1,none⟩ = some (.slice G1 m1 e1) ∧ wa.cell? ⟨gV,z * 3 + 2,none⟩ = some (.slice G2 m2 e2) ∧ wa.frozen? ⟨gV,z * 3,none⟩ = false ∧ wa.frozen? ⟨gV,z * 3 + 1,none⟩ = false ∧ wa.frozen? ⟨gV,z * 3 + 2,none⟩ = false :=
      ⟨(hC.cell (p := ⟨gV, _,none⟩) hgl).trans v0',(hC.cell (p := ⟨gV, _,none⟩) hgl).trans v1',(hC.cell (p := ⟨gV, _,none⟩) hgl).trans v2',(hC.frozen (p := ⟨gV, _,none⟩) hgl).trans u0',(hC.frozen (p := ⟨gV, _,none⟩) hgl).trans u1',(hC.frozen (p := ⟨gV, _,none⟩) hgl).trans u2'⟩
     have hgla : gV < wa.heap.size := by omega
     have Sn := hid (show RR (fun b => b < w1.heap.size ∨ b = gV) (((wa.setCell ⟨gV,z * 3,none⟩ (.bool (radd a pt).num.neg)).setCell ⟨gV,z * 3 + 1,none⟩ (.slice V1' nV1' cV1')).setCell ⟨gV,z * 3 + 2,none⟩ (.slice V2' nV2' cV2')) gV n n (vecAdd rows t pt V0 (i + 1)) by
      rw [NY.out]
      exact (HS4.out.below hC).set hzn ha9 (fun b hb hbad => by
       have h1 := (hr9 b hb).1
       rcases hbad with h2 | h2 <;> omega))
     have Kn := hid (show Kp [gV] w3 (((wa.setCell ⟨gV,z * 3,none⟩ (.bool (radd a pt).num.neg)).setCell ⟨gV,z * 3 + 1,none⟩ (.slice V1' nV1' cV1')).setCell ⟨gV,z * 3 + 2,none⟩ (.slice V2' nV2' cV2')) from (HK4.out.below hC).set (by simp) _ _ _ _ _ _)
     have Bn := hid (show Below w1.heap.size w1 (((wa.setCell ⟨gV,z * 3,none⟩ (.bool (radd a pt).num.neg)).setCell ⟨gV,z * 3 + 1,none⟩ (.slice V1' nV1' cV1')).setCell ⟨gV,z * 3 + 2,none⟩ (.slice V2' nV2' cV2')) from (((Below.next HB4.out hC).setCell (p := ⟨gV, _,none⟩) hgV1 _).setCell (p := ⟨gV, _,none⟩) hgV1 _).setCell (p := ⟨gV, _,none⟩) hgV1 _)
     generalize zq 13 = z13 at *
     clear hd hdis q14 ha9 hf9 hr9 hz9 hC HS4 HK4 HB4 v0' v1' v2' u0' u1' u2' hwa d0 d1 d2
     go_wp2_with fail
     go_roundg g2
     case measure => omega
     case rel => exact ⟨i + 1,hi'.out,by go_num,Sn,Kn,Bn⟩
    ·obtain rfl : i = 3 := by omega
     have S9 := hid (show RR (fun b => b < w1.heap.size ∨ b = gV) w6 gV n n (loadTo p rows n (k + 1)) by rw [NA.out]; exact HS4.out)
     clear hik hin HS4 HK4
     go_wp2_with fail
     go_roundg g
     case measure => omega
     case rel => exact ⟨k + 1,hk'.out,by go_num,S9,HB4⟩
  ·obtain rfl : k = n1 := by omega
   have hii : ¬ ((k : Int) < k) := by omega
   obtain ⟨bs,hs9, _⟩ := HS.out.sl
   have HSS := hid hs9
   have LIM := hid (show ∀ x ∈ loadTo p rows n k,Lim24 x from loadTo_all (P := Lim24) lim24_add (lim24_mk 0 1) p rows n k)
   clear hk hkn hs9
   go_wp2_with fail
   refine (impl_copyVector _ n n _ bs wr HSS.out (by omega) LIM.out).mono ?_
   rintro _ w6 ⟨A6,n6,c6,b6,rfl,hs6,ho6,hb6⟩
   have HS6 := hid hs6; have HO6 := hid ho6
   have HB6 := hid (Below.next HBr.out hb6)
   clear hs6 ho6 hb6
   go_wp2_with fail
   refine (impl_ifVector A6 n6 c6 _ b6 w6 HS6.out (by rw [← HLD.out]; exact HOK.out)).mono ?_
   rintro _ w7 ⟨rfl,hb7⟩
   have HB7 := hid hb7
   clear hb7
   go_wp2
   go_ret
   rw [HLD.out]
   exact ⟨A6,n6,c6,b6,rfl,HS6.out.below HB7.out,(HO6.out.older HBr.out.size).below HB7.out,Below.next HB6.out HB7.out⟩
end Go.Proofs.YtpfipnankjeokaaGreat.X
namespace Go.Proofs.YtpfipnankjeokaaGreat.X
open Go.RowKit Go.XB Go.XN
theorem Sl.ratAt {w : World} {g c : Nat} {n o : Nat} {xs : List TRat} {bs : List Nat} (h : Sl w (some ⟨g,o,none⟩) n c xs bs) {k : Nat} {x : TRat} (hx : xs[k]? = some x) :
  ∃ (A1 : Option Addr) (n1 c1 : Nat) (A2 : Option Addr) (n2 c2 : Nat) (fs : List Nat),g < w.heap.size ∧ w.cell? ⟨g,o + k * 3,none⟩ = some (.bool x.num.neg) ∧ w.cell? ⟨g,o + k * 3 + 1,none⟩ = some (.slice A1 n1 c1) ∧ w.cell? ⟨g,o + k * 3 + 2,none⟩ = some (.slice A2 n2 c2) ∧ Agg w (.agg #[.bool x.num.neg, .slice A1 n1 c1, .slice A2 n2 c2]) x fs := by
 have hk : k < n := by rw [← h.1]; exact (List.getElem?_eq_some_iff.1 hx).1
 obtain ⟨b,off,y,A1,n1,c1,s1,A2,n2,c2,s2,e,hb,hy,e0,e1,e2,ha⟩ := TRat.elemA h hk
 injection e with e
 injection e with ea eb _
 subst ea; subst eb
 obtain rfl : y = x := by rw [hy] at hx; exact Option.some.inj hx
 exact ⟨A1,n1,c1,A2,n2,c2, _,hb,e0,e1,e2,ha⟩
structure At1 (w : World) (v : Value) (r : TRat) (g o c g1 o1 c1 g2 o2 c2 : Nat) (s2 : List Nat) : Prop where
 v : v = .agg #[.slice (some ⟨g,o,none⟩) 1 c]
 gl : g < w.heap.size
 h0 : w.cell? ⟨g,o,none⟩ = some (.slice (some ⟨g1,o1,none⟩) 1 c1)
 h1 : w.cell? ⟨g,o + 1,none⟩ = some (.slice (some ⟨g2,o2,none⟩) 1 c2)
 g1l : g1 < w.heap.size
 hc : w.cell? ⟨g1,o1,none⟩ = some (.int .i64 0)
 sl : Sl w (some ⟨g2,o2,none⟩) 1 c2 [r] s2
theorem at1 {w : World} {v : Value} {r : TRat} {s : List Nat} (h : Agg w v (mat1 (some r)) s) : ∃ g o c g1 o1 c1 g2 o2 c2 s2,At1 w v r g o c g1 o1 c1 g2 o2 c2 s2 := by
 obtain ⟨A,n,c,s0,rfl,rfl,h0⟩ := TMatrix.agg h
 obtain rfl : 1 = n := by rw [← h0.1]; rfl
 obtain ⟨g,o,x,A1,n1,c1,t1,A2,n2,c2,t2,rfl,hg,hx,e0,e1,k1,k2, _⟩ := TRow.elem h0 (show 0 < 1 by decide)
 simp [mat1] at hx
 subst hx
 obtain rfl : 1 = n1 := by rw [← k1.1]; rfl
 obtain rfl : 1 = n2 := by rw [← k2.1]; rfl
 obtain ⟨g1,o1,y,rfl,hg1,hy, _,f0⟩ := Sl.getInt k1 (show 0 < 1 by decide)
 simp at hy
 subst hy
 obtain ⟨g2,o2, _,rfl, _⟩ := k2.2.2.2.2 (by decide)
 exact ⟨g,o,c,g1,o1,c1,g2,o2,c2,t2,rfl,hg,by simpa using e0,by simpa using e1,hg1,by simpa using f0,k2⟩
attribute [local go_sem] fillBy Go.XB.opAt deps depOf Region.wanted yielded
attribute [local simp] deps depOf MP.eq MP.agg MP.aggS MP.sl MP.slbox Facts
theorem known_IsMatrix_1 : Known 181 := fun a w => by kernel_rfl
theorem rsignV_ne {r : TRat} (h0 : numv r ≠ 0) : (rsignV r == 0) = false := by
 unfold rsignV sgn; simp; split
 ·omega
 ·split <;> omega
set_option maxHeartbeats 1000000 in
theorem impl_IsMatrix_1 (v : Value) (x : TRat) (b : List Nat) (w : World) (hx : Agg w v x b) (ho : ratOkB x = true) (hp : numv x ≠ 0) : Calls Tryz.prog 181 #[v] w (Gives w (.bool false)) := by
 have HX := hid hx; have VR := hid (ratOkB_iff.1 ho)
 have E := rsignV_ne hp
 obtain ⟨A1,n1,c1,s1,A2,n2,c2,s2,rfl,rfl,hs1,hs2⟩ := TRat.agg hx
 clear hs1 hs2 hx ho hp
 go_enter Tryz.func181,Tryz.ntmps181
 go_wp2_with fail
 refine (impl_sign _ x _ _ (HX.out.below Below.go) VR.out.mag (negOk_of VR.out.num)).mono ?_
 rintro _ w1 ⟨rfl,hb1⟩
 have HB1 := hid (show Below w.heap.size w w1 from Below.go)
 go_wp2
 go_ret
 exact ⟨rfl,HB1.out⟩
set_option maxHeartbeats 4000000 in
theorem impl_IsMatrix0 (v : Value) (s : List Nat) (w : World) (hx : Agg w v (mat1 none) s) : Calls Tryz.prog 152 #[v] w (Gives w (.bool true)) := by
 obtain ⟨A,n,c,s0,rfl,rfl,h0⟩ := TMatrix.agg hx
 obtain rfl : 0 = n := by rw [← h0.1]; rfl
 clear hx h0
 go_enter Tryz.func152,Tryz.ntmps152
 go_wp2_with fail
 refine wp_loop_rounds 1 ?_
 rw [rounds_succ]
 go_wp2
 go_ret
 exact ⟨rfl,Below.go⟩
set_option maxHeartbeats 8000000 in
theorem impl_IsMatrix1 (v : Value) (r : TRat) (s : List Nat) (w : World) (hx : Agg w v (mat1 (some r)) s) (ok : Ok1 (some r)) : Calls Tryz.prog 152 #[v] w (Gives w (.bool true)) := by
 have OK1 := hid ok
 obtain ⟨g,o,c,g1,o1,c1,g2,o2,c2,s2,⟨rfl,hg,h0,h1,hg1,hc,hs⟩⟩ := at1 hx
 have HS := hid hs
 have hgl : g < w.heap.size + 1 := by omega
 have hgl2 : g < w.heap.size + 1 + 1 := by omega
 have hg1l : g1 < w.heap.size + 1 := by omega
 have hg1l2 : g1 < w.heap.size + 1 + 1 := by omega
 clear hx ok hs
 go_enter Tryz.func152,Tryz.ntmps152
 go_wp2_with fail
 refine wp_loop_rounds 2 ?_
 rw [rounds_succ]
 go_wp2_with fail
 refine (impl_isVector _ 1 c2 [r] s2 _ (HS.out.below Below.go) (by simp; exact OK1.out.1)).mono ?_
 rintro _ w1 ⟨rfl,hb1⟩
 obtain ⟨hc_w1,hf_w1⟩ := bcell hb1
 have hz0_w1 : w.heap.size < w1.heap.size := by have := hb1.size; (try simp at this); omega
 have hz1_w1 : w.heap.size + 1 < w1.heap.size := by have := hb1.size; (try simp at this); omega
 have HB1 := hid (show Below w.heap.size w w1 from Below.go)
 clear hb1
 go_wp2_with fail
 have C := contains_rats 181 known_IsMatrix_1 _ 1 c2 [r] s2 w1 (fun _ => false) (HS.out.below HB1.out) (fun v x b W hm ha => by
  simp at hm; subst hm
  exact impl_IsMatrix_1 v x b W ha OK1.out.1 OK1.out.2)
 rw [show [r].any (fun _ => false) = false from rfl] at C
 refine C.mono ?_
 clear C
 rintro _ w2 ⟨rfl,hb2⟩
 obtain ⟨hc_w2,hf_w2⟩ := bcell hb2
 have hz2 : w.heap.size + 1 < w2.heap.size := by have := hb2.size; omega
 have hz2' : w.heap.size < w2.heap.size := by omega
 have hg2w : g1 < w1.heap.size := by omega
 have HB2 := hid (Below.next HB1.out hb2)
 clear hb2
 go_wp2_with fail
 refine wp_loop_rounds 2 ?_
 rw [rounds_succ]
 go_wp2_with fail
 refine (impl_within 0 0 0 w2).mono ?_
 rw [show inB 0 0 0 = true from rfl]
 rintro _ w3 ⟨rfl,hb3⟩
 have HB3 := hid (Below.next HB2.out hb3)
 clear hb3
 go_wp2_with fail
 rw [rounds_succ]
 go_wp2_with fail
 rw [rounds_succ]
 go_wp2
 go_ret
 exact ⟨rfl,HB3.out⟩
theorem impl_IsMatrix (v : Value) (q : Option TRat) (s : List Nat) (w : World) (hx : Agg w v (mat1 q) s) (ok : Ok1 q) : Calls Tryz.prog 152 #[v] w (Gives w (.bool true)) := by
 cases q with
 | none => exact impl_IsMatrix0 v s w hx
 | some r => exact impl_IsMatrix1 v r s w hx ok
set_option maxHeartbeats 8000000 in
theorem impl_entryV (r : TRat) (w : World) (g o c g1 o1 c1 g2 o2 c2 : Nat) (A1 : Option Addr) (n1 d1 : Nat) (A2 : Option Addr) (n2 d2 : Nat) (hg : g < w.heap.size) (h0 : w.cell? ⟨g,o,none⟩ = some (.slice (some ⟨g1,o1,none⟩) 1 c1)) (h1 : w.cell? ⟨g,o + 1,none⟩ = some (.slice (some ⟨g2,o2,none⟩) 1 c2)) (hg1 : g1 < w.heap.size) (hc : w.cell? ⟨g1,o1,none⟩ = some (.int .i64 0)) (hl2 : g2 < w.heap.size)
  (u0 : w.cell? ⟨g2,o2,none⟩ = some (.bool r.num.neg)) (u1 : w.cell? ⟨g2,o2 + 1,none⟩ = some (.slice A1 n1 d1)) (u2 : w.cell? ⟨g2,o2 + 2,none⟩ = some (.slice A2 n2 d2)) : Calls Tryz.prog 154 #[.agg #[.slice (some ⟨g,o,none⟩) 1 c], .int .i64 0, .int .i64 0] w (Gives w (.agg #[.bool r.num.neg, .slice A1 n1 d1, .slice A2 n2 d2])) := by
 have hgl : g < w.heap.size + 1 := by omega
 have hgl2 : g < w.heap.size + 1 + 1 := by omega
 have hg1l : g1 < w.heap.size + 1 := by omega
 have hg1l2 : g1 < w.heap.size + 1 + 1 := by omega
 have hl2' : g2 < w.heap.size + 1 := by omega
 have hl22 : g2 < w.heap.size + 1 + 1 := by omega
 go_enter Tryz.func154,Tryz.ntmps154
 go_wp2_with fail
 refine (bs_ints g1 o1 1 c1 [0] 0 _ (by simp) (by decide) (fun j hj => ?_) (by simp)).mono ?_
 ·obtain rfl : j = 0 := by simpa using hj
  go_simp
 rintro _ w1 ⟨rfl,q,hq⟩
 have hb1 := Go.XB.below_drewN ((w.alloc (.cells #[.slice (some ⟨g,o,none⟩) 1 c] 143)).alloc (.cells #[.bool false, .slice none 0 0, .slice none 0 0] 32)) q
 rw [← hq] at hb1
 clear hq
 rw [show ((List.countP (fun x => decide (x < (0 : Int))) (List.take 1 [0]) : Nat) : Int) = 0 from rfl,show (List.take 1 [(0 : Int)]).contains 0 = true from rfl]
 obtain ⟨hc_w1,hf_w1⟩ := bcell hb1
 have hz0_w1 : w.heap.size < w1.heap.size := by have := hb1.size; (try simp at this); omega
 have hz1_w1 : w.heap.size + 1 < w1.heap.size := by have := hb1.size; (try simp at this); omega
 have HB1 := hid (show Below w.heap.size w w1 from Below.go)
 clear hb1
 go_wp2
 refine bodyPost_ret (v := .agg #[.bool r.num.neg, .slice A1 n1 d1, .slice A2 n2 d2]) (by simp [results,Tryz.results154,go_sem, *]) rfl ?_
 have hb9 := HB1.out
 exact ⟨rfl,Below.go⟩
theorem impl_entry (v : Value) (r : TRat) (s : List Nat) (w : World) (hx : Agg w v (mat1 (some r)) s) : Calls Tryz.prog 154 #[v, .int .i64 0, .int .i64 0] w (GivesS w r) := by
 obtain ⟨g,o,c,g1,o1,c1,g2,o2,c2,s2,⟨rfl,hg,h0,h1,hg1,hc,hs⟩⟩ := at1 hx
 obtain ⟨A1,n1,d1,A2,n2,d2,fs,hl2,u0,u1,u2,hag⟩ := Sl.ratAt hs (k := 0) rfl
 simp at u0 u1 u2
 exact (impl_entryV r w g o c g1 o1 c1 g2 o2 c2 A1 n1 d1 A2 n2 d2 hg h0 h1 hg1 hc hl2 u0 u1 u2).mono fun _ _ ⟨he,hb⟩ => ⟨_,fs,he,hag.below hb,hb⟩
set_option maxHeartbeats 8000000 in
theorem impl_IsSymmetric0 (v : Value) (s : List Nat) (w : World) (hx : Agg w v (mat1 none) s) : Calls Tryz.prog 184 #[v] w (Gives w (.bool true)) := by
 have HX := hid hx
 obtain ⟨A,n,c,s0,rfl,rfl,h0⟩ := TMatrix.agg hx
 obtain rfl : 0 = n := by rw [← h0.1]; rfl
 clear hx h0
 go_enter Tryz.func184,Tryz.ntmps184
 go_wp2_with fail
 refine (impl_IsMatrix _ none _ _ (HX.out.below Below.go) trivial).mono ?_
 rintro _ w1 ⟨rfl,hb1⟩
 obtain ⟨hc_w1,hf_w1⟩ := bcell hb1
 have hz0_w1 : w.heap.size < w1.heap.size := by have := hb1.size; (try simp at this); omega
 have HB1 := hid (show Below w.heap.size w w1 from Below.go)
 clear hb1
 go_wp2_with fail
 refine wp_loop_rounds 1 ?_
 rw [rounds_succ]
 go_wp2
 go_ret
 exact ⟨rfl,HB1.out⟩
set_option maxHeartbeats 8000000 in
set_option maxRecDepth 10000 in
theorem impl_IsSymmetric1 (v : Value) (r : TRat) (s : List Nat) (w : World) (hx : Agg w v (mat1 (some r)) s) (ok : Ok1 (some r)) : Calls Tryz.prog 184 #[v] w (Gives w (.bool true)) := by
 have HX := hid hx; have OK1 := hid ok
 obtain ⟨g,o,c,g1,o1,c1,g2,o2,c2,s2,⟨rfl,hg,h0,h1,hg1,hc,hs⟩⟩ := at1 hx
 have HS := hid hs
 have hgl : g < w.heap.size + 1 := by omega
 have hgl2 : g < w.heap.size + 1 + 1 := by omega
 have hg1l : g1 < w.heap.size + 1 := by omega
 have hg1l2 : g1 < w.heap.size + 1 + 1 := by omega
 clear hx ok hs
 go_enter Tryz.func184,Tryz.ntmps184
 go_wp2_with fail
 refine (impl_IsMatrix _ (some r) _ _ (HX.out.below Below.go) OK1.out).mono ?_
 rintro _ w1 ⟨rfl,hb1⟩
 obtain ⟨hc_w1,hf_w1⟩ := bcell hb1
 have hz0_w1 : w.heap.size < w1.heap.size := by have := hb1.size; (try simp at this); omega
 have HB1 := hid (show Below w.heap.size w w1 from Below.go)
 have hg1w : g1 < w1.heap.size := by omega
 have hg1w1 : g1 < w1.heap.size + 1 := by omega
 have hg1w' : g < w1.heap.size := by omega
 clear hb1
 go_wp2_with fail
 refine wp_loop_rounds 2 ?_
 rw [rounds_succ]
 go_wp2_with fail
 refine wp_loop_rounds 2 ?_
 rw [rounds_succ]
 go_wp2_with fail
 obtain ⟨W2,hW2⟩ : ∃ W2,W2 = w1.alloc (.cells #[.slice (some ⟨g1,o1,none⟩) 1 c1, .slice (some ⟨g2,o2,none⟩) 1 c2] 176) := ⟨_,rfl⟩
 have HB2 := hid (show Below w1.heap.size w1 W2 by rw [hW2]; exact Below.box _)
 have K2 := hid (show W2.heap[w1.heap.size]? = some (.cells #[.slice (some ⟨g1,o1,none⟩) 1 c1, .slice (some ⟨g2,o2,none⟩) 1 c2] 176) by rw [hW2]; exact heap_alloc_new w1 _)
 have hz2 := lt_of_block K2.out
 have p0 : W2.cell? ⟨w.heap.size,0,none⟩ = some (.slice (some ⟨g,o,none⟩) 1 c) := by rw [hW2]; go_simp
 have hz02 : w.heap.size < W2.heap.size := by omega
 rw [← hW2]
 clear hW2 hc_w1 hf_w1
 obtain ⟨p2, _⟩ := box_cell K2.out (j := 1) rfl
 simp at p2
 obtain ⟨A1,n1,d1,A2,n2,d2,fs,hl2,u0,u1,u2,hag⟩ := Sl.ratAt ((HS.out.below HB1.out).below HB2.out) (k := 0) rfl
 simp at u0 u1 u2
 have HAG := hid hag
 clear hag h0 h1 hc
 have HBW := hid (Below.next HB1.out HB2.out)
 refine wp_region_walk (by kernel_rfl) (by kernel_rfl) (by kernel_rfl) ?_
 iterate 8
  apply walkM_eq
  case h =>
   intro yq zq wq hC hd
   obtain ⟨hcq,hfq⟩ := bcell hC
   simp at hd
   refine ⟨by go_simp; done, ?_⟩
   go_simp
   first | (go_ints; exact rfl) | (go_ints; rw [if_pos (by omega)]; try exact rfl) | exact rfl | (rw [if_pos (by omega)]; try exact rfl)
 refine walkM_call (MP.aggS r) ?_ ?_
 ·intro yq zq wq hC hd
  obtain ⟨hcq,hfq⟩ := bcell hC
  simp at hd
  refine ⟨by go_simp; done, ?_⟩
  apply Exists.intro
  apply Exists.intro
  constructor
  ·go_simp
   exact ⟨rfl,rfl⟩
  ·exact gives_aggS (impl_entry _ r _ wq (HX.out.below (Below.next HBW.out hC)))
 refine walkM_call (MP.eq (.bool true)) ?_ ?_
 ·intro yq zq wq hC hd
  obtain ⟨hcq,hfq⟩ := bcell hC
  simp at hd
  refine ⟨by go_simp; done, ?_⟩
  apply Exists.intro
  apply Exists.intro
  constructor
  ·go_simp
   exact ⟨rfl,rfl⟩
  ·obtain ⟨t1, _,s4,t2⟩ := hd
   exact gives_eq (by have C := impl_RatEqual _ _ r r _ _ wq (HAG.out.below hC) t2; rw [decide_eq_true rfl] at C; exact C)
 apply walkM_eq
 case h =>
  intro yq zq wq hC hd
  obtain ⟨hcq,hfq⟩ := bcell hC
  simp at hd
  refine ⟨by go_simp; done, ?_⟩
  go_simp
  first | (go_ints; exact rfl) | (go_ints; rw [if_pos (by omega)]; try exact rfl) | exact rfl | (rw [if_pos (by omega)]; try exact rfl)
 intro yq zq wa hC hd hdis0
 have hdis := hid hdis0
 clear hdis0
 simp at hd
 go_simp
 have HBa := hid (Below.next HBW.out hC)
 clear hd hdis
 go_wp2_with fail
 rw [rounds_succ]
 go_wp2_with fail
 rw [rounds_succ]
 go_wp2
 go_ret
 exact ⟨rfl,HBa.out⟩
theorem impl_IsSymmetric (v : Value) (q : Option TRat) (s : List Nat) (w : World) (hx : Agg w v (mat1 q) s) (ok : Ok1 q) : Calls Tryz.prog 184 #[v] w (Gives w (.bool true)) := by
 cases q with
 | none => exact impl_IsSymmetric0 v s w hx
 | some r => exact impl_IsSymmetric1 v r s w hx ok
end Go.Proofs.YtpfipnankjeokaaGreat.X
namespace Go.Proofs.YtpfipnankjeokaaGreat.X
open Go.RowKit Go.XB Go.XN
def applyL : Option TRat → List TRat → List TRat
 | some r,x :: _ => [radd (rint 0) (rmul r x)]
 | _, _ => []
attribute [local go_sem] fillBy Go.XB.opAt deps depOf Region.wanted yielded
attribute [local simp] deps depOf MP.eq MP.agg MP.aggS MP.sl MP.slbox Facts
set_option maxHeartbeats 4000000 in
theorem impl_apply0 (v : Value) (s : List Nat) (B : Value) (w : World) (hx : Agg w v (mat1 none) s) : Calls Tryz.prog 116 #[v,B] w (GivesSl w ([] : List TRat)) := by
 obtain ⟨A,n,c,s0,rfl,rfl,h0⟩ := TMatrix.agg hx
 obtain rfl : 0 = n := by rw [← h0.1]; rfl
 clear hx h0
 go_enter Tryz.func116,Tryz.ntmps116
 go_wp2_with fail
 refine wp_loop_rounds 1 ?_
 rw [rounds_succ]
 go_wp2_with fail
 have HS := hid (show Sl ((w.alloc (.cells #[.slice A 0 c] 143)).alloc (.cells #[] 32)) (some ⟨w.heap.size + 1,0,none⟩) 0 0 ([] : List TRat) [] from ⟨rfl,Nat.le_refl _,by decide,fun _ => rfl,fun h => absurd h (by decide)⟩)
 refine (impl_ifVector _ 0 0 [] [] _ HS.out rfl).mono ?_
 rintro _ w7 ⟨rfl,hb7⟩
 have HB7 := hid hb7
 clear hb7
 go_wp2
 go_ret
 exact ⟨_,0,0, [],rfl,HS.out.below HB7.out,Own.nil _ _,Below.next (Below.next (Below.box _) (Below.box _)) HB7.out⟩
set_option maxHeartbeats 8000000 in
set_option maxRecDepth 10000 in
theorem impl_apply1 (v : Value) (r x : TRat) (s : List Nat) (B : Option Addr) (d : Nat) (ds : List Nat) (w : World) (hx : Agg w v (mat1 (some r)) s) (hu : Sl w B 1 d [x] ds) (ok : denBad (radd (rint 0) (rmul r x)) = false) :
  Calls Tryz.prog 116 #[v, .slice B 1 d] w (GivesSl w [radd (rint 0) (rmul r x)]) := by
 have OK := hid ok
 obtain ⟨g,o,c,g1,o1,c1,g2,o2,c2,s2,⟨rfl,hg,h0,h1,hg1,hc,hs⟩⟩ := at1 hx
 obtain ⟨gu,ou, _,rfl, _⟩ := hu.2.2.2.2 (by decide)
 have HS := hid hs; have HU := hid hu
 have hgl : g < w.heap.size + 1 := by omega
 have hgl2 : g < w.heap.size + 1 + 1 := by omega
 have hg1l : g1 < w.heap.size + 1 := by omega
 have hg1l2 : g1 < w.heap.size + 1 + 1 := by omega
 have hg1l3 : g1 < w.heap.size + 1 + 1 + 1 := by omega
 obtain ⟨i0,hi,hz0,hz1,hz2⟩ := info_parts infoRt
 clear hx hs hu ok
 go_enter Tryz.func116,Tryz.ntmps116
 go_wp2_with fail
 refine wp_loop_rounds 2 ?_
 rw [rounds_succ]
 obtain ⟨W1,hW1⟩ : ∃ W1,W1 = ((w.alloc (.cells #[.slice (some ⟨g,o,none⟩) 1 c] 143)).alloc (.cells #[] 32)).alloc (.cells #[.slice (some ⟨g1,o1,none⟩) 1 c1, .slice (some ⟨g2,o2,none⟩) 1 c2] 176) := ⟨_,rfl⟩
 have HW1 := hid hW1
 have HB1 := hid (show Below w.heap.size w W1 by rw [hW1]; exact allocs_below [_, _, _] w)
 have K2 := hid (show W1.heap[w.heap.size + 1 + 1]? = some (.cells #[.slice (some ⟨g1,o1,none⟩) 1 c1, .slice (some ⟨g2,o2,none⟩) 1 c2] 176) by rw [hW1]; exact allocs_heap [_, _, _] w 2 _ rfl)
 have P0 := hid (show Pend w (w.alloc (.cells #[.slice (some ⟨g,o,none⟩) 1 c] 143)) 32 W1 (w.heap.size + 1) 0 0 ([] : List TRat) by
  rw [hW1]
  have h := (Pend.start (α := TRat) (e := 32) (Below.box (w := w) (.cells #[.slice (some ⟨g,o,none⟩) 1 c] 143))).below (Below.box (.cells #[.slice (some ⟨g1,o1,none⟩) 1 c1, .slice (some ⟨g2,o2,none⟩) 1 c2] 176))
  rwa [World.size_alloc] at h)
 have hs1 : w.heap.size + 1 + 1 < W1.heap.size := lt_of_block K2.out
 clear hW1
 go_wp2_with fail
 rw [← HW1.out]
 refine (impl_RatFromInt 0 W1 (by constructor <;> decide)).mono ?_
 rintro _ wa ⟨va,sa,rfl,ha,ho,hba⟩
 obtain ⟨G1,nG1,cG1,e1,G2,nG2,cG2,e2,rfl,z15, _, _⟩ := TRat.agg ha
 obtain ⟨W2,hW2⟩ : ∃ W2,W2 = wa.alloc (.cells #[.bool (rint 0).num.neg, .slice G1 nG1 cG1, .slice G2 nG2 cG2] 32) := ⟨_,rfl⟩
 obtain ⟨g8,hg8⟩ : ∃ g8,wa.heap.size = g8 := ⟨_,rfl⟩
 have HW2 := hid hW2
 have HG8 := hid hg8
 have HB2 := hid (show Below W1.heap.size W1 W2 by rw [hW2]; exact Below.next hba (Below.box _))
 have K8 := hid (show W2.heap[g8]? = some (.cells #[.bool (rint 0).num.neg, .slice G1 nG1 cG1, .slice G2 nG2 cG2] 32) by rw [hW2, ← hg8]; exact heap_alloc_new wa _)
 have AG := hid (show Agg W2 (.agg #[.bool (rint 0).num.neg, .slice G1 nG1 cG1, .slice G2 nG2 cG2]) (rint 0) (e1 ++ e2) by rw [hW2]; exact (z15 ▸ ha).below (Below.box _))
 have hg81 : W1.heap.size ≤ g8 := by rw [← hg8]; exact hba.size
 clear ha ho hba hW2 hg8 z15
 go_upto_region 6 with fail
 rw [← HW2.out,HG8.out]
 obtain ⟨k20, _⟩ := box_cell (heap_keep' K2.out HB2.out) (j := 0) rfl
 obtain ⟨k21, _⟩ := box_cell (heap_keep' K2.out HB2.out) (j := 1) rfl
 obtain ⟨k80,k81⟩ := box_cell K8.out (j := 0) rfl
 obtain ⟨k82,k83⟩ := box_cell K8.out (j := 1) rfl
 obtain ⟨k84,k85⟩ := box_cell K8.out (j := 2) rfl
 simp at k20 k21 k80 k82 k84
 have hs2 := lt_of_block K8.out
 have q1 : W2.cell? ⟨g1,o1,none⟩ = some (.int .i64 0) := ((HB2.out.cell (p := ⟨g1,o1,none⟩) (by simp; omega)).trans (HB1.out.cell (p := ⟨g1,o1,none⟩) hg1)).trans hc
 have hg1w : g1 < W2.heap.size := by omega
 have h2w : w.heap.size + 1 + 1 < W2.heap.size := by omega
 have HBW2 := hid (Below.next HB1.out HB2.out)
 obtain ⟨A1,n1,d1,A2,n2,d2,fs,hl2,u0,u1,u2,hag⟩ := Sl.ratAt (HS.out.below HBW2.out) (k := 0) rfl
 obtain ⟨B1,m1,f1,B2,m2,f2,gs,hlu,v0,v1,v2,hbg⟩ := Sl.ratAt (HU.out.below HBW2.out) (k := 0) rfl
 simp at u0 u1 u2 v0 v1 v2
 have HAG := hid hag; have HBG := hid hbg
 clear hag hbg h0 h1 hc hgl hgl2 hg1l hg1l2 hg1l3 hg
 go_wp2_with fail
 refine wp_loop_rounds 2 ?_
 rw [rounds_succ]
 go_wp2_with fail
 refine wp_region_last (by simp) (by kernel_rfl) (by kernel_rfl) (by kernel_rfl) (by kernel_rfl) ?_
 dsimp only [List.dropLast,List.getLast,List.length]
 iterate 10
  apply walkM_eq
  case h =>
   intro yq zq wq hC hd
   obtain ⟨hcq,hfq⟩ := bcell hC
   simp at hd
   refine ⟨by go_simp; done, ?_⟩
   go_simp
   first | (go_ints; exact rfl) | (go_ints; rw [if_pos (by omega)]; try exact rfl) | exact rfl | (rw [if_pos (by omega)]; try exact rfl)
 refine walkM_call (MP.agg (rmul r x)) ?_ ?_
 ·intro yq zq wq hC hd
  obtain ⟨hcq,hfq⟩ := bcell hC
  simp at hd
  refine ⟨by go_simp; done, ?_⟩
  apply Exists.intro
  apply Exists.intro
  constructor
  ·go_simp
   exact ⟨rfl,rfl⟩
  ·exact gives_agg (impl_RatMul _ _ r x _ _ wq (HAG.out.below hC) (HBG.out.below hC))
 refine walkM_call (MP.agg (radd (rint 0) (rmul r x))) ?_ ?_
 ·intro yq zq wq hC hd
  obtain ⟨hcq,hfq⟩ := bcell hC
  simp at hd
  refine ⟨by go_simp; done, ?_⟩
  apply Exists.intro
  apply Exists.intro
  constructor
  ·go_simp
   exact ⟨rfl,rfl⟩
  ·obtain ⟨_,t2, _⟩ := hd
   exact gives_agg (impl_RatAdd _ _ (rint 0) (rmul r x) _ _ wq (AG.out.below hC) t2)
 intro yq zq wb hC hd hdis0
 have hdis := hid hdis0
 clear hdis0
 simp at hd
 have q11 := hd.2.2.2.2.2.2.2.2.2.2.2
 obtain ⟨⟨ha9,hf9⟩,hr9⟩ := q11
 obtain ⟨y,hy⟩ : ∃ y,radd (rint 0) (rmul r x) = y := ⟨_,rfl⟩
 rw [hy] at ha9
 obtain ⟨V1,nV1,cV1,v1',V2,nV2,cV2,v2',e9,hz9, _, _⟩ := TRat.agg ha9
 rw [e9] at ha9
 obtain ⟨W3,hW3⟩ : ∃ W3,W3 = (((wb.setCell ⟨g8,0,none⟩ (.bool y.num.neg)).setCell ⟨g8,1,none⟩ (.slice V1 nV1 cV1)).setCell ⟨g8,2,none⟩ (.slice V2 nV2 cV2)) := ⟨_,rfl⟩
 have HW3 := hid hW3
 have hgn : g8 ∉ zq 11 := fun h => by have := (hr9 _ h).1; omega
 have hsb := hC.size
 have hgb8 : g8 < wb.heap.size := by omega
 have HB3 := hid (show Below W1.heap.size W1 W3 by
  rw [hW3]
  exact (((Below.next HB2.out hC).setCell (p := ⟨g8,0,none⟩) hg81 _).setCell (p := ⟨g8,1,none⟩) hg81 _).setCell (p := ⟨g8,2,none⟩) hg81 _)
 have AG3 := hid (show Agg W3 (.agg #[.bool y.num.neg, .slice V1 nV1 cV1, .slice V2 nV2 cV2]) y (zq 11) by
  rw [hW3]; exact ha9.keep (fun b hb => heap_set3 b (fun e => hgn (e ▸ hb))))
 have FR3 := hid (show Free W3 (zq 11) from ⟨hf9.1,fun b hb => by
  obtain ⟨cs,t,e⟩ := hf9.2 b hb
  exact ⟨cs,t,by rw [hW3]; exact (heap_set3 (g := g8) b (fun e' => hgn (e' ▸ hb))).trans e⟩⟩)
 have NE3 := hid (show ∀ b ∈ zq 11,W1.heap.size ≤ b from fun b hb => by have := (hr9 b hb).1; have := HB2.out.size; omega)
 have K83 := hid (show W3.heap[g8]? = some (.cells #[.bool y.num.neg, .slice V1 nV1 cV1, .slice V2 nV2 cV2] 32) by
  rw [hW3]; exact heap_setSelf (heap_setSelf (heap_setSelf (heap_keep' K8.out hC))))
 have w80 := (hC.cell (p := ⟨g8,0,none⟩) hs2).trans k80
 have w82 := (hC.cell (p := ⟨g8,1,none⟩) hs2).trans k82
 have w84 := (hC.cell (p := ⟨g8,2,none⟩) hs2).trans k84
 have w81 := (hC.frozen (p := ⟨g8,0,none⟩) hs2).trans k81
 have w83 := (hC.frozen (p := ⟨g8,1,none⟩) hs2).trans k83
 have w85 := (hC.frozen (p := ⟨g8,2,none⟩) hs2).trans k85
 have HYY := hid hy
 generalize zq 11 = z9 at *
 clear hd hdis ha9 hf9 hr9 hz9 hC hW3 hgn hy
 go_upto_region 10 with fail
 rw [HYY.out, ← HW3.out]
 clear w80 w81 w82 w83 w84 w85 k80 k81 k82 k83 k84 k85 k20 k21 u0 u1 u2 v0 v1 v2 q1 hg1w h2w hs2 hsb hgb8 hg1 hl2 hlu
 obtain ⟨y80, _⟩ := box_cell K83.out (j := 0) rfl
 obtain ⟨y81, _⟩ := box_cell K83.out (j := 1) rfl
 obtain ⟨y82, _⟩ := box_cell K83.out (j := 2) rfl
 simp at y80 y81 y82
 have AT := hid (rat_dat (AG3.out.below (Below.box (.cells #[.bool y.num.neg, .slice V1 nV1 cV1, .slice V2 nV2 cV2] 32))))
 have HF := hid (FR3.out.below (Below.box (w := W3) (.cells #[.bool y.num.neg, .slice V1 nV1 cV1, .slice V2 nV2 cV2] 32)))
 have C3 := hid (show 0 + 1 ≤ maxLen by decide)
 have C4 := hid (show (0 + 1) * 56 ≤ 140737488355328 by decide)
 go_wp2_with fail
 rw [rounds_succ]
 go_wp2_with (at_builtin; refine wpList_pend rfl _ _ 36 rfl 32 i0 (.agg #[.bool false, .slice none 0 0, .slice none 0 0]) 56 Tryz.underlying36 hi hz0 hz1 hz2 rfl P0.out (Below.next HB3.out (Below.box _)) (by go_simp; done) ⟨W3.heap.size,0,none⟩ 1 [.bool y.num.neg, .slice V1 nV1 cV1, .slice V2 nV2 cV2] y z9 (by go_simp; done) (block_cells (heap_alloc_new W3 _)) AT.out HF.out NE3.out C3.out C4.out ?_; intro g' cap' w8 hp' hgrow' hor')
 have HP8 := hid (show Pend w (w.alloc (.cells #[.slice (some ⟨g,o,none⟩) 1 c] 143)) 32 w8 g' 1 cap' [y] from hp')
 clear hp' hgrow' hor' AT HF NE3 P0
 rw [rounds_succ]
 go_wp2_with fail
 obtain ⟨A9,n9,c9,b9,e,hs9,ho9,hb9⟩ := HP8.out.done
 injection e with e
 injection e with ea en ec
 subst ea; subst en; subst ec
 have HS9 := hid hs9; have HO9 := hid ho9; have HB9 := hid hb9
 clear hs9 ho9 hb9
 refine (impl_ifVector _ 1 cap' [y] b9 w8 HS9.out (by have := OK.out; rw [HYY.out] at this; simp [this])).mono ?_
 rintro _ w9 ⟨rfl,hb9⟩
 have HBX := hid hb9
 clear hb9
 go_wp2
 go_ret
 rw [HYY.out]
 exact ⟨_,1,cap',b9,rfl,HS9.out.below HBX.out,HO9.out.below HBX.out,Below.next HB9.out HBX.out⟩
theorem impl_apply (v : Value) (q : Option TRat) (xs : List TRat) (s : List Nat) (B : Option Addr) (n d : Nat) (ds : List Nat) (w : World) (hx : Agg w v (mat1 q) s) (hu : Sl w B n d xs ds) (hn : n = len1 q) (ok : (applyL q xs).any denBad = false) :
  Calls Tryz.prog 116 #[v, .slice B n d] w (GivesSl w (applyL q xs)) := by
 cases q with
 | none => exact impl_apply0 v s _ w hx
 | some r =>
  obtain rfl : n = 1 := hn
  obtain ⟨x,rfl⟩ : ∃ x,xs = [x] := by
   have := hu.1
   match xs,this with
   | [x], _ => exact ⟨x,rfl⟩
  exact impl_apply1 v r x s B d ds w hx hu (by simpa [applyL] using ok)
end Go.Proofs.YtpfipnankjeokaaGreat.X
