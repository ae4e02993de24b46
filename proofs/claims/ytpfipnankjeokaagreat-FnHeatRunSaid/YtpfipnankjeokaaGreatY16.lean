/- Part of a claim's proof: texts of this repository's wip,joined by prune.py,without the theorems that the claim does not reach. -/
import Derived.Test.YtpfipnankjeokaaGreatY11
import Derived.Laws.CopyRow
import Derived.Laws.CopyOwn
import Derived.Lib.AppendZeros
import Derived.Lib.Overlaps
import Derived.Lib.Walk
import Derived.Lib.SliceRun
import Derived.Laws.Externs
import Derived.Laws.IdiomCopy
import Derived.Shelf.RegionOpenPlain
import Derived.Shelf.Spec.SlicesInsertGrow
import Derived.Test.YtpfipnankjeokaaGreatY8
import Derived.Test.YtpfipnankjeokaaGreatY12
set_option linter.constructorNameAsVariable false
namespace Go
section
variable {P : Program}
theorem run_copy_row_k (w : World) (dT sT ty elem : TypeId) (k g o dLen dCap : Nat) (a : Addr) (sLen sCap : Nat) (cur : Array Value) (t : TypeId) (cs : List Value)
  (hu : P.underlying dT = some (.slice elem)) (hs : (P.info? elem).map (·.size) = some k)
  (hg : w.heap[g]? = some (.cells cur t (0,0))) (hn : cs.length = Nat.min sLen dLen * k)
  (hsrc : ∀ j v,cs[j]? = some v → w.cell? (a.add j) = some v) (hfit : o + cs.length ≤ cur.size) (h1 : ∀ v ∈ cs,v.oneCell' = true) :
  (Builtin.copy_ #[dT,sT] ty #[.slice (some ⟨g,o,none⟩) dLen dCap, .slice (some a) sLen sCap]).run P w =
   .ok (goInt (Nat.min sLen dLen)) (w.setRow g (cur.toList.take o ++ cs ++ cur.toList.drop (o + cs.length)).toArray) := by
 have hl := run_loadCells_list (P := P) w a cs hsrc
 have hst := run_storeCells_at P g o t cs 0 cur w hg (by simpa using hfit) h1
 cases hq : P.info? elem with
 | none => simp [hq] at hs
 | some i =>
  have hi : i.size = k := by simpa [hq] using hs
  simp [Builtin.copy_,run_underlying hu,Builtin.lenOf,Builtin.firstCells,sizeOf,typeInfo,hq,hi, ← hn,hl,hst]
end
def lput (l : List Value) (o : Nat) (cs : List Value) : List Value := l.take o ++ cs ++ l.drop (o + cs.length)
theorem lput_length {l cs : List Value} {o : Nat} (h : o + cs.length ≤ l.length) : (lput l o cs).length = l.length := by
 unfold lput; simp; omega
theorem lput_two {l xs ys : List Value} {a : Nat} (h : a + xs.length + ys.length ≤ l.length) : (lput (lput l a xs) (a + xs.length) ys).take (a + xs.length + ys.length) = l.take a ++ xs ++ ys := by
 have ha : (l.take a).length = a := by simp; omega
 have h1 : (lput l a xs).take (a + xs.length) = l.take a ++ xs := by
  unfold lput
  rw [List.take_append_of_le_length (by simp; omega)]
  rw [List.take_of_length_le (by simp; omega)]
 unfold lput at h1 ⊢
 rw [h1,List.take_append_of_le_length (by simp; omega)]
 rw [List.take_of_length_le (by simp; omega)]
theorem lput_back {l xs ys : List Value} {a : Nat} (h : a + xs.length + ys.length ≤ l.length) : (lput (lput l (a + xs.length) ys) a xs).take (a + xs.length + ys.length) = l.take a ++ xs ++ ys := by
 have h1 : (lput l (a + xs.length) ys).take a = l.take a := by
  unfold lput
  rw [List.append_assoc,List.take_append_of_le_length (by simp; omega),List.take_take]
  congr 1; omega
 have h2 : (lput l (a + xs.length) ys).drop (a + xs.length) = ys ++ l.drop (a + xs.length + ys.length) := by
  unfold lput
  rw [List.append_assoc,List.drop_append_of_le_length (by simp; omega),List.drop_take]
  simp
 show (List.take a (lput l (a + xs.length) ys) ++ xs ++ List.drop (a + xs.length) (lput l (a + xs.length) ys)).take _ = _
 rw [h1,h2, ← List.append_assoc]
 rw [List.take_append_of_le_length (by simp; omega)]
 rw [List.take_of_length_le (by simp; omega)]
theorem grownBy_setRow (w : World) (g : Nat) (cs : Array Value) : w.grownBy (w.setRow g cs) (some g) :=
 ⟨rfl,rfl,rfl,by simp,fun k _ hk => setRow_other w g k cs (fun e => hk (by rw [e]))⟩
end Go
namespace Go.Proofs.YtpfipnankjeokaaGreat.X
open Go.RowKit Go.XB Go.XN Go.Lib Go.Shelf
attribute [local go_sem] fillBy opAt deps depOf Region.wanted yielded
attribute [local simp] deps depOf MP.eq MP.agg MP.sl Facts
theorem infoEd : (Tryz.prog.info? 71).map (fun i => (i.zero,i.size,i.bytes)) = some (some (.agg #[.int .i64 0, .int .i64 0, .int .i64 0, .int .i64 0]),4,32) := by kernel_rfl

def Inserted (w : World) (base g n i : Nat) (cells xs : List Value) (e : Ending) (w' : World) : Prop :=
 ∃ g' cap',e = .returned (.slice (some ⟨g',0,none⟩) (n + 1) cap') ∧ w'.ownsRow base 71 4 (.slice (some ⟨g',0,none⟩) (n + 1) cap') (n + 1) (cells.take (i * 4) ++ xs ++ cells.drop (i * 4)) ∧ w.grownBy w' (some g) ∧ (g' = g ∨ w.heap.size ≤ g')

set_option maxHeartbeats 2000000 in
set_option maxRecDepth 100000 in
theorem insert_end (base g n cap vb : Nat) (cells xs : List Value) (w : World) (h : w.ownsRow base 71 4 (.slice (some ⟨g,0,none⟩) n cap) n cells) (hb : base ≤ w.heap.size) (hn : n ≤ 65536)
  (hv : w.heap[vb]? = some (.cells xs.toArray 71)) (hx : xs.length = 4) (h1 : ∀ v ∈ xs,v.oneCell' = true) :
  Calls Tryz.prog 83 #[.slice (some ⟨g,0,none⟩) n cap, .int .i64 n, .slice (some ⟨vb,0,none⟩) 1 1] w (Inserted w base g n n cells xs) := by
 obtain ⟨i0,hi,hz0,hz1,hz2⟩ := info_parts infoEd
 have hcl : cells.length = n * 4 := h.1
 have hnc : n ≤ cap ∧ cap ≤ maxLen := by
  rcases h.2 with ⟨h', _⟩ | ⟨g',cap',cur,hvv, _, _,h3,h4, _⟩
  ·cases h'
  ·cases hvv; exact ⟨h3,h4⟩
 have hm := hnc.2
 unfold maxLen at hm
 have hcap : (n : Int) ≤ cap := by omega
 have hn64 : (n : Int) ≤ 65536 := by omega
 have hnews := block_cells hv
 have H := hid h
 have HN := hid hnc
 clear h hnc
 go_enter Tryz.func83,Tryz.ntmps83
 go_wp2_with (at_builtin; refine wpList_push rfl _ _ 68 rfl base 71 i0 _ 4 32 Tryz.underlying68 hi hz0 hz1 hz2 rfl (by decide) g n cap cells rfl H.out ⟨vb,0,none⟩ 1 1 xs rfl (by rw [hx]) hnews h1 (by unfold maxLen; omega) (by omega) hb ?_; intro g' cap' w' hown' hgrow hor)
 all_goals
  refine bodyPost_ret (results_tmp rfl _ _ _) rfl ?_
  refine ⟨g',cap',rfl, ?_,hgrow,hor.imp id (fun e => by omega)⟩
  rw [List.take_of_length_le (by omega),List.drop_eq_nil_of_le (by omega),List.append_nil]
  exact hown'

theorem run_copy_eq {P : Program} {w : World} {k g o dLen dCap sLen sCap : Nat} {a : Addr} {T E ty : TypeId} {cur : Array Value} {cs : List Value} (hu : P.underlying T = some (.slice E)) (hs : (P.info? E).map (·.size) = some k)
  (hg : w.heap[g]? = some (.cells cur E (0,0))) (hn : cs.length = Nat.min sLen dLen * k) (hsrc : ∀ j v,cs[j]? = some v → w.cell? (a.add j) = some v) (hfit : o + cs.length ≤ cur.size) (h1 : ∀ v ∈ cs,v.oneCell' = true) :
  (Builtin.copy_ #[T,T] ty #[.slice (some ⟨g,o,none⟩) dLen dCap, .slice (some a) sLen sCap]).run P w = .ok (goInt (Nat.min sLen dLen)) (w.setRow g (lput cur.toList o cs).toArray) :=
 run_copy_row_k w T T ty E k g o dLen dCap a sLen sCap cur E cs hu hs hg hn hsrc hfit h1
theorem row_cells {w : World} {g : Nat} {cur : Array Value} {t : TypeId} (hg : w.heap[g]? = some (.cells cur t (0,0))) (o : Nat) : ∀ j v,(cur.toList.drop o)[j]? = some v → w.cell? ((⟨g,o,none⟩ : Addr).add j) = some v := by
 intro j v hv
 have e : (⟨g,o,none⟩ : Addr).add j = ⟨g,o + j,none⟩ := by unfold Addr.add; split <;> simp_all
 rw [e]
 have : cur[o + j]? = some v := by simpa using hv
 simp [World.cell?,hg,this]

set_option maxHeartbeats 4000000 in
set_option maxRecDepth 100000 in
theorem insert_shift (base g n cap vb i : Nat) (cells xs : List Value) (w : World) (h : w.ownsRow base 71 4 (.slice (some ⟨g,0,none⟩) n cap) n cells) (hn : n ≤ 65536) (hi : i < n) (hroom : n + 1 ≤ cap)
  (hv : w.heap[vb]? = some (.cells xs.toArray 71)) (hx : xs.length = 4) (h1 : ∀ v ∈ xs,v.oneCell' = true) (h2 : ∀ v ∈ cells,v.oneCell' = true) (hvg : vb ≠ g) :
  Calls Tryz.prog 83 #[.slice (some ⟨g,0,none⟩) n cap, .int .i64 i, .slice (some ⟨vb,0,none⟩) 1 1] w (Inserted w base g n i cells xs) := by
 obtain ⟨i0,hii,hz0,hz1,hz2⟩ := info_parts infoEd
 have hcl : cells.length = n * 4 := h.1
 obtain ⟨cur,hbg,hg,hnc,hcm,hcs,htk⟩ : ∃ cur,base ≤ g ∧ w.heap[g]? = some (.cells cur 71 (0,0)) ∧ n ≤ cap ∧ cap ≤ maxLen ∧ cur.size = cap * 4 ∧ cur.toList.take (n * 4) = cells := by
  rcases h.2 with ⟨h', _⟩ | ⟨g',cap',cur,hvv,k1,k2,k3,k4,k5,k6⟩
  ·cases h'
  ·cases hvv; exact ⟨cur,k1,k2,k3,k4,k5,k6⟩
 have hm := hcm
 unfold maxLen at hm
 have hsz : (Tryz.prog.info? 71).map (·.size) = some 4 := by rw [hii]; simp [hz1]
 have hcurl : cur.toList.length = cap * 4 := by simp [hcs]
 obtain ⟨c1,hc1⟩ : ∃ c1,c1 = lput cur.toList ((i + 1) * 4) (cells.drop (i * 4)) := ⟨_,rfl⟩
 have hdl : (cells.drop (i * 4)).length = (n - i) * 4 := by rw [List.length_drop,hcl, ← Nat.sub_mul]
 have hc1l : c1.length = cap * 4 := by rw [hc1,lput_length (by rw [hdl,hcurl]; omega),hcurl]
 have hdrop : ∀ (j : Nat) (v : Value),(cells.drop (i * 4))[j]? = some v → (cur.toList.drop (i * 4))[j]? = some v := by
  intro j v hj
  rw [← htk,List.drop_take,List.getElem?_take] at hj
  split at hj
  ·exact hj
  ·cases hj
 have hcp1 : ∀ (W : World),W.heap[g]? = some (.cells cur 71 (0,0)) → ∀ ty dc sc,(Builtin.copy_ #[68,68] ty #[.slice (some ⟨g,(i + 1) * 4,none⟩) (n + 1 - (i + 1)) dc, .slice (some ⟨g,i * 4,none⟩) (n + 1 - i) sc]).run Tryz.prog W = .ok (goInt (n - i : Nat)) (W.setRow g c1.toArray) := fun W hW ty dc sc => by
  have e : Nat.min (n + 1 - i) (n + 1 - (i + 1)) = n - i := by simp only [Nat.min_def]; split <;> omega
  have := run_copy_eq (P := Tryz.prog) (w := W) (k := 4) (g := g) (o := (i + 1) * 4) (dLen := n + 1 - (i + 1)) (dCap := dc) (sLen := n + 1 - i) (sCap := sc) (a := ⟨g,i * 4,none⟩) (ty := ty) Tryz.underlying68 hsz hW (cs := cells.drop (i * 4)) (by rw [e]; exact hdl)
   (fun j v hj => row_cells hW _ j v (hdrop j v hj)) (by rw [hdl,hcs]; omega) (fun v hv => h2 v (List.mem_of_mem_drop hv))
  rw [e] at this
  rw [hc1]; exact this
 have hcp2 : ∀ (W : World),W.heap[g]? = some (.cells c1.toArray 71 (0,0)) → W.heap[vb]? = some (.cells xs.toArray 71) → ∀ ty dc sc,(Builtin.copy_ #[68,68] ty #[.slice (some ⟨g,i * 4,none⟩) (n + 1 - i) dc, .slice (some ⟨vb,0,none⟩) 1 sc]).run Tryz.prog W = .ok (goInt (1 : Nat)) (W.setRow g (lput c1 (i * 4) xs).toArray) := fun W hgW hvW ty dc sc => by
  have e : Nat.min 1 (n + 1 - i) = 1 := by simp only [Nat.min_def]; split <;> omega
  have := run_copy_eq (P := Tryz.prog) (w := W) (k := 4) (g := g) (o := i * 4) (dLen := n + 1 - i) (dCap := dc) (sLen := 1) (sCap := sc) (a := ⟨vb,0,none⟩) (ty := ty) Tryz.underlying68 hsz hgW (cs := xs) (by rw [e]; omega)
   (block_cells hvW) (by rw [hx]; show _ ≤ c1.length; rw [hc1l]; omega) h1
  rw [e] at this
  simpa using this
 have hov : ∀ lb cb,(callFunc 131 #[.slice (some ⟨vb,0,none⟩) 1 1, .slice (some ⟨g,(i + 1) * 4,none⟩) lb cb]).run Tryz.prog w = .ok (.value (.bool false)) w := fun lb cb => by
  rw [run_callFunc_extern Tryz.func131 (by kernel_rfl) (by kernel_rfl) (by kernel_rfl) (e := Extern.SlicesOverlaps.overlaps #[68,68] #[4]) (by kernel_rfl),
   Lib.run_overlaps_apart w 68 4 71 Tryz.underlying68 4 Tryz.sizeOf71 ⟨vb,0,none⟩ ⟨g,(i + 1) * 4,none⟩ 1 1 lb cb hvg 71 71 4 (cap * 4) (by simp [World.shape?,hv,hx]) (by simp [World.shape?,hg,hcs]) (by omega) (by simp [World.frozen?,hv]) (by simp [World.frozen?,hv])]
  rfl
 have hb2 : ¬ (cap = i + 1) := by omega
 have hb4 : ¬ (cap = i) := by omega
 have hcap : (n : Int) + 1 ≤ cap := by omega
 have hin : (i : Int) < n := by omega
 have hn64 : (n : Int) ≤ 65536 := by omega
 have HC1 := hid hc1; have HTK := hid htk; have HCS := hid hcs
 clear h hnc htk hcs hc1
 go_enter Tryz.func83,Tryz.ntmps83
 go_wp2_with fail
 refine wp_region_last (by simp) (by kernel_rfl) (by kernel_rfl) (by kernel_rfl) (by kernel_rfl) ?_
 dsimp only [List.dropLast,List.getLast,List.length]
 iterate 8
  apply walkM_eq
  case h =>
   intro yq zq wq hC hd
   obtain ⟨hcq,hfq⟩ := bcell hC
   simp at hd
   refine ⟨by go_simp; done, ?_⟩
   go_simp
   first | (go_ints; exact rfl) | (go_ints; rw [if_pos (by omega)]; try exact rfl) | exact rfl | (rw [if_pos (by omega)]; try exact rfl)
 intro yq zq wa hC hd hdis0
 have hdis := hid hdis0
 clear hdis0
 simp at hd
 have hga : wa.heap[g]? = some (.cells cur 71 (0,0)) := by rw [hC.block g (lt_of_get hg)]; exact hg
 have hva : wa.heap[vb]? = some (.cells xs.toArray 71) := by rw [hC.block vb (lt_of_get hv)]; exact hv
 have hgs : (wa.setRow g c1.toArray).heap[g]? = some (.cells c1.toArray 71 (0,0)) := setRow_heap wa g cur _ _ _ hga
 have hvs : (wa.setRow g c1.toArray).heap[vb]? = some (.cells xs.toArray 71) := by rw [setRow_other wa g vb _ hvg]; exact hva
 have hr1 := fun ty dc sc => hcp1 wa hga ty dc sc
 rw [show n + 1 - (i + 1) = n - i by omega] at hr1
 have hr2 := fun ty dc sc => hcp2 _ hgs hvs ty dc sc
 have HGS := hid hgs; have HVA := hid hva
 clear hga hva hov hcp1 hcp2 hgs hvs
 go_simp
 clear hd hdis
 go_wp2
 refine bodyPost_ret (results_tmp rfl _ _ _) rfl ?_
 have hc2l : (lput c1 (i * 4) xs).length = cap * 4 := by rw [lput_length (by rw [hc1l,hx]; omega),hc1l]
 refine ⟨g,cap,rfl,⟨?_, .inr ⟨g,cap,(lput c1 (i * 4) xs).toArray,rfl,hbg,setRow_heap _ g _ _ _ _ HGS.out,hroom,hcm,by simpa using hc2l, ?_⟩⟩, ?_, .inl rfl⟩
 ·simp only [List.length_append,List.length_take,List.length_drop]; omega
 ·have h5 := lput_back (l := cur.toList) (xs := xs) (ys := cells.drop (i * 4)) (a := i * 4) (by rw [hdl,hx,hcurl]; omega)
  rw [hx,hdl] at h5
  rw [show i * 4 + 4 = (i + 1) * 4 by omega, ← HC1.out,show (i + 1) * 4 + (n - i) * 4 = (n + 1) * 4 by omega] at h5
  rw [h5, ← HTK.out,List.take_take,Nat.min_eq_left (by omega)]
 ·exact (World.grownBy.trans ⟨hC.os,hC.tape,hC.output,hC.size,fun k hk _ => hC.block k hk⟩ (grownBy_setRow wa g _)).trans (grownBy_setRow _ g _)

set_option maxHeartbeats 4000000 in
set_option maxRecDepth 100000 in
theorem insert_grow (base g n cap vb i : Nat) (cells xs : List Value) (w : World) (h : w.ownsRow base 71 4 (.slice (some ⟨g,0,none⟩) n cap) n cells) (hb : base ≤ w.heap.size) (hn : n ≤ 65536) (hi : i < n) (hroom : cap < n + 1)
  (hv : w.heap[vb]? = some (.cells xs.toArray 71)) (hx : xs.length = 4) (h1 : ∀ v ∈ xs,v.oneCell' = true) (h2 : ∀ v ∈ cells,v.oneCell' = true) :
  Calls Tryz.prog 83 #[.slice (some ⟨g,0,none⟩) n cap, .int .i64 i, .slice (some ⟨vb,0,none⟩) 1 1] w (Inserted w base g n i cells xs) := by
 obtain ⟨i0,hii,hz0,hz1,hz2⟩ := info_parts infoEd
 have hcl : cells.length = n * 4 := h.1
 obtain ⟨cur,hbg,hg,hnc,hcm,hcs,htk⟩ : ∃ cur,base ≤ g ∧ w.heap[g]? = some (.cells cur 71 (0,0)) ∧ n ≤ cap ∧ cap ≤ maxLen ∧ cur.size = cap * 4 ∧ cur.toList.take (n * 4) = cells := by
  rcases h.2 with ⟨h', _⟩ | ⟨g',cap',cur,hvv,k1,k2,k3,k4,k5,k6⟩
  ·cases h'
  ·cases hvv; exact ⟨cur,k1,k2,k3,k4,k5,k6⟩
 have hm := hcm
 unfold maxLen at hm
 have hsz : (Tryz.prog.info? 71).map (·.size) = some 4 := by rw [hii]; simp [hz1]
 have hcurl : cur.toList.length = cap * 4 := by simp [hcs]
 have hcells : ∀ j v,cells[j]? = some v → w.cell? ((⟨g,0,none⟩ : Addr).add j) = some v := h.cells (g := g) rfl
 have hold : (Builtin.firstCells i0.size i (.slice (some ⟨g,0,none⟩) i cap)).run Tryz.prog w.drew = .ok (cells.take (i * 4)).toArray w.drew := by
  rw [hz1]
  exact run_firstCells_some w.drew 4 i ⟨g,0,none⟩ i cap (cells.take (i * 4)) (by rw [List.length_take]; omega) (fun j v hj => by
   rw [List.getElem?_take] at hj
   split at hj
   ·exact hcells j v hj
   ·cases hj)
 have hcast : (n : Int) + 1 - (i : Int) = ((n + 1 - i : Nat) : Int) := by omega
 have hik : i + (n + 1 - i) = n + 1 := by omega
 obtain ⟨G,hG⟩ : ∃ G,G = grownCap w (n + 1) cap 71 := ⟨_,rfl⟩
 obtain ⟨ROW,hROW⟩ : ∃ ROW : Array Value,ROW = (cells.take (i * 4)).toArray ++ Builtin.zeroCells (Value.agg #[.int .i64 0, .int .i64 0, .int .i64 0, .int .i64 0]).cells (n + 1 - i) ++ Builtin.zeroCells (Value.agg #[.int .i64 0, .int .i64 0, .int .i64 0, .int .i64 0]).cells (G - (n + 1)) := ⟨_,rfl⟩
 have hrz : ∀ ty,(Builtin.append_ #[68,3] ty #[.slice (some ⟨g,0,none⟩) i cap, .int .i64 ((n : Int) + 1 - (i : Int))]).run Tryz.prog w =
   .ok (.slice (some ⟨w.heap.size,0,none⟩) (n + 1) G) (w.drew.alloc (.cells ROW 71)) := fun ty => by
  have h := Lib.run_append_grow_zeros w 68 3 ty 71 i0 _ .i64 .i64 Tryz.underlying68 Tryz.underlying3 hii hz0 (some ⟨g,0,none⟩) i cap (cells.take (i * 4)) hold (n + 1 - i) (by omega) (by rw [hz1]; decide) (by omega) (by omega) (by rw [hz2]; omega) (by rw [hz2,hik]; exact growslice_fits hroom (by omega))
  rw [hik] at h
  rw [hcast,hROW,hG]
  exact h
 have hGn : n + 1 ≤ G := by rw [hG]; exact grownCap_ge w _ _ _
 have hG63 : G ≤ maxLen := by rw [hG]; exact grownCap_le_maxLen w (n + 1) cap _ (by unfold maxLen; omega)
 have hROWl : ROW.toList.length = G * 4 := by
  rw [hROW]
  simp [Builtin.zeroCells,Value.cells]
  omega
 have hRt : ROW.toList.take (i * 4) = cells.take (i * 4) := by
  rw [hROW]
  rw [Array.append_assoc,Array.toList_append,List.take_append_of_le_length (by simp; omega)]
  rw [show ((cells.take (i * 4)).toArray).toList = cells.take (i * 4) from rfl,List.take_take,Nat.min_self]
 obtain ⟨W1,hW1⟩ : ∃ W1,W1 = w.drew.alloc (.cells ROW 71) := ⟨_,rfl⟩
 have hgl : g < w.heap.size := lt_of_get hg
 have hvl : vb < w.heap.size := lt_of_get hv
 have hW1n : W1.heap[w.heap.size]? = some (.cells ROW 71 (0,0)) := by rw [hW1]; exact heap_alloc_new w.drew _
 have hW1o : ∀ k,k < w.heap.size → W1.heap[k]? = w.heap[k]? := fun k hk => by rw [hW1]; exact Below.heap_alloc w.drew _ k hk
 have hW1B : Below w.heap.size w W1 := by rw [hW1]; exact ⟨rfl,rfl,rfl,by simp,fun k hk => Below.heap_alloc w.drew _ k hk⟩
 obtain ⟨c1,hc1⟩ : ∃ c1,c1 = lput ROW.toList (i * 4) xs := ⟨_,rfl⟩
 have hc1l : c1.length = G * 4 := by rw [hc1,lput_length (by rw [hx,hROWl]; omega),hROWl]
 have hdl : (cells.drop (i * 4)).length = (n - i) * 4 := by rw [List.length_drop,hcl, ← Nat.sub_mul]
 have hcpA : ∀ (W : World),W.heap = W1.heap → ∀ ty dc sc,(Builtin.copy_ #[68,68] ty #[.slice (some ⟨w.heap.size,i * 4,none⟩) (n + 1 - i) dc, .slice (some ⟨vb,0,none⟩) 1 sc]).run Tryz.prog W = .ok (goInt (1 : Nat)) (W.setRow w.heap.size c1.toArray) := fun W hW ty dc sc => by
  have e : Nat.min 1 (n + 1 - i) = 1 := by simp only [Nat.min_def]; split <;> omega
  have hvW : W.heap[vb]? = some (.cells xs.toArray 71) := by rw [hW,hW1o vb hvl]; exact hv
  have := run_copy_eq (P := Tryz.prog) (w := W) (k := 4) (g := w.heap.size) (o := i * 4) (dLen := n + 1 - i) (dCap := dc) (sLen := 1) (sCap := sc) (a := ⟨vb,0,none⟩) (ty := ty) Tryz.underlying68 hsz (by rw [hW]; exact hW1n) (cs := xs) (by rw [e]; omega)
   (block_cells hvW) (by rw [hx, ← Array.length_toList,hROWl]; omega) h1
  rw [e] at this
  rw [hc1]; exact this
 have hcpB : ∀ (W : World),W.heap[w.heap.size]? = some (.cells c1.toArray 71 (0,0)) → W.heap[g]? = some (.cells cur 71 (0,0)) → ∀ ty dc sc,(Builtin.copy_ #[68,68] ty #[.slice (some ⟨w.heap.size,(i + 1) * 4,none⟩) (n - i) dc, .slice (some ⟨g,i * 4,none⟩) (n - i) sc]).run Tryz.prog W = .ok (goInt (n - i : Nat)) (W.setRow w.heap.size (lput c1 ((i + 1) * 4) (cells.drop (i * 4))).toArray) := fun W hW hgW ty dc sc => by
  have e : Nat.min (n - i) (n - i) = n - i := by simp
  have := run_copy_eq (P := Tryz.prog) (w := W) (k := 4) (g := w.heap.size) (o := (i + 1) * 4) (dLen := n - i) (dCap := dc) (sLen := n - i) (sCap := sc) (a := ⟨g,i * 4,none⟩) (ty := ty) Tryz.underlying68 hsz hW (cs := cells.drop (i * 4)) (by rw [e]; exact hdl)
   (fun j v hj => row_cells hgW _ j v (by
    rw [← htk,List.drop_take,List.getElem?_take] at hj
    split at hj
    ·exact hj
    ·cases hj)) (by rw [hdl]; show _ ≤ c1.length; rw [hc1l]; omega) (fun v hv => h2 v (List.mem_of_mem_drop hv))
  rw [e] at this
  simpa using this
 have hin : (i : Int) < n := by omega
 have hn64 : (n : Int) ≤ 65536 := by omega
 have hcapn : (cap : Int) < (n : Int) + 1 := by omega
 have hcap0 : (n : Int) ≤ cap := by omega
 have hGi : ¬ (G = i) := by omega
 have hGi1 : ¬ (G = i + 1) := by omega
 have hci : ¬ (cap = i) := by omega
 have hG64 : (G : Int) ≤ 9223372036854775807 := by unfold maxLen at hG63; omega
 have hGnI : (n : Int) + 1 ≤ G := by omega
 have HC1 := hid hc1; have HTK := hid htk; have HROWT := hid hRt
 subst hW1
 have HW1n := hid hW1n; have HW1o := hid hW1o; have HW1B := hid hW1B
 clear hW1n hW1o hW1B
 have HRZ := hid hrz; have HCA := hid hcpA
 clear hcast hik hold hROW hG hcells hc1 htk hRt hcs hrz hcpA
 have hA := fun ty dc sc => HCA.out (w.alloc (.cells ROW 71)).drew rfl ty dc sc
 have hWn : ((w.alloc (.cells ROW 71)).drew.setRow w.heap.size c1.toArray).heap[w.heap.size]? = some (.cells c1.toArray 71 (0,0)) := setRow_heap _ _ ROW _ _ _ HW1n.out
 have hWg : ((w.alloc (.cells ROW 71)).drew.setRow w.heap.size c1.toArray).heap[g]? = some (.cells cur 71 (0,0)) := by rw [setRow_other _ _ g _ (by omega)]; exact (HW1o.out g hgl).trans hg
 have hWB : Below w.heap.size w ((w.alloc (.cells ROW 71)).drew.setRow w.heap.size c1.toArray) := below_setRow HW1B.out (Nat.le_refl _) _
 have HWn := hid hWn; have HWg := hid hWg; have HWB := hid hWB; have HB := hid hcpB
 clear hWn hWg hWB hcpB
 go_enter Tryz.func83,Tryz.ntmps83
 go_wp2_with (at_builtin; refine Lib.wpList_append_run _ rfl _ _ _ _ rfl _ _ rfl rfl _ _ (HRZ.out _) ?_)
 refine wp_region_last (by simp) (by kernel_rfl) (by kernel_rfl) (by kernel_rfl) (by kernel_rfl) ?_
 dsimp only [List.dropLast,List.getLast,List.length]
 iterate 8
  apply walkM_eq
  case h =>
   intro yq zq wq hC hd
   obtain ⟨hcq,hfq⟩ := bcell hC
   simp at hd
   refine ⟨by go_simp; done, ?_⟩
   go_simp
   first | (go_ints; exact rfl) | (go_ints; rw [if_pos (by omega)]; try exact rfl) | exact rfl | (rw [if_pos (by omega)]; try exact rfl)
 intro yq zq wa hC hd hdis0
 have hdis := hid hdis0
 clear hdis0
 simp at hd
 have hna : wa.heap[w.heap.size]? = some (.cells c1.toArray 71 (0,0)) := by rw [hC.block _ (lt_of_get HWn.out)]; exact HWn.out
 have hga : wa.heap[g]? = some (.cells cur 71 (0,0)) := by rw [hC.block g (lt_of_get HWg.out)]; exact HWg.out
 have hr1 := fun ty dc sc => HB.out wa hna hga ty dc sc
 have HNA := hid hna
 clear hna hga hA
 go_simp
 clear hd hdis
 go_wp2
 refine bodyPost_ret (results_tmp rfl _ _ _) rfl ?_
 have hc2l : (lput c1 ((i + 1) * 4) (cells.drop (i * 4))).length = G * 4 := by rw [lput_length (by rw [hc1l,hdl]; omega),hc1l]
 refine ⟨w.heap.size,G,rfl,⟨?_, .inr ⟨w.heap.size,G,(lput c1 ((i + 1) * 4) (cells.drop (i * 4))).toArray,rfl,hb,setRow_heap _ _ _ _ _ _ HNA.out,hGn,hG63,by simpa using hc2l, ?_⟩⟩, ?_, .inr (Nat.le_refl _)⟩
 ·simp only [List.length_append,List.length_take,List.length_drop]; omega
 ·have h5 := lput_two (l := ROW.toList) (xs := xs) (ys := cells.drop (i * 4)) (a := i * 4) (by rw [hdl,hx,hROWl]; omega)
  rw [hx,hdl, ← HC1.out] at h5
  rw [show i * 4 + 4 = (i + 1) * 4 by omega,show (i + 1) * 4 + (n - i) * 4 = (n + 1) * 4 by omega,HROWT.out] at h5
  exact h5
 ·have hB2 : Below w.heap.size w (wa.setRow w.heap.size (lput c1 ((i + 1) * 4) (cells.drop (i * 4))).toArray) := below_setRow (Below.next HWB.out hC) (Nat.le_refl _) _
  exact ⟨hB2.os,hB2.tape,hB2.output,hB2.size,fun k hk _ => hB2.block k hk⟩
end Go.Proofs.YtpfipnankjeokaaGreat.X

namespace Go.XB
open Go.RowKit
def MP.slc (n : Nat) (cs : Array Value) (t : TypeId) : MP := ⟨fun v bs w => ∃ g,v = .slice (some ⟨g,0,none⟩) n n ∧ bs = [g] ∧ w.heap[g]? = some (.cells cs t),fun v bs w w' hb h => by
 obtain ⟨g,e,hz,hg⟩ := h; exact ⟨g,e,hz,(hb.block g (lt_of_get hg)).trans hg⟩⟩
section
variable {P : Program} {l : List Oper} {a0 : Act}
theorem walkM_slc {w0 : World} {F : List DP → Prop} {o : Oper} {os : List Oper} {acc : List DP} (n : Nat) (cs : Array Value) (t : TypeId)
  (h : ∀ (y : Nat → Value) (z : Nat → List Nat) (w : World),Below w0.heap.size w0 w → (∀ k ∈ deps o,(acc.getD k (fun _ => MP.eq undef) y).p (y k) (z k) w) →
   Region.wanted o (yielded l.toArray (fillBy l y a0 (deps o)).tmps) = true ∧ (execOp (fillBy l y a0 (deps o)).eval o).run P w = .ok (.value (.slice (some ⟨w.heap.size,0,none⟩) n n)) (w.alloc (.cells cs t)))
  (hr : walkM P l w0 a0 F os (acc ++ [fun _ => MP.slc n cs t])) : walkM P l w0 a0 F (o :: os) acc := by
 refine ⟨fun _ => MP.slc n cs t,Cong.const _ _,fun y z w hC hd => ?_,hr⟩
 obtain ⟨h1,h2⟩ := h y z w hC hd
 rw [if_pos h1]
 unfold gives
 rw [h2]
 refine ⟨(Below.refl _ _).alloc (Nat.le_refl _) _, [w.heap.size],⟨w.heap.size,rfl,rfl,by show (w.heap.push _)[w.heap.size]? = _; simp⟩,fun b hb => ?_⟩
 simp at hb; subst hb; simp
end
end Go.XB
namespace Go.XN
open Go.XB
def ecmp (a b : TEdge) : Int := if a.a ≠ b.a then sgn (a.a - b.a) else sgn (a.b - b.b)
def edge0 : TEdge := ⟨0,0,0,0⟩
def bsLoop (es : List TEdge) (e : TEdge) : Nat → Nat → Nat → Nat
 | 0,i, _ => i
 | f + 1,i,j => if i < j then (if ecmp (es.getD ((i + j) / 2) edge0) e < 0 then bsLoop es e f ((i + j) / 2 + 1) j else bsLoop es e f i ((i + j) / 2)) else i
def bsAt (es : List TEdge) (e : TEdge) : Nat := bsLoop es e es.length 0 es.length
def bsIn (es : List TEdge) (e : TEdge) : Bool := decide (bsAt es e < es.length) && decide (ecmp (es.getD (bsAt es e) edge0) e = 0)
end Go.XN
namespace Go.Proofs.YtpfipnankjeokaaGreat.X
open Go.RowKit Go.XB Go.XN
attribute [local go_sem] fillBy opAt deps depOf Region.wanted yielded
attribute [local simp] deps depOf MP.eq MP.agg MP.sl MP.slc Facts

theorem bsLoop_le (es : List TEdge) (e : TEdge) : ∀ (f i j : Nat),i ≤ j → bsLoop es e f i j ≤ j
 | 0,i,j,h => h
 | f + 1,i,j,h => by
  unfold bsLoop
  split
  ·split
   ·exact bsLoop_le es e f _ j (by omega)
   ·exact Nat.le_trans (bsLoop_le es e f i _ (by omega)) (by omega)
  ·exact h
theorem bsLoop_fuel (es : List TEdge) (e : TEdge) : ∀ (f g i j : Nat),j ≤ i + f → j ≤ i + g → bsLoop es e f i j = bsLoop es e g i j
 | 0,0,i,j, _, _ => rfl
 | 0,g + 1,i,j,h, _ => by unfold bsLoop; rw [if_neg (by omega)]
 | f + 1,0,i,j, _,h => by unfold bsLoop; rw [if_neg (by omega)]
 | f + 1,g + 1,i,j,h1,h2 => by
  unfold bsLoop
  split
  ·split
   ·exact bsLoop_fuel es e f g _ j (by omega) (by omega)
   ·exact bsLoop_fuel es e f g i _ (by omega) (by omega)
  ·rfl
theorem bsLoop_less {es : List TEdge} {e x : TEdge} {i j h r : Nat} (hq : ∀ f,j ≤ i + f → bsLoop es e f i j = r) (hij : i < j) (hh : h = (i + j) / 2) (hx : es[h]? = some x) (hc : ecmp x e < 0) : ∀ f,j ≤ h + 1 + f → bsLoop es e f (h + 1) j = r := by
 intro f hf
 have h1 := hq (j + 1) (by omega)
 unfold bsLoop at h1
 rw [if_pos hij, ← hh,show es.getD h edge0 = x by simp [List.getD,hx],if_pos hc] at h1
 rw [bsLoop_fuel es e f j (h + 1) j hf (by omega),h1]
theorem bsLoop_more {es : List TEdge} {e x : TEdge} {i j h r : Nat} (hq : ∀ f,j ≤ i + f → bsLoop es e f i j = r) (hij : i < j) (hh : h = (i + j) / 2) (hx : es[h]? = some x) (hc : ¬ ecmp x e < 0) : ∀ f,h ≤ i + f → bsLoop es e f i h = r := by
 intro f hf
 have h1 := hq (j + 1) (by omega)
 unfold bsLoop at h1
 rw [if_pos hij, ← hh,show es.getD h edge0 = x by simp [List.getD,hx],if_neg hc] at h1
 rw [bsLoop_fuel es e f j i h hf (by omega),h1]
theorem bsLoop_end {es : List TEdge} {e : TEdge} {i j r : Nat} (hq : ∀ f,j ≤ i + f → bsLoop es e f i j = r) (hij : i = j) : i = r := by
 have := hq 0 (by omega)
 exact this
theorem bsAt_le (es : List TEdge) (e : TEdge) : bsAt es e ≤ es.length := bsLoop_le es e _ 0 _ (Nat.zero_le _)

set_option maxHeartbeats 1000000 in
theorem cmp_Or2 (g : Nat) (a b : Int) (w : World) (h : w.heap[g]? = some (.cells #[.int .i64 a, .int .i64 b] 3)) :
  Calls Tryz.prog 129 #[.slice (some ⟨g,0,none⟩) 2 2] w (Gives w (.int .i64 (if a ≠ 0 then a else b))) := by
 have c0 : w.cell? ⟨g,0,none⟩ = some (.int .i64 a) := (box_cell h rfl).1
 have c1 : w.cell? ⟨g,1,none⟩ = some (.int .i64 b) := (box_cell h rfl).1
 clear h
 by_cases ha : a = 0
 ·subst ha
  by_cases hb : b = 0
  ·subst hb
   go_enter Tryz.func129,Tryz.ntmps129
   go_wp2_with fail
   go_loopg [8] 2 (fun g s wr => ∃ k : Nat,k + g = 2 ∧ s = .int .i64 k ∧ wr = w)
   case atStart => exact ⟨0,rfl,rfl,rfl⟩
   case round =>
    obtain ⟨k,hk,rfl,rfl⟩ := hrel
    obtain rfl | rfl | rfl : k = 0 ∨ k = 1 ∨ k = 2 := by omega
    ·obtain rfl : gk = 1 + 1 := by omega
     clear hk
     go_wp2_with fail
     go_roundg 1
     case measure => omega
     case rel => exact ⟨1,rfl,rfl,rfl⟩
    ·obtain rfl : gk = 0 + 1 := by omega
     clear hk
     go_wp2_with fail
     go_roundg 0
     case measure => omega
     case rel => exact ⟨2,rfl,rfl,rfl⟩
    ·clear hk
     go_wp2
     go_ret
     exact ⟨rfl,Below.refl _ _⟩
  ·have hbb : (b == 0) = false := by simp [hb]
   go_enter Tryz.func129,Tryz.ntmps129
   go_wp2_with fail
   go_loopg [8] 2 (fun g s wr => ∃ k : Nat,k + g = 2 ∧ k ≤ 1 ∧ s = .int .i64 k ∧ wr = w)
   case atStart => exact ⟨0,rfl,by omega,rfl,rfl⟩
   case round =>
    obtain ⟨k,hk,hk1,rfl,rfl⟩ := hrel
    obtain rfl | rfl : k = 0 ∨ k = 1 := by omega
    ·obtain rfl : gk = 1 + 1 := by omega
     clear hk hk1
     go_wp2_with fail
     go_roundg 1
     case measure => omega
     case rel => exact ⟨1,rfl,by omega,rfl,rfl⟩
    ·clear hk hk1
     go_wp2
     go_ret
     exact ⟨by simp,Below.refl _ _⟩
 ·have haa : (a == 0) = false := by simp [ha]
  go_enter Tryz.func129,Tryz.ntmps129
  go_wp2_with fail
  go_loopg [8] 2 (fun g s wr => g = 2 ∧ s = .int .i64 0 ∧ wr = w)
  case atStart => exact ⟨rfl,rfl,rfl⟩
  case round =>
   obtain ⟨_,rfl,rfl⟩ := hrel
   go_wp2
   go_ret
   exact ⟨by simp,Below.refl _ _⟩

theorem sgn_ne {a : Int} : sgn a ≠ 0 ↔ a ≠ 0 := by unfold sgn; split <;> (try split) <;> omega
set_option maxHeartbeats 1000000 in
set_option maxRecDepth 10000 in
theorem impl_compareEdges (v1 v2 : Value) (a b : TEdge) (b1 b2 : List Nat) (w : World) (hx : Agg w v1 a b1) (hy : Agg w v2 b b2) :
  Calls Tryz.prog 82 #[v1,v2] w (Gives w (.int .i64 (ecmp a b))) := by
 obtain ⟨rfl, _, _, _, _, _⟩ := TEdge.agg hx
 obtain ⟨rfl, _, _, _, _, _⟩ := TEdge.agg hy
 have E := hid (show (if sgn (a.a - b.a) ≠ 0 then sgn (a.a - b.a) else sgn (a.b - b.b)) = ecmp a b by
  unfold ecmp
  by_cases h : a.a = b.a
  ·rw [if_neg (by rw [h]; simp [sgn]),if_neg (by simp [h])]
  ·rw [if_pos (sgn_ne.2 (by omega)),if_pos h])
 obtain ⟨r,hr⟩ : ∃ r,(if sgn (a.a - b.a) ≠ 0 then sgn (a.a - b.a) else sgn (a.b - b.b)) = r := ⟨_,rfl⟩
 have R := hid hr
 rw [hr] at E
 clear hx hy hr
 go_enter Tryz.func82,Tryz.ntmps82
 go_wp2_with fail
 refine wp_region_last (by simp) (by kernel_rfl) (by kernel_rfl) (by kernel_rfl) (by kernel_rfl) ?_
 dsimp only [List.dropLast,List.getLast,List.length]
 iterate 4
  apply walkM_eq
  case h =>
   intro yq zq wq hC hd
   obtain ⟨hcq,hfq⟩ := bcell hC
   simp at hd
   refine ⟨by go_simp; done, ?_⟩
   go_simp
   first | (go_ints; exact rfl) | (go_ints; rw [if_pos (by omega)]; try exact rfl) | exact rfl | (rw [if_pos (by omega)]; try exact rfl)
 refine walkM_call (MP.eq (.int .i64 (sgn (a.a - b.a)))) ?_ ?_
 ·intro yq zq wq hC hd
  obtain ⟨hcq,hfq⟩ := bcell hC
  simp at hd
  refine ⟨by go_simp; done, ?_⟩
  apply Exists.intro
  apply Exists.intro
  constructor
  ·go_simp
   exact ⟨rfl,rfl⟩
  ·exact gives_eq (cmp_Compare _ _ _)
 iterate 4
  apply walkM_eq
  case h =>
   intro yq zq wq hC hd
   obtain ⟨hcq,hfq⟩ := bcell hC
   simp at hd
   refine ⟨by go_simp; done, ?_⟩
   go_simp
   first | (go_ints; exact rfl) | (go_ints; rw [if_pos (by omega)]; try exact rfl) | exact rfl | (rw [if_pos (by omega)]; try exact rfl)
 refine walkM_call (MP.eq (.int .i64 (sgn (a.b - b.b)))) ?_ ?_
 ·intro yq zq wq hC hd
  obtain ⟨hcq,hfq⟩ := bcell hC
  simp at hd
  refine ⟨by go_simp; done, ?_⟩
  apply Exists.intro
  apply Exists.intro
  constructor
  ·go_simp
   exact ⟨rfl,rfl⟩
  ·exact gives_eq (cmp_Compare _ _ _)
 refine walkM_slc 2 #[.int .i64 (sgn (a.a - b.a)), .int .i64 (sgn (a.b - b.b))] 3 ?_ ?_
 ·intro yq zq wq hC hd
  simp at hd
  refine ⟨by go_simp; done, ?_⟩
  go_simp
 refine walkM_call (MP.eq (.int .i64 r)) ?_ ?_
 ·intro yq zq wq hC hd
  obtain ⟨hcq,hfq⟩ := bcell hC
  simp at hd
  obtain ⟨⟨g,e,hz,hg⟩, _⟩ := hd
  refine ⟨by go_simp; done, ?_⟩
  apply Exists.intro
  apply Exists.intro
  constructor
  ·go_simp
   exact ⟨rfl,rfl⟩
  ·exact gives_eq (by have C := cmp_Or2 g _ _ wq hg; rw [R.out] at C; exact C)
 intro yq zq wa hC hd hdis0
 have hdis := hid hdis0
 clear hdis0
 simp at hd
 go_simp
 go_wp2
 refine bodyPost_ret (results_tmp rfl _ _ _) rfl ⟨?_,Below.go⟩
 rw [← E.out]; rfl

theorem known_compareEdges : Known 82 := fun a w => by kernel_rfl
set_option maxHeartbeats 4000000 in
set_option maxRecDepth 10000 in
theorem search_edges (A : Option Addr) (n c : Nat) (es : List TEdge) (bs : List Nat) (v : Value) (e : TEdge) (b : List Nat) (w : World) (hx : Sl w A n c es bs) (hn : n ≤ 65536) (hv : Agg w v e b) :
  Calls Tryz.prog 81 #[.slice A n c,v, .func (.func 82) #[] #[]] w (Gives w (.tuple #[.int .i64 (bsAt es e), .bool (bsIn es e)])) := by
 have HX := hid hx; have HV := hid hv
 have HL := hid hx.1
 obtain ⟨rfl, _,we0,we1,we2,we3⟩ := TEdge.agg hv
 clear hx hv we0 we1 we2 we3
 have KN := known_compareEdges
 unfold Known at KN
 have hn64 : (n : Int) ≤ 65536 := by omega
 go_enter Tryz.func81,Tryz.ntmps81
 go_wp2_with fail
 go_loopg [9,10] n (fun g s9 s10 wr => ∃ (i j : Nat),j ≤ i + g ∧ (i ≤ j ∧ j ≤ n) ∧ s9 = .int .i64 i ∧ s10 = .int .i64 j ∧ Hid (∀ f,j ≤ i + f → bsLoop es e f i j = bsAt es e) ∧ Below (w.heap.size + 1) (w.alloc (.cells #[.int .i64 e.a, .int .i64 e.b, .int .i64 e.left, .int .i64 e.right] 71)) wr)
 case atStart =>
  exact ⟨0,n,by omega,⟨Nat.zero_le _,Nat.le_refl _⟩,rfl,rfl,(show ∀ f,n ≤ 0 + f → bsLoop es e f 0 n = bsAt es e from fun f hf => by unfold bsAt; rw [HL.out]; exact bsLoop_fuel es e f n 0 n hf (by omega)),Below.refl _ _⟩
 case round =>
  obtain ⟨i,j,hg,⟨hij,hjn⟩,rfl,rfl,hq,hb⟩ := hrel
  have HBW := hid (show Below w.heap.size w wr from (Below.box (.cells #[.int .i64 e.a, .int .i64 e.b, .int .i64 e.left, .int .i64 e.right] 71)).trans (hb.mono (by omega)))
  have k0 : wr.cell? ⟨w.heap.size,0,none⟩ = some (.int .i64 e.a) := (hb.cell (p := ⟨w.heap.size,0,none⟩) (Nat.lt_succ_self _)).trans (by go_simp)
  have k1 : wr.cell? ⟨w.heap.size,1,none⟩ = some (.int .i64 e.b) := (hb.cell (p := ⟨w.heap.size,1,none⟩) (Nat.lt_succ_self _)).trans (by go_simp)
  have k2 : wr.cell? ⟨w.heap.size,2,none⟩ = some (.int .i64 e.left) := (hb.cell (p := ⟨w.heap.size,2,none⟩) (Nat.lt_succ_self _)).trans (by go_simp)
  have k3 : wr.cell? ⟨w.heap.size,3,none⟩ = some (.int .i64 e.right) := (hb.cell (p := ⟨w.heap.size,3,none⟩) (Nat.lt_succ_self _)).trans (by go_simp)
  have hwl : w.heap.size < wr.heap.size := by have := hb.size; simp at this; omega
  rcases Nat.lt_or_ge i j with hlt | hge
  ·have hlt' : (i : Int) < j := by omega
   obtain ⟨h,hh⟩ : ∃ h : Nat,h = (i + j) / 2 := ⟨_,rfl⟩
   have hhi : ((i : Int) + j) / 2 = (h : Int) := by omega
   have hb1 : i ≤ h ∧ h < j := by omega
   have hhn : (h : Int) < n := by omega
   have hj64 : (j : Int) ≤ 65536 := by omega
   obtain ⟨gh,rfl⟩ : ∃ gh',gk = gh' + 1 := ⟨gk - 1,by omega⟩
   obtain ⟨be,of,x,rfl,hbl,hx1,e0,e1,e2,e3,hag⟩ := TEdge.elemA (HX.out.below HBW.out) (show h < n by omega)
   have HX1 := hid hx1; have HAG := hid hag
   have HH := hid hh; have HB := hid hb; have HG := hid hg; have HLT := hid hlt; have HB1 := hid hb1; have HJN := hid hjn
   clear hh hb hg hlt hx1 hag hij hjn
   by_cases hc : ecmp x e < 0
   ·have HN := hid (bsLoop_less hq.out HLT.out HH.out HX1.out hc)
    obtain ⟨r,hr⟩ : ∃ r,ecmp x e = r := ⟨_,rfl⟩
    rw [hr] at hc
    have R := hid hr
    clear hr
    go_wp2_with fail
    refine wp_region_walk (by kernel_rfl) (by kernel_rfl) (by kernel_rfl) ?_
    iterate 6
     apply walkM_eq
     case h =>
      intro yq zq wq hC hd
      obtain ⟨hcq,hfq⟩ := bcell hC
      simp at hd
      refine ⟨by go_simp; done, ?_⟩
      go_simp
      first | (go_ints; exact rfl) | (go_ints; rw [if_pos (by omega)]; try exact rfl) | exact rfl | (rw [if_pos (by omega)]; try exact rfl)
    refine walkM_call (MP.eq (.int .i64 r)) ?_ ?_
    ·intro yq zq wq hC hd
     obtain ⟨hcq,hfq⟩ := bcell hC
     simp at hd
     refine ⟨by go_simp; done, ?_⟩
     apply Exists.intro
     apply Exists.intro
     constructor
     ·go_simp
      exact ⟨rfl,rfl⟩
     ·exact gives_eq (by have C := impl_compareEdges _ _ x e _ _ wq (HAG.out.below hC) (HV.out.below (HBW.out.trans (hC.mono HBW.out.size))); rw [R.out] at C; exact C)
    apply walkM_eq
    case h =>
     intro yq zq wq hC hd
     obtain ⟨hcq,hfq⟩ := bcell hC
     simp at hd
     refine ⟨by go_simp; done, ?_⟩
     go_simp
     first | (go_ints; exact rfl) | (go_ints; rw [if_pos (by omega)]; try exact rfl) | exact rfl | (rw [if_pos (by omega)]; try exact rfl)
    intro yq zq wa hC hd hdis0
    have hdis := hid hdis0
    clear hdis0
    simp at hd
    go_simp
    clear hd hdis
    have HBA := hid (HB.out.trans (hC.mono (by have := HB.out.size; simp at this; omega)))
    go_wp2_with fail
    go_roundg gh
    case measure => omega
    case rel => exact ⟨h + 1,j,by have := HG.out; have := HB1.out; omega,⟨by have := HB1.out; omega,HJN.out⟩,by go_num,rfl,HN,HBA.out⟩
   ·have HN := hid (bsLoop_more hq.out HLT.out HH.out HX1.out hc)
    obtain ⟨r,hr⟩ : ∃ r,ecmp x e = r := ⟨_,rfl⟩
    rw [hr] at hc
    have R := hid hr
    clear hr
    go_wp2_with fail
    refine wp_region_walk (by kernel_rfl) (by kernel_rfl) (by kernel_rfl) ?_
    iterate 6
     apply walkM_eq
     case h =>
      intro yq zq wq hC hd
      obtain ⟨hcq,hfq⟩ := bcell hC
      simp at hd
      refine ⟨by go_simp; done, ?_⟩
      go_simp
      first | (go_ints; exact rfl) | (go_ints; rw [if_pos (by omega)]; try exact rfl) | exact rfl | (rw [if_pos (by omega)]; try exact rfl)
    refine walkM_call (MP.eq (.int .i64 r)) ?_ ?_
    ·intro yq zq wq hC hd
     obtain ⟨hcq,hfq⟩ := bcell hC
     simp at hd
     refine ⟨by go_simp; done, ?_⟩
     apply Exists.intro
     apply Exists.intro
     constructor
     ·go_simp
      exact ⟨rfl,rfl⟩
     ·exact gives_eq (by have C := impl_compareEdges _ _ x e _ _ wq (HAG.out.below hC) (HV.out.below (HBW.out.trans (hC.mono HBW.out.size))); rw [R.out] at C; exact C)
    apply walkM_eq
    case h =>
     intro yq zq wq hC hd
     obtain ⟨hcq,hfq⟩ := bcell hC
     simp at hd
     refine ⟨by go_simp; done, ?_⟩
     go_simp
     first | (go_ints; exact rfl) | (go_ints; rw [if_pos (by omega)]; try exact rfl) | exact rfl | (rw [if_pos (by omega)]; try exact rfl)
    intro yq zq wa hC hd hdis0
    have hdis := hid hdis0
    clear hdis0
    simp at hd
    go_simp
    clear hd hdis
    have HBA := hid (HB.out.trans (hC.mono (by have := HB.out.size; simp at this; omega)))
    go_wp2_with fail
    go_roundg gh
    case measure => omega
    case rel => exact ⟨i,h,by have := HG.out; have := HB1.out; omega,⟨by have := HB1.out; omega,by have := HJN.out; have := HB1.out; omega⟩,rfl,rfl,HN,HBA.out⟩
  ·obtain rfl : i = j := by omega
   have HI := hid (bsLoop_end hq.out rfl)
   have hii : ¬ ((i : Int) < i) := by omega
   have HB := hid hb
   clear hg hij hge hb hq
   rcases Nat.lt_or_ge i n with hin | hin
   ·have hin' : (i : Int) < n := by omega
    obtain ⟨be,of,x,rfl,hbl,hx1,e0,e1,e2,e3,hag⟩ := TEdge.elemA (HX.out.below HBW.out) hin
    have HAG := hid hag
    have E := hid (show decide (ecmp x e = 0) = bsIn es e by
     unfold bsIn
     rw [← HI.out,show es.getD i edge0 = x by simp [List.getD,hx1],HL.out,decide_eq_true hin,Bool.true_and])
    clear hx1 hag hin hjn
    obtain ⟨r,hr⟩ : ∃ r,ecmp x e = r := ⟨_,rfl⟩
    have R := hid hr
    rw [hr] at E
    clear hr
    go_wp2_with fail
    refine wp_region_walk (by kernel_rfl) (by kernel_rfl) (by kernel_rfl) ?_
    iterate 11
     apply walkM_eq
     case h =>
      intro yq zq wq hC hd
      obtain ⟨hcq,hfq⟩ := bcell hC
      simp at hd
      refine ⟨by go_simp; done, ?_⟩
      go_simp
      first | (go_ints; exact rfl) | (go_ints; rw [if_pos (by omega)]; try exact rfl) | exact rfl | (rw [if_pos (by omega)]; try exact rfl)
    refine walkM_call (MP.eq (.int .i64 r)) ?_ ?_
    ·intro yq zq wq hC hd
     obtain ⟨hcq,hfq⟩ := bcell hC
     simp at hd
     refine ⟨by go_simp; done, ?_⟩
     apply Exists.intro
     apply Exists.intro
     constructor
     ·go_simp
      exact ⟨rfl,rfl⟩
     ·exact gives_eq (by have C := impl_compareEdges _ _ x e _ _ wq (HAG.out.below hC) (HV.out.below (HBW.out.trans (hC.mono HBW.out.size))); rw [R.out] at C; exact C)
    iterate 4
     apply walkM_eq
     case h =>
      intro yq zq wq hC hd
      obtain ⟨hcq,hfq⟩ := bcell hC
      simp at hd
      refine ⟨by go_simp; done, ?_⟩
      go_simp
      first | (go_ints; exact rfl) | (go_ints; rw [if_pos (by omega)]; try exact rfl) | exact rfl | (rw [if_pos (by omega)]; try exact rfl)
    intro yq zq wa hC hd hdis0
    have hdis := hid hdis0
    clear hdis0
    simp at hd
    go_simp
    clear hd hdis
    go_wp2
    go_ret2
    rw [← HI.out, ← E.out]
    exact ⟨by simp; rfl,HBW.out.trans (hC.mono HBW.out.size)⟩
   ·obtain rfl : i = n := by omega
    have E := hid (show false = bsIn es e by
     unfold bsIn
     rw [← HI.out,HL.out,decide_eq_false (Nat.lt_irrefl _),Bool.false_and])
    clear hin hjn
    go_wp2_with fail
    refine wp_region_walk (by kernel_rfl) (by kernel_rfl) (by kernel_rfl) ?_
    iterate 5
     apply walkM_eq
     case h =>
      intro yq zq wq hC hd
      obtain ⟨hcq,hfq⟩ := bcell hC
      simp at hd
      refine ⟨by go_simp; done, ?_⟩
      go_simp
      first | (go_ints; exact rfl) | (go_ints; rw [if_pos (by omega)]; try exact rfl) | exact rfl | (rw [if_pos (by omega)]; try exact rfl)
    iterate 8
     apply walkM_skip
     case h =>
      intro yq zq wq hC hd
      simp at hd
      go_simp
      done
    iterate 3
     apply walkM_eq
     case h =>
      intro yq zq wq hC hd
      obtain ⟨hcq,hfq⟩ := bcell hC
      simp at hd
      refine ⟨by go_simp; done, ?_⟩
      go_simp
      first | (go_ints; exact rfl) | (go_ints; rw [if_pos (by omega)]; try exact rfl) | exact rfl | (rw [if_pos (by omega)]; try exact rfl)
    intro yq zq wa hC hd hdis0
    have hdis := hid hdis0
    clear hdis0
    simp at hd
    go_simp
    clear hd hdis
    go_wp2
    go_ret2
    rw [← HI.out, ← E.out]
    exact ⟨rfl,HBW.out.trans (hC.mono HBW.out.size)⟩

def ekey (a b : Int) : TEdge := ⟨min a b,max a b,0,0⟩
end Go.Proofs.YtpfipnankjeokaaGreat.X

namespace Go.XN
open Go.XB
def encE (e : TEdge) : List Value := [.int .i64 e.a, .int .i64 e.b, .int .i64 e.left, .int .i64 e.right]
def enew (a b : Int) : TEdge := ⟨min a b,max a b, -1, -1⟩
def eput (es : List TEdge) (i : Nat) (e : TEdge) : List TEdge := es.take i ++ e :: es.drop i
def emark (k : Int) (lt : Bool) (e : TEdge) : TEdge := if lt then { e with left := k } else { e with right := k }
def eside (es : List TEdge) (k a b : Int) : List TEdge :=
 let i := bsAt es (enew a b)
 let es' := if bsIn es (enew a b) then es else eput es i (enew a b)
 es'.modify i (emark k (decide (a < b)))
def etri (es : List TEdge) (k : Int) (t : TTri) : List TEdge := eside (eside (eside es k t.a t.b) k t.b t.c) k t.c t.a
def edgesTo (ts : List TTri) : Nat → List TEdge
 | 0 => []
 | k + 1 => etri (edgesTo ts k) k (ts.getD k ⟨0,0,0,0,0⟩)
def edgesL (ts : List TTri) : List TEdge := edgesTo ts ts.length
def edgeOk (e : TEdge) : Prop := I64 e.a ∧ I64 e.b ∧ I64 e.left ∧ I64 e.right
end Go.XN
namespace Go.Proofs.YtpfipnankjeokaaGreat.X
open Go.RowKit Go.XB Go.XN
attribute [local go_sem] fillBy opAt deps depOf Region.wanted yielded
attribute [local simp] deps depOf MP.eq MP.agg MP.sl MP.slc Facts

theorem encE_len (es : List TEdge) : (es.flatMap encE).length = es.length * 4 := by
 induction es with
 | nil => rfl
 | cons e es ih => rw [List.flatMap_cons,List.length_append,ih]; simp [encE]; omega
theorem encE_one {es : List TEdge} : ∀ v ∈ es.flatMap encE,v.oneCell' = true := by
 intro v hv
 obtain ⟨e, _,h⟩ := List.mem_flatMap.1 hv
 simp [encE] at h
 rcases h with rfl | rfl | rfl | rfl <;> rfl
theorem encE_take (es : List TEdge) : ∀ i,i ≤ es.length → (es.flatMap encE).take (i * 4) = (es.take i).flatMap encE ∧ (es.flatMap encE).drop (i * 4) = (es.drop i).flatMap encE := by
 induction es with
 | nil => intro i hi; simp at hi; subst hi; simp
 | cons e es ih =>
  intro i hi
  cases i with
  | zero => simp
  | succ i =>
   obtain ⟨h1,h2⟩ := ih i (by simpa using hi)
   rw [show (i + 1) * 4 = (encE e).length + i * 4 by simp [encE]; omega,List.flatMap_cons,List.take_succ_cons,List.drop_succ_cons,List.flatMap_cons,List.take_length_add_append,List.drop_length_add_append,h1,h2]
   exact ⟨rfl,rfl⟩
theorem encE_put {es : List TEdge} {i : Nat} (hi : i ≤ es.length) (e : TEdge) : (eput es i e).flatMap encE = (es.flatMap encE).take (i * 4) ++ encE e ++ (es.flatMap encE).drop (i * 4) := by
 obtain ⟨h1,h2⟩ := encE_take es i hi
 unfold eput
 rw [List.flatMap_append,List.flatMap_cons,h1,h2,List.append_assoc]
theorem encE_mark (k : Int) (lt : Bool) (es : List TEdge) : ∀ i,i < es.length → (es.modify i (emark k lt)).flatMap encE = (es.flatMap encE).set (i * 4 + (if lt then 2 else 3)) (.int .i64 k) := by
 induction es with
 | nil => intro i hi; simp at hi
 | cons e es ih =>
  intro i hi
  cases i with
  | zero => cases lt <;> simp [emark,encE]
  | succ i =>
   have h := ih i (by simpa using hi)
   rw [List.modify_succ_cons,List.flatMap_cons,List.flatMap_cons,h]
   rw [List.set_append_right _ _ (by simp [encE]; omega)]
   congr 2
   simp [encE]; omega
theorem eput_len {es : List TEdge} {i : Nat} (hi : i ≤ es.length) (e : TEdge) : (eput es i e).length = es.length + 1 := by unfold eput; simp; omega
theorem mem_eput {es : List TEdge} {i : Nat} {e x : TEdge} (h : x ∈ eput es i e) : x = e ∨ x ∈ es := by
 unfold eput at h
 rcases List.mem_append.1 h with h | h
 ·exact .inr (List.mem_of_mem_take h)
 ·rcases List.mem_cons.1 h with h | h
  ·exact .inl h
  ·exact .inr (List.mem_of_mem_drop h)
theorem enew_ok {a b : Int} (ha : I64 a) (hb : I64 b) : edgeOk (enew a b) := by
 unfold edgeOk enew I64 at *
 refine ⟨?_, ?_, ?_, ?_⟩ <;> (dsimp only; omega)
theorem mark_ok {k : Int} {lt : Bool} {es : List TEdge} {i : Nat} (hk : I64 k) (h : ∀ e ∈ es,edgeOk e) : ∀ e ∈ es.modify i (emark k lt),edgeOk e := by
 intro e he
 obtain ⟨j,hj⟩ := List.mem_iff_getElem?.1 he
 rw [List.getElem?_modify] at hj
 split at hj
 ·obtain ⟨x,hx,rfl⟩ := Option.map_eq_some_iff.1 hj
  obtain ⟨h1,h2,h3,h4⟩ := h x (List.mem_of_getElem? hx)
  unfold emark
  split
  ·exact ⟨h1,h2,hk,h4⟩
  ·exact ⟨h1,h2,h3,hk⟩
 ·exact h e (List.mem_of_getElem? (by simpa using hj))
theorem eside_ok {es : List TEdge} {k a b : Int} (hk : I64 k) (ha : I64 a) (hb : I64 b) (h : ∀ e ∈ es,edgeOk e) : ∀ e ∈ eside es k a b,edgeOk e := by
 unfold eside
 apply mark_ok hk
 split
 ·exact h
 ·intro e he
  rcases mem_eput he with rfl | he
  ·exact enew_ok ha hb
  ·exact h e he
theorem eside_len (es : List TEdge) (k a b : Int) : (eside es k a b).length ≤ es.length + 1 := by
 unfold eside
 simp only [List.length_modify]
 split
 ·omega
 ·rw [eput_len (bsAt_le _ _)]; exact Nat.le_refl _
theorem edgesTo_len (ts : List TTri) : ∀ k,(edgesTo ts k).length ≤ 3 * k
 | 0 => Nat.le_refl _
 | k + 1 => by
  have h := edgesTo_len ts k
  unfold edgesTo etri
  generalize ts.getD k _ = t
  have h1 := eside_len (edgesTo ts k) k t.a t.b
  have h2 := eside_len (eside (edgesTo ts k) k t.a t.b) k t.b t.c
  have h3 := eside_len (eside (eside (edgesTo ts k) k t.a t.b) k t.b t.c) k t.c t.a
  omega
theorem row_set {w : World} {base g n cap size : Nat} {e : TypeId} {cells : List Value} (h : w.ownsRow base e size (.slice (some ⟨g,0,none⟩) n cap) n cells) {i : Nat} (hi : i < cells.length) (v : Value) :
  (w.setCell ⟨g,i,none⟩ v).ownsRow base e size (.slice (some ⟨g,0,none⟩) n cap) n (cells.set i v) ∧ w.grownBy (w.setCell ⟨g,i,none⟩ v) (some g) ∧ (∃ u,w.cell? ⟨g,i,none⟩ = some u) ∧ w.frozen? ⟨g,i,none⟩ = false := by
 obtain ⟨h1,h2⟩ := h
 rcases h2 with ⟨h', _⟩ | ⟨g',cap',cur,hv,hb,hg,hnc,hcm,hcs,htk⟩
 ·cases h'
 cases hv
 have hlen : cells.length = n * size := h1
 have hle : n * size ≤ cap * size := Nat.mul_le_mul_right _ hnc
 have hic : i < cur.size := by omega
 refine ⟨⟨by simpa using h1, .inr ⟨g,cap,cur.setIfInBounds i v,rfl,hb, ?_,hnc,hcm,by simpa using hcs, ?_⟩⟩,⟨rfl,rfl,rfl,by simp [World.setCell],fun k _ hk => Below.heap_setCell w ⟨g,i,none⟩ v k (fun e => hk (by rw [e]))⟩,⟨cur[i],by simp [World.cell?,hg,hic]⟩,by simp [World.frozen?,hg]⟩
 ·rw [setCell_eq_setRow w g i cur _ _ v hg]; exact setRow_heap w g cur _ _ _ hg
 ·rw [Array.toList_setIfInBounds,List.take_set,htk]
theorem row_edges {w : World} {base g n cap : Nat} {es : List TEdge} (h : w.ownsRow base 71 4 (.slice (some ⟨g,0,none⟩) n cap) n (es.flatMap encE)) (hn : es.length = n) (ho : ∀ e ∈ es,edgeOk e) : ∃ bs,Sl w (some ⟨g,0,none⟩) n cap es bs ∧ (∀ b ∈ bs,b = g) := by
 have hf : Filled w (es.flatMap encE) es (List.replicate es.length []) := by
  refine ⟨by simp,by rw [encE_len]; exact Nat.le_refl _,fun k x fs hx hfs => ?_⟩
  have hk := (List.getElem?_eq_some_iff.1 hx).1
  have hfs' : fs = [] := by rw [List.getElem?_replicate,if_pos hk] at hfs; exact (Option.some.inj hfs).symm
  subst hfs'
  obtain ⟨h1,h2,h3,h4⟩ := ho x (List.mem_of_getElem? hx)
  show Dat.at_ w (((es.flatMap encE).drop (k * 4)).take 4) x []
  rw [(encE_take es k (by omega)).2,List.drop_eq_getElem_cons hk,List.flatMap_cons,List.take_append_of_le_length (by simp [encE])]
  have : es[k] = x := (List.getElem?_eq_some_iff.1 hx).2
  rw [this]
  exact TEdge.shut h1 h2 h3 h4
 obtain ⟨A,c,bs,hv,hs,hor⟩ := hf.sl (α := TEdge) (base := base) (n := n) h hn
 cases hv
 refine ⟨bs,hs,fun b hb => ?_⟩
 rcases hor with ⟨_,rfl⟩ | ⟨g',hg',rfl, _⟩
 ·cases hb
 ·simp [Value.ownBlock] at hg'
  simp at hb
  all_goals omega
set_option maxHeartbeats 400000 in
theorem insert_row (base g n cap vb i : Nat) (cells xs : List Value) (w : World) (h : w.ownsRow base 71 4 (.slice (some ⟨g,0,none⟩) n cap) n cells) (hb : base ≤ w.heap.size) (hn : n ≤ 65536) (hi : i ≤ n)
  (hv : w.heap[vb]? = some (.cells xs.toArray 71)) (hx : xs.length = 4) (h1 : ∀ v ∈ xs,v.oneCell' = true) (h2 : ∀ v ∈ cells,v.oneCell' = true) (hvg : vb ≠ g) :
  Calls Tryz.prog 83 #[.slice (some ⟨g,0,none⟩) n cap, .int .i64 i, .slice (some ⟨vb,0,none⟩) 1 1] w (Inserted w base g n i cells xs) := by
 rcases Nat.lt_or_ge i n with hin | hin
 ·rcases Nat.lt_or_ge cap (n + 1) with hr | hr
  ·exact insert_grow base g n cap vb i cells xs w h hb hn hin hr hv hx h1 h2
  ·exact insert_shift base g n cap vb i cells xs w h hn hin hr hv hx h1 h2 hvg
 ·obtain rfl : i = n := by omega
  exact insert_end base g i cap vb cells xs w h hb hn hv hx h1
set_option maxHeartbeats 1000000 in
theorem impl_corners (v : Value) (t : TTri) (b : List Nat) (w : World) (hx : Agg w v t b) :
  Calls Tryz.prog 37 #[v] w (Gives w (.agg #[.int .i64 t.a, .int .i64 t.b, .int .i64 t.c])) := by
 obtain ⟨rfl, _, _, _, _, _, _⟩ := TTri.agg hx
 clear hx
 go_enter Tryz.func37,Tryz.ntmps37
 go_wp2
 refine bodyPost_ret (v := .agg #[.int .i64 t.a, .int .i64 t.b, .int .i64 t.c]) (by simp [results,Tryz.results37,go_sem, *]) rfl ⟨rfl,Below.go⟩
end Go.Proofs.YtpfipnankjeokaaGreat.X
namespace Go.Proofs.YtpfipnankjeokaaGreat.X
open Go.RowKit Go.XB Go.XN
def sepSide (xs ys : List Int) (t : TTri) (a b : Int) : Bool := decide (turnI xs ys a b t.a ≤ 0) && (decide (turnI xs ys a b t.b ≤ 0) && decide (turnI xs ys a b t.c ≤ 0))
def sideB (xs ys : List Int) (s t : TTri) : Nat → Bool
 | 0 => sepSide xs ys t s.a s.b
 | 1 => sepSide xs ys t s.b s.c
 | _ => sepSide xs ys t s.c s.a
def sepI (xs ys : List Int) (s t : TTri) : Bool := (List.range 3).any (sideB xs ys s t)
def triIn (n : Nat) (t : TTri) : Prop := (0 ≤ t.a ∧ t.a < n) ∧ (0 ≤ t.b ∧ t.b < n) ∧ (0 ≤ t.c ∧ t.c < n)
theorem sides_next {xs ys : List Int} {s t : TTri} {k : Nat} (h : ∀ j,j < k → sideB xs ys s t j = false) (h2 : sideB xs ys s t k = false) : ∀ j,j < k + 1 → sideB xs ys s t j = false := by
 intro j hj
 rcases Nat.lt_or_ge j k with h3 | h3
 ·exact h j h3
 ·obtain rfl : j = k := by omega
  exact h2
theorem sep_true {xs ys : List Int} {s t : TTri} {j : Nat} (hj : j < 3) (h : sideB xs ys s t j = true) : sepI xs ys s t = true := List.any_eq_true.2 ⟨j,List.mem_range.2 hj,h⟩
theorem sep_false {xs ys : List Int} {s t : TTri} (h : ∀ j,j < 3 → sideB xs ys s t j = false) : sepI xs ys s t = false := by
 unfold sepI
 rw [List.any_eq_false]
 intro j hj
 rw [h j (List.mem_range.1 hj)]; simp
end Go.Proofs.YtpfipnankjeokaaGreat.X
namespace Go.Proofs.YtpfipnankjeokaaGreat.X
open Go.RowKit Go.XB Go.XN
attribute [local go_sem] fillBy opAt deps depOf Region.wanted yielded
attribute [local simp] deps depOf MP.eq MP.agg MP.sl Facts
attribute [local go_sem] ix0 ix1 ix2

set_option maxHeartbeats 16000000 in
set_option maxRecDepth 10000 in
theorem impl_separates (v : Value) (n : Nat) (xs ys : List Int) (vs vt : Value) (s t : TTri) (bs bt : List Nat) (w : World) (hp : Plc w v n xs ys) (hsx : Small xs) (hsy : Small ys) (hS : Agg w vs s bs) (hT : Agg w vt t bt) (is : triIn n s) (it : triIn n t) :
  Calls Tryz.prog 78 #[v,vs,vt] w (Gives w (.bool (sepI xs ys s t))) := by
 have HP := hid hp; have HSX := hid hsx; have HSY := hid hsy; have HIS := hid is; have HIT := hid it
 obtain ⟨A,cA,X,oX,cX,Y,oY,cY,bX,bY,rfl,hX,hY⟩ := hp
 have HSa := hid hS; have HTa := hid hT
 obtain ⟨rfl, _, _, _, _, _, _⟩ := TTri.agg hS
 obtain ⟨rfl, _, _, _, _, _, _⟩ := TTri.agg hT
 clear hS hT hX hY hsx hsy is it
 go_enter Tryz.func78,Tryz.ntmps78
 go_wp2_with fail
 refine wp_region_line 6 (by kernel_rfl) (by kernel_rfl) (by kernel_rfl) (by kernel_rfl) (by kernel_rfl) ?_
 simp only [List.take_succ_cons,List.take_zero,List.drop_succ_cons,List.drop_zero]
 apply walkM_eq
 case h =>
  intro yq zq wq hC hd
  obtain ⟨hcq,hfq⟩ := bcell hC
  simp at hd
  refine ⟨by go_simp; done, ?_⟩
  go_simp
  first | (go_ints; exact rfl) | (go_ints; rw [if_pos (by omega)]; try exact rfl) | exact rfl | (rw [if_pos (by omega)]; try exact rfl)
 refine walkM_call (MP.eq (.agg #[.int .i64 s.a, .int .i64 s.b, .int .i64 s.c])) ?_ ?_
 ·intro yq zq wq hC hd
  obtain ⟨hcq,hfq⟩ := bcell hC
  simp at hd
  refine ⟨by go_simp; done, ?_⟩
  apply Exists.intro
  apply Exists.intro
  constructor
  ·go_simp
   exact ⟨rfl,rfl⟩
  ·exact gives_eq (impl_corners _ s _ wq (HSa.out.below Below.go))
 apply walkM_eq
 case h =>
  intro yq zq wq hC hd
  obtain ⟨hcq,hfq⟩ := bcell hC
  simp at hd
  refine ⟨by go_simp; done, ?_⟩
  go_simp
  first | (go_ints; exact rfl) | (go_ints; rw [if_pos (by omega)]; try exact rfl) | exact rfl | (rw [if_pos (by omega)]; try exact rfl)
 refine walkM_call (MP.eq (.agg #[.int .i64 t.a, .int .i64 t.b, .int .i64 t.c])) ?_ ?_
 ·intro yq zq wq hC hd
  obtain ⟨hcq,hfq⟩ := bcell hC
  simp at hd
  refine ⟨by go_simp; done, ?_⟩
  apply Exists.intro
  apply Exists.intro
  constructor
  ·go_simp
   exact ⟨rfl,rfl⟩
  ·exact gives_eq (impl_corners _ t _ wq (HTa.out.below Below.go))
 refine walkM_new #[.int .i64 0, .int .i64 0, .int .i64 0] 75 ?_ ?_
 ·intro yq zq wq hC hd
  refine ⟨by go_simp; done, ?_⟩
  go_simp
 refine walkM_new #[.int .i64 0, .int .i64 0, .int .i64 0] 75 ?_ ?_
 ·intro yq zq wq hC hd
  refine ⟨by go_simp; done, ?_⟩
  go_simp
 intro yq zq wa hC hd hdis0
 have hdis := hid hdis0
 clear hdis0
 simp at hd
 have q4 := hd.2.2.2.2.1
 have q5 := hd.2.2.2.2.2
 obtain ⟨⟨ga,y4,z4,hga⟩,hr4⟩ := q4
 obtain ⟨⟨gb,y5,z5,hgb⟩,hr5⟩ := q5
 rw [z4] at hr4
 rw [z5] at hr5
 have hgr4 := hr4 ga (by simp)
 have hgr5 := hr5 gb (by simp)
 have hab : ga ≠ gb := by intro e; have := hdis.out 4 5 (by decide) (by decide) (by decide) ga (by rw [z4]; simp); rw [z5] at this; simp [e] at this
 have hba := hab.symm
 obtain ⟨a0,a0f⟩ := box_cell hga (j := 0) rfl
 obtain ⟨a1,a1f⟩ := box_cell hga (j := 1) rfl
 obtain ⟨a2,a2f⟩ := box_cell hga (j := 2) rfl
 obtain ⟨b0,b0f⟩ := box_cell hgb (j := 0) rfl
 obtain ⟨b1,b1f⟩ := box_cell hgb (j := 1) rfl
 obtain ⟨b2,b2f⟩ := box_cell hgb (j := 2) rfl
 have HBa := hid (show Below w.heap.size w wa from Below.go)
 obtain ⟨hc_wa,hf_wa⟩ := bcell hC
 have hz0_wa : w.heap.size < wa.heap.size := by have := hC.size; (try simp at this); omega
 have hga1 : w.heap.size ≤ ga := by (try simp at hgr4); omega
 have hgb1 : w.heap.size ≤ gb := by (try simp at hgr5); omega
 have hga2 : ga < wa.heap.size := hgr4.2
 have hgb2 : gb < wa.heap.size := hgr5.2
 have n1 : w.heap.size ≠ ga := by (try simp at hgr4); omega
 have n2 : w.heap.size ≠ gb := by (try simp at hgr5); omega
 have n3 := n1.symm
 have n4 := n2.symm
 have HBs := hid (show Below w.heap.size w ((((((wa.setCell ⟨ga,0,none⟩ (.int .i64 s.a)).setCell ⟨ga,1,none⟩ (.int .i64 s.b)).setCell ⟨ga,2,none⟩ (.int .i64 s.c)).setCell ⟨gb,0,none⟩ (.int .i64 t.a)).setCell ⟨gb,1,none⟩ (.int .i64 t.b)).setCell ⟨gb,2,none⟩ (.int .i64 t.c)) from (((((HBa.out.setCell (p := ⟨ga,0,none⟩) hga1 _).setCell (p := ⟨ga,1,none⟩) hga1 _).setCell (p := ⟨ga,2,none⟩) hga1 _).setCell (p := ⟨gb,0,none⟩) hgb1 _).setCell (p := ⟨gb,1,none⟩) hgb1 _).setCell (p := ⟨gb,2,none⟩) hgb1 _)
 clear hdis hr4 hr5 hga hgb z4 z5 hgr4 hgr5
 go_wp2_with fail
 go_loopg [17] 3 (fun g s17 wr => ∃ k : Nat,k + g = 3 ∧ s17 = .int .i64 k ∧ Hid (∀ j,j < k → sideB xs ys s t j = false) ∧ Below w.heap.size w wr ∧ (w.heap.size < wr.heap.size ∧ ga < wr.heap.size ∧ gb < wr.heap.size) ∧ (wr.cell? ⟨w.heap.size,0,none⟩ = some (.slice A n cA) ∧ wr.cell? ⟨w.heap.size,1,none⟩ = some (.slice (some ⟨X,oX,none⟩) n cX) ∧ wr.cell? ⟨w.heap.size,2,none⟩ = some (.slice (some ⟨Y,oY,none⟩) n cY) ∧ wr.cell? ⟨ga,0,none⟩ = some (.int .i64 s.a) ∧ wr.cell? ⟨ga,1,none⟩ = some (.int .i64 s.b) ∧ wr.cell? ⟨ga,2,none⟩ = some (.int .i64 s.c) ∧ wr.cell? ⟨gb,0,none⟩ = some (.int .i64 t.a) ∧ wr.cell? ⟨gb,1,none⟩ = some (.int .i64 t.b) ∧ wr.cell? ⟨gb,2,none⟩ = some (.int .i64 t.c)))
 case atStart =>
  exact ⟨0,rfl,rfl,(show ∀ j,j < 0 → _ from fun j hj => absurd hj (Nat.not_lt_zero j)),HBs.out,⟨by simp; omega,by simp; omega,by simp; omega⟩,⟨by go_simp,by go_simp,by go_simp,by go_simp,by go_simp,by go_simp,by go_simp,by go_simp,by go_simp⟩⟩
 case round =>
 clear hc_wa hf_wa a0 a1 a2 b0 b1 b2 a0f a1f a2f b0f b1f b2f
 obtain ⟨k,hk,rfl,NO,hbr,⟨hl1,hl2,hl3⟩,⟨c0,c1,c2,c3,c4,c5,c6,c7,c8⟩⟩ := hrel
 have HBr := hid hbr
 obtain rfl | rfl | rfl | rfl : k = 0 ∨ k = 1 ∨ k = 2 ∨ k = 3 := by omega
 ·obtain rfl : gk = 2 + 1 := by omega
  clear hk
  go_wp2_with fail
  obtain ⟨r0,hr0⟩ : ∃ r,turnI xs ys s.a s.b t.a = r := ⟨_,rfl⟩
  have C := impl_turn _ n xs ys s.a s.b t.a wr (HP.out.below HBr.out) HSX.out HSY.out HIS.out.1 HIS.out.2.1 HIT.out.1
  rw [hr0] at C
  have R0 := hid hr0
  clear hr0
  refine C.mono ?_
  clear C
  rintro _ w1 ⟨rfl,hb0⟩
  obtain ⟨hc_w1,hf_w1⟩ := bcell hb0
  have HB0 := hid (Below.next HBr.out hb0)
  have hl00 : w.heap.size < w1.heap.size := by have := hb0.size; omega
  have hl01 : ga < w1.heap.size := by have := hb0.size; omega
  have hl02 : gb < w1.heap.size := by have := hb0.size; omega
  by_cases h0 : r0 ≤ 0
  ·go_wp2_with fail
   obtain ⟨r1,hr1⟩ : ∃ r,turnI xs ys s.a s.b t.b = r := ⟨_,rfl⟩
   have C := impl_turn _ n xs ys s.a s.b t.b w1 (HP.out.below HB0.out) HSX.out HSY.out HIS.out.1 HIS.out.2.1 HIT.out.2.1
   rw [hr1] at C
   have R1 := hid hr1
   clear hr1
   refine C.mono ?_
   clear C
   rintro _ w2 ⟨rfl,hb1⟩
   obtain ⟨hc_w2,hf_w2⟩ := bcell hb1
   have HB1 := hid (Below.next HB0.out hb1)
   have hl10 : w.heap.size < w2.heap.size := by have := hb1.size; omega
   have hl11 : ga < w2.heap.size := by have := hb1.size; omega
   have hl12 : gb < w2.heap.size := by have := hb1.size; omega
   by_cases h1 : r1 ≤ 0
   ·go_wp2_with fail
    obtain ⟨r2,hr2⟩ : ∃ r,turnI xs ys s.a s.b t.c = r := ⟨_,rfl⟩
    have C := impl_turn _ n xs ys s.a s.b t.c w2 (HP.out.below HB1.out) HSX.out HSY.out HIS.out.1 HIS.out.2.1 HIT.out.2.2
    rw [hr2] at C
    have R2 := hid hr2
    clear hr2
    refine C.mono ?_
    clear C
    rintro _ w3 ⟨rfl,hb2⟩
    obtain ⟨hc_w3,hf_w3⟩ := bcell hb2
    have HB2 := hid (Below.next HB1.out hb2)
    have hl20 : w.heap.size < w3.heap.size := by have := hb2.size; omega
    have hl21 : ga < w3.heap.size := by have := hb2.size; omega
    have hl22 : gb < w3.heap.size := by have := hb2.size; omega
    by_cases h2 : r2 ≤ 0
    ·have E := hid (show sepI xs ys s t = true from sep_true (j := 0) (by decide) (by show sepSide xs ys t s.a s.b = true; unfold sepSide; rw [R0.out,R1.out,R2.out]; simp [h0,h1,h2]))
     go_wp2
     go_ret
     exact ⟨by rw [E.out]; rfl,HB2.out⟩
    ·have NX := hid (show ∀ j,j < 0 + 1 → sideB xs ys s t j = false from sides_next NO.out (by show sepSide xs ys t s.a s.b = false; unfold sepSide; rw [R0.out,R1.out,R2.out]; simp [h0,h1,h2]))
     go_wp2_with fail
     go_roundg 2
     case measure => omega
     case rel => exact ⟨0 + 1,rfl,by go_num,NX.out,HB2.out,⟨hl20,hl21,hl22⟩,⟨by go_simp,by go_simp,by go_simp,by go_simp,by go_simp,by go_simp,by go_simp,by go_simp,by go_simp⟩⟩
   ·have NX := hid (show ∀ j,j < 0 + 1 → sideB xs ys s t j = false from sides_next NO.out (by show sepSide xs ys t s.a s.b = false; unfold sepSide; rw [R0.out,R1.out]; simp [h0,h1]))
    go_wp2_with fail
    go_roundg 2
    case measure => omega
    case rel => exact ⟨0 + 1,rfl,by go_num,NX.out,HB1.out,⟨hl10,hl11,hl12⟩,⟨by go_simp,by go_simp,by go_simp,by go_simp,by go_simp,by go_simp,by go_simp,by go_simp,by go_simp⟩⟩
  ·have NX := hid (show ∀ j,j < 0 + 1 → sideB xs ys s t j = false from sides_next NO.out (by show sepSide xs ys t s.a s.b = false; unfold sepSide; rw [R0.out]; simp [h0]))
   go_wp2_with fail
   go_roundg 2
   case measure => omega
   case rel => exact ⟨0 + 1,rfl,by go_num,NX.out,HB0.out,⟨hl00,hl01,hl02⟩,⟨by go_simp,by go_simp,by go_simp,by go_simp,by go_simp,by go_simp,by go_simp,by go_simp,by go_simp⟩⟩
 ·obtain rfl : gk = 1 + 1 := by omega
  clear hk
  go_wp2_with fail
  obtain ⟨r0,hr0⟩ : ∃ r,turnI xs ys s.b s.c t.a = r := ⟨_,rfl⟩
  have C := impl_turn _ n xs ys s.b s.c t.a wr (HP.out.below HBr.out) HSX.out HSY.out HIS.out.2.1 HIS.out.2.2 HIT.out.1
  rw [hr0] at C
  have R0 := hid hr0
  clear hr0
  refine C.mono ?_
  clear C
  rintro _ w1 ⟨rfl,hb0⟩
  obtain ⟨hc_w1,hf_w1⟩ := bcell hb0
  have HB0 := hid (Below.next HBr.out hb0)
  have hl00 : w.heap.size < w1.heap.size := by have := hb0.size; omega
  have hl01 : ga < w1.heap.size := by have := hb0.size; omega
  have hl02 : gb < w1.heap.size := by have := hb0.size; omega
  by_cases h0 : r0 ≤ 0
  ·go_wp2_with fail
   obtain ⟨r1,hr1⟩ : ∃ r,turnI xs ys s.b s.c t.b = r := ⟨_,rfl⟩
   have C := impl_turn _ n xs ys s.b s.c t.b w1 (HP.out.below HB0.out) HSX.out HSY.out HIS.out.2.1 HIS.out.2.2 HIT.out.2.1
   rw [hr1] at C
   have R1 := hid hr1
   clear hr1
   refine C.mono ?_
   clear C
   rintro _ w2 ⟨rfl,hb1⟩
   obtain ⟨hc_w2,hf_w2⟩ := bcell hb1
   have HB1 := hid (Below.next HB0.out hb1)
   have hl10 : w.heap.size < w2.heap.size := by have := hb1.size; omega
   have hl11 : ga < w2.heap.size := by have := hb1.size; omega
   have hl12 : gb < w2.heap.size := by have := hb1.size; omega
   by_cases h1 : r1 ≤ 0
   ·go_wp2_with fail
    obtain ⟨r2,hr2⟩ : ∃ r,turnI xs ys s.b s.c t.c = r := ⟨_,rfl⟩
    have C := impl_turn _ n xs ys s.b s.c t.c w2 (HP.out.below HB1.out) HSX.out HSY.out HIS.out.2.1 HIS.out.2.2 HIT.out.2.2
    rw [hr2] at C
    have R2 := hid hr2
    clear hr2
    refine C.mono ?_
    clear C
    rintro _ w3 ⟨rfl,hb2⟩
    obtain ⟨hc_w3,hf_w3⟩ := bcell hb2
    have HB2 := hid (Below.next HB1.out hb2)
    have hl20 : w.heap.size < w3.heap.size := by have := hb2.size; omega
    have hl21 : ga < w3.heap.size := by have := hb2.size; omega
    have hl22 : gb < w3.heap.size := by have := hb2.size; omega
    by_cases h2 : r2 ≤ 0
    ·have E := hid (show sepI xs ys s t = true from sep_true (j := 1) (by decide) (by show sepSide xs ys t s.b s.c = true; unfold sepSide; rw [R0.out,R1.out,R2.out]; simp [h0,h1,h2]))
     go_wp2
     go_ret
     exact ⟨by rw [E.out]; rfl,HB2.out⟩
    ·have NX := hid (show ∀ j,j < 1 + 1 → sideB xs ys s t j = false from sides_next NO.out (by show sepSide xs ys t s.b s.c = false; unfold sepSide; rw [R0.out,R1.out,R2.out]; simp [h0,h1,h2]))
     go_wp2_with fail
     go_roundg 1
     case measure => omega
     case rel => exact ⟨1 + 1,rfl,by go_num,NX.out,HB2.out,⟨hl20,hl21,hl22⟩,⟨by go_simp,by go_simp,by go_simp,by go_simp,by go_simp,by go_simp,by go_simp,by go_simp,by go_simp⟩⟩
   ·have NX := hid (show ∀ j,j < 1 + 1 → sideB xs ys s t j = false from sides_next NO.out (by show sepSide xs ys t s.b s.c = false; unfold sepSide; rw [R0.out,R1.out]; simp [h0,h1]))
    go_wp2_with fail
    go_roundg 1
    case measure => omega
    case rel => exact ⟨1 + 1,rfl,by go_num,NX.out,HB1.out,⟨hl10,hl11,hl12⟩,⟨by go_simp,by go_simp,by go_simp,by go_simp,by go_simp,by go_simp,by go_simp,by go_simp,by go_simp⟩⟩
  ·have NX := hid (show ∀ j,j < 1 + 1 → sideB xs ys s t j = false from sides_next NO.out (by show sepSide xs ys t s.b s.c = false; unfold sepSide; rw [R0.out]; simp [h0]))
   go_wp2_with fail
   go_roundg 1
   case measure => omega
   case rel => exact ⟨1 + 1,rfl,by go_num,NX.out,HB0.out,⟨hl00,hl01,hl02⟩,⟨by go_simp,by go_simp,by go_simp,by go_simp,by go_simp,by go_simp,by go_simp,by go_simp,by go_simp⟩⟩
 ·obtain rfl : gk = 0 + 1 := by omega
  clear hk
  go_wp2_with fail
  obtain ⟨r0,hr0⟩ : ∃ r,turnI xs ys s.c s.a t.a = r := ⟨_,rfl⟩
  have C := impl_turn _ n xs ys s.c s.a t.a wr (HP.out.below HBr.out) HSX.out HSY.out HIS.out.2.2 HIS.out.1 HIT.out.1
  rw [hr0] at C
  have R0 := hid hr0
  clear hr0
  refine C.mono ?_
  clear C
  rintro _ w1 ⟨rfl,hb0⟩
  obtain ⟨hc_w1,hf_w1⟩ := bcell hb0
  have HB0 := hid (Below.next HBr.out hb0)
  have hl00 : w.heap.size < w1.heap.size := by have := hb0.size; omega
  have hl01 : ga < w1.heap.size := by have := hb0.size; omega
  have hl02 : gb < w1.heap.size := by have := hb0.size; omega
  by_cases h0 : r0 ≤ 0
  ·go_wp2_with fail
   obtain ⟨r1,hr1⟩ : ∃ r,turnI xs ys s.c s.a t.b = r := ⟨_,rfl⟩
   have C := impl_turn _ n xs ys s.c s.a t.b w1 (HP.out.below HB0.out) HSX.out HSY.out HIS.out.2.2 HIS.out.1 HIT.out.2.1
   rw [hr1] at C
   have R1 := hid hr1
   clear hr1
   refine C.mono ?_
   clear C
   rintro _ w2 ⟨rfl,hb1⟩
   obtain ⟨hc_w2,hf_w2⟩ := bcell hb1
   have HB1 := hid (Below.next HB0.out hb1)
   have hl10 : w.heap.size < w2.heap.size := by have := hb1.size; omega
   have hl11 : ga < w2.heap.size := by have := hb1.size; omega
   have hl12 : gb < w2.heap.size := by have := hb1.size; omega
   by_cases h1 : r1 ≤ 0
   ·go_wp2_with fail
    obtain ⟨r2,hr2⟩ : ∃ r,turnI xs ys s.c s.a t.c = r := ⟨_,rfl⟩
    have C := impl_turn _ n xs ys s.c s.a t.c w2 (HP.out.below HB1.out) HSX.out HSY.out HIS.out.2.2 HIS.out.1 HIT.out.2.2
    rw [hr2] at C
    have R2 := hid hr2
    clear hr2
    refine C.mono ?_
    clear C
    rintro _ w3 ⟨rfl,hb2⟩
    obtain ⟨hc_w3,hf_w3⟩ := bcell hb2
    have HB2 := hid (Below.next HB1.out hb2)
    have hl20 : w.heap.size < w3.heap.size := by have := hb2.size; omega
    have hl21 : ga < w3.heap.size := by have := hb2.size; omega
    have hl22 : gb < w3.heap.size := by have := hb2.size; omega
    by_cases h2 : r2 ≤ 0
    ·have E := hid (show sepI xs ys s t = true from sep_true (j := 2) (by decide) (by show sepSide xs ys t s.c s.a = true; unfold sepSide; rw [R0.out,R1.out,R2.out]; simp [h0,h1,h2]))
     go_wp2
     go_ret
     exact ⟨by rw [E.out]; rfl,HB2.out⟩
    ·have NX := hid (show ∀ j,j < 2 + 1 → sideB xs ys s t j = false from sides_next NO.out (by show sepSide xs ys t s.c s.a = false; unfold sepSide; rw [R0.out,R1.out,R2.out]; simp [h0,h1,h2]))
     go_wp2_with fail
     go_roundg 0
     case measure => omega
     case rel => exact ⟨2 + 1,rfl,by go_num,NX.out,HB2.out,⟨hl20,hl21,hl22⟩,⟨by go_simp,by go_simp,by go_simp,by go_simp,by go_simp,by go_simp,by go_simp,by go_simp,by go_simp⟩⟩
   ·have NX := hid (show ∀ j,j < 2 + 1 → sideB xs ys s t j = false from sides_next NO.out (by show sepSide xs ys t s.c s.a = false; unfold sepSide; rw [R0.out,R1.out]; simp [h0,h1]))
    go_wp2_with fail
    go_roundg 0
    case measure => omega
    case rel => exact ⟨2 + 1,rfl,by go_num,NX.out,HB1.out,⟨hl10,hl11,hl12⟩,⟨by go_simp,by go_simp,by go_simp,by go_simp,by go_simp,by go_simp,by go_simp,by go_simp,by go_simp⟩⟩
  ·have NX := hid (show ∀ j,j < 2 + 1 → sideB xs ys s t j = false from sides_next NO.out (by show sepSide xs ys t s.c s.a = false; unfold sepSide; rw [R0.out]; simp [h0]))
   go_wp2_with fail
   go_roundg 0
   case measure => omega
   case rel => exact ⟨2 + 1,rfl,by go_num,NX.out,HB0.out,⟨hl00,hl01,hl02⟩,⟨by go_simp,by go_simp,by go_simp,by go_simp,by go_simp,by go_simp,by go_simp,by go_simp,by go_simp⟩⟩
 ·have E := hid (show sepI xs ys s t = false from sep_false NO.out)
  clear hk
  go_wp2
  go_ret
  exact ⟨by rw [E.out]; rfl,HBr.out⟩

set_option maxHeartbeats 8000000 in
set_option maxRecDepth 10000 in
theorem impl_triangleOk (v : Value) (n : Nat) (xs ys : List Int) (vt : Value) (t : TTri) (bt : List Nat) (w : World) (hp : Plc w v n xs ys) (hsx : Small xs) (hsy : Small ys) (hn : n ≤ 40) (hT : Agg w vt t bt) (it : triIn n t)
  (hr : inB 0 t.region 2 = true) (hlv : inB 0 t.level 60 = true) (hpos : 0 < turnI xs ys t.a t.b t.c) :
  Calls Tryz.prog 77 #[v,vt] w (Gives w (.bool true)) := by
 have HP := hid hp; have HSX := hid hsx; have HSY := hid hsy; have HIT := hid it
 have IN0 := hid (show inB 0 t.a ((n : Int) - 1) = true by unfold inB; have := it.1; simp; omega)
 have IN1 := hid (show inB 0 t.b ((n : Int) - 1) = true by unfold inB; have := it.2.1; simp; omega)
 have IN2 := hid (show inB 0 t.c ((n : Int) - 1) = true by unfold inB; have := it.2.2; simp; omega)
 have HR := hid hr; have HLV := hid hlv
 obtain ⟨r,hrr⟩ : ∃ r,turnI xs ys t.a t.b t.c = r := ⟨_,rfl⟩
 rw [hrr] at hpos
 have R := hid hrr
 have hni : (n : Int) ≤ 40 := by omega
 obtain ⟨A,cA,X,oX,cX,Y,oY,cY,bX,bY,rfl,hX,hY⟩ := hp
 have HTa := hid hT
 obtain ⟨rfl, _, _, _, _, _, _⟩ := TTri.agg hT
 clear hT hX hY hsx hsy it hr hlv hrr
 go_enter Tryz.func77,Tryz.ntmps77
 go_wp2_with fail
 refine (impl_corners _ t _ _ (HTa.out.below Below.go)).mono ?_
 rintro _ w1 ⟨rfl,hb1⟩
 have HB1 := hid (show Below w.heap.size w w1 from Below.go)
 obtain ⟨hc_w1,hf_w1⟩ := bcell hb1
 have hz0_w1 : w.heap.size < w1.heap.size := by have := hb1.size; (try simp at this); omega
 have hz1_w1 : w.heap.size + 1 < w1.heap.size := by have := hb1.size; (try simp at this); omega
 go_wp2_with fail
 go_loopg [9] 3 (fun g s wr => ∃ k : Nat,k + g = 3 ∧ s = .int .i64 k ∧ Below w1.heap.size w1 wr)
 case atStart => exact ⟨0,rfl,rfl,Below.refl _ _⟩
 case round =>
  obtain ⟨k,hk,rfl,hb⟩ := hrel
  have HB := hid hb
  obtain ⟨hc_wr,hf_wr⟩ := bcell hb
  have hz0_wr : w.heap.size < wr.heap.size := by have := hb.size; omega
  have hz1_wr : w.heap.size + 1 < wr.heap.size := by have := hb.size; omega
  obtain rfl | rfl | rfl | rfl : k = 0 ∨ k = 1 ∨ k = 2 ∨ k = 3 := by omega
  ·obtain rfl : gk = 2 + 1 := by omega
   clear hk
   go_wp2_with fail
   have C := impl_within t.a 0 ((n : Int) - 1) wr
   rw [IN0.out] at C
   refine C.mono ?_
   clear C
   rintro _ w2 ⟨rfl,hb2⟩
   go_wp2_with fail
   go_roundg 2
   case measure => omega
   case rel => exact ⟨0 + 1,rfl,by go_num,Below.next HB.out hb2⟩
  ·obtain rfl : gk = 1 + 1 := by omega
   clear hk
   go_wp2_with fail
   have C := impl_within t.b 0 ((n : Int) - 1) wr
   rw [IN1.out] at C
   refine C.mono ?_
   clear C
   rintro _ w2 ⟨rfl,hb2⟩
   go_wp2_with fail
   go_roundg 1
   case measure => omega
   case rel => exact ⟨1 + 1,rfl,by go_num,Below.next HB.out hb2⟩
  ·obtain rfl : gk = 0 + 1 := by omega
   clear hk
   go_wp2_with fail
   have C := impl_within t.c 0 ((n : Int) - 1) wr
   rw [IN2.out] at C
   refine C.mono ?_
   clear C
   rintro _ w2 ⟨rfl,hb2⟩
   go_wp2_with fail
   go_roundg 0
   case measure => omega
   case rel => exact ⟨2 + 1,rfl,by go_num,Below.next HB.out hb2⟩
  ·clear hk
   go_wp2_with fail
   have C := impl_within t.region 0 2 wr
   rw [HR.out] at C
   refine C.mono ?_
   clear C
   rintro _ w2 ⟨rfl,hb2⟩
   obtain ⟨hc_w2,hf_w2⟩ := bcell hb2
   have hz0_w2 : w.heap.size < w2.heap.size := by have := hb2.size; omega
   have hz1_w2 : w.heap.size + 1 < w2.heap.size := by have := hb2.size; omega
   go_wp2_with fail
   have C := impl_within t.level 0 60 w2
   rw [HLV.out] at C
   refine C.mono ?_
   clear C
   rintro _ w3 ⟨rfl,hb3⟩
   obtain ⟨hc_w3,hf_w3⟩ := bcell hb3
   have hz0_w3 : w.heap.size < w3.heap.size := by have := hb3.size; omega
   have hz1_w3 : w.heap.size + 1 < w3.heap.size := by have := hb3.size; omega
   have HB3 := hid (Below.next (Below.next (Below.next HB1.out HB.out) hb2) hb3)
   go_wp2_with fail
   have C := impl_turn _ n xs ys t.a t.b t.c w3 (HP.out.below HB3.out) HSX.out HSY.out HIT.out.1 HIT.out.2.1 HIT.out.2.2
   rw [R.out] at C
   refine C.mono ?_
   clear C
   rintro _ w4 ⟨rfl,hb4⟩
   go_wp2
   go_ret
   exact ⟨rfl,Below.next HB3.out hb4⟩
end Go.Proofs.YtpfipnankjeokaaGreat.X
namespace Go.Proofs.YtpfipnankjeokaaGreat.X
open Go.RowKit Go.XB Go.XN
def clean (xs ys : List Int) (a b : Int) (n : Nat) : Prop := ∀ c : Nat,c < n → (c : Int) = a ∨ (c : Int) = b ∨ insideI xs ys a b c = false
def noIn (xs ys : List Int) (n : Nat) (t : TTri) : Prop := clean xs ys t.a t.b n ∧ clean xs ys t.b t.c n ∧ clean xs ys t.c t.a n
end Go.Proofs.YtpfipnankjeokaaGreat.X
namespace Go.Proofs.YtpfipnankjeokaaGreat.X
open Go.RowKit Go.XB Go.XN
attribute [local go_sem] fillBy opAt deps depOf Region.wanted yielded
attribute [local simp] deps depOf MP.eq MP.agg MP.sl Facts
attribute [local go_sem] ix0 ix1 ix2

set_option maxHeartbeats 16000000 in
set_option maxRecDepth 10000 in
theorem impl_hasInside (v : Value) (n : Nat) (xs ys : List Int) (B : Option Addr) (m d : Nat) (ts : List TTri) (ds : List Nat) (w : World) (hp : Plc w v n xs ys) (hsx : Small xs) (hsy : Small ys) (hn : n ≤ 40) (hx : Sl w B m d ts ds) (hm : m ≤ 48)
  (hin : ∀ t ∈ ts,triIn n t) (hno : ∀ t ∈ ts,noIn xs ys n t) :
  Calls Tryz.prog 80 #[v, .slice B m d] w (Gives w (.bool false)) := by
 have HP := hid hp; have HSX := hid hsx; have HSY := hid hsy; have HIN := hid hin; have HNOA := hid hno
 obtain ⟨A,cA,X,oX,cX,Y,oY,cY,bX,bY,rfl,hX,hY⟩ := hp
 have HX := hid hx
 clear hX hY hsx hsy hin hno hx
 go_enter Tryz.func80,Tryz.ntmps80
 go_wp2_with fail
 go_loopg [14] m (fun g s wr => ∃ k : Nat,k + g = m ∧ s = .int .i64 k ∧ Below w.heap.size w wr ∧ w.heap.size < wr.heap.size ∧ (wr.cell? ⟨w.heap.size,0,none⟩ = some (.slice A n cA) ∧ wr.cell? ⟨w.heap.size,1,none⟩ = some (.slice (some ⟨X,oX,none⟩) n cX) ∧ wr.cell? ⟨w.heap.size,2,none⟩ = some (.slice (some ⟨Y,oY,none⟩) n cY)))
 case atStart => exact ⟨0,by omega,rfl,Below.box _,by simp,⟨by go_simp,by go_simp,by go_simp⟩⟩
 case round =>
  obtain ⟨k,hk,rfl,hb,hzr,⟨k0,k1,k2⟩⟩ := hrel
  have HBW := hid hb
  rcases Nat.lt_or_ge k m with hkn | hkn
  ·have hki : (k : Int) < m := by omega
   have hk48 : (k : Int) ≤ 48 := by omega
   obtain ⟨be,of,t,rfl,hbl,hx1,e0,e1,e2,e3,e4,hag⟩ := TTri.elemA (HX.out.below HBW.out) hkn
   have HAG := hid hag
   have HIT := hid (HIN.out t (List.mem_of_getElem? hx1))
   have HNO := hid (HNOA.out t (List.mem_of_getElem? hx1))
   obtain ⟨g,rfl⟩ : ∃ g,gk = g + 1 := ⟨gk - 1,by omega⟩
   have hk' := hid (show k + 1 + g = m by omega)
   have HB := hid hb
   clear hk hkn hx1 hag hb
   go_wp2_with fail
   refine (impl_corners _ t _ (wr.alloc (.cells #[.int .i64 t.a, .int .i64 t.b, .int .i64 t.c, .int .i64 t.region, .int .i64 t.level] 77)) (HAG.out.below (Below.box _))).mono ?_
   rintro _ w1 ⟨rfl,hb1⟩
   obtain ⟨hc_w1,hf_w1⟩ := bcell hb1
   have hz1 : w.heap.size < w1.heap.size := by have := hb1.size; simp at this; omega
   have HB1 := hid (show Below w.heap.size w w1 from Below.next HBW.out (Below.trans (Below.box _) (hb1.mono (by simp))))
   go_wp2_with fail
   go_loopg [21] 3 (fun g s wr => ∃ i : Nat,i + g = 3 ∧ s = .int .i64 i ∧ Below w.heap.size w wr ∧ w1.heap.size < wr.heap.size ∧ (wr.cell? ⟨w.heap.size,0,none⟩ = some (.slice A n cA) ∧ wr.cell? ⟨w.heap.size,1,none⟩ = some (.slice (some ⟨X,oX,none⟩) n cX) ∧ wr.cell? ⟨w.heap.size,2,none⟩ = some (.slice (some ⟨Y,oY,none⟩) n cY) ∧ wr.cell? ⟨w1.heap.size,0,none⟩ = some (.int .i64 t.a) ∧ wr.cell? ⟨w1.heap.size,1,none⟩ = some (.int .i64 t.b) ∧ wr.cell? ⟨w1.heap.size,2,none⟩ = some (.int .i64 t.c)))
   case atStart => exact ⟨0,rfl,rfl,HB1.out.alloc (by omega) _,by simp,⟨by go_simp,by go_simp,by go_simp,by go_simp,by go_simp,by go_simp⟩⟩
   case round =>
   clear hc_w1 hf_w1 k0 k1 k2
   obtain ⟨i,hi,rfl,hb2,hs2,⟨c0,c1,c2,c3,c4,c5⟩⟩ := hrel
   have HB2 := hid hb2
   clear hb2
   obtain rfl | rfl | rfl | rfl : i = 0 ∨ i = 1 ∨ i = 2 ∨ i = 3 := by omega
   ·obtain rfl : gk = 2 + 1 := by omega
    clear hi
    go_wp2_with fail
    go_loopg [33] n (fun g s wr => ∃ c : Nat,c + g = n ∧ s = .int .i64 c ∧ Below w.heap.size w wr ∧ w1.heap.size < wr.heap.size ∧ (wr.cell? ⟨w.heap.size,0,none⟩ = some (.slice A n cA) ∧ wr.cell? ⟨w.heap.size,1,none⟩ = some (.slice (some ⟨X,oX,none⟩) n cX) ∧ wr.cell? ⟨w.heap.size,2,none⟩ = some (.slice (some ⟨Y,oY,none⟩) n cY) ∧ wr.cell? ⟨w1.heap.size,0,none⟩ = some (.int .i64 t.a) ∧ wr.cell? ⟨w1.heap.size,1,none⟩ = some (.int .i64 t.b) ∧ wr.cell? ⟨w1.heap.size,2,none⟩ = some (.int .i64 t.c)))
    case atStart => exact ⟨0,by omega,rfl,HB2.out,by omega,⟨c0,c1,c2,c3,c4,c5⟩⟩
    case round =>
     clear c0 c1 c2 c3 c4 c5 hs2
     obtain ⟨c,hc,rfl,hb3,hs3,⟨c0,c1,c2,c3,c4,c5⟩⟩ := hrel
     have HB3 := hid hb3
     have hl0 : w.heap.size < wr.heap.size := by omega
     rcases Nat.lt_or_ge c n with hcn | hcn
     ·have hci : (c : Int) < n := by omega
      have hc40 : (c : Int) ≤ 40 := by omega
      have CL := hid (HNO.out.1 c hcn)
      have CI := hid (show 0 ≤ (c : Int) ∧ (c : Int) < n from ⟨by omega,hci⟩)
      obtain ⟨g,rfl⟩ : ∃ g,gk = g + 1 := ⟨gk - 1,by omega⟩
      have hc' := hid (show c + 1 + g = n by omega)
      clear hc hcn
      by_cases ha : (c : Int) = t.a
      ·have hab : ((c : Int) == t.a) = true := by simp [ha]
       have HA := hid ha
       clear ha
       go_wp2_with fail
       go_roundg g
       case measure => omega
       case rel => exact ⟨c + 1,hc'.out,by go_num,HB3.out,hs3,⟨c0,c1,c2,c3,c4,c5⟩⟩
      by_cases hb : (c : Int) = t.b
      ·have hab : ((c : Int) == t.a) = false := by simp [ha]
       have hbb : ((c : Int) == t.b) = true := by simp [hb]
       have HBq := hid hb
       clear hb
       go_wp2_with fail
       go_roundg g
       case measure => omega
       case rel => exact ⟨c + 1,hc'.out,by go_num,HB3.out,hs3,⟨c0,c1,c2,c3,c4,c5⟩⟩
      ·have hab : ((c : Int) == t.a) = false := by simp [ha]
       have hbb : ((c : Int) == t.b) = false := by simp [hb]
       have F := hid (show insideI xs ys t.a t.b c = false by
        rcases CL.out with h | h | h
        ·exact absurd h ha
        ·exact absurd h hb
        ·exact h)
       go_wp2_with fail
       have C := impl_isInside _ n xs ys t.a t.b c wr (HP.out.below HB3.out) HSX.out HSY.out HIT.out.1 HIT.out.2.1 CI.out
       rw [F.out] at C
       refine C.mono ?_
       clear C
       rintro _ w4 ⟨rfl,hb4⟩
       obtain ⟨hc_w4,hf_w4⟩ := bcell hb4
       have hsz4 := hb4.size
       go_wp2_with fail
       go_roundg g
       case measure => omega
       case rel => exact ⟨c + 1,hc'.out,by go_num,Below.next HB3.out hb4,by omega,⟨by go_simp,by go_simp,by go_simp,by go_simp,by go_simp,by go_simp⟩⟩
     ·obtain rfl : c = n := by omega
      have hci : ¬ ((c : Int) < c) := by omega
      clear hc hcn
      go_wp2_with fail
      go_roundg 2
      case measure => omega
      case rel => exact ⟨0 + 1,rfl,by go_num,HB3.out,by omega,⟨c0,c1,c2,c3,c4,c5⟩⟩
   ·obtain rfl : gk = 1 + 1 := by omega
    clear hi
    go_wp2_with fail
    go_loopg [33] n (fun g s wr => ∃ c : Nat,c + g = n ∧ s = .int .i64 c ∧ Below w.heap.size w wr ∧ w1.heap.size < wr.heap.size ∧ (wr.cell? ⟨w.heap.size,0,none⟩ = some (.slice A n cA) ∧ wr.cell? ⟨w.heap.size,1,none⟩ = some (.slice (some ⟨X,oX,none⟩) n cX) ∧ wr.cell? ⟨w.heap.size,2,none⟩ = some (.slice (some ⟨Y,oY,none⟩) n cY) ∧ wr.cell? ⟨w1.heap.size,0,none⟩ = some (.int .i64 t.a) ∧ wr.cell? ⟨w1.heap.size,1,none⟩ = some (.int .i64 t.b) ∧ wr.cell? ⟨w1.heap.size,2,none⟩ = some (.int .i64 t.c)))
    case atStart => exact ⟨0,by omega,rfl,HB2.out,by omega,⟨c0,c1,c2,c3,c4,c5⟩⟩
    case round =>
     clear c0 c1 c2 c3 c4 c5 hs2
     obtain ⟨c,hc,rfl,hb3,hs3,⟨c0,c1,c2,c3,c4,c5⟩⟩ := hrel
     have HB3 := hid hb3
     have hl0 : w.heap.size < wr.heap.size := by omega
     rcases Nat.lt_or_ge c n with hcn | hcn
     ·have hci : (c : Int) < n := by omega
      have hc40 : (c : Int) ≤ 40 := by omega
      have CL := hid (HNO.out.2.1 c hcn)
      have CI := hid (show 0 ≤ (c : Int) ∧ (c : Int) < n from ⟨by omega,hci⟩)
      obtain ⟨g,rfl⟩ : ∃ g,gk = g + 1 := ⟨gk - 1,by omega⟩
      have hc' := hid (show c + 1 + g = n by omega)
      clear hc hcn
      by_cases ha : (c : Int) = t.b
      ·have hab : ((c : Int) == t.b) = true := by simp [ha]
       have HA := hid ha
       clear ha
       go_wp2_with fail
       go_roundg g
       case measure => omega
       case rel => exact ⟨c + 1,hc'.out,by go_num,HB3.out,hs3,⟨c0,c1,c2,c3,c4,c5⟩⟩
      by_cases hb : (c : Int) = t.c
      ·have hab : ((c : Int) == t.b) = false := by simp [ha]
       have hbb : ((c : Int) == t.c) = true := by simp [hb]
       have HBq := hid hb
       clear hb
       go_wp2_with fail
       go_roundg g
       case measure => omega
       case rel => exact ⟨c + 1,hc'.out,by go_num,HB3.out,hs3,⟨c0,c1,c2,c3,c4,c5⟩⟩
      ·have hab : ((c : Int) == t.b) = false := by simp [ha]
       have hbb : ((c : Int) == t.c) = false := by simp [hb]
       have F := hid (show insideI xs ys t.b t.c c = false by
        rcases CL.out with h | h | h
        ·exact absurd h ha
        ·exact absurd h hb
        ·exact h)
       go_wp2_with fail
       have C := impl_isInside _ n xs ys t.b t.c c wr (HP.out.below HB3.out) HSX.out HSY.out HIT.out.2.1 HIT.out.2.2 CI.out
       rw [F.out] at C
       refine C.mono ?_
       clear C
       rintro _ w4 ⟨rfl,hb4⟩
       obtain ⟨hc_w4,hf_w4⟩ := bcell hb4
       have hsz4 := hb4.size
       go_wp2_with fail
       go_roundg g
       case measure => omega
       case rel => exact ⟨c + 1,hc'.out,by go_num,Below.next HB3.out hb4,by omega,⟨by go_simp,by go_simp,by go_simp,by go_simp,by go_simp,by go_simp⟩⟩
     ·obtain rfl : c = n := by omega
      have hci : ¬ ((c : Int) < c) := by omega
      clear hc hcn
      go_wp2_with fail
      go_roundg 1
      case measure => omega
      case rel => exact ⟨1 + 1,rfl,by go_num,HB3.out,by omega,⟨c0,c1,c2,c3,c4,c5⟩⟩
   ·obtain rfl : gk = 0 + 1 := by omega
    clear hi
    go_wp2_with fail
    go_loopg [33] n (fun g s wr => ∃ c : Nat,c + g = n ∧ s = .int .i64 c ∧ Below w.heap.size w wr ∧ w1.heap.size < wr.heap.size ∧ (wr.cell? ⟨w.heap.size,0,none⟩ = some (.slice A n cA) ∧ wr.cell? ⟨w.heap.size,1,none⟩ = some (.slice (some ⟨X,oX,none⟩) n cX) ∧ wr.cell? ⟨w.heap.size,2,none⟩ = some (.slice (some ⟨Y,oY,none⟩) n cY) ∧ wr.cell? ⟨w1.heap.size,0,none⟩ = some (.int .i64 t.a) ∧ wr.cell? ⟨w1.heap.size,1,none⟩ = some (.int .i64 t.b) ∧ wr.cell? ⟨w1.heap.size,2,none⟩ = some (.int .i64 t.c)))
    case atStart => exact ⟨0,by omega,rfl,HB2.out,by omega,⟨c0,c1,c2,c3,c4,c5⟩⟩
    case round =>
     clear c0 c1 c2 c3 c4 c5 hs2
     obtain ⟨c,hc,rfl,hb3,hs3,⟨c0,c1,c2,c3,c4,c5⟩⟩ := hrel
     have HB3 := hid hb3
     have hl0 : w.heap.size < wr.heap.size := by omega
     rcases Nat.lt_or_ge c n with hcn | hcn
     ·have hci : (c : Int) < n := by omega
      have hc40 : (c : Int) ≤ 40 := by omega
      have CL := hid (HNO.out.2.2 c hcn)
      have CI := hid (show 0 ≤ (c : Int) ∧ (c : Int) < n from ⟨by omega,hci⟩)
      obtain ⟨g,rfl⟩ : ∃ g,gk = g + 1 := ⟨gk - 1,by omega⟩
      have hc' := hid (show c + 1 + g = n by omega)
      clear hc hcn
      by_cases ha : (c : Int) = t.c
      ·have hab : ((c : Int) == t.c) = true := by simp [ha]
       have HA := hid ha
       clear ha
       go_wp2_with fail
       go_roundg g
       case measure => omega
       case rel => exact ⟨c + 1,hc'.out,by go_num,HB3.out,hs3,⟨c0,c1,c2,c3,c4,c5⟩⟩
      by_cases hb : (c : Int) = t.a
      ·have hab : ((c : Int) == t.c) = false := by simp [ha]
       have hbb : ((c : Int) == t.a) = true := by simp [hb]
       have HBq := hid hb
       clear hb
       go_wp2_with fail
       go_roundg g
       case measure => omega
       case rel => exact ⟨c + 1,hc'.out,by go_num,HB3.out,hs3,⟨c0,c1,c2,c3,c4,c5⟩⟩
      ·have hab : ((c : Int) == t.c) = false := by simp [ha]
       have hbb : ((c : Int) == t.a) = false := by simp [hb]
       have F := hid (show insideI xs ys t.c t.a c = false by
        rcases CL.out with h | h | h
        ·exact absurd h ha
        ·exact absurd h hb
        ·exact h)
       go_wp2_with fail
       have C := impl_isInside _ n xs ys t.c t.a c wr (HP.out.below HB3.out) HSX.out HSY.out HIT.out.2.2 HIT.out.1 CI.out
       rw [F.out] at C
       refine C.mono ?_
       clear C
       rintro _ w4 ⟨rfl,hb4⟩
       obtain ⟨hc_w4,hf_w4⟩ := bcell hb4
       have hsz4 := hb4.size
       go_wp2_with fail
       go_roundg g
       case measure => omega
       case rel => exact ⟨c + 1,hc'.out,by go_num,Below.next HB3.out hb4,by omega,⟨by go_simp,by go_simp,by go_simp,by go_simp,by go_simp,by go_simp⟩⟩
     ·obtain rfl : c = n := by omega
      have hci : ¬ ((c : Int) < c) := by omega
      clear hc hcn
      go_wp2_with fail
      go_roundg 0
      case measure => omega
      case rel => exact ⟨2 + 1,rfl,by go_num,HB3.out,by omega,⟨c0,c1,c2,c3,c4,c5⟩⟩
   ·clear hi
    go_wp2_with fail
    go_roundg g
    case measure => omega
    case rel => exact ⟨k + 1,hk'.out,by go_num,HB2.out,by omega,⟨c0,c1,c2⟩⟩
  ·obtain rfl : k = m := by omega
   have hki : ¬ ((k : Int) < k) := by omega
   clear hk hkn
   go_wp2
   go_ret
   exact ⟨rfl,HBW.out⟩
end Go.Proofs.YtpfipnankjeokaaGreat.X
