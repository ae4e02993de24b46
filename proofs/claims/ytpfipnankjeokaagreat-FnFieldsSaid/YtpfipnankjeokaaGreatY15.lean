/- Part of a claim's proof: texts of this repository's wip,joined by prune.py,without the theorems that the claim does not reach. -/
import Derived.Test.YtpfipnankjeokaaGreatY6
import Derived.Test.YtpfipnankjeokaaGreatY14
import Derived.Test.YtpfipnankjeokaaGreatY13
import Derived.Deep.RegionHeld3
/- The laws' points: l01Once,l31New,l05Point,MakePoint. -/
namespace Go.Proofs.YtpfipnankjeokaaGreat.X
open Go.RowKit Go.XB Go.XN
attribute [local go_sem] fillBy opAt deps depOf Region.wanted yielded
attribute [local simp] deps depOf MP.eq MP.agg MP.sl Facts
set_option linter.constructorNameAsVariable false

def GivesOnce (w : World) (g : Nat) (A : Option Addr) (n c : Nat) (e : Ending) (w' : World) : Prop := ∃ b : Bool,e = .returned (.bool b) ∧ Cur w' g A n c ∧ w.grownBy w' (some g)
set_option maxHeartbeats 1000000 in
theorem spec_l01Once (N : Int) (h0 : 0 < N) (h1 : N ≤ 256) (g : Nat) (A : Option Addr) (n c : Nat) (xs : List TByte) (bs : List Nat) (w : World) (hx : Sl w A n c xs bs) (hn : n ≤ 1048576) (hc : Cur w g A n c) (hg : g ∉ bs) :
  Calls Tryz.prog 71 #[.pointer (some ⟨g,0,none⟩), .int .i64 N] w (GivesOnce w g A n c) := by
 have C := hid (spec_l01Below N h0 h1 g A n c xs bs w hx hn hc hg)
 clear hx hc hg
 go_enter Tryz.func71,Tryz.ntmps71
 go_wp2_with fail
 refine C.out.mono ?_
 rintro _ w1 ⟨x,rfl,hx,hc,hgr⟩
 have HC := hid hc; have HG := hid hgr
 clear hc hgr
 go_wp2
 go_ret
 exact ⟨_,rfl,HC.out,HG.out⟩

theorem Cur.keep' {w w' : World} {g : Nat} {A : Option Addr} {n c : Nat} (h : Cur w g A n c) (hk : w'.heap[g]? = w.heap[g]?) (hs : w.heap.size ≤ w'.heap.size) : Cur w' g A n c := by
 obtain ⟨i,x,h1,h2,h3,h4,h5,h6,h7⟩ := h
 exact ⟨i,x,h1,by omega,(World.cell?_of_block hk).trans h3,(World.cell?_of_block hk).trans h4,(World.cell?_of_block hk).trans h5,(World.frozen?_of_block hk).trans h6,(World.frozen?_of_block hk).trans h7⟩
theorem Cur.below' {w w' : World} {g : Nat} {A : Option Addr} {n c : Nat} (h : Cur w g A n c) (hb : Below w.heap.size w w') : Cur w' g A n c := by
 have hl : g < w.heap.size := by obtain ⟨i,x,h1,h2, _⟩ := h; exact h2
 exact h.keep' (hb.block g hl) hb.size
theorem Cur.lt' {w : World} {g : Nat} {A : Option Addr} {n c : Nat} (h : Cur w g A n c) : g < w.heap.size := by obtain ⟨i,x,h1,h2, _⟩ := h; exact h2

set_option maxHeartbeats 2000000 in
set_option maxRecDepth 10000 in
theorem spec_l31New (k : Nat) (hk : k ≤ 1000) (A : Option Addr) (n c : Nat) (xs : List TByte) (bs : List Nat) (w : World) (hx : Sl w A n c xs bs) (hn : n ≤ 1048576) :
  Calls Tryz.prog 29 #[.slice A n c, .int .i64 k] w (fun e w' => e = .returned (.pointer (some ⟨w.heap.size,0,none⟩)) ∧ Cur w' w.heap.size A n c ∧ Below w.heap.size w w' ∧ w.heap.size < w'.heap.size) := by
 have HX := hid hx
 have HG := hid (show w.heap.size ∉ bs from fun h => absurd (hx.lt _ h) (Nat.lt_irrefl _))
 clear hx
 go_enter Tryz.func29,Tryz.ntmps29
 go_wp2_with fail
 refine (spec_l01New A n c xs bs w HX.out hn).mono ?_
 rintro _ w1 ⟨rfl,hc,hb1,hl1⟩
 have HC1 := hid hc; have HB1 := hid hb1
 clear hc hb1
 go_wp2_with fail
 go_loopg [6] k (fun g s wr => ∃ i : Nat,i + g = k ∧ s = .int .i64 i ∧ Hid (Cur wr w.heap.size A n c) ∧ Hid (Below w.heap.size w wr) ∧ w.heap.size < wr.heap.size)
 case atStart => exact ⟨0,by omega,rfl,HC1.out,HB1.out,hl1⟩
 case round =>
  obtain ⟨i,hi,rfl,hc,hb,hl⟩ := hrel
  rcases Nat.lt_or_ge i k with hin | hin
  ·obtain ⟨g,rfl⟩ : ∃ g,gk = g + 1 := ⟨gk - 1,by omega⟩
   have hk' := hid (show i + 1 + g = k by omega)
   have hii : (i : Int) < k := by omega
   have hi1 : (i : Int) ≤ 1000 := by omega
   clear hi hin
   go_wp2_with fail
   refine (spec_l01Byte w.heap.size A n c xs bs wr (HX.out.below hb.out) hn hc.out HG.out).mono ?_
   rintro _ w2 ⟨x,rfl, _,hc2,hg2⟩
   have HC2 := hid hc2
   have HB2 := hid (hb.out.grown hg2 hb.out.size (fun k hk => by injection hk with h; subst h; exact Nat.le_refl _))
   have hl2 : w.heap.size < w2.heap.size := by have := hg2.size; omega
   clear hc2 hg2
   go_wp2_with fail
   go_roundg g
   case measure => omega
   case rel => exact ⟨i + 1,hk'.out,by go_num,HC2.out,HB2.out,hl2⟩
  ·have hii : ¬ ((i : Int) < k) := by omega
   clear hi hin
   go_wp2
   go_ret
   exact ⟨rfl,hc.out,hb.out,hl⟩
end Go.Proofs.YtpfipnankjeokaaGreat.X
