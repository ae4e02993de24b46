/- A part of the proof. -/
import Derived.Test.YtbhemnidcleaiaaGreatY3
import Derived.Test.YtbhemnidcleaiaaGreatY5
import Derived.Deep.LoopGhost
set_option linter.constructorNameAsVariable false
set_option maxHeartbeats 16000000
set_option maxRecDepth 10000
namespace Go.Proofs.YtbhemnidcleaiaaGreat.X
open Go.RowKit Go.XB
attribute [local go_sem] O_ opAt P_ M_ Region.wanted yielded
attribute [local simp] P_ M_ MP.eq MP.agg MP.sl A0e

theorem A3m (N:Int) (h0:0<N) (h1:N≤256) (g:Nat) (A:Option Addr) (n c:Nat) (xs:List TByte) (bs:List Nat) (w:World) (hx:Sl w A n c xs bs) (hn:n≤1048576) (hc:Cur w g A n c) (hg:g∉bs) :
  Calls Tryz.prog 48 #[.pointer (some ⟨g,0,none⟩),.int .i64 N] w (C1d w g A n c N):=by
 have C:=A_ (C1l g A n c xs bs w hx hn hc hg)
 have z0:¬ (N≤0):=by omega
 clear hx hc hg
 go_enter Tryz.func48,Tryz.ntmps48
 go_wp2_with fail
 refine C.o.mono ?_
 rintro _ w1 ⟨x,rfl,hx,hc,hgr⟩
 have HC:=A_ hc;have HG:=A_ hgr
 have hx0:=hx.1
 have hN:¬ (N=0):=by omega
 clear hc hgr
 go_wp2
 go_ret
 refine ⟨_,rfl,?_,HC.o,HG.o⟩
 first
  | exact ⟨Int.emod_nonneg _ (by omega),Int.emod_lt_of_pos _ h0⟩
  | (rw[Int.tmod_eq_emod_of_nonneg hx0];exact ⟨Int.emod_nonneg _ (by omega),Int.emod_lt_of_pos _ h0⟩)

theorem C3p (A:Option Addr) (n c:Nat) (xs:List TByte) (bs:List Nat) (w:World) (hx:Sl w A n c xs bs) (hn:n≤1048576) :
  Calls Tryz.prog 26 #[.slice A n c] w (fun e w'=>e=.returned (.pointer (some ⟨w.heap.size,0,none⟩))∧Cur w' w.heap.size A n c∧Below w.heap.size w w'∧w.heap.size<w'.heap.size):=by
 have HX:=A_ hx
 clear hx
 go_enter Tryz.func26,Tryz.ntmps26
 go_wp2_with fail
 go_loopg [3,4] n (fun g s3 s4 wr=>∃ (i:Nat) (h:Int),i+g=n∧s3=.int .i64 h∧s4=.int .i64 i∧wr=w)
 case atStart=>exact ⟨0,_,by omega,rfl,rfl,rfl⟩
 case round =>
  obtain ⟨i,h,hi,rfl,rfl,rfl⟩:=hrel
  rcases Nat.lt_or_ge i n with hin | hin
  ·obtain ⟨b,off,x,rfl,hb,hbm,hx1,cx⟩:=Sl.getByte HX.o hin
   obtain ⟨g,rfl⟩:∃ g,gk=g+1:=⟨gk - 1,by omega⟩
   have hk':=A_ (show i+1+g=n by omega)
   have hii:(i:Int)<n:=by omega
   have hi0:(0:Int)≤i:=by omega
   have hiN:i≤1048576:=by omega
   by_cases h4:(i:Int)<4000
   ·clear hi hin
    go_wp2_with fail
    go_roundg g
    case measure=>omega
    case rel=>exact ⟨i+1,_,hk'.o,rfl,by go_num,rfl⟩
   clear hi hin
   go_wp2
   go_ret
   refine ⟨rfl,⟨0,_,Nat.zero_le _,by simp,by go_simp,by go_simp,by go_simp;first | done | rfl,by go_simp,by go_simp⟩,Below.go,by simp⟩
  have hii:¬ ((i:Int)<n):=by omega
  clear hi hin
  go_wp2
  go_ret
  refine ⟨rfl,⟨0,_,Nat.zero_le _,by simp,by go_simp,by go_simp,by go_simp;first | done | rfl,by go_simp,by go_simp⟩,Below.go,by simp⟩
end Go.Proofs.YtbhemnidcleaiaaGreat.X
