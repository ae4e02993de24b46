/- A part of the proof. -/
import Derived.Test.YtjcanieccnljfaaGreatY3
import Derived.Test.YtjcanieccnljfaaGreatY5
import Derived.Deep.LoopGhost
set_option linter.constructorNameAsVariable false
set_option maxHeartbeats 16000000
set_option maxRecDepth 10000
open Int renaming emod_lt_of_pos→MD,emod_nonneg→MI
namespace Go.Proofs.YtjcanieccnljfaaGreat.X
open Go.RowKit Go.XB Proofs.Tryz
attribute [local go_sem] L_ opAt N_ M_ Region.wanted yielded
attribute [local simp] N_ M_ MP.eq MP.agg MP.sl A0r
theorem A5q (N:Int) (u:0<N) (W:N<=256) (g:Nat) (A:Option Addr) (n c:Nat) (xs:List TByte) (bs:List Nat) (w:World) (h:Sl w A n c xs bs) (O:n<=1048576) (b:Cur w g A n c) (D:g∉bs) :
  Calls prog 80 #[.pointer (some ⟨g,0,none⟩),.int .i64 N] w (C9r w g A n c N):=by
 have C:=A_ (D2v g A n c xs bs w h O b D);have Z:¬ (N<=0):=oS;clear h b D;go_enter func80,ntmps80;go_wp2_with fail;refine C.mono ?_;rintro _ Y ⟨x,rfl,h,b,E⟩;have G:=A_ b;have H:=A_ E;have T:=h.1;have X:¬ (N=0):=oS;clear b E;go_wp2;go_ret;refine⟨_,rfl,?_,G,H⟩
 first
  |exact⟨MI _ oS,MD _ u⟩
  |(rw[Int.tmod_eq_emod_of_nonneg T];exact⟨MI _ oS,MD _ u⟩)

theorem C2z (A:Option Addr) (n c:Nat) (xs:List TByte) (bs:List Nat) (w:World) (D:Sl w A n c xs bs) (ab:n<=1048576) :
  Calls prog 18 #[.slice A n c] w (λe w'=>e=.returned (.pointer (some ⟨w.1.size,0,none⟩))/\Cur w' w.1.size A n c/\Bw w w'/\w.1.size<w'.1.size):=by
 have E:=A_ D;clear D;go_enter func18,ntmps18;go_wp2_with fail;go_loopg [3,4] n (λg s3 s4 wr=>∃ (i:Nat) (u:Int),i+g=n/\s3=.int .i64 u/\s4=.int .i64 i/\wr=w);case atStart=>exact⟨0,_,oS,rfl,rfl,rfl⟩
 case round =>
  obtain⟨i,u,h,rfl,rfl,rfl⟩:=hrel;rcases Nat.lt_or_ge i n with b|b
  ·obtain⟨O,ad,x,rfl,X,Y,ac,T⟩:=Sl.getByte E b
   obtain⟨g,rfl⟩:∃ g,gk=g+1:=⟨gk - 1,oS⟩
   have H:=A_ (by omega:i+1+g=n);have G:(i:Int)<n:=oS;have Z:(0:Int)<=i:=oS;have aa:i<=1048576:=oS;by_cases W:(i:Int)<4000
   ·clear h b
    go_wp2_with fail;go_roundg g;case measure=>omega
    case rel=>exact⟨i+1,_,H,rfl,by go_num,rfl⟩
   clear h b;go_wp2;go_ret;refine⟨rfl,⟨0,_,Nat.zero_le _,sI,by go_simp,by go_simp,by go_simp;first|done|rfl,by go_simp,by go_simp⟩,Below.go,sI⟩
  have G:¬ ((i:Int)<n):=oS;clear h b;go_wp2;go_ret;refine⟨rfl,⟨0,_,Nat.zero_le _,sI,by go_simp,by go_simp,by go_simp;first|done|rfl,by go_simp,by go_simp⟩,Below.go,sI⟩
end Go.Proofs.YtjcanieccnljfaaGreat.X
