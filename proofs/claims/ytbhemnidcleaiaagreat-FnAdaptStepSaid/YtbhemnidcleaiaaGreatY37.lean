/- A part of the proof. -/
import Derived.Test.YtbhemnidcleaiaaGreatY3
import Derived.Test.YtbhemnidcleaiaaGreatY5
import Derived.Deep.LoopGhost
set_option linter.constructorNameAsVariable false
set_option maxHeartbeats 16000000
set_option maxRecDepth 10000
namespace Go.Proofs.YtbhemnidcleaiaaGreat.X
open Go.RowKit Go.XB Proofs.Tryz
attribute [local go_sem] L_ opAt N_ M_ Region.wanted yielded
attribute [local simp] N_ M_ MP.eq MP.agg MP.sl A0r
theorem A5q (N:Int) (D:0<N) (O:N<=256) (g:Nat) (A:Option Addr) (n c:Nat) (xs:List TByte) (u:List Nat) (w:World) (h:Sl w A n c xs u) (J:n<=1048576) (b:Cur w g A n c) (E:g∉u) :
  Calls prog 48 #[.pointer (some ⟨g,0,none⟩),.int .i64 N] w (C9r w g A n c N):=by
 have C:=A_ (D2v g A n c xs u w h J b E);have W:¬ (N<=0):=oM;clear h b E;go_enter func48,ntmps48;go_wp2_with fail;refine C.mono ?_;rintro _ T ⟨x,rfl,h,b,G⟩;have H:=A_ b;have I:=A_ G;have K:=h.1;have S:¬ (N=0):=oM;clear b G;go_wp2;go_ret;refine⟨_,rfl,?_,H,I⟩
 first
  |exact⟨Int.emod_nonneg _ oM,Int.emod_lt_of_pos _ D⟩
  |(rw[Int.tmod_eq_emod_of_nonneg K];exact⟨Int.emod_nonneg _ oM,Int.emod_lt_of_pos _ D⟩)

theorem C2z (A:Option Addr) (n c:Nat) (xs:List TByte) (G:List Nat) (w:World) (D:Sl w A n c xs G) (Y:n<=1048576) :
  Calls prog 26 #[.slice A n c] w (λe w'=>e=.returned (.pointer (some ⟨w.1.size,0,none⟩))/\Cur w' w.1.size A n c/\Bw w w'/\w.1.size<w'.1.size):=by
 have E:=A_ D;clear D;go_enter func26,ntmps26;go_wp2_with fail;go_loopg [3,4] n (λg s3 s4 wr=>∃ (i:Nat) (u:Int),i+g=n/\s3=.int .i64 u/\s4=.int .i64 i/\wr=w);case atStart=>exact⟨0,_,oM,rfl,rfl,rfl⟩
 case round =>
  obtain⟨i,u,h,rfl,rfl,rfl⟩:=hrel;rcases Nat.lt_or_ge i n with b|b
  ·obtain⟨J,aa,x,rfl,S,T,Z,K⟩:=Sl.getByte E b
   obtain⟨g,rfl⟩:∃ g,gk=g+1:=⟨gk - 1,oM⟩
   have I:=A_ (by omega:i+1+g=n);have H:(i:Int)<n:=oM;have W:(0:Int)<=i:=oM;have X:i<=1048576:=oM;by_cases O:(i:Int)<4000
   ·clear h b
    go_wp2_with fail;go_roundg g;case measure=>omega
    case rel=>exact⟨i+1,_,I,rfl,by go_num,rfl⟩
   clear h b;go_wp2;go_ret;refine⟨rfl,⟨0,_,Nat.zero_le _,sI,by go_simp,by go_simp,by go_simp;first|done|rfl,by go_simp,by go_simp⟩,Below.go,sI⟩
  have H:¬ ((i:Int)<n):=oM;clear h b;go_wp2;go_ret;refine⟨rfl,⟨0,_,Nat.zero_le _,sI,by go_simp,by go_simp,by go_simp;first|done|rfl,by go_simp,by go_simp⟩,Below.go,sI⟩
end Go.Proofs.YtbhemnidcleaiaaGreat.X
