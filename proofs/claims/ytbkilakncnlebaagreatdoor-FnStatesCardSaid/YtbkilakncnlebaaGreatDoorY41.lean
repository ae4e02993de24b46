/- A part of the proof. -/
import Derived.Test.YtbkilakncnlebaaGreatDoorY40
import Derived.Test.YtbkilakncnlebaaGreatDoorY53
import Derived.Test.YtbkilakncnlebaaGreatDoorY54
set_option linter.constructorNameAsVariable false
set_option maxHeartbeats 16000000
set_option maxRecDepth 100000
open Bool renaming true→AD
open List renaming all_eq_true→BJ,replicate→CJ
namespace Go.Proofs.YtbkilakncnlebaaGreatDoor.X
open Go.RowKit Go.XB Go.XN
theorem F7e (q u z:QI) (fs us:List TRat):enL ⟨A4d 0,[kq q,kq u,kq z],fs⟩ us=enL ⟨A4d 0,[kq q,kq u,kq (1,1)],[]⟩ us:=rfl
theorem F7h (q u z:QI) (fs us:List TRat):enL ⟨A4d 1,[kq q,kq u,kq z],fs⟩ us=enL ⟨A4d 1,[kq q,kq u,kq (1,1)],[]⟩ us:=rfl
theorem F6n (q u z:QI) (fs us:List TRat):enL ⟨B0j 0,[kq q,kq u,kq z],fs⟩ us=enL ⟨B0j 0,[kq q,kq (1,1),kq (1,1)],[]⟩ us:=rfl
theorem F6i (q u z:QI) (fs us:List TRat):enL ⟨B0j 1,[kq q,kq u,kq z],fs⟩ us=enL ⟨B0j 1,[kq q,kq u,kq (1,1)],[]⟩ us:=rfl
theorem F7a (q u z:QI) (fs us:List TRat):enL ⟨B0j 2,[kq q,kq u,kq z],fs⟩ us=enL ⟨B0j 2,[kq q,kq (1,1),kq z],[]⟩ us:=rfl
theorem F6d (q u z:QI) (fs us:List TRat):enL ⟨C2p 0,[kq q,kq u,kq z],fs⟩ us=enL ⟨C2p 0,[kq q,kq u,kq z],[]⟩ us:=rfl
theorem F8t {r:Int} (D:0<=r/\r<2) {q u:QI} (h:q∈ad6) (b:u∈ad6):enA r q u=AD:=by
 obtain rfl|rfl:r=0\/r=1:=oS;·exact six (P:=λq=>enA 0 q u=AD) (BJ.1 F8h u b) (BJ.1 F7x u b) (BJ.1 F8b u b) (BJ.1 F8j u b) (BJ.1 F8p u b) (BJ.1 F8a u b) h
 exact six (P:=λq=>enA 1 q u=AD) (BJ.1 F8l u b) (BJ.1 F8c u b) (BJ.1 F8f u b) (BJ.1 F8s u b) (BJ.1 F8n u b) (BJ.1 F8r u b) h
theorem F8k {r a b:Int} (H:0<=r/\r<2) {q u:QI} (G:q∈ad6) (O:u∈ad6) (T:-1<=a/\a<=3) (W:-1<=b/\b<=3) (z:QI) (D:List TRat):J_ (enL ⟨A4d r,[kq q,kq u,kq z],D⟩ (us0 r q u a b))=AD:=by
 have E:=F8t H G O;have h:=BJ.1 (BJ.1 E a oR) b oR;obtain rfl|rfl:r=0\/r=1:=oS
 ·rw[F7e];exact h
 rw[F7h];exact h
theorem F8v {r:Int} (G:0<=r/\r<3) {q u z:QI} (b:q∈ad6) (D:u∈ad6) (E:z∈ad6) (h:List TRat):J_ (enL ⟨B0j r,[kq q,kq u,kq z],h⟩ (CJ 4 (U_ 0)))=AD:=by
 obtain rfl|rfl|rfl:r=0\/r=1\/r=2:=oS;·rw[F6n];exact BJ.1 F8g q b
 ·rw[F6i];exact BJ.1 (BJ.1 F8e q b) u D
 rw[F7a];exact BJ.1 (BJ.1 F7z q b) z E
theorem F8u {q u z:QI} (G:q∈ad6) (b:u∈ad6) (h:z∈ad6) (D:List TRat):J_ (enL ⟨C2p 0,[kq q,kq u,kq z],D⟩ (CJ 8 (U_ 0)))=AD:=by
 rw[F6d];have E:=six (P:=λq=>∀ u∈ad6,∀ z∈ad6,enZ (C2p 0) q u z=AD) (λu b z h=>BJ.1 (BJ.1 F8d u b) z h) (λu b z h=>BJ.1 (BJ.1 F8q u b) z h) (λu b z h=>BJ.1 (BJ.1 F8m u b) z h) (λu b z h=>BJ.1 (BJ.1 F8o u b) z h) (λu b z h=>BJ.1 (BJ.1 F8i u b) z h) (λu b z h=>BJ.1 (BJ.1 F7y u b) z h) G;exact E u b z h
theorem F7n {M:Int} {xs:List TRat} (h:OvL M xs) (E:xs.length<=100) (D:0<xs.length):J_ (A8v xs)=AD:=by
 obtain⟨u0,_,u⟩:=h 0 D;obtain⟨t,_,b⟩:=E4k xs (U_ 0) 0 0 (λx b=>h.mem b) u.zero (Int.le_refl _) sI oS;exact b.val
theorem F4q {p:TProblem} (h:B4x p):∃ os,SdD p (xsA p.1) (ysA p.1) os/\LinD p (A8r p os)/\J_ (enL p (A8r p os))=AD/\J_ (A2z p os).bound=AD:=by
 obtain⟨os,ks,ul,s,D,O,H⟩:=F7d h (λp us=>J_ (enL p us)=AD) (λE b u T W=>F8k E b u T W _ _) (λE b u G=>F8v E b u G _) (λb u G=>F8u b u G _);refine⟨os,D,D.flux.lin,H,F7n O.ind ?_ ?_⟩;·have:(C3k p (A8r p os) (A4i p (A8r p os))).length=p.1.triangles.length:=D3z p _ _;have:=D.sol.md.1.t48;omega
 have:(C3k p (A8r p os) (A4i p (A8r p os))).length=p.1.triangles.length:=D3z p _ _;have:=D.t1;omega
end Go.Proofs.YtbkilakncnlebaaGreatDoor.X
