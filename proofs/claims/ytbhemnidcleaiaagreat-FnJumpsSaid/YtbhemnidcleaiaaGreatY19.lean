/- A part of the proof. -/
import Derived.Test.YtbhemnidcleaiaaGreatY18
import Derived.Test.YtbhemnidcleaiaaGreatY17
import Derived.Deep.RegionHeld3
import Derived.Test.YtbhemnidcleaiaaGreatY12
set_option linter.constructorNameAsVariable false
set_option maxHeartbeats 16000000
set_option maxRecDepth 10000
namespace Go.Proofs.YtbhemnidcleaiaaGreat.X
open Go.RowKit Go.XB Go.XN
def B5r (p:TProblem) (us:List TRat):Nat→TRat
 | 0=>A1y 0
 | k+1=>A2d (B5r p us k) (leT p us (p.mesh.triangles.getD k ⟨0,0,0,0,0⟩))
def enL (p:TProblem) (us:List TRat):TRat:=B5r p us p.mesh.triangles.length
attribute [local go_sem] O_ Go.XB.opAt P_ M_ Region.wanted yielded
attribute [local simp] P_ M_ MP.eq MP.agg MP.aggS MP.aggN MP.sl MP.slbox MP.box A0e
theorem C3x (v:Value) (p:TProblem) (b:List Nat) (B:Option Addr) (n d:Nat) (us:List TRat) (ds:List Nat) (w:World) (hx:Agg w v p b) (hu:Sl w B n d us ds) (hl:LinD p us) :
  Calls Tryz.prog 42 #[v,.slice B n d] w (X_ w (enL p us)):=by
 have HX:=A_ hx;have HU:=A_ hu;have HL:=A_ hl
 obtain ⟨A0,n0,c0,s0,A1,n1,c1,s1,A2,n2,c2,s2,A3,n3,c3,s3,rfl,rfl,hs0,hs1,hs2,hs3⟩:=TProblem.agg hx
 have HT1:=A_ hs1.1
 have hn1:n1≤48:=by rw[← hs1.1];exact hl.t48
 have hn1i:(n1:Int)≤48:=by omega
 clear hs0 hs1 hs2 hs3 hx hu hl
 go_enter Tryz.func42,Tryz.ntmps42
 go_upto_region 1 with fail
 obtain ⟨W,hW⟩:∃ W,W=(w.alloc (.cells #[.slice A0 n0 c0,.slice A1 n1 c1,.slice A2 n2 c2,.slice A3 n3 c3] 29)).alloc (.cells #[.bool false,.slice none 0 0,.slice none 0 0] 35):=⟨_,rfl⟩
 have BW:=A_ (show Below w.heap.size w W by rw[hW];exact (Below.box _).alloc (by simp) _)
 have K0:=A_ (show W.heap[w.heap.size]?=some (.cells #[.slice A0 n0 c0,.slice A1 n1 c1,.slice A2 n2 c2,.slice A3 n3 c3] 29) by rw[hW];exact A0v (heap_alloc_new w _) (Below.box _))
 have K1:=A_ (show W.heap[w.heap.size+1]?=some (.cells #[.bool false,.slice none 0 0,.slice none 0 0] 35) by
  rw[hW];have:=heap_alloc_new (w.alloc (.cells #[.slice A0 n0 c0,.slice A1 n1 c1,.slice A2 n2 c2,.slice A3 n3 c3] 29)) (.cells #[.bool false,.slice none 0 0,.slice none 0 0] 35);rwa [World.size_alloc] at this)
 have ZW:=A_ (show W.heap.size=w.heap.size+2 by rw[hW];simp)
 rw[← hW]
 clear hW
 go_wp2_with fail
 refine (A2k 0 W (by constructor<;>decide)).mono ?_
 rintro _ wa ⟨va,sa,rfl,haa,hoa,hba⟩
 obtain ⟨P1,p1,q1,e1,P2,p2,q2,e2,rfl,-,-,-⟩:=TRat.agg haa
 have hsz:=hba.size
 obtain ⟨W1,hW1⟩:∃ W1,W1=wa.alloc (.cells #[.bool (A1y 0).num.neg,.slice P1 p1 q1,.slice P2 p2 q2] 35):=⟨_,rfl⟩
 have B1:=A_ (show Below wa.heap.size wa W1 by rw[hW1];exact Below.box _)
 have KG:=A_ (show W1.heap[wa.heap.size]?=some (.cells #[.bool (A1y 0).num.neg,.slice P1 p1 q1,.slice P2 p2 q2] 35) by rw[hW1];exact heap_alloc_new wa _)
 have K01:=A_ (A0v (A0v K0.o hba) B1.o)
 have HA0:=A_ (show AccSt w W1 wa.heap.size (w.heap.size+1) (B5r p us 0) P1 p1 q1 P2 p2 q2 sa from by
  have z:=ZW.o
  refine ⟨Below.next (Below.next BW.o hba) B1.o,⟨E_ KG.o,⟨(B_ KG.o (j:=0) rfl).1,(B_ KG.o (j:=1) rfl).1,(B_ KG.o (j:=2) rfl).1⟩,⟨(B_ KG.o (j:=0) rfl).2,(B_ KG.o (j:=1) rfl).2,(B_ KG.o (j:=2) rfl).2⟩⟩,haa.below B1.o,(hoa.older BW.o.size).below B1.o,⟨fun h=>by have:=haa.lt _ h;omega,fun h=>by have:=(hoa.2 _ h).1;omega⟩,A0v (A0v K1.o hba) B1.o,by omega⟩)
 clear haa hoa hba
 go_upto_region 2 with fail
 rw[← hW1]
 clear hW1
 have hg0:w.heap.size<wa.heap.size:=by have:=ZW.o;omega
 obtain ⟨e0,-⟩:=B_ K01.o (j:=0) rfl
 obtain ⟨e1,-⟩:=B_ K01.o (j:=1) rfl
 simp at e0 e1
 have l0:w.heap.size<W1.heap.size:=E_ K01.o
 go_wp2_with fail
 generalize wa.heap.size=g0 at *
 go_loopg [12] n1 (fun g s wr=>∃ (k:Nat) (P1:Option Addr) (p1 q1:Nat) (P2:Option Addr) (p2 q2:Nat) (rl:List Nat),k+g=n1∧s=.int .i64 k∧Hid (AccSt w wr g0 (w.heap.size+1) (B5r p us k) P1 p1 q1 P2 p2 q2 rl)∧Hid (wr.heap[w.heap.size]?=some (.cells #[.slice A0 n0 c0,.slice A1 n1 c1,.slice A2 n2 c2,.slice A3 n3 c3] 29)))
 case atStart=>exact ⟨0,P1,p1,q1,P2,p2,q2,sa,by omega,rfl,HA0.o,K01.o⟩
 case round =>
  clear HA0 K01 e0 e1 l0 KG B1 hsz
  obtain ⟨k,P1,p1,q1,P2,p2,q2,rl,hk,rfl,hst,HKR⟩:=hrel
  have hgs:=hst.o.rb.1
  have HBW:=A_ hst.o.bl
  rcases Nat.lt_or_ge k n1 with hkn | hkn
  ·have hki:(k:Int)<n1:=by omega
   have hki0:(0:Int)≤k:=by omega
   obtain ⟨g,rfl⟩:∃ g,gk=g+1:=⟨gk - 1,by omega⟩
   have hk':=A_ (show k+1+g=n1 by omega)
   obtain ⟨t,ht⟩:∃ t,p.mesh.triangles[k]?=some t:=⟨_,List.getElem?_eq_getElem (by rw[HT1.o];exact hkn)⟩
   have HK:=A_ ht
   have NX:=A_ (show B5r p us (k+1)=A2d (B5r p us k) (leT p us t) by rw[B5r,A5l ht])
   obtain ⟨e0,-⟩:=B_ HKR.o (j:=0) rfl
   obtain ⟨e1,-⟩:=B_ HKR.o (j:=1) rfl
   obtain ⟨e2,-⟩:=B_ HKR.o (j:=2) rfl
   obtain ⟨e3,-⟩:=B_ HKR.o (j:=3) rfl
   simp at e0 e1 e2 e3
   have l0:w.heap.size<wr.heap.size:=E_ HKR.o
   obtain ⟨_,⟨z0,z1,z2⟩,_⟩:=hst.o.rb
   clear hk hkn ht
   go_wp2_with fail
   refine Z_ (by simp) ?_
   dsimp only [List.dropLast,List.getLast,List.length]
   iterate 4
    refine D_ _ ?_
   refine F_ (MP.agg (leT p us t)) ?_ ?_
   ·intro yq zq wq hC hd
    obtain ⟨hcq,hfq⟩:=C_ hC
    simp at hd
    refine H_ ?_
    exact K_ (B0f _ p _ B n d us ds k t wq ((HX.o.below HBW.o).below hC) ((HU.o.below HBW.o).below hC) HL.o HK.o)
   refine F_ (MP.agg (A2d (B5r p us k) (leT p us t))) ?_ ?_
   ·intro yq zq wq hC hd
    obtain ⟨hcq,hfq⟩:=C_ hC
    simp at hd
    refine H_ ?_
    obtain ⟨_,tt⟩:=hd
    exact K_ (A7l _ _ (B5r p us k) (leT p us t) _ _ wq (hst.o.ag.below hC) (by first | exact tt.1 | exact tt.1.1))
   intro yq zq wb hC hd (hdis:Hid _)
   simp at hd
   have q5:=hd.2.2.2.2.2
   obtain ⟨⟨ha7,hf7⟩,hr7⟩:=q5
   rw[← NX.o] at ha7
   obtain ⟨G1,nG1,cG1,w1',G2,nG2,cG2,w2',y7,hz7,-,-⟩:=TRat.agg ha7
   rw[y7] at ha7
   have A7:=A_ ha7
   have Sb:=A_ (hst.o.below hC)
   have hlow:=hst.o.lo
   have hsw:=HBW.o.size
   have Sn:=A_ (Sb.o.set A7.o (C9s hf7 (fun b hb=>(hr7 b hb).1) (by omega)) ⟨fun h=>by have:=(hr7 _ h).1;omega,fun h=>by have:=(hr7 _ h).1;omega⟩)
   have hgb:g0<wb.heap.size:=by have:=hC.size;omega
   have KN:=A_ ((A5k (g:=g0) (v0:=.bool (B5r p us (k+1)).num.neg) (v1:=.slice G1 nG1 cG1) (v2:=.slice G2 nG2 cG2) w.heap.size (by omega)).trans (A0v HKR.o hC))
   obtain ⟨_,⟨v0,v1,v2⟩,⟨v3,v4,v5⟩⟩:=Sb.o.rb
   generalize zq 5=r7 at *
   clear hd hdis ha7 hf7 hr7 hz7 hC hst Sb hlow z0 z1 z2 e0 e1 e2 e3 l0
   go_wp2_with fail
   go_roundg g
   case measure=>omega
   case rel=>exact ⟨k+1,G1,nG1,cG1,G2,nG2,cG2,r7,hk'.o,by go_num,Sn.o,KN.o⟩
  obtain rfl:n1=k:=by omega
  have hii:¬ ((n1:Int)<n1):=by omega
  have HOUT:=A_ hst.o.o
  have EN:=A_ (show B5r p us n1=enL p us by unfold enL;rw[HT1.o])
  obtain ⟨_,⟨v0,v1,v2⟩,_⟩:=hst.o.rb
  have hlo:=hst.o.lo
  have hr1:w.heap.size+1<wr.heap.size:=by omega
  obtain ⟨r0,r1,r2⟩:wr.cell? ⟨w.heap.size+1,0,none⟩=some (.bool false)∧wr.cell? ⟨w.heap.size+1,1,none⟩=some (.slice none 0 0)∧wr.cell? ⟨w.heap.size+1,2,none⟩=some (.slice none 0 0):=⟨(B_ hst.o.rs rfl).1,(B_ hst.o.rs rfl).1,(B_ hst.o.rs rfl).1⟩
  obtain ⟨r3,r4,r5⟩:wr.frozen? ⟨w.heap.size+1,0,none⟩=false∧wr.frozen? ⟨w.heap.size+1,1,none⟩=false∧wr.frozen? ⟨w.heap.size+1,2,none⟩=false:=⟨(B_ hst.o.rs rfl).2,(B_ hst.o.rs rfl).2,(B_ hst.o.rs rfl).2⟩
  clear hk hkn hst
  go_wp2
  refine bodyPost_ret (v:=.agg #[.bool (B5r p us n1).num.neg,.slice P1 p1 q1,.slice P2 p2 q2]) (by simp[results,Tryz.results42,go_sem, *]) rfl ?_
  rw[← EN.o]
  exact HOUT.o
theorem C0d (v:Value) (p:TProblem) (b:List Nat) (xs ys:List Int) (B:Option Addr) (n d:Nat) (us:List TRat) (ds:List Nat) (w:World) (hx:Agg w v p b) (hp:ProbI p xs ys) (hu:Sl w B n d us ds) (hl:LinD p us) :
  Calls Tryz.prog 14 #[v,.slice B n d] w (X_ w (enL p us)):=by
 have HX:=A_ hx;have HU:=A_ hu;have HL:=A_ hl;have HPB:=A_ hp
 have HN:=A_ (show n=p.mesh.points.length by rw[← hl.ul];exact hu.1.symm)
 obtain ⟨A0,n0,c0,s0,A1,n1,c1,s1,A2,n2,c2,s2,A3,n3,c3,s3,rfl,rfl,hs0,hs1,hs2,hs3⟩:=TProblem.agg hx
 clear hs0 hs1 hs2 hs3 hx hu hl hp
 go_enter Tryz.func14,Tryz.ntmps14
 go_wp2_with fail
 refine (A9z _ p _ xs ys B n d us ds _ (HX.o.below Below.go) HPB.o (HU.o.below Below.go) HL.o.uo HN.o).mono ?_
 rintro _ w1 ⟨rfl,hb1⟩
 obtain ⟨hc_w1,hf_w1⟩:=C_ hb1
 have hz0_w1:w.heap.size<w1.heap.size:=N_ hb1
 have hz1_w1:w.heap.size+1<w1.heap.size:=N_ hb1
 have HB1:=A_ (show Below w.heap.size w w1 from Below.go)
 have HXL:=A_ (show w.heap.size+2≤w1.heap.size by have:=hb1.size;simp at this;omega)
 go_wp2_with fail
 refine (C3x _ p _ B n d us ds w1 (HX.o.below HB1.o) (HU.o.below HB1.o) HL.o).mono ?_
 rintro _ wa ⟨va,sa,rfl,ha,ho,hba⟩
 generalize enL p us=out at *
 obtain ⟨E1,nE1,cE1,u1,E2,nE2,cE2,u2,rfl,z8,_,_⟩:=TRat.agg ha
 have HA:=A_ ha;have HFR:=A_ ho.free
 have HR:=A_ (show ∀ b∈sa,w.heap.size+2≤b from fun b hb=>by have:=(ho.2 b hb).1;have:=HXL.o;omega)
 have hbw:=Below.next HB1.o hba
 obtain ⟨hc_wa,hf_wa⟩:=C_ hba
 have hz0_wa:w.heap.size<wa.heap.size:=N_ hba
 have hz1_wa:w.heap.size+1<wa.heap.size:=N_ hba
 clear ha ho z8
 go_wp2
 refine bodyPost_ret (v:=.agg #[.bool out.num.neg,.slice E1 nE1 cE1,.slice E2 nE2 cE2]) (by simp[results,Tryz.results14,go_sem, *]) rfl ?_
 refine A0o (lo:=w.heap.size+2) HA.o HFR.o HR.o (by omega) ?_ ?_
 ·exact Above.go
 exact Below.go
end Go.Proofs.YtbhemnidcleaiaaGreat.X
namespace Go.Proofs.YtbhemnidcleaiaaGreat.X
open Go.RowKit Go.XB Go.XN
def jdT (p:TProblem) (e:TEdge):TPoint:=A2h (A0c p.mesh.points e.b) (A0c p.mesh.points e.a)
def C0y (p:TProblem) (k:Int):TTri:=p.mesh.triangles.getD k.toNat ⟨0,0,0,0,0⟩
def jmT (p:TProblem) (us:List TRat) (e:TEdge):TRat:=if 0≤e.left∧0≤e.right then A0u (owT p us (C0y p e.left) (jdT p e)) (owT p us (C0y p e.right) (jdT p e)) else A1y 0
def B1j (p:TProblem) (us:List TRat) (es:List TEdge):Nat→List TRat
 | 0=>[]
 | k+1=>B1j p us es k++[jmT p us (es.getD k ⟨0,0,0,0⟩)]
def jmL (p:TProblem) (us:List TRat):List TRat:=B1j p us (A2m p.mesh.triangles) (A2m p.mesh.triangles).length
def D3y (m:TMesh):Prop:=∀ e∈A2m m.triangles,((0≤e.a∧e.a<m.points.length)∧(0≤e.b∧e.b<m.points.length))∧(e.left<m.triangles.length∧e.right<m.triangles.length)
theorem C8e {U:World} {g:Nat} {v0 v1 v2:Value} {rl:List Nat} (h:Free U rl) (hg:g∉rl):Free (((U.setCell ⟨g,0,none⟩ v0).setCell ⟨g,1,none⟩ v1).setCell ⟨g,2,none⟩ v2) rl :=
 ⟨h.1,fun b hb=>by obtain ⟨cs,t,e⟩:=h.2 b hb;exact ⟨cs,t,(A5k (g:=g) b (fun e'=>hg (e' ▸ hb))).trans e⟩⟩
attribute [local go_sem] O_ Go.XB.opAt P_ M_ Region.wanted yielded
attribute [local simp] P_ M_ MP.eq MP.agg MP.aggS MP.aggN MP.sl MP.slbox MP.box A0e
theorem C2h (v:Value) (p:TProblem) (b:List Nat) (xs ys:List Int) (B:Option Addr) (n d:Nat) (us:List TRat) (ds:List Nat) (w:World) (hx:Agg w v p b) (hp:ProbI p xs ys) (hu:Sl w B n d us ds) (hl:LinD p us) (hes:D3y p.mesh) (hok:(jmL p us).any A9u=false) :
  Calls Tryz.prog 8 #[v,.slice B n d] w (A2t w (jmL p us)):=by
 have HX:=A_ hx;have HU:=A_ hu;have HL:=A_ hl;have HPB:=A_ hp;have HOK:=A_ hok
 have HN:=A_ (show n=p.mesh.points.length by rw[← hl.ul];exact hu.1.symm)
 have H48:=A_ hl.t48
 obtain ⟨A0,n0,c0,s0,A1,n1,c1,s1,A2,n2,c2,s2,A3,n3,c3,s3,rfl,rfl,hs0,hs1,hs2,hs3⟩:=TProblem.agg hx
 have HT1:=A_ hs1.1
 have HS0:=A_ hs0
 have HMA:=A_ (TMesh.mkAgg (x:=p.mesh) hs0 hs1)
 have HIN:=A_ (show ∀ e∈A2m p.mesh.triangles,((0≤e.a∧e.a<n0)∧(0≤e.b∧e.b<n0))∧(e.left<n1∧e.right<n1) by rw[← hs0.1,← hs1.1];exact hes)
 have hnfa:(A2m p.mesh.triangles).length≤144:=by unfold A2m;have:=A9n p.mesh.triangles p.mesh.triangles.length;have:=hl.t48;omega
 obtain ⟨es,hes'⟩:∃ es,A2m p.mesh.triangles=es:=⟨_,rfl⟩
 have HES:=A_ hes'
 rw[hes'] at HIN hnfa
 have EP:=A_ (show jmL p us=B1j p us es es.length by unfold jmL;rw[hes'])
 obtain ⟨i0,hi,hz0,hz1,hz2⟩:=info_parts B9z
 clear hs0 hs1 hs2 hs3 hx hu hl hp hok hes hes'
 go_enter Tryz.func8,Tryz.ntmps8
 go_wp2_with fail
 refine (A9z _ p _ xs ys B n d us ds _ (HX.o.below Below.go) HPB.o (HU.o.below Below.go) HL.o.uo HN.o).mono ?_
 rintro _ w1 ⟨rfl,hb1⟩
 have K1:=A_ (A0v (heap_alloc_new w (.cells #[.slice A0 n0 c0,.slice A1 n1 c1,.slice A2 n2 c2,.slice A3 n3 c3] 29)) hb1)
 have HB1:=A_ (show Below w.heap.size w w1 from Below.go)
 obtain ⟨e0,-⟩:=B_ K1.o (j:=0) rfl
 obtain ⟨e1,-⟩:=B_ K1.o (j:=1) rfl
 obtain ⟨e2,-⟩:=B_ K1.o (j:=2) rfl
 obtain ⟨e3,-⟩:=B_ K1.o (j:=3) rfl
 simp at e0 e1 e2 e3
 have l0:w.heap.size<w1.heap.size:=E_ K1.o
 have P0:=A_ (Pend.start (α:=TRat) (e:=35) HB1.o)
 clear hb1
 go_wp2_with fail
 refine (B9f _ p.mesh _ (w1.alloc (.cells #[] 35)) (HMA.o.below (Below.next HB1.o (Below.box _))) H48.o).mono ?_
 rintro _ w2 ⟨E,nE,cE,eb,rfl,hse,hoe,hb2⟩
 rw[HES.o] at hse
 have HSE:=A_ hse
 have HNF:=A_ hse.1
 have hnf:nE≤144:=by rw[← hse.1];exact hnfa
 have hnfi:(nE:Int)≤144:=by omega
 have HEB:=A_ (show w1.heap.size∉eb from fun h=>by have:=(hoe.2 _ h).1;simp at this;omega)
 have P2:=A_ (P0.o.below hb2)
 clear hse hoe hb2 P0 e0 e1 e2 e3 l0
 go_wp2_with fail
 go_loopg [5,19] nE (fun g s3 s wr=>∃ (i gB cap:Nat),i+g=nE∧s=.int .i64 i∧s3=.slice (some ⟨gB,0,none⟩) i cap∧Hid (Pend w w1 35 wr gB i cap (B1j p us es i))∧Hid (Sl wr E nE cE es eb)∧gB∉eb)
 case atStart=>exact ⟨0,w1.heap.size,0,by omega,rfl,rfl,P2.o,HSE.o,HEB.o⟩
 case round =>
  clear P2 HSE HEB
  obtain ⟨i,gB,cap,hi3,rfl,rfl,HP,HSE,hgn⟩:=hrel
  have HGN:=A_ hgn
  have HBW:=A_ HP.o.bw
  have KR:=A_ (A0v K1.o HP.o.bb)
  rcases Nat.lt_or_ge i nE with hin | hin
  ·have hii:(i:Int)<nE:=by omega
   have hii0:(0:Int)≤i:=by omega
   obtain ⟨g,rfl⟩:∃ g,gk=g+1:=⟨gk - 1,by omega⟩
   have hi':=A_ (show i+1+g=nE by omega)
   have C3:=A_ (show i+1≤maxLen by unfold maxLen;omega)
   have C4:=A_ (show (i+1)*56≤140737488355328 by omega)
   obtain ⟨be,oe,x,rfl,hbl,hx1,x0,x1,x2,x3,hag⟩:=TEdge.elemA HSE.o hin
   obtain ⟨⟨⟨ha0,ha1⟩,⟨hb0,hb1⟩⟩,⟨hl1,hr1⟩⟩:=HIN.o x (List.mem_of_getElem? hx1)
   have NX:=A_ (show B1j p us es (i+1)=B1j p us es i++[jmT p us x] by rw[B1j,A5l hx1])
   clear hi3 hin hx1 hag hgn
   go_upto_region 7 with fail
   obtain ⟨W6,hW6⟩:∃ W6,W6=wr.alloc (.cells #[.int .i64 x.a,.int .i64 x.b,.int .i64 x.left,.int .i64 x.right] 70):=⟨_,rfl⟩
   have B6:=A_ (show Below wr.heap.size wr W6 by rw[hW6];exact Below.box _)
   have KE6:=A_ (show W6.heap[wr.heap.size]?=some (.cells #[.int .i64 x.a,.int .i64 x.b,.int .i64 x.left,.int .i64 x.right] 70) by rw[hW6];exact heap_alloc_new wr _)
   rw[← hW6]
   clear hW6 x0 x1 x2 x3
   go_wp2_with fail
   refine (A2k 0 W6 (by constructor<;>decide)).mono ?_
   rintro _ wa ⟨va,sa,rfl,haa,hoa,hba⟩
   obtain ⟨P1,p1,q1,f1,P2,p2,q2,f2,rfl,-,-,-⟩:=TRat.agg haa
   go_upto_region 8 with fail
   obtain ⟨W7,hW7⟩:∃ W7,W7=wa.alloc (.cells #[.bool (A1y 0).num.neg,.slice P1 p1 q1,.slice P2 p2 q2] 35):=⟨_,rfl⟩
   have B7:=A_ (show Below wa.heap.size wa W7 by rw[hW7];exact Below.box _)
   have KG:=A_ (show W7.heap[wa.heap.size]?=some (.cells #[.bool (A1y 0).num.neg,.slice P1 p1 q1,.slice P2 p2 q2] 35) by rw[hW7];exact heap_alloc_new wa _)
   rw[← hW7]
   clear hW7
   have KE:=A_ (A0v (A0v KE6.o hba) B7.o)
   have KP:=A_ (A0v (A0v (A0v KR.o B6.o) hba) B7.o)
   have HB7:=A_ (Below.next (Below.next B6.o hba) B7.o)
   have HW7:=A_ (Below.next HBW.o HB7.o)
   have HA7:=A_ (haa.below B7.o)
   have HO7:=A_ ((hoa.below B7.o).free)
   have HR7:=A_ (show ∀ b∈sa,wr.heap.size≤b from fun b hb=>by have:=(hoa.2 b hb).1;have:=B6.o.size;omega)
   have hga:wr.heap.size<wa.heap.size:=by have:=E_ KE6.o;have:=hba.size;omega
   clear haa hoa hba B6 KE6 B7
   obtain ⟨z0,-⟩:=B_ KE.o (j:=0) rfl
   obtain ⟨z1,-⟩:=B_ KE.o (j:=1) rfl
   obtain ⟨z2,-⟩:=B_ KE.o (j:=2) rfl
   obtain ⟨z3,-⟩:=B_ KE.o (j:=3) rfl
   obtain ⟨g0,-⟩:=B_ KG.o (j:=0) rfl
   obtain ⟨g1,-⟩:=B_ KG.o (j:=1) rfl
   obtain ⟨g2,-⟩:=B_ KG.o (j:=2) rfl
   obtain ⟨e0,-⟩:=B_ KP.o (j:=0) rfl
   obtain ⟨e1,-⟩:=B_ KP.o (j:=1) rfl
   obtain ⟨e2,-⟩:=B_ KP.o (j:=2) rfl
   obtain ⟨e3,-⟩:=B_ KP.o (j:=3) rfl
   simp at e0 e1 e2 e3
   have le:wr.heap.size<W7.heap.size:=E_ KE.o
   have lg:wa.heap.size<W7.heap.size:=E_ KG.o
   have lp:w.heap.size<W7.heap.size:=E_ KP.o
   by_cases hlr:0≤x.left∧0≤x.right
   ·obtain ⟨hl0,hr0⟩:=hlr
    obtain ⟨kl,hkl⟩:∃ k:Nat,x.left=k:=⟨x.left.toNat,by omega⟩
    obtain ⟨kr,hkr⟩:∃ k:Nat,x.right=k:=⟨x.right.toNat,by omega⟩
    have hkl0:(0:Int)≤kl:=by omega
    have hkr0:(0:Int)≤kr:=by omega
    obtain ⟨tl,htl⟩:∃ t,p.mesh.triangles[kl]?=some t:=⟨_,List.getElem?_eq_getElem (by rw[HT1.o];omega)⟩
    obtain ⟨tr,htr⟩:∃ t,p.mesh.triangles[kr]?=some t:=⟨_,List.getElem?_eq_getElem (by rw[HT1.o];omega)⟩
    obtain ⟨ba,oa,pa,D1,nD1,cD1,d1,D2,nD2,cD2,d2,D4,nD4,cD4,d4,D5,nD5,cD5,d5,hAa,hbla,hxa,a0,a1,a2,a3,a4,a5,haga⟩:=TPoint.elemA (HS0.o.below HW7.o) (show x.a.toNat<n0 by omega)
    obtain ⟨bb,ob,pb,F1,nF1,cF1,h1,F2,nF2,cF2,h2,F4,nF4,cF4,h4,F5,nF5,cF5,h5,hAb,hblb,hxb,b0,b1,b2,b3,b4,b5,hagb⟩:=TPoint.elemA (HS0.o.below HW7.o) (show x.b.toNat<n0 by omega)
    subst hAa
    injection hAb with hAb;injection hAb with h1 h2 _;subst h1;subst h2
    have HGA:=A_ haga;have HGB:=A_ hagb;have HKL:=A_ htl;have HKR:=A_ htr
    have NX2:=A_ (show B1j p us es (i+1)=B1j p us es i++[A0u (owT p us tl (A2h pb pa)) (owT p us tr (A2h pb pa))] by
     rw[NX.o,jmT,if_pos ⟨hl0,hr0⟩,jdT,B2h hxb rfl,B2h hxa rfl,C0y,C0y,hkl,hkr,Int.toNat_natCast,Int.toNat_natCast,A5l htl,A5l htr])
    rw[hkl] at z2
    rw[hkr] at z3
    clear hl0 hr0 hxa hxb haga hagb htl htr hl1 hr1 g0 g1 g2
    go_wp2_with fail
    refine Z_ (by simp) ?_
    dsimp only [List.dropLast,List.getLast,List.length]
    iterate 14
     refine D_ _ ?_
    refine F_ (MP.agg (A2h pb pa)) ?_ ?_
    ·intro yq zq wq hC hd
     obtain ⟨hcq,hfq⟩:=C_ hC
     simp at hd
     refine H_ ?_
     exact K_ (A5q _ _ pb pa _ _ wq (HGB.o.below hC) (HGA.o.below hC))
    refine A1z #[.bool false,.slice none 0 0,.slice none 0 0,.bool false,.slice none 0 0,.slice none 0 0] 38 ?_ ?_
    ·intro yq zq wq hC hd
     refine ⟨by go_simp;done,?_⟩
     go_simp
    intro yq zq wb hC hd (hdis:Hid _)
    simp at hd
    have q14:=hd.2.2.2.2.2.2.2.2.2.2.2.2.2.2.1
    have q15:=hd.2.2.2.2.2.2.2.2.2.2.2.2.2.2.2
    obtain ⟨⟨ha9,hf9⟩,hr9⟩:=q14
    obtain ⟨⟨gd,e15,z15,hgd⟩,hr15⟩:=q15
    obtain ⟨V1,nV1,cV1,v1',V2,nV2,cV2,v2',V4,nV4,cV4,v4',V5,nV5,cV5,v5',y9,z9,-,-,-,-⟩:=TPoint.agg ha9
    rw[y9] at ha9
    have hdd:=hdis.o 14 15 (by decide) (by decide) (by decide)
    rw[z15] at hdd hr15
    have hgn9:gd∉zq 14:=fun h=>hdd gd h (by simp)
    have hgd1:W7.heap.size≤gd:=(hr15 gd (by simp)).1
    have HGD:=A_ hgd;have HGN9:=A_ hgn9;have HA9:=A_ ha9;have HCb:=A_ hC
    obtain ⟨t0,u0⟩:=B_ hgd (j:=0) rfl
    obtain ⟨t1,u1⟩:=B_ hgd (j:=1) rfl
    obtain ⟨t2,u2⟩:=B_ hgd (j:=2) rfl
    obtain ⟨t3,u3⟩:=B_ hgd (j:=3) rfl
    obtain ⟨t4,u4⟩:=B_ hgd (j:=4) rfl
    obtain ⟨t5,u5⟩:=B_ hgd (j:=5) rfl
    have hgdl:=E_ hgd
    generalize zq 14=r9 at *
    clear hd hdis hdd ha9 hf9 hr9 z9 hC hgd hgn9 hr15 e0 e1 e2 e3 z0 z1 z2 z3 a0 a1 a2 a3 a4 a5 b0 b1 b2 b3 b4 b5 le lp hbla hblb
    go_upto_region 10 with fail
    obtain ⟨W9,hW9⟩:∃ W9,W9=((((((wb.setCell ⟨gd,0,none⟩ (.bool (A2h pb pa).x.num.neg)).setCell ⟨gd,1,none⟩ (.slice V1 nV1 cV1)).setCell ⟨gd,2,none⟩ (.slice V2 nV2 cV2)).setCell ⟨gd,3,none⟩ (.bool (A2h pb pa).y.num.neg)).setCell ⟨gd,4,none⟩ (.slice V4 nV4 cV4)).setCell ⟨gd,5,none⟩ (.slice V5 nV5 cV5)):=⟨_,rfl⟩
    have B9:=A_ (show Below W7.heap.size W7 W9 by rw[hW9];exact (((((HCb.o.setCell (p:=⟨gd,0,none⟩) hgd1 _).setCell (p:=⟨gd,1,none⟩) hgd1 _).setCell (p:=⟨gd,2,none⟩) hgd1 _).setCell (p:=⟨gd,3,none⟩) hgd1 _).setCell (p:=⟨gd,4,none⟩) hgd1 _).setCell (p:=⟨gd,5,none⟩) hgd1 _)
    have KD9:=A_ (show W9.heap[gd]?=some (.cells #[.bool (A2h pb pa).x.num.neg,.slice V1 nV1 cV1,.slice V2 nV2 cV2,.bool (A2h pb pa).y.num.neg,.slice V4 nV4 cV4,.slice V5 nV5 cV5] 38) by rw[hW9];exact A5p (A5p (A5p (A5p (A5p (A5p HGD.o))))))
    have HD9:=A_ (show Agg W9 (.agg #[.bool (A2h pb pa).x.num.neg,.slice V1 nV1 cV1,.slice V2 nV2 cV2,.bool (A2h pb pa).y.num.neg,.slice V4 nV4 cV4,.slice V5 nV5 cV5]) (A2h pb pa) r9 by
     rw[hW9];exact HA9.o.keep (fun b hb=>A0b gd [.bool (A2h pb pa).x.num.neg,.slice V1 nV1 cV1,.slice V2 nV2 cV2,.bool (A2h pb pa).y.num.neg,.slice V4 nV4 cV4,.slice V5 nV5 cV5] wb 0 b (fun e=>HGN9.o (e ▸ hb))))
    rw[← hW9]
    clear hW9 y9 t0 t1 t2 t3 t4 t5 u0 u1 u2 u3 u4 u5 hgdl
    have KP9:=A_ (A0v KP.o B9.o)
    have KE9:=A_ (A0v KE.o B9.o)
    have KG9:=A_ (A0v KG.o B9.o)
    have HB9:=A_ (Below.next HB7.o B9.o)
    have HW9:=A_ (Below.next HBW.o HB9.o)
    obtain ⟨z0,-⟩:=B_ KE9.o (j:=0) rfl
    obtain ⟨z1,-⟩:=B_ KE9.o (j:=1) rfl
    obtain ⟨z2,-⟩:=B_ KE9.o (j:=2) rfl
    obtain ⟨z3,-⟩:=B_ KE9.o (j:=3) rfl
    obtain ⟨e0,-⟩:=B_ KP9.o (j:=0) rfl
    obtain ⟨e1,-⟩:=B_ KP9.o (j:=1) rfl
    obtain ⟨e2,-⟩:=B_ KP9.o (j:=2) rfl
    obtain ⟨e3,-⟩:=B_ KP9.o (j:=3) rfl
    obtain ⟨y0,-⟩:=B_ KD9.o (j:=0) rfl
    obtain ⟨y1,-⟩:=B_ KD9.o (j:=1) rfl
    obtain ⟨y2,-⟩:=B_ KD9.o (j:=2) rfl
    obtain ⟨y3,-⟩:=B_ KD9.o (j:=3) rfl
    obtain ⟨y4,-⟩:=B_ KD9.o (j:=4) rfl
    obtain ⟨y5,-⟩:=B_ KD9.o (j:=5) rfl
    simp at e0 e1 e2 e3 y0 y1 y2 y3 y4 y5 z2 z3
    rw[hkl] at z2
    rw[hkr] at z3
    have le:wr.heap.size<W9.heap.size:=E_ KE9.o
    have lg:wa.heap.size<W9.heap.size:=E_ KG9.o
    have lp:w.heap.size<W9.heap.size:=E_ KP9.o
    have lq:gd<W9.heap.size:=E_ KD9.o
    refine Z_ (by simp) ?_
    dsimp only [List.dropLast,List.getLast,List.length]
    iterate 5
     refine D_ _ ?_
    refine F_ (MP.agg (owT p us tl (A2h pb pa))) ?_ ?_
    ·intro yq zq wq hC hd
     obtain ⟨hcq,hfq⟩:=C_ hC
     simp at hd
     refine H_ ?_
     exact K_ (B5e _ p _ B n d us ds kl tl _ (A2h pb pa) _ wq ((HX.o.below HW9.o).below hC) ((HU.o.below HW9.o).below hC) HL.o HKL.o (HD9.o.below hC))
    iterate 5
     refine D_ _ ?_
    refine F_ (MP.agg (owT p us tr (A2h pb pa))) ?_ ?_
    ·intro yq zq wq hC hd
     obtain ⟨hcq,hfq⟩:=C_ hC
     simp at hd
     refine H_ ?_
     exact K_ (B5e _ p _ B n d us ds kr tr _ (A2h pb pa) _ wq ((HX.o.below HW9.o).below hC) ((HU.o.below HW9.o).below hC) HL.o HKR.o (HD9.o.below hC))
    refine F_ (MP.agg (A0u (owT p us tl (A2h pb pa)) (owT p us tr (A2h pb pa)))) ?_ ?_
    ·intro yq zq wq hC hd
     obtain ⟨hcq,hfq⟩:=C_ hC
     simp at hd
     refine H_ ?_
     obtain ⟨t1,t2⟩:=hd
     exact K_ (A3z _ _ (owT p us tl (A2h pb pa)) (owT p us tr (A2h pb pa)) _ _ wq t1.1 (by first | exact t2.1 | exact t2.1.1))
    intro yq zq wc hC hd (hdis:Hid _)
    simp at hd
    have q12:=hd.2.2.2.2.2.2.2.2.2.2.2.2
    obtain ⟨⟨ha7,hf7⟩,hr7⟩:=q12
    generalize A0u (owT p us tl (A2h pb pa)) (owT p us tr (A2h pb pa))=out at *
    obtain ⟨G1,nG1,cG1,w1',G2,nG2,cG2,w2',y7,hz7,-,-⟩:=TRat.agg ha7
    rw[y7] at ha7
    have hgz:wa.heap.size∉zq 12:=fun h=>by have:=(hr7 _ h).1;omega
    have KGc:=A_ (A0v KG9.o hC)
    have HA10:=A_ ha7;have HF10:=A_ hf7
    have HR10:=A_ (show ∀ b∈zq 12,wr.heap.size≤b from fun b hb=>by have:=(hr7 b hb).1;omega)
    have HGZ:=A_ hgz
    have HBc:=A_ (Below.next HB9.o hC)
    obtain ⟨v0,v3⟩:=B_ KGc.o (j:=0) rfl
    obtain ⟨v1,v4⟩:=B_ KGc.o (j:=1) rfl
    obtain ⟨v2,v5⟩:=B_ KGc.o (j:=2) rfl
    have lc:wa.heap.size<wc.heap.size:=E_ KGc.o
    generalize zq 12=r7 at *
    clear hd hdis ha7 hf7 hr7 hz7 hC e0 e1 e2 e3 y0 y1 y2 y3 y4 y5 z0 z1 z2 z3 le lg lp lq hgz
    go_upto_region 11 with fail
    obtain ⟨W10,hW10⟩:∃ W,W=(((wc.setCell ⟨wa.heap.size,0,none⟩ (.bool out.num.neg)).setCell ⟨wa.heap.size,1,none⟩ (.slice G1 nG1 cG1)).setCell ⟨wa.heap.size,2,none⟩ (.slice G2 nG2 cG2)):=⟨_,rfl⟩
    have K10:=A_ (show W10.heap[wa.heap.size]?=some (.cells #[.bool out.num.neg,.slice G1 nG1 cG1,.slice G2 nG2 cG2] 35) by rw[hW10];exact A5p (A5p (A5p KGc.o)))
    have A10:=A_ (show Agg W10 (.agg #[.bool out.num.neg,.slice G1 nG1 cG1,.slice G2 nG2 cG2]) out r7 by rw[hW10];exact HA10.o.keep (fun b hb=>A5k b (fun e=>HGZ.o (e ▸ hb))))
    have F10:=A_ (show Free W10 r7 by rw[hW10];exact C8e HF10.o HGZ.o)
    have B10:=A_ (show Below wr.heap.size wr W10 by rw[hW10];exact ((HBc.o.setCell (p:=⟨wa.heap.size,0,none⟩) (Nat.le_of_lt hga) _).setCell (p:=⟨wa.heap.size,1,none⟩) (Nat.le_of_lt hga) _).setCell (p:=⟨wa.heap.size,2,none⟩) (Nat.le_of_lt hga) _)
    rw[← hW10]
    clear hW10 v0 v1 v2 v3 v4 v5 lc y7
    obtain ⟨g0,-⟩:=B_ K10.o (j:=0) rfl
    obtain ⟨g1,-⟩:=B_ K10.o (j:=1) rfl
    obtain ⟨g2,-⟩:=B_ K10.o (j:=2) rfl
    have lg:wa.heap.size<W10.heap.size:=E_ K10.o
    have AT:=A_ (A7i (A10.o.below (Below.box (.cells #[.bool out.num.neg,.slice G1 nG1 cG1,.slice G2 nG2 cG2] 35))))
    have HF:=A_ (F10.o.below (Below.box (.cells #[.bool out.num.neg,.slice G1 nG1 cG1,.slice G2 nG2 cG2] 35)))
    go_wp2_with (at_builtin;refine A4t rfl _ _ 27 rfl 35 i0 (.agg #[.bool false,.slice none 0 0,.slice none 0 0]) 56 Tryz.underlying27 hi hz0 hz1 hz2 rfl HP.o (Below.next B10.o (Below.box _)) (by go_simp;done) ⟨W10.heap.size,0,none⟩ 1 [.bool out.num.neg,.slice G1 nG1 cG1,.slice G2 nG2 cG2] out r7 (by go_simp;done) (A0k (heap_alloc_new W10 _)) AT.o HF.o HR10.o C3.o C4.o ?_;intro g' cap' w8 hp' hgrow' hor')
    have HP8:=A_ (show Pend w w1 35 w8 g' (i+1) cap' (B1j p us es (i+1)) by rw[NX2.o];exact hp')
    have HS8:=A_ (Sl.pushed HSE.o (Below.next B10.o (Below.box _)) hgrow' hor' HGN.o)
    clear hp' hgrow' hor' AT HF
    go_wp2_with fail
    go_roundg g
    case measure=>omega
    case rel=>exact ⟨i+1,g',cap',hi'.o,by go_num,rfl,HP8,HS8.o.1,HS8.o.2⟩
   have NX2:=A_ (show B1j p us es (i+1)=B1j p us es i++[A1y 0] by rw[NX.o,jmT,if_neg hlr])
   have AT:=A_ (A7i (HA7.o.below (Below.box (.cells #[.bool (A1y 0).num.neg,.slice P1 p1 q1,.slice P2 p2 q2] 35))))
   have HF:=A_ (HO7.o.below (Below.box (.cells #[.bool (A1y 0).num.neg,.slice P1 p1 q1,.slice P2 p2 q2] 35)))
   rcases Int.lt_or_le x.left 0 with hl0 | hl0
   ·have hl0':¬ (0≤x.left):=by omega
    clear hlr
    go_wp2_with (at_builtin;refine A4t rfl _ _ 27 rfl 35 i0 (.agg #[.bool false,.slice none 0 0,.slice none 0 0]) 56 Tryz.underlying27 hi hz0 hz1 hz2 rfl HP.o (Below.next HB7.o (Below.box _)) (by go_simp;done) ⟨W7.heap.size,0,none⟩ 1 [.bool (A1y 0).num.neg,.slice P1 p1 q1,.slice P2 p2 q2] (A1y 0) sa (by go_simp;done) (A0k (heap_alloc_new W7 _)) AT.o HF.o HR7.o C3.o C4.o ?_;intro g' cap' w8 hp' hgrow' hor')
    have HP8:=A_ (show Pend w w1 35 w8 g' (i+1) cap' (B1j p us es (i+1)) by rw[NX2.o];exact hp')
    have HS8:=A_ (Sl.pushed HSE.o (Below.next HB7.o (Below.box _)) hgrow' hor' HGN.o)
    clear hp' hgrow' hor' AT HF
    go_wp2_with fail
    go_roundg g
    case measure=>omega
    case rel=>exact ⟨i+1,g',cap',hi'.o,by go_num,rfl,HP8,HS8.o.1,HS8.o.2⟩
   have hr0':¬ (0≤x.right):=fun h=>hlr ⟨hl0,h⟩
   have hr0:x.right<0:=by omega
   clear hlr
   go_wp2_with (at_builtin;refine A4t rfl _ _ 27 rfl 35 i0 (.agg #[.bool false,.slice none 0 0,.slice none 0 0]) 56 Tryz.underlying27 hi hz0 hz1 hz2 rfl HP.o (Below.next HB7.o (Below.box _)) (by go_simp;done) ⟨W7.heap.size,0,none⟩ 1 [.bool (A1y 0).num.neg,.slice P1 p1 q1,.slice P2 p2 q2] (A1y 0) sa (by go_simp;done) (A0k (heap_alloc_new W7 _)) AT.o HF.o HR7.o C3.o C4.o ?_;intro g' cap' w8 hp' hgrow' hor')
   have HP8:=A_ (show Pend w w1 35 w8 g' (i+1) cap' (B1j p us es (i+1)) by rw[NX2.o];exact hp')
   have HS8:=A_ (Sl.pushed HSE.o (Below.next HB7.o (Below.box _)) hgrow' hor' HGN.o)
   clear hp' hgrow' hor' AT HF
   go_wp2_with fail
   go_roundg g
   case measure=>omega
   case rel=>exact ⟨i+1,g',cap',hi'.o,by go_num,rfl,HP8,HS8.o.1,HS8.o.2⟩
  obtain rfl:nE=i:=by omega
  have hii:¬ ((nE:Int)<nE):=by omega
  obtain ⟨A6,n6,c6,b6,e6,hs6,ho6,hb6⟩:=HP.o.done
  have LE:=A_ (show B1j p us es nE=jmL p us by rw[EP.o,HNF.o])
  rw[LE.o] at hs6
  have H6:=A_ hs6;have O6:=A_ ho6;have B6:=A_ hb6
  injection e6 with e6
  injection e6 with q1 q2 q3
  subst q1;subst q2;subst q3
  clear hs6 ho6 hb6 hi3 hin hgn
  go_wp2_with fail
  refine (B3b _ _ _ _ b6 wr H6.o HOK.o).mono ?_
  rintro _ w7 ⟨rfl,hb7⟩
  have HB7:=A_ hb7
  clear hb7
  go_wp2
  go_ret
  exact ⟨_,_,_,b6,rfl,H6.o.below HB7.o,O6.o.below HB7.o,Below.next B6.o HB7.o⟩
end Go.Proofs.YtbhemnidcleaiaaGreat.X
namespace Go.Proofs.YtbhemnidcleaiaaGreat.X
open Go.RowKit Go.XB Go.XN
def D4h (e:TEdge):Bool:=decide (e.left<0) || decide (e.right<0)
def D4m (n:Nat) (es:List TEdge):Nat→List Bool
 | 0=>List.replicate n false
 | k+1=>if D4h (es.getD k A8r) then ((D4m n es k).set (es.getD k A8r).a.toNat true).set (es.getD k A8r).b.toNat true else D4m n es k
def C6b (fs:List Bool) (bd:Bool):Nat→List Int
 | 0=>[]
 | k+1=>if fs.getD k false=bd then C6b fs bd k++[(k:Int)] else C6b fs bd k
def D0t (m:TMesh) (bd:Bool):List Int:=C6b (D4m m.points.length (A2m m.triangles) (A2m m.triangles).length) bd m.points.length
def D4p (m:TMesh):Prop:=∀ e∈A2m m.triangles,(0≤e.a∧e.a<m.points.length)∧(0≤e.b∧e.b<m.points.length)
attribute [local go_sem] O_ opAt P_ M_ Region.wanted yielded
attribute [local simp] P_ M_ MP.eq MP.agg MP.sl MP.slbox A0e
end Go.Proofs.YtbhemnidcleaiaaGreat.X
namespace Go.Proofs.YtbhemnidcleaiaaGreat.X
open Go.RowKit Go.XB Go.XN
def C5h (n:Nat) (t:TTri):Bool:=(decide (0≤t.a)&&decide (t.a<n))&&((decide (0≤t.b)&&decide (t.b<n))&&(decide (0≤t.c)&&decide (t.c<n)))
theorem C4p {n:Nat} {t:TTri} (h:C5h n t=true):A8c n t:=by
 unfold C5h at h
 simp only [Bool.and_eq_true,decide_eq_true_eq] at h
 exact ⟨h.1,h.2.1,h.2.2⟩
def C2c (xs ys:List Int) (a b:Int) (n:Nat):Bool:=(List.range n).all fun c=>decide ((c:Int)=a) || (decide ((c:Int)=b) || !A5d xs ys a b c)
theorem B3u {xs ys:List Int} {a b:Int} {n:Nat} (h:C2c xs ys a b n=true):C7c xs ys a b n:=by
 intro c hc
 have:=List.all_eq_true.1 h c (List.mem_range.2 hc)
 simp only [Bool.or_eq_true,decide_eq_true_eq,Bool.not_eq_true'] at this
 exact this
def D0y (xs ys:List Int) (n:Nat) (ts:List TTri):Bool :=
 (xs.all fun x=>decide (-100≤x)&&decide (x≤100))&&((ys.all fun x=>decide (-100≤x)&&decide (x≤100))&&(decide (3≤n)&&(decide (n≤40)&&(decide (1≤ts.length)&&(decide (ts.length≤48) &&
 ((ts.all fun t=>C5h n t&&(inB 0 t.region 2&&(inB 0 t.level 60&&decide (0<A5e xs ys t.a t.b t.c)))) &&
 (((List.range ts.length).all fun k=>(List.range k).all fun j=>B4m xs ys (ts.getD j ⟨0,0,0,0,0⟩) (ts.getD k ⟨0,0,0,0,0⟩) || B4m xs ys (ts.getD k ⟨0,0,0,0,0⟩) (ts.getD j ⟨0,0,0,0,0⟩)) &&
 (decide (A4p n ts ts.length=List.replicate n true) &&
 ((ts.all fun t=>C2c xs ys t.a t.b n&&(C2c xs ys t.b t.c n&&C2c xs ys t.c t.a n)) &&
 ((A2m ts).all fun e=>(decide (0≤e.a)&&decide (e.a<n))&&(decide (0≤e.b)&&decide (e.b<n))))))))))))
theorem C6i {m:TMesh} {xs ys:List Int} {n:Nat} (hn:m.points.length=n) (hp:A5g xs→A5g ys→D2s m.points xs ys) (hok:m.points.all A0r=true) (hnd:m.points.Nodup) (h:D0y xs ys n m.triangles=true) :
  MeshI m xs ys∧∀ e∈A2m m.triangles,(0≤e.a∧e.a<m.points.length)∧(0≤e.b∧e.b<m.points.length):=by
 subst hn
 unfold D0y at h
 simp only [Bool.and_eq_true,decide_eq_true_eq] at h
 obtain ⟨h1,h2,h3,h4,h5,h6,h7,h8,h9,h10,h11⟩:=h
 have sx:A5g xs:=fun x hx=>by
  have:=List.all_eq_true.1 h1 x hx
  simpa using this
 have sy:A5g ys:=fun x hx=>by
  have:=List.all_eq_true.1 h2 x hx
  simpa using this
 refine ⟨⟨hp sx sy,sx,sy,h3,h4,hok,hnd,h5,h6,?_,?_,h9,?_⟩,?_⟩
 ·intro t ht
  have:=List.all_eq_true.1 h7 t ht
  simp only [Bool.and_eq_true,decide_eq_true_eq] at this
  exact ⟨C4p this.1,this.2.1,this.2.2.1,this.2.2.2⟩
 ·intro k t j s hk hj hs
  have hkl:=(List.getElem?_eq_some_iff.1 hk).1
  have:=List.all_eq_true.1 (List.all_eq_true.1 h8 k (List.mem_range.2 hkl)) j (List.mem_range.2 hj)
  rw[List.getD_eq_getElem?_getD,List.getD_eq_getElem?_getD,hk,hs] at this
  simpa using this
 ·intro t ht
  have:=List.all_eq_true.1 h10 t ht
  simp only [Bool.and_eq_true] at this
  exact ⟨B3u this.1,B3u this.2.1,B3u this.2.2⟩
 intro e he
 have:=List.all_eq_true.1 h11 e he
 simpa using this
def D4a (a b c:TPoint):Bool:=A3v [a,b,c]&&(S_ (A0i a b c)&&(!(A0i a b c).num.mag.isEmpty&&((List.range 3).all fun i=>A0r (B8n a b c i)&&A0r (A3i a b c i))))
theorem C8n {a b c:TPoint} (h:D4a a b c=true):GradOk a b c:=by
 unfold D4a at h
 simp only [Bool.and_eq_true,List.all_eq_true,List.mem_range,Bool.not_eq_true',List.isEmpty_eq_false_iff] at h
 exact ⟨h.1,h.2.1,h.2.2.1,fun i hi=>(h.2.2.2 i hi).1,fun i hi=>(h.2.2.2 i hi).2⟩
end Go.Proofs.YtbhemnidcleaiaaGreat.X
