/- A part of the proof. -/
import Derived.Test.YtbhemnidcleaiaaGreatY5
import Derived.Test.YtbhemnidcleaiaaGreatY3
import Derived.Test.YtbhemnidcleaiaaGreatY2
import Derived.Deep.CutBlock
import Derived.Deep.DeepCutAuto
set_option linter.constructorNameAsVariable false
set_option maxHeartbeats 16000000
set_option maxRecDepth 10000
namespace Go.Proofs.YtbhemnidcleaiaaGreat.X
open Go.RowKit Go.XB Go.XN
attribute [local go_sem] O_ opAt P_ M_ Region.wanted yielded
attribute [local simp] P_ M_ MP.eq A0e

structure Turned (w w':World) (base g N cap lo hi:Nat) (us us':List Int):Prop where
 row:w'.ownsRow base 3 1 (.slice (some ⟨g,0,none⟩) N cap) N (us'.map (.int .i64))
 o:∀ k,k<lo∨hi≤k→us'[k]?=us[k]?
 grown:w.grownBy w' (some g)

theorem Turned.set {w wr:World} {base g N cap lo hi:Nat} {us zs:List Int} (h:Turned w wr base g N cap lo hi us zs) (j:Nat) (h1:lo≤j) (h2:j<hi) (u:Int) :
  Turned w (wr.setCell ⟨g,j,none⟩ (.int .i64 u)) base g N cap lo hi us (zs.set j u) :=
 ⟨row_set h.row j u,fun k hk=>by rw[List.getElem?_set_ne (by omega)];exact h.o k hk,h.grown.trans (World.ownsRow.stored h.row j _).2⟩

theorem C0b (B:Option Addr) (base g N cap j m c d:Nat) (us ys:List Int) (ds:List Nat) (q:Int) (w:World) (hu:w.ownsRow base 3 1 (.slice (some ⟨g,0,none⟩) N cap) N (us.map (.int .i64))) (hlu:Lims us)
  (hj:j+m+1≤N) (hN:N≤1048576) (hy:Sl w B m d ys ds) (hly:Lims ys) (hsep:∀ b o,B=some ⟨b,o,none⟩→b≠g) (hq0:0≤q) (hq1:q<1000000000) :
  Calls Tryz.prog 189 #[.slice (some ⟨g,j,none⟩) (m+1) c,.slice B m d,.int .i64 q] w fun e w' =>
   ∃ us' r,e=.returned (.int .i64 r)∧(r=0∨r=1)∧Turned w w' base g N cap j (j+m+1) us us'∧(G_ us'=G_ us - pw j*(q*G_ ys)+pw (j+m+1)*r∧Lims us'):=by
 have HY:=A_ hy
 have LY:=A_ hly
 have SEP:=A_ hsep
 have T0:Turned w w base g N cap j (j+m+1) us us:=⟨hu,fun _ _=>rfl,World.grownBy.refl _ _⟩
 have LL:=A_ (show ys.length=m from hy.1)
 have HU:=A_ hu
 have HLU:=A_ hlu
 clear hy hly hsep hu hlu
 go_enter Tryz.func189,Tryz.ntmps189
 go_wp2_with fail
 go_loopw [7,14] (fun b i wr=>∃ (k:Nat) (bw:Int) (zs:List Int),k≤m∧0≤bw∧bw<1000000000∧i=.int .i64 k∧b=.int .i64 bw∧Turned w wr base g N cap j (j+m+1) us zs∧Hid (Lims zs)∧Hid (∀ k',j+k≤k'→zs[k']?=us[k']?)∧Hid (G_ zs=G_ us - pw j*(q*G_ (ys.take k))+pw (j+k)*bw)) (fun b i wr=>m - (intOf i).toNat)
 case atStart=>exact ⟨0,0,us,Nat.zero_le _,Int.le_refl _,by omega,rfl,rfl,T0,HLU.o,fun _ _=>rfl,by show G_ us=G_ us - pw j*(q*G_ (ys.take 0))+pw (j+0)*0;rw[List.take_zero];simp[G_]⟩
 case round =>
  obtain ⟨k,bw,zs,hk,hb0,hb1,rfl,rfl,ht,hlz,hrest,hv⟩:=hrel
  clear T0
  have hzl:=A_ (A2v ht.row)
  have hjb:(j:Int)≤1048576:=by omega
  have hkb:(k:Int)≤1048576:=by omega
  rcases Nat.lt_or_ge k m with hkm | hkm
  ·have hki:(k:Int)<m:=by omega
   have hki1:(k:Int)<m+1:=by omega
   obtain ⟨b2,o2,y,rfl,hb2,hy1,_,hc2⟩:=Sl.getInt HY.o hkm
   have hyl:=LY.o.get hy1
   have HY1:=A_ hy1
   have hy0:=hyl.1;have hy1':=hyl.2
   have hc2':=(World.cell?_of_block (a:=⟨b2,o2+k,none⟩) (ht.grown.block b2 hb2 (by have:=SEP.o b2 o2 rfl;simpa using this))).trans hc2
   obtain ⟨u,hu,hu0,hu1⟩:=hlz.o.num (j:=j+k) (by rw[hzl.o];omega)
   have HU1:=A_ hu
   obtain ⟨hgl,hcu,hfu⟩:=A1k ht.row hu
   have hT:=A_ ht
   clear hu hc2 hb2 hyl hy1 ht
   obtain ⟨hp0,hp1⟩:=B4x hy0 hy1' hq0 hq1
   have hk1:k+1≤m:=hkm
   have hB0:(0:Int)<1000000000:=by omega
   have hlo:j≤j+k:=Nat.le_add_right _ _
   have hhi:j+k<j+m+1:=by omega
   rcases Int.lt_or_le (u - bw - y*q) 0 with hneg | hneg
   ·have hneg':(u - bw - y*q<0):=hneg
    have E0:=A_ (show 0≤((-(u - bw - y*q)+1000000000 - 1) / 1000000000) by omega)
    have E1:=A_ (show ((-(u - bw - y*q)+1000000000 - 1) / 1000000000)<1000000000 by omega)
    have L:=A_ (hlz.o.set (j+k) (u:=(u - bw - y*q+(-(u - bw - y*q)+1000000000 - 1) / 1000000000*1000000000)) (by omega) (by omega))
    have Z:=A_ (show ∀ k',j+(k+1)≤k'→(zs.set (j+k) (u - bw - y*q+(-(u - bw - y*q)+1000000000 - 1) / 1000000000*1000000000))[k']?=us[k']? by
     intro k' h1;rw[List.getElem?_set_ne (by omega)];exact hrest.o k' (by omega))
    have r:=A_ (show G_ (zs.set (j+k) (u - bw - y*q+(-(u - bw - y*q)+1000000000 - 1) / 1000000000*1000000000))=G_ us - pw j*(q*G_ (ys.take (k+1)))+pw (j+(k+1))*((-(u - bw - y*q)+1000000000 - 1) / 1000000000) by
     rw[B0t HU1.o,hv.o,Y_ HY1.o,← Nat.add_assoc,A1l (j+k),A7a]
     generalize ((-(u - bw - y*q)+1000000000 - 1) / 1000000000)=D
     grind)
    have R:=A_ (hT.o.set (j+k) hlo hhi (u - bw - y*q+(-(u - bw - y*q)+1000000000 - 1) / 1000000000*1000000000))
    clear hkm hk
    go_wp2_with fail
    first
    | exact ⟨⟨k+1,_,_,hk1,E0.o,E1.o,rfl,rfl,R.o,L.o,Z.o,r.o⟩,A0a hk1⟩
    | exact ⟨by (repeat apply Exists.intro);exact ⟨⟨k+1,_,_,hk1,E0.o,E1.o,rfl,rfl,R.o,L.o,Z.o,r.o⟩,rfl⟩,A0a hk1⟩
   ·have hneg':¬ (u - bw - y*q<0):=by omega
    have L:=A_ (hlz.o.set (j+k) (u:=u - bw - y*q) hneg (by omega))
    have Z:=A_ (show ∀ k',j+(k+1)≤k'→(zs.set (j+k) (u - bw - y*q))[k']?=us[k']? by
     intro k' h1;rw[List.getElem?_set_ne (by omega)];exact hrest.o k' (by omega))
    have r:=A_ (show G_ (zs.set (j+k) (u - bw - y*q))=G_ us - pw j*(q*G_ (ys.take (k+1)))+pw (j+(k+1))*0 by
     rw[B0t HU1.o,hv.o,Y_ HY1.o,A7a];grind)
    have R:=A_ (hT.o.set (j+k) hlo hhi (u - bw - y*q))
    clear hkm hk
    go_wp2_with fail
    first
    | exact ⟨⟨k+1,0,_,hk1,Int.le_refl 0,hB0,rfl,rfl,R.o,L.o,Z.o,r.o⟩,A0a hk1⟩
    | exact ⟨by (repeat apply Exists.intro);exact ⟨⟨k+1,0,_,hk1,Int.le_refl 0,hB0,rfl,rfl,R.o,L.o,Z.o,r.o⟩,rfl⟩,A0a hk1⟩
  have hke:k=m:=by omega
  subst hke
  have hki:¬ ((k:Int)<k):=by omega
  have hki1:(k:Int)<k+1:=by omega
  obtain ⟨u,hu,hu0,hu1⟩:=hlz.o.num (j:=j+k) (by rw[hzl.o];omega)
  have HU1:=A_ hu
  obtain ⟨hgl,hcu,hfu⟩:=A1k ht.row hu
  have hT:=A_ ht
  clear hu ht
  have hlo:j≤j+k:=Nat.le_add_right _ _
  have hhi:j+k<j+k+1:=Nat.lt_succ_self _
  have hv':=A_ (show G_ zs=G_ us - pw j*(q*G_ ys)+pw (j+k)*bw by
   have h1:=hv.o;rwa [List.take_of_length_le (Nat.le_of_eq LL.o)] at h1)
  clear hkm hk
  rcases Int.lt_or_le (u - bw) 0 with hneg | hneg
  ·have hneg':(u - bw<0):=hneg
   have L:=A_ (hlz.o.set (j+k) (u:=u - bw+1000000000) (by omega) (by omega))
   have r:=A_ (show G_ (zs.set (j+k) (u - bw+1000000000))=G_ us - pw j*(q*G_ ys)+pw (j+k+1)*1 by
    rw[B0t HU1.o,hv'.o,A1l];grind)
   have R:=A_ (show Turned w ((wr.setCell ⟨g,j+k,none⟩ (.int .i64 (u - bw))).setCell ⟨g,j+k,none⟩ (.int .i64 (u - bw+1000000000))) base g N cap j (j+k+1) us (zs.set (j+k) (u - bw+1000000000)) by
    have:=(hT.o.set (j+k) hlo hhi (u - bw)).set (j+k) hlo hhi (u - bw+1000000000)
    rwa [List.set_set] at this)
   go_wp2_with fail
   go_ret
   exact ⟨_,1,rfl,.inr rfl,R.o,r.o,L.o⟩
  have hneg':¬ (u - bw<0):=by omega
  have L:=A_ (hlz.o.set (j+k) (u:=u - bw) hneg (by omega))
  have r:=A_ (show G_ (zs.set (j+k) (u - bw))=G_ us - pw j*(q*G_ ys)+pw (j+k+1)*0 by
   rw[B0t HU1.o,hv'.o];grind)
  have R:=A_ (hT.o.set (j+k) hlo hhi (u - bw))
  go_wp2_with fail
  go_ret
  exact ⟨_,0,rfl,.inl rfl,R.o,r.o,L.o⟩

theorem C1s (B:Option Addr) (base g N cap j m c d:Nat) (us ys:List Int) (ds:List Nat) (w:World) (hu:w.ownsRow base 3 1 (.slice (some ⟨g,0,none⟩) N cap) N (us.map (.int .i64))) (hlu:Lims us)
  (hj:j+m+1≤N) (hN:N≤1048576) (hy:Sl w B m d ys ds) (hly:Lims ys) (hsep:∀ b o,B=some ⟨b,o,none⟩→b≠g) :
  Calls Tryz.prog 190 #[.slice (some ⟨g,j,none⟩) (m+1) c,.slice B m d] w fun e w' =>
   ∃ us' r,e=.returned (.tuple #[])∧(0≤r∧r≤1)∧Turned w w' base g N cap j (j+m+1) us us'∧(G_ us'=G_ us+pw j*G_ ys - pw (j+m+1)*r∧Lims us'):=by
 have HY:=A_ hy
 have LY:=A_ hly
 have SEP:=A_ hsep
 have T0:Turned w w base g N cap j (j+m+1) us us:=⟨hu,fun _ _=>rfl,World.grownBy.refl _ _⟩
 have LL:=A_ (show ys.length=m from hy.1)
 have HU:=A_ hu
 have HLU:=A_ hlu
 clear hy hly hsep hu hlu
 go_enter Tryz.func190,Tryz.ntmps190
 go_wp2_with fail
 go_loopw [4,9] (fun b i wr=>∃ (k:Nat) (cy:Int) (zs:List Int),k≤m+1∧0≤cy∧cy≤1∧i=.int .i64 k∧b=.int .i64 cy∧Turned w wr base g N cap j (j+m+1) us zs∧Hid (Lims zs)∧Hid (G_ zs+pw (j+k)*cy=G_ us+pw j*G_ (ys.take k))) (fun b i wr=>m+1 - (intOf i).toNat)
 case atStart=>exact ⟨0,0,us,Nat.zero_le _,Int.le_refl _,by omega,rfl,rfl,T0,HLU.o,by show G_ us+pw (j+0)*0=G_ us+pw j*G_ (ys.take 0);rw[List.take_zero];simp[G_]⟩
 case round =>
  obtain ⟨k,cy,zs,hk,hb0,hb1,rfl,rfl,ht,hlz,hv⟩:=hrel
  clear T0
  have hzl:=A_ (A2v ht.row)
  have hjb:(j:Int)≤1048576:=by omega
  have hkb:(k:Int)≤1048576:=by omega
  rcases Nat.lt_or_ge k (m+1) with hkm | hkm
  ·have hki:(k:Int)<m+1:=by omega
   obtain ⟨u,hu,hu0,hu1⟩:=hlz.o.num (j:=j+k) (by rw[hzl.o];omega)
   have HU1:=A_ hu
   obtain ⟨hgl,hcu,hfu⟩:=A1k ht.row hu
   have hT:=A_ ht
   have hk1:k+1≤m+1:=hkm
   have hlo:j≤j+k:=Nat.le_add_right _ _
   have hhi:j+k<j+m+1:=by omega
   rcases Nat.lt_or_ge k m with hkl | hkl
   ·obtain ⟨b2,o2,y,rfl,hb2,hy1,_,hc2⟩:=Sl.getInt HY.o hkl
    have hyl:=LY.o.get hy1
    have HY1:=A_ hy1
    have hy0:=hyl.1;have hy1':=hyl.2
    have hc2':=(World.cell?_of_block (a:=⟨b2,o2+k,none⟩) (ht.grown.block b2 hb2 (by have:=SEP.o b2 o2 rfl;simpa using this))).trans hc2
    have hkl':(k:Int)<m:=by omega
    clear hu hc2 hb2 hyl hy1 ht
    have E0:=A_ (show 0≤(u+cy+y) / 1000000000 by omega)
    have E1:=A_ (show (u+cy+y) / 1000000000≤1 by omega)
    have L:=A_ (hlz.o.set (j+k) (u:=(u+cy+y) % 1000000000) (by omega) (by omega))
    have r:=A_ (show G_ (zs.set (j+k) ((u+cy+y) % 1000000000))+pw (j+(k+1))*((u+cy+y) / 1000000000)=G_ us+pw j*G_ (ys.take (k+1)) by
     rw[show j+(k+1)=j+k+1 from rfl,B0j HU1.o hv.o,Y_ HY1.o,A7a];grind)
    have R:=A_ (hT.o.set (j+k) hlo hhi ((u+cy+y) % 1000000000))
    clear hkm hk hkl
    go_wp2_with fail
    first
    | exact ⟨⟨k+1,_,_,hk1,E0.o,E1.o,rfl,rfl,R.o,L.o,r.o⟩,A0a hk1⟩
    | exact ⟨by (repeat apply Exists.intro);exact ⟨⟨k+1,_,_,hk1,E0.o,E1.o,rfl,rfl,R.o,L.o,r.o⟩,rfl⟩,A0a hk1⟩
   ·have hkl':¬ ((k:Int)<m):=by omega
    clear hu ht
    have E0:=A_ (show 0≤(u+cy) / 1000000000 by omega)
    have E1:=A_ (show (u+cy) / 1000000000≤1 by omega)
    have L:=A_ (hlz.o.set (j+k) (u:=(u+cy) % 1000000000) (by omega) (by omega))
    have r:=A_ (show G_ (zs.set (j+k) ((u+cy) % 1000000000))+pw (j+(k+1))*((u+cy) / 1000000000)=G_ us+pw j*G_ (ys.take (k+1)) by
     have hyl:ys.length≤k:=by rw[LL.o];exact hkl
     have h1:=hv.o
     rw[List.take_of_length_le hyl] at h1
     rw[show j+(k+1)=j+k+1 from rfl,B0j HU1.o h1,List.take_of_length_le (Nat.le_succ_of_le hyl)];grind)
    have R:=A_ (hT.o.set (j+k) hlo hhi ((u+cy) % 1000000000))
    clear hkm hk hkl
    go_wp2_with fail
    first
    | exact ⟨⟨k+1,_,_,hk1,E0.o,E1.o,rfl,rfl,R.o,L.o,r.o⟩,A0a hk1⟩
    | exact ⟨by (repeat apply Exists.intro);exact ⟨⟨k+1,_,_,hk1,E0.o,E1.o,rfl,rfl,R.o,L.o,r.o⟩,rfl⟩,A0a hk1⟩
  have hke:k=m+1:=by omega
  subst hke
  have hki:¬ ((m:Int)+1<m+1):=by omega
  have r:=A_ (show G_ zs=G_ us+pw j*G_ ys - pw (j+m+1)*cy by
   have h1:=hv.o
   rw[List.take_of_length_le (show ys.length≤m+1 by rw[LL.o];omega),show j+(m+1)=j+m+1 from rfl] at h1
   omega)
  have hT:=A_ ht
  clear hkm hk ht
  go_wp2_with fail
  go_end0
  exact ⟨rfl,_,cy,⟨hb0,hb1⟩,hT.o,r.o,hlz.o⟩

theorem B0w {a b:Int} (h:b≤a):¬ (sgn (a - b)<0):=by
 unfold sgn;rw[if_neg (by omega)];split<;>omega

theorem B1p (A B:Option Addr) (n m c d:Nat) (xs ys:List Int) (bs ds:List Nat) (w:World) (hx:Sl w A n c xs bs) (hy:Sl w B m d ys ds) (hcx:XN.Can xs) (hcy:XN.Can ys) (hn:n≤65536) (hm0:0<m) :
  Calls Tryz.prog 127 #[.slice A n c,.slice B m d] w (B5v w (dig (G_ xs / G_ ys).toNat) (dig (G_ xs % G_ ys).toNat)):=by
 have HX:=A_ hx
 have HY:=A_ hy
 have CX:=A_ hcx
 have CY:=A_ hcy
 have LX:=A_ hx.1
 have LY:=A_ hy.1
 have PX:=A_ (T_ hcx.1)
 have PY:=A_ (hcy.pos (by intro e;rw[← hy.1,e] at hm0;simp at hm0))
 clear hx hy hcx hcy
 go_enter Tryz.func127,Tryz.ntmps127
 go_wp2_with fail
 refine (B1t A B n m c d xs ys bs ds w HX.o HY.o CX.o CY.o).mono ?_
 rintro _ w1 ⟨rfl,hb1⟩
 rcases Int.lt_or_le (G_ xs) (G_ ys) with hlt | hge
 ·have E:=A_ (show dig (G_ xs / G_ ys).toNat=[]∧dig (G_ xs % G_ ys).toNat=xs by
   rw[Int.ediv_eq_zero_of_lt PX.o hlt,Int.emod_eq_of_lt PX.o hlt]
   exact ⟨rfl,(CX.o.eq_dig).symm⟩)
  rw[A7s hlt]
  go_wp2_with fail
  refine (B2n A n c xs bs _ (Sl.below HX.o Below.go) (Nat.le_trans hn (by decide))).mono ?_
  rintro _ w2 ⟨v2,rfl,hown2,hb2⟩
  have hb':Below w.heap.size w w2:=Below.go
  have hr1:w2.ownsRow w1.heap.size 3 1 (.slice (some ⟨w1.heap.size,0,none⟩) 0 0) 0 (([]:List Int).map (.int .i64)):=J_ (World.ownsRow_made w1 #[] 0 (Nat.le_refl _) (Nat.zero_le _) rfl) hb2
  have hs:w.heap.size≤w1.heap.size:=hb1.size
  go_wp2
  go_ret2
  rw[E.o.1,E.o.2]
  refine A8x hr1 hown2 (fun _ h=>by simp at h) (Sl.i64 HX.o) hs (by simp;omega) ?_ hb'
  intro g1 g2 e1 e2
  have:=B0d hown2 _ e2
  simp[Value.ownBlock] at e1
  simp at this
  omega
 ·have hs:=B0w hge
  generalize sgn (G_ xs - G_ ys)=sg at *
  rcases Nat.lt_or_ge 1 m with h1 | h1
  ·have hnm:m≤n:=by
    rcases Nat.lt_or_ge n m with h | h
    ·have:=XN.Can.lt_of_len CX.o.1 CY.o (by rw[LX.o,LY.o];exact h);omega
    exact h
   obtain ⟨p,rfl⟩:∃ p,m=p+2:=⟨m - 2,by omega⟩
   obtain ⟨l,rfl⟩:∃ l,n=p+2+l:=⟨n - (p+2),by omega⟩
   obtain ⟨b2,o2,t,rfl,hbl2,hy1,_,hc2⟩:=Sl.getInt HY.o (show p+1<p+2 by omega)
   obtain ⟨hby0,hby1,hbyV,ht0,ht1⟩:=D0p CY.o (m:=p+1) (by rw[LY.o]) hy1
   have hc2':=(hb1.cell (p:=⟨b2,o2+(p+1),none⟩) hbl2).trans hc2
   have HBV:=A_ hbyV
   have HGE:=A_ hge
   have hpb:(p:Int)+l≤65534:=by omega
   have hone:¬ ((p:Int)+2=1):=by omega
   have honeb:((p:Int)+2==1)=false:=by simp;omega
   clear hc2 hy1 hm0 h1 hbyV hge hnm
   go_wp2_with fail
   generalize 1000000000 / (t+1)=f at *
   have hXf:=A_ (show G_ xs*f<pw (p+2+l+1) by
    have h1:=A2r CX.o.1
    rw[LX.o] at h1
    have h2:G_ xs*f≤G_ xs*1000000000:=Int.mul_le_mul_of_nonneg_left (by omega) PX.o
    rw[A1l];omega)
   refine (B6j A (p+2+l) c (p+2+l+1) xs bs f w1 (Sl.below HX.o hb1) CX.o.1 hby0 hby1 (by omega) (by omega) hXf.o).mono ?_
   rintro _ w2 ⟨us,rfl,hul,hUl,hUv,hrow2,hb2⟩
   have UL:=A_ hul;have UM:=A_ hUl;have UV:=A_ hUv
   clear hul hUl hUv
   go_wp2_with fail
   have HY2:=A_ (Sl.below (Sl.below HY.o hb1) hb2)
   refine (B6j (some ⟨b2,o2,none⟩) (p+2) d (p+2) ys ds f w2 HY2.o CY.o.1 hby0 hby1 (by omega) (by omega) HBV.o).mono ?_
   rintro _ w3 ⟨vs,rfl,hvl,hVl,hVv,hrow3,hb3⟩
   have VL:=A_ hvl;have VM:=A_ hVl;have VV:=A_ hVv
   clear hvl hVl hVv
   obtain ⟨i0,hi,hz0,hz1,hz2⟩:=info_parts A5v
   have q2:=A_ (show i0.bytes*(l+1)≤281474976710656 by rw[hz2];omega)
   have q3:=A_ (show l+1≤maxLen by unfold maxLen;omega)
   have q4:=A_ (show (p:Int)+2+l - (p+2)+1=((l+1:Nat):Int) by omega)
   go_wp2_with (at_make;(refine wpList_make_full _ rfl _ _ 31 rfl w3.heap.size 3 i0 (.int .i64 0) 1 Tryz.underlying31 hi hz0 hz1 .i64 .i64 _ _ (l+1) rfl rfl q4.o q4.o q2.o q3.o (Nat.le_refl _) ?_);intro w4 hown4 hgrow4)
   rw[A7d] at hown4
   have hb4:=(Below.refl w3.heap.size w3).grown hgrow4 (Nat.le_refl _) (by intro k hk;cases hk)
   have hU4:=J_ (J_ hrow2 hb3) hb4
   have hV4:=J_ hrow3 hb4
   have hbAll:Below w.heap.size w w4:=Below.go
   have start:=A_ (show 0≤G_ us∧G_ us<G_ vs*pw (l+1) by
    rw[UV.o,VV.o]
    refine ⟨Int.mul_nonneg PX.o (by omega),?_⟩
    have h1:=A2r CX.o.1
    rw[LX.o] at h1
    have h2:=CY.o.len_le (by intro e;have:=LY.o;rw[e] at this;simp at this)
    rw[LY.o] at h2
    have h3:pw (p+1)*pw (l+1)≤G_ ys*pw (l+1):=Int.mul_le_mul_of_nonneg_right h2 (Int.le_of_lt (A4q _))
    rw[← A7a,show p+1+(l+1)=p+2+l by omega] at h3
    have h4:G_ xs*f<G_ ys*pw (l+1)*f:=Int.mul_lt_mul_of_pos_right (by omega) hby0
    have h5:G_ ys*pw (l+1)*f=G_ ys*f*pw (l+1):=by grind
    omega)
   have hs12:w1.heap.size<w2.heap.size:=(World.ownsRow.lt hrow2 _ rfl).2
   have hs23:w2.heap.size<w3.heap.size:=(World.ownsRow.lt hrow3 _ rfl).2
   have hs01:w.heap.size≤w1.heap.size:=hb1.size
   clear hrow2 hrow3 hgrow4 hi hz0 hz1 hz2 hb2 hb3 hb4 hc2' hbl2 hone honeb hb1
   go_loopw [13] (fun i wr=>∃ (K:Nat) (zs os:List Int),K≤l+1∧i=.int .i64 ((K:Int) - 1)∧wr.ownsRow w1.heap.size 3 1 (.slice (some ⟨w1.heap.size,0,none⟩) (p+2+l+1) (p+2+l+1)) (p+2+l+1) (zs.map (.int .i64))∧wr.ownsRow w2.heap.size 3 1 (.slice (some ⟨w2.heap.size,0,none⟩) (p+2) (p+2)) (p+2) (vs.map (.int .i64))∧wr.ownsRow w3.heap.size 3 1 (.slice (some ⟨w3.heap.size,0,none⟩) (l+1) (l+1)) (l+1) (os.map (.int .i64))∧Hid (Lims zs)∧Hid (Lims os)∧Hid (G_ zs=G_ xs*f - G_ vs*(pw K*G_ (os.drop K)))∧Hid (0≤G_ zs∧G_ zs<G_ vs*pw K)∧Below w.heap.size w wr) (fun i wr=>(intOf i+1).toNat)
   case atStart =>
    refine ⟨l+1,us,_,Nat.le_refl _,congrArg (Value.int .i64) (by omega),hU4,hV4,hown4,UM.o,Lims.zeros _,?_,start.o,hbAll⟩
    show G_ us=G_ xs*f - G_ vs*(pw (l+1)*G_ ((List.replicate (l+1) (0:Int)).drop (l+1)))
    rw[List.drop_eq_nil_of_le (by simp),UV.o];simp[G_]
   case round =>
    obtain ⟨K,zs,os,hK,rfl,hU,hV,hO,LU,LO,hv,hr,hb⟩:=hrel
    clear hU4 hV4 hown4 hbAll
    rcases Nat.eq_zero_or_pos K with h0 | h0
    ·subst h0
     have fin:=A_ (show G_ os=G_ xs / G_ ys∧G_ (zs.take (p+2))=(G_ xs % G_ ys)*f by
      have h1:=hv.o
      rw[List.drop_zero,A7h,Int.one_mul,VV.o] at h1
      obtain ⟨h2,h3⟩:=hr.o
      rw[A7h,Int.mul_one,VV.o] at h3
      have h4:G_ zs=(G_ xs - G_ ys*G_ os)*f:=by rw[h1];grind
      have h5:0≤G_ xs - G_ ys*G_ os:=by
       rcases Int.lt_or_le (G_ xs - G_ ys*G_ os) 0 with h | h
       ·have:=Int.mul_neg_of_neg_of_pos h hby0;omega
       exact h
      have h6:G_ xs - G_ ys*G_ os<G_ ys:=by
       rcases Int.lt_or_le (G_ xs - G_ ys*G_ os) (G_ ys) with h | h
       ·exact h
       have:=Int.mul_le_mul_of_nonneg_right h (Int.le_of_lt hby0);omega
      obtain ⟨e1,e2⟩:=C2j (q:=G_ os) (r:=G_ xs - G_ ys*G_ os) (a:=G_ xs) PY.o (by grind) h5 h6
      refine ⟨e1.symm,?_⟩
      rw[e2,← h4]
      have h7:=A8l zs (p+2) (by rw[A2v hU];omega)
      have h8:=HBV.o
      rw[show p+1+1=p+2 from rfl] at h8
      rw[A7r LU.o (by rw[A2v hU];omega) (by omega)] at h7
      omega)
     have hneg:¬ ((0:Int)≤((0:Nat):Int) - 1):=by omega
     have hU':=B8c hU (show p+2≤p+2+l+1 by omega)
     have hcc:(p:Int)+2≤p+2+l+1:=by omega
     have LT:=A_ (LU.o.take (p+2))
     go_wp2_with fail
     refine (A7m _ _ _ _ (zs.take (p+2)) wr hU' LT.o.i64).mono ?_
     rintro _ w5 ⟨rfl,hb5,hU5⟩
     go_wp2_with fail
     obtain ⟨s5,hs5⟩:=A5a hU5 (XN.Can.trim LT.o).1.i64
     refine (B3c _ _ _ (trim (zs.take (p+2))) s5 f w5 hs5 (XN.Can.trim LT.o).1 hby0 hby1 (by
      have:(trim (zs.take (p+2))).length≤p+2:=by
       rw[B0a,List.length_take,List.length_take];omega
      omega)).mono ?_
     rintro _ w6 ⟨v6,rfl,hq6,hb6⟩
     have hO5:=J_ hO hb5
     have hO6:=J_ hO5 hb6
     clear hs5 hO hU hU' hU5 hV
     go_wp2_with fail
     refine (A7m _ _ _ _ os w6 hO6 LO.o.i64).mono ?_
     rintro _ w7 ⟨rfl,hb7,hO7⟩
     have hbF:Below w.heap.size w w7:=Below.go
     have hq7:=J_ hq6 hb7
     have eq:=A_ (show trim os=dig (G_ xs / G_ ys).toNat by
      rw[← fin.o.1];exact A6m LO.o (Int.toNat_of_nonneg (T_ LO.o)).symm)
     have er:=A_ (show G_ (trim (zs.take (p+2))) / f=G_ xs % G_ ys by
      rw[B9n,fin.o.2];exact Int.mul_ediv_cancel _ (by omega))
     go_wp2
     go_ret2
     rw[er.o] at hq7
     rw[eq.o] at hO7 ⊢
     have hO5':=B4d hO5 hq6
     exact A8x hO7 hq7 (W_ _).1.i64 (W_ _).1.i64 (by omega) (by have:=hb.size;have:=hb5.size;omega) (fun g1 g2 e1 e2=>hO5' g1 g2 e1 e2) hbF
    ·obtain ⟨j,rfl⟩:∃ j,K=j+1:=⟨K - 1,by omega⟩
     have ej:(((j+1:Nat):Int) - 1)=j:=by omega
     rw[ej]
     have HZL:=A_ (A2v hU)
     have hjl:(j:Int)≤l:=by omega
     obtain ⟨u0,hu0,hu00,hu01⟩:=LU.o.num (j:=j+p) (by rw[HZL.o];omega)
     obtain ⟨u1,hu1,hu10,hu11⟩:=LU.o.num (j:=j+p+1) (by rw[HZL.o];omega)
     obtain ⟨u2,hu2,hu20,hu21⟩:=LU.o.num (j:=j+p+2) (by rw[HZL.o];omega)
     obtain ⟨vv2,hv2,hv20,hv21⟩:=VM.o.num (j:=p) (by rw[VL.o];omega)
     obtain ⟨vv1,hv1,hv10,hv11⟩:=VM.o.num (j:=p+1) (by rw[VL.o];omega)
     have hv1p:=D1p CY.o LY.o VM.o VL.o VV.o hby0 hv1
     have D:=A_ (show Dig3 zs vs j p u0 (u2*1000000000+u1) vv1 vv2 from ⟨LU.o,VM.o,⟨u1,u2,hu0,hu1,hu2,rfl⟩,hv2,hv1,VL.o,hv1p,hr.o.2⟩)
     obtain ⟨_,ca0,_⟩:=A1k hU hu0
     obtain ⟨_,ca1,_⟩:=A1k hU hu1
     obtain ⟨_,ca2,_⟩:=A1k hU hu2
     have HU0:=A_ hu0;have HV2:=A_ hv2;have HV1:=A_ hv1
     clear hu0 hu1 hu2 hv2 hv1
     rw[show j+p+2=j+(p+2) by omega] at ca2
     rw[show j+p+1=j+(p+1) by omega] at ca1
     have hpb2:(p:Int)≤65534:=by omega
     have hlb2:(l:Int)≤65534:=by omega
     clear hr hK h0
     go_wp2_with fail
     refine A0l ?_
     iterate 16
      refine D_ _ ?_
     intro yq zq wt hC hd (hdis:Hid _)
     simp at hd
     go_simp
     clear hd hdis ca0 ca1 ca2
     have hU1:=A_ (J_ hU hC)
     have hV1:=A_ (J_ hV hC)
     have hO1:=A_ (J_ hO hC)
     have hb1':Below w.heap.size w wt:=Below.go
     clear hU hV hO hb hC
     obtain ⟨hgU,ca0,_⟩:=A1k hU1.o HU0.o
     obtain ⟨hgV,cv2,_⟩:=A1k hV1.o HV2.o
     obtain ⟨_,cv1,_⟩:=A1k hV1.o HV1.o
     clear hu10 hu11 hu20 hu21
     generalize u2*1000000000+u1=top at *
     obtain ⟨htop0,htop1⟩:=D.o.top_lim
     go_upto_region 14 with fail
     go_cut [15] (fun s15 wx=>(∃ q:Int,s15=.int .i64 q∧(0≤q∧q≤999999999)∧(0≤q*vv1∧q*vv1≤top)∧Hid (G_ zs<(q+1)*(G_ vs*pw j)))∧wx=wt)
     case first =>
      rcases Int.lt_or_le (top / vv1) 999999999 with hlt | hge
      ·have W:=A_ (D.o.start (.inl ⟨rfl,hlt⟩))
       go_wp2_with fail
       go_meet
       exact ⟨⟨_,rfl,W.o⟩,rfl⟩
      have W:=A_ (D.o.start (.inr ⟨rfl,hge⟩))
      go_wp2_with fail
      go_meet
      exact ⟨⟨_,rfl,W.o⟩,rfl⟩
     case rest =>
      obtain ⟨⟨q0,rfl,⟨a0,a1⟩,⟨a2,a3⟩,a4⟩,hwc⟩:=hcut
      obtain rfl:wt=wc:=hwc.symm
      go_upto_block 2 with fail
      have W:=A_ (show ∃ q r:Int,Value.int .i64 q0=.int .i64 q∧Value.int .i64 (top - q0*vv1)=.int .i64 r∧0≤q∧q≤999999999∧0≤r∧r≤999999999999999999∧Hid (r=top - q*vv1)∧Hid (G_ zs<(q+1)*(G_ vs*pw j)) from ⟨_,_,rfl,rfl,a0,a1,by omega,by omega,rfl,a4.o⟩)
      clear a0 a1 a2 a3 a4 htop0 htop1 ca0 cv1 cv2 hgU hgV
      go_cut [15] (fun s15 wx=>(∃ q:Int,s15=.int .i64 q∧(0≤q∧q≤999999999)∧Hid (G_ zs<(q+1)*(G_ vs*pw j))∧Hid ((q - 1)*(G_ vs*pw j)≤G_ zs))∧Below wt.heap.size wt wx)
      case first =>
       go_wp2_with fail
       go_loopw [15,16] (fun sq sr wr=>(∃ q r:Int,sq=.int .i64 q∧sr=.int .i64 r∧0≤q∧q≤999999999∧0≤r∧r≤999999999999999999∧Hid (r=top - q*vv1)∧Hid (G_ zs<(q+1)*(G_ vs*pw j)))∧Below wt.heap.size wt wr) (fun sq sr wr=>(intOf sq).toNat)
       case atStart=>exact ⟨W.o,Below.refl _ _⟩
       case round =>
        obtain ⟨⟨q,rest,rfl,rfl,hq0,hq1,hr0,hr1,hre,hqU⟩,hbi⟩:=hrel
        have hU2:=A_ (J_ hU1.o hbi)
        have hV2:=A_ (J_ hV1.o hbi)
        have hbi2:=A_ hbi
        clear hU1 hV1 hO1 hb1' hbi
        obtain ⟨hgU,ca0,_⟩:=A1k hU2.o HU0.o
        obtain ⟨hgV,cv2,_⟩:=A1k hV2.o HV2.o
        rw[show j+p=j+(p+2) - 2 by omega] at ca0
        obtain ⟨hp0,hp1⟩:=B4x hq0 (show q<1000000000 by omega) hv20 hv21
        by_cases hx:rest<1000000000
        ·by_cases hy:rest*1000000000+u0<q*vv2
         ·have hq2:0<q:=by
           rcases Int.lt_or_le 0 q with h | h
           ·exact h
           have:q=0:=by omega
           subst this
           omega
          have rm:=A_ (show (intOf (.int .i64 (q - 1))).toNat<(intOf (.int .i64 q)).toNat by simp[intOf];omega)
          have r3:=A_ (D.o.step hq0 hre.o hy)
          have r5:=A_ (show 0≤q - 1∧q - 1≤999999999∧0≤rest+vv1∧rest+vv1≤999999999999999999 by omega)
          go_wp2_with fail
          refine A0l ?_
          iterate 22
           refine D_ _ ?_
          intro yq zq wz hC hd (hdis:Hid _)
          simp at hd
          go_simp
          clear hd hdis
          obtain ⟨_,cv1,_⟩:=A1k (J_ hV2.o hC) HV1.o
          go_wp2_with fail
          have hbz:=A_ hC
          clear hC
          first
          | exact ⟨⟨⟨q - 1,rest+vv1,rfl,rfl,r5.o.1,r5.o.2.1,r5.o.2.2.1,r5.o.2.2.2,r3.o.1,r3.o.2⟩,Below.next hbi2.o hbz.o⟩,rm.o⟩
          | exact ⟨by (repeat apply Exists.intro);exact ⟨⟨⟨q - 1,rest+vv1,rfl,rfl,r5.o.1,r5.o.2.1,r5.o.2.2.1,r5.o.2.2.2,r3.o.1,r3.o.2⟩,Below.next hbi2.o hbz.o⟩,rfl⟩,rm.o⟩
         ·have T:=A_ (D.o.last hq0 hq1 hre.o (.inr (by omega)))
          go_wp2_with fail
          refine A0l ?_
          iterate 22
           refine D_ _ ?_
          intro yq zq wz hC hd (hdis:Hid _)
          simp at hd
          go_simp
          clear hd hdis
          go_wp2_with fail
          have hbz:=A_ hC
          clear hC
          go_meet
          exact ⟨⟨_,rfl,⟨hq0,hq1⟩,hqU,T⟩,Below.next hbi2.o hbz.o⟩
        have T:=A_ (D.o.last hq0 hq1 hre.o (.inl (by omega)))
        go_wp2_with fail
        refine A0l ?_
        iterate 3
         refine D_ _ ?_
        iterate 18
         apply A2g
         case h =>
          intro yq zq wq hC hd
          simp at hd
          go_simp
          first | done | (simp[undef];done)
        refine D_ _ ?_
        intro yq zq wz hC hd (hdis:Hid _)
        simp at hd
        go_simp
        clear hd hdis
        go_wp2_with fail
        have hbz:=A_ hC
        clear hC
        go_meet
        exact ⟨⟨_,rfl,⟨hq0,hq1⟩,hqU,T⟩,Below.next hbi2.o hbz.o⟩
      case rest =>
       obtain ⟨⟨q,rfl,⟨hq0,hq1⟩,HqU,HqL⟩,hbx⟩:=hcut
       have hU2:=A_ (J_ hU1.o hbx)
       have hV2:=A_ (J_ hV1.o hbx)
       have hO2:=A_ (J_ hO1.o hbx)
       have hb2':=A_ (Below.next hb1' hbx)
       clear hU1 hV1 hO1 hb1' hbx W hv20 hv21
       obtain ⟨sv,hsv⟩:=A5a hV2.o VM.o.i64
       have HSV:=A_ hsv
       clear hsv
       have hj1:j+(p+2)+1≤p+2+l+1:=by omega
       have hN:p+2+l+1≤1048576:=by omega
       have sep:∀ b o,some (⟨w2.heap.size,0,none⟩:Addr)=some ⟨b,o,none⟩→b≠w1.heap.size:=by intro b o e;cases e;omega
       have HSEP:=A_ sep
       clear sep
       obtain ⟨oj,hoj,_,_⟩:=LO.o.num (j:=j) (by rw[A2v hO2.o];omega)
       have HOJ:=A_ hoj
       clear hoj
       have hjl':j<os.length:=by rw[A2v hO2.o];omega
       have HJL:=A_ hjl'
       clear hjl'
       have esl:p+2+1=j+(p+2)+1 - j:=by omega
       have ESL:=A_ esl
       clear esl
       have rm:=A_ (show (intOf (.int .i64 ((j:Int) - 1))+1).toNat<(intOf (.int .i64 (j:Int))+1).toNat by simp[intOf])
       have rK:j≤l+1:=by omega
       go_wp2_with fail
       have C:=C0b (some ⟨w2.heap.size,0,none⟩) w1.heap.size w1.heap.size (p+2+l+1) (p+2+l+1) j (p+2) (p+2+l+1 - j) (p+2) zs vs sv q wc hU2.o LU.o hj1 hN HSV.o VM.o HSEP.o hq0 (by omega)
       rw[ESL.o] at C
       refine C.mono ?_
       clear C
       rintro _ w5 ⟨z1,r,rfl,hr01,hT,hv1',hl1⟩
       have hV5:=A_ (World.ownsRow.kept hV2.o hT.grown (.inr (by simp[Value.ownBlock];omega)))
       have hO5:=A_ (World.ownsRow.kept hO2.o hT.grown (.inr (by simp[Value.ownBlock];omega)))
       have hb5:=A_ (hb2'.o.grown hT.grown hb2'.o.size (by intro k hk;cases hk;exact hs01))
       have HT:=A_ hT
       have HL1:=A_ hl1
       have HV1':=A_ hv1'
       clear hT hl1 hv1'
       rcases hr01 with rfl | rfl
       ·have F:=A_ (D.o.done0 HqU.o HL1.o HV1'.o)
        have R1:=A_ (row_set hO5.o j q)
        have G:=A_ (World.ownsRow.stored hO5.o j (.int .i64 q)).2
        have R2:=A_ (World.ownsRow.kept HT.o.row G.o (.inr (by simp[Value.ownBlock];omega)))
        have R3:=A_ (World.ownsRow.kept hV5.o G.o (.inr (by simp[Value.ownBlock];omega)))
        have R4:=A_ (hb5.o.grown G.o hb5.o.size (by intro k hk;cases hk;omega))
        have R5:=A_ (LO.o.set j hq0 (show q<1000000000 by omega))
        have R6:=A_ (C7q HJL.o hv.o F.o.1)
        obtain ⟨hgO,co,fo⟩:=A1k hO5.o HOJ.o
        go_wp2_with fail
        first
        | exact ⟨⟨j,z1,os.set j q,rK,rfl,R2.o,R3.o,R1.o,HL1.o,R5.o,R6.o,F.o.2,R4.o⟩,rm.o⟩
        | exact ⟨by (repeat apply Exists.intro);exact ⟨⟨j,z1,os.set j q,rK,rfl,R2.o,R3.o,R1.o,HL1.o,R5.o,R6.o,F.o.2,R4.o⟩,rfl⟩,rm.o⟩
       ·obtain ⟨sv5,hsv5⟩:=A5a hV5.o VM.o.i64
        have HSV5:=A_ hsv5
        clear hsv5
        go_wp2_with fail
        have C:=C1s (some ⟨w2.heap.size,0,none⟩) w1.heap.size w1.heap.size (p+2+l+1) (p+2+l+1) j (p+2) (p+2+l+1 - j) (p+2) z1 vs sv5 w5 HT.o.row HL1.o hj1 hN HSV5.o VM.o HSEP.o
        rw[ESL.o] at C
        refine C.mono ?_
        clear C
        rintro _ w6 ⟨z2,cy,rfl,hcy,hT2,hv2',hl2⟩
        have F:=A_ (D.o.done1 HqL.o HL1.o HV1'.o (by rw[A2v HT.o.row,A2v hU2.o]) (fun k hk=>HT.o.o k (.inr hk)) hl2 hcy hv2' (by rw[A2v hT2.row,A2v HT.o.row]) (fun k hk=>hT2.o k (.inr hk)))
        have hV6:=A_ (World.ownsRow.kept hV5.o hT2.grown (.inr (by simp[Value.ownBlock];omega)))
        have hO6:=A_ (World.ownsRow.kept hO5.o hT2.grown (.inr (by simp[Value.ownBlock];omega)))
        have hb6:=A_ (hb5.o.grown hT2.grown hb5.o.size (by intro k hk;cases hk;exact hs01))
        have HT2:=A_ hT2
        have HL2:=A_ hl2
        clear hT2 hl2 hv2' hcy
        have hq1p:0≤q - 1:=by
         rcases Int.lt_or_le 0 q with h | h
         ·omega
         have h0:q=0:=by omega
         have h1:=HV1'.o
         have h2:=D.o.lt
         have h3:=F.o
         subst h0
         have h4:=T_ LU.o
         have h5:G_ z1<pw (j+(p+2)+1):=by
          have h6:=B7s LU.o HL1.o (i:=j+p+3) (by have:=D.o.zl;omega) (by rw[A2v HT.o.row,A2v hU2.o]) (fun k hk=>HT.o.o k (.inr (by omega))) h2
          rwa [show j+p+3=j+(p+2)+1 by omega] at h6
         rw[Int.zero_mul,Int.mul_zero] at h1
         omega
        have R1:=A_ (row_set hO6.o j (q - 1))
        have G:=A_ (World.ownsRow.stored hO6.o j (.int .i64 (q - 1))).2
        have R2:=A_ (World.ownsRow.kept HT2.o.row G.o (.inr (by simp[Value.ownBlock];omega)))
        have R3:=A_ (World.ownsRow.kept hV6.o G.o (.inr (by simp[Value.ownBlock];omega)))
        have R4:=A_ (hb6.o.grown G.o hb6.o.size (by intro k hk;cases hk;omega))
        have R5:=A_ (LO.o.set j hq1p (show q - 1<1000000000 by omega))
        have R6:=A_ (C7q HJL.o hv.o F.o.1)
        obtain ⟨hgO,co,fo⟩:=A1k hO6.o HOJ.o
        go_wp2_with fail
        first
        | exact ⟨⟨j,z2,os.set j (q - 1),rK,rfl,R2.o,R3.o,R1.o,HL2.o,R5.o,R6.o,F.o.2,R4.o⟩,rm.o⟩
        | exact ⟨by (repeat apply Exists.intro);exact ⟨⟨j,z2,os.set j (q - 1),rK,rfl,R2.o,R3.o,R1.o,HL2.o,R5.o,R6.o,F.o.2,R4.o⟩,rfl⟩,rm.o⟩
  ·obtain rfl:m=1:=by omega
   obtain ⟨b2,o2,y,rfl,hbl2,hy1,_,hc2⟩:=Sl.getInt HY.o (show 0<1 by omega)
   have hyl:=CY.o.1.get hy1
   have EV:=A_ (show G_ ys=y by
    have h2:=Y_ hy1
    rw[List.take_of_length_le (Nat.le_of_eq LY.o)] at h2
    rw[h2,List.take_zero,A7h];simp[G_])
   have hy0:0<y:=by have:=PY.o;rw[EV.o] at this;exact this
   have hyb:=hyl.2
   have hc2':=(hb1.cell (p:=⟨b2,o2+0,none⟩) hbl2).trans hc2
   simp only [Nat.add_zero] at hc2'
   clear hc2 hyl hy1 hm0 hge h1
   go_wp2_with fail
   refine (B3c A n c xs bs y w1 (Sl.below HX.o hb1) CX.o.1 hy0 hyb (Nat.le_trans hn (by decide))).mono ?_
   rintro _ w2 ⟨v2,rfl,hown2,hb2⟩
   have hr0:0≤G_ xs % y:=Int.emod_nonneg _ (by omega)
   have hr1:G_ xs % y<1000000000:=by have:=Int.emod_lt_of_pos (G_ xs) hy0;omega
   go_wp2_with fail
   refine (C1h (G_ xs % y) w2 hr0 (by omega)).mono ?_
   rintro _ w3 ⟨v3,rfl,hown3,hb3⟩
   have hb':Below w.heap.size w w3:=Below.go
   go_wp2
   go_ret2
   rw[EV.o]
   exact A8x (J_ hown2 hb3) hown3 (W_ _).1.i64 (W_ _).1.i64 hb1.size (Nat.le_trans hb1.size hb2.size) (B4d hown2 hown3) hb'
end Go.Proofs.YtbhemnidcleaiaaGreat.X
