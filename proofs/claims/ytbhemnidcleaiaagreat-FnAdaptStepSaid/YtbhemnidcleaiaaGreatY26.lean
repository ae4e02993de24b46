/- A part of the proof. -/
import Derived.Test.YtbhemnidcleaiaaGreatY16
import Derived.Test.YtbhemnidcleaiaaGreatY25
import Derived.Test.YtbhemnidcleaiaaGreatY3
set_option linter.constructorNameAsVariable false
set_option maxHeartbeats 16000000
set_option maxRecDepth 10000
namespace Go.Proofs.YtbhemnidcleaiaaGreat.X
open Go.RowKit Go.XB Go.XN Proofs.Tryz
def A6y (n:Nat) (ps:List Int):Nat->List Int
 |0=>List.replicate n (-1)
 |k+1=>(A6y n ps k).set (ps.getD k 0).toNat k
theorem B8c (n:Nat) (ps:List Int):∀ k,(A6y n ps k).length=n
 |0=>by simp[A6y]
 |k+1=>by rw[A6y];simp[B8c n ps k]
theorem C0v (n:Nat) (ps:List Int):∀ k,∀ x∈A6y n ps k,-1<=x/\x<k
 |0,x,h=>by have:=List.eq_of_mem_replicate (show x∈List.replicate n (-1)from h);omega
 |k+1,x,h=>by
  rw[A6y]at h
  rcases List.mem_or_eq_of_mem_set h with h|rfl
  ·have:=C0v n ps k x h;omega
  omega
def B1i (m:TMesh):List Int:=A6y m.1.length (A3f m false) (A3f m false).length
theorem B8o (fs:List Bool) (bd:Bool):∀ k,∀ x∈A3k fs bd k,0<=x/\x<k
 |0,x,h=>by simp[A3k]at h
 |k+1,x,h=>by
  rw[A3k]at h
  split at h
  ·rcases List.mem_append.1 h with h|h
   ·have:=B8o fs bd k x h;omega
   simp at h;omega
  have:=B8o fs bd k x h;omega
theorem D8p {m:TMesh} {bd:Bool}:∀ x∈A3f m bd,0<=x/\x<m.1.length:=λx h=>B8o _ _ _ x h
theorem B3t (m:TMesh) (bd:Bool):(A3f m bd).length<=m.1.length:=B7x _ _ _
def E1p (w:World) (rs:List Int) (k:Nat) (e:Ending) (w':World):Prop :=
 ∃ g n bs,e=.returned (.tuple #[.slice (some ⟨g,0,none⟩) n n,.int .i64 k])/\Sl w' (some ⟨g,0,none⟩) n n rs bs/\Own w w' bs/\Bw w w'
attribute [local go_sem] L_ opAt N_ M_ Region.wanted yielded
attribute [local simp] N_ M_ MP.eq MP.agg MP.sl MP.slbox A0r
theorem E0s (n:Nat) (x:Int):(List.replicate n [Value.int .i64 x]).flatten=(List.replicate n x).map (.int .i64):=by
 induction n with
 |zero=>rfl
 |succ n ih=>rw[List.replicate_succ,List.flatten_cons,ih,List.replicate_succ];rfl
theorem B5v (v:Value) (m:TMesh) (b:List Nat) (w:World) (J:Agg w v m b) (X:m.1.length<=40) (am:m.triangles.length<=48) (an:B8e m) :
  Calls prog 259 #[v] w (E1p w (B1i m) (A3f m false).length):=by
 have aD:=A_ J;have ax:=A_ am;have aw:=A_ X;have aB:=A_ an;obtain⟨ad,h,aj,bf,ae,n1,ak,bg,rfl,rfl,aa,O⟩:=TMesh.agg J;have T:=A_ aa.1;have aU:h<=40:=by rw[<-aa.1];exact X
 have a6:(h:Int)<=40:=oM;obtain⟨ps,G⟩:∃ ps,A3f m false=ps:=⟨_,rfl⟩
 have aH:=A_ (by unfold B1i;rw[T.o,G]:B1i m=A6y h ps ps.length);have aG:=A_ (by rw[<-G,<-T.o];exact D8p:∀ x∈ps,0<=x/\x<h);have a9:ps.length<=h:=by rw[<-G,<-T.o];exact B3t m false
 have aC:=A_ G;rw[G];clear aa O J X am an G;go_enter func259,ntmps259;go_wp2_with fail;refine(E1q (w.1.size+1) h [.int .i64 (-1)] _ (by have:=heap_alloc_new (w.alloc (.cells #[.slice ad h aj,.slice ae n1 ak] 26)) (.cells #[.int .i64 (-1)] 3);rwa [World.size_alloc]at this) rfl (by simp[Value.oneCell']) aU).mono ?_;rintro _ ac ⟨rfl,Z,K⟩;obtain⟨aQ,aR⟩:=F_ K;have bd:w.1.size<ac.1.size:=ltg K;rw[E0s,show((w.alloc (.cells #[.slice ad h aj,.slice ae n1 ak] 26)).alloc (.cells #[.int .i64 (-1)] 3)).1.size=w.1.size+1+1 by simp]at Z;have ag:=A_ (show Bw w ac from Below.go);have W:=A_ (show IRow ac (w.1.size+1+1) (w.1.size+1+1) h (A6y h ps 0)from Z);clear Z;go_wp2_with fail;refine(B6y _ m _ false _ (aD.below ag) aw ax aB).mono ?_;rw[aC.o];rintro _ bj ⟨ar,u,aN,al,rfl,S,ap,Y⟩;have aV:=K.size;simp at aV;have D:=A_ S;have a7:u<=40:=by rw[<-S.1];omega
 have a8:(u:Int)<=40:=oM;have ah:=A_ S.1;have a1:=W.lt;have aA:=A_ (show w.1.size+1+1∉al from λaO=>by have:=(ap.2 _ aO).1;omega);have ay:=A_ (Below.next ag Y);have ai:=A_ (W.below Y);clear S ap Y K aQ aR W;go_wp2_with fail;go_loopg [17] u (λg s wr=>∃ k:Nat,k+g=u/\s=.int .i64 k/\Hid (IRow wr (w.1.size+1+1) (w.1.size+1+1) h (A6y h ps k))/\Hid (Sl wr ar u aN ps al)/\Bw w wr);case atStart=>exact⟨0,oM,rfl,ai.o,D.o,ay.o⟩
 case round =>
  clear ai D;obtain⟨k,ao,rfl,E,D,H⟩:=hrel;have af:=A_ H;have a5:=E.lt;rcases Nat.lt_or_ge k u with I|I
  ·have a3:(k:Int)<u:=oM
   have a4:(0:Int)<=k:=oM;obtain⟨g,rfl⟩:∃ g,gk=g+1:=⟨gk - 1,oM⟩
   have aT:=A_ (by omega:k+1+g=u);have a2:k+1<=u:=I;obtain⟨aW,be,x,rfl,aY,ab,aS,aX⟩:=Sl.getInt D I;obtain⟨ba,bc⟩:=aG x (List.mem_of_getElem? ab);have au:=A_ (show ps.getD k 0=x from A0e ab);have aF:=A_ (by rw[A6y,au.o]:A6y h ps (k+1)=(A6y h ps k).set x.toNat k);obtain⟨bh,bi⟩:=E.cell (j:=x.toNat) (f:=(A6y h ps k).getD x.toNat 0) (by rw[List.getD_eq_getElem?_getD,List.getElem?_eq_getElem (by rw[B8c];omega)];rfl);have aE:=A_ (by rw[aF.o];exact E.set _ _:IRow (wr.setCell ⟨w.1.size+1+1,x.toNat,none⟩ (.int .i64 k)) (w.1.size+1+1) (w.1.size+1+1) h (A6y h ps (k+1)));have aL:=A_ (D.keep (w':=wr.setCell ⟨w.1.size+1+1,x.toNat,none⟩ (.int .i64 k)) (λb H=>by have aP:b≠w.1.size+1+1:=λe=>aA.o (e ▸ H);exact Below.heap_setCell _ _ _ b (by simpa using aP)));have az:=A_ (show Bw w (wr.setCell ⟨w.1.size+1+1,x.toNat,none⟩ (.int .i64 k))from af.o.setCell (p:=⟨w.1.size+1+1,x.toNat,none⟩) sO _);clear ao I ab H E D aS;go_wp2_with fail;go_roundg g;case measure=>omega
   case rel=>exact⟨k+1,aT,gN,aE,aL,az⟩
  obtain rfl:k=u:=oM;have aZ:¬ ((k:Int)<k):=oM;have aI:=A_ (by rw[aH.o,ah.o]:A6y h ps k=B1i m);obtain⟨aM,O,aq⟩:=E.sl (λx J=>by have:=C0v h ps k x J;constructor<;>omega);have aJ:=A_ O;have aK:=A_ (aq w oM);clear ao I D E H O aq;go_wp2;refine bodyPost_ret (v:=.tuple #[.slice (some ⟨w.1.size+1+1,0,none⟩) h h,.int .i64 k]) (by simp[results,results259,go_sem, *]) rfl ?_;refine⟨_,h,aM,by rw[ah.o],?_,aK.o,af.o⟩;rw[<-aI.o];exact aJ
def E3s (w:World) (M:List (List TRat)) (n:Nat) (e:Ending) (w':World):Prop:=∃ o cap gs,e=.returned (.slice (some ⟨o,0,none⟩) n cap)/\MSt w w' o n cap n gs M
theorem C0s {w:World} {n:Nat} {x:TRat} {cs:List Value} {h:List Nat} (u:Dat.at_ w cs x h):Filled w (List.replicate n cs).flatten (List.replicate n x) (List.replicate n h):=by
 have b:=Dat.len u;refine⟨sI,by rw[A3w b];simp,λk y E D G=>?_⟩;have H:k<n:=by have:=(List.getElem?_eq_some_iff.1 D).1;simpa using this
 obtain rfl:y=x:=List.eq_of_mem_replicate (List.mem_of_getElem? D);obtain rfl:E=h:=List.eq_of_mem_replicate (List.mem_of_getElem? G);have e:((List.replicate n cs).flatten.drop (k*Dat.sz TRat)).take (Dat.sz TRat)=cs:=by
  obtain⟨d,rfl⟩:∃ d,n=k+(1+d):=⟨n - k - 1,oM⟩
  rw[B9k,List.drop_append_of_le_length (by rw[A3w b];exact Nat.le_refl _),List.drop_of_length_le (by rw[A3w b];exact Nat.le_refl _),List.nil_append,B9k,List.take_append_of_le_length (by rw[A3w b];omega)];simp only[List.replicate_one,List.flatten_cons,List.flatten_nil,List.append_nil];exact List.take_of_length_le oM
 rw[e];exact u
theorem B0m {bs:List Nat} {b:Nat}:∀ {n},b∈(List.replicate n bs).flatten->b∈bs
 |0,h=>by simp at h
 |n+1,h=>by
  rw[List.replicate_succ,List.flatten_cons]at h
  rcases List.mem_append.1 h with h|h
  ·exact h
  exact B0m h
theorem E2x:(prog.info? 27).map (λi=>(i.zero,i.size,i.bytes))=some (some (.slice none 0 0),1,24):=kR
theorem D6v (n:Nat) (w:World) (au:n<=40):Calls prog 293 #[.int .i64 n] w (E3s w (List.replicate n (List.replicate n (U_ 0))) n):=by
 obtain⟨az,ap,aw,ax,ay⟩:=info_parts E2x;go_enter func293,ntmps293;go_wp2_with fail;have W:=A_ (MSt.start (n:=n) (Below.refl w.1.size w));go_loopg [3,6] n (λg s3 s wr=>∃ (i o cap:Nat) (gs:List (Nat×Nat)),i+g=n/\s=.int .i64 i/\s3=.slice (some ⟨o,0,none⟩) i cap/\Hid (MSt w wr o i cap n gs (List.replicate i (List.replicate n (U_ 0)))));case atStart=>exact⟨0,w.1.size,0,[],oM,rfl,rfl,W.o⟩
 case round =>
  clear W;obtain⟨i,o,cap,gs,ac,rfl,rfl,u⟩:=hrel;rcases Nat.lt_or_ge i n with I|I
  ·have ar:(i:Int)<n:=oM
   obtain⟨g,rfl⟩:∃ g,gk=g+1:=⟨gk - 1,oM⟩
   have aq:=A_ (by omega:i+1+g=n);have ai:=A_ (by unfold maxLen;omega:i+1<=maxLen);have aj:=A_ (by omega:(i+1)*24<=140737488355328);clear ac I;go_wp2_with fail;refine(A0l 0 wr cD).mono ?_;rintro _ wa ⟨aI,aA,rfl,E,ad,aa⟩;obtain⟨K,ag,X,aD,O,ah,Y,aE,rfl,aC,_,_⟩:=TRat.agg E;have D:=A_ (A3x (E.below (Below.box (.cells #[.bool (U_ 0).1.1,.slice K ag X,.slice O ah Y] 35))));have ak:=A_ (show ∀ b∈aA,wr.1.size<=b/\b<wa.1.size from λb h=>⟨(ad.2 b h).1,E.lt b h⟩);have S:=A_ aa;clear E ad aC aa;go_wp2_with fail;refine(C1n wa.1.size n [.bool (U_ 0).1.1,.slice K ag X,.slice O ah Y] _ (heap_alloc_new wa _) rfl (Dat.one D) au).mono ?_;rintro _ wb ⟨rfl,J,G⟩;rw[World.size_alloc]at J
   have T:=A_ (show RR (λb=>b<wr.1.size\/b=wa.1.size+1) wb (wa.1.size+1) n n (List.replicate n (U_ 0))from
    ⟨_,_,B0o J,C0s (Dat.keep D.o (λb h=>G.block b (Dat.lt D.o b h))),sI,λb h ao=>by have aF:=ak b (B0m h);rcases ao with an|an<;>omega,.inr rfl⟩)
   have H:=A_ (Below.next (Below.next S (Below.box _)) G);have aG:=A_ G.size;have aH:=u.bl.size;have al:=A_ (by have:=H.size;simp;omega:w.1.size<=(wb.alloc (.cells #[.slice (some ⟨wa.1.size+1,0,none⟩) n n] 27)).1.size);clear J G D;go_wp2_with (at_builtin;refine A1m rfl _ _ 245 rfl w.1.size 27 az (.slice none 0 0) 1 24 underlying245 ap aw ax ay rfl dE o i cap (gs.map λg=>.slice (some ⟨g.1,0,none⟩) n g.2) gD (I_ u.ou (Below.next H (Below.box _))) ⟨wb.1.size,0,none⟩ 1 1 [.slice (some ⟨wa.1.size+1,0,none⟩) n n] gD rfl (A0a (heap_alloc_new wb _)) (by simp[Value.oneCell']) ai.o aj.o al.o ?_;intro g' Z aB af ab ae);have am:=A_ (show MSt w aB g' (i+1) Z n (gs++[(wa.1.size+1,n)]) (List.replicate (i+1) (List.replicate n (U_ 0))) by rw[List.replicate_succ'];exact u.push (Below.next H (Below.box _)) ((T).below (Below.box _)) (by have:=S.size;omega) af ab ae);clear af ab ae u T;go_wp2_with fail;go_roundg g;case measure=>omega
   case rel=>exact⟨i+1,g',Z,_,aq,gN,rfl,am⟩
  obtain rfl:i=n:=oM;have ar:¬ ((i:Int)<i):=oM;clear ac I;go_wp2;go_ret;exact⟨o,cap,gs,rfl,u⟩
end Go.Proofs.YtbhemnidcleaiaaGreat.X

namespace Go.XB
open Go.RowKit
theorem Sl.elemS {α:Type} [Dat α] {w:World} {A:Option Addr} {n c:Nat} {xs:List (List α)} {u:List Nat} (h:Sl w A n c xs u) {k:Nat} (J:k<n) :
  ∃ (b off:Nat) (r:List α) (A1:Option Addr) (n1 c1:Nat) (fs:List Nat),A=some ⟨b,off,none⟩/\b<w.1.size/\xs[k]?=some r/\w.cell? ⟨b,off+k,none⟩=some (.slice A1 n1 c1)/\Sl w A1 n1 c1 r fs/\∀ g∈fs,g∈u:=by
 obtain⟨b,off,x,S,fs,D,G,O,H,E,I⟩:=Sl.getAt h J;obtain⟨A1,n1,c1,rfl,K⟩:=E;have:=H 0 _ rfl;exact⟨b,off,x,A1,n1,c1,fs,D,G,O,by simpa[Dat.sz]using this,K,I⟩
end Go.XB
namespace Go.Proofs.YtbhemnidcleaiaaGreat.X
open Go.RowKit Go.XB Go.XN Proofs.Tryz
attribute [local go_sem] L_ opAt N_ M_ Region.wanted yielded
attribute [local simp] N_ M_ MP.eq MP.agg MP.sl MP.slbox A0r
theorem C8x (A:Option Addr) (n c:Nat) (M:List (List TRat)) (Z:List Nat) (w:World) (h:Sl w A n c M Z) (G:∀ r∈M,0<r.length) (H:∀ r∈M,r.any A2e=false) :
  Calls prog 295 #[.slice A n c] w (A0b w (.slice A n c)):=by
 have Y:=A_ h;have O:=A_ G;have T:=A_ H;have af:n<=maxLen:=Nat.le_trans h.2.1 h.2.2.1;unfold maxLen at af;clear h G H;go_enter func295,ntmps295;go_wp2_with fail;go_loopg [7] n (λg s wr=>∃ i:Nat,i+g=n/\s=.int .i64 i/\Hid (Bw w wr));case atStart=>exact⟨0,oM,rfl,Below.refl _ _⟩
 case round =>
  obtain⟨i,I,rfl,u⟩:=hrel;rcases Nat.lt_or_ge i n with b|b
  ·have ae:(i:Int)<n:=oM
   obtain⟨g,rfl⟩:∃ g,gk=g+1:=⟨gk - 1,oM⟩
   have ad:=A_ (by omega:i+1+g=n);have aj:i+1<=n:=b;obtain⟨ag,am,r,K,n1,aa,ab,rfl,ah,D,ai,E,_⟩:=Sl.elemS (Y.below u) b;have J:=O r (List.mem_of_getElem? D);have ak:0<n1:=by rw[<-E.1];exact J
   have al:((n1:Int)==0)=false:=sO;have S:=A_ (T r (List.mem_of_getElem? D));have X:=A_ E;clear I b D E J;go_wp2_with fail;refine(A5p K n1 aa r ab _ X S).mono ?_;rintro _ an ⟨rfl,ac⟩;have W:=A_ (Below.next u ac);go_wp2_with fail;go_roundg g;case measure=>omega
   case rel=>exact⟨i+1,ad,gN,W⟩
  obtain rfl:i=n:=oM;have ae:¬ ((i:Int)<i):=oM;clear I b;go_wp2;go_ret;exact⟨rfl,u⟩
def E9d (a b c:TPoint) (i j:Nat):TRat:=A3u (A6c a b c) (U_ (if i=j then 6 else 12))
def D0o (a b c:TPoint) (i:Nat):Nat->List TRat
 |0=>[]
 |j+1=>D0o a b c i j++[E9d a b c i j]
def E2y (a b c:TPoint):Nat->List (List TRat)
 |0=>[]
 |i+1=>E2y a b c i++[D0o a b c i 3]
def E9s (a b c:TPoint):List (List TRat):=E2y a b c 3
end Go.Proofs.YtbhemnidcleaiaaGreat.X
