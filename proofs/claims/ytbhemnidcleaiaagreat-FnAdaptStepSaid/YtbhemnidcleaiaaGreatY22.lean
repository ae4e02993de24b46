/- A part of the proof. -/
import Derived.Test.YtbhemnidcleaiaaGreatY21
import Derived.Deep.CutRange
set_option linter.constructorNameAsVariable false
set_option maxHeartbeats 16000000
set_option maxRecDepth 10000
namespace Go.Proofs.YtbhemnidcleaiaaGreat.X
open Go.RowKit Go.XB Go.XN Go.XS Proofs.Tryz
attribute [local go_sem] L_ opAt N_ M_ Region.wanted yielded
attribute [local simp] N_ M_ MP.eq MP.agg MP.sl A0r
structure Tells (c:Bool) (p:Prop):Prop where
 yes':c=true->p
 no':p->c=true
def A8n:Code->Code | .seq _ b=>b|c=>c

noncomputable def tail43:Code:=A8n (A8n (A8n (A8n (A8n (A8n (A8n (A8n (A8n (A8n (A8n ((Tryz.f270.body).getD .skip)))))))))))


noncomputable def tail41:Code:=A8n (A8n (A8n (A8n (A8n (A8n (A8n (A8n (A8n (A8n ((Tryz.f270.body).getD .skip))))))))))


noncomputable def tail38:Code:=A8n (A8n (A8n (A8n (A8n (A8n (A8n (A8n ((Tryz.f270.body).getD .skip))))))))




def rle (r s:TRat):Bool:=decide (R_ r*T_ s<=R_ s*T_ r)
def B1w (xs:List TRat) (i:Int):TRat:=xs.getD i.toNat (U_ 1)
def C2f (xs:List TRat):Int->Int->Bool:=B9a rle (B1w xs)
def A8w (n:Nat):List Int:=(List.range n).map (λi:Nat=>(i:Int))
def A1z (xs:List TRat):List Int:=if xs.all J_ then(A8w xs.length).mergeSort (C2f xs)else []
theorem D0x (k:Nat):A8w (k+1)=A8w k++[(k:Int)]:=by unfold A8w;rw[List.range_succ];simp
theorem D3o (k:Nat):(A8w k).length=k:=by simp[A8w]
theorem B1c {n:Nat} {x:Int} (h:x∈A8w n):0<=x/\x<n:=by
 simp[A8w]at h;obtain⟨k,b,rfl⟩:=h;omega
theorem D1k (n:Nat):(A8w n).Pairwise (·<·):=by
 induction n with
 |zero=>simp[A8w]
 |succ n ih =>
  rw[D0x]
  refine List.pairwise_append.2 ⟨ih,sI,λx h y b=>?_⟩
  simp at b;subst b
  exact(B1c h).2
theorem C5s {xs:List TRat} (h:∀ x∈xs,RatV x) (i:Int):RatV (B1w xs i):=by
 unfold B1w;rw[List.getD_eq_getElem?_getD];cases b:xs[i.toNat]? with
 |none=>exact D0c 1 dE dE
 |some x=>exact h x (List.mem_of_getElem? b)
theorem C9l {xs:List TRat} (h:∀ x∈xs,RatV x):LinOrd (C2f xs):=by
 refine E2m (λi j k b u=>?_) (λi j=>?_);·unfold rle at *;simp only[decide_eq_true_eq]at *;exact D5g (C5s h i).den0 (C5s h j).den0 (C5s h k).den0 b u
 unfold rle;rcases Int.le_total (R_ (B1w xs i)*T_ (B1w xs j)) (R_ (B1w xs j)*T_ (B1w xs i))with b|b
 ·rw[decide_eq_true b];rfl
 rw[decide_eq_true b];simp
def B9t (xs:List TRat) (i j:Int):Int:=A6u (B1w xs j) (B1w xs i)
theorem D8t {xs:List TRat} (h:∀ x∈xs,RatV x) {x y:Int} (u:B9t xs y x<0):C2f xs y x=true:=by
 refine D6y (λi j=>?_) ?_
 ·have:=(C9l h).total
  unfold rle;rcases Int.le_total (R_ (B1w xs i)*T_ (B1w xs j)) (R_ (B1w xs j)*T_ (B1w xs i))with b|b
  ·rw[decide_eq_true b];rfl
  rw[decide_eq_true b];simp
 unfold B9t A6u sgn at u;unfold rle;rw[decide_eq_false_iff_not];split at u;·omega
 split at u<;>omega
theorem D6k {xs:List TRat} {x y:Int} (h:x<y) (b:¬ B9t xs y x<0):C2f xs x y=true:=by
 refine E0t h ?_;unfold B9t A6u sgn at b;unfold rle;rw[decide_eq_true_eq];split at b;·omega
 omega

theorem C3r:A4f 167:=λa w=>kR
theorem C7o (bx:Nat) (A:Option Addr) (n c:Nat) (xs:List TRat) (aa:List Nat) (w:World) (ar:w.cell? ⟨bx,0,none⟩=some (.slice A n c)) (au:bx<w.1.size) (E:Sl w A n c xs aa) (D:∀ x∈xs,RatV x) (i j:Nat) (hi:i<n) (S:j<n) :
  Calls prog 167 #[.int .i64 i,.int .i64 j,.pointer (some ⟨bx,0,none⟩)] w (A0b w (.int .i64 (B9t xs i j))):=by
 obtain⟨aj,aB,y,ah,q1,p1,aF,ai,q2,p2,aG,I,aw,H,ao,ap,aq,O⟩:=TRat.elemA E S;obtain⟨ak,aC,x,af,aD,o1,u1,ag,aE,o2,u2,J,_,G,al,am,an,K⟩:=TRat.elemA E hi;have u:=I.symm.trans J;injection u with u;injection u with ha1 ha2 _;subst ha1;subst ha2;subst I;have T:=A_ (by unfold B9t B1w;simp[List.getD_eq_getElem?_getD,H,G]:A6u y x=B9t xs i j);have X:=A_ O;have W:=A_ K;have Z:=A_ (D y (List.mem_of_getElem? H));have Y:=A_ (D x (List.mem_of_getElem? G));have az:(i:Int)<n:=oM;have aA:(j:Int)<n:=oM;clear E D hi S H G O K J;go_enter func167,ntmps167;go_wp2_with fail;refine A0g ?_;iterate 8 refine C_ _ ?_
 refine D_ (MP.eq (.int .i64 (A6u y x))) ?_ ?_;·intro ad ae ac b h;obtain⟨ax,ay⟩:=F_ b;simp at h;refine G_ ?_;exact A0i (B0t _ _ y x _ _ ac (X.below b) (W.below b) Z Y)
 refine C_ _ ?_;intro ad ae aH b h (ab:Hid _);simp at h;go_simp;clear h ab;go_wp2;go_ret;exact⟨A1x T,b⟩
def A6d (xs:List TRat) (want:TRat):List Int->TRat->Option (List Int)
 | [],_=>some []
 |i::is,s=>if 0<=A6u s want then some []else if J_ (A0k s (xs.getD i.toNat A0h))then(A6d xs want is (A0k s (xs.getD i.toNat A0h))).map (i::·)else none
def leI (a b:Int):Bool:=decide (a<=b)
def A5k (xs:List TRat) (p:TRat):List Int :=
 if A5d xs p&&J_ (A0d p (A8v xs))then
  match A6d xs (A0d p (A8v xs)) (A1z xs) (U_ 0)with
  |none=>[]
  |some l=>l.mergeSort leI
 else []
def FracAt (xs:List TRat) (want:TRat) (order:List Int) (k:Nat) (s:TRat):Prop :=
 A6d xs want order (U_ 0)=(A6d xs want (order.drop k) s).map (order.take k++·)
theorem FracAt.start (xs:List TRat) (want:TRat) (b:List Int):FracAt xs want b 0 (U_ 0):=by
 unfold FracAt;rw[List.drop_zero,List.take_zero];cases A6d xs want b (U_ 0)<;>simp
theorem C4s {l:List Int} {k:Nat} {i:Int} (h:l[k]?=some i):l.drop k=i::l.drop (k+1):=by
 obtain⟨b,e⟩:=List.getElem?_eq_some_iff.1 h;rw[List.drop_eq_getElem_cons b,e]
theorem D4o {l:List Int} {k:Nat} {i:Int} (h:l[k]?=some i):l.take (k+1)=l.take k++[i]:=by
 obtain⟨b,e⟩:=List.getElem?_eq_some_iff.1 h;rw[List.take_succ_eq_append_getElem b,e]
theorem FracAt.done {xs:List TRat} {want s:TRat} {b:List Int} (h:FracAt xs want b b.length s):A6d xs want b (U_ 0)=some b:=by
 unfold FracAt at h;rw[List.drop_length,List.take_length]at h;simpa[A6d]using h
theorem FracAt.stop {xs:List TRat} {want s:TRat} {b:List Int} {k:Nat} {i:Int} (h:FracAt xs want b k s) (hi:b[k]?=some i) (u:0<=A6u s want):A6d xs want b (U_ 0)=some (b.take k):=by
 unfold FracAt at h;rw[C4s hi,A6d,if_pos u]at h;simpa using h
theorem FracAt.next {xs:List TRat} {want s:TRat} {b:List Int} {k:Nat} {i:Int} (h:FracAt xs want b k s) (hi:b[k]?=some i) (D:¬ 0<=A6u s want) (u:J_ (A0k s (xs.getD i.toNat A0h))=true):FracAt xs want b (k+1) (A0k s (xs.getD i.toNat A0h)):=by
 unfold FracAt at *;rw[C4s hi,A6d,if_neg D,if_pos u]at h;rw[h,D4o hi,Option.map_map];congr 1;funext l;simp
theorem FracAt.bad {xs:List TRat} {want s:TRat} {b:List Int} {k:Nat} {i:Int} (h:FracAt xs want b k s) (hi:b[k]?=some i) (D:¬ 0<=A6u s want) (u:¬ J_ (A0k s (xs.getD i.toNat A0h))=true):A6d xs want b (U_ 0)=none:=by
 unfold FracAt at h;rw[C4s hi,A6d,if_neg D,if_neg u]at h;simpa using h

theorem C7e (n:Nat):(A8w n).Nodup:=(D1k n).imp λh=>oM
theorem E6l:LinOrd leI:=by
 constructor<;>(unfold leI;simp only[decide_eq_true_eq,Bool.or_eq_true];intros;omega)
theorem D3v {n:Nat} {L:List Int} (u:L.Nodup) (h:∀ x∈L,x∈A8w n):L.mergeSort leI=(A8w n).filter (λx=>decide (x∈L)):=by
 refine D1w E6l ?_ ?_;·refine List.Perm.symm ?_;refine(List.perm_ext_iff_of_nodup u ((C7e n).filter _)).2 λx=>?_;simp only[List.mem_filter,decide_eq_true_eq];exact⟨λb=>⟨h x b,b⟩,λb=>b.2⟩
 exact((D1k n).imp λb=>by unfold leI;simp;omega).filter _

theorem E4c {xs:List TRat} (b:∀ x∈xs,RatV x):A1z xs=(A8w xs.length).mergeSort (C2f xs):=by
 unfold A1z;rw[if_pos (List.all_eq_true.2 λx h=>ratOkB_iff.2 (b x h))]
theorem B3q {xs:List TRat} (b:∀ x∈xs,RatV x):(A1z xs).Perm (A8w xs.length):=by
 rw[E4c b];exact List.mergeSort_perm _ _
theorem C0d {xs:List TRat} (b:∀ x∈xs,RatV x):(A1z xs).length=xs.length:=by
 rw[(B3q b).length_eq,D3o]
theorem E2i:RatV (U_ 0):=ratOkB_iff.1 dE
theorem C4v {xs:List TRat} {i:Int} (h:i∈A1z xs):i∈A8w xs.length:=by
 unfold A1z at h;split at h;·exact(List.mergeSort_perm _ _).subset h
 cases h
theorem C9d {xs:List TRat} {p:TRat} {l:List Int} (h:A5d xs p=true) (u:J_ (A0d p (A8v xs))=true) (b:A6d xs (A0d p (A8v xs)) (A1z xs) (U_ 0)=some l):A5k xs p=l.mergeSort leI:=by
 unfold A5k;rw[h,u,b];rfl
theorem C2g {xs:List TRat} {p:TRat} (h:A5d xs p=true):∀ x∈xs,RatV x:=by
 unfold A5d at h;rw[Bool.and_eq_true]at h;exact λx b=>ratOkB_iff.1 (List.all_eq_true.1 h.1 x b)
def Keeps (w w':World) (ex:List Nat):Prop:=w.1.size<=w'.1.size/\∀ g,g<w.1.size->g∉ex->w'.1[g]?=w.1[g]?
theorem Keeps.refl (w:World) (ex:List Nat):Keeps w w ex:=⟨Nat.le_refl _,λ_ _ _=>rfl⟩
theorem Keeps.below {w w1 w2:World} {ex:List Nat} {b:Nat} (h:Keeps w w1 ex) (hb:Below b w1 w2) (hl:w.1.size<=b):Keeps w w2 ex :=
 ⟨Nat.le_trans h.1 hb.size,λg hg he=>(hb.block g oM).trans (h.2 g hg he)⟩
theorem Keeps.next {w w1 w2:World} {ex:List Nat} (h:Keeps w w1 ex) (hb:Bw w1 w2):Keeps w w2 ex:=h.below hb h.1
theorem Keeps.grown {w w1 w2:World} {ex:List Nat} {g:Nat} (h:Keeps w w1 ex) (hg:w1.grownBy w2 (some g)) (he:g∈ex\/w.1.size<=g):Keeps w w2 ex :=
 ⟨Nat.le_trans h.1 hg.size,λk hk hx=>(hg.block k (Nat.lt_of_lt_of_le hk h.1) (by
  intro e;injection e with e;subst e
  rcases he with he|he
  ·exact hx he
  omega)).trans (h.2 k hk hx)⟩
theorem Keeps.set {w w1:World} {ex:List Nat} (h:Keeps w w1 ex) (p:Addr) (v:Value) (hp:p.block∈ex\/w.1.size<=p.block):Keeps w (w1.setCell p v) ex :=
 ⟨by simpa using h.1,λk hk hx=>(Below.heap_setCell w1 p v k (by
  intro e;subst e
  rcases hp with hp|hp
  ·exact hx hp
  omega)).trans (h.2 k hk hx)⟩
theorem Keeps.sl {α:Type} [Dat α] {w w':World} {ex:List Nat} (h:Keeps w w' ex) {A:Option Addr} {n c:Nat} {xs:List α} {bs:List Nat} (hs:Sl w A n c xs bs) (hd:∀ b∈bs,b∉ex):Sl w' A n c xs bs :=
 hs.keep λg hg=>h.2 g (hs.lt g hg) (hd g hg)
theorem Keeps.agg {α:Type} [Dat α] {w w':World} {ex:List Nat} (h:Keeps w w' ex) {v:Value} {x:α} {bs:List Nat} (hs:Agg w v x bs) (hd:∀ b∈bs,b∉ex):Agg w' v x bs :=
 hs.keep λg hg=>h.2 g (hs.lt g hg) (hd g hg)
theorem Keeps.cell {w w':World} {ex:List Nat} (h:Keeps w w' ex) {p:Addr} (hp:p.block<w.1.size) (hd:p.block∉ex):w'.cell? p=w.cell? p :=
 World.cell?_of_block (h.2 p.block hp hd)
theorem Row.other {w:World} {base g n cap:Nat} {us:List Int} (h:Row w base g n cap us) (p:Addr) (v:Value) (hp:p.block≠g):Row (w.setCell p v) base g n cap us :=
 World.ownsRow.kept (row:=some p.block) h ⟨rfl,rfl,rfl,sI,λk _ hne=>Below.heap_setCell w p v k (λe=>hne (by rw[e]))⟩ (by simp[Value.ownBlock];exact λe=>hp e.symm)
theorem Row.lt {w:World} {base g n cap:Nat} {us:List Int} (h:Row w base g n cap us):g<w.1.size:=by
 rcases A6k h with⟨h,_⟩|⟨D,u,h,E,b,_⟩;·cases h
 injection h with h _ _;injection h with h;injection h with h _ _;rw[h];exact b
theorem C8v (A:Option Addr) (n c:Nat) (xs:List TRat) (ae:List Nat) (w:World) (hx:Sl w A n c xs ae) (aL:n<20) (K:xs.all J_=true) :
  Calls prog 111 #[.slice A n c] w (A0w w (A1z xs)):=by
 have az:=A_ hx.1;have G:=A_ hx;obtain⟨aS,aG,aP,aQ,aR⟩:=info_parts A6b;clear hx;have V:=A_ (λx (hm:x∈xs)=>ratOkB_iff.1 (List.all_eq_true.1 K x hm));have ax:=A_ (by unfold A1z;rw[K,az.o];rfl:A1z xs=(A8w n).mergeSort (C2f xs));have aB:=A_ K;clear K;go_enter func111,ntmps111;go_wp2_with fail;have C:=A1r A n c xs _ (w.alloc (.cells #[.slice A n c] 27)) (G.below (Below.box _));rw[aB.o]at C;refine C.mono ?_;clear C;rintro _ E ⟨rfl,ag⟩;obtain⟨aE,aF⟩:=F_ ag;have aY:w.1.size<E.1.size:=ltg ag;have aD:E.cell? ⟨w.1.size,0,none⟩=some (.slice A n c):=gS;have aM:w.1.size≠E.1.size:=oM;go_wp2_with fail;go_loopg [3,11] n (λg v s wr=>∃ (k gB cap:Nat),k+g=n/\s=.int .i64 k/\v=.slice (some ⟨gB,0,none⟩) k cap/\Hid (Row wr w.1.size gB k cap (A8w k))/\Hid (gB≠w.1.size)/\Bw w wr/\(w.1.size<wr.1.size/\wr.cell? ⟨w.1.size,0,none⟩=some (.slice A n c)));case atStart =>refine⟨0,E.1.size,0,oM,rfl,rfl,?_,λe=>aM e.symm,Below.go,sO,gS⟩;exact World.ownsRow_made E #[] 0 oM (Nat.zero_le _) rfl
 case round =>
  clear aD aE aF;obtain⟨k,gB,cap,al,rfl,rfl,I,am,u,ab,ah⟩:=hrel;rcases Nat.lt_or_ge k n with Z|Z
  ·have aK:(k:Int)<n:=oM
   obtain⟨g,rfl⟩:∃ g,gk=g+1:=⟨gk - 1,oM⟩
   have aH:=A_ (by omega:k+1+g=n);have ar:=A_ (by unfold maxLen;omega:k+1<=maxLen);have au:=A_ (by omega:(k+1)*8<=140737488355328);have aw:=A_ u.size;have ao:wr.ownsRow w.1.size 3 1 (.slice (some ⟨gB,0,none⟩) k cap) k ((A8w k).map (.int .i64)):=I.o;have S:=A_ u;have ay:=A_ ah;have ad:=A_ ab;clear al Z;go_wp2_with (first|(at_builtin;refine wpList_append_own _ rfl _ _ 31 rfl w.1.size 3 aS (.int .i64 0) 1 8 underlying31 aG aP aQ aR rfl dE _ _ _ rfl (ao.alloc _) ⟨wr.1.size,0,none⟩ 1 1 [.int .i64 (k)] rfl rfl (cell_one_new _ _ _) (λx hx=>iH) ar au (A1a aw _) ?_;intro aT w3 ap J aX));have af:=A2o u ao J;have aa:w3.ownsRow w.1.size 3 1 aT (k+1) ((A8w (k+1)).map (.int .i64)):=by rw[D0x,List.map_append];exact ap
   have ai:w3.cell? ⟨w.1.size,0,none⟩=some (.slice A n c):=by have W:wr.grownBy w3 (some gB):=(A5h (Below.box _) _).trans J;exact(World.cell?_of_block (a:=⟨w.1.size,0,none⟩) (W.block _ ad.o (by simpa using λe=>am.o e.symm))).trans ay.o
   have aN:w.1.size<w3.1.size:=Nat.lt_of_lt_of_le ad (((A5h (Below.box _) (some gB)).trans J).size);rcases A6k aa with⟨_,aV⟩|⟨h,H,rfl,_⟩
   ·exfalso;omega
   have D:Row w3 w.1.size h (k+1) H (A8w (k+1)):=aa;have an:h≠w.1.size:=λe=>by subst e;have:=(A0t D (j:=0) (x:=0) (by simp[A8w])).2.1;rw[ai]at this;cases this
   have T:=A_ D;have aA:=A_ an;have O:=A_ af;have aC:=A_ aN;clear ap aa D an af J;go_wp2_with fail;go_roundg g;case measure=>omega
   case rel=>exact⟨k+1,h,H,aH,gN,rfl,T,aA,O,aC,ai⟩
  have aK:¬ ((k:Int)<n):=oM;have aJ:k=n:=oM;subst aJ;have S:=A_ u;have ac:Cmp wr gB k 167 (.pointer (some ⟨w.1.size,0,none⟩)) (B9t xs) (C2f xs):=by
   refine⟨C3r,λw' Y x y hx aO=>?_,λx y aq b=>D8t V b,λx y aq b=>D6k aq b,C9l V⟩;obtain⟨i,rfl⟩:=Int.eq_ofNat_of_zero_le hx.1;obtain⟨j,rfl⟩:=Int.eq_ofNat_of_zero_le aO.1;have aW:w.1.size<=gB:=by
    rcases A6k I with⟨b,_⟩|⟨h,H,b,X,_⟩;·cases b
    injection b with b _ _;injection b with b;injection b with b _ _;rw[b];exact X
   refine C7o w.1.size A k c xs ae w' ?_ (Nat.lt_of_lt_of_le ab Y.size) ?_ V.o i j oM oM;·exact(World.cell?_of_block (a:=⟨w.1.size,0,none⟩) (Y.block _ ab (by simpa using λe=>am.o e.symm))).trans ah
   exact(G.below u).keep λh aj=>Y.block h ((G.below u).lt h aj) (by have:=G.lt h aj;simp;omega)
  have C:=A_ (C1i w.1.size gB k cap 167 (.pointer (some ⟨w.1.size,0,none⟩)) (B9t xs) (C2f xs) (A8w k) wr I aL ac (λx hx=>B1c hx) (D1k k));clear al Z ac;go_wp2_with fail;refine C.mono ?_;rintro _ aU ⟨rfl,D,ak⟩;have T:=A_ D
  have O:=A_ (show Bw w aU from S.grown ak S.size (λk2 aI=>by
   have W:gB=k2:=by simpa using aI
   subst W;rcases A6k I with⟨b,_⟩|⟨h,H,b,X,_⟩
   ·cases b
   injection b with b _ _;injection b with b;injection b with b _ _;rw[b];exact X))
  clear D ak;go_wp2;go_ret;rw[ax.o];refine A2r T.o (by rw[List.length_mergeSort,D3o]) (λx hx=>?_) O.o;have:=B1c (List.mem_mergeSort.1 hx);unfold I64;omega
end Go.Proofs.YtbhemnidcleaiaaGreat.X
