/- A part of the proof. -/
import Derived.Test.YtbkilakncnlebaaGreatDoorY47
import Derived.Test.YtbkilakncnlebaaGreatDoorY15
set_option linter.constructorNameAsVariable false
set_option maxHeartbeats 16000000
set_option maxRecDepth 10000
open Go renaming Calls→AR,Value→AJ,World→J,bodyPost_ret→BI,results_tmp→FQ
open Go.Code renaming new→DH
open Go.XB.Below renaming next→AI
open List renaming append_assoc→DM,flatMap_cons→JK,getElem?_map→IE,length_append→EF,length_cons→GW,length_nil→OV,length_take→GH,mem_of_getElem?→CH
open Nat renaming lt_or_ge→BN
open Option renaming none→I,some→QL
namespace Go.Proofs.YtbkilakncnlebaaGreatDoor.X
open Go.RowKit Go.XB Go.XN Proofs.Tryz
attribute [local go_sem] L_ opAt N_ M_ Region.wanted yielded B9n
attribute [local simp] N_ M_ MP.eq MP.agg MP.sl A0r
theorem C0m (w:List UInt8):∀ ws:List (List UInt8),A6d (w::ws)=w++ws.flatMap (λx=>32::x)
 | []=>by unfold A6d;rw[F3o];simp
 |v::r=>by
  have h:=C0m v r
  unfold A6d at h ⊢
  rw[B8w,h];simp
theorem C8h {ls:List (List UInt8)} {i:Nat} {l:List UInt8} (h:ls[i]?=QL l):A1z (ls.take (i+1))=A1z (ls.take i)++(l++[10]):=by
 rw[take_step h];simp[A1z]
theorem D5s (ls:List (List UInt8)) (i:Nat):(A1z (ls.take i)).length<=(A1z ls).length:=by
 have e:A1z ls=A1z (ls.take i)++A1z (ls.drop i):=by unfold A1z;rw[<-List.flatMap_append,List.take_append_drop]
 rw[e,EF];omega
theorem E1c {m:TMesh} {i:Nat} {p:TPoint} (h:m.1[i]?=QL p):(A5k m)[i]?=QL (A6d (ptW p)):=by
 have b:i<m.1.length:=(List.getElem?_eq_some_iff.1 h).1;unfold A5k;rw[List.getElem?_append_left (by simpa using b),IE,h];rfl
theorem D9d {m:TMesh} {i:Nat} {t:TTri} (h:m.triangles[i]?=QL t):(A5k m)[m.1.length+i]?=QL (A6d (D1d t)):=by
 unfold A5k;rw[List.getElem?_append_right sI,IE];simp[h]
theorem F6c (p:TPoint):[112,32]++C7m p=A6d (ptW p):=by unfold ptW;rw[C0m];simp
def F4a (t:TTri) (k:Nat):List UInt8:=((C2g t).take k).flatMap λx=>32::Lib.itoa x
theorem F5q {t:TTri} {k:Nat} {x:Int} (h:(C2g t)[k]?=QL x):F4a t (k+1)=F4a t k++(32::Lib.itoa x):=by
 unfold F4a;rw[take_step h];simp
theorem F6h (t:TTri):116::F4a t 5=A6d (D1d t):=by
 unfold D1d F4a;rw[C0m,List.flatMap_map];rfl
theorem F5y {t:TTri} (u:F2t t) (k:Nat):(F4a t k).length<=35:=by
 have h:∀ (l:List Int),(∀ x∈l,0<=x/\x<1000000)->(l.flatMap λx=>32::Lib.itoa x).length<=7*l.length:=by
  intro l;induction l with
  |nil=>intro _;simp
  |cons x r ih =>
   intro b
   have G:=ih (λy E=>b y (List.mem_cons_of_mem _ E))
   have H:=D0q (b x sI).1 (b x sI).2
   simp only[JK,EF,GW];omega
 have:=h ((C2g t).take k) (λx D=>u x (List.mem_of_mem_take D));have O:((C2g t).take k).length<=5:=by rw[GH];exact Nat.min_le_right _ _
 unfold F4a;omega
theorem Bld.lt {B b:Nat} {l:List UInt8} {w:J} (h:Bld B b l w):b<w.1.size:=by
 rcases h with⟨_,v,u,_⟩|⟨_,v,u,_⟩<;>exact E_ u
theorem F7p {b:Nat} {w w':J} (hk:Lib.OthersKept 5 (QL b) w w') {g:Nat} {arr:Array AJ} {t:TypeId} (K:w.1[g]?=QL (.cells arr t)) (ht:t≠5) (hg:g≠b):w'.1[g]?=QL (.cells arr t) :=
 hk g _ K (λe=>hg (by injection e)) (by rintro c fz h;injection h with _ h _;exact ht h)
theorem C8v (v:AJ) (m:TMesh) (b:List Nat) (w:J) (O:Agg w v m b) (bj:∀ p∈m.1,A1b p=true) (ac:D7x m) (ad:TabOk w) :
  AR prog 100 #[v] w (A0b w (.string ⟨(B9a m).toArray⟩)):=by
 have aW:=A_ ad;have aV:=A_ ac;have bv:=A_ bj;obtain⟨bR,W,bW,cc,bn,n1,bL,bP,rfl,rfl,ar,au⟩:=TMesh.agg O;have bA:=A_ ar;have bB:=A_ au;have bh:=ar.1;have bi:=au.1;have b5:W<=40:=by have:=ac.1;omega
 have b7:n1<=48:=by have:=ac.2.1;omega
 have aU:=A_ (λi=>Nat.le_trans (D5s (A5k m) i) (C1i (B4s ac).1 (by rw[(B4s ac).2];omega)));have bF:=A_ ar.lt;have bG:=A_ au.lt;have aS:=A_ bh;have bq:=A_ bi;clear ar au O bj ac ad bh bi;go_enter func100,ntmps100;go_upto_region 1 with fail;refine DH λh D=>?_;have ae:=A_ D.b;have aA:=A_ D.k;have bJ:=E_ aA;clear D;go_upto_region 2 with fail;have E:=A_ (Bld.fresh h);have u:=A_ (Below.box (w:=h) (.cells #[.pointer I,.slice I 0 0] 152));have aZ:=A_ (A0z aA u);generalize (h.alloc (.cells #[.pointer I,.slice I 0 0] 152))=bV at *;obtain⟨X,Y,T⟩:=bx aZ;go_wp2_with fail;have b6:(W:Int)<=40:=oS;have b8:(n1:Int)<=48:=oS;clear X Y T;go_loopg [14] W (λg x wr=>∃ i:Nat,i+g=W/\x=.int .i64 i/\Hid (Bld h.1.size h.1.size (A1z ((A5k m).take i)) wr)/\Hid (Bw h wr));case atStart=>exact⟨0,oS,rfl,E.o,u.o⟩
 case round =>
  clear aZ;clear E u;obtain⟨i,aF,rfl,E,u⟩:=hrel;rcases BN i W with aG|aG
  ·have bM:(i:Int)<W:=oS
   obtain⟨g,rfl⟩:∃ g,gk=g+1:=⟨gk - 1,oS⟩
   have ah:=A_ ((bA.below ae).belowB u (λb aD=>by have:=bF b aD;omega));obtain⟨bK,bO,p,bn,n1,bL,bP,bS,n2,bX,cd,bT,ca,bY,ce,bU,cb,bZ,cf,rfl,bd,aK,a5,a6,a7,a8,a9,b0,ao⟩:=TPoint.elemA ah aG;have bz:=A_ ao;have an:=A_ (C8h (E1c aK));have bs:=A_ aF;have bI:=A_ (bv p (CH aK));clear ao aK aF ah;go_upto_region 5 with fail;refine DH λaL D=>?_;have aa:=A_ D.b;have am:=A_ D.k;clear D;have Z:=A_ (AI u aa);have al:=A_ (E.below aa);obtain⟨X,Y,T⟩:=bx am;go_wp2_with fail;refine(D7j _ p _ aL (bz.below aa) bI (aW.below (AI ae Z))).mono ?_;rintro _ w3 ⟨rfl,aE⟩;have b9:=D5w p;have aO:=A_ (AI Z aE);have bo:=A_ (al.below aE);clear aE X Y T;have ag:=A_ (aU i);go_wp2_with fail;have ba:112::32::(C7m p++[10])=A6d (ptW p)++[10]:=by rw[<-F6c];simp
   refine(C3c h.1.size h.1.size _ _ w3 bo (by have:=ag.o;simp only[GW,EF,OV];omega) aO.o.size).mono ?_;rintro _ aM ⟨rfl,ab,ai,-⟩;rw[ba,<-an.o]at ab;have af:=A_ ab;have aj:=A_ (aO.trans ai);clear ab ai ba;go_wp2_with fail;go_roundg g;case measure=>omega
   case rel=>exact⟨i+1,by have:=bs.o;omega,gN,af.o,aj.o⟩
  obtain rfl:i=W:=oS;have bM:¬ ((i:Int)<i):=oS;have a2:=A_ ((u.block _ bJ).trans aA);obtain⟨X,Y,T⟩:=bx a2;clear aF aG;go_wp2_with fail;clear X Y T a2;go_loopg [27] n1 (λg x wr=>∃ j:Nat,j+g=n1/\x=.int .i64 j/\Hid (Bld h.1.size h.1.size (A1z ((A5k m).take (i+j))) wr)/\Hid (Bw h wr));case atStart=>exact⟨0,oS,rfl,E.o,u.o⟩
  case round =>
   clear E u;rename J=>bm;obtain⟨j,aH,rfl,E,u⟩:=hrel;rcases BN j n1 with aI|aI
   ·have bN:(j:Int)<n1:=oS
    obtain⟨g,rfl⟩:∃ g,gk=g+1:=⟨gk - 1,oS⟩
    have ah:=A_ ((bB.below ae).belowB u (λb aD=>by have:=bG b aD;omega));obtain⟨bK,bO,t,rfl,bd,ad,a5,a6,a7,a8,a9,ao⟩:=TTri.elemA ah aI;have an:=A_ (C8h (D9d ad));have bt:=A_ aH;have a3:=A_ (aV.2.2 t (CH ad));clear ao ad aH ah;rw[aS.o]at an;go_upto_region 10 with fail;refine DH λaL D=>?_;have aa:=A_ D.b;have am:=A_ D.k;clear D a5 a6 a7 a8 a9 bd;have Z:=A_ (AI u aa);have al:=A_ (E.below aa);have ag:=A_ (aU (i+j));have br:=A_ (by have:=Bld.lt E;omega:bm.1.size≠h.1.size);go_wp2_with fail;refine(C3c h.1.size h.1.size _ [116] aL al (by have:=ag.o;simp only[GW,OV];omega) Z.o.size).mono ?_;rintro _ aM ⟨rfl,ab,ai,bf⟩;have aY:=A_ (F7p bf am dE br);have af:=A_ ab;have aj:=A_ (Z.trans ai);clear ab ai bf am Z al;obtain⟨X,Y,T⟩:=bx aY;go_upto_region 12 with fail;refine DH λcg D=>?_;have aC:=A_ D.b;have aB:=A_ D.k;clear D;clear X Y T;have aP:=A_ (AI aj aC);have aR:=A_ (af.below aC);have aT:=A_ (by have:=Bld.lt af;omega:aM.1.size≠h.1.size);obtain⟨bc,be⟩:∃ g,aM.1.size=g:=⟨_,rfl⟩
    rw[be]at aB aT ⊢;have a4:=A_ (F5y a3);go_loopg [44] 5 (λg x wr=>∃ k:Nat,k+g=5/\x=.int .i64 k/\Hid (Bld h.1.size h.1.size (A1z ((A5k m).take (i+j))++116::F4a t k) wr)/\Hid (Bw h wr)/\Hid (wr.1[bc]?=QL (.cells ((C2g t).map (.int .i64)).toArray 3)));case atStart=>exact⟨0,oS,rfl,aR.o,aP.o,aB.o⟩
    case round =>
     clear aR aP aB aC af aj aY be;rename J=>aN;obtain⟨k,aJ,rfl,E,u,a1⟩:=hrel;rcases BN k 5 with aq|aq
     ·have b4:(k:Int)<5:=oS
      obtain⟨g,rfl⟩:∃ g,gk=g+1:=⟨gk - 1,oS⟩
      obtain⟨x,O⟩:∃ x,(C2g t)[k]?=QL x:=⟨(C2g t)[k]'aq,List.getElem?_eq_getElem aq⟩
      have aw:=a3 x (CH O);have q1:aN.cell? ⟨bc,k,I⟩=QL (.int .i64 x):=by rw[(bxL a1.o).1 k];simp[O]
      have bH:=A_ (F5q O);have aX:=A_ aw;have bu:=A_ aJ;have az:=A_ (a4 k);have b3:=D0q aw.1 aw.2;clear O aw aJ;go_wp2_with fail;refine(C0f x (by have:=aX.o;omega) (by have:=aX.o;omega) aN (aW.o.below (AI ae.o u.o))).mono ?_;rintro _ bQ ⟨rfl,ap⟩;have aQ:=A_ (AI u ap);have bp:=A_ (E.below ap);have bD:=A_ (A0z a1 ap);clear ap q1;go_wp2_with fail;refine(C3c h.1.size h.1.size _ (32::Lib.itoa x) bQ bp (by have:=ag.o;have:=az.o;simp only[GW,EF];omega) aQ.o.size).mono ?_;rintro _ bl ⟨rfl,H,G,bg⟩;rw[DM,List.cons_append,<-bH.o]at H;have ay:=A_ H;have ax:=A_ (aQ.trans G);have bE:=A_ (F7p bg bD dE aT);clear H G bg;go_wp2_with fail;go_roundg g;case measure=>omega
      case rel=>exact⟨k+1,by have:=bu.o;omega,gN,ay.o,ax.o,bE.o⟩
     obtain rfl:k=5:=oS;clear aJ aq;have az:=A_ (a4 5);go_wp2_with fail;refine(C3c h.1.size h.1.size _ [10] aN E (by have:=ag.o;have:=az.o;simp only[GW,EF,OV];omega) u.o.size).mono ?_;rintro _ bl ⟨rfl,H,G,-⟩;rw[F6h,DM,<-an.o]at H;have ay:=A_ H;have ax:=A_ (u.trans G);clear H G;go_wp2_with fail;go_roundg g;case measure=>omega
     case rel=>exact⟨j+1,by have:=bt.o;omega,gN,ay.o,ax.o⟩
   obtain rfl:j=n1:=oS;have bN:¬ ((j:Int)<j):=oS;have ak:=E.o;rw[List.take_of_length_le (by rw[(B4s aV.o).2,aS.o,bq.o];exact Nat.le_refl _)]at ak;have ak:=A_ ak;clear aH aI;go_wp2_with fail;refine(E6s h.1.size h.1.size _ bm ak u.size).mono ?_;rintro _ bl ⟨rfl,G,-⟩;go_wp2;refine BI (FQ rfl _ _ _) rfl ⟨rfl,AI ae (u.trans G)⟩
theorem E2u (v:AJ) (m:TMesh) (b:List Nat) (xs ys:List Int) (w:J) (E:Agg w v m b) (hi:MeshI m xs ys) (W:∀ p∈m.1,A1b p=true) (T:D7x m) (X:TabOk w) :
  AR prog 99 #[v] w (A0b w (.string ⟨(B9a m).toArray⟩)):=by
 have ae:=A_ X;have H:=A_ E;have ac:=A_ T;have ad:=A_ W;have ab:=A_ hi;obtain⟨al,ap,an,aq,am,n1,ao,ar,rfl,rfl,ai,aj⟩:=TMesh.agg E;clear ai aj E W T X hi;go_enter func99,ntmps99;go_upto_region 1 with fail;refine DH λag u=>?_;have G:=A_ u.b;have O:=A_ u.k;clear u;obtain⟨Z,aa,Y⟩:=bx O;go_wp2_with fail;refine(B1u _ m _ xs ys ag (H.below G) ab).mono ?_;rintro _ ak ⟨rfl,D⟩;have h:=A_ (AI G D);have af:=A_ (A0z O D);clear D Z aa Y;obtain⟨Z,aa,Y⟩:=bx af;go_wp2_with fail;refine(C8v _ m _ ak (H.below h) ad ac (ae.below h)).mono ?_;rintro _ au ⟨rfl,ah⟩;go_wp2;refine BI (FQ rfl _ _ _) rfl ⟨rfl,AI h ah⟩
def F2x (word:List UInt8) (u:List TRat) (i:Nat):List UInt8:=word++(u.take i).flatMap λr=>32::A9t r
theorem F5s {word:List UInt8} {u:List TRat} {i:Nat} {r:TRat} (h:u[i]?=QL r):F2x word u (i+1)=F2x word u i++(32::A9t r):=by
 unfold F2x;rw[take_step h];simp
theorem F3w (word:List UInt8) (u:List TRat):F2x word u u.length=A6d (B1c word u):=by
 unfold F2x B1c;rw[C0m,List.flatMap_map,List.take_length]
theorem F4b (word:List UInt8) (u:List TRat) (i:Nat) (E:word.length<=1082) (hi:u.length<=3):(F2x word u i).length<=5000:=by
 have b:∀ l:List TRat,(l.flatMap λr=>32::A9t r).length<=1083*l.length:=by
  intro l;induction l with
  |nil=>simp
  |cons x r ih =>
   have:=B7g x
   simp only[JK,EF,GW];omega
 have h:=b (u.take i);have D:(u.take i).length<=u.length:=by rw[GH];exact Nat.min_le_right _ _
 unfold F2x;rw[EF];omega
theorem C1c (word:List UInt8) (A:Option Addr) (n c:Nat) (u:List TRat) (b:List Nat) (w:J) (h:Sl w A n c u b) (X:word.length<=1082) (ak:n<=3) (W:TabOk w) :
  AR prog 62 #[.string ⟨word.toArray⟩,.slice A n c] w (A0b w (.string ⟨(A6d (B1c word u)++[10]).toArray⟩)):=by
 have ag:=A_ h;have af:=A_ W;have ae:=A_ h.1;have ad:=A_ (λi=>F4b word u i X (by rw[h.1];exact ak));have aC:(n:Int)<=3:=oS;clear h W X;go_enter func62,ntmps62;go_wp2_with fail;go_loopg [0,9] n (λg s x wr=>∃ i:Nat,i+g=n/\x=.int .i64 i/\s=.string ⟨(F2x word u i).toArray⟩/\Hid (Bw w wr));case atStart=>exact⟨0,oS,rfl,by unfold F2x;simp,Below.refl _ _⟩
 case round =>
  obtain⟨i,G,rfl,rfl,B⟩:=hrel;have ar:=ad i;rcases BN i n with H|H
  ·have aj:(i:Int)<n:=oS
   obtain⟨g,rfl⟩:∃ g,gk=g+1:=⟨gk - 1,oS⟩
   obtain⟨au,aE,x,ap,n1,aw,aF,aq,n2,ax,aG,rfl,aB,Y,ay,az,aA,O⟩:=TRat.elemA (ag.below B) H;have ai:=A_ (F5s (word:=word) Y);have ab:=A_ O;have ac:=A_ G;have aD:=B7g x;clear O Y G;go_upto_region 4 with fail;refine DH λam E=>?_;have D:=A_ E.b;have ah:=A_ E.k;clear E;obtain⟨an,ao,al⟩:=bx ah;go_wp2_with fail;refine(C0d _ x _ am (ab.below D) (af.below (AI B D))).mono ?_;rintro _ w3 ⟨rfl,T⟩;have Z:=A_ (AI (AI B D) T);clear T an ao al;go_wp2_with fail;go_roundg g;case measure=>omega
   case rel=>exact⟨i+1,by have:=ac.o;omega,gN,by rw[ai.o],Z.o⟩
  obtain rfl:i=n:=oS;have aj:¬ ((i:Int)<i):=oS;have aa:=A_ (by rw[<-ae.o];exact F3w _ _:F2x word u i=A6d (B1c word u));clear G H;go_wp2;refine BI (FQ rfl _ _ _) rfl ⟨?_,B⟩;rw[<-aa.o];rfl
theorem E0w {m:TMesh} (h:D7x m):(B9a m).length<=1010101:=C1i (B4s h).1 (by rw[(B4s h).2];have:=h.1;have:=h.2.1;omega)
theorem B7p {p:TProblem} (b:E4c p):linesOk (A5h p) 10000/\(A5h p).length=(A5k p.1).length+2/\(A5k p.1).length<=88/\(B8l p).length<=1010101:=by
 obtain⟨h,u⟩:=F2s b;have D:=(B4s b.1).2;have:=b.1.1;have:=b.1.2.1;exact⟨h,oS,oS,C1i h oS⟩
theorem E7e (p:TProblem):B9a p.1++(A6d (B1c kW p.2)++[10])++(A6d (B1c fW p.3)++[10])=B8l p:=by
 unfold B8l A5h B9a;simp[A1z]
theorem C4s (v:AJ) (p:TProblem) (b:List Nat) (xs ys:List Int) (w:J) (al:Agg w v p b) (aw:ProbI p xs ys) (au:∀ q∈p.1.1,A1b q=true) (H:E4c p) (az:TabOk w) :
  AR prog 58 #[v] w (A0b w (.string ⟨(B8l p).toArray⟩)):=by
 have ab:=A_ az;have aK:=A_ al;have aG:=A_ H;have aI:=A_ au;have aJ:=A_ aw;obtain⟨aY,a7,a1,a8,aZ,n1,a2,a9,aB,n2,aM,aU,aC,aA,c3,aV,rfl,rfl,ax,ay,aj,ak⟩:=TProblem.agg al;have aH:=A_ (TMesh.mkAgg (x:=p.1) ax ay);have aE:=A_ aj;have aF:=A_ ak;have aR:n2<=3:=by have:=H.2.1;have:=aj.1;omega
 have aS:aA<=3:=by have:=H.2.2;have:=ak.1;omega
 have aO:=E0w H.1;have aP:=(C3r (word:=kW) (u:=p.2) dE dE (by rw[H.2.1];decide)).2;have aQ:=(C3r (word:=fW) (u:=p.3) dE dE (by rw[H.2.2];decide)).2;have aD:=A_ (E7e p);obtain⟨ad,af⟩:∃ T,B9a p.1=T:=⟨_,rfl⟩
 obtain⟨ae,ag⟩:∃ T,A6d (B1c kW p.2)=T:=⟨_,rfl⟩
 obtain⟨ar,ah⟩:∃ T,A6d (B1c fW p.3)=T:=⟨_,rfl⟩
 rw[af]at aO;rw[ag]at aP;rw[ah]at aQ;have an:=A_ af;have ao:=A_ ag;have ap:=A_ ah;clear ax ay aj ak al au H az aw af ag ah;go_enter func58,ntmps58;go_upto_region 1 with fail;refine DH λaL ac=>?_;have am:=A_ ac.b;have aq:=A_ ac.k;clear ac;obtain⟨aW,aX,aT⟩:=bx aq;go_wp2_with fail;refine(B5t _ p _ xs ys aL (aK.below am) aJ).mono ?_;rintro _ ba ⟨rfl,ai⟩;have G:=A_ (AI am ai);have W:=A_ (A0z aq ai);clear ai aW aX aT;have a3:=(bx W).1 0;have a4:=(bx W).1 1;have a5:=(bx W).1 2;have a6:=(bx W).1 3;have l1:=E_ W;go_wp2_with fail;refine X_ sI ?_;dsimp only[List.dropLast,List.getLast,List.length];iterate 2 refine C_ _ ?_
 refine D_ (MP.eq (.string ⟨ad.toArray⟩)) ?_ ?_;·intro X Y O h E;obtain⟨Z,aa⟩:=F_ h;simp at E;refine G_ ?_;have C:=C8v _ p.1 _ O (Agg.below aH (AI G h)) aI aG.1 (ab.below (AI G h));rw[an.o]at C;refine C.mono ?_;rintro e w' ⟨rfl,D⟩;exact⟨_,rfl,D,[],⟨rfl,rfl⟩,λb D=>by simp at D⟩
 iterate 2 refine C_ _ ?_
 refine D_ (MP.eq (.string ⟨(ae++[10]).toArray⟩)) ?_ ?_;·intro X Y O h E;obtain⟨Z,aa⟩:=F_ h;simp at E;refine G_ ?_;have C:=C1c kW aB n2 aM p.2 aU O (Sl.below aE (AI G h)) dE aR (ab.below (AI G h));rw[ao.o]at C;refine C.mono ?_;rintro e w' ⟨rfl,D⟩;exact⟨_,rfl,D,[],⟨rfl,rfl⟩,λb D=>by simp at D⟩
 refine A2b (.string ⟨(ad++(ae++[10])).toArray⟩) ?_ ?_;·intro X Y O h E;obtain⟨Z,aa⟩:=F_ h;simp at E;refine⟨gD,?_⟩;go_simp;omega
 iterate 2 refine C_ _ ?_
 refine D_ (MP.eq (.string ⟨(ar++[10]).toArray⟩)) ?_ ?_;·intro X Y O h E;obtain⟨Z,aa⟩:=F_ h;simp at E;refine G_ ?_;have C:=C1c fW aC aA c3 p.3 aV O (Sl.below aF (AI G h)) dE aS (ab.below (AI G h));rw[ap.o]at C;refine C.mono ?_;rintro e w' ⟨rfl,D⟩;exact⟨_,rfl,D,[],⟨rfl,rfl⟩,λb D=>by simp at D⟩
 refine A2b (.string ⟨(ad++(ae++[10])++(ar++[10])).toArray⟩) ?_ ?_;·intro X Y O h E;obtain⟨Z,aa⟩:=F_ h;simp at E;refine⟨gD,?_⟩;go_simp;omega
 intro X Y wa h E aN;clear aN;simp at E;go_simp;go_wp2;refine BI (FQ rfl _ _ _) rfl ⟨?_,AI G h⟩;rw[<-aD.o,an.o,ao.o,ap.o];simp
end Go.Proofs.YtbkilakncnlebaaGreatDoor.X
