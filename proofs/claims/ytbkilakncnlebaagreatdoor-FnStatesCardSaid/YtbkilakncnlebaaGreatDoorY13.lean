/- A part of the proof. -/
import Derived.Test.YtbkilakncnlebaaGreatDoorY10
import Derived.Laws.CopyRow
import Derived.Laws.CopyOwn
import Derived.Lib.AppendZeros
import Derived.Lib.Overlaps
import Derived.Lib.Walk
import Derived.Laws.Externs
import Derived.Laws.IdiomCopy
import Derived.Shelf.RegionOpenPlain
import Derived.Shelf.Spec.SlicesInsertGrow
set_option linter.constructorNameAsVariable false
set_option maxHeartbeats 16000000
set_option maxRecDepth 10000
open Bool renaming false→AF,true→AD
open Decidable renaming decide→AU
open Go renaming Addr→AH,Builtin→KC,Calls→AR,Program→DZ,TypeId→BS,Value→AJ,World→J,bodyPost_ret→BI,heap_alloc_new→CF,info_parts→DW,maxLen→BG,results_tmp→FQ,setRow_heap→OB
open Go.Builtin renaming copy_→MJ
open Go.IntKind renaming i64→QO
open Go.Obj renaming cells→AK
open Go.RowKit.Below renaming refl→CG,trans→IY
open Go.Value renaming agg→AM,bool→AC,int→N,slice→S
open Go.World renaming cell?_of_block→JF
open Go.World.ownsRow renaming lt→EU
open Go.XB.Below renaming box→AV,next→AI
open List renaming append_assoc→DM,dropLast→DJ,drop_eq_getElem_cons→JX,drop_succ_cons→GG,flatMap_cons→JK,getD→II,getElem?_eq_some_iff→CQ,getElem?_take→IL,getLast→DK,length→DI,length_append→EF,length_drop→NP,length_take→GH,mem_iff_getElem?→JJ,mem_of_getElem?→CH,mem_of_mem_drop→OQ,mem_range→IQ,take_append_of_le_length→JV,take_of_length_le→CZ,take_succ_cons→GE
open Nat renaming le_refl→BH,lt_or_ge→BN,lt_succ_self→JG,zero_le→DV
open Option renaming none→I,some→QL
namespace Go
section
variable {P:DZ}
theorem C7v (w:J) (u aa ty elem:BS) (k g o dLen dCap:Nat) (a:AH) (sLen sCap:Nat) (b:Array AJ) (t:BS) (cs:List AJ)
  (Z:P.underlying u=QL (.slice elem)) (D:(P.info? elem).map (·.size)=QL k)
  (H:w.1[g]?=QL (AK b t (0,0))) (W:cs.length=Nat.min sLen dLen*k)
  (X:∀ j v,cs[j]?=QL v->w.cell? (a.add j)=QL v) (G:o+cs.length<=b.size) (E:∀ v∈cs,v.oneCell'=AD) :
  (MJ #[u,aa] ty #[S (QL ⟨g,o,I⟩) dLen dCap,S (QL a) sLen sCap]).run P w =
   .ok (goInt (Nat.min sLen dLen)) (w.setRow g (b.toList.take o++cs++b.toList.drop (o+cs.length)).toArray):=by
 have T:=run_loadCells_list (P:=P) w a cs X;have Y:=run_storeCells_at P g o t cs 0 b w H (by simpa using G) E;cases h:P.info? elem with
 |none=>simp[h]at D
 |some i =>
  have O:i.size=k:=by simpa[h]using D
  simp[MJ,run_underlying Z,KC.lenOf,KC.firstCells,sizeOf,typeInfo,h,O,<-W,T,Y]
end
def A8g (l:List AJ) (o:Nat) (cs:List AJ):List AJ:=l.take o++cs++l.drop (o+cs.length)
theorem A8b {l cs:List AJ} {o:Nat} (h:o+cs.length<=l.length):(A8g l o cs).length=l.length:=by
 unfold A8g;simp;omega
theorem E4u {l xs ys:List AJ} {a:Nat} (h:a+xs.length+ys.length<=l.length):(A8g (A8g l a xs) (a+xs.length) ys).take (a+xs.length+ys.length)=l.take a++xs++ys:=by
 have u:(l.take a).length=a:=oR;have b:(A8g l a xs).take (a+xs.length)=l.take a++xs:=by unfold A8g;rw[JV oR];rw[CZ oR]
 unfold A8g at b ⊢;rw[b,JV oR];rw[CZ oR]
theorem E2e {l xs ys:List AJ} {a:Nat} (h:a+xs.length+ys.length<=l.length):(A8g (A8g l (a+xs.length) ys) a xs).take (a+xs.length+ys.length)=l.take a++xs++ys:=by
 have b:(A8g l (a+xs.length) ys).take a=l.take a:=by unfold A8g;rw[DM,JV oR,List.take_take];congr 1;omega
 have u:(A8g l (a+xs.length) ys).drop (a+xs.length)=ys++l.drop (a+xs.length+ys.length):=by unfold A8g;rw[DM,List.drop_append_of_le_length oR,List.drop_take];simp
 show(List.take a (A8g l (a+xs.length) ys)++xs++List.drop (a+xs.length) (A8g l (a+xs.length) ys)).take _=_;rw[b,u,<-DM];rw[JV oR];rw[CZ oR]
theorem B4z (w:J) (g:Nat) (cs:Array AJ):w.grownBy (w.setRow g cs) (QL g) :=
 ⟨rfl,rfl,rfl,sI,λk _ hk=>setRow_other w g k cs (λe=>hk (by rw[e]))⟩
end Go
namespace Go.Proofs.YtbkilakncnlebaaGreatDoor.X
open Go.RowKit Go.XB Go.XN Go.Lib Go.Shelf Proofs.Tryz
attribute [local go_sem] L_ opAt N_ M_ Region.wanted yielded
attribute [local simp] N_ M_ MP.eq MP.agg MP.sl A0r
theorem D2l:(prog.info? 190).map (λi=>(i.zero,i.size,i.bytes))=QL (QL (AM #[N QO 0,N QO 0,N QO 0,N QO 0]),4,32):=kR

def B9o (w:J) (base g n i:Nat) (cells xs:List AJ) (e:Ending) (w':J):Prop :=
 ∃ g' cap',e=.returned (S (QL ⟨g',0,I⟩) (n+1) cap')/\w'.ownsRow base 190 4 (S (QL ⟨g',0,I⟩) (n+1) cap') (n+1) (cells.take (i*4)++xs++cells.drop (i*4))/\w.grownBy w' (QL g)/\(g'=g\/w.1.size<=g')

set_option maxRecDepth 100000 in
theorem D8h (base g n cap b:Nat) (cells xs:List AJ) (w:J) (h:w.ownsRow base 190 4 (S (QL ⟨g,0,I⟩) n cap) n cells) (W:base<=w.1.size) (am:n<=65536)
  (ad:w.1[b]?=QL (AK xs.toArray 190)) (af:xs.length=4) (H:∀ v∈xs,v.oneCell'=AD) :
  AR prog 185 #[S (QL ⟨g,0,I⟩) n cap,N QO n,S (QL ⟨b,0,I⟩) 1 1] w (B9o w base g n n cells xs):=by
 obtain⟨aj,Y,ag,ah,ai⟩:=DW D2l;have al:cells.length=n*4:=h.1;have D:n<=cap/\cap<=BG:=by
  rcases h.2 with⟨G,_⟩|⟨g',u,ak,ae,_,_,O,T,_⟩;·cases G
  cases ae;exact⟨O,T⟩
 have Z:=D.2;unfold BG at Z;have aa:=A0a ad;have E:=A_ h;clear h D;go_enter func185,ntmps185;go_wp2_with (at_builtin;refine A1m rfl _ _ 181 rfl base 190 aj _ 4 32 underlying181 Y ag ah ai rfl dE g n cap cells rfl E.o ⟨b,0,I⟩ 1 1 xs rfl (by rw[af]) aa H (by unfold BG;omega) oS W ?_;intro g' u w' ac X ab);all_goals refine BI (FQ rfl _ _ _) rfl ?_;refine⟨g',u,rfl,?_,X,ab.imp id (λe=>oS)⟩;rw[CZ oS,List.drop_eq_nil_of_le oS,List.append_nil];exact ac

theorem A8a {P:DZ} {w:J} {k g o dLen dCap sLen sCap:Nat} {a:AH} {T E ty:BS} {cur:Array AJ} {cs:List AJ} (hu:P.underlying T=QL (.slice E)) (hs:(P.info? E).map (·.size)=QL k)
  (hg:w.1[g]?=QL (AK cur E (0,0))) (hn:cs.length=Nat.min sLen dLen*k) (hsrc:∀ j v,cs[j]?=QL v->w.cell? (a.add j)=QL v) (hfit:o+cs.length<=cur.size) (h1:∀ v∈cs,v.oneCell'=AD) :
  (MJ #[T,T] ty #[S (QL ⟨g,o,I⟩) dLen dCap,S (QL a) sLen sCap]).run P w=.ok (goInt (Nat.min sLen dLen)) (w.setRow g (A8g cur.toList o cs).toArray) :=
 C7v w T T ty E k g o dLen dCap a sLen sCap cur E cs hu hs hg hn hsrc hfit h1
theorem C0n {w:J} {g:Nat} {b:Array AJ} {t:BS} (h:w.1[g]?=QL (AK b t (0,0))) (o:Nat):∀ j v,(b.toList.drop o)[j]?=QL v->w.cell? ((⟨g,o,I⟩:AH).add j)=QL v:=by
 intro j v u;have e:(⟨g,o,I⟩:AH).add j=⟨g,o+j,I⟩:=by unfold AH.add;split<;>simp_all
 rw[e];have:b[o+j]?=QL v:=by simpa using u
 simp[J.cell?,h,this]

set_option maxRecDepth 100000 in
theorem D2j (base g n cap G i:Nat) (cells xs:List AJ) (w:J) (h:w.ownsRow base 190 4 (S (QL ⟨g,0,I⟩) n cap) n cells) (a2:n<=65536) (hi:i<n) (aP:n+1<=cap)
  (W:w.1[G]?=QL (AK xs.toArray 190)) (aa:xs.length=4) (aB:∀ v∈xs,v.oneCell'=AD) (aC:∀ v∈cells,v.oneCell'=AD) (au:G≠g) :
  AR prog 185 #[S (QL ⟨g,0,I⟩) n cap,N QO i,S (QL ⟨G,0,I⟩) 1 1] w (B9o w base g n i cells xs):=by
 obtain⟨a6,aJ,a4,aS,a5⟩:=DW D2l;have aF:cells.length=n*4:=h.1;obtain⟨b,aD,ag,aM,an,Y,aj⟩:∃ b,base<=g/\w.1[g]?=QL (AK b 190 (0,0))/\n<=cap/\cap<=BG/\b.size=cap*4/\b.toList.take (n*4)=cells:=by
  rcases h.2 with⟨aA,_⟩|⟨g',aY,b,aR,k1,k2,aT,aU,aV,k6⟩;·cases aA
  cases aR;exact⟨b,k1,k2,aT,aU,aV,k6⟩
 have aL:=an;unfold BG at aL;have ar:(prog.info? 190).map (·.size)=QL 4:=by rw[aJ];simp[aS]
 have af:b.toList.length=cap*4:=by simp[Y]
 obtain⟨E,ab⟩:∃ E,E=A8g b.toList ((i+1)*4) (cells.drop (i*4)):=⟨_,rfl⟩
 have Z:(cells.drop (i*4)).length=(n - i)*4:=by rw[NP,aF,<-Nat.sub_mul]
 have ae:E.length=cap*4:=by rw[ab,A8b (by rw[Z,af];omega),af]
 have aH:∀ (j:Nat) (v:AJ),(cells.drop (i*4))[j]?=QL v->(b.toList.drop (i*4))[j]?=QL v:=by
  intro j v X;rw[<-aj,List.drop_take,IL]at X;split at X;·exact X
  cases X
 have ao:∀ (D:J),D.1[g]?=QL (AK b 190 (0,0))->∀ u H O,(MJ #[181,181] u #[S (QL ⟨g,(i+1)*4,I⟩) (n+1 - (i+1)) H,S (QL ⟨g,i*4,I⟩) (n+1 - i) O]).run prog D=.ok (goInt (n - i:Nat)) (D.setRow g E.toArray):=λD am u H O=>by
  have e:Nat.min (n+1 - i) (n+1 - (i+1))=n - i:=by simp only[Nat.min_def];split<;>omega
  have:=A8a (P:=prog) (w:=D) (k:=4) (g:=g) (o:=(i+1)*4) (dLen:=n+1 - (i+1)) (dCap:=H) (sLen:=n+1 - i) (sCap:=O) (a:=⟨g,i*4,I⟩) (ty:=u) underlying181 ar am (cs:=cells.drop (i*4)) (by rw[e];exact Z)
   (λj v X=>C0n am _ j v (aH j v X)) (by rw[Z,Y];omega) (λv W=>aC v (OQ W))
  rw[e]at this;rw[ab];exact this
 have ap:∀ (D:J),D.1[g]?=QL (AK E.toArray 190 (0,0))->D.1[G]?=QL (AK xs.toArray 190)->∀ u H O,(MJ #[181,181] u #[S (QL ⟨g,i*4,I⟩) (n+1 - i) H,S (QL ⟨G,0,I⟩) 1 O]).run prog D=.ok (goInt (1:Nat)) (D.setRow g (A8g E (i*4) xs).toArray):=λD aI aQ u H O=>by
  have e:Nat.min 1 (n+1 - i)=1:=by simp only[Nat.min_def];split<;>omega
  have:=A8a (P:=prog) (w:=D) (k:=4) (g:=g) (o:=i*4) (dLen:=n+1 - i) (dCap:=H) (sLen:=1) (sCap:=O) (a:=⟨G,0,I⟩) (ty:=u) underlying181 ar aI (cs:=xs) (by rw[e];omega)
   (A0a aQ) (by rw[aa];show _<=E.length;rw[ae];omega) aB
  rw[e]at this;simpa using this
 have aN:∀ al ac,(callFunc 237 #[S (QL ⟨G,0,I⟩) 1 1,S (QL ⟨g,(i+1)*4,I⟩) al ac]).run prog w=.ok (.value (AC AF)) w:=λal ac=>by
  rw[run_callFunc_extern func237 kR kR kR (e:=Extern.SlicesOverlaps.overlaps #[181,181] #[4]) kR,
   Lib.run_overlaps_apart w 181 4 190 underlying181 4 Tryz.sizeOf190 ⟨G,0,I⟩ ⟨g,(i+1)*4,I⟩ 1 1 al ac au 190 190 4 (cap*4) (by simp[J.shape?,W,aa]) (by simp[J.shape?,ag,Y]) oS (by simp[World.frozen?,W]) (by simp[World.frozen?,W])]
  rfl
 have aZ:¬ (cap=i+1):=oS;have a1:¬ (cap=i):=oS;have ax:=A_ ab;have az:=A_ aj;have aW:=A_ Y;clear h aM aj Y ab;go_enter func185,ntmps185;go_wp2_with fail;refine X_ sI ?_;dsimp only[DJ,DK,DI];iterate 8 refine C_ _ ?_
 intro a7 a8 wa T aq aG;clear aG;simp at aq;have ah:wa.1[g]?=QL (AK b 190 (0,0)):=by rw[T.block g (E_ ag)];exact ag
 have ak:wa.1[G]?=QL (AK xs.toArray 190):=by rw[T.block G (E_ W)];exact W
 have ai:(wa.setRow g E.toArray).1[g]?=QL (AK E.toArray 190 (0,0)):=OB wa g b _ _ _ ah;have aw:(wa.setRow g E.toArray).1[G]?=QL (AK xs.toArray 190):=by rw[setRow_other wa g G _ au];exact ak
 have aO:=λu H O=>ao wa ah u H O;rw[show n+1 - (i+1)=n - i by omega]at aO;have a3:=λu H O=>ap _ ai aw u H O;have ay:=A_ ai;have aX:=A_ ak;clear ah ak aN ao ap ai aw;go_simp;clear aq;go_wp2;refine BI (FQ rfl _ _ _) rfl ?_;have aE:(A8g E (i*4) xs).length=cap*4:=by rw[A8b (by rw[ae,aa];omega),ae]
 refine⟨g,cap,rfl,⟨?_,.inr ⟨g,cap,(A8g E (i*4) xs).toArray,rfl,aD,OB _ g _ _ _ _ ay.o,aP,an,by simpa using aE,?_⟩⟩,?_,.inl rfl⟩;·simp only[EF,GH,NP];omega
 ·have ad:=E2e (l:=b.toList) (xs:=xs) (ys:=cells.drop (i*4)) (a:=i*4) (by rw[Z,aa,af];omega);rw[aa,Z]at ad;rw[show i*4+4=(i+1)*4 by omega,<-ax.o,show(i+1)*4+(n - i)*4=(n+1)*4 by omega]at ad;rw[ad,<-az.o,List.take_take,Nat.min_eq_left oS]
 exact(J.grownBy.trans ⟨T.os,T.tape,T.output,T.size,λk aK _=>T.block k aK⟩ (B4z wa g _)).trans (B4z _ g _)

set_option maxRecDepth 100000 in
theorem D4r (base g n cap X i:Nat) (cells xs:List AJ) (w:J) (h:w.ownsRow base 190 4 (S (QL ⟨g,0,I⟩) n cap) n cells) (a7:base<=w.1.size) (bB:n<=65536) (hi:i<n) (bh:cap<n+1)
  (ai:w.1[X]?=QL (AK xs.toArray 190)) (aj:xs.length=4) (a3:∀ v∈xs,v.oneCell'=AD) (a4:∀ v∈cells,v.oneCell'=AD) :
  AR prog 185 #[S (QL ⟨g,0,I⟩) n cap,N QO i,S (QL ⟨X,0,I⟩) 1 1] w (B9o w base g n i cells xs):=by
 obtain⟨aQ,aL,bm,au,aP⟩:=DW D2l;have a9:cells.length=n*4:=h.1;obtain⟨T,bv,aJ,bD,ba,bc,ar⟩:∃ T,base<=g/\w.1[g]?=QL (AK T 190 (0,0))/\n<=cap/\cap<=BG/\T.size=cap*4/\T.toList.take (n*4)=cells:=by
  rcases h.2 with⟨a2,_⟩|⟨g',br,T,bl,k1,k2,bn,bo,bp,k6⟩;·cases a2
  cases bl;exact⟨T,k1,k2,bn,bo,bp,k6⟩
 have bg:=ba;unfold BG at bg;have aO:(prog.info? 190).map (·.size)=QL 4:=by rw[aL];simp[au]
 have aF:∀ j v,cells[j]?=QL v->w.cell? ((⟨g,0,I⟩:AH).add j)=QL v:=h.cells (g:=g) rfl;have aM:(KC.firstCells aQ.size i (S (QL ⟨g,0,I⟩) i cap)).run prog w.drew=.ok (cells.take (i*4)).toArray w.drew:=by
  rw[au]
  exact run_firstCells_some w.drew 4 i ⟨g,0,I⟩ i cap (cells.take (i*4)) (by rw[GH];omega) (λj v W=>by
   rw[IL]at W;split at W;·exact aF j v W
   cases W)
 have aE:(n:Int)+1 - (i:Int)=((n+1 - i:Nat):Int):=oS;have ap:i+(n+1 - i)=n+1:=oS;obtain⟨D,ac⟩:∃ D,D=grownCap w (n+1) cap 190:=⟨_,rfl⟩
 obtain⟨E,ad⟩:∃ E:Array AJ,E=(cells.take (i*4)).toArray++KC.zeroCells (AJ.agg #[N QO 0,N QO 0,N QO 0,N QO 0]).cells (n+1 - i)++KC.zeroCells (AJ.agg #[N QO 0,N QO 0,N QO 0,N QO 0]).cells (D - (n+1)):=⟨_,rfl⟩
 have aN:∀ b,(KC.append_ #[181,3] b #[S (QL ⟨g,0,I⟩) i cap,N QO ((n:Int)+1 - (i:Int))]).run prog w =
   .ok (S (QL ⟨w.1.size,0,I⟩) (n+1) D) (w.drew.alloc (AK E 190)):=λb=>by
  have h:=Lib.run_append_grow_zeros w 181 3 b 190 aQ _ QO QO underlying181 underlying3 aL bm (QL ⟨g,0,I⟩) i cap (cells.take (i*4)) aM (n+1 - i) oS (by rw[au];decide) oS oS (by rw[aP];omega) (by rw[aP,ap];exact growslice_fits bh oS)
  rw[ap]at h
  rw[aE,ad,ac]
  exact h
 have a6:n+1<=D:=by rw[ac];exact grownCap_ge w _ _ _
 have ay:D<=BG:=by rw[ac];exact grownCap_le_maxLen w (n+1) cap _ (by unfold BG;omega)
 have ae:E.toList.length=D*4:=by rw[ad];simp[KC.zeroCells,Value.cells];omega
 have az:E.toList.take (i*4)=cells.take (i*4):=by rw[ad];rw[Array.append_assoc,Array.toList_append,JV oR];rw[show((cells.take (i*4)).toArray).toList=cells.take (i*4)from rfl,List.take_take,Nat.min_self]
 obtain⟨Y,ag⟩:∃ Y,Y=w.drew.alloc (AK E 190):=⟨_,rfl⟩
 have bf:g<w.1.size:=E_ aJ;have bj:X<w.1.size:=E_ ai;have am:Y.1[w.1.size]?=QL (AK E 190 (0,0)):=by rw[ag];exact CF w.drew _
 have an:∀ k,k<w.1.size->Y.1[k]?=w.1[k]?:=λk ab=>by rw[ag];exact Below.heap_alloc w.drew _ k ab
 have aA:Bw w Y:=by rw[ag];exact⟨rfl,rfl,rfl,sI,λk ab=>Below.heap_alloc w.drew _ k ab⟩
 obtain⟨u,ah⟩:∃ u,u=A8g E.toList (i*4) xs:=⟨_,rfl⟩
 have ao:u.length=D*4:=by rw[ah,A8b (by rw[aj,ae];omega),ae]
 have aa:(cells.drop (i*4)).length=(n - i)*4:=by rw[NP,a9,<-Nat.sub_mul]
 have aG:∀ (G:J),G.1=Y.1->∀ b H O,(MJ #[181,181] b #[S (QL ⟨w.1.size,i*4,I⟩) (n+1 - i) H,S (QL ⟨X,0,I⟩) 1 O]).run prog G=.ok (goInt (1:Nat)) (G.setRow w.1.size u.toArray):=λG af b H O=>by
  have e:Nat.min 1 (n+1 - i)=1:=by simp only[Nat.min_def];split<;>omega
  have bi:G.1[X]?=QL (AK xs.toArray 190):=by rw[af,an X bj];exact ai
  have:=A8a (P:=prog) (w:=G) (k:=4) (g:=w.1.size) (o:=i*4) (dLen:=n+1 - i) (dCap:=H) (sLen:=1) (sCap:=O) (a:=⟨X,0,I⟩) (ty:=b) underlying181 aO (by rw[af];exact am) (cs:=xs) (by rw[e];omega)
   (A0a bi) (by rw[aj,<-Array.length_toList,ae];omega) a3
  rw[e]at this;rw[ah];exact this
 have aH:∀ (G:J),G.1[w.1.size]?=QL (AK u.toArray 190 (0,0))->G.1[g]?=QL (AK T 190 (0,0))->∀ b H O,(MJ #[181,181] b #[S (QL ⟨w.1.size,(i+1)*4,I⟩) (n - i) H,S (QL ⟨g,i*4,I⟩) (n - i) O]).run prog G=.ok (goInt (n - i:Nat)) (G.setRow w.1.size (A8g u ((i+1)*4) (cells.drop (i*4))).toArray):=λG af be b H O=>by
  have e:Nat.min (n - i) (n - i)=n - i:=sI
  have:=A8a (P:=prog) (w:=G) (k:=4) (g:=w.1.size) (o:=(i+1)*4) (dLen:=n - i) (dCap:=H) (sLen:=n - i) (sCap:=O) (a:=⟨g,i*4,I⟩) (ty:=b) underlying181 aO af (cs:=cells.drop (i*4)) (by rw[e];exact aa)
   (λj v W=>C0n be _ j v (by
    rw[<-ar,List.drop_take,IL]at W;split at W;·exact W
    cases W)) (by rw[aa];show _<=u.length;rw[ao];omega) (λv ai=>a4 v (OQ ai))
  rw[e]at this;simpa using this
 have bz:(cap:Int)<(n:Int)+1:=oS;have bt:¬ (D=i):=oS;have bu:¬ (D=i+1):=oS;have bA:¬ (cap=i):=oS;have bs:(D:Int)<=9223372036854775807:=by unfold BG at ay;omega
 have aS:=A_ ah;have bq:=A_ ar;have aV:=A_ az;subst ag;have aY:=A_ am;have aZ:=A_ an;have aX:=A_ aA;clear am an aA;have aW:=A_ aN;have aT:=A_ aG;clear aE ap aM ad ac aF ah ar az bc aN aG;have a5:=λb H O=>aT (w.alloc (AK E 190)).drew rfl b H O;have aD:((w.alloc (AK E 190)).drew.setRow w.1.size u.toArray).1[w.1.size]?=QL (AK u.toArray 190 (0,0)):=OB _ _ E _ _ _ aY;have aC:((w.alloc (AK E 190)).drew.setRow w.1.size u.toArray).1[g]?=QL (AK T 190 (0,0)):=by rw[setRow_other _ _ g _ oS];exact(aZ g bf).trans aJ
 have aB:Bw w ((w.alloc (AK E 190)).drew.setRow w.1.size u.toArray):=below_setRow aX (BH _) _;have ax:=A_ aD;have aw:=A_ aC;have a1:=A_ aB;have aR:=A_ aH;clear aD aC aB aH;go_enter func185,ntmps185;go_wp2_with (at_builtin;refine Lib.wpList_append_run _ rfl _ _ _ _ rfl _ _ rfl rfl _ _ (aW _) ?_);refine X_ sI ?_;dsimp only[DJ,DK,DI];iterate 8 refine C_ _ ?_
 intro bF bG wa al aI bd;clear bd;simp at aI;have aq:wa.1[w.1.size]?=QL (AK u.toArray 190 (0,0)):=by rw[al.block _ (E_ ax.o)];exact ax
 have aK:wa.1[g]?=QL (AK T 190 (0,0)):=by rw[al.block g (E_ aw.o)];exact aw
 have bE:=λb H O=>aR wa aq aK b H O;have aU:=A_ aq;clear aq aK a5;go_simp;clear aI;go_wp2;refine BI (FQ rfl _ _ _) rfl ?_;have a8:(A8g u ((i+1)*4) (cells.drop (i*4))).length=D*4:=by rw[A8b (by rw[ao,aa];omega),ao]
 refine⟨w.1.size,D,rfl,⟨?_,.inr ⟨w.1.size,D,(A8g u ((i+1)*4) (cells.drop (i*4))).toArray,rfl,a7,OB _ _ _ _ _ _ aU.o,a6,ay,by simpa using a8,?_⟩⟩,?_,.inr (BH _)⟩;·simp only[EF,GH,NP];omega
 ·have ak:=E4u (l:=E.toList) (xs:=xs) (ys:=cells.drop (i*4)) (a:=i*4) (by rw[aa,aj,ae];omega);rw[aj,aa,<-aS.o]at ak;rw[show i*4+4=(i+1)*4 by omega,show(i+1)*4+(n - i)*4=(n+1)*4 by omega,aV.o]at ak;exact ak
 have Z:Bw w (wa.setRow w.1.size (A8g u ((i+1)*4) (cells.drop (i*4))).toArray):=below_setRow (AI a1 al) (BH _) _;exact⟨Z.os,Z.tape,Z.output,Z.size,λk ab _=>Z.block k ab⟩
end Go.Proofs.YtbkilakncnlebaaGreatDoor.X

namespace Go.XB
open Go.RowKit
def MP.slc (n:Nat) (cs:Array AJ) (t:BS):MP:=⟨λv bs w=>∃ g,v=S (QL ⟨g,0,I⟩) n n/\bs=[g]/\w.1[g]?=QL (AK cs t),λv bs w w' hb h=>by
 obtain⟨g,e,hz,hg⟩:=h;exact⟨g,e,hz,(hb.block g (E_ hg)).trans hg⟩⟩
section
variable {P:DZ} {l:List Oper} {a0:Act}
theorem E1g {w0:J} {F:List DP->Prop} {o:Oper} {os:List Oper} {b:List DP} (n:Nat) (cs:Array AJ) (t:BS)
  (h:∀ (y:Nat->AJ) (z:Nat->List Nat) (w:J),Bw w0 w->(∀ k∈N_ o,(b.getD k (λ_=>MP.eq undef) y).p (y k) (z k) w) ->
   Region.wanted o (yielded l.toArray (L_ l y a0 (N_ o)).tmps)=AD/\(execOp (L_ l y a0 (N_ o)).eval o).run P w=.ok (.value (S (QL ⟨w.1.size,0,I⟩) n n)) (w.alloc (AK cs t)))
  (O:A4c P l w0 a0 F os (b++[λ_=>MP.slc n cs t])):A4c P l w0 a0 F (o::os) b:=by
 refine⟨λ_=>MP.slc n cs t,Cong.const _ _,λy z w G H=>?_,O⟩;obtain⟨D,E⟩:=h y z w G H;rw[if_pos D];unfold B2b;rw[E];refine⟨(CG _ _).alloc (BH _) _,[w.1.size],⟨w.1.size,rfl,rfl,by show(w.1.push _)[w.1.size]?=_;simp⟩,λT u=>?_⟩;simp at u;subst u;simp
end
end Go.XB
namespace Go.XN
open Go.XB
def C3n (a b:TEdge):Int:=if a.a≠b.a then sgn (a.a - b.a)else sgn (a.b - b.b)
def A4o:TEdge:=⟨0,0,0,0⟩
def A5i (es:List TEdge) (e:TEdge):Nat->Nat->Nat->Nat
 |0,i,_=>i
 |f+1,i,j=>if i<j then(if C3n (es.getD ((i+j) / 2) A4o) e<0 then A5i es e f ((i+j) / 2+1) j else A5i es e f i ((i+j) / 2))else i
def A3z (es:List TEdge) (e:TEdge):Nat:=A5i es e es.length 0 es.length
def A6o (es:List TEdge) (e:TEdge):Bool:=AU (A3z es e<es.length)&&AU (C3n (es.getD (A3z es e) A4o) e=0)
end Go.XN
namespace Go.Proofs.YtbkilakncnlebaaGreatDoor.X
open Go.RowKit Go.XB Go.XN Proofs.Tryz
attribute [local go_sem] L_ opAt N_ M_ Region.wanted yielded
attribute [local simp] N_ M_ MP.eq MP.agg MP.sl MP.slc A0r
theorem C0w (es:List TEdge) (e:TEdge):∀ (f i j:Nat),i<=j->A5i es e f i j<=j
 |0,i,j,h=>h
 |f+1,i,j,h=>by
  unfold A5i
  split
  ·split
   ·exact C0w es e f _ j oS
   exact Nat.le_trans (C0w es e f i _ oS) oS
  exact h
theorem A9n (es:List TEdge) (e:TEdge):∀ (f g i j:Nat),j<=i+f->j<=i+g->A5i es e f i j=A5i es e g i j
 |0,0,i,j,_,_=>rfl
 |0,g+1,i,j,h,_=>by unfold A5i;rw[if_neg oS]
 |f+1,0,i,j,_,h=>by unfold A5i;rw[if_neg oS]
 |f+1,g+1,i,j,h1,h2=>by
  unfold A5i
  split
  ·split
   ·exact A9n es e f g _ j oS oS
   exact A9n es e f g i _ oS oS
  rfl
theorem D4i {es:List TEdge} {e x:TEdge} {i j h r:Nat} (G:∀ f,j<=i+f->A5i es e f i j=r) (E:i<j) (hh:h=(i+j) / 2) (H:es[h]?=QL x) (u:C3n x e<0):∀ f,j<=h+1+f->A5i es e f (h+1) j=r:=by
 intro f D;have b:=G (j+1) oS;unfold A5i at b;rw[if_pos E,<-hh,show es.getD h A4o=x by simp[II,H],if_pos u]at b;rw[A9n es e f j (h+1) j D oS,b]
theorem D4w {es:List TEdge} {e x:TEdge} {i j h r:Nat} (G:∀ f,j<=i+f->A5i es e f i j=r) (E:i<j) (hh:h=(i+j) / 2) (H:es[h]?=QL x) (u:¬ C3n x e<0):∀ f,h<=i+f->A5i es e f i h=r:=by
 intro f D;have b:=G (j+1) oS;unfold A5i at b;rw[if_pos E,<-hh,show es.getD h A4o=x by simp[II,H],if_neg u]at b;rw[A9n es e f j i h D oS,b]
theorem D8b {es:List TEdge} {e:TEdge} {i j r:Nat} (b:∀ f,j<=i+f->A5i es e f i j=r) (h:i=j):i=r:=by
 have:=b 0 oS;exact this
theorem D9w (es:List TEdge) (e:TEdge):A3z es e<=es.length:=C0w es e _ 0 _ (DV _)

theorem E6p (g:Nat) (a b:Int) (w:J) (h:w.1[g]?=QL (AK #[N QO a,N QO b] 3)) :
  AR prog 236 #[S (QL ⟨g,0,I⟩) 2 2] w (A0b w (N QO (if a≠0 then a else b))):=by
 have H:w.cell? ⟨g,0,I⟩=QL (N QO a):=(B_ h rfl).1;have O:w.cell? ⟨g,1,I⟩=QL (N QO b):=(B_ h rfl).1;clear h;by_cases D:a=0
 ·subst D
  by_cases E:b=0
  ·subst E
   go_enter func236,ntmps236;go_wp2_with fail;go_loopg [8] 2 (λg s wr=>∃ k:Nat,k+g=2/\s=N QO k/\wr=w);case atStart=>exact⟨0,rfl,rfl,rfl⟩
   case round =>
    obtain⟨k,u,rfl,rfl⟩:=hrel;obtain rfl|rfl|rfl:k=0\/k=1\/k=2:=oS
    ·obtain rfl:gk=1+1:=oS
     clear u;go_wp2_with fail;go_roundg 1;case measure=>omega
     case rel=>exact⟨1,rfl,rfl,rfl⟩
    ·obtain rfl:gk=0+1:=oS
     clear u;go_wp2_with fail;go_roundg 0;case measure=>omega
     case rel=>exact⟨2,rfl,rfl,rfl⟩
    clear u;go_wp2;go_ret;exact⟨rfl,CG _ _⟩
  have W:(b==0)=AF:=by simp[E]
  go_enter func236,ntmps236;go_wp2_with fail;go_loopg [8] 2 (λg s wr=>∃ k:Nat,k+g=2/\k<=1/\s=N QO k/\wr=w);case atStart=>exact⟨0,rfl,oS,rfl,rfl⟩
  case round =>
   obtain⟨k,u,G,rfl,rfl⟩:=hrel;obtain rfl|rfl:k=0\/k=1:=oS
   ·obtain rfl:gk=1+1:=oS
    clear u G;go_wp2_with fail;go_roundg 1;case measure=>omega
    case rel=>exact⟨1,rfl,oS,rfl,rfl⟩
   clear u G;go_wp2;go_ret;exact⟨sI,CG _ _⟩
 have T:(a==0)=AF:=by simp[D]
 go_enter func236,ntmps236;go_wp2_with fail;go_loopg [8] 2 (λg s wr=>g=2/\s=N QO 0/\wr=w);case atStart=>exact⟨rfl,rfl,rfl⟩
 case round =>obtain⟨_,rfl,rfl⟩:=hrel;go_wp2;go_ret;exact⟨sI,CG _ _⟩

theorem sgn_ne {a:Int}:sgn a≠0↔a≠0:=by unfold sgn;split<;>(try split)<;>omega
theorem A8t (v1 v2:AJ) (a b:TEdge) (b1 b2:List Nat) (w:J) (Y:Agg w v1 a b1) (Z:Agg w v2 b b2) :
  AR prog 184 #[v1,v2] w (A0b w (N QO (C3n a b))):=by
 obtain⟨rfl,_,_,_,_,_⟩:=TEdge.agg Y;obtain⟨rfl,_,_,_,_,_⟩:=TEdge.agg Z;have T:=A_ (show(if sgn (a.a - b.a)≠0 then sgn (a.a - b.a)else sgn (a.b - b.b))=C3n a b by
  unfold C3n;by_cases H:a.a=b.a;·rw[if_neg (by rw[H];simp[sgn]),if_neg (by simp[H])]
  rw[if_pos (sgn_ne.2 oS),if_pos H])
 obtain⟨r,O⟩:∃ r,(if sgn (a.a - b.a)≠0 then sgn (a.a - b.a)else sgn (a.b - b.b))=r:=⟨_,rfl⟩
 have R:=A_ O;rw[O]at T;clear Y Z O;go_enter func184,ntmps184;go_wp2_with fail;refine X_ sI ?_;dsimp only[DJ,DK,DI];iterate 4 refine C_ _ ?_
 refine D_ (MP.eq (N QO (sgn (a.a - b.a)))) ?_ ?_;·intro E G D u h;obtain⟨W,X⟩:=F_ u;simp at h;refine G_ ?_;exact A0i (B2k _ _ _)
 iterate 4 refine C_ _ ?_
 refine D_ (MP.eq (N QO (sgn (a.b - b.b)))) ?_ ?_;·intro E G D u h;obtain⟨W,X⟩:=F_ u;simp at h;refine G_ ?_;exact A0i (B2k _ _ _)
 refine E1g 2 #[N QO (sgn (a.a - b.a)),N QO (sgn (a.b - b.b))] 3 ?_ ?_;·intro E G D u h;simp at h;refine⟨gD,?_⟩;go_simp
 refine D_ (MP.eq (N QO r)) ?_ ?_;·intro E G D u h;obtain⟨W,X⟩:=F_ u;simp at h;obtain⟨⟨g,e,ac,ab⟩,_⟩:=h;refine G_ ?_;exact A0i (by have C:=E6p g _ _ D ab;rw[R.o]at C;exact C)
 intro E G wa u h aa;clear aa;simp at h;go_simp;go_wp2;refine BI (FQ rfl _ _ _) rfl ⟨?_,Below.go⟩;rw[<-T.o];rfl

theorem B8m:A4f 184:=λa w=>kR
theorem B4a (A:Option AH) (n c:Nat) (es:List TEdge) (bs:List Nat) (v:AJ) (e:TEdge) (b:List Nat) (w:J) (ap:Sl w A n c es bs) (aY:n<=65536) (ao:Agg w v e b) :
  AR prog 183 #[S A n c,v,.func (.func 184) #[] #[]] w (A0b w (.tuple #[N QO (A3z es e),AC (A6o es e)])):=by
 have ax:=A_ ap;have am:=A_ ao;have ak:=A_ ap.1;obtain⟨rfl,_,aP,aQ,aR,aS⟩:=TEdge.agg ao;clear ap ao aP aQ aR aS;have aE:=B8m;unfold A4f at aE;have aZ:(n:Int)<=65536:=oS;go_enter func183,ntmps183;go_wp2_with fail;go_loopg [9,10] n (λg s9 s10 wr=>∃ (i j:Nat),j<=i+g/\(i<=j/\j<=n)/\s9=N QO i/\s10=N QO j/\Hid (∀ f,j<=i+f->A5i es e f i j=A3z es e)/\Below (w.1.size+1) (w.alloc (AK #[N QO e.a,N QO e.b,N QO e.left,N QO e.right] 190)) wr);case atStart =>exact⟨0,n,oS,⟨DV _,BH _⟩,rfl,rfl,(show ∀ f,n<=0+f->A5i es e f 0 n=A3z es e from λf aM=>by unfold A3z;rw[ak.o];exact A9n es e f n 0 n aM oS),CG _ _⟩
 case round =>
  obtain⟨i,j,an,⟨aC,ah⟩,rfl,rfl,ai,H⟩:=hrel;have E:=A_ (show Bw w wr from(AV (AK #[N QO e.a,N QO e.b,N QO e.left,N QO e.right] 190)).trans (H.mono oS));have a2:wr.cell? ⟨w.1.size,0,I⟩=QL (N QO e.a):=(H.cell (p:=⟨w.1.size,0,I⟩) (JG _)).trans oD;have k1:wr.cell? ⟨w.1.size,1,I⟩=QL (N QO e.b):=(H.cell (p:=⟨w.1.size,1,I⟩) (JG _)).trans oD;have k2:wr.cell? ⟨w.1.size,2,I⟩=QL (N QO e.left):=(H.cell (p:=⟨w.1.size,2,I⟩) (JG _)).trans oD;have a3:wr.cell? ⟨w.1.size,3,I⟩=QL (N QO e.right):=(H.cell (p:=⟨w.1.size,3,I⟩) (JG _)).trans oD;have a1:w.1.size<wr.1.size:=by have:=H.size;simp at this;omega
  rcases BN i j with aD|aN
  ·have aX:(i:Int)<j:=oS
   obtain⟨h,hh⟩:∃ h:Nat,h=(i+j) / 2:=⟨_,rfl⟩
   have aT:((i:Int)+j) / 2=(h:Int):=oS;have aK:i<=h/\h<j:=oS;have aU:(h:Int)<n:=oS;obtain⟨az,rfl⟩:∃ gh',gk=gh'+1:=⟨gk - 1,oS⟩
   obtain⟨aF,aO,x,rfl,aL,ac,aG,aH,aI,aJ,aa⟩:=TEdge.elemA (ax.o.below E.o) (by omega:h<n);have ay:=A_ ac;have ae:=A_ aa;have ar:=A_ hh;have Y:=A_ H;have aq:=A_ an;have aw:=A_ aD;have Z:=A_ aK;have au:=A_ ah;clear hh H an aD ac aa aC ah;by_cases ag:C3n x e<0
   ·have al:=A_ (D4i ai aw ar ay ag)
    obtain⟨r,G⟩:∃ r,C3n x e=r:=⟨_,rfl⟩
    rw[G]at ag;have R:=A_ G;clear G;go_wp2_with fail;refine A0g ?_;iterate 6 refine C_ _ ?_
    refine D_ (MP.eq (N QO r)) ?_ ?_;·intro T W X u D;obtain⟨aA,aB⟩:=F_ u;simp at D;refine G_ ?_;exact A0i (by have C:=A8t _ _ x e _ _ X (ae.below u) (am.below (E.trans (u.mono E.size)));rw[R.o]at C;exact C)
    refine C_ _ ?_;intro T W wa u D O;clear O;simp at D;go_simp;clear D;have aj:=A_ (Y.trans (u.mono (by have:=Y.size;simp at this;omega)));go_wp2_with fail;go_roundg az;case measure=>omega
    case rel=>exact⟨h+1,j,by have:=aq.o;have:=Z.o;omega,⟨by have:=Z.o;omega,au.o⟩,gN,rfl,al,aj.o⟩
   have al:=A_ (D4w ai aw ar ay ag);obtain⟨r,G⟩:∃ r,C3n x e=r:=⟨_,rfl⟩
   rw[G]at ag;have R:=A_ G;clear G;go_wp2_with fail;refine A0g ?_;iterate 6 refine C_ _ ?_
   refine D_ (MP.eq (N QO r)) ?_ ?_;·intro T W X u D;obtain⟨aA,aB⟩:=F_ u;simp at D;refine G_ ?_;exact A0i (by have C:=A8t _ _ x e _ _ X (ae.below u) (am.below (E.trans (u.mono E.size)));rw[R.o]at C;exact C)
   refine C_ _ ?_;intro T W wa u D O;clear O;simp at D;go_simp;clear D;have aj:=A_ (Y.trans (u.mono (by have:=Y.size;simp at this;omega)));go_wp2_with fail;go_roundg az;case measure=>omega
   case rel=>exact⟨i,h,by have:=aq.o;have:=Z.o;omega,⟨by have:=Z.o;omega,by have:=au.o;have:=Z.o;omega⟩,rfl,rfl,al,aj.o⟩
  obtain rfl:i=j:=oS;have af:=A_ (D8b ai rfl);have aV:¬ ((i:Int)<i):=oS;have Y:=A_ H;clear an aC aN H ai;rcases BN i n with ab|ab
  ·have aW:(i:Int)<n:=oS
   obtain⟨aF,aO,x,rfl,aL,ac,aG,aH,aI,aJ,aa⟩:=TEdge.elemA (ax.below E) ab;have ae:=A_ aa;have ad:=A_ (show AU (C3n x e=0)=A6o es e by unfold A6o;rw[<-af.o,show es.getD i A4o=x by simp[II,ac],ak.o,decide_eq_true ab,Bool.true_and]);clear ac aa ab ah;obtain⟨r,G⟩:∃ r,C3n x e=r:=⟨_,rfl⟩
   have R:=A_ G;rw[G]at ad;clear G;go_wp2_with fail;refine A0g ?_;iterate 11 refine C_ _ ?_
   refine D_ (MP.eq (N QO r)) ?_ ?_;·intro T W X u D;obtain⟨aA,aB⟩:=F_ u;simp at D;refine G_ ?_;exact A0i (by have C:=A8t _ _ x e _ _ X (ae.below u) (am.below (E.trans (u.mono E.size)));rw[R.o]at C;exact C)
   iterate 4 refine C_ _ ?_
   intro T W wa u D O;clear O;simp at D;go_simp;clear D;go_wp2;go_ret2;rw[<-af.o,<-ad.o];exact⟨by simp;rfl,E.trans (u.mono E.size)⟩
  obtain rfl:i=n:=oS;have ad:=A_ (show AF=A6o es e by unfold A6o;rw[<-af.o,ak.o,decide_eq_false (Nat.lt_irrefl _),Bool.false_and]);clear ab ah;go_wp2_with fail;refine A0g ?_;iterate 5 refine C_ _ ?_
  iterate 8 apply A4m;case h =>intro T W X u D;simp at D;go_simp;first|done|(simp[undef];done)
  iterate 3 refine C_ _ ?_
  intro T W wa u D O;clear O;simp at D;go_simp;clear D;go_wp2;go_ret2;rw[<-af.o,<-ad.o];exact⟨rfl,E.trans (u.mono E.size)⟩

def A2i (a b:Int):TEdge:=⟨min a b,max a b,0,0⟩
theorem A2t (A:Option AH) (n c:Nat) (es:List TEdge) (bs:List Nat) (a b:Int) (w:J) (O:Sl w A n c es bs) (Z:n<=65536) (u:I64 a) (D:I64 b) (G:A6o es (A2i a b)=AD) :
  AR prog 201 #[S A n c,N QO a,N QO b] w (A0b w (N QO (A3z es (A2i a b)))):=by
 have X:=A_ O;have T:=A_ G;have aa:=A_ u;have ab:=A_ D;obtain⟨lo,H⟩:∃ lo,min a b=lo:=⟨_,rfl⟩
 obtain⟨h,E⟩:∃ h,max a b=h:=⟨_,rfl⟩
 have W:=A_ (by unfold A2i;rw[H,E]:A2i a b=⟨lo,h,0,0⟩);have K:=A_ (show Agg w (AM #[N QO lo,N QO h,N QO 0,N QO 0]) (⟨lo,h,0,0⟩:TEdge) []from TEdge.mkAgg (x:=⟨lo,h,0,0⟩) (by show I64 lo;rw[<-H];unfold I64 at *;omega) (by show I64 h;rw[<-E];unfold I64 at *;omega) (by show I64 0;constructor<;>decide) (by show I64 0;constructor<;>decide));clear O G u D;go_enter func201,ntmps201;go_wp2_with fail;have C:=B4a A n c es bs _ ⟨lo,h,0,0⟩ [] w X Z K;rw[<-W.o,T.o]at C;refine C.mono ?_;clear C;rintro _ ac ⟨rfl,Y⟩;go_wp2;go_ret;exact⟨rfl,Y⟩
end Go.Proofs.YtbkilakncnlebaaGreatDoor.X

namespace Go.XN
open Go.XB
def A8d (e:TEdge):List AJ:=[N QO e.a,N QO e.b,N QO e.left,N QO e.right]
def C8i (a b:Int):TEdge:=⟨min a b,max a b,-1,-1⟩
def C8f (es:List TEdge) (i:Nat) (e:TEdge):List TEdge:=es.take i++e::es.drop i
def C2b (k:Int) (lt:Bool) (e:TEdge):TEdge:=if lt then { e with left:=k } else { e with right:=k }
def B2f (es:List TEdge) (k a b:Int):List TEdge :=
 let i:=A3z es (C8i a b)
 let es':=if A6o es (C8i a b)then es else C8f es i (C8i a b)
 es'.modify i (C2b k (AU (a<b)))
def E8t (es:List TEdge) (k:Int) (t:TTri):List TEdge:=B2f (B2f (B2f es k t.a t.b) k t.b t.c) k t.c t.a
def A4g (ts:List TTri):Nat->List TEdge
 |0=>[]
 |k+1=>E8t (A4g ts k) k (ts.getD k ⟨0,0,0,0,0⟩)
def P_ (ts:List TTri):List TEdge:=A4g ts ts.length
def B0c (e:TEdge):Prop:=I64 e.a/\I64 e.b/\I64 e.left/\I64 e.right
end Go.XN
namespace Go.Proofs.YtbkilakncnlebaaGreatDoor.X
open Go.RowKit Go.XB Go.XN Proofs.Tryz
attribute [local go_sem] L_ opAt N_ M_ Region.wanted yielded
attribute [local simp] N_ M_ MP.eq MP.agg MP.sl MP.slc A0r
theorem D5v (es:List TEdge):(es.flatMap A8d).length=es.length*4:=by
 induction es with
 |nil=>rfl
 |cons e es ih=>rw[JK,EF,ih];simp[A8d];omega
theorem E5o {es:List TEdge}:∀ v∈es.flatMap A8d,v.oneCell'=AD:=by
 intro v h;obtain⟨e,_,b⟩:=List.mem_flatMap.1 h;simp[A8d]at b;rcases b with rfl|rfl|rfl|rfl<;>rfl
theorem C9g (es:List TEdge):∀ i,i<=es.length->(es.flatMap A8d).take (i*4)=(es.take i).flatMap A8d/\(es.flatMap A8d).drop (i*4)=(es.drop i).flatMap A8d:=by
 induction es with
 |nil=>intro i b;simp at b;subst b;simp
 |cons e es ih =>
  intro i b
  cases i with
  |zero=>simp
  |succ i =>
   obtain⟨h,u⟩:=ih i (by simpa using b)
   rw[show(i+1)*4=(A8d e).length+i*4 by simp[A8d];omega,JK,GE,GG,JK,List.take_length_add_append,List.drop_length_add_append,h,u]
   exact⟨rfl,rfl⟩
theorem E3a {es:List TEdge} {i:Nat} (hi:i<=es.length) (e:TEdge):(C8f es i e).flatMap A8d=(es.flatMap A8d).take (i*4)++A8d e++(es.flatMap A8d).drop (i*4):=by
 obtain⟨b,h⟩:=C9g es i hi;unfold C8f;rw[List.flatMap_append,JK,b,h,DM]
theorem E1m (k:Int) (lt:Bool) (es:List TEdge):∀ i,i<es.length->(es.modify i (C2b k lt)).flatMap A8d=(es.flatMap A8d).set (i*4+(if lt then 2 else 3)) (N QO k):=by
 induction es with
 |nil=>intro i b;simp at b
 |cons e es ih =>
  intro i b
  cases i with
  |zero=>cases lt<;>simp[C2b,A8d]
  |succ i =>
   have h:=ih i (by simpa using b)
   rw[List.modify_succ_cons,JK,JK,h]
   rw[List.set_append_right _ _ (by simp[A8d];omega)]
   congr 2
   simp[A8d];omega
theorem D3s {es:List TEdge} {i:Nat} (hi:i<=es.length) (e:TEdge):(C8f es i e).length=es.length+1:=by unfold C8f;simp;omega
theorem E4y {es:List TEdge} {i:Nat} {e x:TEdge} (h:x∈C8f es i e):x=e\/x∈es:=by
 unfold C8f at h;rcases List.mem_append.1 h with h|h
 ·exact .inr (List.mem_of_mem_take h)
 rcases List.mem_cons.1 h with h|h;·exact .inl h
 exact .inr (OQ h)
theorem D9a {a b:Int} (h:I64 a) (u:I64 b):B0c (C8i a b):=by
 unfold B0c C8i I64 at *;refine⟨?_,?_,?_,?_⟩<;>(dsimp only;omega)
theorem E7i {k:Int} {lt:Bool} {es:List TEdge} {i:Nat} (E:I64 k) (h:∀ e∈es,B0c e):∀ e∈es.modify i (C2b k lt),B0c e:=by
 intro e O;obtain⟨j,b⟩:=JJ.1 O;rw[List.getElem?_modify]at b;split at b
 ·obtain⟨x,T,rfl⟩:=Option.map_eq_some_iff.1 b
  obtain⟨u,D,G,H⟩:=h x (CH T);unfold C2b;split;·exact⟨u,D,E,H⟩
  exact⟨u,D,G,E⟩
 exact h e (CH (by simpa using b))
theorem E5b {es:List TEdge} {k a b:Int} (G:I64 k) (D:I64 a) (E:I64 b) (h:∀ e∈es,B0c e):∀ e∈B2f es k a b,B0c e:=by
 unfold B2f;apply E7i G;split;·exact h
 intro e u;rcases E4y u with rfl|u
 ·exact D9a D E
 exact h e u
theorem B6s (es:List TEdge) (k a b:Int):(B2f es k a b).length<=es.length+1:=by
 unfold B2f;simp only[List.length_modify];split;·omega
 rw[D3s (D9w _ _)];exact BH _
theorem A5z (ts:List TTri):∀ k,(A4g ts k).length<=3*k
 |0=>BH _
 |k+1=>by
  have h:=A5z ts k
  unfold A4g E8t
  generalize ts.getD k _=t
  have h1:=B6s (A4g ts k) k t.a t.b
  have h2:=B6s (B2f (A4g ts k) k t.a t.b) k t.b t.c
  have h3:=B6s (B2f (B2f (A4g ts k) k t.a t.b) k t.b t.c) k t.c t.a
  omega
theorem A3a {w:J} {base g n cap size:Nat} {e:BS} {cells:List AJ} (h:w.ownsRow base e size (S (QL ⟨g,0,I⟩) n cap) n cells) {i:Nat} (hi:i<cells.length) (v:AJ) :
  (w.setCell ⟨g,i,I⟩ v).ownsRow base e size (S (QL ⟨g,0,I⟩) n cap) n (cells.set i v)/\w.grownBy (w.setCell ⟨g,i,I⟩ v) (QL g)/\(∃ u,w.cell? ⟨g,i,I⟩=QL u)/\w.frozen? ⟨g,i,I⟩=AF:=by
 obtain⟨H,O⟩:=h;rcases O with⟨G,_⟩|⟨g',ac,b,ab,T,D,E,W,X,aa⟩;·cases G
 cases ab;have ad:n*size<=cap*size:=Nat.mul_le_mul_right _ E;have Y:i<b.size:=oS;refine⟨⟨by simpa using H,.inr ⟨g,cap,b.setIfInBounds i v,rfl,T,?_,E,W,by simpa using X,?_⟩⟩,⟨rfl,rfl,rfl,by simp[World.setCell],λk _ Z=>Below.heap_setCell w ⟨g,i,I⟩ v k (λe=>Z (by rw[e]))⟩,⟨b[i],by simp[J.cell?,D,Y]⟩,by simp[World.frozen?,D]⟩;·rw[setCell_eq_setRow w g i b _ _ v D];exact OB w g b _ _ _ D
 rw[Array.toList_setIfInBounds,List.take_set,aa]
theorem C9f {w:J} {base g n cap:Nat} {es:List TEdge} (h:w.ownsRow base 190 4 (S (QL ⟨g,0,I⟩) n cap) n (es.flatMap A8d)) (ab:es.length=n) (ac:∀ e∈es,B0c e):∃ bs,Sl w (QL ⟨g,0,I⟩) n cap es bs/\(∀ b∈bs,b=g):=by
 have Y:Filled w (es.flatMap A8d) es (List.replicate es.length []):=by
  refine⟨sI,by rw[D5v];exact BH _,λk x H u E=>?_⟩;have G:=(CQ.1 u).1;have Z:H=[]:=by rw[List.getElem?_replicate,if_pos G]at E;exact(Option.some.inj E).symm
  subst Z;obtain⟨O,T,W,X⟩:=ac x (CH u);show Dat.at_ w (((es.flatMap A8d).drop (k*4)).take 4) x [];rw[(C9g es k oS).2,JX G,JK,JV (by simp[A8d])];have:es[k]=x:=(CQ.1 u).2;rw[this];exact TEdge.shut O T W X
 obtain⟨A,c,bs,af,ae,ad⟩:=Y.sl (α:=TEdge) (base:=base) (n:=n) h ab;cases af;refine⟨bs,ae,λb D=>?_⟩;rcases ad with⟨_,rfl⟩|⟨g',aa,rfl,_⟩;·cases D
 simp[Value.ownBlock]at aa;simp at D;all_goals omega
theorem D6w (base g n cap b i:Nat) (cells xs:List AJ) (w:J) (h:w.ownsRow base 190 4 (S (QL ⟨g,0,I⟩) n cap) n cells) (W:base<=w.1.size) (E:n<=65536) (hi:i<=n)
  (H:w.1[b]?=QL (AK xs.toArray 190)) (O:xs.length=4) (u:∀ v∈xs,v.oneCell'=AD) (T:∀ v∈cells,v.oneCell'=AD) (X:b≠g) :
  AR prog 185 #[S (QL ⟨g,0,I⟩) n cap,N QO i,S (QL ⟨b,0,I⟩) 1 1] w (B9o w base g n i cells xs):=by
 rcases BN i n with D|D
 ·rcases BN cap (n+1)with G|G
  ·exact D4r base g n cap b i cells xs w h W E D G H O u T
  exact D2j base g n cap b i cells xs w h E D G H O u T X
 obtain rfl:i=n:=oS;exact D8h base g i cap b cells xs w h W E H O u
theorem A2g (v:AJ) (t:TTri) (b:List Nat) (w:J) (h:Agg w v t b) :
  AR prog 117 #[v] w (A0b w (AM #[N QO t.a,N QO t.b,N QO t.c])):=by
 obtain⟨rfl,_,_,_,_,_,_⟩:=TTri.agg h;clear h;go_enter func117,ntmps117;go_wp2;refine BI (v:=AM #[N QO t.a,N QO t.b,N QO t.c]) (by simp[results,results117,go_sem, *]) rfl ⟨rfl,Below.go⟩
def A1q (xs ys:List Int) (t:TTri) (a b:Int):Bool:=AU (A5u xs ys a b t.a<=0)&&(AU (A5u xs ys a b t.b<=0)&&AU (A5u xs ys a b t.c<=0))
def B0g (xs ys:List Int) (s t:TTri):Nat->Bool
 |0=>A1q xs ys t s.a s.b
 |1=>A1q xs ys t s.b s.c
 |_=>A1q xs ys t s.c s.a
def B9s (xs ys:List Int) (s t:TTri):Bool:=(List.range 3).any (B0g xs ys s t)
def A5v (n:Nat) (t:TTri):Prop:=(0<=t.a/\t.a<n)/\(0<=t.b/\t.b<n)/\(0<=t.c/\t.c<n)
theorem A5c {xs ys:List Int} {s t:TTri} {k:Nat} (h:∀ j,j<k->B0g xs ys s t j=AF) (u:B0g xs ys s t k=AF):∀ j,j<k+1->B0g xs ys s t j=AF:=by
 intro j D;rcases BN j k with b|b
 ·exact h j b
 obtain rfl:j=k:=oS;exact u
theorem C7t {xs ys:List Int} {s t:TTri} {j:Nat} (hj:j<3) (h:B0g xs ys s t j=AD):B9s xs ys s t=AD:=List.any_eq_true.2 ⟨j,IQ.2 hj,h⟩
theorem E2g {xs ys:List Int} {s t:TTri} (h:∀ j,j<3->B0g xs ys s t j=AF):B9s xs ys s t=AF:=by
 unfold B9s;rw[List.any_eq_false];intro j b;rw[h j (IQ.1 b)];simp
section
attribute [local go_sem] ix0 ix1 ix2
theorem B5a (v:AJ) (n:Nat) (xs ys:List Int) (vs a5:AJ) (s t:TTri) (bs bg:List Nat) (w:J) (aZ:Plc w v n xs ys) (a1:A6a xs) (a2:A6a ys) (aJ:Agg w vs s bs) (aK:Agg w a5 t bg) (a3:A5v n s) (a4:A5v n t) :
  AR prog 118 #[v,vs,a5] w (A0b w (AC (B9s xs ys s t))):=by
 have af:=A_ aZ;have ag:=A_ a1;have ah:=A_ a2;have b:=A_ a3;have ae:=A_ a4;obtain⟨A,bh,ba,bv,bi,bc,bz,bj,bD,bE,rfl,bl,bm⟩:=aZ;have a8:=A_ aJ;have a9:=A_ aK;obtain⟨rfl,_,_,_,_,_,_⟩:=TTri.agg aJ;obtain⟨rfl,_,_,_,_,_,_⟩:=TTri.agg aK;clear aJ aK bl bm a1 a2 a3 a4;go_enter func118,ntmps118;go_wp2_with fail;refine W_ 6 kR kR kR kR kR ?_;simp only[GE,List.take_zero,GG,List.drop_zero];refine C_ _ ?_;refine D_ (MP.eq (AM #[N QO s.a,N QO s.b,N QO s.c])) ?_ ?_;·intro aH aI aD am ai;obtain⟨bq,bt⟩:=F_ am;simp at ai;refine G_ ?_;exact A0i (A2g _ s _ aD (a8.below Below.go))
 refine C_ _ ?_;refine D_ (MP.eq (AM #[N QO t.a,N QO t.b,N QO t.c])) ?_ ?_;·intro aH aI aD am ai;obtain⟨bq,bt⟩:=F_ am;simp at ai;refine G_ ?_;exact A0i (A2g _ t _ aD (a9.below Below.go))
 refine A1p #[N QO 0,N QO 0,N QO 0] 174 ?_ ?_;·intro aH aI aD am ai;refine⟨gD,?_⟩;go_simp
 refine A1p #[N QO 0,N QO 0,N QO 0] 174 ?_ ?_;·intro aH aI aD am ai;refine⟨gD,?_⟩;go_simp
 intro aH aI wa am ai (aT:Hid _);simp at ai;have bA:=ai.2.2.2.2.1;have bB:=ai.2.2.2.2.2;obtain⟨⟨ga,bW,z4,aX⟩,aN⟩:=bA;obtain⟨⟨gb,bX,aP,aY⟩,aO⟩:=bB;rw[z4]at aN;rw[aP]at aO;have aE:=aN ga sI;have aF:=aO gb sI;have bn:ga≠gb:=by intro e;have:=aT.o 4 5 dE dE dE ga (by rw[z4];simp);rw[aP]at this;simp[e]at this
 have bN:=bn.symm;obtain⟨a0,bd,-⟩:=bx aX;obtain⟨be,bf,-⟩:=bx aY;have a6:=A_ (show Bw w wa from Below.go);obtain⟨bp,br⟩:=F_ am;have bT:w.1.size<wa.1.size:=ltg am;have aL:w.1.size<=ga:=by(try simp at aE);omega
 have aM:w.1.size<=gb:=by(try simp at aF);omega
 have bO:ga<wa.1.size:=aE.2;have bP:gb<wa.1.size:=aF.2;have n1:w.1.size≠ga:=by(try simp at aE);omega
 have n2:w.1.size≠gb:=by(try simp at aF);omega
 have bU:=n1.symm;have bV:=n2.symm;have a7:=A_ (show Bw w ((((((wa.setCell ⟨ga,0,I⟩ (N QO s.a)).setCell ⟨ga,1,I⟩ (N QO s.b)).setCell ⟨ga,2,I⟩ (N QO s.c)).setCell ⟨gb,0,I⟩ (N QO t.a)).setCell ⟨gb,1,I⟩ (N QO t.b)).setCell ⟨gb,2,I⟩ (N QO t.c))from(((((a6.setCell (p:=⟨ga,0,I⟩) aL _).setCell (p:=⟨ga,1,I⟩) aL _).setCell (p:=⟨ga,2,I⟩) aL _).setCell (p:=⟨gb,0,I⟩) aM _).setCell (p:=⟨gb,1,I⟩) aM _).setCell (p:=⟨gb,2,I⟩) aM _);clear aT aN aO aX aY z4 aP aE aF;go_wp2_with fail;go_loopg [17] 3 (λg s17 wr=>∃ k:Nat,k+g=3/\s17=N QO k/\Hid (∀ j,j<k->B0g xs ys s t j=AF)/\Bw w wr/\(w.1.size<wr.1.size/\ga<wr.1.size/\gb<wr.1.size)/\(wr.cell? ⟨w.1.size,0,I⟩=QL (S A n bh)/\wr.cell? ⟨w.1.size,1,I⟩=QL (S (QL ⟨ba,bv,I⟩) n bi)/\wr.cell? ⟨w.1.size,2,I⟩=QL (S (QL ⟨bc,bz,I⟩) n bj)/\wr.cell? ⟨ga,0,I⟩=QL (N QO s.a)/\wr.cell? ⟨ga,1,I⟩=QL (N QO s.b)/\wr.cell? ⟨ga,2,I⟩=QL (N QO s.c)/\wr.cell? ⟨gb,0,I⟩=QL (N QO t.a)/\wr.cell? ⟨gb,1,I⟩=QL (N QO t.b)/\wr.cell? ⟨gb,2,I⟩=QL (N QO t.c)));case atStart =>exact⟨0,rfl,rfl,(show ∀ j,j<0->_ from λj bu=>absurd bu (Nat.not_lt_zero j)),a7.o,⟨oR,oR,oR⟩,⟨oD,oD,oD,oD,oD,oD,oD,oD,oD⟩⟩
 case round =>
 clear bp br a0 be bd bf;obtain⟨k,aG,rfl,ad,bo,⟨bQ,bR,bS⟩,⟨bF,bG,bH,c3,bI,bJ,bK,bL,bM⟩⟩:=hrel;have ao:=A_ bo;obtain rfl|rfl|rfl|rfl:k=0\/k=1\/k=2\/k=3:=oS
 ·obtain rfl:gk=2+1:=oS
  clear aG;go_wp2_with fail;obtain⟨r0,aa⟩:∃ r,A5u xs ys s.a s.b t.a=r:=⟨_,rfl⟩
  have C:=A3v _ n xs ys s.a s.b t.a wr (af.below ao) ag ah b.1 b.2.1 ae.1;rw[aa]at C;have G:=A_ aa;clear aa;refine C.mono ?_;clear C;rintro _ O ⟨rfl,u⟩;obtain⟨aQ,aU⟩:=F_ u;have W:=A_ (AI ao u);have ap:w.1.size<O.1.size:=by have:=u.size;omega
  have aq:ga<O.1.size:=by have:=u.size;omega
  have ar:gb<O.1.size:=by have:=u.size;omega
  by_cases H:r0<=0
  ·go_wp2_with fail
   obtain⟨aB,ab⟩:∃ r,A5u xs ys s.a s.b t.b=r:=⟨_,rfl⟩
   have C:=A3v _ n xs ys s.a s.b t.b O (af.below W) ag ah b.1 b.2.1 ae.2.1;rw[ab]at C;have Y:=A_ ab;clear ab;refine C.mono ?_;clear C;rintro _ T ⟨rfl,D⟩;obtain⟨aR,aV⟩:=F_ D;have X:=A_ (AI W D);have au:w.1.size<T.1.size:=by have:=D.size;omega
   have aw:ga<T.1.size:=by have:=D.size;omega
   have ax:gb<T.1.size:=by have:=D.size;omega
   by_cases Z:aB<=0
   ·go_wp2_with fail
    obtain⟨aC,ac⟩:∃ r,A5u xs ys s.a s.b t.c=r:=⟨_,rfl⟩
    have C:=A3v _ n xs ys s.a s.b t.c T (af.below X) ag ah b.1 b.2.1 ae.2.2;rw[ac]at C;have ak:=A_ ac;clear ac;refine C.mono ?_;clear C;rintro _ w3 ⟨rfl,E⟩;obtain⟨aS,aW⟩:=F_ E;have aj:=A_ (AI X E);have ay:w.1.size<w3.1.size:=by have:=E.size;omega
    have az:ga<w3.1.size:=by have:=E.size;omega
    have aA:gb<w3.1.size:=by have:=E.size;omega
    by_cases al:aC<=0;·have an:=A_ (show B9s xs ys s t=AD from C7t (j:=0) dE (by show A1q xs ys t s.a s.b=AD;unfold A1q;rw[G.o,Y.o,ak.o];simp[H,Z,al]));go_wp2;go_ret;exact⟨by rw[an.o];rfl,aj⟩
    have h:=A_ (show ∀ j,j<0+1->B0g xs ys s t j=AF from A5c ad (by show A1q xs ys t s.a s.b=AF;unfold A1q;rw[G.o,Y.o,ak.o];simp[H,Z,al]));go_wp2_with fail;go_roundg 2;case measure=>omega
    case rel=>exact⟨0+1,rfl,gN,h,aj,⟨ay,az,aA⟩,⟨oD,oD,oD,oD,oD,oD,oD,oD,oD⟩⟩
   have h:=A_ (show ∀ j,j<0+1->B0g xs ys s t j=AF from A5c ad (by show A1q xs ys t s.a s.b=AF;unfold A1q;rw[G.o,Y.o];simp[H,Z]));go_wp2_with fail;go_roundg 2;case measure=>omega
   case rel=>exact⟨0+1,rfl,gN,h,X,⟨au,aw,ax⟩,⟨oD,oD,oD,oD,oD,oD,oD,oD,oD⟩⟩
  have h:=A_ (show ∀ j,j<0+1->B0g xs ys s t j=AF from A5c ad (by show A1q xs ys t s.a s.b=AF;unfold A1q;rw[G.o];simp[H]));go_wp2_with fail;go_roundg 2;case measure=>omega
  case rel=>exact⟨0+1,rfl,gN,h,W,⟨ap,aq,ar⟩,⟨oD,oD,oD,oD,oD,oD,oD,oD,oD⟩⟩
 ·obtain rfl:gk=1+1:=oS
  clear aG;go_wp2_with fail;obtain⟨r0,aa⟩:∃ r,A5u xs ys s.b s.c t.a=r:=⟨_,rfl⟩
  have C:=A3v _ n xs ys s.b s.c t.a wr (af.below ao) ag ah b.2.1 b.2.2 ae.1;rw[aa]at C;have G:=A_ aa;clear aa;refine C.mono ?_;clear C;rintro _ O ⟨rfl,u⟩;obtain⟨aQ,aU⟩:=F_ u;have W:=A_ (AI ao u);have ap:w.1.size<O.1.size:=by have:=u.size;omega
  have aq:ga<O.1.size:=by have:=u.size;omega
  have ar:gb<O.1.size:=by have:=u.size;omega
  by_cases H:r0<=0
  ·go_wp2_with fail
   obtain⟨aB,ab⟩:∃ r,A5u xs ys s.b s.c t.b=r:=⟨_,rfl⟩
   have C:=A3v _ n xs ys s.b s.c t.b O (af.below W) ag ah b.2.1 b.2.2 ae.2.1;rw[ab]at C;have Y:=A_ ab;clear ab;refine C.mono ?_;clear C;rintro _ T ⟨rfl,D⟩;obtain⟨aR,aV⟩:=F_ D;have X:=A_ (AI W D);have au:w.1.size<T.1.size:=by have:=D.size;omega
   have aw:ga<T.1.size:=by have:=D.size;omega
   have ax:gb<T.1.size:=by have:=D.size;omega
   by_cases Z:aB<=0
   ·go_wp2_with fail
    obtain⟨aC,ac⟩:∃ r,A5u xs ys s.b s.c t.c=r:=⟨_,rfl⟩
    have C:=A3v _ n xs ys s.b s.c t.c T (af.below X) ag ah b.2.1 b.2.2 ae.2.2;rw[ac]at C;have ak:=A_ ac;clear ac;refine C.mono ?_;clear C;rintro _ w3 ⟨rfl,E⟩;obtain⟨aS,aW⟩:=F_ E;have aj:=A_ (AI X E);have ay:w.1.size<w3.1.size:=by have:=E.size;omega
    have az:ga<w3.1.size:=by have:=E.size;omega
    have aA:gb<w3.1.size:=by have:=E.size;omega
    by_cases al:aC<=0;·have an:=A_ (show B9s xs ys s t=AD from C7t (j:=1) dE (by show A1q xs ys t s.b s.c=AD;unfold A1q;rw[G.o,Y.o,ak.o];simp[H,Z,al]));go_wp2;go_ret;exact⟨by rw[an.o];rfl,aj⟩
    have h:=A_ (show ∀ j,j<1+1->B0g xs ys s t j=AF from A5c ad (by show A1q xs ys t s.b s.c=AF;unfold A1q;rw[G.o,Y.o,ak.o];simp[H,Z,al]));go_wp2_with fail;go_roundg 1;case measure=>omega
    case rel=>exact⟨1+1,rfl,gN,h,aj,⟨ay,az,aA⟩,⟨oD,oD,oD,oD,oD,oD,oD,oD,oD⟩⟩
   have h:=A_ (show ∀ j,j<1+1->B0g xs ys s t j=AF from A5c ad (by show A1q xs ys t s.b s.c=AF;unfold A1q;rw[G.o,Y.o];simp[H,Z]));go_wp2_with fail;go_roundg 1;case measure=>omega
   case rel=>exact⟨1+1,rfl,gN,h,X,⟨au,aw,ax⟩,⟨oD,oD,oD,oD,oD,oD,oD,oD,oD⟩⟩
  have h:=A_ (show ∀ j,j<1+1->B0g xs ys s t j=AF from A5c ad (by show A1q xs ys t s.b s.c=AF;unfold A1q;rw[G.o];simp[H]));go_wp2_with fail;go_roundg 1;case measure=>omega
  case rel=>exact⟨1+1,rfl,gN,h,W,⟨ap,aq,ar⟩,⟨oD,oD,oD,oD,oD,oD,oD,oD,oD⟩⟩
 ·obtain rfl:gk=0+1:=oS
  clear aG;go_wp2_with fail;obtain⟨r0,aa⟩:∃ r,A5u xs ys s.c s.a t.a=r:=⟨_,rfl⟩
  have C:=A3v _ n xs ys s.c s.a t.a wr (af.below ao) ag ah b.2.2 b.1 ae.1;rw[aa]at C;have G:=A_ aa;clear aa;refine C.mono ?_;clear C;rintro _ O ⟨rfl,u⟩;obtain⟨aQ,aU⟩:=F_ u;have W:=A_ (AI ao u);have ap:w.1.size<O.1.size:=by have:=u.size;omega
  have aq:ga<O.1.size:=by have:=u.size;omega
  have ar:gb<O.1.size:=by have:=u.size;omega
  by_cases H:r0<=0
  ·go_wp2_with fail
   obtain⟨aB,ab⟩:∃ r,A5u xs ys s.c s.a t.b=r:=⟨_,rfl⟩
   have C:=A3v _ n xs ys s.c s.a t.b O (af.below W) ag ah b.2.2 b.1 ae.2.1;rw[ab]at C;have Y:=A_ ab;clear ab;refine C.mono ?_;clear C;rintro _ T ⟨rfl,D⟩;obtain⟨aR,aV⟩:=F_ D;have X:=A_ (AI W D);have au:w.1.size<T.1.size:=by have:=D.size;omega
   have aw:ga<T.1.size:=by have:=D.size;omega
   have ax:gb<T.1.size:=by have:=D.size;omega
   by_cases Z:aB<=0
   ·go_wp2_with fail
    obtain⟨aC,ac⟩:∃ r,A5u xs ys s.c s.a t.c=r:=⟨_,rfl⟩
    have C:=A3v _ n xs ys s.c s.a t.c T (af.below X) ag ah b.2.2 b.1 ae.2.2;rw[ac]at C;have ak:=A_ ac;clear ac;refine C.mono ?_;clear C;rintro _ w3 ⟨rfl,E⟩;obtain⟨aS,aW⟩:=F_ E;have aj:=A_ (AI X E);have ay:w.1.size<w3.1.size:=by have:=E.size;omega
    have az:ga<w3.1.size:=by have:=E.size;omega
    have aA:gb<w3.1.size:=by have:=E.size;omega
    by_cases al:aC<=0;·have an:=A_ (show B9s xs ys s t=AD from C7t (j:=2) dE (by show A1q xs ys t s.c s.a=AD;unfold A1q;rw[G.o,Y.o,ak.o];simp[H,Z,al]));go_wp2;go_ret;exact⟨by rw[an.o];rfl,aj⟩
    have h:=A_ (show ∀ j,j<2+1->B0g xs ys s t j=AF from A5c ad (by show A1q xs ys t s.c s.a=AF;unfold A1q;rw[G.o,Y.o,ak.o];simp[H,Z,al]));go_wp2_with fail;go_roundg 0;case measure=>omega
    case rel=>exact⟨2+1,rfl,gN,h,aj,⟨ay,az,aA⟩,⟨oD,oD,oD,oD,oD,oD,oD,oD,oD⟩⟩
   have h:=A_ (show ∀ j,j<2+1->B0g xs ys s t j=AF from A5c ad (by show A1q xs ys t s.c s.a=AF;unfold A1q;rw[G.o,Y.o];simp[H,Z]));go_wp2_with fail;go_roundg 0;case measure=>omega
   case rel=>exact⟨2+1,rfl,gN,h,X,⟨au,aw,ax⟩,⟨oD,oD,oD,oD,oD,oD,oD,oD,oD⟩⟩
  have h:=A_ (show ∀ j,j<2+1->B0g xs ys s t j=AF from A5c ad (by show A1q xs ys t s.c s.a=AF;unfold A1q;rw[G.o];simp[H]));go_wp2_with fail;go_roundg 0;case measure=>omega
  case rel=>exact⟨2+1,rfl,gN,h,W,⟨ap,aq,ar⟩,⟨oD,oD,oD,oD,oD,oD,oD,oD,oD⟩⟩
 have an:=A_ (show B9s xs ys s t=AF from E2g ad);clear aG;go_wp2;go_ret;exact⟨by rw[an.o];rfl,ao⟩

theorem C3j (v:AJ) (n:Nat) (xs ys:List Int) (af:AJ) (t:TTri) (aq:List Nat) (w:J) (ab:Plc w v n xs ys) (ad:A6a xs) (ae:A6a ys) (aN:n<=40) (W:Agg w af t aq) (u:A5v n t)
  (ac:inB 0 t.4 2=AD) (aa:inB 0 t.5 60=AD) (ax:0<A5u xs ys t.a t.b t.c) :
  AR prog 116 #[v,af] w (A0b w (AC AD)):=by
 have ai:=A_ ab;have ak:=A_ ad;have al:=A_ ae;have T:=A_ u;have an:=A_ (by unfold inB;have:=u.1;simp;omega:inB 0 t.a ((n:Int) - 1)=AD);have ao:=A_ (by unfold inB;have:=u.2.1;simp;omega:inB 0 t.b ((n:Int) - 1)=AD);have ap:=A_ (by unfold inB;have:=u.2.2;simp;omega:inB 0 t.c ((n:Int) - 1)=AD);have aj:=A_ ac;have ah:=A_ aa;obtain⟨r,Y⟩:∃ r,A5u xs ys t.a t.b t.c=r:=⟨_,rfl⟩
 rw[Y]at ax;have R:=A_ Y;obtain⟨A,aC,ay,aW,aD,az,aX,aE,aA,aB,rfl,ar,au⟩:=ab;have am:=A_ W;obtain⟨rfl,_,_,_,_,_,_⟩:=TTri.agg W;clear W ar au ad ae u ac aa Y;go_enter func116,ntmps116;go_wp2_with fail;refine(A2g _ t _ _ (am.below Below.go)).mono ?_;rintro _ O ⟨rfl,X⟩;have ag:=A_ (show Bw w O from Below.go);obtain⟨aF,aJ⟩:=F_ X;have aO:w.1.size<O.1.size:=ltg X;have aS:w.1.size+1<O.1.size:=ltg X;go_wp2_with fail;go_loopg [9] 3 (λg s wr=>∃ k:Nat,k+g=3/\s=N QO k/\Bw O wr);case atStart=>exact⟨0,rfl,rfl,CG _ _⟩
 case round =>
  obtain⟨k,H,rfl,E⟩:=hrel;have D:=A_ E;obtain⟨aI,aM⟩:=F_ E;have aR:w.1.size<wr.1.size:=by have:=E.size;omega
  have aV:w.1.size+1<wr.1.size:=by have:=E.size;omega
  obtain rfl|rfl|rfl|rfl:k=0\/k=1\/k=2\/k=3:=oS
  ·obtain rfl:gk=2+1:=oS
   clear H;go_wp2_with fail;have C:=A0s t.a 0 ((n:Int) - 1) wr;rw[an.o]at C;refine C.mono ?_;clear C;rintro _ h ⟨rfl,b⟩;go_wp2_with fail;go_roundg 2;case measure=>omega
   case rel=>exact⟨0+1,rfl,gN,AI D b⟩
  ·obtain rfl:gk=1+1:=oS
   clear H;go_wp2_with fail;have C:=A0s t.b 0 ((n:Int) - 1) wr;rw[ao.o]at C;refine C.mono ?_;clear C;rintro _ h ⟨rfl,b⟩;go_wp2_with fail;go_roundg 1;case measure=>omega
   case rel=>exact⟨1+1,rfl,gN,AI D b⟩
  ·obtain rfl:gk=0+1:=oS
   clear H;go_wp2_with fail;have C:=A0s t.c 0 ((n:Int) - 1) wr;rw[ap.o]at C;refine C.mono ?_;clear C;rintro _ h ⟨rfl,b⟩;go_wp2_with fail;go_roundg 0;case measure=>omega
   case rel=>exact⟨2+1,rfl,gN,AI D b⟩
  clear H;go_wp2_with fail;have C:=A0s t.4 0 2 wr;rw[aj.o]at C;refine C.mono ?_;clear C;rintro _ h ⟨rfl,b⟩;obtain⟨aG,aK⟩:=F_ b;have aP:w.1.size<h.1.size:=by have:=b.size;omega
  have aT:w.1.size+1<h.1.size:=by have:=b.size;omega
  go_wp2_with fail;have C:=A0s t.5 0 60 h;rw[ah.o]at C;refine C.mono ?_;clear C;rintro _ w3 ⟨rfl,G⟩;obtain⟨aH,aL⟩:=F_ G;have aQ:w.1.size<w3.1.size:=by have:=G.size;omega
  have aU:w.1.size+1<w3.1.size:=by have:=G.size;omega
  have Z:=A_ (AI (AI (AI ag D) b) G);go_wp2_with fail;have C:=A3v _ n xs ys t.a t.b t.c w3 (ai.below Z) ak al T.1 T.2.1 T.2.2;rw[R.o]at C;refine C.mono ?_;clear C;rintro _ aY ⟨rfl,aw⟩;go_wp2;go_ret;exact⟨rfl,AI Z aw⟩
end
def D9z (xs ys:List Int) (a b:Int) (n:Nat):Prop:=∀ c:Nat,c<n->(c:Int)=a\/(c:Int)=b\/A5t xs ys a b c=AF
def E9p (xs ys:List Int) (n:Nat) (t:TTri):Prop:=D9z xs ys t.a t.b n/\D9z xs ys t.b t.c n/\D9z xs ys t.c t.a n
section
theorem D1l {xs ys:List Int} {n:Nat} {t:TTri} (h:A5v n t) (b:E9p xs ys n t) {i:Nat} (hi:i<3) :
  (0<=cnr t i/\cnr t i<n)/\(0<=cnr t ((i+1) % 3)/\cnr t ((i+1) % 3)<n)/\D9z xs ys (cnr t i) (cnr t ((i+1) % 3)) n:=by
 obtain rfl|rfl|rfl:i=0\/i=1\/i=2:=oS;·exact⟨h.1,h.2.1,b.1⟩
 ·exact⟨h.2.1,h.2.2,b.2.1⟩
 exact⟨h.2.2,h.1,b.2.2⟩
attribute [local go_sem] ix0 ix1 ix2

theorem C6x (v:AJ) (n:Nat) (xs ys:List Int) (B:Option AH) (m d:Nat) (ts:List TTri) (aY:List Nat) (w:J) (aE:Plc w v n xs ys) (aF:A6a xs) (aG:A6a ys) (bs:n<=40) (aH:Sl w B m d ts aY) (br:m<=48)
  (aB:∀ t∈ts,A5v n t) (aD:∀ t∈ts,E9p xs ys n t) :
  AR prog 120 #[v,S B m d] w (A0b w (AC AF)):=by
 have aR:=A_ aE;have aS:=A_ aF;have aT:=A_ aG;have aN:=A_ aB;have aQ:=A_ aD;obtain⟨A,bm,bg,bu,bn,bh,bv,bo,bi,bj,rfl,a6,a7⟩:=aE;have aU:=A_ aH;clear a6 a7 aF aG aB aD aH;go_enter func120,ntmps120;go_wp2_with fail;refine Code.new λaX u=>?_;go_loopg [14] m (λg s wr=>∃ k:Nat,k+g=m/\s=N QO k/\Hid (Bw aX wr));case atStart=>exact⟨0,oS,rfl,CG _ _⟩
 case round =>
  obtain⟨k,aC,rfl,T⟩:=hrel;have ah:=A_ (AI u.b T);obtain⟨ao,-,h⟩:=bx (A0z u.k T);rcases BN k m with ad|ad
  ·have be:(k:Int)<m:=oS
   obtain⟨bl,bz,t,rfl,bp,am,aZ,a1,a2,a3,a4,ak⟩:=TTri.elemA (aU.below ah) ad;have aL:=A_ ak;have aO:=A_ (aN t (CH am));have aP:=A_ (aQ t (CH am));have aq:=A_ (show I64 t.a/\I64 t.b/\I64 t.c from have aj:=(TTri.agg ak).2.2;⟨aj.1,aj.2.1,aj.2.2.1⟩);obtain⟨g,rfl⟩:∃ g,gk=g+1:=⟨gk - 1,oS⟩
   have bd:=A_ (by omega:k+1+g=m);clear aC ad am ak;go_wp2_with fail;refine(A2g _ t _ (wr.alloc (AK #[N QO t.a,N QO t.b,N QO t.c,N QO t.4,N QO t.5] 122)) (aL.below (AV _))).mono ?_;rintro _ bB ⟨rfl,ax⟩;have ap:=A_ (AI T.o (IY (AV _) (ax.mono sI)));clear ax aZ a1 a2 a3 a4 ao h ah T;obtain⟨ao,-,h⟩:=bx (A0z u.k ap);go_wp2_with fail;refine Code.new λau W=>?_;have E:=A_ (AI ap W.b);go_loopg [21] 3 (λg s wr=>∃ i:Nat,i+g=3/\s=N QO i/\Hid (Bw au wr));case atStart=>exact⟨0,rfl,rfl,CG _ _⟩
   case round =>
   clear ao h;obtain⟨i,aA,rfl,b⟩:=hrel;obtain⟨X,-,h⟩:=bx (A0z u.k (AI E b));obtain⟨⟨Y,Z,aa⟩,ae,q1⟩:=E1u (A0z W.k b);rcases BN i 3 with ab|ab
   ·obtain⟨aw,rfl⟩:∃ g,gk=g+1:=⟨gk - 1,oS⟩
    have bc:=A_ (by omega:i+1+aw=3);have bq:(i:Int)<3:=oS;obtain⟨⟨m1,-⟩,an,-⟩:=F1e ab;have bA:=λw=>ixn t ab w;have bf:=A_ (C3u aq i);have aV:=A_ (C3u aq ((i+1) % 3));obtain⟨aI,aJ,O⟩:=D1l aO aP ab;have aW:=A_ aI;have ar:=A_ aJ;have O:=A_ O;have bt:(((i+1) % 3:Nat):Int)<3:=oS;generalize cnr t i=a at *;generalize (i+1) % 3=j at *;obtain⟨D,ai⟩:∃ D,cnr t j=D:=⟨_,rfl⟩
    have af:=A_ ai;rw[ai]at aV ar O;clear ai;replace q1:=q1 an af;clear aA aI aJ;obtain⟨U,a5⟩:∃ U,U=wr:=⟨_,rfl⟩
    subst a5;go_wp2_with fail;go_loopg [33] n (λg s wr=>∃ c:Nat,c+g=n/\s=N QO c/\Hid (Bw au wr));case atStart=>exact⟨0,oS,rfl,b.o⟩
    case round =>
     clear X Y Z aa h ae q1 b;obtain⟨c,ay,rfl,b⟩:=hrel;obtain⟨X,-,h⟩:=bx (A0z u.k (AI E b));obtain⟨⟨Y,Z,aa⟩,ae,q1⟩:=E1u (A0z W.k b);replace q1:=q1 an af;have aM:=A_ (AI u.b (AI E b));rcases BN c n with ac|ac
     ·have az:(c:Int)<n:=oS
      have aK:=A_ (show 0<=(c:Int)/\(c:Int)<n from⟨oS,az⟩);have F:=A_ (O c ac);obtain⟨g,rfl⟩:∃ g,gk=g+1:=⟨gk - 1,oS⟩
      have al:=A_ (by omega:c+1+g=n);clear ay ac;by_cases G:(c:Int)=a
      ·have a8:((c:Int) != a)=AF:=by simp[G]
       clear G;go_wp2_with fail;go_roundg g;case measure=>omega
       case rel=>exact⟨c+1,al,gN,b⟩
      have a8:((c:Int) != a)=AD:=by simp[G]
      by_cases H:(c:Int)=D
      ·have ba:((c:Int) != D)=AF:=by simp[H]
       clear H;go_wp2_with fail;go_roundg g;case measure=>omega
       case rel=>exact⟨c+1,al,gN,b⟩
      have ba:((c:Int) != D)=AD:=by simp[H]
      have F:=A_ ((F.resolve_left G).resolve_left H);clear G H;go_wp2_with fail;have C:=B2s _ n xs ys a D c wr (aR.below aM) aS aT aW ar aK;rw[F.o]at C;refine C.mono ?_;clear C;rintro _ bD ⟨rfl,a9⟩;have ag:=A_ (AI b a9);clear X Y Z aa h ae q1;obtain⟨X,-,h⟩:=bx (A0z u.k (AI E ag));obtain⟨⟨Y,Z,aa⟩,ae,q1⟩:=E1u (A0z W.k ag);replace q1:=q1 an af;go_wp2_with fail;go_roundg g;case measure=>omega
      case rel=>exact⟨c+1,al,gN,ag⟩
     obtain rfl:c=n:=oS;have az:¬ ((c:Int)<c):=oS;clear ay ac;go_wp2_with fail;go_roundg aw;case measure=>omega
     case rel=>exact⟨i+1,bc,gN,b⟩
   obtain rfl:i=3:=oS;clear aA;go_wp2_with fail;go_roundg g;case measure=>omega
   case rel=>exact⟨k+1,bd,gN,AI E b⟩
  obtain rfl:k=m:=oS;have be:¬ ((k:Int)<k):=oS;clear aC ad;go_wp2;go_ret;exact⟨rfl,ah⟩
end
def A6x (es:List TEdge) (k:Int) (t:TTri):Nat->List TEdge
 |0=>es
 |i+1=>B2f (A6x es k t i) k (cnr t i) (cnr t ((i+1) % 3))
theorem C6h (es:List TEdge) (k:Int) (t:TTri):∀ i,(A6x es k t i).length<=es.length+i
 |0=>BH _
 |i+1=>by
  have h1:=B6s (A6x es k t i) k (cnr t i) (cnr t ((i+1) % 3))
  have:=C6h es k t i
  rw[A6x];omega
theorem E2n {w wr:J} {g n cap:Nat} {cells:List AJ} {es:List TEdge} {bs:List Nat} (h:wr.ownsRow (w.1.size+1) 190 4 (S (QL ⟨g,0,I⟩) n cap) n cells) (ad:Sl wr (QL ⟨g,0,I⟩) n cap es bs):Own w wr bs:=by
 obtain⟨aj,ak,al,H,O⟩:=ad;rcases Nat.eq_zero_or_pos n with b|b;·rw[H b];exact Own.nil _ _
 obtain⟨af,ao,E,T,rfl,ab,an,X⟩:=O b;have Y:E.flatten=[]:=by
  rw[List.flatten_eq_nil_iff];intro l ac;obtain⟨k,u⟩:=JJ.1 ac;have aa:k<es.length:=by rw[<-ab];exact(CQ.1 u).1
  obtain⟨ah,_,W⟩:=X k _ l (List.getElem?_eq_getElem aa) u;exact(TEdge.open_ W).2.1
 rw[Y];cases T;rcases h.2 with⟨G,_⟩|⟨g',ag,ai,ae,am,Z,_⟩
 ·cases G
 cases ae;exact⟨sI,λx D=>by simp at D;subst D;exact⟨oS,_,_,Z⟩⟩

theorem E4t {w b:J} {T W:Option AH} {ac X n1 Y:Nat} {h cap D p i g:Nat} {k:Int} {lt:Bool} {E G:List TEdge} {t:TTri} (aa:b.ownsRow (w.1.size+1) 190 4 (S (QL ⟨h,0,I⟩) D cap) D (E.flatMap A8d)) (ae:E.length=D) (af:p<D)
  (ad:Below (w.1.size+1) (w.alloc (AK #[S T ac X,S W n1 Y] 26)) b) (H:b.cell? ⟨g,0,I⟩=QL (N QO t.a)/\b.cell? ⟨g,1,I⟩=QL (N QO t.b)/\b.cell? ⟨g,2,I⟩=QL (N QO t.c)) (ah:h≠g) (ag:g<b.1.size) (ab:A6x G k t (i+1)=E.modify p (C2b k lt)) :
  (∃ u,b.cell? ⟨h,p*4+(if lt then 2 else 3),I⟩=QL u)/\b.frozen? ⟨h,p*4+(if lt then 2 else 3),I⟩=AF/\h<b.1.size /\
  (b.setCell ⟨h,p*4+(if lt then 2 else 3),I⟩ (N QO k)).ownsRow (w.1.size+1) 190 4 (S (QL ⟨h,0,I⟩) D cap) D ((A6x G k t (i+1)).flatMap A8d)/\(A6x G k t (i+1)).length=D /\
  Below (w.1.size+1) (w.alloc (AK #[S T ac X,S W n1 Y] 26)) (b.setCell ⟨h,p*4+(if lt then 2 else 3),I⟩ (N QO k))/\g<(b.setCell ⟨h,p*4+(if lt then 2 else 3),I⟩ (N QO k)).1.size /\
  ((b.setCell ⟨h,p*4+(if lt then 2 else 3),I⟩ (N QO k)).cell? ⟨g,0,I⟩=QL (N QO t.a)/\(b.setCell ⟨h,p*4+(if lt then 2 else 3),I⟩ (N QO k)).cell? ⟨g,1,I⟩=QL (N QO t.b)/\(b.setCell ⟨h,p*4+(if lt then 2 else 3),I⟩ (N QO k)).cell? ⟨g,2,I⟩=QL (N QO t.c)):=by
 have Z:=EU aa _ rfl;subst ae;obtain⟨r,-,c,f⟩:=A3a aa (i:=p*4+(if lt then 2 else 3)) (by rw[D5v];split<;>omega) (N QO k);rw[<-E1m k lt E p af,<-ab]at r;have O:∀ o,(b.setCell ⟨h,p*4+(if lt then 2 else 3),I⟩ (N QO k)).cell? ⟨g,o,I⟩=b.cell? ⟨g,o,I⟩:=λo=>J.cell?_setCell_other b _ ⟨g,o,I⟩ _ sI;exact⟨c,f,Z.2,r,by rw[ab,List.length_modify],ad.setCell (p:=⟨h,p*4+(if lt then 2 else 3),I⟩) Z.1 _,by simpa using ag,(O 0).trans H.1,(O 1).trans H.2.1,(O 2).trans H.2.2⟩
theorem A7q (v:AJ) (m:TMesh) (b:List Nat) (w:J) (bt:Agg w v m b) (aB:m.triangles.length<=48) :
  AR prog 125 #[v] w (A0w w (P_ m.triangles)):=by
 obtain⟨ad,ap,ak,cU,aG,n1,al,cV,rfl,rfl,cm,aE⟩:=TMesh.agg bt;have a3:=A_ aE;have a2:=A_ aE.1;have cJ:n1<=48:=by rw[<-aE.1];exact aB
 obtain⟨cR,cG,cO,cP,cQ⟩:=DW D2l;clear bt cm aE aB;obtain⟨E,br⟩:∃ E,m.triangles=E:=⟨_,rfl⟩
 rw[br]at a3 a2 ⊢;clear br;go_enter func125,ntmps125;go_wp2_with fail;go_loopg [3,17] n1 (λg s3 s17 wr=>∃ (k gB cap L:Nat),k+g=n1/\s17=N QO k/\s3=S (QL ⟨gB,0,I⟩) L cap/\Hid ((A4g E k).length=L)/\Hid (wr.ownsRow (w.1.size+1) 190 4 (S (QL ⟨gB,0,I⟩) L cap) L ((A4g E k).flatMap A8d))/\Hid (∀ e∈A4g E k,B0c e)/\Below (w.1.size+1) (w.alloc (AK #[S ad ap ak,S aG n1 al] 26)) wr);case atStart =>
  refine⟨0,w.1.size+1,0,0,oS,rfl,rfl,?_,?_,?_,?_⟩;·show([]:List TEdge).length=0;rfl
  ·have:=World.ownsRow_made (base:=w.1.size+1) (e:=190) (size:=4) (w.alloc (AK #[S ad ap ak,S aG n1 al] 26)) #[] 0 sI (DV _) rfl;rw[World.size_alloc]at this;exact this
  ·show ∀ e∈([]:List TEdge),B0c e;intro e b7;cases b7
  exact(CG _ _).alloc sI _
 case round =>
  obtain⟨k,gB,cap,L,bi,rfl,rfl,ar,ao,aD,au⟩:=hrel;have aY:=A_ (show Bw w wr from(AV (AK #[S ad ap ak,S aG n1 al] 26)).trans (au.mono oS));rcases BN k n1 with aA|aA
  ·obtain⟨g,rfl⟩:∃ g,gk=g+1:=⟨gk - 1,oS⟩
   have cd:=A_ (by omega:k+1+g=n1);have cf:(k:Int)<n1:=oS;have cI:(k:Int)<=48:=oS;obtain⟨a8,bz,t,rfl,cA,bu,cs,ct,cu,cv,cw,bd⟩:=TTri.elemA (a3.below aY) aA;have bL:=A_ bu;have aV:=A_ bd;have aW:=A_ au;clear bi aA bu bd au;go_wp2_with fail;refine(A2g _ t _ _ (aV.below (AV _))).mono ?_;rintro _ h ⟨rfl,be⟩;obtain⟨b6,b8⟩:=F_ be;obtain⟨G,ay⟩:∃ D,A4g E k=D:=⟨_,rfl⟩
   rw[ay]at ar ao aD;have aJ:=A_ (by rw[A4g,List.getD_eq_getElem?_getD,bL.o,ay];rfl:A4g E (k+1)=E8t G k t);have bH:=A_ (by rw[<-ay];exact A5z E k:G.length<=3*k);have a6:=A_ (show I64 t.a/\I64 t.b/\I64 t.c from by obtain⟨_,_,cp,i2,cq,_,_⟩:=TTri.agg aV;exact⟨cp,i2,cq⟩);have bM:=A_ (by constructor<;>omega:I64 (k:Int));have a1:=A_ (show Bw wr h from IY (AV _) (be.mono sI));have aL:=A_ (I_ ao a1);have aX:=A_ (aW.trans (a1.mono (by have:=aW.size;simp at this;omega)));have cj:=(EU aL _ rfl).2;clear ay;go_wp2_with fail;go_loopg [3,25] 3 (λg s3 s25 wr=>∃ (i T aa u:Nat),i+g=3/\s25=N QO i/\s3=S (QL ⟨T,0,I⟩) u aa/\Hid ((A6x G k t i).length=u)/\Hid (wr.ownsRow (w.1.size+1) 190 4 (S (QL ⟨T,0,I⟩) u aa) u ((A6x G k t i).flatMap A8d))/\Hid (∀ e∈A6x G k t i,B0c e)/\T≠h.1.size/\Below (w.1.size+1) (w.alloc (AK #[S ad ap ak,S (QL ⟨a8,bz,I⟩) n1 al] 26)) wr/\h.1.size<wr.1.size/\(wr.cell? ⟨h.1.size,0,I⟩=QL (N QO t.a)/\wr.cell? ⟨h.1.size,1,I⟩=QL (N QO t.b)/\wr.cell? ⟨h.1.size,2,I⟩=QL (N QO t.c)));case atStart=>exact⟨0,gB,cap,L,rfl,rfl,rfl,ar.o,I_ aL.o (AV _),aD.o,oS,aX.o.alloc (by have:=aX.o.size;simp at this;omega) _,sI,⟨oD,oD,oD⟩⟩
   case round =>
   clear b6 b8 ar ao aD aL cj;obtain⟨i,T,aa,u,bg,rfl,rfl,O,an,aC,aR,bf,cN,⟨a7,b1,b2⟩⟩:=hrel;have aI:=A_ bf;clear bf;rcases BN i 3 with aQ|aQ
   ·have ca:=λw=>ixn t aQ w
    obtain⟨j,bh,cb⟩:∃ j:Nat,(i+1) % 3=j/\j<3:=⟨_,rfl,Nat.mod_lt _ dE⟩
    have bY:=C7j ⟨a7,b1,b2⟩ cb;have cH:(i:Int)<3:=oS;have aB:((i:Int)+1).tmod 3=j:=by rw[<-bh];rcases(by omega:i=0\/i=1\/i=2)with rfl|rfl|rfl<;>rfl
    have cc:(j:Int)<3:=oS;have aK:=A_ (by rw[A6x,bh]:A6x G k t (i+1)=B2f (A6x G k t i) k (cnr t i) (cnr t j));have a4:=A_ (C3u a6 i);have a5:=A_ (C3u a6 j);generalize cnr t i=a at *;generalize cnr t j=b at *;obtain⟨D,aP⟩:∃ D,A6x G k t i=D:=⟨_,rfl⟩
    rw[aP]at O an aC aK;have ai:=A_ (by have:=C6h G k t i;rw[aP,O.o]at this;have:=bH.o;omega:u<=65536);have cx:(u:Int)<=65536:=by have:=ai.o;omega
    have bQ:=A_ (by rw[aK.o];exact E5b bM a4 a5 aC:∀ e∈A6x G k t (i+1),B0c e);have ae:=A_ (D9a a4 a5);obtain⟨p,ac⟩:∃ p,A3z D (C8i a b)=p:=⟨_,rfl⟩
    obtain⟨am,X⟩:∃ f,A6o D (C8i a b)=f:=⟨_,rfl⟩
    have aj:=A_ (by rw[<-ac,<-O.o];exact D9w _ _:p<=u);have cL:(p:Int)<=u:=by have:=aj.o;omega
    have bE:=A_ (show am=AD->p<u from λW=>by unfold A6o at X;rw[ac,O.o,W]at X;simp at X;exact X.1);have aH:=A_ (show B2f D k a b=(bif am then D else C8f D p (C8i a b)).modify p (C2b k (AU (a<b))) by unfold B2f;simp only[ac,X];cases am<;>rfl);obtain⟨bW,bq,_⟩:=C9f an O aC;have cE:T<wr.1.size:=(EU an _ rfl).2;obtain⟨lo,ci⟩:∃ l,min a b=l:=⟨_,rfl⟩
    obtain⟨Y,b9⟩:∃ l,max a b=l:=⟨_,rfl⟩
    have bJ:=A_ (by unfold C8i;rw[ci,b9]:C8i a b=⟨lo,Y,-1,-1⟩);rw[bJ.o]at ae ac X aH;have bK:=A_ aH;clear aH;have C:=B4a (QL ⟨T,0,I⟩) u aa D bW (AM #[N QO lo,N QO Y,N QO (-1),N QO (-1)]) ⟨lo,Y,-1,-1⟩ [] (wr.alloc (AK #[N QO lo,N QO Y,N QO (-1),N QO (-1)] 190)) (bq.below (AV _)) ai (TEdge.mkAgg (x:=⟨lo,Y,-1,-1⟩) ae.1 ae.2.1 ae.2.2.1 ae.2.2.2);rw[ac,X]at C;have aU:=A_ C;obtain⟨gk,rfl⟩:∃ q,gk=q+1:=⟨gk - 1,oS⟩
    have bI:=A_ (by omega:(i+1)+gk=3);clear C ac X bq aP bg;go_wp2_with fail;refine aU.mono ?_;clear aU;rintro _ Z ⟨rfl,aw⟩;obtain⟨cB,cD⟩:=F_ aw;have aZ:=A_ (show Bw wr Z from IY (AV _) (aw.mono sI));have cM:wr.1.size<Z.1.size:=by have:=aw.size;simp at this;omega
    have aM:=A_ (I_ an aZ);have ah:=A_ (aI.trans (aZ.mono (by have:=aI.size;simp at this;omega)));have aq:=A_ (show(Z.cell? ⟨h.1.size,0,I⟩=QL (N QO t.a)/\Z.cell? ⟨h.1.size,1,I⟩=QL (N QO t.b)/\Z.cell? ⟨h.1.size,2,I⟩=QL (N QO t.c))from⟨oD,oD,oD⟩);have aF:h.1.size<Z.1.size:=oS;clear a7 b1 b2 bY ca aB cc aw;go_upto_if 48 with fail
    go_cut [3] (λs3 wx=>∃ (ag ab H:Nat) (af:List TEdge),s3=S (QL ⟨ag,0,I⟩) H ab/\Hid (af=bif am then D else C8f D p ⟨lo,Y,-1,-1⟩)/\Hid (af.length=H)/\Hid (p<H)/\Hid (H<=65537)/\Hid (wx.ownsRow (w.1.size+1) 190 4 (S (QL ⟨ag,0,I⟩) H ab) H (af.flatMap A8d))/\Hid (ag≠h.1.size) /\
     Hid (Below (w.1.size+1) (w.alloc (AK #[S ad ap ak,S (QL ⟨a8,bz,I⟩) n1 al] 26)) wx)/\Hid (h.1.size<wx.1.size)/\Hid (wx.cell? ⟨h.1.size,0,I⟩=QL (N QO t.a)/\wx.cell? ⟨h.1.size,1,I⟩=QL (N QO t.b)/\wx.cell? ⟨h.1.size,2,I⟩=QL (N QO t.c)))
    case first =>
     cases am
     ·go_wp2_with fail
      refine(D6w (w.1.size+1) T u aa Z.1.size p (D.flatMap A8d) [N QO lo,N QO Y,N QO (-1),N QO (-1)] _ (I_ aM (AV _)) (by have:=ah.size;simp at this;simp;omega) ai.o aj.o (CF Z _) rfl (by intro v bs;simp at bs;rcases bs with rfl|rfl|rfl|rfl<;>rfl) E5o oS).mono ?_;rintro _ w3 ⟨a9,ab,rfl,bo,az,bm⟩;have bl:a9≠h.1.size:=λe=>bm.elim (λW=>aR (W ▸ e)) (λW=>by simp at W;omega);have ax:=az.block h.1.size oR (by intro e;injection e with e;exact aR e.symm);have bS:=A_ bo;have bO:=A_ bl;have bA:=A_ (show(w3.cell? ⟨h.1.size,0,I⟩=QL (N QO t.a)/\w3.cell? ⟨h.1.size,1,I⟩=QL (N QO t.b)/\w3.cell? ⟨h.1.size,2,I⟩=QL (N QO t.c))from⟨(JF (a:=⟨h.1.size,0,I⟩) ax).trans (((AV _).cell (p:=⟨h.1.size,0,I⟩) aF).trans aq.1),(JF (a:=⟨h.1.size,1,I⟩) ax).trans (((AV _).cell (p:=⟨h.1.size,1,I⟩) aF).trans aq.2.1),(JF (a:=⟨h.1.size,2,I⟩) ax).trans (((AV _).cell (p:=⟨h.1.size,2,I⟩) aF).trans aq.2.2)⟩);have bG:=A_ ((ah.alloc (by have:=ah.size;simp at this;omega) _).grown az (by have:=ah.o.size;simp at this;simp;omega) (λk2 ce=>by injection ce with W;subst W;exact(EU aM _ rfl).1));have cn:h.1.size<w3.1.size:=by have:=az.size;simp at this;omega
      clear bo az bm ax bl;go_wp2_with fail;go_meet;exact⟨a9,ab,u+1,C8f D p ⟨lo,Y,-1,-1⟩,rfl,rfl,(by rw[D3s (by rw[O.o];exact aj.o),O.o]:_=_),Nat.lt_succ_of_le aj.o,Nat.succ_le_succ ai.o,(by rw[E3a (by rw[O.o];exact aj)];exact bS:World.ownsRow _ _ _ _ _ _ _),bO,bG,cn,bA⟩
     have bR:=A_ (bE rfl);go_wp2_with fail;go_meet;exact⟨T,aa,u,D,rfl,rfl,O,bR,Nat.le_succ_of_le ai,aM,aR,ah,aF,aq⟩
    case rest =>
    obtain⟨ag,ab,H,af,rfl,b3,cg,bn,ch,ck,bj,b4,co,b5⟩:=hcut;rename J=>wx;rename (∀ (a:Act) (w:J),Code.wp _ _ _ a w->_)=>ba;refine ba _ _ ?_;clear ba;have cK:(p:Int)<H:=by have:=bn.o;omega
    have cy:(H:Int)<=65537:=by have:=ch.o;omega
    have bP:=A_ (by rw[aK.o,bK.o,b3.o]:A6x G k t (i+1)=af.modify p (C2b k (AU (a<b))));have bU:=A_ (fun(lt:Bool) (W:AU (a<b)=lt)=>E4t (i:=i) (k:=k) (lt:=lt) ck.o cg.o bn.o b4.o b5.o bj.o co.o (W ▸ bP.o));by_cases bc:a<b
    all_goals
     have M:=bU.o _ (by first|exact decide_eq_true bc|exact decide_eq_false bc);obtain⟨⟨cW,bZ⟩,b0,cF,aS,bv,aO,aT,aN⟩:=M;simp only[if_true,if_false,Bool.false_eq_true]at bZ b0 aS aO aT aN;have bT:=A_ aS;have bN:=A_ bv;have bF:=A_ aO;have bV:=A_ aT;have bB:=A_ aN;clear aS bv aO aT aN;go_wp2_with fail;go_roundg gk;case measure=>omega
     case rel=>exact⟨i+1,ag,ab,H,bI,gN,rfl,bN,bT,bQ,bj,bF,bV,bB⟩
   obtain rfl:i=3:=oS;obtain rfl:gk=0:=oS;clear bg aQ;go_wp2_with fail;go_roundg g;case measure=>omega
   case rel=>exact⟨k+1,T,aa,u,cd.o,gN,rfl,(by rw[aJ.o];exact O.o:(A4g E (k+1)).length=u),(by rw[aJ.o];exact an.o:wr.ownsRow _ _ _ _ _ ((A4g E (k+1)).flatMap A8d)),(by rw[aJ.o];exact aC:∀ e∈A4g E (k+1),B0c e),aI⟩
  obtain rfl:k=n1:=oS;have cf:¬ ((k:Int)<k):=oS;have bD:=A_ (by unfold P_;rw[a2.o]:A4g E k=P_ E);clear bi aA au;go_wp2;go_ret;rw[<-bD.o];obtain⟨bX,bp,cz⟩:=C9f ao ar aD;exact⟨_,L,cap,bX,rfl,bp,E2n ao bp,aY⟩
def A4p:TTri:=⟨0,0,0,0,0⟩
def A3h (t:TTri) (v:Int):Int×Int:=if t.a=v then(t.b,t.c)else if t.b=v then(t.c,t.a)else(t.a,t.b)
def B6x (t:TTri) (v:Int):Bool:=t.a==v || (t.b==v || t.c==v)
def A2u (ts:List TTri) (v:Int):Nat->List Int
 |0=>[]
 |k+1=>if B6x (ts.getD k A4p) v then A2u ts v k++[(k:Int)]else A2u ts v k
def A2d (ts:List TTri) (v:Int):List Int:=A2u ts v ts.length
def spT (ts:List TTri) (es:List TEdge) (v k:Int):Nat×Nat :=
 (A3z es (A2i v (A3h (ts.getD k.toNat A4p) v).1),A3z es (A2i v (A3h (ts.getD k.toNat A4p) v).2))
def A8e (ts:List TTri) (es:List TEdge) (v:Int):List Int->Int->Int
 | [],_=>-1
 |k::r,e=>if ((spT ts es v k).1:Int)=e then k else A8e ts es v r e
def B8j (ts:List TTri) (es:List TEdge) (v k:Int):Bool:=AU ((es.getD (spT ts es v k).1 A4o).left<0) || AU ((es.getD (spT ts es v k).1 A4o).right<0)
def B5l (ts:List TTri) (es:List TEdge) (v:Int) (l:List Int) (start:Int):Nat->Int->List Int->List Int->Option (List Int×List Int)
 |0,_,_,_=>I
 |f+1,k,tr,sp =>
  if A8e ts es v l (spT ts es v k).2<0 then QL (tr++[k],(sp++[((spT ts es v k).1:Int)])++[((spT ts es v k).2:Int)])
  else if A8e ts es v l (spT ts es v k).2=start then QL (tr++[k],sp++[((spT ts es v k).1:Int)])
  else B5l ts es v l start f (A8e ts es v l (spT ts es v k).2) (tr++[k]) (sp++[((spT ts es v k).1:Int)])
def E6a (ts:List TTri) (es:List TEdge) (v:Int) (l:List Int) (k:Int) (cl:Bool):TFan :=
 match B5l ts es v l k 49 k [] []with
 |some (tr,sp)=>⟨tr,sp,cl⟩
 |none=>⟨[],[],cl⟩
def A5s (ts:List TTri) (es:List TEdge) (v:Int) (l:List Int):Nat->List TFan
 |0=>[]
 |i+1=>if B8j ts es v (l.getD i 0)then A5s ts es v l i++[E6a ts es v l (l.getD i 0) AF]else A5s ts es v l i
def A8x (ts:List TTri) (v:Int):List TFan :=
 if A5s ts (P_ ts) v (A2d ts v) (A2d ts v).length=[]then [E6a ts (P_ ts) v (A2d ts v) ((A2d ts v).getD 0 0) AD]else A5s ts (P_ ts) v (A2d ts v) (A2d ts v).length
def D5b (ts:List TTri) (es:List TEdge) (v k:Int):Bool :=
 (AU (0<=k)&&AU (k<ts.length))&&(B6x (ts.getD k.toNat A4p) v&&(A6o es (A2i v (A3h (ts.getD k.toNat A4p) v).1)&&A6o es (A2i v (A3h (ts.getD k.toNat A4p) v).2)))
def fanOk (ts:List TTri) (v:Int):Bool :=
 !(A2d ts v).isEmpty&&((A2d ts v).all (D5b ts (P_ ts) v)&&(A2d ts v).all λk=>(B5l ts (P_ ts) v (A2d ts v) k 49 k [] []).isSome)
theorem B7u (ts:List TTri) (v:Int):∀ k,(A2u ts v k).length<=k
 |0=>BH _
 |k+1=>by unfold A2u;have:=B7u ts v k;split<;>(try rw[EF])<;>simp<;>omega
theorem D8l {ts:List TTri} {es:List TEdge} {v:Int} {l:List Int} {e:Int} {i:Nat} {k:Int} (h:l[i]?=QL k) :
  A8e ts es v (l.drop i) e=if ((spT ts es v k).1:Int)=e then k else A8e ts es v (l.drop (i+1)) e:=by
 obtain⟨b,rfl⟩:=CQ.1 h;rw[JX b,A8e]
theorem D0a {ts:List TTri} {es:List TEdge} {v e:Int}:∀ {l:List Int},0<=A8e ts es v l e->A8e ts es v l e∈l
 | [],h=>by simp[A8e]at h
 |k::r,h=>by
  unfold A8e at h ⊢
  split
  ·exact List.mem_cons_self
  rename_i hn;rw[if_neg hn]at h;exact List.mem_cons_of_mem _ (D0a h)
end Go.Proofs.YtbkilakncnlebaaGreatDoor.X
