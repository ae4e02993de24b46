/- A part of the proof. -/
import Derived.Test.YtjcanieccnljfaaGreatY12
import Derived.Laws.CopyRow
import Derived.Laws.CopyOwn
import Derived.Lib.AppendZeros
import Derived.Lib.Overlaps
import Derived.Lib.Walk
import Derived.Laws.Externs
import Derived.Laws.IdiomCopy
import Derived.Shelf.RegionOpenPlain
import Derived.Shelf.Spec.SlicesInsertGrow
set_option linter.constructorNameAsVariable false
set_option maxHeartbeats 16000000
set_option maxRecDepth 10000
open Bool renaming false→AH,true→AF
open Decidable renaming decide→BQ
open Go renaming Addr→AJ,Builtin→MH,Calls→BL,Program→FQ,TypeId→CV,Value→AU,World→AD,bodyPost_ret→CK,heap_alloc_new→DB,info_parts→FB,maxLen→BS,setRow_heap→PW
open Go.Builtin renaming copy_→OH
open Go.IntKind renaming i64→RD
open Go.Obj renaming cells→BG
open Go.RowKit renaming Below→FC,Hid→BI
open Go.RowKit.Below renaming refl→DI,trans→JK
open Go.Value renaming agg→BJ,bool→J,int→N,slice→S
open Go.World renaming cell?_of_block→JY
open Go.World.ownsRow renaming lt→FG
open Go.XB.Below renaming box→BP,next→BH
open List renaming append_assoc→GG,dropLast→DN,drop_eq_getElem_cons→MA,drop_succ_cons→GU,flatMap_cons→MB,getD→JG,getElem?_eq_some_iff→DM,getElem?_take→JM,getLast→DO,length→DQ,length_append→GQ,length_drop→QD,length_take→JO,mem_iff_getElem?→KE,mem_of_getElem?→DH,mem_of_mem_drop→QT,mem_range→JW,take_append_of_le_length→LN,take_of_length_le→DT,take_succ_cons→GT
open Nat renaming le_refl→CE,lt_or_ge→CG,lt_succ_self→ME,zero_le→EO
open Option renaming none→I,some→QZ
namespace Go
section
variable {P:FQ}
theorem C7v (w:AD) (u aa ty elem:CV) (k g o dLen dCap:Nat) (a:AJ) (sLen sCap:Nat) (b:Array AU) (t:CV) (cs:List AU)
  (Z:P.underlying u=QZ (.slice elem)) (D:(P.info? elem).map (·.size)=QZ k)
  (H:w.1[g]?=QZ (BG b t (0,0))) (W:cs.length=Nat.min sLen dLen*k)
  (X:∀ j v,cs[j]?=QZ v->w.cell? (a.add j)=QZ v) (G:o+cs.length<=b.size) (E:∀ v∈cs,v.oneCell'=AF) :
  (OH #[u,aa] ty #[S (QZ ⟨g,o,I⟩) dLen dCap,S (QZ a) sLen sCap]).run P w =
   .ok (goInt (Nat.min sLen dLen)) (w.setRow g (b.toList.take o++cs++b.toList.drop (o+cs.length)).toArray):=by
 have T:=run_loadCells_list (P:=P) w a cs X;have Y:=run_storeCells_at P g o t cs 0 b w H (by simpa using G) E;cases h:P.info? elem with
 |none=>simp[h]at D
 |some i =>
  have O:i.size=k:=by simpa[h]using D
  simp[OH,run_underlying Z,MH.lenOf,MH.firstCells,sizeOf,typeInfo,h,O,<-W,T,Y]
end
def A8g (l:List AU) (o:Nat) (cs:List AU):List AU:=l.take o++cs++l.drop (o+cs.length)
theorem A8b {l cs:List AU} {o:Nat} (h:o+cs.length<=l.length):(A8g l o cs).length=l.length:=by
 unfold A8g;simp;omega
theorem E4u {l xs ys:List AU} {a:Nat} (h:a+xs.length+ys.length<=l.length):(A8g (A8g l a xs) (a+xs.length) ys).take (a+xs.length+ys.length)=l.take a++xs++ys:=by
 have u:(l.take a).length=a:=oR;have b:(A8g l a xs).take (a+xs.length)=l.take a++xs:=by unfold A8g;rw[LN oR];rw[DT oR]
 unfold A8g at b ⊢;rw[b,LN oR];rw[DT oR]
theorem E2e {l xs ys:List AU} {a:Nat} (h:a+xs.length+ys.length<=l.length):(A8g (A8g l (a+xs.length) ys) a xs).take (a+xs.length+ys.length)=l.take a++xs++ys:=by
 have b:(A8g l (a+xs.length) ys).take a=l.take a:=by unfold A8g;rw[GG,LN oR,List.take_take];congr 1;omega
 have u:(A8g l (a+xs.length) ys).drop (a+xs.length)=ys++l.drop (a+xs.length+ys.length):=by unfold A8g;rw[GG,List.drop_append_of_le_length oR,List.drop_take];simp
 show(List.take a (A8g l (a+xs.length) ys)++xs++List.drop (a+xs.length) (A8g l (a+xs.length) ys)).take _=_;rw[b,u,<-GG];rw[LN oR];rw[DT oR]
theorem B4z (w:AD) (g:Nat) (cs:Array AU):w.grownBy (w.setRow g cs) (QZ g) :=
 ⟨rfl,rfl,rfl,sI,λk _ hk=>setRow_other w g k cs (λe=>hk (by rw[e]))⟩
end Go
namespace Go.Proofs.YtjcanieccnljfaaGreat.X
open Go.RowKit Go.XB Go.XN Go.Lib Go.Shelf Proofs.Tryz
attribute [local go_sem] L_ opAt N_ M_ Region.wanted yielded
attribute [local simp] N_ M_ MP.eq MP.agg MP.sl A0r
theorem D2l:(prog.info? 65).map (λi=>(i.zero,i.size,i.bytes))=QZ (QZ (BJ #[N RD 0,N RD 0,N RD 0,N RD 0]),4,32):=kR

def B9o (w:AD) (base g n i:Nat) (cells xs:List AU) (e:Ending) (w':AD):Prop :=
 ∃ g' cap',e=.returned (S (QZ ⟨g',0,I⟩) (n+1) cap')/\w'.ownsRow base 65 4 (S (QZ ⟨g',0,I⟩) (n+1) cap') (n+1) (cells.take (i*4)++xs++cells.drop (i*4))/\w.grownBy w' (QZ g)/\(g'=g\/w.1.size<=g')

set_option maxRecDepth 100000 in
theorem D8h (base g n cap u:Nat) (cells xs:List AU) (w:AD) (h:w.ownsRow base 65 4 (S (QZ ⟨g,0,I⟩) n cap) n cells) (W:base<=w.1.size) (ao:n<=65536)
  (ad:w.1[u]?=QZ (BG xs.toArray 65)) (af:xs.length=4) (H:∀ v∈xs,v.oneCell'=AF) :
  BL prog 74 #[S (QZ ⟨g,0,I⟩) n cap,N RD n,S (QZ ⟨u,0,I⟩) 1 1] w (B9o w base g n n cells xs):=by
 obtain⟨aj,Y,ag,ah,ai⟩:=FB D2l;have an:cells.length=n*4:=h.1;have b:n<=cap/\cap<=BS:=by
  rcases h.2 with⟨G,_⟩|⟨g',D,al,ae,_,_,O,T,_⟩;·cases G
  cases ae;exact⟨O,T⟩
 have Z:=b.2;unfold BS at Z;have am:(n:Int)<=cap:=oS;have ap:(n:Int)<=65536:=oS;have aa:=A0a ad;have E:=A_ h;have ak:=A_ b;clear h b;go_enter func74,ntmps74;go_wp2_with (at_builtin;refine A1m rfl _ _ 62 rfl base 65 aj _ 4 32 underlying62 Y ag ah ai rfl dE g n cap cells rfl E.o ⟨u,0,I⟩ 1 1 xs rfl (by rw[af]) aa H (by unfold BS;omega) oS W ?_;intro g' D w' ac X ab);all_goals refine CK (results_tmp rfl _ _ _) rfl ?_;refine⟨g',D,rfl,?_,X,ab.imp id (λe=>oS)⟩;rw[DT oS,List.drop_eq_nil_of_le oS,List.append_nil];exact ac

theorem A8a {P:FQ} {w:AD} {k g o dLen dCap sLen sCap:Nat} {a:AJ} {T E ty:CV} {cur:Array AU} {cs:List AU} (hu:P.underlying T=QZ (.slice E)) (hs:(P.info? E).map (·.size)=QZ k)
  (hg:w.1[g]?=QZ (BG cur E (0,0))) (hn:cs.length=Nat.min sLen dLen*k) (hsrc:∀ j v,cs[j]?=QZ v->w.cell? (a.add j)=QZ v) (hfit:o+cs.length<=cur.size) (h1:∀ v∈cs,v.oneCell'=AF) :
  (OH #[T,T] ty #[S (QZ ⟨g,o,I⟩) dLen dCap,S (QZ a) sLen sCap]).run P w=.ok (goInt (Nat.min sLen dLen)) (w.setRow g (A8g cur.toList o cs).toArray) :=
 C7v w T T ty E k g o dLen dCap a sLen sCap cur E cs hu hs hg hn hsrc hfit h1
theorem C0n {w:AD} {g:Nat} {b:Array AU} {t:CV} (h:w.1[g]?=QZ (BG b t (0,0))) (o:Nat):∀ j v,(b.toList.drop o)[j]?=QZ v->w.cell? ((⟨g,o,I⟩:AJ).add j)=QZ v:=by
 intro j v u;have e:(⟨g,o,I⟩:AJ).add j=⟨g,o+j,I⟩:=by unfold AJ.add;split<;>simp_all
 rw[e];have:b[o+j]?=QZ v:=by simpa using u
 simp[AD.cell?,h,this]

set_option maxRecDepth 100000 in
theorem D2j (base g n cap G i:Nat) (cells xs:List AU) (w:AD) (h:w.ownsRow base 65 4 (S (QZ ⟨g,0,I⟩) n cap) n cells) (a5:n<=65536) (hi:i<n) (aP:n+1<=cap)
  (W:w.1[G]?=QZ (BG xs.toArray 65)) (aa:xs.length=4) (aB:∀ v∈xs,v.oneCell'=AF) (aC:∀ v∈cells,v.oneCell'=AF) (au:G≠g) :
  BL prog 74 #[S (QZ ⟨g,0,I⟩) n cap,N RD i,S (QZ ⟨G,0,I⟩) 1 1] w (B9o w base g n i cells xs):=by
 obtain⟨ba,aJ,a8,aS,a9⟩:=FB D2l;have aF:cells.length=n*4:=h.1;obtain⟨b,aD,ag,aM,an,Y,aj⟩:∃ b,base<=g/\w.1[g]?=QZ (BG b 65 (0,0))/\n<=cap/\cap<=BS/\b.size=cap*4/\b.toList.take (n*4)=cells:=by
  rcases h.2 with⟨aA,_⟩|⟨g',aZ,b,aR,k1,k2,aT,aU,aV,aW⟩;·cases aA
  cases aR;exact⟨b,k1,k2,aT,aU,aV,aW⟩
 have aL:=an;unfold BS at aL;have ar:(prog.info? 65).map (·.size)=QZ 4:=by rw[aJ];simp[aS]
 have af:b.toList.length=cap*4:=by simp[Y]
 obtain⟨E,ab⟩:∃ E,E=A8g b.toList ((i+1)*4) (cells.drop (i*4)):=⟨_,rfl⟩
 have Z:(cells.drop (i*4)).length=(n - i)*4:=by rw[QD,aF,<-Nat.sub_mul]
 have ae:E.length=cap*4:=by rw[ab,A8b (by rw[Z,af];omega),af]
 have aH:∀ (j:Nat) (v:AU),(cells.drop (i*4))[j]?=QZ v->(b.toList.drop (i*4))[j]?=QZ v:=by
  intro j v X;rw[<-aj,List.drop_take,JM]at X;split at X;·exact X
  cases X
 have ao:∀ (D:AD),D.1[g]?=QZ (BG b 65 (0,0))->∀ u H O,(OH #[62,62] u #[S (QZ ⟨g,(i+1)*4,I⟩) (n+1 - (i+1)) H,S (QZ ⟨g,i*4,I⟩) (n+1 - i) O]).run prog D=.ok (goInt (n - i:Nat)) (D.setRow g E.toArray):=λD am u H O=>by
  have e:Nat.min (n+1 - i) (n+1 - (i+1))=n - i:=by simp only[Nat.min_def];split<;>omega
  have:=A8a (P:=prog) (w:=D) (k:=4) (g:=g) (o:=(i+1)*4) (dLen:=n+1 - (i+1)) (dCap:=H) (sLen:=n+1 - i) (sCap:=O) (a:=⟨g,i*4,I⟩) (ty:=u) underlying62 ar am (cs:=cells.drop (i*4)) (by rw[e];exact Z)
   (λj v X=>C0n am _ j v (aH j v X)) (by rw[Z,Y];omega) (λv W=>aC v (QT W))
  rw[e]at this;rw[ab];exact this
 have ap:∀ (D:AD),D.1[g]?=QZ (BG E.toArray 65 (0,0))->D.1[G]?=QZ (BG xs.toArray 65)->∀ u H O,(OH #[62,62] u #[S (QZ ⟨g,i*4,I⟩) (n+1 - i) H,S (QZ ⟨G,0,I⟩) 1 O]).run prog D=.ok (goInt (1:Nat)) (D.setRow g (A8g E (i*4) xs).toArray):=λD aI aQ u H O=>by
  have e:Nat.min 1 (n+1 - i)=1:=by simp only[Nat.min_def];split<;>omega
  have:=A8a (P:=prog) (w:=D) (k:=4) (g:=g) (o:=i*4) (dLen:=n+1 - i) (dCap:=H) (sLen:=1) (sCap:=O) (a:=⟨G,0,I⟩) (ty:=u) underlying62 ar aI (cs:=xs) (by rw[e];omega)
   (A0a aQ) (by rw[aa];show _<=E.length;rw[ae];omega) aB
  rw[e]at this;simpa using this
 have aN:∀ al ac,(callFunc 142 #[S (QZ ⟨G,0,I⟩) 1 1,S (QZ ⟨g,(i+1)*4,I⟩) al ac]).run prog w=.ok (.value (J AH)) w:=λal ac=>by
  rw[run_callFunc_extern func142 kR kR kR (e:=Extern.SlicesOverlaps.overlaps #[62,62] #[4]) kR,
   Lib.run_overlaps_apart w 62 4 65 underlying62 4 Tryz.sizeOf65 ⟨G,0,I⟩ ⟨g,(i+1)*4,I⟩ 1 1 al ac au 65 65 4 (cap*4) (by simp[AD.shape?,W,aa]) (by simp[AD.shape?,ag,Y]) oS (by simp[World.frozen?,W]) (by simp[World.frozen?,W])]
  rfl
 have a1:¬ (cap=i+1):=oS;have a2:¬ (cap=i):=oS;have a3:(n:Int)+1<=cap:=oS;have a4:(i:Int)<n:=oS;have a6:(n:Int)<=65536:=oS;have ax:=A_ ab;have az:=A_ aj;have aX:=A_ Y;clear h aM aj Y ab;go_enter func74,ntmps74;go_wp2_with fail;refine X_ sI ?_;dsimp only[DN,DO,DQ];iterate 8 refine C_ _ ?_
 intro bc bd wa T aq (aG:BI _);simp at aq;have ah:wa.1[g]?=QZ (BG b 65 (0,0)):=by rw[T.block g (E_ ag)];exact ag
 have ak:wa.1[G]?=QZ (BG xs.toArray 65):=by rw[T.block G (E_ W)];exact W
 have ai:(wa.setRow g E.toArray).1[g]?=QZ (BG E.toArray 65 (0,0)):=PW wa g b _ _ _ ah;have aw:(wa.setRow g E.toArray).1[G]?=QZ (BG xs.toArray 65):=by rw[setRow_other wa g G _ au];exact ak
 have aO:=λu H O=>ao wa ah u H O;rw[show n+1 - (i+1)=n - i by omega]at aO;have a7:=λu H O=>ap _ ai aw u H O;have ay:=A_ ai;have aY:=A_ ak;clear ah ak aN ao ap ai aw;go_simp;clear aq aG;go_wp2;refine CK (results_tmp rfl _ _ _) rfl ?_;have aE:(A8g E (i*4) xs).length=cap*4:=by rw[A8b (by rw[ae,aa];omega),ae]
 refine⟨g,cap,rfl,⟨?_,.inr ⟨g,cap,(A8g E (i*4) xs).toArray,rfl,aD,PW _ g _ _ _ _ ay.o,aP,an,by simpa using aE,?_⟩⟩,?_,.inl rfl⟩;·simp only[GQ,JO,QD];omega
 ·have ad:=E2e (l:=b.toList) (xs:=xs) (ys:=cells.drop (i*4)) (a:=i*4) (by rw[Z,aa,af];omega);rw[aa,Z]at ad;rw[show i*4+4=(i+1)*4 by omega,<-ax.o,show(i+1)*4+(n - i)*4=(n+1)*4 by omega]at ad;rw[ad,<-az.o,List.take_take,Nat.min_eq_left oS]
 exact(AD.grownBy.trans ⟨T.os,T.tape,T.output,T.size,λk aK _=>T.block k aK⟩ (B4z wa g _)).trans (B4z _ g _)

set_option maxRecDepth 100000 in
theorem D4r (base g n cap X i:Nat) (cells xs:List AU) (w:AD) (h:w.ownsRow base 65 4 (S (QZ ⟨g,0,I⟩) n cap) n cells) (a8:base<=w.1.size) (bH:n<=65536) (hi:i<n) (bh:cap<n+1)
  (ai:w.1[X]?=QZ (BG xs.toArray 65)) (aj:xs.length=4) (a4:∀ v∈xs,v.oneCell'=AF) (a5:∀ v∈cells,v.oneCell'=AF) :
  BL prog 74 #[S (QZ ⟨g,0,I⟩) n cap,N RD i,S (QZ ⟨X,0,I⟩) 1 1] w (B9o w base g n i cells xs):=by
 obtain⟨aR,aM,bl,au,aQ⟩:=FB D2l;have ba:cells.length=n*4:=h.1;obtain⟨T,bA,aK,bJ,bc,aI,ar⟩:∃ T,base<=g/\w.1[g]?=QZ (BG T 65 (0,0))/\n<=cap/\cap<=BS/\T.size=cap*4/\T.toList.take (n*4)=cells:=by
  rcases h.2 with⟨a3,_⟩|⟨g',br,T,bk,k1,k2,bm,bn,bo,bp⟩;·cases a3
  cases bk;exact⟨T,k1,k2,bm,bn,bo,bp⟩
 have bg:=bc;unfold BS at bg;have aP:(prog.info? 65).map (·.size)=QZ 4:=by rw[aM];simp[au]
 have bF:T.toList.length=cap*4:=by simp[aI]
 have aF:∀ j v,cells[j]?=QZ v->w.cell? ((⟨g,0,I⟩:AJ).add j)=QZ v:=h.cells (g:=g) rfl;have aN:(MH.firstCells aR.size i (S (QZ ⟨g,0,I⟩) i cap)).run prog w.drew=.ok (cells.take (i*4)).toArray w.drew:=by
  rw[au]
  exact run_firstCells_some w.drew 4 i ⟨g,0,I⟩ i cap (cells.take (i*4)) (by rw[JO];omega) (λj v W=>by
   rw[JM]at W;split at W;·exact aF j v W
   cases W)
 have aE:(n:Int)+1 - (i:Int)=((n+1 - i:Nat):Int):=oS;have ap:i+(n+1 - i)=n+1:=oS;obtain⟨u,ac⟩:∃ u,u=grownCap w (n+1) cap 65:=⟨_,rfl⟩
 obtain⟨E,ad⟩:∃ E:Array AU,E=(cells.take (i*4)).toArray++MH.zeroCells (AU.agg #[N RD 0,N RD 0,N RD 0,N RD 0]).cells (n+1 - i)++MH.zeroCells (AU.agg #[N RD 0,N RD 0,N RD 0,N RD 0]).cells (u - (n+1)):=⟨_,rfl⟩
 have aO:∀ b,(MH.append_ #[62,3] b #[S (QZ ⟨g,0,I⟩) i cap,N RD ((n:Int)+1 - (i:Int))]).run prog w =
   .ok (S (QZ ⟨w.1.size,0,I⟩) (n+1) u) (w.drew.alloc (BG E 65)):=λb=>by
  have h:=Lib.run_append_grow_zeros w 62 3 b 65 aR _ RD RD underlying62 underlying3 aM bl (QZ ⟨g,0,I⟩) i cap (cells.take (i*4)) aN (n+1 - i) oS (by rw[au];decide) oS oS (by rw[aQ];omega) (by rw[aQ,ap];exact growslice_fits bh oS)
  rw[ap]at h
  rw[aE,ad,ac]
  exact h
 have a7:n+1<=u:=by rw[ac];exact grownCap_ge w _ _ _
 have ay:u<=BS:=by rw[ac];exact grownCap_le_maxLen w (n+1) cap _ (by unfold BS;omega)
 have ae:E.toList.length=u*4:=by rw[ad];simp[MH.zeroCells,Value.cells];omega
 have az:E.toList.take (i*4)=cells.take (i*4):=by rw[ad];rw[Array.append_assoc,Array.toList_append,LN oR];rw[show((cells.take (i*4)).toArray).toList=cells.take (i*4)from rfl,List.take_take,Nat.min_self]
 obtain⟨Y,ag⟩:∃ Y,Y=w.drew.alloc (BG E 65):=⟨_,rfl⟩
 have bf:g<w.1.size:=E_ aK;have bj:X<w.1.size:=E_ ai;have am:Y.1[w.1.size]?=QZ (BG E 65 (0,0)):=by rw[ag];exact DB w.drew _
 have an:∀ k,k<w.1.size->Y.1[k]?=w.1[k]?:=λk ab=>by rw[ag];exact Below.heap_alloc w.drew _ k ab
 have aA:Bw w Y:=by rw[ag];exact⟨rfl,rfl,rfl,sI,λk ab=>Below.heap_alloc w.drew _ k ab⟩
 obtain⟨D,ah⟩:∃ D,D=A8g E.toList (i*4) xs:=⟨_,rfl⟩
 have ao:D.length=u*4:=by rw[ah,A8b (by rw[aj,ae];omega),ae]
 have aa:(cells.drop (i*4)).length=(n - i)*4:=by rw[QD,ba,<-Nat.sub_mul]
 have aG:∀ (G:AD),G.1=Y.1->∀ b H O,(OH #[62,62] b #[S (QZ ⟨w.1.size,i*4,I⟩) (n+1 - i) H,S (QZ ⟨X,0,I⟩) 1 O]).run prog G=.ok (goInt (1:Nat)) (G.setRow w.1.size D.toArray):=λG af b H O=>by
  have e:Nat.min 1 (n+1 - i)=1:=by simp only[Nat.min_def];split<;>omega
  have bi:G.1[X]?=QZ (BG xs.toArray 65):=by rw[af,an X bj];exact ai
  have:=A8a (P:=prog) (w:=G) (k:=4) (g:=w.1.size) (o:=i*4) (dLen:=n+1 - i) (dCap:=H) (sLen:=1) (sCap:=O) (a:=⟨X,0,I⟩) (ty:=b) underlying62 aP (by rw[af];exact am) (cs:=xs) (by rw[e];omega)
   (A0a bi) (by rw[aj,<-Array.length_toList,ae];omega) a4
  rw[e]at this;rw[ah];exact this
 have aH:∀ (G:AD),G.1[w.1.size]?=QZ (BG D.toArray 65 (0,0))->G.1[g]?=QZ (BG T 65 (0,0))->∀ b H O,(OH #[62,62] b #[S (QZ ⟨w.1.size,(i+1)*4,I⟩) (n - i) H,S (QZ ⟨g,i*4,I⟩) (n - i) O]).run prog G=.ok (goInt (n - i:Nat)) (G.setRow w.1.size (A8g D ((i+1)*4) (cells.drop (i*4))).toArray):=λG af be b H O=>by
  have e:Nat.min (n - i) (n - i)=n - i:=sI
  have:=A8a (P:=prog) (w:=G) (k:=4) (g:=w.1.size) (o:=(i+1)*4) (dLen:=n - i) (dCap:=H) (sLen:=n - i) (sCap:=O) (a:=⟨g,i*4,I⟩) (ty:=b) underlying62 aP af (cs:=cells.drop (i*4)) (by rw[e];exact aa)
   (λj v W=>C0n be _ j v (by
    rw[<-ar,List.drop_take,JM]at W;split at W;·exact W
    cases W)) (by rw[aa];show _<=D.length;rw[ao];omega) (λv ai=>a5 v (QT ai))
  rw[e]at this;simpa using this
 have bG:(i:Int)<n:=oS;have bI:(n:Int)<=65536:=oS;have bD:(cap:Int)<(n:Int)+1:=oS;have bB:(n:Int)<=cap:=oS;have bu:¬ (u=i):=oS;have bv:¬ (u=i+1):=oS;have bE:¬ (cap=i):=oS;have bt:(u:Int)<=9223372036854775807:=by unfold BS at ay;omega
 have bz:(n:Int)+1<=u:=oS;have aT:=A_ ah;have bq:=A_ ar;have aW:=A_ az;subst ag;have aZ:=A_ am;have a1:=A_ an;have aY:=A_ aA;clear am an aA;have aX:=A_ aO;have aU:=A_ aG;clear aE ap aN ad ac aF ah ar az aI aO aG;have a6:=λb H O=>aU (w.alloc (BG E 65)).drew rfl b H O;have aD:((w.alloc (BG E 65)).drew.setRow w.1.size D.toArray).1[w.1.size]?=QZ (BG D.toArray 65 (0,0)):=PW _ _ E _ _ _ aZ;have aC:((w.alloc (BG E 65)).drew.setRow w.1.size D.toArray).1[g]?=QZ (BG T 65 (0,0)):=by rw[setRow_other _ _ g _ oS];exact(a1 g bf).trans aK
 have aB:Bw w ((w.alloc (BG E 65)).drew.setRow w.1.size D.toArray):=below_setRow aY (CE _) _;have ax:=A_ aD;have aw:=A_ aC;have a2:=A_ aB;have aS:=A_ aH;clear aD aC aB aH;go_enter func74,ntmps74;go_wp2_with (at_builtin;refine Lib.wpList_append_run _ rfl _ _ _ _ rfl _ _ rfl rfl _ _ (aX _) ?_);refine X_ sI ?_;dsimp only[DN,DO,DQ];iterate 8 refine C_ _ ?_
 intro bL bM wa al aJ (bd:BI _);simp at aJ;have aq:wa.1[w.1.size]?=QZ (BG D.toArray 65 (0,0)):=by rw[al.block _ (E_ ax.o)];exact ax
 have aL:wa.1[g]?=QZ (BG T 65 (0,0)):=by rw[al.block g (E_ aw.o)];exact aw
 have bK:=λb H O=>aS wa aq aL b H O;have aV:=A_ aq;clear aq aL a6;go_simp;clear aJ bd;go_wp2;refine CK (results_tmp rfl _ _ _) rfl ?_;have a9:(A8g D ((i+1)*4) (cells.drop (i*4))).length=u*4:=by rw[A8b (by rw[ao,aa];omega),ao]
 refine⟨w.1.size,u,rfl,⟨?_,.inr ⟨w.1.size,u,(A8g D ((i+1)*4) (cells.drop (i*4))).toArray,rfl,a8,PW _ _ _ _ _ _ aV.o,a7,ay,by simpa using a9,?_⟩⟩,?_,.inr (CE _)⟩;·simp only[GQ,JO,QD];omega
 ·have ak:=E4u (l:=E.toList) (xs:=xs) (ys:=cells.drop (i*4)) (a:=i*4) (by rw[aa,aj,ae];omega);rw[aj,aa,<-aT.o]at ak;rw[show i*4+4=(i+1)*4 by omega,show(i+1)*4+(n - i)*4=(n+1)*4 by omega,aW.o]at ak;exact ak
 have Z:Bw w (wa.setRow w.1.size (A8g D ((i+1)*4) (cells.drop (i*4))).toArray):=below_setRow (BH a2 al) (CE _) _;exact⟨Z.os,Z.tape,Z.output,Z.size,λk ab _=>Z.block k ab⟩
end Go.Proofs.YtjcanieccnljfaaGreat.X

namespace Go.XB
open Go.RowKit
def MP.slc (n:Nat) (cs:Array AU) (t:CV):MP:=⟨λv bs w=>∃ g,v=S (QZ ⟨g,0,I⟩) n n/\bs=[g]/\w.1[g]?=QZ (BG cs t),λv bs w w' hb h=>by
 obtain⟨g,e,hz,hg⟩:=h;exact⟨g,e,hz,(hb.block g (E_ hg)).trans hg⟩⟩
section
variable {P:FQ} {l:List Oper} {a0:Act}
theorem E1g {w0:AD} {F:List DP->Prop} {o:Oper} {D:List Oper} {b:List DP} (n:Nat) (cs:Array AU) (t:CV)
  (h:∀ (y:Nat->AU) (z:Nat->List Nat) (w:AD),Bw w0 w->(∀ k∈N_ o,(b.getD k (λ_=>MP.eq undef) y).p (y k) (z k) w) ->
   Region.wanted o (yielded l.toArray (L_ l y a0 (N_ o)).tmps)=AF/\(execOp (L_ l y a0 (N_ o)).eval o).run P w=.ok (.value (S (QZ ⟨w.1.size,0,I⟩) n n)) (w.alloc (BG cs t)))
  (T:A4c P l w0 a0 F D (b++[λ_=>MP.slc n cs t])):A4c P l w0 a0 F (o::D) b:=by
 refine⟨λ_=>MP.slc n cs t,Cong.const _ _,λy z w H O=>?_,T⟩;obtain⟨E,G⟩:=h y z w H O;rw[if_pos E];unfold B2b;rw[G];refine⟨(DI _ _).alloc (CE _) _,[w.1.size],⟨w.1.size,rfl,rfl,by show(w.1.push _)[w.1.size]?=_;simp⟩,λW u=>?_⟩;simp at u;subst u;simp
end
end Go.XB
namespace Go.XN
open Go.XB
def C3n (a b:TEdge):Int:=if a.a≠b.a then sgn (a.a - b.a)else sgn (a.b - b.b)
def A4o:TEdge:=⟨0,0,0,0⟩
def A5i (es:List TEdge) (e:TEdge):Nat->Nat->Nat->Nat
 |0,i,_=>i
 |f+1,i,j=>if i<j then(if C3n (es.getD ((i+j) / 2) A4o) e<0 then A5i es e f ((i+j) / 2+1) j else A5i es e f i ((i+j) / 2))else i
def A3z (es:List TEdge) (e:TEdge):Nat:=A5i es e es.length 0 es.length
def A6o (es:List TEdge) (e:TEdge):Bool:=BQ (A3z es e<es.length)&&BQ (C3n (es.getD (A3z es e) A4o) e=0)
end Go.XN
namespace Go.Proofs.YtjcanieccnljfaaGreat.X
open Go.RowKit Go.XB Go.XN Proofs.Tryz
attribute [local go_sem] L_ opAt N_ M_ Region.wanted yielded
attribute [local simp] N_ M_ MP.eq MP.agg MP.sl MP.slc A0r
theorem C0w (es:List TEdge) (e:TEdge):∀ (f i j:Nat),i<=j->A5i es e f i j<=j
 |0,i,j,h=>h
 |f+1,i,j,h=>by
  unfold A5i
  split
  ·split
   ·exact C0w es e f _ j oS
   exact Nat.le_trans (C0w es e f i _ oS) oS
  exact h
theorem A9n (es:List TEdge) (e:TEdge):∀ (f g i j:Nat),j<=i+f->j<=i+g->A5i es e f i j=A5i es e g i j
 |0,0,i,j,_,_=>rfl
 |0,g+1,i,j,h,_=>by unfold A5i;rw[if_neg oS]
 |f+1,0,i,j,_,h=>by unfold A5i;rw[if_neg oS]
 |f+1,g+1,i,j,h1,h2=>by
  unfold A5i
  split
  ·split
   ·exact A9n es e f g _ j oS oS
   exact A9n es e f g i _ oS oS
  rfl
theorem D4i {es:List TEdge} {e x:TEdge} {i j h r:Nat} (G:∀ f,j<=i+f->A5i es e f i j=r) (E:i<j) (hh:h=(i+j) / 2) (H:es[h]?=QZ x) (u:C3n x e<0):∀ f,j<=h+1+f->A5i es e f (h+1) j=r:=by
 intro f D;have b:=G (j+1) oS;unfold A5i at b;rw[if_pos E,<-hh,show es.getD h A4o=x by simp[JG,H],if_pos u]at b;rw[A9n es e f j (h+1) j D oS,b]
theorem D4w {es:List TEdge} {e x:TEdge} {i j h r:Nat} (G:∀ f,j<=i+f->A5i es e f i j=r) (E:i<j) (hh:h=(i+j) / 2) (H:es[h]?=QZ x) (u:¬ C3n x e<0):∀ f,h<=i+f->A5i es e f i h=r:=by
 intro f D;have b:=G (j+1) oS;unfold A5i at b;rw[if_pos E,<-hh,show es.getD h A4o=x by simp[JG,H],if_neg u]at b;rw[A9n es e f j i h D oS,b]
theorem D8b {es:List TEdge} {e:TEdge} {i j r:Nat} (b:∀ f,j<=i+f->A5i es e f i j=r) (h:i=j):i=r:=by
 have:=b 0 oS;exact this
theorem D9w (es:List TEdge) (e:TEdge):A3z es e<=es.length:=C0w es e _ 0 _ (EO _)

theorem E6p (g:Nat) (a b:Int) (w:AD) (h:w.1[g]?=QZ (BG #[N RD a,N RD b] 3)) :
  BL prog 140 #[S (QZ ⟨g,0,I⟩) 2 2] w (A0b w (N RD (if a≠0 then a else b))):=by
 have H:w.cell? ⟨g,0,I⟩=QZ (N RD a):=(B_ h rfl).1;have O:w.cell? ⟨g,1,I⟩=QZ (N RD b):=(B_ h rfl).1;clear h;by_cases D:a=0
 ·subst D
  by_cases E:b=0
  ·subst E
   go_enter func140,ntmps140;go_wp2_with fail;go_loopg [8] 2 (λg s wr=>∃ k:Nat,k+g=2/\s=N RD k/\wr=w);case atStart=>exact⟨0,rfl,rfl,rfl⟩
   case round =>
    obtain⟨k,u,rfl,rfl⟩:=hrel;obtain rfl|rfl|rfl:k=0\/k=1\/k=2:=oS
    ·obtain rfl:gk=1+1:=oS
     clear u;go_wp2_with fail;go_roundg 1;case measure=>omega
     case rel=>exact⟨1,rfl,rfl,rfl⟩
    ·obtain rfl:gk=0+1:=oS
     clear u;go_wp2_with fail;go_roundg 0;case measure=>omega
     case rel=>exact⟨2,rfl,rfl,rfl⟩
    clear u;go_wp2;go_ret;exact⟨rfl,DI _ _⟩
  have W:(b==0)=AH:=by simp[E]
  go_enter func140,ntmps140;go_wp2_with fail;go_loopg [8] 2 (λg s wr=>∃ k:Nat,k+g=2/\k<=1/\s=N RD k/\wr=w);case atStart=>exact⟨0,rfl,oS,rfl,rfl⟩
  case round =>
   obtain⟨k,u,G,rfl,rfl⟩:=hrel;obtain rfl|rfl:k=0\/k=1:=oS
   ·obtain rfl:gk=1+1:=oS
    clear u G;go_wp2_with fail;go_roundg 1;case measure=>omega
    case rel=>exact⟨1,rfl,oS,rfl,rfl⟩
   clear u G;go_wp2;go_ret;exact⟨sI,DI _ _⟩
 have T:(a==0)=AH:=by simp[D]
 go_enter func140,ntmps140;go_wp2_with fail;go_loopg [8] 2 (λg s wr=>g=2/\s=N RD 0/\wr=w);case atStart=>exact⟨rfl,rfl,rfl⟩
 case round =>obtain⟨_,rfl,rfl⟩:=hrel;go_wp2;go_ret;exact⟨sI,DI _ _⟩

theorem sgn_ne {a:Int}:sgn a≠0↔a≠0:=by unfold sgn;split<;>(try split)<;>omega
theorem A8t (v1 v2:AU) (a b:TEdge) (b1 b2:List Nat) (w:AD) (Y:Agg w v1 a b1) (Z:Agg w v2 b b2) :
  BL prog 73 #[v1,v2] w (A0b w (N RD (C3n a b))):=by
 obtain⟨rfl,_,_,_,_,_⟩:=TEdge.agg Y;obtain⟨rfl,_,_,_,_,_⟩:=TEdge.agg Z;have T:=A_ (show(if sgn (a.a - b.a)≠0 then sgn (a.a - b.a)else sgn (a.b - b.b))=C3n a b by
  unfold C3n;by_cases H:a.a=b.a;·rw[if_neg (by rw[H];simp[sgn]),if_neg (by simp[H])]
  rw[if_pos (sgn_ne.2 oS),if_pos H])
 obtain⟨r,O⟩:∃ r,(if sgn (a.a - b.a)≠0 then sgn (a.a - b.a)else sgn (a.b - b.b))=r:=⟨_,rfl⟩
 have R:=A_ O;rw[O]at T;clear Y Z O;go_enter func73,ntmps73;go_wp2_with fail;refine X_ sI ?_;dsimp only[DN,DO,DQ];iterate 4 refine C_ _ ?_
 refine D_ (MP.eq (N RD (sgn (a.a - b.a)))) ?_ ?_;·intro E G D u h;obtain⟨W,X⟩:=F_ u;simp at h;refine G_ ?_;exact A0i (B2k _ _ _)
 iterate 4 refine C_ _ ?_
 refine D_ (MP.eq (N RD (sgn (a.b - b.b)))) ?_ ?_;·intro E G D u h;obtain⟨W,X⟩:=F_ u;simp at h;refine G_ ?_;exact A0i (B2k _ _ _)
 refine E1g 2 #[N RD (sgn (a.a - b.a)),N RD (sgn (a.b - b.b))] 3 ?_ ?_;·intro E G D u h;simp at h;refine⟨gD,?_⟩;go_simp
 refine D_ (MP.eq (N RD r)) ?_ ?_;·intro E G D u h;obtain⟨W,X⟩:=F_ u;simp at h;obtain⟨⟨g,e,ac,aa⟩,_⟩:=h;refine G_ ?_;exact A0i (by have C:=E6p g _ _ D aa;rw[R.o]at C;exact C)
 intro E G wa u h (ab:BI _);simp at h;go_simp;go_wp2;refine CK (results_tmp rfl _ _ _) rfl ⟨?_,Below.go⟩;rw[<-T.o];rfl

theorem B8m:A4f 73:=λa w=>kR
theorem B4a (A:Option AJ) (n c:Nat) (es:List TEdge) (bs:List Nat) (v:AU) (e:TEdge) (b:List Nat) (w:AD) (ap:Sl w A n c es bs) (aZ:n<=65536) (ao:Agg w v e b) :
  BL prog 72 #[S A n c,v,.func (.func 73) #[] #[]] w (A0b w (.tuple #[N RD (A3z es e),J (A6o es e)])):=by
 have ax:=A_ ap;have am:=A_ ao;have ak:=A_ ap.1;obtain⟨rfl,_,aP,aQ,aR,aS⟩:=TEdge.agg ao;clear ap ao aP aQ aR aS;have aE:=B8m;unfold A4f at aE;have a1:(n:Int)<=65536:=oS;go_enter func72,ntmps72;go_wp2_with fail;go_loopg [9,10] n (λg s9 s10 wr=>∃ (i j:Nat),j<=i+g/\(i<=j/\j<=n)/\s9=N RD i/\s10=N RD j/\BI (∀ f,j<=i+f->A5i es e f i j=A3z es e)/\FC (w.1.size+1) (w.alloc (BG #[N RD e.a,N RD e.b,N RD e.left,N RD e.right] 65)) wr);case atStart =>exact⟨0,n,oS,⟨EO _,CE _⟩,rfl,rfl,(show ∀ f,n<=0+f->A5i es e f 0 n=A3z es e from λf aM=>by unfold A3z;rw[ak.o];exact A9n es e f n 0 n aM oS),DI _ _⟩
 case round =>
  obtain⟨i,j,an,⟨aC,ah⟩,rfl,rfl,ai,H⟩:=hrel;have E:=A_ (show Bw w wr from(BP (BG #[N RD e.a,N RD e.b,N RD e.left,N RD e.right] 65)).trans (H.mono oS));have a3:wr.cell? ⟨w.1.size,0,I⟩=QZ (N RD e.a):=(H.cell (p:=⟨w.1.size,0,I⟩) (ME _)).trans oD;have k1:wr.cell? ⟨w.1.size,1,I⟩=QZ (N RD e.b):=(H.cell (p:=⟨w.1.size,1,I⟩) (ME _)).trans oD;have k2:wr.cell? ⟨w.1.size,2,I⟩=QZ (N RD e.left):=(H.cell (p:=⟨w.1.size,2,I⟩) (ME _)).trans oD;have a4:wr.cell? ⟨w.1.size,3,I⟩=QZ (N RD e.right):=(H.cell (p:=⟨w.1.size,3,I⟩) (ME _)).trans oD;have a2:w.1.size<wr.1.size:=by have:=H.size;simp at this;omega
  rcases CG i j with aD|aN
  ·have aY:(i:Int)<j:=oS
   obtain⟨h,hh⟩:∃ h:Nat,h=(i+j) / 2:=⟨_,rfl⟩
   have aT:((i:Int)+j) / 2=(h:Int):=oS;have aK:i<=h/\h<j:=oS;have aU:(h:Int)<n:=oS;have aX:(j:Int)<=65536:=oS;obtain⟨az,rfl⟩:∃ gh',gk=gh'+1:=⟨gk - 1,oS⟩
   obtain⟨aF,aO,x,rfl,aL,ac,aG,aH,aI,aJ,aa⟩:=TEdge.elemA (ax.o.below E.o) (by omega:h<n);have ay:=A_ ac;have ae:=A_ aa;have ar:=A_ hh;have Y:=A_ H;have aq:=A_ an;have aw:=A_ aD;have Z:=A_ aK;have au:=A_ ah;clear hh H an aD ac aa aC ah;by_cases ag:C3n x e<0
   ·have al:=A_ (D4i ai aw ar ay ag)
    obtain⟨r,G⟩:∃ r,C3n x e=r:=⟨_,rfl⟩
    rw[G]at ag;have R:=A_ G;clear G;go_wp2_with fail;refine A0g ?_;iterate 6 refine C_ _ ?_
    refine D_ (MP.eq (N RD r)) ?_ ?_;·intro T W X u D;obtain⟨aA,aB⟩:=F_ u;simp at D;refine G_ ?_;exact A0i (by have C:=A8t _ _ x e _ _ X (ae.below u) (am.below (E.trans (u.mono E.size)));rw[R.o]at C;exact C)
    refine C_ _ ?_;intro T W wa u D (O:BI _);simp at D;go_simp;clear D O;have aj:=A_ (Y.trans (u.mono (by have:=Y.size;simp at this;omega)));go_wp2_with fail;go_roundg az;case measure=>omega
    case rel=>exact⟨h+1,j,by have:=aq.o;have:=Z.o;omega,⟨by have:=Z.o;omega,au.o⟩,gN,rfl,al,aj.o⟩
   have al:=A_ (D4w ai aw ar ay ag);obtain⟨r,G⟩:∃ r,C3n x e=r:=⟨_,rfl⟩
   rw[G]at ag;have R:=A_ G;clear G;go_wp2_with fail;refine A0g ?_;iterate 6 refine C_ _ ?_
   refine D_ (MP.eq (N RD r)) ?_ ?_;·intro T W X u D;obtain⟨aA,aB⟩:=F_ u;simp at D;refine G_ ?_;exact A0i (by have C:=A8t _ _ x e _ _ X (ae.below u) (am.below (E.trans (u.mono E.size)));rw[R.o]at C;exact C)
   refine C_ _ ?_;intro T W wa u D (O:BI _);simp at D;go_simp;clear D O;have aj:=A_ (Y.trans (u.mono (by have:=Y.size;simp at this;omega)));go_wp2_with fail;go_roundg az;case measure=>omega
   case rel=>exact⟨i,h,by have:=aq.o;have:=Z.o;omega,⟨by have:=Z.o;omega,by have:=au.o;have:=Z.o;omega⟩,rfl,rfl,al,aj.o⟩
  obtain rfl:i=j:=oS;have af:=A_ (D8b ai rfl);have aV:¬ ((i:Int)<i):=oS;have Y:=A_ H;clear an aC aN H ai;rcases CG i n with ab|ab
  ·have aW:(i:Int)<n:=oS
   obtain⟨aF,aO,x,rfl,aL,ac,aG,aH,aI,aJ,aa⟩:=TEdge.elemA (ax.below E) ab;have ae:=A_ aa;have ad:=A_ (show BQ (C3n x e=0)=A6o es e by unfold A6o;rw[<-af.o,show es.getD i A4o=x by simp[JG,ac],ak.o,decide_eq_true ab,Bool.true_and]);clear ac aa ab ah;obtain⟨r,G⟩:∃ r,C3n x e=r:=⟨_,rfl⟩
   have R:=A_ G;rw[G]at ad;clear G;go_wp2_with fail;refine A0g ?_;iterate 11 refine C_ _ ?_
   refine D_ (MP.eq (N RD r)) ?_ ?_;·intro T W X u D;obtain⟨aA,aB⟩:=F_ u;simp at D;refine G_ ?_;exact A0i (by have C:=A8t _ _ x e _ _ X (ae.below u) (am.below (E.trans (u.mono E.size)));rw[R.o]at C;exact C)
   iterate 4 refine C_ _ ?_
   intro T W wa u D (O:BI _);simp at D;go_simp;clear D O;go_wp2;go_ret2;rw[<-af.o,<-ad.o];exact⟨by simp;rfl,E.trans (u.mono E.size)⟩
  obtain rfl:i=n:=oS;have ad:=A_ (show AH=A6o es e by unfold A6o;rw[<-af.o,ak.o,decide_eq_false (Nat.lt_irrefl _),Bool.false_and]);clear ab ah;go_wp2_with fail;refine A0g ?_;iterate 5 refine C_ _ ?_
  iterate 8 apply A4m;case h =>intro T W X u D;simp at D;go_simp;first|done|(simp[undef];done)
  iterate 3 refine C_ _ ?_
  intro T W wa u D (O:BI _);simp at D;go_simp;clear D O;go_wp2;go_ret2;rw[<-af.o,<-ad.o];exact⟨rfl,E.trans (u.mono E.size)⟩

def A2i (a b:Int):TEdge:=⟨min a b,max a b,0,0⟩
theorem A2t (A:Option AJ) (n c:Nat) (es:List TEdge) (bs:List Nat) (a b:Int) (w:AD) (T:Sl w A n c es bs) (aa:n<=65536) (D:I64 a) (E:I64 b) (H:A6o es (A2i a b)=AF) :
  BL prog 166 #[S A n c,N RD a,N RD b] w (A0b w (N RD (A3z es (A2i a b)))):=by
 have Y:=A_ T;have W:=A_ H;have ab:=A_ D;have ac:=A_ E;obtain⟨u,O⟩:∃ u,min a b=u:=⟨_,rfl⟩
 obtain⟨h,G⟩:∃ h,max a b=h:=⟨_,rfl⟩
 have X:=A_ (by unfold A2i;rw[O,G]:A2i a b=⟨u,h,0,0⟩);have K:=A_ (show Agg w (BJ #[N RD u,N RD h,N RD 0,N RD 0]) (⟨u,h,0,0⟩:TEdge) []from TEdge.mkAgg (x:=⟨u,h,0,0⟩) (by show I64 u;rw[<-O];unfold I64 at *;omega) (by show I64 h;rw[<-G];unfold I64 at *;omega) (by show I64 0;constructor<;>decide) (by show I64 0;constructor<;>decide));clear T H D E;go_enter func166,ntmps166;go_wp2_with fail;have C:=B4a A n c es bs _ ⟨u,h,0,0⟩ [] w Y aa K;rw[<-X.o,W.o]at C;refine C.mono ?_;clear C;rintro _ ad ⟨rfl,Z⟩;go_wp2;go_ret;exact⟨rfl,Z⟩
end Go.Proofs.YtjcanieccnljfaaGreat.X

namespace Go.XN
open Go.XB
def A8d (e:TEdge):List AU:=[N RD e.a,N RD e.b,N RD e.left,N RD e.right]
def C8i (a b:Int):TEdge:=⟨min a b,max a b,-1,-1⟩
def C8f (es:List TEdge) (i:Nat) (e:TEdge):List TEdge:=es.take i++e::es.drop i
def C2b (k:Int) (lt:Bool) (e:TEdge):TEdge:=if lt then { e with left:=k } else { e with right:=k }
def B2f (es:List TEdge) (k a b:Int):List TEdge :=
 let i:=A3z es (C8i a b)
 let es':=if A6o es (C8i a b)then es else C8f es i (C8i a b)
 es'.modify i (C2b k (BQ (a<b)))
def E8t (es:List TEdge) (k:Int) (t:TTri):List TEdge:=B2f (B2f (B2f es k t.a t.b) k t.b t.c) k t.c t.a
def A4g (ts:List TTri):Nat->List TEdge
 |0=>[]
 |k+1=>E8t (A4g ts k) k (ts.getD k ⟨0,0,0,0,0⟩)
def P_ (ts:List TTri):List TEdge:=A4g ts ts.length
def B0c (e:TEdge):Prop:=I64 e.a/\I64 e.b/\I64 e.left/\I64 e.right
end Go.XN
namespace Go.Proofs.YtjcanieccnljfaaGreat.X
open Go.RowKit Go.XB Go.XN Proofs.Tryz
attribute [local go_sem] L_ opAt N_ M_ Region.wanted yielded
attribute [local simp] N_ M_ MP.eq MP.agg MP.sl MP.slc A0r
theorem D5v (es:List TEdge):(es.flatMap A8d).length=es.length*4:=by
 induction es with
 |nil=>rfl
 |cons e es ih=>rw[MB,GQ,ih];simp[A8d];omega
theorem E5o {es:List TEdge}:∀ v∈es.flatMap A8d,v.oneCell'=AF:=by
 intro v h;obtain⟨e,_,b⟩:=List.mem_flatMap.1 h;simp[A8d]at b;rcases b with rfl|rfl|rfl|rfl<;>rfl
theorem C9g (es:List TEdge):∀ i,i<=es.length->(es.flatMap A8d).take (i*4)=(es.take i).flatMap A8d/\(es.flatMap A8d).drop (i*4)=(es.drop i).flatMap A8d:=by
 induction es with
 |nil=>intro i b;simp at b;subst b;simp
 |cons e es ih =>
  intro i b
  cases i with
  |zero=>simp
  |succ i =>
   obtain⟨h,u⟩:=ih i (by simpa using b)
   rw[show(i+1)*4=(A8d e).length+i*4 by simp[A8d];omega,MB,GT,GU,MB,List.take_length_add_append,List.drop_length_add_append,h,u]
   exact⟨rfl,rfl⟩
theorem E3a {es:List TEdge} {i:Nat} (hi:i<=es.length) (e:TEdge):(C8f es i e).flatMap A8d=(es.flatMap A8d).take (i*4)++A8d e++(es.flatMap A8d).drop (i*4):=by
 obtain⟨b,h⟩:=C9g es i hi;unfold C8f;rw[List.flatMap_append,MB,b,h,GG]
theorem E1m (k:Int) (lt:Bool) (es:List TEdge):∀ i,i<es.length->(es.modify i (C2b k lt)).flatMap A8d=(es.flatMap A8d).set (i*4+(if lt then 2 else 3)) (N RD k):=by
 induction es with
 |nil=>intro i b;simp at b
 |cons e es ih =>
  intro i b
  cases i with
  |zero=>cases lt<;>simp[C2b,A8d]
  |succ i =>
   have h:=ih i (by simpa using b)
   rw[List.modify_succ_cons,MB,MB,h]
   rw[List.set_append_right _ _ (by simp[A8d];omega)]
   congr 2
   simp[A8d];omega
theorem D3s {es:List TEdge} {i:Nat} (hi:i<=es.length) (e:TEdge):(C8f es i e).length=es.length+1:=by unfold C8f;simp;omega
theorem E4y {es:List TEdge} {i:Nat} {e x:TEdge} (h:x∈C8f es i e):x=e\/x∈es:=by
 unfold C8f at h;rcases List.mem_append.1 h with h|h
 ·exact .inr (List.mem_of_mem_take h)
 rcases List.mem_cons.1 h with h|h;·exact .inl h
 exact .inr (QT h)
theorem D9a {a b:Int} (h:I64 a) (u:I64 b):B0c (C8i a b):=by
 unfold B0c C8i I64 at *;refine⟨?_,?_,?_,?_⟩<;>(dsimp only;omega)
theorem E7i {k:Int} {lt:Bool} {es:List TEdge} {i:Nat} (E:I64 k) (h:∀ e∈es,B0c e):∀ e∈es.modify i (C2b k lt),B0c e:=by
 intro e O;obtain⟨j,b⟩:=KE.1 O;rw[List.getElem?_modify]at b;split at b
 ·obtain⟨x,T,rfl⟩:=Option.map_eq_some_iff.1 b
  obtain⟨u,D,G,H⟩:=h x (DH T);unfold C2b;split;·exact⟨u,D,E,H⟩
  exact⟨u,D,G,E⟩
 exact h e (DH (by simpa using b))
theorem E5b {es:List TEdge} {k a b:Int} (G:I64 k) (D:I64 a) (E:I64 b) (h:∀ e∈es,B0c e):∀ e∈B2f es k a b,B0c e:=by
 unfold B2f;apply E7i G;split;·exact h
 intro e u;rcases E4y u with rfl|u
 ·exact D9a D E
 exact h e u
theorem B6s (es:List TEdge) (k a b:Int):(B2f es k a b).length<=es.length+1:=by
 unfold B2f;simp only[List.length_modify];split;·omega
 rw[D3s (D9w _ _)];exact CE _
theorem A5z (ts:List TTri):∀ k,(A4g ts k).length<=3*k
 |0=>CE _
 |k+1=>by
  have h:=A5z ts k
  unfold A4g E8t
  generalize ts.getD k _=t
  have h1:=B6s (A4g ts k) k t.a t.b
  have h2:=B6s (B2f (A4g ts k) k t.a t.b) k t.b t.c
  have h3:=B6s (B2f (B2f (A4g ts k) k t.a t.b) k t.b t.c) k t.c t.a
  omega
theorem A3a {w:AD} {base g n cap size:Nat} {e:CV} {cells:List AU} (h:w.ownsRow base e size (S (QZ ⟨g,0,I⟩) n cap) n cells) {i:Nat} (hi:i<cells.length) (v:AU) :
  (w.setCell ⟨g,i,I⟩ v).ownsRow base e size (S (QZ ⟨g,0,I⟩) n cap) n (cells.set i v)/\w.grownBy (w.setCell ⟨g,i,I⟩ v) (QZ g)/\(∃ u,w.cell? ⟨g,i,I⟩=QZ u)/\w.frozen? ⟨g,i,I⟩=AH:=by
 obtain⟨E,O⟩:=h;rcases O with⟨H,_⟩|⟨g',ac,b,ab,T,D,G,W,X,aa⟩;·cases H
 cases ab;have ae:cells.length=n*size:=E;have ad:n*size<=cap*size:=Nat.mul_le_mul_right _ G;have Y:i<b.size:=oS;refine⟨⟨by simpa using E,.inr ⟨g,cap,b.setIfInBounds i v,rfl,T,?_,G,W,by simpa using X,?_⟩⟩,⟨rfl,rfl,rfl,by simp[World.setCell],λk _ Z=>Below.heap_setCell w ⟨g,i,I⟩ v k (λe=>Z (by rw[e]))⟩,⟨b[i],by simp[AD.cell?,D,Y]⟩,by simp[World.frozen?,D]⟩;·rw[setCell_eq_setRow w g i b _ _ v D];exact PW w g b _ _ _ D
 rw[Array.toList_setIfInBounds,List.take_set,aa]
theorem C9f {w:AD} {base g n cap:Nat} {es:List TEdge} (h:w.ownsRow base 65 4 (S (QZ ⟨g,0,I⟩) n cap) n (es.flatMap A8d)) (ab:es.length=n) (ac:∀ e∈es,B0c e):∃ bs,Sl w (QZ ⟨g,0,I⟩) n cap es bs/\(∀ b∈bs,b=g):=by
 have Y:Filled w (es.flatMap A8d) es (List.replicate es.length []):=by
  refine⟨sI,by rw[D5v];exact CE _,λk x H u E=>?_⟩;have G:=(DM.1 u).1;have Z:H=[]:=by rw[List.getElem?_replicate,if_pos G]at E;exact(Option.some.inj E).symm
  subst Z;obtain⟨O,T,W,X⟩:=ac x (DH u);show Dat.at_ w (((es.flatMap A8d).drop (k*4)).take 4) x [];rw[(C9g es k oS).2,MA G,MB,LN (by simp[A8d])];have:es[k]=x:=(DM.1 u).2;rw[this];exact TEdge.shut O T W X
 obtain⟨A,c,bs,af,ae,ad⟩:=Y.sl (α:=TEdge) (base:=base) (n:=n) h ab;cases af;refine⟨bs,ae,λb D=>?_⟩;rcases ad with⟨_,rfl⟩|⟨g',aa,rfl,_⟩;·cases D
 simp[Value.ownBlock]at aa;simp at D;all_goals omega
theorem D6w (base g n cap b i:Nat) (cells xs:List AU) (w:AD) (h:w.ownsRow base 65 4 (S (QZ ⟨g,0,I⟩) n cap) n cells) (W:base<=w.1.size) (E:n<=65536) (hi:i<=n)
  (H:w.1[b]?=QZ (BG xs.toArray 65)) (O:xs.length=4) (u:∀ v∈xs,v.oneCell'=AF) (T:∀ v∈cells,v.oneCell'=AF) (X:b≠g) :
  BL prog 74 #[S (QZ ⟨g,0,I⟩) n cap,N RD i,S (QZ ⟨b,0,I⟩) 1 1] w (B9o w base g n i cells xs):=by
 rcases CG i n with D|D
 ·rcases CG cap (n+1)with G|G
  ·exact D4r base g n cap b i cells xs w h W E D G H O u T
  exact D2j base g n cap b i cells xs w h E D G H O u T X
 obtain rfl:i=n:=oS;exact D8h base g i cap b cells xs w h W E H O u
theorem A2g (v:AU) (t:TTri) (b:List Nat) (w:AD) (h:Agg w v t b) :
  BL prog 68 #[v] w (A0b w (BJ #[N RD t.a,N RD t.b,N RD t.c])):=by
 obtain⟨rfl,_,_,_,_,_,_⟩:=TTri.agg h;clear h;go_enter func68,ntmps68;go_wp2;refine CK (v:=BJ #[N RD t.a,N RD t.b,N RD t.c]) (by simp[results,results68,go_sem, *]) rfl ⟨rfl,Below.go⟩
def A4p:TTri:=⟨0,0,0,0,0⟩
def A3h (t:TTri) (v:Int):Int×Int:=if t.a=v then(t.b,t.c)else if t.b=v then(t.c,t.a)else(t.a,t.b)
def B6x (t:TTri) (v:Int):Bool:=t.a==v || (t.b==v || t.c==v)
def A2u (ts:List TTri) (v:Int):Nat->List Int
 |0=>[]
 |k+1=>if B6x (ts.getD k A4p) v then A2u ts v k++[(k:Int)]else A2u ts v k
def A2d (ts:List TTri) (v:Int):List Int:=A2u ts v ts.length
def spT (ts:List TTri) (es:List TEdge) (v k:Int):Nat×Nat :=
 (A3z es (A2i v (A3h (ts.getD k.toNat A4p) v).1),A3z es (A2i v (A3h (ts.getD k.toNat A4p) v).2))
def A8e (ts:List TTri) (es:List TEdge) (v:Int):List Int->Int->Int
 | [],_=>-1
 |k::r,e=>if ((spT ts es v k).1:Int)=e then k else A8e ts es v r e
def B8j (ts:List TTri) (es:List TEdge) (v k:Int):Bool:=BQ ((es.getD (spT ts es v k).1 A4o).left<0) || BQ ((es.getD (spT ts es v k).1 A4o).right<0)
def B5l (ts:List TTri) (es:List TEdge) (v:Int) (l:List Int) (start:Int):Nat->Int->List Int->List Int->Option (List Int×List Int)
 |0,_,_,_=>I
 |f+1,k,tr,sp =>
  if A8e ts es v l (spT ts es v k).2<0 then QZ (tr++[k],(sp++[((spT ts es v k).1:Int)])++[((spT ts es v k).2:Int)])
  else if A8e ts es v l (spT ts es v k).2=start then QZ (tr++[k],sp++[((spT ts es v k).1:Int)])
  else B5l ts es v l start f (A8e ts es v l (spT ts es v k).2) (tr++[k]) (sp++[((spT ts es v k).1:Int)])
def E6a (ts:List TTri) (es:List TEdge) (v:Int) (l:List Int) (k:Int) (cl:Bool):TFan :=
 match B5l ts es v l k 49 k [] []with
 |some (tr,sp)=>⟨tr,sp,cl⟩
 |none=>⟨[],[],cl⟩
def A5s (ts:List TTri) (es:List TEdge) (v:Int) (l:List Int):Nat->List TFan
 |0=>[]
 |i+1=>if B8j ts es v (l.getD i 0)then A5s ts es v l i++[E6a ts es v l (l.getD i 0) AH]else A5s ts es v l i
def A8x (ts:List TTri) (v:Int):List TFan :=
 if A5s ts (P_ ts) v (A2d ts v) (A2d ts v).length=[]then [E6a ts (P_ ts) v (A2d ts v) ((A2d ts v).getD 0 0) AF]else A5s ts (P_ ts) v (A2d ts v) (A2d ts v).length
def D5b (ts:List TTri) (es:List TEdge) (v k:Int):Bool :=
 (BQ (0<=k)&&BQ (k<ts.length))&&(B6x (ts.getD k.toNat A4p) v&&(A6o es (A2i v (A3h (ts.getD k.toNat A4p) v).1)&&A6o es (A2i v (A3h (ts.getD k.toNat A4p) v).2)))
def fanOk (ts:List TTri) (v:Int):Bool :=
 !(A2d ts v).isEmpty&&((A2d ts v).all (D5b ts (P_ ts) v)&&(A2d ts v).all λk=>(B5l ts (P_ ts) v (A2d ts v) k 49 k [] []).isSome)
theorem B7u (ts:List TTri) (v:Int):∀ k,(A2u ts v k).length<=k
 |0=>CE _
 |k+1=>by unfold A2u;have:=B7u ts v k;split<;>(try rw[GQ])<;>simp<;>omega
theorem D8l {ts:List TTri} {es:List TEdge} {v:Int} {l:List Int} {e:Int} {i:Nat} {k:Int} (h:l[i]?=QZ k) :
  A8e ts es v (l.drop i) e=if ((spT ts es v k).1:Int)=e then k else A8e ts es v (l.drop (i+1)) e:=by
 obtain⟨b,rfl⟩:=DM.1 h;rw[MA b,A8e]
theorem D0a {ts:List TTri} {es:List TEdge} {v e:Int}:∀ {l:List Int},0<=A8e ts es v l e->A8e ts es v l e∈l
 | [],h=>by simp[A8e]at h
 |k::r,h=>by
  unfold A8e at h ⊢
  split
  ·exact List.mem_cons_self
  rename_i hn;rw[if_neg hn]at h;exact List.mem_cons_of_mem _ (D0a h)
def A1q (xs ys:List Int) (t:TTri) (a b:Int):Bool:=BQ (A5u xs ys a b t.a<=0)&&(BQ (A5u xs ys a b t.b<=0)&&BQ (A5u xs ys a b t.c<=0))
def B0g (xs ys:List Int) (s t:TTri):Nat->Bool
 |0=>A1q xs ys t s.a s.b
 |1=>A1q xs ys t s.b s.c
 |_=>A1q xs ys t s.c s.a
def B9s (xs ys:List Int) (s t:TTri):Bool:=(List.range 3).any (B0g xs ys s t)
def A5v (n:Nat) (t:TTri):Prop:=(0<=t.a/\t.a<n)/\(0<=t.b/\t.b<n)/\(0<=t.c/\t.c<n)
theorem A5c {xs ys:List Int} {s t:TTri} {k:Nat} (h:∀ j,j<k->B0g xs ys s t j=AH) (u:B0g xs ys s t k=AH):∀ j,j<k+1->B0g xs ys s t j=AH:=by
 intro j D;rcases CG j k with b|b
 ·exact h j b
 obtain rfl:j=k:=oS;exact u
theorem C7t {xs ys:List Int} {s t:TTri} {j:Nat} (hj:j<3) (h:B0g xs ys s t j=AF):B9s xs ys s t=AF:=List.any_eq_true.2 ⟨j,JW.2 hj,h⟩
theorem E2g {xs ys:List Int} {s t:TTri} (h:∀ j,j<3->B0g xs ys s t j=AH):B9s xs ys s t=AH:=by
 unfold B9s;rw[List.any_eq_false];intro j b;rw[h j (JW.1 b)];simp
section
attribute [local go_sem] ix0 ix1 ix2
theorem B5a (v:AU) (n:Nat) (xs ys:List Int) (vs a3:AU) (s t:TTri) (bs be:List Nat) (w:AD) (aX:Plc w v n xs ys) (aY:A6a xs) (aZ:A6a ys) (aG:Agg w vs s bs) (aH:Agg w a3 t be) (a1:A5v n s) (a2:A5v n t) :
  BL prog 69 #[v,vs,a3] w (A0b w (J (B9s xs ys s t))):=by
 have ad:=A_ aX;have ae:=A_ aY;have af:=A_ aZ;have b:=A_ a1;have ac:=A_ a2;obtain⟨A,bf,a8,br,bg,a9,bt,bh,bz,bA,rfl,bi,bj⟩:=aX;have a6:=A_ aG;have a7:=A_ aH;obtain⟨rfl,_,_,_,_,_,_⟩:=TTri.agg aG;obtain⟨rfl,_,_,_,_,_,_⟩:=TTri.agg aH;clear aG aH bi bj aY aZ a1 a2;go_enter func69,ntmps69;go_wp2_with fail;refine W_ 6 kR kR kR kR kR ?_;simp only[GT,List.take_zero,GU,List.drop_zero];refine C_ _ ?_;refine D_ (MP.eq (BJ #[N RD s.a,N RD s.b,N RD s.c])) ?_ ?_;·intro aE aF aA aj ag;obtain⟨bn,bp⟩:=F_ aj;simp at ag;refine G_ ?_;exact A0i (A2g _ s _ aA (a6.below Below.go))
 refine C_ _ ?_;refine D_ (MP.eq (BJ #[N RD t.a,N RD t.b,N RD t.c])) ?_ ?_;·intro aE aF aA aj ag;obtain⟨bn,bp⟩:=F_ aj;simp at ag;refine G_ ?_;exact A0i (A2g _ t _ aA (a7.below Below.go))
 refine A1p #[N RD 0,N RD 0,N RD 0] 111 ?_ ?_;·intro aE aF aA aj ag;refine⟨gD,?_⟩;go_simp
 refine A1p #[N RD 0,N RD 0,N RD 0] 111 ?_ ?_;·intro aE aF aA aj ag;refine⟨gD,?_⟩;go_simp
 intro aE aF wa aj ag (aR:BI _);simp at ag;have bu:=ag.2.2.2.2.1;have bv:=ag.2.2.2.2.2;obtain⟨⟨ga,bT,aM,aV⟩,aK⟩:=bu;obtain⟨⟨gb,bU,aN,aW⟩,aL⟩:=bv;rw[aM]at aK;rw[aN]at aL;have aB:=aK ga sI;have aC:=aL gb sI;have bk:ga≠gb:=by intro e;have:=aR.o 4 5 dE dE dE ga (by rw[aM];simp);rw[aN]at this;simp[e]at this
 have bK:=bk.symm;obtain⟨a0,ba,-⟩:=bx aV;obtain⟨bc,bd,-⟩:=bx aW;have a4:=A_ (show Bw w wa from Below.go);obtain⟨bm,bo⟩:=F_ aj;have bQ:w.1.size<wa.1.size:=ltg aj;have aI:w.1.size<=ga:=by(try simp at aB);omega
 have aJ:w.1.size<=gb:=by(try simp at aC);omega
 have bL:ga<wa.1.size:=aB.2;have bM:gb<wa.1.size:=aC.2;have n1:w.1.size≠ga:=by(try simp at aB);omega
 have n2:w.1.size≠gb:=by(try simp at aC);omega
 have bR:=n1.symm;have bS:=n2.symm;have a5:=A_ (show Bw w ((((((wa.setCell ⟨ga,0,I⟩ (N RD s.a)).setCell ⟨ga,1,I⟩ (N RD s.b)).setCell ⟨ga,2,I⟩ (N RD s.c)).setCell ⟨gb,0,I⟩ (N RD t.a)).setCell ⟨gb,1,I⟩ (N RD t.b)).setCell ⟨gb,2,I⟩ (N RD t.c))from(((((a4.setCell (p:=⟨ga,0,I⟩) aI _).setCell (p:=⟨ga,1,I⟩) aI _).setCell (p:=⟨ga,2,I⟩) aI _).setCell (p:=⟨gb,0,I⟩) aJ _).setCell (p:=⟨gb,1,I⟩) aJ _).setCell (p:=⟨gb,2,I⟩) aJ _);clear aR aK aL aV aW aM aN aB aC;go_wp2_with fail;go_loopg [17] 3 (λg s17 wr=>∃ k:Nat,k+g=3/\s17=N RD k/\BI (∀ j,j<k->B0g xs ys s t j=AH)/\Bw w wr/\(w.1.size<wr.1.size/\ga<wr.1.size/\gb<wr.1.size)/\(wr.cell? ⟨w.1.size,0,I⟩=QZ (S A n bf)/\wr.cell? ⟨w.1.size,1,I⟩=QZ (S (QZ ⟨a8,br,I⟩) n bg)/\wr.cell? ⟨w.1.size,2,I⟩=QZ (S (QZ ⟨a9,bt,I⟩) n bh)/\wr.cell? ⟨ga,0,I⟩=QZ (N RD s.a)/\wr.cell? ⟨ga,1,I⟩=QZ (N RD s.b)/\wr.cell? ⟨ga,2,I⟩=QZ (N RD s.c)/\wr.cell? ⟨gb,0,I⟩=QZ (N RD t.a)/\wr.cell? ⟨gb,1,I⟩=QZ (N RD t.b)/\wr.cell? ⟨gb,2,I⟩=QZ (N RD t.c)));case atStart =>exact⟨0,rfl,rfl,(show ∀ j,j<0->_ from λj bq=>absurd bq (Nat.not_lt_zero j)),a5.o,⟨oR,oR,oR⟩,⟨oD,oD,oD,oD,oD,oD,oD,oD,oD⟩⟩
 case round =>
 clear bm bo a0 bc ba bd;obtain⟨k,aD,rfl,ab,bl,⟨bN,bO,bP⟩,⟨bB,bD,bE,c3,bF,bG,bH,bI,bJ⟩⟩:=hrel;have al:=A_ bl;obtain rfl|rfl|rfl|rfl:k=0\/k=1\/k=2\/k=3:=oS
 ·obtain rfl:gk=2+1:=oS
  clear aD;go_wp2_with fail;obtain⟨r0,Y⟩:∃ r,A5u xs ys s.a s.b t.a=r:=⟨_,rfl⟩
  have C:=A3v _ n xs ys s.a s.b t.a wr (ad.below al) ae af b.1 b.2.1 ac.1;rw[Y]at C;have R0:=A_ Y;clear Y;refine C.mono ?_;clear C;rintro _ H ⟨rfl,u⟩;obtain⟨aO,aS⟩:=F_ u;have T:=A_ (BH al u);have am:w.1.size<H.1.size:=by have:=u.size;omega
  have an:ga<H.1.size:=by have:=u.size;omega
  have ao:gb<H.1.size:=by have:=u.size;omega
  by_cases G:r0<=0
  ·go_wp2_with fail
   obtain⟨ay,Z⟩:∃ r,A5u xs ys s.a s.b t.b=r:=⟨_,rfl⟩
   have C:=A3v _ n xs ys s.a s.b t.b H (ad.below T) ae af b.1 b.2.1 ac.2.1;rw[Z]at C;have R1:=A_ Z;clear Z;refine C.mono ?_;clear C;rintro _ O ⟨rfl,D⟩;obtain⟨aP,aT⟩:=F_ D;have W:=A_ (BH T D);have ap:w.1.size<O.1.size:=by have:=D.size;omega
   have aq:ga<O.1.size:=by have:=D.size;omega
   have ar:gb<O.1.size:=by have:=D.size;omega
   by_cases X:ay<=0
   ·go_wp2_with fail
    obtain⟨az,aa⟩:∃ r,A5u xs ys s.a s.b t.c=r:=⟨_,rfl⟩
    have C:=A3v _ n xs ys s.a s.b t.c O (ad.below W) ae af b.1 b.2.1 ac.2.2;rw[aa]at C;have R2:=A_ aa;clear aa;refine C.mono ?_;clear C;rintro _ w3 ⟨rfl,E⟩;obtain⟨aQ,aU⟩:=F_ E;have ah:=A_ (BH W E);have au:w.1.size<w3.1.size:=by have:=E.size;omega
    have aw:ga<w3.1.size:=by have:=E.size;omega
    have ax:gb<w3.1.size:=by have:=E.size;omega
    by_cases ai:az<=0;·have ak:=A_ (show B9s xs ys s t=AF from C7t (j:=0) dE (by show A1q xs ys t s.a s.b=AF;unfold A1q;rw[R0.o,R1.o,R2.o];simp[G,X,ai]));go_wp2;go_ret;exact⟨by rw[ak.o];rfl,ah⟩
    have h:=A_ (show ∀ j,j<0+1->B0g xs ys s t j=AH from A5c ab (by show A1q xs ys t s.a s.b=AH;unfold A1q;rw[R0.o,R1.o,R2.o];simp[G,X,ai]));go_wp2_with fail;go_roundg 2;case measure=>omega
    case rel=>exact⟨0+1,rfl,gN,h,ah,⟨au,aw,ax⟩,⟨oD,oD,oD,oD,oD,oD,oD,oD,oD⟩⟩
   have h:=A_ (show ∀ j,j<0+1->B0g xs ys s t j=AH from A5c ab (by show A1q xs ys t s.a s.b=AH;unfold A1q;rw[R0.o,R1.o];simp[G,X]));go_wp2_with fail;go_roundg 2;case measure=>omega
   case rel=>exact⟨0+1,rfl,gN,h,W,⟨ap,aq,ar⟩,⟨oD,oD,oD,oD,oD,oD,oD,oD,oD⟩⟩
  have h:=A_ (show ∀ j,j<0+1->B0g xs ys s t j=AH from A5c ab (by show A1q xs ys t s.a s.b=AH;unfold A1q;rw[R0.o];simp[G]));go_wp2_with fail;go_roundg 2;case measure=>omega
  case rel=>exact⟨0+1,rfl,gN,h,T,⟨am,an,ao⟩,⟨oD,oD,oD,oD,oD,oD,oD,oD,oD⟩⟩
 ·obtain rfl:gk=1+1:=oS
  clear aD;go_wp2_with fail;obtain⟨r0,Y⟩:∃ r,A5u xs ys s.b s.c t.a=r:=⟨_,rfl⟩
  have C:=A3v _ n xs ys s.b s.c t.a wr (ad.below al) ae af b.2.1 b.2.2 ac.1;rw[Y]at C;have R0:=A_ Y;clear Y;refine C.mono ?_;clear C;rintro _ H ⟨rfl,u⟩;obtain⟨aO,aS⟩:=F_ u;have T:=A_ (BH al u);have am:w.1.size<H.1.size:=by have:=u.size;omega
  have an:ga<H.1.size:=by have:=u.size;omega
  have ao:gb<H.1.size:=by have:=u.size;omega
  by_cases G:r0<=0
  ·go_wp2_with fail
   obtain⟨ay,Z⟩:∃ r,A5u xs ys s.b s.c t.b=r:=⟨_,rfl⟩
   have C:=A3v _ n xs ys s.b s.c t.b H (ad.below T) ae af b.2.1 b.2.2 ac.2.1;rw[Z]at C;have R1:=A_ Z;clear Z;refine C.mono ?_;clear C;rintro _ O ⟨rfl,D⟩;obtain⟨aP,aT⟩:=F_ D;have W:=A_ (BH T D);have ap:w.1.size<O.1.size:=by have:=D.size;omega
   have aq:ga<O.1.size:=by have:=D.size;omega
   have ar:gb<O.1.size:=by have:=D.size;omega
   by_cases X:ay<=0
   ·go_wp2_with fail
    obtain⟨az,aa⟩:∃ r,A5u xs ys s.b s.c t.c=r:=⟨_,rfl⟩
    have C:=A3v _ n xs ys s.b s.c t.c O (ad.below W) ae af b.2.1 b.2.2 ac.2.2;rw[aa]at C;have R2:=A_ aa;clear aa;refine C.mono ?_;clear C;rintro _ w3 ⟨rfl,E⟩;obtain⟨aQ,aU⟩:=F_ E;have ah:=A_ (BH W E);have au:w.1.size<w3.1.size:=by have:=E.size;omega
    have aw:ga<w3.1.size:=by have:=E.size;omega
    have ax:gb<w3.1.size:=by have:=E.size;omega
    by_cases ai:az<=0;·have ak:=A_ (show B9s xs ys s t=AF from C7t (j:=1) dE (by show A1q xs ys t s.b s.c=AF;unfold A1q;rw[R0.o,R1.o,R2.o];simp[G,X,ai]));go_wp2;go_ret;exact⟨by rw[ak.o];rfl,ah⟩
    have h:=A_ (show ∀ j,j<1+1->B0g xs ys s t j=AH from A5c ab (by show A1q xs ys t s.b s.c=AH;unfold A1q;rw[R0.o,R1.o,R2.o];simp[G,X,ai]));go_wp2_with fail;go_roundg 1;case measure=>omega
    case rel=>exact⟨1+1,rfl,gN,h,ah,⟨au,aw,ax⟩,⟨oD,oD,oD,oD,oD,oD,oD,oD,oD⟩⟩
   have h:=A_ (show ∀ j,j<1+1->B0g xs ys s t j=AH from A5c ab (by show A1q xs ys t s.b s.c=AH;unfold A1q;rw[R0.o,R1.o];simp[G,X]));go_wp2_with fail;go_roundg 1;case measure=>omega
   case rel=>exact⟨1+1,rfl,gN,h,W,⟨ap,aq,ar⟩,⟨oD,oD,oD,oD,oD,oD,oD,oD,oD⟩⟩
  have h:=A_ (show ∀ j,j<1+1->B0g xs ys s t j=AH from A5c ab (by show A1q xs ys t s.b s.c=AH;unfold A1q;rw[R0.o];simp[G]));go_wp2_with fail;go_roundg 1;case measure=>omega
  case rel=>exact⟨1+1,rfl,gN,h,T,⟨am,an,ao⟩,⟨oD,oD,oD,oD,oD,oD,oD,oD,oD⟩⟩
 ·obtain rfl:gk=0+1:=oS
  clear aD;go_wp2_with fail;obtain⟨r0,Y⟩:∃ r,A5u xs ys s.c s.a t.a=r:=⟨_,rfl⟩
  have C:=A3v _ n xs ys s.c s.a t.a wr (ad.below al) ae af b.2.2 b.1 ac.1;rw[Y]at C;have R0:=A_ Y;clear Y;refine C.mono ?_;clear C;rintro _ H ⟨rfl,u⟩;obtain⟨aO,aS⟩:=F_ u;have T:=A_ (BH al u);have am:w.1.size<H.1.size:=by have:=u.size;omega
  have an:ga<H.1.size:=by have:=u.size;omega
  have ao:gb<H.1.size:=by have:=u.size;omega
  by_cases G:r0<=0
  ·go_wp2_with fail
   obtain⟨ay,Z⟩:∃ r,A5u xs ys s.c s.a t.b=r:=⟨_,rfl⟩
   have C:=A3v _ n xs ys s.c s.a t.b H (ad.below T) ae af b.2.2 b.1 ac.2.1;rw[Z]at C;have R1:=A_ Z;clear Z;refine C.mono ?_;clear C;rintro _ O ⟨rfl,D⟩;obtain⟨aP,aT⟩:=F_ D;have W:=A_ (BH T D);have ap:w.1.size<O.1.size:=by have:=D.size;omega
   have aq:ga<O.1.size:=by have:=D.size;omega
   have ar:gb<O.1.size:=by have:=D.size;omega
   by_cases X:ay<=0
   ·go_wp2_with fail
    obtain⟨az,aa⟩:∃ r,A5u xs ys s.c s.a t.c=r:=⟨_,rfl⟩
    have C:=A3v _ n xs ys s.c s.a t.c O (ad.below W) ae af b.2.2 b.1 ac.2.2;rw[aa]at C;have R2:=A_ aa;clear aa;refine C.mono ?_;clear C;rintro _ w3 ⟨rfl,E⟩;obtain⟨aQ,aU⟩:=F_ E;have ah:=A_ (BH W E);have au:w.1.size<w3.1.size:=by have:=E.size;omega
    have aw:ga<w3.1.size:=by have:=E.size;omega
    have ax:gb<w3.1.size:=by have:=E.size;omega
    by_cases ai:az<=0;·have ak:=A_ (show B9s xs ys s t=AF from C7t (j:=2) dE (by show A1q xs ys t s.c s.a=AF;unfold A1q;rw[R0.o,R1.o,R2.o];simp[G,X,ai]));go_wp2;go_ret;exact⟨by rw[ak.o];rfl,ah⟩
    have h:=A_ (show ∀ j,j<2+1->B0g xs ys s t j=AH from A5c ab (by show A1q xs ys t s.c s.a=AH;unfold A1q;rw[R0.o,R1.o,R2.o];simp[G,X,ai]));go_wp2_with fail;go_roundg 0;case measure=>omega
    case rel=>exact⟨2+1,rfl,gN,h,ah,⟨au,aw,ax⟩,⟨oD,oD,oD,oD,oD,oD,oD,oD,oD⟩⟩
   have h:=A_ (show ∀ j,j<2+1->B0g xs ys s t j=AH from A5c ab (by show A1q xs ys t s.c s.a=AH;unfold A1q;rw[R0.o,R1.o];simp[G,X]));go_wp2_with fail;go_roundg 0;case measure=>omega
   case rel=>exact⟨2+1,rfl,gN,h,W,⟨ap,aq,ar⟩,⟨oD,oD,oD,oD,oD,oD,oD,oD,oD⟩⟩
  have h:=A_ (show ∀ j,j<2+1->B0g xs ys s t j=AH from A5c ab (by show A1q xs ys t s.c s.a=AH;unfold A1q;rw[R0.o];simp[G]));go_wp2_with fail;go_roundg 0;case measure=>omega
  case rel=>exact⟨2+1,rfl,gN,h,T,⟨am,an,ao⟩,⟨oD,oD,oD,oD,oD,oD,oD,oD,oD⟩⟩
 have ak:=A_ (show B9s xs ys s t=AH from E2g ab);clear aD;go_wp2;go_ret;exact⟨by rw[ak.o];rfl,al⟩

theorem C3j (v:AU) (n:Nat) (xs ys:List Int) (af:AU) (t:TTri) (aq:List Nat) (w:AD) (ab:Plc w v n xs ys) (ad:A6a xs) (ae:A6a ys) (aN:n<=40) (W:Agg w af t aq) (u:A5v n t)
  (ac:inB 0 t.4 2=AF) (aa:inB 0 t.5 60=AF) (ax:0<A5u xs ys t.a t.b t.c) :
  BL prog 67 #[v,af] w (A0b w (J AF)):=by
 have ai:=A_ ab;have ak:=A_ ad;have al:=A_ ae;have T:=A_ u;have an:=A_ (by unfold inB;have:=u.1;simp;omega:inB 0 t.a ((n:Int) - 1)=AF);have ao:=A_ (by unfold inB;have:=u.2.1;simp;omega:inB 0 t.b ((n:Int) - 1)=AF);have ap:=A_ (by unfold inB;have:=u.2.2;simp;omega:inB 0 t.c ((n:Int) - 1)=AF);have aj:=A_ ac;have ah:=A_ aa;obtain⟨r,Y⟩:∃ r,A5u xs ys t.a t.b t.c=r:=⟨_,rfl⟩
 rw[Y]at ax;have R:=A_ Y;have aO:(n:Int)<=40:=oS;obtain⟨A,aC,ay,aX,aD,az,aY,aE,aA,aB,rfl,ar,au⟩:=ab;have am:=A_ W;obtain⟨rfl,_,_,_,_,_,_⟩:=TTri.agg W;clear W ar au ad ae u ac aa Y;go_enter func67,ntmps67;go_wp2_with fail;refine(A2g _ t _ _ (am.below Below.go)).mono ?_;rintro _ O ⟨rfl,X⟩;have ag:=A_ (show Bw w O from Below.go);obtain⟨aF,aJ⟩:=F_ X;have aP:w.1.size<O.1.size:=ltg X;have aT:w.1.size+1<O.1.size:=ltg X;go_wp2_with fail;go_loopg [9] 3 (λg s wr=>∃ k:Nat,k+g=3/\s=N RD k/\Bw O wr);case atStart=>exact⟨0,rfl,rfl,DI _ _⟩
 case round =>
  obtain⟨k,H,rfl,E⟩:=hrel;have D:=A_ E;obtain⟨aI,aM⟩:=F_ E;have aS:w.1.size<wr.1.size:=by have:=E.size;omega
  have aW:w.1.size+1<wr.1.size:=by have:=E.size;omega
  obtain rfl|rfl|rfl|rfl:k=0\/k=1\/k=2\/k=3:=oS
  ·obtain rfl:gk=2+1:=oS
   clear H;go_wp2_with fail;have C:=A0s t.a 0 ((n:Int) - 1) wr;rw[an.o]at C;refine C.mono ?_;clear C;rintro _ h ⟨rfl,b⟩;go_wp2_with fail;go_roundg 2;case measure=>omega
   case rel=>exact⟨0+1,rfl,gN,BH D b⟩
  ·obtain rfl:gk=1+1:=oS
   clear H;go_wp2_with fail;have C:=A0s t.b 0 ((n:Int) - 1) wr;rw[ao.o]at C;refine C.mono ?_;clear C;rintro _ h ⟨rfl,b⟩;go_wp2_with fail;go_roundg 1;case measure=>omega
   case rel=>exact⟨1+1,rfl,gN,BH D b⟩
  ·obtain rfl:gk=0+1:=oS
   clear H;go_wp2_with fail;have C:=A0s t.c 0 ((n:Int) - 1) wr;rw[ap.o]at C;refine C.mono ?_;clear C;rintro _ h ⟨rfl,b⟩;go_wp2_with fail;go_roundg 0;case measure=>omega
   case rel=>exact⟨2+1,rfl,gN,BH D b⟩
  clear H;go_wp2_with fail;have C:=A0s t.4 0 2 wr;rw[aj.o]at C;refine C.mono ?_;clear C;rintro _ h ⟨rfl,b⟩;obtain⟨aG,aK⟩:=F_ b;have aQ:w.1.size<h.1.size:=by have:=b.size;omega
  have aU:w.1.size+1<h.1.size:=by have:=b.size;omega
  go_wp2_with fail;have C:=A0s t.5 0 60 h;rw[ah.o]at C;refine C.mono ?_;clear C;rintro _ w3 ⟨rfl,G⟩;obtain⟨aH,aL⟩:=F_ G;have aR:w.1.size<w3.1.size:=by have:=G.size;omega
  have aV:w.1.size+1<w3.1.size:=by have:=G.size;omega
  have Z:=A_ (BH (BH (BH ag D) b) G);go_wp2_with fail;have C:=A3v _ n xs ys t.a t.b t.c w3 (ai.below Z) ak al T.1 T.2.1 T.2.2;rw[R.o]at C;refine C.mono ?_;clear C;rintro _ aZ ⟨rfl,aw⟩;go_wp2;go_ret;exact⟨rfl,BH Z aw⟩
end
def D9z (xs ys:List Int) (a b:Int) (n:Nat):Prop:=∀ c:Nat,c<n->(c:Int)=a\/(c:Int)=b\/A5t xs ys a b c=AH
def E9p (xs ys:List Int) (n:Nat) (t:TTri):Prop:=D9z xs ys t.a t.b n/\D9z xs ys t.b t.c n/\D9z xs ys t.c t.a n
section
theorem D1l {xs ys:List Int} {n:Nat} {t:TTri} (h:A5v n t) (b:E9p xs ys n t) {i:Nat} (hi:i<3) :
  (0<=cnr t i/\cnr t i<n)/\(0<=cnr t ((i+1) % 3)/\cnr t ((i+1) % 3)<n)/\D9z xs ys (cnr t i) (cnr t ((i+1) % 3)) n:=by
 obtain rfl|rfl|rfl:i=0\/i=1\/i=2:=oS;·exact⟨h.1,h.2.1,b.1⟩
 ·exact⟨h.2.1,h.2.2,b.2.1⟩
 exact⟨h.2.2,h.1,b.2.2⟩
attribute [local go_sem] ix0 ix1 ix2

theorem C6x (v:AU) (n:Nat) (xs ys:List Int) (B:Option AJ) (m d:Nat) (ts:List TTri) (aY:List Nat) (w:AD) (aE:Plc w v n xs ys) (aF:A6a xs) (aG:A6a ys) (br:n<=40) (aH:Sl w B m d ts aY) (bq:m<=48)
  (aB:∀ t∈ts,A5v n t) (aD:∀ t∈ts,E9p xs ys n t) :
  BL prog 71 #[v,S B m d] w (A0b w (J AH)):=by
 have aR:=A_ aE;have aS:=A_ aF;have aT:=A_ aG;have aN:=A_ aB;have aQ:=A_ aD;obtain⟨A,bl,bg,bu,bm,bh,bv,bn,bi,bj,rfl,a6,a7⟩:=aE;have aU:=A_ aH;clear a6 a7 aF aG aB aD aH;go_enter func71,ntmps71;go_wp2_with fail;refine Code.new λaX u=>?_;go_loopg [14] m (λg s wr=>∃ k:Nat,k+g=m/\s=N RD k/\BI (Bw aX wr));case atStart=>exact⟨0,oS,rfl,DI _ _⟩
 case round =>
  obtain⟨k,aC,rfl,T⟩:=hrel;have ah:=A_ (BH u.b T);obtain⟨ao,-,h⟩:=bx (A0z u.k T);rcases CG k m with ad|ad
  ·have be:(k:Int)<m:=oS
   obtain⟨bk,bz,t,rfl,bo,am,aZ,a1,a2,a3,a4,ak⟩:=TTri.elemA (aU.below ah) ad;have aL:=A_ ak;have aO:=A_ (aN t (DH am));have aP:=A_ (aQ t (DH am));have aq:=A_ (show I64 t.a/\I64 t.b/\I64 t.c from have aj:=(TTri.agg ak).2.2;⟨aj.1,aj.2.1,aj.2.2.1⟩);obtain⟨g,rfl⟩:∃ g,gk=g+1:=⟨gk - 1,oS⟩
   have bd:=A_ (by omega:k+1+g=m);clear aC ad am ak;go_wp2_with fail;refine(A2g _ t _ (wr.alloc (BG #[N RD t.a,N RD t.b,N RD t.c,N RD t.4,N RD t.5] 109)) (aL.below (BP _))).mono ?_;rintro _ bB ⟨rfl,ax⟩;have ap:=A_ (BH T.o (JK (BP _) (ax.mono sI)));clear ax aZ a1 a2 a3 a4 ao h ah T;obtain⟨ao,-,h⟩:=bx (A0z u.k ap);go_wp2_with fail;refine Code.new λau W=>?_;have E:=A_ (BH ap W.b);go_loopg [21] 3 (λg s wr=>∃ i:Nat,i+g=3/\s=N RD i/\BI (Bw au wr));case atStart=>exact⟨0,rfl,rfl,DI _ _⟩
   case round =>
   clear ao h;obtain⟨i,aA,rfl,b⟩:=hrel;obtain⟨X,-,h⟩:=bx (A0z u.k (BH E b));obtain⟨⟨Y,Z,aa⟩,ae,q1⟩:=E1u (A0z W.k b);rcases CG i 3 with ab|ab
   ·obtain⟨aw,rfl⟩:∃ g,gk=g+1:=⟨gk - 1,oS⟩
    have bc:=A_ (by omega:i+1+aw=3);have bp:(i:Int)<3:=oS;obtain⟨⟨m1,-⟩,an,-⟩:=F1e ab;have bA:=λw=>ixn t ab w;have bf:=A_ (C3u aq i);have aV:=A_ (C3u aq ((i+1) % 3));obtain⟨aI,aJ,O⟩:=D1l aO aP ab;have aW:=A_ aI;have ar:=A_ aJ;have O:=A_ O;have bt:(((i+1) % 3:Nat):Int)<3:=oS;generalize cnr t i=a at *;generalize (i+1) % 3=j at *;obtain⟨D,ai⟩:∃ D,cnr t j=D:=⟨_,rfl⟩
    have af:=A_ ai;rw[ai]at aV ar O;clear ai;replace q1:=q1 an af;clear aA aI aJ;obtain⟨U,a5⟩:∃ U,U=wr:=⟨_,rfl⟩
    subst a5;go_wp2_with fail;go_loopg [33] n (λg s wr=>∃ c:Nat,c+g=n/\s=N RD c/\BI (Bw au wr));case atStart=>exact⟨0,oS,rfl,b.o⟩
    case round =>
     clear X Y Z aa h ae q1 b;obtain⟨c,ay,rfl,b⟩:=hrel;obtain⟨X,-,h⟩:=bx (A0z u.k (BH E b));obtain⟨⟨Y,Z,aa⟩,ae,q1⟩:=E1u (A0z W.k b);replace q1:=q1 an af;have aM:=A_ (BH u.b (BH E b));rcases CG c n with ac|ac
     ·have az:(c:Int)<n:=oS
      have aK:=A_ (show 0<=(c:Int)/\(c:Int)<n from⟨oS,az⟩);have F:=A_ (O c ac);obtain⟨g,rfl⟩:∃ g,gk=g+1:=⟨gk - 1,oS⟩
      have al:=A_ (by omega:c+1+g=n);clear ay ac;by_cases G:(c:Int)=a
      ·have a8:((c:Int) != a)=AH:=by simp[G]
       clear G;go_wp2_with fail;go_roundg g;case measure=>omega
       case rel=>exact⟨c+1,al,gN,b⟩
      have a8:((c:Int) != a)=AF:=by simp[G]
      by_cases H:(c:Int)=D
      ·have ba:((c:Int) != D)=AH:=by simp[H]
       clear H;go_wp2_with fail;go_roundg g;case measure=>omega
       case rel=>exact⟨c+1,al,gN,b⟩
      have ba:((c:Int) != D)=AF:=by simp[H]
      have F:=A_ ((F.resolve_left G).resolve_left H);clear G H;go_wp2_with fail;have C:=B2s _ n xs ys a D c wr (aR.below aM) aS aT aW ar aK;rw[F.o]at C;refine C.mono ?_;clear C;rintro _ bD ⟨rfl,a9⟩;have ag:=A_ (BH b a9);clear X Y Z aa h ae q1;obtain⟨X,-,h⟩:=bx (A0z u.k (BH E ag));obtain⟨⟨Y,Z,aa⟩,ae,q1⟩:=E1u (A0z W.k ag);replace q1:=q1 an af;go_wp2_with fail;go_roundg g;case measure=>omega
      case rel=>exact⟨c+1,al,gN,ag⟩
     obtain rfl:c=n:=oS;have az:¬ ((c:Int)<c):=oS;clear ay ac;go_wp2_with fail;go_roundg aw;case measure=>omega
     case rel=>exact⟨i+1,bc,gN,b⟩
   obtain rfl:i=3:=oS;clear aA;go_wp2_with fail;go_roundg g;case measure=>omega
   case rel=>exact⟨k+1,bd,gN,BH E b⟩
  obtain rfl:k=m:=oS;have be:¬ ((k:Int)<k):=oS;clear aC ad;go_wp2;go_ret;exact⟨rfl,ah⟩
end
def A6x (es:List TEdge) (k:Int) (t:TTri):Nat->List TEdge
 |0=>es
 |i+1=>B2f (A6x es k t i) k (cnr t i) (cnr t ((i+1) % 3))
theorem C6h (es:List TEdge) (k:Int) (t:TTri):∀ i,(A6x es k t i).length<=es.length+i
 |0=>CE _
 |i+1=>by
  have h1:=B6s (A6x es k t i) k (cnr t i) (cnr t ((i+1) % 3))
  have:=C6h es k t i
  rw[A6x];omega
theorem E2n {w wr:AD} {g n cap:Nat} {cells:List AU} {es:List TEdge} {bs:List Nat} (h:wr.ownsRow (w.1.size+1) 65 4 (S (QZ ⟨g,0,I⟩) n cap) n cells) (ad:Sl wr (QZ ⟨g,0,I⟩) n cap es bs):Own w wr bs:=by
 obtain⟨aj,ak,al,H,O⟩:=ad;rcases Nat.eq_zero_or_pos n with b|b;·rw[H b];exact Own.nil _ _
 obtain⟨af,ao,E,T,rfl,ab,an,X⟩:=O b;have Y:E.flatten=[]:=by
  rw[List.flatten_eq_nil_iff];intro l ac;obtain⟨k,u⟩:=KE.1 ac;have aa:k<es.length:=by rw[<-ab];exact(DM.1 u).1
  obtain⟨ah,_,W⟩:=X k _ l (List.getElem?_eq_getElem aa) u;exact(TEdge.open_ W).2.1
 rw[Y];cases T;rcases h.2 with⟨G,_⟩|⟨g',ag,ai,ae,am,Z,_⟩
 ·cases G
 cases ae;exact⟨sI,λx D=>by simp at D;subst D;exact⟨oS,_,_,Z⟩⟩

theorem E4t {w b:AD} {T W:Option AJ} {ac X n1 Y:Nat} {h cap D p i g:Nat} {k:Int} {lt:Bool} {E G:List TEdge} {t:TTri} (aa:b.ownsRow (w.1.size+1) 65 4 (S (QZ ⟨h,0,I⟩) D cap) D (E.flatMap A8d)) (ae:E.length=D) (af:p<D)
  (ad:FC (w.1.size+1) (w.alloc (BG #[S T ac X,S W n1 Y] 26)) b) (H:b.cell? ⟨g,0,I⟩=QZ (N RD t.a)/\b.cell? ⟨g,1,I⟩=QZ (N RD t.b)/\b.cell? ⟨g,2,I⟩=QZ (N RD t.c)) (ah:h≠g) (ag:g<b.1.size) (ab:A6x G k t (i+1)=E.modify p (C2b k lt)) :
  (∃ u,b.cell? ⟨h,p*4+(if lt then 2 else 3),I⟩=QZ u)/\b.frozen? ⟨h,p*4+(if lt then 2 else 3),I⟩=AH/\h<b.1.size /\
  (b.setCell ⟨h,p*4+(if lt then 2 else 3),I⟩ (N RD k)).ownsRow (w.1.size+1) 65 4 (S (QZ ⟨h,0,I⟩) D cap) D ((A6x G k t (i+1)).flatMap A8d)/\(A6x G k t (i+1)).length=D /\
  FC (w.1.size+1) (w.alloc (BG #[S T ac X,S W n1 Y] 26)) (b.setCell ⟨h,p*4+(if lt then 2 else 3),I⟩ (N RD k))/\g<(b.setCell ⟨h,p*4+(if lt then 2 else 3),I⟩ (N RD k)).1.size /\
  ((b.setCell ⟨h,p*4+(if lt then 2 else 3),I⟩ (N RD k)).cell? ⟨g,0,I⟩=QZ (N RD t.a)/\(b.setCell ⟨h,p*4+(if lt then 2 else 3),I⟩ (N RD k)).cell? ⟨g,1,I⟩=QZ (N RD t.b)/\(b.setCell ⟨h,p*4+(if lt then 2 else 3),I⟩ (N RD k)).cell? ⟨g,2,I⟩=QZ (N RD t.c)):=by
 have Z:=FG aa _ rfl;subst ae;obtain⟨r,-,c,f⟩:=A3a aa (i:=p*4+(if lt then 2 else 3)) (by rw[D5v];split<;>omega) (N RD k);rw[<-E1m k lt E p af,<-ab]at r;have O:∀ o,(b.setCell ⟨h,p*4+(if lt then 2 else 3),I⟩ (N RD k)).cell? ⟨g,o,I⟩=b.cell? ⟨g,o,I⟩:=λo=>AD.cell?_setCell_other b _ ⟨g,o,I⟩ _ sI;exact⟨c,f,Z.2,r,by rw[ab,List.length_modify],ad.setCell (p:=⟨h,p*4+(if lt then 2 else 3),I⟩) Z.1 _,by simpa using ag,(O 0).trans H.1,(O 1).trans H.2.1,(O 2).trans H.2.2⟩
theorem A7q (v:AU) (m:TMesh) (b:List Nat) (w:AD) (br:Agg w v m b) (aC:m.triangles.length<=48) :
  BL prog 25 #[v] w (A0w w (P_ m.triangles)):=by
 obtain⟨ae,aq,al,cW,aH,n1,am,cX,rfl,rfl,cm,aF⟩:=TMesh.agg br;have a2:=A_ aF;have a1:=A_ aF.1;have cL:n1<=48:=by rw[<-aF.1];exact aC
 obtain⟨cV,cH,cQ,cR,cU⟩:=FB D2l;clear br cm aF aC;obtain⟨E,bp⟩:∃ E,m.triangles=E:=⟨_,rfl⟩
 rw[bp]at a2 a1 ⊢;clear bp;go_enter func25,ntmps25;go_wp2_with fail;go_loopg [3,17] n1 (λg s3 s17 wr=>∃ (k gB cap L:Nat),k+g=n1/\s17=N RD k/\s3=S (QZ ⟨gB,0,I⟩) L cap/\BI ((A4g E k).length=L)/\BI (wr.ownsRow (w.1.size+1) 65 4 (S (QZ ⟨gB,0,I⟩) L cap) L ((A4g E k).flatMap A8d))/\BI (∀ e∈A4g E k,B0c e)/\FC (w.1.size+1) (w.alloc (BG #[S ae aq al,S aH n1 am] 26)) wr);case atStart =>
  refine⟨0,w.1.size+1,0,0,oS,rfl,rfl,?_,?_,?_,?_⟩;·show([]:List TEdge).length=0;rfl
  ·have:=World.ownsRow_made (base:=w.1.size+1) (e:=65) (size:=4) (w.alloc (BG #[S ae aq al,S aH n1 am] 26)) #[] 0 sI (EO _) rfl;rw[World.size_alloc]at this;exact this
  ·show ∀ e∈([]:List TEdge),B0c e;intro e b6;cases b6
  exact(DI _ _).alloc sI _
 case round =>
  obtain⟨k,gB,cap,L,bh,rfl,rfl,au,ap,aE,aw⟩:=hrel;have aX:=A_ (show Bw w wr from(BP (BG #[S ae aq al,S aH n1 am] 26)).trans (aw.mono oS));rcases CG k n1 with aB|aB
  ·obtain⟨g,rfl⟩:∃ g,gk=g+1:=⟨gk - 1,oS⟩
   have cc:=A_ (by omega:k+1+g=n1);have ce:(k:Int)<n1:=oS;have cJ:(k:Int)<=48:=oS;obtain⟨a7,bv,t,rfl,cB,bt,ct,cu,cv,cw,cx,bc⟩:=TTri.elemA (a2.below aX) aB;have bK:=A_ bt;have aU:=A_ bc;have aV:=A_ aw;clear bh aB bt bc aw;go_wp2_with fail;refine(A2g _ t _ _ (aU.below (BP _))).mono ?_;rintro _ h ⟨rfl,bd⟩;obtain⟨b5,b7⟩:=F_ bd;obtain⟨G,az⟩:∃ D,A4g E k=D:=⟨_,rfl⟩
   rw[az]at au ap aE;have aK:=A_ (by rw[A4g,List.getD_eq_getElem?_getD,bK.o,az];rfl:A4g E (k+1)=E8t G k t);have bG:=A_ (by rw[<-az];exact A5z E k:G.length<=3*k);have cK:k<=48:=oS;have a5:=A_ (show I64 t.a/\I64 t.b/\I64 t.c from by obtain⟨_,_,cp,cq,cs,_,_⟩:=TTri.agg aU;exact⟨cp,cq,cs⟩);have bL:=A_ (by constructor<;>omega:I64 (k:Int));have aZ:=A_ (show Bw wr h from JK (BP _) (bd.mono sI));have R1:=A_ (I_ ap aZ);have aW:=A_ (aV.trans (aZ.mono (by have:=aV.size;simp at this;omega)));have cj:=(FG R1 _ rfl).2;clear az;go_wp2_with fail;go_loopg [3,25] 3 (λg s3 s25 wr=>∃ (i T ab u:Nat),i+g=3/\s25=N RD i/\s3=S (QZ ⟨T,0,I⟩) u ab/\BI ((A6x G k t i).length=u)/\BI (wr.ownsRow (w.1.size+1) 65 4 (S (QZ ⟨T,0,I⟩) u ab) u ((A6x G k t i).flatMap A8d))/\BI (∀ e∈A6x G k t i,B0c e)/\T≠h.1.size/\FC (w.1.size+1) (w.alloc (BG #[S ae aq al,S (QZ ⟨a7,bv,I⟩) n1 am] 26)) wr/\h.1.size<wr.1.size/\(wr.cell? ⟨h.1.size,0,I⟩=QZ (N RD t.a)/\wr.cell? ⟨h.1.size,1,I⟩=QZ (N RD t.b)/\wr.cell? ⟨h.1.size,2,I⟩=QZ (N RD t.c)));case atStart=>exact⟨0,gB,cap,L,rfl,rfl,rfl,au.o,I_ R1.o (BP _),aE.o,oS,aW.o.alloc (by have:=aW.o.size;simp at this;omega) _,sI,⟨oD,oD,oD⟩⟩
   case round =>
   clear b5 b7 au ap aE R1 cj;obtain⟨i,T,ab,u,bf,rfl,rfl,O,ao,aD,aQ,be,cP,⟨a6,b1,b2⟩⟩:=hrel;have aJ:=A_ be;clear be;rcases CG i 3 with aP|aP
   ·have b9:=λw=>ixn t aP w
    obtain⟨j,bg,ca⟩:∃ j:Nat,(i+1) % 3=j/\j<3:=⟨_,rfl,Nat.mod_lt _ dE⟩
    have bX:=C7j ⟨a6,b1,b2⟩ ca;have cI:(i:Int)<3:=oS;have aC:((i:Int)+1).tmod 3=j:=by rw[<-bg];rcases(by omega:i=0\/i=1\/i=2)with rfl|rfl|rfl<;>rfl
    have cb:(j:Int)<3:=oS;have aL:=A_ (by rw[A6x,bg]:A6x G k t (i+1)=B2f (A6x G k t i) k (cnr t i) (cnr t j));have a3:=A_ (C3u a5 i);have a4:=A_ (C3u a5 j);generalize cnr t i=a at *;generalize cnr t j=b at *;obtain⟨D,aO⟩:∃ D,A6x G k t i=D:=⟨_,rfl⟩
    rw[aO]at O ao aD aL;have aj:=A_ (by have:=C6h G k t i;rw[aO,O.o]at this;have:=bG.o;omega:u<=65536);have cy:(u:Int)<=65536:=by have:=aj.o;omega
    have bP:=A_ (by rw[aL.o];exact E5b bL a3 a4 aD:∀ e∈A6x G k t (i+1),B0c e);have af:=A_ (D9a a3 a4);obtain⟨p,ad⟩:∃ p,A3z D (C8i a b)=p:=⟨_,rfl⟩
    obtain⟨an,X⟩:∃ f,A6o D (C8i a b)=f:=⟨_,rfl⟩
    have ak:=A_ (by rw[<-ad,<-O.o];exact D9w _ _:p<=u);have cN:(p:Int)<=u:=by have:=ak.o;omega
    have bD:=A_ (show an=AF->p<u from λW=>by unfold A6o at X;rw[ad,O.o,W]at X;simp at X;exact X.1);have aI:=A_ (show B2f D k a b=(bif an then D else C8f D p (C8i a b)).modify p (C2b k (BQ (a<b))) by unfold B2f;simp only[ad,X];cases an<;>rfl);obtain⟨bV,bo,_⟩:=C9f ao O aD;have cF:T<wr.1.size:=(FG ao _ rfl).2;obtain⟨Z,ci⟩:∃ l,min a b=l:=⟨_,rfl⟩
    obtain⟨Y,b8⟩:∃ l,max a b=l:=⟨_,rfl⟩
    have bI:=A_ (by unfold C8i;rw[ci,b8]:C8i a b=⟨Z,Y,-1,-1⟩);rw[bI.o]at af ad X aI;have bJ:=A_ aI;clear aI;have C:=B4a (QZ ⟨T,0,I⟩) u ab D bV (BJ #[N RD Z,N RD Y,N RD (-1),N RD (-1)]) ⟨Z,Y,-1,-1⟩ [] (wr.alloc (BG #[N RD Z,N RD Y,N RD (-1),N RD (-1)] 65)) (bo.below (BP _)) aj (TEdge.mkAgg (x:=⟨Z,Y,-1,-1⟩) af.1 af.2.1 af.2.2.1 af.2.2.2);rw[ad,X]at C;have aT:=A_ C;obtain⟨gk,rfl⟩:∃ q,gk=q+1:=⟨gk - 1,oS⟩
    have bH:=A_ (by omega:(i+1)+gk=3);clear C ad X bo aO bf;go_wp2_with fail;refine aT.mono ?_;clear aT;rintro _ aa ⟨rfl,ax⟩;obtain⟨cD,cE⟩:=F_ ax;have aY:=A_ (show Bw wr aa from JK (BP _) (ax.mono sI));have cO:wr.1.size<aa.1.size:=by have:=ax.size;simp at this;omega
    have R2:=A_ (I_ ao aY);have ai:=A_ (aJ.trans (aY.mono (by have:=aJ.size;simp at this;omega)));have ar:=A_ (show(aa.cell? ⟨h.1.size,0,I⟩=QZ (N RD t.a)/\aa.cell? ⟨h.1.size,1,I⟩=QZ (N RD t.b)/\aa.cell? ⟨h.1.size,2,I⟩=QZ (N RD t.c))from⟨oD,oD,oD⟩);have aG:h.1.size<aa.1.size:=oS;clear a6 b1 b2 bX b9 aC cb ax;go_upto_if 48 with fail
    go_cut [3] (λs3 wx=>∃ (ah ac H:Nat) (ag:List TEdge),s3=S (QZ ⟨ah,0,I⟩) H ac/\BI (ag=bif an then D else C8f D p ⟨Z,Y,-1,-1⟩)/\BI (ag.length=H)/\BI (p<H)/\BI (H<=65537)/\BI (wx.ownsRow (w.1.size+1) 65 4 (S (QZ ⟨ah,0,I⟩) H ac) H (ag.flatMap A8d))/\BI (ah≠h.1.size) /\
     BI (FC (w.1.size+1) (w.alloc (BG #[S ae aq al,S (QZ ⟨a7,bv,I⟩) n1 am] 26)) wx)/\BI (h.1.size<wx.1.size)/\BI (wx.cell? ⟨h.1.size,0,I⟩=QZ (N RD t.a)/\wx.cell? ⟨h.1.size,1,I⟩=QZ (N RD t.b)/\wx.cell? ⟨h.1.size,2,I⟩=QZ (N RD t.c)))
    case first =>
     cases an
     ·go_wp2_with fail
      refine(D6w (w.1.size+1) T u ab aa.1.size p (D.flatMap A8d) [N RD Z,N RD Y,N RD (-1),N RD (-1)] _ (I_ R2 (BP _)) (by have:=ai.size;simp at this;simp;omega) aj.o ak.o (DB aa _) rfl (by intro v bq;simp at bq;rcases bq with rfl|rfl|rfl|rfl<;>rfl) E5o oS).mono ?_;rintro _ w3 ⟨a8,ac,rfl,bm,aA,bk⟩;have bj:a8≠h.1.size:=λe=>bk.elim (λW=>aQ (W ▸ e)) (λW=>by simp at W;omega);have ay:=aA.block h.1.size oR (by intro e;injection e with e;exact aQ e.symm);have bR:=A_ bm;have bN:=A_ bj;have bz:=A_ (show(w3.cell? ⟨h.1.size,0,I⟩=QZ (N RD t.a)/\w3.cell? ⟨h.1.size,1,I⟩=QZ (N RD t.b)/\w3.cell? ⟨h.1.size,2,I⟩=QZ (N RD t.c))from⟨(JY (a:=⟨h.1.size,0,I⟩) ay).trans (((BP _).cell (p:=⟨h.1.size,0,I⟩) aG).trans ar.1),(JY (a:=⟨h.1.size,1,I⟩) ay).trans (((BP _).cell (p:=⟨h.1.size,1,I⟩) aG).trans ar.2.1),(JY (a:=⟨h.1.size,2,I⟩) ay).trans (((BP _).cell (p:=⟨h.1.size,2,I⟩) aG).trans ar.2.2)⟩);have bF:=A_ ((ai.alloc (by have:=ai.size;simp at this;omega) _).grown aA (by have:=ai.o.size;simp at this;simp;omega) (λk2 cd=>by injection cd with W;subst W;exact(FG R2 _ rfl).1));have cn:h.1.size<w3.1.size:=by have:=aA.size;simp at this;omega
      clear bm aA bk ay bj;go_wp2_with fail;go_meet;exact⟨a8,ac,u+1,C8f D p ⟨Z,Y,-1,-1⟩,rfl,rfl,(by rw[D3s (by rw[O.o];exact ak.o),O.o]:_=_),Nat.lt_succ_of_le ak.o,Nat.succ_le_succ aj.o,(by rw[E3a (by rw[O.o];exact ak)];exact bR:World.ownsRow _ _ _ _ _ _ _),bN,bF,cn,bz⟩
     have bQ:=A_ (bD rfl);go_wp2_with fail;go_meet;exact⟨T,ab,u,D,rfl,rfl,O,bQ,Nat.le_succ_of_le aj,R2,aQ,ai,aG,ar⟩
    case rest =>
    obtain⟨ah,ac,H,ag,rfl,b0,cg,bl,ch,ck,bi,b3,co,b4⟩:=hcut;rename AD=>wx;rename (∀ (a:Act) (w:AD),Code.wp _ _ _ a w->_)=>a9;refine a9 _ _ ?_;clear a9;have cM:(p:Int)<H:=by have:=bl.o;omega
    have cz:(H:Int)<=65537:=by have:=ch.o;omega
    have bO:=A_ (by rw[aL.o,bJ.o,b0.o]:A6x G k t (i+1)=ag.modify p (C2b k (BQ (a<b))));have bT:=A_ (fun(lt:Bool) (W:BQ (a<b)=lt)=>E4t (i:=i) (k:=k) (lt:=lt) ck.o cg.o bl.o b3.o b4.o bi.o co.o (W ▸ bO.o));by_cases ba:a<b
    all_goals
     have M:=bT.o _ (by first|exact decide_eq_true ba|exact decide_eq_false ba);obtain⟨⟨cY,bY⟩,bZ,cG,aR,bu,aN,aS,aM⟩:=M;simp only[if_true,if_false,Bool.false_eq_true]at bY bZ aR aN aS aM;have bS:=A_ aR;have bM:=A_ bu;have bE:=A_ aN;have bU:=A_ aS;have bA:=A_ aM;clear aR bu aN aS aM;go_wp2_with fail;go_roundg gk;case measure=>omega
     case rel=>exact⟨i+1,ah,ac,H,bH,gN,rfl,bM,bS,bP,bi,bE,bU,bA⟩
   obtain rfl:i=3:=oS;obtain rfl:gk=0:=oS;clear bf aP;go_wp2_with fail;go_roundg g;case measure=>omega
   case rel=>exact⟨k+1,T,ab,u,cc.o,gN,rfl,(by rw[aK.o];exact O.o:(A4g E (k+1)).length=u),(by rw[aK.o];exact ao.o:wr.ownsRow _ _ _ _ _ ((A4g E (k+1)).flatMap A8d)),(by rw[aK.o];exact aD:∀ e∈A4g E (k+1),B0c e),aJ⟩
  obtain rfl:k=n1:=oS;have ce:¬ ((k:Int)<k):=oS;have bB:=A_ (by unfold P_;rw[a1.o]:A4g E k=P_ E);clear bh aB aw;go_wp2;go_ret;rw[<-bB.o];obtain⟨bW,bn,cA⟩:=C9f ap au aE;exact⟨_,L,cap,bW,rfl,bn,E2n ap bn,aX⟩
end Go.Proofs.YtjcanieccnljfaaGreat.X
