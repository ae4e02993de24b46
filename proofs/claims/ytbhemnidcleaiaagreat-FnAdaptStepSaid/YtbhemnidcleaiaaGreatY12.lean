/- A part of the proof. -/
import Derived.Test.YtbhemnidcleaiaaGreatY11
import Derived.Laws.CopyRow
import Derived.Laws.CopyOwn
import Derived.Lib.AppendZeros
import Derived.Lib.Overlaps
import Derived.Lib.Walk
import Derived.Laws.Externs
import Derived.Laws.IdiomCopy
import Derived.Shelf.RegionOpenPlain
import Derived.Shelf.Spec.SlicesInsertGrow
set_option linter.constructorNameAsVariable false
set_option maxHeartbeats 16000000
set_option maxRecDepth 10000
namespace Go
section
variable {P:Program}
theorem C7v (w:World) (u W ty elem:TypeId) (k g o dLen dCap:Nat) (a:Addr) (sLen sCap:Nat) (b:Array Value) (t:TypeId) (cs:List Value)
  (T:P.underlying u=some (.slice elem)) (D:(P.info? elem).map (·.size)=some k)
  (H:w.1[g]?=some (.cells b t (0,0))) (K:cs.length=Nat.min sLen dLen*k)
  (O:∀ j v,cs[j]?=some v->w.cell? (a.add j)=some v) (G:o+cs.length<=b.size) (E:∀ v∈cs,v.oneCell'=true) :
  (Builtin.copy_ #[u,W] ty #[.slice (some ⟨g,o,none⟩) dLen dCap,.slice (some a) sLen sCap]).run P w =
   .ok (goInt (Nat.min sLen dLen)) (w.setRow g (b.toList.take o++cs++b.toList.drop (o+cs.length)).toArray):=by
 have J:=run_loadCells_list (P:=P) w a cs O;have S:=run_storeCells_at P g o t cs 0 b w H (by simpa using G) E;cases h:P.info? elem with
 |none=>simp[h]at D
 |some i =>
  have I:i.size=k:=by simpa[h]using D
  simp[Builtin.copy_,run_underlying T,Builtin.lenOf,Builtin.firstCells,sizeOf,typeInfo,h,I,<-K,J,S]
end
def A8g (l:List Value) (o:Nat) (cs:List Value):List Value:=l.take o++cs++l.drop (o+cs.length)
theorem A8b {l cs:List Value} {o:Nat} (h:o+cs.length<=l.length):(A8g l o cs).length=l.length:=by
 unfold A8g;simp;omega
theorem E4u {l xs ys:List Value} {a:Nat} (h:a+xs.length+ys.length<=l.length):(A8g (A8g l a xs) (a+xs.length) ys).take (a+xs.length+ys.length)=l.take a++xs++ys:=by
 have u:(l.take a).length=a:=sO;have b:(A8g l a xs).take (a+xs.length)=l.take a++xs:=by unfold A8g;rw[List.take_append_of_le_length sO];rw[List.take_of_length_le sO]
 unfold A8g at b ⊢;rw[b,List.take_append_of_le_length sO];rw[List.take_of_length_le sO]
theorem E2e {l xs ys:List Value} {a:Nat} (h:a+xs.length+ys.length<=l.length):(A8g (A8g l (a+xs.length) ys) a xs).take (a+xs.length+ys.length)=l.take a++xs++ys:=by
 have b:(A8g l (a+xs.length) ys).take a=l.take a:=by unfold A8g;rw[List.append_assoc,List.take_append_of_le_length sO,List.take_take];congr 1;omega
 have u:(A8g l (a+xs.length) ys).drop (a+xs.length)=ys++l.drop (a+xs.length+ys.length):=by unfold A8g;rw[List.append_assoc,List.drop_append_of_le_length sO,List.drop_take];simp
 show(List.take a (A8g l (a+xs.length) ys)++xs++List.drop (a+xs.length) (A8g l (a+xs.length) ys)).take _=_;rw[b,u,<-List.append_assoc];rw[List.take_append_of_le_length sO];rw[List.take_of_length_le sO]
theorem B4z (w:World) (g:Nat) (cs:Array Value):w.grownBy (w.setRow g cs) (some g) :=
 ⟨rfl,rfl,rfl,sI,λk _ hk=>setRow_other w g k cs (λe=>hk (by rw[e]))⟩
end Go
namespace Go.Proofs.YtbhemnidcleaiaaGreat.X
open Go.RowKit Go.XB Go.XN Go.Lib Go.Shelf Proofs.Tryz
attribute [local go_sem] L_ opAt N_ M_ Region.wanted yielded
attribute [local simp] N_ M_ MP.eq MP.agg MP.sl A0r
theorem D2l:(prog.info? 70).map (λi=>(i.zero,i.size,i.bytes))=some (some (.agg #[.int .i64 0,.int .i64 0,.int .i64 0,.int .i64 0]),4,32):=kR

def B9o (w:World) (base g n i:Nat) (cells xs:List Value) (e:Ending) (w':World):Prop :=
 ∃ g' cap',e=.returned (.slice (some ⟨g',0,none⟩) (n+1) cap')/\w'.ownsRow base 70 4 (.slice (some ⟨g',0,none⟩) (n+1) cap') (n+1) (cells.take (i*4)++xs++cells.drop (i*4))/\w.grownBy w' (some g)/\(g'=g\/w.1.size<=g')

set_option maxRecDepth 100000 in
theorem D8h (base g n cap u:Nat) (cells xs:List Value) (w:World) (h:w.ownsRow base 70 4 (.slice (some ⟨g,0,none⟩) n cap) n cells) (K:base<=w.1.size) (ak:n<=65536)
  (Z:w.1[u]?=some (.cells xs.toArray 70)) (ab:xs.length=4) (H:∀ v∈xs,v.oneCell'=true) :
  Calls prog 76 #[.slice (some ⟨g,0,none⟩) n cap,.int .i64 n,.slice (some ⟨u,0,none⟩) 1 1] w (B9o w base g n n cells xs):=by
 obtain⟨af,S,ac,ad,ae⟩:=info_parts D2l;have aj:cells.length=n*4:=h.1;have b:n<=cap/\cap<=maxLen:=by
  rcases h.2 with⟨G,_⟩|⟨g',D,ah,aa,_,_,I,J,_⟩;·cases G
  cases aa;exact⟨I,J⟩
 have T:=b.2;unfold maxLen at T;have ai:(n:Int)<=cap:=oM;have al:(n:Int)<=65536:=oM;have W:=A0a Z;have E:=A_ h;have ag:=A_ b;clear h b;go_enter func76,ntmps76;go_wp2_with (at_builtin;refine A1m rfl _ _ 42 rfl base 70 af _ 4 32 underlying42 S ac ad ae rfl dE g n cap cells rfl E.o ⟨u,0,none⟩ 1 1 xs rfl (by rw[ab]) W H mL oM K ?_;intro g' D w' Y O X);all_goals refine bodyPost_ret (results_tmp rfl _ _ _) rfl ?_;refine⟨g',D,rfl,?_,O,X.imp id (λe=>oM)⟩;rw[List.take_of_length_le oM,List.drop_eq_nil_of_le oM,List.append_nil];exact Y

theorem A8a {P:Program} {w:World} {k g o dLen dCap sLen sCap:Nat} {a:Addr} {T E ty:TypeId} {cur:Array Value} {cs:List Value} (hu:P.underlying T=some (.slice E)) (hs:(P.info? E).map (·.size)=some k)
  (hg:w.1[g]?=some (.cells cur E (0,0))) (hn:cs.length=Nat.min sLen dLen*k) (hsrc:∀ j v,cs[j]?=some v->w.cell? (a.add j)=some v) (hfit:o+cs.length<=cur.size) (h1:∀ v∈cs,v.oneCell'=true) :
  (Builtin.copy_ #[T,T] ty #[.slice (some ⟨g,o,none⟩) dLen dCap,.slice (some a) sLen sCap]).run P w=.ok (goInt (Nat.min sLen dLen)) (w.setRow g (A8g cur.toList o cs).toArray) :=
 C7v w T T ty E k g o dLen dCap a sLen sCap cur E cs hu hs hg hn hsrc hfit h1
theorem C0n {w:World} {g:Nat} {b:Array Value} {t:TypeId} (h:w.1[g]?=some (.cells b t (0,0))) (o:Nat):∀ j v,(b.toList.drop o)[j]?=some v->w.cell? ((⟨g,o,none⟩:Addr).add j)=some v:=by
 intro j v u;have e:(⟨g,o,none⟩:Addr).add j=⟨g,o+j,none⟩:=by unfold Addr.add;split<;>simp_all
 rw[e];have:b[o+j]?=some v:=by simpa using u
 simp[World.cell?,h,this]

set_option maxRecDepth 100000 in
theorem D2j (base g n cap G i:Nat) (cells xs:List Value) (w:World) (h:w.ownsRow base 70 4 (.slice (some ⟨g,0,none⟩) n cap) n cells) (aZ:n<=65536) (hi:i<n) (aL:n+1<=cap)
  (K:w.1[G]?=some (.cells xs.toArray 70)) (W:xs.length=4) (ax:∀ v∈xs,v.oneCell'=true) (ay:∀ v∈cells,v.oneCell'=true) (ao:G≠g) :
  Calls prog 76 #[.slice (some ⟨g,0,none⟩) n cap,.int .i64 i,.slice (some ⟨G,0,none⟩) 1 1] w (B9o w base g n i cells xs):=by
 obtain⟨a5,aF,a3,aO,a4⟩:=info_parts D2l;have aB:cells.length=n*4:=h.1;obtain⟨b,az,ac,aI,aj,S,af⟩:∃ b,base<=g/\w.1[g]?=some (.cells b 70 (0,0))/\n<=cap/\cap<=maxLen/\b.size=cap*4/\b.toList.take (n*4)=cells:=by
  rcases h.2 with⟨aw,_⟩|⟨g',aU,b,aN,k1,k2,aP,aQ,aR,k6⟩;·cases aw
  cases aN;exact⟨b,k1,k2,aP,aQ,aR,k6⟩
 have aH:=aj;unfold maxLen at aH;have an:(prog.info? 70).map (·.size)=some 4:=by rw[aF];simp[aO]
 have ab:b.toList.length=cap*4:=by simp[S]
 obtain⟨E,X⟩:∃ E,E=A8g b.toList ((i+1)*4) (cells.drop (i*4)):=⟨_,rfl⟩
 have T:(cells.drop (i*4)).length=(n - i)*4:=by rw[List.length_drop,aB,<-Nat.sub_mul]
 have aa:E.length=cap*4:=by rw[X,A8b (by rw[T,ab];omega),ab]
 have aD:∀ (j:Nat) (v:Value),(cells.drop (i*4))[j]?=some v->(b.toList.drop (i*4))[j]?=some v:=by
  intro j v O;rw[<-af,List.drop_take,List.getElem?_take]at O;split at O;·exact O
  cases O
 have ak:∀ (D:World),D.1[g]?=some (.cells b 70 (0,0))->∀ u H I,(Builtin.copy_ #[42,42] u #[.slice (some ⟨g,(i+1)*4,none⟩) (n+1 - (i+1)) H,.slice (some ⟨g,i*4,none⟩) (n+1 - i) I]).run prog D=.ok (goInt (n - i:Nat)) (D.setRow g E.toArray):=λD ai u H I=>by
  have e:Nat.min (n+1 - i) (n+1 - (i+1))=n - i:=by simp only[Nat.min_def];split<;>omega
  have:=A8a (P:=prog) (w:=D) (k:=4) (g:=g) (o:=(i+1)*4) (dLen:=n+1 - (i+1)) (dCap:=H) (sLen:=n+1 - i) (sCap:=I) (a:=⟨g,i*4,none⟩) (ty:=u) underlying42 an ai (cs:=cells.drop (i*4)) (by rw[e];exact T)
   (λj v O=>C0n ai _ j v (aD j v O)) (by rw[T,S];omega) (λv K=>ay v (List.mem_of_mem_drop K))
  rw[e]at this;rw[X];exact this
 have al:∀ (D:World),D.1[g]?=some (.cells E.toArray 70 (0,0))->D.1[G]?=some (.cells xs.toArray 70)->∀ u H I,(Builtin.copy_ #[42,42] u #[.slice (some ⟨g,i*4,none⟩) (n+1 - i) H,.slice (some ⟨G,0,none⟩) 1 I]).run prog D=.ok (goInt (1:Nat)) (D.setRow g (A8g E (i*4) xs).toArray):=λD aE aM u H I=>by
  have e:Nat.min 1 (n+1 - i)=1:=by simp only[Nat.min_def];split<;>omega
  have:=A8a (P:=prog) (w:=D) (k:=4) (g:=g) (o:=i*4) (dLen:=n+1 - i) (dCap:=H) (sLen:=1) (sCap:=I) (a:=⟨G,0,none⟩) (ty:=u) underlying42 an aE (cs:=xs) (by rw[e];omega)
   (A0a aM) (by rw[W];show _<=E.length;rw[aa];omega) ax
  rw[e]at this;simpa using this
 have aJ:∀ ah Y,(callFunc 132 #[.slice (some ⟨G,0,none⟩) 1 1,.slice (some ⟨g,(i+1)*4,none⟩) ah Y]).run prog w=.ok (.value (.bool false)) w:=λah Y=>by
  rw[run_callFunc_extern func132 kR kR kR (e:=Extern.SlicesOverlaps.overlaps #[42,42] #[4]) kR,
   Lib.run_overlaps_apart w 42 4 70 underlying42 4 Tryz.sizeOf70 ⟨G,0,none⟩ ⟨g,(i+1)*4,none⟩ 1 1 ah Y ao 70 70 4 (cap*4) (by simp[World.shape?,K,W]) (by simp[World.shape?,ac,S]) oM (by simp[World.frozen?,K]) (by simp[World.frozen?,K])]
  rfl
 have aV:¬ (cap=i+1):=oM;have aW:¬ (cap=i):=oM;have aX:(n:Int)+1<=cap:=oM;have aY:(i:Int)<n:=oM;have a1:(n:Int)<=65536:=oM;have aq:=A_ X;have au:=A_ af;have aS:=A_ S;clear h aI af S X;go_enter func76,ntmps76;go_wp2_with fail;refine X_ sI ?_;dsimp only[List.dropLast,List.getLast,List.length];iterate 8 refine C_ _ ?_
 intro a6 a7 wa J am (aC:Hid _);simp at am;have ad:wa.1[g]?=some (.cells b 70 (0,0)):=by rw[J.block g (E_ ac)];exact ac
 have ag:wa.1[G]?=some (.cells xs.toArray 70):=by rw[J.block G (E_ K)];exact K
 have ae:(wa.setRow g E.toArray).1[g]?=some (.cells E.toArray 70 (0,0)):=setRow_heap wa g b _ _ _ ad;have ap:(wa.setRow g E.toArray).1[G]?=some (.cells xs.toArray 70):=by rw[setRow_other wa g G _ ao];exact ag
 have aK:=λu H I=>ak wa ad u H I;rw[show n+1 - (i+1)=n - i by omega]at aK;have a2:=λu H I=>al _ ae ap u H I;have ar:=A_ ae;have aT:=A_ ag;clear ad ag aJ ak al ae ap;go_simp;clear am aC;go_wp2;refine bodyPost_ret (results_tmp rfl _ _ _) rfl ?_;have aA:(A8g E (i*4) xs).length=cap*4:=by rw[A8b (by rw[aa,W];omega),aa]
 refine⟨g,cap,rfl,⟨?_,.inr ⟨g,cap,(A8g E (i*4) xs).toArray,rfl,az,setRow_heap _ g _ _ _ _ ar.o,aL,aj,by simpa using aA,?_⟩⟩,?_,.inl rfl⟩;·simp only[List.length_append,List.length_take,List.length_drop];omega
 ·have Z:=E2e (l:=b.toList) (xs:=xs) (ys:=cells.drop (i*4)) (a:=i*4) (by rw[T,W,ab];omega);rw[W,T]at Z;rw[show i*4+4=(i+1)*4 by omega,<-aq.o,show(i+1)*4+(n - i)*4=(n+1)*4 by omega]at Z;rw[Z,<-au.o,List.take_take,Nat.min_eq_left oM]
 exact(World.grownBy.trans ⟨J.os,J.tape,J.output,J.size,λk aG _=>J.block k aG⟩ (B4z wa g _)).trans (B4z _ g _)

set_option maxRecDepth 100000 in
theorem D4r (base g n cap O i:Nat) (cells xs:List Value) (w:World) (h:w.ownsRow base 70 4 (.slice (some ⟨g,0,none⟩) n cap) n cells) (a4:base<=w.1.size) (bA:n<=65536) (hi:i<n) (bd:cap<n+1)
  (ae:w.1[O]?=some (.cells xs.toArray 70)) (af:xs.length=4) (aZ:∀ v∈xs,v.oneCell'=true) (a1:∀ v∈cells,v.oneCell'=true) :
  Calls prog 76 #[.slice (some ⟨g,0,none⟩) n cap,.int .i64 i,.slice (some ⟨O,0,none⟩) 1 1] w (B9o w base g n i cells xs):=by
 obtain⟨aN,aI,bh,ao,aM⟩:=info_parts D2l;have a6:cells.length=n*4:=h.1;obtain⟨J,br,aG,bD,a7,aE,an⟩:∃ J,base<=g/\w.1[g]?=some (.cells J 70 (0,0))/\n<=cap/\cap<=maxLen/\J.size=cap*4/\J.toList.take (n*4)=cells:=by
  rcases h.2 with⟨aY,_⟩|⟨g',bm,J,bg,k1,k2,bi,bj,bk,k6⟩;·cases aY
  cases bg;exact⟨J,k1,k2,bi,bj,bk,k6⟩
 have bc:=a7;unfold maxLen at bc;have aL:(prog.info? 70).map (·.size)=some 4:=by rw[aI];simp[ao]
 have bv:J.toList.length=cap*4:=by simp[aE]
 have aB:∀ j v,cells[j]?=some v->w.cell? ((⟨g,0,none⟩:Addr).add j)=some v:=h.cells (g:=g) rfl;have aJ:(Builtin.firstCells aN.size i (.slice (some ⟨g,0,none⟩) i cap)).run prog w.drew=.ok (cells.take (i*4)).toArray w.drew:=by
  rw[ao]
  exact run_firstCells_some w.drew 4 i ⟨g,0,none⟩ i cap (cells.take (i*4)) (by rw[List.length_take];omega) (λj v K=>by
   rw[List.getElem?_take]at K;split at K;·exact aB j v K
   cases K)
 have aA:(n:Int)+1 - (i:Int)=((n+1 - i:Nat):Int):=oM;have al:i+(n+1 - i)=n+1:=oM;obtain⟨u,Y⟩:∃ u,u=grownCap w (n+1) cap 70:=⟨_,rfl⟩
 obtain⟨E,Z⟩:∃ E:Array Value,E=(cells.take (i*4)).toArray++Builtin.zeroCells (Value.agg #[.int .i64 0,.int .i64 0,.int .i64 0,.int .i64 0]).cells (n+1 - i)++Builtin.zeroCells (Value.agg #[.int .i64 0,.int .i64 0,.int .i64 0,.int .i64 0]).cells (u - (n+1)):=⟨_,rfl⟩
 have aK:∀ b,(Builtin.append_ #[42,3] b #[.slice (some ⟨g,0,none⟩) i cap,.int .i64 ((n:Int)+1 - (i:Int))]).run prog w =
   .ok (.slice (some ⟨w.1.size,0,none⟩) (n+1) u) (w.drew.alloc (.cells E 70)):=λb=>by
  have h:=Lib.run_append_grow_zeros w 42 3 b 70 aN _ .i64 .i64 underlying42 underlying3 aI bh (some ⟨g,0,none⟩) i cap (cells.take (i*4)) aJ (n+1 - i) oM (by rw[ao];decide) oM oM (by rw[aM];omega) (by rw[aM,al];exact growslice_fits bd oM)
  rw[al]at h
  rw[aA,Z,Y]
  exact h
 have a3:n+1<=u:=by rw[Y];exact grownCap_ge w _ _ _
 have ar:u<=maxLen:=by rw[Y];exact grownCap_le_maxLen w (n+1) cap _ mL
 have aa:E.toList.length=u*4:=by rw[Z];simp[Builtin.zeroCells,Value.cells];omega
 have au:E.toList.take (i*4)=cells.take (i*4):=by rw[Z];rw[Array.append_assoc,Array.toList_append,List.take_append_of_le_length sO];rw[show((cells.take (i*4)).toArray).toList=cells.take (i*4)from rfl,List.take_take,Nat.min_self]
 obtain⟨S,ac⟩:∃ S,S=w.drew.alloc (.cells E 70):=⟨_,rfl⟩
 have ba:g<w.1.size:=E_ aG;have bf:O<w.1.size:=E_ ae;have ai:S.1[w.1.size]?=some (.cells E 70 (0,0)):=by rw[ac];exact heap_alloc_new w.drew _
 have aj:∀ k,k<w.1.size->S.1[k]?=w.1[k]?:=λk X=>by rw[ac];exact Below.heap_alloc w.drew _ k X
 have aw:Bw w S:=by rw[ac];exact⟨rfl,rfl,rfl,sI,λk X=>Below.heap_alloc w.drew _ k X⟩
 obtain⟨D,ad⟩:∃ D,D=A8g E.toList (i*4) xs:=⟨_,rfl⟩
 have ak:D.length=u*4:=by rw[ad,A8b (by rw[af,aa];omega),aa]
 have W:(cells.drop (i*4)).length=(n - i)*4:=by rw[List.length_drop,a6,<-Nat.sub_mul]
 have aC:∀ (G:World),G.1=S.1->∀ b H I,(Builtin.copy_ #[42,42] b #[.slice (some ⟨w.1.size,i*4,none⟩) (n+1 - i) H,.slice (some ⟨O,0,none⟩) 1 I]).run prog G=.ok (goInt (1:Nat)) (G.setRow w.1.size D.toArray):=λG ab b H I=>by
  have e:Nat.min 1 (n+1 - i)=1:=by simp only[Nat.min_def];split<;>omega
  have be:G.1[O]?=some (.cells xs.toArray 70):=by rw[ab,aj O bf];exact ae
  have:=A8a (P:=prog) (w:=G) (k:=4) (g:=w.1.size) (o:=i*4) (dLen:=n+1 - i) (dCap:=H) (sLen:=1) (sCap:=I) (a:=⟨O,0,none⟩) (ty:=b) underlying42 aL (by rw[ab];exact ai) (cs:=xs) (by rw[e];omega)
   (A0a be) (by rw[af,<-Array.length_toList,aa];omega) aZ
  rw[e]at this;rw[ad];exact this
 have aD:∀ (G:World),G.1[w.1.size]?=some (.cells D.toArray 70 (0,0))->G.1[g]?=some (.cells J 70 (0,0))->∀ b H I,(Builtin.copy_ #[42,42] b #[.slice (some ⟨w.1.size,(i+1)*4,none⟩) (n - i) H,.slice (some ⟨g,i*4,none⟩) (n - i) I]).run prog G=.ok (goInt (n - i:Nat)) (G.setRow w.1.size (A8g D ((i+1)*4) (cells.drop (i*4))).toArray):=λG ab a9 b H I=>by
  have e:Nat.min (n - i) (n - i)=n - i:=sI
  have:=A8a (P:=prog) (w:=G) (k:=4) (g:=w.1.size) (o:=(i+1)*4) (dLen:=n - i) (dCap:=H) (sLen:=n - i) (sCap:=I) (a:=⟨g,i*4,none⟩) (ty:=b) underlying42 aL ab (cs:=cells.drop (i*4)) (by rw[e];exact W)
   (λj v K=>C0n a9 _ j v (by
    rw[<-an,List.drop_take,List.getElem?_take]at K;split at K;·exact K
    cases K)) (by rw[W];show _<=D.length;rw[ak];omega) (λv ae=>a1 v (List.mem_of_mem_drop ae))
  rw[e]at this;simpa using this
 have bz:(i:Int)<n:=oM;have bB:(n:Int)<=65536:=oM;have bt:(cap:Int)<(n:Int)+1:=oM;have bs:(n:Int)<=cap:=oM;have bo:¬ (u=i):=oM;have bp:¬ (u=i+1):=oM;have bu:¬ (cap=i):=oM;have bn:(u:Int)<=9223372036854775807:=by unfold maxLen at ar;omega
 have bq:(n:Int)+1<=u:=oM;have aP:=A_ ad;have bl:=A_ an;have aS:=A_ au;subst ac;have aV:=A_ ai;have aW:=A_ aj;have aU:=A_ aw;clear ai aj aw;have aT:=A_ aK;have aQ:=A_ aC;clear aA al aJ Z Y aB ad an au aE aK aC;have a2:=λb H I=>aQ (w.alloc (.cells E 70)).drew rfl b H I;have az:((w.alloc (.cells E 70)).drew.setRow w.1.size D.toArray).1[w.1.size]?=some (.cells D.toArray 70 (0,0)):=setRow_heap _ _ E _ _ _ aV;have ay:((w.alloc (.cells E 70)).drew.setRow w.1.size D.toArray).1[g]?=some (.cells J 70 (0,0)):=by rw[setRow_other _ _ g _ oM];exact(aW g ba).trans aG
 have ax:Bw w ((w.alloc (.cells E 70)).drew.setRow w.1.size D.toArray):=below_setRow aU (Nat.le_refl _) _;have aq:=A_ az;have ap:=A_ ay;have aX:=A_ ax;have aO:=A_ aD;clear az ay ax aD;go_enter func76,ntmps76;go_wp2_with (at_builtin;refine Lib.wpList_append_run _ rfl _ _ _ _ rfl _ _ rfl rfl _ _ (aT _) ?_);refine X_ sI ?_;dsimp only[List.dropLast,List.getLast,List.length];iterate 8 refine C_ _ ?_
 intro bF bG wa ah aF (a8:Hid _);simp at aF;have am:wa.1[w.1.size]?=some (.cells D.toArray 70 (0,0)):=by rw[ah.block _ (E_ aq.o)];exact aq
 have aH:wa.1[g]?=some (.cells J 70 (0,0)):=by rw[ah.block g (E_ ap.o)];exact ap
 have bE:=λb H I=>aO wa am aH b H I;have aR:=A_ am;clear am aH a2;go_simp;clear aF a8;go_wp2;refine bodyPost_ret (results_tmp rfl _ _ _) rfl ?_;have a5:(A8g D ((i+1)*4) (cells.drop (i*4))).length=u*4:=by rw[A8b (by rw[ak,W];omega),ak]
 refine⟨w.1.size,u,rfl,⟨?_,.inr ⟨w.1.size,u,(A8g D ((i+1)*4) (cells.drop (i*4))).toArray,rfl,a4,setRow_heap _ _ _ _ _ _ aR.o,a3,ar,by simpa using a5,?_⟩⟩,?_,.inr (Nat.le_refl _)⟩;·simp only[List.length_append,List.length_take,List.length_drop];omega
 ·have ag:=E4u (l:=E.toList) (xs:=xs) (ys:=cells.drop (i*4)) (a:=i*4) (by rw[W,af,aa];omega);rw[af,W,<-aP.o]at ag;rw[show i*4+4=(i+1)*4 by omega,show(i+1)*4+(n - i)*4=(n+1)*4 by omega,aS.o]at ag;exact ag
 have T:Bw w (wa.setRow w.1.size (A8g D ((i+1)*4) (cells.drop (i*4))).toArray):=below_setRow (Below.next aX ah) (Nat.le_refl _) _;exact⟨T.os,T.tape,T.output,T.size,λk X _=>T.block k X⟩
end Go.Proofs.YtbhemnidcleaiaaGreat.X

namespace Go.XB
open Go.RowKit
def MP.slc (n:Nat) (cs:Array Value) (t:TypeId):MP:=⟨λv bs w=>∃ g,v=.slice (some ⟨g,0,none⟩) n n/\bs=[g]/\w.1[g]?=some (.cells cs t),λv bs w w' hb h=>by
 obtain⟨g,e,hz,hg⟩:=h;exact⟨g,e,hz,(hb.block g (E_ hg)).trans hg⟩⟩
section
variable {P:Program} {l:List Oper} {a0:Act}
theorem E1g {w0:World} {F:List DP->Prop} {o:Oper} {D:List Oper} {b:List DP} (n:Nat) (cs:Array Value) (t:TypeId)
  (h:∀ (y:Nat->Value) (z:Nat->List Nat) (w:World),Bw w0 w->(∀ k∈N_ o,(b.getD k (λ_=>MP.eq undef) y).p (y k) (z k) w) ->
   Region.wanted o (yielded l.toArray (L_ l y a0 (N_ o)).tmps)=true/\(execOp (L_ l y a0 (N_ o)).eval o).run P w=.ok (.value (.slice (some ⟨w.1.size,0,none⟩) n n)) (w.alloc (.cells cs t)))
  (J:A4c P l w0 a0 F D (b++[λ_=>MP.slc n cs t])):A4c P l w0 a0 F (o::D) b:=by
 refine⟨λ_=>MP.slc n cs t,Cong.const _ _,λy z w H I=>?_,J⟩;obtain⟨E,G⟩:=h y z w H I;rw[if_pos E];unfold B2b;rw[G];refine⟨(Below.refl _ _).alloc (Nat.le_refl _) _,[w.1.size],⟨w.1.size,rfl,rfl,by show(w.1.push _)[w.1.size]?=_;simp⟩,λK u=>?_⟩;simp at u;subst u;simp
end
end Go.XB
namespace Go.XN
open Go.XB
def C3n (a b:TEdge):Int:=if a.a≠b.a then sgn (a.a - b.a)else sgn (a.b - b.b)
def A4o:TEdge:=⟨0,0,0,0⟩
def A5i (es:List TEdge) (e:TEdge):Nat->Nat->Nat->Nat
 |0,i,_=>i
 |f+1,i,j=>if i<j then(if C3n (es.getD ((i+j) / 2) A4o) e<0 then A5i es e f ((i+j) / 2+1) j else A5i es e f i ((i+j) / 2))else i
def A3z (es:List TEdge) (e:TEdge):Nat:=A5i es e es.length 0 es.length
def A6o (es:List TEdge) (e:TEdge):Bool:=decide (A3z es e<es.length)&&decide (C3n (es.getD (A3z es e) A4o) e=0)
end Go.XN
namespace Go.Proofs.YtbhemnidcleaiaaGreat.X
open Go.RowKit Go.XB Go.XN Proofs.Tryz
attribute [local go_sem] L_ opAt N_ M_ Region.wanted yielded
attribute [local simp] N_ M_ MP.eq MP.agg MP.sl MP.slc A0r
theorem C0w (es:List TEdge) (e:TEdge):∀ (f i j:Nat),i<=j->A5i es e f i j<=j
 |0,i,j,h=>h
 |f+1,i,j,h=>by
  unfold A5i
  split
  ·split
   ·exact C0w es e f _ j oM
   exact Nat.le_trans (C0w es e f i _ oM) oM
  exact h
theorem A9n (es:List TEdge) (e:TEdge):∀ (f g i j:Nat),j<=i+f->j<=i+g->A5i es e f i j=A5i es e g i j
 |0,0,i,j,_,_=>rfl
 |0,g+1,i,j,h,_=>by unfold A5i;rw[if_neg oM]
 |f+1,0,i,j,_,h=>by unfold A5i;rw[if_neg oM]
 |f+1,g+1,i,j,h1,h2=>by
  unfold A5i
  split
  ·split
   ·exact A9n es e f g _ j oM oM
   exact A9n es e f g i _ oM oM
  rfl
theorem D4i {es:List TEdge} {e x:TEdge} {i j h r:Nat} (G:∀ f,j<=i+f->A5i es e f i j=r) (E:i<j) (hh:h=(i+j) / 2) (H:es[h]?=some x) (u:C3n x e<0):∀ f,j<=h+1+f->A5i es e f (h+1) j=r:=by
 intro f D;have b:=G (j+1) oM;unfold A5i at b;rw[if_pos E,<-hh,show es.getD h A4o=x by simp[List.getD,H],if_pos u]at b;rw[A9n es e f j (h+1) j D oM,b]
theorem D4w {es:List TEdge} {e x:TEdge} {i j h r:Nat} (G:∀ f,j<=i+f->A5i es e f i j=r) (E:i<j) (hh:h=(i+j) / 2) (H:es[h]?=some x) (u:¬ C3n x e<0):∀ f,h<=i+f->A5i es e f i h=r:=by
 intro f D;have b:=G (j+1) oM;unfold A5i at b;rw[if_pos E,<-hh,show es.getD h A4o=x by simp[List.getD,H],if_neg u]at b;rw[A9n es e f j i h D oM,b]
theorem D8b {es:List TEdge} {e:TEdge} {i j r:Nat} (b:∀ f,j<=i+f->A5i es e f i j=r) (h:i=j):i=r:=by
 have:=b 0 oM;exact this
theorem D9w (es:List TEdge) (e:TEdge):A3z es e<=es.length:=C0w es e _ 0 _ (Nat.zero_le _)

theorem E6p (g:Nat) (a b:Int) (w:World) (h:w.1[g]?=some (.cells #[.int .i64 a,.int .i64 b] 3)) :
  Calls prog 130 #[.slice (some ⟨g,0,none⟩) 2 2] w (A0b w (.int .i64 (if a≠0 then a else b))):=by
 have H:w.cell? ⟨g,0,none⟩=some (.int .i64 a):=(B_ h rfl).1;have I:w.cell? ⟨g,1,none⟩=some (.int .i64 b):=(B_ h rfl).1;clear h;by_cases D:a=0
 ·subst D
  by_cases E:b=0
  ·subst E
   go_enter func130,ntmps130;go_wp2_with fail;go_loopg [8] 2 (λg s wr=>∃ k:Nat,k+g=2/\s=.int .i64 k/\wr=w);case atStart=>exact⟨0,rfl,rfl,rfl⟩
   case round =>
    obtain⟨k,u,rfl,rfl⟩:=hrel;obtain rfl|rfl|rfl:k=0\/k=1\/k=2:=oM
    ·obtain rfl:gk=1+1:=oM
     clear u;go_wp2_with fail;go_roundg 1;case measure=>omega
     case rel=>exact⟨1,rfl,rfl,rfl⟩
    ·obtain rfl:gk=0+1:=oM
     clear u;go_wp2_with fail;go_roundg 0;case measure=>omega
     case rel=>exact⟨2,rfl,rfl,rfl⟩
    clear u;go_wp2;go_ret;exact⟨rfl,Below.refl _ _⟩
  have K:(b==0)=false:=by simp[E]
  go_enter func130,ntmps130;go_wp2_with fail;go_loopg [8] 2 (λg s wr=>∃ k:Nat,k+g=2/\k<=1/\s=.int .i64 k/\wr=w);case atStart=>exact⟨0,rfl,oM,rfl,rfl⟩
  case round =>
   obtain⟨k,u,G,rfl,rfl⟩:=hrel;obtain rfl|rfl:k=0\/k=1:=oM
   ·obtain rfl:gk=1+1:=oM
    clear u G;go_wp2_with fail;go_roundg 1;case measure=>omega
    case rel=>exact⟨1,rfl,oM,rfl,rfl⟩
   clear u G;go_wp2;go_ret;exact⟨sI,Below.refl _ _⟩
 have J:(a==0)=false:=by simp[D]
 go_enter func130,ntmps130;go_wp2_with fail;go_loopg [8] 2 (λg s wr=>g=2/\s=.int .i64 0/\wr=w);case atStart=>exact⟨rfl,rfl,rfl⟩
 case round =>obtain⟨_,rfl,rfl⟩:=hrel;go_wp2;go_ret;exact⟨sI,Below.refl _ _⟩

theorem sgn_ne {a:Int}:sgn a≠0↔a≠0:=by unfold sgn;split<;>(try split)<;>omega
theorem A8t (v1 v2:Value) (a b:TEdge) (b1 b2:List Nat) (w:World) (S:Agg w v1 a b1) (T:Agg w v2 b b2) :
  Calls prog 75 #[v1,v2] w (A0b w (.int .i64 (C3n a b))):=by
 obtain⟨rfl,_,_,_,_,_⟩:=TEdge.agg S;obtain⟨rfl,_,_,_,_,_⟩:=TEdge.agg T;have J:=A_ (show(if sgn (a.a - b.a)≠0 then sgn (a.a - b.a)else sgn (a.b - b.b))=C3n a b by
  unfold C3n;by_cases H:a.a=b.a;·rw[if_neg (by rw[H];simp[sgn]),if_neg (by simp[H])]
  rw[if_pos (sgn_ne.2 oM),if_pos H])
 obtain⟨r,I⟩:∃ r,(if sgn (a.a - b.a)≠0 then sgn (a.a - b.a)else sgn (a.b - b.b))=r:=⟨_,rfl⟩
 have R:=A_ I;rw[I]at J;clear S T I;go_enter func75,ntmps75;go_wp2_with fail;refine X_ sI ?_;dsimp only[List.dropLast,List.getLast,List.length];iterate 4 refine C_ _ ?_
 refine D_ (MP.eq (.int .i64 (sgn (a.a - b.a)))) ?_ ?_;·intro E G D u h;obtain⟨K,O⟩:=F_ u;simp at h;refine G_ ?_;exact A0i (B2k _ _ _)
 iterate 4 refine C_ _ ?_
 refine D_ (MP.eq (.int .i64 (sgn (a.b - b.b)))) ?_ ?_;·intro E G D u h;obtain⟨K,O⟩:=F_ u;simp at h;refine G_ ?_;exact A0i (B2k _ _ _)
 refine E1g 2 #[.int .i64 (sgn (a.a - b.a)),.int .i64 (sgn (a.b - b.b))] 3 ?_ ?_;·intro E G D u h;simp at h;refine⟨gD,?_⟩;go_simp
 refine D_ (MP.eq (.int .i64 r)) ?_ ?_;·intro E G D u h;obtain⟨K,O⟩:=F_ u;simp at h;obtain⟨⟨g,e,Y,W⟩,_⟩:=h;refine G_ ?_;exact A0i (by have C:=E6p g _ _ D W;rw[R.o]at C;exact C)
 intro E G wa u h (X:Hid _);simp at h;go_simp;go_wp2;refine bodyPost_ret (results_tmp rfl _ _ _) rfl ⟨?_,Below.go⟩;rw[<-J.o];rfl

theorem B8m:A4f 75:=λa w=>kR
theorem B4a (A:Option Addr) (n c:Nat) (es:List TEdge) (aC:List Nat) (v:Value) (e:TEdge) (b:List Nat) (w:World) (al:Sl w A n c es aC) (aW:n<=65536) (ak:Agg w v e b) :
  Calls prog 74 #[.slice A n c,v,.func (.func 75) #[] #[]] w (A0b w (.tuple #[.int .i64 (A3z es e),.bool (A6o es e)])):=by
 have aq:=A_ al;have ai:=A_ ak;have ag:=A_ al.1;obtain⟨rfl,_,aM,aN,aO,aP⟩:=TEdge.agg ak;clear al ak aM aN aO aP;have aA:=B8m;unfold A4f at aA;have aX:(n:Int)<=65536:=oM;go_enter func74,ntmps74;go_wp2_with fail;go_loopg [9,10] n (λg s9 s10 wr=>∃ (i j:Nat),j<=i+g/\(i<=j/\j<=n)/\s9=.int .i64 i/\s10=.int .i64 j/\Hid (∀ f,j<=i+f->A5i es e f i j=A3z es e)/\Below (w.1.size+1) (w.alloc (.cells #[.int .i64 e.a,.int .i64 e.b,.int .i64 e.left,.int .i64 e.right] 70)) wr);case atStart =>exact⟨0,n,oM,⟨Nat.zero_le _,Nat.le_refl _⟩,rfl,rfl,(show ∀ f,n<=0+f->A5i es e f 0 n=A3z es e from λf aJ=>by unfold A3z;rw[ag.o];exact A9n es e f n 0 n aJ oM),Below.refl _ _⟩
 case round =>
  obtain⟨i,j,aj,⟨ay,ad⟩,rfl,rfl,ae,H⟩:=hrel;have E:=A_ (show Bw w wr from(Below.box (.cells #[.int .i64 e.a,.int .i64 e.b,.int .i64 e.left,.int .i64 e.right] 70)).trans (H.mono oM));have aZ:wr.cell? ⟨w.1.size,0,none⟩=some (.int .i64 e.a):=(H.cell (p:=⟨w.1.size,0,none⟩) (Nat.lt_succ_self _)).trans gS;have k1:wr.cell? ⟨w.1.size,1,none⟩=some (.int .i64 e.b):=(H.cell (p:=⟨w.1.size,1,none⟩) (Nat.lt_succ_self _)).trans gS;have k2:wr.cell? ⟨w.1.size,2,none⟩=some (.int .i64 e.left):=(H.cell (p:=⟨w.1.size,2,none⟩) (Nat.lt_succ_self _)).trans gS;have a1:wr.cell? ⟨w.1.size,3,none⟩=some (.int .i64 e.right):=(H.cell (p:=⟨w.1.size,3,none⟩) (Nat.lt_succ_self _)).trans gS;have aY:w.1.size<wr.1.size:=by have:=H.size;simp at this;omega
  rcases Nat.lt_or_ge i j with az|aK
  ·have aV:(i:Int)<j:=oM
   obtain⟨h,hh⟩:∃ h:Nat,h=(i+j) / 2:=⟨_,rfl⟩
   have aQ:((i:Int)+j) / 2=(h:Int):=oM;have aH:i<=h/\h<j:=oM;have aR:(h:Int)<n:=oM;have aU:(j:Int)<=65536:=oM;obtain⟨au,rfl⟩:∃ gh',gk=gh'+1:=⟨gk - 1,oM⟩
   obtain⟨aB,aL,x,rfl,aI,Y,aD,aE,aF,aG,W⟩:=TEdge.elemA (aq.o.below E.o) (by omega:h<n);have ar:=A_ Y;have aa:=A_ W;have an:=A_ hh;have S:=A_ H;have am:=A_ aj;have ap:=A_ az;have T:=A_ aH;have ao:=A_ ad;clear hh H aj az Y W ay ad;by_cases ac:C3n x e<0
   ·have ah:=A_ (D4i ae ap an ar ac)
    obtain⟨r,G⟩:∃ r,C3n x e=r:=⟨_,rfl⟩
    rw[G]at ac;have R:=A_ G;clear G;go_wp2_with fail;refine A0g ?_;iterate 6 refine C_ _ ?_
    refine D_ (MP.eq (.int .i64 r)) ?_ ?_;·intro J K O u D;obtain⟨aw,ax⟩:=F_ u;simp at D;refine G_ ?_;exact A0i (by have C:=A8t _ _ x e _ _ O (aa.below u) (ai.below (E.trans (u.mono E.size)));rw[R.o]at C;exact C)
    refine C_ _ ?_;intro J K wa u D (I:Hid _);simp at D;go_simp;clear D I;have af:=A_ (S.trans (u.mono (by have:=S.size;simp at this;omega)));go_wp2_with fail;go_roundg au;case measure=>omega
    case rel=>exact⟨h+1,j,by have:=am.o;have:=T.o;omega,⟨by have:=T.o;omega,ao.o⟩,gN,rfl,ah,af.o⟩
   have ah:=A_ (D4w ae ap an ar ac);obtain⟨r,G⟩:∃ r,C3n x e=r:=⟨_,rfl⟩
   rw[G]at ac;have R:=A_ G;clear G;go_wp2_with fail;refine A0g ?_;iterate 6 refine C_ _ ?_
   refine D_ (MP.eq (.int .i64 r)) ?_ ?_;·intro J K O u D;obtain⟨aw,ax⟩:=F_ u;simp at D;refine G_ ?_;exact A0i (by have C:=A8t _ _ x e _ _ O (aa.below u) (ai.below (E.trans (u.mono E.size)));rw[R.o]at C;exact C)
   refine C_ _ ?_;intro J K wa u D (I:Hid _);simp at D;go_simp;clear D I;have af:=A_ (S.trans (u.mono (by have:=S.size;simp at this;omega)));go_wp2_with fail;go_roundg au;case measure=>omega
   case rel=>exact⟨i,h,by have:=am.o;have:=T.o;omega,⟨by have:=T.o;omega,by have:=ao.o;have:=T.o;omega⟩,rfl,rfl,ah,af.o⟩
  obtain rfl:i=j:=oM;have ab:=A_ (D8b ae rfl);have aS:¬ ((i:Int)<i):=oM;have S:=A_ H;clear aj ay aK H ae;rcases Nat.lt_or_ge i n with X|X
  ·have aT:(i:Int)<n:=oM
   obtain⟨aB,aL,x,rfl,aI,Y,aD,aE,aF,aG,W⟩:=TEdge.elemA (aq.below E) X;have aa:=A_ W;have Z:=A_ (show decide (C3n x e=0)=A6o es e by unfold A6o;rw[<-ab.o,show es.getD i A4o=x by simp[List.getD,Y],ag.o,decide_eq_true X,Bool.true_and]);clear Y W X ad;obtain⟨r,G⟩:∃ r,C3n x e=r:=⟨_,rfl⟩
   have R:=A_ G;rw[G]at Z;clear G;go_wp2_with fail;refine A0g ?_;iterate 11 refine C_ _ ?_
   refine D_ (MP.eq (.int .i64 r)) ?_ ?_;·intro J K O u D;obtain⟨aw,ax⟩:=F_ u;simp at D;refine G_ ?_;exact A0i (by have C:=A8t _ _ x e _ _ O (aa.below u) (ai.below (E.trans (u.mono E.size)));rw[R.o]at C;exact C)
   iterate 4 refine C_ _ ?_
   intro J K wa u D (I:Hid _);simp at D;go_simp;clear D I;go_wp2;go_ret2;rw[<-ab.o,<-Z.o];exact⟨by simp;rfl,E.trans (u.mono E.size)⟩
  obtain rfl:i=n:=oM;have Z:=A_ (show false=A6o es e by unfold A6o;rw[<-ab.o,ag.o,decide_eq_false (Nat.lt_irrefl _),Bool.false_and]);clear X ad;go_wp2_with fail;refine A0g ?_;iterate 5 refine C_ _ ?_
  iterate 8 apply A4m;case h =>intro J K O u D;simp at D;go_simp;first|done|(simp[undef];done)
  iterate 3 refine C_ _ ?_
  intro J K wa u D (I:Hid _);simp at D;go_simp;clear D I;go_wp2;go_ret2;rw[<-ab.o,<-Z.o];exact⟨rfl,E.trans (u.mono E.size)⟩

def A2i (a b:Int):TEdge:=⟨min a b,max a b,0,0⟩
theorem A2t (A:Option Addr) (n c:Nat) (es:List TEdge) (D:List Nat) (a b:Int) (w:World) (K:Sl w A n c es D) (Y:n<=65536) (E:I64 a) (G:I64 b) (I:A6o es (A2i a b)=true) :
  Calls prog 174 #[.slice A n c,.int .i64 a,.int .i64 b] w (A0b w (.int .i64 (A3z es (A2i a b)))):=by
 have T:=A_ K;have O:=A_ I;have Z:=A_ E;have aa:=A_ G;obtain⟨u,J⟩:∃ u,min a b=u:=⟨_,rfl⟩
 obtain⟨h,H⟩:∃ h,max a b=h:=⟨_,rfl⟩
 have S:=A_ (by unfold A2i;rw[J,H]:A2i a b=⟨u,h,0,0⟩);have W:=A_ (show Agg w (.agg #[.int .i64 u,.int .i64 h,.int .i64 0,.int .i64 0]) (⟨u,h,0,0⟩:TEdge) []from TEdge.mkAgg (x:=⟨u,h,0,0⟩) (by show I64 u;rw[<-J];unfold I64 at *;omega) (by show I64 h;rw[<-H];unfold I64 at *;omega) (by show I64 0;constructor<;>decide) (by show I64 0;constructor<;>decide));clear K I E G;go_enter func174,ntmps174;go_wp2_with fail;have C:=B4a A n c es D _ ⟨u,h,0,0⟩ [] w T Y W;rw[<-S.o,O.o]at C;refine C.mono ?_;clear C;rintro _ ab ⟨rfl,X⟩;go_wp2;go_ret;exact⟨rfl,X⟩
end Go.Proofs.YtbhemnidcleaiaaGreat.X

namespace Go.XN
open Go.XB
def A8d (e:TEdge):List Value:=[.int .i64 e.a,.int .i64 e.b,.int .i64 e.left,.int .i64 e.right]
def C8i (a b:Int):TEdge:=⟨min a b,max a b,-1,-1⟩
def C8f (es:List TEdge) (i:Nat) (e:TEdge):List TEdge:=es.take i++e::es.drop i
def C2b (k:Int) (lt:Bool) (e:TEdge):TEdge:=if lt then { e with left:=k } else { e with right:=k }
def B2f (es:List TEdge) (k a b:Int):List TEdge :=
 let i:=A3z es (C8i a b)
 let es':=if A6o es (C8i a b)then es else C8f es i (C8i a b)
 es'.modify i (C2b k (decide (a<b)))
def E8t (es:List TEdge) (k:Int) (t:TTri):List TEdge:=B2f (B2f (B2f es k t.a t.b) k t.b t.c) k t.c t.a
def A4g (ts:List TTri):Nat->List TEdge
 |0=>[]
 |k+1=>E8t (A4g ts k) k (ts.getD k ⟨0,0,0,0,0⟩)
def P_ (ts:List TTri):List TEdge:=A4g ts ts.length
def B0c (e:TEdge):Prop:=I64 e.a/\I64 e.b/\I64 e.left/\I64 e.right
end Go.XN
namespace Go.Proofs.YtbhemnidcleaiaaGreat.X
open Go.RowKit Go.XB Go.XN Proofs.Tryz
attribute [local go_sem] L_ opAt N_ M_ Region.wanted yielded
attribute [local simp] N_ M_ MP.eq MP.agg MP.sl MP.slc A0r
theorem D5v (es:List TEdge):(es.flatMap A8d).length=es.length*4:=by
 induction es with
 |nil=>rfl
 |cons e es ih=>rw[List.flatMap_cons,List.length_append,ih];simp[A8d];omega
theorem E5o {es:List TEdge}:∀ v∈es.flatMap A8d,v.oneCell'=true:=by
 intro v h;obtain⟨e,_,b⟩:=List.mem_flatMap.1 h;simp[A8d]at b;rcases b with rfl|rfl|rfl|rfl<;>rfl
theorem C9g (es:List TEdge):∀ i,i<=es.length->(es.flatMap A8d).take (i*4)=(es.take i).flatMap A8d/\(es.flatMap A8d).drop (i*4)=(es.drop i).flatMap A8d:=by
 induction es with
 |nil=>intro i b;simp at b;subst b;simp
 |cons e es ih =>
  intro i b
  cases i with
  |zero=>simp
  |succ i =>
   obtain⟨h,u⟩:=ih i (by simpa using b)
   rw[show(i+1)*4=(A8d e).length+i*4 by simp[A8d];omega,List.flatMap_cons,List.take_succ_cons,List.drop_succ_cons,List.flatMap_cons,List.take_length_add_append,List.drop_length_add_append,h,u]
   exact⟨rfl,rfl⟩
theorem E3a {es:List TEdge} {i:Nat} (hi:i<=es.length) (e:TEdge):(C8f es i e).flatMap A8d=(es.flatMap A8d).take (i*4)++A8d e++(es.flatMap A8d).drop (i*4):=by
 obtain⟨b,h⟩:=C9g es i hi;unfold C8f;rw[List.flatMap_append,List.flatMap_cons,b,h,List.append_assoc]
theorem E1m (k:Int) (lt:Bool) (es:List TEdge):∀ i,i<es.length->(es.modify i (C2b k lt)).flatMap A8d=(es.flatMap A8d).set (i*4+(if lt then 2 else 3)) (.int .i64 k):=by
 induction es with
 |nil=>intro i b;simp at b
 |cons e es ih =>
  intro i b
  cases i with
  |zero=>cases lt<;>simp[C2b,A8d]
  |succ i =>
   have h:=ih i (by simpa using b)
   rw[List.modify_succ_cons,List.flatMap_cons,List.flatMap_cons,h]
   rw[List.set_append_right _ _ (by simp[A8d];omega)]
   congr 2
   simp[A8d];omega
theorem D3s {es:List TEdge} {i:Nat} (hi:i<=es.length) (e:TEdge):(C8f es i e).length=es.length+1:=by unfold C8f;simp;omega
theorem E4y {es:List TEdge} {i:Nat} {e x:TEdge} (h:x∈C8f es i e):x=e\/x∈es:=by
 unfold C8f at h;rcases List.mem_append.1 h with h|h
 ·exact .inr (List.mem_of_mem_take h)
 rcases List.mem_cons.1 h with h|h;·exact .inl h
 exact .inr (List.mem_of_mem_drop h)
theorem D9a {a b:Int} (h:I64 a) (u:I64 b):B0c (C8i a b):=by
 unfold B0c C8i I64 at *;refine⟨?_,?_,?_,?_⟩<;>(dsimp only;omega)
theorem E7i {k:Int} {lt:Bool} {es:List TEdge} {i:Nat} (E:I64 k) (h:∀ e∈es,B0c e):∀ e∈es.modify i (C2b k lt),B0c e:=by
 intro e I;obtain⟨j,b⟩:=List.mem_iff_getElem?.1 I;rw[List.getElem?_modify]at b;split at b
 ·obtain⟨x,J,rfl⟩:=Option.map_eq_some_iff.1 b
  obtain⟨u,D,G,H⟩:=h x (List.mem_of_getElem? J);unfold C2b;split;·exact⟨u,D,E,H⟩
  exact⟨u,D,G,E⟩
 exact h e (List.mem_of_getElem? (by simpa using b))
theorem E5b {es:List TEdge} {k a b:Int} (G:I64 k) (D:I64 a) (E:I64 b) (h:∀ e∈es,B0c e):∀ e∈B2f es k a b,B0c e:=by
 unfold B2f;apply E7i G;split;·exact h
 intro e u;rcases E4y u with rfl|u
 ·exact D9a D E
 exact h e u
theorem B6s (es:List TEdge) (k a b:Int):(B2f es k a b).length<=es.length+1:=by
 unfold B2f;simp only[List.length_modify];split;·omega
 rw[D3s (D9w _ _)];exact Nat.le_refl _
theorem A5z (ts:List TTri):∀ k,(A4g ts k).length<=3*k
 |0=>Nat.le_refl _
 |k+1=>by
  have h:=A5z ts k
  unfold A4g E8t
  generalize ts.getD k _=t
  have h1:=B6s (A4g ts k) k t.a t.b
  have h2:=B6s (B2f (A4g ts k) k t.a t.b) k t.b t.c
  have h3:=B6s (B2f (B2f (A4g ts k) k t.a t.b) k t.b t.c) k t.c t.a
  omega
theorem A3a {w:World} {base g n cap size:Nat} {e:TypeId} {cells:List Value} (h:w.ownsRow base e size (.slice (some ⟨g,0,none⟩) n cap) n cells) {i:Nat} (hi:i<cells.length) (v:Value) :
  (w.setCell ⟨g,i,none⟩ v).ownsRow base e size (.slice (some ⟨g,0,none⟩) n cap) n (cells.set i v)/\w.grownBy (w.setCell ⟨g,i,none⟩ v) (some g)/\(∃ u,w.cell? ⟨g,i,none⟩=some u)/\w.frozen? ⟨g,i,none⟩=false:=by
 obtain⟨E,I⟩:=h;rcases I with⟨H,_⟩|⟨g',Y,b,X,J,D,G,K,O,W⟩;·cases H
 cases X;have aa:cells.length=n*size:=E;have Z:n*size<=cap*size:=Nat.mul_le_mul_right _ G;have S:i<b.size:=oM;refine⟨⟨by simpa using E,.inr ⟨g,cap,b.setIfInBounds i v,rfl,J,?_,G,K,by simpa using O,?_⟩⟩,⟨rfl,rfl,rfl,by simp[World.setCell],λk _ T=>Below.heap_setCell w ⟨g,i,none⟩ v k (λe=>T (by rw[e]))⟩,⟨b[i],by simp[World.cell?,D,S]⟩,by simp[World.frozen?,D]⟩;·rw[setCell_eq_setRow w g i b _ _ v D];exact setRow_heap w g b _ _ _ D
 rw[Array.toList_setIfInBounds,List.take_set,W]
theorem C9f {w:World} {base g n cap:Nat} {es:List TEdge} (h:w.ownsRow base 70 4 (.slice (some ⟨g,0,none⟩) n cap) n (es.flatMap A8d)) (X:es.length=n) (Y:∀ e∈es,B0c e):∃ bs,Sl w (some ⟨g,0,none⟩) n cap es bs/\(∀ b∈bs,b=g):=by
 have S:Filled w (es.flatMap A8d) es (List.replicate es.length []):=by
  refine⟨sI,by rw[D5v];exact Nat.le_refl _,λk x H u E=>?_⟩;have G:=(List.getElem?_eq_some_iff.1 u).1;have T:H=[]:=by rw[List.getElem?_replicate,if_pos G]at E;exact(Option.some.inj E).symm
  subst T;obtain⟨I,J,K,O⟩:=Y x (List.mem_of_getElem? u);show Dat.at_ w (((es.flatMap A8d).drop (k*4)).take 4) x [];rw[(C9g es k oM).2,List.drop_eq_getElem_cons G,List.flatMap_cons,List.take_append_of_le_length (by simp[A8d])];have:es[k]=x:=(List.getElem?_eq_some_iff.1 u).2;rw[this];exact TEdge.shut I J K O
 obtain⟨A,c,bs,ab,aa,Z⟩:=S.sl (α:=TEdge) (base:=base) (n:=n) h X;cases ab;refine⟨bs,aa,λb D=>?_⟩;rcases Z with⟨_,rfl⟩|⟨g',W,rfl,_⟩;·cases D
 simp[Value.ownBlock]at W;simp at D;all_goals omega
theorem D6w (base g n cap b i:Nat) (cells xs:List Value) (w:World) (h:w.ownsRow base 70 4 (.slice (some ⟨g,0,none⟩) n cap) n cells) (K:base<=w.1.size) (E:n<=65536) (hi:i<=n)
  (H:w.1[b]?=some (.cells xs.toArray 70)) (I:xs.length=4) (u:∀ v∈xs,v.oneCell'=true) (J:∀ v∈cells,v.oneCell'=true) (O:b≠g) :
  Calls prog 76 #[.slice (some ⟨g,0,none⟩) n cap,.int .i64 i,.slice (some ⟨b,0,none⟩) 1 1] w (B9o w base g n i cells xs):=by
 rcases Nat.lt_or_ge i n with D|D
 ·rcases Nat.lt_or_ge cap (n+1)with G|G
  ·exact D4r base g n cap b i cells xs w h K E D G H I u J
  exact D2j base g n cap b i cells xs w h E D G H I u J O
 obtain rfl:i=n:=oM;exact D8h base g i cap b cells xs w h K E H I u
theorem A2g (v:Value) (t:TTri) (b:List Nat) (w:World) (h:Agg w v t b) :
  Calls prog 73 #[v] w (A0b w (.agg #[.int .i64 t.a,.int .i64 t.b,.int .i64 t.c])):=by
 obtain⟨rfl,_,_,_,_,_,_⟩:=TTri.agg h;clear h;go_enter func73,ntmps73;go_wp2;refine bodyPost_ret (v:=.agg #[.int .i64 t.a,.int .i64 t.b,.int .i64 t.c]) (by simp[results,results73,go_sem, *]) rfl ⟨rfl,Below.go⟩
def A4p:TTri:=⟨0,0,0,0,0⟩
def A3h (t:TTri) (v:Int):Int×Int:=if t.a=v then(t.b,t.c)else if t.b=v then(t.c,t.a)else(t.a,t.b)
def B6x (t:TTri) (v:Int):Bool:=t.a==v || (t.b==v || t.c==v)
def A2u (ts:List TTri) (v:Int):Nat->List Int
 |0=>[]
 |k+1=>if B6x (ts.getD k A4p) v then A2u ts v k++[(k:Int)]else A2u ts v k
def A2d (ts:List TTri) (v:Int):List Int:=A2u ts v ts.length
def spT (ts:List TTri) (es:List TEdge) (v k:Int):Nat×Nat :=
 (A3z es (A2i v (A3h (ts.getD k.toNat A4p) v).1),A3z es (A2i v (A3h (ts.getD k.toNat A4p) v).2))
def A8e (ts:List TTri) (es:List TEdge) (v:Int):List Int->Int->Int
 | [],_=>-1
 |k::r,e=>if ((spT ts es v k).1:Int)=e then k else A8e ts es v r e
def B8j (ts:List TTri) (es:List TEdge) (v k:Int):Bool:=decide ((es.getD (spT ts es v k).1 A4o).left<0) || decide ((es.getD (spT ts es v k).1 A4o).right<0)
def B5l (ts:List TTri) (es:List TEdge) (v:Int) (l:List Int) (start:Int):Nat->Int->List Int->List Int->Option (List Int×List Int)
 |0,_,_,_=>none
 |f+1,k,tr,sp =>
  if A8e ts es v l (spT ts es v k).2<0 then some (tr++[k],(sp++[((spT ts es v k).1:Int)])++[((spT ts es v k).2:Int)])
  else if A8e ts es v l (spT ts es v k).2=start then some (tr++[k],sp++[((spT ts es v k).1:Int)])
  else B5l ts es v l start f (A8e ts es v l (spT ts es v k).2) (tr++[k]) (sp++[((spT ts es v k).1:Int)])
def E6a (ts:List TTri) (es:List TEdge) (v:Int) (l:List Int) (k:Int) (cl:Bool):TFan :=
 match B5l ts es v l k 49 k [] []with
 |some (tr,sp)=>⟨tr,sp,cl⟩
 |none=>⟨[],[],cl⟩
def A5s (ts:List TTri) (es:List TEdge) (v:Int) (l:List Int):Nat->List TFan
 |0=>[]
 |i+1=>if B8j ts es v (l.getD i 0)then A5s ts es v l i++[E6a ts es v l (l.getD i 0) false]else A5s ts es v l i
def A8x (ts:List TTri) (v:Int):List TFan :=
 if A5s ts (P_ ts) v (A2d ts v) (A2d ts v).length=[]then [E6a ts (P_ ts) v (A2d ts v) ((A2d ts v).getD 0 0) true]else A5s ts (P_ ts) v (A2d ts v) (A2d ts v).length
def D5b (ts:List TTri) (es:List TEdge) (v k:Int):Bool :=
 (decide (0<=k)&&decide (k<ts.length))&&(B6x (ts.getD k.toNat A4p) v&&(A6o es (A2i v (A3h (ts.getD k.toNat A4p) v).1)&&A6o es (A2i v (A3h (ts.getD k.toNat A4p) v).2)))
def fanOk (ts:List TTri) (v:Int):Bool :=
 !(A2d ts v).isEmpty&&((A2d ts v).all (D5b ts (P_ ts) v)&&(A2d ts v).all λk=>(B5l ts (P_ ts) v (A2d ts v) k 49 k [] []).isSome)
theorem B7u (ts:List TTri) (v:Int):∀ k,(A2u ts v k).length<=k
 |0=>Nat.le_refl _
 |k+1=>by unfold A2u;have:=B7u ts v k;split<;>(try rw[List.length_append])<;>simp<;>omega
theorem D8l {ts:List TTri} {es:List TEdge} {v:Int} {l:List Int} {e:Int} {i:Nat} {k:Int} (h:l[i]?=some k) :
  A8e ts es v (l.drop i) e=if ((spT ts es v k).1:Int)=e then k else A8e ts es v (l.drop (i+1)) e:=by
 obtain⟨b,rfl⟩:=List.getElem?_eq_some_iff.1 h;rw[List.drop_eq_getElem_cons b,A8e]
theorem D0a {ts:List TTri} {es:List TEdge} {v e:Int}:∀ {l:List Int},0<=A8e ts es v l e->A8e ts es v l e∈l
 | [],h=>by simp[A8e]at h
 |k::r,h=>by
  unfold A8e at h ⊢
  split
  ·exact List.mem_cons_self
  rename_i hn;rw[if_neg hn]at h;exact List.mem_cons_of_mem _ (D0a h)
def A1q (xs ys:List Int) (t:TTri) (a b:Int):Bool:=decide (A5u xs ys a b t.a<=0)&&(decide (A5u xs ys a b t.b<=0)&&decide (A5u xs ys a b t.c<=0))
def B0g (xs ys:List Int) (s t:TTri):Nat->Bool
 |0=>A1q xs ys t s.a s.b
 |1=>A1q xs ys t s.b s.c
 |_=>A1q xs ys t s.c s.a
def B9s (xs ys:List Int) (s t:TTri):Bool:=(List.range 3).any (B0g xs ys s t)
def A5v (n:Nat) (t:TTri):Prop:=(0<=t.a/\t.a<n)/\(0<=t.b/\t.b<n)/\(0<=t.c/\t.c<n)
theorem A5c {xs ys:List Int} {s t:TTri} {k:Nat} (h:∀ j,j<k->B0g xs ys s t j=false) (u:B0g xs ys s t k=false):∀ j,j<k+1->B0g xs ys s t j=false:=by
 intro j D;rcases Nat.lt_or_ge j k with b|b
 ·exact h j b
 obtain rfl:j=k:=oM;exact u
theorem C7t {xs ys:List Int} {s t:TTri} {j:Nat} (hj:j<3) (h:B0g xs ys s t j=true):B9s xs ys s t=true:=List.any_eq_true.2 ⟨j,List.mem_range.2 hj,h⟩
theorem E2g {xs ys:List Int} {s t:TTri} (h:∀ j,j<3->B0g xs ys s t j=false):B9s xs ys s t=false:=by
 unfold B9s;rw[List.any_eq_false];intro j b;rw[h j (List.mem_range.1 b)];simp
section
attribute [local go_sem] ix0 ix1 ix2
theorem B5a (v:Value) (n:Nat) (xs ys:List Int) (vs a1:Value) (s t:TTri) (bc bd:List Nat) (w:World) (aV:Plc w v n xs ys) (aW:A6a xs) (aX:A6a ys) (aF:Agg w vs s bc) (aG:Agg w a1 t bd) (aY:A5v n s) (aZ:A5v n t) :
  Calls prog 95 #[v,vs,a1] w (A0b w (.bool (B9s xs ys s t))):=by
 have ab:=A_ aV;have ac:=A_ aW;have ad:=A_ aX;have b:=A_ aY;have aa:=A_ aZ;obtain⟨A,be,a6,bq,bf,a7,br,bg,bu,bv,rfl,bh,bi⟩:=aV;have a4:=A_ aF;have a5:=A_ aG;obtain⟨rfl,_,_,_,_,_,_⟩:=TTri.agg aF;obtain⟨rfl,_,_,_,_,_,_⟩:=TTri.agg aG;clear aF aG bh bi aW aX aY aZ;go_enter func95,ntmps95;go_wp2_with fail;refine W_ 6 kR kR kR kR kR ?_;simp only[List.take_succ_cons,List.take_zero,List.drop_succ_cons,List.drop_zero];refine C_ _ ?_;refine D_ (MP.eq (.agg #[.int .i64 s.a,.int .i64 s.b,.int .i64 s.c])) ?_ ?_;·intro aD aE az ai ae;obtain⟨bm,bo⟩:=F_ ai;simp at ae;refine G_ ?_;exact A0i (A2g _ s _ az (a4.below Below.go))
 refine C_ _ ?_;refine D_ (MP.eq (.agg #[.int .i64 t.a,.int .i64 t.b,.int .i64 t.c])) ?_ ?_;·intro aD aE az ai ae;obtain⟨bm,bo⟩:=F_ ai;simp at ae;refine G_ ?_;exact A0i (A2g _ t _ az (a5.below Below.go))
 refine A1p #[.int .i64 0,.int .i64 0,.int .i64 0] 111 ?_ ?_;·intro aD aE az ai ae;refine⟨gD,?_⟩;go_simp
 refine A1p #[.int .i64 0,.int .i64 0,.int .i64 0] 111 ?_ ?_;·intro aD aE az ai ae;refine⟨gD,?_⟩;go_simp
 intro aD aE wa ai ae (aP:Hid _);simp at ae;have bs:=ae.2.2.2.2.1;have bt:=ae.2.2.2.2.2;obtain⟨⟨ga,bR,z4,aT⟩,aJ⟩:=bs;obtain⟨⟨gb,bS,aL,aU⟩,aK⟩:=bt;rw[z4]at aJ;rw[aL]at aK;have aA:=aJ ga sI;have aB:=aK gb sI;have bj:ga≠gb:=by intro e;have:=aP.o 4 5 dE dE dE ga (by rw[z4];simp);rw[aL]at this;simp[e]at this
 have bI:=bj.symm;obtain⟨a0,a8,-⟩:=bx aT;obtain⟨a9,ba,-⟩:=bx aU;have a2:=A_ (show Bw w wa from Below.go);obtain⟨bl,bn⟩:=F_ ai;have bO:w.1.size<wa.1.size:=ltg ai;have aH:w.1.size<=ga:=by(try simp at aA);omega
 have aI:w.1.size<=gb:=by(try simp at aB);omega
 have bJ:ga<wa.1.size:=aA.2;have bK:gb<wa.1.size:=aB.2;have n1:w.1.size≠ga:=by(try simp at aA);omega
 have n2:w.1.size≠gb:=by(try simp at aB);omega
 have bP:=n1.symm;have bQ:=n2.symm;have a3:=A_ (show Bw w ((((((wa.setCell ⟨ga,0,none⟩ (.int .i64 s.a)).setCell ⟨ga,1,none⟩ (.int .i64 s.b)).setCell ⟨ga,2,none⟩ (.int .i64 s.c)).setCell ⟨gb,0,none⟩ (.int .i64 t.a)).setCell ⟨gb,1,none⟩ (.int .i64 t.b)).setCell ⟨gb,2,none⟩ (.int .i64 t.c))from(((((a2.setCell (p:=⟨ga,0,none⟩) aH _).setCell (p:=⟨ga,1,none⟩) aH _).setCell (p:=⟨ga,2,none⟩) aH _).setCell (p:=⟨gb,0,none⟩) aI _).setCell (p:=⟨gb,1,none⟩) aI _).setCell (p:=⟨gb,2,none⟩) aI _);clear aP aJ aK aT aU z4 aL aA aB;go_wp2_with fail;go_loopg [17] 3 (λg s17 wr=>∃ k:Nat,k+g=3/\s17=.int .i64 k/\Hid (∀ j,j<k->B0g xs ys s t j=false)/\Bw w wr/\(w.1.size<wr.1.size/\ga<wr.1.size/\gb<wr.1.size)/\(wr.cell? ⟨w.1.size,0,none⟩=some (.slice A n be)/\wr.cell? ⟨w.1.size,1,none⟩=some (.slice (some ⟨a6,bq,none⟩) n bf)/\wr.cell? ⟨w.1.size,2,none⟩=some (.slice (some ⟨a7,br,none⟩) n bg)/\wr.cell? ⟨ga,0,none⟩=some (.int .i64 s.a)/\wr.cell? ⟨ga,1,none⟩=some (.int .i64 s.b)/\wr.cell? ⟨ga,2,none⟩=some (.int .i64 s.c)/\wr.cell? ⟨gb,0,none⟩=some (.int .i64 t.a)/\wr.cell? ⟨gb,1,none⟩=some (.int .i64 t.b)/\wr.cell? ⟨gb,2,none⟩=some (.int .i64 t.c)));case atStart =>exact⟨0,rfl,rfl,(show ∀ j,j<0->_ from λj bp=>absurd bp (Nat.not_lt_zero j)),a3.o,⟨sO,sO,sO⟩,⟨gS,gS,gS,gS,gS,gS,gS,gS,gS⟩⟩
 case round =>
 clear bl bn a0 a9 a8 ba;obtain⟨k,aC,rfl,Z,bk,⟨bL,bM,bN⟩,⟨bz,bA,bB,c3,bD,bE,bF,bG,bH⟩⟩:=hrel;have ak:=A_ bk;obtain rfl|rfl|rfl|rfl:k=0\/k=1\/k=2\/k=3:=oM
 ·obtain rfl:gk=2+1:=oM
  clear aC;go_wp2_with fail;obtain⟨r0,W⟩:∃ r,A5u xs ys s.a s.b t.a=r:=⟨_,rfl⟩
  have C:=A3v _ n xs ys s.a s.b t.a wr (ab.below ak) ac ad b.1 b.2.1 aa.1;rw[W]at C;have G:=A_ W;clear W;refine C.mono ?_;clear C;rintro _ I ⟨rfl,u⟩;obtain⟨aM,aQ⟩:=F_ u;have K:=A_ (Below.next ak u);have al:w.1.size<I.1.size:=by have:=u.size;omega
  have am:ga<I.1.size:=by have:=u.size;omega
  have an:gb<I.1.size:=by have:=u.size;omega
  by_cases H:r0<=0
  ·go_wp2_with fail
   obtain⟨ax,X⟩:∃ r,A5u xs ys s.a s.b t.b=r:=⟨_,rfl⟩
   have C:=A3v _ n xs ys s.a s.b t.b I (ab.below K) ac ad b.1 b.2.1 aa.2.1;rw[X]at C;have S:=A_ X;clear X;refine C.mono ?_;clear C;rintro _ J ⟨rfl,D⟩;obtain⟨aN,aR⟩:=F_ D;have O:=A_ (Below.next K D);have ao:w.1.size<J.1.size:=by have:=D.size;omega
   have ap:ga<J.1.size:=by have:=D.size;omega
   have aq:gb<J.1.size:=by have:=D.size;omega
   by_cases T:ax<=0
   ·go_wp2_with fail
    obtain⟨ay,Y⟩:∃ r,A5u xs ys s.a s.b t.c=r:=⟨_,rfl⟩
    have C:=A3v _ n xs ys s.a s.b t.c J (ab.below O) ac ad b.1 b.2.1 aa.2.2;rw[Y]at C;have ag:=A_ Y;clear Y;refine C.mono ?_;clear C;rintro _ w3 ⟨rfl,E⟩;obtain⟨aO,aS⟩:=F_ E;have af:=A_ (Below.next O E);have ar:w.1.size<w3.1.size:=by have:=E.size;omega
    have au:ga<w3.1.size:=by have:=E.size;omega
    have aw:gb<w3.1.size:=by have:=E.size;omega
    by_cases ah:ay<=0;·have aj:=A_ (show B9s xs ys s t=true from C7t (j:=0) dE (by show A1q xs ys t s.a s.b=true;unfold A1q;rw[G.o,S.o,ag.o];simp[H,T,ah]));go_wp2;go_ret;exact⟨by rw[aj.o];rfl,af⟩
    have h:=A_ (show ∀ j,j<0+1->B0g xs ys s t j=false from A5c Z (by show A1q xs ys t s.a s.b=false;unfold A1q;rw[G.o,S.o,ag.o];simp[H,T,ah]));go_wp2_with fail;go_roundg 2;case measure=>omega
    case rel=>exact⟨0+1,rfl,gN,h,af,⟨ar,au,aw⟩,⟨gS,gS,gS,gS,gS,gS,gS,gS,gS⟩⟩
   have h:=A_ (show ∀ j,j<0+1->B0g xs ys s t j=false from A5c Z (by show A1q xs ys t s.a s.b=false;unfold A1q;rw[G.o,S.o];simp[H,T]));go_wp2_with fail;go_roundg 2;case measure=>omega
   case rel=>exact⟨0+1,rfl,gN,h,O,⟨ao,ap,aq⟩,⟨gS,gS,gS,gS,gS,gS,gS,gS,gS⟩⟩
  have h:=A_ (show ∀ j,j<0+1->B0g xs ys s t j=false from A5c Z (by show A1q xs ys t s.a s.b=false;unfold A1q;rw[G.o];simp[H]));go_wp2_with fail;go_roundg 2;case measure=>omega
  case rel=>exact⟨0+1,rfl,gN,h,K,⟨al,am,an⟩,⟨gS,gS,gS,gS,gS,gS,gS,gS,gS⟩⟩
 ·obtain rfl:gk=1+1:=oM
  clear aC;go_wp2_with fail;obtain⟨r0,W⟩:∃ r,A5u xs ys s.b s.c t.a=r:=⟨_,rfl⟩
  have C:=A3v _ n xs ys s.b s.c t.a wr (ab.below ak) ac ad b.2.1 b.2.2 aa.1;rw[W]at C;have G:=A_ W;clear W;refine C.mono ?_;clear C;rintro _ I ⟨rfl,u⟩;obtain⟨aM,aQ⟩:=F_ u;have K:=A_ (Below.next ak u);have al:w.1.size<I.1.size:=by have:=u.size;omega
  have am:ga<I.1.size:=by have:=u.size;omega
  have an:gb<I.1.size:=by have:=u.size;omega
  by_cases H:r0<=0
  ·go_wp2_with fail
   obtain⟨ax,X⟩:∃ r,A5u xs ys s.b s.c t.b=r:=⟨_,rfl⟩
   have C:=A3v _ n xs ys s.b s.c t.b I (ab.below K) ac ad b.2.1 b.2.2 aa.2.1;rw[X]at C;have S:=A_ X;clear X;refine C.mono ?_;clear C;rintro _ J ⟨rfl,D⟩;obtain⟨aN,aR⟩:=F_ D;have O:=A_ (Below.next K D);have ao:w.1.size<J.1.size:=by have:=D.size;omega
   have ap:ga<J.1.size:=by have:=D.size;omega
   have aq:gb<J.1.size:=by have:=D.size;omega
   by_cases T:ax<=0
   ·go_wp2_with fail
    obtain⟨ay,Y⟩:∃ r,A5u xs ys s.b s.c t.c=r:=⟨_,rfl⟩
    have C:=A3v _ n xs ys s.b s.c t.c J (ab.below O) ac ad b.2.1 b.2.2 aa.2.2;rw[Y]at C;have ag:=A_ Y;clear Y;refine C.mono ?_;clear C;rintro _ w3 ⟨rfl,E⟩;obtain⟨aO,aS⟩:=F_ E;have af:=A_ (Below.next O E);have ar:w.1.size<w3.1.size:=by have:=E.size;omega
    have au:ga<w3.1.size:=by have:=E.size;omega
    have aw:gb<w3.1.size:=by have:=E.size;omega
    by_cases ah:ay<=0;·have aj:=A_ (show B9s xs ys s t=true from C7t (j:=1) dE (by show A1q xs ys t s.b s.c=true;unfold A1q;rw[G.o,S.o,ag.o];simp[H,T,ah]));go_wp2;go_ret;exact⟨by rw[aj.o];rfl,af⟩
    have h:=A_ (show ∀ j,j<1+1->B0g xs ys s t j=false from A5c Z (by show A1q xs ys t s.b s.c=false;unfold A1q;rw[G.o,S.o,ag.o];simp[H,T,ah]));go_wp2_with fail;go_roundg 1;case measure=>omega
    case rel=>exact⟨1+1,rfl,gN,h,af,⟨ar,au,aw⟩,⟨gS,gS,gS,gS,gS,gS,gS,gS,gS⟩⟩
   have h:=A_ (show ∀ j,j<1+1->B0g xs ys s t j=false from A5c Z (by show A1q xs ys t s.b s.c=false;unfold A1q;rw[G.o,S.o];simp[H,T]));go_wp2_with fail;go_roundg 1;case measure=>omega
   case rel=>exact⟨1+1,rfl,gN,h,O,⟨ao,ap,aq⟩,⟨gS,gS,gS,gS,gS,gS,gS,gS,gS⟩⟩
  have h:=A_ (show ∀ j,j<1+1->B0g xs ys s t j=false from A5c Z (by show A1q xs ys t s.b s.c=false;unfold A1q;rw[G.o];simp[H]));go_wp2_with fail;go_roundg 1;case measure=>omega
  case rel=>exact⟨1+1,rfl,gN,h,K,⟨al,am,an⟩,⟨gS,gS,gS,gS,gS,gS,gS,gS,gS⟩⟩
 ·obtain rfl:gk=0+1:=oM
  clear aC;go_wp2_with fail;obtain⟨r0,W⟩:∃ r,A5u xs ys s.c s.a t.a=r:=⟨_,rfl⟩
  have C:=A3v _ n xs ys s.c s.a t.a wr (ab.below ak) ac ad b.2.2 b.1 aa.1;rw[W]at C;have G:=A_ W;clear W;refine C.mono ?_;clear C;rintro _ I ⟨rfl,u⟩;obtain⟨aM,aQ⟩:=F_ u;have K:=A_ (Below.next ak u);have al:w.1.size<I.1.size:=by have:=u.size;omega
  have am:ga<I.1.size:=by have:=u.size;omega
  have an:gb<I.1.size:=by have:=u.size;omega
  by_cases H:r0<=0
  ·go_wp2_with fail
   obtain⟨ax,X⟩:∃ r,A5u xs ys s.c s.a t.b=r:=⟨_,rfl⟩
   have C:=A3v _ n xs ys s.c s.a t.b I (ab.below K) ac ad b.2.2 b.1 aa.2.1;rw[X]at C;have S:=A_ X;clear X;refine C.mono ?_;clear C;rintro _ J ⟨rfl,D⟩;obtain⟨aN,aR⟩:=F_ D;have O:=A_ (Below.next K D);have ao:w.1.size<J.1.size:=by have:=D.size;omega
   have ap:ga<J.1.size:=by have:=D.size;omega
   have aq:gb<J.1.size:=by have:=D.size;omega
   by_cases T:ax<=0
   ·go_wp2_with fail
    obtain⟨ay,Y⟩:∃ r,A5u xs ys s.c s.a t.c=r:=⟨_,rfl⟩
    have C:=A3v _ n xs ys s.c s.a t.c J (ab.below O) ac ad b.2.2 b.1 aa.2.2;rw[Y]at C;have ag:=A_ Y;clear Y;refine C.mono ?_;clear C;rintro _ w3 ⟨rfl,E⟩;obtain⟨aO,aS⟩:=F_ E;have af:=A_ (Below.next O E);have ar:w.1.size<w3.1.size:=by have:=E.size;omega
    have au:ga<w3.1.size:=by have:=E.size;omega
    have aw:gb<w3.1.size:=by have:=E.size;omega
    by_cases ah:ay<=0;·have aj:=A_ (show B9s xs ys s t=true from C7t (j:=2) dE (by show A1q xs ys t s.c s.a=true;unfold A1q;rw[G.o,S.o,ag.o];simp[H,T,ah]));go_wp2;go_ret;exact⟨by rw[aj.o];rfl,af⟩
    have h:=A_ (show ∀ j,j<2+1->B0g xs ys s t j=false from A5c Z (by show A1q xs ys t s.c s.a=false;unfold A1q;rw[G.o,S.o,ag.o];simp[H,T,ah]));go_wp2_with fail;go_roundg 0;case measure=>omega
    case rel=>exact⟨2+1,rfl,gN,h,af,⟨ar,au,aw⟩,⟨gS,gS,gS,gS,gS,gS,gS,gS,gS⟩⟩
   have h:=A_ (show ∀ j,j<2+1->B0g xs ys s t j=false from A5c Z (by show A1q xs ys t s.c s.a=false;unfold A1q;rw[G.o,S.o];simp[H,T]));go_wp2_with fail;go_roundg 0;case measure=>omega
   case rel=>exact⟨2+1,rfl,gN,h,O,⟨ao,ap,aq⟩,⟨gS,gS,gS,gS,gS,gS,gS,gS,gS⟩⟩
  have h:=A_ (show ∀ j,j<2+1->B0g xs ys s t j=false from A5c Z (by show A1q xs ys t s.c s.a=false;unfold A1q;rw[G.o];simp[H]));go_wp2_with fail;go_roundg 0;case measure=>omega
  case rel=>exact⟨2+1,rfl,gN,h,K,⟨al,am,an⟩,⟨gS,gS,gS,gS,gS,gS,gS,gS,gS⟩⟩
 have aj:=A_ (show B9s xs ys s t=false from E2g Z);clear aC;go_wp2;go_ret;exact⟨by rw[aj.o];rfl,ak⟩

theorem C3j (v:Value) (n:Nat) (xs ys:List Int) (ab:Value) (t:TTri) (am:List Nat) (w:World) (X:Plc w v n xs ys) (Z:A6a xs) (aa:A6a ys) (aJ:n<=40) (K:Agg w ab t am) (u:A5v n t)
  (Y:inB 0 t.4 2=true) (W:inB 0 t.5 60=true) (aq:0<A5u xs ys t.a t.b t.c) :
  Calls prog 94 #[v,ab] w (A0b w (.bool true)):=by
 have ae:=A_ X;have ag:=A_ Z;have ah:=A_ aa;have J:=A_ u;have aj:=A_ (by unfold inB;have:=u.1;simp;omega:inB 0 t.a ((n:Int) - 1)=true);have ak:=A_ (by unfold inB;have:=u.2.1;simp;omega:inB 0 t.b ((n:Int) - 1)=true);have al:=A_ (by unfold inB;have:=u.2.2;simp;omega:inB 0 t.c ((n:Int) - 1)=true);have af:=A_ Y;have ad:=A_ W;obtain⟨r,S⟩:∃ r,A5u xs ys t.a t.b t.c=r:=⟨_,rfl⟩
 rw[S]at aq;have R:=A_ S;have aK:(n:Int)<=40:=oM;obtain⟨A,ay,ar,aT,az,au,aU,aA,aw,ax,rfl,an,ao⟩:=X;have ai:=A_ K;obtain⟨rfl,_,_,_,_,_,_⟩:=TTri.agg K;clear K an ao Z aa u Y W S;go_enter func94,ntmps94;go_wp2_with fail;refine(A2g _ t _ _ (ai.below Below.go)).mono ?_;rintro _ I ⟨rfl,O⟩;have ac:=A_ (show Bw w I from Below.go);obtain⟨aB,aF⟩:=F_ O;have aL:w.1.size<I.1.size:=ltg O;have aP:w.1.size+1<I.1.size:=ltg O;go_wp2_with fail;go_loopg [9] 3 (λg s wr=>∃ k:Nat,k+g=3/\s=.int .i64 k/\Bw I wr);case atStart=>exact⟨0,rfl,rfl,Below.refl _ _⟩
 case round =>
  obtain⟨k,H,rfl,E⟩:=hrel;have D:=A_ E;obtain⟨aE,aI⟩:=F_ E;have aO:w.1.size<wr.1.size:=by have:=E.size;omega
  have aS:w.1.size+1<wr.1.size:=by have:=E.size;omega
  obtain rfl|rfl|rfl|rfl:k=0\/k=1\/k=2\/k=3:=oM
  ·obtain rfl:gk=2+1:=oM
   clear H;go_wp2_with fail;have C:=A0s t.a 0 ((n:Int) - 1) wr;rw[aj.o]at C;refine C.mono ?_;clear C;rintro _ h ⟨rfl,b⟩;go_wp2_with fail;go_roundg 2;case measure=>omega
   case rel=>exact⟨0+1,rfl,gN,Below.next D b⟩
  ·obtain rfl:gk=1+1:=oM
   clear H;go_wp2_with fail;have C:=A0s t.b 0 ((n:Int) - 1) wr;rw[ak.o]at C;refine C.mono ?_;clear C;rintro _ h ⟨rfl,b⟩;go_wp2_with fail;go_roundg 1;case measure=>omega
   case rel=>exact⟨1+1,rfl,gN,Below.next D b⟩
  ·obtain rfl:gk=0+1:=oM
   clear H;go_wp2_with fail;have C:=A0s t.c 0 ((n:Int) - 1) wr;rw[al.o]at C;refine C.mono ?_;clear C;rintro _ h ⟨rfl,b⟩;go_wp2_with fail;go_roundg 0;case measure=>omega
   case rel=>exact⟨2+1,rfl,gN,Below.next D b⟩
  clear H;go_wp2_with fail;have C:=A0s t.4 0 2 wr;rw[af.o]at C;refine C.mono ?_;clear C;rintro _ h ⟨rfl,b⟩;obtain⟨aC,aG⟩:=F_ b;have aM:w.1.size<h.1.size:=by have:=b.size;omega
  have aQ:w.1.size+1<h.1.size:=by have:=b.size;omega
  go_wp2_with fail;have C:=A0s t.5 0 60 h;rw[ad.o]at C;refine C.mono ?_;clear C;rintro _ w3 ⟨rfl,G⟩;obtain⟨aD,aH⟩:=F_ G;have aN:w.1.size<w3.1.size:=by have:=G.size;omega
  have aR:w.1.size+1<w3.1.size:=by have:=G.size;omega
  have T:=A_ (Below.next (Below.next (Below.next ac D) b) G);go_wp2_with fail;have C:=A3v _ n xs ys t.a t.b t.c w3 (ae.below T) ag ah J.1 J.2.1 J.2.2;rw[R.o]at C;refine C.mono ?_;clear C;rintro _ aV ⟨rfl,ap⟩;go_wp2;go_ret;exact⟨rfl,Below.next T ap⟩
end
def D9z (xs ys:List Int) (a b:Int) (n:Nat):Prop:=∀ c:Nat,c<n->(c:Int)=a\/(c:Int)=b\/A5t xs ys a b c=false
def E9p (xs ys:List Int) (n:Nat) (t:TTri):Prop:=D9z xs ys t.a t.b n/\D9z xs ys t.b t.c n/\D9z xs ys t.c t.a n
section
theorem D1l {xs ys:List Int} {n:Nat} {t:TTri} (h:A5v n t) (b:E9p xs ys n t) {i:Nat} (hi:i<3) :
  (0<=cnr t i/\cnr t i<n)/\(0<=cnr t ((i+1) % 3)/\cnr t ((i+1) % 3)<n)/\D9z xs ys (cnr t i) (cnr t ((i+1) % 3)) n:=by
 obtain rfl|rfl|rfl:i=0\/i=1\/i=2:=oM;·exact⟨h.1,h.2.1,b.1⟩
 ·exact⟨h.2.1,h.2.2,b.2.1⟩
 exact⟨h.2.2,h.1,b.2.2⟩
attribute [local go_sem] ix0 ix1 ix2

theorem C6x (v:Value) (n:Nat) (xs ys:List Int) (B:Option Addr) (m d:Nat) (ts:List TTri) (aU:List Nat) (w:World) (aA:Plc w v n xs ys) (aB:A6a xs) (aC:A6a ys) (bn:n<=40) (aD:Sl w B m d ts aU) (bm:m<=48)
  (ax:∀ t∈ts,A5v n t) (az:∀ t∈ts,E9p xs ys n t) :
  Calls prog 97 #[v,.slice B m d] w (A0b w (.bool false)):=by
 have aN:=A_ aA;have aO:=A_ aB;have aP:=A_ aC;have aJ:=A_ ax;have aM:=A_ az;obtain⟨A,bh,bc,bp,bi,bd,bq,bj,be,bf,rfl,a2,a3⟩:=aA;have aQ:=A_ aD;clear a2 a3 aB aC ax az aD;go_enter func97,ntmps97;go_wp2_with fail;refine Code.new λaT u=>?_;go_loopg [14] m (λg s wr=>∃ k:Nat,k+g=m/\s=.int .i64 k/\Hid (Bw aT wr));case atStart=>exact⟨0,oM,rfl,Below.refl _ _⟩
 case round =>
  obtain⟨k,ay,rfl,J⟩:=hrel;have ad:=A_ (Below.next u.b J);obtain⟨ak,-,h⟩:=bx (A0z u.k J);rcases Nat.lt_or_ge k m with Z|Z
  ·have a9:(k:Int)<m:=oM
   obtain⟨bg,br,t,rfl,bk,ai,aV,aW,aX,aY,aZ,ag⟩:=TTri.elemA (aQ.below ad) Z;have aH:=A_ ag;have aK:=A_ (aJ t (List.mem_of_getElem? ai));have aL:=A_ (aM t (List.mem_of_getElem? ai));have am:=A_ (show I64 t.a/\I64 t.b/\I64 t.c from have af:=(TTri.agg ag).2.2;⟨af.1,af.2.1,af.2.2.1⟩);obtain⟨g,rfl⟩:∃ g,gk=g+1:=⟨gk - 1,oM⟩
   have a8:=A_ (by omega:k+1+g=m);clear ay Z ai ag;go_wp2_with fail;refine(A2g _ t _ (wr.alloc (.cells #[.int .i64 t.a,.int .i64 t.b,.int .i64 t.c,.int .i64 t.4,.int .i64 t.5] 93)) (aH.below (Below.box _))).mono ?_;rintro _ bt ⟨rfl,aq⟩;have al:=A_ (Below.next J.o (Below.trans (Below.box _) (aq.mono sI)));clear aq aV aW aX aY aZ ak h ad J;obtain⟨ak,-,h⟩:=bx (A0z u.k al);go_wp2_with fail;refine Code.new λao K=>?_;have E:=A_ (Below.next al K.b);go_loopg [21] 3 (λg s wr=>∃ i:Nat,i+g=3/\s=.int .i64 i/\Hid (Bw ao wr));case atStart=>exact⟨0,rfl,rfl,Below.refl _ _⟩
   case round =>
   clear ak h;obtain⟨i,aw,rfl,b⟩:=hrel;obtain⟨O,-,h⟩:=bx (A0z u.k (Below.next E b));obtain⟨⟨S,T,W⟩,aa,q1⟩:=E1u (A0z K.k b);rcases Nat.lt_or_ge i 3 with X|X
   ·obtain⟨ap,rfl⟩:∃ g,gk=g+1:=⟨gk - 1,oM⟩
    have a7:=A_ (by omega:i+1+ap=3);have bl:(i:Int)<3:=oM;obtain⟨⟨m1,-⟩,aj,-⟩:=F1e X;have bs:=λw=>ixn t X w;have ba:=A_ (C3u am i);have aR:=A_ (C3u am ((i+1) % 3));obtain⟨aE,aF,I⟩:=D1l aK aL X;have aS:=A_ aE;have an:=A_ aF;have I:=A_ I;have bo:(((i+1) % 3:Nat):Int)<3:=oM;generalize cnr t i=a at *;generalize (i+1) % 3=j at *;obtain⟨D,ae⟩:∃ D,cnr t j=D:=⟨_,rfl⟩
    have ab:=A_ ae;rw[ae]at aR an I;clear ae;replace q1:=q1 aj ab;clear aw aE aF;obtain⟨U,a1⟩:∃ U,U=wr:=⟨_,rfl⟩
    subst a1;go_wp2_with fail;go_loopg [33] n (λg s wr=>∃ c:Nat,c+g=n/\s=.int .i64 c/\Hid (Bw ao wr));case atStart=>exact⟨0,oM,rfl,b.o⟩
    case round =>
     clear O S T W h aa q1 b;obtain⟨c,ar,rfl,b⟩:=hrel;obtain⟨O,-,h⟩:=bx (A0z u.k (Below.next E b));obtain⟨⟨S,T,W⟩,aa,q1⟩:=E1u (A0z K.k b);replace q1:=q1 aj ab;have aI:=A_ (Below.next u.b (Below.next E b));rcases Nat.lt_or_ge c n with Y|Y
     ·have au:(c:Int)<n:=oM
      have aG:=A_ (show 0<=(c:Int)/\(c:Int)<n from⟨oM,au⟩);have F:=A_ (I c Y);obtain⟨g,rfl⟩:∃ g,gk=g+1:=⟨gk - 1,oM⟩
      have ah:=A_ (by omega:c+1+g=n);clear ar Y;by_cases G:(c:Int)=a
      ·have a4:((c:Int) != a)=false:=by simp[G]
       clear G;go_wp2_with fail;go_roundg g;case measure=>omega
       case rel=>exact⟨c+1,ah,gN,b⟩
      have a4:((c:Int) != a)=true:=by simp[G]
      by_cases H:(c:Int)=D
      ·have a6:((c:Int) != D)=false:=by simp[H]
       clear H;go_wp2_with fail;go_roundg g;case measure=>omega
       case rel=>exact⟨c+1,ah,gN,b⟩
      have a6:((c:Int) != D)=true:=by simp[H]
      have F:=A_ ((F.resolve_left G).resolve_left H);clear G H;go_wp2_with fail;have C:=B2s _ n xs ys a D c wr (aN.below aI) aO aP aS an aG;rw[F.o]at C;refine C.mono ?_;clear C;rintro _ bu ⟨rfl,a5⟩;have ac:=A_ (Below.next b a5);clear O S T W h aa q1;obtain⟨O,-,h⟩:=bx (A0z u.k (Below.next E ac));obtain⟨⟨S,T,W⟩,aa,q1⟩:=E1u (A0z K.k ac);replace q1:=q1 aj ab;go_wp2_with fail;go_roundg g;case measure=>omega
      case rel=>exact⟨c+1,ah,gN,ac⟩
     obtain rfl:c=n:=oM;have au:¬ ((c:Int)<c):=oM;clear ar Y;go_wp2_with fail;go_roundg ap;case measure=>omega
     case rel=>exact⟨i+1,a7,gN,b⟩
   obtain rfl:i=3:=oM;clear aw;go_wp2_with fail;go_roundg g;case measure=>omega
   case rel=>exact⟨k+1,a8,gN,Below.next E b⟩
  obtain rfl:k=m:=oM;have a9:¬ ((k:Int)<k):=oM;clear ay Z;go_wp2;go_ret;exact⟨rfl,ad⟩
end
def A6x (es:List TEdge) (k:Int) (t:TTri):Nat->List TEdge
 |0=>es
 |i+1=>B2f (A6x es k t i) k (cnr t i) (cnr t ((i+1) % 3))
theorem C6h (es:List TEdge) (k:Int) (t:TTri):∀ i,(A6x es k t i).length<=es.length+i
 |0=>Nat.le_refl _
 |i+1=>by
  have h1:=B6s (A6x es k t i) k (cnr t i) (cnr t ((i+1) % 3))
  have:=C6h es k t i
  rw[A6x];omega
theorem E2n {w wr:World} {g n cap:Nat} {cells:List Value} {es:List TEdge} {u:List Nat} (h:wr.ownsRow (w.1.size+1) 70 4 (.slice (some ⟨g,0,none⟩) n cap) n cells) (aa:Sl wr (some ⟨g,0,none⟩) n cap es u):Own w wr u:=by
 obtain⟨ag,ah,ai,I,J⟩:=aa;rcases Nat.eq_zero_or_pos n with b|b;·rw[I b];exact Own.nil _ _
 obtain⟨ac,al,G,K,rfl,Y,ak,S⟩:=J b;have T:G.flatten=[]:=by
  rw[List.flatten_eq_nil_iff];intro l Z;obtain⟨k,D⟩:=List.mem_iff_getElem?.1 Z;have X:k<es.length:=by rw[<-Y];exact(List.getElem?_eq_some_iff.1 D).1
  obtain⟨ae,_,O⟩:=S k _ l (List.getElem?_eq_getElem X) D;exact(TEdge.open_ O).2.1
 rw[T];cases K;rcases h.2 with⟨H,_⟩|⟨g',ad,af,ab,aj,W,_⟩
 ·cases H
 cases ab;exact⟨sI,λx E=>by simp at E;subst E;exact⟨oM,_,_,W⟩⟩

theorem E4t {w b:World} {J K:Option Addr} {Y O n1 S:Nat} {h cap D p i g:Nat} {k:Int} {lt:Bool} {E G:List TEdge} {t:TTri} (W:b.ownsRow (w.1.size+1) 70 4 (.slice (some ⟨h,0,none⟩) D cap) D (E.flatMap A8d)) (aa:E.length=D) (ab:p<D)
  (Z:Below (w.1.size+1) (w.alloc (.cells #[.slice J Y O,.slice K n1 S] 26)) b) (H:b.cell? ⟨g,0,none⟩=some (.int .i64 t.a)/\b.cell? ⟨g,1,none⟩=some (.int .i64 t.b)/\b.cell? ⟨g,2,none⟩=some (.int .i64 t.c)) (ad:h≠g) (ac:g<b.1.size) (X:A6x G k t (i+1)=E.modify p (C2b k lt)) :
  (∃ u,b.cell? ⟨h,p*4+(if lt then 2 else 3),none⟩=some u)/\b.frozen? ⟨h,p*4+(if lt then 2 else 3),none⟩=false/\h<b.1.size /\
  (b.setCell ⟨h,p*4+(if lt then 2 else 3),none⟩ (.int .i64 k)).ownsRow (w.1.size+1) 70 4 (.slice (some ⟨h,0,none⟩) D cap) D ((A6x G k t (i+1)).flatMap A8d)/\(A6x G k t (i+1)).length=D /\
  Below (w.1.size+1) (w.alloc (.cells #[.slice J Y O,.slice K n1 S] 26)) (b.setCell ⟨h,p*4+(if lt then 2 else 3),none⟩ (.int .i64 k))/\g<(b.setCell ⟨h,p*4+(if lt then 2 else 3),none⟩ (.int .i64 k)).1.size /\
  ((b.setCell ⟨h,p*4+(if lt then 2 else 3),none⟩ (.int .i64 k)).cell? ⟨g,0,none⟩=some (.int .i64 t.a)/\(b.setCell ⟨h,p*4+(if lt then 2 else 3),none⟩ (.int .i64 k)).cell? ⟨g,1,none⟩=some (.int .i64 t.b)/\(b.setCell ⟨h,p*4+(if lt then 2 else 3),none⟩ (.int .i64 k)).cell? ⟨g,2,none⟩=some (.int .i64 t.c)):=by
 have T:=World.ownsRow.lt W _ rfl;subst aa;obtain⟨r,-,c,f⟩:=A3a W (i:=p*4+(if lt then 2 else 3)) (by rw[D5v];split<;>omega) (.int .i64 k);rw[<-E1m k lt E p ab,<-X]at r;have I:∀ o,(b.setCell ⟨h,p*4+(if lt then 2 else 3),none⟩ (.int .i64 k)).cell? ⟨g,o,none⟩=b.cell? ⟨g,o,none⟩:=λo=>World.cell?_setCell_other b _ ⟨g,o,none⟩ _ sI;exact⟨c,f,T.2,r,by rw[X,List.length_modify],Z.setCell (p:=⟨h,p*4+(if lt then 2 else 3),none⟩) T.1 _,by simpa using ac,(I 0).trans H.1,(I 1).trans H.2.1,(I 2).trans H.2.2⟩
theorem A7q (v:Value) (m:TMesh) (b:List Nat) (w:World) (bp:Agg w v m b) (ay:m.triangles.length<=48) :
  Calls prog 32 #[v] w (A0w w (P_ m.triangles)):=by
 obtain⟨aa,am,ah,cQ,aD,n1,ai,cR,rfl,rfl,ch,aB⟩:=TMesh.agg bp;have aZ:=A_ aB;have aY:=A_ aB.1;have cH:n1<=48:=by rw[<-aB.1];exact ay
 obtain⟨cP,cB,cM,cN,cO⟩:=info_parts D2l;clear bp ch aB ay;obtain⟨E,bn⟩:∃ E,m.triangles=E:=⟨_,rfl⟩
 rw[bn]at aZ aY ⊢;clear bn;go_enter func32,ntmps32;go_wp2_with fail;go_loopg [3,17] n1 (λg s3 s17 wr=>∃ (k gB cap L:Nat),k+g=n1/\s17=.int .i64 k/\s3=.slice (some ⟨gB,0,none⟩) L cap/\Hid ((A4g E k).length=L)/\Hid (wr.ownsRow (w.1.size+1) 70 4 (.slice (some ⟨gB,0,none⟩) L cap) L ((A4g E k).flatMap A8d))/\Hid (∀ e∈A4g E k,B0c e)/\Below (w.1.size+1) (w.alloc (.cells #[.slice aa am ah,.slice aD n1 ai] 26)) wr);case atStart =>
  refine⟨0,w.1.size+1,0,0,oM,rfl,rfl,?_,?_,?_,?_⟩;·show([]:List TEdge).length=0;rfl
  ·have:=World.ownsRow_made (base:=w.1.size+1) (e:=70) (size:=4) (w.alloc (.cells #[.slice aa am ah,.slice aD n1 ai] 26)) #[] 0 sI (Nat.zero_le _) rfl;rw[World.size_alloc]at this;exact this
  ·show ∀ e∈([]:List TEdge),B0c e;intro e b3;cases b3
  exact(Below.refl _ _).alloc sI _
 case round =>
  obtain⟨k,gB,cap,L,bf,rfl,rfl,ao,al,aA,ap⟩:=hrel;have aV:=A_ (show Bw w wr from(Below.box (.cells #[.slice aa am ah,.slice aD n1 ai] 26)).trans (ap.mono oM));rcases Nat.lt_or_ge k n1 with ax|ax
  ·obtain⟨g,rfl⟩:∃ g,gk=g+1:=⟨gk - 1,oM⟩
   have b9:=A_ (by omega:k+1+g=n1);have cb:(k:Int)<n1:=oM;have cF:(k:Int)<=48:=oM;obtain⟨a5,bs,t,rfl,cw,bq,cn,co,cp,cq,cs,a9⟩:=TTri.elemA (aZ.below aV) ax;have bH:=A_ bq;have aS:=A_ a9;have aT:=A_ ap;clear bf ax bq a9 ap;go_wp2_with fail;refine(A2g _ t _ _ (aS.below (Below.box _))).mono ?_;rintro _ h ⟨rfl,ba⟩;obtain⟨b0,b4⟩:=F_ ba;obtain⟨G,au⟩:∃ D,A4g E k=D:=⟨_,rfl⟩
   rw[au]at ao al aA;have aG:=A_ (by rw[A4g,List.getD_eq_getElem?_getD,bH.o,au];rfl:A4g E (k+1)=E8t G k t);have bD:=A_ (by rw[<-au];exact A5z E k:G.length<=3*k);have cG:k<=48:=oM;have a3:=A_ (show I64 t.a/\I64 t.b/\I64 t.c from by obtain⟨_,_,ck,i2,cm,_,_⟩:=TTri.agg aS;exact⟨ck,i2,cm⟩);have bI:=A_ (by constructor<;>omega:I64 (k:Int));have aX:=A_ (show Bw wr h from Below.trans (Below.box _) (ba.mono sI));have aI:=A_ (I_ al aX);have aU:=A_ (aT.trans (aX.mono (by have:=aT.size;simp at this;omega)));have cf:=(World.ownsRow.lt aI _ rfl).2;clear au;go_wp2_with fail;go_loopg [3,25] 3 (λg s3 s25 wr=>∃ (i J X u:Nat),i+g=3/\s25=.int .i64 i/\s3=.slice (some ⟨J,0,none⟩) u X/\Hid ((A6x G k t i).length=u)/\Hid (wr.ownsRow (w.1.size+1) 70 4 (.slice (some ⟨J,0,none⟩) u X) u ((A6x G k t i).flatMap A8d))/\Hid (∀ e∈A6x G k t i,B0c e)/\J≠h.1.size/\Below (w.1.size+1) (w.alloc (.cells #[.slice aa am ah,.slice (some ⟨a5,bs,none⟩) n1 ai] 26)) wr/\h.1.size<wr.1.size/\(wr.cell? ⟨h.1.size,0,none⟩=some (.int .i64 t.a)/\wr.cell? ⟨h.1.size,1,none⟩=some (.int .i64 t.b)/\wr.cell? ⟨h.1.size,2,none⟩=some (.int .i64 t.c)));case atStart=>exact⟨0,gB,cap,L,rfl,rfl,rfl,ao.o,I_ aI.o (Below.box _),aA.o,oM,aU.o.alloc (by have:=aU.o.size;simp at this;omega) _,sI,⟨gS,gS,gS⟩⟩
   case round =>
   clear b0 b4 ao al aA aI cf;obtain⟨i,J,X,u,bd,rfl,rfl,I,ak,az,aO,bc,cL,⟨a4,b1,b2⟩⟩:=hrel;have aF:=A_ bc;clear bc;rcases Nat.lt_or_ge i 3 with aN|aN
   ·have b6:=λw=>ixn t aN w
    obtain⟨j,be,b7⟩:∃ j:Nat,(i+1) % 3=j/\j<3:=⟨_,rfl,Nat.mod_lt _ dE⟩
    have bU:=C7j ⟨a4,b1,b2⟩ b7;have cE:(i:Int)<3:=oM;have ay:((i:Int)+1).tmod 3=j:=by rw[<-be];rcases(by omega:i=0\/i=1\/i=2)with rfl|rfl|rfl<;>rfl
    have b8:(j:Int)<3:=oM;have aH:=A_ (by rw[A6x,be]:A6x G k t (i+1)=B2f (A6x G k t i) k (cnr t i) (cnr t j));have a1:=A_ (C3u a3 i);have a2:=A_ (C3u a3 j);generalize cnr t i=a at *;generalize cnr t j=b at *;obtain⟨D,aM⟩:∃ D,A6x G k t i=D:=⟨_,rfl⟩
    rw[aM]at I ak az aH;have af:=A_ (by have:=C6h G k t i;rw[aM,I.o]at this;have:=bD.o;omega:u<=65536);have ct:(u:Int)<=65536:=by have:=af.o;omega
    have bM:=A_ (by rw[aH.o];exact E5b bI a1 a2 az:∀ e∈A6x G k t (i+1),B0c e);have ab:=A_ (D9a a1 a2);obtain⟨p,Z⟩:∃ p,A3z D (C8i a b)=p:=⟨_,rfl⟩
    obtain⟨aj,O⟩:∃ f,A6o D (C8i a b)=f:=⟨_,rfl⟩
    have ag:=A_ (by rw[<-Z,<-I.o];exact D9w _ _:p<=u);have cJ:(p:Int)<=u:=by have:=ag.o;omega
    have bz:=A_ (show aj=true->p<u from λK=>by unfold A6o at O;rw[Z,I.o,K]at O;simp at O;exact O.1);have aE:=A_ (show B2f D k a b=(bif aj then D else C8f D p (C8i a b)).modify p (C2b k (decide (a<b))) by unfold B2f;simp only[Z,O];cases aj<;>rfl);obtain⟨bS,bm,_⟩:=C9f ak I az;have cz:J<wr.1.size:=(World.ownsRow.lt ak _ rfl).2;obtain⟨T,ce⟩:∃ l,min a b=l:=⟨_,rfl⟩
    obtain⟨S,b5⟩:∃ l,max a b=l:=⟨_,rfl⟩
    have bF:=A_ (by unfold C8i;rw[ce,b5]:C8i a b=⟨T,S,-1,-1⟩);rw[bF.o]at ab Z O aE;have bG:=A_ aE;clear aE;have C:=B4a (some ⟨J,0,none⟩) u X D bS (.agg #[.int .i64 T,.int .i64 S,.int .i64 (-1),.int .i64 (-1)]) ⟨T,S,-1,-1⟩ [] (wr.alloc (.cells #[.int .i64 T,.int .i64 S,.int .i64 (-1),.int .i64 (-1)] 70)) (bm.below (Below.box _)) af (TEdge.mkAgg (x:=⟨T,S,-1,-1⟩) ab.1 ab.2.1 ab.2.2.1 ab.2.2.2);rw[Z,O]at C;have aR:=A_ C;obtain⟨gk,rfl⟩:∃ q,gk=q+1:=⟨gk - 1,oM⟩
    have bE:=A_ (by omega:(i+1)+gk=3);clear C Z O bm aM bd;go_wp2_with fail;refine aR.mono ?_;clear aR;rintro _ W ⟨rfl,aq⟩;obtain⟨cx,cy⟩:=F_ aq;have aW:=A_ (show Bw wr W from Below.trans (Below.box _) (aq.mono sI));have cK:wr.1.size<W.1.size:=by have:=aq.size;simp at this;omega
    have aJ:=A_ (I_ ak aW);have ae:=A_ (aF.trans (aW.mono (by have:=aF.size;simp at this;omega)));have an:=A_ (show(W.cell? ⟨h.1.size,0,none⟩=some (.int .i64 t.a)/\W.cell? ⟨h.1.size,1,none⟩=some (.int .i64 t.b)/\W.cell? ⟨h.1.size,2,none⟩=some (.int .i64 t.c))from⟨gS,gS,gS⟩);have aC:h.1.size<W.1.size:=oM;clear a4 b1 b2 bU b6 ay b8 aq;go_upto_if 48 with fail
    go_cut [3] (λs3 wx=>∃ (ad Y H:Nat) (ac:List TEdge),s3=.slice (some ⟨ad,0,none⟩) H Y/\Hid (ac=bif aj then D else C8f D p ⟨T,S,-1,-1⟩)/\Hid (ac.length=H)/\Hid (p<H)/\Hid (H<=65537)/\Hid (wx.ownsRow (w.1.size+1) 70 4 (.slice (some ⟨ad,0,none⟩) H Y) H (ac.flatMap A8d))/\Hid (ad≠h.1.size) /\
     Hid (Below (w.1.size+1) (w.alloc (.cells #[.slice aa am ah,.slice (some ⟨a5,bs,none⟩) n1 ai] 26)) wx)/\Hid (h.1.size<wx.1.size)/\Hid (wx.cell? ⟨h.1.size,0,none⟩=some (.int .i64 t.a)/\wx.cell? ⟨h.1.size,1,none⟩=some (.int .i64 t.b)/\wx.cell? ⟨h.1.size,2,none⟩=some (.int .i64 t.c)))
    case first =>
     cases aj
     ·go_wp2_with fail
      refine(D6w (w.1.size+1) J u X W.1.size p (D.flatMap A8d) [.int .i64 T,.int .i64 S,.int .i64 (-1),.int .i64 (-1)] _ (I_ aJ (Below.box _)) (by have:=ae.size;simp at this;simp;omega) af.o ag.o (heap_alloc_new W _) rfl (by intro v bo;simp at bo;rcases bo with rfl|rfl|rfl|rfl<;>rfl) E5o oM).mono ?_;rintro _ w3 ⟨a6,Y,rfl,bk,aw,bi⟩;have bh:a6≠h.1.size:=λe=>bi.elim (λK=>aO (K ▸ e)) (λK=>by simp at K;omega);have ar:=aw.block h.1.size sO (by intro e;injection e with e;exact aO e.symm);have bO:=A_ bk;have bK:=A_ bh;have bt:=A_ (show(w3.cell? ⟨h.1.size,0,none⟩=some (.int .i64 t.a)/\w3.cell? ⟨h.1.size,1,none⟩=some (.int .i64 t.b)/\w3.cell? ⟨h.1.size,2,none⟩=some (.int .i64 t.c))from⟨(World.cell?_of_block (a:=⟨h.1.size,0,none⟩) ar).trans (((Below.box _).cell (p:=⟨h.1.size,0,none⟩) aC).trans an.1),(World.cell?_of_block (a:=⟨h.1.size,1,none⟩) ar).trans (((Below.box _).cell (p:=⟨h.1.size,1,none⟩) aC).trans an.2.1),(World.cell?_of_block (a:=⟨h.1.size,2,none⟩) ar).trans (((Below.box _).cell (p:=⟨h.1.size,2,none⟩) aC).trans an.2.2)⟩);have bB:=A_ ((ae.alloc (by have:=ae.size;simp at this;omega) _).grown aw (by have:=ae.o.size;simp at this;simp;omega) (λk2 ca=>by injection ca with K;subst K;exact(World.ownsRow.lt aJ _ rfl).1));have ci:h.1.size<w3.1.size:=by have:=aw.size;simp at this;omega
      clear bk aw bi ar bh;go_wp2_with fail;go_meet;exact⟨a6,Y,u+1,C8f D p ⟨T,S,-1,-1⟩,rfl,rfl,(by rw[D3s (by rw[I.o];exact ag.o),I.o]:_=_),Nat.lt_succ_of_le ag.o,Nat.succ_le_succ af.o,(by rw[E3a (by rw[I.o];exact ag)];exact bO:World.ownsRow _ _ _ _ _ _ _),bK,bB,ci,bt⟩
     have bN:=A_ (bz rfl);go_wp2_with fail;go_meet;exact⟨J,X,u,D,rfl,rfl,I,bN,Nat.le_succ_of_le af,aJ,aO,ae,aC,an⟩
    case rest =>
    obtain⟨ad,Y,H,ac,rfl,bX,cc,bj,cd,cg,bg,bY,cj,bZ⟩:=hcut;rename World=>wx;rename (∀ (a:Act) (w:World),Code.wp _ _ _ a w->_)=>a7;refine a7 _ _ ?_;clear a7;have cI:(p:Int)<H:=by have:=bj.o;omega
    have cu:(H:Int)<=65537:=by have:=cd.o;omega
    have bL:=A_ (by rw[aH.o,bG.o,bX.o]:A6x G k t (i+1)=ac.modify p (C2b k (decide (a<b))));have bQ:=A_ (fun(lt:Bool) (K:decide (a<b)=lt)=>E4t (i:=i) (k:=k) (lt:=lt) cg.o cc.o bj.o bY.o bZ.o bg.o cj.o (K ▸ bL.o));by_cases a8:a<b
    all_goals
     have M:=bQ.o _ (by first|exact decide_eq_true a8|exact decide_eq_false a8);obtain⟨⟨cU,bV⟩,bW,cA,aP,br,aL,aQ,aK⟩:=M;simp only[if_true,if_false,Bool.false_eq_true]at bV bW aP aL aQ aK;have bP:=A_ aP;have bJ:=A_ br;have bA:=A_ aL;have bR:=A_ aQ;have bu:=A_ aK;clear aP br aL aQ aK;go_wp2_with fail;go_roundg gk;case measure=>omega
     case rel=>exact⟨i+1,ad,Y,H,bE,gN,rfl,bJ,bP,bM,bg,bA,bR,bu⟩
   obtain rfl:i=3:=oM;obtain rfl:gk=0:=oM;clear bd aN;go_wp2_with fail;go_roundg g;case measure=>omega
   case rel=>exact⟨k+1,J,X,u,b9.o,gN,rfl,(by rw[aG.o];exact I.o:(A4g E (k+1)).length=u),(by rw[aG.o];exact ak.o:wr.ownsRow _ _ _ _ _ ((A4g E (k+1)).flatMap A8d)),(by rw[aG.o];exact az:∀ e∈A4g E (k+1),B0c e),aF⟩
  obtain rfl:k=n1:=oM;have cb:¬ ((k:Int)<k):=oM;have bv:=A_ (by unfold P_;rw[aY.o]:A4g E k=P_ E);clear bf ax ap;go_wp2;go_ret;rw[<-bv.o];obtain⟨bT,bl,cv⟩:=C9f al ao aA;exact⟨_,L,cap,bT,rfl,bl,E2n al bl,aV⟩
end Go.Proofs.YtbhemnidcleaiaaGreat.X
