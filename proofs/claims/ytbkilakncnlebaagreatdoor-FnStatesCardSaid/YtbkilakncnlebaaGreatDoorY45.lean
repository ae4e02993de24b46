/- A part of the proof. -/
import Derived.RangeFuncNested
import Derived.RangeFuncBound
import Derived.RangeFuncCalls
import Derived.RangeFuncLeaves
import Derived.RangeFuncBox
import Derived.Shelf.Abstract
import Derived.Shelf.RegionOpen
import Derived.OwnWalkIn
import Derived.TacticsInMore
import Derived.LoopNIn
import Derived.LoopIn
import Derived.Test.YtbkilakncnlebaaGreatDoorY44
set_option linter.constructorNameAsVariable false
set_option maxHeartbeats 16000000
set_option maxRecDepth 10000
open Go renaming World→QT,bodyPost_ret→BI,results_tmp→FQ
open Go.IntKind renaming i64→K
open Go.Value renaming int→N,slice→S
open List renaming cons_append→MD,length_cons→GW,length_nil→OV,size_toArray→MA
open Option renaming none→I,some→QL
namespace Go.Proofs.YtbkilakncnlebaaGreatDoor.X
open Go.RowKit Go.Shelf Go.XB Proofs.Tryz
section
open Go.XN
section
attribute [local go_sem] B9n
theorem C0f (n:Int) (u:-9223372036854775808<=n) (D:n<=9223372036854775807) (w:QT) (b:TabOk w) :
  Calls prog 63 #[N K n] w (A0b w (.string ⟨(Lib.itoa n).toArray⟩)):=by
 have h:=A_ b;clear b;go_enter func63,ntmps63;go_wp2_with fail;refine(F6m n u D w h).mono ?_;rintro _ G ⟨rfl,E⟩;go_wp2;exact BI (FQ rfl _ _ _) rfl ⟨rfl,E⟩
theorem C5h (n:Nat) (h:n<1000000000) (w:QT) (b:TabOk w) :
  Calls prog 63 #[N K n] w (A0b w (.string ⟨(Lib.decDigits n).toArray⟩)):=by
 have:=C0f n oS oS w b;rwa [show Lib.itoa (n:Int)=Lib.decDigits n by unfold Lib.itoa;rw[if_neg oS];simp]at this

theorem F3a (s:List UInt8) (u:s.length<=9) (w:QT) :
  Calls prog 214 #[.string ⟨s.toArray⟩,N K 9] w (A0b w (.string ⟨(D6y s).toArray⟩)):=by
 by_cases h:s.length=9;·have b:=A_ (by unfold D6y;rw[h];rfl:s=D6y s);have H:(9:Int)<=s.length:=oS;clear h u;go_enter func214,ntmps214;go_wp2_with fail;refine BI (FQ rfl _ _ _) rfl ⟨?_,Below.refl _ _⟩;rw[<-b.o];rfl
 have O:(s.length:Int)<9:=oS;obtain⟨k,G⟩:∃ k:Nat,(9:Int) - s.length=k:=⟨9 - s.length,oS⟩
 have E:k<=9:=oS;have b:=A_ (by unfold D6y;rw[show 9 - s.length=k by omega]:List.replicate k 48++s=D6y s);clear h;go_enter func214,ntmps214;go_wp2_with fail;refine(F4v k E w).mono ?_;rintro _ T ⟨rfl,D⟩;go_wp2;refine BI (FQ rfl _ _ _) rfl ⟨?_,D⟩;rw[<-b.o];rfl
end
end
section
attribute [local go_sem] Oper.semAt_some
abbrev F5v:=Fin 1000000000
def F4k (xs:List Int) (i:Nat):F5v:=⟨(xs[i]?.getD 0).toNat % 1000000000,Nat.mod_lt _ dE⟩
def bk (xs:List Int) (len j:Nat):Nat×F5v:=(len - 1 - j,F4k xs (len - 1 - j))
def D3o (xs:List Int) (len k:Nat):List (Nat×F5v):=(List.range k).map (bk xs len)
theorem F6p (xs:List Int) (len k:Nat):(D3o xs len k).length=k:=by simp[D3o]
theorem F5u (xs:List Int) {len j:Nat} (h:j<len):D3o xs len (len - j)=D3o xs len (len - (j+1))++[(j,F4k xs j)]:=by
 rw[show len - j=len - (j+1)+1 by omega];unfold D3o bk;rw[List.range_succ,List.map_append];simp only[List.map_cons,List.map_nil];rw[show len - 1 - (len - (j+1))=j by omega]

theorem F4c {xs:List Int} (b:∀ (k:Nat) (x:Int),xs[k]?=QL x->0<=x/\x<1000000000) {j:Nat} {x:Int} (h:xs[j]?=QL x):((F4k xs j).val:Int)=x:=by
 have:=b j x h;show(((xs[j]?.getD 0).toNat % 1000000000:Nat):Int)=x;rw[h];simp only[Option.getD_some];omega
theorem F4p {xs:List Int} {m:Nat} (u:m<=xs.length) (h:∀ (k:Nat) (x:Int),xs[k]?=QL x->0<=x/\x<1000000000) :
  (D3o xs m m).flatMap (λp=>C4v (p.2.val:Int))=(xs.take m).reverse.flatMap C4v:=by
 have e:(D3o xs m m).map (λp=>(p.2.val:Int))=(xs.take m).reverse:=by
  apply List.ext_getElem;·simp[D3o,u]
  intro i b E;have G:i<m:=by simpa[D3o]using b
  have D:xs[m - 1 - i]?=QL (xs[m - 1 - i]'oS):=List.getElem?_eq_getElem _;simp only[D3o,bk,List.getElem_map,List.getElem_range,List.getElem_reverse,List.length_take,List.getElem_take];rw[F4c h D];congr 1;omega
 rw[<-e,List.flatMap_map]

def KpB (n₀ Bs:Nat) (W W':QT):Prop:=Below n₀ W W'/\∀ v,W.cell? ⟨Bs,0,I⟩=QL v->W'.cell? ⟨Bs,0,I⟩=QL v
theorem KpB.refl (n₀ Bs:Nat) (W:QT):KpB n₀ Bs W W:=⟨Below.refl _ _,λ_ h=>h⟩
theorem KpB.trans {n₀ Bs:Nat} {A B C:QT} (h:KpB n₀ Bs A B) (k:KpB n₀ Bs B C):KpB n₀ Bs A C:=⟨h.1.trans k.1,λv e=>k.2 v (h.2 v e)⟩
theorem KpB.book {n₀ Bs:Nat} {w:QT} (hn:n₀<=w.1.size) (W:QT) (l:Nat) (o o':Obj) (hl:w.1.size<=l) (ho:W.1[l]?=QL o) (hc:o.isCells=false) (hw:o.isWalk=false):KpB n₀ Bs W (W.putObj l o') :=
 ⟨belowK_b (w:=w) hn W l o o' hl ho hc hw,λv e=>cell_kept e (grownBy_putObj' _ l o') (λr e=>by cases e;exact⟨_,ho,hc⟩)⟩

set_option maxRecDepth 100000 in
theorem F6w (F:Fence) (n:Nat) (ad:F.fn 263) (am:F.round=I) (ax:1<=n) (l u T b D len cap:Nat) (xs:List Int) (ay:len<=65536) (ai:b<T) (J W:List (Nat×F5v)->QT->Prop)
  (ah:∀ pre x h,J pre h->pre.length<len->YieldAt F (n - 1) prog l #[N K (x.1:Int),N K (x.2.val:Int)] h λe W' =>
   (e=.returned (.bool true)/\J (pre++[x]) W'/\KpB T u h W')\/(e=.returned (.bool false)/\W (pre++[x]) W'))
  (h:QT) (ac:h.cell? ⟨u,0,I⟩=QL (S (QL ⟨b,D,I⟩) len cap)) (aj:∀ j,j<len->h.cell? ⟨b,D+j,I⟩=QL (N K ((F4k xs j).val:Int))) (ab:J [] h) :
  CallsIn F n prog 263 #[.func (.yield l) #[] #[],.pointer (QL ⟨u,0,I⟩)] h λe W'=>(∃ v,e=.returned v) /\
   ((∃ ys,ys=D3o xs len len/\J ys W')\/(∃ pre,True/\W pre W')):=by
 refine callsIn_of_wp func263 rfl ad ?_ am;simp only[ntmps263,MA,GW,OV,Nat.reduceAdd,Nat.reduceSub,Array.replicate_succ,Array.replicate_zero,List.push_toArray,List.append_toArray,List.nil_append,MD];gi_wp2
 gi_loopw [3] (λi wr=>∃ g:Nat,g<=len/\i=N K ((g:Int) - 1)/\J (D3o xs len (len - g)) wr/\KpB T u h wr)
  (λi _=>(intOf i+1).toNat)
 case atStart=>exact⟨len,Nat.le_refl _,rfl,by rw[Nat.sub_self];exact ab,KpB.refl _ _ _⟩
 case round =>
  obtain⟨g,Y,rfl,E,G⟩:=hrel;have au:=G.2 _ ac;rcases Nat.eq_zero_or_pos g with O|O;·subst O;gi_wp2;go_end0;exact⟨⟨_,rfl⟩,.inl ⟨_,rfl,E⟩⟩
  obtain⟨j,rfl⟩:∃ j,g=j+1:=⟨g - 1,oS⟩
  have Z:j<len:=Y;have ak:wr.cell? ⟨b,D+j,I⟩=QL (N K ((F4k xs j).val:Int)):=(G.1.cell (p:=⟨b,D+j,I⟩) ai).trans (aj j Z);have H:=F5u xs Z;generalize F4k xs j=y at ak H;obtain⟨ar,az,ap,aq,an,ag⟩:=ah _ (j,y) wr E (by rw[F6p];omega);dsimp only at an;have X:(((j+1:Nat):Int) - 1)=j:=oS;rw[X];have aw:(j:Int)<len:=oS;have aa:=A_ H;clear H X E Y O;gi_wp2;refine ag.mono ?_;rintro e ao (⟨rfl,ae,al⟩|⟨rfl,af⟩)
  ·gi_wp2
   go_roundw;case rel=>exact⟨j,oS,rfl,by rw[aa.o];exact ae,G.trans al⟩
   case measure=>simp[intOf]
  gi_wp2;refine BI (results_none rfl _ _ _) rfl ?_;exact⟨⟨_,rfl⟩,.inr ⟨_,trivial,af⟩⟩

theorem F7l (F:Fence) (n:Nat) (b:F.fn 213) (h:F.round=I) (a:Option Addr) (len cap:Nat) (w:QT) :
  CallsIn F n prog 213 #[S a len cap] w λe w'=>e=.returned (.func (.func 263) #[] #[.pointer (QL ⟨w.1.size,0,I⟩)])/\w'=w.alloc (.cells #[S a len cap] 31):=by
 refine callsIn_of_wp func213 rfl b ?_ h;simp only[ntmps213,MA,GW,OV,Nat.reduceAdd,Nat.reduceSub,Array.replicate_succ,Array.replicate_zero,List.push_toArray,List.append_toArray,List.nil_append,MD];gi_wp2;go_ret;exact⟨rfl,rfl⟩

theorem F4x (F:Fence) (n:Nat) (hF:F.fn 263) (hro:F.round=I) (hn:1<=n) (Bs n₀ b off len cap:Nat) (xs:List Int) (hreach:len<=65536) (w:QT) (hn₀:n₀<=w.1.size) (hBl:Bs<w.1.size) (hb:b<n₀)
  (hBs:w.cell? ⟨Bs,0,I⟩=QL (S (QL ⟨b,off,I⟩) len cap)) (hc:∀ j,j<len->w.cell? ⟨b,off+j,I⟩=QL (N K ((F4k xs j).val:Int))) :
  SeqStopsK F n prog 263 #[.pointer (QL ⟨Bs,0,I⟩)] (λx:Nat×F5v=>#[N K (x.1:Int),N K (x.2.val:Int)]) (KpB n₀ Bs) (λys=>ys=D3o xs len len) (λ_=>True) len w:=λl J Jx W hW _ _ hY h0 =>
 F6w F n hF hro hn l Bs n₀ b off len cap xs hreach hb J Jx hY W ((hW.cell (p:=⟨Bs,0,I⟩) hBl).trans hBs) (λj hj=>(hW.cell (p:=⟨b,off+j,I⟩) (by show b<_;omega)).trans (hc j hj)) h0
end
end Go.Proofs.YtbkilakncnlebaaGreatDoor.X
