/- A part of the proof. -/
import Derived.Lib.ConvBytes
import Derived.Test.YtbkilakncnlebaaGreatDoorY46
import Derived.Test.YtbkilakncnlebaaGreatDoorY9
set_option linter.constructorNameAsVariable false
set_option maxHeartbeats 16000000
set_option maxRecDepth 10000
open Bool renaming false→AF,true→AD
open Go renaming Calls→AR,Value→AJ,World→J,bodyPost_ret→BI,results→BO,results_tmp→FQ
open Go.Code renaming new→DH
open Go.IntKind renaming i64→QO
open Go.Obj renaming cells→AK
open Go.Value renaming agg→AM,bool→AC,int→QS,slice→QH
open Go.XB.Below renaming next→AI
open List renaming append_assoc→DM,getElem?_eq_getElem→CV,getElem?_eq_some_iff→CQ,length_take→GH,mem_append→CO,mem_of_getElem?→CH,mem_of_mem_take→NH,range→EZ
open Nat renaming le_refl→BH,lt_or_ge→BN
open Option renaming none→I,some→B
namespace Go.Proofs.YtbkilakncnlebaaGreatDoor.X
open Go.RowKit Go.XB Go.XN Proofs.Tryz
attribute [local go_sem] L_ opAt N_ M_ Region.wanted yielded B9n
theorem D1r (n:Int) (u:0<=n) (D:n<1000000) (w:J) (b:TabOk w) :
  AR prog 61 #[.string ⟨(Lib.itoa n).toArray⟩] w (A0b w (.tuple #[QS QO n,AC AD])):=by
 have h:=A_ b;clear b;go_enter func61,ntmps61;go_wp2_with fail;refine(F6o n u D w).mono ?_;rintro _ G ⟨rfl,E⟩;go_wp2_with fail;refine(C0f n oS oS G (h.o.below E)).mono ?_;rintro _ O ⟨rfl,H⟩;go_wp2;refine BI (v:=.tuple #[QS QO n,AC AD]) (by simp[BO,results61,go_sem, *]) rfl ⟨rfl,Below.go⟩
theorem F3k (c:Nat) (b:(48:Int)<=c) (h:(c:Int)<=57) (w:J):AR prog 212 #[QS .u8 c] w (A0b w (AC AD)):=by
 go_enter func212,ntmps212;go_wp2;go_ret;exact⟨rfl,Below.refl _ _⟩
theorem F3b (s:List UInt8) (i:Nat) (c:UInt8) (h:s[i]?=B c) (b:J):(Instr.index 9 (.string ⟨s.toArray⟩) (QS QO i)).run prog b=.ok (QS .u8 c.toNat) b:=by
 have D:i<s.length:=(CQ.1 h).1;rw[run_index_string b _ _ _ _ underlying9,dif_pos ⟨oS,by show(i:Int)<(s.toArray.size:Nat);simp;omega⟩];have u:s[i]=c:=(CQ.1 h).2;rw[<-u];rfl
theorem F2u (s:List UInt8) (G:∀ c∈s,B4g c) (E:s≠[]) (ac:s.length<=1000000) (w:J):AR prog 161 #[.string ⟨s.toArray⟩] w (A0b w (AC AD)):=by
 have X:=A_ G;have W:=A_ (show s.isEmpty=AF by cases s with|nil=>exact absurd rfl E|cons=>rfl);clear G E;go_enter func161,ntmps161;go_wp2_with fail;go_loopg [6] s.length (λg x wr=>∃ i:Nat,i+g=s.length/\x=QS QO i/\Bw w wr);case atStart=>exact⟨0,oS,rfl,Below.refl _ _⟩
 case round =>
  obtain⟨i,ab,rfl,u⟩:=hrel;rcases BN i s.length with h|h
  ·have Z:(i:Int)<s.length:=oS
   obtain⟨g,rfl⟩:∃ g,gk=g+1:=⟨gk - 1,oS⟩
   obtain⟨c,b⟩:∃ c,s[i]?=B c:=⟨s[i],CV h⟩
   have D:=X c (CH b);unfold B4g at D;have q1:=F3b s i c b;have H:=A_ (by omega:(48:Int)<=(c.toNat:Int));have O:=A_ (by omega:(c.toNat:Int)<=57);clear b D;go_wp2_with fail;refine(F3k c.toNat H O _).mono ?_;rintro _ ae ⟨rfl,Y⟩;have T:=AI u Y;clear q1;go_wp2_with fail;go_roundg g;case measure=>omega
   case rel=>exact⟨i+1,oS,gN,T⟩
  obtain rfl:i=s.length:=oS;have Z:¬ ((s.length:Int)<s.length):=oS;clear h;have ad:=W.o;go_wp2;go_ret;exact⟨rfl,u⟩
theorem F5g:∀ (l:List UInt8) (a:Nat),(∀ c∈l,B4g c)->l.foldl (λa c=>10*a+(c.toNat - 48)) a<(a+1)*10 ^ l.length
 | [],a,_=>sI
 |c::l,a,h=>by
  have h2:B4g c:=h c sI
  unfold B4g at h2
  have h1:=F5g l (10*a+(c.toNat - 48)) (λx hx=>h x (List.mem_cons_of_mem _ hx))
  have h3:(10*a+(c.toNat - 48)+1)*10 ^ l.length<=(10*(a+1))*10 ^ l.length:=Nat.mul_le_mul_right _ oS
  have h4:(a+1)*10 ^ (c::l).length=(10*(a+1))*10 ^ l.length:=by rw[List.length_cons,Nat.pow_succ];grind
  rw[h4,List.foldl_cons];omega
theorem F7i (l:List UInt8) (h:∀ c∈l,B4g c):C7o l<10 ^ l.length:=by have:=F5g l 0 h;simpa[C7o]using this
theorem F3t (b:J) (e:TypeId) (p:List UInt8):∀ (j:Nat) c,p[j]?=B c->(Lib.bytesWorld b e ⟨p.toArray⟩).cell? ⟨b.1.size,j,I⟩=B (QS .u8 c.toNat):=by
 intro j c h;rw[Lib.bytesWorld_cell b e ⟨p.toArray⟩ j (by show j<p.toArray.size;simp;exact(CQ.1 h).1)];show B (QS .u8 (p.getD j 0).toNat)=_;simp[List.getD,h]
theorem C7d (xs:List Int) (Z:A3m xs=AD) (w:J) (aR:TabOk w) :
  AR prog 106 #[.string ⟨(B1g xs).toArray⟩] w (λe w'=>∃ A n c bs,e=.returned (.tuple #[QH A n c,AC AD])/\Sl w' A n c xs bs/\XB.Own w w' bs/\Bw w w'):=by
 obtain⟨ys,aU,ab,ao,aV,bt⟩:=F5o Z;have bm:=E6l Z;have bo:0<(B1g xs).length:=by have:=(ab 0).2 bt;omega
 have ad:=A_ (D3l xs);have aB:=A_ (by unfold B1o;rw[if_pos Z]:B1o xs=B1g xs);have ay:=A_ (F3e xs);obtain⟨s,b⟩:∃ s,B1g xs=s:=⟨_,rfl⟩
 rw[b]at ab ao bm bo ad aB ay ⊢;have a7:=A_ aR;have aD:=A_ aU;have aE:=A_ ab;have aF:=A_ ao;have aG:=A_ aV;obtain⟨bA,bl,bu,bv,bz⟩:=info_parts A6b;clear Z aR aU ab ao b aV;go_enter func106,ntmps106;go_wp2_with fail;refine(F2u s ad.o ay.o oS w).mono ?_;rintro _ aW ⟨rfl,aJ⟩;have ap:=A_ aJ;clear aJ;go_wp2_with fail;go_loopg [4,5] ys.length (λg r v wr=>∃ (k gB cap:Nat) (E:Int),k+g=ys.length/\v=QS QO E/\Hid ((s.length:Int) - 9*k=E)/\r=QH (B ⟨gB,0,I⟩) k cap/\Hid (wr.ownsRow w.1.size 3 1 (QH (B ⟨gB,0,I⟩) k cap) k ((ys.take k).map (QS QO)))/\Bw w wr);case atStart =>refine⟨0,aW.1.size,0,s.length,oS,rfl,by show(_:Int) - 9*(0:Nat)=_;omega,rfl,?_,by have:=ap.o;exact Below.go⟩;exact World.ownsRow_made aW #[] 0 (by have:=ap.size;omega) (Nat.zero_le _) rfl
 case round =>
  obtain⟨k,gB,cap,E,ak,rfl,G,rfl,Y,h⟩:=hrel;rcases BN k ys.length with D|D
  ·obtain⟨go,rfl⟩:∃ g,gk=g+1:=⟨gk - 1,oS⟩
   have af:=(aE k).2 D;obtain⟨e,ai⟩:∃ e:Nat,E=e:=⟨s.length - 9*k,by have:=G.o;omega⟩
   subst ai;have aI:=G.o;have bL:(0:Int)<e:=oS;have bM:(e:Int)<=s.length:=oS;have aN:e=s.length - 9*k:=oS;obtain⟨y,an⟩:∃ y,ys[k]?=B y:=⟨ys[k],CV D⟩
   obtain⟨aa,aS,aT⟩:=aF k y an;rw[<-aN]at aa;obtain⟨p,T⟩:∃ p,(s.take e).drop (e - 9)=p:=⟨_,rfl⟩
   rw[T]at aa;have bN:p.length<=9/\p.length<=e:=by rw[<-T,List.length_drop,GH];omega
   have az:=A_ (show ∀ c∈p,B4g c from λc u=>ad.o c (NH (List.mem_of_mem_drop (T ▸ u))));have q1:(⟨s.toArray⟩:ByteArray).extract (max 0 ((e:Int) - 9)).toNat e=⟨p.toArray⟩:=by rw[ByteArray.extract_mk,<-T,List.drop_take];rw[show(max 0 ((e:Int) - 9)).toNat=e - 9 by omega]
   have q2:∀ W:J,(convert 9 22 (.string ⟨p.toArray⟩)).run prog W=.ok (QH (B ⟨W.1.size,0,I⟩) p.length (grownCap W p.length 0 5)) (Lib.bytesWorld W 5 ⟨p.toArray⟩):=λW=>by have:=Lib.run_convert_string_bytes (P:=prog) W _ _ _ ⟨p.toArray⟩ underlying9 underlying22 underlying5;rwa [show(⟨p.toArray⟩:ByteArray).size=p.length by show p.toArray.size=_;simp]at this
   have a8:=A_ aa;have a9:=A_ an;have a3:=A_ aI;have ae:=A_ Y;have ac:=A_ h;have a4:=A_ ak;have ba:=A_ (And.intro aS aT);have ax:=A_ D;clear T aa an aI Y h ak aN af aS aT G D;go_upto_region 9 with fail;obtain⟨X,H⟩:∃ W,W=Lib.bytesWorld wr 5 ⟨p.toArray⟩:=⟨_,rfl⟩
   have aq:=A_ (by rw[H];exact Lib.bytesWorld_below _ _ _:Bw wr X);have a1:=A_ (by rw[H];exact F3t wr _ p:∀ (j:Nat) c,p[j]?=B c->X.cell? ⟨wr.1.size,j,I⟩=B (QS .u8 c.toNat));have bF:wr.1.size<X.1.size:=by rw[H,Lib.bytesWorld_size];omega
   rw[<-H];clear H q1 q2;generalize grownCap wr p.length 0 5=bG;go_loopg [6,32] p.length (λg x v W=>∃ j:Nat,j+g=p.length/\v=QS QO j/\x=QS QO (C7o (p.take j):Nat)/\W=X);case atStart=>exact⟨0,oS,rfl,by rw[List.take_zero];rfl,rfl⟩
   case round =>
    rename J=>bE;obtain⟨j,O,rfl,rfl,rfl⟩:=hrel;rcases BN j p.length with aj|aj
    ·have bn:(j:Int)<p.length:=oS
     obtain⟨g,rfl⟩:∃ g,gk=g+1:=⟨gk - 1,oS⟩
     obtain⟨c,u⟩:∃ c,p[j]?=B c:=⟨p[j],CV aj⟩
     have aL:=az c (CH u);unfold B4g at aL;have q1:=a1 j c u;obtain⟨d,aM⟩:∃ d:Nat,c.toNat=48+d:=⟨c.toNat - 48,oS⟩
     rw[aM]at q1;have bK:(d:Int)<=9:=oS;have hx:=F7i (p.take j) (λx hx=>az x (NH hx));have br:10 ^ (p.take j).length<=10 ^ 9:=Nat.pow_le_pow_right dE (by rw[GH];omega);have bc:=A_ (by rw[take_step u,F3c];omega:10*C7o (p.take j)+d=C7o (p.take (j+1)));generalize C7o (p.take j)=be at *;have bJ:(be:Int)<=1000000000:=oS;clear u aL aM hx br;have bi:=A_ O;clear O;go_wp2_with fail;go_roundg g;case measure=>omega
     case rel=>exact⟨j+1,by have:=bi.o;omega,gN,by rw[<-bc.o];congr 1;omega,rfl⟩
    obtain rfl:j=p.length:=oS;have bn:¬ ((p.length:Int)<p.length):=oS;have aH:((C7o (p.take p.length):Nat):Int)=y:=by rw[List.take_length,a8.o];have:=ba.o;omega
    rw[aH];clear O aj aH;have al:=I_ ae aq;have ar:=A_ (AI ac aq);have aX:=A_ (by have:=ax.o;have:=aG.o;unfold maxLen;omega:k+1<=maxLen);have aY:=A_ (by have:=ax.o;have:=aG.o;omega:(k+1)*8<=140737488355328);have aZ:=A_ ar.size;have bd:=A_ (take_step a9);go_wp2_with (first|(at_builtin;refine wpList_append_own _ rfl _ _ 31 rfl w.1.size 3 bA (QS QO 0) 1 8 underlying31 bl bu bv bz rfl dE _ _ _ rfl (al.alloc _) ⟨bE.1.size,0,I⟩ 1 1 [QS QO (y)] rfl rfl (cell_one_new _ _ _) (λx hx=>iH) aX aY (A1a aZ _) ?_;intro bB w3 aP aO bp));have am:w3.ownsRow w.1.size 3 1 bB (k+1) ((ys.take (k+1)).map (QS QO)):=by rw[bd.o,List.map_append];exact aP
    have bj:=A_ (A2o ar al aO);rcases A6k am with⟨_,bH⟩|⟨bg,bf,rfl,_⟩
    ·exfalso;omega
    have a5:=A_ am;clear al aP aO bp am;go_wp2_with fail;go_roundg go;case measure=>omega
    case rel=>exact⟨k+1,bg,bf,(e:Int) - 9,by have:=a4.o;omega,rfl,by have:=a3.o;show(s.length:Int) - 9*((k+1:Nat):Int)=_;omega,gN,a5.o,bj.o⟩
  obtain rfl:k=ys.length:=oS;have af:¬ 9*ys.length<s.length:=λbh=>by have:=(aE ys.length).1 bh;omega
  have bI:¬ ((0:Int)<E):=by have:=G.o;omega
  have ag:=Y.o;rw[List.take_length]at ag;have ae:=A_ ag;have ac:=A_ h;have aw:=A_ (show ∀ x∈ys,I64 x from λx hx=>by obtain⟨j,O⟩:=List.mem_iff_getElem?.1 hx;have:=aF j x O;unfold I64;omega);clear Y h ag af G ak D;go_wp2_with fail;have C:=A9y _ _ _ _ ys _ ae aw;rw[aD.o]at C;refine C.mono ?_;clear C;rintro _ bD ⟨rfl,aK,aQ⟩;have au:=A_ (AI ac aK);have aA:=A_ aQ;clear aK aQ;have aC:=A_ (show ∀ x∈xs,I64 x from λx hx=>aw x (by have:=B3n ys;rw[aD.o]at this;rw[this]at hx;exact NH hx));go_wp2_with fail;obtain⟨bs,b⟩:=A7v aA aC;have C:=B8x _ _ _ xs bs bD b (a7.below au);rw[aB.o]at C;refine C.mono ?_;clear C b;rintro _ bO ⟨rfl,ah⟩;have a6:=A_ (I_ aA ah);have a2:=A_ (AI au ah);clear ah;go_wp2;refine BI (v:=.tuple #[QH (B ⟨gB,0,I⟩) xs.length cap,AC AD]) (by simp[BO,results106,go_sem, *]) rfl ?_;obtain⟨A,n,c,bs,ai,b,bq,h⟩:=A2r a6 rfl aC a2;obtain⟨rfl,rfl,rfl⟩:A=B ⟨gB,0,I⟩/\n=xs.length/\c=cap:=by cases ai;exact⟨rfl,rfl,rfl⟩
  exact⟨_,_,_,bs,rfl,b,bq,h⟩
end Go.Proofs.YtbkilakncnlebaaGreatDoor.X

namespace Go.XB
open Go.RowKit
def F3m {α:Type} [Dat α] (w:J) (x:α) (e:Ending) (w':J):Prop:=∃ v bs,e=.returned (.tuple #[v,AC AD])/\Agg w' v x bs/\Own w w' bs/\Bw w w'
theorem D1b {α:Type} [Dat α] {w u E:J} {g:Nat} {v:AJ} {x:α} {bs:List Nat} (W:Agg u v x bs) (X:Free u bs) (O:∀ b∈bs,w.1.size<=b/\b≠g) (D:Bw w u) (Y:w.1.size<=g) (h:u.grownBy E (B g)):F3m w x (.returned (.tuple #[v,AC AD])) E:=by
 have H:g∉bs:=λh=>(O g h).2 rfl;have G:=X.keepG h H;exact⟨v,bs,rfl,W.keepG h H,⟨G.1,λb D=>⟨(O b D).1,G.2 b D⟩⟩,D.grown h D.size (λx T=>by injection T with T;omega)⟩
end Go.XB
namespace Go.Proofs.YtbkilakncnlebaaGreatDoor.X
open Go.RowKit Go.XB Go.XN Proofs.Tryz
attribute [local go_sem] L_ opAt N_ M_ Region.wanted yielded B9n
attribute [local simp] N_ M_ MP.eq MP.agg MP.sl A0r
theorem F5w (c:UInt8) (s:List UInt8) (W:J):(Instr.slice 9 (.string ⟨(c::s).toArray⟩) (B (QS QO 1)) I I).run prog W=.ok (.string ⟨s.toArray⟩) W:=by
 rw[run_slice_string_from_if W _ _ _ _ underlying9,if_pos ⟨dE,by show(1:Int)<=((c::s).toArray.size:Nat);simp;omega⟩];congr 2;show(⟨(c::s).toArray⟩:ByteArray).extract 1 _=_;rw[ByteArray.extract_mk];show(⟨(((c::s).drop 1).take ((c::s).toArray.size - 1)).toArray⟩:ByteArray)=_;simp
theorem D7r (x:TBigInt) (W:A2j x=AD) (w:J) (aH:TabOk w) :
  AR prog 105 #[.string ⟨(B1w x).toArray⟩] w (F3m w x):=by
 have aF:=A_ aH;have aA:A3m x.mag=AD:=by unfold A2j at W;simp at W;exact W.1
 have aD:=A_ aA;have aE:=A_ W;obtain⟨neg,mag⟩:=x;have ay:=F5p W aA;obtain⟨d,T⟩:∃ d,B1g mag=d:=⟨_,rfl⟩
 have aC:=A_ T;have aB:d≠[]:=T ▸ F3e mag;have az:∀ c∈d,B4g c:=T ▸ D3l mag;simp only[T]at ay;rw[ay];clear ay W aA aH;cases neg
 ·obtain⟨c,O,rfl⟩:∃ c O,d=c::O:=by cases d with|nil=>exact absurd rfl aB|cons c O=>exact⟨c,O,rfl⟩
  have aG:=az c sI;have aL:((c.toNat:Int)==45)=AF:=by unfold B4g at aG;simp;omega
  have q1:∀ H:J,(Instr.index 9 (.string ⟨(c::O).toArray⟩) (QS QO 0)).run prog H=.ok (QS .u8 c.toNat) H:=F3b (c::O) 0 c rfl;simp only[Bool.false_eq_true,if_false];clear aG aB az T;go_enter func105,ntmps105;go_upto_region 1 with fail;refine DH λH b=>?_;have u:=A_ b.b;have D:=A_ b.k;clear b;go_wp2_with fail;have C:=C7d mag aD H (aF.below u);rw[aC.o]at C;refine C.mono ?_;clear C;rintro _ aJ ⟨A,n,aw,au,rfl,ac,ab,G⟩;have ak:=A_ ac;have O1:=A_ ab;have ai:=A_ (AI u G);have an:=A_ (A0z D G);have aq:=A_ (E_ D);clear ac ab G q1 D;go_upto_region 7 with fail;refine DH λap b=>?_;have E:=A_ b.b;have Z:=A_ (A0z an b.b);have Y:=A_ b.k;clear b;obtain⟨ae,af,ad⟩:=bx Z;obtain⟨ag,ah,l1⟩:=bx Y;have X:=A_ (TBigInt.mkAgg (x:=⟨AF,mag⟩) (ak.below E));go_wp2_with fail;have C:=A1o _ ⟨AF,mag⟩ au ap X;rw[aE.o]at C;refine C.mono ?_;clear C ae af ad ag ah l1;rintro _ w3 ⟨rfl,h⟩;have ao:=A_ (A0z Z h);have am:=A_ (A0z Y h);have al:=A_ (X.below h);have aa:=A_ (((O1.below E).below h));have aj:=A_ (AI (AI ai E) h);clear h;obtain⟨ae,af,ad⟩:=bx ao;obtain⟨ag,ah,l1⟩:=bx am;go_wp2;refine BI (v:=.tuple #[AM #[AC AF,QH A n aw],AC AD]) (by simp[BO,results105,go_sem, *]) rfl ?_;exact D1b al aa.free (λar ax=>by have:=(aa.2 ar ax).1;have:=aq.o;have:=u.size;constructor<;>omega) aj.o (BH _) (A5y (A5y (B3a _ _)))
 have aI:=F5w 45 d;simp only[if_true];clear aB az T;go_enter func105,ntmps105;go_upto_region 1 with fail;refine DH λH b=>?_;have u:=A_ b.b;have D:=A_ b.k;clear b;go_wp2_with fail;have C:=C7d mag aD H (aF.below u);rw[aC.o]at C;refine C.mono ?_;clear C;rintro _ aJ ⟨A,n,aw,au,rfl,ac,ab,G⟩;have ak:=A_ ac;have O1:=A_ ab;have ai:=A_ (AI u G);have an:=A_ (A0z D G);have aq:=A_ (E_ D);clear ac ab G aI D;go_upto_region 7 with fail;refine DH λap b=>?_;have E:=A_ b.b;have Z:=A_ (A0z an b.b);have Y:=A_ b.k;clear b;obtain⟨ae,af,ad⟩:=bx Z;obtain⟨ag,ah,l1⟩:=bx Y;have X:=A_ (TBigInt.mkAgg (x:=⟨AD,mag⟩) (ak.below E));go_wp2_with fail;have C:=A1o _ ⟨AD,mag⟩ au ap X;rw[aE.o]at C;refine C.mono ?_;clear C ae af ad ag ah l1;rintro _ w3 ⟨rfl,h⟩;have ao:=A_ (A0z Z h);have am:=A_ (A0z Y h);have al:=A_ (X.below h);have aa:=A_ (((O1.below E).below h));have aj:=A_ (AI (AI ai E) h);clear h;obtain⟨ae,af,ad⟩:=bx ao;obtain⟨ag,ah,l1⟩:=bx am;go_wp2;refine BI (v:=.tuple #[AM #[AC AD,QH A n aw],AC AD]) (by simp[BO,results105,go_sem, *]) rfl ?_;exact D1b al aa.free (λar ax=>by have:=(aa.2 ar ax).1;have:=aq.o;have:=u.size;constructor<;>omega) aj.o (BH _) (A5y (A5y (B3a _ _)))

theorem F4w:B1g [1]=[49]:=by decide +kernel
theorem B7j (x:TRat) (G:J_ x=AD) (w:J) (ax:TxOk w) :
  AR prog 60 #[.string ⟨(A9t x).toArray⟩] w (F3m w x):=by
 have T:=A_ ax;have V:=A_ (ratOkB_iff.1 G);have aj:A3m x.2=AD:=by unfold J_ at G;simp at G;exact G.2.1
 have aL:=A_ aj;have a6:=B7g x;have O:∃ (N ae:List UInt8) (W:Bool),Lib.cut (A9t x) [47]=(B1w x.1,N,W)/\(if W then N else [49])=ae/\B1g x.2=ae:=by
  unfold A9t;rw[if_pos G];by_cases ah:x.2=[1]
  ·rw[if_pos ah,F7s (F4h _)];exact⟨_,_,AF,rfl,rfl,by rw[ah,F4w];rfl⟩
  rw[if_neg ah,F6b (F4h _)];exact⟨_,_,AD,rfl,rfl,by unfold B1o;rw[if_pos aj];rfl⟩
 obtain⟨N,ae,W,ar,aq,ap⟩:=O;have al:=A_ ar;have aK:=A_ ap;clear G ax aj ar ap;obtain⟨S,ai⟩:∃ S,A9t x=S:=⟨_,rfl⟩
 have aN:=A_ ai;rw[ai]at a6 al ⊢;clear ai;go_enter func60,ntmps60;go_upto_region 1 with fail;refine DH λa2 b=>?_;have ab:=A_ b.b;have af:=A_ b.k;clear b;go_wp2_with fail;have C:=F5b S 47 oS a2 (T.o.below ab.o).m;rw[al.o]at C;refine C.mono ?_;clear C;rintro _ a7 ⟨rfl,X⟩;have ac:=A_ (AI ab X);have aR:=A_ (A0z af X);have a3:=A_ (E_ af);have aZ:=A_ X.size;clear X af;cases W
 all_goals
  simp only[if_true,if_false,Bool.false_eq_true]at aq;subst aq;go_wp2_with fail;refine(D7r x.1 V.1 a7 (T.below ac).t).mono ?_;rintro _ bj ⟨v1,bg,rfl,O,o1,Y⟩;obtain⟨aB,n1,a4,bh,rfl,rfl,au⟩:=TBigInt.agg O;have aH:=A_ au;have O1:=A_ o1;have aE:=A_ (AI ac Y);have aS:=A_ (A0z aR Y);have a1:=A_ Y.size;clear O o1 au Y;go_upto_region 5 with fail;refine DH λw3 b=>?_;have H:=A_ b.b;have aT:=A_ (A0z aS b.b);have aO:=A_ b.k;have ad:=A_ (AI aE H);clear b;go_wp2_with fail;have C:=C7d x.2 aL w3 (T.below ad).t;rw[aK.o]at C;refine C.mono ?_;clear C;rintro _ bl ⟨aC,n2,a5,bi,rfl,aw,o2,D⟩;have aJ:=A_ aw;have O2:=A_ o2;have aF:=A_ (AI ad D);have aU:=A_ (A0z aT D);have aP:=A_ (A0z aO D);have aI:=A_ ((aH.below H).below D);have aW:=A_ ((O1.below H).below D);have aD:=A_ (A9o (N:=w3.1.size) (λu h=>by have:=O1.lt u h;have:=H.size;omega) (λu h=>(o2.2 u h).1));clear aw o2 D;go_upto_region 6 with fail;obtain⟨Z,aa,l1⟩:=bx aP;go_upto_region 7 with fail;refine DH λa8 b=>?_;have ag:=A_ b.b;have ao:=A_ (A0z aU b.b);have an:=A_ b.k;have ak:=A_ (AI aF ag);clear b Z aa l1;have am:=A_ ((TRat.mkAgg (x:=x) aI aJ).below ag);have aX:=A_ ((aW.free.join O2.free aD).below ag);obtain⟨az,aA,ay⟩:=bx ao;obtain⟨Z,aa,l1⟩:=bx an;go_wp2_with fail;have C:=C0d _ x _ a8 am (T.below ak).t;rw[aN.o]at C;refine C.mono ?_;clear C az aA ay Z aa l1;rintro _ bm ⟨rfl,E⟩;have aV:=A_ (A0z ao E);have aQ:=A_ (A0z an E);have aM:=A_ (am.below E);have aY:=A_ (aX.below E);have aG:=A_ (AI ak E);clear E;obtain⟨az,aA,ay⟩:=bx aV;obtain⟨Z,aa,l1⟩:=bx aQ;go_wp2;refine BI (v:=.tuple #[AM #[AC x.1.1,QH aB n1 a4,QH aC n2 a5],AC AD]) (by simp[BO,results60,go_sem, *]) rfl ?_;refine D1b aM aY (λu h=>?_) aG (BH _) (A5y (A5y (A5y (B3a _ _))));have a9:=a3.o;have O:=ab.size;have ba:=ac.size;have bc:=ad.size;have be:=a1.o;have bf:=aZ.o;have bd:=H.size;rcases CO.1 h with h|h
  ·have:=(O1.2 u h).1;constructor<;>omega
  have:=(O2.2 u h).1;constructor<;>omega
theorem F5l {p:TPoint} (h:A1b p=AD):J_ p.x=AD/\J_ p.y=AD:=by unfold A1b at h;simpa using h
theorem D7j (v:AJ) (p:TPoint) (b:List Nat) (w:J) (aa:Agg w v p b) (ai:A1b p=AD) (aj:TabOk w) :
  AR prog 157 #[v] w (A0b w (.string ⟨(C7m p).toArray⟩)):=by
 have ac:=A_ aj;have an:=A_ aa;have ak:=A_ ai;obtain⟨aw,n1,aA,aO,ax,n2,aB,aP,ay,aM,aC,aQ,az,aN,aD,aR,rfl,rfl,ae,af,ag,ah⟩:=TPoint.agg aa;have am:=A_ (TRat.mkAgg (x:=p.x) ae af);have al:=A_ (TRat.mkAgg (x:=p.y) ag ah);clear ae af ag ah aa ai aj;have aK:(A9t p.x).length<=1082:=B7g _;have aL:(A9t p.y).length<=1082:=B7g _;go_enter func157,ntmps157;go_upto_region 1 with fail;refine DH λao W=>?_;have ab:=A_ W.b;have ad:=A_ W.k;clear W;obtain⟨ar,au,aq⟩:=bx ad;go_wp2_with fail;have C:=B2j _ p _ ao (an.below ab);rw[ak.o]at C;refine C.mono ?_;clear C;rintro _ aS ⟨rfl,X⟩;have G:=A_ (AI ab X);have D:=A_ (A0z ad X);clear ar au aq;have aE:=(bx D).1 0;have aF:=(bx D).1 1;have aG:=(bx D).1 2;have aH:=(bx D).1 3;have aI:=(bx D).1 4;have aJ:=(bx D).1 5;have l1:=E_ D;clear X;go_wp2_with fail;refine X_ sI ?_;dsimp only[List.dropLast,List.getLast,List.length];iterate 2 refine C_ _ ?_
 refine D_ (MP.eq (.string ⟨(A9t p.x).toArray⟩)) ?_ ?_;·intro O T H h u;obtain⟨Y,Z⟩:=F_ h;simp at u;refine G_ ?_;refine(C0d _ p.x _ H (Agg.below am (AI G h)) (ac.below (AI G h))).mono ?_;rintro e w' ⟨rfl,E⟩;exact⟨_,rfl,E,[],⟨rfl,rfl⟩,λb E=>by simp at E⟩
 refine A2b (.string ⟨(A9t p.x++[44]).toArray⟩) ?_ ?_;·intro O T H h u;obtain⟨Y,Z⟩:=F_ h;simp at u;refine⟨gD,?_⟩;go_simp;omega
 iterate 2 refine C_ _ ?_
 refine D_ (MP.eq (.string ⟨(A9t p.y).toArray⟩)) ?_ ?_;·intro O T H h u;obtain⟨Y,Z⟩:=F_ h;simp at u;refine G_ ?_;refine(C0d _ p.y _ H (Agg.below al (AI G h)) (ac.below (AI G h))).mono ?_;rintro e w' ⟨rfl,E⟩;exact⟨_,rfl,E,[],⟨rfl,rfl⟩,λb E=>by simp at E⟩
 refine A2b (.string ⟨(A9t p.x++[44]++A9t p.y).toArray⟩) ?_ ?_;·intro O T H h u;obtain⟨Y,Z⟩:=F_ h;simp at u;refine⟨gD,?_⟩;go_simp;omega
 intro O T wa h u ap;clear ap;simp at u;go_simp;go_wp2;refine BI (FQ rfl _ _ _) rfl ⟨?_,AI G h⟩;unfold C7m;simp
theorem E3n (p:TPoint) (al:A1b p=AD) (w:J) (ak:TxOk w) :
  AR prog 97 #[.string ⟨(C7m p).toArray⟩] w (F3m w p):=by
 have X:=A_ ak;have ad:=A_ (F5l al);have aX:=D5w p;have af:Lib.cut (C7m p) [44]=(A9t p.x,A9t p.y,AD):=F6b (D1w _ dE);have ac:=A_ af;clear al ak af;obtain⟨S,ae⟩:∃ S,C7m p=S:=⟨_,rfl⟩
 rw[ae]at aX ac ⊢;clear ae;go_enter func97,ntmps97;go_upto_region 1 with fail;refine DH λaR b=>?_;have O:=A_ b.b;have Y:=A_ b.k;clear b;go_wp2_with fail;have C:=F5b S 44 oS aR (X.o.below O.o).m;rw[ac.o]at C;refine C.mono ?_;clear C;rintro _ a5 ⟨rfl,G⟩;have T:=A_ (AI O G);have aI:=A_ (A0z Y G);have aS:=A_ (E_ Y);have aP:=A_ G.size;clear G Y;go_wp2_with fail;refine(B7j p.x ad.1 a5 (X.below T)).mono ?_;rintro _ bf ⟨v1,bd,rfl,aa,o1,H⟩;obtain⟨am,n1,aT,a1,an,n2,aU,a2,rfl,rfl,ag,ah⟩:=TRat.agg aa;have az:=A_ ag;have aA:=A_ ah;have O1:=A_ o1;have ar:=A_ (AI T H);have aJ:=A_ (A0z aI H);have aQ:=A_ H.size;clear aa o1 ag ah H;go_upto_region 3 with fail;refine DH λw3 b=>?_;have D:=A_ b.b;have aK:=A_ (A0z aJ b.b);have aF:=A_ b.k;have W:=A_ (AI ar D);clear b;go_wp2_with fail;refine(B7j p.y ad.2 w3 (X.below W)).mono ?_;rintro _ bg ⟨v2,be,rfl,ab,o2,u⟩;obtain⟨ao,aY,aV,a3,ap,aZ,aW,a4,rfl,rfl,ai,aj⟩:=TRat.agg ab;have aB:=A_ ai;have aC:=A_ aj;have O2:=A_ o2;have au:=A_ (AI W u);have aL:=A_ (A0z aK u);have aG:=A_ (A0z aF u);have ax:=A_ ((az.below D).below u);have ay:=A_ ((aA.below D).below u);have aN:=A_ ((O1.below D).below u);have aq:=A_ (A9o (N:=w3.1.size) (λE h=>by have:=O1.lt E h;have:=D.size;omega) (λE h=>(o2.2 E h).1));clear ab o2 ai aj u;go_upto_region 4 with fail;refine DH λbh b=>?_;have Z:=A_ b.b;have aM:=A_ (A0z aL b.b);have aH:=A_ (A0z aG b.b);have aE:=A_ b.k;have aw:=A_ (AI au Z);clear b;have aD:=A_ ((TPoint.mkAgg (x:=p) ax ay aB aC).below Z);have aO:=A_ ((aN.free.join O2.free aq).below Z);obtain⟨bi,bj,bc⟩:=bx aM;obtain⟨bl,bm,l1⟩:=bx aH;obtain⟨bn,bo,l2⟩:=bx aE;go_wp2;refine BI (v:=.tuple #[AM #[AC p.x.1.1,QH am n1 aT,QH an n2 aU,AC p.y.1.1,QH ao aY aV,QH ap aZ aW],AC AD]) (by simp[BO,results97,go_sem, *]) rfl ?_;refine D1b (bs:=(a1++a2)++(a3++a4)) (by have:=aD.o;rwa [DM]) aO.o (λE h=>?_) aw.o (BH _) (A5y (A5y (A5y (A5y (A5y (A5y (B3a _ _)))))));have a6:=aS.o;have aa:=O.size;have ab:=T.size;have a7:=W.size;have a9:=aQ.o;have ba:=aP.o;have a8:=D.size;rcases CO.1 h with h|h
 ·have:=(O1.2 E h).1;constructor<;>omega
 have:=(O2.2 E h).1;constructor<;>omega
end Go.Proofs.YtbkilakncnlebaaGreatDoor.X

namespace Go
open Go.RowKit Go.XB
variable {P:Program} {c:Code} {Q:Exit->Act->J->Prop} {a:Act} {y:J} {g j:Nat} {t:TypeId} {arr:Array AJ} {v:AJ}
theorem Code.set1 (K:y.1[g]?=B (AK arr t)) (h:∀ W,Hid (Sets y W g (arr.setIfInBounds j v) t)->c.wp P Q a W):c.wp P Q a (y.setCell ⟨g,j,I⟩ v):=h _ ⟨A5y (B3a y _),B9q K⟩
theorem Code.set5 {v0 v1 v2 v3 v4 u0 u1 u2 u3 u4:AJ} (K:y.1[g]?=B (AK #[u0,u1,u2,u3,u4] t)) (h:∀ W,Hid (Sets y W g #[v0,v1,v2,v3,v4] t)->c.wp P Q a W) :
  c.wp P Q a (((((y.setCell ⟨g,0,I⟩ v0).setCell ⟨g,1,I⟩ v1).setCell ⟨g,2,I⟩ v2).setCell ⟨g,3,I⟩ v3).setCell ⟨g,4,I⟩ v4):=h _ ⟨A5y (A5y (A5y (A5y (A5y (B3a y _))))),B9q (B9q (B9q (B9q (B9q K))))⟩
theorem Code.set7 {v0 v1 v2 v3 v4 v5 v6 u0 u1 u2 u3 u4 u5 u6:AJ} (K:y.1[g]?=B (AK #[u0,u1,u2,u3,u4,u5,u6] t)) (h:∀ W,Hid (Sets y W g #[v0,v1,v2,v3,v4,v5,v6] t)->c.wp P Q a W) :
  c.wp P Q a (((((((y.setCell ⟨g,0,I⟩ v0).setCell ⟨g,1,I⟩ v1).setCell ⟨g,2,I⟩ v2).setCell ⟨g,3,I⟩ v3).setCell ⟨g,4,I⟩ v4).setCell ⟨g,5,I⟩ v5).setCell ⟨g,6,I⟩ v6):=h _ ⟨A5y (A5y (A5y (A5y (A5y (A5y (A5y (B3a y _))))))),by have h:=B9q (j:=6) (v:=v6) (B9q (j:=5) (v:=v5) (B9q (j:=4) (v:=v4) (B9q (j:=3) (v:=v3) (B9q (j:=2) (v:=v2) (B9q (j:=1) (v:=v1) (B9q (j:=0) (v:=v0) K))))));simpa using h⟩
theorem F7o {v0 v1 v2 v3 v4 v5 v6 v7 u0 u1 u2 u3 u4 u5 u6 u7:AJ} (K:y.1[g]?=B (AK #[u0,u1,u2,u3,u4,u5,u6,u7] t)):Sets y ((((((((y.setCell ⟨g,0,I⟩ v0).setCell ⟨g,1,I⟩ v1).setCell ⟨g,2,I⟩ v2).setCell ⟨g,3,I⟩ v3).setCell ⟨g,4,I⟩ v4).setCell ⟨g,5,I⟩ v5).setCell ⟨g,6,I⟩ v6).setCell ⟨g,7,I⟩ v7) g #[v0,v1,v2,v3,v4,v5,v6,v7] t:=⟨A5y (A5y (A5y (A5y (A5y (A5y (A5y (A5y (B3a y _)))))))),by have h:=B9q (j:=7) (v:=v7) (B9q (j:=6) (v:=v6) (B9q (j:=5) (v:=v5) (B9q (j:=4) (v:=v4) (B9q (j:=3) (v:=v3) (B9q (j:=2) (v:=v2) (B9q (j:=1) (v:=v1) (B9q (j:=0) (v:=v0) K)))))));simpa using h⟩
theorem Code.set8 {v0 v1 v2 v3 v4 v5 v6 v7 u0 u1 u2 u3 u4 u5 u6 u7:AJ} (K:y.1[g]?=B (AK #[u0,u1,u2,u3,u4,u5,u6,u7] t)) (h:∀ W,Hid (Sets y W g #[v0,v1,v2,v3,v4,v5,v6,v7] t)->c.wp P Q a W) :
  c.wp P Q a ((((((((y.setCell ⟨g,0,I⟩ v0).setCell ⟨g,1,I⟩ v1).setCell ⟨g,2,I⟩ v2).setCell ⟨g,3,I⟩ v3).setCell ⟨g,4,I⟩ v4).setCell ⟨g,5,I⟩ v5).setCell ⟨g,6,I⟩ v6).setCell ⟨g,7,I⟩ v7):=h _ (F7o K)
end Go
namespace Go.Proofs.YtbkilakncnlebaaGreatDoor.X
open Go.RowKit Go.XB Go.XN Proofs.Tryz
attribute [local go_sem] L_ opAt N_ M_ Region.wanted yielded B9n
attribute [local simp] N_ M_ MP.eq MP.agg MP.sl A0r
theorem C2h (ls:List (List UInt8)) (h:∀ l∈ls,(10:UInt8)∉l) (H:(A1z ls).length<4294967281) (Y:ls.length<=1000000) (w:J) (O:MaxOk w) :
  AR prog 20 #[.string ⟨(A1z ls).toArray⟩] w (λe w'=>e=.returned (QH (B ⟨w.1.size,0,I⟩) ls.length (ls.length+1))/\StrRow w' w.1.size (ls++[[]])/\Bw w w'):=by
 have u:=A_ (F4e h);have W:=A_ O;obtain⟨S,E⟩:∃ S,A1z ls=S:=⟨_,rfl⟩
 rw[E]at u H ⊢;clear E O h;go_enter func20,ntmps20;go_wp2_with fail;have C:=C8e S 10 H w W;rw[u.o]at C;refine C.mono ?_;clear C;rintro _ Z ⟨rfl,b,G⟩;have X:=A_ b;have T:=A_ G;have D:(ls++[[]]).length=ls.length+1:=sI;have q1:=b.cell (j:=ls.length) (l:=[]) sI;rw[D];clear b G D;go_wp2;refine BI (FQ rfl _ _ _) rfl ⟨rfl,X,T⟩
theorem F3d (g o c:Nat) (ls:List (List UInt8)) (b:UInt8) (w:J) (h:∀ (j:Nat) l,ls[j]?=B l->w.cell? ⟨g,o+j,I⟩=B (.string ⟨l.toArray⟩)) (H:g<w.1.size) (T:ls.length<=c) (u:([b].intercalate ls).length<=140737488355328) (O:ls.length<=140737488355328) :
  AR prog 25 #[QH (B ⟨g,o,I⟩) ls.length c,.string ⟨#[b]⟩] w (A0b w (.string ⟨([b].intercalate ls).toArray⟩)):=by
 have D:=A_ h;have E:=A_ u;clear h u;go_enter func25,ntmps25;go_wp2_with fail;refine(F6s g o c ls b w D H T E O).mono ?_;rintro _ W ⟨rfl,G⟩;go_wp2;refine BI (FQ rfl _ _ _) rfl ⟨rfl,G⟩
def C9s (L:List Int) (i:Nat):List AJ:=((L.take i++List.replicate (5 - i) 0).map (QS QO))
theorem F4n {L:List Int} {i:Nat} {x:Int} (h:L.length=5) (b:L[i]?=B x):(C9s L i).toArray.setIfInBounds i (QS QO x)=(C9s L (i+1)).toArray:=by
 have D:i<5:=by rw[<-h];exact(CQ.1 b).1
 rw[List.setIfInBounds_toArray];congr 1;unfold C9s;rw[<-List.map_set,take_step b,show 5 - i=(5 - (i+1))+1 by omega,List.replicate_succ];congr 1;have u:(L.take i).length=i:=by rw[GH];omega
 rw[List.set_append_right _ _ oS,u,Nat.sub_self,List.set_cons_zero,DM];rfl
theorem F3x {L:List Int} (b:L.length=5):C9s L 5=L.map (QS QO):=by
 unfold C9s;rw[List.take_of_length_le oS];simp
theorem F3i (t:TTri) (ok:F2t t) (g o c:Nat) (w:J) (aj:∀ (j:Nat) x,(C2g t)[j]?=B x->w.cell? ⟨g,o+j,I⟩=B (.string ⟨(Lib.itoa x).toArray⟩)) (aC:g<w.1.size) (_:5<=c) (am:TabOk w) :
  AR prog 98 #[QH (B ⟨g,o,I⟩) 5 c] w (A0b w (.tuple #[AM #[QS QO t.a,QS QO t.b,QS QO t.c,QS QO t.4,QS QO t.5],AC AD])):=by
 have ar:=A_ aj;have aw:=A_ am;have aB:=A_ ok;clear aj am ok;go_enter func98,ntmps98;go_upto_region 3 with fail;refine Code.new3 λab W=>?_;have h:=A_ W.b;have H:=A_ W.k;have D:=A_ W.l;have u:=A_ W.m;clear W;have aF:g<ab.1.size:=by have:=h.size;omega
 obtain⟨b,ak⟩:∃ b,w.1.size+1=b:=⟨_,rfl⟩
 obtain⟨T,al⟩:∃ T,w.1.size+1+1=T:=⟨_,rfl⟩
 rw[al]at u ⊢;rw[ak]at D u ⊢;have aa:=A_ (by omega:w.1.size<b/\b<T/\w.1.size<=b);clear ak al;have af:ab.1[b]?=B (AK (C9s (C2g t) 0).toArray 122):=D.o;have ag:ab.1[T]?=B (AK ((EZ 5).map λj=>AJ.pointer (B ⟨b,j,I⟩)).toArray 207):=u.o;clear D u;go_wp2_with fail;go_loopg [25] 5 (λg x wr=>∃ i:Nat,i+g=5/\x=QS QO i/\Hid (Bw w wr)/\Hid (wr.1[w.1.size]?=B (AK #[QS QO 0,QS QO 0,QS QO 0,QS QO 0,QS QO 0] 122))/\Hid (wr.1[b]?=B (AK (C9s (C2g t) i).toArray 122))/\Hid (wr.1[T]?=B (AK ((EZ 5).map λj=>AJ.pointer (B ⟨b,j,I⟩)).toArray 207)));case atStart=>exact⟨0,oS,rfl,h.o,H.o,af,ag⟩
 case round =>
  clear h H af ag;obtain⟨i,ac,rfl,h,H,D,u⟩:=hrel;rcases BN i 5 with Y|Y
  ·have aG:(i:Int)<5:=oS
   obtain⟨gk,rfl⟩:∃ g,gk=g+1:=⟨gk - 1,oS⟩
   obtain⟨x,G⟩:∃ x,(C2g t)[i]?=B x:=⟨(C2g t)[i]'Y,CV Y⟩
   have an:=aB x (CH G);have q1:wr.cell? ⟨T,i,I⟩=B (.pointer (B ⟨b,i,I⟩)):=by rw[(bxL u.o).1 i];simp[Y]
   have q2:wr.cell? ⟨g,o+i,I⟩=B (.string ⟨(Lib.itoa x).toArray⟩):=(h.cell (p:=⟨g,o+i,I⟩) aC).trans (ar i x G);have aD:g<wr.1.size:=by have:=h.size;omega
   have ae:=A_ an;have au:=A_ ac;have aA:=A_ (F4n (L:=C2g t) rfl G);clear G an ac;go_wp2_with fail;refine(D1r x ae.1 ae.2 wr (aw.below h)).mono ?_;rintro _ aE ⟨rfl,X⟩;have ad:=A_ (AI h X);have ah:=A_ (A0z H X);have E:=A_ (A0z D X);have ai:=A_ (A0z u X);clear X q1 q2 H D u aD;have Z:∃ ao,aE.cell? ⟨b,i,I⟩=B ao:=by rw[(bxL E.o).1 i];exact⟨_,CV (by unfold C9s;simp[C2g];omega)⟩
   obtain⟨ao,Z⟩:=Z;have ap:=(bx E).2.1 i;have l1:=E_ E;go_upto_region 12 with fail;refine Code.set1 E λaJ O=>?_;rw[aA.o]at O;have aq:=A_ (O.low ad ad.size aa.2.2);have ay:=A_ O.k;have ax:=A_ (B8b ah O.gr (by have:=aa.o;omega));have az:=A_ (B8b ai O.gr (by have:=aa.o;omega));clear O Z ap l1 ah E ai;go_wp2_with fail;go_roundg gk;case measure=>omega
   case rel=>exact⟨i+1,by have:=au.o;omega,gN,aq.o,ax.o,ay.o,az.o⟩
  obtain rfl:i=5:=oS;have E:wr.1[b]?=B (AK #[QS QO t.a,QS QO t.b,QS QO t.c,QS QO t.4,QS QO t.5] 122):=by have:=D.o;rwa [F3x (L:=C2g t) rfl]at this
  obtain⟨Z,ap,aI⟩:=bx H;obtain⟨aK,aL,l1⟩:=bx E;clear ac Y E D u;go_wp2;refine BI (v:=.tuple #[AM #[QS QO t.a,QS QO t.b,QS QO t.c,QS QO t.4,QS QO t.5],AC AD]) (by simp[BO,results98,go_sem, *]) rfl ⟨rfl,?_⟩;exact h.grown (row:=B w.1.size) (A5y (A5y (A5y (A5y (A5y (B3a _ _)))))) h.size (λx G=>by injection G with G;omega)
end Go.Proofs.YtbkilakncnlebaaGreatDoor.X
