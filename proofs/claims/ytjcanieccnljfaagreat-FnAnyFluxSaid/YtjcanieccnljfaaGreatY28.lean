/- A part of the proof. -/
import Derived.Test.YtjcanieccnljfaaGreatY18
import Derived.Deep.RegionLaw
import Derived.Deep.AppendLies
set_option linter.constructorNameAsVariable false
set_option maxHeartbeats 16000000
set_option maxRecDepth 10000
open Bool renaming and_eq_true→DJ,false→AH,true→AF
open Go renaming Value→AU,World→AD,bodyPost_ret→CK,heap_alloc_new→DB,maxLen→BS
open Go.IntKind renaming i64→RD
open Go.Obj renaming cells→BG
open Go.RowKit.Below renaming drew→LK,heap_setCell→GA,refl→DI
open Go.Value renaming agg→BJ,bool→J,int→N,slice→S
open Go.World renaming size_alloc→FU
open Go.XB.Below renaming box→BP,next→BH
open List renaming length_append→GQ,mem_append→DV,mem_of_getElem?→DH
open Nat renaming le_refl→CE,le_trans→CJ
open Option renaming none→I,some→B
namespace Go
section
variable {P:Program}
theorem A9g {w:AD} {O:Array Oper} {o:Oper} {a:Act} {K:Act->AD->Prop} {Q:Exit->Act->AD->Prop} {T:Prop} (ab:o.guard=I) (s x:Operand) (t:TypeId)
  (af:o.op=.call { callee:=.builtin .append,args:=#[s,x],argTypes:=#[t,t] })
  (e:TypeId) (i:TypeInfo) (z:AU) (size E:Nat) (ak:P.underlying t=B (.slice e)) (hi:P.info? e=B i) (an:i.zero=B z)
  (ai:i.size=size) (Z:i.bytes=E) (ao:z.cells.size=size) (aj:0<size) (ah:a.eval s=S I 0 0)
  (D:Addr) (c:Nat) (b:List AU) (am:a.eval x=S (B D) 1 c) (ad:b.length=1*size) (ae:∀ j u,b[j]?=B u->w.cell? (D.add j)=B u) (W:∀ u∈b,u.oneCell'=AF)
  (aa:(0+1)*E<=140737488355328)
  (h:∀ g' cap' w',w'.ownsRow w.1.size e size (S (B ⟨g',0,I⟩) 1 cap') 1 b->RowKit.Bw w w'->K (a.put o.dst (S (B ⟨g',0,I⟩) 1 cap')) w') :
  if Region.wanted o (yielded O a.tmps)=AF then Oper.wp P o a w K Q else T:=by
 have al:Region.wanted o (yielded O a.tmps)=AF:=by simp[Region.wanted,ab]
 rw[if_pos al];obtain⟨au,w',ag,G,X,Y⟩:=run_append_own (P:=P) w w.1.size t o.type e i z size E ak hi an ai Z ao aj (S I 0 0) 0 [] (World.ownsRow_nil w _ e size) D 1 c b ad ae W (by unfold BS;omega) aa (CE _);rw[List.nil_append,Nat.zero_add]at G;rcases G.2 with⟨H,_⟩|⟨g,cap,ap,H,aq,ar⟩
 ·exact absurd (Y.1 H).2 dE
 subst H;unfold Oper.wp execOp;simp only[af,resolve,invoke,builtin,Sem.run_bind,Sem.run_pure,Result.andThen_ok,List.map_toArray,List.map_cons,List.map_nil,ah,am,ag];exact h g cap w' G ((RowKit.Below.refl w.1.size w).grown X (CE _) (by intro k ac;cases ac))
end
end Go
namespace Go.Proofs.YtjcanieccnljfaaGreat.X
open Go.RowKit Go.XB Go.XN Proofs.Tryz
attribute [local go_sem] L_ Go.XB.opAt N_ M_ Region.wanted yielded
attribute [local simp] N_ M_ MP.eq MP.agg MP.sl A0r
section
def FanK (Wx:AD) (gr gf:Nat) (cl:Bool) (vT vS:AU) (V:AD):Prop :=
 V.1[gf]?=B (BG #[vT,vS,J cl] 100)/\V.1[gr]?=B (BG #[S I 0 0,S I 0 0,J AH] 100)/\Bw Wx V/\(Wx.1.size<=gr/\gr<gf)
section
variable {Wx V U:AD} {gr gf:Nat} {cl:Bool} {vT vS:AU}
theorem FanK.lt (h:FanK Wx gr gf cl vT vS V):gf<V.1.size:=E_ h.1
theorem FanK.below (h:FanK Wx gr gf cl vT vS V) (hb:Bw V U):FanK Wx gr gf cl vT vS U:=⟨K_ h.1 hb,K_ h.2.1 hb,BH h.2.2.1 hb,h.2.2.2⟩
theorem FanK.grown {g:Nat} (h:FanK Wx gr gf cl vT vS V) (hg:V.grownBy U (B g)) (hlt:gf<g):FanK Wx gr gf cl vT vS U :=
 ⟨(hg.block gf (E_ h.1) iO).trans h.1,(hg.block gr (E_ h.2.1) (by intro e;injection e with e;have:=h.2.2.2;omega)).trans h.2.1,
  h.2.2.1.grown hg (by have:=E_ h.1;have:=h.2.2.2;omega) (λk hk=>by injection hk with hk;have:=h.2.2.2;omega),h.2.2.2⟩
theorem FanK.set0 (h:FanK Wx gr gf cl vT vS V) (v:AU):FanK Wx gr gf cl v vS (V.setCell ⟨gf,0,I⟩ v) :=
 ⟨A9b h.1,(GA _ _ _ gr (by have:=h.2.2.2;show gr≠gf;omega)).trans h.2.1,h.2.2.1.setCell (p:=⟨gf,0,I⟩) (by have:=h.2.2.2;show Wx.1.size<=gf;omega) _,h.2.2.2⟩
theorem FanK.set1 (h:FanK Wx gr gf cl vT vS V) (v:AU):FanK Wx gr gf cl vT v (V.setCell ⟨gf,1,I⟩ v) :=
 ⟨A9b h.1,(GA _ _ _ gr (by have:=h.2.2.2;show gr≠gf;omega)).trans h.2.1,h.2.2.1.setCell (p:=⟨gf,1,I⟩) (by have:=h.2.2.2;show Wx.1.size<=gf;omega) _,h.2.2.2⟩
theorem FanK.cells (h:FanK Wx gr gf cl vT vS V):V.cell? ⟨gf,0,I⟩=B vT/\V.cell? ⟨gf,1,I⟩=B vS/\V.frozen? ⟨gf,0,I⟩=AH/\V.frozen? ⟨gf,1,I⟩=AH :=
 ⟨(B_ h.1 (j:=0) rfl).1,(B_ h.1 (j:=1) rfl).1,(B_ h.1 (j:=0) rfl).2,(B_ h.1 (j:=1) rfl).2⟩
end
def RowI (base:Nat) (V:AD) (g c:Nat) (xs:List Int):Prop:=V.ownsRow base 3 1 (S (B ⟨g,0,I⟩) xs.length c) xs.length (xs.map (N RD))
section
variable {V U:AD} {base g c:Nat} {xs:List Int}
theorem RowI.lt (h:RowI base V g c xs):base<=g/\g<V.1.size:=World.ownsRow.lt h _ rfl
theorem RowI.below (h:RowI base V g c xs) (hb:Bw V U):RowI base U g c xs:=I_ h hb
theorem RowI.far {u:Nat} (h:RowI base V g c xs) (H:V.grownBy U (B u)) (W:u≠g):RowI base U g c xs:=by
 have T:=h.lt;obtain⟨E,b⟩:=h;refine⟨E,?_⟩;rcases b with b|⟨aa,Z,D,Y,G,O,X⟩
 ·exact .inl b
 cases Y;exact .inr ⟨_,_,D,rfl,G,(H.block _ T.2 (by intro e;injection e with e;exact W e.symm)).trans O,X⟩
theorem RowI.set {b j:Nat} {v:AU} (h:RowI base V g c xs) (O:b≠g):RowI base (V.setCell ⟨b,j,I⟩ v) g c xs:=by
 obtain⟨E,u⟩:=h;refine⟨E,?_⟩;rcases u with u|⟨Y,X,D,W,G,H,T⟩;·exact .inl u
 cases W;exact .inr ⟨_,_,D,rfl,G,(GA _ _ _ g (by intro e;exact O e.symm)).trans H,T⟩
theorem RowI.push {k:Int} {g' c':Nat} (h:V.ownsRow base 3 1 (S (B ⟨g',0,I⟩) (xs.length+1) c') (xs.length+1) (xs.map (N RD)++[N RD k])):RowI base V g' c' (xs++[k]):=by
 unfold RowI;rw[GQ,List.map_append];exact h
theorem RowI.one {k:Int} {b0 g' c':Nat} (h:V.ownsRow b0 3 1 (S (B ⟨g',0,I⟩) 1 c') 1 [N RD k]) (hb:base<=b0):RowI base V g' c' [k]:=⟨h.1,h.2.imp id (λ⟨g,c,cur,hv,hb2,r⟩=>⟨g,c,cur,hv,CJ hb hb2,r⟩)⟩
theorem RowI.sl (h:RowI base V g c xs) (ad:0<xs.length) (hi:∀ x∈xs,I64 x):Sl V (B ⟨g,0,I⟩) xs.length c xs [g]/\∃ cs t,V.1[g]?=B (BG cs t (0,0)):=by
 have H:=World.ownsRow.cells h (g:=g) rfl;rcases h.2 with⟨u,_⟩|⟨aa,Y,Z,X,ab,D,W,O,ac,ae⟩
 ·cases u
 cases X;refine⟨⟨rfl,W,O,λu=>oS,λu=>⟨g,0,List.replicate xs.length [],rfl,sI,sI,E_ D,λk x G E T=>?_⟩⟩,_,_,D⟩;obtain rfl:G=[]:=by have:=DH T;simp at this;exact this.2
 refine⟨[N RD x],λj af b=>?_,rfl,rfl,hi x (DH E)⟩;match j,b with
 |0,b =>
  simp at b;subst b
  have:=H k (N RD x) (by rw[List.getElem?_map,E];rfl)
  have e:(⟨g,0,I⟩:Addr).add k=⟨g,k,I⟩:=by unfold Addr.add;split<;>simp_all
  rw[e]at this
  show V.cell? ⟨g,0+k*Dat.sz Int+0,I⟩=_
  rw[show 0+k*Dat.sz Int+0=k from by show 0+k*1+0=k;omega]
  exact this
end
theorem A8p (W:AD) (v:AU) (t:TypeId):(W.alloc (BG #[v] t)).cell? ⟨W.1.size,0,I⟩=B v:=(B_ (DB W _) (j:=0) rfl).1
theorem A4y {D:AD} {g:Nat} {v:AU} (h:D.cell? ⟨g,0,I⟩=B v):∀ j u,[v][j]?=B u->D.cell? ((⟨g,0,I⟩:Addr).add j)=B u:=by
 intro j u b;match j,b with
 |0,b=>simp at b;subst b;simpa[Addr.add]using h
theorem A6q (n:Int):∀ u∈[N RD n],u.oneCell'=AF:=λu hu=>by simp at hu;subst hu;rfl
def FanB (Wx:AD) (gr gf:Nat) (cl:Bool) (base n1:Nat) (vT vS:AU) (gT cT gS cS:Nat) (tr sp:List Int) (V:AD):Prop :=
 FanK Wx gr gf cl vT vS V/\RowI base V gT cT tr/\RowI base V gS cS sp/\gT≠gS/\n1<=V.1.size/\gf<base
def FanA (Wx:AD) (gr gf:Nat) (cl:Bool) (base n1:Nat) (vT vS:AU) (gT cT:Nat) (tr:List Int) (V:AD):Prop :=
 FanK Wx gr gf cl vT vS V/\RowI base V gT cT tr/\n1<=V.1.size/\gf<base/\base<=n1
def FanN (Wx:AD) (gr gf:Nat) (cl:Bool) (base n1:Nat) (vT vS:AU) (V:AD):Prop :=
 FanK Wx gr gf cl vT vS V/\n1<=V.1.size/\gf<base/\base<=n1
section
variable {Wx V U:AD} {gr gf base n1 gT cT gS cS:Nat} {cl:Bool} {vT vS:AU} {tr sp:List Int} {k:Int} {g' c':Nat}
theorem FanB.below (h:FanB Wx gr gf cl base n1 vT vS gT cT gS cS tr sp V) (hb:Bw V U):FanB Wx gr gf cl base n1 vT vS gT cT gS cS tr sp U :=
 ⟨h.1.below hb,h.2.1.below hb,h.2.2.1.below hb,h.2.2.2.1,CJ h.2.2.2.2.1 hb.size,h.2.2.2.2.2⟩
theorem FanB.alloc (h:FanB Wx gr gf cl base n1 vT vS gT cT gS cS tr sp V) (o:Obj):FanB Wx gr gf cl base n1 vT vS gT cT gS cS tr sp (V.alloc o):=h.below (BP o)
theorem FanB.drew (h:FanB Wx gr gf cl base n1 vT vS gT cT gS cS tr sp V):FanB Wx gr gf cl base n1 vT vS gT cT gS cS tr sp V.drew:=h.below (LK (DI _ _))
theorem FanA.below (h:FanA Wx gr gf cl base n1 vT vS gT cT tr V) (hb:Bw V U):FanA Wx gr gf cl base n1 vT vS gT cT tr U :=
 ⟨h.1.below hb,h.2.1.below hb,CJ h.2.2.1 hb.size,h.2.2.2⟩
theorem FanA.alloc (h:FanA Wx gr gf cl base n1 vT vS gT cT tr V) (o:Obj):FanA Wx gr gf cl base n1 vT vS gT cT tr (V.alloc o):=h.below (BP o)
theorem FanN.below (h:FanN Wx gr gf cl base n1 vT vS V) (hb:Bw V U):FanN Wx gr gf cl base n1 vT vS U:=⟨h.1.below hb,CJ h.2.1 hb.size,h.2.2⟩
theorem FanN.alloc (h:FanN Wx gr gf cl base n1 vT vS V) (o:Obj):FanN Wx gr gf cl base n1 vT vS (V.alloc o):=h.below (BP o)
theorem FanN.drew (h:FanN Wx gr gf cl base n1 vT vS V):FanN Wx gr gf cl base n1 vT vS V.drew:=h.below (LK (DI _ _))
theorem FanB.pushT (h:FanB Wx gr gf cl base n1 vT vS gT cT gS cS tr sp V) (b:V.grownBy U (B gT)) (W:g'=gT\/g'=V.1.size) (T:U.ownsRow base 3 1 (S (B ⟨g',0,I⟩) (tr.length+1) c') (tr.length+1) (tr.map (N RD)++[N RD k])) :
  FanB Wx gr gf cl base n1 vT vS g' c' gS cS (tr++[k]) sp U:=by
 obtain⟨D,E,u,G,H,O⟩:=h;exact⟨D.grown b (by have:=E.lt;omega),RowI.push T,u.far b G,by have:=u.lt;omega,CJ H b.size,O⟩
theorem FanB.pushS (h:FanB Wx gr gf cl base n1 vT vS gT cT gS cS tr sp V) (b:V.grownBy U (B gS)) (W:g'=gS\/g'=V.1.size) (T:U.ownsRow base 3 1 (S (B ⟨g',0,I⟩) (sp.length+1) c') (sp.length+1) (sp.map (N RD)++[N RD k])) :
  FanB Wx gr gf cl base n1 vT vS gT cT g' c' tr (sp++[k]) U:=by
 obtain⟨D,u,E,G,H,O⟩:=h;exact⟨D.grown b (by have:=E.lt;omega),u.far b (Ne.symm G),RowI.push T,by have:=u.lt;omega,CJ H b.size,O⟩
theorem FanN.pushT (h:FanN Wx gr gf cl base n1 vT vS V) (b:Bw V U) (H:U.ownsRow V.1.size 3 1 (S (B ⟨g',0,I⟩) 1 c') 1 [N RD k]):FanA Wx gr gf cl base n1 vT vS g' c' [k] U:=by
 obtain⟨u,D,E,G⟩:=h;exact⟨u.below b,RowI.one H oS,CJ D b.size,E,G⟩
theorem FanA.pushS (h:FanA Wx gr gf cl base n1 vT vS gT cT tr V) (b:Bw V U) (D:U.ownsRow V.1.size 3 1 (S (B ⟨g',0,I⟩) 1 c') 1 [N RD k]):FanB Wx gr gf cl base n1 vT vS gT cT g' c' tr [k] U:=by
 obtain⟨E,u,G,H,O⟩:=h;have T:V.1.size<=g':=(World.ownsRow.lt D _ rfl).1;exact⟨E.below b,u.below b,RowI.one D oS,by have:=u.lt;omega,CJ G b.size,H⟩
theorem FanB.sets (h:FanB Wx gr gf cl base n1 vT vS gT cT gS cS tr sp V) (v D:AU):FanB Wx gr gf cl base n1 v D gT cT gS cS tr sp ((V.setCell ⟨gf,0,I⟩ v).setCell ⟨gf,1,I⟩ D):=by
 obtain⟨E,b,u,G,H,O⟩:=h;exact⟨(E.set0 v).set1 D,(b.set (by have:=b.lt;omega)).set (by have:=b.lt;omega),(u.set (by have:=u.lt;omega)).set (by have:=u.lt;omega),G,by simpa[World.setCell]using H,O⟩
theorem D0h {b:Nat} {v:AU} (hg:V.grownBy U (B gT)) (hne:b≠gT) (hc:V.cell? ⟨b,0,I⟩=B v):U.cell? ⟨b,0,I⟩=B v :=
 (hg.cell_far ⟨b,0,I⟩ (World.block_lt_of_cell? V _ hc) (by intro e;injection e with e;exact hne e)).trans hc
theorem C9o {b:Nat} {v:AU} (hb:Bw V U) (hc:V.cell? ⟨b,0,I⟩=B v):U.cell? ⟨b,0,I⟩=B v :=
 (hb.cell (p:=⟨b,0,I⟩) (World.block_lt_of_cell? V _ hc)).trans hc
end
theorem RowI.own1 {xs:List Int} {V:AD} {base g c:Nat} {k:Int} (h:RowI base V g c (xs++[k])):V.ownsRow base 3 1 (S (B ⟨g,0,I⟩) (xs.length+1) c) (xs.length+1) ((xs++[k]).map (N RD)):=by
 unfold RowI at h;rwa [show(xs++[k]).length=xs.length+1 by simp]at h
section
variable {w0 Wx V U:AD} {gr gf base n1 n2 gT cT gS cS:Nat} {cl:Bool} {vT vS:AU} {tr sp:List Int}
theorem FanB.weak (h:FanB Wx gr gf cl base n1 vT vS gT cT gS cS tr sp V) (hn:n2<=n1):FanB Wx gr gf cl base n2 vT vS gT cT gS cS tr sp V:=⟨h.1,h.2.1,h.2.2.1,h.2.2.2.1,CJ hn h.2.2.2.2.1,h.2.2.2.2.2⟩
theorem FanB.set1 (h:FanB Wx gr gf cl base n1 vT vS gT cT gS cS tr sp V) (b:AU):FanB Wx gr gf cl base n1 vT b gT cT gS cS tr sp (V.setCell ⟨gf,1,I⟩ b):=by
 obtain⟨E,u,D,G,H,O⟩:=h;exact⟨E.set1 b,u.set (by have:=u.lt;omega),D.set (by have:=D.lt;omega),G,by simpa[World.setCell]using H,O⟩
theorem D9y (h:FanB Wx gr gf cl base n1 vT vS gT cT gS cS tr sp V) (u:Bw w0 V) (D:w0.1.size<=gr) (Y:0<tr.length) (X:0<sp.length) (aa:∀ y∈tr,I64 y) (Z:∀ y∈sp,I64 y) (a b c:AU) :
  A0c w0 (⟨tr,sp,cl⟩:TFan) (.returned (BJ #[S (B ⟨gT,0,I⟩) tr.length cT,S (B ⟨gS,0,I⟩) sp.length cS,J cl])) (((V.setCell ⟨gr,0,I⟩ a).setCell ⟨gr,1,I⟩ b).setCell ⟨gr,2,I⟩ c):=by
 obtain⟨T,E,G,ab,ac,ad⟩:=h;have q:=T.2.2.2;have af:=E.lt;have ae:=G.lt;have H:=(((E.set (b:=gr) (j:=0) (v:=a) oS).set (b:=gr) (j:=1) (v:=b) oS).set (b:=gr) (j:=2) (v:=c) oS).sl Y aa;have O:=(((G.set (b:=gr) (j:=0) (v:=a) oS).set (b:=gr) (j:=1) (v:=b) oS).set (b:=gr) (j:=2) (v:=c) oS).sl X Z;refine⟨_,[gT]++[gS],rfl,TFan.mkAgg (x:=⟨tr,sp,cl⟩) H.1 O.1,Own.append ⟨sI,λb u=>?_⟩ ⟨sI,λb u=>?_⟩ (λb u W=>?_),((u.setCell (p:=⟨gr,0,I⟩) D _).setCell (p:=⟨gr,1,I⟩) D _).setCell (p:=⟨gr,2,I⟩) D _⟩;·simp at u;subst u;exact⟨oS,H.2⟩
 ·simp at u;subst u;exact⟨oS,O.2⟩
 simp at u W;omega
end
theorem D5h (val:AU) (x:TAround) (b:List Nat) (T:Int) (cl:Bool) (ap ao:List Int) (w:AD) (bR:Agg w val x b) (cm:∀ k∈x.list,D5b x.m.triangles x.edges x.v k=AF) (cs:x.edges.length<=144) (cn:x.list.length<=48) (cp:T∈x.list)
  (aN:B5l x.m.triangles x.edges x.v x.list T 49 T [] []=B (ap,ao)) :
  Calls prog 131 #[val,N RD T,J cl] w (A0c w (⟨ap,ao,cl⟩:TFan)):=by
 have b6:=A_ bR;have bv:=A_ cm;have bB:=A_ cs;have cL:=A_ cn;have aG:=A_ (show T∈x.list/\B5l x.m.triangles x.edges x.v x.list T 49 T [] []=B (ap,ao)/\([]:List Int).length+49=49/\([]:List Int).length=([]:List Int).length/\(∀ y∈([]:List Int),I64 y)/\(∀ y∈([]:List Int),I64 y)from⟨cp,aN,rfl,rfl,λy D=>by simp at D,λy D=>by simp at D⟩);obtain⟨a3,bj,a9,dg,a4,n1,ba,s1,a5,n2,bc,dh,a6,bk,bd,di,rfl,rfl,cX,cY,cZ,c0,cu⟩:=TAround.agg bR;have cN:=A_ (Sl.i64 cu);obtain⟨ah,ad,ae,af,ag⟩:=info_parts A6b;clear cX cY cZ cu c0 bR cm cs cn cp aN;go_enter func131,ntmps131;go_upto_region 2 with fail;obtain⟨Wx,aM⟩:∃ y,y=w.alloc (BG #[S a3 bj a9,S a4 n1 ba,S a5 n2 bc,N RD x.v,S a6 bk bd] 168):=⟨_,rfl⟩
 have a7:=A_ (by rw[aM];exact BP _:Bw w Wx);have ca:=A_ (by rw[aM];exact DB w _:Wx.1[w.1.size]?=B (BG #[S a3 bj a9,S a4 n1 ba,S a5 n2 bc,N RD x.v,S a6 bk bd] 168));have aI:Wx.1.size=w.1.size+1:=by rw[aM];simp
 rw[<-aM];clear aM;obtain⟨bL,aC⟩:∃ y,y=(Wx.alloc (BG #[S I 0 0,S I 0 0,J AH] 100)).alloc (BG #[S I 0 0,S I 0 0,J cl] 100):=⟨_,rfl⟩
 have bU:=A_ (show FanN Wx (w.1.size+1) (w.1.size+1+1) cl (w.1.size+3) (w.1.size+3) (S I 0 0) (S I 0 0) bL by
  have bh:bL.1[w.1.size+1+1]?=B (BG #[S I 0 0,S I 0 0,J cl] 100):=by rw[aC];have:=DB (Wx.alloc (BG #[S I 0 0,S I 0 0,J AH] 100)) (BG #[S I 0 0,S I 0 0,J cl] 100);rwa [FU,aI]at this
  have bi:bL.1[w.1.size+1]?=B (BG #[S I 0 0,S I 0 0,J AH] 100):=by rw[aC];have:=DB Wx (BG #[S I 0 0,S I 0 0,J AH] 100);rw[aI]at this;exact K_ this (BP _)
  exact⟨⟨bh,bi,by rw[aC];exact BH (BP _) (BP _),oS,oS⟩,by rw[aC];simp[aI],oS,CE _⟩)
 rw[<-aC];have dc:=A_ aI;clear aC aI;go_wp2_with fail
 go_loopg [1] 49 (λg s1 wr=>∃ (k:Int) (tr sp:List Int),s1=N RD k/\Hid (k∈x.list/\B5l x.m.triangles x.edges x.v x.list T g k tr sp=B (ap,ao)/\tr.length+g=49/\sp.length=tr.length/\(∀ y∈tr,I64 y)/\(∀ y∈sp,I64 y)) /\
  Hid ((tr=[]/\sp=[]/\FanN Wx (w.1.size+1) (w.1.size+1+1) cl (w.1.size+3) (w.1.size+3) (S I 0 0) (S I 0 0) wr) \/
   ∃ gT cT gS cS,FanB Wx (w.1.size+1) (w.1.size+1+1) cl (w.1.size+3) (w.1.size+3) (S (B ⟨gT,0,I⟩) tr.length cT) (S (B ⟨gS,0,I⟩) sp.length cS) gT cT gS cS tr sp wr))
 case atStart=>exact⟨T,[],[],rfl,⟨aG.1,aG.2.1,aG.2.2.1,rfl,aG.2.2.2.2⟩,.inl ⟨rfl,rfl,bU⟩⟩
 case round =>
  clear aG bU;obtain⟨k,tr,sp,rfl,b4,bY⟩:=hrel;obtain⟨cq,aN,ci,co,ck,cj⟩:=b4.o;have bA:=A_ cq;have bu:=A_ aN;have bz:=A_ co;have cK:=A_ ck;have cJ:=A_ cj;have bp:=A_ (by unfold BS;omega:tr.length+1<=BS);have bq:=A_ (by omega:(tr.length+1)*8<=140737488355328);have a8:=A_ (by unfold BS;omega:sp.length+1<=BS);have br:=A_ (by omega:(sp.length+1)*8<=140737488355328);have bt:=A_ ci;have b3:=A_ (show ∃ vT vS,FanK Wx (w.1.size+1) (w.1.size+1+1) cl vT vS wr/\w.1.size+3<=wr.1.size from bY.elim (λD=>⟨_,_,D.2.2.1,D.2.2.2.1⟩) (λ⟨_,_,_,_,D⟩=>⟨_,_,D.1,D.2.2.2.2.1⟩));have bW:=A_ (by obtain⟨_,_,D,_⟩:=b3.o;exact D.2.2.1:Bw Wx wr);have de:w.1.size+3<=wr.1.size:=by obtain⟨_,_,_,D⟩:=b3.o;exact D
  clear b4 cq aN co ck cj ci;have cM:=A_ (BH a7 bW);have az:=A_ (K_ ca bW);obtain⟨aJ,-⟩:=B_ az (j:=0) rfl;obtain⟨aA,-⟩:=B_ az (j:=1) rfl;obtain⟨aB,-⟩:=B_ az (j:=2) rfl;obtain⟨aK,-⟩:=B_ az (j:=3) rfl;obtain⟨aL,-⟩:=B_ az (j:=4) rfl;simp at aJ aA aB aK aL;have bS:w.1.size<wr.1.size:=E_ az;go_wp2_with fail;refine(B5f _ x _ k wr (b6.below cM) (bv k bA) bB).mono ?_;obtain⟨u,bO⟩:∃ f,(spT x.m.triangles x.edges x.v k).1=f:=⟨_,rfl⟩
  obtain⟨X,bP⟩:∃ f,(spT x.m.triangles x.edges x.v k).2=f:=⟨_,rfl⟩
  have bZ:=A_ bO;have b0:=A_ bP;rw[bO,bP];clear bO bP;rintro _ h ⟨rfl,bN⟩;have bX:=A_ bN;have dd:=bN.size;clear bN aJ aA aB aK aL bS;go_upto_region 4 with fail;rename (Act->AD->Prop)=>b8;rename (∀ (a:Act) (w_1:AD),Code.wp _ _ _ a w_1->b8 a w_1)=>cg
  have b9:∀ (vT vS:AU) (cd ce Y W ac ab:Nat) (aH:AD),FanB Wx (w.1.size+1) (w.1.size+1+1) cl (w.1.size+3) h.1.size (S (B ⟨Y,0,I⟩) (tr.length+1) W) (S (B ⟨ac,0,I⟩) (sp.length+1) ab) Y W ac ab (tr++[k]) (sp++[(u:Int)]) aH ->
    b8 { tmps:=#[BJ #[S a3 bj a9,S a4 n1 ba,S a5 n2 bc,N RD x.v,S a6 bk bd],N RD k,J cl,.pointer (B ⟨w.1.size,0,I⟩),undef,undef,.pointer (B ⟨w.1.size+1,0,I⟩),.pointer (B ⟨w.1.size+1+1,0,I⟩),N RD T,N RD u,N RD X,J cl,BJ #[S I 0 0,S I 0 0,J cl],N RD T,.tuple #[N RD u,N RD X],BJ #[S a3 bj a9,S a4 n1 ba,S a5 n2 bc,N RD x.v,S a6 bk bd],N RD k,.tuple #[N RD u,N RD X],N RD u,N RD X,.pointer (B ⟨w.1.size+1+1,0,I⟩),vT,N RD k,S (B ⟨cd,0,I⟩) 1 1,S (B ⟨Y,0,I⟩) (tr.length+1) W,.pointer (B ⟨w.1.size+1+1,1,I⟩),vS,N RD u,S (B ⟨ce,0,I⟩) 1 1,S (B ⟨ac,0,I⟩) (sp.length+1) ab,.pointer (B ⟨w.1.size+1+1,0,I⟩),.pointer (B ⟨w.1.size+1+1,1,I⟩),u32,u33,u34,u35,u36,u37,u38,u39,u40,u41,u42,u43,u44,u45,u46,u47],defers:=[] } aH:=by
   intro vT vS cd ce Y W ac ab aH am
   refine cg _ _ ?_
   have bV:=A_ am
   have bo:=A_ am.1.2.2.1
   have b5:=A_ (BH a7 bo)
   have ar:=A_ (K_ ca bo)
   clear am
   obtain⟨aJ,-⟩:=B_ ar (j:=0) rfl
   obtain⟨aA,-⟩:=B_ ar (j:=1) rfl
   obtain⟨aB,-⟩:=B_ ar (j:=2) rfl
   obtain⟨aK,-⟩:=B_ ar (j:=3) rfl
   obtain⟨aL,-⟩:=B_ ar (j:=4) rfl
   simp at aJ aA aB aK aL
   have bS:w.1.size<aH.1.size:=E_ ar
   go_wp2_with fail
   refine(E1f _ x _ X aH (b6.below b5) bv bB cL).mono ?_
   obtain⟨ak,bQ⟩:∃ n,A8e x.m.triangles x.edges x.v x.list X=n:=⟨_,rfl⟩
   have bD:=A_ bQ
   rw[bQ]
   clear bQ
   rintro _ cE ⟨rfl,ch⟩
   have ai:=A_ (bV.below ch)
   clear ch aJ aA aB aK aL bS bV bo b5 ar
   obtain⟨g,rfl⟩:∃ g,gk=g+1:=by
    cases gk with
    |zero=>have:=bu.o;simp[B5l]at this
    |succ g=>exact⟨g,rfl⟩
   have ay:=A_ (show(if ak<0 then B (tr++[k],(sp++[(u:Int)])++[(X:Int)])else if ak=T then B (tr++[k],sp++[(u:Int)])else B5l x.m.triangles x.edges x.v x.list T g ak (tr++[k]) (sp++[(u:Int)]))=B (ap,ao) by have:=bu.o;rw[B5l,bZ.o,b0.o,bD.o]at this;exact this)
   obtain⟨bT,q1,q2,c6⟩:=ai.1.cells
   obtain⟨bl,-⟩:=B_ ai.1.1 (j:=2) rfl
   obtain⟨r0,cA⟩:=B_ ai.1.2.1 (j:=0) rfl
   obtain⟨bm,cB⟩:=B_ ai.1.2.1 (j:=1) rfl
   obtain⟨bn,cD⟩:=B_ ai.1.2.1 (j:=2) rfl
   simp at bl r0 bm bn
   have cw:=ai.1.lt
   have cx:w.1.size+1<cE.1.size:=oS
   clear bu
   have b7:=A_ (show I64 (u:Int)/\I64 (X:Int) by
    obtain⟨_,t,_,_,_,_,bh,bi,cv⟩:=B8p (bv k bA);have aA:A3z x.edges (A2i x.v (A3h t x.v).1)=u:=by rw[<-bZ.o,cv]
    have aB:A3z x.edges (A2i x.v (A3h t x.v).2)=X:=by rw[<-b0.o,cv]
    unfold A6o at bh bi;simp only[DJ,decide_eq_true_eq]at bh bi;have:=bB.o;constructor<;>constructor<;>omega)
   have bF:=A_ (show ∀ y∈tr++[k],I64 y from λy aP=>(DV.1 aP).elim (cK.o y) (λD=>by simp at D;subst D;exact cN _ bA))
   have bE:=A_ (show ∀ y∈sp++[(u:Int)],I64 y from λy aP=>(DV.1 aP).elim (cJ.o y) (λD=>by simp at D;subst D;exact b7.1))
   have cF:=A_ (BH a7 ai.1.2.2.1)
   have cz:(tr++[k]).length=tr.length+1:=sI
   have cy:(sp++[(u:Int)]).length=sp.length+1:=sI
   have au:=A_ cz;have aF:=A_ cy
   clear cz cy
   rcases Int.lt_or_le ak 0 with cV|cW
   ·have aq:=A_ (by have:=ay.o;rw[if_pos cV]at this;injection this with this;exact⟨congrArg Prod.fst this,congrArg Prod.snd this⟩:tr++[k]=ap/\(sp++[(u:Int)])++[(X:Int)]=ao)
    have cH:=A_ (by have:=a8.o;have:=bz.o;have:=bt.o;unfold BS;omega:sp.length+1+1<=BS)
    have cG:=A_ (by have:=bz.o;have:=bt.o;omega:(sp.length+1+1)*8<=140737488355328)
    clear ay
    go_upto_region 8 with(at_builtin;refine A1m rfl _ _ 35 rfl (w.1.size+3) 3 ah (N RD 0) 1 8 underlying35 ad ae af ag rfl dE ac (sp.length+1) ab ((sp++[(u:Int)]).map (N RD)) gD (RowI.own1 (ai.2.2.1.below (BP _))) ⟨cE.1.size,0,I⟩ 1 1 [N RD X] gD rfl (A4y (A8p _ _ _)) (A6q _) cH cG (by have:=ai.2.2.2.2.1;simp;omega) ?_;intro bg be db aa Z an;have bf:=FanB.pushS (ai.o.alloc _) Z an (by rw[aF.o];exact aa);obtain⟨c7,c8,c9,da⟩:=bf.1.cells;have c1:=bf.1.lt)
    obtain⟨cc,bM⟩:∃ y,y=db.setCell ⟨w.1.size+1+1,1,I⟩ (S (B ⟨bg,0,I⟩) (sp.length+1+1) be):=⟨_,rfl⟩
    have al:=A_ (by rw[bM];exact bf.set1 (S (B ⟨bg,0,I⟩) (sp.length+1+1) be):FanB Wx (w.1.size+1) (w.1.size+1+1) cl (w.1.size+3) h.1.size _ _ Y W bg be (tr++[k]) ((sp++[(u:Int)])++[(X:Int)]) cc)
    rw[<-bM]
    clear bM bf c7 c8 c9 da c1 bT q1 q2 c6 bl r0 cA bm cB bn cD cw cx aa Z an
    obtain⟨bT,-⟩:=B_ al.1.1 (j:=0) rfl
    obtain⟨q1,-⟩:=B_ al.1.1 (j:=1) rfl
    obtain⟨bl,-⟩:=B_ al.1.1 (j:=2) rfl
    obtain⟨r0,cA⟩:=B_ al.1.2.1 (j:=0) rfl
    obtain⟨bm,cB⟩:=B_ al.1.2.1 (j:=1) rfl
    obtain⟨bn,cD⟩:=B_ al.1.2.1 (j:=2) rfl
    simp at bT q1 bl r0 bm bn
    have cw:=al.1.lt
    have cx:w.1.size+1<cc.1.size:=oS
    have aE:=A_ (D9y (w0:=w) al.o (BH a7.o al.o.1.2.2.1) oS (by rw[au.o];omega) sI bF.o (λy aP=>(DV.1 aP).elim (bE.o y) (λD=>by simp at D;subst D;exact b7.2)))
    rw[au.o,show((sp++[(u:Int)])++[(X:Int)]).length=sp.length+1+1 by simp,aq.o.1,aq.o.2]at aE
    go_wp2
    refine CK (v:=BJ #[S (B ⟨Y,0,I⟩) (tr.length+1) W,S (B ⟨bg,0,I⟩) (sp.length+1+1) be,J cl]) (by simp[results,results131,go_sem, *]) rfl ?_
    exact aE _ _ _
   have ct:¬ (ak<0):=oS
   by_cases aD:ak=T
   ·have aq:=A_ (by have:=ay.o;rw[if_neg ct,if_pos aD]at this;injection this with this;exact⟨congrArg Prod.fst this,congrArg Prod.snd this⟩:tr++[k]=ap/\sp++[(u:Int)]=ao)
    have cU:(ak==T)=AF:=by simp[aD]
    have aE:=A_ (D9y (w0:=w) ai.o cF.o oS (by rw[au.o];omega) (by rw[aF.o];omega) bF.o bE.o)
    rw[au.o,aF.o,aq.o.1,aq.o.2]at aE
    clear aD ay
    go_wp2
    refine CK (v:=BJ #[S (B ⟨Y,0,I⟩) (tr.length+1) W,S (B ⟨ac,0,I⟩) (sp.length+1) ab,J cl]) (by simp[results,results131,go_sem, *]) rfl ?_
    exact aE _ _ _
   have aq:=A_ (by have:=ay.o;rw[if_neg ct,if_neg aD]at this;exact this:B5l x.m.triangles x.edges x.v x.list T g ak (tr++[k]) (sp++[(u:Int)])=B (ap,ao))
   have cU:(ak==T)=AH:=by simp[aD]
   have cO:=A_ (by have:=D0a (ts:=x.m.triangles) (es:=x.edges) (v:=x.v) (e:=X) (l:=x.list) (by rw[bD.o];exact cW);rwa [bD.o]at this:ak∈x.list)
   have cI:=A_ (ai.o.weak (n2:=w.1.size+3) oS)
   clear aD ay
   go_wp2_with fail
   go_roundg g
   case measure=>omega
   case rel=>exact⟨ak,tr++[k],sp++[(u:Int)],rfl,⟨cO.o,aq.o,by rw[au.o];have:=bt.o;omega,by rw[au.o,aF.o,bz.o],bF.o,bE.o⟩,.inr ⟨Y,W,ac,ab,by rw[au.o,aF.o];exact cI⟩⟩
  have cb:=A_ b9;clear b9 cg;rcases bY with⟨rfl,rfl,am⟩|⟨gT,cT,gS,cS,am⟩
  ·have O:=A_ (show FanN Wx (w.1.size+1) (w.1.size+1+1) cl (w.1.size+3) h.1.size (S I 0 0) (S I 0 0) h from⟨(am.below bX.o).1,CE _,oS,oS⟩);obtain⟨cP,b1,cQ,cR⟩:=O.1.cells;have c2:=O.1.lt;clear am;have bG:=A_ (show(h.alloc (BG #[N RD k] 3)).drew.cell? ⟨h.1.size,0,I⟩=B (N RD k)from A8p h _ _);have bH:=A_ (show ∀ o,((h.alloc (BG #[N RD k] 3)).alloc o).drew.cell? ⟨h.1.size,0,I⟩=B (N RD k)from λo=>oD);have bI:=A_ (show ∀ o,((h.alloc o).alloc (BG #[N RD k] 3)).drew.cell? ⟨h.1.size+1,0,I⟩=B (N RD k)from λo=>by have:=A8p (h.alloc o) (N RD k) 3;rw[FU]at this;exact this);have bJ:=A_ (show ∀ o,((h.alloc o).alloc (BG #[N RD u] 3)).drew.cell? ⟨h.1.size+1,0,I⟩=B (N RD u)from λo=>by have:=A8p (h.alloc o) (N RD u) 3;rw[FU]at this;exact this);have bK:=A_ (show ∀ o,((h.alloc (BG #[N RD u] 3)).alloc o).drew.cell? ⟨h.1.size,0,I⟩=B (N RD u)from λo=>oD);have aw:∀ {n:Nat},h.1.size<=n->w.1.size+3<=n:=λD=>oS;have c4:w.1.size+1<h.1.size:=oS;have c5:w.1.size<h.1.size:=oS;go_region_law (first|(refine A9g (by rfl) _ _ _ (by rfl) 3 ah (N RD 0) 1 8 underlying35 ad ae af ag rfl dE ?_ ⟨h.1.size,0,I⟩ 1 [N RD k] ?_ ?_ ?_ ?_ ?_ ?_;rfl;rfl;rfl;exact A4y bG;exact A6q _;decide;intro Y W ax aj G;have E:=FanN.pushT ((O.alloc _).drew) G aj;obtain⟨aX,aY,aZ,a1⟩:=E.1.cells;have aR:=E.1.lt;have aS:=G.size)|(refine A9g (by rfl) _ _ _ (by rfl) 3 ah (N RD 0) 1 8 underlying35 ad ae af ag rfl dE ?_ ⟨h.1.size,0,I⟩ 1 [N RD k] ?_ ?_ ?_ ?_ ?_ ?_;rfl;rfl;rfl;exact A4y (bH _);exact A6q _;decide;intro Y W ax aj G;have E:=FanN.pushT (((O.alloc _).alloc _).drew) G aj;obtain⟨aX,aY,aZ,a1⟩:=E.1.cells;have aR:=E.1.lt;have aS:=G.size)|(refine A9g (by rfl) _ _ _ (by rfl) 3 ah (N RD 0) 1 8 underlying35 ad ae af ag rfl dE ?_ ⟨h.1.size+1,0,I⟩ 1 [N RD k] ?_ ?_ ?_ ?_ ?_ ?_;rfl;rfl;rfl;exact A4y (bI _);exact A6q _;decide;intro Y W ax aj G;have E:=FanN.pushT (((O.alloc _).alloc _).drew) G aj;obtain⟨aX,aY,aZ,a1⟩:=E.1.cells;have aR:=E.1.lt;have aS:=G.size)|(refine A9g (by rfl) _ _ _ (by rfl) 3 ah (N RD 0) 1 8 underlying35 ad ae af ag rfl dE ?_ ⟨ax.1.size,0,I⟩ 1 [N RD u] ?_ ?_ ?_ ?_ ?_ ?_;rfl;rfl;rfl;exact A4y (A8p _ _ _);exact A6q _;decide;intro ac ab a2 aa Z;have H:=FanA.pushS (E.alloc _) Z aa;obtain⟨aT,aU,aV,aW⟩:=H.1.cells;have aQ:=H.1.lt)|(refine A9g (by rfl) _ _ _ (by rfl) 3 ah (N RD 0) 1 8 underlying35 ad ae af ag rfl dE ?_ ⟨h.1.size+1,0,I⟩ 1 [N RD u] ?_ ?_ ?_ ?_ ?_ ?_;rfl;rfl;rfl;exact A4y (C9o G (bJ _));exact A6q _;decide;intro ac ab a2 aa Z;have H:=FanA.pushS (E) Z aa;obtain⟨aT,aU,aV,aW⟩:=H.1.cells;have aQ:=H.1.lt)|(refine A9g (by rfl) _ _ _ (by rfl) 3 ah (N RD 0) 1 8 underlying35 ad ae af ag rfl dE ?_ ⟨h.1.size,0,I⟩ 1 [N RD u] ?_ ?_ ?_ ?_ ?_ ?_;rfl;rfl;rfl;exact A4y (C9o G (bK _));exact A6q _;decide;intro ac ab a2 aa Z;have H:=FanA.pushS (E) Z aa;obtain⟨aT,aU,aV,aW⟩:=H.1.cells;have aQ:=H.1.lt));all_goals exact cb.o _ _ _ _ _ _ _ _ _ (H.sets _ _)
  have O:=A_ (show FanB Wx (w.1.size+1) (w.1.size+1+1) cl (w.1.size+3) h.1.size (S (B ⟨gT,0,I⟩) tr.length cT) (S (B ⟨gS,0,I⟩) sp.length cS) gT cT gS cS tr sp h from(λD=>⟨D.1,D.2.1,D.2.2.1,D.2.2.2.1,CE _,D.2.2.2.2.2⟩) (am.below bX));obtain⟨cP,b1,cQ,cR⟩:=O.1.cells;have c2:=O.1.lt;have df:=O.2.1.lt;clear am;have bG:=A_ (show(h.alloc (BG #[N RD k] 3)).drew.cell? ⟨h.1.size,0,I⟩=B (N RD k)from A8p h _ _);have bH:=A_ (show ∀ o,((h.alloc (BG #[N RD k] 3)).alloc o).drew.cell? ⟨h.1.size,0,I⟩=B (N RD k)from λo=>oD);have bI:=A_ (show ∀ o,((h.alloc o).alloc (BG #[N RD k] 3)).drew.cell? ⟨h.1.size+1,0,I⟩=B (N RD k)from λo=>by have:=A8p (h.alloc o) (N RD k) 3;rw[FU]at this;exact this);have bJ:=A_ (show ∀ o,((h.alloc o).alloc (BG #[N RD u] 3)).drew.cell? ⟨h.1.size+1,0,I⟩=B (N RD u)from λo=>by have:=A8p (h.alloc o) (N RD u) 3;rw[FU]at this;exact this);have bK:=A_ (show ∀ o,((h.alloc (BG #[N RD u] 3)).alloc o).drew.cell? ⟨h.1.size,0,I⟩=B (N RD u)from λo=>oD);have aw:∀ {n:Nat},h.1.size<=n->w.1.size+3<=n:=λD=>oS;have c4:w.1.size+1<h.1.size:=oS;have c5:w.1.size<h.1.size:=oS;go_region_law (first|(refine B0y (by rfl) _ _ _ (by rfl) (w.1.size+3) 3 ah (N RD 0) 1 8 underlying35 ad ae af ag rfl dE gT tr.length cT (tr.map (.int RD)) ?_ ?_ ⟨h.1.size,0,I⟩ 1 1 [N RD k] ?_ ?_ ?_ ?_ ?_ ?_ ?_ ?_;rfl;exact((O.alloc _).drew).2.1;rfl;rfl;exact A4y bG;exact A6q _;exact bp;exact bq;exact aw ((O.alloc _).drew).2.2.2.2.1;intro Y W ax aj G aO;have E:=FanB.pushT ((O.alloc _).drew) G aO aj;obtain⟨aX,aY,aZ,a1⟩:=E.1.cells;have aR:=E.1.lt;have aS:=G.size)|(refine B0y (by rfl) _ _ _ (by rfl) (w.1.size+3) 3 ah (N RD 0) 1 8 underlying35 ad ae af ag rfl dE gT tr.length cT (tr.map (.int RD)) ?_ ?_ ⟨h.1.size,0,I⟩ 1 1 [N RD k] ?_ ?_ ?_ ?_ ?_ ?_ ?_ ?_;rfl;exact(((O.alloc _).alloc _).drew).2.1;rfl;rfl;exact A4y (bH _);exact A6q _;exact bp;exact bq;exact aw (((O.alloc _).alloc _).drew).2.2.2.2.1;intro Y W ax aj G aO;have E:=FanB.pushT (((O.alloc _).alloc _).drew) G aO aj;obtain⟨aX,aY,aZ,a1⟩:=E.1.cells;have aR:=E.1.lt;have aS:=G.size)|(refine B0y (by rfl) _ _ _ (by rfl) (w.1.size+3) 3 ah (N RD 0) 1 8 underlying35 ad ae af ag rfl dE gT tr.length cT (tr.map (.int RD)) ?_ ?_ ⟨h.1.size+1,0,I⟩ 1 1 [N RD k] ?_ ?_ ?_ ?_ ?_ ?_ ?_ ?_;rfl;exact(((O.alloc _).alloc _).drew).2.1;rfl;rfl;exact A4y (bI _);exact A6q _;exact bp;exact bq;exact aw (((O.alloc _).alloc _).drew).2.2.2.2.1;intro Y W ax aj G aO;have E:=FanB.pushT (((O.alloc _).alloc _).drew) G aO aj;obtain⟨aX,aY,aZ,a1⟩:=E.1.cells;have aR:=E.1.lt;have aS:=G.size)|(refine B0y (by rfl) _ _ _ (by rfl) (w.1.size+3) 3 ah (N RD 0) 1 8 underlying35 ad ae af ag rfl dE gS sp.length cS (sp.map (.int RD)) ?_ ?_ ⟨ax.1.size,0,I⟩ 1 1 [N RD u] ?_ ?_ ?_ ?_ ?_ ?_ ?_ ?_;rfl;exact(E.alloc _).2.2.1;rfl;rfl;exact A4y (A8p _ _ _);exact A6q _;exact a8;exact br;exact aw (E.alloc _).2.2.2.2.1;intro ac ab a2 aa Z an;have H:=FanB.pushS (E.alloc _) Z an aa;obtain⟨aT,aU,aV,aW⟩:=H.1.cells;have aQ:=H.1.lt)|(refine B0y (by rfl) _ _ _ (by rfl) (w.1.size+3) 3 ah (N RD 0) 1 8 underlying35 ad ae af ag rfl dE gS sp.length cS (sp.map (.int RD)) ?_ ?_ ⟨h.1.size+1,0,I⟩ 1 1 [N RD u] ?_ ?_ ?_ ?_ ?_ ?_ ?_ ?_;rfl;exact(E).2.2.1;rfl;rfl;exact A4y (D0h G oS (bJ.o _));exact A6q _;exact a8;exact br;exact aw (E).2.2.2.2.1;intro ac ab a2 aa Z an;have H:=FanB.pushS (E) Z an aa;obtain⟨aT,aU,aV,aW⟩:=H.1.cells;have aQ:=H.1.lt)|(refine B0y (by rfl) _ _ _ (by rfl) (w.1.size+3) 3 ah (N RD 0) 1 8 underlying35 ad ae af ag rfl dE gS sp.length cS (sp.map (.int RD)) ?_ ?_ ⟨h.1.size,0,I⟩ 1 1 [N RD u] ?_ ?_ ?_ ?_ ?_ ?_ ?_ ?_;rfl;exact(E).2.2.1;rfl;rfl;exact A4y (D0h G oS (bK.o _));exact A6q _;exact a8;exact br;exact aw (E).2.2.2.2.1;intro ac ab a2 aa Z an;have H:=FanB.pushS (E) Z an aa;obtain⟨aT,aU,aV,aW⟩:=H.1.cells;have aQ:=H.1.lt));all_goals exact cb.o _ _ _ _ _ _ _ _ _ (H.sets _ _)
theorem C5d (ts:List TTri) (es:List TEdge) (v:Int) (l:List Int):∀ i,(A5s ts es v l i).length<=i
 |0=>CE _
 |i+1=>by unfold A5s;have:=C5d ts es v l i;split<;>(try rw[GQ])<;>simp<;>omega
theorem D3r {α:Type} [Dat α] {w:AD} {y:α} {u0 u1 u2:AU} {b:List Nat} (h:Agg w (BJ #[u0,u1,u2]) y b):Dat.at_ w [u0,u1,u2] y b:=by
 obtain⟨E,u,D⟩:=h;injection u with u;have:=congrArg Array.toList u;simp only at this;subst this;exact D
theorem E8l:(prog.info? 100).map (λi=>(i.zero,i.size,i.bytes))=B (B (BJ #[S I 0 0,S I 0 0,J AH]),3,56):=kR
theorem E1r (val:AU) (m:TMesh) (b:List Nat) (v:Int) (w:AD) (bF:Agg w val m b) (bN:m.triangles.length<=48) (b4:I64 v) (bV:fanOk m.triangles v=AF) :
  Calls prog 60 #[val,N RD v] w (A0w w (A8x m.triangles v)):=by
 have bK:=A_ bF;have aR:=A_ bN;have cx:=A_ b4;have cq:=A_ bV;obtain⟨ax,aN,aC,df,ay,n1,aD,dg,rfl,rfl,bX,bY⟩:=TMesh.agg bF;have ct:=A_ bX;have cu:=A_ bY;obtain⟨b8,bS,b5,b6,b7⟩:=info_parts E8l;clear bX bY bF bN b4 bV;go_enter func60,ntmps60;go_upto_region 1 with fail;refine Code.new λbi bg=>?_;have a1:=A_ bg.b;have bf:=A_ bg.k;clear bg;obtain⟨aa,-⟩:=B_ bf (j:=0) rfl;obtain⟨ab,-⟩:=B_ bf (j:=1) rfl;simp at aa ab;have cQ:w.1.size<bi.1.size:=E_ bf;refine X_ sI ?_;dsimp only[List.dropLast,List.getLast,List.length];iterate 2 refine C_ _ ?_
 refine D_ (MP.sl (P_ m.triangles)) ?_ ?_;·intro Y H G u h;obtain⟨bp,bu⟩:=F_ u;simp at h;refine G_ ?_;exact A1c (A7q _ m _ G ((bK.below a1).below u) aR)
 iterate 3 refine C_ _ ?_
 refine D_ (MP.sl (A2d m.triangles v)) ?_ ?_;·intro Y H G u h;obtain⟨bp,bu⟩:=F_ u;simp at h;refine G_ ?_;exact A1c (C1b _ m _ v G ((bK.below a1).below u) aR)
 refine A9h (λaw=>BJ #[S ax aN aC,S ay n1 aD,aw 2,N RD v,aw 6]) (by intro y aw O;simp[N_,M_]at O;simp[O]) ?_ ?_;·intro Y H G u h;obtain⟨bp,bu⟩:=F_ u;simp at h;obtain⟨_,⟨⟨c2,n2,c6,W,_⟩,_⟩,_,⟨⟨c4,de,c7,X,_⟩,_⟩⟩:=h;refine⟨gD,?_⟩;go_simp;try simp[*,Value.cells]
 refine A1p #[S I 0 0,S I 0 0,S I 0 0,N RD 0,S I 0 0] 168 ?_ ?_;·intro Y H G u h;refine⟨gD,?_⟩;go_simp
 intro Y H wb u h (aH:Hid _);simp at h;have q2:=h.2.2.1;have bG:=h.2.2.2.2.2.2.1;have aX:=h.2.2.2.2.2.2.2.1;have cU:=h.2.2.2.2.2.2.2.2;obtain⟨⟨⟨az,aO,aE,W,bZ⟩,cH⟩,cO⟩:=q2;obtain⟨⟨⟨L,D,aF,aq,b0⟩,bt⟩,cP⟩:=bG;have bk:=aX.1.1;rw[W,aq]at bk;obtain⟨⟨ga,cD,ce,ac⟩,bE⟩:=cU;have bq:=aH 2 8 dE dE dE;have br:=aH 6 8 dE dE dE;rw[ce]at bq br bE;have cK:=A_ (show ga∉H 2 from λO=>bq ga O sI);have cL:=A_ (show ga∉H 6 from λO=>br ga O sI);have aI:bi.1.size<=ga:=(bE ga sI).1;have cv:=A_ bZ;have cw:=A_ b0;have cn:=A_ ac;have cj:=A_ u;obtain⟨aY,u0⟩:=B_ ac (j:=0) rfl;obtain⟨aZ,u1⟩:=B_ ac (j:=1) rfl;obtain⟨cV,u2⟩:=B_ ac (j:=2) rfl;obtain⟨cW,cY⟩:=B_ ac (j:=3) rfl;obtain⟨cX,cZ⟩:=B_ ac (j:=4) rfl;have cI:=E_ ac;generalize H 2=cz at *;generalize H 6=cB at *;clear h aH bq br bZ cH cO b0 bt cP ac bE aX ce u aa ab cQ W aq;go_upto_region 2 with fail;obtain⟨Z,au⟩:∃ y,y=(((((wb.setCell ⟨ga,0,I⟩ (S ax aN aC)).setCell ⟨ga,1,I⟩ (S ay n1 aD)).setCell ⟨ga,2,I⟩ (S az aO aE)).setCell ⟨ga,3,I⟩ (N RD v)).setCell ⟨ga,4,I⟩ (S L D aF)):=⟨_,rfl⟩
 have be:=A_ (by rw[au];exact A9b (A9b (A9b (A9b (A9b cn)))):Z.1[ga]?=B (BG #[S ax aN aC,S ay n1 aD,S az aO aE,N RD v,S L D aF] 168));have cg:=A_ (by rw[au];exact((((cj.setCell (p:=⟨ga,0,I⟩) aI _).setCell (p:=⟨ga,1,I⟩) aI _).setCell (p:=⟨ga,2,I⟩) aI _).setCell (p:=⟨ga,3,I⟩) aI _).setCell (p:=⟨ga,4,I⟩) aI _:Bw bi Z);have cy:=A_ (show Sl Z az aO aE (P_ m.triangles) cz by rw[au];exact cv.o.keep (λb ak=>A0m ga [S ax aN aC,S ay n1 aD,S az aO aE,N RD v,S L D aF] wb 0 b (λe=>cK.o (e ▸ ak))));have aU:=A_ (show Sl Z L D aF (A2d m.triangles v) cB by rw[au];exact cw.o.keep (λb ak=>A0m ga [S ax aN aC,S ay n1 aD,S az aO aE,N RD v,S L D aF] wb 0 b (λe=>cL.o (e ▸ ak))));rw[<-au];clear au aY aZ cV cW cX u0 u1 u2 cY cZ cI bk cD;have a2:=A_ (BH a1 cg);have ch:=A_ (TAround.mkAgg (x:=⟨m,P_ m.triangles,v,A2d m.triangles v⟩) (ct.below a2) (cu.below a2) cy cx aU);obtain⟨bU,b3,bR⟩:(A2d m.triangles v).isEmpty=AH/\(∀ k∈A2d m.triangles v,D5b m.triangles (P_ m.triangles) v k=AF)/\(∀ k∈A2d m.triangles v,(B5l m.triangles (P_ m.triangles) v (A2d m.triangles v) k 49 k [] []).isSome=AF):=by have:=cq.o;unfold fanOk at this;simp only[DJ,Bool.not_eq_true',List.all_eq_true]at this;exact this
 have cp:=A_ bU;have bd:=A_ b3;have bJ:=A_ bR;have ba:=A_ (show(A2d m.triangles v).length<=48 from CJ (B7u _ _ _) aR);have a8:=A_ (by unfold P_;have:=A5z m.triangles m.triangles.length;have:=aR.o;omega:(P_ m.triangles).length<=144);have bc:=A_ aU.1;have db:D<=48:=by rw[<-bc.o];exact ba
 have dd:(D:Int)<=48:=oS;have bM:=A_ (Pend.start (α:=TFan) (e:=100) a2);obtain⟨X,-⟩:=B_ (K_ be (BP (BG #[] 100))) (j:=4) rfl;simp at X;have aM:ga<(Z.alloc (BG #[] 100)).1.size:=E_ (K_ be (BP _));clear bU b3 bR;go_wp2_with fail;go_loopg [6,21] D (λg s6 s21 wr=>∃ (i gB cap:Nat),i+g=D/\s21=N RD i/\s6=S (B ⟨gB,0,I⟩) (A5s m.triangles (P_ m.triangles) v (A2d m.triangles v) i).length cap/\Hid (Pend w Z 100 wr gB (A5s m.triangles (P_ m.triangles) v (A2d m.triangles v) i).length cap (A5s m.triangles (P_ m.triangles) v (A2d m.triangles v) i)));case atStart=>exact⟨0,Z.1.size,0,oS,rfl,rfl,bM.o⟩
 case round =>
  clear bM X aM;obtain⟨i,gB,cap,bA,rfl,rfl,T⟩:=hrel;have bH:=A_ T.bb;have c5:=A_ T.bw;have ah:=A_ (K_ be T.bb);have a6:=A_ (ch.below T.bb);obtain⟨aa,-⟩:=B_ ah (j:=0) rfl;obtain⟨ab,-⟩:=B_ ah (j:=1) rfl;obtain⟨W,-⟩:=B_ ah (j:=2) rfl;obtain⟨aG,-⟩:=B_ ah (j:=3) rfl;obtain⟨X,-⟩:=B_ ah (j:=4) rfl;simp at aa ab W aG X;have aM:ga<wr.1.size:=E_ ah;obtain⟨E,aW⟩:∃ E,A5s m.triangles (P_ m.triangles) v (A2d m.triangles v) i=E:=⟨_,rfl⟩
  have bt:E.length<=i:=by rw[<-aW];exact C5d _ _ _ _ i
  have a9:=A_ aW;rw[aW]at T ⊢;clear aW;rcases Nat.lt_or_ge i D with aK|aK
  ·have cJ:(i:Int)<D:=oS
   have c9:(0:Int)<=i:=oS;obtain⟨g,rfl⟩:∃ g,gk=g+1:=⟨gk - 1,oS⟩
   have bT:=A_ (by omega:i+1+g=D);have a3:=A_ (by unfold BS;omega:E.length+1<=BS);have a4:=A_ (by omega:(E.length+1)*56<=140737488355328);obtain⟨cA,cR,k,bl,bP,al,cG,bo⟩:=Sl.getInt (aU.below bH) aK;have aQ:=A_ (A0e (d:=(0:Int)) al);have ap:=A_ (DH al);subst bl;clear bA aK al;go_wp2_with fail;refine(D2f _ ⟨m,P_ m.triangles,v,A2d m.triangles v⟩ _ k wr a6 (bd k ap) a8).mono ?_;rintro _ cb ⟨rfl,bn⟩;have aS:=A_ bn;have ao:=A_ (K_ ah bn);clear bn aa ab W aG X aM bo bP;cases ar:B8j m.triangles (P_ m.triangles) v k
   ·have aB:=A_ (by rw[A5s,aQ.o,ar,a9.o];rfl:A5s m.triangles (P_ m.triangles) v (A2d m.triangles v) (i+1)=E)
    have cF:B8j (⟨m,P_ m.triangles,v,A2d m.triangles v⟩:TAround).m.triangles (⟨m,P_ m.triangles,v,A2d m.triangles v⟩:TAround).edges (⟨m,P_ m.triangles,v,A2d m.triangles v⟩:TAround).v k=AH:=ar;clear ar;go_wp2_with fail;go_roundg g;case measure=>omega
    case rel=>exact⟨i+1,gB,cap,bT.o,gN,by rw[aB.o],by rw[aB.o];exact T.below aS⟩
   have cF:B8j (⟨m,P_ m.triangles,v,A2d m.triangles v⟩:TAround).m.triangles (⟨m,P_ m.triangles,v,A2d m.triangles v⟩:TAround).edges (⟨m,P_ m.triangles,v,A2d m.triangles v⟩:TAround).v k=AF:=ar;obtain⟨⟨ae,ad⟩,aJ⟩:=Option.isSome_iff_exists.1 (bJ k ap);have aA:=A_ aJ;have aB:=A_ (by rw[A5s,aQ.o,ar,a9.o,E6a,aA.o];rfl:A5s m.triangles (P_ m.triangles) v (A2d m.triangles v) (i+1)=E++[⟨ae,ad,AH⟩]);have bL:=A_ (by rw[aB.o];simp:(A5s m.triangles (P_ m.triangles) v (A2d m.triangles v) (i+1)).length=E.length+1);clear ar aJ;obtain⟨aa,-⟩:=B_ ao (j:=0) rfl;obtain⟨ab,-⟩:=B_ ao (j:=1) rfl;obtain⟨W,-⟩:=B_ ao (j:=2) rfl;obtain⟨aG,-⟩:=B_ ao (j:=3) rfl;obtain⟨X,-⟩:=B_ ao (j:=4) rfl;simp at aa ab W aG X;have aM:ga<cb.1.size:=E_ ao;go_wp2_with fail;refine(D5h _ ⟨m,P_ m.triangles,v,A2d m.triangles v⟩ _ k AH ae ad cb (a6.below aS) bd a8 ba ap aA).mono ?_;rintro _ cc ⟨dh,ca,rfl,bm,bB,bO⟩;obtain⟨af,an,ai,aY,ag,m1,aj,aZ,rfl,am,-,-⟩:=TFan.agg bm;have ci:=A_ (BH (BH aS bO) (BP (BG #[S af an ai,S ag m1 aj,J AH] 100)));have aP:=A_ (D3r (bm.below (BP (BG #[S af an ai,S ag m1 aj,J AH] 100))));have bI:=A_ ((bB.below (BP (BG #[S af an ai,S ag m1 aj,J AH] 100))).free);have aT:=A_ (show ∀ b∈ca,wr.1.size<=b from λb ak=>by have:=(bB.2 b ak).1;have:=aS.size;omega);clear bm bB am bO aa ab W aG X aM;go_wp2_with (at_builtin;refine A1v rfl _ _ 97 rfl 100 b8 (BJ #[S I 0 0,S I 0 0,J AH]) 56 underlying97 bS b5 b6 b7 rfl T ci gD ⟨cc.1.size,0,I⟩ 1 [S af an ai,S ag m1 aj,J AH] ⟨ae,ad,AH⟩ ca gD (A0a (DB cc _)) aP bI aT a3 a4 ?_;intro g' bj cd aL bz bD);have cs:=A_ (by rw[bL.o,aB.o];exact aL:Pend w Z 100 cd g' (A5s m.triangles (P_ m.triangles) v (A2d m.triangles v) (i+1)).length bj (A5s m.triangles (P_ m.triangles) v (A2d m.triangles v) (i+1)));clear aL bz bD aP bI aT T;go_wp2_with fail;go_roundg g;case measure=>omega
   case rel=>exact⟨i+1,g',bj,bT.o,gN,by rw[bL.o],cs⟩
  obtain rfl:D=i:=oS;have cJ:¬ ((D:Int)<D):=oS;have a5:=A_ (by rw[bc.o];exact a9:A5s m.triangles (P_ m.triangles) v (A2d m.triangles v) (A2d m.triangles v).length=E);by_cases am:E=[]
  ·have cM:0<D:=by
    have:=cp.o;rw[<-bc.o]
    cases O:A2d m.triangles v with
    |nil=>rw[O]at this;cases this
    |cons a r=>simp
   have dc:(0:Int)<D:=oS
   obtain⟨cA,cR,k,bl,bP,al,cG,bo⟩:=Sl.getInt (aU.below bH) cM
   have aQ:=A_ (A0e (d:=(0:Int)) al)
   have ap:=A_ (DH al)
   obtain⟨⟨ae,ad⟩,aJ⟩:=Option.isSome_iff_exists.1 (bJ k ap)
   have aA:=A_ aJ
   have bh:=A_ (by unfold A8x;rw[a5.o,if_pos am,aQ.o,E6a,aA.o];rfl:A8x m.triangles v=[]++[⟨ae,ad,AF⟩])
   subst bl
   subst am
   have a3:=A_ (by decide:0+1<=BS)
   have a4:=A_ (by decide:(0+1)*56<=140737488355328)
   simp at bo
   clear bA aK al aJ a5 bt
   go_upto_region 10 with fail
   refine W_ 8 kR kR kR kR kR ?_
   simp only[List.take_succ_cons,List.take_zero,List.drop_succ_cons,List.drop_zero]
   iterate 6 refine C_ _ ?_
   refine D_ (MP.agg (⟨ae,ad,AF⟩:TFan)) ?_ ?_
   ·intro Y H G u h;obtain⟨bp,bu⟩:=F_ u;simp at h;refine G_ ?_;exact H_ (D5h _ ⟨m,P_ m.triangles,v,A2d m.triangles v⟩ _ k AF ae ad G (a6.below u) bd a8 ba ap aA)
   refine A1d (λaw=>MP.slbox (aw 6).cells 100) (by intro y aw O;simp[N_,M_]at O;simp[O]) ?_ ?_
   ·intro Y H G u h;simp at h;obtain⟨af,an,ai,aY,ag,m1,aj,aZ,aq,_,_,_⟩:=TFan.agg h.1;refine⟨gD,S (B ⟨G.1.size,0,I⟩) 1 1,G.alloc (BG (Y 6).cells 100),?_,BP _,[G.1.size],⟨G.1.size,rfl,rfl,DB G _⟩,sI⟩;rw[aq];go_simp
   intro Y H wa u h (aH:Hid _)
   simp at h
   have b9:=h.1
   have bG:=h.2.2.2.2.2.2.1
   have aX:=h.2.2.2.2.2.2.2
   obtain⟨⟨aV,bQ⟩,bW⟩:=bG
   obtain⟨af,an,ai,aY,ag,m1,aj,aZ,aq,c0,-,-⟩:=TFan.agg aV
   obtain⟨⟨cE,bk,c1,bv⟩,cN⟩:=aX
   rw[aq]at bv aV
   have aP:=A_ (D3r aV)
   have cm:=A_ bQ;have aT:=A_ (show ∀ b∈H 6,wr.1.size<=b from λb ak=>(bW b ak).1)
   have co:=A_ bv
   have c8:Y 0=S (B ⟨gB,0,I⟩) 0 cap:=b9.1.1
   have ck:=A_ u
   clear h aH aV bQ bW c0 bv cN c1 b9
   go_wp2_with (at_builtin;refine A1v rfl _ _ 97 rfl 100 b8 (BJ #[S I 0 0,S I 0 0,J AH]) 56 underlying97 bS b5 b6 b7 rfl T ck gD ⟨cE,0,I⟩ 1 [S af an ai,S ag m1 aj,J AF] ⟨ae,ad,AF⟩ (H 6) gD (A0a co) aP cm aT a3 a4 ?_;intro g' bj cd aL bz bD)
   have a7:=A_ aL.done
   clear aL bz bD
   go_wp2
   go_ret
   rw[bh.o]
   exact a7
  ·have da:((E.length:Int)==0)=AH:=by
    cases E with
    |nil=>exact absurd rfl am
    |cons a r=>simp;omega
   have bh:=A_ (by unfold A8x;rw[a5.o,if_neg am]:A8x m.triangles v=E)
   have a7:=A_ T.done
   clear bA aK am
   go_wp2
   go_ret
   rw[bh.o]
   exact a7
end
end Go.Proofs.YtjcanieccnljfaaGreat.X
