/- A part of the proof. -/
import Derived.Test.YtbkilakncnlebaaGreatDoorY18
import Derived.Deep.RegionLaw
import Derived.Deep.AppendLies
set_option linter.constructorNameAsVariable false
set_option maxHeartbeats 16000000
set_option maxRecDepth 10000
open Bool renaming and_eq_true→CK,false→AF,true→AD
open Go renaming Value→AJ,World→J,bodyPost_ret→BI,heap_alloc_new→CF,maxLen→BG
open Go.IntKind renaming i64→QO
open Go.Obj renaming cells→AK
open Go.RowKit.Below renaming drew→LK,heap_setCell→DQ,refl→CG
open Go.Value renaming agg→AM,bool→AC,int→N,slice→S
open Go.World renaming size_alloc→EW
open Go.XB.Below renaming box→AV,next→AI
open List renaming length_append→EF,mem_append→CO,mem_of_getElem?→CH
open Nat renaming le_refl→BH,le_trans→BM
open Option renaming none→I,some→B
namespace Go
section
variable {P:Program}
theorem A9g {w:J} {O:Array Oper} {o:Oper} {a:Act} {K:Act->J->Prop} {Q:Exit->Act->J->Prop} {T:Prop} (ab:o.guard=I) (s x:Operand) (t:TypeId)
  (af:o.op=.call { callee:=.builtin .append,args:=#[s,x],argTypes:=#[t,t] })
  (e:TypeId) (i:TypeInfo) (z:AJ) (size E:Nat) (ak:P.underlying t=B (.slice e)) (hi:P.info? e=B i) (an:i.zero=B z)
  (ai:i.size=size) (Z:i.bytes=E) (ao:z.cells.size=size) (aj:0<size) (ah:a.eval s=S I 0 0)
  (D:Addr) (c:Nat) (b:List AJ) (am:a.eval x=S (B D) 1 c) (ad:b.length=1*size) (ae:∀ j u,b[j]?=B u->w.cell? (D.add j)=B u) (W:∀ u∈b,u.oneCell'=AD)
  (aa:(0+1)*E<=140737488355328)
  (h:∀ g' cap' w',w'.ownsRow w.1.size e size (S (B ⟨g',0,I⟩) 1 cap') 1 b->RowKit.Bw w w'->K (a.put o.dst (S (B ⟨g',0,I⟩) 1 cap')) w') :
  if Region.wanted o (yielded O a.tmps)=AD then Oper.wp P o a w K Q else T:=by
 have al:Region.wanted o (yielded O a.tmps)=AD:=by simp[Region.wanted,ab]
 rw[if_pos al];obtain⟨au,w',ag,G,X,Y⟩:=run_append_own (P:=P) w w.1.size t o.type e i z size E ak hi an ai Z ao aj (S I 0 0) 0 [] (World.ownsRow_nil w _ e size) D 1 c b ad ae W (by unfold BG;omega) aa (BH _);rw[List.nil_append,Nat.zero_add]at G;rcases G.2 with⟨H,_⟩|⟨g,cap,ap,H,aq,ar⟩
 ·exact absurd (Y.1 H).2 dE
 subst H;unfold Oper.wp execOp;simp only[af,resolve,invoke,builtin,Sem.run_bind,Sem.run_pure,Result.andThen_ok,List.map_toArray,List.map_cons,List.map_nil,ah,am,ag];exact h g cap w' G ((RowKit.Below.refl w.1.size w).grown X (BH _) (by intro k ac;cases ac))
end
end Go
namespace Go.Proofs.YtbkilakncnlebaaGreatDoor.X
open Go.RowKit Go.XB Go.XN Proofs.Tryz
attribute [local go_sem] L_ Go.XB.opAt N_ M_ Region.wanted yielded
attribute [local simp] N_ M_ MP.eq MP.agg MP.sl A0r
section
def FanK (Wx:J) (gr gf:Nat) (cl:Bool) (vT vS:AJ) (V:J):Prop :=
 V.1[gf]?=B (AK #[vT,vS,AC cl] 187)/\V.1[gr]?=B (AK #[S I 0 0,S I 0 0,AC AF] 187)/\Bw Wx V/\(Wx.1.size<=gr/\gr<gf)
section
variable {Wx V U:J} {gr gf:Nat} {cl:Bool} {vT vS:AJ}
theorem FanK.lt (h:FanK Wx gr gf cl vT vS V):gf<V.1.size:=E_ h.1
theorem FanK.below (h:FanK Wx gr gf cl vT vS V) (hb:Bw V U):FanK Wx gr gf cl vT vS U:=⟨K_ h.1 hb,K_ h.2.1 hb,AI h.2.2.1 hb,h.2.2.2⟩
theorem FanK.grown {g:Nat} (h:FanK Wx gr gf cl vT vS V) (hg:V.grownBy U (B g)) (hlt:gf<g):FanK Wx gr gf cl vT vS U :=
 ⟨(hg.block gf (E_ h.1) iO).trans h.1,(hg.block gr (E_ h.2.1) (by intro e;injection e with e;have:=h.2.2.2;omega)).trans h.2.1,
  h.2.2.1.grown hg (by have:=E_ h.1;have:=h.2.2.2;omega) (λk hk=>by injection hk with hk;have:=h.2.2.2;omega),h.2.2.2⟩
theorem FanK.set0 (h:FanK Wx gr gf cl vT vS V) (v:AJ):FanK Wx gr gf cl v vS (V.setCell ⟨gf,0,I⟩ v) :=
 ⟨A9b h.1,(DQ _ _ _ gr (by have:=h.2.2.2;show gr≠gf;omega)).trans h.2.1,h.2.2.1.setCell (p:=⟨gf,0,I⟩) (by have:=h.2.2.2;show Wx.1.size<=gf;omega) _,h.2.2.2⟩
theorem FanK.set1 (h:FanK Wx gr gf cl vT vS V) (v:AJ):FanK Wx gr gf cl vT v (V.setCell ⟨gf,1,I⟩ v) :=
 ⟨A9b h.1,(DQ _ _ _ gr (by have:=h.2.2.2;show gr≠gf;omega)).trans h.2.1,h.2.2.1.setCell (p:=⟨gf,1,I⟩) (by have:=h.2.2.2;show Wx.1.size<=gf;omega) _,h.2.2.2⟩
theorem FanK.cells (h:FanK Wx gr gf cl vT vS V):V.cell? ⟨gf,0,I⟩=B vT/\V.cell? ⟨gf,1,I⟩=B vS/\V.frozen? ⟨gf,0,I⟩=AF/\V.frozen? ⟨gf,1,I⟩=AF :=
 ⟨(B_ h.1 (j:=0) rfl).1,(B_ h.1 (j:=1) rfl).1,(B_ h.1 (j:=0) rfl).2,(B_ h.1 (j:=1) rfl).2⟩
end
def RowI (base:Nat) (V:J) (g c:Nat) (xs:List Int):Prop:=V.ownsRow base 3 1 (S (B ⟨g,0,I⟩) xs.length c) xs.length (xs.map (N QO))
section
variable {V U:J} {base g c:Nat} {xs:List Int}
theorem RowI.lt (h:RowI base V g c xs):base<=g/\g<V.1.size:=World.ownsRow.lt h _ rfl
theorem RowI.below (h:RowI base V g c xs) (hb:Bw V U):RowI base U g c xs:=I_ h hb
theorem RowI.far {u:Nat} (h:RowI base V g c xs) (H:V.grownBy U (B u)) (W:u≠g):RowI base U g c xs:=by
 have T:=h.lt;obtain⟨E,b⟩:=h;refine⟨E,?_⟩;rcases b with b|⟨aa,Z,D,Y,G,O,X⟩
 ·exact .inl b
 cases Y;exact .inr ⟨_,_,D,rfl,G,(H.block _ T.2 (by intro e;injection e with e;exact W e.symm)).trans O,X⟩
theorem RowI.set {b j:Nat} {v:AJ} (h:RowI base V g c xs) (O:b≠g):RowI base (V.setCell ⟨b,j,I⟩ v) g c xs:=by
 obtain⟨E,u⟩:=h;refine⟨E,?_⟩;rcases u with u|⟨Y,X,D,W,G,H,T⟩;·exact .inl u
 cases W;exact .inr ⟨_,_,D,rfl,G,(DQ _ _ _ g (by intro e;exact O e.symm)).trans H,T⟩
theorem RowI.push {k:Int} {g' c':Nat} (h:V.ownsRow base 3 1 (S (B ⟨g',0,I⟩) (xs.length+1) c') (xs.length+1) (xs.map (N QO)++[N QO k])):RowI base V g' c' (xs++[k]):=by
 unfold RowI;rw[EF,List.map_append];exact h
theorem RowI.one {k:Int} {b0 g' c':Nat} (h:V.ownsRow b0 3 1 (S (B ⟨g',0,I⟩) 1 c') 1 [N QO k]) (hb:base<=b0):RowI base V g' c' [k]:=⟨h.1,h.2.imp id (λ⟨g,c,cur,hv,hb2,r⟩=>⟨g,c,cur,hv,BM hb hb2,r⟩)⟩
theorem RowI.sl (h:RowI base V g c xs) (ad:0<xs.length) (hi:∀ x∈xs,I64 x):Sl V (B ⟨g,0,I⟩) xs.length c xs [g]/\∃ cs t,V.1[g]?=B (AK cs t (0,0)):=by
 have H:=World.ownsRow.cells h (g:=g) rfl;rcases h.2 with⟨u,_⟩|⟨aa,Y,Z,X,ab,D,W,O,ac,ae⟩
 ·cases u
 cases X;refine⟨⟨rfl,W,O,λu=>oS,λu=>⟨g,0,List.replicate xs.length [],rfl,sI,sI,E_ D,λk x G E T=>?_⟩⟩,_,_,D⟩;obtain rfl:G=[]:=by have:=CH T;simp at this;exact this.2
 refine⟨[N QO x],λj af b=>?_,rfl,rfl,hi x (CH E)⟩;match j,b with
 |0,b =>
  simp at b;subst b
  have:=H k (N QO x) (by rw[List.getElem?_map,E];rfl)
  have e:(⟨g,0,I⟩:Addr).add k=⟨g,k,I⟩:=by unfold Addr.add;split<;>simp_all
  rw[e]at this
  show V.cell? ⟨g,0+k*Dat.sz Int+0,I⟩=_
  rw[show 0+k*Dat.sz Int+0=k from by show 0+k*1+0=k;omega]
  exact this
end
theorem A8p (W:J) (v:AJ) (t:TypeId):(W.alloc (AK #[v] t)).cell? ⟨W.1.size,0,I⟩=B v:=(B_ (CF W _) (j:=0) rfl).1
theorem A4y {D:J} {g:Nat} {v:AJ} (h:D.cell? ⟨g,0,I⟩=B v):∀ j u,[v][j]?=B u->D.cell? ((⟨g,0,I⟩:Addr).add j)=B u:=by
 intro j u b;match j,b with
 |0,b=>simp at b;subst b;simpa[Addr.add]using h
theorem A6q (n:Int):∀ u∈[N QO n],u.oneCell'=AD:=λu hu=>by simp at hu;subst hu;rfl
def FanB (Wx:J) (gr gf:Nat) (cl:Bool) (base n1:Nat) (vT vS:AJ) (gT cT gS cS:Nat) (tr sp:List Int) (V:J):Prop :=
 FanK Wx gr gf cl vT vS V/\RowI base V gT cT tr/\RowI base V gS cS sp/\gT≠gS/\n1<=V.1.size/\gf<base
def FanA (Wx:J) (gr gf:Nat) (cl:Bool) (base n1:Nat) (vT vS:AJ) (gT cT:Nat) (tr:List Int) (V:J):Prop :=
 FanK Wx gr gf cl vT vS V/\RowI base V gT cT tr/\n1<=V.1.size/\gf<base/\base<=n1
def FanN (Wx:J) (gr gf:Nat) (cl:Bool) (base n1:Nat) (vT vS:AJ) (V:J):Prop :=
 FanK Wx gr gf cl vT vS V/\n1<=V.1.size/\gf<base/\base<=n1
section
variable {Wx V U:J} {gr gf base n1 gT cT gS cS:Nat} {cl:Bool} {vT vS:AJ} {tr sp:List Int} {k:Int} {g' c':Nat}
theorem FanB.below (h:FanB Wx gr gf cl base n1 vT vS gT cT gS cS tr sp V) (hb:Bw V U):FanB Wx gr gf cl base n1 vT vS gT cT gS cS tr sp U :=
 ⟨h.1.below hb,h.2.1.below hb,h.2.2.1.below hb,h.2.2.2.1,BM h.2.2.2.2.1 hb.size,h.2.2.2.2.2⟩
theorem FanB.alloc (h:FanB Wx gr gf cl base n1 vT vS gT cT gS cS tr sp V) (o:Obj):FanB Wx gr gf cl base n1 vT vS gT cT gS cS tr sp (V.alloc o):=h.below (AV o)
theorem FanB.drew (h:FanB Wx gr gf cl base n1 vT vS gT cT gS cS tr sp V):FanB Wx gr gf cl base n1 vT vS gT cT gS cS tr sp V.drew:=h.below (LK (CG _ _))
theorem FanA.below (h:FanA Wx gr gf cl base n1 vT vS gT cT tr V) (hb:Bw V U):FanA Wx gr gf cl base n1 vT vS gT cT tr U :=
 ⟨h.1.below hb,h.2.1.below hb,BM h.2.2.1 hb.size,h.2.2.2⟩
theorem FanA.alloc (h:FanA Wx gr gf cl base n1 vT vS gT cT tr V) (o:Obj):FanA Wx gr gf cl base n1 vT vS gT cT tr (V.alloc o):=h.below (AV o)
theorem FanN.below (h:FanN Wx gr gf cl base n1 vT vS V) (hb:Bw V U):FanN Wx gr gf cl base n1 vT vS U:=⟨h.1.below hb,BM h.2.1 hb.size,h.2.2⟩
theorem FanN.alloc (h:FanN Wx gr gf cl base n1 vT vS V) (o:Obj):FanN Wx gr gf cl base n1 vT vS (V.alloc o):=h.below (AV o)
theorem FanN.drew (h:FanN Wx gr gf cl base n1 vT vS V):FanN Wx gr gf cl base n1 vT vS V.drew:=h.below (LK (CG _ _))
theorem FanB.pushT (h:FanB Wx gr gf cl base n1 vT vS gT cT gS cS tr sp V) (b:V.grownBy U (B gT)) (W:g'=gT\/g'=V.1.size) (T:U.ownsRow base 3 1 (S (B ⟨g',0,I⟩) (tr.length+1) c') (tr.length+1) (tr.map (N QO)++[N QO k])) :
  FanB Wx gr gf cl base n1 vT vS g' c' gS cS (tr++[k]) sp U:=by
 obtain⟨D,E,u,G,H,O⟩:=h;exact⟨D.grown b (by have:=E.lt;omega),RowI.push T,u.far b G,by have:=u.lt;omega,BM H b.size,O⟩
theorem FanB.pushS (h:FanB Wx gr gf cl base n1 vT vS gT cT gS cS tr sp V) (b:V.grownBy U (B gS)) (W:g'=gS\/g'=V.1.size) (T:U.ownsRow base 3 1 (S (B ⟨g',0,I⟩) (sp.length+1) c') (sp.length+1) (sp.map (N QO)++[N QO k])) :
  FanB Wx gr gf cl base n1 vT vS gT cT g' c' tr (sp++[k]) U:=by
 obtain⟨D,u,E,G,H,O⟩:=h;exact⟨D.grown b (by have:=E.lt;omega),u.far b (Ne.symm G),RowI.push T,by have:=u.lt;omega,BM H b.size,O⟩
theorem FanN.pushT (h:FanN Wx gr gf cl base n1 vT vS V) (b:Bw V U) (H:U.ownsRow V.1.size 3 1 (S (B ⟨g',0,I⟩) 1 c') 1 [N QO k]):FanA Wx gr gf cl base n1 vT vS g' c' [k] U:=by
 obtain⟨u,D,E,G⟩:=h;exact⟨u.below b,RowI.one H oS,BM D b.size,E,G⟩
theorem FanA.pushS (h:FanA Wx gr gf cl base n1 vT vS gT cT tr V) (b:Bw V U) (D:U.ownsRow V.1.size 3 1 (S (B ⟨g',0,I⟩) 1 c') 1 [N QO k]):FanB Wx gr gf cl base n1 vT vS gT cT g' c' tr [k] U:=by
 obtain⟨E,u,G,H,O⟩:=h;have T:V.1.size<=g':=(World.ownsRow.lt D _ rfl).1;exact⟨E.below b,u.below b,RowI.one D oS,by have:=u.lt;omega,BM G b.size,H⟩
theorem FanB.sets (h:FanB Wx gr gf cl base n1 vT vS gT cT gS cS tr sp V) (v D:AJ):FanB Wx gr gf cl base n1 v D gT cT gS cS tr sp ((V.setCell ⟨gf,0,I⟩ v).setCell ⟨gf,1,I⟩ D):=by
 obtain⟨E,b,u,G,H,O⟩:=h;exact⟨(E.set0 v).set1 D,(b.set (by have:=b.lt;omega)).set (by have:=b.lt;omega),(u.set (by have:=u.lt;omega)).set (by have:=u.lt;omega),G,by simpa[World.setCell]using H,O⟩
theorem D0h {b:Nat} {v:AJ} (hg:V.grownBy U (B gT)) (hne:b≠gT) (hc:V.cell? ⟨b,0,I⟩=B v):U.cell? ⟨b,0,I⟩=B v :=
 (hg.cell_far ⟨b,0,I⟩ (World.block_lt_of_cell? V _ hc) (by intro e;injection e with e;exact hne e)).trans hc
theorem C9o {b:Nat} {v:AJ} (hb:Bw V U) (hc:V.cell? ⟨b,0,I⟩=B v):U.cell? ⟨b,0,I⟩=B v :=
 (hb.cell (p:=⟨b,0,I⟩) (World.block_lt_of_cell? V _ hc)).trans hc
end
theorem RowI.own1 {xs:List Int} {V:J} {base g c:Nat} {k:Int} (h:RowI base V g c (xs++[k])):V.ownsRow base 3 1 (S (B ⟨g,0,I⟩) (xs.length+1) c) (xs.length+1) ((xs++[k]).map (N QO)):=by
 unfold RowI at h;rwa [show(xs++[k]).length=xs.length+1 by simp]at h
section
variable {w0 Wx V U:J} {gr gf base n1 n2 gT cT gS cS:Nat} {cl:Bool} {vT vS:AJ} {tr sp:List Int}
theorem FanB.weak (h:FanB Wx gr gf cl base n1 vT vS gT cT gS cS tr sp V) (hn:n2<=n1):FanB Wx gr gf cl base n2 vT vS gT cT gS cS tr sp V:=⟨h.1,h.2.1,h.2.2.1,h.2.2.2.1,BM hn h.2.2.2.2.1,h.2.2.2.2.2⟩
theorem FanB.set1 (h:FanB Wx gr gf cl base n1 vT vS gT cT gS cS tr sp V) (b:AJ):FanB Wx gr gf cl base n1 vT b gT cT gS cS tr sp (V.setCell ⟨gf,1,I⟩ b):=by
 obtain⟨E,u,D,G,H,O⟩:=h;exact⟨E.set1 b,u.set (by have:=u.lt;omega),D.set (by have:=D.lt;omega),G,by simpa[World.setCell]using H,O⟩
theorem D9y (h:FanB Wx gr gf cl base n1 vT vS gT cT gS cS tr sp V) (u:Bw w0 V) (D:w0.1.size<=gr) (Y:0<tr.length) (X:0<sp.length) (aa:∀ y∈tr,I64 y) (Z:∀ y∈sp,I64 y) (a b c:AJ) :
  A0c w0 (⟨tr,sp,cl⟩:TFan) (.returned (AM #[S (B ⟨gT,0,I⟩) tr.length cT,S (B ⟨gS,0,I⟩) sp.length cS,AC cl])) (((V.setCell ⟨gr,0,I⟩ a).setCell ⟨gr,1,I⟩ b).setCell ⟨gr,2,I⟩ c):=by
 obtain⟨T,E,G,ab,ac,ad⟩:=h;have q:=T.2.2.2;have af:=E.lt;have ae:=G.lt;have H:=(((E.set (b:=gr) (j:=0) (v:=a) oS).set (b:=gr) (j:=1) (v:=b) oS).set (b:=gr) (j:=2) (v:=c) oS).sl Y aa;have O:=(((G.set (b:=gr) (j:=0) (v:=a) oS).set (b:=gr) (j:=1) (v:=b) oS).set (b:=gr) (j:=2) (v:=c) oS).sl X Z;refine⟨_,[gT]++[gS],rfl,TFan.mkAgg (x:=⟨tr,sp,cl⟩) H.1 O.1,Own.append ⟨sI,λb u=>?_⟩ ⟨sI,λb u=>?_⟩ (λb u W=>?_),((u.setCell (p:=⟨gr,0,I⟩) D _).setCell (p:=⟨gr,1,I⟩) D _).setCell (p:=⟨gr,2,I⟩) D _⟩;·simp at u;subst u;exact⟨oS,H.2⟩
 ·simp at u;subst u;exact⟨oS,O.2⟩
 simp at u W;omega
end
theorem D5h (val:AJ) (x:TAround) (b:List Nat) (T:Int) (cl:Bool) (ap ao:List Int) (w:J) (bR:Agg w val x b) (ci:∀ k∈x.list,D5b x.m.triangles x.edges x.v k=AD) (co:x.edges.length<=144) (cj:x.list.length<=48) (cm:T∈x.list)
  (aL:B5l x.m.triangles x.edges x.v x.list T 49 T [] []=B (ap,ao)) :
  Calls prog 189 #[val,N QO T,AC cl] w (A0c w (⟨ap,ao,cl⟩:TFan)):=by
 have b5:=A_ bR;have bv:=A_ ci;have bB:=A_ co;have cG:=A_ cj;have aG:=A_ (show T∈x.list/\B5l x.m.triangles x.edges x.v x.list T 49 T [] []=B (ap,ao)/\([]:List Int).length+49=49/\([]:List Int).length=([]:List Int).length/\(∀ y∈([]:List Int),I64 y)/\(∀ y∈([]:List Int),I64 y)from⟨cm,aL,rfl,rfl,λy D=>by simp at D,λy D=>by simp at D⟩);obtain⟨a1,bj,a9,db,a2,n1,ba,s1,a3,n2,bc,dc,a4,bl,bd,dd,rfl,rfl,cR,cU,cV,cW,cq⟩:=TAround.agg bR;have cI:=A_ (Sl.i64 cq);obtain⟨ah,ad,ae,af,ag⟩:=info_parts A6b;clear cR cU cV cq cW bR ci co cj cm aL;go_enter func189,ntmps189;go_upto_region 2 with fail;obtain⟨Wx,aK⟩:∃ y,y=w.alloc (AK #[S a1 bj a9,S a2 n1 ba,S a3 n2 bc,N QO x.v,S a4 bl bd] 235):=⟨_,rfl⟩
 have a5:=A_ (by rw[aK];exact AV _:Bw w Wx);have b9:=A_ (by rw[aK];exact CF w _:Wx.1[w.1.size]?=B (AK #[S a1 bj a9,S a2 n1 ba,S a3 n2 bc,N QO x.v,S a4 bl bd] 235));have a8:Wx.1.size=w.1.size+1:=by rw[aK];simp
 rw[<-aK];clear aK;obtain⟨bL,aB⟩:∃ y,y=(Wx.alloc (AK #[S I 0 0,S I 0 0,AC AF] 187)).alloc (AK #[S I 0 0,S I 0 0,AC cl] 187):=⟨_,rfl⟩
 have bT:=A_ (show FanN Wx (w.1.size+1) (w.1.size+1+1) cl (w.1.size+3) (w.1.size+3) (S I 0 0) (S I 0 0) bL by
  have bh:bL.1[w.1.size+1+1]?=B (AK #[S I 0 0,S I 0 0,AC cl] 187):=by rw[aB];have:=CF (Wx.alloc (AK #[S I 0 0,S I 0 0,AC AF] 187)) (AK #[S I 0 0,S I 0 0,AC cl] 187);rwa [EW,a8]at this
  have bi:bL.1[w.1.size+1]?=B (AK #[S I 0 0,S I 0 0,AC AF] 187):=by rw[aB];have:=CF Wx (AK #[S I 0 0,S I 0 0,AC AF] 187);rw[a8]at this;exact K_ this (AV _)
  exact⟨⟨bh,bi,by rw[aB];exact AI (AV _) (AV _),oS,oS⟩,by rw[aB];simp[a8],oS,BH _⟩)
 rw[<-aB];clear aB a8;go_wp2_with fail
 go_loopg [1] 49 (λg s1 wr=>∃ (k:Int) (tr sp:List Int),s1=N QO k/\Hid (k∈x.list/\B5l x.m.triangles x.edges x.v x.list T g k tr sp=B (ap,ao)/\tr.length+g=49/\sp.length=tr.length/\(∀ y∈tr,I64 y)/\(∀ y∈sp,I64 y)) /\
  Hid ((tr=[]/\sp=[]/\FanN Wx (w.1.size+1) (w.1.size+1+1) cl (w.1.size+3) (w.1.size+3) (S I 0 0) (S I 0 0) wr) \/
   ∃ gT cT gS cS,FanB Wx (w.1.size+1) (w.1.size+1+1) cl (w.1.size+3) (w.1.size+3) (S (B ⟨gT,0,I⟩) tr.length cT) (S (B ⟨gS,0,I⟩) sp.length cS) gT cT gS cS tr sp wr))
 case atStart=>exact⟨T,[],[],rfl,⟨aG.1,aG.2.1,aG.2.2.1,rfl,aG.2.2.2.2⟩,.inl ⟨rfl,rfl,bT⟩⟩
 case round =>
  clear aG bT;obtain⟨k,tr,sp,rfl,b3,bX⟩:=hrel;obtain⟨cn,aL,cf,ck,ch,cg⟩:=b3.o;have bA:=A_ cn;have bu:=A_ aL;have bz:=A_ ck;have cF:=A_ ch;have cE:=A_ cg;have bq:=A_ (by unfold BG;omega:tr.length+1<=BG);have br:=A_ (by omega:(tr.length+1)*8<=140737488355328);have a6:=A_ (by unfold BG;omega:sp.length+1<=BG);have bs:=A_ (by omega:(sp.length+1)*8<=140737488355328);have bt:=A_ cf;have b0:=A_ (show ∃ vT vS,FanK Wx (w.1.size+1) (w.1.size+1+1) cl vT vS wr/\w.1.size+3<=wr.1.size from bX.elim (λD=>⟨_,_,D.2.2.1,D.2.2.2.1⟩) (λ⟨_,_,_,_,D⟩=>⟨_,_,D.1,D.2.2.2.2.1⟩));have bV:=A_ (by obtain⟨_,_,D,_⟩:=b0.o;exact D.2.2.1:Bw Wx wr);have c9:w.1.size+3<=wr.1.size:=by obtain⟨_,_,_,D⟩:=b0.o;exact D
  clear b3 cn aL ck ch cg cf;have cH:=A_ (AI a5 bV);have aE:=A_ (K_ b9 bV);obtain⟨aH,-⟩:=B_ aE (j:=0) rfl;obtain⟨az,-⟩:=B_ aE (j:=1) rfl;obtain⟨aA,-⟩:=B_ aE (j:=2) rfl;obtain⟨aI,-⟩:=B_ aE (j:=3) rfl;obtain⟨aJ,-⟩:=B_ aE (j:=4) rfl;simp at aH az aA aI aJ;go_wp2_with fail;refine(B5f _ x _ k wr (b5.below cH) (bv k bA) bB).mono ?_;obtain⟨u,bO⟩:∃ f,(spT x.m.triangles x.edges x.v k).1=f:=⟨_,rfl⟩
  obtain⟨X,bP⟩:∃ f,(spT x.m.triangles x.edges x.v k).2=f:=⟨_,rfl⟩
  have bY:=A_ bO;have bZ:=A_ bP;rw[bO,bP];clear bO bP;rintro _ h ⟨rfl,bN⟩;have bW:=A_ bN;have c8:=bN.size;clear bN aH az aA aI aJ;go_upto_region 4 with fail;rename (Act->J->Prop)=>b7;rename (∀ (a:Act) (w_1:J),Code.wp _ _ _ a w_1->b7 a w_1)=>cd
  have b8:∀ (vT vS:AJ) (cb cc Y W ac ab:Nat) (a7:J),FanB Wx (w.1.size+1) (w.1.size+1+1) cl (w.1.size+3) h.1.size (S (B ⟨Y,0,I⟩) (tr.length+1) W) (S (B ⟨ac,0,I⟩) (sp.length+1) ab) Y W ac ab (tr++[k]) (sp++[(u:Int)]) a7 ->
    b7 { tmps:=#[AM #[S a1 bj a9,S a2 n1 ba,S a3 n2 bc,N QO x.v,S a4 bl bd],N QO k,AC cl,.pointer (B ⟨w.1.size,0,I⟩),undef,undef,.pointer (B ⟨w.1.size+1,0,I⟩),.pointer (B ⟨w.1.size+1+1,0,I⟩),N QO T,N QO u,N QO X,AC cl,AM #[S I 0 0,S I 0 0,AC cl],N QO T,.tuple #[N QO u,N QO X],AM #[S a1 bj a9,S a2 n1 ba,S a3 n2 bc,N QO x.v,S a4 bl bd],N QO k,.tuple #[N QO u,N QO X],N QO u,N QO X,.pointer (B ⟨w.1.size+1+1,0,I⟩),vT,N QO k,S (B ⟨cb,0,I⟩) 1 1,S (B ⟨Y,0,I⟩) (tr.length+1) W,.pointer (B ⟨w.1.size+1+1,1,I⟩),vS,N QO u,S (B ⟨cc,0,I⟩) 1 1,S (B ⟨ac,0,I⟩) (sp.length+1) ab,.pointer (B ⟨w.1.size+1+1,0,I⟩),.pointer (B ⟨w.1.size+1+1,1,I⟩),u32,u33,u34,u35,u36,u37,u38,u39,u40,u41,u42,u43,u44,u45,u46,u47],defers:=[] } a7:=by
   intro vT vS cb cc Y W ac ab a7 am
   refine cd _ _ ?_
   have bU:=A_ am
   have bp:=A_ am.1.2.2.1
   have b4:=A_ (AI a5 bp)
   have ay:=A_ (K_ b9 bp)
   clear am
   obtain⟨aH,-⟩:=B_ ay (j:=0) rfl
   obtain⟨az,-⟩:=B_ ay (j:=1) rfl
   obtain⟨aA,-⟩:=B_ ay (j:=2) rfl
   obtain⟨aI,-⟩:=B_ ay (j:=3) rfl
   obtain⟨aJ,-⟩:=B_ ay (j:=4) rfl
   simp at aH az aA aI aJ
   go_wp2_with fail
   refine(E1f _ x _ X a7 (b5.below b4) bv bB cG).mono ?_
   obtain⟨ak,bQ⟩:∃ n,A8e x.m.triangles x.edges x.v x.list X=n:=⟨_,rfl⟩
   have bD:=A_ bQ
   rw[bQ]
   clear bQ
   rintro _ c6 ⟨rfl,ce⟩
   have ai:=A_ (bU.below ce)
   clear ce aH az aA aI aJ bU bp b4 ay
   obtain⟨g,rfl⟩:∃ g,gk=g+1:=by
    cases gk with
    |zero=>have:=bu.o;simp[B5l]at this
    |succ g=>exact⟨g,rfl⟩
   have ax:=A_ (show(if ak<0 then B (tr++[k],(sp++[(u:Int)])++[(X:Int)])else if ak=T then B (tr++[k],sp++[(u:Int)])else B5l x.m.triangles x.edges x.v x.list T g ak (tr++[k]) (sp++[(u:Int)]))=B (ap,ao) by have:=bu.o;rw[B5l,bY.o,bZ.o,bD.o]at this;exact this)
   obtain⟨bS,q1,q2,c0⟩:=ai.1.cells
   obtain⟨bm,-⟩:=B_ ai.1.1 (j:=2) rfl
   obtain⟨r0,cw⟩:=B_ ai.1.2.1 (j:=0) rfl
   obtain⟨bn,cx⟩:=B_ ai.1.2.1 (j:=1) rfl
   obtain⟨bo,cy⟩:=B_ ai.1.2.1 (j:=2) rfl
   simp at bm r0 bn bo
   have ct:=ai.1.lt
   clear bu
   have b6:=A_ (show I64 (u:Int)/\I64 (X:Int) by
    obtain⟨_,t,_,_,_,_,bh,bi,cs⟩:=B8p (bv k bA);have az:A3z x.edges (A2i x.v (A3h t x.v).1)=u:=by rw[<-bY.o,cs]
    have aA:A3z x.edges (A2i x.v (A3h t x.v).2)=X:=by rw[<-bZ.o,cs]
    unfold A6o at bh bi;simp only[CK,decide_eq_true_eq]at bh bi;have:=bB.o;constructor<;>constructor<;>omega)
   have bF:=A_ (show ∀ y∈tr++[k],I64 y from λy aN=>(CO.1 aN).elim (cF.o y) (λD=>by simp at D;subst D;exact cI _ bA))
   have bE:=A_ (show ∀ y∈sp++[(u:Int)],I64 y from λy aN=>(CO.1 aN).elim (cE.o y) (λD=>by simp at D;subst D;exact b6.1))
   have cz:=A_ (AI a5 ai.1.2.2.1)
   have cv:(tr++[k]).length=tr.length+1:=sI
   have cu:(sp++[(u:Int)]).length=sp.length+1:=sI
   have ar:=A_ cv;have aF:=A_ cu
   clear cv cu
   rcases Int.lt_or_le ak 0 with cP|cQ
   ·have aq:=A_ (by have:=ax.o;rw[if_pos cP]at this;injection this with this;exact⟨congrArg Prod.fst this,congrArg Prod.snd this⟩:tr++[k]=ap/\(sp++[(u:Int)])++[(X:Int)]=ao)
    have cB:=A_ (by have:=a6.o;have:=bz.o;have:=bt.o;unfold BG;omega:sp.length+1+1<=BG)
    have cA:=A_ (by have:=bz.o;have:=bt.o;omega:(sp.length+1+1)*8<=140737488355328)
    clear ax
    go_upto_region 8 with(at_builtin;refine A1m rfl _ _ 31 rfl (w.1.size+3) 3 ah (N QO 0) 1 8 underlying31 ad ae af ag rfl dE ac (sp.length+1) ab ((sp++[(u:Int)]).map (N QO)) gD (RowI.own1 (ai.2.2.1.below (AV _))) ⟨c6.1.size,0,I⟩ 1 1 [N QO X] gD rfl (A4y (A8p _ _ _)) (A6q _) cB cA (by have:=ai.2.2.2.2.1;simp;omega) ?_;intro bg be c7 aa Z an;have bf:=FanB.pushS (ai.o.alloc _) Z an (by rw[aF.o];exact aa);obtain⟨c1,c2,c4,c5⟩:=bf.1.cells;have cX:=bf.1.lt)
    obtain⟨cK,bM⟩:∃ y,y=c7.setCell ⟨w.1.size+1+1,1,I⟩ (S (B ⟨bg,0,I⟩) (sp.length+1+1) be):=⟨_,rfl⟩
    have al:=A_ (by rw[bM];exact bf.set1 (S (B ⟨bg,0,I⟩) (sp.length+1+1) be):FanB Wx (w.1.size+1) (w.1.size+1+1) cl (w.1.size+3) h.1.size _ _ Y W bg be (tr++[k]) ((sp++[(u:Int)])++[(X:Int)]) cK)
    rw[<-bM]
    clear bM bf c1 c2 c4 c5 cX bS q1 q2 c0 bm r0 cw bn cx bo cy ct aa Z an
    obtain⟨bS,-⟩:=B_ al.1.1 (j:=0) rfl
    obtain⟨q1,-⟩:=B_ al.1.1 (j:=1) rfl
    obtain⟨bm,-⟩:=B_ al.1.1 (j:=2) rfl
    obtain⟨r0,cw⟩:=B_ al.1.2.1 (j:=0) rfl
    obtain⟨bn,cx⟩:=B_ al.1.2.1 (j:=1) rfl
    obtain⟨bo,cy⟩:=B_ al.1.2.1 (j:=2) rfl
    simp at bS q1 bm r0 bn bo
    have ct:=al.1.lt
    have aD:=A_ (D9y (w0:=w) al.o (AI a5.o al.o.1.2.2.1) oS (by rw[ar.o];omega) sI bF.o (λy aN=>(CO.1 aN).elim (bE.o y) (λD=>by simp at D;subst D;exact b6.2)))
    rw[ar.o,show((sp++[(u:Int)])++[(X:Int)]).length=sp.length+1+1 by simp,aq.o.1,aq.o.2]at aD
    go_wp2
    refine BI (v:=AM #[S (B ⟨Y,0,I⟩) (tr.length+1) W,S (B ⟨bg,0,I⟩) (sp.length+1+1) be,AC cl]) (by simp[results,results189,go_sem, *]) rfl ?_
    exact aD _ _ _
   have cp:¬ (ak<0):=oS
   by_cases aC:ak=T
   ·have aq:=A_ (by have:=ax.o;rw[if_neg cp,if_pos aC]at this;injection this with this;exact⟨congrArg Prod.fst this,congrArg Prod.snd this⟩:tr++[k]=ap/\sp++[(u:Int)]=ao)
    have cO:(ak==T)=AD:=by simp[aC]
    have aD:=A_ (D9y (w0:=w) ai.o cz.o oS (by rw[ar.o];omega) (by rw[aF.o];omega) bF.o bE.o)
    rw[ar.o,aF.o,aq.o.1,aq.o.2]at aD
    clear aC ax
    go_wp2
    refine BI (v:=AM #[S (B ⟨Y,0,I⟩) (tr.length+1) W,S (B ⟨ac,0,I⟩) (sp.length+1) ab,AC cl]) (by simp[results,results189,go_sem, *]) rfl ?_
    exact aD _ _ _
   have aq:=A_ (by have:=ax.o;rw[if_neg cp,if_neg aC]at this;exact this:B5l x.m.triangles x.edges x.v x.list T g ak (tr++[k]) (sp++[(u:Int)])=B (ap,ao))
   have cO:(ak==T)=AF:=by simp[aC]
   have cJ:=A_ (by have:=D0a (ts:=x.m.triangles) (es:=x.edges) (v:=x.v) (e:=X) (l:=x.list) (by rw[bD.o];exact cQ);rwa [bD.o]at this:ak∈x.list)
   have cD:=A_ (ai.o.weak (n2:=w.1.size+3) oS)
   clear aC ax
   go_wp2_with fail
   go_roundg g
   case measure=>omega
   case rel=>exact⟨ak,tr++[k],sp++[(u:Int)],rfl,⟨cJ.o,aq.o,by rw[ar.o];have:=bt.o;omega,by rw[ar.o,aF.o,bz.o],bF.o,bE.o⟩,.inr ⟨Y,W,ac,ab,by rw[ar.o,aF.o];exact cD⟩⟩
  have ca:=A_ b8;clear b8 cd;rcases bX with⟨rfl,rfl,am⟩|⟨gT,cT,gS,cS,am⟩
  ·have O:=A_ (show FanN Wx (w.1.size+1) (w.1.size+1+1) cl (w.1.size+3) h.1.size (S I 0 0) (S I 0 0) h from⟨(am.below bW.o).1,BH _,oS,oS⟩);obtain⟨cL,b1,cM,cN⟩:=O.1.cells;have cY:=O.1.lt;clear am;have bG:=A_ (show(h.alloc (AK #[N QO k] 3)).drew.cell? ⟨h.1.size,0,I⟩=B (N QO k)from A8p h _ _);have bH:=A_ (show ∀ o,((h.alloc (AK #[N QO k] 3)).alloc o).drew.cell? ⟨h.1.size,0,I⟩=B (N QO k)from λo=>oD);have bI:=A_ (show ∀ o,((h.alloc o).alloc (AK #[N QO k] 3)).drew.cell? ⟨h.1.size+1,0,I⟩=B (N QO k)from λo=>by have:=A8p (h.alloc o) (N QO k) 3;rw[EW]at this;exact this);have bJ:=A_ (show ∀ o,((h.alloc o).alloc (AK #[N QO u] 3)).drew.cell? ⟨h.1.size+1,0,I⟩=B (N QO u)from λo=>by have:=A8p (h.alloc o) (N QO u) 3;rw[EW]at this;exact this);have bK:=A_ (show ∀ o,((h.alloc (AK #[N QO u] 3)).alloc o).drew.cell? ⟨h.1.size,0,I⟩=B (N QO u)from λo=>oD);have au:∀ {n:Nat},h.1.size<=n->w.1.size+3<=n:=λD=>oS;have cZ:w.1.size+1<h.1.size:=oS;go_region_law (first|(refine A9g (by rfl) _ _ _ (by rfl) 3 ah (N QO 0) 1 8 underlying31 ad ae af ag rfl dE ?_ ⟨h.1.size,0,I⟩ 1 [N QO k] ?_ ?_ ?_ ?_ ?_ ?_;rfl;rfl;rfl;exact A4y bG;exact A6q _;decide;intro Y W aw aj G;have E:=FanN.pushT ((O.alloc _).drew) G aj;obtain⟨aV,aW,aX,aY⟩:=E.1.cells;have aP:=E.1.lt;have aQ:=G.size)|(refine A9g (by rfl) _ _ _ (by rfl) 3 ah (N QO 0) 1 8 underlying31 ad ae af ag rfl dE ?_ ⟨h.1.size,0,I⟩ 1 [N QO k] ?_ ?_ ?_ ?_ ?_ ?_;rfl;rfl;rfl;exact A4y (bH _);exact A6q _;decide;intro Y W aw aj G;have E:=FanN.pushT (((O.alloc _).alloc _).drew) G aj;obtain⟨aV,aW,aX,aY⟩:=E.1.cells;have aP:=E.1.lt;have aQ:=G.size)|(refine A9g (by rfl) _ _ _ (by rfl) 3 ah (N QO 0) 1 8 underlying31 ad ae af ag rfl dE ?_ ⟨h.1.size+1,0,I⟩ 1 [N QO k] ?_ ?_ ?_ ?_ ?_ ?_;rfl;rfl;rfl;exact A4y (bI _);exact A6q _;decide;intro Y W aw aj G;have E:=FanN.pushT (((O.alloc _).alloc _).drew) G aj;obtain⟨aV,aW,aX,aY⟩:=E.1.cells;have aP:=E.1.lt;have aQ:=G.size)|(refine A9g (by rfl) _ _ _ (by rfl) 3 ah (N QO 0) 1 8 underlying31 ad ae af ag rfl dE ?_ ⟨aw.1.size,0,I⟩ 1 [N QO u] ?_ ?_ ?_ ?_ ?_ ?_;rfl;rfl;rfl;exact A4y (A8p _ _ _);exact A6q _;decide;intro ac ab aZ aa Z;have H:=FanA.pushS (E.alloc _) Z aa;obtain⟨aR,aS,aT,aU⟩:=H.1.cells;have aO:=H.1.lt)|(refine A9g (by rfl) _ _ _ (by rfl) 3 ah (N QO 0) 1 8 underlying31 ad ae af ag rfl dE ?_ ⟨h.1.size+1,0,I⟩ 1 [N QO u] ?_ ?_ ?_ ?_ ?_ ?_;rfl;rfl;rfl;exact A4y (C9o G (bJ _));exact A6q _;decide;intro ac ab aZ aa Z;have H:=FanA.pushS (E) Z aa;obtain⟨aR,aS,aT,aU⟩:=H.1.cells;have aO:=H.1.lt)|(refine A9g (by rfl) _ _ _ (by rfl) 3 ah (N QO 0) 1 8 underlying31 ad ae af ag rfl dE ?_ ⟨h.1.size,0,I⟩ 1 [N QO u] ?_ ?_ ?_ ?_ ?_ ?_;rfl;rfl;rfl;exact A4y (C9o G (bK _));exact A6q _;decide;intro ac ab aZ aa Z;have H:=FanA.pushS (E) Z aa;obtain⟨aR,aS,aT,aU⟩:=H.1.cells;have aO:=H.1.lt));all_goals exact ca.o _ _ _ _ _ _ _ _ _ (H.sets _ _)
  have O:=A_ (show FanB Wx (w.1.size+1) (w.1.size+1+1) cl (w.1.size+3) h.1.size (S (B ⟨gT,0,I⟩) tr.length cT) (S (B ⟨gS,0,I⟩) sp.length cS) gT cT gS cS tr sp h from(λD=>⟨D.1,D.2.1,D.2.2.1,D.2.2.2.1,BH _,D.2.2.2.2.2⟩) (am.below bW));obtain⟨cL,b1,cM,cN⟩:=O.1.cells;have cY:=O.1.lt;have da:=O.2.1.lt;clear am;have bG:=A_ (show(h.alloc (AK #[N QO k] 3)).drew.cell? ⟨h.1.size,0,I⟩=B (N QO k)from A8p h _ _);have bH:=A_ (show ∀ o,((h.alloc (AK #[N QO k] 3)).alloc o).drew.cell? ⟨h.1.size,0,I⟩=B (N QO k)from λo=>oD);have bI:=A_ (show ∀ o,((h.alloc o).alloc (AK #[N QO k] 3)).drew.cell? ⟨h.1.size+1,0,I⟩=B (N QO k)from λo=>by have:=A8p (h.alloc o) (N QO k) 3;rw[EW]at this;exact this);have bJ:=A_ (show ∀ o,((h.alloc o).alloc (AK #[N QO u] 3)).drew.cell? ⟨h.1.size+1,0,I⟩=B (N QO u)from λo=>by have:=A8p (h.alloc o) (N QO u) 3;rw[EW]at this;exact this);have bK:=A_ (show ∀ o,((h.alloc (AK #[N QO u] 3)).alloc o).drew.cell? ⟨h.1.size,0,I⟩=B (N QO u)from λo=>oD);have au:∀ {n:Nat},h.1.size<=n->w.1.size+3<=n:=λD=>oS;have cZ:w.1.size+1<h.1.size:=oS;go_region_law (first|(refine B0y (by rfl) _ _ _ (by rfl) (w.1.size+3) 3 ah (N QO 0) 1 8 underlying31 ad ae af ag rfl dE gT tr.length cT (tr.map (.int QO)) ?_ ?_ ⟨h.1.size,0,I⟩ 1 1 [N QO k] ?_ ?_ ?_ ?_ ?_ ?_ ?_ ?_;rfl;exact((O.alloc _).drew).2.1;rfl;rfl;exact A4y bG;exact A6q _;exact bq;exact br;exact au ((O.alloc _).drew).2.2.2.2.1;intro Y W aw aj G aM;have E:=FanB.pushT ((O.alloc _).drew) G aM aj;obtain⟨aV,aW,aX,aY⟩:=E.1.cells;have aP:=E.1.lt;have aQ:=G.size)|(refine B0y (by rfl) _ _ _ (by rfl) (w.1.size+3) 3 ah (N QO 0) 1 8 underlying31 ad ae af ag rfl dE gT tr.length cT (tr.map (.int QO)) ?_ ?_ ⟨h.1.size,0,I⟩ 1 1 [N QO k] ?_ ?_ ?_ ?_ ?_ ?_ ?_ ?_;rfl;exact(((O.alloc _).alloc _).drew).2.1;rfl;rfl;exact A4y (bH _);exact A6q _;exact bq;exact br;exact au (((O.alloc _).alloc _).drew).2.2.2.2.1;intro Y W aw aj G aM;have E:=FanB.pushT (((O.alloc _).alloc _).drew) G aM aj;obtain⟨aV,aW,aX,aY⟩:=E.1.cells;have aP:=E.1.lt;have aQ:=G.size)|(refine B0y (by rfl) _ _ _ (by rfl) (w.1.size+3) 3 ah (N QO 0) 1 8 underlying31 ad ae af ag rfl dE gT tr.length cT (tr.map (.int QO)) ?_ ?_ ⟨h.1.size+1,0,I⟩ 1 1 [N QO k] ?_ ?_ ?_ ?_ ?_ ?_ ?_ ?_;rfl;exact(((O.alloc _).alloc _).drew).2.1;rfl;rfl;exact A4y (bI _);exact A6q _;exact bq;exact br;exact au (((O.alloc _).alloc _).drew).2.2.2.2.1;intro Y W aw aj G aM;have E:=FanB.pushT (((O.alloc _).alloc _).drew) G aM aj;obtain⟨aV,aW,aX,aY⟩:=E.1.cells;have aP:=E.1.lt;have aQ:=G.size)|(refine B0y (by rfl) _ _ _ (by rfl) (w.1.size+3) 3 ah (N QO 0) 1 8 underlying31 ad ae af ag rfl dE gS sp.length cS (sp.map (.int QO)) ?_ ?_ ⟨aw.1.size,0,I⟩ 1 1 [N QO u] ?_ ?_ ?_ ?_ ?_ ?_ ?_ ?_;rfl;exact(E.alloc _).2.2.1;rfl;rfl;exact A4y (A8p _ _ _);exact A6q _;exact a6;exact bs;exact au (E.alloc _).2.2.2.2.1;intro ac ab aZ aa Z an;have H:=FanB.pushS (E.alloc _) Z an aa;obtain⟨aR,aS,aT,aU⟩:=H.1.cells;have aO:=H.1.lt)|(refine B0y (by rfl) _ _ _ (by rfl) (w.1.size+3) 3 ah (N QO 0) 1 8 underlying31 ad ae af ag rfl dE gS sp.length cS (sp.map (.int QO)) ?_ ?_ ⟨h.1.size+1,0,I⟩ 1 1 [N QO u] ?_ ?_ ?_ ?_ ?_ ?_ ?_ ?_;rfl;exact(E).2.2.1;rfl;rfl;exact A4y (D0h G oS (bJ.o _));exact A6q _;exact a6;exact bs;exact au (E).2.2.2.2.1;intro ac ab aZ aa Z an;have H:=FanB.pushS (E) Z an aa;obtain⟨aR,aS,aT,aU⟩:=H.1.cells;have aO:=H.1.lt)|(refine B0y (by rfl) _ _ _ (by rfl) (w.1.size+3) 3 ah (N QO 0) 1 8 underlying31 ad ae af ag rfl dE gS sp.length cS (sp.map (.int QO)) ?_ ?_ ⟨h.1.size,0,I⟩ 1 1 [N QO u] ?_ ?_ ?_ ?_ ?_ ?_ ?_ ?_;rfl;exact(E).2.2.1;rfl;rfl;exact A4y (D0h G oS (bK.o _));exact A6q _;exact a6;exact bs;exact au (E).2.2.2.2.1;intro ac ab aZ aa Z an;have H:=FanB.pushS (E) Z an aa;obtain⟨aR,aS,aT,aU⟩:=H.1.cells;have aO:=H.1.lt));all_goals exact ca.o _ _ _ _ _ _ _ _ _ (H.sets _ _)
theorem C5d (ts:List TTri) (es:List TEdge) (v:Int) (l:List Int):∀ i,(A5s ts es v l i).length<=i
 |0=>BH _
 |i+1=>by unfold A5s;have:=C5d ts es v l i;split<;>(try rw[EF])<;>simp<;>omega
theorem D3r {α:Type} [Dat α] {w:J} {y:α} {u0 u1 u2:AJ} {b:List Nat} (h:Agg w (AM #[u0,u1,u2]) y b):Dat.at_ w [u0,u1,u2] y b:=by
 obtain⟨E,u,D⟩:=h;injection u with u;have:=congrArg Array.toList u;simp only at this;subst this;exact D
theorem E8l:(prog.info? 187).map (λi=>(i.zero,i.size,i.bytes))=B (B (AM #[S I 0 0,S I 0 0,AC AF]),3,56):=kR
theorem E1r (val:AJ) (m:TMesh) (b:List Nat) (v:Int) (w:J) (bF:Agg w val m b) (bN:m.triangles.length<=48) (b4:I64 v) (bV:fanOk m.triangles v=AD) :
  Calls prog 127 #[val,N QO v] w (A0w w (A8x m.triangles v)):=by
 have bK:=A_ bF;have aR:=A_ bN;have cv:=A_ b4;have co:=A_ bV;obtain⟨ax,aN,aC,c9,ay,n1,aD,da,rfl,rfl,bX,bY⟩:=TMesh.agg bF;have cq:=A_ bX;have cs:=A_ bY;obtain⟨b8,bS,b5,b6,b7⟩:=info_parts E8l;clear bX bY bF bN b4 bV;go_enter func127,ntmps127;go_upto_region 1 with fail;refine Code.new λbi bg=>?_;have a1:=A_ bg.b;have bf:=A_ bg.k;clear bg;obtain⟨aa,-⟩:=B_ bf (j:=0) rfl;obtain⟨ab,-⟩:=B_ bf (j:=1) rfl;simp at aa ab;have cN:w.1.size<bi.1.size:=E_ bf;refine X_ sI ?_;dsimp only[List.dropLast,List.getLast,List.length];iterate 2 refine C_ _ ?_
 refine D_ (MP.sl (P_ m.triangles)) ?_ ?_;·intro Y H G u h;obtain⟨bq,bu⟩:=F_ u;simp at h;refine G_ ?_;exact A1c (A7q _ m _ G ((bK.below a1).below u) aR)
 iterate 3 refine C_ _ ?_
 refine D_ (MP.sl (A2d m.triangles v)) ?_ ?_;·intro Y H G u h;obtain⟨bq,bu⟩:=F_ u;simp at h;refine G_ ?_;exact A1c (C1b _ m _ v G ((bK.below a1).below u) aR)
 refine A9h (λaw=>AM #[S ax aN aC,S ay n1 aD,aw 2,N QO v,aw 6]) (by intro y aw O;simp[N_,M_]at O;simp[O]) ?_ ?_;·intro Y H G u h;obtain⟨bq,bu⟩:=F_ u;simp at h;obtain⟨_,⟨⟨cZ,n2,c1,W,_⟩,_⟩,_,⟨⟨c0,c8,c2,X,_⟩,_⟩⟩:=h;refine⟨gD,?_⟩;go_simp;try simp[*,Value.cells]
 refine A1p #[S I 0 0,S I 0 0,S I 0 0,N QO 0,S I 0 0] 235 ?_ ?_;·intro Y H G u h;refine⟨gD,?_⟩;go_simp
 intro Y H wb u h (aH:Hid _);simp at h;have q2:=h.2.2.1;have bG:=h.2.2.2.2.2.2.1;have aX:=h.2.2.2.2.2.2.2.1;have cP:=h.2.2.2.2.2.2.2.2;obtain⟨⟨⟨az,aO,aE,W,bZ⟩,cF⟩,cL⟩:=q2;obtain⟨⟨⟨L,D,aF,aq,b0⟩,bt⟩,cM⟩:=bG;have bl:=aX.1.1;rw[W,aq]at bl;obtain⟨⟨ga,cA,z8,ak⟩,bE⟩:=cP;have br:=aH 2 8 dE dE dE;have bs:=aH 6 8 dE dE dE;rw[z8]at br bs bE;have cH:=A_ (show ga∉H 2 from λO=>br ga O sI);have cI:=A_ (show ga∉H 6 from λO=>bs ga O sI);have aI:bi.1.size<=ga:=(bE ga sI).1;have ct:=A_ bZ;have cu:=A_ b0;have ck:=A_ ak;have ch:=A_ u;obtain⟨aY,u0⟩:=B_ ak (j:=0) rfl;obtain⟨aZ,u1⟩:=B_ ak (j:=1) rfl;obtain⟨cQ,u2⟩:=B_ ak (j:=2) rfl;obtain⟨cR,cV⟩:=B_ ak (j:=3) rfl;obtain⟨cU,cW⟩:=B_ ak (j:=4) rfl;generalize H 2=cx at *;generalize H 6=cz at *;clear h aH br bs bZ cF cL b0 bt cM ak bE aX z8 u aa ab cN W aq;go_upto_region 2 with fail;obtain⟨Z,au⟩:∃ y,y=(((((wb.setCell ⟨ga,0,I⟩ (S ax aN aC)).setCell ⟨ga,1,I⟩ (S ay n1 aD)).setCell ⟨ga,2,I⟩ (S az aO aE)).setCell ⟨ga,3,I⟩ (N QO v)).setCell ⟨ga,4,I⟩ (S L D aF)):=⟨_,rfl⟩
 have be:=A_ (by rw[au];exact A9b (A9b (A9b (A9b (A9b ck)))):Z.1[ga]?=B (AK #[S ax aN aC,S ay n1 aD,S az aO aE,N QO v,S L D aF] 235));have ce:=A_ (by rw[au];exact((((ch.setCell (p:=⟨ga,0,I⟩) aI _).setCell (p:=⟨ga,1,I⟩) aI _).setCell (p:=⟨ga,2,I⟩) aI _).setCell (p:=⟨ga,3,I⟩) aI _).setCell (p:=⟨ga,4,I⟩) aI _:Bw bi Z);have cw:=A_ (show Sl Z az aO aE (P_ m.triangles) cx by rw[au];exact ct.o.keep (λb aj=>A0m ga [S ax aN aC,S ay n1 aD,S az aO aE,N QO v,S L D aF] wb 0 b (λe=>cH.o (e ▸ aj))));have aU:=A_ (show Sl Z L D aF (A2d m.triangles v) cz by rw[au];exact cu.o.keep (λb aj=>A0m ga [S ax aN aC,S ay n1 aD,S az aO aE,N QO v,S L D aF] wb 0 b (λe=>cI.o (e ▸ aj))));rw[<-au];clear au aY aZ cQ cR cU u0 u1 u2 cV cW bl cA;have a2:=A_ (AI a1 ce);have cf:=A_ (TAround.mkAgg (x:=⟨m,P_ m.triangles,v,A2d m.triangles v⟩) (cq.below a2) (cs.below a2) cw cv aU);obtain⟨bU,b3,bR⟩:(A2d m.triangles v).isEmpty=AF/\(∀ k∈A2d m.triangles v,D5b m.triangles (P_ m.triangles) v k=AD)/\(∀ k∈A2d m.triangles v,(B5l m.triangles (P_ m.triangles) v (A2d m.triangles v) k 49 k [] []).isSome=AD):=by have:=co.o;unfold fanOk at this;simp only[CK,Bool.not_eq_true',List.all_eq_true]at this;exact this
 have cn:=A_ bU;have bd:=A_ b3;have bJ:=A_ bR;have ba:=A_ (show(A2d m.triangles v).length<=48 from BM (B7u _ _ _) aR);have a8:=A_ (by unfold P_;have:=A5z m.triangles m.triangles.length;have:=aR.o;omega:(P_ m.triangles).length<=144);have bc:=A_ aU.1;have c7:D<=48:=by rw[<-bc.o];exact ba
 have bM:=A_ (Pend.start (α:=TFan) (e:=187) a2);obtain⟨X,-⟩:=B_ (K_ be (AV (AK #[] 187))) (j:=4) rfl;simp at X;have aM:ga<(Z.alloc (AK #[] 187)).1.size:=E_ (K_ be (AV _));clear bU b3 bR;go_wp2_with fail;go_loopg [6,21] D (λg s6 s21 wr=>∃ (i gB cap:Nat),i+g=D/\s21=N QO i/\s6=S (B ⟨gB,0,I⟩) (A5s m.triangles (P_ m.triangles) v (A2d m.triangles v) i).length cap/\Hid (Pend w Z 187 wr gB (A5s m.triangles (P_ m.triangles) v (A2d m.triangles v) i).length cap (A5s m.triangles (P_ m.triangles) v (A2d m.triangles v) i)));case atStart=>exact⟨0,Z.1.size,0,oS,rfl,rfl,bM.o⟩
 case round =>
  clear bM X aM;obtain⟨i,gB,cap,bA,rfl,rfl,T⟩:=hrel;have bH:=A_ T.bb;have ag:=A_ (K_ be T.bb);have a6:=A_ (cf.below T.bb);obtain⟨aa,-⟩:=B_ ag (j:=0) rfl;obtain⟨ab,-⟩:=B_ ag (j:=1) rfl;obtain⟨W,-⟩:=B_ ag (j:=2) rfl;obtain⟨aG,-⟩:=B_ ag (j:=3) rfl;obtain⟨X,-⟩:=B_ ag (j:=4) rfl;simp at aa ab W aG X;have aM:ga<wr.1.size:=E_ ag;obtain⟨E,aW⟩:∃ E,A5s m.triangles (P_ m.triangles) v (A2d m.triangles v) i=E:=⟨_,rfl⟩
  have bt:E.length<=i:=by rw[<-aW];exact C5d _ _ _ _ i
  have a9:=A_ aW;rw[aW]at T ⊢;clear aW;rcases Nat.lt_or_ge i D with aK|aK
  ·have cG:(i:Int)<D:=oS
   have c5:(0:Int)<=i:=oS;obtain⟨g,rfl⟩:∃ g,gk=g+1:=⟨gk - 1,oS⟩
   have bT:=A_ (by omega:i+1+g=D);have a3:=A_ (by unfold BG;omega:E.length+1<=BG);have a4:=A_ (by omega:(E.length+1)*56<=140737488355328);obtain⟨cy,cO,k,bm,bP,al,cE,bp⟩:=Sl.getInt (aU.below bH) aK;have aQ:=A_ (A0e (d:=(0:Int)) al);have ap:=A_ (CH al);subst bm;clear bA aK al;go_wp2_with fail;refine(D2f _ ⟨m,P_ m.triangles,v,A2d m.triangles v⟩ _ k wr a6 (bd k ap) a8).mono ?_;rintro _ cb ⟨rfl,bo⟩;have aS:=A_ bo;have ao:=A_ (K_ ag bo);clear bo aa ab W aG X aM bp bP;cases ar:B8j m.triangles (P_ m.triangles) v k
   ·have aB:=A_ (by rw[A5s,aQ.o,ar,a9.o];rfl:A5s m.triangles (P_ m.triangles) v (A2d m.triangles v) (i+1)=E)
    have cD:B8j (⟨m,P_ m.triangles,v,A2d m.triangles v⟩:TAround).m.triangles (⟨m,P_ m.triangles,v,A2d m.triangles v⟩:TAround).edges (⟨m,P_ m.triangles,v,A2d m.triangles v⟩:TAround).v k=AF:=ar;clear ar;go_wp2_with fail;go_roundg g;case measure=>omega
    case rel=>exact⟨i+1,gB,cap,bT.o,gN,by rw[aB.o],by rw[aB.o];exact T.below aS⟩
   have cD:B8j (⟨m,P_ m.triangles,v,A2d m.triangles v⟩:TAround).m.triangles (⟨m,P_ m.triangles,v,A2d m.triangles v⟩:TAround).edges (⟨m,P_ m.triangles,v,A2d m.triangles v⟩:TAround).v k=AD:=ar;obtain⟨⟨ad,ac⟩,aJ⟩:=Option.isSome_iff_exists.1 (bJ k ap);have aA:=A_ aJ;have aB:=A_ (by rw[A5s,aQ.o,ar,a9.o,E6a,aA.o];rfl:A5s m.triangles (P_ m.triangles) v (A2d m.triangles v) (i+1)=E++[⟨ad,ac,AF⟩]);have bL:=A_ (by rw[aB.o];simp:(A5s m.triangles (P_ m.triangles) v (A2d m.triangles v) (i+1)).length=E.length+1);clear ar aJ;obtain⟨aa,-⟩:=B_ ao (j:=0) rfl;obtain⟨ab,-⟩:=B_ ao (j:=1) rfl;obtain⟨W,-⟩:=B_ ao (j:=2) rfl;obtain⟨aG,-⟩:=B_ ao (j:=3) rfl;obtain⟨X,-⟩:=B_ ao (j:=4) rfl;simp at aa ab W aG X;have aM:ga<cb.1.size:=E_ ao;go_wp2_with fail;refine(D5h _ ⟨m,P_ m.triangles,v,A2d m.triangles v⟩ _ k AF ad ac cb (a6.below aS) bd a8 ba ap aA).mono ?_;rintro _ cc ⟨db,ca,rfl,bn,bB,bO⟩;obtain⟨ae,an,ah,aY,af,m1,ai,aZ,rfl,am,-,-⟩:=TFan.agg bn;have cg:=A_ (AI (AI aS bO) (AV (AK #[S ae an ah,S af m1 ai,AC AF] 187)));have aP:=A_ (D3r (bn.below (AV (AK #[S ae an ah,S af m1 ai,AC AF] 187))));have bI:=A_ ((bB.below (AV (AK #[S ae an ah,S af m1 ai,AC AF] 187))).free);have aT:=A_ (show ∀ b∈ca,wr.1.size<=b from λb aj=>by have:=(bB.2 b aj).1;have:=aS.size;omega);clear bn bB am bO aa ab W aG X aM;go_wp2_with (at_builtin;refine A1v rfl _ _ 184 rfl 187 b8 (AM #[S I 0 0,S I 0 0,AC AF]) 56 underlying184 bS b5 b6 b7 rfl T cg gD ⟨cc.1.size,0,I⟩ 1 [S ae an ah,S af m1 ai,AC AF] ⟨ad,ac,AF⟩ ca gD (A0a (CF cc _)) aP bI aT a3 a4 ?_;intro g' bj cd aL bz bD);have cp:=A_ (by rw[bL.o,aB.o];exact aL:Pend w Z 187 cd g' (A5s m.triangles (P_ m.triangles) v (A2d m.triangles v) (i+1)).length bj (A5s m.triangles (P_ m.triangles) v (A2d m.triangles v) (i+1)));clear aL bz bD aP bI aT T;go_wp2_with fail;go_roundg g;case measure=>omega
   case rel=>exact⟨i+1,g',bj,bT.o,gN,by rw[bL.o],cp⟩
  obtain rfl:D=i:=oS;have cG:¬ ((D:Int)<D):=oS;have a5:=A_ (by rw[bc.o];exact a9:A5s m.triangles (P_ m.triangles) v (A2d m.triangles v) (A2d m.triangles v).length=E);by_cases am:E=[]
  ·have cJ:0<D:=by
    have:=cn.o;rw[<-bc.o]
    cases O:A2d m.triangles v with
    |nil=>rw[O]at this;cases this
    |cons a r=>simp
   obtain⟨cy,cO,k,bm,bP,al,cE,bp⟩:=Sl.getInt (aU.below bH) cJ
   have aQ:=A_ (A0e (d:=(0:Int)) al)
   have ap:=A_ (CH al)
   obtain⟨⟨ad,ac⟩,aJ⟩:=Option.isSome_iff_exists.1 (bJ k ap)
   have aA:=A_ aJ
   have bh:=A_ (by unfold A8x;rw[a5.o,if_pos am,aQ.o,E6a,aA.o];rfl:A8x m.triangles v=[]++[⟨ad,ac,AD⟩])
   subst bm
   subst am
   have a3:=A_ (by decide:0+1<=BG)
   have a4:=A_ (by decide:(0+1)*56<=140737488355328)
   simp at bp
   clear bA aK al aJ a5 bt
   go_upto_region 10 with fail
   refine W_ 8 kR kR kR kR kR ?_
   simp only[List.take_succ_cons,List.take_zero,List.drop_succ_cons,List.drop_zero]
   iterate 6 refine C_ _ ?_
   refine D_ (MP.agg (⟨ad,ac,AD⟩:TFan)) ?_ ?_
   ·intro Y H G u h;obtain⟨bq,bu⟩:=F_ u;simp at h;refine G_ ?_;exact H_ (D5h _ ⟨m,P_ m.triangles,v,A2d m.triangles v⟩ _ k AD ad ac G (a6.below u) bd a8 ba ap aA)
   refine A1d (λaw=>MP.slbox (aw 6).cells 187) (by intro y aw O;simp[N_,M_]at O;simp[O]) ?_ ?_
   ·intro Y H G u h;simp at h;obtain⟨ae,an,ah,aY,af,m1,ai,aZ,aq,_,_,_⟩:=TFan.agg h.1;refine⟨gD,S (B ⟨G.1.size,0,I⟩) 1 1,G.alloc (AK (Y 6).cells 187),?_,AV _,[G.1.size],⟨G.1.size,rfl,rfl,CF G _⟩,sI⟩;rw[aq];go_simp
   intro Y H wa u h (aH:Hid _)
   simp at h
   have b9:=h.1
   have bG:=h.2.2.2.2.2.2.1
   have aX:=h.2.2.2.2.2.2.2
   obtain⟨⟨aV,bQ⟩,bW⟩:=bG
   obtain⟨ae,an,ah,aY,af,m1,ai,aZ,aq,cX,-,-⟩:=TFan.agg aV
   obtain⟨⟨cB,bl,cY,bv⟩,cK⟩:=aX
   rw[aq]at bv aV
   have aP:=A_ (D3r aV)
   have cj:=A_ bQ;have aT:=A_ (show ∀ b∈H 6,wr.1.size<=b from λb aj=>(bW b aj).1)
   have cm:=A_ bv
   have c4:Y 0=S (B ⟨gB,0,I⟩) 0 cap:=b9.1.1
   have ci:=A_ u
   clear h aH aV bQ bW cX bv cK cY b9
   go_wp2_with (at_builtin;refine A1v rfl _ _ 184 rfl 187 b8 (AM #[S I 0 0,S I 0 0,AC AF]) 56 underlying184 bS b5 b6 b7 rfl T ci gD ⟨cB,0,I⟩ 1 [S ae an ah,S af m1 ai,AC AD] ⟨ad,ac,AD⟩ (H 6) gD (A0a cm) aP cj aT a3 a4 ?_;intro g' bj cd aL bz bD)
   have a7:=A_ aL.done
   clear aL bz bD
   go_wp2
   go_ret
   rw[bh.o]
   exact a7
  ·have c6:((E.length:Int)==0)=AF:=by
    cases E with
    |nil=>exact absurd rfl am
    |cons a r=>simp;omega
   have bh:=A_ (by unfold A8x;rw[a5.o,if_neg am]:A8x m.triangles v=E)
   have a7:=A_ T.done
   clear bA aK am
   go_wp2
   go_ret
   rw[bh.o]
   exact a7
end
end Go.Proofs.YtbkilakncnlebaaGreatDoor.X
