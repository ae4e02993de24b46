/- A part of the proof. -/
import Derived.Test.YtbhemnidcleaiaaGreatY17
import Derived.Deep.RegionLaw
import Derived.Deep.AppendLies
set_option linter.constructorNameAsVariable false
set_option maxHeartbeats 16000000
set_option maxRecDepth 10000
namespace Go
section
variable {P:Program}
theorem A9g {w:World} {J:Array Oper} {o:Oper} {a:Act} {I:Act->World->Prop} {Q:Exit->Act->World->Prop} {K:Prop} (Y:o.guard=none) (s x:Operand) (t:TypeId)
  (ac:o.op=.call { callee:=.builtin .append,args:=#[s,x],argTypes:=#[t,t] })
  (e:TypeId) (i:TypeInfo) (z:Value) (size E:Nat) (ah:P.underlying t=some (.slice e)) (hi:P.info? e=some i) (ak:i.zero=some z)
  (af:i.size=size) (W:i.bytes=E) (al:z.cells.size=size) (ag:0<size) (ae:a.eval s=.slice none 0 0)
  (D:Addr) (c:Nat) (b:List Value) (aj:a.eval x=.slice (some D) 1 c) (aa:b.length=1*size) (ab:∀ j u,b[j]?=some u->w.cell? (D.add j)=some u) (O:∀ u∈b,u.oneCell'=true)
  (X:(0+1)*E<=140737488355328)
  (h:∀ g' cap' w',w'.ownsRow w.1.size e size (.slice (some ⟨g',0,none⟩) 1 cap') 1 b->RowKit.Bw w w'->I (a.put o.dst (.slice (some ⟨g',0,none⟩) 1 cap')) w') :
  if Region.wanted o (yielded J a.tmps)=true then Oper.wp P o a w I Q else K:=by
 have ai:Region.wanted o (yielded J a.tmps)=true:=by simp[Region.wanted,Y]
 rw[if_pos ai];obtain⟨ap,w',ad,G,S,T⟩:=run_append_own (P:=P) w w.1.size t o.type e i z size E ah hi ak af W al ag (.slice none 0 0) 0 [] (World.ownsRow_nil w _ e size) D 1 c b aa ab O mL X (Nat.le_refl _);rw[List.nil_append,Nat.zero_add]at G;rcases G.2 with⟨H,_⟩|⟨g,cap,am,H,an,ao⟩
 ·exact absurd (T.1 H).2 dE
 subst H;unfold Oper.wp execOp;simp only[ac,resolve,invoke,builtin,Sem.run_bind,Sem.run_pure,Result.andThen_ok,List.map_toArray,List.map_cons,List.map_nil,ae,aj,ad];exact h g cap w' G ((RowKit.Below.refl w.1.size w).grown S (Nat.le_refl _) (by intro k Z;cases Z))
end
end Go
namespace Go.Proofs.YtbhemnidcleaiaaGreat.X
open Go.RowKit Go.XB Go.XN Proofs.Tryz
attribute [local go_sem] L_ Go.XB.opAt N_ M_ Region.wanted yielded
attribute [local simp] N_ M_ MP.eq MP.agg MP.sl A0r
section
def FanK (Wx:World) (gr gf:Nat) (cl:Bool) (vT vS:Value) (V:World):Prop :=
 V.1[gf]?=some (.cells #[vT,vS,.bool cl] 178)/\V.1[gr]?=some (.cells #[.slice none 0 0,.slice none 0 0,.bool false] 178)/\Bw Wx V/\(Wx.1.size<=gr/\gr<gf)
section
variable {Wx V U:World} {gr gf:Nat} {cl:Bool} {vT vS:Value}
theorem FanK.lt (h:FanK Wx gr gf cl vT vS V):gf<V.1.size:=E_ h.1
theorem FanK.below (h:FanK Wx gr gf cl vT vS V) (hb:Bw V U):FanK Wx gr gf cl vT vS U:=⟨K_ h.1 hb,K_ h.2.1 hb,Below.next h.2.2.1 hb,h.2.2.2⟩
theorem FanK.grown {g:Nat} (h:FanK Wx gr gf cl vT vS V) (hg:V.grownBy U (some g)) (hlt:gf<g):FanK Wx gr gf cl vT vS U :=
 ⟨(hg.block gf (E_ h.1) iO).trans h.1,(hg.block gr (E_ h.2.1) (by intro e;injection e with e;have:=h.2.2.2;omega)).trans h.2.1,
  h.2.2.1.grown hg (by have:=E_ h.1;have:=h.2.2.2;omega) (λk hk=>by injection hk with hk;have:=h.2.2.2;omega),h.2.2.2⟩
theorem FanK.set0 (h:FanK Wx gr gf cl vT vS V) (v:Value):FanK Wx gr gf cl v vS (V.setCell ⟨gf,0,none⟩ v) :=
 ⟨A9b h.1,(Below.heap_setCell _ _ _ gr (by have:=h.2.2.2;show gr≠gf;omega)).trans h.2.1,h.2.2.1.setCell (p:=⟨gf,0,none⟩) (by have:=h.2.2.2;show Wx.1.size<=gf;omega) _,h.2.2.2⟩
theorem FanK.set1 (h:FanK Wx gr gf cl vT vS V) (v:Value):FanK Wx gr gf cl vT v (V.setCell ⟨gf,1,none⟩ v) :=
 ⟨A9b h.1,(Below.heap_setCell _ _ _ gr (by have:=h.2.2.2;show gr≠gf;omega)).trans h.2.1,h.2.2.1.setCell (p:=⟨gf,1,none⟩) (by have:=h.2.2.2;show Wx.1.size<=gf;omega) _,h.2.2.2⟩
theorem FanK.cells (h:FanK Wx gr gf cl vT vS V):V.cell? ⟨gf,0,none⟩=some vT/\V.cell? ⟨gf,1,none⟩=some vS/\V.frozen? ⟨gf,0,none⟩=false/\V.frozen? ⟨gf,1,none⟩=false :=
 ⟨(B_ h.1 (j:=0) rfl).1,(B_ h.1 (j:=1) rfl).1,(B_ h.1 (j:=0) rfl).2,(B_ h.1 (j:=1) rfl).2⟩
end
def RowI (base:Nat) (V:World) (g c:Nat) (xs:List Int):Prop:=V.ownsRow base 3 1 (.slice (some ⟨g,0,none⟩) xs.length c) xs.length (xs.map (.int .i64))
section
variable {V U:World} {base g c:Nat} {xs:List Int}
theorem RowI.lt (h:RowI base V g c xs):base<=g/\g<V.1.size:=World.ownsRow.lt h _ rfl
theorem RowI.below (h:RowI base V g c xs) (hb:Bw V U):RowI base U g c xs:=I_ h hb
theorem RowI.far {u:Nat} (h:RowI base V g c xs) (H:V.grownBy U (some u)) (K:u≠g):RowI base U g c xs:=by
 have J:=h.lt;obtain⟨E,b⟩:=h;refine⟨E,?_⟩;rcases b with b|⟨W,T,D,S,G,I,O⟩
 ·exact .inl b
 cases S;exact .inr ⟨_,_,D,rfl,G,(H.block _ J.2 (by intro e;injection e with e;exact K e.symm)).trans I,O⟩
theorem RowI.set {b j:Nat} {v:Value} (h:RowI base V g c xs) (I:b≠g):RowI base (V.setCell ⟨b,j,none⟩ v) g c xs:=by
 obtain⟨E,u⟩:=h;refine⟨E,?_⟩;rcases u with u|⟨S,O,D,K,G,H,J⟩;·exact .inl u
 cases K;exact .inr ⟨_,_,D,rfl,G,(Below.heap_setCell _ _ _ g (by intro e;exact I e.symm)).trans H,J⟩
theorem RowI.push {k:Int} {g' c':Nat} (h:V.ownsRow base 3 1 (.slice (some ⟨g',0,none⟩) (xs.length+1) c') (xs.length+1) (xs.map (.int .i64)++[.int .i64 k])):RowI base V g' c' (xs++[k]):=by
 unfold RowI;rw[List.length_append,List.map_append];exact h
theorem RowI.one {k:Int} {b0 g' c':Nat} (h:V.ownsRow b0 3 1 (.slice (some ⟨g',0,none⟩) 1 c') 1 [.int .i64 k]) (hb:base<=b0):RowI base V g' c' [k]:=⟨h.1,h.2.imp id (λ⟨g,c,cur,hv,hb2,r⟩=>⟨g,c,cur,hv,Nat.le_trans hb hb2,r⟩)⟩
theorem RowI.sl (h:RowI base V g c xs) (Z:0<xs.length) (hi:∀ x∈xs,I64 x):Sl V (some ⟨g,0,none⟩) xs.length c xs [g]/\∃ cs t,V.1[g]?=some (.cells cs t (0,0)):=by
 have H:=World.ownsRow.cells h (g:=g) rfl;rcases h.2 with⟨u,_⟩|⟨W,S,T,O,X,D,K,I,Y,aa⟩
 ·cases u
 cases O;refine⟨⟨rfl,K,I,λu=>oM,λu=>⟨g,0,List.replicate xs.length [],rfl,sI,sI,E_ D,λk x G E J=>?_⟩⟩,_,_,D⟩;obtain rfl:G=[]:=by have:=List.mem_of_getElem? J;simp at this;exact this.2
 refine⟨[.int .i64 x],λj ab b=>?_,rfl,rfl,hi x (List.mem_of_getElem? E)⟩;match j,b with
 |0,b =>
  simp at b;subst b
  have:=H k (.int .i64 x) (by rw[List.getElem?_map,E];rfl)
  have e:(⟨g,0,none⟩:Addr).add k=⟨g,k,none⟩:=by unfold Addr.add;split<;>simp_all
  rw[e]at this
  show V.cell? ⟨g,0+k*Dat.sz Int+0,none⟩=_
  rw[show 0+k*Dat.sz Int+0=k from by show 0+k*1+0=k;omega]
  exact this
end
theorem A8p (W:World) (v:Value) (t:TypeId):(W.alloc (.cells #[v] t)).cell? ⟨W.1.size,0,none⟩=some v:=(B_ (heap_alloc_new W _) (j:=0) rfl).1
theorem A4y {D:World} {g:Nat} {v:Value} (h:D.cell? ⟨g,0,none⟩=some v):∀ j u,[v][j]?=some u->D.cell? ((⟨g,0,none⟩:Addr).add j)=some u:=by
 intro j u b;match j,b with
 |0,b=>simp at b;subst b;simpa[Addr.add]using h
theorem A6q (n:Int):∀ u∈[Value.int .i64 n],u.oneCell'=true:=λu hu=>by simp at hu;subst hu;rfl
def FanB (Wx:World) (gr gf:Nat) (cl:Bool) (base n1:Nat) (vT vS:Value) (gT cT gS cS:Nat) (tr sp:List Int) (V:World):Prop :=
 FanK Wx gr gf cl vT vS V/\RowI base V gT cT tr/\RowI base V gS cS sp/\gT≠gS/\n1<=V.1.size/\gf<base
def FanA (Wx:World) (gr gf:Nat) (cl:Bool) (base n1:Nat) (vT vS:Value) (gT cT:Nat) (tr:List Int) (V:World):Prop :=
 FanK Wx gr gf cl vT vS V/\RowI base V gT cT tr/\n1<=V.1.size/\gf<base/\base<=n1
def FanN (Wx:World) (gr gf:Nat) (cl:Bool) (base n1:Nat) (vT vS:Value) (V:World):Prop :=
 FanK Wx gr gf cl vT vS V/\n1<=V.1.size/\gf<base/\base<=n1
section
variable {Wx V U:World} {gr gf base n1 gT cT gS cS:Nat} {cl:Bool} {vT vS:Value} {tr sp:List Int} {k:Int} {g' c':Nat}
theorem FanB.below (h:FanB Wx gr gf cl base n1 vT vS gT cT gS cS tr sp V) (hb:Bw V U):FanB Wx gr gf cl base n1 vT vS gT cT gS cS tr sp U :=
 ⟨h.1.below hb,h.2.1.below hb,h.2.2.1.below hb,h.2.2.2.1,Nat.le_trans h.2.2.2.2.1 hb.size,h.2.2.2.2.2⟩
theorem FanB.alloc (h:FanB Wx gr gf cl base n1 vT vS gT cT gS cS tr sp V) (o:Obj):FanB Wx gr gf cl base n1 vT vS gT cT gS cS tr sp (V.alloc o):=h.below (Below.box o)
theorem FanB.drew (h:FanB Wx gr gf cl base n1 vT vS gT cT gS cS tr sp V):FanB Wx gr gf cl base n1 vT vS gT cT gS cS tr sp V.drew:=h.below (Below.drew (Below.refl _ _))
theorem FanA.below (h:FanA Wx gr gf cl base n1 vT vS gT cT tr V) (hb:Bw V U):FanA Wx gr gf cl base n1 vT vS gT cT tr U :=
 ⟨h.1.below hb,h.2.1.below hb,Nat.le_trans h.2.2.1 hb.size,h.2.2.2⟩
theorem FanA.alloc (h:FanA Wx gr gf cl base n1 vT vS gT cT tr V) (o:Obj):FanA Wx gr gf cl base n1 vT vS gT cT tr (V.alloc o):=h.below (Below.box o)
theorem FanN.below (h:FanN Wx gr gf cl base n1 vT vS V) (hb:Bw V U):FanN Wx gr gf cl base n1 vT vS U:=⟨h.1.below hb,Nat.le_trans h.2.1 hb.size,h.2.2⟩
theorem FanN.alloc (h:FanN Wx gr gf cl base n1 vT vS V) (o:Obj):FanN Wx gr gf cl base n1 vT vS (V.alloc o):=h.below (Below.box o)
theorem FanN.drew (h:FanN Wx gr gf cl base n1 vT vS V):FanN Wx gr gf cl base n1 vT vS V.drew:=h.below (Below.drew (Below.refl _ _))
theorem FanB.pushT (h:FanB Wx gr gf cl base n1 vT vS gT cT gS cS tr sp V) (b:V.grownBy U (some gT)) (K:g'=gT\/g'=V.1.size) (J:U.ownsRow base 3 1 (.slice (some ⟨g',0,none⟩) (tr.length+1) c') (tr.length+1) (tr.map (.int .i64)++[.int .i64 k])) :
  FanB Wx gr gf cl base n1 vT vS g' c' gS cS (tr++[k]) sp U:=by
 obtain⟨D,E,u,G,H,I⟩:=h;exact⟨D.grown b (by have:=E.lt;omega),RowI.push J,u.far b G,by have:=u.lt;omega,Nat.le_trans H b.size,I⟩
theorem FanB.pushS (h:FanB Wx gr gf cl base n1 vT vS gT cT gS cS tr sp V) (b:V.grownBy U (some gS)) (K:g'=gS\/g'=V.1.size) (J:U.ownsRow base 3 1 (.slice (some ⟨g',0,none⟩) (sp.length+1) c') (sp.length+1) (sp.map (.int .i64)++[.int .i64 k])) :
  FanB Wx gr gf cl base n1 vT vS gT cT g' c' tr (sp++[k]) U:=by
 obtain⟨D,u,E,G,H,I⟩:=h;exact⟨D.grown b (by have:=E.lt;omega),u.far b (Ne.symm G),RowI.push J,by have:=u.lt;omega,Nat.le_trans H b.size,I⟩
theorem FanN.pushT (h:FanN Wx gr gf cl base n1 vT vS V) (b:Bw V U) (H:U.ownsRow V.1.size 3 1 (.slice (some ⟨g',0,none⟩) 1 c') 1 [.int .i64 k]):FanA Wx gr gf cl base n1 vT vS g' c' [k] U:=by
 obtain⟨u,D,E,G⟩:=h;exact⟨u.below b,RowI.one H oM,Nat.le_trans D b.size,E,G⟩
theorem FanA.pushS (h:FanA Wx gr gf cl base n1 vT vS gT cT tr V) (b:Bw V U) (D:U.ownsRow V.1.size 3 1 (.slice (some ⟨g',0,none⟩) 1 c') 1 [.int .i64 k]):FanB Wx gr gf cl base n1 vT vS gT cT g' c' tr [k] U:=by
 obtain⟨E,u,G,H,I⟩:=h;have J:V.1.size<=g':=(World.ownsRow.lt D _ rfl).1;exact⟨E.below b,u.below b,RowI.one D oM,by have:=u.lt;omega,Nat.le_trans G b.size,H⟩
theorem FanB.sets (h:FanB Wx gr gf cl base n1 vT vS gT cT gS cS tr sp V) (v D:Value):FanB Wx gr gf cl base n1 v D gT cT gS cS tr sp ((V.setCell ⟨gf,0,none⟩ v).setCell ⟨gf,1,none⟩ D):=by
 obtain⟨E,b,u,G,H,I⟩:=h;exact⟨(E.set0 v).set1 D,(b.set (by have:=b.lt;omega)).set (by have:=b.lt;omega),(u.set (by have:=u.lt;omega)).set (by have:=u.lt;omega),G,by simpa[World.setCell]using H,I⟩
theorem D0h {b:Nat} {v:Value} (hg:V.grownBy U (some gT)) (hne:b≠gT) (hc:V.cell? ⟨b,0,none⟩=some v):U.cell? ⟨b,0,none⟩=some v :=
 (hg.cell_far ⟨b,0,none⟩ (World.block_lt_of_cell? V _ hc) (by intro e;injection e with e;exact hne e)).trans hc
theorem C9o {b:Nat} {v:Value} (hb:Bw V U) (hc:V.cell? ⟨b,0,none⟩=some v):U.cell? ⟨b,0,none⟩=some v :=
 (hb.cell (p:=⟨b,0,none⟩) (World.block_lt_of_cell? V _ hc)).trans hc
end
theorem RowI.own1 {xs:List Int} {V:World} {base g c:Nat} {k:Int} (h:RowI base V g c (xs++[k])):V.ownsRow base 3 1 (.slice (some ⟨g,0,none⟩) (xs.length+1) c) (xs.length+1) ((xs++[k]).map (.int .i64)):=by
 unfold RowI at h;rwa [show(xs++[k]).length=xs.length+1 by simp]at h
section
variable {w0 Wx V U:World} {gr gf base n1 n2 gT cT gS cS:Nat} {cl:Bool} {vT vS:Value} {tr sp:List Int}
theorem FanB.weak (h:FanB Wx gr gf cl base n1 vT vS gT cT gS cS tr sp V) (hn:n2<=n1):FanB Wx gr gf cl base n2 vT vS gT cT gS cS tr sp V:=⟨h.1,h.2.1,h.2.2.1,h.2.2.2.1,Nat.le_trans hn h.2.2.2.2.1,h.2.2.2.2.2⟩
theorem FanB.set1 (h:FanB Wx gr gf cl base n1 vT vS gT cT gS cS tr sp V) (b:Value):FanB Wx gr gf cl base n1 vT b gT cT gS cS tr sp (V.setCell ⟨gf,1,none⟩ b):=by
 obtain⟨E,u,D,G,H,I⟩:=h;exact⟨E.set1 b,u.set (by have:=u.lt;omega),D.set (by have:=D.lt;omega),G,by simpa[World.setCell]using H,I⟩
theorem D9y (h:FanB Wx gr gf cl base n1 vT vS gT cT gS cS tr sp V) (u:Bw w0 V) (D:w0.1.size<=gr) (S:0<tr.length) (O:0<sp.length) (W:∀ y∈tr,I64 y) (T:∀ y∈sp,I64 y) (a b c:Value) :
  A0c w0 (⟨tr,sp,cl⟩:TFan) (.returned (.agg #[.slice (some ⟨gT,0,none⟩) tr.length cT,.slice (some ⟨gS,0,none⟩) sp.length cS,.bool cl])) (((V.setCell ⟨gr,0,none⟩ a).setCell ⟨gr,1,none⟩ b).setCell ⟨gr,2,none⟩ c):=by
 obtain⟨J,E,G,X,Y,Z⟩:=h;have q:=J.2.2.2;have ab:=E.lt;have aa:=G.lt;have H:=(((E.set (b:=gr) (j:=0) (v:=a) oM).set (b:=gr) (j:=1) (v:=b) oM).set (b:=gr) (j:=2) (v:=c) oM).sl S W;have I:=(((G.set (b:=gr) (j:=0) (v:=a) oM).set (b:=gr) (j:=1) (v:=b) oM).set (b:=gr) (j:=2) (v:=c) oM).sl O T;refine⟨_,[gT]++[gS],rfl,TFan.mkAgg (x:=⟨tr,sp,cl⟩) H.1 I.1,Own.append ⟨sI,λb u=>?_⟩ ⟨sI,λb u=>?_⟩ (λb u K=>?_),((u.setCell (p:=⟨gr,0,none⟩) D _).setCell (p:=⟨gr,1,none⟩) D _).setCell (p:=⟨gr,2,none⟩) D _⟩;·simp at u;subst u;exact⟨oM,H.2⟩
 ·simp at u;subst u;exact⟨oM,I.2⟩
 simp at u K;omega
end
theorem D5h (val:Value) (x:TAround) (b:List Nat) (J:Int) (cl:Bool) (al ak:List Int) (w:World) (bM:Agg w val x b) (cf:∀ k∈x.list,D5b x.m.triangles x.edges x.v k=true) (ck:x.edges.length<=144) (cg:x.list.length<=48) (ci:J∈x.list)
  (aJ:B5l x.m.triangles x.edges x.v x.list J 49 J [] []=some (al,ak)) :
  Calls prog 212 #[val,.int .i64 J,.bool cl] w (A0c w (⟨al,ak,cl⟩:TFan)):=by
 have bZ:=A_ bM;have bq:=A_ cf;have bt:=A_ ck;have cG:=A_ cg;have aC:=A_ (show J∈x.list/\B5l x.m.triangles x.edges x.v x.list J 49 J [] []=some (al,ak)/\([]:List Int).length+49=49/\([]:List Int).length=([]:List Int).length/\(∀ y∈([]:List Int),I64 y)/\(∀ y∈([]:List Int),I64 y)from⟨ci,aJ,rfl,rfl,λy D=>by simp at D,λy D=>by simp at D⟩);obtain⟨aY,bf,a5,db,aZ,n1,a6,s1,a1,n2,a7,dc,a2,bg,a8,dd,rfl,rfl,cQ,cR,cU,cV,cn⟩:=TAround.agg bM;have cI:=A_ (Sl.i64 cn);obtain⟨ad,Z,aa,ab,ac⟩:=info_parts A6b;clear cQ cR cU cn cV bM cf ck cg ci aJ;go_enter func212,ntmps212;go_upto_region 2 with fail;obtain⟨Wx,aI⟩:∃ y,y=w.alloc (.cells #[.slice aY bf a5,.slice aZ n1 a6,.slice a1 n2 a7,.int .i64 x.v,.slice a2 bg a8] 210):=⟨_,rfl⟩
 have a3:=A_ (by rw[aI];exact Below.box _:Bw w Wx);have b5:=A_ (by rw[aI];exact heap_alloc_new w _:Wx.1[w.1.size]?=some (.cells #[.slice aY bf a5,.slice aZ n1 a6,.slice a1 n2 a7,.int .i64 x.v,.slice a2 bg a8] 210));have aE:Wx.1.size=w.1.size+1:=by rw[aI];simp
 rw[<-aI];clear aI;obtain⟨bG,ay⟩:∃ y,y=(Wx.alloc (.cells #[.slice none 0 0,.slice none 0 0,.bool false] 178)).alloc (.cells #[.slice none 0 0,.slice none 0 0,.bool cl] 178):=⟨_,rfl⟩
 have bP:=A_ (show FanN Wx (w.1.size+1) (w.1.size+1+1) cl (w.1.size+3) (w.1.size+3) (.slice none 0 0) (.slice none 0 0) bG by
  have bd:bG.1[w.1.size+1+1]?=some (.cells #[.slice none 0 0,.slice none 0 0,.bool cl] 178):=by rw[ay];have:=heap_alloc_new (Wx.alloc (.cells #[.slice none 0 0,.slice none 0 0,.bool false] 178)) (.cells #[.slice none 0 0,.slice none 0 0,.bool cl] 178);rwa [World.size_alloc,aE]at this
  have be:bG.1[w.1.size+1]?=some (.cells #[.slice none 0 0,.slice none 0 0,.bool false] 178):=by rw[ay];have:=heap_alloc_new Wx (.cells #[.slice none 0 0,.slice none 0 0,.bool false] 178);rw[aE]at this;exact K_ this (Below.box _)
  exact⟨⟨bd,be,by rw[ay];exact Below.next (Below.box _) (Below.box _),oM,oM⟩,by rw[ay];simp[aE],oM,Nat.le_refl _⟩)
 rw[<-ay];have c7:=A_ aE;clear ay aE;go_wp2_with fail
 go_loopg [1] 49 (λg s1 wr=>∃ (k:Int) (tr sp:List Int),s1=.int .i64 k/\Hid (k∈x.list/\B5l x.m.triangles x.edges x.v x.list J g k tr sp=some (al,ak)/\tr.length+g=49/\sp.length=tr.length/\(∀ y∈tr,I64 y)/\(∀ y∈sp,I64 y)) /\
  Hid ((tr=[]/\sp=[]/\FanN Wx (w.1.size+1) (w.1.size+1+1) cl (w.1.size+3) (w.1.size+3) (.slice none 0 0) (.slice none 0 0) wr) \/
   ∃ gT cT gS cS,FanB Wx (w.1.size+1) (w.1.size+1+1) cl (w.1.size+3) (w.1.size+3) (.slice (some ⟨gT,0,none⟩) tr.length cT) (.slice (some ⟨gS,0,none⟩) sp.length cS) gT cT gS cS tr sp wr))
 case atStart=>exact⟨J,[],[],rfl,⟨aC.1,aC.2.1,aC.2.2.1,rfl,aC.2.2.2.2⟩,.inl ⟨rfl,rfl,bP⟩⟩
 case round =>
  clear aC bP;obtain⟨k,tr,sp,rfl,bX,bT⟩:=hrel;obtain⟨cj,aJ,cc,ch,ce,cd⟩:=bX.o;have bs:=A_ cj;have bp:=A_ aJ;have br:=A_ ch;have cF:=A_ ce;have cE:=A_ cd;have bl:=A_ (by unfold maxLen;omega:tr.length+1<=maxLen);have bm:=A_ (by omega:(tr.length+1)*8<=140737488355328);have a4:=A_ (by unfold maxLen;omega:sp.length+1<=maxLen);have bn:=A_ (by omega:(sp.length+1)*8<=140737488355328);have bo:=A_ cc;have bW:=A_ (show ∃ vT vS,FanK Wx (w.1.size+1) (w.1.size+1+1) cl vT vS wr/\w.1.size+3<=wr.1.size from bT.elim (λD=>⟨_,_,D.2.2.1,D.2.2.2.1⟩) (λ⟨_,_,_,_,D⟩=>⟨_,_,D.1,D.2.2.2.2.1⟩));have bR:=A_ (by obtain⟨_,_,D,_⟩:=bW.o;exact D.2.2.1:Bw Wx wr);have c9:w.1.size+3<=wr.1.size:=by obtain⟨_,_,_,D⟩:=bW.o;exact D
  clear bX cj aJ ch ce cd cc;have cH:=A_ (Below.next a3 bR);have au:=A_ (K_ b5 bR);obtain⟨aF,-⟩:=B_ au (j:=0) rfl;obtain⟨aw,-⟩:=B_ au (j:=1) rfl;obtain⟨ax,-⟩:=B_ au (j:=2) rfl;obtain⟨aG,-⟩:=B_ au (j:=3) rfl;obtain⟨aH,-⟩:=B_ au (j:=4) rfl;simp at aF aw ax aG aH;have bN:w.1.size<wr.1.size:=E_ au;go_wp2_with fail;refine(B5f _ x _ k wr (bZ.below cH) (bq k bs) bt).mono ?_;obtain⟨u,bJ⟩:∃ f,(spT x.m.triangles x.edges x.v k).1=f:=⟨_,rfl⟩
  obtain⟨O,bK⟩:∃ f,(spT x.m.triangles x.edges x.v k).2=f:=⟨_,rfl⟩
  have bU:=A_ bJ;have bV:=A_ bK;rw[bJ,bK];clear bJ bK;rintro _ h ⟨rfl,bI⟩;have bS:=A_ bI;have c8:=bI.size;clear bI aF aw ax aG aH bN;go_upto_region 4 with fail;rename (Act->World->Prop)=>b3;rename (∀ (a:Act) (w_1:World),Code.wp _ _ _ a w_1->b3 a w_1)=>ca
  have b4:∀ (vT vS:Value) (b8 b9 S K Y X:Nat) (aD:World),FanB Wx (w.1.size+1) (w.1.size+1+1) cl (w.1.size+3) h.1.size (.slice (some ⟨S,0,none⟩) (tr.length+1) K) (.slice (some ⟨Y,0,none⟩) (sp.length+1) X) S K Y X (tr++[k]) (sp++[(u:Int)]) aD ->
    b3 { tmps:=#[.agg #[.slice aY bf a5,.slice aZ n1 a6,.slice a1 n2 a7,.int .i64 x.v,.slice a2 bg a8],.int .i64 k,.bool cl,.pointer (some ⟨w.1.size,0,none⟩),undef,undef,.pointer (some ⟨w.1.size+1,0,none⟩),.pointer (some ⟨w.1.size+1+1,0,none⟩),.int .i64 J,.int .i64 u,.int .i64 O,.bool cl,.agg #[.slice none 0 0,.slice none 0 0,.bool cl],.int .i64 J,.tuple #[.int .i64 u,.int .i64 O],.agg #[.slice aY bf a5,.slice aZ n1 a6,.slice a1 n2 a7,.int .i64 x.v,.slice a2 bg a8],.int .i64 k,.tuple #[.int .i64 u,.int .i64 O],.int .i64 u,.int .i64 O,.pointer (some ⟨w.1.size+1+1,0,none⟩),vT,.int .i64 k,.slice (some ⟨b8,0,none⟩) 1 1,.slice (some ⟨S,0,none⟩) (tr.length+1) K,.pointer (some ⟨w.1.size+1+1,1,none⟩),vS,.int .i64 u,.slice (some ⟨b9,0,none⟩) 1 1,.slice (some ⟨Y,0,none⟩) (sp.length+1) X,.pointer (some ⟨w.1.size+1+1,0,none⟩),.pointer (some ⟨w.1.size+1+1,1,none⟩),u32,u33,u34,u35,u36,u37,u38,u39,u40,u41,u42,u43,u44,u45,u46,u47],defers:=[] } aD:=by
   intro vT vS b8 b9 S K Y X aD ai
   refine ca _ _ ?_
   have bQ:=A_ ai
   have bk:=A_ ai.1.2.2.1
   have bY:=A_ (Below.next a3 bk)
   have an:=A_ (K_ b5 bk)
   clear ai
   obtain⟨aF,-⟩:=B_ an (j:=0) rfl
   obtain⟨aw,-⟩:=B_ an (j:=1) rfl
   obtain⟨ax,-⟩:=B_ an (j:=2) rfl
   obtain⟨aG,-⟩:=B_ an (j:=3) rfl
   obtain⟨aH,-⟩:=B_ an (j:=4) rfl
   simp at aF aw ax aG aH
   have bN:w.1.size<aD.1.size:=E_ an
   go_wp2_with fail
   refine(E1f _ x _ O aD (bZ.below bY) bq bt cG).mono ?_
   obtain⟨ag,bL⟩:∃ n,A8e x.m.triangles x.edges x.v x.list O=n:=⟨_,rfl⟩
   have bu:=A_ bL
   rw[bL]
   clear bL
   rintro _ cx ⟨rfl,cb⟩
   have ae:=A_ (bQ.below cb)
   clear cb aF aw ax aG aH bN bQ bk bY an
   obtain⟨g,rfl⟩:∃ g,gk=g+1:=by
    cases gk with
    |zero=>have:=bp.o;simp[B5l]at this
    |succ g=>exact⟨g,rfl⟩
   have ar:=A_ (show(if ag<0 then some (tr++[k],(sp++[(u:Int)])++[(O:Int)])else if ag=J then some (tr++[k],sp++[(u:Int)])else B5l x.m.triangles x.edges x.v x.list J g ag (tr++[k]) (sp++[(u:Int)]))=some (al,ak) by have:=bp.o;rw[B5l,bU.o,bV.o,bu.o]at this;exact this)
   obtain⟨bO,q1,q2,c0⟩:=ae.1.cells
   obtain⟨bh,-⟩:=B_ ae.1.1 (j:=2) rfl
   obtain⟨r0,cu⟩:=B_ ae.1.2.1 (j:=0) rfl
   obtain⟨bi,cv⟩:=B_ ae.1.2.1 (j:=1) rfl
   obtain⟨bj,cw⟩:=B_ ae.1.2.1 (j:=2) rfl
   simp at bh r0 bi bj
   have cp:=ae.1.lt
   have cq:w.1.size+1<cx.1.size:=oM
   clear bp
   have b0:=A_ (show I64 (u:Int)/\I64 (O:Int) by
    obtain⟨_,t,_,_,_,_,bd,be,co⟩:=B8p (bq k bs);have aw:A3z x.edges (A2i x.v (A3h t x.v).1)=u:=by rw[<-bU.o,co]
    have ax:A3z x.edges (A2i x.v (A3h t x.v).2)=O:=by rw[<-bV.o,co]
    unfold A6o at bd be;simp only[Bool.and_eq_true,decide_eq_true_eq]at bd be;have:=bt.o;constructor<;>constructor<;>omega)
   have bz:=A_ (show ∀ y∈tr++[k],I64 y from λy aL=>(List.mem_append.1 aL).elim (cF.o y) (λD=>by simp at D;subst D;exact cI _ bs))
   have bv:=A_ (show ∀ y∈sp++[(u:Int)],I64 y from λy aL=>(List.mem_append.1 aL).elim (cE.o y) (λD=>by simp at D;subst D;exact b0.1))
   have cy:=A_ (Below.next a3 ae.1.2.2.1)
   have ct:(tr++[k]).length=tr.length+1:=sI
   have cs:(sp++[(u:Int)]).length=sp.length+1:=sI
   have ao:=A_ ct;have aB:=A_ cs
   clear ct cs
   rcases Int.lt_or_le ag 0 with cO|cP
   ·have am:=A_ (by have:=ar.o;rw[if_pos cO]at this;injection this with this;exact⟨congrArg Prod.fst this,congrArg Prod.snd this⟩:tr++[k]=al/\(sp++[(u:Int)])++[(O:Int)]=ak)
    have cA:=A_ (by have:=a4.o;have:=br.o;have:=bo.o;unfold maxLen;omega:sp.length+1+1<=maxLen)
    have cz:=A_ (by have:=br.o;have:=bo.o;omega:(sp.length+1+1)*8<=140737488355328)
    clear ar
    go_upto_region 8 with(at_builtin;refine A1m rfl _ _ 31 rfl (w.1.size+3) 3 ad (.int .i64 0) 1 8 underlying31 Z aa ab ac rfl dE Y (sp.length+1) X ((sp++[(u:Int)]).map (.int .i64)) gD (RowI.own1 (ae.2.2.1.below (Below.box _))) ⟨cx.1.size,0,none⟩ 1 1 [.int .i64 O] gD rfl (A4y (A8p _ _ _)) (A6q _) cA cz (by have:=ae.2.2.2.2.1;simp;omega) ?_;intro bc a9 c6 W T aj;have ba:=FanB.pushS (ae.o.alloc _) T aj (by rw[aB.o];exact W);obtain⟨c1,c2,c4,c5⟩:=ba.1.cells;have cW:=ba.1.lt)
    obtain⟨b7,bH⟩:∃ y,y=c6.setCell ⟨w.1.size+1+1,1,none⟩ (.slice (some ⟨bc,0,none⟩) (sp.length+1+1) a9):=⟨_,rfl⟩
    have ah:=A_ (by rw[bH];exact ba.set1 (.slice (some ⟨bc,0,none⟩) (sp.length+1+1) a9):FanB Wx (w.1.size+1) (w.1.size+1+1) cl (w.1.size+3) h.1.size _ _ S K bc a9 (tr++[k]) ((sp++[(u:Int)])++[(O:Int)]) b7)
    rw[<-bH]
    clear bH ba c1 c2 c4 c5 cW bO q1 q2 c0 bh r0 cu bi cv bj cw cp cq W T aj
    obtain⟨bO,-⟩:=B_ ah.1.1 (j:=0) rfl
    obtain⟨q1,-⟩:=B_ ah.1.1 (j:=1) rfl
    obtain⟨bh,-⟩:=B_ ah.1.1 (j:=2) rfl
    obtain⟨r0,cu⟩:=B_ ah.1.2.1 (j:=0) rfl
    obtain⟨bi,cv⟩:=B_ ah.1.2.1 (j:=1) rfl
    obtain⟨bj,cw⟩:=B_ ah.1.2.1 (j:=2) rfl
    simp at bO q1 bh r0 bi bj
    have cp:=ah.1.lt
    have cq:w.1.size+1<b7.1.size:=oM
    have aA:=A_ (D9y (w0:=w) ah.o (Below.next a3.o ah.o.1.2.2.1) oM (by rw[ao.o];omega) sI bz.o (λy aL=>(List.mem_append.1 aL).elim (bv.o y) (λD=>by simp at D;subst D;exact b0.2)))
    rw[ao.o,show((sp++[(u:Int)])++[(O:Int)]).length=sp.length+1+1 by simp,am.o.1,am.o.2]at aA
    go_wp2
    refine bodyPost_ret (v:=.agg #[.slice (some ⟨S,0,none⟩) (tr.length+1) K,.slice (some ⟨bc,0,none⟩) (sp.length+1+1) a9,.bool cl]) (by simp[results,results212,go_sem, *]) rfl ?_
    exact aA _ _ _
   have cm:¬ (ag<0):=oM
   by_cases az:ag=J
   ·have am:=A_ (by have:=ar.o;rw[if_neg cm,if_pos az]at this;injection this with this;exact⟨congrArg Prod.fst this,congrArg Prod.snd this⟩:tr++[k]=al/\sp++[(u:Int)]=ak)
    have cN:(ag==J)=true:=by simp[az]
    have aA:=A_ (D9y (w0:=w) ae.o cy.o oM (by rw[ao.o];omega) (by rw[aB.o];omega) bz.o bv.o)
    rw[ao.o,aB.o,am.o.1,am.o.2]at aA
    clear az ar
    go_wp2
    refine bodyPost_ret (v:=.agg #[.slice (some ⟨S,0,none⟩) (tr.length+1) K,.slice (some ⟨Y,0,none⟩) (sp.length+1) X,.bool cl]) (by simp[results,results212,go_sem, *]) rfl ?_
    exact aA _ _ _
   have am:=A_ (by have:=ar.o;rw[if_neg cm,if_neg az]at this;exact this:B5l x.m.triangles x.edges x.v x.list J g ag (tr++[k]) (sp++[(u:Int)])=some (al,ak))
   have cN:(ag==J)=false:=by simp[az]
   have cJ:=A_ (by have:=D0a (ts:=x.m.triangles) (es:=x.edges) (v:=x.v) (e:=O) (l:=x.list) (by rw[bu.o];exact cP);rwa [bu.o]at this:ag∈x.list)
   have cB:=A_ (ae.o.weak (n2:=w.1.size+3) oM)
   clear az ar
   go_wp2_with fail
   go_roundg g
   case measure=>omega
   case rel=>exact⟨ag,tr++[k],sp++[(u:Int)],rfl,⟨cJ.o,am.o,by rw[ao.o];have:=bo.o;omega,by rw[ao.o,aB.o,br.o],bz.o,bv.o⟩,.inr ⟨S,K,Y,X,by rw[ao.o,aB.o];exact cB⟩⟩
  have b6:=A_ b4;clear b4 ca;rcases bT with⟨rfl,rfl,ai⟩|⟨gT,cT,gS,cS,ai⟩
  ·have I:=A_ (show FanN Wx (w.1.size+1) (w.1.size+1+1) cl (w.1.size+3) h.1.size (.slice none 0 0) (.slice none 0 0) h from⟨(ai.below bS.o).1,Nat.le_refl _,oM,oM⟩);obtain⟨cK,b1,cL,cM⟩:=I.1.cells;have cX:=I.1.lt;clear ai;have bA:=A_ (show(h.alloc (.cells #[.int .i64 k] 3)).drew.cell? ⟨h.1.size,0,none⟩=some (.int .i64 k)from A8p h _ _);have bB:=A_ (show ∀ o,((h.alloc (.cells #[.int .i64 k] 3)).alloc o).drew.cell? ⟨h.1.size,0,none⟩=some (.int .i64 k)from λo=>by go_simp);have bD:=A_ (show ∀ o,((h.alloc o).alloc (.cells #[.int .i64 k] 3)).drew.cell? ⟨h.1.size+1,0,none⟩=some (.int .i64 k)from λo=>by have:=A8p (h.alloc o) (.int .i64 k) 3;rw[World.size_alloc]at this;exact this);have bE:=A_ (show ∀ o,((h.alloc o).alloc (.cells #[.int .i64 u] 3)).drew.cell? ⟨h.1.size+1,0,none⟩=some (.int .i64 u)from λo=>by have:=A8p (h.alloc o) (.int .i64 u) 3;rw[World.size_alloc]at this;exact this);have bF:=A_ (show ∀ o,((h.alloc (.cells #[.int .i64 u] 3)).alloc o).drew.cell? ⟨h.1.size,0,none⟩=some (.int .i64 u)from λo=>by go_simp);have ap:∀ {n:Nat},h.1.size<=n->w.1.size+3<=n:=λD=>oM;have cY:w.1.size+1<h.1.size:=oM;have cZ:w.1.size<h.1.size:=oM;go_region_law (first|(refine A9g (by rfl) _ _ _ (by rfl) 3 ad (.int .i64 0) 1 8 underlying31 Z aa ab ac rfl dE ?_ ⟨h.1.size,0,none⟩ 1 [.int .i64 k] ?_ ?_ ?_ ?_ ?_ ?_;rfl;rfl;rfl;exact A4y bA;exact A6q _;decide;intro S K aq af G;have E:=FanN.pushT ((I.alloc _).drew) G af;obtain⟨aT,aU,aV,aW⟩:=E.1.cells;have aN:=E.1.lt;have aO:=G.size)|(refine A9g (by rfl) _ _ _ (by rfl) 3 ad (.int .i64 0) 1 8 underlying31 Z aa ab ac rfl dE ?_ ⟨h.1.size,0,none⟩ 1 [.int .i64 k] ?_ ?_ ?_ ?_ ?_ ?_;rfl;rfl;rfl;exact A4y (bB _);exact A6q _;decide;intro S K aq af G;have E:=FanN.pushT (((I.alloc _).alloc _).drew) G af;obtain⟨aT,aU,aV,aW⟩:=E.1.cells;have aN:=E.1.lt;have aO:=G.size)|(refine A9g (by rfl) _ _ _ (by rfl) 3 ad (.int .i64 0) 1 8 underlying31 Z aa ab ac rfl dE ?_ ⟨h.1.size+1,0,none⟩ 1 [.int .i64 k] ?_ ?_ ?_ ?_ ?_ ?_;rfl;rfl;rfl;exact A4y (bD _);exact A6q _;decide;intro S K aq af G;have E:=FanN.pushT (((I.alloc _).alloc _).drew) G af;obtain⟨aT,aU,aV,aW⟩:=E.1.cells;have aN:=E.1.lt;have aO:=G.size)|(refine A9g (by rfl) _ _ _ (by rfl) 3 ad (.int .i64 0) 1 8 underlying31 Z aa ab ac rfl dE ?_ ⟨aq.1.size,0,none⟩ 1 [.int .i64 u] ?_ ?_ ?_ ?_ ?_ ?_;rfl;rfl;rfl;exact A4y (A8p _ _ _);exact A6q _;decide;intro Y X aX W T;have H:=FanA.pushS (E.alloc _) T W;obtain⟨aP,aQ,aR,aS⟩:=H.1.cells;have aM:=H.1.lt)|(refine A9g (by rfl) _ _ _ (by rfl) 3 ad (.int .i64 0) 1 8 underlying31 Z aa ab ac rfl dE ?_ ⟨h.1.size+1,0,none⟩ 1 [.int .i64 u] ?_ ?_ ?_ ?_ ?_ ?_;rfl;rfl;rfl;exact A4y (C9o G (bE _));exact A6q _;decide;intro Y X aX W T;have H:=FanA.pushS (E) T W;obtain⟨aP,aQ,aR,aS⟩:=H.1.cells;have aM:=H.1.lt)|(refine A9g (by rfl) _ _ _ (by rfl) 3 ad (.int .i64 0) 1 8 underlying31 Z aa ab ac rfl dE ?_ ⟨h.1.size,0,none⟩ 1 [.int .i64 u] ?_ ?_ ?_ ?_ ?_ ?_;rfl;rfl;rfl;exact A4y (C9o G (bF _));exact A6q _;decide;intro Y X aX W T;have H:=FanA.pushS (E) T W;obtain⟨aP,aQ,aR,aS⟩:=H.1.cells;have aM:=H.1.lt));all_goals exact b6.o _ _ _ _ _ _ _ _ _ (H.sets _ _)
  have I:=A_ (show FanB Wx (w.1.size+1) (w.1.size+1+1) cl (w.1.size+3) h.1.size (.slice (some ⟨gT,0,none⟩) tr.length cT) (.slice (some ⟨gS,0,none⟩) sp.length cS) gT cT gS cS tr sp h from(λD=>⟨D.1,D.2.1,D.2.2.1,D.2.2.2.1,Nat.le_refl _,D.2.2.2.2.2⟩) (ai.below bS));obtain⟨cK,b1,cL,cM⟩:=I.1.cells;have cX:=I.1.lt;have da:=I.2.1.lt;clear ai;have bA:=A_ (show(h.alloc (.cells #[.int .i64 k] 3)).drew.cell? ⟨h.1.size,0,none⟩=some (.int .i64 k)from A8p h _ _);have bB:=A_ (show ∀ o,((h.alloc (.cells #[.int .i64 k] 3)).alloc o).drew.cell? ⟨h.1.size,0,none⟩=some (.int .i64 k)from λo=>by go_simp);have bD:=A_ (show ∀ o,((h.alloc o).alloc (.cells #[.int .i64 k] 3)).drew.cell? ⟨h.1.size+1,0,none⟩=some (.int .i64 k)from λo=>by have:=A8p (h.alloc o) (.int .i64 k) 3;rw[World.size_alloc]at this;exact this);have bE:=A_ (show ∀ o,((h.alloc o).alloc (.cells #[.int .i64 u] 3)).drew.cell? ⟨h.1.size+1,0,none⟩=some (.int .i64 u)from λo=>by have:=A8p (h.alloc o) (.int .i64 u) 3;rw[World.size_alloc]at this;exact this);have bF:=A_ (show ∀ o,((h.alloc (.cells #[.int .i64 u] 3)).alloc o).drew.cell? ⟨h.1.size,0,none⟩=some (.int .i64 u)from λo=>by go_simp);have ap:∀ {n:Nat},h.1.size<=n->w.1.size+3<=n:=λD=>oM;have cY:w.1.size+1<h.1.size:=oM;have cZ:w.1.size<h.1.size:=oM;go_region_law (first|(refine B0y (by rfl) _ _ _ (by rfl) (w.1.size+3) 3 ad (.int .i64 0) 1 8 underlying31 Z aa ab ac rfl dE gT tr.length cT (tr.map (.int .i64)) ?_ ?_ ⟨h.1.size,0,none⟩ 1 1 [.int .i64 k] ?_ ?_ ?_ ?_ ?_ ?_ ?_ ?_;rfl;exact((I.alloc _).drew).2.1;rfl;rfl;exact A4y bA;exact A6q _;exact bl;exact bm;exact ap ((I.alloc _).drew).2.2.2.2.1;intro S K aq af G aK;have E:=FanB.pushT ((I.alloc _).drew) G aK af;obtain⟨aT,aU,aV,aW⟩:=E.1.cells;have aN:=E.1.lt;have aO:=G.size)|(refine B0y (by rfl) _ _ _ (by rfl) (w.1.size+3) 3 ad (.int .i64 0) 1 8 underlying31 Z aa ab ac rfl dE gT tr.length cT (tr.map (.int .i64)) ?_ ?_ ⟨h.1.size,0,none⟩ 1 1 [.int .i64 k] ?_ ?_ ?_ ?_ ?_ ?_ ?_ ?_;rfl;exact(((I.alloc _).alloc _).drew).2.1;rfl;rfl;exact A4y (bB _);exact A6q _;exact bl;exact bm;exact ap (((I.alloc _).alloc _).drew).2.2.2.2.1;intro S K aq af G aK;have E:=FanB.pushT (((I.alloc _).alloc _).drew) G aK af;obtain⟨aT,aU,aV,aW⟩:=E.1.cells;have aN:=E.1.lt;have aO:=G.size)|(refine B0y (by rfl) _ _ _ (by rfl) (w.1.size+3) 3 ad (.int .i64 0) 1 8 underlying31 Z aa ab ac rfl dE gT tr.length cT (tr.map (.int .i64)) ?_ ?_ ⟨h.1.size+1,0,none⟩ 1 1 [.int .i64 k] ?_ ?_ ?_ ?_ ?_ ?_ ?_ ?_;rfl;exact(((I.alloc _).alloc _).drew).2.1;rfl;rfl;exact A4y (bD _);exact A6q _;exact bl;exact bm;exact ap (((I.alloc _).alloc _).drew).2.2.2.2.1;intro S K aq af G aK;have E:=FanB.pushT (((I.alloc _).alloc _).drew) G aK af;obtain⟨aT,aU,aV,aW⟩:=E.1.cells;have aN:=E.1.lt;have aO:=G.size)|(refine B0y (by rfl) _ _ _ (by rfl) (w.1.size+3) 3 ad (.int .i64 0) 1 8 underlying31 Z aa ab ac rfl dE gS sp.length cS (sp.map (.int .i64)) ?_ ?_ ⟨aq.1.size,0,none⟩ 1 1 [.int .i64 u] ?_ ?_ ?_ ?_ ?_ ?_ ?_ ?_;rfl;exact(E.alloc _).2.2.1;rfl;rfl;exact A4y (A8p _ _ _);exact A6q _;exact a4;exact bn;exact ap (E.alloc _).2.2.2.2.1;intro Y X aX W T aj;have H:=FanB.pushS (E.alloc _) T aj W;obtain⟨aP,aQ,aR,aS⟩:=H.1.cells;have aM:=H.1.lt)|(refine B0y (by rfl) _ _ _ (by rfl) (w.1.size+3) 3 ad (.int .i64 0) 1 8 underlying31 Z aa ab ac rfl dE gS sp.length cS (sp.map (.int .i64)) ?_ ?_ ⟨h.1.size+1,0,none⟩ 1 1 [.int .i64 u] ?_ ?_ ?_ ?_ ?_ ?_ ?_ ?_;rfl;exact(E).2.2.1;rfl;rfl;exact A4y (D0h G oM (bE.o _));exact A6q _;exact a4;exact bn;exact ap (E).2.2.2.2.1;intro Y X aX W T aj;have H:=FanB.pushS (E) T aj W;obtain⟨aP,aQ,aR,aS⟩:=H.1.cells;have aM:=H.1.lt)|(refine B0y (by rfl) _ _ _ (by rfl) (w.1.size+3) 3 ad (.int .i64 0) 1 8 underlying31 Z aa ab ac rfl dE gS sp.length cS (sp.map (.int .i64)) ?_ ?_ ⟨h.1.size,0,none⟩ 1 1 [.int .i64 u] ?_ ?_ ?_ ?_ ?_ ?_ ?_ ?_;rfl;exact(E).2.2.1;rfl;rfl;exact A4y (D0h G oM (bF.o _));exact A6q _;exact a4;exact bn;exact ap (E).2.2.2.2.1;intro Y X aX W T aj;have H:=FanB.pushS (E) T aj W;obtain⟨aP,aQ,aR,aS⟩:=H.1.cells;have aM:=H.1.lt));all_goals exact b6.o _ _ _ _ _ _ _ _ _ (H.sets _ _)
theorem C5d (ts:List TTri) (es:List TEdge) (v:Int) (l:List Int):∀ i,(A5s ts es v l i).length<=i
 |0=>Nat.le_refl _
 |i+1=>by unfold A5s;have:=C5d ts es v l i;split<;>(try rw[List.length_append])<;>simp<;>omega
theorem D3r {α:Type} [Dat α] {w:World} {y:α} {u0 u1 u2:Value} {b:List Nat} (h:Agg w (.agg #[u0,u1,u2]) y b):Dat.at_ w [u0,u1,u2] y b:=by
 obtain⟨E,u,D⟩:=h;injection u with u;have:=congrArg Array.toList u;simp only at this;subst this;exact D
theorem E8l:(prog.info? 178).map (λi=>(i.zero,i.size,i.bytes))=some (some (.agg #[.slice none 0 0,.slice none 0 0,.bool false]),3,56):=kR
theorem E1r (val:Value) (m:TMesh) (b:List Nat) (v:Int) (w:World) (bz:Agg w val m b) (bI:m.triangles.length<=48) (bX:I64 v) (bQ:fanOk m.triangles v=true) :
  Calls prog 157 #[val,.int .i64 v] w (A0w w (A8x m.triangles v)):=by
 have bF:=A_ bz;have aN:=A_ bI;have cp:=A_ bX;have ci:=A_ bQ;obtain⟨aq,aJ,ay,c9,ar,n1,az,da,rfl,rfl,bS,bT⟩:=TMesh.agg bz;have ck:=A_ bS;have cm:=A_ bT;obtain⟨b3,bN,bY,bZ,b0⟩:=info_parts E8l;clear bS bT bz bI bX bQ;go_enter func157,ntmps157;go_upto_region 1 with fail;refine Code.new λbe bc=>?_;have aW:=A_ bc.b;have ba:=A_ bc.k;clear bc;obtain⟨W,-⟩:=B_ ba (j:=0) rfl;obtain⟨X,-⟩:=B_ ba (j:=1) rfl;simp at W X;have cK:w.1.size<be.1.size:=E_ ba;refine X_ sI ?_;dsimp only[List.dropLast,List.getLast,List.length];iterate 2 refine C_ _ ?_
 refine D_ (MP.sl (P_ m.triangles)) ?_ ?_;·intro S H G u h;obtain⟨bl,bp⟩:=F_ u;simp at h;refine G_ ?_;exact A1c (A7q _ m _ G ((bF.below aW).below u) aN)
 iterate 3 refine C_ _ ?_
 refine D_ (MP.sl (A2d m.triangles v)) ?_ ?_;·intro S H G u h;obtain⟨bl,bp⟩:=F_ u;simp at h;refine G_ ?_;exact A1c (C1b _ m _ v G ((bF.below aW).below u) aN)
 refine A9h (λap=>.agg #[.slice aq aJ ay,.slice ar n1 az,ap 2,.int .i64 v,ap 6]) (by intro y ap I;simp[N_,M_]at I;simp[I]) ?_ ?_;·intro S H G u h;obtain⟨bl,bp⟩:=F_ u;simp at h;obtain⟨_,⟨⟨cW,n2,cZ,K,_⟩,_⟩,_,⟨⟨cX,c8,c0,O,_⟩,_⟩⟩:=h;refine⟨gD,?_⟩;go_simp;try simp[*,Value.cells]
 refine A1p #[.slice none 0 0,.slice none 0 0,.slice none 0 0,.int .i64 0,.slice none 0 0] 210 ?_ ?_;·intro S H G u h;refine⟨gD,?_⟩;go_simp
 intro S H wb u h (aD:Hid _);simp at h;have q2:=h.2.2.1;have bA:=h.2.2.2.2.2.2.1;have aT:=h.2.2.2.2.2.2.2.1;have cM:=h.2.2.2.2.2.2.2.2;obtain⟨⟨⟨au,aK,aA,K,bU⟩,cz⟩,cI⟩:=q2;obtain⟨⟨⟨L,D,aB,am,bV⟩,bo⟩,cJ⟩:=bA;have bg:=aT.1.1;rw[K,am]at bg;obtain⟨⟨ga,cv,z8,Y⟩,bv⟩:=cM;have bm:=aD 2 8 dE dE dE;have bn:=aD 6 8 dE dE dE;rw[z8]at bm bn bv;have cE:=A_ (show ga∉H 2 from λI=>bm ga I sI);have cF:=A_ (show ga∉H 6 from λI=>bn ga I sI);have aE:be.1.size<=ga:=(bv ga sI).1;have cn:=A_ bU;have co:=A_ bV;have cf:=A_ Y;have cc:=A_ u;obtain⟨aU,u0⟩:=B_ Y (j:=0) rfl;obtain⟨aV,u1⟩:=B_ Y (j:=1) rfl;obtain⟨cN,u2⟩:=B_ Y (j:=2) rfl;obtain⟨cO,cQ⟩:=B_ Y (j:=3) rfl;obtain⟨cP,cR⟩:=B_ Y (j:=4) rfl;have cA:=E_ Y;generalize H 2=cs at *;generalize H 6=cu at *;clear h aD bm bn bU cz cI bV bo cJ Y bv aT z8 u W X cK K am;go_upto_region 2 with fail;obtain⟨T,ao⟩:∃ y,y=(((((wb.setCell ⟨ga,0,none⟩ (.slice aq aJ ay)).setCell ⟨ga,1,none⟩ (.slice ar n1 az)).setCell ⟨ga,2,none⟩ (.slice au aK aA)).setCell ⟨ga,3,none⟩ (.int .i64 v)).setCell ⟨ga,4,none⟩ (.slice L D aB)):=⟨_,rfl⟩
 have a9:=A_ (by rw[ao];exact A9b (A9b (A9b (A9b (A9b cf)))):T.1[ga]?=some (.cells #[.slice aq aJ ay,.slice ar n1 az,.slice au aK aA,.int .i64 v,.slice L D aB] 210));have b9:=A_ (by rw[ao];exact((((cc.setCell (p:=⟨ga,0,none⟩) aE _).setCell (p:=⟨ga,1,none⟩) aE _).setCell (p:=⟨ga,2,none⟩) aE _).setCell (p:=⟨ga,3,none⟩) aE _).setCell (p:=⟨ga,4,none⟩) aE _:Bw be T);have cq:=A_ (show Sl T au aK aA (P_ m.triangles) cs by rw[ao];exact cn.o.keep (λb ag=>A0m ga [.slice aq aJ ay,.slice ar n1 az,.slice au aK aA,.int .i64 v,.slice L D aB] wb 0 b (λe=>cE.o (e ▸ ag))));have aQ:=A_ (show Sl T L D aB (A2d m.triangles v) cu by rw[ao];exact co.o.keep (λb ag=>A0m ga [.slice aq aJ ay,.slice ar n1 az,.slice au aK aA,.int .i64 v,.slice L D aB] wb 0 b (λe=>cF.o (e ▸ ag))));rw[<-ao];clear ao aU aV cN cO cP u0 u1 u2 cQ cR cA bg cv;have aX:=A_ (Below.next aW b9);have ca:=A_ (TAround.mkAgg (x:=⟨m,P_ m.triangles,v,A2d m.triangles v⟩) (ck.below aX) (cm.below aX) cq cp aQ);obtain⟨bP,bW,bM⟩:(A2d m.triangles v).isEmpty=false/\(∀ k∈A2d m.triangles v,D5b m.triangles (P_ m.triangles) v k=true)/\(∀ k∈A2d m.triangles v,(B5l m.triangles (P_ m.triangles) v (A2d m.triangles v) k 49 k [] []).isSome=true):=by have:=ci.o;unfold fanOk at this;simp only[Bool.and_eq_true,Bool.not_eq_true',List.all_eq_true]at this;exact this
 have ch:=A_ bP;have a8:=A_ bW;have bE:=A_ bM;have a6:=A_ (show(A2d m.triangles v).length<=48 from Nat.le_trans (B7u _ _ _) aN);have a4:=A_ (by unfold P_;have:=A5z m.triangles m.triangles.length;have:=aN.o;omega:(P_ m.triangles).length<=144);have a7:=A_ aQ.1;have c5:D<=48:=by rw[<-a7.o];exact a6
 have c7:(D:Int)<=48:=oM;have bH:=A_ (Pend.start (α:=TFan) (e:=178) aX);obtain⟨O,-⟩:=B_ (K_ a9 (Below.box (.cells #[] 178))) (j:=4) rfl;simp at O;have aI:ga<(T.alloc (.cells #[] 178)).1.size:=E_ (K_ a9 (Below.box _));clear bP bW bM;go_wp2_with fail;go_loopg [6,21] D (λg s6 s21 wr=>∃ (i gB cap:Nat),i+g=D/\s21=.int .i64 i/\s6=.slice (some ⟨gB,0,none⟩) (A5s m.triangles (P_ m.triangles) v (A2d m.triangles v) i).length cap/\Hid (Pend w T 178 wr gB (A5s m.triangles (P_ m.triangles) v (A2d m.triangles v) i).length cap (A5s m.triangles (P_ m.triangles) v (A2d m.triangles v) i)));case atStart=>exact⟨0,T.1.size,0,oM,rfl,rfl,bH.o⟩
 case round =>
  clear bH O aI;obtain⟨i,gB,cap,bs,rfl,rfl,J⟩:=hrel;have bB:=A_ J.bb;have cY:=A_ J.bw;have ad:=A_ (K_ a9 J.bb);have a2:=A_ (ca.below J.bb);obtain⟨W,-⟩:=B_ ad (j:=0) rfl;obtain⟨X,-⟩:=B_ ad (j:=1) rfl;obtain⟨K,-⟩:=B_ ad (j:=2) rfl;obtain⟨aC,-⟩:=B_ ad (j:=3) rfl;obtain⟨O,-⟩:=B_ ad (j:=4) rfl;simp at W X K aC O;have aI:ga<wr.1.size:=E_ ad;obtain⟨E,aS⟩:∃ E,A5s m.triangles (P_ m.triangles) v (A2d m.triangles v) i=E:=⟨_,rfl⟩
  have bo:E.length<=i:=by rw[<-aS];exact C5d _ _ _ _ i
  have a5:=A_ aS;rw[aS]at J ⊢;clear aS;rcases Nat.lt_or_ge i D with aG|aG
  ·have cB:(i:Int)<D:=oM
   have c2:(0:Int)<=i:=oM;obtain⟨g,rfl⟩:∃ g,gk=g+1:=⟨gk - 1,oM⟩
   have bO:=A_ (by omega:i+1+g=D);have aY:=A_ (by unfold maxLen;omega:E.length+1<=maxLen);have aZ:=A_ (by omega:(E.length+1)*56<=140737488355328);obtain⟨ct,cL,k,bh,bK,ah,cy,bk⟩:=Sl.getInt (aQ.below bB) aG;have aM:=A_ (A0e (d:=(0:Int)) ah);have al:=A_ (List.mem_of_getElem? ah);subst bh;clear bs aG ah;go_wp2_with fail;refine(D2f _ ⟨m,P_ m.triangles,v,A2d m.triangles v⟩ _ k wr a2 (a8 k al) a4).mono ?_;rintro _ b6 ⟨rfl,bj⟩;have aO:=A_ bj;have ak:=A_ (K_ ad bj);clear bj W X K aC O aI bk bK;cases an:B8j m.triangles (P_ m.triangles) v k
   ·have ax:=A_ (by rw[A5s,aM.o,an,a5.o];rfl:A5s m.triangles (P_ m.triangles) v (A2d m.triangles v) (i+1)=E)
    have cx:B8j (⟨m,P_ m.triangles,v,A2d m.triangles v⟩:TAround).m.triangles (⟨m,P_ m.triangles,v,A2d m.triangles v⟩:TAround).edges (⟨m,P_ m.triangles,v,A2d m.triangles v⟩:TAround).v k=false:=an;clear an;go_wp2_with fail;go_roundg g;case measure=>omega
    case rel=>exact⟨i+1,gB,cap,bO.o,gN,by rw[ax.o],by rw[ax.o];exact J.below aO⟩
   have cx:B8j (⟨m,P_ m.triangles,v,A2d m.triangles v⟩:TAround).m.triangles (⟨m,P_ m.triangles,v,A2d m.triangles v⟩:TAround).edges (⟨m,P_ m.triangles,v,A2d m.triangles v⟩:TAround).v k=true:=an;obtain⟨⟨aa,Z⟩,aF⟩:=Option.isSome_iff_exists.1 (bE k al);have aw:=A_ aF;have ax:=A_ (by rw[A5s,aM.o,an,a5.o,E6a,aw.o];rfl:A5s m.triangles (P_ m.triangles) v (A2d m.triangles v) (i+1)=E++[⟨aa,Z,false⟩]);have bG:=A_ (by rw[ax.o];simp:(A5s m.triangles (P_ m.triangles) v (A2d m.triangles v) (i+1)).length=E.length+1);clear an aF;obtain⟨W,-⟩:=B_ ak (j:=0) rfl;obtain⟨X,-⟩:=B_ ak (j:=1) rfl;obtain⟨K,-⟩:=B_ ak (j:=2) rfl;obtain⟨aC,-⟩:=B_ ak (j:=3) rfl;obtain⟨O,-⟩:=B_ ak (j:=4) rfl;simp at W X K aC O;have aI:ga<b6.1.size:=E_ ak;go_wp2_with fail;refine(D5h _ ⟨m,P_ m.triangles,v,A2d m.triangles v⟩ _ k false aa Z b6 (a2.below aO) a8 a4 a6 al aw).mono ?_;rintro _ b7 ⟨db,b5,rfl,bi,bt,bJ⟩;obtain⟨ab,aj,ae,aU,ac,m1,af,aV,rfl,ai,-,-⟩:=TFan.agg bi;have cb:=A_ (Below.next (Below.next aO bJ) (Below.box (.cells #[.slice ab aj ae,.slice ac m1 af,.bool false] 178)));have aL:=A_ (D3r (bi.below (Below.box (.cells #[.slice ab aj ae,.slice ac m1 af,.bool false] 178))));have bD:=A_ ((bt.below (Below.box (.cells #[.slice ab aj ae,.slice ac m1 af,.bool false] 178))).free);have aP:=A_ (show ∀ b∈b5,wr.1.size<=b from λb ag=>by have:=(bt.2 b ag).1;have:=aO.size;omega);clear bi bt ai bJ W X K aC O aI;go_wp2_with (at_builtin;refine A1v rfl _ _ 175 rfl 178 b3 (.agg #[.slice none 0 0,.slice none 0 0,.bool false]) 56 underlying175 bN bY bZ b0 rfl J cb gD ⟨b7.1.size,0,none⟩ 1 [.slice ab aj ae,.slice ac m1 af,.bool false] ⟨aa,Z,false⟩ b5 gD (A0a (heap_alloc_new b7 _)) aL bD aP aY aZ ?_;intro g' bf b8 aH br bu);have cj:=A_ (by rw[bG.o,ax.o];exact aH:Pend w T 178 b8 g' (A5s m.triangles (P_ m.triangles) v (A2d m.triangles v) (i+1)).length bf (A5s m.triangles (P_ m.triangles) v (A2d m.triangles v) (i+1)));clear aH br bu aL bD aP J;go_wp2_with fail;go_roundg g;case measure=>omega
   case rel=>exact⟨i+1,g',bf,bO.o,gN,by rw[bG.o],cj⟩
  obtain rfl:D=i:=oM;have cB:¬ ((D:Int)<D):=oM;have a1:=A_ (by rw[a7.o];exact a5:A5s m.triangles (P_ m.triangles) v (A2d m.triangles v) (A2d m.triangles v).length=E);by_cases ai:E=[]
  ·have cG:0<D:=by
    have:=ch.o;rw[<-a7.o]
    cases I:A2d m.triangles v with
    |nil=>rw[I]at this;cases this
    |cons a r=>simp
   have c6:(0:Int)<D:=oM
   obtain⟨ct,cL,k,bh,bK,ah,cy,bk⟩:=Sl.getInt (aQ.below bB) cG
   have aM:=A_ (A0e (d:=(0:Int)) ah)
   have al:=A_ (List.mem_of_getElem? ah)
   obtain⟨⟨aa,Z⟩,aF⟩:=Option.isSome_iff_exists.1 (bE k al)
   have aw:=A_ aF
   have bd:=A_ (by unfold A8x;rw[a1.o,if_pos ai,aM.o,E6a,aw.o];rfl:A8x m.triangles v=[]++[⟨aa,Z,true⟩])
   subst bh
   subst ai
   have aY:=A_ (by decide:0+1<=maxLen)
   have aZ:=A_ (by decide:(0+1)*56<=140737488355328)
   simp at bk
   clear bs aG ah aF a1 bo
   go_upto_region 10 with fail
   refine W_ 8 kR kR kR kR kR ?_
   simp only[List.take_succ_cons,List.take_zero,List.drop_succ_cons,List.drop_zero]
   iterate 6 refine C_ _ ?_
   refine D_ (MP.agg (⟨aa,Z,true⟩:TFan)) ?_ ?_
   ·intro S H G u h;obtain⟨bl,bp⟩:=F_ u;simp at h;refine G_ ?_;exact H_ (D5h _ ⟨m,P_ m.triangles,v,A2d m.triangles v⟩ _ k true aa Z G (a2.below u) a8 a4 a6 al aw)
   refine A1d (λap=>MP.slbox (ap 6).cells 178) (by intro y ap I;simp[N_,M_]at I;simp[I]) ?_ ?_
   ·intro S H G u h;simp at h;obtain⟨ab,aj,ae,aU,ac,m1,af,aV,am,_,_,_⟩:=TFan.agg h.1;refine⟨gD,.slice (some ⟨G.1.size,0,none⟩) 1 1,G.alloc (.cells (S 6).cells 178),?_,Below.box _,[G.1.size],⟨G.1.size,rfl,rfl,heap_alloc_new G _⟩,sI⟩;rw[am];go_simp
   intro S H wa u h (aD:Hid _)
   simp at h
   have b4:=h.1
   have bA:=h.2.2.2.2.2.2.1
   have aT:=h.2.2.2.2.2.2.2
   obtain⟨⟨aR,bL⟩,bR⟩:=bA
   obtain⟨ab,aj,ae,aU,ac,m1,af,aV,am,cU,-,-⟩:=TFan.agg aR
   obtain⟨⟨cw,bg,cV,bq⟩,cH⟩:=aT
   rw[am]at bq aR
   have aL:=A_ (D3r aR)
   have ce:=A_ bL;have aP:=A_ (show ∀ b∈H 6,wr.1.size<=b from λb ag=>(bR b ag).1)
   have cg:=A_ bq
   have c1:S 0=.slice (some ⟨gB,0,none⟩) 0 cap:=b4.1.1
   have cd:=A_ u
   clear h aD aR bL bR cU bq cH cV b4
   go_wp2_with (at_builtin;refine A1v rfl _ _ 175 rfl 178 b3 (.agg #[.slice none 0 0,.slice none 0 0,.bool false]) 56 underlying175 bN bY bZ b0 rfl J cd gD ⟨cw,0,none⟩ 1 [.slice ab aj ae,.slice ac m1 af,.bool true] ⟨aa,Z,true⟩ (H 6) gD (A0a cg) aL ce aP aY aZ ?_;intro g' bf b8 aH br bu)
   have a3:=A_ aH.done
   clear aH br bu
   go_wp2
   go_ret
   rw[bd.o]
   exact a3
  ·have c4:((E.length:Int)==0)=false:=by
    cases E with
    |nil=>exact absurd rfl ai
    |cons a r=>simp;omega
   have bd:=A_ (by unfold A8x;rw[a1.o,if_neg ai]:A8x m.triangles v=E)
   have a3:=A_ J.done
   clear bs aG ai
   go_wp2
   go_ret
   rw[bd.o]
   exact a3
end
end Go.Proofs.YtbhemnidcleaiaaGreat.X
