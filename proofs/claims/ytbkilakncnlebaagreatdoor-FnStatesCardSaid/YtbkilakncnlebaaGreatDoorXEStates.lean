/- FnStates: for every input,the state at the beginning of a coarse problem is recovered from its text: the law returns true,and its argument reads as before; the tied card. No condition. -/
import Derived.Test.YtbkilakncnlebaaGreatDoorY51
import Derived.Test.YtbkilakncnlebaaGreatDoorY52
import Derived.OpenShut
import Derived.LaidLaws
import Derived.LaidHandle
import Derived.LaidMore
import Derived.Lay
import Derived.Stop.Joined
import Derived.Stop.LaidErr
import Derived.Lib.LaidTab
import Derived.SevenTiedAt
import Derived.Test.YtbkilakncnlebaaGreatDoorCards
import Derived.Test.YtbkilakncnlebaaGreatDoorTie
set_option maxHeartbeats 16000000
set_option maxRecDepth 10000
namespace Go.XB
open Go.RowKit
/-- a structure and 'true' -/
def MP.tupV {α:Type} [Dat α] (x:α):MP:=⟨fun v bs w=>∃ cs,v=.tuple #[.agg cs,.bool true]∧Agg w (.agg cs) x bs,fun _ _ _ _ hb h=>by
 obtain ⟨cs,e,h⟩:=h;exact ⟨cs,e,h.below hb⟩⟩
/-- such a pair,handed on -/
def MP.exT (y:Value):MP:=⟨fun v bs _=>bs=[]∧v=y∧∃ cs,v=.tuple #[.agg cs,.bool true],fun _ _ _ _ _ h=>h⟩
/-- the first part of it -/
def MP.exV (y:Value):MP:=⟨fun v bs _=>bs=[]∧(∃ cs,v=.agg cs)∧y=.tuple #[v,.bool true],fun _ _ _ _ _ h=>h⟩
end Go.XB
namespace Go.Proofs.YtbkilakncnlebaaGreatDoor.fnStates
open Go.ChangeShapes Go.WideShapes Go.ChangeAt Go.RowKit Go.XB Go.XN Go.Proofs.YtbkilakncnlebaaGreatDoor.X
attribute [local go_sem] L_ Go.XB.opAt N_ M_ Region.wanted yielded
attribute [local simp] N_ M_ MP.eq MP.agg MP.aggV MP.sl MP.tupV MP.exT MP.exV MP.box A0r
set_option linter.constructorNameAsVariable false

theorem oTByte:Opens Tryz.prog 5 TByte:=fun enc w fuel cs y h=>by
 obtain ⟨n,rfl,_,hn⟩:=DataW.trod_int Tryz.underlying5 h
 exact ⟨⟨n⟩,[],rfl,rfl,by
  simp[Lit.wf,IntKind.min,IntKind.max,IntKind.signed,IntKind.bits] at hn
  show 0≤n∧n<256
  omega⟩
theorem oLTByte:Opens Tryz.prog 22 (List TByte):=Opens.slice Tryz.underlying22 (by kernel_rfl) oTByte

theorem walk (A0:Option Addr) (n0 c0:Nat) (x0:List TByte) (b0:List Nat) (w:World) (h0:Sl w A0 n0 c0 x0 b0) (ht:TxOk w) :
  Calls Tryz.prog 3 #[.slice A0 n0 c0] w (A0b w (.bool true)):=by
 have H0:=A_ h0;have HT:=A_ ht
 have hm0:n0≤maxLen:=Nat.le_trans h0.2.1 h0.2.2.1
 unfold maxLen at hm0
 clear h0 ht
 by_cases hbig:(1048576:Int)<n0
 ·go_enter Tryz.func3,Tryz.ntmps3
  go_wp2
  go_ret
  exact ⟨rfl,Below.refl _ _⟩
 have hn:n0≤1048576:=by omega
 go_enter Tryz.func3,Tryz.ntmps3
 go_wp2_with fail
 refine (B4b _ _ _ x0 _ w H0.o hn).mono ?_
 rintro _ w1 ⟨p,v1,s1,rfl,hp,ha1,hb1⟩
 obtain ⟨xs,ys,os,hR,hC,hS,hX,hP0⟩:=F5t hp
 have HR:=A_ hR;have HCD:=A_ hC;have HS:=A_ hS;have HX:=A_ hX;have HP0:=A_ hP0
 obtain ⟨st,hst⟩:∃ s,C9l p (mkR 1 3) os=s:=⟨_,rfl⟩
 have ESP:=A_ (show st.problem=p by rw[← hst];rfl)
 have ESL:=A_ (show st.reports.length=1 by rw[← hst];rfl)
 have HST:=A_ hst
 rw[hst] at HS HX
 obtain ⟨A1,n1,c1,s1,A2,n2,c2,s2,A3,n3,c3,s3,A4,n4,c4,s4,rfl,hz,-,-,-,-⟩:=TProblem.agg ha1
 rw[← hz] at *
 have HA1:=A_ ha1;have B1:=A_ hb1
 clear hp ha1 hb1 hz hR hC hS hX hP0 hst
 go_upto_region 4 with fail
 refine Code.new fun w2 NW=>?_
 have N2:=A_ NW.o.b;have K2:=A_ NW.o.k
 have B2:=A_ (Below.next B1.o N2.o);have HA2:=A_ (HA1.o.below N2.o)
 obtain ⟨gP,hgP⟩:∃ g,w1.heap.size=g:=⟨_,rfl⟩
 rw[hgP] at K2 ⊢
 clear NW hgP HA1
 have e0:=(bx K2.o).1 0;have e1:=(bx K2.o).1 1;have e2:=(bx K2.o).1 2;have e3:=(bx K2.o).1 3
 have l0:=E_ K2.o
 refine B8f 7 5 _ rfl (by kernel_rfl) (by kernel_rfl) (by kernel_rfl) (by kernel_rfl) (by kernel_rfl) ?_
 simp only [List.take_succ_cons,List.take_zero,List.drop_succ_cons,List.drop_zero]
 refine C_ _ ?_
 refine D_ (MP.agg (mkR 1 3)) ?_ ?_
 ·intro yq zq wq hC hd
  obtain ⟨hcq,hfq⟩:=F_ hC
  simp at hd
  refine G_ ?_
  exact H_ (A7u 1 3 wq (by unfold I64;omega) (by unfold I64;omega) (by decide))
 refine D_ (MP.tupV st) ?_ ?_
 ·intro yq zq wq hC hd
  obtain ⟨hcq,hfq⟩:=F_ hC
  simp at hd
  obtain ⟨h0,hag,_⟩:=hd
  refine G_ ?_
  exact (E3g _ p _ _ (mkR 1 3) _ xs ys os wq (HA2.o.below hC) hag HR.o F6x HCD.o).mono fun _ _ ⟨u,s,he,ha,hn,hb⟩=>by
   rw[HST.o] at ha
   obtain ⟨cs,rfl,h⟩:=ha
   exact ⟨_,he,hb,s,⟨_,rfl,⟨cs,rfl,h⟩⟩,fun b hb=>⟨hn b hb,Agg.lt ⟨cs,rfl,h⟩ b hb⟩⟩
 refine A1d (fun y'=>MP.exT (y' 2)) (by intro y y' h;simp[N_,M_] at h;simp[h]) ?_ ?_
 ·intro yr zr wq hC hd
  simp at hd
  obtain ⟨cs,e,_⟩:=hd
  refine ⟨by go_simp;done,yr 2,wq,?_,Below.refl _ _,[],⟨rfl,rfl,cs,e⟩,by simp⟩
  go_simp
 refine A1d (fun y'=>MP.exV (y' 3)) (by intro y y' h;simp[N_,M_] at h;simp[h]) ?_ ?_
 ·intro yr zr wq hC hd
  simp at hd
  obtain ⟨_,e0,cs,e⟩:=hd
  clear e0
  refine ⟨by go_simp;done,.agg cs,wq,?_,Below.refl _ _,[],⟨rfl,⟨cs,rfl⟩,e⟩,by simp⟩
  go_simp
 refine A2b (.bool true) ?_ ?_
 ·intro yr zr wq hC hd
  simp at hd
  obtain ⟨_,e0,cs,e⟩:=hd
  clear e0
  refine ⟨by go_simp;done,?_⟩
  go_simp
 refine A1p #[.slice none 0 0,.slice none 0 0,.slice none 0 0,.slice none 0 0,.bool false,.slice none 0 0,.slice none 0 0,.slice none 0 0] 38 ?_ ?_
 ·intro yr zr wq hC hd
  refine ⟨by go_simp;done,?_⟩
  go_simp
 intro yr zr wa hC hd (hdis:Hid _)
 simp at hd
 have u2:=hd.2.2.1
 have u3:=hd.2.2.2.1
 have u4:=hd.2.2.2.2.1
 have u5:=hd.2.2.2.2.2.1
 have u6:=hd.2.2.2.2.2.2
 obtain ⟨⟨cs,e2',ha2⟩,hr2⟩:=u2
 obtain ⟨F0,f0,d0,_,F1,f1,d1,_,F2,f2,d2,_,F3,f3,d3,_,F5,f5,d5,_,F6,f6,d6,_,F7,f7,d7,s7,eq2,hz2,-,-,-,-,-,-,hs7⟩:=TState.agg ha2
 injection eq2 with eq2
 subst eq2
 obtain rfl:1=f7:=by rw[← ESL.o];exact hs7.1
 have e3':yr 3=.tuple #[.agg #[.slice F0 f0 d0,.slice F1 f1 d1,.slice F2 f2 d2,.slice F3 f3 d3,.bool st.part.num.neg,.slice F5 f5 d5,.slice F6 f6 d6,.slice F7 1 d7],.bool true]:=by rw[u3.1.2.1,e2']
 have e4':yr 4=.agg #[.slice F0 f0 d0,.slice F1 f1 d1,.slice F2 f2 d2,.slice F3 f3 d3,.bool st.part.num.neg,.slice F5 f5 d5,.slice F6 f6 d6,.slice F7 1 d7]:=by
  have:=u4.1.2.2
  rw[e3'] at this
  simpa using this.symm
 have e5':=u5.1.1
 obtain ⟨⟨gA,e6',z6,hgA⟩,hr6⟩:=u6
 rw[z6] at hr6
 have hgA3:w2.heap.size≤gA:=(hr6 gA (by simp)).1
 have hdd:=hdis.o 2 6 (by decide) (by decide) (by decide)
 rw[z6] at hdd
 obtain ⟨y0,y0f,hgAl⟩:=bx hgA
 have S4:=F7o (v0:=.slice F0 f0 d0) (v1:=.slice F1 f1 d1) (v2:=.slice F2 f2 d2) (v3:=.slice F3 f3 d3) (v4:=.bool st.part.num.neg) (v5:=.slice F5 f5 d5) (v6:=.slice F6 f6 d6) (v7:=.slice F7 1 d7) hgA
 obtain ⟨W4,hW4⟩:∃ W4,W4=((((((((wa.setCell ⟨gA,0,none⟩ (.slice F0 f0 d0)).setCell ⟨gA,1,none⟩ (.slice F1 f1 d1)).setCell ⟨gA,2,none⟩ (.slice F2 f2 d2)).setCell ⟨gA,3,none⟩ (.slice F3 f3 d3)).setCell ⟨gA,4,none⟩ (.bool st.part.num.neg)).setCell ⟨gA,5,none⟩ (.slice F5 f5 d5)).setCell ⟨gA,6,none⟩ (.slice F6 f6 d6)).setCell ⟨gA,7,none⟩ (.slice F7 1 d7)):=⟨_,rfl⟩
 rw[← hW4] at S4
 have HW4:=A_ hW4
 have K4:=A_ S4.k
 have N4:=A_ (S4.low hC hC.size hgA3)
 have HS4:=A_ (ha2.keepG S4.gr (fun h=>hdd gA h (by simp)))
 have B4:=A_ (Below.next B2.o N4.o);have KP4:=A_ (A0z K2.o N4.o);have HA4:=A_ (HA2.o.below N4.o)
 generalize zr 2=z2 at *
 clear hd hdis ha2 hr2 hs7 u3 u4 u5 hr6 hdd hgA hC hW4 S4 hz2 z6 e0 e1 e2 e3 l0 e2' e3'
 refine ⟨W4,?_,?_⟩
 ·rw[HW4.o];go_simp
 clear y0 y0f hgAl HW4
 obtain ⟨y0,y0f,l1⟩:=bx K4.o
 obtain ⟨p0,p0f,l2⟩:=bx KP4.o
 go_wp2_with fail
 clear e4' e5' e6'
 refine (C7l _ st _ xs ys os W4 HS4.o HS.o HX.o (HT.o.below B4.o).t).mono ?_
 rintro _ w5 ⟨rfl,hb5⟩
 have B5:=A_ (Below.next B4.o hb5);have K5:=A_ (A0z K4.o hb5);have KP5:=A_ (A0z KP4.o hb5);have HS5:=A_ (HS4.o.below hb5);have HA5:=A_ (HA4.o.below hb5)
 clear hb5 y0 y0f l1 p0 p0f l2
 go_wp2_with fail
 refine (E3i st xs ys os HS.o HX.o (by rw[ESP.o];exact HP0.o) w5 (HT.o.below B5.o)).mono ?_
 rintro _ w6 ⟨v6,s6,rfl,h6,-,hb6⟩
 obtain ⟨G0,g0,i0,_,G1,g1,i1,_,G2,g2,i2,_,G3,g3,i3,_,G5,g5,i5,_,G6,g6,i6,_,G7,g7,i7,_,rfl,-,-,-,-,-,-,-,-⟩:=TState.agg h6
 have HQ6:=A_ h6
 have B6:=A_ (Below.next B5.o hb6);have K6:=A_ (A0z K5.o hb6);have KP6:=A_ (A0z KP5.o hb6);have HS6:=A_ (HS5.o.below hb6);have HA6:=A_ (HA5.o.below hb6)
 clear hb6 h6
 go_upto_region 6 with fail
 refine Code.new fun w7 NW=>?_
 have N7:=A_ NW.o.b;have J7:=A_ NW.o.k
 have B7:=A_ (Below.next B6.o N7.o);have K7:=A_ (A0z K6.o N7.o);have KP7:=A_ (A0z KP6.o N7.o);have HS7:=A_ (HS6.o.below N7.o);have HA7:=A_ (HA6.o.below N7.o);have HQ7:=A_ (HQ6.o.below N7.o)
 obtain ⟨gB,hgB⟩:∃ g,w6.heap.size=g:=⟨_,rfl⟩
 rw[hgB] at J7 ⊢
 clear NW hgB
 obtain ⟨y0,y0f,l1⟩:=bx K7.o
 obtain ⟨p0,p0f,l2⟩:=bx KP7.o
 obtain ⟨x0',x0f,l3⟩:=bx J7.o
 go_wp2_with fail
 have C:=F2r _ _ st st _ _ w7 HS7.o HQ7.o
 rw[decide_eq_true rfl] at C
 refine C.mono ?_
 clear C
 rintro _ w8 ⟨rfl,hb8⟩
 have B8:=A_ (Below.next B7.o hb8);have K8:=A_ (A0z K7.o hb8);have KP8:=A_ (A0z KP7.o hb8);have HS8:=A_ (HS7.o.below hb8);have HA8:=A_ (HA7.o.below hb8)
 clear hb8 y0 y0f l1 p0 p0f l2 x0' x0f l3
 obtain ⟨y0,y0f,l1⟩:=bx K8.o
 obtain ⟨p0,p0f,l2⟩:=bx KP8.o
 go_wp2_with fail
 refine (D4f _ st _ xs ys os w8 HS8.o HS.o).mono ?_
 rintro _ w9 ⟨rfl,hb9⟩
 have B9:=A_ (Below.next B8.o hb9);have K9:=A_ (A0z K8.o hb9);have KP9:=A_ (A0z KP8.o hb9);have HS9:=A_ (HS8.o.below hb9);have HA9:=A_ (HA8.o.below hb9)
 clear hb9 y0 y0f l1 p0 p0f l2
 obtain ⟨y0,y0f,l1⟩:=bx K9.o
 obtain ⟨p0,p0f,l2⟩:=bx KP9.o
 obtain ⟨E0,g0',i0',t0,E1,g1',i1',t1,E2,g2',i2',t2,E3,g3',i3',t3,E5,g5',i5',t5,E6,g6',i6',t6,E7,g7',i7',t7,eqS,-,k0,k1,k2,k3,-,-,-⟩:=TState.agg HS9.o
 simp at eqS
 obtain ⟨⟨rfl,rfl,rfl⟩,⟨rfl,rfl,rfl⟩,⟨rfl,rfl,rfl⟩,⟨rfl,rfl,rfl⟩,-⟩:=eqS
 have HPS:=A_ (TProblem.mkAgg (x:=st.problem) k0 k1 k2 k3)
 have E:=A_ (show decide (st.problem=p)=true by rw[ESP.o];simp)
 clear k0 k1 k2 k3
 go_wp2_with fail
 have C:=C1p _ _ st.problem p _ _ w9 HPS.o HA9.o
 rw[E.o] at C
 refine C.mono ?_
 clear C
 rintro _ w10 ⟨rfl,hb10⟩
 go_wp2
 go_ret
 exact ⟨rfl,Below.next B9.o hb10⟩

theorem own:ownKnob Tryz.prog.godebug=none:=by kernel_rfl
theorem laidOut:laidOutB Tryz.prog=true:=by kernel_rfl
theorem gT : Tryz.prog.globalNamed "internal/strconv.uint64pow10" = some 5 := by kernel_rfl
theorem gTType:(Tryz.prog.globals[5]?).map (·.type)=some 330:=by kernel_rfl
theorem tabData:(Rows.laid_internal_strconv_uint64pow10:DataW Unit)=Lib.tabData .u64 Lib.pow10Tab:=by kernel_rfl
theorem tab_of_laid {W:World} (h:laidMetH Tryz.prog Rows.fnStatesRow.laid W):TabOk W:=by
 rw[MakeChecks.laidMetH_plain _ _ _ (by kernel_rfl)] at h
 have h1 : laidMet Tryz.prog [("math/bits.deBruijn32tab",Rows.laid_math_bits_deBruijn32tab),("math/bits.deBruijn64tab",Rows.laid_math_bits_deBruijn64tab),("internal/strconv.uint64pow10",Rows.laid_internal_strconv_uint64pow10),("unicode/utf8.acceptRanges",Rows.laid_unicode_utf8_acceptRanges),("strconv.ErrRange",Rows.laid_strconv_ErrRange),("strconv.ErrSyntax",Rows.laid_strconv_ErrSyntax),("unicode/utf8.first",Rows.laid_unicode_utf8_first)] W := h
 have h2:=h1.tail.tail
 rw[tabData] at h2
 exact Lib.tabIs_of_head gT gTType Tryz.underlying330 Tryz.underlying100 (by kernel_rfl) (by kernel_rfl) h2

set_option maxRecDepth 100000 in
theorem lifted (os:Os) (started:os.Started) (H:Type) (enc:TypeId×Value→H) :
  ReturnsInHanded {} Tryz.checked os 3 .any (fun w args=>(Rows.fnStatesSpec.pre enc Tryz.prog Tryz.f3 [] false w args∧laidMetH Tryz.prog Rows.fnStatesRow.laid w)∧sizedMet enc Tryz.prog Tryz.f3 (OpenSpec.ofChange Rows.fnStatesSpec) false w args)
   (Rows.fnStatesSpec.post enc Tryz.prog Tryz.f3 false true false false):=by
 refine returnsInHanded_of_calls (C:=Tryz.checked) own started (by kernel_rfl)
  (ChangeSpec.witness_shaped (enc:=enc) (C:=Tryz.checked) (os:=os) (X:=fun w _=>laidMetH Tryz.prog Rows.fnStatesRow.laid w) false (World.laidAll Tryz.prog os Rows.fnStatesRow.laid) #[.slice none 0 0] 8 (World.laidAll_os _ _ _)
   (World.shaped_of_ZipB (by kernel_rfl) (by kernel_rfl)) (by kernel_rfl) (by kernel_rfl) (by kernel_rfl)
   (by rw[MakeChecks.laidMetH_plain _ _ _ (by kernel_rfl)];exact laidMet_laidAll _ (by kernel_rfl) (by kernel_rfl))) ?_
 intro w0 tape i _ hsh _ hok hpre _
 obtain ⟨_,_,_,fn',hfn',_,_,_,_,hval⟩:=hok
 obtain rfl:fn'=Tryz.f3:=Option.some.inj (hfn'.symm.trans Tryz.func3)
 obtain ⟨⟨⟨ds,gs,before,hw,_⟩,hL0⟩,_⟩:=hpre
 have hW:=DataW.Whole.of_heap (w':=w0.forCall tape i) (by rfl) hw
 have hL:laidMetH Tryz.prog Rows.fnStatesRow.laid (w0.forCall tape i):=hL0.of_heap (by rfl)
 have hM:MaxOk (w0.forCall tape i):=laysM145.s1_3 _ hsh
 suffices hK:Calls Tryz.checked.prog 3 i.args (w0.forCall tape i) (fun e W'=>∃ v,e=.returned v∧Rows.fnStatesSpec.post enc Tryz.prog Tryz.f3 false true false false (w0.forCall tape i) i.args v W') from
  hK.mono fun e W' ⟨v,he,hp⟩=>by subst he;exact ChangeSpec.post_blind hp
 generalize (w0.forCall tape i)=W at *
 generalize i.args=args at *
 clear hw hL0 hsh hfn'
 have hval:∀ (j:Nat) t v,Tryz.f3.params[j]?=some t→args[j]?=some v→Value.okWide Tryz.prog W .any w0.heap.size t v:=hval
 have hW':=hW
 obtain ⟨p,q,hA0,hV,rfl,hfz,hnd⟩:=hW
 have hA:DataW.TrodAll enc Tryz.prog W 0 (fun _=>true) true Tryz.f3.params.toList args.toList ds p:=hA0
 rw[Tryz.params3] at hA hval
 obtain ⟨v0,vs0,d0,ds0,p0,q0,hargs,rfl,rfl,h0,r0⟩:=trodAll_cons hA
 obtain ⟨rfl,rfl,rfl⟩:=trodAll_nil r0
 obtain rfl:args=#[v0]:=by cases args;simp_all
 obtain ⟨rfl,rfl⟩:=trodVars_none hV
 clear hA0
 simp only [List.append_nil] at hW'
 obtain ⟨A0,n0,c0,x0,b0,rfl,g0⟩:=Opens.sl oLTByte Tryz.underlying22 (hval 0 22 v0 rfl rfl) h0
 refine (walk _ _ _ x0 b0 W g0 ⟨tab_of_laid hL,hM⟩).mono fun e W' ⟨he,hB⟩=>?_
 subst he
 have l0:∀ x∈p0,x.block<W.heap.size:=fun x hx=>hW'.lt x (by simp[hx])
 refine ⟨_,rfl,_,_,_,[],p0,[],hW',trodAll_cons_mk (shut_bool Tryz.underlying4 _) trodAll_mk0,?_,rfl,hB.frame _,fun h=>by cases h⟩
 have ha:=trodAll_cons_mk (Below.trod laidOut (by kernel_rfl) (of_decide_eq_true (by kernel_rfl)) h0 hB l0) trodAll_mk0
 simp only [List.append_nil] at ha
 exact ha

theorem row_holds:Rows.FnStatesSaid :=
 OpenClaim.holds_of_wide 3 Tryz.f3 rfl rfl rfl rfl rfl rfl rfl ⟨rfl,rfl,rfl,rfl,rfl⟩ rfl rfl rfl rfl rfl F6g Tryz.func3 F7c F7k F7g
  (fun os started H enc _=>lifted os started H enc)
theorem proved:Rows.FnStatesCardSaid :=
 Claim7.holds_tied_plain_at .later [] [.data, .data, .data, .data, .sentinel, .sentinel, .pinned] true (true, "a513b87e2079c78511be89b3d2a498b597cb28a4ce45c16427b5d82fb6499692") true
  row_holds (fun _ h=>by cases h) (by kernel_rfl) (fun _ h=>by cases h) fnStates_row_tie rfl ⟨rfl,rfl⟩ (by kernel_rfl) rfl
  (fun f fn hf hfn=>by
   obtain rfl : f = 3 := Option.some.inj ((show Tryz.prog.funcNamed "loop.example/g00812/laws.FnStates" = some 3 by kernel_rfl).symm.trans hf) |>.symm
   obtain rfl:fn=Tryz.f3:=(Option.some.inj (Tryz.func3.symm.trans hfn)).symm
   exact ⟨by kernel_rfl,fun j t ht=>by
    rw[Tryz.params3] at ht
    have h3:t=22:=by
     rcases j with _ | j
     ·simpa using ht.symm
     simp at ht
    subst h3
    exact (show Tryz.prog.wantsStandIn 22=false by kernel_rfl)⟩)
  (by kernel_rfl)
#print axioms proved
end Go.Proofs.YtbkilakncnlebaaGreatDoor.fnStates
