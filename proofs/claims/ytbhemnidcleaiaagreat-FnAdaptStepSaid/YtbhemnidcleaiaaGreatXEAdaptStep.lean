/- FnAdaptStep: for every input,a step of the adaptive run on a coarse problem refines its mesh at the marked triangles and their closure,and changes the problem unless none is marked: the law returns true,and its argument reads as before. No condition. -/
import Derived.Test.YtbhemnidcleaiaaGreatY50
import Derived.Test.YtbhemnidcleaiaaGreatY51
import Derived.Test.YtbhemnidcleaiaaGreatY52
import Derived.OpenShut
set_option maxHeartbeats 16000000
set_option maxRecDepth 10000
namespace Go.Proofs.YtbhemnidcleaiaaGreat.fnAdaptStep
open Go.ChangeShapes Go.WideShapes Go.ChangeAt Go.RowKit Go.XB Go.XN Go.Proofs.YtbhemnidcleaiaaGreat.X
attribute [local go_sem] L_ Go.XB.opAt N_ M_ Region.wanted yielded
attribute [local simp] N_ M_ MP.eq MP.agg MP.sl A0r
set_option linter.constructorNameAsVariable false

theorem oTByte:Opens Tryz.prog 5 TByte:=fun enc w fuel cs y h=>by
 obtain ⟨n,rfl,_,hn⟩:=DataW.trod_int Tryz.underlying5 h
 exact ⟨⟨n⟩,[],rfl,rfl,by
  simp[Lit.wf,IntKind.min,IntKind.max,IntKind.signed,IntKind.bits] at hn
  show 0≤n∧n<256
  omega⟩
theorem oLTByte:Opens Tryz.prog 22 (List TByte):=Opens.slice Tryz.underlying22 (by kernel_rfl) oTByte

theorem walk (A0:Option Addr) (n0 c0:Nat) (x0:List TByte) (b0:List Nat) (w:World) (h0:Sl w A0 n0 c0 x0 b0) :
  Calls Tryz.prog 4 #[.slice A0 n0 c0] w (A0b w (.bool true)):=by
 have H0:=A_ h0
 have hm0:n0≤maxLen:=Nat.le_trans h0.2.1 h0.2.2.1
 unfold maxLen at hm0
 clear h0
 by_cases hbig:(1048576:Int)<n0
 ·go_enter Tryz.func4,Tryz.ntmps4
  go_wp2
  go_ret
  exact ⟨rfl,Below.refl _ _⟩
 have hn:n0≤1048576:=by omega
 go_enter Tryz.func4,Tryz.ntmps4
 go_wp2_with fail
 refine (B4b _ _ _ x0 _ w H0.o hn).mono ?_
 rintro _ w1 ⟨p,v1,s1,rfl,hp,ha1,hb1⟩
 have HP:=A_ hp;have HA1:=A_ ha1;have BW1:=A_ hb1
 obtain ⟨P,nP,cP,sP,T,nT,cT,sT,K,nK,cK,sK,F,nF,cF,sF,rfl,hz,hsP,hsT,hsK,hsF⟩:=TProblem.agg ha1
 have HMA:=A_ (TMesh.mkAgg (x:=p.mesh) hsP hsT)
 clear hp ha1 hb1 hz hsP hsT hsK hsF
 go_upto_region 4 with fail
 refine Code.new fun w2 Nw2=>?_
 have HB12:=A_ Nw2.o.b
 have HBX2:=A_ Nw2.o.k
 clear Nw2
 go_wp2_with fail
 refine (C8e _ _ _ x0 _ w2 (H0.o.below (Below.next BW1.o HB12.o)) hn).mono ?_
 rintro _ w3 ⟨b,hbb,v3,s3,rfl,ha3,ho3,hb3⟩
 obtain ⟨xs,ys,xs',ys',os,R,hS,hpt,hmk,hln,h48,hrf,hcp,heq⟩:=D7x HP.o hbb
 obtain ⟨part,hpart⟩:∃ r,mkR b 5=r:=⟨_,rfl⟩
 rw[hpart] at ha3 hpt hmk h48 hrf heq
 clear hpart hbb
 obtain ⟨L,hL⟩:∃ l,A5k (A2z p os).indicators part=l:=⟨_,rfl⟩
 have HS:=A_ hS;have HPT:=A_ hpt;have HMK:=A_ hmk;have HLN:=A_ hln;have HCP:=A_ hcp
 rw[hL] at h48 hrf heq
 have H48:=A_ h48;have HRF:=A_ hrf;have HEQ:=A_ heq;have HL:=A_ hL
 obtain ⟨E1,nE1,cE1,e1,E2,nE2,cE2,e2,rfl,hz3,_,_⟩:=TRat.agg ha3
 have HQ3:=A_ ha3;have HB13:=A_ (Below.next HB12.o hb3)
 have HBX3:=A_ (K_ HBX2.o hb3)
 clear hS hpt hmk hln h48 hrf hcp heq hL ha3 ho3 hb3 hz3 HB12 HBX2
 go_upto_region 5 with fail
 refine Code.new fun w4 Nw4=>?_
 have HB34:=A_ Nw4.o.b
 have HBT4:=A_ Nw4.o.k
 clear Nw4
 have HBX4:=A_ (K_ HBX3.o HB34.o)
 have HB14:=A_ (Below.next HB13.o HB34.o)
 have HQ4:=A_ (HQ3.o.below HB34.o)
 generalize w3.heap.size=gT at *
 clear HQ3 HBX3 HB13 HB34
 obtain ⟨p0_,-,-⟩:=bx HBX4.o
 obtain ⟨t0_,-,-⟩:=bx HBT4.o
 have hp4:w1.heap.size<w4.heap.size:=E_ HBX4.o
 have ht4:gT<w4.heap.size:=E_ HBT4.o
 go_wp2_with fail
 refine (A9t _ p _ _ part _ xs ys os w4 (HA1.o.below HB14.o) HQ4.o HS.o HPT.o HMK.o HLN.o).mono ?_
 rintro _ w5 ⟨A,n,c,bs,rfl,hs5,hb5⟩
 have HS5:=A_ (HL.o ▸ hs5)
 have HN5:=A_ (show n≤48 by rw[← HS5.o.1];exact H48.o)
 have HB15:=A_ (Below.next HB14.o hb5)
 have HBX5:=A_ (K_ HBX4.o hb5)
 have HBT5:=A_ (K_ HBT4.o hb5)
 have HQ5:=A_ (HQ4.o.below hb5)
 clear hs5 hb5 p0_ t0_ hp4 ht4 HBX4 HBT4 HB14 HQ4
 obtain ⟨p0_,-,hp5⟩:=bx HBX5.o
 go_wp2_with fail
 refine (B4s _ p.mesh _ (some A) n c L bs R xs ys xs' ys' w5 (HMA.o.below HB15.o) HS5.o HN5.o HRF.o).mono ?_
 rintro _ w6 ⟨v',s,rfl,ha,hn6,hb6⟩
 obtain ⟨A8,n8,c8,s8,A9,n9,c9,s9,rfl,rfl,h8,h9⟩:=TMesh.agg ha
 have HM6:=A_ ha
 have HB16:=A_ (Below.next HB15.o hb6)
 have HBX6:=A_ (K_ HBX5.o hb6)
 have HBT6:=A_ (K_ HBT5.o hb6)
 have HQ6:=A_ (HQ5.o.below hb6)
 clear h8 h9 ha hn6 hb6 p0_ hp5 HBX5 HBT5 HB15 HQ5
 go_upto_region 7 with fail
 refine Code.new fun w7 Nw7=>?_
 have HB67:=A_ Nw7.o.b
 have HBM7:=A_ Nw7.o.k
 clear Nw7
 have HB17:=A_ (Below.next HB16.o HB67.o)
 have HBX7:=A_ (K_ HBX6.o HB67.o)
 have HBT7:=A_ (K_ HBT6.o HB67.o)
 have HQ7:=A_ (HQ6.o.below HB67.o)
 have HM7:=A_ (HM6.o.below HB67.o)
 generalize w6.heap.size=gM at *
 clear HBX6 HBT6 HB16 HQ6 HM6 HB67
 obtain ⟨p0_,-,-⟩:=bx HBX7.o
 obtain ⟨t0_,-,-⟩:=bx HBT7.o
 have hp7:w1.heap.size<w7.heap.size:=E_ HBX7.o
 have ht7:gT<w7.heap.size:=E_ HBT7.o
 go_wp2_with fail
 refine (C7d _ p _ _ part _ xs ys xs' ys' os R w7 (HA1.o.below HB17.o) HQ7.o HS.o HPT.o HMK.o HLN.o (by rw[HL.o];exact H48.o) (by rw[HL.o];exact HRF.o) HCP.o).mono ?_
 rintro _ w8 ⟨v',s,rfl,ha,hn8,hb8⟩
 obtain ⟨F0,k0,d0,z0,F1,k1,d1,z1,F2,k2,d2,z2,F3,k3,d3,z3,rfl,rfl,h0,h1,h2,h3⟩:=TProblem.agg ha
 have HA8:=A_ ha
 have HM8:=A_ (TMesh.mkAgg (x:=A2m p.mesh R) h0 h1)
 have HB18:=A_ (Below.next HB17.o hb8)
 have HBX8:=A_ (K_ HBX7.o hb8)
 have HBM8:=A_ (K_ HBM7.o hb8)
 have HN8:=A_ (HM7.o.below hb8)
 clear h0 h1 h2 h3 ha hn8 hb8 p0_ t0_ hp7 ht7 HBX7 HBT7 HBM7 HB17 HQ7 HM7
 go_upto_region 8 with fail
 refine Code.new fun w9 Nw9=>?_
 have HB89:=A_ Nw9.o.b
 have HBQ9:=A_ Nw9.o.k
 clear Nw9
 have HB19:=A_ (Below.next HB18.o HB89.o)
 have HBX9:=A_ (K_ HBX8.o HB89.o)
 have HBM9:=A_ (K_ HBM8.o HB89.o)
 have HA9:=A_ (HA8.o.below HB89.o)
 have HM9:=A_ (HM8.o.below HB89.o)
 have HN9:=A_ (HN8.o.below HB89.o)
 generalize w8.heap.size=gQ at *
 clear HBX8 HBM8 HB18 HA8 HM8 HN8 HB89
 obtain ⟨p0_,-,-⟩:=bx HBX9.o
 obtain ⟨q0_,-,-⟩:=bx HBQ9.o
 obtain ⟨m0_,-,-⟩:=bx HBM9.o
 have hp9:w1.heap.size<w9.heap.size:=E_ HBX9.o
 have hq9:gQ<w9.heap.size:=E_ HBQ9.o
 have hm9:gM<w9.heap.size:=E_ HBM9.o
 go_wp2_with fail
 have C1:=A7i _ _ (A2m p.mesh R) (A2m p.mesh R) _ _ w9 HM9.o HN9.o
 rw[decide_eq_true rfl] at C1
 refine C1.mono ?_
 clear C1
 rintro _ w10 ⟨rfl,hb10⟩
 have HB10:=A_ (Below.next HB19.o hb10)
 have HBX10:=A_ (K_ HBX9.o hb10)
 have HBQ10:=A_ (K_ HBQ9.o hb10)
 have HA10:=A_ (HA9.o.below hb10)
 clear hb10 p0_ q0_ m0_ hp9 hq9 hm9 HBX9 HBQ9 HBM9 HB19 HM9 HN9 HA9
 obtain ⟨p0_,-,-⟩:=bx HBX10.o
 obtain ⟨q0_,-,-⟩:=bx HBQ10.o
 have hp10:w1.heap.size<w10.heap.size:=E_ HBX10.o
 have hq10:gQ<w10.heap.size:=E_ HBQ10.o
 have E:=A_ (show decide (p=⟨A2m p.mesh R,p.diffusion,p.source⟩)=decide (n=0) by
  have e1:decide (L=[])=decide (n=0):=decide_eq_decide.2 (by rw[← HS5.o.1];exact List.length_eq_zero_iff.symm)
  rw[← e1,HEQ.o]
  exact decide_eq_decide.2 ⟨fun h=>(congrArg TProblem.mesh h).symm,fun h=>by rw[h]⟩)
 have C2:=C1p _ _ p ⟨A2m p.mesh R,p.diffusion,p.source⟩ _ _ w10 (HA1.o.below HB10.o) HA10.o
 rw[E.o] at C2
 by_cases h0:n=0
 ·subst h0
  go_wp2_with fail
  refine C2.mono ?_
  rintro _ w11 ⟨rfl,hb11⟩
  clear C2
  go_wp2
  go_ret
  exact ⟨by simp,Below.next BW1.o (Below.next HB10.o hb11)⟩
 have hn0:((n:Int)==0)=false:=by simp;omega
 rw[decide_eq_false h0] at C2
 go_wp2_with fail
 refine C2.mono ?_
 rintro _ w11 ⟨rfl,hb11⟩
 clear C2
 go_wp2
 go_ret
 exact ⟨by simp,Below.next BW1.o (Below.next HB10.o hb11)⟩

theorem own:ownKnob Tryz.prog.godebug=none:=by kernel_rfl
theorem laidOut:laidOutB Tryz.prog=true:=by kernel_rfl

set_option maxRecDepth 100000 in
theorem lifted (os:Os) (started:os.Started) (H:Type) (enc:TypeId×Value→H) :
  ReturnsInHanded {} Tryz.checked os 4 .any (Rows.fnAdaptStepSpec.pre6 enc Tryz.prog Tryz.f4 Rows.fnAdaptStepRow.domain false) (Rows.fnAdaptStepSpec.post enc Tryz.prog Tryz.f4 false true false false):=by
 refine returnsInHanded_of_change (C:=Tryz.checked) own started (by kernel_rfl) Tryz.func4
  (ChangeSpec.witness6 (enc:=enc) (C:=Tryz.checked) false ⟨#[],#[.slice none 0 0],[]⟩ 8 (by kernel_rfl) (by kernel_rfl) (by kernel_rfl) (by kernel_rfl)) ?_
 intro W base args ds gs before hval0 hW hcnd _
 have hval:∀ (j:Nat) t v,Tryz.f4.params[j]?=some t→args[j]?=some v→Value.okWide Tryz.prog W .any base t v:=hval0
 have hW':=hW
 obtain ⟨p,q,hA0,hV,rfl,hfz,hnd⟩:=hW
 have hA:DataW.TrodAll enc Tryz.prog W 0 (fun _=>true) true Tryz.f4.params.toList args.toList ds p:=hA0
 rw[Tryz.params4] at hA hval
 obtain ⟨v0,vs0,d0,ds0,p0,q0,hargs,rfl,rfl,h0,r0⟩:=trodAll_cons hA
 obtain ⟨rfl,rfl,rfl⟩:=trodAll_nil r0
 obtain rfl:args=#[v0]:=by cases args;simp_all
 obtain ⟨rfl,rfl⟩:=trodVars_none hV
 clear hA0 hval0
 simp only [List.append_nil] at hW'
 obtain ⟨A0,n0,c0,x0,b0,rfl,g0⟩:=Opens.sl oLTByte Tryz.underlying22 (hval 0 22 v0 rfl rfl) h0
 refine (walk _ _ _ x0 b0 W g0).mono fun e W' ⟨he,hB⟩=>?_
 subst he
 have l0:∀ x∈p0,x.block<W.heap.size:=fun x hx=>hW'.lt x (by simp[hx])
 refine ⟨_,rfl,_,_,_,[],p0,[],hW',trodAll_cons_mk (shut_bool Tryz.underlying4 _) trodAll_mk0,?_,rfl,hB.frame _,fun h=>by cases h⟩
 have ha:=trodAll_cons_mk (Below.trod laidOut (by kernel_rfl) (of_decide_eq_true (by kernel_rfl)) h0 hB l0) trodAll_mk0
 simp only [List.append_nil] at ha
 exact ha

theorem proved:Rows.FnAdaptStepSaid :=
 OpenClaim.holds_of_wide 4 Tryz.f4 rfl rfl rfl rfl rfl rfl rfl ⟨rfl,rfl,rfl,rfl,rfl⟩ rfl rfl rfl rfl rfl (by kernel_rfl) Tryz.func4 (by kernel_rfl)
  (of_decide_eq_true (by kernel_rfl)) (by unfold Func.isWrapper;first | (rw[if_pos (by decide +kernel)];kernel_rfl) | (rw[if_neg (by decide +kernel)];exact ⟨rfl,rfl⟩))
  (fun os started H enc _=>lifted os started H enc)
#print axioms proved
end Go.Proofs.YtbhemnidcleaiaaGreat.fnAdaptStep
