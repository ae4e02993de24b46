/- A part of the proof. -/
import Derived.Ground.NamesProg
import Derived.Shelf.Strconv.Itoa3
import Derived.Shelf.Strings.BuilderK
import Derived.Shelf.Strings.Repeat
import Derived.RangeFuncWrites
import Derived.Shelf.Strings.SplitShaped
import Derived.Shelf.Strings.Shaped
import Derived.Shelf.Strings.OnBuilder
import Derived.Shelf.Strings.Prefix
import Derived.Shelf.Strconv.AtoiAll
import Derived.Test.YtbkilakncnlebaaGreatDoorY43
set_option linter.constructorNameAsVariable false
set_option maxHeartbeats 16000000
set_option maxRecDepth 10000
open Array renaming getElem?_eq_some_iff→QC
open Go renaming Calls→AR,World→J
open Go.Lib renaming byteCells→OJ,decDigits→FK,itoa→FS,split→LD
open Go.Proofs renaming cell_of_shapedOpen_int→QG
open Go.Shelf renaming Ren→MB
open List renaming length_map→KU,replicate→CJ
open Option renaming none→I,some→QL
namespace Go.Proofs.YtbkilakncnlebaaGreatDoor.X
open Go.Shelf Go.Proofs Proofs.Tryz
section
def F3j:MB:=⟨fun|171=>109|243=>166|246=>220|283=>268|284=>269|285=>270|286=>271|129=>299|317=>298|318=>300|319=>301|320=>302|337=>307|338=>308|n=>n,fun|3=>3|9=>9|2=>2|4=>4|171=>305|0=>0|53=>100|37=>22|5=>5|173=>308|212=>330|51=>283|20=>20|213=>331|46=>221|232=>338|233=>339|n=>n,fun|17=>5|18=>6|19=>7|n=>n⟩
theorem F6v:Go.Proofs.LaysM.n171 prog F3j:={
 mixed:=kR
 f129:=func299.trans (congrArg QL kR)
 f171:=func109.trans (congrArg QL kR)
 f243:=func166.trans (congrArg QL kR)
 f246:=func220.trans (congrArg QL kR)
 f283:=func268.trans (congrArg QL kR)
 f284:=func269.trans (congrArg QL kR)
 f285:=func270.trans (congrArg QL kR)
 f286:=func271.trans (congrArg QL kR)
 f317:=func298.trans (congrArg QL kR)
 f318:=func300.trans (congrArg QL kR)
 f319:=func301.trans (congrArg QL kR)
 f320:=func302.trans (congrArg QL kR)
 f337:=func307.trans (congrArg QL kR)
 f338:=func308.trans (congrArg QL kR)
 t0:=underlying0
 a0:=Tryz.isAgg0
 z0:=Tryz.sizeOf0
 v0:=Tryz.zeroValue0
 t2:=underlying2
 a2:=Tryz.isAgg2
 z2:=Tryz.sizeOf2
 v2:=Tryz.zeroValue2
 t3:=underlying3
 a3:=Tryz.isAgg3
 z3:=Tryz.sizeOf3
 v3:=Tryz.zeroValue3
 t4:=underlying4
 a4:=Tryz.isAgg4
 z4:=Tryz.sizeOf4
 v4:=Tryz.zeroValue4
 t5:=underlying5
 a5:=Tryz.isAgg5
 z5:=Tryz.sizeOf5
 v5:=Tryz.zeroValue5
 t9:=underlying9
 a9:=Tryz.isAgg9
 z9:=Tryz.sizeOf9
 v9:=Tryz.zeroValue9
 t20:=underlying20
 a20:=Tryz.isAgg20
 z20:=Tryz.sizeOf20
 v20:=Tryz.zeroValue20
 t37:=underlying22
 a37:=Tryz.isAgg22
 z37:=Tryz.sizeOf22
 v37:=Tryz.zeroValue22
 t46:=underlying221
 a46:=Tryz.isAgg221
 z46:=Tryz.sizeOf221
 v46:=Tryz.zeroValue221
 t51:=underlying283
 a51:=Tryz.isAgg283
 z51:=Tryz.sizeOf283
 v51:=Tryz.zeroValue283
 t53:=underlying100
 a53:=Tryz.isAgg100
 z53:=Tryz.sizeOf100
 v53:=Tryz.zeroValue100
 t171:=underlying305
 a171:=Tryz.isAgg305
 z171:=Tryz.sizeOf305
 v171:=Tryz.zeroValue305
 t173:=underlying308
 a173:=Tryz.isAgg308
 z173:=Tryz.sizeOf308
 v173:=Tryz.zeroValue308
 t212:=underlying330
 a212:=Tryz.isAgg330
 z212:=Tryz.sizeOf330
 v212:=Tryz.zeroValue330
 t213:=underlying331
 a213:=Tryz.isAgg331
 z213:=Tryz.sizeOf331
 t232:=underlying338
 a232:=Tryz.isAgg338
 z232:=Tryz.sizeOf338
 v232:=Tryz.zeroValue338
 t233:=underlying339
 a233:=Tryz.isAgg339
 z233:=Tryz.sizeOf339
 v233:=Tryz.zeroValue339
 g17:=kR
 g18:=kR
 g19:=kR
 i0:=kR
 i2:=kR
 i3:=kR
 i4:=kR
 i5:=kR
 i9:=kR
 i20:=kR
 i37:=kR
 i46:=kR
 i51:=kR
 i53:=kR
 i171:=kR
 i173:=kR
 i212:=kR
 i232:=kR
 i233:=kR
 m17:=kR
 m18:=kR
 m19:=by kernel_rfl }
def E0a:MB:=⟨fun|105=>264|212=>186|99=>23|165=>101|166=>102|170=>295|169=>103|263=>239|264=>240|206=>56|240=>158|241=>159|276=>210|277=>211|n=>n,fun|9=>9|3=>3|4=>4|20=>20|0=>0|46=>221|109=>232|5=>5|72=>152|76=>156|51=>283|146=>284|53=>100|148=>286|70=>150|37=>22|75=>155|127=>210|164=>254|80=>158|n=>n,fun|n=>n⟩
theorem F5c:Go.Proofs.Lays.n105 prog E0a:={
 mixed:=kR
 f99:=func23.trans (congrArg QL kR)
 f105:=func264.trans (congrArg QL kR)
 f165:=func101.trans (congrArg QL kR)
 f166:=func102.trans (congrArg QL kR)
 f169:=func103.trans (congrArg QL kR)
 f170:=func295.trans (congrArg QL kR)
 f206:=func56.trans (congrArg QL kR)
 f212:=func186.trans (congrArg QL kR)
 f240:=func158.trans (congrArg QL kR)
 f241:=func159.trans (congrArg QL kR)
 f263:=func239.trans (congrArg QL kR)
 f264:=func240.trans (congrArg QL kR)
 f276:=func210.trans (congrArg QL kR)
 f277:=func211.trans (congrArg QL kR)
 t0:=underlying0
 a0:=Tryz.isAgg0
 z0:=Tryz.sizeOf0
 v0:=Tryz.zeroValue0
 t3:=underlying3
 a3:=Tryz.isAgg3
 z3:=Tryz.sizeOf3
 v3:=Tryz.zeroValue3
 t4:=underlying4
 a4:=Tryz.isAgg4
 z4:=Tryz.sizeOf4
 v4:=Tryz.zeroValue4
 t5:=underlying5
 a5:=Tryz.isAgg5
 z5:=Tryz.sizeOf5
 v5:=Tryz.zeroValue5
 t9:=underlying9
 a9:=Tryz.isAgg9
 z9:=Tryz.sizeOf9
 v9:=Tryz.zeroValue9
 t20:=underlying20
 a20:=Tryz.isAgg20
 z20:=Tryz.sizeOf20
 v20:=Tryz.zeroValue20
 t37:=underlying22
 a37:=Tryz.isAgg22
 z37:=Tryz.sizeOf22
 v37:=Tryz.zeroValue22
 t46:=underlying221
 a46:=Tryz.isAgg221
 z46:=Tryz.sizeOf221
 v46:=Tryz.zeroValue221
 t51:=underlying283
 a51:=Tryz.isAgg283
 z51:=Tryz.sizeOf283
 v51:=Tryz.zeroValue283
 t53:=underlying100
 a53:=Tryz.isAgg100
 z53:=Tryz.sizeOf100
 v53:=Tryz.zeroValue100
 t70:=underlying150
 a70:=Tryz.isAgg150
 z70:=Tryz.sizeOf150
 v70:=Tryz.zeroValue150
 t72:=underlying152
 a72:=Tryz.isAgg152
 z72:=Tryz.sizeOf152
 v72:=Tryz.zeroValue152
 t75:=underlying155
 a75:=Tryz.isAgg155
 z75:=Tryz.sizeOf155
 v75:=Tryz.zeroValue155
 t76:=underlying156
 a76:=Tryz.isAgg156
 z76:=Tryz.sizeOf156
 v76:=Tryz.zeroValue156
 t109:=underlying232
 a109:=Tryz.isAgg232
 z109:=Tryz.sizeOf232
 v109:=Tryz.zeroValue232
 t127:=underlying210
 a127:=Tryz.isAgg210
 z127:=Tryz.sizeOf210
 v127:=Tryz.zeroValue210
 t146:=underlying284
 a146:=Tryz.isAgg284
 z146:=Tryz.sizeOf284
 v146:=Tryz.zeroValue284
 t148:=underlying286
 a148:=Tryz.isAgg286
 z148:=Tryz.sizeOf286
 v148:=Tryz.zeroValue286
 t164:=underlying254
 a164:=Tryz.isAgg254
 z164:=Tryz.sizeOf254
 v164:=Tryz.zeroValue254 }
def E0t:MB:=⟨fun|169=>103|n=>n,fun|70=>150|9=>9|0=>0|72=>152|37=>22|127=>210|3=>3|5=>5|n=>n,fun|n=>n⟩
theorem F7j:Go.Proofs.Lays.n169 prog E0t:={
 mixed:=kR
 f169:=func103.trans (congrArg QL kR)
 t0:=underlying0
 a0:=Tryz.isAgg0
 z0:=Tryz.sizeOf0
 v0:=Tryz.zeroValue0
 t3:=underlying3
 a3:=Tryz.isAgg3
 z3:=Tryz.sizeOf3
 v3:=Tryz.zeroValue3
 t9:=underlying9
 a9:=Tryz.isAgg9
 z9:=Tryz.sizeOf9
 v9:=Tryz.zeroValue9
 t37:=underlying22
 a37:=Tryz.isAgg22
 z37:=Tryz.sizeOf22
 v37:=Tryz.zeroValue22
 t70:=underlying150
 a70:=Tryz.isAgg150
 z70:=Tryz.sizeOf150
 v70:=Tryz.zeroValue150
 t72:=underlying152
 a72:=Tryz.isAgg152
 z72:=Tryz.sizeOf152
 v72:=Tryz.zeroValue152
 t127:=underlying210
 a127:=Tryz.isAgg210
 z127:=Tryz.sizeOf210
 v127:=Tryz.zeroValue210 }
theorem F4g:Builder.Extra prog E0a where
 sizeBuilder:=kR
 liesBuilder:=kR
 t5:=underlying5
 a5:=Tryz.isAgg5
 z5:=Tryz.sizeOf5
 v5:=Tryz.zeroValue5
 infoByte:=kR
 cellsByte:=kR
 sizeByte:=kR
 neB5:=dE
theorem F6u:Builder.Extra prog E0t where
 sizeBuilder:=kR
 liesBuilder:=kR
 t5:=underlying5
 a5:=Tryz.isAgg5
 z5:=Tryz.sizeOf5
 v5:=Tryz.zeroValue5
 infoByte:=kR
 cellsByte:=kR
 sizeByte:=kR
 neB5:=dE
open Go.RowKit Go.Shelf Go.XB Go.XN

def TabOk (w : World) : Prop := Lib.TabIs prog w "internal/strconv.uint64pow10" .u64 Lib.pow10Tab
theorem TabOk.below {w u:J} (h:TabOk w) (D:Bw w u):TabOk u:=by
 unfold TabOk Lib.TabIs J.var? at h ⊢
 revert h
 cases G : prog.globalNamed "internal/strconv.uint64pow10" with
 |none=>simp
 |some g =>
  simp only[Option.bind_some]
  intro h
  have E:g<w.1.size:=by
   rcases Nat.lt_or_ge g w.1.size with b|b
   ·exact b
   rw[Array.getElem?_eq_none b]at h;simp at h
  rw[D.block g E];exact h

theorem F3g (w:J) (n:Nat) (os:Array Obj):Bw w (Sort.grow (w.drewN n) os) :=
 ⟨rfl,rfl,rfl,by show w.1.size<=(w.1++os).size;simp,λk hk=>by show(w.1++os)[k]?=_;rw[Array.getElem?_append_left hk]⟩
theorem F6m (n:Int) (h0:-9223372036854775808<=n) (h1:n<=9223372036854775807) (w:J) (ht:TabOk w) :
  AR prog 109 #[.int .i64 n] w (A0b w (.string ⟨(FS n).toArray⟩)) :=
 (Any.strconv_Itoa F6v n h0 h1 w ht).mono λ_ _ ⟨he,k,os,hw⟩=>⟨he,hw ▸ F3g w k os⟩

theorem F4f:∀ k:Nat,Lib.repeatL [(48:UInt8)] k=CJ k 48
 |0=>rfl
 |k+1=>by
  have:=F4f k
  simp only[Lib.repeatL]at this ⊢
  rw[List.replicate_succ]
  simp[*]
theorem F4v (k:Nat) (hk:k<=9) (w:J) :
  AR prog 264 #[.string ⟨#[48]⟩,.int .i64 k] w (A0b w (.string ⟨(CJ k (48:UInt8)).toArray⟩)) :=
 (Any.strings_Repeat F5c F4g ⟨#[48]⟩ k w oS (by show 1*k<=_;omega)).mono λ_ _ ⟨he,hw⟩=>⟨by
  rw[he]
  show Ending.returned (.string ⟨(Lib.repeatL [48] k).toArray⟩)=_
  rw[F4f],hw⟩

def Bld (B b:Nat) (l:List UInt8) (w:J):Prop:=Lib.IsBuilderF 152 5 B b (OJ l) w
theorem C3c (B b:Nat) (l s:List UInt8) (w:J) (h:Bld B b l w) (hl:l.length+s.length<=140737488355328) (hB:B<=w.1.size) :
  AR prog 102 #[.pointer (QL ⟨b,0,I⟩),.string ⟨s.toArray⟩] w λe w' =>
   e=.returned (.tuple #[.int .i64 s.length,.nilIface])/\Bld B b (l++s) w'/\Below B w w'/\Lib.OthersKept 5 (QL b) w w' :=
 (Any.Builder_WriteString_k { F5c with } F4g B b (OJ l) ⟨s.toArray⟩ w h (by rw[Lib.byteCells_length];exact hl) hB).mono λ_ _ ⟨he,h1,h2,h3⟩ =>
  ⟨he,.inr (by rw[Lib.byteCells_append];exact h1),h2,h3⟩
theorem E6s (B b:Nat) (l:List UInt8) (w:J) (h:Bld B b l w) (hB:B<=w.1.size) :
  AR prog 103 #[.pointer (QL ⟨b,0,I⟩)] w λe w'=>e=.returned (.string ⟨l.toArray⟩)/\Below B w w'/\Lib.OthersKept 5 (QL b) w w' :=
 (Any.Builder_String_any_k F7j F6u B b l w h hB).mono λ_ _ ⟨he,_,h2,h3⟩=>⟨he,h2,h3⟩
theorem F4i {B b:Nat} {l:List UInt8} {w w':J} (h:Bld B b l w) (hb:Below B w w') (hk:Lib.OthersKept 5 (QL b) w w'):KeepsOthers w w' :=
 ⟨hb.size,λk o ho hc=>hk k o ho (by
  rintro e;cases e
  rcases h with⟨_,v,hv,_⟩|⟨_,v,hv,_⟩<;>(rw[hv]at ho;cases ho;cases hc)) (by rintro c fz rfl;cases hc)⟩
theorem F3q {w w':J} (hb:Bw w w'):KeepsOthers w w':=⟨hb.size,λk o ho _=>by rw[hb.block k (QC.1 ho).1];exact ho⟩
theorem Bld.below {B b:Nat} {l:List UInt8} {w w':J} (h:Bld B b l w) (u:Bw w w'):Bld B b l w':=by
 have f:∀ p,Lib.BuilderAtF 152 5 B b p (OJ l) w->Lib.BuilderAtF 152 5 B b p (OJ l) w':=by rintro p ⟨E,v,D,O,H⟩;exact⟨E,v,by rw[u.block b (QC.1 D).1];exact D,O.kept (row:=I) ⟨u.os,u.tape,u.output,u.size,λk G _=>u.block k G⟩ (by cases v.ownBlock<;>simp),H⟩
 exact h.elim (λh=>.inl (f _ h)) (λh=>.inr (f _ h))
theorem Bld.own {B b:Nat} {l:List UInt8} {w w':J} {row:Option Nat} (h:Bld B b l w) (G:w.grownBy w' row) (O:∀ r,row=QL r->∃ o:Obj,w.1[r]?=QL o/\o.isCells=false):Bld B b l w':=by
 have f:∀ p,Lib.BuilderAtF 152 5 B b p (OJ l) w->Lib.BuilderAtF 152 5 B b p (OJ l) w':=by
  rintro p ⟨T,v,E,H,X⟩;refine⟨T,v,?_,H.kept G ?_,X⟩;·rw[G.block b (QC.1 E).1 (λe=>by obtain⟨o,u,D⟩:=O b e.symm;rw[E]at u;cases u;cases D)];exact E
  rcases H.2 with⟨rfl,_⟩|⟨g,cap,Y,Z,rfl,_,W,_⟩;·exact .inl rfl
  refine .inr ?_;intro e;obtain⟨o,u,D⟩:=O g e.symm;rw[W]at u;cases u;cases D
 exact h.elim (λh=>.inl (f _ h)) (λh=>.inr (f _ h))
theorem Bld.fresh (w:J):Bld w.1.size w.1.size [] (w.alloc (.cells #[.pointer I,.slice I 0 0] 152)):=Lib.IsBuilderF.of (Lib.fresh_isBuilder _ _ w)
end
section
def F3h:MB:=⟨fun|146=>55|221=>96|268=>154|138=>155|143=>156|195=>206|197=>207|218=>208|219=>209|260=>258|217=>259|225=>260|224=>261|267=>262|266=>293|314=>294|n=>n,fun|9=>9|31=>60|3=>3|4=>4|0=>0|105=>251|21=>21|5=>5|46=>221|119=>320|139=>323|138=>322|146=>284|51=>283|n=>n,fun|1=>0|3=>3|4=>4|n=>n⟩
theorem laysM146:Go.Proofs.LaysM.n146 prog F3h:={
 mixed:=kR
 f138:=func155.trans (congrArg QL kR)
 f143:=func156.trans (congrArg QL kR)
 f146:=func55.trans (congrArg QL kR)
 f195:=func206.trans (congrArg QL kR)
 f197:=func207.trans (congrArg QL kR)
 f217:=func259.trans (congrArg QL kR)
 f218:=func208.trans (congrArg QL kR)
 f219:=func209.trans (congrArg QL kR)
 f221:=func96.trans (congrArg QL kR)
 f224:=func261.trans (congrArg QL kR)
 f225:=func260.trans (congrArg QL kR)
 f260:=func258.trans (congrArg QL kR)
 f266:=func293.trans (congrArg QL kR)
 f267:=func262.trans (congrArg QL kR)
 f268:=func154.trans (congrArg QL kR)
 f314:=func294.trans (congrArg QL kR)
 t0:=underlying0
 a0:=Tryz.isAgg0
 z0:=Tryz.sizeOf0
 v0:=Tryz.zeroValue0
 t3:=underlying3
 a3:=Tryz.isAgg3
 z3:=Tryz.sizeOf3
 v3:=Tryz.zeroValue3
 t4:=underlying4
 a4:=Tryz.isAgg4
 z4:=Tryz.sizeOf4
 v4:=Tryz.zeroValue4
 t5:=underlying5
 a5:=Tryz.isAgg5
 z5:=Tryz.sizeOf5
 v5:=Tryz.zeroValue5
 t9:=underlying9
 a9:=Tryz.isAgg9
 z9:=Tryz.sizeOf9
 v9:=Tryz.zeroValue9
 t21:=underlying21
 a21:=Tryz.isAgg21
 z21:=Tryz.sizeOf21
 v21:=Tryz.zeroValue21
 t31:=underlying60
 a31:=Tryz.isAgg60
 z31:=Tryz.sizeOf60
 v31:=Tryz.zeroValue60
 t46:=underlying221
 a46:=Tryz.isAgg221
 z46:=Tryz.sizeOf221
 v46:=Tryz.zeroValue221
 t51:=underlying283
 a51:=Tryz.isAgg283
 z51:=Tryz.sizeOf283
 v51:=Tryz.zeroValue283
 t105:=underlying251
 a105:=Tryz.isAgg251
 z105:=Tryz.sizeOf251
 v105:=Tryz.zeroValue251
 t119:=underlying320
 a119:=Tryz.isAgg320
 z119:=Tryz.sizeOf320
 t138:=underlying322
 a138:=Tryz.isAgg322
 z138:=Tryz.sizeOf322
 v138:=Tryz.zeroValue322
 t139:=underlying323
 a139:=Tryz.isAgg323
 z139:=Tryz.sizeOf323
 v139:=Tryz.zeroValue323
 t146:=underlying284
 a146:=Tryz.isAgg284
 z146:=Tryz.sizeOf284
 v146:=Tryz.zeroValue284
 g1:=kR
 g3:=kR
 g4:=kR
 i0:=kR
 i3:=kR
 i4:=kR
 i5:=kR
 i9:=kR
 i21:=kR
 i31:=kR
 i46:=kR
 i51:=kR
 i105:=kR
 i138:=kR
 i139:=kR
 i146:=kR
 m1:=kR
 s1_3:=λw h=>QG (zero:=#[.int .i64 0]) (t:=3) h (of_decide_eq_true kR) kR rfl kR kR underlying3
 m3:=kR
 m4:=by kernel_rfl }
def laysM145_ren:MB:=⟨fun|145=>104|220=>160|219=>209|217=>259|225=>260|224=>261|267=>262|266=>293|314=>294|n=>n,fun|9=>9|4=>4|59=>159|3=>3|5=>5|46=>221|146=>284|51=>283|n=>n,fun|1=>0|n=>n⟩
theorem laysM145:Go.Proofs.LaysM.n145 prog laysM145_ren:={
 mixed:=kR
 f145:=func104.trans (congrArg QL kR)
 f217:=func259.trans (congrArg QL kR)
 f219:=func209.trans (congrArg QL kR)
 f220:=func160.trans (congrArg QL kR)
 f224:=func261.trans (congrArg QL kR)
 f225:=func260.trans (congrArg QL kR)
 f266:=func293.trans (congrArg QL kR)
 f267:=func262.trans (congrArg QL kR)
 f314:=func294.trans (congrArg QL kR)
 t3:=underlying3
 a3:=Tryz.isAgg3
 z3:=Tryz.sizeOf3
 v3:=Tryz.zeroValue3
 t4:=underlying4
 a4:=Tryz.isAgg4
 z4:=Tryz.sizeOf4
 v4:=Tryz.zeroValue4
 t5:=underlying5
 a5:=Tryz.isAgg5
 z5:=Tryz.sizeOf5
 v5:=Tryz.zeroValue5
 t9:=underlying9
 a9:=Tryz.isAgg9
 z9:=Tryz.sizeOf9
 v9:=Tryz.zeroValue9
 t46:=underlying221
 a46:=Tryz.isAgg221
 z46:=Tryz.sizeOf221
 v46:=Tryz.zeroValue221
 t51:=underlying283
 a51:=Tryz.isAgg283
 z51:=Tryz.sizeOf283
 v51:=Tryz.zeroValue283
 t59:=underlying159
 a59:=Tryz.isAgg159
 z59:=Tryz.sizeOf159
 v59:=Tryz.zeroValue159
 t146:=underlying284
 a146:=Tryz.isAgg284
 z146:=Tryz.sizeOf284
 v146:=Tryz.zeroValue284
 g1:=kR
 i3:=kR
 i4:=kR
 i5:=kR
 i9:=kR
 i46:=kR
 i51:=kR
 i59:=kR
 i146:=kR
 m1:=kR
 s1_3:=λw h=>QG (zero:=#[.int .i64 0]) (t:=3) h (of_decide_eq_true kR) kR rfl kR kR underlying3 }
def E1n:MB:=⟨fun|156=>59|165=>101|166=>102|169=>103|240=>158|241=>159|276=>210|277=>211|n=>n,fun|31=>60|9=>9|3=>3|4=>4|0=>0|20=>20|72=>152|76=>156|70=>150|37=>22|75=>155|127=>210|164=>254|5=>5|80=>158|n=>n,fun|n=>n⟩
theorem F7f:Go.Proofs.Lays.n156 prog E1n:={
 mixed:=kR
 f156:=func59.trans (congrArg QL kR)
 f165:=func101.trans (congrArg QL kR)
 f166:=func102.trans (congrArg QL kR)
 f169:=func103.trans (congrArg QL kR)
 f240:=func158.trans (congrArg QL kR)
 f241:=func159.trans (congrArg QL kR)
 f276:=func210.trans (congrArg QL kR)
 f277:=func211.trans (congrArg QL kR)
 t0:=underlying0
 a0:=Tryz.isAgg0
 z0:=Tryz.sizeOf0
 v0:=Tryz.zeroValue0
 t3:=underlying3
 a3:=Tryz.isAgg3
 z3:=Tryz.sizeOf3
 v3:=Tryz.zeroValue3
 t4:=underlying4
 a4:=Tryz.isAgg4
 z4:=Tryz.sizeOf4
 v4:=Tryz.zeroValue4
 t9:=underlying9
 a9:=Tryz.isAgg9
 z9:=Tryz.sizeOf9
 v9:=Tryz.zeroValue9
 t20:=underlying20
 a20:=Tryz.isAgg20
 z20:=Tryz.sizeOf20
 v20:=Tryz.zeroValue20
 t31:=underlying60
 a31:=Tryz.isAgg60
 z31:=Tryz.sizeOf60
 v31:=Tryz.zeroValue60
 t37:=underlying22
 a37:=Tryz.isAgg22
 z37:=Tryz.sizeOf22
 v37:=Tryz.zeroValue22
 t70:=underlying150
 a70:=Tryz.isAgg150
 z70:=Tryz.sizeOf150
 v70:=Tryz.zeroValue150
 t72:=underlying152
 a72:=Tryz.isAgg152
 z72:=Tryz.sizeOf152
 v72:=Tryz.zeroValue152
 t75:=underlying155
 a75:=Tryz.isAgg155
 z75:=Tryz.sizeOf155
 v75:=Tryz.zeroValue155
 t76:=underlying156
 a76:=Tryz.isAgg156
 z76:=Tryz.sizeOf156
 v76:=Tryz.zeroValue156
 t127:=underlying210
 a127:=Tryz.isAgg210
 z127:=Tryz.sizeOf210
 v127:=Tryz.zeroValue210
 t164:=underlying254
 a164:=Tryz.isAgg254
 z164:=Tryz.sizeOf254
 v164:=Tryz.zeroValue254 }
def F4u:MB:=⟨fun|99=>23|206=>56|n=>n,fun|9=>9|4=>4|3=>3|n=>n,fun|n=>n⟩
theorem F7v:Go.Proofs.Lays.n99 prog F4u:={
 mixed:=kR
 f99:=func23.trans (congrArg QL kR)
 f206:=func56.trans (congrArg QL kR)
 t3:=underlying3
 a3:=Tryz.isAgg3
 z3:=Tryz.sizeOf3
 v3:=Tryz.zeroValue3
 t4:=underlying4
 a4:=Tryz.isAgg4
 z4:=Tryz.sizeOf4
 v4:=Tryz.zeroValue4
 t9:=underlying9
 a9:=Tryz.isAgg9
 z9:=Tryz.sizeOf9
 v9:=Tryz.zeroValue9 }
def F3f:MB:=⟨fun|172=>108|244=>164|245=>165|247=>215|279=>216|280=>217|281=>218|282=>219|287=>265|316=>266|171=>109|205=>267|321=>296|322=>297|243=>166|246=>220|283=>268|284=>269|285=>270|286=>271|129=>299|317=>298|318=>300|319=>301|320=>302|337=>307|338=>308|n=>n,fun|9=>9|3=>3|75=>155|76=>156|4=>4|5=>5|167=>262|37=>22|0=>0|85=>263|2=>2|168=>265|53=>100|175=>299|46=>221|210=>303|127=>210|145=>328|143=>326|21=>21|171=>305|173=>308|212=>330|51=>283|20=>20|213=>331|232=>338|233=>339|80=>158|n=>n,fun|15=>1|16=>2|17=>5|18=>6|19=>7|n=>n⟩
theorem F6a:Go.Proofs.LaysC.n172 prog F3f:={
 mixed:=kR
 f129:=func299.trans (congrArg QL kR)
 f171:=func109.trans (congrArg QL kR)
 f172:=func108.trans (congrArg QL kR)
 f205:=func267.trans (congrArg QL kR)
 f243:=func166.trans (congrArg QL kR)
 f244:=func164.trans (congrArg QL kR)
 f245:=func165.trans (congrArg QL kR)
 f246:=func220.trans (congrArg QL kR)
 f247:=func215.trans (congrArg QL kR)
 f279:=func216.trans (congrArg QL kR)
 f280:=func217.trans (congrArg QL kR)
 f281:=func218.trans (congrArg QL kR)
 f282:=func219.trans (congrArg QL kR)
 f283:=func268.trans (congrArg QL kR)
 f284:=func269.trans (congrArg QL kR)
 f285:=func270.trans (congrArg QL kR)
 f286:=func271.trans (congrArg QL kR)
 f287:=func265.trans (congrArg QL kR)
 f316:=func266.trans (congrArg QL kR)
 f317:=func298.trans (congrArg QL kR)
 f318:=func300.trans (congrArg QL kR)
 f319:=func301.trans (congrArg QL kR)
 f320:=func302.trans (congrArg QL kR)
 f321:=func296.trans (congrArg QL kR)
 f322:=func297.trans (congrArg QL kR)
 f337:=func307.trans (congrArg QL kR)
 f338:=func308.trans (congrArg QL kR)
 t0:=underlying0
 a0:=Tryz.isAgg0
 z0:=Tryz.sizeOf0
 v0:=Tryz.zeroValue0
 t2:=underlying2
 a2:=Tryz.isAgg2
 z2:=Tryz.sizeOf2
 v2:=Tryz.zeroValue2
 t3:=underlying3
 a3:=Tryz.isAgg3
 z3:=Tryz.sizeOf3
 v3:=Tryz.zeroValue3
 t4:=underlying4
 a4:=Tryz.isAgg4
 z4:=Tryz.sizeOf4
 v4:=Tryz.zeroValue4
 t5:=underlying5
 a5:=Tryz.isAgg5
 z5:=Tryz.sizeOf5
 v5:=Tryz.zeroValue5
 t9:=underlying9
 a9:=Tryz.isAgg9
 z9:=Tryz.sizeOf9
 v9:=Tryz.zeroValue9
 t20:=underlying20
 a20:=Tryz.isAgg20
 z20:=Tryz.sizeOf20
 v20:=Tryz.zeroValue20
 t21:=underlying21
 a21:=Tryz.isAgg21
 z21:=Tryz.sizeOf21
 v21:=Tryz.zeroValue21
 t37:=underlying22
 a37:=Tryz.isAgg22
 z37:=Tryz.sizeOf22
 v37:=Tryz.zeroValue22
 t46:=underlying221
 a46:=Tryz.isAgg221
 z46:=Tryz.sizeOf221
 v46:=Tryz.zeroValue221
 t51:=underlying283
 a51:=Tryz.isAgg283
 z51:=Tryz.sizeOf283
 v51:=Tryz.zeroValue283
 t53:=underlying100
 a53:=Tryz.isAgg100
 z53:=Tryz.sizeOf100
 v53:=Tryz.zeroValue100
 t75:=underlying155
 a75:=Tryz.isAgg155
 z75:=Tryz.sizeOf155
 v75:=Tryz.zeroValue155
 t76:=underlying156
 a76:=Tryz.isAgg156
 z76:=Tryz.sizeOf156
 v76:=Tryz.zeroValue156
 t85:=underlying263
 a85:=Tryz.isAgg263
 z85:=Tryz.sizeOf263
 v85:=Tryz.zeroValue263
 t127:=underlying210
 a127:=Tryz.isAgg210
 z127:=Tryz.sizeOf210
 v127:=Tryz.zeroValue210
 t143:=underlying326
 a143:=Tryz.isAgg326
 z143:=Tryz.sizeOf326
 v143:=Tryz.zeroValue326
 t145:=underlying328
 a145:=Tryz.isAgg328
 z145:=Tryz.sizeOf328
 v145:=Tryz.zeroValue328
 t167:=underlying262
 a167:=Tryz.isAgg262
 z167:=Tryz.sizeOf262
 v167:=Tryz.zeroValue262
 t168:=underlying265
 a168:=Tryz.isAgg265
 z168:=Tryz.sizeOf265
 v168:=Tryz.zeroValue265
 t171:=underlying305
 a171:=Tryz.isAgg305
 z171:=Tryz.sizeOf305
 v171:=Tryz.zeroValue305
 t173:=underlying308
 a173:=Tryz.isAgg308
 z173:=Tryz.sizeOf308
 v173:=Tryz.zeroValue308
 t175:=underlying299
 a175:=Tryz.isAgg299
 z175:=Tryz.sizeOf299
 v175:=Tryz.zeroValue299
 t210:=underlying303
 a210:=Tryz.isAgg303
 z210:=Tryz.sizeOf303
 v210:=Tryz.zeroValue303
 t212:=underlying330
 a212:=Tryz.isAgg330
 z212:=Tryz.sizeOf330
 v212:=Tryz.zeroValue330
 t213:=underlying331
 a213:=Tryz.isAgg331
 z213:=Tryz.sizeOf331
 t232:=underlying338
 a232:=Tryz.isAgg338
 z232:=Tryz.sizeOf338
 v232:=Tryz.zeroValue338
 t233:=underlying339
 a233:=Tryz.isAgg339
 z233:=Tryz.sizeOf339
 v233:=Tryz.zeroValue339
 g15:=kR
 g16:=kR
 g17:=kR
 g18:=kR
 g19:=kR
 t80:=underlying158
 a80:=Tryz.isAgg158
 z80:=Tryz.sizeOf158
 v80:=Tryz.zeroValue158
 i0:=kR
 i2:=kR
 i3:=kR
 i4:=kR
 i5:=kR
 i9:=kR
 i20:=kR
 i21:=kR
 i37:=kR
 i46:=kR
 i51:=kR
 i53:=kR
 i75:=kR
 i76:=kR
 i80:=kR
 i85:=kR
 i127:=kR
 i143:=kR
 i145:=kR
 i167:=kR
 i168:=kR
 i171:=kR
 i173:=kR
 i175:=kR
 i210:=kR
 i212:=kR
 i232:=kR
 i233:=kR
 m15:=kR
 m16:=kR
 m17:=kR
 m18:=kR
 m19:=kR
 c0:=kR
 c2:=kR
 c3:=kR
 c4:=kR
 c5:=kR
 c9:=kR
 c20:=kR
 c21:=kR
 c37:=kR
 c46:=kR
 c51:=kR
 c53:=kR
 c75:=kR
 c76:=kR
 c80:=kR
 c85:=kR
 c127:=kR
 c143:=kR
 c145:=kR
 c167:=kR
 c168:=kR
 c171:=kR
 c173:=kR
 c175:=kR
 c210:=kR
 c212:=kR
 c213:=kR
 c232:=kR
 c233:=by kernel_rfl }
theorem F6e:Builder.Extra prog E1n where
 sizeBuilder:=kR
 liesBuilder:=kR
 t5:=underlying5
 a5:=Tryz.isAgg5
 z5:=Tryz.sizeOf5
 v5:=Tryz.zeroValue5
 infoByte:=kR
 cellsByte:=kR
 sizeByte:=kR
 neB5:=dE
open Go.RowKit Go.Shelf Go.XB Go.XN

def MaxOk (w:J):Prop:=∃ m,w.cell? ⟨laysM145_ren.g 1,0,I⟩=QL (.int .i64 m)
theorem MaxOk.below {w b:J} (h:MaxOk w) (u:Bw w b):MaxOk b:=by
 obtain⟨m,h⟩:=h;exact⟨m,(u.cell (show(⟨laysM145_ren.g 1,0,I⟩:Addr).block<w.1.size from Lib.lt_of_cell h)).trans h⟩
structure TxOk (w:J):Prop where
 t:TabOk w
 m:MaxOk w
theorem TxOk.below {w W:J} (h:TxOk w) (hb:Bw w W):TxOk W:=⟨h.t.below hb,h.m.below hb⟩

theorem F5b (s:List UInt8) (c:UInt8) (h:s.length<4294967281) (w:J) (b:MaxOk w) :
  AR prog 104 #[.string ⟨s.toArray⟩,.string ⟨#[c]⟩] w (A0b w (.tuple #[.string ⟨(Lib.cut s [c]).1.toArray⟩,.string ⟨(Lib.cut s [c]).2.1.toArray⟩,.bool (Lib.cut s [c]).2.2])):=by
 obtain⟨m,b⟩:=b;exact(Any.strings_Cut { laysM145 with } ⟨s.toArray⟩ ⟨#[c]⟩ m w h b).mono λ_ _ ⟨he,n,hw⟩=>⟨he,hw ▸ below_drewN (Below.refl _ _) n⟩

def StrRow (w:J) (g:Nat) (ls:List (List UInt8)):Prop:=w.1[g]?=QL (.cells (ls.map λl=>Value.string ⟨l.toArray⟩).toArray 9)
theorem StrRow.cell {w:J} {g:Nat} {ls:List (List UInt8)} (h:StrRow w g ls) {j:Nat} {l:List UInt8} (b:ls[j]?=QL l):w.cell? ⟨g,j,I⟩=QL (.string ⟨l.toArray⟩):=by
 rw[(bx h).1 j];simp[b]
theorem StrRow.below {w W:J} {g:Nat} {ls:List (List UInt8)} (h:StrRow w g ls) (hb:Bw w W):StrRow W g ls:=A0z h hb
theorem F4l (s:List UInt8) (c:UInt8):(Lib.splitB ⟨#[c]⟩ 0 (Lib.countB ⟨s.toArray⟩ ⟨#[c]⟩) ⟨s.toArray⟩).map Value.string=(LD s [c]).map λl=>Value.string ⟨l.toArray⟩:=by
 have h:=Lib.splitB_data ⟨#[c]⟩ 0 (Lib.countB ⟨s.toArray⟩ ⟨#[c]⟩) ⟨s.toArray⟩;have u:LD s [c]=Lib.splitK [c] 0 (Lib.countB ⟨s.toArray⟩ ⟨#[c]⟩) s:=rfl;rw[u];have b:=congrArg (List.map λl:List UInt8=>Value.string ⟨l.toArray⟩) h;rw[List.map_map]at b;exact b
theorem C8e (s:List UInt8) (c:UInt8) (u:s.length<4294967281) (w:J) (b:MaxOk w) :
  AR prog 55 #[.string ⟨s.toArray⟩,.string ⟨#[c]⟩] w λe w'=>e=.returned (.slice (QL ⟨w.1.size,0,I⟩) (LD s [c]).length (LD s [c]).length)/\StrRow w' w.1.size (LD s [c])/\Bw w w':=by
 obtain⟨m,b⟩:=b;refine(Any.strings_Split { laysM146 with } laysM146.i9 ⟨s.toArray⟩ ⟨#[c]⟩ m w u b (Nat.le_refl 1)).mono λe w' ⟨he,hw⟩=>?_;have h:(LD s [c]).length=Lib.countB ⟨s.toArray⟩ ⟨#[c]⟩+1:=by have:=congrArg List.length (F4l s c);rw[KU,KU,Lib.splitB_all ⟨#[c]⟩ (Nat.le_refl 1) 0 _ _ rfl]at this;exact this.symm
 rw[F4l]at hw;rw[<-h]at he;refine⟨he,?_,hw ▸ Below.box _⟩;rw[hw];exact heap_alloc_new _ _
theorem F6s (g o c:Nat) (ls:List (List UInt8)) (h:UInt8) (w:J) (E:∀ (j:Nat) l,ls[j]?=QL l->w.cell? ⟨g,o+j,I⟩=QL (.string ⟨l.toArray⟩)) (G:g<w.1.size) (T:ls.length<=c) (H:([h].intercalate ls).length<=140737488355328) (O:ls.length<=140737488355328) :
  AR prog 59 #[.slice (QL ⟨g,o,I⟩) ls.length c,.string ⟨#[h]⟩] w (A0b w (.string ⟨([h].intercalate ls).toArray⟩)):=by
 have e:(ls.map λl=>(⟨l.toArray⟩:ByteArray)).map (·.data.toList)=ls:=by rw[List.map_map];exact List.map_id _
 have D:=Any.strings_Join F7f F6e g o c (ls.map λl=>(⟨l.toArray⟩:ByteArray)) ⟨#[h]⟩ w (λj x b=>by
  rw[List.getElem?_map]at b;cases u:ls[j]? with
  |none=>rw[u]at b;cases b
  |some l=>rw[u]at b;cases b;exact E j l u) G (by simpa using O) (by simpa using T) (by rw[e];exact H)
 rw[e,KU]at D;exact D
theorem F2w (s p:List UInt8) (w:J) :
  AR prog 23 #[.string ⟨s.toArray⟩,.string ⟨p.toArray⟩] w (A0b w (.bool (Lib.hasPrefix s p))) :=
 (Any.strings_HasPrefix F7v ⟨s.toArray⟩ ⟨p.toArray⟩ w).mono λ_ _ ⟨he,hw⟩=>⟨he,hw ▸ Below.refl _ _⟩
theorem F6o (n:Int) (b:0<=n) (u:n<1000000) (w:J) :
  AR prog 108 #[.string ⟨(FS n).toArray⟩] w (A0b w (.tuple #[.int .i64 n,.nilIface])):=by
 refine(Any.strconv_Atoi_ok F6a ⟨(FS n).toArray⟩ ?_ n (F5k b oS) w).mono λ_ _ ⟨he,hw⟩=>⟨he,?_⟩
 ·have h:FS n=FK n.toNat:=by unfold FS;rw[if_neg oS]
  have:(FK n.toNat).length<=6:=E3p 5 oS;show(FS n).length<=_;rw[h];omega
 rcases hw with rfl|⟨t,rfl⟩;·exact Below.refl _ _
 exact Lib.bytesWorld_below _ _ _
end
end Go.Proofs.YtbkilakncnlebaaGreatDoor.X
