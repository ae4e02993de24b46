/- The types of the laws' arguments, opened. Written by gen_open.py. -/
import Derived.Test.YtmhcfdipnofohaaRows
import Derived.Test.YtmhcfdipnofohaaXOpen
import Derived.KernelRfl
namespace Go.Proofs.Ytmhcfdipnofohaa.X
open Go.XB
theorem oInt : Opens Try.prog 3 Int := Opens.int Try.underlying3
theorem oBool : Opens Try.prog 4 Bool := Opens.bool Try.underlying4
theorem oLInt : Opens Try.prog 24 (List Int) := Opens.slice Try.underlying24 (by kernel_rfl) oInt
theorem oTBigInt : Opens Try.prog 26 TBigInt := Opens.via (Opens.struct2 Try.underlying26 rfl (by kernel_rfl) oBool rfl (by kernel_rfl) oLInt (by kernel_rfl)) (fun b => ⟨⟨b.1, b.2⟩, rfl⟩)
theorem oTRat : Opens Try.prog 28 TRat := Opens.via (Opens.struct2 Try.underlying28 rfl (by kernel_rfl) oTBigInt rfl (by kernel_rfl) oLInt (by kernel_rfl)) (fun b => ⟨⟨b.1, b.2⟩, rfl⟩)
theorem oLTRat : Opens Try.prog 44 (List TRat) := Opens.slice Try.underlying44 (by kernel_rfl) oTRat
theorem oTPoint : Opens Try.prog 101 TPoint := Opens.via (Opens.struct2 Try.underlying101 rfl (by kernel_rfl) oTRat rfl (by kernel_rfl) oTRat (by kernel_rfl)) (fun b => ⟨⟨b.1, b.2⟩, rfl⟩)
theorem oLTPoint : Opens Try.prog 40 (List TPoint) := Opens.slice Try.underlying40 (by kernel_rfl) oTPoint
theorem oTTri : Opens Try.prog 104 TTri := Opens.via (Opens.struct5 Try.underlying104 rfl (by kernel_rfl) oInt rfl (by kernel_rfl) oInt rfl (by kernel_rfl) oInt rfl (by kernel_rfl) oInt rfl (by kernel_rfl) oInt (by kernel_rfl)) (fun b => ⟨⟨b.1, b.2.1, b.2.2.1, b.2.2.2.1, b.2.2.2.2⟩, rfl⟩)
theorem oLTTri : Opens Try.prog 41 (List TTri) := Opens.slice Try.underlying41 (by kernel_rfl) oTTri
theorem oTMesh : Opens Try.prog 43 TMesh := Opens.via (Opens.struct2 Try.underlying43 rfl (by kernel_rfl) oLTPoint rfl (by kernel_rfl) oLTTri (by kernel_rfl)) (fun b => ⟨⟨b.1, b.2⟩, rfl⟩)
theorem oTProblem : Opens Try.prog 46 TProblem := Opens.via (Opens.struct3 Try.underlying46 rfl (by kernel_rfl) oTMesh rfl (by kernel_rfl) oLTRat rfl (by kernel_rfl) oLTRat (by kernel_rfl)) (fun b => ⟨⟨b.1, b.2.1, b.2.2⟩, rfl⟩)
theorem oTReport : Opens Try.prog 30 TReport := Opens.via (Opens.struct3 Try.underlying30 rfl (by kernel_rfl) oInt rfl (by kernel_rfl) oTRat rfl (by kernel_rfl) oTRat (by kernel_rfl)) (fun b => ⟨⟨b.1, b.2.1, b.2.2⟩, rfl⟩)
theorem oLTReport : Opens Try.prog 47 (List TReport) := Opens.slice Try.underlying47 (by kernel_rfl) oTReport
theorem oTState : Opens Try.prog 49 TState := Opens.via (Opens.struct3 Try.underlying49 rfl (by kernel_rfl) oTProblem rfl (by kernel_rfl) oTRat rfl (by kernel_rfl) oLTReport (by kernel_rfl)) (fun b => ⟨⟨b.1, b.2.1, b.2.2⟩, rfl⟩)
end Go.Proofs.Ytmhcfdipnofohaa.X
