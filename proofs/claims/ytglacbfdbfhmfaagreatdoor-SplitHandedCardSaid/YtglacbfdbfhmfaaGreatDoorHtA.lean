/- nodes, read by the kernel: the first places. Part of the proof of girandolelaw12.SplitHanded. -/
import Derived.Test.YtglacbfdbfhmfaaGreatDoorHt
set_option linter.unusedVariables false
set_option linter.unusedSimpArgs false
set_option maxRecDepth 1000000
namespace Go.Proofs
open Go Go.Abs
namespace Hd
theorem gL0_0:bX (L3 0 0) 8:=by repeat' first|apply And.intro|exact trivial|(intro f rest acc g;exact ⟨by kernel_rfl,by kernel_rfl⟩)
theorem gP0_0:P3 0 0:=by repeat' first|apply And.intro|(intro f rest acc g;exact ⟨by kernel_rfl,by kernel_rfl⟩)
theorem gL1_0:bX (L3 1 0) 8:=by repeat' first|apply And.intro|exact trivial|(intro f rest acc g;exact ⟨by kernel_rfl,by kernel_rfl⟩)
theorem gP1_0:P3 1 0:=by repeat' first|apply And.intro|(intro f rest acc g;exact ⟨by kernel_rfl,by kernel_rfl⟩)
theorem gL1_1:bX (L3 1 1) 8:=by repeat' first|apply And.intro|exact trivial|(intro f rest acc g;exact ⟨by kernel_rfl,by kernel_rfl⟩)
theorem gP1_1:P3 1 1:=by repeat' first|apply And.intro|(intro f rest acc g;exact ⟨by kernel_rfl,by kernel_rfl⟩)
theorem gL2_0:bX (L3 2 0) 8:=by repeat' first|apply And.intro|exact trivial|(intro f rest acc g;exact ⟨by kernel_rfl,by kernel_rfl⟩)
theorem gP2_0:P3 2 0:=by repeat' first|apply And.intro|(intro f rest acc g;exact ⟨by kernel_rfl,by kernel_rfl⟩)
theorem gL2_1:bX (L3 2 1) 8:=by repeat' first|apply And.intro|exact trivial|(intro f rest acc g;exact ⟨by kernel_rfl,by kernel_rfl⟩)
theorem gP2_1:P3 2 1:=by repeat' first|apply And.intro|(intro f rest acc g;exact ⟨by kernel_rfl,by kernel_rfl⟩)
theorem gL2_2:bX (L3 2 2) 8:=by repeat' first|apply And.intro|exact trivial|(intro f rest acc g;exact ⟨by kernel_rfl,by kernel_rfl⟩)
theorem gP2_2:P3 2 2:=by repeat' first|apply And.intro|(intro f rest acc g;exact ⟨by kernel_rfl,by kernel_rfl⟩)
theorem gL3_0:bX (L3 3 0) 8:=by repeat' first|apply And.intro|exact trivial|(intro f rest acc g;exact ⟨by kernel_rfl,by kernel_rfl⟩)
theorem gP3_0:P3 3 0:=by repeat' first|apply And.intro|(intro f rest acc g;exact ⟨by kernel_rfl,by kernel_rfl⟩)
theorem gL3_1:bX (L3 3 1) 8:=by repeat' first|apply And.intro|exact trivial|(intro f rest acc g;exact ⟨by kernel_rfl,by kernel_rfl⟩)
theorem gP3_1:P3 3 1:=by repeat' first|apply And.intro|(intro f rest acc g;exact ⟨by kernel_rfl,by kernel_rfl⟩)
theorem gL3_2:bX (L3 3 2) 8:=by repeat' first|apply And.intro|exact trivial|(intro f rest acc g;exact ⟨by kernel_rfl,by kernel_rfl⟩)
theorem gP3_2:P3 3 2:=by repeat' first|apply And.intro|(intro f rest acc g;exact ⟨by kernel_rfl,by kernel_rfl⟩)
theorem gL3_3:bX (L3 3 3) 8:=by repeat' first|apply And.intro|exact trivial|(intro f rest acc g;exact ⟨by kernel_rfl,by kernel_rfl⟩)
theorem gP3_3:P3 3 3:=by repeat' first|apply And.intro|(intro f rest acc g;exact ⟨by kernel_rfl,by kernel_rfl⟩)
theorem gL4_0:bX (L3 4 0) 8:=by repeat' first|apply And.intro|exact trivial|(intro f rest acc g;exact ⟨by kernel_rfl,by kernel_rfl⟩)
theorem gP4_0:P3 4 0:=by repeat' first|apply And.intro|(intro f rest acc g;exact ⟨by kernel_rfl,by kernel_rfl⟩)
theorem gL4_1:bX (L3 4 1) 8:=by repeat' first|apply And.intro|exact trivial|(intro f rest acc g;exact ⟨by kernel_rfl,by kernel_rfl⟩)
theorem gP4_1:P3 4 1:=by repeat' first|apply And.intro|(intro f rest acc g;exact ⟨by kernel_rfl,by kernel_rfl⟩)
theorem gL4_2:bX (L3 4 2) 8:=by repeat' first|apply And.intro|exact trivial|(intro f rest acc g;exact ⟨by kernel_rfl,by kernel_rfl⟩)
theorem gP4_2:P3 4 2:=by repeat' first|apply And.intro|(intro f rest acc g;exact ⟨by kernel_rfl,by kernel_rfl⟩)
theorem gL4_3:bX (L3 4 3) 8:=by repeat' first|apply And.intro|exact trivial|(intro f rest acc g;exact ⟨by kernel_rfl,by kernel_rfl⟩)
theorem gP4_3:P3 4 3:=by repeat' first|apply And.intro|(intro f rest acc g;exact ⟨by kernel_rfl,by kernel_rfl⟩)
theorem gL4_4:bX (L3 4 4) 8:=by repeat' first|apply And.intro|exact trivial|(intro f rest acc g;exact ⟨by kernel_rfl,by kernel_rfl⟩)
theorem gP4_4:P3 4 4:=by repeat' first|apply And.intro|(intro f rest acc g;exact ⟨by kernel_rfl,by kernel_rfl⟩)
end Hd
end Go.Proofs
