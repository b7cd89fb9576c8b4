/- nodes, read by the kernel. Part of the proof of girandolelaw12.SplitHanded. -/
import Derived.Test.YtglacbfdbfhmfaaGreatDoorHt
set_option linter.unusedVariables false
set_option linter.unusedSimpArgs false
set_option maxRecDepth 1000000
namespace Go.Proofs
open Go Go.Abs
namespace Hd
theorem gL5_0:bX (L3 5 0) 8:=by repeat' first|apply And.intro|exact trivial|(intro f rest acc g;exact ⟨by kernel_rfl,by kernel_rfl⟩)
theorem gP5_0:P3 5 0:=by repeat' first|apply And.intro|(intro f rest acc g;exact ⟨by kernel_rfl,by kernel_rfl⟩)
theorem gL5_1:bX (L3 5 1) 8:=by repeat' first|apply And.intro|exact trivial|(intro f rest acc g;exact ⟨by kernel_rfl,by kernel_rfl⟩)
theorem gP5_1:P3 5 1:=by repeat' first|apply And.intro|(intro f rest acc g;exact ⟨by kernel_rfl,by kernel_rfl⟩)
theorem gL5_2:bX (L3 5 2) 8:=by repeat' first|apply And.intro|exact trivial|(intro f rest acc g;exact ⟨by kernel_rfl,by kernel_rfl⟩)
theorem gP5_2:P3 5 2:=by repeat' first|apply And.intro|(intro f rest acc g;exact ⟨by kernel_rfl,by kernel_rfl⟩)
theorem gL5_3:bX (L3 5 3) 8:=by repeat' first|apply And.intro|exact trivial|(intro f rest acc g;exact ⟨by kernel_rfl,by kernel_rfl⟩)
theorem gP5_3:P3 5 3:=by repeat' first|apply And.intro|(intro f rest acc g;exact ⟨by kernel_rfl,by kernel_rfl⟩)
theorem gL5_4:bX (L3 5 4) 8:=by repeat' first|apply And.intro|exact trivial|(intro f rest acc g;exact ⟨by kernel_rfl,by kernel_rfl⟩)
theorem gP5_4:P3 5 4:=by repeat' first|apply And.intro|(intro f rest acc g;exact ⟨by kernel_rfl,by kernel_rfl⟩)
theorem gL5_5:bX (L3 5 5) 8:=by repeat' first|apply And.intro|exact trivial|(intro f rest acc g;exact ⟨by kernel_rfl,by kernel_rfl⟩)
theorem gP5_5:P3 5 5:=by repeat' first|apply And.intro|(intro f rest acc g;exact ⟨by kernel_rfl,by kernel_rfl⟩)
theorem gL6_0:bX (L3 6 0) 8:=by repeat' first|apply And.intro|exact trivial|(intro f rest acc g;exact ⟨by kernel_rfl,by kernel_rfl⟩)
theorem gP6_0:P3 6 0:=by repeat' first|apply And.intro|(intro f rest acc g;exact ⟨by kernel_rfl,by kernel_rfl⟩)
theorem gL6_1:bX (L3 6 1) 8:=by repeat' first|apply And.intro|exact trivial|(intro f rest acc g;exact ⟨by kernel_rfl,by kernel_rfl⟩)
theorem gP6_1:P3 6 1:=by repeat' first|apply And.intro|(intro f rest acc g;exact ⟨by kernel_rfl,by kernel_rfl⟩)
theorem gL6_2:bX (L3 6 2) 8:=by repeat' first|apply And.intro|exact trivial|(intro f rest acc g;exact ⟨by kernel_rfl,by kernel_rfl⟩)
theorem gP6_2:P3 6 2:=by repeat' first|apply And.intro|(intro f rest acc g;exact ⟨by kernel_rfl,by kernel_rfl⟩)
theorem gL6_3:bX (L3 6 3) 8:=by repeat' first|apply And.intro|exact trivial|(intro f rest acc g;exact ⟨by kernel_rfl,by kernel_rfl⟩)
theorem gP6_3:P3 6 3:=by repeat' first|apply And.intro|(intro f rest acc g;exact ⟨by kernel_rfl,by kernel_rfl⟩)
theorem gL6_4:bX (L3 6 4) 8:=by repeat' first|apply And.intro|exact trivial|(intro f rest acc g;exact ⟨by kernel_rfl,by kernel_rfl⟩)
theorem gP6_4:P3 6 4:=by repeat' first|apply And.intro|(intro f rest acc g;exact ⟨by kernel_rfl,by kernel_rfl⟩)
theorem gL6_5:bX (L3 6 5) 8:=by repeat' first|apply And.intro|exact trivial|(intro f rest acc g;exact ⟨by kernel_rfl,by kernel_rfl⟩)
theorem gP6_5:P3 6 5:=by repeat' first|apply And.intro|(intro f rest acc g;exact ⟨by kernel_rfl,by kernel_rfl⟩)
theorem gL6_6:bX (L3 6 6) 8:=by repeat' first|apply And.intro|exact trivial|(intro f rest acc g;exact ⟨by kernel_rfl,by kernel_rfl⟩)
theorem gP6_6:P3 6 6:=by repeat' first|apply And.intro|(intro f rest acc g;exact ⟨by kernel_rfl,by kernel_rfl⟩)
end Hd
end Go.Proofs
