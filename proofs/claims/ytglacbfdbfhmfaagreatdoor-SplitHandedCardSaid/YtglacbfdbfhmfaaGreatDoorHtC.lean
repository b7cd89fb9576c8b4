/- nodes, read by the kernel. Part of the proof of girandolelaw12.SplitHanded. -/
import Derived.Test.YtglacbfdbfhmfaaGreatDoorHt
set_option linter.unusedVariables false
set_option linter.unusedSimpArgs false
set_option maxRecDepth 1000000
namespace Go.Proofs
open Go Go.Abs
namespace Hd
theorem gL7_0:bX (L3 7 0) 8:=by repeat' first|apply And.intro|exact trivial|(intro f rest acc g;exact ⟨by kernel_rfl,by kernel_rfl⟩)
theorem gP7_0:P3 7 0:=by repeat' first|apply And.intro|(intro f rest acc g;exact ⟨by kernel_rfl,by kernel_rfl⟩)
theorem gL7_1:bX (L3 7 1) 8:=by repeat' first|apply And.intro|exact trivial|(intro f rest acc g;exact ⟨by kernel_rfl,by kernel_rfl⟩)
theorem gP7_1:P3 7 1:=by repeat' first|apply And.intro|(intro f rest acc g;exact ⟨by kernel_rfl,by kernel_rfl⟩)
theorem gL7_2:bX (L3 7 2) 8:=by repeat' first|apply And.intro|exact trivial|(intro f rest acc g;exact ⟨by kernel_rfl,by kernel_rfl⟩)
theorem gP7_2:P3 7 2:=by repeat' first|apply And.intro|(intro f rest acc g;exact ⟨by kernel_rfl,by kernel_rfl⟩)
theorem gL7_3:bX (L3 7 3) 8:=by repeat' first|apply And.intro|exact trivial|(intro f rest acc g;exact ⟨by kernel_rfl,by kernel_rfl⟩)
theorem gP7_3:P3 7 3:=by repeat' first|apply And.intro|(intro f rest acc g;exact ⟨by kernel_rfl,by kernel_rfl⟩)
theorem gL7_4:bX (L3 7 4) 8:=by repeat' first|apply And.intro|exact trivial|(intro f rest acc g;exact ⟨by kernel_rfl,by kernel_rfl⟩)
theorem gP7_4:P3 7 4:=by repeat' first|apply And.intro|(intro f rest acc g;exact ⟨by kernel_rfl,by kernel_rfl⟩)
theorem gL7_5:bX (L3 7 5) 8:=by repeat' first|apply And.intro|exact trivial|(intro f rest acc g;exact ⟨by kernel_rfl,by kernel_rfl⟩)
theorem gP7_5:P3 7 5:=by repeat' first|apply And.intro|(intro f rest acc g;exact ⟨by kernel_rfl,by kernel_rfl⟩)
theorem gL7_6:bX (L3 7 6) 8:=by repeat' first|apply And.intro|exact trivial|(intro f rest acc g;exact ⟨by kernel_rfl,by kernel_rfl⟩)
theorem gP7_6:P3 7 6:=by repeat' first|apply And.intro|(intro f rest acc g;exact ⟨by kernel_rfl,by kernel_rfl⟩)
theorem gL7_7:bX (L3 7 7) 8:=by repeat' first|apply And.intro|exact trivial|(intro f rest acc g;exact ⟨by kernel_rfl,by kernel_rfl⟩)
theorem gP7_7:P3 7 7:=by repeat' first|apply And.intro|(intro f rest acc g;exact ⟨by kernel_rfl,by kernel_rfl⟩)
end Hd
end Go.Proofs
