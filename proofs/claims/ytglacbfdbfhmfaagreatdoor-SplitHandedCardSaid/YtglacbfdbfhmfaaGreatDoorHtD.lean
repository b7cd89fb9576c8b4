/- nodes, read by the kernel. Part of the proof of girandolelaw12.SplitHanded. -/
import Derived.Test.YtglacbfdbfhmfaaGreatDoorHt
set_option linter.unusedVariables false
set_option linter.unusedSimpArgs false
set_option maxRecDepth 1000000
namespace Go.Proofs
open Go Go.Abs
namespace Hd
theorem gL8_0:bX (L3 8 0) 8:=by repeat' first|apply And.intro|exact trivial|(intro f rest acc g;exact ⟨by kernel_rfl,by kernel_rfl⟩)
theorem gP8_0:P3 8 0:=by repeat' first|apply And.intro|(intro f rest acc g;exact ⟨by kernel_rfl,by kernel_rfl⟩)
theorem gL8_1:bX (L3 8 1) 8:=by repeat' first|apply And.intro|exact trivial|(intro f rest acc g;exact ⟨by kernel_rfl,by kernel_rfl⟩)
theorem gP8_1:P3 8 1:=by repeat' first|apply And.intro|(intro f rest acc g;exact ⟨by kernel_rfl,by kernel_rfl⟩)
theorem gL8_2:bX (L3 8 2) 8:=by repeat' first|apply And.intro|exact trivial|(intro f rest acc g;exact ⟨by kernel_rfl,by kernel_rfl⟩)
theorem gP8_2:P3 8 2:=by repeat' first|apply And.intro|(intro f rest acc g;exact ⟨by kernel_rfl,by kernel_rfl⟩)
theorem gL8_3:bX (L3 8 3) 8:=by repeat' first|apply And.intro|exact trivial|(intro f rest acc g;exact ⟨by kernel_rfl,by kernel_rfl⟩)
theorem gP8_3:P3 8 3:=by repeat' first|apply And.intro|(intro f rest acc g;exact ⟨by kernel_rfl,by kernel_rfl⟩)
theorem gL8_4:bX (L3 8 4) 8:=by repeat' first|apply And.intro|exact trivial|(intro f rest acc g;exact ⟨by kernel_rfl,by kernel_rfl⟩)
theorem gP8_4:P3 8 4:=by repeat' first|apply And.intro|(intro f rest acc g;exact ⟨by kernel_rfl,by kernel_rfl⟩)
theorem gL8_5:bX (L3 8 5) 8:=by repeat' first|apply And.intro|exact trivial|(intro f rest acc g;exact ⟨by kernel_rfl,by kernel_rfl⟩)
theorem gP8_5:P3 8 5:=by repeat' first|apply And.intro|(intro f rest acc g;exact ⟨by kernel_rfl,by kernel_rfl⟩)
theorem gL8_6:bX (L3 8 6) 8:=by repeat' first|apply And.intro|exact trivial|(intro f rest acc g;exact ⟨by kernel_rfl,by kernel_rfl⟩)
theorem gP8_6:P3 8 6:=by repeat' first|apply And.intro|(intro f rest acc g;exact ⟨by kernel_rfl,by kernel_rfl⟩)
theorem gL8_7:bX (L3 8 7) 8:=by repeat' first|apply And.intro|exact trivial|(intro f rest acc g;exact ⟨by kernel_rfl,by kernel_rfl⟩)
theorem gP8_7:P3 8 7:=by repeat' first|apply And.intro|(intro f rest acc g;exact ⟨by kernel_rfl,by kernel_rfl⟩)
theorem gL8_8:bX (L3 8 8) 8:=by repeat' first|apply And.intro|exact trivial|(intro f rest acc g;exact ⟨by kernel_rfl,by kernel_rfl⟩)
theorem gP8_8:P3 8 8:=by repeat' first|apply And.intro|(intro f rest acc g;exact ⟨by kernel_rfl,by kernel_rfl⟩)
end Hd
end Go.Proofs
