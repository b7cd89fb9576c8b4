/- nodes, read by the kernel: the last places. Part of the proof of girandolelaw12.SplitHanded. -/
import Derived.Test.YtglacbfdbfhmfaaGreatDoorHt
set_option linter.unusedVariables false
set_option linter.unusedSimpArgs false
set_option maxRecDepth 1000000
namespace Go.Proofs
open Go Go.Abs
namespace Hd
theorem gL9_0:bX (L3 9 0) 8:=by repeat' first|apply And.intro|exact trivial|(intro f rest acc g;exact ⟨by kernel_rfl,by kernel_rfl⟩)
theorem gL9_1:bX (L3 9 1) 8:=by repeat' first|apply And.intro|exact trivial|(intro f rest acc g;exact ⟨by kernel_rfl,by kernel_rfl⟩)
theorem gL9_2:bX (L3 9 2) 8:=by repeat' first|apply And.intro|exact trivial|(intro f rest acc g;exact ⟨by kernel_rfl,by kernel_rfl⟩)
theorem gL9_3:bX (L3 9 3) 8:=by repeat' first|apply And.intro|exact trivial|(intro f rest acc g;exact ⟨by kernel_rfl,by kernel_rfl⟩)
theorem gL9_4:bX (L3 9 4) 8:=by repeat' first|apply And.intro|exact trivial|(intro f rest acc g;exact ⟨by kernel_rfl,by kernel_rfl⟩)
theorem gL9_5:bX (L3 9 5) 8:=by repeat' first|apply And.intro|exact trivial|(intro f rest acc g;exact ⟨by kernel_rfl,by kernel_rfl⟩)
theorem gL9_6:bX (L3 9 6) 8:=by repeat' first|apply And.intro|exact trivial|(intro f rest acc g;exact ⟨by kernel_rfl,by kernel_rfl⟩)
theorem gL9_7:bX (L3 9 7) 8:=by repeat' first|apply And.intro|exact trivial|(intro f rest acc g;exact ⟨by kernel_rfl,by kernel_rfl⟩)
theorem gL9_8:bX (L3 9 8) 8:=by repeat' first|apply And.intro|exact trivial|(intro f rest acc g;exact ⟨by kernel_rfl,by kernel_rfl⟩)
theorem gL9_9:bX (L3 9 9) 8:=by repeat' first|apply And.intro|exact trivial|(intro f rest acc g;exact ⟨by kernel_rfl,by kernel_rfl⟩)
end Hd
end Go.Proofs
