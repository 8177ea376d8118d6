-- WRITTEN BY wip/gprint.py, a program of this session's over the kit's print, with contracts given by hand
import Derived.Test.YtmeflmlejcmckaaDoorPSx0
namespace Go.Proofs.YtmeflmlejcmckaaDoor.PS
open Go.RowKit Go.Proofs.YtmeflmlejcmckaaDoorW.PrintWords Go.Proofs.YtmeflmlejcmckaaDoorW.PrintLast Go.Proofs.YtmeflmlejcmckaaDoorW.PrintMore
attribute [local go_sem] max2_int min2_int max_two min_two max_three min_three max_four min_four   -- for this text's walks alone
set_option linter.unusedVariables false
set_option linter.unusedSimpArgs false

/-! ### spec_l17Signs: function 158 -/
def spec_l17Signs.f  : Option (ByteArray) := some (⟨#[45, 88, 43, 111]⟩ : ByteArray)
set_option maxHeartbeats 8000000 in
set_option maxRecDepth 100000 in
theorem spec_l17Signs.calls  (r : ByteArray) (w : World) (h : spec_l17Signs.f  = some r) :
 Calls Tryd.prog 158 #[] w fun e w' => e = .returned (.string r) ∧ Drawn0 w w' := by
 have H : (some (⟨#[45, 88, 43, 111]⟩ : ByteArray)) = some r := h
 clear h
 obtain rfl := Option.some.inj H
 go_enter Tryd.func158, Tryd.ntmps158
 go_wp2
 go_ret
 exact ⟨by first | rfl | (simp; done) | (simp [*]; done), tZ⟩

end Go.Proofs.YtmeflmlejcmckaaDoor.PS
