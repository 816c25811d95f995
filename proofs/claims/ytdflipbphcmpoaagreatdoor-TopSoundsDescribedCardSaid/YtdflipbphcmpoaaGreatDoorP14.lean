/- A part of the proof of TopSoundsDescribed (texts Yp): an executor of the program's code, proved sound, and its runs. No condition. -/
import Derived.Test.YtdflipbphcmpoaaGreatDoorP13
set_option linter.unusedSimpArgs false
set_option linter.unusedVariables false
set_option maxRecDepth 100000
namespace Go.Sx
open Go.Proofs
theorem kn152:Known 152 [.agg sndR3,sndAll] (.bool false):=known (t:=[]) trivial (args':=[.agg sndR3,sndAll]) (n:=100000) (by kernel_rfl) (fun M=>by kernel_rfl) rfl
theorem kn151:Known 151 [sndF] (.sl 0 0 17 (List.replicate 17 (.bool true))):=known (t:=[]) trivial (args':=[sndF]) (n:=100000) (by kernel_rfl) (fun M=>by kernel_rfl) rfl
def sndT2:List (Nat × List AV × AV):=(113,[sndF],sndAll) :: (152,[.agg sndR3,sndAll],.bool false) :: (151,[sndF],.sl 0 0 17 (List.replicate 17 (.bool true))) :: sndT1
theorem sndT2_ok:AllKnown sndT2:=⟨kn113,kn152,kn151,sndT1_ok⟩
theorem kn110:Known 110 [sndF] okF:=known (t:=sndT2) sndT2_ok (args':=[sndF]) (n:=100000) (by kernel_rfl) (fun M=>by kernel_rfl) rfl
end Go.Sx
