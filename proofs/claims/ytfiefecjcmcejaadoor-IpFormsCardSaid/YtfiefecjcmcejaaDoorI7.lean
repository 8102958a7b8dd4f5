/- The law IpLooses, plainly. -/
import Derived.Test.YtfiefecjcmcejaaDoorI4
import Derived.Test.YtfiefecjcmcejaaDoorP5
import Derived.Test.YtfiefecjcmcejaaDoorP11
set_option linter.unusedSimpArgs false
set_option linter.unusedVariables false
set_option maxRecDepth 10000
namespace Go.Proofs.YtfiefecjcmcejaaDoor.Q
open Go Go.RowKit Go.Lib Go.Proofs.YtfiefecjcmcejaaDoorW.PrintWords Go.Proofs.YtfiefecjcmcejaaDoorW.PrintMore Go.Proofs.YtfiefecjcmcejaaDoorB Go.Proofs.YtfiefecjcmcejaaDoor.E Go.Proofs.YtfiefecjcmcejaaDoorV Go.Proofs.YtfiefecjcmcejaaDoor.P

theorem aw60 : lanternlaw05_awake.f 60 = some true := by decide +kernel
theorem awake_f (k : Nat) (hk : 60 ≤ k) : lanternlaw05_awake.f k = some true := up_to lanternlaw05_awake.mono aw60 k hk
theorem index_one (c : UInt8) : ∀ l : List UInt8, 0 ≤ Lib.index l [c] → c ∈ l
  | [], h => by
    exact absurd (show (0 : Int) ≤ -1 from h) (by decide)
  | b :: l, h => by
    rw [Lib.index] at h
    split at h
    · rename_i hp
      have : c = b := by simpa [List.isPrefixOf] using hp
      simp [this]
    · split at h
      · exact absurd h (by decide)
      · rename_i hne
        have hge := Lib.index_ge l [c]
        have hne' : Lib.index l [c] ≠ -1 := fun e => hne (by rw [e]; rfl)
        have := index_one c l (by omega)
        simp [this]
end Go.Proofs.YtfiefecjcmcejaaDoor.Q
