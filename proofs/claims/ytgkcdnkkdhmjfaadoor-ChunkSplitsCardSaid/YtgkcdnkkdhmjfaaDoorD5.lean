/- The law ChunkDecodes. -/
import Derived.Test.YtgkcdnkkdhmjfaaDoorD3
set_option linter.unusedSimpArgs false
set_option linter.unusedVariables false
namespace Go.Proofs.YtgkcdnkkdhmjfaaDoor.Q
open Go Go.RowKit Go.Lib Go.Proofs.YtgkcdnkkdhmjfaaDoorW.PrintWords Go.Proofs.YtgkcdnkkdhmjfaaDoorB Go.Proofs.YtgkcdnkkdhmjfaaDoor.E Go.Proofs.YtgkcdnkkdhmjfaaDoor.P

theorem decode_f (bs : List UInt8) (hb : bs.length ≤ 100000) (k : Nat) (hk : 7 * bs.length + 2000 < k) : chunk_Decode.f k (nums bs) = some (decM bs (bs.length + 1) 0 []) := by
  unfold chunk_Decode.f
  exact prog_dec bs hb (bs.length + 1) k 0 [] (by omega) (by omega) (by omega) (by simp)
theorem awake_f (k : Nat) (hk : 3000 < k) : lanternlaw10_awake.f k = some true := by
  unfold lanternlaw10_awake.f
  have h1 : chunk_Decode.f k (([51, 59, 120, 13, 10, 97, 98, 99, 13, 10, 48, 13, 10, 13, 10, 121] : List Int)) = some ([97, 98, 99], 15, 0) := by
    have e := decode_f [51, 59, 120, 13, 10, 97, 98, 99, 13, 10, 48, 13, 10, 13, 10, 121] (by decide) k (by simp; omega)
    have v : decM [51, 59, 120, 13, 10, 97, 98, 99, 13, 10, 48, 13, 10, 13, 10, 121] (([51, 59, 120, 13, 10, 97, 98, 99, 13, 10, 48, 13, 10, 13, 10, 121] : List UInt8).length + 1) 0 [] = ([97, 98, 99], 15, 0) := by kernel_rfl
    rw [v] at e
    exact e
  have h2 : chunk_Size.f k (⟨#[43, 51]⟩ : ByteArray) = some (0, 5) := by
    have e := Size_f (⟨#[43, 51]⟩ : ByteArray) (by decide) k (by omega)
    have v : sizeSays (sizeL (L (⟨#[43, 51]⟩ : ByteArray))) = (0, 5) := by kernel_rfl
    rw [v] at e
    exact e
  rw [h1, h2, Option.bind_some, Option.bind_some]
  dsimp only
  rw [if_pos rfl, if_pos rfl, toList_L]
  rfl
end Go.Proofs.YtgkcdnkkdhmjfaaDoor.Q
