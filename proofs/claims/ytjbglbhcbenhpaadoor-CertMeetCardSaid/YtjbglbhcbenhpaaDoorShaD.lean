/- The words' constants, and sums of fixed bytes. -/
import Derived.Test.YtjbglbhcbenhpaaDoorShaC
namespace Go.Abs.Sha
open Go Go.Abs
set_option maxRecDepth 100000
def K256 : List Int := [1116352408, 1899447441, 3049323471, 3921009573, 961987163, 1508970993, 2453635748, 2870763221, 3624381080, 310598401, 607225278, 1426881987, 1925078388, 2162078206, 2614888103, 3248222580, 3835390401, 4022224774, 264347078, 604807628, 770255983, 1249150122, 1555081692, 1996064986, 2554220882, 2821834349, 2952996808, 3210313671, 3336571891, 3584528711, 113926993, 338241895, 666307205, 773529912, 1294757372, 1396182291, 1695183700, 1986661051, 2177026350, 2456956037, 2730485921, 2820302411, 3259730800, 3345764771, 3516065817, 3600352804, 4094571909, 275423344, 430227734, 506948616, 659060556, 883997877, 958139571, 1322822218, 1537002063, 1747873779, 1955562222, 2024104815, 2227730452, 2361852424, 2428436474, 2756734187, 3204031479, 3329325298]
theorem awake8_ne : tagH K256 3 1 ([1] ++ [3] ++ [1] ++ zero32 ++ [2] ++ zero32) ≠ tagH K256 2 1 ([1] ++ [3] ++ [1] ++ zero32 ++ [2] ++ zero32) := by decide +kernel
theorem awake8 : (⟨2, 1, 3, 1, zero32, 2, zero32, (⟨2, 1, 3, 1, zero32, 2, zero32, zero32⟩ : AttS).tag K256⟩ : AttS).right K256 = true ∧ (⟨3, 1, 3, 1, zero32, 2, zero32, (⟨2, 1, 3, 1, zero32, 2, zero32, zero32⟩ : AttS).tag K256⟩ : AttS).right K256 = false := by
  have hs : ∀ t : List Int, ∀ w : Int, (⟨w, 1, 3, 1, zero32, 2, zero32, t⟩ : AttS).said = [1] ++ [3] ++ [1] ++ zero32 ++ [2] ++ zero32 := fun t w => by
    unfold AttS.said
    rw [num_small (n := Int.toNat 1) (by decide), num_small (n := Int.toNat 3) (by decide), num_small (n := Int.toNat 2) (by decide)]; rfl
  refine ⟨?_, ?_⟩
  · unfold AttS.right AttS.tag; rw [hs, hs]; simp only [decide_true, Bool.and_true]; decide
  · unfold AttS.right AttS.tag; rw [hs, hs]
    dsimp only
    rw [decide_eq_false (fun e => awake8_ne e.symm), Bool.and_false]
end Go.Abs.Sha
