/- Rows of signatures, from values. -/
import Derived.Test.YtegamlopcdjiaaaDoorCrtA
namespace Go.Abs.Sha
open Go Go.Abs Go.Abs.Srt
theorem cut3' {key : V → Int} (A S B : List V) : (A ++ S ++ B).take A.length ++ srt key (((A ++ S ++ B).take (A ++ S).length).drop A.length) ++ (A ++ S ++ B).drop (A ++ S).length = A ++ srt key S ++ B := by
  rw [List.take_left, List.drop_left, List.drop_left, List.append_assoc A S B, List.take_left]
end Go.Abs.Sha
