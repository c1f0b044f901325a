/- The reference's test of a range; no condition. -/
import Derived.Test.YtgoaegbddpmiiaaTShortest
import Derived.Test.YtgoaegbddpmiiaaUx
namespace Go.Proofs.Ytgoaegbddpmiiaa
open Go.VK AVal
theorem s61 (n a b:Int):Fs_l01Between n a b=some (decide (a≤n)&&decide (n≤b)):=by
 refine us_l01Between _ _ _ ?_
 by_cases h:a≤n <;> simp [h]
theorem s61' (n a b:Int):Fs_l01Between n a b=some (inQ a b n):=s61 n a b
end Go.Proofs.Ytgoaegbddpmiiaa
