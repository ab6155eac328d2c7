/- The types of this translation: structs in parts. -/
import Derived.Test.YtccgcefeenloiaaParts
namespace Go.Proofs.Ytccgcefeenloiaa
theorem zp24 (w : World) : (zeroValue 24).run Try.prog w = .ok (.agg (pcells [.ints (List.replicate 16 0), .val (.slice none 0 0)]).toArray) w := by first | exact Try.zeroValue24 w | kernel_rfl
theorem zp25 (w : World) : (zeroValue 25).run Try.prog w = .ok (.agg (pcells [.ints (List.replicate 16 0), .val (.slice none 0 0)]).toArray) w := by first | exact Try.zeroValue25 w | kernel_rfl
end Go.Proofs.Ytccgcefeenloiaa
