/- The types of this translation: structs in parts. -/
import Derived.Test.YtndclaiobhgmbaaParts
namespace Go.Proofs.Ytndclaiobhgmbaa
theorem zp24 (w : World) : (zeroValue 24).run Try.prog w = .ok (.agg (pcells [.ints (List.replicate 16 0), .val (.slice none 0 0)]).toArray) w := Try.zeroValue24 w
theorem zp25 (w : World) : (zeroValue 25).run Try.prog w = .ok (.agg (pcells [.ints (List.replicate 16 0), .val (.slice none 0 0)]).toArray) w := Try.zeroValue25 w
end Go.Proofs.Ytndclaiobhgmbaa
