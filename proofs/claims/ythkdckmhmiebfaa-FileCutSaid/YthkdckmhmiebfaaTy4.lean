/- The types of this translation: structs in parts. -/
import Derived.Test.YthkdckmhmiebfaaParts
namespace Go.Proofs.Ythkdckmhmiebfaa
theorem zp44 (w : World) : (zeroValue 44).run Try.prog w = .ok (.agg (pcells [.ints (List.replicate 16 0), .val (.slice none 0 0)]).toArray) w := by first | exact Try.zeroValue44 w | kernel_rfl
theorem zp45 (w : World) : (zeroValue 45).run Try.prog w = .ok (.agg (pcells [.ints (List.replicate 16 0), .val (.slice none 0 0)]).toArray) w := by first | exact Try.zeroValue45 w | kernel_rfl
theorem zp46 (w : World) : (zeroValue 46).run Try.prog w = .ok (.agg (pcells [.ints (List.replicate 16 0), .val (.slice none 0 0), .ints (List.replicate 16 0), .val (.slice none 0 0)]).toArray) w := by first | exact Try.zeroValue46 w | kernel_rfl
theorem zp47 (w : World) : (zeroValue 47).run Try.prog w = .ok (.agg (pcells [.ints (List.replicate 16 0), .val (.slice none 0 0), .ints (List.replicate 16 0), .val (.slice none 0 0)]).toArray) w := by first | exact Try.zeroValue47 w | kernel_rfl
theorem zp49 (w : World) : (zeroValue 49).run Try.prog w = .ok (.agg (pcells [.val (.int .i64 0), .val (.int .i64 0), .val (.int .i64 0), .ints (List.replicate 64 0), .ints (List.replicate 16 0), .val (.slice none 0 0), .ints (List.replicate 16 0), .val (.slice none 0 0), .val (.int .i64 0), .val (.slice none 0 0)]).toArray) w := by first | exact Try.zeroValue49 w | kernel_rfl
theorem zp50 (w : World) : (zeroValue 50).run Try.prog w = .ok (.agg (pcells [.val (.int .i64 0), .val (.int .i64 0), .val (.int .i64 0), .ints (List.replicate 64 0), .ints (List.replicate 16 0), .val (.slice none 0 0), .ints (List.replicate 16 0), .val (.slice none 0 0), .val (.int .i64 0), .val (.slice none 0 0)]).toArray) w := by first | exact Try.zeroValue50 w | kernel_rfl
end Go.Proofs.Ythkdckmhmiebfaa
