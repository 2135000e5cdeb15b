/- Nine of the 72 cases, reckoned by the kernel. -/
import Derived.Test.YtfogmpakbdcbbaaDoorU
set_option linter.unusedVariables false
set_option linter.unusedSimpArgs false
namespace Ab.T27
open Go Ab
set_option maxRecDepth 100000
theorem k_9_0 : Rn tbW f4r [(0, .int .i64 9), (1, .int .i64 0), (17, .bool false)] Heap.empty (retQ f4.res fun v _ => v = .bool true) := .yes 3000 (by decide +kernel)
theorem k_10_0 : Rn tbW f4r [(0, .int .i64 10), (1, .int .i64 0), (17, .bool false)] Heap.empty (retQ f4.res fun v _ => v = .bool true) := .yes 3000 (by decide +kernel)
theorem k_11_0 : Rn tbW f4r [(0, .int .i64 11), (1, .int .i64 0), (17, .bool false)] Heap.empty (retQ f4.res fun v _ => v = .bool true) := .yes 3000 (by decide +kernel)
theorem k_0_1 : Rn tbW f4r [(0, .int .i64 0), (1, .int .i64 1), (17, .bool false)] Heap.empty (retQ f4.res fun v _ => v = .bool true) := .yes 3000 (by decide +kernel)
theorem k_1_1 : Rn tbW f4r [(0, .int .i64 1), (1, .int .i64 1), (17, .bool false)] Heap.empty (retQ f4.res fun v _ => v = .bool true) := .yes 3000 (by decide +kernel)
theorem k_2_1 : Rn tbW f4r [(0, .int .i64 2), (1, .int .i64 1), (17, .bool false)] Heap.empty (retQ f4.res fun v _ => v = .bool true) := .yes 3000 (by decide +kernel)
theorem k_3_1 : Rn tbW f4r [(0, .int .i64 3), (1, .int .i64 1), (17, .bool false)] Heap.empty (retQ f4.res fun v _ => v = .bool true) := .yes 3000 (by decide +kernel)
theorem k_4_1 : Rn tbW f4r [(0, .int .i64 4), (1, .int .i64 1), (17, .bool false)] Heap.empty (retQ f4.res fun v _ => v = .bool true) := .yes 3000 (by decide +kernel)
theorem k_5_1 : Rn tbW f4r [(0, .int .i64 5), (1, .int .i64 1), (17, .bool false)] Heap.empty (retQ f4.res fun v _ => v = .bool true) := .yes 3000 (by decide +kernel)
end Ab.T27
