/- Nine of the 72 cases, reckoned by the kernel. -/
import Derived.Test.YtfogmpakbdcbbaaDoorU
set_option linter.unusedVariables false
set_option linter.unusedSimpArgs false
namespace Ab.T27
open Go Ab
set_option maxRecDepth 100000
theorem k_0_3 : Rn tbW f4r [(0, .int .i64 0), (1, .int .i64 3), (17, .bool false)] Heap.empty (retQ f4.res fun v _ => v = .bool true) := .yes 3000 (by decide +kernel)
theorem k_1_3 : Rn tbW f4r [(0, .int .i64 1), (1, .int .i64 3), (17, .bool false)] Heap.empty (retQ f4.res fun v _ => v = .bool true) := .yes 3000 (by decide +kernel)
theorem k_2_3 : Rn tbW f4r [(0, .int .i64 2), (1, .int .i64 3), (17, .bool false)] Heap.empty (retQ f4.res fun v _ => v = .bool true) := .yes 3000 (by decide +kernel)
theorem k_3_3 : Rn tbW f4r [(0, .int .i64 3), (1, .int .i64 3), (17, .bool false)] Heap.empty (retQ f4.res fun v _ => v = .bool true) := .yes 3000 (by decide +kernel)
theorem k_4_3 : Rn tbW f4r [(0, .int .i64 4), (1, .int .i64 3), (17, .bool false)] Heap.empty (retQ f4.res fun v _ => v = .bool true) := .yes 3000 (by decide +kernel)
theorem k_5_3 : Rn tbW f4r [(0, .int .i64 5), (1, .int .i64 3), (17, .bool false)] Heap.empty (retQ f4.res fun v _ => v = .bool true) := .yes 3000 (by decide +kernel)
theorem k_6_3 : Rn tbW f4r [(0, .int .i64 6), (1, .int .i64 3), (17, .bool false)] Heap.empty (retQ f4.res fun v _ => v = .bool true) := .yes 3000 (by decide +kernel)
theorem k_7_3 : Rn tbW f4r [(0, .int .i64 7), (1, .int .i64 3), (17, .bool false)] Heap.empty (retQ f4.res fun v _ => v = .bool true) := .yes 3000 (by decide +kernel)
theorem k_8_3 : Rn tbW f4r [(0, .int .i64 8), (1, .int .i64 3), (17, .bool false)] Heap.empty (retQ f4.res fun v _ => v = .bool true) := .yes 3000 (by decide +kernel)
end Ab.T27
