/- Nine of the 72 cases, reckoned by the kernel. -/
import Derived.Test.YtfogmpakbdcbbaaDoorU
set_option linter.unusedVariables false
set_option linter.unusedSimpArgs false
namespace Ab.T27
open Go Ab
set_option maxRecDepth 100000
theorem k_3_5 : Rn tbW f4r [(0, .int .i64 3), (1, .int .i64 5), (17, .bool false)] Heap.empty (retQ f4.res fun v _ => v = .bool true) := .yes 3000 (by decide +kernel)
theorem k_4_5 : Rn tbW f4r [(0, .int .i64 4), (1, .int .i64 5), (17, .bool false)] Heap.empty (retQ f4.res fun v _ => v = .bool true) := .yes 3000 (by decide +kernel)
theorem k_5_5 : Rn tbW f4r [(0, .int .i64 5), (1, .int .i64 5), (17, .bool false)] Heap.empty (retQ f4.res fun v _ => v = .bool true) := .yes 3000 (by decide +kernel)
theorem k_6_5 : Rn tbW f4r [(0, .int .i64 6), (1, .int .i64 5), (17, .bool false)] Heap.empty (retQ f4.res fun v _ => v = .bool true) := .yes 3000 (by decide +kernel)
theorem k_7_5 : Rn tbW f4r [(0, .int .i64 7), (1, .int .i64 5), (17, .bool false)] Heap.empty (retQ f4.res fun v _ => v = .bool true) := .yes 3000 (by decide +kernel)
theorem k_8_5 : Rn tbW f4r [(0, .int .i64 8), (1, .int .i64 5), (17, .bool false)] Heap.empty (retQ f4.res fun v _ => v = .bool true) := .yes 3000 (by decide +kernel)
theorem k_9_5 : Rn tbW f4r [(0, .int .i64 9), (1, .int .i64 5), (17, .bool false)] Heap.empty (retQ f4.res fun v _ => v = .bool true) := .yes 3000 (by decide +kernel)
theorem k_10_5 : Rn tbW f4r [(0, .int .i64 10), (1, .int .i64 5), (17, .bool false)] Heap.empty (retQ f4.res fun v _ => v = .bool true) := .yes 3000 (by decide +kernel)
theorem k_11_5 : Rn tbW f4r [(0, .int .i64 11), (1, .int .i64 5), (17, .bool false)] Heap.empty (retQ f4.res fun v _ => v = .bool true) := .yes 3000 (by decide +kernel)
end Ab.T27
