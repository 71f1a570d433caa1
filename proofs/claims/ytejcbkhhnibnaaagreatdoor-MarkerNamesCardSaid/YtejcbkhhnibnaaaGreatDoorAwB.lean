/- A piece of the examples. No condition. -/
import Derived.Test.YtejcbkhhnibnaaaGreatDoorAw
namespace Go.Eng
theorem Aw1 : pack [0, 1, 2] [28, 38, 162, 163] (acode AwC (sx (sy Awc)) Awa0 none Awh0) = some ⟨.normal, 115, [(0, .bool false), (1, .pointer (some ⟨162, 0, none⟩)), (2, .pointer (some ⟨163, 0, none⟩))], 164, [(28, .cells [S [120]] 9 1 (some 28) 0), (38, .cells [S [120], S [121, 45, 122]] 9 0 (some 28) 0), (162, .cells [S [102, 111, 111, 45, 98, 97, 114], .slice (some ⟨38, 0, none⟩) 2 1, S [62, 61, 49, 46, 48, 44, 60, 50], .bool true, .int .i64 3, .slice none 0 0, .bool true, S [112, 121, 116, 104, 111, 110, 95, 118, 101, 114, 115, 105, 111, 110], S [60], .bool false, S [51, 46, 56]] 54 0 none 0), (163, .cells [.int .i64 0, .int .i64 0] 36 0 none 0)], []⟩ := by kernel_rfl
end Go.Eng

