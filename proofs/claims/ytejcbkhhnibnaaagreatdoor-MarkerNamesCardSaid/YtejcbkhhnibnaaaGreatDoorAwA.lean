/- Pieces of the examples. No condition. -/
import Derived.Test.YtejcbkhhnibnaaaGreatDoorAw
namespace Go.Eng
theorem Aw0 : pack [0] [] (acode AwC (sx Awc) (enterAct Awf #[]) none heap0) = some ⟨.normal, 115, [(0, .bool false)], 0, [], []⟩ := by kernel_rfl
end Go.Eng

namespace Go.Eng
theorem Aw3 : pack [0, 1, 2, 3, 4, 5, 6] [28, 38, 162, 163, 455, 479, 483, 484] (acode AwC (sx (sy (sy (sy Awc)))) Awa2 none Awh2) = some ⟨.normal, 115, [(0, .bool false), (1, .pointer (some ⟨162, 0, none⟩)), (2, .pointer (some ⟨163, 0, none⟩)), (3, .bool false), (4, .int .i64 0), (5, .pointer (some ⟨483, 0, none⟩)), (6, .pointer (some ⟨484, 0, none⟩))], 485, [(28, .cells [S [120]] 9 1 (some 28) 0), (38, .cells [S [120], S [121, 45, 122]] 9 0 (some 28) 0), (162, .cells [S [102, 111, 111, 45, 98, 97, 114], .slice (some ⟨38, 0, none⟩) 2 1, S [62, 61, 49, 46, 48, 44, 60, 50], .bool true, .int .i64 3, .slice none 0 0, .bool true, S [112, 121, 116, 104, 111, 110, 95, 118, 101, 114, 115, 105, 111, 110], S [60], .bool false, S [51, 46, 56]] 54 0 none 0), (163, .cells [.int .i64 0, .int .i64 0] 36 0 none 0), (455, .cells [.int .i64 3, .slice none 0 0, .bool true, S [101, 120, 116, 114, 97], S [61, 61], .bool false, S [68, 111, 99]] 33 1 (some 455) 0), (479, .cells [.int .i64 3, .slice none 0 0, .bool true, S [101, 120, 116, 114, 97], S [61, 61], .bool false, S [68, 111, 99], .int .i64 3, .slice none 0 0, .bool true, S [111, 115, 95, 110, 97, 109, 101], S [105, 110], .bool false, S [112, 111, 115, 105, 120, 32, 110, 116]] 33 0 (some 455) 0), (483, .cells [.int .i64 1, .slice (some ⟨479, 0, none⟩) 2 7, .bool false, S [], S [], .bool false, S []] 33 0 none 0), (484, .cells [.int .i64 0, .int .i64 0] 36 0 none 0)], [(455, 479)]⟩ := by kernel_rfl
end Go.Eng

namespace Go.Eng
theorem Aw4 : pack [0, 1, 2, 3, 4, 6, 7, 8] [28, 38, 162, 163, 484] (acode AwC (sx (sy (sy (sy (sy Awc))))) Awa3 none Awh3) = some ⟨.normal, 115, [(0, .bool false), (1, .pointer (some ⟨162, 0, none⟩)), (2, .pointer (some ⟨163, 0, none⟩)), (3, .bool false), (4, .int .i64 0), (6, .pointer (some ⟨484, 0, none⟩)), (7, .bool true), (8, .int .i64 0)], 566, [(28, .cells [S [120]] 9 1 (some 28) 0), (38, .cells [S [120], S [121, 45, 122]] 9 0 (some 28) 0), (162, .cells [S [102, 111, 111, 45, 98, 97, 114], .slice (some ⟨38, 0, none⟩) 2 1, S [62, 61, 49, 46, 48, 44, 60, 50], .bool true, .int .i64 3, .slice none 0 0, .bool true, S [112, 121, 116, 104, 111, 110, 95, 118, 101, 114, 115, 105, 111, 110], S [60], .bool false, S [51, 46, 56]] 54 0 none 0), (163, .cells [.int .i64 0, .int .i64 0] 36 0 none 0), (484, .cells [.int .i64 0, .int .i64 0] 36 0 none 0)], []⟩ := by kernel_rfl
end Go.Eng

namespace Go.Eng
theorem Aw5 : pack [0, 1, 2, 3, 4, 6, 7, 8, 10] [28, 38, 162, 163, 484, 609] (acode AwC (sx (sy (sy (sy (sy (sy Awc)))))) Awa4 none Awh4) = some ⟨.normal, 115, [(0, .bool false), (1, .pointer (some ⟨162, 0, none⟩)), (2, .pointer (some ⟨163, 0, none⟩)), (3, .bool false), (4, .int .i64 0), (6, .pointer (some ⟨484, 0, none⟩)), (7, .bool true), (8, .int .i64 0), (10, .pointer (some ⟨609, 0, none⟩))], 610, [(28, .cells [S [120]] 9 1 (some 28) 0), (38, .cells [S [120], S [121, 45, 122]] 9 0 (some 28) 0), (162, .cells [S [102, 111, 111, 45, 98, 97, 114], .slice (some ⟨38, 0, none⟩) 2 1, S [62, 61, 49, 46, 48, 44, 60, 50], .bool true, .int .i64 3, .slice none 0 0, .bool true, S [112, 121, 116, 104, 111, 110, 95, 118, 101, 114, 115, 105, 111, 110], S [60], .bool false, S [51, 46, 56]] 54 0 none 0), (163, .cells [.int .i64 0, .int .i64 0] 36 0 none 0), (484, .cells [.int .i64 0, .int .i64 0] 36 0 none 0), (609, .cells [.int .i64 11, .int .i64 2] 36 0 none 0)], []⟩ := by kernel_rfl
end Go.Eng

namespace Go.Eng
theorem Aw6 : pack [0, 1, 2, 3, 4, 6, 7, 8, 10, 12] [28, 38, 162, 163, 484, 609, 654] (acode AwC (sx (sy (sy (sy (sy (sy (sy Awc))))))) Awa5 none Awh5) = some ⟨.normal, 115, [(0, .bool false), (1, .pointer (some ⟨162, 0, none⟩)), (2, .pointer (some ⟨163, 0, none⟩)), (3, .bool false), (4, .int .i64 0), (6, .pointer (some ⟨484, 0, none⟩)), (7, .bool true), (8, .int .i64 0), (10, .pointer (some ⟨609, 0, none⟩)), (12, .pointer (some ⟨654, 0, none⟩))], 655, [(28, .cells [S [120]] 9 1 (some 28) 0), (38, .cells [S [120], S [121, 45, 122]] 9 0 (some 28) 0), (162, .cells [S [102, 111, 111, 45, 98, 97, 114], .slice (some ⟨38, 0, none⟩) 2 1, S [62, 61, 49, 46, 48, 44, 60, 50], .bool true, .int .i64 3, .slice none 0 0, .bool true, S [112, 121, 116, 104, 111, 110, 95, 118, 101, 114, 115, 105, 111, 110], S [60], .bool false, S [51, 46, 56]] 54 0 none 0), (163, .cells [.int .i64 0, .int .i64 0] 36 0 none 0), (484, .cells [.int .i64 0, .int .i64 0] 36 0 none 0), (609, .cells [.int .i64 11, .int .i64 2] 36 0 none 0), (654, .cells [.int .i64 15, .int .i64 3] 36 0 none 0)], []⟩ := by kernel_rfl
end Go.Eng

namespace Go.Eng
theorem Aw7 : pack [0, 1, 2, 3, 4, 6, 7, 8, 10, 12, 14] [28, 38, 162, 163, 484, 609, 654, 665] (acode AwC (sx (sy (sy (sy (sy (sy (sy (sy Awc)))))))) Awa6 none Awh6) = some ⟨.normal, 115, [(0, .bool false), (1, .pointer (some ⟨162, 0, none⟩)), (2, .pointer (some ⟨163, 0, none⟩)), (3, .bool false), (4, .int .i64 0), (6, .pointer (some ⟨484, 0, none⟩)), (7, .bool true), (8, .int .i64 0), (10, .pointer (some ⟨609, 0, none⟩)), (12, .pointer (some ⟨654, 0, none⟩)), (14, .pointer (some ⟨665, 0, none⟩))], 666, [(28, .cells [S [120]] 9 1 (some 28) 0), (38, .cells [S [120], S [121, 45, 122]] 9 0 (some 28) 0), (162, .cells [S [102, 111, 111, 45, 98, 97, 114], .slice (some ⟨38, 0, none⟩) 2 1, S [62, 61, 49, 46, 48, 44, 60, 50], .bool true, .int .i64 3, .slice none 0 0, .bool true, S [112, 121, 116, 104, 111, 110, 95, 118, 101, 114, 115, 105, 111, 110], S [60], .bool false, S [51, 46, 56]] 54 0 none 0), (163, .cells [.int .i64 0, .int .i64 0] 36 0 none 0), (484, .cells [.int .i64 0, .int .i64 0] 36 0 none 0), (609, .cells [.int .i64 11, .int .i64 2] 36 0 none 0), (654, .cells [.int .i64 15, .int .i64 3] 36 0 none 0), (665, .cells [.int .i64 10, .int .i64 0] 36 0 none 0)], []⟩ := by kernel_rfl
end Go.Eng

namespace Go.Eng
theorem Aw8 : pack [0] [] (acode AwC (sx (sy (sy (sy (sy (sy (sy (sy (sy Awc))))))))) Awa7 none Awh7) = some ⟨.normal, 115, [(0, .bool true)], 666, [], []⟩ := by kernel_rfl
end Go.Eng

namespace Go.Eng
theorem Aw9 : pack [0] [] (acode AwC (sy (sy (sy (sy (sy (sy (sy (sy (sy Awc))))))))) Awa8 none Awh8) = some ⟨.ret, 115, [(0, .bool true)], 666, [], []⟩ := by kernel_rfl
end Go.Eng

