/- The states between the pieces of the examples. No condition. -/
import Derived.Test.YtejcbkhhnibnaaaGreatDoorEng3
import Derived.Test.YtejcbkhhnibnaaaGreatDoorMk1
import Derived.KernelRfl
set_option linter.unusedVariables false
namespace Go.Eng
open Go.Proofs
def S (l : List UInt8) : Value := .string ⟨⟨l⟩⟩
def sx : Code → Code
  | .seq x _ => x
  | c => c
def sy : Code → Code
  | .seq _ y => y
  | c => c
noncomputable def Awf : Func := Tryz.f11
noncomputable def Awc : Code := Awf.body.getD .skip
noncomputable def AwC : Ctx := { E := En, fid := 11, ro := none, call := (hands En 1000 200).call, round := (hands En 1000 200).round, fuel := 1000 }
def Awa0 : AAct := mkAct 115 [(0, .bool false)]
def Awh0 : AHeap := mkHeap 0 [] []
def Awa1 : AAct := mkAct 115 [(0, .bool false), (1, .pointer (some ⟨162, 0, none⟩)), (2, .pointer (some ⟨163, 0, none⟩))]
def Awh1 : AHeap := mkHeap 164 [(28, .cells [S [120]] 9 1 (some 28) 0), (38, .cells [S [120], S [121, 45, 122]] 9 0 (some 28) 0), (162, .cells [S [102, 111, 111, 45, 98, 97, 114], .slice (some ⟨38, 0, none⟩) 2 1, S [62, 61, 49, 46, 48, 44, 60, 50], .bool true, .int .i64 3, .slice none 0 0, .bool true, S [112, 121, 116, 104, 111, 110, 95, 118, 101, 114, 115, 105, 111, 110], S [60], .bool false, S [51, 46, 56]] 54 0 none 0), (163, .cells [.int .i64 0, .int .i64 0] 36 0 none 0)] []
def Awa2 : AAct := mkAct 115 [(0, .bool false), (1, .pointer (some ⟨162, 0, none⟩)), (2, .pointer (some ⟨163, 0, none⟩)), (3, .bool false), (4, .int .i64 0)]
def Awh2 : AHeap := mkHeap 418 [(28, .cells [S [120]] 9 1 (some 28) 0), (38, .cells [S [120], S [121, 45, 122]] 9 0 (some 28) 0), (162, .cells [S [102, 111, 111, 45, 98, 97, 114], .slice (some ⟨38, 0, none⟩) 2 1, S [62, 61, 49, 46, 48, 44, 60, 50], .bool true, .int .i64 3, .slice none 0 0, .bool true, S [112, 121, 116, 104, 111, 110, 95, 118, 101, 114, 115, 105, 111, 110], S [60], .bool false, S [51, 46, 56]] 54 0 none 0), (163, .cells [.int .i64 0, .int .i64 0] 36 0 none 0)] []
def Awa3 : AAct := mkAct 115 [(0, .bool false), (1, .pointer (some ⟨162, 0, none⟩)), (2, .pointer (some ⟨163, 0, none⟩)), (3, .bool false), (4, .int .i64 0), (5, .pointer (some ⟨483, 0, none⟩)), (6, .pointer (some ⟨484, 0, none⟩))]
def Awh3 : AHeap := mkHeap 485 [(28, .cells [S [120]] 9 1 (some 28) 0), (38, .cells [S [120], S [121, 45, 122]] 9 0 (some 28) 0), (162, .cells [S [102, 111, 111, 45, 98, 97, 114], .slice (some ⟨38, 0, none⟩) 2 1, S [62, 61, 49, 46, 48, 44, 60, 50], .bool true, .int .i64 3, .slice none 0 0, .bool true, S [112, 121, 116, 104, 111, 110, 95, 118, 101, 114, 115, 105, 111, 110], S [60], .bool false, S [51, 46, 56]] 54 0 none 0), (163, .cells [.int .i64 0, .int .i64 0] 36 0 none 0), (455, .cells [.int .i64 3, .slice none 0 0, .bool true, S [101, 120, 116, 114, 97], S [61, 61], .bool false, S [68, 111, 99]] 33 1 (some 455) 0), (479, .cells [.int .i64 3, .slice none 0 0, .bool true, S [101, 120, 116, 114, 97], S [61, 61], .bool false, S [68, 111, 99], .int .i64 3, .slice none 0 0, .bool true, S [111, 115, 95, 110, 97, 109, 101], S [105, 110], .bool false, S [112, 111, 115, 105, 120, 32, 110, 116]] 33 0 (some 455) 0), (483, .cells [.int .i64 1, .slice (some ⟨479, 0, none⟩) 2 7, .bool false, S [], S [], .bool false, S []] 33 0 none 0), (484, .cells [.int .i64 0, .int .i64 0] 36 0 none 0)] [(455, 479)]
def Awa4 : AAct := mkAct 115 [(0, .bool false), (1, .pointer (some ⟨162, 0, none⟩)), (2, .pointer (some ⟨163, 0, none⟩)), (3, .bool false), (4, .int .i64 0), (6, .pointer (some ⟨484, 0, none⟩)), (7, .bool true), (8, .int .i64 0)]
def Awh4 : AHeap := mkHeap 566 [(28, .cells [S [120]] 9 1 (some 28) 0), (38, .cells [S [120], S [121, 45, 122]] 9 0 (some 28) 0), (162, .cells [S [102, 111, 111, 45, 98, 97, 114], .slice (some ⟨38, 0, none⟩) 2 1, S [62, 61, 49, 46, 48, 44, 60, 50], .bool true, .int .i64 3, .slice none 0 0, .bool true, S [112, 121, 116, 104, 111, 110, 95, 118, 101, 114, 115, 105, 111, 110], S [60], .bool false, S [51, 46, 56]] 54 0 none 0), (163, .cells [.int .i64 0, .int .i64 0] 36 0 none 0), (484, .cells [.int .i64 0, .int .i64 0] 36 0 none 0)] []
def Awa5 : AAct := mkAct 115 [(0, .bool false), (1, .pointer (some ⟨162, 0, none⟩)), (2, .pointer (some ⟨163, 0, none⟩)), (3, .bool false), (4, .int .i64 0), (6, .pointer (some ⟨484, 0, none⟩)), (7, .bool true), (8, .int .i64 0), (10, .pointer (some ⟨609, 0, none⟩))]
def Awh5 : AHeap := mkHeap 610 [(28, .cells [S [120]] 9 1 (some 28) 0), (38, .cells [S [120], S [121, 45, 122]] 9 0 (some 28) 0), (162, .cells [S [102, 111, 111, 45, 98, 97, 114], .slice (some ⟨38, 0, none⟩) 2 1, S [62, 61, 49, 46, 48, 44, 60, 50], .bool true, .int .i64 3, .slice none 0 0, .bool true, S [112, 121, 116, 104, 111, 110, 95, 118, 101, 114, 115, 105, 111, 110], S [60], .bool false, S [51, 46, 56]] 54 0 none 0), (163, .cells [.int .i64 0, .int .i64 0] 36 0 none 0), (484, .cells [.int .i64 0, .int .i64 0] 36 0 none 0), (609, .cells [.int .i64 11, .int .i64 2] 36 0 none 0)] []
def Awa6 : AAct := mkAct 115 [(0, .bool false), (1, .pointer (some ⟨162, 0, none⟩)), (2, .pointer (some ⟨163, 0, none⟩)), (3, .bool false), (4, .int .i64 0), (6, .pointer (some ⟨484, 0, none⟩)), (7, .bool true), (8, .int .i64 0), (10, .pointer (some ⟨609, 0, none⟩)), (12, .pointer (some ⟨654, 0, none⟩))]
def Awh6 : AHeap := mkHeap 655 [(28, .cells [S [120]] 9 1 (some 28) 0), (38, .cells [S [120], S [121, 45, 122]] 9 0 (some 28) 0), (162, .cells [S [102, 111, 111, 45, 98, 97, 114], .slice (some ⟨38, 0, none⟩) 2 1, S [62, 61, 49, 46, 48, 44, 60, 50], .bool true, .int .i64 3, .slice none 0 0, .bool true, S [112, 121, 116, 104, 111, 110, 95, 118, 101, 114, 115, 105, 111, 110], S [60], .bool false, S [51, 46, 56]] 54 0 none 0), (163, .cells [.int .i64 0, .int .i64 0] 36 0 none 0), (484, .cells [.int .i64 0, .int .i64 0] 36 0 none 0), (609, .cells [.int .i64 11, .int .i64 2] 36 0 none 0), (654, .cells [.int .i64 15, .int .i64 3] 36 0 none 0)] []
def Awa7 : AAct := mkAct 115 [(0, .bool false), (1, .pointer (some ⟨162, 0, none⟩)), (2, .pointer (some ⟨163, 0, none⟩)), (3, .bool false), (4, .int .i64 0), (6, .pointer (some ⟨484, 0, none⟩)), (7, .bool true), (8, .int .i64 0), (10, .pointer (some ⟨609, 0, none⟩)), (12, .pointer (some ⟨654, 0, none⟩)), (14, .pointer (some ⟨665, 0, none⟩))]
def Awh7 : AHeap := mkHeap 666 [(28, .cells [S [120]] 9 1 (some 28) 0), (38, .cells [S [120], S [121, 45, 122]] 9 0 (some 28) 0), (162, .cells [S [102, 111, 111, 45, 98, 97, 114], .slice (some ⟨38, 0, none⟩) 2 1, S [62, 61, 49, 46, 48, 44, 60, 50], .bool true, .int .i64 3, .slice none 0 0, .bool true, S [112, 121, 116, 104, 111, 110, 95, 118, 101, 114, 115, 105, 111, 110], S [60], .bool false, S [51, 46, 56]] 54 0 none 0), (163, .cells [.int .i64 0, .int .i64 0] 36 0 none 0), (484, .cells [.int .i64 0, .int .i64 0] 36 0 none 0), (609, .cells [.int .i64 11, .int .i64 2] 36 0 none 0), (654, .cells [.int .i64 15, .int .i64 3] 36 0 none 0), (665, .cells [.int .i64 10, .int .i64 0] 36 0 none 0)] []
def Awa8 : AAct := mkAct 115 [(0, .bool true)]
def Awh8 : AHeap := mkHeap 666 [] []
def Awa9 : AAct := mkAct 115 [(0, .bool true)]
def Awh9 : AHeap := mkHeap 666 [] []
end Go.Eng

