/- What is proved here: closed calls of the program, each with the value that it gives (run by the proved evaluator). -/
import Derived.Test.YtokjdgphhmddcaaGreatHvKn4
set_option linter.all false
namespace Go.Hv
open Go Go.Proofs
namespace Kn
set_option maxRecDepth 100000
/-! limewash/aufs.without: 363 operations -/
def a65 : List HVal := [.ps 0 8 false [[.int .i64 0, .str [], .int .i64 1, .ps 0 2 true [], .str [], .int .i64 0, .int .i64 0, .int .i64 0], [.int .i64 1, .str [46, 119, 104, 46, 119], .int .i64 2, .ps 0 2 true [], .str [], .int .i64 0, .int .i64 0, .int .i64 0], [.int .i64 1, .str [97], .int .i64 1, .ps 0 2 true [], .str [], .int .i64 0, .int .i64 0, .int .i64 0], [.int .i64 2, .str [46, 119, 104, 46, 46, 119, 104, 46, 111, 112, 113], .int .i64 2, .ps 0 2 true [], .str [], .int .i64 0, .int .i64 0, .int .i64 0], [.int .i64 2, .str [46, 119, 104, 46, 46, 119, 104, 46, 120, 102], .int .i64 2, .ps 0 2 true [], .str [49], .int .i64 0, .int .i64 0, .int .i64 1], [.int .i64 1, .str [120], .int .i64 2, .ps 0 2 true [], .str [49], .int .i64 0, .int .i64 0, .int .i64 1]]]
def v65 : HVal := .tup [.ps 0 8 false [[.int .i64 0, .str [], .int .i64 1, .ps 0 2 true [], .str [], .int .i64 0, .int .i64 0, .int .i64 0], [.int .i64 1, .str [46, 119, 104, 46, 119], .int .i64 2, .ps 0 2 true [], .str [], .int .i64 0, .int .i64 0, .int .i64 0], [.int .i64 1, .str [97], .int .i64 1, .ps 0 2 true [], .str [], .int .i64 0, .int .i64 0, .int .i64 0], [.int .i64 2, .str [46, 119, 104, 46, 46, 119, 104, 46, 111, 112, 113], .int .i64 2, .ps 0 2 true [], .str [], .int .i64 0, .int .i64 0, .int .i64 0], [.int .i64 2, .str [46, 119, 104, 46, 46, 119, 104, 46, 120, 102], .int .i64 2, .ps 0 2 true [], .str [49], .int .i64 0, .int .i64 0, .int .i64 1], [.int .i64 1, .str [120], .int .i64 2, .ps 0 2 true [], .str [49], .int .i64 0, .int .i64 0, .int .i64 1]], .int .i64 0, .int .i64 0]
theorem k65 : PSpec K0 75 a65 v65 := PSpec.of_run G0_ok (hooksWith_ok ok_64 hk0_ok) (noS_ok _ _) mixed0 (n := 100000) (by decide +kernel)
def ks65 : Known := (75, a65, v65) :: ks64
theorem ok_65 : KnownOK Tryz.prog G0 ks65 := KnownOK.cons k65 ok_64
/-! limewash/tree.Same: 57 operations -/
def a66 : List HVal := [.ps 0 8 false [[.int .i64 0, .str [], .int .i64 1, .ps 0 2 true [], .str [], .int .i64 0, .int .i64 0, .int .i64 0], [.int .i64 1, .str [46, 119, 104, 46, 46, 119, 104, 46, 112, 108, 110, 107], .int .i64 1, .ps 0 2 true [], .str [], .int .i64 0, .int .i64 0, .int .i64 0], [.int .i64 2, .str [48, 49], .int .i64 2, .ps 0 2 true [], .str [49], .int .i64 0, .int .i64 0, .int .i64 1], [.int .i64 1, .str [46, 119, 104, 46, 119], .int .i64 2, .ps 0 2 true [], .str [], .int .i64 0, .int .i64 0, .int .i64 0], [.int .i64 1, .str [97], .int .i64 1, .ps 0 2 true [], .str [], .int .i64 0, .int .i64 0, .int .i64 0], [.int .i64 2, .str [46, 119, 104, 46, 46, 119, 104, 46, 111, 112, 113], .int .i64 2, .ps 0 2 true [], .str [], .int .i64 0, .int .i64 0, .int .i64 0], [.int .i64 2, .str [46, 119, 104, 46, 46, 119, 104, 46, 120, 102], .int .i64 2, .ps 0 2 true [], .str [49], .int .i64 0, .int .i64 0, .int .i64 1], [.int .i64 1, .str [120], .int .i64 2, .ps 0 2 true [], .str [49], .int .i64 0, .int .i64 0, .int .i64 1]], .ps 0 8 false [[.int .i64 0, .str [], .int .i64 1, .ps 0 2 true [], .str [], .int .i64 0, .int .i64 0, .int .i64 0], [.int .i64 1, .str [46, 119, 104, 46, 119], .int .i64 2, .ps 0 2 true [], .str [], .int .i64 0, .int .i64 0, .int .i64 0], [.int .i64 1, .str [97], .int .i64 1, .ps 0 2 true [], .str [], .int .i64 0, .int .i64 0, .int .i64 0], [.int .i64 2, .str [46, 119, 104, 46, 46, 119, 104, 46, 111, 112, 113], .int .i64 2, .ps 0 2 true [], .str [], .int .i64 0, .int .i64 0, .int .i64 0], [.int .i64 2, .str [46, 119, 104, 46, 46, 119, 104, 46, 120, 102], .int .i64 2, .ps 0 2 true [], .str [49], .int .i64 0, .int .i64 0, .int .i64 1], [.int .i64 1, .str [120], .int .i64 2, .ps 0 2 true [], .str [49], .int .i64 0, .int .i64 0, .int .i64 1]]]
def v66 : HVal := .tup [.bool false, .int .i64 0]
theorem k66 : PSpec K0 79 a66 v66 := PSpec.of_run G0_ok (hooksWith_ok ok_65 hk0_ok) (noS_ok _ _) mixed0 (n := 100000) (by decide +kernel)
def ks66 : Known := (79, a66, v66) :: ks65
theorem ok_66 : KnownOK Tryz.prog G0 ks66 := KnownOK.cons k66 ok_65
/-! limewash/aufs.Decode: 1089 operations -/
def a67 : List HVal := [.ps 0 8 false [[.int .i64 0, .str [], .int .i64 1, .ps 0 2 true [], .str [], .int .i64 0, .int .i64 0, .int .i64 0], [.int .i64 1, .str [46, 119, 104, 46, 119], .int .i64 2, .ps 0 2 true [], .str [], .int .i64 0, .int .i64 0, .int .i64 0], [.int .i64 1, .str [97], .int .i64 1, .ps 0 2 true [], .str [], .int .i64 0, .int .i64 0, .int .i64 0], [.int .i64 2, .str [46, 119, 104, 46, 46, 119, 104, 46, 111, 112, 113], .int .i64 2, .ps 0 2 true [], .str [], .int .i64 0, .int .i64 0, .int .i64 0], [.int .i64 2, .str [46, 119, 104, 46, 46, 119, 104, 46, 120, 102], .int .i64 2, .ps 0 2 true [], .str [49], .int .i64 0, .int .i64 0, .int .i64 1], [.int .i64 1, .str [120], .int .i64 2, .ps 0 2 true [], .str [49], .int .i64 0, .int .i64 0, .int .i64 1]]]
def v67 : HVal := .tup [.ps 0 0 true [], .int .i64 0, .int .i64 18]
theorem k67 : PSpec K0 29 a67 v67 := PSpec.of_run G0_ok (hooksWith_ok ok_66 hk0_ok) (noS_ok _ _) mixed0 (n := 100000) (by decide +kernel)
def ks67 : Known := (29, a67, v67) :: ks66
theorem ok_67 : KnownOK Tryz.prog G0 ks67 := KnownOK.cons k67 ok_66
/-! limewash/aufs.Good: 14 operations -/
def a68 : List HVal := [.ps 0 8 false [[.int .i64 0, .str [], .int .i64 1, .ps 0 2 true [], .str [], .int .i64 0, .int .i64 0, .int .i64 0], [.int .i64 1, .str [46, 119, 104, 46, 119], .int .i64 2, .ps 0 2 true [], .str [], .int .i64 0, .int .i64 0, .int .i64 0], [.int .i64 1, .str [97], .int .i64 1, .ps 0 2 true [], .str [], .int .i64 0, .int .i64 0, .int .i64 0], [.int .i64 2, .str [46, 119, 104, 46, 46, 119, 104, 46, 111, 112, 113], .int .i64 2, .ps 0 2 true [], .str [], .int .i64 0, .int .i64 0, .int .i64 0], [.int .i64 2, .str [46, 119, 104, 46, 46, 119, 104, 46, 120, 102], .int .i64 2, .ps 0 2 true [], .str [49], .int .i64 0, .int .i64 0, .int .i64 1], [.int .i64 1, .str [120], .int .i64 2, .ps 0 2 true [], .str [49], .int .i64 0, .int .i64 0, .int .i64 1]]]
def v68 : HVal := .tup [.int .i64 0, .int .i64 18]
theorem k68 : PSpec K0 20 a68 v68 := PSpec.of_run G0_ok (hooksWith_ok ok_67 hk0_ok) (noS_ok _ _) mixed0 (n := 100000) (by decide +kernel)
def ks68 : Known := (20, a68, v68) :: ks67
theorem ok_68 : KnownOK Tryz.prog G0 ks68 := KnownOK.cons k68 ok_67
/-! limewash/paths.Name: 61 operations -/
def a69 : List HVal := [.str [111]]
def v69 : HVal := .int .i64 0
theorem k69 : PSpec K0 82 a69 v69 := PSpec.of_run G0_ok (hooksWith_ok ok_68 hk0_ok) (noS_ok _ _) mixed0 (n := 100000) (by decide +kernel)
def ks69 : Known := (82, a69, v69) :: ks68
theorem ok_69 : KnownOK Tryz.prog G0 ks69 := KnownOK.cons k69 ok_68
/-! limewash/branch.Check: 847 operations -/
def a70 : List HVal := [.ps 1 10 true [[.int .i64 0, .str [], .int .i64 1, .ps 0 0 true [], .str [], .int .i64 0, .int .i64 0, .int .i64 0, .bool false, .ps 0 0 true []], [.int .i64 1, .str [97], .int .i64 1, .ps 0 0 true [], .str [], .int .i64 0, .int .i64 0, .int .i64 0, .bool false, .ps 1 1 true [[.str [111]]]], [.int .i64 2, .str [46, 119, 104, 46, 102], .int .i64 2, .ps 0 0 true [], .str [49], .int .i64 0, .int .i64 0, .int .i64 1, .bool false, .ps 0 0 true []], [.int .i64 1, .str [119], .int .i64 5, .ps 0 0 true [], .str [], .int .i64 0, .int .i64 0, .int .i64 0, .bool false, .ps 0 0 true []], [.int .i64 1, .str [120], .int .i64 2, .ps 0 0 true [], .str [49], .int .i64 0, .int .i64 0, .int .i64 1, .bool false, .ps 0 0 true []]]]
def v70 : HVal := .tup [.int .i64 0, .int .i64 0]
theorem k70 : PSpec K0 48 a70 v70 := PSpec.of_run G0_ok (hooksWith_ok ok_69 hk0_ok) (noS_ok _ _) mixed0 (n := 100000) (by decide +kernel)
def ks70 : Known := (48, a70, v70) :: ks69
theorem ok_70 : KnownOK Tryz.prog G0 ks70 := KnownOK.cons k70 ok_69
/-! limewash/branch.Kids: 400 operations -/
def a71 : List HVal := [.ps 1 10 true [[.int .i64 0, .str [], .int .i64 1, .ps 0 0 true [], .str [], .int .i64 0, .int .i64 0, .int .i64 0, .bool false, .ps 0 0 true []], [.int .i64 1, .str [97], .int .i64 1, .ps 0 0 true [], .str [], .int .i64 0, .int .i64 0, .int .i64 0, .bool false, .ps 1 1 true [[.str [111]]]], [.int .i64 2, .str [46, 119, 104, 46, 102], .int .i64 2, .ps 0 0 true [], .str [49], .int .i64 0, .int .i64 0, .int .i64 1, .bool false, .ps 0 0 true []], [.int .i64 1, .str [119], .int .i64 5, .ps 0 0 true [], .str [], .int .i64 0, .int .i64 0, .int .i64 0, .bool false, .ps 0 0 true []], [.int .i64 1, .str [120], .int .i64 2, .ps 0 0 true [], .str [49], .int .i64 0, .int .i64 0, .int .i64 1, .bool false, .ps 0 0 true []]], .int .i64 0]
def v71 : HVal := .tup [.ps 0 1 false [[.int .i64 1], [.int .i64 3], [.int .i64 4]], .int .i64 0]
theorem k71 : PSpec K0 102 a71 v71 := PSpec.of_run G0_ok (hooksWith_ok ok_70 hk0_ok) (noS_ok _ _) mixed0 (n := 100000) (by decide +kernel)
def ks71 : Known := (102, a71, v71) :: ks70
theorem ok_71 : KnownOK Tryz.prog G0 ks71 := KnownOK.cons k71 ok_70
/-! limewash/branch.Dir: 847 operations -/
def a72 : List HVal := [.ps 1 10 true [[.int .i64 0, .str [], .int .i64 1, .ps 0 0 true [], .str [], .int .i64 0, .int .i64 0, .int .i64 0, .bool false, .ps 0 0 true []], [.int .i64 1, .str [97], .int .i64 1, .ps 0 0 true [], .str [], .int .i64 0, .int .i64 0, .int .i64 0, .bool false, .ps 1 1 true [[.str [111]]]], [.int .i64 2, .str [46, 119, 104, 46, 102], .int .i64 2, .ps 0 0 true [], .str [49], .int .i64 0, .int .i64 0, .int .i64 1, .bool false, .ps 0 0 true []], [.int .i64 1, .str [119], .int .i64 5, .ps 0 0 true [], .str [], .int .i64 0, .int .i64 0, .int .i64 0, .bool false, .ps 0 0 true []], [.int .i64 1, .str [120], .int .i64 2, .ps 0 0 true [], .str [49], .int .i64 0, .int .i64 0, .int .i64 1, .bool false, .ps 0 0 true []]], .int .i64 0]
def v72 : HVal := .tup [.agg [.ps 0 2 true [], .bool false, .ps 0 1 true [], .ps 0 12 false [[.str [97], .int .i64 0, .str [], .int .i64 1, .ps 0 0 true [], .str [], .int .i64 0, .int .i64 0, .int .i64 0, .bool false, .bool true, .int .i64 1], [.str [119], .int .i64 0, .str [], .int .i64 5, .ps 0 2 true [], .str [], .int .i64 0, .int .i64 0, .int .i64 0, .bool true, .bool true, .int .i64 1], [.str [120], .int .i64 0, .str [], .int .i64 2, .ps 0 2 true [], .str [49], .int .i64 0, .int .i64 0, .int .i64 1, .bool false, .bool true, .int .i64 2]]], .int .i64 0]
theorem k72 : PSpec K0 101 a72 v72 := PSpec.of_run G0_ok (hooksWith_ok ok_71 hk0_ok) (noS_ok _ _) mixed0 (n := 100000) (by decide +kernel)
def ks72 : Known := (101, a72, v72) :: ks71
theorem ok_72 : KnownOK Tryz.prog G0 ks72 := KnownOK.cons k72 ok_71
/-! limewash/branch.Kids: 390 operations -/
def a73 : List HVal := [.ps 1 10 true [[.int .i64 0, .str [], .int .i64 1, .ps 0 0 true [], .str [], .int .i64 0, .int .i64 0, .int .i64 0, .bool false, .ps 0 0 true []], [.int .i64 1, .str [97], .int .i64 1, .ps 0 0 true [], .str [], .int .i64 0, .int .i64 0, .int .i64 0, .bool false, .ps 1 1 true [[.str [111]]]], [.int .i64 2, .str [46, 119, 104, 46, 102], .int .i64 2, .ps 0 0 true [], .str [49], .int .i64 0, .int .i64 0, .int .i64 1, .bool false, .ps 0 0 true []], [.int .i64 1, .str [119], .int .i64 5, .ps 0 0 true [], .str [], .int .i64 0, .int .i64 0, .int .i64 0, .bool false, .ps 0 0 true []], [.int .i64 1, .str [120], .int .i64 2, .ps 0 0 true [], .str [49], .int .i64 0, .int .i64 0, .int .i64 1, .bool false, .ps 0 0 true []]], .int .i64 1]
def v73 : HVal := .tup [.ps 0 1 false [[.int .i64 2]], .int .i64 0]
theorem k73 : PSpec K0 102 a73 v73 := PSpec.of_run G0_ok (hooksWith_ok ok_72 hk0_ok) (noS_ok _ _) mixed0 (n := 100000) (by decide +kernel)
def ks73 : Known := (102, a73, v73) :: ks72
theorem ok_73 : KnownOK Tryz.prog G0 ks73 := KnownOK.cons k73 ok_72
/-! limewash/branch.Dir: 649 operations -/
def a74 : List HVal := [.ps 1 10 true [[.int .i64 0, .str [], .int .i64 1, .ps 0 0 true [], .str [], .int .i64 0, .int .i64 0, .int .i64 0, .bool false, .ps 0 0 true []], [.int .i64 1, .str [97], .int .i64 1, .ps 0 0 true [], .str [], .int .i64 0, .int .i64 0, .int .i64 0, .bool false, .ps 1 1 true [[.str [111]]]], [.int .i64 2, .str [46, 119, 104, 46, 102], .int .i64 2, .ps 0 0 true [], .str [49], .int .i64 0, .int .i64 0, .int .i64 1, .bool false, .ps 0 0 true []], [.int .i64 1, .str [119], .int .i64 5, .ps 0 0 true [], .str [], .int .i64 0, .int .i64 0, .int .i64 0, .bool false, .ps 0 0 true []], [.int .i64 1, .str [120], .int .i64 2, .ps 0 0 true [], .str [49], .int .i64 0, .int .i64 0, .int .i64 1, .bool false, .ps 0 0 true []]], .int .i64 1]
def v74 : HVal := .tup [.agg [.ps 0 2 true [], .bool false, .ps 0 1 false [[.str [111]]], .ps 0 12 false [[.str [46, 119, 104, 46, 102], .int .i64 0, .str [], .int .i64 2, .ps 0 2 true [], .str [49], .int .i64 0, .int .i64 0, .int .i64 1, .bool false, .bool false, .int .i64 2]]], .int .i64 0]
theorem k74 : PSpec K0 101 a74 v74 := PSpec.of_run G0_ok (hooksWith_ok ok_73 hk0_ok) (noS_ok _ _) mixed0 (n := 100000) (by decide +kernel)
def ks74 : Known := (101, a74, v74) :: ks73
theorem ok_74 : KnownOK Tryz.prog G0 ks74 := KnownOK.cons k74 ok_73
/-! limewash/branch.CheckDir: 228 operations -/
def a75 : List HVal := [.agg [.ps 0 2 true [], .bool false, .ps 0 1 false [[.str [111]]], .ps 0 12 false [[.str [46, 119, 104, 46, 102], .int .i64 0, .str [], .int .i64 2, .ps 0 2 true [], .str [49], .int .i64 0, .int .i64 0, .int .i64 1, .bool false, .bool false, .int .i64 2]]]]
def v75 : HVal := .tup [.int .i64 0, .int .i64 0]
theorem k75 : PSpec K0 31 a75 v75 := PSpec.of_run G0_ok (hooksWith_ok ok_74 hk0_ok) (noS_ok _ _) mixed0 (n := 100000) (by decide +kernel)
def ks75 : Known := (31, a75, v75) :: ks74
theorem ok_75 : KnownOK Tryz.prog G0 ks75 := KnownOK.cons k75 ok_74
/-! limewash/aufs.EncodeDir: 21 operations -/
def a76 : List HVal := [.agg [.ps 0 2 true [], .bool false, .ps 0 1 false [[.str [111]]], .ps 0 12 false [[.str [46, 119, 104, 46, 102], .int .i64 0, .str [], .int .i64 2, .ps 0 2 true [], .str [49], .int .i64 0, .int .i64 0, .int .i64 1, .bool false, .bool false, .int .i64 2]]]]
def v76 : HVal := .tup [.agg [.ps 0 0 true [], .bool false, .ps 0 0 true [], .ps 0 0 true []], .int .i64 (-1), .int .i64 15]
theorem k76 : PSpec K0 9 a76 v76 := PSpec.of_run G0_ok (hooksWith_ok ok_75 hk0_ok) (noS_ok _ _) mixed0 (n := 100000) (by decide +kernel)
def ks76 : Known := (9, a76, v76) :: ks75
theorem ok_76 : KnownOK Tryz.prog G0 ks76 := KnownOK.cons k76 ok_75
/-! limewash/aufs.Encode: 141 operations -/
def a77 : List HVal := [.ps 1 10 true [[.int .i64 0, .str [], .int .i64 1, .ps 0 0 true [], .str [], .int .i64 0, .int .i64 0, .int .i64 0, .bool false, .ps 0 0 true []], [.int .i64 1, .str [97], .int .i64 1, .ps 0 0 true [], .str [], .int .i64 0, .int .i64 0, .int .i64 0, .bool false, .ps 1 1 true [[.str [111]]]], [.int .i64 2, .str [46, 119, 104, 46, 102], .int .i64 2, .ps 0 0 true [], .str [49], .int .i64 0, .int .i64 0, .int .i64 1, .bool false, .ps 0 0 true []], [.int .i64 1, .str [119], .int .i64 5, .ps 0 0 true [], .str [], .int .i64 0, .int .i64 0, .int .i64 0, .bool false, .ps 0 0 true []], [.int .i64 1, .str [120], .int .i64 2, .ps 0 0 true [], .str [49], .int .i64 0, .int .i64 0, .int .i64 1, .bool false, .ps 0 0 true []]]]
def v77 : HVal := .tup [.ps 0 0 true [], .int .i64 1, .int .i64 15]
theorem k77 : PSpec K0 13 a77 v77 := PSpec.of_run G0_ok (hooksWith_ok ok_76 hk0_ok) (noS_ok _ _) mixed0 (n := 100000) (by decide +kernel)
def ks77 : Known := (13, a77, v77) :: ks76
theorem ok_77 : KnownOK Tryz.prog G0 ks77 := KnownOK.cons k77 ok_76
/-! limewash/aufs.Can: 14 operations -/
def a78 : List HVal := [.ps 1 10 true [[.int .i64 0, .str [], .int .i64 1, .ps 0 0 true [], .str [], .int .i64 0, .int .i64 0, .int .i64 0, .bool false, .ps 0 0 true []], [.int .i64 1, .str [97], .int .i64 1, .ps 0 0 true [], .str [], .int .i64 0, .int .i64 0, .int .i64 0, .bool false, .ps 1 1 true [[.str [111]]]], [.int .i64 2, .str [46, 119, 104, 46, 102], .int .i64 2, .ps 0 0 true [], .str [49], .int .i64 0, .int .i64 0, .int .i64 1, .bool false, .ps 0 0 true []], [.int .i64 1, .str [119], .int .i64 5, .ps 0 0 true [], .str [], .int .i64 0, .int .i64 0, .int .i64 0, .bool false, .ps 0 0 true []], [.int .i64 1, .str [120], .int .i64 2, .ps 0 0 true [], .str [49], .int .i64 0, .int .i64 0, .int .i64 1, .bool false, .ps 0 0 true []]]]
def v78 : HVal := .tup [.int .i64 1, .int .i64 15]
theorem k78 : PSpec K0 22 a78 v78 := PSpec.of_run G0_ok (hooksWith_ok ok_77 hk0_ok) (noS_ok _ _) mixed0 (n := 100000) (by decide +kernel)
def ks78 : Known := (22, a78, v78) :: ks77
theorem ok_78 : KnownOK Tryz.prog G0 ks78 := KnownOK.cons k78 ok_77
/-! limewash/paths.Name: 590 operations -/
def a79 : List HVal := [.str [49, 50, 51, 52, 53, 54, 55, 56, 57, 48, 49, 50, 51, 52, 53, 54, 55, 56, 57, 48, 49, 50, 51, 52]]
def v79 : HVal := .int .i64 0
theorem k79 : PSpec K0 82 a79 v79 := PSpec.of_run G0_ok (hooksWith_ok ok_78 hk0_ok) (noS_ok _ _) mixed0 (n := 100000) (by decide +kernel)
def ks79 : Known := (82, a79, v79) :: ks78
theorem ok_79 : KnownOK Tryz.prog G0 ks79 := KnownOK.cons k79 ok_78
/-! limewash/tree.Check: 556 operations -/
def a80 : List HVal := [.ps 1 8 true [[.int .i64 0, .str [], .int .i64 1, .ps 0 2 true [], .str [], .int .i64 0, .int .i64 0, .int .i64 0], [.int .i64 1, .str [49, 50, 51, 52, 53, 54, 55, 56, 57, 48, 49, 50, 51, 52, 53, 54, 55, 56, 57, 48, 49, 50, 51, 52], .int .i64 5, .ps 0 2 true [], .str [], .int .i64 0, .int .i64 0, .int .i64 0]]]
def v80 : HVal := .tup [.int .i64 0, .int .i64 0]
theorem k80 : PSpec K0 74 a80 v80 := PSpec.of_run G0_ok (hooksWith_ok ok_79 hk0_ok) (noS_ok _ _) mixed0 (n := 100000) (by decide +kernel)
def ks80 : Known := (74, a80, v80) :: ks79
theorem ok_80 : KnownOK Tryz.prog G0 ks80 := KnownOK.cons k80 ok_79
/-! limewash/branch.Check: 317 operations -/
def a81 : List HVal := [.ps 1 10 true [[.int .i64 0, .str [], .int .i64 1, .ps 0 0 true [], .str [], .int .i64 0, .int .i64 0, .int .i64 0, .bool false, .ps 0 0 true []], [.int .i64 1, .str [49, 50, 51, 52, 53, 54, 55, 56, 57, 48, 49, 50, 51, 52, 53, 54, 55, 56, 57, 48, 49, 50, 51, 52], .int .i64 5, .ps 0 0 true [], .str [], .int .i64 0, .int .i64 0, .int .i64 0, .bool false, .ps 0 0 true []]]]
def v81 : HVal := .tup [.int .i64 0, .int .i64 0]
theorem k81 : PSpec K0 48 a81 v81 := PSpec.of_run G0_ok (hooksWith_ok ok_80 hk0_ok) (noS_ok _ _) mixed0 (n := 100000) (by decide +kernel)
def ks81 : Known := (48, a81, v81) :: ks80
theorem ok_81 : KnownOK Tryz.prog G0 ks81 := KnownOK.cons k81 ok_80
/-! limewash/branch.Kids: 177 operations -/
def a82 : List HVal := [.ps 1 10 true [[.int .i64 0, .str [], .int .i64 1, .ps 0 0 true [], .str [], .int .i64 0, .int .i64 0, .int .i64 0, .bool false, .ps 0 0 true []], [.int .i64 1, .str [49, 50, 51, 52, 53, 54, 55, 56, 57, 48, 49, 50, 51, 52, 53, 54, 55, 56, 57, 48, 49, 50, 51, 52], .int .i64 5, .ps 0 0 true [], .str [], .int .i64 0, .int .i64 0, .int .i64 0, .bool false, .ps 0 0 true []]], .int .i64 0]
def v82 : HVal := .tup [.ps 0 1 false [[.int .i64 1]], .int .i64 0]
theorem k82 : PSpec K0 102 a82 v82 := PSpec.of_run G0_ok (hooksWith_ok ok_81 hk0_ok) (noS_ok _ _) mixed0 (n := 100000) (by decide +kernel)
def ks82 : Known := (102, a82, v82) :: ks81
theorem ok_82 : KnownOK Tryz.prog G0 ks82 := KnownOK.cons k82 ok_81
/-! limewash/branch.Dir: 279 operations -/
def a83 : List HVal := [.ps 1 10 true [[.int .i64 0, .str [], .int .i64 1, .ps 0 0 true [], .str [], .int .i64 0, .int .i64 0, .int .i64 0, .bool false, .ps 0 0 true []], [.int .i64 1, .str [49, 50, 51, 52, 53, 54, 55, 56, 57, 48, 49, 50, 51, 52, 53, 54, 55, 56, 57, 48, 49, 50, 51, 52], .int .i64 5, .ps 0 0 true [], .str [], .int .i64 0, .int .i64 0, .int .i64 0, .bool false, .ps 0 0 true []]], .int .i64 0]
def v83 : HVal := .tup [.agg [.ps 0 2 true [], .bool false, .ps 0 1 true [], .ps 0 12 false [[.str [49, 50, 51, 52, 53, 54, 55, 56, 57, 48, 49, 50, 51, 52, 53, 54, 55, 56, 57, 48, 49, 50, 51, 52], .int .i64 0, .str [], .int .i64 5, .ps 0 2 true [], .str [], .int .i64 0, .int .i64 0, .int .i64 0, .bool true, .bool true, .int .i64 1]]], .int .i64 0]
theorem k83 : PSpec K0 101 a83 v83 := PSpec.of_run G0_ok (hooksWith_ok ok_82 hk0_ok) (noS_ok _ _) mixed0 (n := 100000) (by decide +kernel)
def ks83 : Known := (101, a83, v83) :: ks82
theorem ok_83 : KnownOK Tryz.prog G0 ks83 := KnownOK.cons k83 ok_82
/-! limewash/branch.CheckDir: 217 operations -/
def a84 : List HVal := [.agg [.ps 0 2 true [], .bool false, .ps 0 1 true [], .ps 0 12 false [[.str [49, 50, 51, 52, 53, 54, 55, 56, 57, 48, 49, 50, 51, 52, 53, 54, 55, 56, 57, 48, 49, 50, 51, 52], .int .i64 0, .str [], .int .i64 5, .ps 0 2 true [], .str [], .int .i64 0, .int .i64 0, .int .i64 0, .bool true, .bool true, .int .i64 1]]]]
def v84 : HVal := .tup [.int .i64 0, .int .i64 0]
theorem k84 : PSpec K0 31 a84 v84 := PSpec.of_run G0_ok (hooksWith_ok ok_83 hk0_ok) (noS_ok _ _) mixed0 (n := 100000) (by decide +kernel)
def ks84 : Known := (31, a84, v84) :: ks83
theorem ok_84 : KnownOK Tryz.prog G0 ks84 := KnownOK.cons k84 ok_83
/-! limewash/aufs.EncodeDir: 143 operations -/
def a85 : List HVal := [.agg [.ps 0 2 true [], .bool false, .ps 0 1 true [], .ps 0 12 false [[.str [49, 50, 51, 52, 53, 54, 55, 56, 57, 48, 49, 50, 51, 52, 53, 54, 55, 56, 57, 48, 49, 50, 51, 52], .int .i64 0, .str [], .int .i64 5, .ps 0 2 true [], .str [], .int .i64 0, .int .i64 0, .int .i64 0, .bool true, .bool true, .int .i64 1]]]]
def v85 : HVal := .tup [.agg [.ps 0 0 true [], .bool false, .ps 0 0 true [], .ps 0 0 true []], .int .i64 0, .int .i64 17]
theorem k85 : PSpec K0 9 a85 v85 := PSpec.of_run G0_ok (hooksWith_ok ok_84 hk0_ok) (noS_ok _ _) mixed0 (n := 100000) (by decide +kernel)
def ks85 : Known := (9, a85, v85) :: ks84
theorem ok_85 : KnownOK Tryz.prog G0 ks85 := KnownOK.cons k85 ok_84
/-! limewash/aufs.Encode: 91 operations -/
def a86 : List HVal := [.ps 1 10 true [[.int .i64 0, .str [], .int .i64 1, .ps 0 0 true [], .str [], .int .i64 0, .int .i64 0, .int .i64 0, .bool false, .ps 0 0 true []], [.int .i64 1, .str [49, 50, 51, 52, 53, 54, 55, 56, 57, 48, 49, 50, 51, 52, 53, 54, 55, 56, 57, 48, 49, 50, 51, 52], .int .i64 5, .ps 0 0 true [], .str [], .int .i64 0, .int .i64 0, .int .i64 0, .bool false, .ps 0 0 true []]]]
def v86 : HVal := .tup [.ps 0 0 true [], .int .i64 1, .int .i64 17]
theorem k86 : PSpec K0 13 a86 v86 := PSpec.of_run G0_ok (hooksWith_ok ok_85 hk0_ok) (noS_ok _ _) mixed0 (n := 100000) (by decide +kernel)
def ks86 : Known := (13, a86, v86) :: ks85
theorem ok_86 : KnownOK Tryz.prog G0 ks86 := KnownOK.cons k86 ok_85
/-! limewash/aufs.Can: 14 operations -/
def a87 : List HVal := [.ps 1 10 true [[.int .i64 0, .str [], .int .i64 1, .ps 0 0 true [], .str [], .int .i64 0, .int .i64 0, .int .i64 0, .bool false, .ps 0 0 true []], [.int .i64 1, .str [49, 50, 51, 52, 53, 54, 55, 56, 57, 48, 49, 50, 51, 52, 53, 54, 55, 56, 57, 48, 49, 50, 51, 52], .int .i64 5, .ps 0 0 true [], .str [], .int .i64 0, .int .i64 0, .int .i64 0, .bool false, .ps 0 0 true []]]]
def v87 : HVal := .tup [.int .i64 1, .int .i64 17]
theorem k87 : PSpec K0 22 a87 v87 := PSpec.of_run G0_ok (hooksWith_ok ok_86 hk0_ok) (noS_ok _ _) mixed0 (n := 100000) (by decide +kernel)
def ks87 : Known := (22, a87, v87) :: ks86
theorem ok_87 : KnownOK Tryz.prog G0 ks87 := KnownOK.cons k87 ok_86
/-! limewash/limewashref03.Name: 572 operations -/
def a88 : List HVal := [.str [49, 50, 51, 52, 53, 54, 55, 56, 57, 48, 49, 50, 51, 52, 53, 54, 55, 56, 57, 48, 49, 50, 51, 52]]
def v88 : HVal := .int .i64 0
theorem k88 : PSpec K0 26 a88 v88 := PSpec.of_run G0_ok (hooksWith_ok ok_87 hk0_ok) (noS_ok _ _) mixed0 (n := 100000) (by decide +kernel)
def ks88 : Known := (26, a88, v88) :: ks87
theorem ok_88 : KnownOK Tryz.prog G0 ks88 := KnownOK.cons k88 ok_87
/-! limewash/branch.Check: 761 operations -/
def a89 : List HVal := [.ps 1 10 true [[.int .i64 0, .str [], .int .i64 1, .ps 0 0 true [], .str [], .int .i64 0, .int .i64 0, .int .i64 0, .bool false, .ps 0 0 true []], [.int .i64 1, .str [97], .int .i64 1, .ps 0 0 true [], .str [], .int .i64 0, .int .i64 0, .int .i64 0, .bool true, .ps 0 0 true []], [.int .i64 2, .str [46, 119, 104, 46, 102], .int .i64 2, .ps 0 0 true [], .str [49], .int .i64 0, .int .i64 0, .int .i64 1, .bool false, .ps 0 0 true []], [.int .i64 1, .str [119], .int .i64 5, .ps 0 0 true [], .str [], .int .i64 0, .int .i64 0, .int .i64 0, .bool false, .ps 0 0 true []], [.int .i64 1, .str [120], .int .i64 2, .ps 0 0 true [], .str [49], .int .i64 0, .int .i64 0, .int .i64 1, .bool false, .ps 0 0 true []]]]
def v89 : HVal := .tup [.int .i64 0, .int .i64 0]
theorem k89 : PSpec K0 48 a89 v89 := PSpec.of_run G0_ok (hooksWith_ok ok_88 hk0_ok) (noS_ok _ _) mixed0 (n := 100000) (by decide +kernel)
def ks89 : Known := (48, a89, v89) :: ks88
theorem ok_89 : KnownOK Tryz.prog G0 ks89 := KnownOK.cons k89 ok_88
/-! limewash/branch.Kids: 400 operations -/
def a90 : List HVal := [.ps 1 10 true [[.int .i64 0, .str [], .int .i64 1, .ps 0 0 true [], .str [], .int .i64 0, .int .i64 0, .int .i64 0, .bool false, .ps 0 0 true []], [.int .i64 1, .str [97], .int .i64 1, .ps 0 0 true [], .str [], .int .i64 0, .int .i64 0, .int .i64 0, .bool true, .ps 0 0 true []], [.int .i64 2, .str [46, 119, 104, 46, 102], .int .i64 2, .ps 0 0 true [], .str [49], .int .i64 0, .int .i64 0, .int .i64 1, .bool false, .ps 0 0 true []], [.int .i64 1, .str [119], .int .i64 5, .ps 0 0 true [], .str [], .int .i64 0, .int .i64 0, .int .i64 0, .bool false, .ps 0 0 true []], [.int .i64 1, .str [120], .int .i64 2, .ps 0 0 true [], .str [49], .int .i64 0, .int .i64 0, .int .i64 1, .bool false, .ps 0 0 true []]], .int .i64 0]
def v90 : HVal := .tup [.ps 0 1 false [[.int .i64 1], [.int .i64 3], [.int .i64 4]], .int .i64 0]
theorem k90 : PSpec K0 102 a90 v90 := PSpec.of_run G0_ok (hooksWith_ok ok_89 hk0_ok) (noS_ok _ _) mixed0 (n := 100000) (by decide +kernel)
def ks90 : Known := (102, a90, v90) :: ks89
theorem ok_90 : KnownOK Tryz.prog G0 ks90 := KnownOK.cons k90 ok_89
end Kn
end Go.Hv
