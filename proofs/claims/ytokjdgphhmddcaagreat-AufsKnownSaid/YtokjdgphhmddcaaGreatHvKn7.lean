/- What is proved here: closed calls of the program, each with the value that it gives (run by the proved evaluator). -/
import Derived.Test.YtokjdgphhmddcaaGreatHvKn6
set_option linter.all false
namespace Go.Hv
open Go Go.Proofs
namespace Kn
set_option maxRecDepth 100000
/-! limewash/aufs.Decode: 1089 operations -/
def a101 : List HVal := [.ps 1 8 true [[.int .i64 0, .str [], .int .i64 1, .ps 0 0 true [], .str [], .int .i64 0, .int .i64 0, .int .i64 0], [.int .i64 1, .str [46, 119, 104, 46, 46, 119, 104, 46, 112, 108, 110, 107], .int .i64 1, .ps 0 0 true [], .str [], .int .i64 0, .int .i64 0, .int .i64 0], [.int .i64 2, .str [48, 49], .int .i64 2, .ps 0 0 true [], .str [49], .int .i64 0, .int .i64 0, .int .i64 1], [.int .i64 1, .str [46, 119, 104, 46, 119], .int .i64 2, .ps 0 0 true [], .str [], .int .i64 0, .int .i64 0, .int .i64 0], [.int .i64 1, .str [97], .int .i64 1, .ps 0 0 true [], .str [], .int .i64 0, .int .i64 0, .int .i64 0], [.int .i64 2, .str [46, 119, 104, 46, 46, 119, 104, 46, 111, 112, 113], .int .i64 2, .ps 0 0 true [], .str [], .int .i64 0, .int .i64 0, .int .i64 0], [.int .i64 2, .str [46, 119, 104, 46, 46, 119, 104, 46, 120, 102], .int .i64 2, .ps 0 0 true [], .str [49], .int .i64 0, .int .i64 0, .int .i64 1], [.int .i64 1, .str [120], .int .i64 2, .ps 0 0 true [], .str [49], .int .i64 0, .int .i64 0, .int .i64 1]]]
def v101 : HVal := .tup [.ps 0 10 false [[.int .i64 0, .str [], .int .i64 1, .ps 0 2 true [], .str [], .int .i64 0, .int .i64 0, .int .i64 0, .bool false, .ps 0 0 true []], [.int .i64 1, .str [97], .int .i64 1, .ps 0 2 true [], .str [], .int .i64 0, .int .i64 0, .int .i64 0, .bool true, .ps 0 0 true []], [.int .i64 2, .str [46, 119, 104, 46, 102], .int .i64 2, .ps 0 2 true [], .str [49], .int .i64 0, .int .i64 0, .int .i64 1, .bool false, .ps 0 0 true []], [.int .i64 1, .str [119], .int .i64 5, .ps 0 0 true [], .str [], .int .i64 0, .int .i64 0, .int .i64 0, .bool false, .ps 0 0 true []], [.int .i64 1, .str [120], .int .i64 2, .ps 0 2 true [], .str [49], .int .i64 0, .int .i64 0, .int .i64 1, .bool false, .ps 0 0 true []]], .int .i64 0, .int .i64 0]
theorem k101 : PSpec K0 29 a101 v101 := PSpec.of_run G0_ok (hooksWith_ok ok_100 hk0_ok) (noS_ok _ _) mixed0 (n := 100000) (by decide +kernel)
def ks101 : Known := (29, a101, v101) :: ks100
theorem ok_101 : KnownOK Tryz.prog G0 ks101 := KnownOK.cons k101 ok_100
/-! limewash/paths.Name: 153 operations -/
def a102 : List HVal := [.str [46, 119, 104, 46, 97]]
def v102 : HVal := .int .i64 0
theorem k102 : PSpec K0 82 a102 v102 := PSpec.of_run G0_ok (hooksWith_ok ok_101 hk0_ok) (noS_ok _ _) mixed0 (n := 100000) (by decide +kernel)
def ks102 : Known := (82, a102, v102) :: ks101
theorem ok_102 : KnownOK Tryz.prog G0 ks102 := KnownOK.cons k102 ok_101
/-! limewash/tree.Check: 825 operations -/
def a103 : List HVal := [.ps 1 8 true [[.int .i64 0, .str [], .int .i64 1, .ps 0 0 true [], .str [], .int .i64 0, .int .i64 0, .int .i64 0], [.int .i64 1, .str [46, 119, 104, 46, 97], .int .i64 2, .ps 0 0 true [], .str [], .int .i64 0, .int .i64 0, .int .i64 0], [.int .i64 1, .str [97], .int .i64 2, .ps 0 0 true [], .str [], .int .i64 0, .int .i64 0, .int .i64 0]]]
def v103 : HVal := .tup [.int .i64 0, .int .i64 0]
theorem k103 : PSpec K0 74 a103 v103 := PSpec.of_run G0_ok (hooksWith_ok ok_102 hk0_ok) (noS_ok _ _) mixed0 (n := 100000) (by decide +kernel)
def ks103 : Known := (74, a103, v103) :: ks102
theorem ok_103 : KnownOK Tryz.prog G0 ks103 := KnownOK.cons k103 ok_102
/-! limewash/aufs.without: 234 operations -/
def a104 : List HVal := [.ps 1 8 true [[.int .i64 0, .str [], .int .i64 1, .ps 0 0 true [], .str [], .int .i64 0, .int .i64 0, .int .i64 0], [.int .i64 1, .str [46, 119, 104, 46, 97], .int .i64 2, .ps 0 0 true [], .str [], .int .i64 0, .int .i64 0, .int .i64 0], [.int .i64 1, .str [97], .int .i64 2, .ps 0 0 true [], .str [], .int .i64 0, .int .i64 0, .int .i64 0]]]
def v104 : HVal := .tup [.ps 1 8 true [[.int .i64 0, .str [], .int .i64 1, .ps 0 0 true [], .str [], .int .i64 0, .int .i64 0, .int .i64 0], [.int .i64 1, .str [46, 119, 104, 46, 97], .int .i64 2, .ps 0 0 true [], .str [], .int .i64 0, .int .i64 0, .int .i64 0], [.int .i64 1, .str [97], .int .i64 2, .ps 0 0 true [], .str [], .int .i64 0, .int .i64 0, .int .i64 0]], .int .i64 0, .int .i64 0]
theorem k104 : PSpec K0 75 a104 v104 := PSpec.of_run G0_ok (hooksWith_ok ok_103 hk0_ok) (noS_ok _ _) mixed0 (n := 100000) (by decide +kernel)
def ks104 : Known := (75, a104, v104) :: ks103
theorem ok_104 : KnownOK Tryz.prog G0 ks104 := KnownOK.cons k104 ok_103
/-! limewash/tree.Check: 825 operations -/
def a105 : List HVal := [.ps 1 8 true [[.int .i64 0, .str [], .int .i64 1, .ps 0 2 true [], .str [], .int .i64 0, .int .i64 0, .int .i64 0], [.int .i64 1, .str [46, 119, 104, 46, 97], .int .i64 2, .ps 0 2 true [], .str [], .int .i64 0, .int .i64 0, .int .i64 0], [.int .i64 1, .str [97], .int .i64 2, .ps 0 2 true [], .str [], .int .i64 0, .int .i64 0, .int .i64 0]]]
def v105 : HVal := .tup [.int .i64 0, .int .i64 0]
theorem k105 : PSpec K0 74 a105 v105 := PSpec.of_run G0_ok (hooksWith_ok ok_104 hk0_ok) (noS_ok _ _) mixed0 (n := 100000) (by decide +kernel)
def ks105 : Known := (74, a105, v105) :: ks104
theorem ok_105 : KnownOK Tryz.prog G0 ks105 := KnownOK.cons k105 ok_104
/-! limewash/branch.Check: 465 operations -/
def a106 : List HVal := [.ps 1 10 false [[.int .i64 0, .str [], .int .i64 1, .ps 0 0 true [], .str [], .int .i64 0, .int .i64 0, .int .i64 0, .bool false, .ps 0 0 true []], [.int .i64 1, .str [46, 119, 104, 46, 97], .int .i64 2, .ps 0 0 true [], .str [], .int .i64 0, .int .i64 0, .int .i64 0, .bool false, .ps 0 0 true []], [.int .i64 1, .str [97], .int .i64 2, .ps 0 0 true [], .str [], .int .i64 0, .int .i64 0, .int .i64 0, .bool false, .ps 0 0 true []]]]
def v106 : HVal := .tup [.int .i64 0, .int .i64 0]
theorem k106 : PSpec K0 48 a106 v106 := PSpec.of_run G0_ok (hooksWith_ok ok_105 hk0_ok) (noS_ok _ _) mixed0 (n := 100000) (by decide +kernel)
def ks106 : Known := (48, a106, v106) :: ks105
theorem ok_106 : KnownOK Tryz.prog G0 ks106 := KnownOK.cons k106 ok_105
/-! limewash/branch.Kids: 253 operations -/
def a107 : List HVal := [.ps 1 10 false [[.int .i64 0, .str [], .int .i64 1, .ps 0 0 true [], .str [], .int .i64 0, .int .i64 0, .int .i64 0, .bool false, .ps 0 0 true []], [.int .i64 1, .str [46, 119, 104, 46, 97], .int .i64 2, .ps 0 0 true [], .str [], .int .i64 0, .int .i64 0, .int .i64 0, .bool false, .ps 0 0 true []], [.int .i64 1, .str [97], .int .i64 2, .ps 0 0 true [], .str [], .int .i64 0, .int .i64 0, .int .i64 0, .bool false, .ps 0 0 true []]], .int .i64 0]
def v107 : HVal := .tup [.ps 0 1 false [[.int .i64 1], [.int .i64 2]], .int .i64 0]
theorem k107 : PSpec K0 102 a107 v107 := PSpec.of_run G0_ok (hooksWith_ok ok_106 hk0_ok) (noS_ok _ _) mixed0 (n := 100000) (by decide +kernel)
def ks107 : Known := (102, a107, v107) :: ks106
theorem ok_107 : KnownOK Tryz.prog G0 ks107 := KnownOK.cons k107 ok_106
/-! limewash/branch.Dir: 452 operations -/
def a108 : List HVal := [.ps 1 10 false [[.int .i64 0, .str [], .int .i64 1, .ps 0 0 true [], .str [], .int .i64 0, .int .i64 0, .int .i64 0, .bool false, .ps 0 0 true []], [.int .i64 1, .str [46, 119, 104, 46, 97], .int .i64 2, .ps 0 0 true [], .str [], .int .i64 0, .int .i64 0, .int .i64 0, .bool false, .ps 0 0 true []], [.int .i64 1, .str [97], .int .i64 2, .ps 0 0 true [], .str [], .int .i64 0, .int .i64 0, .int .i64 0, .bool false, .ps 0 0 true []]], .int .i64 0]
def v108 : HVal := .tup [.agg [.ps 0 2 true [], .bool false, .ps 0 1 true [], .ps 0 12 false [[.str [46, 119, 104, 46, 97], .int .i64 0, .str [], .int .i64 2, .ps 0 2 true [], .str [], .int .i64 0, .int .i64 0, .int .i64 0, .bool false, .bool true, .int .i64 1], [.str [97], .int .i64 0, .str [], .int .i64 2, .ps 0 2 true [], .str [], .int .i64 0, .int .i64 0, .int .i64 0, .bool false, .bool true, .int .i64 1]]], .int .i64 0]
theorem k108 : PSpec K0 101 a108 v108 := PSpec.of_run G0_ok (hooksWith_ok ok_107 hk0_ok) (noS_ok _ _) mixed0 (n := 100000) (by decide +kernel)
def ks108 : Known := (101, a108, v108) :: ks107
theorem ok_108 : KnownOK Tryz.prog G0 ks108 := KnownOK.cons k108 ok_107
/-! limewash/branch.CheckDir: 345 operations -/
def a109 : List HVal := [.agg [.ps 0 2 true [], .bool false, .ps 0 1 true [], .ps 0 12 false [[.str [46, 119, 104, 46, 97], .int .i64 0, .str [], .int .i64 2, .ps 0 2 true [], .str [], .int .i64 0, .int .i64 0, .int .i64 0, .bool false, .bool true, .int .i64 1], [.str [97], .int .i64 0, .str [], .int .i64 2, .ps 0 2 true [], .str [], .int .i64 0, .int .i64 0, .int .i64 0, .bool false, .bool true, .int .i64 1]]]]
def v109 : HVal := .tup [.int .i64 0, .int .i64 0]
theorem k109 : PSpec K0 31 a109 v109 := PSpec.of_run G0_ok (hooksWith_ok ok_108 hk0_ok) (noS_ok _ _) mixed0 (n := 100000) (by decide +kernel)
def ks109 : Known := (31, a109, v109) :: ks108
theorem ok_109 : KnownOK Tryz.prog G0 ks109 := KnownOK.cons k109 ok_108
/-! limewash/aufs.DecodeDir: 594 operations -/
def a110 : List HVal := [.agg [.ps 0 2 true [], .bool false, .ps 0 1 true [], .ps 0 12 false [[.str [46, 119, 104, 46, 97], .int .i64 0, .str [], .int .i64 2, .ps 0 2 true [], .str [], .int .i64 0, .int .i64 0, .int .i64 0, .bool false, .bool true, .int .i64 1], [.str [97], .int .i64 0, .str [], .int .i64 2, .ps 0 2 true [], .str [], .int .i64 0, .int .i64 0, .int .i64 0, .bool false, .bool true, .int .i64 1]]]]
def v110 : HVal := .tup [.agg [.ps 0 0 true [], .bool false, .ps 0 0 true [], .ps 0 0 true []], .int .i64 1, .int .i64 6]
theorem k110 : PSpec K0 10 a110 v110 := PSpec.of_run G0_ok (hooksWith_ok ok_109 hk0_ok) (noS_ok _ _) mixed0 (n := 100000) (by decide +kernel)
def ks110 : Known := (10, a110, v110) :: ks109
theorem ok_110 : KnownOK Tryz.prog G0 ks110 := KnownOK.cons k110 ok_109
/-! limewash/aufs.Decode: 443 operations -/
def a111 : List HVal := [.ps 1 8 true [[.int .i64 0, .str [], .int .i64 1, .ps 0 0 true [], .str [], .int .i64 0, .int .i64 0, .int .i64 0], [.int .i64 1, .str [46, 119, 104, 46, 97], .int .i64 2, .ps 0 0 true [], .str [], .int .i64 0, .int .i64 0, .int .i64 0], [.int .i64 1, .str [97], .int .i64 2, .ps 0 0 true [], .str [], .int .i64 0, .int .i64 0, .int .i64 0]]]
def v111 : HVal := .tup [.ps 0 0 true [], .int .i64 2, .int .i64 6]
theorem k111 : PSpec K0 29 a111 v111 := PSpec.of_run G0_ok (hooksWith_ok ok_110 hk0_ok) (noS_ok _ _) mixed0 (n := 100000) (by decide +kernel)
def ks111 : Known := (29, a111, v111) :: ks110
theorem ok_111 : KnownOK Tryz.prog G0 ks111 := KnownOK.cons k111 ok_110
/-! limewash/aufs.Good: 14 operations -/
def a112 : List HVal := [.ps 1 8 true [[.int .i64 0, .str [], .int .i64 1, .ps 0 0 true [], .str [], .int .i64 0, .int .i64 0, .int .i64 0], [.int .i64 1, .str [46, 119, 104, 46, 97], .int .i64 2, .ps 0 0 true [], .str [], .int .i64 0, .int .i64 0, .int .i64 0], [.int .i64 1, .str [97], .int .i64 2, .ps 0 0 true [], .str [], .int .i64 0, .int .i64 0, .int .i64 0]]]
def v112 : HVal := .tup [.int .i64 2, .int .i64 6]
theorem k112 : PSpec K0 20 a112 v112 := PSpec.of_run G0_ok (hooksWith_ok ok_111 hk0_ok) (noS_ok _ _) mixed0 (n := 100000) (by decide +kernel)
def ks112 : Known := (20, a112, v112) :: ks111
theorem ok_112 : KnownOK Tryz.prog G0 ks112 := KnownOK.cons k112 ok_111
/-! limewash/limewashlaw23.shown: 2120 operations -/
def a113 : List HVal := []
def v113 : HVal := .bool true
theorem k113 : PSpec K0 8 a113 v113 := PSpec.of_run G0_ok (hooksWith_ok ok_112 hk0_ok) (noS_ok _ _) mixed0 (n := 100000) (by decide +kernel)
def ks113 : Known := (8, a113, v113) :: ks112
theorem ok_113 : KnownOK Tryz.prog G0 ks113 := KnownOK.cons k113 ok_112
/-! limewash/limewashlaw23.AufsKnown: 132 operations -/
def a114 : List HVal := []
def v114 : HVal := .bool true
theorem k114 : PSpec K0 6 a114 v114 := PSpec.of_run G0_ok (hooksWith_ok ok_113 hk0_ok) (noS_ok _ _) mixed0 (n := 100000) (by decide +kernel)
def ks114 : Known := (6, a114, v114) :: ks113
theorem ok_114 : KnownOK Tryz.prog G0 ks114 := KnownOK.cons k114 ok_113
end Kn
end Go.Hv
