/- What is proved here: closed calls of the program, each with the value that it gives (run by the proved evaluator). -/
import Derived.Test.YtokjdgphhmddcaaGreatHvKn1
set_option linter.all false
namespace Go.Hv
open Go Go.Proofs
namespace Kn
set_option maxRecDepth 100000
/-! limewash/tree.Canon: 586 operations -/
def a24 : List HVal := [.ps 1 8 false [[.int .i64 0, .str [], .int .i64 1, .ps 0 2 true [], .str [], .int .i64 0, .int .i64 0, .int .i64 0], [.int .i64 1, .str [46, 119, 104, 46, 119], .int .i64 2, .ps 0 2 true [], .str [], .int .i64 0, .int .i64 0, .int .i64 0], [.int .i64 1, .str [97], .int .i64 1, .ps 0 2 true [], .str [], .int .i64 0, .int .i64 0, .int .i64 0], [.int .i64 2, .str [46, 119, 104, 46, 46, 119, 104, 46, 111, 112, 113], .int .i64 2, .ps 0 2 true [], .str [], .int .i64 0, .int .i64 0, .int .i64 0], [.int .i64 2, .str [46, 119, 104, 46, 46, 119, 104, 46, 120, 102], .int .i64 2, .ps 0 2 true [], .str [49], .int .i64 0, .int .i64 0, .int .i64 1], [.int .i64 1, .str [120], .int .i64 2, .ps 0 2 true [], .str [49], .int .i64 0, .int .i64 0, .int .i64 1]]]
def v24 : HVal := .tup [.ps 0 8 false [[.int .i64 0, .str [], .int .i64 1, .ps 0 2 true [], .str [], .int .i64 0, .int .i64 0, .int .i64 0], [.int .i64 1, .str [46, 119, 104, 46, 119], .int .i64 2, .ps 0 2 true [], .str [], .int .i64 0, .int .i64 0, .int .i64 0], [.int .i64 1, .str [97], .int .i64 1, .ps 0 2 true [], .str [], .int .i64 0, .int .i64 0, .int .i64 0], [.int .i64 2, .str [46, 119, 104, 46, 46, 119, 104, 46, 111, 112, 113], .int .i64 2, .ps 0 2 true [], .str [], .int .i64 0, .int .i64 0, .int .i64 0], [.int .i64 2, .str [46, 119, 104, 46, 46, 119, 104, 46, 120, 102], .int .i64 2, .ps 0 2 true [], .str [49], .int .i64 0, .int .i64 0, .int .i64 1], [.int .i64 1, .str [120], .int .i64 2, .ps 0 2 true [], .str [49], .int .i64 0, .int .i64 0, .int .i64 1]], .int .i64 0]
theorem k24 : PSpec K0 59 a24 v24 := PSpec.of_run G0_ok (hooksWith_ok ok_23 hk0_ok) (noS_ok _ _) mixed0 (n := 100000) (by decide +kernel)
def ks24 : Known := (59, a24, v24) :: ks23
theorem ok_24 : KnownOK Tryz.prog G0 ks24 := KnownOK.cons k24 ok_23
/-! limewash/tree.Cut: 294 operations -/
def a25 : List HVal := [.ps 0 8 false [[.int .i64 0, .str [], .int .i64 1, .ps 0 2 true [], .str [], .int .i64 0, .int .i64 0, .int .i64 0], [.int .i64 1, .str [46, 119, 104, 46, 46, 119, 104, 46, 112, 108, 110, 107], .int .i64 1, .ps 0 2 true [], .str [], .int .i64 0, .int .i64 0, .int .i64 0], [.int .i64 1, .str [46, 119, 104, 46, 119], .int .i64 2, .ps 0 2 true [], .str [], .int .i64 0, .int .i64 0, .int .i64 0], [.int .i64 1, .str [97], .int .i64 1, .ps 0 2 true [], .str [], .int .i64 0, .int .i64 0, .int .i64 0], [.int .i64 2, .str [46, 119, 104, 46, 46, 119, 104, 46, 111, 112, 113], .int .i64 2, .ps 0 2 true [], .str [], .int .i64 0, .int .i64 0, .int .i64 0], [.int .i64 2, .str [46, 119, 104, 46, 46, 119, 104, 46, 120, 102], .int .i64 2, .ps 0 2 true [], .str [49], .int .i64 0, .int .i64 0, .int .i64 1], [.int .i64 1, .str [120], .int .i64 2, .ps 0 2 true [], .str [49], .int .i64 0, .int .i64 0, .int .i64 1]], .ps 1 1 true [[.str [46, 119, 104, 46, 46, 119, 104, 46, 112, 108, 110, 107]]]]
def v25 : HVal := .tup [.ps 0 8 false [[.int .i64 0, .str [], .int .i64 1, .ps 0 2 true [], .str [], .int .i64 0, .int .i64 0, .int .i64 0], [.int .i64 1, .str [46, 119, 104, 46, 119], .int .i64 2, .ps 0 2 true [], .str [], .int .i64 0, .int .i64 0, .int .i64 0], [.int .i64 1, .str [97], .int .i64 1, .ps 0 2 true [], .str [], .int .i64 0, .int .i64 0, .int .i64 0], [.int .i64 2, .str [46, 119, 104, 46, 46, 119, 104, 46, 111, 112, 113], .int .i64 2, .ps 0 2 true [], .str [], .int .i64 0, .int .i64 0, .int .i64 0], [.int .i64 2, .str [46, 119, 104, 46, 46, 119, 104, 46, 120, 102], .int .i64 2, .ps 0 2 true [], .str [49], .int .i64 0, .int .i64 0, .int .i64 1], [.int .i64 1, .str [120], .int .i64 2, .ps 0 2 true [], .str [49], .int .i64 0, .int .i64 0, .int .i64 1]], .int .i64 0]
theorem k25 : PSpec K0 133 a25 v25 := PSpec.of_run G0_ok (hooksWith_ok ok_24 hk0_ok) (noS_ok _ _) mixed0 (n := 100000) (by decide +kernel)
def ks25 : Known := (133, a25, v25) :: ks24
theorem ok_25 : KnownOK Tryz.prog G0 ks25 := KnownOK.cons k25 ok_24
/-! limewash/aufs.without: 209 operations -/
def a26 : List HVal := [.ps 0 8 false [[.int .i64 0, .str [], .int .i64 1, .ps 0 2 true [], .str [], .int .i64 0, .int .i64 0, .int .i64 0], [.int .i64 1, .str [46, 119, 104, 46, 46, 119, 104, 46, 112, 108, 110, 107], .int .i64 1, .ps 0 2 true [], .str [], .int .i64 0, .int .i64 0, .int .i64 0], [.int .i64 1, .str [46, 119, 104, 46, 119], .int .i64 2, .ps 0 2 true [], .str [], .int .i64 0, .int .i64 0, .int .i64 0], [.int .i64 1, .str [97], .int .i64 1, .ps 0 2 true [], .str [], .int .i64 0, .int .i64 0, .int .i64 0], [.int .i64 2, .str [46, 119, 104, 46, 46, 119, 104, 46, 111, 112, 113], .int .i64 2, .ps 0 2 true [], .str [], .int .i64 0, .int .i64 0, .int .i64 0], [.int .i64 2, .str [46, 119, 104, 46, 46, 119, 104, 46, 120, 102], .int .i64 2, .ps 0 2 true [], .str [49], .int .i64 0, .int .i64 0, .int .i64 1], [.int .i64 1, .str [120], .int .i64 2, .ps 0 2 true [], .str [49], .int .i64 0, .int .i64 0, .int .i64 1]]]
def v26 : HVal := .tup [.ps 0 8 false [[.int .i64 0, .str [], .int .i64 1, .ps 0 2 true [], .str [], .int .i64 0, .int .i64 0, .int .i64 0], [.int .i64 1, .str [46, 119, 104, 46, 119], .int .i64 2, .ps 0 2 true [], .str [], .int .i64 0, .int .i64 0, .int .i64 0], [.int .i64 1, .str [97], .int .i64 1, .ps 0 2 true [], .str [], .int .i64 0, .int .i64 0, .int .i64 0], [.int .i64 2, .str [46, 119, 104, 46, 46, 119, 104, 46, 111, 112, 113], .int .i64 2, .ps 0 2 true [], .str [], .int .i64 0, .int .i64 0, .int .i64 0], [.int .i64 2, .str [46, 119, 104, 46, 46, 119, 104, 46, 120, 102], .int .i64 2, .ps 0 2 true [], .str [49], .int .i64 0, .int .i64 0, .int .i64 1], [.int .i64 1, .str [120], .int .i64 2, .ps 0 2 true [], .str [49], .int .i64 0, .int .i64 0, .int .i64 1]], .int .i64 1, .int .i64 1]
theorem k26 : PSpec K0 75 a26 v26 := PSpec.of_run G0_ok (hooksWith_ok ok_25 hk0_ok) (noS_ok _ _) mixed0 (n := 100000) (by decide +kernel)
def ks26 : Known := (75, a26, v26) :: ks25
theorem ok_26 : KnownOK Tryz.prog G0 ks26 := KnownOK.cons k26 ok_25
/-! limewash/tree.Check: 1836 operations -/
def a27 : List HVal := [.ps 1 8 true [[.int .i64 0, .str [], .int .i64 1, .ps 0 2 true [], .str [], .int .i64 0, .int .i64 0, .int .i64 0], [.int .i64 1, .str [46, 119, 104, 46, 119], .int .i64 2, .ps 0 2 true [], .str [], .int .i64 0, .int .i64 0, .int .i64 0], [.int .i64 1, .str [97], .int .i64 1, .ps 0 2 true [], .str [], .int .i64 0, .int .i64 0, .int .i64 0], [.int .i64 2, .str [46, 119, 104, 46, 46, 119, 104, 46, 111, 112, 113], .int .i64 2, .ps 0 2 true [], .str [], .int .i64 0, .int .i64 0, .int .i64 0], [.int .i64 2, .str [46, 119, 104, 46, 46, 119, 104, 46, 120, 102], .int .i64 2, .ps 0 2 true [], .str [49], .int .i64 0, .int .i64 0, .int .i64 1], [.int .i64 1, .str [120], .int .i64 2, .ps 0 2 true [], .str [49], .int .i64 0, .int .i64 0, .int .i64 1]]]
def v27 : HVal := .tup [.int .i64 0, .int .i64 0]
theorem k27 : PSpec K0 74 a27 v27 := PSpec.of_run G0_ok (hooksWith_ok ok_26 hk0_ok) (noS_ok _ _) mixed0 (n := 100000) (by decide +kernel)
def ks27 : Known := (74, a27, v27) :: ks26
theorem ok_27 : KnownOK Tryz.prog G0 ks27 := KnownOK.cons k27 ok_26
/-! limewash/branch.Check: 909 operations -/
def a28 : List HVal := [.ps 1 10 false [[.int .i64 0, .str [], .int .i64 1, .ps 0 2 true [], .str [], .int .i64 0, .int .i64 0, .int .i64 0, .bool false, .ps 0 0 true []], [.int .i64 1, .str [46, 119, 104, 46, 119], .int .i64 2, .ps 0 2 true [], .str [], .int .i64 0, .int .i64 0, .int .i64 0, .bool false, .ps 0 0 true []], [.int .i64 1, .str [97], .int .i64 1, .ps 0 2 true [], .str [], .int .i64 0, .int .i64 0, .int .i64 0, .bool false, .ps 0 0 true []], [.int .i64 2, .str [46, 119, 104, 46, 46, 119, 104, 46, 111, 112, 113], .int .i64 2, .ps 0 2 true [], .str [], .int .i64 0, .int .i64 0, .int .i64 0, .bool false, .ps 0 0 true []], [.int .i64 2, .str [46, 119, 104, 46, 46, 119, 104, 46, 120, 102], .int .i64 2, .ps 0 2 true [], .str [49], .int .i64 0, .int .i64 0, .int .i64 1, .bool false, .ps 0 0 true []], [.int .i64 1, .str [120], .int .i64 2, .ps 0 2 true [], .str [49], .int .i64 0, .int .i64 0, .int .i64 1, .bool false, .ps 0 0 true []]]]
def v28 : HVal := .tup [.int .i64 0, .int .i64 0]
theorem k28 : PSpec K0 48 a28 v28 := PSpec.of_run G0_ok (hooksWith_ok ok_27 hk0_ok) (noS_ok _ _) mixed0 (n := 100000) (by decide +kernel)
def ks28 : Known := (48, a28, v28) :: ks27
theorem ok_28 : KnownOK Tryz.prog G0 ks28 := KnownOK.cons k28 ok_27
/-! limewash/branch.Kids: 471 operations -/
def a29 : List HVal := [.ps 1 10 false [[.int .i64 0, .str [], .int .i64 1, .ps 0 2 true [], .str [], .int .i64 0, .int .i64 0, .int .i64 0, .bool false, .ps 0 0 true []], [.int .i64 1, .str [46, 119, 104, 46, 119], .int .i64 2, .ps 0 2 true [], .str [], .int .i64 0, .int .i64 0, .int .i64 0, .bool false, .ps 0 0 true []], [.int .i64 1, .str [97], .int .i64 1, .ps 0 2 true [], .str [], .int .i64 0, .int .i64 0, .int .i64 0, .bool false, .ps 0 0 true []], [.int .i64 2, .str [46, 119, 104, 46, 46, 119, 104, 46, 111, 112, 113], .int .i64 2, .ps 0 2 true [], .str [], .int .i64 0, .int .i64 0, .int .i64 0, .bool false, .ps 0 0 true []], [.int .i64 2, .str [46, 119, 104, 46, 46, 119, 104, 46, 120, 102], .int .i64 2, .ps 0 2 true [], .str [49], .int .i64 0, .int .i64 0, .int .i64 1, .bool false, .ps 0 0 true []], [.int .i64 1, .str [120], .int .i64 2, .ps 0 2 true [], .str [49], .int .i64 0, .int .i64 0, .int .i64 1, .bool false, .ps 0 0 true []]], .int .i64 0]
def v29 : HVal := .tup [.ps 0 1 false [[.int .i64 1], [.int .i64 2], [.int .i64 5]], .int .i64 0]
theorem k29 : PSpec K0 102 a29 v29 := PSpec.of_run G0_ok (hooksWith_ok ok_28 hk0_ok) (noS_ok _ _) mixed0 (n := 100000) (by decide +kernel)
def ks29 : Known := (102, a29, v29) :: ks28
theorem ok_29 : KnownOK Tryz.prog G0 ks29 := KnownOK.cons k29 ok_28
/-! limewash/branch.Dir: 936 operations -/
def a30 : List HVal := [.ps 1 10 false [[.int .i64 0, .str [], .int .i64 1, .ps 0 2 true [], .str [], .int .i64 0, .int .i64 0, .int .i64 0, .bool false, .ps 0 0 true []], [.int .i64 1, .str [46, 119, 104, 46, 119], .int .i64 2, .ps 0 2 true [], .str [], .int .i64 0, .int .i64 0, .int .i64 0, .bool false, .ps 0 0 true []], [.int .i64 1, .str [97], .int .i64 1, .ps 0 2 true [], .str [], .int .i64 0, .int .i64 0, .int .i64 0, .bool false, .ps 0 0 true []], [.int .i64 2, .str [46, 119, 104, 46, 46, 119, 104, 46, 111, 112, 113], .int .i64 2, .ps 0 2 true [], .str [], .int .i64 0, .int .i64 0, .int .i64 0, .bool false, .ps 0 0 true []], [.int .i64 2, .str [46, 119, 104, 46, 46, 119, 104, 46, 120, 102], .int .i64 2, .ps 0 2 true [], .str [49], .int .i64 0, .int .i64 0, .int .i64 1, .bool false, .ps 0 0 true []], [.int .i64 1, .str [120], .int .i64 2, .ps 0 2 true [], .str [49], .int .i64 0, .int .i64 0, .int .i64 1, .bool false, .ps 0 0 true []]], .int .i64 0]
def v30 : HVal := .tup [.agg [.ps 0 2 true [], .bool false, .ps 0 1 true [], .ps 0 12 false [[.str [46, 119, 104, 46, 119], .int .i64 0, .str [], .int .i64 2, .ps 0 2 true [], .str [], .int .i64 0, .int .i64 0, .int .i64 0, .bool false, .bool true, .int .i64 1], [.str [97], .int .i64 0, .str [], .int .i64 1, .ps 0 0 true [], .str [], .int .i64 0, .int .i64 0, .int .i64 0, .bool false, .bool true, .int .i64 1], [.str [120], .int .i64 0, .str [], .int .i64 2, .ps 0 2 true [], .str [49], .int .i64 0, .int .i64 0, .int .i64 1, .bool false, .bool true, .int .i64 2]]], .int .i64 0]
theorem k30 : PSpec K0 101 a30 v30 := PSpec.of_run G0_ok (hooksWith_ok ok_29 hk0_ok) (noS_ok _ _) mixed0 (n := 100000) (by decide +kernel)
def ks30 : Known := (101, a30, v30) :: ks29
theorem ok_30 : KnownOK Tryz.prog G0 ks30 := KnownOK.cons k30 ok_29
/-! limewash/paths.Name: 61 operations -/
def a31 : List HVal := [.str [110]]
def v31 : HVal := .int .i64 0
theorem k31 : PSpec K0 82 a31 v31 := PSpec.of_run G0_ok (hooksWith_ok ok_30 hk0_ok) (noS_ok _ _) mixed0 (n := 100000) (by decide +kernel)
def ks31 : Known := (82, a31, v31) :: ks30
theorem ok_31 : KnownOK Tryz.prog G0 ks31 := KnownOK.cons k31 ok_30
/-! limewash/tree.Check: 535 operations -/
def a32 : List HVal := [.ps 1 8 true [[.int .i64 0, .str [], .int .i64 1, .ps 0 0 true [], .str [], .int .i64 0, .int .i64 0, .int .i64 0], [.int .i64 1, .str [110], .int .i64 2, .ps 0 2 true [], .str [], .int .i64 0, .int .i64 0, .int .i64 0]]]
def v32 : HVal := .tup [.int .i64 0, .int .i64 0]
theorem k32 : PSpec K0 74 a32 v32 := PSpec.of_run G0_ok (hooksWith_ok ok_31 hk0_ok) (noS_ok _ _) mixed0 (n := 100000) (by decide +kernel)
def ks32 : Known := (74, a32, v32) :: ks31
theorem ok_32 : KnownOK Tryz.prog G0 ks32 := KnownOK.cons k32 ok_31
/-! limewash/tree.Check: 542 operations -/
def a33 : List HVal := [.ps 1 8 true [[.int .i64 0, .str [], .int .i64 1, .ps 0 0 true [], .str [], .int .i64 0, .int .i64 0, .int .i64 0], [.int .i64 1, .str [110], .int .i64 1, .ps 0 0 true [], .str [], .int .i64 0, .int .i64 0, .int .i64 0]]]
def v33 : HVal := .tup [.int .i64 0, .int .i64 0]
theorem k33 : PSpec K0 74 a33 v33 := PSpec.of_run G0_ok (hooksWith_ok ok_32 hk0_ok) (noS_ok _ _) mixed0 (n := 100000) (by decide +kernel)
def ks33 : Known := (74, a33, v33) :: ks32
theorem ok_33 : KnownOK Tryz.prog G0 ks33 := KnownOK.cons k33 ok_32
/-! limewash/tree.Check: 535 operations -/
def a34 : List HVal := [.ps 1 8 true [[.int .i64 0, .str [], .int .i64 1, .ps 0 0 true [], .str [], .int .i64 0, .int .i64 0, .int .i64 0], [.int .i64 1, .str [110], .int .i64 2, .ps 0 2 true [], .str [49], .int .i64 0, .int .i64 0, .int .i64 0]]]
def v34 : HVal := .tup [.int .i64 0, .int .i64 0]
theorem k34 : PSpec K0 74 a34 v34 := PSpec.of_run G0_ok (hooksWith_ok ok_33 hk0_ok) (noS_ok _ _) mixed0 (n := 100000) (by decide +kernel)
def ks34 : Known := (74, a34, v34) :: ks33
theorem ok_34 : KnownOK Tryz.prog G0 ks34 := KnownOK.cons k34 ok_33
/-! limewash/branch.CheckDir: 473 operations -/
def a35 : List HVal := [.agg [.ps 0 2 true [], .bool false, .ps 0 1 true [], .ps 0 12 false [[.str [46, 119, 104, 46, 119], .int .i64 0, .str [], .int .i64 2, .ps 0 2 true [], .str [], .int .i64 0, .int .i64 0, .int .i64 0, .bool false, .bool true, .int .i64 1], [.str [97], .int .i64 0, .str [], .int .i64 1, .ps 0 0 true [], .str [], .int .i64 0, .int .i64 0, .int .i64 0, .bool false, .bool true, .int .i64 1], [.str [120], .int .i64 0, .str [], .int .i64 2, .ps 0 2 true [], .str [49], .int .i64 0, .int .i64 0, .int .i64 1, .bool false, .bool true, .int .i64 2]]]]
def v35 : HVal := .tup [.int .i64 0, .int .i64 0]
theorem k35 : PSpec K0 31 a35 v35 := PSpec.of_run G0_ok (hooksWith_ok ok_34 hk0_ok) (noS_ok _ _) mixed0 (n := 100000) (by decide +kernel)
def ks35 : Known := (31, a35, v35) :: ks34
theorem ok_35 : KnownOK Tryz.prog G0 ks35 := KnownOK.cons k35 ok_34
/-! limewash/paths.Name: 61 operations -/
def a36 : List HVal := [.str [119]]
def v36 : HVal := .int .i64 0
theorem k36 : PSpec K0 82 a36 v36 := PSpec.of_run G0_ok (hooksWith_ok ok_35 hk0_ok) (noS_ok _ _) mixed0 (n := 100000) (by decide +kernel)
def ks36 : Known := (82, a36, v36) :: ks35
theorem ok_36 : KnownOK Tryz.prog G0 ks36 := KnownOK.cons k36 ok_35
/-! limewash/aufs.DecodeDir: 1057 operations -/
def a37 : List HVal := [.agg [.ps 0 2 true [], .bool false, .ps 0 1 true [], .ps 0 12 false [[.str [46, 119, 104, 46, 119], .int .i64 0, .str [], .int .i64 2, .ps 0 2 true [], .str [], .int .i64 0, .int .i64 0, .int .i64 0, .bool false, .bool true, .int .i64 1], [.str [97], .int .i64 0, .str [], .int .i64 1, .ps 0 0 true [], .str [], .int .i64 0, .int .i64 0, .int .i64 0, .bool false, .bool true, .int .i64 1], [.str [120], .int .i64 0, .str [], .int .i64 2, .ps 0 2 true [], .str [49], .int .i64 0, .int .i64 0, .int .i64 1, .bool false, .bool true, .int .i64 2]]]]
def v37 : HVal := .tup [.agg [.ps 0 2 true [], .bool false, .ps 0 0 true [], .ps 0 12 false [[.str [97], .int .i64 0, .str [], .int .i64 1, .ps 0 2 true [], .str [], .int .i64 0, .int .i64 0, .int .i64 0, .bool false, .bool true, .int .i64 1], [.str [119], .int .i64 0, .str [], .int .i64 5, .ps 0 0 true [], .str [], .int .i64 0, .int .i64 0, .int .i64 0, .bool true, .bool true, .int .i64 1], [.str [120], .int .i64 0, .str [], .int .i64 2, .ps 0 2 true [], .str [49], .int .i64 0, .int .i64 0, .int .i64 1, .bool false, .bool true, .int .i64 2]]], .int .i64 0, .int .i64 0]
theorem k37 : PSpec K0 10 a37 v37 := PSpec.of_run G0_ok (hooksWith_ok ok_36 hk0_ok) (noS_ok _ _) mixed0 (n := 100000) (by decide +kernel)
def ks37 : Known := (10, a37, v37) :: ks36
theorem ok_37 : KnownOK Tryz.prog G0 ks37 := KnownOK.cons k37 ok_36
/-! limewash/branch.Kids: 466 operations -/
def a38 : List HVal := [.ps 1 10 false [[.int .i64 0, .str [], .int .i64 1, .ps 0 2 true [], .str [], .int .i64 0, .int .i64 0, .int .i64 0, .bool false, .ps 0 0 true []], [.int .i64 1, .str [46, 119, 104, 46, 119], .int .i64 2, .ps 0 2 true [], .str [], .int .i64 0, .int .i64 0, .int .i64 0, .bool false, .ps 0 0 true []], [.int .i64 1, .str [97], .int .i64 1, .ps 0 2 true [], .str [], .int .i64 0, .int .i64 0, .int .i64 0, .bool false, .ps 0 0 true []], [.int .i64 2, .str [46, 119, 104, 46, 46, 119, 104, 46, 111, 112, 113], .int .i64 2, .ps 0 2 true [], .str [], .int .i64 0, .int .i64 0, .int .i64 0, .bool false, .ps 0 0 true []], [.int .i64 2, .str [46, 119, 104, 46, 46, 119, 104, 46, 120, 102], .int .i64 2, .ps 0 2 true [], .str [49], .int .i64 0, .int .i64 0, .int .i64 1, .bool false, .ps 0 0 true []], [.int .i64 1, .str [120], .int .i64 2, .ps 0 2 true [], .str [49], .int .i64 0, .int .i64 0, .int .i64 1, .bool false, .ps 0 0 true []]], .int .i64 2]
def v38 : HVal := .tup [.ps 0 1 false [[.int .i64 3], [.int .i64 4]], .int .i64 0]
theorem k38 : PSpec K0 102 a38 v38 := PSpec.of_run G0_ok (hooksWith_ok ok_37 hk0_ok) (noS_ok _ _) mixed0 (n := 100000) (by decide +kernel)
def ks38 : Known := (102, a38, v38) :: ks37
theorem ok_38 : KnownOK Tryz.prog G0 ks38 := KnownOK.cons k38 ok_37
/-! limewash/branch.Dir: 832 operations -/
def a39 : List HVal := [.ps 1 10 false [[.int .i64 0, .str [], .int .i64 1, .ps 0 2 true [], .str [], .int .i64 0, .int .i64 0, .int .i64 0, .bool false, .ps 0 0 true []], [.int .i64 1, .str [46, 119, 104, 46, 119], .int .i64 2, .ps 0 2 true [], .str [], .int .i64 0, .int .i64 0, .int .i64 0, .bool false, .ps 0 0 true []], [.int .i64 1, .str [97], .int .i64 1, .ps 0 2 true [], .str [], .int .i64 0, .int .i64 0, .int .i64 0, .bool false, .ps 0 0 true []], [.int .i64 2, .str [46, 119, 104, 46, 46, 119, 104, 46, 111, 112, 113], .int .i64 2, .ps 0 2 true [], .str [], .int .i64 0, .int .i64 0, .int .i64 0, .bool false, .ps 0 0 true []], [.int .i64 2, .str [46, 119, 104, 46, 46, 119, 104, 46, 120, 102], .int .i64 2, .ps 0 2 true [], .str [49], .int .i64 0, .int .i64 0, .int .i64 1, .bool false, .ps 0 0 true []], [.int .i64 1, .str [120], .int .i64 2, .ps 0 2 true [], .str [49], .int .i64 0, .int .i64 0, .int .i64 1, .bool false, .ps 0 0 true []]], .int .i64 2]
def v39 : HVal := .tup [.agg [.ps 0 2 true [], .bool false, .ps 0 1 true [], .ps 0 12 false [[.str [46, 119, 104, 46, 46, 119, 104, 46, 111, 112, 113], .int .i64 0, .str [], .int .i64 2, .ps 0 2 true [], .str [], .int .i64 0, .int .i64 0, .int .i64 0, .bool false, .bool true, .int .i64 1], [.str [46, 119, 104, 46, 46, 119, 104, 46, 120, 102], .int .i64 0, .str [], .int .i64 2, .ps 0 2 true [], .str [49], .int .i64 0, .int .i64 0, .int .i64 1, .bool false, .bool false, .int .i64 2]]], .int .i64 0]
theorem k39 : PSpec K0 101 a39 v39 := PSpec.of_run G0_ok (hooksWith_ok ok_38 hk0_ok) (noS_ok _ _) mixed0 (n := 100000) (by decide +kernel)
def ks39 : Known := (101, a39, v39) :: ks38
theorem ok_39 : KnownOK Tryz.prog G0 ks39 := KnownOK.cons k39 ok_38
end Kn
end Go.Hv
