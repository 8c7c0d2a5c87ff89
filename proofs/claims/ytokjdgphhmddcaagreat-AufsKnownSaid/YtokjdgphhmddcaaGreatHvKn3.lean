/- What is proved here: closed calls of the program, each with the value that it gives (run by the proved evaluator). -/
import Derived.Test.YtokjdgphhmddcaaGreatHvKn2
set_option linter.all false
namespace Go.Hv
open Go Go.Proofs
namespace Kn
set_option maxRecDepth 100000
/-! limewash/branch.CheckDir: 345 operations -/
def a40 : List HVal := [.agg [.ps 0 2 true [], .bool false, .ps 0 1 true [], .ps 0 12 false [[.str [46, 119, 104, 46, 46, 119, 104, 46, 111, 112, 113], .int .i64 0, .str [], .int .i64 2, .ps 0 2 true [], .str [], .int .i64 0, .int .i64 0, .int .i64 0, .bool false, .bool true, .int .i64 1], [.str [46, 119, 104, 46, 46, 119, 104, 46, 120, 102], .int .i64 0, .str [], .int .i64 2, .ps 0 2 true [], .str [49], .int .i64 0, .int .i64 0, .int .i64 1, .bool false, .bool false, .int .i64 2]]]]
def v40 : HVal := .tup [.int .i64 0, .int .i64 0]
theorem k40 : PSpec K0 31 a40 v40 := PSpec.of_run G0_ok (hooksWith_ok ok_39 hk0_ok) (noS_ok _ _) mixed0 (n := 100000) (by decide +kernel)
def ks40 : Known := (31, a40, v40) :: ks39
theorem ok_40 : KnownOK Tryz.prog G0 ks40 := KnownOK.cons k40 ok_39
/-! limewash/aufs.DecodeDir: 625 operations -/
def a41 : List HVal := [.agg [.ps 0 2 true [], .bool false, .ps 0 1 true [], .ps 0 12 false [[.str [46, 119, 104, 46, 46, 119, 104, 46, 111, 112, 113], .int .i64 0, .str [], .int .i64 2, .ps 0 2 true [], .str [], .int .i64 0, .int .i64 0, .int .i64 0, .bool false, .bool true, .int .i64 1], [.str [46, 119, 104, 46, 46, 119, 104, 46, 120, 102], .int .i64 0, .str [], .int .i64 2, .ps 0 2 true [], .str [49], .int .i64 0, .int .i64 0, .int .i64 1, .bool false, .bool false, .int .i64 2]]]]
def v41 : HVal := .tup [.agg [.ps 0 2 true [], .bool true, .ps 0 0 true [], .ps 0 12 false [[.str [46, 119, 104, 46, 102], .int .i64 0, .str [], .int .i64 2, .ps 0 2 true [], .str [49], .int .i64 0, .int .i64 0, .int .i64 1, .bool false, .bool false, .int .i64 2]]], .int .i64 0, .int .i64 0]
theorem k41 : PSpec K0 10 a41 v41 := PSpec.of_run G0_ok (hooksWith_ok ok_40 hk0_ok) (noS_ok _ _) mixed0 (n := 100000) (by decide +kernel)
def ks41 : Known := (10, a41, v41) :: ks40
theorem ok_41 : KnownOK Tryz.prog G0 ks41 := KnownOK.cons k41 ok_40
/-! limewash/paths.Name: 153 operations -/
def a42 : List HVal := [.str [46, 119, 104, 46, 102]]
def v42 : HVal := .int .i64 0
theorem k42 : PSpec K0 82 a42 v42 := PSpec.of_run G0_ok (hooksWith_ok ok_41 hk0_ok) (noS_ok _ _) mixed0 (n := 100000) (by decide +kernel)
def ks42 : Known := (82, a42, v42) :: ks41
theorem ok_42 : KnownOK Tryz.prog G0 ks42 := KnownOK.cons k42 ok_41
/-! limewash/tree.Check: 1430 operations -/
def a43 : List HVal := [.ps 1 8 false [[.int .i64 0, .str [], .int .i64 1, .ps 0 2 true [], .str [], .int .i64 0, .int .i64 0, .int .i64 0], [.int .i64 1, .str [97], .int .i64 1, .ps 0 2 true [], .str [], .int .i64 0, .int .i64 0, .int .i64 0], [.int .i64 2, .str [46, 119, 104, 46, 102], .int .i64 2, .ps 0 2 true [], .str [49], .int .i64 0, .int .i64 0, .int .i64 0], [.int .i64 1, .str [119], .int .i64 5, .ps 0 2 true [], .str [], .int .i64 0, .int .i64 0, .int .i64 0], [.int .i64 1, .str [120], .int .i64 2, .ps 0 2 true [], .str [49], .int .i64 0, .int .i64 0, .int .i64 0]]]
def v43 : HVal := .tup [.int .i64 0, .int .i64 0]
theorem k43 : PSpec K0 74 a43 v43 := PSpec.of_run G0_ok (hooksWith_ok ok_42 hk0_ok) (noS_ok _ _) mixed0 (n := 100000) (by decide +kernel)
def ks43 : Known := (74, a43, v43) :: ks42
theorem ok_43 : KnownOK Tryz.prog G0 ks43 := KnownOK.cons k43 ok_42
/-! limewash/tree.Canon: 537 operations -/
def a44 : List HVal := [.ps 1 8 true [[.int .i64 0, .str [], .int .i64 1, .ps 0 2 true [], .str [], .int .i64 0, .int .i64 0, .int .i64 0], [.int .i64 1, .str [97], .int .i64 1, .ps 0 2 true [], .str [], .int .i64 0, .int .i64 0, .int .i64 0], [.int .i64 2, .str [46, 119, 104, 46, 102], .int .i64 2, .ps 0 2 true [], .str [49], .int .i64 0, .int .i64 0, .int .i64 1], [.int .i64 1, .str [119], .int .i64 5, .ps 0 2 true [], .str [], .int .i64 0, .int .i64 0, .int .i64 0], [.int .i64 1, .str [120], .int .i64 2, .ps 0 2 true [], .str [49], .int .i64 0, .int .i64 0, .int .i64 1]]]
def v44 : HVal := .tup [.ps 0 8 false [[.int .i64 0, .str [], .int .i64 1, .ps 0 2 true [], .str [], .int .i64 0, .int .i64 0, .int .i64 0], [.int .i64 1, .str [97], .int .i64 1, .ps 0 2 true [], .str [], .int .i64 0, .int .i64 0, .int .i64 0], [.int .i64 2, .str [46, 119, 104, 46, 102], .int .i64 2, .ps 0 2 true [], .str [49], .int .i64 0, .int .i64 0, .int .i64 1], [.int .i64 1, .str [119], .int .i64 5, .ps 0 2 true [], .str [], .int .i64 0, .int .i64 0, .int .i64 0], [.int .i64 1, .str [120], .int .i64 2, .ps 0 2 true [], .str [49], .int .i64 0, .int .i64 0, .int .i64 1]], .int .i64 0]
theorem k44 : PSpec K0 59 a44 v44 := PSpec.of_run G0_ok (hooksWith_ok ok_43 hk0_ok) (noS_ok _ _) mixed0 (n := 100000) (by decide +kernel)
def ks44 : Known := (59, a44, v44) :: ks43
theorem ok_44 : KnownOK Tryz.prog G0 ks44 := KnownOK.cons k44 ok_43
/-! limewash/tree.Check: 1567 operations -/
def a45 : List HVal := [.ps 1 8 true [[.int .i64 0, .str [], .int .i64 1, .ps 0 2 true [], .str [], .int .i64 0, .int .i64 0, .int .i64 0], [.int .i64 1, .str [97], .int .i64 1, .ps 0 2 true [], .str [], .int .i64 0, .int .i64 0, .int .i64 0], [.int .i64 2, .str [46, 119, 104, 46, 102], .int .i64 2, .ps 0 2 true [], .str [49], .int .i64 0, .int .i64 0, .int .i64 1], [.int .i64 1, .str [119], .int .i64 5, .ps 0 2 true [], .str [], .int .i64 0, .int .i64 0, .int .i64 0], [.int .i64 1, .str [120], .int .i64 2, .ps 0 2 true [], .str [49], .int .i64 0, .int .i64 0, .int .i64 1]]]
def v45 : HVal := .tup [.int .i64 0, .int .i64 0]
theorem k45 : PSpec K0 74 a45 v45 := PSpec.of_run G0_ok (hooksWith_ok ok_44 hk0_ok) (noS_ok _ _) mixed0 (n := 100000) (by decide +kernel)
def ks45 : Known := (74, a45, v45) :: ks44
theorem ok_45 : KnownOK Tryz.prog G0 ks45 := KnownOK.cons k45 ok_44
/-! limewash/branch.Check: 761 operations -/
def a46 : List HVal := [.ps 1 10 false [[.int .i64 0, .str [], .int .i64 1, .ps 0 2 true [], .str [], .int .i64 0, .int .i64 0, .int .i64 0, .bool false, .ps 0 0 true []], [.int .i64 1, .str [97], .int .i64 1, .ps 0 2 true [], .str [], .int .i64 0, .int .i64 0, .int .i64 0, .bool true, .ps 0 0 true []], [.int .i64 2, .str [46, 119, 104, 46, 102], .int .i64 2, .ps 0 2 true [], .str [49], .int .i64 0, .int .i64 0, .int .i64 1, .bool false, .ps 0 0 true []], [.int .i64 1, .str [119], .int .i64 5, .ps 0 0 true [], .str [], .int .i64 0, .int .i64 0, .int .i64 0, .bool false, .ps 0 0 true []], [.int .i64 1, .str [120], .int .i64 2, .ps 0 2 true [], .str [49], .int .i64 0, .int .i64 0, .int .i64 1, .bool false, .ps 0 0 true []]]]
def v46 : HVal := .tup [.int .i64 0, .int .i64 0]
theorem k46 : PSpec K0 48 a46 v46 := PSpec.of_run G0_ok (hooksWith_ok ok_45 hk0_ok) (noS_ok _ _) mixed0 (n := 100000) (by decide +kernel)
def ks46 : Known := (48, a46, v46) :: ks45
theorem ok_46 : KnownOK Tryz.prog G0 ks46 := KnownOK.cons k46 ok_45
/-! limewash/branch.Kids: 400 operations -/
def a47 : List HVal := [.ps 1 10 false [[.int .i64 0, .str [], .int .i64 1, .ps 0 2 true [], .str [], .int .i64 0, .int .i64 0, .int .i64 0, .bool false, .ps 0 0 true []], [.int .i64 1, .str [97], .int .i64 1, .ps 0 2 true [], .str [], .int .i64 0, .int .i64 0, .int .i64 0, .bool true, .ps 0 0 true []], [.int .i64 2, .str [46, 119, 104, 46, 102], .int .i64 2, .ps 0 2 true [], .str [49], .int .i64 0, .int .i64 0, .int .i64 1, .bool false, .ps 0 0 true []], [.int .i64 1, .str [119], .int .i64 5, .ps 0 0 true [], .str [], .int .i64 0, .int .i64 0, .int .i64 0, .bool false, .ps 0 0 true []], [.int .i64 1, .str [120], .int .i64 2, .ps 0 2 true [], .str [49], .int .i64 0, .int .i64 0, .int .i64 1, .bool false, .ps 0 0 true []]], .int .i64 0]
def v47 : HVal := .tup [.ps 0 1 false [[.int .i64 1], [.int .i64 3], [.int .i64 4]], .int .i64 0]
theorem k47 : PSpec K0 102 a47 v47 := PSpec.of_run G0_ok (hooksWith_ok ok_46 hk0_ok) (noS_ok _ _) mixed0 (n := 100000) (by decide +kernel)
def ks47 : Known := (102, a47, v47) :: ks46
theorem ok_47 : KnownOK Tryz.prog G0 ks47 := KnownOK.cons k47 ok_46
/-! limewash/branch.Dir: 847 operations -/
def a48 : List HVal := [.ps 1 10 false [[.int .i64 0, .str [], .int .i64 1, .ps 0 2 true [], .str [], .int .i64 0, .int .i64 0, .int .i64 0, .bool false, .ps 0 0 true []], [.int .i64 1, .str [97], .int .i64 1, .ps 0 2 true [], .str [], .int .i64 0, .int .i64 0, .int .i64 0, .bool true, .ps 0 0 true []], [.int .i64 2, .str [46, 119, 104, 46, 102], .int .i64 2, .ps 0 2 true [], .str [49], .int .i64 0, .int .i64 0, .int .i64 1, .bool false, .ps 0 0 true []], [.int .i64 1, .str [119], .int .i64 5, .ps 0 0 true [], .str [], .int .i64 0, .int .i64 0, .int .i64 0, .bool false, .ps 0 0 true []], [.int .i64 1, .str [120], .int .i64 2, .ps 0 2 true [], .str [49], .int .i64 0, .int .i64 0, .int .i64 1, .bool false, .ps 0 0 true []]], .int .i64 0]
def v48 : HVal := .tup [.agg [.ps 0 2 true [], .bool false, .ps 0 1 true [], .ps 0 12 false [[.str [97], .int .i64 0, .str [], .int .i64 1, .ps 0 0 true [], .str [], .int .i64 0, .int .i64 0, .int .i64 0, .bool false, .bool true, .int .i64 1], [.str [119], .int .i64 0, .str [], .int .i64 5, .ps 0 2 true [], .str [], .int .i64 0, .int .i64 0, .int .i64 0, .bool true, .bool true, .int .i64 1], [.str [120], .int .i64 0, .str [], .int .i64 2, .ps 0 2 true [], .str [49], .int .i64 0, .int .i64 0, .int .i64 1, .bool false, .bool true, .int .i64 2]]], .int .i64 0]
theorem k48 : PSpec K0 101 a48 v48 := PSpec.of_run G0_ok (hooksWith_ok ok_47 hk0_ok) (noS_ok _ _) mixed0 (n := 100000) (by decide +kernel)
def ks48 : Known := (101, a48, v48) :: ks47
theorem ok_48 : KnownOK Tryz.prog G0 ks48 := KnownOK.cons k48 ok_47
/-! limewash/tree.Check: 556 operations -/
def a49 : List HVal := [.ps 1 8 true [[.int .i64 0, .str [], .int .i64 1, .ps 0 0 true [], .str [], .int .i64 0, .int .i64 0, .int .i64 0], [.int .i64 1, .str [110], .int .i64 5, .ps 0 2 true [], .str [], .int .i64 0, .int .i64 0, .int .i64 0]]]
def v49 : HVal := .tup [.int .i64 0, .int .i64 0]
theorem k49 : PSpec K0 74 a49 v49 := PSpec.of_run G0_ok (hooksWith_ok ok_48 hk0_ok) (noS_ok _ _) mixed0 (n := 100000) (by decide +kernel)
def ks49 : Known := (74, a49, v49) :: ks48
theorem ok_49 : KnownOK Tryz.prog G0 ks49 := KnownOK.cons k49 ok_48
/-! limewash/branch.CheckDir: 473 operations -/
def a50 : List HVal := [.agg [.ps 0 2 true [], .bool false, .ps 0 1 true [], .ps 0 12 false [[.str [97], .int .i64 0, .str [], .int .i64 1, .ps 0 0 true [], .str [], .int .i64 0, .int .i64 0, .int .i64 0, .bool false, .bool true, .int .i64 1], [.str [119], .int .i64 0, .str [], .int .i64 5, .ps 0 2 true [], .str [], .int .i64 0, .int .i64 0, .int .i64 0, .bool true, .bool true, .int .i64 1], [.str [120], .int .i64 0, .str [], .int .i64 2, .ps 0 2 true [], .str [49], .int .i64 0, .int .i64 0, .int .i64 1, .bool false, .bool true, .int .i64 2]]]]
def v50 : HVal := .tup [.int .i64 0, .int .i64 0]
theorem k50 : PSpec K0 31 a50 v50 := PSpec.of_run G0_ok (hooksWith_ok ok_49 hk0_ok) (noS_ok _ _) mixed0 (n := 100000) (by decide +kernel)
def ks50 : Known := (31, a50, v50) :: ks49
theorem ok_50 : KnownOK Tryz.prog G0 ks50 := KnownOK.cons k50 ok_49
/-! limewash/aufs.EncodeDir: 654 operations -/
def a51 : List HVal := [.agg [.ps 0 2 true [], .bool false, .ps 0 1 true [], .ps 0 12 false [[.str [97], .int .i64 0, .str [], .int .i64 1, .ps 0 0 true [], .str [], .int .i64 0, .int .i64 0, .int .i64 0, .bool false, .bool true, .int .i64 1], [.str [119], .int .i64 0, .str [], .int .i64 5, .ps 0 2 true [], .str [], .int .i64 0, .int .i64 0, .int .i64 0, .bool true, .bool true, .int .i64 1], [.str [120], .int .i64 0, .str [], .int .i64 2, .ps 0 2 true [], .str [49], .int .i64 0, .int .i64 0, .int .i64 1, .bool false, .bool true, .int .i64 2]]]]
def v51 : HVal := .tup [.agg [.ps 0 2 true [], .bool false, .ps 0 0 true [], .ps 0 12 false [[.str [46, 119, 104, 46, 119], .int .i64 0, .str [], .int .i64 2, .ps 0 2 true [], .str [], .int .i64 0, .int .i64 0, .int .i64 0, .bool false, .bool true, .int .i64 1], [.str [97], .int .i64 0, .str [], .int .i64 1, .ps 0 2 true [], .str [], .int .i64 0, .int .i64 0, .int .i64 0, .bool false, .bool true, .int .i64 1], [.str [120], .int .i64 0, .str [], .int .i64 2, .ps 0 2 true [], .str [49], .int .i64 0, .int .i64 0, .int .i64 1, .bool false, .bool true, .int .i64 2]]], .int .i64 0, .int .i64 0]
theorem k51 : PSpec K0 9 a51 v51 := PSpec.of_run G0_ok (hooksWith_ok ok_50 hk0_ok) (noS_ok _ _) mixed0 (n := 100000) (by decide +kernel)
def ks51 : Known := (9, a51, v51) :: ks50
theorem ok_51 : KnownOK Tryz.prog G0 ks51 := KnownOK.cons k51 ok_50
/-! limewash/branch.Kids: 390 operations -/
def a52 : List HVal := [.ps 1 10 false [[.int .i64 0, .str [], .int .i64 1, .ps 0 2 true [], .str [], .int .i64 0, .int .i64 0, .int .i64 0, .bool false, .ps 0 0 true []], [.int .i64 1, .str [97], .int .i64 1, .ps 0 2 true [], .str [], .int .i64 0, .int .i64 0, .int .i64 0, .bool true, .ps 0 0 true []], [.int .i64 2, .str [46, 119, 104, 46, 102], .int .i64 2, .ps 0 2 true [], .str [49], .int .i64 0, .int .i64 0, .int .i64 1, .bool false, .ps 0 0 true []], [.int .i64 1, .str [119], .int .i64 5, .ps 0 0 true [], .str [], .int .i64 0, .int .i64 0, .int .i64 0, .bool false, .ps 0 0 true []], [.int .i64 1, .str [120], .int .i64 2, .ps 0 2 true [], .str [49], .int .i64 0, .int .i64 0, .int .i64 1, .bool false, .ps 0 0 true []]], .int .i64 1]
def v52 : HVal := .tup [.ps 0 1 false [[.int .i64 2]], .int .i64 0]
theorem k52 : PSpec K0 102 a52 v52 := PSpec.of_run G0_ok (hooksWith_ok ok_51 hk0_ok) (noS_ok _ _) mixed0 (n := 100000) (by decide +kernel)
def ks52 : Known := (102, a52, v52) :: ks51
theorem ok_52 : KnownOK Tryz.prog G0 ks52 := KnownOK.cons k52 ok_51
/-! limewash/branch.Dir: 642 operations -/
def a53 : List HVal := [.ps 1 10 false [[.int .i64 0, .str [], .int .i64 1, .ps 0 2 true [], .str [], .int .i64 0, .int .i64 0, .int .i64 0, .bool false, .ps 0 0 true []], [.int .i64 1, .str [97], .int .i64 1, .ps 0 2 true [], .str [], .int .i64 0, .int .i64 0, .int .i64 0, .bool true, .ps 0 0 true []], [.int .i64 2, .str [46, 119, 104, 46, 102], .int .i64 2, .ps 0 2 true [], .str [49], .int .i64 0, .int .i64 0, .int .i64 1, .bool false, .ps 0 0 true []], [.int .i64 1, .str [119], .int .i64 5, .ps 0 0 true [], .str [], .int .i64 0, .int .i64 0, .int .i64 0, .bool false, .ps 0 0 true []], [.int .i64 1, .str [120], .int .i64 2, .ps 0 2 true [], .str [49], .int .i64 0, .int .i64 0, .int .i64 1, .bool false, .ps 0 0 true []]], .int .i64 1]
def v53 : HVal := .tup [.agg [.ps 0 2 true [], .bool true, .ps 0 1 true [], .ps 0 12 false [[.str [46, 119, 104, 46, 102], .int .i64 0, .str [], .int .i64 2, .ps 0 2 true [], .str [49], .int .i64 0, .int .i64 0, .int .i64 1, .bool false, .bool false, .int .i64 2]]], .int .i64 0]
theorem k53 : PSpec K0 101 a53 v53 := PSpec.of_run G0_ok (hooksWith_ok ok_52 hk0_ok) (noS_ok _ _) mixed0 (n := 100000) (by decide +kernel)
def ks53 : Known := (101, a53, v53) :: ks52
theorem ok_53 : KnownOK Tryz.prog G0 ks53 := KnownOK.cons k53 ok_52
end Kn
end Go.Hv
