/- What is proved here: closed calls of the program, each with the value that it gives (run by the proved evaluator). -/
import Derived.Test.YtokjdgphhmddcaaGreatHvKn0
set_option linter.all false
namespace Go.Hv
open Go Go.Proofs
namespace Kn
set_option maxRecDepth 100000
/-! limewash/limewashref15.Canon: 867 operations -/
def a10 : List HVal := [.ps 1 8 false [[.int .i64 0, .str [], .int .i64 1, .ps 1 2 true [], .str [], .int .i64 0, .int .i64 0, .int .i64 0], [.int .i64 1, .str [46, 119, 104, 46, 46, 119, 104, 46, 112, 108, 110, 107], .int .i64 1, .ps 1 2 true [], .str [], .int .i64 0, .int .i64 0, .int .i64 0], [.int .i64 1, .str [46, 119, 104, 46, 119], .int .i64 2, .ps 0 0 true [], .str [], .int .i64 0, .int .i64 0, .int .i64 0], [.int .i64 1, .str [97], .int .i64 1, .ps 0 0 true [], .str [], .int .i64 0, .int .i64 0, .int .i64 0], [.int .i64 2, .str [46, 119, 104, 46, 46, 119, 104, 46, 111, 112, 113], .int .i64 2, .ps 0 0 true [], .str [], .int .i64 0, .int .i64 0, .int .i64 0], [.int .i64 2, .str [46, 119, 104, 46, 46, 119, 104, 46, 120, 102], .int .i64 2, .ps 0 0 true [], .str [49], .int .i64 0, .int .i64 0, .int .i64 1], [.int .i64 1, .str [120], .int .i64 2, .ps 0 0 true [], .str [49], .int .i64 0, .int .i64 0, .int .i64 1]]]
def v10 : HVal := .tup [.ps 0 8 false [[.int .i64 0, .str [], .int .i64 1, .ps 0 2 true [], .str [], .int .i64 0, .int .i64 0, .int .i64 0], [.int .i64 1, .str [46, 119, 104, 46, 46, 119, 104, 46, 112, 108, 110, 107], .int .i64 1, .ps 0 2 true [], .str [], .int .i64 0, .int .i64 0, .int .i64 0], [.int .i64 1, .str [46, 119, 104, 46, 119], .int .i64 2, .ps 0 2 true [], .str [], .int .i64 0, .int .i64 0, .int .i64 0], [.int .i64 1, .str [97], .int .i64 1, .ps 0 2 true [], .str [], .int .i64 0, .int .i64 0, .int .i64 0], [.int .i64 2, .str [46, 119, 104, 46, 46, 119, 104, 46, 111, 112, 113], .int .i64 2, .ps 0 2 true [], .str [], .int .i64 0, .int .i64 0, .int .i64 0], [.int .i64 2, .str [46, 119, 104, 46, 46, 119, 104, 46, 120, 102], .int .i64 2, .ps 0 2 true [], .str [49], .int .i64 0, .int .i64 0, .int .i64 1], [.int .i64 1, .str [120], .int .i64 2, .ps 0 2 true [], .str [49], .int .i64 0, .int .i64 0, .int .i64 1]], .int .i64 0]
theorem k10 : PSpec K0 63 a10 v10 := PSpec.of_run G0_ok (hooksWith_ok ok_9 hk0_ok) (noS_ok _ _) mixed0 (n := 100000) (by decide +kernel)
def ks10 : Known := (63, a10, v10) :: ks9
theorem ok_10 : KnownOK Tryz.prog G0 ks10 := KnownOK.cons k10 ok_9
/-! limewash/limewashref15.Cut: 108 operations -/
def a11 : List HVal := [.ps 1 8 true [[.int .i64 0, .str [], .int .i64 1, .ps 0 0 true [], .str [], .int .i64 0, .int .i64 0, .int .i64 0], [.int .i64 1, .str [46, 119, 104, 46, 46, 119, 104, 46, 112, 108, 110, 107], .int .i64 1, .ps 0 0 true [], .str [], .int .i64 0, .int .i64 0, .int .i64 0], [.int .i64 2, .str [48, 49], .int .i64 2, .ps 0 0 true [], .str [49], .int .i64 0, .int .i64 0, .int .i64 1], [.int .i64 1, .str [46, 119, 104, 46, 119], .int .i64 2, .ps 0 0 true [], .str [], .int .i64 0, .int .i64 0, .int .i64 0], [.int .i64 1, .str [97], .int .i64 1, .ps 0 0 true [], .str [], .int .i64 0, .int .i64 0, .int .i64 0], [.int .i64 2, .str [46, 119, 104, 46, 46, 119, 104, 46, 111, 112, 113], .int .i64 2, .ps 0 0 true [], .str [], .int .i64 0, .int .i64 0, .int .i64 0], [.int .i64 2, .str [46, 119, 104, 46, 46, 119, 104, 46, 120, 102], .int .i64 2, .ps 0 0 true [], .str [49], .int .i64 0, .int .i64 0, .int .i64 1], [.int .i64 1, .str [120], .int .i64 2, .ps 0 0 true [], .str [49], .int .i64 0, .int .i64 0, .int .i64 1]], .ps 1 1 true [[.str [46, 119, 104, 46, 46, 119, 104, 46, 112, 108, 110, 107]], [.str [48, 49]]]]
def v11 : HVal := .tup [.ps 0 8 false [[.int .i64 0, .str [], .int .i64 1, .ps 0 2 true [], .str [], .int .i64 0, .int .i64 0, .int .i64 0], [.int .i64 1, .str [46, 119, 104, 46, 46, 119, 104, 46, 112, 108, 110, 107], .int .i64 1, .ps 0 2 true [], .str [], .int .i64 0, .int .i64 0, .int .i64 0], [.int .i64 1, .str [46, 119, 104, 46, 119], .int .i64 2, .ps 0 2 true [], .str [], .int .i64 0, .int .i64 0, .int .i64 0], [.int .i64 1, .str [97], .int .i64 1, .ps 0 2 true [], .str [], .int .i64 0, .int .i64 0, .int .i64 0], [.int .i64 2, .str [46, 119, 104, 46, 46, 119, 104, 46, 111, 112, 113], .int .i64 2, .ps 0 2 true [], .str [], .int .i64 0, .int .i64 0, .int .i64 0], [.int .i64 2, .str [46, 119, 104, 46, 46, 119, 104, 46, 120, 102], .int .i64 2, .ps 0 2 true [], .str [49], .int .i64 0, .int .i64 0, .int .i64 1], [.int .i64 1, .str [120], .int .i64 2, .ps 0 2 true [], .str [49], .int .i64 0, .int .i64 0, .int .i64 1]], .int .i64 0]
theorem k11 : PSpec K0 17 a11 v11 := PSpec.of_run G0_ok (hooksWith_ok ok_10 hk0_ok) (noS_ok _ _) mixed0 (n := 100000) (by decide +kernel)
def ks11 : Known := (17, a11, v11) :: ks10
theorem ok_11 : KnownOK Tryz.prog G0 ks11 := KnownOK.cons k11 ok_10
/-! limewash/limewashref15.Find: 146 operations -/
def a12 : List HVal := [.ps 1 8 true [[.int .i64 0, .str [], .int .i64 1, .ps 0 0 true [], .str [], .int .i64 0, .int .i64 0, .int .i64 0], [.int .i64 1, .str [46, 119, 104, 46, 46, 119, 104, 46, 112, 108, 110, 107], .int .i64 1, .ps 0 0 true [], .str [], .int .i64 0, .int .i64 0, .int .i64 0], [.int .i64 2, .str [48, 49], .int .i64 2, .ps 0 0 true [], .str [49], .int .i64 0, .int .i64 0, .int .i64 1], [.int .i64 1, .str [46, 119, 104, 46, 119], .int .i64 2, .ps 0 0 true [], .str [], .int .i64 0, .int .i64 0, .int .i64 0], [.int .i64 1, .str [97], .int .i64 1, .ps 0 0 true [], .str [], .int .i64 0, .int .i64 0, .int .i64 0], [.int .i64 2, .str [46, 119, 104, 46, 46, 119, 104, 46, 111, 112, 113], .int .i64 2, .ps 0 0 true [], .str [], .int .i64 0, .int .i64 0, .int .i64 0], [.int .i64 2, .str [46, 119, 104, 46, 46, 119, 104, 46, 120, 102], .int .i64 2, .ps 0 0 true [], .str [49], .int .i64 0, .int .i64 0, .int .i64 1], [.int .i64 1, .str [120], .int .i64 2, .ps 0 0 true [], .str [49], .int .i64 0, .int .i64 0, .int .i64 1]], .ps 1 1 true [[.str [46, 119, 104, 46, 46, 119, 104, 46, 112, 108, 110, 107]]]]
def v12 : HVal := .tup [.int .i64 1, .int .i64 0]
theorem k12 : PSpec K0 14 a12 v12 := PSpec.of_run G0_ok (hooksWith_ok ok_11 hk0_ok) (noS_ok _ _) mixed0 (n := 100000) (by decide +kernel)
def ks12 : Known := (14, a12, v12) :: ks11
theorem ok_12 : KnownOK Tryz.prog G0 ks12 := KnownOK.cons k12 ok_11
/-! limewash/limewashref15.Check: 2909 operations -/
def a13 : List HVal := [.ps 1 8 false [[.int .i64 0, .str [], .int .i64 1, .ps 1 2 true [], .str [], .int .i64 0, .int .i64 0, .int .i64 0], [.int .i64 1, .str [46, 119, 104, 46, 119], .int .i64 2, .ps 1 2 true [], .str [], .int .i64 0, .int .i64 0, .int .i64 0], [.int .i64 1, .str [97], .int .i64 1, .ps 1 2 true [], .str [], .int .i64 0, .int .i64 0, .int .i64 0], [.int .i64 2, .str [46, 119, 104, 46, 46, 119, 104, 46, 111, 112, 113], .int .i64 2, .ps 1 2 true [], .str [], .int .i64 0, .int .i64 0, .int .i64 0], [.int .i64 2, .str [46, 119, 104, 46, 46, 119, 104, 46, 120, 102], .int .i64 2, .ps 1 2 true [], .str [49], .int .i64 0, .int .i64 0, .int .i64 0], [.int .i64 1, .str [120], .int .i64 2, .ps 1 2 true [], .str [49], .int .i64 0, .int .i64 0, .int .i64 0]]]
def v13 : HVal := .tup [.int .i64 0, .int .i64 0]
theorem k13 : PSpec K0 60 a13 v13 := PSpec.of_run G0_ok (hooksWith_ok ok_12 hk0_ok) (noS_ok _ _) mixed0 (n := 100000) (by decide +kernel)
def ks13 : Known := (60, a13, v13) :: ks12
theorem ok_13 : KnownOK Tryz.prog G0 ks13 := KnownOK.cons k13 ok_12
/-! limewash/limewashref15.Canon: 772 operations -/
def a14 : List HVal := [.ps 1 8 false [[.int .i64 0, .str [], .int .i64 1, .ps 1 2 true [], .str [], .int .i64 0, .int .i64 0, .int .i64 0], [.int .i64 1, .str [46, 119, 104, 46, 119], .int .i64 2, .ps 0 0 true [], .str [], .int .i64 0, .int .i64 0, .int .i64 0], [.int .i64 1, .str [97], .int .i64 1, .ps 0 0 true [], .str [], .int .i64 0, .int .i64 0, .int .i64 0], [.int .i64 2, .str [46, 119, 104, 46, 46, 119, 104, 46, 111, 112, 113], .int .i64 2, .ps 0 0 true [], .str [], .int .i64 0, .int .i64 0, .int .i64 0], [.int .i64 2, .str [46, 119, 104, 46, 46, 119, 104, 46, 120, 102], .int .i64 2, .ps 0 0 true [], .str [49], .int .i64 0, .int .i64 0, .int .i64 1], [.int .i64 1, .str [120], .int .i64 2, .ps 0 0 true [], .str [49], .int .i64 0, .int .i64 0, .int .i64 1]]]
def v14 : HVal := .tup [.ps 0 8 false [[.int .i64 0, .str [], .int .i64 1, .ps 0 2 true [], .str [], .int .i64 0, .int .i64 0, .int .i64 0], [.int .i64 1, .str [46, 119, 104, 46, 119], .int .i64 2, .ps 0 2 true [], .str [], .int .i64 0, .int .i64 0, .int .i64 0], [.int .i64 1, .str [97], .int .i64 1, .ps 0 2 true [], .str [], .int .i64 0, .int .i64 0, .int .i64 0], [.int .i64 2, .str [46, 119, 104, 46, 46, 119, 104, 46, 111, 112, 113], .int .i64 2, .ps 0 2 true [], .str [], .int .i64 0, .int .i64 0, .int .i64 0], [.int .i64 2, .str [46, 119, 104, 46, 46, 119, 104, 46, 120, 102], .int .i64 2, .ps 0 2 true [], .str [49], .int .i64 0, .int .i64 0, .int .i64 1], [.int .i64 1, .str [120], .int .i64 2, .ps 0 2 true [], .str [49], .int .i64 0, .int .i64 0, .int .i64 1]], .int .i64 0]
theorem k14 : PSpec K0 63 a14 v14 := PSpec.of_run G0_ok (hooksWith_ok ok_13 hk0_ok) (noS_ok _ _) mixed0 (n := 100000) (by decide +kernel)
def ks14 : Known := (63, a14, v14) :: ks13
theorem ok_14 : KnownOK Tryz.prog G0 ks14 := KnownOK.cons k14 ok_13
/-! limewash/limewashref15.Cut: 104 operations -/
def a15 : List HVal := [.ps 1 8 true [[.int .i64 0, .str [], .int .i64 1, .ps 0 0 true [], .str [], .int .i64 0, .int .i64 0, .int .i64 0], [.int .i64 1, .str [46, 119, 104, 46, 46, 119, 104, 46, 112, 108, 110, 107], .int .i64 1, .ps 0 0 true [], .str [], .int .i64 0, .int .i64 0, .int .i64 0], [.int .i64 2, .str [48, 49], .int .i64 2, .ps 0 0 true [], .str [49], .int .i64 0, .int .i64 0, .int .i64 1], [.int .i64 1, .str [46, 119, 104, 46, 119], .int .i64 2, .ps 0 0 true [], .str [], .int .i64 0, .int .i64 0, .int .i64 0], [.int .i64 1, .str [97], .int .i64 1, .ps 0 0 true [], .str [], .int .i64 0, .int .i64 0, .int .i64 0], [.int .i64 2, .str [46, 119, 104, 46, 46, 119, 104, 46, 111, 112, 113], .int .i64 2, .ps 0 0 true [], .str [], .int .i64 0, .int .i64 0, .int .i64 0], [.int .i64 2, .str [46, 119, 104, 46, 46, 119, 104, 46, 120, 102], .int .i64 2, .ps 0 0 true [], .str [49], .int .i64 0, .int .i64 0, .int .i64 1], [.int .i64 1, .str [120], .int .i64 2, .ps 0 0 true [], .str [49], .int .i64 0, .int .i64 0, .int .i64 1]], .ps 1 1 true [[.str [46, 119, 104, 46, 46, 119, 104, 46, 112, 108, 110, 107]]]]
def v15 : HVal := .tup [.ps 0 8 false [[.int .i64 0, .str [], .int .i64 1, .ps 0 2 true [], .str [], .int .i64 0, .int .i64 0, .int .i64 0], [.int .i64 1, .str [46, 119, 104, 46, 119], .int .i64 2, .ps 0 2 true [], .str [], .int .i64 0, .int .i64 0, .int .i64 0], [.int .i64 1, .str [97], .int .i64 1, .ps 0 2 true [], .str [], .int .i64 0, .int .i64 0, .int .i64 0], [.int .i64 2, .str [46, 119, 104, 46, 46, 119, 104, 46, 111, 112, 113], .int .i64 2, .ps 0 2 true [], .str [], .int .i64 0, .int .i64 0, .int .i64 0], [.int .i64 2, .str [46, 119, 104, 46, 46, 119, 104, 46, 120, 102], .int .i64 2, .ps 0 2 true [], .str [49], .int .i64 0, .int .i64 0, .int .i64 1], [.int .i64 1, .str [120], .int .i64 2, .ps 0 2 true [], .str [49], .int .i64 0, .int .i64 0, .int .i64 1]], .int .i64 0]
theorem k15 : PSpec K0 17 a15 v15 := PSpec.of_run G0_ok (hooksWith_ok ok_14 hk0_ok) (noS_ok _ _) mixed0 (n := 100000) (by decide +kernel)
def ks15 : Known := (17, a15, v15) :: ks14
theorem ok_15 : KnownOK Tryz.prog G0 ks15 := KnownOK.cons k15 ok_14
/-! limewash/paths.Name: 314 operations -/
def a16 : List HVal := [.str [46, 119, 104, 46, 46, 119, 104, 46, 112, 108, 110, 107]]
def v16 : HVal := .int .i64 0
theorem k16 : PSpec K0 82 a16 v16 := PSpec.of_run G0_ok (hooksWith_ok ok_15 hk0_ok) (noS_ok _ _) mixed0 (n := 100000) (by decide +kernel)
def ks16 : Known := (82, a16, v16) :: ks15
theorem ok_16 : KnownOK Tryz.prog G0 ks16 := KnownOK.cons k16 ok_15
/-! limewash/paths.Name: 153 operations -/
def a17 : List HVal := [.str [46, 119, 104, 46, 119]]
def v17 : HVal := .int .i64 0
theorem k17 : PSpec K0 82 a17 v17 := PSpec.of_run G0_ok (hooksWith_ok ok_16 hk0_ok) (noS_ok _ _) mixed0 (n := 100000) (by decide +kernel)
def ks17 : Known := (82, a17, v17) :: ks16
theorem ok_17 : KnownOK Tryz.prog G0 ks17 := KnownOK.cons k17 ok_16
/-! limewash/paths.Name: 61 operations -/
def a18 : List HVal := [.str [97]]
def v18 : HVal := .int .i64 0
theorem k18 : PSpec K0 82 a18 v18 := PSpec.of_run G0_ok (hooksWith_ok ok_17 hk0_ok) (noS_ok _ _) mixed0 (n := 100000) (by decide +kernel)
def ks18 : Known := (82, a18, v18) :: ks17
theorem ok_18 : KnownOK Tryz.prog G0 ks18 := KnownOK.cons k18 ok_17
/-! limewash/paths.Name: 291 operations -/
def a19 : List HVal := [.str [46, 119, 104, 46, 46, 119, 104, 46, 111, 112, 113]]
def v19 : HVal := .int .i64 0
theorem k19 : PSpec K0 82 a19 v19 := PSpec.of_run G0_ok (hooksWith_ok ok_18 hk0_ok) (noS_ok _ _) mixed0 (n := 100000) (by decide +kernel)
def ks19 : Known := (82, a19, v19) :: ks18
theorem ok_19 : KnownOK Tryz.prog G0 ks19 := KnownOK.cons k19 ok_18
/-! limewash/paths.Name: 268 operations -/
def a20 : List HVal := [.str [46, 119, 104, 46, 46, 119, 104, 46, 120, 102]]
def v20 : HVal := .int .i64 0
theorem k20 : PSpec K0 82 a20 v20 := PSpec.of_run G0_ok (hooksWith_ok ok_19 hk0_ok) (noS_ok _ _) mixed0 (n := 100000) (by decide +kernel)
def ks20 : Known := (82, a20, v20) :: ks19
theorem ok_20 : KnownOK Tryz.prog G0 ks20 := KnownOK.cons k20 ok_19
/-! limewash/paths.Name: 61 operations -/
def a21 : List HVal := [.str [120]]
def v21 : HVal := .int .i64 0
theorem k21 : PSpec K0 82 a21 v21 := PSpec.of_run G0_ok (hooksWith_ok ok_20 hk0_ok) (noS_ok _ _) mixed0 (n := 100000) (by decide +kernel)
def ks21 : Known := (82, a21, v21) :: ks20
theorem ok_21 : KnownOK Tryz.prog G0 ks21 := KnownOK.cons k21 ok_20
/-! limewash/tree.Check: 2130 operations -/
def a22 : List HVal := [.ps 0 8 false [[.int .i64 0, .str [], .int .i64 1, .ps 0 2 true [], .str [], .int .i64 0, .int .i64 0, .int .i64 0], [.int .i64 1, .str [46, 119, 104, 46, 46, 119, 104, 46, 112, 108, 110, 107], .int .i64 1, .ps 0 2 true [], .str [], .int .i64 0, .int .i64 0, .int .i64 0], [.int .i64 1, .str [46, 119, 104, 46, 119], .int .i64 2, .ps 0 2 true [], .str [], .int .i64 0, .int .i64 0, .int .i64 0], [.int .i64 1, .str [97], .int .i64 1, .ps 0 2 true [], .str [], .int .i64 0, .int .i64 0, .int .i64 0], [.int .i64 2, .str [46, 119, 104, 46, 46, 119, 104, 46, 111, 112, 113], .int .i64 2, .ps 0 2 true [], .str [], .int .i64 0, .int .i64 0, .int .i64 0], [.int .i64 2, .str [46, 119, 104, 46, 46, 119, 104, 46, 120, 102], .int .i64 2, .ps 0 2 true [], .str [49], .int .i64 0, .int .i64 0, .int .i64 1], [.int .i64 1, .str [120], .int .i64 2, .ps 0 2 true [], .str [49], .int .i64 0, .int .i64 0, .int .i64 1]]]
def v22 : HVal := .tup [.int .i64 0, .int .i64 0]
theorem k22 : PSpec K0 74 a22 v22 := PSpec.of_run G0_ok (hooksWith_ok ok_21 hk0_ok) (noS_ok _ _) mixed0 (n := 100000) (by decide +kernel)
def ks22 : Known := (74, a22, v22) :: ks21
theorem ok_22 : KnownOK Tryz.prog G0 ks22 := KnownOK.cons k22 ok_21
/-! limewash/tree.Check: 1699 operations -/
def a23 : List HVal := [.ps 1 8 false [[.int .i64 0, .str [], .int .i64 1, .ps 0 2 true [], .str [], .int .i64 0, .int .i64 0, .int .i64 0], [.int .i64 1, .str [46, 119, 104, 46, 119], .int .i64 2, .ps 0 2 true [], .str [], .int .i64 0, .int .i64 0, .int .i64 0], [.int .i64 1, .str [97], .int .i64 1, .ps 0 2 true [], .str [], .int .i64 0, .int .i64 0, .int .i64 0], [.int .i64 2, .str [46, 119, 104, 46, 46, 119, 104, 46, 111, 112, 113], .int .i64 2, .ps 0 2 true [], .str [], .int .i64 0, .int .i64 0, .int .i64 0], [.int .i64 2, .str [46, 119, 104, 46, 46, 119, 104, 46, 120, 102], .int .i64 2, .ps 0 2 true [], .str [49], .int .i64 0, .int .i64 0, .int .i64 0], [.int .i64 1, .str [120], .int .i64 2, .ps 0 2 true [], .str [49], .int .i64 0, .int .i64 0, .int .i64 0]]]
def v23 : HVal := .tup [.int .i64 0, .int .i64 0]
theorem k23 : PSpec K0 74 a23 v23 := PSpec.of_run G0_ok (hooksWith_ok ok_22 hk0_ok) (noS_ok _ _) mixed0 (n := 100000) (by decide +kernel)
def ks23 : Known := (74, a23, v23) :: ks22
theorem ok_23 : KnownOK Tryz.prog G0 ks23 := KnownOK.cons k23 ok_22
end Kn
end Go.Hv
