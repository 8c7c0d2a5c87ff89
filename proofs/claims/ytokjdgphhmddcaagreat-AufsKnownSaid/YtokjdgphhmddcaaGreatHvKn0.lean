/- What is proved here: closed calls of the program, each with the value that it gives (run by the proved evaluator). -/
import Derived.Test.YtokjdgphhmddcaaGreatHvBase
set_option linter.all false
namespace Go.Hv
open Go Go.Proofs
namespace Kn
set_option maxRecDepth 100000
/-! limewash/limewashref03.Name: 296 operations -/
def a0 : List HVal := [.str [46, 119, 104, 46, 46, 119, 104, 46, 112, 108, 110, 107]]
def v0 : HVal := .int .i64 0
theorem k0 : PSpec K0 26 a0 v0 := PSpec.of_run G0_ok (hooksWith_ok (KnownOK.nil _ _) hk0_ok) (noS_ok _ _) mixed0 (n := 100000) (by decide +kernel)
def ks0 : Known := (26, a0, v0) :: []
theorem ok_0 : KnownOK Tryz.prog G0 ks0 := KnownOK.cons k0 (KnownOK.nil _ _)
/-! limewash/limewashref03.Name: 66 operations -/
def a1 : List HVal := [.str [48, 49]]
def v1 : HVal := .int .i64 0
theorem k1 : PSpec K0 26 a1 v1 := PSpec.of_run G0_ok (hooksWith_ok ok_0 hk0_ok) (noS_ok _ _) mixed0 (n := 100000) (by decide +kernel)
def ks1 : Known := (26, a1, v1) :: ks0
theorem ok_1 : KnownOK Tryz.prog G0 ks1 := KnownOK.cons k1 ok_0
/-! limewash/limewashref03.Name: 135 operations -/
def a2 : List HVal := [.str [46, 119, 104, 46, 119]]
def v2 : HVal := .int .i64 0
theorem k2 : PSpec K0 26 a2 v2 := PSpec.of_run G0_ok (hooksWith_ok ok_1 hk0_ok) (noS_ok _ _) mixed0 (n := 100000) (by decide +kernel)
def ks2 : Known := (26, a2, v2) :: ks1
theorem ok_2 : KnownOK Tryz.prog G0 ks2 := KnownOK.cons k2 ok_1
/-! limewash/limewashref03.Name: 43 operations -/
def a3 : List HVal := [.str [97]]
def v3 : HVal := .int .i64 0
theorem k3 : PSpec K0 26 a3 v3 := PSpec.of_run G0_ok (hooksWith_ok ok_2 hk0_ok) (noS_ok _ _) mixed0 (n := 100000) (by decide +kernel)
def ks3 : Known := (26, a3, v3) :: ks2
theorem ok_3 : KnownOK Tryz.prog G0 ks3 := KnownOK.cons k3 ok_2
/-! limewash/limewashref03.Name: 273 operations -/
def a4 : List HVal := [.str [46, 119, 104, 46, 46, 119, 104, 46, 111, 112, 113]]
def v4 : HVal := .int .i64 0
theorem k4 : PSpec K0 26 a4 v4 := PSpec.of_run G0_ok (hooksWith_ok ok_3 hk0_ok) (noS_ok _ _) mixed0 (n := 100000) (by decide +kernel)
def ks4 : Known := (26, a4, v4) :: ks3
theorem ok_4 : KnownOK Tryz.prog G0 ks4 := KnownOK.cons k4 ok_3
/-! limewash/limewashref03.Name: 250 operations -/
def a5 : List HVal := [.str [46, 119, 104, 46, 46, 119, 104, 46, 120, 102]]
def v5 : HVal := .int .i64 0
theorem k5 : PSpec K0 26 a5 v5 := PSpec.of_run G0_ok (hooksWith_ok ok_4 hk0_ok) (noS_ok _ _) mixed0 (n := 100000) (by decide +kernel)
def ks5 : Known := (26, a5, v5) :: ks4
theorem ok_5 : KnownOK Tryz.prog G0 ks5 := KnownOK.cons k5 ok_4
/-! limewash/limewashref03.Name: 43 operations -/
def a6 : List HVal := [.str [120]]
def v6 : HVal := .int .i64 0
theorem k6 : PSpec K0 26 a6 v6 := PSpec.of_run G0_ok (hooksWith_ok ok_5 hk0_ok) (noS_ok _ _) mixed0 (n := 100000) (by decide +kernel)
def ks6 : Known := (26, a6, v6) :: ks5
theorem ok_6 : KnownOK Tryz.prog G0 ks6 := KnownOK.cons k6 ok_5
/-! limewash/limewashref15.Check: 4921 operations -/
def a7 : List HVal := [.ps 1 8 true [[.int .i64 0, .str [], .int .i64 1, .ps 0 0 true [], .str [], .int .i64 0, .int .i64 0, .int .i64 0], [.int .i64 1, .str [46, 119, 104, 46, 46, 119, 104, 46, 112, 108, 110, 107], .int .i64 1, .ps 0 0 true [], .str [], .int .i64 0, .int .i64 0, .int .i64 0], [.int .i64 2, .str [48, 49], .int .i64 2, .ps 0 0 true [], .str [49], .int .i64 0, .int .i64 0, .int .i64 1], [.int .i64 1, .str [46, 119, 104, 46, 119], .int .i64 2, .ps 0 0 true [], .str [], .int .i64 0, .int .i64 0, .int .i64 0], [.int .i64 1, .str [97], .int .i64 1, .ps 0 0 true [], .str [], .int .i64 0, .int .i64 0, .int .i64 0], [.int .i64 2, .str [46, 119, 104, 46, 46, 119, 104, 46, 111, 112, 113], .int .i64 2, .ps 0 0 true [], .str [], .int .i64 0, .int .i64 0, .int .i64 0], [.int .i64 2, .str [46, 119, 104, 46, 46, 119, 104, 46, 120, 102], .int .i64 2, .ps 0 0 true [], .str [49], .int .i64 0, .int .i64 0, .int .i64 1], [.int .i64 1, .str [120], .int .i64 2, .ps 0 0 true [], .str [49], .int .i64 0, .int .i64 0, .int .i64 1]]]
def v7 : HVal := .tup [.int .i64 0, .int .i64 0]
theorem k7 : PSpec K0 60 a7 v7 := PSpec.of_run G0_ok (hooksWith_ok ok_6 hk0_ok) (noS_ok _ _) mixed0 (n := 100000) (by decide +kernel)
def ks7 : Known := (60, a7, v7) :: ks6
theorem ok_7 : KnownOK Tryz.prog G0 ks7 := KnownOK.cons k7 ok_6
/-! limewash/limewashref15.Find: 256 operations -/
def a8 : List HVal := [.ps 1 8 true [[.int .i64 0, .str [], .int .i64 1, .ps 0 0 true [], .str [], .int .i64 0, .int .i64 0, .int .i64 0], [.int .i64 1, .str [46, 119, 104, 46, 46, 119, 104, 46, 112, 108, 110, 107], .int .i64 1, .ps 0 0 true [], .str [], .int .i64 0, .int .i64 0, .int .i64 0], [.int .i64 2, .str [48, 49], .int .i64 2, .ps 0 0 true [], .str [49], .int .i64 0, .int .i64 0, .int .i64 1], [.int .i64 1, .str [46, 119, 104, 46, 119], .int .i64 2, .ps 0 0 true [], .str [], .int .i64 0, .int .i64 0, .int .i64 0], [.int .i64 1, .str [97], .int .i64 1, .ps 0 0 true [], .str [], .int .i64 0, .int .i64 0, .int .i64 0], [.int .i64 2, .str [46, 119, 104, 46, 46, 119, 104, 46, 111, 112, 113], .int .i64 2, .ps 0 0 true [], .str [], .int .i64 0, .int .i64 0, .int .i64 0], [.int .i64 2, .str [46, 119, 104, 46, 46, 119, 104, 46, 120, 102], .int .i64 2, .ps 0 0 true [], .str [49], .int .i64 0, .int .i64 0, .int .i64 1], [.int .i64 1, .str [120], .int .i64 2, .ps 0 0 true [], .str [49], .int .i64 0, .int .i64 0, .int .i64 1]], .ps 1 1 true [[.str [46, 119, 104, 46, 46, 119, 104, 46, 112, 108, 110, 107]], [.str [48, 49]]]]
def v8 : HVal := .tup [.int .i64 2, .int .i64 0]
theorem k8 : PSpec K0 14 a8 v8 := PSpec.of_run G0_ok (hooksWith_ok ok_7 hk0_ok) (noS_ok _ _) mixed0 (n := 100000) (by decide +kernel)
def ks8 : Known := (14, a8, v8) :: ks7
theorem ok_8 : KnownOK Tryz.prog G0 ks8 := KnownOK.cons k8 ok_7
/-! limewash/limewashref15.Check: 3634 operations -/
def a9 : List HVal := [.ps 1 8 false [[.int .i64 0, .str [], .int .i64 1, .ps 1 2 true [], .str [], .int .i64 0, .int .i64 0, .int .i64 0], [.int .i64 1, .str [46, 119, 104, 46, 46, 119, 104, 46, 112, 108, 110, 107], .int .i64 1, .ps 1 2 true [], .str [], .int .i64 0, .int .i64 0, .int .i64 0], [.int .i64 1, .str [46, 119, 104, 46, 119], .int .i64 2, .ps 1 2 true [], .str [], .int .i64 0, .int .i64 0, .int .i64 0], [.int .i64 1, .str [97], .int .i64 1, .ps 1 2 true [], .str [], .int .i64 0, .int .i64 0, .int .i64 0], [.int .i64 2, .str [46, 119, 104, 46, 46, 119, 104, 46, 111, 112, 113], .int .i64 2, .ps 1 2 true [], .str [], .int .i64 0, .int .i64 0, .int .i64 0], [.int .i64 2, .str [46, 119, 104, 46, 46, 119, 104, 46, 120, 102], .int .i64 2, .ps 1 2 true [], .str [49], .int .i64 0, .int .i64 0, .int .i64 0], [.int .i64 1, .str [120], .int .i64 2, .ps 1 2 true [], .str [49], .int .i64 0, .int .i64 0, .int .i64 0]]]
def v9 : HVal := .tup [.int .i64 0, .int .i64 0]
theorem k9 : PSpec K0 60 a9 v9 := PSpec.of_run G0_ok (hooksWith_ok ok_8 hk0_ok) (noS_ok _ _) mixed0 (n := 100000) (by decide +kernel)
def ks9 : Known := (60, a9, v9) :: ks8
theorem ok_9 : KnownOK Tryz.prog G0 ks9 := KnownOK.cons k9 ok_8
end Kn
end Go.Hv
