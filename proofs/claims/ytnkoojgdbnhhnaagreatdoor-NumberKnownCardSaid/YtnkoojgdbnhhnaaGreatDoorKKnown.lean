import Derived.Test.YtnkoojgdbnhhnaaGreatDoorKChk0
import Derived.Test.YtnkoojgdbnhhnaaGreatDoorKChk1
import Derived.Test.YtnkoojgdbnhhnaaGreatDoorKChk2
import Derived.Test.YtnkoojgdbnhhnaaGreatDoorKChk3
import Derived.Test.YtnkoojgdbnhhnaaGreatDoorKChk4
import Derived.Test.YtnkoojgdbnhhnaaGreatDoorKChk5
import Derived.Test.YtnkoojgdbnhhnaaGreatDoorKChk6
import Derived.Test.YtnkoojgdbnhhnaaGreatDoorKChk7
import Derived.Test.YtnkoojgdbnhhnaaGreatDoorKChk8
import Derived.Test.YtnkoojgdbnhhnaaGreatDoorKChk9
import Derived.Test.YtnkoojgdbnhhnaaGreatDoorKChk10
import Derived.Test.YtnkoojgdbnhhnaaGreatDoorKChk11
import Derived.Test.YtnkoojgdbnhhnaaGreatDoorKChk12
import Derived.Test.YtnkoojgdbnhhnaaGreatDoorKChk13
import Derived.Test.YtnkoojgdbnhhnaaGreatDoorKChk14
import Derived.Test.YtnkoojgdbnhhnaaGreatDoorKChk15
namespace Go.Ax.K
open Go Go.Ax
theorem k0 : EntOk CC e0 := checkE_ok good oOk_e c0
theorem k1 : EntOk CC e1 := checkE_ok good (oOk_put _ oOk_e k0) c1
theorem k2 : EntOk CC e2 := checkE_ok good (oOk_put _ oOk_e k1) c2
theorem k3 : EntOk CC e3 := checkE_ok good (oOk_put _ oOk_e k2) c3
theorem k4 : EntOk CC e4 := checkE_ok good oOk_e c4
theorem k5 : EntOk CC e5 := checkE_ok good (oOk_put _ oOk_e k4) c5
theorem k6 : EntOk CC e6 := checkE_ok good oOk_e c6
theorem k7 : EntOk CC e7 := checkE_ok good (oOk_put _ oOk_e k6) c7
theorem k8 : EntOk CC e8 := checkE_ok good oOk_e c8
theorem k9 : EntOk CC e9 := checkE_ok good oOk_e c9
theorem k10 : EntOk CC e10 := checkE_ok good oOk_e c10
theorem k11 : EntOk CC e11 := checkE_ok good (oOk_put _ oOk_e k10) c11
theorem k12 : EntOk CC e12 := checkE_ok good oOk_e c12
theorem k13 : EntOk CC e13 := checkE_ok good (oOk_put _ oOk_e k12) c13
theorem k14 : EntOk CC e14 := checkE_ok good oOk_e c14
theorem k15 : EntOk CC e15 := checkE_ok good oOk_e c15
theorem k16 : EntOk CC e16 := checkE_ok good (oOk_put _ oOk_e k15) c16
theorem k17 : EntOk CC e17 := checkE_ok good (oOk_put _ oOk_e k16) c17
theorem k18 : EntOk CC e18 := checkE_ok good (oOk_put _ (oOk_put _ oOk_e k14) k17) c18
theorem k19 : EntOk CC e19 := checkE_ok good oOk_e c19
theorem k20 : EntOk CC e20 := checkE_ok good oOk_e c20
theorem k21 : EntOk CC e21 := checkE_ok good oOk_e c21
theorem k22 : EntOk CC e22 := checkE_ok good (oOk_put _ oOk_e k21) c22
theorem k23 : EntOk CC e23 := checkE_ok good oOk_e c23
theorem k24 : EntOk CC e24 := checkE_ok good (oOk_put _ oOk_e k23) c24
theorem k25 : EntOk CC e25 := checkE_ok good (oOk_put _ oOk_e k24) c25
theorem k26 : EntOk CC e26 := checkE_ok good (oOk_put _ (oOk_put _ (oOk_put _ (oOk_put _ (oOk_put _ (oOk_put _ (oOk_put _ (oOk_put _ (oOk_put _ oOk_e k8) k9) k11) k13) k18) k19) k20) k22) k25) c26
theorem k27 : EntOk CC e27 := checkE_ok good (oOk_put _ (oOk_put _ (oOk_put _ (oOk_put _ oOk_e k3) k5) k7) k26) c27
theorem k28 : EntOk CC e28 := checkE_ok good oOk_e c28
theorem k29 : EntOk CC e29 := checkE_ok good (oOk_put _ oOk_e k28) c29
theorem k30 : EntOk CC e30 := checkE_ok good oOk_e c30
theorem k31 : EntOk CC e31 := checkE_ok good (oOk_put _ oOk_e k30) c31
theorem k32 : EntOk CC e32 := checkE_ok good oOk_e c32
theorem k33 : EntOk CC e33 := checkE_ok good oOk_e c33
theorem k34 : EntOk CC e34 := checkE_ok good oOk_e c34
theorem k35 : EntOk CC e35 := checkE_ok good (oOk_put _ (oOk_put _ (oOk_put _ oOk_e k32) k33) k34) c35
theorem k36 : EntOk CC e36 := checkE_ok good oOk_e c36
theorem k37 : EntOk CC e37 := checkE_ok good (oOk_put _ oOk_e k36) c37
theorem k38 : EntOk CC e38 := checkE_ok good (oOk_put _ (oOk_put _ oOk_e k35) k37) c38
theorem k39 : EntOk CC e39 := checkE_ok good (oOk_put _ oOk_e k38) c39
theorem k40 : EntOk CC e40 := checkE_ok good (oOk_put _ (oOk_put _ (oOk_put _ oOk_e k29) k31) k39) c40
theorem k41 : EntOk CC e41 := checkE_ok good (oOk_put _ oOk_e k40) c41
theorem k42 : EntOk CC e42 := checkE_ok good (oOk_put _ (oOk_put _ oOk_e k27) k41) c42
theorem k43 : EntOk CC e43 := checkE_ok good oOk_e c43
theorem k44 : EntOk CC e44 := checkE_ok good oOk_e c44
theorem k45 : EntOk CC e45 := checkE_ok good (oOk_put _ oOk_e k44) c45
theorem k46 : EntOk CC e46 := checkE_ok good (oOk_put _ (oOk_put _ oOk_e k43) k45) c46
theorem k47 : EntOk CC e47 := checkE_ok good (oOk_put _ oOk_e k46) c47
theorem k48 : EntOk CC e48 := checkE_ok good (oOk_put _ oOk_e k47) c48
theorem k49 : EntOk CC e49 := checkE_ok good (oOk_put _ (oOk_put _ oOk_e k42) k48) c49
theorem k50 : EntOk CC e50 := checkE_ok good oOk_e c50
theorem k51 : EntOk CC e51 := checkE_ok good (oOk_put _ oOk_e k50) c51
theorem k52 : EntOk CC e52 := checkE_ok good (oOk_put _ oOk_e k51) c52
theorem k53 : EntOk CC e53 := checkE_ok good (oOk_put _ oOk_e k52) c53
theorem k54 : EntOk CC e54 := checkE_ok good oOk_e c54
theorem k55 : EntOk CC e55 := checkE_ok good (oOk_put _ oOk_e k54) c55
theorem k56 : EntOk CC e56 := checkE_ok good oOk_e c56
theorem k57 : EntOk CC e57 := checkE_ok good (oOk_put _ oOk_e k56) c57
theorem k58 : EntOk CC e58 := checkE_ok good oOk_e c58
theorem k59 : EntOk CC e59 := checkE_ok good oOk_e c59
theorem k60 : EntOk CC e60 := checkE_ok good oOk_e c60
theorem k61 : EntOk CC e61 := checkE_ok good (oOk_put _ oOk_e k60) c61
theorem k62 : EntOk CC e62 := checkE_ok good oOk_e c62
theorem k63 : EntOk CC e63 := checkE_ok good (oOk_put _ oOk_e k62) c63
theorem k64 : EntOk CC e64 := checkE_ok good oOk_e c64
theorem k65 : EntOk CC e65 := checkE_ok good oOk_e c65
theorem k66 : EntOk CC e66 := checkE_ok good (oOk_put _ oOk_e k65) c66
theorem k67 : EntOk CC e67 := checkE_ok good (oOk_put _ oOk_e k66) c67
theorem k68 : EntOk CC e68 := checkE_ok good (oOk_put _ (oOk_put _ oOk_e k64) k67) c68
theorem k69 : EntOk CC e69 := checkE_ok good oOk_e c69
theorem k70 : EntOk CC e70 := checkE_ok good oOk_e c70
theorem k71 : EntOk CC e71 := checkE_ok good oOk_e c71
theorem k72 : EntOk CC e72 := checkE_ok good (oOk_put _ oOk_e k71) c72
theorem k73 : EntOk CC e73 := checkE_ok good oOk_e c73
theorem k74 : EntOk CC e74 := checkE_ok good (oOk_put _ oOk_e k73) c74
theorem k75 : EntOk CC e75 := checkE_ok good (oOk_put _ oOk_e k74) c75
theorem k76 : EntOk CC e76 := checkE_ok good (oOk_put _ (oOk_put _ (oOk_put _ (oOk_put _ (oOk_put _ (oOk_put _ (oOk_put _ (oOk_put _ (oOk_put _ oOk_e k58) k59) k61) k63) k68) k69) k70) k72) k75) c76
theorem k77 : EntOk CC e77 := checkE_ok good (oOk_put _ (oOk_put _ (oOk_put _ (oOk_put _ oOk_e k53) k55) k57) k76) c77
theorem k78 : EntOk CC e78 := checkE_ok good oOk_e c78
theorem k79 : EntOk CC e79 := checkE_ok good (oOk_put _ oOk_e k78) c79
theorem k80 : EntOk CC e80 := checkE_ok good oOk_e c80
theorem k81 : EntOk CC e81 := checkE_ok good (oOk_put _ oOk_e k80) c81
theorem k82 : EntOk CC e82 := checkE_ok good oOk_e c82
theorem k83 : EntOk CC e83 := checkE_ok good oOk_e c83
theorem k84 : EntOk CC e84 := checkE_ok good oOk_e c84
theorem k85 : EntOk CC e85 := checkE_ok good (oOk_put _ (oOk_put _ (oOk_put _ oOk_e k82) k83) k84) c85
theorem k86 : EntOk CC e86 := checkE_ok good oOk_e c86
theorem k87 : EntOk CC e87 := checkE_ok good (oOk_put _ oOk_e k86) c87
theorem k88 : EntOk CC e88 := checkE_ok good (oOk_put _ (oOk_put _ oOk_e k85) k87) c88
theorem k89 : EntOk CC e89 := checkE_ok good (oOk_put _ oOk_e k88) c89
theorem k90 : EntOk CC e90 := checkE_ok good (oOk_put _ (oOk_put _ (oOk_put _ oOk_e k79) k81) k89) c90
theorem k91 : EntOk CC e91 := checkE_ok good (oOk_put _ oOk_e k90) c91
theorem k92 : EntOk CC e92 := checkE_ok good (oOk_put _ (oOk_put _ oOk_e k77) k91) c92
theorem k93 : EntOk CC e93 := checkE_ok good oOk_e c93
theorem k94 : EntOk CC e94 := checkE_ok good (oOk_put _ oOk_e k93) c94
theorem k95 : EntOk CC e95 := checkE_ok good oOk_e c95
theorem k96 : EntOk CC e96 := checkE_ok good oOk_e c96
theorem k97 : EntOk CC e97 := checkE_ok good (oOk_put _ oOk_e k96) c97
theorem k98 : EntOk CC e98 := checkE_ok good (oOk_put _ (oOk_put _ oOk_e k95) k97) c98
theorem k99 : EntOk CC e99 := checkE_ok good (oOk_put _ oOk_e k98) c99
theorem k100 : EntOk CC e100 := checkE_ok good (oOk_put _ oOk_e k99) c100
theorem k101 : EntOk CC e101 := checkE_ok good (oOk_put _ oOk_e k100) c101
theorem k102 : EntOk CC e102 := checkE_ok good oOk_e c102
theorem k103 : EntOk CC e103 := checkE_ok good (oOk_put _ oOk_e k102) c103
theorem k104 : EntOk CC e104 := checkE_ok good (oOk_put _ oOk_e k103) c104
theorem k105 : EntOk CC e105 := checkE_ok good (oOk_put _ (oOk_put _ (oOk_put _ oOk_e k94) k101) k104) c105
theorem run_ok (w : World) : Calls CC.P 3 #[] w (fun e w' => e = .returned (.bool true) ∧ Go.RowKit.Below w.heap.size w w') := top_ok (fun _ => rfl) good (oOk_put _ (oOk_put _ (oOk_put _ oOk_e k49) k92) k105) cw w
end Go.Ax.K
