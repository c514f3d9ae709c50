/- Nets, cells, flags: what the functions do (part 3). -/
import Derived.Test.YtinehcdadfajmaaGreatDoorNetB
import Derived.ChangeSlices
import Derived.ChangeArms
import Derived.ChangeSame
set_option linter.defProp false
set_option linter.unusedVariables false
set_option linter.unusedSimpArgs false
section
/- bits, flag: what fits. -/
set_option maxHeartbeats 4000000

set_option linter.unusedVariables false
namespace Go.Ab
open Go.Proofs
set_option maxRecDepth 10000
set_option linter.defProp false
def Tryz.FFt1412 := And.intro Tryz.a1 <| And.intro Tryz.s1 <| And.intro Tryz.z1 <| And.intro Tryz.n1 <| And.intro Tryz.u2 <| And.intro Tryz.a2 <| And.intro Tryz.s2 <| And.intro Tryz.z2 <| And.intro Tryz.i2 <| And.intro Tryz.u3 <| And.intro Tryz.a3 <| And.intro Tryz.s3 <| And.intro Tryz.z3 <| And.intro Tryz.i3 <| And.intro Tryz.u4 <| And.intro Tryz.a4 <| And.intro Tryz.s4 <| And.intro Tryz.z4 <| And.intro Tryz.n4 <| And.intro Tryz.u30 <| And.intro Tryz.a30 <| And.intro Tryz.s30 <| And.intro Tryz.z30 <| And.intro Tryz.q30 <| And.intro Tryz.i30 <| And.intro Tryz.n30 <| And.intro Tryz.u35 <| And.intro Tryz.a35 <| And.intro Tryz.s35 <| And.intro Tryz.z35 <| And.intro Tryz.q35 <| And.intro Tryz.n35 <| And.intro Tryz.a97 <| And.intro Tryz.s97 <| And.intro Tryz.z97 <| And.intro Tryz.i97 <| And.intro Tryz.n97 <| And.intro Tryz.p97 <| And.intro Tryz.ff97 <| Tryz.d97
def Tryz.FFt1415 := And.intro Tryz.a1 <| And.intro Tryz.s1 <| And.intro Tryz.z1 <| And.intro Tryz.n1 <| And.intro Tryz.u2 <| And.intro Tryz.a2 <| And.intro Tryz.s2 <| And.intro Tryz.z2 <| And.intro Tryz.i2 <| And.intro Tryz.u3 <| And.intro Tryz.a3 <| And.intro Tryz.s3 <| And.intro Tryz.z3 <| And.intro Tryz.i3 <| And.intro Tryz.u4 <| And.intro Tryz.a4 <| And.intro Tryz.s4 <| And.intro Tryz.z4 <| And.intro Tryz.n4 <| And.intro Tryz.u30 <| And.intro Tryz.a30 <| And.intro Tryz.s30 <| And.intro Tryz.z30 <| And.intro Tryz.q30 <| And.intro Tryz.i30 <| And.intro Tryz.n30 <| And.intro Tryz.u35 <| And.intro Tryz.a35 <| And.intro Tryz.s35 <| And.intro Tryz.z35 <| And.intro Tryz.q35 <| And.intro Tryz.n35 <| And.intro Tryz.a97 <| And.intro Tryz.s97 <| And.intro Tryz.z97 <| And.intro Tryz.i97 <| And.intro Tryz.n97 <| And.intro Tryz.p97 <| And.intro Tryz.ff97 <| Tryz.d97
def Tryz.FFt1456 := And.intro Tryz.a1 <| And.intro Tryz.s1 <| And.intro Tryz.z1 <| And.intro Tryz.n1 <| And.intro Tryz.u2 <| And.intro Tryz.a2 <| And.intro Tryz.s2 <| And.intro Tryz.z2 <| And.intro Tryz.i2 <| And.intro Tryz.u3 <| And.intro Tryz.a3 <| And.intro Tryz.s3 <| And.intro Tryz.z3 <| And.intro Tryz.i3 <| And.intro Tryz.u4 <| And.intro Tryz.a4 <| And.intro Tryz.s4 <| And.intro Tryz.z4 <| And.intro Tryz.n4 <| And.intro Tryz.u25 <| And.intro Tryz.a25 <| And.intro Tryz.s25 <| And.intro Tryz.z25 <| And.intro Tryz.q25 <| And.intro Tryz.n25 <| And.intro Tryz.u26 <| And.intro Tryz.a26 <| And.intro Tryz.s26 <| And.intro Tryz.z26 <| And.intro Tryz.q26 <| And.intro Tryz.n26 <| And.intro Tryz.a28 <| And.intro Tryz.s28 <| And.intro Tryz.z28 <| And.intro Tryz.i28 <| And.intro Tryz.n28 <| And.intro Tryz.p28 <| And.intro Tryz.ff28 <| And.intro Tryz.d28 <| And.intro Tryz.u29 <| And.intro Tryz.a29 <| And.intro Tryz.s29 <| And.intro Tryz.z29 <| And.intro Tryz.q29 <| And.intro Tryz.i29 <| And.intro Tryz.n29 <| And.intro Tryz.u35 <| And.intro Tryz.a35 <| And.intro Tryz.s35 <| And.intro Tryz.z35 <| And.intro Tryz.q35 <| And.intro Tryz.n35 <| And.intro Tryz.a60 <| And.intro Tryz.s60 <| And.intro Tryz.z60 <| And.intro Tryz.i60 <| And.intro Tryz.n60 <| And.intro Tryz.p60 <| And.intro Tryz.ff60 <| And.intro Tryz.d60 <| And.intro Tryz.u150 <| And.intro Tryz.a150 <| And.intro Tryz.s150 <| And.intro Tryz.z150 <| And.intro Tryz.q150 <| And.intro Tryz.n150 <| And.intro Tryz.a152 <| And.intro Tryz.s152 <| And.intro Tryz.z152 <| And.intro Tryz.i152 <| And.intro Tryz.n152 <| And.intro Tryz.p152 <| And.intro Tryz.ff152 <| Tryz.d152
def Tryz.FFt1452 := And.intro Tryz.a1 <| And.intro Tryz.s1 <| And.intro Tryz.z1 <| And.intro Tryz.n1 <| And.intro Tryz.u2 <| And.intro Tryz.a2 <| And.intro Tryz.s2 <| And.intro Tryz.z2 <| And.intro Tryz.i2 <| And.intro Tryz.u3 <| And.intro Tryz.a3 <| And.intro Tryz.s3 <| And.intro Tryz.z3 <| And.intro Tryz.i3 <| And.intro Tryz.u4 <| And.intro Tryz.a4 <| And.intro Tryz.s4 <| And.intro Tryz.z4 <| And.intro Tryz.n4 <| And.intro Tryz.u25 <| And.intro Tryz.a25 <| And.intro Tryz.s25 <| And.intro Tryz.z25 <| And.intro Tryz.q25 <| And.intro Tryz.n25 <| And.intro Tryz.u26 <| And.intro Tryz.a26 <| And.intro Tryz.s26 <| And.intro Tryz.z26 <| And.intro Tryz.q26 <| And.intro Tryz.n26 <| And.intro Tryz.a28 <| And.intro Tryz.s28 <| And.intro Tryz.z28 <| And.intro Tryz.i28 <| And.intro Tryz.n28 <| And.intro Tryz.p28 <| And.intro Tryz.ff28 <| And.intro Tryz.d28 <| And.intro Tryz.u29 <| And.intro Tryz.a29 <| And.intro Tryz.s29 <| And.intro Tryz.z29 <| And.intro Tryz.q29 <| And.intro Tryz.i29 <| And.intro Tryz.n29 <| And.intro Tryz.u35 <| And.intro Tryz.a35 <| And.intro Tryz.s35 <| And.intro Tryz.z35 <| And.intro Tryz.q35 <| And.intro Tryz.n35 <| And.intro Tryz.a60 <| And.intro Tryz.s60 <| And.intro Tryz.z60 <| And.intro Tryz.i60 <| And.intro Tryz.n60 <| And.intro Tryz.p60 <| And.intro Tryz.ff60 <| And.intro Tryz.d60 <| And.intro Tryz.u150 <| And.intro Tryz.a150 <| And.intro Tryz.s150 <| And.intro Tryz.z150 <| And.intro Tryz.q150 <| And.intro Tryz.n150 <| And.intro Tryz.a152 <| And.intro Tryz.s152 <| And.intro Tryz.z152 <| And.intro Tryz.i152 <| And.intro Tryz.n152 <| And.intro Tryz.p152 <| And.intro Tryz.ff152 <| Tryz.d152
def Tryz.FFt1450 := And.intro Tryz.a1 <| And.intro Tryz.s1 <| And.intro Tryz.z1 <| And.intro Tryz.n1 <| And.intro Tryz.u2 <| And.intro Tryz.a2 <| And.intro Tryz.s2 <| And.intro Tryz.z2 <| And.intro Tryz.i2 <| And.intro Tryz.u3 <| And.intro Tryz.a3 <| And.intro Tryz.s3 <| And.intro Tryz.z3 <| And.intro Tryz.i3 <| And.intro Tryz.u4 <| And.intro Tryz.a4 <| And.intro Tryz.s4 <| And.intro Tryz.z4 <| And.intro Tryz.n4 <| And.intro Tryz.u5 <| And.intro Tryz.a5 <| And.intro Tryz.s5 <| And.intro Tryz.z5 <| And.intro Tryz.i5 <| And.intro Tryz.u22 <| And.intro Tryz.a22 <| And.intro Tryz.s22 <| And.intro Tryz.z22 <| And.intro Tryz.q22 <| And.intro Tryz.n22 <| And.intro Tryz.u37 <| And.intro Tryz.a37 <| And.intro Tryz.s37 <| And.intro Tryz.z37 <| And.intro Tryz.q37 <| And.intro Tryz.i37 <| And.intro Tryz.n37 <| And.intro Tryz.a99 <| And.intro Tryz.s99 <| And.intro Tryz.z99 <| And.intro Tryz.i99 <| And.intro Tryz.n99 <| And.intro Tryz.p99 <| And.intro Tryz.ff99 <| Tryz.d99
def Tryz.FFt1451 := And.intro Tryz.a1 <| And.intro Tryz.s1 <| And.intro Tryz.z1 <| And.intro Tryz.n1 <| And.intro Tryz.u2 <| And.intro Tryz.a2 <| And.intro Tryz.s2 <| And.intro Tryz.z2 <| And.intro Tryz.i2 <| And.intro Tryz.u3 <| And.intro Tryz.a3 <| And.intro Tryz.s3 <| And.intro Tryz.z3 <| And.intro Tryz.i3 <| And.intro Tryz.u4 <| And.intro Tryz.a4 <| And.intro Tryz.s4 <| And.intro Tryz.z4 <| And.intro Tryz.n4 <| And.intro Tryz.u5 <| And.intro Tryz.a5 <| And.intro Tryz.s5 <| And.intro Tryz.z5 <| And.intro Tryz.i5 <| And.intro Tryz.u22 <| And.intro Tryz.a22 <| And.intro Tryz.s22 <| And.intro Tryz.z22 <| And.intro Tryz.q22 <| And.intro Tryz.n22 <| And.intro Tryz.u37 <| And.intro Tryz.a37 <| And.intro Tryz.s37 <| And.intro Tryz.z37 <| And.intro Tryz.q37 <| And.intro Tryz.i37 <| And.intro Tryz.n37 <| And.intro Tryz.a99 <| And.intro Tryz.s99 <| And.intro Tryz.z99 <| And.intro Tryz.i99 <| And.intro Tryz.n99 <| And.intro Tryz.p99 <| And.intro Tryz.ff99 <| Tryz.d99
def Tryz.FFt1448 := And.intro Tryz.a1 <| And.intro Tryz.s1 <| And.intro Tryz.z1 <| And.intro Tryz.n1 <| And.intro Tryz.u2 <| And.intro Tryz.a2 <| And.intro Tryz.s2 <| And.intro Tryz.z2 <| And.intro Tryz.i2 <| And.intro Tryz.u3 <| And.intro Tryz.a3 <| And.intro Tryz.s3 <| And.intro Tryz.z3 <| And.intro Tryz.i3 <| And.intro Tryz.u4 <| And.intro Tryz.a4 <| And.intro Tryz.s4 <| And.intro Tryz.z4 <| And.intro Tryz.n4 <| And.intro Tryz.u5 <| And.intro Tryz.a5 <| And.intro Tryz.s5 <| And.intro Tryz.z5 <| And.intro Tryz.i5 <| And.intro Tryz.u6 <| And.intro Tryz.a6 <| And.intro Tryz.s6 <| And.intro Tryz.z6 <| And.intro Tryz.i6 <| And.intro Tryz.a7 <| And.intro Tryz.s7 <| And.intro Tryz.z7 <| And.intro Tryz.i7 <| And.intro Tryz.n7 <| And.intro Tryz.p7 <| And.intro Tryz.ff7 <| And.intro Tryz.d7 <| And.intro Tryz.u91 <| And.intro Tryz.a91 <| And.intro Tryz.s91 <| And.intro Tryz.z91 <| And.intro Tryz.q91 <| Tryz.n91
def Tryz.FFt1449 := And.intro Tryz.a1 <| And.intro Tryz.s1 <| And.intro Tryz.z1 <| And.intro Tryz.n1 <| And.intro Tryz.u3 <| And.intro Tryz.a3 <| And.intro Tryz.s3 <| And.intro Tryz.z3 <| And.intro Tryz.i3 <| And.intro Tryz.u4 <| And.intro Tryz.a4 <| And.intro Tryz.s4 <| And.intro Tryz.z4 <| And.intro Tryz.n4 <| And.intro Tryz.a28 <| And.intro Tryz.s28 <| And.intro Tryz.z28 <| And.intro Tryz.i28 <| And.intro Tryz.n28 <| And.intro Tryz.p28 <| And.intro Tryz.ff28 <| And.intro Tryz.d28 <| And.intro Tryz.u29 <| And.intro Tryz.a29 <| And.intro Tryz.s29 <| And.intro Tryz.z29 <| And.intro Tryz.q29 <| And.intro Tryz.i29 <| And.intro Tryz.n29 <| And.intro Tryz.u30 <| And.intro Tryz.a30 <| And.intro Tryz.s30 <| And.intro Tryz.z30 <| And.intro Tryz.q30 <| And.intro Tryz.i30 <| And.intro Tryz.n30 <| And.intro Tryz.u35 <| And.intro Tryz.a35 <| And.intro Tryz.s35 <| And.intro Tryz.z35 <| And.intro Tryz.q35 <| And.intro Tryz.n35 <| And.intro Tryz.a97 <| And.intro Tryz.s97 <| And.intro Tryz.z97 <| And.intro Tryz.i97 <| And.intro Tryz.n97 <| And.intro Tryz.p97 <| And.intro Tryz.ff97 <| And.intro Tryz.d97 <| And.intro Tryz.u150 <| And.intro Tryz.a150 <| And.intro Tryz.s150 <| And.intro Tryz.z150 <| And.intro Tryz.q150 <| And.intro Tryz.n150 <| And.intro Tryz.a152 <| And.intro Tryz.s152 <| And.intro Tryz.z152 <| And.intro Tryz.i152 <| And.intro Tryz.n152 <| And.intro Tryz.p152 <| And.intro Tryz.ff152 <| Tryz.d152
def Tryz.FFt1416 := And.intro Tryz.a1 <| And.intro Tryz.s1 <| And.intro Tryz.z1 <| And.intro Tryz.n1 <| And.intro Tryz.u2 <| And.intro Tryz.a2 <| And.intro Tryz.s2 <| And.intro Tryz.z2 <| And.intro Tryz.i2 <| And.intro Tryz.u3 <| And.intro Tryz.a3 <| And.intro Tryz.s3 <| And.intro Tryz.z3 <| And.intro Tryz.i3 <| And.intro Tryz.u4 <| And.intro Tryz.a4 <| And.intro Tryz.s4 <| And.intro Tryz.z4 <| And.intro Tryz.n4 <| And.intro Tryz.u5 <| And.intro Tryz.a5 <| And.intro Tryz.s5 <| And.intro Tryz.z5 <| And.intro Tryz.i5 <| And.intro Tryz.u6 <| And.intro Tryz.a6 <| And.intro Tryz.s6 <| And.intro Tryz.z6 <| And.intro Tryz.i6 <| And.intro Tryz.a7 <| And.intro Tryz.s7 <| And.intro Tryz.z7 <| And.intro Tryz.i7 <| And.intro Tryz.n7 <| And.intro Tryz.p7 <| And.intro Tryz.ff7 <| And.intro Tryz.d7 <| And.intro Tryz.a8 <| And.intro Tryz.s8 <| And.intro Tryz.z8 <| And.intro Tryz.i8 <| And.intro Tryz.n8 <| And.intro Tryz.p8 <| And.intro Tryz.ff8 <| And.intro Tryz.d8 <| And.intro Tryz.u9 <| And.intro Tryz.a9 <| And.intro Tryz.s9 <| And.intro Tryz.z9 <| And.intro Tryz.n9 <| And.intro Tryz.u10 <| And.intro Tryz.a10 <| And.intro Tryz.s10 <| And.intro Tryz.z10 <| And.intro Tryz.n10 <| And.intro Tryz.u11 <| And.intro Tryz.a11 <| And.intro Tryz.s11 <| And.intro Tryz.z11 <| And.intro Tryz.n11 <| And.intro Tryz.u22 <| And.intro Tryz.a22 <| And.intro Tryz.s22 <| And.intro Tryz.z22 <| And.intro Tryz.q22 <| And.intro Tryz.n22 <| And.intro Tryz.u26 <| And.intro Tryz.a26 <| And.intro Tryz.s26 <| And.intro Tryz.z26 <| And.intro Tryz.q26 <| And.intro Tryz.n26 <| And.intro Tryz.a28 <| And.intro Tryz.s28 <| And.intro Tryz.z28 <| And.intro Tryz.i28 <| And.intro Tryz.n28 <| And.intro Tryz.p28 <| And.intro Tryz.ff28 <| And.intro Tryz.d28 <| And.intro Tryz.u29 <| And.intro Tryz.a29 <| And.intro Tryz.s29 <| And.intro Tryz.z29 <| And.intro Tryz.q29 <| And.intro Tryz.i29 <| And.intro Tryz.n29 <| And.intro Tryz.u30 <| And.intro Tryz.a30 <| And.intro Tryz.s30 <| And.intro Tryz.z30 <| And.intro Tryz.q30 <| And.intro Tryz.i30 <| And.intro Tryz.n30 <| And.intro Tryz.u35 <| And.intro Tryz.a35 <| And.intro Tryz.s35 <| And.intro Tryz.z35 <| And.intro Tryz.q35 <| And.intro Tryz.n35 <| And.intro Tryz.u37 <| And.intro Tryz.a37 <| And.intro Tryz.s37 <| And.intro Tryz.z37 <| And.intro Tryz.q37 <| And.intro Tryz.i37 <| And.intro Tryz.n37 <| And.intro Tryz.a60 <| And.intro Tryz.s60 <| And.intro Tryz.z60 <| And.intro Tryz.i60 <| And.intro Tryz.n60 <| And.intro Tryz.p60 <| And.intro Tryz.ff60 <| And.intro Tryz.d60 <| And.intro Tryz.a97 <| And.intro Tryz.s97 <| And.intro Tryz.z97 <| And.intro Tryz.i97 <| And.intro Tryz.n97 <| And.intro Tryz.p97 <| And.intro Tryz.ff97 <| And.intro Tryz.d97 <| And.intro Tryz.a99 <| And.intro Tryz.s99 <| And.intro Tryz.z99 <| And.intro Tryz.i99 <| And.intro Tryz.n99 <| And.intro Tryz.p99 <| And.intro Tryz.ff99 <| And.intro Tryz.d99 <| And.intro Tryz.a103 <| And.intro Tryz.s103 <| And.intro Tryz.z103 <| And.intro Tryz.n103 <| And.intro Tryz.u150 <| And.intro Tryz.a150 <| And.intro Tryz.s150 <| And.intro Tryz.z150 <| And.intro Tryz.q150 <| And.intro Tryz.n150 <| And.intro Tryz.a152 <| And.intro Tryz.s152 <| And.intro Tryz.z152 <| And.intro Tryz.i152 <| And.intro Tryz.n152 <| And.intro Tryz.p152 <| And.intro Tryz.ff152 <| Tryz.d152
def Tryz.FFt1414 := And.intro Tryz.a1 <| And.intro Tryz.s1 <| And.intro Tryz.z1 <| And.intro Tryz.n1 <| And.intro Tryz.u2 <| And.intro Tryz.a2 <| And.intro Tryz.s2 <| And.intro Tryz.z2 <| And.intro Tryz.i2 <| And.intro Tryz.u3 <| And.intro Tryz.a3 <| And.intro Tryz.s3 <| And.intro Tryz.z3 <| And.intro Tryz.i3 <| And.intro Tryz.u4 <| And.intro Tryz.a4 <| And.intro Tryz.s4 <| And.intro Tryz.z4 <| And.intro Tryz.n4 <| And.intro Tryz.u22 <| And.intro Tryz.a22 <| And.intro Tryz.s22 <| And.intro Tryz.z22 <| And.intro Tryz.q22 <| And.intro Tryz.n22 <| And.intro Tryz.a28 <| And.intro Tryz.s28 <| And.intro Tryz.z28 <| And.intro Tryz.i28 <| And.intro Tryz.n28 <| And.intro Tryz.p28 <| And.intro Tryz.ff28 <| And.intro Tryz.d28 <| And.intro Tryz.u29 <| And.intro Tryz.a29 <| And.intro Tryz.s29 <| And.intro Tryz.z29 <| And.intro Tryz.q29 <| And.intro Tryz.i29 <| And.intro Tryz.n29 <| And.intro Tryz.u30 <| And.intro Tryz.a30 <| And.intro Tryz.s30 <| And.intro Tryz.z30 <| And.intro Tryz.q30 <| And.intro Tryz.i30 <| And.intro Tryz.n30 <| And.intro Tryz.u35 <| And.intro Tryz.a35 <| And.intro Tryz.s35 <| And.intro Tryz.z35 <| And.intro Tryz.q35 <| And.intro Tryz.n35 <| And.intro Tryz.u37 <| And.intro Tryz.a37 <| And.intro Tryz.s37 <| And.intro Tryz.z37 <| And.intro Tryz.q37 <| And.intro Tryz.i37 <| And.intro Tryz.n37 <| And.intro Tryz.u91 <| And.intro Tryz.a91 <| And.intro Tryz.s91 <| And.intro Tryz.z91 <| And.intro Tryz.q91 <| And.intro Tryz.n91 <| And.intro Tryz.a97 <| And.intro Tryz.s97 <| And.intro Tryz.z97 <| And.intro Tryz.i97 <| And.intro Tryz.n97 <| And.intro Tryz.p97 <| And.intro Tryz.ff97 <| And.intro Tryz.d97 <| And.intro Tryz.a99 <| And.intro Tryz.s99 <| And.intro Tryz.z99 <| And.intro Tryz.i99 <| And.intro Tryz.n99 <| And.intro Tryz.p99 <| And.intro Tryz.ff99 <| And.intro Tryz.d99 <| And.intro Tryz.u150 <| And.intro Tryz.a150 <| And.intro Tryz.s150 <| And.intro Tryz.z150 <| And.intro Tryz.q150 <| And.intro Tryz.n150 <| And.intro Tryz.a152 <| And.intro Tryz.s152 <| And.intro Tryz.z152 <| And.intro Tryz.i152 <| And.intro Tryz.n152 <| And.intro Tryz.p152 <| And.intro Tryz.ff152 <| Tryz.d152
def Tryz.FFt1413 := And.intro Tryz.a1 <| And.intro Tryz.s1 <| And.intro Tryz.z1 <| And.intro Tryz.n1 <| And.intro Tryz.u2 <| And.intro Tryz.a2 <| And.intro Tryz.s2 <| And.intro Tryz.z2 <| And.intro Tryz.i2 <| And.intro Tryz.u3 <| And.intro Tryz.a3 <| And.intro Tryz.s3 <| And.intro Tryz.z3 <| And.intro Tryz.i3 <| And.intro Tryz.u4 <| And.intro Tryz.a4 <| And.intro Tryz.s4 <| And.intro Tryz.z4 <| And.intro Tryz.n4 <| And.intro Tryz.u5 <| And.intro Tryz.a5 <| And.intro Tryz.s5 <| And.intro Tryz.z5 <| And.intro Tryz.i5 <| And.intro Tryz.u6 <| And.intro Tryz.a6 <| And.intro Tryz.s6 <| And.intro Tryz.z6 <| And.intro Tryz.i6 <| And.intro Tryz.u22 <| And.intro Tryz.a22 <| And.intro Tryz.s22 <| And.intro Tryz.z22 <| And.intro Tryz.q22 <| And.intro Tryz.n22 <| And.intro Tryz.u37 <| And.intro Tryz.a37 <| And.intro Tryz.s37 <| And.intro Tryz.z37 <| And.intro Tryz.q37 <| And.intro Tryz.i37 <| And.intro Tryz.n37 <| And.intro Tryz.a99 <| And.intro Tryz.s99 <| And.intro Tryz.z99 <| And.intro Tryz.i99 <| And.intro Tryz.n99 <| And.intro Tryz.p99 <| And.intro Tryz.ff99 <| Tryz.d99
/-- Cells or nothing: their map, their number. -/
def CellsOr (h : Hp) (p : Value) (m : List Int) (n : Int) : Prop := (p = .pointer none ∧ m = [] ∧ n = 0) ∨ ((∃ k, CellsAt h k p m) ∧ n = lmax m + 1)
theorem CellsOr.gr {h h' : Hp} {p : Value} {m : List Int} {n : Int} (g : Gr h h') (c : CellsOr h p m n) : CellsOr h' p m n := c.imp (fun h => h) (fun ⟨⟨k, h⟩, e⟩ => ⟨⟨k, h.gr g⟩, e⟩)
theorem map_ok {h0 : Hp} (ok : h0.t.Sized h0.n) {p : Value} {m : List Int} {n : Int} (c : CellsOr h0 p m n) (hl : m.length < 1000000) : Ret Tryz.abEnv 12 [p] h0 fun r h' => Gr h0 h' ∧ SlAt h' 1 (encI .i64) r m := by
  have S := St.init (M := NoM) ok
  rcases c with ⟨rfl, rfl, rfl⟩ | ⟨⟨_, b, v, rfl, r, s, _, _⟩, rfl⟩
  · refine enter_ret (n := 10) (rs := [.tmp 2]) rfl Tryz.e12 rfl rfl rfl (Nat.le_of_ble_eq_true rfl) ?_
    simp only [BS, tupleOf, Nat.reduceLT, Nat.reduceEqDiff, if_true, if_false, eq_self, Tryz.FFt1412]
    exact ⟨S.gr, .inl ⟨rfl, rfl⟩⟩
  · have l0 := r.load1 (o := 0) rfl
    refine enter_ret (n := 10) (rs := [.tmp 2]) rfl Tryz.e12 rfl rfl rfl (Nat.le_of_ble_eq_true rfl) ?_
    simp only [BS, Nat.add_zero, Nat.reduceLT, Nat.reduceEqDiff, if_true, if_false, List.map_cons, List.map_nil, List.append_nil, List.nil_append, eq_self, Tryz.FFt1412, l0]
    refine step_ret (cloneInt_ok S.ok s hl) ?_; intro v h ⟨g, sl, _⟩; replace S := S.call g; clear g
    simp only [BS, tupleOf, Nat.reduceLT, Nat.reduceEqDiff, if_true, if_false, eq_self]
    exact ⟨S.gr, sl⟩
theorem many_ok {h0 : Hp} (ok : h0.t.Sized h0.n) {p : Value} {m : List Int} {n : Int} (c : CellsOr h0 p m n) : Pure Tryz.abEnv 15 [p] h0 (.int .i64 n) := by
  have S := St.init (M := NoM) ok
  rcases c with ⟨rfl, rfl, rfl⟩ | ⟨⟨_, b, v, rfl, r, s, _, _⟩, rfl⟩
  · refine enter_ret (n := 9) (rs := [.tmp 2]) rfl Tryz.e15 rfl rfl rfl (Nat.le_of_ble_eq_true rfl) ?_
    simp only [BS, tupleOf, Nat.reduceLT, Nat.reduceEqDiff, if_true, if_false, true_and, eq_self, Tryz.FFt1415]
    exact S.gr
  · have l0 := r.load1 (o := 1) rfl
    refine enter_ret (n := 9) (rs := [.tmp 2]) rfl Tryz.e15 rfl rfl rfl (Nat.le_of_ble_eq_true rfl) ?_
    simp only [BS, tupleOf, Nat.reduceLT, Nat.reduceEqDiff, if_true, if_false, Nat.zero_add, true_and, eq_self, Tryz.FFt1415, l0]
    exact S.gr
theorem netNodes_ok {h0 : Hp} (ok : h0.t.Sized h0.n) {p : Value} {γ : Gra} {nb : Nat} (c : NetAt h0 nb p γ) : Pure Tryz.abEnv 56 [p] h0 (.int .i64 γ.nodes) := by
  have S := St.init (M := NoM) ok
  obtain ⟨b, vx, vy, va, vo, vi, rfl, r, _⟩ := c.ex
  have l0 := r.load1 (o := 0) rfl
  refine enter_ret (n := 10) (rs := [.tmp 2]) rfl Tryz.e56 rfl rfl rfl (Nat.le_of_ble_eq_true rfl) ?_
  simp only [BS, tupleOf, Nat.add_zero, Nat.reduceLT, Nat.reduceEqDiff, if_true, if_false, true_and, eq_self, Tryz.FFt1456, l0]
  exact S.gr
theorem netArcs_ok {h0 : Hp} (ok : h0.t.Sized h0.n) {p : Value} {γ : Gra} {nb : Nat} (c : NetAt h0 nb p γ) : Pure Tryz.abEnv 52 [p] h0 (.int .i64 γ.arcs.length) := by
  have S := St.init (M := NoM) ok
  obtain ⟨b, vx, vy, va, vo, vi, rfl, r, ga, _⟩ := c.ex
  have l0 := r.load1 (o := 3) rfl
  refine enter_ret (n := 11) (rs := [.tmp 2]) rfl Tryz.e52 rfl rfl rfl (Nat.le_of_ble_eq_true rfl) ?_
  simp only [BS, tupleOf, Nat.add_zero, Nat.reduceLT, Nat.reduceEqDiff, if_true, if_false, Nat.zero_add, true_and, eq_self, Tryz.FFt1452, l0, ga.A.lenq]
  exact S.gr
/-- Rows of bits, or nothing. -/
def BitsAt (h : Hp) (p : Value) (a w : Int) (nn : Bool) : Prop := (p = .pointer none ∧ a = 0 ∧ w = 0 ∧ nn = false) ∨ ∃ b x y, p = ptrTo b ∧ Row h b [.int .i64 a, .int .i64 w, x, y] 1 ∧ nn = true
theorem BitsAt.gr {h h' : Hp} {p : Value} {a w : Int} {nn : Bool} (g : Gr h h') (c : BitsAt h p a w nn) : BitsAt h' p a w nn := c.imp (fun h => h) (fun ⟨b, x, y, e, r, n⟩ => ⟨b, x, y, e, r.gr g, n⟩)
theorem bitsRows_ok {h0 : Hp} (ok : h0.t.Sized h0.n) {p : Value} {a w : Int} {nn : Bool} (c : BitsAt h0 p a w nn) : Pure Tryz.abEnv 50 [p] h0 (.int .i64 a) := by
  have S := St.init (M := NoM) ok
  rcases c with ⟨rfl, rfl, rfl, rfl⟩ | ⟨b, x, y, rfl, r, rfl⟩
  · refine enter_ret (n := 9) (rs := [.tmp 2]) rfl Tryz.e50 rfl rfl rfl (Nat.le_of_ble_eq_true rfl) ?_
    simp only [BS, tupleOf, Nat.reduceLT, Nat.reduceEqDiff, if_true, if_false, true_and, eq_self, Tryz.FFt1450]
    exact S.gr
  · have l0 := r.load1 (o := 0) rfl
    refine enter_ret (n := 9) (rs := [.tmp 2]) rfl Tryz.e50 rfl rfl rfl (Nat.le_of_ble_eq_true rfl) ?_
    simp only [BS, tupleOf, Nat.add_zero, Nat.reduceLT, Nat.reduceEqDiff, if_true, if_false, true_and, eq_self, Tryz.FFt1450, l0]
    exact S.gr
theorem bitsWide_ok {h0 : Hp} (ok : h0.t.Sized h0.n) {p : Value} {a w : Int} {nn : Bool} (c : BitsAt h0 p a w nn) : Pure Tryz.abEnv 51 [p] h0 (.int .i64 w) := by
  have S := St.init (M := NoM) ok
  rcases c with ⟨rfl, rfl, rfl, rfl⟩ | ⟨b, x, y, rfl, r, rfl⟩
  · refine enter_ret (n := 9) (rs := [.tmp 2]) rfl Tryz.e51 rfl rfl rfl (Nat.le_of_ble_eq_true rfl) ?_
    simp only [BS, tupleOf, Nat.reduceLT, Nat.reduceEqDiff, if_true, if_false, true_and, eq_self, Tryz.FFt1451]
    exact S.gr
  · have l0 := r.load1 (o := 1) rfl
    refine enter_ret (n := 9) (rs := [.tmp 2]) rfl Tryz.e51 rfl rfl rfl (Nat.le_of_ble_eq_true rfl) ?_
    simp only [BS, tupleOf, Nat.reduceLT, Nat.reduceEqDiff, if_true, if_false, Nat.zero_add, true_and, eq_self, Tryz.FFt1451, l0]
    exact S.gr
theorem allB_ok {h0 : Hp} (ok : h0.t.Sized h0.n) {v : Value} {l : List Bool} (hv : SlAt h0 1 encB v l) (hl : l.length < 1000) : Pure Tryz.abEnv 48 [v] h0 (.bool (l.all id)) := by
  have S := St.init (M := NoM) ok
  refine enter_ret (n := 14) (rs := [.tmp 2]) rfl Tryz.e48 rfl rfl rfl (Nat.le_of_ble_eq_true rfl) ?_
  simp only [BS, Nat.reduceLT, Nat.reduceEqDiff, if_true, if_false, eq_self, Tryz.FFt1448, hv.lenq]
  refine loop_ind (fun (i : Nat) ρ h => i ≤ l.length ∧ (l.take i).all id = true ∧ Gr h0 h ∧ ρ 5 = v ∧ ρ 6 = .int .i64 l.length ∧ ρ 7 = .int .i64 i) (fun i => l.length - i) ?_ 0 _ _ ?_
  · clear S
    intro i ih ρ h ⟨hi, ht, S, r5, r6, r7⟩
    by_cases hlt : i < l.length
    · obtain ⟨c, o, hidx, hld⟩ := (hv.gr S).ix (kd := .i64) encB_len hlt
      have w : wrapI .i64 ((i : Int) + 1) = ((i + 1 : Nat) : Int) := by rw [wrap64] <;> omega
      cases he : l[i] with
      | true =>
        simp only [BS, Nat.reduceLT, Nat.reduceEqDiff, if_true, if_false, Bool.not_true, decide_true, eq_self, Tryz.FFt1448, r5, r6, r7, lt_nat, hlt, hidx, hld, encB, he, w]
        refine ih (i + 1) _ _ (by omega) ⟨by omega, ?_, S, by simp [setR, r5], by simp [setR, r6], by simp [setR]⟩
        rw [List.take_succ_eq_append_getElem hlt, List.all_append, ht, he]; rfl
      | false =>
        have e : l.all id = false := by rw [List.all_eq_false]; exact ⟨_, List.getElem_mem hlt, by simp [he]⟩
        simp only [BS, tupleOf, Nat.reduceLT, Nat.reduceEqDiff, if_true, if_false, Bool.not_false, decide_true, eq_self, Tryz.FFt1448, r5, r6, r7, lt_nat, hlt, hidx, hld, encB, he]
        rw [e]
        exact ⟨rfl, S⟩
    · simp only [BS, tupleOf, Nat.reduceLT, Nat.reduceEqDiff, if_true, if_false, decide_false, eq_self, r6, r7, lt_nat, hlt]
      rw [List.take_of_length_le (by omega)] at ht
      rw [ht]
      exact ⟨rfl, S⟩
  · exact ⟨Nat.zero_le _, rfl, Gr.refl ok, by simp [setR, argR_zero], by simp [setR], by simp [setR]⟩
theorem fits_ok {h0 : Hp} (ok : h0.t.Sized h0.n) {p q : Value} {γ : Gra} {m : List Int} {n : Int} {nb : Nat} (c : NetAt h0 nb p γ) (d : CellsOr h0 q m n) (h1 : 1 ≤ γ.nodes) (hl : m.length < 1000000) : Pure Tryz.abEnv 49 [p, q] h0 (.bool (decide (m.length = γ.nodes))) := by
  have S := St.init (M := NoM) ok
  have hpos : (0 : Int) < (γ.nodes : Int) := by omega
  have hpos' : (γ.nodes : Int) > 0 := hpos
  refine enter_ret (n := 16) (rs := [.tmp 4]) rfl Tryz.e49 rfl rfl rfl (Nat.le_of_ble_eq_true rfl) ?_
  simp only [BS, Nat.reduceLT, Nat.reduceEqDiff, if_true, if_false, List.map_cons, List.map_nil, List.append_nil, List.nil_append, eq_self]
  refine step_pure (netNodes_ok S.ok c) ?_; intro h g; replace S := S.call g; replace c := c.gr g; replace d := d.gr g; clear g
  simp only [BS, Nat.reduceLT, Nat.reduceEqDiff, if_true, if_false, List.map_cons, List.map_nil, List.append_nil, List.nil_append, List.getElem?_cons_zero, List.getElem?_cons_succ, decide_true, eq_self, hpos]
  refine step_ret (map_ok S.ok d hl) ?_; intro v h ⟨g, sl⟩; replace S := S.call g; replace c := c.gr g; replace d := d.gr g; clear g
  simp only [BS, Nat.reduceLT, Nat.reduceEqDiff, if_true, if_false, List.map_cons, List.map_nil, List.append_nil, List.nil_append, List.getElem?_cons_zero, List.getElem?_cons_succ, eq_self, Tryz.FFt1449, sl.lenq]
  refine step_pure (netNodes_ok S.ok c) ?_; intro h g; replace S := S.call g; replace c := c.gr g; replace d := d.gr g; clear g
  simp only [BS, tupleOf, Nat.reduceLT, Nat.reduceEqDiff, if_true, if_false, List.getElem?_cons_zero, List.getElem?_cons_succ, eq_self]
  refine ⟨?_, S.gr⟩
  congr 1
  by_cases h : m.length = γ.nodes
  · simp [h]
  · have : ¬ ((m.length : Int) = (γ.nodes : Int)) := by omega
    simp [h, this]
theorem ofNil_ok {h0 : Hp} (ok : h0.t.Sized h0.n) {p q : Value} {γ : Gra} {m : List Int} {n : Int} {nb : Nat} (c : NetAt h0 nb p γ) (d : CellsOr h0 q m n) (h1 : 1 ≤ γ.nodes) (hl : m.length < 1000000) (hne : m.length ≠ γ.nodes) : Pure Tryz.abEnv 16 [p, q] h0 (.pointer none) := by
  have S := St.init (M := NoM) ok
  refine enter_ret (n := 33) (rs := [.tmp 4]) rfl Tryz.e16 rfl rfl rfl (Nat.le_of_ble_eq_true rfl) ?_
  simp only [BS, Nat.reduceLT, Nat.reduceEqDiff, if_true, if_false, List.map_cons, List.map_nil, List.append_nil, List.nil_append, eq_self]
  refine step_pure (fits_ok S.ok c d h1 hl) ?_; intro h g; replace S := S.call g; replace c := c.gr g; replace d := d.gr g; clear g
  simp only [BS, tupleOf, Nat.reduceLT, Nat.reduceEqDiff, if_true, if_false, true_and, Bool.not_false, decide_false, eq_self, hne]
  exact S.gr
theorem flagFits_ok {h0 : Hp} (ok : h0.t.Sized h0.n) {p q r : Value} {γ : Gra} {m : List Int} {n a w : Int} {nn : Bool} {nb : Nat} (c : NetAt h0 nb p γ) (d : CellsOr h0 q m n) (e : BitsAt h0 r a w nn) (h1 : 1 ≤ γ.nodes) (hl : m.length < 1000000) :
    Pure Tryz.abEnv 14 [p, q, r] h0 (.bool (decide (m.length = γ.nodes) && nn && decide (a = n) && decide (w = γ.arcs.length))) := by
  have S := St.init (M := NoM) ok
  have hb : ∀ E : Env, isPtr E 37 = true → ∀ x y, binP E .neq 37 x y r (.pointer none) = some (.bool nn) := by
    intro E hE x y
    rcases e with ⟨rfl, _, _, rfl⟩ | ⟨b, _, _, rfl, _, rfl⟩
    · exact n_pnil hE
    · exact n_ptr hE
  refine enter_ret (n := 24) (rs := [.tmp 6]) rfl Tryz.e14 rfl rfl rfl (Nat.le_of_ble_eq_true rfl) ?_
  simp only [BS, Nat.reduceLT, Nat.reduceEqDiff, if_true, if_false, List.map_cons, List.map_nil, List.append_nil, List.nil_append, eq_self]
  refine step_pure (fits_ok S.ok c d h1 hl) ?_; intro h g; replace S := S.call g; replace c := c.gr g; replace d := d.gr g; replace e := e.gr g; clear g
  simp only [BS, Nat.reduceLT, Nat.reduceEqDiff, if_true, if_false, List.map_cons, List.map_nil, List.append_nil, List.nil_append, eq_self, hb Tryz.abEnv Tryz.q37]
  refine step_pure (bitsRows_ok S.ok e) ?_; intro h g; replace S := S.call g; replace c := c.gr g; replace d := d.gr g; replace e := e.gr g; clear g
  simp only [BS, Nat.reduceLT, Nat.reduceEqDiff, if_true, if_false, List.map_cons, List.map_nil, List.append_nil, List.nil_append, eq_self]
  refine step_pure (many_ok S.ok d) ?_; intro h g; replace S := S.call g; replace c := c.gr g; replace d := d.gr g; replace e := e.gr g; clear g
  simp only [BS, Nat.reduceLT, Nat.reduceEqDiff, if_true, if_false, List.map_cons, List.map_nil, List.append_nil, List.nil_append, eq_self]
  refine step_pure (bitsWide_ok S.ok e) ?_; intro h g; replace S := S.call g; replace c := c.gr g; replace d := d.gr g; replace e := e.gr g; clear g
  simp only [BS, Nat.reduceLT, Nat.reduceEqDiff, if_true, if_false, List.map_cons, List.map_nil, List.append_nil, List.nil_append, eq_self]
  refine step_pure (netArcs_ok S.ok c) ?_; intro h g; replace S := S.call g; replace c := c.gr g; replace d := d.gr g; replace e := e.gr g; clear g
  simp only [BS, Nat.reduceLT, Nat.reduceEqDiff, if_true, if_false, List.map_cons, List.map_nil, eq_self]
  refine step_newS (bs_new (by first | exact Tryz.u22 | exact Tryz.u35 | exact Tryz.u91 | exact Tryz.u150) (by first | exact Tryz.e3E | exact Tryz.e4E | exact Tryz.e5E | exact Tryz.e35E) (by decide) (by first | rfl | exact fillE )) S ?_; clear S; intro h bs S n_bs; simp only [repL, setL, vcells, List.cons_append, List.nil_append, List.append_nil, List.set_cons_zero, List.set_cons_succ, Nat.reduceMul, Nat.reduceAdd, Nat.zero_mul, Nat.zero_add, Nat.mul_one, Nat.one_mul] at S
  simp only [BS, Nat.reduceLT, Nat.reduceEqDiff, if_true, if_false, List.map_cons, List.map_nil, List.append_nil, List.nil_append, eq_self]
  refine step_pure (allB_ok (l := [decide (m.length = γ.nodes), nn, decide (a = n), decide (w = γ.arcs.length)]) S.ok (.inr ⟨bs, 0, none, 4, rfl, Nat.le_refl _, S.lds (o := 0) (n := 4) m0 (Nat.le_of_ble_eq_true rfl)⟩) (by simp)) ?_; intro h g; replace S := S.call g; clear g
  simp only [BS, tupleOf, Nat.reduceLT, Nat.reduceEqDiff, if_true, if_false, eq_self]
  exact ⟨by simp [Bool.and_assoc], S.gr⟩
theorem bitsNew_ok {h0 : Hp} (ok : h0.t.Sized h0.n) {a w : Nat} (ha : a ≤ 5) (hw : w ≤ 49) : Ret Tryz.abEnv 13 [.int .i64 (a : Nat), .int .i64 (w : Nat)] h0 fun r h' => Gr h0 h' ∧ BitsAt h' r a w true := by
  have S := St.init (M := NoM) ok
  have f1 : ¬ ((a : Int) < 0) := by omega
  have f2 : ¬ ((w : Int) < 0) := by omega
  have f3 : ¬ ((67108864 : Int) < (w : Int)) := by omega
  have w1 : wrapI .i64 ((w : Int) + 8) = (w : Int) + 8 := by rw [wrap64] <;> omega
  have w2 : wrapI .i64 ((w : Int) + 8 - 1) = ((w + 7 : Nat) : Int) := by rw [wrap64] <;> omega
  have hk : (w + 7) / 8 ≤ 7 := by omega
  have w3 : wrapI .i64 ((((w + 7 : Nat) : Int)).tdiv 8) = (((w + 7) / 8 : Nat) : Int) := by
    rw [Int.tdiv_eq_ediv_of_nonneg (by omega), show (((w + 7 : Nat) : Int) / 8) = (((w + 7) / 8 : Nat) : Int) by omega, wrap64] <;> omega
  generalize hK : (w + 7) / 8 = K at hk w3
  have w5 : wrapI .i64 ((a : Int) * (K : Int)) = ((a * K : Nat) : Int) := by
    have : a * K ≤ 5 * 7 := Nat.mul_le_mul ha hk
    rw [← Int.natCast_mul, wrap64] <;> omega
  have hm : a * K ≤ 5 * 7 := Nat.mul_le_mul ha hk
  by_cases k0 : 0 < (K : Int)
  · have hz : (38347922 : Int) ≤ (268435456 : Int).tdiv (K : Int) ∧ (268435456 : Int).tdiv (K : Int) ≤ 268435456 := by
      have : K = 1 ∨ K = 2 ∨ K = 3 ∨ K = 4 ∨ K = 5 ∨ K = 6 ∨ K = 7 := by omega
      rcases this with h | h | h | h | h | h | h <;> (rw [h]; decide)
    have w4 : wrapI .i64 ((268435456 : Int).tdiv (K : Int)) = (268435456 : Int).tdiv (K : Int) := by rw [wrap64] <;> omega
    have f4 : ¬ ((268435456 : Int).tdiv (K : Int) < (a : Int)) := by omega
    have f5 : (K : Int) ≠ 0 := by omega
    refine enter_ret (n := 37) (rs := [.tmp 4]) rfl Tryz.e13 rfl rfl rfl (Nat.le_of_ble_eq_true rfl) ?_
    simp only [BS, Nat.reduceLT, Nat.reduceEqDiff, if_true, if_false, List.getElem?_cons_zero, List.getElem?_cons_succ, Bool.not_false, decide_true, decide_false, eq_self, f1, f2, f3, w1, w2, w3, w4, w5, k0, f4, b_quo (n := 8) (by decide), b_quo (n := (K : Int)) f5]
    refine step_newS (mk_new (by first | exact Tryz.u22) (by first | exact Tryz.e5E) (by omega) (by omega)) S ?_; clear S; intro h bb S n_bb
    simp only [BS, Option.isSome_some, Nat.reduceLT, Nat.reduceEqDiff, Nat.reduceAdd, if_true, if_false, List.map_cons, List.map_nil, List.length_cons, List.length_nil, List.set_cons_zero, List.set_cons_succ, List.getElem?_cons_zero, List.getElem?_cons_succ, Nat.zero_add, eq_self, Tryz.FFt1413]
    refine step_newS (box_new (by intro x e; cases e)) S ?_; clear S; intro h br S n_br; simp only [vcells] at S
    simp only [BS, tupleOf, Nat.reduceLT, Nat.reduceEqDiff, if_true, if_false, eq_self]
    exact ⟨S.gr, .inr ⟨br, _, _, rfl, S.row m0, rfl⟩⟩
  · refine enter_ret (n := 37) (rs := [.tmp 4]) rfl Tryz.e13 rfl rfl rfl (Nat.le_of_ble_eq_true rfl) ?_
    simp only [BS, Nat.reduceLT, Nat.reduceEqDiff, if_true, if_false, List.getElem?_cons_zero, List.getElem?_cons_succ, Bool.not_false, decide_false, eq_self, f1, f2, f3, w1, w2, w3, w5, k0, b_quo (n := 8) (by decide)]
    refine step_newS (mk_new (by first | exact Tryz.u22) (by first | exact Tryz.e5E) (by omega) (by omega)) S ?_; clear S; intro h bb S n_bb
    simp only [BS, Option.isSome_some, Nat.reduceLT, Nat.reduceEqDiff, Nat.reduceAdd, if_true, if_false, List.map_cons, List.map_nil, List.length_cons, List.length_nil, List.set_cons_zero, List.set_cons_succ, List.getElem?_cons_zero, List.getElem?_cons_succ, Nat.zero_add, eq_self, Tryz.FFt1413]
    refine step_newS (box_new (by intro x e; cases e)) S ?_; clear S; intro h br S n_br; simp only [vcells] at S
    simp only [BS, tupleOf, Nat.reduceLT, Nat.reduceEqDiff, if_true, if_false, eq_self]
    exact ⟨S.gr, .inr ⟨br, _, _, rfl, S.row m0, rfl⟩⟩
end Go.Ab

end
section
/- milestonelaw25's draws: a graph, its net, its cells. -/
set_option maxHeartbeats 4000000

set_option linter.unusedVariables false
namespace Go.Ab
open Go.Proofs
set_option maxRecDepth 10000
set_option linter.defProp false
def Tryz.FFt159 := And.intro Tryz.a1 <| And.intro Tryz.s1 <| And.intro Tryz.z1 <| And.intro Tryz.n1 <| And.intro Tryz.u2 <| And.intro Tryz.a2 <| And.intro Tryz.s2 <| And.intro Tryz.z2 <| And.intro Tryz.i2 <| And.intro Tryz.u3 <| And.intro Tryz.a3 <| And.intro Tryz.s3 <| And.intro Tryz.z3 <| And.intro Tryz.i3 <| And.intro Tryz.u4 <| And.intro Tryz.a4 <| And.intro Tryz.s4 <| And.intro Tryz.z4 <| And.intro Tryz.n4 <| And.intro Tryz.u5 <| And.intro Tryz.a5 <| And.intro Tryz.s5 <| And.intro Tryz.z5 <| And.intro Tryz.i5 <| And.intro Tryz.u6 <| And.intro Tryz.a6 <| And.intro Tryz.s6 <| And.intro Tryz.z6 <| And.intro Tryz.i6 <| And.intro Tryz.a7 <| And.intro Tryz.s7 <| And.intro Tryz.z7 <| And.intro Tryz.i7 <| And.intro Tryz.n7 <| And.intro Tryz.p7 <| And.intro Tryz.ff7 <| And.intro Tryz.d7 <| And.intro Tryz.a8 <| And.intro Tryz.s8 <| And.intro Tryz.z8 <| And.intro Tryz.i8 <| And.intro Tryz.n8 <| And.intro Tryz.p8 <| And.intro Tryz.ff8 <| And.intro Tryz.d8 <| And.intro Tryz.u9 <| And.intro Tryz.a9 <| And.intro Tryz.s9 <| And.intro Tryz.z9 <| And.intro Tryz.n9 <| And.intro Tryz.u10 <| And.intro Tryz.a10 <| And.intro Tryz.s10 <| And.intro Tryz.z10 <| And.intro Tryz.n10 <| And.intro Tryz.u11 <| And.intro Tryz.a11 <| And.intro Tryz.s11 <| And.intro Tryz.z11 <| And.intro Tryz.n11 <| And.intro Tryz.u12 <| And.intro Tryz.a12 <| And.intro Tryz.s12 <| And.intro Tryz.z12 <| And.intro Tryz.i12 <| And.intro Tryz.u22 <| And.intro Tryz.a22 <| And.intro Tryz.s22 <| And.intro Tryz.z22 <| And.intro Tryz.q22 <| And.intro Tryz.n22 <| And.intro Tryz.a24 <| And.intro Tryz.s24 <| And.intro Tryz.z24 <| And.intro Tryz.i24 <| And.intro Tryz.n24 <| And.intro Tryz.p24 <| And.intro Tryz.ff24 <| And.intro Tryz.d24 <| And.intro Tryz.u25 <| And.intro Tryz.a25 <| And.intro Tryz.s25 <| And.intro Tryz.z25 <| And.intro Tryz.q25 <| And.intro Tryz.n25 <| And.intro Tryz.u26 <| And.intro Tryz.a26 <| And.intro Tryz.s26 <| And.intro Tryz.z26 <| And.intro Tryz.q26 <| And.intro Tryz.n26 <| And.intro Tryz.a28 <| And.intro Tryz.s28 <| And.intro Tryz.z28 <| And.intro Tryz.i28 <| And.intro Tryz.n28 <| And.intro Tryz.p28 <| And.intro Tryz.ff28 <| And.intro Tryz.d28 <| And.intro Tryz.u29 <| And.intro Tryz.a29 <| And.intro Tryz.s29 <| And.intro Tryz.z29 <| And.intro Tryz.q29 <| And.intro Tryz.i29 <| And.intro Tryz.n29 <| And.intro Tryz.u30 <| And.intro Tryz.a30 <| And.intro Tryz.s30 <| And.intro Tryz.z30 <| And.intro Tryz.q30 <| And.intro Tryz.i30 <| And.intro Tryz.n30 <| And.intro Tryz.u35 <| And.intro Tryz.a35 <| And.intro Tryz.s35 <| And.intro Tryz.z35 <| And.intro Tryz.q35 <| And.intro Tryz.n35 <| And.intro Tryz.a60 <| And.intro Tryz.s60 <| And.intro Tryz.z60 <| And.intro Tryz.i60 <| And.intro Tryz.n60 <| And.intro Tryz.p60 <| And.intro Tryz.ff60 <| And.intro Tryz.d60 <| And.intro Tryz.u82 <| And.intro Tryz.a82 <| And.intro Tryz.s82 <| And.intro Tryz.z82 <| And.intro Tryz.q82 <| And.intro Tryz.i82 <| And.intro Tryz.n82 <| And.intro Tryz.a84 <| And.intro Tryz.s84 <| And.intro Tryz.z84 <| And.intro Tryz.i84 <| And.intro Tryz.n84 <| And.intro Tryz.p84 <| And.intro Tryz.ff84 <| And.intro Tryz.d84 <| And.intro Tryz.a87 <| And.intro Tryz.s87 <| And.intro Tryz.z87 <| And.intro Tryz.q87 <| And.intro Tryz.n87 <| And.intro Tryz.a97 <| And.intro Tryz.s97 <| And.intro Tryz.z97 <| And.intro Tryz.i97 <| And.intro Tryz.n97 <| And.intro Tryz.p97 <| And.intro Tryz.ff97 <| And.intro Tryz.d97 <| And.intro Tryz.u150 <| And.intro Tryz.a150 <| And.intro Tryz.s150 <| And.intro Tryz.z150 <| And.intro Tryz.q150 <| And.intro Tryz.n150 <| And.intro Tryz.a152 <| And.intro Tryz.s152 <| And.intro Tryz.z152 <| And.intro Tryz.i152 <| And.intro Tryz.n152 <| And.intro Tryz.p152 <| And.intro Tryz.ff152 <| Tryz.d152
def iota (k : Nat) : List Int := (List.range k).map fun (i : Nat) => (i : Int)
theorem iota_len (k : Nat) : (iota k).length = k := by simp [iota]
theorem iota_succ (k : Nat) : iota (k + 1) = iota k ++ [(k : Int)] := by simp [iota, List.range_succ]
theorem pos_app (l : List Int) (x y : Int) : pos (l ++ [y]) x = match pos l x with | some i => some i | none => if x = y then some l.length else none := by
  induction l with
  | nil => simp [pos]
  | cons z zs ih =>
    rw [List.cons_append, pos, pos]
    by_cases h : x = z
    · rw [if_pos h, if_pos h]
    · rw [if_neg h, if_neg h, ih]
      cases pos zs x with
      | some i => rfl
      | none => by_cases h2 : x = y <;> simp [h2]
theorem pos_iota (k j : Nat) : pos (iota k) (j : Int) = if j < k then some j else none := by
  induction k with
  | zero => rfl
  | succ k ih =>
    rw [iota_succ, pos_app, ih, iota_len]
    by_cases h : j < k
    · rw [if_pos h, if_pos (show j < k + 1 by omega)]
    · rw [if_neg h]
      by_cases h2 : j = k
      · subst h2; simp
      · have : ¬ ((j : Int) = (k : Int)) := by omega
        simp only [this, if_false]; rw [if_neg (by omega)]
theorem pos_lt {l : List Int} {x : Int} {i : Nat} (h : pos l x = some i) : i < l.length := by
  induction l generalizing i with
  | nil => cases h
  | cons y ys ih =>
    rw [pos] at h
    by_cases e : x = y
    · rw [if_pos e] at h; cases h; simp
    · rw [if_neg e] at h
      cases hp : pos ys x with
      | none => rw [hp] at h; cases h
      | some j => rw [hp] at h; cases h; have := ih hp; simp; omega
theorem norm_idem (ks l : List Int) : norm (iota ks.length) (norm ks l) = norm ks l := by
  induction l generalizing ks with
  | nil => rfl
  | cons x xs ih =>
    rw [norm, norm]
    unfold stepI stepK
    cases hp : pos ks x with
    | some i =>
      simp only []
      rw [pos_iota, if_pos (pos_lt hp)]
      simp only []
      rw [ih]
    | none =>
      simp only []
      rw [pos_iota, if_neg (by omega)]
      simp only []
      rw [iota_len, ← iota_succ]
      have := ih (ks ++ [x])
      rw [List.length_append, List.length_singleton] at this
      rw [this]
theorem norm_bd (ks l : List Int) : ∀ x ∈ norm ks l, 0 ≤ x ∧ x ≤ ((ks.length + l.length : Nat) : Int) := by
  induction l generalizing ks with
  | nil => intro x hx; cases hx
  | cons y ys ih =>
    intro x hx
    rw [norm] at hx
    rcases List.mem_cons.1 hx with rfl | hx
    · have : stepI ks y ≤ ks.length := by
        unfold stepI
        cases hp : pos ks y with
        | some i => exact Nat.le_of_lt (pos_lt hp)
        | none => exact Nat.le_refl _
      simp; omega
    · have h1 := ih _ x hx
      have : (stepK ks y).length ≤ ks.length + 1 := by
        unfold stepK
        cases pos ks y <;> simp
      simp at h1 ⊢; omega
theorem fold_bd (K : Int) (l : List Int) (a : Int) (ha : 0 ≤ a ∧ a ≤ K) (h : ∀ x ∈ l, 0 ≤ x ∧ x ≤ K) : 0 ≤ l.foldl max a ∧ l.foldl max a ≤ K := by
  induction l generalizing a with
  | nil => exact ha
  | cons x xs ih =>
    have hx := h x (by simp)
    exact ih (max a x) (by omega) (fun y hy => h y (by simp [hy]))
theorem lmax_bd {K : Int} (hK : 0 ≤ K) {l : List Int} (h : ∀ x ∈ l, 0 ≤ x ∧ x ≤ K) : 0 ≤ lmax l ∧ lmax l ≤ K := by
  cases l with
  | nil => exact ⟨Int.le_refl _, hK⟩
  | cons x xs => exact fold_bd K xs x (h x (by simp)) (fun y hy => h y (by simp [hy]))
/-- A slice of numbers that came from without. -/
def SlW (h : Hp) (kd : IntKind) (v : Value) (xs : List Int) : Prop := (v = .slice none 0 0 ∧ xs = []) ∨ ∃ b o c, v = .slice (some ⟨b, o, none⟩) xs.length c ∧ xs.length ≤ c ∧ h.load b o (xs.length * 1) = some (xs.flatMap (encI kd))
theorem SlW.sl {h : Hp} {kd : IntKind} {v : Value} {xs : List Int} (s : SlW h kd v xs) : SlAt h 1 (encI kd) v xs := s.imp (fun h => h) (fun ⟨b, o, c, h1, h2, h3⟩ => ⟨b, o, none, c, h1, h2, h3⟩)
theorem SlW.low {E : Env} {h : Hp} {kd kd' : IntKind} {t e : TypeId} {v : Value} {xs : List Int} (hu : E.und t = some (.slice e)) (hs : E.sz e = some 1) (s : SlW h kd v xs) {n : Nat} (hn : n ≤ xs.length) :
    ∃ v', sliceP E t v none (some (.int kd' (n : Int))) none = some v' ∧ SlAt h 1 (encI kd) v' (xs.take n) ∧ ∀ c, blkOf v' c → blkOf v c := by
  have nat : ∀ n : Nat, natOf (n : Int) = some n := fun n => rfl
  rcases s with ⟨rfl, rfl⟩ | ⟨b, o, c, rfl, h2, h3⟩
  · have : n = 0 := by simpa using hn
    subst this
    refine ⟨.slice none 0 0, ?_, .inl ⟨rfl, rfl⟩, fun c hc => hc⟩
    simp only [sliceP, hu, boundsP, boundP, nat, hs]
    rfl
  · refine ⟨.slice (some ⟨b, o, none⟩) n c, ?_, .inr ⟨b, o, none, c, ?_, ?_, ?_⟩, fun c hc => hc⟩
    · simp only [sliceP, hu, boundsP, boundP, nat, Nat.ble_eq_true_of_le (Nat.le_trans hn h2), cond_true, hs, Option.isSome_none, cond_false, Nat.sub_zero, addrAdd, Nat.zero_mul, Nat.add_zero]
      by_cases hc : c = 0
      · subst hc; rfl
      · rw [show Nat.beq c 0 = false by cases c with | zero => exact absurd rfl hc | succ c => rfl]; rfl
    · rw [List.length_take, Nat.min_eq_left hn]
    · rw [List.length_take, Nat.min_eq_left hn]; exact Nat.le_trans hn h2
    · rw [List.length_take, Nat.min_eq_left hn]
      have := load_sub h3 (i := 0) (m := n * 1) (by omega)
      rw [Nat.add_zero, List.drop_zero] at this
      rw [this]
      congr 1
      refine List.ext_getElem? fun i => ?_
      have e4 : ∀ l : List Int, l.flatMap (encI kd) = l.map fun x => .int kd x := fun l => by
        rw [List.flatMap_eq_foldl, List.map_eq_flatMap, List.flatMap_eq_foldl]; rfl
      rw [e4, e4, Nat.mul_one, List.map_take]
theorem SlAt.blt {α : Type} {h : Hp} {k : Nat} {enc : α → List Value} {v : Value} {xs : List α} (ok : h.t.Sized h.n) (s : SlAt h k enc v xs) {c : Nat} (hc : blkOf v c) : c < h.n := by
  rcases s with ⟨rfl, _⟩ | ⟨b, o, _, _, rfl, _, h3⟩
  · exact hc.elim
  · have : b = c := hc
    subst this
    cases hg : h.get b with
    | none => simp [Hp.load, hg] at h3
    | some x => exact lt_of_get ok hg
/-- The node's cell as it is drawn. -/
def cellOf (O : List Int) (i : Nat) : Int := if O.length = 0 then (i : Int) else (O.getD (i % O.length) 0).tmod 4
theorem graph_ok {h0 : Hp} (ok : h0.t.Sized h0.n) {vB vO : Value} {B O : List Int} (hB : SlW h0 .u8 vB B) (hO : SlW h0 .u8 vO O) (cO : ∀ x ∈ O, 0 ≤ x ∧ x ≤ 255) :
    Ret Tryz.abEnv 9 [.agg ⟨[vB, vO]⟩] h0 fun r h' => Gr h0 h' ∧ ∃ γ vx vy va p q m, r = .tuple #[rawV γ vx vy va, p, q] ∧ Good γ ∧ (∃ k, NetAt h' k p γ) ∧ (∃ k, CellsAt h' k q m) ∧ m.length = γ.nodes ∧ GraphAt h' vx vy va γ ∧ 0 ≤ lmax m ∧ lmax m ≤ 100 := by
  have S := St.init (M := NoM) ok
  have fB := hB.sl.fl
  have fO := hO.sl.fl
  have mn : min (B.length : Int) 60 = ((min B.length 60 : Nat) : Int) := by omega
  obtain ⟨vB', hsl, sB, bB⟩ := hB.low (kd' := .i64) (n := min B.length 60) Tryz.u22 Tryz.s5 (Nat.min_le_left _ _)
  have fB' := sB.fl
  refine enter_ret (n := 59) (rs := [.cell 2 28, .tmp 3, .tmp 4]) rfl Tryz.e9 rfl rfl rfl (Nat.le_of_ble_eq_true rfl) ?_
  simp only [BS, Nat.reduceLT]
  refine step_newS (box_new (by intro x e; cases e)) S ?_; clear S; intro h b1 S n_b1; simp only [vcells] at S
  simp only [BS, Tryz.FFt159]
  refine step_newS allocR_new S ?_; clear S; intro h b2 S n_b2
  simp only [BS, Option.isSome_some, Nat.add_zero, Nat.reduceLT, Nat.reduceEqDiff, Nat.reduceAdd, if_true, if_false, List.map_cons, List.map_nil, List.length_cons, List.length_nil, List.set_cons_zero, List.getElem?_cons_zero, Nat.zero_add, Option.map_some, Option.map_none, eq_self, Tryz.FFt159, hB.sl.lenq, mn, hsl, fB', S.ld (b := b1) (o := 0) (by first | exact m0 | exact m1 | exact m2 | exact m3 | exact m4 | exact m5 | exact m6 | exact m7) rfl]
  refine step_newS (box_new (by intro x e; cases e)) S ?_; clear S; intro h bd S n_bd; simp only [vcells] at S
  have hB' : SlAt h 1 (encI .u8) vB' (B.take (min B.length 60)) := sB.gr S.gr
  have nB : ¬ blkOf vB' bd := fun hc => by have := sB.blt ok hc; omega
  have lb' : (B.take (min B.length 60)).length < 1000000 := by rw [List.length_take]; omega
  simp only [BS, Nat.reduceLT, Nat.reduceEqDiff, if_true, if_false, List.map_cons, List.map_nil, List.append_nil, List.nil_append, eq_self]
  have hR1 : Row h b1 [vB, vO] 1 := S.row m2
  have hR2 : Row h b2 [.int .i64 0, .slice none 0 0, .slice none 0 0, .slice none 0 0] 1 := S.row m1
  have ap := S.apart
  have g0 := S.drop1.gr
  have e12 : b1 ≠ b2 ∧ b1 ≠ bd ∧ b2 ≠ bd := by
    simp only [keys, List.map_cons, List.map_nil, List.filterMap_nil, List.append_nil, List.nodup_cons, List.mem_cons, List.not_mem_nil, or_false, not_or] at ap
    exact ⟨fun e => ap.2.1 e.symm, fun e => ap.1.2 e.symm, fun e => ap.1.1 e.symm⟩
  have b2n := hR2.lt S.ok
  have b1n := hR1.lt S.ok
  have f0 := S.fr
  refine step_ret (raw_ok S.ok (S.row m0) ⟨hB', nB, lb', by omega⟩) ?_
  rintro v h ⟨f, γ, vx, vy, va, rfl, hγ, ga, hz⟩
  clear S
  have f1 : Mo NoM h0 h := f0.trans f (fun b e => by subst e; exact .inr n_bd)
  replace hR1 : Row h b1 [vB, vO] 1 := f.has (o := .row _ 1) hR1 e12.2.1
  replace hR2 : Row h b2 [.int .i64 0, .slice none 0 0, .slice none 0 0, .slice none 0 0] 1 := f.has (o := .row _ 1) hR2 e12.2.2
  have hzb : ∀ c, blkOf vx c ∨ blkOf vy c ∨ blkOf va c → ¬ c = b2 := fun c hc e => by have := hz c hc; omega
  have S := St.init1 f1.ok (o := .row _ 1) hR2
  have fx := ga.X.fl
  have fy := ga.Y.fl
  have fa := ga.A.fl
  have n2 := hγ.n2
  simp only [BS, Tryz.FFt159, rawV]
  refine step_newS allocR_new S ?_; clear S; intro h b6 S n_b6
  simp only [BS, Nat.reduceLT, Nat.reduceEqDiff, if_true, if_false, eq_self]
  refine step_u (S.store (i := 0) rfl Tryz.s28 (by intro x e; cases e) rfl (by simp only [vcells, List.all_cons, List.all_nil, fx.2.1, fy.2.1, fa.2.1, Bool.and_true]; rfl) (Nat.le_of_ble_eq_true rfl) Nat.one_ne_zero) ?_
  clear S; rintro h ⟨S, _⟩
  simp only [List.set_cons_zero, List.set_cons_succ, vcells, lay, List.take, List.drop, List.nil_append, List.cons_append, List.append_nil, List.length_cons, List.length_nil, Nat.reduceAdd, Nat.add_zero] at S
  simp only [BS, Nat.reduceLT, Nat.reduceEqDiff, if_true, if_false, List.map_cons, List.map_nil, List.append_nil, List.nil_append, eq_self, Tryz.FFt159, List.drop_zero, List.take_succ_cons, List.take_zero, S.lds (b := b6) (o := 0) (n := 4) (by first | exact m0 | exact m1 | exact m2 | exact m3 | exact m4 | exact m5 | exact m6 | exact m7) (Nat.le_of_ble_eq_true rfl)]
  have nn := S.fr.n
  have q6 := (S.row (b := b6) m0).lt S.ok
  have q2 := (S.row (b := b2) m1).lt S.ok
  have c2 : ∀ c, c ∈ [b6, b2] → c < h.n := by
    intro c e
    rcases (show c = b6 ∨ c = b2 by simpa using e) with h | h
    · subst h; exact q6
    · subst h; exact q2
  refine step_ret (netNew_ok S.ok hγ (ga.mo S.fr hzb)) ?_
  intro v hN ⟨p, ep, g, hp⟩
  replace S := S.call g
  clear g
  subst ep
  have fp : Fl p := by obtain ⟨_, _, _, _, _, _, rfl, _⟩ := hp.ex; exact fl_ptr
  have gS := S.fr
  have gaN := ga.mo gS hzb
  have gab : ∀ c, blkOf vx c ∨ blkOf vy c ∨ blkOf va c → c < b6 := by
    intro c hc
    refine Nat.lt_of_lt_of_le ?_ n_b6
    rcases hc with h | h | h
    · exact ga.X.blt f1.ok h
    · exact ga.Y.blt f1.ok h
    · exact ga.A.blt f1.ok h
  have hN1 : Row hN b1 [vB, vO] 1 := gS.has (o := .row _ 1) hR1 e12.1
  have hN2 := (hO.sl.gr f1.gr).mo gS (fun c hc e => by have := hO.sl.blt ok hc; omega)
  have hNO : ∀ c, blkOf vO c → c < h0.n := fun c hc => hO.sl.blt ok hc
  have hb6 : h0.n ≤ b6 := Nat.le_trans f1.n n_b6
  have hb16 : ¬ b1 = b6 := by have := f.n; omega
  replace S := S.base
  simp only [keys, List.map_cons, List.map_nil, List.filterMap_nil, List.append_nil] at S
  have o1 := hN1.load1 (o := 1) rfl
  have no1 : ¬ b1 ∈ [b6, b2] := by simp [hb16, e12.1]
  have no2 : ∀ c, blkOf vO c → ¬ c ∈ [b6, b2] := fun c hc h => by
    have := hNO c hc
    simp only [List.mem_cons, List.not_mem_nil, or_false] at h
    omega
  simp only [BS, Nat.reduceLT, Nat.reduceEqDiff, if_true, if_false, eq_self]
  replace S := S.nilG (k := 1)
  refine loop_ind (fun (i : Nat) ρ h => i ≤ γ.nodes ∧ ∃ vR, St (· ∈ [b6, b2]) hN h [(b6, .row [.int .i64 γ.nodes, vx, vy, va] 1), (b2, .row [.int .i64 0, .slice none 0 0, .slice none 0 0, .slice none 0 0] 1)] [(vR, 1, ints ((List.range i).map (cellOf O)))] ∧
    ρ 1 = ptrTo b1 ∧ ρ 2 = ptrTo b2 ∧ ρ 6 = ptrTo b6 ∧ ρ 7 = p ∧ ρ 9 = vR ∧ ρ 10 = .int .i64 i) (fun i => γ.nodes - i) ?_ 0 _ _ ?_
  · clear S
    intro i ih ρ h ⟨hi, vR, S, r1, r2, r6, r7, r9, r10⟩
    have l1 := S.old o1 no1
    have w : wrapI .i64 ((i : Int) + 1) = ((i + 1 : Nat) : Int) := by rw [wrap64] <;> omega
    by_cases hlt : i < γ.nodes
    · by_cases hz0 : O.length = 0
      · have c0 : ¬ (0 : Int) < (O.length : Int) := by omega
        simp only [BS, Nat.add_zero, Nat.reduceLT, Nat.reduceEqDiff, if_true, if_false, List.map_cons, List.map_nil, Nat.zero_add, decide_true, decide_false, eq_self, Tryz.FFt159, r1, r6, r9, r10, lt_nat, hlt, l1, hO.sl.lenq, c0, S.ld (b := b6) (o := 0) (by first | exact m0 | exact m1 | exact m2 | exact m3 | exact m4 | exact m5 | exact m6 | exact m7) rfl]
        refine step_newS (bs_new (by first | exact Tryz.u22 | exact Tryz.u25 | exact Tryz.u26 | exact Tryz.u35 | exact Tryz.u150) (by first | exact Tryz.e2E | exact Tryz.e3E | exact Tryz.e5E | exact Tryz.e35E | exact Tryz.e60E) (by decide) (by first | rfl | exact fillE )) S ?_; clear S; intro h bs S n_bs; simp only [repL, setL, vcells, List.cons_append, List.nil_append, List.append_nil, List.set_cons_zero, List.set_cons_succ, Nat.reduceMul, Nat.reduceAdd, Nat.zero_mul, Nat.zero_add, Nat.mul_one, Nat.one_mul] at S
        simp only [BS, Nat.reduceLT, Nat.reduceEqDiff, if_true, if_false, eq_self]
        refine step_v (S.grow (j := 0) (m := 1) (new := ints [(i : Int)]) rfl Tryz.u35 Tryz.e3E (by decide) Tryz.n35 (by simp only [srcCells]; rw [S.lds (b := bs) (o := 0) (n := 1 * 1) m0 (Nat.le_of_ble_eq_true rfl)]; rfl) rfl (by decide) rfl (by rw [ints_len, ints_len]; simp; omega)) ?_
        clear S
        rintro h vX' S
        simp only [List.set_cons_zero] at S
        replace S := S.drop1
        rw [← ints_app] at S
        simp only [BS, Nat.reduceLT, Nat.reduceEqDiff, if_true, if_false, eq_self, r10, w]
        refine ih (i + 1) _ _ (by omega) ⟨by omega, vX', ?_, by simp [setR, r1, ptr_eq], by simp [setR, r2, ptr_eq], by simp [setR, r6, ptr_eq], by simp [setR, r7], by simp [setR], by simp [setR]⟩
        rw [List.range_succ, List.map_append, List.map_singleton, show cellOf O i = (i : Int) from by unfold cellOf; rw [if_pos hz0]]
        exact S
      · have c0 : (0 : Int) < (O.length : Int) := by omega
        have hmod : i % O.length < O.length := Nat.mod_lt _ (by omega)
        have tm : (i : Int).tmod (O.length : Int) = ((i % O.length : Nat) : Int) := by rw [Int.tmod_eq_emod_of_nonneg (by omega)]; exact (Int.natCast_emod _ _).symm
        obtain ⟨c, o, hidx, hld⟩ := (hN2.mo S.fr no2).ix (kd := .i64) (encI_len _) hmod
        have cz : (O.length : Int) ≠ 0 := by omega
        have hx := cO _ (List.getElem_mem hmod)
        have t4 : (O[i % O.length]).tmod 4 = O[i % O.length] % 4 := Int.tmod_eq_emod_of_nonneg hx.1
        have wc : wrapI .i64 ((O[i % O.length]).tmod 4) = (O[i % O.length]).tmod 4 := by rw [wrap64] <;> omega
        simp only [BS, Nat.add_zero, Nat.reduceLT, Nat.reduceEqDiff, if_true, if_false, Nat.zero_add, decide_true, eq_self, Tryz.FFt159, r1, r6, r10, lt_nat, hlt, l1, hO.sl.lenq, c0, S.ld (b := b6) (o := 0) (by first | exact m0 | exact m1 | exact m2 | exact m3 | exact m4 | exact m5 | exact m6 | exact m7) rfl]
        refine draw_step (hoist_no rfl) (q := 0) (ps := []) (by kernel_rfl) ?_
        simp only [BS, convV, convKind, convP, cls, Nat.reduceLT, Nat.reduceEqDiff, Nat.reduceAdd, if_true, if_false, List.map_cons, List.map_nil, Nat.reducePow, Nat.reduceDiv, Nat.reduceMod, Nat.reduceLeDiff, Bool.and_false, Nat.zero_add, true_and, decide_false, eq_self, Tryz.FFt159, r1, r9, r10, l1, hO.sl.lenq, b_rem cz, tm, hidx, hld, encI, b_rem (n := 4) (by decide), wc]
        refine step_newS (bs_new (by first | exact Tryz.u22 | exact Tryz.u25 | exact Tryz.u26 | exact Tryz.u35 | exact Tryz.u150) (by first | exact Tryz.e2E | exact Tryz.e3E | exact Tryz.e5E | exact Tryz.e35E | exact Tryz.e60E) (by decide) (by first | rfl | exact fillE )) S ?_; clear S; intro h bs S n_bs; simp only [repL, setL, vcells, List.cons_append, List.nil_append, List.append_nil, List.set_cons_zero, List.set_cons_succ, Nat.reduceMul, Nat.reduceAdd, Nat.zero_mul, Nat.zero_add, Nat.mul_one, Nat.one_mul] at S
        simp only [BS, Nat.reduceLT, Nat.reduceEqDiff, if_true, if_false, eq_self]
        refine step_v (S.grow (j := 0) (m := 1) (new := ints [(O[i % O.length]).tmod 4]) rfl Tryz.u35 Tryz.e3E (by decide) Tryz.n35 (by simp only [srcCells]; rw [S.lds (b := bs) (o := 0) (n := 1 * 1) m0 (Nat.le_of_ble_eq_true rfl)]; rfl) rfl (by decide) rfl (by rw [ints_len, ints_len]; simp; omega)) ?_
        clear S
        rintro h vX' S
        simp only [List.set_cons_zero] at S
        replace S := S.drop1
        rw [← ints_app] at S
        simp only [BS, Nat.reduceLT, Nat.reduceEqDiff, if_true, if_false, eq_self, r10, w]
        refine ih (i + 1) _ _ (by omega) ⟨by omega, vX', ?_, by simp [setR, r1, ptr_eq], by simp [setR, r2, ptr_eq], by simp [setR, r6, ptr_eq], by simp [setR, r7], by simp [setR], by simp [setR]⟩
        rw [List.range_succ, List.map_append, List.map_singleton, show cellOf O i = (O[i % O.length]).tmod 4 from by unfold cellOf; rw [if_neg hz0]; simp [List.getD_eq_getElem?_getD, hmod]]
        exact S
    · have hiN : i = γ.nodes := by omega
      simp only [BS, Nat.add_zero, Nat.reduceLT, Nat.reduceEqDiff, if_true, if_false, decide_false, eq_self, Tryz.FFt159, r6, r10, lt_nat, hlt, S.ld (b := b6) (o := 0) (by first | exact m0 | exact m1 | exact m2 | exact m3 | exact m4 | exact m5 | exact m6 | exact m7) rfl]
      generalize hL : (List.range i).map (cellOf O) = Ls at S
      have lL : Ls.length = γ.nodes := by rw [← hL]; simp [hiN]
      have bL := lmax_bd (K := ((0 + Ls.length : Nat) : Int)) (by omega) (norm_bd [] Ls)
      have nl := norm_len [] Ls
      have n1 := hγ.n1
      have yes : ¬ cellNo (norm [] Ls) := by
        rintro (h | h | h)
        · rw [h] at nl; simp at nl; omega
        · exact h (norm_idem [] Ls)
        · omega
      have sl : SlAt h 1 (encI .i64) vR Ls := (S.gown _ m0).1.sl rfl (fun _ => rfl) (by decide)
      refine draw_step (hoist_no rfl) (q := 0) (ps := [(0, 4), (0, 3)]) (by kernel_rfl) ?_
      simp only [BS, cls, Nat.reduceLT, Nat.reduceEqDiff, Nat.reduceAdd, if_true, if_false, List.map_cons, List.map_nil, List.append_nil, List.nil_append, Nat.reducePow, Nat.reduceDiv, Nat.reduceMod, Nat.reduceLeDiff, Bool.and_true, Bool.and_false, Nat.zero_add, decide_true, decide_false, eq_self, Tryz.FFt159, r6, r7, r9, List.drop_zero, List.take_succ_cons, List.take_zero, S.lds (b := b6) (o := 0) (n := 4) (by first | exact m0 | exact m1 | exact m2 | exact m3 | exact m4 | exact m5 | exact m6 | exact m7) (Nat.le_of_ble_eq_true rfl)]
      refine dn_ret (norm_ok S.ok sl (by omega)) ?_
      rintro v1 h ⟨g1, s1, q1⟩
      have e1 := leaves_gr g1 ((S.row (b := b6) m0).lt S.ok)
      replace S := S.call g1
      simp only [BS, cls, Nat.reduceLT, Nat.reduceEqDiff, Nat.reduceAdd, if_true, if_false, List.map_cons, List.map_nil, List.append_nil, List.nil_append, Nat.reducePow, Nat.reduceDiv, Nat.reduceMod, Nat.reduceLeDiff, Bool.and_true, decide_true, decide_false, eq_self]
      have b2lt := (S.row (b := b2) m1).lt S.ok
      refine dn_ret (cellNew_ok S.ok s1 (by omega) (by omega)) ?_
      rintro v2 h ⟨g2, hc⟩
      have e2 := leaves_gr g2 ((S.row (b := b6) m0).lt S.ok)
      replace S := S.call g2
      have hc2 := (hc.resolve_left fun h => yes h.1).2
      have fc : Fl v2 := by obtain ⟨_, _, rfl, _⟩ := hc2; exact fl_ptr
      simp only [BS, cls, Nat.reduceLT, Nat.reduceEqDiff, Nat.reduceAdd, if_true, if_false, Nat.reducePow, Nat.reduceDiv, Nat.reduceMod, Nat.reduceLeDiff, Bool.and_false, decide_false, eq_self, r2]
      refine dn_u (S.store (i := 1) rfl Tryz.s28 (by intro x e; cases e) rfl (by simp only [vcells, List.all_cons, List.all_nil, fx.2.1, fy.2.1, fa.2.1, Bool.and_true]; rfl) (Nat.le_of_ble_eq_true rfl) Nat.one_ne_zero) ?_
      clear S; rintro h ⟨S, mo⟩
      simp only [List.set_cons_zero, List.set_cons_succ, vcells, lay, List.take, List.drop, List.nil_append, List.cons_append, List.append_nil, List.length_cons, List.length_nil, Nat.reduceAdd, Nat.add_zero] at S
      simp only [BS, cls, tupleOf, Nat.reduceLT, Nat.reduceEqDiff, Nat.reduceAdd, if_true, if_false, Nat.reducePow, Nat.reduceDiv, Nat.reduceMod, Nat.reduceLeDiff, Bool.and_false, decide_false, eq_self]
      refine ⟨by simp only [pairs_cons, pairs_nil, entry_noted, entry_hit, entry_miss, ne_eq, not_false_eq_true, note_load, note_run, note_alloc, noted_some, ll_tmp, ll_put, setR_at, Nat.reduceLT, Nat.reduceEqDiff, reduceIte, Bool.and_true, r2, r6, ptr_eq, pair_br e1, pair_br e2, pair_rb e1, pair_rb e2], ?_⟩
      refine (res_cell (by decide) (by simp only [setR_at, r2, ptr_eq, Nat.reduceEqDiff, reduceIte]; exact loadV_aggr Tryz.a28 Tryz.s28 (S.lds (b := b2) (o := 0) (n := 4) m1 (Nat.le_of_ble_eq_true rfl)))).2 ?_
      refine (res_tmp (by decide)).2 ((res_tmp (by decide)).2 (res_nil.2 ?_))
      have inb : ∀ c, c ∈ [b6, b2] → c = b6 ∨ c = b2 := fun c hc => by simpa using hc
      have c1 : ∀ c, c ∈ [b6, b2] → NoM c ∨ h0.n ≤ c := by
        intro c e
        rcases inb c e with h | h
        · subst h; exact .inr hb6
        · subst h; exact .inr n_b2
      have c3 : ∀ c, blkOf vx c ∨ blkOf vy c ∨ blkOf va c → ¬ c ∈ [b6, b2] := by
        intro c hc e
        rcases inb c e with h | h
        · have := gab c hc; omega
        · exact hzb c hc h
      refine ⟨((f1.trans gS (fun c e => .inr (by subst e; exact n_b2))).trans S.fr c1).gr, γ, vx, vy, va, p, v2, norm [] Ls, ?_, hγ, ⟨_, hp.mo S.fr c2⟩, ⟨_, hc2.mo mo (fun c e => by subst e; exact b2lt)⟩, by rw [nl, lL], gaN.mo S.fr c3, by omega, by omega⟩
      simp only [setR_at, Nat.reduceEqDiff, reduceIte]; rfl
  · exact ⟨Nat.zero_le _, _, S, by simp [setR, ptr_eq], by simp [setR, ptr_eq], by simp [setR, ptr_eq], by simp [setR], by simp [setR], by simp [setR]⟩
end Go.Ab

end
section
/- Slices of the world, opened. -/
namespace Go.Ab
open Go.ChangeShapes Go.WideShapes Go.RowKit
theorem rowAt_le {P : Program} {fits : TypeId → Bool} {d : Nat} {e : TypeId} {count off n : Nat} (h : rowAt P fits d e count off n = true) : off ≤ count * P.cellsOf e := by
  cases d with
  | zero => cases h
  | succ d =>
    unfold rowAt at h
    simp only [] at h
    split at h
    · cases h
    · rename_i hs
      have hpos : 0 < P.cellsOf e := by omega
      have hdm := Nat.div_add_mod off (P.cellsOf e)
      simp only [Bool.or_eq_true, Bool.and_eq_true, beq_iff_eq, decide_eq_true_eq] at h
      rcases h with ⟨⟨h1, h2⟩, _⟩ | ⟨h1, _⟩
      · have : P.cellsOf e * (off / P.cellsOf e) ≤ P.cellsOf e * count := Nat.mul_le_mul_left _ (by omega)
        rw [Nat.mul_comm count]; omega
      · have : P.cellsOf e * (off / P.cellsOf e + 1) ≤ P.cellsOf e * count := Nat.mul_le_mul_left _ (by omega)
        have hlt := Nat.mod_lt off hpos
        rw [Nat.mul_add, Nat.mul_one] at this
        rw [Nat.mul_comm count]; omega
theorem liesAt_le {P : Program} {d : Nat} : ∀ {e : TypeId} {count off : Nat} {u : TypeId} {n : Nat}, liesAt P d e count off u n = true → off ≤ count * P.cellsOf e := by
  induction d with
  | zero => intro e count off u n h; cases h
  | succ d ih =>
    intro e count off u n h
    unfold liesAt at h
    rw [Bool.or_eq_true] at h
    rcases h with h | h
    · exact rowAt_le h
    · split at h
      · exact ih h
      · cases h
theorem has_W {P : Program} {W : World} {r : _root_.Go.Reach} {base : Nat} {a : Addr} {e : TypeId} {n : Nat} (h : W.has P r base a e n) : a.spot = none ∧ a.block < W.heap.size ∧ ∃ l, (hpW W).load (a.block + 16) a.off 0 = some l := by
  obtain ⟨_, hsp, row, cells, hsh, hl⟩ := h
  have hle := liesAt_le hl
  have hle2 : a.off ≤ cells := Nat.le_trans hle (Nat.div_mul_le_self _ _)
  unfold World.shape? at hsh
  split at hsh
  next cs el fz ho =>
    cases hsh
    have hlt := (Array.getElem?_eq_some_iff.1 ho).1
    have hr : Row (hpW W) (a.block + 16) (cs.toList.map (absV W.heap.size)) 0 := ⟨_, _, by rw [hpW_at, ho]; rfl, Tr.sized_ofList _, fun j => Tr.get_ofList _ j⟩
    exact ⟨hsp, hlt, _, hr.load (o := a.off) (n := 0) (by simpa using hle2)⟩
  · cases hsh
section
variable {H : Type} {enc : TypeId × Value → H} {P : Program}
theorem open_sl {W : World} {base fuel : Nat} {s e : TypeId} {k : IntKind} {c : Value} {sp : Nat → Bool} {hd : Bool} {x : DataW H × List MemPlace} (hs : P.underlying s = some (.slice e)) (he : P.underlying e = some (.int k)) (hc : P.cellsOf e = 1)
    (hok : Cell.okWide P W .any base s c) (h : DataW.trod enc P W 0 sp hd fuel s [c] = some x) : ∃ zs : List Int, SlW (hpW W) k (absV W.heap.size c) zs ∧ ∀ z ∈ zs, (Lit.int k z).wf = true := by
  rcases Go.ChangeShapes.open_ints hs he hc h with ⟨e1, _⟩ | ⟨a, len, cap, zs, e1, hb, hl, hm, hz, _, hcell, hwf⟩
  · cases e1
    exact ⟨[], .inl ⟨rfl, rfl⟩, fun z hz => by cases hz⟩
  · cases e1
    unfold Cell.okWide at hok
    rw [hs] at hok
    simp only [Cell.ok, hs] at hok
    obtain ⟨_, _, hhas⟩ := hok
    obtain ⟨hsp, hlt, h0⟩ := has_W hhas
    have hlz : len ≤ zs.length := by rw [hz]; split <;> omega
    refine ⟨zs.take len, .inr ⟨a.block + 16, a.off, cap, ?_, ?_, ?_⟩, fun z hz => hwf z (List.mem_of_mem_take hz)⟩
    · rw [List.length_take, Nat.min_eq_left hlz]
      simp only [absV, if_pos hl, if_pos (And.intro hsp hlt)]
    · rw [List.length_take, Nat.min_eq_left hlz]; exact hl
    · rw [List.length_take, Nat.min_eq_left hlz, Nat.mul_one]
      rw [load_join (f := fun i => .int k (zs.getD i 0)) h0 (fun i hi => load_W hsp (hcell i (by omega)))]
      congr 1
      have e4 : ∀ l : List Int, l.flatMap (encI k) = l.map fun x => .int k x := fun l => by
        rw [List.flatMap_eq_foldl, List.map_eq_flatMap, List.flatMap_eq_foldl]; rfl
      rw [e4]
      refine List.ext_getElem? fun i => ?_
      rw [List.getElem?_map, List.getElem?_map, List.getElem?_take]
      by_cases hi : i < len
      · rw [if_pos hi, List.getElem?_range hi, List.getElem?_eq_getElem (show i < zs.length by omega)]
        simp [List.getD_eq_getElem?_getD, show i < zs.length by omega]
      · rw [if_neg hi, List.getElem?_eq_none (by simpa using hi)]; rfl
/-- A struct of two slices of numbers, opened. -/
theorem open_sl2 {W : World} {base : Nat} {t s e : TypeId} {k : IntKind} {f0 f1 : Field} {v : Value} {sp : Nat → Bool} {hd : Bool} {d : DataW H} {p : List MemPlace} (ht : P.underlying t = some (.struct #[f0, f1])) (o0 : f0.offset = 0) (o1 : f1.offset = 1) (t0 : f0.type = s) (t1 : f1.type = s)
    (hs : P.underlying s = some (.slice e)) (he : P.underlying e = some (.int k)) (hc : P.cellsOf e = 1) (hcs : P.cellsOf s = 1) (hct : P.cellsOf t = 2) (hts : P.cellTypes P.depth t = some [s, s])
    (hval : Value.okWide P W .any base t v) (h : DataW.Trod enc P W 0 sp hd t v d p) :
    ∃ (c0 c1 : Value) (xs ys : List Int), v = .agg #[c0, c1] ∧ SlW (hpW W) k (absV W.heap.size c0) xs ∧ SlW (hpW W) k (absV W.heap.size c1) ys ∧ (∀ z ∈ xs, (Lit.int k z).wf = true) ∧ ∀ z ∈ ys, (Lit.int k z).wf = true := by
  unfold Value.okWide at hval
  rw [ht] at hval
  obtain ⟨cs, rfl, hsz, ts, e1, _, hrow⟩ := hval
  rw [hts] at e1
  cases e1
  rw [hct] at hsz
  obtain ⟨l⟩ := cs
  simp only [List.size_toArray] at hsz
  obtain ⟨c0, c1, rfl⟩ := len2 hsz
  obtain ⟨fuel, h⟩ := h
  obtain ⟨y0, y1, n, _, _, h1, h2⟩ := Go.ChangeShapes.trod_struct2 ht h
  rw [o0, t0, hcs] at h1
  rw [o1, t1, hcs] at h2
  obtain ⟨u0, e0, k0⟩ := hrow 0 c0 rfl
  obtain ⟨u1, e1, k1⟩ := hrow 1 c1 rfl
  cases e0
  cases e1
  obtain ⟨xs, hx, wx⟩ := open_sl hs he hc k0 h1
  obtain ⟨ys, hy, wy⟩ := open_sl hs he hc k1 h2
  exact ⟨c0, c1, xs, ys, rfl, hx, hy, wx, wy⟩
end
end Go.Ab

end
section
/- The law FlagFits, run. -/
set_option maxHeartbeats 4000000

set_option linter.unusedVariables false
namespace Go.Ab
open Go.Proofs
set_option maxRecDepth 10000
set_option linter.defProp false
def Tryz.FFt1646 := And.intro Tryz.a1 <| And.intro Tryz.s1 <| And.intro Tryz.z1 <| And.intro Tryz.n1 <| And.intro Tryz.u2 <| And.intro Tryz.a2 <| And.intro Tryz.s2 <| And.intro Tryz.z2 <| And.intro Tryz.i2 <| And.intro Tryz.u3 <| And.intro Tryz.a3 <| And.intro Tryz.s3 <| And.intro Tryz.z3 <| And.intro Tryz.i3 <| And.intro Tryz.u4 <| And.intro Tryz.a4 <| And.intro Tryz.s4 <| And.intro Tryz.z4 <| And.intro Tryz.n4 <| And.intro Tryz.u35 <| And.intro Tryz.a35 <| And.intro Tryz.s35 <| And.intro Tryz.z35 <| And.intro Tryz.q35 <| Tryz.n35
def Tryz.FFt1612 := And.intro Tryz.a1 <| And.intro Tryz.s1 <| And.intro Tryz.z1 <| And.intro Tryz.n1 <| And.intro Tryz.u2 <| And.intro Tryz.a2 <| And.intro Tryz.s2 <| And.intro Tryz.z2 <| And.intro Tryz.i2 <| And.intro Tryz.u3 <| And.intro Tryz.a3 <| And.intro Tryz.s3 <| And.intro Tryz.z3 <| And.intro Tryz.i3 <| And.intro Tryz.u4 <| And.intro Tryz.a4 <| And.intro Tryz.s4 <| And.intro Tryz.z4 <| And.intro Tryz.n4 <| And.intro Tryz.u30 <| And.intro Tryz.a30 <| And.intro Tryz.s30 <| And.intro Tryz.z30 <| And.intro Tryz.q30 <| And.intro Tryz.i30 <| And.intro Tryz.n30 <| And.intro Tryz.u35 <| And.intro Tryz.a35 <| And.intro Tryz.s35 <| And.intro Tryz.z35 <| And.intro Tryz.q35 <| And.intro Tryz.n35 <| And.intro Tryz.a97 <| And.intro Tryz.s97 <| And.intro Tryz.z97 <| And.intro Tryz.i97 <| And.intro Tryz.n97 <| And.intro Tryz.p97 <| And.intro Tryz.ff97 <| Tryz.d97
def Tryz.FFt163 := And.intro Tryz.a1 <| And.intro Tryz.s1 <| And.intro Tryz.z1 <| And.intro Tryz.n1 <| And.intro Tryz.u2 <| And.intro Tryz.a2 <| And.intro Tryz.s2 <| And.intro Tryz.z2 <| And.intro Tryz.i2 <| And.intro Tryz.u3 <| And.intro Tryz.a3 <| And.intro Tryz.s3 <| And.intro Tryz.z3 <| And.intro Tryz.i3 <| And.intro Tryz.u4 <| And.intro Tryz.a4 <| And.intro Tryz.s4 <| And.intro Tryz.z4 <| And.intro Tryz.n4 <| And.intro Tryz.u5 <| And.intro Tryz.a5 <| And.intro Tryz.s5 <| And.intro Tryz.z5 <| And.intro Tryz.i5 <| And.intro Tryz.u6 <| And.intro Tryz.a6 <| And.intro Tryz.s6 <| And.intro Tryz.z6 <| And.intro Tryz.i6 <| And.intro Tryz.u22 <| And.intro Tryz.a22 <| And.intro Tryz.s22 <| And.intro Tryz.z22 <| And.intro Tryz.q22 <| And.intro Tryz.n22 <| And.intro Tryz.a24 <| And.intro Tryz.s24 <| And.intro Tryz.z24 <| And.intro Tryz.i24 <| And.intro Tryz.n24 <| And.intro Tryz.p24 <| And.intro Tryz.ff24 <| And.intro Tryz.d24 <| And.intro Tryz.u25 <| And.intro Tryz.a25 <| And.intro Tryz.s25 <| And.intro Tryz.z25 <| And.intro Tryz.q25 <| And.intro Tryz.n25 <| And.intro Tryz.u26 <| And.intro Tryz.a26 <| And.intro Tryz.s26 <| And.intro Tryz.z26 <| And.intro Tryz.q26 <| And.intro Tryz.n26 <| And.intro Tryz.a28 <| And.intro Tryz.s28 <| And.intro Tryz.z28 <| And.intro Tryz.i28 <| And.intro Tryz.n28 <| And.intro Tryz.p28 <| And.intro Tryz.ff28 <| And.intro Tryz.d28 <| And.intro Tryz.u29 <| And.intro Tryz.a29 <| And.intro Tryz.s29 <| And.intro Tryz.z29 <| And.intro Tryz.q29 <| And.intro Tryz.i29 <| And.intro Tryz.n29 <| And.intro Tryz.u30 <| And.intro Tryz.a30 <| And.intro Tryz.s30 <| And.intro Tryz.z30 <| And.intro Tryz.q30 <| And.intro Tryz.i30 <| And.intro Tryz.n30 <| And.intro Tryz.u35 <| And.intro Tryz.a35 <| And.intro Tryz.s35 <| And.intro Tryz.z35 <| And.intro Tryz.q35 <| And.intro Tryz.n35 <| And.intro Tryz.u37 <| And.intro Tryz.a37 <| And.intro Tryz.s37 <| And.intro Tryz.z37 <| And.intro Tryz.q37 <| And.intro Tryz.i37 <| And.intro Tryz.n37 <| And.intro Tryz.a60 <| And.intro Tryz.s60 <| And.intro Tryz.z60 <| And.intro Tryz.i60 <| And.intro Tryz.n60 <| And.intro Tryz.p60 <| And.intro Tryz.ff60 <| And.intro Tryz.d60 <| And.intro Tryz.a97 <| And.intro Tryz.s97 <| And.intro Tryz.z97 <| And.intro Tryz.i97 <| And.intro Tryz.n97 <| And.intro Tryz.p97 <| And.intro Tryz.ff97 <| And.intro Tryz.d97 <| And.intro Tryz.a99 <| And.intro Tryz.s99 <| And.intro Tryz.z99 <| And.intro Tryz.i99 <| And.intro Tryz.n99 <| And.intro Tryz.p99 <| And.intro Tryz.ff99 <| And.intro Tryz.d99 <| And.intro Tryz.u150 <| And.intro Tryz.a150 <| And.intro Tryz.s150 <| And.intro Tryz.z150 <| And.intro Tryz.q150 <| And.intro Tryz.n150 <| And.intro Tryz.a152 <| And.intro Tryz.s152 <| And.intro Tryz.z152 <| And.intro Tryz.i152 <| And.intro Tryz.n152 <| And.intro Tryz.p152 <| And.intro Tryz.ff152 <| Tryz.d152
theorem cloneIntG_ok {h0 : Hp} (ok : h0.t.Sized h0.n) {v : Value} {xs : List Int} (hs : SlAt h0 1 (encI .i64) v xs) (h1 : 1 ≤ xs.length) (hl : xs.length < 1000000) : Ret Tryz.abEnv 46 [v] h0 fun r h' => Gr h0 h' ∧ ∃ b, r = .slice (some ⟨b, 0, some 1⟩) xs.length xs.length ∧ h0.n ≤ b ∧ Row h' b (ints xs) 1 := by
  have S := St.init (M := NoM) ok
  rcases hs with ⟨rfl, rfl⟩ | ⟨b, o, s, c, rfl, h2, h3⟩
  · simp at h1
  · refine enter_ret (n := 8) (rs := [.tmp 2]) rfl Tryz.e46 rfl rfl rfl (Nat.le_of_ble_eq_true rfl) ?_
    simp only [BS, Nat.reduceLT, Nat.reduceEqDiff, if_true, if_false, List.map_nil, eq_self, Tryz.FFt1646]
    refine step_newS (bs_new (by first | exact Tryz.u35) (by first | exact Tryz.e3E) (by decide) (by first | rfl | exact fillE )) S ?_; clear S; intro h bb S n_bb; simp only [repL, setL, vcells, List.cons_append, List.nil_append, List.append_nil, List.set_cons_zero, List.set_cons_succ, Nat.reduceMul, Nat.reduceAdd, Nat.zero_mul, Nat.zero_add, Nat.mul_one, Nat.one_mul] at S
    simp only [BS, Nat.reduceLT, Nat.reduceEqDiff, if_true, if_false, eq_self]
    have sl : SlAt h 1 (encI .i64) (.slice (some ⟨b, o, s⟩) xs.length c) xs := .inr ⟨b, o, s, c, rfl, h2, S.old h3 (fun h => h)⟩
    obtain ⟨h', v', e1, e2⟩ := S.clone (n := 0) Tryz.u35 Tryz.e3E (by decide) Tryz.n35 sl.src (flatMap_len (encI_len .i64) xs).symm (by simp) (by decide) (by rw [flatMap_len (encI_len .i64)]; simp; omega) (ts := [35]) (S.row m0)
    rcases e2 with ⟨e, _, _⟩ | ⟨b', rfl, S'⟩
    · omega
    · refine step_v (P := fun h2 v2 => h2 = h' ∧ v2 = .slice (some ⟨b', 0, some 1⟩) (0 + xs.length) (0 + xs.length)) ⟨h', _, e1, rfl, rfl⟩ ?_
      rintro h2 v2 ⟨rfl, rfl⟩
      simp only [BS, tupleOf, Nat.reduceLT, Nat.reduceEqDiff, if_true, if_false, Nat.zero_add, eq_self]
      exact ⟨S'.gr, b', rfl, by have := (S'.own _ m0).1; exact this.elim (fun h => h) (fun h => h.elim), by simpa [ints] using S'.row m0⟩
theorem mapG_ok {h0 : Hp} (ok : h0.t.Sized h0.n) {p : Value} {m : List Int} {k : Nat} (c : CellsAt h0 k p m) (h1 : 1 ≤ m.length) (hl : m.length < 1000000) : Ret Tryz.abEnv 12 [p] h0 fun r h' => Gr h0 h' ∧ ∃ b, r = .slice (some ⟨b, 0, some 1⟩) m.length m.length ∧ h0.n ≤ b ∧ Row h' b (ints m) 1 := by
  have S := St.init (M := NoM) ok
  obtain ⟨b, v, rfl, r, s, _, _⟩ := c
  have l0 := r.load1 (o := 0) rfl
  refine enter_ret (n := 10) (rs := [.tmp 2]) rfl Tryz.e12 rfl rfl rfl (Nat.le_of_ble_eq_true rfl) ?_
  simp only [BS, Nat.add_zero, Nat.reduceLT, Nat.reduceEqDiff, if_true, if_false, List.map_cons, List.map_nil, List.append_nil, List.nil_append, eq_self, Tryz.FFt1612, l0]
  have k0 := S.fr.n
  refine step_ret (cloneIntG_ok S.ok s h1 hl) ?_; intro v h ⟨g, b', e, n1, R⟩; replace S := S.call g; clear g
  subst e
  simp only [BS, tupleOf, Nat.reduceLT, Nat.reduceEqDiff, if_true, if_false, eq_self]
  exact ⟨S.gr, b', rfl, n1, R⟩
theorem worksFlag_ok {h0 : Hp} (ok : h0.t.Sized h0.n) : Pure Tryz.abEnv 10 [] h0 (.bool true) := ret_orc rfl ⟨rfl, Gr.refl ok⟩
theorem lmax_zero {m : List Int} (h1 : 1 ≤ m.length) (h0 : 0 ≤ lmax m) : lmax (m ++ [0]) = lmax m := by
  cases m with
  | nil => simp at h1
  | cons x xs =>
    rw [List.cons_append, lmax, lmax, List.foldl_append]
    rw [lmax] at h0
    simp only [List.foldl_cons, List.foldl_nil]
    omega
theorem flagFitsLaw_ok {h0 : Hp} (ok : h0.t.Sized h0.n) {vB vO : Value} {B O : List Int} {a w : Nat} (hB : SlW h0 .u8 vB B) (hO : SlW h0 .u8 vO O) (cO : ∀ x ∈ O, 0 ≤ x ∧ x ≤ 255) :
    Pure Tryz.abEnv 3 [.agg ⟨[vB, vO]⟩, .int .u8 (a : Nat), .int .u8 (w : Nat)] h0 (.bool true) := by
  have S := St.init (M := NoM) ok
  have fB := hB.sl.fl
  have fO := hO.sl.fl
  refine enter_ret (n := 79) (rs := [.tmp 6]) rfl Tryz.e3 rfl rfl rfl (Nat.le_of_ble_eq_true rfl) ?_
  simp only [BS, Nat.reduceLT]
  refine step_newS (box_new (by intro x e; cases e)) S ?_; clear S; intro h b3 S n_b3; simp only [vcells] at S
  simp only [BS, Nat.reduceLT, Nat.reduceEqDiff, if_true, if_false, List.map_cons, List.map_nil, List.append_nil, List.nil_append, eq_self, Tryz.FFt163, List.drop_zero, List.take_succ_cons, List.take_zero, S.lds (b := b3) (o := 0) (n := 2) (by first | exact m0 | exact m1 | exact m2 | exact m3 | exact m4 | exact m5 | exact m6 | exact m7) (Nat.le_of_ble_eq_true rfl)]
  have hB' : SlW h .u8 vB B := hB.imp (fun h => h) (fun ⟨b, o, c, h1, h2, h3⟩ => ⟨b, o, c, h1, h2, S.old h3 (fun h => h)⟩)
  have hO' : SlW h .u8 vO O := hO.imp (fun h => h) (fun ⟨b, o, c, h1, h2, h3⟩ => ⟨b, o, c, h1, h2, S.old h3 (fun h => h)⟩)
  refine step_ret (graph_ok S.ok hB' hO' cO) ?_; intro v h ⟨g, γ, vx, vy, va, p, q, m, er, hγ, ⟨kp, hp⟩, ⟨kq, hq⟩, lm, ga, bm⟩; replace S := S.call g; clear g
  subst er
  have n1 := hγ.n1
  have n2 := hγ.n2
  have many := hγ.many
  obtain ⟨bp, ep⟩ : ∃ b, p = ptrTo b := by obtain ⟨b, _, _, _, _, _, e, _⟩ := hp.ex; exact ⟨b, e⟩
  obtain ⟨bq, eq⟩ : ∃ b, q = ptrTo b := by obtain ⟨b, _, e, _⟩ := hq; exact ⟨b, e⟩
  subst ep eq
  simp only [BS, Nat.reduceLT, Nat.reduceEqDiff, if_true, if_false, eq_self, Tryz.FFt163, rawV]
  have g0 := S.gr
  clear S; have S := St.init (M := NoM) g0.ok
  refine step_newS allocR_new S ?_; clear S; intro h b7 S n_b7
  have fx := ga.X.fl
  have fy := ga.Y.fl
  have fa := ga.A.fl
  simp only [BS, Nat.reduceLT, Nat.reduceEqDiff, if_true, if_false, eq_self]
  refine step_u (S.store (i := 0) rfl Tryz.s28 (by intro x e; cases e) rfl (by simp only [vcells, List.all_cons, List.all_nil, fx.2.1, fy.2.1, fa.2.1, Bool.and_true]; rfl) (Nat.le_of_ble_eq_true rfl) Nat.one_ne_zero) ?_
  clear S; rintro h ⟨S, _⟩
  simp only [List.set_cons_zero, List.set_cons_succ, vcells, lay, List.take, List.drop, List.nil_append, List.cons_append, List.append_nil, List.length_cons, List.length_nil, Nat.reduceAdd, Nat.add_zero] at S
  replace hp := hp.gr S.gr
  replace hq := hq.gr S.gr
  have gaA := ga.A.gr S.gr
  simp only [BS, Nat.reduceLT, Nat.reduceEqDiff, if_true, if_false, List.map_nil, List.append_nil, List.getElem?_cons_zero, List.getElem?_cons_succ, Bool.not_false, eq_self, Tryz.FFt163]
  refine step_pure (worksFlag_ok S.ok) ?_; intro h g; replace S := S.call g; replace hp := hp.gr g; replace hq := hq.gr g; replace gaA := gaA.gr g; clear g
  simp only [BS, Nat.reduceLT, Nat.reduceEqDiff, if_true, if_false, List.map_cons, List.map_nil, List.append_nil, List.nil_append, List.getElem?_cons_zero, List.getElem?_cons_succ, Bool.not_true, Bool.not_false, eq_self]
  have r7 := S.row (b := b7) m0
  have g1 := g0.trans S.gr
  clear S g0 ga fx fy fa
  refine step_ret (mapG_ok g1.ok hq (by omega) (by omega)) ?_
  intro v hM ⟨g, bM, e, nM, R⟩
  subst e
  have S : St (· = bM) hM hM [] [(.slice (some ⟨bM, 0, some 1⟩) m.length m.length, 1, ints m)] :=
    ⟨Mo.refl g.ok, fun _ h => (by cases h), fun p hp => by
      simp only [List.mem_singleton] at hp
      subst hp
      exact ⟨.inr ⟨bM, m.length, rfl, by rw [ints_len, Nat.mul_one], R⟩, fun b e => by cases e; exact .inr rfl⟩, by simp [keys, gkey]⟩
  simp only [BS, List.map_cons, List.map_nil]
  refine step_newS (bs_new (by first | exact Tryz.u22 | exact Tryz.u25 | exact Tryz.u26 | exact Tryz.u35 | exact Tryz.u150) (by first | exact Tryz.e2E | exact Tryz.e3E | exact Tryz.e5E | exact Tryz.e35E | exact Tryz.e60E) (by decide) (by first | rfl | exact fillE )) S ?_; clear S; intro h bs S n_bs; simp only [repL, setL, vcells, List.cons_append, List.nil_append, List.append_nil, List.set_cons_zero, List.set_cons_succ, Nat.reduceMul, Nat.reduceAdd, Nat.zero_mul, Nat.zero_add, Nat.mul_one, Nat.one_mul] at S
  simp only [BS, Nat.reduceLT, Nat.reduceEqDiff, if_true, if_false, eq_self]
  refine step_v (S.grow (j := 0) (m := 1) (new := ints [0]) rfl Tryz.u35 Tryz.e3E (by decide) Tryz.n35 (by simp only [srcCells]; rw [S.lds (b := bs) (o := 0) (n := 1 * 1) m0 (Nat.le_of_ble_eq_true rfl)]; rfl) rfl (by decide) rfl (by rw [ints_len, ints_len]; simp; omega)) ?_
  clear S
  rintro h vX S
  simp only [List.set_cons_zero] at S
  rw [← ints_app] at S
  have sl : SlAt h 1 (encI .i64) vX (m ++ [0]) := (S.gown _ m0).1.sl rfl (fun _ => rfl) (by decide)
  have gT := (g.fr.trans S.fr (fun b e => .inr (by subst e; exact nM)) : Mo NoM _ _).gr
  replace hp := hp.gr gT
  replace hq := hq.gr gT
  replace gaA := gaA.gr gT
  replace r7 := r7.gr gT
  replace g1 := g1.trans gT
  clear S R g gT
  simp only [BS, Nat.reduceLT, Nat.reduceEqDiff, if_true, if_false, List.map_cons, List.map_nil, List.append_nil, List.nil_append, eq_self]
  have lz := lmax_zero (m := m) (by omega) bm.1
  refine step_ret (cellNew_ok g1.ok sl (by rw [List.length_append]; simp; omega) (by rw [lz]; omega)) ?_
  rintro vC h ⟨g, hc⟩
  have hC : ∃ mo no, CellsOr h vC mo no ∧ mo.length ≠ γ.nodes ∧ mo.length < 1000 := by
    rcases hc with ⟨_, e⟩ | ⟨_, c⟩
    · exact ⟨[], 0, .inl ⟨e, rfl, rfl⟩, by simp; omega, by simp⟩
    · exact ⟨m ++ [0], _, .inr ⟨⟨_, c⟩, rfl⟩, by simp; omega, by simp; omega⟩
  obtain ⟨mo, no, hC, nC, lC⟩ := hC
  replace hp := hp.gr g
  have hQ : CellsOr h (ptrTo bq) m (lmax m + 1) := .inr ⟨⟨_, hq.gr g⟩, rfl⟩
  replace gaA := gaA.gr g
  replace r7 := r7.gr g
  replace g1 := g1.trans g
  clear g hc sl
  have ta : (a : Int).tmod 6 = ((a % 6 : Nat) : Int) := by rw [Int.tmod_eq_emod_of_nonneg (by omega)]; exact (Int.natCast_emod _ _).symm
  have tw : (w : Int).tmod 50 = ((w % 50 : Nat) : Int) := by rw [Int.tmod_eq_emod_of_nonneg (by omega)]; exact (Int.natCast_emod _ _).symm
  have wa : wrapI .i64 ((a % 6 : Nat) : Int) = ((a % 6 : Nat) : Int) := by rw [wrap64] <;> omega
  have ww : wrapI .i64 ((w % 50 : Nat) : Int) = ((w % 50 : Nat) : Int) := by rw [wrap64] <;> omega
  simp only [BS, convV, convKind, convP, Nat.reduceLT, Nat.reduceEqDiff, if_true, if_false, List.map_cons, List.map_nil, List.append_nil, List.nil_append, eq_self, Tryz.FFt163, b_rem (n := 6) (by decide), b_rem (n := 50) (by decide), ta, tw, wa, ww]
  refine step_ret (bitsNew_ok g1.ok (a := a % 6) (w := w % 50) (by omega) (by omega)) ?_
  rintro vR h ⟨g, hR⟩
  replace hp := hp.gr g
  replace hQ := hQ.gr g
  replace hC := hC.gr g
  replace gaA := gaA.gr g
  replace r7 := r7.gr g
  replace g1 := g1.trans g
  clear g
  by_cases hA : ((a % 6 : Nat) : Int) = lmax m + 1
  · by_cases hW : ((w % 50 : Nat) : Int) = (γ.arcs.length : Int)
    · skip
      simp only [BS, Nat.reduceLT, Nat.reduceEqDiff, if_true, if_false, List.map_cons, List.map_nil, List.append_nil, List.nil_append, eq_self, b_rem (n := 6) (by decide), b_rem (n := 50) (by decide), lm, eq_true hA, eq_true hW]
      refine step_pure (flagFits_ok g1.ok hp hQ hR n1 (by omega)) ?_; intro h g; replace hp := hp.gr g; replace hQ := hQ.gr g; replace hC := hC.gr g; replace hR := hR.gr g; replace gaA := gaA.gr g; replace r7 := r7.gr g; replace g1 := g1.trans g; clear g
      simp only [BS, convV, convKind, convP, Nat.reduceLT, Nat.reduceEqDiff, if_true, if_false, List.map_cons, List.map_nil, List.append_nil, List.nil_append, Bool.and_true, decide_true, eq_self, Tryz.FFt163, b_rem (n := 6) (by decide), b_rem (n := 50) (by decide), ta, wa, lm, eq_true hA, eq_true hW]
      refine step_pure (many_ok g1.ok hQ) ?_; intro h g; replace hp := hp.gr g; replace hQ := hQ.gr g; replace hC := hC.gr g; replace hR := hR.gr g; replace gaA := gaA.gr g; replace r7 := r7.gr g; replace g1 := g1.trans g; clear g
      have l7 := r7.load1 (o := 3) rfl
      simp only [BS, convV, convKind, convP, Nat.reduceLT, Nat.reduceEqDiff, if_true, if_false, cond_true, List.map_cons, List.map_nil, List.append_nil, List.nil_append, List.getElem?_cons_zero, List.getElem?_cons_succ, Nat.zero_add, Bool.not_true, decide_true, eq_self, Tryz.FFt163, b_rem (n := 6) (by decide), b_rem (n := 50) (by decide), tw, ww, eq_true hA, eq_true hW, l7, gaA.lenq]
      refine step_pure (ofNil_ok g1.ok hp hC n1 (by omega) nC) ?_; intro h g; replace hp := hp.gr g; replace hQ := hQ.gr g; replace hC := hC.gr g; replace hR := hR.gr g; replace gaA := gaA.gr g; replace r7 := r7.gr g; replace g1 := g1.trans g; clear g
      simp only [BS, Nat.reduceLT, Nat.reduceEqDiff, if_true, if_false, List.map_cons, List.map_nil, List.append_nil, List.nil_append, List.getElem?_cons_zero, List.getElem?_cons_succ, eq_self, Tryz.FFt163, b_rem (n := 6) (by decide), b_rem (n := 50) (by decide), eq_true hA, eq_true hW]
      refine step_pure (flagFits_ok g1.ok hp hC hR n1 (by omega)) ?_; intro h g; replace hp := hp.gr g; replace hQ := hQ.gr g; replace hC := hC.gr g; replace hR := hR.gr g; replace gaA := gaA.gr g; replace r7 := r7.gr g; replace g1 := g1.trans g; clear g
      simp only [BS, Nat.reduceLT, Nat.reduceEqDiff, if_true, if_false, List.map_cons, List.map_nil, List.append_nil, List.nil_append, List.getElem?_cons_zero, List.getElem?_cons_succ, Bool.and_true, Bool.false_and, Bool.not_false, decide_true, decide_false, eq_self, b_rem (n := 6) (by decide), b_rem (n := 50) (by decide), eq_true hA, eq_true hW, nC]
      refine step_pure (flagFits_ok g1.ok hp hQ (.inl ⟨rfl, rfl, rfl, rfl⟩ : BitsAt _ (.pointer none) 0 0 false) n1 (by omega)) ?_; intro h g; replace hp := hp.gr g; replace hQ := hQ.gr g; replace hC := hC.gr g; replace hR := hR.gr g; replace gaA := gaA.gr g; replace r7 := r7.gr g; replace g1 := g1.trans g; clear g
      simp only [BS, tupleOf, Nat.reduceLT, Nat.reduceEqDiff, if_true, if_false, List.getElem?_cons_zero, List.getElem?_cons_succ, Bool.and_false, Bool.false_and, true_and, Bool.not_false, decide_true, eq_self, b_rem (n := 6) (by decide), b_rem (n := 50) (by decide), lm, eq_true hA, eq_true hW]
      exact g1
    · skip
      simp only [BS, Nat.reduceLT, Nat.reduceEqDiff, if_true, if_false, List.map_cons, List.map_nil, List.append_nil, List.nil_append, eq_self, b_rem (n := 6) (by decide), b_rem (n := 50) (by decide), lm, eq_true hA]
      refine step_pure (flagFits_ok g1.ok hp hQ hR n1 (by omega)) ?_; intro h g; replace hp := hp.gr g; replace hQ := hQ.gr g; replace hC := hC.gr g; replace hR := hR.gr g; replace gaA := gaA.gr g; replace r7 := r7.gr g; replace g1 := g1.trans g; clear g
      simp only [BS, convV, convKind, convP, Nat.reduceLT, Nat.reduceEqDiff, if_true, if_false, List.map_cons, List.map_nil, List.append_nil, List.nil_append, Bool.and_true, Bool.and_false, decide_true, decide_false, eq_self, Tryz.FFt163, b_rem (n := 6) (by decide), b_rem (n := 50) (by decide), ta, wa, lm, eq_true hA, hW]
      refine step_pure (many_ok g1.ok hQ) ?_; intro h g; replace hp := hp.gr g; replace hQ := hQ.gr g; replace hC := hC.gr g; replace hR := hR.gr g; replace gaA := gaA.gr g; replace r7 := r7.gr g; replace g1 := g1.trans g; clear g
      have l7 := r7.load1 (o := 3) rfl
      simp only [BS, convV, convKind, convP, Nat.reduceLT, Nat.reduceEqDiff, if_true, if_false, cond_false, List.map_cons, List.map_nil, List.append_nil, List.nil_append, List.getElem?_cons_zero, List.getElem?_cons_succ, Nat.zero_add, Bool.not_false, decide_true, decide_false, eq_self, Tryz.FFt163, b_rem (n := 6) (by decide), b_rem (n := 50) (by decide), tw, ww, eq_true hA, hW, l7, gaA.lenq]
      refine step_pure (ofNil_ok g1.ok hp hC n1 (by omega) nC) ?_; intro h g; replace hp := hp.gr g; replace hQ := hQ.gr g; replace hC := hC.gr g; replace hR := hR.gr g; replace gaA := gaA.gr g; replace r7 := r7.gr g; replace g1 := g1.trans g; clear g
      simp only [BS, Nat.reduceLT, Nat.reduceEqDiff, if_true, if_false, List.map_cons, List.map_nil, List.append_nil, List.nil_append, List.getElem?_cons_zero, List.getElem?_cons_succ, eq_self, Tryz.FFt163, b_rem (n := 6) (by decide), b_rem (n := 50) (by decide), eq_true hA]
      refine step_pure (flagFits_ok g1.ok hp hC hR n1 (by omega)) ?_; intro h g; replace hp := hp.gr g; replace hQ := hQ.gr g; replace hC := hC.gr g; replace hR := hR.gr g; replace gaA := gaA.gr g; replace r7 := r7.gr g; replace g1 := g1.trans g; clear g
      simp only [BS, Nat.reduceLT, Nat.reduceEqDiff, if_true, if_false, List.map_cons, List.map_nil, List.append_nil, List.nil_append, List.getElem?_cons_zero, List.getElem?_cons_succ, Bool.and_true, Bool.and_false, Bool.false_and, Bool.not_false, decide_false, eq_self, b_rem (n := 6) (by decide), b_rem (n := 50) (by decide), eq_true hA, hW, nC]
      refine step_pure (flagFits_ok g1.ok hp hQ (.inl ⟨rfl, rfl, rfl, rfl⟩ : BitsAt _ (.pointer none) 0 0 false) n1 (by omega)) ?_; intro h g; replace hp := hp.gr g; replace hQ := hQ.gr g; replace hC := hC.gr g; replace hR := hR.gr g; replace gaA := gaA.gr g; replace r7 := r7.gr g; replace g1 := g1.trans g; clear g
      simp only [BS, tupleOf, Nat.reduceLT, Nat.reduceEqDiff, if_true, if_false, List.getElem?_cons_zero, List.getElem?_cons_succ, Bool.and_false, Bool.false_and, true_and, Bool.not_false, decide_true, eq_self, b_rem (n := 6) (by decide), b_rem (n := 50) (by decide), lm, eq_true hA]
      exact g1
  · skip
    simp only [BS, Nat.reduceLT, Nat.reduceEqDiff, if_true, if_false, List.map_cons, List.map_nil, List.append_nil, List.nil_append, eq_self, b_rem (n := 6) (by decide), b_rem (n := 50) (by decide), lm]
    refine step_pure (flagFits_ok g1.ok hp hQ hR n1 (by omega)) ?_; intro h g; replace hp := hp.gr g; replace hQ := hQ.gr g; replace hC := hC.gr g; replace hR := hR.gr g; replace gaA := gaA.gr g; replace r7 := r7.gr g; replace g1 := g1.trans g; clear g
    simp only [BS, convV, convKind, convP, Nat.reduceLT, Nat.reduceEqDiff, if_true, if_false, List.map_cons, List.map_nil, List.append_nil, List.nil_append, Bool.and_true, Bool.and_false, Bool.false_and, decide_true, decide_false, eq_self, Tryz.FFt163, b_rem (n := 6) (by decide), b_rem (n := 50) (by decide), ta, wa, lm, hA]
    refine step_pure (many_ok g1.ok hQ) ?_; intro h g; replace hp := hp.gr g; replace hQ := hQ.gr g; replace hC := hC.gr g; replace hR := hR.gr g; replace gaA := gaA.gr g; replace r7 := r7.gr g; replace g1 := g1.trans g; clear g
    have l7 := r7.load1 (o := 3) rfl
    simp only [BS, Nat.reduceLT, Nat.reduceEqDiff, if_true, if_false, cond_false, List.map_cons, List.map_nil, List.append_nil, List.nil_append, List.getElem?_cons_zero, List.getElem?_cons_succ, Bool.not_false, decide_false, eq_self, Tryz.FFt163, b_rem (n := 6) (by decide), b_rem (n := 50) (by decide), hA]
    refine step_pure (ofNil_ok g1.ok hp hC n1 (by omega) nC) ?_; intro h g; replace hp := hp.gr g; replace hQ := hQ.gr g; replace hC := hC.gr g; replace hR := hR.gr g; replace gaA := gaA.gr g; replace r7 := r7.gr g; replace g1 := g1.trans g; clear g
    simp only [BS, Nat.reduceLT, Nat.reduceEqDiff, if_true, if_false, List.map_cons, List.map_nil, List.append_nil, List.nil_append, List.getElem?_cons_zero, List.getElem?_cons_succ, eq_self, Tryz.FFt163, b_rem (n := 6) (by decide), b_rem (n := 50) (by decide)]
    refine step_pure (flagFits_ok g1.ok hp hC hR n1 (by omega)) ?_; intro h g; replace hp := hp.gr g; replace hQ := hQ.gr g; replace hC := hC.gr g; replace hR := hR.gr g; replace gaA := gaA.gr g; replace r7 := r7.gr g; replace g1 := g1.trans g; clear g
    simp only [BS, Nat.reduceLT, Nat.reduceEqDiff, if_true, if_false, List.map_cons, List.map_nil, List.append_nil, List.nil_append, List.getElem?_cons_zero, List.getElem?_cons_succ, Bool.and_true, Bool.false_and, Bool.not_false, decide_false, eq_self, b_rem (n := 6) (by decide), b_rem (n := 50) (by decide), nC]
    refine step_pure (flagFits_ok g1.ok hp hQ (.inl ⟨rfl, rfl, rfl, rfl⟩ : BitsAt _ (.pointer none) 0 0 false) n1 (by omega)) ?_; intro h g; replace hp := hp.gr g; replace hQ := hQ.gr g; replace hC := hC.gr g; replace hR := hR.gr g; replace gaA := gaA.gr g; replace r7 := r7.gr g; replace g1 := g1.trans g; clear g
    simp only [BS, tupleOf, Nat.reduceLT, Nat.reduceEqDiff, if_true, if_false, List.getElem?_cons_zero, List.getElem?_cons_succ, Bool.and_false, Bool.false_and, true_and, Bool.not_false, decide_true, eq_self, b_rem (n := 6) (by decide), b_rem (n := 50) (by decide), lm]
    exact g1
end Go.Ab

end
