/- The seat's functions, as equations. -/
import Derived.Test.YtdniadhpgohccaaGreatDoorQ1
import Derived.Test.YtdniadhpgohccaaGreatDoorL1
set_option linter.unusedVariables false
set_option linter.unusedSimpArgs false
set_option maxRecDepth 100000
set_option linter.unusedVariables false
namespace Dv
open Go
noncomputable abbrev zaw : List TI := funTI EE z3e
noncomputable def zet (a0_0 a0_1 a1_0 a1_1 a2_0 a2_1 a2_2 : Int) : Option PV := callF EE z3e [(.agg [(.int IntKind.i64 a0_0), (.int IntKind.i64 a0_1)]), (.agg [(.int IntKind.i64 a1_0), (.int IntKind.i64 a1_1)]), (.agg [(.int IntKind.i64 a2_0), (.int IntKind.i64 a2_1), (.int IntKind.i64 a2_2)])]
noncomputable def zbn  : Option PV :=
 runW EE zaw (z4 EE z3e 5 (mkT 58 []) [])
noncomputable def z4z (x0 x1 x2 x3 x4 : Int) : Option PV :=
 runW EE zaw (z4 EE z3e 6 (mkT 58 [(4, (.ptr 0 0)), (5, (.ptr 1 0))]) [(.cells ze [(.int IntKind.i64 x0), (.int IntKind.i64 x1)] false), (.cells z1o [(.int IntKind.i64 x2), (.int IntKind.i64 x3), (.int IntKind.i64 x4)] false)])
noncomputable abbrev z2n : List TI := funTI EE z27
noncomputable def z13n (a0 : List UInt8) (a1_0 a1_1 a1_2 : Int) : Option PV := callF EE z27 [(.str a0), (.agg [(.int IntKind.i64 a1_0), (.int IntKind.i64 a1_1), (.int IntKind.i64 a1_2)])]
noncomputable def za2 (x0 : Bool) (x1 x2 x3 x4 x5 : Int) (x6 : List PV) : Option PV :=
 runW EE z2n (z4 EE z27 9 (mkT 54 [(3, (.ptr 0 0)), (4, (.ptr 1 0)), (7, (.ptr 2 0)), (10, (.bool x0))]) [(.cells z1o [(.int IntKind.i64 x1), (.int IntKind.i64 x2), (.int IntKind.i64 x3)] false), (.cells z1w [(.int IntKind.i64 x4), (.int IntKind.i64 x5)] false), (.cells z2 [(.sl 1 x6)] false)])
noncomputable def zb9 (x0 : Bool) (x1 : List PV) (x2 x3 x4 x5 x6 x7 x8 x9 : Int) (x10 : Bool) (x11 : Bool) (x12 : Int) : Option PV :=
 runW EE z2n (z1m EE z1g 3 (mkT 79 [(0, (.ptr 0 0)), (1, (.bool x0)), (6, (.ptr 1 0))]) [(.cells z2 [(.sl 1 x1)] false), (.cells za [(.int IntKind.i64 x2), (.int IntKind.i64 x3), (.int IntKind.i64 x4)] false), (.cells z1o [(.int IntKind.i64 x5), (.int IntKind.i64 x6), (.int IntKind.i64 x7)] false), (.cells z1w [(.int IntKind.i64 x8), (.int IntKind.i64 x9)] false)] [frAt EE z27 9 3 (mkT 54 [(3, (.ptr 2 0)), (4, (.ptr 3 0)), (7, (.ptr 0 0)), (10, (.bool x10)), (31, (.bool x11)), (32, (.ptr 2 1)), (33, (.int IntKind.i64 x12))]) []] [])
noncomputable def z4x (x0 : Bool) (x1 : Int) (x2 : List PV) (x3 x4 x5 x6 x7 x8 x9 x10 : Int) (x11 : Bool) (x12 : Bool) (x13 : Int) : Option PV :=
 runW EE z2n (z1m EE z1g 5 (mkT 79 [(0, (.ptr 0 0)), (1, (.bool x0)), (2, (.int IntKind.i64 x1)), (6, (.ptr 1 0)), (8, .nili)]) [(.cells z2 [(.sl 1 x2)] false), (.cells za [(.int IntKind.i64 x3), (.int IntKind.i64 x4), (.int IntKind.i64 x5)] false), (.cells z1o [(.int IntKind.i64 x6), (.int IntKind.i64 x7), (.int IntKind.i64 x8)] false), (.cells z1w [(.int IntKind.i64 x9), (.int IntKind.i64 x10)] false)] [frAt EE z27 9 3 (mkT 54 [(3, (.ptr 2 0)), (4, (.ptr 3 0)), (7, (.ptr 0 0)), (10, (.bool x11)), (31, (.bool x12)), (32, (.ptr 2 1)), (33, (.int IntKind.i64 x13))]) []] [])
noncomputable def z7t (x0 : Bool) (x1 : List PV) (x2 x3 x4 x5 x6 x7 x8 x9 : Int) (x10 : List PV) (x11 : Bool) (x12 : Bool) (x13 : Int) : Option PV :=
 runW EE z2n (z1m EE z1g 8 (mkT 79 [(1, (.bool x0)), (6, (.ptr 0 0)), (8, (.iface zun (.sl 1 x1)))]) [(.cells za [(.int IntKind.i64 x2), (.int IntKind.i64 x3), (.int IntKind.i64 x4)] false), (.cells z1o [(.int IntKind.i64 x5), (.int IntKind.i64 x6), (.int IntKind.i64 x7)] false), (.cells z1w [(.int IntKind.i64 x8), (.int IntKind.i64 x9)] false), (.cells z2 [(.sl 1 x10)] false)] [frAt EE z27 9 3 (mkT 54 [(3, (.ptr 1 0)), (4, (.ptr 2 0)), (7, (.ptr 3 0)), (10, (.bool x11)), (31, (.bool x12)), (32, (.ptr 1 1)), (33, (.int IntKind.i64 x13))]) []] [])
noncomputable def z4w (x0 : Bool) (x1 : Int) (x2 : List UInt8) (x3 : Bool) (x4 x5 x6 x7 x8 x9 x10 x11 : Int) (x12 : List PV) (x13 : Bool) (x14 : Bool) (x15 : Int) : Option PV :=
 runW EE z2n (z1m EE z1g 6 (mkT 79 [(1, (.bool x0)), (2, (.int IntKind.i64 x1)), (6, (.ptr 0 0)), (8, .nili), (9, (.str x2)), (10, (.bool x3))]) [(.cells za [(.int IntKind.i64 x4), (.int IntKind.i64 x5), (.int IntKind.i64 x6)] false), (.cells z1o [(.int IntKind.i64 x7), (.int IntKind.i64 x8), (.int IntKind.i64 x9)] false), (.cells z1w [(.int IntKind.i64 x10), (.int IntKind.i64 x11)] false), (.cells z2 [(.sl 1 x12)] false)] [frAt EE z27 9 3 (mkT 54 [(3, (.ptr 1 0)), (4, (.ptr 2 0)), (7, (.ptr 3 0)), (10, (.bool x13)), (31, (.bool x14)), (32, (.ptr 1 1)), (33, (.int IntKind.i64 x15))]) []] [])
noncomputable def z10 (x0 x1 x2 x3 x4 x5 x6 x7 : Int) (x8 : List PV) (x9 : Bool) (x10 : Bool) (x11 : Int) : Option PV :=
 runW EE z2n (z1m EE z1g 12 (mkT 79 [(6, (.ptr 0 0))]) [(.cells za [(.int IntKind.i64 x0), (.int IntKind.i64 x1), (.int IntKind.i64 x2)] false), (.cells z1o [(.int IntKind.i64 x3), (.int IntKind.i64 x4), (.int IntKind.i64 x5)] false), (.cells z1w [(.int IntKind.i64 x6), (.int IntKind.i64 x7)] false), (.cells z2 [(.sl 1 x8)] false)] [frAt EE z27 9 3 (mkT 54 [(3, (.ptr 1 0)), (4, (.ptr 2 0)), (7, (.ptr 3 0)), (10, (.bool x9)), (31, (.bool x10)), (32, (.ptr 1 1)), (33, (.int IntKind.i64 x11))]) []] [])
noncomputable def z33 (x0 : Bool) (x1 x2 x3 x4 x5 x6 x7 x8 x9 x10 x11 : Int) (x12 : List PV) (x13 : Bool) (x14 : Bool) (x15 : Int) : Option PV :=
 runW EE z2n (z1m EE z1g 13 (mkT 79 [(1, (.bool x0)), (6, (.ptr 0 0)), (11, (.ptr 1 0))]) [(.cells za [(.int IntKind.i64 x1), (.int IntKind.i64 x2), (.int IntKind.i64 x3)] false), (.cells za [(.int IntKind.i64 x4), (.int IntKind.i64 x5), (.int IntKind.i64 x6)] false), (.cells z1o [(.int IntKind.i64 x7), (.int IntKind.i64 x8), (.int IntKind.i64 x9)] false), (.cells z1w [(.int IntKind.i64 x10), (.int IntKind.i64 x11)] false), (.cells z2 [(.sl 1 x12)] false)] [frAt EE z27 9 3 (mkT 54 [(3, (.ptr 2 0)), (4, (.ptr 3 0)), (7, (.ptr 4 0)), (10, (.bool x13)), (31, (.bool x14)), (32, (.ptr 2 1)), (33, (.int IntKind.i64 x15))]) []] [])
noncomputable def za1 (x0 : Bool) (x1 : List UInt8) (x2 x3 x4 x5 x6 x7 x8 x9 : Int) (x10 : List PV) (x11 : Bool) (x12 : Bool) (x13 : Int) : Option PV :=
 runW EE z2n (z1m EE z1g 8 (mkT 79 [(1, (.bool x0)), (6, (.ptr 0 0)), (8, (.iface zum (.str x1)))]) [(.cells za [(.int IntKind.i64 x2), (.int IntKind.i64 x3), (.int IntKind.i64 x4)] false), (.cells z1o [(.int IntKind.i64 x5), (.int IntKind.i64 x6), (.int IntKind.i64 x7)] false), (.cells z1w [(.int IntKind.i64 x8), (.int IntKind.i64 x9)] false), (.cells z2 [(.sl 1 x10)] false)] [frAt EE z27 9 3 (mkT 54 [(3, (.ptr 1 0)), (4, (.ptr 2 0)), (7, (.ptr 3 0)), (10, (.bool x11)), (31, (.bool x12)), (32, (.ptr 1 1)), (33, (.int IntKind.i64 x13))]) []] [])
noncomputable def z41 (x0 : List UInt8) (x1 : Int) (x2 : List UInt8) (x3 : Nat) (x4 x5 x6 x7 x8 x9 x10 x11 : Int) (x12 : List PV) (x13 : Bool) (x14 : Int) (x15 : List UInt8) (x16 : List UInt8) (x17 : Int) (x18 : Bool) (x19 : Bool) (x20 : Int) : Option PV :=
 runW EE z2n (z1m EE zst 4 (mkT 37 [(0, (.str x0)), (1, (.int IntKind.i64 x1)), (12, (.ptr 0 0))]) [(.iter x2 x3), (.cells za [(.int IntKind.i64 x4), (.int IntKind.i64 x5), (.int IntKind.i64 x6)] false), (.cells z1o [(.int IntKind.i64 x7), (.int IntKind.i64 x8), (.int IntKind.i64 x9)] false), (.cells z1w [(.int IntKind.i64 x10), (.int IntKind.i64 x11)] false), (.cells z2 [(.sl 1 x12)] false)] [frAt EE z1g 7 2 (mkT 79 [(1, (.bool x13)), (2, (.int IntKind.i64 x14)), (6, (.ptr 1 0)), (8, .nili), (9, (.str x15)), (41, (.str x16)), (42, (.int IntKind.i64 x17))]) [], frAt EE z27 9 3 (mkT 54 [(3, (.ptr 2 0)), (4, (.ptr 3 0)), (7, (.ptr 4 0)), (10, (.bool x18)), (31, (.bool x19)), (32, (.ptr 2 1)), (33, (.int IntKind.i64 x20))]) []] [])
noncomputable def z6e (x0 : Bool) (x1 x2 x3 x4 x5 x6 x7 x8 : Int) (x9 : List PV) (x10 : Bool) (x11 : Bool) (x12 : Int) : Option PV :=
 runW EE z2n (z1m EE z1g 8 (mkT 79 [(1, (.bool x0)), (6, (.ptr 0 0)), (8, .nili)]) [(.cells za [(.int IntKind.i64 x1), (.int IntKind.i64 x2), (.int IntKind.i64 x3)] false), (.cells z1o [(.int IntKind.i64 x4), (.int IntKind.i64 x5), (.int IntKind.i64 x6)] false), (.cells z1w [(.int IntKind.i64 x7), (.int IntKind.i64 x8)] false), (.cells z2 [(.sl 1 x9)] false)] [frAt EE z27 9 3 (mkT 54 [(3, (.ptr 1 0)), (4, (.ptr 2 0)), (7, (.ptr 3 0)), (10, (.bool x10)), (31, (.bool x11)), (32, (.ptr 1 1)), (33, (.int IntKind.i64 x12))]) []] [])
noncomputable def z3j (x0 : Bool) (x1 x2 : Int) (x3 : List PV) (x4 x5 x6 : Int) : Option PV :=
 runW EE z2n (z4 EE z27 10 (mkT 54 [(4, (.ptr 0 0)), (7, (.ptr 1 0)), (11, (.ptr 2 0)), (12, (.bool x0))]) [(.cells z1w [(.int IntKind.i64 x1), (.int IntKind.i64 x2)] false), (.cells z2 [(.sl 1 x3)] false), (.cells za [(.int IntKind.i64 x4), (.int IntKind.i64 x5), (.int IntKind.i64 x6)] false)])
noncomputable def z4d (x0 x1 x2 x3 x4 x5 x6 x7 x8 x9 x10 : Int) (x11 : List PV) (x12 : Bool) (x13 : Bool) (x14 : Int) : Option PV :=
 runW EE z2n (z1m EE z1g 15 (mkT 79 [(6, (.ptr 0 0)), (11, (.ptr 1 0))]) [(.cells za [(.int IntKind.i64 x0), (.int IntKind.i64 x1), (.int IntKind.i64 x2)] false), (.cells za [(.int IntKind.i64 x3), (.int IntKind.i64 x4), (.int IntKind.i64 x5)] false), (.cells z1o [(.int IntKind.i64 x6), (.int IntKind.i64 x7), (.int IntKind.i64 x8)] false), (.cells z1w [(.int IntKind.i64 x9), (.int IntKind.i64 x10)] false), (.cells z2 [(.sl 1 x11)] false)] [frAt EE z27 9 3 (mkT 54 [(3, (.ptr 2 0)), (4, (.ptr 3 0)), (7, (.ptr 4 0)), (10, (.bool x12)), (31, (.bool x13)), (32, (.ptr 2 1)), (33, (.int IntKind.i64 x14))]) []] [])
noncomputable def z40 (x0 : Bool) (x1 : List PV) (x2 x3 x4 x5 x6 x7 x8 x9 x10 : Int) (x11 : List PV) (x12 : Bool) (x13 : Bool) (x14 : Int) : Option PV :=
 runW EE z2n (z1m EE z1g 8 (mkT 79 [(1, (.bool x0)), (6, (.ptr 0 0)), (8, (.iface zlg (.agg [(.sl 1 x1), (.int IntKind.i64 x2)])))]) [(.cells za [(.int IntKind.i64 x3), (.int IntKind.i64 x4), (.int IntKind.i64 x5)] false), (.cells z1o [(.int IntKind.i64 x6), (.int IntKind.i64 x7), (.int IntKind.i64 x8)] false), (.cells z1w [(.int IntKind.i64 x9), (.int IntKind.i64 x10)] false), (.cells z2 [(.sl 1 x11)] false)] [frAt EE z27 9 3 (mkT 54 [(3, (.ptr 1 0)), (4, (.ptr 2 0)), (7, (.ptr 3 0)), (10, (.bool x12)), (31, (.bool x13)), (32, (.ptr 1 1)), (33, (.int IntKind.i64 x14))]) []] [])
noncomputable def zlv (x0 x1 : Int) : Option PV :=
 runW EE z2n (z4 EE z27 11 (mkT 54 [(4, (.ptr 0 0))]) [(.cells z1w [(.int IntKind.i64 x0), (.int IntKind.i64 x1)] false)])
noncomputable abbrev zeb : List TI := funTI EE z54
noncomputable def zje (a0 : List UInt8) (a1_0 a1_1 a1_2 : Int) : Option PV := callF EE z54 [(.str a0), (.agg [(.int IntKind.i64 a1_0), (.int IntKind.i64 a1_1), (.int IntKind.i64 a1_2)])]
noncomputable def zab (x0 x1 : Int) : Option PV :=
 runW EE zeb (z4 EE z54 2 (mkT 68 [(4, (.ptr 0 0))]) [(.cells z1w [(.int IntKind.i64 x0), (.int IntKind.i64 x1)] false)])
noncomputable def zga (x0 : List UInt8) (x1 x2 x3 x4 x5 : Int) : Option PV :=
 runW EE zeb (z4 EE z54 3 (mkT 68 [(0, (.str x0)), (3, (.ptr 0 0)), (4, (.ptr 1 0))]) [(.cells z1o [(.int IntKind.i64 x1), (.int IntKind.i64 x2), (.int IntKind.i64 x3)] false), (.cells z1w [(.int IntKind.i64 x4), (.int IntKind.i64 x5)] false)])
noncomputable def zr9 (a0 : List UInt8) (a1_0 a1_1 a1_2 : Int) : Option PV := callF EE zw1 [(.str a0), (.agg [(.int IntKind.i64 a1_0), (.int IntKind.i64 a1_1), (.int IntKind.i64 a1_2)])]
noncomputable abbrev zcx : List TI := funTI EE z4h
noncomputable def z91 (a0 : List UInt8) (a1_0 a1_1 a1_2 : Int) : Option PV := callF EE z4h [(.str a0), (.agg [(.int IntKind.i64 a1_0), (.int IntKind.i64 a1_1), (.int IntKind.i64 a1_2)])]
noncomputable def z4l (x0 x1 : Int) : Option PV :=
 runW EE zcx (z4 EE z4h 2 (mkT 48 [(4, (.ptr 0 0))]) [(.cells ze [(.int IntKind.i64 x0), (.int IntKind.i64 x1)] false)])
noncomputable def zep (x0 : List UInt8) (x1 x2 x3 x4 x5 : Int) : Option PV :=
 runW EE zcx (z4 EE z4h 3 (mkT 48 [(0, (.str x0)), (3, (.ptr 0 0)), (4, (.ptr 1 0))]) [(.cells z1o [(.int IntKind.i64 x1), (.int IntKind.i64 x2), (.int IntKind.i64 x3)] false), (.cells ze [(.int IntKind.i64 x4), (.int IntKind.i64 x5)] false)])
noncomputable abbrev zcz : List TI := funTI EE z4j
noncomputable def z94 (a0 : List UInt8) : Option PV := callF EE z4j [(.str a0)]
noncomputable def z3d (x0 : List UInt8) (x1 : Int) (x2 : List PV) : Option PV :=
 runW EE zcz (z4 EE z4j 3 (mkT 29 [(0, (.str x0)), (3, (.lall 0)), (4, (.int IntKind.i64 x1))]) [(.row zlf 1 x2 0 none)])
noncomputable def zes (x0 : List UInt8) (x1 x2 : Int) (x3 : List PV) : Option PV :=
 runW EE zcz (z4 EE z4j 7 (mkT 29 [(0, (.str x0)), (3, (.lall 0)), (4, (.int IntKind.i64 x1)), (5, (.int IntKind.u8 x2))]) [(.row zlf 1 x3 0 none)])
noncomputable abbrev z197 : List TI := funTI EE zj6
noncomputable def zke (a0_0 a0_1 a0_2 a0_3 a1_0 a1_1 a1_2 : Int) : Option PV := callF EE zj6 [(.agg [(.int IntKind.i64 a0_0), (.int IntKind.i64 a0_1), (.int IntKind.i64 a0_2), (.int IntKind.i64 a0_3)]), (.agg [(.int IntKind.i64 a1_0), (.int IntKind.i64 a1_1), (.int IntKind.i64 a1_2)])]
noncomputable def zzd (x0 x1 x2 x3 x4 x5 x6 : Int) : Option PV :=
 runW EE z197 (z4 EE zj6 3 (mkT 36 [(2, (.ptr 0 0)), (3, (.ptr 1 0))]) [(.cells zev [(.int IntKind.i64 x0), (.int IntKind.i64 x1), (.int IntKind.i64 x2), (.int IntKind.i64 x3)] false), (.cells z1o [(.int IntKind.i64 x4), (.int IntKind.i64 x5), (.int IntKind.i64 x6)] false)])
noncomputable def z95  : Option PV := callF EE zek []
noncomputable abbrev zuu : List TI := funTI EE zfx
noncomputable def zod (a0_0 a0_1 a1_0 a1_1 a1_2 : Int) : Option PV := callF EE zfx [(.agg [(.int IntKind.i64 a0_0), (.int IntKind.i64 a0_1)]), (.agg [(.int IntKind.i64 a1_0), (.int IntKind.i64 a1_1), (.int IntKind.i64 a1_2)])]
noncomputable def zoc  : Option PV :=
 runW EE zuu (z4 EE zfx 2 (mkT 34 []) [])
noncomputable def zzf (x0 x1 x2 x3 x4 : Int) : Option PV :=
 runW EE zuu (z4 EE zfx 3 (mkT 34 [(2, (.ptr 0 0)), (3, (.ptr 1 0))]) [(.cells z1w [(.int IntKind.i64 x0), (.int IntKind.i64 x1)] false), (.cells z1o [(.int IntKind.i64 x2), (.int IntKind.i64 x3), (.int IntKind.i64 x4)] false)])
noncomputable abbrev zs6 : List TI := funTI EE zdl
noncomputable def zxy (a0_0 a0_1 a1_0 a1_1 a1_2 : Int) : Option PV := callF EE zdl [(.agg [(.int IntKind.i64 a0_0), (.int IntKind.i64 a0_1)]), (.agg [(.int IntKind.i64 a1_0), (.int IntKind.i64 a1_1), (.int IntKind.i64 a1_2)])]
noncomputable def zlr  : Option PV :=
 runW EE zs6 (z4 EE zdl 2 (mkT 34 []) [])
noncomputable def zv5 (x0 x1 x2 x3 x4 : Int) : Option PV :=
 runW EE zs6 (z4 EE zdl 3 (mkT 34 [(2, (.ptr 0 0)), (3, (.ptr 1 0))]) [(.cells ze [(.int IntKind.i64 x0), (.int IntKind.i64 x1)] false), (.cells z1o [(.int IntKind.i64 x2), (.int IntKind.i64 x3), (.int IntKind.i64 x4)] false)])
noncomputable def zkj (a0 : List UInt8) : Option PV := callF EE zvx [(.str a0)]
noncomputable def zix (a0 : List PV) : Option PV := callF EE zox [(.sl 1 a0)]
noncomputable abbrev z163 : List TI := funTI EE zh5
noncomputable def zc8 (a0 : List UInt8) : Option PV := callF EE zh5 [(.str a0)]
noncomputable def zaj (x0 x1 : Int) (x2 : List PV) : Option PV :=
 runW EE z163 (z4 EE zh5 3 (mkT 29 [(3, (.lall 0)), (8, (.lall 0)), (9, (.int IntKind.i64 x0)), (10, (.int IntKind.i64 x1))]) [(.row zlf 1 x2 0 none)])
noncomputable def z7h (a0 a1 a2 : Int) : Option PV := callF EE zg1 [(.int IntKind.i64 a0), (.int IntKind.i64 a1), (.int IntKind.i64 a2)]
noncomputable def z19w (a0 : List UInt8) (a1_0 a1_1 a1_2 : Int) : Option PV := callF EE z14j [(.str a0), (.agg [(.int IntKind.i64 a1_0), (.int IntKind.i64 a1_1), (.int IntKind.i64 a1_2)])]
noncomputable def zwl (a0 a1 a2 : Int) : Option PV := callF EE z14m [(.int IntKind.i64 a0), (.int IntKind.i64 a1), (.int IntKind.i64 a2)]
noncomputable abbrev zcv : List TI := funTI EE z4f
noncomputable def z8w (a0 : List UInt8) : Option PV := callF EE z4f [(.str a0)]
noncomputable def z2l (x0 : List UInt8) (x1 x2 : Int) (x3 : List PV) : Option PV :=
 runW EE zcv (z4 EE z4f 4 (mkT 53 [(0, (.str x0)), (3, (.lall 0)), (4, (.int IntKind.i64 x1)), (5, (.int IntKind.i64 x2))]) [(.row z4e 1 x3 0 none)])
noncomputable def z21 (x0 : List UInt8) (x1 x2 : Int) (x3 : List PV) : Option PV :=
 runW EE zcv (z4 EE z4f 7 (mkT 53 [(0, (.str x0)), (3, (.lall 0)), (4, (.int IntKind.i64 x1)), (5, (.int IntKind.i64 x2))]) [(.row z4e 1 x3 0 none)])
noncomputable def z7f (a0 : List PV) : Option PV := callF EE zck [(.sl 1 a0)]
noncomputable abbrev znr : List TI := funTI EE z81
noncomputable def zau (a0 : List PV) : Option PV := callF EE z81 [(.sl 1 a0)]
noncomputable def z83 (x0 : List PV) (x1 : List UInt8) : Option PV :=
 runW EE znr (z4 EE z81 4 (mkT 28 [(0, (.sl 1 x0)), (4, (.str x1))]) [])
noncomputable abbrev z2j : List TI := funTI EE z1k
noncomputable def z9q (a0 : List PV) (a1 : Bool) (a2 : Int) : Option PV := callF EE z1k [(.sl 1 a0), (.bool a1), (.int IntKind.i64 a2)]
noncomputable def z7g (x0 : List PV) (x1 : Bool) (x2 x3 x4 : Int) (x5 : Bool) : Option PV :=
 runW EE z2j (z4 EE z1k 6 (mkT 86 [(0, (.sl 1 x0)), (1, (.bool x1)), (12, (.ptr 0 0))]) [(.cells zg [(.int IntKind.i64 x2), (.int IntKind.i64 x3), (.int IntKind.i64 x4), (.bool x5)] false)])
noncomputable def z57 (x0 : List PV) (x1 : Bool) (x2 x3 x4 x5 : Int) (x6 : Bool) : Option PV :=
 runW EE z2j (z4 EE z1k 8 (mkT 86 [(0, (.sl 1 x0)), (1, (.bool x1)), (11, (.int IntKind.i64 x2)), (12, (.ptr 0 0))]) [(.cells zg [(.int IntKind.i64 x3), (.int IntKind.i64 x4), (.int IntKind.i64 x5), (.bool x6)] false)])
noncomputable def z3q  : Option PV :=
 runW EE z2j (z4 EE z1k 9 (mkT 86 []) [])
noncomputable def zen (x0 : List PV) (x1 : Bool) (x2 x3 x4 x5 : Int) (x6 : Bool) : Option PV :=
 runW EE z2j (z4 EE z1k 10 (mkT 86 [(0, (.sl 1 x0)), (1, (.bool x1)), (11, (.int IntKind.i64 x2)), (12, (.ptr 0 0))]) [(.cells zg [(.int IntKind.i64 x3), (.int IntKind.i64 x4), (.int IntKind.i64 x5), (.bool x6)] false)])
noncomputable def z6r (x0 : List PV) (x1 x2 x3 x4 : Int) (x5 : Bool) : Option PV :=
 runW EE z2j (z4 EE z1k 12 (mkT 86 [(0, (.sl 1 x0)), (11, (.int IntKind.i64 x1)), (12, (.ptr 0 0))]) [(.cells zg [(.int IntKind.i64 x2), (.int IntKind.i64 x3), (.int IntKind.i64 x4), (.bool x5)] false)])
noncomputable def z6q  : Option PV :=
 runW EE z2j (z4 EE z1k 13 (mkT 86 []) [])
noncomputable def zem (x0 : List PV) (x1 x2 x3 x4 : Int) (x5 : Bool) : Option PV :=
 runW EE z2j (z4 EE z1k 14 (mkT 86 [(0, (.sl 1 x0)), (11, (.int IntKind.i64 x1)), (12, (.ptr 0 0))]) [(.cells zg [(.int IntKind.i64 x2), (.int IntKind.i64 x3), (.int IntKind.i64 x4), (.bool x5)] false)])
noncomputable def z17f (a0 : List UInt8) : Option PV := callF EE zvy [(.str a0)]
noncomputable abbrev zp : List TI := funTI EE zn
noncomputable def ztr (a0 : List UInt8) (a1 : Int) (a2 : Bool) : Option PV := callF EE zn [(.str a0), (.int IntKind.i64 a1), (.bool a2)]
noncomputable def z7s (x0 : Int) (x1 : Bool) (x2 : Bool) (x3 x4 : Int) (x5 : List PV) : Option PV :=
 runW EE zp (z4 EE zn 3 (mkT 104 [(1, (.int IntKind.i64 x0)), (2, (.bool x1)), (6, (.ptr 0 0)), (9, (.ptr 1 0)), (10, (.bool x2))]) [(.cells ze [(.int IntKind.i64 x3), (.int IntKind.i64 x4)] false), (.cells z2 [(.sl 1 x5)] false)])
noncomputable def z9x (x0 : Bool) (x1 : List PV) (x2 x3 x4 x5 x6 x7 : Int) (x8 : Bool) (x9 : Bool) (x10 : Bool) (x11 : Int) : Option PV :=
 runW EE zp (z1m EE z1g 3 (mkT 79 [(0, (.ptr 0 0)), (1, (.bool x0)), (6, (.ptr 1 0))]) [(.cells z2 [(.sl 1 x1)] false), (.cells za [(.int IntKind.i64 x2), (.int IntKind.i64 x3), (.int IntKind.i64 x4)] false), (.cells ze [(.int IntKind.i64 x5), (.int IntKind.i64 x6)] false)] [frAt EE zn 3 2 (mkT 104 [(1, (.int IntKind.i64 x7)), (2, (.bool x8)), (6, (.ptr 2 0)), (9, (.ptr 0 0)), (10, (.bool x9)), (28, (.bool x10)), (29, (.int IntKind.i64 x11))]) []] [])
noncomputable def z3y (x0 : Bool) (x1 : Int) (x2 : List PV) (x3 x4 x5 x6 x7 x8 : Int) (x9 : Bool) (x10 : Bool) (x11 : Bool) (x12 : Int) : Option PV :=
 runW EE zp (z1m EE z1g 5 (mkT 79 [(0, (.ptr 0 0)), (1, (.bool x0)), (2, (.int IntKind.i64 x1)), (6, (.ptr 1 0)), (8, .nili)]) [(.cells z2 [(.sl 1 x2)] false), (.cells za [(.int IntKind.i64 x3), (.int IntKind.i64 x4), (.int IntKind.i64 x5)] false), (.cells ze [(.int IntKind.i64 x6), (.int IntKind.i64 x7)] false)] [frAt EE zn 3 2 (mkT 104 [(1, (.int IntKind.i64 x8)), (2, (.bool x9)), (6, (.ptr 2 0)), (9, (.ptr 0 0)), (10, (.bool x10)), (28, (.bool x11)), (29, (.int IntKind.i64 x12))]) []] [])
noncomputable def z6c (x0 : Bool) (x1 : List PV) (x2 x3 x4 x5 x6 : Int) (x7 : List PV) (x8 : Int) (x9 : Bool) (x10 : Bool) (x11 : Bool) (x12 : Int) : Option PV :=
 runW EE zp (z1m EE z1g 8 (mkT 79 [(1, (.bool x0)), (6, (.ptr 0 0)), (8, (.iface zun (.sl 1 x1)))]) [(.cells za [(.int IntKind.i64 x2), (.int IntKind.i64 x3), (.int IntKind.i64 x4)] false), (.cells ze [(.int IntKind.i64 x5), (.int IntKind.i64 x6)] false), (.cells z2 [(.sl 1 x7)] false)] [frAt EE zn 3 2 (mkT 104 [(1, (.int IntKind.i64 x8)), (2, (.bool x9)), (6, (.ptr 1 0)), (9, (.ptr 2 0)), (10, (.bool x10)), (28, (.bool x11)), (29, (.int IntKind.i64 x12))]) []] [])
noncomputable def z3x (x0 : Bool) (x1 : Int) (x2 : List UInt8) (x3 : Bool) (x4 x5 x6 x7 x8 : Int) (x9 : List PV) (x10 : Int) (x11 : Bool) (x12 : Bool) (x13 : Bool) (x14 : Int) : Option PV :=
 runW EE zp (z1m EE z1g 6 (mkT 79 [(1, (.bool x0)), (2, (.int IntKind.i64 x1)), (6, (.ptr 0 0)), (8, .nili), (9, (.str x2)), (10, (.bool x3))]) [(.cells za [(.int IntKind.i64 x4), (.int IntKind.i64 x5), (.int IntKind.i64 x6)] false), (.cells ze [(.int IntKind.i64 x7), (.int IntKind.i64 x8)] false), (.cells z2 [(.sl 1 x9)] false)] [frAt EE zn 3 2 (mkT 104 [(1, (.int IntKind.i64 x10)), (2, (.bool x11)), (6, (.ptr 1 0)), (9, (.ptr 2 0)), (10, (.bool x12)), (28, (.bool x13)), (29, (.int IntKind.i64 x14))]) []] [])
noncomputable def zw (x0 x1 x2 x3 x4 : Int) (x5 : List PV) (x6 : Int) (x7 : Bool) (x8 : Bool) (x9 : Bool) (x10 : Int) : Option PV :=
 runW EE zp (z1m EE z1g 12 (mkT 79 [(6, (.ptr 0 0))]) [(.cells za [(.int IntKind.i64 x0), (.int IntKind.i64 x1), (.int IntKind.i64 x2)] false), (.cells ze [(.int IntKind.i64 x3), (.int IntKind.i64 x4)] false), (.cells z2 [(.sl 1 x5)] false)] [frAt EE zn 3 2 (mkT 104 [(1, (.int IntKind.i64 x6)), (2, (.bool x7)), (6, (.ptr 1 0)), (9, (.ptr 2 0)), (10, (.bool x8)), (28, (.bool x9)), (29, (.int IntKind.i64 x10))]) []] [])
noncomputable def z2p (x0 : Bool) (x1 x2 x3 x4 x5 x6 x7 x8 : Int) (x9 : List PV) (x10 : Int) (x11 : Bool) (x12 : Bool) (x13 : Bool) (x14 : Int) : Option PV :=
 runW EE zp (z1m EE z1g 13 (mkT 79 [(1, (.bool x0)), (6, (.ptr 0 0)), (11, (.ptr 1 0))]) [(.cells za [(.int IntKind.i64 x1), (.int IntKind.i64 x2), (.int IntKind.i64 x3)] false), (.cells za [(.int IntKind.i64 x4), (.int IntKind.i64 x5), (.int IntKind.i64 x6)] false), (.cells ze [(.int IntKind.i64 x7), (.int IntKind.i64 x8)] false), (.cells z2 [(.sl 1 x9)] false)] [frAt EE zn 3 2 (mkT 104 [(1, (.int IntKind.i64 x10)), (2, (.bool x11)), (6, (.ptr 2 0)), (9, (.ptr 3 0)), (10, (.bool x12)), (28, (.bool x13)), (29, (.int IntKind.i64 x14))]) []] [])
noncomputable def z96 (x0 : Bool) (x1 : List UInt8) (x2 x3 x4 x5 x6 : Int) (x7 : List PV) (x8 : Int) (x9 : Bool) (x10 : Bool) (x11 : Bool) (x12 : Int) : Option PV :=
 runW EE zp (z1m EE z1g 8 (mkT 79 [(1, (.bool x0)), (6, (.ptr 0 0)), (8, (.iface zum (.str x1)))]) [(.cells za [(.int IntKind.i64 x2), (.int IntKind.i64 x3), (.int IntKind.i64 x4)] false), (.cells ze [(.int IntKind.i64 x5), (.int IntKind.i64 x6)] false), (.cells z2 [(.sl 1 x7)] false)] [frAt EE zn 3 2 (mkT 104 [(1, (.int IntKind.i64 x8)), (2, (.bool x9)), (6, (.ptr 1 0)), (9, (.ptr 2 0)), (10, (.bool x10)), (28, (.bool x11)), (29, (.int IntKind.i64 x12))]) []] [])
noncomputable def z3i (x0 : List UInt8) (x1 : Int) (x2 : List UInt8) (x3 : Nat) (x4 x5 x6 x7 x8 : Int) (x9 : List PV) (x10 : Bool) (x11 : Int) (x12 : List UInt8) (x13 : List UInt8) (x14 x15 : Int) (x16 : Bool) (x17 : Bool) (x18 : Bool) (x19 : Int) : Option PV :=
 runW EE zp (z1m EE zst 4 (mkT 37 [(0, (.str x0)), (1, (.int IntKind.i64 x1)), (12, (.ptr 0 0))]) [(.iter x2 x3), (.cells za [(.int IntKind.i64 x4), (.int IntKind.i64 x5), (.int IntKind.i64 x6)] false), (.cells ze [(.int IntKind.i64 x7), (.int IntKind.i64 x8)] false), (.cells z2 [(.sl 1 x9)] false)] [frAt EE z1g 7 2 (mkT 79 [(1, (.bool x10)), (2, (.int IntKind.i64 x11)), (6, (.ptr 1 0)), (8, .nili), (9, (.str x12)), (41, (.str x13)), (42, (.int IntKind.i64 x14))]) [], frAt EE zn 3 2 (mkT 104 [(1, (.int IntKind.i64 x15)), (2, (.bool x16)), (6, (.ptr 2 0)), (9, (.ptr 3 0)), (10, (.bool x17)), (28, (.bool x18)), (29, (.int IntKind.i64 x19))]) []] [])
noncomputable def z5h (x0 : Bool) (x1 x2 x3 x4 x5 : Int) (x6 : List PV) (x7 : Int) (x8 : Bool) (x9 : Bool) (x10 : Bool) (x11 : Int) : Option PV :=
 runW EE zp (z1m EE z1g 8 (mkT 79 [(1, (.bool x0)), (6, (.ptr 0 0)), (8, .nili)]) [(.cells za [(.int IntKind.i64 x1), (.int IntKind.i64 x2), (.int IntKind.i64 x3)] false), (.cells ze [(.int IntKind.i64 x4), (.int IntKind.i64 x5)] false), (.cells z2 [(.sl 1 x6)] false)] [frAt EE zn 3 2 (mkT 104 [(1, (.int IntKind.i64 x7)), (2, (.bool x8)), (6, (.ptr 1 0)), (9, (.ptr 2 0)), (10, (.bool x9)), (28, (.bool x10)), (29, (.int IntKind.i64 x11))]) []] [])
noncomputable def z2g (x0 : Bool) (x1 : Bool) (x2 x3 : Int) (x4 : List PV) (x5 x6 x7 : Int) : Option PV :=
 runW EE zp (z4 EE zn 4 (mkT 104 [(2, (.bool x0)), (6, (.ptr 0 0)), (9, (.ptr 1 0)), (11, (.ptr 2 0)), (12, (.bool x1))]) [(.cells ze [(.int IntKind.i64 x2), (.int IntKind.i64 x3)] false), (.cells z2 [(.sl 1 x4)] false), (.cells za [(.int IntKind.i64 x5), (.int IntKind.i64 x6), (.int IntKind.i64 x7)] false)])
noncomputable def z3s (x0 x1 x2 x3 x4 x5 x6 x7 : Int) (x8 : List PV) (x9 : Int) (x10 : Bool) (x11 : Bool) (x12 : Bool) (x13 : Int) : Option PV :=
 runW EE zp (z1m EE z1g 15 (mkT 79 [(6, (.ptr 0 0)), (11, (.ptr 1 0))]) [(.cells za [(.int IntKind.i64 x0), (.int IntKind.i64 x1), (.int IntKind.i64 x2)] false), (.cells za [(.int IntKind.i64 x3), (.int IntKind.i64 x4), (.int IntKind.i64 x5)] false), (.cells ze [(.int IntKind.i64 x6), (.int IntKind.i64 x7)] false), (.cells z2 [(.sl 1 x8)] false)] [frAt EE zn 3 2 (mkT 104 [(1, (.int IntKind.i64 x9)), (2, (.bool x10)), (6, (.ptr 2 0)), (9, (.ptr 3 0)), (10, (.bool x11)), (28, (.bool x12)), (29, (.int IntKind.i64 x13))]) []] [])
noncomputable def z3h (x0 : Bool) (x1 : List PV) (x2 x3 x4 x5 x6 x7 : Int) (x8 : List PV) (x9 : Int) (x10 : Bool) (x11 : Bool) (x12 : Bool) (x13 : Int) : Option PV :=
 runW EE zp (z1m EE z1g 8 (mkT 79 [(1, (.bool x0)), (6, (.ptr 0 0)), (8, (.iface zlg (.agg [(.sl 1 x1), (.int IntKind.i64 x2)])))]) [(.cells za [(.int IntKind.i64 x3), (.int IntKind.i64 x4), (.int IntKind.i64 x5)] false), (.cells ze [(.int IntKind.i64 x6), (.int IntKind.i64 x7)] false), (.cells z2 [(.sl 1 x8)] false)] [frAt EE zn 3 2 (mkT 104 [(1, (.int IntKind.i64 x9)), (2, (.bool x10)), (6, (.ptr 1 0)), (9, (.ptr 2 0)), (10, (.bool x11)), (28, (.bool x12)), (29, (.int IntKind.i64 x13))]) []] [])
noncomputable def zjq (x0 : Bool) (x1 : Bool) (x2 : Int) (x3 : List UInt8) (x4 : Int) (x5 : List UInt8) (x6 : Bool) (x7 x8 : Int) (x9 : List PV) (x10 x11 x12 : Int) : Option PV :=
 runW EE zp (z4 EE zn 6 (mkT 104 [(2, (.bool x0)), (6, (.ptr 0 0)), (9, (.ptr 1 0)), (11, (.ptr 2 0)), (12, (.bool x1)), (13, (.int IntKind.i64 x2)), (14, (.str x3)), (15, (.int IntKind.i64 x4)), (16, (.str x5)), (17, (.bool x6))]) [(.cells ze [(.int IntKind.i64 x7), (.int IntKind.i64 x8)] false), (.cells z2 [(.sl 1 x9)] false), (.cells za [(.int IntKind.i64 x10), (.int IntKind.i64 x11), (.int IntKind.i64 x12)] false)])
noncomputable def zsd (x0 : Bool) (x1 : Bool) (x2 : List UInt8) (x3 : List UInt8) (x4 x5 : Int) (x6 : List PV) (x7 x8 x9 : Int) : Option PV :=
 runW EE zp (z4 EE zn 7 (mkT 104 [(2, (.bool x0)), (6, (.ptr 0 0)), (9, (.ptr 1 0)), (11, (.ptr 2 0)), (12, (.bool x1)), (14, (.str x2)), (16, (.str x3))]) [(.cells ze [(.int IntKind.i64 x4), (.int IntKind.i64 x5)] false), (.cells z2 [(.sl 1 x6)] false), (.cells za [(.int IntKind.i64 x7), (.int IntKind.i64 x8), (.int IntKind.i64 x9)] false)])
noncomputable def zdf (x0 : Bool) (x1 : Bool) (x2 : Int) (x3 : List UInt8) (x4 x5 x6 : Int) (x7 : List PV) (x8 x9 x10 : Int) : Option PV :=
 runW EE zp (z4 EE zn 10 (mkT 104 [(2, (.bool x0)), (6, (.ptr 0 0)), (9, (.ptr 1 0)), (11, (.ptr 2 0)), (12, (.bool x1)), (13, (.int IntKind.i64 x2)), (14, (.str x3)), (15, (.int IntKind.i64 x4))]) [(.cells ze [(.int IntKind.i64 x5), (.int IntKind.i64 x6)] false), (.cells z2 [(.sl 1 x7)] false), (.cells za [(.int IntKind.i64 x8), (.int IntKind.i64 x9), (.int IntKind.i64 x10)] false)])
noncomputable def zjp (x0 : Bool) (x1 : Bool) (x2 : List UInt8) (x3 : List UInt8) (x4 x5 : Int) (x6 : List PV) (x7 x8 x9 : Int) : Option PV :=
 runW EE zp (z4 EE zn 9 (mkT 104 [(2, (.bool x0)), (6, (.ptr 0 0)), (9, (.ptr 1 0)), (11, (.ptr 2 0)), (12, (.bool x1)), (14, (.str x2)), (16, (.str x3))]) [(.cells ze [(.int IntKind.i64 x4), (.int IntKind.i64 x5)] false), (.cells z2 [(.sl 1 x6)] false), (.cells za [(.int IntKind.i64 x7), (.int IntKind.i64 x8), (.int IntKind.i64 x9)] false)])
noncomputable def zde (x0 : Bool) (x1 : Bool) (x2 : Int) (x3 : List UInt8) (x4 : Int) (x5 : List UInt8) (x6 : Bool) (x7 x8 : Int) (x9 : List PV) (x10 x11 x12 : Int) : Option PV :=
 runW EE zp (z4 EE zn 11 (mkT 104 [(2, (.bool x0)), (6, (.ptr 0 0)), (9, (.ptr 1 0)), (11, (.ptr 2 0)), (12, (.bool x1)), (13, (.int IntKind.i64 x2)), (14, (.str x3)), (15, (.int IntKind.i64 x4)), (18, (.str x5)), (19, (.bool x6))]) [(.cells ze [(.int IntKind.i64 x7), (.int IntKind.i64 x8)] false), (.cells z2 [(.sl 1 x9)] false), (.cells za [(.int IntKind.i64 x10), (.int IntKind.i64 x11), (.int IntKind.i64 x12)] false)])
noncomputable def za0 (x0 : Bool) (x1 x2 : Int) (x3 : List UInt8) (x4 x5 : Int) (x6 : List PV) (x7 x8 x9 : Int) : Option PV :=
 runW EE zp (z4 EE zn 13 (mkT 104 [(6, (.ptr 0 0)), (9, (.ptr 1 0)), (11, (.ptr 2 0)), (12, (.bool x0)), (13, (.int IntKind.i64 x1)), (15, (.int IntKind.i64 x2)), (18, (.str x3))]) [(.cells ze [(.int IntKind.i64 x4), (.int IntKind.i64 x5)] false), (.cells z2 [(.sl 1 x6)] false), (.cells za [(.int IntKind.i64 x7), (.int IntKind.i64 x8), (.int IntKind.i64 x9)] false)])
noncomputable def z9z (x0 : Bool) (x1 : Int) (x2 : List UInt8) (x3 x4 x5 : Int) (x6 : List PV) (x7 x8 x9 : Int) : Option PV :=
 runW EE zp (z4 EE zn 14 (mkT 104 [(6, (.ptr 0 0)), (9, (.ptr 1 0)), (11, (.ptr 2 0)), (12, (.bool x0)), (13, (.int IntKind.i64 x1)), (14, (.str x2)), (15, (.int IntKind.i64 x3))]) [(.cells ze [(.int IntKind.i64 x4), (.int IntKind.i64 x5)] false), (.cells z2 [(.sl 1 x6)] false), (.cells za [(.int IntKind.i64 x7), (.int IntKind.i64 x8), (.int IntKind.i64 x9)] false)])
noncomputable def z9y (x0 x1 : Int) : Option PV :=
 runW EE zp (z4 EE zn 15 (mkT 104 [(6, (.ptr 0 0))]) [(.cells ze [(.int IntKind.i64 x0), (.int IntKind.i64 x1)] false)])
noncomputable def zol (x0 : Int) (x1 : List UInt8) (x2 x3 x4 x5 x6 x7 : Int) : Option PV :=
 runW EE zp (z4 EE zn 16 (mkT 104 [(6, (.ptr 0 0)), (11, (.ptr 1 0)), (13, (.int IntKind.i64 x0)), (14, (.str x1)), (15, (.int IntKind.i64 x2))]) [(.cells ze [(.int IntKind.i64 x3), (.int IntKind.i64 x4)] false), (.cells za [(.int IntKind.i64 x5), (.int IntKind.i64 x6), (.int IntKind.i64 x7)] false)])
noncomputable def zdc (x0 x1 : Int) : Option PV :=
 runW EE zp (z4 EE zn 18 (mkT 104 [(6, (.ptr 0 0))]) [(.cells ze [(.int IntKind.i64 x0), (.int IntKind.i64 x1)] false)])
noncomputable def zok (x0 : Int) (x1 : List UInt8) (x2 x3 x4 x5 : Int) : Option PV :=
 runW EE zp (z4 EE zn 19 (mkT 104 [(6, (.ptr 0 0)), (13, (.int IntKind.i64 x0)), (14, (.str x1)), (20, (.ptr 1 0))]) [(.cells ze [(.int IntKind.i64 x2), (.int IntKind.i64 x3)] false), (.cells z1w [(.int IntKind.i64 x4), (.int IntKind.i64 x5)] false)])
noncomputable abbrev z59 : List TI := funTI EE z2b
noncomputable def z35 (a0 : List PV) (a1 : Int) (a2 : Bool) : Option PV := callF EE z2b [(.sl 1 a0), (.int IntKind.i64 a1), (.bool a2)]
noncomputable def z1v (x0 x1 : Int) : Option PV :=
 runW EE z59 (z4 EE z2b 4 (mkT 110 [(6, (.ptr 0 0))]) [(.cells ze [(.int IntKind.i64 x0), (.int IntKind.i64 x1)] false)])
noncomputable def z45 (x0 : Bool) (x1 x2 x3 : Int) (x4 : List PV) (x5 x6 : Int) : Option PV :=
 runW EE z59 (z4 EE z2b 5 (mkT 110 [(2, (.bool x0)), (6, (.ptr 0 0)), (10, (.int IntKind.i64 x1)), (11, (.int IntKind.i64 x2)), (12, (.int IntKind.i64 x3)), (13, (.sl 1 x4))]) [(.cells ze [(.int IntKind.i64 x5), (.int IntKind.i64 x6)] false)])
noncomputable def z8a (x0 x1 x2 : Int) (x3 : List PV) (x4 : List UInt8) (x5 : List UInt8) (x6 x7 : Int) : Option PV :=
 runW EE z59 (z4 EE z2b 12 (mkT 110 [(6, (.ptr 0 0)), (10, (.int IntKind.i64 x0)), (11, (.int IntKind.i64 x1)), (12, (.int IntKind.i64 x2)), (13, (.sl 1 x3)), (16, (.str x4)), (18, (.str x5))]) [(.cells ze [(.int IntKind.i64 x6), (.int IntKind.i64 x7)] false)])
noncomputable def z23 (x0 x1 x2 x3 : Int) (x4 : List UInt8) (x5 x6 x7 : Int) : Option PV :=
 runW EE z59 (z4 EE z2b 17 (mkT 110 [(6, (.ptr 0 0)), (10, (.int IntKind.i64 x0)), (11, (.int IntKind.i64 x1)), (12, (.int IntKind.i64 x2)), (15, (.int IntKind.i64 x3)), (16, (.str x4)), (17, (.int IntKind.i64 x5))]) [(.cells ze [(.int IntKind.i64 x6), (.int IntKind.i64 x7)] false)])
noncomputable def zxw (a0_0 a0_1 a0_2 a0_3 : Int) : Option PV := callF EE zvv [(.agg [(.int IntKind.i64 a0_0), (.int IntKind.i64 a0_1), (.int IntKind.i64 a0_2), (.int IntKind.i64 a0_3)])]
noncomputable def zkf (a0_0 a0_1 a0_2 : Int) : Option PV := callF EE zvw [(.agg [(.int IntKind.i64 a0_0), (.int IntKind.i64 a0_1), (.int IntKind.i64 a0_2)])]
noncomputable def zao (a0 : Int) : Option PV := callF EE zmq [(.int IntKind.i64 a0)]
noncomputable def z19e (a0_0 a0_1 a0_2 a0_3 : Int) : Option PV := callF EE z14g [(.agg [(.int IntKind.i64 a0_0), (.int IntKind.i64 a0_1), (.int IntKind.i64 a0_2), (.int IntKind.i64 a0_3)])]
noncomputable def z19f (a0_0 a0_1 a0_2 a0_3 : Int) : Option PV := callF EE z14h [(.agg [(.int IntKind.i64 a0_0), (.int IntKind.i64 a0_1), (.int IntKind.i64 a0_2), (.int IntKind.i64 a0_3)])]
noncomputable abbrev z86 : List TI := funTI EE z4b
noncomputable def zlq (a0_0 a0_1 a0_2 a0_3 : Int) : Option PV := callF EE z4b [(.agg [(.int IntKind.i64 a0_0), (.int IntKind.i64 a0_1), (.int IntKind.i64 a0_2), (.int IntKind.i64 a0_3)])]
noncomputable def z77 (x0 : List UInt8) (x1 x2 x3 x4 x5 : Int) : Option PV :=
 runW EE z86 (z4 EE z4b 3 (mkT 49 [(1, (.ptr 0 0)), (3, (.ptr 1 0)), (4, (.str x0))]) [(.cells zev [(.int IntKind.i64 x1), (.int IntKind.i64 x2), (.int IntKind.i64 x3), (.int IntKind.i64 x4)] false), (.cells zik [(.int IntKind.i64 x5)] false)])
noncomputable def z2z (x0 : List UInt8) (x1 : List UInt8) (x2 x3 x4 x5 x6 : Int) : Option PV :=
 runW EE z86 (z4 EE z4b 4 (mkT 49 [(1, (.ptr 0 0)), (3, (.ptr 1 0)), (4, (.str x0)), (5, (.str x1))]) [(.cells zev [(.int IntKind.i64 x2), (.int IntKind.i64 x3), (.int IntKind.i64 x4), (.int IntKind.i64 x5)] false), (.cells zik [(.int IntKind.i64 x6)] false)])
noncomputable def z2y (x0 : List UInt8) (x1 : List UInt8) (x2 : List UInt8) (x3 x4 x5 x6 x7 : Int) : Option PV :=
 runW EE z86 (z4 EE z4b 5 (mkT 49 [(1, (.ptr 0 0)), (3, (.ptr 1 0)), (4, (.str x0)), (5, (.str x1)), (6, (.str x2))]) [(.cells zev [(.int IntKind.i64 x3), (.int IntKind.i64 x4), (.int IntKind.i64 x5), (.int IntKind.i64 x6)] false), (.cells zik [(.int IntKind.i64 x7)] false)])
noncomputable def zml (x0 : List UInt8) (x1 : List UInt8) (x2 : List UInt8) (x3 x4 x5 x6 : Int) : Option PV :=
 runW EE z86 (z4 EE z4b 7 (mkT 49 [(1, (.ptr 0 0)), (4, (.str x0)), (5, (.str x1)), (6, (.str x2))]) [(.cells zev [(.int IntKind.i64 x3), (.int IntKind.i64 x4), (.int IntKind.i64 x5), (.int IntKind.i64 x6)] false)])
noncomputable def zbr (x0 : List UInt8) (x1 : List UInt8) (x2 : List UInt8) (x3 : List UInt8) (x4 x5 x6 x7 x8 : Int) : Option PV :=
 runW EE z86 (z4 EE z4b 8 (mkT 49 [(1, (.ptr 0 0)), (3, (.ptr 1 0)), (4, (.str x0)), (5, (.str x1)), (6, (.str x2)), (7, (.str x3))]) [(.cells zev [(.int IntKind.i64 x4), (.int IntKind.i64 x5), (.int IntKind.i64 x6), (.int IntKind.i64 x7)] false), (.cells zik [(.int IntKind.i64 x8)] false)])
noncomputable def zg9 (a0_0 a0_1 : Int) : Option PV := callF EE z102 [(.agg [(.int IntKind.i64 a0_0), (.int IntKind.i64 a0_1)])]
noncomputable abbrev z196 : List TI := funTI EE zj5
noncomputable def zo9 (a0_0 a0_1 a1_0 a1_1 a1_2 : Int) : Option PV := callF EE zj5 [(.agg [(.int IntKind.i64 a0_0), (.int IntKind.i64 a0_1)]), (.agg [(.int IntKind.i64 a1_0), (.int IntKind.i64 a1_1), (.int IntKind.i64 a1_2)])]
noncomputable def zir (x0 x1 x2 : Int) (x3 : List UInt8) (x4 x5 x6 : Int) : Option PV :=
 runW EE z196 (z4 EE zj5 5 (mkT 75 [(3, (.ptr 0 0)), (6, (.int IntKind.i64 x0)), (7, (.int IntKind.i64 x1)), (8, (.int IntKind.i64 x2)), (10, (.str x3))]) [(.cells z1o [(.int IntKind.i64 x4), (.int IntKind.i64 x5), (.int IntKind.i64 x6)] false)])
noncomputable abbrev z195 : List TI := funTI EE zj4
noncomputable def z1b (a0 : List PV) : Option PV := callF EE zj4 [(.sl 1 a0)]
noncomputable def ziq (x0 : List PV) (x1 x2 : Int) (x3 : List PV) : Option PV :=
 runW EE z195 (z4 EE zj4 3 (mkT 23 [(3, (.lall 0)), (6, (.sl 1 x0)), (7, (.int IntKind.i64 x1)), (8, (.int IntKind.i64 x2))]) [(.row zlf 1 x3 0 none)])
noncomputable def z9c (a0_0 a0_1 : Int) : Option PV := callF EE zkr [(.agg [(.int IntKind.i64 a0_0), (.int IntKind.i64 a0_1)])]
noncomputable def z136 (a0_0 a0_1 a1_0 a1_1 a1_2 : Int) : Option PV := callF EE zsp [(.agg [(.int IntKind.i64 a0_0), (.int IntKind.i64 a0_1)]), (.agg [(.int IntKind.i64 a1_0), (.int IntKind.i64 a1_1), (.int IntKind.i64 a1_2)])]
noncomputable abbrev z3a : List TI := funTI EE z1u
noncomputable def zip (a0 : List UInt8) (a1 : PV) : Option PV := callF EE z1u [(.str a0), a1]
noncomputable def z26 (x0 : List UInt8) (x1 : PV) (x2 : Int) (x3 : List PV) (x4 : Nat) (x5 : List UInt8) (x6 : Nat) : Option PV :=
 runW EE z3a (z4 EE z1u 4 (mkT 65 [(0, (.str x0)), (1, (.opq x1 0)), (5, (.lall 0)), (6, (.int IntKind.i64 x2)), (14, (.ptr 1 0))]) [(.row z1h 2 x3 0 (some x4)), (.iter x5 x6)])
noncomputable def z2a (x0 : List UInt8) (x1 : PV) (x2 : Int) (x3 : List PV) (x4 : List UInt8) (x5 : Nat) : Option PV :=
 runW EE z3a (z4 EE z1u 4 (mkT 65 [(0, (.str x0)), (1, (.opq x1 0)), (5, (.lall 0)), (6, (.int IntKind.i64 x2)), (14, (.ptr 1 0))]) [(.row z1h 2 x3 0 none), (.iter x4 x5)])
noncomputable def z6n (x0 : List UInt8) (x1 : List PV) (x2 : Nat) : Option PV :=
 runW EE z3a (z4 EE z1u 14 (mkT 65 [(0, (.str x0)), (5, (.lall 0))]) [(.row z1h 2 x1 0 (some x2))])
noncomputable def z3m (x0 : List UInt8) (x1 : List PV) : Option PV :=
 runW EE z3a (z4 EE z1u 14 (mkT 65 [(0, (.str x0)), (5, (.lall 0))]) [(.row z1h 2 x1 0 none)])
noncomputable def z6m (x0 : List UInt8) (x1 x2 : Int) (x3 : List PV) (x4 : Nat) (x5 : List PV) (x6 : Nat) : Option PV :=
 runW EE z3a (z4 EE z1u 16 (mkT 65 [(0, (.str x0)), (9, (.lall 0)), (47, (.lall 1)), (48, (.int IntKind.i64 x1)), (49, (.int IntKind.i64 x2))]) [(.row z4e 1 x3 0 (some x4)), (.row z1h 2 x5 0 (some x6))])
noncomputable def z5c (x0 : List UInt8) (x1 x2 : Int) (x3 : List PV) (x4 : Nat) (x5 : List PV) : Option PV :=
 runW EE z3a (z4 EE z1u 16 (mkT 65 [(0, (.str x0)), (9, (.lall 0)), (47, (.lall 1)), (48, (.int IntKind.i64 x1)), (49, (.int IntKind.i64 x2))]) [(.row z4e 1 x3 0 (some x4)), (.row z1h 2 x5 0 none)])
noncomputable def zoh (a0 : Int) : Option PV := callF EE za6 [(.int IntKind.i32 a0)]
noncomputable def ztb (a0 : List UInt8) (a1 : List UInt8) : Option PV := callF EE zsl [(.str a0), (.str a1)]
noncomputable def z4q (a0 : List UInt8) (a1 a2 : Int) : Option PV := callF EE zsu [(.str a0), (.int IntKind.i64 a1), (.int IntKind.i64 a2)]
noncomputable def z12l (a0 : List UInt8) (a1 : List UInt8) : Option PV := callF EE zzu [(.str a0), (.str a1)]
noncomputable def zdw (a0 a1 a2 : Int) : Option PV := callF EE zg5 [(.int IntKind.i64 a0), (.int IntKind.i64 a1), (.int IntKind.i64 a2)]
noncomputable def z48 (a0 : Int) : Option PV := callF EE zdn [(.int IntKind.i64 a0)]
noncomputable def zhf (a0 : List PV) : Option PV := callF EE zvz [(.sl 1 a0)]
noncomputable abbrev zuw : List TI := funTI EE zg6
noncomputable def zi3 (a0 a1 : Int) : Option PV := callF EE zg6 [(.int IntKind.i64 a0), (.int IntKind.i64 a1)]
noncomputable def zph  : Option PV :=
 runW EE zuw (z4 EE zg6 3 (mkT 22 []) [])
noncomputable def z10e (x0 x1 : Int) (x2 : List PV) (x3 : Nat) : Option PV :=
 runW EE zuw (z4 EE zg6 4 (mkT 22 [(0, (.int IntKind.i64 x0)), (1, (.int IntKind.i64 x1)), (5, (.ptr 0 0))]) [(.row z1c9 1 x2 0 (some x3))])
noncomputable def z18b (a0 a1 : Int) : Option PV := callF EE zw4 [(.int IntKind.i64 a0), (.int IntKind.i64 a1)]
noncomputable def zyo (a0 a1 a2 : Int) : Option PV := callF EE zwa [(.int IntKind.i64 a0), (.int IntKind.i64 a1), (.int IntKind.i64 a2)]
noncomputable def z1l (a0 : List UInt8) (a1 : List UInt8) : Option PV := callF EE zg2 [(.str a0), (.str a1)]
noncomputable abbrev z30 : List TI := funTI EE z1n
noncomputable def zc0 (a0 : List UInt8) (a1 : Int) : Option PV := callF EE z1n [(.str a0), (.int IntKind.i64 a1)]
noncomputable def z6p (x0 : List UInt8) (x1 : Int) (x2 : List UInt8) (x3 x4 x5 x6 : Int) (x7 : Bool) : Option PV :=
 runW EE z30 (z4 EE z1n 5 (mkT 113 [(0, (.str x0)), (1, (.int IntKind.i64 x1)), (4, (.ptr 0 0)), (5, (.str x2)), (6, (.int IntKind.i64 x3))]) [(.cells zg [(.int IntKind.i64 x4), (.int IntKind.i64 x5), (.int IntKind.i64 x6), (.bool x7)] false)])
noncomputable def z5r (x0 : List PV) (x1 x2 x3 : Int) (x4 : Bool) : Option PV :=
 runW EE z30 (z4 EE z1n 10 (mkT 113 [(4, (.ptr 0 0)), (7, (.sl 1 x0))]) [(.cells zg [(.int IntKind.i64 x1), (.int IntKind.i64 x2), (.int IntKind.i64 x3), (.bool x4)] false)])
noncomputable def z5q (x0 : Int) (x1 : List PV) (x2 x3 x4 : Int) (x5 : Bool) : Option PV :=
 runW EE z30 (z4 EE z1n 11 (mkT 113 [(1, (.int IntKind.i64 x0)), (4, (.ptr 0 0)), (7, (.sl 1 x1))]) [(.cells zg [(.int IntKind.i64 x2), (.int IntKind.i64 x3), (.int IntKind.i64 x4), (.bool x5)] false)])
noncomputable def z31 (x0 : List UInt8) (x1 : List UInt8) (x2 : List UInt8) (x3 x4 x5 : Int) (x6 : Bool) : Option PV :=
 runW EE z30 (z4 EE z1n 23 (mkT 113 [(4, (.ptr 0 0)), (8, (.str x0)), (9, (.str x1)), (10, (.str x2))]) [(.cells zg [(.int IntKind.i64 x3), (.int IntKind.i64 x4), (.int IntKind.i64 x5), (.bool x6)] false)])
noncomputable def z5p (x0 x1 x2 : Int) (x3 : Bool) : Option PV :=
 runW EE z30 (z4 EE z1n 24 (mkT 113 [(4, (.ptr 0 0))]) [(.cells zg [(.int IntKind.i64 x0), (.int IntKind.i64 x1), (.int IntKind.i64 x2), (.bool x3)] false)])
noncomputable def zdt (x0 : List UInt8) (x1 : List UInt8) (x2 : List UInt8) (x3 x4 x5 : Int) (x6 : Bool) : Option PV :=
 runW EE z30 (z4 EE z1n 25 (mkT 113 [(4, (.ptr 0 0)), (8, (.str x0)), (9, (.str x1)), (10, (.str x2))]) [(.cells zg [(.int IntKind.i64 x3), (.int IntKind.i64 x4), (.int IntKind.i64 x5), (.bool x6)] false)])
noncomputable def z2d (a0 : List UInt8) : Option PV := callF EE zeh [(.str a0)]
noncomputable abbrev z5o : List TI := funTI EE z2k
noncomputable def z8x (a0 : List PV) : Option PV := callF EE z2k [(.sl 1 a0)]
noncomputable def z9e (x0 : List PV) (x1 : Int) (x2 : List UInt8) (x3 : List UInt8) (x4 x5 x6 : Int) (x7 : Bool) : Option PV :=
 runW EE z5o (z4 EE z2k 9 (mkT 62 [(0, (.sl 1 x0)), (2, (.ptr 0 0)), (3, (.int IntKind.i64 x1)), (4, (.str x2)), (5, (.str x3))]) [(.cells zg [(.int IntKind.i64 x4), (.int IntKind.i64 x5), (.int IntKind.i64 x6), (.bool x7)] false)])
noncomputable def zdu (x0 : Int) (x1 : List UInt8) (x2 : List UInt8) (x3 x4 x5 : Int) (x6 : Bool) : Option PV :=
 runW EE z5o (z4 EE z2k 10 (mkT 62 [(2, (.ptr 0 0)), (3, (.int IntKind.i64 x0)), (4, (.str x1)), (5, (.str x2))]) [(.cells zg [(.int IntKind.i64 x3), (.int IntKind.i64 x4), (.int IntKind.i64 x5), (.bool x6)] false)])
noncomputable def z44 (x0 : Int) (x1 : List UInt8) (x2 : List UInt8) (x3 x4 x5 : Int) (x6 : Bool) : Option PV :=
 runW EE z5o (z4 EE z2k 11 (mkT 62 [(2, (.ptr 0 0)), (3, (.int IntKind.i64 x0)), (4, (.str x1)), (5, (.str x2))]) [(.cells zg [(.int IntKind.i64 x3), (.int IntKind.i64 x4), (.int IntKind.i64 x5), (.bool x6)] false)])
noncomputable def z5s (x0 : List UInt8) (x1 : List UInt8) (x2 x3 x4 : Int) (x5 : Bool) (x6 x7 x8 : Int) (x9 : Bool) : Option PV :=
 runW EE z5o (z4 EE z2k 12 (mkT 62 [(2, (.ptr 0 0)), (4, (.str x0)), (5, (.str x1)), (6, (.ptr 1 0))]) [(.cells zg [(.int IntKind.i64 x2), (.int IntKind.i64 x3), (.int IntKind.i64 x4), (.bool x5)] false), (.cells zg [(.int IntKind.i64 x6), (.int IntKind.i64 x7), (.int IntKind.i64 x8), (.bool x9)] false)])
noncomputable abbrev zfj : List TI := funTI EE z5n
noncomputable def z4v (a0 a1 : Int) : Option PV := callF EE z5n [(.int IntKind.i64 a0), (.int IntKind.i64 a1)]
noncomputable def zge (x0 x1 : Int) : Option PV :=
 runW EE zfj (z4 EE z5n 10 (mkT 23 [(0, (.int IntKind.i64 x0)), (5, (.int IntKind.i64 x1))]) [])
noncomputable def zgd (x0 x1 : Int) : Option PV :=
 runW EE zfj (z4 EE z5n 15 (mkT 23 [(0, (.int IntKind.i64 x0)), (5, (.int IntKind.i64 x1))]) [])
noncomputable def zwi (a0_0 a0_1 : Int) : Option PV := callF EE z101 [(.agg [(.int IntKind.i64 a0_0), (.int IntKind.i64 a0_1)])]
noncomputable abbrev znq : List TI := funTI EE zbc
noncomputable def ztq (a0 : List PV) : Option PV := callF EE zbc [(.sl 1 a0)]
noncomputable def z1f (x0 : List PV) (x1 : List UInt8) (x2 : Nat) : Option PV :=
 runW EE znq (z4 EE zbc 4 (mkT 71 [(0, (.sl 1 x0)), (12, (.ptr 0 0))]) [(.iter x1 x2)])
noncomputable def zb8 (x0 : List PV) (x1 : Int) : Option PV :=
 runW EE znq (z4 EE zbc 7 (mkT 71 [(0, (.sl 1 x0)), (3, (.int IntKind.i64 x1))]) [])
noncomputable def z1ko (a0 : List UInt8) : Option PV := callF EE z1au [(.str a0)]
noncomputable abbrev z1j : List TI := funTI EE z1e
noncomputable def zl8 (a0 : List UInt8) : Option PV := callF EE z1e [(.str a0)]
noncomputable def z2f (x0 : List UInt8) (x1 : List PV) (x2 : Nat) (x3 : List UInt8) (x4 : Nat) (x5 : List UInt8) (x6 : List UInt8) : Option PV :=
 runW EE z1j (z1m EE z56 3 (mkT 72 [(5, (.lall 0)), (6, (.str x0)), (13, (.ptr 1 0))]) [(.row z8 2 x1 0 (some x2)), (.iter x3 x4)] [frAt EE z1e 1 1 (mkT 96 [(0, (.str x5)), (10, (.str x6))]) []] [])
noncomputable def z99 (x0 : List UInt8) (x1 : Int) (x2 : Nat) (x3 : List PV) (x4 : Nat) (x5 : List UInt8) (x6 : Nat) (x7 : List UInt8) (x8 : List UInt8) : Option PV :=
 runW EE z1j (z1m EE z56 8 (mkT 72 [(5, (.lall 0)), (6, (.str x0)), (8, (.int IntKind.i32 x1)), (9, (.rptr 0 x2 0)), (13, (.ptr 1 0))]) [(.row z8 2 x3 0 (some x4)), (.iter x5 x6)] [frAt EE z1e 1 1 (mkT 96 [(0, (.str x7)), (10, (.str x8))]) []] [])
noncomputable def z28 (x0 : List UInt8) (x1 : Int) (x2 : List PV) (x3 : Nat) (x4 : List UInt8) (x5 : Nat) (x6 : List UInt8) (x7 : List UInt8) : Option PV :=
 runW EE z1j (z1m EE z56 10 (mkT 72 [(5, (.lall 0)), (6, (.str x0)), (8, (.int IntKind.i32 x1)), (13, (.ptr 1 0))]) [(.row z8 2 x2 0 (some x3)), (.iter x4 x5)] [frAt EE z1e 1 1 (mkT 96 [(0, (.str x6)), (10, (.str x7))]) []] [])
noncomputable def zmb (x0 : List UInt8) (x1 : Bool) (x2 : List PV) (x3 : Nat) : Option PV :=
 runW EE z1j (z4 EE z1e 2 (mkT 96 [(4, (.lall 0)), (5, (.str x0)), (6, (.bool x1))]) [(.row z8 2 x2 0 (some x3))])
noncomputable def z39 (x0 : List UInt8) (x1 : Int) (x2 : List PV) (x3 : Nat) (x4 : List UInt8) (x5 : Nat) (x6 : List UInt8) (x7 : List UInt8) : Option PV :=
 runW EE z1j (z1m EE z56 11 (mkT 72 [(5, (.lall 0)), (6, (.str x0)), (8, (.int IntKind.i32 x1)), (13, (.ptr 1 0))]) [(.row z8 2 x2 0 (some x3)), (.iter x4 x5)] [frAt EE z1e 1 1 (mkT 96 [(0, (.str x6)), (10, (.str x7))]) []] [])
noncomputable def ze3 (x0 : List UInt8) (x1 : Bool) : Option PV :=
 runW EE z1j (z4 EE z1e 2 (mkT 96 [(4, .sl0), (5, (.str x0)), (6, (.bool x1))]) [])
noncomputable def z14  : Option PV :=
 runW EE z1j (z4 EE z1e 3 (mkT 96 []) [])
noncomputable def zma (x0 : List UInt8) (x1 : List PV) (x2 : Nat) : Option PV :=
 runW EE z1j (z4 EE z1e 4 (mkT 96 [(4, (.lall 0)), (5, (.str x0))]) [(.row z8 2 x1 0 (some x2))])
noncomputable def z24 (x0 : List UInt8) (x1 : List PV) (x2 : List UInt8) (x3 : Nat) (x4 : List UInt8) (x5 : List UInt8) : Option PV :=
 runW EE z1j (z1m EE z56 3 (mkT 72 [(5, (.lall 0)), (6, (.str x0)), (13, (.ptr 1 0))]) [(.row z8 2 x1 0 none), (.iter x2 x3)] [frAt EE z1e 1 1 (mkT 96 [(0, (.str x4)), (10, (.str x5))]) []] [])
noncomputable def z9a (x0 : List PV) (x1 x2 x3 x4 : Int) : Option PV :=
 runW EE z1j (z4 EE z1e 11 (mkT 96 [(4, (.lall 0)), (7, (.ptr 1 0)), (8, (.ptr 2 0))]) [(.row z8 2 x0 0 none), (.cells z8 [(.int IntKind.i64 x1), (.int IntKind.i64 x2)] false), (.cells z8 [(.int IntKind.i64 x3), (.int IntKind.i64 x4)] false)])
noncomputable def z8f (x0 : List UInt8) (x1 : Int) (x2 : Nat) (x3 : List PV) (x4 : List UInt8) (x5 : Nat) (x6 : List UInt8) (x7 : List UInt8) : Option PV :=
 runW EE z1j (z1m EE z56 8 (mkT 72 [(5, (.lall 0)), (6, (.str x0)), (8, (.int IntKind.i32 x1)), (9, (.rptr 0 x2 0)), (13, (.ptr 1 0))]) [(.row z8 2 x3 0 none), (.iter x4 x5)] [frAt EE z1e 1 1 (mkT 96 [(0, (.str x6)), (10, (.str x7))]) []] [])
noncomputable def z1z (x0 : List UInt8) (x1 : Int) (x2 : List PV) (x3 : List UInt8) (x4 : Nat) (x5 : List UInt8) (x6 : List UInt8) : Option PV :=
 runW EE z1j (z1m EE z56 10 (mkT 72 [(5, (.lall 0)), (6, (.str x0)), (8, (.int IntKind.i32 x1)), (13, (.ptr 1 0))]) [(.row z8 2 x2 0 none), (.iter x3 x4)] [frAt EE z1e 1 1 (mkT 96 [(0, (.str x5)), (10, (.str x6))]) []] [])
noncomputable def z47 (x0 : List UInt8) (x1 : Bool) (x2 : List PV) : Option PV :=
 runW EE z1j (z4 EE z1e 2 (mkT 96 [(4, (.lall 0)), (5, (.str x0)), (6, (.bool x1))]) [(.row z8 2 x2 0 none)])
noncomputable def zfd  : Option PV :=
 runW EE z1j (z4 EE z1e 12 (mkT 96 []) [])
noncomputable def zbu (x0 : List PV) (x1 x2 x3 x4 : Int) : Option PV :=
 runW EE z1j (z4 EE z1e 13 (mkT 96 [(4, (.lall 0)), (7, (.ptr 1 0)), (8, (.ptr 2 0))]) [(.row z8 2 x0 0 none), (.cells z8 [(.int IntKind.i64 x1), (.int IntKind.i64 x2)] false), (.cells z8 [(.int IntKind.i64 x3), (.int IntKind.i64 x4)] false)])
noncomputable def z2s (x0 : List UInt8) (x1 : Int) (x2 : List PV) (x3 : List UInt8) (x4 : Nat) (x5 : List UInt8) (x6 : List UInt8) : Option PV :=
 runW EE z1j (z1m EE z56 11 (mkT 72 [(5, (.lall 0)), (6, (.str x0)), (8, (.int IntKind.i32 x1)), (13, (.ptr 1 0))]) [(.row z8 2 x2 0 none), (.iter x3 x4)] [frAt EE z1e 1 1 (mkT 96 [(0, (.str x5)), (10, (.str x6))]) []] [])
noncomputable def z8g (x0 : List UInt8) (x1 : List PV) : Option PV :=
 runW EE z1j (z4 EE z1e 4 (mkT 96 [(4, (.lall 0)), (5, (.str x0))]) [(.row z8 2 x1 0 none)])
noncomputable abbrev zli : List TI := funTI EE zcj
noncomputable def zwj (a0_0 a0_1 a1 : Int) : Option PV := callF EE zcj [(.agg [(.int IntKind.i64 a0_0), (.int IntKind.i64 a0_1)]), (.int IntKind.i64 a1)]
noncomputable def zg7 (x0 x1 : Int) : Option PV :=
 runW EE zli (z4 EE zcj 2 (mkT 52 [(4, (.ptr 0 0))]) [(.cells ze [(.int IntKind.i64 x0), (.int IntKind.i64 x1)] false)])
noncomputable def z10b (x0 x1 x2 x3 x4 : Int) : Option PV :=
 runW EE zli (z4 EE zcj 3 (mkT 52 [(1, (.int IntKind.i64 x0)), (2, (.ptr 0 0)), (4, (.ptr 1 0))]) [(.cells z1w [(.int IntKind.i64 x1), (.int IntKind.i64 x2)] false), (.cells ze [(.int IntKind.i64 x3), (.int IntKind.i64 x4)] false)])
noncomputable def zp2 (x0 x1 x2 x3 : Int) : Option PV :=
 runW EE zli (z4 EE zcj 8 (mkT 52 [(4, (.ptr 0 0)), (6, (.int IntKind.i64 x0)), (7, (.int IntKind.i64 x1))]) [(.cells ze [(.int IntKind.i64 x2), (.int IntKind.i64 x3)] false)])
noncomputable abbrev zfi : List TI := funTI EE z5m
noncomputable def zf4 (a0 : List PV) : Option PV := callF EE z5m [(.sl 1 a0)]
noncomputable def z17 (x0 : List PV) (x1 : List UInt8) (x2 : Int) : Option PV :=
 runW EE zfi (z4 EE z5m 5 (mkT 71 [(0, (.sl 1 x0)), (3, (.str x1)), (4, (.int IntKind.i64 x2))]) [])
noncomputable def z84 (x0 : List PV) (x1 : List UInt8) (x2 : Int) : Option PV :=
 runW EE zfi (z4 EE z5m 8 (mkT 71 [(0, (.sl 1 x0)), (3, (.str x1)), (4, (.int IntKind.i64 x2))]) [])
noncomputable def zu4 (a0 : List UInt8) : Option PV := callF EE zn2 [(.str a0)]
noncomputable abbrev z6 : List TI := funTI EE z5
noncomputable def z5g (a0 : List UInt8) : Option PV := callF EE z5 [(.str a0)]
noncomputable def z18 (x0 x1 x2 x3 : Int) (x4 : List UInt8) (x5 : Bool) : Option PV :=
 runW EE z6 (z1m EE zt 3 (mkT 68 [(0, (.ptr 0 0)), (1, (.int IntKind.i64 x0)), (2, (.int IntKind.i64 x1)), (7, (.int IntKind.i64 x2)), (8, (.int IntKind.i64 x3))]) [(.cells z7 [(.str x4), (.bool x5)] false)] [frAt EE z5 2 1 (mkT 69 [(4, (.ptr 0 0)), (14, (.ptr 0 0))]) []] [])
noncomputable def z1x (x0 x1 x2 x3 : Int) (x4 : List UInt8) (x5 : Bool) : Option PV :=
 runW EE z6 (z1m EE zt 4 (mkT 68 [(0, (.ptr 0 0)), (1, (.int IntKind.i64 x0)), (2, (.int IntKind.i64 x1)), (7, (.int IntKind.i64 x2)), (8, (.int IntKind.i64 x3))]) [(.cells z7 [(.str x4), (.bool x5)] false)] [frAt EE z5 2 1 (mkT 69 [(4, (.ptr 0 0)), (14, (.ptr 0 0))]) []] [])
noncomputable def zo (x0 x1 x2 : Int) (x3 : List UInt8) (x4 : Bool) : Option PV :=
 runW EE z6 (z1m EE zt 6 (mkT 68 [(0, (.ptr 0 0)), (1, (.int IntKind.i64 x0)), (7, (.int IntKind.i64 x1)), (8, (.int IntKind.i64 x2))]) [(.cells z7 [(.str x3), (.bool x4)] false)] [frAt EE z5 2 1 (mkT 69 [(4, (.ptr 0 0)), (14, (.ptr 0 0))]) []] [])
noncomputable def z7k (x0 : Int) (x1 : List UInt8) (x2 : Bool) : Option PV :=
 runW EE z6 (z4 EE z5 3 (mkT 69 [(4, (.ptr 0 0)), (5, (.int IntKind.i64 x0))]) [(.cells z7 [(.str x1), (.bool x2)] false)])
noncomputable def zv (x0 : List UInt8) (x1 : Bool) (x2 : Int) : Option PV :=
 runW EE z6 (z1m EE z73 2 (mkT 28 []) [(.cells z7 [(.str x0), (.bool x1)] false)] [frAt EE z5 3 1 (mkT 69 [(4, (.ptr 0 0)), (5, (.int IntKind.i64 x2)), (16, (.ptr 0 0))]) []] [])
noncomputable def z58 (x0 : Int) (x1 : List UInt8) (x2 : Bool) : Option PV :=
 runW EE z6 (z4 EE z5 5 (mkT 69 [(4, (.ptr 0 0)), (5, (.int IntKind.i64 x0))]) [(.cells z7 [(.str x1), (.bool x2)] false)])
noncomputable def zgc (x0 : Int) (x1 : List UInt8) (x2 : Bool) : Option PV :=
 runW EE z6 (z4 EE z5 4 (mkT 69 [(4, (.ptr 0 0)), (5, (.int IntKind.i64 x0))]) [(.cells z7 [(.str x1), (.bool x2)] false)])
noncomputable def z13 (x0 x1 x2 x3 : Int) (x4 : List UInt8) (x5 : Bool) (x6 : Int) : Option PV :=
 runW EE z6 (z1m EE zt 3 (mkT 68 [(0, (.ptr 0 0)), (1, (.int IntKind.i64 x0)), (2, (.int IntKind.i64 x1)), (7, (.int IntKind.i64 x2)), (8, (.int IntKind.i64 x3))]) [(.cells z7 [(.str x4), (.bool x5)] false)] [frAt EE z5 5 1 (mkT 69 [(4, (.ptr 0 0)), (5, (.int IntKind.i64 x6)), (22, (.ptr 0 0))]) []] [])
noncomputable def z1r (x0 x1 x2 x3 : Int) (x4 : List UInt8) (x5 : Bool) (x6 : Int) : Option PV :=
 runW EE z6 (z1m EE zt 4 (mkT 68 [(0, (.ptr 0 0)), (1, (.int IntKind.i64 x0)), (2, (.int IntKind.i64 x1)), (7, (.int IntKind.i64 x2)), (8, (.int IntKind.i64 x3))]) [(.cells z7 [(.str x4), (.bool x5)] false)] [frAt EE z5 5 1 (mkT 69 [(4, (.ptr 0 0)), (5, (.int IntKind.i64 x6)), (22, (.ptr 0 0))]) []] [])
noncomputable def zk (x0 x1 x2 : Int) (x3 : List UInt8) (x4 : Bool) (x5 : Int) : Option PV :=
 runW EE z6 (z1m EE zt 6 (mkT 68 [(0, (.ptr 0 0)), (1, (.int IntKind.i64 x0)), (7, (.int IntKind.i64 x1)), (8, (.int IntKind.i64 x2))]) [(.cells z7 [(.str x3), (.bool x4)] false)] [frAt EE z5 5 1 (mkT 69 [(4, (.ptr 0 0)), (5, (.int IntKind.i64 x5)), (22, (.ptr 0 0))]) []] [])
noncomputable def z7j (x0 x1 : Int) (x2 : List UInt8) (x3 : Bool) : Option PV :=
 runW EE z6 (z4 EE z5 6 (mkT 69 [(4, (.ptr 0 0)), (5, (.int IntKind.i64 x0)), (6, (.int IntKind.i64 x1))]) [(.cells z7 [(.str x2), (.bool x3)] false)])
noncomputable def zz (x0 : List UInt8) (x1 : Bool) (x2 x3 x4 x5 : Int) : Option PV :=
 runW EE z6 (z1m EE z73 2 (mkT 28 []) [(.cells z7 [(.str x0), (.bool x1)] false)] [frAt EE z5 8 1 (mkT 69 [(4, (.ptr 0 0)), (5, (.int IntKind.i64 x2)), (6, (.int IntKind.i64 x3)), (7, (.int IntKind.i64 x4)), (8, (.int IntKind.i64 x5)), (24, (.ptr 0 0))]) []] [])
noncomputable def z7i (x0 x1 x2 : Int) (x3 : List UInt8) (x4 : Bool) : Option PV :=
 runW EE z6 (z4 EE z5 9 (mkT 69 [(4, (.ptr 0 0)), (5, (.int IntKind.i64 x0)), (6, (.int IntKind.i64 x1)), (8, (.int IntKind.i64 x2))]) [(.cells z7 [(.str x3), (.bool x4)] false)])
noncomputable def z2m (x0 x1 x2 x3 : Int) (x4 : List UInt8) (x5 : Bool) : Option PV :=
 runW EE z6 (z4 EE z5 17 (mkT 69 [(4, (.ptr 0 0)), (5, (.int IntKind.i64 x0)), (6, (.int IntKind.i64 x1)), (7, (.int IntKind.i64 x2)), (8, (.int IntKind.i64 x3))]) [(.cells z7 [(.str x4), (.bool x5)] false)])
noncomputable def z12 (x0 x1 x2 x3 : Int) (x4 : List UInt8) (x5 : Bool) (x6 x7 x8 : Int) : Option PV :=
 runW EE z6 (z1m EE zt 3 (mkT 68 [(0, (.ptr 0 0)), (1, (.int IntKind.i64 x0)), (2, (.int IntKind.i64 x1)), (7, (.int IntKind.i64 x2)), (8, (.int IntKind.i64 x3))]) [(.cells z7 [(.str x4), (.bool x5)] false)] [frAt EE z5 9 1 (mkT 69 [(4, (.ptr 0 0)), (5, (.int IntKind.i64 x6)), (6, (.int IntKind.i64 x7)), (8, (.int IntKind.i64 x8)), (26, (.ptr 0 0))]) []] [])
noncomputable def z1q (x0 x1 x2 x3 : Int) (x4 : List UInt8) (x5 : Bool) (x6 x7 x8 : Int) : Option PV :=
 runW EE z6 (z1m EE zt 4 (mkT 68 [(0, (.ptr 0 0)), (1, (.int IntKind.i64 x0)), (2, (.int IntKind.i64 x1)), (7, (.int IntKind.i64 x2)), (8, (.int IntKind.i64 x3))]) [(.cells z7 [(.str x4), (.bool x5)] false)] [frAt EE z5 9 1 (mkT 69 [(4, (.ptr 0 0)), (5, (.int IntKind.i64 x6)), (6, (.int IntKind.i64 x7)), (8, (.int IntKind.i64 x8)), (26, (.ptr 0 0))]) []] [])
noncomputable def zj (x0 x1 x2 : Int) (x3 : List UInt8) (x4 : Bool) (x5 x6 x7 : Int) : Option PV :=
 runW EE z6 (z1m EE zt 6 (mkT 68 [(0, (.ptr 0 0)), (1, (.int IntKind.i64 x0)), (7, (.int IntKind.i64 x1)), (8, (.int IntKind.i64 x2))]) [(.cells z7 [(.str x3), (.bool x4)] false)] [frAt EE z5 9 1 (mkT 69 [(4, (.ptr 0 0)), (5, (.int IntKind.i64 x5)), (6, (.int IntKind.i64 x6)), (8, (.int IntKind.i64 x7)), (26, (.ptr 0 0))]) []] [])
noncomputable def z6w (x0 x1 x2 x3 : Int) (x4 : List UInt8) (x5 : Bool) : Option PV :=
 runW EE z6 (z4 EE z5 10 (mkT 69 [(4, (.ptr 0 0)), (5, (.int IntKind.i64 x0)), (6, (.int IntKind.i64 x1)), (7, (.int IntKind.i64 x2)), (8, (.int IntKind.i64 x3))]) [(.cells z7 [(.str x4), (.bool x5)] false)])
noncomputable def zy (x0 : List UInt8) (x1 : Bool) (x2 x3 x4 x5 : Int) : Option PV :=
 runW EE z6 (z1m EE z73 2 (mkT 28 []) [(.cells z7 [(.str x0), (.bool x1)] false)] [frAt EE z5 10 1 (mkT 69 [(4, (.ptr 0 0)), (5, (.int IntKind.i64 x2)), (6, (.int IntKind.i64 x3)), (7, (.int IntKind.i64 x4)), (8, (.int IntKind.i64 x5)), (28, (.ptr 0 0))]) []] [])
noncomputable def z4n (x0 x1 x2 : Int) (x3 : List UInt8) (x4 : Bool) : Option PV :=
 runW EE z6 (z4 EE z5 11 (mkT 69 [(4, (.ptr 0 0)), (5, (.int IntKind.i64 x0)), (6, (.int IntKind.i64 x1)), (7, (.int IntKind.i64 x2))]) [(.cells z7 [(.str x3), (.bool x4)] false)])
noncomputable def z11 (x0 x1 x2 x3 : Int) (x4 : List UInt8) (x5 : Bool) (x6 x7 x8 x9 : Int) : Option PV :=
 runW EE z6 (z1m EE zt 3 (mkT 68 [(0, (.ptr 0 0)), (1, (.int IntKind.i64 x0)), (2, (.int IntKind.i64 x1)), (7, (.int IntKind.i64 x2)), (8, (.int IntKind.i64 x3))]) [(.cells z7 [(.str x4), (.bool x5)] false)] [frAt EE z5 12 1 (mkT 69 [(4, (.ptr 0 0)), (5, (.int IntKind.i64 x6)), (6, (.int IntKind.i64 x7)), (7, (.int IntKind.i64 x8)), (9, (.int IntKind.i64 x9)), (35, (.ptr 0 0))]) []] [])
noncomputable def z1p (x0 x1 x2 x3 : Int) (x4 : List UInt8) (x5 : Bool) (x6 x7 x8 x9 : Int) : Option PV :=
 runW EE z6 (z1m EE zt 4 (mkT 68 [(0, (.ptr 0 0)), (1, (.int IntKind.i64 x0)), (2, (.int IntKind.i64 x1)), (7, (.int IntKind.i64 x2)), (8, (.int IntKind.i64 x3))]) [(.cells z7 [(.str x4), (.bool x5)] false)] [frAt EE z5 12 1 (mkT 69 [(4, (.ptr 0 0)), (5, (.int IntKind.i64 x6)), (6, (.int IntKind.i64 x7)), (7, (.int IntKind.i64 x8)), (9, (.int IntKind.i64 x9)), (35, (.ptr 0 0))]) []] [])
noncomputable def zi (x0 x1 x2 : Int) (x3 : List UInt8) (x4 : Bool) (x5 x6 x7 x8 : Int) : Option PV :=
 runW EE z6 (z1m EE zt 6 (mkT 68 [(0, (.ptr 0 0)), (1, (.int IntKind.i64 x0)), (7, (.int IntKind.i64 x1)), (8, (.int IntKind.i64 x2))]) [(.cells z7 [(.str x3), (.bool x4)] false)] [frAt EE z5 12 1 (mkT 69 [(4, (.ptr 0 0)), (5, (.int IntKind.i64 x5)), (6, (.int IntKind.i64 x6)), (7, (.int IntKind.i64 x7)), (9, (.int IntKind.i64 x8)), (35, (.ptr 0 0))]) []] [])
noncomputable def z6v (x0 x1 x2 x3 x4 : Int) (x5 : List UInt8) (x6 : Bool) : Option PV :=
 runW EE z6 (z4 EE z5 13 (mkT 69 [(4, (.ptr 0 0)), (5, (.int IntKind.i64 x0)), (6, (.int IntKind.i64 x1)), (7, (.int IntKind.i64 x2)), (8, (.int IntKind.i64 x3)), (9, (.int IntKind.i64 x4))]) [(.cells z7 [(.str x5), (.bool x6)] false)])
noncomputable def z6u (x0 x1 x2 x3 x4 : Int) (x5 : List UInt8) (x6 : Bool) : Option PV :=
 runW EE z6 (z4 EE z5 14 (mkT 69 [(4, (.ptr 0 0)), (5, (.int IntKind.i64 x0)), (6, (.int IntKind.i64 x1)), (7, (.int IntKind.i64 x2)), (8, (.int IntKind.i64 x3)), (10, (.int IntKind.i64 x4))]) [(.cells z7 [(.str x5), (.bool x6)] false)])
noncomputable abbrev z8t : List TI := funTI EE z3b
noncomputable def z6k (a0_0 a0_1 a1 : Int) : Option PV := callF EE z3b [(.agg [(.int IntKind.i64 a0_0), (.int IntKind.i64 a0_1)]), (.int IntKind.i64 a1)]
noncomputable def z3c (x0 x1 : Int) : Option PV :=
 runW EE z8t (z4 EE z3b 2 (mkT 40 [(4, (.ptr 0 0))]) [(.cells ze [(.int IntKind.i64 x0), (.int IntKind.i64 x1)] false)])
noncomputable def zeq (x0 x1 x2 x3 x4 : Int) : Option PV :=
 runW EE z8t (z4 EE z3b 3 (mkT 40 [(1, (.int IntKind.i64 x0)), (2, (.ptr 0 0)), (4, (.ptr 1 0))]) [(.cells z1w [(.int IntKind.i64 x1), (.int IntKind.i64 x2)] false), (.cells ze [(.int IntKind.i64 x3), (.int IntKind.i64 x4)] false)])
noncomputable def z6t (x0 x1 x2 x3 : Int) : Option PV :=
 runW EE z8t (z4 EE z3b 9 (mkT 40 [(1, (.int IntKind.i64 x0)), (4, (.ptr 0 0)), (6, (.int IntKind.i64 x1))]) [(.cells ze [(.int IntKind.i64 x2), (.int IntKind.i64 x3)] false)])
noncomputable def z1a4 (a0 : Int) : Option PV := callF EE z17z [(.int IntKind.i64 a0)]
noncomputable def zlp (a0 : Int) : Option PV := callF EE zsm [(.int IntKind.i64 a0)]
noncomputable def zew (a0 : Int) : Option PV := callF EE zsn [(.int IntKind.i64 a0)]
noncomputable def zf6 (a0 : Int) : Option PV := callF EE zw7 [(.int IntKind.i64 a0)]
noncomputable abbrev z10o : List TI := funTI EE zdk
noncomputable def z2u (a0 : List UInt8) (a1 : List PV) : Option PV := callF EE zdk [(.str a0), (.sl 1 a1)]
noncomputable def z9v (x0 : List UInt8) (x1 : List PV) (x2 x3 : Int) (x4 : List PV) : Option PV :=
 runW EE z10o (z4 EE zdk 3 (mkT 24 [(0, (.str x0)), (5, (.lall 0)), (8, (.sl 1 x1)), (9, (.int IntKind.i64 x2)), (10, (.int IntKind.i64 x3))]) [(.row z4e 1 x4 0 none)])
noncomputable def z7p (a0 : Int) : Option PV := callF EE zsr [(.int IntKind.i64 a0)]
noncomputable def zbx (a0 : Int) (a1 : List UInt8) : Option PV := callF EE zsq [(.int IntKind.i64 a0), (.str a1)]
noncomputable def zo6 (a0 : Int) : Option PV := callF EE zow [(.int IntKind.i64 a0)]
noncomputable def z2h (a0 : Int) : Option PV := callF EE zw3 [(.int IntKind.i64 a0)]
noncomputable def zwk (a0_0 a0_1 : Int) : Option PV := callF EE z103 [(.agg [(.int IntKind.i64 a0_0), (.int IntKind.i64 a0_1)])]
noncomputable abbrev z1t : List TI := funTI EE z1d
noncomputable def zb4 (a0 : List UInt8) (a1 : Int) : Option PV := callF EE z1d [(.str a0), (.int IntKind.i64 a1)]
noncomputable def zkb (x0 : List UInt8) (x1 : Int) : Option PV :=
 runW EE z1t (z4 EE z1d 8 (mkT 125 [(0, (.str x0)), (1, (.int IntKind.i64 x1))]) [])
noncomputable def zin (x0 : List UInt8) (x1 : Int) : Option PV :=
 runW EE z1t (z4 EE z1d 10 (mkT 125 [(0, (.str x0)), (6, (.int IntKind.u64 x1))]) [])
noncomputable def zim (x0 : List UInt8) (x1 : Int) : Option PV :=
 runW EE z1t (z4 EE z1d 11 (mkT 125 [(0, (.str x0)), (6, (.int IntKind.u64 x1))]) [])
noncomputable def z5b (x0 : List UInt8) (x1 : Int) : Option PV :=
 runW EE z1t (z4 EE z1d 20 (mkT 125 [(0, (.str x0)), (7, (.int IntKind.i64 x1))]) [])
noncomputable def zuz (x0 : List UInt8) (x1 : Int) : Option PV :=
 runW EE z1t (z4 EE z1d 30 (mkT 125 [(0, (.str x0)), (7, (.int IntKind.i64 x1))]) [])
noncomputable def zv1 (x0 : Int) : Option PV :=
 runW EE z1t (z4 EE z1d 21 (mkT 125 [(7, (.int IntKind.i64 x0))]) [])
noncomputable def z9j (x0 : List UInt8) (x1 : Int) : Option PV :=
 runW EE z1t (z4 EE z1d 22 (mkT 125 [(0, (.str x0)), (7, (.int IntKind.i64 x1))]) [])
noncomputable def zv0 (x0 : Int) : Option PV :=
 runW EE z1t (z4 EE z1d 23 (mkT 125 [(7, (.int IntKind.i64 x0))]) [])
noncomputable def z9i (x0 : List UInt8) (x1 : Int) : Option PV :=
 runW EE z1t (z4 EE z1d 24 (mkT 125 [(0, (.str x0)), (7, (.int IntKind.i64 x1))]) [])
noncomputable def zd2 (x0 : Int) : Option PV :=
 runW EE z1t (z4 EE z1d 25 (mkT 125 [(7, (.int IntKind.i64 x0))]) [])
noncomputable def zil (x0 : List UInt8) (x1 : Int) : Option PV :=
 runW EE z1t (z4 EE z1d 26 (mkT 125 [(0, (.str x0)), (7, (.int IntKind.i64 x1))]) [])
noncomputable def zdz (a0 : Int) : Option PV := callF EE z104 [(.int IntKind.i64 a0)]
noncomputable def zvk (a0 : Int) : Option PV := callF EE z100 [(.int IntKind.i64 a0)]
noncomputable def day_Of (a0_0 a0_1 : Int) : Option PV := callF EE z1du [(.agg [(.int IntKind.i64 a0_0), (.int IntKind.i64 a0_1)])]
noncomputable def zyj (a0 : Int) : Option PV := callF EE zw6 [(.int IntKind.i64 a0)]
noncomputable def znv (a0 : List UInt8) (a1 : List UInt8) : Option PV := callF EE zj3 [(.str a0), (.str a1)]
noncomputable abbrev znp : List TI := funTI EE zba
noncomputable def zle (a0 : List UInt8) : Option PV := callF EE zba [(.str a0)]
noncomputable def z7o (x0 : List UInt8) (x1 x2 : Int) (x3 : List UInt8) (x4 : Nat) : Option PV :=
 runW EE znp (z4 EE zba 3 (mkT 37 [(0, (.str x0)), (4, (.int IntKind.i64 x1)), (5, (.int IntKind.i64 x2)), (9, (.ptr 0 0))]) [(.iter x3 x4)])
noncomputable def zjj (x0 : List UInt8) (x1 x2 x3 : Int) (x4 : List UInt8) (x5 : Nat) : Option PV :=
 runW EE znp (z4 EE zba 9 (mkT 37 [(0, (.str x0)), (4, (.int IntKind.i64 x1)), (5, (.int IntKind.i64 x2)), (7, (.int IntKind.i32 x3)), (9, (.ptr 0 0))]) [(.iter x4 x5)])
noncomputable def z1a5 (a0 a1 : Int) : Option PV := callF EE z180 [(.int IntKind.i64 a0), (.int IntKind.i64 a1)]
noncomputable def z1a6 (a0 a1 : Int) : Option PV := callF EE z183 [(.int IntKind.i64 a0), (.int IntKind.i64 a1)]
noncomputable def z7b (a0 : List UInt8) (a1 : List UInt8) : Option PV := callF EE zfw [(.str a0), (.str a1)]
noncomputable def zh2 (a0 : List UInt8) (a1 : List UInt8) : Option PV := callF EE zmo [(.str a0), (.str a1)]
noncomputable def z7r (a0 : List UInt8) : Option PV := callF EE zss [(.str a0)]
noncomputable def zc4 (a0 a1 a2 : Int) : Option PV := callF EE zei [(.int IntKind.i64 a0), (.int IntKind.i64 a1), (.int IntKind.i64 a2)]
noncomputable abbrev zns : List TI := funTI EE z82
noncomputable def z8e (a0 a1 a2 : Int) : Option PV := callF EE z82 [(.int IntKind.i64 a0), (.int IntKind.i64 a1), (.int IntKind.i64 a2)]
noncomputable def z85 (x0 x1 x2 x3 : Int) : Option PV :=
 runW EE zns (z4 EE z82 3 (mkT 25 [(0, (.int IntKind.i64 x0)), (1, (.int IntKind.i64 x1)), (7, (.int IntKind.i64 x2)), (8, (.int IntKind.i64 x3))]) [])
noncomputable abbrev z9d : List TI := funTI EE z3n
noncomputable def z9s (a0 : Int) : Option PV := callF EE z3n [(.int IntKind.i64 a0)]
noncomputable def z7n (x0 x1 : Int) : Option PV :=
 runW EE z9d (z4 EE z3n 5 (mkT 45 [(6, (.int IntKind.i64 x0)), (7, (.int IntKind.i64 x1))]) [])
noncomputable def z7m (x0 x1 x2 : Int) : Option PV :=
 runW EE z9d (z4 EE z3n 8 (mkT 45 [(6, (.int IntKind.i64 x0)), (7, (.int IntKind.i64 x1)), (8, (.int IntKind.i64 x2))]) [])
noncomputable def z6x (x0 x1 x2 : Int) : Option PV :=
 runW EE z9d (z4 EE z3n 12 (mkT 45 [(6, (.int IntKind.i64 x0)), (7, (.int IntKind.i64 x1)), (9, (.int IntKind.i64 x2))]) [])
noncomputable def zhd (a0 : List UInt8) : Option PV := callF EE zvt [(.str a0)]
noncomputable def zym (a0 : Int) : Option PV := callF EE zw8 [(.int IntKind.i64 a0)]
noncomputable def zu7 (a0 a1 a2 : Int) : Option PV := callF EE zsz [(.int IntKind.i64 a0), (.int IntKind.i64 a1), (.int IntKind.i64 a2)]
noncomputable abbrev z198 : List TI := funTI EE zja
noncomputable def zpf (a0 a1 a2 : Int) : Option PV := callF EE zja [(.int IntKind.i64 a0), (.int IntKind.i64 a1), (.int IntKind.i64 a2)]
noncomputable def zjg (x0 x1 x2 : Int) : Option PV :=
 runW EE z198 (z4 EE zja 3 (mkT 41 [(0, (.int IntKind.i64 x0)), (1, (.int IntKind.i64 x1)), (2, (.int IntKind.i64 x2))]) [])
noncomputable abbrev zc9 : List TI := funTI EE z43
noncomputable def z16 (a0 : List UInt8) (a1 a2 : Int) : Option PV := callF EE z43 [(.str a0), (.int IntKind.i64 a1), (.int IntKind.i64 a2)]
noncomputable def z8z (x0 : List UInt8) (x1 : Bool) : Option PV :=
 runW EE zc9 (z4 EE z43 2 (mkT 39 [(0, (.str x0)), (7, (.bool x1))]) [])
noncomputable def z32 (x0 : List UInt8) (x1 : Bool) (x2 : Int) : Option PV :=
 runW EE zc9 (z4 EE z43 3 (mkT 39 [(0, (.str x0)), (7, (.bool x1)), (8, (.int IntKind.i64 x2))]) [])
noncomputable def z1i (a0 : List UInt8) : Option PV := callF EE zdm [(.str a0)]
noncomputable abbrev zcw : List TI := funTI EE z4g
noncomputable def zbz (a0 : List UInt8) (a1 : Int) : Option PV := callF EE z4g [(.str a0), (.int IntKind.u8 a1)]
noncomputable def z4k (x0 : List UInt8) (x1 x2 : Int) (x3 : List PV) (x4 : Nat) : Option PV :=
 runW EE zcw (z4 EE z4g 3 (mkT 40 [(0, (.str x0)), (1, (.int IntKind.u8 x1)), (5, (.lall 0)), (6, (.int IntKind.i64 x2))]) [(.row z4e 1 x3 0 (some x4))])
noncomputable def z3p (x0 : List UInt8) (x1 x2 : Int) (x3 : List PV) : Option PV :=
 runW EE zcw (z4 EE z4g 3 (mkT 40 [(0, (.str x0)), (1, (.int IntKind.u8 x1)), (5, (.lall 0)), (6, (.int IntKind.i64 x2))]) [(.row z4e 1 x3 0 none)])
noncomputable def zds (a0 : List UInt8) : Option PV := callF EE zg0 [(.str a0)]
noncomputable abbrev zcy : List TI := funTI EE z4i
noncomputable def zc2 (a0 : List UInt8) (a1 : List PV) : Option PV := callF EE z4i [(.str a0), (.sl 1 a1)]
noncomputable def z4m (x0 : List UInt8) (x1 : List PV) (x2 : Int) : Option PV :=
 runW EE zcy (z4 EE z4i 2 (mkT 37 [(0, (.str x0)), (1, (.sl 1 x1)), (5, (.int IntKind.i64 x2))]) [])
noncomputable def zer (x0 : List UInt8) (x1 : List PV) (x2 : Int) : Option PV :=
 runW EE zcy (z4 EE z4i 4 (mkT 37 [(0, (.str x0)), (1, (.sl 1 x1)), (5, (.int IntKind.i64 x2))]) [])
noncomputable def z7l (a0 : Int) : Option PV := callF EE zg3 [(.int IntKind.i64 a0)]
noncomputable def zcc (a0 : Int) : Option PV := callF EE zw0 [(.int IntKind.u8 a0)]
noncomputable abbrev z15 : List TI := funTI EE zq
noncomputable def z6d (a0 : List PV) : Option PV := callF EE zq [(.sl 1 a0)]
noncomputable def z51 (x0 : List PV) (x1 : Int) (x2 : List PV) (x3 x4 : Int) : Option PV :=
 runW EE z15 (z4 EE zq 3 (mkT 36 [(0, (.sl 1 x0)), (3, (.int IntKind.i64 x1)), (9, (.sl 1 x2)), (10, (.int IntKind.i64 x3)), (11, (.int IntKind.i64 x4))]) [])
noncomputable def z8o (x0 : List PV) (x1 : Int) (x2 : List PV) (x3 x4 : Int) : Option PV :=
 runW EE z15 (z4 EE zq 8 (mkT 36 [(0, (.sl 1 x0)), (3, (.int IntKind.i64 x1)), (9, (.sl 1 x2)), (10, (.int IntKind.i64 x3)), (11, (.int IntKind.i64 x4))]) [])
noncomputable def z1y (x0 : Int) (x1 : List PV) (x2 x3 : Int) : Option PV :=
 runW EE z15 (z1m EE zfy 3 (mkT 27 [(0, .sl0), (1, (.int IntKind.i64 x0))]) [] [frAt EE zq 9 1 (mkT 36 [(0, (.sl 1 x1)), (3, (.int IntKind.i64 x2)), (23, (.int IntKind.i64 x3))]) []] [])
noncomputable def z89 (x0 : List PV) (x1 : Nat) (x2 : Nat) (x3 : List PV) : Option PV :=
 runW EE z15 (z4 EE zq 10 (mkT 36 [(0, (.sl 1 x0)), (6, (.lsl 0 x1 x2 none))]) [(.row z4e 1 x3 0 none)])
noncomputable def zdh (x0 : List PV) : Option PV :=
 runW EE z15 (z4 EE zq 10 (mkT 36 [(0, (.sl 1 x0)), (6, .sl0)]) [])
noncomputable def z4p (x0 : Nat) (x1 : Nat) (x2 : List PV) (x3 x4 : Int) (x5 : List PV) : Option PV :=
 runW EE z15 (z4 EE zq 11 (mkT 36 [(6, (.lsl 0 x0 x1 none)), (25, (.sl 1 x2)), (26, (.int IntKind.i64 x3)), (27, (.int IntKind.i64 x4))]) [(.row z4e 1 x5 0 none)])
noncomputable def zdg (x0 : List PV) (x1 x2 : Int) (x3 : List PV) (x4 : Nat) : Option PV :=
 runW EE z15 (z4 EE zq 11 (mkT 36 [(6, (.lall 0)), (25, (.sl 1 x0)), (26, (.int IntKind.i64 x1)), (27, (.int IntKind.i64 x2))]) [(.row z4e 1 x3 x4 none)])
noncomputable def z3g (a0_0 a0_1 : Int) : Option PV := callF EE zj9 [(.agg [(.int IntKind.i64 a0_0), (.int IntKind.i64 a0_1)])]
noncomputable def z2e (a0_0 a0_1 : Int) : Option PV := callF EE zj8 [(.agg [(.int IntKind.i64 a0_0), (.int IntKind.i64 a0_1)])]
noncomputable abbrev zs7 : List TI := funTI EE zdo
noncomputable def zrl (a0 a1 a2 a3 : Int) : Option PV := callF EE zdo [(.int IntKind.i64 a0), (.int IntKind.i64 a1), (.int IntKind.i64 a2), (.int IntKind.i64 a3)]
noncomputable def ze4  : Option PV :=
 runW EE zs7 (z4 EE zdo 2 (mkT 42 []) [])
noncomputable def zws (x0 x1 x2 x3 : Int) : Option PV :=
 runW EE zs7 (z4 EE zdo 3 (mkT 42 [(0, (.int IntKind.i64 x0)), (1, (.int IntKind.i64 x1)), (2, (.int IntKind.i64 x2)), (3, (.int IntKind.i64 x3))]) [])
noncomputable abbrev zec : List TI := funTI EE z55
noncomputable def z9r (a0 a1 a2 a3 : Int) : Option PV := callF EE z55 [(.int IntKind.i64 a0), (.int IntKind.i64 a1), (.int IntKind.i64 a2), (.int IntKind.i64 a3)]
noncomputable def z1a  : Option PV :=
 runW EE zec (z4 EE z55 2 (mkT 54 []) [])
noncomputable def zad (x0 x1 x2 x3 : Int) : Option PV :=
 runW EE zec (z4 EE z55 3 (mkT 54 [(0, (.int IntKind.i64 x0)), (1, (.int IntKind.i64 x1)), (2, (.int IntKind.i64 x2)), (3, (.int IntKind.i64 x3))]) [])
noncomputable def z92 (a0_0 a0_1 : Int) : Option PV := callF EE zef [(.agg [(.int IntKind.i64 a0_0), (.int IntKind.i64 a0_1)])]
noncomputable def num_Sub (a0 a1 : Int) : Option PV := callF EE z17y [(.int IntKind.i64 a0), (.int IntKind.i64 a1)]
noncomputable def zl7 (a0 : Int) : Option PV := callF EE zw5 [(.int IntKind.u64 a0)]
noncomputable abbrev z49 : List TI := funTI EE z2w
noncomputable def zo1 (a0 : List PV) (a1 : List UInt8) : Option PV := callF EE z2w [(.sl 1 a0), (.str a1)]
noncomputable def zmk (x0 : List PV) (x1 : List UInt8) (x2 : Int) : Option PV :=
 runW EE z49 (z4 EE z2w 10 (mkT 75 [(0, (.sl 1 x0)), (1, (.str x1)), (5, (.int IntKind.i64 x2))]) [])
noncomputable def zgk (x0 : List PV) (x1 : List UInt8) (x2 : Int) : Option PV :=
 runW EE z49 (z4 EE z2w 11 (mkT 75 [(0, (.sl 1 x0)), (1, (.str x1)), (5, (.int IntKind.i64 x2))]) [])
noncomputable def zbq (x0 : List PV) (x1 : List UInt8) (x2 : Int) (x3 : List PV) (x4 x5 : Int) : Option PV :=
 runW EE z49 (z4 EE z2w 12 (mkT 75 [(0, (.sl 1 x0)), (1, (.str x1)), (5, (.int IntKind.i64 x2)), (39, (.sl 1 x3)), (40, (.int IntKind.i64 x4)), (41, (.int IntKind.i64 x5))]) [])
noncomputable def zmj (x0 : List PV) (x1 : List UInt8) (x2 : Int) (x3 : List UInt8) (x4 : List PV) (x5 x6 : Int) : Option PV :=
 runW EE z49 (z4 EE z2w 16 (mkT 75 [(0, (.sl 1 x0)), (1, (.str x1)), (5, (.int IntKind.i64 x2)), (7, (.str x3)), (39, (.sl 1 x4)), (40, (.int IntKind.i64 x5)), (41, (.int IntKind.i64 x6))]) [])
noncomputable def zgj (x0 : List PV) (x1 : List UInt8) (x2 : List PV) : Option PV :=
 runW EE z49 (z4 EE z2w 20 (mkT 75 [(0, (.sl 1 x0)), (1, (.str x1)), (8, (.ptr 0 0))]) [(.cells z9h [(.ptr 0 0), (.lall 1)] false), (.row zlf 1 x2 0 none)])
noncomputable def zio (x0 : List PV) (x1 : List UInt8) : Option PV :=
 runW EE z49 (z4 EE z2w 20 (mkT 75 [(0, (.sl 1 x0)), (1, (.str x1)), (8, (.ptr 0 0))]) [(.cells z9h [(.ptr 0 0), .sl0] false)])
noncomputable def zgi (x0 : List PV) (x1 : List UInt8) (x2 : List PV) : Option PV :=
 runW EE z49 (z4 EE z2w 21 (mkT 75 [(0, (.sl 1 x0)), (1, (.str x1)), (8, (.ptr 0 0))]) [(.cells z9h [(.ptr 0 0), (.lall 1)] false), (.row zlf 1 x2 0 none)])
noncomputable def zbp (x0 : List UInt8) (x1 : List PV) (x2 x3 : Int) (x4 : List PV) : Option PV :=
 runW EE z49 (z4 EE z2w 22 (mkT 75 [(1, (.str x0)), (8, (.ptr 0 0)), (63, (.sl 1 x1)), (64, (.int IntKind.i64 x2)), (65, (.int IntKind.i64 x3))]) [(.cells z9h [(.ptr 0 0), (.lall 1)] false), (.row zlf 1 x4 0 none)])
noncomputable def z2t (a0 : Int) : Option PV := callF EE zso [(.int IntKind.i64 a0)]
noncomputable abbrev zd0 : List TI := funTI EE z5z
noncomputable def zfe (a0 : Int) : Option PV := callF EE z5z [(.int IntKind.i64 a0)]
noncomputable def zf7  : Option PV :=
 runW EE zd0 (z4 EE z5z 2 (mkT 30 []) [])
noncomputable def zl9 (x0 : Int) : Option PV :=
 runW EE zd0 (z4 EE z5z 3 (mkT 30 [(0, (.int IntKind.i64 x0))]) [])
noncomputable def z8h (x0 : List UInt8) (x1 : Int) (x2 : List UInt8) (x3 : Nat) : Option PV :=
 runW EE zd0 (z4 EE z5z 6 (mkT 30 [(3, (.str x0)), (4, (.int IntKind.i64 x1)), (17, (.ptr 0 0))]) [(.iter x2 x3)])
noncomputable def zhi (a0 : Int) : Option PV := callF EE zwb [(.int IntKind.i64 a0)]
noncomputable def z1ju (a0 a1 : Int) : Option PV := callF EE z14o [(.int IntKind.u64 a0), (.int IntKind.u64 a1)]
noncomputable def zan (a0 : List UInt8) (a1 : List UInt8) : Option PV := callF EE zgw [(.str a0), (.str a1)]
noncomputable abbrev zmh : List TI := funTI EE za7
noncomputable def zcn (a0 a1 : Int) : Option PV := callF EE za7 [(.int IntKind.u64 a0), (.int IntKind.i64 a1)]
noncomputable def zaf (x0 x1 x2 : Int) (x3 : List PV) (x4 : Nat) : Option PV :=
 runW EE zmh (z4 EE za7 3 (mkT 28 [(0, (.int IntKind.u64 x0)), (1, (.int IntKind.i64 x1)), (5, (.ptr 0 0)), (6, (.int IntKind.i64 x2))]) [(.row zz3 1 x3 0 (some x4))])
noncomputable def zdx (x0 x1 x2 : Int) (x3 : List PV) (x4 : Nat) : Option PV :=
 runW EE zmh (z4 EE za7 5 (mkT 28 [(0, (.int IntKind.u64 x0)), (1, (.int IntKind.i64 x1)), (5, (.ptr 0 0)), (6, (.int IntKind.i64 x2))]) [(.row zz3 1 x3 0 (some x4))])
noncomputable def z1g5 (a0 a1 : Int) : Option PV := callF EE z182 [(.int IntKind.i64 a0), (.int IntKind.i64 a1)]
noncomputable def z1g4 (a0 a1 : Int) : Option PV := callF EE z181 [(.int IntKind.i64 a0), (.int IntKind.i64 a1)]
noncomputable def zcm (a0 a1 : Int) : Option PV := callF EE zoy [(.int IntKind.i64 a0), (.int IntKind.i64 a1)]
noncomputable abbrev zfh : List TI := funTI EE z5l
noncomputable def zal (a0 : List UInt8) (a1 : List UInt8) : Option PV := callF EE z5l [(.str a0), (.str a1)]
noncomputable def zaz  : Option PV :=
 runW EE zfh (z4 EE z5l 3 (mkT 143 []) [])
noncomputable def zgt (x0 : List UInt8) (x1 : List UInt8) (x2 : Int) : Option PV :=
 runW EE zfh (z4 EE z5l 4 (mkT 143 [(0, (.str x0)), (1, (.str x1)), (5, (.int IntKind.i64 x2))]) [])
noncomputable abbrev zcu : List TI := funTI EE z8s
noncomputable def zk8 (a0 : Int) : Option PV := callF EE z8s [(.int IntKind.i32 a0)]
noncomputable def zyv  : Option PV :=
 runW EE zcu (z4 EE z8s 2 (mkT 42 []) [])
noncomputable def zij (x0 : Int) : Option PV :=
 runW EE zcu (z4 EE z8s 3 (mkT 42 [(0, (.int IntKind.i32 x0))]) [])
noncomputable def zii  : Option PV :=
 runW EE zcu (z4 EE z8s 4 (mkT 42 []) [])
noncomputable def znh (x0 : Int) : Option PV :=
 runW EE zcu (z4 EE z8s 5 (mkT 42 [(0, (.int IntKind.i32 x0))]) [])
noncomputable def zcs  : Option PV :=
 runW EE zcu (z4 EE z8s 10 (mkT 42 []) [])
noncomputable abbrev z164 : List TI := funTI EE zh6
noncomputable def zhg (a0 : Bool) (a1_0 a1_1 : Int) : Option PV := callF EE zh6 [(.bool a0), (.agg [(.int IntKind.u64 a1_0), (.int IntKind.u64 a1_1)])]
noncomputable def zlw (x0 : Bool) (x1 : List PV) (x2 : Nat) : Option PV :=
 runW EE z164 (z4 EE zh6 5 (mkT 31 [(0, (.bool x0)), (3, (.ptr 0 0))]) [(.row z1c8 1 x1 0 (some x2))])
noncomputable def zlx (a0 a1 : Int) : Option PV := callF EE zsv [(.int IntKind.i64 a0), (.int IntKind.i64 a1)]
noncomputable def zed (a0 : List UInt8) (a1 : List UInt8) : Option PV := callF EE zbb [(.str a0), (.str a1)]
noncomputable abbrev zgr : List TI := funTI EE z6h
noncomputable def zmi (a0 : List UInt8) (a1 : List UInt8) (a2 a3 : Int) : Option PV := callF EE z6h [(.str a0), (.str a1), (.int IntKind.i64 a2), (.int IntKind.i64 a3)]
noncomputable def zbw (x0 : List UInt8) (x1 : List UInt8) (x2 x3 : Int) : Option PV :=
 runW EE zgr (z4 EE z6h 7 (mkT 66 [(0, (.str x0)), (1, (.str x1)), (2, (.int IntKind.i64 x2)), (3, (.int IntKind.i64 x3))]) [])
noncomputable def z80 (x0 : List UInt8) (x1 : List UInt8) (x2 x3 x4 : Int) (x5 : List PV) (x6 : Nat) : Option PV :=
 runW EE zgr (z4 EE z6h 11 (mkT 66 [(0, (.str x0)), (1, (.str x1)), (2, (.int IntKind.i64 x2)), (3, (.int IntKind.i64 x3)), (9, (.lall 0)), (10, (.int IntKind.i64 x4))]) [(.row z4e 1 x5 0 (some x6))])
noncomputable abbrev zlj : List TI := funTI EE z6o
noncomputable def zc3 (a0 : Int) : Option PV := callF EE z6o [(.int IntKind.i64 a0)]
noncomputable def z4o (x0 x1 x2 : Int) : Option PV :=
 runW EE zlj (z4 EE z6o 3 (mkT 24 [(0, (.int IntKind.i64 x0)), (3, (.int IntKind.i64 x1)), (4, (.int IntKind.i64 x2))]) [])
noncomputable def zf5 (a0 : Int) : Option PV := callF EE zgz [(.int IntKind.i64 a0)]
noncomputable def zav (a0 a1 : Int) : Option PV := callF EE zgy [(.int IntKind.i64 a0), (.int IntKind.i64 a1)]
noncomputable def z4u (a0 a1 : Int) : Option PV := callF EE zgx [(.int IntKind.i64 a0), (.int IntKind.i64 a1)]
noncomputable def zxb (a0 : List UInt8) (a1 : List PV) : Option PV := callF EE zvs [(.str a0), (.sl 1 a1)]
noncomputable def zmd (a0 a1 : Int) : Option PV := callF EE zsy [(.int IntKind.i64 a0), (.int IntKind.i64 a1)]
noncomputable abbrev z5a : List TI := funTI EE z2c
noncomputable def zb2 (a0 : List UInt8) : Option PV := callF EE z2c [(.str a0)]
noncomputable def z46 (x0 : List UInt8) (x1 x2 x3 : Int) : Option PV :=
 runW EE z5a (z4 EE z2c 4 (mkT 50 [(0, (.str x0)), (4, (.int IntKind.i64 x1)), (5, (.int IntKind.i64 x2)), (6, (.int IntKind.i64 x3))]) [])
noncomputable def z8b (x0 : List UInt8) (x1 x2 x3 : Int) : Option PV :=
 runW EE z5a (z4 EE z2c 10 (mkT 50 [(0, (.str x0)), (4, (.int IntKind.i64 x1)), (6, (.int IntKind.i64 x2)), (7, (.int IntKind.i64 x3))]) [])
noncomputable def z5f (x0 : List UInt8) (x1 x2 x3 x4 : Int) : Option PV :=
 runW EE z5a (z4 EE z2c 11 (mkT 50 [(0, (.str x0)), (4, (.int IntKind.i64 x1)), (5, (.int IntKind.i64 x2)), (6, (.int IntKind.i64 x3)), (7, (.int IntKind.i64 x4))]) [])
noncomputable def z93 (x0 : List UInt8) (x1 x2 x3 : Int) : Option PV :=
 runW EE z5a (z4 EE z2c 5 (mkT 50 [(0, (.str x0)), (4, (.int IntKind.i64 x1)), (5, (.int IntKind.i64 x2)), (6, (.int IntKind.i64 x3))]) [])
noncomputable def z156 (a0 : Int) : Option PV := callF EE zsw [(.int IntKind.u64 a0)]
noncomputable def zwt (a0 : Int) : Option PV := callF EE z105 [(.int IntKind.i64 a0)]
noncomputable def zmc (a0 : Int) : Option PV := callF EE zsx [(.int IntKind.i64 a0)]
noncomputable def zrm (a0 a1 : Int) : Option PV := callF EE zwc [(.int IntKind.u64 a0), (.int IntKind.u64 a1)]
noncomputable def z9t (a0 : List UInt8) (a1 : List UInt8) : Option PV := callF EE zci [(.str a0), (.str a1)]
noncomputable abbrev zuv : List TI := funTI EE zfz
noncomputable def z1da (a0 a1 a2 : Int) : Option PV := callF EE zfz [(.int IntKind.i64 a0), (.int IntKind.i64 a1), (.int IntKind.i64 a2)]
noncomputable def zj0 (x0 : Bool) (x1 : Int) : Option PV :=
 runW EE zuv (z4 EE zfz 9 (mkT 66 [(10, (.bool x0)), (11, (.int IntKind.u64 x1))]) [])
noncomputable def zvl (x0 : Int) : Option PV :=
 runW EE zuv (z4 EE zfz 10 (mkT 66 [(11, (.int IntKind.u64 x0))]) [])
noncomputable def z7a (a0 : List UInt8) (a1 : Int) : Option PV := callF EE zch [(.str a0), (.int IntKind.u8 a1)]
noncomputable def zvj (a0 : Int) : Option PV := callF EE z14k [(.int IntKind.i64 a0)]
noncomputable def z12y (a0 : List UInt8) (a1 : Int) : Option PV := callF EE zvu [(.str a0), (.int IntKind.i64 a1)]
noncomputable abbrev zxr : List TI := funTI EE zbt
noncomputable def zln (a0 : List UInt8) (a1 : List UInt8) : Option PV := callF EE zbt [(.str a0), (.str a1)]
noncomputable def z10s (x0 : List UInt8) (x1 : List UInt8) (x2 : Int) : Option PV :=
 runW EE zxr (z4 EE zbt 6 (mkT 34 [(0, (.str x0)), (1, (.str x1)), (5, (.int IntKind.i64 x2))]) [])
noncomputable def zlm (a0 : List UInt8) (a1 : List UInt8) : Option PV := callF EE zmp [(.str a0), (.str a1)]
noncomputable def zhz  : Option PV := callF EE zej []
noncomputable def zjf  : Option PV := callF EE zg4 []
noncomputable abbrev zcp : List TI := funTI EE z2q
noncomputable def z8j (a0 : List PV) (a1 : PV) : Option PV := callF EE z2q [(.sl 1 a0), a1]
noncomputable def z2o (x0 : List PV) (x1 : PV) (x2 x3 : Int) : Option PV :=
 runW EE zcp (z4 EE z2q 2 (mkT 19 [(0, (.sl 1 x0)), (1, (.opq x1 0)), (7, (.int IntKind.i64 x2)), (8, (.int IntKind.i64 x3))]) [])
noncomputable def zni (a0 : List UInt8) (q0 : PV) : Option PV := callF EE z6g [(.str a0), q0]
noncomputable def zc1 (a0 : Int) : Option PV := callF EE zeg [(.int IntKind.u8 a0)]
noncomputable def zu8  : Option PV := callF EE zt0 []
noncomputable def zyn  : Option PV := callF EE zw9 []
noncomputable abbrev zjl : List TI := funTI EE zas
noncomputable def z18i (a0 a1 a2 : Int) : Option PV := callF EE zas [(.int IntKind.u64 a0), (.int IntKind.u64 a1), (.int IntKind.u64 a2)]
noncomputable def zx0 (x0 x1 x2 : Int) : Option PV :=
 runW EE zjl (z4 EE zas 3 (mkT 135 [(0, (.int IntKind.u64 x0)), (1, (.int IntKind.u64 x1)), (2, (.int IntKind.u64 x2))]) [])
noncomputable def zwz (x0 x1 x2 : Int) : Option PV :=
 runW EE zjl (z4 EE zas 5 (mkT 135 [(0, (.int IntKind.u64 x0)), (1, (.int IntKind.u64 x1)), (2, (.int IntKind.u64 x2))]) [])
noncomputable def z16r (x0 x1 x2 x3 x4 x5 x6 x7 x8 : Int) : Option PV :=
 runW EE zjl (z4 EE zas 17 (mkT 135 [(2, (.int IntKind.u64 x0)), (8, (.int IntKind.u64 x1)), (9, (.int IntKind.u64 x2)), (10, (.int IntKind.u64 x3)), (11, (.int IntKind.u64 x4)), (13, (.int IntKind.u64 x5)), (14, (.int IntKind.u64 x6)), (15, (.int IntKind.u64 x7)), (16, (.int IntKind.u64 x8))]) [])
noncomputable def zn0 (a0 : List UInt8) : Option PV := callF EE zju [(.str a0)]
noncomputable def zu9 (a0 : Int) : Option PV := callF EE zn3 [(.int IntKind.u64 a0)]
noncomputable abbrev z3k : List TI := funTI EE z25
noncomputable def zdb (a0 : List PV) : Option PV := callF EE z25 [(.sl 1 a0)]
noncomputable def zvd (x0 : List PV) (x1 x2 x3 x4 : Int) (x5 : List PV) (x6 : Nat) : Option PV :=
 runW EE z3k (z4 EE z25 5 (mkT 52 [(0, (.sl 1 x0)), (2, (.ptr 0 0)), (4, (.int IntKind.i64 x1)), (5, (.lall 1))]) [(.cells za [(.int IntKind.i64 x2), (.int IntKind.i64 x3), (.int IntKind.i64 x4)] false), (.row z4e 1 x5 0 (some x6))])
noncomputable def zrq (x0 : List PV) (x1 : Int) (x2 : Nat) (x3 : Nat) (x4 x5 x6 : Int) (x7 : List PV) (x8 : Nat) : Option PV :=
 runW EE z3k (z4 EE z25 5 (mkT 52 [(0, (.sl 1 x0)), (2, (.ptr 0 0)), (4, (.int IntKind.i64 x1)), (5, (.lsl 1 x2 x3 none))]) [(.cells za [(.int IntKind.i64 x4), (.int IntKind.i64 x5), (.int IntKind.i64 x6)] false), (.row z4e 1 x7 0 (some x8))])
noncomputable def zb1 (x0 : List PV) (x1 x2 x3 x4 : Int) (x5 : List PV) : Option PV :=
 runW EE z3k (z4 EE z25 5 (mkT 52 [(0, (.sl 1 x0)), (2, (.ptr 0 0)), (4, (.int IntKind.i64 x1)), (5, (.lall 1))]) [(.cells za [(.int IntKind.i64 x2), (.int IntKind.i64 x3), (.int IntKind.i64 x4)] false), (.row z4e 1 x5 0 none)])
noncomputable def z5k (x0 : List PV) (x1 : Int) (x2 : Nat) (x3 : Nat) (x4 x5 x6 : Int) (x7 : List PV) : Option PV :=
 runW EE z3k (z4 EE z25 5 (mkT 52 [(0, (.sl 1 x0)), (2, (.ptr 0 0)), (4, (.int IntKind.i64 x1)), (5, (.lsl 1 x2 x3 none))]) [(.cells za [(.int IntKind.i64 x4), (.int IntKind.i64 x5), (.int IntKind.i64 x6)] false), (.row z4e 1 x7 0 none)])
noncomputable def zgu (x0 : List PV) (x1 : Int) (x2 : Nat) (x3 : Nat) (x4 x5 x6 : Int) (x7 : List PV) : Option PV :=
 runW EE z3k (z4 EE z25 6 (mkT 52 [(0, (.sl 1 x0)), (2, (.ptr 0 0)), (4, (.int IntKind.i64 x1)), (5, (.lsl 1 x2 x3 none))]) [(.cells za [(.int IntKind.i64 x4), (.int IntKind.i64 x5), (.int IntKind.i64 x6)] false), (.row z4e 1 x7 0 none)])
noncomputable def z22 (x0 : List PV) (x1 : Int) (x2 : Nat) (x3 : Nat) (x4 x5 x6 : Int) (x7 : List PV) : Option PV :=
 runW EE z3k (z4 EE z25 7 (mkT 52 [(0, (.sl 1 x0)), (2, (.ptr 0 0)), (4, (.int IntKind.i64 x1)), (5, (.lsl 1 x2 x3 none))]) [(.cells za [(.int IntKind.i64 x4), (.int IntKind.i64 x5), (.int IntKind.i64 x6)] false), (.row z4e 1 x7 0 none)])
noncomputable def z1c (x0 : Nat) (x1 : Nat) (x2 x3 : Int) (x4 : List PV) (x5 x6 x7 : Int) (x8 : List PV) (x9 : Int) (x10 : Nat) (x11 : Nat) (x12 : Nat) (x13 : Nat) : Option PV :=
 runW EE z3k (z1m EE zkq 1 (mkT 28 [(0, (.lsl 0 x0 x1 none)), (2, (.int IntKind.i64 x2)), (3, (.int IntKind.i64 x3))]) [(.row z4e 1 x4 0 none), (.cells za [(.int IntKind.i64 x5), (.int IntKind.i64 x6), (.int IntKind.i64 x7)] false)] [frAt EE z25 6 1 (mkT 52 [(0, (.sl 1 x8)), (2, (.ptr 1 0)), (4, (.int IntKind.i64 x9)), (5, (.lsl 0 x10 x11 none)), (26, (.lsl 0 x12 x13 none))]) []] [])
noncomputable abbrev zjk : List TI := funTI EE z5e
noncomputable def z9w (a0 : List PV) (a1 : PV) : Option PV := callF EE z5e [(.sl 1 a0), a1]
noncomputable def z87 (x0 : List PV) (x1 : PV) (x2 x3 : Int) : Option PV :=
 runW EE zjk (z4 EE z5e 2 (mkT 19 [(0, (.sl 1 x0)), (1, (.opq x1 0)), (7, (.int IntKind.i64 x2)), (8, (.int IntKind.i64 x3))]) [])
noncomputable def zkl (a0 : List UInt8) : Option PV := callF EE z34 [(.str a0)]
noncomputable def zd9 (a0 : List UInt8) : Option PV := callF EE zj7 [(.str a0)]
noncomputable abbrev zhl : List TI := funTI EE z7e
noncomputable def zd8 (a0_0 : List PV) (a0_1 : Int) : Option PV := callF EE z7e [(.agg [(.sl 1 a0_0), (.int IntKind.i64 a0_1)])]
noncomputable def z5d (x0 : List UInt8) (x1 : List UInt8) (x2 : List UInt8) (x3 x4 x5 : Int) : Option PV :=
 runW EE zhl (z4 EE z7e 6 (mkT 65 [(2, (.ptr 0 0)), (4, (.str x0)), (5, (.str x1)), (6, (.str x2))]) [(.cells za [(.int IntKind.i64 x3), (.int IntKind.i64 x4), (.int IntKind.i64 x5)] false)])
noncomputable def ziw (x0 : List UInt8) (x1 : List UInt8) (x2 : List UInt8) (x3 : List PV) (x4 x5 x6 x7 : Int) : Option PV :=
 runW EE zhl (z4 EE z7e 4 (mkT 65 [(1, (.ptr 0 0)), (2, (.ptr 1 0)), (4, (.str x0)), (5, (.str x1)), (6, (.str x2))]) [(.cells zlg [(.sl 1 x3), (.int IntKind.i64 x4)] false), (.cells za [(.int IntKind.i64 x5), (.int IntKind.i64 x6), (.int IntKind.i64 x7)] false)])
noncomputable def z13i (a0 : List UInt8) : Option PV := callF EE zzz [(.str a0)]
theorem zk6 (a0_0 a0_1 a1_0 a1_1 a2_0 a2_1 a2_2 : Int) : zet a0_0 a0_1 a1_0 a1_1 a2_0 a2_1 a2_2 =
  ((zod a0_0 a0_1 a2_0 a2_1 a2_2).bind fun v1 => (bif (eqB (PV.toI (PV.tnth v1 1)) 0) then ((z13n (PV.toS (PV.tnth v1 0)) a2_0 a2_1 a2_2).bind fun v2 => (bif (!((eqB (PV.toI (PV.nth (PV.tnth v2 0) 0)) a0_0) && ((eqB (PV.toI (PV.nth (PV.tnth v2 0) 1)) a0_1) && true))) then zbn else (bif (!(eqB (PV.toI (PV.tnth v2 1)) 0)) then zbn else (z4z a1_0 a1_1 a2_0 a2_1 a2_2)))) else (z4z a1_0 a1_1 a2_0 a2_1 a2_2))) :=
 (z3 EE z3e _ rfl).trans (by kernel_rfl)
theorem zha (x0 x1 x2 x3 x4 : Int) : z4z x0 x1 x2 x3 x4 =
  ((zxy x0 x1 x2 x3 x4).bind fun v3 => (bif (eqB (PV.toI (PV.tnth v3 1)) 0) then ((zr9 (PV.toS (PV.tnth v3 0)) x2 x3 x4).bind fun v4 => (bif (!((eqB (PV.toI (PV.nth (PV.tnth v4 0) 0)) x0) && ((eqB (PV.toI (PV.nth (PV.tnth v4 0) 1)) x1) && true))) then (some (PV.bool false)) else (bif (!(eqB (PV.toI (PV.tnth v4 1)) 0)) then (some (PV.bool false)) else ((z95).bind fun v5 => (some (PV.bool (PV.toB v5))))))) else ((z95).bind fun v6 => (some (PV.bool (PV.toB v6)))))) :=
 (z1 EE _ _).trans (by kernel_rfl)
theorem z1cy (a0 : List UInt8) (a1_0 a1_1 a1_2 : Int) : z13n a0 a1_0 a1_1 a1_2 =
  ((z19w a0 a1_0 a1_1 a1_2).bind fun v1 => (bif (!(eqB (PV.toI v1) 0)) then (some (PV.tuple [(PV.agg [(PV.int .i64 0), (PV.int .i64 0)]), (PV.int .i64 (PV.toI v1))])) else ((zkj a0).bind fun v2 => ((zix (PV.toL v2)).bind fun v3 => (bif (PV.toB (PV.tnth v3 1)) then (some (PV.tuple [(PV.agg [(PV.int .i64 (PV.toI (PV.nth (PV.tnth v3 0) 0))), (PV.int .i64 (PV.toI (PV.nth (PV.tnth v3 0) 1)))]), (PV.int .i64 0)])) else (bif (ltB (IntKind.wrap .i64 ((((List.length (PV.toL v2)) : Nat) : Int) - 1)) 1) then (za2 false a1_0 a1_1 a1_2 0 0 (PV.toL v2)) else ((rdI tiStr (PV.toL v2) (IntKind.wrap .i64 ((((List.length (PV.toL v2)) : Nat) : Int) - 1))).bind fun v4 => ((zc8 (PV.toS v4)).bind fun v5 => (bif (eqS (PV.toS v5) [98, 99]) then ((takeS (PV.toL v2) (IntKind.wrap .i64 ((((List.length (PV.toL v2)) : Nat) : Int) - 1))).bind fun v6 => (za2 (eqS (PV.toS v5) [98, 99]) a1_0 a1_1 a1_2 0 0 v6)) else (bif (eqS (PV.toS v5) [97, 100]) then ((takeS (PV.toL v2) (IntKind.wrap .i64 ((((List.length (PV.toL v2)) : Nat) : Int) - 1))).bind fun v7 => (za2 (eqS (PV.toS v5) [98, 99]) a1_0 a1_1 a1_2 0 0 v7)) else (za2 (eqS (PV.toS v5) [98, 99]) a1_0 a1_1 a1_2 0 0 (PV.toL v2)))))))))))) :=
 (z3 EE z27 _ rfl).trans (by kernel_rfl)
theorem z13m (x0 : Bool) (x1 x2 x3 x4 x5 : Int) (x6 : List PV) : za2 x0 x1 x2 x3 x4 x5 x6 =
  (bif (leB 3 (((List.length x6) : Nat) : Int)) then ((zhf x6).bind fun v8 => (bif (PV.toB v8) then (zb9 x0 x6 0 0 0 x1 x2 x3 x4 x5 x0 x0 x2) else (z4x x0 x2 x6 0 0 0 x1 x2 x3 x4 x5 x0 x0 x2))) else (z4x x0 x2 x6 0 0 0 x1 x2 x3 x4 x5 x0 x0 x2)) :=
 (z1 EE _ _).trans (by kernel_rfl)
theorem zh3 (x0 : Bool) (x1 : List PV) (x2 x3 x4 x5 x6 x7 x8 x9 : Int) (x10 : Bool) (x11 : Bool) (x12 : Int) : zb9 x0 x1 x2 x3 x4 x5 x6 x7 x8 x9 x10 x11 x12 =
  ((takeS x1 3).bind fun v9 => ((dropS x1 3).bind fun v10 => (z7t x0 v9 x2 x3 x4 x5 x6 x7 x8 x9 v10 x10 x11 x12))) :=
 (z1 EE _ _).trans (by kernel_rfl)
theorem z9o (x0 : Bool) (x1 : Int) (x2 : List PV) (x3 x4 x5 x6 x7 x8 x9 x10 : Int) (x11 : Bool) (x12 : Bool) (x13 : Int) : z4x x0 x1 x2 x3 x4 x5 x6 x7 x8 x9 x10 x11 x12 x13 =
  (bif (eqB (((List.length x2) : Nat) : Int) 0) then (z4w x0 x1 [] false x3 x4 x5 x6 x7 x8 x9 x10 x2 x11 x12 x13) else ((rdI tiStr x2 0).bind fun v11 => ((dropS x2 1).bind fun v12 => (z4w x0 x1 (PV.toS v11) true x3 x4 x5 x6 x7 x8 x9 x10 v12 x11 x12 x13)))) :=
 (z1 EE _ _).trans (by kernel_rfl)
theorem z9m (x0 : Bool) (x1 : List PV) (x2 x3 x4 x5 x6 x7 x8 x9 : Int) (x10 : List PV) (x11 : Bool) (x12 : Bool) (x13 : Int) : z7t x0 x1 x2 x3 x4 x5 x6 x7 x8 x9 x10 x11 x12 x13 =
  ((zdb x1).bind fun v13 => (bif (!(PV.toB (PV.tnth v13 1))) then (z10 x2 x3 x4 x5 x6 x7 x8 x9 x10 x11 x12 x13) else (bif (eqB (PV.toI (PV.nth (PV.tnth v13 0) 0)) 0) then (z10 x2 x3 x4 x5 x6 x7 x8 x9 x10 x11 x12 x13) else (z33 x0 x2 x3 x4 (PV.toI (PV.nth (PV.tnth v13 0) 0)) (PV.toI (PV.nth (PV.tnth v13 0) 1)) (PV.toI (PV.nth (PV.tnth v13 0) 2)) x5 x6 x7 x8 x9 x10 x11 x12 x13)))) :=
 (z1 EE _ _).trans (by kernel_rfl)
theorem z9n (x0 : Bool) (x1 : Int) (x2 : List UInt8) (x3 : Bool) (x4 x5 x6 x7 x8 x9 x10 x11 : Int) (x12 : List PV) (x13 : Bool) (x14 : Bool) (x15 : Int) : z4w x0 x1 x2 x3 x4 x5 x6 x7 x8 x9 x10 x11 x12 x13 x14 x15 =
  (bif x3 then ((z4q x2 8 8).bind fun v14 => (bif (PV.toB v14) then (za1 x0 x2 x4 x5 x6 x7 x8 x9 x10 x11 x12 x13 x14 x15) else (z41 x2 x1 [45, 47, 46] 0 x4 x5 x6 x7 x8 x9 x10 x11 x12 x0 x1 x2 x2 x1 x13 x14 x15))) else (z6e x0 x4 x5 x6 x7 x8 x9 x10 x11 x12 x13 x14 x15)) :=
 (z1 EE _ _).trans (by kernel_rfl)
theorem z97 (x0 x1 x2 x3 x4 x5 x6 x7 : Int) (x8 : List PV) (x9 : Bool) (x10 : Bool) (x11 : Int) : z10 x0 x1 x2 x3 x4 x5 x6 x7 x8 x9 x10 x11 =
  (z3j false x6 x7 x8 0 0 0) :=
 (z1 EE _ _).trans (by kernel_rfl)
theorem zgn (x0 : Bool) (x1 x2 x3 x4 x5 x6 x7 x8 x9 x10 x11 : Int) (x12 : List PV) (x13 : Bool) (x14 : Bool) (x15 : Int) : z33 x0 x1 x2 x3 x4 x5 x6 x7 x8 x9 x10 x11 x12 x13 x14 x15 =
  (bif x0 then (z4d x1 x2 x3 (IntKind.wrap .i64 (1 - x4)) x5 x6 x7 x8 x9 x10 x11 x12 x13 x14 x15) else (z4d x1 x2 x3 x4 x5 x6 x7 x8 x9 x10 x11 x12 x13 x14 x15)) :=
 (z1 EE _ _).trans (by kernel_rfl)
theorem zfq (x0 : Bool) (x1 : List UInt8) (x2 x3 x4 x5 x6 x7 x8 x9 : Int) (x10 : List PV) (x11 : Bool) (x12 : Bool) (x13 : Int) : za1 x0 x1 x2 x3 x4 x5 x6 x7 x8 x9 x10 x11 x12 x13 =
  ((zd9 x1).bind fun v15 => (bif (!(PV.toB (PV.tnth v15 1))) then (z10 x2 x3 x4 x5 x6 x7 x8 x9 x10 x11 x12 x13) else (bif (eqB (PV.toI (PV.nth (PV.tnth v15 0) 0)) 0) then (z10 x2 x3 x4 x5 x6 x7 x8 x9 x10 x11 x12 x13) else (z33 x0 x2 x3 x4 (PV.toI (PV.nth (PV.tnth v15 0) 0)) (PV.toI (PV.nth (PV.tnth v15 0) 1)) (PV.toI (PV.nth (PV.tnth v15 0) 2)) x5 x6 x7 x8 x9 x10 x11 x12 x13)))) :=
 (z1 EE _ _).trans (by kernel_rfl)
theorem z8q (x0 : List UInt8) (x1 : Int) (x2 : List UInt8) (x3 : Nat) (x4 x5 x6 x7 x8 x9 x10 x11 : Int) (x12 : List PV) (x13 : Bool) (x14 : Int) (x15 : List UInt8) (x16 : List UInt8) (x17 : Int) (x18 : Bool) (x19 : Bool) (x20 : Int) : z41 x0 x1 x2 x3 x4 x5 x6 x7 x8 x9 x10 x11 x12 x13 x14 x15 x16 x17 x18 x19 x20 =
  (bif (ltN x3 (List.length x2)) then ((zh2 x0 (encR ((((decR x2 x3).1) : Nat) : Int))).bind fun v16 => (bif (!(eqB (((List.length (PV.toL v16)) : Nat) : Int) 3)) then (z41 x0 x1 x2 (x3 + ((decR x2 x3).2)) x4 x5 x6 x7 x8 x9 x10 x11 x12 x13 x14 x15 x16 x17 x18 x19 x20) else (bif (eqB ((((decR x2 x3).1) : Nat) : Int) 45) then ((zhf (PV.toL v16)).bind fun v17 => (bif (PV.toB v17) then (z7t x13 (PV.toL v16) x4 x5 x6 x7 x8 x9 x10 x11 x12 x18 x19 x20) else (z40 x13 (PV.toL v16) x1 x4 x5 x6 x7 x8 x9 x10 x11 x12 x18 x19 x20))) else (z40 x13 (PV.toL v16) x1 x4 x5 x6 x7 x8 x9 x10 x11 x12 x18 x19 x20)))) else (z6e x13 x4 x5 x6 x7 x8 x9 x10 x11 x12 x18 x19 x20)) :=
 (z1 EE _ _).trans (by kernel_rfl)
theorem z8p (x0 : Bool) (x1 x2 x3 x4 x5 x6 x7 x8 : Int) (x9 : List PV) (x10 : Bool) (x11 : Bool) (x12 : Int) : z6e x0 x1 x2 x3 x4 x5 x6 x7 x8 x9 x10 x11 x12 =
  (z3j false x7 x8 x9 0 0 0) :=
 (z1 EE _ _).trans (by kernel_rfl)
theorem z10y (x0 : Bool) (x1 x2 : Int) (x3 : List PV) (x4 x5 x6 : Int) : z3j x0 x1 x2 x3 x4 x5 x6 =
  (bif (!x0) then (zlv x1 x2) else (bif (ltB 0 (((List.length x3) : Nat) : Int)) then (zlv x1 x2) else ((zwl x4 x5 x6).bind fun v18 => (some (PV.tuple [(PV.agg [(PV.int .i64 (PV.toI (PV.nth (PV.tnth v18 0) 0))), (PV.int .i64 (PV.toI (PV.nth (PV.tnth v18 0) 1)))]), (PV.int .i64 (PV.toI (PV.tnth v18 1)))]))))) :=
 (z1 EE _ _).trans (by kernel_rfl)
theorem zgm (x0 x1 x2 x3 x4 x5 x6 x7 x8 x9 x10 : Int) (x11 : List PV) (x12 : Bool) (x13 : Bool) (x14 : Int) : z4d x0 x1 x2 x3 x4 x5 x6 x7 x8 x9 x10 x11 x12 x13 x14 =
  (bif (leB 1 x5) then ((zi3 x3 x4).bind fun v19 => (z3j (leB x5 (PV.toI v19)) x9 x10 x11 x3 x4 x5)) else (z3j false x9 x10 x11 x3 x4 x5)) :=
 (z1 EE _ _).trans (by kernel_rfl)
theorem zfp (x0 : Bool) (x1 : List PV) (x2 x3 x4 x5 x6 x7 x8 x9 x10 : Int) (x11 : List PV) (x12 : Bool) (x13 : Bool) (x14 : Int) : z40 x0 x1 x2 x3 x4 x5 x6 x7 x8 x9 x10 x11 x12 x13 x14 =
  ((zd8 x1 x2).bind fun v20 => (bif (!(PV.toB (PV.tnth v20 1))) then (z10 x3 x4 x5 x6 x7 x8 x9 x10 x11 x12 x13 x14) else (bif (eqB (PV.toI (PV.nth (PV.tnth v20 0) 0)) 0) then (z10 x3 x4 x5 x6 x7 x8 x9 x10 x11 x12 x13 x14) else (z33 x0 x3 x4 x5 (PV.toI (PV.nth (PV.tnth v20 0) 0)) (PV.toI (PV.nth (PV.tnth v20 0) 1)) (PV.toI (PV.nth (PV.tnth v20 0) 2)) x6 x7 x8 x9 x10 x11 x12 x13 x14)))) :=
 (z1 EE _ _).trans (by kernel_rfl)
theorem z10x (x0 x1 : Int) : zlv x0 x1 =
  (some (PV.tuple [(PV.agg [(PV.int .i64 0), (PV.int .i64 0)]), (PV.int .i64 13)])) :=
 (z1 EE _ _).trans (by kernel_rfl)
theorem zp6 (a0 : List UInt8) (a1_0 a1_1 a1_2 : Int) : zje a0 a1_0 a1_1 a1_2 =
  (bif (ltB a1_1 0) then (zab 0 0) else (bif (ltB 2 a1_1) then (zab 0 0) else (zga a0 a1_0 a1_1 a1_2 0 0))) :=
 (z3 EE z54 _ rfl).trans (by kernel_rfl)
theorem zky (x0 x1 : Int) : zab x0 x1 =
  (some (PV.tuple [(PV.agg [(PV.int .i64 0), (PV.int .i64 0)]), (PV.int .i64 1)])) :=
 (z1 EE _ _).trans (by kernel_rfl)
theorem zkx (x0 : List UInt8) (x1 x2 x3 x4 x5 : Int) : zga x0 x1 x2 x3 x4 x5 =
  (bif (ltB 2048 (((List.length x0) : Nat) : Int)) then (some (PV.tuple [(PV.agg [(PV.int .i64 0), (PV.int .i64 0)]), (PV.int .i64 13)])) else ((z8w x0).bind fun v1 => ((z7f (PV.toL v1)).bind fun v2 => (bif (eqB (PV.toI v2) 2) then (some (PV.tuple [(PV.agg [(PV.int .i64 0), (PV.int .i64 (-10957))]), (PV.int .i64 0)])) else (bif (!(eqB (PV.toI v2) 0)) then (some (PV.tuple [(PV.agg [(PV.int .i64 (PV.toI v2)), (PV.int .i64 0)]), (PV.int .i64 0)])) else ((zau (PV.toL v1)).bind fun v3 => ((z9q (PV.toL (PV.tnth v3 0)) (PV.toB (PV.tnth v3 1)) x2).bind fun v4 => (bif (!(PV.toB (PV.tnth v4 4))) then (some (PV.tuple [(PV.agg [(PV.int .i64 0), (PV.int .i64 0)]), (PV.int .i64 13)])) else (bif (ltB 0 (((List.length (PV.toL (PV.tnth v4 3))) : Nat) : Int)) then (some (PV.tuple [(PV.agg [(PV.int .i64 0), (PV.int .i64 0)]), (PV.int .i64 13)])) else ((z7h (PV.toI (PV.tnth v4 0)) (PV.toI (PV.tnth v4 1)) (PV.toI (PV.tnth v4 2))).bind fun v5 => (some (PV.tuple [(PV.agg [(PV.int .i64 (PV.toI (PV.nth (PV.tnth v5 0) 0))), (PV.int .i64 (PV.toI (PV.nth (PV.tnth v5 0) 1)))]), (PV.int .i64 (PV.toI (PV.tnth v5 1)))])))))))))))) :=
 (z1 EE _ _).trans (by kernel_rfl)
theorem z19y (a0 : List UInt8) (a1_0 a1_1 a1_2 : Int) : zr9 a0 a1_0 a1_1 a1_2 =
  ((z19w a0 a1_0 a1_1 a1_2).bind fun v1 => (bif (!(eqB (PV.toI v1) 0)) then (some (PV.tuple [(PV.agg [(PV.int .i64 0), (PV.int .i64 0)]), (PV.int .i64 (PV.toI v1))])) else ((z17f a0).bind fun v2 => (bif (PV.toB (PV.tnth v2 1)) then (some (PV.tuple [(PV.agg [(PV.int .i64 (PV.toI (PV.nth (PV.tnth v2 0) 0))), (PV.int .i64 (PV.toI (PV.nth (PV.tnth v2 0) 1)))]), (PV.int .i64 0)])) else ((ztr a0 a1_1 false).bind fun v3 => (bif (!(eqB (PV.toI (PV.tnth v3 2)) 0)) then (some (PV.tuple [(PV.agg [(PV.int .i64 0), (PV.int .i64 0)]), (PV.int .i64 (PV.toI (PV.tnth v3 2)))])) else (some (PV.tuple [(PV.agg [(PV.int .i64 (PV.toI (PV.nth (PV.tnth v3 0) 0))), (PV.int .i64 (PV.toI (PV.nth (PV.tnth v3 0) 1)))]), (PV.int .i64 0)])))))))) :=
 (z3 EE zw1 _ rfl).trans (by kernel_rfl)
theorem zeo (a0 : List UInt8) (a1_0 a1_1 a1_2 : Int) : z91 a0 a1_0 a1_1 a1_2 =
  (bif (ltB a1_1 0) then (z4l 0 0) else (bif (ltB 2 a1_1) then (z4l 0 0) else (zep a0 a1_0 a1_1 a1_2 0 0))) :=
 (z3 EE z4h _ rfl).trans (by kernel_rfl)
theorem zbh (x0 x1 : Int) : z4l x0 x1 =
  (some (PV.tuple [(PV.agg [(PV.int .i64 0), (PV.int .i64 0)]), (PV.int .i64 1)])) :=
 (z1 EE _ _).trans (by kernel_rfl)
theorem zbg (x0 : List UInt8) (x1 x2 x3 x4 x5 : Int) : zep x0 x1 x2 x3 x4 x5 =
  (bif (ltB 2048 (((List.length x0) : Nat) : Int)) then (some (PV.tuple [(PV.agg [(PV.int .i64 0), (PV.int .i64 0)]), (PV.int .i64 13)])) else ((z8w x0).bind fun v1 => ((z7f (PV.toL v1)).bind fun v2 => (bif (eqB (PV.toI v2) 2) then (some (PV.tuple [(PV.agg [(PV.int .i64 0), (PV.int .i64 (-946684800000000))]), (PV.int .i64 0)])) else (bif (!(eqB (PV.toI v2) 0)) then (some (PV.tuple [(PV.agg [(PV.int .i64 (PV.toI v2)), (PV.int .i64 0)]), (PV.int .i64 0)])) else ((z35 (PV.toL v1) x2 false).bind fun v3 => (bif (!(eqB (PV.toI (PV.tnth v3 2)) 0)) then (some (PV.tuple [(PV.agg [(PV.int .i64 0), (PV.int .i64 0)]), (PV.int .i64 (PV.toI (PV.tnth v3 2)))])) else (some (PV.tuple [(PV.agg [(PV.int .i64 (PV.toI (PV.nth (PV.tnth v3 0) 0))), (PV.int .i64 (PV.toI (PV.nth (PV.tnth v3 0) 1)))]), (PV.int .i64 0)]))))))))) :=
 (z1 EE _ _).trans (by kernel_rfl)
theorem znb (a0 : List UInt8) : z94 a0 =
  (z3d a0 0 []) :=
 (z3 EE z4j _ rfl).trans (by kernel_rfl)
theorem zbj (x0 : List UInt8) (x1 : Int) (x2 : List PV) : z3d x0 x1 x2 =
  (bif (ltB x1 (((List.length x0) : Nat) : Int)) then ((atS x0 x1).bind fun v1 => (bif (leB 65 v1) then (bif (leB v1 90) then (zes x0 x1 v1 x2) else ((appL 1 x2 [(PV.int .u8 v1)]).bind fun v2 => (z3d x0 (IntKind.wrap .i64 (x1 + 1)) v2))) else ((appL 1 x2 [(PV.int .u8 v1)]).bind fun v3 => (z3d x0 (IntKind.wrap .i64 (x1 + 1)) v3)))) else ((zag x2).bind fun v4 => (some (PV.str v4)))) :=
 (z1 EE _ _).trans (by kernel_rfl)
theorem zk1 (x0 : List UInt8) (x1 x2 : Int) (x3 : List PV) : zes x0 x1 x2 x3 =
  ((appL 1 x3 [(PV.int .u8 (IntKind.wrap .u8 (x2 + 32)))]).bind fun v5 => (z3d x0 (IntKind.wrap .i64 (x1 + 1)) v5)) :=
 (z1 EE _ _).trans (by kernel_rfl)
theorem z1cp (a0_0 a0_1 a0_2 a0_3 a1_0 a1_1 a1_2 : Int) : zke a0_0 a0_1 a0_2 a0_3 a1_0 a1_1 a1_2 =
  ((zxw a0_0 a0_1 a0_2 a0_3).bind fun v7 => (bif (!(PV.toB v7)) then (some (PV.tuple [(PV.str []), (PV.int .i64 1)])) else ((zkf a1_0 a1_1 a1_2).bind fun v8 => (bif (!(PV.toB v8)) then (some (PV.tuple [(PV.str []), (PV.int .i64 1)])) else (zzd a0_0 a0_1 a0_2 a0_3 a1_0 a1_1 a1_2))))) :=
 (z3 EE zj6 _ rfl).trans (by kernel_rfl)
theorem z139 (x0 x1 x2 x3 x4 x5 x6 : Int) : zzd x0 x1 x2 x3 x4 x5 x6 =
  (bif (!(eqB x0 0)) then ((zao x0).bind fun v9 => (some (PV.tuple [(PV.str (PV.toS v9)), (PV.int .i64 0)]))) else (bif (eqB x6 1) then ((z19e x0 x1 x2 x3).bind fun v10 => (some (PV.tuple [(PV.str (PV.toS v10)), (PV.int .i64 0)]))) else (bif (eqB x6 2) then ((z19f x0 x1 x2 x3).bind fun v11 => (some (PV.tuple [(PV.str (PV.toS v11)), (PV.int .i64 0)]))) else ((zlq x0 x1 x2 x3).bind fun v12 => (some (PV.tuple [(PV.str (PV.toS v12)), (PV.int .i64 0)])))))) :=
 (z1 EE _ _).trans (by kernel_rfl)
theorem znf  : z95  =
  ((zke 0 14 3 (-14706500000) 0 0 0).bind fun v21 => ((zke 0 14 3 (-14706500000) 0 0 1).bind fun v22 => ((zke 0 14 3 (-14706500000) 0 0 2).bind fun v23 => ((zke 0 (-1) 1 0 0 0 0).bind fun v24 => ((zod 0 8826 1 1 0).bind fun v25 => (bif (eqS (PV.toS (PV.tnth v21 0)) [49, 32, 121, 101, 97, 114, 32, 50, 32, 109, 111, 110, 115, 32, 51, 32, 100, 97, 121, 115, 32, 45, 48, 52, 58, 48, 53, 58, 48, 54, 46, 53]) then (bif (eqB (PV.toI (PV.tnth v21 1)) 0) then (bif (eqS (PV.toS (PV.tnth v22 0)) [43, 49, 45, 50, 32, 43, 51, 32, 45, 52, 58, 48, 53, 58, 48, 54, 46, 53]) then (bif (eqB (PV.toI (PV.tnth v22 1)) 0) then (bif (eqS (PV.toS (PV.tnth v23 0)) [80, 49, 89, 50, 77, 51, 68, 84, 45, 52, 72, 45, 53, 77, 45, 54, 46, 53, 83]) then (bif (eqB (PV.toI (PV.tnth v23 1)) 0) then (bif (eqS (PV.toS (PV.tnth v24 0)) [45, 49, 32, 109, 111, 110, 115, 32, 43, 49, 32, 100, 97, 121]) then (bif (eqB (PV.toI (PV.tnth v24 1)) 0) then (bif (eqS (PV.toS (PV.tnth v25 0)) [48, 49, 47, 48, 51, 47, 50, 48, 50, 52]) then (some (PV.bool (eqB (PV.toI (PV.tnth v25 1)) 0))) else (some (PV.bool false))) else (some (PV.bool false))) else (some (PV.bool false))) else (some (PV.bool false))) else (some (PV.bool false))) else (some (PV.bool false))) else (some (PV.bool false))) else (some (PV.bool false))) else (some (PV.bool false)))))))) :=
 (z3 EE zek _ rfl).trans (by kernel_rfl)
theorem zze (a0_0 a0_1 a1_0 a1_1 a1_2 : Int) : zod a0_0 a0_1 a1_0 a1_1 a1_2 =
  ((zg9 a0_0 a0_1).bind fun v6 => (bif (!(PV.toB v6)) then zoc else ((zkf a1_0 a1_1 a1_2).bind fun v7 => (bif (!(PV.toB v7)) then zoc else (zzf a0_0 a0_1 a1_0 a1_1 a1_2))))) :=
 (z3 EE zfx _ rfl).trans (by kernel_rfl)
theorem zob  : zoc  =
  (some (PV.tuple [(PV.str []), (PV.int .i64 1)])) :=
 (z1 EE _ _).trans (by kernel_rfl)
theorem zoa (x0 x1 x2 x3 x4 : Int) : zzf x0 x1 x2 x3 x4 =
  (bif (!(eqB x0 0)) then ((zao x0).bind fun v8 => (some (PV.tuple [(PV.str (PV.toS v8)), (PV.int .i64 0)]))) else ((zo9 x0 x1 x2 x3 x4).bind fun v9 => ((z1b [(PV.str (PV.toS (PV.tnth v9 0))), (PV.str (PV.toS (PV.tnth v9 1)))]).bind fun v10 => (some (PV.tuple [(PV.str (PV.toS v10)), (PV.int .i64 0)]))))) :=
 (z1 EE _ _).trans (by kernel_rfl)
theorem z19g (a0_0 a0_1 a1_0 a1_1 a1_2 : Int) : zxy a0_0 a0_1 a1_0 a1_1 a1_2 =
  ((z9c a0_0 a0_1).bind fun v4 => (bif (!(PV.toB v4)) then zlr else ((zkf a1_0 a1_1 a1_2).bind fun v5 => (bif (!(PV.toB v5)) then zlr else (zv5 a0_0 a0_1 a1_0 a1_1 a1_2))))) :=
 (z3 EE zdl _ rfl).trans (by kernel_rfl)
theorem zmm  : zlr  =
  (some (PV.tuple [(PV.str []), (PV.int .i64 1)])) :=
 (z1 EE _ _).trans (by kernel_rfl)
theorem z10u (x0 x1 x2 x3 x4 : Int) : zv5 x0 x1 x2 x3 x4 =
  (bif (!(eqB x0 0)) then ((zao x0).bind fun v6 => (some (PV.tuple [(PV.str (PV.toS v6)), (PV.int .i64 0)]))) else ((z136 x0 x1 x2 x3 x4).bind fun v7 => ((z1b [(PV.str (PV.toS (PV.tnth v7 0))), (PV.str (PV.toS (PV.tnth v7 1)))]).bind fun v8 => (some (PV.tuple [(PV.str (PV.toS v8)), (PV.int .i64 0)]))))) :=
 (z1 EE _ _).trans (by kernel_rfl)
theorem z19t (a0 : List UInt8) : zkj a0 =
  ((zip a0 (PV.func (Go.Fn.func za6) [] [])).bind fun v4 => (some (PV.sl 1 (PV.toL v4)))) :=
 (z3 EE zvx _ rfl).trans (by kernel_rfl)
theorem z13k (a0 : List PV) : zix a0 =
  (bif (!(eqB (((List.length a0) : Nat) : Int) 1)) then (some (PV.tuple [(PV.agg [(PV.int .i64 0), (PV.int .i64 0)]), (PV.bool false)])) else ((rdI tiStr a0 0).bind fun v6 => ((zc8 (PV.toS v6)).bind fun v7 => (bif (eqS (PV.toS v7) [105, 110, 102, 105, 110, 105, 116, 121]) then (some (PV.tuple [(PV.agg [(PV.int .i64 1), (PV.int .i64 0)]), (PV.bool true)])) else (bif (eqS (PV.toS v7) [45, 105, 110, 102, 105, 110, 105, 116, 121]) then (some (PV.tuple [(PV.agg [(PV.int .i64 (-1)), (PV.int .i64 0)]), (PV.bool true)])) else (bif (eqS (PV.toS v7) [101, 112, 111, 99, 104]) then (some (PV.tuple [(PV.agg [(PV.int .i64 0), (PV.int .i64 (-10957))]), (PV.bool true)])) else (some (PV.tuple [(PV.agg [(PV.int .i64 0), (PV.int .i64 0)]), (PV.bool false)])))))))) :=
 (z3 EE zox _ rfl).trans (by kernel_rfl)
theorem z18r (a0 : List UInt8) : zc8 a0 =
  (zaj (((List.length (List.map byteV a0)) : Nat) : Int) 0 (List.map byteV a0)) :=
 (z3 EE zh5 _ rfl).trans (by kernel_rfl)
theorem zmg (x0 x1 : Int) (x2 : List PV) : zaj x0 x1 x2 =
  (bif (ltB x1 x0) then (bif (inB 0 x1 (((List.length x2) : Nat) : Int)) then ((rdT (tiInt IntKind.u8) x2 (Int.toNat x1) 0).bind fun v13 => (bif (leB 65 (PV.toI v13)) then (bif (leB (PV.toI v13) 90) then (bif (inB 0 x1 (((List.length x2) : Nat) : Int)) then ((stC x2 (Int.toNat x1) 0 [(PV.int .u8 (orI IntKind.u8 (PV.toI v13) 32))]).bind fun v14 => (zaj x0 (IntKind.wrap .i64 (x1 + 1)) v14)) else none) else (zaj x0 (IntKind.wrap .i64 (x1 + 1)) x2)) else (zaj x0 (IntKind.wrap .i64 (x1 + 1)) x2))) else none) else ((zag x2).bind fun v15 => (some (PV.str v15)))) :=
 (z1 EE _ _).trans (by kernel_rfl)
theorem zgb (a0 a1 a2 : Int) : z7h a0 a1 a2 =
  ((zdw a0 a1 a2).bind fun v11 => (bif (!(eqB (PV.toI (PV.tnth v11 1)) 0)) then (some (PV.tuple [(PV.agg [(PV.int .i64 0), (PV.int .i64 0)]), (PV.int .i64 10)])) else ((z48 (PV.toI (PV.tnth v11 0))).bind fun v12 => (bif (!(PV.toB v12)) then (some (PV.tuple [(PV.agg [(PV.int .i64 0), (PV.int .i64 0)]), (PV.int .i64 10)])) else (some (PV.tuple [(PV.agg [(PV.int .i64 0), (PV.int .i64 (PV.toI (PV.tnth v11 0)))]), (PV.int .i64 0)])))))) :=
 (z3 EE zg1 _ rfl).trans (by kernel_rfl)
theorem z13l (a0 : List UInt8) (a1_0 a1_1 a1_2 : Int) : z19w a0 a1_0 a1_1 a1_2 =
  (bif (ltB a1_1 0) then (some (PV.int .i64 1)) else (bif (ltB 2 a1_1) then (some (PV.int .i64 1)) else (bif (ltB 2048 (((List.length a0) : Nat) : Int)) then (some (PV.int .i64 13)) else (some (PV.int .i64 0))))) :=
 (z3 EE z14j _ rfl).trans (by kernel_rfl)
theorem z155 (a0 a1 a2 : Int) : zwl a0 a1 a2 =
  ((zyo a0 a1 a2).bind fun v16 => ((z18b (PV.toI (PV.tnth v16 0)) (PV.toI (PV.tnth v16 1))).bind fun v17 => (some (PV.tuple [(PV.agg [(PV.int .i64 (PV.toI (PV.nth (PV.tnth v17 0) 0))), (PV.int .i64 (PV.toI (PV.nth (PV.tnth v17 0) 1)))]), (PV.int .i64 (PV.toI (PV.tnth v17 1)))])))) :=
 (z3 EE z14m _ rfl).trans (by kernel_rfl)
theorem zn4 (a0 : List UInt8) : z8w a0 =
  (z2l a0 0 0 []) :=
 (z3 EE z4f _ rfl).trans (by kernel_rfl)
theorem z7v (x0 : List UInt8) (x1 x2 : Int) (x3 : List PV) : z2l x0 x1 x2 x3 =
  (bif (leB x2 (((List.length x0) : Nat) : Int)) then (bif (eqB x2 (((List.length x0) : Nat) : Int)) then (z21 x0 x1 x2 x3) else ((atS x0 x2).bind fun v29 => (bif (eqB v29 32) then (z21 x0 x1 x2 x3) else ((atS x0 x2).bind fun v30 => (bif (eqB v30 9) then (z21 x0 x1 x2 x3) else ((atS x0 x2).bind fun v31 => (bif (eqB v31 10) then (z21 x0 x1 x2 x3) else ((atS x0 x2).bind fun v32 => (bif (eqB v32 13) then (z21 x0 x1 x2 x3) else (z2l x0 x1 (IntKind.wrap .i64 (x2 + 1)) x3)))))))))) else (some (PV.sl 1 x3))) :=
 (z1 EE _ _).trans (by kernel_rfl)
theorem zjv (x0 : List UInt8) (x1 x2 : Int) (x3 : List PV) : z21 x0 x1 x2 x3 =
  (bif (ltB x1 x2) then ((subS x0 x1 x2).bind fun v33 => ((appL 16 x3 [(PV.str v33)]).bind fun v34 => (z2l x0 (IntKind.wrap .i64 (x2 + 1)) (IntKind.wrap .i64 (x2 + 1)) v34))) else (z2l x0 (IntKind.wrap .i64 (x2 + 1)) (IntKind.wrap .i64 (x2 + 1)) x3)) :=
 (z1 EE _ _).trans (by kernel_rfl)
theorem zkt (a0 : List PV) : z7f a0 =
  (bif (!(eqB (((List.length a0) : Nat) : Int) 1)) then (some (PV.int .i64 0)) else ((rdI tiStr a0 0).bind fun v13 => ((z1l (PV.toS v13) [105, 110, 102, 105, 110, 105, 116, 121]).bind fun v14 => (bif (PV.toB v14) then (some (PV.int .i64 1)) else ((rdI tiStr a0 0).bind fun v15 => ((z1l (PV.toS v15) [45, 105, 110, 102, 105, 110, 105, 116, 121]).bind fun v16 => (bif (PV.toB v16) then (some (PV.int .i64 (-1))) else ((rdI tiStr a0 0).bind fun v17 => ((z1l (PV.toS v17) [101, 112, 111, 99, 104]).bind fun v18 => (bif (PV.toB v18) then (some (PV.int .i64 2)) else (some (PV.int .i64 0)))))))))))) :=
 (z3 EE zck _ rfl).trans (by kernel_rfl)
theorem zrt (a0 : List PV) : zau a0 =
  (bif (ltB 1 (((List.length a0) : Nat) : Int)) then ((rdI tiStr a0 (IntKind.wrap .i64 ((((List.length a0) : Nat) : Int) - 1))).bind fun v9 => ((z1l (PV.toS v9) [66, 67]).bind fun v10 => (bif (PV.toB v10) then (z83 a0 (PV.toS v9)) else ((z1l (PV.toS v9) [65, 68]).bind fun v11 => (bif (PV.toB v11) then (z83 a0 (PV.toS v9)) else (some (PV.tuple [(PV.sl 1 a0), (PV.bool false)]))))))) else (some (PV.tuple [(PV.sl 1 a0), (PV.bool false)]))) :=
 (z3 EE z81 _ rfl).trans (by kernel_rfl)
theorem zm5 (x0 : List PV) (x1 : List UInt8) : z83 x0 x1 =
  ((takeS x0 (IntKind.wrap .i64 ((((List.length x0) : Nat) : Int) - 1))).bind fun v12 => ((z1l x1 [66, 67]).bind fun v13 => (some (PV.tuple [(PV.sl 1 v12), (PV.bool (PV.toB v13))])))) :=
 (z1 EE _ _).trans (by kernel_rfl)
theorem zp5 (a0 : List PV) (a1 : Bool) (a2 : Int) : z9q a0 a1 a2 =
  (bif (eqB (((List.length a0) : Nat) : Int) 0) then (some (PV.tuple [(PV.int .i64 0), (PV.int .i64 0), (PV.int .i64 0), (PV.sl 0 []), (PV.bool false)])) else ((rdI tiStr a0 0).bind fun v19 => ((zc0 (PV.toS v19) a2).bind fun v20 => (bif (leB 3 (((List.length a0) : Nat) : Int)) then ((rdI tiStr a0 0).bind fun v21 => ((z2d (PV.toS v21)).bind fun v22 => (bif (ltB 0 (PV.toI v22)) then (z7g a0 a1 (PV.toI (PV.nth v20 0)) (PV.toI (PV.nth v20 1)) (PV.toI (PV.nth v20 2)) (PV.toB (PV.nth v20 3))) else ((rdI tiStr a0 1).bind fun v23 => ((z2d (PV.toS v23)).bind fun v24 => (bif (ltB 0 (PV.toI v24)) then (z7g a0 a1 (PV.toI (PV.nth v20 0)) (PV.toI (PV.nth v20 1)) (PV.toI (PV.nth v20 2)) (PV.toB (PV.nth v20 3))) else (z57 a0 a1 1 (PV.toI (PV.nth v20 0)) (PV.toI (PV.nth v20 1)) (PV.toI (PV.nth v20 2)) (PV.toB (PV.nth v20 3))))))))) else (z57 a0 a1 1 (PV.toI (PV.nth v20 0)) (PV.toI (PV.nth v20 1)) (PV.toI (PV.nth v20 2)) (PV.toB (PV.nth v20 3))))))) :=
 (z3 EE z1k _ rfl).trans (by kernel_rfl)
theorem zkw (x0 : List PV) (x1 : Bool) (x2 x3 x4 : Int) (x5 : Bool) : z7g x0 x1 x2 x3 x4 x5 =
  ((takeS x0 3).bind fun v25 => ((z8x v25).bind fun v26 => (z57 x0 x1 3 (PV.toI (PV.nth v26 0)) (PV.toI (PV.nth v26 1)) (PV.toI (PV.nth v26 2)) (PV.toB (PV.nth v26 3))))) :=
 (z1 EE _ _).trans (by kernel_rfl)
theorem zkv (x0 : List PV) (x1 : Bool) (x2 x3 x4 x5 : Int) (x6 : Bool) : z57 x0 x1 x2 x3 x4 x5 x6 =
  (bif (!x6) then z3q else (bif (eqB x3 0) then z3q else (bif (ltB x4 1) then z3q else (bif (ltB 12 x4) then z3q else (zen x0 x1 x2 x3 x4 x5 x6))))) :=
 (z1 EE _ _).trans (by kernel_rfl)
theorem zku  : z3q  =
  (some (PV.tuple [(PV.int .i64 0), (PV.int .i64 0), (PV.int .i64 0), (PV.sl 0 []), (PV.bool false)])) :=
 (z1 EE _ _).trans (by kernel_rfl)
theorem zjz (x0 : List PV) (x1 : Bool) (x2 x3 x4 x5 : Int) (x6 : Bool) : zen x0 x1 x2 x3 x4 x5 x6 =
  (bif x1 then (z6r x0 x2 (IntKind.wrap .i64 (1 - x3)) x4 x5 x6) else (z6r x0 x2 x3 x4 x5 x6)) :=
 (z1 EE _ _).trans (by kernel_rfl)
theorem zjy (x0 : List PV) (x1 x2 x3 x4 : Int) (x5 : Bool) : z6r x0 x1 x2 x3 x4 x5 =
  (bif (ltB x4 1) then z6q else ((z4v x2 x3).bind fun v27 => (bif (ltB (PV.toI v27) x4) then z6q else (zem x0 x1 x2 x3 x4 x5)))) :=
 (z1 EE _ _).trans (by kernel_rfl)
theorem zjx  : z6q  =
  (some (PV.tuple [(PV.int .i64 0), (PV.int .i64 0), (PV.int .i64 0), (PV.sl 0 []), (PV.bool false)])) :=
 (z1 EE _ _).trans (by kernel_rfl)
theorem zjw (x0 : List PV) (x1 x2 x3 x4 : Int) (x5 : Bool) : zem x0 x1 x2 x3 x4 x5 =
  ((dropS x0 x1).bind fun v28 => (some (PV.tuple [(PV.int .i64 x2), (PV.int .i64 x3), (PV.int .i64 x4), (PV.sl 1 v28), (PV.bool true)]))) :=
 (z1 EE _ _).trans (by kernel_rfl)
theorem z19u (a0 : List UInt8) : z17f a0 =
  ((zkj a0).bind fun v36 => ((zix (PV.toL v36)).bind fun v37 => ((zwi (PV.toI (PV.nth (PV.tnth v37 0) 0)) (PV.toI (PV.nth (PV.tnth v37 0) 1))).bind fun v38 => (some (PV.tuple [(PV.agg [(PV.int .i64 (PV.toI (PV.nth (PV.tnth v38 0) 0))), (PV.int .i64 (PV.toI (PV.nth (PV.tnth v38 0) 1)))]), (PV.bool (PV.toB (PV.tnth v37 1)))]))))) :=
 (z3 EE zvy _ rfl).trans (by kernel_rfl)
theorem z16i (a0 : List UInt8) (a1 : Int) (a2 : Bool) : ztr a0 a1 a2 =
  ((zkj a0).bind fun v18 => ((ztq (PV.toL v18)).bind fun v19 => (bif (ltB (IntKind.wrap .i64 ((((List.length (PV.toL v19)) : Nat) : Int) - 1)) 1) then (z7s a1 a2 false 0 0 (PV.toL v19)) else ((rdI tiStr (PV.toL v19) (IntKind.wrap .i64 ((((List.length (PV.toL v19)) : Nat) : Int) - 1))).bind fun v20 => ((zc8 (PV.toS v20)).bind fun v21 => (bif (eqS (PV.toS v21) [98, 99]) then ((takeS (PV.toL v19) (IntKind.wrap .i64 ((((List.length (PV.toL v19)) : Nat) : Int) - 1))).bind fun v22 => (z7s a1 a2 (eqS (PV.toS v21) [98, 99]) 0 0 v22)) else (bif (eqS (PV.toS v21) [97, 100]) then ((takeS (PV.toL v19) (IntKind.wrap .i64 ((((List.length (PV.toL v19)) : Nat) : Int) - 1))).bind fun v23 => (z7s a1 a2 (eqS (PV.toS v21) [98, 99]) 0 0 v23)) else (z7s a1 a2 (eqS (PV.toS v21) [98, 99]) 0 0 (PV.toL v19))))))))) :=
 (z3 EE zn _ rfl).trans (by kernel_rfl)
theorem zy7 (x0 : Int) (x1 : Bool) (x2 : Bool) (x3 x4 : Int) (x5 : List PV) : z7s x0 x1 x2 x3 x4 x5 =
  (bif (leB 3 (((List.length x5) : Nat) : Int)) then ((zhf x5).bind fun v24 => (bif (PV.toB v24) then (z9x x2 x5 0 0 0 x3 x4 x0 x1 x2 x2 x0) else (z3y x2 x0 x5 0 0 0 x3 x4 x0 x1 x2 x2 x0))) else (z3y x2 x0 x5 0 0 0 x3 x4 x0 x1 x2 x2 x0)) :=
 (z1 EE _ _).trans (by kernel_rfl)
theorem zfn (x0 : Bool) (x1 : List PV) (x2 x3 x4 x5 x6 x7 : Int) (x8 : Bool) (x9 : Bool) (x10 : Bool) (x11 : Int) : z9x x0 x1 x2 x3 x4 x5 x6 x7 x8 x9 x10 x11 =
  ((takeS x1 3).bind fun v25 => ((dropS x1 3).bind fun v26 => (z6c x0 v25 x2 x3 x4 x5 x6 v26 x7 x8 x9 x10 x11))) :=
 (z1 EE _ _).trans (by kernel_rfl)
theorem z8n (x0 : Bool) (x1 : Int) (x2 : List PV) (x3 x4 x5 x6 x7 x8 : Int) (x9 : Bool) (x10 : Bool) (x11 : Bool) (x12 : Int) : z3y x0 x1 x2 x3 x4 x5 x6 x7 x8 x9 x10 x11 x12 =
  (bif (eqB (((List.length x2) : Nat) : Int) 0) then (z3x x0 x1 [] false x3 x4 x5 x6 x7 x2 x8 x9 x10 x11 x12) else ((rdI tiStr x2 0).bind fun v27 => ((dropS x2 1).bind fun v28 => (z3x x0 x1 (PV.toS v27) true x3 x4 x5 x6 x7 v28 x8 x9 x10 x11 x12)))) :=
 (z1 EE _ _).trans (by kernel_rfl)
theorem z8l (x0 : Bool) (x1 : List PV) (x2 x3 x4 x5 x6 : Int) (x7 : List PV) (x8 : Int) (x9 : Bool) (x10 : Bool) (x11 : Bool) (x12 : Int) : z6c x0 x1 x2 x3 x4 x5 x6 x7 x8 x9 x10 x11 x12 =
  ((zdb x1).bind fun v29 => (bif (!(PV.toB (PV.tnth v29 1))) then (zw x2 x3 x4 x5 x6 x7 x8 x9 x10 x11 x12) else (bif (eqB (PV.toI (PV.nth (PV.tnth v29 0) 0)) 0) then (zw x2 x3 x4 x5 x6 x7 x8 x9 x10 x11 x12) else (z2p x0 x2 x3 x4 (PV.toI (PV.nth (PV.tnth v29 0) 0)) (PV.toI (PV.nth (PV.tnth v29 0) 1)) (PV.toI (PV.nth (PV.tnth v29 0) 2)) x5 x6 x7 x8 x9 x10 x11 x12)))) :=
 (z1 EE _ _).trans (by kernel_rfl)
theorem z8m (x0 : Bool) (x1 : Int) (x2 : List UInt8) (x3 : Bool) (x4 x5 x6 x7 x8 : Int) (x9 : List PV) (x10 : Int) (x11 : Bool) (x12 : Bool) (x13 : Bool) (x14 : Int) : z3x x0 x1 x2 x3 x4 x5 x6 x7 x8 x9 x10 x11 x12 x13 x14 =
  (bif x3 then ((z4q x2 8 8).bind fun v30 => (bif (PV.toB v30) then (z96 x0 x2 x4 x5 x6 x7 x8 x9 x10 x11 x12 x13 x14) else (z3i x2 x1 [45, 47, 46] 0 x4 x5 x6 x7 x8 x9 x0 x1 x2 x2 x1 x10 x11 x12 x13 x14))) else (z5h x0 x4 x5 x6 x7 x8 x9 x10 x11 x12 x13 x14)) :=
 (z1 EE _ _).trans (by kernel_rfl)
theorem z88 (x0 x1 x2 x3 x4 : Int) (x5 : List PV) (x6 : Int) (x7 : Bool) (x8 : Bool) (x9 : Bool) (x10 : Int) : zw x0 x1 x2 x3 x4 x5 x6 x7 x8 x9 x10 =
  (z2g x7 false x3 x4 x5 0 0 0) :=
 (z1 EE _ _).trans (by kernel_rfl)
theorem zf1 (x0 : Bool) (x1 x2 x3 x4 x5 x6 x7 x8 : Int) (x9 : List PV) (x10 : Int) (x11 : Bool) (x12 : Bool) (x13 : Bool) (x14 : Int) : z2p x0 x1 x2 x3 x4 x5 x6 x7 x8 x9 x10 x11 x12 x13 x14 =
  (bif x0 then (z3s x1 x2 x3 (IntKind.wrap .i64 (1 - x4)) x5 x6 x7 x8 x9 x10 x11 x12 x13 x14) else (z3s x1 x2 x3 x4 x5 x6 x7 x8 x9 x10 x11 x12 x13 x14)) :=
 (z1 EE _ _).trans (by kernel_rfl)
theorem ze8 (x0 : Bool) (x1 : List UInt8) (x2 x3 x4 x5 x6 : Int) (x7 : List PV) (x8 : Int) (x9 : Bool) (x10 : Bool) (x11 : Bool) (x12 : Int) : z96 x0 x1 x2 x3 x4 x5 x6 x7 x8 x9 x10 x11 x12 =
  ((zd9 x1).bind fun v31 => (bif (!(PV.toB (PV.tnth v31 1))) then (zw x2 x3 x4 x5 x6 x7 x8 x9 x10 x11 x12) else (bif (eqB (PV.toI (PV.nth (PV.tnth v31 0) 0)) 0) then (zw x2 x3 x4 x5 x6 x7 x8 x9 x10 x11 x12) else (z2p x0 x2 x3 x4 (PV.toI (PV.nth (PV.tnth v31 0) 0)) (PV.toI (PV.nth (PV.tnth v31 0) 1)) (PV.toI (PV.nth (PV.tnth v31 0) 2)) x5 x6 x7 x8 x9 x10 x11 x12)))) :=
 (z1 EE _ _).trans (by kernel_rfl)
theorem z7y (x0 : List UInt8) (x1 : Int) (x2 : List UInt8) (x3 : Nat) (x4 x5 x6 x7 x8 : Int) (x9 : List PV) (x10 : Bool) (x11 : Int) (x12 : List UInt8) (x13 : List UInt8) (x14 x15 : Int) (x16 : Bool) (x17 : Bool) (x18 : Bool) (x19 : Int) : z3i x0 x1 x2 x3 x4 x5 x6 x7 x8 x9 x10 x11 x12 x13 x14 x15 x16 x17 x18 x19 =
  (bif (ltN x3 (List.length x2)) then ((zh2 x0 (encR ((((decR x2 x3).1) : Nat) : Int))).bind fun v32 => (bif (!(eqB (((List.length (PV.toL v32)) : Nat) : Int) 3)) then (z3i x0 x1 x2 (x3 + ((decR x2 x3).2)) x4 x5 x6 x7 x8 x9 x10 x11 x12 x13 x14 x15 x16 x17 x18 x19) else (bif (eqB ((((decR x2 x3).1) : Nat) : Int) 45) then ((zhf (PV.toL v32)).bind fun v33 => (bif (PV.toB v33) then (z6c x10 (PV.toL v32) x4 x5 x6 x7 x8 x9 x15 x16 x17 x18 x19) else (z3h x10 (PV.toL v32) x1 x4 x5 x6 x7 x8 x9 x15 x16 x17 x18 x19))) else (z3h x10 (PV.toL v32) x1 x4 x5 x6 x7 x8 x9 x15 x16 x17 x18 x19)))) else (z5h x10 x4 x5 x6 x7 x8 x9 x15 x16 x17 x18 x19)) :=
 (z1 EE _ _).trans (by kernel_rfl)
theorem z7x (x0 : Bool) (x1 x2 x3 x4 x5 : Int) (x6 : List PV) (x7 : Int) (x8 : Bool) (x9 : Bool) (x10 : Bool) (x11 : Int) : z5h x0 x1 x2 x3 x4 x5 x6 x7 x8 x9 x10 x11 =
  (z2g x8 false x4 x5 x6 0 0 0) :=
 (z1 EE _ _).trans (by kernel_rfl)
theorem zar (x0 : Bool) (x1 : Bool) (x2 x3 : Int) (x4 : List PV) (x5 x6 x7 : Int) : z2g x0 x1 x2 x3 x4 x5 x6 x7 =
  (bif (eqB (((List.length x4) : Nat) : Int) 0) then (zjq x0 x1 0 [] 0 [] false x2 x3 x4 x5 x6 x7) else ((rdI tiStr x4 0).bind fun v34 => ((dropS x4 1).bind fun v35 => (zjq x0 x1 0 [] 0 (PV.toS v34) true x2 x3 v35 x5 x6 x7)))) :=
 (z1 EE _ _).trans (by kernel_rfl)
theorem zf0 (x0 x1 x2 x3 x4 x5 x6 x7 : Int) (x8 : List PV) (x9 : Int) (x10 : Bool) (x11 : Bool) (x12 : Bool) (x13 : Int) : z3s x0 x1 x2 x3 x4 x5 x6 x7 x8 x9 x10 x11 x12 x13 =
  (bif (leB 1 x5) then ((zi3 x3 x4).bind fun v36 => (z2g x10 (leB x5 (PV.toI v36)) x6 x7 x8 x3 x4 x5)) else (z2g x10 false x6 x7 x8 x3 x4 x5)) :=
 (z1 EE _ _).trans (by kernel_rfl)
theorem ze7 (x0 : Bool) (x1 : List PV) (x2 x3 x4 x5 x6 x7 : Int) (x8 : List PV) (x9 : Int) (x10 : Bool) (x11 : Bool) (x12 : Bool) (x13 : Int) : z3h x0 x1 x2 x3 x4 x5 x6 x7 x8 x9 x10 x11 x12 x13 =
  ((zd8 x1 x2).bind fun v37 => (bif (!(PV.toB (PV.tnth v37 1))) then (zw x3 x4 x5 x6 x7 x8 x9 x10 x11 x12 x13) else (bif (eqB (PV.toI (PV.nth (PV.tnth v37 0) 0)) 0) then (zw x3 x4 x5 x6 x7 x8 x9 x10 x11 x12 x13) else (z2p x0 x3 x4 x5 (PV.toI (PV.nth (PV.tnth v37 0) 0)) (PV.toI (PV.nth (PV.tnth v37 0) 1)) (PV.toI (PV.nth (PV.tnth v37 0) 2)) x6 x7 x8 x9 x10 x11 x12 x13)))) :=
 (z1 EE _ _).trans (by kernel_rfl)
theorem zaq (x0 : Bool) (x1 : Bool) (x2 : Int) (x3 : List UInt8) (x4 : Int) (x5 : List UInt8) (x6 : Bool) (x7 x8 : Int) (x9 : List PV) (x10 x11 x12 : Int) : zjq x0 x1 x2 x3 x4 x5 x6 x7 x8 x9 x10 x11 x12 =
  (bif x6 then (bif x1 then (zsd x0 x1 x3 x5 x7 x8 x9 x10 x11 x12) else (zdf x0 x1 x2 x3 x4 x7 x8 x9 x10 x11 x12)) else (zdf x0 x1 x2 x3 x4 x7 x8 x9 x10 x11 x12)) :=
 (z1 EE _ _).trans (by kernel_rfl)
theorem zy6 (x0 : Bool) (x1 : Bool) (x2 : List UInt8) (x3 : List UInt8) (x4 x5 : Int) (x6 : List PV) (x7 x8 x9 : Int) : zsd x0 x1 x2 x3 x4 x5 x6 x7 x8 x9 =
  (bif x0 then ((z1ko x3).bind fun v38 => (zjp x0 x1 (PV.toS (PV.tnth v38 1)) (PV.toS (PV.tnth v38 0)) x4 x5 x6 x7 x8 x9)) else (zjp x0 x1 x2 x3 x4 x5 x6 x7 x8 x9)) :=
 (z1 EE _ _).trans (by kernel_rfl)
theorem z9l (x0 : Bool) (x1 : Bool) (x2 : Int) (x3 : List UInt8) (x4 x5 x6 : Int) (x7 : List PV) (x8 x9 x10 : Int) : zdf x0 x1 x2 x3 x4 x5 x6 x7 x8 x9 x10 =
  (bif (eqB (((List.length x7) : Nat) : Int) 0) then (zde x0 x1 x2 x3 x4 [] false x5 x6 x7 x8 x9 x10) else ((rdI tiStr x7 0).bind fun v39 => ((dropS x7 1).bind fun v40 => (zde x0 x1 x2 x3 x4 (PV.toS v39) true x5 x6 v40 x8 x9 x10)))) :=
 (z1 EE _ _).trans (by kernel_rfl)
theorem zy5 (x0 : Bool) (x1 : Bool) (x2 : List UInt8) (x3 : List UInt8) (x4 x5 : Int) (x6 : List PV) (x7 x8 x9 : Int) : zjp x0 x1 x2 x3 x4 x5 x6 x7 x8 x9 =
  ((zl8 x3).bind fun v41 => (zdf x0 x1 (PV.toI (PV.tnth v41 0)) x2 (PV.toI (PV.tnth v41 1)) x4 x5 x6 x7 x8 x9)) :=
 (z1 EE _ _).trans (by kernel_rfl)
theorem z9k (x0 : Bool) (x1 : Bool) (x2 : Int) (x3 : List UInt8) (x4 : Int) (x5 : List UInt8) (x6 : Bool) (x7 x8 : Int) (x9 : List PV) (x10 x11 x12 : Int) : zde x0 x1 x2 x3 x4 x5 x6 x7 x8 x9 x10 x11 x12 =
  (bif x6 then (bif x1 then (bif x0 then (za0 (eqS x3 []) x2 x4 x5 x7 x8 x9 x10 x11 x12) else (za0 false x2 x4 x5 x7 x8 x9 x10 x11 x12)) else (za0 false x2 x4 x5 x7 x8 x9 x10 x11 x12)) else (z9z x1 x2 x3 x4 x7 x8 x9 x10 x11 x12)) :=
 (z1 EE _ _).trans (by kernel_rfl)
theorem ziy (x0 : Bool) (x1 x2 : Int) (x3 : List UInt8) (x4 x5 : Int) (x6 : List PV) (x7 x8 x9 : Int) : za0 x0 x1 x2 x3 x4 x5 x6 x7 x8 x9 =
  (z9z x0 x1 x3 x2 x4 x5 x6 x7 x8 x9) :=
 (z1 EE _ _).trans (by kernel_rfl)
theorem zdd (x0 : Bool) (x1 : Int) (x2 : List UInt8) (x3 x4 x5 : Int) (x6 : List PV) (x7 x8 x9 : Int) : z9z x0 x1 x2 x3 x4 x5 x6 x7 x8 x9 =
  (bif (!x0) then (z9y x4 x5) else (bif (ltB 0 (((List.length x6) : Nat) : Int)) then (z9y x4 x5) else (bif (eqB x3 13) then (z9y x4 x5) else (zol x1 x2 x3 x4 x5 x7 x8 x9)))) :=
 (z1 EE _ _).trans (by kernel_rfl)
theorem zvh (x0 x1 : Int) : z9y x0 x1 =
  (some (PV.tuple [(PV.agg [(PV.int .i64 0), (PV.int .i64 0)]), (PV.str []), (PV.int .i64 13)])) :=
 (z1 EE _ _).trans (by kernel_rfl)
theorem zvg (x0 : Int) (x1 : List UInt8) (x2 x3 x4 x5 x6 x7 : Int) : zol x0 x1 x2 x3 x4 x5 x6 x7 =
  ((zwl x5 x6 x7).bind fun v42 => (bif (!(eqB (PV.toI (PV.tnth v42 1)) 0)) then (zdc x3 x4) else (bif (!(eqB x2 0)) then (zdc x3 x4) else (zok x0 x1 x3 x4 (PV.toI (PV.nth (PV.tnth v42 0) 0)) (PV.toI (PV.nth (PV.tnth v42 0) 1)))))) :=
 (z1 EE _ _).trans (by kernel_rfl)
theorem zvf (x0 x1 : Int) : zdc x0 x1 =
  (some (PV.tuple [(PV.agg [(PV.int .i64 0), (PV.int .i64 0)]), (PV.str []), (PV.int .i64 10)])) :=
 (z1 EE _ _).trans (by kernel_rfl)
theorem zve (x0 : Int) (x1 : List UInt8) (x2 x3 x4 x5 : Int) : zok x0 x1 x2 x3 x4 x5 =
  ((zwj x4 x5 x0).bind fun v43 => (some (PV.tuple [(PV.agg [(PV.int .i64 (PV.toI (PV.nth (PV.tnth v43 0) 0))), (PV.int .i64 (PV.toI (PV.nth (PV.tnth v43 0) 1)))]), (PV.str x1), (PV.int .i64 (PV.toI (PV.tnth v43 1)))]))) :=
 (z1 EE _ _).trans (by kernel_rfl)
theorem z8y (a0 : List PV) (a1 : Int) (a2 : Bool) : z35 a0 a1 a2 =
  ((zf4 a0).bind fun v35 => ((zau (PV.toL v35)).bind fun v36 => ((z9q (PV.toL (PV.tnth v36 0)) (PV.toB (PV.tnth v36 1)) a1).bind fun v37 => (bif (!(PV.toB (PV.tnth v37 4))) then (z1v 0 0) else (bif (ltB 2 (((List.length (PV.toL (PV.tnth v37 3))) : Nat) : Int)) then (z1v 0 0) else (bif (ltB 1 (((List.length (PV.toL (PV.tnth v37 3))) : Nat) : Int)) then (bif (!a2) then (z1v 0 0) else (z45 a2 (PV.toI (PV.tnth v37 0)) (PV.toI (PV.tnth v37 1)) (PV.toI (PV.tnth v37 2)) (PV.toL (PV.tnth v37 3)) 0 0)) else (z45 a2 (PV.toI (PV.tnth v37 0)) (PV.toI (PV.tnth v37 1)) (PV.toI (PV.tnth v37 2)) (PV.toL (PV.tnth v37 3)) 0 0))))))) :=
 (z3 EE z2b _ rfl).trans (by kernel_rfl)
theorem zif (x0 x1 : Int) : z1v x0 x1 =
  (some (PV.tuple [(PV.agg [(PV.int .i64 0), (PV.int .i64 0)]), (PV.str []), (PV.int .i64 13)])) :=
 (z1 EE _ _).trans (by kernel_rfl)
theorem z29 (x0 : Bool) (x1 x2 x3 : Int) (x4 : List PV) (x5 x6 : Int) : z45 x0 x1 x2 x3 x4 x5 x6 =
  (bif (ltB 0 (((List.length x4) : Nat) : Int)) then ((rdI tiStr x4 0).bind fun v38 => (bif x0 then ((zu4 (PV.toS v38)).bind fun v39 => (z8a x1 x2 x3 x4 (PV.toS (PV.tnth v39 1)) (PV.toS (PV.tnth v39 0)) x5 x6)) else (z8a x1 x2 x3 x4 [] (PV.toS v38) x5 x6))) else (z23 x1 x2 x3 0 [] 0 x5 x6)) :=
 (z1 EE _ _).trans (by kernel_rfl)
theorem z6j (x0 x1 x2 : Int) (x3 : List PV) (x4 : List UInt8) (x5 : List UInt8) (x6 x7 : Int) : z8a x0 x1 x2 x3 x4 x5 x6 x7 =
  ((z5g x5).bind fun v40 => (bif (eqB (((List.length x3) : Nat) : Int) 2) then (bif (!(eqS x4 [])) then (some (PV.tuple [(PV.agg [(PV.int .i64 0), (PV.int .i64 0)]), (PV.str []), (PV.int .i64 13)])) else ((rdI tiStr x3 1).bind fun v41 => (z23 x0 x1 x2 (PV.toI (PV.tnth v40 0)) (PV.toS v41) (PV.toI (PV.tnth v40 1)) x6 x7))) else (z23 x0 x1 x2 (PV.toI (PV.tnth v40 0)) x4 (PV.toI (PV.tnth v40 1)) x6 x7))) :=
 (z1 EE _ _).trans (by kernel_rfl)
theorem z6i (x0 x1 x2 x3 : Int) (x4 : List UInt8) (x5 x6 x7 : Int) : z23 x0 x1 x2 x3 x4 x5 x6 x7 =
  (bif (eqB x5 13) then (some (PV.tuple [(PV.agg [(PV.int .i64 0), (PV.int .i64 0)]), (PV.str []), (PV.int .i64 x5)])) else ((z7h x0 x1 x2).bind fun v42 => (bif (!(eqB (PV.toI (PV.tnth v42 1)) 0)) then (some (PV.tuple [(PV.agg [(PV.int .i64 0), (PV.int .i64 0)]), (PV.str []), (PV.int .i64 (PV.toI (PV.tnth v42 1)))])) else (bif (!(eqB x5 0)) then (some (PV.tuple [(PV.agg [(PV.int .i64 0), (PV.int .i64 0)]), (PV.str []), (PV.int .i64 x5)])) else ((z6k (PV.toI (PV.nth (PV.tnth v42 0) 0)) (PV.toI (PV.nth (PV.tnth v42 0) 1)) x3).bind fun v43 => (some (PV.tuple [(PV.agg [(PV.int .i64 (PV.toI (PV.nth (PV.tnth v43 0) 0))), (PV.int .i64 (PV.toI (PV.nth (PV.tnth v43 0) 1)))]), (PV.str x4), (PV.int .i64 (PV.toI (PV.tnth v43 1)))]))))))) :=
 (z1 EE _ _).trans (by kernel_rfl)
theorem z19c (a0_0 a0_1 a0_2 a0_3 : Int) : zxw a0_0 a0_1 a0_2 a0_3 =
  (bif (!(eqB a0_0 0)) then (bif ((eqB a0_0 a0_0) && ((eqB a0_1 0) && ((eqB a0_2 0) && ((eqB a0_3 0) && true)))) then (bif (leB (-1) a0_0) then (some (PV.bool (leB a0_0 1))) else (some (PV.bool false))) else (some (PV.bool false))) else ((z1a4 a0_3).bind fun v19 => ((zlp a0_1).bind fun v20 => (bif (PV.toB v20) then ((zlp a0_2).bind fun v21 => (bif (PV.toB v21) then (some (PV.bool (eqB (PV.toI (PV.tnth v19 1)) 0))) else (some (PV.bool false)))) else (some (PV.bool false)))))) :=
 (z3 EE zvv _ rfl).trans (by kernel_rfl)
theorem z19h (a0_0 a0_1 a0_2 : Int) : zkf a0_0 a0_1 a0_2 =
  (bif (leB 0 a0_0) then (bif (leB a0_0 1) then (bif (leB 0 a0_1) then (bif (leB a0_1 2) then (bif (leB 0 a0_2) then (some (PV.bool (leB a0_2 2))) else (some (PV.bool false))) else (some (PV.bool false))) else (some (PV.bool false))) else (some (PV.bool false))) else (some (PV.bool false))) :=
 (z3 EE zvw _ rfl).trans (by kernel_rfl)
theorem zgl (a0 : Int) : zao a0 =
  (bif (ltB a0 0) then (some (PV.str [45, 105, 110, 102, 105, 110, 105, 116, 121])) else (some (PV.str [105, 110, 102, 105, 110, 105, 116, 121]))) :=
 (z3 EE zmq _ rfl).trans (by kernel_rfl)
theorem z1fl (a0_0 a0_1 a0_2 a0_3 : Int) : z19e a0_0 a0_1 a0_2 a0_3 =
  ((zew a0_1).bind fun v39 => ((zew a0_2).bind fun v40 => ((zew a0_3).bind fun v41 => ((zf6 (Int.tmod (PV.toI (PV.tnth v41 1)) 3600000000)).bind fun v42 => ((ztb (PV.toS v42) [58]).bind fun v43 => ((z7p (IntKind.wrap .i64 (Int.tdiv (PV.toI (PV.tnth v39 1)) 12))).bind fun v44 => ((z7p (Int.tmod (PV.toI (PV.tnth v39 1)) 12)).bind fun v45 => ((z1b [(PV.str (PV.toS (PV.tnth v39 0))), (PV.str (PV.toS v44)), (PV.str [45]), (PV.str (PV.toS v45))]).bind fun v46 => ((z7p (PV.toI (PV.tnth v40 1))).bind fun v47 => ((z1b [(PV.str (PV.toS (PV.tnth v40 0))), (PV.str (PV.toS v47))]).bind fun v48 => ((z7p (IntKind.wrap .i64 (Int.tdiv (PV.toI (PV.tnth v41 1)) 3600000000))).bind fun v49 => ((z1b [(PV.str (PV.toS (PV.tnth v41 0))), (PV.str (PV.toS v49)), (PV.str [58]), (PV.str (PV.toS (PV.tnth v43 1)))]).bind fun v50 => ((z2u [32] [(PV.str (PV.toS v46)), (PV.str (PV.toS v48)), (PV.str (PV.toS v50))]).bind fun v51 => (some (PV.str (PV.toS v51)))))))))))))))) :=
 (z3 EE z14g _ rfl).trans (by kernel_rfl)
theorem z1fm (a0_0 a0_1 a0_2 a0_3 : Int) : z19f a0_0 a0_1 a0_2 a0_3 =
  ((zbx (IntKind.wrap .i64 (Int.tdiv a0_1 12)) [89]).bind fun v44 => ((zbx (Int.tmod a0_1 12) [77]).bind fun v45 => ((zbx a0_2 [68]).bind fun v46 => ((z1b [(PV.str [80]), (PV.str (PV.toS v44)), (PV.str (PV.toS v45)), (PV.str (PV.toS v46))]).bind fun v47 => (bif (!(eqB a0_3 0)) then ((zbx (IntKind.wrap .i64 (Int.tdiv a0_3 3600000000)) [72]).bind fun v48 => ((zbx (IntKind.wrap .i64 (Int.tdiv (Int.tmod a0_3 3600000000) 60000000)) [77]).bind fun v49 => ((zo6 (Int.tmod a0_3 60000000)).bind fun v50 => ((z1b [(PV.str (PV.toS v47)), (PV.str [84]), (PV.str (PV.toS v48)), (PV.str (PV.toS v49)), (PV.str (PV.toS v50))]).bind fun v51 => (bif (eqS (PV.toS v51) [80]) then (some (PV.str [80, 84, 48, 83])) else (some (PV.str (PV.toS v51)))))))) else (bif (eqS (PV.toS v47) [80]) then (some (PV.str [80, 84, 48, 83])) else (some (PV.str (PV.toS v47))))))))) :=
 (z3 EE z14h _ rfl).trans (by kernel_rfl)
theorem z10t (a0_0 a0_1 a0_2 a0_3 : Int) : zlq a0_0 a0_1 a0_2 a0_3 =
  (bif (eqB (IntKind.wrap .i64 (Int.tdiv a0_1 12)) 0) then (z77 [] a0_0 a0_1 a0_2 a0_3 0) else (bif (eqB (IntKind.wrap .i64 (Int.tdiv a0_1 12)) 1) then ((z2t (IntKind.wrap .i64 (Int.tdiv a0_1 12))).bind fun v44 => ((z1b [(PV.str []), (PV.str (PV.toS v44)), (PV.str [32]), (PV.str [121, 101, 97, 114]), (PV.str [])]).bind fun v45 => (z77 (PV.toS v45) a0_0 a0_1 a0_2 a0_3 (IntKind.wrap .i64 (Int.tdiv a0_1 12))))) else ((z2t (IntKind.wrap .i64 (Int.tdiv a0_1 12))).bind fun v46 => ((z1b [(PV.str []), (PV.str (PV.toS v46)), (PV.str [32]), (PV.str [121, 101, 97, 114]), (PV.str [115])]).bind fun v47 => (z77 (PV.toS v47) a0_0 a0_1 a0_2 a0_3 (IntKind.wrap .i64 (Int.tdiv a0_1 12))))))) :=
 (z3 EE z4b _ rfl).trans (by kernel_rfl)
theorem zti (x0 : List UInt8) (x1 x2 x3 x4 x5 : Int) : z77 x0 x1 x2 x3 x4 x5 =
  (bif (eqB (Int.tmod x2 12) 0) then (z2z x0 [] x1 x2 x3 x4 x5) else (bif (ltB x5 0) then (bif (ltB 0 (Int.tmod x2 12)) then (bif (eqB (Int.tmod x2 12) 1) then ((z2t (Int.tmod x2 12)).bind fun v48 => ((z1b [(PV.str [43]), (PV.str (PV.toS v48)), (PV.str [32]), (PV.str [109, 111, 110]), (PV.str [])]).bind fun v49 => (z2z x0 (PV.toS v49) x1 x2 x3 x4 (Int.tmod x2 12)))) else ((z2t (Int.tmod x2 12)).bind fun v50 => ((z1b [(PV.str [43]), (PV.str (PV.toS v50)), (PV.str [32]), (PV.str [109, 111, 110]), (PV.str [115])]).bind fun v51 => (z2z x0 (PV.toS v51) x1 x2 x3 x4 (Int.tmod x2 12))))) else (bif (eqB (Int.tmod x2 12) 1) then ((z2t (Int.tmod x2 12)).bind fun v52 => ((z1b [(PV.str []), (PV.str (PV.toS v52)), (PV.str [32]), (PV.str [109, 111, 110]), (PV.str [])]).bind fun v53 => (z2z x0 (PV.toS v53) x1 x2 x3 x4 (Int.tmod x2 12)))) else ((z2t (Int.tmod x2 12)).bind fun v54 => ((z1b [(PV.str []), (PV.str (PV.toS v54)), (PV.str [32]), (PV.str [109, 111, 110]), (PV.str [115])]).bind fun v55 => (z2z x0 (PV.toS v55) x1 x2 x3 x4 (Int.tmod x2 12)))))) else (bif (eqB (Int.tmod x2 12) 1) then ((z2t (Int.tmod x2 12)).bind fun v56 => ((z1b [(PV.str []), (PV.str (PV.toS v56)), (PV.str [32]), (PV.str [109, 111, 110]), (PV.str [])]).bind fun v57 => (z2z x0 (PV.toS v57) x1 x2 x3 x4 (Int.tmod x2 12)))) else ((z2t (Int.tmod x2 12)).bind fun v58 => ((z1b [(PV.str []), (PV.str (PV.toS v58)), (PV.str [32]), (PV.str [109, 111, 110]), (PV.str [115])]).bind fun v59 => (z2z x0 (PV.toS v59) x1 x2 x3 x4 (Int.tmod x2 12))))))) :=
 (z1 EE _ _).trans (by kernel_rfl)
theorem zth (x0 : List UInt8) (x1 : List UInt8) (x2 x3 x4 x5 x6 : Int) : z2z x0 x1 x2 x3 x4 x5 x6 =
  (bif (eqB x4 0) then (z2y x0 x1 [] x2 x3 x4 x5 x6) else (bif (ltB x6 0) then (bif (ltB 0 x4) then (bif (eqB x4 1) then ((z2t x4).bind fun v60 => ((z1b [(PV.str [43]), (PV.str (PV.toS v60)), (PV.str [32]), (PV.str [100, 97, 121]), (PV.str [])]).bind fun v61 => (z2y x0 x1 (PV.toS v61) x2 x3 x4 x5 x4))) else ((z2t x4).bind fun v62 => ((z1b [(PV.str [43]), (PV.str (PV.toS v62)), (PV.str [32]), (PV.str [100, 97, 121]), (PV.str [115])]).bind fun v63 => (z2y x0 x1 (PV.toS v63) x2 x3 x4 x5 x4)))) else (bif (eqB x4 1) then ((z2t x4).bind fun v64 => ((z1b [(PV.str []), (PV.str (PV.toS v64)), (PV.str [32]), (PV.str [100, 97, 121]), (PV.str [])]).bind fun v65 => (z2y x0 x1 (PV.toS v65) x2 x3 x4 x5 x4))) else ((z2t x4).bind fun v66 => ((z1b [(PV.str []), (PV.str (PV.toS v66)), (PV.str [32]), (PV.str [100, 97, 121]), (PV.str [115])]).bind fun v67 => (z2y x0 x1 (PV.toS v67) x2 x3 x4 x5 x4))))) else (bif (eqB x4 1) then ((z2t x4).bind fun v68 => ((z1b [(PV.str []), (PV.str (PV.toS v68)), (PV.str [32]), (PV.str [100, 97, 121]), (PV.str [])]).bind fun v69 => (z2y x0 x1 (PV.toS v69) x2 x3 x4 x5 x4))) else ((z2t x4).bind fun v70 => ((z1b [(PV.str []), (PV.str (PV.toS v70)), (PV.str [32]), (PV.str [100, 97, 121]), (PV.str [115])]).bind fun v71 => (z2y x0 x1 (PV.toS v71) x2 x3 x4 x5 x4)))))) :=
 (z1 EE _ _).trans (by kernel_rfl)
theorem ztg (x0 : List UInt8) (x1 : List UInt8) (x2 : List UInt8) (x3 x4 x5 x6 x7 : Int) : z2y x0 x1 x2 x3 x4 x5 x6 x7 =
  (bif (ltB 0 x6) then (bif (ltB x7 0) then (zml x0 x1 x2 x3 x4 x5 x6) else (zbr x0 x1 x2 [] x3 x4 x5 x6 x7)) else (zbr x0 x1 x2 [] x3 x4 x5 x6 x7)) :=
 (z1 EE _ _).trans (by kernel_rfl)
theorem ztf (x0 : List UInt8) (x1 : List UInt8) (x2 : List UInt8) (x3 x4 x5 x6 : Int) : zml x0 x1 x2 x3 x4 x5 x6 =
  ((zf6 x6).bind fun v72 => ((z1b [(PV.str [43]), (PV.str (PV.toS v72))]).bind fun v73 => ((z2u [32] [(PV.str x0), (PV.str x1), (PV.str x2), (PV.str (PV.toS v73))]).bind fun v74 => (some (PV.str (PV.toS v74)))))) :=
 (z1 EE _ _).trans (by kernel_rfl)
theorem zte (x0 : List UInt8) (x1 : List UInt8) (x2 : List UInt8) (x3 : List UInt8) (x4 x5 x6 x7 x8 : Int) : zbr x0 x1 x2 x3 x4 x5 x6 x7 x8 =
  (bif (!(eqB x7 0)) then ((zf6 x7).bind fun v75 => ((z2u [32] [(PV.str x0), (PV.str x1), (PV.str x2), (PV.str (PV.toS v75))]).bind fun v76 => (some (PV.str (PV.toS v76))))) else (bif (eqB x8 0) then ((zf6 x7).bind fun v77 => ((z2u [32] [(PV.str x0), (PV.str x1), (PV.str x2), (PV.str (PV.toS v77))]).bind fun v78 => (some (PV.str (PV.toS v78))))) else ((z2u [32] [(PV.str x0), (PV.str x1), (PV.str x2), (PV.str x3)]).bind fun v79 => (some (PV.str (PV.toS v79)))))) :=
 (z1 EE _ _).trans (by kernel_rfl)
theorem zg8 (a0_0 a0_1 : Int) : zg9 a0_0 a0_1 =
  (bif ((eqB a0_0 (-1)) && ((eqB a0_1 0) && true)) then (some (PV.bool true)) else (bif ((eqB a0_0 1) && ((eqB a0_1 0) && true)) then (some (PV.bool true)) else (bif (eqB a0_0 0) then ((z2h a0_1).bind fun v22 => (some (PV.bool (PV.toB v22)))) else (some (PV.bool false))))) :=
 (z3 EE z102 _ rfl).trans (by kernel_rfl)
theorem zzc (a0_0 a0_1 a1_0 a1_1 a1_2 : Int) : zo9 a0_0 a0_1 a1_0 a1_1 a1_2 =
  ((zwk a0_0 a0_1).bind fun v14 => (bif (ltB (PV.toI (PV.tnth v14 0)) 1) then (zir (IntKind.wrap .i64 (1 - (PV.toI (PV.tnth v14 0)))) (PV.toI (PV.tnth v14 1)) (PV.toI (PV.tnth v14 2)) [32, 66, 67] a1_0 a1_1 a1_2) else (zir (PV.toI (PV.tnth v14 0)) (PV.toI (PV.tnth v14 1)) (PV.toI (PV.tnth v14 2)) [] a1_0 a1_1 a1_2))) :=
 (z3 EE zj5 _ rfl).trans (by kernel_rfl)
theorem zo8 (x0 x1 x2 : Int) (x3 : List UInt8) (x4 x5 x6 : Int) : zir x0 x1 x2 x3 x4 x5 x6 =
  ((z7p x0).bind fun v15 => ((zb4 [48] (maxI 0 (IntKind.wrap .i64 (4 - (((List.length (PV.toS v15)) : Nat) : Int))))).bind fun v16 => ((z1b [(PV.str (PV.toS v16)), (PV.str (PV.toS v15))]).bind fun v17 => ((zdz x1).bind fun v18 => ((zdz x2).bind fun v19 => (bif (eqB x4 0) then ((z2u [45] [(PV.str (PV.toS v17)), (PV.str (PV.toS v18)), (PV.str (PV.toS v19))]).bind fun v20 => (some (PV.tuple [(PV.str (PV.toS v20)), (PV.str x3)]))) else (bif (eqB x5 2) then ((z2u [47] [(PV.str (PV.toS v18)), (PV.str (PV.toS v19)), (PV.str (PV.toS v17))]).bind fun v21 => (some (PV.tuple [(PV.str (PV.toS v21)), (PV.str x3)]))) else (bif (eqB x5 1) then ((z2u [47] [(PV.str (PV.toS v19)), (PV.str (PV.toS v18)), (PV.str (PV.toS v17))]).bind fun v22 => (some (PV.tuple [(PV.str (PV.toS v22)), (PV.str x3)]))) else ((z2u [47] [(PV.str (PV.toS v17)), (PV.str (PV.toS v18)), (PV.str (PV.toS v19))]).bind fun v23 => (some (PV.tuple [(PV.str (PV.toS v23)), (PV.str x3)]))))))))))) :=
 (z1 EE _ _).trans (by kernel_rfl)
theorem z1co (a0 : List PV) : z1b a0 =
  (ziq a0 (((List.length a0) : Nat) : Int) 0 []) :=
 (z3 EE zj4 _ rfl).trans (by kernel_rfl)
theorem zo7 (x0 : List PV) (x1 x2 : Int) (x3 : List PV) : ziq x0 x1 x2 x3 =
  (bif (ltB x2 x1) then ((rdI tiStr x0 x2).bind fun v29 => (bif (decide ((0 ≤ (((List.length x3) : Nat) : Int)) ∧ (((((List.length x3) : Nat) : Int) ≤ (((List.length x3) : Nat) : Int)) ∧ ((((List.length x3) : Nat) : Int) ≤ (((List.length x3) : Nat) : Int))))) then ((appL 1 (List.take (Int.toNat (((List.length x3) : Nat) : Int)) x3) (List.map byteV (PV.toS v29))).bind fun v30 => (ziq x0 x1 (IntKind.wrap .i64 (x2 + 1)) v30)) else none)) else ((zag x3).bind fun v31 => (some (PV.str v31)))) :=
 (z1 EE _ _).trans (by kernel_rfl)
theorem zat (a0_0 a0_1 : Int) : z9c a0_0 a0_1 =
  ((zvk a0_1).bind fun v52 => (bif ((eqB a0_0 (-1)) && ((eqB a0_1 0) && true)) then (some (PV.bool true)) else (bif ((eqB a0_0 1) && ((eqB a0_1 0) && true)) then (some (PV.bool true)) else (bif (eqB a0_0 0) then ((z2h (PV.toI (PV.tnth v52 0))).bind fun v53 => (some (PV.bool (PV.toB v53)))) else (some (PV.bool false)))))) :=
 (z3 EE zkr _ rfl).trans (by kernel_rfl)
theorem z16c (a0_0 a0_1 a1_0 a1_1 a1_2 : Int) : z136 a0_0 a0_1 a1_0 a1_1 a1_2 =
  ((day_Of a0_0 a0_1).bind fun v52 => ((zo9 (PV.toI (PV.nth (PV.tnth v52 0) 0)) (PV.toI (PV.nth (PV.tnth v52 0) 1)) a1_0 a1_1 a1_2).bind fun v53 => ((zyj (PV.toI (PV.tnth v52 1))).bind fun v54 => ((z2u [32] [(PV.str (PV.toS (PV.tnth v53 0))), (PV.str (PV.toS (PV.tnth v54 0)))]).bind fun v55 => (some (PV.tuple [(PV.str (PV.toS v55)), (PV.str (PV.toS (PV.tnth v53 1)))])))))) :=
 (z3 EE zsp _ rfl).trans (by kernel_rfl)
theorem zo2 (a0 : List UInt8) (a1 : PV) : zip a0 a1 =
  (bif ((okOther a1) && true) then (z26 a0 a1 (-1) [] 32 a0 0) else none) :=
 (z3 EE z1u _ rfl).trans (by kernel_rfl)
theorem zcb (x0 : List UInt8) (x1 : PV) (x2 : Int) (x3 : List PV) (x4 : Nat) (x5 : List UInt8) (x6 : Nat) : z26 x0 x1 x2 x3 x4 x5 x6 =
  (bif (ltN x6 (List.length x5)) then ((callW EE ([zs8]) x1 [(PV.int .i32 ((((decR x5 x6).1) : Nat) : Int))]).bind fun v80 => (bif (PV.toB v80) then (bif (leB 0 x2) then ((appL 16 x3 [(PV.agg [(PV.int .i64 x2), (PV.int .i64 ((x6 : Nat) : Int))])]).bind fun v81 => (bif (leN (List.length v81) x4) then (z26 x0 x1 (xorI IntKind.i64 (-1) x2) v81 x4 x5 (x6 + ((decR x5 x6).2))) else (z2a x0 x1 (xorI IntKind.i64 (-1) x2) v81 x5 (x6 + ((decR x5 x6).2))))) else (z26 x0 x1 x2 x3 x4 x5 (x6 + ((decR x5 x6).2)))) else (bif (ltB x2 0) then (z26 x0 x1 ((x6 : Nat) : Int) x3 x4 x5 (x6 + ((decR x5 x6).2))) else (z26 x0 x1 x2 x3 x4 x5 (x6 + ((decR x5 x6).2)))))) else (bif (leB 0 x2) then ((appL 16 x3 [(PV.agg [(PV.int .i64 x2), (PV.int .i64 (((List.length x0) : Nat) : Int))])]).bind fun v82 => (bif (leN (List.length v82) x4) then (z6n x0 v82 x4) else (z3m x0 v82))) else (z6n x0 x3 x4))) :=
 (z1 EE _ _).trans (by kernel_rfl)
theorem z72 (x0 : List UInt8) (x1 : PV) (x2 : Int) (x3 : List PV) (x4 : List UInt8) (x5 : Nat) : z2a x0 x1 x2 x3 x4 x5 =
  (bif (ltN x5 (List.length x4)) then ((callW EE ([zs8]) x1 [(PV.int .i32 ((((decR x4 x5).1) : Nat) : Int))]).bind fun v83 => (bif (PV.toB v83) then (bif (leB 0 x2) then ((appL 16 x3 [(PV.agg [(PV.int .i64 x2), (PV.int .i64 ((x5 : Nat) : Int))])]).bind fun v84 => (z2a x0 x1 (xorI IntKind.i64 (-1) x2) v84 x4 (x5 + ((decR x4 x5).2)))) else (z2a x0 x1 x2 x3 x4 (x5 + ((decR x4 x5).2)))) else (bif (ltB x2 0) then (z2a x0 x1 ((x5 : Nat) : Int) x3 x4 (x5 + ((decR x4 x5).2))) else (z2a x0 x1 x2 x3 x4 (x5 + ((decR x4 x5).2)))))) else (bif (leB 0 x2) then ((appL 16 x3 [(PV.agg [(PV.int .i64 x2), (PV.int .i64 (((List.length x0) : Nat) : Int))])]).bind fun v85 => (z3m x0 v85)) else (z3m x0 x3))) :=
 (z1 EE _ _).trans (by kernel_rfl)
theorem zjn (x0 : List UInt8) (x1 : List PV) (x2 : Nat) : z6n x0 x1 x2 =
  (bif (decide ((0 ≤ (((List.length x1) : Nat) : Int)) ∧ (((((List.length x1) : Nat) : Int) ≤ (((List.length x1) : Nat) : Int)) ∧ (((((List.length x1) : Nat) : Int) * ((16 : Nat) : Int)) ≤ (HPow.hPow (2 : Int) 46))))) then (z6m x0 (((List.length x1) : Nat) : Int) 0 (List.replicate (Int.toNat (((List.length x1) : Nat) : Int)) (PV.str [])) (Int.toNat (((List.length x1) : Nat) : Int)) x1 x2) else none) :=
 (z1 EE _ _).trans (by kernel_rfl)
theorem zhr (x0 : List UInt8) (x1 : List PV) : z3m x0 x1 =
  (bif (decide ((0 ≤ (((List.length x1) : Nat) : Int)) ∧ (((((List.length x1) : Nat) : Int) ≤ (((List.length x1) : Nat) : Int)) ∧ (((((List.length x1) : Nat) : Int) * ((16 : Nat) : Int)) ≤ (HPow.hPow (2 : Int) 46))))) then (z5c x0 (((List.length x1) : Nat) : Int) 0 (List.replicate (Int.toNat (((List.length x1) : Nat) : Int)) (PV.str [])) (Int.toNat (((List.length x1) : Nat) : Int)) x1) else none) :=
 (z1 EE _ _).trans (by kernel_rfl)
theorem zjm (x0 : List UInt8) (x1 x2 : Int) (x3 : List PV) (x4 : Nat) (x5 : List PV) (x6 : Nat) : z6m x0 x1 x2 x3 x4 x5 x6 =
  (bif (ltB x2 x1) then (bif (inB 0 x2 (((List.length x5) : Nat) : Int)) then ((rdT (EE.ti z1h) x5 (Int.toNat x2) 0).bind fun v86 => ((subS x0 (PV.toI (PV.nth v86 0)) (PV.toI (PV.nth v86 1))).bind fun v87 => (bif (inB 0 x2 (((List.length x3) : Nat) : Int)) then ((stC x3 (Int.toNat x2) 0 [(PV.str v87)]).bind fun v88 => (z6m x0 x1 (IntKind.wrap .i64 (x2 + 1)) v88 x4 x5 x6)) else none))) else none) else (some (PV.sl 1 x3))) :=
 (z1 EE _ _).trans (by kernel_rfl)
theorem zhq (x0 : List UInt8) (x1 x2 : Int) (x3 : List PV) (x4 : Nat) (x5 : List PV) : z5c x0 x1 x2 x3 x4 x5 =
  (bif (ltB x2 x1) then (bif (inB 0 x2 (((List.length x5) : Nat) : Int)) then ((rdT (EE.ti z1h) x5 (Int.toNat x2) 0).bind fun v89 => ((subS x0 (PV.toI (PV.nth v89 0)) (PV.toI (PV.nth v89 1))).bind fun v90 => (bif (inB 0 x2 (((List.length x3) : Nat) : Int)) then ((stC x3 (Int.toNat x2) 0 [(PV.str v90)]).bind fun v91 => (z5c x0 x1 (IntKind.wrap .i64 (x2 + 1)) v91 x4 x5)) else none))) else none) else (some (PV.sl 1 x3))) :=
 (z1 EE _ _).trans (by kernel_rfl)
theorem z13j (a0 : Int) : zoh a0 =
  (bif (eqB a0 32) then (some (PV.bool true)) else (bif (eqB a0 9) then (some (PV.bool true)) else (bif (eqB a0 10) then (some (PV.bool true)) else (some (PV.bool (eqB a0 13)))))) :=
 (z3 EE za6 _ rfl).trans (by kernel_rfl)
theorem z165 (a0 : List UInt8) (a1 : List UInt8) : ztb a0 a1 =
  ((znv a0 a1).bind fun v32 => (some (PV.tuple [(PV.str (PV.toS (PV.tnth v32 0))), (PV.str (PV.toS (PV.tnth v32 1))), (PV.bool (PV.toB (PV.tnth v32 2)))]))) :=
 (z3 EE zsl _ rfl).trans (by kernel_rfl)
theorem z16j (a0 : List UInt8) (a1 a2 : Int) : z4q a0 a1 a2 =
  ((zle a0).bind fun v56 => (bif (!(eqB (PV.toI (PV.tnth v56 1)) 13)) then (bif (leB a1 (((List.length a0) : Nat) : Int)) then (some (PV.bool (leB (((List.length a0) : Nat) : Int) a2))) else (some (PV.bool false))) else (some (PV.bool false)))) :=
 (z3 EE zsu _ rfl).trans (by kernel_rfl)
theorem z1bu (a0 : List UInt8) (a1 : List UInt8) : z12l a0 a1 =
  ((zc8 a0).bind fun v92 => ((zc8 a1).bind fun v93 => (some (PV.bool (eqS (PV.toS v92) (PV.toS v93)))))) :=
 (z3 EE zzu _ rfl).trans (by kernel_rfl)
theorem zpb (a0 a1 a2 : Int) : zdw a0 a1 a2 =
  ((zc4 a0 a1 a2).bind fun v54 => (bif (!(PV.toB v54)) then (some (PV.tuple [(PV.int .i64 0), (PV.int .i64 10)])) else ((z8e a0 a1 a2).bind fun v55 => (some (PV.tuple [(PV.int .i64 (PV.toI v55)), (PV.int .i64 0)]))))) :=
 (z3 EE zg5 _ rfl).trans (by kernel_rfl)
theorem zm8 (a0 : Int) : z48 a0 =
  ((z9s a0).bind fun v57 => (bif (eqB (PV.toI (PV.tnth v57 3)) 0) then (bif (leB (-4712) (PV.toI (PV.tnth v57 0))) then (some (PV.bool (leB (PV.toI (PV.tnth v57 0)) 294276))) else (some (PV.bool false))) else (some (PV.bool false)))) :=
 (z3 EE zdn _ rfl).trans (by kernel_rfl)
theorem z19v (a0 : List PV) : zhf a0 =
  ((rdI tiStr a0 0).bind fun v94 => ((zhd (PV.toS v94)).bind fun v95 => (bif (ltB 0 (PV.toI v95)) then (some (PV.bool true)) else ((rdI tiStr a0 1).bind fun v96 => ((zhd (PV.toS v96)).bind fun v97 => (some (PV.bool (ltB 0 (PV.toI v97))))))))) :=
 (z3 EE zvz _ rfl).trans (by kernel_rfl)
theorem zpg (a0 a1 : Int) : zi3 a0 a1 =
  (bif (ltB a1 1) then zph else (bif (ltB 12 a1) then zph else (z10e a0 a1 [(PV.int .i64 0), (PV.int .i64 31), (PV.int .i64 28), (PV.int .i64 31), (PV.int .i64 30), (PV.int .i64 31), (PV.int .i64 30), (PV.int .i64 31), (PV.int .i64 31), (PV.int .i64 30), (PV.int .i64 31), (PV.int .i64 30), (PV.int .i64 31)] 13))) :=
 (z3 EE zg6 _ rfl).trans (by kernel_rfl)
theorem zi2  : zph  =
  (some (PV.int .i64 0)) :=
 (z1 EE _ _).trans (by kernel_rfl)
theorem z158 (x0 x1 : Int) (x2 : List PV) (x3 : Nat) : z10e x0 x1 x2 x3 =
  (bif (eqB x1 2) then ((zym x0).bind fun v26 => (bif (PV.toB v26) then (some (PV.int .i64 29)) else (bif (inB 0 x1 ((13 : Nat) : Int)) then ((rdT (tiInt IntKind.i64) x2 (Int.toNat x1) 0).bind fun v27 => (some (PV.int .i64 (PV.toI v27)))) else none))) else (bif (inB 0 x1 ((13 : Nat) : Int)) then ((rdT (tiInt IntKind.i64) x2 (Int.toNat x1) 0).bind fun v28 => (some (PV.int .i64 (PV.toI v28)))) else none)) :=
 (z1 EE _ _).trans (by kernel_rfl)
theorem zh9 (a0 a1 : Int) : z18b a0 a1 =
  (bif (!(eqB a1 0)) then (some (PV.tuple [(PV.agg [(PV.int .i64 0), (PV.int .i64 0)]), (PV.int .i64 10)])) else ((z2h a0).bind fun v34 => (bif (!(PV.toB v34)) then (some (PV.tuple [(PV.agg [(PV.int .i64 0), (PV.int .i64 0)]), (PV.int .i64 10)])) else (some (PV.tuple [(PV.agg [(PV.int .i64 0), (PV.int .i64 a0)]), (PV.int .i64 0)]))))) :=
 (z3 EE zw4 _ rfl).trans (by kernel_rfl)
theorem z1b8 (a0 a1 a2 : Int) : zyo a0 a1 a2 =
  ((zu7 a0 a1 a2).bind fun v56 => (bif (!(PV.toB v56)) then (some (PV.tuple [(PV.int .i64 0), (PV.int .i64 10)])) else ((zpf a0 a1 a2).bind fun v57 => (some (PV.tuple [(PV.int .i64 (PV.toI v57)), (PV.int .i64 0)]))))) :=
 (z3 EE zwa _ rfl).trans (by kernel_rfl)
theorem zp7 (a0 : List UInt8) (a1 : List UInt8) : z1l a0 a1 =
  ((z94 a0).bind fun v58 => ((z94 a1).bind fun v59 => (some (PV.bool (eqS (PV.toS v58) (PV.toS v59)))))) :=
 (z3 EE zg2 _ rfl).trans (by kernel_rfl)
theorem zn6 (a0 : List UInt8) (a1 : Int) : zc0 a0 a1 =
  ((z16 a0 8 8).bind fun v98 => (bif (PV.toB v98) then ((takeS a0 4).bind fun v99 => ((z1i v99).bind fun v100 => ((subS a0 4 6).bind fun v101 => ((z1i v101).bind fun v102 => ((dropS a0 6).bind fun v103 => ((z1i v103).bind fun v104 => (some (PV.agg [(PV.int .i64 (PV.toI v100)), (PV.int .i64 (PV.toI v102)), (PV.int .i64 (PV.toI v104)), (PV.bool true)])))))))) else (z6p a0 a1 [45, 47, 46] 0 0 0 0 false))) :=
 (z3 EE z1n _ rfl).trans (by kernel_rfl)
theorem zbe (x0 : List UInt8) (x1 : Int) (x2 : List UInt8) (x3 x4 x5 x6 : Int) (x7 : Bool) : z6p x0 x1 x2 x3 x4 x5 x6 x7 =
  (bif (ltB x3 (((List.length x2) : Nat) : Int)) then ((atS x2 x3).bind fun v105 => ((zbz x0 v105).bind fun v106 => (bif (!(eqB (((List.length (PV.toL v106)) : Nat) : Int) 3)) then (z6p x0 x1 x2 (IntKind.wrap .i64 (x3 + 1)) x4 x5 x6 x7) else ((atS x2 x3).bind fun v107 => (bif (eqB v107 45) then ((rdI tiStr (PV.toL v106) 0).bind fun v108 => ((z2d (PV.toS v108)).bind fun v109 => (bif (ltB 0 (PV.toI v109)) then (z5r (PV.toL v106) x4 x5 x6 x7) else ((rdI tiStr (PV.toL v106) 1).bind fun v110 => ((z2d (PV.toS v110)).bind fun v111 => (bif (ltB 0 (PV.toI v111)) then (z5r (PV.toL v106) x4 x5 x6 x7) else (z5q x1 (PV.toL v106) x4 x5 x6 x7))))))) else (z5q x1 (PV.toL v106) x4 x5 x6 x7)))))) else (some (PV.agg [(PV.int .i64 0), (PV.int .i64 0), (PV.int .i64 0), (PV.bool false)]))) :=
 (z1 EE _ _).trans (by kernel_rfl)
theorem zic (x0 : List PV) (x1 x2 x3 : Int) (x4 : Bool) : z5r x0 x1 x2 x3 x4 =
  ((z8x x0).bind fun v112 => (some (PV.agg [(PV.int .i64 (PV.toI (PV.nth v112 0))), (PV.int .i64 (PV.toI (PV.nth v112 1))), (PV.int .i64 (PV.toI (PV.nth v112 2))), (PV.bool (PV.toB (PV.nth v112 3)))]))) :=
 (z1 EE _ _).trans (by kernel_rfl)
theorem zib (x0 : Int) (x1 : List PV) (x2 x3 x4 : Int) (x5 : Bool) : z5q x0 x1 x2 x3 x4 x5 =
  ((rdI tiStr x1 0).bind fun v113 => ((rdI tiStr x1 1).bind fun v114 => ((rdI tiStr x1 2).bind fun v115 => ((rdI tiStr x1 0).bind fun v116 => ((z16 (PV.toS v116) 3 6).bind fun v117 => (bif (!(PV.toB v117)) then (bif (eqB x0 1) then ((rdI tiStr x1 0).bind fun v118 => ((rdI tiStr x1 2).bind fun v119 => (z31 (PV.toS v119) (PV.toS v114) (PV.toS v118) x2 x3 x4 x5))) else (bif (eqB x0 2) then ((rdI tiStr x1 0).bind fun v120 => ((rdI tiStr x1 1).bind fun v121 => ((rdI tiStr x1 2).bind fun v122 => (z31 (PV.toS v122) (PV.toS v120) (PV.toS v121) x2 x3 x4 x5)))) else (z31 (PV.toS v113) (PV.toS v114) (PV.toS v115) x2 x3 x4 x5))) else (z31 (PV.toS v113) (PV.toS v114) (PV.toS v115) x2 x3 x4 x5))))))) :=
 (z1 EE _ _).trans (by kernel_rfl)
theorem zia (x0 : List UInt8) (x1 : List UInt8) (x2 : List UInt8) (x3 x4 x5 : Int) (x6 : Bool) : z31 x0 x1 x2 x3 x4 x5 x6 =
  ((z16 x1 1 2).bind fun v123 => (bif (!(PV.toB v123)) then (z5p x3 x4 x5 x6) else ((z16 x2 1 2).bind fun v124 => (bif (!(PV.toB v124)) then (z5p x3 x4 x5 x6) else ((z16 x0 1 6).bind fun v125 => (bif (!(PV.toB v125)) then (z5p x3 x4 x5 x6) else (zdt x0 x1 x2 x3 x4 x5 x6))))))) :=
 (z1 EE _ _).trans (by kernel_rfl)
theorem zi9 (x0 x1 x2 : Int) (x3 : Bool) : z5p x0 x1 x2 x3 =
  (some (PV.agg [(PV.int .i64 0), (PV.int .i64 0), (PV.int .i64 0), (PV.bool false)])) :=
 (z1 EE _ _).trans (by kernel_rfl)
theorem zi8 (x0 : List UInt8) (x1 : List UInt8) (x2 : List UInt8) (x3 x4 x5 : Int) (x6 : Bool) : zdt x0 x1 x2 x3 x4 x5 x6 =
  ((zds x0).bind fun v126 => ((z1i x1).bind fun v127 => ((z1i x2).bind fun v128 => (some (PV.agg [(PV.int .i64 (PV.toI v126)), (PV.int .i64 (PV.toI v127)), (PV.int .i64 (PV.toI v128)), (PV.bool true)]))))) :=
 (z1 EE _ _).trans (by kernel_rfl)
theorem zna (a0 : List UInt8) : z2d a0 =
  ((zc2 a0 [(PV.str [74, 97, 110, 117, 97, 114, 121]), (PV.str [70, 101, 98, 114, 117, 97, 114, 121]), (PV.str [77, 97, 114, 99, 104]), (PV.str [65, 112, 114, 105, 108]), (PV.str [77, 97, 121]), (PV.str [74, 117, 110, 101]), (PV.str [74, 117, 108, 121]), (PV.str [65, 117, 103, 117, 115, 116]), (PV.str [83, 101, 112, 116, 101, 109, 98, 101, 114]), (PV.str [79, 99, 116, 111, 98, 101, 114]), (PV.str [78, 111, 118, 101, 109, 98, 101, 114]), (PV.str [68, 101, 99, 101, 109, 98, 101, 114])]).bind fun v35 => (some (PV.int .i64 (IntKind.wrap .i64 ((PV.toI v35) + 1))))) :=
 (z3 EE zeh _ rfl).trans (by kernel_rfl)
theorem zn7 (a0 : List PV) : z8x a0 =
  (bif (!(eqB (((List.length a0) : Nat) : Int) 3)) then (some (PV.agg [(PV.int .i64 0), (PV.int .i64 0), (PV.int .i64 0), (PV.bool false)])) else ((rdI tiStr a0 0).bind fun v29 => ((z2d (PV.toS v29)).bind fun v30 => ((rdI tiStr a0 1).bind fun v31 => ((rdI tiStr a0 2).bind fun v32 => (bif (eqB (PV.toI v30) 0) then ((rdI tiStr a0 1).bind fun v33 => ((z2d (PV.toS v33)).bind fun v34 => ((rdI tiStr a0 0).bind fun v35 => (z9e a0 (PV.toI v34) (PV.toS v35) (PV.toS v32) 0 0 0 false)))) else (z9e a0 (PV.toI v30) (PV.toS v31) (PV.toS v32) 0 0 0 false))))))) :=
 (z3 EE z2k _ rfl).trans (by kernel_rfl)
theorem zbf (x0 : List PV) (x1 : Int) (x2 : List UInt8) (x3 : List UInt8) (x4 x5 x6 : Int) (x7 : Bool) : z9e x0 x1 x2 x3 x4 x5 x6 x7 =
  ((rdI tiStr x0 0).bind fun v36 => ((z2d (PV.toS v36)).bind fun v37 => (bif (eqB (PV.toI v37) 0) then ((z16 x2 3 6).bind fun v38 => (bif (PV.toB v38) then (zdu x1 x2 x3 x4 x5 x6 x7) else (z44 x1 x2 x3 x4 x5 x6 x7))) else (z44 x1 x2 x3 x4 x5 x6 x7)))) :=
 (z1 EE _ _).trans (by kernel_rfl)
theorem zie (x0 : Int) (x1 : List UInt8) (x2 : List UInt8) (x3 x4 x5 : Int) (x6 : Bool) : zdu x0 x1 x2 x3 x4 x5 x6 =
  (z44 x0 x2 x1 x3 x4 x5 x6) :=
 (z1 EE _ _).trans (by kernel_rfl)
theorem zid (x0 : Int) (x1 : List UInt8) (x2 : List UInt8) (x3 x4 x5 : Int) (x6 : Bool) : z44 x0 x1 x2 x3 x4 x5 x6 =
  (bif (ltB 0 x0) then ((z16 x1 1 2).bind fun v39 => (bif (PV.toB v39) then ((z16 x2 3 6).bind fun v40 => (z5s x1 x2 x3 x4 x5 x6 0 x0 0 (PV.toB v40))) else (z5s x1 x2 x3 x4 x5 x6 0 x0 0 false))) else (z5s x1 x2 x3 x4 x5 x6 0 x0 0 false)) :=
 (z1 EE _ _).trans (by kernel_rfl)
theorem z75 (x0 : List UInt8) (x1 : List UInt8) (x2 x3 x4 : Int) (x5 : Bool) (x6 x7 x8 : Int) (x9 : Bool) : z5s x0 x1 x2 x3 x4 x5 x6 x7 x8 x9 =
  (bif x9 then ((z1i x0).bind fun v41 => ((z1i x1).bind fun v42 => (some (PV.agg [(PV.int .i64 (PV.toI v42)), (PV.int .i64 x7), (PV.int .i64 (PV.toI v41)), (PV.bool x9)])))) else (some (PV.agg [(PV.int .i64 x6), (PV.int .i64 x7), (PV.int .i64 x8), (PV.bool x9)]))) :=
 (z1 EE _ _).trans (by kernel_rfl)
theorem zry (a0 a1 : Int) : z4v a0 a1 =
  (bif (eqB a1 1) then (some (PV.int .i64 31)) else (bif (eqB a1 3) then (some (PV.int .i64 31)) else (bif (eqB a1 5) then (some (PV.int .i64 31)) else (bif (eqB a1 7) then (some (PV.int .i64 31)) else (bif (eqB a1 8) then (some (PV.int .i64 31)) else (bif (eqB a1 10) then (some (PV.int .i64 31)) else (bif (eqB a1 12) then (some (PV.int .i64 31)) else (zge a0 a1)))))))) :=
 (z3 EE z5n _ rfl).trans (by kernel_rfl)
theorem zcl (x0 x1 : Int) : zge x0 x1 =
  (bif (eqB x1 4) then (some (PV.int .i64 30)) else (bif (eqB x1 6) then (some (PV.int .i64 30)) else (bif (eqB x1 9) then (some (PV.int .i64 30)) else (bif (eqB x1 11) then (some (PV.int .i64 30)) else (zgd x0 x1))))) :=
 (z1 EE _ _).trans (by kernel_rfl)
theorem zl4 (x0 x1 : Int) : zgd x0 x1 =
  (bif (eqB x1 2) then ((z7l x0).bind fun v35 => (bif (PV.toB v35) then (some (PV.int .i64 29)) else (some (PV.int .i64 28)))) else (some (PV.int .i64 0))) :=
 (z1 EE _ _).trans (by kernel_rfl)
theorem z109 (a0_0 a0_1 : Int) : zwi a0_0 a0_1 =
  ((zwj a0_0 a0_1 0).bind fun v58 => (some (PV.tuple [(PV.agg [(PV.int .i64 (PV.toI (PV.nth (PV.tnth v58 0) 0))), (PV.int .i64 (PV.toI (PV.nth (PV.tnth v58 0) 1)))]), (PV.int .i64 (PV.toI (PV.tnth v58 1)))]))) :=
 (z3 EE z101 _ rfl).trans (by kernel_rfl)
theorem z16g (a0 : List PV) : ztq a0 =
  (bif (eqB (((List.length a0) : Nat) : Int) 0) then (some (PV.sl 1 a0)) else ((rdI tiStr a0 0).bind fun v60 => (z1f a0 (PV.toS v60) 0))) :=
 (z3 EE zbc _ rfl).trans (by kernel_rfl)
theorem zez (x0 : List PV) (x1 : List UInt8) (x2 : Nat) : z1f x0 x1 x2 =
  (bif (ltN x2 (List.length x1)) then (bif (eqB ((((decR x1 x2).1) : Nat) : Int) 84) then (bif (ltB 0 ((x2 : Nat) : Int)) then ((rdI tiStr x0 0).bind fun v61 => (bif (ltB ((x2 : Nat) : Int) (IntKind.wrap .i64 ((((List.length (PV.toS v61)) : Nat) : Int) - 1))) then ((rdI tiStr x0 0).bind fun v62 => ((atS (PV.toS v62) (IntKind.wrap .i64 (((x2 : Nat) : Int) - 1))).bind fun v63 => ((zcc v63).bind fun v64 => (bif (PV.toB v64) then ((rdI tiStr x0 0).bind fun v65 => ((atS (PV.toS v65) (IntKind.wrap .i64 (((x2 : Nat) : Int) + 1))).bind fun v66 => ((zcc v66).bind fun v67 => (bif (PV.toB v67) then (zb8 x0 ((x2 : Nat) : Int)) else (z1f x0 x1 (x2 + ((decR x1 x2).2))))))) else (z1f x0 x1 (x2 + ((decR x1 x2).2))))))) else (z1f x0 x1 (x2 + ((decR x1 x2).2))))) else (z1f x0 x1 (x2 + ((decR x1 x2).2)))) else (bif (eqB ((((decR x1 x2).1) : Nat) : Int) 116) then (bif (ltB 0 ((x2 : Nat) : Int)) then ((rdI tiStr x0 0).bind fun v68 => (bif (ltB ((x2 : Nat) : Int) (IntKind.wrap .i64 ((((List.length (PV.toS v68)) : Nat) : Int) - 1))) then ((rdI tiStr x0 0).bind fun v69 => ((atS (PV.toS v69) (IntKind.wrap .i64 (((x2 : Nat) : Int) - 1))).bind fun v70 => ((zcc v70).bind fun v71 => (bif (PV.toB v71) then ((rdI tiStr x0 0).bind fun v72 => ((atS (PV.toS v72) (IntKind.wrap .i64 (((x2 : Nat) : Int) + 1))).bind fun v73 => ((zcc v73).bind fun v74 => (bif (PV.toB v74) then (zb8 x0 ((x2 : Nat) : Int)) else (z1f x0 x1 (x2 + ((decR x1 x2).2))))))) else (z1f x0 x1 (x2 + ((decR x1 x2).2))))))) else (z1f x0 x1 (x2 + ((decR x1 x2).2))))) else (z1f x0 x1 (x2 + ((decR x1 x2).2)))) else (z1f x0 x1 (x2 + ((decR x1 x2).2))))) else (some (PV.sl 1 x0))) :=
 (z1 EE _ _).trans (by kernel_rfl)
theorem zy4 (x0 : List PV) (x1 : Int) : zb8 x0 x1 =
  ((rdI tiStr x0 0).bind fun v75 => ((takeS (PV.toS v75) x1).bind fun v76 => ((rdI tiStr x0 0).bind fun v77 => ((dropS (PV.toS v77) (IntKind.wrap .i64 (x1 + 1))).bind fun v78 => ((dropS x0 1).bind fun v79 => ((z6d [(PV.sl 1 [(PV.str v76), (PV.str v78)]), (PV.sl 1 v79)]).bind fun v80 => (some (PV.sl 1 (PV.toL v80))))))))) :=
 (z1 EE _ _).trans (by kernel_rfl)
theorem z1b4 (a0 : List UInt8) : zl8 a0 =
  (z2f [] [(PV.agg [(PV.int .i64 0), (PV.int .i64 0)])] 1 a0 0 a0 a0) :=
 (z3 EE z1e _ rfl).trans (by kernel_rfl)
theorem z7z (x0 : List UInt8) (x1 : List PV) (x2 : Nat) (x3 : List UInt8) (x4 : Nat) (x5 : List UInt8) (x6 : List UInt8) : z2f x0 x1 x2 x3 x4 x5 x6 =
  (bif (ltN x4 (List.length x3)) then (bif (inB 0 (IntKind.wrap .i64 ((((List.length x1) : Nat) : Int) - 1)) (((List.length x1) : Nat) : Int)) then (bif (leB 48 ((((decR x3 x4).1) : Nat) : Int)) then (bif (leB ((((decR x3 x4).1) : Nat) : Int) 57) then ((rdT (tiInt IntKind.i64) x1 (Int.toNat (IntKind.wrap .i64 ((((List.length x1) : Nat) : Int) - 1))) 1).bind fun v36 => (bif (ltB (PV.toI v36) 6) then (z99 x0 ((((decR x3 x4).1) : Nat) : Int) (Int.toNat (IntKind.wrap .i64 ((((List.length x1) : Nat) : Int) - 1))) x1 x2 x3 (x4 + ((decR x3 x4).2)) x5 x6) else (z28 x0 ((((decR x3 x4).1) : Nat) : Int) x1 x2 x3 (x4 + ((decR x3 x4).2)) x5 x6))) else (z28 x0 ((((decR x3 x4).1) : Nat) : Int) x1 x2 x3 (x4 + ((decR x3 x4).2)) x5 x6)) else (z28 x0 ((((decR x3 x4).1) : Nat) : Int) x1 x2 x3 (x4 + ((decR x3 x4).2)) x5 x6)) else none) else (zmb x0 true x1 x2)) :=
 (z1 EE _ _).trans (by kernel_rfl)
theorem ze9 (x0 : List UInt8) (x1 : Int) (x2 : Nat) (x3 : List PV) (x4 : Nat) (x5 : List UInt8) (x6 : Nat) (x7 : List UInt8) (x8 : List UInt8) : z99 x0 x1 x2 x3 x4 x5 x6 x7 x8 =
  ((rdT (tiInt IntKind.i64) x3 x2 0).bind fun v37 => ((stC x3 x2 0 [(PV.int .i64 (IntKind.wrap .i64 ((IntKind.wrap .i64 (10 * (PV.toI v37))) + (IntKind.wrap .i64 (IntKind.wrap .i32 (x1 - 48))))))]).bind fun v38 => ((rdT (tiInt IntKind.i64) v38 x2 1).bind fun v39 => ((stC v38 x2 1 [(PV.int .i64 (IntKind.wrap .i64 ((PV.toI v39) + 1)))]).bind fun v40 => (z2f x0 v40 x4 x5 x6 x7 x8))))) :=
 (z1 EE _ _).trans (by kernel_rfl)
theorem ze1 (x0 : List UInt8) (x1 : Int) (x2 : List PV) (x3 : Nat) (x4 : List UInt8) (x5 : Nat) (x6 : List UInt8) (x7 : List UInt8) : z28 x0 x1 x2 x3 x4 x5 x6 x7 =
  (bif (eqB x1 58) then (z39 x0 x1 x2 x3 x4 x5 x6 x7) else (bif (eqB x1 46) then (z39 x0 x1 x2 x3 x4 x5 x6 x7) else (ze3 [] false))) :=
 (z1 EE _ _).trans (by kernel_rfl)
theorem z112 (x0 : List UInt8) (x1 : Bool) (x2 : List PV) (x3 : Nat) : zmb x0 x1 x2 x3 =
  (bif (!x1) then z14 else (bif (!(eqS x0 [58])) then (bif (!(eqS x0 [58, 58])) then (bif (!(eqS x0 [58, 58, 46])) then z14 else (bif (inB 0 0 (((List.length x2) : Nat) : Int)) then ((rdT (EE.ti z8) x2 0 0).bind fun v41 => ((z3g (PV.toI (PV.nth v41 0)) (PV.toI (PV.nth v41 1))).bind fun v42 => (bif (!(PV.toB v42)) then z14 else (bif (inB 0 1 (((List.length x2) : Nat) : Int)) then ((rdT (EE.ti z8) x2 1 0).bind fun v43 => ((z2e (PV.toI (PV.nth v43 0)) (PV.toI (PV.nth v43 1))).bind fun v44 => (bif (!(PV.toB v44)) then z14 else (zma x0 x2 x3)))) else none)))) else none)) else (bif (inB 0 0 (((List.length x2) : Nat) : Int)) then ((rdT (EE.ti z8) x2 0 0).bind fun v45 => ((z3g (PV.toI (PV.nth v45 0)) (PV.toI (PV.nth v45 1))).bind fun v46 => (bif (!(PV.toB v46)) then z14 else (bif (inB 0 1 (((List.length x2) : Nat) : Int)) then ((rdT (EE.ti z8) x2 1 0).bind fun v47 => ((z2e (PV.toI (PV.nth v47 0)) (PV.toI (PV.nth v47 1))).bind fun v48 => (bif (!(PV.toB v48)) then z14 else (zma x0 x2 x3)))) else none)))) else none)) else (bif (inB 0 0 (((List.length x2) : Nat) : Int)) then ((rdT (EE.ti z8) x2 0 0).bind fun v49 => ((z3g (PV.toI (PV.nth v49 0)) (PV.toI (PV.nth v49 1))).bind fun v50 => (bif (!(PV.toB v50)) then z14 else (bif (inB 0 1 (((List.length x2) : Nat) : Int)) then ((rdT (EE.ti z8) x2 1 0).bind fun v51 => ((z2e (PV.toI (PV.nth v51 0)) (PV.toI (PV.nth v51 1))).bind fun v52 => (bif (!(PV.toB v52)) then z14 else (zma x0 x2 x3)))) else none)))) else none))) :=
 (z1 EE _ _).trans (by kernel_rfl)
theorem ze0 (x0 : List UInt8) (x1 : Int) (x2 : List PV) (x3 : Nat) (x4 : List UInt8) (x5 : Nat) (x6 : List UInt8) (x7 : List UInt8) : z39 x0 x1 x2 x3 x4 x5 x6 x7 =
  ((catS x0 (encR x1)).bind fun v53 => ((appL 16 x2 [(PV.agg [(PV.int .i64 0), (PV.int .i64 0)])]).bind fun v54 => (bif (leN (List.length v54) x3) then (z2f v53 v54 x3 x4 x5 x6 x7) else (z24 v53 v54 x4 x5 x6 x7)))) :=
 (z1 EE _ _).trans (by kernel_rfl)
theorem zwr (x0 : List UInt8) (x1 : Bool) : ze3 x0 x1 =
  (bif (!x1) then z14 else (bif (!(eqS x0 [58])) then (bif (!(eqS x0 [58, 58])) then (bif (!(eqS x0 [58, 58, 46])) then z14 else none) else none) else none)) :=
 (z1 EE _ _).trans (by kernel_rfl)
theorem zgq  : z14  =
  (some (PV.tuple [(PV.int .i64 0), (PV.int .i64 13)])) :=
 (z1 EE _ _).trans (by kernel_rfl)
theorem z71 (x0 : List UInt8) (x1 : List PV) (x2 : List UInt8) (x3 : Nat) (x4 : List UInt8) (x5 : List UInt8) : z24 x0 x1 x2 x3 x4 x5 =
  (bif (ltN x3 (List.length x2)) then (bif (inB 0 (IntKind.wrap .i64 ((((List.length x1) : Nat) : Int) - 1)) (((List.length x1) : Nat) : Int)) then (bif (leB 48 ((((decR x2 x3).1) : Nat) : Int)) then (bif (leB ((((decR x2 x3).1) : Nat) : Int) 57) then ((rdT (tiInt IntKind.i64) x1 (Int.toNat (IntKind.wrap .i64 ((((List.length x1) : Nat) : Int) - 1))) 1).bind fun v60 => (bif (ltB (PV.toI v60) 6) then (z8f x0 ((((decR x2 x3).1) : Nat) : Int) (Int.toNat (IntKind.wrap .i64 ((((List.length x1) : Nat) : Int) - 1))) x1 x2 (x3 + ((decR x2 x3).2)) x4 x5) else (z1z x0 ((((decR x2 x3).1) : Nat) : Int) x1 x2 (x3 + ((decR x2 x3).2)) x4 x5))) else (z1z x0 ((((decR x2 x3).1) : Nat) : Int) x1 x2 (x3 + ((decR x2 x3).2)) x4 x5)) else (z1z x0 ((((decR x2 x3).1) : Nat) : Int) x1 x2 (x3 + ((decR x2 x3).2)) x4 x5)) else none) else (z47 x0 true x1)) :=
 (z1 EE _ _).trans (by kernel_rfl)
theorem zu5 (x0 : List PV) (x1 x2 x3 x4 : Int) : z9a x0 x1 x2 x3 x4 =
  ((z2e x1 x2).bind fun v62 => (bif (!(PV.toB v62)) then zfd else (bif (eqB x4 0) then zfd else (zbu x0 x1 x2 x3 x4)))) :=
 (z1 EE _ _).trans (by kernel_rfl)
theorem zcr (x0 : List UInt8) (x1 : Int) (x2 : Nat) (x3 : List PV) (x4 : List UInt8) (x5 : Nat) (x6 : List UInt8) (x7 : List UInt8) : z8f x0 x1 x2 x3 x4 x5 x6 x7 =
  ((rdT (tiInt IntKind.i64) x3 x2 0).bind fun v63 => ((stC x3 x2 0 [(PV.int .i64 (IntKind.wrap .i64 ((IntKind.wrap .i64 (10 * (PV.toI v63))) + (IntKind.wrap .i64 (IntKind.wrap .i32 (x1 - 48))))))]).bind fun v64 => ((rdT (tiInt IntKind.i64) v64 x2 1).bind fun v65 => ((stC v64 x2 1 [(PV.int .i64 (IntKind.wrap .i64 ((PV.toI v65) + 1)))]).bind fun v66 => (z24 x0 v66 x4 x5 x6 x7))))) :=
 (z1 EE _ _).trans (by kernel_rfl)
theorem zc6 (x0 : List UInt8) (x1 : Int) (x2 : List PV) (x3 : List UInt8) (x4 : Nat) (x5 : List UInt8) (x6 : List UInt8) : z1z x0 x1 x2 x3 x4 x5 x6 =
  (bif (eqB x1 58) then (z2s x0 x1 x2 x3 x4 x5 x6) else (bif (eqB x1 46) then (z2s x0 x1 x2 x3 x4 x5 x6) else (ze3 [] false))) :=
 (z1 EE _ _).trans (by kernel_rfl)
theorem zwq (x0 : List UInt8) (x1 : Bool) (x2 : List PV) : z47 x0 x1 x2 =
  (bif (!x1) then z14 else (bif (!(eqS x0 [58])) then (bif (!(eqS x0 [58, 58])) then (bif (!(eqS x0 [58, 58, 46])) then z14 else (bif (inB 0 0 (((List.length x2) : Nat) : Int)) then ((rdT (EE.ti z8) x2 0 0).bind fun v67 => ((z3g (PV.toI (PV.nth v67 0)) (PV.toI (PV.nth v67 1))).bind fun v68 => (bif (!(PV.toB v68)) then z14 else (bif (inB 0 1 (((List.length x2) : Nat) : Int)) then ((rdT (EE.ti z8) x2 1 0).bind fun v69 => ((z2e (PV.toI (PV.nth v69 0)) (PV.toI (PV.nth v69 1))).bind fun v70 => (bif (!(PV.toB v70)) then z14 else (z8g x0 x2)))) else none)))) else none)) else (bif (inB 0 0 (((List.length x2) : Nat) : Int)) then ((rdT (EE.ti z8) x2 0 0).bind fun v71 => ((z3g (PV.toI (PV.nth v71 0)) (PV.toI (PV.nth v71 1))).bind fun v72 => (bif (!(PV.toB v72)) then z14 else (bif (inB 0 1 (((List.length x2) : Nat) : Int)) then ((rdT (EE.ti z8) x2 1 0).bind fun v73 => ((z2e (PV.toI (PV.nth v73 0)) (PV.toI (PV.nth v73 1))).bind fun v74 => (bif (!(PV.toB v74)) then z14 else (z8g x0 x2)))) else none)))) else none)) else (bif (inB 0 0 (((List.length x2) : Nat) : Int)) then ((rdT (EE.ti z8) x2 0 0).bind fun v75 => ((z3g (PV.toI (PV.nth v75 0)) (PV.toI (PV.nth v75 1))).bind fun v76 => (bif (!(PV.toB v76)) then z14 else (bif (inB 0 1 (((List.length x2) : Nat) : Int)) then ((rdT (EE.ti z8) x2 1 0).bind fun v77 => ((z2e (PV.toI (PV.nth v77 0)) (PV.toI (PV.nth v77 1))).bind fun v78 => (bif (!(PV.toB v78)) then z14 else (z8g x0 x2)))) else none)))) else none))) :=
 (z1 EE _ _).trans (by kernel_rfl)
theorem zyk  : zfd  =
  (some (PV.tuple [(PV.int .i64 0), (PV.int .i64 13)])) :=
 (z1 EE _ _).trans (by kernel_rfl)
theorem zi0 (x0 : List PV) (x1 x2 x3 x4 : Int) : zbu x0 x1 x2 x3 x4 =
  (bif (ltB x4 6) then (zbu x0 x1 x2 (IntKind.wrap .i64 (x3 * 10)) (IntKind.wrap .i64 (x4 + 1))) else (bif (inB 0 0 (((List.length x0) : Nat) : Int)) then ((rdT (tiInt IntKind.i64) x0 0 0).bind fun v82 => (bif (inB 0 1 (((List.length x0) : Nat) : Int)) then ((rdT (tiInt IntKind.i64) x0 1 0).bind fun v83 => ((zrl (PV.toI v82) (PV.toI v83) x1 x3).bind fun v84 => (some (PV.tuple [(PV.int .i64 (PV.toI (PV.tnth v84 0))), (PV.int .i64 (PV.toI (PV.tnth v84 1)))])))) else none)) else none)) :=
 (z1 EE _ _).trans (by kernel_rfl)
theorem zc5 (x0 : List UInt8) (x1 : Int) (x2 : List PV) (x3 : List UInt8) (x4 : Nat) (x5 : List UInt8) (x6 : List UInt8) : z2s x0 x1 x2 x3 x4 x5 x6 =
  ((catS x0 (encR x1)).bind fun v85 => ((appL 16 x2 [(PV.agg [(PV.int .i64 0), (PV.int .i64 0)])]).bind fun v86 => (z24 v85 v86 x3 x4 x5 x6))) :=
 (z1 EE _ _).trans (by kernel_rfl)
theorem ze2 (x0 : List UInt8) (x1 : List PV) : z8g x0 x1 =
  ((appL 16 x1 [(PV.agg [(PV.int .i64 0), (PV.int .i64 2)]), (PV.agg [(PV.int .i64 0), (PV.int .i64 6)])]).bind fun v87 => (bif (inB 0 2 (((List.length v87) : Nat) : Int)) then ((rdT (EE.ti z8) v87 2 0).bind fun v88 => (bif (inB 0 3 (((List.length v87) : Nat) : Int)) then ((rdT (EE.ti z8) v87 3 0).bind fun v89 => (bif (eqS x0 [58]) then (z9a v87 0 2 0 6) else (bif (eqS x0 [58, 58]) then (z9a v87 (PV.toI (PV.nth v88 0)) (PV.toI (PV.nth v88 1)) 0 6) else (z9a v87 (PV.toI (PV.nth v88 0)) (PV.toI (PV.nth v88 1)) (PV.toI (PV.nth v89 0)) (PV.toI (PV.nth v89 1)))))) else none)) else none)) :=
 (z1 EE _ _).trans (by kernel_rfl)
theorem z10a (a0_0 a0_1 a1 : Int) : zwj a0_0 a0_1 a1 =
  ((zg9 a0_0 a0_1).bind fun v43 => (bif (!(PV.toB v43)) then (zg7 0 0) else (bif (ltB a1 0) then (zg7 0 0) else (bif (ltB 86400000000 a1) then (zg7 0 0) else (z10b a1 a0_0 a0_1 0 0))))) :=
 (z3 EE zcj _ rfl).trans (by kernel_rfl)
theorem z154 (x0 x1 : Int) : zg7 x0 x1 =
  (some (PV.tuple [(PV.agg [(PV.int .i64 0), (PV.int .i64 0)]), (PV.int .i64 1)])) :=
 (z1 EE _ _).trans (by kernel_rfl)
theorem zp3 (x0 x1 x2 x3 x4 : Int) : z10b x0 x1 x2 x3 x4 =
  (bif (!(eqB x1 0)) then (some (PV.tuple [(PV.agg [(PV.int .i64 x1), (PV.int .i64 0)]), (PV.int .i64 0)])) else ((z1a5 x2 86400000000).bind fun v44 => (bif (eqB (PV.toI (PV.tnth v44 1)) 0) then ((z1a6 (PV.toI (PV.tnth v44 0)) x0).bind fun v45 => (zp2 (PV.toI (PV.tnth v45 0)) (PV.toI (PV.tnth v45 1)) x3 x4)) else (zp2 (PV.toI (PV.tnth v44 0)) (PV.toI (PV.tnth v44 1)) x3 x4)))) :=
 (z1 EE _ _).trans (by kernel_rfl)
theorem z153 (x0 x1 x2 x3 : Int) : zp2 x0 x1 x2 x3 =
  (bif (!(eqB x1 0)) then (some (PV.tuple [(PV.agg [(PV.int .i64 0), (PV.int .i64 0)]), (PV.int .i64 10)])) else ((z9c 0 x0).bind fun v46 => (bif (!(PV.toB v46)) then (some (PV.tuple [(PV.agg [(PV.int .i64 0), (PV.int .i64 0)]), (PV.int .i64 10)])) else (some (PV.tuple [(PV.agg [(PV.int .i64 0), (PV.int .i64 x0)]), (PV.int .i64 0)]))))) :=
 (z1 EE _ _).trans (by kernel_rfl)
theorem zru (a0 : List PV) : zf4 a0 =
  (bif (eqB (((List.length a0) : Nat) : Int) 0) then (some (PV.sl 1 a0)) else ((rdI tiStr a0 0).bind fun v36 => (z17 a0 (PV.toS v36) 1))) :=
 (z3 EE z5m _ rfl).trans (by kernel_rfl)
theorem z90 (x0 : List PV) (x1 : List UInt8) (x2 : Int) : z17 x0 x1 x2 =
  (bif (ltB (IntKind.wrap .i64 (x2 + 1)) (((List.length x1) : Nat) : Int)) then ((atS x1 x2).bind fun v37 => (bif (eqB v37 84) then ((atS x1 (IntKind.wrap .i64 (x2 - 1))).bind fun v38 => (bif (leB 48 v38) then ((atS x1 (IntKind.wrap .i64 (x2 - 1))).bind fun v39 => (bif (leB v39 57) then ((atS x1 (IntKind.wrap .i64 (x2 + 1))).bind fun v40 => (bif (leB 48 v40) then ((atS x1 (IntKind.wrap .i64 (x2 + 1))).bind fun v41 => (bif (leB v41 57) then (z84 x0 x1 x2) else (z17 x0 x1 (IntKind.wrap .i64 (x2 + 1))))) else (z17 x0 x1 (IntKind.wrap .i64 (x2 + 1))))) else (z17 x0 x1 (IntKind.wrap .i64 (x2 + 1))))) else (z17 x0 x1 (IntKind.wrap .i64 (x2 + 1))))) else ((atS x1 x2).bind fun v42 => (bif (eqB v42 116) then ((atS x1 (IntKind.wrap .i64 (x2 - 1))).bind fun v43 => (bif (leB 48 v43) then ((atS x1 (IntKind.wrap .i64 (x2 - 1))).bind fun v44 => (bif (leB v44 57) then ((atS x1 (IntKind.wrap .i64 (x2 + 1))).bind fun v45 => (bif (leB 48 v45) then ((atS x1 (IntKind.wrap .i64 (x2 + 1))).bind fun v46 => (bif (leB v46 57) then (z84 x0 x1 x2) else (z17 x0 x1 (IntKind.wrap .i64 (x2 + 1))))) else (z17 x0 x1 (IntKind.wrap .i64 (x2 + 1))))) else (z17 x0 x1 (IntKind.wrap .i64 (x2 + 1))))) else (z17 x0 x1 (IntKind.wrap .i64 (x2 + 1))))) else (z17 x0 x1 (IntKind.wrap .i64 (x2 + 1))))))) else (some (PV.sl 1 x0))) :=
 (z1 EE _ _).trans (by kernel_rfl)
theorem zm7 (x0 : List PV) (x1 : List UInt8) (x2 : Int) : z84 x0 x1 x2 =
  ((takeS x1 x2).bind fun v47 => ((dropS x1 (IntKind.wrap .i64 (x2 + 1))).bind fun v48 => ((dropS x0 1).bind fun v49 => ((appL 16 [(PV.str v47), (PV.str v48)] v49).bind fun v50 => (bif (leN (List.length v50) 2) then (some (PV.sl 1 v50)) else (some (PV.sl 1 v50))))))) :=
 (z1 EE _ _).trans (by kernel_rfl)
theorem zp8 (a0 : List UInt8) : z5g a0 =
  (z18 1 2 0 0 a0 false) :=
 (z3 EE z5 _ rfl).trans (by kernel_rfl)
theorem z70 (x0 x1 x2 x3 : Int) (x4 : List UInt8) (x5 : Bool) : z18 x0 x1 x2 x3 x4 x5 =
  (bif (ltB x3 x1) then (bif (ltB x3 (((List.length x4) : Nat) : Int)) then ((atS x4 x3).bind fun v81 => (bif (leB 48 v81) then ((atS x4 x3).bind fun v82 => (bif (leB v82 57) then (z1x x0 x1 x2 x3 x4 x5) else (zo x0 x2 x3 x4 x5))) else (zo x0 x2 x3 x4 x5))) else (zo x0 x2 x3 x4 x5)) else (zo x0 x2 x3 x4 x5)) :=
 (z1 EE _ _).trans (by kernel_rfl)
theorem z6z (x0 x1 x2 x3 : Int) (x4 : List UInt8) (x5 : Bool) : z1x x0 x1 x2 x3 x4 x5 =
  ((atS x4 x3).bind fun v83 => (z18 x0 x1 (IntKind.wrap .i64 ((IntKind.wrap .i64 (10 * x2)) + (IntKind.wrap .i64 (IntKind.wrap .u8 (v83 - 48))))) (IntKind.wrap .i64 (x3 + 1)) x4 x5)) :=
 (z1 EE _ _).trans (by kernel_rfl)
theorem z6y (x0 x1 x2 : Int) (x3 : List UInt8) (x4 : Bool) : zo x0 x1 x2 x3 x4 =
  (bif (ltB x2 x0) then ((dropS x3 x2).bind fun v84 => (z7k x1 v84 true)) else ((dropS x3 x2).bind fun v85 => (z7k x1 v85 x4))) :=
 (z1 EE _ _).trans (by kernel_rfl)
theorem zl3 (x0 : Int) (x1 : List UInt8) (x2 : Bool) : z7k x0 x1 x2 =
  (bif (eqB (((List.length x1) : Nat) : Int) 0) then (zv x1 x2 x0) else ((atS x1 0).bind fun v86 => (bif (!(eqB v86 58)) then (zv x1 x2 x0) else ((dropS x1 1).bind fun v87 => (z58 x0 v87 x2))))) :=
 (z1 EE _ _).trans (by kernel_rfl)
theorem z6l (x0 : List UInt8) (x1 : Bool) (x2 : Int) : zv x0 x1 x2 =
  (zgc x2 x0 x1) :=
 (z1 EE _ _).trans (by kernel_rfl)
theorem zl1 (x0 : Int) (x1 : List UInt8) (x2 : Bool) : z58 x0 x1 x2 =
  (z13 2 2 0 0 x1 x2 x0) :=
 (z1 EE _ _).trans (by kernel_rfl)
theorem zl2 (x0 : Int) (x1 : List UInt8) (x2 : Bool) : zgc x0 x1 x2 =
  (z58 x0 x1 true) :=
 (z1 EE _ _).trans (by kernel_rfl)
theorem z68 (x0 x1 x2 x3 : Int) (x4 : List UInt8) (x5 : Bool) (x6 : Int) : z13 x0 x1 x2 x3 x4 x5 x6 =
  (bif (ltB x3 x1) then (bif (ltB x3 (((List.length x4) : Nat) : Int)) then ((atS x4 x3).bind fun v88 => (bif (leB 48 v88) then ((atS x4 x3).bind fun v89 => (bif (leB v89 57) then (z1r x0 x1 x2 x3 x4 x5 x6) else (zk x0 x2 x3 x4 x5 x6))) else (zk x0 x2 x3 x4 x5 x6))) else (zk x0 x2 x3 x4 x5 x6)) else (zk x0 x2 x3 x4 x5 x6)) :=
 (z1 EE _ _).trans (by kernel_rfl)
theorem z65 (x0 x1 x2 x3 : Int) (x4 : List UInt8) (x5 : Bool) (x6 : Int) : z1r x0 x1 x2 x3 x4 x5 x6 =
  ((atS x4 x3).bind fun v90 => (z13 x0 x1 (IntKind.wrap .i64 ((IntKind.wrap .i64 (10 * x2)) + (IntKind.wrap .i64 (IntKind.wrap .u8 (v90 - 48))))) (IntKind.wrap .i64 (x3 + 1)) x4 x5 x6)) :=
 (z1 EE _ _).trans (by kernel_rfl)
theorem z62 (x0 x1 x2 : Int) (x3 : List UInt8) (x4 : Bool) (x5 : Int) : zk x0 x1 x2 x3 x4 x5 =
  (bif (ltB x2 x0) then ((dropS x3 x2).bind fun v91 => (z7j x5 x1 v91 true)) else ((dropS x3 x2).bind fun v92 => (z7j x5 x1 v92 x4))) :=
 (z1 EE _ _).trans (by kernel_rfl)
theorem zl0 (x0 x1 : Int) (x2 : List UInt8) (x3 : Bool) : z7j x0 x1 x2 x3 =
  (bif (eqB (((List.length x2) : Nat) : Int) 0) then (zz x2 x3 x0 x1 0 0) else ((atS x2 0).bind fun v93 => (bif (!(eqB v93 58)) then (zz x2 x3 x0 x1 0 0) else ((dropS x2 1).bind fun v94 => (z7i x0 x1 0 v94 x3))))) :=
 (z1 EE _ _).trans (by kernel_rfl)
theorem z5u (x0 : List UInt8) (x1 : Bool) (x2 x3 x4 x5 : Int) : zz x0 x1 x2 x3 x4 x5 =
  (z2m x2 x3 x4 x5 x0 x1) :=
 (z1 EE _ _).trans (by kernel_rfl)
theorem zkz (x0 x1 x2 : Int) (x3 : List UInt8) (x4 : Bool) : z7i x0 x1 x2 x3 x4 =
  (z12 2 2 0 0 x3 x4 x0 x1 x2) :=
 (z1 EE _ _).trans (by kernel_rfl)
theorem zk2 (x0 x1 x2 x3 : Int) (x4 : List UInt8) (x5 : Bool) : z2m x0 x1 x2 x3 x4 x5 =
  (bif x5 then (some (PV.tuple [(PV.int .i64 0), (PV.int .i64 13)])) else (bif (ltB 0 (((List.length x4) : Nat) : Int)) then (some (PV.tuple [(PV.int .i64 0), (PV.int .i64 13)])) else ((z9r x0 x1 x2 x3).bind fun v95 => (some (PV.tuple [(PV.int .i64 (PV.toI (PV.tnth v95 0))), (PV.int .i64 (PV.toI (PV.tnth v95 1)))]))))) :=
 (z1 EE _ _).trans (by kernel_rfl)
theorem z67 (x0 x1 x2 x3 : Int) (x4 : List UInt8) (x5 : Bool) (x6 x7 x8 : Int) : z12 x0 x1 x2 x3 x4 x5 x6 x7 x8 =
  (bif (ltB x3 x1) then (bif (ltB x3 (((List.length x4) : Nat) : Int)) then ((atS x4 x3).bind fun v96 => (bif (leB 48 v96) then ((atS x4 x3).bind fun v97 => (bif (leB v97 57) then (z1q x0 x1 x2 x3 x4 x5 x6 x7 x8) else (zj x0 x2 x3 x4 x5 x6 x7 x8))) else (zj x0 x2 x3 x4 x5 x6 x7 x8))) else (zj x0 x2 x3 x4 x5 x6 x7 x8)) else (zj x0 x2 x3 x4 x5 x6 x7 x8)) :=
 (z1 EE _ _).trans (by kernel_rfl)
theorem z64 (x0 x1 x2 x3 : Int) (x4 : List UInt8) (x5 : Bool) (x6 x7 x8 : Int) : z1q x0 x1 x2 x3 x4 x5 x6 x7 x8 =
  ((atS x4 x3).bind fun v98 => (z12 x0 x1 (IntKind.wrap .i64 ((IntKind.wrap .i64 (10 * x2)) + (IntKind.wrap .i64 (IntKind.wrap .u8 (v98 - 48))))) (IntKind.wrap .i64 (x3 + 1)) x4 x5 x6 x7 x8)) :=
 (z1 EE _ _).trans (by kernel_rfl)
theorem z61 (x0 x1 x2 : Int) (x3 : List UInt8) (x4 : Bool) (x5 x6 x7 : Int) : zj x0 x1 x2 x3 x4 x5 x6 x7 =
  (bif (ltB x2 x0) then ((dropS x3 x2).bind fun v99 => (z6w x5 x6 x1 x7 v99 true)) else ((dropS x3 x2).bind fun v100 => (z6w x5 x6 x1 x7 v100 x4))) :=
 (z1 EE _ _).trans (by kernel_rfl)
theorem zk5 (x0 x1 x2 x3 : Int) (x4 : List UInt8) (x5 : Bool) : z6w x0 x1 x2 x3 x4 x5 =
  (bif (eqB (((List.length x4) : Nat) : Int) 0) then (zy x4 x5 x0 x1 x2 x3) else ((atS x4 0).bind fun v101 => (bif (!(eqB v101 46)) then (zy x4 x5 x0 x1 x2 x3) else ((dropS x4 1).bind fun v102 => (z4n x0 x1 x2 v102 x5))))) :=
 (z1 EE _ _).trans (by kernel_rfl)
theorem z5t (x0 : List UInt8) (x1 : Bool) (x2 x3 x4 x5 : Int) : zy x0 x1 x2 x3 x4 x5 =
  (z2m x2 x3 x4 x5 x0 x1) :=
 (z1 EE _ _).trans (by kernel_rfl)
theorem zk4 (x0 x1 x2 : Int) (x3 : List UInt8) (x4 : Bool) : z4n x0 x1 x2 x3 x4 =
  (z11 1 6 0 0 x3 x4 x0 x1 x2 (((List.length x3) : Nat) : Int)) :=
 (z1 EE _ _).trans (by kernel_rfl)
theorem z66 (x0 x1 x2 x3 : Int) (x4 : List UInt8) (x5 : Bool) (x6 x7 x8 x9 : Int) : z11 x0 x1 x2 x3 x4 x5 x6 x7 x8 x9 =
  (bif (ltB x3 x1) then (bif (ltB x3 (((List.length x4) : Nat) : Int)) then ((atS x4 x3).bind fun v103 => (bif (leB 48 v103) then ((atS x4 x3).bind fun v104 => (bif (leB v104 57) then (z1p x0 x1 x2 x3 x4 x5 x6 x7 x8 x9) else (zi x0 x2 x3 x4 x5 x6 x7 x8 x9))) else (zi x0 x2 x3 x4 x5 x6 x7 x8 x9))) else (zi x0 x2 x3 x4 x5 x6 x7 x8 x9)) else (zi x0 x2 x3 x4 x5 x6 x7 x8 x9)) :=
 (z1 EE _ _).trans (by kernel_rfl)
theorem z63 (x0 x1 x2 x3 : Int) (x4 : List UInt8) (x5 : Bool) (x6 x7 x8 x9 : Int) : z1p x0 x1 x2 x3 x4 x5 x6 x7 x8 x9 =
  ((atS x4 x3).bind fun v105 => (z11 x0 x1 (IntKind.wrap .i64 ((IntKind.wrap .i64 (10 * x2)) + (IntKind.wrap .i64 (IntKind.wrap .u8 (v105 - 48))))) (IntKind.wrap .i64 (x3 + 1)) x4 x5 x6 x7 x8 x9)) :=
 (z1 EE _ _).trans (by kernel_rfl)
theorem z60 (x0 x1 x2 : Int) (x3 : List UInt8) (x4 : Bool) (x5 x6 x7 x8 : Int) : zi x0 x1 x2 x3 x4 x5 x6 x7 x8 =
  (bif (ltB x2 x0) then ((dropS x3 x2).bind fun v106 => (z6v x5 x6 x7 x1 x8 v106 true)) else ((dropS x3 x2).bind fun v107 => (z6v x5 x6 x7 x1 x8 v107 x4))) :=
 (z1 EE _ _).trans (by kernel_rfl)
theorem zk3 (x0 x1 x2 x3 x4 : Int) (x5 : List UInt8) (x6 : Bool) : z6v x0 x1 x2 x3 x4 x5 x6 =
  (z6u x0 x1 x2 x3 (IntKind.wrap .i64 (x4 - (((List.length x5) : Nat) : Int))) x5 x6) :=
 (z1 EE _ _).trans (by kernel_rfl)
theorem zbk (x0 x1 x2 x3 x4 : Int) (x5 : List UInt8) (x6 : Bool) : z6u x0 x1 x2 x3 x4 x5 x6 =
  (bif (ltB x4 6) then (z6u x0 x1 x2 (IntKind.wrap .i64 (x3 * 10)) (IntKind.wrap .i64 (x4 + 1)) x5 x6) else (z2m x0 x1 x2 x3 x5 x6)) :=
 (z1 EE _ _).trans (by kernel_rfl)
theorem z6s (a0_0 a0_1 a1 : Int) : z6k a0_0 a0_1 a1 =
  ((z92 a0_0 a0_1).bind fun v134 => (bif (!(PV.toB v134)) then (z3c 0 0) else (bif (ltB a1 0) then (z3c 0 0) else (bif (ltB 86400000000 a1) then (z3c 0 0) else (zeq a1 a0_0 a0_1 0 0))))) :=
 (z3 EE z3b _ rfl).trans (by kernel_rfl)
theorem zbi (x0 x1 : Int) : z3c x0 x1 =
  (some (PV.tuple [(PV.agg [(PV.int .i64 0), (PV.int .i64 0)]), (PV.int .i64 1)])) :=
 (z1 EE _ _).trans (by kernel_rfl)
theorem z4y (x0 x1 x2 x3 x4 : Int) : zeq x0 x1 x2 x3 x4 =
  (bif (!(eqB x1 0)) then (some (PV.tuple [(PV.agg [(PV.int .i64 x1), (PV.int .i64 0)]), (PV.int .i64 0)])) else (bif (eqB x0 86400000000) then (z6t 0 (IntKind.wrap .i64 (x2 + 1)) x3 x4) else (z6t x0 x2 x3 x4))) :=
 (z1 EE _ _).trans (by kernel_rfl)
theorem z2i (x0 x1 x2 x3 : Int) : z6t x0 x1 x2 x3 =
  ((z48 x1).bind fun v135 => (bif (!(PV.toB v135)) then (some (PV.tuple [(PV.agg [(PV.int .i64 0), (PV.int .i64 0)]), (PV.int .i64 10)])) else (some (PV.tuple [(PV.agg [(PV.int .i64 0), (PV.int .i64 (IntKind.wrap .i64 ((IntKind.wrap .i64 (x1 * 86400000000)) + x0)))]), (PV.int .i64 0)])))) :=
 (z1 EE _ _).trans (by kernel_rfl)
theorem z1kr (a0 : Int) : z1a4 a0 =
  ((num_Sub 0 a0).bind fun v90 => (some (PV.tuple [(PV.int .i64 (PV.toI (PV.tnth v90 0))), (PV.int .i64 (PV.toI (PV.tnth v90 1)))]))) :=
 (z3 EE z17z _ rfl).trans (by kernel_rfl)
theorem z166 (a0 : Int) : zlp a0 =
  (bif (leB (-2147483647) a0) then (some (PV.bool (leB a0 2147483647))) else (some (PV.bool false))) :=
 (z3 EE zsm _ rfl).trans (by kernel_rfl)
theorem z16a (a0 : Int) : zew a0 =
  (bif (ltB a0 0) then (some (PV.tuple [(PV.str [45]), (PV.int .i64 (IntKind.wrap .i64 (0 - a0)))])) else (some (PV.tuple [(PV.str [43]), (PV.int .i64 a0)]))) :=
 (z3 EE zsn _ rfl).trans (by kernel_rfl)
theorem z1b6 (a0 : Int) : zf6 a0 =
  (bif (ltB a0 0) then ((zl7 (IntKind.wrap .u64 (0 - (IntKind.wrap .u64 a0)))).bind fun v67 => ((catS [45] (PV.toS v67)).bind fun v68 => (some (PV.str v68)))) else ((zl7 (IntKind.wrap .u64 a0)).bind fun v69 => (some (PV.str (PV.toS v69))))) :=
 (z3 EE zw7 _ rfl).trans (by kernel_rfl)
theorem z138 (a0 : List UInt8) (a1 : List PV) : z2u a0 a1 =
  (z9v a0 a1 (((List.length a1) : Nat) : Int) 0 []) :=
 (z3 EE zdk _ rfl).trans (by kernel_rfl)
theorem zis (x0 : List UInt8) (x1 : List PV) (x2 x3 : Int) (x4 : List PV) : z9v x0 x1 x2 x3 x4 =
  (bif (ltB x3 x2) then ((rdI tiStr x1 x3).bind fun v108 => (bif (!(eqS (PV.toS v108) [])) then ((appL 16 x4 [(PV.str (PV.toS v108))]).bind fun v109 => (z9v x0 x1 x2 (IntKind.wrap .i64 (x3 + 1)) v109)) else (z9v x0 x1 x2 (IntKind.wrap .i64 (x3 + 1)) x4))) else ((zo1 x4 x0).bind fun v110 => (some (PV.str (PV.toS v110))))) :=
 (z1 EE _ _).trans (by kernel_rfl)
theorem z16e (a0 : Int) : z7p a0 =
  (bif (ltB a0 10) then ((zdz a0).bind fun v136 => ((dropS (PV.toS v136) 1).bind fun v137 => (some (PV.str v137)))) else ((zdz a0).bind fun v138 => (some (PV.str (PV.toS v138))))) :=
 (z3 EE zsr _ rfl).trans (by kernel_rfl)
theorem z16d (a0 : Int) (a1 : List UInt8) : zbx a0 a1 =
  (bif (eqB a0 0) then (some (PV.str [])) else ((z2t a0).bind fun v91 => ((z1b [(PV.str (PV.toS v91)), (PV.str a1)]).bind fun v92 => (some (PV.str (PV.toS v92)))))) :=
 (z3 EE zsq _ rfl).trans (by kernel_rfl)
theorem z135 (a0 : Int) : zo6 a0 =
  (bif (eqB a0 0) then (some (PV.str [])) else ((zew a0).bind fun v47 => ((z7b (PV.toS (PV.tnth v47 0)) [43]).bind fun v48 => ((z7p (IntKind.wrap .i64 (Int.tdiv (PV.toI (PV.tnth v47 1)) 1000000))).bind fun v49 => ((zfe (Int.tmod (PV.toI (PV.tnth v47 1)) 1000000)).bind fun v50 => ((z1b [(PV.str (PV.toS v48)), (PV.str (PV.toS v49)), (PV.str (PV.toS v50)), (PV.str [83])]).bind fun v51 => (some (PV.str (PV.toS v51))))))))) :=
 (z3 EE zow _ rfl).trans (by kernel_rfl)
theorem zh8 (a0 : Int) : z2h a0 =
  ((zhi a0).bind fun v70 => (bif (eqB (PV.toI (PV.tnth v70 3)) 0) then (bif (leB (-4712) (PV.toI (PV.tnth v70 0))) then (some (PV.bool (leB (PV.toI (PV.tnth v70 0)) 294276))) else (some (PV.bool false))) else (some (PV.bool false)))) :=
 (z3 EE zw3 _ rfl).trans (by kernel_rfl)
theorem z10c (a0_0 a0_1 : Int) : zwk a0_0 a0_1 =
  ((zg9 a0_0 a0_1).bind fun v111 => (bif (!(PV.toB v111)) then (some (PV.tuple [(PV.int .i64 0), (PV.int .i64 0), (PV.int .i64 0), (PV.int .i64 1)])) else (bif (!(eqB a0_0 0)) then (some (PV.tuple [(PV.int .i64 0), (PV.int .i64 0), (PV.int .i64 0), (PV.int .i64 10)])) else ((zhi a0_1).bind fun v112 => (some (PV.tuple [(PV.int .i64 (PV.toI (PV.tnth v112 0))), (PV.int .i64 (PV.toI (PV.tnth v112 1))), (PV.int .i64 (PV.toI (PV.tnth v112 2))), (PV.int .i64 (PV.toI (PV.tnth v112 3)))])))))) :=
 (z3 EE z103 _ rfl).trans (by kernel_rfl)
theorem zam (a0 : List UInt8) (a1 : Int) : zb4 a0 a1 =
  (bif (eqB a1 0) then (some (PV.str [])) else (bif (eqB a1 1) then (some (PV.str a0)) else (bif (ltB a1 0) then none else (zkb a0 a1)))) :=
 (z3 EE z1d _ rfl).trans (by kernel_rfl)
theorem zrp (x0 : List UInt8) (x1 : Int) : zkb x0 x1 =
  ((z1ju (IntKind.wrap .u64 (((List.length x0) : Nat) : Int)) (IntKind.wrap .u64 x1)).bind fun v139 => (bif (ltB 0 (PV.toI (PV.tnth v139 0))) then (zin x0 (PV.toI (PV.tnth v139 1))) else (bif (ltB 9223372036854775807 (PV.toI (PV.tnth v139 1))) then (zin x0 (PV.toI (PV.tnth v139 1))) else (zim x0 (PV.toI (PV.tnth v139 1)))))) :=
 (z1 EE _ _).trans (by kernel_rfl)
theorem zo0 (x0 : List UInt8) (x1 : Int) : zim x0 x1 =
  (bif (eqB (((List.length x0) : Nat) : Int) 0) then (some (PV.str [])) else ((atS x0 0).bind fun v140 => (bif (eqB v140 32) then (z5b x0 (IntKind.wrap .i64 x1)) else (bif (eqB v140 45) then (z5b x0 (IntKind.wrap .i64 x1)) else (bif (eqB v140 48) then (z5b x0 (IntKind.wrap .i64 x1)) else (bif (eqB v140 61) then (z5b x0 (IntKind.wrap .i64 x1)) else (bif (eqB v140 9) then (z5b x0 (IntKind.wrap .i64 x1)) else (zuz x0 (IntKind.wrap .i64 x1))))))))) :=
 (z1 EE _ _).trans (by kernel_rfl)
theorem znz (x0 : List UInt8) (x1 : Int) : z5b x0 x1 =
  (bif (leB x1 128) then ((zan [32, 32, 32, 32, 32, 32, 32, 32, 32, 32, 32, 32, 32, 32, 32, 32, 32, 32, 32, 32, 32, 32, 32, 32, 32, 32, 32, 32, 32, 32, 32, 32, 32, 32, 32, 32, 32, 32, 32, 32, 32, 32, 32, 32, 32, 32, 32, 32, 32, 32, 32, 32, 32, 32, 32, 32, 32, 32, 32, 32, 32, 32, 32, 32, 32, 32, 32, 32, 32, 32, 32, 32, 32, 32, 32, 32, 32, 32, 32, 32, 32, 32, 32, 32, 32, 32, 32, 32, 32, 32, 32, 32, 32, 32, 32, 32, 32, 32, 32, 32, 32, 32, 32, 32, 32, 32, 32, 32, 32, 32, 32, 32, 32, 32, 32, 32, 32, 32, 32, 32, 32, 32, 32, 32, 32, 32, 32, 32] x0).bind fun v141 => (bif (PV.toB v141) then (zv1 x1) else (z9j x0 x1))) else (z9j x0 x1)) :=
 (z1 EE _ _).trans (by kernel_rfl)
theorem zny (x0 : List UInt8) (x1 : Int) : z9j x0 x1 =
  (bif (leB x1 128) then ((zan [45, 45, 45, 45, 45, 45, 45, 45, 45, 45, 45, 45, 45, 45, 45, 45, 45, 45, 45, 45, 45, 45, 45, 45, 45, 45, 45, 45, 45, 45, 45, 45, 45, 45, 45, 45, 45, 45, 45, 45, 45, 45, 45, 45, 45, 45, 45, 45, 45, 45, 45, 45, 45, 45, 45, 45, 45, 45, 45, 45, 45, 45, 45, 45, 45, 45, 45, 45, 45, 45, 45, 45, 45, 45, 45, 45, 45, 45, 45, 45, 45, 45, 45, 45, 45, 45, 45, 45, 45, 45, 45, 45, 45, 45, 45, 45, 45, 45, 45, 45, 45, 45, 45, 45, 45, 45, 45, 45, 45, 45, 45, 45, 45, 45, 45, 45, 45, 45, 45, 45, 45, 45, 45, 45, 45, 45, 45, 45] x0).bind fun v143 => (bif (PV.toB v143) then (zv0 x1) else (z9i x0 x1))) else (z9i x0 x1)) :=
 (z1 EE _ _).trans (by kernel_rfl)
theorem znx (x0 : List UInt8) (x1 : Int) : z9i x0 x1 =
  (bif (leB x1 64) then ((zan [48, 48, 48, 48, 48, 48, 48, 48, 48, 48, 48, 48, 48, 48, 48, 48, 48, 48, 48, 48, 48, 48, 48, 48, 48, 48, 48, 48, 48, 48, 48, 48, 48, 48, 48, 48, 48, 48, 48, 48, 48, 48, 48, 48, 48, 48, 48, 48, 48, 48, 48, 48, 48, 48, 48, 48, 48, 48, 48, 48, 48, 48, 48, 48] x0).bind fun v145 => (bif (PV.toB v145) then (zd2 x1) else (zil x0 x1))) else (zil x0 x1)) :=
 (z1 EE _ _).trans (by kernel_rfl)
theorem znw (x0 : Int) : zd2 x0 =
  ((takeS [48, 48, 48, 48, 48, 48, 48, 48, 48, 48, 48, 48, 48, 48, 48, 48, 48, 48, 48, 48, 48, 48, 48, 48, 48, 48, 48, 48, 48, 48, 48, 48, 48, 48, 48, 48, 48, 48, 48, 48, 48, 48, 48, 48, 48, 48, 48, 48, 48, 48, 48, 48, 48, 48, 48, 48, 48, 48, 48, 48, 48, 48, 48, 48] x0).bind fun v148 => (some (PV.str v148))) :=
 (z1 EE _ _).trans (by kernel_rfl)
theorem z1e8 (a0 : Int) : zdz a0 =
  (bif (leB 0 a0) then ((zcn (IntKind.wrap .u64 a0) 2).bind fun v93 => (some (PV.str (PV.toS v93)))) else ((z1a4 a0).bind fun v94 => (bif (eqB (PV.toI (PV.tnth v94 1)) 0) then ((zcn (IntKind.wrap .u64 (PV.toI (PV.tnth v94 0))) 2).bind fun v95 => ((catS [45] (PV.toS v95)).bind fun v96 => (some (PV.str v96)))) else ((zcn 9223372036854775808 2).bind fun v97 => ((catS [45] (PV.toS v97)).bind fun v98 => (some (PV.str v98))))))) :=
 (z3 EE z104 _ rfl).trans (by kernel_rfl)
theorem z1d8 (a0 : Int) : zvk a0 =
  ((z1g5 a0 86400000000).bind fun v52 => ((z1g4 a0 86400000000).bind fun v53 => (some (PV.tuple [(PV.int .i64 (PV.toI (PV.tnth v52 0))), (PV.int .i64 (PV.toI (PV.tnth v53 0)))])))) :=
 (z3 EE z100 _ rfl).trans (by kernel_rfl)
theorem day_Of_eq (a0_0 a0_1 : Int) : day_Of a0_0 a0_1 =
  ((z9c a0_0 a0_1).bind fun v55 => (bif (!(PV.toB v55)) then (some (PV.tuple [(PV.agg [(PV.int .i64 0), (PV.int .i64 0)]), (PV.int .i64 0), (PV.int .i64 1)])) else (bif (!(eqB a0_0 0)) then (some (PV.tuple [(PV.agg [(PV.int .i64 a0_0), (PV.int .i64 0)]), (PV.int .i64 0), (PV.int .i64 0)])) else ((zvk a0_1).bind fun v56 => (some (PV.tuple [(PV.agg [(PV.int .i64 0), (PV.int .i64 (PV.toI (PV.tnth v56 0)))]), (PV.int .i64 (PV.toI (PV.tnth v56 1))), (PV.int .i64 0)])))))) :=
 (z3 EE z1du _ rfl).trans (by kernel_rfl)
theorem z1b3 (a0 : Int) : zyj a0 =
  ((zcm a0 86400000000).bind fun v71 => (bif (!(PV.toB v71)) then (some (PV.tuple [(PV.str []), (PV.int .i64 10)])) else ((zl7 (IntKind.wrap .u64 a0)).bind fun v72 => (some (PV.tuple [(PV.str (PV.toS v72)), (PV.int .i64 0)]))))) :=
 (z3 EE zw6 _ rfl).trans (by kernel_rfl)
theorem zuy (a0 : List UInt8) (a1 : List UInt8) : znv a0 a1 =
  ((zal a0 a1).bind fun v113 => (bif (leB 0 (PV.toI v113)) then ((takeS a0 (PV.toI v113)).bind fun v114 => ((dropS a0 (IntKind.wrap .i64 ((PV.toI v113) + (((List.length a1) : Nat) : Int)))).bind fun v115 => (some (PV.tuple [(PV.str v114), (PV.str v115), (PV.bool true)])))) else (some (PV.tuple [(PV.str a0), (PV.str []), (PV.bool false)])))) :=
 (z3 EE zj3 _ rfl).trans (by kernel_rfl)
theorem z15y (a0 : List UInt8) : zle a0 =
  (z7o a0 0 0 a0 0) :=
 (z3 EE zba _ rfl).trans (by kernel_rfl)
theorem zai (x0 : List UInt8) (x1 x2 : Int) (x3 : List UInt8) (x4 : Nat) : z7o x0 x1 x2 x3 x4 =
  (bif (ltN x4 (List.length x3)) then ((zk8 ((((decR x3 x4).1) : Nat) : Int)).bind fun v156 => (bif (!(eqB (PV.toI v156) 1)) then (some (PV.tuple [(PV.int .i64 0), (PV.int .i64 13)])) else (bif (eqB x2 0) then ((z1a5 x1 10).bind fun v157 => (zjj x0 (PV.toI (PV.tnth v157 0)) (PV.toI (PV.tnth v157 1)) ((((decR x3 x4).1) : Nat) : Int) x3 (x4 + ((decR x3 x4).2)))) else (zjj x0 x1 x2 ((((decR x3 x4).1) : Nat) : Int) x3 (x4 + ((decR x3 x4).2)))))) else (bif (eqS x0 []) then (some (PV.tuple [(PV.int .i64 0), (PV.int .i64 13)])) else (some (PV.tuple [(PV.int .i64 x1), (PV.int .i64 x2)])))) :=
 (z1 EE _ _).trans (by kernel_rfl)
theorem zeu (x0 : List UInt8) (x1 x2 x3 : Int) (x4 : List UInt8) (x5 : Nat) : zjj x0 x1 x2 x3 x4 x5 =
  (bif (eqB x2 0) then ((z1a6 x1 (IntKind.wrap .i64 (IntKind.wrap .i32 (x3 - 48)))).bind fun v158 => (z7o x0 (PV.toI (PV.tnth v158 0)) (PV.toI (PV.tnth v158 1)) x4 x5)) else (z7o x0 x1 x2 x4 x5)) :=
 (z1 EE _ _).trans (by kernel_rfl)
theorem z1ks (a0 a1 : Int) : z1a5 a0 a1 =
  ((zlx a0 a1).bind fun v99 => ((zhg (!((ltB a0 0) == (ltB a1 0))) (PV.toI (PV.nth v99 0)) (PV.toI (PV.nth v99 1))).bind fun v100 => (some (PV.tuple [(PV.int .i64 (PV.toI (PV.tnth v100 0))), (PV.int .i64 (PV.toI (PV.tnth v100 1)))])))) :=
 (z3 EE z180 _ rfl).trans (by kernel_rfl)
theorem z1kv (a0 a1 : Int) : z1a6 a0 a1 =
  (bif (!((ltB a0 (IntKind.wrap .i64 (a0 + a1))) == (ltB 0 a1))) then (some (PV.tuple [(PV.int .i64 0), (PV.int .i64 10)])) else (some (PV.tuple [(PV.int .i64 (IntKind.wrap .i64 (a0 + a1))), (PV.int .i64 0)]))) :=
 (z3 EE z183 _ rfl).trans (by kernel_rfl)
theorem zfk (a0 : List UInt8) (a1 : List UInt8) : z7b a0 a1 =
  ((zed a0 a1).bind fun v73 => (some (PV.str (PV.toS v73)))) :=
 (z3 EE zfw _ rfl).trans (by kernel_rfl)
theorem z10p (a0 : List UInt8) (a1 : List UInt8) : zh2 a0 a1 =
  ((zmi a0 a1 0 (-1)).bind fun v116 => (some (PV.sl 1 (PV.toL v116)))) :=
 (z3 EE zmo _ rfl).trans (by kernel_rfl)
theorem z16h (a0 : List UInt8) : z7r a0 =
  ((zle a0).bind fun v159 => (some (PV.int .i64 (PV.toI (PV.tnth v159 0))))) :=
 (z3 EE zss _ rfl).trans (by kernel_rfl)
theorem znd (a0 a1 a2 : Int) : zc4 a0 a1 a2 =
  (bif (leB (-4718) a0) then (bif (leB a0 294282) then (bif (leB 1 a1) then (bif (leB a1 12) then (bif (leB 1 a2) then ((z4v a0 a1).bind fun v101 => (some (PV.bool (leB a2 (PV.toI v101))))) else (some (PV.bool false))) else (some (PV.bool false))) else (some (PV.bool false))) else (some (PV.bool false))) else (some (PV.bool false))) :=
 (z3 EE zei _ rfl).trans (by kernel_rfl)
theorem zrx (a0 a1 a2 : Int) : z8e a0 a1 a2 =
  ((zc3 a0).bind fun v54 => (z85 a0 a1 (IntKind.wrap .i64 ((IntKind.wrap .i64 ((PV.toI v54) + a2)) - 1)) 1)) :=
 (z3 EE z82 _ rfl).trans (by kernel_rfl)
theorem zdv (x0 x1 x2 x3 : Int) : z85 x0 x1 x2 x3 =
  (bif (ltB x3 x1) then ((z4v x0 x3).bind fun v55 => (z85 x0 x1 (IntKind.wrap .i64 (x2 + (PV.toI v55))) (IntKind.wrap .i64 (x3 + 1)))) else (some (PV.int .i64 x2))) :=
 (z1 EE _ _).trans (by kernel_rfl)
theorem zpc (a0 : Int) : z9s a0 =
  ((zf5 a0).bind fun v58 => (bif (!(PV.toB v58)) then (some (PV.tuple [(PV.int .i64 0), (PV.int .i64 0), (PV.int .i64 0), (PV.int .i64 10)])) else ((zav a0 146097).bind fun v59 => ((z4u a0 146097).bind fun v60 => (z7n (IntKind.wrap .i64 (2000 + (IntKind.wrap .i64 ((PV.toI v59) * 400)))) (PV.toI v60)))))) :=
 (z3 EE z3n _ rfl).trans (by kernel_rfl)
theorem zl6 (x0 x1 : Int) : z7n x0 x1 =
  ((z7l x0).bind fun v61 => (bif (PV.toB v61) then (z7m x0 x1 366) else (z7m x0 x1 365))) :=
 (z1 EE _ _).trans (by kernel_rfl)
theorem zl5 (x0 x1 x2 : Int) : z7m x0 x1 x2 =
  (bif (ltB x1 x2) then (z6x x0 x1 1) else (z7n (IntKind.wrap .i64 (x0 + 1)) (IntKind.wrap .i64 (x1 - x2)))) :=
 (z1 EE _ _).trans (by kernel_rfl)
theorem zbm (x0 x1 x2 : Int) : z6x x0 x1 x2 =
  ((z4v x0 x2).bind fun v62 => (bif (leB (PV.toI v62) x1) then ((z4v x0 x2).bind fun v63 => (z6x x0 (IntKind.wrap .i64 (x1 - (PV.toI v63))) (IntKind.wrap .i64 (x2 + 1)))) else (some (PV.tuple [(PV.int .i64 x0), (PV.int .i64 x2), (PV.int .i64 (IntKind.wrap .i64 (x1 + 1))), (PV.int .i64 0)])))) :=
 (z1 EE _ _).trans (by kernel_rfl)
theorem z18q (a0 : List UInt8) : zhd a0 =
  ((zxb a0 [(PV.str [74, 97, 110, 117, 97, 114, 121]), (PV.str [70, 101, 98, 114, 117, 97, 114, 121]), (PV.str [77, 97, 114, 99, 104]), (PV.str [65, 112, 114, 105, 108]), (PV.str [77, 97, 121]), (PV.str [74, 117, 110, 101]), (PV.str [74, 117, 108, 121]), (PV.str [65, 117, 103, 117, 115, 116]), (PV.str [83, 101, 112, 116, 101, 109, 98, 101, 114]), (PV.str [79, 99, 116, 111, 98, 101, 114]), (PV.str [78, 111, 118, 101, 109, 98, 101, 114]), (PV.str [68, 101, 99, 101, 109, 98, 101, 114])]).bind fun v74 => (some (PV.int .i64 (IntKind.wrap .i64 ((PV.toI v74) + 1))))) :=
 (z3 EE zvt _ rfl).trans (by kernel_rfl)
theorem z1b7 (a0 : Int) : zym a0 =
  (bif (eqB (Int.tmod a0 4) 0) then (bif (!(eqB (Int.tmod a0 100) 0)) then (some (PV.bool true)) else (some (PV.bool (eqB (Int.tmod a0 400) 0)))) else (some (PV.bool false))) :=
 (z3 EE zw8 _ rfl).trans (by kernel_rfl)
theorem z16q (a0 a1 a2 : Int) : zu7 a0 a1 a2 =
  (bif (leB (-4718) a0) then (bif (leB a0 294282) then (bif (leB 1 a2) then ((zi3 a0 a1).bind fun v160 => (some (PV.bool (leB a2 (PV.toI v160))))) else (some (PV.bool false))) else (some (PV.bool false))) else (some (PV.bool false))) :=
 (z3 EE zsz _ rfl).trans (by kernel_rfl)
theorem zpe (a0 a1 a2 : Int) : zpf a0 a1 a2 =
  (bif (leB a1 2) then (zjg (IntKind.wrap .i64 (a0 - 1)) (IntKind.wrap .i64 (a1 + 12)) a2) else (zjg a0 a1 a2)) :=
 (z3 EE zja _ rfl).trans (by kernel_rfl)
theorem zi1 (x0 x1 x2 : Int) : zjg x0 x1 x2 =
  ((zmd x0 400).bind fun v102 => (some (PV.int .i64 (IntKind.wrap .i64 ((IntKind.wrap .i64 ((IntKind.wrap .i64 ((IntKind.wrap .i64 ((IntKind.wrap .i64 ((IntKind.wrap .i64 ((IntKind.wrap .i64 ((IntKind.wrap .i64 ((PV.toI (PV.tnth v102 0)) * 146097)) + (IntKind.wrap .i64 ((PV.toI (PV.tnth v102 1)) * 365)))) + (IntKind.wrap .i64 (Int.tdiv (PV.toI (PV.tnth v102 1)) 4)))) - (IntKind.wrap .i64 (Int.tdiv (PV.toI (PV.tnth v102 1)) 100)))) + (IntKind.wrap .i64 (Int.tdiv (IntKind.wrap .i64 ((IntKind.wrap .i64 (153 * (IntKind.wrap .i64 (x1 - 3)))) + 2)) 5)))) + x2)) - 1)) - 730425))))) :=
 (z1 EE _ _).trans (by kernel_rfl)
theorem zm6 (a0 : List UInt8) (a1 a2 : Int) : z16 a0 a1 a2 =
  (bif (leB a1 (((List.length a0) : Nat) : Int)) then (z8z a0 (leB (((List.length a0) : Nat) : Int) a2)) else (z8z a0 false)) :=
 (z3 EE z43 _ rfl).trans (by kernel_rfl)
theorem zig (x0 : List UInt8) (x1 : Bool) : z8z x0 x1 =
  (z32 x0 x1 0) :=
 (z1 EE _ _).trans (by kernel_rfl)
theorem zax (x0 : List UInt8) (x1 : Bool) (x2 : Int) : z32 x0 x1 x2 =
  (bif (ltB x2 (((List.length x0) : Nat) : Int)) then (bif x1 then ((atS x0 x2).bind fun v56 => (bif (leB 48 v56) then ((atS x0 x2).bind fun v57 => (z32 x0 (leB v57 57) (IntKind.wrap .i64 (x2 + 1)))) else (z32 x0 false (IntKind.wrap .i64 (x2 + 1))))) else (z32 x0 false (IntKind.wrap .i64 (x2 + 1)))) else (some (PV.bool x1))) :=
 (z1 EE _ _).trans (by kernel_rfl)
theorem zm4 (a0 : List UInt8) : z1i a0 =
  ((zb2 a0).bind fun v64 => (some (PV.int .i64 (PV.toI (PV.tnth v64 0))))) :=
 (z3 EE zdm _ rfl).trans (by kernel_rfl)
theorem zn5 (a0 : List UInt8) (a1 : Int) : zbz a0 a1 =
  (z4k a0 a1 0 [(PV.str [])] 1) :=
 (z3 EE z4g _ rfl).trans (by kernel_rfl)
theorem zbd (x0 : List UInt8) (x1 x2 : Int) (x3 : List PV) (x4 : Nat) : z4k x0 x1 x2 x3 x4 =
  (bif (ltB x2 (((List.length x0) : Nat) : Int)) then ((atS x0 x2).bind fun v75 => (bif (eqB v75 x1) then ((appL 16 x3 [(PV.str [])]).bind fun v76 => (bif (leN (List.length v76) x4) then (z4k x0 x1 (IntKind.wrap .i64 (x2 + 1)) v76 x4) else (z3p x0 x1 (IntKind.wrap .i64 (x2 + 1)) v76))) else (bif (inB 0 (IntKind.wrap .i64 ((((List.length x3) : Nat) : Int) - 1)) (((List.length x3) : Nat) : Int)) then ((rdT tiStr x3 (Int.toNat (IntKind.wrap .i64 ((((List.length x3) : Nat) : Int) - 1))) 0).bind fun v77 => ((subS x0 x2 (IntKind.wrap .i64 (x2 + 1))).bind fun v78 => ((catS (PV.toS v77) v78).bind fun v79 => (bif (inB 0 (IntKind.wrap .i64 ((((List.length x3) : Nat) : Int) - 1)) (((List.length x3) : Nat) : Int)) then ((stC x3 (Int.toNat (IntKind.wrap .i64 ((((List.length x3) : Nat) : Int) - 1))) 0 [(PV.str v79)]).bind fun v80 => (z4k x0 x1 (IntKind.wrap .i64 (x2 + 1)) v80 x4)) else none)))) else none))) else (some (PV.sl 1 x3))) :=
 (z1 EE _ _).trans (by kernel_rfl)
theorem zaa (x0 : List UInt8) (x1 x2 : Int) (x3 : List PV) : z3p x0 x1 x2 x3 =
  (bif (ltB x2 (((List.length x0) : Nat) : Int)) then ((atS x0 x2).bind fun v81 => (bif (eqB v81 x1) then ((appL 16 x3 [(PV.str [])]).bind fun v82 => (z3p x0 x1 (IntKind.wrap .i64 (x2 + 1)) v82)) else (bif (inB 0 (IntKind.wrap .i64 ((((List.length x3) : Nat) : Int) - 1)) (((List.length x3) : Nat) : Int)) then ((rdT tiStr x3 (Int.toNat (IntKind.wrap .i64 ((((List.length x3) : Nat) : Int) - 1))) 0).bind fun v83 => ((subS x0 x2 (IntKind.wrap .i64 (x2 + 1))).bind fun v84 => ((catS (PV.toS v83) v84).bind fun v85 => (bif (inB 0 (IntKind.wrap .i64 ((((List.length x3) : Nat) : Int) - 1)) (((List.length x3) : Nat) : Int)) then ((stC x3 (Int.toNat (IntKind.wrap .i64 ((((List.length x3) : Nat) : Int) - 1))) 0 [(PV.str v85)]).bind fun v86 => (z3p x0 x1 (IntKind.wrap .i64 (x2 + 1)) v86)) else none)))) else none))) else (some (PV.sl 1 x3))) :=
 (z1 EE _ _).trans (by kernel_rfl)
theorem zp4 (a0 : List UInt8) : zds a0 =
  ((z16 a0 3 6).bind fun v117 => (bif (PV.toB v117) then ((z1i a0).bind fun v118 => (some (PV.int .i64 (PV.toI v118)))) else ((z16 a0 1 2).bind fun v119 => (bif (!(PV.toB v119)) then (some (PV.int .i64 0)) else ((z1i a0).bind fun v120 => (bif (ltB (PV.toI v120) 70) then (some (PV.int .i64 (IntKind.wrap .i64 (2000 + (PV.toI v120))))) else (some (PV.int .i64 (IntKind.wrap .i64 (1900 + (PV.toI v120))))))))))) :=
 (z3 EE zg0 _ rfl).trans (by kernel_rfl)
theorem zn9 (a0 : List UInt8) (a1 : List PV) : zc2 a0 a1 =
  (z4m a0 a1 0) :=
 (z3 EE z4i _ rfl).trans (by kernel_rfl)
theorem z7w (x0 : List UInt8) (x1 : List PV) (x2 : Int) : z4m x0 x1 x2 =
  (bif (ltB x2 (((List.length x1) : Nat) : Int)) then (bif (leB 3 (((List.length x0) : Nat) : Int)) then (zer x0 x1 x2) else (some (PV.int .i64 (-1)))) else (some (PV.int .i64 (-1)))) :=
 (z1 EE _ _).trans (by kernel_rfl)
theorem zk0 (x0 : List UInt8) (x1 : List PV) (x2 : Int) : zer x0 x1 x2 =
  ((rdI tiStr x1 x2).bind fun v161 => (bif (leB (((List.length x0) : Nat) : Int) (((List.length (PV.toS v161)) : Nat) : Int)) then ((rdI tiStr x1 x2).bind fun v162 => ((takeS (PV.toS v162) (((List.length x0) : Nat) : Int)).bind fun v163 => ((z1l x0 v163).bind fun v164 => (bif (PV.toB v164) then (some (PV.int .i64 x2)) else (z4m x0 x1 (IntKind.wrap .i64 (x2 + 1))))))) else (z4m x0 x1 (IntKind.wrap .i64 (x2 + 1))))) :=
 (z1 EE _ _).trans (by kernel_rfl)
theorem zp9 (a0 : Int) : z7l a0 =
  ((z4u a0 4).bind fun v103 => (bif (eqB (PV.toI v103) 0) then ((z4u a0 100).bind fun v104 => (bif (!(eqB (PV.toI v104) 0)) then (some (PV.bool true)) else ((z4u a0 400).bind fun v105 => (some (PV.bool (eqB (PV.toI v105) 0)))))) else (some (PV.bool false)))) :=
 (z3 EE zg3 _ rfl).trans (by kernel_rfl)
theorem z19x (a0 : Int) : zcc a0 =
  (bif (leB 48 a0) then (some (PV.bool (leB a0 57))) else (some (PV.bool false))) :=
 (z3 EE zw0 _ rfl).trans (by kernel_rfl)
theorem zfo (a0 : List PV) : z6d a0 =
  (z51 a0 0 a0 (((List.length a0) : Nat) : Int) 0) :=
 (z3 EE zq _ rfl).trans (by kernel_rfl)
theorem z3z (x0 : List PV) (x1 : Int) (x2 : List PV) (x3 x4 : Int) : z51 x0 x1 x2 x3 x4 =
  (bif (ltB x4 x3) then ((rdI (EE.ti z2) x2 x4).bind fun v65 => (bif (ltB (IntKind.wrap .i64 (x1 + (((List.length (PV.toL v65)) : Nat) : Int))) 0) then none else (z8o x0 (IntKind.wrap .i64 (x1 + (((List.length (PV.toL v65)) : Nat) : Int))) x2 x3 x4))) else (bif (ltB x1 0) then none else (z1y x1 x0 x1 x1))) :=
 (z1 EE _ _).trans (by kernel_rfl)
theorem z7c (x0 : List PV) (x1 : Int) (x2 : List PV) (x3 x4 : Int) : z8o x0 x1 x2 x3 x4 =
  (z51 x0 x1 x2 x3 (IntKind.wrap .i64 (x4 + 1))) :=
 (z1 EE _ _).trans (by kernel_rfl)
theorem z3v (x0 : Int) (x1 : List PV) (x2 x3 : Int) : z1y x0 x1 x2 x3 =
  (bif (ltB 0 (IntKind.wrap .i64 (x0 - (IntKind.wrap .i64 (0 - 0))))) then (bif (decide ((0 ≤ (IntKind.wrap .i64 (x0 - (IntKind.wrap .i64 (0 - 0))))) ∧ (((IntKind.wrap .i64 (x0 - (IntKind.wrap .i64 (0 - 0)))) * ((16 : Nat) : Int)) ≤ (HPow.hPow (2 : Int) 46)))) then (z89 x1 0 0 (List.replicate (Int.toNat (IntKind.wrap .i64 (x0 - (IntKind.wrap .i64 (0 - 0))))) (PV.str []))) else none) else (zdh x1)) :=
 (z1 EE _ _).trans (by kernel_rfl)
theorem zcq (x0 : List PV) (x1 : Nat) (x2 : Nat) (x3 : List PV) : z89 x0 x1 x2 x3 =
  (z4p x1 x2 x0 (((List.length x0) : Nat) : Int) 0 x3) :=
 (z1 EE _ _).trans (by kernel_rfl)
theorem z3t (x0 : Nat) (x1 : Nat) (x2 : List PV) (x3 x4 : Int) (x5 : List PV) : z4p x0 x1 x2 x3 x4 x5 =
  (bif (ltB x4 x3) then ((rdI (EE.ti z2) x2 x4).bind fun v66 => (bif (true && (leN ((x0 + x1) + (List.length (PV.toL v66))) (List.length x5))) then (z4p x0 (x1 + (List.length (PV.toL v66))) x2 x3 (IntKind.wrap .i64 (x4 + 1)) ((List.take (x0 + x1) x5) ++ ((PV.toL v66) ++ (List.drop ((x0 + x1) + (List.length (PV.toL v66))) x5)))) else ((appL 16 (List.take x1 (List.drop x0 x5)) (PV.toL v66)).bind fun v67 => (zdg x2 x3 (IntKind.wrap .i64 (x4 + 1)) v67 (0 - x0))))) else (some (PV.sl 1 (List.take x1 (List.drop x0 x5))))) :=
 (z1 EE _ _).trans (by kernel_rfl)
theorem zwo (a0_0 a0_1 : Int) : z3g a0_0 a0_1 =
  (bif (eqB a0_1 1) then (some (PV.bool true)) else (some (PV.bool (eqB a0_1 2)))) :=
 (z3 EE zj9 _ rfl).trans (by kernel_rfl)
theorem zwn (a0_0 a0_1 : Int) : z2e a0_0 a0_1 =
  (some (PV.bool (eqB a0_1 2))) :=
 (z3 EE zj8 _ rfl).trans (by kernel_rfl)
theorem z1b5 (a0 a1 a2 a3 : Int) : zrl a0 a1 a2 a3 =
  ((zcm a0 24).bind fun v72 => (bif (!(PV.toB v72)) then ze4 else ((zcm a1 59).bind fun v73 => (bif (!(PV.toB v73)) then ze4 else ((zcm a2 59).bind fun v74 => (bif (!(PV.toB v74)) then ze4 else ((zcm a3 999999).bind fun v75 => (bif (!(PV.toB v75)) then ze4 else (zws a0 a1 a2 a3))))))))) :=
 (z3 EE zdo _ rfl).trans (by kernel_rfl)
theorem z114  : ze4  =
  (some (PV.tuple [(PV.int .i64 0), (PV.int .i64 10)])) :=
 (z1 EE _ _).trans (by kernel_rfl)
theorem z113 (x0 x1 x2 x3 : Int) : zws x0 x1 x2 x3 =
  (bif (ltB 86400000000 (IntKind.wrap .i64 ((IntKind.wrap .i64 ((IntKind.wrap .i64 ((IntKind.wrap .i64 (x0 * 3600000000)) + (IntKind.wrap .i64 (x1 * 60000000)))) + (IntKind.wrap .i64 (x2 * 1000000)))) + x3))) then (some (PV.tuple [(PV.int .i64 0), (PV.int .i64 10)])) else (some (PV.tuple [(PV.int .i64 (IntKind.wrap .i64 ((IntKind.wrap .i64 ((IntKind.wrap .i64 ((IntKind.wrap .i64 (x0 * 3600000000)) + (IntKind.wrap .i64 (x1 * 60000000)))) + (IntKind.wrap .i64 (x2 * 1000000)))) + x3))), (PV.int .i64 0)]))) :=
 (z1 EE _ _).trans (by kernel_rfl)
theorem zac (a0 a1 a2 a3 : Int) : z9r a0 a1 a2 a3 =
  (bif (ltB a0 0) then z1a else (bif (ltB 24 a0) then z1a else (bif (ltB a1 0) then z1a else (bif (ltB 59 a1) then z1a else (bif (ltB a2 0) then z1a else (bif (ltB 59 a2) then z1a else (bif (ltB a3 0) then z1a else (bif (ltB 999999 a3) then z1a else (zad a0 a1 a2 a3))))))))) :=
 (z3 EE z55 _ rfl).trans (by kernel_rfl)
theorem z8d  : z1a  =
  (some (PV.tuple [(PV.int .i64 0), (PV.int .i64 10)])) :=
 (z1 EE _ _).trans (by kernel_rfl)
theorem z8c (x0 x1 x2 x3 : Int) : zad x0 x1 x2 x3 =
  (bif (ltB 86400000000 (IntKind.wrap .i64 ((IntKind.wrap .i64 ((IntKind.wrap .i64 ((IntKind.wrap .i64 ((IntKind.wrap .i64 (x0 * 3600)) + (IntKind.wrap .i64 (x1 * 60)))) + x2)) * 1000000)) + x3))) then (some (PV.tuple [(PV.int .i64 0), (PV.int .i64 10)])) else (some (PV.tuple [(PV.int .i64 (IntKind.wrap .i64 ((IntKind.wrap .i64 ((IntKind.wrap .i64 ((IntKind.wrap .i64 ((IntKind.wrap .i64 (x0 * 3600)) + (IntKind.wrap .i64 (x1 * 60)))) + x2)) * 1000000)) + x3))), (PV.int .i64 0)]))) :=
 (z1 EE _ _).trans (by kernel_rfl)
theorem z9f (a0_0 a0_1 : Int) : z92 a0_0 a0_1 =
  (bif (eqB a0_0 0) then ((z48 a0_1).bind fun v106 => (some (PV.bool (PV.toB v106)))) else (bif (eqB a0_0 (-1)) then (some (PV.bool (eqB a0_1 0))) else (bif (eqB a0_0 1) then (some (PV.bool (eqB a0_1 0))) else (some (PV.bool false))))) :=
 (z3 EE zef _ rfl).trans (by kernel_rfl)
theorem z1kq (a0 a1 : Int) : num_Sub a0 a1 =
  (bif (!((ltB (IntKind.wrap .i64 (a0 - a1)) a0) == (ltB 0 a1))) then (some (PV.tuple [(PV.int .i64 0), (PV.int .i64 10)])) else (some (PV.tuple [(PV.int .i64 (IntKind.wrap .i64 (a0 - a1))), (PV.int .i64 0)]))) :=
 (z3 EE z17y _ rfl).trans (by kernel_rfl)
theorem z1b2 (a0 : Int) : zl7 a0 =
  ((z156 a0).bind fun v76 => ((zdz (PV.toI (PV.tnth v76 0))).bind fun v77 => ((catS (PV.toS v77) [58]).bind fun v78 => ((zdz (PV.toI (PV.tnth v76 1))).bind fun v79 => ((catS v78 (PV.toS v79)).bind fun v80 => ((catS v80 [58]).bind fun v81 => ((zdz (PV.toI (PV.tnth v76 2))).bind fun v82 => ((catS v81 (PV.toS v82)).bind fun v83 => ((zfe (PV.toI (PV.tnth v76 3))).bind fun v84 => ((catS v83 (PV.toS v84)).bind fun v85 => (some (PV.str v85)))))))))))) :=
 (z3 EE zw5 _ rfl).trans (by kernel_rfl)
theorem zhn (a0 : List PV) (a1 : List UInt8) : zo1 a0 a1 =
  (bif (eqB (((List.length a0) : Nat) : Int) 0) then (some (PV.str [])) else (bif (eqB (((List.length a0) : Nat) : Int) 1) then ((rdI tiStr a0 0).bind fun v116 => (some (PV.str (PV.toS v116)))) else (bif (ltB 0 (((List.length a1) : Nat) : Int)) then (bif (eqB (IntKind.wrap .i64 ((((List.length a0) : Nat) : Int) - 1)) 0) then none else (bif (leB (IntKind.wrap .i64 (Int.tdiv 9223372036854775807 (IntKind.wrap .i64 ((((List.length a0) : Nat) : Int) - 1)))) (((List.length a1) : Nat) : Int)) then none else (zmk a0 a1 0))) else (zgk a0 a1 0)))) :=
 (z3 EE z2w _ rfl).trans (by kernel_rfl)
theorem zta (x0 : List PV) (x1 : List UInt8) (x2 : Int) : zmk x0 x1 x2 =
  (zgk x0 x1 (IntKind.wrap .i64 (x2 + (IntKind.wrap .i64 ((((List.length x1) : Nat) : Int) * (IntKind.wrap .i64 ((((List.length x0) : Nat) : Int) - 1))))))) :=
 (z1 EE _ _).trans (by kernel_rfl)
theorem zt9 (x0 : List PV) (x1 : List UInt8) (x2 : Int) : zgk x0 x1 x2 =
  (zbq x0 x1 x2 x0 (((List.length x0) : Nat) : Int) 0) :=
 (z1 EE _ _).trans (by kernel_rfl)
theorem zhp (x0 : List PV) (x1 : List UInt8) (x2 : Int) (x3 : List PV) (x4 x5 : Int) : zbq x0 x1 x2 x3 x4 x5 =
  (bif (ltB x5 x4) then ((rdI tiStr x3 x5).bind fun v117 => (bif (ltB (IntKind.wrap .i64 (9223372036854775807 - x2)) (((List.length (PV.toS v117)) : Nat) : Int)) then none else (zmj x0 x1 x2 (PV.toS v117) x3 x4 x5))) else (bif (ltB x2 0) then none else (bif (ltB (IntKind.wrap .i64 (0 - 0)) x2) then (bif (decide ((0 ≤ (IntKind.wrap .i64 ((IntKind.wrap .i64 (2 * 0)) + x2))) ∧ ((IntKind.wrap .i64 ((IntKind.wrap .i64 (2 * 0)) + x2)) ≤ 281474976710656))) then (zgj x0 x1 []) else none) else (zio x0 x1)))) :=
 (z1 EE _ _).trans (by kernel_rfl)
theorem zt8 (x0 : List PV) (x1 : List UInt8) (x2 : Int) (x3 : List UInt8) (x4 : List PV) (x5 x6 : Int) : zmj x0 x1 x2 x3 x4 x5 x6 =
  (zbq x0 x1 (IntKind.wrap .i64 (x2 + (((List.length x3) : Nat) : Int))) x4 x5 (IntKind.wrap .i64 (x6 + 1))) :=
 (z1 EE _ _).trans (by kernel_rfl)
theorem zt7 (x0 : List PV) (x1 : List UInt8) (x2 : List PV) : zgj x0 x1 x2 =
  ((rdI tiStr x0 0).bind fun v118 => ((appL 1 x2 (List.map byteV (PV.toS v118))).bind fun v119 => (zgi x0 x1 v119))) :=
 (z1 EE _ _).trans (by kernel_rfl)
theorem zt6 (x0 : List PV) (x1 : List UInt8) (x2 : List PV) : zgi x0 x1 x2 =
  ((dropS x0 1).bind fun v122 => (zbp x1 v122 (((List.length v122) : Nat) : Int) 0 x2)) :=
 (z1 EE _ _).trans (by kernel_rfl)
theorem zho (x0 : List UInt8) (x1 : List PV) (x2 x3 : Int) (x4 : List PV) : zbp x0 x1 x2 x3 x4 =
  (bif (ltB x3 x2) then ((rdI tiStr x1 x3).bind fun v123 => ((appL 1 x4 (List.map byteV x0)).bind fun v124 => ((appL 1 v124 (List.map byteV (PV.toS v123))).bind fun v125 => (zbp x0 x1 x2 (IntKind.wrap .i64 (x3 + 1)) v125)))) else (bif (isNilL x4) then none else (bif (true && (!(isNilL x4))) then (bif (decide (((((List.length x4) : Nat) : Int) = (((List.length x4) : Nat) : Int)) ∧ ((((List.length x4) : Nat) : Int) ≤ 9223372036854775807))) then ((zag x4).bind fun v126 => (some (PV.str v126))) else none) else none))) :=
 (z1 EE _ _).trans (by kernel_rfl)
theorem z16b (a0 : Int) : z2t a0 =
  (bif (ltB a0 0) then ((z7p (IntKind.wrap .i64 (0 - a0))).bind fun v139 => ((z1b [(PV.str [45]), (PV.str (PV.toS v139))]).bind fun v140 => (some (PV.str (PV.toS v140))))) else ((z7p a0).bind fun v141 => (some (PV.str (PV.toS v141))))) :=
 (z3 EE zso _ rfl).trans (by kernel_rfl)
theorem zyl (a0 : Int) : zfe a0 =
  (bif (leB a0 0) then zf7 else (bif (ltB 999999 a0) then zf7 else (zl9 a0))) :=
 (z3 EE z5z _ rfl).trans (by kernel_rfl)
theorem zh1  : zf7  =
  (some (PV.str [])) :=
 (z1 EE _ _).trans (by kernel_rfl)
theorem zs0 (x0 : Int) : zl9 x0 =
  ((zcn (IntKind.wrap .u64 x0) 6).bind fun v179 => (z8h (PV.toS v179) 0 (PV.toS v179) 0)) :=
 (z1 EE _ _).trans (by kernel_rfl)
theorem zh0 (x0 : List UInt8) (x1 : Int) (x2 : List UInt8) (x3 : Nat) : z8h x0 x1 x2 x3 =
  (bif (ltN x3 (List.length x2)) then (bif (!(eqB ((((decR x2 x3).1) : Nat) : Int) 48)) then (z8h x0 (IntKind.wrap .i64 (((x3 : Nat) : Int) + 1)) x2 (x3 + ((decR x2 x3).2))) else (z8h x0 x1 x2 (x3 + ((decR x2 x3).2)))) else ((takeS x0 x1).bind fun v180 => ((catS [46] v180).bind fun v181 => (some (PV.str v181))))) :=
 (z1 EE _ _).trans (by kernel_rfl)
theorem zhb (a0 : Int) : zhi a0 =
  ((zwt a0).bind fun v107 => (bif (!(PV.toB v107)) then (some (PV.tuple [(PV.int .i64 0), (PV.int .i64 0), (PV.int .i64 0), (PV.int .i64 10)])) else ((zmc a0).bind fun v108 => (some (PV.tuple [(PV.int .i64 (PV.toI (PV.tnth v108 0))), (PV.int .i64 (PV.toI (PV.tnth v108 1))), (PV.int .i64 (PV.toI (PV.tnth v108 2))), (PV.int .i64 0)]))))) :=
 (z3 EE zwb _ rfl).trans (by kernel_rfl)
theorem z1h6 (a0 a1 : Int) : z1ju a0 a1 =
  ((zrm a0 a1).bind fun v58 => (some (PV.tuple [(PV.int .u64 (PV.toI (PV.tnth v58 0))), (PV.int .u64 (PV.toI (PV.tnth v58 1)))]))) :=
 (z3 EE z14o _ rfl).trans (by kernel_rfl)
theorem zb0 (a0 : List UInt8) (a1 : List UInt8) : zan a0 a1 =
  ((z9t a0 a1).bind fun v86 => (some (PV.bool (PV.toB v86)))) :=
 (z3 EE zgw _ rfl).trans (by kernel_rfl)
theorem z157 (a0 a1 : Int) : zcn a0 a1 =
  (zaf a0 a1 20 [(PV.int .u8 0), (PV.int .u8 0), (PV.int .u8 0), (PV.int .u8 0), (PV.int .u8 0), (PV.int .u8 0), (PV.int .u8 0), (PV.int .u8 0), (PV.int .u8 0), (PV.int .u8 0), (PV.int .u8 0), (PV.int .u8 0), (PV.int .u8 0), (PV.int .u8 0), (PV.int .u8 0), (PV.int .u8 0), (PV.int .u8 0), (PV.int .u8 0), (PV.int .u8 0), (PV.int .u8 0)] 20) :=
 (z3 EE za7 _ rfl).trans (by kernel_rfl)
theorem zdy (x0 x1 x2 : Int) (x3 : List PV) (x4 : Nat) : zaf x0 x1 x2 x3 x4 =
  (bif (ltB 0 x0) then (zdx x0 x1 x2 x3 x4) else (bif (ltB (IntKind.wrap .i64 (20 - x1)) x2) then (zdx x0 x1 x2 x3 x4) else (bif (eqN (List.length x3) 20) then (bif (eqN x4 20) then (bif (decide ((0 ≤ x2) ∧ (x2 ≤ ((20 : Nat) : Int)))) then ((zag (List.take (20 - (Int.toNat x2)) (List.drop (Int.toNat x2) x3))).bind fun v59 => (some (PV.str v59))) else none) else none) else none))) :=
 (z1 EE _ _).trans (by kernel_rfl)
theorem zwp (x0 x1 x2 : Int) (x3 : List PV) (x4 : Nat) : zdx x0 x1 x2 x3 x4 =
  (bif (inB 0 (IntKind.wrap .i64 (x2 - 1)) ((20 : Nat) : Int)) then ((stC x3 (Int.toNat (IntKind.wrap .i64 (x2 - 1))) 0 [(PV.int .u8 (IntKind.wrap .u8 (IntKind.wrap .u64 (48 + (Int.tmod x0 10)))))]).bind fun v60 => (zaf (IntKind.wrap .u64 (Int.tdiv x0 10)) x1 (IntKind.wrap .i64 (x2 - 1)) v60 x4)) else none) :=
 (z1 EE _ _).trans (by kernel_rfl)
theorem z1ku (a0 a1 : Int) : z1g5 a0 a1 =
  ((z1da a0 1 a1).bind fun v87 => (some (PV.tuple [(PV.int .i64 (PV.toI (PV.tnth v87 0))), (PV.int .i64 (PV.toI (PV.tnth v87 1)))]))) :=
 (z3 EE z182 _ rfl).trans (by kernel_rfl)
theorem z1kt (a0 a1 : Int) : z1g4 a0 a1 =
  (bif (eqB a1 0) then (some (PV.tuple [(PV.int .i64 0), (PV.int .i64 11)])) else (bif (eqB a1 (-1)) then (some (PV.tuple [(PV.int .i64 0), (PV.int .i64 0)])) else (bif (eqB a1 0) then none else (bif (!(eqB (Int.tmod a0 a1) 0)) then (bif (!((ltB (Int.tmod a0 a1) 0) == (ltB a1 0))) then (some (PV.tuple [(PV.int .i64 (IntKind.wrap .i64 ((Int.tmod a0 a1) + a1))), (PV.int .i64 0)])) else (some (PV.tuple [(PV.int .i64 (Int.tmod a0 a1)), (PV.int .i64 0)]))) else (some (PV.tuple [(PV.int .i64 (Int.tmod a0 a1)), (PV.int .i64 0)])))))) :=
 (z3 EE z181 _ rfl).trans (by kernel_rfl)
theorem zae (a0 a1 : Int) : zcm a0 a1 =
  (bif (leB 0 a0) then (some (PV.bool (leB a0 a1))) else (some (PV.bool false))) :=
 (z3 EE zoy _ rfl).trans (by kernel_rfl)
theorem zgs (a0 : List UInt8) (a1 : List UInt8) : zal a0 a1 =
  (bif (eqB (((List.length a1) : Nat) : Int) 0) then zaz else (bif (eqS a1 a0) then zaz else (zgt a0 a1 (((List.length a1) : Nat) : Int)))) :=
 (z3 EE z5l _ rfl).trans (by kernel_rfl)
theorem zlk  : zaz  =
  (some (PV.int .i64 0)) :=
 (z1 EE _ _).trans (by kernel_rfl)
theorem zd1 (x0 : List UInt8) (x1 : List UInt8) (x2 : Int) : zgt x0 x1 x2 =
  (bif (eqB x2 1) then ((atS x1 0).bind fun v185 => ((z7a x0 v185).bind fun v186 => (some (PV.int .i64 (PV.toI v186))))) else (bif (leB (((List.length x0) : Nat) : Int) x2) then (some (PV.int .i64 (-1))) else none)) :=
 (z1 EE _ _).trans (by kernel_rfl)
theorem zyu (a0 : Int) : zk8 a0 =
  (bif (leB 48 a0) then (bif (leB a0 57) then zyv else (zij a0)) else (zij a0)) :=
 (z3 EE z8s _ rfl).trans (by kernel_rfl)
theorem z12j  : zyv  =
  (some (PV.int .i64 1)) :=
 (z1 EE _ _).trans (by kernel_rfl)
theorem z12i (x0 : Int) : zij x0 =
  (bif (eqB x0 95) then zii else (bif (ltB 127 x0) then zii else (bif (leB 97 (orI IntKind.i32 x0 32)) then (bif (leB (orI IntKind.i32 x0 32) 122) then zii else (znh x0)) else (znh x0)))) :=
 (z1 EE _ _).trans (by kernel_rfl)
theorem z12h  : zii  =
  (some (PV.int .i64 2)) :=
 (z1 EE _ _).trans (by kernel_rfl)
theorem z12g (x0 : Int) : znh x0 =
  (bif (eqB x0 32) then zcs else (bif (eqB x0 9) then zcs else (bif (eqB x0 10) then zcs else (bif (eqB x0 13) then zcs else (bif (ltB x0 32) then (some (PV.int .i64 4)) else (bif (eqB x0 127) then (some (PV.int .i64 4)) else (some (PV.int .i64 3)))))))) :=
 (z1 EE _ _).trans (by kernel_rfl)
theorem z10g  : zcs  =
  (some (PV.int .i64 0)) :=
 (z1 EE _ _).trans (by kernel_rfl)
theorem z1a3 (a0 : Bool) (a1_0 a1_1 : Int) : zhg a0 a1_0 a1_1 =
  (bif (!(eqB a1_0 0)) then (some (PV.tuple [(PV.int .i64 0), (PV.int .i64 10)])) else (bif a0 then (bif (leB a1_1 9223372036854775808) then (some (PV.tuple [(PV.int .i64 (IntKind.wrap .i64 (IntKind.wrap .u64 (0 - a1_1)))), (PV.int .i64 0)])) else (zlw a0 [(PV.int .u64 a1_0), (PV.int .u64 a1_1)] 2)) else (zlw a0 [(PV.int .u64 a1_0), (PV.int .u64 a1_1)] 2))) :=
 (z3 EE zh6 _ rfl).trans (by kernel_rfl)
theorem z10z (x0 : Bool) (x1 : List PV) (x2 : Nat) : zlw x0 x1 x2 =
  (bif x0 then (some (PV.tuple [(PV.int .i64 0), (PV.int .i64 10)])) else ((rdT (tiInt IntKind.u64) x1 1 0).bind fun v61 => (bif (ltB 9223372036854775807 (PV.toI v61)) then (some (PV.tuple [(PV.int .i64 0), (PV.int .i64 10)])) else ((rdT (tiInt IntKind.u64) x1 1 0).bind fun v62 => (some (PV.tuple [(PV.int .i64 (IntKind.wrap .i64 (PV.toI v62))), (PV.int .i64 0)])))))) :=
 (z1 EE _ _).trans (by kernel_rfl)
theorem zsf (a0 a1 : Int) : zlx a0 a1 =
  ((zvj a0).bind fun v88 => ((zvj a1).bind fun v89 => ((zrm (PV.toI v88) (PV.toI v89)).bind fun v90 => (some (PV.agg [(PV.int .u64 (PV.toI (PV.tnth v90 0))), (PV.int .u64 (PV.toI (PV.tnth v90 1)))]))))) :=
 (z3 EE zsv _ rfl).trans (by kernel_rfl)
theorem zb3 (a0 : List UInt8) (a1 : List UInt8) : zed a0 a1 =
  ((z9t a0 a1).bind fun v149 => (bif (PV.toB v149) then ((dropS a0 (((List.length a1) : Nat) : Int)).bind fun v150 => (some (PV.str v150))) else (some (PV.str a0)))) :=
 (z3 EE zbb _ rfl).trans (by kernel_rfl)
theorem zt5 (a0 : List UInt8) (a1 : List UInt8) (a2 a3 : Int) : zmi a0 a1 a2 a3 =
  (bif (eqB a3 0) then (some (PV.sl 0 [])) else (bif (eqS a1 []) then ((z12y a0 a3).bind fun v187 => (some (PV.sl 1 (PV.toL v187)))) else (bif (ltB a3 0) then ((zln a0 a1).bind fun v188 => (zbw a0 a1 a2 (IntKind.wrap .i64 ((PV.toI v188) + 1)))) else (zbw a0 a1 a2 a3)))) :=
 (z3 EE z6h _ rfl).trans (by kernel_rfl)
theorem zn1 (x0 : List UInt8) (x1 : List UInt8) (x2 x3 : Int) : zbw x0 x1 x2 x3 =
  (bif (decide ((0 ≤ (minI x3 (IntKind.wrap .i64 ((((List.length x0) : Nat) : Int) + 1)))) ∧ (((minI x3 (IntKind.wrap .i64 ((((List.length x0) : Nat) : Int) + 1))) ≤ (minI x3 (IntKind.wrap .i64 ((((List.length x0) : Nat) : Int) + 1)))) ∧ (((minI x3 (IntKind.wrap .i64 ((((List.length x0) : Nat) : Int) + 1))) * ((16 : Nat) : Int)) ≤ (HPow.hPow (2 : Int) 46))))) then (z80 x0 x1 x2 (IntKind.wrap .i64 ((minI x3 (IntKind.wrap .i64 ((((List.length x0) : Nat) : Int) + 1))) - 1)) 0 (List.replicate (Int.toNat (minI x3 (IntKind.wrap .i64 ((((List.length x0) : Nat) : Int) + 1)))) (PV.str [])) (Int.toNat (minI x3 (IntKind.wrap .i64 ((((List.length x0) : Nat) : Int) + 1))))) else none) :=
 (z1 EE _ _).trans (by kernel_rfl)
theorem zll (x0 : List UInt8) (x1 : List UInt8) (x2 x3 x4 : Int) (x5 : List PV) (x6 : Nat) : z80 x0 x1 x2 x3 x4 x5 x6 =
  (bif (ltB x4 x3) then ((zlm x0 x1).bind fun v189 => (bif (ltB (PV.toI v189) 0) then (bif (inB 0 x4 (((List.length x5) : Nat) : Int)) then ((stC x5 (Int.toNat x4) 0 [(PV.str x0)]).bind fun v190 => (bif (decide ((0 ≤ (IntKind.wrap .i64 (x4 + 1))) ∧ ((IntKind.wrap .i64 (x4 + 1)) ≤ (((List.length v190) : Nat) : Int)))) then (some (PV.sl 1 (List.take (Int.toNat (IntKind.wrap .i64 (x4 + 1))) v190))) else none)) else none) else ((takeS x0 (IntKind.wrap .i64 ((PV.toI v189) + x2))).bind fun v191 => (bif (inB 0 x4 (((List.length x5) : Nat) : Int)) then ((stC x5 (Int.toNat x4) 0 [(PV.str v191)]).bind fun v192 => ((dropS x0 (IntKind.wrap .i64 ((PV.toI v189) + (((List.length x1) : Nat) : Int)))).bind fun v193 => (z80 v193 x1 x2 x3 (IntKind.wrap .i64 (x4 + 1)) v192 x6))) else none)))) else (bif (inB 0 x4 (((List.length x5) : Nat) : Int)) then ((stC x5 (Int.toNat x4) 0 [(PV.str x0)]).bind fun v194 => (bif (decide ((0 ≤ (IntKind.wrap .i64 (x4 + 1))) ∧ ((IntKind.wrap .i64 (x4 + 1)) ≤ (((List.length v194) : Nat) : Int)))) then (some (PV.sl 1 (List.take (Int.toNat (IntKind.wrap .i64 (x4 + 1))) v194))) else none)) else none)) :=
 (z1 EE _ _).trans (by kernel_rfl)
theorem znc (a0 : Int) : zc3 a0 =
  ((zav (IntKind.wrap .i64 (a0 - 2000)) 400).bind fun v112 => (z4o a0 (IntKind.wrap .i64 ((PV.toI v112) * 146097)) 0)) :=
 (z3 EE z6o _ rfl).trans (by kernel_rfl)
theorem zbl (x0 x1 x2 : Int) : z4o x0 x1 x2 =
  ((z4u (IntKind.wrap .i64 (x0 - 2000)) 400).bind fun v113 => (bif (ltB x2 (PV.toI v113)) then ((z7l (IntKind.wrap .i64 (2000 + x2))).bind fun v114 => (bif (PV.toB v114) then (z4o x0 (IntKind.wrap .i64 ((IntKind.wrap .i64 (x1 + 365)) + 1)) (IntKind.wrap .i64 (x2 + 1))) else (z4o x0 (IntKind.wrap .i64 (x1 + 365)) (IntKind.wrap .i64 (x2 + 1))))) else (some (PV.int .i64 x1)))) :=
 (z1 EE _ _).trans (by kernel_rfl)
theorem zrz (a0 : Int) : zf5 a0 =
  ((zhz).bind fun v63 => (bif (leB (PV.toI v63) a0) then ((zjf).bind fun v64 => (some (PV.bool (leB a0 (PV.toI v64))))) else (some (PV.bool false)))) :=
 (z3 EE zgz _ rfl).trans (by kernel_rfl)
theorem zrw (a0 a1 : Int) : zav a0 a1 =
  (bif (eqB a1 0) then none else (bif (eqB a1 0) then none else (bif (ltB (Int.tmod a0 a1) 0) then (some (PV.int .i64 (IntKind.wrap .i64 ((IntKind.wrap .i64 (Int.tdiv a0 a1)) - 1)))) else (some (PV.int .i64 (IntKind.wrap .i64 (Int.tdiv a0 a1))))))) :=
 (z3 EE zgy _ rfl).trans (by kernel_rfl)
theorem zrv (a0 a1 : Int) : z4u a0 a1 =
  (bif (eqB a1 0) then none else (bif (ltB (Int.tmod a0 a1) 0) then (some (PV.int .i64 (IntKind.wrap .i64 ((Int.tmod a0 a1) + a1)))) else (some (PV.int .i64 (Int.tmod a0 a1))))) :=
 (z3 EE zgx _ rfl).trans (by kernel_rfl)
theorem z18p (a0 : List UInt8) (a1 : List PV) : zxb a0 a1 =
  (bif (ltB (((List.length a0) : Nat) : Int) 3) then (some (PV.int .i64 (-1))) else ((z8j a1 (PV.func (Go.Fn.func z6g) [] [(PV.ref [(PV.str a0)] 0)])).bind fun v151 => (some (PV.int .i64 (PV.toI v151))))) :=
 (z3 EE zvs _ rfl).trans (by kernel_rfl)
theorem zff (a0 a1 : Int) : zmd a0 a1 =
  (bif (eqB a1 0) then none else (bif (eqB a1 0) then none else (bif (ltB (Int.tmod a0 a1) 0) then (some (PV.tuple [(PV.int .i64 (IntKind.wrap .i64 ((IntKind.wrap .i64 (Int.tdiv a0 a1)) - 1))), (PV.int .i64 (IntKind.wrap .i64 ((Int.tmod a0 a1) + a1)))])) else (some (PV.tuple [(PV.int .i64 (IntKind.wrap .i64 (Int.tdiv a0 a1))), (PV.int .i64 (Int.tmod a0 a1))]))))) :=
 (z3 EE zsy _ rfl).trans (by kernel_rfl)
theorem zm9 (a0 : List UInt8) : zb2 a0 =
  (z46 a0 0 0 0) :=
 (z3 EE z2c _ rfl).trans (by kernel_rfl)
theorem z76 (x0 : List UInt8) (x1 x2 x3 : Int) : z46 x0 x1 x2 x3 =
  (bif (ltB x3 (((List.length x0) : Nat) : Int)) then ((atS x0 x3).bind fun v115 => ((zc1 v115).bind fun v116 => (bif (!(PV.toB v116)) then (some (PV.tuple [(PV.int .i64 0), (PV.int .i64 13)])) else ((atS x0 x3).bind fun v117 => (bif (eqB x2 0) then (bif (ltB 922337203685477580 x1) then (z8b x0 x1 x3 (IntKind.wrap .i64 (IntKind.wrap .u8 (v117 - 48)))) else (bif (ltB (IntKind.wrap .i64 (9223372036854775807 - (IntKind.wrap .i64 (IntKind.wrap .u8 (v117 - 48))))) (IntKind.wrap .i64 (10 * x1))) then (z8b x0 x1 x3 (IntKind.wrap .i64 (IntKind.wrap .u8 (v117 - 48)))) else (z5f x0 x1 x2 x3 (IntKind.wrap .i64 (IntKind.wrap .u8 (v117 - 48)))))) else (z5f x0 x1 x2 x3 (IntKind.wrap .i64 (IntKind.wrap .u8 (v117 - 48))))))))) else (bif (eqB (((List.length x0) : Nat) : Int) 0) then (some (PV.tuple [(PV.int .i64 0), (PV.int .i64 13)])) else (bif (!(eqB x2 0)) then (some (PV.tuple [(PV.int .i64 0), (PV.int .i64 x2)])) else (some (PV.tuple [(PV.int .i64 x1), (PV.int .i64 0)]))))) :=
 (z1 EE _ _).trans (by kernel_rfl)
theorem zhy (x0 : List UInt8) (x1 x2 x3 : Int) : z8b x0 x1 x2 x3 =
  (z5f x0 x1 10 x2 x3) :=
 (z1 EE _ _).trans (by kernel_rfl)
theorem zhx (x0 : List UInt8) (x1 x2 x3 x4 : Int) : z5f x0 x1 x2 x3 x4 =
  (bif (eqB x2 0) then (z93 x0 (IntKind.wrap .i64 ((IntKind.wrap .i64 (10 * x1)) + x4)) x2 x3) else (z93 x0 x1 x2 x3)) :=
 (z1 EE _ _).trans (by kernel_rfl)
theorem zih (x0 : List UInt8) (x1 x2 x3 : Int) : z93 x0 x1 x2 x3 =
  (z46 x0 x1 x2 (IntKind.wrap .i64 (x3 + 1))) :=
 (z1 EE _ _).trans (by kernel_rfl)
theorem z16p (a0 : Int) : z156 a0 =
  (some (PV.tuple [(PV.int .i64 (IntKind.wrap .i64 (IntKind.wrap .u64 (Int.tdiv a0 3600000000)))), (PV.int .i64 (IntKind.wrap .i64 (Int.tmod (IntKind.wrap .u64 (Int.tdiv a0 60000000)) 60))), (PV.int .i64 (IntKind.wrap .i64 (Int.tmod (IntKind.wrap .u64 (Int.tdiv a0 1000000)) 60))), (PV.int .i64 (IntKind.wrap .i64 (Int.tmod a0 1000000)))])) :=
 (z3 EE zsw _ rfl).trans (by kernel_rfl)
theorem z10d (a0 : Int) : zwt a0 =
  ((zu8).bind fun v156 => (bif (leB (PV.toI v156) a0) then ((zyn).bind fun v157 => (some (PV.bool (leB a0 (PV.toI v157))))) else (some (PV.bool false)))) :=
 (z3 EE z105 _ rfl).trans (by kernel_rfl)
theorem zt1 (a0 : Int) : zmc a0 =
  ((zmd (IntKind.wrap .i64 (a0 + 730425)) 146097).bind fun v196 => (bif (leB 10 (IntKind.wrap .i64 (Int.tdiv (IntKind.wrap .i64 ((IntKind.wrap .i64 (5 * (IntKind.wrap .i64 ((IntKind.wrap .i64 ((IntKind.wrap .i64 ((PV.toI (PV.tnth v196 1)) - (IntKind.wrap .i64 ((minI (IntKind.wrap .i64 (Int.tdiv (PV.toI (PV.tnth v196 1)) 36524)) 3) * 36524)))) - (IntKind.wrap .i64 ((IntKind.wrap .i64 (Int.tdiv (IntKind.wrap .i64 ((PV.toI (PV.tnth v196 1)) - (IntKind.wrap .i64 ((minI (IntKind.wrap .i64 (Int.tdiv (PV.toI (PV.tnth v196 1)) 36524)) 3) * 36524)))) 1461)) * 1461)))) - (IntKind.wrap .i64 ((minI (IntKind.wrap .i64 (Int.tdiv (IntKind.wrap .i64 ((IntKind.wrap .i64 ((PV.toI (PV.tnth v196 1)) - (IntKind.wrap .i64 ((minI (IntKind.wrap .i64 (Int.tdiv (PV.toI (PV.tnth v196 1)) 36524)) 3) * 36524)))) - (IntKind.wrap .i64 ((IntKind.wrap .i64 (Int.tdiv (IntKind.wrap .i64 ((PV.toI (PV.tnth v196 1)) - (IntKind.wrap .i64 ((minI (IntKind.wrap .i64 (Int.tdiv (PV.toI (PV.tnth v196 1)) 36524)) 3) * 36524)))) 1461)) * 1461)))) 365)) 3) * 365)))))) + 2)) 153))) then (some (PV.tuple [(PV.int .i64 (IntKind.wrap .i64 ((IntKind.wrap .i64 ((IntKind.wrap .i64 ((IntKind.wrap .i64 ((IntKind.wrap .i64 ((PV.toI (PV.tnth v196 0)) * 400)) + (IntKind.wrap .i64 ((minI (IntKind.wrap .i64 (Int.tdiv (PV.toI (PV.tnth v196 1)) 36524)) 3) * 100)))) + (IntKind.wrap .i64 ((IntKind.wrap .i64 (Int.tdiv (IntKind.wrap .i64 ((PV.toI (PV.tnth v196 1)) - (IntKind.wrap .i64 ((minI (IntKind.wrap .i64 (Int.tdiv (PV.toI (PV.tnth v196 1)) 36524)) 3) * 36524)))) 1461)) * 4)))) + (minI (IntKind.wrap .i64 (Int.tdiv (IntKind.wrap .i64 ((IntKind.wrap .i64 ((PV.toI (PV.tnth v196 1)) - (IntKind.wrap .i64 ((minI (IntKind.wrap .i64 (Int.tdiv (PV.toI (PV.tnth v196 1)) 36524)) 3) * 36524)))) - (IntKind.wrap .i64 ((IntKind.wrap .i64 (Int.tdiv (IntKind.wrap .i64 ((PV.toI (PV.tnth v196 1)) - (IntKind.wrap .i64 ((minI (IntKind.wrap .i64 (Int.tdiv (PV.toI (PV.tnth v196 1)) 36524)) 3) * 36524)))) 1461)) * 1461)))) 365)) 3))) + 1))), (PV.int .i64 (IntKind.wrap .i64 ((IntKind.wrap .i64 (Int.tdiv (IntKind.wrap .i64 ((IntKind.wrap .i64 (5 * (IntKind.wrap .i64 ((IntKind.wrap .i64 ((IntKind.wrap .i64 ((PV.toI (PV.tnth v196 1)) - (IntKind.wrap .i64 ((minI (IntKind.wrap .i64 (Int.tdiv (PV.toI (PV.tnth v196 1)) 36524)) 3) * 36524)))) - (IntKind.wrap .i64 ((IntKind.wrap .i64 (Int.tdiv (IntKind.wrap .i64 ((PV.toI (PV.tnth v196 1)) - (IntKind.wrap .i64 ((minI (IntKind.wrap .i64 (Int.tdiv (PV.toI (PV.tnth v196 1)) 36524)) 3) * 36524)))) 1461)) * 1461)))) - (IntKind.wrap .i64 ((minI (IntKind.wrap .i64 (Int.tdiv (IntKind.wrap .i64 ((IntKind.wrap .i64 ((PV.toI (PV.tnth v196 1)) - (IntKind.wrap .i64 ((minI (IntKind.wrap .i64 (Int.tdiv (PV.toI (PV.tnth v196 1)) 36524)) 3) * 36524)))) - (IntKind.wrap .i64 ((IntKind.wrap .i64 (Int.tdiv (IntKind.wrap .i64 ((PV.toI (PV.tnth v196 1)) - (IntKind.wrap .i64 ((minI (IntKind.wrap .i64 (Int.tdiv (PV.toI (PV.tnth v196 1)) 36524)) 3) * 36524)))) 1461)) * 1461)))) 365)) 3) * 365)))))) + 2)) 153)) - 9))), (PV.int .i64 (IntKind.wrap .i64 ((IntKind.wrap .i64 ((IntKind.wrap .i64 ((IntKind.wrap .i64 ((IntKind.wrap .i64 ((PV.toI (PV.tnth v196 1)) - (IntKind.wrap .i64 ((minI (IntKind.wrap .i64 (Int.tdiv (PV.toI (PV.tnth v196 1)) 36524)) 3) * 36524)))) - (IntKind.wrap .i64 ((IntKind.wrap .i64 (Int.tdiv (IntKind.wrap .i64 ((PV.toI (PV.tnth v196 1)) - (IntKind.wrap .i64 ((minI (IntKind.wrap .i64 (Int.tdiv (PV.toI (PV.tnth v196 1)) 36524)) 3) * 36524)))) 1461)) * 1461)))) - (IntKind.wrap .i64 ((minI (IntKind.wrap .i64 (Int.tdiv (IntKind.wrap .i64 ((IntKind.wrap .i64 ((PV.toI (PV.tnth v196 1)) - (IntKind.wrap .i64 ((minI (IntKind.wrap .i64 (Int.tdiv (PV.toI (PV.tnth v196 1)) 36524)) 3) * 36524)))) - (IntKind.wrap .i64 ((IntKind.wrap .i64 (Int.tdiv (IntKind.wrap .i64 ((PV.toI (PV.tnth v196 1)) - (IntKind.wrap .i64 ((minI (IntKind.wrap .i64 (Int.tdiv (PV.toI (PV.tnth v196 1)) 36524)) 3) * 36524)))) 1461)) * 1461)))) 365)) 3) * 365)))) - (IntKind.wrap .i64 (Int.tdiv (IntKind.wrap .i64 ((IntKind.wrap .i64 (153 * (IntKind.wrap .i64 (Int.tdiv (IntKind.wrap .i64 ((IntKind.wrap .i64 (5 * (IntKind.wrap .i64 ((IntKind.wrap .i64 ((IntKind.wrap .i64 ((PV.toI (PV.tnth v196 1)) - (IntKind.wrap .i64 ((minI (IntKind.wrap .i64 (Int.tdiv (PV.toI (PV.tnth v196 1)) 36524)) 3) * 36524)))) - (IntKind.wrap .i64 ((IntKind.wrap .i64 (Int.tdiv (IntKind.wrap .i64 ((PV.toI (PV.tnth v196 1)) - (IntKind.wrap .i64 ((minI (IntKind.wrap .i64 (Int.tdiv (PV.toI (PV.tnth v196 1)) 36524)) 3) * 36524)))) 1461)) * 1461)))) - (IntKind.wrap .i64 ((minI (IntKind.wrap .i64 (Int.tdiv (IntKind.wrap .i64 ((IntKind.wrap .i64 ((PV.toI (PV.tnth v196 1)) - (IntKind.wrap .i64 ((minI (IntKind.wrap .i64 (Int.tdiv (PV.toI (PV.tnth v196 1)) 36524)) 3) * 36524)))) - (IntKind.wrap .i64 ((IntKind.wrap .i64 (Int.tdiv (IntKind.wrap .i64 ((PV.toI (PV.tnth v196 1)) - (IntKind.wrap .i64 ((minI (IntKind.wrap .i64 (Int.tdiv (PV.toI (PV.tnth v196 1)) 36524)) 3) * 36524)))) 1461)) * 1461)))) 365)) 3) * 365)))))) + 2)) 153)))) + 2)) 5)))) + 1)))])) else (some (PV.tuple [(PV.int .i64 (IntKind.wrap .i64 ((IntKind.wrap .i64 ((IntKind.wrap .i64 ((IntKind.wrap .i64 ((PV.toI (PV.tnth v196 0)) * 400)) + (IntKind.wrap .i64 ((minI (IntKind.wrap .i64 (Int.tdiv (PV.toI (PV.tnth v196 1)) 36524)) 3) * 100)))) + (IntKind.wrap .i64 ((IntKind.wrap .i64 (Int.tdiv (IntKind.wrap .i64 ((PV.toI (PV.tnth v196 1)) - (IntKind.wrap .i64 ((minI (IntKind.wrap .i64 (Int.tdiv (PV.toI (PV.tnth v196 1)) 36524)) 3) * 36524)))) 1461)) * 4)))) + (minI (IntKind.wrap .i64 (Int.tdiv (IntKind.wrap .i64 ((IntKind.wrap .i64 ((PV.toI (PV.tnth v196 1)) - (IntKind.wrap .i64 ((minI (IntKind.wrap .i64 (Int.tdiv (PV.toI (PV.tnth v196 1)) 36524)) 3) * 36524)))) - (IntKind.wrap .i64 ((IntKind.wrap .i64 (Int.tdiv (IntKind.wrap .i64 ((PV.toI (PV.tnth v196 1)) - (IntKind.wrap .i64 ((minI (IntKind.wrap .i64 (Int.tdiv (PV.toI (PV.tnth v196 1)) 36524)) 3) * 36524)))) 1461)) * 1461)))) 365)) 3)))), (PV.int .i64 (IntKind.wrap .i64 ((IntKind.wrap .i64 (Int.tdiv (IntKind.wrap .i64 ((IntKind.wrap .i64 (5 * (IntKind.wrap .i64 ((IntKind.wrap .i64 ((IntKind.wrap .i64 ((PV.toI (PV.tnth v196 1)) - (IntKind.wrap .i64 ((minI (IntKind.wrap .i64 (Int.tdiv (PV.toI (PV.tnth v196 1)) 36524)) 3) * 36524)))) - (IntKind.wrap .i64 ((IntKind.wrap .i64 (Int.tdiv (IntKind.wrap .i64 ((PV.toI (PV.tnth v196 1)) - (IntKind.wrap .i64 ((minI (IntKind.wrap .i64 (Int.tdiv (PV.toI (PV.tnth v196 1)) 36524)) 3) * 36524)))) 1461)) * 1461)))) - (IntKind.wrap .i64 ((minI (IntKind.wrap .i64 (Int.tdiv (IntKind.wrap .i64 ((IntKind.wrap .i64 ((PV.toI (PV.tnth v196 1)) - (IntKind.wrap .i64 ((minI (IntKind.wrap .i64 (Int.tdiv (PV.toI (PV.tnth v196 1)) 36524)) 3) * 36524)))) - (IntKind.wrap .i64 ((IntKind.wrap .i64 (Int.tdiv (IntKind.wrap .i64 ((PV.toI (PV.tnth v196 1)) - (IntKind.wrap .i64 ((minI (IntKind.wrap .i64 (Int.tdiv (PV.toI (PV.tnth v196 1)) 36524)) 3) * 36524)))) 1461)) * 1461)))) 365)) 3) * 365)))))) + 2)) 153)) + 3))), (PV.int .i64 (IntKind.wrap .i64 ((IntKind.wrap .i64 ((IntKind.wrap .i64 ((IntKind.wrap .i64 ((IntKind.wrap .i64 ((PV.toI (PV.tnth v196 1)) - (IntKind.wrap .i64 ((minI (IntKind.wrap .i64 (Int.tdiv (PV.toI (PV.tnth v196 1)) 36524)) 3) * 36524)))) - (IntKind.wrap .i64 ((IntKind.wrap .i64 (Int.tdiv (IntKind.wrap .i64 ((PV.toI (PV.tnth v196 1)) - (IntKind.wrap .i64 ((minI (IntKind.wrap .i64 (Int.tdiv (PV.toI (PV.tnth v196 1)) 36524)) 3) * 36524)))) 1461)) * 1461)))) - (IntKind.wrap .i64 ((minI (IntKind.wrap .i64 (Int.tdiv (IntKind.wrap .i64 ((IntKind.wrap .i64 ((PV.toI (PV.tnth v196 1)) - (IntKind.wrap .i64 ((minI (IntKind.wrap .i64 (Int.tdiv (PV.toI (PV.tnth v196 1)) 36524)) 3) * 36524)))) - (IntKind.wrap .i64 ((IntKind.wrap .i64 (Int.tdiv (IntKind.wrap .i64 ((PV.toI (PV.tnth v196 1)) - (IntKind.wrap .i64 ((minI (IntKind.wrap .i64 (Int.tdiv (PV.toI (PV.tnth v196 1)) 36524)) 3) * 36524)))) 1461)) * 1461)))) 365)) 3) * 365)))) - (IntKind.wrap .i64 (Int.tdiv (IntKind.wrap .i64 ((IntKind.wrap .i64 (153 * (IntKind.wrap .i64 (Int.tdiv (IntKind.wrap .i64 ((IntKind.wrap .i64 (5 * (IntKind.wrap .i64 ((IntKind.wrap .i64 ((IntKind.wrap .i64 ((PV.toI (PV.tnth v196 1)) - (IntKind.wrap .i64 ((minI (IntKind.wrap .i64 (Int.tdiv (PV.toI (PV.tnth v196 1)) 36524)) 3) * 36524)))) - (IntKind.wrap .i64 ((IntKind.wrap .i64 (Int.tdiv (IntKind.wrap .i64 ((PV.toI (PV.tnth v196 1)) - (IntKind.wrap .i64 ((minI (IntKind.wrap .i64 (Int.tdiv (PV.toI (PV.tnth v196 1)) 36524)) 3) * 36524)))) 1461)) * 1461)))) - (IntKind.wrap .i64 ((minI (IntKind.wrap .i64 (Int.tdiv (IntKind.wrap .i64 ((IntKind.wrap .i64 ((PV.toI (PV.tnth v196 1)) - (IntKind.wrap .i64 ((minI (IntKind.wrap .i64 (Int.tdiv (PV.toI (PV.tnth v196 1)) 36524)) 3) * 36524)))) - (IntKind.wrap .i64 ((IntKind.wrap .i64 (Int.tdiv (IntKind.wrap .i64 ((PV.toI (PV.tnth v196 1)) - (IntKind.wrap .i64 ((minI (IntKind.wrap .i64 (Int.tdiv (PV.toI (PV.tnth v196 1)) 36524)) 3) * 36524)))) 1461)) * 1461)))) 365)) 3) * 365)))))) + 2)) 153)))) + 2)) 5)))) + 1)))])))) :=
 (z3 EE zsx _ rfl).trans (by kernel_rfl)
theorem z1ba (a0 a1 : Int) : zrm a0 a1 =
  (some (PV.tuple [(PV.int .u64 (IntKind.wrap .u64 ((IntKind.wrap .u64 ((IntKind.wrap .u64 ((shrI IntKind.u64 a0 32) * (shrI IntKind.u64 a1 32))) + (shrI IntKind.u64 (IntKind.wrap .u64 ((IntKind.wrap .u64 ((shrI IntKind.u64 a0 32) * (andI IntKind.u64 a1 4294967295))) + (shrI IntKind.u64 (IntKind.wrap .u64 ((andI IntKind.u64 a0 4294967295) * (andI IntKind.u64 a1 4294967295))) 32))) 32))) + (shrI IntKind.u64 (IntKind.wrap .u64 ((andI IntKind.u64 (IntKind.wrap .u64 ((IntKind.wrap .u64 ((shrI IntKind.u64 a0 32) * (andI IntKind.u64 a1 4294967295))) + (shrI IntKind.u64 (IntKind.wrap .u64 ((andI IntKind.u64 a0 4294967295) * (andI IntKind.u64 a1 4294967295))) 32))) 4294967295) + (IntKind.wrap .u64 ((andI IntKind.u64 a0 4294967295) * (shrI IntKind.u64 a1 32))))) 32)))), (PV.int .u64 (IntKind.wrap .u64 (a0 * a1)))])) :=
 (z3 EE zwc _ rfl).trans (by kernel_rfl)
theorem z3l (a0 : List UInt8) (a1 : List UInt8) : z9t a0 a1 =
  (bif (leB (((List.length a1) : Nat) : Int) (((List.length a0) : Nat) : Int)) then ((takeS a0 (((List.length a1) : Nat) : Int)).bind fun v124 => (some (PV.bool (eqS v124 a1)))) else (some (PV.bool false))) :=
 (z3 EE zci _ rfl).trans (by kernel_rfl)
theorem z1d9 (a0 a1 a2 : Int) : z1da a0 a1 a2 =
  (bif (eqB a2 0) then (some (PV.tuple [(PV.int .i64 0), (PV.int .i64 11)])) else ((zlx a0 a1).bind fun v197 => ((zvj a2).bind fun v198 => (bif (leB (PV.toI v198) (PV.toI (PV.nth v197 0))) then (some (PV.tuple [(PV.int .i64 0), (PV.int .i64 10)])) else ((z18i (PV.toI (PV.nth v197 0)) (PV.toI (PV.nth v197 1)) (PV.toI v198)).bind fun v199 => (bif (!(!((!((ltB a0 0) == (ltB a1 0))) == (ltB a2 0)))) then (zj0 (!((!((ltB a0 0) == (ltB a1 0))) == (ltB a2 0))) (PV.toI (PV.tnth v199 0))) else (bif (eqB (PV.toI (PV.tnth v199 1)) 0) then (zj0 (!((!((ltB a0 0) == (ltB a1 0))) == (ltB a2 0))) (PV.toI (PV.tnth v199 0))) else (zvl (PV.toI (PV.tnth v199 0)))))))))) :=
 (z3 EE zfz _ rfl).trans (by kernel_rfl)
theorem z13r (x0 : Bool) (x1 : Int) : zj0 x0 x1 =
  ((zhg x0 0 x1).bind fun v200 => (some (PV.tuple [(PV.int .i64 (PV.toI (PV.tnth v200 0))), (PV.int .i64 (PV.toI (PV.tnth v200 1)))]))) :=
 (z1 EE _ _).trans (by kernel_rfl)
theorem z110 (x0 : Int) : zvl x0 =
  ((callW EE ([(tiInt IntKind.u64), (tiInt IntKind.u64)]) (PV.func (Go.Fn.func zwd) [] []) [(PV.int .u64 x0), (PV.int .u64 1), (PV.int .u64 0)]).bind fun v201 => ((zhg true (PV.toI (PV.tnth v201 1)) (PV.toI (PV.tnth v201 0))).bind fun v202 => (some (PV.tuple [(PV.int .i64 (PV.toI (PV.tnth v202 0))), (PV.int .i64 (PV.toI (PV.tnth v202 1)))])))) :=
 (z1 EE _ _).trans (by kernel_rfl)
theorem zca (a0 : List UInt8) (a1 : Int) : z7a a0 a1 =
  ((callW EE ([(tiInt IntKind.i64)]) (PV.func (Go.Fn.func z74) [] []) [(PV.str a0), (PV.int .u8 a1)]).bind fun v120 => (some (PV.int .i64 (PV.toI v120)))) :=
 (z3 EE zch _ rfl).trans (by kernel_rfl)
theorem z1g3 (a0 : Int) : zvj a0 =
  (bif (ltB a0 0) then (some (PV.int .u64 (IntKind.wrap .u64 (0 - (IntKind.wrap .u64 a0))))) else (some (PV.int .u64 (IntKind.wrap .u64 a0)))) :=
 (z3 EE z14k _ rfl).trans (by kernel_rfl)
theorem z10r (a0 : List UInt8) (a1 : List UInt8) : zln a0 a1 =
  (bif (eqB (((List.length a1) : Nat) : Int) 0) then ((zn0 a0).bind fun v203 => (some (PV.int .i64 (IntKind.wrap .i64 ((PV.toI v203) + 1))))) else (bif (eqB (((List.length a1) : Nat) : Int) 1) then ((atS a1 0).bind fun v204 => ((callW EE ([(tiInt IntKind.i64)]) (PV.func (Go.Fn.func zel) [] []) [(PV.str a0), (PV.int .u8 v204)]).bind fun v205 => (some (PV.int .i64 (PV.toI v205))))) else (z10s a0 a1 0))) :=
 (z3 EE zbt _ rfl).trans (by kernel_rfl)
theorem z10q (a0 : List UInt8) (a1 : List UInt8) : zlm a0 a1 =
  ((zal a0 a1).bind fun v121 => (some (PV.int .i64 (PV.toI v121)))) :=
 (z3 EE zmp _ rfl).trans (by kernel_rfl)
theorem zne  : zhz  =
  ((z8e (-4718) 1 1).bind fun v68 => (some (PV.int .i64 (PV.toI v68)))) :=
 (z3 EE zej _ rfl).trans (by kernel_rfl)
theorem zpa  : zjf  =
  ((z8e 294282 12 31).bind fun v131 => (some (PV.int .i64 (PV.toI v131)))) :=
 (z3 EE zg4 _ rfl).trans (by kernel_rfl)
theorem zd4 (a0 : List PV) (a1 : PV) : z8j a0 a1 =
  (bif ((okOther a1) && true) then (z2o a0 a1 (((List.length a0) : Nat) : Int) 0) else none) :=
 (z3 EE z2q _ rfl).trans (by kernel_rfl)
theorem z5w (x0 : List PV) (x1 : PV) (x2 x3 : Int) : z2o x0 x1 x2 x3 =
  (bif (ltB x3 x2) then ((rdI tiStr x0 x3).bind fun v143 => ((callW EE ([zs8]) x1 [(PV.str (PV.toS v143))]).bind fun v144 => (bif (PV.toB v144) then (some (PV.int .i64 x3)) else (z2o x0 x1 x2 (IntKind.wrap .i64 (x3 + 1)))))) else (some (PV.int .i64 (-1)))) :=
 (z1 EE _ _).trans (by kernel_rfl)
theorem z12k (a0 : List UInt8) (q0 : PV) : zni a0 q0 =
  (bif (okOther q0) then ((rdP tiStr q0 0).bind fun v167 => (bif (leB (((List.length (PV.toS v167)) : Nat) : Int) (((List.length a0) : Nat) : Int)) then ((rdP tiStr q0 0).bind fun v168 => ((rdP tiStr q0 0).bind fun v169 => ((takeS a0 (((List.length (PV.toS v169)) : Nat) : Int)).bind fun v170 => ((z12l (PV.toS v168) v170).bind fun v171 => (some (PV.bool (PV.toB v171))))))) else (some (PV.bool false)))) else none) :=
 (z3 EE z6g _ rfl).trans (by kernel_rfl)
theorem zn8 (a0 : Int) : zc1 a0 =
  (bif (leB 48 a0) then (some (PV.bool (leB a0 57))) else (some (PV.bool false))) :=
 (z3 EE zeg _ rfl).trans (by kernel_rfl)
theorem zt2  : zu8  =
  ((zpf (-4718) 1 1).bind fun v172 => (some (PV.int .i64 (PV.toI v172)))) :=
 (z3 EE zt0 _ rfl).trans (by kernel_rfl)
theorem zwu  : zyn  =
  ((zpf 294282 12 31).bind fun v208 => (some (PV.int .i64 (PV.toI v208)))) :=
 (z3 EE zw9 _ rfl).trans (by kernel_rfl)
theorem z1bb (a0 a1 a2 : Int) : z18i a0 a1 a2 =
  (bif (eqB a2 0) then none else (zx0 a0 a1 a2)) :=
 (z3 EE zas _ rfl).trans (by kernel_rfl)
theorem z118 (x0 x1 x2 : Int) : zx0 x0 x1 x2 =
  (bif (leB x2 x0) then none else (zwz x0 x1 x2)) :=
 (z1 EE _ _).trans (by kernel_rfl)
theorem z117 (x0 x1 x2 : Int) : zwz x0 x1 x2 =
  (bif (eqB x0 0) then (bif (eqB x2 0) then none else (bif (eqB x2 0) then none else (some (PV.tuple [(PV.int .u64 (IntKind.wrap .u64 (Int.tdiv x1 x2))), (PV.int .u64 (Int.tmod x1 x2))])))) else ((zu9 x2).bind fun v123 => (bif (ltB (IntKind.wrap .u64 (PV.toI v123)) 0) then none else (bif (ltB (IntKind.wrap .u64 (PV.toI v123)) 0) then none else (bif (ltB (IntKind.wrap .u64 (64 - (IntKind.wrap .u64 (PV.toI v123)))) 0) then none else (bif (ltB (IntKind.wrap .u64 (PV.toI v123)) 0) then none else (bif (eqB (shrI IntKind.u64 (shlI IntKind.u64 x2 (IntKind.wrap .u64 (PV.toI v123))) 32) 0) then none else (z16r (shlI IntKind.u64 x2 (IntKind.wrap .u64 (PV.toI v123))) (IntKind.wrap .u64 (PV.toI v123)) (shrI IntKind.u64 (shlI IntKind.u64 x2 (IntKind.wrap .u64 (PV.toI v123))) 32) (andI IntKind.u64 (shlI IntKind.u64 x2 (IntKind.wrap .u64 (PV.toI v123))) 4294967295) (orI IntKind.u64 (shlI IntKind.u64 x0 (IntKind.wrap .u64 (PV.toI v123))) (shrI IntKind.u64 x1 (IntKind.wrap .u64 (64 - (IntKind.wrap .u64 (PV.toI v123)))))) (shrI IntKind.u64 (shlI IntKind.u64 x1 (IntKind.wrap .u64 (PV.toI v123))) 32) (andI IntKind.u64 (shlI IntKind.u64 x1 (IntKind.wrap .u64 (PV.toI v123))) 4294967295) (IntKind.wrap .u64 (Int.tdiv (orI IntKind.u64 (shlI IntKind.u64 x0 (IntKind.wrap .u64 (PV.toI v123))) (shrI IntKind.u64 x1 (IntKind.wrap .u64 (64 - (IntKind.wrap .u64 (PV.toI v123)))))) (shrI IntKind.u64 (shlI IntKind.u64 x2 (IntKind.wrap .u64 (PV.toI v123))) 32))) (IntKind.wrap .u64 ((orI IntKind.u64 (shlI IntKind.u64 x0 (IntKind.wrap .u64 (PV.toI v123))) (shrI IntKind.u64 x1 (IntKind.wrap .u64 (64 - (IntKind.wrap .u64 (PV.toI v123)))))) - (IntKind.wrap .u64 ((IntKind.wrap .u64 (Int.tdiv (orI IntKind.u64 (shlI IntKind.u64 x0 (IntKind.wrap .u64 (PV.toI v123))) (shrI IntKind.u64 x1 (IntKind.wrap .u64 (64 - (IntKind.wrap .u64 (PV.toI v123)))))) (shrI IntKind.u64 (shlI IntKind.u64 x2 (IntKind.wrap .u64 (PV.toI v123))) 32))) * (shrI IntKind.u64 (shlI IntKind.u64 x2 (IntKind.wrap .u64 (PV.toI v123))) 32))))))))))))) :=
 (z1 EE _ _).trans (by kernel_rfl)
theorem zvc (a0 : List PV) : zdb a0 =
  ((takeS a0 2).bind fun v137 => ((z9w v137 (PV.func (Go.Fn.func z34) [] [])).bind fun v138 => (bif (ltB (PV.toI v138) 0) then (some (PV.tuple [(PV.agg [(PV.int .i64 0), (PV.int .i64 0), (PV.int .i64 0)]), (PV.bool false)])) else (bif (ltN 0 (List.length a0)) then ((appL 16 [] a0).bind fun v139 => (bif (leN (List.length v139) 0) then (bif (decide ((0 ≤ (PV.toI v138)) ∧ (((PV.toI v138) ≤ (IntKind.wrap .i64 ((PV.toI v138) + 1))) ∧ (((IntKind.wrap .i64 ((PV.toI v138) + 1)) ≤ (((List.length v139) : Nat) : Int)) ∧ ((((List.length v139) : Nat) : Int) ≤ (((List.length v139) : Nat) : Int)))))) then (bif (eqB (PV.toI v138) (IntKind.wrap .i64 ((PV.toI v138) + 1))) then (zvd a0 (PV.toI v138) 0 0 0 v139 0) else (bif (decide ((0 ≤ (PV.toI v138)) ∧ ((PV.toI v138) ≤ (((List.length v139) : Nat) : Int)))) then (bif (decide ((0 ≤ (IntKind.wrap .i64 ((PV.toI v138) + 1))) ∧ ((IntKind.wrap .i64 ((PV.toI v138) + 1)) ≤ (((List.length v139) : Nat) : Int)))) then (bif (true && (leN ((0 + (Int.toNat (PV.toI v138))) + (List.length (List.take ((List.length v139) - (Int.toNat (IntKind.wrap .i64 ((PV.toI v138) + 1)))) (List.drop (Int.toNat (IntKind.wrap .i64 ((PV.toI v138) + 1))) v139)))) (List.length v139))) then (bif (decide ((0 ≤ ((((Int.toNat (PV.toI v138)) + (List.length (List.take ((List.length v139) - (Int.toNat (IntKind.wrap .i64 ((PV.toI v138) + 1)))) (List.drop (Int.toNat (IntKind.wrap .i64 ((PV.toI v138) + 1))) v139)))) : Nat) : Int)) ∧ ((((((Int.toNat (PV.toI v138)) + (List.length (List.take ((List.length v139) - (Int.toNat (IntKind.wrap .i64 ((PV.toI v138) + 1)))) (List.drop (Int.toNat (IntKind.wrap .i64 ((PV.toI v138) + 1))) v139)))) : Nat) : Int) ≤ (((List.length v139) : Nat) : Int)) ∧ ((((0 : Nat) : Int) + (((List.length v139) : Nat) : Int)) ≤ (((List.length ((List.take (0 + (Int.toNat (PV.toI v138))) v139) ++ ((List.take ((List.length v139) - (Int.toNat (IntKind.wrap .i64 ((PV.toI v138) + 1)))) (List.drop (Int.toNat (IntKind.wrap .i64 ((PV.toI v138) + 1))) v139)) ++ (List.drop ((0 + (Int.toNat (PV.toI v138))) + (List.length (List.take ((List.length v139) - (Int.toNat (IntKind.wrap .i64 ((PV.toI v138) + 1)))) (List.drop (Int.toNat (IntKind.wrap .i64 ((PV.toI v138) + 1))) v139)))) v139)))) : Nat) : Int))))) then (zrq a0 (PV.toI v138) 0 ((Int.toNat (PV.toI v138)) + (List.length (List.take ((List.length v139) - (Int.toNat (IntKind.wrap .i64 ((PV.toI v138) + 1)))) (List.drop (Int.toNat (IntKind.wrap .i64 ((PV.toI v138) + 1))) v139)))) 0 0 0 ((List.take (0 + (Int.toNat ((((Int.toNat (PV.toI v138)) + (List.length (List.take ((List.length v139) - (Int.toNat (IntKind.wrap .i64 ((PV.toI v138) + 1)))) (List.drop (Int.toNat (IntKind.wrap .i64 ((PV.toI v138) + 1))) v139)))) : Nat) : Int))) ((List.take (0 + (Int.toNat (PV.toI v138))) v139) ++ ((List.take ((List.length v139) - (Int.toNat (IntKind.wrap .i64 ((PV.toI v138) + 1)))) (List.drop (Int.toNat (IntKind.wrap .i64 ((PV.toI v138) + 1))) v139)) ++ (List.drop ((0 + (Int.toNat (PV.toI v138))) + (List.length (List.take ((List.length v139) - (Int.toNat (IntKind.wrap .i64 ((PV.toI v138) + 1)))) (List.drop (Int.toNat (IntKind.wrap .i64 ((PV.toI v138) + 1))) v139)))) v139)))) ++ ((List.replicate ((Int.toNat (((List.length v139) : Nat) : Int)) - (Int.toNat ((((Int.toNat (PV.toI v138)) + (List.length (List.take ((List.length v139) - (Int.toNat (IntKind.wrap .i64 ((PV.toI v138) + 1)))) (List.drop (Int.toNat (IntKind.wrap .i64 ((PV.toI v138) + 1))) v139)))) : Nat) : Int))) (PV.str [])) ++ (List.drop ((0 + (Int.toNat ((((Int.toNat (PV.toI v138)) + (List.length (List.take ((List.length v139) - (Int.toNat (IntKind.wrap .i64 ((PV.toI v138) + 1)))) (List.drop (Int.toNat (IntKind.wrap .i64 ((PV.toI v138) + 1))) v139)))) : Nat) : Int))) + ((Int.toNat (((List.length v139) : Nat) : Int)) - (Int.toNat ((((Int.toNat (PV.toI v138)) + (List.length (List.take ((List.length v139) - (Int.toNat (IntKind.wrap .i64 ((PV.toI v138) + 1)))) (List.drop (Int.toNat (IntKind.wrap .i64 ((PV.toI v138) + 1))) v139)))) : Nat) : Int)))) ((List.take (0 + (Int.toNat (PV.toI v138))) v139) ++ ((List.take ((List.length v139) - (Int.toNat (IntKind.wrap .i64 ((PV.toI v138) + 1)))) (List.drop (Int.toNat (IntKind.wrap .i64 ((PV.toI v138) + 1))) v139)) ++ (List.drop ((0 + (Int.toNat (PV.toI v138))) + (List.length (List.take ((List.length v139) - (Int.toNat (IntKind.wrap .i64 ((PV.toI v138) + 1)))) (List.drop (Int.toNat (IntKind.wrap .i64 ((PV.toI v138) + 1))) v139)))) v139)))))) 0) else none) else ((appL 16 (List.take (Int.toNat (PV.toI v138)) v139) (List.take ((List.length v139) - (Int.toNat (IntKind.wrap .i64 ((PV.toI v138) + 1)))) (List.drop (Int.toNat (IntKind.wrap .i64 ((PV.toI v138) + 1))) v139))).bind fun v140 => (bif (decide ((0 ≤ (((List.length v140) : Nat) : Int)) ∧ (((((List.length v140) : Nat) : Int) ≤ (((List.length v139) : Nat) : Int)) ∧ ((((List.length v139) : Nat) : Int) ≤ (((List.length v140) : Nat) : Int))))) then (zb1 a0 (PV.toI v138) 0 0 0 ((List.take (Int.toNat (((List.length v140) : Nat) : Int)) v140) ++ ((List.replicate ((Int.toNat (((List.length v139) : Nat) : Int)) - (Int.toNat (((List.length v140) : Nat) : Int))) (PV.str [])) ++ (List.drop ((Int.toNat (((List.length v140) : Nat) : Int)) + ((Int.toNat (((List.length v139) : Nat) : Int)) - (Int.toNat (((List.length v140) : Nat) : Int)))) v140)))) else none))) else none) else none)) else none) else (bif (decide ((0 ≤ (PV.toI v138)) ∧ (((PV.toI v138) ≤ (IntKind.wrap .i64 ((PV.toI v138) + 1))) ∧ (((IntKind.wrap .i64 ((PV.toI v138) + 1)) ≤ (((List.length v139) : Nat) : Int)) ∧ ((((List.length v139) : Nat) : Int) ≤ (((List.length v139) : Nat) : Int)))))) then (bif (eqB (PV.toI v138) (IntKind.wrap .i64 ((PV.toI v138) + 1))) then (zb1 a0 (PV.toI v138) 0 0 0 v139) else (bif (decide ((0 ≤ (PV.toI v138)) ∧ ((PV.toI v138) ≤ (((List.length v139) : Nat) : Int)))) then (bif (decide ((0 ≤ (IntKind.wrap .i64 ((PV.toI v138) + 1))) ∧ ((IntKind.wrap .i64 ((PV.toI v138) + 1)) ≤ (((List.length v139) : Nat) : Int)))) then (bif (true && (leN ((0 + (Int.toNat (PV.toI v138))) + (List.length (List.take ((List.length v139) - (Int.toNat (IntKind.wrap .i64 ((PV.toI v138) + 1)))) (List.drop (Int.toNat (IntKind.wrap .i64 ((PV.toI v138) + 1))) v139)))) (List.length v139))) then (bif (decide ((0 ≤ ((((Int.toNat (PV.toI v138)) + (List.length (List.take ((List.length v139) - (Int.toNat (IntKind.wrap .i64 ((PV.toI v138) + 1)))) (List.drop (Int.toNat (IntKind.wrap .i64 ((PV.toI v138) + 1))) v139)))) : Nat) : Int)) ∧ ((((((Int.toNat (PV.toI v138)) + (List.length (List.take ((List.length v139) - (Int.toNat (IntKind.wrap .i64 ((PV.toI v138) + 1)))) (List.drop (Int.toNat (IntKind.wrap .i64 ((PV.toI v138) + 1))) v139)))) : Nat) : Int) ≤ (((List.length v139) : Nat) : Int)) ∧ ((((0 : Nat) : Int) + (((List.length v139) : Nat) : Int)) ≤ (((List.length ((List.take (0 + (Int.toNat (PV.toI v138))) v139) ++ ((List.take ((List.length v139) - (Int.toNat (IntKind.wrap .i64 ((PV.toI v138) + 1)))) (List.drop (Int.toNat (IntKind.wrap .i64 ((PV.toI v138) + 1))) v139)) ++ (List.drop ((0 + (Int.toNat (PV.toI v138))) + (List.length (List.take ((List.length v139) - (Int.toNat (IntKind.wrap .i64 ((PV.toI v138) + 1)))) (List.drop (Int.toNat (IntKind.wrap .i64 ((PV.toI v138) + 1))) v139)))) v139)))) : Nat) : Int))))) then (z5k a0 (PV.toI v138) 0 ((Int.toNat (PV.toI v138)) + (List.length (List.take ((List.length v139) - (Int.toNat (IntKind.wrap .i64 ((PV.toI v138) + 1)))) (List.drop (Int.toNat (IntKind.wrap .i64 ((PV.toI v138) + 1))) v139)))) 0 0 0 ((List.take (0 + (Int.toNat ((((Int.toNat (PV.toI v138)) + (List.length (List.take ((List.length v139) - (Int.toNat (IntKind.wrap .i64 ((PV.toI v138) + 1)))) (List.drop (Int.toNat (IntKind.wrap .i64 ((PV.toI v138) + 1))) v139)))) : Nat) : Int))) ((List.take (0 + (Int.toNat (PV.toI v138))) v139) ++ ((List.take ((List.length v139) - (Int.toNat (IntKind.wrap .i64 ((PV.toI v138) + 1)))) (List.drop (Int.toNat (IntKind.wrap .i64 ((PV.toI v138) + 1))) v139)) ++ (List.drop ((0 + (Int.toNat (PV.toI v138))) + (List.length (List.take ((List.length v139) - (Int.toNat (IntKind.wrap .i64 ((PV.toI v138) + 1)))) (List.drop (Int.toNat (IntKind.wrap .i64 ((PV.toI v138) + 1))) v139)))) v139)))) ++ ((List.replicate ((Int.toNat (((List.length v139) : Nat) : Int)) - (Int.toNat ((((Int.toNat (PV.toI v138)) + (List.length (List.take ((List.length v139) - (Int.toNat (IntKind.wrap .i64 ((PV.toI v138) + 1)))) (List.drop (Int.toNat (IntKind.wrap .i64 ((PV.toI v138) + 1))) v139)))) : Nat) : Int))) (PV.str [])) ++ (List.drop ((0 + (Int.toNat ((((Int.toNat (PV.toI v138)) + (List.length (List.take ((List.length v139) - (Int.toNat (IntKind.wrap .i64 ((PV.toI v138) + 1)))) (List.drop (Int.toNat (IntKind.wrap .i64 ((PV.toI v138) + 1))) v139)))) : Nat) : Int))) + ((Int.toNat (((List.length v139) : Nat) : Int)) - (Int.toNat ((((Int.toNat (PV.toI v138)) + (List.length (List.take ((List.length v139) - (Int.toNat (IntKind.wrap .i64 ((PV.toI v138) + 1)))) (List.drop (Int.toNat (IntKind.wrap .i64 ((PV.toI v138) + 1))) v139)))) : Nat) : Int)))) ((List.take (0 + (Int.toNat (PV.toI v138))) v139) ++ ((List.take ((List.length v139) - (Int.toNat (IntKind.wrap .i64 ((PV.toI v138) + 1)))) (List.drop (Int.toNat (IntKind.wrap .i64 ((PV.toI v138) + 1))) v139)) ++ (List.drop ((0 + (Int.toNat (PV.toI v138))) + (List.length (List.take ((List.length v139) - (Int.toNat (IntKind.wrap .i64 ((PV.toI v138) + 1)))) (List.drop (Int.toNat (IntKind.wrap .i64 ((PV.toI v138) + 1))) v139)))) v139))))))) else none) else ((appL 16 (List.take (Int.toNat (PV.toI v138)) v139) (List.take ((List.length v139) - (Int.toNat (IntKind.wrap .i64 ((PV.toI v138) + 1)))) (List.drop (Int.toNat (IntKind.wrap .i64 ((PV.toI v138) + 1))) v139))).bind fun v141 => (bif (decide ((0 ≤ (((List.length v141) : Nat) : Int)) ∧ (((((List.length v141) : Nat) : Int) ≤ (((List.length v139) : Nat) : Int)) ∧ ((((List.length v139) : Nat) : Int) ≤ (((List.length v141) : Nat) : Int))))) then (zb1 a0 (PV.toI v138) 0 0 0 ((List.take (Int.toNat (((List.length v141) : Nat) : Int)) v141) ++ ((List.replicate ((Int.toNat (((List.length v139) : Nat) : Int)) - (Int.toNat (((List.length v141) : Nat) : Int))) (PV.str [])) ++ (List.drop ((Int.toNat (((List.length v141) : Nat) : Int)) + ((Int.toNat (((List.length v139) : Nat) : Int)) - (Int.toNat (((List.length v141) : Nat) : Int)))) v141)))) else none))) else none) else none)) else none))) else none)))) :=
 (z3 EE z25 _ rfl).trans (by kernel_rfl)
theorem zda (x0 : List PV) (x1 : Int) (x2 : Nat) (x3 : Nat) (x4 x5 x6 : Int) (x7 : List PV) : z5k x0 x1 x2 x3 x4 x5 x6 x7 =
  (bif (eqB x1 1) then (bif (inB 0 0 ((x3 : Nat) : Int)) then ((rdT tiStr x7 x2 0).bind fun v148 => ((z4q (PV.toS v148) 3 6).bind fun v149 => (bif (PV.toB v149) then (zgu x0 x1 x2 x3 x4 x5 x6 x7) else (z22 x0 x1 x2 x3 x4 x5 x6 x7)))) else none) else (z22 x0 x1 x2 x3 x4 x5 x6 x7)) :=
 (z1 EE _ _).trans (by kernel_rfl)
theorem zlu (x0 : List PV) (x1 : Int) (x2 : Nat) (x3 : Nat) (x4 x5 x6 : Int) (x7 : List PV) : zgu x0 x1 x2 x3 x4 x5 x6 x7 =
  (z1c x2 x3 0 (IntKind.wrap .i64 (((x3 : Nat) : Int) - 1)) x7 x4 x5 x6 x0 x1 x2 x3 x2 x3) :=
 (z1 EE _ _).trans (by kernel_rfl)
theorem zlt (x0 : List PV) (x1 : Int) (x2 : Nat) (x3 : Nat) (x4 x5 x6 : Int) (x7 : List PV) : z22 x0 x1 x2 x3 x4 x5 x6 x7 =
  (bif (inB 0 1 ((x3 : Nat) : Int)) then ((rdT tiStr x7 (x2 + 1) 0).bind fun v180 => ((z7r (PV.toS v180)).bind fun v181 => ((rdI tiStr x0 x1).bind fun v182 => ((zhd (PV.toS v182)).bind fun v183 => (bif (inB 0 0 ((x3 : Nat) : Int)) then ((rdT tiStr x7 x2 0).bind fun v184 => ((z7r (PV.toS v184)).bind fun v185 => (bif (inB 0 0 ((x3 : Nat) : Int)) then ((rdT tiStr x7 x2 0).bind fun v186 => ((z4q (PV.toS v186) 1 2).bind fun v187 => (bif (PV.toB v187) then (bif (inB 0 1 ((x3 : Nat) : Int)) then ((rdT tiStr x7 (x2 + 1) 0).bind fun v188 => ((z4q (PV.toS v188) 3 6).bind fun v189 => (some (PV.tuple [(PV.agg [(PV.int .i64 (PV.toI v181)), (PV.int .i64 (PV.toI v183)), (PV.int .i64 (PV.toI v185))]), (PV.bool (PV.toB v189))])))) else none) else (some (PV.tuple [(PV.agg [(PV.int .i64 (PV.toI v181)), (PV.int .i64 (PV.toI v183)), (PV.int .i64 (PV.toI v185))]), (PV.bool false)]))))) else none))) else none))))) else none) :=
 (z1 EE _ _).trans (by kernel_rfl)
theorem z36 (x0 : Nat) (x1 : Nat) (x2 x3 : Int) (x4 : List PV) (x5 x6 x7 : Int) (x8 : List PV) (x9 : Int) (x10 : Nat) (x11 : Nat) (x12 : Nat) (x13 : Nat) : z1c x0 x1 x2 x3 x4 x5 x6 x7 x8 x9 x10 x11 x12 x13 =
  (bif (ltB x2 x3) then (bif (inB 0 x3 ((x1 : Nat) : Int)) then ((rdT tiStr x4 (x0 + (Int.toNat x3)) 0).bind fun v202 => (bif (inB 0 x2 ((x1 : Nat) : Int)) then ((rdT tiStr x4 (x0 + (Int.toNat x2)) 0).bind fun v203 => (bif (inB 0 x2 ((x1 : Nat) : Int)) then ((stC x4 (x0 + (Int.toNat x2)) 0 [(PV.str (PV.toS v202))]).bind fun v204 => (bif (inB 0 x3 ((x1 : Nat) : Int)) then ((stC v204 (x0 + (Int.toNat x3)) 0 [(PV.str (PV.toS v203))]).bind fun v205 => (z1c x0 x1 (IntKind.wrap .i64 (x2 + 1)) (IntKind.wrap .i64 (x3 - 1)) v205 x5 x6 x7 x8 x9 x10 x11 x12 x13)) else none)) else none)) else none)) else none) else (z22 x8 x9 x10 x11 x5 x6 x7 x4)) :=
 (z1 EE _ _).trans (by kernel_rfl)
theorem zkk (a0 : List PV) (a1 : PV) : z9w a0 a1 =
  (bif ((okOther a1) && true) then (z87 a0 a1 (((List.length a0) : Nat) : Int) 0) else none) :=
 (z3 EE z5e _ rfl).trans (by kernel_rfl)
theorem z6b (x0 : List PV) (x1 : PV) (x2 x3 : Int) : z87 x0 x1 x2 x3 =
  (bif (ltB x3 x2) then ((rdI tiStr x0 x3).bind fun v150 => ((callW EE ([zs8]) x1 [(PV.str (PV.toS v150))]).bind fun v151 => (bif (PV.toB v151) then (some (PV.int .i64 x3)) else (z87 x0 x1 x2 (IntKind.wrap .i64 (x3 + 1)))))) else (some (PV.int .i64 (-1)))) :=
 (z1 EE _ _).trans (by kernel_rfl)
theorem zrr (a0 : List UInt8) : zkl a0 =
  ((zhd a0).bind fun v173 => (some (PV.bool (ltB 0 (PV.toI v173))))) :=
 (z3 EE z34 _ rfl).trans (by kernel_rfl)
theorem zvb (a0 : List UInt8) : zd9 a0 =
  ((takeS a0 4).bind fun v206 => ((z7r v206).bind fun v207 => ((subS a0 4 6).bind fun v208 => ((z7r v208).bind fun v209 => ((dropS a0 6).bind fun v210 => ((z7r v210).bind fun v211 => (some (PV.tuple [(PV.agg [(PV.int .i64 (PV.toI v207)), (PV.int .i64 (PV.toI v209)), (PV.int .i64 (PV.toI v211))]), (PV.bool true)])))))))) :=
 (z3 EE zj7 _ rfl).trans (by kernel_rfl)
theorem zva (a0_0 : List PV) (a0_1 : Int) : zd8 a0_0 a0_1 =
  ((rdI tiStr a0_0 0).bind fun v152 => ((rdI tiStr a0_0 1).bind fun v153 => ((rdI tiStr a0_0 2).bind fun v154 => ((rdI tiStr a0_0 0).bind fun v155 => ((z4q (PV.toS v155) 3 6).bind fun v156 => (bif (PV.toB v156) then (z5d (PV.toS v152) (PV.toS v153) (PV.toS v154) 0 0 0) else (bif (eqB a0_1 0) then (z5d (PV.toS v152) (PV.toS v153) (PV.toS v154) 0 0 0) else (ziw (PV.toS v152) (PV.toS v153) (PV.toS v154) a0_0 a0_1 0 0 0)))))))) :=
 (z3 EE z7e _ rfl).trans (by kernel_rfl)
theorem zoi (x0 : List UInt8) (x1 : List UInt8) (x2 : List UInt8) (x3 x4 x5 : Int) : z5d x0 x1 x2 x3 x4 x5 =
  ((z13i x0).bind fun v157 => ((z7r x1).bind fun v158 => ((z7r x2).bind fun v159 => ((z4q x1 1 2).bind fun v160 => (bif (PV.toB v160) then ((z4q x2 1 2).bind fun v161 => (bif (PV.toB v161) then ((z4q x0 1 6).bind fun v162 => (some (PV.tuple [(PV.agg [(PV.int .i64 (PV.toI v157)), (PV.int .i64 (PV.toI v158)), (PV.int .i64 (PV.toI v159))]), (PV.bool (PV.toB v162))]))) else (some (PV.tuple [(PV.agg [(PV.int .i64 (PV.toI v157)), (PV.int .i64 (PV.toI v158)), (PV.int .i64 (PV.toI v159))]), (PV.bool false)])))) else (some (PV.tuple [(PV.agg [(PV.int .i64 (PV.toI v157)), (PV.int .i64 (PV.toI v158)), (PV.int .i64 (PV.toI v159))]), (PV.bool false)]))))))) :=
 (z1 EE _ _).trans (by kernel_rfl)
theorem zoj (x0 : List UInt8) (x1 : List UInt8) (x2 : List UInt8) (x3 : List PV) (x4 x5 x6 x7 : Int) : ziw x0 x1 x2 x3 x4 x5 x6 x7 =
  (bif (eqB x4 1) then (z5d x2 x1 x0 x5 x6 x7) else ((rdI tiStr x3 2).bind fun v163 => ((rdI tiStr x3 0).bind fun v164 => ((rdI tiStr x3 1).bind fun v165 => (z5d (PV.toS v163) (PV.toS v164) (PV.toS v165) x5 x6 x7))))) :=
 (z1 EE _ _).trans (by kernel_rfl)
theorem z1cx (a0 : List UInt8) : z13i a0 =
  ((z7r a0).bind fun v174 => ((z4q a0 3 6).bind fun v175 => (bif (PV.toB v175) then (some (PV.int .i64 (PV.toI v174))) else ((z4q a0 1 2).bind fun v176 => (bif (!(PV.toB v176)) then (some (PV.int .i64 0)) else (bif (ltB (PV.toI v174) 70) then (some (PV.int .i64 (IntKind.wrap .i64 (2000 + (PV.toI v174))))) else (some (PV.int .i64 (IntKind.wrap .i64 (1900 + (PV.toI v174))))))))))) :=
 (z3 EE zzz _ rfl).trans (by kernel_rfl)
end Dv
