/- The seat's functions, as equations. -/
import Derived.Test.YtdniadhpgohccaaGreatDoorQ1
import Derived.Test.YtdniadhpgohccaaGreatDoorL1
set_option linter.unusedVariables false
set_option linter.unusedSimpArgs false
set_option maxRecDepth 100000
set_option linter.unusedVariables false
namespace Dv
open Go
noncomputable def zcy (a0 : List UInt8) (a1_0 a1_1 a1_2 : Int) : Option PV := callF EE zae [(.str a0), (.agg [(.int IntKind.i64 a1_0), (.int IntKind.i64 a1_1), (.int IntKind.i64 a1_2)])]
noncomputable def zs9 (a0 : List UInt8) : Option PV := callF EE z19d [(.str a0)]
noncomputable def zbc  : Option PV := callF EE zdm []
noncomputable abbrev z2o : List TI := funTI EE z26
noncomputable def zen (a0 : List UInt8) (a1_0 a1_1 a1_2 : Int) : Option PV := callF EE z26 [(.str a0), (.agg [(.int IntKind.i64 a1_0), (.int IntKind.i64 a1_1), (.int IntKind.i64 a1_2)])]
noncomputable def z9p (x0 : Bool) (x1 x2 x3 x4 x5 : Int) (x6 : List PV) : Option PV :=
 runW EE z2o (ze EE z26 9 (mkT 54 [(3, (.ptr 0 0)), (4, (.ptr 1 0)), (7, (.ptr 2 0)), (10, (.bool x0))]) [(.cells z2u [(.int IntKind.i64 x1), (.int IntKind.i64 x2), (.int IntKind.i64 x3)] false), (.cells z29 [(.int IntKind.i64 x4), (.int IntKind.i64 x5)] false), (.cells z6 [(.sl 1 x6)] false)])
noncomputable def zao (x0 : Bool) (x1 : List PV) (x2 x3 x4 x5 x6 x7 x8 x9 : Int) (x10 : Bool) (x11 : Bool) (x12 : Int) : Option PV :=
 runW EE z2o (z1o EE z1i 3 (mkT 79 [(0, (.ptr 0 0)), (1, (.bool x0)), (6, (.ptr 1 0))]) [(.cells z6 [(.sl 1 x1)] false), (.cells zh [(.int IntKind.i64 x2), (.int IntKind.i64 x3), (.int IntKind.i64 x4)] false), (.cells z2u [(.int IntKind.i64 x5), (.int IntKind.i64 x6), (.int IntKind.i64 x7)] false), (.cells z29 [(.int IntKind.i64 x8), (.int IntKind.i64 x9)] false)] [frAt EE z26 9 3 (mkT 54 [(3, (.ptr 2 0)), (4, (.ptr 3 0)), (7, (.ptr 0 0)), (10, (.bool x10)), (31, (.bool x11)), (32, (.ptr 2 1)), (33, (.int IntKind.i64 x12))]) []] [])
noncomputable def z4u (x0 : Bool) (x1 : Int) (x2 : List PV) (x3 x4 x5 x6 x7 x8 x9 x10 : Int) (x11 : Bool) (x12 : Bool) (x13 : Int) : Option PV :=
 runW EE z2o (z1o EE z1i 5 (mkT 79 [(0, (.ptr 0 0)), (1, (.bool x0)), (2, (.int IntKind.i64 x1)), (6, (.ptr 1 0)), (8, .nili)]) [(.cells z6 [(.sl 1 x2)] false), (.cells zh [(.int IntKind.i64 x3), (.int IntKind.i64 x4), (.int IntKind.i64 x5)] false), (.cells z2u [(.int IntKind.i64 x6), (.int IntKind.i64 x7), (.int IntKind.i64 x8)] false), (.cells z29 [(.int IntKind.i64 x9), (.int IntKind.i64 x10)] false)] [frAt EE z26 9 3 (mkT 54 [(3, (.ptr 2 0)), (4, (.ptr 3 0)), (7, (.ptr 0 0)), (10, (.bool x11)), (31, (.bool x12)), (32, (.ptr 2 1)), (33, (.int IntKind.i64 x13))]) []] [])
noncomputable def z7n (x0 : Bool) (x1 : List PV) (x2 x3 x4 x5 x6 x7 x8 x9 : Int) (x10 : List PV) (x11 : Bool) (x12 : Bool) (x13 : Int) : Option PV :=
 runW EE z2o (z1o EE z1i 8 (mkT 79 [(1, (.bool x0)), (6, (.ptr 0 0)), (8, (.iface zrg (.sl 1 x1)))]) [(.cells zh [(.int IntKind.i64 x2), (.int IntKind.i64 x3), (.int IntKind.i64 x4)] false), (.cells z2u [(.int IntKind.i64 x5), (.int IntKind.i64 x6), (.int IntKind.i64 x7)] false), (.cells z29 [(.int IntKind.i64 x8), (.int IntKind.i64 x9)] false), (.cells z6 [(.sl 1 x10)] false)] [frAt EE z26 9 3 (mkT 54 [(3, (.ptr 1 0)), (4, (.ptr 2 0)), (7, (.ptr 3 0)), (10, (.bool x11)), (31, (.bool x12)), (32, (.ptr 1 1)), (33, (.int IntKind.i64 x13))]) []] [])
noncomputable def z4t (x0 : Bool) (x1 : Int) (x2 : List UInt8) (x3 : Bool) (x4 x5 x6 x7 x8 x9 x10 x11 : Int) (x12 : List PV) (x13 : Bool) (x14 : Bool) (x15 : Int) : Option PV :=
 runW EE z2o (z1o EE z1i 6 (mkT 79 [(1, (.bool x0)), (2, (.int IntKind.i64 x1)), (6, (.ptr 0 0)), (8, .nili), (9, (.str x2)), (10, (.bool x3))]) [(.cells zh [(.int IntKind.i64 x4), (.int IntKind.i64 x5), (.int IntKind.i64 x6)] false), (.cells z2u [(.int IntKind.i64 x7), (.int IntKind.i64 x8), (.int IntKind.i64 x9)] false), (.cells z29 [(.int IntKind.i64 x10), (.int IntKind.i64 x11)] false), (.cells z6 [(.sl 1 x12)] false)] [frAt EE z26 9 3 (mkT 54 [(3, (.ptr 1 0)), (4, (.ptr 2 0)), (7, (.ptr 3 0)), (10, (.bool x13)), (31, (.bool x14)), (32, (.ptr 1 1)), (33, (.int IntKind.i64 x15))]) []] [])
noncomputable def z14 (x0 x1 x2 x3 x4 x5 x6 x7 : Int) (x8 : List PV) (x9 : Bool) (x10 : Bool) (x11 : Int) : Option PV :=
 runW EE z2o (z1o EE z1i 12 (mkT 79 [(6, (.ptr 0 0))]) [(.cells zh [(.int IntKind.i64 x0), (.int IntKind.i64 x1), (.int IntKind.i64 x2)] false), (.cells z2u [(.int IntKind.i64 x3), (.int IntKind.i64 x4), (.int IntKind.i64 x5)] false), (.cells z29 [(.int IntKind.i64 x6), (.int IntKind.i64 x7)] false), (.cells z6 [(.sl 1 x8)] false)] [frAt EE z26 9 3 (mkT 54 [(3, (.ptr 1 0)), (4, (.ptr 2 0)), (7, (.ptr 3 0)), (10, (.bool x9)), (31, (.bool x10)), (32, (.ptr 1 1)), (33, (.int IntKind.i64 x11))]) []] [])
noncomputable def z33 (x0 : Bool) (x1 x2 x3 x4 x5 x6 x7 x8 x9 x10 x11 : Int) (x12 : List PV) (x13 : Bool) (x14 : Bool) (x15 : Int) : Option PV :=
 runW EE z2o (z1o EE z1i 13 (mkT 79 [(1, (.bool x0)), (6, (.ptr 0 0)), (11, (.ptr 1 0))]) [(.cells zh [(.int IntKind.i64 x1), (.int IntKind.i64 x2), (.int IntKind.i64 x3)] false), (.cells zh [(.int IntKind.i64 x4), (.int IntKind.i64 x5), (.int IntKind.i64 x6)] false), (.cells z2u [(.int IntKind.i64 x7), (.int IntKind.i64 x8), (.int IntKind.i64 x9)] false), (.cells z29 [(.int IntKind.i64 x10), (.int IntKind.i64 x11)] false), (.cells z6 [(.sl 1 x12)] false)] [frAt EE z26 9 3 (mkT 54 [(3, (.ptr 2 0)), (4, (.ptr 3 0)), (7, (.ptr 4 0)), (10, (.bool x13)), (31, (.bool x14)), (32, (.ptr 2 1)), (33, (.int IntKind.i64 x15))]) []] [])
noncomputable def z9o (x0 : Bool) (x1 : List UInt8) (x2 x3 x4 x5 x6 x7 x8 x9 : Int) (x10 : List PV) (x11 : Bool) (x12 : Bool) (x13 : Int) : Option PV :=
 runW EE z2o (z1o EE z1i 8 (mkT 79 [(1, (.bool x0)), (6, (.ptr 0 0)), (8, (.iface zrf (.str x1)))]) [(.cells zh [(.int IntKind.i64 x2), (.int IntKind.i64 x3), (.int IntKind.i64 x4)] false), (.cells z2u [(.int IntKind.i64 x5), (.int IntKind.i64 x6), (.int IntKind.i64 x7)] false), (.cells z29 [(.int IntKind.i64 x8), (.int IntKind.i64 x9)] false), (.cells z6 [(.sl 1 x10)] false)] [frAt EE z26 9 3 (mkT 54 [(3, (.ptr 1 0)), (4, (.ptr 2 0)), (7, (.ptr 3 0)), (10, (.bool x11)), (31, (.bool x12)), (32, (.ptr 1 1)), (33, (.int IntKind.i64 x13))]) []] [])
noncomputable def z3y (x0 : List UInt8) (x1 : Int) (x2 : List UInt8) (x3 : Nat) (x4 x5 x6 x7 x8 x9 x10 x11 : Int) (x12 : List PV) (x13 : Bool) (x14 : Int) (x15 : List UInt8) (x16 : List UInt8) (x17 : Int) (x18 : Bool) (x19 : Bool) (x20 : Int) : Option PV :=
 runW EE z2o (z1o EE zpv 4 (mkT 37 [(0, (.str x0)), (1, (.int IntKind.i64 x1)), (12, (.ptr 0 0))]) [(.iter x2 x3), (.cells zh [(.int IntKind.i64 x4), (.int IntKind.i64 x5), (.int IntKind.i64 x6)] false), (.cells z2u [(.int IntKind.i64 x7), (.int IntKind.i64 x8), (.int IntKind.i64 x9)] false), (.cells z29 [(.int IntKind.i64 x10), (.int IntKind.i64 x11)] false), (.cells z6 [(.sl 1 x12)] false)] [frAt EE z1i 7 2 (mkT 79 [(1, (.bool x13)), (2, (.int IntKind.i64 x14)), (6, (.ptr 1 0)), (8, .nili), (9, (.str x15)), (41, (.str x16)), (42, (.int IntKind.i64 x17))]) [], frAt EE z26 9 3 (mkT 54 [(3, (.ptr 2 0)), (4, (.ptr 3 0)), (7, (.ptr 4 0)), (10, (.bool x18)), (31, (.bool x19)), (32, (.ptr 2 1)), (33, (.int IntKind.i64 x20))]) []] [])
noncomputable def z68 (x0 : Bool) (x1 x2 x3 x4 x5 x6 x7 x8 : Int) (x9 : List PV) (x10 : Bool) (x11 : Bool) (x12 : Int) : Option PV :=
 runW EE z2o (z1o EE z1i 8 (mkT 79 [(1, (.bool x0)), (6, (.ptr 0 0)), (8, .nili)]) [(.cells zh [(.int IntKind.i64 x1), (.int IntKind.i64 x2), (.int IntKind.i64 x3)] false), (.cells z2u [(.int IntKind.i64 x4), (.int IntKind.i64 x5), (.int IntKind.i64 x6)] false), (.cells z29 [(.int IntKind.i64 x7), (.int IntKind.i64 x8)] false), (.cells z6 [(.sl 1 x9)] false)] [frAt EE z26 9 3 (mkT 54 [(3, (.ptr 1 0)), (4, (.ptr 2 0)), (7, (.ptr 3 0)), (10, (.bool x10)), (31, (.bool x11)), (32, (.ptr 1 1)), (33, (.int IntKind.i64 x12))]) []] [])
noncomputable def z3h (x0 : Bool) (x1 x2 : Int) (x3 : List PV) (x4 x5 x6 : Int) : Option PV :=
 runW EE z2o (ze EE z26 10 (mkT 54 [(4, (.ptr 0 0)), (7, (.ptr 1 0)), (11, (.ptr 2 0)), (12, (.bool x0))]) [(.cells z29 [(.int IntKind.i64 x1), (.int IntKind.i64 x2)] false), (.cells z6 [(.sl 1 x3)] false), (.cells zh [(.int IntKind.i64 x4), (.int IntKind.i64 x5), (.int IntKind.i64 x6)] false)])
noncomputable def z49 (x0 x1 x2 x3 x4 x5 x6 x7 x8 x9 x10 : Int) (x11 : List PV) (x12 : Bool) (x13 : Bool) (x14 : Int) : Option PV :=
 runW EE z2o (z1o EE z1i 15 (mkT 79 [(6, (.ptr 0 0)), (11, (.ptr 1 0))]) [(.cells zh [(.int IntKind.i64 x0), (.int IntKind.i64 x1), (.int IntKind.i64 x2)] false), (.cells zh [(.int IntKind.i64 x3), (.int IntKind.i64 x4), (.int IntKind.i64 x5)] false), (.cells z2u [(.int IntKind.i64 x6), (.int IntKind.i64 x7), (.int IntKind.i64 x8)] false), (.cells z29 [(.int IntKind.i64 x9), (.int IntKind.i64 x10)] false), (.cells z6 [(.sl 1 x11)] false)] [frAt EE z26 9 3 (mkT 54 [(3, (.ptr 2 0)), (4, (.ptr 3 0)), (7, (.ptr 4 0)), (10, (.bool x12)), (31, (.bool x13)), (32, (.ptr 2 1)), (33, (.int IntKind.i64 x14))]) []] [])
noncomputable def z3x (x0 : Bool) (x1 : List PV) (x2 x3 x4 x5 x6 x7 x8 x9 x10 : Int) (x11 : List PV) (x12 : Bool) (x13 : Bool) (x14 : Int) : Option PV :=
 runW EE z2o (z1o EE z1i 8 (mkT 79 [(1, (.bool x0)), (6, (.ptr 0 0)), (8, (.iface zjn (.agg [(.sl 1 x1), (.int IntKind.i64 x2)])))]) [(.cells zh [(.int IntKind.i64 x3), (.int IntKind.i64 x4), (.int IntKind.i64 x5)] false), (.cells z2u [(.int IntKind.i64 x6), (.int IntKind.i64 x7), (.int IntKind.i64 x8)] false), (.cells z29 [(.int IntKind.i64 x9), (.int IntKind.i64 x10)] false), (.cells z6 [(.sl 1 x11)] false)] [frAt EE z26 9 3 (mkT 54 [(3, (.ptr 1 0)), (4, (.ptr 2 0)), (7, (.ptr 3 0)), (10, (.bool x12)), (31, (.bool x13)), (32, (.ptr 1 1)), (33, (.int IntKind.i64 x14))]) []] [])
noncomputable def zjy (x0 x1 : Int) : Option PV :=
 runW EE z2o (ze EE z26 11 (mkT 54 [(4, (.ptr 0 0))]) [(.cells z29 [(.int IntKind.i64 x0), (.int IntKind.i64 x1)] false)])
noncomputable abbrev zdd : List TI := funTI EE z4z
noncomputable def zcv (a0 : List UInt8) (a1_0 a1_1 a1_2 : Int) : Option PV := callF EE z4z [(.str a0), (.agg [(.int IntKind.i64 a1_0), (.int IntKind.i64 a1_1), (.int IntKind.i64 a1_2)])]
noncomputable def z9w (x0 x1 : Int) : Option PV :=
 runW EE zdd (ze EE z4z 2 (mkT 68 [(4, (.ptr 0 0))]) [(.cells z29 [(.int IntKind.i64 x0), (.int IntKind.i64 x1)] false)])
noncomputable def zf3 (x0 : List UInt8) (x1 x2 x3 x4 x5 : Int) : Option PV :=
 runW EE zdd (ze EE z4z 3 (mkT 68 [(0, (.str x0)), (3, (.ptr 0 0)), (4, (.ptr 1 0))]) [(.cells z2u [(.int IntKind.i64 x1), (.int IntKind.i64 x2), (.int IntKind.i64 x3)] false), (.cells z29 [(.int IntKind.i64 x4), (.int IntKind.i64 x5)] false)])
noncomputable def zok (a0 : List UInt8) (a1_0 a1_1 a1_2 : Int) : Option PV := callF EE zsr [(.str a0), (.agg [(.int IntKind.i64 a1_0), (.int IntKind.i64 a1_1), (.int IntKind.i64 a1_2)])]
noncomputable abbrev zc1 : List TI := funTI EE z4d
noncomputable def z6f (a0 : List UInt8) (a1_0 a1_1 a1_2 : Int) : Option PV := callF EE z4d [(.str a0), (.agg [(.int IntKind.i64 a1_0), (.int IntKind.i64 a1_1), (.int IntKind.i64 a1_2)])]
noncomputable def z4h (x0 x1 : Int) : Option PV :=
 runW EE zc1 (ze EE z4d 2 (mkT 48 [(4, (.ptr 0 0))]) [(.cells zk [(.int IntKind.i64 x0), (.int IntKind.i64 x1)] false)])
noncomputable def zdr (x0 : List UInt8) (x1 x2 x3 x4 x5 : Int) : Option PV :=
 runW EE zc1 (ze EE z4d 3 (mkT 48 [(0, (.str x0)), (3, (.ptr 0 0)), (4, (.ptr 1 0))]) [(.cells z2u [(.int IntKind.i64 x1), (.int IntKind.i64 x2), (.int IntKind.i64 x3)] false), (.cells zk [(.int IntKind.i64 x4), (.int IntKind.i64 x5)] false)])
noncomputable abbrev zc3 : List TI := funTI EE z4f
noncomputable def z8y (a0 : List UInt8) : Option PV := callF EE z4f [(.str a0)]
noncomputable def z3c (x0 : List UInt8) (x1 : Int) (x2 : List PV) : Option PV :=
 runW EE zc3 (ze EE z4f 3 (mkT 29 [(0, (.str x0)), (3, (.lall 0)), (4, (.int IntKind.i64 x1))]) [(.row z14i 1 x2 0 none)])
noncomputable def zdu (x0 : List UInt8) (x1 x2 : Int) (x3 : List PV) : Option PV :=
 runW EE zc3 (ze EE z4f 7 (mkT 29 [(0, (.str x0)), (3, (.lall 0)), (4, (.int IntKind.i64 x1)), (5, (.int IntKind.u8 x2))]) [(.row z14i 1 x3 0 none)])
noncomputable def zin (a0 : List UInt8) : Option PV := callF EE zft [(.str a0)]
noncomputable def zh5 (a0 : List PV) : Option PV := callF EE zcm [(.sl 1 a0)]
noncomputable abbrev z11y : List TI := funTI EE za8
noncomputable def za1 (a0 : List UInt8) : Option PV := callF EE za8 [(.str a0)]
noncomputable def za0 (x0 x1 : Int) (x2 : List PV) : Option PV :=
 runW EE z11y (ze EE za8 3 (mkT 29 [(3, (.lall 0)), (8, (.lall 0)), (9, (.int IntKind.i64 x0)), (10, (.int IntKind.i64 x1))]) [(.row z14i 1 x2 0 none)])
noncomputable abbrev z11z : List TI := funTI EE zcn
noncomputable def z137 (a0 : List PV) : Option PV := callF EE zcn [(.sl 1 a0)]
noncomputable def zfq (x0 : List PV) (x1 : List PV) (x2 x3 : Int) : Option PV :=
 runW EE z11z (ze EE zcn 2 (mkT 23 [(0, (.sl 1 x0)), (5, (.sl 1 x1)), (6, (.int IntKind.i64 x2)), (7, (.int IntKind.i64 x3))]) [])
noncomputable def z42 (a0 a1 a2 : Int) : Option PV := callF EE zew [(.int IntKind.i64 a0), (.int IntKind.i64 a1), (.int IntKind.i64 a2)]
noncomputable def z15g (a0 : List UInt8) (a1_0 a1_1 a1_2 : Int) : Option PV := callF EE z10g [(.str a0), (.agg [(.int IntKind.i64 a1_0), (.int IntKind.i64 a1_1), (.int IntKind.i64 a1_2)])]
noncomputable def zt6 (a0 a1 a2 : Int) : Option PV := callF EE z10j [(.int IntKind.i64 a0), (.int IntKind.i64 a1), (.int IntKind.i64 a2)]
noncomputable abbrev zbz : List TI := funTI EE z4b
noncomputable def z8r (a0 : List UInt8) : Option PV := callF EE z4b [(.str a0)]
noncomputable def z2m (x0 : List UInt8) (x1 x2 : Int) (x3 : List PV) : Option PV :=
 runW EE zbz (ze EE z4b 4 (mkT 53 [(0, (.str x0)), (3, (.lall 0)), (4, (.int IntKind.i64 x1)), (5, (.int IntKind.i64 x2))]) [(.row z4a 1 x3 0 none)])
noncomputable def z1z (x0 : List UInt8) (x1 x2 : Int) (x3 : List PV) : Option PV :=
 runW EE zbz (ze EE z4b 7 (mkT 53 [(0, (.str x0)), (3, (.lall 0)), (4, (.int IntKind.i64 x1)), (5, (.int IntKind.i64 x2))]) [(.row z4a 1 x3 0 none)])
noncomputable def z7c (a0 : List PV) : Option PV := callF EE zbp [(.sl 1 a0)]
noncomputable abbrev zlm : List TI := funTI EE z7w
noncomputable def zaa (a0 : List PV) : Option PV := callF EE z7w [(.sl 1 a0)]
noncomputable def z7y (x0 : List PV) (x1 : List UInt8) : Option PV :=
 runW EE zlm (ze EE z7w 4 (mkT 28 [(0, (.sl 1 x0)), (4, (.str x1))]) [])
noncomputable abbrev z2k : List TI := funTI EE z1m
noncomputable def z9g (a0 : List PV) (a1 : Bool) (a2 : Int) : Option PV := callF EE z1m [(.sl 1 a0), (.bool a1), (.int IntKind.i64 a2)]
noncomputable def z7d (x0 : List PV) (x1 : Bool) (x2 x3 x4 : Int) (x5 : Bool) : Option PV :=
 runW EE z2k (ze EE z1m 6 (mkT 86 [(0, (.sl 1 x0)), (1, (.bool x1)), (12, (.ptr 0 0))]) [(.cells zj [(.int IntKind.i64 x2), (.int IntKind.i64 x3), (.int IntKind.i64 x4), (.bool x5)] false)])
noncomputable def z52 (x0 : List PV) (x1 : Bool) (x2 x3 x4 x5 : Int) (x6 : Bool) : Option PV :=
 runW EE z2k (ze EE z1m 8 (mkT 86 [(0, (.sl 1 x0)), (1, (.bool x1)), (11, (.int IntKind.i64 x2)), (12, (.ptr 0 0))]) [(.cells zj [(.int IntKind.i64 x3), (.int IntKind.i64 x4), (.int IntKind.i64 x5), (.bool x6)] false)])
noncomputable def z3o  : Option PV :=
 runW EE z2k (ze EE z1m 9 (mkT 86 []) [])
noncomputable def zdp (x0 : List PV) (x1 : Bool) (x2 x3 x4 x5 : Int) (x6 : Bool) : Option PV :=
 runW EE z2k (ze EE z1m 10 (mkT 86 [(0, (.sl 1 x0)), (1, (.bool x1)), (11, (.int IntKind.i64 x2)), (12, (.ptr 0 0))]) [(.cells zj [(.int IntKind.i64 x3), (.int IntKind.i64 x4), (.int IntKind.i64 x5), (.bool x6)] false)])
noncomputable def z6o (x0 : List PV) (x1 x2 x3 x4 : Int) (x5 : Bool) : Option PV :=
 runW EE z2k (ze EE z1m 12 (mkT 86 [(0, (.sl 1 x0)), (11, (.int IntKind.i64 x1)), (12, (.ptr 0 0))]) [(.cells zj [(.int IntKind.i64 x2), (.int IntKind.i64 x3), (.int IntKind.i64 x4), (.bool x5)] false)])
noncomputable def z6n  : Option PV :=
 runW EE z2k (ze EE z1m 13 (mkT 86 []) [])
noncomputable def zdo (x0 : List PV) (x1 x2 x3 x4 : Int) (x5 : Bool) : Option PV :=
 runW EE z2k (ze EE z1m 14 (mkT 86 [(0, (.sl 1 x0)), (11, (.int IntKind.i64 x1)), (12, (.ptr 0 0))]) [(.cells zj [(.int IntKind.i64 x2), (.int IntKind.i64 x3), (.int IntKind.i64 x4), (.bool x5)] false)])
noncomputable def z136 (a0 : List UInt8) : Option PV := callF EE zso [(.str a0)]
noncomputable abbrev zv : List TI := funTI EE zt
noncomputable def zqg (a0 : List UInt8) (a1 : Int) (a2 : Bool) : Option PV := callF EE zt [(.str a0), (.int IntKind.i64 a1), (.bool a2)]
noncomputable def z7m (x0 : Int) (x1 : Bool) (x2 : Bool) (x3 x4 : Int) (x5 : List PV) : Option PV :=
 runW EE zv (ze EE zt 3 (mkT 104 [(1, (.int IntKind.i64 x0)), (2, (.bool x1)), (6, (.ptr 0 0)), (9, (.ptr 1 0)), (10, (.bool x2))]) [(.cells zk [(.int IntKind.i64 x3), (.int IntKind.i64 x4)] false), (.cells z6 [(.sl 1 x5)] false)])
noncomputable def z9k (x0 : Bool) (x1 : List PV) (x2 x3 x4 x5 x6 x7 : Int) (x8 : Bool) (x9 : Bool) (x10 : Bool) (x11 : Int) : Option PV :=
 runW EE zv (z1o EE z1i 3 (mkT 79 [(0, (.ptr 0 0)), (1, (.bool x0)), (6, (.ptr 1 0))]) [(.cells z6 [(.sl 1 x1)] false), (.cells zh [(.int IntKind.i64 x2), (.int IntKind.i64 x3), (.int IntKind.i64 x4)] false), (.cells zk [(.int IntKind.i64 x5), (.int IntKind.i64 x6)] false)] [frAt EE zt 3 2 (mkT 104 [(1, (.int IntKind.i64 x7)), (2, (.bool x8)), (6, (.ptr 2 0)), (9, (.ptr 0 0)), (10, (.bool x9)), (28, (.bool x10)), (29, (.int IntKind.i64 x11))]) []] [])
noncomputable def z3v (x0 : Bool) (x1 : Int) (x2 : List PV) (x3 x4 x5 x6 x7 x8 : Int) (x9 : Bool) (x10 : Bool) (x11 : Bool) (x12 : Int) : Option PV :=
 runW EE zv (z1o EE z1i 5 (mkT 79 [(0, (.ptr 0 0)), (1, (.bool x0)), (2, (.int IntKind.i64 x1)), (6, (.ptr 1 0)), (8, .nili)]) [(.cells z6 [(.sl 1 x2)] false), (.cells zh [(.int IntKind.i64 x3), (.int IntKind.i64 x4), (.int IntKind.i64 x5)] false), (.cells zk [(.int IntKind.i64 x6), (.int IntKind.i64 x7)] false)] [frAt EE zt 3 2 (mkT 104 [(1, (.int IntKind.i64 x8)), (2, (.bool x9)), (6, (.ptr 2 0)), (9, (.ptr 0 0)), (10, (.bool x10)), (28, (.bool x11)), (29, (.int IntKind.i64 x12))]) []] [])
noncomputable def z66 (x0 : Bool) (x1 : List PV) (x2 x3 x4 x5 x6 : Int) (x7 : List PV) (x8 : Int) (x9 : Bool) (x10 : Bool) (x11 : Bool) (x12 : Int) : Option PV :=
 runW EE zv (z1o EE z1i 8 (mkT 79 [(1, (.bool x0)), (6, (.ptr 0 0)), (8, (.iface zrg (.sl 1 x1)))]) [(.cells zh [(.int IntKind.i64 x2), (.int IntKind.i64 x3), (.int IntKind.i64 x4)] false), (.cells zk [(.int IntKind.i64 x5), (.int IntKind.i64 x6)] false), (.cells z6 [(.sl 1 x7)] false)] [frAt EE zt 3 2 (mkT 104 [(1, (.int IntKind.i64 x8)), (2, (.bool x9)), (6, (.ptr 1 0)), (9, (.ptr 2 0)), (10, (.bool x10)), (28, (.bool x11)), (29, (.int IntKind.i64 x12))]) []] [])
noncomputable def z3u (x0 : Bool) (x1 : Int) (x2 : List UInt8) (x3 : Bool) (x4 x5 x6 x7 x8 : Int) (x9 : List PV) (x10 : Int) (x11 : Bool) (x12 : Bool) (x13 : Bool) (x14 : Int) : Option PV :=
 runW EE zv (z1o EE z1i 6 (mkT 79 [(1, (.bool x0)), (2, (.int IntKind.i64 x1)), (6, (.ptr 0 0)), (8, .nili), (9, (.str x2)), (10, (.bool x3))]) [(.cells zh [(.int IntKind.i64 x4), (.int IntKind.i64 x5), (.int IntKind.i64 x6)] false), (.cells zk [(.int IntKind.i64 x7), (.int IntKind.i64 x8)] false), (.cells z6 [(.sl 1 x9)] false)] [frAt EE zt 3 2 (mkT 104 [(1, (.int IntKind.i64 x10)), (2, (.bool x11)), (6, (.ptr 1 0)), (9, (.ptr 2 0)), (10, (.bool x12)), (28, (.bool x13)), (29, (.int IntKind.i64 x14))]) []] [])
noncomputable def z11 (x0 x1 x2 x3 x4 : Int) (x5 : List PV) (x6 : Int) (x7 : Bool) (x8 : Bool) (x9 : Bool) (x10 : Int) : Option PV :=
 runW EE zv (z1o EE z1i 12 (mkT 79 [(6, (.ptr 0 0))]) [(.cells zh [(.int IntKind.i64 x0), (.int IntKind.i64 x1), (.int IntKind.i64 x2)] false), (.cells zk [(.int IntKind.i64 x3), (.int IntKind.i64 x4)] false), (.cells z6 [(.sl 1 x5)] false)] [frAt EE zt 3 2 (mkT 104 [(1, (.int IntKind.i64 x6)), (2, (.bool x7)), (6, (.ptr 1 0)), (9, (.ptr 2 0)), (10, (.bool x8)), (28, (.bool x9)), (29, (.int IntKind.i64 x10))]) []] [])
noncomputable def z2q (x0 : Bool) (x1 x2 x3 x4 x5 x6 x7 x8 : Int) (x9 : List PV) (x10 : Int) (x11 : Bool) (x12 : Bool) (x13 : Bool) (x14 : Int) : Option PV :=
 runW EE zv (z1o EE z1i 13 (mkT 79 [(1, (.bool x0)), (6, (.ptr 0 0)), (11, (.ptr 1 0))]) [(.cells zh [(.int IntKind.i64 x1), (.int IntKind.i64 x2), (.int IntKind.i64 x3)] false), (.cells zh [(.int IntKind.i64 x4), (.int IntKind.i64 x5), (.int IntKind.i64 x6)] false), (.cells zk [(.int IntKind.i64 x7), (.int IntKind.i64 x8)] false), (.cells z6 [(.sl 1 x9)] false)] [frAt EE zt 3 2 (mkT 104 [(1, (.int IntKind.i64 x10)), (2, (.bool x11)), (6, (.ptr 2 0)), (9, (.ptr 3 0)), (10, (.bool x12)), (28, (.bool x13)), (29, (.int IntKind.i64 x14))]) []] [])
noncomputable def z8z (x0 : Bool) (x1 : List UInt8) (x2 x3 x4 x5 x6 : Int) (x7 : List PV) (x8 : Int) (x9 : Bool) (x10 : Bool) (x11 : Bool) (x12 : Int) : Option PV :=
 runW EE zv (z1o EE z1i 8 (mkT 79 [(1, (.bool x0)), (6, (.ptr 0 0)), (8, (.iface zrf (.str x1)))]) [(.cells zh [(.int IntKind.i64 x2), (.int IntKind.i64 x3), (.int IntKind.i64 x4)] false), (.cells zk [(.int IntKind.i64 x5), (.int IntKind.i64 x6)] false), (.cells z6 [(.sl 1 x7)] false)] [frAt EE zt 3 2 (mkT 104 [(1, (.int IntKind.i64 x8)), (2, (.bool x9)), (6, (.ptr 1 0)), (9, (.ptr 2 0)), (10, (.bool x10)), (28, (.bool x11)), (29, (.int IntKind.i64 x12))]) []] [])
noncomputable def z3g (x0 : List UInt8) (x1 : Int) (x2 : List UInt8) (x3 : Nat) (x4 x5 x6 x7 x8 : Int) (x9 : List PV) (x10 : Bool) (x11 : Int) (x12 : List UInt8) (x13 : List UInt8) (x14 x15 : Int) (x16 : Bool) (x17 : Bool) (x18 : Bool) (x19 : Int) : Option PV :=
 runW EE zv (z1o EE zpv 4 (mkT 37 [(0, (.str x0)), (1, (.int IntKind.i64 x1)), (12, (.ptr 0 0))]) [(.iter x2 x3), (.cells zh [(.int IntKind.i64 x4), (.int IntKind.i64 x5), (.int IntKind.i64 x6)] false), (.cells zk [(.int IntKind.i64 x7), (.int IntKind.i64 x8)] false), (.cells z6 [(.sl 1 x9)] false)] [frAt EE z1i 7 2 (mkT 79 [(1, (.bool x10)), (2, (.int IntKind.i64 x11)), (6, (.ptr 1 0)), (8, .nili), (9, (.str x12)), (41, (.str x13)), (42, (.int IntKind.i64 x14))]) [], frAt EE zt 3 2 (mkT 104 [(1, (.int IntKind.i64 x15)), (2, (.bool x16)), (6, (.ptr 2 0)), (9, (.ptr 3 0)), (10, (.bool x17)), (28, (.bool x18)), (29, (.int IntKind.i64 x19))]) []] [])
noncomputable def z5c (x0 : Bool) (x1 x2 x3 x4 x5 : Int) (x6 : List PV) (x7 : Int) (x8 : Bool) (x9 : Bool) (x10 : Bool) (x11 : Int) : Option PV :=
 runW EE zv (z1o EE z1i 8 (mkT 79 [(1, (.bool x0)), (6, (.ptr 0 0)), (8, .nili)]) [(.cells zh [(.int IntKind.i64 x1), (.int IntKind.i64 x2), (.int IntKind.i64 x3)] false), (.cells zk [(.int IntKind.i64 x4), (.int IntKind.i64 x5)] false), (.cells z6 [(.sl 1 x6)] false)] [frAt EE zt 3 2 (mkT 104 [(1, (.int IntKind.i64 x7)), (2, (.bool x8)), (6, (.ptr 1 0)), (9, (.ptr 2 0)), (10, (.bool x9)), (28, (.bool x10)), (29, (.int IntKind.i64 x11))]) []] [])
noncomputable def z2h (x0 : Bool) (x1 : Bool) (x2 x3 : Int) (x4 : List PV) (x5 x6 x7 : Int) : Option PV :=
 runW EE zv (ze EE zt 4 (mkT 104 [(2, (.bool x0)), (6, (.ptr 0 0)), (9, (.ptr 1 0)), (11, (.ptr 2 0)), (12, (.bool x1))]) [(.cells zk [(.int IntKind.i64 x2), (.int IntKind.i64 x3)] false), (.cells z6 [(.sl 1 x4)] false), (.cells zh [(.int IntKind.i64 x5), (.int IntKind.i64 x6), (.int IntKind.i64 x7)] false)])
noncomputable def z3q (x0 x1 x2 x3 x4 x5 x6 x7 : Int) (x8 : List PV) (x9 : Int) (x10 : Bool) (x11 : Bool) (x12 : Bool) (x13 : Int) : Option PV :=
 runW EE zv (z1o EE z1i 15 (mkT 79 [(6, (.ptr 0 0)), (11, (.ptr 1 0))]) [(.cells zh [(.int IntKind.i64 x0), (.int IntKind.i64 x1), (.int IntKind.i64 x2)] false), (.cells zh [(.int IntKind.i64 x3), (.int IntKind.i64 x4), (.int IntKind.i64 x5)] false), (.cells zk [(.int IntKind.i64 x6), (.int IntKind.i64 x7)] false), (.cells z6 [(.sl 1 x8)] false)] [frAt EE zt 3 2 (mkT 104 [(1, (.int IntKind.i64 x9)), (2, (.bool x10)), (6, (.ptr 2 0)), (9, (.ptr 3 0)), (10, (.bool x11)), (28, (.bool x12)), (29, (.int IntKind.i64 x13))]) []] [])
noncomputable def z3f (x0 : Bool) (x1 : List PV) (x2 x3 x4 x5 x6 x7 : Int) (x8 : List PV) (x9 : Int) (x10 : Bool) (x11 : Bool) (x12 : Bool) (x13 : Int) : Option PV :=
 runW EE zv (z1o EE z1i 8 (mkT 79 [(1, (.bool x0)), (6, (.ptr 0 0)), (8, (.iface zjn (.agg [(.sl 1 x1), (.int IntKind.i64 x2)])))]) [(.cells zh [(.int IntKind.i64 x3), (.int IntKind.i64 x4), (.int IntKind.i64 x5)] false), (.cells zk [(.int IntKind.i64 x6), (.int IntKind.i64 x7)] false), (.cells z6 [(.sl 1 x8)] false)] [frAt EE zt 3 2 (mkT 104 [(1, (.int IntKind.i64 x9)), (2, (.bool x10)), (6, (.ptr 1 0)), (9, (.ptr 2 0)), (10, (.bool x11)), (28, (.bool x12)), (29, (.int IntKind.i64 x13))]) []] [])
noncomputable def zhu (x0 : Bool) (x1 : Bool) (x2 : Int) (x3 : List UInt8) (x4 : Int) (x5 : List UInt8) (x6 : Bool) (x7 x8 : Int) (x9 : List PV) (x10 x11 x12 : Int) : Option PV :=
 runW EE zv (ze EE zt 6 (mkT 104 [(2, (.bool x0)), (6, (.ptr 0 0)), (9, (.ptr 1 0)), (11, (.ptr 2 0)), (12, (.bool x1)), (13, (.int IntKind.i64 x2)), (14, (.str x3)), (15, (.int IntKind.i64 x4)), (16, (.str x5)), (17, (.bool x6))]) [(.cells zk [(.int IntKind.i64 x7), (.int IntKind.i64 x8)] false), (.cells z6 [(.sl 1 x9)] false), (.cells zh [(.int IntKind.i64 x10), (.int IntKind.i64 x11), (.int IntKind.i64 x12)] false)])
noncomputable def zpl (x0 : Bool) (x1 : Bool) (x2 : List UInt8) (x3 : List UInt8) (x4 x5 : Int) (x6 : List PV) (x7 x8 x9 : Int) : Option PV :=
 runW EE zv (ze EE zt 7 (mkT 104 [(2, (.bool x0)), (6, (.ptr 0 0)), (9, (.ptr 1 0)), (11, (.ptr 2 0)), (12, (.bool x1)), (14, (.str x2)), (16, (.str x3))]) [(.cells zk [(.int IntKind.i64 x4), (.int IntKind.i64 x5)] false), (.cells z6 [(.sl 1 x6)] false), (.cells zh [(.int IntKind.i64 x7), (.int IntKind.i64 x8), (.int IntKind.i64 x9)] false)])
noncomputable def zch (x0 : Bool) (x1 : Bool) (x2 : Int) (x3 : List UInt8) (x4 x5 x6 : Int) (x7 : List PV) (x8 x9 x10 : Int) : Option PV :=
 runW EE zv (ze EE zt 10 (mkT 104 [(2, (.bool x0)), (6, (.ptr 0 0)), (9, (.ptr 1 0)), (11, (.ptr 2 0)), (12, (.bool x1)), (13, (.int IntKind.i64 x2)), (14, (.str x3)), (15, (.int IntKind.i64 x4))]) [(.cells zk [(.int IntKind.i64 x5), (.int IntKind.i64 x6)] false), (.cells z6 [(.sl 1 x7)] false), (.cells zh [(.int IntKind.i64 x8), (.int IntKind.i64 x9), (.int IntKind.i64 x10)] false)])
noncomputable def zht (x0 : Bool) (x1 : Bool) (x2 : List UInt8) (x3 : List UInt8) (x4 x5 : Int) (x6 : List PV) (x7 x8 x9 : Int) : Option PV :=
 runW EE zv (ze EE zt 9 (mkT 104 [(2, (.bool x0)), (6, (.ptr 0 0)), (9, (.ptr 1 0)), (11, (.ptr 2 0)), (12, (.bool x1)), (14, (.str x2)), (16, (.str x3))]) [(.cells zk [(.int IntKind.i64 x4), (.int IntKind.i64 x5)] false), (.cells z6 [(.sl 1 x6)] false), (.cells zh [(.int IntKind.i64 x7), (.int IntKind.i64 x8), (.int IntKind.i64 x9)] false)])
noncomputable def zcg (x0 : Bool) (x1 : Bool) (x2 : Int) (x3 : List UInt8) (x4 : Int) (x5 : List UInt8) (x6 : Bool) (x7 x8 : Int) (x9 : List PV) (x10 x11 x12 : Int) : Option PV :=
 runW EE zv (ze EE zt 11 (mkT 104 [(2, (.bool x0)), (6, (.ptr 0 0)), (9, (.ptr 1 0)), (11, (.ptr 2 0)), (12, (.bool x1)), (13, (.int IntKind.i64 x2)), (14, (.str x3)), (15, (.int IntKind.i64 x4)), (18, (.str x5)), (19, (.bool x6))]) [(.cells zk [(.int IntKind.i64 x7), (.int IntKind.i64 x8)] false), (.cells z6 [(.sl 1 x9)] false), (.cells zh [(.int IntKind.i64 x10), (.int IntKind.i64 x11), (.int IntKind.i64 x12)] false)])
noncomputable def z9n (x0 : Bool) (x1 x2 : Int) (x3 : List UInt8) (x4 x5 : Int) (x6 : List PV) (x7 x8 x9 : Int) : Option PV :=
 runW EE zv (ze EE zt 13 (mkT 104 [(6, (.ptr 0 0)), (9, (.ptr 1 0)), (11, (.ptr 2 0)), (12, (.bool x0)), (13, (.int IntKind.i64 x1)), (15, (.int IntKind.i64 x2)), (18, (.str x3))]) [(.cells zk [(.int IntKind.i64 x4), (.int IntKind.i64 x5)] false), (.cells z6 [(.sl 1 x6)] false), (.cells zh [(.int IntKind.i64 x7), (.int IntKind.i64 x8), (.int IntKind.i64 x9)] false)])
noncomputable def z9m (x0 : Bool) (x1 : Int) (x2 : List UInt8) (x3 x4 x5 : Int) (x6 : List PV) (x7 x8 x9 : Int) : Option PV :=
 runW EE zv (ze EE zt 14 (mkT 104 [(6, (.ptr 0 0)), (9, (.ptr 1 0)), (11, (.ptr 2 0)), (12, (.bool x0)), (13, (.int IntKind.i64 x1)), (14, (.str x2)), (15, (.int IntKind.i64 x3))]) [(.cells zk [(.int IntKind.i64 x4), (.int IntKind.i64 x5)] false), (.cells z6 [(.sl 1 x6)] false), (.cells zh [(.int IntKind.i64 x7), (.int IntKind.i64 x8), (.int IntKind.i64 x9)] false)])
noncomputable def z9l (x0 x1 : Int) : Option PV :=
 runW EE zv (ze EE zt 15 (mkT 104 [(6, (.ptr 0 0))]) [(.cells zk [(.int IntKind.i64 x0), (.int IntKind.i64 x1)] false)])
noncomputable def zm1 (x0 : Int) (x1 : List UInt8) (x2 x3 x4 x5 x6 x7 : Int) : Option PV :=
 runW EE zv (ze EE zt 16 (mkT 104 [(6, (.ptr 0 0)), (11, (.ptr 1 0)), (13, (.int IntKind.i64 x0)), (14, (.str x1)), (15, (.int IntKind.i64 x2))]) [(.cells zk [(.int IntKind.i64 x3), (.int IntKind.i64 x4)] false), (.cells zh [(.int IntKind.i64 x5), (.int IntKind.i64 x6), (.int IntKind.i64 x7)] false)])
noncomputable def zce (x0 x1 : Int) : Option PV :=
 runW EE zv (ze EE zt 18 (mkT 104 [(6, (.ptr 0 0))]) [(.cells zk [(.int IntKind.i64 x0), (.int IntKind.i64 x1)] false)])
noncomputable def zm0 (x0 : Int) (x1 : List UInt8) (x2 x3 x4 x5 : Int) : Option PV :=
 runW EE zv (ze EE zt 19 (mkT 104 [(6, (.ptr 0 0)), (13, (.int IntKind.i64 x0)), (14, (.str x1)), (20, (.ptr 1 0))]) [(.cells zk [(.int IntKind.i64 x2), (.int IntKind.i64 x3)] false), (.cells z29 [(.int IntKind.i64 x4), (.int IntKind.i64 x5)] false)])
noncomputable abbrev z54 : List TI := funTI EE z2b
noncomputable def z35 (a0 : List PV) (a1 : Int) (a2 : Bool) : Option PV := callF EE z2b [(.sl 1 a0), (.int IntKind.i64 a1), (.bool a2)]
noncomputable def z1v (x0 x1 : Int) : Option PV :=
 runW EE z54 (ze EE z2b 4 (mkT 110 [(6, (.ptr 0 0))]) [(.cells zk [(.int IntKind.i64 x0), (.int IntKind.i64 x1)] false)])
noncomputable def z41 (x0 : Bool) (x1 x2 x3 : Int) (x4 : List PV) (x5 x6 : Int) : Option PV :=
 runW EE z54 (ze EE z2b 5 (mkT 110 [(2, (.bool x0)), (6, (.ptr 0 0)), (10, (.int IntKind.i64 x1)), (11, (.int IntKind.i64 x2)), (12, (.int IntKind.i64 x3)), (13, (.sl 1 x4))]) [(.cells zk [(.int IntKind.i64 x5), (.int IntKind.i64 x6)] false)])
noncomputable def z85 (x0 x1 x2 : Int) (x3 : List PV) (x4 : List UInt8) (x5 : List UInt8) (x6 x7 : Int) : Option PV :=
 runW EE z54 (ze EE z2b 12 (mkT 110 [(6, (.ptr 0 0)), (10, (.int IntKind.i64 x0)), (11, (.int IntKind.i64 x1)), (12, (.int IntKind.i64 x2)), (13, (.sl 1 x3)), (16, (.str x4)), (18, (.str x5))]) [(.cells zk [(.int IntKind.i64 x6), (.int IntKind.i64 x7)] false)])
noncomputable def z22 (x0 x1 x2 x3 : Int) (x4 : List UInt8) (x5 x6 x7 : Int) : Option PV :=
 runW EE z54 (ze EE z2b 17 (mkT 110 [(6, (.ptr 0 0)), (10, (.int IntKind.i64 x0)), (11, (.int IntKind.i64 x1)), (12, (.int IntKind.i64 x2)), (15, (.int IntKind.i64 x3)), (16, (.str x4)), (17, (.int IntKind.i64 x5))]) [(.cells zk [(.int IntKind.i64 x6), (.int IntKind.i64 x7)] false)])
noncomputable def zog (a0_0 a0_1 a0_2 a0_3 : Int) : Option PV := callF EE zsn [(.agg [(.int IntKind.i64 a0_0), (.int IntKind.i64 a0_1), (.int IntKind.i64 a0_2), (.int IntKind.i64 a0_3)])]
noncomputable def zt5 (a0_0 a0_1 : Int) : Option PV := callF EE zwc [(.agg [(.int IntKind.i64 a0_0), (.int IntKind.i64 a0_1)])]
noncomputable def zq1 (a0_0 a0_1 : Int) : Option PV := callF EE zix [(.agg [(.int IntKind.i64 a0_0), (.int IntKind.i64 a0_1)])]
noncomputable abbrev z39 : List TI := funTI EE z1u
noncomputable def zh1 (a0 : List UInt8) (a1 : PV) : Option PV := callF EE z1u [(.str a0), a1]
noncomputable def z25 (x0 : List UInt8) (x1 : PV) (x2 : Int) (x3 : List PV) (x4 : Nat) (x5 : List UInt8) (x6 : Nat) : Option PV :=
 runW EE z39 (ze EE z1u 4 (mkT 65 [(0, (.str x0)), (1, (.opq x1 0)), (5, (.lall 0)), (6, (.int IntKind.i64 x2)), (14, (.ptr 1 0))]) [(.row z1j 2 x3 0 (some x4)), (.iter x5 x6)])
noncomputable def z2a (x0 : List UInt8) (x1 : PV) (x2 : Int) (x3 : List PV) (x4 : List UInt8) (x5 : Nat) : Option PV :=
 runW EE z39 (ze EE z1u 4 (mkT 65 [(0, (.str x0)), (1, (.opq x1 0)), (5, (.lall 0)), (6, (.int IntKind.i64 x2)), (14, (.ptr 1 0))]) [(.row z1j 2 x3 0 none), (.iter x4 x5)])
noncomputable def z6j (x0 : List UInt8) (x1 : List PV) (x2 : Nat) : Option PV :=
 runW EE z39 (ze EE z1u 14 (mkT 65 [(0, (.str x0)), (5, (.lall 0))]) [(.row z1j 2 x1 0 (some x2))])
noncomputable def z3j (x0 : List UInt8) (x1 : List PV) : Option PV :=
 runW EE z39 (ze EE z1u 14 (mkT 65 [(0, (.str x0)), (5, (.lall 0))]) [(.row z1j 2 x1 0 none)])
noncomputable def z6i (x0 : List UInt8) (x1 x2 : Int) (x3 : List PV) (x4 : Nat) (x5 : List PV) (x6 : Nat) : Option PV :=
 runW EE z39 (ze EE z1u 16 (mkT 65 [(0, (.str x0)), (9, (.lall 0)), (47, (.lall 1)), (48, (.int IntKind.i64 x1)), (49, (.int IntKind.i64 x2))]) [(.row z4a 1 x3 0 (some x4)), (.row z1j 2 x5 0 (some x6))])
noncomputable def z56 (x0 : List UInt8) (x1 x2 : Int) (x3 : List PV) (x4 : Nat) (x5 : List PV) : Option PV :=
 runW EE z39 (ze EE z1u 16 (mkT 65 [(0, (.str x0)), (9, (.lall 0)), (47, (.lall 1)), (48, (.int IntKind.i64 x1)), (49, (.int IntKind.i64 x2))]) [(.row z4a 1 x3 0 (some x4)), (.row z1j 2 x5 0 none)])
noncomputable def zlx (a0 : Int) : Option PV := callF EE z9t [(.int IntKind.i32 a0)]
noncomputable def z17z (a0 a1 a2 : Int) : Option PV := callF EE zhb [(.int IntKind.i64 a0), (.int IntKind.i64 a1), (.int IntKind.i64 a2)]
noncomputable def zz1 (a0 : List UInt8) (a1 : List UInt8) : Option PV := callF EE z5s [(.str a0), (.str a1)]
noncomputable def z4m (a0 : List UInt8) (a1 a2 : Int) : Option PV := callF EE zi0 [(.str a0), (.int IntKind.i64 a1), (.int IntKind.i64 a2)]
noncomputable def zyo (a0 : List UInt8) (a1 : List UInt8) : Option PV := callF EE zma [(.str a0), (.str a1)]
noncomputable abbrev za2 : List TI := funTI EE z4y
noncomputable def z18c (a0 : List UInt8) : Option PV := callF EE z4y [(.str a0)]
noncomputable def zvx (x0 : List UInt8) (x1 x2 x3 x4 : Int) : Option PV :=
 runW EE za2 (ze EE z4y 5 (mkT 41 [(2, (.ptr 0 0)), (5, (.str x0))]) [(.cells zdw [(.int IntKind.i64 x1), (.int IntKind.i64 x2), (.int IntKind.i64 x3), (.int IntKind.i64 x4)] false)])
noncomputable def zs0 (x0 : List UInt8) (x1 x2 x3 x4 : Int) : Option PV :=
 runW EE za2 (ze EE z4y 10 (mkT 41 [(2, (.ptr 0 0)), (5, (.str x0))]) [(.cells zdw [(.int IntKind.i64 x1), (.int IntKind.i64 x2), (.int IntKind.i64 x3), (.int IntKind.i64 x4)] false)])
noncomputable def zrz (x0 : List UInt8) (x1 x2 x3 x4 : Int) : Option PV :=
 runW EE za2 (ze EE z4y 13 (mkT 41 [(2, (.ptr 0 0)), (5, (.str x0))]) [(.cells zdw [(.int IntKind.i64 x1), (.int IntKind.i64 x2), (.int IntKind.i64 x3), (.int IntKind.i64 x4)] false)])
noncomputable def zry (x0 : List UInt8) (x1 x2 x3 x4 : Int) : Option PV :=
 runW EE za2 (ze EE z4y 16 (mkT 41 [(2, (.ptr 0 0)), (5, (.str x0))]) [(.cells zdw [(.int IntKind.i64 x1), (.int IntKind.i64 x2), (.int IntKind.i64 x3), (.int IntKind.i64 x4)] false)])
noncomputable def zrx (x0 : List UInt8) (x1 x2 x3 x4 : Int) : Option PV :=
 runW EE za2 (ze EE z4y 19 (mkT 41 [(2, (.ptr 0 0)), (5, (.str x0))]) [(.cells zdw [(.int IntKind.i64 x1), (.int IntKind.i64 x2), (.int IntKind.i64 x3), (.int IntKind.i64 x4)] false)])
noncomputable def zrw (x0 : List UInt8) (x1 x2 x3 x4 : Int) : Option PV :=
 runW EE za2 (ze EE z4y 24 (mkT 41 [(2, (.ptr 0 0)), (5, (.str x0))]) [(.cells zdw [(.int IntKind.i64 x1), (.int IntKind.i64 x2), (.int IntKind.i64 x3), (.int IntKind.i64 x4)] false)])
noncomputable def z1d9 (a0_0 a0_1 a0_2 a0_3 : Int) : Option PV := callF EE zqn [(.agg [(.int IntKind.i64 a0_0), (.int IntKind.i64 a0_1), (.int IntKind.i64 a0_2), (.int IntKind.i64 a0_3)])]
noncomputable def zcx (a0 a1 a2 : Int) : Option PV := callF EE zf0 [(.int IntKind.i64 a0), (.int IntKind.i64 a1), (.int IntKind.i64 a2)]
noncomputable def z45 (a0 : Int) : Option PV := callF EE zcp [(.int IntKind.i64 a0)]
noncomputable def zg1 (a0 : List PV) : Option PV := callF EE zsp [(.sl 1 a0)]
noncomputable abbrev zro : List TI := funTI EE zf1
noncomputable def zgj (a0 a1 : Int) : Option PV := callF EE zf1 [(.int IntKind.i64 a0), (.int IntKind.i64 a1)]
noncomputable def zms  : Option PV :=
 runW EE zro (ze EE zf1 3 (mkT 22 []) [])
noncomputable def zwl (x0 x1 : Int) (x2 : List PV) (x3 : Nat) : Option PV :=
 runW EE zro (ze EE zf1 4 (mkT 22 [(0, (.int IntKind.i64 x0)), (1, (.int IntKind.i64 x1)), (5, (.ptr 0 0))]) [(.row z17n 1 x2 0 (some x3))])
noncomputable def z13z (a0 a1 : Int) : Option PV := callF EE zsu [(.int IntKind.i64 a0), (.int IntKind.i64 a1)]
noncomputable def zv1 (a0 a1 a2 : Int) : Option PV := callF EE zsx [(.int IntKind.i64 a0), (.int IntKind.i64 a1), (.int IntKind.i64 a2)]
noncomputable def z1n (a0 : List UInt8) (a1 : List UInt8) : Option PV := callF EE zex [(.str a0), (.str a1)]
noncomputable abbrev z30 : List TI := funTI EE z1p
noncomputable def zb7 (a0 : List UInt8) (a1 : Int) : Option PV := callF EE z1p [(.str a0), (.int IntKind.i64 a1)]
noncomputable def z6m (x0 : List UInt8) (x1 : Int) (x2 : List UInt8) (x3 x4 x5 x6 : Int) (x7 : Bool) : Option PV :=
 runW EE z30 (ze EE z1p 5 (mkT 113 [(0, (.str x0)), (1, (.int IntKind.i64 x1)), (4, (.ptr 0 0)), (5, (.str x2)), (6, (.int IntKind.i64 x3))]) [(.cells zj [(.int IntKind.i64 x4), (.int IntKind.i64 x5), (.int IntKind.i64 x6), (.bool x7)] false)])
noncomputable def z5m (x0 : List PV) (x1 x2 x3 : Int) (x4 : Bool) : Option PV :=
 runW EE z30 (ze EE z1p 10 (mkT 113 [(4, (.ptr 0 0)), (7, (.sl 1 x0))]) [(.cells zj [(.int IntKind.i64 x1), (.int IntKind.i64 x2), (.int IntKind.i64 x3), (.bool x4)] false)])
noncomputable def z5l (x0 : Int) (x1 : List PV) (x2 x3 x4 : Int) (x5 : Bool) : Option PV :=
 runW EE z30 (ze EE z1p 11 (mkT 113 [(1, (.int IntKind.i64 x0)), (4, (.ptr 0 0)), (7, (.sl 1 x1))]) [(.cells zj [(.int IntKind.i64 x2), (.int IntKind.i64 x3), (.int IntKind.i64 x4), (.bool x5)] false)])
noncomputable def z31 (x0 : List UInt8) (x1 : List UInt8) (x2 : List UInt8) (x3 x4 x5 : Int) (x6 : Bool) : Option PV :=
 runW EE z30 (ze EE z1p 23 (mkT 113 [(4, (.ptr 0 0)), (8, (.str x0)), (9, (.str x1)), (10, (.str x2))]) [(.cells zj [(.int IntKind.i64 x3), (.int IntKind.i64 x4), (.int IntKind.i64 x5), (.bool x6)] false)])
noncomputable def z5k (x0 x1 x2 : Int) (x3 : Bool) : Option PV :=
 runW EE z30 (ze EE z1p 24 (mkT 113 [(4, (.ptr 0 0))]) [(.cells zj [(.int IntKind.i64 x0), (.int IntKind.i64 x1), (.int IntKind.i64 x2), (.bool x3)] false)])
noncomputable def zct (x0 : List UInt8) (x1 : List UInt8) (x2 : List UInt8) (x3 x4 x5 : Int) (x6 : Bool) : Option PV :=
 runW EE z30 (ze EE z1p 25 (mkT 113 [(4, (.ptr 0 0)), (8, (.str x0)), (9, (.str x1)), (10, (.str x2))]) [(.cells zj [(.int IntKind.i64 x3), (.int IntKind.i64 x4), (.int IntKind.i64 x5), (.bool x6)] false)])
noncomputable def z2d (a0 : List UInt8) : Option PV := callF EE zdj [(.str a0)]
noncomputable abbrev z5j : List TI := funTI EE z2l
noncomputable def z8s (a0 : List PV) : Option PV := callF EE z2l [(.sl 1 a0)]
noncomputable def z97 (x0 : List PV) (x1 : Int) (x2 : List UInt8) (x3 : List UInt8) (x4 x5 x6 : Int) (x7 : Bool) : Option PV :=
 runW EE z5j (ze EE z2l 9 (mkT 62 [(0, (.sl 1 x0)), (2, (.ptr 0 0)), (3, (.int IntKind.i64 x1)), (4, (.str x2)), (5, (.str x3))]) [(.cells zj [(.int IntKind.i64 x4), (.int IntKind.i64 x5), (.int IntKind.i64 x6), (.bool x7)] false)])
noncomputable def zcu (x0 : Int) (x1 : List UInt8) (x2 : List UInt8) (x3 x4 x5 : Int) (x6 : Bool) : Option PV :=
 runW EE z5j (ze EE z2l 10 (mkT 62 [(2, (.ptr 0 0)), (3, (.int IntKind.i64 x0)), (4, (.str x1)), (5, (.str x2))]) [(.cells zj [(.int IntKind.i64 x3), (.int IntKind.i64 x4), (.int IntKind.i64 x5), (.bool x6)] false)])
noncomputable def z40 (x0 : Int) (x1 : List UInt8) (x2 : List UInt8) (x3 x4 x5 : Int) (x6 : Bool) : Option PV :=
 runW EE z5j (ze EE z2l 11 (mkT 62 [(2, (.ptr 0 0)), (3, (.int IntKind.i64 x0)), (4, (.str x1)), (5, (.str x2))]) [(.cells zj [(.int IntKind.i64 x3), (.int IntKind.i64 x4), (.int IntKind.i64 x5), (.bool x6)] false)])
noncomputable def z5n (x0 : List UInt8) (x1 : List UInt8) (x2 x3 x4 : Int) (x5 : Bool) (x6 x7 x8 : Int) (x9 : Bool) : Option PV :=
 runW EE z5j (ze EE z2l 12 (mkT 62 [(2, (.ptr 0 0)), (4, (.str x0)), (5, (.str x1)), (6, (.ptr 1 0))]) [(.cells zj [(.int IntKind.i64 x2), (.int IntKind.i64 x3), (.int IntKind.i64 x4), (.bool x5)] false), (.cells zj [(.int IntKind.i64 x6), (.int IntKind.i64 x7), (.int IntKind.i64 x8), (.bool x9)] false)])
noncomputable abbrev zef : List TI := funTI EE z5h
noncomputable def z4r (a0 a1 : Int) : Option PV := callF EE z5h [(.int IntKind.i64 a0), (.int IntKind.i64 a1)]
noncomputable def zf7 (x0 x1 : Int) : Option PV :=
 runW EE zef (ze EE z5h 10 (mkT 23 [(0, (.int IntKind.i64 x0)), (5, (.int IntKind.i64 x1))]) [])
noncomputable def zf6 (x0 x1 : Int) : Option PV :=
 runW EE zef (ze EE z5h 15 (mkT 23 [(0, (.int IntKind.i64 x0)), (5, (.int IntKind.i64 x1))]) [])
noncomputable def zt3 (a0_0 a0_1 : Int) : Option PV := callF EE zwb [(.agg [(.int IntKind.i64 a0_0), (.int IntKind.i64 a0_1)])]
noncomputable abbrev zll : List TI := funTI EE zar
noncomputable def zqf (a0 : List PV) : Option PV := callF EE zar [(.sl 1 a0)]
noncomputable def z1h (x0 : List PV) (x1 : List UInt8) (x2 : Nat) : Option PV :=
 runW EE zll (ze EE zar 4 (mkT 71 [(0, (.sl 1 x0)), (12, (.ptr 0 0))]) [(.iter x1 x2)])
noncomputable def zan (x0 : List PV) (x1 : Int) : Option PV :=
 runW EE zll (ze EE zar 7 (mkT 71 [(0, (.sl 1 x0)), (3, (.int IntKind.i64 x1))]) [])
noncomputable def z1fm (a0 : List UInt8) : Option PV := callF EE z16a [(.str a0)]
noncomputable abbrev z1l : List TI := funTI EE z1g
noncomputable def zjd (a0 : List UInt8) : Option PV := callF EE z1g [(.str a0)]
noncomputable def z2g (x0 : List UInt8) (x1 : List PV) (x2 : Nat) (x3 : List UInt8) (x4 : Nat) (x5 : List UInt8) (x6 : List UInt8) : Option PV :=
 runW EE z1l (z1o EE z51 3 (mkT 72 [(5, (.lall 0)), (6, (.str x0)), (13, (.ptr 1 0))]) [(.row zd 2 x1 0 (some x2)), (.iter x3 x4)] [frAt EE z1g 1 1 (mkT 96 [(0, (.str x5)), (10, (.str x6))]) []] [])
noncomputable def z93 (x0 : List UInt8) (x1 : Int) (x2 : Nat) (x3 : List PV) (x4 : Nat) (x5 : List UInt8) (x6 : Nat) (x7 : List UInt8) (x8 : List UInt8) : Option PV :=
 runW EE z1l (z1o EE z51 8 (mkT 72 [(5, (.lall 0)), (6, (.str x0)), (8, (.int IntKind.i32 x1)), (9, (.rptr 0 x2 0)), (13, (.ptr 1 0))]) [(.row zd 2 x3 0 (some x4)), (.iter x5 x6)] [frAt EE z1g 1 1 (mkT 96 [(0, (.str x7)), (10, (.str x8))]) []] [])
noncomputable def z27 (x0 : List UInt8) (x1 : Int) (x2 : List PV) (x3 : Nat) (x4 : List UInt8) (x5 : Nat) (x6 : List UInt8) (x7 : List UInt8) : Option PV :=
 runW EE z1l (z1o EE z51 10 (mkT 72 [(5, (.lall 0)), (6, (.str x0)), (8, (.int IntKind.i32 x1)), (13, (.ptr 1 0))]) [(.row zd 2 x2 0 (some x3)), (.iter x4 x5)] [frAt EE z1g 1 1 (mkT 96 [(0, (.str x6)), (10, (.str x7))]) []] [])
noncomputable def zkh (x0 : List UInt8) (x1 : Bool) (x2 : List PV) (x3 : Nat) : Option PV :=
 runW EE z1l (ze EE z1g 2 (mkT 96 [(4, (.lall 0)), (5, (.str x0)), (6, (.bool x1))]) [(.row zd 2 x2 0 (some x3))])
noncomputable def z38 (x0 : List UInt8) (x1 : Int) (x2 : List PV) (x3 : Nat) (x4 : List UInt8) (x5 : Nat) (x6 : List UInt8) (x7 : List UInt8) : Option PV :=
 runW EE z1l (z1o EE z51 11 (mkT 72 [(5, (.lall 0)), (6, (.str x0)), (8, (.int IntKind.i32 x1)), (13, (.ptr 1 0))]) [(.row zd 2 x2 0 (some x3)), (.iter x4 x5)] [frAt EE z1g 1 1 (mkT 96 [(0, (.str x6)), (10, (.str x7))]) []] [])
noncomputable def zd3 (x0 : List UInt8) (x1 : Bool) : Option PV :=
 runW EE z1l (ze EE z1g 2 (mkT 96 [(4, .sl0), (5, (.str x0)), (6, (.bool x1))]) [])
noncomputable def z18  : Option PV :=
 runW EE z1l (ze EE z1g 3 (mkT 96 []) [])
noncomputable def zkg (x0 : List UInt8) (x1 : List PV) (x2 : Nat) : Option PV :=
 runW EE z1l (ze EE z1g 4 (mkT 96 [(4, (.lall 0)), (5, (.str x0))]) [(.row zd 2 x1 0 (some x2))])
noncomputable def z23 (x0 : List UInt8) (x1 : List PV) (x2 : List UInt8) (x3 : Nat) (x4 : List UInt8) (x5 : List UInt8) : Option PV :=
 runW EE z1l (z1o EE z51 3 (mkT 72 [(5, (.lall 0)), (6, (.str x0)), (13, (.ptr 1 0))]) [(.row zd 2 x1 0 none), (.iter x2 x3)] [frAt EE z1g 1 1 (mkT 96 [(0, (.str x4)), (10, (.str x5))]) []] [])
noncomputable def z94 (x0 : List PV) (x1 x2 x3 x4 : Int) : Option PV :=
 runW EE z1l (ze EE z1g 11 (mkT 96 [(4, (.lall 0)), (7, (.ptr 1 0)), (8, (.ptr 2 0))]) [(.row zd 2 x0 0 none), (.cells zd [(.int IntKind.i64 x1), (.int IntKind.i64 x2)] false), (.cells zd [(.int IntKind.i64 x3), (.int IntKind.i64 x4)] false)])
noncomputable def z8a (x0 : List UInt8) (x1 : Int) (x2 : Nat) (x3 : List PV) (x4 : List UInt8) (x5 : Nat) (x6 : List UInt8) (x7 : List UInt8) : Option PV :=
 runW EE z1l (z1o EE z51 8 (mkT 72 [(5, (.lall 0)), (6, (.str x0)), (8, (.int IntKind.i32 x1)), (9, (.rptr 0 x2 0)), (13, (.ptr 1 0))]) [(.row zd 2 x3 0 none), (.iter x4 x5)] [frAt EE z1g 1 1 (mkT 96 [(0, (.str x6)), (10, (.str x7))]) []] [])
noncomputable def z1y (x0 : List UInt8) (x1 : Int) (x2 : List PV) (x3 : List UInt8) (x4 : Nat) (x5 : List UInt8) (x6 : List UInt8) : Option PV :=
 runW EE z1l (z1o EE z51 10 (mkT 72 [(5, (.lall 0)), (6, (.str x0)), (8, (.int IntKind.i32 x1)), (13, (.ptr 1 0))]) [(.row zd 2 x2 0 none), (.iter x3 x4)] [frAt EE z1g 1 1 (mkT 96 [(0, (.str x5)), (10, (.str x6))]) []] [])
noncomputable def z44 (x0 : List UInt8) (x1 : Bool) (x2 : List PV) : Option PV :=
 runW EE z1l (ze EE z1g 2 (mkT 96 [(4, (.lall 0)), (5, (.str x0)), (6, (.bool x1))]) [(.row zd 2 x2 0 none)])
noncomputable def zec  : Option PV :=
 runW EE z1l (ze EE z1g 12 (mkT 96 []) [])
noncomputable def zb3 (x0 : List PV) (x1 x2 x3 x4 : Int) : Option PV :=
 runW EE z1l (ze EE z1g 13 (mkT 96 [(4, (.lall 0)), (7, (.ptr 1 0)), (8, (.ptr 2 0))]) [(.row zd 2 x0 0 none), (.cells zd [(.int IntKind.i64 x1), (.int IntKind.i64 x2)] false), (.cells zd [(.int IntKind.i64 x3), (.int IntKind.i64 x4)] false)])
noncomputable def z2t (x0 : List UInt8) (x1 : Int) (x2 : List PV) (x3 : List UInt8) (x4 : Nat) (x5 : List UInt8) (x6 : List UInt8) : Option PV :=
 runW EE z1l (z1o EE z51 11 (mkT 72 [(5, (.lall 0)), (6, (.str x0)), (8, (.int IntKind.i32 x1)), (13, (.ptr 1 0))]) [(.row zd 2 x2 0 none), (.iter x3 x4)] [frAt EE z1g 1 1 (mkT 96 [(0, (.str x5)), (10, (.str x6))]) []] [])
noncomputable def z8b (x0 : List UInt8) (x1 : List PV) : Option PV :=
 runW EE z1l (ze EE z1g 4 (mkT 96 [(4, (.lall 0)), (5, (.str x0))]) [(.row zd 2 x1 0 none)])
noncomputable abbrev zjp : List TI := funTI EE zbo
noncomputable def zt4 (a0_0 a0_1 a1 : Int) : Option PV := callF EE zbo [(.agg [(.int IntKind.i64 a0_0), (.int IntKind.i64 a0_1)]), (.int IntKind.i64 a1)]
noncomputable def zf2 (x0 x1 : Int) : Option PV :=
 runW EE zjp (ze EE zbo 2 (mkT 52 [(4, (.ptr 0 0))]) [(.cells zk [(.int IntKind.i64 x0), (.int IntKind.i64 x1)] false)])
noncomputable def zwj (x0 x1 x2 x3 x4 : Int) : Option PV :=
 runW EE zjp (ze EE zbo 3 (mkT 52 [(1, (.int IntKind.i64 x0)), (2, (.ptr 0 0)), (4, (.ptr 1 0))]) [(.cells z29 [(.int IntKind.i64 x1), (.int IntKind.i64 x2)] false), (.cells zk [(.int IntKind.i64 x3), (.int IntKind.i64 x4)] false)])
noncomputable def zme (x0 x1 x2 x3 : Int) : Option PV :=
 runW EE zjp (ze EE zbo 8 (mkT 52 [(4, (.ptr 0 0)), (6, (.int IntKind.i64 x0)), (7, (.int IntKind.i64 x1))]) [(.cells zk [(.int IntKind.i64 x2), (.int IntKind.i64 x3)] false)])
noncomputable abbrev zee : List TI := funTI EE z5g
noncomputable def ze5 (a0 : List PV) : Option PV := callF EE z5g [(.sl 1 a0)]
noncomputable def z1b (x0 : List PV) (x1 : List UInt8) (x2 : Int) : Option PV :=
 runW EE zee (ze EE z5g 5 (mkT 71 [(0, (.sl 1 x0)), (3, (.str x1)), (4, (.int IntKind.i64 x2))]) [])
noncomputable def z7z (x0 : List PV) (x1 : List UInt8) (x2 : Int) : Option PV :=
 runW EE zee (ze EE z5g 8 (mkT 71 [(0, (.sl 1 x0)), (3, (.str x1)), (4, (.int IntKind.i64 x2))]) [])
noncomputable def zqv (a0 : List UInt8) : Option PV := callF EE zky [(.str a0)]
noncomputable abbrev za : List TI := funTI EE z9
noncomputable def z5b (a0 : List UInt8) : Option PV := callF EE z9 [(.str a0)]
noncomputable def z1c (x0 x1 x2 x3 : Int) (x4 : List UInt8) (x5 : Bool) : Option PV :=
 runW EE za (z1o EE zy 3 (mkT 68 [(0, (.ptr 0 0)), (1, (.int IntKind.i64 x0)), (2, (.int IntKind.i64 x1)), (7, (.int IntKind.i64 x2)), (8, (.int IntKind.i64 x3))]) [(.cells zc [(.str x4), (.bool x5)] false)] [frAt EE z9 2 1 (mkT 69 [(4, (.ptr 0 0)), (14, (.ptr 0 0))]) []] [])
noncomputable def z1w (x0 x1 x2 x3 : Int) (x4 : List UInt8) (x5 : Bool) : Option PV :=
 runW EE za (z1o EE zy 4 (mkT 68 [(0, (.ptr 0 0)), (1, (.int IntKind.i64 x0)), (2, (.int IntKind.i64 x1)), (7, (.int IntKind.i64 x2)), (8, (.int IntKind.i64 x3))]) [(.cells zc [(.str x4), (.bool x5)] false)] [frAt EE z9 2 1 (mkT 69 [(4, (.ptr 0 0)), (14, (.ptr 0 0))]) []] [])
noncomputable def zu (x0 x1 x2 : Int) (x3 : List UInt8) (x4 : Bool) : Option PV :=
 runW EE za (z1o EE zy 6 (mkT 68 [(0, (.ptr 0 0)), (1, (.int IntKind.i64 x0)), (7, (.int IntKind.i64 x1)), (8, (.int IntKind.i64 x2))]) [(.cells zc [(.str x3), (.bool x4)] false)] [frAt EE z9 2 1 (mkT 69 [(4, (.ptr 0 0)), (14, (.ptr 0 0))]) []] [])
noncomputable def z7g (x0 : Int) (x1 : List UInt8) (x2 : Bool) : Option PV :=
 runW EE za (ze EE z9 3 (mkT 69 [(4, (.ptr 0 0)), (5, (.int IntKind.i64 x0))]) [(.cells zc [(.str x1), (.bool x2)] false)])
noncomputable def z10 (x0 : List UInt8) (x1 : Bool) (x2 : Int) : Option PV :=
 runW EE za (z1o EE z70 2 (mkT 28 []) [(.cells zc [(.str x0), (.bool x1)] false)] [frAt EE z9 3 1 (mkT 69 [(4, (.ptr 0 0)), (5, (.int IntKind.i64 x2)), (16, (.ptr 0 0))]) []] [])
noncomputable def z53 (x0 : Int) (x1 : List UInt8) (x2 : Bool) : Option PV :=
 runW EE za (ze EE z9 5 (mkT 69 [(4, (.ptr 0 0)), (5, (.int IntKind.i64 x0))]) [(.cells zc [(.str x1), (.bool x2)] false)])
noncomputable def zf5 (x0 : Int) (x1 : List UInt8) (x2 : Bool) : Option PV :=
 runW EE za (ze EE z9 4 (mkT 69 [(4, (.ptr 0 0)), (5, (.int IntKind.i64 x0))]) [(.cells zc [(.str x1), (.bool x2)] false)])
noncomputable def z17 (x0 x1 x2 x3 : Int) (x4 : List UInt8) (x5 : Bool) (x6 : Int) : Option PV :=
 runW EE za (z1o EE zy 3 (mkT 68 [(0, (.ptr 0 0)), (1, (.int IntKind.i64 x0)), (2, (.int IntKind.i64 x1)), (7, (.int IntKind.i64 x2)), (8, (.int IntKind.i64 x3))]) [(.cells zc [(.str x4), (.bool x5)] false)] [frAt EE z9 5 1 (mkT 69 [(4, (.ptr 0 0)), (5, (.int IntKind.i64 x6)), (22, (.ptr 0 0))]) []] [])
noncomputable def z1s (x0 x1 x2 x3 : Int) (x4 : List UInt8) (x5 : Bool) (x6 : Int) : Option PV :=
 runW EE za (z1o EE zy 4 (mkT 68 [(0, (.ptr 0 0)), (1, (.int IntKind.i64 x0)), (2, (.int IntKind.i64 x1)), (7, (.int IntKind.i64 x2)), (8, (.int IntKind.i64 x3))]) [(.cells zc [(.str x4), (.bool x5)] false)] [frAt EE z9 5 1 (mkT 69 [(4, (.ptr 0 0)), (5, (.int IntKind.i64 x6)), (22, (.ptr 0 0))]) []] [])
noncomputable def zn (x0 x1 x2 : Int) (x3 : List UInt8) (x4 : Bool) (x5 : Int) : Option PV :=
 runW EE za (z1o EE zy 6 (mkT 68 [(0, (.ptr 0 0)), (1, (.int IntKind.i64 x0)), (7, (.int IntKind.i64 x1)), (8, (.int IntKind.i64 x2))]) [(.cells zc [(.str x3), (.bool x4)] false)] [frAt EE z9 5 1 (mkT 69 [(4, (.ptr 0 0)), (5, (.int IntKind.i64 x5)), (22, (.ptr 0 0))]) []] [])
noncomputable def z7f (x0 x1 : Int) (x2 : List UInt8) (x3 : Bool) : Option PV :=
 runW EE za (ze EE z9 6 (mkT 69 [(4, (.ptr 0 0)), (5, (.int IntKind.i64 x0)), (6, (.int IntKind.i64 x1))]) [(.cells zc [(.str x2), (.bool x3)] false)])
noncomputable def z13 (x0 : List UInt8) (x1 : Bool) (x2 x3 x4 x5 : Int) : Option PV :=
 runW EE za (z1o EE z70 2 (mkT 28 []) [(.cells zc [(.str x0), (.bool x1)] false)] [frAt EE z9 8 1 (mkT 69 [(4, (.ptr 0 0)), (5, (.int IntKind.i64 x2)), (6, (.int IntKind.i64 x3)), (7, (.int IntKind.i64 x4)), (8, (.int IntKind.i64 x5)), (24, (.ptr 0 0))]) []] [])
noncomputable def z7e (x0 x1 x2 : Int) (x3 : List UInt8) (x4 : Bool) : Option PV :=
 runW EE za (ze EE z9 9 (mkT 69 [(4, (.ptr 0 0)), (5, (.int IntKind.i64 x0)), (6, (.int IntKind.i64 x1)), (8, (.int IntKind.i64 x2))]) [(.cells zc [(.str x3), (.bool x4)] false)])
noncomputable def z2n (x0 x1 x2 x3 : Int) (x4 : List UInt8) (x5 : Bool) : Option PV :=
 runW EE za (ze EE z9 17 (mkT 69 [(4, (.ptr 0 0)), (5, (.int IntKind.i64 x0)), (6, (.int IntKind.i64 x1)), (7, (.int IntKind.i64 x2)), (8, (.int IntKind.i64 x3))]) [(.cells zc [(.str x4), (.bool x5)] false)])
noncomputable def z16 (x0 x1 x2 x3 : Int) (x4 : List UInt8) (x5 : Bool) (x6 x7 x8 : Int) : Option PV :=
 runW EE za (z1o EE zy 3 (mkT 68 [(0, (.ptr 0 0)), (1, (.int IntKind.i64 x0)), (2, (.int IntKind.i64 x1)), (7, (.int IntKind.i64 x2)), (8, (.int IntKind.i64 x3))]) [(.cells zc [(.str x4), (.bool x5)] false)] [frAt EE z9 9 1 (mkT 69 [(4, (.ptr 0 0)), (5, (.int IntKind.i64 x6)), (6, (.int IntKind.i64 x7)), (8, (.int IntKind.i64 x8)), (26, (.ptr 0 0))]) []] [])
noncomputable def z1r (x0 x1 x2 x3 : Int) (x4 : List UInt8) (x5 : Bool) (x6 x7 x8 : Int) : Option PV :=
 runW EE za (z1o EE zy 4 (mkT 68 [(0, (.ptr 0 0)), (1, (.int IntKind.i64 x0)), (2, (.int IntKind.i64 x1)), (7, (.int IntKind.i64 x2)), (8, (.int IntKind.i64 x3))]) [(.cells zc [(.str x4), (.bool x5)] false)] [frAt EE z9 9 1 (mkT 69 [(4, (.ptr 0 0)), (5, (.int IntKind.i64 x6)), (6, (.int IntKind.i64 x7)), (8, (.int IntKind.i64 x8)), (26, (.ptr 0 0))]) []] [])
noncomputable def zm (x0 x1 x2 : Int) (x3 : List UInt8) (x4 : Bool) (x5 x6 x7 : Int) : Option PV :=
 runW EE za (z1o EE zy 6 (mkT 68 [(0, (.ptr 0 0)), (1, (.int IntKind.i64 x0)), (7, (.int IntKind.i64 x1)), (8, (.int IntKind.i64 x2))]) [(.cells zc [(.str x3), (.bool x4)] false)] [frAt EE z9 9 1 (mkT 69 [(4, (.ptr 0 0)), (5, (.int IntKind.i64 x5)), (6, (.int IntKind.i64 x6)), (8, (.int IntKind.i64 x7)), (26, (.ptr 0 0))]) []] [])
noncomputable def z6t (x0 x1 x2 x3 : Int) (x4 : List UInt8) (x5 : Bool) : Option PV :=
 runW EE za (ze EE z9 10 (mkT 69 [(4, (.ptr 0 0)), (5, (.int IntKind.i64 x0)), (6, (.int IntKind.i64 x1)), (7, (.int IntKind.i64 x2)), (8, (.int IntKind.i64 x3))]) [(.cells zc [(.str x4), (.bool x5)] false)])
noncomputable def z12 (x0 : List UInt8) (x1 : Bool) (x2 x3 x4 x5 : Int) : Option PV :=
 runW EE za (z1o EE z70 2 (mkT 28 []) [(.cells zc [(.str x0), (.bool x1)] false)] [frAt EE z9 10 1 (mkT 69 [(4, (.ptr 0 0)), (5, (.int IntKind.i64 x2)), (6, (.int IntKind.i64 x3)), (7, (.int IntKind.i64 x4)), (8, (.int IntKind.i64 x5)), (28, (.ptr 0 0))]) []] [])
noncomputable def z4j (x0 x1 x2 : Int) (x3 : List UInt8) (x4 : Bool) : Option PV :=
 runW EE za (ze EE z9 11 (mkT 69 [(4, (.ptr 0 0)), (5, (.int IntKind.i64 x0)), (6, (.int IntKind.i64 x1)), (7, (.int IntKind.i64 x2))]) [(.cells zc [(.str x3), (.bool x4)] false)])
noncomputable def z15 (x0 x1 x2 x3 : Int) (x4 : List UInt8) (x5 : Bool) (x6 x7 x8 x9 : Int) : Option PV :=
 runW EE za (z1o EE zy 3 (mkT 68 [(0, (.ptr 0 0)), (1, (.int IntKind.i64 x0)), (2, (.int IntKind.i64 x1)), (7, (.int IntKind.i64 x2)), (8, (.int IntKind.i64 x3))]) [(.cells zc [(.str x4), (.bool x5)] false)] [frAt EE z9 12 1 (mkT 69 [(4, (.ptr 0 0)), (5, (.int IntKind.i64 x6)), (6, (.int IntKind.i64 x7)), (7, (.int IntKind.i64 x8)), (9, (.int IntKind.i64 x9)), (35, (.ptr 0 0))]) []] [])
noncomputable def z1q (x0 x1 x2 x3 : Int) (x4 : List UInt8) (x5 : Bool) (x6 x7 x8 x9 : Int) : Option PV :=
 runW EE za (z1o EE zy 4 (mkT 68 [(0, (.ptr 0 0)), (1, (.int IntKind.i64 x0)), (2, (.int IntKind.i64 x1)), (7, (.int IntKind.i64 x2)), (8, (.int IntKind.i64 x3))]) [(.cells zc [(.str x4), (.bool x5)] false)] [frAt EE z9 12 1 (mkT 69 [(4, (.ptr 0 0)), (5, (.int IntKind.i64 x6)), (6, (.int IntKind.i64 x7)), (7, (.int IntKind.i64 x8)), (9, (.int IntKind.i64 x9)), (35, (.ptr 0 0))]) []] [])
noncomputable def zl (x0 x1 x2 : Int) (x3 : List UInt8) (x4 : Bool) (x5 x6 x7 x8 : Int) : Option PV :=
 runW EE za (z1o EE zy 6 (mkT 68 [(0, (.ptr 0 0)), (1, (.int IntKind.i64 x0)), (7, (.int IntKind.i64 x1)), (8, (.int IntKind.i64 x2))]) [(.cells zc [(.str x3), (.bool x4)] false)] [frAt EE z9 12 1 (mkT 69 [(4, (.ptr 0 0)), (5, (.int IntKind.i64 x5)), (6, (.int IntKind.i64 x6)), (7, (.int IntKind.i64 x7)), (9, (.int IntKind.i64 x8)), (35, (.ptr 0 0))]) []] [])
noncomputable def z6s (x0 x1 x2 x3 x4 : Int) (x5 : List UInt8) (x6 : Bool) : Option PV :=
 runW EE za (ze EE z9 13 (mkT 69 [(4, (.ptr 0 0)), (5, (.int IntKind.i64 x0)), (6, (.int IntKind.i64 x1)), (7, (.int IntKind.i64 x2)), (8, (.int IntKind.i64 x3)), (9, (.int IntKind.i64 x4))]) [(.cells zc [(.str x5), (.bool x6)] false)])
noncomputable def z6r (x0 x1 x2 x3 x4 : Int) (x5 : List UInt8) (x6 : Bool) : Option PV :=
 runW EE za (ze EE z9 14 (mkT 69 [(4, (.ptr 0 0)), (5, (.int IntKind.i64 x0)), (6, (.int IntKind.i64 x1)), (7, (.int IntKind.i64 x2)), (8, (.int IntKind.i64 x3)), (10, (.int IntKind.i64 x4))]) [(.cells zc [(.str x5), (.bool x6)] false)])
noncomputable abbrev z8n : List TI := funTI EE z3a
noncomputable def z6g (a0_0 a0_1 a1 : Int) : Option PV := callF EE z3a [(.agg [(.int IntKind.i64 a0_0), (.int IntKind.i64 a0_1)]), (.int IntKind.i64 a1)]
noncomputable def z3b (x0 x1 : Int) : Option PV :=
 runW EE z8n (ze EE z3a 2 (mkT 40 [(4, (.ptr 0 0))]) [(.cells zk [(.int IntKind.i64 x0), (.int IntKind.i64 x1)] false)])
noncomputable def zds (x0 x1 x2 x3 x4 : Int) : Option PV :=
 runW EE z8n (ze EE z3a 3 (mkT 40 [(1, (.int IntKind.i64 x0)), (2, (.ptr 0 0)), (4, (.ptr 1 0))]) [(.cells z29 [(.int IntKind.i64 x1), (.int IntKind.i64 x2)] false), (.cells zk [(.int IntKind.i64 x3), (.int IntKind.i64 x4)] false)])
noncomputable def z6q (x0 x1 x2 x3 : Int) : Option PV :=
 runW EE z8n (ze EE z3a 9 (mkT 40 [(1, (.int IntKind.i64 x0)), (4, (.ptr 0 0)), (6, (.int IntKind.i64 x1))]) [(.cells zk [(.int IntKind.i64 x2), (.int IntKind.i64 x3)] false)])
noncomputable def z1bj (a0 : Int) : Option PV := callF EE z13o [(.int IntKind.i64 a0)]
noncomputable def zju (a0 : Int) : Option PV := callF EE zpu [(.int IntKind.i64 a0)]
noncomputable def z4p (a0 : Int) : Option PV := callF EE zst [(.int IntKind.i64 a0)]
noncomputable def zzr (a0 : Int) : Option PV := callF EE zwa [(.int IntKind.i64 a0)]
noncomputable def zlp (a0 : List UInt8) (a1 : List UInt8) : Option PV := callF EE zha [(.str a0), (.str a1)]
noncomputable abbrev zlk : List TI := funTI EE z2y
noncomputable def zjl (a0 : List UInt8) : Option PV := callF EE z2y [(.str a0)]
noncomputable def z7k (x0 : List UInt8) (x1 x2 : Int) (x3 : List UInt8) (x4 : Nat) : Option PV :=
 runW EE zlk (ze EE z2y 3 (mkT 37 [(0, (.str x0)), (4, (.int IntKind.i64 x1)), (5, (.int IntKind.i64 x2)), (9, (.ptr 0 0))]) [(.iter x3 x4)])
noncomputable def zhm (x0 : List UInt8) (x1 x2 x3 : Int) (x4 : List UInt8) (x5 : Nat) : Option PV :=
 runW EE zlk (ze EE z2y 9 (mkT 37 [(0, (.str x0)), (4, (.int IntKind.i64 x1)), (5, (.int IntKind.i64 x2)), (7, (.int IntKind.i32 x3)), (9, (.ptr 0 0))]) [(.iter x4 x5)])
noncomputable def z15n (a0 a1 : Int) : Option PV := callF EE z75 [(.int IntKind.i64 a0), (.int IntKind.i64 a1)]
noncomputable def z15o (a0 a1 : Int) : Option PV := callF EE z84 [(.int IntKind.i64 a0), (.int IntKind.i64 a1)]
noncomputable def zig (a0 : List UInt8) (a1 : List UInt8) : Option PV := callF EE z21 [(.str a0), (.str a1)]
noncomputable def zh0 (a0 : List UInt8) (a1 : List UInt8) : Option PV := callF EE z7a [(.str a0), (.str a1)]
noncomputable def zfo (a0 : List UInt8) (a1 : List UInt8) : Option PV := callF EE z91 [(.str a0), (.str a1)]
noncomputable def z7l (a0 : List UInt8) : Option PV := callF EE zhz [(.str a0)]
noncomputable def zbb (a0 a1 a2 : Int) : Option PV := callF EE zdk [(.int IntKind.i64 a0), (.int IntKind.i64 a1), (.int IntKind.i64 a2)]
noncomputable abbrev zln : List TI := funTI EE z7x
noncomputable def z89 (a0 a1 a2 : Int) : Option PV := callF EE z7x [(.int IntKind.i64 a0), (.int IntKind.i64 a1), (.int IntKind.i64 a2)]
noncomputable def z80 (x0 x1 x2 x3 : Int) : Option PV :=
 runW EE zln (ze EE z7x 3 (mkT 25 [(0, (.int IntKind.i64 x0)), (1, (.int IntKind.i64 x1)), (7, (.int IntKind.i64 x2)), (8, (.int IntKind.i64 x3))]) [])
noncomputable abbrev z96 : List TI := funTI EE z3k
noncomputable def z9i (a0 : Int) : Option PV := callF EE z3k [(.int IntKind.i64 a0)]
noncomputable def z7j (x0 x1 : Int) : Option PV :=
 runW EE z96 (ze EE z3k 5 (mkT 45 [(6, (.int IntKind.i64 x0)), (7, (.int IntKind.i64 x1))]) [])
noncomputable def z7i (x0 x1 x2 : Int) : Option PV :=
 runW EE z96 (ze EE z3k 8 (mkT 45 [(6, (.int IntKind.i64 x0)), (7, (.int IntKind.i64 x1)), (8, (.int IntKind.i64 x2))]) [])
noncomputable def z6u (x0 x1 x2 : Int) : Option PV :=
 runW EE z96 (ze EE z3k 12 (mkT 45 [(6, (.int IntKind.i64 x0)), (7, (.int IntKind.i64 x1)), (9, (.int IntKind.i64 x2))]) [])
noncomputable def zfz (a0 : List UInt8) : Option PV := callF EE zsl [(.str a0)]
noncomputable def zv0 (a0 : Int) : Option PV := callF EE zsv [(.int IntKind.i64 a0)]
noncomputable def zr0 (a0 a1 a2 : Int) : Option PV := callF EE zpz [(.int IntKind.i64 a0), (.int IntKind.i64 a1), (.int IntKind.i64 a2)]
noncomputable abbrev z14t : List TI := funTI EE zhf
noncomputable def zmq (a0 a1 a2 : Int) : Option PV := callF EE zhf [(.int IntKind.i64 a0), (.int IntKind.i64 a1), (.int IntKind.i64 a2)]
noncomputable def zhj (x0 x1 x2 : Int) : Option PV :=
 runW EE z14t (ze EE zhf 3 (mkT 41 [(0, (.int IntKind.i64 x0)), (1, (.int IntKind.i64 x1)), (2, (.int IntKind.i64 x2))]) [])
noncomputable abbrev zbf : List TI := funTI EE z3z
noncomputable def z1a (a0 : List UInt8) (a1 a2 : Int) : Option PV := callF EE z3z [(.str a0), (.int IntKind.i64 a1), (.int IntKind.i64 a2)]
noncomputable def z8u (x0 : List UInt8) (x1 : Bool) : Option PV :=
 runW EE zbf (ze EE z3z 2 (mkT 39 [(0, (.str x0)), (7, (.bool x1))]) [])
noncomputable def z32 (x0 : List UInt8) (x1 : Bool) (x2 : Int) : Option PV :=
 runW EE zbf (ze EE z3z 3 (mkT 39 [(0, (.str x0)), (7, (.bool x1)), (8, (.int IntKind.i64 x2))]) [])
noncomputable def z1k (a0 : List UInt8) : Option PV := callF EE zco [(.str a0)]
noncomputable abbrev zc0 : List TI := funTI EE z4c
noncomputable def zb6 (a0 : List UInt8) (a1 : Int) : Option PV := callF EE z4c [(.str a0), (.int IntKind.u8 a1)]
noncomputable def z4g (x0 : List UInt8) (x1 x2 : Int) (x3 : List PV) (x4 : Nat) : Option PV :=
 runW EE zc0 (ze EE z4c 3 (mkT 40 [(0, (.str x0)), (1, (.int IntKind.u8 x1)), (5, (.lall 0)), (6, (.int IntKind.i64 x2))]) [(.row z4a 1 x3 0 (some x4))])
noncomputable def z3n (x0 : List UInt8) (x1 x2 : Int) (x3 : List PV) : Option PV :=
 runW EE zc0 (ze EE z4c 3 (mkT 40 [(0, (.str x0)), (1, (.int IntKind.u8 x1)), (5, (.lall 0)), (6, (.int IntKind.i64 x2))]) [(.row z4a 1 x3 0 none)])
noncomputable def zcs (a0 : List UInt8) : Option PV := callF EE zev [(.str a0)]
noncomputable abbrev zc2 : List TI := funTI EE z4e
noncomputable def zb9 (a0 : List UInt8) (a1 : List PV) : Option PV := callF EE z4e [(.str a0), (.sl 1 a1)]
noncomputable def z4i (x0 : List UInt8) (x1 : List PV) (x2 : Int) : Option PV :=
 runW EE zc2 (ze EE z4e 2 (mkT 37 [(0, (.str x0)), (1, (.sl 1 x1)), (5, (.int IntKind.i64 x2))]) [])
noncomputable def zdt (x0 : List UInt8) (x1 : List PV) (x2 : Int) : Option PV :=
 runW EE zc2 (ze EE z4e 4 (mkT 37 [(0, (.str x0)), (1, (.sl 1 x1)), (5, (.int IntKind.i64 x2))]) [])
noncomputable def z7h (a0 : Int) : Option PV := callF EE zey [(.int IntKind.i64 a0)]
noncomputable def zbi (a0 : Int) : Option PV := callF EE zsq [(.int IntKind.u8 a0)]
noncomputable abbrev z19 : List TI := funTI EE zx
noncomputable def z67 (a0 : List PV) : Option PV := callF EE zx [(.sl 1 a0)]
noncomputable def z4w (x0 : List PV) (x1 : Int) (x2 : List PV) (x3 x4 : Int) : Option PV :=
 runW EE z19 (ze EE zx 3 (mkT 36 [(0, (.sl 1 x0)), (3, (.int IntKind.i64 x1)), (9, (.sl 1 x2)), (10, (.int IntKind.i64 x3)), (11, (.int IntKind.i64 x4))]) [])
noncomputable def z8i (x0 : List PV) (x1 : Int) (x2 : List PV) (x3 x4 : Int) : Option PV :=
 runW EE z19 (ze EE zx 8 (mkT 36 [(0, (.sl 1 x0)), (3, (.int IntKind.i64 x1)), (9, (.sl 1 x2)), (10, (.int IntKind.i64 x3)), (11, (.int IntKind.i64 x4))]) [])
noncomputable def z1x (x0 : Int) (x1 : List PV) (x2 x3 : Int) : Option PV :=
 runW EE z19 (z1o EE zet 3 (mkT 27 [(0, .sl0), (1, (.int IntKind.i64 x0))]) [] [frAt EE zx 9 1 (mkT 36 [(0, (.sl 1 x1)), (3, (.int IntKind.i64 x2)), (23, (.int IntKind.i64 x3))]) []] [])
noncomputable def z83 (x0 : List PV) (x1 : Nat) (x2 : Nat) (x3 : List PV) : Option PV :=
 runW EE z19 (ze EE zx 10 (mkT 36 [(0, (.sl 1 x0)), (6, (.lsl 0 x1 x2 none))]) [(.row z4a 1 x3 0 none)])
noncomputable def zcj (x0 : List PV) : Option PV :=
 runW EE z19 (ze EE zx 10 (mkT 36 [(0, (.sl 1 x0)), (6, .sl0)]) [])
noncomputable def z4l (x0 : Nat) (x1 : Nat) (x2 : List PV) (x3 x4 : Int) (x5 : List PV) : Option PV :=
 runW EE z19 (ze EE zx 11 (mkT 36 [(6, (.lsl 0 x0 x1 none)), (25, (.sl 1 x2)), (26, (.int IntKind.i64 x3)), (27, (.int IntKind.i64 x4))]) [(.row z4a 1 x5 0 none)])
noncomputable def zci (x0 : List PV) (x1 x2 : Int) (x3 : List PV) (x4 : Nat) : Option PV :=
 runW EE z19 (ze EE zx 11 (mkT 36 [(6, (.lall 0)), (25, (.sl 1 x0)), (26, (.int IntKind.i64 x1)), (27, (.int IntKind.i64 x2))]) [(.row z4a 1 x3 x4 none)])
noncomputable def z3e (a0_0 a0_1 : Int) : Option PV := callF EE zhe [(.agg [(.int IntKind.i64 a0_0), (.int IntKind.i64 a0_1)])]
noncomputable def z2f (a0_0 a0_1 : Int) : Option PV := callF EE zhd [(.agg [(.int IntKind.i64 a0_0), (.int IntKind.i64 a0_1)])]
noncomputable abbrev zpf : List TI := funTI EE zcq
noncomputable def zow (a0 a1 a2 a3 : Int) : Option PV := callF EE zcq [(.int IntKind.i64 a0), (.int IntKind.i64 a1), (.int IntKind.i64 a2), (.int IntKind.i64 a3)]
noncomputable def zd4  : Option PV :=
 runW EE zpf (ze EE zcq 2 (mkT 42 []) [])
noncomputable def ztb (x0 x1 x2 x3 : Int) : Option PV :=
 runW EE zpf (ze EE zcq 3 (mkT 42 [(0, (.int IntKind.i64 x0)), (1, (.int IntKind.i64 x1)), (2, (.int IntKind.i64 x2)), (3, (.int IntKind.i64 x3))]) [])
noncomputable abbrev zde : List TI := funTI EE z50
noncomputable def z9h (a0 a1 a2 a3 : Int) : Option PV := callF EE z50 [(.int IntKind.i64 a0), (.int IntKind.i64 a1), (.int IntKind.i64 a2), (.int IntKind.i64 a3)]
noncomputable def z1e  : Option PV :=
 runW EE zde (ze EE z50 2 (mkT 54 []) [])
noncomputable def z9y (x0 x1 x2 x3 : Int) : Option PV :=
 runW EE zde (ze EE z50 3 (mkT 54 [(0, (.int IntKind.i64 x0)), (1, (.int IntKind.i64 x1)), (2, (.int IntKind.i64 x2)), (3, (.int IntKind.i64 x3))]) [])
noncomputable def z8w (a0_0 a0_1 : Int) : Option PV := callF EE zdh [(.agg [(.int IntKind.i64 a0_0), (.int IntKind.i64 a0_1)])]
noncomputable def num_Sub (a0 a1 : Int) : Option PV := callF EE z13n [(.int IntKind.i64 a0), (.int IntKind.i64 a1)]
noncomputable def zox (a0 : Int) : Option PV := callF EE zsy [(.int IntKind.i64 a0)]
noncomputable def z1bl (a0 a1 : Int) : Option PV := callF EE z13q [(.int IntKind.i64 a0), (.int IntKind.i64 a1)]
noncomputable def z1bk (a0 a1 : Int) : Option PV := callF EE z13p [(.int IntKind.i64 a0), (.int IntKind.i64 a1)]
noncomputable def zf9 (a0 a1 : Int) : Option PV := callF EE zmb [(.int IntKind.i64 a0), (.int IntKind.i64 a1)]
noncomputable abbrev zed : List TI := funTI EE z5f
noncomputable def za4 (a0 : List UInt8) (a1 : List UInt8) : Option PV := callF EE z5f [(.str a0), (.str a1)]
noncomputable def zag  : Option PV :=
 runW EE zed (ze EE z5f 3 (mkT 143 []) [])
noncomputable def zfj (x0 : List UInt8) (x1 : List UInt8) (x2 : Int) : Option PV :=
 runW EE zed (ze EE z5f 4 (mkT 143 [(0, (.str x0)), (1, (.str x1)), (5, (.int IntKind.i64 x2))]) [])
noncomputable abbrev zby : List TI := funTI EE z8m
noncomputable def zic (a0 : Int) : Option PV := callF EE z8m [(.int IntKind.i32 a0)]
noncomputable def zva  : Option PV :=
 runW EE zby (ze EE z8m 2 (mkT 42 []) [])
noncomputable def zgz (x0 : Int) : Option PV :=
 runW EE zby (ze EE z8m 3 (mkT 42 [(0, (.int IntKind.i32 x0))]) [])
noncomputable def zgy  : Option PV :=
 runW EE zby (ze EE z8m 4 (mkT 42 []) [])
noncomputable def zld (x0 : Int) : Option PV :=
 runW EE zby (ze EE z8m 5 (mkT 42 [(0, (.int IntKind.i32 x0))]) [])
noncomputable def zbw  : Option PV :=
 runW EE zby (ze EE z8m 10 (mkT 42 []) [])
noncomputable abbrev z120 : List TI := funTI EE zfu
noncomputable def zg2 (a0 : Bool) (a1_0 a1_1 : Int) : Option PV := callF EE zfu [(.bool a0), (.agg [(.int IntKind.u64 a1_0), (.int IntKind.u64 a1_1)])]
noncomputable def zjz (x0 : Bool) (x1 : List PV) (x2 : Nat) : Option PV :=
 runW EE z120 (ze EE zfu 5 (mkT 31 [(0, (.bool x0)), (3, (.ptr 0 0))]) [(.row z17m 1 x1 0 (some x2))])
noncomputable def zk0 (a0 a1 : Int) : Option PV := callF EE zpw [(.int IntKind.i64 a0), (.int IntKind.i64 a1)]
noncomputable def zeg (a0 : List UInt8) (a1 : List UInt8) : Option PV := callF EE zbn [(.str a0), (.str a1)]
noncomputable def zdf (a0 : List UInt8) (a1 : List UInt8) : Option PV := callF EE zaq [(.str a0), (.str a1)]
noncomputable abbrev zfh : List TI := funTI EE z6c
noncomputable def zkm (a0 : List UInt8) (a1 : List UInt8) (a2 a3 : Int) : Option PV := callF EE z6c [(.str a0), (.str a1), (.int IntKind.i64 a2), (.int IntKind.i64 a3)]
noncomputable def zb4 (x0 : List UInt8) (x1 : List UInt8) (x2 x3 : Int) : Option PV :=
 runW EE zfh (ze EE z6c 7 (mkT 66 [(0, (.str x0)), (1, (.str x1)), (2, (.int IntKind.i64 x2)), (3, (.int IntKind.i64 x3))]) [])
noncomputable def z7u (x0 : List UInt8) (x1 : List UInt8) (x2 x3 x4 : Int) (x5 : List PV) (x6 : Nat) : Option PV :=
 runW EE zfh (ze EE z6c 11 (mkT 66 [(0, (.str x0)), (1, (.str x1)), (2, (.int IntKind.i64 x2)), (3, (.int IntKind.i64 x3)), (9, (.lall 0)), (10, (.int IntKind.i64 x4))]) [(.row z4a 1 x5 0 (some x6))])
noncomputable abbrev zjq : List TI := funTI EE z6k
noncomputable def zba (a0 : Int) : Option PV := callF EE z6k [(.int IntKind.i64 a0)]
noncomputable def z4k (x0 x1 x2 : Int) : Option PV :=
 runW EE zjq (ze EE z6k 3 (mkT 24 [(0, (.int IntKind.i64 x0)), (3, (.int IntKind.i64 x1)), (4, (.int IntKind.i64 x2))]) [])
noncomputable def ze6 (a0 : Int) : Option PV := callF EE zfn [(.int IntKind.i64 a0)]
noncomputable def zab (a0 a1 : Int) : Option PV := callF EE zfm [(.int IntKind.i64 a0), (.int IntKind.i64 a1)]
noncomputable def z4q (a0 a1 : Int) : Option PV := callF EE zfl [(.int IntKind.i64 a0), (.int IntKind.i64 a1)]
noncomputable def ztt (a0 : List UInt8) (a1 : List PV) : Option PV := callF EE zsk [(.str a0), (.sl 1 a1)]
noncomputable def zki (a0 a1 : Int) : Option PV := callF EE zpy [(.int IntKind.i64 a0), (.int IntKind.i64 a1)]
noncomputable abbrev z55 : List TI := funTI EE z2c
noncomputable def zaj (a0 : List UInt8) : Option PV := callF EE z2c [(.str a0)]
noncomputable def z43 (x0 : List UInt8) (x1 x2 x3 : Int) : Option PV :=
 runW EE z55 (ze EE z2c 4 (mkT 50 [(0, (.str x0)), (4, (.int IntKind.i64 x1)), (5, (.int IntKind.i64 x2)), (6, (.int IntKind.i64 x3))]) [])
noncomputable def z86 (x0 : List UInt8) (x1 x2 x3 : Int) : Option PV :=
 runW EE z55 (ze EE z2c 10 (mkT 50 [(0, (.str x0)), (4, (.int IntKind.i64 x1)), (6, (.int IntKind.i64 x2)), (7, (.int IntKind.i64 x3))]) [])
noncomputable def z5a (x0 : List UInt8) (x1 x2 x3 x4 : Int) : Option PV :=
 runW EE z55 (ze EE z2c 11 (mkT 50 [(0, (.str x0)), (4, (.int IntKind.i64 x1)), (5, (.int IntKind.i64 x2)), (6, (.int IntKind.i64 x3)), (7, (.int IntKind.i64 x4))]) [])
noncomputable def z8x (x0 : List UInt8) (x1 x2 x3 : Int) : Option PV :=
 runW EE z55 (ze EE z2c 5 (mkT 50 [(0, (.str x0)), (4, (.int IntKind.i64 x1)), (5, (.int IntKind.i64 x2)), (6, (.int IntKind.i64 x3))]) [])
noncomputable def z112 (a0 : Int) : Option PV := callF EE zwd [(.int IntKind.i64 a0)]
noncomputable def zqz (a0 : Int) : Option PV := callF EE zpx [(.int IntKind.i64 a0)]
noncomputable def zv6 (a0 a1 : Int) : Option PV := callF EE zsz [(.int IntKind.u64 a0), (.int IntKind.u64 a1)]
noncomputable def z78 (a0 : List UInt8) (a1 : List UInt8) : Option PV := callF EE zbm [(.str a0), (.str a1)]
noncomputable abbrev zrn : List TI := funTI EE zeu
noncomputable def z18q (a0 a1 a2 : Int) : Option PV := callF EE zeu [(.int IntKind.i64 a0), (.int IntKind.i64 a1), (.int IntKind.i64 a2)]
noncomputable def zh8 (x0 : Bool) (x1 : Int) : Option PV :=
 runW EE zrn (ze EE zeu 9 (mkT 66 [(10, (.bool x0)), (11, (.int IntKind.u64 x1))]) [])
noncomputable def zsd (x0 : Int) : Option PV :=
 runW EE zrn (ze EE zeu 10 (mkT 66 [(11, (.int IntKind.u64 x0))]) [])
noncomputable def z77 (a0 : List UInt8) (a1 : Int) : Option PV := callF EE zbl [(.str a0), (.int IntKind.u8 a1)]
noncomputable def zsc (a0 : Int) : Option PV := callF EE z10h [(.int IntKind.i64 a0)]
noncomputable def zz0 (a0 : List UInt8) (a1 : Int) : Option PV := callF EE zsm [(.str a0), (.int IntKind.i64 a1)]
noncomputable abbrev zua : List TI := funTI EE zb2
noncomputable def zjt (a0 : List UInt8) (a1 : List UInt8) : Option PV := callF EE zb2 [(.str a0), (.str a1)]
noncomputable def zwy (x0 : List UInt8) (x1 : List UInt8) (x2 : Int) : Option PV :=
 runW EE zua (ze EE zb2 6 (mkT 34 [(0, (.str x0)), (1, (.str x1)), (5, (.int IntKind.i64 x2))]) [])
noncomputable def zjs (a0 : List UInt8) (a1 : List UInt8) : Option PV := callF EE zkp [(.str a0), (.str a1)]
noncomputable def zgg  : Option PV := callF EE zdl []
noncomputable def zhi  : Option PV := callF EE zez []
noncomputable abbrev zbt : List TI := funTI EE z2r
noncomputable def z8d (a0 : List PV) (a1 : PV) : Option PV := callF EE z2r [(.sl 1 a0), a1]
noncomputable def z2p (x0 : List PV) (x1 : PV) (x2 x3 : Int) : Option PV :=
 runW EE zbt (ze EE z2r 2 (mkT 19 [(0, (.sl 1 x0)), (1, (.opq x1 0)), (7, (.int IntKind.i64 x2)), (8, (.int IntKind.i64 x3))]) [])
noncomputable def zle (a0 : List UInt8) (q0 : PV) : Option PV := callF EE z6b [(.str a0), q0]
noncomputable def zb8 (a0 : Int) : Option PV := callF EE zdi [(.int IntKind.u8 a0)]
noncomputable def z114  : Option PV := callF EE zq0 []
noncomputable def z142  : Option PV := callF EE zsw []
noncomputable abbrev zho : List TI := funTI EE za9
noncomputable def z147 (a0 a1 a2 : Int) : Option PV := callF EE za9 [(.int IntKind.u64 a0), (.int IntKind.u64 a1), (.int IntKind.u64 a2)]
noncomputable def zti (x0 x1 x2 : Int) : Option PV :=
 runW EE zho (ze EE za9 3 (mkT 135 [(0, (.int IntKind.u64 x0)), (1, (.int IntKind.u64 x1)), (2, (.int IntKind.u64 x2))]) [])
noncomputable def zth (x0 x1 x2 : Int) : Option PV :=
 runW EE zho (ze EE za9 5 (mkT 135 [(0, (.int IntKind.u64 x0)), (1, (.int IntKind.u64 x1)), (2, (.int IntKind.u64 x2))]) [])
noncomputable def z12k (x0 x1 x2 x3 x4 x5 x6 x7 x8 : Int) : Option PV :=
 runW EE zho (ze EE za9 17 (mkT 135 [(2, (.int IntKind.u64 x0)), (8, (.int IntKind.u64 x1)), (9, (.int IntKind.u64 x2)), (10, (.int IntKind.u64 x3)), (11, (.int IntKind.u64 x4)), (13, (.int IntKind.u64 x5)), (14, (.int IntKind.u64 x6)), (15, (.int IntKind.u64 x7)), (16, (.int IntKind.u64 x8))]) [])
noncomputable def zkw (a0 : List UInt8) : Option PV := callF EE zhy [(.str a0)]
noncomputable def zr2 (a0 : Int) : Option PV := callF EE zkz [(.int IntKind.u64 a0)]
noncomputable abbrev z3i : List TI := funTI EE z24
noncomputable def zcd (a0 : List PV) : Option PV := callF EE z24 [(.sl 1 a0)]
noncomputable def zs4 (x0 : List PV) (x1 x2 x3 x4 : Int) (x5 : List PV) (x6 : Nat) : Option PV :=
 runW EE z3i (ze EE z24 5 (mkT 52 [(0, (.sl 1 x0)), (2, (.ptr 0 0)), (4, (.int IntKind.i64 x1)), (5, (.lall 1))]) [(.cells zh [(.int IntKind.i64 x2), (.int IntKind.i64 x3), (.int IntKind.i64 x4)] false), (.row z4a 1 x5 0 (some x6))])
noncomputable def zp1 (x0 : List PV) (x1 : Int) (x2 : Nat) (x3 : Nat) (x4 x5 x6 : Int) (x7 : List PV) (x8 : Nat) : Option PV :=
 runW EE z3i (ze EE z24 5 (mkT 52 [(0, (.sl 1 x0)), (2, (.ptr 0 0)), (4, (.int IntKind.i64 x1)), (5, (.lsl 1 x2 x3 none))]) [(.cells zh [(.int IntKind.i64 x4), (.int IntKind.i64 x5), (.int IntKind.i64 x6)] false), (.row z4a 1 x7 0 (some x8))])
noncomputable def zah (x0 : List PV) (x1 x2 x3 x4 : Int) (x5 : List PV) : Option PV :=
 runW EE z3i (ze EE z24 5 (mkT 52 [(0, (.sl 1 x0)), (2, (.ptr 0 0)), (4, (.int IntKind.i64 x1)), (5, (.lall 1))]) [(.cells zh [(.int IntKind.i64 x2), (.int IntKind.i64 x3), (.int IntKind.i64 x4)] false), (.row z4a 1 x5 0 none)])
noncomputable def z5e (x0 : List PV) (x1 : Int) (x2 : Nat) (x3 : Nat) (x4 x5 x6 : Int) (x7 : List PV) : Option PV :=
 runW EE z3i (ze EE z24 5 (mkT 52 [(0, (.sl 1 x0)), (2, (.ptr 0 0)), (4, (.int IntKind.i64 x1)), (5, (.lsl 1 x2 x3 none))]) [(.cells zh [(.int IntKind.i64 x4), (.int IntKind.i64 x5), (.int IntKind.i64 x6)] false), (.row z4a 1 x7 0 none)])
noncomputable def zfk (x0 : List PV) (x1 : Int) (x2 : Nat) (x3 : Nat) (x4 x5 x6 : Int) (x7 : List PV) : Option PV :=
 runW EE z3i (ze EE z24 6 (mkT 52 [(0, (.sl 1 x0)), (2, (.ptr 0 0)), (4, (.int IntKind.i64 x1)), (5, (.lsl 1 x2 x3 none))]) [(.cells zh [(.int IntKind.i64 x4), (.int IntKind.i64 x5), (.int IntKind.i64 x6)] false), (.row z4a 1 x7 0 none)])
noncomputable def z20 (x0 : List PV) (x1 : Int) (x2 : Nat) (x3 : Nat) (x4 x5 x6 : Int) (x7 : List PV) : Option PV :=
 runW EE z3i (ze EE z24 7 (mkT 52 [(0, (.sl 1 x0)), (2, (.ptr 0 0)), (4, (.int IntKind.i64 x1)), (5, (.lsl 1 x2 x3 none))]) [(.cells zh [(.int IntKind.i64 x4), (.int IntKind.i64 x5), (.int IntKind.i64 x6)] false), (.row z4a 1 x7 0 none)])
noncomputable def z1f (x0 : Nat) (x1 : Nat) (x2 x3 : Int) (x4 : List PV) (x5 x6 x7 : Int) (x8 : List PV) (x9 : Int) (x10 : Nat) (x11 : Nat) (x12 : Nat) (x13 : Nat) : Option PV :=
 runW EE z3i (z1o EE ziw 1 (mkT 28 [(0, (.lsl 0 x0 x1 none)), (2, (.int IntKind.i64 x2)), (3, (.int IntKind.i64 x3))]) [(.row z4a 1 x4 0 none), (.cells zh [(.int IntKind.i64 x5), (.int IntKind.i64 x6), (.int IntKind.i64 x7)] false)] [frAt EE z24 6 1 (mkT 52 [(0, (.sl 1 x8)), (2, (.ptr 1 0)), (4, (.int IntKind.i64 x9)), (5, (.lsl 0 x10 x11 none)), (26, (.lsl 0 x12 x13 none))]) []] [])
noncomputable abbrev zhn : List TI := funTI EE z59
noncomputable def z9j (a0 : List PV) (a1 : PV) : Option PV := callF EE z59 [(.sl 1 a0), a1]
noncomputable def z81 (x0 : List PV) (x1 : PV) (x2 x3 : Int) : Option PV :=
 runW EE zhn (ze EE z59 2 (mkT 19 [(0, (.sl 1 x0)), (1, (.opq x1 0)), (7, (.int IntKind.i64 x2)), (8, (.int IntKind.i64 x3))]) [])
noncomputable def zip (a0 : List UInt8) : Option PV := callF EE z34 [(.str a0)]
noncomputable def zcb (a0 : List UInt8) : Option PV := callF EE zhc [(.str a0)]
noncomputable abbrev zg6 : List TI := funTI EE z7b
noncomputable def zca (a0_0 : List PV) (a0_1 : Int) : Option PV := callF EE z7b [(.agg [(.sl 1 a0_0), (.int IntKind.i64 a0_1)])]
noncomputable def z57 (x0 : List UInt8) (x1 : List UInt8) (x2 : List UInt8) (x3 x4 x5 : Int) : Option PV :=
 runW EE zg6 (ze EE z7b 6 (mkT 65 [(2, (.ptr 0 0)), (4, (.str x0)), (5, (.str x1)), (6, (.str x2))]) [(.cells zh [(.int IntKind.i64 x3), (.int IntKind.i64 x4), (.int IntKind.i64 x5)] false)])
noncomputable def zh4 (x0 : List UInt8) (x1 : List UInt8) (x2 : List UInt8) (x3 : List PV) (x4 x5 x6 x7 : Int) : Option PV :=
 runW EE zg6 (ze EE z7b 4 (mkT 65 [(1, (.ptr 0 0)), (2, (.ptr 1 0)), (4, (.str x0)), (5, (.str x1)), (6, (.str x2))]) [(.cells zjn [(.sl 1 x3), (.int IntKind.i64 x4)] false), (.cells zh [(.int IntKind.i64 x5), (.int IntKind.i64 x6), (.int IntKind.i64 x7)] false)])
noncomputable def zzg (a0 : List UInt8) : Option PV := callF EE zw9 [(.str a0)]
theorem zgx (a0 : List UInt8) (a1_0 a1_1 a1_2 : Int) : zcy a0 a1_0 a1_1 a1_2 =
  ((zen a0 a1_0 a1_1 a1_2).bind fun v1 => ((zcv a0 a1_0 a1_1 a1_2).bind fun v2 => ((zok a0 a1_0 a1_1 a1_2).bind fun v3 => ((z6f a0 a1_0 a1_1 a1_2).bind fun v4 => (bif ((eqB (PV.toI (PV.nth (PV.tnth v1 0) 0)) (PV.toI (PV.nth (PV.tnth v2 0) 0))) && ((eqB (PV.toI (PV.nth (PV.tnth v1 0) 1)) (PV.toI (PV.nth (PV.tnth v2 0) 1))) && true)) then (bif (eqB (PV.toI (PV.tnth v1 1)) (PV.toI (PV.tnth v2 1))) then (bif ((eqB (PV.toI (PV.nth (PV.tnth v3 0) 0)) (PV.toI (PV.nth (PV.tnth v4 0) 0))) && ((eqB (PV.toI (PV.nth (PV.tnth v3 0) 1)) (PV.toI (PV.nth (PV.tnth v4 0) 1))) && true)) then (bif (eqB (PV.toI (PV.tnth v3 1)) (PV.toI (PV.tnth v4 1))) then ((zbc).bind fun v5 => (some (PV.bool (PV.toB v5)))) else (some (PV.bool false))) else (some (PV.bool false))) else (some (PV.bool false))) else (some (PV.bool false))))))) :=
 (z8 EE zae _ rfl).trans (by kernel_rfl)
theorem zlb  : zbc  =
  ((z42 2024 3 31).bind fun v1 => ((zen [50, 48, 50, 52, 45, 48, 51, 45, 51, 49] 0 2 0).bind fun v2 => ((zen [51, 47, 51, 49, 47, 50, 48, 50, 52] 0 2 0).bind fun v3 => ((zen [51, 49, 32, 109, 97, 114, 32, 50, 48, 50, 52] 0 2 0).bind fun v4 => ((zen [50, 48, 50, 52, 48, 51, 51, 49] 0 2 0).bind fun v5 => ((zs9 [49, 32, 121, 101, 97, 114, 32, 45, 50, 32, 109, 111, 110, 115, 32, 48, 51, 58, 48, 48, 58, 48, 48, 32, 97, 103, 111]).bind fun v6 => ((zs9 [80, 49, 89, 50, 77, 51, 68, 84, 52, 72]).bind fun v7 => ((z42 (-43) 3 15).bind fun v8 => ((zen [48, 48, 52, 52, 45, 48, 51, 45, 49, 53, 32, 66, 67] 0 2 0).bind fun v9 => (bif ((eqB (PV.toI (PV.nth (PV.tnth v2 0) 0)) (PV.toI (PV.nth (PV.tnth v1 0) 0))) && ((eqB (PV.toI (PV.nth (PV.tnth v2 0) 1)) (PV.toI (PV.nth (PV.tnth v1 0) 1))) && true)) then (bif (eqB (PV.toI (PV.tnth v2 1)) 0) then (bif ((eqB (PV.toI (PV.nth (PV.tnth v3 0) 0)) (PV.toI (PV.nth (PV.tnth v1 0) 0))) && ((eqB (PV.toI (PV.nth (PV.tnth v3 0) 1)) (PV.toI (PV.nth (PV.tnth v1 0) 1))) && true)) then (bif (eqB (PV.toI (PV.tnth v3 1)) 0) then (bif ((eqB (PV.toI (PV.nth (PV.tnth v4 0) 0)) (PV.toI (PV.nth (PV.tnth v1 0) 0))) && ((eqB (PV.toI (PV.nth (PV.tnth v4 0) 1)) (PV.toI (PV.nth (PV.tnth v1 0) 1))) && true)) then (bif (eqB (PV.toI (PV.tnth v4 1)) 0) then (bif ((eqB (PV.toI (PV.nth (PV.tnth v5 0) 0)) (PV.toI (PV.nth (PV.tnth v1 0) 0))) && ((eqB (PV.toI (PV.nth (PV.tnth v5 0) 1)) (PV.toI (PV.nth (PV.tnth v1 0) 1))) && true)) then (bif (eqB (PV.toI (PV.tnth v5 1)) 0) then (bif ((eqB (PV.toI (PV.nth (PV.tnth v6 0) 0)) 0) && ((eqB (PV.toI (PV.nth (PV.tnth v6 0) 1)) (-10)) && ((eqB (PV.toI (PV.nth (PV.tnth v6 0) 2)) 0) && ((eqB (PV.toI (PV.nth (PV.tnth v6 0) 3)) (-10800000000)) && true)))) then (bif (eqB (PV.toI (PV.tnth v6 1)) 0) then (bif ((eqB (PV.toI (PV.nth (PV.tnth v7 0) 0)) 0) && ((eqB (PV.toI (PV.nth (PV.tnth v7 0) 1)) 14) && ((eqB (PV.toI (PV.nth (PV.tnth v7 0) 2)) 3) && ((eqB (PV.toI (PV.nth (PV.tnth v7 0) 3)) 14400000000) && true)))) then (bif (eqB (PV.toI (PV.tnth v7 1)) 0) then (bif ((eqB (PV.toI (PV.nth (PV.tnth v9 0) 0)) (PV.toI (PV.nth (PV.tnth v8 0) 0))) && ((eqB (PV.toI (PV.nth (PV.tnth v9 0) 1)) (PV.toI (PV.nth (PV.tnth v8 0) 1))) && true)) then (some (PV.bool (eqB (PV.toI (PV.tnth v9 1)) 0))) else (some (PV.bool false))) else (some (PV.bool false))) else (some (PV.bool false))) else (some (PV.bool false))) else (some (PV.bool false))) else (some (PV.bool false))) else (some (PV.bool false))) else (some (PV.bool false))) else (some (PV.bool false))) else (some (PV.bool false))) else (some (PV.bool false))) else (some (PV.bool false))) else (some (PV.bool false)))))))))))) :=
 (z8 EE zdm _ rfl).trans (by kernel_rfl)
theorem z18d (a0 : List UInt8) (a1_0 a1_1 a1_2 : Int) : zen a0 a1_0 a1_1 a1_2 =
  ((z15g a0 a1_0 a1_1 a1_2).bind fun v1 => (bif (!(eqB (PV.toI v1) 0)) then (some (PV.tuple [(PV.agg [(PV.int .i64 0), (PV.int .i64 0)]), (PV.int .i64 (PV.toI v1))])) else ((zin a0).bind fun v2 => ((zh5 (PV.toL v2)).bind fun v3 => (bif (PV.toB (PV.tnth v3 1)) then (some (PV.tuple [(PV.agg [(PV.int .i64 (PV.toI (PV.nth (PV.tnth v3 0) 0))), (PV.int .i64 (PV.toI (PV.nth (PV.tnth v3 0) 1)))]), (PV.int .i64 0)])) else (bif (ltB (IntKind.wrap .i64 ((((List.length (PV.toL v2)) : Nat) : Int) - 1)) 1) then (z9p false a1_0 a1_1 a1_2 0 0 (PV.toL v2)) else ((rdI tiStr (PV.toL v2) (IntKind.wrap .i64 ((((List.length (PV.toL v2)) : Nat) : Int) - 1))).bind fun v4 => ((za1 (PV.toS v4)).bind fun v5 => (bif (eqS (PV.toS v5) [98, 99]) then ((takeS (PV.toL v2) (IntKind.wrap .i64 ((((List.length (PV.toL v2)) : Nat) : Int) - 1))).bind fun v6 => (z9p (eqS (PV.toS v5) [98, 99]) a1_0 a1_1 a1_2 0 0 v6)) else (bif (eqS (PV.toS v5) [97, 100]) then ((takeS (PV.toL v2) (IntKind.wrap .i64 ((((List.length (PV.toL v2)) : Nat) : Int) - 1))).bind fun v7 => (z9p (eqS (PV.toS v5) [98, 99]) a1_0 a1_1 a1_2 0 0 v7)) else (z9p (eqS (PV.toS v5) [98, 99]) a1_0 a1_1 a1_2 0 0 (PV.toL v2)))))))))))) :=
 (z8 EE z26 _ rfl).trans (by kernel_rfl)
theorem zzl (x0 : Bool) (x1 x2 x3 x4 x5 : Int) (x6 : List PV) : z9p x0 x1 x2 x3 x4 x5 x6 =
  (bif (leB 3 (((List.length x6) : Nat) : Int)) then ((zg1 x6).bind fun v8 => (bif (PV.toB v8) then (zao x0 x6 0 0 0 x1 x2 x3 x4 x5 x0 x0 x2) else (z4u x0 x2 x6 0 0 0 x1 x2 x3 x4 x5 x0 x0 x2))) else (z4u x0 x2 x6 0 0 0 x1 x2 x3 x4 x5 x0 x0 x2)) :=
 (z7 EE _ _).trans (by kernel_rfl)
theorem zfr (x0 : Bool) (x1 : List PV) (x2 x3 x4 x5 x6 x7 x8 x9 : Int) (x10 : Bool) (x11 : Bool) (x12 : Int) : zao x0 x1 x2 x3 x4 x5 x6 x7 x8 x9 x10 x11 x12 =
  ((takeS x1 3).bind fun v9 => ((dropS x1 3).bind fun v10 => (z7n x0 v9 x2 x3 x4 x5 x6 x7 x8 x9 v10 x10 x11 x12))) :=
 (z7 EE _ _).trans (by kernel_rfl)
theorem z9e (x0 : Bool) (x1 : Int) (x2 : List PV) (x3 x4 x5 x6 x7 x8 x9 x10 : Int) (x11 : Bool) (x12 : Bool) (x13 : Int) : z4u x0 x1 x2 x3 x4 x5 x6 x7 x8 x9 x10 x11 x12 x13 =
  (bif (eqB (((List.length x2) : Nat) : Int) 0) then (z4t x0 x1 [] false x3 x4 x5 x6 x7 x8 x9 x10 x2 x11 x12 x13) else ((rdI tiStr x2 0).bind fun v11 => ((dropS x2 1).bind fun v12 => (z4t x0 x1 (PV.toS v11) true x3 x4 x5 x6 x7 x8 x9 x10 v12 x11 x12 x13)))) :=
 (z7 EE _ _).trans (by kernel_rfl)
theorem z9c (x0 : Bool) (x1 : List PV) (x2 x3 x4 x5 x6 x7 x8 x9 : Int) (x10 : List PV) (x11 : Bool) (x12 : Bool) (x13 : Int) : z7n x0 x1 x2 x3 x4 x5 x6 x7 x8 x9 x10 x11 x12 x13 =
  ((zcd x1).bind fun v13 => (bif (!(PV.toB (PV.tnth v13 1))) then (z14 x2 x3 x4 x5 x6 x7 x8 x9 x10 x11 x12 x13) else (bif (eqB (PV.toI (PV.nth (PV.tnth v13 0) 0)) 0) then (z14 x2 x3 x4 x5 x6 x7 x8 x9 x10 x11 x12 x13) else (z33 x0 x2 x3 x4 (PV.toI (PV.nth (PV.tnth v13 0) 0)) (PV.toI (PV.nth (PV.tnth v13 0) 1)) (PV.toI (PV.nth (PV.tnth v13 0) 2)) x5 x6 x7 x8 x9 x10 x11 x12 x13)))) :=
 (z7 EE _ _).trans (by kernel_rfl)
theorem z9d (x0 : Bool) (x1 : Int) (x2 : List UInt8) (x3 : Bool) (x4 x5 x6 x7 x8 x9 x10 x11 : Int) (x12 : List PV) (x13 : Bool) (x14 : Bool) (x15 : Int) : z4t x0 x1 x2 x3 x4 x5 x6 x7 x8 x9 x10 x11 x12 x13 x14 x15 =
  (bif x3 then ((z4m x2 8 8).bind fun v14 => (bif (PV.toB v14) then (z9o x0 x2 x4 x5 x6 x7 x8 x9 x10 x11 x12 x13 x14 x15) else (z3y x2 x1 [45, 47, 46] 0 x4 x5 x6 x7 x8 x9 x10 x11 x12 x0 x1 x2 x2 x1 x13 x14 x15))) else (z68 x0 x4 x5 x6 x7 x8 x9 x10 x11 x12 x13 x14 x15)) :=
 (z7 EE _ _).trans (by kernel_rfl)
theorem z90 (x0 x1 x2 x3 x4 x5 x6 x7 : Int) (x8 : List PV) (x9 : Bool) (x10 : Bool) (x11 : Int) : z14 x0 x1 x2 x3 x4 x5 x6 x7 x8 x9 x10 x11 =
  (z3h false x6 x7 x8 0 0 0) :=
 (z7 EE _ _).trans (by kernel_rfl)
theorem zfd (x0 : Bool) (x1 x2 x3 x4 x5 x6 x7 x8 x9 x10 x11 : Int) (x12 : List PV) (x13 : Bool) (x14 : Bool) (x15 : Int) : z33 x0 x1 x2 x3 x4 x5 x6 x7 x8 x9 x10 x11 x12 x13 x14 x15 =
  (bif x0 then (z49 x1 x2 x3 (IntKind.wrap .i64 (1 - x4)) x5 x6 x7 x8 x9 x10 x11 x12 x13 x14 x15) else (z49 x1 x2 x3 x4 x5 x6 x7 x8 x9 x10 x11 x12 x13 x14 x15)) :=
 (z7 EE _ _).trans (by kernel_rfl)
theorem zem (x0 : Bool) (x1 : List UInt8) (x2 x3 x4 x5 x6 x7 x8 x9 : Int) (x10 : List PV) (x11 : Bool) (x12 : Bool) (x13 : Int) : z9o x0 x1 x2 x3 x4 x5 x6 x7 x8 x9 x10 x11 x12 x13 =
  ((zcb x1).bind fun v15 => (bif (!(PV.toB (PV.tnth v15 1))) then (z14 x2 x3 x4 x5 x6 x7 x8 x9 x10 x11 x12 x13) else (bif (eqB (PV.toI (PV.nth (PV.tnth v15 0) 0)) 0) then (z14 x2 x3 x4 x5 x6 x7 x8 x9 x10 x11 x12 x13) else (z33 x0 x2 x3 x4 (PV.toI (PV.nth (PV.tnth v15 0) 0)) (PV.toI (PV.nth (PV.tnth v15 0) 1)) (PV.toI (PV.nth (PV.tnth v15 0) 2)) x5 x6 x7 x8 x9 x10 x11 x12 x13)))) :=
 (z7 EE _ _).trans (by kernel_rfl)
theorem z8k (x0 : List UInt8) (x1 : Int) (x2 : List UInt8) (x3 : Nat) (x4 x5 x6 x7 x8 x9 x10 x11 : Int) (x12 : List PV) (x13 : Bool) (x14 : Int) (x15 : List UInt8) (x16 : List UInt8) (x17 : Int) (x18 : Bool) (x19 : Bool) (x20 : Int) : z3y x0 x1 x2 x3 x4 x5 x6 x7 x8 x9 x10 x11 x12 x13 x14 x15 x16 x17 x18 x19 x20 =
  (bif (ltN x3 (List.length x2)) then ((zfo x0 (encR ((((decR x2 x3).1) : Nat) : Int))).bind fun v16 => (bif (!(eqB (((List.length (PV.toL v16)) : Nat) : Int) 3)) then (z3y x0 x1 x2 (x3 + ((decR x2 x3).2)) x4 x5 x6 x7 x8 x9 x10 x11 x12 x13 x14 x15 x16 x17 x18 x19 x20) else (bif (eqB ((((decR x2 x3).1) : Nat) : Int) 45) then ((zg1 (PV.toL v16)).bind fun v17 => (bif (PV.toB v17) then (z7n x13 (PV.toL v16) x4 x5 x6 x7 x8 x9 x10 x11 x12 x18 x19 x20) else (z3x x13 (PV.toL v16) x1 x4 x5 x6 x7 x8 x9 x10 x11 x12 x18 x19 x20))) else (z3x x13 (PV.toL v16) x1 x4 x5 x6 x7 x8 x9 x10 x11 x12 x18 x19 x20)))) else (z68 x13 x4 x5 x6 x7 x8 x9 x10 x11 x12 x18 x19 x20)) :=
 (z7 EE _ _).trans (by kernel_rfl)
theorem z8j (x0 : Bool) (x1 x2 x3 x4 x5 x6 x7 x8 : Int) (x9 : List PV) (x10 : Bool) (x11 : Bool) (x12 : Int) : z68 x0 x1 x2 x3 x4 x5 x6 x7 x8 x9 x10 x11 x12 =
  (z3h false x7 x8 x9 0 0 0) :=
 (z7 EE _ _).trans (by kernel_rfl)
theorem zx8 (x0 : Bool) (x1 x2 : Int) (x3 : List PV) (x4 x5 x6 : Int) : z3h x0 x1 x2 x3 x4 x5 x6 =
  (bif (!x0) then (zjy x1 x2) else (bif (ltB 0 (((List.length x3) : Nat) : Int)) then (zjy x1 x2) else ((zt6 x4 x5 x6).bind fun v18 => (some (PV.tuple [(PV.agg [(PV.int .i64 (PV.toI (PV.nth (PV.tnth v18 0) 0))), (PV.int .i64 (PV.toI (PV.nth (PV.tnth v18 0) 1)))]), (PV.int .i64 (PV.toI (PV.tnth v18 1)))]))))) :=
 (z7 EE _ _).trans (by kernel_rfl)
theorem zfc (x0 x1 x2 x3 x4 x5 x6 x7 x8 x9 x10 : Int) (x11 : List PV) (x12 : Bool) (x13 : Bool) (x14 : Int) : z49 x0 x1 x2 x3 x4 x5 x6 x7 x8 x9 x10 x11 x12 x13 x14 =
  (bif (leB 1 x5) then ((zgj x3 x4).bind fun v19 => (z3h (leB x5 (PV.toI v19)) x9 x10 x11 x3 x4 x5)) else (z3h false x9 x10 x11 x3 x4 x5)) :=
 (z7 EE _ _).trans (by kernel_rfl)
theorem zel (x0 : Bool) (x1 : List PV) (x2 x3 x4 x5 x6 x7 x8 x9 x10 : Int) (x11 : List PV) (x12 : Bool) (x13 : Bool) (x14 : Int) : z3x x0 x1 x2 x3 x4 x5 x6 x7 x8 x9 x10 x11 x12 x13 x14 =
  ((zca x1 x2).bind fun v20 => (bif (!(PV.toB (PV.tnth v20 1))) then (z14 x3 x4 x5 x6 x7 x8 x9 x10 x11 x12 x13 x14) else (bif (eqB (PV.toI (PV.nth (PV.tnth v20 0) 0)) 0) then (z14 x3 x4 x5 x6 x7 x8 x9 x10 x11 x12 x13 x14) else (z33 x0 x3 x4 x5 (PV.toI (PV.nth (PV.tnth v20 0) 0)) (PV.toI (PV.nth (PV.tnth v20 0) 1)) (PV.toI (PV.nth (PV.tnth v20 0) 2)) x6 x7 x8 x9 x10 x11 x12 x13 x14)))) :=
 (z7 EE _ _).trans (by kernel_rfl)
theorem zx7 (x0 x1 : Int) : zjy x0 x1 =
  (some (PV.tuple [(PV.agg [(PV.int .i64 0), (PV.int .i64 0)]), (PV.int .i64 13)])) :=
 (z7 EE _ _).trans (by kernel_rfl)
theorem zmi (a0 : List UInt8) (a1_0 a1_1 a1_2 : Int) : zcv a0 a1_0 a1_1 a1_2 =
  (bif (ltB a1_1 0) then (z9w 0 0) else (bif (ltB 2 a1_1) then (z9w 0 0) else (zf3 a0 a1_0 a1_1 a1_2 0 0))) :=
 (z8 EE z4z _ rfl).trans (by kernel_rfl)
theorem zj4 (x0 x1 : Int) : z9w x0 x1 =
  (some (PV.tuple [(PV.agg [(PV.int .i64 0), (PV.int .i64 0)]), (PV.int .i64 1)])) :=
 (z7 EE _ _).trans (by kernel_rfl)
theorem zj3 (x0 : List UInt8) (x1 x2 x3 x4 x5 : Int) : zf3 x0 x1 x2 x3 x4 x5 =
  (bif (ltB 2048 (((List.length x0) : Nat) : Int)) then (some (PV.tuple [(PV.agg [(PV.int .i64 0), (PV.int .i64 0)]), (PV.int .i64 13)])) else ((z8r x0).bind fun v1 => ((z7c (PV.toL v1)).bind fun v2 => (bif (eqB (PV.toI v2) 2) then (some (PV.tuple [(PV.agg [(PV.int .i64 0), (PV.int .i64 (-10957))]), (PV.int .i64 0)])) else (bif (!(eqB (PV.toI v2) 0)) then (some (PV.tuple [(PV.agg [(PV.int .i64 (PV.toI v2)), (PV.int .i64 0)]), (PV.int .i64 0)])) else ((zaa (PV.toL v1)).bind fun v3 => ((z9g (PV.toL (PV.tnth v3 0)) (PV.toB (PV.tnth v3 1)) x2).bind fun v4 => (bif (!(PV.toB (PV.tnth v4 4))) then (some (PV.tuple [(PV.agg [(PV.int .i64 0), (PV.int .i64 0)]), (PV.int .i64 13)])) else (bif (ltB 0 (((List.length (PV.toL (PV.tnth v4 3))) : Nat) : Int)) then (some (PV.tuple [(PV.agg [(PV.int .i64 0), (PV.int .i64 0)]), (PV.int .i64 13)])) else ((z42 (PV.toI (PV.tnth v4 0)) (PV.toI (PV.tnth v4 1)) (PV.toI (PV.tnth v4 2))).bind fun v5 => (some (PV.tuple [(PV.agg [(PV.int .i64 (PV.toI (PV.nth (PV.tnth v5 0) 0))), (PV.int .i64 (PV.toI (PV.nth (PV.tnth v5 0) 1)))]), (PV.int .i64 (PV.toI (PV.tnth v5 1)))])))))))))))) :=
 (z7 EE _ _).trans (by kernel_rfl)
theorem z15i (a0 : List UInt8) (a1_0 a1_1 a1_2 : Int) : zok a0 a1_0 a1_1 a1_2 =
  ((z15g a0 a1_0 a1_1 a1_2).bind fun v1 => (bif (!(eqB (PV.toI v1) 0)) then (some (PV.tuple [(PV.agg [(PV.int .i64 0), (PV.int .i64 0)]), (PV.int .i64 (PV.toI v1))])) else ((z136 a0).bind fun v2 => (bif (PV.toB (PV.tnth v2 1)) then (some (PV.tuple [(PV.agg [(PV.int .i64 (PV.toI (PV.nth (PV.tnth v2 0) 0))), (PV.int .i64 (PV.toI (PV.nth (PV.tnth v2 0) 1)))]), (PV.int .i64 0)])) else ((zqg a0 a1_1 false).bind fun v3 => (bif (!(eqB (PV.toI (PV.tnth v3 2)) 0)) then (some (PV.tuple [(PV.agg [(PV.int .i64 0), (PV.int .i64 0)]), (PV.int .i64 (PV.toI (PV.tnth v3 2)))])) else (some (PV.tuple [(PV.agg [(PV.int .i64 (PV.toI (PV.nth (PV.tnth v3 0) 0))), (PV.int .i64 (PV.toI (PV.nth (PV.tnth v3 0) 1)))]), (PV.int .i64 0)])))))))) :=
 (z8 EE zsr _ rfl).trans (by kernel_rfl)
theorem zdq (a0 : List UInt8) (a1_0 a1_1 a1_2 : Int) : z6f a0 a1_0 a1_1 a1_2 =
  (bif (ltB a1_1 0) then (z4h 0 0) else (bif (ltB 2 a1_1) then (z4h 0 0) else (zdr a0 a1_0 a1_1 a1_2 0 0))) :=
 (z8 EE z4d _ rfl).trans (by kernel_rfl)
theorem zaw (x0 x1 : Int) : z4h x0 x1 =
  (some (PV.tuple [(PV.agg [(PV.int .i64 0), (PV.int .i64 0)]), (PV.int .i64 1)])) :=
 (z7 EE _ _).trans (by kernel_rfl)
theorem zav (x0 : List UInt8) (x1 x2 x3 x4 x5 : Int) : zdr x0 x1 x2 x3 x4 x5 =
  (bif (ltB 2048 (((List.length x0) : Nat) : Int)) then (some (PV.tuple [(PV.agg [(PV.int .i64 0), (PV.int .i64 0)]), (PV.int .i64 13)])) else ((z8r x0).bind fun v1 => ((z7c (PV.toL v1)).bind fun v2 => (bif (eqB (PV.toI v2) 2) then (some (PV.tuple [(PV.agg [(PV.int .i64 0), (PV.int .i64 (-946684800000000))]), (PV.int .i64 0)])) else (bif (!(eqB (PV.toI v2) 0)) then (some (PV.tuple [(PV.agg [(PV.int .i64 (PV.toI v2)), (PV.int .i64 0)]), (PV.int .i64 0)])) else ((z35 (PV.toL v1) x2 false).bind fun v3 => (bif (!(eqB (PV.toI (PV.tnth v3 2)) 0)) then (some (PV.tuple [(PV.agg [(PV.int .i64 0), (PV.int .i64 0)]), (PV.int .i64 (PV.toI (PV.tnth v3 2)))])) else (some (PV.tuple [(PV.agg [(PV.int .i64 (PV.toI (PV.nth (PV.tnth v3 0) 0))), (PV.int .i64 (PV.toI (PV.nth (PV.tnth v3 0) 1)))]), (PV.int .i64 0)]))))))))) :=
 (z7 EE _ _).trans (by kernel_rfl)
theorem zl7 (a0 : List UInt8) : z8y a0 =
  (z3c a0 0 []) :=
 (z8 EE z4f _ rfl).trans (by kernel_rfl)
theorem zay (x0 : List UInt8) (x1 : Int) (x2 : List PV) : z3c x0 x1 x2 =
  (bif (ltB x1 (((List.length x0) : Nat) : Int)) then ((atS x0 x1).bind fun v1 => (bif (leB 65 v1) then (bif (leB v1 90) then (zdu x0 x1 v1 x2) else ((appL 1 x2 [(PV.int .u8 v1)]).bind fun v2 => (z3c x0 (IntKind.wrap .i64 (x1 + 1)) v2))) else ((appL 1 x2 [(PV.int .u8 v1)]).bind fun v3 => (z3c x0 (IntKind.wrap .i64 (x1 + 1)) v3)))) else ((zd7 x2).bind fun v4 => (some (PV.str v4)))) :=
 (z7 EE _ _).trans (by kernel_rfl)
theorem zi7 (x0 : List UInt8) (x1 x2 : Int) (x3 : List PV) : zdu x0 x1 x2 x3 =
  ((appL 1 x3 [(PV.int .u8 (IntKind.wrap .u8 (x2 + 32)))]).bind fun v5 => (z3c x0 (IntKind.wrap .i64 (x1 + 1)) v5)) :=
 (z7 EE _ _).trans (by kernel_rfl)
theorem z15c (a0 : List UInt8) : zin a0 =
  ((zh1 a0 (PV.func (Go.Fn.func z9t) [] [])).bind fun v4 => (some (PV.sl 1 (PV.toL v4)))) :=
 (z8 EE zft _ rfl).trans (by kernel_rfl)
theorem zzj (a0 : List PV) : zh5 a0 =
  (bif (!(eqB (((List.length a0) : Nat) : Int) 1)) then (some (PV.tuple [(PV.agg [(PV.int .i64 0), (PV.int .i64 0)]), (PV.bool false)])) else ((rdI tiStr a0 0).bind fun v6 => ((za1 (PV.toS v6)).bind fun v7 => (bif (eqS (PV.toS v7) [105, 110, 102, 105, 110, 105, 116, 121]) then (some (PV.tuple [(PV.agg [(PV.int .i64 1), (PV.int .i64 0)]), (PV.bool true)])) else (bif (eqS (PV.toS v7) [45, 105, 110, 102, 105, 110, 105, 116, 121]) then (some (PV.tuple [(PV.agg [(PV.int .i64 (-1)), (PV.int .i64 0)]), (PV.bool true)])) else (bif (eqS (PV.toS v7) [101, 112, 111, 99, 104]) then (some (PV.tuple [(PV.agg [(PV.int .i64 0), (PV.int .i64 (-10957))]), (PV.bool true)])) else (some (PV.tuple [(PV.agg [(PV.int .i64 0), (PV.int .i64 0)]), (PV.bool false)])))))))) :=
 (z8 EE zcm _ rfl).trans (by kernel_rfl)
theorem z14f (a0 : List UInt8) : za1 a0 =
  (za0 (((List.length (List.map byteV a0)) : Nat) : Int) 0 (List.map byteV a0)) :=
 (z8 EE za8 _ rfl).trans (by kernel_rfl)
theorem zkl (x0 x1 : Int) (x2 : List PV) : za0 x0 x1 x2 =
  (bif (ltB x1 x0) then (bif (inB 0 x1 (((List.length x2) : Nat) : Int)) then ((rdT (tiInt IntKind.u8) x2 (Int.toNat x1) 0).bind fun v13 => (bif (leB 65 (PV.toI v13)) then (bif (leB (PV.toI v13) 90) then (bif (inB 0 x1 (((List.length x2) : Nat) : Int)) then ((stC x2 (Int.toNat x1) 0 [(PV.int .u8 (orI IntKind.u8 (PV.toI v13) 32))]).bind fun v14 => (za0 x0 (IntKind.wrap .i64 (x1 + 1)) v14)) else none) else (za0 x0 (IntKind.wrap .i64 (x1 + 1)) x2)) else (za0 x0 (IntKind.wrap .i64 (x1 + 1)) x2))) else none) else ((zd7 x2).bind fun v15 => (some (PV.str v15)))) :=
 (z7 EE _ _).trans (by kernel_rfl)
theorem z15e (a0 : List PV) : z137 a0 =
  (zfq a0 a0 (((List.length a0) : Nat) : Int) 0) :=
 (z8 EE zcn _ rfl).trans (by kernel_rfl)
theorem zx6 (x0 : List PV) (x1 : List PV) (x2 x3 : Int) : zfq x0 x1 x2 x3 =
  (bif (ltB x3 x2) then ((rdI tiStr x1 x3).bind fun v26 => ((atS (PV.toS v26) 0).bind fun v27 => (bif (!(eqB v27 43)) then ((atS (PV.toS v26) 0).bind fun v28 => (bif (!(eqB v28 45)) then (some (PV.bool false)) else (zfq x0 x1 x2 (IntKind.wrap .i64 (x3 + 1))))) else (zfq x0 x1 x2 (IntKind.wrap .i64 (x3 + 1)))))) else (some (PV.bool (eqB (((List.length x0) : Nat) : Int) 3)))) :=
 (z7 EE _ _).trans (by kernel_rfl)
theorem zf4 (a0 a1 a2 : Int) : z42 a0 a1 a2 =
  ((zcx a0 a1 a2).bind fun v11 => (bif (!(eqB (PV.toI (PV.tnth v11 1)) 0)) then (some (PV.tuple [(PV.agg [(PV.int .i64 0), (PV.int .i64 0)]), (PV.int .i64 10)])) else ((z45 (PV.toI (PV.tnth v11 0))).bind fun v12 => (bif (!(PV.toB v12)) then (some (PV.tuple [(PV.agg [(PV.int .i64 0), (PV.int .i64 0)]), (PV.int .i64 10)])) else (some (PV.tuple [(PV.agg [(PV.int .i64 0), (PV.int .i64 (PV.toI (PV.tnth v11 0)))]), (PV.int .i64 0)])))))) :=
 (z8 EE zew _ rfl).trans (by kernel_rfl)
theorem zzk (a0 : List UInt8) (a1_0 a1_1 a1_2 : Int) : z15g a0 a1_0 a1_1 a1_2 =
  (bif (ltB a1_1 0) then (some (PV.int .i64 1)) else (bif (ltB 2 a1_1) then (some (PV.int .i64 1)) else (bif (ltB 2048 (((List.length a0) : Nat) : Int)) then (some (PV.int .i64 13)) else (some (PV.int .i64 0))))) :=
 (z8 EE z10g _ rfl).trans (by kernel_rfl)
theorem z10y (a0 a1 a2 : Int) : zt6 a0 a1 a2 =
  ((zv1 a0 a1 a2).bind fun v16 => ((z13z (PV.toI (PV.tnth v16 0)) (PV.toI (PV.tnth v16 1))).bind fun v17 => (some (PV.tuple [(PV.agg [(PV.int .i64 (PV.toI (PV.nth (PV.tnth v17 0) 0))), (PV.int .i64 (PV.toI (PV.nth (PV.tnth v17 0) 1)))]), (PV.int .i64 (PV.toI (PV.tnth v17 1)))])))) :=
 (z8 EE z10j _ rfl).trans (by kernel_rfl)
theorem zl0 (a0 : List UInt8) : z8r a0 =
  (z2m a0 0 0 []) :=
 (z8 EE z4b _ rfl).trans (by kernel_rfl)
theorem z7p (x0 : List UInt8) (x1 x2 : Int) (x3 : List PV) : z2m x0 x1 x2 x3 =
  (bif (leB x2 (((List.length x0) : Nat) : Int)) then (bif (eqB x2 (((List.length x0) : Nat) : Int)) then (z1z x0 x1 x2 x3) else ((atS x0 x2).bind fun v29 => (bif (eqB v29 32) then (z1z x0 x1 x2 x3) else ((atS x0 x2).bind fun v30 => (bif (eqB v30 9) then (z1z x0 x1 x2 x3) else ((atS x0 x2).bind fun v31 => (bif (eqB v31 10) then (z1z x0 x1 x2 x3) else ((atS x0 x2).bind fun v32 => (bif (eqB v32 13) then (z1z x0 x1 x2 x3) else (z2m x0 x1 (IntKind.wrap .i64 (x2 + 1)) x3)))))))))) else (some (PV.sl 1 x3))) :=
 (z7 EE _ _).trans (by kernel_rfl)
theorem zi1 (x0 : List UInt8) (x1 x2 : Int) (x3 : List PV) : z1z x0 x1 x2 x3 =
  (bif (ltB x1 x2) then ((subS x0 x1 x2).bind fun v33 => ((appL 16 x3 [(PV.str v33)]).bind fun v34 => (z2m x0 (IntKind.wrap .i64 (x2 + 1)) (IntKind.wrap .i64 (x2 + 1)) v34))) else (z2m x0 (IntKind.wrap .i64 (x2 + 1)) (IntKind.wrap .i64 (x2 + 1)) x3)) :=
 (z7 EE _ _).trans (by kernel_rfl)
theorem ziz (a0 : List PV) : z7c a0 =
  (bif (!(eqB (((List.length a0) : Nat) : Int) 1)) then (some (PV.int .i64 0)) else ((rdI tiStr a0 0).bind fun v13 => ((z1n (PV.toS v13) [105, 110, 102, 105, 110, 105, 116, 121]).bind fun v14 => (bif (PV.toB v14) then (some (PV.int .i64 1)) else ((rdI tiStr a0 0).bind fun v15 => ((z1n (PV.toS v15) [45, 105, 110, 102, 105, 110, 105, 116, 121]).bind fun v16 => (bif (PV.toB v16) then (some (PV.int .i64 (-1))) else ((rdI tiStr a0 0).bind fun v17 => ((z1n (PV.toS v17) [101, 112, 111, 99, 104]).bind fun v18 => (bif (PV.toB v18) then (some (PV.int .i64 2)) else (some (PV.int .i64 0)))))))))))) :=
 (z8 EE zbp _ rfl).trans (by kernel_rfl)
theorem zp4 (a0 : List PV) : zaa a0 =
  (bif (ltB 1 (((List.length a0) : Nat) : Int)) then ((rdI tiStr a0 (IntKind.wrap .i64 ((((List.length a0) : Nat) : Int) - 1))).bind fun v9 => ((z1n (PV.toS v9) [66, 67]).bind fun v10 => (bif (PV.toB v10) then (z7y a0 (PV.toS v9)) else ((z1n (PV.toS v9) [65, 68]).bind fun v11 => (bif (PV.toB v11) then (z7y a0 (PV.toS v9)) else (some (PV.tuple [(PV.sl 1 a0), (PV.bool false)]))))))) else (some (PV.tuple [(PV.sl 1 a0), (PV.bool false)]))) :=
 (z8 EE z7w _ rfl).trans (by kernel_rfl)
theorem zkb (x0 : List PV) (x1 : List UInt8) : z7y x0 x1 =
  ((takeS x0 (IntKind.wrap .i64 ((((List.length x0) : Nat) : Int) - 1))).bind fun v12 => ((z1n x1 [66, 67]).bind fun v13 => (some (PV.tuple [(PV.sl 1 v12), (PV.bool (PV.toB v13))])))) :=
 (z7 EE _ _).trans (by kernel_rfl)
theorem zmh (a0 : List PV) (a1 : Bool) (a2 : Int) : z9g a0 a1 a2 =
  (bif (eqB (((List.length a0) : Nat) : Int) 0) then (some (PV.tuple [(PV.int .i64 0), (PV.int .i64 0), (PV.int .i64 0), (PV.sl 0 []), (PV.bool false)])) else ((rdI tiStr a0 0).bind fun v19 => ((zb7 (PV.toS v19) a2).bind fun v20 => (bif (leB 3 (((List.length a0) : Nat) : Int)) then ((rdI tiStr a0 0).bind fun v21 => ((z2d (PV.toS v21)).bind fun v22 => (bif (ltB 0 (PV.toI v22)) then (z7d a0 a1 (PV.toI (PV.nth v20 0)) (PV.toI (PV.nth v20 1)) (PV.toI (PV.nth v20 2)) (PV.toB (PV.nth v20 3))) else ((rdI tiStr a0 1).bind fun v23 => ((z2d (PV.toS v23)).bind fun v24 => (bif (ltB 0 (PV.toI v24)) then (z7d a0 a1 (PV.toI (PV.nth v20 0)) (PV.toI (PV.nth v20 1)) (PV.toI (PV.nth v20 2)) (PV.toB (PV.nth v20 3))) else (z52 a0 a1 1 (PV.toI (PV.nth v20 0)) (PV.toI (PV.nth v20 1)) (PV.toI (PV.nth v20 2)) (PV.toB (PV.nth v20 3))))))))) else (z52 a0 a1 1 (PV.toI (PV.nth v20 0)) (PV.toI (PV.nth v20 1)) (PV.toI (PV.nth v20 2)) (PV.toB (PV.nth v20 3))))))) :=
 (z8 EE z1m _ rfl).trans (by kernel_rfl)
theorem zj2 (x0 : List PV) (x1 : Bool) (x2 x3 x4 : Int) (x5 : Bool) : z7d x0 x1 x2 x3 x4 x5 =
  ((takeS x0 3).bind fun v25 => ((z8s v25).bind fun v26 => (z52 x0 x1 3 (PV.toI (PV.nth v26 0)) (PV.toI (PV.nth v26 1)) (PV.toI (PV.nth v26 2)) (PV.toB (PV.nth v26 3))))) :=
 (z7 EE _ _).trans (by kernel_rfl)
theorem zj1 (x0 : List PV) (x1 : Bool) (x2 x3 x4 x5 : Int) (x6 : Bool) : z52 x0 x1 x2 x3 x4 x5 x6 =
  (bif (!x6) then z3o else (bif (eqB x3 0) then z3o else (bif (ltB x4 1) then z3o else (bif (ltB 12 x4) then z3o else (zdp x0 x1 x2 x3 x4 x5 x6))))) :=
 (z7 EE _ _).trans (by kernel_rfl)
theorem zj0  : z3o  =
  (some (PV.tuple [(PV.int .i64 0), (PV.int .i64 0), (PV.int .i64 0), (PV.sl 0 []), (PV.bool false)])) :=
 (z7 EE _ _).trans (by kernel_rfl)
theorem zi5 (x0 : List PV) (x1 : Bool) (x2 x3 x4 x5 : Int) (x6 : Bool) : zdp x0 x1 x2 x3 x4 x5 x6 =
  (bif x1 then (z6o x0 x2 (IntKind.wrap .i64 (1 - x3)) x4 x5 x6) else (z6o x0 x2 x3 x4 x5 x6)) :=
 (z7 EE _ _).trans (by kernel_rfl)
theorem zi4 (x0 : List PV) (x1 x2 x3 x4 : Int) (x5 : Bool) : z6o x0 x1 x2 x3 x4 x5 =
  (bif (ltB x4 1) then z6n else ((z4r x2 x3).bind fun v27 => (bif (ltB (PV.toI v27) x4) then z6n else (zdo x0 x1 x2 x3 x4 x5)))) :=
 (z7 EE _ _).trans (by kernel_rfl)
theorem zi3  : z6n  =
  (some (PV.tuple [(PV.int .i64 0), (PV.int .i64 0), (PV.int .i64 0), (PV.sl 0 []), (PV.bool false)])) :=
 (z7 EE _ _).trans (by kernel_rfl)
theorem zi2 (x0 : List PV) (x1 x2 x3 x4 : Int) (x5 : Bool) : zdo x0 x1 x2 x3 x4 x5 =
  ((dropS x0 x1).bind fun v28 => (some (PV.tuple [(PV.int .i64 x2), (PV.int .i64 x3), (PV.int .i64 x4), (PV.sl 1 v28), (PV.bool true)]))) :=
 (z7 EE _ _).trans (by kernel_rfl)
theorem z15d (a0 : List UInt8) : z136 a0 =
  ((zin a0).bind fun v36 => ((zh5 (PV.toL v36)).bind fun v37 => ((zt3 (PV.toI (PV.nth (PV.tnth v37 0) 0)) (PV.toI (PV.nth (PV.tnth v37 0) 1))).bind fun v38 => (some (PV.tuple [(PV.agg [(PV.int .i64 (PV.toI (PV.nth (PV.tnth v38 0) 0))), (PV.int .i64 (PV.toI (PV.nth (PV.tnth v38 0) 1)))]), (PV.bool (PV.toB (PV.tnth v37 1)))]))))) :=
 (z8 EE zso _ rfl).trans (by kernel_rfl)
theorem z129 (a0 : List UInt8) (a1 : Int) (a2 : Bool) : zqg a0 a1 a2 =
  ((zin a0).bind fun v18 => ((zqf (PV.toL v18)).bind fun v19 => (bif (ltB (IntKind.wrap .i64 ((((List.length (PV.toL v19)) : Nat) : Int) - 1)) 1) then (z7m a1 a2 false 0 0 (PV.toL v19)) else ((rdI tiStr (PV.toL v19) (IntKind.wrap .i64 ((((List.length (PV.toL v19)) : Nat) : Int) - 1))).bind fun v20 => ((za1 (PV.toS v20)).bind fun v21 => (bif (eqS (PV.toS v21) [98, 99]) then ((takeS (PV.toL v19) (IntKind.wrap .i64 ((((List.length (PV.toL v19)) : Nat) : Int) - 1))).bind fun v22 => (z7m a1 a2 (eqS (PV.toS v21) [98, 99]) 0 0 v22)) else (bif (eqS (PV.toS v21) [97, 100]) then ((takeS (PV.toL v19) (IntKind.wrap .i64 ((((List.length (PV.toL v19)) : Nat) : Int) - 1))).bind fun v23 => (z7m a1 a2 (eqS (PV.toS v21) [98, 99]) 0 0 v23)) else (z7m a1 a2 (eqS (PV.toS v21) [98, 99]) 0 0 (PV.toL v19))))))))) :=
 (z8 EE zt _ rfl).trans (by kernel_rfl)
theorem zun (x0 : Int) (x1 : Bool) (x2 : Bool) (x3 x4 : Int) (x5 : List PV) : z7m x0 x1 x2 x3 x4 x5 =
  (bif (leB 3 (((List.length x5) : Nat) : Int)) then ((zg1 x5).bind fun v24 => (bif (PV.toB v24) then (z9k x2 x5 0 0 0 x3 x4 x0 x1 x2 x2 x0) else (z3v x2 x0 x5 0 0 0 x3 x4 x0 x1 x2 x2 x0))) else (z3v x2 x0 x5 0 0 0 x3 x4 x0 x1 x2 x2 x0)) :=
 (z7 EE _ _).trans (by kernel_rfl)
theorem zej (x0 : Bool) (x1 : List PV) (x2 x3 x4 x5 x6 x7 : Int) (x8 : Bool) (x9 : Bool) (x10 : Bool) (x11 : Int) : z9k x0 x1 x2 x3 x4 x5 x6 x7 x8 x9 x10 x11 =
  ((takeS x1 3).bind fun v25 => ((dropS x1 3).bind fun v26 => (z66 x0 v25 x2 x3 x4 x5 x6 v26 x7 x8 x9 x10 x11))) :=
 (z7 EE _ _).trans (by kernel_rfl)
theorem z8h (x0 : Bool) (x1 : Int) (x2 : List PV) (x3 x4 x5 x6 x7 x8 : Int) (x9 : Bool) (x10 : Bool) (x11 : Bool) (x12 : Int) : z3v x0 x1 x2 x3 x4 x5 x6 x7 x8 x9 x10 x11 x12 =
  (bif (eqB (((List.length x2) : Nat) : Int) 0) then (z3u x0 x1 [] false x3 x4 x5 x6 x7 x2 x8 x9 x10 x11 x12) else ((rdI tiStr x2 0).bind fun v27 => ((dropS x2 1).bind fun v28 => (z3u x0 x1 (PV.toS v27) true x3 x4 x5 x6 x7 v28 x8 x9 x10 x11 x12)))) :=
 (z7 EE _ _).trans (by kernel_rfl)
theorem z8f (x0 : Bool) (x1 : List PV) (x2 x3 x4 x5 x6 : Int) (x7 : List PV) (x8 : Int) (x9 : Bool) (x10 : Bool) (x11 : Bool) (x12 : Int) : z66 x0 x1 x2 x3 x4 x5 x6 x7 x8 x9 x10 x11 x12 =
  ((zcd x1).bind fun v29 => (bif (!(PV.toB (PV.tnth v29 1))) then (z11 x2 x3 x4 x5 x6 x7 x8 x9 x10 x11 x12) else (bif (eqB (PV.toI (PV.nth (PV.tnth v29 0) 0)) 0) then (z11 x2 x3 x4 x5 x6 x7 x8 x9 x10 x11 x12) else (z2q x0 x2 x3 x4 (PV.toI (PV.nth (PV.tnth v29 0) 0)) (PV.toI (PV.nth (PV.tnth v29 0) 1)) (PV.toI (PV.nth (PV.tnth v29 0) 2)) x5 x6 x7 x8 x9 x10 x11 x12)))) :=
 (z7 EE _ _).trans (by kernel_rfl)
theorem z8g (x0 : Bool) (x1 : Int) (x2 : List UInt8) (x3 : Bool) (x4 x5 x6 x7 x8 : Int) (x9 : List PV) (x10 : Int) (x11 : Bool) (x12 : Bool) (x13 : Bool) (x14 : Int) : z3u x0 x1 x2 x3 x4 x5 x6 x7 x8 x9 x10 x11 x12 x13 x14 =
  (bif x3 then ((z4m x2 8 8).bind fun v30 => (bif (PV.toB v30) then (z8z x0 x2 x4 x5 x6 x7 x8 x9 x10 x11 x12 x13 x14) else (z3g x2 x1 [45, 47, 46] 0 x4 x5 x6 x7 x8 x9 x0 x1 x2 x2 x1 x10 x11 x12 x13 x14))) else (z5c x0 x4 x5 x6 x7 x8 x9 x10 x11 x12 x13 x14)) :=
 (z7 EE _ _).trans (by kernel_rfl)
theorem z82 (x0 x1 x2 x3 x4 : Int) (x5 : List PV) (x6 : Int) (x7 : Bool) (x8 : Bool) (x9 : Bool) (x10 : Int) : z11 x0 x1 x2 x3 x4 x5 x6 x7 x8 x9 x10 =
  (z2h x7 false x3 x4 x5 0 0 0) :=
 (z7 EE _ _).trans (by kernel_rfl)
theorem ze2 (x0 : Bool) (x1 x2 x3 x4 x5 x6 x7 x8 : Int) (x9 : List PV) (x10 : Int) (x11 : Bool) (x12 : Bool) (x13 : Bool) (x14 : Int) : z2q x0 x1 x2 x3 x4 x5 x6 x7 x8 x9 x10 x11 x12 x13 x14 =
  (bif x0 then (z3q x1 x2 x3 (IntKind.wrap .i64 (1 - x4)) x5 x6 x7 x8 x9 x10 x11 x12 x13 x14) else (z3q x1 x2 x3 x4 x5 x6 x7 x8 x9 x10 x11 x12 x13 x14)) :=
 (z7 EE _ _).trans (by kernel_rfl)
theorem zda (x0 : Bool) (x1 : List UInt8) (x2 x3 x4 x5 x6 : Int) (x7 : List PV) (x8 : Int) (x9 : Bool) (x10 : Bool) (x11 : Bool) (x12 : Int) : z8z x0 x1 x2 x3 x4 x5 x6 x7 x8 x9 x10 x11 x12 =
  ((zcb x1).bind fun v31 => (bif (!(PV.toB (PV.tnth v31 1))) then (z11 x2 x3 x4 x5 x6 x7 x8 x9 x10 x11 x12) else (bif (eqB (PV.toI (PV.nth (PV.tnth v31 0) 0)) 0) then (z11 x2 x3 x4 x5 x6 x7 x8 x9 x10 x11 x12) else (z2q x0 x2 x3 x4 (PV.toI (PV.nth (PV.tnth v31 0) 0)) (PV.toI (PV.nth (PV.tnth v31 0) 1)) (PV.toI (PV.nth (PV.tnth v31 0) 2)) x5 x6 x7 x8 x9 x10 x11 x12)))) :=
 (z7 EE _ _).trans (by kernel_rfl)
theorem z7s (x0 : List UInt8) (x1 : Int) (x2 : List UInt8) (x3 : Nat) (x4 x5 x6 x7 x8 : Int) (x9 : List PV) (x10 : Bool) (x11 : Int) (x12 : List UInt8) (x13 : List UInt8) (x14 x15 : Int) (x16 : Bool) (x17 : Bool) (x18 : Bool) (x19 : Int) : z3g x0 x1 x2 x3 x4 x5 x6 x7 x8 x9 x10 x11 x12 x13 x14 x15 x16 x17 x18 x19 =
  (bif (ltN x3 (List.length x2)) then ((zfo x0 (encR ((((decR x2 x3).1) : Nat) : Int))).bind fun v32 => (bif (!(eqB (((List.length (PV.toL v32)) : Nat) : Int) 3)) then (z3g x0 x1 x2 (x3 + ((decR x2 x3).2)) x4 x5 x6 x7 x8 x9 x10 x11 x12 x13 x14 x15 x16 x17 x18 x19) else (bif (eqB ((((decR x2 x3).1) : Nat) : Int) 45) then ((zg1 (PV.toL v32)).bind fun v33 => (bif (PV.toB v33) then (z66 x10 (PV.toL v32) x4 x5 x6 x7 x8 x9 x15 x16 x17 x18 x19) else (z3f x10 (PV.toL v32) x1 x4 x5 x6 x7 x8 x9 x15 x16 x17 x18 x19))) else (z3f x10 (PV.toL v32) x1 x4 x5 x6 x7 x8 x9 x15 x16 x17 x18 x19)))) else (z5c x10 x4 x5 x6 x7 x8 x9 x15 x16 x17 x18 x19)) :=
 (z7 EE _ _).trans (by kernel_rfl)
theorem z7r (x0 : Bool) (x1 x2 x3 x4 x5 : Int) (x6 : List PV) (x7 : Int) (x8 : Bool) (x9 : Bool) (x10 : Bool) (x11 : Int) : z5c x0 x1 x2 x3 x4 x5 x6 x7 x8 x9 x10 x11 =
  (z2h x8 false x4 x5 x6 0 0 0) :=
 (z7 EE _ _).trans (by kernel_rfl)
theorem za7 (x0 : Bool) (x1 : Bool) (x2 x3 : Int) (x4 : List PV) (x5 x6 x7 : Int) : z2h x0 x1 x2 x3 x4 x5 x6 x7 =
  (bif (eqB (((List.length x4) : Nat) : Int) 0) then (zhu x0 x1 0 [] 0 [] false x2 x3 x4 x5 x6 x7) else ((rdI tiStr x4 0).bind fun v34 => ((dropS x4 1).bind fun v35 => (zhu x0 x1 0 [] 0 (PV.toS v34) true x2 x3 v35 x5 x6 x7)))) :=
 (z7 EE _ _).trans (by kernel_rfl)
theorem ze1 (x0 x1 x2 x3 x4 x5 x6 x7 : Int) (x8 : List PV) (x9 : Int) (x10 : Bool) (x11 : Bool) (x12 : Bool) (x13 : Int) : z3q x0 x1 x2 x3 x4 x5 x6 x7 x8 x9 x10 x11 x12 x13 =
  (bif (leB 1 x5) then ((zgj x3 x4).bind fun v36 => (z2h x10 (leB x5 (PV.toI v36)) x6 x7 x8 x3 x4 x5)) else (z2h x10 false x6 x7 x8 x3 x4 x5)) :=
 (z7 EE _ _).trans (by kernel_rfl)
theorem zd9 (x0 : Bool) (x1 : List PV) (x2 x3 x4 x5 x6 x7 : Int) (x8 : List PV) (x9 : Int) (x10 : Bool) (x11 : Bool) (x12 : Bool) (x13 : Int) : z3f x0 x1 x2 x3 x4 x5 x6 x7 x8 x9 x10 x11 x12 x13 =
  ((zca x1 x2).bind fun v37 => (bif (!(PV.toB (PV.tnth v37 1))) then (z11 x3 x4 x5 x6 x7 x8 x9 x10 x11 x12 x13) else (bif (eqB (PV.toI (PV.nth (PV.tnth v37 0) 0)) 0) then (z11 x3 x4 x5 x6 x7 x8 x9 x10 x11 x12 x13) else (z2q x0 x3 x4 x5 (PV.toI (PV.nth (PV.tnth v37 0) 0)) (PV.toI (PV.nth (PV.tnth v37 0) 1)) (PV.toI (PV.nth (PV.tnth v37 0) 2)) x6 x7 x8 x9 x10 x11 x12 x13)))) :=
 (z7 EE _ _).trans (by kernel_rfl)
theorem za6 (x0 : Bool) (x1 : Bool) (x2 : Int) (x3 : List UInt8) (x4 : Int) (x5 : List UInt8) (x6 : Bool) (x7 x8 : Int) (x9 : List PV) (x10 x11 x12 : Int) : zhu x0 x1 x2 x3 x4 x5 x6 x7 x8 x9 x10 x11 x12 =
  (bif x6 then (bif x1 then (zpl x0 x1 x3 x5 x7 x8 x9 x10 x11 x12) else (zch x0 x1 x2 x3 x4 x7 x8 x9 x10 x11 x12)) else (zch x0 x1 x2 x3 x4 x7 x8 x9 x10 x11 x12)) :=
 (z7 EE _ _).trans (by kernel_rfl)
theorem zum (x0 : Bool) (x1 : Bool) (x2 : List UInt8) (x3 : List UInt8) (x4 x5 : Int) (x6 : List PV) (x7 x8 x9 : Int) : zpl x0 x1 x2 x3 x4 x5 x6 x7 x8 x9 =
  (bif x0 then ((z1fm x3).bind fun v38 => (zht x0 x1 (PV.toS (PV.tnth v38 1)) (PV.toS (PV.tnth v38 0)) x4 x5 x6 x7 x8 x9)) else (zht x0 x1 x2 x3 x4 x5 x6 x7 x8 x9)) :=
 (z7 EE _ _).trans (by kernel_rfl)
theorem z9b (x0 : Bool) (x1 : Bool) (x2 : Int) (x3 : List UInt8) (x4 x5 x6 : Int) (x7 : List PV) (x8 x9 x10 : Int) : zch x0 x1 x2 x3 x4 x5 x6 x7 x8 x9 x10 =
  (bif (eqB (((List.length x7) : Nat) : Int) 0) then (zcg x0 x1 x2 x3 x4 [] false x5 x6 x7 x8 x9 x10) else ((rdI tiStr x7 0).bind fun v39 => ((dropS x7 1).bind fun v40 => (zcg x0 x1 x2 x3 x4 (PV.toS v39) true x5 x6 v40 x8 x9 x10)))) :=
 (z7 EE _ _).trans (by kernel_rfl)
theorem zul (x0 : Bool) (x1 : Bool) (x2 : List UInt8) (x3 : List UInt8) (x4 x5 : Int) (x6 : List PV) (x7 x8 x9 : Int) : zht x0 x1 x2 x3 x4 x5 x6 x7 x8 x9 =
  ((zjd x3).bind fun v41 => (zch x0 x1 (PV.toI (PV.tnth v41 0)) x2 (PV.toI (PV.tnth v41 1)) x4 x5 x6 x7 x8 x9)) :=
 (z7 EE _ _).trans (by kernel_rfl)
theorem z9a (x0 : Bool) (x1 : Bool) (x2 : Int) (x3 : List UInt8) (x4 : Int) (x5 : List UInt8) (x6 : Bool) (x7 x8 : Int) (x9 : List PV) (x10 x11 x12 : Int) : zcg x0 x1 x2 x3 x4 x5 x6 x7 x8 x9 x10 x11 x12 =
  (bif x6 then (bif x1 then (bif x0 then (z9n (eqS x3 []) x2 x4 x5 x7 x8 x9 x10 x11 x12) else (z9n false x2 x4 x5 x7 x8 x9 x10 x11 x12)) else (z9n false x2 x4 x5 x7 x8 x9 x10 x11 x12)) else (z9m x1 x2 x3 x4 x7 x8 x9 x10 x11 x12)) :=
 (z7 EE _ _).trans (by kernel_rfl)
theorem zh6 (x0 : Bool) (x1 x2 : Int) (x3 : List UInt8) (x4 x5 : Int) (x6 : List PV) (x7 x8 x9 : Int) : z9n x0 x1 x2 x3 x4 x5 x6 x7 x8 x9 =
  (z9m x0 x1 x3 x2 x4 x5 x6 x7 x8 x9) :=
 (z7 EE _ _).trans (by kernel_rfl)
theorem zcf (x0 : Bool) (x1 : Int) (x2 : List UInt8) (x3 x4 x5 : Int) (x6 : List PV) (x7 x8 x9 : Int) : z9m x0 x1 x2 x3 x4 x5 x6 x7 x8 x9 =
  (bif (!x0) then (z9l x4 x5) else (bif (ltB 0 (((List.length x6) : Nat) : Int)) then (z9l x4 x5) else (bif (eqB x3 13) then (z9l x4 x5) else (zm1 x1 x2 x3 x4 x5 x7 x8 x9)))) :=
 (z7 EE _ _).trans (by kernel_rfl)
theorem zs8 (x0 x1 : Int) : z9l x0 x1 =
  (some (PV.tuple [(PV.agg [(PV.int .i64 0), (PV.int .i64 0)]), (PV.str []), (PV.int .i64 13)])) :=
 (z7 EE _ _).trans (by kernel_rfl)
theorem zs7 (x0 : Int) (x1 : List UInt8) (x2 x3 x4 x5 x6 x7 : Int) : zm1 x0 x1 x2 x3 x4 x5 x6 x7 =
  ((zt6 x5 x6 x7).bind fun v42 => (bif (!(eqB (PV.toI (PV.tnth v42 1)) 0)) then (zce x3 x4) else (bif (!(eqB x2 0)) then (zce x3 x4) else (zm0 x0 x1 x3 x4 (PV.toI (PV.nth (PV.tnth v42 0) 0)) (PV.toI (PV.nth (PV.tnth v42 0) 1)))))) :=
 (z7 EE _ _).trans (by kernel_rfl)
theorem zs6 (x0 x1 : Int) : zce x0 x1 =
  (some (PV.tuple [(PV.agg [(PV.int .i64 0), (PV.int .i64 0)]), (PV.str []), (PV.int .i64 10)])) :=
 (z7 EE _ _).trans (by kernel_rfl)
theorem zs5 (x0 : Int) (x1 : List UInt8) (x2 x3 x4 x5 : Int) : zm0 x0 x1 x2 x3 x4 x5 =
  ((zt4 x4 x5 x0).bind fun v43 => (some (PV.tuple [(PV.agg [(PV.int .i64 (PV.toI (PV.nth (PV.tnth v43 0) 0))), (PV.int .i64 (PV.toI (PV.nth (PV.tnth v43 0) 1)))]), (PV.str x1), (PV.int .i64 (PV.toI (PV.tnth v43 1)))]))) :=
 (z7 EE _ _).trans (by kernel_rfl)
theorem z8t (a0 : List PV) (a1 : Int) (a2 : Bool) : z35 a0 a1 a2 =
  ((ze5 a0).bind fun v35 => ((zaa (PV.toL v35)).bind fun v36 => ((z9g (PV.toL (PV.tnth v36 0)) (PV.toB (PV.tnth v36 1)) a1).bind fun v37 => (bif (!(PV.toB (PV.tnth v37 4))) then (z1v 0 0) else (bif (ltB 2 (((List.length (PV.toL (PV.tnth v37 3))) : Nat) : Int)) then (z1v 0 0) else (bif (ltB 1 (((List.length (PV.toL (PV.tnth v37 3))) : Nat) : Int)) then (bif (!a2) then (z1v 0 0) else (z41 a2 (PV.toI (PV.tnth v37 0)) (PV.toI (PV.tnth v37 1)) (PV.toI (PV.tnth v37 2)) (PV.toL (PV.tnth v37 3)) 0 0)) else (z41 a2 (PV.toI (PV.tnth v37 0)) (PV.toI (PV.tnth v37 1)) (PV.toI (PV.tnth v37 2)) (PV.toL (PV.tnth v37 3)) 0 0))))))) :=
 (z8 EE z2b _ rfl).trans (by kernel_rfl)
theorem zgu (x0 x1 : Int) : z1v x0 x1 =
  (some (PV.tuple [(PV.agg [(PV.int .i64 0), (PV.int .i64 0)]), (PV.str []), (PV.int .i64 13)])) :=
 (z7 EE _ _).trans (by kernel_rfl)
theorem z28 (x0 : Bool) (x1 x2 x3 : Int) (x4 : List PV) (x5 x6 : Int) : z41 x0 x1 x2 x3 x4 x5 x6 =
  (bif (ltB 0 (((List.length x4) : Nat) : Int)) then ((rdI tiStr x4 0).bind fun v38 => (bif x0 then ((zqv (PV.toS v38)).bind fun v39 => (z85 x1 x2 x3 x4 (PV.toS (PV.tnth v39 1)) (PV.toS (PV.tnth v39 0)) x5 x6)) else (z85 x1 x2 x3 x4 [] (PV.toS v38) x5 x6))) else (z22 x1 x2 x3 0 [] 0 x5 x6)) :=
 (z7 EE _ _).trans (by kernel_rfl)
theorem z6e (x0 x1 x2 : Int) (x3 : List PV) (x4 : List UInt8) (x5 : List UInt8) (x6 x7 : Int) : z85 x0 x1 x2 x3 x4 x5 x6 x7 =
  ((z5b x5).bind fun v40 => (bif (eqB (((List.length x3) : Nat) : Int) 2) then (bif (!(eqS x4 [])) then (some (PV.tuple [(PV.agg [(PV.int .i64 0), (PV.int .i64 0)]), (PV.str []), (PV.int .i64 13)])) else ((rdI tiStr x3 1).bind fun v41 => (z22 x0 x1 x2 (PV.toI (PV.tnth v40 0)) (PV.toS v41) (PV.toI (PV.tnth v40 1)) x6 x7))) else (z22 x0 x1 x2 (PV.toI (PV.tnth v40 0)) x4 (PV.toI (PV.tnth v40 1)) x6 x7))) :=
 (z7 EE _ _).trans (by kernel_rfl)
theorem z6d (x0 x1 x2 x3 : Int) (x4 : List UInt8) (x5 x6 x7 : Int) : z22 x0 x1 x2 x3 x4 x5 x6 x7 =
  (bif (eqB x5 13) then (some (PV.tuple [(PV.agg [(PV.int .i64 0), (PV.int .i64 0)]), (PV.str []), (PV.int .i64 x5)])) else ((z42 x0 x1 x2).bind fun v42 => (bif (!(eqB (PV.toI (PV.tnth v42 1)) 0)) then (some (PV.tuple [(PV.agg [(PV.int .i64 0), (PV.int .i64 0)]), (PV.str []), (PV.int .i64 (PV.toI (PV.tnth v42 1)))])) else (bif (!(eqB x5 0)) then (some (PV.tuple [(PV.agg [(PV.int .i64 0), (PV.int .i64 0)]), (PV.str []), (PV.int .i64 x5)])) else ((z6g (PV.toI (PV.nth (PV.tnth v42 0) 0)) (PV.toI (PV.nth (PV.tnth v42 0) 1)) x3).bind fun v43 => (some (PV.tuple [(PV.agg [(PV.int .i64 (PV.toI (PV.nth (PV.tnth v43 0) 0))), (PV.int .i64 (PV.toI (PV.nth (PV.tnth v43 0) 1)))]), (PV.str x4), (PV.int .i64 (PV.toI (PV.tnth v43 1)))]))))))) :=
 (z7 EE _ _).trans (by kernel_rfl)
theorem z14x (a0_0 a0_1 a0_2 a0_3 : Int) : zog a0_0 a0_1 a0_2 a0_3 =
  (bif (!(eqB a0_0 0)) then (bif ((eqB a0_0 a0_0) && ((eqB a0_1 0) && ((eqB a0_2 0) && ((eqB a0_3 0) && true)))) then (bif (leB (-1) a0_0) then (some (PV.bool (leB a0_0 1))) else (some (PV.bool false))) else (some (PV.bool false))) else ((z1bj a0_3).bind fun v19 => ((zju a0_1).bind fun v20 => (bif (PV.toB v20) then ((zju a0_2).bind fun v21 => (bif (PV.toB v21) then (some (PV.bool (eqB (PV.toI (PV.tnth v19 1)) 0))) else (some (PV.bool false)))) else (some (PV.bool false)))))) :=
 (z8 EE zsn _ rfl).trans (by kernel_rfl)
theorem zwk (a0_0 a0_1 : Int) : zt5 a0_0 a0_1 =
  (bif ((eqB a0_0 (-1)) && ((eqB a0_1 0) && true)) then (some (PV.bool true)) else (bif ((eqB a0_0 1) && ((eqB a0_1 0) && true)) then (some (PV.bool true)) else (bif (eqB a0_0 0) then ((z4p a0_1).bind fun v22 => (some (PV.bool (PV.toB v22)))) else (some (PV.bool false))))) :=
 (z8 EE zwc _ rfl).trans (by kernel_rfl)
theorem zux (a0_0 a0_1 : Int) : zq1 a0_0 a0_1 =
  ((zzr a0_1).bind fun v52 => (bif ((eqB a0_0 (-1)) && ((eqB a0_1 0) && true)) then (some (PV.bool true)) else (bif ((eqB a0_0 1) && ((eqB a0_1 0) && true)) then (some (PV.bool true)) else (bif (eqB a0_0 0) then ((z4p (PV.toI (PV.tnth v52 0))).bind fun v53 => (some (PV.bool (PV.toB v53)))) else (some (PV.bool false)))))) :=
 (z8 EE zix _ rfl).trans (by kernel_rfl)
theorem zlr (a0 : List UInt8) (a1 : PV) : zh1 a0 a1 =
  (bif ((okOther a1) && true) then (z25 a0 a1 (-1) [] 32 a0 0) else none) :=
 (z8 EE z1u _ rfl).trans (by kernel_rfl)
theorem zbh (x0 : List UInt8) (x1 : PV) (x2 : Int) (x3 : List PV) (x4 : Nat) (x5 : List UInt8) (x6 : Nat) : z25 x0 x1 x2 x3 x4 x5 x6 =
  (bif (ltN x6 (List.length x5)) then ((callW EE ([zpg]) x1 [(PV.int .i32 ((((decR x5 x6).1) : Nat) : Int))]).bind fun v80 => (bif (PV.toB v80) then (bif (leB 0 x2) then ((appL 16 x3 [(PV.agg [(PV.int .i64 x2), (PV.int .i64 ((x6 : Nat) : Int))])]).bind fun v81 => (bif (leN (List.length v81) x4) then (z25 x0 x1 (xorI IntKind.i64 (-1) x2) v81 x4 x5 (x6 + ((decR x5 x6).2))) else (z2a x0 x1 (xorI IntKind.i64 (-1) x2) v81 x5 (x6 + ((decR x5 x6).2))))) else (z25 x0 x1 x2 x3 x4 x5 (x6 + ((decR x5 x6).2)))) else (bif (ltB x2 0) then (z25 x0 x1 ((x6 : Nat) : Int) x3 x4 x5 (x6 + ((decR x5 x6).2))) else (z25 x0 x1 x2 x3 x4 x5 (x6 + ((decR x5 x6).2)))))) else (bif (leB 0 x2) then ((appL 16 x3 [(PV.agg [(PV.int .i64 x2), (PV.int .i64 (((List.length x0) : Nat) : Int))])]).bind fun v82 => (bif (leN (List.length v82) x4) then (z6j x0 v82 x4) else (z3j x0 v82))) else (z6j x0 x3 x4))) :=
 (z7 EE _ _).trans (by kernel_rfl)
theorem z6z (x0 : List UInt8) (x1 : PV) (x2 : Int) (x3 : List PV) (x4 : List UInt8) (x5 : Nat) : z2a x0 x1 x2 x3 x4 x5 =
  (bif (ltN x5 (List.length x4)) then ((callW EE ([zpg]) x1 [(PV.int .i32 ((((decR x4 x5).1) : Nat) : Int))]).bind fun v83 => (bif (PV.toB v83) then (bif (leB 0 x2) then ((appL 16 x3 [(PV.agg [(PV.int .i64 x2), (PV.int .i64 ((x5 : Nat) : Int))])]).bind fun v84 => (z2a x0 x1 (xorI IntKind.i64 (-1) x2) v84 x4 (x5 + ((decR x4 x5).2)))) else (z2a x0 x1 x2 x3 x4 (x5 + ((decR x4 x5).2)))) else (bif (ltB x2 0) then (z2a x0 x1 ((x5 : Nat) : Int) x3 x4 (x5 + ((decR x4 x5).2))) else (z2a x0 x1 x2 x3 x4 (x5 + ((decR x4 x5).2)))))) else (bif (leB 0 x2) then ((appL 16 x3 [(PV.agg [(PV.int .i64 x2), (PV.int .i64 (((List.length x0) : Nat) : Int))])]).bind fun v85 => (z3j x0 v85)) else (z3j x0 x3))) :=
 (z7 EE _ _).trans (by kernel_rfl)
theorem zhr (x0 : List UInt8) (x1 : List PV) (x2 : Nat) : z6j x0 x1 x2 =
  (bif (decide ((0 ≤ (((List.length x1) : Nat) : Int)) ∧ (((((List.length x1) : Nat) : Int) ≤ (((List.length x1) : Nat) : Int)) ∧ (((((List.length x1) : Nat) : Int) * ((16 : Nat) : Int)) ≤ (HPow.hPow (2 : Int) 46))))) then (z6i x0 (((List.length x1) : Nat) : Int) 0 (List.replicate (Int.toNat (((List.length x1) : Nat) : Int)) (PV.str [])) (Int.toNat (((List.length x1) : Nat) : Int)) x1 x2) else none) :=
 (z7 EE _ _).trans (by kernel_rfl)
theorem zg9 (x0 : List UInt8) (x1 : List PV) : z3j x0 x1 =
  (bif (decide ((0 ≤ (((List.length x1) : Nat) : Int)) ∧ (((((List.length x1) : Nat) : Int) ≤ (((List.length x1) : Nat) : Int)) ∧ (((((List.length x1) : Nat) : Int) * ((16 : Nat) : Int)) ≤ (HPow.hPow (2 : Int) 46))))) then (z56 x0 (((List.length x1) : Nat) : Int) 0 (List.replicate (Int.toNat (((List.length x1) : Nat) : Int)) (PV.str [])) (Int.toNat (((List.length x1) : Nat) : Int)) x1) else none) :=
 (z7 EE _ _).trans (by kernel_rfl)
theorem zhq (x0 : List UInt8) (x1 x2 : Int) (x3 : List PV) (x4 : Nat) (x5 : List PV) (x6 : Nat) : z6i x0 x1 x2 x3 x4 x5 x6 =
  (bif (ltB x2 x1) then (bif (inB 0 x2 (((List.length x5) : Nat) : Int)) then ((rdT (EE.ti z1j) x5 (Int.toNat x2) 0).bind fun v86 => ((subS x0 (PV.toI (PV.nth v86 0)) (PV.toI (PV.nth v86 1))).bind fun v87 => (bif (inB 0 x2 (((List.length x3) : Nat) : Int)) then ((stC x3 (Int.toNat x2) 0 [(PV.str v87)]).bind fun v88 => (z6i x0 x1 (IntKind.wrap .i64 (x2 + 1)) v88 x4 x5 x6)) else none))) else none) else (some (PV.sl 1 x3))) :=
 (z7 EE _ _).trans (by kernel_rfl)
theorem zg8 (x0 : List UInt8) (x1 x2 : Int) (x3 : List PV) (x4 : Nat) (x5 : List PV) : z56 x0 x1 x2 x3 x4 x5 =
  (bif (ltB x2 x1) then (bif (inB 0 x2 (((List.length x5) : Nat) : Int)) then ((rdT (EE.ti z1j) x5 (Int.toNat x2) 0).bind fun v89 => ((subS x0 (PV.toI (PV.nth v89 0)) (PV.toI (PV.nth v89 1))).bind fun v90 => (bif (inB 0 x2 (((List.length x3) : Nat) : Int)) then ((stC x3 (Int.toNat x2) 0 [(PV.str v90)]).bind fun v91 => (z56 x0 x1 (IntKind.wrap .i64 (x2 + 1)) v91 x4 x5)) else none))) else none) else (some (PV.sl 1 x3))) :=
 (z7 EE _ _).trans (by kernel_rfl)
theorem zzh (a0 : Int) : zlx a0 =
  (bif (eqB a0 32) then (some (PV.bool true)) else (bif (eqB a0 9) then (some (PV.bool true)) else (bif (eqB a0 10) then (some (PV.bool true)) else (some (PV.bool (eqB a0 13)))))) :=
 (z8 EE z9t _ rfl).trans (by kernel_rfl)
theorem z17y (a0 a1 a2 : Int) : z17z a0 a1 a2 =
  ((zog 0 a0 a1 a2).bind fun v24 => (bif (!(PV.toB v24)) then (some (PV.tuple [(PV.agg [(PV.int .i64 0), (PV.int .i64 0), (PV.int .i64 0), (PV.int .i64 0)]), (PV.int .i64 10)])) else (some (PV.tuple [(PV.agg [(PV.int .i64 0), (PV.int .i64 a0), (PV.int .i64 a1), (PV.int .i64 a2)]), (PV.int .i64 0)])))) :=
 (z8 EE zhb _ rfl).trans (by kernel_rfl)
theorem z121 (a0 : List UInt8) (a1 : List UInt8) : zz1 a0 a1 =
  ((zlp a0 a1).bind fun v32 => (some (PV.tuple [(PV.str (PV.toS (PV.tnth v32 0))), (PV.str (PV.toS (PV.tnth v32 1))), (PV.bool (PV.toB (PV.tnth v32 2)))]))) :=
 (z8 EE z5s _ rfl).trans (by kernel_rfl)
theorem z12a (a0 : List UInt8) (a1 a2 : Int) : z4m a0 a1 a2 =
  ((zjl a0).bind fun v56 => (bif (!(eqB (PV.toI (PV.tnth v56 1)) 13)) then (bif (leB a1 (((List.length a0) : Nat) : Int)) then (some (PV.bool (leB (((List.length a0) : Nat) : Int) a2))) else (some (PV.bool false))) else (some (PV.bool false)))) :=
 (z8 EE zi0 _ rfl).trans (by kernel_rfl)
theorem z179 (a0 : List UInt8) (a1 : List UInt8) : zyo a0 a1 =
  ((za1 a0).bind fun v92 => ((za1 a1).bind fun v93 => (some (PV.bool (eqS (PV.toS v92) (PV.toS v93)))))) :=
 (z8 EE zma _ rfl).trans (by kernel_rfl)
theorem z18b (a0 : List UInt8) : z18c a0 =
  ((za1 a0).bind fun v25 => (bif (eqS (PV.toS v25) [121, 101, 97, 114]) then (some (PV.tuple [(PV.agg [(PV.int .i64 0), (PV.int .i64 12), (PV.int .i64 0), (PV.int .i64 0)]), (PV.int .i64 1)])) else (bif (eqS (PV.toS v25) [121, 101, 97, 114, 115]) then (some (PV.tuple [(PV.agg [(PV.int .i64 0), (PV.int .i64 12), (PV.int .i64 0), (PV.int .i64 0)]), (PV.int .i64 1)])) else (zvx (PV.toS v25) 0 0 0 0)))) :=
 (z8 EE z4y _ rfl).trans (by kernel_rfl)
theorem zzi (x0 : List UInt8) (x1 x2 x3 x4 : Int) : zvx x0 x1 x2 x3 x4 =
  (bif (eqS x0 [109, 111, 110]) then (some (PV.tuple [(PV.agg [(PV.int .i64 0), (PV.int .i64 1), (PV.int .i64 0), (PV.int .i64 0)]), (PV.int .i64 2)])) else (bif (eqS x0 [109, 111, 110, 115]) then (some (PV.tuple [(PV.agg [(PV.int .i64 0), (PV.int .i64 1), (PV.int .i64 0), (PV.int .i64 0)]), (PV.int .i64 2)])) else (bif (eqS x0 [109, 111, 110, 116, 104]) then (some (PV.tuple [(PV.agg [(PV.int .i64 0), (PV.int .i64 1), (PV.int .i64 0), (PV.int .i64 0)]), (PV.int .i64 2)])) else (bif (eqS x0 [109, 111, 110, 116, 104, 115]) then (some (PV.tuple [(PV.agg [(PV.int .i64 0), (PV.int .i64 1), (PV.int .i64 0), (PV.int .i64 0)]), (PV.int .i64 2)])) else (zs0 x0 x1 x2 x3 x4))))) :=
 (z7 EE _ _).trans (by kernel_rfl)
theorem zx5 (x0 : List UInt8) (x1 x2 x3 x4 : Int) : zs0 x0 x1 x2 x3 x4 =
  (bif (eqS x0 [119, 101, 101, 107]) then (some (PV.tuple [(PV.agg [(PV.int .i64 0), (PV.int .i64 0), (PV.int .i64 7), (PV.int .i64 0)]), (PV.int .i64 3)])) else (bif (eqS x0 [119, 101, 101, 107, 115]) then (some (PV.tuple [(PV.agg [(PV.int .i64 0), (PV.int .i64 0), (PV.int .i64 7), (PV.int .i64 0)]), (PV.int .i64 3)])) else (zrz x0 x1 x2 x3 x4))) :=
 (z7 EE _ _).trans (by kernel_rfl)
theorem zx4 (x0 : List UInt8) (x1 x2 x3 x4 : Int) : zrz x0 x1 x2 x3 x4 =
  (bif (eqS x0 [100, 97, 121]) then (some (PV.tuple [(PV.agg [(PV.int .i64 0), (PV.int .i64 0), (PV.int .i64 1), (PV.int .i64 0)]), (PV.int .i64 4)])) else (bif (eqS x0 [100, 97, 121, 115]) then (some (PV.tuple [(PV.agg [(PV.int .i64 0), (PV.int .i64 0), (PV.int .i64 1), (PV.int .i64 0)]), (PV.int .i64 4)])) else (zry x0 x1 x2 x3 x4))) :=
 (z7 EE _ _).trans (by kernel_rfl)
theorem zx3 (x0 : List UInt8) (x1 x2 x3 x4 : Int) : zry x0 x1 x2 x3 x4 =
  (bif (eqS x0 [104, 111, 117, 114]) then (some (PV.tuple [(PV.agg [(PV.int .i64 0), (PV.int .i64 0), (PV.int .i64 0), (PV.int .i64 3600000000)]), (PV.int .i64 5)])) else (bif (eqS x0 [104, 111, 117, 114, 115]) then (some (PV.tuple [(PV.agg [(PV.int .i64 0), (PV.int .i64 0), (PV.int .i64 0), (PV.int .i64 3600000000)]), (PV.int .i64 5)])) else (zrx x0 x1 x2 x3 x4))) :=
 (z7 EE _ _).trans (by kernel_rfl)
theorem zx2 (x0 : List UInt8) (x1 x2 x3 x4 : Int) : zrx x0 x1 x2 x3 x4 =
  (bif (eqS x0 [109, 105, 110, 117, 116, 101]) then (some (PV.tuple [(PV.agg [(PV.int .i64 0), (PV.int .i64 0), (PV.int .i64 0), (PV.int .i64 60000000)]), (PV.int .i64 6)])) else (bif (eqS x0 [109, 105, 110, 117, 116, 101, 115]) then (some (PV.tuple [(PV.agg [(PV.int .i64 0), (PV.int .i64 0), (PV.int .i64 0), (PV.int .i64 60000000)]), (PV.int .i64 6)])) else (bif (eqS x0 [109, 105, 110]) then (some (PV.tuple [(PV.agg [(PV.int .i64 0), (PV.int .i64 0), (PV.int .i64 0), (PV.int .i64 60000000)]), (PV.int .i64 6)])) else (bif (eqS x0 [109, 105, 110, 115]) then (some (PV.tuple [(PV.agg [(PV.int .i64 0), (PV.int .i64 0), (PV.int .i64 0), (PV.int .i64 60000000)]), (PV.int .i64 6)])) else (zrw x0 x1 x2 x3 x4))))) :=
 (z7 EE _ _).trans (by kernel_rfl)
theorem zx1 (x0 : List UInt8) (x1 x2 x3 x4 : Int) : zrw x0 x1 x2 x3 x4 =
  (bif (eqS x0 [115, 101, 99, 111, 110, 100]) then (some (PV.tuple [(PV.agg [(PV.int .i64 0), (PV.int .i64 0), (PV.int .i64 0), (PV.int .i64 1000000)]), (PV.int .i64 7)])) else (bif (eqS x0 [115, 101, 99, 111, 110, 100, 115]) then (some (PV.tuple [(PV.agg [(PV.int .i64 0), (PV.int .i64 0), (PV.int .i64 0), (PV.int .i64 1000000)]), (PV.int .i64 7)])) else (bif (eqS x0 [115, 101, 99]) then (some (PV.tuple [(PV.agg [(PV.int .i64 0), (PV.int .i64 0), (PV.int .i64 0), (PV.int .i64 1000000)]), (PV.int .i64 7)])) else (bif (eqS x0 [115, 101, 99, 115]) then (some (PV.tuple [(PV.agg [(PV.int .i64 0), (PV.int .i64 0), (PV.int .i64 0), (PV.int .i64 1000000)]), (PV.int .i64 7)])) else (some (PV.tuple [(PV.agg [(PV.int .i64 0), (PV.int .i64 0), (PV.int .i64 0), (PV.int .i64 0)]), (PV.int .i64 0)])))))) :=
 (z7 EE _ _).trans (by kernel_rfl)
theorem z1az (a0_0 a0_1 a0_2 a0_3 : Int) : z1d9 a0_0 a0_1 a0_2 a0_3 =
  ((zog a0_0 a0_1 a0_2 a0_3).bind fun v33 => (bif (!(PV.toB v33)) then (some (PV.tuple [(PV.agg [(PV.int .i64 0), (PV.int .i64 0), (PV.int .i64 0), (PV.int .i64 0)]), (PV.int .i64 1)])) else (some (PV.tuple [(PV.agg [(PV.int .i64 (IntKind.wrap .i64 (0 - a0_0))), (PV.int .i64 (IntKind.wrap .i64 (0 - a0_1))), (PV.int .i64 (IntKind.wrap .i64 (0 - a0_2))), (PV.int .i64 (IntKind.wrap .i64 (0 - a0_3)))]), (PV.int .i64 0)])))) :=
 (z8 EE zqn _ rfl).trans (by kernel_rfl)
theorem zmn (a0 a1 a2 : Int) : zcx a0 a1 a2 =
  ((zbb a0 a1 a2).bind fun v54 => (bif (!(PV.toB v54)) then (some (PV.tuple [(PV.int .i64 0), (PV.int .i64 10)])) else ((z89 a0 a1 a2).bind fun v55 => (some (PV.tuple [(PV.int .i64 (PV.toI v55)), (PV.int .i64 0)]))))) :=
 (z8 EE zf0 _ rfl).trans (by kernel_rfl)
theorem zke (a0 : Int) : z45 a0 =
  ((z9i a0).bind fun v57 => (bif (eqB (PV.toI (PV.tnth v57 3)) 0) then (bif (leB (-4712) (PV.toI (PV.tnth v57 0))) then (some (PV.bool (leB (PV.toI (PV.tnth v57 0)) 294276))) else (some (PV.bool false))) else (some (PV.bool false)))) :=
 (z8 EE zcp _ rfl).trans (by kernel_rfl)
theorem z15f (a0 : List PV) : zg1 a0 =
  ((rdI tiStr a0 0).bind fun v94 => ((zfz (PV.toS v94)).bind fun v95 => (bif (ltB 0 (PV.toI v95)) then (some (PV.bool true)) else ((rdI tiStr a0 1).bind fun v96 => ((zfz (PV.toS v96)).bind fun v97 => (some (PV.bool (ltB 0 (PV.toI v97))))))))) :=
 (z8 EE zsp _ rfl).trans (by kernel_rfl)
theorem zmr (a0 a1 : Int) : zgj a0 a1 =
  (bif (ltB a1 1) then zms else (bif (ltB 12 a1) then zms else (zwl a0 a1 [(PV.int .i64 0), (PV.int .i64 31), (PV.int .i64 28), (PV.int .i64 31), (PV.int .i64 30), (PV.int .i64 31), (PV.int .i64 30), (PV.int .i64 31), (PV.int .i64 31), (PV.int .i64 30), (PV.int .i64 31), (PV.int .i64 30), (PV.int .i64 31)] 13))) :=
 (z8 EE zf1 _ rfl).trans (by kernel_rfl)
theorem zgi  : zms  =
  (some (PV.int .i64 0)) :=
 (z7 EE _ _).trans (by kernel_rfl)
theorem z113 (x0 x1 : Int) (x2 : List PV) (x3 : Nat) : zwl x0 x1 x2 x3 =
  (bif (eqB x1 2) then ((zv0 x0).bind fun v26 => (bif (PV.toB v26) then (some (PV.int .i64 29)) else (bif (inB 0 x1 ((13 : Nat) : Int)) then ((rdT (tiInt IntKind.i64) x2 (Int.toNat x1) 0).bind fun v27 => (some (PV.int .i64 (PV.toI v27)))) else none))) else (bif (inB 0 x1 ((13 : Nat) : Int)) then ((rdT (tiInt IntKind.i64) x2 (Int.toNat x1) 0).bind fun v28 => (some (PV.int .i64 (PV.toI v28)))) else none)) :=
 (z7 EE _ _).trans (by kernel_rfl)
theorem zfx (a0 a1 : Int) : z13z a0 a1 =
  (bif (!(eqB a1 0)) then (some (PV.tuple [(PV.agg [(PV.int .i64 0), (PV.int .i64 0)]), (PV.int .i64 10)])) else ((z4p a0).bind fun v34 => (bif (!(PV.toB v34)) then (some (PV.tuple [(PV.agg [(PV.int .i64 0), (PV.int .i64 0)]), (PV.int .i64 10)])) else (some (PV.tuple [(PV.agg [(PV.int .i64 0), (PV.int .i64 a0)]), (PV.int .i64 0)]))))) :=
 (z8 EE zsu _ rfl).trans (by kernel_rfl)
theorem z16m (a0 a1 a2 : Int) : zv1 a0 a1 a2 =
  ((zr0 a0 a1 a2).bind fun v56 => (bif (!(PV.toB v56)) then (some (PV.tuple [(PV.int .i64 0), (PV.int .i64 10)])) else ((zmq a0 a1 a2).bind fun v57 => (some (PV.tuple [(PV.int .i64 (PV.toI v57)), (PV.int .i64 0)]))))) :=
 (z8 EE zsx _ rfl).trans (by kernel_rfl)
theorem zmj (a0 : List UInt8) (a1 : List UInt8) : z1n a0 a1 =
  ((z8y a0).bind fun v58 => ((z8y a1).bind fun v59 => (some (PV.bool (eqS (PV.toS v58) (PV.toS v59)))))) :=
 (z8 EE zex _ rfl).trans (by kernel_rfl)
theorem zl2 (a0 : List UInt8) (a1 : Int) : zb7 a0 a1 =
  ((z1a a0 8 8).bind fun v98 => (bif (PV.toB v98) then ((takeS a0 4).bind fun v99 => ((z1k v99).bind fun v100 => ((subS a0 4 6).bind fun v101 => ((z1k v101).bind fun v102 => ((dropS a0 6).bind fun v103 => ((z1k v103).bind fun v104 => (some (PV.agg [(PV.int .i64 (PV.toI v100)), (PV.int .i64 (PV.toI v102)), (PV.int .i64 (PV.toI v104)), (PV.bool true)])))))))) else (z6m a0 a1 [45, 47, 46] 0 0 0 0 false))) :=
 (z8 EE z1p _ rfl).trans (by kernel_rfl)
theorem zat (x0 : List UInt8) (x1 : Int) (x2 : List UInt8) (x3 x4 x5 x6 : Int) (x7 : Bool) : z6m x0 x1 x2 x3 x4 x5 x6 x7 =
  (bif (ltB x3 (((List.length x2) : Nat) : Int)) then ((atS x2 x3).bind fun v105 => ((zb6 x0 v105).bind fun v106 => (bif (!(eqB (((List.length (PV.toL v106)) : Nat) : Int) 3)) then (z6m x0 x1 x2 (IntKind.wrap .i64 (x3 + 1)) x4 x5 x6 x7) else ((atS x2 x3).bind fun v107 => (bif (eqB v107 45) then ((rdI tiStr (PV.toL v106) 0).bind fun v108 => ((z2d (PV.toS v108)).bind fun v109 => (bif (ltB 0 (PV.toI v109)) then (z5m (PV.toL v106) x4 x5 x6 x7) else ((rdI tiStr (PV.toL v106) 1).bind fun v110 => ((z2d (PV.toS v110)).bind fun v111 => (bif (ltB 0 (PV.toI v111)) then (z5m (PV.toL v106) x4 x5 x6 x7) else (z5l x1 (PV.toL v106) x4 x5 x6 x7))))))) else (z5l x1 (PV.toL v106) x4 x5 x6 x7)))))) else (some (PV.agg [(PV.int .i64 0), (PV.int .i64 0), (PV.int .i64 0), (PV.bool false)]))) :=
 (z7 EE _ _).trans (by kernel_rfl)
theorem zgr (x0 : List PV) (x1 x2 x3 : Int) (x4 : Bool) : z5m x0 x1 x2 x3 x4 =
  ((z8s x0).bind fun v112 => (some (PV.agg [(PV.int .i64 (PV.toI (PV.nth v112 0))), (PV.int .i64 (PV.toI (PV.nth v112 1))), (PV.int .i64 (PV.toI (PV.nth v112 2))), (PV.bool (PV.toB (PV.nth v112 3)))]))) :=
 (z7 EE _ _).trans (by kernel_rfl)
theorem zgq (x0 : Int) (x1 : List PV) (x2 x3 x4 : Int) (x5 : Bool) : z5l x0 x1 x2 x3 x4 x5 =
  ((rdI tiStr x1 0).bind fun v113 => ((rdI tiStr x1 1).bind fun v114 => ((rdI tiStr x1 2).bind fun v115 => ((rdI tiStr x1 0).bind fun v116 => ((z1a (PV.toS v116) 3 6).bind fun v117 => (bif (!(PV.toB v117)) then (bif (eqB x0 1) then ((rdI tiStr x1 0).bind fun v118 => ((rdI tiStr x1 2).bind fun v119 => (z31 (PV.toS v119) (PV.toS v114) (PV.toS v118) x2 x3 x4 x5))) else (bif (eqB x0 2) then ((rdI tiStr x1 0).bind fun v120 => ((rdI tiStr x1 1).bind fun v121 => ((rdI tiStr x1 2).bind fun v122 => (z31 (PV.toS v122) (PV.toS v120) (PV.toS v121) x2 x3 x4 x5)))) else (z31 (PV.toS v113) (PV.toS v114) (PV.toS v115) x2 x3 x4 x5))) else (z31 (PV.toS v113) (PV.toS v114) (PV.toS v115) x2 x3 x4 x5))))))) :=
 (z7 EE _ _).trans (by kernel_rfl)
theorem zgp (x0 : List UInt8) (x1 : List UInt8) (x2 : List UInt8) (x3 x4 x5 : Int) (x6 : Bool) : z31 x0 x1 x2 x3 x4 x5 x6 =
  ((z1a x1 1 2).bind fun v123 => (bif (!(PV.toB v123)) then (z5k x3 x4 x5 x6) else ((z1a x2 1 2).bind fun v124 => (bif (!(PV.toB v124)) then (z5k x3 x4 x5 x6) else ((z1a x0 1 6).bind fun v125 => (bif (!(PV.toB v125)) then (z5k x3 x4 x5 x6) else (zct x0 x1 x2 x3 x4 x5 x6))))))) :=
 (z7 EE _ _).trans (by kernel_rfl)
theorem zgo (x0 x1 x2 : Int) (x3 : Bool) : z5k x0 x1 x2 x3 =
  (some (PV.agg [(PV.int .i64 0), (PV.int .i64 0), (PV.int .i64 0), (PV.bool false)])) :=
 (z7 EE _ _).trans (by kernel_rfl)
theorem zgn (x0 : List UInt8) (x1 : List UInt8) (x2 : List UInt8) (x3 x4 x5 : Int) (x6 : Bool) : zct x0 x1 x2 x3 x4 x5 x6 =
  ((zcs x0).bind fun v126 => ((z1k x1).bind fun v127 => ((z1k x2).bind fun v128 => (some (PV.agg [(PV.int .i64 (PV.toI v126)), (PV.int .i64 (PV.toI v127)), (PV.int .i64 (PV.toI v128)), (PV.bool true)]))))) :=
 (z7 EE _ _).trans (by kernel_rfl)
theorem zl6 (a0 : List UInt8) : z2d a0 =
  ((zb9 a0 [(PV.str [74, 97, 110, 117, 97, 114, 121]), (PV.str [70, 101, 98, 114, 117, 97, 114, 121]), (PV.str [77, 97, 114, 99, 104]), (PV.str [65, 112, 114, 105, 108]), (PV.str [77, 97, 121]), (PV.str [74, 117, 110, 101]), (PV.str [74, 117, 108, 121]), (PV.str [65, 117, 103, 117, 115, 116]), (PV.str [83, 101, 112, 116, 101, 109, 98, 101, 114]), (PV.str [79, 99, 116, 111, 98, 101, 114]), (PV.str [78, 111, 118, 101, 109, 98, 101, 114]), (PV.str [68, 101, 99, 101, 109, 98, 101, 114])]).bind fun v35 => (some (PV.int .i64 (IntKind.wrap .i64 ((PV.toI v35) + 1))))) :=
 (z8 EE zdj _ rfl).trans (by kernel_rfl)
theorem zl3 (a0 : List PV) : z8s a0 =
  (bif (!(eqB (((List.length a0) : Nat) : Int) 3)) then (some (PV.agg [(PV.int .i64 0), (PV.int .i64 0), (PV.int .i64 0), (PV.bool false)])) else ((rdI tiStr a0 0).bind fun v29 => ((z2d (PV.toS v29)).bind fun v30 => ((rdI tiStr a0 1).bind fun v31 => ((rdI tiStr a0 2).bind fun v32 => (bif (eqB (PV.toI v30) 0) then ((rdI tiStr a0 1).bind fun v33 => ((z2d (PV.toS v33)).bind fun v34 => ((rdI tiStr a0 0).bind fun v35 => (z97 a0 (PV.toI v34) (PV.toS v35) (PV.toS v32) 0 0 0 false)))) else (z97 a0 (PV.toI v30) (PV.toS v31) (PV.toS v32) 0 0 0 false))))))) :=
 (z8 EE z2l _ rfl).trans (by kernel_rfl)
theorem zau (x0 : List PV) (x1 : Int) (x2 : List UInt8) (x3 : List UInt8) (x4 x5 x6 : Int) (x7 : Bool) : z97 x0 x1 x2 x3 x4 x5 x6 x7 =
  ((rdI tiStr x0 0).bind fun v36 => ((z2d (PV.toS v36)).bind fun v37 => (bif (eqB (PV.toI v37) 0) then ((z1a x2 3 6).bind fun v38 => (bif (PV.toB v38) then (zcu x1 x2 x3 x4 x5 x6 x7) else (z40 x1 x2 x3 x4 x5 x6 x7))) else (z40 x1 x2 x3 x4 x5 x6 x7)))) :=
 (z7 EE _ _).trans (by kernel_rfl)
theorem zgt (x0 : Int) (x1 : List UInt8) (x2 : List UInt8) (x3 x4 x5 : Int) (x6 : Bool) : zcu x0 x1 x2 x3 x4 x5 x6 =
  (z40 x0 x2 x1 x3 x4 x5 x6) :=
 (z7 EE _ _).trans (by kernel_rfl)
theorem zgs (x0 : Int) (x1 : List UInt8) (x2 : List UInt8) (x3 x4 x5 : Int) (x6 : Bool) : z40 x0 x1 x2 x3 x4 x5 x6 =
  (bif (ltB 0 x0) then ((z1a x1 1 2).bind fun v39 => (bif (PV.toB v39) then ((z1a x2 3 6).bind fun v40 => (z5n x1 x2 x3 x4 x5 x6 0 x0 0 (PV.toB v40))) else (z5n x1 x2 x3 x4 x5 x6 0 x0 0 false))) else (z5n x1 x2 x3 x4 x5 x6 0 x0 0 false)) :=
 (z7 EE _ _).trans (by kernel_rfl)
theorem z72 (x0 : List UInt8) (x1 : List UInt8) (x2 x3 x4 : Int) (x5 : Bool) (x6 x7 x8 : Int) (x9 : Bool) : z5n x0 x1 x2 x3 x4 x5 x6 x7 x8 x9 =
  (bif x9 then ((z1k x0).bind fun v41 => ((z1k x1).bind fun v42 => (some (PV.agg [(PV.int .i64 (PV.toI v42)), (PV.int .i64 x7), (PV.int .i64 (PV.toI v41)), (PV.bool x9)])))) else (some (PV.agg [(PV.int .i64 x6), (PV.int .i64 x7), (PV.int .i64 x8), (PV.bool x9)]))) :=
 (z7 EE _ _).trans (by kernel_rfl)
theorem zp9 (a0 a1 : Int) : z4r a0 a1 =
  (bif (eqB a1 1) then (some (PV.int .i64 31)) else (bif (eqB a1 3) then (some (PV.int .i64 31)) else (bif (eqB a1 5) then (some (PV.int .i64 31)) else (bif (eqB a1 7) then (some (PV.int .i64 31)) else (bif (eqB a1 8) then (some (PV.int .i64 31)) else (bif (eqB a1 10) then (some (PV.int .i64 31)) else (bif (eqB a1 12) then (some (PV.int .i64 31)) else (zf7 a0 a1)))))))) :=
 (z8 EE z5h _ rfl).trans (by kernel_rfl)
theorem zbq (x0 x1 : Int) : zf7 x0 x1 =
  (bif (eqB x1 4) then (some (PV.int .i64 30)) else (bif (eqB x1 6) then (some (PV.int .i64 30)) else (bif (eqB x1 9) then (some (PV.int .i64 30)) else (bif (eqB x1 11) then (some (PV.int .i64 30)) else (zf6 x0 x1))))) :=
 (z7 EE _ _).trans (by kernel_rfl)
theorem zja (x0 x1 : Int) : zf6 x0 x1 =
  (bif (eqB x1 2) then ((z7h x0).bind fun v35 => (bif (PV.toB v35) then (some (PV.int .i64 29)) else (some (PV.int .i64 28)))) else (some (PV.int .i64 0))) :=
 (z7 EE _ _).trans (by kernel_rfl)
theorem zwh (a0_0 a0_1 : Int) : zt3 a0_0 a0_1 =
  ((zt4 a0_0 a0_1 0).bind fun v58 => (some (PV.tuple [(PV.agg [(PV.int .i64 (PV.toI (PV.nth (PV.tnth v58 0) 0))), (PV.int .i64 (PV.toI (PV.nth (PV.tnth v58 0) 1)))]), (PV.int .i64 (PV.toI (PV.tnth v58 1)))]))) :=
 (z8 EE zwb _ rfl).trans (by kernel_rfl)
theorem z127 (a0 : List PV) : zqf a0 =
  (bif (eqB (((List.length a0) : Nat) : Int) 0) then (some (PV.sl 1 a0)) else ((rdI tiStr a0 0).bind fun v60 => (z1h a0 (PV.toS v60) 0))) :=
 (z8 EE zar _ rfl).trans (by kernel_rfl)
theorem ze0 (x0 : List PV) (x1 : List UInt8) (x2 : Nat) : z1h x0 x1 x2 =
  (bif (ltN x2 (List.length x1)) then (bif (eqB ((((decR x1 x2).1) : Nat) : Int) 84) then (bif (ltB 0 ((x2 : Nat) : Int)) then ((rdI tiStr x0 0).bind fun v61 => (bif (ltB ((x2 : Nat) : Int) (IntKind.wrap .i64 ((((List.length (PV.toS v61)) : Nat) : Int) - 1))) then ((rdI tiStr x0 0).bind fun v62 => ((atS (PV.toS v62) (IntKind.wrap .i64 (((x2 : Nat) : Int) - 1))).bind fun v63 => ((zbi v63).bind fun v64 => (bif (PV.toB v64) then ((rdI tiStr x0 0).bind fun v65 => ((atS (PV.toS v65) (IntKind.wrap .i64 (((x2 : Nat) : Int) + 1))).bind fun v66 => ((zbi v66).bind fun v67 => (bif (PV.toB v67) then (zan x0 ((x2 : Nat) : Int)) else (z1h x0 x1 (x2 + ((decR x1 x2).2))))))) else (z1h x0 x1 (x2 + ((decR x1 x2).2))))))) else (z1h x0 x1 (x2 + ((decR x1 x2).2))))) else (z1h x0 x1 (x2 + ((decR x1 x2).2)))) else (bif (eqB ((((decR x1 x2).1) : Nat) : Int) 116) then (bif (ltB 0 ((x2 : Nat) : Int)) then ((rdI tiStr x0 0).bind fun v68 => (bif (ltB ((x2 : Nat) : Int) (IntKind.wrap .i64 ((((List.length (PV.toS v68)) : Nat) : Int) - 1))) then ((rdI tiStr x0 0).bind fun v69 => ((atS (PV.toS v69) (IntKind.wrap .i64 (((x2 : Nat) : Int) - 1))).bind fun v70 => ((zbi v70).bind fun v71 => (bif (PV.toB v71) then ((rdI tiStr x0 0).bind fun v72 => ((atS (PV.toS v72) (IntKind.wrap .i64 (((x2 : Nat) : Int) + 1))).bind fun v73 => ((zbi v73).bind fun v74 => (bif (PV.toB v74) then (zan x0 ((x2 : Nat) : Int)) else (z1h x0 x1 (x2 + ((decR x1 x2).2))))))) else (z1h x0 x1 (x2 + ((decR x1 x2).2))))))) else (z1h x0 x1 (x2 + ((decR x1 x2).2))))) else (z1h x0 x1 (x2 + ((decR x1 x2).2)))) else (z1h x0 x1 (x2 + ((decR x1 x2).2))))) else (some (PV.sl 1 x0))) :=
 (z7 EE _ _).trans (by kernel_rfl)
theorem zuk (x0 : List PV) (x1 : Int) : zan x0 x1 =
  ((rdI tiStr x0 0).bind fun v75 => ((takeS (PV.toS v75) x1).bind fun v76 => ((rdI tiStr x0 0).bind fun v77 => ((dropS (PV.toS v77) (IntKind.wrap .i64 (x1 + 1))).bind fun v78 => ((dropS x0 1).bind fun v79 => ((z67 [(PV.sl 1 [(PV.str v76), (PV.str v78)]), (PV.sl 1 v79)]).bind fun v80 => (some (PV.sl 1 (PV.toL v80))))))))) :=
 (z7 EE _ _).trans (by kernel_rfl)
theorem z16i (a0 : List UInt8) : zjd a0 =
  (z2g [] [(PV.agg [(PV.int .i64 0), (PV.int .i64 0)])] 1 a0 0 a0 a0) :=
 (z8 EE z1g _ rfl).trans (by kernel_rfl)
theorem z7t (x0 : List UInt8) (x1 : List PV) (x2 : Nat) (x3 : List UInt8) (x4 : Nat) (x5 : List UInt8) (x6 : List UInt8) : z2g x0 x1 x2 x3 x4 x5 x6 =
  (bif (ltN x4 (List.length x3)) then (bif (inB 0 (IntKind.wrap .i64 ((((List.length x1) : Nat) : Int) - 1)) (((List.length x1) : Nat) : Int)) then (bif (leB 48 ((((decR x3 x4).1) : Nat) : Int)) then (bif (leB ((((decR x3 x4).1) : Nat) : Int) 57) then ((rdT (tiInt IntKind.i64) x1 (Int.toNat (IntKind.wrap .i64 ((((List.length x1) : Nat) : Int) - 1))) 1).bind fun v36 => (bif (ltB (PV.toI v36) 6) then (z93 x0 ((((decR x3 x4).1) : Nat) : Int) (Int.toNat (IntKind.wrap .i64 ((((List.length x1) : Nat) : Int) - 1))) x1 x2 x3 (x4 + ((decR x3 x4).2)) x5 x6) else (z27 x0 ((((decR x3 x4).1) : Nat) : Int) x1 x2 x3 (x4 + ((decR x3 x4).2)) x5 x6))) else (z27 x0 ((((decR x3 x4).1) : Nat) : Int) x1 x2 x3 (x4 + ((decR x3 x4).2)) x5 x6)) else (z27 x0 ((((decR x3 x4).1) : Nat) : Int) x1 x2 x3 (x4 + ((decR x3 x4).2)) x5 x6)) else none) else (zkh x0 true x1 x2)) :=
 (z7 EE _ _).trans (by kernel_rfl)
theorem zdb (x0 : List UInt8) (x1 : Int) (x2 : Nat) (x3 : List PV) (x4 : Nat) (x5 : List UInt8) (x6 : Nat) (x7 : List UInt8) (x8 : List UInt8) : z93 x0 x1 x2 x3 x4 x5 x6 x7 x8 =
  ((rdT (tiInt IntKind.i64) x3 x2 0).bind fun v37 => ((stC x3 x2 0 [(PV.int .i64 (IntKind.wrap .i64 ((IntKind.wrap .i64 (10 * (PV.toI v37))) + (IntKind.wrap .i64 (IntKind.wrap .i32 (x1 - 48))))))]).bind fun v38 => ((rdT (tiInt IntKind.i64) v38 x2 1).bind fun v39 => ((stC v38 x2 1 [(PV.int .i64 (IntKind.wrap .i64 ((PV.toI v39) + 1)))]).bind fun v40 => (z2g x0 v40 x4 x5 x6 x7 x8))))) :=
 (z7 EE _ _).trans (by kernel_rfl)
theorem zd1 (x0 : List UInt8) (x1 : Int) (x2 : List PV) (x3 : Nat) (x4 : List UInt8) (x5 : Nat) (x6 : List UInt8) (x7 : List UInt8) : z27 x0 x1 x2 x3 x4 x5 x6 x7 =
  (bif (eqB x1 58) then (z38 x0 x1 x2 x3 x4 x5 x6 x7) else (bif (eqB x1 46) then (z38 x0 x1 x2 x3 x4 x5 x6 x7) else (zd3 [] false))) :=
 (z7 EE _ _).trans (by kernel_rfl)
theorem zxc (x0 : List UInt8) (x1 : Bool) (x2 : List PV) (x3 : Nat) : zkh x0 x1 x2 x3 =
  (bif (!x1) then z18 else (bif (!(eqS x0 [58])) then (bif (!(eqS x0 [58, 58])) then (bif (!(eqS x0 [58, 58, 46])) then z18 else (bif (inB 0 0 (((List.length x2) : Nat) : Int)) then ((rdT (EE.ti zd) x2 0 0).bind fun v41 => ((z3e (PV.toI (PV.nth v41 0)) (PV.toI (PV.nth v41 1))).bind fun v42 => (bif (!(PV.toB v42)) then z18 else (bif (inB 0 1 (((List.length x2) : Nat) : Int)) then ((rdT (EE.ti zd) x2 1 0).bind fun v43 => ((z2f (PV.toI (PV.nth v43 0)) (PV.toI (PV.nth v43 1))).bind fun v44 => (bif (!(PV.toB v44)) then z18 else (zkg x0 x2 x3)))) else none)))) else none)) else (bif (inB 0 0 (((List.length x2) : Nat) : Int)) then ((rdT (EE.ti zd) x2 0 0).bind fun v45 => ((z3e (PV.toI (PV.nth v45 0)) (PV.toI (PV.nth v45 1))).bind fun v46 => (bif (!(PV.toB v46)) then z18 else (bif (inB 0 1 (((List.length x2) : Nat) : Int)) then ((rdT (EE.ti zd) x2 1 0).bind fun v47 => ((z2f (PV.toI (PV.nth v47 0)) (PV.toI (PV.nth v47 1))).bind fun v48 => (bif (!(PV.toB v48)) then z18 else (zkg x0 x2 x3)))) else none)))) else none)) else (bif (inB 0 0 (((List.length x2) : Nat) : Int)) then ((rdT (EE.ti zd) x2 0 0).bind fun v49 => ((z3e (PV.toI (PV.nth v49 0)) (PV.toI (PV.nth v49 1))).bind fun v50 => (bif (!(PV.toB v50)) then z18 else (bif (inB 0 1 (((List.length x2) : Nat) : Int)) then ((rdT (EE.ti zd) x2 1 0).bind fun v51 => ((z2f (PV.toI (PV.nth v51 0)) (PV.toI (PV.nth v51 1))).bind fun v52 => (bif (!(PV.toB v52)) then z18 else (zkg x0 x2 x3)))) else none)))) else none))) :=
 (z7 EE _ _).trans (by kernel_rfl)
theorem zd0 (x0 : List UInt8) (x1 : Int) (x2 : List PV) (x3 : Nat) (x4 : List UInt8) (x5 : Nat) (x6 : List UInt8) (x7 : List UInt8) : z38 x0 x1 x2 x3 x4 x5 x6 x7 =
  ((catS x0 (encR x1)).bind fun v53 => ((appL 16 x2 [(PV.agg [(PV.int .i64 0), (PV.int .i64 0)])]).bind fun v54 => (bif (leN (List.length v54) x3) then (z2g v53 v54 x3 x4 x5 x6 x7) else (z23 v53 v54 x4 x5 x6 x7)))) :=
 (z7 EE _ _).trans (by kernel_rfl)
theorem zta (x0 : List UInt8) (x1 : Bool) : zd3 x0 x1 =
  (bif (!x1) then z18 else (bif (!(eqS x0 [58])) then (bif (!(eqS x0 [58, 58])) then (bif (!(eqS x0 [58, 58, 46])) then z18 else none) else none) else none)) :=
 (z7 EE _ _).trans (by kernel_rfl)
theorem zfg  : z18  =
  (some (PV.tuple [(PV.int .i64 0), (PV.int .i64 13)])) :=
 (z7 EE _ _).trans (by kernel_rfl)
theorem z6y (x0 : List UInt8) (x1 : List PV) (x2 : List UInt8) (x3 : Nat) (x4 : List UInt8) (x5 : List UInt8) : z23 x0 x1 x2 x3 x4 x5 =
  (bif (ltN x3 (List.length x2)) then (bif (inB 0 (IntKind.wrap .i64 ((((List.length x1) : Nat) : Int) - 1)) (((List.length x1) : Nat) : Int)) then (bif (leB 48 ((((decR x2 x3).1) : Nat) : Int)) then (bif (leB ((((decR x2 x3).1) : Nat) : Int) 57) then ((rdT (tiInt IntKind.i64) x1 (Int.toNat (IntKind.wrap .i64 ((((List.length x1) : Nat) : Int) - 1))) 1).bind fun v60 => (bif (ltB (PV.toI v60) 6) then (z8a x0 ((((decR x2 x3).1) : Nat) : Int) (Int.toNat (IntKind.wrap .i64 ((((List.length x1) : Nat) : Int) - 1))) x1 x2 (x3 + ((decR x2 x3).2)) x4 x5) else (z1y x0 ((((decR x2 x3).1) : Nat) : Int) x1 x2 (x3 + ((decR x2 x3).2)) x4 x5))) else (z1y x0 ((((decR x2 x3).1) : Nat) : Int) x1 x2 (x3 + ((decR x2 x3).2)) x4 x5)) else (z1y x0 ((((decR x2 x3).1) : Nat) : Int) x1 x2 (x3 + ((decR x2 x3).2)) x4 x5)) else none) else (z44 x0 true x1)) :=
 (z7 EE _ _).trans (by kernel_rfl)
theorem zqx (x0 : List PV) (x1 x2 x3 x4 : Int) : z94 x0 x1 x2 x3 x4 =
  ((z2f x1 x2).bind fun v62 => (bif (!(PV.toB v62)) then zec else (bif (eqB x4 0) then zec else (zb3 x0 x1 x2 x3 x4)))) :=
 (z7 EE _ _).trans (by kernel_rfl)
theorem zbv (x0 : List UInt8) (x1 : Int) (x2 : Nat) (x3 : List PV) (x4 : List UInt8) (x5 : Nat) (x6 : List UInt8) (x7 : List UInt8) : z8a x0 x1 x2 x3 x4 x5 x6 x7 =
  ((rdT (tiInt IntKind.i64) x3 x2 0).bind fun v63 => ((stC x3 x2 0 [(PV.int .i64 (IntKind.wrap .i64 ((IntKind.wrap .i64 (10 * (PV.toI v63))) + (IntKind.wrap .i64 (IntKind.wrap .i32 (x1 - 48))))))]).bind fun v64 => ((rdT (tiInt IntKind.i64) v64 x2 1).bind fun v65 => ((stC v64 x2 1 [(PV.int .i64 (IntKind.wrap .i64 ((PV.toI v65) + 1)))]).bind fun v66 => (z23 x0 v66 x4 x5 x6 x7))))) :=
 (z7 EE _ _).trans (by kernel_rfl)
theorem zbe (x0 : List UInt8) (x1 : Int) (x2 : List PV) (x3 : List UInt8) (x4 : Nat) (x5 : List UInt8) (x6 : List UInt8) : z1y x0 x1 x2 x3 x4 x5 x6 =
  (bif (eqB x1 58) then (z2t x0 x1 x2 x3 x4 x5 x6) else (bif (eqB x1 46) then (z2t x0 x1 x2 x3 x4 x5 x6) else (zd3 [] false))) :=
 (z7 EE _ _).trans (by kernel_rfl)
theorem zt9 (x0 : List UInt8) (x1 : Bool) (x2 : List PV) : z44 x0 x1 x2 =
  (bif (!x1) then z18 else (bif (!(eqS x0 [58])) then (bif (!(eqS x0 [58, 58])) then (bif (!(eqS x0 [58, 58, 46])) then z18 else (bif (inB 0 0 (((List.length x2) : Nat) : Int)) then ((rdT (EE.ti zd) x2 0 0).bind fun v67 => ((z3e (PV.toI (PV.nth v67 0)) (PV.toI (PV.nth v67 1))).bind fun v68 => (bif (!(PV.toB v68)) then z18 else (bif (inB 0 1 (((List.length x2) : Nat) : Int)) then ((rdT (EE.ti zd) x2 1 0).bind fun v69 => ((z2f (PV.toI (PV.nth v69 0)) (PV.toI (PV.nth v69 1))).bind fun v70 => (bif (!(PV.toB v70)) then z18 else (z8b x0 x2)))) else none)))) else none)) else (bif (inB 0 0 (((List.length x2) : Nat) : Int)) then ((rdT (EE.ti zd) x2 0 0).bind fun v71 => ((z3e (PV.toI (PV.nth v71 0)) (PV.toI (PV.nth v71 1))).bind fun v72 => (bif (!(PV.toB v72)) then z18 else (bif (inB 0 1 (((List.length x2) : Nat) : Int)) then ((rdT (EE.ti zd) x2 1 0).bind fun v73 => ((z2f (PV.toI (PV.nth v73 0)) (PV.toI (PV.nth v73 1))).bind fun v74 => (bif (!(PV.toB v74)) then z18 else (z8b x0 x2)))) else none)))) else none)) else (bif (inB 0 0 (((List.length x2) : Nat) : Int)) then ((rdT (EE.ti zd) x2 0 0).bind fun v75 => ((z3e (PV.toI (PV.nth v75 0)) (PV.toI (PV.nth v75 1))).bind fun v76 => (bif (!(PV.toB v76)) then z18 else (bif (inB 0 1 (((List.length x2) : Nat) : Int)) then ((rdT (EE.ti zd) x2 1 0).bind fun v77 => ((z2f (PV.toI (PV.nth v77 0)) (PV.toI (PV.nth v77 1))).bind fun v78 => (bif (!(PV.toB v78)) then z18 else (z8b x0 x2)))) else none)))) else none))) :=
 (z7 EE _ _).trans (by kernel_rfl)
theorem zuz  : zec  =
  (some (PV.tuple [(PV.int .i64 0), (PV.int .i64 13)])) :=
 (z7 EE _ _).trans (by kernel_rfl)
theorem zgh (x0 : List PV) (x1 x2 x3 x4 : Int) : zb3 x0 x1 x2 x3 x4 =
  (bif (ltB x4 6) then (zb3 x0 x1 x2 (IntKind.wrap .i64 (x3 * 10)) (IntKind.wrap .i64 (x4 + 1))) else (bif (inB 0 0 (((List.length x0) : Nat) : Int)) then ((rdT (tiInt IntKind.i64) x0 0 0).bind fun v82 => (bif (inB 0 1 (((List.length x0) : Nat) : Int)) then ((rdT (tiInt IntKind.i64) x0 1 0).bind fun v83 => ((zow (PV.toI v82) (PV.toI v83) x1 x3).bind fun v84 => (some (PV.tuple [(PV.int .i64 (PV.toI (PV.tnth v84 0))), (PV.int .i64 (PV.toI (PV.tnth v84 1)))])))) else none)) else none)) :=
 (z7 EE _ _).trans (by kernel_rfl)
theorem zbd (x0 : List UInt8) (x1 : Int) (x2 : List PV) (x3 : List UInt8) (x4 : Nat) (x5 : List UInt8) (x6 : List UInt8) : z2t x0 x1 x2 x3 x4 x5 x6 =
  ((catS x0 (encR x1)).bind fun v85 => ((appL 16 x2 [(PV.agg [(PV.int .i64 0), (PV.int .i64 0)])]).bind fun v86 => (z23 v85 v86 x3 x4 x5 x6))) :=
 (z7 EE _ _).trans (by kernel_rfl)
theorem zd2 (x0 : List UInt8) (x1 : List PV) : z8b x0 x1 =
  ((appL 16 x1 [(PV.agg [(PV.int .i64 0), (PV.int .i64 2)]), (PV.agg [(PV.int .i64 0), (PV.int .i64 6)])]).bind fun v87 => (bif (inB 0 2 (((List.length v87) : Nat) : Int)) then ((rdT (EE.ti zd) v87 2 0).bind fun v88 => (bif (inB 0 3 (((List.length v87) : Nat) : Int)) then ((rdT (EE.ti zd) v87 3 0).bind fun v89 => (bif (eqS x0 [58]) then (z94 v87 0 2 0 6) else (bif (eqS x0 [58, 58]) then (z94 v87 (PV.toI (PV.nth v88 0)) (PV.toI (PV.nth v88 1)) 0 6) else (z94 v87 (PV.toI (PV.nth v88 0)) (PV.toI (PV.nth v88 1)) (PV.toI (PV.nth v89 0)) (PV.toI (PV.nth v89 1)))))) else none)) else none)) :=
 (z7 EE _ _).trans (by kernel_rfl)
theorem zwi (a0_0 a0_1 a1 : Int) : zt4 a0_0 a0_1 a1 =
  ((zt5 a0_0 a0_1).bind fun v43 => (bif (!(PV.toB v43)) then (zf2 0 0) else (bif (ltB a1 0) then (zf2 0 0) else (bif (ltB 86400000000 a1) then (zf2 0 0) else (zwj a1 a0_0 a0_1 0 0))))) :=
 (z8 EE zbo _ rfl).trans (by kernel_rfl)
theorem z10x (x0 x1 : Int) : zf2 x0 x1 =
  (some (PV.tuple [(PV.agg [(PV.int .i64 0), (PV.int .i64 0)]), (PV.int .i64 1)])) :=
 (z7 EE _ _).trans (by kernel_rfl)
theorem zmf (x0 x1 x2 x3 x4 : Int) : zwj x0 x1 x2 x3 x4 =
  (bif (!(eqB x1 0)) then (some (PV.tuple [(PV.agg [(PV.int .i64 x1), (PV.int .i64 0)]), (PV.int .i64 0)])) else ((z15n x2 86400000000).bind fun v44 => (bif (eqB (PV.toI (PV.tnth v44 1)) 0) then ((z15o (PV.toI (PV.tnth v44 0)) x0).bind fun v45 => (zme (PV.toI (PV.tnth v45 0)) (PV.toI (PV.tnth v45 1)) x3 x4)) else (zme (PV.toI (PV.tnth v44 0)) (PV.toI (PV.tnth v44 1)) x3 x4)))) :=
 (z7 EE _ _).trans (by kernel_rfl)
theorem z10w (x0 x1 x2 x3 : Int) : zme x0 x1 x2 x3 =
  (bif (!(eqB x1 0)) then (some (PV.tuple [(PV.agg [(PV.int .i64 0), (PV.int .i64 0)]), (PV.int .i64 10)])) else ((zq1 0 x0).bind fun v46 => (bif (!(PV.toB v46)) then (some (PV.tuple [(PV.agg [(PV.int .i64 0), (PV.int .i64 0)]), (PV.int .i64 10)])) else (some (PV.tuple [(PV.agg [(PV.int .i64 0), (PV.int .i64 x0)]), (PV.int .i64 0)]))))) :=
 (z7 EE _ _).trans (by kernel_rfl)
theorem zp5 (a0 : List PV) : ze5 a0 =
  (bif (eqB (((List.length a0) : Nat) : Int) 0) then (some (PV.sl 1 a0)) else ((rdI tiStr a0 0).bind fun v36 => (z1b a0 (PV.toS v36) 1))) :=
 (z8 EE z5g _ rfl).trans (by kernel_rfl)
theorem z8v (x0 : List PV) (x1 : List UInt8) (x2 : Int) : z1b x0 x1 x2 =
  (bif (ltB (IntKind.wrap .i64 (x2 + 1)) (((List.length x1) : Nat) : Int)) then ((atS x1 x2).bind fun v37 => (bif (eqB v37 84) then ((atS x1 (IntKind.wrap .i64 (x2 - 1))).bind fun v38 => (bif (leB 48 v38) then ((atS x1 (IntKind.wrap .i64 (x2 - 1))).bind fun v39 => (bif (leB v39 57) then ((atS x1 (IntKind.wrap .i64 (x2 + 1))).bind fun v40 => (bif (leB 48 v40) then ((atS x1 (IntKind.wrap .i64 (x2 + 1))).bind fun v41 => (bif (leB v41 57) then (z7z x0 x1 x2) else (z1b x0 x1 (IntKind.wrap .i64 (x2 + 1))))) else (z1b x0 x1 (IntKind.wrap .i64 (x2 + 1))))) else (z1b x0 x1 (IntKind.wrap .i64 (x2 + 1))))) else (z1b x0 x1 (IntKind.wrap .i64 (x2 + 1))))) else ((atS x1 x2).bind fun v42 => (bif (eqB v42 116) then ((atS x1 (IntKind.wrap .i64 (x2 - 1))).bind fun v43 => (bif (leB 48 v43) then ((atS x1 (IntKind.wrap .i64 (x2 - 1))).bind fun v44 => (bif (leB v44 57) then ((atS x1 (IntKind.wrap .i64 (x2 + 1))).bind fun v45 => (bif (leB 48 v45) then ((atS x1 (IntKind.wrap .i64 (x2 + 1))).bind fun v46 => (bif (leB v46 57) then (z7z x0 x1 x2) else (z1b x0 x1 (IntKind.wrap .i64 (x2 + 1))))) else (z1b x0 x1 (IntKind.wrap .i64 (x2 + 1))))) else (z1b x0 x1 (IntKind.wrap .i64 (x2 + 1))))) else (z1b x0 x1 (IntKind.wrap .i64 (x2 + 1))))) else (z1b x0 x1 (IntKind.wrap .i64 (x2 + 1))))))) else (some (PV.sl 1 x0))) :=
 (z7 EE _ _).trans (by kernel_rfl)
theorem zkd (x0 : List PV) (x1 : List UInt8) (x2 : Int) : z7z x0 x1 x2 =
  ((takeS x1 x2).bind fun v47 => ((dropS x1 (IntKind.wrap .i64 (x2 + 1))).bind fun v48 => ((dropS x0 1).bind fun v49 => ((appL 16 [(PV.str v47), (PV.str v48)] v49).bind fun v50 => (bif (leN (List.length v50) 2) then (some (PV.sl 1 v50)) else (some (PV.sl 1 v50))))))) :=
 (z7 EE _ _).trans (by kernel_rfl)
theorem zmk (a0 : List UInt8) : z5b a0 =
  (z1c 1 2 0 0 a0 false) :=
 (z8 EE z9 _ rfl).trans (by kernel_rfl)
theorem z6x (x0 x1 x2 x3 : Int) (x4 : List UInt8) (x5 : Bool) : z1c x0 x1 x2 x3 x4 x5 =
  (bif (ltB x3 x1) then (bif (ltB x3 (((List.length x4) : Nat) : Int)) then ((atS x4 x3).bind fun v81 => (bif (leB 48 v81) then ((atS x4 x3).bind fun v82 => (bif (leB v82 57) then (z1w x0 x1 x2 x3 x4 x5) else (zu x0 x2 x3 x4 x5))) else (zu x0 x2 x3 x4 x5))) else (zu x0 x2 x3 x4 x5)) else (zu x0 x2 x3 x4 x5)) :=
 (z7 EE _ _).trans (by kernel_rfl)
theorem z6w (x0 x1 x2 x3 : Int) (x4 : List UInt8) (x5 : Bool) : z1w x0 x1 x2 x3 x4 x5 =
  ((atS x4 x3).bind fun v83 => (z1c x0 x1 (IntKind.wrap .i64 ((IntKind.wrap .i64 (10 * x2)) + (IntKind.wrap .i64 (IntKind.wrap .u8 (v83 - 48))))) (IntKind.wrap .i64 (x3 + 1)) x4 x5)) :=
 (z7 EE _ _).trans (by kernel_rfl)
theorem z6v (x0 x1 x2 : Int) (x3 : List UInt8) (x4 : Bool) : zu x0 x1 x2 x3 x4 =
  (bif (ltB x2 x0) then ((dropS x3 x2).bind fun v84 => (z7g x1 v84 true)) else ((dropS x3 x2).bind fun v85 => (z7g x1 v85 x4))) :=
 (z7 EE _ _).trans (by kernel_rfl)
theorem zj9 (x0 : Int) (x1 : List UInt8) (x2 : Bool) : z7g x0 x1 x2 =
  (bif (eqB (((List.length x1) : Nat) : Int) 0) then (z10 x1 x2 x0) else ((atS x1 0).bind fun v86 => (bif (!(eqB v86 58)) then (z10 x1 x2 x0) else ((dropS x1 1).bind fun v87 => (z53 x0 v87 x2))))) :=
 (z7 EE _ _).trans (by kernel_rfl)
theorem z6h (x0 : List UInt8) (x1 : Bool) (x2 : Int) : z10 x0 x1 x2 =
  (zf5 x2 x0 x1) :=
 (z7 EE _ _).trans (by kernel_rfl)
theorem zj7 (x0 : Int) (x1 : List UInt8) (x2 : Bool) : z53 x0 x1 x2 =
  (z17 2 2 0 0 x1 x2 x0) :=
 (z7 EE _ _).trans (by kernel_rfl)
theorem zj8 (x0 : Int) (x1 : List UInt8) (x2 : Bool) : zf5 x0 x1 x2 =
  (z53 x0 x1 true) :=
 (z7 EE _ _).trans (by kernel_rfl)
theorem z62 (x0 x1 x2 x3 : Int) (x4 : List UInt8) (x5 : Bool) (x6 : Int) : z17 x0 x1 x2 x3 x4 x5 x6 =
  (bif (ltB x3 x1) then (bif (ltB x3 (((List.length x4) : Nat) : Int)) then ((atS x4 x3).bind fun v88 => (bif (leB 48 v88) then ((atS x4 x3).bind fun v89 => (bif (leB v89 57) then (z1s x0 x1 x2 x3 x4 x5 x6) else (zn x0 x2 x3 x4 x5 x6))) else (zn x0 x2 x3 x4 x5 x6))) else (zn x0 x2 x3 x4 x5 x6)) else (zn x0 x2 x3 x4 x5 x6)) :=
 (z7 EE _ _).trans (by kernel_rfl)
theorem z5z (x0 x1 x2 x3 : Int) (x4 : List UInt8) (x5 : Bool) (x6 : Int) : z1s x0 x1 x2 x3 x4 x5 x6 =
  ((atS x4 x3).bind fun v90 => (z17 x0 x1 (IntKind.wrap .i64 ((IntKind.wrap .i64 (10 * x2)) + (IntKind.wrap .i64 (IntKind.wrap .u8 (v90 - 48))))) (IntKind.wrap .i64 (x3 + 1)) x4 x5 x6)) :=
 (z7 EE _ _).trans (by kernel_rfl)
theorem z5w (x0 x1 x2 : Int) (x3 : List UInt8) (x4 : Bool) (x5 : Int) : zn x0 x1 x2 x3 x4 x5 =
  (bif (ltB x2 x0) then ((dropS x3 x2).bind fun v91 => (z7f x5 x1 v91 true)) else ((dropS x3 x2).bind fun v92 => (z7f x5 x1 v92 x4))) :=
 (z7 EE _ _).trans (by kernel_rfl)
theorem zj6 (x0 x1 : Int) (x2 : List UInt8) (x3 : Bool) : z7f x0 x1 x2 x3 =
  (bif (eqB (((List.length x2) : Nat) : Int) 0) then (z13 x2 x3 x0 x1 0 0) else ((atS x2 0).bind fun v93 => (bif (!(eqB v93 58)) then (z13 x2 x3 x0 x1 0 0) else ((dropS x2 1).bind fun v94 => (z7e x0 x1 0 v94 x3))))) :=
 (z7 EE _ _).trans (by kernel_rfl)
theorem z5p (x0 : List UInt8) (x1 : Bool) (x2 x3 x4 x5 : Int) : z13 x0 x1 x2 x3 x4 x5 =
  (z2n x2 x3 x4 x5 x0 x1) :=
 (z7 EE _ _).trans (by kernel_rfl)
theorem zj5 (x0 x1 x2 : Int) (x3 : List UInt8) (x4 : Bool) : z7e x0 x1 x2 x3 x4 =
  (z16 2 2 0 0 x3 x4 x0 x1 x2) :=
 (z7 EE _ _).trans (by kernel_rfl)
theorem zi8 (x0 x1 x2 x3 : Int) (x4 : List UInt8) (x5 : Bool) : z2n x0 x1 x2 x3 x4 x5 =
  (bif x5 then (some (PV.tuple [(PV.int .i64 0), (PV.int .i64 13)])) else (bif (ltB 0 (((List.length x4) : Nat) : Int)) then (some (PV.tuple [(PV.int .i64 0), (PV.int .i64 13)])) else ((z9h x0 x1 x2 x3).bind fun v95 => (some (PV.tuple [(PV.int .i64 (PV.toI (PV.tnth v95 0))), (PV.int .i64 (PV.toI (PV.tnth v95 1)))]))))) :=
 (z7 EE _ _).trans (by kernel_rfl)
theorem z61 (x0 x1 x2 x3 : Int) (x4 : List UInt8) (x5 : Bool) (x6 x7 x8 : Int) : z16 x0 x1 x2 x3 x4 x5 x6 x7 x8 =
  (bif (ltB x3 x1) then (bif (ltB x3 (((List.length x4) : Nat) : Int)) then ((atS x4 x3).bind fun v96 => (bif (leB 48 v96) then ((atS x4 x3).bind fun v97 => (bif (leB v97 57) then (z1r x0 x1 x2 x3 x4 x5 x6 x7 x8) else (zm x0 x2 x3 x4 x5 x6 x7 x8))) else (zm x0 x2 x3 x4 x5 x6 x7 x8))) else (zm x0 x2 x3 x4 x5 x6 x7 x8)) else (zm x0 x2 x3 x4 x5 x6 x7 x8)) :=
 (z7 EE _ _).trans (by kernel_rfl)
theorem z5y (x0 x1 x2 x3 : Int) (x4 : List UInt8) (x5 : Bool) (x6 x7 x8 : Int) : z1r x0 x1 x2 x3 x4 x5 x6 x7 x8 =
  ((atS x4 x3).bind fun v98 => (z16 x0 x1 (IntKind.wrap .i64 ((IntKind.wrap .i64 (10 * x2)) + (IntKind.wrap .i64 (IntKind.wrap .u8 (v98 - 48))))) (IntKind.wrap .i64 (x3 + 1)) x4 x5 x6 x7 x8)) :=
 (z7 EE _ _).trans (by kernel_rfl)
theorem z5v (x0 x1 x2 : Int) (x3 : List UInt8) (x4 : Bool) (x5 x6 x7 : Int) : zm x0 x1 x2 x3 x4 x5 x6 x7 =
  (bif (ltB x2 x0) then ((dropS x3 x2).bind fun v99 => (z6t x5 x6 x1 x7 v99 true)) else ((dropS x3 x2).bind fun v100 => (z6t x5 x6 x1 x7 v100 x4))) :=
 (z7 EE _ _).trans (by kernel_rfl)
theorem zib (x0 x1 x2 x3 : Int) (x4 : List UInt8) (x5 : Bool) : z6t x0 x1 x2 x3 x4 x5 =
  (bif (eqB (((List.length x4) : Nat) : Int) 0) then (z12 x4 x5 x0 x1 x2 x3) else ((atS x4 0).bind fun v101 => (bif (!(eqB v101 46)) then (z12 x4 x5 x0 x1 x2 x3) else ((dropS x4 1).bind fun v102 => (z4j x0 x1 x2 v102 x5))))) :=
 (z7 EE _ _).trans (by kernel_rfl)
theorem z5o (x0 : List UInt8) (x1 : Bool) (x2 x3 x4 x5 : Int) : z12 x0 x1 x2 x3 x4 x5 =
  (z2n x2 x3 x4 x5 x0 x1) :=
 (z7 EE _ _).trans (by kernel_rfl)
theorem zia (x0 x1 x2 : Int) (x3 : List UInt8) (x4 : Bool) : z4j x0 x1 x2 x3 x4 =
  (z15 1 6 0 0 x3 x4 x0 x1 x2 (((List.length x3) : Nat) : Int)) :=
 (z7 EE _ _).trans (by kernel_rfl)
theorem z60 (x0 x1 x2 x3 : Int) (x4 : List UInt8) (x5 : Bool) (x6 x7 x8 x9 : Int) : z15 x0 x1 x2 x3 x4 x5 x6 x7 x8 x9 =
  (bif (ltB x3 x1) then (bif (ltB x3 (((List.length x4) : Nat) : Int)) then ((atS x4 x3).bind fun v103 => (bif (leB 48 v103) then ((atS x4 x3).bind fun v104 => (bif (leB v104 57) then (z1q x0 x1 x2 x3 x4 x5 x6 x7 x8 x9) else (zl x0 x2 x3 x4 x5 x6 x7 x8 x9))) else (zl x0 x2 x3 x4 x5 x6 x7 x8 x9))) else (zl x0 x2 x3 x4 x5 x6 x7 x8 x9)) else (zl x0 x2 x3 x4 x5 x6 x7 x8 x9)) :=
 (z7 EE _ _).trans (by kernel_rfl)
theorem z5x (x0 x1 x2 x3 : Int) (x4 : List UInt8) (x5 : Bool) (x6 x7 x8 x9 : Int) : z1q x0 x1 x2 x3 x4 x5 x6 x7 x8 x9 =
  ((atS x4 x3).bind fun v105 => (z15 x0 x1 (IntKind.wrap .i64 ((IntKind.wrap .i64 (10 * x2)) + (IntKind.wrap .i64 (IntKind.wrap .u8 (v105 - 48))))) (IntKind.wrap .i64 (x3 + 1)) x4 x5 x6 x7 x8 x9)) :=
 (z7 EE _ _).trans (by kernel_rfl)
theorem z5u (x0 x1 x2 : Int) (x3 : List UInt8) (x4 : Bool) (x5 x6 x7 x8 : Int) : zl x0 x1 x2 x3 x4 x5 x6 x7 x8 =
  (bif (ltB x2 x0) then ((dropS x3 x2).bind fun v106 => (z6s x5 x6 x7 x1 x8 v106 true)) else ((dropS x3 x2).bind fun v107 => (z6s x5 x6 x7 x1 x8 v107 x4))) :=
 (z7 EE _ _).trans (by kernel_rfl)
theorem zi9 (x0 x1 x2 x3 x4 : Int) (x5 : List UInt8) (x6 : Bool) : z6s x0 x1 x2 x3 x4 x5 x6 =
  (z6r x0 x1 x2 x3 (IntKind.wrap .i64 (x4 - (((List.length x5) : Nat) : Int))) x5 x6) :=
 (z7 EE _ _).trans (by kernel_rfl)
theorem zaz (x0 x1 x2 x3 x4 : Int) (x5 : List UInt8) (x6 : Bool) : z6r x0 x1 x2 x3 x4 x5 x6 =
  (bif (ltB x4 6) then (z6r x0 x1 x2 (IntKind.wrap .i64 (x3 * 10)) (IntKind.wrap .i64 (x4 + 1)) x5 x6) else (z2n x0 x1 x2 x3 x5 x6)) :=
 (z7 EE _ _).trans (by kernel_rfl)
theorem z6p (a0_0 a0_1 a1 : Int) : z6g a0_0 a0_1 a1 =
  ((z8w a0_0 a0_1).bind fun v134 => (bif (!(PV.toB v134)) then (z3b 0 0) else (bif (ltB a1 0) then (z3b 0 0) else (bif (ltB 86400000000 a1) then (z3b 0 0) else (zds a1 a0_0 a0_1 0 0))))) :=
 (z8 EE z3a _ rfl).trans (by kernel_rfl)
theorem zax (x0 x1 : Int) : z3b x0 x1 =
  (some (PV.tuple [(PV.agg [(PV.int .i64 0), (PV.int .i64 0)]), (PV.int .i64 1)])) :=
 (z7 EE _ _).trans (by kernel_rfl)
theorem z4v (x0 x1 x2 x3 x4 : Int) : zds x0 x1 x2 x3 x4 =
  (bif (!(eqB x1 0)) then (some (PV.tuple [(PV.agg [(PV.int .i64 x1), (PV.int .i64 0)]), (PV.int .i64 0)])) else (bif (eqB x0 86400000000) then (z6q 0 (IntKind.wrap .i64 (x2 + 1)) x3 x4) else (z6q x0 x2 x3 x4))) :=
 (z7 EE _ _).trans (by kernel_rfl)
theorem z2i (x0 x1 x2 x3 : Int) : z6q x0 x1 x2 x3 =
  ((z45 x1).bind fun v135 => (bif (!(PV.toB v135)) then (some (PV.tuple [(PV.agg [(PV.int .i64 0), (PV.int .i64 0)]), (PV.int .i64 10)])) else (some (PV.tuple [(PV.agg [(PV.int .i64 0), (PV.int .i64 (IntKind.wrap .i64 ((IntKind.wrap .i64 (x1 * 86400000000)) + x0)))]), (PV.int .i64 0)])))) :=
 (z7 EE _ _).trans (by kernel_rfl)
theorem z1fp (a0 : Int) : z1bj a0 =
  ((num_Sub 0 a0).bind fun v90 => (some (PV.tuple [(PV.int .i64 (PV.toI (PV.tnth v90 0))), (PV.int .i64 (PV.toI (PV.tnth v90 1)))]))) :=
 (z8 EE z13o _ rfl).trans (by kernel_rfl)
theorem z122 (a0 : Int) : zju a0 =
  (bif (leB (-2147483647) a0) then (some (PV.bool (leB a0 2147483647))) else (some (PV.bool false))) :=
 (z8 EE zpu _ rfl).trans (by kernel_rfl)
theorem zk9 (a0 : Int) : z4p a0 =
  ((zox a0).bind fun v70 => (bif (eqB (PV.toI (PV.tnth v70 3)) 0) then (bif (leB (-4712) (PV.toI (PV.tnth v70 0))) then (some (PV.bool (leB (PV.toI (PV.tnth v70 0)) 294276))) else (some (PV.bool false))) else (some (PV.bool false)))) :=
 (z8 EE zst _ rfl).trans (by kernel_rfl)
theorem z18o (a0 : Int) : zzr a0 =
  ((z1bl a0 86400000000).bind fun v52 => ((z1bk a0 86400000000).bind fun v53 => (some (PV.tuple [(PV.int .i64 (PV.toI (PV.tnth v52 0))), (PV.int .i64 (PV.toI (PV.tnth v53 0)))])))) :=
 (z8 EE zwa _ rfl).trans (by kernel_rfl)
theorem zrp (a0 : List UInt8) (a1 : List UInt8) : zlp a0 a1 =
  ((za4 a0 a1).bind fun v113 => (bif (leB 0 (PV.toI v113)) then ((takeS a0 (PV.toI v113)).bind fun v114 => ((dropS a0 (IntKind.wrap .i64 ((PV.toI v113) + (((List.length a1) : Nat) : Int)))).bind fun v115 => (some (PV.tuple [(PV.str v114), (PV.str v115), (PV.bool true)])))) else (some (PV.tuple [(PV.str a0), (PV.str []), (PV.bool false)])))) :=
 (z8 EE zha _ rfl).trans (by kernel_rfl)
theorem z11t (a0 : List UInt8) : zjl a0 =
  (z7k a0 0 0 a0 0) :=
 (z8 EE z2y _ rfl).trans (by kernel_rfl)
theorem z9z (x0 : List UInt8) (x1 x2 : Int) (x3 : List UInt8) (x4 : Nat) : z7k x0 x1 x2 x3 x4 =
  (bif (ltN x4 (List.length x3)) then ((zic ((((decR x3 x4).1) : Nat) : Int)).bind fun v156 => (bif (!(eqB (PV.toI v156) 1)) then (some (PV.tuple [(PV.int .i64 0), (PV.int .i64 13)])) else (bif (eqB x2 0) then ((z15n x1 10).bind fun v157 => (zhm x0 (PV.toI (PV.tnth v157 0)) (PV.toI (PV.tnth v157 1)) ((((decR x3 x4).1) : Nat) : Int) x3 (x4 + ((decR x3 x4).2)))) else (zhm x0 x1 x2 ((((decR x3 x4).1) : Nat) : Int) x3 (x4 + ((decR x3 x4).2)))))) else (bif (eqS x0 []) then (some (PV.tuple [(PV.int .i64 0), (PV.int .i64 13)])) else (some (PV.tuple [(PV.int .i64 x1), (PV.int .i64 x2)])))) :=
 (z7 EE _ _).trans (by kernel_rfl)
theorem zdv (x0 : List UInt8) (x1 x2 x3 : Int) (x4 : List UInt8) (x5 : Nat) : zhm x0 x1 x2 x3 x4 x5 =
  (bif (eqB x2 0) then ((z15o x1 (IntKind.wrap .i64 (IntKind.wrap .i32 (x3 - 48)))).bind fun v158 => (z7k x0 (PV.toI (PV.tnth v158 0)) (PV.toI (PV.tnth v158 1)) x4 x5)) else (z7k x0 x1 x2 x4 x5)) :=
 (z7 EE _ _).trans (by kernel_rfl)
theorem z1fq (a0 a1 : Int) : z15n a0 a1 =
  ((zk0 a0 a1).bind fun v99 => ((zg2 (!((ltB a0 0) == (ltB a1 0))) (PV.toI (PV.nth v99 0)) (PV.toI (PV.nth v99 1))).bind fun v100 => (some (PV.tuple [(PV.int .i64 (PV.toI (PV.tnth v100 0))), (PV.int .i64 (PV.toI (PV.tnth v100 1)))])))) :=
 (z8 EE z75 _ rfl).trans (by kernel_rfl)
theorem z1ft (a0 a1 : Int) : z15o a0 a1 =
  (bif (!((ltB a0 (IntKind.wrap .i64 (a0 + a1))) == (ltB 0 a1))) then (some (PV.tuple [(PV.int .i64 0), (PV.int .i64 10)])) else (some (PV.tuple [(PV.int .i64 (IntKind.wrap .i64 (a0 + a1))), (PV.int .i64 0)]))) :=
 (z8 EE z84 _ rfl).trans (by kernel_rfl)
theorem zp0 (a0 : List UInt8) (a1 : List UInt8) : zig a0 a1 =
  ((zeg a0 a1).bind fun v57 => (some (PV.tuple [(PV.str (PV.toS (PV.tnth v57 0))), (PV.bool (PV.toB (PV.tnth v57 1)))]))) :=
 (z8 EE z21 _ rfl).trans (by kernel_rfl)
theorem zlq (a0 : List UInt8) (a1 : List UInt8) : zh0 a0 a1 =
  ((zdf a0 a1).bind fun v73 => (some (PV.str (PV.toS v73)))) :=
 (z8 EE z7a _ rfl).trans (by kernel_rfl)
theorem zwv (a0 : List UInt8) (a1 : List UInt8) : zfo a0 a1 =
  ((zkm a0 a1 0 (-1)).bind fun v116 => (some (PV.sl 1 (PV.toL v116)))) :=
 (z8 EE z91 _ rfl).trans (by kernel_rfl)
theorem z128 (a0 : List UInt8) : z7l a0 =
  ((zjl a0).bind fun v159 => (some (PV.int .i64 (PV.toI (PV.tnth v159 0))))) :=
 (z8 EE zhz _ rfl).trans (by kernel_rfl)
theorem zl9 (a0 a1 a2 : Int) : zbb a0 a1 a2 =
  (bif (leB (-4718) a0) then (bif (leB a0 294282) then (bif (leB 1 a1) then (bif (leB a1 12) then (bif (leB 1 a2) then ((z4r a0 a1).bind fun v101 => (some (PV.bool (leB a2 (PV.toI v101))))) else (some (PV.bool false))) else (some (PV.bool false))) else (some (PV.bool false))) else (some (PV.bool false))) else (some (PV.bool false))) :=
 (z8 EE zdk _ rfl).trans (by kernel_rfl)
theorem zp8 (a0 a1 a2 : Int) : z89 a0 a1 a2 =
  ((zba a0).bind fun v54 => (z80 a0 a1 (IntKind.wrap .i64 ((IntKind.wrap .i64 ((PV.toI v54) + a2)) - 1)) 1)) :=
 (z8 EE z7x _ rfl).trans (by kernel_rfl)
theorem zcw (x0 x1 x2 x3 : Int) : z80 x0 x1 x2 x3 =
  (bif (ltB x3 x1) then ((z4r x0 x3).bind fun v55 => (z80 x0 x1 (IntKind.wrap .i64 (x2 + (PV.toI v55))) (IntKind.wrap .i64 (x3 + 1)))) else (some (PV.int .i64 x2))) :=
 (z7 EE _ _).trans (by kernel_rfl)
theorem zmo (a0 : Int) : z9i a0 =
  ((ze6 a0).bind fun v58 => (bif (!(PV.toB v58)) then (some (PV.tuple [(PV.int .i64 0), (PV.int .i64 0), (PV.int .i64 0), (PV.int .i64 10)])) else ((zab a0 146097).bind fun v59 => ((z4q a0 146097).bind fun v60 => (z7j (IntKind.wrap .i64 (2000 + (IntKind.wrap .i64 ((PV.toI v59) * 400)))) (PV.toI v60)))))) :=
 (z8 EE z3k _ rfl).trans (by kernel_rfl)
theorem zjc (x0 x1 : Int) : z7j x0 x1 =
  ((z7h x0).bind fun v61 => (bif (PV.toB v61) then (z7i x0 x1 366) else (z7i x0 x1 365))) :=
 (z7 EE _ _).trans (by kernel_rfl)
theorem zjb (x0 x1 x2 : Int) : z7i x0 x1 x2 =
  (bif (ltB x1 x2) then (z6u x0 x1 1) else (z7j (IntKind.wrap .i64 (x0 + 1)) (IntKind.wrap .i64 (x1 - x2)))) :=
 (z7 EE _ _).trans (by kernel_rfl)
theorem zb1 (x0 x1 x2 : Int) : z6u x0 x1 x2 =
  ((z4r x0 x2).bind fun v62 => (bif (leB (PV.toI v62) x1) then ((z4r x0 x2).bind fun v63 => (z6u x0 (IntKind.wrap .i64 (x1 - (PV.toI v63))) (IntKind.wrap .i64 (x2 + 1)))) else (some (PV.tuple [(PV.int .i64 x0), (PV.int .i64 x2), (PV.int .i64 (IntKind.wrap .i64 (x1 + 1))), (PV.int .i64 0)])))) :=
 (z7 EE _ _).trans (by kernel_rfl)
theorem z14e (a0 : List UInt8) : zfz a0 =
  ((ztt a0 [(PV.str [74, 97, 110, 117, 97, 114, 121]), (PV.str [70, 101, 98, 114, 117, 97, 114, 121]), (PV.str [77, 97, 114, 99, 104]), (PV.str [65, 112, 114, 105, 108]), (PV.str [77, 97, 121]), (PV.str [74, 117, 110, 101]), (PV.str [74, 117, 108, 121]), (PV.str [65, 117, 103, 117, 115, 116]), (PV.str [83, 101, 112, 116, 101, 109, 98, 101, 114]), (PV.str [79, 99, 116, 111, 98, 101, 114]), (PV.str [78, 111, 118, 101, 109, 98, 101, 114]), (PV.str [68, 101, 99, 101, 109, 98, 101, 114])]).bind fun v74 => (some (PV.int .i64 (IntKind.wrap .i64 ((PV.toI v74) + 1))))) :=
 (z8 EE zsl _ rfl).trans (by kernel_rfl)
theorem z16k (a0 : Int) : zv0 a0 =
  (bif (eqB (Int.tmod a0 4) 0) then (bif (!(eqB (Int.tmod a0 100) 0)) then (some (PV.bool true)) else (some (PV.bool (eqB (Int.tmod a0 400) 0)))) else (some (PV.bool false))) :=
 (z8 EE zsv _ rfl).trans (by kernel_rfl)
theorem z12i (a0 a1 a2 : Int) : zr0 a0 a1 a2 =
  (bif (leB (-4718) a0) then (bif (leB a0 294282) then (bif (leB 1 a2) then ((zgj a0 a1).bind fun v160 => (some (PV.bool (leB a2 (PV.toI v160))))) else (some (PV.bool false))) else (some (PV.bool false))) else (some (PV.bool false))) :=
 (z8 EE zpz _ rfl).trans (by kernel_rfl)
theorem z19p (a0 a1 a2 : Int) : zmq a0 a1 a2 =
  (bif (leB a1 2) then (zhj (IntKind.wrap .i64 (a0 - 1)) (IntKind.wrap .i64 (a1 + 12)) a2) else (zhj a0 a1 a2)) :=
 (z8 EE zhf _ rfl).trans (by kernel_rfl)
theorem z111 (x0 x1 x2 : Int) : zhj x0 x1 x2 =
  ((zki x0 400).bind fun v102 => (some (PV.int .i64 (IntKind.wrap .i64 ((IntKind.wrap .i64 ((IntKind.wrap .i64 ((IntKind.wrap .i64 ((IntKind.wrap .i64 ((IntKind.wrap .i64 ((IntKind.wrap .i64 ((IntKind.wrap .i64 ((PV.toI (PV.tnth v102 0)) * 146097)) + (IntKind.wrap .i64 ((PV.toI (PV.tnth v102 1)) * 365)))) + (IntKind.wrap .i64 (Int.tdiv (PV.toI (PV.tnth v102 1)) 4)))) - (IntKind.wrap .i64 (Int.tdiv (PV.toI (PV.tnth v102 1)) 100)))) + (IntKind.wrap .i64 (Int.tdiv (IntKind.wrap .i64 ((IntKind.wrap .i64 (153 * (IntKind.wrap .i64 (x1 - 3)))) + 2)) 5)))) + x2)) - 1)) - 730425))))) :=
 (z7 EE _ _).trans (by kernel_rfl)
theorem zkc (a0 : List UInt8) (a1 a2 : Int) : z1a a0 a1 a2 =
  (bif (leB a1 (((List.length a0) : Nat) : Int)) then (z8u a0 (leB (((List.length a0) : Nat) : Int) a2)) else (z8u a0 false)) :=
 (z8 EE z3z _ rfl).trans (by kernel_rfl)
theorem zgv (x0 : List UInt8) (x1 : Bool) : z8u x0 x1 =
  (z32 x0 x1 0) :=
 (z7 EE _ _).trans (by kernel_rfl)
theorem zaf (x0 : List UInt8) (x1 : Bool) (x2 : Int) : z32 x0 x1 x2 =
  (bif (ltB x2 (((List.length x0) : Nat) : Int)) then (bif x1 then ((atS x0 x2).bind fun v56 => (bif (leB 48 v56) then ((atS x0 x2).bind fun v57 => (z32 x0 (leB v57 57) (IntKind.wrap .i64 (x2 + 1)))) else (z32 x0 false (IntKind.wrap .i64 (x2 + 1))))) else (z32 x0 false (IntKind.wrap .i64 (x2 + 1)))) else (some (PV.bool x1))) :=
 (z7 EE _ _).trans (by kernel_rfl)
theorem zka (a0 : List UInt8) : z1k a0 =
  ((zaj a0).bind fun v64 => (some (PV.int .i64 (PV.toI (PV.tnth v64 0))))) :=
 (z8 EE zco _ rfl).trans (by kernel_rfl)
theorem zl1 (a0 : List UInt8) (a1 : Int) : zb6 a0 a1 =
  (z4g a0 a1 0 [(PV.str [])] 1) :=
 (z8 EE z4c _ rfl).trans (by kernel_rfl)
theorem zas (x0 : List UInt8) (x1 x2 : Int) (x3 : List PV) (x4 : Nat) : z4g x0 x1 x2 x3 x4 =
  (bif (ltB x2 (((List.length x0) : Nat) : Int)) then ((atS x0 x2).bind fun v75 => (bif (eqB v75 x1) then ((appL 16 x3 [(PV.str [])]).bind fun v76 => (bif (leN (List.length v76) x4) then (z4g x0 x1 (IntKind.wrap .i64 (x2 + 1)) v76 x4) else (z3n x0 x1 (IntKind.wrap .i64 (x2 + 1)) v76))) else (bif (inB 0 (IntKind.wrap .i64 ((((List.length x3) : Nat) : Int) - 1)) (((List.length x3) : Nat) : Int)) then ((rdT tiStr x3 (Int.toNat (IntKind.wrap .i64 ((((List.length x3) : Nat) : Int) - 1))) 0).bind fun v77 => ((subS x0 x2 (IntKind.wrap .i64 (x2 + 1))).bind fun v78 => ((catS (PV.toS v77) v78).bind fun v79 => (bif (inB 0 (IntKind.wrap .i64 ((((List.length x3) : Nat) : Int) - 1)) (((List.length x3) : Nat) : Int)) then ((stC x3 (Int.toNat (IntKind.wrap .i64 ((((List.length x3) : Nat) : Int) - 1))) 0 [(PV.str v79)]).bind fun v80 => (z4g x0 x1 (IntKind.wrap .i64 (x2 + 1)) v80 x4)) else none)))) else none))) else (some (PV.sl 1 x3))) :=
 (z7 EE _ _).trans (by kernel_rfl)
theorem z9v (x0 : List UInt8) (x1 x2 : Int) (x3 : List PV) : z3n x0 x1 x2 x3 =
  (bif (ltB x2 (((List.length x0) : Nat) : Int)) then ((atS x0 x2).bind fun v81 => (bif (eqB v81 x1) then ((appL 16 x3 [(PV.str [])]).bind fun v82 => (z3n x0 x1 (IntKind.wrap .i64 (x2 + 1)) v82)) else (bif (inB 0 (IntKind.wrap .i64 ((((List.length x3) : Nat) : Int) - 1)) (((List.length x3) : Nat) : Int)) then ((rdT tiStr x3 (Int.toNat (IntKind.wrap .i64 ((((List.length x3) : Nat) : Int) - 1))) 0).bind fun v83 => ((subS x0 x2 (IntKind.wrap .i64 (x2 + 1))).bind fun v84 => ((catS (PV.toS v83) v84).bind fun v85 => (bif (inB 0 (IntKind.wrap .i64 ((((List.length x3) : Nat) : Int) - 1)) (((List.length x3) : Nat) : Int)) then ((stC x3 (Int.toNat (IntKind.wrap .i64 ((((List.length x3) : Nat) : Int) - 1))) 0 [(PV.str v85)]).bind fun v86 => (z3n x0 x1 (IntKind.wrap .i64 (x2 + 1)) v86)) else none)))) else none))) else (some (PV.sl 1 x3))) :=
 (z7 EE _ _).trans (by kernel_rfl)
theorem zmg (a0 : List UInt8) : zcs a0 =
  ((z1a a0 3 6).bind fun v117 => (bif (PV.toB v117) then ((z1k a0).bind fun v118 => (some (PV.int .i64 (PV.toI v118)))) else ((z1a a0 1 2).bind fun v119 => (bif (!(PV.toB v119)) then (some (PV.int .i64 0)) else ((z1k a0).bind fun v120 => (bif (ltB (PV.toI v120) 70) then (some (PV.int .i64 (IntKind.wrap .i64 (2000 + (PV.toI v120))))) else (some (PV.int .i64 (IntKind.wrap .i64 (1900 + (PV.toI v120))))))))))) :=
 (z8 EE zev _ rfl).trans (by kernel_rfl)
theorem zl5 (a0 : List UInt8) (a1 : List PV) : zb9 a0 a1 =
  (z4i a0 a1 0) :=
 (z8 EE z4e _ rfl).trans (by kernel_rfl)
theorem z7q (x0 : List UInt8) (x1 : List PV) (x2 : Int) : z4i x0 x1 x2 =
  (bif (ltB x2 (((List.length x1) : Nat) : Int)) then (bif (leB 3 (((List.length x0) : Nat) : Int)) then (zdt x0 x1 x2) else (some (PV.int .i64 (-1)))) else (some (PV.int .i64 (-1)))) :=
 (z7 EE _ _).trans (by kernel_rfl)
theorem zi6 (x0 : List UInt8) (x1 : List PV) (x2 : Int) : zdt x0 x1 x2 =
  ((rdI tiStr x1 x2).bind fun v161 => (bif (leB (((List.length x0) : Nat) : Int) (((List.length (PV.toS v161)) : Nat) : Int)) then ((rdI tiStr x1 x2).bind fun v162 => ((takeS (PV.toS v162) (((List.length x0) : Nat) : Int)).bind fun v163 => ((z1n x0 v163).bind fun v164 => (bif (PV.toB v164) then (some (PV.int .i64 x2)) else (z4i x0 x1 (IntKind.wrap .i64 (x2 + 1))))))) else (z4i x0 x1 (IntKind.wrap .i64 (x2 + 1))))) :=
 (z7 EE _ _).trans (by kernel_rfl)
theorem zml (a0 : Int) : z7h a0 =
  ((z4q a0 4).bind fun v103 => (bif (eqB (PV.toI v103) 0) then ((z4q a0 100).bind fun v104 => (bif (!(eqB (PV.toI v104) 0)) then (some (PV.bool true)) else ((z4q a0 400).bind fun v105 => (some (PV.bool (eqB (PV.toI v105) 0)))))) else (some (PV.bool false)))) :=
 (z8 EE zey _ rfl).trans (by kernel_rfl)
theorem z15h (a0 : Int) : zbi a0 =
  (bif (leB 48 a0) then (some (PV.bool (leB a0 57))) else (some (PV.bool false))) :=
 (z8 EE zsq _ rfl).trans (by kernel_rfl)
theorem zek (a0 : List PV) : z67 a0 =
  (z4w a0 0 a0 (((List.length a0) : Nat) : Int) 0) :=
 (z8 EE zx _ rfl).trans (by kernel_rfl)
theorem z3w (x0 : List PV) (x1 : Int) (x2 : List PV) (x3 x4 : Int) : z4w x0 x1 x2 x3 x4 =
  (bif (ltB x4 x3) then ((rdI (EE.ti z6) x2 x4).bind fun v65 => (bif (ltB (IntKind.wrap .i64 (x1 + (((List.length (PV.toL v65)) : Nat) : Int))) 0) then none else (z8i x0 (IntKind.wrap .i64 (x1 + (((List.length (PV.toL v65)) : Nat) : Int))) x2 x3 x4))) else (bif (ltB x1 0) then none else (z1x x1 x0 x1 x1))) :=
 (z7 EE _ _).trans (by kernel_rfl)
theorem z79 (x0 : List PV) (x1 : Int) (x2 : List PV) (x3 x4 : Int) : z8i x0 x1 x2 x3 x4 =
  (z4w x0 x1 x2 x3 (IntKind.wrap .i64 (x4 + 1))) :=
 (z7 EE _ _).trans (by kernel_rfl)
theorem z3t (x0 : Int) (x1 : List PV) (x2 x3 : Int) : z1x x0 x1 x2 x3 =
  (bif (ltB 0 (IntKind.wrap .i64 (x0 - (IntKind.wrap .i64 (0 - 0))))) then (bif (decide ((0 ≤ (IntKind.wrap .i64 (x0 - (IntKind.wrap .i64 (0 - 0))))) ∧ (((IntKind.wrap .i64 (x0 - (IntKind.wrap .i64 (0 - 0)))) * ((16 : Nat) : Int)) ≤ (HPow.hPow (2 : Int) 46)))) then (z83 x1 0 0 (List.replicate (Int.toNat (IntKind.wrap .i64 (x0 - (IntKind.wrap .i64 (0 - 0))))) (PV.str []))) else none) else (zcj x1)) :=
 (z7 EE _ _).trans (by kernel_rfl)
theorem zbu (x0 : List PV) (x1 : Nat) (x2 : Nat) (x3 : List PV) : z83 x0 x1 x2 x3 =
  (z4l x1 x2 x0 (((List.length x0) : Nat) : Int) 0 x3) :=
 (z7 EE _ _).trans (by kernel_rfl)
theorem z3r (x0 : Nat) (x1 : Nat) (x2 : List PV) (x3 x4 : Int) (x5 : List PV) : z4l x0 x1 x2 x3 x4 x5 =
  (bif (ltB x4 x3) then ((rdI (EE.ti z6) x2 x4).bind fun v66 => (bif (true && (leN ((x0 + x1) + (List.length (PV.toL v66))) (List.length x5))) then (z4l x0 (x1 + (List.length (PV.toL v66))) x2 x3 (IntKind.wrap .i64 (x4 + 1)) ((List.take (x0 + x1) x5) ++ ((PV.toL v66) ++ (List.drop ((x0 + x1) + (List.length (PV.toL v66))) x5)))) else ((appL 16 (List.take x1 (List.drop x0 x5)) (PV.toL v66)).bind fun v67 => (zci x2 x3 (IntKind.wrap .i64 (x4 + 1)) v67 (0 - x0))))) else (some (PV.sl 1 (List.take x1 (List.drop x0 x5))))) :=
 (z7 EE _ _).trans (by kernel_rfl)
theorem zt8 (a0_0 a0_1 : Int) : z3e a0_0 a0_1 =
  (bif (eqB a0_1 1) then (some (PV.bool true)) else (some (PV.bool (eqB a0_1 2)))) :=
 (z8 EE zhe _ rfl).trans (by kernel_rfl)
theorem zt7 (a0_0 a0_1 : Int) : z2f a0_0 a0_1 =
  (some (PV.bool (eqB a0_1 2))) :=
 (z8 EE zhd _ rfl).trans (by kernel_rfl)
theorem z16j (a0 a1 a2 a3 : Int) : zow a0 a1 a2 a3 =
  ((zf9 a0 24).bind fun v72 => (bif (!(PV.toB v72)) then zd4 else ((zf9 a1 59).bind fun v73 => (bif (!(PV.toB v73)) then zd4 else ((zf9 a2 59).bind fun v74 => (bif (!(PV.toB v74)) then zd4 else ((zf9 a3 999999).bind fun v75 => (bif (!(PV.toB v75)) then zd4 else (ztb a0 a1 a2 a3))))))))) :=
 (z8 EE zcq _ rfl).trans (by kernel_rfl)
theorem zxe  : zd4  =
  (some (PV.tuple [(PV.int .i64 0), (PV.int .i64 10)])) :=
 (z7 EE _ _).trans (by kernel_rfl)
theorem zxd (x0 x1 x2 x3 : Int) : ztb x0 x1 x2 x3 =
  (bif (ltB 86400000000 (IntKind.wrap .i64 ((IntKind.wrap .i64 ((IntKind.wrap .i64 ((IntKind.wrap .i64 (x0 * 3600000000)) + (IntKind.wrap .i64 (x1 * 60000000)))) + (IntKind.wrap .i64 (x2 * 1000000)))) + x3))) then (some (PV.tuple [(PV.int .i64 0), (PV.int .i64 10)])) else (some (PV.tuple [(PV.int .i64 (IntKind.wrap .i64 ((IntKind.wrap .i64 ((IntKind.wrap .i64 ((IntKind.wrap .i64 (x0 * 3600000000)) + (IntKind.wrap .i64 (x1 * 60000000)))) + (IntKind.wrap .i64 (x2 * 1000000)))) + x3))), (PV.int .i64 0)]))) :=
 (z7 EE _ _).trans (by kernel_rfl)
theorem z9x (a0 a1 a2 a3 : Int) : z9h a0 a1 a2 a3 =
  (bif (ltB a0 0) then z1e else (bif (ltB 24 a0) then z1e else (bif (ltB a1 0) then z1e else (bif (ltB 59 a1) then z1e else (bif (ltB a2 0) then z1e else (bif (ltB 59 a2) then z1e else (bif (ltB a3 0) then z1e else (bif (ltB 999999 a3) then z1e else (z9y a0 a1 a2 a3))))))))) :=
 (z8 EE z50 _ rfl).trans (by kernel_rfl)
theorem z88  : z1e  =
  (some (PV.tuple [(PV.int .i64 0), (PV.int .i64 10)])) :=
 (z7 EE _ _).trans (by kernel_rfl)
theorem z87 (x0 x1 x2 x3 : Int) : z9y x0 x1 x2 x3 =
  (bif (ltB 86400000000 (IntKind.wrap .i64 ((IntKind.wrap .i64 ((IntKind.wrap .i64 ((IntKind.wrap .i64 ((IntKind.wrap .i64 (x0 * 3600)) + (IntKind.wrap .i64 (x1 * 60)))) + x2)) * 1000000)) + x3))) then (some (PV.tuple [(PV.int .i64 0), (PV.int .i64 10)])) else (some (PV.tuple [(PV.int .i64 (IntKind.wrap .i64 ((IntKind.wrap .i64 ((IntKind.wrap .i64 ((IntKind.wrap .i64 ((IntKind.wrap .i64 (x0 * 3600)) + (IntKind.wrap .i64 (x1 * 60)))) + x2)) * 1000000)) + x3))), (PV.int .i64 0)]))) :=
 (z7 EE _ _).trans (by kernel_rfl)
theorem z98 (a0_0 a0_1 : Int) : z8w a0_0 a0_1 =
  (bif (eqB a0_0 0) then ((z45 a0_1).bind fun v106 => (some (PV.bool (PV.toB v106)))) else (bif (eqB a0_0 (-1)) then (some (PV.bool (eqB a0_1 0))) else (bif (eqB a0_0 1) then (some (PV.bool (eqB a0_1 0))) else (some (PV.bool false))))) :=
 (z8 EE zdh _ rfl).trans (by kernel_rfl)
theorem z1fo (a0 a1 : Int) : num_Sub a0 a1 =
  (bif (!((ltB (IntKind.wrap .i64 (a0 - a1)) a0) == (ltB 0 a1))) then (some (PV.tuple [(PV.int .i64 0), (PV.int .i64 10)])) else (some (PV.tuple [(PV.int .i64 (IntKind.wrap .i64 (a0 - a1))), (PV.int .i64 0)]))) :=
 (z8 EE z13n _ rfl).trans (by kernel_rfl)
theorem zkj (a0 : Int) : zox a0 =
  ((z112 a0).bind fun v107 => (bif (!(PV.toB v107)) then (some (PV.tuple [(PV.int .i64 0), (PV.int .i64 0), (PV.int .i64 0), (PV.int .i64 10)])) else ((zqz a0).bind fun v108 => (some (PV.tuple [(PV.int .i64 (PV.toI (PV.tnth v108 0))), (PV.int .i64 (PV.toI (PV.tnth v108 1))), (PV.int .i64 (PV.toI (PV.tnth v108 2))), (PV.int .i64 0)]))))) :=
 (z8 EE zsy _ rfl).trans (by kernel_rfl)
theorem z1fs (a0 a1 : Int) : z1bl a0 a1 =
  ((z18q a0 1 a1).bind fun v87 => (some (PV.tuple [(PV.int .i64 (PV.toI (PV.tnth v87 0))), (PV.int .i64 (PV.toI (PV.tnth v87 1)))]))) :=
 (z8 EE z13q _ rfl).trans (by kernel_rfl)
theorem z1fr (a0 a1 : Int) : z1bk a0 a1 =
  (bif (eqB a1 0) then (some (PV.tuple [(PV.int .i64 0), (PV.int .i64 11)])) else (bif (eqB a1 (-1)) then (some (PV.tuple [(PV.int .i64 0), (PV.int .i64 0)])) else (bif (eqB a1 0) then none else (bif (!(eqB (Int.tmod a0 a1) 0)) then (bif (!((ltB (Int.tmod a0 a1) 0) == (ltB a1 0))) then (some (PV.tuple [(PV.int .i64 (IntKind.wrap .i64 ((Int.tmod a0 a1) + a1))), (PV.int .i64 0)])) else (some (PV.tuple [(PV.int .i64 (Int.tmod a0 a1)), (PV.int .i64 0)]))) else (some (PV.tuple [(PV.int .i64 (Int.tmod a0 a1)), (PV.int .i64 0)])))))) :=
 (z8 EE z13p _ rfl).trans (by kernel_rfl)
theorem zcz (a0 a1 : Int) : zf9 a0 a1 =
  (bif (leB 0 a0) then (some (PV.bool (leB a0 a1))) else (some (PV.bool false))) :=
 (z8 EE zmb _ rfl).trans (by kernel_rfl)
theorem zfi (a0 : List UInt8) (a1 : List UInt8) : za4 a0 a1 =
  (bif (eqB (((List.length a1) : Nat) : Int) 0) then zag else (bif (eqS a1 a0) then zag else (zfj a0 a1 (((List.length a1) : Nat) : Int)))) :=
 (z8 EE z5f _ rfl).trans (by kernel_rfl)
theorem zc5  : zag  =
  (some (PV.int .i64 0)) :=
 (z7 EE _ _).trans (by kernel_rfl)
theorem zc4 (x0 : List UInt8) (x1 : List UInt8) (x2 : Int) : zfj x0 x1 x2 =
  (bif (eqB x2 1) then ((atS x1 0).bind fun v185 => ((z77 x0 v185).bind fun v186 => (some (PV.int .i64 (PV.toI v186))))) else (bif (leB (((List.length x0) : Nat) : Int) x2) then (some (PV.int .i64 (-1))) else none)) :=
 (z7 EE _ _).trans (by kernel_rfl)
theorem zv9 (a0 : Int) : zic a0 =
  (bif (leB 48 a0) then (bif (leB a0 57) then zva else (zgz a0)) else (zgz a0)) :=
 (z8 EE z8m _ rfl).trans (by kernel_rfl)
theorem zym  : zva  =
  (some (PV.int .i64 1)) :=
 (z7 EE _ _).trans (by kernel_rfl)
theorem zyl (x0 : Int) : zgz x0 =
  (bif (eqB x0 95) then zgy else (bif (ltB 127 x0) then zgy else (bif (leB 97 (orI IntKind.i32 x0 32)) then (bif (leB (orI IntKind.i32 x0 32) 122) then zgy else (zld x0)) else (zld x0)))) :=
 (z7 EE _ _).trans (by kernel_rfl)
theorem zyk  : zgy  =
  (some (PV.int .i64 2)) :=
 (z7 EE _ _).trans (by kernel_rfl)
theorem zyj (x0 : Int) : zld x0 =
  (bif (eqB x0 32) then zbw else (bif (eqB x0 9) then zbw else (bif (eqB x0 10) then zbw else (bif (eqB x0 13) then zbw else (bif (ltB x0 32) then (some (PV.int .i64 4)) else (bif (eqB x0 127) then (some (PV.int .i64 4)) else (some (PV.int .i64 3)))))))) :=
 (z7 EE _ _).trans (by kernel_rfl)
theorem zwn  : zbw  =
  (some (PV.int .i64 0)) :=
 (z7 EE _ _).trans (by kernel_rfl)
theorem z15m (a0 : Bool) (a1_0 a1_1 : Int) : zg2 a0 a1_0 a1_1 =
  (bif (!(eqB a1_0 0)) then (some (PV.tuple [(PV.int .i64 0), (PV.int .i64 10)])) else (bif a0 then (bif (leB a1_1 9223372036854775808) then (some (PV.tuple [(PV.int .i64 (IntKind.wrap .i64 (IntKind.wrap .u64 (0 - a1_1)))), (PV.int .i64 0)])) else (zjz a0 [(PV.int .u64 a1_0), (PV.int .u64 a1_1)] 2)) else (zjz a0 [(PV.int .u64 a1_0), (PV.int .u64 a1_1)] 2))) :=
 (z8 EE zfu _ rfl).trans (by kernel_rfl)
theorem zx9 (x0 : Bool) (x1 : List PV) (x2 : Nat) : zjz x0 x1 x2 =
  (bif x0 then (some (PV.tuple [(PV.int .i64 0), (PV.int .i64 10)])) else ((rdT (tiInt IntKind.u64) x1 1 0).bind fun v61 => (bif (ltB 9223372036854775807 (PV.toI v61)) then (some (PV.tuple [(PV.int .i64 0), (PV.int .i64 10)])) else ((rdT (tiInt IntKind.u64) x1 1 0).bind fun v62 => (some (PV.tuple [(PV.int .i64 (IntKind.wrap .i64 (PV.toI v62))), (PV.int .i64 0)])))))) :=
 (z7 EE _ _).trans (by kernel_rfl)
theorem zpn (a0 a1 : Int) : zk0 a0 a1 =
  ((zsc a0).bind fun v88 => ((zsc a1).bind fun v89 => ((zv6 (PV.toI v88) (PV.toI v89)).bind fun v90 => (some (PV.agg [(PV.int .u64 (PV.toI (PV.tnth v90 0))), (PV.int .u64 (PV.toI (PV.tnth v90 1)))]))))) :=
 (z8 EE zpw _ rfl).trans (by kernel_rfl)
theorem zif (a0 : List UInt8) (a1 : List UInt8) : zeg a0 a1 =
  ((z78 a0 a1).bind fun v134 => (bif (!(PV.toB v134)) then (some (PV.tuple [(PV.str a0), (PV.bool false)])) else ((dropS a0 (((List.length a1) : Nat) : Int)).bind fun v135 => (some (PV.tuple [(PV.str v135), (PV.bool true)]))))) :=
 (z8 EE zbn _ rfl).trans (by kernel_rfl)
theorem zhp (a0 : List UInt8) (a1 : List UInt8) : zdf a0 a1 =
  ((z78 a0 a1).bind fun v149 => (bif (PV.toB v149) then ((dropS a0 (((List.length a1) : Nat) : Int)).bind fun v150 => (some (PV.str v150))) else (some (PV.str a0)))) :=
 (z8 EE zaq _ rfl).trans (by kernel_rfl)
theorem zq4 (a0 : List UInt8) (a1 : List UInt8) (a2 a3 : Int) : zkm a0 a1 a2 a3 =
  (bif (eqB a3 0) then (some (PV.sl 0 [])) else (bif (eqS a1 []) then ((zz0 a0 a3).bind fun v187 => (some (PV.sl 1 (PV.toL v187)))) else (bif (ltB a3 0) then ((zjt a0 a1).bind fun v188 => (zb4 a0 a1 a2 (IntKind.wrap .i64 ((PV.toI v188) + 1)))) else (zb4 a0 a1 a2 a3)))) :=
 (z8 EE z6c _ rfl).trans (by kernel_rfl)
theorem zkx (x0 : List UInt8) (x1 : List UInt8) (x2 x3 : Int) : zb4 x0 x1 x2 x3 =
  (bif (decide ((0 ≤ (minI x3 (IntKind.wrap .i64 ((((List.length x0) : Nat) : Int) + 1)))) ∧ (((minI x3 (IntKind.wrap .i64 ((((List.length x0) : Nat) : Int) + 1))) ≤ (minI x3 (IntKind.wrap .i64 ((((List.length x0) : Nat) : Int) + 1)))) ∧ (((minI x3 (IntKind.wrap .i64 ((((List.length x0) : Nat) : Int) + 1))) * ((16 : Nat) : Int)) ≤ (HPow.hPow (2 : Int) 46))))) then (z7u x0 x1 x2 (IntKind.wrap .i64 ((minI x3 (IntKind.wrap .i64 ((((List.length x0) : Nat) : Int) + 1))) - 1)) 0 (List.replicate (Int.toNat (minI x3 (IntKind.wrap .i64 ((((List.length x0) : Nat) : Int) + 1)))) (PV.str [])) (Int.toNat (minI x3 (IntKind.wrap .i64 ((((List.length x0) : Nat) : Int) + 1))))) else none) :=
 (z7 EE _ _).trans (by kernel_rfl)
theorem zjr (x0 : List UInt8) (x1 : List UInt8) (x2 x3 x4 : Int) (x5 : List PV) (x6 : Nat) : z7u x0 x1 x2 x3 x4 x5 x6 =
  (bif (ltB x4 x3) then ((zjs x0 x1).bind fun v189 => (bif (ltB (PV.toI v189) 0) then (bif (inB 0 x4 (((List.length x5) : Nat) : Int)) then ((stC x5 (Int.toNat x4) 0 [(PV.str x0)]).bind fun v190 => (bif (decide ((0 ≤ (IntKind.wrap .i64 (x4 + 1))) ∧ ((IntKind.wrap .i64 (x4 + 1)) ≤ (((List.length v190) : Nat) : Int)))) then (some (PV.sl 1 (List.take (Int.toNat (IntKind.wrap .i64 (x4 + 1))) v190))) else none)) else none) else ((takeS x0 (IntKind.wrap .i64 ((PV.toI v189) + x2))).bind fun v191 => (bif (inB 0 x4 (((List.length x5) : Nat) : Int)) then ((stC x5 (Int.toNat x4) 0 [(PV.str v191)]).bind fun v192 => ((dropS x0 (IntKind.wrap .i64 ((PV.toI v189) + (((List.length x1) : Nat) : Int)))).bind fun v193 => (z7u v193 x1 x2 x3 (IntKind.wrap .i64 (x4 + 1)) v192 x6))) else none)))) else (bif (inB 0 x4 (((List.length x5) : Nat) : Int)) then ((stC x5 (Int.toNat x4) 0 [(PV.str x0)]).bind fun v194 => (bif (decide ((0 ≤ (IntKind.wrap .i64 (x4 + 1))) ∧ ((IntKind.wrap .i64 (x4 + 1)) ≤ (((List.length v194) : Nat) : Int)))) then (some (PV.sl 1 (List.take (Int.toNat (IntKind.wrap .i64 (x4 + 1))) v194))) else none)) else none)) :=
 (z7 EE _ _).trans (by kernel_rfl)
theorem zl8 (a0 : Int) : zba a0 =
  ((zab (IntKind.wrap .i64 (a0 - 2000)) 400).bind fun v112 => (z4k a0 (IntKind.wrap .i64 ((PV.toI v112) * 146097)) 0)) :=
 (z8 EE z6k _ rfl).trans (by kernel_rfl)
theorem zb0 (x0 x1 x2 : Int) : z4k x0 x1 x2 =
  ((z4q (IntKind.wrap .i64 (x0 - 2000)) 400).bind fun v113 => (bif (ltB x2 (PV.toI v113)) then ((z7h (IntKind.wrap .i64 (2000 + x2))).bind fun v114 => (bif (PV.toB v114) then (z4k x0 (IntKind.wrap .i64 ((IntKind.wrap .i64 (x1 + 365)) + 1)) (IntKind.wrap .i64 (x2 + 1))) else (z4k x0 (IntKind.wrap .i64 (x1 + 365)) (IntKind.wrap .i64 (x2 + 1))))) else (some (PV.int .i64 x1)))) :=
 (z7 EE _ _).trans (by kernel_rfl)
theorem zpa (a0 : Int) : ze6 a0 =
  ((zgg).bind fun v63 => (bif (leB (PV.toI v63) a0) then ((zhi).bind fun v64 => (some (PV.bool (leB a0 (PV.toI v64))))) else (some (PV.bool false)))) :=
 (z8 EE zfn _ rfl).trans (by kernel_rfl)
theorem zp7 (a0 a1 : Int) : zab a0 a1 =
  (bif (eqB a1 0) then none else (bif (eqB a1 0) then none else (bif (ltB (Int.tmod a0 a1) 0) then (some (PV.int .i64 (IntKind.wrap .i64 ((IntKind.wrap .i64 (Int.tdiv a0 a1)) - 1)))) else (some (PV.int .i64 (IntKind.wrap .i64 (Int.tdiv a0 a1))))))) :=
 (z8 EE zfm _ rfl).trans (by kernel_rfl)
theorem zp6 (a0 a1 : Int) : z4q a0 a1 =
  (bif (eqB a1 0) then none else (bif (ltB (Int.tmod a0 a1) 0) then (some (PV.int .i64 (IntKind.wrap .i64 ((Int.tmod a0 a1) + a1)))) else (some (PV.int .i64 (Int.tmod a0 a1))))) :=
 (z8 EE zfl _ rfl).trans (by kernel_rfl)
theorem z14d (a0 : List UInt8) (a1 : List PV) : ztt a0 a1 =
  (bif (ltB (((List.length a0) : Nat) : Int) 3) then (some (PV.int .i64 (-1))) else ((z8d a1 (PV.func (Go.Fn.func z6b) [] [(PV.ref [(PV.str a0)] 0)])).bind fun v151 => (some (PV.int .i64 (PV.toI v151))))) :=
 (z8 EE zsk _ rfl).trans (by kernel_rfl)
theorem z12h (a0 a1 : Int) : zki a0 a1 =
  (bif (eqB a1 0) then none else (bif (eqB a1 0) then none else (bif (ltB (Int.tmod a0 a1) 0) then (some (PV.tuple [(PV.int .i64 (IntKind.wrap .i64 ((IntKind.wrap .i64 (Int.tdiv a0 a1)) - 1))), (PV.int .i64 (IntKind.wrap .i64 ((Int.tmod a0 a1) + a1)))])) else (some (PV.tuple [(PV.int .i64 (IntKind.wrap .i64 (Int.tdiv a0 a1))), (PV.int .i64 (Int.tmod a0 a1))]))))) :=
 (z8 EE zpy _ rfl).trans (by kernel_rfl)
theorem zkf (a0 : List UInt8) : zaj a0 =
  (z43 a0 0 0 0) :=
 (z8 EE z2c _ rfl).trans (by kernel_rfl)
theorem z73 (x0 : List UInt8) (x1 x2 x3 : Int) : z43 x0 x1 x2 x3 =
  (bif (ltB x3 (((List.length x0) : Nat) : Int)) then ((atS x0 x3).bind fun v115 => ((zb8 v115).bind fun v116 => (bif (!(PV.toB v116)) then (some (PV.tuple [(PV.int .i64 0), (PV.int .i64 13)])) else ((atS x0 x3).bind fun v117 => (bif (eqB x2 0) then (bif (ltB 922337203685477580 x1) then (z86 x0 x1 x3 (IntKind.wrap .i64 (IntKind.wrap .u8 (v117 - 48)))) else (bif (ltB (IntKind.wrap .i64 (9223372036854775807 - (IntKind.wrap .i64 (IntKind.wrap .u8 (v117 - 48))))) (IntKind.wrap .i64 (10 * x1))) then (z86 x0 x1 x3 (IntKind.wrap .i64 (IntKind.wrap .u8 (v117 - 48)))) else (z5a x0 x1 x2 x3 (IntKind.wrap .i64 (IntKind.wrap .u8 (v117 - 48)))))) else (z5a x0 x1 x2 x3 (IntKind.wrap .i64 (IntKind.wrap .u8 (v117 - 48))))))))) else (bif (eqB (((List.length x0) : Nat) : Int) 0) then (some (PV.tuple [(PV.int .i64 0), (PV.int .i64 13)])) else (bif (!(eqB x2 0)) then (some (PV.tuple [(PV.int .i64 0), (PV.int .i64 x2)])) else (some (PV.tuple [(PV.int .i64 x1), (PV.int .i64 0)]))))) :=
 (z7 EE _ _).trans (by kernel_rfl)
theorem zgf (x0 : List UInt8) (x1 x2 x3 : Int) : z86 x0 x1 x2 x3 =
  (z5a x0 x1 10 x2 x3) :=
 (z7 EE _ _).trans (by kernel_rfl)
theorem zge (x0 : List UInt8) (x1 x2 x3 x4 : Int) : z5a x0 x1 x2 x3 x4 =
  (bif (eqB x2 0) then (z8x x0 (IntKind.wrap .i64 ((IntKind.wrap .i64 (10 * x1)) + x4)) x2 x3) else (z8x x0 x1 x2 x3)) :=
 (z7 EE _ _).trans (by kernel_rfl)
theorem zgw (x0 : List UInt8) (x1 x2 x3 : Int) : z8x x0 x1 x2 x3 =
  (z43 x0 x1 x2 (IntKind.wrap .i64 (x3 + 1))) :=
 (z7 EE _ _).trans (by kernel_rfl)
theorem z19q (a0 : Int) : z112 a0 =
  ((z114).bind fun v156 => (bif (leB (PV.toI v156) a0) then ((z142).bind fun v157 => (some (PV.bool (leB a0 (PV.toI v157))))) else (some (PV.bool false)))) :=
 (z8 EE zwd _ rfl).trans (by kernel_rfl)
theorem z12g (a0 : Int) : zqz a0 =
  ((zki (IntKind.wrap .i64 (a0 + 730425)) 146097).bind fun v196 => (bif (leB 10 (IntKind.wrap .i64 (Int.tdiv (IntKind.wrap .i64 ((IntKind.wrap .i64 (5 * (IntKind.wrap .i64 ((IntKind.wrap .i64 ((IntKind.wrap .i64 ((PV.toI (PV.tnth v196 1)) - (IntKind.wrap .i64 ((minI (IntKind.wrap .i64 (Int.tdiv (PV.toI (PV.tnth v196 1)) 36524)) 3) * 36524)))) - (IntKind.wrap .i64 ((IntKind.wrap .i64 (Int.tdiv (IntKind.wrap .i64 ((PV.toI (PV.tnth v196 1)) - (IntKind.wrap .i64 ((minI (IntKind.wrap .i64 (Int.tdiv (PV.toI (PV.tnth v196 1)) 36524)) 3) * 36524)))) 1461)) * 1461)))) - (IntKind.wrap .i64 ((minI (IntKind.wrap .i64 (Int.tdiv (IntKind.wrap .i64 ((IntKind.wrap .i64 ((PV.toI (PV.tnth v196 1)) - (IntKind.wrap .i64 ((minI (IntKind.wrap .i64 (Int.tdiv (PV.toI (PV.tnth v196 1)) 36524)) 3) * 36524)))) - (IntKind.wrap .i64 ((IntKind.wrap .i64 (Int.tdiv (IntKind.wrap .i64 ((PV.toI (PV.tnth v196 1)) - (IntKind.wrap .i64 ((minI (IntKind.wrap .i64 (Int.tdiv (PV.toI (PV.tnth v196 1)) 36524)) 3) * 36524)))) 1461)) * 1461)))) 365)) 3) * 365)))))) + 2)) 153))) then (some (PV.tuple [(PV.int .i64 (IntKind.wrap .i64 ((IntKind.wrap .i64 ((IntKind.wrap .i64 ((IntKind.wrap .i64 ((IntKind.wrap .i64 ((PV.toI (PV.tnth v196 0)) * 400)) + (IntKind.wrap .i64 ((minI (IntKind.wrap .i64 (Int.tdiv (PV.toI (PV.tnth v196 1)) 36524)) 3) * 100)))) + (IntKind.wrap .i64 ((IntKind.wrap .i64 (Int.tdiv (IntKind.wrap .i64 ((PV.toI (PV.tnth v196 1)) - (IntKind.wrap .i64 ((minI (IntKind.wrap .i64 (Int.tdiv (PV.toI (PV.tnth v196 1)) 36524)) 3) * 36524)))) 1461)) * 4)))) + (minI (IntKind.wrap .i64 (Int.tdiv (IntKind.wrap .i64 ((IntKind.wrap .i64 ((PV.toI (PV.tnth v196 1)) - (IntKind.wrap .i64 ((minI (IntKind.wrap .i64 (Int.tdiv (PV.toI (PV.tnth v196 1)) 36524)) 3) * 36524)))) - (IntKind.wrap .i64 ((IntKind.wrap .i64 (Int.tdiv (IntKind.wrap .i64 ((PV.toI (PV.tnth v196 1)) - (IntKind.wrap .i64 ((minI (IntKind.wrap .i64 (Int.tdiv (PV.toI (PV.tnth v196 1)) 36524)) 3) * 36524)))) 1461)) * 1461)))) 365)) 3))) + 1))), (PV.int .i64 (IntKind.wrap .i64 ((IntKind.wrap .i64 (Int.tdiv (IntKind.wrap .i64 ((IntKind.wrap .i64 (5 * (IntKind.wrap .i64 ((IntKind.wrap .i64 ((IntKind.wrap .i64 ((PV.toI (PV.tnth v196 1)) - (IntKind.wrap .i64 ((minI (IntKind.wrap .i64 (Int.tdiv (PV.toI (PV.tnth v196 1)) 36524)) 3) * 36524)))) - (IntKind.wrap .i64 ((IntKind.wrap .i64 (Int.tdiv (IntKind.wrap .i64 ((PV.toI (PV.tnth v196 1)) - (IntKind.wrap .i64 ((minI (IntKind.wrap .i64 (Int.tdiv (PV.toI (PV.tnth v196 1)) 36524)) 3) * 36524)))) 1461)) * 1461)))) - (IntKind.wrap .i64 ((minI (IntKind.wrap .i64 (Int.tdiv (IntKind.wrap .i64 ((IntKind.wrap .i64 ((PV.toI (PV.tnth v196 1)) - (IntKind.wrap .i64 ((minI (IntKind.wrap .i64 (Int.tdiv (PV.toI (PV.tnth v196 1)) 36524)) 3) * 36524)))) - (IntKind.wrap .i64 ((IntKind.wrap .i64 (Int.tdiv (IntKind.wrap .i64 ((PV.toI (PV.tnth v196 1)) - (IntKind.wrap .i64 ((minI (IntKind.wrap .i64 (Int.tdiv (PV.toI (PV.tnth v196 1)) 36524)) 3) * 36524)))) 1461)) * 1461)))) 365)) 3) * 365)))))) + 2)) 153)) - 9))), (PV.int .i64 (IntKind.wrap .i64 ((IntKind.wrap .i64 ((IntKind.wrap .i64 ((IntKind.wrap .i64 ((IntKind.wrap .i64 ((PV.toI (PV.tnth v196 1)) - (IntKind.wrap .i64 ((minI (IntKind.wrap .i64 (Int.tdiv (PV.toI (PV.tnth v196 1)) 36524)) 3) * 36524)))) - (IntKind.wrap .i64 ((IntKind.wrap .i64 (Int.tdiv (IntKind.wrap .i64 ((PV.toI (PV.tnth v196 1)) - (IntKind.wrap .i64 ((minI (IntKind.wrap .i64 (Int.tdiv (PV.toI (PV.tnth v196 1)) 36524)) 3) * 36524)))) 1461)) * 1461)))) - (IntKind.wrap .i64 ((minI (IntKind.wrap .i64 (Int.tdiv (IntKind.wrap .i64 ((IntKind.wrap .i64 ((PV.toI (PV.tnth v196 1)) - (IntKind.wrap .i64 ((minI (IntKind.wrap .i64 (Int.tdiv (PV.toI (PV.tnth v196 1)) 36524)) 3) * 36524)))) - (IntKind.wrap .i64 ((IntKind.wrap .i64 (Int.tdiv (IntKind.wrap .i64 ((PV.toI (PV.tnth v196 1)) - (IntKind.wrap .i64 ((minI (IntKind.wrap .i64 (Int.tdiv (PV.toI (PV.tnth v196 1)) 36524)) 3) * 36524)))) 1461)) * 1461)))) 365)) 3) * 365)))) - (IntKind.wrap .i64 (Int.tdiv (IntKind.wrap .i64 ((IntKind.wrap .i64 (153 * (IntKind.wrap .i64 (Int.tdiv (IntKind.wrap .i64 ((IntKind.wrap .i64 (5 * (IntKind.wrap .i64 ((IntKind.wrap .i64 ((IntKind.wrap .i64 ((PV.toI (PV.tnth v196 1)) - (IntKind.wrap .i64 ((minI (IntKind.wrap .i64 (Int.tdiv (PV.toI (PV.tnth v196 1)) 36524)) 3) * 36524)))) - (IntKind.wrap .i64 ((IntKind.wrap .i64 (Int.tdiv (IntKind.wrap .i64 ((PV.toI (PV.tnth v196 1)) - (IntKind.wrap .i64 ((minI (IntKind.wrap .i64 (Int.tdiv (PV.toI (PV.tnth v196 1)) 36524)) 3) * 36524)))) 1461)) * 1461)))) - (IntKind.wrap .i64 ((minI (IntKind.wrap .i64 (Int.tdiv (IntKind.wrap .i64 ((IntKind.wrap .i64 ((PV.toI (PV.tnth v196 1)) - (IntKind.wrap .i64 ((minI (IntKind.wrap .i64 (Int.tdiv (PV.toI (PV.tnth v196 1)) 36524)) 3) * 36524)))) - (IntKind.wrap .i64 ((IntKind.wrap .i64 (Int.tdiv (IntKind.wrap .i64 ((PV.toI (PV.tnth v196 1)) - (IntKind.wrap .i64 ((minI (IntKind.wrap .i64 (Int.tdiv (PV.toI (PV.tnth v196 1)) 36524)) 3) * 36524)))) 1461)) * 1461)))) 365)) 3) * 365)))))) + 2)) 153)))) + 2)) 5)))) + 1)))])) else (some (PV.tuple [(PV.int .i64 (IntKind.wrap .i64 ((IntKind.wrap .i64 ((IntKind.wrap .i64 ((IntKind.wrap .i64 ((PV.toI (PV.tnth v196 0)) * 400)) + (IntKind.wrap .i64 ((minI (IntKind.wrap .i64 (Int.tdiv (PV.toI (PV.tnth v196 1)) 36524)) 3) * 100)))) + (IntKind.wrap .i64 ((IntKind.wrap .i64 (Int.tdiv (IntKind.wrap .i64 ((PV.toI (PV.tnth v196 1)) - (IntKind.wrap .i64 ((minI (IntKind.wrap .i64 (Int.tdiv (PV.toI (PV.tnth v196 1)) 36524)) 3) * 36524)))) 1461)) * 4)))) + (minI (IntKind.wrap .i64 (Int.tdiv (IntKind.wrap .i64 ((IntKind.wrap .i64 ((PV.toI (PV.tnth v196 1)) - (IntKind.wrap .i64 ((minI (IntKind.wrap .i64 (Int.tdiv (PV.toI (PV.tnth v196 1)) 36524)) 3) * 36524)))) - (IntKind.wrap .i64 ((IntKind.wrap .i64 (Int.tdiv (IntKind.wrap .i64 ((PV.toI (PV.tnth v196 1)) - (IntKind.wrap .i64 ((minI (IntKind.wrap .i64 (Int.tdiv (PV.toI (PV.tnth v196 1)) 36524)) 3) * 36524)))) 1461)) * 1461)))) 365)) 3)))), (PV.int .i64 (IntKind.wrap .i64 ((IntKind.wrap .i64 (Int.tdiv (IntKind.wrap .i64 ((IntKind.wrap .i64 (5 * (IntKind.wrap .i64 ((IntKind.wrap .i64 ((IntKind.wrap .i64 ((PV.toI (PV.tnth v196 1)) - (IntKind.wrap .i64 ((minI (IntKind.wrap .i64 (Int.tdiv (PV.toI (PV.tnth v196 1)) 36524)) 3) * 36524)))) - (IntKind.wrap .i64 ((IntKind.wrap .i64 (Int.tdiv (IntKind.wrap .i64 ((PV.toI (PV.tnth v196 1)) - (IntKind.wrap .i64 ((minI (IntKind.wrap .i64 (Int.tdiv (PV.toI (PV.tnth v196 1)) 36524)) 3) * 36524)))) 1461)) * 1461)))) - (IntKind.wrap .i64 ((minI (IntKind.wrap .i64 (Int.tdiv (IntKind.wrap .i64 ((IntKind.wrap .i64 ((PV.toI (PV.tnth v196 1)) - (IntKind.wrap .i64 ((minI (IntKind.wrap .i64 (Int.tdiv (PV.toI (PV.tnth v196 1)) 36524)) 3) * 36524)))) - (IntKind.wrap .i64 ((IntKind.wrap .i64 (Int.tdiv (IntKind.wrap .i64 ((PV.toI (PV.tnth v196 1)) - (IntKind.wrap .i64 ((minI (IntKind.wrap .i64 (Int.tdiv (PV.toI (PV.tnth v196 1)) 36524)) 3) * 36524)))) 1461)) * 1461)))) 365)) 3) * 365)))))) + 2)) 153)) + 3))), (PV.int .i64 (IntKind.wrap .i64 ((IntKind.wrap .i64 ((IntKind.wrap .i64 ((IntKind.wrap .i64 ((IntKind.wrap .i64 ((PV.toI (PV.tnth v196 1)) - (IntKind.wrap .i64 ((minI (IntKind.wrap .i64 (Int.tdiv (PV.toI (PV.tnth v196 1)) 36524)) 3) * 36524)))) - (IntKind.wrap .i64 ((IntKind.wrap .i64 (Int.tdiv (IntKind.wrap .i64 ((PV.toI (PV.tnth v196 1)) - (IntKind.wrap .i64 ((minI (IntKind.wrap .i64 (Int.tdiv (PV.toI (PV.tnth v196 1)) 36524)) 3) * 36524)))) 1461)) * 1461)))) - (IntKind.wrap .i64 ((minI (IntKind.wrap .i64 (Int.tdiv (IntKind.wrap .i64 ((IntKind.wrap .i64 ((PV.toI (PV.tnth v196 1)) - (IntKind.wrap .i64 ((minI (IntKind.wrap .i64 (Int.tdiv (PV.toI (PV.tnth v196 1)) 36524)) 3) * 36524)))) - (IntKind.wrap .i64 ((IntKind.wrap .i64 (Int.tdiv (IntKind.wrap .i64 ((PV.toI (PV.tnth v196 1)) - (IntKind.wrap .i64 ((minI (IntKind.wrap .i64 (Int.tdiv (PV.toI (PV.tnth v196 1)) 36524)) 3) * 36524)))) 1461)) * 1461)))) 365)) 3) * 365)))) - (IntKind.wrap .i64 (Int.tdiv (IntKind.wrap .i64 ((IntKind.wrap .i64 (153 * (IntKind.wrap .i64 (Int.tdiv (IntKind.wrap .i64 ((IntKind.wrap .i64 (5 * (IntKind.wrap .i64 ((IntKind.wrap .i64 ((IntKind.wrap .i64 ((PV.toI (PV.tnth v196 1)) - (IntKind.wrap .i64 ((minI (IntKind.wrap .i64 (Int.tdiv (PV.toI (PV.tnth v196 1)) 36524)) 3) * 36524)))) - (IntKind.wrap .i64 ((IntKind.wrap .i64 (Int.tdiv (IntKind.wrap .i64 ((PV.toI (PV.tnth v196 1)) - (IntKind.wrap .i64 ((minI (IntKind.wrap .i64 (Int.tdiv (PV.toI (PV.tnth v196 1)) 36524)) 3) * 36524)))) 1461)) * 1461)))) - (IntKind.wrap .i64 ((minI (IntKind.wrap .i64 (Int.tdiv (IntKind.wrap .i64 ((IntKind.wrap .i64 ((PV.toI (PV.tnth v196 1)) - (IntKind.wrap .i64 ((minI (IntKind.wrap .i64 (Int.tdiv (PV.toI (PV.tnth v196 1)) 36524)) 3) * 36524)))) - (IntKind.wrap .i64 ((IntKind.wrap .i64 (Int.tdiv (IntKind.wrap .i64 ((PV.toI (PV.tnth v196 1)) - (IntKind.wrap .i64 ((minI (IntKind.wrap .i64 (Int.tdiv (PV.toI (PV.tnth v196 1)) 36524)) 3) * 36524)))) 1461)) * 1461)))) 365)) 3) * 365)))))) + 2)) 153)))) + 2)) 5)))) + 1)))])))) :=
 (z8 EE zpx _ rfl).trans (by kernel_rfl)
theorem z16p (a0 a1 : Int) : zv6 a0 a1 =
  (some (PV.tuple [(PV.int .u64 (IntKind.wrap .u64 ((IntKind.wrap .u64 ((IntKind.wrap .u64 ((shrI IntKind.u64 a0 32) * (shrI IntKind.u64 a1 32))) + (shrI IntKind.u64 (IntKind.wrap .u64 ((IntKind.wrap .u64 ((shrI IntKind.u64 a0 32) * (andI IntKind.u64 a1 4294967295))) + (shrI IntKind.u64 (IntKind.wrap .u64 ((andI IntKind.u64 a0 4294967295) * (andI IntKind.u64 a1 4294967295))) 32))) 32))) + (shrI IntKind.u64 (IntKind.wrap .u64 ((andI IntKind.u64 (IntKind.wrap .u64 ((IntKind.wrap .u64 ((shrI IntKind.u64 a0 32) * (andI IntKind.u64 a1 4294967295))) + (shrI IntKind.u64 (IntKind.wrap .u64 ((andI IntKind.u64 a0 4294967295) * (andI IntKind.u64 a1 4294967295))) 32))) 4294967295) + (IntKind.wrap .u64 ((andI IntKind.u64 a0 4294967295) * (shrI IntKind.u64 a1 32))))) 32)))), (PV.int .u64 (IntKind.wrap .u64 (a0 * a1)))])) :=
 (z8 EE zsz _ rfl).trans (by kernel_rfl)
theorem zie (a0 : List UInt8) (a1 : List UInt8) : z78 a0 a1 =
  (bif (leB (((List.length a1) : Nat) : Int) (((List.length a0) : Nat) : Int)) then ((takeS a0 (((List.length a1) : Nat) : Int)).bind fun v124 => (some (PV.bool (eqS v124 a1)))) else (some (PV.bool false))) :=
 (z8 EE zbm _ rfl).trans (by kernel_rfl)
theorem z18p (a0 a1 a2 : Int) : z18q a0 a1 a2 =
  (bif (eqB a2 0) then (some (PV.tuple [(PV.int .i64 0), (PV.int .i64 11)])) else ((zk0 a0 a1).bind fun v197 => ((zsc a2).bind fun v198 => (bif (leB (PV.toI v198) (PV.toI (PV.nth v197 0))) then (some (PV.tuple [(PV.int .i64 0), (PV.int .i64 10)])) else ((z147 (PV.toI (PV.nth v197 0)) (PV.toI (PV.nth v197 1)) (PV.toI v198)).bind fun v199 => (bif (!(!((!((ltB a0 0) == (ltB a1 0))) == (ltB a2 0)))) then (zh8 (!((!((ltB a0 0) == (ltB a1 0))) == (ltB a2 0))) (PV.toI (PV.tnth v199 0))) else (bif (eqB (PV.toI (PV.tnth v199 1)) 0) then (zh8 (!((!((ltB a0 0) == (ltB a1 0))) == (ltB a2 0))) (PV.toI (PV.tnth v199 0))) else (zsd (PV.toI (PV.tnth v199 0)))))))))) :=
 (z8 EE zeu _ rfl).trans (by kernel_rfl)
theorem zzs (x0 : Bool) (x1 : Int) : zh8 x0 x1 =
  ((zg2 x0 0 x1).bind fun v200 => (some (PV.tuple [(PV.int .i64 (PV.toI (PV.tnth v200 0))), (PV.int .i64 (PV.toI (PV.tnth v200 1)))]))) :=
 (z7 EE _ _).trans (by kernel_rfl)
theorem zxa (x0 : Int) : zsd x0 =
  ((callW EE ([(tiInt IntKind.u64), (tiInt IntKind.u64)]) (PV.func (Go.Fn.func zt0) [] []) [(PV.int .u64 x0), (PV.int .u64 1), (PV.int .u64 0)]).bind fun v201 => ((zg2 true (PV.toI (PV.tnth v201 1)) (PV.toI (PV.tnth v201 0))).bind fun v202 => (some (PV.tuple [(PV.int .i64 (PV.toI (PV.tnth v202 0))), (PV.int .i64 (PV.toI (PV.tnth v202 1)))])))) :=
 (z7 EE _ _).trans (by kernel_rfl)
theorem zbg (a0 : List UInt8) (a1 : Int) : z77 a0 a1 =
  ((callW EE ([(tiInt IntKind.i64)]) (PV.func (Go.Fn.func z71) [] []) [(PV.str a0), (PV.int .u8 a1)]).bind fun v120 => (some (PV.int .i64 (PV.toI v120)))) :=
 (z8 EE zbl _ rfl).trans (by kernel_rfl)
theorem z1bi (a0 : Int) : zsc a0 =
  (bif (ltB a0 0) then (some (PV.int .u64 (IntKind.wrap .u64 (0 - (IntKind.wrap .u64 a0))))) else (some (PV.int .u64 (IntKind.wrap .u64 a0)))) :=
 (z8 EE z10h _ rfl).trans (by kernel_rfl)
theorem zwx (a0 : List UInt8) (a1 : List UInt8) : zjt a0 a1 =
  (bif (eqB (((List.length a1) : Nat) : Int) 0) then ((zkw a0).bind fun v203 => (some (PV.int .i64 (IntKind.wrap .i64 ((PV.toI v203) + 1))))) else (bif (eqB (((List.length a1) : Nat) : Int) 1) then ((atS a1 0).bind fun v204 => ((callW EE ([(tiInt IntKind.i64)]) (PV.func (Go.Fn.func zdn) [] []) [(PV.str a0), (PV.int .u8 v204)]).bind fun v205 => (some (PV.int .i64 (PV.toI v205))))) else (zwy a0 a1 0))) :=
 (z8 EE zb2 _ rfl).trans (by kernel_rfl)
theorem zww (a0 : List UInt8) (a1 : List UInt8) : zjs a0 a1 =
  ((za4 a0 a1).bind fun v121 => (some (PV.int .i64 (PV.toI v121)))) :=
 (z8 EE zkp _ rfl).trans (by kernel_rfl)
theorem zla  : zgg  =
  ((z89 (-4718) 1 1).bind fun v68 => (some (PV.int .i64 (PV.toI v68)))) :=
 (z8 EE zdl _ rfl).trans (by kernel_rfl)
theorem zmm  : zhi  =
  ((z89 294282 12 31).bind fun v131 => (some (PV.int .i64 (PV.toI v131)))) :=
 (z8 EE zez _ rfl).trans (by kernel_rfl)
theorem zc7 (a0 : List PV) (a1 : PV) : z8d a0 a1 =
  (bif ((okOther a1) && true) then (z2p a0 a1 (((List.length a0) : Nat) : Int) 0) else none) :=
 (z8 EE z2r _ rfl).trans (by kernel_rfl)
theorem z5r (x0 : List PV) (x1 : PV) (x2 x3 : Int) : z2p x0 x1 x2 x3 =
  (bif (ltB x3 x2) then ((rdI tiStr x0 x3).bind fun v143 => ((callW EE ([zpg]) x1 [(PV.str (PV.toS v143))]).bind fun v144 => (bif (PV.toB v144) then (some (PV.int .i64 x3)) else (z2p x0 x1 x2 (IntKind.wrap .i64 (x3 + 1)))))) else (some (PV.int .i64 (-1)))) :=
 (z7 EE _ _).trans (by kernel_rfl)
theorem zyn (a0 : List UInt8) (q0 : PV) : zle a0 q0 =
  (bif (okOther q0) then ((rdP tiStr q0 0).bind fun v167 => (bif (leB (((List.length (PV.toS v167)) : Nat) : Int) (((List.length a0) : Nat) : Int)) then ((rdP tiStr q0 0).bind fun v168 => ((rdP tiStr q0 0).bind fun v169 => ((takeS a0 (((List.length (PV.toS v169)) : Nat) : Int)).bind fun v170 => ((zyo (PV.toS v168) v170).bind fun v171 => (some (PV.bool (PV.toB v171))))))) else (some (PV.bool false)))) else none) :=
 (z8 EE z6b _ rfl).trans (by kernel_rfl)
theorem zl4 (a0 : Int) : zb8 a0 =
  (bif (leB 48 a0) then (some (PV.bool (leB a0 57))) else (some (PV.bool false))) :=
 (z8 EE zdi _ rfl).trans (by kernel_rfl)
theorem z12j  : z114  =
  ((zmq (-4718) 1 1).bind fun v172 => (some (PV.int .i64 (PV.toI v172)))) :=
 (z8 EE zq0 _ rfl).trans (by kernel_rfl)
theorem z16l  : z142  =
  ((zmq 294282 12 31).bind fun v208 => (some (PV.int .i64 (PV.toI v208)))) :=
 (z8 EE zsw _ rfl).trans (by kernel_rfl)
theorem z16q (a0 a1 a2 : Int) : z147 a0 a1 a2 =
  (bif (eqB a2 0) then none else (zti a0 a1 a2)) :=
 (z8 EE za9 _ rfl).trans (by kernel_rfl)
theorem zxi (x0 x1 x2 : Int) : zti x0 x1 x2 =
  (bif (leB x2 x0) then none else (zth x0 x1 x2)) :=
 (z7 EE _ _).trans (by kernel_rfl)
theorem zxh (x0 x1 x2 : Int) : zth x0 x1 x2 =
  (bif (eqB x0 0) then (bif (eqB x2 0) then none else (bif (eqB x2 0) then none else (some (PV.tuple [(PV.int .u64 (IntKind.wrap .u64 (Int.tdiv x1 x2))), (PV.int .u64 (Int.tmod x1 x2))])))) else ((zr2 x2).bind fun v123 => (bif (ltB (IntKind.wrap .u64 (PV.toI v123)) 0) then none else (bif (ltB (IntKind.wrap .u64 (PV.toI v123)) 0) then none else (bif (ltB (IntKind.wrap .u64 (64 - (IntKind.wrap .u64 (PV.toI v123)))) 0) then none else (bif (ltB (IntKind.wrap .u64 (PV.toI v123)) 0) then none else (bif (eqB (shrI IntKind.u64 (shlI IntKind.u64 x2 (IntKind.wrap .u64 (PV.toI v123))) 32) 0) then none else (z12k (shlI IntKind.u64 x2 (IntKind.wrap .u64 (PV.toI v123))) (IntKind.wrap .u64 (PV.toI v123)) (shrI IntKind.u64 (shlI IntKind.u64 x2 (IntKind.wrap .u64 (PV.toI v123))) 32) (andI IntKind.u64 (shlI IntKind.u64 x2 (IntKind.wrap .u64 (PV.toI v123))) 4294967295) (orI IntKind.u64 (shlI IntKind.u64 x0 (IntKind.wrap .u64 (PV.toI v123))) (shrI IntKind.u64 x1 (IntKind.wrap .u64 (64 - (IntKind.wrap .u64 (PV.toI v123)))))) (shrI IntKind.u64 (shlI IntKind.u64 x1 (IntKind.wrap .u64 (PV.toI v123))) 32) (andI IntKind.u64 (shlI IntKind.u64 x1 (IntKind.wrap .u64 (PV.toI v123))) 4294967295) (IntKind.wrap .u64 (Int.tdiv (orI IntKind.u64 (shlI IntKind.u64 x0 (IntKind.wrap .u64 (PV.toI v123))) (shrI IntKind.u64 x1 (IntKind.wrap .u64 (64 - (IntKind.wrap .u64 (PV.toI v123)))))) (shrI IntKind.u64 (shlI IntKind.u64 x2 (IntKind.wrap .u64 (PV.toI v123))) 32))) (IntKind.wrap .u64 ((orI IntKind.u64 (shlI IntKind.u64 x0 (IntKind.wrap .u64 (PV.toI v123))) (shrI IntKind.u64 x1 (IntKind.wrap .u64 (64 - (IntKind.wrap .u64 (PV.toI v123)))))) - (IntKind.wrap .u64 ((IntKind.wrap .u64 (Int.tdiv (orI IntKind.u64 (shlI IntKind.u64 x0 (IntKind.wrap .u64 (PV.toI v123))) (shrI IntKind.u64 x1 (IntKind.wrap .u64 (64 - (IntKind.wrap .u64 (PV.toI v123)))))) (shrI IntKind.u64 (shlI IntKind.u64 x2 (IntKind.wrap .u64 (PV.toI v123))) 32))) * (shrI IntKind.u64 (shlI IntKind.u64 x2 (IntKind.wrap .u64 (PV.toI v123))) 32))))))))))))) :=
 (z7 EE _ _).trans (by kernel_rfl)
theorem zs3 (a0 : List PV) : zcd a0 =
  ((takeS a0 2).bind fun v137 => ((z9j v137 (PV.func (Go.Fn.func z34) [] [])).bind fun v138 => (bif (ltB (PV.toI v138) 0) then (some (PV.tuple [(PV.agg [(PV.int .i64 0), (PV.int .i64 0), (PV.int .i64 0)]), (PV.bool false)])) else (bif (ltN 0 (List.length a0)) then ((appL 16 [] a0).bind fun v139 => (bif (leN (List.length v139) 0) then (bif (decide ((0 ≤ (PV.toI v138)) ∧ (((PV.toI v138) ≤ (IntKind.wrap .i64 ((PV.toI v138) + 1))) ∧ (((IntKind.wrap .i64 ((PV.toI v138) + 1)) ≤ (((List.length v139) : Nat) : Int)) ∧ ((((List.length v139) : Nat) : Int) ≤ (((List.length v139) : Nat) : Int)))))) then (bif (eqB (PV.toI v138) (IntKind.wrap .i64 ((PV.toI v138) + 1))) then (zs4 a0 (PV.toI v138) 0 0 0 v139 0) else (bif (decide ((0 ≤ (PV.toI v138)) ∧ ((PV.toI v138) ≤ (((List.length v139) : Nat) : Int)))) then (bif (decide ((0 ≤ (IntKind.wrap .i64 ((PV.toI v138) + 1))) ∧ ((IntKind.wrap .i64 ((PV.toI v138) + 1)) ≤ (((List.length v139) : Nat) : Int)))) then (bif (true && (leN ((0 + (Int.toNat (PV.toI v138))) + (List.length (List.take ((List.length v139) - (Int.toNat (IntKind.wrap .i64 ((PV.toI v138) + 1)))) (List.drop (Int.toNat (IntKind.wrap .i64 ((PV.toI v138) + 1))) v139)))) (List.length v139))) then (bif (decide ((0 ≤ ((((Int.toNat (PV.toI v138)) + (List.length (List.take ((List.length v139) - (Int.toNat (IntKind.wrap .i64 ((PV.toI v138) + 1)))) (List.drop (Int.toNat (IntKind.wrap .i64 ((PV.toI v138) + 1))) v139)))) : Nat) : Int)) ∧ ((((((Int.toNat (PV.toI v138)) + (List.length (List.take ((List.length v139) - (Int.toNat (IntKind.wrap .i64 ((PV.toI v138) + 1)))) (List.drop (Int.toNat (IntKind.wrap .i64 ((PV.toI v138) + 1))) v139)))) : Nat) : Int) ≤ (((List.length v139) : Nat) : Int)) ∧ ((((0 : Nat) : Int) + (((List.length v139) : Nat) : Int)) ≤ (((List.length ((List.take (0 + (Int.toNat (PV.toI v138))) v139) ++ ((List.take ((List.length v139) - (Int.toNat (IntKind.wrap .i64 ((PV.toI v138) + 1)))) (List.drop (Int.toNat (IntKind.wrap .i64 ((PV.toI v138) + 1))) v139)) ++ (List.drop ((0 + (Int.toNat (PV.toI v138))) + (List.length (List.take ((List.length v139) - (Int.toNat (IntKind.wrap .i64 ((PV.toI v138) + 1)))) (List.drop (Int.toNat (IntKind.wrap .i64 ((PV.toI v138) + 1))) v139)))) v139)))) : Nat) : Int))))) then (zp1 a0 (PV.toI v138) 0 ((Int.toNat (PV.toI v138)) + (List.length (List.take ((List.length v139) - (Int.toNat (IntKind.wrap .i64 ((PV.toI v138) + 1)))) (List.drop (Int.toNat (IntKind.wrap .i64 ((PV.toI v138) + 1))) v139)))) 0 0 0 ((List.take (0 + (Int.toNat ((((Int.toNat (PV.toI v138)) + (List.length (List.take ((List.length v139) - (Int.toNat (IntKind.wrap .i64 ((PV.toI v138) + 1)))) (List.drop (Int.toNat (IntKind.wrap .i64 ((PV.toI v138) + 1))) v139)))) : Nat) : Int))) ((List.take (0 + (Int.toNat (PV.toI v138))) v139) ++ ((List.take ((List.length v139) - (Int.toNat (IntKind.wrap .i64 ((PV.toI v138) + 1)))) (List.drop (Int.toNat (IntKind.wrap .i64 ((PV.toI v138) + 1))) v139)) ++ (List.drop ((0 + (Int.toNat (PV.toI v138))) + (List.length (List.take ((List.length v139) - (Int.toNat (IntKind.wrap .i64 ((PV.toI v138) + 1)))) (List.drop (Int.toNat (IntKind.wrap .i64 ((PV.toI v138) + 1))) v139)))) v139)))) ++ ((List.replicate ((Int.toNat (((List.length v139) : Nat) : Int)) - (Int.toNat ((((Int.toNat (PV.toI v138)) + (List.length (List.take ((List.length v139) - (Int.toNat (IntKind.wrap .i64 ((PV.toI v138) + 1)))) (List.drop (Int.toNat (IntKind.wrap .i64 ((PV.toI v138) + 1))) v139)))) : Nat) : Int))) (PV.str [])) ++ (List.drop ((0 + (Int.toNat ((((Int.toNat (PV.toI v138)) + (List.length (List.take ((List.length v139) - (Int.toNat (IntKind.wrap .i64 ((PV.toI v138) + 1)))) (List.drop (Int.toNat (IntKind.wrap .i64 ((PV.toI v138) + 1))) v139)))) : Nat) : Int))) + ((Int.toNat (((List.length v139) : Nat) : Int)) - (Int.toNat ((((Int.toNat (PV.toI v138)) + (List.length (List.take ((List.length v139) - (Int.toNat (IntKind.wrap .i64 ((PV.toI v138) + 1)))) (List.drop (Int.toNat (IntKind.wrap .i64 ((PV.toI v138) + 1))) v139)))) : Nat) : Int)))) ((List.take (0 + (Int.toNat (PV.toI v138))) v139) ++ ((List.take ((List.length v139) - (Int.toNat (IntKind.wrap .i64 ((PV.toI v138) + 1)))) (List.drop (Int.toNat (IntKind.wrap .i64 ((PV.toI v138) + 1))) v139)) ++ (List.drop ((0 + (Int.toNat (PV.toI v138))) + (List.length (List.take ((List.length v139) - (Int.toNat (IntKind.wrap .i64 ((PV.toI v138) + 1)))) (List.drop (Int.toNat (IntKind.wrap .i64 ((PV.toI v138) + 1))) v139)))) v139)))))) 0) else none) else ((appL 16 (List.take (Int.toNat (PV.toI v138)) v139) (List.take ((List.length v139) - (Int.toNat (IntKind.wrap .i64 ((PV.toI v138) + 1)))) (List.drop (Int.toNat (IntKind.wrap .i64 ((PV.toI v138) + 1))) v139))).bind fun v140 => (bif (decide ((0 ≤ (((List.length v140) : Nat) : Int)) ∧ (((((List.length v140) : Nat) : Int) ≤ (((List.length v139) : Nat) : Int)) ∧ ((((List.length v139) : Nat) : Int) ≤ (((List.length v140) : Nat) : Int))))) then (zah a0 (PV.toI v138) 0 0 0 ((List.take (Int.toNat (((List.length v140) : Nat) : Int)) v140) ++ ((List.replicate ((Int.toNat (((List.length v139) : Nat) : Int)) - (Int.toNat (((List.length v140) : Nat) : Int))) (PV.str [])) ++ (List.drop ((Int.toNat (((List.length v140) : Nat) : Int)) + ((Int.toNat (((List.length v139) : Nat) : Int)) - (Int.toNat (((List.length v140) : Nat) : Int)))) v140)))) else none))) else none) else none)) else none) else (bif (decide ((0 ≤ (PV.toI v138)) ∧ (((PV.toI v138) ≤ (IntKind.wrap .i64 ((PV.toI v138) + 1))) ∧ (((IntKind.wrap .i64 ((PV.toI v138) + 1)) ≤ (((List.length v139) : Nat) : Int)) ∧ ((((List.length v139) : Nat) : Int) ≤ (((List.length v139) : Nat) : Int)))))) then (bif (eqB (PV.toI v138) (IntKind.wrap .i64 ((PV.toI v138) + 1))) then (zah a0 (PV.toI v138) 0 0 0 v139) else (bif (decide ((0 ≤ (PV.toI v138)) ∧ ((PV.toI v138) ≤ (((List.length v139) : Nat) : Int)))) then (bif (decide ((0 ≤ (IntKind.wrap .i64 ((PV.toI v138) + 1))) ∧ ((IntKind.wrap .i64 ((PV.toI v138) + 1)) ≤ (((List.length v139) : Nat) : Int)))) then (bif (true && (leN ((0 + (Int.toNat (PV.toI v138))) + (List.length (List.take ((List.length v139) - (Int.toNat (IntKind.wrap .i64 ((PV.toI v138) + 1)))) (List.drop (Int.toNat (IntKind.wrap .i64 ((PV.toI v138) + 1))) v139)))) (List.length v139))) then (bif (decide ((0 ≤ ((((Int.toNat (PV.toI v138)) + (List.length (List.take ((List.length v139) - (Int.toNat (IntKind.wrap .i64 ((PV.toI v138) + 1)))) (List.drop (Int.toNat (IntKind.wrap .i64 ((PV.toI v138) + 1))) v139)))) : Nat) : Int)) ∧ ((((((Int.toNat (PV.toI v138)) + (List.length (List.take ((List.length v139) - (Int.toNat (IntKind.wrap .i64 ((PV.toI v138) + 1)))) (List.drop (Int.toNat (IntKind.wrap .i64 ((PV.toI v138) + 1))) v139)))) : Nat) : Int) ≤ (((List.length v139) : Nat) : Int)) ∧ ((((0 : Nat) : Int) + (((List.length v139) : Nat) : Int)) ≤ (((List.length ((List.take (0 + (Int.toNat (PV.toI v138))) v139) ++ ((List.take ((List.length v139) - (Int.toNat (IntKind.wrap .i64 ((PV.toI v138) + 1)))) (List.drop (Int.toNat (IntKind.wrap .i64 ((PV.toI v138) + 1))) v139)) ++ (List.drop ((0 + (Int.toNat (PV.toI v138))) + (List.length (List.take ((List.length v139) - (Int.toNat (IntKind.wrap .i64 ((PV.toI v138) + 1)))) (List.drop (Int.toNat (IntKind.wrap .i64 ((PV.toI v138) + 1))) v139)))) v139)))) : Nat) : Int))))) then (z5e a0 (PV.toI v138) 0 ((Int.toNat (PV.toI v138)) + (List.length (List.take ((List.length v139) - (Int.toNat (IntKind.wrap .i64 ((PV.toI v138) + 1)))) (List.drop (Int.toNat (IntKind.wrap .i64 ((PV.toI v138) + 1))) v139)))) 0 0 0 ((List.take (0 + (Int.toNat ((((Int.toNat (PV.toI v138)) + (List.length (List.take ((List.length v139) - (Int.toNat (IntKind.wrap .i64 ((PV.toI v138) + 1)))) (List.drop (Int.toNat (IntKind.wrap .i64 ((PV.toI v138) + 1))) v139)))) : Nat) : Int))) ((List.take (0 + (Int.toNat (PV.toI v138))) v139) ++ ((List.take ((List.length v139) - (Int.toNat (IntKind.wrap .i64 ((PV.toI v138) + 1)))) (List.drop (Int.toNat (IntKind.wrap .i64 ((PV.toI v138) + 1))) v139)) ++ (List.drop ((0 + (Int.toNat (PV.toI v138))) + (List.length (List.take ((List.length v139) - (Int.toNat (IntKind.wrap .i64 ((PV.toI v138) + 1)))) (List.drop (Int.toNat (IntKind.wrap .i64 ((PV.toI v138) + 1))) v139)))) v139)))) ++ ((List.replicate ((Int.toNat (((List.length v139) : Nat) : Int)) - (Int.toNat ((((Int.toNat (PV.toI v138)) + (List.length (List.take ((List.length v139) - (Int.toNat (IntKind.wrap .i64 ((PV.toI v138) + 1)))) (List.drop (Int.toNat (IntKind.wrap .i64 ((PV.toI v138) + 1))) v139)))) : Nat) : Int))) (PV.str [])) ++ (List.drop ((0 + (Int.toNat ((((Int.toNat (PV.toI v138)) + (List.length (List.take ((List.length v139) - (Int.toNat (IntKind.wrap .i64 ((PV.toI v138) + 1)))) (List.drop (Int.toNat (IntKind.wrap .i64 ((PV.toI v138) + 1))) v139)))) : Nat) : Int))) + ((Int.toNat (((List.length v139) : Nat) : Int)) - (Int.toNat ((((Int.toNat (PV.toI v138)) + (List.length (List.take ((List.length v139) - (Int.toNat (IntKind.wrap .i64 ((PV.toI v138) + 1)))) (List.drop (Int.toNat (IntKind.wrap .i64 ((PV.toI v138) + 1))) v139)))) : Nat) : Int)))) ((List.take (0 + (Int.toNat (PV.toI v138))) v139) ++ ((List.take ((List.length v139) - (Int.toNat (IntKind.wrap .i64 ((PV.toI v138) + 1)))) (List.drop (Int.toNat (IntKind.wrap .i64 ((PV.toI v138) + 1))) v139)) ++ (List.drop ((0 + (Int.toNat (PV.toI v138))) + (List.length (List.take ((List.length v139) - (Int.toNat (IntKind.wrap .i64 ((PV.toI v138) + 1)))) (List.drop (Int.toNat (IntKind.wrap .i64 ((PV.toI v138) + 1))) v139)))) v139))))))) else none) else ((appL 16 (List.take (Int.toNat (PV.toI v138)) v139) (List.take ((List.length v139) - (Int.toNat (IntKind.wrap .i64 ((PV.toI v138) + 1)))) (List.drop (Int.toNat (IntKind.wrap .i64 ((PV.toI v138) + 1))) v139))).bind fun v141 => (bif (decide ((0 ≤ (((List.length v141) : Nat) : Int)) ∧ (((((List.length v141) : Nat) : Int) ≤ (((List.length v139) : Nat) : Int)) ∧ ((((List.length v139) : Nat) : Int) ≤ (((List.length v141) : Nat) : Int))))) then (zah a0 (PV.toI v138) 0 0 0 ((List.take (Int.toNat (((List.length v141) : Nat) : Int)) v141) ++ ((List.replicate ((Int.toNat (((List.length v139) : Nat) : Int)) - (Int.toNat (((List.length v141) : Nat) : Int))) (PV.str [])) ++ (List.drop ((Int.toNat (((List.length v141) : Nat) : Int)) + ((Int.toNat (((List.length v139) : Nat) : Int)) - (Int.toNat (((List.length v141) : Nat) : Int)))) v141)))) else none))) else none) else none)) else none))) else none)))) :=
 (z8 EE z24 _ rfl).trans (by kernel_rfl)
theorem zcc (x0 : List PV) (x1 : Int) (x2 : Nat) (x3 : Nat) (x4 x5 x6 : Int) (x7 : List PV) : z5e x0 x1 x2 x3 x4 x5 x6 x7 =
  (bif (eqB x1 1) then (bif (inB 0 0 ((x3 : Nat) : Int)) then ((rdT tiStr x7 x2 0).bind fun v148 => ((z4m (PV.toS v148) 3 6).bind fun v149 => (bif (PV.toB v149) then (zfk x0 x1 x2 x3 x4 x5 x6 x7) else (z20 x0 x1 x2 x3 x4 x5 x6 x7)))) else none) else (z20 x0 x1 x2 x3 x4 x5 x6 x7)) :=
 (z7 EE _ _).trans (by kernel_rfl)
theorem zjx (x0 : List PV) (x1 : Int) (x2 : Nat) (x3 : Nat) (x4 x5 x6 : Int) (x7 : List PV) : zfk x0 x1 x2 x3 x4 x5 x6 x7 =
  (z1f x2 x3 0 (IntKind.wrap .i64 (((x3 : Nat) : Int) - 1)) x7 x4 x5 x6 x0 x1 x2 x3 x2 x3) :=
 (z7 EE _ _).trans (by kernel_rfl)
theorem zjw (x0 : List PV) (x1 : Int) (x2 : Nat) (x3 : Nat) (x4 x5 x6 : Int) (x7 : List PV) : z20 x0 x1 x2 x3 x4 x5 x6 x7 =
  (bif (inB 0 1 ((x3 : Nat) : Int)) then ((rdT tiStr x7 (x2 + 1) 0).bind fun v180 => ((z7l (PV.toS v180)).bind fun v181 => ((rdI tiStr x0 x1).bind fun v182 => ((zfz (PV.toS v182)).bind fun v183 => (bif (inB 0 0 ((x3 : Nat) : Int)) then ((rdT tiStr x7 x2 0).bind fun v184 => ((z7l (PV.toS v184)).bind fun v185 => (bif (inB 0 0 ((x3 : Nat) : Int)) then ((rdT tiStr x7 x2 0).bind fun v186 => ((z4m (PV.toS v186) 1 2).bind fun v187 => (bif (PV.toB v187) then (bif (inB 0 1 ((x3 : Nat) : Int)) then ((rdT tiStr x7 (x2 + 1) 0).bind fun v188 => ((z4m (PV.toS v188) 3 6).bind fun v189 => (some (PV.tuple [(PV.agg [(PV.int .i64 (PV.toI v181)), (PV.int .i64 (PV.toI v183)), (PV.int .i64 (PV.toI v185))]), (PV.bool (PV.toB v189))])))) else none) else (some (PV.tuple [(PV.agg [(PV.int .i64 (PV.toI v181)), (PV.int .i64 (PV.toI v183)), (PV.int .i64 (PV.toI v185))]), (PV.bool false)]))))) else none))) else none))))) else none) :=
 (z7 EE _ _).trans (by kernel_rfl)
theorem z36 (x0 : Nat) (x1 : Nat) (x2 x3 : Int) (x4 : List PV) (x5 x6 x7 : Int) (x8 : List PV) (x9 : Int) (x10 : Nat) (x11 : Nat) (x12 : Nat) (x13 : Nat) : z1f x0 x1 x2 x3 x4 x5 x6 x7 x8 x9 x10 x11 x12 x13 =
  (bif (ltB x2 x3) then (bif (inB 0 x3 ((x1 : Nat) : Int)) then ((rdT tiStr x4 (x0 + (Int.toNat x3)) 0).bind fun v202 => (bif (inB 0 x2 ((x1 : Nat) : Int)) then ((rdT tiStr x4 (x0 + (Int.toNat x2)) 0).bind fun v203 => (bif (inB 0 x2 ((x1 : Nat) : Int)) then ((stC x4 (x0 + (Int.toNat x2)) 0 [(PV.str (PV.toS v202))]).bind fun v204 => (bif (inB 0 x3 ((x1 : Nat) : Int)) then ((stC v204 (x0 + (Int.toNat x3)) 0 [(PV.str (PV.toS v203))]).bind fun v205 => (z1f x0 x1 (IntKind.wrap .i64 (x2 + 1)) (IntKind.wrap .i64 (x3 - 1)) v205 x5 x6 x7 x8 x9 x10 x11 x12 x13)) else none)) else none)) else none)) else none) else (z20 x8 x9 x10 x11 x5 x6 x7 x4)) :=
 (z7 EE _ _).trans (by kernel_rfl)
theorem zio (a0 : List PV) (a1 : PV) : z9j a0 a1 =
  (bif ((okOther a1) && true) then (z81 a0 a1 (((List.length a0) : Nat) : Int) 0) else none) :=
 (z8 EE z59 _ rfl).trans (by kernel_rfl)
theorem z65 (x0 : List PV) (x1 : PV) (x2 x3 : Int) : z81 x0 x1 x2 x3 =
  (bif (ltB x3 x2) then ((rdI tiStr x0 x3).bind fun v150 => ((callW EE ([zpg]) x1 [(PV.str (PV.toS v150))]).bind fun v151 => (bif (PV.toB v151) then (some (PV.int .i64 x3)) else (z81 x0 x1 x2 (IntKind.wrap .i64 (x3 + 1)))))) else (some (PV.int .i64 (-1)))) :=
 (z7 EE _ _).trans (by kernel_rfl)
theorem zp2 (a0 : List UInt8) : zip a0 =
  ((zfz a0).bind fun v173 => (some (PV.bool (ltB 0 (PV.toI v173))))) :=
 (z8 EE z34 _ rfl).trans (by kernel_rfl)
theorem zs2 (a0 : List UInt8) : zcb a0 =
  ((takeS a0 4).bind fun v206 => ((z7l v206).bind fun v207 => ((subS a0 4 6).bind fun v208 => ((z7l v208).bind fun v209 => ((dropS a0 6).bind fun v210 => ((z7l v210).bind fun v211 => (some (PV.tuple [(PV.agg [(PV.int .i64 (PV.toI v207)), (PV.int .i64 (PV.toI v209)), (PV.int .i64 (PV.toI v211))]), (PV.bool true)])))))))) :=
 (z8 EE zhc _ rfl).trans (by kernel_rfl)
theorem zs1 (a0_0 : List PV) (a0_1 : Int) : zca a0_0 a0_1 =
  ((rdI tiStr a0_0 0).bind fun v152 => ((rdI tiStr a0_0 1).bind fun v153 => ((rdI tiStr a0_0 2).bind fun v154 => ((rdI tiStr a0_0 0).bind fun v155 => ((z4m (PV.toS v155) 3 6).bind fun v156 => (bif (PV.toB v156) then (z57 (PV.toS v152) (PV.toS v153) (PV.toS v154) 0 0 0) else (bif (eqB a0_1 0) then (z57 (PV.toS v152) (PV.toS v153) (PV.toS v154) 0 0 0) else (zh4 (PV.toS v152) (PV.toS v153) (PV.toS v154) a0_0 a0_1 0 0 0)))))))) :=
 (z8 EE z7b _ rfl).trans (by kernel_rfl)
theorem zly (x0 : List UInt8) (x1 : List UInt8) (x2 : List UInt8) (x3 x4 x5 : Int) : z57 x0 x1 x2 x3 x4 x5 =
  ((zzg x0).bind fun v157 => ((z7l x1).bind fun v158 => ((z7l x2).bind fun v159 => ((z4m x1 1 2).bind fun v160 => (bif (PV.toB v160) then ((z4m x2 1 2).bind fun v161 => (bif (PV.toB v161) then ((z4m x0 1 6).bind fun v162 => (some (PV.tuple [(PV.agg [(PV.int .i64 (PV.toI v157)), (PV.int .i64 (PV.toI v158)), (PV.int .i64 (PV.toI v159))]), (PV.bool (PV.toB v162))]))) else (some (PV.tuple [(PV.agg [(PV.int .i64 (PV.toI v157)), (PV.int .i64 (PV.toI v158)), (PV.int .i64 (PV.toI v159))]), (PV.bool false)])))) else (some (PV.tuple [(PV.agg [(PV.int .i64 (PV.toI v157)), (PV.int .i64 (PV.toI v158)), (PV.int .i64 (PV.toI v159))]), (PV.bool false)]))))))) :=
 (z7 EE _ _).trans (by kernel_rfl)
theorem zlz (x0 : List UInt8) (x1 : List UInt8) (x2 : List UInt8) (x3 : List PV) (x4 x5 x6 x7 : Int) : zh4 x0 x1 x2 x3 x4 x5 x6 x7 =
  (bif (eqB x4 1) then (z57 x2 x1 x0 x5 x6 x7) else ((rdI tiStr x3 2).bind fun v163 => ((rdI tiStr x3 0).bind fun v164 => ((rdI tiStr x3 1).bind fun v165 => (z57 (PV.toS v163) (PV.toS v164) (PV.toS v165) x5 x6 x7))))) :=
 (z7 EE _ _).trans (by kernel_rfl)
theorem z18a (a0 : List UInt8) : zzg a0 =
  ((z7l a0).bind fun v174 => ((z4m a0 3 6).bind fun v175 => (bif (PV.toB v175) then (some (PV.int .i64 (PV.toI v174))) else ((z4m a0 1 2).bind fun v176 => (bif (!(PV.toB v176)) then (some (PV.int .i64 0)) else (bif (ltB (PV.toI v174) 70) then (some (PV.int .i64 (IntKind.wrap .i64 (2000 + (PV.toI v174))))) else (some (PV.int .i64 (IntKind.wrap .i64 (1900 + (PV.toI v174))))))))))) :=
 (z8 EE zw9 _ rfl).trans (by kernel_rfl)
end Dv
