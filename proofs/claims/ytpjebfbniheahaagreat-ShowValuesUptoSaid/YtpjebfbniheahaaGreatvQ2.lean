/- The seat's functions, as equations. -/
import Derived.Test.YtpjebfbniheahaaGreatvQ1
import Derived.Test.YtpjebfbniheahaaGreatvL1
set_option linter.unusedVariables false
set_option linter.unusedSimpArgs false
set_option maxRecDepth 100000
set_option linter.unusedVariables false
namespace Dv
open Go
noncomputable def zb7 (a0_0:Int) (a0_1:Bool) (a0_2 a0_3:Int) (a0_4:List UInt8) (a0_5 a0_6 a0_7 a0_8 a0_9 a0_10 a0_11 a0_12:Int) (a1_0:List UInt8) (a1_1 a1_2:Int) (a1_3:Bool) (a1_4:List UInt8) (a1_5:List PV) (a1_6:Bool) (a1_7 a1_8 a1_9 a1_10 a1_11 a1_12 a1_13 a1_14 a1_15:Int) (a1_16:List UInt8) (a1_17 a1_18 a1_19 a1_20 a1_21 a1_22 a1_23:Int) (a1_24:List UInt8) (a2_0 a2_1 a2_2:Int):Option PV:=callF EE z86 [(.agg [(.int .i64 a0_0),(.bool a0_1),(.int .i64 a0_2),(.int .i64 a0_3),(.str a0_4),(.int .i64 a0_5),(.int .i64 a0_6),(.int .i64 a0_7),(.int .i64 a0_8),(.int .i64 a0_9),(.int .i64 a0_10),(.int .i64 a0_11),(.int .i64 a0_12)]),(.agg [(.str a1_0),(.int .i64 a1_1),(.int .i64 a1_2),(.bool a1_3),(.str a1_4),(.sl 4 a1_5),(.bool a1_6),(.int .i64 a1_7),(.int .i64 a1_8),(.int .i64 a1_9),(.int .i64 a1_10),(.int .i64 a1_11),(.int .i64 a1_12),(.int .i64 a1_13),(.int .u8 a1_14),(.int .i64 a1_15),(.str a1_16),(.int .i64 a1_17),(.int .i64 a1_18),(.int .i64 a1_19),(.int .i64 a1_20),(.int .i64 a1_21),(.int .u8 a1_22),(.int .i64 a1_23),(.str a1_24)]),(.agg [(.int .i64 a2_0),(.int .i64 a2_1),(.int .i64 a2_2)])]
noncomputable def z1ft (a0_0 a0_1:Int) (a1_0:List UInt8) (a1_1 a1_2:Int) (a1_3:Bool) (a1_4:List UInt8) (a1_5:List PV) (a1_6:Bool) (a1_7 a1_8 a1_9 a1_10 a1_11 a1_12 a1_13 a1_14 a1_15:Int) (a1_16:List UInt8) (a1_17 a1_18 a1_19 a1_20 a1_21 a1_22 a1_23:Int) (a1_24:List UInt8) (a2_0 a2_1 a2_2:Int):Option PV:=callF EE z184 [(.agg [(.int .i64 a0_0),(.int .i64 a0_1)]),(.agg [(.str a1_0),(.int .i64 a1_1),(.int .i64 a1_2),(.bool a1_3),(.str a1_4),(.sl 4 a1_5),(.bool a1_6),(.int .i64 a1_7),(.int .i64 a1_8),(.int .i64 a1_9),(.int .i64 a1_10),(.int .i64 a1_11),(.int .i64 a1_12),(.int .i64 a1_13),(.int .u8 a1_14),(.int .i64 a1_15),(.str a1_16),(.int .i64 a1_17),(.int .i64 a1_18),(.int .i64 a1_19),(.int .i64 a1_20),(.int .i64 a1_21),(.int .u8 a1_22),(.int .i64 a1_23),(.str a1_24)]),(.agg [(.int .i64 a2_0),(.int .i64 a2_1),(.int .i64 a2_2)])]
noncomputable def zal (a0_0:List UInt8) (a0_1 a0_2:Int) (a0_3:Bool) (a0_4:List UInt8) (a0_5:List PV) (a0_6:Bool) (a0_7 a0_8 a0_9 a0_10 a0_11 a0_12 a0_13 a0_14 a0_15:Int) (a0_16:List UInt8) (a0_17 a0_18 a0_19 a0_20 a0_21 a0_22 a0_23:Int) (a0_24:List UInt8):Option PV:=callF EE zd4 [(.agg [(.str a0_0),(.int .i64 a0_1),(.int .i64 a0_2),(.bool a0_3),(.str a0_4),(.sl 4 a0_5),(.bool a0_6),(.int .i64 a0_7),(.int .i64 a0_8),(.int .i64 a0_9),(.int .i64 a0_10),(.int .i64 a0_11),(.int .i64 a0_12),(.int .i64 a0_13),(.int .u8 a0_14),(.int .i64 a0_15),(.str a0_16),(.int .i64 a0_17),(.int .i64 a0_18),(.int .i64 a0_19),(.int .i64 a0_20),(.int .i64 a0_21),(.int .u8 a0_22),(.int .i64 a0_23),(.str a0_24)])]
noncomputable abbrev zg0:List TI:=funTI EE z4p
noncomputable def zfx (a0_0 a0_1:Int) (a1_0:List UInt8) (a1_1 a1_2:Int) (a1_3:Bool) (a1_4:List UInt8) (a1_5:List PV) (a1_6:Bool) (a1_7 a1_8 a1_9 a1_10 a1_11 a1_12 a1_13 a1_14 a1_15:Int) (a1_16:List UInt8) (a1_17 a1_18 a1_19 a1_20 a1_21 a1_22 a1_23:Int) (a1_24:List UInt8) (a2_0 a2_1 a2_2:Int):Option PV:=callF EE z4p [(.agg [(.int .i64 a0_0),(.int .i64 a0_1)]),(.agg [(.str a1_0),(.int .i64 a1_1),(.int .i64 a1_2),(.bool a1_3),(.str a1_4),(.sl 4 a1_5),(.bool a1_6),(.int .i64 a1_7),(.int .i64 a1_8),(.int .i64 a1_9),(.int .i64 a1_10),(.int .i64 a1_11),(.int .i64 a1_12),(.int .i64 a1_13),(.int .u8 a1_14),(.int .i64 a1_15),(.str a1_16),(.int .i64 a1_17),(.int .i64 a1_18),(.int .i64 a1_19),(.int .i64 a1_20),(.int .i64 a1_21),(.int .u8 a1_22),(.int .i64 a1_23),(.str a1_24)]),(.agg [(.int .i64 a2_0),(.int .i64 a2_1),(.int .i64 a2_2)])]
noncomputable def z4q  : Option PV :=
 runW EE zg0 (za EE z4p 2 (mkT 80 []) [])
noncomputable def zhr (x0 x1:Int) (x2:List UInt8) (x3 x4:Int) (x5:Bool) (x6:List UInt8) (x7:List PV) (x8:Bool) (x9 xA xB xC xD xE xF xG xH:Int) (xI:List UInt8) (xJ xK xL xM xN xO xP:Int) (xQ:List UInt8) (xR xS xT:Int):Option PV :=
 runW EE zg0 (za EE z4p 3 (mkT 80 [(3,(.ptr 0 0)),(4,(.ptr 1 0)),(5,(.ptr 2 0))]) [(.cells z5a [(.int .i64 x0),(.int .i64 x1)] false),(.cells zq [(.str x2),(.int .i64 x3),(.int .i64 x4),(.bool x5),(.str x6),(.sl 4 x7),(.bool x8),(.int .i64 x9),(.int .i64 xA),(.int .i64 xB),(.int .i64 xC),(.int .i64 xD),(.int .i64 xE),(.int .i64 xF),(.int .u8 xG),(.int .i64 xH),(.str xI),(.int .i64 xJ),(.int .i64 xK),(.int .i64 xL),(.int .i64 xM),(.int .i64 xN),(.int .u8 xO),(.int .i64 xP),(.str xQ)] false),(.cells z2e [(.int .i64 xR),(.int .i64 xS),(.int .i64 xT)] false)])
noncomputable def zak  : Option PV:=callF EE zd3 []
noncomputable abbrev ztr:List TI:=funTI EE zbu
noncomputable def zzd (a0_0:Int) (a0_1:Bool) (a0_2 a0_3:Int) (a0_4:List UInt8) (a0_5 a0_6 a0_7 a0_8 a0_9 a0_10 a0_11 a0_12:Int) (a1_0:List UInt8) (a1_1 a1_2:Int) (a1_3:Bool) (a1_4:List UInt8) (a1_5:List PV) (a1_6:Bool) (a1_7 a1_8 a1_9 a1_10 a1_11 a1_12 a1_13 a1_14 a1_15:Int) (a1_16:List UInt8) (a1_17 a1_18 a1_19 a1_20 a1_21 a1_22 a1_23:Int) (a1_24:List UInt8) (a2_0 a2_1 a2_2:Int):Option PV:=callF EE zbu [(.agg [(.int .i64 a0_0),(.bool a0_1),(.int .i64 a0_2),(.int .i64 a0_3),(.str a0_4),(.int .i64 a0_5),(.int .i64 a0_6),(.int .i64 a0_7),(.int .i64 a0_8),(.int .i64 a0_9),(.int .i64 a0_10),(.int .i64 a0_11),(.int .i64 a0_12)]),(.agg [(.str a1_0),(.int .i64 a1_1),(.int .i64 a1_2),(.bool a1_3),(.str a1_4),(.sl 4 a1_5),(.bool a1_6),(.int .i64 a1_7),(.int .i64 a1_8),(.int .i64 a1_9),(.int .i64 a1_10),(.int .i64 a1_11),(.int .i64 a1_12),(.int .i64 a1_13),(.int .u8 a1_14),(.int .i64 a1_15),(.str a1_16),(.int .i64 a1_17),(.int .i64 a1_18),(.int .i64 a1_19),(.int .i64 a1_20),(.int .i64 a1_21),(.int .u8 a1_22),(.int .i64 a1_23),(.str a1_24)]),(.agg [(.int .i64 a2_0),(.int .i64 a2_1),(.int .i64 a2_2)])]
noncomputable def zbk  : Option PV :=
 runW EE ztr (za EE zbu 2 (mkT 81 []) [])
noncomputable def zx4 (x0:Int) (x1:Bool) (x2 x3:Int) (x4:List UInt8) (x5 x6 x7 x8 x9 xA xB xC:Int) (xD:List UInt8) (xE xF:Int) (xG:Bool) (xH:List UInt8) (xI:List PV) (xJ:Bool) (xK xL xM xN xO xP xQ xR xS:Int) (xT:List UInt8) (xU xV xW xX xY xZ x36:Int) (x37:List UInt8) (x38 x39 x40:Int):Option PV :=
 runW EE ztr (za EE zbu 3 (mkT 81 [(3,(.ptr 0 0)),(4,(.ptr 1 0)),(5,(.ptr 2 0))]) [(.cells z59 [(.int .i64 x0),(.bool x1),(.int .i64 x2),(.int .i64 x3),(.str x4),(.int .i64 x5),(.int .i64 x6),(.int .i64 x7),(.int .i64 x8),(.int .i64 x9),(.int .i64 xA),(.int .i64 xB),(.int .i64 xC)] false),(.cells zgr [(.str xD),(.int .i64 xE),(.int .i64 xF),(.bool xG),(.str xH),(.sl 4 xI),(.bool xJ),(.int .i64 xK),(.int .i64 xL),(.int .i64 xM),(.int .i64 xN),(.int .i64 xO),(.int .i64 xP),(.int .i64 xQ),(.int .u8 xR),(.int .i64 xS),(.str xT),(.int .i64 xU),(.int .i64 xV),(.int .i64 xW),(.int .i64 xX),(.int .i64 xY),(.int .u8 xZ),(.int .i64 x36),(.str x37)] false),(.cells z2e [(.int .i64 x38),(.int .i64 x39),(.int .i64 x40)] false)])
noncomputable abbrev zbc:List TI:=funTI EE z35
noncomputable def za8 (a0_0:Int) (a0_1:Bool) (a0_2 a0_3:Int) (a0_4:List UInt8) (a0_5 a0_6 a0_7 a0_8 a0_9 a0_10 a0_11 a0_12:Int) (a1_0:List UInt8) (a1_1 a1_2:Int) (a1_3:Bool) (a1_4:List UInt8) (a1_5:List PV) (a1_6:Bool) (a1_7 a1_8 a1_9 a1_10 a1_11 a1_12 a1_13 a1_14 a1_15:Int) (a1_16:List UInt8) (a1_17 a1_18 a1_19 a1_20 a1_21 a1_22 a1_23:Int) (a1_24:List UInt8) (a2_0 a2_1 a2_2:Int):Option PV:=callF EE z35 [(.agg [(.int .i64 a0_0),(.bool a0_1),(.int .i64 a0_2),(.int .i64 a0_3),(.str a0_4),(.int .i64 a0_5),(.int .i64 a0_6),(.int .i64 a0_7),(.int .i64 a0_8),(.int .i64 a0_9),(.int .i64 a0_10),(.int .i64 a0_11),(.int .i64 a0_12)]),(.agg [(.str a1_0),(.int .i64 a1_1),(.int .i64 a1_2),(.bool a1_3),(.str a1_4),(.sl 4 a1_5),(.bool a1_6),(.int .i64 a1_7),(.int .i64 a1_8),(.int .i64 a1_9),(.int .i64 a1_10),(.int .i64 a1_11),(.int .i64 a1_12),(.int .i64 a1_13),(.int .u8 a1_14),(.int .i64 a1_15),(.str a1_16),(.int .i64 a1_17),(.int .i64 a1_18),(.int .i64 a1_19),(.int .i64 a1_20),(.int .i64 a1_21),(.int .u8 a1_22),(.int .i64 a1_23),(.str a1_24)]),(.agg [(.int .i64 a2_0),(.int .i64 a2_1),(.int .i64 a2_2)])]
noncomputable def z3a  : Option PV :=
 runW EE zbc (za EE z35 2 (mkT 77 []) [])
noncomputable def zd5 (x0:Int) (x1:Bool) (x2 x3:Int) (x4:List UInt8) (x5 x6 x7 x8 x9 xA xB xC:Int) (xD:List UInt8) (xE xF:Int) (xG:Bool) (xH:List UInt8) (xI:List PV) (xJ:Bool) (xK xL xM xN xO xP xQ xR xS:Int) (xT:List UInt8) (xU xV xW xX xY xZ x36:Int) (x37:List UInt8) (x38 x39 x40:Int):Option PV :=
 runW EE zbc (za EE z35 3 (mkT 77 [(3,(.ptr 0 0)),(4,(.ptr 1 0)),(5,(.ptr 2 0))]) [(.cells z59 [(.int .i64 x0),(.bool x1),(.int .i64 x2),(.int .i64 x3),(.str x4),(.int .i64 x5),(.int .i64 x6),(.int .i64 x7),(.int .i64 x8),(.int .i64 x9),(.int .i64 xA),(.int .i64 xB),(.int .i64 xC)] false),(.cells zq [(.str xD),(.int .i64 xE),(.int .i64 xF),(.bool xG),(.str xH),(.sl 4 xI),(.bool xJ),(.int .i64 xK),(.int .i64 xL),(.int .i64 xM),(.int .i64 xN),(.int .i64 xO),(.int .i64 xP),(.int .i64 xQ),(.int .u8 xR),(.int .i64 xS),(.str xT),(.int .i64 xU),(.int .i64 xV),(.int .i64 xW),(.int .i64 xX),(.int .i64 xY),(.int .u8 xZ),(.int .i64 x36),(.str x37)] false),(.cells z2e [(.int .i64 x38),(.int .i64 x39),(.int .i64 x40)] false)])
noncomputable abbrev zuy:List TI:=funTI EE z5e
noncomputable def zbl (a0_0:Int) (a0_1:Bool) (a0_2 a0_3:Int) (a0_4:List UInt8) (a0_5 a0_6 a0_7 a0_8 a0_9 a0_10 a0_11 a0_12:Int):Option PV:=callF EE z5e [(.agg [(.int .i64 a0_0),(.bool a0_1),(.int .i64 a0_2),(.int .i64 a0_3),(.str a0_4),(.int .i64 a0_5),(.int .i64 a0_6),(.int .i64 a0_7),(.int .i64 a0_8),(.int .i64 a0_9),(.int .i64 a0_10),(.int .i64 a0_11),(.int .i64 a0_12)])]
noncomputable def qk0 (f p:Nat) (T:List PV) (y0:Int) (y1:Bool) (y2 y3:Int) (y4:List UInt8) (y5 y6 y7 y8 y9 y10 y11 y12 y13:Int) (y14:Bool) (y15 y16:Int) (y17:List UInt8) (y18 y19 y20 y21 y22 y23 y24 y25:Int):Option PV:=runW EE zuy (za EE f p T [(.cells z59 [(.int .i64 y0),(.bool y1),(.int .i64 y2),(.int .i64 y3),(.str y4),(.int .i64 y5),(.int .i64 y6),(.int .i64 y7),(.int .i64 y8),(.int .i64 y9),(.int .i64 y10),(.int .i64 y11),(.int .i64 y12)] false),(.cells z59 [(.int .i64 y13),(.bool y14),(.int .i64 y15),(.int .i64 y16),(.str y17),(.int .i64 y18),(.int .i64 y19),(.int .i64 y20),(.int .i64 y21),(.int .i64 y22),(.int .i64 y23),(.int .i64 y24),(.int .i64 y25)] false)])
noncomputable def za4 (x0:Int) (x1:Bool) (x2 x3:Int) (x4:List UInt8) (x5 x6 x7 x8 x9 xA xB xC xD:Int) (xE:Bool) (xF xG:Int) (xH:List UInt8) (xI xJ xK xL xM xN xO xP:Int):Option PV :=
 qk0 z5e 20 (mkT 78 [(1,(.ptr 0 0)),(3,(.ptr 1 0))]) x0 x1 x2 x3 x4 x5 x6 x7 x8 x9 xA xB xC xD xE xF xG xH xI xJ xK xL xM xN xO xP
noncomputable def zhg (x0 x1:Int) (x2:Bool) (x3 x4:Int) (x5:List UInt8) (x6 x7 x8 x9 xA xB xC xD xE:Int) (xF:Bool) (xG xH:Int) (xI:List UInt8) (xJ xK xL xM xN xO xP xQ:Int):Option PV :=
 qk0 z5e 22 (mkT 78 [(1,(.ptr 0 0)),(3,(.ptr 1 0)),(9,(.int .i64 x0))]) x1 x2 x3 x4 x5 x6 x7 x8 x9 xA xB xC xD xE xF xG xH xI xJ xK xL xM xN xO xP xQ
noncomputable abbrev z7i:List TI:=funTI EE z19
noncomputable def z40 (a0_0:Int) (a0_1:Bool) (a0_2 a0_3:Int) (a0_4:List UInt8) (a0_5 a0_6 a0_7 a0_8 a0_9 a0_10 a0_11 a0_12:Int):Option PV:=callF EE z19 [(.agg [(.int .i64 a0_0),(.bool a0_1),(.int .i64 a0_2),(.int .i64 a0_3),(.str a0_4),(.int .i64 a0_5),(.int .i64 a0_6),(.int .i64 a0_7),(.int .i64 a0_8),(.int .i64 a0_9),(.int .i64 a0_10),(.int .i64 a0_11),(.int .i64 a0_12)])]
noncomputable def z4c (x0:Bool) (x1:Int) (x2:Bool) (x3 x4:Int) (x5:List UInt8) (x6 x7 x8 x9 xA xB xC xD:Int):Option PV :=
 runW EE z7i (za EE z19 16 (mkT 65 [(3,(.ptr 0 0)),(4,(.bool x0))]) [(.cells z59 [(.int .i64 x1),(.bool x2),(.int .i64 x3),(.int .i64 x4),(.str x5),(.int .i64 x6),(.int .i64 x7),(.int .i64 x8),(.int .i64 x9),(.int .i64 xA),(.int .i64 xB),(.int .i64 xC),(.int .i64 xD)] false)])
noncomputable def qk1 (f p:Nat) (T:List PV) (y0:Int) (y1:Bool) (y2 y3:Int) (y4:List UInt8) (y5 y6 y7 y8 y9 y10 y11 y12 y13:Int) (y14:Bool) (y15 y16:Int) (y17:List UInt8) (y18 y19 y20 y21 y22 y23 y24 y25:Int):Option PV:=runW EE z7i (za EE f p T [(.cells z59 [(.int .i64 y0),(.bool y1),(.int .i64 y2),(.int .i64 y3),(.str y4),(.int .i64 y5),(.int .i64 y6),(.int .i64 y7),(.int .i64 y8),(.int .i64 y9),(.int .i64 y10),(.int .i64 y11),(.int .i64 y12)] false),(.cells z59 [(.int .i64 y13),(.bool y14),(.int .i64 y15),(.int .i64 y16),(.str y17),(.int .i64 y18),(.int .i64 y19),(.int .i64 y20),(.int .i64 y21),(.int .i64 y22),(.int .i64 y23),(.int .i64 y24),(.int .i64 y25)] false)])
noncomputable def z4b (x0:Int) (x1:Bool) (x2 x3:Int) (x4:List UInt8) (x5 x6 x7 x8 x9 xA xB xC xD:Int) (xE:Bool) (xF xG:Int) (xH:List UInt8) (xI xJ xK xL xM xN xO xP:Int):Option PV :=
 qk1 z19 26 (mkT 65 [(1,(.ptr 0 0)),(3,(.ptr 1 0))]) x0 x1 x2 x3 x4 x5 x6 x7 x8 x9 xA xB xC xD xE xF xG xH xI xJ xK xL xM xN xO xP
noncomputable def z7p (x0 x1:Int) (x2:Bool) (x3 x4:Int) (x5:List UInt8) (x6 x7 x8 x9 xA xB xC xD xE:Int) (xF:Bool) (xG xH:Int) (xI:List UInt8) (xJ xK xL xM xN xO xP xQ:Int):Option PV :=
 qk1 z19 28 (mkT 65 [(1,(.ptr 0 0)),(3,(.ptr 1 0)),(9,(.int .i64 x0))]) x1 x2 x3 x4 x5 x6 x7 x8 x9 xA xB xC xD xE xF xG xH xI xJ xK xL xM xN xO xP xQ
noncomputable def zv9 (a0_0:List UInt8) (a0_1 a0_2:Int) (a0_3:Bool) (a0_4:List UInt8) (a0_5:List PV) (a0_6:Bool) (a0_7 a0_8 a0_9 a0_10 a0_11 a0_12 a0_13 a0_14 a0_15:Int) (a0_16:List UInt8) (a0_17 a0_18 a0_19 a0_20 a0_21 a0_22 a0_23:Int) (a0_24:List UInt8) (a1_0 a1_1:Int):Option PV:=callF EE zu6 [(.agg [(.str a0_0),(.int .i64 a0_1),(.int .i64 a0_2),(.bool a0_3),(.str a0_4),(.sl 4 a0_5),(.bool a0_6),(.int .i64 a0_7),(.int .i64 a0_8),(.int .i64 a0_9),(.int .i64 a0_10),(.int .i64 a0_11),(.int .i64 a0_12),(.int .i64 a0_13),(.int .u8 a0_14),(.int .i64 a0_15),(.str a0_16),(.int .i64 a0_17),(.int .i64 a0_18),(.int .i64 a0_19),(.int .i64 a0_20),(.int .i64 a0_21),(.int .u8 a0_22),(.int .i64 a0_23),(.str a0_24)]),(.agg [(.int .i64 a1_0),(.int .i64 a1_1)])]
noncomputable def zdn (a0_0 a0_1 a0_2:Int):Option PV:=callF EE zxs [(.agg [(.int .i64 a0_0),(.int .i64 a0_1),(.int .i64 a0_2)])]
noncomputable def z5b (a0:Int):Option PV:=callF EE zmu [(.int .i64 a0)]
noncomputable def zim (a0_0:List UInt8) (a0_1 a0_2:Int) (a0_3:Bool) (a0_4:List UInt8) (a0_5:List PV) (a0_6:Bool) (a0_7 a0_8 a0_9 a0_10 a0_11 a0_12 a0_13 a0_14 a0_15:Int) (a0_16:List UInt8) (a0_17 a0_18 a0_19 a0_20 a0_21 a0_22 a0_23:Int) (a0_24:List UInt8) (a1_0 a1_1:Int):Option PV:=callF EE zp8 [(.agg [(.str a0_0),(.int .i64 a0_1),(.int .i64 a0_2),(.bool a0_3),(.str a0_4),(.sl 4 a0_5),(.bool a0_6),(.int .i64 a0_7),(.int .i64 a0_8),(.int .i64 a0_9),(.int .i64 a0_10),(.int .i64 a0_11),(.int .i64 a0_12),(.int .i64 a0_13),(.int .u8 a0_14),(.int .i64 a0_15),(.str a0_16),(.int .i64 a0_17),(.int .i64 a0_18),(.int .i64 a0_19),(.int .i64 a0_20),(.int .i64 a0_21),(.int .u8 a0_22),(.int .i64 a0_23),(.str a0_24)]),(.agg [(.int .i64 a1_0),(.int .i64 a1_1)])]
noncomputable def zlj (a0_0 a0_1 a1_0 a1_1 a1_2:Int):Option PV:=callF EE zua [(.agg [(.int .i64 a0_0),(.int .i64 a0_1)]),(.agg [(.int .i64 a1_0),(.int .i64 a1_1),(.int .i64 a1_2)])]
noncomputable abbrev z19a:List TI:=funTI EE ziz
noncomputable def zt (a0:List PV):Option PV:=callF EE ziz [(.sl 1 a0)]
noncomputable def zek (x0:List PV) (x1 x2:Int) (x3:List PV):Option PV :=
 runW EE z19a (za EE ziz 3 (mkT 23 [(3,(.lall 0)),(6,(.sl 1 x0)),(7,(.int .i64 x1)),(8,(.int .i64 x2))]) [(.row zie 1 x3 0 none)])
noncomputable abbrev zfl:List TI:=funTI EE z6d
noncomputable def zpz (a0:Int):Option PV:=callF EE z6d [(.int .i64 a0)]
noncomputable def zi0 (x0:Int) (x1:List UInt8):Option PV :=
 runW EE zfl (za EE z6d 4 (mkT 52 [(0,(.int .i64 x0)),(4,(.str x1))]) [])
noncomputable def zhz  : Option PV :=
 runW EE zfl (za EE z6d 5 (mkT 52 []) [])
noncomputable def zhy (x0:Int) (x1:List UInt8):Option PV :=
 runW EE zfl (za EE z6d 6 (mkT 52 [(0,(.int .i64 x0)),(4,(.str x1))]) [])
noncomputable def zce (a0_0 a0_1 a0_2 a0_3 a0_4 a0_5 a0_6:Int) (a0_7:List UInt8):Option PV:=callF EE zf4 [(.agg [(.int .i64 a0_0),(.int .i64 a0_1),(.int .i64 a0_2),(.int .i64 a0_3),(.int .i64 a0_4),(.int .u8 a0_5),(.int .i64 a0_6),(.str a0_7)])]
noncomputable def zu (a0_0 a0_1:Int):Option PV:=callF EE z85 [(.agg [(.int .i64 a0_0),(.int .i64 a0_1)])]
noncomputable def z2b (a0_0 a0_1 a0_2:Int):Option PV:=callF EE zcr [(.agg [(.int .i64 a0_0),(.int .i64 a0_1),(.int .i64 a0_2)])]
noncomputable abbrev z2q:List TI:=funTI EE z18
noncomputable def z2c (a0_0:List UInt8) (a0_1 a0_2:Int) (a0_3:Bool) (a0_4:List UInt8) (a0_5:List PV) (a0_6:Bool) (a0_7 a0_8 a0_9 a0_10 a0_11 a0_12 a0_13 a0_14 a0_15:Int) (a0_16:List UInt8) (a0_17 a0_18 a0_19 a0_20 a0_21 a0_22 a0_23:Int) (a0_24:List UInt8):Option PV:=callF EE z18 [(.agg [(.str a0_0),(.int .i64 a0_1),(.int .i64 a0_2),(.bool a0_3),(.str a0_4),(.sl 4 a0_5),(.bool a0_6),(.int .i64 a0_7),(.int .i64 a0_8),(.int .i64 a0_9),(.int .i64 a0_10),(.int .i64 a0_11),(.int .i64 a0_12),(.int .i64 a0_13),(.int .u8 a0_14),(.int .i64 a0_15),(.str a0_16),(.int .i64 a0_17),(.int .i64 a0_18),(.int .i64 a0_19),(.int .i64 a0_20),(.int .i64 a0_21),(.int .u8 a0_22),(.int .i64 a0_23),(.str a0_24)])]
noncomputable def z4z  : Option PV :=
 runW EE z2q (za EE z18 2 (mkT 100 []) [])
noncomputable def zdc (x0:List UInt8) (x1 x2:Int) (x3:Bool) (x4:List UInt8) (x5:List PV) (x6:Bool) (x7 x8 x9 xA xB xC xD xE xF:Int) (xG:List UInt8) (xH xI xJ xK xL xM xN:Int) (xO:List UInt8):Option PV :=
 runW EE z2q (za EE z18 3 (mkT 100 [(1,(.ptr 0 0))]) [(.cells zq [(.str x0),(.int .i64 x1),(.int .i64 x2),(.bool x3),(.str x4),(.sl 4 x5),(.bool x6),(.int .i64 x7),(.int .i64 x8),(.int .i64 x9),(.int .i64 xA),(.int .i64 xB),(.int .i64 xC),(.int .i64 xD),(.int .u8 xE),(.int .i64 xF),(.str xG),(.int .i64 xH),(.int .i64 xI),(.int .i64 xJ),(.int .i64 xK),(.int .i64 xL),(.int .u8 xM),(.int .i64 xN),(.str xO)] false)])
noncomputable def z4y (x0 x1:Int) (x2:List UInt8) (x3 x4:Int) (x5:Bool) (x6:List UInt8) (x7:List PV) (x8:Bool) (x9 xA xB xC xD xE xF xG xH:Int) (xI:List UInt8) (xJ xK xL xM xN xO xP:Int) (xQ:List UInt8):Option PV :=
 runW EE z2q (za EE z18 5 (mkT 100 [(1,(.ptr 0 0)),(3,(.int .i64 x0)),(4,(.int .i64 x1))]) [(.cells zq [(.str x2),(.int .i64 x3),(.int .i64 x4),(.bool x5),(.str x6),(.sl 4 x7),(.bool x8),(.int .i64 x9),(.int .i64 xA),(.int .i64 xB),(.int .i64 xC),(.int .i64 xD),(.int .i64 xE),(.int .i64 xF),(.int .u8 xG),(.int .i64 xH),(.str xI),(.int .i64 xJ),(.int .i64 xK),(.int .i64 xL),(.int .i64 xM),(.int .i64 xN),(.int .u8 xO),(.int .i64 xP),(.str xQ)] false)])
noncomputable def z4x  : Option PV :=
 runW EE z2q (za EE z18 9 (mkT 100 []) [])
noncomputable def zc7 (x0:Int) (x1:List UInt8) (x2 x3:Int) (x4:Bool) (x5:List UInt8) (x6:List PV) (x7:Bool) (x8 x9 xA xB xC xD xE xF xG:Int) (xH:List UInt8) (xI xJ xK xL xM xN xO:Int) (xP:List UInt8) (xQ xR:Int) (xS:Bool) (xT:List UInt8):Option PV :=
 runW EE z2q (za EE z18 10 (mkT 100 [(1,(.ptr 0 0)),(4,(.int .i64 x0)),(5,(.ptr 1 0))]) [(.cells zq [(.str x1),(.int .i64 x2),(.int .i64 x3),(.bool x4),(.str x5),(.sl 4 x6),(.bool x7),(.int .i64 x8),(.int .i64 x9),(.int .i64 xA),(.int .i64 xB),(.int .i64 xC),(.int .i64 xD),(.int .i64 xE),(.int .u8 xF),(.int .i64 xG),(.str xH),(.int .i64 xI),(.int .i64 xJ),(.int .i64 xK),(.int .i64 xL),(.int .i64 xM),(.int .u8 xN),(.int .i64 xO),(.str xP)] false),(.cells zp [(.int .i64 xQ),(.int .i64 xR),(.bool xS),(.str xT)] false)])
noncomputable def z4h (a0:Int):Option PV:=callF EE zg7 [(.int .i64 a0)]
noncomputable abbrev zbe:List TI:=funTI EE z37
noncomputable def zaa (a0_0:List UInt8) (a0_1 a0_2:Int) (a0_3:Bool) (a0_4:List UInt8) (a0_5:List PV) (a0_6:Bool) (a0_7 a0_8 a0_9 a0_10 a0_11 a0_12 a0_13 a0_14 a0_15:Int) (a0_16:List UInt8) (a0_17 a0_18 a0_19 a0_20 a0_21 a0_22 a0_23:Int) (a0_24:List UInt8) (a1_0 a1_1:Int):Option PV:=callF EE z37 [(.agg [(.str a0_0),(.int .i64 a0_1),(.int .i64 a0_2),(.bool a0_3),(.str a0_4),(.sl 4 a0_5),(.bool a0_6),(.int .i64 a0_7),(.int .i64 a0_8),(.int .i64 a0_9),(.int .i64 a0_10),(.int .i64 a0_11),(.int .i64 a0_12),(.int .i64 a0_13),(.int .u8 a0_14),(.int .i64 a0_15),(.str a0_16),(.int .i64 a0_17),(.int .i64 a0_18),(.int .i64 a0_19),(.int .i64 a0_20),(.int .i64 a0_21),(.int .u8 a0_22),(.int .i64 a0_23),(.str a0_24)]),(.agg [(.int .i64 a1_0),(.int .i64 a1_1)])]
noncomputable def zda (x0 x1:Int):Option PV :=
 runW EE zbe (za EE z37 2 (mkT 46 [(4,(.ptr 0 0))]) [(.cells z5a [(.int .i64 x0),(.int .i64 x1)] false)])
noncomputable def zd9 (x0:List UInt8) (x1 x2:Int) (x3:Bool) (x4:List UInt8) (x5:List PV) (x6:Bool) (x7 x8 x9 xA xB xC xD xE xF:Int) (xG:List UInt8) (xH xI xJ xK xL xM xN:Int) (xO:List UInt8) (xP xQ xR xS:Int):Option PV :=
 runW EE zbe (za EE z37 3 (mkT 46 [(2,(.ptr 0 0)),(3,(.ptr 1 0)),(4,(.ptr 2 0))]) [(.cells zq [(.str x0),(.int .i64 x1),(.int .i64 x2),(.bool x3),(.str x4),(.sl 4 x5),(.bool x6),(.int .i64 x7),(.int .i64 x8),(.int .i64 x9),(.int .i64 xA),(.int .i64 xB),(.int .i64 xC),(.int .i64 xD),(.int .u8 xE),(.int .i64 xF),(.str xG),(.int .i64 xH),(.int .i64 xI),(.int .i64 xJ),(.int .i64 xK),(.int .i64 xL),(.int .u8 xM),(.int .i64 xN),(.str xO)] false),(.cells z5a [(.int .i64 xP),(.int .i64 xQ)] false),(.cells z5a [(.int .i64 xR),(.int .i64 xS)] false)])
noncomputable abbrev zan:List TI:=funTI EE z2s
noncomputable def z97 (a0_0:List UInt8) (a0_1 a0_2:Int) (a0_3:Bool) (a0_4:List UInt8) (a0_5:List PV) (a0_6:Bool) (a0_7 a0_8 a0_9 a0_10 a0_11 a0_12 a0_13 a0_14 a0_15:Int) (a0_16:List UInt8) (a0_17 a0_18 a0_19 a0_20 a0_21 a0_22 a0_23:Int) (a0_24:List UInt8) (a1_0 a1_1:Int):Option PV:=callF EE z2s [(.agg [(.str a0_0),(.int .i64 a0_1),(.int .i64 a0_2),(.bool a0_3),(.str a0_4),(.sl 4 a0_5),(.bool a0_6),(.int .i64 a0_7),(.int .i64 a0_8),(.int .i64 a0_9),(.int .i64 a0_10),(.int .i64 a0_11),(.int .i64 a0_12),(.int .i64 a0_13),(.int .u8 a0_14),(.int .i64 a0_15),(.str a0_16),(.int .i64 a0_17),(.int .i64 a0_18),(.int .i64 a0_19),(.int .i64 a0_20),(.int .i64 a0_21),(.int .u8 a0_22),(.int .i64 a0_23),(.str a0_24)]),(.agg [(.int .i64 a1_0),(.int .i64 a1_1)])]
noncomputable def zc6 (x0 x1:Int) (x2:Bool) (x3:List UInt8):Option PV :=
 runW EE zan (za EE z2s 2 (mkT 31 [(4,(.ptr 0 0))]) [(.cells zp [(.int .i64 x0),(.int .i64 x1),(.bool x2),(.str x3)] false)])
noncomputable def zc5 (x0:List UInt8) (x1 x2:Int) (x3:Bool) (x4:List UInt8) (x5:List PV) (x6:Bool) (x7 x8 x9 xA xB xC xD xE xF:Int) (xG:List UInt8) (xH xI xJ xK xL xM xN:Int) (xO:List UInt8) (xP xQ xR xS:Int) (xT:Bool) (xU:List UInt8):Option PV :=
 runW EE zan (za EE z2s 3 (mkT 31 [(2,(.ptr 0 0)),(3,(.ptr 1 0)),(4,(.ptr 2 0))]) [(.cells zq [(.str x0),(.int .i64 x1),(.int .i64 x2),(.bool x3),(.str x4),(.sl 4 x5),(.bool x6),(.int .i64 x7),(.int .i64 x8),(.int .i64 x9),(.int .i64 xA),(.int .i64 xB),(.int .i64 xC),(.int .i64 xD),(.int .u8 xE),(.int .i64 xF),(.str xG),(.int .i64 xH),(.int .i64 xI),(.int .i64 xJ),(.int .i64 xK),(.int .i64 xL),(.int .u8 xM),(.int .i64 xN),(.str xO)] false),(.cells z5a [(.int .i64 xP),(.int .i64 xQ)] false),(.cells zp [(.int .i64 xR),(.int .i64 xS),(.bool xT),(.str xU)] false)])
noncomputable def z66 (a0_0 a0_1 a1_0 a1_1 a1_2:Int):Option PV:=callF EE zbw [(.agg [(.int .i64 a0_0),(.int .i64 a0_1)]),(.agg [(.int .i64 a1_0),(.int .i64 a1_1),(.int .i64 a1_2)])]
noncomputable abbrev z3u:List TI:=funTI EE z1b
noncomputable def z9b (a0:Int):Option PV:=callF EE z1b [(.int .i64 a0)]
noncomputable def z71  : Option PV :=
 runW EE z3u (za EE z1b 2 (mkT 40 []) [])
noncomputable def zcb (x0:Int):Option PV :=
 runW EE z3u (za EE z1b 3 (mkT 40 [(0,(.int .i64 x0))]) [])
noncomputable def z4e (x0:Int) (x1:List UInt8):Option PV :=
 runW EE z3u (za EE z1b 7 (mkT 40 [(0,(.int .i64 x0)),(4,(.str x1))]) [])
noncomputable def z6h (x0:Int) (x1:List UInt8):Option PV :=
 runW EE z3u (za EE z1b 10 (mkT 40 [(0,(.int .i64 x0)),(4,(.str x1))]) [])
noncomputable abbrev z19c:List TI:=funTI EE zj1
noncomputable def zhf (a0_0 a0_1 a0_2 a0_3 a1_0 a1_1 a1_2:Int):Option PV:=callF EE zj1 [(.agg [(.int .i64 a0_0),(.int .i64 a0_1),(.int .i64 a0_2),(.int .i64 a0_3)]),(.agg [(.int .i64 a1_0),(.int .i64 a1_1),(.int .i64 a1_2)])]
noncomputable def z10j (x0 x1 x2 x3 x4 x5 x6:Int):Option PV :=
 runW EE z19c (za EE zj1 3 (mkT 36 [(2,(.ptr 0 0)),(3,(.ptr 1 0))]) [(.cells z6n [(.int .i64 x0),(.int .i64 x1),(.int .i64 x2),(.int .i64 x3)] false),(.cells z2e [(.int .i64 x4),(.int .i64 x5),(.int .i64 x6)] false)])
noncomputable abbrev zwt:List TI:=funTI EE zes
noncomputable def zos (a0_0 a0_1 a1_0 a1_1 a1_2:Int):Option PV:=callF EE zes [(.agg [(.int .i64 a0_0),(.int .i64 a0_1)]),(.agg [(.int .i64 a1_0),(.int .i64 a1_1),(.int .i64 a1_2)])]
noncomputable def zor  : Option PV :=
 runW EE zwt (za EE zes 2 (mkT 34 []) [])
noncomputable def z10l (x0 x1 x2 x3 x4:Int):Option PV :=
 runW EE zwt (za EE zes 3 (mkT 34 [(2,(.ptr 0 0)),(3,(.ptr 1 0))]) [(.cells zld [(.int .i64 x0),(.int .i64 x1)] false),(.cells z2e [(.int .i64 x2),(.int .i64 x3),(.int .i64 x4)] false)])
noncomputable abbrev zjb:List TI:=funTI EE z5d
noncomputable def zjs (a0_0:List UInt8) (a0_1 a0_2:Int) (a0_3:Bool) (a0_4:List UInt8) (a0_5:List PV) (a0_6:Bool) (a0_7 a0_8 a0_9 a0_10 a0_11 a0_12 a0_13 a0_14 a0_15:Int) (a0_16:List UInt8) (a0_17 a0_18 a0_19 a0_20 a0_21 a0_22 a0_23:Int) (a0_24:List UInt8):Option PV:=callF EE z5d [(.agg [(.str a0_0),(.int .i64 a0_1),(.int .i64 a0_2),(.bool a0_3),(.str a0_4),(.sl 4 a0_5),(.bool a0_6),(.int .i64 a0_7),(.int .i64 a0_8),(.int .i64 a0_9),(.int .i64 a0_10),(.int .i64 a0_11),(.int .i64 a0_12),(.int .i64 a0_13),(.int .u8 a0_14),(.int .i64 a0_15),(.str a0_16),(.int .i64 a0_17),(.int .i64 a0_18),(.int .i64 a0_19),(.int .i64 a0_20),(.int .i64 a0_21),(.int .u8 a0_22),(.int .i64 a0_23),(.str a0_24)])]
noncomputable def zgp  : Option PV :=
 runW EE zjb (za EE z5d 2 (mkT 120 []) [])
noncomputable def qk3 (f p:Nat) (T:List PV) (y0:List UInt8) (y1 y2:Int) (y3:Bool) (y4:List UInt8) (y5:List PV) (y6:Bool) (y7 y8 y9 y10 y11 y12 y13 y14 y15:Int) (y16:List UInt8) (y17 y18 y19 y20 y21 y22 y23:Int) (y24:List UInt8):Option PV:=runW EE zjb (za EE f p T [(.cells zgr [(.str y0),(.int .i64 y1),(.int .i64 y2),(.bool y3),(.str y4),(.sl 4 y5),(.bool y6),(.int .i64 y7),(.int .i64 y8),(.int .i64 y9),(.int .i64 y10),(.int .i64 y11),(.int .i64 y12),(.int .i64 y13),(.int .u8 y14),(.int .i64 y15),(.str y16),(.int .i64 y17),(.int .i64 y18),(.int .i64 y19),(.int .i64 y20),(.int .i64 y21),(.int .u8 y22),(.int .i64 y23),(.str y24)] false)])
noncomputable def zwf (x0:List UInt8) (x1 x2:Int) (x3:Bool) (x4:List UInt8) (x5:List PV) (x6:Bool) (x7 x8 x9 xA xB xC xD xE xF:Int) (xG:List UInt8) (xH xI xJ xK xL xM xN:Int) (xO:List UInt8):Option PV :=
 qk3 z5d 3 (mkT 120 [(1,(.ptr 0 0))]) x0 x1 x2 x3 x4 x5 x6 x7 x8 x9 xA xB xC xD xE xF xG xH xI xJ xK xL xM xN xO
noncomputable def zgo (x0:List PV) (x1 x2:Int) (x3:List UInt8) (x4 x5:Int) (x6:Bool) (x7:List UInt8) (x8:List PV) (x9:Bool) (xA xB xC xD xE xF xG xH xI:Int) (xJ:List UInt8) (xK xL xM xN xO xP xQ:Int) (xR:List UInt8):Option PV :=
 qk3 z5d 4 (mkT 120 [(1,(.ptr 0 0)),(27,(.sl 4 x0)),(28,(.int .i64 x1)),(29,(.int .i64 x2))]) x3 x4 x5 x6 x7 x8 x9 xA xB xC xD xE xF xG xH xI xJ xK xL xM xN xO xP xQ xR
noncomputable def zgn  : Option PV :=
 runW EE zjb (za EE z5d 7 (mkT 120 []) [])
noncomputable def zgm (x0:List PV) (x1 x2:Int) (x3:List UInt8) (x4 x5:Int) (x6:Bool) (x7:List UInt8) (x8:List PV) (x9:Bool) (xA xB xC xD xE xF xG xH xI:Int) (xJ:List UInt8) (xK xL xM xN xO xP xQ:Int) (xR:List UInt8):Option PV :=
 qk3 z5d 8 (mkT 120 [(1,(.ptr 0 0)),(27,(.sl 4 x0)),(28,(.int .i64 x1)),(29,(.int .i64 x2))]) x3 x4 x5 x6 x7 x8 x9 xA xB xC xD xE xF xG xH xI xJ xK xL xM xN xO xP xQ xR
noncomputable def z17h (a0:Bool):Option PV:=callF EE zxr [(.bool a0)]
noncomputable abbrev z10b:List TI:=funTI EE z84
noncomputable def zsp (a0_0 a0_1:Int):Option PV:=callF EE z84 [(.agg [(.int .i64 a0_0),(.int .i64 a0_1)])]
noncomputable def zlx (x0:Int) (x1:List UInt8) (x2 x3:Int):Option PV :=
 runW EE z10b (za EE z84 6 (mkT 56 [(1,(.ptr 0 0)),(3,(.int .u64 x0)),(4,(.str x1))]) [(.cells z17b [(.int .i64 x2),(.int .i64 x3)] false)])
noncomputable def qk4 (f p:Nat) (T:List PV) (y0 y1:Int) (y2:List PV) (y3:Nat):Option PV:=runW EE z10b (za EE f p T [(.cells z17b [(.int .i64 y0),(.int .i64 y1)] false),(.row z1cb 1 y2 0 (some y3))])
noncomputable def z6u (x0:Int) (x1:List UInt8) (x2 x3 x4 x5:Int) (x6:List PV) (x7:Nat):Option PV :=
 qk4 z84 9 (mkT 56 [(1,(.ptr 0 0)),(3,(.int .u64 x0)),(4,(.str x1)),(5,(.ptr 1 0)),(6,(.int .i64 x2)),(7,(.int .i64 x3))]) x4 x5 x6 x7
noncomputable def zf6 (x0:Int) (x1:List UInt8) (x2 x3 x4 x5:Int) (x6:List PV) (x7:Nat):Option PV :=
 qk4 z84 11 (mkT 56 [(1,(.ptr 0 0)),(3,(.int .u64 x0)),(4,(.str x1)),(5,(.ptr 1 0)),(6,(.int .i64 x2)),(7,(.int .i64 x3))]) x4 x5 x6 x7
noncomputable def zpd (x0:Int) (x1:List UInt8) (x2 x3 x4 x5:Int) (x6:List PV) (x7:Nat):Option PV :=
 qk4 z84 12 (mkT 56 [(1,(.ptr 0 0)),(3,(.int .u64 x0)),(4,(.str x1)),(5,(.ptr 1 0)),(6,(.int .i64 x2)),(7,(.int .i64 x3))]) x4 x5 x6 x7
noncomputable def zay (x0:Int) (x1:List UInt8) (x2 x3 x4 x5:Int) (x6:List PV) (x7:Nat):Option PV :=
 qk4 z84 14 (mkT 56 [(1,(.ptr 0 0)),(3,(.int .u64 x0)),(4,(.str x1)),(5,(.ptr 1 0)),(6,(.int .i64 x2)),(7,(.int .i64 x3))]) x4 x5 x6 x7
noncomputable abbrev zts:List TI:=funTI EE zbv
noncomputable def zze (a0_0 a0_1 a1_0 a1_1 a1_2:Int):Option PV:=callF EE zbv [(.agg [(.int .i64 a0_0),(.int .i64 a0_1)]),(.agg [(.int .i64 a1_0),(.int .i64 a1_1),(.int .i64 a1_2)])]
noncomputable def zlk  : Option PV :=
 runW EE zts (za EE zbv 2 (mkT 34 []) [])
noncomputable def zx5 (x0 x1 x2 x3 x4:Int):Option PV :=
 runW EE zts (za EE zbv 3 (mkT 34 [(2,(.ptr 0 0)),(3,(.ptr 1 0))]) [(.cells z5a [(.int .i64 x0),(.int .i64 x1)] false),(.cells z2e [(.int .i64 x2),(.int .i64 x3),(.int .i64 x4)] false)])
noncomputable abbrev z3v:List TI:=funTI EE z1c
noncomputable def zi (a0:Int):Option PV:=callF EE z1c [(.int .i64 a0)]
noncomputable def z4f (x0 x1:Int):Option PV :=
 runW EE z3v (za EE z1c 4 (mkT 51 [(0,(.int .i64 x0)),(3,(.int .u64 x1))]) [])
noncomputable def z2u (x0 x1:Int) (x2:List PV):Option PV :=
 runW EE z3v (za EE z1c 5 (mkT 51 [(0,(.int .i64 x0)),(3,(.int .u64 x1)),(4,(.lall 0))]) [(.row zie 1 x2 0 none)])
noncomputable def z14 (x0:List PV):Option PV :=
 runW EE z3v (za EE z1c 11 (mkT 51 [(4,(.lall 0))]) [(.row zie 1 x0 0 none)])
noncomputable def z41 (x0:Int) (x1:List PV) (x2:List PV):Option PV :=
 runW EE z3v (za EE z1c 13 (mkT 51 [(4,(.lall 0)),(5,(.lall 1)),(6,(.int .i64 x0))]) [(.row zie 1 x1 0 none),(.row zie 1 x2 0 none)])
noncomputable abbrev zn3:List TI:=funTI EE z5g
noncomputable def z7q (a0_0 a0_1:Int):Option PV:=callF EE z5g [(.agg [(.int .i64 a0_0),(.int .i64 a0_1)])]
noncomputable def z2k (x0:List UInt8) (x1:List UInt8) (x2 x3:Int):Option PV :=
 runW EE zn3 (za EE z5g 8 (mkT 44 [(1,(.ptr 0 0)),(3,(.str x0)),(4,(.str x1))]) [(.cells zsx [(.int .i64 x2),(.int .i64 x3)] false)])
noncomputable abbrev zcm:List TI:=funTI EE z3q
noncomputable def zc1 (a0_0 a0_1 a1_0 a1_1 a1_2:Int):Option PV:=callF EE z3q [(.agg [(.int .i64 a0_0),(.int .i64 a0_1)]),(.agg [(.int .i64 a1_0),(.int .i64 a1_1),(.int .i64 a1_2)])]
noncomputable def z8c  : Option PV :=
 runW EE zcm (za EE z3q 2 (mkT 31 []) [])
noncomputable def zf8 (x0 x1 x2 x3 x4:Int):Option PV :=
 runW EE zcm (za EE z3q 3 (mkT 31 [(2,(.ptr 0 0)),(3,(.ptr 1 0))]) [(.cells zld [(.int .i64 x0),(.int .i64 x1)] false),(.cells z2e [(.int .i64 x2),(.int .i64 x3),(.int .i64 x4)] false)])
noncomputable abbrev zbd:List TI:=funTI EE z36
noncomputable def za9 (a0_0 a0_1 a1_0 a1_1 a1_2:Int):Option PV:=callF EE z36 [(.agg [(.int .i64 a0_0),(.int .i64 a0_1)]),(.agg [(.int .i64 a1_0),(.int .i64 a1_1),(.int .i64 a1_2)])]
noncomputable def z7e  : Option PV :=
 runW EE zbd (za EE z36 2 (mkT 31 []) [])
noncomputable def zd7 (x0 x1 x2 x3 x4:Int):Option PV :=
 runW EE zbd (za EE z36 3 (mkT 31 [(2,(.ptr 0 0)),(3,(.ptr 1 0))]) [(.cells z5a [(.int .i64 x0),(.int .i64 x1)] false),(.cells z2e [(.int .i64 x2),(.int .i64 x3),(.int .i64 x4)] false)])
noncomputable abbrev zcl:List TI:=funTI EE z3p
noncomputable def zc0 (a0_0 a0_1 a0_2 a0_3 a1_0 a1_1 a1_2:Int):Option PV:=callF EE z3p [(.agg [(.int .i64 a0_0),(.int .i64 a0_1),(.int .i64 a0_2),(.int .i64 a0_3)]),(.agg [(.int .i64 a1_0),(.int .i64 a1_1),(.int .i64 a1_2)])]
noncomputable def z8b  : Option PV :=
 runW EE zcl (za EE z3p 2 (mkT 32 []) [])
noncomputable def zf7 (x0 x1 x2 x3 x4 x5 x6:Int):Option PV :=
 runW EE zcl (za EE z3p 3 (mkT 32 [(2,(.ptr 0 0)),(3,(.ptr 1 0))]) [(.cells z6n [(.int .i64 x0),(.int .i64 x1),(.int .i64 x2),(.int .i64 x3)] false),(.cells z2e [(.int .i64 x4),(.int .i64 x5),(.int .i64 x6)] false)])
noncomputable def zki (a0_0 a0_1:Int):Option PV:=callF EE z111 [(.agg [(.int .i64 a0_0),(.int .i64 a0_1)])]
noncomputable def z2p (a0_0 a0_1:Int):Option PV:=callF EE zke [(.agg [(.int .i64 a0_0),(.int .i64 a0_1)])]
noncomputable def zs4 (a0_0 a0_1 a0_2 a0_3:Int):Option PV:=callF EE zxq [(.agg [(.int .i64 a0_0),(.int .i64 a0_1),(.int .i64 a0_2),(.int .i64 a0_3)])]
noncomputable def z4r (a0_0 a0_1:Int):Option PV:=callF EE zct [(.agg [(.int .i64 a0_0),(.int .i64 a0_1)])]
noncomputable def z6v (a0_0 a0_1 a0_2 a0_3:Int):Option PV:=callF EE zcs [(.agg [(.int .i64 a0_0),(.int .i64 a0_1),(.int .i64 a0_2),(.int .i64 a0_3)])]
noncomputable def z19h (a0_0 a0_1 a1:Int):Option PV:=callF EE z14s [(.agg [(.int .i64 a0_0),(.int .i64 a0_1)]),(.int .i64 a1)]
noncomputable def z1cl (a0_0:List UInt8) (a0_1 a0_2:Int) (a0_3:Bool) (a0_4:List UInt8) (a0_5:List PV) (a0_6:Bool) (a0_7 a0_8 a0_9 a0_10 a0_11 a0_12 a0_13 a0_14 a0_15:Int) (a0_16:List UInt8) (a0_17 a0_18 a0_19 a0_20 a0_21 a0_22 a0_23:Int) (a0_24:List UInt8) (a1_0 a1_1:Int):Option PV:=callF EE z10x [(.agg [(.str a0_0),(.int .i64 a0_1),(.int .i64 a0_2),(.bool a0_3),(.str a0_4),(.sl 4 a0_5),(.bool a0_6),(.int .i64 a0_7),(.int .i64 a0_8),(.int .i64 a0_9),(.int .i64 a0_10),(.int .i64 a0_11),(.int .i64 a0_12),(.int .i64 a0_13),(.int .u8 a0_14),(.int .i64 a0_15),(.str a0_16),(.int .i64 a0_17),(.int .i64 a0_18),(.int .i64 a0_19),(.int .i64 a0_20),(.int .i64 a0_21),(.int .u8 a0_22),(.int .i64 a0_23),(.str a0_24)]),(.agg [(.int .i64 a1_0),(.int .i64 a1_1)])]
noncomputable def zv8 (a0_0 a0_1:Int):Option PV:=callF EE zu5 [(.agg [(.int .i64 a0_0),(.int .i64 a0_1)])]
noncomputable def z18v (a0_0:List UInt8) (a0_1 a0_2:Int) (a0_3:Bool) (a0_4:List UInt8) (a0_5:List PV) (a0_6:Bool) (a0_7 a0_8 a0_9 a0_10 a0_11 a0_12 a0_13 a0_14 a0_15:Int) (a0_16:List UInt8) (a0_17 a0_18 a0_19 a0_20 a0_21 a0_22 a0_23:Int) (a0_24:List UInt8) (a1:Int):Option PV:=callF EE z182 [(.agg [(.str a0_0),(.int .i64 a0_1),(.int .i64 a0_2),(.bool a0_3),(.str a0_4),(.sl 4 a0_5),(.bool a0_6),(.int .i64 a0_7),(.int .i64 a0_8),(.int .i64 a0_9),(.int .i64 a0_10),(.int .i64 a0_11),(.int .i64 a0_12),(.int .i64 a0_13),(.int .u8 a0_14),(.int .i64 a0_15),(.str a0_16),(.int .i64 a0_17),(.int .i64 a0_18),(.int .i64 a0_19),(.int .i64 a0_20),(.int .i64 a0_21),(.int .u8 a0_22),(.int .i64 a0_23),(.str a0_24)]),(.int .i64 a1)]
noncomputable def day_Of (a0_0 a0_1:Int):Option PV:=callF EE z1e4 [(.agg [(.int .i64 a0_0),(.int .i64 a0_1)])]
noncomputable abbrev z19b:List TI:=funTI EE zj0
noncomputable def zoo (a0_0 a0_1 a1_0 a1_1 a1_2:Int):Option PV:=callF EE zj0 [(.agg [(.int .i64 a0_0),(.int .i64 a0_1)]),(.agg [(.int .i64 a1_0),(.int .i64 a1_1),(.int .i64 a1_2)])]
noncomputable def zin (x0 x1 x2:Int) (x3:List UInt8) (x4 x5 x6:Int):Option PV :=
 runW EE z19b (za EE zj0 5 (mkT 75 [(3,(.ptr 0 0)),(6,(.int .i64 x0)),(7,(.int .i64 x1)),(8,(.int .i64 x2)),(10,(.str x3))]) [(.cells z2e [(.int .i64 x4),(.int .i64 x5),(.int .i64 x6)] false)])
noncomputable def zzu (a0:Int):Option PV:=callF EE zxz [(.int .i64 a0)]
noncomputable abbrev z11s:List TI:=funTI EE zbt
noncomputable def z1s (a0:List UInt8) (a1:List PV):Option PV:=callF EE zbt [(.str a0),(.sl 1 a1)]
noncomputable def z80 (x0:List UInt8) (x1:List PV) (x2 x3:Int) (x4:List PV):Option PV :=
 runW EE z11s (za EE zbt 3 (mkT 24 [(0,(.str x0)),(5,(.lall 0)),(8,(.sl 1 x1)),(9,(.int .i64 x2)),(10,(.int .i64 x3))]) [(.row z9e 1 x4 0 none)])
noncomputable def z3d (a0:Int):Option PV:=callF EE z113 [(.int .i64 a0)]
noncomputable def z73 (a0:Int):Option PV:=callF EE zd1 [(.int .i64 a0)]
noncomputable def z68 (a0:Int):Option PV:=callF EE zby [(.int .i64 a0)]
noncomputable def z8t (a0_0 a0_1:Int) (a0_2:Bool) (a0_3:List UInt8):Option PV:=callF EE zg9 [(.agg [(.int .i64 a0_0),(.int .i64 a0_1),(.bool a0_2),(.str a0_3)])]
noncomputable abbrev zjw:List TI:=funTI EE z4a
noncomputable def z2x (a0:Int):Option PV:=callF EE z4a [(.int .i64 a0)]
noncomputable def z4d (x0:Int):Option PV :=
 runW EE zjw (za EE z4a 4 (mkT 30 [(3,(.int .i64 x0))]) [])
noncomputable abbrev zsy:List TI:=funTI EE z6s
noncomputable def za2 (a0_0:Bool) (a0_1 a0_2 a0_3 a0_4 a0_5 a0_6 a0_7 a0_8 a0_9:Int) (a0_10:List UInt8) (a0_11 a0_12 a0_13 a0_14 a0_15 a0_16 a0_17:Int) (a0_18:List UInt8) (a1:Int):Option PV:=callF EE z6s [(.agg [(.bool a0_0),(.int .i64 a0_1),(.int .i64 a0_2),(.int .i64 a0_3),(.int .i64 a0_4),(.int .i64 a0_5),(.int .i64 a0_6),(.int .i64 a0_7),(.int .u8 a0_8),(.int .i64 a0_9),(.str a0_10),(.int .i64 a0_11),(.int .i64 a0_12),(.int .i64 a0_13),(.int .i64 a0_14),(.int .i64 a0_15),(.int .u8 a0_16),(.int .i64 a0_17),(.str a0_18)]),(.int .i64 a1)]
noncomputable def z4s (x0:Int) (x1:List PV) (x2 x3 x4 x5:Int) (x6:Bool) (x7:List UInt8):Option PV :=
 runW EE zsy (za EE z6s 3 (mkT 35 [(1,(.int .i64 x0)),(4,(.ptr 0 0)),(6,(.sl 4 x1)),(7,(.int .i64 x2)),(8,(.int .i64 x3))]) [(.cells zp [(.int .i64 x4),(.int .i64 x5),(.bool x6),(.str x7)] false)])
noncomputable def z8s (a0_0 a0_1:Int):Option PV:=callF EE zg8 [(.agg [(.int .i64 a0_0),(.int .i64 a0_1)])]
noncomputable abbrev z95:List TI:=funTI EE z3g
noncomputable def z78 (a0_0:List UInt8) (a0_1 a0_2:Int) (a0_3:Bool) (a0_4:List UInt8) (a0_5:List PV) (a0_6:Bool) (a0_7 a0_8 a0_9 a0_10 a0_11 a0_12 a0_13 a0_14 a0_15:Int) (a0_16:List UInt8) (a0_17 a0_18 a0_19 a0_20 a0_21 a0_22 a0_23:Int) (a0_24:List UInt8) (a1:Int):Option PV:=callF EE z3g [(.agg [(.str a0_0),(.int .i64 a0_1),(.int .i64 a0_2),(.bool a0_3),(.str a0_4),(.sl 4 a0_5),(.bool a0_6),(.int .i64 a0_7),(.int .i64 a0_8),(.int .i64 a0_9),(.int .i64 a0_10),(.int .i64 a0_11),(.int .i64 a0_12),(.int .i64 a0_13),(.int .u8 a0_14),(.int .i64 a0_15),(.str a0_16),(.int .i64 a0_17),(.int .i64 a0_18),(.int .i64 a0_19),(.int .i64 a0_20),(.int .i64 a0_21),(.int .u8 a0_22),(.int .i64 a0_23),(.str a0_24)]),(.int .i64 a1)]
noncomputable def zaf (x0:Int) (x1:List UInt8) (x2 x3:Int) (x4:Bool) (x5:List UInt8) (x6:List PV) (x7:Bool) (x8 x9 xA xB xC xD xE xF xG:Int) (xH:List UInt8) (xI xJ xK xL xM xN xO:Int) (xP:List UInt8) (xQ xR:Int) (xS:Bool) (xT:List UInt8):Option PV :=
 runW EE z95 (za EE z3g 6 (mkT 57 [(1,(.int .i64 x0)),(2,(.ptr 0 0)),(4,(.ptr 1 0))]) [(.cells zq [(.str x1),(.int .i64 x2),(.int .i64 x3),(.bool x4),(.str x5),(.sl 4 x6),(.bool x7),(.int .i64 x8),(.int .i64 x9),(.int .i64 xA),(.int .i64 xB),(.int .i64 xC),(.int .i64 xD),(.int .i64 xE),(.int .u8 xF),(.int .i64 xG),(.str xH),(.int .i64 xI),(.int .i64 xJ),(.int .i64 xK),(.int .i64 xL),(.int .i64 xM),(.int .u8 xN),(.int .i64 xO),(.str xP)] false),(.cells zp [(.int .i64 xQ),(.int .i64 xR),(.bool xS),(.str xT)] false)])
noncomputable def zae (x0:Int) (x1:List UInt8) (x2 x3:Int) (x4:Bool) (x5:List UInt8) (x6:List PV) (x7:Bool) (x8 x9 xA xB xC xD xE xF xG:Int) (xH:List UInt8) (xI xJ xK xL xM xN xO:Int) (xP:List UInt8) (xQ xR:Int) (xS:Bool) (xT:List UInt8):Option PV :=
 runW EE z95 (za EE z3g 7 (mkT 57 [(1,(.int .i64 x0)),(2,(.ptr 0 0)),(4,(.ptr 1 0))]) [(.cells zq [(.str x1),(.int .i64 x2),(.int .i64 x3),(.bool x4),(.str x5),(.sl 4 x6),(.bool x7),(.int .i64 x8),(.int .i64 x9),(.int .i64 xA),(.int .i64 xB),(.int .i64 xC),(.int .i64 xD),(.int .i64 xE),(.int .u8 xF),(.int .i64 xG),(.str xH),(.int .i64 xI),(.int .i64 xJ),(.int .i64 xK),(.int .i64 xL),(.int .i64 xM),(.int .u8 xN),(.int .i64 xO),(.str xP)] false),(.cells zp [(.int .i64 xQ),(.int .i64 xR),(.bool xS),(.str xT)] false)])
noncomputable def z6w (x0 x1:Int) (x2:List UInt8) (x3 x4:Int) (x5:Bool) (x6:List UInt8) (x7:List PV) (x8:Bool) (x9 xA xB xC xD xE xF xG xH:Int) (xI:List UInt8) (xJ xK xL xM xN xO xP:Int) (xQ:List UInt8) (xR xS:Int) (xT:Bool) (xU:List UInt8) (xV xW:Int) (xX:Bool) (xY:List UInt8):Option PV :=
 runW EE z95 (za EE z3g 9 (mkT 57 [(1,(.int .i64 x0)),(2,(.ptr 0 0)),(4,(.ptr 1 0)),(6,(.ptr 2 0)),(7,(.int .i64 x1))]) [(.cells zq [(.str x2),(.int .i64 x3),(.int .i64 x4),(.bool x5),(.str x6),(.sl 4 x7),(.bool x8),(.int .i64 x9),(.int .i64 xA),(.int .i64 xB),(.int .i64 xC),(.int .i64 xD),(.int .i64 xE),(.int .i64 xF),(.int .u8 xG),(.int .i64 xH),(.str xI),(.int .i64 xJ),(.int .i64 xK),(.int .i64 xL),(.int .i64 xM),(.int .i64 xN),(.int .u8 xO),(.int .i64 xP),(.str xQ)] false),(.cells zp [(.int .i64 xR),(.int .i64 xS),(.bool xT),(.str xU)] false),(.cells zp [(.int .i64 xV),(.int .i64 xW),(.bool xX),(.str xY)] false)])
noncomputable def zc3 (a0 a1:Int):Option PV:=callF EE zex [(.int .i64 a0),(.int .i64 a1)]
noncomputable def zfy (a0_0 a0_1:Int):Option PV:=callF EE zhn [(.agg [(.int .i64 a0_0),(.int .i64 a0_1)])]
noncomputable abbrev zck:List TI:=funTI EE z3o
noncomputable def z7o (a0_0 a0_1 a1_0 a1_1 a1_2:Int):Option PV:=callF EE z3o [(.agg [(.int .i64 a0_0),(.int .i64 a0_1)]),(.agg [(.int .i64 a1_0),(.int .i64 a1_1),(.int .i64 a1_2)])]
noncomputable def z5l (x0 x1 x2:Int) (x3:List UInt8) (x4 x5 x6:Int):Option PV :=
 runW EE zck (za EE z3o 6 (mkT 77 [(3,(.ptr 0 0)),(6,(.int .i64 x0)),(7,(.int .i64 x1)),(8,(.int .i64 x2)),(10,(.str x3))]) [(.cells z2e [(.int .i64 x4),(.int .i64 x5),(.int .i64 x6)] false)])
noncomputable def z3s (x0 x1:Int) (x2:List UInt8) (x3:List UInt8) (x4 x5 x6:Int):Option PV :=
 runW EE zck (za EE z3o 7 (mkT 77 [(3,(.ptr 0 0)),(7,(.int .i64 x0)),(8,(.int .i64 x1)),(10,(.str x2)),(11,(.str x3))]) [(.cells z2e [(.int .i64 x4),(.int .i64 x5),(.int .i64 x6)] false)])
noncomputable def zca (a0:Int):Option PV:=callF EE zey [(.int .i64 a0)]
noncomputable abbrev zeh:List TI:=funTI EE z47
noncomputable def zw (a0:Int):Option PV:=callF EE z47 [(.int .i64 a0)]
noncomputable def zgj (x0:Int):Option PV :=
 runW EE zeh (za EE z47 2 (mkT 24 [(0,(.int .i64 x0))]) [])
noncomputable def z9a (x0:Int):Option PV :=
 runW EE zeh (za EE z47 3 (mkT 24 [(0,(.int .i64 x0))]) [])
noncomputable def z19l (a0_0 a0_1 a0_2 a0_3:Int):Option PV:=callF EE z14t [(.agg [(.int .i64 a0_0),(.int .i64 a0_1),(.int .i64 a0_2),(.int .i64 a0_3)])]
noncomputable def z19m (a0_0 a0_1 a0_2 a0_3:Int):Option PV:=callF EE z14u [(.agg [(.int .i64 a0_0),(.int .i64 a0_1),(.int .i64 a0_2),(.int .i64 a0_3)])]
noncomputable abbrev zjv:List TI:=funTI EE z2y
noncomputable def zli (a0_0 a0_1 a0_2 a0_3:Int):Option PV:=callF EE z2y [(.agg [(.int .i64 a0_0),(.int .i64 a0_1),(.int .i64 a0_2),(.int .i64 a0_3)])]
noncomputable def qk7 (f p:Nat) (T:List PV) (y0 y1 y2 y3 y4:Int):Option PV:=runW EE zjv (za EE f p T [(.cells z6n [(.int .i64 y0),(.int .i64 y1),(.int .i64 y2),(.int .i64 y3)] false),(.cells z16 [(.int .i64 y4)] false)])
noncomputable def z55 (x0:List UInt8) (x1 x2 x3 x4 x5:Int):Option PV :=
 qk7 z2y 3 (mkT 49 [(1,(.ptr 0 0)),(3,(.ptr 1 0)),(4,(.str x0))]) x1 x2 x3 x4 x5
noncomputable def z1x (x0:List UInt8) (x1:List UInt8) (x2 x3 x4 x5 x6:Int):Option PV :=
 qk7 z2y 4 (mkT 49 [(1,(.ptr 0 0)),(3,(.ptr 1 0)),(4,(.str x0)),(5,(.str x1))]) x2 x3 x4 x5 x6
noncomputable def z1w (x0:List UInt8) (x1:List UInt8) (x2:List UInt8) (x3 x4 x5 x6 x7:Int):Option PV :=
 qk7 z2y 5 (mkT 49 [(1,(.ptr 0 0)),(3,(.ptr 1 0)),(4,(.str x0)),(5,(.str x1)),(6,(.str x2))]) x3 x4 x5 x6 x7
noncomputable def zmp (x0:List UInt8) (x1:List UInt8) (x2:List UInt8) (x3 x4 x5 x6:Int):Option PV :=
 runW EE zjv (za EE z2y 7 (mkT 49 [(1,(.ptr 0 0)),(4,(.str x0)),(5,(.str x1)),(6,(.str x2))]) [(.cells z6n [(.int .i64 x3),(.int .i64 x4),(.int .i64 x5),(.int .i64 x6)] false)])
noncomputable def za1 (x0:List UInt8) (x1:List UInt8) (x2:List UInt8) (x3:List UInt8) (x4 x5 x6 x7 x8:Int):Option PV :=
 qk7 z2y 8 (mkT 49 [(1,(.ptr 0 0)),(3,(.ptr 1 0)),(4,(.str x0)),(5,(.str x1)),(6,(.str x2)),(7,(.str x3))]) x4 x5 x6 x7 x8
noncomputable def zh4 (a0 a1:Int):Option PV:=callF EE zu2 [(.int .i64 a0),(.int .i64 a1)]
noncomputable def z88 (a0:Int):Option PV:=callF EE zue [(.int .i64 a0)]
noncomputable abbrev z1fh:List TI:=funTI EE zkd
noncomputable def z1ax (a0_0:Bool) (a0_1 a0_2 a0_3 a0_4 a0_5 a0_6 a0_7 a0_8 a0_9:Int) (a0_10:List UInt8) (a0_11 a0_12 a0_13 a0_14 a0_15 a0_16 a0_17:Int) (a0_18:List UInt8) (a1:Int):Option PV:=callF EE zkd [(.agg [(.bool a0_0),(.int .i64 a0_1),(.int .i64 a0_2),(.int .i64 a0_3),(.int .i64 a0_4),(.int .i64 a0_5),(.int .i64 a0_6),(.int .i64 a0_7),(.int .u8 a0_8),(.int .i64 a0_9),(.str a0_10),(.int .i64 a0_11),(.int .i64 a0_12),(.int .i64 a0_13),(.int .i64 a0_14),(.int .i64 a0_15),(.int .u8 a0_16),(.int .i64 a0_17),(.str a0_18)]),(.int .i64 a1)]
noncomputable def z31 (x0 x1:Int) (x2:Bool) (x3 x4 x5 x6 x7 x8 x9 xA xB:Int) (xC:List UInt8) (xD xE xF xG xH xI xJ:Int) (xK:List UInt8) (xL xM:Int) (xN:Bool) (xO:List UInt8) (xP xQ:Int) (xR:Bool) (xS:List UInt8) (xT xU:Int):Option PV :=
 runW EE z1fh (confAtS EE z14x 2 (mkT 30 [(0,(.func (Go.Fn.yield 0) [(.mapr 0)] [])),(2,(.ptr 1 0)),(4,(.int .i64 x0)),(5,(.int .i64 x1))]) [(loopAt EE zkd 0 Go.LoopState.ready [.undef,.undef,.undef,(.ptr 5 0),.undef,.undef,.undef,(.ptr 3 0),.undef,.undef,.undef,.undef,.undef,.undef,.undef,.undef,.undef,.undef,.undef,.undef,.undef,.undef,.undef,.undef,.undef,.undef]),(.cells zo3 [(.bool x2),(.int .i64 x3),(.int .i64 x4),(.int .i64 x5),(.int .i64 x6),(.int .i64 x7),(.int .i64 x8),(.int .i64 x9),(.int .u8 xA),(.int .i64 xB),(.str xC),(.int .i64 xD),(.int .i64 xE),(.int .i64 xF),(.int .i64 xG),(.int .i64 xH),(.int .u8 xI),(.int .i64 xJ),(.str xK)] false),(.cells zp [(.int .i64 xL),(.int .i64 xM),(.bool xN),(.str xO)] false),(.cells zp [(.int .i64 xP),(.int .i64 xQ),(.bool xR),(.str xS)] false),.dfr,(.cells z16 [(.int .i64 xT)] false)] [frAtL EE zkd 0 (mkT 26 [(4,(.ptr 2 0)),(5,(.int .i64 xU)),(7,(.ptr 3 0))]) [((.mapr 4),[])] (.mapr 0)] [])
noncomputable def z1ee (a0_0 a0_1:Int):Option PV:=callF EE z110 [(.agg [(.int .i64 a0_0),(.int .i64 a0_1)])]
noncomputable def zhu (a0_0 a0_1:Int):Option PV:=callF EE zcy [(.agg [(.int .i64 a0_0),(.int .i64 a0_1)])]
noncomputable def zdq (a0_0 a0_1 a0_2 a0_3:Int):Option PV:=callF EE zg6 [(.agg [(.int .i64 a0_0),(.int .i64 a0_1),(.int .i64 a0_2),(.int .i64 a0_3)])]
noncomputable abbrev zo5:List TI:=funTI EE z62
noncomputable def zdr (a0_0 a0_1 a0_2 a0_3:Int):Option PV:=callF EE z62 [(.agg [(.int .i64 a0_0),(.int .i64 a0_1),(.int .i64 a0_2),(.int .i64 a0_3)])]
noncomputable def z67 (x0:List UInt8) (x1:Int):Option PV :=
 runW EE zo5 (za EE z62 8 (mkT 65 [(3,(.str x0)),(4,(.int .i64 x1))]) [])
noncomputable abbrev z30:List TI:=funTI EE zx
noncomputable def z7d (a0_0 a0_1 a0_2 a0_3:Int):Option PV:=callF EE zx [(.agg [(.int .i64 a0_0),(.int .i64 a0_1),(.int .i64 a0_2),(.int .i64 a0_3)])]
noncomputable def qk8 (f p:Nat) (T:List PV) (y0 y1 y2 y3:Int) (y4:List PV) (y5:Nat) (y6:List PV) (y7:Nat):Option PV:=runW EE z30 (za EE f p T [(.cells z6n [(.int .i64 y0),(.int .i64 y1),(.int .i64 y2),(.int .i64 y3)] false),(.row z16 1 y4 0 (some y5)),(.row z9e 1 y6 0 (some y7))])
noncomputable def z1j (x0:List UInt8) (x1 x2 x3 x4 x5 x6:Int) (x7:List PV) (x8:Nat) (x9:List PV) (xA:Nat):Option PV :=
 qk8 zx 6 (mkT 73 [(1,(.ptr 0 0)),(3,(.lall 1)),(4,(.lall 2)),(5,(.str x0)),(6,(.int .i64 x1)),(7,(.int .i64 x2))]) x3 x4 x5 x6 x7 x8 x9 xA
noncomputable def z5x (x0:List UInt8) (x1 x2 x3 x4 x5 x6:Int) (x7:List PV) (x8:Nat) (x9:List PV) (xA:Nat):Option PV :=
 qk8 zx 7 (mkT 73 [(1,(.ptr 0 0)),(3,(.lall 1)),(4,(.lall 2)),(5,(.str x0)),(6,(.int .i64 x1)),(7,(.int .i64 x2))]) x3 x4 x5 x6 x7 x8 x9 xA
noncomputable def z34 (x0:List UInt8) (x1 x2 x3 x4 x5 x6:Int) (x7:List PV) (x8:Nat) (x9:List PV) (xA:Nat):Option PV :=
 qk8 zx 11 (mkT 73 [(1,(.ptr 0 0)),(3,(.lall 1)),(4,(.lall 2)),(5,(.str x0)),(6,(.int .i64 x1)),(7,(.int .i64 x2))]) x3 x4 x5 x6 x7 x8 x9 xA
noncomputable def z91 (x0:List UInt8):Option PV :=
 runW EE z30 (za EE zx 14 (mkT 73 [(5,(.str x0))]) [])
noncomputable def z33 (x0:List UInt8) (x1 x2 x3 x4 x5:Int):Option PV :=
 runW EE z30 (za EE zx 15 (mkT 73 [(1,(.ptr 0 0)),(5,(.str x0)),(6,(.int .i64 x1))]) [(.cells z6n [(.int .i64 x2),(.int .i64 x3),(.int .i64 x4),(.int .i64 x5)] false)])
noncomputable def z32 (x0:List UInt8) (x1 x2 x3 x4 x5:Int):Option PV :=
 runW EE z30 (za EE zx 17 (mkT 73 [(1,(.ptr 0 0)),(5,(.str x0)),(6,(.int .i64 x1))]) [(.cells z6n [(.int .i64 x2),(.int .i64 x3),(.int .i64 x4),(.int .i64 x5)] false)])
noncomputable def z3h (a0:Int):Option PV:=callF EE zxx [(.int .i64 a0)]
noncomputable def zxe (a0:Int):Option PV:=callF EE z10z [(.int .i64 a0)]
noncomputable def z1a9 (a0:Int):Option PV:=callF EE z186 [(.int .i64 a0)]
noncomputable def zlg (a0:Int):Option PV:=callF EE zu7 [(.int .i64 a0)]
noncomputable def z49 (a0 a1:Int):Option PV:=callF EE zbx [(.int .i64 a0),(.int .i64 a1)]
noncomputable def z1gb (a0 a1:Int):Option PV:=callF EE z189 [(.int .i64 a0),(.int .i64 a1)]
noncomputable def z1ab (a0 a1:Int):Option PV:=callF EE z188 [(.int .i64 a0),(.int .i64 a1)]
noncomputable def z1aa (a0 a1:Int):Option PV:=callF EE z187 [(.int .i64 a0),(.int .i64 a1)]
noncomputable abbrev z1ce:List TI:=funTI EE zlt
noncomputable def z1h2 (a0_0:List UInt8) (a0_1 a0_2:Int) (a0_3:Bool) (a0_4:List UInt8) (a0_5:List PV) (a0_6:Bool) (a0_7 a0_8 a0_9 a0_10 a0_11 a0_12 a0_13 a0_14 a0_15:Int) (a0_16:List UInt8) (a0_17 a0_18 a0_19 a0_20 a0_21 a0_22 a0_23:Int) (a0_24:List UInt8) (a1:List PV):Option PV:=callF EE zlt [(.agg [(.str a0_0),(.int .i64 a0_1),(.int .i64 a0_2),(.bool a0_3),(.str a0_4),(.sl 4 a0_5),(.bool a0_6),(.int .i64 a0_7),(.int .i64 a0_8),(.int .i64 a0_9),(.int .i64 a0_10),(.int .i64 a0_11),(.int .i64 a0_12),(.int .i64 a0_13),(.int .u8 a0_14),(.int .i64 a0_15),(.str a0_16),(.int .i64 a0_17),(.int .i64 a0_18),(.int .i64 a0_19),(.int .i64 a0_20),(.int .i64 a0_21),(.int .u8 a0_22),(.int .i64 a0_23),(.str a0_24)]),(.sl 1 a1)]
noncomputable def zl9 (x0:List PV) (x1 x2:Int):Option PV :=
 runW EE z1ce (za EE zlt 4 (mkT 20 [(10,(.sl 1 x0)),(11,(.int .i64 x1)),(12,(.int .i64 x2))]) [])
noncomputable abbrev z13b:List TI:=funTI EE zkc
noncomputable def z1f4 (a0_0:List UInt8) (a0_1 a0_2:Int) (a0_3:Bool) (a0_4:List UInt8) (a0_5:List PV) (a0_6:Bool) (a0_7 a0_8 a0_9 a0_10 a0_11 a0_12 a0_13 a0_14 a0_15:Int) (a0_16:List UInt8) (a0_17 a0_18 a0_19 a0_20 a0_21 a0_22 a0_23:Int) (a0_24:List UInt8) (a1:Int):Option PV:=callF EE zkc [(.agg [(.str a0_0),(.int .i64 a0_1),(.int .i64 a0_2),(.bool a0_3),(.str a0_4),(.sl 4 a0_5),(.bool a0_6),(.int .i64 a0_7),(.int .i64 a0_8),(.int .i64 a0_9),(.int .i64 a0_10),(.int .i64 a0_11),(.int .i64 a0_12),(.int .i64 a0_13),(.int .u8 a0_14),(.int .i64 a0_15),(.str a0_16),(.int .i64 a0_17),(.int .i64 a0_18),(.int .i64 a0_19),(.int .i64 a0_20),(.int .i64 a0_21),(.int .u8 a0_22),(.int .i64 a0_23),(.str a0_24)]),(.int .i64 a1)]
noncomputable def z172 (x0:List UInt8) (x1 x2:Int) (x3:Bool) (x4:List UInt8) (x5:List PV) (x6:Bool) (x7 x8 x9 xA xB xC xD xE xF:Int) (xG:List UInt8) (xH xI xJ xK xL xM xN:Int) (xO:List UInt8) (xP xQ xR:Int) (xS:Bool) (xT:List UInt8):Option PV :=
 runW EE z13b (za EE zkc 2 (mkT 41 [(2,(.ptr 0 0)),(3,(.ptr 1 0)),(4,(.ptr 2 0))]) [(.cells zgr [(.str x0),(.int .i64 x1),(.int .i64 x2),(.bool x3),(.str x4),(.sl 4 x5),(.bool x6),(.int .i64 x7),(.int .i64 x8),(.int .i64 x9),(.int .i64 xA),(.int .i64 xB),(.int .i64 xC),(.int .i64 xD),(.int .u8 xE),(.int .i64 xF),(.str xG),(.int .i64 xH),(.int .i64 xI),(.int .i64 xJ),(.int .i64 xK),(.int .i64 xL),(.int .u8 xM),(.int .i64 xN),(.str xO)] false),(.cells z16 [(.int .i64 xP)] false),(.cells zp [(.int .i64 xQ),(.int .i64 xR),(.bool xS),(.str xT)] false)])
noncomputable def zqb (x0:List UInt8) (x1 x2:Int) (x3:Bool) (x4:List UInt8) (x5:List PV) (x6:Bool) (x7 x8 x9 xA xB xC xD xE xF:Int) (xG:List UInt8) (xH xI xJ xK xL xM xN:Int) (xO:List UInt8) (xP xQ xR:Int) (xS:Bool) (xT:List UInt8):Option PV :=
 runW EE z13b (za EE zkc 4 (mkT 41 [(2,(.ptr 0 0)),(3,(.ptr 1 0)),(4,(.ptr 2 0))]) [(.cells zgr [(.str x0),(.int .i64 x1),(.int .i64 x2),(.bool x3),(.str x4),(.sl 4 x5),(.bool x6),(.int .i64 x7),(.int .i64 x8),(.int .i64 x9),(.int .i64 xA),(.int .i64 xB),(.int .i64 xC),(.int .i64 xD),(.int .u8 xE),(.int .i64 xF),(.str xG),(.int .i64 xH),(.int .i64 xI),(.int .i64 xJ),(.int .i64 xK),(.int .i64 xL),(.int .u8 xM),(.int .i64 xN),(.str xO)] false),(.cells z16 [(.int .i64 xP)] false),(.cells zp [(.int .i64 xQ),(.int .i64 xR),(.bool xS),(.str xT)] false)])
noncomputable def zyd (a0_0 a0_1:Int):Option PV:=callF EE z112 [(.agg [(.int .i64 a0_0),(.int .i64 a0_1)])]
noncomputable def z5v (a0:Int):Option PV:=callF EE zuc [(.int .i64 a0)]
noncomputable abbrev z17:List TI:=funTI EE zz
noncomputable def z9g (a0:List UInt8) (a1:Int):Option PV:=callF EE zz [(.str a0),(.int .i64 a1)]
noncomputable def zjz (x0:List UInt8) (x1:Int):Option PV :=
 runW EE z17 (za EE zz 8 (mkT 125 [(0,(.str x0)),(1,(.int .i64 x1))]) [])
noncomputable def zik (x0:List UInt8) (x1:Int):Option PV :=
 runW EE z17 (za EE zz 10 (mkT 125 [(0,(.str x0)),(6,(.int .u64 x1))]) [])
noncomputable def zij (x0:List UInt8) (x1:Int):Option PV :=
 runW EE z17 (za EE zz 11 (mkT 125 [(0,(.str x0)),(6,(.int .u64 x1))]) [])
noncomputable def z3x (x0:List UInt8) (x1:Int):Option PV :=
 runW EE z17 (za EE zz 20 (mkT 125 [(0,(.str x0)),(7,(.int .i64 x1))]) [])
noncomputable def zwz (x0:List UInt8) (x1:Int):Option PV :=
 runW EE z17 (za EE zz 30 (mkT 125 [(0,(.str x0)),(7,(.int .i64 x1))]) [])
noncomputable def zx1 (x0:Int):Option PV :=
 runW EE z17 (za EE zz 21 (mkT 125 [(7,(.int .i64 x0))]) [])
noncomputable def z7k (x0:List UInt8) (x1:Int):Option PV :=
 runW EE z17 (za EE zz 22 (mkT 125 [(0,(.str x0)),(7,(.int .i64 x1))]) [])
noncomputable def zx0 (x0:Int):Option PV :=
 runW EE z17 (za EE zz 23 (mkT 125 [(7,(.int .i64 x0))]) [])
noncomputable def z7j (x0:List UInt8) (x1:Int):Option PV :=
 runW EE z17 (za EE zz 24 (mkT 125 [(0,(.str x0)),(7,(.int .i64 x1))]) [])
noncomputable def zbi (x0:Int):Option PV :=
 runW EE z17 (za EE zz 25 (mkT 125 [(7,(.int .i64 x0))]) [])
noncomputable def zii (x0:List UInt8) (x1:Int):Option PV :=
 runW EE z17 (za EE zz 26 (mkT 125 [(0,(.str x0)),(7,(.int .i64 x1))]) [])
noncomputable def z119 (a0 a1:Int):Option PV:=callF EE zpb [(.int .i64 a0),(.int .i64 a1)]
noncomputable def zl0 (a0:Int):Option PV:=callF EE zxy [(.int .u64 a0)]
noncomputable abbrev z54:List TI:=funTI EE z1u
noncomputable def zof (a0:List PV) (a1:List UInt8):Option PV:=callF EE z1u [(.sl 1 a0),(.str a1)]
noncomputable def zmo (x0:List PV) (x1:List UInt8) (x2:Int):Option PV :=
 runW EE z54 (za EE z1u 10 (mkT 75 [(0,(.sl 1 x0)),(1,(.str x1)),(5,(.int .i64 x2))]) [])
noncomputable def zfo (x0:List PV) (x1:List UInt8) (x2:Int):Option PV :=
 runW EE z54 (za EE z1u 11 (mkT 75 [(0,(.sl 1 x0)),(1,(.str x1)),(5,(.int .i64 x2))]) [])
noncomputable def z9z (x0:List PV) (x1:List UInt8) (x2:Int) (x3:List PV) (x4 x5:Int):Option PV :=
 runW EE z54 (za EE z1u 12 (mkT 75 [(0,(.sl 1 x0)),(1,(.str x1)),(5,(.int .i64 x2)),(39,(.sl 1 x3)),(40,(.int .i64 x4)),(41,(.int .i64 x5))]) [])
noncomputable def zmn (x0:List PV) (x1:List UInt8) (x2:Int) (x3:List UInt8) (x4:List PV) (x5 x6:Int):Option PV :=
 runW EE z54 (za EE z1u 16 (mkT 75 [(0,(.sl 1 x0)),(1,(.str x1)),(5,(.int .i64 x2)),(7,(.str x3)),(39,(.sl 1 x4)),(40,(.int .i64 x5)),(41,(.int .i64 x6))]) [])
noncomputable def qk11 (f p:Nat) (T:List PV) (y0:List PV):Option PV:=runW EE z54 (za EE f p T [(.cells zif [(.ptr 0 0),(.lall 1)] false),(.row zie 1 y0 0 none)])
noncomputable def zfn (x0:List PV) (x1:List UInt8) (x2:List PV):Option PV :=
 qk11 z1u 20 (mkT 75 [(0,(.sl 1 x0)),(1,(.str x1)),(8,(.ptr 0 0))]) x2
noncomputable def zil (x0:List PV) (x1:List UInt8):Option PV :=
 runW EE z54 (za EE z1u 20 (mkT 75 [(0,(.sl 1 x0)),(1,(.str x1)),(8,(.ptr 0 0))]) [(.cells zif [(.ptr 0 0),.sl0] false)])
noncomputable def zfm (x0:List PV) (x1:List UInt8) (x2:List PV):Option PV :=
 qk11 z1u 21 (mkT 75 [(0,(.sl 1 x0)),(1,(.str x1)),(8,(.ptr 0 0))]) x2
noncomputable def z9y (x0:List UInt8) (x1:List PV) (x2 x3:Int) (x4:List PV):Option PV :=
 qk11 z1u 22 (mkT 75 [(1,(.str x0)),(8,(.ptr 0 0)),(63,(.sl 1 x1)),(64,(.int .i64 x2)),(65,(.int .i64 x3))]) x4
noncomputable abbrev zmm:List TI:=funTI EE z87
noncomputable def z8l (a0 a1:Int):Option PV:=callF EE z87 [(.int .u64 a0),(.int .i64 a1)]
noncomputable def z2w (x0 x1 x2:Int) (x3:List PV) (x4:Nat):Option PV :=
 runW EE zmm (za EE z87 3 (mkT 28 [(0,(.int .u64 x0)),(1,(.int .i64 x1)),(5,(.ptr 0 0)),(6,(.int .i64 x2))]) [(.row z108 1 x3 0 (some x4))])
noncomputable def z3t (x0 x1 x2:Int) (x3:List PV) (x4:Nat):Option PV :=
 runW EE zmm (za EE z87 5 (mkT 28 [(0,(.int .u64 x0)),(1,(.int .i64 x1)),(5,(.ptr 0 0)),(6,(.int .i64 x2))]) [(.row z108 1 x3 0 (some x4))])
noncomputable def z8w (a0 a1:Int):Option PV:=callF EE zgf [(.int .i64 a0),(.int .i64 a1)]
noncomputable def z8v (a0 a1:Int):Option PV:=callF EE zge [(.int .i64 a0),(.int .i64 a1)]
noncomputable abbrev z7c:List TI:=funTI EE z2h
noncomputable def z42 (a0:Int):Option PV:=callF EE z2h [(.int .i64 a0)]
noncomputable def z5t (x0 x1:Int):Option PV :=
 runW EE z7c (za EE z2h 5 (mkT 45 [(6,(.int .i64 x0)),(7,(.int .i64 x1))]) [])
noncomputable def z5s (x0 x1 x2:Int):Option PV :=
 runW EE z7c (za EE z2h 8 (mkT 45 [(6,(.int .i64 x0)),(7,(.int .i64 x1)),(8,(.int .i64 x2))]) [])
noncomputable def z50 (x0 x1 x2:Int):Option PV :=
 runW EE z7c (za EE z2h 12 (mkT 45 [(6,(.int .i64 x0)),(7,(.int .i64 x1)),(9,(.int .i64 x2))]) [])
noncomputable def zai  : Option PV:=callF EE zd0 []
noncomputable abbrev z7b:List TI:=funTI EE z2f
noncomputable def zc8 (a0_0:Bool) (a0_1 a0_2 a0_3 a0_4 a0_5 a0_6 a0_7 a0_8 a0_9:Int) (a0_10:List UInt8) (a0_11 a0_12 a0_13 a0_14 a0_15 a0_16 a0_17:Int) (a0_18:List UInt8) (a1:Int):Option PV:=callF EE z2f [(.agg [(.bool a0_0),(.int .i64 a0_1),(.int .i64 a0_2),(.int .i64 a0_3),(.int .i64 a0_4),(.int .i64 a0_5),(.int .i64 a0_6),(.int .i64 a0_7),(.int .u8 a0_8),(.int .i64 a0_9),(.str a0_10),(.int .i64 a0_11),(.int .i64 a0_12),(.int .i64 a0_13),(.int .i64 a0_14),(.int .i64 a0_15),(.int .u8 a0_16),(.int .i64 a0_17),(.str a0_18)]),(.int .i64 a1)]
noncomputable def z8e  : Option PV :=
 runW EE z7b (za EE z2f 5 (mkT 40 []) [])
noncomputable def zfa (x0:Int) (x1:Bool) (x2 x3 x4 x5 x6 x7 x8 x9 xA:Int) (xB:List UInt8) (xC xD xE xF xG xH xI:Int) (xJ:List UInt8):Option PV :=
 runW EE z7b (za EE z2f 6 (mkT 40 [(2,(.ptr 0 0)),(6,(.int .i64 x0))]) [(.cells z1q [(.bool x1),(.int .i64 x2),(.int .i64 x3),(.int .i64 x4),(.int .i64 x5),(.int .i64 x6),(.int .i64 x7),(.int .i64 x8),(.int .u8 x9),(.int .i64 xA),(.str xB),(.int .i64 xC),(.int .i64 xD),(.int .i64 xE),(.int .i64 xF),(.int .i64 xG),(.int .u8 xH),(.int .i64 xI),(.str xJ)] false)])
noncomputable def z5n (x0 x1:Int) (x2:Bool) (x3 x4 x5 x6 x7 x8 x9 xA xB:Int) (xC:List UInt8) (xD xE xF xG xH xI xJ:Int) (xK:List UInt8) (xL:List PV):Option PV :=
 runW EE z7b (za EE z2f 8 (mkT 40 [(2,(.ptr 0 0)),(6,(.int .i64 x0)),(7,(.lall 1)),(8,(.int .i64 x1))]) [(.cells z1q [(.bool x2),(.int .i64 x3),(.int .i64 x4),(.int .i64 x5),(.int .i64 x6),(.int .i64 x7),(.int .i64 x8),(.int .i64 x9),(.int .u8 xA),(.int .i64 xB),(.str xC),(.int .i64 xD),(.int .i64 xE),(.int .i64 xF),(.int .i64 xG),(.int .i64 xH),(.int .u8 xI),(.int .i64 xJ),(.str xK)] false),(.row zp 4 xL 0 none)])
noncomputable def zac (a0:Int):Option PV:=callF EE zcv [(.int .i64 a0)]
noncomputable def zdw (a0 a1:Int):Option PV:=callF EE zgd [(.int .i64 a0),(.int .i64 a1)]
noncomputable def zc2 (a0_0 a0_1 a1 a2:Int):Option PV:=callF EE zew [(.agg [(.int .i64 a0_0),(.int .i64 a0_1)]),(.int .i64 a1),(.int .i64 a2)]
noncomputable def zab (a0_0 a0_1:Int):Option PV:=callF EE zcu [(.agg [(.int .i64 a0_0),(.int .i64 a0_1)])]
noncomputable abbrev zbg:List TI:=funTI EE z39
noncomputable def zhv (a0:Int):Option PV:=callF EE z39 [(.int .i64 a0)]
noncomputable def zdh  : Option PV :=
 runW EE zbg (za EE z39 2 (mkT 25 []) [])
noncomputable def zdg (x0:Int):Option PV :=
 runW EE zbg (za EE z39 3 (mkT 25 [(0,(.int .i64 x0))]) [])
noncomputable abbrev z51:List TI:=funTI EE z1i
noncomputable def z24 (a0:Int):Option PV:=callF EE z1i [(.int .i64 a0)]
noncomputable def z60  : Option PV :=
 runW EE z51 (za EE z1i 2 (mkT 27 []) [])
noncomputable def z9s (x0:Int):Option PV :=
 runW EE z51 (za EE z1i 3 (mkT 27 [(0,(.int .i64 x0))]) [])
noncomputable def z3k (x0:List UInt8):Option PV :=
 runW EE z51 (za EE z1i 4 (mkT 27 [(3,(.str x0))]) [])
noncomputable def zdm (a0:Int):Option PV:=callF EE zu8 [(.int .i64 a0)]
noncomputable def zv5 (a0:List UInt8) (a1:List UInt8):Option PV:=callF EE zu4 [(.str a0),(.str a1)]
noncomputable def zdy (a0:Int):Option PV:=callF EE zy0 [(.int .i64 a0)]
noncomputable def za3 (a0:Int) (a1:List UInt8):Option PV:=callF EE zub [(.int .i64 a0),(.str a1)]
noncomputable def zom (a0:Int):Option PV:=callF EE zp9 [(.int .i64 a0)]
noncomputable def zzo (a0:Int):Option PV:=callF EE zxw [(.int .i64 a0)]
noncomputable def zmh  : Option PV:=callF EE zuj []
noncomputable def zsq  : Option PV:=callF EE zy2 []
noncomputable def z8y (a0:Int):Option PV:=callF EE zy4 [(.int .i64 a0)]
noncomputable def z181 (a0_0:Bool) (a0_1 a0_2 a0_3 a0_4 a0_5 a0_6 a0_7 a0_8 a0_9:Int) (a0_10:List UInt8) (a0_11 a0_12 a0_13 a0_14 a0_15 a0_16 a0_17:Int) (a0_18:List UInt8) (a1:Int):Option PV:=callF EE zxv [(.agg [(.bool a0_0),(.int .i64 a0_1),(.int .i64 a0_2),(.int .i64 a0_3),(.int .i64 a0_4),(.int .i64 a0_5),(.int .i64 a0_6),(.int .i64 a0_7),(.int .u8 a0_8),(.int .i64 a0_9),(.str a0_10),(.int .i64 a0_11),(.int .i64 a0_12),(.int .i64 a0_13),(.int .i64 a0_14),(.int .i64 a0_15),(.int .u8 a0_16),(.int .i64 a0_17),(.str a0_18)]),(.int .i64 a1)]
noncomputable def z3z (a0:Int):Option PV:=callF EE zeu [(.int .i64 a0)]
noncomputable def z2t (a0:Int) (a1:List UInt8):Option PV:=callF EE zev [(.int .i64 a0),(.str a1)]
noncomputable abbrev zn2:List TI:=funTI EE z5f
noncomputable def zbz (a0:Int) (a1:List UInt8) (a2:Int):Option PV:=callF EE z5f [(.int .i64 a0),(.str a1),(.int .i64 a2)]
noncomputable def z5k (x0 x1:Int) (x2:List UInt8):Option PV :=
 runW EE zn2 (za EE z5f 4 (mkT 26 [(0,(.int .i64 x0)),(2,(.int .i64 x1)),(7,(.str x2))]) [])
noncomputable abbrev zn4:List TI:=funTI EE z5h
noncomputable def z5q (a0:Int):Option PV:=callF EE z5h [(.int .i64 a0)]
noncomputable def z5p (x0:Int) (x1:List UInt8):Option PV :=
 runW EE zn4 (za EE z5h 6 (mkT 36 [(3,(.int .u64 x0)),(4,(.str x1))]) [])
noncomputable def num_Sub (a0 a1:Int):Option PV:=callF EE z185 [(.int .i64 a0),(.int .i64 a1)]
noncomputable abbrev zwu:List TI:=funTI EE zet
noncomputable def z1di (a0 a1 a2:Int):Option PV:=callF EE zet [(.int .i64 a0),(.int .i64 a1),(.int .i64 a2)]
noncomputable def ziu (x0:Bool) (x1:Int):Option PV :=
 runW EE zwu (za EE zet 9 (mkT 66 [(10,(.bool x0)),(11,(.int .u64 x1))]) [])
noncomputable def zxf (x0:Int):Option PV :=
 runW EE zwu (za EE zet 10 (mkT 66 [(11,(.int .u64 x0))]) [])
noncomputable def zyw (a0:Int):Option PV:=callF EE zxp [(.int .i64 a0)]
noncomputable abbrev z13c:List TI:=funTI EE ze9
noncomputable def z13g (a0:Int) (a1:PV):Option PV:=callF EE ze9 [(.int .i64 a0),a1]
noncomputable def z9h (x0:PV) (x1 x2:Int):Option PV :=
 runW EE z13c (za EE ze9 2 (mkT 26 [(1,(.opq x0 0)),(5,(.int .i64 x1)),(6,(.int .i64 x2))]) [])
noncomputable def z1bz (a0:Int) (q0:PV) (q1:PV):Option PV:=callF EE zeq [(.int .i64 a0),q0,q1]
noncomputable def z1jt (a0 a1:Int):Option PV:=callF EE z14z [(.int .u64 a0),(.int .u64 a1)]
noncomputable def z8n (a0:List UInt8) (a1:List UInt8):Option PV:=callF EE zg5 [(.str a0),(.str a1)]
noncomputable def z15f (a0:Int):Option PV:=callF EE zuf [(.int .u64 a0)]
noncomputable abbrev zbh:List TI:=funTI EE z4g
noncomputable def zec (a0:Int):Option PV:=callF EE z4g [(.int .i64 a0)]
noncomputable def zdz  : Option PV :=
 runW EE zbh (za EE z4g 2 (mkT 30 []) [])
noncomputable def zl1 (x0:Int):Option PV :=
 runW EE zbh (za EE z4g 3 (mkT 30 [(0,(.int .i64 x0))]) [])
noncomputable def z6j (x0:List UInt8) (x1:Int) (x2:List UInt8) (x3:Nat):Option PV :=
 runW EE zbh (za EE z4g 6 (mkT 30 [(3,(.str x0)),(4,(.int .i64 x1)),(17,(.ptr 0 0))]) [(.iter x2 x3)])
noncomputable abbrev z6p:List TI:=funTI EE z22
noncomputable def z2d (a0_0:Bool) (a0_1:List PV):Option PV:=callF EE z22 [(.agg [(.bool a0_0),(.sl 1 a0_1)])]
noncomputable def zr (x0:Int) (x1:Bool) (x2:List PV):Option PV :=
 runW EE z6p (za EE z22 2 (mkT 43 [(1,(.ptr 0 0)),(4,(.int .i64 x0))]) [(.cells zn [(.bool x1),(.sl 1 x2)] false)])
noncomputable def z7g (x0:Int):Option PV :=
 runW EE z6p (za EE z22 8 (mkT 43 [(5,(.int .u64 x0))]) [])
noncomputable def z3c (x0:Int) (x1:Bool) (x2:List PV):Option PV :=
 runW EE z6p (za EE z22 9 (mkT 43 [(1,(.ptr 0 0)),(5,(.int .u64 x0))]) [(.cells zn [(.bool x1),(.sl 1 x2)] false)])
noncomputable abbrev zn6:List TI:=funTI EE z5j
noncomputable def z7u (a0_0:Bool) (a0_1:List PV) (a1_0:Bool) (a1_1:List PV):Option PV:=callF EE z5j [(.agg [(.bool a0_0),(.sl 1 a0_1)]),(.agg [(.bool a1_0),(.sl 1 a1_1)])]
noncomputable def zfh (x0:List PV) (x1:Bool) (x2:List PV) (x3:Bool) (x4:List PV) (x5:Bool):Option PV :=
 runW EE zn6 (za EE z5j 3 (mkT 41 [(2,(.ptr 0 0)),(3,(.ptr 1 0)),(4,(.ptr 2 0)),(5,(.sl 1 x0))]) [(.cells zn [(.bool x1),(.sl 1 x2)] false),(.cells zn [(.bool x3),(.sl 1 x4)] false),(.cells zn [(.bool x5),.sl0] false)])
noncomputable abbrev zsz:List TI:=funTI EE z6t
noncomputable def z13 (a0:Int):Option PV:=callF EE z6t [(.int .i64 a0)]
noncomputable def z74 (x0 x1:Int) (x2:Bool):Option PV :=
 runW EE zsz (za EE z6t 4 (mkT 24 [(0,(.int .i64 x0)),(2,(.ptr 0 0)),(3,(.int .u64 x1))]) [(.cells zn [(.bool x2),.sl0] false)])
noncomputable def z7t (a0_0:Bool) (a0_1:List PV) (a1_0:Bool) (a1_1:List PV):Option PV:=callF EE zf3 [(.agg [(.bool a0_0),(.sl 1 a0_1)]),(.agg [(.bool a1_0),(.sl 1 a1_1)])]
noncomputable def zaj (a0_0:Bool) (a0_1:List PV):Option PV:=callF EE zd2 [(.agg [(.bool a0_0),(.sl 1 a0_1)])]
noncomputable abbrev z6o:List TI:=funTI EE z1l
noncomputable def z72 (a0_0:Bool) (a0_1:List PV) (a1_0:Bool) (a1_1:List PV):Option PV:=callF EE z1l [(.agg [(.bool a0_0),(.sl 1 a0_1)]),(.agg [(.bool a1_0),(.sl 1 a1_1)])]
noncomputable def qk13 (f p:Nat) (T:List PV) (y0:Bool) (y1:List PV) (y2:Bool) (y3:List PV) (y4:Bool) (y5:List PV) (y6:Nat):Option PV:=runW EE z6o (za EE f p T [(.cells zn [(.bool y0),(.sl 1 y1)] false),(.cells zn [(.bool y2),(.sl 1 y3)] false),(.cells zn [(.bool y4),.sl0] false),(.row z9d 1 y5 0 (some y6))])
noncomputable def zdj (x0:Int) (x1:Bool) (x2:List PV) (x3:Bool) (x4:List PV) (x5:Bool) (x6:List PV) (x7:Nat):Option PV :=
 qk13 z1l 3 (mkT 57 [(2,(.ptr 0 0)),(3,(.ptr 1 0)),(4,(.ptr 2 0)),(5,(.lall 3)),(6,(.int .i64 x0))]) x1 x2 x3 x4 x5 x6 x7
noncomputable def z10 (x0 x1 x2:Int) (x3:Bool) (x4:List PV) (x5:Bool) (x6:List PV) (x7:Bool) (x8:List PV) (x9:Nat) (xA:List PV) (xB:Nat):Option PV :=
 runW EE z6o (za EE z1l 8 (mkT 57 [(2,(.ptr 0 0)),(3,(.ptr 1 0)),(4,(.ptr 2 0)),(5,(.lall 3)),(6,(.int .i64 x0)),(7,(.lall 4)),(8,(.int .u64 x1)),(9,(.int .i64 x2))]) [(.cells zn [(.bool x3),(.sl 1 x4)] false),(.cells zn [(.bool x5),(.sl 1 x6)] false),(.cells zn [(.bool x7),.sl0] false),(.row z9d 1 x8 0 (some x9)),(.row z9d 1 xA 0 (some xB))])
noncomputable def z2m (x0:List PV) (x1:Int) (x2:Bool) (x3:List PV) (x4:Bool) (x5:List PV) (x6:Bool):Option PV :=
 runW EE z6o (za EE z1l 3 (mkT 57 [(2,(.ptr 0 0)),(3,(.ptr 1 0)),(4,(.ptr 2 0)),(5,(.sl 1 x0)),(6,(.int .i64 x1))]) [(.cells zn [(.bool x2),(.sl 1 x3)] false),(.cells zn [(.bool x4),(.sl 1 x5)] false),(.cells zn [(.bool x6),.sl0] false)])
noncomputable def zv (x0:List PV) (x1 x2 x3:Int) (x4:Bool) (x5:List PV) (x6:Bool) (x7:List PV) (x8:Bool) (x9:List PV) (xA:Nat):Option PV :=
 qk13 z1l 8 (mkT 57 [(2,(.ptr 0 0)),(3,(.ptr 1 0)),(4,(.ptr 2 0)),(5,(.sl 1 x0)),(6,(.int .i64 x1)),(7,(.lall 3)),(8,(.int .u64 x2)),(9,(.int .i64 x3))]) x4 x5 x6 x7 x8 x9 xA
noncomputable def zdv (a0:Int):Option PV:=callF EE zgc [(.int .i64 a0)]
noncomputable def z8u (a0 a1:Int):Option PV:=callF EE zgb [(.int .i64 a0),(.int .i64 a1)]
noncomputable def z20 (a0 a1:Int):Option PV:=callF EE zga [(.int .i64 a0),(.int .i64 a1)]
noncomputable def z5r (a0:Int):Option PV:=callF EE zez [(.int .i64 a0)]
noncomputable abbrev zei:List TI:=funTI EE z48
noncomputable def z3i (a0 a1:Int):Option PV:=callF EE z48 [(.int .i64 a0),(.int .i64 a1)]
noncomputable def zfg (x0 x1:Int):Option PV :=
 runW EE zei (za EE z48 10 (mkT 23 [(0,(.int .i64 x0)),(5,(.int .i64 x1))]) [])
noncomputable def zff (x0 x1:Int):Option PV :=
 runW EE zei (za EE z48 15 (mkT 23 [(0,(.int .i64 x0)),(5,(.int .i64 x1))]) [])
noncomputable abbrev zo6:List TI:=funTI EE z63
noncomputable def z6i (a0 a1 a2:Int):Option PV:=callF EE z63 [(.int .i64 a0),(.int .i64 a1),(.int .i64 a2)]
noncomputable def z6a (x0 x1 x2 x3:Int):Option PV :=
 runW EE zo6 (za EE z63 3 (mkT 25 [(0,(.int .i64 x0)),(1,(.int .i64 x1)),(7,(.int .i64 x2)),(8,(.int .i64 x3))]) [])
noncomputable abbrev zbf:List TI:=funTI EE z38
noncomputable def z6z (a0_0:Bool) (a0_1 a0_2 a0_3 a0_4 a0_5 a0_6 a0_7 a0_8 a0_9:Int) (a0_10:List UInt8) (a0_11 a0_12 a0_13 a0_14 a0_15 a0_16 a0_17:Int) (a0_18:List UInt8):Option PV:=callF EE z38 [(.agg [(.bool a0_0),(.int .i64 a0_1),(.int .i64 a0_2),(.int .i64 a0_3),(.int .i64 a0_4),(.int .i64 a0_5),(.int .i64 a0_6),(.int .i64 a0_7),(.int .u8 a0_8),(.int .i64 a0_9),(.str a0_10),(.int .i64 a0_11),(.int .i64 a0_12),(.int .i64 a0_13),(.int .i64 a0_14),(.int .i64 a0_15),(.int .u8 a0_16),(.int .i64 a0_17),(.str a0_18)])]
noncomputable def z23  : Option PV :=
 runW EE zbf (za EE z38 2 (mkT 46 []) [])
noncomputable def zde (x0:Bool) (x1 x2 x3 x4 x5 x6 x7 x8 x9:Int) (xA:List UInt8) (xB xC xD xE xF xG xH:Int) (xI:List UInt8):Option PV :=
 runW EE zbf (za EE z38 3 (mkT 46 [(1,(.ptr 0 0))]) [(.cells z1q [(.bool x0),(.int .i64 x1),(.int .i64 x2),(.int .i64 x3),(.int .i64 x4),(.int .i64 x5),(.int .i64 x6),(.int .i64 x7),(.int .u8 x8),(.int .i64 x9),(.str xA),(.int .i64 xB),(.int .i64 xC),(.int .i64 xD),(.int .i64 xE),(.int .i64 xF),(.int .u8 xG),(.int .i64 xH),(.str xI)] false)])
noncomputable abbrev zcn:List TI:=funTI EE z3r
noncomputable def zc9 (a0_0:Bool) (a0_1 a0_2 a0_3 a0_4 a0_5 a0_6 a0_7 a0_8 a0_9:Int) (a0_10:List UInt8) (a0_11 a0_12 a0_13 a0_14 a0_15 a0_16 a0_17:Int) (a0_18:List UInt8) (a1:Int):Option PV:=callF EE z3r [(.agg [(.bool a0_0),(.int .i64 a0_1),(.int .i64 a0_2),(.int .i64 a0_3),(.int .i64 a0_4),(.int .i64 a0_5),(.int .i64 a0_6),(.int .i64 a0_7),(.int .u8 a0_8),(.int .i64 a0_9),(.str a0_10),(.int .i64 a0_11),(.int .i64 a0_12),(.int .i64 a0_13),(.int .i64 a0_14),(.int .i64 a0_15),(.int .u8 a0_16),(.int .i64 a0_17),(.str a0_18)]),(.int .i64 a1)]
noncomputable def zfc  : Option PV :=
 runW EE zcn (za EE z3r 4 (mkT 46 []) [])
noncomputable def zfb (x0:Int) (x1:Bool) (x2 x3 x4 x5 x6 x7 x8 x9 xA:Int) (xB:List UInt8) (xC xD xE xF xG xH xI:Int) (xJ:List UInt8):Option PV :=
 runW EE zcn (za EE z3r 5 (mkT 46 [(1,(.int .i64 x0)),(2,(.ptr 0 0))]) [(.cells z1q [(.bool x1),(.int .i64 x2),(.int .i64 x3),(.int .i64 x4),(.int .i64 x5),(.int .i64 x6),(.int .i64 x7),(.int .i64 x8),(.int .u8 x9),(.int .i64 xA),(.str xB),(.int .i64 xC),(.int .i64 xD),(.int .i64 xE),(.int .i64 xF),(.int .i64 xG),(.int .u8 xH),(.int .i64 xI),(.str xJ)] false)])
noncomputable def zdx (a0 a1:Int):Option PV:=callF EE zgg [(.int .i64 a0),(.int .i64 a1)]
noncomputable def zo9 (a0:List UInt8) (a1:List UInt8):Option PV:=callF EE ziy [(.str a0),(.str a1)]
noncomputable def z1r (a0:Int):Option PV:=callF EE zu9 [(.int .i64 a0)]
noncomputable def z2r (a0:List UInt8) (a1:List UInt8):Option PV:=callF EE zer [(.str a0),(.str a1)]
noncomputable abbrev z19d:List TI:=funTI EE zj2
noncomputable def zq1 (a0 a1 a2:Int):Option PV:=callF EE zj2 [(.int .i64 a0),(.int .i64 a1),(.int .i64 a2)]
noncomputable def zj7 (x0 x1 x2:Int):Option PV :=
 runW EE z19d (za EE zj2 3 (mkT 41 [(0,(.int .i64 x0)),(1,(.int .i64 x1)),(2,(.int .i64 x2))]) [])
noncomputable def zyh (a0:Int):Option PV:=callF EE z114 [(.int .i64 a0)]
noncomputable def zme (a0:Int):Option PV:=callF EE zug [(.int .i64 a0)]
noncomputable abbrev z10a:List TI:=funTI EE zhm
noncomputable def z1aw (a0_0:Bool) (a0_1 a0_2 a0_3 a0_4 a0_5 a0_6 a0_7 a0_8 a0_9:Int) (a0_10:List UInt8) (a0_11 a0_12 a0_13 a0_14 a0_15 a0_16 a0_17:Int) (a0_18:List UInt8):Option PV:=callF EE zhm [(.agg [(.bool a0_0),(.int .i64 a0_1),(.int .i64 a0_2),(.int .i64 a0_3),(.int .i64 a0_4),(.int .i64 a0_5),(.int .i64 a0_6),(.int .i64 a0_7),(.int .u8 a0_8),(.int .i64 a0_9),(.str a0_10),(.int .i64 a0_11),(.int .i64 a0_12),(.int .i64 a0_13),(.int .i64 a0_14),(.int .i64 a0_15),(.int .u8 a0_16),(.int .i64 a0_17),(.str a0_18)])]
noncomputable def zdp  : Option PV :=
 runW EE z10a (za EE zhm 2 (mkT 46 []) [])
noncomputable def z14p (x0:Bool) (x1 x2 x3 x4 x5 x6 x7 x8 x9:Int) (xA:List UInt8) (xB xC xD xE xF xG xH:Int) (xI:List UInt8):Option PV :=
 runW EE z10a (za EE zhm 3 (mkT 46 [(1,(.ptr 0 0))]) [(.cells zo3 [(.bool x0),(.int .i64 x1),(.int .i64 x2),(.int .i64 x3),(.int .i64 x4),(.int .i64 x5),(.int .i64 x6),(.int .i64 x7),(.int .u8 x8),(.int .i64 x9),(.str xA),(.int .i64 xB),(.int .i64 xC),(.int .i64 xD),(.int .i64 xE),(.int .i64 xF),(.int .u8 xG),(.int .i64 xH),(.str xI)] false)])
noncomputable abbrev z16b:List TI:=funTI EE zgx
noncomputable def zsh (a0_0:Bool) (a0_1 a0_2 a0_3 a0_4 a0_5 a0_6 a0_7 a0_8 a0_9:Int) (a0_10:List UInt8) (a0_11 a0_12 a0_13 a0_14 a0_15 a0_16 a0_17:Int) (a0_18:List UInt8) (a1:Int) (a2:Bool):Option PV:=callF EE zgx [(.agg [(.bool a0_0),(.int .i64 a0_1),(.int .i64 a0_2),(.int .i64 a0_3),(.int .i64 a0_4),(.int .i64 a0_5),(.int .i64 a0_6),(.int .i64 a0_7),(.int .u8 a0_8),(.int .i64 a0_9),(.str a0_10),(.int .i64 a0_11),(.int .i64 a0_12),(.int .i64 a0_13),(.int .i64 a0_14),(.int .i64 a0_15),(.int .u8 a0_16),(.int .i64 a0_17),(.str a0_18)]),(.int .i64 a1),(.bool a2)]
noncomputable def zbs (x0:Int) (x1:Bool) (x2:Bool) (x3 x4 x5 x6 x7 x8 x9 xA xB:Int) (xC:List UInt8) (xD xE xF xG xH xI xJ:Int) (xK:List UInt8) (xL xM:Int) (xN:Bool) (xO:List UInt8) (xP xQ xR xS xT xU xV:Int) (xW:List UInt8) (xX xY xZ x36 x37 x38 x39:Int) (x40:List UInt8):Option PV :=
 runW EE z16b (za EE zgx 2 (mkT 51 [(1,(.int .i64 x0)),(2,(.bool x1)),(3,(.ptr 0 0)),(6,(.ptr 1 0)),(7,(.mapr 2))]) [(.cells zo3 [(.bool x2),(.int .i64 x3),(.int .i64 x4),(.int .i64 x5),(.int .i64 x6),(.int .i64 x7),(.int .i64 x8),(.int .i64 x9),(.int .u8 xA),(.int .i64 xB),(.str xC),(.int .i64 xD),(.int .i64 xE),(.int .i64 xF),(.int .i64 xG),(.int .i64 xH),(.int .u8 xI),(.int .i64 xJ),(.str xK)] false),(.cells zp [(.int .i64 xL),(.int .i64 xM),(.bool xN),(.str xO)] false),(.bmap (some (.agg [(.int .i64 xP),(.int .i64 xQ),(.int .i64 xR),(.int .i64 xS),(.int .i64 xT),(.int .u8 xU),(.int .i64 xV),(.str xW)])) (some (.agg [(.int .i64 xX),(.int .i64 xY),(.int .i64 xZ),(.int .i64 x36),(.int .i64 x37),(.int .u8 x38),(.int .i64 x39),(.str x40)])))])
noncomputable def zvj (a0 a1:Int):Option PV:=callF EE zud [(.int .i64 a0),(.int .i64 a1)]
noncomputable def zxd (a0:Int):Option PV:=callF EE z14w [(.int .i64 a0)]
noncomputable abbrev zjc:List TI:=funTI EE z8p
noncomputable def z18l (a0 a1 a2:Int):Option PV:=callF EE z8p [(.int .u64 a0),(.int .u64 a1),(.int .u64 a2)]
noncomputable def zym (x0 x1 x2:Int):Option PV :=
 runW EE zjc (za EE z8p 3 (mkT 135 [(0,(.int .u64 x0)),(1,(.int .u64 x1)),(2,(.int .u64 x2))]) [])
noncomputable def zyl (x0 x1 x2:Int):Option PV :=
 runW EE zjc (za EE z8p 5 (mkT 135 [(0,(.int .u64 x0)),(1,(.int .u64 x1)),(2,(.int .u64 x2))]) [])
noncomputable def z171 (x0 x1 x2 x3 x4 x5 x6 x7 x8:Int):Option PV :=
 runW EE zjc (za EE z8p 17 (mkT 135 [(2,(.int .u64 x0)),(8,(.int .u64 x1)),(9,(.int .u64 x2)),(10,(.int .u64 x3)),(11,(.int .u64 x4)),(13,(.int .u64 x5)),(14,(.int .u64 x6)),(15,(.int .u64 x7)),(16,(.int .u64 x8))]) [])
noncomputable abbrev z16a:List TI:=funTI EE zgw
noncomputable def zk7 (a0:Bool) (a1_0 a1_1:Int):Option PV:=callF EE zgw [(.bool a0),(.agg [(.int .u64 a1_0),(.int .u64 a1_1)])]
noncomputable def zlo (x0:Bool) (x1:List PV) (x2:Nat):Option PV :=
 runW EE z16a (za EE zgw 5 (mkT 31 [(0,(.bool x0)),(3,(.ptr 0 0))]) [(.row z1cc 1 x1 0 (some x2))])
noncomputable def zst (a0 a1:Int):Option PV:=callF EE zy5 [(.int .u64 a0),(.int .u64 a1)]
noncomputable def z7y (a0:List UInt8) (a1:List UInt8):Option PV:=callF EE zat [(.str a0),(.str a1)]
noncomputable abbrev z6b:List TI:=funTI EE z1z
noncomputable def z9c (a0:List PV) (a1:List PV):Option PV:=callF EE z1z [(.sl 1 a0),(.sl 1 a1)]
noncomputable def z1d (x0:List PV) (x1:List PV) (x2:Int) (x3:List PV) (x4:Nat) (x5:List PV) (x6:Nat):Option PV :=
 runW EE z6b (za EE z1z 4 (mkT 57 [(0,(.sl 1 x0)),(1,(.sl 1 x1)),(6,(.lall 0)),(7,(.lall 1)),(8,(.int .i64 x2))]) [(.row z9d 1 x3 0 (some x4)),(.row z9d 1 x5 0 (some x6))])
noncomputable def z12 (x0:List PV) (x1:List PV) (x2:Int) (x3:List PV) (x4:Nat) (x5:List PV) (x6:Nat):Option PV :=
 runW EE z6b (za EE z1z 7 (mkT 57 [(0,(.sl 1 x0)),(1,(.sl 1 x1)),(6,(.lall 0)),(7,(.lall 1)),(8,(.int .i64 x2))]) [(.row z9d 1 x3 0 (some x4)),(.row z9d 1 x5 0 (some x6))])
noncomputable def z1k (x0:List PV) (x1:List PV) (x2:List PV) (x3:Int) (x4:List PV) (x5:Nat):Option PV :=
 runW EE z6b (za EE z1z 4 (mkT 57 [(0,(.sl 1 x0)),(1,(.sl 1 x1)),(6,(.lall 0)),(7,(.sl 1 x2)),(8,(.int .i64 x3))]) [(.row z9d 1 x4 0 (some x5))])
noncomputable def z1m (a0:List PV):Option PV:=callF EE zf2 [(.sl 1 a0)]
noncomputable abbrev zo8:List TI:=funTI EE z65
noncomputable def z2l (a0:List PV) (a1:List PV):Option PV:=callF EE z65 [(.sl 1 a0),(.sl 1 a1)]
noncomputable def zm (x0:List PV) (x1:List PV) (x2 x3:Int) (x4:List PV) (x5:Nat):Option PV :=
 runW EE zo8 (za EE z65 4 (mkT 32 [(0,(.sl 1 x0)),(1,(.sl 1 x1)),(5,(.lall 0)),(6,(.int .u64 x2)),(7,(.int .i64 x3))]) [(.row z9d 1 x4 0 (some x5))])
noncomputable abbrev zo7:List TI:=funTI EE z64
noncomputable def z4i (a0:List PV) (a1:List PV):Option PV:=callF EE z64 [(.sl 1 a0),(.sl 1 a1)]
noncomputable def zf (x0:List PV) (x1:List PV) (x2:Int):Option PV :=
 runW EE zo7 (za EE z64 2 (mkT 28 [(0,(.sl 1 x0)),(1,(.sl 1 x1)),(5,(.int .i64 x2))]) [])
noncomputable abbrev zn5:List TI:=funTI EE z5i
noncomputable def z43 (a0:List PV) (a1:List PV):Option PV:=callF EE z5i [(.sl 1 a0),(.sl 1 a1)]
noncomputable def zj (x0:List PV) (x1:List PV) (x2 x3:Int) (x4:List PV) (x5:Nat):Option PV :=
 runW EE zn5 (za EE z5i 4 (mkT 35 [(0,(.sl 1 x0)),(1,(.sl 1 x1)),(5,(.lall 0)),(6,(.int .u64 x2)),(7,(.int .i64 x3))]) [(.row z9d 1 x4 0 (some x5))])
noncomputable def zj5  : Option PV:=callF EE zf0 []
noncomputable abbrev zle:List TI:=funTI EE z4v
noncomputable def zag (a0:Int):Option PV:=callF EE z4v [(.int .i64 a0)]
noncomputable def z3b (x0 x1 x2:Int):Option PV :=
 runW EE zle (za EE z4v 3 (mkT 24 [(0,(.int .i64 x0)),(3,(.int .i64 x1)),(4,(.int .i64 x2))]) [])
noncomputable def z6y (a0_0 a0_1 a0_2 a0_3 a0_4 a0_5 a0_6:Int) (a0_7:List UInt8):Option PV:=callF EE zcx [(.agg [(.int .i64 a0_0),(.int .i64 a0_1),(.int .i64 a0_2),(.int .i64 a0_3),(.int .i64 a0_4),(.int .u8 a0_5),(.int .i64 a0_6),(.str a0_7)])]
noncomputable def z6x (a0_0 a0_1 a0_2 a0_3 a0_4 a0_5 a0_6:Int) (a0_7:List UInt8) (a1_0 a1_1 a1_2 a1_3 a1_4 a1_5 a1_6:Int) (a1_7:List UInt8) (a2 a3:Int):Option PV:=callF EE zcw [(.agg [(.int .i64 a0_0),(.int .i64 a0_1),(.int .i64 a0_2),(.int .i64 a0_3),(.int .i64 a0_4),(.int .u8 a0_5),(.int .i64 a0_6),(.str a0_7)]),(.agg [(.int .i64 a1_0),(.int .i64 a1_1),(.int .i64 a1_2),(.int .i64 a1_3),(.int .i64 a1_4),(.int .u8 a1_5),(.int .i64 a1_6),(.str a1_7)]),(.int .i64 a2),(.int .i64 a3)]
noncomputable abbrev zeg:List TI:=funTI EE z46
noncomputable def zdk (a0:List UInt8) (a1:List UInt8):Option PV:=callF EE z46 [(.str a0),(.str a1)]
noncomputable def zg2  : Option PV :=
 runW EE zeg (za EE z46 3 (mkT 143 []) [])
noncomputable def zg1 (x0:List UInt8) (x1:List UInt8) (x2:Int):Option PV :=
 runW EE zeg (za EE z46 4 (mkT 143 [(0,(.str x0)),(1,(.str x1)),(5,(.int .i64 x2))]) [])
noncomputable def zco (a0:List UInt8) (a1:List UInt8):Option PV:=callF EE z9o [(.str a0),(.str a1)]
noncomputable def zi1 (a0 a1:Int):Option PV:=callF EE zuh [(.int .i64 a0),(.int .i64 a1)]
noncomputable def zsi (a0_0 a0_1 a0_2 a0_3 a0_4 a0_5 a0_6:Int) (a0_7:List UInt8):Option PV:=callF EE zxu [(.agg [(.int .i64 a0_0),(.int .i64 a0_1),(.int .i64 a0_2),(.int .i64 a0_3),(.int .i64 a0_4),(.int .u8 a0_5),(.int .i64 a0_6),(.str a0_7)])]
noncomputable abbrev zig:List TI:=funTI EE za7
noncomputable def z129 (a0 a1 a2_0 a2_1 a2_2:Int):Option PV:=callF EE za7 [(.int .i64 a0),(.int .i64 a1),(.agg [(.int .i64 a2_0),(.int .i64 a2_1),(.int .i64 a2_2)])]
noncomputable def zlb  : Option PV :=
 runW EE zig (za EE za7 3 (mkT 78 []) [])
noncomputable def z134 (x0 x1:Int) (x2:PV):Option PV :=
 runW EE zig (za EE za7 4 (mkT 78 [(0,(.int .i64 x0)),(1,(.int .i64 x1)),(8,(.opq x2 0))]) [])
noncomputable def zus  : Option PV :=
 runW EE zig (za EE za7 5 (mkT 78 []) [])
noncomputable def zh8 (x0 x1:Int) (x2:PV):Option PV :=
 runW EE zig (za EE za7 6 (mkT 78 [(0,(.int .i64 x0)),(1,(.int .i64 x1)),(8,(.opq x2 0))]) [])
noncomputable def zax (a0 a1 a2 a3 a4:Int):Option PV:=callF EE zpa [(.int .i64 a0),(.int .i64 a1),(.int .u8 a2),(.int .i64 a3),(.int .i64 a4)]
noncomputable def zw4 (a0:Int):Option PV:=callF EE zn8 [(.int .u64 a0)]
noncomputable abbrev z9f:List TI:=funTI EE z2g
noncomputable def z5o (a0_0 a0_1 a0_2:Int):Option PV:=callF EE z2g [(.agg [(.int .i64 a0_0),(.int .i64 a0_1),(.int .i64 a0_2)])]
noncomputable def z6g (x0:Bool) (x1 x2 x3:Int):Option PV :=
 runW EE z9f (za EE z2g 2 (mkT 46 [(1,(.ptr 0 0)),(3,(.bool x0))]) [(.cells z4j [(.int .i64 x1),(.int .i64 x2),(.int .i64 x3)] false)])
noncomputable def z6f (x0:Bool) (x1:Bool) (x2 x3 x4:Int):Option PV :=
 runW EE z9f (za EE z2g 3 (mkT 46 [(1,(.ptr 0 0)),(3,(.bool x0)),(4,(.bool x1))]) [(.cells z4j [(.int .i64 x2),(.int .i64 x3),(.int .i64 x4)] false)])
noncomputable def z8h (a0_0 a0_1:Int):Option PV:=callF EE zav [(.agg [(.int .i64 a0_0),(.int .u8 a0_1)])]
noncomputable abbrev z7w:List TI:=funTI EE z15
noncomputable def zdu (a0 a1 a2_0 a2_1 a2_2:Int):Option PV:=callF EE z15 [(.int .i64 a0),(.int .i64 a1),(.agg [(.int .i64 a2_0),(.int .i64 a2_1),(.int .i64 a2_2)])]
noncomputable def z69  : Option PV :=
 runW EE z7w (za EE z15 2 (mkT 73 []) [])
noncomputable def qk16 (f p:Nat) (T:List PV) (y0 y1 y2:Int):Option PV:=runW EE z7w (za EE f p T [(.cells z4j [(.int .i64 y0),(.int .i64 y1),(.int .i64 y2)] false)])
noncomputable def zgi (x0 x1 x2 x3 x4:Int):Option PV :=
 qk16 z15 3 (mkT 73 [(0,(.int .i64 x0)),(1,(.int .i64 x1)),(5,(.ptr 0 0))]) x2 x3 x4
noncomputable def z99  : Option PV :=
 runW EE z7w (za EE z15 4 (mkT 73 []) [])
noncomputable def zgh (x0 x1 x2 x3 x4:Int):Option PV :=
 qk16 z15 5 (mkT 73 [(0,(.int .i64 x0)),(1,(.int .i64 x1)),(5,(.ptr 0 0))]) x2 x3 x4
noncomputable def z98 (x0 x1 x2 x3:Int):Option PV :=
 qk16 z15 9 (mkT 73 [(5,(.ptr 0 0)),(10,(.int .i64 x0))]) x1 x2 x3
noncomputable def z2j (x0 x1 x2 x3 x4:Int):Option PV :=
 qk16 z15 10 (mkT 73 [(5,(.ptr 0 0)),(10,(.int .i64 x0)),(11,(.int .i64 x1))]) x2 x3 x4
noncomputable def zfd (x0 x1 x2 x3 x4:Int):Option PV :=
 qk16 z15 12 (mkT 73 [(5,(.ptr 0 0)),(10,(.int .i64 x0)),(11,(.int .i64 x1))]) x2 x3 x4
noncomputable def z8f (a0 a1 a2 a3 a4:Int):Option PV:=callF EE zau [(.int .i64 a0),(.int .i64 a1),(.int .u8 a2),(.int .i64 a3),(.int .i64 a4)]
noncomputable def z7x (a0:List UInt8) (a1:Int):Option PV:=callF EE zas [(.str a0),(.int .u8 a1)]
noncomputable def zuq (a0_0 a0_1 a0_2:Int):Option PV:=callF EE zu3 [(.agg [(.int .i64 a0_0),(.int .i64 a0_1),(.int .i64 a0_2)])]
noncomputable abbrev zo4:List TI:=funTI EE z9n
noncomputable def zur (a0_0 a0_1:Int):Option PV:=callF EE z9n [(.agg [(.int .i64 a0_0),(.int .u8 a0_1)])]
noncomputable def ze5 (x0:List UInt8) (x1 x2:Int):Option PV :=
 runW EE zo4 (za EE z9n 6 (mkT 45 [(1,(.ptr 0 0)),(4,(.str x0))]) [(.cells z177 [(.int .i64 x1),(.int .u8 x2)] false)])
noncomputable def ze4 (x0:List UInt8) (x1 x2:Int):Option PV :=
 runW EE zo4 (za EE z9n 8 (mkT 45 [(1,(.ptr 0 0)),(4,(.str x0))]) [(.cells z177 [(.int .i64 x1),(.int .u8 x2)] false)])
noncomputable abbrev z11r:List TI:=funTI EE z4o
noncomputable def zid (a0_0 a0_1 a0_2:Int):Option PV:=callF EE z4o [(.agg [(.int .i64 a0_0),(.int .i64 a0_1),(.int .i64 a0_2)])]
noncomputable def qk17 (f p:Nat) (T:List PV) (y0 y1 y2:Int):Option PV:=runW EE z11r (za EE f p T [(.cells z1k5 [(.int .i64 y0),(.int .i64 y1),(.int .i64 y2)] false)])
noncomputable def zny (x0 x1 x2:Int):Option PV :=
 qk17 z4o 4 (mkT 52 [(1,(.ptr 0 0))]) x0 x1 x2
noncomputable def zh7 (x0 x1 x2:Int):Option PV :=
 qk17 z4o 5 (mkT 52 [(1,(.ptr 0 0))]) x0 x1 x2
noncomputable def znx (x0 x1 x2:Int):Option PV :=
 qk17 z4o 6 (mkT 52 [(1,(.ptr 0 0))]) x0 x1 x2
noncomputable def zh6 (x0 x1 x2:Int):Option PV :=
 qk17 z4o 7 (mkT 52 [(1,(.ptr 0 0))]) x0 x1 x2
noncomputable def ze0 (a0 a1 a2:Int):Option PV:=callF EE zy3 [(.int .i64 a0),(.int .i64 a1),(.int .i64 a2)]
noncomputable abbrev z1fg:List TI:=funTI EE zsk
noncomputable def zun (a0 a1 a2:Int):Option PV:=callF EE zsk [(.int .i64 a0),(.int .i64 a1),(.int .i64 a2)]
noncomputable def zjt (x0 x1 x2:Int):Option PV :=
 runW EE z1fg (za EE zsk 1 (mkT 15 [(0,(.int .i64 x0)),(1,(.int .i64 x1)),(2,(.int .i64 x2))]) [])
noncomputable abbrev zwv:List TI:=funTI EE zf5
noncomputable def zl2 (a0 a1:Int):Option PV:=callF EE zf5 [(.int .i64 a0),(.int .i64 a1)]
noncomputable def zq3  : Option PV :=
 runW EE zwv (za EE zf5 3 (mkT 22 []) [])
noncomputable def z11d (x0 x1:Int) (x2:List PV) (x3:Nat):Option PV :=
 runW EE zwv (za EE zf5 4 (mkT 22 [(0,(.int .i64 x0)),(1,(.int .i64 x1)),(5,(.ptr 0 0))]) [(.row z1cd 1 x2 0 (some x3))])
noncomputable def zcd (a0 a1 a2:Int):Option PV:=callF EE zf1 [(.int .i64 a0),(.int .i64 a1),(.int .i64 a2)]
noncomputable def z8j (a0:Int):Option PV:=callF EE zaw [(.int .i64 a0)]
noncomputable def zlc (a0_0 a0_1:Int):Option PV:=callF EE zmt [(.agg [(.int .i64 a0_0),(.int .u8 a0_1)])]
noncomputable def zw3 (a0 a1 a2:Int):Option PV:=callF EE zui [(.int .i64 a0),(.int .i64 a1),(.int .i64 a2)]
noncomputable def zmf (a0:Int):Option PV:=callF EE zmx [(.int .i64 a0)]
noncomputable def zzw (a0:Int):Option PV:=callF EE zy1 [(.int .i64 a0)]
noncomputable def zah (a0 a1 a2:Int):Option PV:=callF EE zcz [(.int .i64 a0),(.int .i64 a1),(.int .i64 a2)]
noncomputable def zmk (a0:Int):Option PV:=callF EE zhk [(.int .i64 a0)]
noncomputable def z128 (a0:Int):Option PV:=callF EE z14r [(.int .i64 a0)]
noncomputable def zml (a0:Int):Option PV:=callF EE zhl [(.int .i64 a0)]
noncomputable def zic (a0:Int):Option PV:=callF EE zp7 [(.int .i64 a0)]
noncomputable def zb9 (a0_0 a0_1 a0_2:Int):Option PV:=callF EE zix [(.agg [(.int .i64 a0_0),(.int .i64 a0_1),(.int .i64 a0_2)])]
theorem zhx (a0_0:Int) (a0_1:Bool) (a0_2 a0_3:Int) (a0_4:List UInt8) (a0_5 a0_6 a0_7 a0_8 a0_9 a0_10 a0_11 a0_12:Int) (a1_0:List UInt8) (a1_1 a1_2:Int) (a1_3:Bool) (a1_4:List UInt8) (a1_5:List PV) (a1_6:Bool) (a1_7 a1_8 a1_9 a1_10 a1_11 a1_12 a1_13 a1_14 a1_15:Int) (a1_16:List UInt8) (a1_17 a1_18 a1_19 a1_20 a1_21 a1_22 a1_23:Int) (a1_24:List UInt8) (a2_0 a2_1 a2_2:Int):zb7 a0_0 a0_1 a0_2 a0_3 a0_4 a0_5 a0_6 a0_7 a0_8 a0_9 a0_10 a0_11 a0_12 a1_0 a1_1 a1_2 a1_3 a1_4 a1_5 a1_6 a1_7 a1_8 a1_9 a1_10 a1_11 a1_12 a1_13 a1_14 a1_15 a1_16 a1_17 a1_18 a1_19 a1_20 a1_21 a1_22 a1_23 a1_24 a2_0 a2_1 a2_2 =
  ((zal a1_0 a1_1 a1_2 a1_3 a1_4 a1_5 a1_6 a1_7 a1_8 a1_9 a1_10 a1_11 a1_12 a1_13 a1_14 a1_15 a1_16 a1_17 a1_18 a1_19 a1_20 a1_21 a1_22 a1_23 a1_24).bind fun v1=>((zzd a0_0 a0_1 a0_2 a0_3 a0_4 a0_5 a0_6 a0_7 a0_8 a0_9 a0_10 a0_11 a0_12 (PV.toS (PV.nth v1 0)) (PV.toI (PV.nth v1 1)) (PV.toI (PV.nth v1 2)) (PV.toB (PV.nth v1 3)) (PV.toS (PV.nth v1 4)) (PV.toL (PV.nth v1 5)) (PV.toB (PV.nth v1 6)) (PV.toI (PV.nth v1 7)) (PV.toI (PV.nth v1 8)) (PV.toI (PV.nth v1 9)) (PV.toI (PV.nth v1 10)) (PV.toI (PV.nth v1 11)) (PV.toI (PV.nth v1 12)) (PV.toI (PV.nth v1 13)) (PV.toI (PV.nth v1 14)) (PV.toI (PV.nth v1 15)) (PV.toS (PV.nth v1 16)) (PV.toI (PV.nth v1 17)) (PV.toI (PV.nth v1 18)) (PV.toI (PV.nth v1 19)) (PV.toI (PV.nth v1 20)) (PV.toI (PV.nth v1 21)) (PV.toI (PV.nth v1 22)) (PV.toI (PV.nth v1 23)) (PV.toS (PV.nth v1 24)) a2_0 a2_1 a2_2).bind fun v2=>((za8 a0_0 a0_1 a0_2 a0_3 a0_4 a0_5 a0_6 a0_7 a0_8 a0_9 a0_10 a0_11 a0_12 a1_0 a1_1 a1_2 a1_3 a1_4 a1_5 a1_6 a1_7 a1_8 a1_9 a1_10 a1_11 a1_12 a1_13 a1_14 a1_15 a1_16 a1_17 a1_18 a1_19 a1_20 a1_21 a1_22 a1_23 a1_24 a2_0 a2_1 a2_2).bind fun v3=>(bif (eqS (PV.toS (PV.tnth v2 0)) (PV.toS (PV.tnth v3 0))) then (bif (eqB (PV.toI (PV.tnth v2 1)) (PV.toI (PV.tnth v3 1))) then ((zbl a0_0 a0_1 a0_2 a0_3 a0_4 a0_5 a0_6 a0_7 a0_8 a0_9 a0_10 a0_11 a0_12).bind fun v4=>((z40 a0_0 a0_1 a0_2 a0_3 a0_4 a0_5 a0_6 a0_7 a0_8 a0_9 a0_10 a0_11 a0_12).bind fun v5=>(bif ((PV.toB v4) == (PV.toB v5)) then ((zak).bind fun v6=>(some (PV.bool (PV.toB v6)))) else (some (PV.bool false))))) else (some (PV.bool false))) else (some (PV.bool false)))))) :=
 (z6 EE z86 _ rfl).trans (by kernel_rfl)
theorem z1ko (a0_0 a0_1:Int) (a1_0:List UInt8) (a1_1 a1_2:Int) (a1_3:Bool) (a1_4:List UInt8) (a1_5:List PV) (a1_6:Bool) (a1_7 a1_8 a1_9 a1_10 a1_11 a1_12 a1_13 a1_14 a1_15:Int) (a1_16:List UInt8) (a1_17 a1_18 a1_19 a1_20 a1_21 a1_22 a1_23:Int) (a1_24:List UInt8) (a2_0 a2_1 a2_2:Int):z1ft a0_0 a0_1 a1_0 a1_1 a1_2 a1_3 a1_4 a1_5 a1_6 a1_7 a1_8 a1_9 a1_10 a1_11 a1_12 a1_13 a1_14 a1_15 a1_16 a1_17 a1_18 a1_19 a1_20 a1_21 a1_22 a1_23 a1_24 a2_0 a2_1 a2_2 =
  ((zv9 a1_0 a1_1 a1_2 a1_3 a1_4 a1_5 a1_6 a1_7 a1_8 a1_9 a1_10 a1_11 a1_12 a1_13 a1_14 a1_15 a1_16 a1_17 a1_18 a1_19 a1_20 a1_21 a1_22 a1_23 a1_24 a0_0 a0_1).bind fun v1=>((zdn a2_0 a2_1 a2_2).bind fun v2=>(bif (!(PV.toB v2)) then (some (PV.tuple [(PV.str []),(PV.int .i64 1)])) else (bif (!(eqB (PV.toI (PV.tnth v1 1)) 0)) then (some (PV.tuple [(PV.str []),(PV.int .i64 (PV.toI (PV.tnth v1 1)))])) else (bif (!(eqB a0_0 0)) then ((z5b a0_0).bind fun v3=>(some (PV.tuple [(PV.str (PV.toS v3)),(PV.int .i64 0)]))) else ((zim a1_0 a1_1 a1_2 a1_3 a1_4 a1_5 a1_6 a1_7 a1_8 a1_9 a1_10 a1_11 a1_12 a1_13 a1_14 a1_15 a1_16 a1_17 a1_18 a1_19 a1_20 a1_21 a1_22 a1_23 a1_24 a0_0 a0_1).bind fun v4=>((zlj (PV.toI (PV.nth (PV.tnth v1 0) 0)) (PV.toI (PV.nth (PV.tnth v1 0) 1)) a2_0 a2_1 a2_2).bind fun v5=>(bif (eqB a2_0 1) then ((zt [(PV.str (PV.toS (PV.tnth v5 0))),(PV.str [32]),(PV.str (PV.toS (PV.nth (PV.tnth v4 0) 3))),(PV.str (PV.toS (PV.tnth v5 1)))]).bind fun v6=>(some (PV.tuple [(PV.str (PV.toS v6)),(PV.int .i64 0)]))) else ((zpz (PV.toI (PV.nth (PV.tnth v4 0) 1))).bind fun v7=>(bif (!(eqB (PV.toI (PV.tnth v7 1)) 0)) then (some (PV.tuple [(PV.str []),(PV.int .i64 (PV.toI (PV.tnth v7 1)))])) else ((zt [(PV.str (PV.toS (PV.tnth v5 0))),(PV.str (PV.toS (PV.tnth v7 0))),(PV.str (PV.toS (PV.tnth v5 1)))]).bind fun v8=>(some (PV.tuple [(PV.str (PV.toS v8)),(PV.int .i64 0)]))))))))))))) :=
 (z6 EE z184 _ rfl).trans (by kernel_rfl)
theorem znv (a0_0:List UInt8) (a0_1 a0_2:Int) (a0_3:Bool) (a0_4:List UInt8) (a0_5:List PV) (a0_6:Bool) (a0_7 a0_8 a0_9 a0_10 a0_11 a0_12 a0_13 a0_14 a0_15:Int) (a0_16:List UInt8) (a0_17 a0_18 a0_19 a0_20 a0_21 a0_22 a0_23:Int) (a0_24:List UInt8):zal a0_0 a0_1 a0_2 a0_3 a0_4 a0_5 a0_6 a0_7 a0_8 a0_9 a0_10 a0_11 a0_12 a0_13 a0_14 a0_15 a0_16 a0_17 a0_18 a0_19 a0_20 a0_21 a0_22 a0_23 a0_24 =
  ((appL 40 [] a0_5).bind fun v1=>((zce a0_9 a0_10 a0_11 a0_12 a0_13 a0_14 a0_15 a0_16).bind fun v2=>((zce a0_17 a0_18 a0_19 a0_20 a0_21 a0_22 a0_23 a0_24).bind fun v3=>(some (PV.agg [(PV.str a0_0),(PV.int .i64 a0_1),(PV.int .i64 a0_2),(PV.bool a0_3),(PV.str a0_4),(PV.sl 4 v1),(PV.bool a0_6),(PV.int .i64 a0_7),(PV.int .i64 a0_8),(PV.int .i64 (PV.toI (PV.nth v2 0))),(PV.int .i64 (PV.toI (PV.nth v2 1))),(PV.int .i64 (PV.toI (PV.nth v2 2))),(PV.int .i64 (PV.toI (PV.nth v2 3))),(PV.int .i64 (PV.toI (PV.nth v2 4))),(PV.int .u8 (PV.toI (PV.nth v2 5))),(PV.int .i64 (PV.toI (PV.nth v2 6))),(PV.str (PV.toS (PV.nth v2 7))),(PV.int .i64 (PV.toI (PV.nth v3 0))),(PV.int .i64 (PV.toI (PV.nth v3 1))),(PV.int .i64 (PV.toI (PV.nth v3 2))),(PV.int .i64 (PV.toI (PV.nth v3 3))),(PV.int .i64 (PV.toI (PV.nth v3 4))),(PV.int .u8 (PV.toI (PV.nth v3 5))),(PV.int .i64 (PV.toI (PV.nth v3 6))),(PV.str (PV.toS (PV.nth v3 7)))]))))) :=
 (z6 EE zd4 _ rfl).trans (by kernel_rfl)
theorem zvy (a0_0 a0_1:Int) (a1_0:List UInt8) (a1_1 a1_2:Int) (a1_3:Bool) (a1_4:List UInt8) (a1_5:List PV) (a1_6:Bool) (a1_7 a1_8 a1_9 a1_10 a1_11 a1_12 a1_13 a1_14 a1_15:Int) (a1_16:List UInt8) (a1_17 a1_18 a1_19 a1_20 a1_21 a1_22 a1_23:Int) (a1_24:List UInt8) (a2_0 a2_1 a2_2:Int):zfx a0_0 a0_1 a1_0 a1_1 a1_2 a1_3 a1_4 a1_5 a1_6 a1_7 a1_8 a1_9 a1_10 a1_11 a1_12 a1_13 a1_14 a1_15 a1_16 a1_17 a1_18 a1_19 a1_20 a1_21 a1_22 a1_23 a1_24 a2_0 a2_1 a2_2 =
  ((zu a0_0 a0_1).bind fun v1=>(bif (!(PV.toB v1)) then z4q else ((z2b a2_0 a2_1 a2_2).bind fun v2=>(bif (!(PV.toB v2)) then z4q else ((z2c a1_0 a1_1 a1_2 a1_3 a1_4 a1_5 a1_6 a1_7 a1_8 a1_9 a1_10 a1_11 a1_12 a1_13 a1_14 a1_15 a1_16 a1_17 a1_18 a1_19 a1_20 a1_21 a1_22 a1_23 a1_24).bind fun v3=>(bif (!(PV.toB v3)) then z4q else (zhr a0_0 a0_1 a1_0 a1_1 a1_2 a1_3 a1_4 a1_5 a1_6 a1_7 a1_8 a1_9 a1_10 a1_11 a1_12 a1_13 a1_14 a1_15 a1_16 a1_17 a1_18 a1_19 a1_20 a1_21 a1_22 a1_23 a1_24 a2_0 a2_1 a2_2))))))) :=
 (z6 EE z4p _ rfl).trans (by kernel_rfl)
theorem zna  : z4q  =
  (some (PV.tuple [(PV.str []),(PV.int .i64 1)])) :=
 (z7 EE _ _).trans (by kernel_rfl)
theorem zd6 (x0 x1:Int) (x2:List UInt8) (x3 x4:Int) (x5:Bool) (x6:List UInt8) (x7:List PV) (x8:Bool) (x9 xA xB xC xD xE xF xG xH:Int) (xI:List UInt8) (xJ xK xL xM xN xO xP:Int) (xQ:List UInt8) (xR xS xT:Int):zhr x0 x1 x2 x3 x4 x5 x6 x7 x8 x9 xA xB xC xD xE xF xG xH xI xJ xK xL xM xN xO xP xQ xR xS xT =
  (bif (!(eqB x0 0)) then ((z4h x0).bind fun v1=>(some (PV.tuple [(PV.str (PV.toS v1)),(PV.int .i64 0)]))) else ((zaa x2 x3 x4 x5 x6 x7 x8 x9 xA xB xC xD xE xF xG xH xI xJ xK xL xM xN xO xP xQ x0 x1).bind fun v2=>(bif (!(eqB (PV.toI (PV.tnth v2 1)) 0)) then (some (PV.tuple [(PV.str []),(PV.int .i64 (PV.toI (PV.tnth v2 1)))])) else ((z97 x2 x3 x4 x5 x6 x7 x8 x9 xA xB xC xD xE xF xG xH xI xJ xK xL xM xN xO xP xQ x0 x1).bind fun v3=>((z66 (PV.toI (PV.nth (PV.tnth v2 0) 0)) (PV.toI (PV.nth (PV.tnth v2 0) 1)) xR xS xT).bind fun v4=>(bif (eqB xR 1) then ((catS (PV.toS (PV.tnth v4 0)) [32]).bind fun v5=>((catS v5 (PV.toS (PV.nth (PV.tnth v3 0) 3))).bind fun v6=>((catS v6 (PV.toS (PV.tnth v4 1))).bind fun v7=>(some (PV.tuple [(PV.str v7),(PV.int .i64 0)]))))) else ((z9b (PV.toI (PV.nth (PV.tnth v3 0) 1))).bind fun v8=>(bif (!(eqB (PV.toI (PV.tnth v8 1)) 0)) then (some (PV.tuple [(PV.str []),(PV.int .i64 (PV.toI (PV.tnth v8 1)))])) else ((catS (PV.toS (PV.tnth v4 0)) (PV.toS (PV.tnth v8 0))).bind fun v9=>((catS v9 (PV.toS (PV.tnth v4 1))).bind fun v10=>(some (PV.tuple [(PV.str v10),(PV.int .i64 0)])))))))))))) :=
 (z7 EE _ _).trans (by kernel_rfl)
theorem znu  : zak  =
  ((zhf 0 14 3 (-14706500000) 0 0 0).bind fun v1=>((zhf 0 14 3 (-14706500000) 0 0 1).bind fun v2=>((zhf 0 14 3 (-14706500000) 0 0 2).bind fun v3=>((zhf 0 (-1) 1 0 0 0 0).bind fun v4=>((zos 0 8826 1 1 0).bind fun v5=>(bif (eqS (PV.toS (PV.tnth v1 0)) [49,32,121,101,97,114,32,50,32,109,111,110,115,32,51,32,100,97,121,115,32,45,48,52,58,48,53,58,48,54,46,53]) then (bif (eqB (PV.toI (PV.tnth v1 1)) 0) then (bif (eqS (PV.toS (PV.tnth v2 0)) [43,49,45,50,32,43,51,32,45,52,58,48,53,58,48,54,46,53]) then (bif (eqB (PV.toI (PV.tnth v2 1)) 0) then (bif (eqS (PV.toS (PV.tnth v3 0)) [80,49,89,50,77,51,68,84,45,52,72,45,53,77,45,54,46,53,83]) then (bif (eqB (PV.toI (PV.tnth v3 1)) 0) then (bif (eqS (PV.toS (PV.tnth v4 0)) [45,49,32,109,111,110,115,32,43,49,32,100,97,121]) then (bif (eqB (PV.toI (PV.tnth v4 1)) 0) then (bif (eqS (PV.toS (PV.tnth v5 0)) [48,49,47,48,51,47,50,48,50,52]) then (some (PV.bool (eqB (PV.toI (PV.tnth v5 1)) 0))) else (some (PV.bool false))) else (some (PV.bool false))) else (some (PV.bool false))) else (some (PV.bool false))) else (some (PV.bool false))) else (some (PV.bool false))) else (some (PV.bool false))) else (some (PV.bool false))) else (some (PV.bool false)))))))) :=
 (z6 EE zd3 _ rfl).trans (by kernel_rfl)
theorem z19n (a0_0:Int) (a0_1:Bool) (a0_2 a0_3:Int) (a0_4:List UInt8) (a0_5 a0_6 a0_7 a0_8 a0_9 a0_10 a0_11 a0_12:Int) (a1_0:List UInt8) (a1_1 a1_2:Int) (a1_3:Bool) (a1_4:List UInt8) (a1_5:List PV) (a1_6:Bool) (a1_7 a1_8 a1_9 a1_10 a1_11 a1_12 a1_13 a1_14 a1_15:Int) (a1_16:List UInt8) (a1_17 a1_18 a1_19 a1_20 a1_21 a1_22 a1_23:Int) (a1_24:List UInt8) (a2_0 a2_1 a2_2:Int):zzd a0_0 a0_1 a0_2 a0_3 a0_4 a0_5 a0_6 a0_7 a0_8 a0_9 a0_10 a0_11 a0_12 a1_0 a1_1 a1_2 a1_3 a1_4 a1_5 a1_6 a1_7 a1_8 a1_9 a1_10 a1_11 a1_12 a1_13 a1_14 a1_15 a1_16 a1_17 a1_18 a1_19 a1_20 a1_21 a1_22 a1_23 a1_24 a2_0 a2_1 a2_2 =
  ((zbl a0_0 a0_1 a0_2 a0_3 a0_4 a0_5 a0_6 a0_7 a0_8 a0_9 a0_10 a0_11 a0_12).bind fun v1=>(bif (!(PV.toB v1)) then zbk else ((zdn a2_0 a2_1 a2_2).bind fun v2=>(bif (!(PV.toB v2)) then zbk else ((zjs a1_0 a1_1 a1_2 a1_3 a1_4 a1_5 a1_6 a1_7 a1_8 a1_9 a1_10 a1_11 a1_12 a1_13 a1_14 a1_15 a1_16 a1_17 a1_18 a1_19 a1_20 a1_21 a1_22 a1_23 a1_24).bind fun v3=>(bif (!(PV.toB v3)) then zbk else (zx4 a0_0 a0_1 a0_2 a0_3 a0_4 a0_5 a0_6 a0_7 a0_8 a0_9 a0_10 a0_11 a0_12 a1_0 a1_1 a1_2 a1_3 a1_4 a1_5 a1_6 a1_7 a1_8 a1_9 a1_10 a1_11 a1_12 a1_13 a1_14 a1_15 a1_16 a1_17 a1_18 a1_19 a1_20 a1_21 a1_22 a1_23 a1_24 a2_0 a2_1 a2_2))))))) :=
 (z6 EE zbu _ rfl).trans (by kernel_rfl)
theorem z11v  : zbk  =
  (some (PV.tuple [(PV.str []),(PV.int .i64 1)])) :=
 (z7 EE _ _).trans (by kernel_rfl)
theorem z11u (x0:Int) (x1:Bool) (x2 x3:Int) (x4:List UInt8) (x5 x6 x7 x8 x9 xA xB xC:Int) (xD:List UInt8) (xE xF:Int) (xG:Bool) (xH:List UInt8) (xI:List PV) (xJ:Bool) (xK xL xM xN xO xP xQ xR xS:Int) (xT:List UInt8) (xU xV xW xX xY xZ x36:Int) (x37:List UInt8) (x38 x39 x40:Int):zx4 x0 x1 x2 x3 x4 x5 x6 x7 x8 x9 xA xB xC xD xE xF xG xH xI xJ xK xL xM xN xO xP xQ xR xS xT xU xV xW xX xY xZ x36 x37 x38 x39 x40 =
  (bif (eqB x0 0) then (some (PV.tuple [(PV.str [110,117,108,108]),(PV.int .i64 0)])) else (bif (eqB x0 1) then ((z17h x1).bind fun v1=>(bif (inB 0 (PV.toI v1) ((2:Nat):Int)) then ((rdC tiStr [(PV.str [102,97,108,115,101]),(PV.str [116,114,117,101])] (Int.toNat (PV.toI v1))).bind fun v2=>(some (PV.tuple [(PV.str (PV.toS v2)),(PV.int .i64 0)]))) else none)) else (bif (eqB x0 2) then ((zsp x2 0).bind fun v3=>(some (PV.tuple [(PV.str (PV.toS v3)),(PV.int .i64 0)]))) else (bif (eqB x0 3) then ((zsp x2 x3).bind fun v4=>(some (PV.tuple [(PV.str (PV.toS v4)),(PV.int .i64 0)]))) else (bif (eqB x0 4) then (some (PV.tuple [(PV.str x4),(PV.int .i64 0)])) else (bif (eqB x0 5) then ((zos x5 x6 x38 x39 x40).bind fun v5=>(some (PV.tuple [(PV.str (PV.toS (PV.tnth v5 0))),(PV.int .i64 (PV.toI (PV.tnth v5 1)))]))) else (bif (eqB x0 6) then ((zze x7 x8 x38 x39 x40).bind fun v6=>(some (PV.tuple [(PV.str (PV.toS (PV.tnth v6 0))),(PV.int .i64 (PV.toI (PV.tnth v6 1)))]))) else (bif (eqB x0 7) then ((z1ft x7 x8 xD xE xF xG xH xI xJ xK xL xM xN xO xP xQ xR xS xT xU xV xW xX xY xZ x36 x37 x38 x39 x40).bind fun v7=>(some (PV.tuple [(PV.str (PV.toS (PV.tnth v7 0))),(PV.int .i64 (PV.toI (PV.tnth v7 1)))]))) else ((zhf x9 xA xB xC x38 x39 x40).bind fun v8=>(some (PV.tuple [(PV.str (PV.toS (PV.tnth v8 0))),(PV.int .i64 (PV.toI (PV.tnth v8 1)))]))))))))))) :=
 (z7 EE _ _).trans (by kernel_rfl)
theorem zn9 (a0_0:Int) (a0_1:Bool) (a0_2 a0_3:Int) (a0_4:List UInt8) (a0_5 a0_6 a0_7 a0_8 a0_9 a0_10 a0_11 a0_12:Int) (a1_0:List UInt8) (a1_1 a1_2:Int) (a1_3:Bool) (a1_4:List UInt8) (a1_5:List PV) (a1_6:Bool) (a1_7 a1_8 a1_9 a1_10 a1_11 a1_12 a1_13 a1_14 a1_15:Int) (a1_16:List UInt8) (a1_17 a1_18 a1_19 a1_20 a1_21 a1_22 a1_23:Int) (a1_24:List UInt8) (a2_0 a2_1 a2_2:Int):za8 a0_0 a0_1 a0_2 a0_3 a0_4 a0_5 a0_6 a0_7 a0_8 a0_9 a0_10 a0_11 a0_12 a1_0 a1_1 a1_2 a1_3 a1_4 a1_5 a1_6 a1_7 a1_8 a1_9 a1_10 a1_11 a1_12 a1_13 a1_14 a1_15 a1_16 a1_17 a1_18 a1_19 a1_20 a1_21 a1_22 a1_23 a1_24 a2_0 a2_1 a2_2 =
  ((z40 a0_0 a0_1 a0_2 a0_3 a0_4 a0_5 a0_6 a0_7 a0_8 a0_9 a0_10 a0_11 a0_12).bind fun v1=>(bif (!(PV.toB v1)) then z3a else ((z2b a2_0 a2_1 a2_2).bind fun v2=>(bif (!(PV.toB v2)) then z3a else ((z2c a1_0 a1_1 a1_2 a1_3 a1_4 a1_5 a1_6 a1_7 a1_8 a1_9 a1_10 a1_11 a1_12 a1_13 a1_14 a1_15 a1_16 a1_17 a1_18 a1_19 a1_20 a1_21 a1_22 a1_23 a1_24).bind fun v3=>(bif (!(PV.toB v3)) then z3a else (zd5 a0_0 a0_1 a0_2 a0_3 a0_4 a0_5 a0_6 a0_7 a0_8 a0_9 a0_10 a0_11 a0_12 a1_0 a1_1 a1_2 a1_3 a1_4 a1_5 a1_6 a1_7 a1_8 a1_9 a1_10 a1_11 a1_12 a1_13 a1_14 a1_15 a1_16 a1_17 a1_18 a1_19 a1_20 a1_21 a1_22 a1_23 a1_24 a2_0 a2_1 a2_2))))))) :=
 (z6 EE z35 _ rfl).trans (by kernel_rfl)
theorem zjh  : z3a  =
  (some (PV.tuple [(PV.str []),(PV.int .i64 1)])) :=
 (z7 EE _ _).trans (by kernel_rfl)
theorem zjg (x0:Int) (x1:Bool) (x2 x3:Int) (x4:List UInt8) (x5 x6 x7 x8 x9 xA xB xC:Int) (xD:List UInt8) (xE xF:Int) (xG:Bool) (xH:List UInt8) (xI:List PV) (xJ:Bool) (xK xL xM xN xO xP xQ xR xS:Int) (xT:List UInt8) (xU xV xW xX xY xZ x36:Int) (x37:List UInt8) (x38 x39 x40:Int):zd5 x0 x1 x2 x3 x4 x5 x6 x7 x8 x9 xA xB xC xD xE xF xG xH xI xJ xK xL xM xN xO xP xQ xR xS xT xU xV xW xX xY xZ x36 x37 x38 x39 x40 =
  (bif (eqB x0 0) then (some (PV.tuple [(PV.str [110,117,108,108]),(PV.int .i64 0)])) else (bif (eqB x0 1) then (bif x1 then (some (PV.tuple [(PV.str [116,114,117,101]),(PV.int .i64 0)])) else (some (PV.tuple [(PV.str [102,97,108,115,101]),(PV.int .i64 0)]))) else (bif (eqB x0 2) then ((zi x2).bind fun v1=>(some (PV.tuple [(PV.str (PV.toS v1)),(PV.int .i64 0)]))) else (bif (eqB x0 3) then ((z7q x2 x3).bind fun v2=>(some (PV.tuple [(PV.str (PV.toS v2)),(PV.int .i64 0)]))) else (bif (eqB x0 4) then (some (PV.tuple [(PV.str x4),(PV.int .i64 0)])) else (bif (eqB x0 5) then ((zc1 x5 x6 x38 x39 x40).bind fun v3=>(some (PV.tuple [(PV.str (PV.toS (PV.tnth v3 0))),(PV.int .i64 (PV.toI (PV.tnth v3 1)))]))) else (bif (eqB x0 6) then ((za9 x7 x8 x38 x39 x40).bind fun v4=>(some (PV.tuple [(PV.str (PV.toS (PV.tnth v4 0))),(PV.int .i64 (PV.toI (PV.tnth v4 1)))]))) else (bif (eqB x0 7) then ((zfx x7 x8 xD xE xF xG xH xI xJ xK xL xM xN xO xP xQ xR xS xT xU xV xW xX xY xZ x36 x37 x38 x39 x40).bind fun v5=>(some (PV.tuple [(PV.str (PV.toS (PV.tnth v5 0))),(PV.int .i64 (PV.toI (PV.tnth v5 1)))]))) else ((zc0 x9 xA xB xC x38 x39 x40).bind fun v6=>(some (PV.tuple [(PV.str (PV.toS (PV.tnth v6 0))),(PV.int .i64 (PV.toI (PV.tnth v6 1)))]))))))))))) :=
 (z7 EE _ _).trans (by kernel_rfl)
theorem zx6 (a0_0:Int) (a0_1:Bool) (a0_2 a0_3:Int) (a0_4:List UInt8) (a0_5 a0_6 a0_7 a0_8 a0_9 a0_10 a0_11 a0_12:Int):zbl a0_0 a0_1 a0_2 a0_3 a0_4 a0_5 a0_6 a0_7 a0_8 a0_9 a0_10 a0_11 a0_12 =
  (bif (eqB a0_0 0) then (some (PV.bool ((eqB a0_0 a0_0)&&((a0_1 == false)&&((eqB a0_2 0)&&((eqB a0_3 0)&&((eqS a0_4 [])&&((eqB a0_5 0)&&((eqB a0_6 0)&&((eqB a0_7 0)&&((eqB a0_8 0)&&((eqB a0_9 0)&&((eqB a0_10 0)&&((eqB a0_11 0)&&((eqB a0_12 0)&&true))))))))))))))) else (bif (eqB a0_0 1) then (some (PV.bool ((eqB a0_0 a0_0)&&((a0_1 == a0_1)&&((eqB a0_2 0)&&((eqB a0_3 0)&&((eqS a0_4 [])&&((eqB a0_5 0)&&((eqB a0_6 0)&&((eqB a0_7 0)&&((eqB a0_8 0)&&((eqB a0_9 0)&&((eqB a0_10 0)&&((eqB a0_11 0)&&((eqB a0_12 0)&&true))))))))))))))) else (bif (eqB a0_0 2) then (some (PV.bool ((eqB a0_0 a0_0)&&((a0_1 == false)&&((eqB a0_2 a0_2)&&((eqB a0_3 0)&&((eqS a0_4 [])&&((eqB a0_5 0)&&((eqB a0_6 0)&&((eqB a0_7 0)&&((eqB a0_8 0)&&((eqB a0_9 0)&&((eqB a0_10 0)&&((eqB a0_11 0)&&((eqB a0_12 0)&&true))))))))))))))) else (bif (eqB a0_0 3) then (bif (leB 0 a0_3) then (bif (leB a0_3 9) then (some (PV.bool ((eqB a0_0 a0_0)&&((a0_1 == false)&&((eqB a0_2 a0_2)&&((eqB a0_3 a0_3)&&((eqS a0_4 [])&&((eqB a0_5 0)&&((eqB a0_6 0)&&((eqB a0_7 0)&&((eqB a0_8 0)&&((eqB a0_9 0)&&((eqB a0_10 0)&&((eqB a0_11 0)&&((eqB a0_12 0)&&true))))))))))))))) else (some (PV.bool false))) else (some (PV.bool false))) else (bif (eqB a0_0 4) then (bif (leB (((List.length a0_4):Nat):Int) 2048) then (some (PV.bool ((eqB a0_0 a0_0)&&((a0_1 == false)&&((eqB a0_2 0)&&((eqB a0_3 0)&&((eqS a0_4 a0_4)&&((eqB a0_5 0)&&((eqB a0_6 0)&&((eqB a0_7 0)&&((eqB a0_8 0)&&((eqB a0_9 0)&&((eqB a0_10 0)&&((eqB a0_11 0)&&((eqB a0_12 0)&&true))))))))))))))) else (some (PV.bool false))) else (bif (eqB a0_0 5) then ((zki a0_5 a0_6).bind fun v1=>(bif (PV.toB v1) then (some (PV.bool ((eqB a0_0 a0_0)&&((a0_1 == false)&&((eqB a0_2 0)&&((eqB a0_3 0)&&((eqS a0_4 [])&&((eqB a0_5 a0_5)&&((eqB a0_6 a0_6)&&((eqB a0_7 0)&&((eqB a0_8 0)&&((eqB a0_9 0)&&((eqB a0_10 0)&&((eqB a0_11 0)&&((eqB a0_12 0)&&true))))))))))))))) else (some (PV.bool false)))) else (bif (eqB a0_0 6) then (za4 a0_0 a0_1 a0_2 a0_3 a0_4 a0_5 a0_6 a0_7 a0_8 a0_9 a0_10 a0_11 a0_12 a0_0 false 0 0 [] 0 0 0 0 0 0 0 0) else (bif (eqB a0_0 7) then (za4 a0_0 a0_1 a0_2 a0_3 a0_4 a0_5 a0_6 a0_7 a0_8 a0_9 a0_10 a0_11 a0_12 a0_0 false 0 0 [] 0 0 0 0 0 0 0 0) else (zhg a0_0 a0_0 a0_1 a0_2 a0_3 a0_4 a0_5 a0_6 a0_7 a0_8 a0_9 a0_10 a0_11 a0_12 a0_0 false 0 0 [] 0 0 0 0 0 0 0 0))))))))) :=
 (z6 EE z5e _ rfl).trans (by kernel_rfl)
theorem zcp (x0:Int) (x1:Bool) (x2 x3:Int) (x4:List UInt8) (x5 x6 x7 x8 x9 xA xB xC xD:Int) (xE:Bool) (xF xG:Int) (xH:List UInt8) (xI xJ xK xL xM xN xO xP:Int):za4 x0 x1 x2 x3 x4 x5 x6 x7 x8 x9 xA xB xC xD xE xF xG xH xI xJ xK xL xM xN xO xP =
  ((z2p x7 x8).bind fun v1=>(bif (PV.toB v1) then (some (PV.bool ((eqB x0 xD)&&((x1 == xE)&&((eqB x2 xF)&&((eqB x3 xG)&&((eqS x4 xH)&&((eqB x5 xI)&&((eqB x6 xJ)&&((eqB x7 x7)&&((eqB x8 x8)&&((eqB x9 xM)&&((eqB xA xN)&&((eqB xB xO)&&((eqB xC xP)&&true))))))))))))))) else (some (PV.bool false)))) :=
 (z7 EE _ _).trans (by kernel_rfl)
theorem zn7 (x0 x1:Int) (x2:Bool) (x3 x4:Int) (x5:List UInt8) (x6 x7 x8 x9 xA xB xC xD xE:Int) (xF:Bool) (xG xH:Int) (xI:List UInt8) (xJ xK xL xM xN xO xP xQ:Int):zhg x0 x1 x2 x3 x4 x5 x6 x7 x8 x9 xA xB xC xD xE xF xG xH xI xJ xK xL xM xN xO xP xQ =
  (bif (eqB x0 8) then ((zs4 xA xB xC xD).bind fun v1=>(bif (PV.toB v1) then (some (PV.bool ((eqB x1 xE)&&((x2 == xF)&&((eqB x3 xG)&&((eqB x4 xH)&&((eqS x5 xI)&&((eqB x6 xJ)&&((eqB x7 xK)&&((eqB x8 xL)&&((eqB x9 xM)&&((eqB xA xA)&&((eqB xB xB)&&((eqB xC xC)&&((eqB xD xD)&&true))))))))))))))) else (some (PV.bool false)))) else (some (PV.bool false))) :=
 (z7 EE _ _).trans (by kernel_rfl)
theorem zhs (a0_0:Int) (a0_1:Bool) (a0_2 a0_3:Int) (a0_4:List UInt8) (a0_5 a0_6 a0_7 a0_8 a0_9 a0_10 a0_11 a0_12:Int):z40 a0_0 a0_1 a0_2 a0_3 a0_4 a0_5 a0_6 a0_7 a0_8 a0_9 a0_10 a0_11 a0_12 =
  (bif (eqB a0_0 0) then (some (PV.bool (true&&((a0_1 == false)&&((eqB a0_2 0)&&((eqB a0_3 0)&&((eqS a0_4 [])&&((eqB a0_5 0)&&((eqB a0_6 0)&&((eqB a0_7 0)&&((eqB a0_8 0)&&((eqB a0_9 0)&&((eqB a0_10 0)&&((eqB a0_11 0)&&((eqB a0_12 0)&&true))))))))))))))) else (bif (eqB a0_0 1) then (some (PV.bool (true&&(true&&((eqB a0_2 0)&&((eqB a0_3 0)&&((eqS a0_4 [])&&((eqB a0_5 0)&&((eqB a0_6 0)&&((eqB a0_7 0)&&((eqB a0_8 0)&&((eqB a0_9 0)&&((eqB a0_10 0)&&((eqB a0_11 0)&&((eqB a0_12 0)&&true))))))))))))))) else (bif (eqB a0_0 2) then (some (PV.bool (true&&((a0_1 == false)&&(true&&((eqB a0_3 0)&&((eqS a0_4 [])&&((eqB a0_5 0)&&((eqB a0_6 0)&&((eqB a0_7 0)&&((eqB a0_8 0)&&((eqB a0_9 0)&&((eqB a0_10 0)&&((eqB a0_11 0)&&((eqB a0_12 0)&&true))))))))))))))) else (bif (eqB a0_0 3) then (bif (leB 0 a0_3) then (z4c (leB a0_3 9) 0 a0_1 a0_2 a0_3 a0_4 a0_5 a0_6 a0_7 a0_8 a0_9 a0_10 a0_11 a0_12) else (z4c false 0 a0_1 a0_2 a0_3 a0_4 a0_5 a0_6 a0_7 a0_8 a0_9 a0_10 a0_11 a0_12)) else (bif (eqB a0_0 4) then (bif (leB (((List.length a0_4):Nat):Int) 2048) then (some (PV.bool (true&&((a0_1 == false)&&((eqB a0_2 0)&&((eqB a0_3 0)&&(true&&((eqB a0_5 0)&&((eqB a0_6 0)&&((eqB a0_7 0)&&((eqB a0_8 0)&&((eqB a0_9 0)&&((eqB a0_10 0)&&((eqB a0_11 0)&&((eqB a0_12 0)&&true))))))))))))))) else (some (PV.bool false))) else (bif (eqB a0_0 5) then ((z4r a0_5 a0_6).bind fun v1=>(bif (PV.toB v1) then (some (PV.bool (true&&((a0_1 == false)&&((eqB a0_2 0)&&((eqB a0_3 0)&&((eqS a0_4 [])&&(true&&(true&&((eqB a0_7 0)&&((eqB a0_8 0)&&((eqB a0_9 0)&&((eqB a0_10 0)&&((eqB a0_11 0)&&((eqB a0_12 0)&&true))))))))))))))) else (some (PV.bool false)))) else (bif (eqB a0_0 6) then (z4b a0_0 a0_1 a0_2 a0_3 a0_4 a0_5 a0_6 a0_7 a0_8 a0_9 a0_10 a0_11 a0_12 0 a0_1 a0_2 a0_3 a0_4 a0_5 a0_6 a0_7 a0_8 a0_9 a0_10 a0_11 a0_12) else (bif (eqB a0_0 7) then (z4b a0_0 a0_1 a0_2 a0_3 a0_4 a0_5 a0_6 a0_7 a0_8 a0_9 a0_10 a0_11 a0_12 0 a0_1 a0_2 a0_3 a0_4 a0_5 a0_6 a0_7 a0_8 a0_9 a0_10 a0_11 a0_12) else (z7p a0_0 a0_0 a0_1 a0_2 a0_3 a0_4 a0_5 a0_6 a0_7 a0_8 a0_9 a0_10 a0_11 a0_12 0 a0_1 a0_2 a0_3 a0_4 a0_5 a0_6 a0_7 a0_8 a0_9 a0_10 a0_11 a0_12))))))))) :=
 (z6 EE z19 _ rfl).trans (by kernel_rfl)
theorem zdt (x0:Bool) (x1:Int) (x2:Bool) (x3 x4:Int) (x5:List UInt8) (x6 x7 x8 x9 xA xB xC xD:Int):z4c x0 x1 x2 x3 x4 x5 x6 x7 x8 x9 xA xB xC xD =
  (bif x0 then (some (PV.bool ((eqB x1 0)&&((x2 == false)&&(true&&(true&&((eqS x5 [])&&((eqB x6 0)&&((eqB x7 0)&&((eqB x8 0)&&((eqB x9 0)&&((eqB xA 0)&&((eqB xB 0)&&((eqB xC 0)&&((eqB xD 0)&&true))))))))))))))) else (some (PV.bool false))) :=
 (z7 EE _ _).trans (by kernel_rfl)
theorem z6e (x0:Int) (x1:Bool) (x2 x3:Int) (x4:List UInt8) (x5 x6 x7 x8 x9 xA xB xC xD:Int) (xE:Bool) (xF xG:Int) (xH:List UInt8) (xI xJ xK xL xM xN xO xP:Int):z4b x0 x1 x2 x3 x4 x5 x6 x7 x8 x9 xA xB xC xD xE xF xG xH xI xJ xK xL xM xN xO xP =
  ((zu x7 x8).bind fun v1=>(bif (PV.toB v1) then (some (PV.bool ((eqB xD 0)&&((xE == false)&&((eqB xF 0)&&((eqB xG 0)&&((eqS xH [])&&((eqB xI 0)&&((eqB xJ 0)&&(true&&(true&&((eqB xM 0)&&((eqB xN 0)&&((eqB xO 0)&&((eqB xP 0)&&true))))))))))))))) else (some (PV.bool false)))) :=
 (z7 EE _ _).trans (by kernel_rfl)
theorem zds (x0 x1:Int) (x2:Bool) (x3 x4:Int) (x5:List UInt8) (x6 x7 x8 x9 xA xB xC xD xE:Int) (xF:Bool) (xG xH:Int) (xI:List UInt8) (xJ xK xL xM xN xO xP xQ:Int):z7p x0 x1 x2 x3 x4 x5 x6 x7 x8 x9 xA xB xC xD xE xF xG xH xI xJ xK xL xM xN xO xP xQ =
  (bif (eqB x0 8) then ((z6v xA xB xC xD).bind fun v1=>(bif (PV.toB v1) then (some (PV.bool ((eqB xE 0)&&((xF == false)&&((eqB xG 0)&&((eqB xH 0)&&((eqS xI [])&&((eqB xJ 0)&&((eqB xK 0)&&((eqB xL 0)&&((eqB xM 0)&&true))))))))))) else (some (PV.bool false)))) else (some (PV.bool false))) :=
 (z7 EE _ _).trans (by kernel_rfl)
theorem ze6 (a0_0:List UInt8) (a0_1 a0_2:Int) (a0_3:Bool) (a0_4:List UInt8) (a0_5:List PV) (a0_6:Bool) (a0_7 a0_8 a0_9 a0_10 a0_11 a0_12 a0_13 a0_14 a0_15:Int) (a0_16:List UInt8) (a0_17 a0_18 a0_19 a0_20 a0_21 a0_22 a0_23:Int) (a0_24:List UInt8) (a1_0 a1_1:Int):zv9 a0_0 a0_1 a0_2 a0_3 a0_4 a0_5 a0_6 a0_7 a0_8 a0_9 a0_10 a0_11 a0_12 a0_13 a0_14 a0_15 a0_16 a0_17 a0_18 a0_19 a0_20 a0_21 a0_22 a0_23 a0_24 a1_0 a1_1 =
  ((zim a0_0 a0_1 a0_2 a0_3 a0_4 a0_5 a0_6 a0_7 a0_8 a0_9 a0_10 a0_11 a0_12 a0_13 a0_14 a0_15 a0_16 a0_17 a0_18 a0_19 a0_20 a0_21 a0_22 a0_23 a0_24 a1_0 a1_1).bind fun v1=>(bif (eqB (PV.toI (PV.tnth v1 1)) 1) then (some (PV.tuple [(PV.agg [(PV.int .i64 0),(PV.int .i64 0)]),(PV.int .i64 (PV.toI (PV.tnth v1 1)))])) else (bif (!(eqB a1_0 0)) then (some (PV.tuple [(PV.agg [(PV.int .i64 a1_0),(PV.int .i64 a1_1)]),(PV.int .i64 0)])) else (bif (!(eqB (PV.toI (PV.tnth v1 1)) 0)) then (some (PV.tuple [(PV.agg [(PV.int .i64 0),(PV.int .i64 0)]),(PV.int .i64 (PV.toI (PV.tnth v1 1)))])) else ((z19h a1_0 a1_1 (IntKind.wrap .i64 ((PV.toI (PV.nth (PV.tnth v1 0) 1))*1000000))).bind fun v2=>(some (PV.tuple [(PV.agg [(PV.int .i64 (PV.toI (PV.nth (PV.tnth v2 0) 0))),(PV.int .i64 (PV.toI (PV.nth (PV.tnth v2 0) 1)))]),(PV.int .i64 (PV.toI (PV.tnth v2 1)))]))))))) :=
 (z6 EE zu6 _ rfl).trans (by kernel_rfl)
theorem z19p (a0_0 a0_1 a0_2:Int):zdn a0_0 a0_1 a0_2 =
  (bif (leB 0 a0_0) then (bif (leB a0_0 1) then (bif (leB 0 a0_1) then (bif (leB a0_1 2) then (bif (leB 0 a0_2) then (some (PV.bool (leB a0_2 2))) else (some (PV.bool false))) else (some (PV.bool false))) else (some (PV.bool false))) else (some (PV.bool false))) else (some (PV.bool false))) :=
 (z6 EE zxs _ rfl).trans (by kernel_rfl)
theorem zfp (a0:Int):z5b a0 =
  (bif (ltB a0 0) then (some (PV.str [45,105,110,102,105,110,105,116,121])) else (some (PV.str [105,110,102,105,110,105,116,121]))) :=
 (z6 EE zmu _ rfl).trans (by kernel_rfl)
theorem zhe (a0_0:List UInt8) (a0_1 a0_2:Int) (a0_3:Bool) (a0_4:List UInt8) (a0_5:List PV) (a0_6:Bool) (a0_7 a0_8 a0_9 a0_10 a0_11 a0_12 a0_13 a0_14 a0_15:Int) (a0_16:List UInt8) (a0_17 a0_18 a0_19 a0_20 a0_21 a0_22 a0_23:Int) (a0_24:List UInt8) (a1_0 a1_1:Int):zim a0_0 a0_1 a0_2 a0_3 a0_4 a0_5 a0_6 a0_7 a0_8 a0_9 a0_10 a0_11 a0_12 a0_13 a0_14 a0_15 a0_16 a0_17 a0_18 a0_19 a0_20 a0_21 a0_22 a0_23 a0_24 a1_0 a1_1 =
  ((z1cl a0_0 a0_1 a0_2 a0_3 a0_4 a0_5 a0_6 a0_7 a0_8 a0_9 a0_10 a0_11 a0_12 a0_13 a0_14 a0_15 a0_16 a0_17 a0_18 a0_19 a0_20 a0_21 a0_22 a0_23 a0_24 a1_0 a1_1).bind fun v1=>(bif (!(eqB (PV.toI v1) 0)) then (some (PV.tuple [(PV.agg [(PV.int .i64 0),(PV.int .i64 0),(PV.bool false),(PV.str [])]),(PV.int .i64 (PV.toI v1))])) else (bif (!(eqB a1_0 0)) then (some (PV.tuple [(PV.agg [(PV.int .i64 0),(PV.int .i64 0),(PV.bool false),(PV.str [])]),(PV.int .i64 10)])) else ((zv8 a1_0 a1_1).bind fun v2=>((z18v a0_0 a0_1 a0_2 a0_3 a0_4 a0_5 a0_6 a0_7 a0_8 a0_9 a0_10 a0_11 a0_12 a0_13 a0_14 a0_15 a0_16 a0_17 a0_18 a0_19 a0_20 a0_21 a0_22 a0_23 a0_24 (PV.toI (PV.tnth v2 0))).bind fun v3=>(some (PV.tuple [(PV.agg [(PV.int .i64 (PV.toI (PV.nth (PV.tnth v3 0) 0))),(PV.int .i64 (PV.toI (PV.nth (PV.tnth v3 0) 1))),(PV.bool (PV.toB (PV.nth (PV.tnth v3 0) 2))),(PV.str (PV.toS (PV.nth (PV.tnth v3 0) 3)))]),(PV.int .i64 (PV.toI (PV.tnth v3 1)))]))))))) :=
 (z6 EE zp8 _ rfl).trans (by kernel_rfl)
theorem z16m (a0_0 a0_1 a1_0 a1_1 a1_2:Int):zlj a0_0 a0_1 a1_0 a1_1 a1_2 =
  ((day_Of a0_0 a0_1).bind fun v1=>((zoo (PV.toI (PV.nth (PV.tnth v1 0) 0)) (PV.toI (PV.nth (PV.tnth v1 0) 1)) a1_0 a1_1 a1_2).bind fun v2=>((zzu (PV.toI (PV.tnth v1 1))).bind fun v3=>((z1s [32] [(PV.str (PV.toS (PV.tnth v2 0))),(PV.str (PV.toS (PV.tnth v3 0)))]).bind fun v4=>(some (PV.tuple [(PV.str (PV.toS v4)),(PV.str (PV.toS (PV.tnth v2 1)))])))))) :=
 (z6 EE zua _ rfl).trans (by kernel_rfl)
theorem z10h (a0:List PV):zt a0 =
  (zek a0 (((List.length a0):Nat):Int) 0 []) :=
 (z6 EE ziz _ rfl).trans (by kernel_rfl)
theorem zbj (x0:List PV) (x1 x2:Int) (x3:List PV):zek x0 x1 x2 x3 =
  (bif (ltB x2 x1) then ((rdI tiStr x0 x2).bind fun v1=>(bif (decide ((0≤(((List.length x3):Nat):Int))∧(((((List.length x3):Nat):Int)≤(((List.length x3):Nat):Int))∧((((List.length x3):Nat):Int)≤(((List.length x3):Nat):Int))))) then ((appL 1 (List.take (Int.toNat (((List.length x3):Nat):Int)) x3) (List.map byteV (PV.toS v1))).bind fun v2=>(zek x0 x1 (IntKind.wrap .i64 (x2+1)) v2)) else none)) else ((z7h x3).bind fun v3=>(some (PV.str v3)))) :=
 (z7 EE _ _).trans (by kernel_rfl)
theorem z15g (a0:Int):zpz a0 =
  (bif (ltB a0 0) then (zi0 a0 [45]) else (zi0 a0 [43])) :=
 (z6 EE z6d _ rfl).trans (by kernel_rfl)
theorem z7v (x0:Int) (x1:List UInt8):zi0 x0 x1 =
  (bif (ltB x0 (-57599)) then zhz else (bif (ltB 57599 x0) then zhz else (zhy x0 x1))) :=
 (z7 EE _ _).trans (by kernel_rfl)
theorem zj6  : zhz  =
  (some (PV.tuple [(PV.str []),(PV.int .i64 10)])) :=
 (z7 EE _ _).trans (by kernel_rfl)
theorem zcg (x0:Int) (x1:List UInt8):zhy x0 x1 =
  ((z3d (IntKind.wrap .i64 (Int.tdiv (maxI x0 (IntKind.wrap .i64 (0-x0))) 3600))).bind fun v1=>((catS x1 (PV.toS v1)).bind fun v2=>(bif (!(eqB (Int.tmod (maxI x0 (IntKind.wrap .i64 (0-x0))) 60) 0)) then ((catS v2 [58]).bind fun v3=>((z3d (Int.tmod (IntKind.wrap .i64 (Int.tdiv (maxI x0 (IntKind.wrap .i64 (0-x0))) 60)) 60)).bind fun v4=>((catS v3 (PV.toS v4)).bind fun v5=>((catS v5 [58]).bind fun v6=>((z3d (Int.tmod (maxI x0 (IntKind.wrap .i64 (0-x0))) 60)).bind fun v7=>((catS v6 (PV.toS v7)).bind fun v8=>(some (PV.tuple [(PV.str v8),(PV.int .i64 0)])))))))) else (bif (!(eqB (Int.tmod (maxI x0 (IntKind.wrap .i64 (0-x0))) 3600) 0)) then ((catS v2 [58]).bind fun v9=>((z3d (Int.tmod (IntKind.wrap .i64 (Int.tdiv (maxI x0 (IntKind.wrap .i64 (0-x0))) 60)) 60)).bind fun v10=>((catS v9 (PV.toS v10)).bind fun v11=>(some (PV.tuple [(PV.str v11),(PV.int .i64 0)]))))) else (some (PV.tuple [(PV.str v2),(PV.int .i64 0)])))))) :=
 (z7 EE _ _).trans (by kernel_rfl)
theorem zfi (a0_0 a0_1 a0_2 a0_3 a0_4 a0_5 a0_6:Int) (a0_7:List UInt8):zce a0_0 a0_1 a0_2 a0_3 a0_4 a0_5 a0_6 a0_7 =
  (some (PV.agg [(PV.int .i64 a0_0),(PV.int .i64 a0_1),(PV.int .i64 a0_2),(PV.int .i64 a0_3),(PV.int .i64 a0_4),(PV.int .u8 a0_5),(PV.int .i64 a0_6),(PV.str a0_7)])) :=
 (z6 EE zf4 _ rfl).trans (by kernel_rfl)
theorem z8d (a0_0 a0_1:Int):zu a0_0 a0_1 =
  (bif (eqB a0_0 0) then ((z73 a0_1).bind fun v1=>((z68 (PV.toI (PV.tnth v1 0))).bind fun v2=>(some (PV.bool (PV.toB v2))))) else (bif (eqB a0_0 (-1)) then (some (PV.bool (eqB a0_1 0))) else (bif (eqB a0_0 1) then (some (PV.bool (eqB a0_1 0))) else (some (PV.bool false))))) :=
 (z6 EE z85 _ rfl).trans (by kernel_rfl)
theorem znc (a0_0 a0_1 a0_2:Int):z2b a0_0 a0_1 a0_2 =
  (bif (leB 0 a0_0) then (bif (leB a0_0 1) then (bif (leB 0 a0_1) then (bif (leB a0_1 2) then (bif (leB 0 a0_2) then (some (PV.bool (leB a0_2 2))) else (some (PV.bool false))) else (some (PV.bool false))) else (some (PV.bool false))) else (some (PV.bool false))) else (some (PV.bool false))) :=
 (z6 EE zcr _ rfl).trans (by kernel_rfl)
theorem zng (a0_0:List UInt8) (a0_1 a0_2:Int) (a0_3:Bool) (a0_4:List UInt8) (a0_5:List PV) (a0_6:Bool) (a0_7 a0_8 a0_9 a0_10 a0_11 a0_12 a0_13 a0_14 a0_15:Int) (a0_16:List UInt8) (a0_17 a0_18 a0_19 a0_20 a0_21 a0_22 a0_23:Int) (a0_24:List UInt8):z2c a0_0 a0_1 a0_2 a0_3 a0_4 a0_5 a0_6 a0_7 a0_8 a0_9 a0_10 a0_11 a0_12 a0_13 a0_14 a0_15 a0_16 a0_17 a0_18 a0_19 a0_20 a0_21 a0_22 a0_23 a0_24 =
  ((z8t a0_1 a0_2 a0_3 a0_4).bind fun v1=>(bif (!(PV.toB v1)) then z4z else (bif (!(eqB a0_1 0)) then z4z else (bif (ltB 8192 (((List.length a0_5):Nat):Int)) then z4z else (zdc a0_0 a0_1 a0_2 a0_3 a0_4 a0_5 a0_6 a0_7 a0_8 a0_9 a0_10 a0_11 a0_12 a0_13 a0_14 a0_15 a0_16 a0_17 a0_18 a0_19 a0_20 a0_21 a0_22 a0_23 a0_24))))) :=
 (z6 EE z18 _ rfl).trans (by kernel_rfl)
theorem z5z  : z4z  =
  (some (PV.bool false)) :=
 (z7 EE _ _).trans (by kernel_rfl)
theorem zjj (x0:List UInt8) (x1 x2:Int) (x3:Bool) (x4:List UInt8) (x5:List PV) (x6:Bool) (x7 x8 x9 xA xB xC xD xE xF:Int) (xG:List UInt8) (xH xI xJ xK xL xM xN:Int) (xO:List UInt8):zdc x0 x1 x2 x3 x4 x5 x6 x7 x8 x9 xA xB xC xD xE xF xG xH xI xJ xK xL xM xN xO =
  (z4y (-1125899906842625) 0 x0 x1 x2 x3 x4 x5 x6 x7 x8 x9 xA xB xC xD xE xF xG xH xI xJ xK xL xM xN xO) :=
 (z7 EE _ _).trans (by kernel_rfl)
theorem z9r (x0 x1:Int) (x2:List UInt8) (x3 x4:Int) (x5:Bool) (x6:List UInt8) (x7:List PV) (x8:Bool) (x9 xA xB xC xD xE xF xG xH:Int) (xI:List UInt8) (xJ xK xL xM xN xO xP:Int) (xQ:List UInt8):z4y x0 x1 x2 x3 x4 x5 x6 x7 x8 x9 xA xB xC xD xE xF xG xH xI xJ xK xL xM xN xO xP xQ =
  (bif (ltB x1 (((List.length x7):Nat):Int)) then ((rdI (EE.ti zp) x7 x1).bind fun v1=>((z8t (PV.toI (PV.nth v1 0)) (PV.toI (PV.nth v1 1)) (PV.toB (PV.nth v1 2)) (PV.toS (PV.nth v1 3))).bind fun v2=>(bif (!(PV.toB v2)) then z4x else (bif (leB (PV.toI (PV.nth v1 0)) x0) then z4x else (bif (ltB 1125899906842624 (PV.toI (PV.nth v1 0))) then z4x else (zc7 x1 x2 x3 x4 x5 x6 x7 x8 x9 xA xB xC xD xE xF xG xH xI xJ xK xL xM xN xO xP xQ (PV.toI (PV.nth v1 0)) (PV.toI (PV.nth v1 1)) (PV.toB (PV.nth v1 2)) (PV.toS (PV.nth v1 3)))))))) else (bif (!x8) then (some (PV.bool ((x8 == false)&&((eqB x9 0)&&((eqB xA 0)&&((eqB xB 0)&&((eqB xC 0)&&((eqB xD 0)&&((eqB xE 0)&&((eqB xF 0)&&((eqB xG 0)&&((eqB xH 0)&&((eqS xI [])&&((eqB xJ 0)&&((eqB xK 0)&&((eqB xL 0)&&((eqB xM 0)&&((eqB xN 0)&&((eqB xO 0)&&((eqB xP 0)&&((eqS xQ [])&&true))))))))))))))))))))) else ((z2x x9).bind fun v3=>((za2 x8 x9 xA xB xC xD xE xF xG xH xI xJ xK xL xM xN xO xP xQ x9).bind fun v4=>(bif (eqB (PV.toI (PV.tnth v4 1)) 0) then (bif (eqB (PV.toI (PV.nth (PV.tnth v4 0) 0)) x9) then (bif (ltB x0 x9) then (bif (leB 1800 (PV.toI v3)) then (some (PV.bool (leB (PV.toI v3) 2110))) else (some (PV.bool false))) else (some (PV.bool false))) else (some (PV.bool false))) else (some (PV.bool false))))))) :=
 (z7 EE _ _).trans (by kernel_rfl)
theorem z5y  : z4x  =
  (some (PV.bool false)) :=
 (z7 EE _ _).trans (by kernel_rfl)
theorem zi7 (x0:Int) (x1:List UInt8) (x2 x3:Int) (x4:Bool) (x5:List UInt8) (x6:List PV) (x7:Bool) (x8 x9 xA xB xC xD xE xF xG:Int) (xH:List UInt8) (xI xJ xK xL xM xN xO:Int) (xP:List UInt8) (xQ xR:Int) (xS:Bool) (xT:List UInt8):zc7 x0 x1 x2 x3 x4 x5 x6 x7 x8 x9 xA xB xC xD xE xF xG xH xI xJ xK xL xM xN xO xP xQ xR xS xT =
  (z4y xQ (IntKind.wrap .i64 (x0+1)) x1 x2 x3 x4 x5 x6 x7 x8 x9 xA xB xC xD xE xF xG xH xI xJ xK xL xM xN xO xP) :=
 (z7 EE _ _).trans (by kernel_rfl)
theorem zt5 (a0:Int):z4h a0 =
  (bif (ltB a0 0) then (some (PV.str [45,105,110,102,105,110,105,116,121])) else (bif (ltB 0 a0) then (some (PV.str [105,110,102,105,110,105,116,121])) else (some (PV.str [])))) :=
 (z6 EE zg7 _ rfl).trans (by kernel_rfl)
theorem zd8 (a0_0:List UInt8) (a0_1 a0_2:Int) (a0_3:Bool) (a0_4:List UInt8) (a0_5:List PV) (a0_6:Bool) (a0_7 a0_8 a0_9 a0_10 a0_11 a0_12 a0_13 a0_14 a0_15:Int) (a0_16:List UInt8) (a0_17 a0_18 a0_19 a0_20 a0_21 a0_22 a0_23:Int) (a0_24:List UInt8) (a1_0 a1_1:Int):zaa a0_0 a0_1 a0_2 a0_3 a0_4 a0_5 a0_6 a0_7 a0_8 a0_9 a0_10 a0_11 a0_12 a0_13 a0_14 a0_15 a0_16 a0_17 a0_18 a0_19 a0_20 a0_21 a0_22 a0_23 a0_24 a1_0 a1_1 =
  ((z2c a0_0 a0_1 a0_2 a0_3 a0_4 a0_5 a0_6 a0_7 a0_8 a0_9 a0_10 a0_11 a0_12 a0_13 a0_14 a0_15 a0_16 a0_17 a0_18 a0_19 a0_20 a0_21 a0_22 a0_23 a0_24).bind fun v1=>(bif (!(PV.toB v1)) then (zda 0 0) else ((zu a1_0 a1_1).bind fun v2=>(bif (!(PV.toB v2)) then (zda 0 0) else (zd9 a0_0 a0_1 a0_2 a0_3 a0_4 a0_5 a0_6 a0_7 a0_8 a0_9 a0_10 a0_11 a0_12 a0_13 a0_14 a0_15 a0_16 a0_17 a0_18 a0_19 a0_20 a0_21 a0_22 a0_23 a0_24 a1_0 a1_1 0 0))))) :=
 (z6 EE z37 _ rfl).trans (by kernel_rfl)
theorem z9q (x0:List UInt8) (x1 x2:Int) (x3:Bool) (x4:List UInt8) (x5:List PV) (x6:Bool) (x7 x8 x9 xA xB xC xD xE xF:Int) (xG:List UInt8) (xH xI xJ xK xL xM xN:Int) (xO:List UInt8) (xP xQ xR xS:Int):zd9 x0 x1 x2 x3 x4 x5 x6 x7 x8 x9 xA xB xC xD xE xF xG xH xI xJ xK xL xM xN xO xP xQ xR xS =
  (bif (!(eqB xP 0)) then (some (PV.tuple [(PV.agg [(PV.int .i64 xP),(PV.int .i64 xQ)]),(PV.int .i64 0)])) else ((z8s xP xQ).bind fun v1=>((z78 x0 x1 x2 x3 x4 x5 x6 x7 x8 x9 xA xB xC xD xE xF xG xH xI xJ xK xL xM xN xO (PV.toI (PV.tnth v1 0))).bind fun v2=>(bif (!(eqB (PV.toI (PV.tnth v2 1)) 0)) then (some (PV.tuple [(PV.agg [(PV.int .i64 0),(PV.int .i64 0)]),(PV.int .i64 (PV.toI (PV.tnth v2 1)))])) else ((zc3 (IntKind.wrap .i64 ((PV.toI (PV.tnth v1 0))+(PV.toI (PV.nth (PV.tnth v2 0) 1)))) (PV.toI (PV.tnth v1 1))).bind fun v3=>(some (PV.tuple [(PV.agg [(PV.int .i64 (PV.toI (PV.nth (PV.tnth v3 0) 0))),(PV.int .i64 (PV.toI (PV.nth (PV.tnth v3 0) 1)))]),(PV.int .i64 (PV.toI (PV.tnth v3 1)))]))))))) :=
 (z7 EE _ _).trans (by kernel_rfl)
theorem zm0 (a0_0:List UInt8) (a0_1 a0_2:Int) (a0_3:Bool) (a0_4:List UInt8) (a0_5:List PV) (a0_6:Bool) (a0_7 a0_8 a0_9 a0_10 a0_11 a0_12 a0_13 a0_14 a0_15:Int) (a0_16:List UInt8) (a0_17 a0_18 a0_19 a0_20 a0_21 a0_22 a0_23:Int) (a0_24:List UInt8) (a1_0 a1_1:Int):z97 a0_0 a0_1 a0_2 a0_3 a0_4 a0_5 a0_6 a0_7 a0_8 a0_9 a0_10 a0_11 a0_12 a0_13 a0_14 a0_15 a0_16 a0_17 a0_18 a0_19 a0_20 a0_21 a0_22 a0_23 a0_24 a1_0 a1_1 =
  ((z2c a0_0 a0_1 a0_2 a0_3 a0_4 a0_5 a0_6 a0_7 a0_8 a0_9 a0_10 a0_11 a0_12 a0_13 a0_14 a0_15 a0_16 a0_17 a0_18 a0_19 a0_20 a0_21 a0_22 a0_23 a0_24).bind fun v1=>(bif (!(PV.toB v1)) then (zc6 0 0 false []) else ((zu a1_0 a1_1).bind fun v2=>(bif (!(PV.toB v2)) then (zc6 0 0 false []) else (zc5 a0_0 a0_1 a0_2 a0_3 a0_4 a0_5 a0_6 a0_7 a0_8 a0_9 a0_10 a0_11 a0_12 a0_13 a0_14 a0_15 a0_16 a0_17 a0_18 a0_19 a0_20 a0_21 a0_22 a0_23 a0_24 a1_0 a1_1 0 0 false []))))) :=
 (z6 EE z2s _ rfl).trans (by kernel_rfl)
theorem zi6 (x0:List UInt8) (x1 x2:Int) (x3:Bool) (x4:List UInt8) (x5:List PV) (x6:Bool) (x7 x8 x9 xA xB xC xD xE xF:Int) (xG:List UInt8) (xH xI xJ xK xL xM xN:Int) (xO:List UInt8) (xP xQ xR xS:Int) (xT:Bool) (xU:List UInt8):zc5 x0 x1 x2 x3 x4 x5 x6 x7 x8 x9 xA xB xC xD xE xF xG xH xI xJ xK xL xM xN xO xP xQ xR xS xT xU =
  (bif (!(eqB xP 0)) then (some (PV.tuple [(PV.agg [(PV.int .i64 0),(PV.int .i64 0),(PV.bool false),(PV.str [])]),(PV.int .i64 10)])) else ((z8s xP xQ).bind fun v1=>((z78 x0 x1 x2 x3 x4 x5 x6 x7 x8 x9 xA xB xC xD xE xF xG xH xI xJ xK xL xM xN xO (PV.toI (PV.tnth v1 0))).bind fun v2=>(some (PV.tuple [(PV.agg [(PV.int .i64 (PV.toI (PV.nth (PV.tnth v2 0) 0))),(PV.int .i64 (PV.toI (PV.nth (PV.tnth v2 0) 1))),(PV.bool (PV.toB (PV.nth (PV.tnth v2 0) 2))),(PV.str (PV.toS (PV.nth (PV.tnth v2 0) 3)))]),(PV.int .i64 (PV.toI (PV.tnth v2 1)))]))))) :=
 (z7 EE _ _).trans (by kernel_rfl)
theorem zly (a0_0 a0_1 a1_0 a1_1 a1_2:Int):z66 a0_0 a0_1 a1_0 a1_1 a1_2 =
  ((zfy a0_0 a0_1).bind fun v1=>((z7o (PV.toI (PV.nth (PV.tnth v1 0) 0)) (PV.toI (PV.nth (PV.tnth v1 0) 1)) a1_0 a1_1 a1_2).bind fun v2=>((zca (PV.toI (PV.tnth v1 1))).bind fun v3=>((catS (PV.toS (PV.tnth v2 0)) [32]).bind fun v4=>((catS v4 (PV.toS (PV.tnth v3 0))).bind fun v5=>(some (PV.tuple [(PV.str v5),(PV.str (PV.toS (PV.tnth v2 1)))]))))))) :=
 (z6 EE zbw _ rfl).trans (by kernel_rfl)
theorem zmb (a0:Int):z9b a0 =
  (bif (ltB a0 (-57599)) then z71 else (bif (ltB 57599 a0) then z71 else (zcb a0))) :=
 (z6 EE z1b _ rfl).trans (by kernel_rfl)
theorem z92  : z71  =
  (some (PV.tuple [(PV.str []),(PV.int .i64 10)])) :=
 (z7 EE _ _).trans (by kernel_rfl)
theorem zi9 (x0:Int):zcb x0 =
  (bif (ltB x0 0) then (z4e (IntKind.wrap .i64 (0-x0)) [45]) else (z4e x0 [43])) :=
 (z7 EE _ _).trans (by kernel_rfl)
theorem z53 (x0:Int) (x1:List UInt8):z4e x0 x1 =
  ((zw (IntKind.wrap .i64 (Int.tdiv x0 3600))).bind fun v1=>((catS x1 (PV.toS v1)).bind fun v2=>(bif (!(eqB (Int.tmod x0 3600) 0)) then ((catS v2 [58]).bind fun v3=>((zw (Int.tmod (IntKind.wrap .i64 (Int.tdiv x0 60)) 60)).bind fun v4=>((catS v3 (PV.toS v4)).bind fun v5=>(z6h x0 v5)))) else (z6h x0 v2)))) :=
 (z7 EE _ _).trans (by kernel_rfl)
theorem z4t (x0:Int) (x1:List UInt8):z6h x0 x1 =
  (bif (!(eqB (Int.tmod x0 60) 0)) then ((catS x1 [58]).bind fun v1=>((zw (Int.tmod x0 60)).bind fun v2=>((catS v1 (PV.toS v2)).bind fun v3=>(some (PV.tuple [(PV.str v3),(PV.int .i64 0)]))))) else (some (PV.tuple [(PV.str x1),(PV.int .i64 0)]))) :=
 (z7 EE _ _).trans (by kernel_rfl)
theorem z1cr (a0_0 a0_1 a0_2 a0_3 a1_0 a1_1 a1_2:Int):zhf a0_0 a0_1 a0_2 a0_3 a1_0 a1_1 a1_2 =
  ((zs4 a0_0 a0_1 a0_2 a0_3).bind fun v1=>(bif (!(PV.toB v1)) then (some (PV.tuple [(PV.str []),(PV.int .i64 1)])) else ((zdn a1_0 a1_1 a1_2).bind fun v2=>(bif (!(PV.toB v2)) then (some (PV.tuple [(PV.str []),(PV.int .i64 1)])) else (z10j a0_0 a0_1 a0_2 a0_3 a1_0 a1_1 a1_2))))) :=
 (z6 EE zj1 _ rfl).trans (by kernel_rfl)
theorem z13n (x0 x1 x2 x3 x4 x5 x6:Int):z10j x0 x1 x2 x3 x4 x5 x6 =
  (bif (!(eqB x0 0)) then ((z5b x0).bind fun v1=>(some (PV.tuple [(PV.str (PV.toS v1)),(PV.int .i64 0)]))) else (bif (eqB x6 1) then ((z19l x0 x1 x2 x3).bind fun v2=>(some (PV.tuple [(PV.str (PV.toS v2)),(PV.int .i64 0)]))) else (bif (eqB x6 2) then ((z19m x0 x1 x2 x3).bind fun v3=>(some (PV.tuple [(PV.str (PV.toS v3)),(PV.int .i64 0)]))) else ((zli x0 x1 x2 x3).bind fun v4=>(some (PV.tuple [(PV.str (PV.toS v4)),(PV.int .i64 0)])))))) :=
 (z7 EE _ _).trans (by kernel_rfl)
theorem z10k (a0_0 a0_1 a1_0 a1_1 a1_2:Int):zos a0_0 a0_1 a1_0 a1_1 a1_2 =
  ((zki a0_0 a0_1).bind fun v1=>(bif (!(PV.toB v1)) then zor else ((zdn a1_0 a1_1 a1_2).bind fun v2=>(bif (!(PV.toB v2)) then zor else (z10l a0_0 a0_1 a1_0 a1_1 a1_2))))) :=
 (z6 EE zes _ rfl).trans (by kernel_rfl)
theorem zoq  : zor  =
  (some (PV.tuple [(PV.str []),(PV.int .i64 1)])) :=
 (z7 EE _ _).trans (by kernel_rfl)
theorem zop (x0 x1 x2 x3 x4:Int):z10l x0 x1 x2 x3 x4 =
  (bif (!(eqB x0 0)) then ((z5b x0).bind fun v1=>(some (PV.tuple [(PV.str (PV.toS v1)),(PV.int .i64 0)]))) else ((zoo x0 x1 x2 x3 x4).bind fun v2=>((zt [(PV.str (PV.toS (PV.tnth v2 0))),(PV.str (PV.toS (PV.tnth v2 1)))]).bind fun v3=>(some (PV.tuple [(PV.str (PV.toS v3)),(PV.int .i64 0)]))))) :=
 (z7 EE _ _).trans (by kernel_rfl)
theorem z18u (a0_0:List UInt8) (a0_1 a0_2:Int) (a0_3:Bool) (a0_4:List UInt8) (a0_5:List PV) (a0_6:Bool) (a0_7 a0_8 a0_9 a0_10 a0_11 a0_12 a0_13 a0_14 a0_15:Int) (a0_16:List UInt8) (a0_17 a0_18 a0_19 a0_20 a0_21 a0_22 a0_23:Int) (a0_24:List UInt8):zjs a0_0 a0_1 a0_2 a0_3 a0_4 a0_5 a0_6 a0_7 a0_8 a0_9 a0_10 a0_11 a0_12 a0_13 a0_14 a0_15 a0_16 a0_17 a0_18 a0_19 a0_20 a0_21 a0_22 a0_23 a0_24 =
  ((zh4 a0_2 57600).bind fun v1=>(bif (!(PV.toB v1)) then zgp else (bif (!(eqB a0_1 0)) then zgp else (bif (ltB 8192 (((List.length a0_5):Nat):Int)) then zgp else (zwf a0_0 a0_1 a0_2 a0_3 a0_4 a0_5 a0_6 a0_7 a0_8 a0_9 a0_10 a0_11 a0_12 a0_13 a0_14 a0_15 a0_16 a0_17 a0_18 a0_19 a0_20 a0_21 a0_22 a0_23 a0_24))))) :=
 (z6 EE z5d _ rfl).trans (by kernel_rfl)
theorem z9x  : zgp  =
  (some (PV.bool false)) :=
 (z7 EE _ _).trans (by kernel_rfl)
theorem z11i (x0:List UInt8) (x1 x2:Int) (x3:Bool) (x4:List UInt8) (x5:List PV) (x6:Bool) (x7 x8 x9 xA xB xC xD xE xF:Int) (xG:List UInt8) (xH xI xJ xK xL xM xN:Int) (xO:List UInt8):zwf x0 x1 x2 x3 x4 x5 x6 x7 x8 x9 xA xB xC xD xE xF xG xH xI xJ xK xL xM xN xO =
  (zgo x5 (((List.length x5):Nat):Int) 0 x0 x1 x2 x3 x4 x5 x6 x7 x8 x9 xA xB xC xD xE xF xG xH xI xJ xK xL xM xN xO) :=
 (z7 EE _ _).trans (by kernel_rfl)
theorem zmj (x0:List PV) (x1 x2:Int) (x3:List UInt8) (x4 x5:Int) (x6:Bool) (x7:List UInt8) (x8:List PV) (x9:Bool) (xA xB xC xD xE xF xG xH xI:Int) (xJ:List UInt8) (xK xL xM xN xO xP xQ:Int) (xR:List UInt8):zgo x0 x1 x2 x3 x4 x5 x6 x7 x8 x9 xA xB xC xD xE xF xG xH xI xJ xK xL xM xN xO xP xQ xR =
  (bif (ltB x2 x1) then ((rdI (EE.ti zp) x0 x2).bind fun v1=>((zh4 (PV.toI (PV.nth v1 1)) 57600).bind fun v2=>(bif (!(PV.toB v2)) then zgn else ((zh4 (PV.toI (PV.nth v1 0)) 1125899906842624).bind fun v3=>(bif (!(PV.toB v3)) then zgn else (bif (ltB 0 x2) then ((rdI (EE.ti zp) x8 (IntKind.wrap .i64 (x2-1))).bind fun v4=>(bif (leB (PV.toI (PV.nth v1 0)) (PV.toI (PV.nth v4 0))) then zgn else (zgm x0 x1 x2 x3 x4 x5 x6 x7 x8 x9 xA xB xC xD xE xF xG xH xI xJ xK xL xM xN xO xP xQ xR))) else (zgm x0 x1 x2 x3 x4 x5 x6 x7 x8 x9 xA xB xC xD xE xF xG xH xI xJ xK xL xM xN xO xP xQ xR))))))) else (bif (!x9) then (some (PV.bool ((x9 == false)&&((eqB xA 0)&&((eqB xB 0)&&((eqB xC 0)&&((eqB xD 0)&&((eqB xE 0)&&((eqB xF 0)&&((eqB xG 0)&&((eqB xH 0)&&((eqB xI 0)&&((eqS xJ [])&&((eqB xK 0)&&((eqB xL 0)&&((eqB xM 0)&&((eqB xN 0)&&((eqB xO 0)&&((eqB xP 0)&&((eqB xQ 0)&&((eqS xR [])&&true))))))))))))))))))))) else ((z88 xA).bind fun v5=>((z1ax x9 xA xB xC xD xE xF xG xH xI xJ xK xL xM xN xO xP xQ xR xA).bind fun v6=>(bif (eqB (PV.toI (PV.tnth v6 1)) 0) then (bif (eqB (PV.toI (PV.nth (PV.tnth v6 0) 0)) xA) then (bif (leB 1800 (PV.toI v5)) then (bif (leB (PV.toI v5) 2110) then (bif (eqB (((List.length x8):Nat):Int) 0) then (some (PV.bool true)) else ((rdI (EE.ti zp) x8 (IntKind.wrap .i64 ((((List.length x8):Nat):Int)-1))).bind fun v7=>(some (PV.bool (ltB (PV.toI (PV.nth v7 0)) xA))))) else (some (PV.bool false))) else (some (PV.bool false))) else (some (PV.bool false))) else (some (PV.bool false))))))) :=
 (z7 EE _ _).trans (by kernel_rfl)
theorem z9w  : zgn  =
  (some (PV.bool false)) :=
 (z7 EE _ _).trans (by kernel_rfl)
theorem z11h (x0:List PV) (x1 x2:Int) (x3:List UInt8) (x4 x5:Int) (x6:Bool) (x7:List UInt8) (x8:List PV) (x9:Bool) (xA xB xC xD xE xF xG xH xI:Int) (xJ:List UInt8) (xK xL xM xN xO xP xQ:Int) (xR:List UInt8):zgm x0 x1 x2 x3 x4 x5 x6 x7 x8 x9 xA xB xC xD xE xF xG xH xI xJ xK xL xM xN xO xP xQ xR =
  (zgo x0 x1 (IntKind.wrap .i64 (x2+1)) x3 x4 x5 x6 x7 x8 x9 xA xB xC xD xE xF xG xH xI xJ xK xL xM xN xO xP xQ xR) :=
 (z7 EE _ _).trans (by kernel_rfl)
theorem z19k (a0:Bool):z17h a0 =
  (bif a0 then (some (PV.int .i64 1)) else (some (PV.int .i64 0))) :=
 (z6 EE zxr _ rfl).trans (by kernel_rfl)
theorem z15b (a0_0 a0_1:Int):zsp a0_0 a0_1 =
  ((z1ee a0_0 a0_1).bind fun v1=>(bif (!(PV.toB v1)) then (some (PV.str [])) else (bif (ltB a0_0 0) then (zlx (IntKind.wrap .u64 (0-(IntKind.wrap .u64 a0_0))) [45] a0_0 a0_1) else (zlx (IntKind.wrap .u64 a0_0) [] a0_0 a0_1)))) :=
 (z6 EE z84 _ rfl).trans (by kernel_rfl)
theorem z16y (x0:Int) (x1:List UInt8) (x2 x3:Int):zlx x0 x1 x2 x3 =
  (z6u x0 x1 32 0 x2 x3 [(PV.int .u8 0),(PV.int .u8 0),(PV.int .u8 0),(PV.int .u8 0),(PV.int .u8 0),(PV.int .u8 0),(PV.int .u8 0),(PV.int .u8 0),(PV.int .u8 0),(PV.int .u8 0),(PV.int .u8 0),(PV.int .u8 0),(PV.int .u8 0),(PV.int .u8 0),(PV.int .u8 0),(PV.int .u8 0),(PV.int .u8 0),(PV.int .u8 0),(PV.int .u8 0),(PV.int .u8 0),(PV.int .u8 0),(PV.int .u8 0),(PV.int .u8 0),(PV.int .u8 0),(PV.int .u8 0),(PV.int .u8 0),(PV.int .u8 0),(PV.int .u8 0),(PV.int .u8 0),(PV.int .u8 0),(PV.int .u8 0),(PV.int .u8 0)] 32) :=
 (z7 EE _ _).trans (by kernel_rfl)
theorem zeb (x0:Int) (x1:List UInt8) (x2 x3 x4 x5:Int) (x6:List PV) (x7:Nat):z6u x0 x1 x2 x3 x4 x5 x6 x7 =
  (bif (ltB 0 x0) then (zf6 x0 x1 x2 x3 x4 x5 x6 x7) else (bif (leB x3 x5) then (zf6 x0 x1 x2 x3 x4 x5 x6 x7) else (bif (eqN (List.length x6) 32) then (bif (eqN x7 32) then (bif (decide ((0≤x2)∧(x2≤((32:Nat):Int)))) then ((z7h (List.take (32-(Int.toNat x2)) (List.drop (Int.toNat x2) x6))).bind fun v1=>((catS x1 v1).bind fun v2=>(some (PV.str v2)))) else none) else none) else none))) :=
 (z7 EE _ _).trans (by kernel_rfl)
theorem zhq (x0:Int) (x1:List UInt8) (x2 x3 x4 x5:Int) (x6:List PV) (x7:Nat):zf6 x0 x1 x2 x3 x4 x5 x6 x7 =
  (bif (eqB x3 x5) then (bif (ltB 0 x3) then (zpd x0 x1 x2 x3 x4 x5 x6 x7) else (zay x0 x1 x2 x3 x4 x5 x6 x7)) else (zay x0 x1 x2 x3 x4 x5 x6 x7)) :=
 (z7 EE _ _).trans (by kernel_rfl)
theorem z15d (x0:Int) (x1:List UInt8) (x2 x3 x4 x5:Int) (x6:List PV) (x7:Nat):zpd x0 x1 x2 x3 x4 x5 x6 x7 =
  (bif (inB 0 (IntKind.wrap .i64 (x2-1)) ((32:Nat):Int)) then ((stC x6 (Int.toNat (IntKind.wrap .i64 (x2-1))) 0 [(PV.int .u8 46)]).bind fun v1=>(zay x0 x1 (IntKind.wrap .i64 (x2-1)) x3 x4 x5 v1 x7)) else none) :=
 (z7 EE _ _).trans (by kernel_rfl)
theorem z15c (x0:Int) (x1:List UInt8) (x2 x3 x4 x5:Int) (x6:List PV) (x7:Nat):zay x0 x1 x2 x3 x4 x5 x6 x7 =
  (bif (inB 0 (IntKind.wrap .i64 (x2-1)) ((32:Nat):Int)) then ((stC x6 (Int.toNat (IntKind.wrap .i64 (x2-1))) 0 [(PV.int .u8 (IntKind.wrap .u8 (IntKind.wrap .u64 (48+(Int.tmod x0 10)))))]).bind fun v1=>(z6u (IntKind.wrap .u64 (Int.tdiv x0 10)) x1 (IntKind.wrap .i64 (x2-1)) (IntKind.wrap .i64 (x3+1)) x4 x5 v1 x7)) else none) :=
 (z7 EE _ _).trans (by kernel_rfl)
theorem z19o (a0_0 a0_1 a1_0 a1_1 a1_2:Int):zze a0_0 a0_1 a1_0 a1_1 a1_2 =
  ((z2p a0_0 a0_1).bind fun v1=>(bif (!(PV.toB v1)) then zlk else ((zdn a1_0 a1_1 a1_2).bind fun v2=>(bif (!(PV.toB v2)) then zlk else (zx5 a0_0 a0_1 a1_0 a1_1 a1_2))))) :=
 (z6 EE zbv _ rfl).trans (by kernel_rfl)
theorem zmq  : zlk  =
  (some (PV.tuple [(PV.str []),(PV.int .i64 1)])) :=
 (z7 EE _ _).trans (by kernel_rfl)
theorem z11w (x0 x1 x2 x3 x4:Int):zx5 x0 x1 x2 x3 x4 =
  (bif (!(eqB x0 0)) then ((z5b x0).bind fun v1=>(some (PV.tuple [(PV.str (PV.toS v1)),(PV.int .i64 0)]))) else ((zlj x0 x1 x2 x3 x4).bind fun v2=>((zt [(PV.str (PV.toS (PV.tnth v2 0))),(PV.str (PV.toS (PV.tnth v2 1)))]).bind fun v3=>(some (PV.tuple [(PV.str (PV.toS v3)),(PV.int .i64 0)]))))) :=
 (z7 EE _ _).trans (by kernel_rfl)
theorem zmc (a0:Int):zi a0 =
  (bif (ltB a0 0) then (z4f a0 (IntKind.wrap .u64 (0-(IntKind.wrap .u64 a0)))) else (z4f a0 (IntKind.wrap .u64 a0))) :=
 (z6 EE z1c _ rfl).trans (by kernel_rfl)
theorem zia (x0 x1:Int):z4f x0 x1 =
  (z2u x0 x1 []) :=
 (z7 EE _ _).trans (by kernel_rfl)
theorem z93 (x0 x1:Int) (x2:List PV):z2u x0 x1 x2 =
  (bif (leB 10 x1) then ((appL 1 x2 [(PV.int .u8 (IntKind.wrap .u8 (IntKind.wrap .u64 (48+(Int.tmod x1 10)))))]).bind fun v1=>(z2u x0 (IntKind.wrap .u64 (Int.tdiv x1 10)) v1)) else ((appL 1 x2 [(PV.int .u8 (IntKind.wrap .u8 (IntKind.wrap .u64 (48+x1))))]).bind fun v2=>(bif (ltB x0 0) then ((appL 1 v2 [(PV.int .u8 45)]).bind fun v3=>(z14 v3)) else (z14 v2)))) :=
 (z7 EE _ _).trans (by kernel_rfl)
theorem zhw (x0:List PV):z14 x0 =
  (z41 (IntKind.wrap .i64 ((((List.length x0):Nat):Int)-1)) x0 []) :=
 (z7 EE _ _).trans (by kernel_rfl)
theorem z8i (x0:Int) (x1:List PV) (x2:List PV):z41 x0 x1 x2 =
  (bif (leB 0 x0) then (bif (inB 0 x0 (((List.length x1):Nat):Int)) then ((rdT (tiInt IntKind.u8) x1 (Int.toNat x0) 0).bind fun v1=>((appL 1 x2 [(PV.int .u8 (PV.toI v1))]).bind fun v2=>(z41 (IntKind.wrap .i64 (x0-1)) x1 v2))) else none) else ((z7h x2).bind fun v3=>(some (PV.str v3)))) :=
 (z7 EE _ _).trans (by kernel_rfl)
theorem zfe (a0_0 a0_1:Int):z7q a0_0 a0_1 =
  ((zhu a0_0 a0_1).bind fun v1=>(bif (!(PV.toB v1)) then (some (PV.str [])) else ((zi a0_0).bind fun v2=>(bif (ltB a0_0 0) then ((dropS (PV.toS v2) 1).bind fun v3=>(z2k v3 [45] a0_0 a0_1)) else (z2k (PV.toS v2) [] a0_0 a0_1))))) :=
 (z6 EE z5g _ rfl).trans (by kernel_rfl)
theorem zb5 (x0:List UInt8) (x1:List UInt8) (x2 x3:Int):z2k x0 x1 x2 x3 =
  (bif (leB (((List.length x0):Nat):Int) x3) then ((catS [48] x0).bind fun v1=>(z2k v1 x1 x2 x3)) else ((takeS x0 (IntKind.wrap .i64 ((((List.length x0):Nat):Int)-x3))).bind fun v2=>((catS x1 v2).bind fun v3=>(bif (ltB 0 x3) then ((catS v3 [46]).bind fun v4=>((dropS x0 (IntKind.wrap .i64 ((((List.length x0):Nat):Int)-x3))).bind fun v5=>((catS v4 v5).bind fun v6=>(some (PV.str v6))))) else (some (PV.str v3)))))) :=
 (z7 EE _ _).trans (by kernel_rfl)
theorem zpk (a0_0 a0_1 a1_0 a1_1 a1_2:Int):zc1 a0_0 a0_1 a1_0 a1_1 a1_2 =
  ((z4r a0_0 a0_1).bind fun v1=>(bif (!(PV.toB v1)) then z8c else ((z2b a1_0 a1_1 a1_2).bind fun v2=>(bif (!(PV.toB v2)) then z8c else (zf8 a0_0 a0_1 a1_0 a1_1 a1_2))))) :=
 (z6 EE z3q _ rfl).trans (by kernel_rfl)
theorem zb1  : z8c  =
  (some (PV.tuple [(PV.str []),(PV.int .i64 1)])) :=
 (z7 EE _ _).trans (by kernel_rfl)
theorem zkn (x0 x1 x2 x3 x4:Int):zf8 x0 x1 x2 x3 x4 =
  (bif (!(eqB x0 0)) then ((z4h x0).bind fun v1=>(some (PV.tuple [(PV.str (PV.toS v1)),(PV.int .i64 0)]))) else ((z7o x0 x1 x2 x3 x4).bind fun v2=>((catS (PV.toS (PV.tnth v2 0)) (PV.toS (PV.tnth v2 1))).bind fun v3=>(some (PV.tuple [(PV.str v3),(PV.int .i64 0)]))))) :=
 (z7 EE _ _).trans (by kernel_rfl)
theorem znb (a0_0 a0_1 a1_0 a1_1 a1_2:Int):za9 a0_0 a0_1 a1_0 a1_1 a1_2 =
  ((zu a0_0 a0_1).bind fun v1=>(bif (!(PV.toB v1)) then z7e else ((z2b a1_0 a1_1 a1_2).bind fun v2=>(bif (!(PV.toB v2)) then z7e else (zd7 a0_0 a0_1 a1_0 a1_1 a1_2))))) :=
 (z6 EE z36 _ rfl).trans (by kernel_rfl)
theorem z9p  : z7e  =
  (some (PV.tuple [(PV.str []),(PV.int .i64 1)])) :=
 (z7 EE _ _).trans (by kernel_rfl)
theorem zji (x0 x1 x2 x3 x4:Int):zd7 x0 x1 x2 x3 x4 =
  (bif (!(eqB x0 0)) then ((z4h x0).bind fun v1=>(some (PV.tuple [(PV.str (PV.toS v1)),(PV.int .i64 0)]))) else ((z66 x0 x1 x2 x3 x4).bind fun v2=>((catS (PV.toS (PV.tnth v2 0)) (PV.toS (PV.tnth v2 1))).bind fun v3=>(some (PV.tuple [(PV.str v3),(PV.int .i64 0)]))))) :=
 (z7 EE _ _).trans (by kernel_rfl)
theorem zpj (a0_0 a0_1 a0_2 a0_3 a1_0 a1_1 a1_2:Int):zc0 a0_0 a0_1 a0_2 a0_3 a1_0 a1_1 a1_2 =
  ((z6v a0_0 a0_1 a0_2 a0_3).bind fun v1=>(bif (!(PV.toB v1)) then z8b else ((z2b a1_0 a1_1 a1_2).bind fun v2=>(bif (!(PV.toB v2)) then z8b else (zf7 a0_0 a0_1 a0_2 a0_3 a1_0 a1_1 a1_2))))) :=
 (z6 EE z3p _ rfl).trans (by kernel_rfl)
theorem zb0  : z8b  =
  (some (PV.tuple [(PV.str []),(PV.int .i64 1)])) :=
 (z7 EE _ _).trans (by kernel_rfl)
theorem zkm (x0 x1 x2 x3 x4 x5 x6:Int):zf7 x0 x1 x2 x3 x4 x5 x6 =
  (bif (!(eqB x0 0)) then ((z4h x0).bind fun v1=>(some (PV.tuple [(PV.str (PV.toS v1)),(PV.int .i64 0)]))) else (bif (eqB x6 1) then ((zdq x0 x1 x2 x3).bind fun v2=>(some (PV.tuple [(PV.str (PV.toS v2)),(PV.int .i64 0)]))) else (bif (eqB x6 2) then ((zdr x0 x1 x2 x3).bind fun v3=>(some (PV.tuple [(PV.str (PV.toS v3)),(PV.int .i64 0)]))) else ((z7d x0 x1 x2 x3).bind fun v4=>(some (PV.tuple [(PV.str (PV.toS v4)),(PV.int .i64 0)])))))) :=
 (z7 EE _ _).trans (by kernel_rfl)
theorem zpe (a0_0 a0_1:Int):zki a0_0 a0_1 =
  (bif ((eqB a0_0 (-1))&&((eqB a0_1 0)&&true)) then (some (PV.bool true)) else (bif ((eqB a0_0 1)&&((eqB a0_1 0)&&true)) then (some (PV.bool true)) else (bif (eqB a0_0 0) then ((z3h a0_1).bind fun v1=>(some (PV.bool (PV.toB v1)))) else (some (PV.bool false))))) :=
 (z6 EE z111 _ rfl).trans (by kernel_rfl)
theorem zkh (a0_0 a0_1:Int):z2p a0_0 a0_1 =
  ((zxe a0_1).bind fun v1=>(bif ((eqB a0_0 (-1))&&((eqB a0_1 0)&&true)) then (some (PV.bool true)) else (bif ((eqB a0_0 1)&&((eqB a0_1 0)&&true)) then (some (PV.bool true)) else (bif (eqB a0_0 0) then ((z3h (PV.toI (PV.tnth v1 0))).bind fun v2=>(some (PV.bool (PV.toB v2)))) else (some (PV.bool false)))))) :=
 (z6 EE zke _ rfl).trans (by kernel_rfl)
theorem z19i (a0_0 a0_1 a0_2 a0_3:Int):zs4 a0_0 a0_1 a0_2 a0_3 =
  (bif (!(eqB a0_0 0)) then (bif ((eqB a0_0 a0_0)&&((eqB a0_1 0)&&((eqB a0_2 0)&&((eqB a0_3 0)&&true)))) then (bif (leB (-1) a0_0) then (some (PV.bool (leB a0_0 1))) else (some (PV.bool false))) else (some (PV.bool false))) else ((z1a9 a0_3).bind fun v1=>((zlg a0_1).bind fun v2=>(bif (PV.toB v2) then ((zlg a0_2).bind fun v3=>(bif (PV.toB v3) then (some (PV.bool (eqB (PV.toI (PV.tnth v1 1)) 0))) else (some (PV.bool false)))) else (some (PV.bool false)))))) :=
 (z6 EE zxq _ rfl).trans (by kernel_rfl)
theorem zdb (a0_0 a0_1:Int):z4r a0_0 a0_1 =
  (bif (eqB a0_0 0) then ((z68 a0_1).bind fun v1=>(some (PV.bool (PV.toB v1)))) else (bif (eqB a0_0 (-1)) then (some (PV.bool (eqB a0_1 0))) else (bif (eqB a0_0 1) then (some (PV.bool (eqB a0_1 0))) else (some (PV.bool false))))) :=
 (z6 EE zct _ rfl).trans (by kernel_rfl)
theorem znd (a0_0 a0_1 a0_2 a0_3:Int):z6v a0_0 a0_1 a0_2 a0_3 =
  (bif (!(eqB a0_0 0)) then (bif (eqB a0_0 (-1)) then (bif (eqB a0_1 0) then (bif (eqB a0_2 0) then (some (PV.bool (eqB a0_3 0))) else (some (PV.bool false))) else (some (PV.bool false))) else (bif (eqB a0_0 1) then (bif (eqB a0_1 0) then (bif (eqB a0_2 0) then (some (PV.bool (eqB a0_3 0))) else (some (PV.bool false))) else (some (PV.bool false))) else (some (PV.bool false)))) else ((z49 a0_1 2147483647).bind fun v1=>(bif (PV.toB v1) then ((z49 a0_2 2147483647).bind fun v2=>(bif (PV.toB v2) then ((z49 a0_3 9223372036854775807).bind fun v3=>(some (PV.bool (PV.toB v3)))) else (some (PV.bool false)))) else (some (PV.bool false))))) :=
 (z6 EE zcs _ rfl).trans (by kernel_rfl)
theorem z1fn (a0_0 a0_1 a1:Int):z19h a0_0 a0_1 a1 =
  ((z1gb a0_1 a1).bind fun v1=>(bif (!(eqB (PV.toI (PV.tnth v1 1)) 0)) then (some (PV.tuple [(PV.agg [(PV.int .i64 0),(PV.int .i64 0)]),(PV.int .i64 10)])) else ((z2p 0 (PV.toI (PV.tnth v1 0))).bind fun v2=>(bif (!(PV.toB v2)) then (some (PV.tuple [(PV.agg [(PV.int .i64 0),(PV.int .i64 0)]),(PV.int .i64 10)])) else (some (PV.tuple [(PV.agg [(PV.int .i64 0),(PV.int .i64 (PV.toI (PV.tnth v1 0)))]),(PV.int .i64 0)])))))) :=
 (z6 EE z14s _ rfl).trans (by kernel_rfl)
theorem zok (a0_0:List UInt8) (a0_1 a0_2:Int) (a0_3:Bool) (a0_4:List UInt8) (a0_5:List PV) (a0_6:Bool) (a0_7 a0_8 a0_9 a0_10 a0_11 a0_12 a0_13 a0_14 a0_15:Int) (a0_16:List UInt8) (a0_17 a0_18 a0_19 a0_20 a0_21 a0_22 a0_23:Int) (a0_24:List UInt8) (a1_0 a1_1:Int):z1cl a0_0 a0_1 a0_2 a0_3 a0_4 a0_5 a0_6 a0_7 a0_8 a0_9 a0_10 a0_11 a0_12 a0_13 a0_14 a0_15 a0_16 a0_17 a0_18 a0_19 a0_20 a0_21 a0_22 a0_23 a0_24 a1_0 a1_1 =
  ((zjs a0_0 a0_1 a0_2 a0_3 a0_4 a0_5 a0_6 a0_7 a0_8 a0_9 a0_10 a0_11 a0_12 a0_13 a0_14 a0_15 a0_16 a0_17 a0_18 a0_19 a0_20 a0_21 a0_22 a0_23 a0_24).bind fun v1=>(bif (!(PV.toB v1)) then (some (PV.int .i64 1)) else ((z2p a1_0 a1_1).bind fun v2=>(bif (!(PV.toB v2)) then (some (PV.int .i64 1)) else (some (PV.int .i64 0)))))) :=
 (z6 EE z10x _ rfl).trans (by kernel_rfl)
theorem z16e (a0_0 a0_1:Int):zv8 a0_0 a0_1 =
  ((z1ab a0_1 1000000).bind fun v1=>((z1aa a0_1 1000000).bind fun v2=>(some (PV.tuple [(PV.int .i64 (IntKind.wrap .i64 ((PV.toI (PV.tnth v1 0))+946684800))),(PV.int .i64 (PV.toI (PV.tnth v2 0)))])))) :=
 (z6 EE zu5 _ rfl).trans (by kernel_rfl)
theorem zyx (a0_0:List UInt8) (a0_1 a0_2:Int) (a0_3:Bool) (a0_4:List UInt8) (a0_5:List PV) (a0_6:Bool) (a0_7 a0_8 a0_9 a0_10 a0_11 a0_12 a0_13 a0_14 a0_15:Int) (a0_16:List UInt8) (a0_17 a0_18 a0_19 a0_20 a0_21 a0_22 a0_23:Int) (a0_24:List UInt8) (a1:Int):z18v a0_0 a0_1 a0_2 a0_3 a0_4 a0_5 a0_6 a0_7 a0_8 a0_9 a0_10 a0_11 a0_12 a0_13 a0_14 a0_15 a0_16 a0_17 a0_18 a0_19 a0_20 a0_21 a0_22 a0_23 a0_24 a1 =
  ((z1h2 a0_0 a0_1 a0_2 a0_3 a0_4 a0_5 a0_6 a0_7 a0_8 a0_9 a0_10 a0_11 a0_12 a0_13 a0_14 a0_15 a0_16 a0_17 a0_18 a0_19 a0_20 a0_21 a0_22 a0_23 a0_24 [(PV.int .i64 a1)]).bind fun v1=>(bif (!(eqB (PV.toI v1) 0)) then (some (PV.tuple [(PV.agg [(PV.int .i64 0),(PV.int .i64 0),(PV.bool false),(PV.str [])]),(PV.int .i64 (PV.toI v1))])) else ((z1f4 a0_0 a0_1 a0_2 a0_3 a0_4 a0_5 a0_6 a0_7 a0_8 a0_9 a0_10 a0_11 a0_12 a0_13 a0_14 a0_15 a0_16 a0_17 a0_18 a0_19 a0_20 a0_21 a0_22 a0_23 a0_24 a1).bind fun v2=>(some (PV.tuple [(PV.agg [(PV.int .i64 (PV.toI (PV.nth v2 0))),(PV.int .i64 (PV.toI (PV.nth v2 1))),(PV.bool (PV.toB (PV.nth v2 2))),(PV.str (PV.toS (PV.nth v2 3)))]),(PV.int .i64 0)]))))) :=
 (z6 EE z182 _ rfl).trans (by kernel_rfl)
theorem day_Of_eq (a0_0 a0_1:Int):day_Of a0_0 a0_1 =
  ((z2p a0_0 a0_1).bind fun v1=>(bif (!(PV.toB v1)) then (some (PV.tuple [(PV.agg [(PV.int .i64 0),(PV.int .i64 0)]),(PV.int .i64 0),(PV.int .i64 1)])) else (bif (!(eqB a0_0 0)) then (some (PV.tuple [(PV.agg [(PV.int .i64 a0_0),(PV.int .i64 0)]),(PV.int .i64 0),(PV.int .i64 0)])) else ((zxe a0_1).bind fun v2=>(some (PV.tuple [(PV.agg [(PV.int .i64 0),(PV.int .i64 (PV.toI (PV.tnth v2 0)))]),(PV.int .i64 (PV.toI (PV.tnth v2 1))),(PV.int .i64 0)])))))) :=
 (z6 EE z1e4 _ rfl).trans (by kernel_rfl)
theorem z10i (a0_0 a0_1 a1_0 a1_1 a1_2:Int):zoo a0_0 a0_1 a1_0 a1_1 a1_2 =
  ((zyd a0_0 a0_1).bind fun v1=>(bif (ltB (PV.toI (PV.tnth v1 0)) 1) then (zin (IntKind.wrap .i64 (1-(PV.toI (PV.tnth v1 0)))) (PV.toI (PV.tnth v1 1)) (PV.toI (PV.tnth v1 2)) [32,66,67] a1_0 a1_1 a1_2) else (zin (PV.toI (PV.tnth v1 0)) (PV.toI (PV.tnth v1 1)) (PV.toI (PV.tnth v1 2)) [] a1_0 a1_1 a1_2))) :=
 (z6 EE zj0 _ rfl).trans (by kernel_rfl)
theorem zon (x0 x1 x2:Int) (x3:List UInt8) (x4 x5 x6:Int):zin x0 x1 x2 x3 x4 x5 x6 =
  ((z5v x0).bind fun v1=>((z9g [48] (maxI 0 (IntKind.wrap .i64 (4-(((List.length (PV.toS v1)):Nat):Int))))).bind fun v2=>((zt [(PV.str (PV.toS v2)),(PV.str (PV.toS v1))]).bind fun v3=>((z3d x1).bind fun v4=>((z3d x2).bind fun v5=>(bif (eqB x4 0) then ((z1s [45] [(PV.str (PV.toS v3)),(PV.str (PV.toS v4)),(PV.str (PV.toS v5))]).bind fun v6=>(some (PV.tuple [(PV.str (PV.toS v6)),(PV.str x3)]))) else (bif (eqB x5 2) then ((z1s [47] [(PV.str (PV.toS v4)),(PV.str (PV.toS v5)),(PV.str (PV.toS v3))]).bind fun v7=>(some (PV.tuple [(PV.str (PV.toS v7)),(PV.str x3)]))) else (bif (eqB x5 1) then ((z1s [47] [(PV.str (PV.toS v5)),(PV.str (PV.toS v4)),(PV.str (PV.toS v3))]).bind fun v8=>(some (PV.tuple [(PV.str (PV.toS v8)),(PV.str x3)]))) else ((z1s [47] [(PV.str (PV.toS v3)),(PV.str (PV.toS v4)),(PV.str (PV.toS v5))]).bind fun v9=>(some (PV.tuple [(PV.str (PV.toS v9)),(PV.str x3)]))))))))))) :=
 (z7 EE _ _).trans (by kernel_rfl)
theorem z1bc (a0:Int):zzu a0 =
  ((z119 a0 86400000000).bind fun v1=>(bif (!(PV.toB v1)) then (some (PV.tuple [(PV.str []),(PV.int .i64 10)])) else ((zl0 (IntKind.wrap .u64 a0)).bind fun v2=>(some (PV.tuple [(PV.str (PV.toS v2)),(PV.int .i64 0)]))))) :=
 (z6 EE zxz _ rfl).trans (by kernel_rfl)
theorem z13m (a0:List UInt8) (a1:List PV):z1s a0 a1 =
  (z80 a0 a1 (((List.length a1):Nat):Int) 0 []) :=
 (z6 EE zbt _ rfl).trans (by kernel_rfl)
theorem zio (x0:List UInt8) (x1:List PV) (x2 x3:Int) (x4:List PV):z80 x0 x1 x2 x3 x4 =
  (bif (ltB x3 x2) then ((rdI tiStr x1 x3).bind fun v1=>(bif (!(eqS (PV.toS v1) [])) then ((appL 16 x4 [(PV.str (PV.toS v1))]).bind fun v2=>(z80 x0 x1 x2 (IntKind.wrap .i64 (x3+1)) v2)) else (z80 x0 x1 x2 (IntKind.wrap .i64 (x3+1)) x4))) else ((zof x4 x0).bind fun v3=>(some (PV.str (PV.toS v3))))) :=
 (z7 EE _ _).trans (by kernel_rfl)
theorem z11a (a0:Int):z3d a0 =
  (bif (leB 0 a0) then ((z8l (IntKind.wrap .u64 a0) 2).bind fun v1=>(some (PV.str (PV.toS v1)))) else ((z1a9 a0).bind fun v2=>(bif (eqB (PV.toI (PV.tnth v2 1)) 0) then ((z8l (IntKind.wrap .u64 (PV.toI (PV.tnth v2 0))) 2).bind fun v3=>((catS [45] (PV.toS v3)).bind fun v4=>(some (PV.str v4)))) else ((z8l 9223372036854775808 2).bind fun v5=>((catS [45] (PV.toS v5)).bind fun v6=>(some (PV.str v6))))))) :=
 (z6 EE z113 _ rfl).trans (by kernel_rfl)
theorem znq (a0:Int):z73 a0 =
  ((z8w a0 86400000000).bind fun v1=>((z8v a0 86400000000).bind fun v2=>(some (PV.tuple [(PV.int .i64 (PV.toI (PV.tnth v1 0))),(PV.int .i64 (PV.toI (PV.tnth v2 0)))])))) :=
 (z6 EE zd1 _ rfl).trans (by kernel_rfl)
theorem zm2 (a0:Int):z68 a0 =
  ((z42 a0).bind fun v1=>(bif (eqB (PV.toI (PV.tnth v1 3)) 0) then (bif (leB (-4712) (PV.toI (PV.tnth v1 0))) then (some (PV.bool (leB (PV.toI (PV.tnth v1 0)) 294276))) else (some (PV.bool false))) else (some (PV.bool false)))) :=
 (z6 EE zby _ rfl).trans (by kernel_rfl)
theorem zt7 (a0_0 a0_1:Int) (a0_2:Bool) (a0_3:List UInt8):z8t a0_0 a0_1 a0_2 a0_3 =
  (bif (leB (-57600) a0_1) then (some (PV.bool (leB a0_1 57600))) else (some (PV.bool false))) :=
 (z6 EE zg9 _ rfl).trans (by kernel_rfl)
theorem zm3 (a0:Int):z2x a0 =
  (bif (ltB (Int.tmod a0 86400) 0) then (z4d (IntKind.wrap .i64 ((IntKind.wrap .i64 (Int.tdiv a0 86400))-1))) else (z4d (IntKind.wrap .i64 (Int.tdiv a0 86400)))) :=
 (z6 EE z4a _ rfl).trans (by kernel_rfl)
theorem zi8 (x0:Int):z4d x0 =
  ((zai).bind fun v1=>(bif (ltB (IntKind.wrap .i64 (x0-10957)) (PV.toI v1)) then (some (PV.int .i64 (-4718))) else ((z42 (IntKind.wrap .i64 (x0-10957))).bind fun v2=>(bif (!(eqB (PV.toI (PV.tnth v2 3)) 0)) then (some (PV.int .i64 294282)) else (some (PV.int .i64 (PV.toI (PV.tnth v2 0)))))))) :=
 (z7 EE _ _).trans (by kernel_rfl)
theorem z70 (a0_0:Bool) (a0_1 a0_2 a0_3 a0_4 a0_5 a0_6 a0_7 a0_8 a0_9:Int) (a0_10:List UInt8) (a0_11 a0_12 a0_13 a0_14 a0_15 a0_16 a0_17:Int) (a0_18:List UInt8) (a1:Int):za2 a0_0 a0_1 a0_2 a0_3 a0_4 a0_5 a0_6 a0_7 a0_8 a0_9 a0_10 a0_11 a0_12 a0_13 a0_14 a0_15 a0_16 a0_17 a0_18 a1 =
  ((zc8 a0_0 a0_1 a0_2 a0_3 a0_4 a0_5 a0_6 a0_7 a0_8 a0_9 a0_10 a0_11 a0_12 a0_13 a0_14 a0_15 a0_16 a0_17 a0_18 a1).bind fun v1=>(z4s a1 (PV.toL (PV.tnth v1 0)) (PV.toI (PV.tnth v1 1)) (IntKind.wrap .i64 ((((List.length (PV.toL (PV.tnth v1 0))):Nat):Int)-1)) 0 0 false [])) :=
 (z6 EE z6s _ rfl).trans (by kernel_rfl)
theorem z7f (x0:Int) (x1:List PV) (x2 x3 x4 x5:Int) (x6:Bool) (x7:List UInt8):z4s x0 x1 x2 x3 x4 x5 x6 x7 =
  (bif (leB 0 x3) then ((rdI (EE.ti zp) x1 x3).bind fun v1=>(bif (leB (PV.toI (PV.nth v1 0)) x0) then ((rdI (EE.ti zp) x1 x3).bind fun v2=>(some (PV.tuple [(PV.agg [(PV.int .i64 (PV.toI (PV.nth v2 0))),(PV.int .i64 (PV.toI (PV.nth v2 1))),(PV.bool (PV.toB (PV.nth v2 2))),(PV.str (PV.toS (PV.nth v2 3)))]),(PV.int .i64 0)]))) else (z4s x0 x1 x2 (IntKind.wrap .i64 (x3-1)) x4 x5 x6 x7))) else (some (PV.tuple [(PV.agg [(PV.int .i64 0),(PV.int .i64 0),(PV.bool false),(PV.str [])]),(PV.int .i64 x2)]))) :=
 (z7 EE _ _).trans (by kernel_rfl)
theorem zt6 (a0_0 a0_1:Int):z8s a0_0 a0_1 =
  ((z8w a0_1 1000000).bind fun v1=>((z8v a0_1 1000000).bind fun v2=>(some (PV.tuple [(PV.int .i64 (IntKind.wrap .i64 ((PV.toI (PV.tnth v1 0))+946684800))),(PV.int .i64 (PV.toI (PV.tnth v2 0)))])))) :=
 (z6 EE zg8 _ rfl).trans (by kernel_rfl)
theorem zad (a0_0:List UInt8) (a0_1 a0_2:Int) (a0_3:Bool) (a0_4:List UInt8) (a0_5:List PV) (a0_6:Bool) (a0_7 a0_8 a0_9 a0_10 a0_11 a0_12 a0_13 a0_14 a0_15:Int) (a0_16:List UInt8) (a0_17 a0_18 a0_19 a0_20 a0_21 a0_22 a0_23:Int) (a0_24:List UInt8) (a1:Int):z78 a0_0 a0_1 a0_2 a0_3 a0_4 a0_5 a0_6 a0_7 a0_8 a0_9 a0_10 a0_11 a0_12 a0_13 a0_14 a0_15 a0_16 a0_17 a0_18 a0_19 a0_20 a0_21 a0_22 a0_23 a0_24 a1 =
  ((z2c a0_0 a0_1 a0_2 a0_3 a0_4 a0_5 a0_6 a0_7 a0_8 a0_9 a0_10 a0_11 a0_12 a0_13 a0_14 a0_15 a0_16 a0_17 a0_18 a0_19 a0_20 a0_21 a0_22 a0_23 a0_24).bind fun v1=>(bif (!(PV.toB v1)) then (some (PV.tuple [(PV.agg [(PV.int .i64 0),(PV.int .i64 0),(PV.bool false),(PV.str [])]),(PV.int .i64 1)])) else ((zac a1).bind fun v2=>(bif (!(PV.toB v2)) then (some (PV.tuple [(PV.agg [(PV.int .i64 0),(PV.int .i64 0),(PV.bool false),(PV.str [])]),(PV.int .i64 10)])) else (bif a0_6 then (bif (leB a0_7 a1) then (zaf a1 a0_0 a0_1 a0_2 a0_3 a0_4 a0_5 a0_6 a0_7 a0_8 a0_9 a0_10 a0_11 a0_12 a0_13 a0_14 a0_15 a0_16 a0_17 a0_18 a0_19 a0_20 a0_21 a0_22 a0_23 a0_24 0 0 false []) else (zae a1 a0_0 a0_1 a0_2 a0_3 a0_4 a0_5 a0_6 a0_7 a0_8 a0_9 a0_10 a0_11 a0_12 a0_13 a0_14 a0_15 a0_16 a0_17 a0_18 a0_19 a0_20 a0_21 a0_22 a0_23 a0_24 0 0 false [])) else (zae a1 a0_0 a0_1 a0_2 a0_3 a0_4 a0_5 a0_6 a0_7 a0_8 a0_9 a0_10 a0_11 a0_12 a0_13 a0_14 a0_15 a0_16 a0_17 a0_18 a0_19 a0_20 a0_21 a0_22 a0_23 a0_24 0 0 false [])))))) :=
 (z6 EE z3g _ rfl).trans (by kernel_rfl)
theorem zni (x0:Int) (x1:List UInt8) (x2 x3:Int) (x4:Bool) (x5:List UInt8) (x6:List PV) (x7:Bool) (x8 x9 xA xB xC xD xE xF xG:Int) (xH:List UInt8) (xI xJ xK xL xM xN xO:Int) (xP:List UInt8) (xQ xR:Int) (xS:Bool) (xT:List UInt8):zaf x0 x1 x2 x3 x4 x5 x6 x7 x8 x9 xA xB xC xD xE xF xG xH xI xJ xK xL xM xN xO xP xQ xR xS xT =
  ((za2 x7 x8 x9 xA xB xC xD xE xF xG xH xI xJ xK xL xM xN xO xP x0).bind fun v1=>(some (PV.tuple [(PV.agg [(PV.int .i64 (PV.toI (PV.nth (PV.tnth v1 0) 0))),(PV.int .i64 (PV.toI (PV.nth (PV.tnth v1 0) 1))),(PV.bool (PV.toB (PV.nth (PV.tnth v1 0) 2))),(PV.str (PV.toS (PV.nth (PV.tnth v1 0) 3)))]),(PV.int .i64 (PV.toI (PV.tnth v1 1)))]))) :=
 (z7 EE _ _).trans (by kernel_rfl)
theorem znh (x0:Int) (x1:List UInt8) (x2 x3:Int) (x4:Bool) (x5:List UInt8) (x6:List PV) (x7:Bool) (x8 x9 xA xB xC xD xE xF xG:Int) (xH:List UInt8) (xI xJ xK xL xM xN xO:Int) (xP:List UInt8) (xQ xR:Int) (xS:Bool) (xT:List UInt8):zae x0 x1 x2 x3 x4 x5 x6 x7 x8 x9 xA xB xC xD xE xF xG xH xI xJ xK xL xM xN xO xP xQ xR xS xT =
  (z6w x0 0 x1 x2 x3 x4 x5 x6 x7 x8 x9 xA xB xC xD xE xF xG xH xI xJ xK xL xM xN xO xP xQ xR xS xT x2 x3 x4 x5) :=
 (z7 EE _ _).trans (by kernel_rfl)
theorem zdd (x0 x1:Int) (x2:List UInt8) (x3 x4:Int) (x5:Bool) (x6:List UInt8) (x7:List PV) (x8:Bool) (x9 xA xB xC xD xE xF xG xH:Int) (xI:List UInt8) (xJ xK xL xM xN xO xP:Int) (xQ:List UInt8) (xR xS:Int) (xT:Bool) (xU:List UInt8) (xV xW:Int) (xX:Bool) (xY:List UInt8):z6w x0 x1 x2 x3 x4 x5 x6 x7 x8 x9 xA xB xC xD xE xF xG xH xI xJ xK xL xM xN xO xP xQ xR xS xT xU xV xW xX xY =
  (bif (ltB x1 (((List.length x7):Nat):Int)) then ((rdI (EE.ti zp) x7 x1).bind fun v1=>(bif (leB (PV.toI (PV.nth v1 0)) x0) then ((rdI (EE.ti zp) x7 x1).bind fun v2=>(z6w x0 (IntKind.wrap .i64 (x1+1)) x2 x3 x4 x5 x6 x7 x8 x9 xA xB xC xD xE xF xG xH xI xJ xK xL xM xN xO xP xQ xR xS xT xU (PV.toI (PV.nth v2 0)) (PV.toI (PV.nth v2 1)) (PV.toB (PV.nth v2 2)) (PV.toS (PV.nth v2 3)))) else (some (PV.tuple [(PV.agg [(PV.int .i64 xV),(PV.int .i64 xW),(PV.bool xX),(PV.str xY)]),(PV.int .i64 0)])))) else (some (PV.tuple [(PV.agg [(PV.int .i64 xV),(PV.int .i64 xW),(PV.bool xX),(PV.str xY)]),(PV.int .i64 0)]))) :=
 (z7 EE _ _).trans (by kernel_rfl)
theorem zpl (a0 a1:Int):zc3 a0 a1 =
  ((zdw (IntKind.wrap .i64 (a0-946684800)) 1000000).bind fun v1=>((zc2 0 (PV.toI (PV.tnth v1 0)) (PV.toI (PV.tnth v1 1)) a1).bind fun v2=>(some (PV.tuple [(PV.agg [(PV.int .i64 (PV.toI (PV.nth (PV.tnth v2 0) 0))),(PV.int .i64 (PV.toI (PV.nth (PV.tnth v2 0) 1)))]),(PV.int .i64 (PV.toI (PV.tnth v2 1)))])))) :=
 (z6 EE zex _ rfl).trans (by kernel_rfl)
theorem zvz (a0_0 a0_1:Int):zfy a0_0 a0_1 =
  ((zu a0_0 a0_1).bind fun v1=>(bif (!(PV.toB v1)) then (some (PV.tuple [(PV.agg [(PV.int .i64 0),(PV.int .i64 0)]),(PV.int .i64 0),(PV.int .i64 1)])) else (bif (!(eqB a0_0 0)) then (some (PV.tuple [(PV.agg [(PV.int .i64 a0_0),(PV.int .i64 0)]),(PV.int .i64 0),(PV.int .i64 0)])) else ((z73 a0_1).bind fun v2=>(some (PV.tuple [(PV.agg [(PV.int .i64 0),(PV.int .i64 (PV.toI (PV.tnth v2 0)))]),(PV.int .i64 (PV.toI (PV.tnth v2 1))),(PV.int .i64 0)])))))) :=
 (z6 EE zhn _ rfl).trans (by kernel_rfl)
theorem zpi (a0_0 a0_1 a1_0 a1_1 a1_2:Int):z7o a0_0 a0_1 a1_0 a1_1 a1_2 =
  ((zab a0_0 a0_1).bind fun v1=>(bif (ltB (PV.toI (PV.tnth v1 0)) 1) then (z5l (IntKind.wrap .i64 (1-(PV.toI (PV.tnth v1 0)))) (PV.toI (PV.tnth v1 1)) (PV.toI (PV.tnth v1 2)) [32,66,67] a1_0 a1_1 a1_2) else (z5l (PV.toI (PV.tnth v1 0)) (PV.toI (PV.tnth v1 1)) (PV.toI (PV.tnth v1 2)) [] a1_0 a1_1 a1_2))) :=
 (z6 EE z3o _ rfl).trans (by kernel_rfl)
theorem zkl (x0 x1 x2:Int) (x3:List UInt8) (x4 x5 x6:Int):z5l x0 x1 x2 x3 x4 x5 x6 =
  ((zi x0).bind fun v1=>(z3s x1 x2 x3 (PV.toS v1) x4 x5 x6)) :=
 (z7 EE _ _).trans (by kernel_rfl)
theorem zaz (x0 x1:Int) (x2:List UInt8) (x3:List UInt8) (x4 x5 x6:Int):z3s x0 x1 x2 x3 x4 x5 x6 =
  (bif (ltB (((List.length x3):Nat):Int) 4) then ((catS [48] x3).bind fun v1=>(z3s x0 x1 x2 v1 x4 x5 x6)) else ((zw x0).bind fun v2=>((zw x1).bind fun v3=>(bif (eqB x4 0) then ((catS x3 [45]).bind fun v4=>((catS v4 (PV.toS v2)).bind fun v5=>((catS v5 [45]).bind fun v6=>((catS v6 (PV.toS v3)).bind fun v7=>(some (PV.tuple [(PV.str v7),(PV.str x2)])))))) else (bif (eqB x5 2) then ((catS (PV.toS v2) [47]).bind fun v8=>((catS v8 (PV.toS v3)).bind fun v9=>((catS v9 [47]).bind fun v10=>((catS v10 x3).bind fun v11=>(some (PV.tuple [(PV.str v11),(PV.str x2)])))))) else (bif (eqB x5 1) then ((catS (PV.toS v3) [47]).bind fun v12=>((catS v12 (PV.toS v2)).bind fun v13=>((catS v13 [47]).bind fun v14=>((catS v14 x3).bind fun v15=>(some (PV.tuple [(PV.str v15),(PV.str x2)])))))) else ((catS x3 [47]).bind fun v16=>((catS v16 (PV.toS v2)).bind fun v17=>((catS v17 [47]).bind fun v18=>((catS v18 (PV.toS v3)).bind fun v19=>(some (PV.tuple [(PV.str v19),(PV.str x2)])))))))))))) :=
 (z7 EE _ _).trans (by kernel_rfl)
theorem zpn (a0:Int):zca a0 =
  ((zhv a0).bind fun v1=>(bif (!(eqB (PV.toI (PV.tnth v1 4)) 0)) then (some (PV.tuple [(PV.str []),(PV.int .i64 (PV.toI (PV.tnth v1 4)))])) else ((zw (PV.toI (PV.tnth v1 0))).bind fun v2=>((catS (PV.toS v2) [58]).bind fun v3=>((zw (PV.toI (PV.tnth v1 1))).bind fun v4=>((catS v3 (PV.toS v4)).bind fun v5=>((catS v5 [58]).bind fun v6=>((zw (PV.toI (PV.tnth v1 2))).bind fun v7=>((catS v6 (PV.toS v7)).bind fun v8=>((z24 (PV.toI (PV.tnth v1 3))).bind fun v9=>((catS v8 (PV.toS v9)).bind fun v10=>(some (PV.tuple [(PV.str v10),(PV.int .i64 0)]))))))))))))) :=
 (z6 EE zey _ rfl).trans (by kernel_rfl)
theorem zt9 (a0:Int):zw a0 =
  (bif (leB 0 a0) then (bif (ltB a0 10) then (zgj a0) else (z9a a0)) else (z9a a0)) :=
 (z6 EE z47 _ rfl).trans (by kernel_rfl)
theorem zma (x0:Int):zgj x0 =
  ((zi x0).bind fun v1=>((catS [48] (PV.toS v1)).bind fun v2=>(some (PV.str v2)))) :=
 (z7 EE _ _).trans (by kernel_rfl)
theorem zm9 (x0:Int):z9a x0 =
  (bif (ltB x0 0) then (bif (ltB (-10) x0) then ((zi (IntKind.wrap .i64 (0-x0))).bind fun v1=>((catS [45,48] (PV.toS v1)).bind fun v2=>(some (PV.str v2)))) else ((zi x0).bind fun v3=>(some (PV.str (PV.toS v3))))) else ((zi x0).bind fun v4=>(some (PV.str (PV.toS v4))))) :=
 (z7 EE _ _).trans (by kernel_rfl)
theorem z1fr (a0_0 a0_1 a0_2 a0_3:Int):z19l a0_0 a0_1 a0_2 a0_3 =
  ((zdm a0_1).bind fun v1=>((zdm a0_2).bind fun v2=>((zdm a0_3).bind fun v3=>((zdy (Int.tmod (PV.toI (PV.tnth v3 1)) 3600000000)).bind fun v4=>((zv5 (PV.toS v4) [58]).bind fun v5=>((z5v (IntKind.wrap .i64 (Int.tdiv (PV.toI (PV.tnth v1 1)) 12))).bind fun v6=>((z5v (Int.tmod (PV.toI (PV.tnth v1 1)) 12)).bind fun v7=>((zt [(PV.str (PV.toS (PV.tnth v1 0))),(PV.str (PV.toS v6)),(PV.str [45]),(PV.str (PV.toS v7))]).bind fun v8=>((z5v (PV.toI (PV.tnth v2 1))).bind fun v9=>((zt [(PV.str (PV.toS (PV.tnth v2 0))),(PV.str (PV.toS v9))]).bind fun v10=>((z5v (IntKind.wrap .i64 (Int.tdiv (PV.toI (PV.tnth v3 1)) 3600000000))).bind fun v11=>((zt [(PV.str (PV.toS (PV.tnth v3 0))),(PV.str (PV.toS v11)),(PV.str [58]),(PV.str (PV.toS (PV.tnth v5 1)))]).bind fun v12=>((z1s [32] [(PV.str (PV.toS v8)),(PV.str (PV.toS v10)),(PV.str (PV.toS v12))]).bind fun v13=>(some (PV.str (PV.toS v13)))))))))))))))) :=
 (z6 EE z14t _ rfl).trans (by kernel_rfl)
theorem z1fs (a0_0 a0_1 a0_2 a0_3:Int):z19m a0_0 a0_1 a0_2 a0_3 =
  ((za3 (IntKind.wrap .i64 (Int.tdiv a0_1 12)) [89]).bind fun v1=>((za3 (Int.tmod a0_1 12) [77]).bind fun v2=>((za3 a0_2 [68]).bind fun v3=>((zt [(PV.str [80]),(PV.str (PV.toS v1)),(PV.str (PV.toS v2)),(PV.str (PV.toS v3))]).bind fun v4=>(bif (!(eqB a0_3 0)) then ((za3 (IntKind.wrap .i64 (Int.tdiv a0_3 3600000000)) [72]).bind fun v5=>((za3 (IntKind.wrap .i64 (Int.tdiv (Int.tmod a0_3 3600000000) 60000000)) [77]).bind fun v6=>((zom (Int.tmod a0_3 60000000)).bind fun v7=>((zt [(PV.str (PV.toS v4)),(PV.str [84]),(PV.str (PV.toS v5)),(PV.str (PV.toS v6)),(PV.str (PV.toS v7))]).bind fun v8=>(bif (eqS (PV.toS v8) [80]) then (some (PV.str [80,84,48,83])) else (some (PV.str (PV.toS v8)))))))) else (bif (eqS (PV.toS v4) [80]) then (some (PV.str [80,84,48,83])) else (some (PV.str (PV.toS v4))))))))) :=
 (z6 EE z14u _ rfl).trans (by kernel_rfl)
theorem z11t (a0_0 a0_1 a0_2 a0_3:Int):zli a0_0 a0_1 a0_2 a0_3 =
  (bif (eqB (IntKind.wrap .i64 (Int.tdiv a0_1 12)) 0) then (z55 [] a0_0 a0_1 a0_2 a0_3 0) else (bif (eqB (IntKind.wrap .i64 (Int.tdiv a0_1 12)) 1) then ((z1r (IntKind.wrap .i64 (Int.tdiv a0_1 12))).bind fun v1=>((zt [(PV.str []),(PV.str (PV.toS v1)),(PV.str [32]),(PV.str [121,101,97,114]),(PV.str [])]).bind fun v2=>(z55 (PV.toS v2) a0_0 a0_1 a0_2 a0_3 (IntKind.wrap .i64 (Int.tdiv a0_1 12))))) else ((z1r (IntKind.wrap .i64 (Int.tdiv a0_1 12))).bind fun v3=>((zt [(PV.str []),(PV.str (PV.toS v3)),(PV.str [32]),(PV.str [121,101,97,114]),(PV.str [115])]).bind fun v4=>(z55 (PV.toS v4) a0_0 a0_1 a0_2 a0_3 (IntKind.wrap .i64 (Int.tdiv a0_1 12))))))) :=
 (z6 EE z2y _ rfl).trans (by kernel_rfl)
theorem zve (x0:List UInt8) (x1 x2 x3 x4 x5:Int):z55 x0 x1 x2 x3 x4 x5 =
  (bif (eqB (Int.tmod x2 12) 0) then (z1x x0 [] x1 x2 x3 x4 x5) else (bif (ltB x5 0) then (bif (ltB 0 (Int.tmod x2 12)) then (bif (eqB (Int.tmod x2 12) 1) then ((z1r (Int.tmod x2 12)).bind fun v1=>((zt [(PV.str [43]),(PV.str (PV.toS v1)),(PV.str [32]),(PV.str [109,111,110]),(PV.str [])]).bind fun v2=>(z1x x0 (PV.toS v2) x1 x2 x3 x4 (Int.tmod x2 12)))) else ((z1r (Int.tmod x2 12)).bind fun v3=>((zt [(PV.str [43]),(PV.str (PV.toS v3)),(PV.str [32]),(PV.str [109,111,110]),(PV.str [115])]).bind fun v4=>(z1x x0 (PV.toS v4) x1 x2 x3 x4 (Int.tmod x2 12))))) else (bif (eqB (Int.tmod x2 12) 1) then ((z1r (Int.tmod x2 12)).bind fun v5=>((zt [(PV.str []),(PV.str (PV.toS v5)),(PV.str [32]),(PV.str [109,111,110]),(PV.str [])]).bind fun v6=>(z1x x0 (PV.toS v6) x1 x2 x3 x4 (Int.tmod x2 12)))) else ((z1r (Int.tmod x2 12)).bind fun v7=>((zt [(PV.str []),(PV.str (PV.toS v7)),(PV.str [32]),(PV.str [109,111,110]),(PV.str [115])]).bind fun v8=>(z1x x0 (PV.toS v8) x1 x2 x3 x4 (Int.tmod x2 12)))))) else (bif (eqB (Int.tmod x2 12) 1) then ((z1r (Int.tmod x2 12)).bind fun v9=>((zt [(PV.str []),(PV.str (PV.toS v9)),(PV.str [32]),(PV.str [109,111,110]),(PV.str [])]).bind fun v10=>(z1x x0 (PV.toS v10) x1 x2 x3 x4 (Int.tmod x2 12)))) else ((z1r (Int.tmod x2 12)).bind fun v11=>((zt [(PV.str []),(PV.str (PV.toS v11)),(PV.str [32]),(PV.str [109,111,110]),(PV.str [115])]).bind fun v12=>(z1x x0 (PV.toS v12) x1 x2 x3 x4 (Int.tmod x2 12))))))) :=
 (z7 EE _ _).trans (by kernel_rfl)
theorem zvd (x0:List UInt8) (x1:List UInt8) (x2 x3 x4 x5 x6:Int):z1x x0 x1 x2 x3 x4 x5 x6 =
  (bif (eqB x4 0) then (z1w x0 x1 [] x2 x3 x4 x5 x6) else (bif (ltB x6 0) then (bif (ltB 0 x4) then (bif (eqB x4 1) then ((z1r x4).bind fun v1=>((zt [(PV.str [43]),(PV.str (PV.toS v1)),(PV.str [32]),(PV.str [100,97,121]),(PV.str [])]).bind fun v2=>(z1w x0 x1 (PV.toS v2) x2 x3 x4 x5 x4))) else ((z1r x4).bind fun v3=>((zt [(PV.str [43]),(PV.str (PV.toS v3)),(PV.str [32]),(PV.str [100,97,121]),(PV.str [115])]).bind fun v4=>(z1w x0 x1 (PV.toS v4) x2 x3 x4 x5 x4)))) else (bif (eqB x4 1) then ((z1r x4).bind fun v5=>((zt [(PV.str []),(PV.str (PV.toS v5)),(PV.str [32]),(PV.str [100,97,121]),(PV.str [])]).bind fun v6=>(z1w x0 x1 (PV.toS v6) x2 x3 x4 x5 x4))) else ((z1r x4).bind fun v7=>((zt [(PV.str []),(PV.str (PV.toS v7)),(PV.str [32]),(PV.str [100,97,121]),(PV.str [115])]).bind fun v8=>(z1w x0 x1 (PV.toS v8) x2 x3 x4 x5 x4))))) else (bif (eqB x4 1) then ((z1r x4).bind fun v9=>((zt [(PV.str []),(PV.str (PV.toS v9)),(PV.str [32]),(PV.str [100,97,121]),(PV.str [])]).bind fun v10=>(z1w x0 x1 (PV.toS v10) x2 x3 x4 x5 x4))) else ((z1r x4).bind fun v11=>((zt [(PV.str []),(PV.str (PV.toS v11)),(PV.str [32]),(PV.str [100,97,121]),(PV.str [115])]).bind fun v12=>(z1w x0 x1 (PV.toS v12) x2 x3 x4 x5 x4)))))) :=
 (z7 EE _ _).trans (by kernel_rfl)
theorem zvc (x0:List UInt8) (x1:List UInt8) (x2:List UInt8) (x3 x4 x5 x6 x7:Int):z1w x0 x1 x2 x3 x4 x5 x6 x7 =
  (bif (ltB 0 x6) then (bif (ltB x7 0) then (zmp x0 x1 x2 x3 x4 x5 x6) else (za1 x0 x1 x2 [] x3 x4 x5 x6 x7)) else (za1 x0 x1 x2 [] x3 x4 x5 x6 x7)) :=
 (z7 EE _ _).trans (by kernel_rfl)
theorem zvb (x0:List UInt8) (x1:List UInt8) (x2:List UInt8) (x3 x4 x5 x6:Int):zmp x0 x1 x2 x3 x4 x5 x6 =
  ((zdy x6).bind fun v1=>((zt [(PV.str [43]),(PV.str (PV.toS v1))]).bind fun v2=>((z1s [32] [(PV.str x0),(PV.str x1),(PV.str x2),(PV.str (PV.toS v2))]).bind fun v3=>(some (PV.str (PV.toS v3)))))) :=
 (z7 EE _ _).trans (by kernel_rfl)
theorem zva (x0:List UInt8) (x1:List UInt8) (x2:List UInt8) (x3:List UInt8) (x4 x5 x6 x7 x8:Int):za1 x0 x1 x2 x3 x4 x5 x6 x7 x8 =
  (bif (!(eqB x7 0)) then ((zdy x7).bind fun v1=>((z1s [32] [(PV.str x0),(PV.str x1),(PV.str x2),(PV.str (PV.toS v1))]).bind fun v2=>(some (PV.str (PV.toS v2))))) else (bif (eqB x8 0) then ((zdy x7).bind fun v3=>((z1s [32] [(PV.str x0),(PV.str x1),(PV.str x2),(PV.str (PV.toS v3))]).bind fun v4=>(some (PV.str (PV.toS v4))))) else ((z1s [32] [(PV.str x0),(PV.str x1),(PV.str x2),(PV.str x3)]).bind fun v5=>(some (PV.str (PV.toS v5)))))) :=
 (z7 EE _ _).trans (by kernel_rfl)
theorem z160 (a0 a1:Int):zh4 a0 a1 =
  (bif (leB (IntKind.wrap .i64 (0-a1)) a0) then (some (PV.bool (leB a0 a1))) else (some (PV.bool false))) :=
 (z6 EE zu2 _ rfl).trans (by kernel_rfl)
theorem z16x (a0:Int):z88 a0 =
  ((zzo a0).bind fun v1=>((zmh).bind fun v2=>((zsq).bind fun v3=>((z8y (minI (maxI (IntKind.wrap .i64 ((PV.toI v1)-10957)) (PV.toI v2)) (PV.toI v3))).bind fun v4=>(some (PV.int .i64 (PV.toI (PV.tnth v4 0)))))))) :=
 (z6 EE zue _ rfl).trans (by kernel_rfl)
theorem zsj (a0_0:Bool) (a0_1 a0_2 a0_3 a0_4 a0_5 a0_6 a0_7 a0_8 a0_9:Int) (a0_10:List UInt8) (a0_11 a0_12 a0_13 a0_14 a0_15 a0_16 a0_17:Int) (a0_18:List UInt8) (a1:Int):z1ax a0_0 a0_1 a0_2 a0_3 a0_4 a0_5 a0_6 a0_7 a0_8 a0_9 a0_10 a0_11 a0_12 a0_13 a0_14 a0_15 a0_16 a0_17 a0_18 a1 =
  ((z181 a0_0 a0_1 a0_2 a0_3 a0_4 a0_5 a0_6 a0_7 a0_8 a0_9 a0_10 a0_11 a0_12 a0_13 a0_14 a0_15 a0_16 a0_17 a0_18 a1).bind fun v1=>(bif (!(eqB (PV.toI v1) 0)) then (some (PV.tuple [(PV.agg [(PV.int .i64 0),(PV.int .i64 0),(PV.bool false),(PV.str [])]),(PV.int .i64 (PV.toI v1))])) else ((z88 a1).bind fun v2=>(z31 (PV.toI v2) (IntKind.wrap .i64 ((PV.toI v2)-2)) a0_0 a0_1 a0_2 a0_3 a0_4 a0_5 a0_6 a0_7 a0_8 a0_9 a0_10 a0_11 a0_12 a0_13 a0_14 a0_15 a0_16 a0_17 a0_18 0 0 false [] 0 0 false [] a1 0)))) :=
 (z6 EE zkd _ rfl).trans (by kernel_rfl)
theorem z76 (x0 x1:Int) (x2:Bool) (x3 x4 x5 x6 x7 x8 x9 xA xB:Int) (xC:List UInt8) (xD xE xF xG xH xI xJ:Int) (xK:List UInt8) (xL xM:Int) (xN:Bool) (xO:List UInt8) (xP xQ:Int) (xR:Bool) (xS:List UInt8) (xT xU:Int):z31 x0 x1 x2 x3 x4 x5 x6 x7 x8 x9 xA xB xC xD xE xF xG xH xI xJ xK xL xM xN xO xP xQ xR xS xT xU =
  (bif (leB x1 (IntKind.wrap .i64 (x0+2))) then ((zsh x2 x3 x4 x5 x6 x7 x8 x9 xA xB xC xD xE xF xG xH xI xJ xK x1 true).bind fun v1=>(bif (ltB xT (PV.toI (PV.nth v1 0))) then (some (PV.tuple [(PV.agg [(PV.int .i64 xP),(PV.int .i64 xQ),(PV.bool xR),(PV.str xS)]),(PV.int .i64 0)])) else ((zsh x2 x3 x4 x5 x6 x7 x8 x9 xA xB xC xD xE xF xG xH xI xJ xK x1 false).bind fun v2=>(bif (ltB xT (PV.toI (PV.nth v2 0))) then (some (PV.tuple [(PV.agg [(PV.int .i64 (PV.toI (PV.nth v1 0))),(PV.int .i64 (PV.toI (PV.nth v1 1))),(PV.bool (PV.toB (PV.nth v1 2))),(PV.str (PV.toS (PV.nth v1 3)))]),(PV.int .i64 0)])) else (z31 x0 (IntKind.wrap .i64 (x1+1)) x2 x3 x4 x5 x6 x7 x8 x9 xA xB xC xD xE xF xG xH xI xJ xK xL xM xN xO (PV.toI (PV.nth v2 0)) (PV.toI (PV.nth v2 1)) (PV.toB (PV.nth v2 2)) (PV.toS (PV.nth v2 3)) xT xU))))) else (some (PV.tuple [(PV.agg [(PV.int .i64 xP),(PV.int .i64 xQ),(PV.bool xR),(PV.str xS)]),(PV.int .i64 0)]))) :=
 (z7 EE _ _).trans (by kernel_rfl)
theorem z117 (a0_0 a0_1:Int):z1ee a0_0 a0_1 =
  (bif (leB 0 a0_1) then (some (PV.bool (leB a0_1 9))) else (some (PV.bool false))) :=
 (z6 EE z110 _ rfl).trans (by kernel_rfl)
theorem zdf (a0_0 a0_1:Int):zhu a0_0 a0_1 =
  (bif (leB 0 a0_1) then (some (PV.bool (leB a0_1 9))) else (some (PV.bool false))) :=
 (z6 EE zcy _ rfl).trans (by kernel_rfl)
theorem zt3 (a0_0 a0_1 a0_2 a0_3:Int):zdq a0_0 a0_1 a0_2 a0_3 =
  ((z3z a0_1).bind fun v1=>((z3z a0_2).bind fun v2=>((z3z a0_3).bind fun v3=>((zi (IntKind.wrap .i64 (Int.tdiv (PV.toI (PV.tnth v1 0)) 12))).bind fun v4=>((catS (PV.toS (PV.tnth v1 1)) (PV.toS v4)).bind fun v5=>((catS v5 [45]).bind fun v6=>((zi (Int.tmod (PV.toI (PV.tnth v1 0)) 12)).bind fun v7=>((catS v6 (PV.toS v7)).bind fun v8=>((catS v8 [32]).bind fun v9=>((catS v9 (PV.toS (PV.tnth v2 1))).bind fun v10=>((zi (PV.toI (PV.tnth v2 0))).bind fun v11=>((catS v10 (PV.toS v11)).bind fun v12=>((catS v12 [32]).bind fun v13=>((catS v13 (PV.toS (PV.tnth v3 1))).bind fun v14=>((zi (IntKind.wrap .i64 (Int.tdiv (IntKind.wrap .i64 (Int.tdiv (PV.toI (PV.tnth v3 0)) 1000000)) 3600))).bind fun v15=>((catS v14 (PV.toS v15)).bind fun v16=>((catS v16 [58]).bind fun v17=>((zw (Int.tmod (IntKind.wrap .i64 (Int.tdiv (IntKind.wrap .i64 (Int.tdiv (PV.toI (PV.tnth v3 0)) 1000000)) 60)) 60)).bind fun v18=>((catS v17 (PV.toS v18)).bind fun v19=>((catS v19 [58]).bind fun v20=>((zw (Int.tmod (IntKind.wrap .i64 (Int.tdiv (PV.toI (PV.tnth v3 0)) 1000000)) 60)).bind fun v21=>((catS v20 (PV.toS v21)).bind fun v22=>((z24 (Int.tmod (PV.toI (PV.tnth v3 0)) 1000000)).bind fun v23=>((catS v22 (PV.toS v23)).bind fun v24=>(some (PV.str v24)))))))))))))))))))))))))) :=
 (z6 EE zg6 _ rfl).trans (by kernel_rfl)
theorem zt4 (a0_0 a0_1 a0_2 a0_3:Int):zdr a0_0 a0_1 a0_2 a0_3 =
  ((z2t (IntKind.wrap .i64 (Int.tdiv a0_1 12)) [89]).bind fun v1=>((catS [80] (PV.toS v1)).bind fun v2=>((z2t (Int.tmod a0_1 12) [77]).bind fun v3=>((catS v2 (PV.toS v3)).bind fun v4=>((z2t a0_2 [68]).bind fun v5=>((catS v4 (PV.toS v5)).bind fun v6=>(bif (!(eqB a0_3 0)) then ((catS v6 [84]).bind fun v7=>((z2t (IntKind.wrap .i64 (Int.tdiv (IntKind.wrap .i64 (Int.tdiv a0_3 1000000)) 3600)) [72]).bind fun v8=>((catS v7 (PV.toS v8)).bind fun v9=>((z2t (Int.tmod (IntKind.wrap .i64 (Int.tdiv (IntKind.wrap .i64 (Int.tdiv a0_3 1000000)) 60)) 60) [77]).bind fun v10=>((catS v9 (PV.toS v10)).bind fun v11=>((z3z (Int.tmod a0_3 60000000)).bind fun v12=>(bif (!(eqB (PV.toI (PV.tnth v12 0)) 0)) then (bif (eqS (PV.toS (PV.tnth v12 1)) [45]) then ((catS v11 (PV.toS (PV.tnth v12 1))).bind fun v13=>(z67 v13 (PV.toI (PV.tnth v12 0)))) else (z67 v11 (PV.toI (PV.tnth v12 0)))) else (bif (eqS v11 [80]) then (some (PV.str [80,84,48,83])) else (some (PV.str v11)))))))))) else (bif (eqS v6 [80]) then (some (PV.str [80,84,48,83])) else (some (PV.str v6)))))))))) :=
 (z6 EE z62 _ rfl).trans (by kernel_rfl)
theorem zlz (x0:List UInt8) (x1:Int):z67 x0 x1 =
  ((zi (IntKind.wrap .i64 (Int.tdiv x1 1000000))).bind fun v1=>((catS x0 (PV.toS v1)).bind fun v2=>((z24 (Int.tmod x1 1000000)).bind fun v3=>((catS v2 (PV.toS v3)).bind fun v4=>((catS v4 [83]).bind fun v5=>(bif (eqS v5 [80]) then (some (PV.str [80,84,48,83])) else (some (PV.str v5)))))))) :=
 (z7 EE _ _).trans (by kernel_rfl)
theorem zjf (a0_0 a0_1 a0_2 a0_3:Int):z7d a0_0 a0_1 a0_2 a0_3 =
  (z1j [] 0 0 a0_0 a0_1 a0_2 a0_3 [(PV.int .i64 (IntKind.wrap .i64 (Int.tdiv a0_1 12))),(PV.int .i64 (Int.tmod a0_1 12)),(PV.int .i64 a0_2)] 3 [(PV.str [121,101,97,114]),(PV.str [109,111,110]),(PV.str [100,97,121])] 3) :=
 (z6 EE zx _ rfl).trans (by kernel_rfl)
theorem z7n (x0:List UInt8) (x1 x2 x3 x4 x5 x6:Int) (x7:List PV) (x8:Nat) (x9:List PV) (xA:Nat):z1j x0 x1 x2 x3 x4 x5 x6 x7 x8 x9 xA =
  (bif (ltB x2 3) then (bif (inB 0 x2 (((List.length x7):Nat):Int)) then ((rdT (tiInt IntKind.i64) x7 (Int.toNat x2) 0).bind fun v1=>(bif (eqB (PV.toI v1) 0) then (z5x x0 x1 x2 x3 x4 x5 x6 x7 x8 x9 xA) else (bif (!(eqS x0 [])) then ((catS x0 [32]).bind fun v2=>(z34 v2 x1 x2 x3 x4 x5 x6 x7 x8 x9 xA)) else (z34 x0 x1 x2 x3 x4 x5 x6 x7 x8 x9 xA)))) else none) else (bif (eqB x6 0) then (bif (!(eqS x0 [])) then (z91 x0) else (z33 x0 x1 x3 x4 x5 x6)) else (z33 x0 x1 x3 x4 x5 x6))) :=
 (z7 EE _ _).trans (by kernel_rfl)
theorem z7m (x0:List UInt8) (x1 x2 x3 x4 x5 x6:Int) (x7:List PV) (x8:Nat) (x9:List PV) (xA:Nat):z5x x0 x1 x2 x3 x4 x5 x6 x7 x8 x9 xA =
  (z1j x0 x1 (IntKind.wrap .i64 (x2+1)) x3 x4 x5 x6 x7 x8 x9 xA) :=
 (z7 EE _ _).trans (by kernel_rfl)
theorem zfw (x0:List UInt8) (x1 x2 x3 x4 x5 x6:Int) (x7:List PV) (x8:Nat) (x9:List PV) (xA:Nat):z34 x0 x1 x2 x3 x4 x5 x6 x7 x8 x9 xA =
  (bif (inB 0 x2 (((List.length x7):Nat):Int)) then ((rdT (tiInt IntKind.i64) x7 (Int.toNat x2) 0).bind fun v1=>(bif (inB 0 x2 (((List.length x9):Nat):Int)) then ((rdT tiStr x9 (Int.toNat x2) 0).bind fun v2=>((zbz (PV.toI v1) (PV.toS v2) x1).bind fun v3=>((catS x0 (PV.toS v3)).bind fun v4=>(bif (inB 0 x2 (((List.length x7):Nat):Int)) then ((rdT (tiInt IntKind.i64) x7 (Int.toNat x2) 0).bind fun v5=>(z5x v4 (PV.toI v5) x2 x3 x4 x5 x6 x7 x8 x9 xA)) else none)))) else none)) else none) :=
 (z7 EE _ _).trans (by kernel_rfl)
theorem zfv (x0:List UInt8):z91 x0 =
  (some (PV.str x0)) :=
 (z7 EE _ _).trans (by kernel_rfl)
theorem zfu (x0:List UInt8) (x1 x2 x3 x4 x5:Int):z33 x0 x1 x2 x3 x4 x5 =
  (bif (!(eqS x0 [])) then ((catS x0 [32]).bind fun v1=>(z32 v1 x1 x2 x3 x4 x5)) else (z32 x0 x1 x2 x3 x4 x5)) :=
 (z7 EE _ _).trans (by kernel_rfl)
theorem zft (x0:List UInt8) (x1 x2 x3 x4 x5:Int):z32 x0 x1 x2 x3 x4 x5 =
  (bif (ltB x1 0) then (bif (ltB 0 x5) then ((catS x0 [43]).bind fun v1=>((z5q x5).bind fun v2=>((catS v1 (PV.toS v2)).bind fun v3=>(some (PV.str v3))))) else ((z5q x5).bind fun v4=>((catS x0 (PV.toS v4)).bind fun v5=>(some (PV.str v5))))) else ((z5q x5).bind fun v6=>((catS x0 (PV.toS v6)).bind fun v7=>(some (PV.str v7))))) :=
 (z7 EE _ _).trans (by kernel_rfl)
theorem zyc (a0:Int):z3h a0 =
  ((z8y a0).bind fun v1=>(bif (eqB (PV.toI (PV.tnth v1 3)) 0) then (bif (leB (-4712) (PV.toI (PV.tnth v1 0))) then (some (PV.bool (leB (PV.toI (PV.tnth v1 0)) 294276))) else (some (PV.bool false))) else (some (PV.bool false)))) :=
 (z6 EE zxx _ rfl).trans (by kernel_rfl)
theorem z1dg (a0:Int):zxe a0 =
  ((z1ab a0 86400000000).bind fun v1=>((z1aa a0 86400000000).bind fun v2=>(some (PV.tuple [(PV.int .i64 (PV.toI (PV.tnth v1 0))),(PV.int .i64 (PV.toI (PV.tnth v2 0)))])))) :=
 (z6 EE z10z _ rfl).trans (by kernel_rfl)
theorem z1ky (a0:Int):z1a9 a0 =
  ((num_Sub 0 a0).bind fun v1=>(some (PV.tuple [(PV.int .i64 (PV.toI (PV.tnth v1 0))),(PV.int .i64 (PV.toI (PV.tnth v1 1)))]))) :=
 (z6 EE z186 _ rfl).trans (by kernel_rfl)
theorem z16f (a0:Int):zlg a0 =
  (bif (leB (-2147483647) a0) then (some (PV.bool (leB a0 2147483647))) else (some (PV.bool false))) :=
 (z6 EE zu7 _ rfl).trans (by kernel_rfl)
theorem zm1 (a0 a1:Int):z49 a0 a1 =
  (bif (leB (IntKind.wrap .i64 (0-a1)) a0) then (some (PV.bool (leB a0 a1))) else (some (PV.bool false))) :=
 (z6 EE zbx _ rfl).trans (by kernel_rfl)
theorem z1l1 (a0 a1:Int):z1gb a0 a1 =
  (bif (!((ltB a0 (IntKind.wrap .i64 (a0+a1))) == (ltB 0 a1))) then (some (PV.tuple [(PV.int .i64 0),(PV.int .i64 10)])) else (some (PV.tuple [(PV.int .i64 (IntKind.wrap .i64 (a0+a1))),(PV.int .i64 0)]))) :=
 (z6 EE z189 _ rfl).trans (by kernel_rfl)
theorem z1l0 (a0 a1:Int):z1ab a0 a1 =
  ((z1di a0 1 a1).bind fun v1=>(some (PV.tuple [(PV.int .i64 (PV.toI (PV.tnth v1 0))),(PV.int .i64 (PV.toI (PV.tnth v1 1)))]))) :=
 (z6 EE z188 _ rfl).trans (by kernel_rfl)
theorem z1kz (a0 a1:Int):z1aa a0 a1 =
  (bif (eqB a1 0) then (some (PV.tuple [(PV.int .i64 0),(PV.int .i64 11)])) else (bif (eqB a1 (-1)) then (some (PV.tuple [(PV.int .i64 0),(PV.int .i64 0)])) else (bif (eqB a1 0) then none else (bif (!(eqB (Int.tmod a0 a1) 0)) then (bif (!((ltB (Int.tmod a0 a1) 0) == (ltB a1 0))) then (some (PV.tuple [(PV.int .i64 (IntKind.wrap .i64 ((Int.tmod a0 a1)+a1))),(PV.int .i64 0)])) else (some (PV.tuple [(PV.int .i64 (Int.tmod a0 a1)),(PV.int .i64 0)]))) else (some (PV.tuple [(PV.int .i64 (Int.tmod a0 a1)),(PV.int .i64 0)])))))) :=
 (z6 EE z187 _ rfl).trans (by kernel_rfl)
theorem zum (a0_0:List UInt8) (a0_1 a0_2:Int) (a0_3:Bool) (a0_4:List UInt8) (a0_5:List PV) (a0_6:Bool) (a0_7 a0_8 a0_9 a0_10 a0_11 a0_12 a0_13 a0_14 a0_15:Int) (a0_16:List UInt8) (a0_17 a0_18 a0_19 a0_20 a0_21 a0_22 a0_23:Int) (a0_24:List UInt8) (a1:List PV):z1h2 a0_0 a0_1 a0_2 a0_3 a0_4 a0_5 a0_6 a0_7 a0_8 a0_9 a0_10 a0_11 a0_12 a0_13 a0_14 a0_15 a0_16 a0_17 a0_18 a0_19 a0_20 a0_21 a0_22 a0_23 a0_24 a1 =
  ((zjs a0_0 a0_1 a0_2 a0_3 a0_4 a0_5 a0_6 a0_7 a0_8 a0_9 a0_10 a0_11 a0_12 a0_13 a0_14 a0_15 a0_16 a0_17 a0_18 a0_19 a0_20 a0_21 a0_22 a0_23 a0_24).bind fun v1=>(bif (!(PV.toB v1)) then (some (PV.int .i64 1)) else (zl9 a1 (((List.length a1):Nat):Int) 0))) :=
 (z6 EE zlt _ rfl).trans (by kernel_rfl)
theorem ztm (x0:List PV) (x1 x2:Int):zl9 x0 x1 x2 =
  (bif (ltB x2 x1) then ((rdI (tiInt IntKind.i64) x0 x2).bind fun v1=>((zyw (PV.toI v1)).bind fun v2=>(bif (!(PV.toB v2)) then (some (PV.int .i64 10)) else (zl9 x0 x1 (IntKind.wrap .i64 (x2+1)))))) else (some (PV.int .i64 0))) :=
 (z7 EE _ _).trans (by kernel_rfl)
theorem z1jz (a0_0:List UInt8) (a0_1 a0_2:Int) (a0_3:Bool) (a0_4:List UInt8) (a0_5:List PV) (a0_6:Bool) (a0_7 a0_8 a0_9 a0_10 a0_11 a0_12 a0_13 a0_14 a0_15:Int) (a0_16:List UInt8) (a0_17 a0_18 a0_19 a0_20 a0_21 a0_22 a0_23:Int) (a0_24:List UInt8) (a1:Int):z1f4 a0_0 a0_1 a0_2 a0_3 a0_4 a0_5 a0_6 a0_7 a0_8 a0_9 a0_10 a0_11 a0_12 a0_13 a0_14 a0_15 a0_16 a0_17 a0_18 a0_19 a0_20 a0_21 a0_22 a0_23 a0_24 a1 =
  (bif a0_6 then (bif (leB a0_7 a1) then (z172 a0_0 a0_1 a0_2 a0_3 a0_4 a0_5 a0_6 a0_7 a0_8 a0_9 a0_10 a0_11 a0_12 a0_13 a0_14 a0_15 a0_16 a0_17 a0_18 a0_19 a0_20 a0_21 a0_22 a0_23 a0_24 a1 0 0 false []) else (zqb a0_0 a0_1 a0_2 a0_3 a0_4 a0_5 a0_6 a0_7 a0_8 a0_9 a0_10 a0_11 a0_12 a0_13 a0_14 a0_15 a0_16 a0_17 a0_18 a0_19 a0_20 a0_21 a0_22 a0_23 a0_24 a1 0 0 false [])) else (zqb a0_0 a0_1 a0_2 a0_3 a0_4 a0_5 a0_6 a0_7 a0_8 a0_9 a0_10 a0_11 a0_12 a0_13 a0_14 a0_15 a0_16 a0_17 a0_18 a0_19 a0_20 a0_21 a0_22 a0_23 a0_24 a1 0 0 false [])) :=
 (z6 EE zkc _ rfl).trans (by kernel_rfl)
theorem z18s (x0:List UInt8) (x1 x2:Int) (x3:Bool) (x4:List UInt8) (x5:List PV) (x6:Bool) (x7 x8 x9 xA xB xC xD xE xF:Int) (xG:List UInt8) (xH xI xJ xK xL xM xN:Int) (xO:List UInt8) (xP xQ xR:Int) (xS:Bool) (xT:List UInt8):z172 x0 x1 x2 x3 x4 x5 x6 x7 x8 x9 xA xB xC xD xE xF xG xH xI xJ xK xL xM xN xO xP xQ xR xS xT =
  ((z1ax x6 x7 x8 x9 xA xB xC xD xE xF xG xH xI xJ xK xL xM xN xO xP).bind fun v1=>(some (PV.agg [(PV.int .i64 (PV.toI (PV.nth (PV.tnth v1 0) 0))),(PV.int .i64 (PV.toI (PV.nth (PV.tnth v1 0) 1))),(PV.bool (PV.toB (PV.nth (PV.tnth v1 0) 2))),(PV.str (PV.toS (PV.nth (PV.tnth v1 0) 3)))]))) :=
 (z7 EE _ _).trans (by kernel_rfl)
theorem z18r (x0:List UInt8) (x1 x2:Int) (x3:Bool) (x4:List UInt8) (x5:List PV) (x6:Bool) (x7 x8 x9 xA xB xC xD xE xF:Int) (xG:List UInt8) (xH xI xJ xK xL xM xN:Int) (xO:List UInt8) (xP xQ xR:Int) (xS:Bool) (xT:List UInt8):zqb x0 x1 x2 x3 x4 x5 x6 x7 x8 x9 xA xB xC xD xE xF xG xH xI xJ xK xL xM xN xO xP xQ xR xS xT =
  ((z13g (((List.length x5):Nat):Int) (PV.func (Go.Fn.func zeq) [] [(PV.ref [(PV.str x0),(PV.int .i64 x1),(PV.int .i64 x2),(PV.bool x3),(PV.str x4),(PV.sl 4 x5),(PV.bool x6),(PV.int .i64 x7),(PV.int .i64 x8),(PV.int .i64 x9),(PV.int .i64 xA),(PV.int .i64 xB),(PV.int .i64 xC),(PV.int .i64 xD),(PV.int .u8 xE),(PV.int .i64 xF),(PV.str xG),(PV.int .i64 xH),(PV.int .i64 xI),(PV.int .i64 xJ),(PV.int .i64 xK),(PV.int .i64 xL),(PV.int .u8 xM),(PV.int .i64 xN),(PV.str xO)] 0),(PV.ref [(PV.int .i64 xP)] 0)])).bind fun v1=>(bif (eqB (PV.toI v1) 0) then (some (PV.agg [(PV.int .i64 x1),(PV.int .i64 x2),(PV.bool x3),(PV.str x4)])) else ((rdI (EE.ti zp) x5 (IntKind.wrap .i64 ((PV.toI v1)-1))).bind fun v2=>(some (PV.agg [(PV.int .i64 (PV.toI (PV.nth v2 0))),(PV.int .i64 (PV.toI (PV.nth v2 1))),(PV.bool (PV.toB (PV.nth v2 2))),(PV.str (PV.toS (PV.nth v2 3)))]))))) :=
 (z7 EE _ _).trans (by kernel_rfl)
theorem z118 (a0_0 a0_1:Int):zyd a0_0 a0_1 =
  ((zki a0_0 a0_1).bind fun v1=>(bif (!(PV.toB v1)) then (some (PV.tuple [(PV.int .i64 0),(PV.int .i64 0),(PV.int .i64 0),(PV.int .i64 1)])) else (bif (!(eqB a0_0 0)) then (some (PV.tuple [(PV.int .i64 0),(PV.int .i64 0),(PV.int .i64 0),(PV.int .i64 10)])) else ((z8y a0_1).bind fun v2=>(some (PV.tuple [(PV.int .i64 (PV.toI (PV.tnth v2 0))),(PV.int .i64 (PV.toI (PV.tnth v2 1))),(PV.int .i64 (PV.toI (PV.tnth v2 2))),(PV.int .i64 (PV.toI (PV.tnth v2 3)))])))))) :=
 (z6 EE z112 _ rfl).trans (by kernel_rfl)
theorem z16o (a0:Int):z5v a0 =
  (bif (ltB a0 10) then ((z3d a0).bind fun v1=>((dropS (PV.toS v1) 1).bind fun v2=>(some (PV.str v2)))) else ((z3d a0).bind fun v3=>(some (PV.str (PV.toS v3))))) :=
 (z6 EE zuc _ rfl).trans (by kernel_rfl)
theorem z8m (a0:List UInt8) (a1:Int):z9g a0 a1 =
  (bif (eqB a1 0) then (some (PV.str [])) else (bif (eqB a1 1) then (some (PV.str a0)) else (bif (ltB a1 0) then none else (zjz a0 a1)))) :=
 (z6 EE zz _ rfl).trans (by kernel_rfl)
theorem zt1 (x0:List UInt8) (x1:Int):zjz x0 x1 =
  ((z1jt (IntKind.wrap .u64 (((List.length x0):Nat):Int)) (IntKind.wrap .u64 x1)).bind fun v1=>(bif (ltB 0 (PV.toI (PV.tnth v1 0))) then (zik x0 (PV.toI (PV.tnth v1 1))) else (bif (ltB 9223372036854775807 (PV.toI (PV.tnth v1 1))) then (zik x0 (PV.toI (PV.tnth v1 1))) else (zij x0 (PV.toI (PV.tnth v1 1)))))) :=
 (z7 EE _ _).trans (by kernel_rfl)
theorem zoe (x0:List UInt8) (x1:Int):zij x0 x1 =
  (bif (eqB (((List.length x0):Nat):Int) 0) then (some (PV.str [])) else ((atS x0 0).bind fun v1=>(bif (eqB v1 32) then (z3x x0 (IntKind.wrap .i64 x1)) else (bif (eqB v1 45) then (z3x x0 (IntKind.wrap .i64 x1)) else (bif (eqB v1 48) then (z3x x0 (IntKind.wrap .i64 x1)) else (bif (eqB v1 61) then (z3x x0 (IntKind.wrap .i64 x1)) else (bif (eqB v1 9) then (z3x x0 (IntKind.wrap .i64 x1)) else (zwz x0 (IntKind.wrap .i64 x1))))))))) :=
 (z7 EE _ _).trans (by kernel_rfl)
theorem zod (x0:List UInt8) (x1:Int):z3x x0 x1 =
  (bif (leB x1 128) then ((z8n [32,32,32,32,32,32,32,32,32,32,32,32,32,32,32,32,32,32,32,32,32,32,32,32,32,32,32,32,32,32,32,32,32,32,32,32,32,32,32,32,32,32,32,32,32,32,32,32,32,32,32,32,32,32,32,32,32,32,32,32,32,32,32,32,32,32,32,32,32,32,32,32,32,32,32,32,32,32,32,32,32,32,32,32,32,32,32,32,32,32,32,32,32,32,32,32,32,32,32,32,32,32,32,32,32,32,32,32,32,32,32,32,32,32,32,32,32,32,32,32,32,32,32,32,32,32,32,32] x0).bind fun v1=>(bif (PV.toB v1) then (zx1 x1) else (z7k x0 x1))) else (z7k x0 x1)) :=
 (z7 EE _ _).trans (by kernel_rfl)
theorem zoc (x0:List UInt8) (x1:Int):z7k x0 x1 =
  (bif (leB x1 128) then ((z8n [45,45,45,45,45,45,45,45,45,45,45,45,45,45,45,45,45,45,45,45,45,45,45,45,45,45,45,45,45,45,45,45,45,45,45,45,45,45,45,45,45,45,45,45,45,45,45,45,45,45,45,45,45,45,45,45,45,45,45,45,45,45,45,45,45,45,45,45,45,45,45,45,45,45,45,45,45,45,45,45,45,45,45,45,45,45,45,45,45,45,45,45,45,45,45,45,45,45,45,45,45,45,45,45,45,45,45,45,45,45,45,45,45,45,45,45,45,45,45,45,45,45,45,45,45,45,45,45] x0).bind fun v1=>(bif (PV.toB v1) then (zx0 x1) else (z7j x0 x1))) else (z7j x0 x1)) :=
 (z7 EE _ _).trans (by kernel_rfl)
theorem zob (x0:List UInt8) (x1:Int):z7j x0 x1 =
  (bif (leB x1 64) then ((z8n [48,48,48,48,48,48,48,48,48,48,48,48,48,48,48,48,48,48,48,48,48,48,48,48,48,48,48,48,48,48,48,48,48,48,48,48,48,48,48,48,48,48,48,48,48,48,48,48,48,48,48,48,48,48,48,48,48,48,48,48,48,48,48,48] x0).bind fun v1=>(bif (PV.toB v1) then (zbi x1) else (zii x0 x1))) else (zii x0 x1)) :=
 (z7 EE _ _).trans (by kernel_rfl)
theorem zoa (x0:Int):zbi x0 =
  ((takeS [48,48,48,48,48,48,48,48,48,48,48,48,48,48,48,48,48,48,48,48,48,48,48,48,48,48,48,48,48,48,48,48,48,48,48,48,48,48,48,48,48,48,48,48,48,48,48,48,48,48,48,48,48,48,48,48,48,48,48,48,48,48,48,48] x0).bind fun v1=>(some (PV.str v1))) :=
 (z7 EE _ _).trans (by kernel_rfl)
theorem z15e (a0 a1:Int):z119 a0 a1 =
  (bif (leB 0 a0) then (some (PV.bool (leB a0 a1))) else (some (PV.bool false))) :=
 (z6 EE zpb _ rfl).trans (by kernel_rfl)
theorem z1bb (a0:Int):zl0 a0 =
  ((z15f a0).bind fun v1=>((z3d (PV.toI (PV.tnth v1 0))).bind fun v2=>((catS (PV.toS v2) [58]).bind fun v3=>((z3d (PV.toI (PV.tnth v1 1))).bind fun v4=>((catS v3 (PV.toS v4)).bind fun v5=>((catS v5 [58]).bind fun v6=>((z3d (PV.toI (PV.tnth v1 2))).bind fun v7=>((catS v6 (PV.toS v7)).bind fun v8=>((zec (PV.toI (PV.tnth v1 3))).bind fun v9=>((catS v8 (PV.toS v9)).bind fun v10=>(some (PV.str v10)))))))))))) :=
 (z6 EE zxy _ rfl).trans (by kernel_rfl)
theorem zhb (a0:List PV) (a1:List UInt8):zof a0 a1 =
  (bif (eqB (((List.length a0):Nat):Int) 0) then (some (PV.str [])) else (bif (eqB (((List.length a0):Nat):Int) 1) then ((rdI tiStr a0 0).bind fun v1=>(some (PV.str (PV.toS v1)))) else (bif (ltB 0 (((List.length a1):Nat):Int)) then (bif (eqB (IntKind.wrap .i64 ((((List.length a0):Nat):Int)-1)) 0) then none else (bif (leB (IntKind.wrap .i64 (Int.tdiv 9223372036854775807 (IntKind.wrap .i64 ((((List.length a0):Nat):Int)-1)))) (((List.length a1):Nat):Int)) then none else (zmo a0 a1 0))) else (zfo a0 a1 0)))) :=
 (z6 EE z1u _ rfl).trans (by kernel_rfl)
theorem zv4 (x0:List PV) (x1:List UInt8) (x2:Int):zmo x0 x1 x2 =
  (zfo x0 x1 (IntKind.wrap .i64 (x2+(IntKind.wrap .i64 ((((List.length x1):Nat):Int)*(IntKind.wrap .i64 ((((List.length x0):Nat):Int)-1))))))) :=
 (z7 EE _ _).trans (by kernel_rfl)
theorem zv3 (x0:List PV) (x1:List UInt8) (x2:Int):zfo x0 x1 x2 =
  (z9z x0 x1 x2 x0 (((List.length x0):Nat):Int) 0) :=
 (z7 EE _ _).trans (by kernel_rfl)
theorem zhd (x0:List PV) (x1:List UInt8) (x2:Int) (x3:List PV) (x4 x5:Int):z9z x0 x1 x2 x3 x4 x5 =
  (bif (ltB x5 x4) then ((rdI tiStr x3 x5).bind fun v1=>(bif (ltB (IntKind.wrap .i64 (9223372036854775807-x2)) (((List.length (PV.toS v1)):Nat):Int)) then none else (zmn x0 x1 x2 (PV.toS v1) x3 x4 x5))) else (bif (ltB x2 0) then none else (bif (ltB (IntKind.wrap .i64 (0-0)) x2) then (bif (decide ((0≤(IntKind.wrap .i64 ((IntKind.wrap .i64 (2*0))+x2)))∧((IntKind.wrap .i64 ((IntKind.wrap .i64 (2*0))+x2))≤281474976710656))) then (zfn x0 x1 []) else none) else (zil x0 x1)))) :=
 (z7 EE _ _).trans (by kernel_rfl)
theorem zv2 (x0:List PV) (x1:List UInt8) (x2:Int) (x3:List UInt8) (x4:List PV) (x5 x6:Int):zmn x0 x1 x2 x3 x4 x5 x6 =
  (z9z x0 x1 (IntKind.wrap .i64 (x2+(((List.length x3):Nat):Int))) x4 x5 (IntKind.wrap .i64 (x6+1))) :=
 (z7 EE _ _).trans (by kernel_rfl)
theorem zv1 (x0:List PV) (x1:List UInt8) (x2:List PV):zfn x0 x1 x2 =
  ((rdI tiStr x0 0).bind fun v1=>((appL 1 x2 (List.map byteV (PV.toS v1))).bind fun v2=>(zfm x0 x1 v2))) :=
 (z7 EE _ _).trans (by kernel_rfl)
theorem zv0 (x0:List PV) (x1:List UInt8) (x2:List PV):zfm x0 x1 x2 =
  ((dropS x0 1).bind fun v1=>(z9y x1 v1 (((List.length v1):Nat):Int) 0 x2)) :=
 (z7 EE _ _).trans (by kernel_rfl)
theorem zhc (x0:List UInt8) (x1:List PV) (x2 x3:Int) (x4:List PV):z9y x0 x1 x2 x3 x4 =
  (bif (ltB x3 x2) then ((rdI tiStr x1 x3).bind fun v1=>((appL 1 x4 (List.map byteV x0)).bind fun v2=>((appL 1 v2 (List.map byteV (PV.toS v1))).bind fun v3=>(z9y x0 x1 x2 (IntKind.wrap .i64 (x3+1)) v3)))) else (bif (isNilL x4) then none else (bif (true&&(!(isNilL x4))) then (bif (decide (((((List.length x4):Nat):Int)=(((List.length x4):Nat):Int))∧((((List.length x4):Nat):Int)≤9223372036854775807))) then ((z7h x4).bind fun v4=>(some (PV.str v4))) else none) else none))) :=
 (z7 EE _ _).trans (by kernel_rfl)
theorem zpy (a0 a1:Int):z8l a0 a1 =
  (z2w a0 a1 20 [(PV.int .u8 0),(PV.int .u8 0),(PV.int .u8 0),(PV.int .u8 0),(PV.int .u8 0),(PV.int .u8 0),(PV.int .u8 0),(PV.int .u8 0),(PV.int .u8 0),(PV.int .u8 0),(PV.int .u8 0),(PV.int .u8 0),(PV.int .u8 0),(PV.int .u8 0),(PV.int .u8 0),(PV.int .u8 0),(PV.int .u8 0),(PV.int .u8 0),(PV.int .u8 0),(PV.int .u8 0)] 20) :=
 (z6 EE z87 _ rfl).trans (by kernel_rfl)
theorem z44 (x0 x1 x2:Int) (x3:List PV) (x4:Nat):z2w x0 x1 x2 x3 x4 =
  (bif (ltB 0 x0) then (z3t x0 x1 x2 x3 x4) else (bif (ltB (IntKind.wrap .i64 (20-x1)) x2) then (z3t x0 x1 x2 x3 x4) else (bif (eqN (List.length x3) 20) then (bif (eqN x4 20) then (bif (decide ((0≤x2)∧(x2≤((20:Nat):Int)))) then ((z7h (List.take (20-(Int.toNat x2)) (List.drop (Int.toNat x2) x3))).bind fun v1=>(some (PV.str v1))) else none) else none) else none))) :=
 (z7 EE _ _).trans (by kernel_rfl)
theorem zcf (x0 x1 x2:Int) (x3:List PV) (x4:Nat):z3t x0 x1 x2 x3 x4 =
  (bif (inB 0 (IntKind.wrap .i64 (x2-1)) ((20:Nat):Int)) then ((stC x3 (Int.toNat (IntKind.wrap .i64 (x2-1))) 0 [(PV.int .u8 (IntKind.wrap .u8 (IntKind.wrap .u64 (48+(Int.tmod x0 10)))))]).bind fun v1=>(z2w (IntKind.wrap .u64 (Int.tdiv x0 10)) x1 (IntKind.wrap .i64 (x2-1)) v1 x4)) else none) :=
 (z7 EE _ _).trans (by kernel_rfl)
theorem ztj (a0 a1:Int):z8w a0 a1 =
  (bif (eqB a1 0) then (some (PV.tuple [(PV.int .i64 0),(PV.int .i64 11)])) else ((z13 a0).bind fun v1=>((z13 a1).bind fun v2=>((z7u (PV.toB (PV.nth v1 0)) (PV.toL (PV.nth v1 1)) (PV.toB (PV.nth v2 0)) (PV.toL (PV.nth v2 1))).bind fun v3=>((z2d (PV.toB (PV.nth v3 0)) (PV.toL (PV.nth v3 1))).bind fun v4=>(some (PV.tuple [(PV.int .i64 (PV.toI (PV.tnth v4 0))),(PV.int .i64 (PV.toI (PV.tnth v4 1)))]))))))) :=
 (z6 EE zgf _ rfl).trans (by kernel_rfl)
theorem zti (a0 a1:Int):z8v a0 a1 =
  (bif (eqB a1 0) then (some (PV.tuple [(PV.int .i64 0),(PV.int .i64 11)])) else ((z13 a0).bind fun v1=>((z13 a1).bind fun v2=>((z13 a0).bind fun v3=>((z13 a1).bind fun v4=>((z7u (PV.toB (PV.nth v3 0)) (PV.toL (PV.nth v3 1)) (PV.toB (PV.nth v4 0)) (PV.toL (PV.nth v4 1))).bind fun v5=>((z72 (PV.toB (PV.nth v2 0)) (PV.toL (PV.nth v2 1)) (PV.toB (PV.nth v5 0)) (PV.toL (PV.nth v5 1))).bind fun v6=>((zaj (PV.toB (PV.nth v6 0)) (PV.toL (PV.nth v6 1))).bind fun v7=>((z7t (PV.toB (PV.nth v1 0)) (PV.toL (PV.nth v1 1)) (PV.toB (PV.nth v7 0)) (PV.toL (PV.nth v7 1))).bind fun v8=>((z2d (PV.toB (PV.nth v8 0)) (PV.toL (PV.nth v8 1))).bind fun v9=>(some (PV.tuple [(PV.int .i64 (PV.toI (PV.tnth v9 0))),(PV.int .i64 (PV.toI (PV.tnth v9 1)))])))))))))))) :=
 (z6 EE zge _ rfl).trans (by kernel_rfl)
theorem zps (a0:Int):z42 a0 =
  ((zdv a0).bind fun v1=>(bif (!(PV.toB v1)) then (some (PV.tuple [(PV.int .i64 0),(PV.int .i64 0),(PV.int .i64 0),(PV.int .i64 10)])) else ((z8u a0 146097).bind fun v2=>((z20 a0 146097).bind fun v3=>(z5t (IntKind.wrap .i64 (2000+(IntKind.wrap .i64 ((PV.toI v2)*400)))) (PV.toI v3)))))) :=
 (z6 EE z2h _ rfl).trans (by kernel_rfl)
theorem zkx (x0 x1:Int):z5t x0 x1 =
  ((z5r x0).bind fun v1=>(bif (PV.toB v1) then (z5s x0 x1 366) else (z5s x0 x1 365))) :=
 (z7 EE _ _).trans (by kernel_rfl)
theorem zkw (x0 x1 x2:Int):z5s x0 x1 x2 =
  (bif (ltB x1 x2) then (z50 x0 x1 1) else (z5t (IntKind.wrap .i64 (x0+1)) (IntKind.wrap .i64 (x1-x2)))) :=
 (z7 EE _ _).trans (by kernel_rfl)
theorem z9u (x0 x1 x2:Int):z50 x0 x1 x2 =
  ((z3i x0 x2).bind fun v1=>(bif (leB (PV.toI v1) x1) then ((z3i x0 x2).bind fun v2=>(z50 x0 (IntKind.wrap .i64 (x1-(PV.toI v2))) (IntKind.wrap .i64 (x2+1)))) else (some (PV.tuple [(PV.int .i64 x0),(PV.int .i64 x2),(PV.int .i64 (IntKind.wrap .i64 (x1+1))),(PV.int .i64 0)])))) :=
 (z7 EE _ _).trans (by kernel_rfl)
theorem zdi  : zai  =
  ((z6i (-4718) 1 1).bind fun v1=>(some (PV.int .i64 (PV.toI v1)))) :=
 (z6 EE zd0 _ rfl).trans (by kernel_rfl)
theorem z5m (a0_0:Bool) (a0_1 a0_2 a0_3 a0_4 a0_5 a0_6 a0_7 a0_8 a0_9:Int) (a0_10:List UInt8) (a0_11 a0_12 a0_13 a0_14 a0_15 a0_16 a0_17:Int) (a0_18:List UInt8) (a1:Int):zc8 a0_0 a0_1 a0_2 a0_3 a0_4 a0_5 a0_6 a0_7 a0_8 a0_9 a0_10 a0_11 a0_12 a0_13 a0_14 a0_15 a0_16 a0_17 a0_18 a1 =
  ((z6z a0_0 a0_1 a0_2 a0_3 a0_4 a0_5 a0_6 a0_7 a0_8 a0_9 a0_10 a0_11 a0_12 a0_13 a0_14 a0_15 a0_16 a0_17 a0_18).bind fun v1=>(bif (!(PV.toB v1)) then (some (PV.tuple [(PV.sl 0 []),(PV.int .i64 1)])) else ((z2x a1).bind fun v2=>(bif (ltB (PV.toI v2) (-4714)) then z8e else (bif (ltB 294278 (PV.toI v2)) then z8e else (zfa (PV.toI v2) a0_0 a0_1 a0_2 a0_3 a0_4 a0_5 a0_6 a0_7 a0_8 a0_9 a0_10 a0_11 a0_12 a0_13 a0_14 a0_15 a0_16 a0_17 a0_18)))))) :=
 (z6 EE z2f _ rfl).trans (by kernel_rfl)
theorem zb3  : z8e  =
  (some (PV.tuple [(PV.sl 0 []),(PV.int .i64 10)])) :=
 (z7 EE _ _).trans (by kernel_rfl)
theorem zko (x0:Int) (x1:Bool) (x2 x3 x4 x5 x6 x7 x8 x9 xA:Int) (xB:List UInt8) (xC xD xE xF xG xH xI:Int) (xJ:List UInt8):zfa x0 x1 x2 x3 x4 x5 x6 x7 x8 x9 xA xB xC xD xE xF xG xH xI xJ =
  (z5n x0 (IntKind.wrap .i64 (x0-2)) x1 x2 x3 x4 x5 x6 x7 x8 x9 xA xB xC xD xE xF xG xH xI xJ []) :=
 (z7 EE _ _).trans (by kernel_rfl)
theorem zb2 (x0 x1:Int) (x2:Bool) (x3 x4 x5 x6 x7 x8 x9 xA xB:Int) (xC:List UInt8) (xD xE xF xG xH xI xJ:Int) (xK:List UInt8) (xL:List PV):z5n x0 x1 x2 x3 x4 x5 x6 x7 x8 x9 xA xB xC xD xE xF xG xH xI xJ xK xL =
  (bif (leB x1 (IntKind.wrap .i64 (x0+2))) then ((zc9 x2 x3 x4 x5 x6 x7 x8 x9 xA xB xC xD xE xF xG xH xI xJ xK x1).bind fun v1=>((appL 40 xL (PV.toL (PV.tnth v1 0))).bind fun v2=>(z5n x0 (IntKind.wrap .i64 (x1+1)) x2 x3 x4 x5 x6 x7 x8 x9 xA xB xC xD xE xF xG xH xI xJ xK v2))) else (some (PV.tuple [(PV.sl 4 xL),(PV.int .i64 0)]))) :=
 (z7 EE _ _).trans (by kernel_rfl)
theorem znf (a0:Int):zac a0 =
  ((z2x a0).bind fun v1=>(bif (leB (-4714) (PV.toI v1)) then (some (PV.bool (leB (PV.toI v1) 294278))) else (some (PV.bool false)))) :=
 (z6 EE zcv _ rfl).trans (by kernel_rfl)
theorem zth (a0 a1:Int):zdw a0 a1 =
  ((z13 a0).bind fun v1=>((z13 a1).bind fun v2=>((z72 (PV.toB (PV.nth v1 0)) (PV.toL (PV.nth v1 1)) (PV.toB (PV.nth v2 0)) (PV.toL (PV.nth v2 1))).bind fun v3=>((z2d (PV.toB (PV.nth v3 0)) (PV.toL (PV.nth v3 1))).bind fun v4=>(some (PV.tuple [(PV.int .i64 (PV.toI (PV.tnth v4 0))),(PV.int .i64 (PV.toI (PV.tnth v4 1)))])))))) :=
 (z6 EE zgd _ rfl).trans (by kernel_rfl)
theorem zf9 (a0_0 a0_1 a1 a2:Int):zc2 a0_0 a0_1 a1 a2 =
  ((zdx a0_1 a2).bind fun v1=>(bif (!(eqB a1 0)) then (some (PV.tuple [(PV.agg [(PV.int .i64 0),(PV.int .i64 0)]),(PV.int .i64 10)])) else (bif (!(eqB (PV.toI (PV.tnth v1 1)) 0)) then (some (PV.tuple [(PV.agg [(PV.int .i64 0),(PV.int .i64 0)]),(PV.int .i64 10)])) else ((zu 0 (PV.toI (PV.tnth v1 0))).bind fun v2=>(bif (!(PV.toB v2)) then (some (PV.tuple [(PV.agg [(PV.int .i64 0),(PV.int .i64 0)]),(PV.int .i64 10)])) else (some (PV.tuple [(PV.agg [(PV.int .i64 0),(PV.int .i64 (PV.toI (PV.tnth v1 0)))]),(PV.int .i64 0)]))))))) :=
 (z6 EE zew _ rfl).trans (by kernel_rfl)
theorem zne (a0_0 a0_1:Int):zab a0_0 a0_1 =
  ((z4r a0_0 a0_1).bind fun v1=>(bif (!(PV.toB v1)) then (some (PV.tuple [(PV.int .i64 0),(PV.int .i64 0),(PV.int .i64 0),(PV.int .i64 1)])) else (bif (!(eqB a0_0 0)) then (some (PV.tuple [(PV.int .i64 0),(PV.int .i64 0),(PV.int .i64 0),(PV.int .i64 10)])) else ((z42 a0_1).bind fun v2=>(some (PV.tuple [(PV.int .i64 (PV.toI (PV.tnth v2 0))),(PV.int .i64 (PV.toI (PV.tnth v2 1))),(PV.int .i64 (PV.toI (PV.tnth v2 2))),(PV.int .i64 (PV.toI (PV.tnth v2 3)))])))))) :=
 (z6 EE zcu _ rfl).trans (by kernel_rfl)
theorem znm (a0:Int):zhv a0 =
  (bif (ltB a0 0) then zdh else (bif (ltB 86400000000 a0) then zdh else (zdg a0))) :=
 (z6 EE z39 _ rfl).trans (by kernel_rfl)
theorem zjm (x0:Int):zdg x0 =
  (some (PV.tuple [(PV.int .i64 (IntKind.wrap .i64 (Int.tdiv (IntKind.wrap .i64 (Int.tdiv x0 1000000)) 3600))),(PV.int .i64 (Int.tmod (IntKind.wrap .i64 (Int.tdiv (IntKind.wrap .i64 (Int.tdiv x0 1000000)) 60)) 60)),(PV.int .i64 (Int.tmod (IntKind.wrap .i64 (Int.tdiv x0 1000000)) 60)),(PV.int .i64 (Int.tmod x0 1000000)),(PV.int .i64 0)])) :=
 (z7 EE _ _).trans (by kernel_rfl)
theorem zjn (a0:Int):z24 a0 =
  (bif (ltB a0 1) then z60 else (bif (ltB 999999 a0) then z60 else (z9s a0))) :=
 (z6 EE z1i _ rfl).trans (by kernel_rfl)
theorem z7r  : z60  =
  (some (PV.str [])) :=
 (z7 EE _ _).trans (by kernel_rfl)
theorem zh0 (x0:Int):z9s x0 =
  ((zi (IntKind.wrap .i64 (1000000+x0))).bind fun v1=>((dropS (PV.toS v1) 1).bind fun v2=>(z3k v2))) :=
 (z7 EE _ _).trans (by kernel_rfl)
theorem zgz (x0:List UInt8):z3k x0 =
  ((atS x0 (IntKind.wrap .i64 ((((List.length x0):Nat):Int)-1))).bind fun v1=>(bif (eqB v1 48) then ((takeS x0 (IntKind.wrap .i64 ((((List.length x0):Nat):Int)-1))).bind fun v2=>(z3k v2)) else ((catS [46] x0).bind fun v3=>(some (PV.str v3))))) :=
 (z7 EE _ _).trans (by kernel_rfl)
theorem z16k (a0:Int):zdm a0 =
  (bif (ltB a0 0) then (some (PV.tuple [(PV.str [45]),(PV.int .i64 (IntKind.wrap .i64 (0-a0)))])) else (some (PV.tuple [(PV.str [43]),(PV.int .i64 a0)]))) :=
 (z6 EE zu8 _ rfl).trans (by kernel_rfl)
theorem z16c (a0:List UInt8) (a1:List UInt8):zv5 a0 a1 =
  ((zo9 a0 a1).bind fun v1=>(some (PV.tuple [(PV.str (PV.toS (PV.tnth v1 0))),(PV.str (PV.toS (PV.tnth v1 1))),(PV.bool (PV.toB (PV.tnth v1 2)))]))) :=
 (z6 EE zu4 _ rfl).trans (by kernel_rfl)
theorem z1bd (a0:Int):zdy a0 =
  (bif (ltB a0 0) then ((zl0 (IntKind.wrap .u64 (0-(IntKind.wrap .u64 a0)))).bind fun v1=>((catS [45] (PV.toS v1)).bind fun v2=>(some (PV.str v2)))) else ((zl0 (IntKind.wrap .u64 a0)).bind fun v3=>(some (PV.str (PV.toS v3))))) :=
 (z6 EE zy0 _ rfl).trans (by kernel_rfl)
theorem z16n (a0:Int) (a1:List UInt8):za3 a0 a1 =
  (bif (eqB a0 0) then (some (PV.str [])) else ((z1r a0).bind fun v1=>((zt [(PV.str (PV.toS v1)),(PV.str a1)]).bind fun v2=>(some (PV.str (PV.toS v2)))))) :=
 (z6 EE zub _ rfl).trans (by kernel_rfl)
theorem z13l (a0:Int):zom a0 =
  (bif (eqB a0 0) then (some (PV.str [])) else ((zdm a0).bind fun v1=>((z2r (PV.toS (PV.tnth v1 0)) [43]).bind fun v2=>((z5v (IntKind.wrap .i64 (Int.tdiv (PV.toI (PV.tnth v1 1)) 1000000))).bind fun v3=>((zec (Int.tmod (PV.toI (PV.tnth v1 1)) 1000000)).bind fun v4=>((zt [(PV.str (PV.toS v2)),(PV.str (PV.toS v3)),(PV.str (PV.toS v4)),(PV.str [83])]).bind fun v5=>(some (PV.str (PV.toS v5))))))))) :=
 (z6 EE zp9 _ rfl).trans (by kernel_rfl)
theorem z1b0 (a0:Int):zzo a0 =
  (bif (ltB (Int.tmod a0 86400) 0) then (some (PV.int .i64 (IntKind.wrap .i64 ((IntKind.wrap .i64 (Int.tdiv a0 86400))-1)))) else (some (PV.int .i64 (IntKind.wrap .i64 (Int.tdiv a0 86400))))) :=
 (z6 EE zxw _ rfl).trans (by kernel_rfl)
theorem zjr  : zmh  =
  ((zq1 (-4718) 1 1).bind fun v1=>(some (PV.int .i64 (PV.toI v1)))) :=
 (z6 EE zuj _ rfl).trans (by kernel_rfl)
theorem zmg  : zsq  =
  ((zq1 294282 12 31).bind fun v1=>(some (PV.int .i64 (PV.toI v1)))) :=
 (z6 EE zy2 _ rfl).trans (by kernel_rfl)
theorem z8x (a0:Int):z8y a0 =
  ((zyh a0).bind fun v1=>(bif (!(PV.toB v1)) then (some (PV.tuple [(PV.int .i64 0),(PV.int .i64 0),(PV.int .i64 0),(PV.int .i64 10)])) else ((zme a0).bind fun v2=>(some (PV.tuple [(PV.int .i64 (PV.toI (PV.tnth v2 0))),(PV.int .i64 (PV.toI (PV.tnth v2 1))),(PV.int .i64 (PV.toI (PV.tnth v2 2))),(PV.int .i64 0)]))))) :=
 (z6 EE zy4 _ rfl).trans (by kernel_rfl)
theorem zgv (a0_0:Bool) (a0_1 a0_2 a0_3 a0_4 a0_5 a0_6 a0_7 a0_8 a0_9:Int) (a0_10:List UInt8) (a0_11 a0_12 a0_13 a0_14 a0_15 a0_16 a0_17:Int) (a0_18:List UInt8) (a1:Int):z181 a0_0 a0_1 a0_2 a0_3 a0_4 a0_5 a0_6 a0_7 a0_8 a0_9 a0_10 a0_11 a0_12 a0_13 a0_14 a0_15 a0_16 a0_17 a0_18 a1 =
  ((z88 a1).bind fun v1=>((z1aw a0_0 a0_1 a0_2 a0_3 a0_4 a0_5 a0_6 a0_7 a0_8 a0_9 a0_10 a0_11 a0_12 a0_13 a0_14 a0_15 a0_16 a0_17 a0_18).bind fun v2=>(bif (!(PV.toB v2)) then (some (PV.int .i64 1)) else (bif (ltB (PV.toI v1) (-4714)) then (some (PV.int .i64 10)) else (bif (ltB 294278 (PV.toI v1)) then (some (PV.int .i64 10)) else (some (PV.int .i64 0))))))) :=
 (z6 EE zxv _ rfl).trans (by kernel_rfl)
theorem zpg (a0:Int):z3z a0 =
  (bif (ltB a0 0) then (some (PV.tuple [(PV.int .i64 (IntKind.wrap .i64 (0-a0))),(PV.str [45])])) else (some (PV.tuple [(PV.int .i64 a0),(PV.str [43])]))) :=
 (z6 EE zeu _ rfl).trans (by kernel_rfl)
theorem zph (a0:Int) (a1:List UInt8):z2t a0 a1 =
  (bif (eqB a0 0) then (some (PV.str [])) else ((zi a0).bind fun v1=>((catS (PV.toS v1) a1).bind fun v2=>(some (PV.str v2))))) :=
 (z6 EE zev _ rfl).trans (by kernel_rfl)
theorem zpf (a0:Int) (a1:List UInt8) (a2:Int):zbz a0 a1 a2 =
  ((zi a0).bind fun v1=>((catS (PV.toS v1) [32]).bind fun v2=>((catS v2 a1).bind fun v3=>(bif (!(eqB a0 1)) then ((catS v3 [115]).bind fun v4=>(z5k a0 a2 v4)) else (z5k a0 a2 v3))))) :=
 (z6 EE z5f _ rfl).trans (by kernel_rfl)
theorem zkk (x0 x1:Int) (x2:List UInt8):z5k x0 x1 x2 =
  (bif (ltB x1 0) then (bif (ltB 0 x0) then ((catS [43] x2).bind fun v1=>(some (PV.str v1))) else (some (PV.str x2))) else (some (PV.str x2))) :=
 (z7 EE _ _).trans (by kernel_rfl)
theorem zpo (a0:Int):z5q a0 =
  (bif (ltB a0 0) then (z5p (IntKind.wrap .u64 (0-(IntKind.wrap .u64 a0))) [45]) else (z5p (IntKind.wrap .u64 a0) [])) :=
 (z6 EE z5h _ rfl).trans (by kernel_rfl)
theorem zkt (x0:Int) (x1:List UInt8):z5p x0 x1 =
  ((zw (IntKind.wrap .i64 (Int.tdiv (IntKind.wrap .i64 (IntKind.wrap .u64 (Int.tdiv x0 1000000))) 3600))).bind fun v1=>((catS x1 (PV.toS v1)).bind fun v2=>((catS v2 [58]).bind fun v3=>((zw (Int.tmod (IntKind.wrap .i64 (Int.tdiv (IntKind.wrap .i64 (IntKind.wrap .u64 (Int.tdiv x0 1000000))) 60)) 60)).bind fun v4=>((catS v3 (PV.toS v4)).bind fun v5=>((catS v5 [58]).bind fun v6=>((zw (Int.tmod (IntKind.wrap .i64 (IntKind.wrap .u64 (Int.tdiv x0 1000000))) 60)).bind fun v7=>((catS v6 (PV.toS v7)).bind fun v8=>((z24 (IntKind.wrap .i64 (Int.tmod x0 1000000))).bind fun v9=>((catS v8 (PV.toS v9)).bind fun v10=>(some (PV.str v10)))))))))))) :=
 (z7 EE _ _).trans (by kernel_rfl)
theorem z1kx (a0 a1:Int):num_Sub a0 a1 =
  (bif (!((ltB (IntKind.wrap .i64 (a0-a1)) a0) == (ltB 0 a1))) then (some (PV.tuple [(PV.int .i64 0),(PV.int .i64 10)])) else (some (PV.tuple [(PV.int .i64 (IntKind.wrap .i64 (a0-a1))),(PV.int .i64 0)]))) :=
 (z6 EE z185 _ rfl).trans (by kernel_rfl)
theorem z1dh (a0 a1 a2:Int):z1di a0 a1 a2 =
  (bif (eqB a2 0) then (some (PV.tuple [(PV.int .i64 0),(PV.int .i64 11)])) else ((zvj a0 a1).bind fun v1=>((zxd a2).bind fun v2=>(bif (leB (PV.toI v2) (PV.toI (PV.nth v1 0))) then (some (PV.tuple [(PV.int .i64 0),(PV.int .i64 10)])) else ((z18l (PV.toI (PV.nth v1 0)) (PV.toI (PV.nth v1 1)) (PV.toI v2)).bind fun v3=>(bif (!(!((!((ltB a0 0) == (ltB a1 0))) == (ltB a2 0)))) then (ziu (!((!((ltB a0 0) == (ltB a1 0))) == (ltB a2 0))) (PV.toI (PV.tnth v3 0))) else (bif (eqB (PV.toI (PV.tnth v3 1)) 0) then (ziu (!((!((ltB a0 0) == (ltB a1 0))) == (ltB a2 0))) (PV.toI (PV.tnth v3 0))) else (zxf (PV.toI (PV.tnth v3 0)))))))))) :=
 (z6 EE zet _ rfl).trans (by kernel_rfl)
theorem z147 (x0:Bool) (x1:Int):ziu x0 x1 =
  ((zk7 x0 0 x1).bind fun v1=>(some (PV.tuple [(PV.int .i64 (PV.toI (PV.tnth v1 0))),(PV.int .i64 (PV.toI (PV.tnth v1 1)))]))) :=
 (z7 EE _ _).trans (by kernel_rfl)
theorem z120 (x0:Int):zxf x0 =
  ((callW EE ([(tiInt IntKind.u64),(tiInt IntKind.u64)]) (PV.func (Go.Fn.func zy6) [] []) [(PV.int .u64 x0),(PV.int .u64 1),(PV.int .u64 0)]).bind fun v1=>((zk7 true (PV.toI (PV.tnth v1 1)) (PV.toI (PV.tnth v1 0))).bind fun v2=>(some (PV.tuple [(PV.int .i64 (PV.toI (PV.tnth v2 0))),(PV.int .i64 (PV.toI (PV.tnth v2 1)))])))) :=
 (z7 EE _ _).trans (by kernel_rfl)
theorem z18t (a0:Int):zyw a0 =
  ((z88 a0).bind fun v1=>(bif (leB (-4714) (PV.toI v1)) then (some (PV.bool (leB (PV.toI v1) 294278))) else (some (PV.bool false)))) :=
 (z6 EE zxp _ rfl).trans (by kernel_rfl)
theorem z16g (a0:Int) (a1:PV):z13g a0 a1 =
  (bif ((okOther a1)&&true) then (z9h a1 0 a0) else none) :=
 (z6 EE ze9 _ rfl).trans (by kernel_rfl)
theorem zk0 (x0:PV) (x1 x2:Int):z9h x0 x1 x2 =
  (bif (ltB x1 x2) then ((callW EE ([tiBool]) x0 [(PV.int .i64 (IntKind.wrap .i64 (shrI IntKind.u64 (IntKind.wrap .u64 (IntKind.wrap .i64 (x1+x2))) 1)))]).bind fun v1=>(bif (!(PV.toB v1)) then (z9h x0 (IntKind.wrap .i64 ((IntKind.wrap .i64 (shrI IntKind.u64 (IntKind.wrap .u64 (IntKind.wrap .i64 (x1+x2))) 1))+1)) x2) else (z9h x0 x1 (IntKind.wrap .i64 (shrI IntKind.u64 (IntKind.wrap .u64 (IntKind.wrap .i64 (x1+x2))) 1))))) else (some (PV.int .i64 x1))) :=
 (z7 EE _ _).trans (by kernel_rfl)
theorem z1by (a0:Int) (q0:PV) (q1:PV):z1bz a0 q0 q1 =
  (bif (okOther q0) then (bif (okOther q1) then ((PV.refR q0).bind fun v1=>((rdP (EE.ti zgs) q0 5).bind fun v2=>((rdI (EE.ti zp) (PV.toL v2) a0).bind fun v3=>((rdP (tiInt IntKind.i64) q1 0).bind fun v4=>(some (PV.bool (ltB (PV.toI v4) (PV.toI (PV.nth v3 0))))))))) else none) else none) :=
 (z6 EE zeq _ rfl).trans (by kernel_rfl)
theorem z1h0 (a0 a1:Int):z1jt a0 a1 =
  ((zst a0 a1).bind fun v1=>(some (PV.tuple [(PV.int .u64 (PV.toI (PV.tnth v1 0))),(PV.int .u64 (PV.toI (PV.tnth v1 1)))]))) :=
 (z6 EE z14z _ rfl).trans (by kernel_rfl)
theorem z96 (a0:List UInt8) (a1:List UInt8):z8n a0 a1 =
  ((z7y a0 a1).bind fun v1=>(some (PV.bool (PV.toB v1)))) :=
 (z6 EE zg5 _ rfl).trans (by kernel_rfl)
theorem z16z (a0:Int):z15f a0 =
  (some (PV.tuple [(PV.int .i64 (IntKind.wrap .i64 (IntKind.wrap .u64 (Int.tdiv a0 3600000000)))),(PV.int .i64 (IntKind.wrap .i64 (Int.tmod (IntKind.wrap .u64 (Int.tdiv a0 60000000)) 60))),(PV.int .i64 (IntKind.wrap .i64 (Int.tmod (IntKind.wrap .u64 (Int.tdiv a0 1000000)) 60))),(PV.int .i64 (IntKind.wrap .i64 (Int.tmod a0 1000000)))])) :=
 (z6 EE zuf _ rfl).trans (by kernel_rfl)
theorem zzv (a0:Int):zec a0 =
  (bif (leB a0 0) then zdz else (bif (ltB 999999 a0) then zdz else (zl1 a0))) :=
 (z6 EE z4g _ rfl).trans (by kernel_rfl)
theorem zgl  : zdz  =
  (some (PV.str [])) :=
 (z7 EE _ _).trans (by kernel_rfl)
theorem ztl (x0:Int):zl1 x0 =
  ((z8l (IntKind.wrap .u64 x0) 6).bind fun v1=>(z6j (PV.toS v1) 0 (PV.toS v1) 0)) :=
 (z7 EE _ _).trans (by kernel_rfl)
theorem zgk (x0:List UInt8) (x1:Int) (x2:List UInt8) (x3:Nat):z6j x0 x1 x2 x3 =
  (bif (ltN x3 (List.length x2)) then (bif (!(eqB ((((decR x2 x3).1):Nat):Int) 48)) then (z6j x0 (IntKind.wrap .i64 (((x3:Nat):Int)+1)) x2 (x3+((decR x2 x3).2))) else (z6j x0 x1 x2 (x3+((decR x2 x3).2)))) else ((takeS x0 x1).bind fun v1=>((catS [46] v1).bind fun v2=>(some (PV.str v2))))) :=
 (z7 EE _ _).trans (by kernel_rfl)
theorem znr (a0_0:Bool) (a0_1:List PV):z2d a0_0 a0_1 =
  (zr 2 a0_0 a0_1) :=
 (z6 EE z22 _ rfl).trans (by kernel_rfl)
theorem z27 (x0:Int) (x1:Bool) (x2:List PV):zr x0 x1 x2 =
  (bif (ltB x0 6) then ((rdI (tiInt IntKind.u64) x2 x0).bind fun v1=>(bif (!(eqB (PV.toI v1) 0)) then (some (PV.tuple [(PV.int .i64 0),(PV.int .i64 10)])) else (zr (IntKind.wrap .i64 (x0+1)) x1 x2))) else ((rdI (tiInt IntKind.u64) x2 1).bind fun v2=>((rdI (tiInt IntKind.u64) x2 0).bind fun v3=>(bif x1 then (bif (leB (orI IntKind.u64 (shlI IntKind.u64 (PV.toI v2) 32) (PV.toI v3)) 9223372036854775808) then (z7g (orI IntKind.u64 (shlI IntKind.u64 (PV.toI v2) 32) (PV.toI v3))) else (z3c (orI IntKind.u64 (shlI IntKind.u64 (PV.toI v2) 32) (PV.toI v3)) x1 x2)) else (z3c (orI IntKind.u64 (shlI IntKind.u64 (PV.toI v2) 32) (PV.toI v3)) x1 x2))))) :=
 (z7 EE _ _).trans (by kernel_rfl)
theorem zjq (x0:Int):z7g x0 =
  (some (PV.tuple [(PV.int .i64 (IntKind.wrap .i64 (IntKind.wrap .u64 (0-x0)))),(PV.int .i64 0)])) :=
 (z7 EE _ _).trans (by kernel_rfl)
theorem zjp (x0:Int) (x1:Bool) (x2:List PV):z3c x0 x1 x2 =
  (bif x1 then (some (PV.tuple [(PV.int .i64 0),(PV.int .i64 10)])) else (bif (leB 9223372036854775808 x0) then (some (PV.tuple [(PV.int .i64 0),(PV.int .i64 10)])) else (some (PV.tuple [(PV.int .i64 (IntKind.wrap .i64 x0)),(PV.int .i64 0)])))) :=
 (z7 EE _ _).trans (by kernel_rfl)
theorem zpw (a0_0:Bool) (a0_1:List PV) (a1_0:Bool) (a1_1:List PV):z7u a0_0 a0_1 a1_0 a1_1 =
  ((z9c a0_1 a1_1).bind fun v1=>(bif (!(a0_0 == a1_0)) then ((z1m (PV.toL (PV.tnth v1 1))).bind fun v2=>(bif (!(PV.toB v2)) then (zfh (PV.toL (PV.tnth v1 0)) a0_0 a0_1 a1_0 a1_1 false) else (bif (!(a0_0 == a1_0)) then ((z1m (PV.toL (PV.tnth v1 0))).bind fun v3=>(some (PV.agg [(PV.bool (!(PV.toB v3))),(PV.sl 1 (PV.toL (PV.tnth v1 0)))]))) else (some (PV.agg [(PV.bool false),(PV.sl 1 (PV.toL (PV.tnth v1 0)))]))))) else (bif (!(a0_0 == a1_0)) then ((z1m (PV.toL (PV.tnth v1 0))).bind fun v4=>(some (PV.agg [(PV.bool (!(PV.toB v4))),(PV.sl 1 (PV.toL (PV.tnth v1 0)))]))) else (some (PV.agg [(PV.bool false),(PV.sl 1 (PV.toL (PV.tnth v1 0)))]))))) :=
 (z6 EE z5j _ rfl).trans (by kernel_rfl)
theorem zky (x0:List PV) (x1:Bool) (x2:List PV) (x3:Bool) (x4:List PV) (x5:Bool):zfh x0 x1 x2 x3 x4 x5 =
  ((z13 1).bind fun v1=>((z2l x0 (PV.toL (PV.nth v1 1))).bind fun v2=>(bif (!(x1 == x3)) then ((z1m (PV.toL v2)).bind fun v3=>(some (PV.agg [(PV.bool (!(PV.toB v3))),(PV.sl 1 (PV.toL v2))]))) else (some (PV.agg [(PV.bool false),(PV.sl 1 (PV.toL v2))]))))) :=
 (z7 EE _ _).trans (by kernel_rfl)
theorem zw0 (a0:Int):z13 a0 =
  (bif (ltB a0 0) then (z74 a0 (IntKind.wrap .u64 (0-(IntKind.wrap .u64 a0))) false) else (z74 a0 (IntKind.wrap .u64 a0) false)) :=
 (z6 EE z6t _ rfl).trans (by kernel_rfl)
theorem zns (x0 x1:Int) (x2:Bool):z74 x0 x1 x2 =
  (some (PV.agg [(PV.bool (ltB x0 0)),(PV.sl 1 [(PV.int .u64 (andI IntKind.u64 x1 4294967295)),(PV.int .u64 (shrI IntKind.u64 x1 32)),(PV.int .u64 0),(PV.int .u64 0),(PV.int .u64 0),(PV.int .u64 0)])])) :=
 (z7 EE _ _).trans (by kernel_rfl)
theorem zpv (a0_0:Bool) (a0_1:List PV) (a1_0:Bool) (a1_1:List PV):z7t a0_0 a0_1 a1_0 a1_1 =
  (bif (a0_0 == a1_0) then ((z2l a0_1 a1_1).bind fun v1=>(some (PV.agg [(PV.bool a0_0),(PV.sl 1 (PV.toL v1))]))) else ((z4i a0_1 a1_1).bind fun v2=>(bif (leB 0 (PV.toI v2)) then (bif a0_0 then ((z4i a0_1 a1_1).bind fun v3=>((z43 a0_1 a1_1).bind fun v4=>(some (PV.agg [(PV.bool (ltB 0 (PV.toI v3))),(PV.sl 1 (PV.toL v4))])))) else ((z43 a0_1 a1_1).bind fun v5=>(some (PV.agg [(PV.bool false),(PV.sl 1 (PV.toL v5))])))) else ((z43 a1_1 a0_1).bind fun v6=>(some (PV.agg [(PV.bool a1_0),(PV.sl 1 (PV.toL v6))])))))) :=
 (z6 EE zf3 _ rfl).trans (by kernel_rfl)
theorem znt (a0_0:Bool) (a0_1:List PV):zaj a0_0 a0_1 =
  (bif (!a0_0) then ((z1m a0_1).bind fun v1=>(some (PV.agg [(PV.bool (!(PV.toB v1))),(PV.sl 1 a0_1)]))) else (some (PV.agg [(PV.bool false),(PV.sl 1 a0_1)]))) :=
 (z6 EE zd2 _ rfl).trans (by kernel_rfl)
theorem znp (a0_0:Bool) (a0_1:List PV) (a1_0:Bool) (a1_1:List PV):z72 a0_0 a0_1 a1_0 a1_1 =
  (zdj 0 a0_0 a0_1 a1_0 a1_1 false [(PV.int .u64 0),(PV.int .u64 0),(PV.int .u64 0),(PV.int .u64 0),(PV.int .u64 0),(PV.int .u64 0)] 6) :=
 (z6 EE z1l _ rfl).trans (by kernel_rfl)
theorem zjo (x0:Int) (x1:Bool) (x2:List PV) (x3:Bool) (x4:List PV) (x5:Bool) (x6:List PV) (x7:Nat):zdj x0 x1 x2 x3 x4 x5 x6 x7 =
  (bif (ltB x0 2) then (z10 x0 0 0 x1 x2 x3 x4 x5 x6 x7 [(PV.int .u64 0),(PV.int .u64 0),(PV.int .u64 0),(PV.int .u64 0),(PV.int .u64 0),(PV.int .u64 0)] 6) else (bif (!(x1 == x3)) then ((z1m x6).bind fun v1=>(some (PV.agg [(PV.bool (!(PV.toB v1))),(PV.sl 1 x6)]))) else (some (PV.agg [(PV.bool false),(PV.sl 1 x6)])))) :=
 (z7 EE _ _).trans (by kernel_rfl)
theorem z3l (x0 x1 x2:Int) (x3:Bool) (x4:List PV) (x5:Bool) (x6:List PV) (x7:Bool) (x8:List PV) (x9:Nat) (xA:List PV) (xB:Nat):z10 x0 x1 x2 x3 x4 x5 x6 x7 x8 x9 xA xB =
  (bif (ltB x2 3) then ((rdI (tiInt IntKind.u64) x4 x0).bind fun v1=>((rdI (tiInt IntKind.u64) x6 x2).bind fun v2=>(bif (inB 0 (IntKind.wrap .i64 (x0+x2)) (((List.length xA):Nat):Int)) then ((stC xA (Int.toNat (IntKind.wrap .i64 (x0+x2))) 0 [(PV.int .u64 (andI IntKind.u64 (IntKind.wrap .u64 (x1+(IntKind.wrap .u64 ((PV.toI v1)*(PV.toI v2))))) 4294967295))]).bind fun v3=>(z10 x0 (shrI IntKind.u64 (IntKind.wrap .u64 (x1+(IntKind.wrap .u64 ((PV.toI v1)*(PV.toI v2))))) 32) (IntKind.wrap .i64 (x2+1)) x3 x4 x5 x6 x7 x8 x9 v3 xB)) else none))) else ((z2l x8 xA).bind fun v4=>(z2m (PV.toL v4) (IntKind.wrap .i64 (x0+1)) x3 x4 x5 x6 x7))) :=
 (z7 EE _ _).trans (by kernel_rfl)
theorem z8k (x0:List PV) (x1:Int) (x2:Bool) (x3:List PV) (x4:Bool) (x5:List PV) (x6:Bool):z2m x0 x1 x2 x3 x4 x5 x6 =
  (bif (ltB x1 2) then (zv x0 x1 0 0 x2 x3 x4 x5 x6 [(PV.int .u64 0),(PV.int .u64 0),(PV.int .u64 0),(PV.int .u64 0),(PV.int .u64 0),(PV.int .u64 0)] 6) else (bif (!(x2 == x4)) then ((z1m x0).bind fun v1=>(some (PV.agg [(PV.bool (!(PV.toB v1))),(PV.sl 1 x0)]))) else (some (PV.agg [(PV.bool false),(PV.sl 1 x0)])))) :=
 (z7 EE _ _).trans (by kernel_rfl)
theorem z2v (x0:List PV) (x1 x2 x3:Int) (x4:Bool) (x5:List PV) (x6:Bool) (x7:List PV) (x8:Bool) (x9:List PV) (xA:Nat):zv x0 x1 x2 x3 x4 x5 x6 x7 x8 x9 xA =
  (bif (ltB x3 3) then ((rdI (tiInt IntKind.u64) x5 x1).bind fun v1=>((rdI (tiInt IntKind.u64) x7 x3).bind fun v2=>(bif (inB 0 (IntKind.wrap .i64 (x1+x3)) (((List.length x9):Nat):Int)) then ((stC x9 (Int.toNat (IntKind.wrap .i64 (x1+x3))) 0 [(PV.int .u64 (andI IntKind.u64 (IntKind.wrap .u64 (x2+(IntKind.wrap .u64 ((PV.toI v1)*(PV.toI v2))))) 4294967295))]).bind fun v3=>(zv x0 x1 (shrI IntKind.u64 (IntKind.wrap .u64 (x2+(IntKind.wrap .u64 ((PV.toI v1)*(PV.toI v2))))) 32) (IntKind.wrap .i64 (x3+1)) x4 x5 x6 x7 x8 v3 xA)) else none))) else ((z2l x0 x9).bind fun v4=>(z2m (PV.toL v4) (IntKind.wrap .i64 (x1+1)) x4 x5 x6 x7 x8))) :=
 (z7 EE _ _).trans (by kernel_rfl)
theorem zte (a0:Int):zdv a0 =
  ((zai).bind fun v1=>(bif (leB (PV.toI v1) a0) then ((zj5).bind fun v2=>(some (PV.bool (leB a0 (PV.toI v2))))) else (some (PV.bool false)))) :=
 (z6 EE zgc _ rfl).trans (by kernel_rfl)
theorem ztb (a0 a1:Int):z8u a0 a1 =
  (bif (eqB a1 0) then none else (bif (eqB a1 0) then none else (bif (ltB (Int.tmod a0 a1) 0) then (some (PV.int .i64 (IntKind.wrap .i64 ((IntKind.wrap .i64 (Int.tdiv a0 a1))-1)))) else (some (PV.int .i64 (IntKind.wrap .i64 (Int.tdiv a0 a1))))))) :=
 (z6 EE zgb _ rfl).trans (by kernel_rfl)
theorem zta (a0 a1:Int):z20 a0 a1 =
  (bif (eqB a1 0) then none else (bif (ltB (Int.tmod a0 a1) 0) then (some (PV.int .i64 (IntKind.wrap .i64 ((Int.tmod a0 a1)+a1)))) else (some (PV.int .i64 (Int.tmod a0 a1))))) :=
 (z6 EE zga _ rfl).trans (by kernel_rfl)
theorem zpp (a0:Int):z5r a0 =
  ((z20 a0 4).bind fun v1=>(bif (eqB (PV.toI v1) 0) then ((z20 a0 100).bind fun v2=>(bif (!(eqB (PV.toI v2) 0)) then (some (PV.bool true)) else ((z20 a0 400).bind fun v3=>(some (PV.bool (eqB (PV.toI v3) 0)))))) else (some (PV.bool false)))) :=
 (z6 EE zez _ rfl).trans (by kernel_rfl)
theorem ztd (a0 a1:Int):z3i a0 a1 =
  (bif (eqB a1 1) then (some (PV.int .i64 31)) else (bif (eqB a1 3) then (some (PV.int .i64 31)) else (bif (eqB a1 5) then (some (PV.int .i64 31)) else (bif (eqB a1 7) then (some (PV.int .i64 31)) else (bif (eqB a1 8) then (some (PV.int .i64 31)) else (bif (eqB a1 10) then (some (PV.int .i64 31)) else (bif (eqB a1 12) then (some (PV.int .i64 31)) else (zfg a0 a1)))))))) :=
 (z6 EE z48 _ rfl).trans (by kernel_rfl)
theorem zb6 (x0 x1:Int):zfg x0 x1 =
  (bif (eqB x1 4) then (some (PV.int .i64 30)) else (bif (eqB x1 6) then (some (PV.int .i64 30)) else (bif (eqB x1 9) then (some (PV.int .i64 30)) else (bif (eqB x1 11) then (some (PV.int .i64 30)) else (zff x0 x1))))) :=
 (z7 EE _ _).trans (by kernel_rfl)
theorem zkv (x0 x1:Int):zff x0 x1 =
  (bif (eqB x1 2) then ((z5r x0).bind fun v1=>(bif (PV.toB v1) then (some (PV.int .i64 29)) else (some (PV.int .i64 28)))) else (some (PV.int .i64 0))) :=
 (z7 EE _ _).trans (by kernel_rfl)
theorem ztc (a0 a1 a2:Int):z6i a0 a1 a2 =
  ((zag a0).bind fun v1=>(z6a a0 a1 (IntKind.wrap .i64 ((IntKind.wrap .i64 ((PV.toI v1)+a2))-1)) 1)) :=
 (z6 EE z63 _ rfl).trans (by kernel_rfl)
theorem zcc (x0 x1 x2 x3:Int):z6a x0 x1 x2 x3 =
  (bif (ltB x3 x1) then ((z3i x0 x3).bind fun v1=>(z6a x0 x1 (IntKind.wrap .i64 (x2+(PV.toI v1))) (IntKind.wrap .i64 (x3+1)))) else (some (PV.int .i64 x2))) :=
 (z7 EE _ _).trans (by kernel_rfl)
theorem znl (a0_0:Bool) (a0_1 a0_2 a0_3 a0_4 a0_5 a0_6 a0_7 a0_8 a0_9:Int) (a0_10:List UInt8) (a0_11 a0_12 a0_13 a0_14 a0_15 a0_16 a0_17:Int) (a0_18:List UInt8):z6z a0_0 a0_1 a0_2 a0_3 a0_4 a0_5 a0_6 a0_7 a0_8 a0_9 a0_10 a0_11 a0_12 a0_13 a0_14 a0_15 a0_16 a0_17 a0_18 =
  (bif (!a0_0) then z23 else ((z6y a0_3 a0_4 a0_5 a0_6 a0_7 a0_8 a0_9 a0_10).bind fun v1=>(bif (!(PV.toB v1)) then z23 else ((z6y a0_11 a0_12 a0_13 a0_14 a0_15 a0_16 a0_17 a0_18).bind fun v2=>(bif (!(PV.toB v2)) then z23 else (bif (ltB a0_2 (-50400)) then z23 else (bif (ltB 50400 a0_2) then z23 else (zde a0_0 a0_1 a0_2 a0_3 a0_4 a0_5 a0_6 a0_7 a0_8 a0_9 a0_10 a0_11 a0_12 a0_13 a0_14 a0_15 a0_16 a0_17 a0_18)))))))) :=
 (z6 EE z38 _ rfl).trans (by kernel_rfl)
theorem zjl  : z23  =
  (some (PV.bool false)) :=
 (z7 EE _ _).trans (by kernel_rfl)
theorem zjk (x0:Bool) (x1 x2 x3 x4 x5 x6 x7 x8 x9:Int) (xA:List UInt8) (xB xC xD xE xF xG xH:Int) (xI:List UInt8):zde x0 x1 x2 x3 x4 x5 x6 x7 x8 x9 xA xB xC xD xE xF xG xH xI =
  (bif (ltB (IntKind.wrap .i64 (x3-xB)) 0) then (bif (leB 2 (IntKind.wrap .i64 (0-(IntKind.wrap .i64 (x3-xB))))) then (some (PV.bool (leB (IntKind.wrap .i64 (0-(IntKind.wrap .i64 (x3-xB)))) 10))) else (some (PV.bool false))) else (bif (leB 2 (IntKind.wrap .i64 (x3-xB))) then (some (PV.bool (leB (IntKind.wrap .i64 (x3-xB)) 10))) else (some (PV.bool false)))) :=
 (z7 EE _ _).trans (by kernel_rfl)
theorem zpm (a0_0:Bool) (a0_1 a0_2 a0_3 a0_4 a0_5 a0_6 a0_7 a0_8 a0_9:Int) (a0_10:List UInt8) (a0_11 a0_12 a0_13 a0_14 a0_15 a0_16 a0_17:Int) (a0_18:List UInt8) (a1:Int):zc9 a0_0 a0_1 a0_2 a0_3 a0_4 a0_5 a0_6 a0_7 a0_8 a0_9 a0_10 a0_11 a0_12 a0_13 a0_14 a0_15 a0_16 a0_17 a0_18 a1 =
  ((z6z a0_0 a0_1 a0_2 a0_3 a0_4 a0_5 a0_6 a0_7 a0_8 a0_9 a0_10 a0_11 a0_12 a0_13 a0_14 a0_15 a0_16 a0_17 a0_18).bind fun v1=>(bif (!(PV.toB v1)) then (some (PV.tuple [(PV.sl 0 []),(PV.int .i64 1)])) else (bif (leB a1 (-4718)) then zfc else (bif (leB 294282 a1) then zfc else (zfb a1 a0_0 a0_1 a0_2 a0_3 a0_4 a0_5 a0_6 a0_7 a0_8 a0_9 a0_10 a0_11 a0_12 a0_13 a0_14 a0_15 a0_16 a0_17 a0_18))))) :=
 (z6 EE z3r _ rfl).trans (by kernel_rfl)
theorem zkp (x0:Int) (x1:Bool) (x2 x3 x4 x5 x6 x7 x8 x9 xA:Int) (xB:List UInt8) (xC xD xE xF xG xH xI:Int) (xJ:List UInt8):zfb x0 x1 x2 x3 x4 x5 x6 x7 x8 x9 xA xB xC xD xE xF xG xH xI xJ =
  ((z6x x4 x5 x6 x7 x8 x9 xA xB xC xD xE xF xG xH xI xJ x3 x0).bind fun v1=>((z6x xC xD xE xF xG xH xI xJ x4 x5 x6 x7 x8 x9 xA xB x3 x0).bind fun v2=>(bif (ltB x4 xC) then (some (PV.tuple [(PV.sl 4 [(PV.agg [(PV.int .i64 (PV.toI (PV.nth v1 0))),(PV.int .i64 (PV.toI (PV.nth v1 1))),(PV.bool (PV.toB (PV.nth v1 2))),(PV.str (PV.toS (PV.nth v1 3)))]),(PV.agg [(PV.int .i64 (PV.toI (PV.nth v2 0))),(PV.int .i64 (PV.toI (PV.nth v2 1))),(PV.bool (PV.toB (PV.nth v2 2))),(PV.str (PV.toS (PV.nth v2 3)))])]),(PV.int .i64 0)])) else (some (PV.tuple [(PV.sl 4 [(PV.agg [(PV.int .i64 (PV.toI (PV.nth v2 0))),(PV.int .i64 (PV.toI (PV.nth v2 1))),(PV.bool (PV.toB (PV.nth v2 2))),(PV.str (PV.toS (PV.nth v2 3)))]),(PV.agg [(PV.int .i64 (PV.toI (PV.nth v1 0))),(PV.int .i64 (PV.toI (PV.nth v1 1))),(PV.bool (PV.toB (PV.nth v1 2))),(PV.str (PV.toS (PV.nth v1 3)))])]),(PV.int .i64 0)]))))) :=
 (z7 EE _ _).trans (by kernel_rfl)
theorem ztk (a0 a1:Int):zdx a0 a1 =
  ((z13 a0).bind fun v1=>((z13 a1).bind fun v2=>((z7t (PV.toB (PV.nth v1 0)) (PV.toL (PV.nth v1 1)) (PV.toB (PV.nth v2 0)) (PV.toL (PV.nth v2 1))).bind fun v3=>((z2d (PV.toB (PV.nth v3 0)) (PV.toL (PV.nth v3 1))).bind fun v4=>(some (PV.tuple [(PV.int .i64 (PV.toI (PV.tnth v4 0))),(PV.int .i64 (PV.toI (PV.tnth v4 1)))])))))) :=
 (z6 EE zgg _ rfl).trans (by kernel_rfl)
theorem zwy (a0:List UInt8) (a1:List UInt8):zo9 a0 a1 =
  ((zdk a0 a1).bind fun v1=>(bif (leB 0 (PV.toI v1)) then ((takeS a0 (PV.toI v1)).bind fun v2=>((dropS a0 (IntKind.wrap .i64 ((PV.toI v1)+(((List.length a1):Nat):Int)))).bind fun v3=>(some (PV.tuple [(PV.str v2),(PV.str v3),(PV.bool true)])))) else (some (PV.tuple [(PV.str a0),(PV.str []),(PV.bool false)])))) :=
 (z6 EE ziy _ rfl).trans (by kernel_rfl)
theorem z16l (a0:Int):z1r a0 =
  (bif (ltB a0 0) then ((z5v (IntKind.wrap .i64 (0-a0))).bind fun v1=>((zt [(PV.str [45]),(PV.str (PV.toS v1))]).bind fun v2=>(some (PV.str (PV.toS v2))))) else ((z5v a0).bind fun v3=>(some (PV.str (PV.toS v3))))) :=
 (z6 EE zu9 _ rfl).trans (by kernel_rfl)
theorem z7z (a0:List UInt8) (a1:List UInt8):z2r a0 a1 =
  ((zco a0 a1).bind fun v1=>(some (PV.str (PV.toS v1)))) :=
 (z6 EE zer _ rfl).trans (by kernel_rfl)
theorem zq0 (a0 a1 a2:Int):zq1 a0 a1 a2 =
  (bif (leB a1 2) then (zj7 (IntKind.wrap .i64 (a0-1)) (IntKind.wrap .i64 (a1+12)) a2) else (zj7 a0 a1 a2)) :=
 (z6 EE zj2 _ rfl).trans (by kernel_rfl)
theorem zi2 (x0 x1 x2:Int):zj7 x0 x1 x2 =
  ((zi1 x0 400).bind fun v1=>(some (PV.int .i64 (IntKind.wrap .i64 ((IntKind.wrap .i64 ((IntKind.wrap .i64 ((IntKind.wrap .i64 ((IntKind.wrap .i64 ((IntKind.wrap .i64 ((IntKind.wrap .i64 ((IntKind.wrap .i64 ((PV.toI (PV.tnth v1 0))*146097))+(IntKind.wrap .i64 ((PV.toI (PV.tnth v1 1))*365))))+(IntKind.wrap .i64 (Int.tdiv (PV.toI (PV.tnth v1 1)) 4))))-(IntKind.wrap .i64 (Int.tdiv (PV.toI (PV.tnth v1 1)) 100))))+(IntKind.wrap .i64 (Int.tdiv (IntKind.wrap .i64 ((IntKind.wrap .i64 (153*(IntKind.wrap .i64 (x1-3))))+2)) 5))))+x2))-1))-730425))))) :=
 (z7 EE _ _).trans (by kernel_rfl)
theorem z11b (a0:Int):zyh a0 =
  ((zmh).bind fun v1=>(bif (leB (PV.toI v1) a0) then ((zsq).bind fun v2=>(some (PV.bool (leB a0 (PV.toI v2))))) else (some (PV.bool false)))) :=
 (z6 EE z114 _ rfl).trans (by kernel_rfl)
theorem zuk (a0:Int):zme a0 =
  ((zi1 (IntKind.wrap .i64 (a0+730425)) 146097).bind fun v1=>(bif (leB 10 (IntKind.wrap .i64 (Int.tdiv (IntKind.wrap .i64 ((IntKind.wrap .i64 (5*(IntKind.wrap .i64 ((IntKind.wrap .i64 ((IntKind.wrap .i64 ((PV.toI (PV.tnth v1 1))-(IntKind.wrap .i64 ((minI (IntKind.wrap .i64 (Int.tdiv (PV.toI (PV.tnth v1 1)) 36524)) 3)*36524))))-(IntKind.wrap .i64 ((IntKind.wrap .i64 (Int.tdiv (IntKind.wrap .i64 ((PV.toI (PV.tnth v1 1))-(IntKind.wrap .i64 ((minI (IntKind.wrap .i64 (Int.tdiv (PV.toI (PV.tnth v1 1)) 36524)) 3)*36524)))) 1461))*1461))))-(IntKind.wrap .i64 ((minI (IntKind.wrap .i64 (Int.tdiv (IntKind.wrap .i64 ((IntKind.wrap .i64 ((PV.toI (PV.tnth v1 1))-(IntKind.wrap .i64 ((minI (IntKind.wrap .i64 (Int.tdiv (PV.toI (PV.tnth v1 1)) 36524)) 3)*36524))))-(IntKind.wrap .i64 ((IntKind.wrap .i64 (Int.tdiv (IntKind.wrap .i64 ((PV.toI (PV.tnth v1 1))-(IntKind.wrap .i64 ((minI (IntKind.wrap .i64 (Int.tdiv (PV.toI (PV.tnth v1 1)) 36524)) 3)*36524)))) 1461))*1461)))) 365)) 3)*365))))))+2)) 153))) then (some (PV.tuple [(PV.int .i64 (IntKind.wrap .i64 ((IntKind.wrap .i64 ((IntKind.wrap .i64 ((IntKind.wrap .i64 ((IntKind.wrap .i64 ((PV.toI (PV.tnth v1 0))*400))+(IntKind.wrap .i64 ((minI (IntKind.wrap .i64 (Int.tdiv (PV.toI (PV.tnth v1 1)) 36524)) 3)*100))))+(IntKind.wrap .i64 ((IntKind.wrap .i64 (Int.tdiv (IntKind.wrap .i64 ((PV.toI (PV.tnth v1 1))-(IntKind.wrap .i64 ((minI (IntKind.wrap .i64 (Int.tdiv (PV.toI (PV.tnth v1 1)) 36524)) 3)*36524)))) 1461))*4))))+(minI (IntKind.wrap .i64 (Int.tdiv (IntKind.wrap .i64 ((IntKind.wrap .i64 ((PV.toI (PV.tnth v1 1))-(IntKind.wrap .i64 ((minI (IntKind.wrap .i64 (Int.tdiv (PV.toI (PV.tnth v1 1)) 36524)) 3)*36524))))-(IntKind.wrap .i64 ((IntKind.wrap .i64 (Int.tdiv (IntKind.wrap .i64 ((PV.toI (PV.tnth v1 1))-(IntKind.wrap .i64 ((minI (IntKind.wrap .i64 (Int.tdiv (PV.toI (PV.tnth v1 1)) 36524)) 3)*36524)))) 1461))*1461)))) 365)) 3)))+1))),(PV.int .i64 (IntKind.wrap .i64 ((IntKind.wrap .i64 (Int.tdiv (IntKind.wrap .i64 ((IntKind.wrap .i64 (5*(IntKind.wrap .i64 ((IntKind.wrap .i64 ((IntKind.wrap .i64 ((PV.toI (PV.tnth v1 1))-(IntKind.wrap .i64 ((minI (IntKind.wrap .i64 (Int.tdiv (PV.toI (PV.tnth v1 1)) 36524)) 3)*36524))))-(IntKind.wrap .i64 ((IntKind.wrap .i64 (Int.tdiv (IntKind.wrap .i64 ((PV.toI (PV.tnth v1 1))-(IntKind.wrap .i64 ((minI (IntKind.wrap .i64 (Int.tdiv (PV.toI (PV.tnth v1 1)) 36524)) 3)*36524)))) 1461))*1461))))-(IntKind.wrap .i64 ((minI (IntKind.wrap .i64 (Int.tdiv (IntKind.wrap .i64 ((IntKind.wrap .i64 ((PV.toI (PV.tnth v1 1))-(IntKind.wrap .i64 ((minI (IntKind.wrap .i64 (Int.tdiv (PV.toI (PV.tnth v1 1)) 36524)) 3)*36524))))-(IntKind.wrap .i64 ((IntKind.wrap .i64 (Int.tdiv (IntKind.wrap .i64 ((PV.toI (PV.tnth v1 1))-(IntKind.wrap .i64 ((minI (IntKind.wrap .i64 (Int.tdiv (PV.toI (PV.tnth v1 1)) 36524)) 3)*36524)))) 1461))*1461)))) 365)) 3)*365))))))+2)) 153))-9))),(PV.int .i64 (IntKind.wrap .i64 ((IntKind.wrap .i64 ((IntKind.wrap .i64 ((IntKind.wrap .i64 ((IntKind.wrap .i64 ((PV.toI (PV.tnth v1 1))-(IntKind.wrap .i64 ((minI (IntKind.wrap .i64 (Int.tdiv (PV.toI (PV.tnth v1 1)) 36524)) 3)*36524))))-(IntKind.wrap .i64 ((IntKind.wrap .i64 (Int.tdiv (IntKind.wrap .i64 ((PV.toI (PV.tnth v1 1))-(IntKind.wrap .i64 ((minI (IntKind.wrap .i64 (Int.tdiv (PV.toI (PV.tnth v1 1)) 36524)) 3)*36524)))) 1461))*1461))))-(IntKind.wrap .i64 ((minI (IntKind.wrap .i64 (Int.tdiv (IntKind.wrap .i64 ((IntKind.wrap .i64 ((PV.toI (PV.tnth v1 1))-(IntKind.wrap .i64 ((minI (IntKind.wrap .i64 (Int.tdiv (PV.toI (PV.tnth v1 1)) 36524)) 3)*36524))))-(IntKind.wrap .i64 ((IntKind.wrap .i64 (Int.tdiv (IntKind.wrap .i64 ((PV.toI (PV.tnth v1 1))-(IntKind.wrap .i64 ((minI (IntKind.wrap .i64 (Int.tdiv (PV.toI (PV.tnth v1 1)) 36524)) 3)*36524)))) 1461))*1461)))) 365)) 3)*365))))-(IntKind.wrap .i64 (Int.tdiv (IntKind.wrap .i64 ((IntKind.wrap .i64 (153*(IntKind.wrap .i64 (Int.tdiv (IntKind.wrap .i64 ((IntKind.wrap .i64 (5*(IntKind.wrap .i64 ((IntKind.wrap .i64 ((IntKind.wrap .i64 ((PV.toI (PV.tnth v1 1))-(IntKind.wrap .i64 ((minI (IntKind.wrap .i64 (Int.tdiv (PV.toI (PV.tnth v1 1)) 36524)) 3)*36524))))-(IntKind.wrap .i64 ((IntKind.wrap .i64 (Int.tdiv (IntKind.wrap .i64 ((PV.toI (PV.tnth v1 1))-(IntKind.wrap .i64 ((minI (IntKind.wrap .i64 (Int.tdiv (PV.toI (PV.tnth v1 1)) 36524)) 3)*36524)))) 1461))*1461))))-(IntKind.wrap .i64 ((minI (IntKind.wrap .i64 (Int.tdiv (IntKind.wrap .i64 ((IntKind.wrap .i64 ((PV.toI (PV.tnth v1 1))-(IntKind.wrap .i64 ((minI (IntKind.wrap .i64 (Int.tdiv (PV.toI (PV.tnth v1 1)) 36524)) 3)*36524))))-(IntKind.wrap .i64 ((IntKind.wrap .i64 (Int.tdiv (IntKind.wrap .i64 ((PV.toI (PV.tnth v1 1))-(IntKind.wrap .i64 ((minI (IntKind.wrap .i64 (Int.tdiv (PV.toI (PV.tnth v1 1)) 36524)) 3)*36524)))) 1461))*1461)))) 365)) 3)*365))))))+2)) 153))))+2)) 5))))+1)))])) else (some (PV.tuple [(PV.int .i64 (IntKind.wrap .i64 ((IntKind.wrap .i64 ((IntKind.wrap .i64 ((IntKind.wrap .i64 ((PV.toI (PV.tnth v1 0))*400))+(IntKind.wrap .i64 ((minI (IntKind.wrap .i64 (Int.tdiv (PV.toI (PV.tnth v1 1)) 36524)) 3)*100))))+(IntKind.wrap .i64 ((IntKind.wrap .i64 (Int.tdiv (IntKind.wrap .i64 ((PV.toI (PV.tnth v1 1))-(IntKind.wrap .i64 ((minI (IntKind.wrap .i64 (Int.tdiv (PV.toI (PV.tnth v1 1)) 36524)) 3)*36524)))) 1461))*4))))+(minI (IntKind.wrap .i64 (Int.tdiv (IntKind.wrap .i64 ((IntKind.wrap .i64 ((PV.toI (PV.tnth v1 1))-(IntKind.wrap .i64 ((minI (IntKind.wrap .i64 (Int.tdiv (PV.toI (PV.tnth v1 1)) 36524)) 3)*36524))))-(IntKind.wrap .i64 ((IntKind.wrap .i64 (Int.tdiv (IntKind.wrap .i64 ((PV.toI (PV.tnth v1 1))-(IntKind.wrap .i64 ((minI (IntKind.wrap .i64 (Int.tdiv (PV.toI (PV.tnth v1 1)) 36524)) 3)*36524)))) 1461))*1461)))) 365)) 3)))),(PV.int .i64 (IntKind.wrap .i64 ((IntKind.wrap .i64 (Int.tdiv (IntKind.wrap .i64 ((IntKind.wrap .i64 (5*(IntKind.wrap .i64 ((IntKind.wrap .i64 ((IntKind.wrap .i64 ((PV.toI (PV.tnth v1 1))-(IntKind.wrap .i64 ((minI (IntKind.wrap .i64 (Int.tdiv (PV.toI (PV.tnth v1 1)) 36524)) 3)*36524))))-(IntKind.wrap .i64 ((IntKind.wrap .i64 (Int.tdiv (IntKind.wrap .i64 ((PV.toI (PV.tnth v1 1))-(IntKind.wrap .i64 ((minI (IntKind.wrap .i64 (Int.tdiv (PV.toI (PV.tnth v1 1)) 36524)) 3)*36524)))) 1461))*1461))))-(IntKind.wrap .i64 ((minI (IntKind.wrap .i64 (Int.tdiv (IntKind.wrap .i64 ((IntKind.wrap .i64 ((PV.toI (PV.tnth v1 1))-(IntKind.wrap .i64 ((minI (IntKind.wrap .i64 (Int.tdiv (PV.toI (PV.tnth v1 1)) 36524)) 3)*36524))))-(IntKind.wrap .i64 ((IntKind.wrap .i64 (Int.tdiv (IntKind.wrap .i64 ((PV.toI (PV.tnth v1 1))-(IntKind.wrap .i64 ((minI (IntKind.wrap .i64 (Int.tdiv (PV.toI (PV.tnth v1 1)) 36524)) 3)*36524)))) 1461))*1461)))) 365)) 3)*365))))))+2)) 153))+3))),(PV.int .i64 (IntKind.wrap .i64 ((IntKind.wrap .i64 ((IntKind.wrap .i64 ((IntKind.wrap .i64 ((IntKind.wrap .i64 ((PV.toI (PV.tnth v1 1))-(IntKind.wrap .i64 ((minI (IntKind.wrap .i64 (Int.tdiv (PV.toI (PV.tnth v1 1)) 36524)) 3)*36524))))-(IntKind.wrap .i64 ((IntKind.wrap .i64 (Int.tdiv (IntKind.wrap .i64 ((PV.toI (PV.tnth v1 1))-(IntKind.wrap .i64 ((minI (IntKind.wrap .i64 (Int.tdiv (PV.toI (PV.tnth v1 1)) 36524)) 3)*36524)))) 1461))*1461))))-(IntKind.wrap .i64 ((minI (IntKind.wrap .i64 (Int.tdiv (IntKind.wrap .i64 ((IntKind.wrap .i64 ((PV.toI (PV.tnth v1 1))-(IntKind.wrap .i64 ((minI (IntKind.wrap .i64 (Int.tdiv (PV.toI (PV.tnth v1 1)) 36524)) 3)*36524))))-(IntKind.wrap .i64 ((IntKind.wrap .i64 (Int.tdiv (IntKind.wrap .i64 ((PV.toI (PV.tnth v1 1))-(IntKind.wrap .i64 ((minI (IntKind.wrap .i64 (Int.tdiv (PV.toI (PV.tnth v1 1)) 36524)) 3)*36524)))) 1461))*1461)))) 365)) 3)*365))))-(IntKind.wrap .i64 (Int.tdiv (IntKind.wrap .i64 ((IntKind.wrap .i64 (153*(IntKind.wrap .i64 (Int.tdiv (IntKind.wrap .i64 ((IntKind.wrap .i64 (5*(IntKind.wrap .i64 ((IntKind.wrap .i64 ((IntKind.wrap .i64 ((PV.toI (PV.tnth v1 1))-(IntKind.wrap .i64 ((minI (IntKind.wrap .i64 (Int.tdiv (PV.toI (PV.tnth v1 1)) 36524)) 3)*36524))))-(IntKind.wrap .i64 ((IntKind.wrap .i64 (Int.tdiv (IntKind.wrap .i64 ((PV.toI (PV.tnth v1 1))-(IntKind.wrap .i64 ((minI (IntKind.wrap .i64 (Int.tdiv (PV.toI (PV.tnth v1 1)) 36524)) 3)*36524)))) 1461))*1461))))-(IntKind.wrap .i64 ((minI (IntKind.wrap .i64 (Int.tdiv (IntKind.wrap .i64 ((IntKind.wrap .i64 ((PV.toI (PV.tnth v1 1))-(IntKind.wrap .i64 ((minI (IntKind.wrap .i64 (Int.tdiv (PV.toI (PV.tnth v1 1)) 36524)) 3)*36524))))-(IntKind.wrap .i64 ((IntKind.wrap .i64 (Int.tdiv (IntKind.wrap .i64 ((PV.toI (PV.tnth v1 1))-(IntKind.wrap .i64 ((minI (IntKind.wrap .i64 (Int.tdiv (PV.toI (PV.tnth v1 1)) 36524)) 3)*36524)))) 1461))*1461)))) 365)) 3)*365))))))+2)) 153))))+2)) 5))))+1)))])))) :=
 (z6 EE zug _ rfl).trans (by kernel_rfl)
theorem z1go (a0_0:Bool) (a0_1 a0_2 a0_3 a0_4 a0_5 a0_6 a0_7 a0_8 a0_9:Int) (a0_10:List UInt8) (a0_11 a0_12 a0_13 a0_14 a0_15 a0_16 a0_17:Int) (a0_18:List UInt8):z1aw a0_0 a0_1 a0_2 a0_3 a0_4 a0_5 a0_6 a0_7 a0_8 a0_9 a0_10 a0_11 a0_12 a0_13 a0_14 a0_15 a0_16 a0_17 a0_18 =
  (bif (!a0_0) then zdp else ((zsi a0_3 a0_4 a0_5 a0_6 a0_7 a0_8 a0_9 a0_10).bind fun v1=>(bif (!(PV.toB v1)) then zdp else ((zsi a0_11 a0_12 a0_13 a0_14 a0_15 a0_16 a0_17 a0_18).bind fun v2=>(bif (!(PV.toB v2)) then zdp else (bif (ltB a0_2 (-50400)) then zdp else (bif (ltB 50400 a0_2) then zdp else (z14p a0_0 a0_1 a0_2 a0_3 a0_4 a0_5 a0_6 a0_7 a0_8 a0_9 a0_10 a0_11 a0_12 a0_13 a0_14 a0_15 a0_16 a0_17 a0_18)))))))) :=
 (z6 EE zhm _ rfl).trans (by kernel_rfl)
theorem z16u  : zdp  =
  (some (PV.bool false)) :=
 (z7 EE _ _).trans (by kernel_rfl)
theorem z16t (x0:Bool) (x1 x2 x3 x4 x5 x6 x7 x8 x9:Int) (xA:List UInt8) (xB xC xD xE xF xG xH:Int) (xI:List UInt8):z14p x0 x1 x2 x3 x4 x5 x6 x7 x8 x9 xA xB xC xD xE xF xG xH xI =
  (bif (leB 2 (maxI (IntKind.wrap .i64 (x3-xB)) (IntKind.wrap .i64 (0-(IntKind.wrap .i64 (x3-xB)))))) then (some (PV.bool (leB (maxI (IntKind.wrap .i64 (x3-xB)) (IntKind.wrap .i64 (0-(IntKind.wrap .i64 (x3-xB))))) 10))) else (some (PV.bool false))) :=
 (z7 EE _ _).trans (by kernel_rfl)
theorem z1au (a0_0:Bool) (a0_1 a0_2 a0_3 a0_4 a0_5 a0_6 a0_7 a0_8 a0_9:Int) (a0_10:List UInt8) (a0_11 a0_12 a0_13 a0_14 a0_15 a0_16 a0_17:Int) (a0_18:List UInt8) (a1:Int) (a2:Bool):zsh a0_0 a0_1 a0_2 a0_3 a0_4 a0_5 a0_6 a0_7 a0_8 a0_9 a0_10 a0_11 a0_12 a0_13 a0_14 a0_15 a0_16 a0_17 a0_18 a1 a2 =
  (bif (ltB a0_3 a0_11) then (bif (!(ltB a0_3 a0_11)) then none else (zbs a1 a2 a0_0 a0_1 a0_2 a0_3 a0_4 a0_5 a0_6 a0_7 a0_8 a0_9 a0_10 a0_11 a0_12 a0_13 a0_14 a0_15 a0_16 a0_17 a0_18 0 0 false [] a0_11 a0_12 a0_13 a0_14 a0_15 a0_16 a0_17 a0_18 a0_3 a0_4 a0_5 a0_6 a0_7 a0_8 a0_9 a0_10)) else (bif (!(ltB a0_3 a0_11)) then (zbs a1 a2 a0_0 a0_1 a0_2 a0_3 a0_4 a0_5 a0_6 a0_7 a0_8 a0_9 a0_10 a0_11 a0_12 a0_13 a0_14 a0_15 a0_16 a0_17 a0_18 0 0 false [] a0_3 a0_4 a0_5 a0_6 a0_7 a0_8 a0_9 a0_10 a0_11 a0_12 a0_13 a0_14 a0_15 a0_16 a0_17 a0_18) else none)) :=
 (z6 EE zgx _ rfl).trans (by kernel_rfl)
theorem zms (x0:Int) (x1:Bool) (x2:Bool) (x3 x4 x5 x6 x7 x8 x9 xA xB:Int) (xC:List UInt8) (xD xE xF xG xH xI xJ:Int) (xK:List UInt8) (xL xM:Int) (xN:Bool) (xO:List UInt8) (xP xQ xR xS xT xU xV:Int) (xW:List UInt8) (xX xY xZ x36 x37 x38 x39:Int) (x40:List UInt8):zbs x0 x1 x2 x3 x4 x5 x6 x7 x8 x9 xA xB xC xD xE xF xG xH xI xJ xK xL xM xN xO xP xQ xR xS xT xU xV xW xX xY xZ x36 x37 x38 x39 x40 =
  (bif x1 then ((z129 x0 xX xY xZ x36).bind fun v1=>(bif (!x1) then ((zax (PV.toI (PV.tnth v1 0)) x37 x38 x4 x39).bind fun v2=>(some (PV.agg [(PV.int .i64 (PV.toI v2)),(PV.int .i64 (IntKind.wrap .i64 (x4+x39))),(PV.bool (!(eqB x39 0))),(PV.str x40)]))) else ((zax (PV.toI (PV.tnth v1 0)) x37 x38 x4 xV).bind fun v3=>(some (PV.agg [(PV.int .i64 (PV.toI v3)),(PV.int .i64 (IntKind.wrap .i64 (x4+x39))),(PV.bool (!(eqB x39 0))),(PV.str x40)]))))) else ((z129 x0 xP xQ xR xS).bind fun v4=>(bif (!x1) then ((zax (PV.toI (PV.tnth v4 0)) xT xU x4 x39).bind fun v5=>(some (PV.agg [(PV.int .i64 (PV.toI v5)),(PV.int .i64 (IntKind.wrap .i64 (x4+xV))),(PV.bool (!(eqB xV 0))),(PV.str xW)]))) else ((zax (PV.toI (PV.tnth v4 0)) xT xU x4 xV).bind fun v6=>(some (PV.agg [(PV.int .i64 (PV.toI v6)),(PV.int .i64 (IntKind.wrap .i64 (x4+xV))),(PV.bool (!(eqB xV 0))),(PV.str xW)])))))) :=
 (z7 EE _ _).trans (by kernel_rfl)
theorem z16r (a0 a1:Int):zvj a0 a1 =
  ((zxd a0).bind fun v1=>((zxd a1).bind fun v2=>((zst (PV.toI v1) (PV.toI v2)).bind fun v3=>(some (PV.agg [(PV.int .u64 (PV.toI (PV.tnth v3 0))),(PV.int .u64 (PV.toI (PV.tnth v3 1)))]))))) :=
 (z6 EE zud _ rfl).trans (by kernel_rfl)
theorem z1ga (a0:Int):zxd a0 =
  (bif (ltB a0 0) then (some (PV.int .u64 (IntKind.wrap .u64 (0-(IntKind.wrap .u64 a0))))) else (some (PV.int .u64 (IntKind.wrap .u64 a0)))) :=
 (z6 EE z14w _ rfl).trans (by kernel_rfl)
theorem z1bi (a0 a1 a2:Int):z18l a0 a1 a2 =
  (bif (eqB a2 0) then none else (zym a0 a1 a2)) :=
 (z6 EE z8p _ rfl).trans (by kernel_rfl)
theorem z126 (x0 x1 x2:Int):zym x0 x1 x2 =
  (bif (leB x2 x0) then none else (zyl x0 x1 x2)) :=
 (z7 EE _ _).trans (by kernel_rfl)
theorem z125 (x0 x1 x2:Int):zyl x0 x1 x2 =
  (bif (eqB x0 0) then (bif (eqB x2 0) then none else (bif (eqB x2 0) then none else (some (PV.tuple [(PV.int .u64 (IntKind.wrap .u64 (Int.tdiv x1 x2))),(PV.int .u64 (Int.tmod x1 x2))])))) else ((zw4 x2).bind fun v1=>(bif (ltB (IntKind.wrap .u64 (PV.toI v1)) 0) then none else (bif (ltB (IntKind.wrap .u64 (PV.toI v1)) 0) then none else (bif (ltB (IntKind.wrap .u64 (64-(IntKind.wrap .u64 (PV.toI v1)))) 0) then none else (bif (ltB (IntKind.wrap .u64 (PV.toI v1)) 0) then none else (bif (eqB (shrI IntKind.u64 (shlI IntKind.u64 x2 (IntKind.wrap .u64 (PV.toI v1))) 32) 0) then none else (z171 (shlI IntKind.u64 x2 (IntKind.wrap .u64 (PV.toI v1))) (IntKind.wrap .u64 (PV.toI v1)) (shrI IntKind.u64 (shlI IntKind.u64 x2 (IntKind.wrap .u64 (PV.toI v1))) 32) (andI IntKind.u64 (shlI IntKind.u64 x2 (IntKind.wrap .u64 (PV.toI v1))) 4294967295) (orI IntKind.u64 (shlI IntKind.u64 x0 (IntKind.wrap .u64 (PV.toI v1))) (shrI IntKind.u64 x1 (IntKind.wrap .u64 (64-(IntKind.wrap .u64 (PV.toI v1)))))) (shrI IntKind.u64 (shlI IntKind.u64 x1 (IntKind.wrap .u64 (PV.toI v1))) 32) (andI IntKind.u64 (shlI IntKind.u64 x1 (IntKind.wrap .u64 (PV.toI v1))) 4294967295) (IntKind.wrap .u64 (Int.tdiv (orI IntKind.u64 (shlI IntKind.u64 x0 (IntKind.wrap .u64 (PV.toI v1))) (shrI IntKind.u64 x1 (IntKind.wrap .u64 (64-(IntKind.wrap .u64 (PV.toI v1)))))) (shrI IntKind.u64 (shlI IntKind.u64 x2 (IntKind.wrap .u64 (PV.toI v1))) 32))) (IntKind.wrap .u64 ((orI IntKind.u64 (shlI IntKind.u64 x0 (IntKind.wrap .u64 (PV.toI v1))) (shrI IntKind.u64 x1 (IntKind.wrap .u64 (64-(IntKind.wrap .u64 (PV.toI v1))))))-(IntKind.wrap .u64 ((IntKind.wrap .u64 (Int.tdiv (orI IntKind.u64 (shlI IntKind.u64 x0 (IntKind.wrap .u64 (PV.toI v1))) (shrI IntKind.u64 x1 (IntKind.wrap .u64 (64-(IntKind.wrap .u64 (PV.toI v1)))))) (shrI IntKind.u64 (shlI IntKind.u64 x2 (IntKind.wrap .u64 (PV.toI v1))) 32)))*(shrI IntKind.u64 (shlI IntKind.u64 x2 (IntKind.wrap .u64 (PV.toI v1))) 32))))))))))))) :=
 (z7 EE _ _).trans (by kernel_rfl)
theorem z1a8 (a0:Bool) (a1_0 a1_1:Int):zk7 a0 a1_0 a1_1 =
  (bif (!(eqB a1_0 0)) then (some (PV.tuple [(PV.int .i64 0),(PV.int .i64 10)])) else (bif a0 then (bif (leB a1_1 9223372036854775808) then (some (PV.tuple [(PV.int .i64 (IntKind.wrap .i64 (IntKind.wrap .u64 (0-a1_1)))),(PV.int .i64 0)])) else (zlo a0 [(PV.int .u64 a1_0),(PV.int .u64 a1_1)] 2)) else (zlo a0 [(PV.int .u64 a1_0),(PV.int .u64 a1_1)] 2))) :=
 (z6 EE zgw _ rfl).trans (by kernel_rfl)
theorem z11z (x0:Bool) (x1:List PV) (x2:Nat):zlo x0 x1 x2 =
  (bif x0 then (some (PV.tuple [(PV.int .i64 0),(PV.int .i64 10)])) else ((rdT (tiInt IntKind.u64) x1 1 0).bind fun v1=>(bif (ltB 9223372036854775807 (PV.toI v1)) then (some (PV.tuple [(PV.int .i64 0),(PV.int .i64 10)])) else ((rdT (tiInt IntKind.u64) x1 1 0).bind fun v2=>(some (PV.tuple [(PV.int .i64 (IntKind.wrap .i64 (PV.toI v2))),(PV.int .i64 0)])))))) :=
 (z7 EE _ _).trans (by kernel_rfl)
theorem z1bh (a0 a1:Int):zst a0 a1 =
  (some (PV.tuple [(PV.int .u64 (IntKind.wrap .u64 ((IntKind.wrap .u64 ((IntKind.wrap .u64 ((shrI IntKind.u64 a0 32)*(shrI IntKind.u64 a1 32)))+(shrI IntKind.u64 (IntKind.wrap .u64 ((IntKind.wrap .u64 ((shrI IntKind.u64 a0 32)*(andI IntKind.u64 a1 4294967295)))+(shrI IntKind.u64 (IntKind.wrap .u64 ((andI IntKind.u64 a0 4294967295)*(andI IntKind.u64 a1 4294967295))) 32))) 32)))+(shrI IntKind.u64 (IntKind.wrap .u64 ((andI IntKind.u64 (IntKind.wrap .u64 ((IntKind.wrap .u64 ((shrI IntKind.u64 a0 32)*(andI IntKind.u64 a1 4294967295)))+(shrI IntKind.u64 (IntKind.wrap .u64 ((andI IntKind.u64 a0 4294967295)*(andI IntKind.u64 a1 4294967295))) 32))) 4294967295)+(IntKind.wrap .u64 ((andI IntKind.u64 a0 4294967295)*(shrI IntKind.u64 a1 32))))) 32)))),(PV.int .u64 (IntKind.wrap .u64 (a0*a1)))])) :=
 (z6 EE zy5 _ rfl).trans (by kernel_rfl)
theorem z1o (a0:List UInt8) (a1:List UInt8):z7y a0 a1 =
  (bif (leB (((List.length a1):Nat):Int) (((List.length a0):Nat):Int)) then ((takeS a0 (((List.length a1):Nat):Int)).bind fun v1=>(some (PV.bool (eqS v1 a1)))) else (some (PV.bool false))) :=
 (z6 EE zat _ rfl).trans (by kernel_rfl)
theorem zmd (a0:List PV) (a1:List PV):z9c a0 a1 =
  (z1d a0 a1 191 [(PV.int .u64 0),(PV.int .u64 0),(PV.int .u64 0),(PV.int .u64 0),(PV.int .u64 0),(PV.int .u64 0)] 6 [(PV.int .u64 0),(PV.int .u64 0),(PV.int .u64 0),(PV.int .u64 0),(PV.int .u64 0),(PV.int .u64 0)] 6) :=
 (z6 EE z1z _ rfl).trans (by kernel_rfl)
theorem z94 (x0:List PV) (x1:List PV) (x2:Int) (x3:List PV) (x4:Nat) (x5:List PV) (x6:Nat):z1d x0 x1 x2 x3 x4 x5 x6 =
  (bif (leB 0 x2) then (bif (inB 0 0 (((List.length x5):Nat):Int)) then ((rdT (tiInt IntKind.u64) x5 0 0).bind fun v1=>(bif (inB 0 0 (((List.length x5):Nat):Int)) then ((rdT (tiInt IntKind.u64) x5 0 0).bind fun v2=>(bif (inB 0 (IntKind.wrap .i64 (0+1)) (((List.length x5):Nat):Int)) then ((rdT (tiInt IntKind.u64) x5 1 0).bind fun v3=>(bif (inB 0 (IntKind.wrap .i64 (0+1)) (((List.length x5):Nat):Int)) then ((rdT (tiInt IntKind.u64) x5 1 0).bind fun v4=>(bif (inB 0 (IntKind.wrap .i64 ((IntKind.wrap .i64 (0+1))+1)) (((List.length x5):Nat):Int)) then ((rdT (tiInt IntKind.u64) x5 2 0).bind fun v5=>(bif (inB 0 (IntKind.wrap .i64 ((IntKind.wrap .i64 (0+1))+1)) (((List.length x5):Nat):Int)) then ((rdT (tiInt IntKind.u64) x5 2 0).bind fun v6=>(bif (inB 0 (IntKind.wrap .i64 ((IntKind.wrap .i64 ((IntKind.wrap .i64 (0+1))+1))+1)) (((List.length x5):Nat):Int)) then ((rdT (tiInt IntKind.u64) x5 3 0).bind fun v7=>(bif (inB 0 (IntKind.wrap .i64 ((IntKind.wrap .i64 ((IntKind.wrap .i64 (0+1))+1))+1)) (((List.length x5):Nat):Int)) then ((rdT (tiInt IntKind.u64) x5 3 0).bind fun v8=>(bif (inB 0 (IntKind.wrap .i64 ((IntKind.wrap .i64 ((IntKind.wrap .i64 ((IntKind.wrap .i64 (0+1))+1))+1))+1)) (((List.length x5):Nat):Int)) then ((rdT (tiInt IntKind.u64) x5 4 0).bind fun v9=>(bif (inB 0 (IntKind.wrap .i64 ((IntKind.wrap .i64 ((IntKind.wrap .i64 ((IntKind.wrap .i64 (0+1))+1))+1))+1)) (((List.length x5):Nat):Int)) then ((rdT (tiInt IntKind.u64) x5 4 0).bind fun v10=>(bif (inB 0 (IntKind.wrap .i64 ((IntKind.wrap .i64 ((IntKind.wrap .i64 ((IntKind.wrap .i64 ((IntKind.wrap .i64 (0+1))+1))+1))+1))+1)) (((List.length x5):Nat):Int)) then ((rdT (tiInt IntKind.u64) x5 5 0).bind fun v11=>(bif (inB 0 (IntKind.wrap .i64 ((IntKind.wrap .i64 ((IntKind.wrap .i64 ((IntKind.wrap .i64 ((IntKind.wrap .i64 (0+1))+1))+1))+1))+1)) (((List.length x5):Nat):Int)) then ((rdT (tiInt IntKind.u64) x5 5 0).bind fun v12=>(z12 x0 x1 x2 x3 x4 [(PV.int .u64 (andI IntKind.u64 (IntKind.wrap .u64 ((IntKind.wrap .u64 (0+(PV.toI v1)))+(PV.toI v2))) 4294967295)),(PV.int .u64 (andI IntKind.u64 (IntKind.wrap .u64 ((IntKind.wrap .u64 ((shrI IntKind.u64 (IntKind.wrap .u64 ((IntKind.wrap .u64 (0+(PV.toI v1)))+(PV.toI v2))) 32)+(PV.toI v3)))+(PV.toI v4))) 4294967295)),(PV.int .u64 (andI IntKind.u64 (IntKind.wrap .u64 ((IntKind.wrap .u64 ((shrI IntKind.u64 (IntKind.wrap .u64 ((IntKind.wrap .u64 ((shrI IntKind.u64 (IntKind.wrap .u64 ((IntKind.wrap .u64 (0+(PV.toI v1)))+(PV.toI v2))) 32)+(PV.toI v3)))+(PV.toI v4))) 32)+(PV.toI v5)))+(PV.toI v6))) 4294967295)),(PV.int .u64 (andI IntKind.u64 (IntKind.wrap .u64 ((IntKind.wrap .u64 ((shrI IntKind.u64 (IntKind.wrap .u64 ((IntKind.wrap .u64 ((shrI IntKind.u64 (IntKind.wrap .u64 ((IntKind.wrap .u64 ((shrI IntKind.u64 (IntKind.wrap .u64 ((IntKind.wrap .u64 (0+(PV.toI v1)))+(PV.toI v2))) 32)+(PV.toI v3)))+(PV.toI v4))) 32)+(PV.toI v5)))+(PV.toI v6))) 32)+(PV.toI v7)))+(PV.toI v8))) 4294967295)),(PV.int .u64 (andI IntKind.u64 (IntKind.wrap .u64 ((IntKind.wrap .u64 ((shrI IntKind.u64 (IntKind.wrap .u64 ((IntKind.wrap .u64 ((shrI IntKind.u64 (IntKind.wrap .u64 ((IntKind.wrap .u64 ((shrI IntKind.u64 (IntKind.wrap .u64 ((IntKind.wrap .u64 ((shrI IntKind.u64 (IntKind.wrap .u64 ((IntKind.wrap .u64 (0+(PV.toI v1)))+(PV.toI v2))) 32)+(PV.toI v3)))+(PV.toI v4))) 32)+(PV.toI v5)))+(PV.toI v6))) 32)+(PV.toI v7)))+(PV.toI v8))) 32)+(PV.toI v9)))+(PV.toI v10))) 4294967295)),(PV.int .u64 (andI IntKind.u64 (IntKind.wrap .u64 ((IntKind.wrap .u64 ((shrI IntKind.u64 (IntKind.wrap .u64 ((IntKind.wrap .u64 ((shrI IntKind.u64 (IntKind.wrap .u64 ((IntKind.wrap .u64 ((shrI IntKind.u64 (IntKind.wrap .u64 ((IntKind.wrap .u64 ((shrI IntKind.u64 (IntKind.wrap .u64 ((IntKind.wrap .u64 ((shrI IntKind.u64 (IntKind.wrap .u64 ((IntKind.wrap .u64 (0+(PV.toI v1)))+(PV.toI v2))) 32)+(PV.toI v3)))+(PV.toI v4))) 32)+(PV.toI v5)))+(PV.toI v6))) 32)+(PV.toI v7)))+(PV.toI v8))) 32)+(PV.toI v9)))+(PV.toI v10))) 32)+(PV.toI v11)))+(PV.toI v12))) 4294967295))] 6)) else none)) else none)) else none)) else none)) else none)) else none)) else none)) else none)) else none)) else none)) else none)) else none) else (some (PV.tuple [(PV.sl 1 x3),(PV.sl 1 x5)]))) :=
 (z7 EE _ _).trans (by kernel_rfl)
theorem zib (x0:List PV) (x1:List PV) (x2:Int) (x3:List PV) (x4:Nat) (x5:List PV) (x6:Nat):z12 x0 x1 x2 x3 x4 x5 x6 =
  (bif (inB 0 0 (((List.length x5):Nat):Int)) then ((rdT (tiInt IntKind.u64) x5 0 0).bind fun v1=>((rdI (tiInt IntKind.u64) x0 (IntKind.wrap .i64 (Int.tdiv x2 32))).bind fun v2=>(bif (ltB (IntKind.wrap .u64 (Int.tmod x2 32)) 0) then none else (bif (inB 0 0 (((List.length x5):Nat):Int)) then ((stC x5 0 0 [(PV.int .u64 (orI IntKind.u64 (PV.toI v1) (andI IntKind.u64 (shrI IntKind.u64 (PV.toI v2) (IntKind.wrap .u64 (Int.tmod x2 32))) 1)))]).bind fun v3=>((z4i v3 x1).bind fun v4=>(bif (leB 0 (PV.toI v4)) then ((z43 v3 x1).bind fun v5=>(bif (inB 0 (IntKind.wrap .i64 (Int.tdiv x2 32)) (((List.length x3):Nat):Int)) then ((rdT (tiInt IntKind.u64) x3 (Int.toNat (IntKind.wrap .i64 (Int.tdiv x2 32))) 0).bind fun v6=>(bif (ltB (IntKind.wrap .u64 (Int.tmod x2 32)) 0) then none else (bif (inB 0 (IntKind.wrap .i64 (Int.tdiv x2 32)) (((List.length x3):Nat):Int)) then ((stC x3 (Int.toNat (IntKind.wrap .i64 (Int.tdiv x2 32))) 0 [(PV.int .u64 (orI IntKind.u64 (PV.toI v6) (shlI IntKind.u64 1 (IntKind.wrap .u64 (Int.tmod x2 32)))))]).bind fun v7=>(z1k x0 x1 (PV.toL v5) (IntKind.wrap .i64 (x2-1)) v7 x4)) else none))) else none)) else (z1d x0 x1 (IntKind.wrap .i64 (x2-1)) x3 x4 v3 x6)))) else none)))) else none) :=
 (z7 EE _ _).trans (by kernel_rfl)
theorem z7s (x0:List PV) (x1:List PV) (x2:List PV) (x3:Int) (x4:List PV) (x5:Nat):z1k x0 x1 x2 x3 x4 x5 =
  (bif (leB 0 x3) then ((rdI (tiInt IntKind.u64) x2 0).bind fun v1=>((rdI (tiInt IntKind.u64) x2 0).bind fun v2=>((rdI (tiInt IntKind.u64) x2 (IntKind.wrap .i64 (0+1))).bind fun v3=>((rdI (tiInt IntKind.u64) x2 (IntKind.wrap .i64 (0+1))).bind fun v4=>((rdI (tiInt IntKind.u64) x2 (IntKind.wrap .i64 ((IntKind.wrap .i64 (0+1))+1))).bind fun v5=>((rdI (tiInt IntKind.u64) x2 (IntKind.wrap .i64 ((IntKind.wrap .i64 (0+1))+1))).bind fun v6=>((rdI (tiInt IntKind.u64) x2 (IntKind.wrap .i64 ((IntKind.wrap .i64 ((IntKind.wrap .i64 (0+1))+1))+1))).bind fun v7=>((rdI (tiInt IntKind.u64) x2 (IntKind.wrap .i64 ((IntKind.wrap .i64 ((IntKind.wrap .i64 (0+1))+1))+1))).bind fun v8=>((rdI (tiInt IntKind.u64) x2 (IntKind.wrap .i64 ((IntKind.wrap .i64 ((IntKind.wrap .i64 ((IntKind.wrap .i64 (0+1))+1))+1))+1))).bind fun v9=>((rdI (tiInt IntKind.u64) x2 (IntKind.wrap .i64 ((IntKind.wrap .i64 ((IntKind.wrap .i64 ((IntKind.wrap .i64 (0+1))+1))+1))+1))).bind fun v10=>((rdI (tiInt IntKind.u64) x2 (IntKind.wrap .i64 ((IntKind.wrap .i64 ((IntKind.wrap .i64 ((IntKind.wrap .i64 ((IntKind.wrap .i64 (0+1))+1))+1))+1))+1))).bind fun v11=>((rdI (tiInt IntKind.u64) x2 (IntKind.wrap .i64 ((IntKind.wrap .i64 ((IntKind.wrap .i64 ((IntKind.wrap .i64 ((IntKind.wrap .i64 (0+1))+1))+1))+1))+1))).bind fun v12=>(z12 x0 x1 x3 x4 x5 [(PV.int .u64 (andI IntKind.u64 (IntKind.wrap .u64 ((IntKind.wrap .u64 (0+(PV.toI v1)))+(PV.toI v2))) 4294967295)),(PV.int .u64 (andI IntKind.u64 (IntKind.wrap .u64 ((IntKind.wrap .u64 ((shrI IntKind.u64 (IntKind.wrap .u64 ((IntKind.wrap .u64 (0+(PV.toI v1)))+(PV.toI v2))) 32)+(PV.toI v3)))+(PV.toI v4))) 4294967295)),(PV.int .u64 (andI IntKind.u64 (IntKind.wrap .u64 ((IntKind.wrap .u64 ((shrI IntKind.u64 (IntKind.wrap .u64 ((IntKind.wrap .u64 ((shrI IntKind.u64 (IntKind.wrap .u64 ((IntKind.wrap .u64 (0+(PV.toI v1)))+(PV.toI v2))) 32)+(PV.toI v3)))+(PV.toI v4))) 32)+(PV.toI v5)))+(PV.toI v6))) 4294967295)),(PV.int .u64 (andI IntKind.u64 (IntKind.wrap .u64 ((IntKind.wrap .u64 ((shrI IntKind.u64 (IntKind.wrap .u64 ((IntKind.wrap .u64 ((shrI IntKind.u64 (IntKind.wrap .u64 ((IntKind.wrap .u64 ((shrI IntKind.u64 (IntKind.wrap .u64 ((IntKind.wrap .u64 (0+(PV.toI v1)))+(PV.toI v2))) 32)+(PV.toI v3)))+(PV.toI v4))) 32)+(PV.toI v5)))+(PV.toI v6))) 32)+(PV.toI v7)))+(PV.toI v8))) 4294967295)),(PV.int .u64 (andI IntKind.u64 (IntKind.wrap .u64 ((IntKind.wrap .u64 ((shrI IntKind.u64 (IntKind.wrap .u64 ((IntKind.wrap .u64 ((shrI IntKind.u64 (IntKind.wrap .u64 ((IntKind.wrap .u64 ((shrI IntKind.u64 (IntKind.wrap .u64 ((IntKind.wrap .u64 ((shrI IntKind.u64 (IntKind.wrap .u64 ((IntKind.wrap .u64 (0+(PV.toI v1)))+(PV.toI v2))) 32)+(PV.toI v3)))+(PV.toI v4))) 32)+(PV.toI v5)))+(PV.toI v6))) 32)+(PV.toI v7)))+(PV.toI v8))) 32)+(PV.toI v9)))+(PV.toI v10))) 4294967295)),(PV.int .u64 (andI IntKind.u64 (IntKind.wrap .u64 ((IntKind.wrap .u64 ((shrI IntKind.u64 (IntKind.wrap .u64 ((IntKind.wrap .u64 ((shrI IntKind.u64 (IntKind.wrap .u64 ((IntKind.wrap .u64 ((shrI IntKind.u64 (IntKind.wrap .u64 ((IntKind.wrap .u64 ((shrI IntKind.u64 (IntKind.wrap .u64 ((IntKind.wrap .u64 ((shrI IntKind.u64 (IntKind.wrap .u64 ((IntKind.wrap .u64 (0+(PV.toI v1)))+(PV.toI v2))) 32)+(PV.toI v3)))+(PV.toI v4))) 32)+(PV.toI v5)))+(PV.toI v6))) 32)+(PV.toI v7)))+(PV.toI v8))) 32)+(PV.toI v9)))+(PV.toI v10))) 32)+(PV.toI v11)))+(PV.toI v12))) 4294967295))] 6))))))))))))) else (some (PV.tuple [(PV.sl 1 x4),(PV.sl 1 x2)]))) :=
 (z7 EE _ _).trans (by kernel_rfl)
theorem zpt (a0:List PV):z1m a0 =
  ((z4i a0 [(PV.int .u64 0),(PV.int .u64 0),(PV.int .u64 0),(PV.int .u64 0),(PV.int .u64 0),(PV.int .u64 0)]).bind fun v1=>(some (PV.bool (eqB (PV.toI v1) 0)))) :=
 (z6 EE zf2 _ rfl).trans (by kernel_rfl)
theorem ztg (a0:List PV) (a1:List PV):z2l a0 a1 =
  (zm a0 a1 0 0 [(PV.int .u64 0),(PV.int .u64 0),(PV.int .u64 0),(PV.int .u64 0),(PV.int .u64 0),(PV.int .u64 0)] 6) :=
 (z6 EE z65 _ rfl).trans (by kernel_rfl)
theorem z1f (x0:List PV) (x1:List PV) (x2 x3:Int) (x4:List PV) (x5:Nat):zm x0 x1 x2 x3 x4 x5 =
  (bif (ltB x3 6) then ((rdI (tiInt IntKind.u64) x0 x3).bind fun v1=>((rdI (tiInt IntKind.u64) x1 x3).bind fun v2=>(bif (inB 0 x3 (((List.length x4):Nat):Int)) then ((stC x4 (Int.toNat x3) 0 [(PV.int .u64 (andI IntKind.u64 (IntKind.wrap .u64 ((IntKind.wrap .u64 (x2+(PV.toI v1)))+(PV.toI v2))) 4294967295))]).bind fun v3=>(zm x0 x1 (shrI IntKind.u64 (IntKind.wrap .u64 ((IntKind.wrap .u64 (x2+(PV.toI v1)))+(PV.toI v2))) 32) (IntKind.wrap .i64 (x3+1)) v3 x5)) else none))) else (some (PV.sl 1 x4))) :=
 (z7 EE _ _).trans (by kernel_rfl)
theorem ztf (a0:List PV) (a1:List PV):z4i a0 a1 =
  (zf a0 a1 5) :=
 (z6 EE z64 _ rfl).trans (by kernel_rfl)
theorem z1e (x0:List PV) (x1:List PV) (x2:Int):zf x0 x1 x2 =
  (bif (leB 0 x2) then ((rdI (tiInt IntKind.u64) x0 x2).bind fun v1=>((rdI (tiInt IntKind.u64) x1 x2).bind fun v2=>(bif (ltB (PV.toI v1) (PV.toI v2)) then (some (PV.int .i64 (-1))) else ((rdI (tiInt IntKind.u64) x0 x2).bind fun v3=>((rdI (tiInt IntKind.u64) x1 x2).bind fun v4=>(bif (ltB (PV.toI v4) (PV.toI v3)) then (some (PV.int .i64 1)) else (zf x0 x1 (IntKind.wrap .i64 (x2-1))))))))) else (some (PV.int .i64 0))) :=
 (z7 EE _ _).trans (by kernel_rfl)
theorem zpu (a0:List PV) (a1:List PV):z43 a0 a1 =
  (zj a0 a1 0 0 [(PV.int .u64 0),(PV.int .u64 0),(PV.int .u64 0),(PV.int .u64 0),(PV.int .u64 0),(PV.int .u64 0)] 6) :=
 (z6 EE z5i _ rfl).trans (by kernel_rfl)
theorem z1a (x0:List PV) (x1:List PV) (x2 x3:Int) (x4:List PV) (x5:Nat):zj x0 x1 x2 x3 x4 x5 =
  (bif (ltB x3 6) then ((rdI (tiInt IntKind.u64) x0 x3).bind fun v1=>((rdI (tiInt IntKind.u64) x1 x3).bind fun v2=>(bif (inB 0 x3 (((List.length x4):Nat):Int)) then ((stC x4 (Int.toNat x3) 0 [(PV.int .u64 (andI IntKind.u64 (IntKind.wrap .u64 ((IntKind.wrap .u64 ((IntKind.wrap .u64 ((PV.toI v1)+4294967296))-(PV.toI v2)))-x2)) 4294967295))]).bind fun v3=>(zj x0 x1 (IntKind.wrap .u64 (1-(shrI IntKind.u64 (IntKind.wrap .u64 ((IntKind.wrap .u64 ((IntKind.wrap .u64 ((PV.toI v1)+4294967296))-(PV.toI v2)))-x2)) 32))) (IntKind.wrap .i64 (x3+1)) v3 x5)) else none))) else (some (PV.sl 1 x4))) :=
 (z7 EE _ _).trans (by kernel_rfl)
theorem zpq  : zj5  =
  ((z6i 294282 12 31).bind fun v1=>(some (PV.int .i64 (PV.toI v1)))) :=
 (z6 EE zf0 _ rfl).trans (by kernel_rfl)
theorem znn (a0:Int):zag a0 =
  ((z8u (IntKind.wrap .i64 (a0-2000)) 400).bind fun v1=>(z3b a0 (IntKind.wrap .i64 ((PV.toI v1)*146097)) 0)) :=
 (z6 EE z4v _ rfl).trans (by kernel_rfl)
theorem z9t (x0 x1 x2:Int):z3b x0 x1 x2 =
  ((z20 (IntKind.wrap .i64 (x0-2000)) 400).bind fun v1=>(bif (ltB x2 (PV.toI v1)) then ((z5r (IntKind.wrap .i64 (2000+x2))).bind fun v2=>(bif (PV.toB v2) then (z3b x0 (IntKind.wrap .i64 ((IntKind.wrap .i64 (x1+365))+1)) (IntKind.wrap .i64 (x2+1))) else (z3b x0 (IntKind.wrap .i64 (x1+365)) (IntKind.wrap .i64 (x2+1))))) else (some (PV.int .i64 x1)))) :=
 (z7 EE _ _).trans (by kernel_rfl)
theorem znk (a0_0 a0_1 a0_2 a0_3 a0_4 a0_5 a0_6:Int) (a0_7:List UInt8):z6y a0_0 a0_1 a0_2 a0_3 a0_4 a0_5 a0_6 a0_7 =
  (bif (leB 1 a0_0) then (bif (leB a0_0 12) then ((z5o a0_1 a0_2 a0_3).bind fun v1=>(bif (PV.toB v1) then ((z8h a0_4 a0_5).bind fun v2=>(bif (PV.toB v2) then (bif (leB 0 a0_6) then (some (PV.bool (leB a0_6 7200))) else (some (PV.bool false))) else (some (PV.bool false)))) else (some (PV.bool false)))) else (some (PV.bool false))) else (some (PV.bool false))) :=
 (z6 EE zcx _ rfl).trans (by kernel_rfl)
theorem znj (a0_0 a0_1 a0_2 a0_3 a0_4 a0_5 a0_6:Int) (a0_7:List UInt8) (a1_0 a1_1 a1_2 a1_3 a1_4 a1_5 a1_6:Int) (a1_7:List UInt8) (a2 a3:Int):z6x a0_0 a0_1 a0_2 a0_3 a0_4 a0_5 a0_6 a0_7 a1_0 a1_1 a1_2 a1_3 a1_4 a1_5 a1_6 a1_7 a2 a3 =
  ((zdu a3 a0_0 a0_1 a0_2 a0_3).bind fun v1=>((z8f (PV.toI (PV.tnth v1 0)) a0_4 a0_5 a2 a1_6).bind fun v2=>(some (PV.agg [(PV.int .i64 (PV.toI v2)),(PV.int .i64 (IntKind.wrap .i64 (a2+a0_6))),(PV.bool (!(eqB a0_6 0))),(PV.str a0_7)])))) :=
 (z6 EE zcw _ rfl).trans (by kernel_rfl)
theorem zt0 (a0:List UInt8) (a1:List UInt8):zdk a0 a1 =
  (bif (eqB (((List.length a1):Nat):Int) 0) then zg2 else (bif (eqS a1 a0) then zg2 else (zg1 a0 a1 (((List.length a1):Nat):Int)))) :=
 (z6 EE z46 _ rfl).trans (by kernel_rfl)
theorem zlf (x0:List UInt8) (x1:List UInt8) (x2:Int):zg1 x0 x1 x2 =
  (bif (eqB x2 1) then ((atS x1 0).bind fun v1=>((z7x x0 v1).bind fun v2=>(some (PV.int .i64 (PV.toI v2))))) else (bif (leB (((List.length x0):Nat):Int) x2) then (some (PV.int .i64 (-1))) else none)) :=
 (z7 EE _ _).trans (by kernel_rfl)
theorem z5u (a0:List UInt8) (a1:List UInt8):zco a0 a1 =
  ((z7y a0 a1).bind fun v1=>(bif (PV.toB v1) then ((dropS a0 (((List.length a1):Nat):Int)).bind fun v2=>(some (PV.str v2))) else (some (PV.str a0)))) :=
 (z6 EE z9o _ rfl).trans (by kernel_rfl)
theorem zed (a0 a1:Int):zi1 a0 a1 =
  (bif (eqB a1 0) then none else (bif (eqB a1 0) then none else (bif (ltB (Int.tmod a0 a1) 0) then (some (PV.tuple [(PV.int .i64 (IntKind.wrap .i64 ((IntKind.wrap .i64 (Int.tdiv a0 a1))-1))),(PV.int .i64 (IntKind.wrap .i64 ((Int.tmod a0 a1)+a1)))])) else (some (PV.tuple [(PV.int .i64 (IntKind.wrap .i64 (Int.tdiv a0 a1))),(PV.int .i64 (Int.tmod a0 a1))]))))) :=
 (z6 EE zuh _ rfl).trans (by kernel_rfl)
theorem z1av (a0_0 a0_1 a0_2 a0_3 a0_4 a0_5 a0_6:Int) (a0_7:List UInt8):zsi a0_0 a0_1 a0_2 a0_3 a0_4 a0_5 a0_6 a0_7 =
  ((zuq a0_1 a0_2 a0_3).bind fun v1=>((zur a0_4 a0_5).bind fun v2=>(bif (leB 1 a0_0) then (bif (leB a0_0 12) then (bif (eqB (PV.toI (PV.tnth v1 1)) 0) then (bif (eqB (PV.toI (PV.tnth v2 1)) 0) then (bif (leB 0 a0_6) then (some (PV.bool (leB a0_6 7200))) else (some (PV.bool false))) else (some (PV.bool false))) else (some (PV.bool false))) else (some (PV.bool false))) else (some (PV.bool false))))) :=
 (z6 EE zxu _ rfl).trans (by kernel_rfl)
theorem z1f7 (a0 a1 a2_0 a2_1 a2_2:Int):z129 a0 a1 a2_0 a2_1 a2_2 =
  ((zid a2_0 a2_1 a2_2).bind fun v1=>((PV.nilOf (TD.iface true) (PV.opq v1 0)).bind fun v2=>(bif v2 then zlb else (bif (ltB a1 1) then zlb else (bif (ltB 12 a1) then zlb else (z134 a0 a1 v1)))))) :=
 (z6 EE za7 _ rfl).trans (by kernel_rfl)
theorem z165  : zlb  =
  (some (PV.tuple [(PV.int .i64 0),(PV.int .i64 1)])) :=
 (z7 EE _ _).trans (by kernel_rfl)
theorem z164 (x0 x1:Int) (x2:PV):z134 x0 x1 x2 =
  (bif (leB x0 (-4718)) then zus else (bif (leB 294282 x0) then zus else (zh8 x0 x1 x2))) :=
 (z7 EE _ _).trans (by kernel_rfl)
theorem z163  : zus  =
  (some (PV.tuple [(PV.int .i64 0),(PV.int .i64 10)])) :=
 (z7 EE _ _).trans (by kernel_rfl)
theorem zja (x0 x1:Int) (x2:PV):zh8 x0 x1 x2 =
  ((ze0 x0 x1 1).bind fun v1=>((asT (tiInt IntKind.i64) zba x2).bind fun v2=>(z52 v2 ((asT (tiInt IntKind.i64) zbb x2).bind fun v3=>(z52 v3 ((asT (EE.ti z58) z58 x2).bind fun v4=>(v4.bind fun v5=>((zun (IntKind.wrap .i64 ((IntKind.wrap .i64 ((PV.toI (PV.tnth v1 0))+(PV.toI (PV.nth v5 1))))-1)) (PV.toI (PV.nth v5 0)) (PV.toI (PV.nth v5 2))).bind fun v6=>(some (PV.tuple [(PV.int .i64 (PV.toI v6)),(PV.int .i64 0)]))))) fun v7=>((zl2 x0 x1).bind fun v8=>((zun (IntKind.wrap .i64 ((IntKind.wrap .i64 ((PV.toI (PV.tnth v1 0))+(PV.toI v8)))-1)) (PV.toI v7) (-1)).bind fun v9=>(some (PV.tuple [(PV.int .i64 (PV.toI v9)),(PV.int .i64 0)])))))) fun v10=>(some (PV.tuple [(PV.int .i64 (IntKind.wrap .i64 ((IntKind.wrap .i64 ((PV.toI (PV.tnth v1 0))+(PV.toI v10)))-1))),(PV.int .i64 0)]))))) :=
 (z7 EE _ _).trans (by kernel_rfl)
theorem z151 (a0 a1 a2 a3 a4:Int):zax a0 a1 a2 a3 a4 =
  (bif (eqB a2 117) then (some (PV.int .i64 (IntKind.wrap .i64 ((IntKind.wrap .i64 ((IntKind.wrap .i64 ((IntKind.wrap .i64 ((IntKind.wrap .i64 (a0+10957))*86400))+a1))-0))-0)))) else (bif (eqB a2 115) then (some (PV.int .i64 (IntKind.wrap .i64 ((IntKind.wrap .i64 ((IntKind.wrap .i64 ((IntKind.wrap .i64 ((IntKind.wrap .i64 (a0+10957))*86400))+a1))-a3))-0)))) else (some (PV.int .i64 (IntKind.wrap .i64 ((IntKind.wrap .i64 ((IntKind.wrap .i64 ((IntKind.wrap .i64 ((IntKind.wrap .i64 (a0+10957))*86400))+a1))-a3))-a4)))))) :=
 (z6 EE zpa _ rfl).trans (by kernel_rfl)
theorem zkr (a0_0 a0_1 a0_2:Int):z5o a0_0 a0_1 a0_2 =
  (bif (leB 0 a0_1) then (z6g (leB a0_1 6) a0_0 a0_1 a0_2) else (z6g false a0_0 a0_1 a0_2)) :=
 (z6 EE z2g _ rfl).trans (by kernel_rfl)
theorem z8g (x0:Bool) (x1 x2 x3:Int):z6g x0 x1 x2 x3 =
  (bif (leB 1 x3) then (z6f x0 (leB x3 31) x1 x2 x3) else (z6f x0 false x1 x2 x3)) :=
 (z7 EE _ _).trans (by kernel_rfl)
theorem zht (x0:Bool) (x1:Bool) (x2 x3 x4:Int):z6f x0 x1 x2 x3 x4 =
  (bif (eqB x2 0) then (bif x1 then (some (PV.bool (eqB x3 0))) else (some (PV.bool false))) else (bif (eqB x2 1) then (bif x0 then (some (PV.bool (eqB x4 0))) else (some (PV.bool false))) else (bif (eqB x2 2) then (bif x0 then (some (PV.bool x1)) else (some (PV.bool false))) else (bif (eqB x2 3) then (bif x0 then (some (PV.bool x1)) else (some (PV.bool false))) else (some (PV.bool false)))))) :=
 (z7 EE _ _).trans (by kernel_rfl)
theorem zks (a0_0 a0_1:Int):z8h a0_0 a0_1 =
  (bif (leB 0 a0_0) then (bif (leB a0_0 86400) then (bif (eqB a0_1 119) then (some (PV.bool true)) else (bif (eqB a0_1 115) then (some (PV.bool true)) else (some (PV.bool (eqB a0_1 117))))) else (some (PV.bool false))) else (some (PV.bool false))) :=
 (z6 EE zav _ rfl).trans (by kernel_rfl)
theorem zt8 (a0 a1 a2_0 a2_1 a2_2:Int):zdu a0 a1 a2_0 a2_1 a2_2 =
  ((z5o a2_0 a2_1 a2_2).bind fun v1=>(bif (!(PV.toB v1)) then z69 else (bif (ltB a1 1) then z69 else (bif (ltB 12 a1) then z69 else (zgi a0 a1 a2_0 a2_1 a2_2))))) :=
 (z6 EE z15 _ rfl).trans (by kernel_rfl)
theorem zm8  : z69  =
  (some (PV.tuple [(PV.int .i64 0),(PV.int .i64 1)])) :=
 (z7 EE _ _).trans (by kernel_rfl)
theorem zm7 (x0 x1 x2 x3 x4:Int):zgi x0 x1 x2 x3 x4 =
  (bif (leB x0 (-4718)) then z99 else (bif (leB 294282 x0) then z99 else (zgh x0 x1 x2 x3 x4))) :=
 (z7 EE _ _).trans (by kernel_rfl)
theorem zm6  : z99  =
  (some (PV.tuple [(PV.int .i64 0),(PV.int .i64 10)])) :=
 (z7 EE _ _).trans (by kernel_rfl)
theorem zm5 (x0 x1 x2 x3 x4:Int):zgh x0 x1 x2 x3 x4 =
  ((zcd x0 x1 1).bind fun v1=>(bif (eqB x2 1) then ((z3i x0 x1).bind fun v2=>(z98 (IntKind.wrap .i64 ((IntKind.wrap .i64 ((PV.toI (PV.tnth v1 0))+(PV.toI v2)))-1)) x2 x3 x4)) else (z98 (IntKind.wrap .i64 ((IntKind.wrap .i64 ((PV.toI (PV.tnth v1 0))+x4))-1)) x2 x3 x4))) :=
 (z7 EE _ _).trans (by kernel_rfl)
theorem zm4 (x0 x1 x2 x3:Int):z98 x0 x1 x2 x3 =
  (z2j x0 0 x1 x2 x3) :=
 (z7 EE _ _).trans (by kernel_rfl)
theorem z2i (x0 x1 x2 x3 x4:Int):z2j x0 x1 x2 x3 x4 =
  (bif (ltB x1 7) then (bif (ltB 0 x2) then ((z8j x0).bind fun v1=>(bif (!(eqB (PV.toI v1) x3)) then (zfd x0 x1 x2 x3 x4) else (some (PV.tuple [(PV.int .i64 x0),(PV.int .i64 0)])))) else (some (PV.tuple [(PV.int .i64 x0),(PV.int .i64 0)]))) else (some (PV.tuple [(PV.int .i64 x0),(PV.int .i64 0)]))) :=
 (z7 EE _ _).trans (by kernel_rfl)
theorem zb4 (x0 x1 x2 x3 x4:Int):zfd x0 x1 x2 x3 x4 =
  (bif (eqB x2 2) then (z2j (IntKind.wrap .i64 (x0+1)) (IntKind.wrap .i64 (x1+1)) x2 x3 x4) else (z2j (IntKind.wrap .i64 (x0-1)) (IntKind.wrap .i64 (x1+1)) x2 x3 x4)) :=
 (z7 EE _ _).trans (by kernel_rfl)
theorem zkq (a0 a1 a2 a3 a4:Int):z8f a0 a1 a2 a3 a4 =
  (bif (eqB a2 117) then (some (PV.int .i64 (IntKind.wrap .i64 ((IntKind.wrap .i64 ((IntKind.wrap .i64 (a0+10957))*86400))+a1)))) else (bif (eqB a2 115) then (some (PV.int .i64 (IntKind.wrap .i64 ((IntKind.wrap .i64 ((IntKind.wrap .i64 ((IntKind.wrap .i64 (a0+10957))*86400))+a1))-a3)))) else (some (PV.int .i64 (IntKind.wrap .i64 ((IntKind.wrap .i64 ((IntKind.wrap .i64 ((IntKind.wrap .i64 ((IntKind.wrap .i64 (a0+10957))*86400))+a1))-a3))-a4)))))) :=
 (z6 EE zau _ rfl).trans (by kernel_rfl)
theorem zjy (a0:List UInt8) (a1:Int):z7x a0 a1 =
  ((callW EE ([(tiInt IntKind.i64)]) (PV.func (Go.Fn.func z90) [] []) [(PV.str a0),(PV.int .u8 a1)]).bind fun v1=>(some (PV.int .i64 (PV.toI v1)))) :=
 (z6 EE zas _ rfl).trans (by kernel_rfl)
theorem z161 (a0_0 a0_1 a0_2:Int):zuq a0_0 a0_1 a0_2 =
  ((zid a0_0 a0_1 a0_2).bind fun v1=>((PV.nilOf (TD.iface true) (PV.opq v1 0)).bind fun v2=>(bif v2 then (some (PV.tuple [(PV.str []),(PV.int .i64 1)])) else (bif (inB 0 a0_1 ((7:Nat):Int)) then ((rdC tiStr [(PV.str [83,117,110]),(PV.str [77,111,110]),(PV.str [84,117,101]),(PV.str [87,101,100]),(PV.str [84,104,117]),(PV.str [70,114,105]),(PV.str [83,97,116])] (Int.toNat a0_1)).bind fun v3=>((z3d a0_2).bind fun v4=>((z2r (PV.toS v4) [48]).bind fun v5=>(bif (eqB a0_0 1) then ((catS [108,97,115,116] (PV.toS v3)).bind fun v6=>(some (PV.tuple [(PV.str v6),(PV.int .i64 0)]))) else (bif (eqB a0_0 2) then ((catS (PV.toS v3) [62,61]).bind fun v7=>((catS v7 (PV.toS v5)).bind fun v8=>(some (PV.tuple [(PV.str v8),(PV.int .i64 0)])))) else (bif (eqB a0_0 3) then ((catS (PV.toS v3) [60,61]).bind fun v9=>((catS v9 (PV.toS v5)).bind fun v10=>(some (PV.tuple [(PV.str v10),(PV.int .i64 0)])))) else (some (PV.tuple [(PV.str (PV.toS v5)),(PV.int .i64 0)])))))))) else none)))) :=
 (z6 EE zu3 _ rfl).trans (by kernel_rfl)
theorem z162 (a0_0 a0_1:Int):zur a0_0 a0_1 =
  ((zlc a0_0 a0_1).bind fun v1=>(bif (!(PV.toB v1)) then (some (PV.tuple [(PV.str []),(PV.int .i64 1)])) else ((z3d (IntKind.wrap .i64 (Int.tdiv a0_0 3600))).bind fun v2=>((catS (PV.toS v2) [58]).bind fun v3=>((z3d (Int.tmod (IntKind.wrap .i64 (Int.tdiv a0_0 60)) 60)).bind fun v4=>((catS v3 (PV.toS v4)).bind fun v5=>((atS v5 0).bind fun v6=>(bif (eqB v6 48) then ((dropS v5 1).bind fun v7=>(ze5 v7 a0_0 a0_1)) else (ze5 v5 a0_0 a0_1))))))))) :=
 (z6 EE z9n _ rfl).trans (by kernel_rfl)
theorem zyz (x0:List UInt8) (x1 x2:Int):ze5 x0 x1 x2 =
  (bif (!(eqB (Int.tmod x1 60) 0)) then ((z3d (Int.tmod x1 60)).bind fun v1=>((catS [58] (PV.toS v1)).bind fun v2=>((catS x0 v2).bind fun v3=>(ze4 v3 x1 x2)))) else (ze4 x0 x1 x2)) :=
 (z7 EE _ _).trans (by kernel_rfl)
theorem zyy (x0:List UInt8) (x1 x2:Int):ze4 x0 x1 x2 =
  (bif (!(eqB x2 119)) then ((catS x0 (encR (IntKind.wrap .i32 x2))).bind fun v1=>(some (PV.tuple [(PV.str v1),(PV.int .i64 0)]))) else (some (PV.tuple [(PV.str x0),(PV.int .i64 0)]))) :=
 (z7 EE _ _).trans (by kernel_rfl)
theorem z133 (a0_0 a0_1 a0_2:Int):zid a0_0 a0_1 a0_2 =
  (bif (eqB a0_0 0) then (bif (eqB a0_1 0) then (zny a0_0 a0_1 a0_2) else (zh7 a0_0 a0_1 a0_2)) else (zh7 a0_0 a0_1 a0_2)) :=
 (z6 EE z4o _ rfl).trans (by kernel_rfl)
theorem zwk (x0 x1 x2:Int):zny x0 x1 x2 =
  ((zmk x2).bind fun v1=>(bif (!(PV.toB v1)) then (some PV.nili) else (some (PV.iface zba (PV.int .i64 x2))))) :=
 (z7 EE _ _).trans (by kernel_rfl)
theorem zwj (x0 x1 x2:Int):zh7 x0 x1 x2 =
  (bif (eqB x0 1) then (bif (eqB x2 0) then (znx x0 x1 x2) else (zh6 x0 x1 x2)) else (zh6 x0 x1 x2)) :=
 (z7 EE _ _).trans (by kernel_rfl)
theorem zwi (x0 x1 x2:Int):znx x0 x1 x2 =
  ((zml x1).bind fun v1=>(bif (!(PV.toB v1)) then (some PV.nili) else (some (PV.iface zbb (PV.int .i64 x1))))) :=
 (z7 EE _ _).trans (by kernel_rfl)
theorem zwh (x0 x1 x2:Int):zh6 x0 x1 x2 =
  (bif (eqB x0 2) then ((zb9 x1 x2 1).bind fun v1=>(bif (!(PV.toB v1)) then (some PV.nili) else (some (PV.iface z58 (PV.agg [(PV.int .i64 x1),(PV.int .i64 x2),(PV.int .i64 1)]))))) else (bif (eqB x0 3) then ((zb9 x1 x2 (-1)).bind fun v2=>(bif (!(PV.toB v2)) then (some PV.nili) else (some (PV.iface z58 (PV.agg [(PV.int .i64 x1),(PV.int .i64 x2),(PV.int .i64 (-1))]))))) else (some PV.nili))) :=
 (z7 EE _ _).trans (by kernel_rfl)
theorem z1bf (a0 a1 a2:Int):ze0 a0 a1 a2 =
  ((zw3 a0 a1 a2).bind fun v1=>(bif (!(PV.toB v1)) then (some (PV.tuple [(PV.int .i64 0),(PV.int .i64 10)])) else ((zq1 a0 a1 a2).bind fun v2=>(some (PV.tuple [(PV.int .i64 (PV.toI v2)),(PV.int .i64 0)]))))) :=
 (z6 EE zy3 _ rfl).trans (by kernel_rfl)
theorem z174 (a0 a1 a2:Int):zun a0 a1 a2 =
  (zjt a0 a1 a2) :=
 (z6 EE zsk _ rfl).trans (by kernel_rfl)
theorem zgq (x0 x1 x2:Int):zjt x0 x1 x2 =
  ((zmf x0).bind fun v1=>(bif (!(eqB (PV.toI v1) x1)) then (zjt (IntKind.wrap .i64 (x0+x2)) x1 x2) else (some (PV.int .i64 x0)))) :=
 (z7 EE _ _).trans (by kernel_rfl)
theorem z11c (a0 a1:Int):zl2 a0 a1 =
  (bif (ltB a1 1) then zq3 else (bif (ltB 12 a1) then zq3 else (z11d a0 a1 [(PV.int .i64 0),(PV.int .i64 31),(PV.int .i64 28),(PV.int .i64 31),(PV.int .i64 30),(PV.int .i64 31),(PV.int .i64 30),(PV.int .i64 31),(PV.int .i64 31),(PV.int .i64 30),(PV.int .i64 31),(PV.int .i64 30),(PV.int .i64 31)] 13))) :=
 (z6 EE zf5 _ rfl).trans (by kernel_rfl)
theorem zq2  : zq3  =
  (some (PV.int .i64 0)) :=
 (z7 EE _ _).trans (by kernel_rfl)
theorem z15h (x0 x1:Int) (x2:List PV) (x3:Nat):z11d x0 x1 x2 x3 =
  (bif (eqB x1 2) then ((zzw x0).bind fun v1=>(bif (PV.toB v1) then (some (PV.int .i64 29)) else (bif (inB 0 x1 ((13:Nat):Int)) then ((rdT (tiInt IntKind.i64) x2 (Int.toNat x1) 0).bind fun v2=>(some (PV.int .i64 (PV.toI v2)))) else none))) else (bif (inB 0 x1 ((13:Nat):Int)) then ((rdT (tiInt IntKind.i64) x2 (Int.toNat x1) 0).bind fun v3=>(some (PV.int .i64 (PV.toI v3)))) else none)) :=
 (z7 EE _ _).trans (by kernel_rfl)
theorem zpr (a0 a1 a2:Int):zcd a0 a1 a2 =
  ((zah a0 a1 a2).bind fun v1=>(bif (!(PV.toB v1)) then (some (PV.tuple [(PV.int .i64 0),(PV.int .i64 10)])) else ((z6i a0 a1 a2).bind fun v2=>(some (PV.tuple [(PV.int .i64 (PV.toI v2)),(PV.int .i64 0)]))))) :=
 (z6 EE zf1 _ rfl).trans (by kernel_rfl)
theorem zku (a0:Int):z8j a0 =
  ((z20 a0 7).bind fun v1=>((z20 (IntKind.wrap .i64 ((PV.toI v1)+6)) 7).bind fun v2=>(some (PV.int .i64 (PV.toI v2))))) :=
 (z6 EE zaw _ rfl).trans (by kernel_rfl)
theorem z11j (a0_0 a0_1:Int):zlc a0_0 a0_1 =
  (bif (leB 0 a0_0) then (bif (leB a0_0 86400) then (bif (eqB a0_1 119) then (some (PV.bool true)) else (bif (eqB a0_1 115) then (some (PV.bool true)) else (some (PV.bool (eqB a0_1 117))))) else (some (PV.bool false))) else (some (PV.bool false))) :=
 (z6 EE zmt _ rfl).trans (by kernel_rfl)
theorem z170 (a0 a1 a2:Int):zw3 a0 a1 a2 =
  (bif (leB (-4718) a0) then (bif (leB a0 294282) then (bif (leB 1 a2) then ((zl2 a0 a1).bind fun v1=>(some (PV.bool (leB a2 (PV.toI v1))))) else (some (PV.bool false))) else (some (PV.bool false))) else (some (PV.bool false))) :=
 (z6 EE zui _ rfl).trans (by kernel_rfl)
theorem z122 (a0:Int):zmf a0 =
  ((zi1 a0 7).bind fun v1=>(some (PV.int .i64 (Int.tmod (IntKind.wrap .i64 ((PV.toI (PV.tnth v1 1))+6)) 7)))) :=
 (z6 EE zmx _ rfl).trans (by kernel_rfl)
theorem z1be (a0:Int):zzw a0 =
  (bif (eqB (Int.tmod a0 4) 0) then (bif (!(eqB (Int.tmod a0 100) 0)) then (some (PV.bool true)) else (some (PV.bool (eqB (Int.tmod a0 400) 0)))) else (some (PV.bool false))) :=
 (z6 EE zy1 _ rfl).trans (by kernel_rfl)
theorem zno (a0 a1 a2:Int):zah a0 a1 a2 =
  (bif (leB (-4718) a0) then (bif (leB a0 294282) then (bif (leB 1 a1) then (bif (leB a1 12) then (bif (leB 1 a2) then ((z3i a0 a1).bind fun v1=>(some (PV.bool (leB a2 (PV.toI v1))))) else (some (PV.bool false))) else (some (PV.bool false))) else (some (PV.bool false))) else (some (PV.bool false))) else (some (PV.bool false))) :=
 (z6 EE zcz _ rfl).trans (by kernel_rfl)
theorem zuo (a0:Int):zmk a0 =
  ((z128 a0).bind fun v1=>(some (PV.bool (PV.toB v1)))) :=
 (z6 EE zhk _ rfl).trans (by kernel_rfl)
theorem z1f6 (a0:Int):z128 a0 =
  (bif (leB 1 a0) then (some (PV.bool (leB a0 31))) else (some (PV.bool false))) :=
 (z6 EE z14r _ rfl).trans (by kernel_rfl)
theorem zup (a0:Int):zml a0 =
  ((zic a0).bind fun v1=>(some (PV.bool (PV.toB v1)))) :=
 (z6 EE zhl _ rfl).trans (by kernel_rfl)
theorem z132 (a0:Int):zic a0 =
  (bif (leB 0 a0) then (some (PV.bool (leB a0 6))) else (some (PV.bool false))) :=
 (z6 EE zp7 _ rfl).trans (by kernel_rfl)
theorem zwg (a0_0 a0_1 a0_2:Int):zb9 a0_0 a0_1 a0_2 =
  ((zic a0_0).bind fun v1=>(bif (PV.toB v1) then ((z128 a0_1).bind fun v2=>(some (PV.bool (PV.toB v2)))) else (some (PV.bool false)))) :=
 (z6 EE zix _ rfl).trans (by kernel_rfl)
end Dv
