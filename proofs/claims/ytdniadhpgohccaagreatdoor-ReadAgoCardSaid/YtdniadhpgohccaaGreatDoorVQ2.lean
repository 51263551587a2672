/- The seat's functions, as equations. -/
import Derived.Test.YtdniadhpgohccaaGreatDoorVQ1
import Derived.Test.YtdniadhpgohccaaGreatDoorVL1
set_option linter.unusedVariables false
set_option linter.unusedSimpArgs false
set_option maxRecDepth 100000
set_option linter.unusedVariables false
namespace Dv
open Go
noncomputable abbrev z9i:List TI:=funTI EE z2v
noncomputable def ze4 (a0 a1 a2:Int):Option PV:=callF EE z2v [(.int IntKind.i64 a0),(.int IntKind.i64 a1),(.int IntKind.i64 a2)]
noncomputable def z4u (x0 x1:Int):Option PV :=
 runW EE z9i (zn EE z2v 5 (mkT 66 [(9,(.int IntKind.i64 x0)),(11,(.int IntKind.i64 x1))]) [])
noncomputable def z7e (x0 x1 x2 x3 x4 x5 x6 x7:Int):Option PV :=
 runW EE z9i (zn EE z2v 6 (mkT 66 [(8,(.ptr 0 0)),(10,(.ptr 1 0))]) [(.cells z6 [(.int IntKind.i64 x0),(.int IntKind.i64 x1),(.int IntKind.i64 x2),(.int IntKind.i64 x3)] false),(.cells z6 [(.int IntKind.i64 x4),(.int IntKind.i64 x5),(.int IntKind.i64 x6),(.int IntKind.i64 x7)] false)])
noncomputable abbrev zan:List TI:=funTI EE z3d
noncomputable def z52 (a0:Int):Option PV:=callF EE z3d [(.int IntKind.i64 a0)]
noncomputable def z7w (x0:Int):Option PV :=
 runW EE zan (zn EE z3d 3 (mkT 28 [(0,(.int IntKind.i64 x0))]) [])
noncomputable def z3g (x0:Int) (x1:List UInt8):Option PV :=
 runW EE zan (zn EE z3d 4 (mkT 28 [(0,(.int IntKind.i64 x0)),(3,(.str x1))]) [])
noncomputable abbrev z9:List TI:=funTI EE za
noncomputable def z8l (a0:List UInt8):Option PV:=callF EE za [(.str a0)]
noncomputable def zth (x0:List UInt8):Option PV :=
 runW EE z9 (zn EE za 0 (mkT 69 [(0,(.str x0))]) [])
noncomputable def ztg (x0:List UInt8) (x1:List PV) (x2 x3 x4 x5:Int):Option PV :=
 runW EE z9 (zn EE za 2 (mkT 69 [(0,(.str x0)),(2,(.ptr 0 0)),(4,(.sl 1 x1))]) [(.cells z6 [(.int IntKind.i64 x2),(.int IntKind.i64 x3),(.int IntKind.i64 x4),(.int IntKind.i64 x5)] false)])
noncomputable def ztf (x0:List UInt8) (x1:List PV) (x2:Bool) (x3 x4 x5 x6 x7 x8:Int):Option PV :=
 runW EE z9 (zn EE za 3 (mkT 69 [(0,(.str x0)),(2,(.ptr 0 0)),(4,(.sl 1 x1)),(5,(.ptr 1 0)),(6,(.bool x2))]) [(.cells z6 [(.int IntKind.i64 x3),(.int IntKind.i64 x4),(.int IntKind.i64 x5),(.int IntKind.i64 x6)] false),(.cells z1o [(.int IntKind.i64 x7),(.int IntKind.i64 x8)] false)])
noncomputable def zte (x0 x1 x2 x3:Int):Option PV :=
 runW EE z9 (zn EE za 4 (mkT 69 [(2,(.ptr 0 0))]) [(.cells z6 [(.int IntKind.i64 x0),(.int IntKind.i64 x1),(.int IntKind.i64 x2),(.int IntKind.i64 x3)] false)])
noncomputable def ztd (x0:List PV) (x1:Bool) (x2 x3 x4 x5 x6 x7:Int):Option PV :=
 runW EE z9 (zn EE za 5 (mkT 69 [(2,(.ptr 0 0)),(4,(.sl 1 x0)),(5,(.ptr 1 0)),(6,(.bool x1))]) [(.cells z6 [(.int IntKind.i64 x2),(.int IntKind.i64 x3),(.int IntKind.i64 x4),(.int IntKind.i64 x5)] false),(.cells z1o [(.int IntKind.i64 x6),(.int IntKind.i64 x7)] false)])
noncomputable def z15d (x0 x1 x2 x3 x4 x5:Int):Option PV :=
 runW EE z9 (zn EE za 6 (mkT 69 [(2,(.ptr 0 0)),(5,(.ptr 1 0))]) [(.cells z6 [(.int IntKind.i64 x0),(.int IntKind.i64 x1),(.int IntKind.i64 x2),(.int IntKind.i64 x3)] false),(.cells z1o [(.int IntKind.i64 x4),(.int IntKind.i64 x5)] false)])
noncomputable def zg2 (x0:List PV) (x1 x2 x3 x4:Int):Option PV :=
 runW EE z9 (zn EE za 7 (mkT 69 [(2,(.ptr 0 0)),(4,(.sl 1 x0))]) [(.cells z6 [(.int IntKind.i64 x1),(.int IntKind.i64 x2),(.int IntKind.i64 x3),(.int IntKind.i64 x4)] false)])
noncomputable def ztc (x0:List PV) (x1 x2 x3 x4:Int) (x5:List UInt8):Option PV :=
 runW EE z9 (zn EE za 8 (mkT 69 [(2,(.ptr 0 0)),(4,(.sl 1 x0)),(7,(.ptr 1 0))]) [(.cells z6 [(.int IntKind.i64 x1),(.int IntKind.i64 x2),(.int IntKind.i64 x3),(.int IntKind.i64 x4)] false),(.cells z4y [(.str x5)] false)])
noncomputable def z15c (x0:List PV) (x1 x2 x3 x4:Int) (x5:List UInt8):Option PV :=
 runW EE z9 (zn EE za 9 (mkT 69 [(2,(.ptr 0 0)),(4,(.sl 1 x0)),(7,(.ptr 1 0))]) [(.cells z6 [(.int IntKind.i64 x1),(.int IntKind.i64 x2),(.int IntKind.i64 x3),(.int IntKind.i64 x4)] false),(.cells z4y [(.str x5)] false)])
noncomputable def zep (x0:List PV) (x1 x2 x3 x4:Int):Option PV :=
 runW EE z9 (zn EE za 10 (mkT 69 [(2,(.ptr 0 0)),(4,(.sl 1 x0))]) [(.cells z6 [(.int IntKind.i64 x1),(.int IntKind.i64 x2),(.int IntKind.i64 x3),(.int IntKind.i64 x4)] false)])
noncomputable def z12k (x0:List PV) (x1 x2 x3 x4:Int):Option PV :=
 runW EE z9 (zn EE za 11 (mkT 69 [(2,(.ptr 0 0)),(4,(.sl 1 x0))]) [(.cells z6 [(.int IntKind.i64 x1),(.int IntKind.i64 x2),(.int IntKind.i64 x3),(.int IntKind.i64 x4)] false)])
noncomputable def zia (x0:List PV) (x1 x2 x3 x4:Int):Option PV :=
 runW EE z9 (zn EE za 14 (mkT 69 [(2,(.ptr 0 0)),(4,(.sl 1 x0))]) [(.cells z6 [(.int IntKind.i64 x1),(.int IntKind.i64 x2),(.int IntKind.i64 x3),(.int IntKind.i64 x4)] false)])
noncomputable def z97 (x0:List PV) (x1 x2 x3 x4:Int) (x5:List PV):Option PV :=
 runW EE z9 (zr EE zf 0 (mkT 37 [(0,(.sl 1 x0)),(1,(.func (Go.Fn.func z8) [] []))]) [(.cells z6 [(.int IntKind.i64 x1),(.int IntKind.i64 x2),(.int IntKind.i64 x3),(.int IntKind.i64 x4)] false)] [frAt EE za 14 1 (mkT 69 [(2,(.ptr 0 0)),(4,(.sl 1 x5))]) []] [])
noncomputable def z7k (x0:List PV) (x1 x2 x3 x4:Int) (x5:Bool) (x6 x7 x8 x9 xA xB xC xD xE:Int) (xF:List PV):Option PV :=
 runW EE z9 (zr EE z8 0 (mkT 140 [(0,(.ptr 0 0)),(1,(.sl 1 x0))]) [(.cells zg [(.int IntKind.i64 x1),(.int IntKind.i64 x2),(.int IntKind.i64 x3),(.int IntKind.i64 x4),(.bool x5)] false),(.cells z6 [(.int IntKind.i64 x6),(.int IntKind.i64 x7),(.int IntKind.i64 x8),(.int IntKind.i64 x9)] false),(.cells zd [(.int IntKind.i64 xA)] false),(.cells z6 [(.int IntKind.i64 xB),(.int IntKind.i64 xC),(.int IntKind.i64 xD),(.int IntKind.i64 xE)] false)] [frAt EE zf 3 3 (mkT 37 [(4,(.ptr 1 0)),(5,(.ptr 2 0)),(6,(.ptr 0 0))]) [((.func (Go.Fn.func zc) [] [(.ptr 1 0),(.ptr 2 0)]),[])],frAt EE za 14 1 (mkT 69 [(2,(.ptr 3 0)),(4,(.sl 1 xF))]) []] [])
noncomputable def z4g (x0:Bool) (x1 x2 x3 x4:Int) (x5:Bool) (x6:List PV) (x7 x8 x9 xA xB xC xD xE xF:Int) (xG:List PV):Option PV :=
 runW EE z9 (zr EE z8 2 (mkT 140 [(0,(.ptr 0 0)),(3,(.ptr 1 0)),(4,(.bool x0))]) [(.cells zg [(.int IntKind.i64 x1),(.int IntKind.i64 x2),(.int IntKind.i64 x3),(.int IntKind.i64 x4),(.bool x5)] false),(.cells z7 [(.sl 1 x6)] false),(.cells z6 [(.int IntKind.i64 x7),(.int IntKind.i64 x8),(.int IntKind.i64 x9),(.int IntKind.i64 xA)] false),(.cells zd [(.int IntKind.i64 xB)] false),(.cells z6 [(.int IntKind.i64 xC),(.int IntKind.i64 xD),(.int IntKind.i64 xE),(.int IntKind.i64 xF)] false)] [frAt EE zf 3 3 (mkT 37 [(4,(.ptr 2 0)),(5,(.ptr 3 0)),(6,(.ptr 0 0))]) [((.func (Go.Fn.func zc) [] [(.ptr 2 0),(.ptr 3 0)]),[])],frAt EE za 14 1 (mkT 69 [(2,(.ptr 4 0)),(4,(.sl 1 xG))]) []] [])
noncomputable def z2k (x0:Bool) (x1 x2 x3 x4:Int) (x5:Bool) (x6:List PV) (x7 x8 x9 xA xB xC xD xE xF:Int) (xG:List PV):Option PV :=
 runW EE z9 (zr EE z8 4 (mkT 140 [(0,(.ptr 0 0)),(3,(.ptr 1 0)),(4,(.bool x0))]) [(.cells zg [(.int IntKind.i64 x1),(.int IntKind.i64 x2),(.int IntKind.i64 x3),(.int IntKind.i64 x4),(.bool x5)] false),(.cells z7 [(.sl 1 x6)] false),(.cells z6 [(.int IntKind.i64 x7),(.int IntKind.i64 x8),(.int IntKind.i64 x9),(.int IntKind.i64 xA)] false),(.cells zd [(.int IntKind.i64 xB)] false),(.cells z6 [(.int IntKind.i64 xC),(.int IntKind.i64 xD),(.int IntKind.i64 xE),(.int IntKind.i64 xF)] false)] [frAt EE zf 3 3 (mkT 37 [(4,(.ptr 2 0)),(5,(.ptr 3 0)),(6,(.ptr 0 0))]) [((.func (Go.Fn.func zc) [] [(.ptr 2 0),(.ptr 3 0)]),[])],frAt EE za 14 1 (mkT 69 [(2,(.ptr 4 0)),(4,(.sl 1 xG))]) []] [])
noncomputable def z7j (x0:Bool) (x1 x2 x3 x4:Int) (x5:Bool) (x6:List PV) (x7 x8 x9 xA xB xC xD xE xF:Int) (xG:List PV):Option PV :=
 runW EE z9 (zr EE z8 5 (mkT 140 [(0,(.ptr 0 0)),(3,(.ptr 1 0)),(4,(.bool x0))]) [(.cells zg [(.int IntKind.i64 x1),(.int IntKind.i64 x2),(.int IntKind.i64 x3),(.int IntKind.i64 x4),(.bool x5)] false),(.cells z7 [(.sl 1 x6)] false),(.cells z6 [(.int IntKind.i64 x7),(.int IntKind.i64 x8),(.int IntKind.i64 x9),(.int IntKind.i64 xA)] false),(.cells zd [(.int IntKind.i64 xB)] false),(.cells z6 [(.int IntKind.i64 xC),(.int IntKind.i64 xD),(.int IntKind.i64 xE),(.int IntKind.i64 xF)] false)] [frAt EE zf 3 3 (mkT 37 [(4,(.ptr 2 0)),(5,(.ptr 3 0)),(6,(.ptr 0 0))]) [((.func (Go.Fn.func zc) [] [(.ptr 2 0),(.ptr 3 0)]),[])],frAt EE za 14 1 (mkT 69 [(2,(.ptr 4 0)),(4,(.sl 1 xG))]) []] [])
noncomputable def z10 (x0:Bool) (x1 x2 x3 x4:Int) (x5:Bool) (x6:List PV) (x7:List PV) (x8:Nat) (x9 xA xB xC xD xE xF xG xH:Int) (xI:List PV):Option PV :=
 runW EE z9 (zr EE z8 6 (mkT 140 [(0,(.ptr 0 0)),(3,(.ptr 1 0)),(4,(.bool x0)),(5,(.ptr 2 0))]) [(.cells zg [(.int IntKind.i64 x1),(.int IntKind.i64 x2),(.int IntKind.i64 x3),(.int IntKind.i64 x4),(.bool x5)] false),(.cells z7 [(.sl 1 x6)] false),(.row zj 1 x7 0 (some x8)),(.cells z6 [(.int IntKind.i64 x9),(.int IntKind.i64 xA),(.int IntKind.i64 xB),(.int IntKind.i64 xC)] false),(.cells zd [(.int IntKind.i64 xD)] false),(.cells z6 [(.int IntKind.i64 xE),(.int IntKind.i64 xF),(.int IntKind.i64 xG),(.int IntKind.i64 xH)] false)] [frAt EE zf 3 3 (mkT 37 [(4,(.ptr 3 0)),(5,(.ptr 4 0)),(6,(.ptr 0 0))]) [((.func (Go.Fn.func zc) [] [(.ptr 3 0),(.ptr 4 0)]),[])],frAt EE za 14 1 (mkT 69 [(2,(.ptr 5 0)),(4,(.sl 1 xI))]) []] [])
noncomputable def z2j (x0:Bool) (x1:List UInt8) (x2:Bool) (x3 x4 x5 x6:Int) (x7:Bool) (x8:List PV) (x9:List PV) (xA:Nat) (xB xC xD xE xF xG xH xI xJ:Int) (xK:List PV):Option PV :=
 runW EE z9 (zr EE z8 7 (mkT 140 [(0,(.ptr 0 0)),(3,(.ptr 1 0)),(4,(.bool x0)),(5,(.ptr 2 0)),(6,(.str x1)),(7,(.bool x2))]) [(.cells zg [(.int IntKind.i64 x3),(.int IntKind.i64 x4),(.int IntKind.i64 x5),(.int IntKind.i64 x6),(.bool x7)] false),(.cells z7 [(.sl 1 x8)] false),(.row zj 1 x9 0 (some xA)),(.cells z6 [(.int IntKind.i64 xB),(.int IntKind.i64 xC),(.int IntKind.i64 xD),(.int IntKind.i64 xE)] false),(.cells zd [(.int IntKind.i64 xF)] false),(.cells z6 [(.int IntKind.i64 xG),(.int IntKind.i64 xH),(.int IntKind.i64 xI),(.int IntKind.i64 xJ)] false)] [frAt EE zf 3 3 (mkT 37 [(4,(.ptr 3 0)),(5,(.ptr 4 0)),(6,(.ptr 0 0))]) [((.func (Go.Fn.func zc) [] [(.ptr 3 0),(.ptr 4 0)]),[])],frAt EE za 14 1 (mkT 69 [(2,(.ptr 5 0)),(4,(.sl 1 xK))]) []] [])
noncomputable def z73 (x0 x1 x2 x3 x4:Int) (x5:Bool) (x6 x7 x8 x9 xA xB xC xD xE xF xG xH xI:Int) (xJ:List PV):Option PV :=
 runW EE z9 (zr EE z8 21 (mkT 140 [(0,(.ptr 0 0)),(12,(.ptr 1 0)),(13,(.int IntKind.i64 x0))]) [(.cells zg [(.int IntKind.i64 x1),(.int IntKind.i64 x2),(.int IntKind.i64 x3),(.int IntKind.i64 x4),(.bool x5)] false),(.cells z6 [(.int IntKind.i64 x6),(.int IntKind.i64 x7),(.int IntKind.i64 x8),(.int IntKind.i64 x9)] false),(.cells z6 [(.int IntKind.i64 xA),(.int IntKind.i64 xB),(.int IntKind.i64 xC),(.int IntKind.i64 xD)] false),(.cells zd [(.int IntKind.i64 xE)] false),(.cells z6 [(.int IntKind.i64 xF),(.int IntKind.i64 xG),(.int IntKind.i64 xH),(.int IntKind.i64 xI)] false)] [frAt EE zf 3 3 (mkT 37 [(4,(.ptr 2 0)),(5,(.ptr 3 0)),(6,(.ptr 0 0))]) [((.func (Go.Fn.func zc) [] [(.ptr 2 0),(.ptr 3 0)]),[])],frAt EE za 14 1 (mkT 69 [(2,(.ptr 4 0)),(4,(.sl 1 xJ))]) []] [])
noncomputable def z3j (x0 x1 x2 x3 x4 x5 x6 x7 x8:Int) (x9:Bool) (xA xB xC xD:Int) (xE:List PV):Option PV :=
 runW EE z9 (zr EE zf 4 (mkT 37 [(4,(.ptr 0 0)),(5,(.ptr 1 0)),(6,(.ptr 2 0))]) [(.cells z6 [(.int IntKind.i64 x0),(.int IntKind.i64 x1),(.int IntKind.i64 x2),(.int IntKind.i64 x3)] false),(.cells zd [(.int IntKind.i64 x4)] false),(.cells zg [(.int IntKind.i64 x5),(.int IntKind.i64 x6),(.int IntKind.i64 x7),(.int IntKind.i64 x8),(.bool x9)] false),(.cells z6 [(.int IntKind.i64 xA),(.int IntKind.i64 xB),(.int IntKind.i64 xC),(.int IntKind.i64 xD)] false)] [frAt EE za 14 1 (mkT 69 [(2,(.ptr 3 0)),(4,(.sl 1 xE))]) []] [((.func (Go.Fn.func zc) [] [(.ptr 0 0),(.ptr 1 0)]),[])])
noncomputable def z4v (x0:List UInt8) (x1 x2 x3 x4:Int) (x5:Bool) (x6:List PV) (x7:List PV) (x8:Nat) (x9 xA xB xC xD xE xF xG xH:Int) (xI:Bool) (xJ:List UInt8) (xK:List PV):Option PV :=
 runW EE z9 (zr EE zk 0 (mkT 82 [(0,(.ptr 0 0)),(1,(.str x0))]) [(.cells zg [(.int IntKind.i64 x1),(.int IntKind.i64 x2),(.int IntKind.i64 x3),(.int IntKind.i64 x4),(.bool x5)] false),(.cells z7 [(.sl 1 x6)] false),(.row zj 1 x7 0 (some x8)),(.cells z6 [(.int IntKind.i64 x9),(.int IntKind.i64 xA),(.int IntKind.i64 xB),(.int IntKind.i64 xC)] false),(.cells zd [(.int IntKind.i64 xD)] false),(.cells z6 [(.int IntKind.i64 xE),(.int IntKind.i64 xF),(.int IntKind.i64 xG),(.int IntKind.i64 xH)] false)] [frAt EE z8 8 2 (mkT 140 [(0,(.ptr 0 0)),(3,(.ptr 1 0)),(4,(.bool xI)),(5,(.ptr 2 0)),(6,(.str xJ))]) [],frAt EE zf 3 3 (mkT 37 [(4,(.ptr 3 0)),(5,(.ptr 4 0)),(6,(.ptr 0 0))]) [((.func (Go.Fn.func zc) [] [(.ptr 3 0),(.ptr 4 0)]),[])],frAt EE za 14 1 (mkT 69 [(2,(.ptr 5 0)),(4,(.sl 1 xK))]) []] [])
noncomputable def z3t (x0 x1 x2 x3:Int) (x4:Bool) (x5 x6 x7 x8 x9 xA xB xC xD xE xF xG xH:Int) (xI:List PV):Option PV :=
 runW EE z9 (zr EE z8 22 (mkT 140 [(0,(.ptr 0 0)),(12,(.ptr 1 0))]) [(.cells zg [(.int IntKind.i64 x0),(.int IntKind.i64 x1),(.int IntKind.i64 x2),(.int IntKind.i64 x3),(.bool x4)] false),(.cells z6 [(.int IntKind.i64 x5),(.int IntKind.i64 x6),(.int IntKind.i64 x7),(.int IntKind.i64 x8)] false),(.cells z6 [(.int IntKind.i64 x9),(.int IntKind.i64 xA),(.int IntKind.i64 xB),(.int IntKind.i64 xC)] false),(.cells zd [(.int IntKind.i64 xD)] false),(.cells z6 [(.int IntKind.i64 xE),(.int IntKind.i64 xF),(.int IntKind.i64 xG),(.int IntKind.i64 xH)] false)] [frAt EE zf 3 3 (mkT 37 [(4,(.ptr 2 0)),(5,(.ptr 3 0)),(6,(.ptr 0 0))]) [((.func (Go.Fn.func zc) [] [(.ptr 2 0),(.ptr 3 0)]),[])],frAt EE za 14 1 (mkT 69 [(2,(.ptr 4 0)),(4,(.sl 1 xI))]) []] [])
noncomputable def z81 (x0:List UInt8) (x1:List PV) (x2 x3 x4 x5:Int) (x6:Bool) (x7:List PV) (x8:List PV) (x9:Nat) (xA xB xC xD xE xF xG xH xI:Int) (xJ:Bool) (xK:List UInt8) (xL:List PV):Option PV :=
 runW EE z9 (zr EE zk 2 (mkT 82 [(0,(.ptr 0 0)),(1,(.str x0)),(5,(.sl 1 x1))]) [(.cells zg [(.int IntKind.i64 x2),(.int IntKind.i64 x3),(.int IntKind.i64 x4),(.int IntKind.i64 x5),(.bool x6)] false),(.cells z7 [(.sl 1 x7)] false),(.row zj 1 x8 0 (some x9)),(.cells z6 [(.int IntKind.i64 xA),(.int IntKind.i64 xB),(.int IntKind.i64 xC),(.int IntKind.i64 xD)] false),(.cells zd [(.int IntKind.i64 xE)] false),(.cells z6 [(.int IntKind.i64 xF),(.int IntKind.i64 xG),(.int IntKind.i64 xH),(.int IntKind.i64 xI)] false)] [frAt EE z8 8 2 (mkT 140 [(0,(.ptr 0 0)),(3,(.ptr 1 0)),(4,(.bool xJ)),(5,(.ptr 2 0)),(6,(.str xK))]) [],frAt EE zf 3 3 (mkT 37 [(4,(.ptr 3 0)),(5,(.ptr 4 0)),(6,(.ptr 0 0))]) [((.func (Go.Fn.func zc) [] [(.ptr 3 0),(.ptr 4 0)]),[])],frAt EE za 14 1 (mkT 69 [(2,(.ptr 5 0)),(4,(.sl 1 xL))]) []] [])
noncomputable def z80 (x0 x1 x2 x3:Int) (x4:Bool) (x5:List PV) (x6:List PV) (x7:Nat) (x8 x9 xA xB xC xD xE xF xG:Int) (xH:Bool) (xI:List UInt8) (xJ:List PV):Option PV :=
 runW EE z9 (zr EE zk 3 (mkT 82 []) [(.cells zg [(.int IntKind.i64 x0),(.int IntKind.i64 x1),(.int IntKind.i64 x2),(.int IntKind.i64 x3),(.bool x4)] false),(.cells z7 [(.sl 1 x5)] false),(.row zj 1 x6 0 (some x7)),(.cells z6 [(.int IntKind.i64 x8),(.int IntKind.i64 x9),(.int IntKind.i64 xA),(.int IntKind.i64 xB)] false),(.cells zd [(.int IntKind.i64 xC)] false),(.cells z6 [(.int IntKind.i64 xD),(.int IntKind.i64 xE),(.int IntKind.i64 xF),(.int IntKind.i64 xG)] false)] [frAt EE z8 8 2 (mkT 140 [(0,(.ptr 0 0)),(3,(.ptr 1 0)),(4,(.bool xH)),(5,(.ptr 2 0)),(6,(.str xI))]) [],frAt EE zf 3 3 (mkT 37 [(4,(.ptr 3 0)),(5,(.ptr 4 0)),(6,(.ptr 0 0))]) [((.func (Go.Fn.func zc) [] [(.ptr 3 0),(.ptr 4 0)]),[])],frAt EE za 14 1 (mkT 69 [(2,(.ptr 5 0)),(4,(.sl 1 xJ))]) []] [])
noncomputable def z7z (x0:List UInt8) (x1:List PV) (x2 x3 x4 x5:Int) (x6:Bool) (x7:List PV) (x8:List PV) (x9:Nat) (xA xB xC xD xE xF xG xH xI:Int) (xJ:Bool) (xK:List UInt8) (xL:List PV):Option PV :=
 runW EE z9 (zr EE zk 4 (mkT 82 [(0,(.ptr 0 0)),(1,(.str x0)),(5,(.sl 1 x1))]) [(.cells zg [(.int IntKind.i64 x2),(.int IntKind.i64 x3),(.int IntKind.i64 x4),(.int IntKind.i64 x5),(.bool x6)] false),(.cells z7 [(.sl 1 x7)] false),(.row zj 1 x8 0 (some x9)),(.cells z6 [(.int IntKind.i64 xA),(.int IntKind.i64 xB),(.int IntKind.i64 xC),(.int IntKind.i64 xD)] false),(.cells zd [(.int IntKind.i64 xE)] false),(.cells z6 [(.int IntKind.i64 xF),(.int IntKind.i64 xG),(.int IntKind.i64 xH),(.int IntKind.i64 xI)] false)] [frAt EE z8 8 2 (mkT 140 [(0,(.ptr 0 0)),(3,(.ptr 1 0)),(4,(.bool xJ)),(5,(.ptr 2 0)),(6,(.str xK))]) [],frAt EE zf 3 3 (mkT 37 [(4,(.ptr 3 0)),(5,(.ptr 4 0)),(6,(.ptr 0 0))]) [((.func (Go.Fn.func zc) [] [(.ptr 3 0),(.ptr 4 0)]),[])],frAt EE za 14 1 (mkT 69 [(2,(.ptr 5 0)),(4,(.sl 1 xL))]) []] [])
noncomputable def z3w (x0:Bool) (x1:List UInt8) (x2 x3 x4 x5:Int) (x6:Bool) (x7:List PV) (x8:List PV) (x9:Nat) (xA xB xC xD xE xF xG xH xI:Int) (xJ:List PV):Option PV :=
 runW EE z9 (zr EE z8 11 (mkT 140 [(0,(.ptr 0 0)),(3,(.ptr 1 0)),(4,(.bool x0)),(5,(.ptr 2 0)),(6,(.str x1))]) [(.cells zg [(.int IntKind.i64 x2),(.int IntKind.i64 x3),(.int IntKind.i64 x4),(.int IntKind.i64 x5),(.bool x6)] false),(.cells z7 [(.sl 1 x7)] false),(.row zj 1 x8 0 (some x9)),(.cells z6 [(.int IntKind.i64 xA),(.int IntKind.i64 xB),(.int IntKind.i64 xC),(.int IntKind.i64 xD)] false),(.cells zd [(.int IntKind.i64 xE)] false),(.cells z6 [(.int IntKind.i64 xF),(.int IntKind.i64 xG),(.int IntKind.i64 xH),(.int IntKind.i64 xI)] false)] [frAt EE zf 3 3 (mkT 37 [(4,(.ptr 3 0)),(5,(.ptr 4 0)),(6,(.ptr 0 0))]) [((.func (Go.Fn.func zc) [] [(.ptr 3 0),(.ptr 4 0)]),[])],frAt EE za 14 1 (mkT 69 [(2,(.ptr 5 0)),(4,(.sl 1 xJ))]) []] [])
noncomputable def z39 (x0:List UInt8) (x1:Bool) (x2 x3 x4 x5:Int) (x6:Bool) (x7:List PV) (x8:List PV) (x9:Nat) (xA xB xC xD xE xF xG xH xI:Int) (xJ:List UInt8) (xK:List PV) (xL:Bool) (xM:List UInt8) (xN:List PV):Option PV :=
 runW EE z9 (zr EE zx 0 (mkT 46 [(0,(.ptr 0 0)),(1,(.str x0)),(2,(.bool x1))]) [(.cells zg [(.int IntKind.i64 x2),(.int IntKind.i64 x3),(.int IntKind.i64 x4),(.int IntKind.i64 x5),(.bool x6)] false),(.cells z7 [(.sl 1 x7)] false),(.row zj 1 x8 0 (some x9)),(.cells z6 [(.int IntKind.i64 xA),(.int IntKind.i64 xB),(.int IntKind.i64 xC),(.int IntKind.i64 xD)] false),(.cells zd [(.int IntKind.i64 xE)] false),(.cells z6 [(.int IntKind.i64 xF),(.int IntKind.i64 xG),(.int IntKind.i64 xH),(.int IntKind.i64 xI)] false)] [frAt EE zk 4 4 (mkT 82 [(0,(.ptr 0 0)),(1,(.str xJ)),(5,(.sl 1 xK))]) [],frAt EE z8 8 2 (mkT 140 [(0,(.ptr 0 0)),(3,(.ptr 1 0)),(4,(.bool xL)),(5,(.ptr 2 0)),(6,(.str xM))]) [],frAt EE zf 3 3 (mkT 37 [(4,(.ptr 3 0)),(5,(.ptr 4 0)),(6,(.ptr 0 0))]) [((.func (Go.Fn.func zc) [] [(.ptr 3 0),(.ptr 4 0)]),[])],frAt EE za 14 1 (mkT 69 [(2,(.ptr 5 0)),(4,(.sl 1 xN))]) []] [])
noncomputable def z38 (x0:List UInt8) (x1:Bool) (x2 x3 x4 x5:Int) (x6:Bool) (x7:List PV) (x8:List PV) (x9:Nat) (xA xB xC xD xE xF xG xH xI:Int) (xJ:Bool) (xK:List PV):Option PV :=
 runW EE z9 (zr EE zx 0 (mkT 46 [(0,(.ptr 0 0)),(1,(.str x0)),(2,(.bool x1))]) [(.cells zg [(.int IntKind.i64 x2),(.int IntKind.i64 x3),(.int IntKind.i64 x4),(.int IntKind.i64 x5),(.bool x6)] false),(.cells z7 [(.sl 1 x7)] false),(.row zj 1 x8 0 (some x9)),(.cells z6 [(.int IntKind.i64 xA),(.int IntKind.i64 xB),(.int IntKind.i64 xC),(.int IntKind.i64 xD)] false),(.cells zd [(.int IntKind.i64 xE)] false),(.cells z6 [(.int IntKind.i64 xF),(.int IntKind.i64 xG),(.int IntKind.i64 xH),(.int IntKind.i64 xI)] false)] [frAt EE z8 11 2 (mkT 140 [(0,(.ptr 0 0)),(3,(.ptr 1 0)),(4,(.bool xJ)),(5,(.ptr 2 0))]) [],frAt EE zf 3 3 (mkT 37 [(4,(.ptr 3 0)),(5,(.ptr 4 0)),(6,(.ptr 0 0))]) [((.func (Go.Fn.func zc) [] [(.ptr 3 0),(.ptr 4 0)]),[])],frAt EE za 14 1 (mkT 69 [(2,(.ptr 5 0)),(4,(.sl 1 xK))]) []] [])
noncomputable def z6g (x0:List UInt8) (x1:Bool) (x2:List UInt8) (x3:Bool) (x4 x5 x6 x7:Int) (x8:Bool) (x9:List PV) (xA:List PV) (xB:Nat) (xC xD xE xF xG xH xI xJ xK:Int) (xL:List UInt8) (xM:List PV) (xN:Bool) (xO:List UInt8) (xP:List PV):Option PV :=
 runW EE z9 (zr EE zx 2 (mkT 46 [(0,(.ptr 0 0)),(1,(.str x0)),(2,(.bool x1)),(7,(.str x2)),(8,(.bool x3))]) [(.cells zg [(.int IntKind.i64 x4),(.int IntKind.i64 x5),(.int IntKind.i64 x6),(.int IntKind.i64 x7),(.bool x8)] false),(.cells z7 [(.sl 1 x9)] false),(.row zj 1 xA 0 (some xB)),(.cells z6 [(.int IntKind.i64 xC),(.int IntKind.i64 xD),(.int IntKind.i64 xE),(.int IntKind.i64 xF)] false),(.cells zd [(.int IntKind.i64 xG)] false),(.cells z6 [(.int IntKind.i64 xH),(.int IntKind.i64 xI),(.int IntKind.i64 xJ),(.int IntKind.i64 xK)] false)] [frAt EE zk 4 4 (mkT 82 [(0,(.ptr 0 0)),(1,(.str xL)),(5,(.sl 1 xM))]) [],frAt EE z8 8 2 (mkT 140 [(0,(.ptr 0 0)),(3,(.ptr 1 0)),(4,(.bool xN)),(5,(.ptr 2 0)),(6,(.str xO))]) [],frAt EE zf 3 3 (mkT 37 [(4,(.ptr 3 0)),(5,(.ptr 4 0)),(6,(.ptr 0 0))]) [((.func (Go.Fn.func zc) [] [(.ptr 3 0),(.ptr 4 0)]),[])],frAt EE za 14 1 (mkT 69 [(2,(.ptr 5 0)),(4,(.sl 1 xP))]) []] [])
noncomputable def z6f (x0:List UInt8) (x1:Bool) (x2:List UInt8) (x3:Bool) (x4 x5 x6 x7:Int) (x8:Bool) (x9:List PV) (xA:List PV) (xB:Nat) (xC xD xE xF xG xH xI xJ xK:Int) (xL:Bool) (xM:List PV):Option PV :=
 runW EE z9 (zr EE zx 2 (mkT 46 [(0,(.ptr 0 0)),(1,(.str x0)),(2,(.bool x1)),(7,(.str x2)),(8,(.bool x3))]) [(.cells zg [(.int IntKind.i64 x4),(.int IntKind.i64 x5),(.int IntKind.i64 x6),(.int IntKind.i64 x7),(.bool x8)] false),(.cells z7 [(.sl 1 x9)] false),(.row zj 1 xA 0 (some xB)),(.cells z6 [(.int IntKind.i64 xC),(.int IntKind.i64 xD),(.int IntKind.i64 xE),(.int IntKind.i64 xF)] false),(.cells zd [(.int IntKind.i64 xG)] false),(.cells z6 [(.int IntKind.i64 xH),(.int IntKind.i64 xI),(.int IntKind.i64 xJ),(.int IntKind.i64 xK)] false)] [frAt EE z8 11 2 (mkT 140 [(0,(.ptr 0 0)),(3,(.ptr 1 0)),(4,(.bool xL)),(5,(.ptr 2 0))]) [],frAt EE zf 3 3 (mkT 37 [(4,(.ptr 3 0)),(5,(.ptr 4 0)),(6,(.ptr 0 0))]) [((.func (Go.Fn.func zc) [] [(.ptr 3 0),(.ptr 4 0)]),[])],frAt EE za 14 1 (mkT 69 [(2,(.ptr 5 0)),(4,(.sl 1 xM))]) []] [])
noncomputable def z6e (x0:List UInt8) (x1:Bool) (x2 x3 x4 x5:Int) (x6:Bool) (x7:List PV) (x8:List PV) (x9:Nat) (xA xB xC xD xE xF xG xH xI:Int) (xJ:List UInt8) (xK:List PV) (xL:Bool) (xM:List UInt8) (xN:List PV):Option PV :=
 runW EE z9 (zr EE zx 3 (mkT 46 [(0,(.ptr 0 0)),(1,(.str x0)),(8,(.bool x1))]) [(.cells zg [(.int IntKind.i64 x2),(.int IntKind.i64 x3),(.int IntKind.i64 x4),(.int IntKind.i64 x5),(.bool x6)] false),(.cells z7 [(.sl 1 x7)] false),(.row zj 1 x8 0 (some x9)),(.cells z6 [(.int IntKind.i64 xA),(.int IntKind.i64 xB),(.int IntKind.i64 xC),(.int IntKind.i64 xD)] false),(.cells zd [(.int IntKind.i64 xE)] false),(.cells z6 [(.int IntKind.i64 xF),(.int IntKind.i64 xG),(.int IntKind.i64 xH),(.int IntKind.i64 xI)] false)] [frAt EE zk 4 4 (mkT 82 [(0,(.ptr 0 0)),(1,(.str xJ)),(5,(.sl 1 xK))]) [],frAt EE z8 8 2 (mkT 140 [(0,(.ptr 0 0)),(3,(.ptr 1 0)),(4,(.bool xL)),(5,(.ptr 2 0)),(6,(.str xM))]) [],frAt EE zf 3 3 (mkT 37 [(4,(.ptr 3 0)),(5,(.ptr 4 0)),(6,(.ptr 0 0))]) [((.func (Go.Fn.func zc) [] [(.ptr 3 0),(.ptr 4 0)]),[])],frAt EE za 14 1 (mkT 69 [(2,(.ptr 5 0)),(4,(.sl 1 xN))]) []] [])
noncomputable def z1e (x0:List UInt8) (x1:Bool) (x2 x3 x4 x5:Int) (x6:Bool) (x7:List PV) (x8:List PV) (x9:Nat) (xA xB xC xD xE xF xG xH xI:Int) (xJ:List UInt8) (xK:List PV) (xL:Bool) (xM:List UInt8) (xN:List PV):Option PV :=
 runW EE z9 (zr EE zx 4 (mkT 46 [(0,(.ptr 0 0)),(7,(.str x0)),(8,(.bool x1))]) [(.cells zg [(.int IntKind.i64 x2),(.int IntKind.i64 x3),(.int IntKind.i64 x4),(.int IntKind.i64 x5),(.bool x6)] false),(.cells z7 [(.sl 1 x7)] false),(.row zj 1 x8 0 (some x9)),(.cells z6 [(.int IntKind.i64 xA),(.int IntKind.i64 xB),(.int IntKind.i64 xC),(.int IntKind.i64 xD)] false),(.cells zd [(.int IntKind.i64 xE)] false),(.cells z6 [(.int IntKind.i64 xF),(.int IntKind.i64 xG),(.int IntKind.i64 xH),(.int IntKind.i64 xI)] false)] [frAt EE zk 4 4 (mkT 82 [(0,(.ptr 0 0)),(1,(.str xJ)),(5,(.sl 1 xK))]) [],frAt EE z8 8 2 (mkT 140 [(0,(.ptr 0 0)),(3,(.ptr 1 0)),(4,(.bool xL)),(5,(.ptr 2 0)),(6,(.str xM))]) [],frAt EE zf 3 3 (mkT 37 [(4,(.ptr 3 0)),(5,(.ptr 4 0)),(6,(.ptr 0 0))]) [((.func (Go.Fn.func zc) [] [(.ptr 3 0),(.ptr 4 0)]),[])],frAt EE za 14 1 (mkT 69 [(2,(.ptr 5 0)),(4,(.sl 1 xN))]) []] [])
noncomputable def z6d (x0:List UInt8) (x1:Bool) (x2 x3 x4 x5:Int) (x6:Bool) (x7:List PV) (x8:List PV) (x9:Nat) (xA xB xC xD xE xF xG xH xI:Int) (xJ:Bool) (xK:List PV):Option PV :=
 runW EE z9 (zr EE zx 3 (mkT 46 [(0,(.ptr 0 0)),(1,(.str x0)),(8,(.bool x1))]) [(.cells zg [(.int IntKind.i64 x2),(.int IntKind.i64 x3),(.int IntKind.i64 x4),(.int IntKind.i64 x5),(.bool x6)] false),(.cells z7 [(.sl 1 x7)] false),(.row zj 1 x8 0 (some x9)),(.cells z6 [(.int IntKind.i64 xA),(.int IntKind.i64 xB),(.int IntKind.i64 xC),(.int IntKind.i64 xD)] false),(.cells zd [(.int IntKind.i64 xE)] false),(.cells z6 [(.int IntKind.i64 xF),(.int IntKind.i64 xG),(.int IntKind.i64 xH),(.int IntKind.i64 xI)] false)] [frAt EE z8 11 2 (mkT 140 [(0,(.ptr 0 0)),(3,(.ptr 1 0)),(4,(.bool xJ)),(5,(.ptr 2 0))]) [],frAt EE zf 3 3 (mkT 37 [(4,(.ptr 3 0)),(5,(.ptr 4 0)),(6,(.ptr 0 0))]) [((.func (Go.Fn.func zc) [] [(.ptr 3 0),(.ptr 4 0)]),[])],frAt EE za 14 1 (mkT 69 [(2,(.ptr 5 0)),(4,(.sl 1 xK))]) []] [])
noncomputable def z1d (x0:List UInt8) (x1:Bool) (x2 x3 x4 x5:Int) (x6:Bool) (x7:List PV) (x8:List PV) (x9:Nat) (xA xB xC xD xE xF xG xH xI:Int) (xJ:Bool) (xK:List PV):Option PV :=
 runW EE z9 (zr EE zx 4 (mkT 46 [(0,(.ptr 0 0)),(7,(.str x0)),(8,(.bool x1))]) [(.cells zg [(.int IntKind.i64 x2),(.int IntKind.i64 x3),(.int IntKind.i64 x4),(.int IntKind.i64 x5),(.bool x6)] false),(.cells z7 [(.sl 1 x7)] false),(.row zj 1 x8 0 (some x9)),(.cells z6 [(.int IntKind.i64 xA),(.int IntKind.i64 xB),(.int IntKind.i64 xC),(.int IntKind.i64 xD)] false),(.cells zd [(.int IntKind.i64 xE)] false),(.cells z6 [(.int IntKind.i64 xF),(.int IntKind.i64 xG),(.int IntKind.i64 xH),(.int IntKind.i64 xI)] false)] [frAt EE z8 11 2 (mkT 140 [(0,(.ptr 0 0)),(3,(.ptr 1 0)),(4,(.bool xJ)),(5,(.ptr 2 0))]) [],frAt EE zf 3 3 (mkT 37 [(4,(.ptr 3 0)),(5,(.ptr 4 0)),(6,(.ptr 0 0))]) [((.func (Go.Fn.func zc) [] [(.ptr 3 0),(.ptr 4 0)]),[])],frAt EE za 14 1 (mkT 69 [(2,(.ptr 5 0)),(4,(.sl 1 xK))]) []] [])
noncomputable def z6c (x0:Bool) (x1 x2 x3 x4 x5 x6:Int) (x7:Bool) (x8:List PV) (x9:List PV) (xA:Nat) (xB xC xD xE xF xG xH xI xJ:Int) (xK:List UInt8) (xL:List PV) (xM:Bool) (xN:List UInt8) (xO:List PV):Option PV :=
 runW EE z9 (zr EE zx 5 (mkT 46 [(0,(.ptr 0 0)),(8,(.bool x0)),(9,(.int IntKind.i64 x1)),(10,(.int IntKind.i64 x2))]) [(.cells zg [(.int IntKind.i64 x3),(.int IntKind.i64 x4),(.int IntKind.i64 x5),(.int IntKind.i64 x6),(.bool x7)] false),(.cells z7 [(.sl 1 x8)] false),(.row zj 1 x9 0 (some xA)),(.cells z6 [(.int IntKind.i64 xB),(.int IntKind.i64 xC),(.int IntKind.i64 xD),(.int IntKind.i64 xE)] false),(.cells zd [(.int IntKind.i64 xF)] false),(.cells z6 [(.int IntKind.i64 xG),(.int IntKind.i64 xH),(.int IntKind.i64 xI),(.int IntKind.i64 xJ)] false)] [frAt EE zk 4 4 (mkT 82 [(0,(.ptr 0 0)),(1,(.str xK)),(5,(.sl 1 xL))]) [],frAt EE z8 8 2 (mkT 140 [(0,(.ptr 0 0)),(3,(.ptr 1 0)),(4,(.bool xM)),(5,(.ptr 2 0)),(6,(.str xN))]) [],frAt EE zf 3 3 (mkT 37 [(4,(.ptr 3 0)),(5,(.ptr 4 0)),(6,(.ptr 0 0))]) [((.func (Go.Fn.func zc) [] [(.ptr 3 0),(.ptr 4 0)]),[])],frAt EE za 14 1 (mkT 69 [(2,(.ptr 5 0)),(4,(.sl 1 xO))]) []] [])
noncomputable def z6b (x0:Bool) (x1 x2 x3 x4 x5 x6:Int) (x7:Bool) (x8:List PV) (x9:List PV) (xA:Nat) (xB xC xD xE xF xG xH xI xJ:Int) (xK:Bool) (xL:List PV):Option PV :=
 runW EE z9 (zr EE zx 5 (mkT 46 [(0,(.ptr 0 0)),(8,(.bool x0)),(9,(.int IntKind.i64 x1)),(10,(.int IntKind.i64 x2))]) [(.cells zg [(.int IntKind.i64 x3),(.int IntKind.i64 x4),(.int IntKind.i64 x5),(.int IntKind.i64 x6),(.bool x7)] false),(.cells z7 [(.sl 1 x8)] false),(.row zj 1 x9 0 (some xA)),(.cells z6 [(.int IntKind.i64 xB),(.int IntKind.i64 xC),(.int IntKind.i64 xD),(.int IntKind.i64 xE)] false),(.cells zd [(.int IntKind.i64 xF)] false),(.cells z6 [(.int IntKind.i64 xG),(.int IntKind.i64 xH),(.int IntKind.i64 xI),(.int IntKind.i64 xJ)] false)] [frAt EE z8 11 2 (mkT 140 [(0,(.ptr 0 0)),(3,(.ptr 1 0)),(4,(.bool xK)),(5,(.ptr 2 0))]) [],frAt EE zf 3 3 (mkT 37 [(4,(.ptr 3 0)),(5,(.ptr 4 0)),(6,(.ptr 0 0))]) [((.func (Go.Fn.func zc) [] [(.ptr 3 0),(.ptr 4 0)]),[])],frAt EE za 14 1 (mkT 69 [(2,(.ptr 5 0)),(4,(.sl 1 xL))]) []] [])
noncomputable def z6a (x0:Bool) (x1 x2 x3 x4 x5 x6:Int) (x7:Bool) (x8:List PV) (x9:List PV) (xA:Nat) (xB xC xD xE xF xG xH xI xJ:Int) (xK:List UInt8) (xL:List PV) (xM:Bool) (xN:List UInt8) (xO:List PV):Option PV :=
 runW EE z9 (zr EE zx 6 (mkT 46 [(0,(.ptr 0 0)),(8,(.bool x0)),(9,(.int IntKind.i64 x1)),(10,(.int IntKind.i64 x2))]) [(.cells zg [(.int IntKind.i64 x3),(.int IntKind.i64 x4),(.int IntKind.i64 x5),(.int IntKind.i64 x6),(.bool x7)] false),(.cells z7 [(.sl 1 x8)] false),(.row zj 1 x9 0 (some xA)),(.cells z6 [(.int IntKind.i64 xB),(.int IntKind.i64 xC),(.int IntKind.i64 xD),(.int IntKind.i64 xE)] false),(.cells zd [(.int IntKind.i64 xF)] false),(.cells z6 [(.int IntKind.i64 xG),(.int IntKind.i64 xH),(.int IntKind.i64 xI),(.int IntKind.i64 xJ)] false)] [frAt EE zk 4 4 (mkT 82 [(0,(.ptr 0 0)),(1,(.str xK)),(5,(.sl 1 xL))]) [],frAt EE z8 8 2 (mkT 140 [(0,(.ptr 0 0)),(3,(.ptr 1 0)),(4,(.bool xM)),(5,(.ptr 2 0)),(6,(.str xN))]) [],frAt EE zf 3 3 (mkT 37 [(4,(.ptr 3 0)),(5,(.ptr 4 0)),(6,(.ptr 0 0))]) [((.func (Go.Fn.func zc) [] [(.ptr 3 0),(.ptr 4 0)]),[])],frAt EE za 14 1 (mkT 69 [(2,(.ptr 5 0)),(4,(.sl 1 xO))]) []] [])
noncomputable def z69 (x0:Bool) (x1 x2 x3 x4 x5 x6:Int) (x7:Bool) (x8:List PV) (x9:List PV) (xA:Nat) (xB xC xD xE xF xG xH xI xJ:Int) (xK:Bool) (xL:List PV):Option PV :=
 runW EE z9 (zr EE zx 6 (mkT 46 [(0,(.ptr 0 0)),(8,(.bool x0)),(9,(.int IntKind.i64 x1)),(10,(.int IntKind.i64 x2))]) [(.cells zg [(.int IntKind.i64 x3),(.int IntKind.i64 x4),(.int IntKind.i64 x5),(.int IntKind.i64 x6),(.bool x7)] false),(.cells z7 [(.sl 1 x8)] false),(.row zj 1 x9 0 (some xA)),(.cells z6 [(.int IntKind.i64 xB),(.int IntKind.i64 xC),(.int IntKind.i64 xD),(.int IntKind.i64 xE)] false),(.cells zd [(.int IntKind.i64 xF)] false),(.cells z6 [(.int IntKind.i64 xG),(.int IntKind.i64 xH),(.int IntKind.i64 xI),(.int IntKind.i64 xJ)] false)] [frAt EE z8 11 2 (mkT 140 [(0,(.ptr 0 0)),(3,(.ptr 1 0)),(4,(.bool xK)),(5,(.ptr 2 0))]) [],frAt EE zf 3 3 (mkT 37 [(4,(.ptr 3 0)),(5,(.ptr 4 0)),(6,(.ptr 0 0))]) [((.func (Go.Fn.func zc) [] [(.ptr 3 0),(.ptr 4 0)]),[])],frAt EE za 14 1 (mkT 69 [(2,(.ptr 5 0)),(4,(.sl 1 xL))]) []] [])
noncomputable def z37 (x0:Bool) (x1 x2 x3 x4 x5:Int) (x6:Bool) (x7:List PV) (x8:List PV) (x9:Nat) (xA xB xC xD xE xF xG xH xI:Int) (xJ:List UInt8) (xK:List PV) (xL:Bool) (xM:List UInt8) (xN:List PV):Option PV :=
 runW EE z9 (zr EE zx 7 (mkT 46 [(8,(.bool x0)),(9,(.int IntKind.i64 x1))]) [(.cells zg [(.int IntKind.i64 x2),(.int IntKind.i64 x3),(.int IntKind.i64 x4),(.int IntKind.i64 x5),(.bool x6)] false),(.cells z7 [(.sl 1 x7)] false),(.row zj 1 x8 0 (some x9)),(.cells z6 [(.int IntKind.i64 xA),(.int IntKind.i64 xB),(.int IntKind.i64 xC),(.int IntKind.i64 xD)] false),(.cells zd [(.int IntKind.i64 xE)] false),(.cells z6 [(.int IntKind.i64 xF),(.int IntKind.i64 xG),(.int IntKind.i64 xH),(.int IntKind.i64 xI)] false)] [frAt EE zk 4 4 (mkT 82 [(0,(.ptr 0 0)),(1,(.str xJ)),(5,(.sl 1 xK))]) [],frAt EE z8 8 2 (mkT 140 [(0,(.ptr 0 0)),(3,(.ptr 1 0)),(4,(.bool xL)),(5,(.ptr 2 0)),(6,(.str xM))]) [],frAt EE zf 3 3 (mkT 37 [(4,(.ptr 3 0)),(5,(.ptr 4 0)),(6,(.ptr 0 0))]) [((.func (Go.Fn.func zc) [] [(.ptr 3 0),(.ptr 4 0)]),[])],frAt EE za 14 1 (mkT 69 [(2,(.ptr 5 0)),(4,(.sl 1 xN))]) []] [])
noncomputable def z36 (x0:Bool) (x1 x2 x3 x4 x5:Int) (x6:Bool) (x7:List PV) (x8:List PV) (x9:Nat) (xA xB xC xD xE xF xG xH xI:Int) (xJ:Bool) (xK:List PV):Option PV :=
 runW EE z9 (zr EE zx 7 (mkT 46 [(8,(.bool x0)),(9,(.int IntKind.i64 x1))]) [(.cells zg [(.int IntKind.i64 x2),(.int IntKind.i64 x3),(.int IntKind.i64 x4),(.int IntKind.i64 x5),(.bool x6)] false),(.cells z7 [(.sl 1 x7)] false),(.row zj 1 x8 0 (some x9)),(.cells z6 [(.int IntKind.i64 xA),(.int IntKind.i64 xB),(.int IntKind.i64 xC),(.int IntKind.i64 xD)] false),(.cells zd [(.int IntKind.i64 xE)] false),(.cells z6 [(.int IntKind.i64 xF),(.int IntKind.i64 xG),(.int IntKind.i64 xH),(.int IntKind.i64 xI)] false)] [frAt EE z8 11 2 (mkT 140 [(0,(.ptr 0 0)),(3,(.ptr 1 0)),(4,(.bool xJ)),(5,(.ptr 2 0))]) [],frAt EE zf 3 3 (mkT 37 [(4,(.ptr 3 0)),(5,(.ptr 4 0)),(6,(.ptr 0 0))]) [((.func (Go.Fn.func zc) [] [(.ptr 3 0),(.ptr 4 0)]),[])],frAt EE za 14 1 (mkT 69 [(2,(.ptr 5 0)),(4,(.sl 1 xK))]) []] [])
noncomputable def z1s (x0:List UInt8) (x1:List PV) (x2 x3 x4 x5 x6:Int) (x7:Bool) (x8:List PV) (x9:List PV) (xA:Nat) (xB xC xD xE xF xG xH xI xJ:Int) (xK:Bool) (xL:List UInt8) (xM:List PV):Option PV :=
 runW EE z9 (zr EE zk 5 (mkT 82 [(0,(.ptr 0 0)),(1,(.str x0)),(5,(.sl 1 x1)),(6,(.int IntKind.i64 x2))]) [(.cells zg [(.int IntKind.i64 x3),(.int IntKind.i64 x4),(.int IntKind.i64 x5),(.int IntKind.i64 x6),(.bool x7)] false),(.cells z7 [(.sl 1 x8)] false),(.row zj 1 x9 0 (some xA)),(.cells z6 [(.int IntKind.i64 xB),(.int IntKind.i64 xC),(.int IntKind.i64 xD),(.int IntKind.i64 xE)] false),(.cells zd [(.int IntKind.i64 xF)] false),(.cells z6 [(.int IntKind.i64 xG),(.int IntKind.i64 xH),(.int IntKind.i64 xI),(.int IntKind.i64 xJ)] false)] [frAt EE z8 8 2 (mkT 140 [(0,(.ptr 0 0)),(3,(.ptr 1 0)),(4,(.bool xK)),(5,(.ptr 2 0)),(6,(.str xL))]) [],frAt EE zf 3 3 (mkT 37 [(4,(.ptr 3 0)),(5,(.ptr 4 0)),(6,(.ptr 0 0))]) [((.func (Go.Fn.func zc) [] [(.ptr 3 0),(.ptr 4 0)]),[])],frAt EE za 14 1 (mkT 69 [(2,(.ptr 5 0)),(4,(.sl 1 xM))]) []] [])
noncomputable def z1k (x0:Bool) (x1 x2 x3 x4 x5:Int) (x6:Bool) (x7:List PV) (x8:List PV) (x9:Nat) (xA xB xC xD xE xF xG xH xI:Int) (xJ:List PV):Option PV :=
 runW EE z9 (zr EE z8 12 (mkT 140 [(0,(.ptr 0 0)),(3,(.ptr 1 0)),(4,(.bool x0)),(5,(.ptr 2 0)),(8,(.int IntKind.i64 x1))]) [(.cells zg [(.int IntKind.i64 x2),(.int IntKind.i64 x3),(.int IntKind.i64 x4),(.int IntKind.i64 x5),(.bool x6)] false),(.cells z7 [(.sl 1 x7)] false),(.row zj 1 x8 0 (some x9)),(.cells z6 [(.int IntKind.i64 xA),(.int IntKind.i64 xB),(.int IntKind.i64 xC),(.int IntKind.i64 xD)] false),(.cells zd [(.int IntKind.i64 xE)] false),(.cells z6 [(.int IntKind.i64 xF),(.int IntKind.i64 xG),(.int IntKind.i64 xH),(.int IntKind.i64 xI)] false)] [frAt EE zf 3 3 (mkT 37 [(4,(.ptr 3 0)),(5,(.ptr 4 0)),(6,(.ptr 0 0))]) [((.func (Go.Fn.func zc) [] [(.ptr 3 0),(.ptr 4 0)]),[])],frAt EE za 14 1 (mkT 69 [(2,(.ptr 5 0)),(4,(.sl 1 xJ))]) []] [])
noncomputable def z7y (x0:List UInt8) (x1:List PV) (x2:Int) (x3:List UInt8) (x4:List UInt8) (x5:Bool) (x6 x7 x8 x9:Int) (xA:Bool) (xB:List PV) (xC:List PV) (xD:Nat) (xE xF xG xH xI xJ xK xL xM:Int) (xN:Bool) (xO:List UInt8) (xP:List PV):Option PV :=
 runW EE z9 (zr EE zk 6 (mkT 82 [(0,(.ptr 0 0)),(1,(.str x0)),(5,(.sl 1 x1)),(6,(.int IntKind.i64 x2)),(7,(.str x3)),(8,(.str x4)),(9,(.bool x5))]) [(.cells zg [(.int IntKind.i64 x6),(.int IntKind.i64 x7),(.int IntKind.i64 x8),(.int IntKind.i64 x9),(.bool xA)] false),(.cells z7 [(.sl 1 xB)] false),(.row zj 1 xC 0 (some xD)),(.cells z6 [(.int IntKind.i64 xE),(.int IntKind.i64 xF),(.int IntKind.i64 xG),(.int IntKind.i64 xH)] false),(.cells zd [(.int IntKind.i64 xI)] false),(.cells z6 [(.int IntKind.i64 xJ),(.int IntKind.i64 xK),(.int IntKind.i64 xL),(.int IntKind.i64 xM)] false)] [frAt EE z8 8 2 (mkT 140 [(0,(.ptr 0 0)),(3,(.ptr 1 0)),(4,(.bool xN)),(5,(.ptr 2 0)),(6,(.str xO))]) [],frAt EE zf 3 3 (mkT 37 [(4,(.ptr 3 0)),(5,(.ptr 4 0)),(6,(.ptr 0 0))]) [((.func (Go.Fn.func zc) [] [(.ptr 3 0),(.ptr 4 0)]),[])],frAt EE za 14 1 (mkT 69 [(2,(.ptr 5 0)),(4,(.sl 1 xP))]) []] [])
noncomputable def z3v (x0:Bool) (x1:Bool) (x2:Int) (x3:List UInt8) (x4 x5 x6 x7:Int) (x8:Bool) (x9:List PV) (xA:List PV) (xB:Nat) (xC xD xE xF xG xH xI xJ xK:Int) (xL:List PV):Option PV :=
 runW EE z9 (zr EE z8 13 (mkT 140 [(0,(.ptr 0 0)),(3,(.ptr 1 0)),(4,(.bool x0)),(5,(.ptr 2 0)),(7,(.bool x1)),(8,(.int IntKind.i64 x2)),(9,(.str x3))]) [(.cells zg [(.int IntKind.i64 x4),(.int IntKind.i64 x5),(.int IntKind.i64 x6),(.int IntKind.i64 x7),(.bool x8)] false),(.cells z7 [(.sl 1 x9)] false),(.row zj 1 xA 0 (some xB)),(.cells z6 [(.int IntKind.i64 xC),(.int IntKind.i64 xD),(.int IntKind.i64 xE),(.int IntKind.i64 xF)] false),(.cells zd [(.int IntKind.i64 xG)] false),(.cells z6 [(.int IntKind.i64 xH),(.int IntKind.i64 xI),(.int IntKind.i64 xJ),(.int IntKind.i64 xK)] false)] [frAt EE zf 3 3 (mkT 37 [(4,(.ptr 3 0)),(5,(.ptr 4 0)),(6,(.ptr 0 0))]) [((.func (Go.Fn.func zc) [] [(.ptr 3 0),(.ptr 4 0)]),[])],frAt EE za 14 1 (mkT 69 [(2,(.ptr 5 0)),(4,(.sl 1 xL))]) []] [])
noncomputable def z7x (x0:List UInt8) (x1:List PV) (x2:Int) (x3:List UInt8) (x4:List UInt8) (x5:Bool) (x6 x7 x8 x9:Int) (xA:Bool) (xB:List PV) (xC:List PV) (xD:Nat) (xE xF xG xH xI xJ xK xL xM:Int) (xN:Bool) (xO:List UInt8) (xP:List PV):Option PV :=
 runW EE z9 (zr EE zk 7 (mkT 82 [(0,(.ptr 0 0)),(1,(.str x0)),(5,(.sl 1 x1)),(6,(.int IntKind.i64 x2)),(7,(.str x3)),(8,(.str x4)),(9,(.bool x5))]) [(.cells zg [(.int IntKind.i64 x6),(.int IntKind.i64 x7),(.int IntKind.i64 x8),(.int IntKind.i64 x9),(.bool xA)] false),(.cells z7 [(.sl 1 xB)] false),(.row zj 1 xC 0 (some xD)),(.cells z6 [(.int IntKind.i64 xE),(.int IntKind.i64 xF),(.int IntKind.i64 xG),(.int IntKind.i64 xH)] false),(.cells zd [(.int IntKind.i64 xI)] false),(.cells z6 [(.int IntKind.i64 xJ),(.int IntKind.i64 xK),(.int IntKind.i64 xL),(.int IntKind.i64 xM)] false)] [frAt EE z8 8 2 (mkT 140 [(0,(.ptr 0 0)),(3,(.ptr 1 0)),(4,(.bool xN)),(5,(.ptr 2 0)),(6,(.str xO))]) [],frAt EE zf 3 3 (mkT 37 [(4,(.ptr 3 0)),(5,(.ptr 4 0)),(6,(.ptr 0 0))]) [((.func (Go.Fn.func zc) [] [(.ptr 3 0),(.ptr 4 0)]),[])],frAt EE za 14 1 (mkT 69 [(2,(.ptr 5 0)),(4,(.sl 1 xP))]) []] [])
noncomputable def z3u (x0:Bool) (x1:Bool) (x2 x3 x4 x5 x6 x7:Int) (x8:Bool) (x9:List PV) (xA:List PV) (xB:Nat) (xC xD xE xF xG xH xI xJ xK xL xM xN xO:Int) (xP:List PV):Option PV :=
 runW EE z9 (zr EE z8 14 (mkT 140 [(0,(.ptr 0 0)),(3,(.ptr 1 0)),(4,(.bool x0)),(5,(.ptr 2 0)),(7,(.bool x1)),(8,(.int IntKind.i64 x2)),(10,(.ptr 3 0)),(11,(.int IntKind.i64 x3))]) [(.cells zg [(.int IntKind.i64 x4),(.int IntKind.i64 x5),(.int IntKind.i64 x6),(.int IntKind.i64 x7),(.bool x8)] false),(.cells z7 [(.sl 1 x9)] false),(.row zj 1 xA 0 (some xB)),(.cells z6 [(.int IntKind.i64 xC),(.int IntKind.i64 xD),(.int IntKind.i64 xE),(.int IntKind.i64 xF)] false),(.cells z6 [(.int IntKind.i64 xG),(.int IntKind.i64 xH),(.int IntKind.i64 xI),(.int IntKind.i64 xJ)] false),(.cells zd [(.int IntKind.i64 xK)] false),(.cells z6 [(.int IntKind.i64 xL),(.int IntKind.i64 xM),(.int IntKind.i64 xN),(.int IntKind.i64 xO)] false)] [frAt EE zf 3 3 (mkT 37 [(4,(.ptr 4 0)),(5,(.ptr 5 0)),(6,(.ptr 0 0))]) [((.func (Go.Fn.func zc) [] [(.ptr 4 0),(.ptr 5 0)]),[])],frAt EE za 14 1 (mkT 69 [(2,(.ptr 6 0)),(4,(.sl 1 xP))]) []] [])
noncomputable def z83 (x0:List UInt8) (x1 x2 x3 x4:Int) (x5:Bool) (x6:List PV) (x7:List PV) (x8:Nat) (x9 xA xB xC xD xE xF xG xH:Int) (xI:List UInt8) (xJ:List PV) (xK:Int) (xL:List UInt8) (xM:Bool) (xN:List UInt8) (xO:List PV):Option PV :=
 runW EE z9 (zr EE zj1 0 (mkT 13 [(0,(.str x0))]) [(.cells zg [(.int IntKind.i64 x1),(.int IntKind.i64 x2),(.int IntKind.i64 x3),(.int IntKind.i64 x4),(.bool x5)] false),(.cells z7 [(.sl 1 x6)] false),(.row zj 1 x7 0 (some x8)),(.cells z6 [(.int IntKind.i64 x9),(.int IntKind.i64 xA),(.int IntKind.i64 xB),(.int IntKind.i64 xC)] false),(.cells zd [(.int IntKind.i64 xD)] false),(.cells z6 [(.int IntKind.i64 xE),(.int IntKind.i64 xF),(.int IntKind.i64 xG),(.int IntKind.i64 xH)] false)] [frAt EE zk 9 1 (mkT 82 [(0,(.ptr 0 0)),(1,(.str xI)),(5,(.sl 1 xJ)),(6,(.int IntKind.i64 xK)),(7,(.str xL))]) [],frAt EE z8 8 2 (mkT 140 [(0,(.ptr 0 0)),(3,(.ptr 1 0)),(4,(.bool xM)),(5,(.ptr 2 0)),(6,(.str xN))]) [],frAt EE zf 3 3 (mkT 37 [(4,(.ptr 3 0)),(5,(.ptr 4 0)),(6,(.ptr 0 0))]) [((.func (Go.Fn.func zc) [] [(.ptr 3 0),(.ptr 4 0)]),[])],frAt EE za 14 1 (mkT 69 [(2,(.ptr 5 0)),(4,(.sl 1 xO))]) []] [])
noncomputable def z2i (x0:List UInt8) (x1:List PV) (x2:Int) (x3:List UInt8) (x4 x5 x6 x7 x8:Int) (x9:Bool) (xA:List PV) (xB:List PV) (xC:Nat) (xD xE xF xG xH xI xJ xK xL:Int) (xM:Bool) (xN:List UInt8) (xO:List PV):Option PV :=
 runW EE z9 (zr EE zk 10 (mkT 82 [(0,(.ptr 0 0)),(1,(.str x0)),(5,(.sl 1 x1)),(6,(.int IntKind.i64 x2)),(7,(.str x3)),(10,(.int IntKind.i64 x4))]) [(.cells zg [(.int IntKind.i64 x5),(.int IntKind.i64 x6),(.int IntKind.i64 x7),(.int IntKind.i64 x8),(.bool x9)] false),(.cells z7 [(.sl 1 xA)] false),(.row zj 1 xB 0 (some xC)),(.cells z6 [(.int IntKind.i64 xD),(.int IntKind.i64 xE),(.int IntKind.i64 xF),(.int IntKind.i64 xG)] false),(.cells zd [(.int IntKind.i64 xH)] false),(.cells z6 [(.int IntKind.i64 xI),(.int IntKind.i64 xJ),(.int IntKind.i64 xK),(.int IntKind.i64 xL)] false)] [frAt EE z8 8 2 (mkT 140 [(0,(.ptr 0 0)),(3,(.ptr 1 0)),(4,(.bool xM)),(5,(.ptr 2 0)),(6,(.str xN))]) [],frAt EE zf 3 3 (mkT 37 [(4,(.ptr 3 0)),(5,(.ptr 4 0)),(6,(.ptr 0 0))]) [((.func (Go.Fn.func zc) [] [(.ptr 3 0),(.ptr 4 0)]),[])],frAt EE za 14 1 (mkT 69 [(2,(.ptr 5 0)),(4,(.sl 1 xO))]) []] [])
noncomputable def z74 (x0:Bool) (x1 x2 x3 x4 x5 x6:Int) (x7:Bool) (x8:List PV) (x9:List PV) (xA:Nat) (xB xC xD xE xF xG xH xI xJ xK xL xM xN:Int) (xO:List PV):Option PV :=
 runW EE z9 (zr EE z8 15 (mkT 140 [(0,(.ptr 0 0)),(3,(.ptr 1 0)),(4,(.bool x0)),(5,(.ptr 2 0)),(8,(.int IntKind.i64 x1)),(10,(.ptr 3 0)),(11,(.int IntKind.i64 x2))]) [(.cells zg [(.int IntKind.i64 x3),(.int IntKind.i64 x4),(.int IntKind.i64 x5),(.int IntKind.i64 x6),(.bool x7)] false),(.cells z7 [(.sl 1 x8)] false),(.row zj 1 x9 0 (some xA)),(.cells z6 [(.int IntKind.i64 xB),(.int IntKind.i64 xC),(.int IntKind.i64 xD),(.int IntKind.i64 xE)] false),(.cells z6 [(.int IntKind.i64 xF),(.int IntKind.i64 xG),(.int IntKind.i64 xH),(.int IntKind.i64 xI)] false),(.cells zd [(.int IntKind.i64 xJ)] false),(.cells z6 [(.int IntKind.i64 xK),(.int IntKind.i64 xL),(.int IntKind.i64 xM),(.int IntKind.i64 xN)] false)] [frAt EE zf 3 3 (mkT 37 [(4,(.ptr 4 0)),(5,(.ptr 5 0)),(6,(.ptr 0 0))]) [((.func (Go.Fn.func zc) [] [(.ptr 4 0),(.ptr 5 0)]),[])],frAt EE za 14 1 (mkT 69 [(2,(.ptr 6 0)),(4,(.sl 1 xO))]) []] [])
noncomputable def z82 (x0:List UInt8) (x1 x2 x3 x4:Int) (x5:Bool) (x6:List PV) (x7:List PV) (x8:Nat) (x9 xA xB xC xD xE xF xG xH:Int) (xI:List UInt8) (xJ:List PV) (xK:Int) (xL:List UInt8) (xM:Bool) (xN:List UInt8) (xO:List PV):Option PV :=
 runW EE z9 (zr EE zj1 2 (mkT 13 [(0,(.str x0))]) [(.cells zg [(.int IntKind.i64 x1),(.int IntKind.i64 x2),(.int IntKind.i64 x3),(.int IntKind.i64 x4),(.bool x5)] false),(.cells z7 [(.sl 1 x6)] false),(.row zj 1 x7 0 (some x8)),(.cells z6 [(.int IntKind.i64 x9),(.int IntKind.i64 xA),(.int IntKind.i64 xB),(.int IntKind.i64 xC)] false),(.cells zd [(.int IntKind.i64 xD)] false),(.cells z6 [(.int IntKind.i64 xE),(.int IntKind.i64 xF),(.int IntKind.i64 xG),(.int IntKind.i64 xH)] false)] [frAt EE zk 9 1 (mkT 82 [(0,(.ptr 0 0)),(1,(.str xI)),(5,(.sl 1 xJ)),(6,(.int IntKind.i64 xK)),(7,(.str xL))]) [],frAt EE z8 8 2 (mkT 140 [(0,(.ptr 0 0)),(3,(.ptr 1 0)),(4,(.bool xM)),(5,(.ptr 2 0)),(6,(.str xN))]) [],frAt EE zf 3 3 (mkT 37 [(4,(.ptr 3 0)),(5,(.ptr 4 0)),(6,(.ptr 0 0))]) [((.func (Go.Fn.func zc) [] [(.ptr 3 0),(.ptr 4 0)]),[])],frAt EE za 14 1 (mkT 69 [(2,(.ptr 5 0)),(4,(.sl 1 xO))]) []] [])
noncomputable def z7i (x0:List UInt8) (x1 x2 x3 x4 x5 x6 x7 x8:Int) (x9:Bool) (xA:List PV) (xB:List PV) (xC:Nat) (xD xE xF xG xH xI xJ xK xL:Int) (xM:Bool) (xN:List UInt8) (xO:List PV):Option PV :=
 runW EE z9 (zr EE zk 11 (mkT 82 [(0,(.ptr 0 0)),(1,(.str x0)),(6,(.int IntKind.i64 x1)),(10,(.int IntKind.i64 x2)),(11,(.int IntKind.i64 x3)),(12,(.int IntKind.i64 x4))]) [(.cells zg [(.int IntKind.i64 x5),(.int IntKind.i64 x6),(.int IntKind.i64 x7),(.int IntKind.i64 x8),(.bool x9)] false),(.cells z7 [(.sl 1 xA)] false),(.row zj 1 xB 0 (some xC)),(.cells z6 [(.int IntKind.i64 xD),(.int IntKind.i64 xE),(.int IntKind.i64 xF),(.int IntKind.i64 xG)] false),(.cells zd [(.int IntKind.i64 xH)] false),(.cells z6 [(.int IntKind.i64 xI),(.int IntKind.i64 xJ),(.int IntKind.i64 xK),(.int IntKind.i64 xL)] false)] [frAt EE z8 8 2 (mkT 140 [(0,(.ptr 0 0)),(3,(.ptr 1 0)),(4,(.bool xM)),(5,(.ptr 2 0)),(6,(.str xN))]) [],frAt EE zf 3 3 (mkT 37 [(4,(.ptr 3 0)),(5,(.ptr 4 0)),(6,(.ptr 0 0))]) [((.func (Go.Fn.func zc) [] [(.ptr 3 0),(.ptr 4 0)]),[])],frAt EE za 14 1 (mkT 69 [(2,(.ptr 5 0)),(4,(.sl 1 xO))]) []] [])
noncomputable def z46 (x0 x1 x2 x3 x4 x5:Int) (x6:Bool) (x7:List PV) (x8:List PV) (x9:Nat) (xA xB xC xD xE xF xG xH xI xJ xK xL xM:Int) (xN:Bool) (xO:Int) (xP:List PV):Option PV :=
 runW EE z9 (zr EE z14 0 (mkT 34 [(0,(.ptr 0 0)),(1,(.ptr 0 1)),(2,(.int IntKind.i64 x0)),(3,(.int IntKind.i64 x1))]) [(.cells zg [(.int IntKind.i64 x2),(.int IntKind.i64 x3),(.int IntKind.i64 x4),(.int IntKind.i64 x5),(.bool x6)] false),(.cells z7 [(.sl 1 x7)] false),(.row zj 1 x8 0 (some x9)),(.cells z6 [(.int IntKind.i64 xA),(.int IntKind.i64 xB),(.int IntKind.i64 xC),(.int IntKind.i64 xD)] false),(.cells z6 [(.int IntKind.i64 xE),(.int IntKind.i64 xF),(.int IntKind.i64 xG),(.int IntKind.i64 xH)] false),(.cells zd [(.int IntKind.i64 xI)] false),(.cells z6 [(.int IntKind.i64 xJ),(.int IntKind.i64 xK),(.int IntKind.i64 xL),(.int IntKind.i64 xM)] false)] [frAt EE z8 16 8 (mkT 140 [(0,(.ptr 0 0)),(3,(.ptr 1 0)),(4,(.bool xN)),(5,(.ptr 2 0)),(8,(.int IntKind.i64 xO)),(10,(.ptr 3 0))]) [],frAt EE zf 3 3 (mkT 37 [(4,(.ptr 4 0)),(5,(.ptr 5 0)),(6,(.ptr 0 0))]) [((.func (Go.Fn.func zc) [] [(.ptr 4 0),(.ptr 5 0)]),[])],frAt EE za 14 1 (mkT 69 [(2,(.ptr 6 0)),(4,(.sl 1 xP))]) []] [])
noncomputable def z4f (x0:List UInt8) (x1 x2 x3 x4 x5 x6 x7 x8:Int) (x9:Bool) (xA:List PV) (xB:List PV) (xC:Nat) (xD xE xF xG xH xI xJ xK xL:Int) (xM:Bool) (xN:List UInt8) (xO:List PV):Option PV :=
 runW EE z9 (zr EE zk 12 (mkT 82 [(0,(.ptr 0 0)),(1,(.str x0)),(6,(.int IntKind.i64 x1)),(10,(.int IntKind.i64 x2)),(11,(.int IntKind.i64 x3)),(12,(.int IntKind.i64 x4))]) [(.cells zg [(.int IntKind.i64 x5),(.int IntKind.i64 x6),(.int IntKind.i64 x7),(.int IntKind.i64 x8),(.bool x9)] false),(.cells z7 [(.sl 1 xA)] false),(.row zj 1 xB 0 (some xC)),(.cells z6 [(.int IntKind.i64 xD),(.int IntKind.i64 xE),(.int IntKind.i64 xF),(.int IntKind.i64 xG)] false),(.cells zd [(.int IntKind.i64 xH)] false),(.cells z6 [(.int IntKind.i64 xI),(.int IntKind.i64 xJ),(.int IntKind.i64 xK),(.int IntKind.i64 xL)] false)] [frAt EE z8 8 2 (mkT 140 [(0,(.ptr 0 0)),(3,(.ptr 1 0)),(4,(.bool xM)),(5,(.ptr 2 0)),(6,(.str xN))]) [],frAt EE zf 3 3 (mkT 37 [(4,(.ptr 3 0)),(5,(.ptr 4 0)),(6,(.ptr 0 0))]) [((.func (Go.Fn.func zc) [] [(.ptr 3 0),(.ptr 4 0)]),[])],frAt EE za 14 1 (mkT 69 [(2,(.ptr 5 0)),(4,(.sl 1 xO))]) []] [])
noncomputable def z7a (x0 x1 x2 x3 x4 x5:Int) (x6:Bool) (x7:List PV) (x8:List PV) (x9:Nat) (xA xB xC xD xE xF xG xH xI xJ xK xL xM:Int) (xN:Bool) (xO:Int) (xP:List PV):Option PV :=
 runW EE z9 (zr EE z14 1 (mkT 34 [(0,(.ptr 0 0)),(1,(.ptr 0 1)),(8,(.int IntKind.i64 x0)),(9,(.int IntKind.i64 x1))]) [(.cells zg [(.int IntKind.i64 x2),(.int IntKind.i64 x3),(.int IntKind.i64 x4),(.int IntKind.i64 x5),(.bool x6)] false),(.cells z7 [(.sl 1 x7)] false),(.row zj 1 x8 0 (some x9)),(.cells z6 [(.int IntKind.i64 xA),(.int IntKind.i64 xB),(.int IntKind.i64 xC),(.int IntKind.i64 xD)] false),(.cells z6 [(.int IntKind.i64 xE),(.int IntKind.i64 xF),(.int IntKind.i64 xG),(.int IntKind.i64 xH)] false),(.cells zd [(.int IntKind.i64 xI)] false),(.cells z6 [(.int IntKind.i64 xJ),(.int IntKind.i64 xK),(.int IntKind.i64 xL),(.int IntKind.i64 xM)] false)] [frAt EE z8 16 8 (mkT 140 [(0,(.ptr 0 0)),(3,(.ptr 1 0)),(4,(.bool xN)),(5,(.ptr 2 0)),(8,(.int IntKind.i64 xO)),(10,(.ptr 3 0))]) [],frAt EE zf 3 3 (mkT 37 [(4,(.ptr 4 0)),(5,(.ptr 5 0)),(6,(.ptr 0 0))]) [((.func (Go.Fn.func zc) [] [(.ptr 4 0),(.ptr 5 0)]),[])],frAt EE za 14 1 (mkT 69 [(2,(.ptr 6 0)),(4,(.sl 1 xP))]) []] [])
noncomputable def z2h (x0 x1 x2 x3 x4 x5:Int) (x6:Bool) (x7:List PV) (x8:List PV) (x9:Nat) (xA xB xC xD xE xF xG xH xI:Int) (xJ:Bool) (xK:List UInt8) (xL:List PV):Option PV :=
 runW EE z9 (zr EE zk 15 (mkT 82 [(0,(.ptr 0 0)),(6,(.int IntKind.i64 x0)),(10,(.int IntKind.i64 x1))]) [(.cells zg [(.int IntKind.i64 x2),(.int IntKind.i64 x3),(.int IntKind.i64 x4),(.int IntKind.i64 x5),(.bool x6)] false),(.cells z7 [(.sl 1 x7)] false),(.row zj 1 x8 0 (some x9)),(.cells z6 [(.int IntKind.i64 xA),(.int IntKind.i64 xB),(.int IntKind.i64 xC),(.int IntKind.i64 xD)] false),(.cells zd [(.int IntKind.i64 xE)] false),(.cells z6 [(.int IntKind.i64 xF),(.int IntKind.i64 xG),(.int IntKind.i64 xH),(.int IntKind.i64 xI)] false)] [frAt EE z8 8 2 (mkT 140 [(0,(.ptr 0 0)),(3,(.ptr 1 0)),(4,(.bool xJ)),(5,(.ptr 2 0)),(6,(.str xK))]) [],frAt EE zf 3 3 (mkT 37 [(4,(.ptr 3 0)),(5,(.ptr 4 0)),(6,(.ptr 0 0))]) [((.func (Go.Fn.func zc) [] [(.ptr 3 0),(.ptr 4 0)]),[])],frAt EE za 14 1 (mkT 69 [(2,(.ptr 5 0)),(4,(.sl 1 xL))]) []] [])
noncomputable def z41 (x0 x1 x2 x3 x4 x5:Int) (x6:Bool) (x7:List PV) (x8:List PV) (x9:Nat) (xA xB xC xD xE xF xG xH xI xJ xK xL xM:Int) (xN:Bool) (xO:Int) (xP:List PV):Option PV :=
 runW EE z9 (zr EE z14 3 (mkT 34 [(0,(.ptr 0 0)),(1,(.ptr 0 1)),(8,(.int IntKind.i64 x0)),(9,(.int IntKind.i64 x1))]) [(.cells zg [(.int IntKind.i64 x2),(.int IntKind.i64 x3),(.int IntKind.i64 x4),(.int IntKind.i64 x5),(.bool x6)] false),(.cells z7 [(.sl 1 x7)] false),(.row zj 1 x8 0 (some x9)),(.cells z6 [(.int IntKind.i64 xA),(.int IntKind.i64 xB),(.int IntKind.i64 xC),(.int IntKind.i64 xD)] false),(.cells z6 [(.int IntKind.i64 xE),(.int IntKind.i64 xF),(.int IntKind.i64 xG),(.int IntKind.i64 xH)] false),(.cells zd [(.int IntKind.i64 xI)] false),(.cells z6 [(.int IntKind.i64 xJ),(.int IntKind.i64 xK),(.int IntKind.i64 xL),(.int IntKind.i64 xM)] false)] [frAt EE z8 16 8 (mkT 140 [(0,(.ptr 0 0)),(3,(.ptr 1 0)),(4,(.bool xN)),(5,(.ptr 2 0)),(8,(.int IntKind.i64 xO)),(10,(.ptr 3 0))]) [],frAt EE zf 3 3 (mkT 37 [(4,(.ptr 4 0)),(5,(.ptr 5 0)),(6,(.ptr 0 0))]) [((.func (Go.Fn.func zc) [] [(.ptr 4 0),(.ptr 5 0)]),[])],frAt EE za 14 1 (mkT 69 [(2,(.ptr 6 0)),(4,(.sl 1 xP))]) []] [])
noncomputable def z45 (x0 x1 x2 x3 x4 x5:Int) (x6:Bool) (x7:List PV) (x8:List PV) (x9:Nat) (xA xB xC xD xE xF xG xH xI xJ:Int) (xK:Bool) (xL:List UInt8) (xM:List PV):Option PV :=
 runW EE z9 (zr EE z14 0 (mkT 34 [(0,(.ptr 0 0)),(1,(.ptr 0 3)),(2,(.int IntKind.i64 x0)),(3,(.int IntKind.i64 x1))]) [(.cells zg [(.int IntKind.i64 x2),(.int IntKind.i64 x3),(.int IntKind.i64 x4),(.int IntKind.i64 x5),(.bool x6)] false),(.cells z7 [(.sl 1 x7)] false),(.row zj 1 x8 0 (some x9)),(.cells z6 [(.int IntKind.i64 xA),(.int IntKind.i64 xB),(.int IntKind.i64 xC),(.int IntKind.i64 xD)] false),(.cells zd [(.int IntKind.i64 xE)] false),(.cells z6 [(.int IntKind.i64 xF),(.int IntKind.i64 xG),(.int IntKind.i64 xH),(.int IntKind.i64 xI)] false)] [frAt EE zk 15 6 (mkT 82 [(0,(.ptr 0 0)),(10,(.int IntKind.i64 xJ))]) [],frAt EE z8 8 2 (mkT 140 [(0,(.ptr 0 0)),(3,(.ptr 1 0)),(4,(.bool xK)),(5,(.ptr 2 0)),(6,(.str xL))]) [],frAt EE zf 3 3 (mkT 37 [(4,(.ptr 3 0)),(5,(.ptr 4 0)),(6,(.ptr 0 0))]) [((.func (Go.Fn.func zc) [] [(.ptr 3 0),(.ptr 4 0)]),[])],frAt EE za 14 1 (mkT 69 [(2,(.ptr 5 0)),(4,(.sl 1 xM))]) []] [])
noncomputable def z29 (x0:Bool) (x1 x2 x3 x4 x5:Int) (x6:Bool) (x7:List PV) (x8:List PV) (x9:Nat) (xA xB xC xD xE xF xG xH xI xJ xK xL xM:Int) (xN:List PV):Option PV :=
 runW EE z9 (zr EE z8 17 (mkT 140 [(0,(.ptr 0 0)),(3,(.ptr 1 0)),(4,(.bool x0)),(5,(.ptr 2 0)),(8,(.int IntKind.i64 x1)),(10,(.ptr 3 0))]) [(.cells zg [(.int IntKind.i64 x2),(.int IntKind.i64 x3),(.int IntKind.i64 x4),(.int IntKind.i64 x5),(.bool x6)] false),(.cells z7 [(.sl 1 x7)] false),(.row zj 1 x8 0 (some x9)),(.cells z6 [(.int IntKind.i64 xA),(.int IntKind.i64 xB),(.int IntKind.i64 xC),(.int IntKind.i64 xD)] false),(.cells z6 [(.int IntKind.i64 xE),(.int IntKind.i64 xF),(.int IntKind.i64 xG),(.int IntKind.i64 xH)] false),(.cells zd [(.int IntKind.i64 xI)] false),(.cells z6 [(.int IntKind.i64 xJ),(.int IntKind.i64 xK),(.int IntKind.i64 xL),(.int IntKind.i64 xM)] false)] [frAt EE zf 3 3 (mkT 37 [(4,(.ptr 4 0)),(5,(.ptr 5 0)),(6,(.ptr 0 0))]) [((.func (Go.Fn.func zc) [] [(.ptr 4 0),(.ptr 5 0)]),[])],frAt EE za 14 1 (mkT 69 [(2,(.ptr 6 0)),(4,(.sl 1 xN))]) []] [])
noncomputable def z79 (x0 x1 x2 x3 x4 x5:Int) (x6:Bool) (x7:List PV) (x8:List PV) (x9:Nat) (xA xB xC xD xE xF xG xH xI xJ:Int) (xK:Bool) (xL:List UInt8) (xM:List PV):Option PV :=
 runW EE z9 (zr EE z14 1 (mkT 34 [(0,(.ptr 0 0)),(1,(.ptr 0 3)),(8,(.int IntKind.i64 x0)),(9,(.int IntKind.i64 x1))]) [(.cells zg [(.int IntKind.i64 x2),(.int IntKind.i64 x3),(.int IntKind.i64 x4),(.int IntKind.i64 x5),(.bool x6)] false),(.cells z7 [(.sl 1 x7)] false),(.row zj 1 x8 0 (some x9)),(.cells z6 [(.int IntKind.i64 xA),(.int IntKind.i64 xB),(.int IntKind.i64 xC),(.int IntKind.i64 xD)] false),(.cells zd [(.int IntKind.i64 xE)] false),(.cells z6 [(.int IntKind.i64 xF),(.int IntKind.i64 xG),(.int IntKind.i64 xH),(.int IntKind.i64 xI)] false)] [frAt EE zk 15 6 (mkT 82 [(0,(.ptr 0 0)),(10,(.int IntKind.i64 xJ))]) [],frAt EE z8 8 2 (mkT 140 [(0,(.ptr 0 0)),(3,(.ptr 1 0)),(4,(.bool xK)),(5,(.ptr 2 0)),(6,(.str xL))]) [],frAt EE zf 3 3 (mkT 37 [(4,(.ptr 3 0)),(5,(.ptr 4 0)),(6,(.ptr 0 0))]) [((.func (Go.Fn.func zc) [] [(.ptr 3 0),(.ptr 4 0)]),[])],frAt EE za 14 1 (mkT 69 [(2,(.ptr 5 0)),(4,(.sl 1 xM))]) []] [])
noncomputable def z44 (x0 x1 x2 x3 x4 x5:Int) (x6:Bool) (x7:List PV) (x8:List PV) (x9:Nat) (xA xB xC xD xE xF xG xH xI xJ xK xL xM:Int) (xN:Bool) (xO:Int) (xP:List PV):Option PV :=
 runW EE z9 (zr EE z14 0 (mkT 34 [(0,(.ptr 0 0)),(1,(.ptr 0 2)),(2,(.int IntKind.i64 x0)),(3,(.int IntKind.i64 x1))]) [(.cells zg [(.int IntKind.i64 x2),(.int IntKind.i64 x3),(.int IntKind.i64 x4),(.int IntKind.i64 x5),(.bool x6)] false),(.cells z7 [(.sl 1 x7)] false),(.row zj 1 x8 0 (some x9)),(.cells z6 [(.int IntKind.i64 xA),(.int IntKind.i64 xB),(.int IntKind.i64 xC),(.int IntKind.i64 xD)] false),(.cells z6 [(.int IntKind.i64 xE),(.int IntKind.i64 xF),(.int IntKind.i64 xG),(.int IntKind.i64 xH)] false),(.cells zd [(.int IntKind.i64 xI)] false),(.cells z6 [(.int IntKind.i64 xJ),(.int IntKind.i64 xK),(.int IntKind.i64 xL),(.int IntKind.i64 xM)] false)] [frAt EE z8 17 8 (mkT 140 [(0,(.ptr 0 0)),(3,(.ptr 1 0)),(4,(.bool xN)),(5,(.ptr 2 0)),(8,(.int IntKind.i64 xO)),(10,(.ptr 3 0))]) [],frAt EE zf 3 3 (mkT 37 [(4,(.ptr 4 0)),(5,(.ptr 5 0)),(6,(.ptr 0 0))]) [((.func (Go.Fn.func zc) [] [(.ptr 4 0),(.ptr 5 0)]),[])],frAt EE za 14 1 (mkT 69 [(2,(.ptr 6 0)),(4,(.sl 1 xP))]) []] [])
noncomputable def z40 (x0 x1 x2 x3 x4 x5:Int) (x6:Bool) (x7:List PV) (x8:List PV) (x9:Nat) (xA xB xC xD xE xF xG xH xI xJ:Int) (xK:Bool) (xL:List UInt8) (xM:List PV):Option PV :=
 runW EE z9 (zr EE z14 3 (mkT 34 [(0,(.ptr 0 0)),(1,(.ptr 0 3)),(8,(.int IntKind.i64 x0)),(9,(.int IntKind.i64 x1))]) [(.cells zg [(.int IntKind.i64 x2),(.int IntKind.i64 x3),(.int IntKind.i64 x4),(.int IntKind.i64 x5),(.bool x6)] false),(.cells z7 [(.sl 1 x7)] false),(.row zj 1 x8 0 (some x9)),(.cells z6 [(.int IntKind.i64 xA),(.int IntKind.i64 xB),(.int IntKind.i64 xC),(.int IntKind.i64 xD)] false),(.cells zd [(.int IntKind.i64 xE)] false),(.cells z6 [(.int IntKind.i64 xF),(.int IntKind.i64 xG),(.int IntKind.i64 xH),(.int IntKind.i64 xI)] false)] [frAt EE zk 15 6 (mkT 82 [(0,(.ptr 0 0)),(10,(.int IntKind.i64 xJ))]) [],frAt EE z8 8 2 (mkT 140 [(0,(.ptr 0 0)),(3,(.ptr 1 0)),(4,(.bool xK)),(5,(.ptr 2 0)),(6,(.str xL))]) [],frAt EE zf 3 3 (mkT 37 [(4,(.ptr 3 0)),(5,(.ptr 4 0)),(6,(.ptr 0 0))]) [((.func (Go.Fn.func zc) [] [(.ptr 3 0),(.ptr 4 0)]),[])],frAt EE za 14 1 (mkT 69 [(2,(.ptr 5 0)),(4,(.sl 1 xM))]) []] [])
noncomputable def z78 (x0 x1 x2 x3 x4 x5:Int) (x6:Bool) (x7:List PV) (x8:List PV) (x9:Nat) (xA xB xC xD xE xF xG xH xI xJ xK xL xM:Int) (xN:Bool) (xO:Int) (xP:List PV):Option PV :=
 runW EE z9 (zr EE z14 1 (mkT 34 [(0,(.ptr 0 0)),(1,(.ptr 0 2)),(8,(.int IntKind.i64 x0)),(9,(.int IntKind.i64 x1))]) [(.cells zg [(.int IntKind.i64 x2),(.int IntKind.i64 x3),(.int IntKind.i64 x4),(.int IntKind.i64 x5),(.bool x6)] false),(.cells z7 [(.sl 1 x7)] false),(.row zj 1 x8 0 (some x9)),(.cells z6 [(.int IntKind.i64 xA),(.int IntKind.i64 xB),(.int IntKind.i64 xC),(.int IntKind.i64 xD)] false),(.cells z6 [(.int IntKind.i64 xE),(.int IntKind.i64 xF),(.int IntKind.i64 xG),(.int IntKind.i64 xH)] false),(.cells zd [(.int IntKind.i64 xI)] false),(.cells z6 [(.int IntKind.i64 xJ),(.int IntKind.i64 xK),(.int IntKind.i64 xL),(.int IntKind.i64 xM)] false)] [frAt EE z8 17 8 (mkT 140 [(0,(.ptr 0 0)),(3,(.ptr 1 0)),(4,(.bool xN)),(5,(.ptr 2 0)),(8,(.int IntKind.i64 xO)),(10,(.ptr 3 0))]) [],frAt EE zf 3 3 (mkT 37 [(4,(.ptr 4 0)),(5,(.ptr 5 0)),(6,(.ptr 0 0))]) [((.func (Go.Fn.func zc) [] [(.ptr 4 0),(.ptr 5 0)]),[])],frAt EE za 14 1 (mkT 69 [(2,(.ptr 6 0)),(4,(.sl 1 xP))]) []] [])
noncomputable def z2g (x0 x1 x2 x3 x4:Int) (x5:Bool) (x6:List PV) (x7:List PV) (x8:Nat) (x9 xA xB xC xD xE xF xG xH:Int) (xI:Bool) (xJ:List UInt8) (xK:List PV):Option PV :=
 runW EE z9 (zr EE zk 16 (mkT 82 [(0,(.ptr 0 0)),(10,(.int IntKind.i64 x0))]) [(.cells zg [(.int IntKind.i64 x1),(.int IntKind.i64 x2),(.int IntKind.i64 x3),(.int IntKind.i64 x4),(.bool x5)] false),(.cells z7 [(.sl 1 x6)] false),(.row zj 1 x7 0 (some x8)),(.cells z6 [(.int IntKind.i64 x9),(.int IntKind.i64 xA),(.int IntKind.i64 xB),(.int IntKind.i64 xC)] false),(.cells zd [(.int IntKind.i64 xD)] false),(.cells z6 [(.int IntKind.i64 xE),(.int IntKind.i64 xF),(.int IntKind.i64 xG),(.int IntKind.i64 xH)] false)] [frAt EE z8 8 2 (mkT 140 [(0,(.ptr 0 0)),(3,(.ptr 1 0)),(4,(.bool xI)),(5,(.ptr 2 0)),(6,(.str xJ))]) [],frAt EE zf 3 3 (mkT 37 [(4,(.ptr 3 0)),(5,(.ptr 4 0)),(6,(.ptr 0 0))]) [((.func (Go.Fn.func zc) [] [(.ptr 3 0),(.ptr 4 0)]),[])],frAt EE za 14 1 (mkT 69 [(2,(.ptr 5 0)),(4,(.sl 1 xK))]) []] [])
noncomputable def z3z (x0 x1 x2 x3 x4 x5:Int) (x6:Bool) (x7:List PV) (x8:List PV) (x9:Nat) (xA xB xC xD xE xF xG xH xI xJ xK xL xM:Int) (xN:Bool) (xO:Int) (xP:List PV):Option PV :=
 runW EE z9 (zr EE z14 3 (mkT 34 [(0,(.ptr 0 0)),(1,(.ptr 0 2)),(8,(.int IntKind.i64 x0)),(9,(.int IntKind.i64 x1))]) [(.cells zg [(.int IntKind.i64 x2),(.int IntKind.i64 x3),(.int IntKind.i64 x4),(.int IntKind.i64 x5),(.bool x6)] false),(.cells z7 [(.sl 1 x7)] false),(.row zj 1 x8 0 (some x9)),(.cells z6 [(.int IntKind.i64 xA),(.int IntKind.i64 xB),(.int IntKind.i64 xC),(.int IntKind.i64 xD)] false),(.cells z6 [(.int IntKind.i64 xE),(.int IntKind.i64 xF),(.int IntKind.i64 xG),(.int IntKind.i64 xH)] false),(.cells zd [(.int IntKind.i64 xI)] false),(.cells z6 [(.int IntKind.i64 xJ),(.int IntKind.i64 xK),(.int IntKind.i64 xL),(.int IntKind.i64 xM)] false)] [frAt EE z8 17 8 (mkT 140 [(0,(.ptr 0 0)),(3,(.ptr 1 0)),(4,(.bool xN)),(5,(.ptr 2 0)),(8,(.int IntKind.i64 xO)),(10,(.ptr 3 0))]) [],frAt EE zf 3 3 (mkT 37 [(4,(.ptr 4 0)),(5,(.ptr 5 0)),(6,(.ptr 0 0))]) [((.func (Go.Fn.func zc) [] [(.ptr 4 0),(.ptr 5 0)]),[])],frAt EE za 14 1 (mkT 69 [(2,(.ptr 6 0)),(4,(.sl 1 xP))]) []] [])
noncomputable def z43 (x0 x1 x2 x3 x4 x5:Int) (x6:Bool) (x7:List PV) (x8:List PV) (x9:Nat) (xA xB xC xD xE xF xG xH xI xJ:Int) (xK:Bool) (xL:List UInt8) (xM:List PV):Option PV :=
 runW EE z9 (zr EE z14 0 (mkT 34 [(0,(.ptr 0 0)),(1,(.ptr 0 3)),(2,(.int IntKind.i64 x0)),(3,(.int IntKind.i64 x1))]) [(.cells zg [(.int IntKind.i64 x2),(.int IntKind.i64 x3),(.int IntKind.i64 x4),(.int IntKind.i64 x5),(.bool x6)] false),(.cells z7 [(.sl 1 x7)] false),(.row zj 1 x8 0 (some x9)),(.cells z6 [(.int IntKind.i64 xA),(.int IntKind.i64 xB),(.int IntKind.i64 xC),(.int IntKind.i64 xD)] false),(.cells zd [(.int IntKind.i64 xE)] false),(.cells z6 [(.int IntKind.i64 xF),(.int IntKind.i64 xG),(.int IntKind.i64 xH),(.int IntKind.i64 xI)] false)] [frAt EE zk 16 6 (mkT 82 [(0,(.ptr 0 0)),(10,(.int IntKind.i64 xJ))]) [],frAt EE z8 8 2 (mkT 140 [(0,(.ptr 0 0)),(3,(.ptr 1 0)),(4,(.bool xK)),(5,(.ptr 2 0)),(6,(.str xL))]) [],frAt EE zf 3 3 (mkT 37 [(4,(.ptr 3 0)),(5,(.ptr 4 0)),(6,(.ptr 0 0))]) [((.func (Go.Fn.func zc) [] [(.ptr 3 0),(.ptr 4 0)]),[])],frAt EE za 14 1 (mkT 69 [(2,(.ptr 5 0)),(4,(.sl 1 xM))]) []] [])
noncomputable def z28 (x0:Bool) (x1 x2 x3 x4 x5:Int) (x6:Bool) (x7:List PV) (x8:List PV) (x9:Nat) (xA xB xC xD xE xF xG xH xI xJ xK xL xM:Int) (xN:List PV):Option PV :=
 runW EE z9 (zr EE z8 18 (mkT 140 [(0,(.ptr 0 0)),(3,(.ptr 1 0)),(4,(.bool x0)),(5,(.ptr 2 0)),(8,(.int IntKind.i64 x1)),(10,(.ptr 3 0))]) [(.cells zg [(.int IntKind.i64 x2),(.int IntKind.i64 x3),(.int IntKind.i64 x4),(.int IntKind.i64 x5),(.bool x6)] false),(.cells z7 [(.sl 1 x7)] false),(.row zj 1 x8 0 (some x9)),(.cells z6 [(.int IntKind.i64 xA),(.int IntKind.i64 xB),(.int IntKind.i64 xC),(.int IntKind.i64 xD)] false),(.cells z6 [(.int IntKind.i64 xE),(.int IntKind.i64 xF),(.int IntKind.i64 xG),(.int IntKind.i64 xH)] false),(.cells zd [(.int IntKind.i64 xI)] false),(.cells z6 [(.int IntKind.i64 xJ),(.int IntKind.i64 xK),(.int IntKind.i64 xL),(.int IntKind.i64 xM)] false)] [frAt EE zf 3 3 (mkT 37 [(4,(.ptr 4 0)),(5,(.ptr 5 0)),(6,(.ptr 0 0))]) [((.func (Go.Fn.func zc) [] [(.ptr 4 0),(.ptr 5 0)]),[])],frAt EE za 14 1 (mkT 69 [(2,(.ptr 6 0)),(4,(.sl 1 xN))]) []] [])
noncomputable def z77 (x0 x1 x2 x3 x4 x5:Int) (x6:Bool) (x7:List PV) (x8:List PV) (x9:Nat) (xA xB xC xD xE xF xG xH xI xJ:Int) (xK:Bool) (xL:List UInt8) (xM:List PV):Option PV :=
 runW EE z9 (zr EE z14 1 (mkT 34 [(0,(.ptr 0 0)),(1,(.ptr 0 3)),(8,(.int IntKind.i64 x0)),(9,(.int IntKind.i64 x1))]) [(.cells zg [(.int IntKind.i64 x2),(.int IntKind.i64 x3),(.int IntKind.i64 x4),(.int IntKind.i64 x5),(.bool x6)] false),(.cells z7 [(.sl 1 x7)] false),(.row zj 1 x8 0 (some x9)),(.cells z6 [(.int IntKind.i64 xA),(.int IntKind.i64 xB),(.int IntKind.i64 xC),(.int IntKind.i64 xD)] false),(.cells zd [(.int IntKind.i64 xE)] false),(.cells z6 [(.int IntKind.i64 xF),(.int IntKind.i64 xG),(.int IntKind.i64 xH),(.int IntKind.i64 xI)] false)] [frAt EE zk 16 6 (mkT 82 [(0,(.ptr 0 0)),(10,(.int IntKind.i64 xJ))]) [],frAt EE z8 8 2 (mkT 140 [(0,(.ptr 0 0)),(3,(.ptr 1 0)),(4,(.bool xK)),(5,(.ptr 2 0)),(6,(.str xL))]) [],frAt EE zf 3 3 (mkT 37 [(4,(.ptr 3 0)),(5,(.ptr 4 0)),(6,(.ptr 0 0))]) [((.func (Go.Fn.func zc) [] [(.ptr 3 0),(.ptr 4 0)]),[])],frAt EE za 14 1 (mkT 69 [(2,(.ptr 5 0)),(4,(.sl 1 xM))]) []] [])
noncomputable def z42 (x0 x1 x2 x3 x4 x5:Int) (x6:Bool) (x7:List PV) (x8:List PV) (x9:Nat) (xA xB xC xD xE xF xG xH xI xJ xK xL xM:Int) (xN:Bool) (xO:Int) (xP:List PV):Option PV :=
 runW EE z9 (zr EE z14 0 (mkT 34 [(0,(.ptr 0 0)),(1,(.ptr 0 3)),(2,(.int IntKind.i64 x0)),(3,(.int IntKind.i64 x1))]) [(.cells zg [(.int IntKind.i64 x2),(.int IntKind.i64 x3),(.int IntKind.i64 x4),(.int IntKind.i64 x5),(.bool x6)] false),(.cells z7 [(.sl 1 x7)] false),(.row zj 1 x8 0 (some x9)),(.cells z6 [(.int IntKind.i64 xA),(.int IntKind.i64 xB),(.int IntKind.i64 xC),(.int IntKind.i64 xD)] false),(.cells z6 [(.int IntKind.i64 xE),(.int IntKind.i64 xF),(.int IntKind.i64 xG),(.int IntKind.i64 xH)] false),(.cells zd [(.int IntKind.i64 xI)] false),(.cells z6 [(.int IntKind.i64 xJ),(.int IntKind.i64 xK),(.int IntKind.i64 xL),(.int IntKind.i64 xM)] false)] [frAt EE z8 18 8 (mkT 140 [(0,(.ptr 0 0)),(3,(.ptr 1 0)),(4,(.bool xN)),(5,(.ptr 2 0)),(8,(.int IntKind.i64 xO)),(10,(.ptr 3 0))]) [],frAt EE zf 3 3 (mkT 37 [(4,(.ptr 4 0)),(5,(.ptr 5 0)),(6,(.ptr 0 0))]) [((.func (Go.Fn.func zc) [] [(.ptr 4 0),(.ptr 5 0)]),[])],frAt EE za 14 1 (mkT 69 [(2,(.ptr 6 0)),(4,(.sl 1 xP))]) []] [])
noncomputable def z3y (x0 x1 x2 x3 x4 x5:Int) (x6:Bool) (x7:List PV) (x8:List PV) (x9:Nat) (xA xB xC xD xE xF xG xH xI xJ:Int) (xK:Bool) (xL:List UInt8) (xM:List PV):Option PV :=
 runW EE z9 (zr EE z14 3 (mkT 34 [(0,(.ptr 0 0)),(1,(.ptr 0 3)),(8,(.int IntKind.i64 x0)),(9,(.int IntKind.i64 x1))]) [(.cells zg [(.int IntKind.i64 x2),(.int IntKind.i64 x3),(.int IntKind.i64 x4),(.int IntKind.i64 x5),(.bool x6)] false),(.cells z7 [(.sl 1 x7)] false),(.row zj 1 x8 0 (some x9)),(.cells z6 [(.int IntKind.i64 xA),(.int IntKind.i64 xB),(.int IntKind.i64 xC),(.int IntKind.i64 xD)] false),(.cells zd [(.int IntKind.i64 xE)] false),(.cells z6 [(.int IntKind.i64 xF),(.int IntKind.i64 xG),(.int IntKind.i64 xH),(.int IntKind.i64 xI)] false)] [frAt EE zk 16 6 (mkT 82 [(0,(.ptr 0 0)),(10,(.int IntKind.i64 xJ))]) [],frAt EE z8 8 2 (mkT 140 [(0,(.ptr 0 0)),(3,(.ptr 1 0)),(4,(.bool xK)),(5,(.ptr 2 0)),(6,(.str xL))]) [],frAt EE zf 3 3 (mkT 37 [(4,(.ptr 3 0)),(5,(.ptr 4 0)),(6,(.ptr 0 0))]) [((.func (Go.Fn.func zc) [] [(.ptr 3 0),(.ptr 4 0)]),[])],frAt EE za 14 1 (mkT 69 [(2,(.ptr 5 0)),(4,(.sl 1 xM))]) []] [])
noncomputable def z76 (x0 x1 x2 x3 x4 x5:Int) (x6:Bool) (x7:List PV) (x8:List PV) (x9:Nat) (xA xB xC xD xE xF xG xH xI xJ xK xL xM:Int) (xN:Bool) (xO:Int) (xP:List PV):Option PV :=
 runW EE z9 (zr EE z14 1 (mkT 34 [(0,(.ptr 0 0)),(1,(.ptr 0 3)),(8,(.int IntKind.i64 x0)),(9,(.int IntKind.i64 x1))]) [(.cells zg [(.int IntKind.i64 x2),(.int IntKind.i64 x3),(.int IntKind.i64 x4),(.int IntKind.i64 x5),(.bool x6)] false),(.cells z7 [(.sl 1 x7)] false),(.row zj 1 x8 0 (some x9)),(.cells z6 [(.int IntKind.i64 xA),(.int IntKind.i64 xB),(.int IntKind.i64 xC),(.int IntKind.i64 xD)] false),(.cells z6 [(.int IntKind.i64 xE),(.int IntKind.i64 xF),(.int IntKind.i64 xG),(.int IntKind.i64 xH)] false),(.cells zd [(.int IntKind.i64 xI)] false),(.cells z6 [(.int IntKind.i64 xJ),(.int IntKind.i64 xK),(.int IntKind.i64 xL),(.int IntKind.i64 xM)] false)] [frAt EE z8 18 8 (mkT 140 [(0,(.ptr 0 0)),(3,(.ptr 1 0)),(4,(.bool xN)),(5,(.ptr 2 0)),(8,(.int IntKind.i64 xO)),(10,(.ptr 3 0))]) [],frAt EE zf 3 3 (mkT 37 [(4,(.ptr 4 0)),(5,(.ptr 5 0)),(6,(.ptr 0 0))]) [((.func (Go.Fn.func zc) [] [(.ptr 4 0),(.ptr 5 0)]),[])],frAt EE za 14 1 (mkT 69 [(2,(.ptr 6 0)),(4,(.sl 1 xP))]) []] [])
noncomputable def z2f (x0 x1 x2 x3:Int) (x4:Bool) (x5:List PV) (x6:List PV) (x7:Nat) (x8 x9 xA xB xC xD xE xF xG:Int) (xH:Bool) (xI:List UInt8) (xJ:List PV):Option PV :=
 runW EE z9 (zr EE zk 17 (mkT 82 []) [(.cells zg [(.int IntKind.i64 x0),(.int IntKind.i64 x1),(.int IntKind.i64 x2),(.int IntKind.i64 x3),(.bool x4)] false),(.cells z7 [(.sl 1 x5)] false),(.row zj 1 x6 0 (some x7)),(.cells z6 [(.int IntKind.i64 x8),(.int IntKind.i64 x9),(.int IntKind.i64 xA),(.int IntKind.i64 xB)] false),(.cells zd [(.int IntKind.i64 xC)] false),(.cells z6 [(.int IntKind.i64 xD),(.int IntKind.i64 xE),(.int IntKind.i64 xF),(.int IntKind.i64 xG)] false)] [frAt EE z8 8 2 (mkT 140 [(0,(.ptr 0 0)),(3,(.ptr 1 0)),(4,(.bool xH)),(5,(.ptr 2 0)),(6,(.str xI))]) [],frAt EE zf 3 3 (mkT 37 [(4,(.ptr 3 0)),(5,(.ptr 4 0)),(6,(.ptr 0 0))]) [((.func (Go.Fn.func zc) [] [(.ptr 3 0),(.ptr 4 0)]),[])],frAt EE za 14 1 (mkT 69 [(2,(.ptr 5 0)),(4,(.sl 1 xJ))]) []] [])
noncomputable def z3x (x0 x1 x2 x3 x4 x5:Int) (x6:Bool) (x7:List PV) (x8:List PV) (x9:Nat) (xA xB xC xD xE xF xG xH xI xJ xK xL xM:Int) (xN:Bool) (xO:Int) (xP:List PV):Option PV :=
 runW EE z9 (zr EE z14 3 (mkT 34 [(0,(.ptr 0 0)),(1,(.ptr 0 3)),(8,(.int IntKind.i64 x0)),(9,(.int IntKind.i64 x1))]) [(.cells zg [(.int IntKind.i64 x2),(.int IntKind.i64 x3),(.int IntKind.i64 x4),(.int IntKind.i64 x5),(.bool x6)] false),(.cells z7 [(.sl 1 x7)] false),(.row zj 1 x8 0 (some x9)),(.cells z6 [(.int IntKind.i64 xA),(.int IntKind.i64 xB),(.int IntKind.i64 xC),(.int IntKind.i64 xD)] false),(.cells z6 [(.int IntKind.i64 xE),(.int IntKind.i64 xF),(.int IntKind.i64 xG),(.int IntKind.i64 xH)] false),(.cells zd [(.int IntKind.i64 xI)] false),(.cells z6 [(.int IntKind.i64 xJ),(.int IntKind.i64 xK),(.int IntKind.i64 xL),(.int IntKind.i64 xM)] false)] [frAt EE z8 18 8 (mkT 140 [(0,(.ptr 0 0)),(3,(.ptr 1 0)),(4,(.bool xN)),(5,(.ptr 2 0)),(8,(.int IntKind.i64 xO)),(10,(.ptr 3 0))]) [],frAt EE zf 3 3 (mkT 37 [(4,(.ptr 4 0)),(5,(.ptr 5 0)),(6,(.ptr 0 0))]) [((.func (Go.Fn.func zc) [] [(.ptr 4 0),(.ptr 5 0)]),[])],frAt EE za 14 1 (mkT 69 [(2,(.ptr 6 0)),(4,(.sl 1 xP))]) []] [])
noncomputable def z1a (x0:Bool) (x1 x2 x3 x4:Int) (x5:Bool) (x6:List PV) (x7:List PV) (x8:Nat) (x9 xA xB xC xD xE xF xG xH:Int) (xI:List PV):Option PV :=
 runW EE z9 (zr EE z8 9 (mkT 140 [(0,(.ptr 0 0)),(3,(.ptr 1 0)),(4,(.bool x0)),(5,(.ptr 2 0))]) [(.cells zg [(.int IntKind.i64 x1),(.int IntKind.i64 x2),(.int IntKind.i64 x3),(.int IntKind.i64 x4),(.bool x5)] false),(.cells z7 [(.sl 1 x6)] false),(.row zj 1 x7 0 (some x8)),(.cells z6 [(.int IntKind.i64 x9),(.int IntKind.i64 xA),(.int IntKind.i64 xB),(.int IntKind.i64 xC)] false),(.cells zd [(.int IntKind.i64 xD)] false),(.cells z6 [(.int IntKind.i64 xE),(.int IntKind.i64 xF),(.int IntKind.i64 xG),(.int IntKind.i64 xH)] false)] [frAt EE zf 3 3 (mkT 37 [(4,(.ptr 3 0)),(5,(.ptr 4 0)),(6,(.ptr 0 0))]) [((.func (Go.Fn.func zc) [] [(.ptr 3 0),(.ptr 4 0)]),[])],frAt EE za 14 1 (mkT 69 [(2,(.ptr 5 0)),(4,(.sl 1 xI))]) []] [])
noncomputable def z75 (x0:Bool) (x1 x2 x3 x4:Int) (x5:Bool) (x6:List PV) (x7:List PV) (x8:Nat) (x9 xA xB xC xD xE xF xG xH:Int) (xI:List PV):Option PV :=
 runW EE z9 (zr EE z8 10 (mkT 140 [(0,(.ptr 0 0)),(3,(.ptr 1 0)),(4,(.bool x0)),(5,(.ptr 2 0))]) [(.cells zg [(.int IntKind.i64 x1),(.int IntKind.i64 x2),(.int IntKind.i64 x3),(.int IntKind.i64 x4),(.bool x5)] false),(.cells z7 [(.sl 1 x6)] false),(.row zj 1 x7 0 (some x8)),(.cells z6 [(.int IntKind.i64 x9),(.int IntKind.i64 xA),(.int IntKind.i64 xB),(.int IntKind.i64 xC)] false),(.cells zd [(.int IntKind.i64 xD)] false),(.cells z6 [(.int IntKind.i64 xE),(.int IntKind.i64 xF),(.int IntKind.i64 xG),(.int IntKind.i64 xH)] false)] [frAt EE zf 3 3 (mkT 37 [(4,(.ptr 3 0)),(5,(.ptr 4 0)),(6,(.ptr 0 0))]) [((.func (Go.Fn.func zc) [] [(.ptr 3 0),(.ptr 4 0)]),[])],frAt EE za 14 1 (mkT 69 [(2,(.ptr 5 0)),(4,(.sl 1 xI))]) []] [])
noncomputable def z7v  : Option PV:=callF EE zcv []
noncomputable abbrev z1y:List TI:=funTI EE z1n
noncomputable def zf7 (a0:List UInt8) (a1_0 a1_1 a1_2:Int):Option PV:=callF EE z1n [(.str a0),(.agg [(.int IntKind.i64 a1_0),(.int IntKind.i64 a1_1),(.int IntKind.i64 a1_2)])]
noncomputable def z8n (x0:Bool) (x1 x2 x3 x4 x5:Int) (x6:List PV):Option PV :=
 runW EE z1y (zn EE z1n 9 (mkT 54 [(3,(.ptr 0 0)),(4,(.ptr 1 0)),(7,(.ptr 2 0)),(10,(.bool x0))]) [(.cells z2s [(.int IntKind.i64 x1),(.int IntKind.i64 x2),(.int IntKind.i64 x3)] false),(.cells z1o [(.int IntKind.i64 x4),(.int IntKind.i64 x5)] false),(.cells z7 [(.sl 1 x6)] false)])
noncomputable def za0 (x0:Bool) (x1:List PV) (x2 x3 x4 x5 x6 x7 x8 x9:Int) (xA:Bool) (xB:Bool) (xC:Int):Option PV :=
 runW EE z1y (zr EE z4j 3 (mkT 79 [(0,(.ptr 0 0)),(1,(.bool x0)),(6,(.ptr 1 0))]) [(.cells z7 [(.sl 1 x1)] false),(.cells zz [(.int IntKind.i64 x2),(.int IntKind.i64 x3),(.int IntKind.i64 x4)] false),(.cells z2s [(.int IntKind.i64 x5),(.int IntKind.i64 x6),(.int IntKind.i64 x7)] false),(.cells z1o [(.int IntKind.i64 x8),(.int IntKind.i64 x9)] false)] [frAt EE z1n 9 3 (mkT 54 [(3,(.ptr 2 0)),(4,(.ptr 3 0)),(7,(.ptr 0 0)),(10,(.bool xA)),(31,(.bool xB)),(32,(.ptr 2 1)),(33,(.int IntKind.i64 xC))]) []] [])
noncomputable def z4d (x0:Bool) (x1:Int) (x2:List PV) (x3 x4 x5 x6 x7 x8 x9 xA:Int) (xB:Bool) (xC:Bool) (xD:Int):Option PV :=
 runW EE z1y (zr EE z4j 5 (mkT 79 [(0,(.ptr 0 0)),(1,(.bool x0)),(2,(.int IntKind.i64 x1)),(6,(.ptr 1 0)),(8,.nili)]) [(.cells z7 [(.sl 1 x2)] false),(.cells zz [(.int IntKind.i64 x3),(.int IntKind.i64 x4),(.int IntKind.i64 x5)] false),(.cells z2s [(.int IntKind.i64 x6),(.int IntKind.i64 x7),(.int IntKind.i64 x8)] false),(.cells z1o [(.int IntKind.i64 x9),(.int IntKind.i64 xA)] false)] [frAt EE z1n 9 3 (mkT 54 [(3,(.ptr 2 0)),(4,(.ptr 3 0)),(7,(.ptr 0 0)),(10,(.bool xB)),(31,(.bool xC)),(32,(.ptr 2 1)),(33,(.int IntKind.i64 xD))]) []] [])
noncomputable def z6s (x0:Bool) (x1:List PV) (x2 x3 x4 x5 x6 x7 x8 x9:Int) (xA:List PV) (xB:Bool) (xC:Bool) (xD:Int):Option PV :=
 runW EE z1y (zr EE z4j 8 (mkT 79 [(1,(.bool x0)),(6,(.ptr 0 0)),(8,(.iface z11g (.sl 1 x1)))]) [(.cells zz [(.int IntKind.i64 x2),(.int IntKind.i64 x3),(.int IntKind.i64 x4)] false),(.cells z2s [(.int IntKind.i64 x5),(.int IntKind.i64 x6),(.int IntKind.i64 x7)] false),(.cells z1o [(.int IntKind.i64 x8),(.int IntKind.i64 x9)] false),(.cells z7 [(.sl 1 xA)] false)] [frAt EE z1n 9 3 (mkT 54 [(3,(.ptr 1 0)),(4,(.ptr 2 0)),(7,(.ptr 3 0)),(10,(.bool xB)),(31,(.bool xC)),(32,(.ptr 1 1)),(33,(.int IntKind.i64 xD))]) []] [])
noncomputable def z4c (x0:Bool) (x1:Int) (x2:List UInt8) (x3:Bool) (x4 x5 x6 x7 x8 x9 xA xB:Int) (xC:List PV) (xD:Bool) (xE:Bool) (xF:Int):Option PV :=
 runW EE z1y (zr EE z4j 6 (mkT 79 [(1,(.bool x0)),(2,(.int IntKind.i64 x1)),(6,(.ptr 0 0)),(8,.nili),(9,(.str x2)),(10,(.bool x3))]) [(.cells zz [(.int IntKind.i64 x4),(.int IntKind.i64 x5),(.int IntKind.i64 x6)] false),(.cells z2s [(.int IntKind.i64 x7),(.int IntKind.i64 x8),(.int IntKind.i64 x9)] false),(.cells z1o [(.int IntKind.i64 xA),(.int IntKind.i64 xB)] false),(.cells z7 [(.sl 1 xC)] false)] [frAt EE z1n 9 3 (mkT 54 [(3,(.ptr 1 0)),(4,(.ptr 2 0)),(7,(.ptr 3 0)),(10,(.bool xD)),(31,(.bool xE)),(32,(.ptr 1 1)),(33,(.int IntKind.i64 xF))]) []] [])
noncomputable def zw (x0 x1 x2 x3 x4 x5 x6 x7:Int) (x8:List PV) (x9:Bool) (xA:Bool) (xB:Int):Option PV :=
 runW EE z1y (zr EE z4j 12 (mkT 79 [(6,(.ptr 0 0))]) [(.cells zz [(.int IntKind.i64 x0),(.int IntKind.i64 x1),(.int IntKind.i64 x2)] false),(.cells z2s [(.int IntKind.i64 x3),(.int IntKind.i64 x4),(.int IntKind.i64 x5)] false),(.cells z1o [(.int IntKind.i64 x6),(.int IntKind.i64 x7)] false),(.cells z7 [(.sl 1 x8)] false)] [frAt EE z1n 9 3 (mkT 54 [(3,(.ptr 1 0)),(4,(.ptr 2 0)),(7,(.ptr 3 0)),(10,(.bool x9)),(31,(.bool xA)),(32,(.ptr 1 1)),(33,(.int IntKind.i64 xB))]) []] [])
noncomputable def z2c (x0:Bool) (x1 x2 x3 x4 x5 x6 x7 x8 x9 xA xB:Int) (xC:List PV) (xD:Bool) (xE:Bool) (xF:Int):Option PV :=
 runW EE z1y (zr EE z4j 13 (mkT 79 [(1,(.bool x0)),(6,(.ptr 0 0)),(11,(.ptr 1 0))]) [(.cells zz [(.int IntKind.i64 x1),(.int IntKind.i64 x2),(.int IntKind.i64 x3)] false),(.cells zz [(.int IntKind.i64 x4),(.int IntKind.i64 x5),(.int IntKind.i64 x6)] false),(.cells z2s [(.int IntKind.i64 x7),(.int IntKind.i64 x8),(.int IntKind.i64 x9)] false),(.cells z1o [(.int IntKind.i64 xA),(.int IntKind.i64 xB)] false),(.cells z7 [(.sl 1 xC)] false)] [frAt EE z1n 9 3 (mkT 54 [(3,(.ptr 2 0)),(4,(.ptr 3 0)),(7,(.ptr 4 0)),(10,(.bool xD)),(31,(.bool xE)),(32,(.ptr 2 1)),(33,(.int IntKind.i64 xF))]) []] [])
noncomputable def z8m (x0:Bool) (x1:List UInt8) (x2 x3 x4 x5 x6 x7 x8 x9:Int) (xA:List PV) (xB:Bool) (xC:Bool) (xD:Int):Option PV :=
 runW EE z1y (zr EE z4j 8 (mkT 79 [(1,(.bool x0)),(6,(.ptr 0 0)),(8,(.iface z11f (.str x1)))]) [(.cells zz [(.int IntKind.i64 x2),(.int IntKind.i64 x3),(.int IntKind.i64 x4)] false),(.cells z2s [(.int IntKind.i64 x5),(.int IntKind.i64 x6),(.int IntKind.i64 x7)] false),(.cells z1o [(.int IntKind.i64 x8),(.int IntKind.i64 x9)] false),(.cells z7 [(.sl 1 xA)] false)] [frAt EE z1n 9 3 (mkT 54 [(3,(.ptr 1 0)),(4,(.ptr 2 0)),(7,(.ptr 3 0)),(10,(.bool xB)),(31,(.bool xC)),(32,(.ptr 1 1)),(33,(.int IntKind.i64 xD))]) []] [])
noncomputable def z3b (x0:List UInt8) (x1:Int) (x2:List UInt8) (x3:Nat) (x4 x5 x6 x7 x8 x9 xA xB:Int) (xC:List PV) (xD:Bool) (xE:Int) (xF:List UInt8) (xG:List UInt8) (xH:Int) (xI:Bool) (xJ:Bool) (xK:Int):Option PV :=
 runW EE z1y (zr EE zzf 4 (mkT 37 [(0,(.str x0)),(1,(.int IntKind.i64 x1)),(12,(.ptr 0 0))]) [(.iter x2 x3),(.cells zz [(.int IntKind.i64 x4),(.int IntKind.i64 x5),(.int IntKind.i64 x6)] false),(.cells z2s [(.int IntKind.i64 x7),(.int IntKind.i64 x8),(.int IntKind.i64 x9)] false),(.cells z1o [(.int IntKind.i64 xA),(.int IntKind.i64 xB)] false),(.cells z7 [(.sl 1 xC)] false)] [frAt EE z4j 7 2 (mkT 79 [(1,(.bool xD)),(2,(.int IntKind.i64 xE)),(6,(.ptr 1 0)),(8,.nili),(9,(.str xF)),(41,(.str xG)),(42,(.int IntKind.i64 xH))]) [],frAt EE z1n 9 3 (mkT 54 [(3,(.ptr 2 0)),(4,(.ptr 3 0)),(7,(.ptr 4 0)),(10,(.bool xI)),(31,(.bool xJ)),(32,(.ptr 2 1)),(33,(.int IntKind.i64 xK))]) []] [])
noncomputable def z5g (x0:Bool) (x1 x2 x3 x4 x5 x6 x7 x8:Int) (x9:List PV) (xA:Bool) (xB:Bool) (xC:Int):Option PV :=
 runW EE z1y (zr EE z4j 8 (mkT 79 [(1,(.bool x0)),(6,(.ptr 0 0)),(8,.nili)]) [(.cells zz [(.int IntKind.i64 x1),(.int IntKind.i64 x2),(.int IntKind.i64 x3)] false),(.cells z2s [(.int IntKind.i64 x4),(.int IntKind.i64 x5),(.int IntKind.i64 x6)] false),(.cells z1o [(.int IntKind.i64 x7),(.int IntKind.i64 x8)] false),(.cells z7 [(.sl 1 x9)] false)] [frAt EE z1n 9 3 (mkT 54 [(3,(.ptr 1 0)),(4,(.ptr 2 0)),(7,(.ptr 3 0)),(10,(.bool xA)),(31,(.bool xB)),(32,(.ptr 1 1)),(33,(.int IntKind.i64 xC))]) []] [])
noncomputable def z2p (x0:Bool) (x1 x2:Int) (x3:List PV) (x4 x5 x6:Int):Option PV :=
 runW EE z1y (zn EE z1n 10 (mkT 54 [(4,(.ptr 0 0)),(7,(.ptr 1 0)),(11,(.ptr 2 0)),(12,(.bool x0))]) [(.cells z1o [(.int IntKind.i64 x1),(.int IntKind.i64 x2)] false),(.cells z7 [(.sl 1 x3)] false),(.cells zz [(.int IntKind.i64 x4),(.int IntKind.i64 x5),(.int IntKind.i64 x6)] false)])
noncomputable def z3k (x0 x1 x2 x3 x4 x5 x6 x7 x8 x9 xA:Int) (xB:List PV) (xC:Bool) (xD:Bool) (xE:Int):Option PV :=
 runW EE z1y (zr EE z4j 15 (mkT 79 [(6,(.ptr 0 0)),(11,(.ptr 1 0))]) [(.cells zz [(.int IntKind.i64 x0),(.int IntKind.i64 x1),(.int IntKind.i64 x2)] false),(.cells zz [(.int IntKind.i64 x3),(.int IntKind.i64 x4),(.int IntKind.i64 x5)] false),(.cells z2s [(.int IntKind.i64 x6),(.int IntKind.i64 x7),(.int IntKind.i64 x8)] false),(.cells z1o [(.int IntKind.i64 x9),(.int IntKind.i64 xA)] false),(.cells z7 [(.sl 1 xB)] false)] [frAt EE z1n 9 3 (mkT 54 [(3,(.ptr 2 0)),(4,(.ptr 3 0)),(7,(.ptr 4 0)),(10,(.bool xC)),(31,(.bool xD)),(32,(.ptr 2 1)),(33,(.int IntKind.i64 xE))]) []] [])
noncomputable def z3a (x0:Bool) (x1:List PV) (x2 x3 x4 x5 x6 x7 x8 x9 xA:Int) (xB:List PV) (xC:Bool) (xD:Bool) (xE:Int):Option PV :=
 runW EE z1y (zr EE z4j 8 (mkT 79 [(1,(.bool x0)),(6,(.ptr 0 0)),(8,(.iface zpi (.agg [(.sl 1 x1),(.int IntKind.i64 x2)])))]) [(.cells zz [(.int IntKind.i64 x3),(.int IntKind.i64 x4),(.int IntKind.i64 x5)] false),(.cells z2s [(.int IntKind.i64 x6),(.int IntKind.i64 x7),(.int IntKind.i64 x8)] false),(.cells z1o [(.int IntKind.i64 x9),(.int IntKind.i64 xA)] false),(.cells z7 [(.sl 1 xB)] false)] [frAt EE z1n 9 3 (mkT 54 [(3,(.ptr 1 0)),(4,(.ptr 2 0)),(7,(.ptr 3 0)),(10,(.bool xC)),(31,(.bool xD)),(32,(.ptr 1 1)),(33,(.int IntKind.i64 xE))]) []] [])
noncomputable def zib (x0 x1:Int):Option PV :=
 runW EE z1y (zn EE z1n 11 (mkT 54 [(4,(.ptr 0 0))]) [(.cells z1o [(.int IntKind.i64 x0),(.int IntKind.i64 x1)] false)])
noncomputable abbrev zco:List TI:=funTI EE z4k
noncomputable def zgb (a0:List UInt8) (a1_0 a1_1 a1_2:Int):Option PV:=callF EE z4k [(.str a0),(.agg [(.int IntKind.i64 a1_0),(.int IntKind.i64 a1_1),(.int IntKind.i64 a1_2)])]
noncomputable def z8v (x0 x1:Int):Option PV :=
 runW EE zco (zn EE z4k 2 (mkT 68 [(4,(.ptr 0 0))]) [(.cells z1o [(.int IntKind.i64 x0),(.int IntKind.i64 x1)] false)])
noncomputable def ze1 (x0:List UInt8) (x1 x2 x3 x4 x5:Int):Option PV :=
 runW EE zco (zn EE z4k 3 (mkT 68 [(0,(.str x0)),(3,(.ptr 0 0)),(4,(.ptr 1 0))]) [(.cells z2s [(.int IntKind.i64 x1),(.int IntKind.i64 x2),(.int IntKind.i64 x3)] false),(.cells z1o [(.int IntKind.i64 x4),(.int IntKind.i64 x5)] false)])
noncomputable abbrev zbh:List TI:=funTI EE z3o
noncomputable def z7u (a0:List UInt8):Option PV:=callF EE z3o [(.str a0)]
noncomputable def z2n (x0:List UInt8) (x1:Int) (x2:List PV):Option PV :=
 runW EE zbh (zn EE z3o 3 (mkT 29 [(0,(.str x0)),(3,(.lall 0)),(4,(.int IntKind.i64 x1))]) [(.row z11e 1 x2 0 none)])
noncomputable def zd0 (x0:List UInt8) (x1 x2:Int) (x3:List PV):Option PV :=
 runW EE zbh (zn EE z3o 7 (mkT 29 [(0,(.str x0)),(3,(.lall 0)),(4,(.int IntKind.i64 x1)),(5,(.int IntKind.u8 x2))]) [(.row z11e 1 x3 0 none)])
noncomputable def zmx (a0:List UInt8):Option PV:=callF EE zet [(.str a0)]
noncomputable def zg1 (a0:List PV):Option PV:=callF EE zc2 [(.sl 1 a0)]
noncomputable abbrev zz0:List TI:=funTI EE z94
noncomputable def z8y (a0:List UInt8):Option PV:=callF EE z94 [(.str a0)]
noncomputable def z8x (x0 x1:Int) (x2:List PV):Option PV :=
 runW EE zz0 (zn EE z94 3 (mkT 29 [(3,(.lall 0)),(8,(.lall 0)),(9,(.int IntKind.i64 x0)),(10,(.int IntKind.i64 x1))]) [(.row z11e 1 x2 0 none)])
noncomputable abbrev zz1:List TI:=funTI EE zc3
noncomputable def zmy (a0:List PV):Option PV:=callF EE zc3 [(.sl 1 a0)]
noncomputable def zeo (x0:List PV) (x1:List PV) (x2 x3:Int):Option PV :=
 runW EE zz1 (zn EE zc3 2 (mkT 23 [(0,(.sl 1 x0)),(5,(.sl 1 x1)),(6,(.int IntKind.i64 x2)),(7,(.int IntKind.i64 x3))]) [])
noncomputable def z6n (a0 a1 a2:Int):Option PV:=callF EE zdu [(.int IntKind.i64 a0),(.int IntKind.i64 a1),(.int IntKind.i64 a2)]
noncomputable def z1a2 (a0:List UInt8) (a1_0 a1_1 a1_2:Int):Option PV:=callF EE zxm [(.str a0),(.agg [(.int IntKind.i64 a1_0),(.int IntKind.i64 a1_1),(.int IntKind.i64 a1_2)])]
noncomputable def z13h (a0 a1 a2:Int):Option PV:=callF EE zxp [(.int IntKind.i64 a0),(.int IntKind.i64 a1),(.int IntKind.i64 a2)]
noncomputable abbrev zbe:List TI:=funTI EE z3l
noncomputable def zaf (a0:List UInt8):Option PV:=callF EE z3l [(.str a0)]
noncomputable def z1w (x0:List UInt8) (x1 x2:Int) (x3:List PV):Option PV :=
 runW EE zbe (zn EE z3l 4 (mkT 53 [(0,(.str x0)),(3,(.lall 0)),(4,(.int IntKind.i64 x1)),(5,(.int IntKind.i64 x2))]) [(.row z4y 1 x3 0 none)])
noncomputable def z1g (x0:List UInt8) (x1 x2:Int) (x3:List PV):Option PV :=
 runW EE zbe (zn EE z3l 7 (mkT 53 [(0,(.str x0)),(3,(.lall 0)),(4,(.int IntKind.i64 x1)),(5,(.int IntKind.i64 x2))]) [(.row z4y 1 x3 0 none)])
noncomputable def z8u (a0:List PV):Option PV:=callF EE zav [(.sl 1 a0)]
noncomputable abbrev zjw:List TI:=funTI EE z6y
noncomputable def zd9 (a0:List PV):Option PV:=callF EE z6y [(.sl 1 a0)]
noncomputable def z70 (x0:List PV) (x1:List UInt8):Option PV :=
 runW EE zjw (zn EE z6y 4 (mkT 28 [(0,(.sl 1 x0)),(4,(.str x1))]) [])
noncomputable abbrev z1u:List TI:=funTI EE z17
noncomputable def zc9 (a0:List PV) (a1:Bool) (a2:Int):Option PV:=callF EE z17 [(.sl 1 a0),(.bool a1),(.int IntKind.i64 a2)]
noncomputable def z6m (x0:List PV) (x1:Bool) (x2 x3 x4:Int) (x5:Bool):Option PV :=
 runW EE z1u (zn EE z17 6 (mkT 86 [(0,(.sl 1 x0)),(1,(.bool x1)),(12,(.ptr 0 0))]) [(.cells zm [(.int IntKind.i64 x2),(.int IntKind.i64 x3),(.int IntKind.i64 x4),(.bool x5)] false)])
noncomputable def z4l (x0:List PV) (x1:Bool) (x2 x3 x4 x5:Int) (x6:Bool):Option PV :=
 runW EE z1u (zn EE z17 8 (mkT 86 [(0,(.sl 1 x0)),(1,(.bool x1)),(11,(.int IntKind.i64 x2)),(12,(.ptr 0 0))]) [(.cells zm [(.int IntKind.i64 x3),(.int IntKind.i64 x4),(.int IntKind.i64 x5),(.bool x6)] false)])
noncomputable def z2y  : Option PV :=
 runW EE z1u (zn EE z17 9 (mkT 86 []) [])
noncomputable def zcy (x0:List PV) (x1:Bool) (x2 x3 x4 x5:Int) (x6:Bool):Option PV :=
 runW EE z1u (zn EE z17 10 (mkT 86 [(0,(.sl 1 x0)),(1,(.bool x1)),(11,(.int IntKind.i64 x2)),(12,(.ptr 0 0))]) [(.cells zm [(.int IntKind.i64 x3),(.int IntKind.i64 x4),(.int IntKind.i64 x5),(.bool x6)] false)])
noncomputable def z5q (x0:List PV) (x1 x2 x3 x4:Int) (x5:Bool):Option PV :=
 runW EE z1u (zn EE z17 12 (mkT 86 [(0,(.sl 1 x0)),(11,(.int IntKind.i64 x1)),(12,(.ptr 0 0))]) [(.cells zm [(.int IntKind.i64 x2),(.int IntKind.i64 x3),(.int IntKind.i64 x4),(.bool x5)] false)])
noncomputable def z5p  : Option PV :=
 runW EE z1u (zn EE z17 13 (mkT 86 []) [])
noncomputable def zcx (x0:List PV) (x1 x2 x3 x4:Int) (x5:Bool):Option PV :=
 runW EE z1u (zn EE z17 14 (mkT 86 [(0,(.sl 1 x0)),(11,(.int IntKind.i64 x1)),(12,(.ptr 0 0))]) [(.cells zm [(.int IntKind.i64 x2),(.int IntKind.i64 x3),(.int IntKind.i64 x4),(.bool x5)] false)])
noncomputable def zmt (a0_0 a0_1 a0_2 a0_3:Int):Option PV:=callF EE zql [(.agg [(.int IntKind.i64 a0_0),(.int IntKind.i64 a0_1),(.int IntKind.i64 a0_2),(.int IntKind.i64 a0_3)])]
noncomputable abbrev z2m:List TI:=funTI EE z1f
noncomputable def zfy (a0:List UInt8) (a1:PV):Option PV:=callF EE z1f [(.str a0),a1]
noncomputable def z1m (x0:List UInt8) (x1:PV) (x2:Int) (x3:List PV) (x4:Nat) (x5:List UInt8) (x6:Nat):Option PV :=
 runW EE z2m (zn EE z1f 4 (mkT 65 [(0,(.str x0)),(1,(.opq x1 0)),(5,(.lall 0)),(6,(.int IntKind.i64 x2)),(14,(.ptr 1 0))]) [(.row z15 2 x3 0 (some x4)),(.iter x5 x6)])
noncomputable def z1p (x0:List UInt8) (x1:PV) (x2:Int) (x3:List PV) (x4:List UInt8) (x5:Nat):Option PV :=
 runW EE z2m (zn EE z1f 4 (mkT 65 [(0,(.str x0)),(1,(.opq x1 0)),(5,(.lall 0)),(6,(.int IntKind.i64 x2)),(14,(.ptr 1 0))]) [(.row z15 2 x3 0 none),(.iter x4 x5)])
noncomputable def z5m (x0:List UInt8) (x1:List PV) (x2:Nat):Option PV :=
 runW EE z2m (zn EE z1f 14 (mkT 65 [(0,(.str x0)),(5,(.lall 0))]) [(.row z15 2 x1 0 (some x2))])
noncomputable def z2t (x0:List UInt8) (x1:List PV):Option PV :=
 runW EE z2m (zn EE z1f 14 (mkT 65 [(0,(.str x0)),(5,(.lall 0))]) [(.row z15 2 x1 0 none)])
noncomputable def z5l (x0:List UInt8) (x1 x2:Int) (x3:List PV) (x4:Nat) (x5:List PV) (x6:Nat):Option PV :=
 runW EE z2m (zn EE z1f 16 (mkT 65 [(0,(.str x0)),(9,(.lall 0)),(47,(.lall 1)),(48,(.int IntKind.i64 x1)),(49,(.int IntKind.i64 x2))]) [(.row z4y 1 x3 0 (some x4)),(.row z15 2 x5 0 (some x6))])
noncomputable def z4p (x0:List UInt8) (x1 x2:Int) (x3:List PV) (x4:Nat) (x5:List PV):Option PV :=
 runW EE z2m (zn EE z1f 16 (mkT 65 [(0,(.str x0)),(9,(.lall 0)),(47,(.lall 1)),(48,(.int IntKind.i64 x1)),(49,(.int IntKind.i64 x2))]) [(.row z4y 1 x3 0 (some x4)),(.row z15 2 x5 0 none)])
noncomputable def zkb (a0:Int):Option PV:=callF EE z8s [(.int IntKind.i32 a0)]
noncomputable def zwc (a0 a1 a2:Int):Option PV:=callF EE zg6 [(.int IntKind.i64 a0),(.int IntKind.i64 a1),(.int IntKind.i64 a2)]
noncomputable def zoc (a0:List UInt8) (a1:List UInt8):Option PV:=callF EE z5a [(.str a0),(.str a1)]
noncomputable def z2r (a0:List UInt8) (a1 a2:Int):Option PV:=callF EE zgr [(.str a0),(.int IntKind.i64 a1),(.int IntKind.i64 a2)]
noncomputable def zpf (a0:List UInt8) (a1:List UInt8):Option PV:=callF EE zkp [(.str a0),(.str a1)]
noncomputable abbrev z8z:List TI:=funTI EE z4i
noncomputable def zwp (a0:List UInt8):Option PV:=callF EE z4i [(.str a0)]
noncomputable def ztb (x0:List UInt8) (x1 x2 x3 x4:Int):Option PV :=
 runW EE z8z (zn EE z4i 5 (mkT 41 [(2,(.ptr 0 0)),(5,(.str x0))]) [(.cells z6 [(.int IntKind.i64 x1),(.int IntKind.i64 x2),(.int IntKind.i64 x3),(.int IntKind.i64 x4)] false)])
noncomputable def zq4 (x0:List UInt8) (x1 x2 x3 x4:Int):Option PV :=
 runW EE z8z (zn EE z4i 10 (mkT 41 [(2,(.ptr 0 0)),(5,(.str x0))]) [(.cells z6 [(.int IntKind.i64 x1),(.int IntKind.i64 x2),(.int IntKind.i64 x3),(.int IntKind.i64 x4)] false)])
noncomputable def zq3 (x0:List UInt8) (x1 x2 x3 x4:Int):Option PV :=
 runW EE z8z (zn EE z4i 13 (mkT 41 [(2,(.ptr 0 0)),(5,(.str x0))]) [(.cells z6 [(.int IntKind.i64 x1),(.int IntKind.i64 x2),(.int IntKind.i64 x3),(.int IntKind.i64 x4)] false)])
noncomputable def zq2 (x0:List UInt8) (x1 x2 x3 x4:Int):Option PV :=
 runW EE z8z (zn EE z4i 16 (mkT 41 [(2,(.ptr 0 0)),(5,(.str x0))]) [(.cells z6 [(.int IntKind.i64 x1),(.int IntKind.i64 x2),(.int IntKind.i64 x3),(.int IntKind.i64 x4)] false)])
noncomputable def zq1 (x0:List UInt8) (x1 x2 x3 x4:Int):Option PV :=
 runW EE z8z (zn EE z4i 19 (mkT 41 [(2,(.ptr 0 0)),(5,(.str x0))]) [(.cells z6 [(.int IntKind.i64 x1),(.int IntKind.i64 x2),(.int IntKind.i64 x3),(.int IntKind.i64 x4)] false)])
noncomputable def zq0 (x0:List UInt8) (x1 x2 x3 x4:Int):Option PV :=
 runW EE z8z (zn EE z4i 24 (mkT 41 [(2,(.ptr 0 0)),(5,(.str x0))]) [(.cells z6 [(.int IntKind.i64 x1),(.int IntKind.i64 x2),(.int IntKind.i64 x3),(.int IntKind.i64 x4)] false)])
noncomputable def z120 (a0_0 a0_1 a0_2 a0_3:Int):Option PV:=callF EE zot [(.agg [(.int IntKind.i64 a0_0),(.int IntKind.i64 a0_1),(.int IntKind.i64 a0_2),(.int IntKind.i64 a0_3)])]
noncomputable def zcb (a0 a1 a2:Int):Option PV:=callF EE zdy [(.int IntKind.i64 a0),(.int IntKind.i64 a1),(.int IntKind.i64 a2)]
noncomputable def z9g (a0:Int):Option PV:=callF EE zc5 [(.int IntKind.i64 a0)]
noncomputable def zmz (a0:List PV):Option PV:=callF EE zqm [(.sl 1 a0)]
noncomputable abbrev zpp:List TI:=funTI EE zdz
noncomputable def zhu (a0 a1:Int):Option PV:=callF EE zdz [(.int IntKind.i64 a0),(.int IntKind.i64 a1)]
noncomputable def zl4  : Option PV :=
 runW EE zpp (zn EE zdz 3 (mkT 22 []) [])
noncomputable def zty (x0 x1:Int) (x2:List PV) (x3:Nat):Option PV :=
 runW EE zpp (zn EE zdz 4 (mkT 22 [(0,(.int IntKind.i64 x0)),(1,(.int IntKind.i64 x1)),(5,(.ptr 0 0))]) [(.row z14q 1 x2 0 (some x3))])
noncomputable def z10u (a0 a1:Int):Option PV:=callF EE zqp [(.int IntKind.i64 a0),(.int IntKind.i64 a1)]
noncomputable def zsg (a0 a1 a2:Int):Option PV:=callF EE zqs [(.int IntKind.i64 a0),(.int IntKind.i64 a1),(.int IntKind.i64 a2)]
noncomputable def z18 (a0:List UInt8) (a1:List UInt8):Option PV:=callF EE zdv [(.str a0),(.str a1)]
noncomputable abbrev z27:List TI:=funTI EE z19
noncomputable def zah (a0:List UInt8) (a1:Int):Option PV:=callF EE z19 [(.str a0),(.int IntKind.i64 a1)]
noncomputable def z5o (x0:List UInt8) (x1:Int) (x2:List UInt8) (x3 x4 x5 x6:Int) (x7:Bool):Option PV :=
 runW EE z27 (zn EE z19 5 (mkT 113 [(0,(.str x0)),(1,(.int IntKind.i64 x1)),(4,(.ptr 0 0)),(5,(.str x2)),(6,(.int IntKind.i64 x3))]) [(.cells zm [(.int IntKind.i64 x4),(.int IntKind.i64 x5),(.int IntKind.i64 x6),(.bool x7)] false)])
noncomputable def z57 (x0:List PV) (x1 x2 x3:Int) (x4:Bool):Option PV :=
 runW EE z27 (zn EE z19 10 (mkT 113 [(4,(.ptr 0 0)),(7,(.sl 1 x0))]) [(.cells zm [(.int IntKind.i64 x1),(.int IntKind.i64 x2),(.int IntKind.i64 x3),(.bool x4)] false)])
noncomputable def z56 (x0:Int) (x1:List PV) (x2 x3 x4:Int) (x5:Bool):Option PV :=
 runW EE z27 (zn EE z19 11 (mkT 113 [(1,(.int IntKind.i64 x0)),(4,(.ptr 0 0)),(7,(.sl 1 x1))]) [(.cells zm [(.int IntKind.i64 x2),(.int IntKind.i64 x3),(.int IntKind.i64 x4),(.bool x5)] false)])
noncomputable def z2a (x0:List UInt8) (x1:List UInt8) (x2:List UInt8) (x3 x4 x5:Int) (x6:Bool):Option PV :=
 runW EE z27 (zn EE z19 23 (mkT 113 [(4,(.ptr 0 0)),(8,(.str x0)),(9,(.str x1)),(10,(.str x2))]) [(.cells zm [(.int IntKind.i64 x3),(.int IntKind.i64 x4),(.int IntKind.i64 x5),(.bool x6)] false)])
noncomputable def z55 (x0 x1 x2:Int) (x3:Bool):Option PV :=
 runW EE z27 (zn EE z19 24 (mkT 113 [(4,(.ptr 0 0))]) [(.cells zm [(.int IntKind.i64 x0),(.int IntKind.i64 x1),(.int IntKind.i64 x2),(.bool x3)] false)])
noncomputable def zc7 (x0:List UInt8) (x1:List UInt8) (x2:List UInt8) (x3 x4 x5:Int) (x6:Bool):Option PV :=
 runW EE z27 (zn EE z19 25 (mkT 113 [(4,(.ptr 0 0)),(8,(.str x0)),(9,(.str x1)),(10,(.str x2))]) [(.cells zm [(.int IntKind.i64 x3),(.int IntKind.i64 x4),(.int IntKind.i64 x5),(.bool x6)] false)])
noncomputable def z1r (a0:List UInt8):Option PV:=callF EE zcs [(.str a0)]
noncomputable abbrev z54:List TI:=funTI EE z1v
noncomputable def z7r (a0:List PV):Option PV:=callF EE z1v [(.sl 1 a0)]
noncomputable def z89 (x0:List PV) (x1:Int) (x2:List UInt8) (x3:List UInt8) (x4 x5 x6:Int) (x7:Bool):Option PV :=
 runW EE z54 (zn EE z1v 9 (mkT 62 [(0,(.sl 1 x0)),(2,(.ptr 0 0)),(3,(.int IntKind.i64 x1)),(4,(.str x2)),(5,(.str x3))]) [(.cells zm [(.int IntKind.i64 x4),(.int IntKind.i64 x5),(.int IntKind.i64 x6),(.bool x7)] false)])
noncomputable def zc8 (x0:Int) (x1:List UInt8) (x2:List UInt8) (x3 x4 x5:Int) (x6:Bool):Option PV :=
 runW EE z54 (zn EE z1v 10 (mkT 62 [(2,(.ptr 0 0)),(3,(.int IntKind.i64 x0)),(4,(.str x1)),(5,(.str x2))]) [(.cells zm [(.int IntKind.i64 x3),(.int IntKind.i64 x4),(.int IntKind.i64 x5),(.bool x6)] false)])
noncomputable def z3e (x0:Int) (x1:List UInt8) (x2:List UInt8) (x3 x4 x5:Int) (x6:Bool):Option PV :=
 runW EE z54 (zn EE z1v 11 (mkT 62 [(2,(.ptr 0 0)),(3,(.int IntKind.i64 x0)),(4,(.str x1)),(5,(.str x2))]) [(.cells zm [(.int IntKind.i64 x3),(.int IntKind.i64 x4),(.int IntKind.i64 x5),(.bool x6)] false)])
noncomputable def z58 (x0:List UInt8) (x1:List UInt8) (x2 x3 x4:Int) (x5:Bool) (x6 x7 x8:Int) (x9:Bool):Option PV :=
 runW EE z54 (zn EE z1v 12 (mkT 62 [(2,(.ptr 0 0)),(4,(.str x0)),(5,(.str x1)),(6,(.ptr 1 0))]) [(.cells zm [(.int IntKind.i64 x2),(.int IntKind.i64 x3),(.int IntKind.i64 x4),(.bool x5)] false),(.cells zm [(.int IntKind.i64 x6),(.int IntKind.i64 x7),(.int IntKind.i64 x8),(.bool x9)] false)])
noncomputable abbrev zdi:List TI:=funTI EE z51
noncomputable def z4a (a0 a1:Int):Option PV:=callF EE z51 [(.int IntKind.i64 a0),(.int IntKind.i64 a1)]
noncomputable def ze3 (x0 x1:Int):Option PV :=
 runW EE zdi (zn EE z51 10 (mkT 23 [(0,(.int IntKind.i64 x0)),(5,(.int IntKind.i64 x1))]) [])
noncomputable def ze2 (x0 x1:Int):Option PV :=
 runW EE zdi (zn EE z51 15 (mkT 23 [(0,(.int IntKind.i64 x0)),(5,(.int IntKind.i64 x1))]) [])
noncomputable def z18c (a0:Int):Option PV:=callF EE z10o [(.int IntKind.i64 a0)]
noncomputable def zi6 (a0:Int):Option PV:=callF EE zo4 [(.int IntKind.i64 a0)]
noncomputable def zhj (a0:Int):Option PV:=callF EE zqo [(.int IntKind.i64 a0)]
noncomputable abbrev z1c:List TI:=funTI EE z13
noncomputable def zde (a0:List UInt8) (a1:Int):Option PV:=callF EE z13 [(.str a0),(.int IntKind.i64 a1)]
noncomputable def zh1 (x0:List UInt8) (x1:Int):Option PV :=
 runW EE z1c (zn EE z13 8 (mkT 125 [(0,(.str x0)),(1,(.int IntKind.i64 x1))]) [])
noncomputable def zfx (x0:List UInt8) (x1:Int):Option PV :=
 runW EE z1c (zn EE z13 10 (mkT 125 [(0,(.str x0)),(6,(.int IntKind.u64 x1))]) [])
noncomputable def zfw (x0:List UInt8) (x1:Int):Option PV :=
 runW EE z1c (zn EE z13 11 (mkT 125 [(0,(.str x0)),(6,(.int IntKind.u64 x1))]) [])
noncomputable def z4o (x0:List UInt8) (x1:Int):Option PV :=
 runW EE z1c (zn EE z13 20 (mkT 125 [(0,(.str x0)),(7,(.int IntKind.i64 x1))]) [])
noncomputable def zpr (x0:List UInt8) (x1:Int):Option PV :=
 runW EE z1c (zn EE z13 30 (mkT 125 [(0,(.str x0)),(7,(.int IntKind.i64 x1))]) [])
noncomputable def zpt (x0:Int):Option PV :=
 runW EE z1c (zn EE z13 21 (mkT 125 [(7,(.int IntKind.i64 x0))]) [])
noncomputable def z8c (x0:List UInt8) (x1:Int):Option PV :=
 runW EE z1c (zn EE z13 22 (mkT 125 [(0,(.str x0)),(7,(.int IntKind.i64 x1))]) [])
noncomputable def zps (x0:Int):Option PV :=
 runW EE z1c (zn EE z13 23 (mkT 125 [(7,(.int IntKind.i64 x0))]) [])
noncomputable def z8b (x0:List UInt8) (x1:Int):Option PV :=
 runW EE z1c (zn EE z13 24 (mkT 125 [(0,(.str x0)),(7,(.int IntKind.i64 x1))]) [])
noncomputable def zbk (x0:Int):Option PV :=
 runW EE z1c (zn EE z13 25 (mkT 125 [(7,(.int IntKind.i64 x0))]) [])
noncomputable def zfv (x0:List UInt8) (x1:Int):Option PV :=
 runW EE z1c (zn EE z13 26 (mkT 125 [(0,(.str x0)),(7,(.int IntKind.i64 x1))]) [])
noncomputable def zjy (a0:List UInt8) (a1:List UInt8):Option PV:=callF EE zg5 [(.str a0),(.str a1)]
noncomputable abbrev zjv:List TI:=funTI EE z26
noncomputable def zd2 (a0:List UInt8):Option PV:=callF EE z26 [(.str a0)]
noncomputable def z6r (x0:List UInt8) (x1 x2:Int) (x3:List UInt8) (x4:Nat):Option PV :=
 runW EE zjv (zn EE z26 3 (mkT 37 [(0,(.str x0)),(4,(.int IntKind.i64 x1)),(5,(.int IntKind.i64 x2)),(9,(.ptr 0 0))]) [(.iter x3 x4)])
noncomputable def zgg (x0:List UInt8) (x1 x2 x3:Int) (x4:List UInt8) (x5:Nat):Option PV :=
 runW EE zjv (zn EE z26 9 (mkT 37 [(0,(.str x0)),(4,(.int IntKind.i64 x1)),(5,(.int IntKind.i64 x2)),(7,(.int IntKind.i32 x3)),(9,(.ptr 0 0))]) [(.iter x4 x5)])
noncomputable def zkh (a0 a1:Int):Option PV:=callF EE z66 [(.int IntKind.i64 a0),(.int IntKind.i64 a1)]
noncomputable def zki (a0 a1:Int):Option PV:=callF EE z7b [(.int IntKind.i64 a0),(.int IntKind.i64 a1)]
noncomputable def z92 (a0:List UInt8) (a1:List UInt8):Option PV:=callF EE z1i [(.str a0),(.str a1)]
noncomputable def z8a (a0:List UInt8) (a1:List UInt8):Option PV:=callF EE z6k [(.str a0),(.str a1)]
noncomputable def zem (a0:List UInt8) (a1:List UInt8):Option PV:=callF EE z85 [(.str a0),(.str a1)]
noncomputable def z3s (a0:List UInt8):Option PV:=callF EE zgq [(.str a0)]
noncomputable def zal (a0 a1 a2:Int):Option PV:=callF EE zct [(.int IntKind.i64 a0),(.int IntKind.i64 a1),(.int IntKind.i64 a2)]
noncomputable abbrev zjx:List TI:=funTI EE z6z
noncomputable def z7d (a0 a1 a2:Int):Option PV:=callF EE z6z [(.int IntKind.i64 a0),(.int IntKind.i64 a1),(.int IntKind.i64 a2)]
noncomputable def z71 (x0 x1 x2 x3:Int):Option PV :=
 runW EE zjx (zn EE z6z 3 (mkT 25 [(0,(.int IntKind.i64 x0)),(1,(.int IntKind.i64 x1)),(7,(.int IntKind.i64 x2)),(8,(.int IntKind.i64 x3))]) [])
noncomputable abbrev z88:List TI:=funTI EE z2u
noncomputable def z8i (a0:Int):Option PV:=callF EE z2u [(.int IntKind.i64 a0)]
noncomputable def z6q (x0 x1:Int):Option PV :=
 runW EE z88 (zn EE z2u 5 (mkT 45 [(6,(.int IntKind.i64 x0)),(7,(.int IntKind.i64 x1))]) [])
noncomputable def z6p (x0 x1 x2:Int):Option PV :=
 runW EE z88 (zn EE z2u 8 (mkT 45 [(6,(.int IntKind.i64 x0)),(7,(.int IntKind.i64 x1)),(8,(.int IntKind.i64 x2))]) [])
noncomputable def z5r (x0 x1 x2:Int):Option PV :=
 runW EE z88 (zn EE z2u 12 (mkT 45 [(6,(.int IntKind.i64 x0)),(7,(.int IntKind.i64 x1)),(9,(.int IntKind.i64 x2))]) [])
noncomputable def zew (a0:List UInt8):Option PV:=callF EE zqj [(.str a0)]
noncomputable def zsf (a0:Int):Option PV:=callF EE zqq [(.int IntKind.i64 a0)]
noncomputable def zp5 (a0 a1 a2:Int):Option PV:=callF EE zo8 [(.int IntKind.i64 a0),(.int IntKind.i64 a1),(.int IntKind.i64 a2)]
noncomputable abbrev z11u:List TI:=funTI EE zg8
noncomputable def zl2 (a0 a1 a2:Int):Option PV:=callF EE zg8 [(.int IntKind.i64 a0),(.int IntKind.i64 a1),(.int IntKind.i64 a2)]
noncomputable def zgd (x0 x1 x2:Int):Option PV :=
 runW EE z11u (zn EE zg8 3 (mkT 41 [(0,(.int IntKind.i64 x0)),(1,(.int IntKind.i64 x1)),(2,(.int IntKind.i64 x2))]) [])
noncomputable abbrev zam:List TI:=funTI EE z3c
noncomputable def zy (a0:List UInt8) (a1 a2:Int):Option PV:=callF EE z3c [(.str a0),(.int IntKind.i64 a1),(.int IntKind.i64 a2)]
noncomputable def z7s (x0:List UInt8) (x1:Bool):Option PV :=
 runW EE zam (zn EE z3c 2 (mkT 39 [(0,(.str x0)),(7,(.bool x1))]) [])
noncomputable def z2b (x0:List UInt8) (x1:Bool) (x2:Int):Option PV :=
 runW EE zam (zn EE z3c 3 (mkT 39 [(0,(.str x0)),(7,(.bool x1)),(8,(.int IntKind.i64 x2))]) [])
noncomputable def z16 (a0:List UInt8):Option PV:=callF EE zc4 [(.str a0)]
noncomputable abbrev zbf:List TI:=funTI EE z3m
noncomputable def zag (a0:List UInt8) (a1:Int):Option PV:=callF EE z3m [(.str a0),(.int IntKind.u8 a1)]
noncomputable def z3p (x0:List UInt8) (x1 x2:Int) (x3:List PV) (x4:Nat):Option PV :=
 runW EE zbf (zn EE z3m 3 (mkT 40 [(0,(.str x0)),(1,(.int IntKind.u8 x1)),(5,(.lall 0)),(6,(.int IntKind.i64 x2))]) [(.row z4y 1 x3 0 (some x4))])
noncomputable def z2x (x0:List UInt8) (x1 x2:Int) (x3:List PV):Option PV :=
 runW EE zbf (zn EE z3m 3 (mkT 40 [(0,(.str x0)),(1,(.int IntKind.u8 x1)),(5,(.lall 0)),(6,(.int IntKind.i64 x2))]) [(.row z4y 1 x3 0 none)])
noncomputable def zc6 (a0:List UInt8):Option PV:=callF EE zdt [(.str a0)]
noncomputable abbrev zbg:List TI:=funTI EE z3n
noncomputable def zaj (a0:List UInt8) (a1:List PV):Option PV:=callF EE z3n [(.str a0),(.sl 1 a1)]
noncomputable def z3q (x0:List UInt8) (x1:List PV) (x2:Int):Option PV :=
 runW EE zbg (zn EE z3n 2 (mkT 37 [(0,(.str x0)),(1,(.sl 1 x1)),(5,(.int IntKind.i64 x2))]) [])
noncomputable def zcz (x0:List UInt8) (x1:List PV) (x2:Int):Option PV :=
 runW EE zbg (zn EE z3n 4 (mkT 37 [(0,(.str x0)),(1,(.sl 1 x1)),(5,(.int IntKind.i64 x2))]) [])
noncomputable def z6o (a0:Int):Option PV:=callF EE zdw [(.int IntKind.i64 a0)]
noncomputable def z1d8 (a0 a1 a2 a3:Int):Option PV:=callF EE z13c [(.int IntKind.i64 a0),(.int IntKind.i64 a1),(.int IntKind.i64 a2),(.int IntKind.i64 a3)]
noncomputable def zr0 (a0 a1 a2 a3:Int):Option PV:=callF EE zkq [(.int IntKind.i64 a0),(.int IntKind.i64 a1),(.int IntKind.i64 a2),(.int IntKind.i64 a3)]
noncomputable def num_Sub (a0 a1:Int):Option PV:=callF EE z10n [(.int IntKind.i64 a0),(.int IntKind.i64 a1)]
noncomputable def zn9 (a0:Int):Option PV:=callF EE zqt [(.int IntKind.i64 a0)]
noncomputable def z1bh (a0 a1:Int):Option PV:=callF EE zxr [(.int IntKind.u64 a0),(.int IntKind.u64 a1)]
noncomputable def z91 (a0:List UInt8) (a1:List UInt8):Option PV:=callF EE zei [(.str a0),(.str a1)]
noncomputable abbrev zdh:List TI:=funTI EE z50
noncomputable def z90 (a0:List UInt8) (a1:List UInt8):Option PV:=callF EE z50 [(.str a0),(.str a1)]
noncomputable def z9c  : Option PV :=
 runW EE zdh (zn EE z50 3 (mkT 143 []) [])
noncomputable def zeg (x0:List UInt8) (x1:List UInt8) (x2:Int):Option PV :=
 runW EE zdh (zn EE z50 4 (mkT 143 [(0,(.str x0)),(1,(.str x1)),(5,(.int IntKind.i64 x2))]) [])
noncomputable abbrev zbd:List TI:=funTI EE z7o
noncomputable def zgz (a0:Int):Option PV:=callF EE z7o [(.int IntKind.i32 a0)]
noncomputable def zsn  : Option PV :=
 runW EE zbd (zn EE z7o 2 (mkT 42 []) [])
noncomputable def zfu (x0:Int):Option PV :=
 runW EE zbd (zn EE z7o 3 (mkT 42 [(0,(.int IntKind.i32 x0))]) [])
noncomputable def zft  : Option PV :=
 runW EE zbd (zn EE z7o 4 (mkT 42 []) [])
noncomputable def zjn (x0:Int):Option PV :=
 runW EE zbd (zn EE z7o 5 (mkT 42 [(0,(.int IntKind.i32 x0))]) [])
noncomputable def zbb  : Option PV :=
 runW EE zbd (zn EE z7o 10 (mkT 42 []) [])
noncomputable abbrev zz2:List TI:=funTI EE zeu
noncomputable def zs6 (a0:Bool) (a1_0 a1_1:Int):Option PV:=callF EE zeu [(.bool a0),(.agg [(.int IntKind.u64 a1_0),(.int IntKind.u64 a1_1)])]
noncomputable def zic (x0:Bool) (x1:List PV) (x2:Nat):Option PV :=
 runW EE zz2 (zn EE zeu 5 (mkT 31 [(0,(.bool x0)),(3,(.ptr 0 0))]) [(.row z14p 1 x1 0 (some x2))])
noncomputable def zx3 (a0 a1:Int):Option PV:=callF EE zo5 [(.int IntKind.i64 a0),(.int IntKind.i64 a1)]
noncomputable def zdj (a0:List UInt8) (a1:List UInt8):Option PV:=callF EE zau [(.str a0),(.str a1)]
noncomputable def zcp (a0:List UInt8) (a1:List UInt8):Option PV:=callF EE za2 [(.str a0),(.str a1)]
noncomputable abbrev zee:List TI:=funTI EE z5k
noncomputable def ziv (a0:List UInt8) (a1:List UInt8) (a2 a3:Int):Option PV:=callF EE z5k [(.str a0),(.str a1),(.int IntKind.i64 a2),(.int IntKind.i64 a3)]
noncomputable def zad (x0:List UInt8) (x1:List UInt8) (x2 x3:Int):Option PV :=
 runW EE zee (zn EE z5k 7 (mkT 66 [(0,(.str x0)),(1,(.str x1)),(2,(.int IntKind.i64 x2)),(3,(.int IntKind.i64 x3))]) [])
noncomputable def z6w (x0:List UInt8) (x1:List UInt8) (x2 x3 x4:Int) (x5:List PV) (x6:Nat):Option PV :=
 runW EE zee (zn EE z5k 11 (mkT 66 [(0,(.str x0)),(1,(.str x1)),(2,(.int IntKind.i64 x2)),(3,(.int IntKind.i64 x3)),(9,(.lall 0)),(10,(.int IntKind.i64 x4))]) [(.row z4y 1 x5 0 (some x6))])
noncomputable abbrev zi1:List TI:=funTI EE z5n
noncomputable def zak (a0:Int):Option PV:=callF EE z5n [(.int IntKind.i64 a0)]
noncomputable def z3r (x0 x1 x2:Int):Option PV :=
 runW EE zi1 (zn EE z5n 3 (mkT 24 [(0,(.int IntKind.i64 x0)),(3,(.int IntKind.i64 x1)),(4,(.int IntKind.i64 x2))]) [])
noncomputable def zda (a0:Int):Option PV:=callF EE zel [(.int IntKind.i64 a0)]
noncomputable def z95 (a0 a1:Int):Option PV:=callF EE zek [(.int IntKind.i64 a0),(.int IntKind.i64 a1)]
noncomputable def z49 (a0 a1:Int):Option PV:=callF EE zej [(.int IntKind.i64 a0),(.int IntKind.i64 a1)]
noncomputable def zre (a0:List UInt8) (a1:List PV):Option PV:=callF EE zqi [(.str a0),(.sl 1 a1)]
noncomputable def zis (a0 a1:Int):Option PV:=callF EE zo7 [(.int IntKind.i64 a0),(.int IntKind.i64 a1)]
noncomputable abbrev z4m:List TI:=funTI EE z1q
noncomputable def z9h (a0:List UInt8):Option PV:=callF EE z1q [(.str a0)]
noncomputable def z3f (x0:List UInt8) (x1 x2 x3:Int):Option PV :=
 runW EE z4m (zn EE z1q 4 (mkT 50 [(0,(.str x0)),(4,(.int IntKind.i64 x1)),(5,(.int IntKind.i64 x2)),(6,(.int IntKind.i64 x3))]) [])
noncomputable def z7c (x0:List UInt8) (x1 x2 x3:Int):Option PV :=
 runW EE z4m (zn EE z1q 10 (mkT 50 [(0,(.str x0)),(4,(.int IntKind.i64 x1)),(6,(.int IntKind.i64 x2)),(7,(.int IntKind.i64 x3))]) [])
noncomputable def z4t (x0:List UInt8) (x1 x2 x3 x4:Int):Option PV :=
 runW EE z4m (zn EE z1q 11 (mkT 50 [(0,(.str x0)),(4,(.int IntKind.i64 x1)),(5,(.int IntKind.i64 x2)),(6,(.int IntKind.i64 x3)),(7,(.int IntKind.i64 x4))]) [])
noncomputable def z7t (x0:List UInt8) (x1 x2 x3:Int):Option PV :=
 runW EE z4m (zn EE z1q 5 (mkT 50 [(0,(.str x0)),(4,(.int IntKind.i64 x1)),(5,(.int IntKind.i64 x2)),(6,(.int IntKind.i64 x3))]) [])
noncomputable def zy3 (a0:Int):Option PV:=callF EE ztu [(.int IntKind.i64 a0)]
noncomputable def zp4 (a0:Int):Option PV:=callF EE zo6 [(.int IntKind.i64 a0)]
noncomputable def zna (a0 a1:Int):Option PV:=callF EE zqu [(.int IntKind.u64 a0),(.int IntKind.u64 a1)]
noncomputable def z4e (a0:List UInt8) (a1:List UInt8):Option PV:=callF EE zat [(.str a0),(.str a1)]
noncomputable def z68 (a0:List UInt8) (a1:Int):Option PV:=callF EE zas [(.str a0),(.int IntKind.u8 a1)]
noncomputable def zva (a0:Int):Option PV:=callF EE zxn [(.int IntKind.i64 a0)]
noncomputable def zw8 (a0:List UInt8) (a1:Int):Option PV:=callF EE zqk [(.str a0),(.int IntKind.i64 a1)]
noncomputable abbrev zrv:List TI:=funTI EE zaa
noncomputable def zi5 (a0:List UInt8) (a1:List UInt8):Option PV:=callF EE zaa [(.str a0),(.str a1)]
noncomputable def zuc (x0:List UInt8) (x1:List UInt8) (x2:Int):Option PV :=
 runW EE zrv (zn EE zaa 6 (mkT 34 [(0,(.str x0)),(1,(.str x1)),(5,(.int IntKind.i64 x2))]) [])
noncomputable def zi4 (a0:List UInt8) (a1:List UInt8):Option PV:=callF EE ziy [(.str a0),(.str a1)]
noncomputable def zfd  : Option PV:=callF EE zcu []
noncomputable def zgc  : Option PV:=callF EE zdx []
noncomputable abbrev zaz:List TI:=funTI EE z20
noncomputable def z7g (a0:List PV) (a1:PV):Option PV:=callF EE z20 [(.sl 1 a0),a1]
noncomputable def z1z (x0:List PV) (x1:PV) (x2 x3:Int):Option PV :=
 runW EE zaz (zn EE z20 2 (mkT 19 [(0,(.sl 1 x0)),(1,(.opq x1 0)),(7,(.int IntKind.i64 x2)),(8,(.int IntKind.i64 x3))]) [])
noncomputable def zjo (a0:List UInt8) (q0:PV):Option PV:=callF EE z5j [(.str a0),q0]
noncomputable def zai (a0:Int):Option PV:=callF EE zcr [(.int IntKind.u8 a0)]
noncomputable def zy5  : Option PV:=callF EE zo9 []
noncomputable def z10x  : Option PV:=callF EE zqr []
noncomputable def zj7 (a0:List UInt8):Option PV:=callF EE zgp [(.str a0)]
noncomputable abbrev z2q:List TI:=funTI EE z1l
noncomputable def zf6 (a0:List PV):Option PV:=callF EE z1l [(.sl 1 a0)]
noncomputable def zq8 (x0:List PV) (x1 x2 x3 x4:Int) (x5:List PV) (x6:Nat):Option PV :=
 runW EE z2q (zn EE z1l 5 (mkT 52 [(0,(.sl 1 x0)),(2,(.ptr 0 0)),(4,(.int IntKind.i64 x1)),(5,(.lall 1))]) [(.cells zz [(.int IntKind.i64 x2),(.int IntKind.i64 x3),(.int IntKind.i64 x4)] false),(.row z4y 1 x5 0 (some x6))])
noncomputable def znf (x0:List PV) (x1:Int) (x2:Nat) (x3:Nat) (x4 x5 x6:Int) (x7:List PV) (x8:Nat):Option PV :=
 runW EE z2q (zn EE z1l 5 (mkT 52 [(0,(.sl 1 x0)),(2,(.ptr 0 0)),(4,(.int IntKind.i64 x1)),(5,(.lsl 1 x2 x3 none))]) [(.cells zz [(.int IntKind.i64 x4),(.int IntKind.i64 x5),(.int IntKind.i64 x6)] false),(.row z4y 1 x7 0 (some x8))])
noncomputable def z9e (x0:List PV) (x1 x2 x3 x4:Int) (x5:List PV):Option PV :=
 runW EE z2q (zn EE z1l 5 (mkT 52 [(0,(.sl 1 x0)),(2,(.ptr 0 0)),(4,(.int IntKind.i64 x1)),(5,(.lall 1))]) [(.cells zz [(.int IntKind.i64 x2),(.int IntKind.i64 x3),(.int IntKind.i64 x4)] false),(.row z4y 1 x5 0 none)])
noncomputable def z4z (x0:List PV) (x1:Int) (x2:Nat) (x3:Nat) (x4 x5 x6:Int) (x7:List PV):Option PV :=
 runW EE z2q (zn EE z1l 5 (mkT 52 [(0,(.sl 1 x0)),(2,(.ptr 0 0)),(4,(.int IntKind.i64 x1)),(5,(.lsl 1 x2 x3 none))]) [(.cells zz [(.int IntKind.i64 x4),(.int IntKind.i64 x5),(.int IntKind.i64 x6)] false),(.row z4y 1 x7 0 none)])
noncomputable def zeh (x0:List PV) (x1:Int) (x2:Nat) (x3:Nat) (x4 x5 x6:Int) (x7:List PV):Option PV :=
 runW EE z2q (zn EE z1l 6 (mkT 52 [(0,(.sl 1 x0)),(2,(.ptr 0 0)),(4,(.int IntKind.i64 x1)),(5,(.lsl 1 x2 x3 none))]) [(.cells zz [(.int IntKind.i64 x4),(.int IntKind.i64 x5),(.int IntKind.i64 x6)] false),(.row z4y 1 x7 0 none)])
noncomputable def z1h (x0:List PV) (x1:Int) (x2:Nat) (x3:Nat) (x4 x5 x6:Int) (x7:List PV):Option PV :=
 runW EE z2q (zn EE z1l 7 (mkT 52 [(0,(.sl 1 x0)),(2,(.ptr 0 0)),(4,(.int IntKind.i64 x1)),(5,(.lsl 1 x2 x3 none))]) [(.cells zz [(.int IntKind.i64 x4),(.int IntKind.i64 x5),(.int IntKind.i64 x6)] false),(.row z4y 1 x7 0 none)])
noncomputable def z12 (x0:Nat) (x1:Nat) (x2 x3:Int) (x4:List PV) (x5 x6 x7:Int) (x8:List PV) (x9:Int) (xA:Nat) (xB:Nat) (xC:Nat) (xD:Nat):Option PV :=
 runW EE z2q (zr EE zhf 1 (mkT 28 [(0,(.lsl 0 x0 x1 none)),(2,(.int IntKind.i64 x2)),(3,(.int IntKind.i64 x3))]) [(.row z4y 1 x4 0 none),(.cells zz [(.int IntKind.i64 x5),(.int IntKind.i64 x6),(.int IntKind.i64 x7)] false)] [frAt EE z1l 6 1 (mkT 52 [(0,(.sl 1 x8)),(2,(.ptr 1 0)),(4,(.int IntKind.i64 x9)),(5,(.lsl 0 xA xB none)),(26,(.lsl 0 xC xD none))]) []] [])
noncomputable abbrev zgh:List TI:=funTI EE z4s
noncomputable def z8k (a0:List PV) (a1:PV):Option PV:=callF EE z4s [(.sl 1 a0),a1]
noncomputable def z72 (x0:List PV) (x1:PV) (x2 x3:Int):Option PV :=
 runW EE zgh (zn EE z4s 2 (mkT 19 [(0,(.sl 1 x0)),(1,(.opq x1 0)),(7,(.int IntKind.i64 x2)),(8,(.int IntKind.i64 x3))]) [])
noncomputable def zh9 (a0:List UInt8):Option PV:=callF EE z2d [(.str a0)]
noncomputable def zf5 (a0:List UInt8):Option PV:=callF EE zg7 [(.str a0)]
noncomputable abbrev zez:List TI:=funTI EE z6l
noncomputable def zf4 (a0_0:List PV) (a0_1:Int):Option PV:=callF EE z6l [(.agg [(.sl 1 a0_0),(.int IntKind.i64 a0_1)])]
noncomputable def z4q (x0:List UInt8) (x1:List UInt8) (x2:List UInt8) (x3 x4 x5:Int):Option PV :=
 runW EE zez (zn EE z6l 6 (mkT 65 [(2,(.ptr 0 0)),(4,(.str x0)),(5,(.str x1)),(6,(.str x2))]) [(.cells zz [(.int IntKind.i64 x3),(.int IntKind.i64 x4),(.int IntKind.i64 x5)] false)])
noncomputable def zg0 (x0:List UInt8) (x1:List UInt8) (x2:List UInt8) (x3:List PV) (x4 x5 x6 x7:Int):Option PV :=
 runW EE zez (zn EE z6l 4 (mkT 65 [(1,(.ptr 0 0)),(2,(.ptr 1 0)),(4,(.str x0)),(5,(.str x1)),(6,(.str x2))]) [(.cells zpi [(.sl 1 x3),(.int IntKind.i64 x4)] false),(.cells zz [(.int IntKind.i64 x5),(.int IntKind.i64 x6),(.int IntKind.i64 x7)] false)])
noncomputable def zwm (a0:List UInt8):Option PV:=callF EE ztr [(.str a0)]
theorem zht (a0 a1 a2:Int):ze4 a0 a1 a2 =
  ((z52 a0).bind fun v1=>((catS (PV.toS v1) [32,121,101,97,114,115,32]).bind fun v2=>((z52 a1).bind fun v3=>((catS v2 (PV.toS v3)).bind fun v4=>((catS v4 [32,100,97,121,115,32]).bind fun v5=>((z52 a2).bind fun v6=>((catS v5 (PV.toS v6)).bind fun v7=>((catS v7 [32,115,101,99,111,110,100,115]).bind fun v8=>((z8l v8).bind fun v9=>((catS v8 [32,97,103,111]).bind fun v10=>((z8l v10).bind fun v11=>(bif (!(eqB (PV.toI (PV.tnth v9 1)) 0)) then (z4u (PV.toI (PV.tnth v9 1)) (PV.toI (PV.tnth v11 1))) else (bif (!(eqB (PV.toI (PV.tnth v11 1)) 0)) then (z4u (PV.toI (PV.tnth v9 1)) (PV.toI (PV.tnth v11 1))) else (z7e (PV.toI (PV.nth (PV.tnth v9 0) 0)) (PV.toI (PV.nth (PV.tnth v9 0) 1)) (PV.toI (PV.nth (PV.tnth v9 0) 2)) (PV.toI (PV.nth (PV.tnth v9 0) 3)) (PV.toI (PV.nth (PV.tnth v11 0) 0)) (PV.toI (PV.nth (PV.tnth v11 0) 1)) (PV.toI (PV.nth (PV.tnth v11 0) 2)) (PV.toI (PV.nth (PV.tnth v11 0) 3)))))))))))))))) :=
 (ze EE z2v _ rfl).trans (by kernel_rfl)
theorem zff (x0 x1:Int):z4u x0 x1 =
  (bif (eqB x0 10) then (bif (eqB x1 10) then ((z7v).bind fun v1=>(some (PV.bool (PV.toB v1)))) else (some (PV.bool false))) else (some (PV.bool false))) :=
 (zb EE _ _).trans (by kernel_rfl)
theorem zfe (x0 x1 x2 x3 x4 x5 x6 x7:Int):z7e x0 x1 x2 x3 x4 x5 x6 x7 =
  (bif ((eqB x4 0)&&((eqB x5 (IntKind.wrap .i64 (0-x1)))&&((eqB x6 (IntKind.wrap .i64 (0-x2)))&&((eqB x7 (IntKind.wrap .i64 (0-x3)))&&true)))) then ((z7v).bind fun v1=>(some (PV.bool (PV.toB v1)))) else (some (PV.bool false))) :=
 (zb EE _ _).trans (by kernel_rfl)
theorem zir (a0:Int):z52 a0 =
  (bif (ltB a0 0) then (z7w (IntKind.wrap .i64 (0-(IntKind.wrap .i64 (a0+1))))) else (z7w a0)) :=
 (ze EE z3d _ rfl).trans (by kernel_rfl)
theorem z9b (x0:Int):z7w x0 =
  (z3g x0 []) :=
 (zb EE _ _).trans (by kernel_rfl)
theorem z9a (x0:Int) (x1:List UInt8):z3g x0 x1 =
  (bif (ltB 9 x0) then ((catS [(UInt8.ofNat (Int.toNat (IntKind.wrap .u8 (IntKind.wrap .i64 (48+(Int.tmod x0 10))))))] x1).bind fun v1=>(z3g (IntKind.wrap .i64 (Int.tdiv x0 10)) v1)) else ((catS [(UInt8.ofNat (Int.toNat (IntKind.wrap .u8 (IntKind.wrap .i64 (48+x0)))))] x1).bind fun v2=>(some (PV.str v2)))) :=
 (zb EE _ _).trans (by kernel_rfl)
theorem z15b (a0:List UInt8):z8l a0 =
  (zth a0) :=
 (ze EE za _ rfl).trans (by kernel_rfl)
theorem zww (x0:List UInt8):zth x0 =
  ((zmx x0).bind fun v1=>(ztg x0 (PV.toL v1) 0 0 0 0)) :=
 (zb EE _ _).trans (by kernel_rfl)
theorem zwv (x0:List UInt8) (x1:List PV) (x2 x3 x4 x5:Int):ztg x0 x1 x2 x3 x4 x5 =
  ((zg1 x1).bind fun v1=>(ztf x0 x1 (PV.toB (PV.tnth v1 1)) x2 x3 x4 x5 (PV.toI (PV.nth (PV.tnth v1 0) 0)) (PV.toI (PV.nth (PV.tnth v1 0) 1)))) :=
 (zb EE _ _).trans (by kernel_rfl)
theorem zwu (x0:List UInt8) (x1:List PV) (x2:Bool) (x3 x4 x5 x6 x7 x8:Int):ztf x0 x1 x2 x3 x4 x5 x6 x7 x8 =
  (bif (ltB 2048 (((List.length x0):Nat):Int)) then (zte x3 x4 x5 x6) else (bif (eqB (((List.length x1):Nat):Int) 0) then (zte x3 x4 x5 x6) else (ztd x1 x2 x3 x4 x5 x6 x7 x8))) :=
 (zb EE _ _).trans (by kernel_rfl)
theorem zwt (x0:List PV) (x1:Bool) (x2 x3 x4 x5 x6 x7:Int):ztd x0 x1 x2 x3 x4 x5 x6 x7 =
  (bif x1 then (bif (!(eqB x6 0)) then (z15d x2 x3 x4 x5 x6 x7) else (zg2 x0 x2 x3 x4 x5)) else (zg2 x0 x2 x3 x4 x5)) :=
 (zb EE _ _).trans (by kernel_rfl)
theorem zws (x0:List PV) (x1 x2 x3 x4:Int):zg2 x0 x1 x2 x3 x4 =
  ((rdI tiStr x0 0).bind fun v1=>((z8y (PV.toS v1)).bind fun v2=>(ztc x0 x1 x2 x3 x4 (PV.toS v2)))) :=
 (zb EE _ _).trans (by kernel_rfl)
theorem zwr (x0:List PV) (x1 x2 x3 x4:Int) (x5:List UInt8):ztc x0 x1 x2 x3 x4 x5 =
  (bif (eqB (((List.length x0):Nat):Int) 1) then ((atS x5 0).bind fun v1=>(bif (eqB v1 112) then (z15c x0 x1 x2 x3 x4 x5) else (zep x0 x1 x2 x3 x4))) else (zep x0 x1 x2 x3 x4)) :=
 (zb EE _ _).trans (by kernel_rfl)
theorem zum (x0:List PV) (x1 x2 x3 x4:Int):zep x0 x1 x2 x3 x4 =
  ((zmy x0).bind fun v1=>(bif (PV.toB v1) then (z12k x0 x1 x2 x3 x4) else (zia x0 x1 x2 x3 x4))) :=
 (zb EE _ _).trans (by kernel_rfl)
theorem zul (x0:List PV) (x1 x2 x3 x4:Int):zia x0 x1 x2 x3 x4 =
  (z97 x0 x1 x2 x3 x4 x0) :=
 (zb EE _ _).trans (by kernel_rfl)
theorem ze9 (x0:List PV) (x1 x2 x3 x4:Int) (x5:List PV):z97 x0 x1 x2 x3 x4 x5 =
  (z7k x0 0 0 0 0 false 0 0 0 0 0 x1 x2 x3 x4 x5) :=
 (zb EE _ _).trans (by kernel_rfl)
theorem zbz (x0:List PV) (x1 x2 x3 x4:Int) (x5:Bool) (x6 x7 x8 x9 xA xB xC xD xE:Int) (xF:List PV):z7k x0 x1 x2 x3 x4 x5 x6 x7 x8 x9 xA xB xC xD xE xF =
  (bif (ltB 1 (((List.length x0):Nat):Int)) then ((rdI tiStr x0 (IntKind.wrap .i64 ((((List.length x0):Nat):Int)-1))).bind fun v1=>((zpf (PV.toS v1) [97,103,111]).bind fun v2=>(z4g (PV.toB v2) x1 x2 x3 x4 x5 x0 x6 x7 x8 x9 xA xB xC xD xE xF))) else (z4g false x1 x2 x3 x4 x5 x0 x6 x7 x8 x9 xA xB xC xD xE xF)) :=
 (zb EE _ _).trans (by kernel_rfl)
theorem z6j (x0:Bool) (x1 x2 x3 x4:Int) (x5:Bool) (x6:List PV) (x7 x8 x9 xA xB xC xD xE xF:Int) (xG:List PV):z4g x0 x1 x2 x3 x4 x5 x6 x7 x8 x9 xA xB xC xD xE xF xG =
  (bif x0 then ((takeS x6 (IntKind.wrap .i64 ((((List.length x6):Nat):Int)-1))).bind fun v1=>(z2k x0 x1 x2 x3 x4 x5 v1 x7 x8 x9 xA xB xC xD xE xF xG)) else (z2k x0 x1 x2 x3 x4 x5 x6 x7 x8 x9 xA xB xC xD xE xF xG)) :=
 (zb EE _ _).trans (by kernel_rfl)
theorem zby (x0:Bool) (x1 x2 x3 x4:Int) (x5:Bool) (x6:List PV) (x7 x8 x9 xA xB xC xD xE xF:Int) (xG:List PV):z2k x0 x1 x2 x3 x4 x5 x6 x7 x8 x9 xA xB xC xD xE xF xG =
  (bif (!(ltB 0 (((List.length x6):Nat):Int))) then (some (PV.tuple [(PV.agg [(PV.int .i64 0),(PV.int .i64 0),(PV.int .i64 0),(PV.int .i64 0)]),(PV.int .i64 13)])) else (z7j x0 x1 x2 x3 x4 x5 x6 x7 x8 x9 xA xB xC xD xE xF xG)) :=
 (zb EE _ _).trans (by kernel_rfl)
theorem zbx (x0:Bool) (x1 x2 x3 x4:Int) (x5:Bool) (x6:List PV) (x7 x8 x9 xA xB xC xD xE xF:Int) (xG:List PV):z7j x0 x1 x2 x3 x4 x5 x6 x7 x8 x9 xA xB xC xD xE xF xG =
  (z10 x0 x1 x2 x3 x4 x5 x6 [(PV.bool false),(PV.bool false),(PV.bool false),(PV.bool false),(PV.bool false),(PV.bool false),(PV.bool false),(PV.bool false)] 8 x7 x8 x9 xA xB xC xD xE xF xG) :=
 (zb EE _ _).trans (by kernel_rfl)
theorem z6i (x0:Bool) (x1 x2 x3 x4:Int) (x5:Bool) (x6:List PV) (x7:List PV) (x8:Nat) (x9 xA xB xC xD xE xF xG xH:Int) (xI:List PV):z10 x0 x1 x2 x3 x4 x5 x6 x7 x8 x9 xA xB xC xD xE xF xG xH xI =
  (bif (eqB (((List.length x6):Nat):Int) 0) then (z2j x0 [] false x1 x2 x3 x4 x5 x6 x7 x8 x9 xA xB xC xD xE xF xG xH xI) else ((rdI tiStr x6 0).bind fun v1=>((dropS x6 1).bind fun v2=>(z2j x0 (PV.toS v1) true x1 x2 x3 x4 x5 v2 x7 x8 x9 xA xB xC xD xE xF xG xH xI)))) :=
 (zb EE _ _).trans (by kernel_rfl)
theorem z6h (x0:Bool) (x1:List UInt8) (x2:Bool) (x3 x4 x5 x6:Int) (x7:Bool) (x8:List PV) (x9:List PV) (xA:Nat) (xB xC xD xE xF xG xH xI xJ:Int) (xK:List PV):z2j x0 x1 x2 x3 x4 x5 x6 x7 x8 x9 xA xB xC xD xE xF xG xH xI xJ xK =
  (bif (!x2) then (bif x0 then ((z120 x3 x4 x5 x6).bind fun v1=>(z73 (PV.toI (PV.tnth v1 1)) x3 x4 x5 x6 x7 (PV.toI (PV.nth (PV.tnth v1 0) 0)) (PV.toI (PV.nth (PV.tnth v1 0) 1)) (PV.toI (PV.nth (PV.tnth v1 0) 2)) (PV.toI (PV.nth (PV.tnth v1 0) 3)) xB xC xD xE xF xG xH xI xJ xK)) else (z3j xB xC xD xE xF x3 x4 x5 x6 x7 xG xH xI xJ xK)) else (z4v x1 x3 x4 x5 x6 x7 x8 x9 xA xB xC xD xE xF xG xH xI xJ x0 x1 xK)) :=
 (zb EE _ _).trans (by kernel_rfl)
theorem z5t (x0 x1 x2 x3 x4:Int) (x5:Bool) (x6 x7 x8 x9 xA xB xC xD xE xF xG xH xI:Int) (xJ:List PV):z73 x0 x1 x2 x3 x4 x5 x6 x7 x8 x9 xA xB xC xD xE xF xG xH xI xJ =
  (bif x5 then (z3t x1 x2 x3 x4 true x6 x7 x8 x9 xA xB xC xD xE xF xG xH xI xJ) else (z3t x1 x2 x3 x4 (!(eqB x0 0)) x6 x7 x8 x9 xA xB xC xD xE xF xG xH xI xJ)) :=
 (zb EE _ _).trans (by kernel_rfl)
theorem ze8 (x0 x1 x2 x3 x4 x5 x6 x7 x8:Int) (x9:Bool) (xA xB xC xD:Int) (xE:List PV):z3j x0 x1 x2 x3 x4 x5 x6 x7 x8 x9 xA xB xC xD xE =
  (bif x9 then (some (PV.tuple [(PV.agg [(PV.int .i64 0),(PV.int .i64 0),(PV.int .i64 0),(PV.int .i64 0)]),(PV.int .i64 10)])) else ((zwc x6 x7 x8).bind fun v1=>(some (PV.tuple [(PV.agg [(PV.int .i64 (PV.toI (PV.nth (PV.tnth v1 0) 0))),(PV.int .i64 (PV.toI (PV.nth (PV.tnth v1 0) 1))),(PV.int .i64 (PV.toI (PV.nth (PV.tnth v1 0) 2))),(PV.int .i64 (PV.toI (PV.nth (PV.tnth v1 0) 3)))]),(PV.int .i64 (PV.toI (PV.tnth v1 1)))])))) :=
 (zb EE _ _).trans (by kernel_rfl)
theorem zck (x0:List UInt8) (x1 x2 x3 x4:Int) (x5:Bool) (x6:List PV) (x7:List PV) (x8:Nat) (x9 xA xB xC xD xE xF xG xH:Int) (xI:Bool) (xJ:List UInt8) (xK:List PV):z4v x0 x1 x2 x3 x4 x5 x6 x7 x8 x9 xA xB xC xD xE xF xG xH xI xJ xK =
  ((zem x0 [58]).bind fun v1=>(z81 x0 (PV.toL v1) x1 x2 x3 x4 x5 x6 x7 x8 x9 xA xB xC xD xE xF xG xH xI xJ xK)) :=
 (zb EE _ _).trans (by kernel_rfl)
theorem z5s (x0 x1 x2 x3:Int) (x4:Bool) (x5 x6 x7 x8 x9 xA xB xC xD xE xF xG xH:Int) (xI:List PV):z3t x0 x1 x2 x3 x4 x5 x6 x7 x8 x9 xA xB xC xD xE xF xG xH xI =
  (z3j x9 xA xB xC xD x5 x6 x7 x8 x4 xE xF xG xH xI) :=
 (zb EE _ _).trans (by kernel_rfl)
theorem zcj (x0:List UInt8) (x1:List PV) (x2 x3 x4 x5:Int) (x6:Bool) (x7:List PV) (x8:List PV) (x9:Nat) (xA xB xC xD xE xF xG xH xI:Int) (xJ:Bool) (xK:List UInt8) (xL:List PV):z81 x0 x1 x2 x3 x4 x5 x6 x7 x8 x9 xA xB xC xD xE xF xG xH xI xJ xK xL =
  (bif (!(eqB (((List.length x1):Nat):Int) 3)) then (z80 x2 x3 x4 x5 x6 x7 x8 x9 xA xB xC xD xE xF xG xH xI xJ xK xL) else (z7z x0 x1 x2 x3 x4 x5 x6 x7 x8 x9 xA xB xC xD xE xF xG xH xI xJ xK xL)) :=
 (zb EE _ _).trans (by kernel_rfl)
theorem z22 (x0 x1 x2 x3:Int) (x4:Bool) (x5:List PV) (x6:List PV) (x7:Nat) (x8 x9 xA xB xC xD xE xF xG:Int) (xH:Bool) (xI:List UInt8) (xJ:List PV):z80 x0 x1 x2 x3 x4 x5 x6 x7 x8 x9 xA xB xC xD xE xF xG xH xI xJ =
  (z3w xH xI x0 x1 x2 x3 x4 x5 x6 x7 x8 x9 xA xB xC xD xE xF xG xJ) :=
 (zb EE _ _).trans (by kernel_rfl)
theorem zci (x0:List UInt8) (x1:List PV) (x2 x3 x4 x5:Int) (x6:Bool) (x7:List PV) (x8:List PV) (x9:Nat) (xA xB xC xD xE xF xG xH xI:Int) (xJ:Bool) (xK:List UInt8) (xL:List PV):z7z x0 x1 x2 x3 x4 x5 x6 x7 x8 x9 xA xB xC xD xE xF xG xH xI xJ xK xL =
  ((rdI tiStr x1 0).bind fun v1=>(z39 (PV.toS v1) true x2 x3 x4 x5 x6 x7 x8 x9 xA xB xC xD xE xF xG xH xI x0 x1 xJ xK xL)) :=
 (zb EE _ _).trans (by kernel_rfl)
theorem zb4 (x0:Bool) (x1:List UInt8) (x2 x3 x4 x5:Int) (x6:Bool) (x7:List PV) (x8:List PV) (x9:Nat) (xA xB xC xD xE xF xG xH xI:Int) (xJ:List PV):z3w x0 x1 x2 x3 x4 x5 x6 x7 x8 x9 xA xB xC xD xE xF xG xH xI xJ =
  (z38 x1 true x2 x3 x4 x5 x6 x7 x8 x9 xA xB xC xD xE xF xG xH xI x0 xJ) :=
 (zb EE _ _).trans (by kernel_rfl)
theorem z9z (x0:List UInt8) (x1:Bool) (x2 x3 x4 x5:Int) (x6:Bool) (x7:List PV) (x8:List PV) (x9:Nat) (xA xB xC xD xE xF xG xH xI:Int) (xJ:List UInt8) (xK:List PV) (xL:Bool) (xM:List UInt8) (xN:List PV):z39 x0 x1 x2 x3 x4 x5 x6 x7 x8 x9 xA xB xC xD xE xF xG xH xI xJ xK xL xM xN =
  ((z92 x0 [45]).bind fun v1=>(z6g x0 x1 (PV.toS (PV.tnth v1 0)) (PV.toB (PV.tnth v1 1)) x2 x3 x4 x5 x6 x7 x8 x9 xA xB xC xD xE xF xG xH xI xJ xK xL xM xN)) :=
 (zb EE _ _).trans (by kernel_rfl)
theorem z9y (x0:List UInt8) (x1:Bool) (x2 x3 x4 x5:Int) (x6:Bool) (x7:List PV) (x8:List PV) (x9:Nat) (xA xB xC xD xE xF xG xH xI:Int) (xJ:Bool) (xK:List PV):z38 x0 x1 x2 x3 x4 x5 x6 x7 x8 x9 xA xB xC xD xE xF xG xH xI xJ xK =
  ((z92 x0 [45]).bind fun v1=>(z6f x0 x1 (PV.toS (PV.tnth v1 0)) (PV.toB (PV.tnth v1 1)) x2 x3 x4 x5 x6 x7 x8 x9 xA xB xC xD xE xF xG xH xI xJ xK)) :=
 (zb EE _ _).trans (by kernel_rfl)
theorem z9x (x0:List UInt8) (x1:Bool) (x2:List UInt8) (x3:Bool) (x4 x5 x6 x7:Int) (x8:Bool) (x9:List PV) (xA:List PV) (xB:Nat) (xC xD xE xF xG xH xI xJ xK:Int) (xL:List UInt8) (xM:List PV) (xN:Bool) (xO:List UInt8) (xP:List PV):z6g x0 x1 x2 x3 x4 x5 x6 x7 x8 x9 xA xB xC xD xE xF xG xH xI xJ xK xL xM xN xO xP =
  (bif (!x3) then (bif x1 then (z6e x0 x3 x4 x5 x6 x7 x8 x9 xA xB xC xD xE xF xG xH xI xJ xK xL xM xN xO xP) else (z1e x2 x3 x4 x5 x6 x7 x8 x9 xA xB xC xD xE xF xG xH xI xJ xK xL xM xN xO xP)) else (z1e x2 x3 x4 x5 x6 x7 x8 x9 xA xB xC xD xE xF xG xH xI xJ xK xL xM xN xO xP)) :=
 (zb EE _ _).trans (by kernel_rfl)
theorem z9w (x0:List UInt8) (x1:Bool) (x2:List UInt8) (x3:Bool) (x4 x5 x6 x7:Int) (x8:Bool) (x9:List PV) (xA:List PV) (xB:Nat) (xC xD xE xF xG xH xI xJ xK:Int) (xL:Bool) (xM:List PV):z6f x0 x1 x2 x3 x4 x5 x6 x7 x8 x9 xA xB xC xD xE xF xG xH xI xJ xK xL xM =
  (bif (!x3) then (bif x1 then (z6d x0 x3 x4 x5 x6 x7 x8 x9 xA xB xC xD xE xF xG xH xI xJ xK xL xM) else (z1d x2 x3 x4 x5 x6 x7 x8 x9 xA xB xC xD xE xF xG xH xI xJ xK xL xM)) else (z1d x2 x3 x4 x5 x6 x7 x8 x9 xA xB xC xD xE xF xG xH xI xJ xK xL xM)) :=
 (zb EE _ _).trans (by kernel_rfl)
theorem z9v (x0:List UInt8) (x1:Bool) (x2 x3 x4 x5:Int) (x6:Bool) (x7:List PV) (x8:List PV) (x9:Nat) (xA xB xC xD xE xF xG xH xI:Int) (xJ:List UInt8) (xK:List PV) (xL:Bool) (xM:List UInt8) (xN:List PV):z6e x0 x1 x2 x3 x4 x5 x6 x7 x8 x9 xA xB xC xD xE xF xG xH xI xJ xK xL xM xN =
  ((z8a x0 [43]).bind fun v1=>(z1e (PV.toS v1) x1 x2 x3 x4 x5 x6 x7 x8 x9 xA xB xC xD xE xF xG xH xI xJ xK xL xM xN)) :=
 (zb EE _ _).trans (by kernel_rfl)
theorem z9t (x0:List UInt8) (x1:Bool) (x2 x3 x4 x5:Int) (x6:Bool) (x7:List PV) (x8:List PV) (x9:Nat) (xA xB xC xD xE xF xG xH xI:Int) (xJ:List UInt8) (xK:List PV) (xL:Bool) (xM:List UInt8) (xN:List PV):z1e x0 x1 x2 x3 x4 x5 x6 x7 x8 x9 xA xB xC xD xE xF xG xH xI xJ xK xL xM xN =
  ((zd2 x0).bind fun v1=>(z6c x1 (PV.toI (PV.tnth v1 0)) (PV.toI (PV.tnth v1 1)) x2 x3 x4 x5 x6 x7 x8 x9 xA xB xC xD xE xF xG xH xI xJ xK xL xM xN)) :=
 (zb EE _ _).trans (by kernel_rfl)
theorem z9u (x0:List UInt8) (x1:Bool) (x2 x3 x4 x5:Int) (x6:Bool) (x7:List PV) (x8:List PV) (x9:Nat) (xA xB xC xD xE xF xG xH xI:Int) (xJ:Bool) (xK:List PV):z6d x0 x1 x2 x3 x4 x5 x6 x7 x8 x9 xA xB xC xD xE xF xG xH xI xJ xK =
  ((z8a x0 [43]).bind fun v1=>(z1d (PV.toS v1) x1 x2 x3 x4 x5 x6 x7 x8 x9 xA xB xC xD xE xF xG xH xI xJ xK)) :=
 (zb EE _ _).trans (by kernel_rfl)
theorem z9s (x0:List UInt8) (x1:Bool) (x2 x3 x4 x5:Int) (x6:Bool) (x7:List PV) (x8:List PV) (x9:Nat) (xA xB xC xD xE xF xG xH xI:Int) (xJ:Bool) (xK:List PV):z1d x0 x1 x2 x3 x4 x5 x6 x7 x8 x9 xA xB xC xD xE xF xG xH xI xJ xK =
  ((zd2 x0).bind fun v1=>(z6b x1 (PV.toI (PV.tnth v1 0)) (PV.toI (PV.tnth v1 1)) x2 x3 x4 x5 x6 x7 x8 x9 xA xB xC xD xE xF xG xH xI xJ xK)) :=
 (zb EE _ _).trans (by kernel_rfl)
theorem z9r (x0:Bool) (x1 x2 x3 x4 x5 x6:Int) (x7:Bool) (x8:List PV) (x9:List PV) (xA:Nat) (xB xC xD xE xF xG xH xI xJ:Int) (xK:List UInt8) (xL:List PV) (xM:Bool) (xN:List UInt8) (xO:List PV):z6c x0 x1 x2 x3 x4 x5 x6 x7 x8 x9 xA xB xC xD xE xF xG xH xI xJ xK xL xM xN xO =
  (bif (!(!(eqB x2 13))) then (some (PV.tuple [(PV.agg [(PV.int .i64 0),(PV.int .i64 0),(PV.int .i64 0),(PV.int .i64 0)]),(PV.int .i64 13)])) else (z6a x0 x1 x2 x3 x4 x5 x6 x7 x8 x9 xA xB xC xD xE xF xG xH xI xJ xK xL xM xN xO)) :=
 (zb EE _ _).trans (by kernel_rfl)
theorem z9q (x0:Bool) (x1 x2 x3 x4 x5 x6:Int) (x7:Bool) (x8:List PV) (x9:List PV) (xA:Nat) (xB xC xD xE xF xG xH xI xJ:Int) (xK:Bool) (xL:List PV):z6b x0 x1 x2 x3 x4 x5 x6 x7 x8 x9 xA xB xC xD xE xF xG xH xI xJ xK xL =
  (bif (!(!(eqB x2 13))) then (some (PV.tuple [(PV.agg [(PV.int .i64 0),(PV.int .i64 0),(PV.int .i64 0),(PV.int .i64 0)]),(PV.int .i64 13)])) else (z69 x0 x1 x2 x3 x4 x5 x6 x7 x8 x9 xA xB xC xD xE xF xG xH xI xJ xK xL)) :=
 (zb EE _ _).trans (by kernel_rfl)
theorem z9p (x0:Bool) (x1 x2 x3 x4 x5 x6:Int) (x7:Bool) (x8:List PV) (x9:List PV) (xA:Nat) (xB xC xD xE xF xG xH xI xJ:Int) (xK:List UInt8) (xL:List PV) (xM:Bool) (xN:List UInt8) (xO:List PV):z6a x0 x1 x2 x3 x4 x5 x6 x7 x8 x9 xA xB xC xD xE xF xG xH xI xJ xK xL xM xN xO =
  (bif x7 then (z37 x0 x1 x3 x4 x5 x6 true x8 x9 xA xB xC xD xE xF xG xH xI xJ xK xL xM xN xO) else (z37 x0 x1 x3 x4 x5 x6 (!(eqB x2 0)) x8 x9 xA xB xC xD xE xF xG xH xI xJ xK xL xM xN xO)) :=
 (zb EE _ _).trans (by kernel_rfl)
theorem z9o (x0:Bool) (x1 x2 x3 x4 x5 x6:Int) (x7:Bool) (x8:List PV) (x9:List PV) (xA:Nat) (xB xC xD xE xF xG xH xI xJ:Int) (xK:Bool) (xL:List PV):z69 x0 x1 x2 x3 x4 x5 x6 x7 x8 x9 xA xB xC xD xE xF xG xH xI xJ xK xL =
  (bif x7 then (z36 x0 x1 x3 x4 x5 x6 true x8 x9 xA xB xC xD xE xF xG xH xI xJ xK xL) else (z36 x0 x1 x3 x4 x5 x6 (!(eqB x2 0)) x8 x9 xA xB xC xD xE xF xG xH xI xJ xK xL)) :=
 (zb EE _ _).trans (by kernel_rfl)
theorem z9n (x0:Bool) (x1 x2 x3 x4 x5:Int) (x6:Bool) (x7:List PV) (x8:List PV) (x9:Nat) (xA xB xC xD xE xF xG xH xI:Int) (xJ:List UInt8) (xK:List PV) (xL:Bool) (xM:List UInt8) (xN:List PV):z37 x0 x1 x2 x3 x4 x5 x6 x7 x8 x9 xA xB xC xD xE xF xG xH xI xJ xK xL xM xN =
  (bif x0 then (z1s xJ xK (IntKind.wrap .i64 (0-x1)) x2 x3 x4 x5 x6 x7 x8 x9 xA xB xC xD xE xF xG xH xI xL xM xN) else (z1s xJ xK x1 x2 x3 x4 x5 x6 x7 x8 x9 xA xB xC xD xE xF xG xH xI xL xM xN)) :=
 (zb EE _ _).trans (by kernel_rfl)
theorem z9m (x0:Bool) (x1 x2 x3 x4 x5:Int) (x6:Bool) (x7:List PV) (x8:List PV) (x9:Nat) (xA xB xC xD xE xF xG xH xI:Int) (xJ:Bool) (xK:List PV):z36 x0 x1 x2 x3 x4 x5 x6 x7 x8 x9 xA xB xC xD xE xF xG xH xI xJ xK =
  (bif x0 then (z1k xJ (IntKind.wrap .i64 (0-x1)) x2 x3 x4 x5 x6 x7 x8 x9 xA xB xC xD xE xF xG xH xI xK) else (z1k xJ x1 x2 x3 x4 x5 x6 x7 x8 x9 xA xB xC xD xE xF xG xH xI xK)) :=
 (zb EE _ _).trans (by kernel_rfl)
theorem zch (x0:List UInt8) (x1:List PV) (x2 x3 x4 x5 x6:Int) (x7:Bool) (x8:List PV) (x9:List PV) (xA:Nat) (xB xC xD xE xF xG xH xI xJ:Int) (xK:Bool) (xL:List UInt8) (xM:List PV):z1s x0 x1 x2 x3 x4 x5 x6 x7 x8 x9 xA xB xC xD xE xF xG xH xI xJ xK xL xM =
  ((rdI tiStr x1 2).bind fun v1=>((zoc (PV.toS v1) [46]).bind fun v2=>(z7y x0 x1 x2 (PV.toS (PV.tnth v2 0)) (PV.toS (PV.tnth v2 1)) (PV.toB (PV.tnth v2 2)) x3 x4 x5 x6 x7 x8 x9 xA xB xC xD xE xF xG xH xI xJ xK xL xM))) :=
 (zb EE _ _).trans (by kernel_rfl)
theorem zb3 (x0:Bool) (x1 x2 x3 x4 x5:Int) (x6:Bool) (x7:List PV) (x8:List PV) (x9:Nat) (xA xB xC xD xE xF xG xH xI:Int) (xJ:List PV):z1k x0 x1 x2 x3 x4 x5 x6 x7 x8 x9 xA xB xC xD xE xF xG xH xI xJ =
  (bif (eqB (((List.length x7):Nat):Int) 0) then (z3v x0 false x1 [] x2 x3 x4 x5 x6 x7 x8 x9 xA xB xC xD xE xF xG xH xI xJ) else ((rdI tiStr x7 0).bind fun v1=>((dropS x7 1).bind fun v2=>(z3v x0 true x1 (PV.toS v1) x2 x3 x4 x5 x6 v2 x8 x9 xA xB xC xD xE xF xG xH xI xJ)))) :=
 (zb EE _ _).trans (by kernel_rfl)
theorem zcg (x0:List UInt8) (x1:List PV) (x2:Int) (x3:List UInt8) (x4:List UInt8) (x5:Bool) (x6 x7 x8 x9:Int) (xA:Bool) (xB:List PV) (xC:List PV) (xD:Nat) (xE xF xG xH xI xJ xK xL xM:Int) (xN:Bool) (xO:List UInt8) (xP:List PV):z7y x0 x1 x2 x3 x4 x5 x6 x7 x8 x9 xA xB xC xD xE xF xG xH xI xJ xK xL xM xN xO xP =
  ((rdI tiStr x1 1).bind fun v1=>((z2r (PV.toS v1) 2 2).bind fun v2=>(bif (PV.toB v2) then ((z2r x3 2 2).bind fun v3=>(bif (!(PV.toB v3)) then (some (PV.tuple [(PV.agg [(PV.int .i64 0),(PV.int .i64 0),(PV.int .i64 0),(PV.int .i64 0)]),(PV.int .i64 13)])) else (z7x x0 x1 x2 x3 x4 x5 x6 x7 x8 x9 xA xB xC xD xE xF xG xH xI xJ xK xL xM xN xO xP))) else (some (PV.tuple [(PV.agg [(PV.int .i64 0),(PV.int .i64 0),(PV.int .i64 0),(PV.int .i64 0)]),(PV.int .i64 13)]))))) :=
 (zb EE _ _).trans (by kernel_rfl)
theorem z5v (x0:Bool) (x1:Bool) (x2:Int) (x3:List UInt8) (x4 x5 x6 x7:Int) (x8:Bool) (x9:List PV) (xA:List PV) (xB:Nat) (xC xD xE xF xG xH xI xJ xK:Int) (xL:List PV):z3v x0 x1 x2 x3 x4 x5 x6 x7 x8 x9 xA xB xC xD xE xF xG xH xI xJ xK xL =
  ((zwp x3).bind fun v1=>(z3u x0 x1 x2 (PV.toI (PV.tnth v1 1)) x4 x5 x6 x7 x8 x9 xA xB (PV.toI (PV.nth (PV.tnth v1 0) 0)) (PV.toI (PV.nth (PV.tnth v1 0) 1)) (PV.toI (PV.nth (PV.tnth v1 0) 2)) (PV.toI (PV.nth (PV.tnth v1 0) 3)) xC xD xE xF xG xH xI xJ xK xL)) :=
 (zb EE _ _).trans (by kernel_rfl)
theorem zcf (x0:List UInt8) (x1:List PV) (x2:Int) (x3:List UInt8) (x4:List UInt8) (x5:Bool) (x6 x7 x8 x9:Int) (xA:Bool) (xB:List PV) (xC:List PV) (xD:Nat) (xE xF xG xH xI xJ xK xL xM:Int) (xN:Bool) (xO:List UInt8) (xP:List PV):z7x x0 x1 x2 x3 x4 x5 x6 x7 x8 x9 xA xB xC xD xE xF xG xH xI xJ xK xL xM xN xO xP =
  (bif x5 then (z83 x4 x6 x7 x8 x9 xA xB xC xD xE xF xG xH xI xJ xK xL xM x0 x1 x2 x3 xN xO xP) else (z2i x0 x1 x2 x3 0 x6 x7 x8 x9 xA xB xC xD xE xF xG xH xI xJ xK xL xM xN xO xP)) :=
 (zb EE _ _).trans (by kernel_rfl)
theorem z5u (x0:Bool) (x1:Bool) (x2 x3 x4 x5 x6 x7:Int) (x8:Bool) (x9:List PV) (xA:List PV) (xB:Nat) (xC xD xE xF xG xH xI xJ xK xL xM xN xO:Int) (xP:List PV):z3u x0 x1 x2 x3 x4 x5 x6 x7 x8 x9 xA xB xC xD xE xF xG xH xI xJ xK xL xM xN xO xP =
  (bif x1 then (bif (ltB 0 x3) then (bif (inB 0 x3 ((8:Nat):Int)) then ((rdT zf0 xA (Int.toNat x3) 0).bind fun v1=>(bif (!(!(PV.toB v1))) then (some (PV.tuple [(PV.agg [(PV.int .i64 0),(PV.int .i64 0),(PV.int .i64 0),(PV.int .i64 0)]),(PV.int .i64 13)])) else (z74 x0 x2 x3 x4 x5 x6 x7 x8 x9 xA xB xC xD xE xF xG xH xI xJ xK xL xM xN xO xP))) else none) else (some (PV.tuple [(PV.agg [(PV.int .i64 0),(PV.int .i64 0),(PV.int .i64 0),(PV.int .i64 0)]),(PV.int .i64 13)]))) else (some (PV.tuple [(PV.agg [(PV.int .i64 0),(PV.int .i64 0),(PV.int .i64 0),(PV.int .i64 0)]),(PV.int .i64 13)]))) :=
 (zb EE _ _).trans (by kernel_rfl)
theorem zcm (x0:List UInt8) (x1 x2 x3 x4:Int) (x5:Bool) (x6:List PV) (x7:List PV) (x8:Nat) (x9 xA xB xC xD xE xF xG xH:Int) (xI:List UInt8) (xJ:List PV) (xK:Int) (xL:List UInt8) (xM:Bool) (xN:List UInt8) (xO:List PV):z83 x0 x1 x2 x3 x4 x5 x6 x7 x8 x9 xA xB xC xD xE xF xG xH xI xJ xK xL xM xN xO =
  ((z2r x0 1 6).bind fun v1=>(bif (!(PV.toB v1)) then (some (PV.tuple [(PV.agg [(PV.int .i64 0),(PV.int .i64 0),(PV.int .i64 0),(PV.int .i64 0)]),(PV.int .i64 13)])) else (z82 x0 x1 x2 x3 x4 x5 x6 x7 x8 x9 xA xB xC xD xE xF xG xH xI xJ xK xL xM xN xO))) :=
 (zb EE _ _).trans (by kernel_rfl)
theorem zbv (x0:List UInt8) (x1:List PV) (x2:Int) (x3:List UInt8) (x4 x5 x6 x7 x8:Int) (x9:Bool) (xA:List PV) (xB:List PV) (xC:Nat) (xD xE xF xG xH xI xJ xK xL:Int) (xM:Bool) (xN:List UInt8) (xO:List PV):z2i x0 x1 x2 x3 x4 x5 x6 x7 x8 x9 xA xB xC xD xE xF xG xH xI xJ xK xL xM xN xO =
  ((rdI tiStr x1 1).bind fun v1=>((z3s (PV.toS v1)).bind fun v2=>((z3s x3).bind fun v3=>(z7i x0 x2 x4 (PV.toI v2) (PV.toI v3) x5 x6 x7 x8 x9 xA xB xC xD xE xF xG xH xI xJ xK xL xM xN xO)))) :=
 (zb EE _ _).trans (by kernel_rfl)
theorem zb2 (x0:Bool) (x1 x2 x3 x4 x5 x6:Int) (x7:Bool) (x8:List PV) (x9:List PV) (xA:Nat) (xB xC xD xE xF xG xH xI xJ xK xL xM xN:Int) (xO:List PV):z74 x0 x1 x2 x3 x4 x5 x6 x7 x8 x9 xA xB xC xD xE xF xG xH xI xJ xK xL xM xN xO =
  (bif (inB 0 x2 ((8:Nat):Int)) then ((stC x9 (Int.toNat x2) 0 [(PV.bool true)]).bind fun v1=>(z46 x1 xC x3 x4 x5 x6 x7 x8 v1 xA xB xC xD xE xF xG xH xI xJ xK xL xM xN x0 x1 xO)) else none) :=
 (zb EE _ _).trans (by kernel_rfl)
theorem zcl (x0:List UInt8) (x1 x2 x3 x4:Int) (x5:Bool) (x6:List PV) (x7:List PV) (x8:Nat) (x9 xA xB xC xD xE xF xG xH:Int) (xI:List UInt8) (xJ:List PV) (xK:Int) (xL:List UInt8) (xM:Bool) (xN:List UInt8) (xO:List PV):z82 x0 x1 x2 x3 x4 x5 x6 x7 x8 x9 xA xB xC xD xE xF xG xH xI xJ xK xL xM xN xO =
  ((zde [48] (IntKind.wrap .i64 (6-(((List.length x0):Nat):Int)))).bind fun v1=>((catS x0 (PV.toS v1)).bind fun v2=>((z3s v2).bind fun v3=>(z2i xI xJ xK xL (PV.toI v3) x1 x2 x3 x4 x5 x6 x7 x8 x9 xA xB xC xD xE xF xG xH xM xN xO)))) :=
 (zb EE _ _).trans (by kernel_rfl)
theorem zbu (x0:List UInt8) (x1 x2 x3 x4 x5 x6 x7 x8:Int) (x9:Bool) (xA:List PV) (xB:List PV) (xC:Nat) (xD xE xF xG xH xI xJ xK xL:Int) (xM:Bool) (xN:List UInt8) (xO:List PV):z7i x0 x1 x2 x3 x4 x5 x6 x7 x8 x9 xA xB xC xD xE xF xG xH xI xJ xK xL xM xN xO =
  (bif (ltB x3 60) then (bif (!(ltB x4 60)) then (some (PV.tuple [(PV.agg [(PV.int .i64 0),(PV.int .i64 0),(PV.int .i64 0),(PV.int .i64 0)]),(PV.int .i64 13)])) else (z4f x0 x1 x2 x3 x4 x5 x6 x7 x8 x9 xA xB xC xD xE xF xG xH xI xJ xK xL xM xN xO)) else (some (PV.tuple [(PV.agg [(PV.int .i64 0),(PV.int .i64 0),(PV.int .i64 0),(PV.int .i64 0)]),(PV.int .i64 13)]))) :=
 (zb EE _ _).trans (by kernel_rfl)
theorem zba (x0 x1 x2 x3 x4 x5:Int) (x6:Bool) (x7:List PV) (x8:List PV) (x9:Nat) (xA xB xC xD xE xF xG xH xI xJ xK xL xM:Int) (xN:Bool) (xO:Int) (xP:List PV):z46 x0 x1 x2 x3 x4 x5 x6 x7 x8 x9 xA xB xC xD xE xF xG xH xI xJ xK xL xM xN xO xP =
  ((zkh x0 x1).bind fun v1=>(z7a (PV.toI (PV.tnth v1 0)) (PV.toI (PV.tnth v1 1)) x2 x3 x4 x5 x6 x7 x8 x9 xA xB xC xD xE xF xG xH xI xJ xK xL xM xN xO xP)) :=
 (zb EE _ _).trans (by kernel_rfl)
theorem zbt (x0:List UInt8) (x1 x2 x3 x4 x5 x6 x7 x8:Int) (x9:Bool) (xA:List PV) (xB:List PV) (xC:Nat) (xD xE xF xG xH xI xJ xK xL:Int) (xM:Bool) (xN:List UInt8) (xO:List PV):z4f x0 x1 x2 x3 x4 x5 x6 x7 x8 x9 xA xB xC xD xE xF xG xH xI xJ xK xL xM xN xO =
  ((atS x0 0).bind fun v1=>(bif (eqB v1 45) then (z2h x1 (IntKind.wrap .i64 (0-(IntKind.wrap .i64 (x2+(IntKind.wrap .i64 ((IntKind.wrap .i64 (x3*60000000))+(IntKind.wrap .i64 (x4*1000000)))))))) x5 x6 x7 x8 x9 xA xB xC xD xE xF xG xH xI xJ xK xL xM xN xO) else (z2h x1 (IntKind.wrap .i64 (x2+(IntKind.wrap .i64 ((IntKind.wrap .i64 (x3*60000000))+(IntKind.wrap .i64 (x4*1000000)))))) x5 x6 x7 x8 x9 xA xB xC xD xE xF xG xH xI xJ xK xL xM xN xO))) :=
 (zb EE _ _).trans (by kernel_rfl)
theorem z60 (x0 x1 x2 x3 x4 x5:Int) (x6:Bool) (x7:List PV) (x8:List PV) (x9:Nat) (xA xB xC xD xE xF xG xH xI xJ xK xL xM:Int) (xN:Bool) (xO:Int) (xP:List PV):z7a x0 x1 x2 x3 x4 x5 x6 x7 x8 x9 xA xB xC xD xE xF xG xH xI xJ xK xL xM xN xO xP =
  (bif (eqB x1 0) then ((zki x3 x0).bind fun v1=>(z41 (PV.toI (PV.tnth v1 0)) (PV.toI (PV.tnth v1 1)) x2 x3 x4 x5 x6 x7 x8 x9 xA xB xC xD xE xF xG xH xI xJ xK xL xM xN xO xP)) else (z41 x0 x1 x2 x3 x4 x5 x6 x7 x8 x9 xA xB xC xD xE xF xG xH xI xJ xK xL xM xN xO xP)) :=
 (zb EE _ _).trans (by kernel_rfl)
theorem zbs (x0 x1 x2 x3 x4 x5:Int) (x6:Bool) (x7:List PV) (x8:List PV) (x9:Nat) (xA xB xC xD xE xF xG xH xI:Int) (xJ:Bool) (xK:List UInt8) (xL:List PV):z2h x0 x1 x2 x3 x4 x5 x6 x7 x8 x9 xA xB xC xD xE xF xG xH xI xJ xK xL =
  (z45 x0 3600000000 x2 x3 x4 x5 x6 x7 x8 x9 xA xB xC xD xE xF xG xH xI x1 xJ xK xL) :=
 (zb EE _ _).trans (by kernel_rfl)
theorem z34 (x0 x1 x2 x3 x4 x5:Int) (x6:Bool) (x7:List PV) (x8:List PV) (x9:Nat) (xA xB xC xD xE xF xG xH xI xJ xK xL xM:Int) (xN:Bool) (xO:Int) (xP:List PV):z41 x0 x1 x2 x3 x4 x5 x6 x7 x8 x9 xA xB xC xD xE xF xG xH xI xJ xK xL xM xN xO xP =
  (bif (!(eqB x1 0)) then (z29 xN xO x2 x3 x4 x5 true x7 x8 x9 xA xB xC xD xE xF xG xH xI xJ xK xL xM xP) else (z29 xN xO x2 x0 x4 x5 x6 x7 x8 x9 xA xB xC xD xE xF xG xH xI xJ xK xL xM xP)) :=
 (zb EE _ _).trans (by kernel_rfl)
theorem zb9 (x0 x1 x2 x3 x4 x5:Int) (x6:Bool) (x7:List PV) (x8:List PV) (x9:Nat) (xA xB xC xD xE xF xG xH xI xJ:Int) (xK:Bool) (xL:List UInt8) (xM:List PV):z45 x0 x1 x2 x3 x4 x5 x6 x7 x8 x9 xA xB xC xD xE xF xG xH xI xJ xK xL xM =
  ((zkh x0 x1).bind fun v1=>(z79 (PV.toI (PV.tnth v1 0)) (PV.toI (PV.tnth v1 1)) x2 x3 x4 x5 x6 x7 x8 x9 xA xB xC xD xE xF xG xH xI xJ xK xL xM)) :=
 (zb EE _ _).trans (by kernel_rfl)
theorem zb1 (x0:Bool) (x1 x2 x3 x4 x5:Int) (x6:Bool) (x7:List PV) (x8:List PV) (x9:Nat) (xA xB xC xD xE xF xG xH xI xJ xK xL xM:Int) (xN:List PV):z29 x0 x1 x2 x3 x4 x5 x6 x7 x8 x9 xA xB xC xD xE xF xG xH xI xJ xK xL xM xN =
  (z44 x1 xC x2 x3 x4 x5 x6 x7 x8 x9 xA xB xC xD xE xF xG xH xI xJ xK xL xM x0 x1 xN) :=
 (zb EE _ _).trans (by kernel_rfl)
theorem z5z (x0 x1 x2 x3 x4 x5:Int) (x6:Bool) (x7:List PV) (x8:List PV) (x9:Nat) (xA xB xC xD xE xF xG xH xI xJ:Int) (xK:Bool) (xL:List UInt8) (xM:List PV):z79 x0 x1 x2 x3 x4 x5 x6 x7 x8 x9 xA xB xC xD xE xF xG xH xI xJ xK xL xM =
  (bif (eqB x1 0) then ((zki x5 x0).bind fun v1=>(z40 (PV.toI (PV.tnth v1 0)) (PV.toI (PV.tnth v1 1)) x2 x3 x4 x5 x6 x7 x8 x9 xA xB xC xD xE xF xG xH xI xJ xK xL xM)) else (z40 x0 x1 x2 x3 x4 x5 x6 x7 x8 x9 xA xB xC xD xE xF xG xH xI xJ xK xL xM)) :=
 (zb EE _ _).trans (by kernel_rfl)
theorem zb8 (x0 x1 x2 x3 x4 x5:Int) (x6:Bool) (x7:List PV) (x8:List PV) (x9:Nat) (xA xB xC xD xE xF xG xH xI xJ xK xL xM:Int) (xN:Bool) (xO:Int) (xP:List PV):z44 x0 x1 x2 x3 x4 x5 x6 x7 x8 x9 xA xB xC xD xE xF xG xH xI xJ xK xL xM xN xO xP =
  ((zkh x0 x1).bind fun v1=>(z78 (PV.toI (PV.tnth v1 0)) (PV.toI (PV.tnth v1 1)) x2 x3 x4 x5 x6 x7 x8 x9 xA xB xC xD xE xF xG xH xI xJ xK xL xM xN xO xP)) :=
 (zb EE _ _).trans (by kernel_rfl)
theorem z33 (x0 x1 x2 x3 x4 x5:Int) (x6:Bool) (x7:List PV) (x8:List PV) (x9:Nat) (xA xB xC xD xE xF xG xH xI xJ:Int) (xK:Bool) (xL:List UInt8) (xM:List PV):z40 x0 x1 x2 x3 x4 x5 x6 x7 x8 x9 xA xB xC xD xE xF xG xH xI xJ xK xL xM =
  (bif (!(eqB x1 0)) then (z2g xJ x2 x3 x4 x5 true x7 x8 x9 xA xB xC xD xE xF xG xH xI xK xL xM) else (z2g xJ x2 x3 x4 x0 x6 x7 x8 x9 xA xB xC xD xE xF xG xH xI xK xL xM)) :=
 (zb EE _ _).trans (by kernel_rfl)
theorem z5y (x0 x1 x2 x3 x4 x5:Int) (x6:Bool) (x7:List PV) (x8:List PV) (x9:Nat) (xA xB xC xD xE xF xG xH xI xJ xK xL xM:Int) (xN:Bool) (xO:Int) (xP:List PV):z78 x0 x1 x2 x3 x4 x5 x6 x7 x8 x9 xA xB xC xD xE xF xG xH xI xJ xK xL xM xN xO xP =
  (bif (eqB x1 0) then ((zki x4 x0).bind fun v1=>(z3z (PV.toI (PV.tnth v1 0)) (PV.toI (PV.tnth v1 1)) x2 x3 x4 x5 x6 x7 x8 x9 xA xB xC xD xE xF xG xH xI xJ xK xL xM xN xO xP)) else (z3z x0 x1 x2 x3 x4 x5 x6 x7 x8 x9 xA xB xC xD xE xF xG xH xI xJ xK xL xM xN xO xP)) :=
 (zb EE _ _).trans (by kernel_rfl)
theorem zbr (x0 x1 x2 x3 x4:Int) (x5:Bool) (x6:List PV) (x7:List PV) (x8:Nat) (x9 xA xB xC xD xE xF xG xH:Int) (xI:Bool) (xJ:List UInt8) (xK:List PV):z2g x0 x1 x2 x3 x4 x5 x6 x7 x8 x9 xA xB xC xD xE xF xG xH xI xJ xK =
  (z43 x0 1 x1 x2 x3 x4 x5 x6 x7 x8 x9 xA xB xC xD xE xF xG xH x0 xI xJ xK) :=
 (zb EE _ _).trans (by kernel_rfl)
theorem z32 (x0 x1 x2 x3 x4 x5:Int) (x6:Bool) (x7:List PV) (x8:List PV) (x9:Nat) (xA xB xC xD xE xF xG xH xI xJ xK xL xM:Int) (xN:Bool) (xO:Int) (xP:List PV):z3z x0 x1 x2 x3 x4 x5 x6 x7 x8 x9 xA xB xC xD xE xF xG xH xI xJ xK xL xM xN xO xP =
  (bif (!(eqB x1 0)) then (z28 xN xO x2 x3 x4 x5 true x7 x8 x9 xA xB xC xD xE xF xG xH xI xJ xK xL xM xP) else (z28 xN xO x2 x3 x0 x5 x6 x7 x8 x9 xA xB xC xD xE xF xG xH xI xJ xK xL xM xP)) :=
 (zb EE _ _).trans (by kernel_rfl)
theorem zb7 (x0 x1 x2 x3 x4 x5:Int) (x6:Bool) (x7:List PV) (x8:List PV) (x9:Nat) (xA xB xC xD xE xF xG xH xI xJ:Int) (xK:Bool) (xL:List UInt8) (xM:List PV):z43 x0 x1 x2 x3 x4 x5 x6 x7 x8 x9 xA xB xC xD xE xF xG xH xI xJ xK xL xM =
  ((zkh x0 x1).bind fun v1=>(z77 (PV.toI (PV.tnth v1 0)) (PV.toI (PV.tnth v1 1)) x2 x3 x4 x5 x6 x7 x8 x9 xA xB xC xD xE xF xG xH xI xJ xK xL xM)) :=
 (zb EE _ _).trans (by kernel_rfl)
theorem zb0 (x0:Bool) (x1 x2 x3 x4 x5:Int) (x6:Bool) (x7:List PV) (x8:List PV) (x9:Nat) (xA xB xC xD xE xF xG xH xI xJ xK xL xM:Int) (xN:List PV):z28 x0 x1 x2 x3 x4 x5 x6 x7 x8 x9 xA xB xC xD xE xF xG xH xI xJ xK xL xM xN =
  (z42 x1 xD x2 x3 x4 x5 x6 x7 x8 x9 xA xB xC xD xE xF xG xH xI xJ xK xL xM x0 x1 xN) :=
 (zb EE _ _).trans (by kernel_rfl)
theorem z5x (x0 x1 x2 x3 x4 x5:Int) (x6:Bool) (x7:List PV) (x8:List PV) (x9:Nat) (xA xB xC xD xE xF xG xH xI xJ:Int) (xK:Bool) (xL:List UInt8) (xM:List PV):z77 x0 x1 x2 x3 x4 x5 x6 x7 x8 x9 xA xB xC xD xE xF xG xH xI xJ xK xL xM =
  (bif (eqB x1 0) then ((zki x5 x0).bind fun v1=>(z3y (PV.toI (PV.tnth v1 0)) (PV.toI (PV.tnth v1 1)) x2 x3 x4 x5 x6 x7 x8 x9 xA xB xC xD xE xF xG xH xI xJ xK xL xM)) else (z3y x0 x1 x2 x3 x4 x5 x6 x7 x8 x9 xA xB xC xD xE xF xG xH xI xJ xK xL xM)) :=
 (zb EE _ _).trans (by kernel_rfl)
theorem zb6 (x0 x1 x2 x3 x4 x5:Int) (x6:Bool) (x7:List PV) (x8:List PV) (x9:Nat) (xA xB xC xD xE xF xG xH xI xJ xK xL xM:Int) (xN:Bool) (xO:Int) (xP:List PV):z42 x0 x1 x2 x3 x4 x5 x6 x7 x8 x9 xA xB xC xD xE xF xG xH xI xJ xK xL xM xN xO xP =
  ((zkh x0 x1).bind fun v1=>(z76 (PV.toI (PV.tnth v1 0)) (PV.toI (PV.tnth v1 1)) x2 x3 x4 x5 x6 x7 x8 x9 xA xB xC xD xE xF xG xH xI xJ xK xL xM xN xO xP)) :=
 (zb EE _ _).trans (by kernel_rfl)
theorem z31 (x0 x1 x2 x3 x4 x5:Int) (x6:Bool) (x7:List PV) (x8:List PV) (x9:Nat) (xA xB xC xD xE xF xG xH xI xJ:Int) (xK:Bool) (xL:List UInt8) (xM:List PV):z3y x0 x1 x2 x3 x4 x5 x6 x7 x8 x9 xA xB xC xD xE xF xG xH xI xJ xK xL xM =
  (bif (!(eqB x1 0)) then (z2f x2 x3 x4 x5 true x7 x8 x9 xA xB xC xD xE xF xG xH xI xK xL xM) else (z2f x2 x3 x4 x0 x6 x7 x8 x9 xA xB xC xD xE xF xG xH xI xK xL xM)) :=
 (zb EE _ _).trans (by kernel_rfl)
theorem z5w (x0 x1 x2 x3 x4 x5:Int) (x6:Bool) (x7:List PV) (x8:List PV) (x9:Nat) (xA xB xC xD xE xF xG xH xI xJ xK xL xM:Int) (xN:Bool) (xO:Int) (xP:List PV):z76 x0 x1 x2 x3 x4 x5 x6 x7 x8 x9 xA xB xC xD xE xF xG xH xI xJ xK xL xM xN xO xP =
  (bif (eqB x1 0) then ((zki x5 x0).bind fun v1=>(z3x (PV.toI (PV.tnth v1 0)) (PV.toI (PV.tnth v1 1)) x2 x3 x4 x5 x6 x7 x8 x9 xA xB xC xD xE xF xG xH xI xJ xK xL xM xN xO xP)) else (z3x x0 x1 x2 x3 x4 x5 x6 x7 x8 x9 xA xB xC xD xE xF xG xH xI xJ xK xL xM xN xO xP)) :=
 (zb EE _ _).trans (by kernel_rfl)
theorem zbq (x0 x1 x2 x3:Int) (x4:Bool) (x5:List PV) (x6:List PV) (x7:Nat) (x8 x9 xA xB xC xD xE xF xG:Int) (xH:Bool) (xI:List UInt8) (xJ:List PV):z2f x0 x1 x2 x3 x4 x5 x6 x7 x8 x9 xA xB xC xD xE xF xG xH xI xJ =
  (z1a xH x0 x1 x2 x3 x4 x5 x6 x7 x8 x9 xA xB xC xD xE xF xG xJ) :=
 (zb EE _ _).trans (by kernel_rfl)
theorem z30 (x0 x1 x2 x3 x4 x5:Int) (x6:Bool) (x7:List PV) (x8:List PV) (x9:Nat) (xA xB xC xD xE xF xG xH xI xJ xK xL xM:Int) (xN:Bool) (xO:Int) (xP:List PV):z3x x0 x1 x2 x3 x4 x5 x6 x7 x8 x9 xA xB xC xD xE xF xG xH xI xJ xK xL xM xN xO xP =
  (bif (!(eqB x1 0)) then (z10 xN x2 x3 x4 x5 true x7 x8 x9 xE xF xG xH xI xJ xK xL xM xP) else (z10 xN x2 x3 x4 x0 x6 x7 x8 x9 xE xF xG xH xI xJ xK xL xM xP)) :=
 (zb EE _ _).trans (by kernel_rfl)
theorem zbw (x0:Bool) (x1 x2 x3 x4:Int) (x5:Bool) (x6:List PV) (x7:List PV) (x8:Nat) (x9 xA xB xC xD xE xF xG xH:Int) (xI:List PV):z1a x0 x1 x2 x3 x4 x5 x6 x7 x8 x9 xA xB xC xD xE xF xG xH xI =
  ((rdT zf0 x7 5 0).bind fun v1=>(bif (!(PV.toB v1)) then ((rdT zf0 x7 6 0).bind fun v2=>(bif (!(PV.toB v2)) then ((rdT zf0 x7 7 0).bind fun v3=>(bif (!(!(PV.toB v3))) then (some (PV.tuple [(PV.agg [(PV.int .i64 0),(PV.int .i64 0),(PV.int .i64 0),(PV.int .i64 0)]),(PV.int .i64 13)])) else (z75 x0 x1 x2 x3 x4 x5 x6 x7 x8 x9 xA xB xC xD xE xF xG xH xI))) else (some (PV.tuple [(PV.agg [(PV.int .i64 0),(PV.int .i64 0),(PV.int .i64 0),(PV.int .i64 0)]),(PV.int .i64 13)])))) else (some (PV.tuple [(PV.agg [(PV.int .i64 0),(PV.int .i64 0),(PV.int .i64 0),(PV.int .i64 0)]),(PV.int .i64 13)])))) :=
 (zb EE _ _).trans (by kernel_rfl)
theorem zb5 (x0:Bool) (x1 x2 x3 x4:Int) (x5:Bool) (x6:List PV) (x7:List PV) (x8:Nat) (x9 xA xB xC xD xE xF xG xH:Int) (xI:List PV):z75 x0 x1 x2 x3 x4 x5 x6 x7 x8 x9 xA xB xC xD xE xF xG xH xI =
  ((stC x7 5 0 [(PV.bool true)]).bind fun v1=>((stC v1 6 0 [(PV.bool true)]).bind fun v2=>((stC v2 7 0 [(PV.bool true)]).bind fun v3=>(z10 x0 x1 x2 x3 x4 x5 x6 v3 x8 x9 xA xB xC xD xE xF xG xH xI)))) :=
 (zb EE _ _).trans (by kernel_rfl)
theorem zjk  : z7v  =
  ((z6n 2024 3 31).bind fun v1=>((zf7 [50,48,50,52,45,48,51,45,51,49] 0 2 0).bind fun v2=>((zf7 [51,47,51,49,47,50,48,50,52] 0 2 0).bind fun v3=>((zf7 [51,49,32,109,97,114,32,50,48,50,52] 0 2 0).bind fun v4=>((zf7 [50,48,50,52,48,51,51,49] 0 2 0).bind fun v5=>((z8l [49,32,121,101,97,114,32,45,50,32,109,111,110,115,32,48,51,58,48,48,58,48,48,32,97,103,111]).bind fun v6=>((z8l [80,49,89,50,77,51,68,84,52,72]).bind fun v7=>((z6n (-43) 3 15).bind fun v8=>((zf7 [48,48,52,52,45,48,51,45,49,53,32,66,67] 0 2 0).bind fun v9=>(bif ((eqB (PV.toI (PV.nth (PV.tnth v2 0) 0)) (PV.toI (PV.nth (PV.tnth v1 0) 0)))&&((eqB (PV.toI (PV.nth (PV.tnth v2 0) 1)) (PV.toI (PV.nth (PV.tnth v1 0) 1)))&&true)) then (bif (eqB (PV.toI (PV.tnth v2 1)) 0) then (bif ((eqB (PV.toI (PV.nth (PV.tnth v3 0) 0)) (PV.toI (PV.nth (PV.tnth v1 0) 0)))&&((eqB (PV.toI (PV.nth (PV.tnth v3 0) 1)) (PV.toI (PV.nth (PV.tnth v1 0) 1)))&&true)) then (bif (eqB (PV.toI (PV.tnth v3 1)) 0) then (bif ((eqB (PV.toI (PV.nth (PV.tnth v4 0) 0)) (PV.toI (PV.nth (PV.tnth v1 0) 0)))&&((eqB (PV.toI (PV.nth (PV.tnth v4 0) 1)) (PV.toI (PV.nth (PV.tnth v1 0) 1)))&&true)) then (bif (eqB (PV.toI (PV.tnth v4 1)) 0) then (bif ((eqB (PV.toI (PV.nth (PV.tnth v5 0) 0)) (PV.toI (PV.nth (PV.tnth v1 0) 0)))&&((eqB (PV.toI (PV.nth (PV.tnth v5 0) 1)) (PV.toI (PV.nth (PV.tnth v1 0) 1)))&&true)) then (bif (eqB (PV.toI (PV.tnth v5 1)) 0) then (bif ((eqB (PV.toI (PV.nth (PV.tnth v6 0) 0)) 0)&&((eqB (PV.toI (PV.nth (PV.tnth v6 0) 1)) (-10))&&((eqB (PV.toI (PV.nth (PV.tnth v6 0) 2)) 0)&&((eqB (PV.toI (PV.nth (PV.tnth v6 0) 3)) (-10800000000))&&true)))) then (bif (eqB (PV.toI (PV.tnth v6 1)) 0) then (bif ((eqB (PV.toI (PV.nth (PV.tnth v7 0) 0)) 0)&&((eqB (PV.toI (PV.nth (PV.tnth v7 0) 1)) 14)&&((eqB (PV.toI (PV.nth (PV.tnth v7 0) 2)) 3)&&((eqB (PV.toI (PV.nth (PV.tnth v7 0) 3)) 14400000000)&&true)))) then (bif (eqB (PV.toI (PV.tnth v7 1)) 0) then (bif ((eqB (PV.toI (PV.nth (PV.tnth v9 0) 0)) (PV.toI (PV.nth (PV.tnth v8 0) 0)))&&((eqB (PV.toI (PV.nth (PV.tnth v9 0) 1)) (PV.toI (PV.nth (PV.tnth v8 0) 1)))&&true)) then (some (PV.bool (eqB (PV.toI (PV.tnth v9 1)) 0))) else (some (PV.bool false))) else (some (PV.bool false))) else (some (PV.bool false))) else (some (PV.bool false))) else (some (PV.bool false))) else (some (PV.bool false))) else (some (PV.bool false))) else (some (PV.bool false))) else (some (PV.bool false))) else (some (PV.bool false))) else (some (PV.bool false))) else (some (PV.bool false))) else (some (PV.bool false)))))))))))) :=
 (ze EE zcv _ rfl).trans (by kernel_rfl)
theorem z15e (a0:List UInt8) (a1_0 a1_1 a1_2:Int):zf7 a0 a1_0 a1_1 a1_2 =
  ((z1a2 a0 a1_0 a1_1 a1_2).bind fun v1=>(bif (!(eqB (PV.toI v1) 0)) then (some (PV.tuple [(PV.agg [(PV.int .i64 0),(PV.int .i64 0)]),(PV.int .i64 (PV.toI v1))])) else ((zmx a0).bind fun v2=>((zg1 (PV.toL v2)).bind fun v3=>(bif (PV.toB (PV.tnth v3 1)) then (some (PV.tuple [(PV.agg [(PV.int .i64 (PV.toI (PV.nth (PV.tnth v3 0) 0))),(PV.int .i64 (PV.toI (PV.nth (PV.tnth v3 0) 1)))]),(PV.int .i64 0)])) else (bif (ltB (IntKind.wrap .i64 ((((List.length (PV.toL v2)):Nat):Int)-1)) 1) then (z8n false a1_0 a1_1 a1_2 0 0 (PV.toL v2)) else ((rdI tiStr (PV.toL v2) (IntKind.wrap .i64 ((((List.length (PV.toL v2)):Nat):Int)-1))).bind fun v4=>((z8y (PV.toS v4)).bind fun v5=>(bif (eqS (PV.toS v5) [98,99]) then ((takeS (PV.toL v2) (IntKind.wrap .i64 ((((List.length (PV.toL v2)):Nat):Int)-1))).bind fun v6=>(z8n (eqS (PV.toS v5) [98,99]) a1_0 a1_1 a1_2 0 0 v6)) else (bif (eqS (PV.toS v5) [97,100]) then ((takeS (PV.toL v2) (IntKind.wrap .i64 ((((List.length (PV.toL v2)):Nat):Int)-1))).bind fun v7=>(z8n (eqS (PV.toS v5) [98,99]) a1_0 a1_1 a1_2 0 0 v7)) else (z8n (eqS (PV.toS v5) [98,99]) a1_0 a1_1 a1_2 0 0 (PV.toL v2)))))))))))) :=
 (ze EE z1n _ rfl).trans (by kernel_rfl)
theorem zwx (x0:Bool) (x1 x2 x3 x4 x5:Int) (x6:List PV):z8n x0 x1 x2 x3 x4 x5 x6 =
  (bif (leB 3 (((List.length x6):Nat):Int)) then ((zmz x6).bind fun v1=>(bif (PV.toB v1) then (za0 x0 x6 0 0 0 x1 x2 x3 x4 x5 x0 x0 x2) else (z4d x0 x2 x6 0 0 0 x1 x2 x3 x4 x5 x0 x0 x2))) else (z4d x0 x2 x6 0 0 0 x1 x2 x3 x4 x5 x0 x0 x2)) :=
 (zb EE _ _).trans (by kernel_rfl)
theorem zeq (x0:Bool) (x1:List PV) (x2 x3 x4 x5 x6 x7 x8 x9:Int) (xA:Bool) (xB:Bool) (xC:Int):za0 x0 x1 x2 x3 x4 x5 x6 x7 x8 x9 xA xB xC =
  ((takeS x1 3).bind fun v1=>((dropS x1 3).bind fun v2=>(z6s x0 v1 x2 x3 x4 x5 x6 x7 x8 x9 v2 xA xB xC))) :=
 (zb EE _ _).trans (by kernel_rfl)
theorem z8g (x0:Bool) (x1:Int) (x2:List PV) (x3 x4 x5 x6 x7 x8 x9 xA:Int) (xB:Bool) (xC:Bool) (xD:Int):z4d x0 x1 x2 x3 x4 x5 x6 x7 x8 x9 xA xB xC xD =
  (bif (eqB (((List.length x2):Nat):Int) 0) then (z4c x0 x1 [] false x3 x4 x5 x6 x7 x8 x9 xA x2 xB xC xD) else ((rdI tiStr x2 0).bind fun v1=>((dropS x2 1).bind fun v2=>(z4c x0 x1 (PV.toS v1) true x3 x4 x5 x6 x7 x8 x9 xA v2 xB xC xD)))) :=
 (zb EE _ _).trans (by kernel_rfl)
theorem z8e (x0:Bool) (x1:List PV) (x2 x3 x4 x5 x6 x7 x8 x9:Int) (xA:List PV) (xB:Bool) (xC:Bool) (xD:Int):z6s x0 x1 x2 x3 x4 x5 x6 x7 x8 x9 xA xB xC xD =
  ((zf6 x1).bind fun v1=>(bif (!(PV.toB (PV.tnth v1 1))) then (zw x2 x3 x4 x5 x6 x7 x8 x9 xA xB xC xD) else (bif (eqB (PV.toI (PV.nth (PV.tnth v1 0) 0)) 0) then (zw x2 x3 x4 x5 x6 x7 x8 x9 xA xB xC xD) else (z2c x0 x2 x3 x4 (PV.toI (PV.nth (PV.tnth v1 0) 0)) (PV.toI (PV.nth (PV.tnth v1 0) 1)) (PV.toI (PV.nth (PV.tnth v1 0) 2)) x5 x6 x7 x8 x9 xA xB xC xD)))) :=
 (zb EE _ _).trans (by kernel_rfl)
theorem z8f (x0:Bool) (x1:Int) (x2:List UInt8) (x3:Bool) (x4 x5 x6 x7 x8 x9 xA xB:Int) (xC:List PV) (xD:Bool) (xE:Bool) (xF:Int):z4c x0 x1 x2 x3 x4 x5 x6 x7 x8 x9 xA xB xC xD xE xF =
  (bif x3 then ((z2r x2 8 8).bind fun v1=>(bif (PV.toB v1) then (z8m x0 x2 x4 x5 x6 x7 x8 x9 xA xB xC xD xE xF) else (z3b x2 x1 [45,47,46] 0 x4 x5 x6 x7 x8 x9 xA xB xC x0 x1 x2 x2 x1 xD xE xF))) else (z5g x0 x4 x5 x6 x7 x8 x9 xA xB xC xD xE xF)) :=
 (zb EE _ _).trans (by kernel_rfl)
theorem z84 (x0 x1 x2 x3 x4 x5 x6 x7:Int) (x8:List PV) (x9:Bool) (xA:Bool) (xB:Int):zw x0 x1 x2 x3 x4 x5 x6 x7 x8 x9 xA xB =
  (z2p false x6 x7 x8 0 0 0) :=
 (zb EE _ _).trans (by kernel_rfl)
theorem zeb (x0:Bool) (x1 x2 x3 x4 x5 x6 x7 x8 x9 xA xB:Int) (xC:List PV) (xD:Bool) (xE:Bool) (xF:Int):z2c x0 x1 x2 x3 x4 x5 x6 x7 x8 x9 xA xB xC xD xE xF =
  (bif x0 then (z3k x1 x2 x3 (IntKind.wrap .i64 (1-x4)) x5 x6 x7 x8 x9 xA xB xC xD xE xF) else (z3k x1 x2 x3 x4 x5 x6 x7 x8 x9 xA xB xC xD xE xF)) :=
 (zb EE _ _).trans (by kernel_rfl)
theorem zdn (x0:Bool) (x1:List UInt8) (x2 x3 x4 x5 x6 x7 x8 x9:Int) (xA:List PV) (xB:Bool) (xC:Bool) (xD:Int):z8m x0 x1 x2 x3 x4 x5 x6 x7 x8 x9 xA xB xC xD =
  ((zf5 x1).bind fun v1=>(bif (!(PV.toB (PV.tnth v1 1))) then (zw x2 x3 x4 x5 x6 x7 x8 x9 xA xB xC xD) else (bif (eqB (PV.toI (PV.nth (PV.tnth v1 0) 0)) 0) then (zw x2 x3 x4 x5 x6 x7 x8 x9 xA xB xC xD) else (z2c x0 x2 x3 x4 (PV.toI (PV.nth (PV.tnth v1 0) 0)) (PV.toI (PV.nth (PV.tnth v1 0) 1)) (PV.toI (PV.nth (PV.tnth v1 0) 2)) x5 x6 x7 x8 x9 xA xB xC xD)))) :=
 (zb EE _ _).trans (by kernel_rfl)
theorem z7m (x0:List UInt8) (x1:Int) (x2:List UInt8) (x3:Nat) (x4 x5 x6 x7 x8 x9 xA xB:Int) (xC:List PV) (xD:Bool) (xE:Int) (xF:List UInt8) (xG:List UInt8) (xH:Int) (xI:Bool) (xJ:Bool) (xK:Int):z3b x0 x1 x2 x3 x4 x5 x6 x7 x8 x9 xA xB xC xD xE xF xG xH xI xJ xK =
  (bif (ltN x3 (List.length x2)) then ((zem x0 (encR ((((decR x2 x3).1):Nat):Int))).bind fun v1=>(bif (!(eqB (((List.length (PV.toL v1)):Nat):Int) 3)) then (z3b x0 x1 x2 (x3+((decR x2 x3).2)) x4 x5 x6 x7 x8 x9 xA xB xC xD xE xF xG xH xI xJ xK) else (bif (eqB ((((decR x2 x3).1):Nat):Int) 45) then ((zmz (PV.toL v1)).bind fun v2=>(bif (PV.toB v2) then (z6s xD (PV.toL v1) x4 x5 x6 x7 x8 x9 xA xB xC xI xJ xK) else (z3a xD (PV.toL v1) x1 x4 x5 x6 x7 x8 x9 xA xB xC xI xJ xK))) else (z3a xD (PV.toL v1) x1 x4 x5 x6 x7 x8 x9 xA xB xC xI xJ xK)))) else (z5g xD x4 x5 x6 x7 x8 x9 xA xB xC xI xJ xK)) :=
 (zb EE _ _).trans (by kernel_rfl)
theorem z7l (x0:Bool) (x1 x2 x3 x4 x5 x6 x7 x8:Int) (x9:List PV) (xA:Bool) (xB:Bool) (xC:Int):z5g x0 x1 x2 x3 x4 x5 x6 x7 x8 x9 xA xB xC =
  (z2p false x7 x8 x9 0 0 0) :=
 (zb EE _ _).trans (by kernel_rfl)
theorem zuo (x0:Bool) (x1 x2:Int) (x3:List PV) (x4 x5 x6:Int):z2p x0 x1 x2 x3 x4 x5 x6 =
  (bif (!x0) then (zib x1 x2) else (bif (ltB 0 (((List.length x3):Nat):Int)) then (zib x1 x2) else ((z13h x4 x5 x6).bind fun v1=>(some (PV.tuple [(PV.agg [(PV.int .i64 (PV.toI (PV.nth (PV.tnth v1 0) 0))),(PV.int .i64 (PV.toI (PV.nth (PV.tnth v1 0) 1)))]),(PV.int .i64 (PV.toI (PV.tnth v1 1)))]))))) :=
 (zb EE _ _).trans (by kernel_rfl)
theorem zea (x0 x1 x2 x3 x4 x5 x6 x7 x8 x9 xA:Int) (xB:List PV) (xC:Bool) (xD:Bool) (xE:Int):z3k x0 x1 x2 x3 x4 x5 x6 x7 x8 x9 xA xB xC xD xE =
  (bif (leB 1 x5) then ((zhu x3 x4).bind fun v1=>(z2p (leB x5 (PV.toI v1)) x9 xA xB x3 x4 x5)) else (z2p false x9 xA xB x3 x4 x5)) :=
 (zb EE _ _).trans (by kernel_rfl)
theorem zdm (x0:Bool) (x1:List PV) (x2 x3 x4 x5 x6 x7 x8 x9 xA:Int) (xB:List PV) (xC:Bool) (xD:Bool) (xE:Int):z3a x0 x1 x2 x3 x4 x5 x6 x7 x8 x9 xA xB xC xD xE =
  ((zf4 x1 x2).bind fun v1=>(bif (!(PV.toB (PV.tnth v1 1))) then (zw x3 x4 x5 x6 x7 x8 x9 xA xB xC xD xE) else (bif (eqB (PV.toI (PV.nth (PV.tnth v1 0) 0)) 0) then (zw x3 x4 x5 x6 x7 x8 x9 xA xB xC xD xE) else (z2c x0 x3 x4 x5 (PV.toI (PV.nth (PV.tnth v1 0) 0)) (PV.toI (PV.nth (PV.tnth v1 0) 1)) (PV.toI (PV.nth (PV.tnth v1 0) 2)) x6 x7 x8 x9 xA xB xC xD xE)))) :=
 (zb EE _ _).trans (by kernel_rfl)
theorem zun (x0 x1:Int):zib x0 x1 =
  (some (PV.tuple [(PV.agg [(PV.int .i64 0),(PV.int .i64 0)]),(PV.int .i64 13)])) :=
 (zb EE _ _).trans (by kernel_rfl)
theorem zku (a0:List UInt8) (a1_0 a1_1 a1_2:Int):zgb a0 a1_0 a1_1 a1_2 =
  (bif (ltB a1_1 0) then (z8v 0 0) else (bif (ltB 2 a1_1) then (z8v 0 0) else (ze1 a0 a1_0 a1_1 a1_2 0 0))) :=
 (ze EE z4k _ rfl).trans (by kernel_rfl)
theorem zhp (x0 x1:Int):z8v x0 x1 =
  (some (PV.tuple [(PV.agg [(PV.int .i64 0),(PV.int .i64 0)]),(PV.int .i64 1)])) :=
 (zb EE _ _).trans (by kernel_rfl)
theorem zho (x0:List UInt8) (x1 x2 x3 x4 x5:Int):ze1 x0 x1 x2 x3 x4 x5 =
  (bif (ltB 2048 (((List.length x0):Nat):Int)) then (some (PV.tuple [(PV.agg [(PV.int .i64 0),(PV.int .i64 0)]),(PV.int .i64 13)])) else ((zaf x0).bind fun v1=>((z8u (PV.toL v1)).bind fun v2=>(bif (eqB (PV.toI v2) 2) then (some (PV.tuple [(PV.agg [(PV.int .i64 0),(PV.int .i64 (-10957))]),(PV.int .i64 0)])) else (bif (!(eqB (PV.toI v2) 0)) then (some (PV.tuple [(PV.agg [(PV.int .i64 (PV.toI v2)),(PV.int .i64 0)]),(PV.int .i64 0)])) else ((zd9 (PV.toL v1)).bind fun v3=>((zc9 (PV.toL (PV.tnth v3 0)) (PV.toB (PV.tnth v3 1)) x2).bind fun v4=>(bif (!(PV.toB (PV.tnth v4 4))) then (some (PV.tuple [(PV.agg [(PV.int .i64 0),(PV.int .i64 0)]),(PV.int .i64 13)])) else (bif (ltB 0 (((List.length (PV.toL (PV.tnth v4 3))):Nat):Int)) then (some (PV.tuple [(PV.agg [(PV.int .i64 0),(PV.int .i64 0)]),(PV.int .i64 13)])) else ((z6n (PV.toI (PV.tnth v4 0)) (PV.toI (PV.tnth v4 1)) (PV.toI (PV.tnth v4 2))).bind fun v5=>(some (PV.tuple [(PV.agg [(PV.int .i64 (PV.toI (PV.nth (PV.tnth v5 0) 0))),(PV.int .i64 (PV.toI (PV.nth (PV.tnth v5 0) 1)))]),(PV.int .i64 (PV.toI (PV.tnth v5 1)))])))))))))))) :=
 (zb EE _ _).trans (by kernel_rfl)
theorem zjg (a0:List UInt8):z7u a0 =
  (z2n a0 0 []) :=
 (ze EE z3o _ rfl).trans (by kernel_rfl)
theorem za6 (x0:List UInt8) (x1:Int) (x2:List PV):z2n x0 x1 x2 =
  (bif (ltB x1 (((List.length x0):Nat):Int)) then ((atS x0 x1).bind fun v1=>(bif (leB 65 v1) then (bif (leB v1 90) then (zd0 x0 x1 v1 x2) else ((appL 1 x2 [(PV.int .u8 v1)]).bind fun v2=>(z2n x0 (IntKind.wrap .i64 (x1+1)) v2))) else ((appL 1 x2 [(PV.int .u8 v1)]).bind fun v3=>(z2n x0 (IntKind.wrap .i64 (x1+1)) v3)))) else ((zcd x2).bind fun v4=>(some (PV.str v4)))) :=
 (zb EE _ _).trans (by kernel_rfl)
theorem zgy (x0:List UInt8) (x1 x2:Int) (x3:List PV):zd0 x0 x1 x2 x3 =
  ((appL 1 x3 [(PV.int .u8 (IntKind.wrap .u8 (x2+32)))]).bind fun v1=>(z2n x0 (IntKind.wrap .i64 (x1+1)) v1)) :=
 (zb EE _ _).trans (by kernel_rfl)
theorem z12h (a0:List UInt8):zmx a0 =
  ((zfy a0 (PV.func (Go.Fn.func z8s) [] [])).bind fun v1=>(some (PV.sl 1 (PV.toL v1)))) :=
 (ze EE zet _ rfl).trans (by kernel_rfl)
theorem zwq (a0:List PV):zg1 a0 =
  (bif (!(eqB (((List.length a0):Nat):Int) 1)) then (some (PV.tuple [(PV.agg [(PV.int .i64 0),(PV.int .i64 0)]),(PV.bool false)])) else ((rdI tiStr a0 0).bind fun v1=>((z8y (PV.toS v1)).bind fun v2=>(bif (eqS (PV.toS v2) [105,110,102,105,110,105,116,121]) then (some (PV.tuple [(PV.agg [(PV.int .i64 1),(PV.int .i64 0)]),(PV.bool true)])) else (bif (eqS (PV.toS v2) [45,105,110,102,105,110,105,116,121]) then (some (PV.tuple [(PV.agg [(PV.int .i64 (-1)),(PV.int .i64 0)]),(PV.bool true)])) else (bif (eqS (PV.toS v2) [101,112,111,99,104]) then (some (PV.tuple [(PV.agg [(PV.int .i64 0),(PV.int .i64 (-10957))]),(PV.bool true)])) else (some (PV.tuple [(PV.agg [(PV.int .i64 0),(PV.int .i64 0)]),(PV.bool false)])))))))) :=
 (ze EE zc2 _ rfl).trans (by kernel_rfl)
theorem z11c (a0:List UInt8):z8y a0 =
  (z8x (((List.length (List.map byteV a0)):Nat):Int) 0 (List.map byteV a0)) :=
 (ze EE z94 _ rfl).trans (by kernel_rfl)
theorem ziu (x0 x1:Int) (x2:List PV):z8x x0 x1 x2 =
  (bif (ltB x1 x0) then (bif (inB 0 x1 (((List.length x2):Nat):Int)) then ((rdT (tiInt IntKind.u8) x2 (Int.toNat x1) 0).bind fun v1=>(bif (leB 65 (PV.toI v1)) then (bif (leB (PV.toI v1) 90) then (bif (inB 0 x1 (((List.length x2):Nat):Int)) then ((stC x2 (Int.toNat x1) 0 [(PV.int .u8 (orI IntKind.u8 (PV.toI v1) 32))]).bind fun v2=>(z8x x0 (IntKind.wrap .i64 (x1+1)) v2)) else none) else (z8x x0 (IntKind.wrap .i64 (x1+1)) x2)) else (z8x x0 (IntKind.wrap .i64 (x1+1)) x2))) else none) else ((zcd x2).bind fun v3=>(some (PV.str v3)))) :=
 (zb EE _ _).trans (by kernel_rfl)
theorem z12i (a0:List PV):zmy a0 =
  (zeo a0 a0 (((List.length a0):Nat):Int) 0) :=
 (ze EE zc3 _ rfl).trans (by kernel_rfl)
theorem zuk (x0:List PV) (x1:List PV) (x2 x3:Int):zeo x0 x1 x2 x3 =
  (bif (ltB x3 x2) then ((rdI tiStr x1 x3).bind fun v1=>((atS (PV.toS v1) 0).bind fun v2=>(bif (!(eqB v2 43)) then ((atS (PV.toS v1) 0).bind fun v3=>(bif (!(eqB v3 45)) then (some (PV.bool false)) else (zeo x0 x1 x2 (IntKind.wrap .i64 (x3+1))))) else (zeo x0 x1 x2 (IntKind.wrap .i64 (x3+1)))))) else (some (PV.bool (eqB (((List.length x0):Nat):Int) 3)))) :=
 (zb EE _ _).trans (by kernel_rfl)
theorem zkv (a0 a1 a2:Int):z6n a0 a1 a2 =
  ((zcb a0 a1 a2).bind fun v1=>(bif (!(eqB (PV.toI (PV.tnth v1 1)) 0)) then (some (PV.tuple [(PV.agg [(PV.int .i64 0),(PV.int .i64 0)]),(PV.int .i64 10)])) else ((z9g (PV.toI (PV.tnth v1 0))).bind fun v2=>(bif (!(PV.toB v2)) then (some (PV.tuple [(PV.agg [(PV.int .i64 0),(PV.int .i64 0)]),(PV.int .i64 10)])) else (some (PV.tuple [(PV.agg [(PV.int .i64 0),(PV.int .i64 (PV.toI (PV.tnth v1 0)))]),(PV.int .i64 0)])))))) :=
 (ze EE zdu _ rfl).trans (by kernel_rfl)
theorem z184 (a0:List UInt8) (a1_0 a1_1 a1_2:Int):z1a2 a0 a1_0 a1_1 a1_2 =
  (bif (ltB a1_1 0) then (some (PV.int .i64 1)) else (bif (ltB 2 a1_1) then (some (PV.int .i64 1)) else (bif (ltB 2048 (((List.length a0):Nat):Int)) then (some (PV.int .i64 13)) else (some (PV.int .i64 0))))) :=
 (ze EE zxm _ rfl).trans (by kernel_rfl)
theorem z18w (a0 a1 a2:Int):z13h a0 a1 a2 =
  ((zsg a0 a1 a2).bind fun v1=>((z10u (PV.toI (PV.tnth v1 0)) (PV.toI (PV.tnth v1 1))).bind fun v2=>(some (PV.tuple [(PV.agg [(PV.int .i64 (PV.toI (PV.nth (PV.tnth v2 0) 0))),(PV.int .i64 (PV.toI (PV.nth (PV.tnth v2 0) 1)))]),(PV.int .i64 (PV.toI (PV.tnth v2 1)))])))) :=
 (ze EE zxp _ rfl).trans (by kernel_rfl)
theorem zj9 (a0:List UInt8):zaf a0 =
  (z1w a0 0 0 []) :=
 (ze EE z3l _ rfl).trans (by kernel_rfl)
theorem z6u (x0:List UInt8) (x1 x2:Int) (x3:List PV):z1w x0 x1 x2 x3 =
  (bif (leB x2 (((List.length x0):Nat):Int)) then (bif (eqB x2 (((List.length x0):Nat):Int)) then (z1g x0 x1 x2 x3) else ((atS x0 x2).bind fun v1=>(bif (eqB v1 32) then (z1g x0 x1 x2 x3) else ((atS x0 x2).bind fun v2=>(bif (eqB v2 9) then (z1g x0 x1 x2 x3) else ((atS x0 x2).bind fun v3=>(bif (eqB v3 10) then (z1g x0 x1 x2 x3) else ((atS x0 x2).bind fun v4=>(bif (eqB v4 13) then (z1g x0 x1 x2 x3) else (z1w x0 x1 (IntKind.wrap .i64 (x2+1)) x3)))))))))) else (some (PV.sl 1 x3))) :=
 (zb EE _ _).trans (by kernel_rfl)
theorem zgs (x0:List UInt8) (x1 x2:Int) (x3:List PV):z1g x0 x1 x2 x3 =
  (bif (ltB x1 x2) then ((subS x0 x1 x2).bind fun v1=>((appL 16 x3 [(PV.str v1)]).bind fun v2=>(z1w x0 (IntKind.wrap .i64 (x2+1)) (IntKind.wrap .i64 (x2+1)) v2))) else (z1w x0 (IntKind.wrap .i64 (x2+1)) (IntKind.wrap .i64 (x2+1)) x3)) :=
 (zb EE _ _).trans (by kernel_rfl)
theorem zhk (a0:List PV):z8u a0 =
  (bif (!(eqB (((List.length a0):Nat):Int) 1)) then (some (PV.int .i64 0)) else ((rdI tiStr a0 0).bind fun v1=>((z18 (PV.toS v1) [105,110,102,105,110,105,116,121]).bind fun v2=>(bif (PV.toB v2) then (some (PV.int .i64 1)) else ((rdI tiStr a0 0).bind fun v3=>((z18 (PV.toS v3) [45,105,110,102,105,110,105,116,121]).bind fun v4=>(bif (PV.toB v4) then (some (PV.int .i64 (-1))) else ((rdI tiStr a0 0).bind fun v5=>((z18 (PV.toS v5) [101,112,111,99,104]).bind fun v6=>(bif (PV.toB v6) then (some (PV.int .i64 2)) else (some (PV.int .i64 0)))))))))))) :=
 (ze EE zav _ rfl).trans (by kernel_rfl)
theorem zni (a0:List PV):zd9 a0 =
  (bif (ltB 1 (((List.length a0):Nat):Int)) then ((rdI tiStr a0 (IntKind.wrap .i64 ((((List.length a0):Nat):Int)-1))).bind fun v1=>((z18 (PV.toS v1) [66,67]).bind fun v2=>(bif (PV.toB v2) then (z70 a0 (PV.toS v1)) else ((z18 (PV.toS v1) [65,68]).bind fun v3=>(bif (PV.toB v3) then (z70 a0 (PV.toS v1)) else (some (PV.tuple [(PV.sl 1 a0),(PV.bool false)]))))))) else (some (PV.tuple [(PV.sl 1 a0),(PV.bool false)]))) :=
 (ze EE z6y _ rfl).trans (by kernel_rfl)
theorem zin (x0:List PV) (x1:List UInt8):z70 x0 x1 =
  ((takeS x0 (IntKind.wrap .i64 ((((List.length x0):Nat):Int)-1))).bind fun v1=>((z18 x1 [66,67]).bind fun v2=>(some (PV.tuple [(PV.sl 1 v1),(PV.bool (PV.toB v2))])))) :=
 (zb EE _ _).trans (by kernel_rfl)
theorem zkt (a0:List PV) (a1:Bool) (a2:Int):zc9 a0 a1 a2 =
  (bif (eqB (((List.length a0):Nat):Int) 0) then (some (PV.tuple [(PV.int .i64 0),(PV.int .i64 0),(PV.int .i64 0),(PV.sl 0 []),(PV.bool false)])) else ((rdI tiStr a0 0).bind fun v1=>((zah (PV.toS v1) a2).bind fun v2=>(bif (leB 3 (((List.length a0):Nat):Int)) then ((rdI tiStr a0 0).bind fun v3=>((z1r (PV.toS v3)).bind fun v4=>(bif (ltB 0 (PV.toI v4)) then (z6m a0 a1 (PV.toI (PV.nth v2 0)) (PV.toI (PV.nth v2 1)) (PV.toI (PV.nth v2 2)) (PV.toB (PV.nth v2 3))) else ((rdI tiStr a0 1).bind fun v5=>((z1r (PV.toS v5)).bind fun v6=>(bif (ltB 0 (PV.toI v6)) then (z6m a0 a1 (PV.toI (PV.nth v2 0)) (PV.toI (PV.nth v2 1)) (PV.toI (PV.nth v2 2)) (PV.toB (PV.nth v2 3))) else (z4l a0 a1 1 (PV.toI (PV.nth v2 0)) (PV.toI (PV.nth v2 1)) (PV.toI (PV.nth v2 2)) (PV.toB (PV.nth v2 3))))))))) else (z4l a0 a1 1 (PV.toI (PV.nth v2 0)) (PV.toI (PV.nth v2 1)) (PV.toI (PV.nth v2 2)) (PV.toB (PV.nth v2 3))))))) :=
 (ze EE z17 _ rfl).trans (by kernel_rfl)
theorem zhn (x0:List PV) (x1:Bool) (x2 x3 x4:Int) (x5:Bool):z6m x0 x1 x2 x3 x4 x5 =
  ((takeS x0 3).bind fun v1=>((z7r v1).bind fun v2=>(z4l x0 x1 3 (PV.toI (PV.nth v2 0)) (PV.toI (PV.nth v2 1)) (PV.toI (PV.nth v2 2)) (PV.toB (PV.nth v2 3))))) :=
 (zb EE _ _).trans (by kernel_rfl)
theorem zhm (x0:List PV) (x1:Bool) (x2 x3 x4 x5:Int) (x6:Bool):z4l x0 x1 x2 x3 x4 x5 x6 =
  (bif (!x6) then z2y else (bif (eqB x3 0) then z2y else (bif (ltB x4 1) then z2y else (bif (ltB 12 x4) then z2y else (zcy x0 x1 x2 x3 x4 x5 x6))))) :=
 (zb EE _ _).trans (by kernel_rfl)
theorem zhl  : z2y  =
  (some (PV.tuple [(PV.int .i64 0),(PV.int .i64 0),(PV.int .i64 0),(PV.sl 0 []),(PV.bool false)])) :=
 (zb EE _ _).trans (by kernel_rfl)
theorem zgw (x0:List PV) (x1:Bool) (x2 x3 x4 x5:Int) (x6:Bool):zcy x0 x1 x2 x3 x4 x5 x6 =
  (bif x1 then (z5q x0 x2 (IntKind.wrap .i64 (1-x3)) x4 x5 x6) else (z5q x0 x2 x3 x4 x5 x6)) :=
 (zb EE _ _).trans (by kernel_rfl)
theorem zgv (x0:List PV) (x1 x2 x3 x4:Int) (x5:Bool):z5q x0 x1 x2 x3 x4 x5 =
  (bif (ltB x4 1) then z5p else ((z4a x2 x3).bind fun v1=>(bif (ltB (PV.toI v1) x4) then z5p else (zcx x0 x1 x2 x3 x4 x5)))) :=
 (zb EE _ _).trans (by kernel_rfl)
theorem zgu  : z5p  =
  (some (PV.tuple [(PV.int .i64 0),(PV.int .i64 0),(PV.int .i64 0),(PV.sl 0 []),(PV.bool false)])) :=
 (zb EE _ _).trans (by kernel_rfl)
theorem zgt (x0:List PV) (x1 x2 x3 x4:Int) (x5:Bool):zcx x0 x1 x2 x3 x4 x5 =
  ((dropS x0 x1).bind fun v1=>(some (PV.tuple [(PV.int .i64 x2),(PV.int .i64 x3),(PV.int .i64 x4),(PV.sl 1 v1),(PV.bool true)]))) :=
 (zb EE _ _).trans (by kernel_rfl)
theorem z11z (a0_0 a0_1 a0_2 a0_3:Int):zmt a0_0 a0_1 a0_2 a0_3 =
  (bif (!(eqB a0_0 0)) then (bif ((eqB a0_0 a0_0)&&((eqB a0_1 0)&&((eqB a0_2 0)&&((eqB a0_3 0)&&true)))) then (bif (leB (-1) a0_0) then (some (PV.bool (leB a0_0 1))) else (some (PV.bool false))) else (some (PV.bool false))) else ((z18c a0_3).bind fun v1=>((zi6 a0_1).bind fun v2=>(bif (PV.toB v2) then ((zi6 a0_2).bind fun v3=>(bif (PV.toB v3) then (some (PV.bool (eqB (PV.toI (PV.tnth v1 1)) 0))) else (some (PV.bool false)))) else (some (PV.bool false)))))) :=
 (ze EE zql _ rfl).trans (by kernel_rfl)
theorem zk5 (a0:List UInt8) (a1:PV):zfy a0 a1 =
  (bif ((okOther a1)&&true) then (z1m a0 a1 (-1) [] 32 a0 0) else none) :=
 (ze EE z1f _ rfl).trans (by kernel_rfl)
theorem zap (x0:List UInt8) (x1:PV) (x2:Int) (x3:List PV) (x4:Nat) (x5:List UInt8) (x6:Nat):z1m x0 x1 x2 x3 x4 x5 x6 =
  (bif (ltN x6 (List.length x5)) then ((callW EE ([zf0]) x1 [(PV.int .i32 ((((decR x5 x6).1):Nat):Int))]).bind fun v1=>(bif (PV.toB v1) then (bif (leB 0 x2) then ((appL 16 x3 [(PV.agg [(PV.int .i64 x2),(PV.int .i64 ((x6:Nat):Int))])]).bind fun v2=>(bif (leN (List.length v2) x4) then (z1m x0 x1 (xorI IntKind.i64 (-1) x2) v2 x4 x5 (x6+((decR x5 x6).2))) else (z1p x0 x1 (xorI IntKind.i64 (-1) x2) v2 x5 (x6+((decR x5 x6).2))))) else (z1m x0 x1 x2 x3 x4 x5 (x6+((decR x5 x6).2)))) else (bif (ltB x2 0) then (z1m x0 x1 ((x6:Nat):Int) x3 x4 x5 (x6+((decR x5 x6).2))) else (z1m x0 x1 x2 x3 x4 x5 (x6+((decR x5 x6).2)))))) else (bif (leB 0 x2) then ((appL 16 x3 [(PV.agg [(PV.int .i64 x2),(PV.int .i64 (((List.length x0):Nat):Int))])]).bind fun v3=>(bif (leN (List.length v3) x4) then (z5m x0 v3 x4) else (z2t x0 v3))) else (z5m x0 x3 x4))) :=
 (zb EE _ _).trans (by kernel_rfl)
theorem z61 (x0:List UInt8) (x1:PV) (x2:Int) (x3:List PV) (x4:List UInt8) (x5:Nat):z1p x0 x1 x2 x3 x4 x5 =
  (bif (ltN x5 (List.length x4)) then ((callW EE ([zf0]) x1 [(PV.int .i32 ((((decR x4 x5).1):Nat):Int))]).bind fun v1=>(bif (PV.toB v1) then (bif (leB 0 x2) then ((appL 16 x3 [(PV.agg [(PV.int .i64 x2),(PV.int .i64 ((x5:Nat):Int))])]).bind fun v2=>(z1p x0 x1 (xorI IntKind.i64 (-1) x2) v2 x4 (x5+((decR x4 x5).2)))) else (z1p x0 x1 x2 x3 x4 (x5+((decR x4 x5).2)))) else (bif (ltB x2 0) then (z1p x0 x1 ((x5:Nat):Int) x3 x4 (x5+((decR x4 x5).2))) else (z1p x0 x1 x2 x3 x4 (x5+((decR x4 x5).2)))))) else (bif (leB 0 x2) then ((appL 16 x3 [(PV.agg [(PV.int .i64 x2),(PV.int .i64 (((List.length x0):Nat):Int))])]).bind fun v3=>(z2t x0 v3)) else (z2t x0 x3))) :=
 (zb EE _ _).trans (by kernel_rfl)
theorem zgk (x0:List UInt8) (x1:List PV) (x2:Nat):z5m x0 x1 x2 =
  (bif (decide ((0≤(((List.length x1):Nat):Int))∧(((((List.length x1):Nat):Int)≤(((List.length x1):Nat):Int))∧(((((List.length x1):Nat):Int)*((16:Nat):Int))≤(HPow.hPow (2:Int) 46))))) then (z5l x0 (((List.length x1):Nat):Int) 0 (List.replicate (Int.toNat (((List.length x1):Nat):Int)) (PV.str [])) (Int.toNat (((List.length x1):Nat):Int)) x1 x2) else none) :=
 (zb EE _ _).trans (by kernel_rfl)
theorem zf2 (x0:List UInt8) (x1:List PV):z2t x0 x1 =
  (bif (decide ((0≤(((List.length x1):Nat):Int))∧(((((List.length x1):Nat):Int)≤(((List.length x1):Nat):Int))∧(((((List.length x1):Nat):Int)*((16:Nat):Int))≤(HPow.hPow (2:Int) 46))))) then (z4p x0 (((List.length x1):Nat):Int) 0 (List.replicate (Int.toNat (((List.length x1):Nat):Int)) (PV.str [])) (Int.toNat (((List.length x1):Nat):Int)) x1) else none) :=
 (zb EE _ _).trans (by kernel_rfl)
theorem zgj (x0:List UInt8) (x1 x2:Int) (x3:List PV) (x4:Nat) (x5:List PV) (x6:Nat):z5l x0 x1 x2 x3 x4 x5 x6 =
  (bif (ltB x2 x1) then (bif (inB 0 x2 (((List.length x5):Nat):Int)) then ((rdT (EE.ti z15) x5 (Int.toNat x2) 0).bind fun v1=>((subS x0 (PV.toI (PV.nth v1 0)) (PV.toI (PV.nth v1 1))).bind fun v2=>(bif (inB 0 x2 (((List.length x3):Nat):Int)) then ((stC x3 (Int.toNat x2) 0 [(PV.str v2)]).bind fun v3=>(z5l x0 x1 (IntKind.wrap .i64 (x2+1)) v3 x4 x5 x6)) else none))) else none) else (some (PV.sl 1 x3))) :=
 (zb EE _ _).trans (by kernel_rfl)
theorem zf1 (x0:List UInt8) (x1 x2:Int) (x3:List PV) (x4:Nat) (x5:List PV):z4p x0 x1 x2 x3 x4 x5 =
  (bif (ltB x2 x1) then (bif (inB 0 x2 (((List.length x5):Nat):Int)) then ((rdT (EE.ti z15) x5 (Int.toNat x2) 0).bind fun v1=>((subS x0 (PV.toI (PV.nth v1 0)) (PV.toI (PV.nth v1 1))).bind fun v2=>(bif (inB 0 x2 (((List.length x3):Nat):Int)) then ((stC x3 (Int.toNat x2) 0 [(PV.str v2)]).bind fun v3=>(z4p x0 x1 (IntKind.wrap .i64 (x2+1)) v3 x4 x5)) else none))) else none) else (some (PV.sl 1 x3))) :=
 (zb EE _ _).trans (by kernel_rfl)
theorem zwn (a0:Int):zkb a0 =
  (bif (eqB a0 32) then (some (PV.bool true)) else (bif (eqB a0 9) then (some (PV.bool true)) else (bif (eqB a0 10) then (some (PV.bool true)) else (some (PV.bool (eqB a0 13)))))) :=
 (ze EE z8s _ rfl).trans (by kernel_rfl)
theorem zsy (a0 a1 a2:Int):zwc a0 a1 a2 =
  ((zmt 0 a0 a1 a2).bind fun v1=>(bif (!(PV.toB v1)) then (some (PV.tuple [(PV.agg [(PV.int .i64 0),(PV.int .i64 0),(PV.int .i64 0),(PV.int .i64 0)]),(PV.int .i64 10)])) else (some (PV.tuple [(PV.agg [(PV.int .i64 0),(PV.int .i64 a0),(PV.int .i64 a1),(PV.int .i64 a2)]),(PV.int .i64 0)])))) :=
 (ze EE zg6 _ rfl).trans (by kernel_rfl)
theorem zz3 (a0:List UInt8) (a1:List UInt8):zoc a0 a1 =
  ((zjy a0 a1).bind fun v1=>(some (PV.tuple [(PV.str (PV.toS (PV.tnth v1 0))),(PV.str (PV.toS (PV.tnth v1 1))),(PV.bool (PV.toB (PV.tnth v1 2)))]))) :=
 (ze EE z5a _ rfl).trans (by kernel_rfl)
theorem zza (a0:List UInt8) (a1 a2:Int):z2r a0 a1 a2 =
  ((zd2 a0).bind fun v1=>(bif (!(eqB (PV.toI (PV.tnth v1 1)) 13)) then (bif (leB a1 (((List.length a0):Nat):Int)) then (some (PV.bool (leB (((List.length a0):Nat):Int) a2))) else (some (PV.bool false))) else (some (PV.bool false)))) :=
 (ze EE zgr _ rfl).trans (by kernel_rfl)
theorem z14b (a0:List UInt8) (a1:List UInt8):zpf a0 a1 =
  ((z8y a0).bind fun v1=>((z8y a1).bind fun v2=>(some (PV.bool (eqS (PV.toS v1) (PV.toS v2)))))) :=
 (ze EE zkp _ rfl).trans (by kernel_rfl)
theorem z15a (a0:List UInt8):zwp a0 =
  ((z8y a0).bind fun v1=>(bif (eqS (PV.toS v1) [121,101,97,114]) then (some (PV.tuple [(PV.agg [(PV.int .i64 0),(PV.int .i64 12),(PV.int .i64 0),(PV.int .i64 0)]),(PV.int .i64 1)])) else (bif (eqS (PV.toS v1) [121,101,97,114,115]) then (some (PV.tuple [(PV.agg [(PV.int .i64 0),(PV.int .i64 12),(PV.int .i64 0),(PV.int .i64 0)]),(PV.int .i64 1)])) else (ztb (PV.toS v1) 0 0 0 0)))) :=
 (ze EE z4i _ rfl).trans (by kernel_rfl)
theorem zwo (x0:List UInt8) (x1 x2 x3 x4:Int):ztb x0 x1 x2 x3 x4 =
  (bif (eqS x0 [109,111,110]) then (some (PV.tuple [(PV.agg [(PV.int .i64 0),(PV.int .i64 1),(PV.int .i64 0),(PV.int .i64 0)]),(PV.int .i64 2)])) else (bif (eqS x0 [109,111,110,115]) then (some (PV.tuple [(PV.agg [(PV.int .i64 0),(PV.int .i64 1),(PV.int .i64 0),(PV.int .i64 0)]),(PV.int .i64 2)])) else (bif (eqS x0 [109,111,110,116,104]) then (some (PV.tuple [(PV.agg [(PV.int .i64 0),(PV.int .i64 1),(PV.int .i64 0),(PV.int .i64 0)]),(PV.int .i64 2)])) else (bif (eqS x0 [109,111,110,116,104,115]) then (some (PV.tuple [(PV.agg [(PV.int .i64 0),(PV.int .i64 1),(PV.int .i64 0),(PV.int .i64 0)]),(PV.int .i64 2)])) else (zq4 x0 x1 x2 x3 x4))))) :=
 (zb EE _ _).trans (by kernel_rfl)
theorem zuj (x0:List UInt8) (x1 x2 x3 x4:Int):zq4 x0 x1 x2 x3 x4 =
  (bif (eqS x0 [119,101,101,107]) then (some (PV.tuple [(PV.agg [(PV.int .i64 0),(PV.int .i64 0),(PV.int .i64 7),(PV.int .i64 0)]),(PV.int .i64 3)])) else (bif (eqS x0 [119,101,101,107,115]) then (some (PV.tuple [(PV.agg [(PV.int .i64 0),(PV.int .i64 0),(PV.int .i64 7),(PV.int .i64 0)]),(PV.int .i64 3)])) else (zq3 x0 x1 x2 x3 x4))) :=
 (zb EE _ _).trans (by kernel_rfl)
theorem zui (x0:List UInt8) (x1 x2 x3 x4:Int):zq3 x0 x1 x2 x3 x4 =
  (bif (eqS x0 [100,97,121]) then (some (PV.tuple [(PV.agg [(PV.int .i64 0),(PV.int .i64 0),(PV.int .i64 1),(PV.int .i64 0)]),(PV.int .i64 4)])) else (bif (eqS x0 [100,97,121,115]) then (some (PV.tuple [(PV.agg [(PV.int .i64 0),(PV.int .i64 0),(PV.int .i64 1),(PV.int .i64 0)]),(PV.int .i64 4)])) else (zq2 x0 x1 x2 x3 x4))) :=
 (zb EE _ _).trans (by kernel_rfl)
theorem zuh (x0:List UInt8) (x1 x2 x3 x4:Int):zq2 x0 x1 x2 x3 x4 =
  (bif (eqS x0 [104,111,117,114]) then (some (PV.tuple [(PV.agg [(PV.int .i64 0),(PV.int .i64 0),(PV.int .i64 0),(PV.int .i64 3600000000)]),(PV.int .i64 5)])) else (bif (eqS x0 [104,111,117,114,115]) then (some (PV.tuple [(PV.agg [(PV.int .i64 0),(PV.int .i64 0),(PV.int .i64 0),(PV.int .i64 3600000000)]),(PV.int .i64 5)])) else (zq1 x0 x1 x2 x3 x4))) :=
 (zb EE _ _).trans (by kernel_rfl)
theorem zug (x0:List UInt8) (x1 x2 x3 x4:Int):zq1 x0 x1 x2 x3 x4 =
  (bif (eqS x0 [109,105,110,117,116,101]) then (some (PV.tuple [(PV.agg [(PV.int .i64 0),(PV.int .i64 0),(PV.int .i64 0),(PV.int .i64 60000000)]),(PV.int .i64 6)])) else (bif (eqS x0 [109,105,110,117,116,101,115]) then (some (PV.tuple [(PV.agg [(PV.int .i64 0),(PV.int .i64 0),(PV.int .i64 0),(PV.int .i64 60000000)]),(PV.int .i64 6)])) else (bif (eqS x0 [109,105,110]) then (some (PV.tuple [(PV.agg [(PV.int .i64 0),(PV.int .i64 0),(PV.int .i64 0),(PV.int .i64 60000000)]),(PV.int .i64 6)])) else (bif (eqS x0 [109,105,110,115]) then (some (PV.tuple [(PV.agg [(PV.int .i64 0),(PV.int .i64 0),(PV.int .i64 0),(PV.int .i64 60000000)]),(PV.int .i64 6)])) else (zq0 x0 x1 x2 x3 x4))))) :=
 (zb EE _ _).trans (by kernel_rfl)
theorem zuf (x0:List UInt8) (x1 x2 x3 x4:Int):zq0 x0 x1 x2 x3 x4 =
  (bif (eqS x0 [115,101,99,111,110,100]) then (some (PV.tuple [(PV.agg [(PV.int .i64 0),(PV.int .i64 0),(PV.int .i64 0),(PV.int .i64 1000000)]),(PV.int .i64 7)])) else (bif (eqS x0 [115,101,99,111,110,100,115]) then (some (PV.tuple [(PV.agg [(PV.int .i64 0),(PV.int .i64 0),(PV.int .i64 0),(PV.int .i64 1000000)]),(PV.int .i64 7)])) else (bif (eqS x0 [115,101,99]) then (some (PV.tuple [(PV.agg [(PV.int .i64 0),(PV.int .i64 0),(PV.int .i64 0),(PV.int .i64 1000000)]),(PV.int .i64 7)])) else (bif (eqS x0 [115,101,99,115]) then (some (PV.tuple [(PV.agg [(PV.int .i64 0),(PV.int .i64 0),(PV.int .i64 0),(PV.int .i64 1000000)]),(PV.int .i64 7)])) else (some (PV.tuple [(PV.agg [(PV.int .i64 0),(PV.int .i64 0),(PV.int .i64 0),(PV.int .i64 0)]),(PV.int .i64 0)])))))) :=
 (zb EE _ _).trans (by kernel_rfl)
theorem zwb (a0_0 a0_1 a0_2 a0_3:Int):z120 a0_0 a0_1 a0_2 a0_3 =
  ((zmt a0_0 a0_1 a0_2 a0_3).bind fun v1=>(bif (!(PV.toB v1)) then (some (PV.tuple [(PV.agg [(PV.int .i64 0),(PV.int .i64 0),(PV.int .i64 0),(PV.int .i64 0)]),(PV.int .i64 1)])) else (some (PV.tuple [(PV.agg [(PV.int .i64 (IntKind.wrap .i64 (0-a0_0))),(PV.int .i64 (IntKind.wrap .i64 (0-a0_1))),(PV.int .i64 (IntKind.wrap .i64 (0-a0_2))),(PV.int .i64 (IntKind.wrap .i64 (0-a0_3)))]),(PV.int .i64 0)])))) :=
 (ze EE zot _ rfl).trans (by kernel_rfl)
theorem zkz (a0 a1 a2:Int):zcb a0 a1 a2 =
  ((zal a0 a1 a2).bind fun v1=>(bif (!(PV.toB v1)) then (some (PV.tuple [(PV.int .i64 0),(PV.int .i64 10)])) else ((z7d a0 a1 a2).bind fun v2=>(some (PV.tuple [(PV.int .i64 (PV.toI v2)),(PV.int .i64 0)]))))) :=
 (ze EE zdy _ rfl).trans (by kernel_rfl)
theorem zip (a0:Int):z9g a0 =
  ((z8i a0).bind fun v1=>(bif (eqB (PV.toI (PV.tnth v1 3)) 0) then (bif (leB (-4712) (PV.toI (PV.tnth v1 0))) then (some (PV.bool (leB (PV.toI (PV.tnth v1 0)) 294276))) else (some (PV.bool false))) else (some (PV.bool false)))) :=
 (ze EE zc5 _ rfl).trans (by kernel_rfl)
theorem z12j (a0:List PV):zmz a0 =
  ((rdI tiStr a0 0).bind fun v1=>((zew (PV.toS v1)).bind fun v2=>(bif (ltB 0 (PV.toI v2)) then (some (PV.bool true)) else ((rdI tiStr a0 1).bind fun v3=>((zew (PV.toS v3)).bind fun v4=>(some (PV.bool (ltB 0 (PV.toI v4))))))))) :=
 (ze EE zqm _ rfl).trans (by kernel_rfl)
theorem zl3 (a0 a1:Int):zhu a0 a1 =
  (bif (ltB a1 1) then zl4 else (bif (ltB 12 a1) then zl4 else (zty a0 a1 [(PV.int .i64 0),(PV.int .i64 31),(PV.int .i64 28),(PV.int .i64 31),(PV.int .i64 30),(PV.int .i64 31),(PV.int .i64 30),(PV.int .i64 31),(PV.int .i64 31),(PV.int .i64 30),(PV.int .i64 31),(PV.int .i64 30),(PV.int .i64 31)] 13))) :=
 (ze EE zdz _ rfl).trans (by kernel_rfl)
theorem zfg  : zl4  =
  (some (PV.int .i64 0)) :=
 (zb EE _ _).trans (by kernel_rfl)
theorem zy4 (x0 x1:Int) (x2:List PV) (x3:Nat):zty x0 x1 x2 x3 =
  (bif (eqB x1 2) then ((zsf x0).bind fun v1=>(bif (PV.toB v1) then (some (PV.int .i64 29)) else (bif (inB 0 x1 ((13:Nat):Int)) then ((rdT (tiInt IntKind.i64) x2 (Int.toNat x1) 0).bind fun v2=>(some (PV.int .i64 (PV.toI v2)))) else none))) else (bif (inB 0 x1 ((13:Nat):Int)) then ((rdT (tiInt IntKind.i64) x2 (Int.toNat x1) 0).bind fun v3=>(some (PV.int .i64 (PV.toI v3)))) else none)) :=
 (zb EE _ _).trans (by kernel_rfl)
theorem zqy (a0 a1:Int):z10u a0 a1 =
  (bif (!(eqB a1 0)) then (some (PV.tuple [(PV.agg [(PV.int .i64 0),(PV.int .i64 0)]),(PV.int .i64 10)])) else ((zhj a0).bind fun v1=>(bif (!(PV.toB v1)) then (some (PV.tuple [(PV.agg [(PV.int .i64 0),(PV.int .i64 0)]),(PV.int .i64 10)])) else (some (PV.tuple [(PV.agg [(PV.int .i64 0),(PV.int .i64 a0)]),(PV.int .i64 0)]))))) :=
 (ze EE zqp _ rfl).trans (by kernel_rfl)
theorem z13k (a0 a1 a2:Int):zsg a0 a1 a2 =
  ((zp5 a0 a1 a2).bind fun v1=>(bif (!(PV.toB v1)) then (some (PV.tuple [(PV.int .i64 0),(PV.int .i64 10)])) else ((zl2 a0 a1 a2).bind fun v2=>(some (PV.tuple [(PV.int .i64 (PV.toI v2)),(PV.int .i64 0)]))))) :=
 (ze EE zqs _ rfl).trans (by kernel_rfl)
theorem zkw (a0:List UInt8) (a1:List UInt8):z18 a0 a1 =
  ((z7u a0).bind fun v1=>((z7u a1).bind fun v2=>(some (PV.bool (eqS (PV.toS v1) (PV.toS v2)))))) :=
 (ze EE zdv _ rfl).trans (by kernel_rfl)
theorem zjb (a0:List UInt8) (a1:Int):zah a0 a1 =
  ((zy a0 8 8).bind fun v1=>(bif (PV.toB v1) then ((takeS a0 4).bind fun v2=>((z16 v2).bind fun v3=>((subS a0 4 6).bind fun v4=>((z16 v4).bind fun v5=>((dropS a0 6).bind fun v6=>((z16 v6).bind fun v7=>(some (PV.agg [(PV.int .i64 (PV.toI v3)),(PV.int .i64 (PV.toI v5)),(PV.int .i64 (PV.toI v7)),(PV.bool true)])))))))) else (z5o a0 a1 [45,47,46] 0 0 0 0 false))) :=
 (ze EE z19 _ rfl).trans (by kernel_rfl)
theorem za4 (x0:List UInt8) (x1:Int) (x2:List UInt8) (x3 x4 x5 x6:Int) (x7:Bool):z5o x0 x1 x2 x3 x4 x5 x6 x7 =
  (bif (ltB x3 (((List.length x2):Nat):Int)) then ((atS x2 x3).bind fun v1=>((zag x0 v1).bind fun v2=>(bif (!(eqB (((List.length (PV.toL v2)):Nat):Int) 3)) then (z5o x0 x1 x2 (IntKind.wrap .i64 (x3+1)) x4 x5 x6 x7) else ((atS x2 x3).bind fun v3=>(bif (eqB v3 45) then ((rdI tiStr (PV.toL v2) 0).bind fun v4=>((z1r (PV.toS v4)).bind fun v5=>(bif (ltB 0 (PV.toI v5)) then (z57 (PV.toL v2) x4 x5 x6 x7) else ((rdI tiStr (PV.toL v2) 1).bind fun v6=>((z1r (PV.toS v6)).bind fun v7=>(bif (ltB 0 (PV.toI v7)) then (z57 (PV.toL v2) x4 x5 x6 x7) else (z56 x1 (PV.toL v2) x4 x5 x6 x7))))))) else (z56 x1 (PV.toL v2) x4 x5 x6 x7)))))) else (some (PV.agg [(PV.int .i64 0),(PV.int .i64 0),(PV.int .i64 0),(PV.bool false)]))) :=
 (zb EE _ _).trans (by kernel_rfl)
theorem zfo (x0:List PV) (x1 x2 x3:Int) (x4:Bool):z57 x0 x1 x2 x3 x4 =
  ((z7r x0).bind fun v1=>(some (PV.agg [(PV.int .i64 (PV.toI (PV.nth v1 0))),(PV.int .i64 (PV.toI (PV.nth v1 1))),(PV.int .i64 (PV.toI (PV.nth v1 2))),(PV.bool (PV.toB (PV.nth v1 3)))]))) :=
 (zb EE _ _).trans (by kernel_rfl)
theorem zfn (x0:Int) (x1:List PV) (x2 x3 x4:Int) (x5:Bool):z56 x0 x1 x2 x3 x4 x5 =
  ((rdI tiStr x1 0).bind fun v1=>((rdI tiStr x1 1).bind fun v2=>((rdI tiStr x1 2).bind fun v3=>((rdI tiStr x1 0).bind fun v4=>((zy (PV.toS v4) 3 6).bind fun v5=>(bif (!(PV.toB v5)) then (bif (eqB x0 1) then ((rdI tiStr x1 0).bind fun v6=>((rdI tiStr x1 2).bind fun v7=>(z2a (PV.toS v7) (PV.toS v2) (PV.toS v6) x2 x3 x4 x5))) else (bif (eqB x0 2) then ((rdI tiStr x1 0).bind fun v8=>((rdI tiStr x1 1).bind fun v9=>((rdI tiStr x1 2).bind fun v10=>(z2a (PV.toS v10) (PV.toS v8) (PV.toS v9) x2 x3 x4 x5)))) else (z2a (PV.toS v1) (PV.toS v2) (PV.toS v3) x2 x3 x4 x5))) else (z2a (PV.toS v1) (PV.toS v2) (PV.toS v3) x2 x3 x4 x5))))))) :=
 (zb EE _ _).trans (by kernel_rfl)
theorem zfm (x0:List UInt8) (x1:List UInt8) (x2:List UInt8) (x3 x4 x5:Int) (x6:Bool):z2a x0 x1 x2 x3 x4 x5 x6 =
  ((zy x1 1 2).bind fun v1=>(bif (!(PV.toB v1)) then (z55 x3 x4 x5 x6) else ((zy x2 1 2).bind fun v2=>(bif (!(PV.toB v2)) then (z55 x3 x4 x5 x6) else ((zy x0 1 6).bind fun v3=>(bif (!(PV.toB v3)) then (z55 x3 x4 x5 x6) else (zc7 x0 x1 x2 x3 x4 x5 x6))))))) :=
 (zb EE _ _).trans (by kernel_rfl)
theorem zfl (x0 x1 x2:Int) (x3:Bool):z55 x0 x1 x2 x3 =
  (some (PV.agg [(PV.int .i64 0),(PV.int .i64 0),(PV.int .i64 0),(PV.bool false)])) :=
 (zb EE _ _).trans (by kernel_rfl)
theorem zfk (x0:List UInt8) (x1:List UInt8) (x2:List UInt8) (x3 x4 x5:Int) (x6:Bool):zc7 x0 x1 x2 x3 x4 x5 x6 =
  ((zc6 x0).bind fun v1=>((z16 x1).bind fun v2=>((z16 x2).bind fun v3=>(some (PV.agg [(PV.int .i64 (PV.toI v1)),(PV.int .i64 (PV.toI v2)),(PV.int .i64 (PV.toI v3)),(PV.bool true)]))))) :=
 (zb EE _ _).trans (by kernel_rfl)
theorem zjf (a0:List UInt8):z1r a0 =
  ((zaj a0 [(PV.str [74,97,110,117,97,114,121]),(PV.str [70,101,98,114,117,97,114,121]),(PV.str [77,97,114,99,104]),(PV.str [65,112,114,105,108]),(PV.str [77,97,121]),(PV.str [74,117,110,101]),(PV.str [74,117,108,121]),(PV.str [65,117,103,117,115,116]),(PV.str [83,101,112,116,101,109,98,101,114]),(PV.str [79,99,116,111,98,101,114]),(PV.str [78,111,118,101,109,98,101,114]),(PV.str [68,101,99,101,109,98,101,114])]).bind fun v1=>(some (PV.int .i64 (IntKind.wrap .i64 ((PV.toI v1)+1))))) :=
 (ze EE zcs _ rfl).trans (by kernel_rfl)
theorem zjc (a0:List PV):z7r a0 =
  (bif (!(eqB (((List.length a0):Nat):Int) 3)) then (some (PV.agg [(PV.int .i64 0),(PV.int .i64 0),(PV.int .i64 0),(PV.bool false)])) else ((rdI tiStr a0 0).bind fun v1=>((z1r (PV.toS v1)).bind fun v2=>((rdI tiStr a0 1).bind fun v3=>((rdI tiStr a0 2).bind fun v4=>(bif (eqB (PV.toI v2) 0) then ((rdI tiStr a0 1).bind fun v5=>((z1r (PV.toS v5)).bind fun v6=>((rdI tiStr a0 0).bind fun v7=>(z89 a0 (PV.toI v6) (PV.toS v7) (PV.toS v4) 0 0 0 false)))) else (z89 a0 (PV.toI v2) (PV.toS v3) (PV.toS v4) 0 0 0 false))))))) :=
 (ze EE z1v _ rfl).trans (by kernel_rfl)
theorem za5 (x0:List PV) (x1:Int) (x2:List UInt8) (x3:List UInt8) (x4 x5 x6:Int) (x7:Bool):z89 x0 x1 x2 x3 x4 x5 x6 x7 =
  ((rdI tiStr x0 0).bind fun v1=>((z1r (PV.toS v1)).bind fun v2=>(bif (eqB (PV.toI v2) 0) then ((zy x2 3 6).bind fun v3=>(bif (PV.toB v3) then (zc8 x1 x2 x3 x4 x5 x6 x7) else (z3e x1 x2 x3 x4 x5 x6 x7))) else (z3e x1 x2 x3 x4 x5 x6 x7)))) :=
 (zb EE _ _).trans (by kernel_rfl)
theorem zfq (x0:Int) (x1:List UInt8) (x2:List UInt8) (x3 x4 x5:Int) (x6:Bool):zc8 x0 x1 x2 x3 x4 x5 x6 =
  (z3e x0 x2 x1 x3 x4 x5 x6) :=
 (zb EE _ _).trans (by kernel_rfl)
theorem zfp (x0:Int) (x1:List UInt8) (x2:List UInt8) (x3 x4 x5:Int) (x6:Bool):z3e x0 x1 x2 x3 x4 x5 x6 =
  (bif (ltB 0 x0) then ((zy x1 1 2).bind fun v1=>(bif (PV.toB v1) then ((zy x2 3 6).bind fun v2=>(z58 x1 x2 x3 x4 x5 x6 0 x0 0 (PV.toB v2))) else (z58 x1 x2 x3 x4 x5 x6 0 x0 0 false))) else (z58 x1 x2 x3 x4 x5 x6 0 x0 0 false)) :=
 (zb EE _ _).trans (by kernel_rfl)
theorem z63 (x0:List UInt8) (x1:List UInt8) (x2 x3 x4:Int) (x5:Bool) (x6 x7 x8:Int) (x9:Bool):z58 x0 x1 x2 x3 x4 x5 x6 x7 x8 x9 =
  (bif x9 then ((z16 x0).bind fun v1=>((z16 x1).bind fun v2=>(some (PV.agg [(PV.int .i64 (PV.toI v2)),(PV.int .i64 x7),(PV.int .i64 (PV.toI v1)),(PV.bool x9)])))) else (some (PV.agg [(PV.int .i64 x6),(PV.int .i64 x7),(PV.int .i64 x8),(PV.bool x9)]))) :=
 (zb EE _ _).trans (by kernel_rfl)
theorem znm (a0 a1:Int):z4a a0 a1 =
  (bif (eqB a1 1) then (some (PV.int .i64 31)) else (bif (eqB a1 3) then (some (PV.int .i64 31)) else (bif (eqB a1 5) then (some (PV.int .i64 31)) else (bif (eqB a1 7) then (some (PV.int .i64 31)) else (bif (eqB a1 8) then (some (PV.int .i64 31)) else (bif (eqB a1 10) then (some (PV.int .i64 31)) else (bif (eqB a1 12) then (some (PV.int .i64 31)) else (ze3 a0 a1)))))))) :=
 (ze EE z51 _ rfl).trans (by kernel_rfl)
theorem zaw (x0 x1:Int):ze3 x0 x1 =
  (bif (eqB x1 4) then (some (PV.int .i64 30)) else (bif (eqB x1 6) then (some (PV.int .i64 30)) else (bif (eqB x1 9) then (some (PV.int .i64 30)) else (bif (eqB x1 11) then (some (PV.int .i64 30)) else (ze2 x0 x1))))) :=
 (zb EE _ _).trans (by kernel_rfl)
theorem zhq (x0 x1:Int):ze2 x0 x1 =
  (bif (eqB x1 2) then ((z6o x0).bind fun v1=>(bif (PV.toB v1) then (some (PV.int .i64 29)) else (some (PV.int .i64 28)))) else (some (PV.int .i64 0))) :=
 (zb EE _ _).trans (by kernel_rfl)
theorem z1c8 (a0:Int):z18c a0 =
  ((num_Sub 0 a0).bind fun v1=>(some (PV.tuple [(PV.int .i64 (PV.toI (PV.tnth v1 0))),(PV.int .i64 (PV.toI (PV.tnth v1 1)))]))) :=
 (ze EE z10o _ rfl).trans (by kernel_rfl)
theorem zz4 (a0:Int):zi6 a0 =
  (bif (leB (-2147483647) a0) then (some (PV.bool (leB a0 2147483647))) else (some (PV.bool false))) :=
 (ze EE zo4 _ rfl).trans (by kernel_rfl)
theorem zqx (a0:Int):zhj a0 =
  ((zn9 a0).bind fun v1=>(bif (eqB (PV.toI (PV.tnth v1 3)) 0) then (bif (leB (-4712) (PV.toI (PV.tnth v1 0))) then (some (PV.bool (leB (PV.toI (PV.tnth v1 0)) 294276))) else (some (PV.bool false))) else (some (PV.bool false)))) :=
 (ze EE zqo _ rfl).trans (by kernel_rfl)
theorem zd3 (a0:List UInt8) (a1:Int):zde a0 a1 =
  (bif (eqB a1 0) then (some (PV.str [])) else (bif (eqB a1 1) then (some (PV.str a0)) else (bif (ltB a1 0) then none else (zh1 a0 a1)))) :=
 (ze EE z13 _ rfl).trans (by kernel_rfl)
theorem znd (x0:List UInt8) (x1:Int):zh1 x0 x1 =
  ((z1bh (IntKind.wrap .u64 (((List.length x0):Nat):Int)) (IntKind.wrap .u64 x1)).bind fun v1=>(bif (ltB 0 (PV.toI (PV.tnth v1 0))) then (zfx x0 (PV.toI (PV.tnth v1 1))) else (bif (ltB 9223372036854775807 (PV.toI (PV.tnth v1 1))) then (zfx x0 (PV.toI (PV.tnth v1 1))) else (zfw x0 (PV.toI (PV.tnth v1 1)))))) :=
 (zb EE _ _).trans (by kernel_rfl)
theorem zk4 (x0:List UInt8) (x1:Int):zfw x0 x1 =
  (bif (eqB (((List.length x0):Nat):Int) 0) then (some (PV.str [])) else ((atS x0 0).bind fun v1=>(bif (eqB v1 32) then (z4o x0 (IntKind.wrap .i64 x1)) else (bif (eqB v1 45) then (z4o x0 (IntKind.wrap .i64 x1)) else (bif (eqB v1 48) then (z4o x0 (IntKind.wrap .i64 x1)) else (bif (eqB v1 61) then (z4o x0 (IntKind.wrap .i64 x1)) else (bif (eqB v1 9) then (z4o x0 (IntKind.wrap .i64 x1)) else (zpr x0 (IntKind.wrap .i64 x1))))))))) :=
 (zb EE _ _).trans (by kernel_rfl)
theorem zk3 (x0:List UInt8) (x1:Int):z4o x0 x1 =
  (bif (leB x1 128) then ((z91 [32,32,32,32,32,32,32,32,32,32,32,32,32,32,32,32,32,32,32,32,32,32,32,32,32,32,32,32,32,32,32,32,32,32,32,32,32,32,32,32,32,32,32,32,32,32,32,32,32,32,32,32,32,32,32,32,32,32,32,32,32,32,32,32,32,32,32,32,32,32,32,32,32,32,32,32,32,32,32,32,32,32,32,32,32,32,32,32,32,32,32,32,32,32,32,32,32,32,32,32,32,32,32,32,32,32,32,32,32,32,32,32,32,32,32,32,32,32,32,32,32,32,32,32,32,32,32,32] x0).bind fun v1=>(bif (PV.toB v1) then (zpt x1) else (z8c x0 x1))) else (z8c x0 x1)) :=
 (zb EE _ _).trans (by kernel_rfl)
theorem zk2 (x0:List UInt8) (x1:Int):z8c x0 x1 =
  (bif (leB x1 128) then ((z91 [45,45,45,45,45,45,45,45,45,45,45,45,45,45,45,45,45,45,45,45,45,45,45,45,45,45,45,45,45,45,45,45,45,45,45,45,45,45,45,45,45,45,45,45,45,45,45,45,45,45,45,45,45,45,45,45,45,45,45,45,45,45,45,45,45,45,45,45,45,45,45,45,45,45,45,45,45,45,45,45,45,45,45,45,45,45,45,45,45,45,45,45,45,45,45,45,45,45,45,45,45,45,45,45,45,45,45,45,45,45,45,45,45,45,45,45,45,45,45,45,45,45,45,45,45,45,45,45] x0).bind fun v1=>(bif (PV.toB v1) then (zps x1) else (z8b x0 x1))) else (z8b x0 x1)) :=
 (zb EE _ _).trans (by kernel_rfl)
theorem zk1 (x0:List UInt8) (x1:Int):z8b x0 x1 =
  (bif (leB x1 64) then ((z91 [48,48,48,48,48,48,48,48,48,48,48,48,48,48,48,48,48,48,48,48,48,48,48,48,48,48,48,48,48,48,48,48,48,48,48,48,48,48,48,48,48,48,48,48,48,48,48,48,48,48,48,48,48,48,48,48,48,48,48,48,48,48,48,48] x0).bind fun v1=>(bif (PV.toB v1) then (zbk x1) else (zfv x0 x1))) else (zfv x0 x1)) :=
 (zb EE _ _).trans (by kernel_rfl)
theorem zk0 (x0:Int):zbk x0 =
  ((takeS [48,48,48,48,48,48,48,48,48,48,48,48,48,48,48,48,48,48,48,48,48,48,48,48,48,48,48,48,48,48,48,48,48,48,48,48,48,48,48,48,48,48,48,48,48,48,48,48,48,48,48,48,48,48,48,48,48,48,48,48,48,48,48,48] x0).bind fun v1=>(some (PV.str v1))) :=
 (zb EE _ _).trans (by kernel_rfl)
theorem zpq (a0:List UInt8) (a1:List UInt8):zjy a0 a1 =
  ((z90 a0 a1).bind fun v1=>(bif (leB 0 (PV.toI v1)) then ((takeS a0 (PV.toI v1)).bind fun v2=>((dropS a0 (IntKind.wrap .i64 ((PV.toI v1)+(((List.length a1):Nat):Int)))).bind fun v3=>(some (PV.tuple [(PV.str v2),(PV.str v3),(PV.bool true)])))) else (some (PV.tuple [(PV.str a0),(PV.str []),(PV.bool false)])))) :=
 (ze EE zg5 _ rfl).trans (by kernel_rfl)
theorem zyv (a0:List UInt8):zd2 a0 =
  (z6r a0 0 0 a0 0) :=
 (ze EE z26 _ rfl).trans (by kernel_rfl)
theorem z8w (x0:List UInt8) (x1 x2:Int) (x3:List UInt8) (x4:Nat):z6r x0 x1 x2 x3 x4 =
  (bif (ltN x4 (List.length x3)) then ((zgz ((((decR x3 x4).1):Nat):Int)).bind fun v1=>(bif (!(eqB (PV.toI v1) 1)) then (some (PV.tuple [(PV.int .i64 0),(PV.int .i64 13)])) else (bif (eqB x2 0) then ((zkh x1 10).bind fun v2=>(zgg x0 (PV.toI (PV.tnth v2 0)) (PV.toI (PV.tnth v2 1)) ((((decR x3 x4).1):Nat):Int) x3 (x4+((decR x3 x4).2)))) else (zgg x0 x1 x2 ((((decR x3 x4).1):Nat):Int) x3 (x4+((decR x3 x4).2)))))) else (bif (eqS x0 []) then (some (PV.tuple [(PV.int .i64 0),(PV.int .i64 13)])) else (some (PV.tuple [(PV.int .i64 x1),(PV.int .i64 x2)])))) :=
 (zb EE _ _).trans (by kernel_rfl)
theorem zd1 (x0:List UInt8) (x1 x2 x3:Int) (x4:List UInt8) (x5:Nat):zgg x0 x1 x2 x3 x4 x5 =
  (bif (eqB x2 0) then ((zki x1 (IntKind.wrap .i64 (IntKind.wrap .i32 (x3-48)))).bind fun v1=>(z6r x0 (PV.toI (PV.tnth v1 0)) (PV.toI (PV.tnth v1 1)) x4 x5)) else (z6r x0 x1 x2 x4 x5)) :=
 (zb EE _ _).trans (by kernel_rfl)
theorem z1c9 (a0 a1:Int):zkh a0 a1 =
  ((zx3 a0 a1).bind fun v1=>((zs6 (!((ltB a0 0) == (ltB a1 0))) (PV.toI (PV.nth v1 0)) (PV.toI (PV.nth v1 1))).bind fun v2=>(some (PV.tuple [(PV.int .i64 (PV.toI (PV.tnth v2 0))),(PV.int .i64 (PV.toI (PV.tnth v2 1)))])))) :=
 (ze EE z66 _ rfl).trans (by kernel_rfl)
theorem z1ca (a0 a1:Int):zki a0 a1 =
  (bif (!((ltB a0 (IntKind.wrap .i64 (a0+a1))) == (ltB 0 a1))) then (some (PV.tuple [(PV.int .i64 0),(PV.int .i64 10)])) else (some (PV.tuple [(PV.int .i64 (IntKind.wrap .i64 (a0+a1))),(PV.int .i64 0)]))) :=
 (ze EE z7b _ rfl).trans (by kernel_rfl)
theorem zne (a0:List UInt8) (a1:List UInt8):z92 a0 a1 =
  ((zdj a0 a1).bind fun v1=>(some (PV.tuple [(PV.str (PV.toS (PV.tnth v1 0))),(PV.bool (PV.toB (PV.tnth v1 1)))]))) :=
 (ze EE z1i _ rfl).trans (by kernel_rfl)
theorem zjz (a0:List UInt8) (a1:List UInt8):z8a a0 a1 =
  ((zcp a0 a1).bind fun v1=>(some (PV.str (PV.toS v1)))) :=
 (ze EE z6k _ rfl).trans (by kernel_rfl)
theorem zu9 (a0:List UInt8) (a1:List UInt8):zem a0 a1 =
  ((ziv a0 a1 0 (-1)).bind fun v1=>(some (PV.sl 1 (PV.toL v1)))) :=
 (ze EE z85 _ rfl).trans (by kernel_rfl)
theorem zz9 (a0:List UInt8):z3s a0 =
  ((zd2 a0).bind fun v1=>(some (PV.int .i64 (PV.toI (PV.tnth v1 0))))) :=
 (ze EE zgq _ rfl).trans (by kernel_rfl)
theorem zji (a0 a1 a2:Int):zal a0 a1 a2 =
  (bif (leB (-4718) a0) then (bif (leB a0 294282) then (bif (leB 1 a1) then (bif (leB a1 12) then (bif (leB 1 a2) then ((z4a a0 a1).bind fun v1=>(some (PV.bool (leB a2 (PV.toI v1))))) else (some (PV.bool false))) else (some (PV.bool false))) else (some (PV.bool false))) else (some (PV.bool false))) else (some (PV.bool false))) :=
 (ze EE zct _ rfl).trans (by kernel_rfl)
theorem znl (a0 a1 a2:Int):z7d a0 a1 a2 =
  ((zak a0).bind fun v1=>(z71 a0 a1 (IntKind.wrap .i64 ((IntKind.wrap .i64 ((PV.toI v1)+a2))-1)) 1)) :=
 (ze EE z6z _ rfl).trans (by kernel_rfl)
theorem zca (x0 x1 x2 x3:Int):z71 x0 x1 x2 x3 =
  (bif (ltB x3 x1) then ((z4a x0 x3).bind fun v1=>(z71 x0 x1 (IntKind.wrap .i64 (x2+(PV.toI v1))) (IntKind.wrap .i64 (x3+1)))) else (some (PV.int .i64 x2))) :=
 (zb EE _ _).trans (by kernel_rfl)
theorem zl0 (a0:Int):z8i a0 =
  ((zda a0).bind fun v1=>(bif (!(PV.toB v1)) then (some (PV.tuple [(PV.int .i64 0),(PV.int .i64 0),(PV.int .i64 0),(PV.int .i64 10)])) else ((z95 a0 146097).bind fun v2=>((z49 a0 146097).bind fun v3=>(z6q (IntKind.wrap .i64 (2000+(IntKind.wrap .i64 ((PV.toI v2)*400)))) (PV.toI v3)))))) :=
 (ze EE z2u _ rfl).trans (by kernel_rfl)
theorem zhs (x0 x1:Int):z6q x0 x1 =
  ((z6o x0).bind fun v1=>(bif (PV.toB v1) then (z6p x0 x1 366) else (z6p x0 x1 365))) :=
 (zb EE _ _).trans (by kernel_rfl)
theorem zhr (x0 x1 x2:Int):z6p x0 x1 x2 =
  (bif (ltB x1 x2) then (z5r x0 x1 1) else (z6q (IntKind.wrap .i64 (x0+1)) (IntKind.wrap .i64 (x1-x2)))) :=
 (zb EE _ _).trans (by kernel_rfl)
theorem za8 (x0 x1 x2:Int):z5r x0 x1 x2 =
  ((z4a x0 x2).bind fun v1=>(bif (leB (PV.toI v1) x1) then ((z4a x0 x2).bind fun v2=>(z5r x0 (IntKind.wrap .i64 (x1-(PV.toI v2))) (IntKind.wrap .i64 (x2+1)))) else (some (PV.tuple [(PV.int .i64 x0),(PV.int .i64 x2),(PV.int .i64 (IntKind.wrap .i64 (x1+1))),(PV.int .i64 0)])))) :=
 (zb EE _ _).trans (by kernel_rfl)
theorem z11b (a0:List UInt8):zew a0 =
  ((zre a0 [(PV.str [74,97,110,117,97,114,121]),(PV.str [70,101,98,114,117,97,114,121]),(PV.str [77,97,114,99,104]),(PV.str [65,112,114,105,108]),(PV.str [77,97,121]),(PV.str [74,117,110,101]),(PV.str [74,117,108,121]),(PV.str [65,117,103,117,115,116]),(PV.str [83,101,112,116,101,109,98,101,114]),(PV.str [79,99,116,111,98,101,114]),(PV.str [78,111,118,101,109,98,101,114]),(PV.str [68,101,99,101,109,98,101,114])]).bind fun v1=>(some (PV.int .i64 (IntKind.wrap .i64 ((PV.toI v1)+1))))) :=
 (ze EE zqj _ rfl).trans (by kernel_rfl)
theorem z13i (a0:Int):zsf a0 =
  (bif (eqB (Int.tmod a0 4) 0) then (bif (!(eqB (Int.tmod a0 100) 0)) then (some (PV.bool true)) else (some (PV.bool (eqB (Int.tmod a0 400) 0)))) else (some (PV.bool false))) :=
 (ze EE zqq _ rfl).trans (by kernel_rfl)
theorem zzl (a0 a1 a2:Int):zp5 a0 a1 a2 =
  (bif (leB (-4718) a0) then (bif (leB a0 294282) then (bif (leB 1 a2) then ((zhu a0 a1).bind fun v1=>(some (PV.bool (leB a2 (PV.toI v1))))) else (some (PV.bool false))) else (some (PV.bool false))) else (some (PV.bool false))) :=
 (ze EE zo8 _ rfl).trans (by kernel_rfl)
theorem z16h (a0 a1 a2:Int):zl2 a0 a1 a2 =
  (bif (leB a1 2) then (zgd (IntKind.wrap .i64 (a0-1)) (IntKind.wrap .i64 (a1+12)) a2) else (zgd a0 a1 a2)) :=
 (ze EE zg8 _ rfl).trans (by kernel_rfl)
theorem zy2 (x0 x1 x2:Int):zgd x0 x1 x2 =
  ((zis x0 400).bind fun v1=>(some (PV.int .i64 (IntKind.wrap .i64 ((IntKind.wrap .i64 ((IntKind.wrap .i64 ((IntKind.wrap .i64 ((IntKind.wrap .i64 ((IntKind.wrap .i64 ((IntKind.wrap .i64 ((IntKind.wrap .i64 ((PV.toI (PV.tnth v1 0))*146097))+(IntKind.wrap .i64 ((PV.toI (PV.tnth v1 1))*365))))+(IntKind.wrap .i64 (Int.tdiv (PV.toI (PV.tnth v1 1)) 4))))-(IntKind.wrap .i64 (Int.tdiv (PV.toI (PV.tnth v1 1)) 100))))+(IntKind.wrap .i64 (Int.tdiv (IntKind.wrap .i64 ((IntKind.wrap .i64 (153*(IntKind.wrap .i64 (x1-3))))+2)) 5))))+x2))-1))-730425))))) :=
 (zb EE _ _).trans (by kernel_rfl)
theorem zio (a0:List UInt8) (a1 a2:Int):zy a0 a1 a2 =
  (bif (leB a1 (((List.length a0):Nat):Int)) then (z7s a0 (leB (((List.length a0):Nat):Int) a2)) else (z7s a0 false)) :=
 (ze EE z3c _ rfl).trans (by kernel_rfl)
theorem zfr (x0:List UInt8) (x1:Bool):z7s x0 x1 =
  (z2b x0 x1 0) :=
 (zb EE _ _).trans (by kernel_rfl)
theorem z99 (x0:List UInt8) (x1:Bool) (x2:Int):z2b x0 x1 x2 =
  (bif (ltB x2 (((List.length x0):Nat):Int)) then (bif x1 then ((atS x0 x2).bind fun v1=>(bif (leB 48 v1) then ((atS x0 x2).bind fun v2=>(z2b x0 (leB v2 57) (IntKind.wrap .i64 (x2+1)))) else (z2b x0 false (IntKind.wrap .i64 (x2+1))))) else (z2b x0 false (IntKind.wrap .i64 (x2+1)))) else (some (PV.bool x1))) :=
 (zb EE _ _).trans (by kernel_rfl)
theorem zim (a0:List UInt8):z16 a0 =
  ((z9h a0).bind fun v1=>(some (PV.int .i64 (PV.toI (PV.tnth v1 0))))) :=
 (ze EE zc4 _ rfl).trans (by kernel_rfl)
theorem zja (a0:List UInt8) (a1:Int):zag a0 a1 =
  (z3p a0 a1 0 [(PV.str [])] 1) :=
 (ze EE z3m _ rfl).trans (by kernel_rfl)
theorem za3 (x0:List UInt8) (x1 x2:Int) (x3:List PV) (x4:Nat):z3p x0 x1 x2 x3 x4 =
  (bif (ltB x2 (((List.length x0):Nat):Int)) then ((atS x0 x2).bind fun v1=>(bif (eqB v1 x1) then ((appL 16 x3 [(PV.str [])]).bind fun v2=>(bif (leN (List.length v2) x4) then (z3p x0 x1 (IntKind.wrap .i64 (x2+1)) v2 x4) else (z2x x0 x1 (IntKind.wrap .i64 (x2+1)) v2))) else (bif (inB 0 (IntKind.wrap .i64 ((((List.length x3):Nat):Int)-1)) (((List.length x3):Nat):Int)) then ((rdT tiStr x3 (Int.toNat (IntKind.wrap .i64 ((((List.length x3):Nat):Int)-1))) 0).bind fun v3=>((subS x0 x2 (IntKind.wrap .i64 (x2+1))).bind fun v4=>((catS (PV.toS v3) v4).bind fun v5=>(bif (inB 0 (IntKind.wrap .i64 ((((List.length x3):Nat):Int)-1)) (((List.length x3):Nat):Int)) then ((stC x3 (Int.toNat (IntKind.wrap .i64 ((((List.length x3):Nat):Int)-1))) 0 [(PV.str v5)]).bind fun v6=>(z3p x0 x1 (IntKind.wrap .i64 (x2+1)) v6 x4)) else none)))) else none))) else (some (PV.sl 1 x3))) :=
 (zb EE _ _).trans (by kernel_rfl)
theorem z8t (x0:List UInt8) (x1 x2:Int) (x3:List PV):z2x x0 x1 x2 x3 =
  (bif (ltB x2 (((List.length x0):Nat):Int)) then ((atS x0 x2).bind fun v1=>(bif (eqB v1 x1) then ((appL 16 x3 [(PV.str [])]).bind fun v2=>(z2x x0 x1 (IntKind.wrap .i64 (x2+1)) v2)) else (bif (inB 0 (IntKind.wrap .i64 ((((List.length x3):Nat):Int)-1)) (((List.length x3):Nat):Int)) then ((rdT tiStr x3 (Int.toNat (IntKind.wrap .i64 ((((List.length x3):Nat):Int)-1))) 0).bind fun v3=>((subS x0 x2 (IntKind.wrap .i64 (x2+1))).bind fun v4=>((catS (PV.toS v3) v4).bind fun v5=>(bif (inB 0 (IntKind.wrap .i64 ((((List.length x3):Nat):Int)-1)) (((List.length x3):Nat):Int)) then ((stC x3 (Int.toNat (IntKind.wrap .i64 ((((List.length x3):Nat):Int)-1))) 0 [(PV.str v5)]).bind fun v6=>(z2x x0 x1 (IntKind.wrap .i64 (x2+1)) v6)) else none)))) else none))) else (some (PV.sl 1 x3))) :=
 (zb EE _ _).trans (by kernel_rfl)
theorem zks (a0:List UInt8):zc6 a0 =
  ((zy a0 3 6).bind fun v1=>(bif (PV.toB v1) then ((z16 a0).bind fun v2=>(some (PV.int .i64 (PV.toI v2)))) else ((zy a0 1 2).bind fun v3=>(bif (!(PV.toB v3)) then (some (PV.int .i64 0)) else ((z16 a0).bind fun v4=>(bif (ltB (PV.toI v4) 70) then (some (PV.int .i64 (IntKind.wrap .i64 (2000+(PV.toI v4))))) else (some (PV.int .i64 (IntKind.wrap .i64 (1900+(PV.toI v4))))))))))) :=
 (ze EE zdt _ rfl).trans (by kernel_rfl)
theorem zje (a0:List UInt8) (a1:List PV):zaj a0 a1 =
  (z3q a0 a1 0) :=
 (ze EE z3n _ rfl).trans (by kernel_rfl)
theorem z6v (x0:List UInt8) (x1:List PV) (x2:Int):z3q x0 x1 x2 =
  (bif (ltB x2 (((List.length x1):Nat):Int)) then (bif (leB 3 (((List.length x0):Nat):Int)) then (zcz x0 x1 x2) else (some (PV.int .i64 (-1)))) else (some (PV.int .i64 (-1)))) :=
 (zb EE _ _).trans (by kernel_rfl)
theorem zgx (x0:List UInt8) (x1:List PV) (x2:Int):zcz x0 x1 x2 =
  ((rdI tiStr x1 x2).bind fun v1=>(bif (leB (((List.length x0):Nat):Int) (((List.length (PV.toS v1)):Nat):Int)) then ((rdI tiStr x1 x2).bind fun v2=>((takeS (PV.toS v2) (((List.length x0):Nat):Int)).bind fun v3=>((z18 x0 v3).bind fun v4=>(bif (PV.toB v4) then (some (PV.int .i64 x2)) else (z3q x0 x1 (IntKind.wrap .i64 (x2+1))))))) else (z3q x0 x1 (IntKind.wrap .i64 (x2+1))))) :=
 (zb EE _ _).trans (by kernel_rfl)
theorem zkx (a0:Int):z6o a0 =
  ((z49 a0 4).bind fun v1=>(bif (eqB (PV.toI v1) 0) then ((z49 a0 100).bind fun v2=>(bif (!(eqB (PV.toI v2) 0)) then (some (PV.bool true)) else ((z49 a0 400).bind fun v3=>(some (PV.bool (eqB (PV.toI v3) 0)))))) else (some (PV.bool false)))) :=
 (ze EE zdw _ rfl).trans (by kernel_rfl)
theorem z1c7 (a0 a1:Int):num_Sub a0 a1 =
  (bif (!((ltB (IntKind.wrap .i64 (a0-a1)) a0) == (ltB 0 a1))) then (some (PV.tuple [(PV.int .i64 0),(PV.int .i64 10)])) else (some (PV.tuple [(PV.int .i64 (IntKind.wrap .i64 (a0-a1))),(PV.int .i64 0)]))) :=
 (ze EE z10n _ rfl).trans (by kernel_rfl)
theorem zr1 (a0:Int):zn9 a0 =
  ((zy3 a0).bind fun v1=>(bif (!(PV.toB v1)) then (some (PV.tuple [(PV.int .i64 0),(PV.int .i64 0),(PV.int .i64 0),(PV.int .i64 10)])) else ((zp4 a0).bind fun v2=>(some (PV.tuple [(PV.int .i64 (PV.toI (PV.tnth v2 0))),(PV.int .i64 (PV.toI (PV.tnth v2 1))),(PV.int .i64 (PV.toI (PV.tnth v2 2))),(PV.int .i64 0)]))))) :=
 (ze EE zqt _ rfl).trans (by kernel_rfl)
theorem z195 (a0 a1:Int):z1bh a0 a1 =
  ((zna a0 a1).bind fun v1=>(some (PV.tuple [(PV.int .u64 (PV.toI (PV.tnth v1 0))),(PV.int .u64 (PV.toI (PV.tnth v1 1)))]))) :=
 (ze EE zxr _ rfl).trans (by kernel_rfl)
theorem z9d (a0:List UInt8) (a1:List UInt8):z91 a0 a1 =
  ((z4e a0 a1).bind fun v1=>(some (PV.bool (PV.toB v1)))) :=
 (ze EE zei _ rfl).trans (by kernel_rfl)
theorem zef (a0:List UInt8) (a1:List UInt8):z90 a0 a1 =
  (bif (eqB (((List.length a1):Nat):Int) 0) then z9c else (bif (eqS a1 a0) then z9c else (zeg a0 a1 (((List.length a1):Nat):Int)))) :=
 (ze EE z50 _ rfl).trans (by kernel_rfl)
theorem zbj  : z9c  =
  (some (PV.int .i64 0)) :=
 (zb EE _ _).trans (by kernel_rfl)
theorem zbi (x0:List UInt8) (x1:List UInt8) (x2:Int):zeg x0 x1 x2 =
  (bif (eqB x2 1) then ((atS x1 0).bind fun v1=>((z68 x0 v1).bind fun v2=>(some (PV.int .i64 (PV.toI v2))))) else (bif (leB (((List.length x0):Nat):Int) x2) then (some (PV.int .i64 (-1))) else none)) :=
 (zb EE _ _).trans (by kernel_rfl)
theorem zsm (a0:Int):zgz a0 =
  (bif (leB 48 a0) then (bif (leB a0 57) then zsn else (zfu a0)) else (zfu a0)) :=
 (ze EE z7o _ rfl).trans (by kernel_rfl)
theorem zvv  : zsn  =
  (some (PV.int .i64 1)) :=
 (zb EE _ _).trans (by kernel_rfl)
theorem zvu (x0:Int):zfu x0 =
  (bif (eqB x0 95) then zft else (bif (ltB 127 x0) then zft else (bif (leB 97 (orI IntKind.i32 x0 32)) then (bif (leB (orI IntKind.i32 x0 32) 122) then zft else (zjn x0)) else (zjn x0)))) :=
 (zb EE _ _).trans (by kernel_rfl)
theorem zvt  : zft  =
  (some (PV.int .i64 2)) :=
 (zb EE _ _).trans (by kernel_rfl)
theorem zvs (x0:Int):zjn x0 =
  (bif (eqB x0 32) then zbb else (bif (eqB x0 9) then zbb else (bif (eqB x0 10) then zbb else (bif (eqB x0 13) then zbb else (bif (ltB x0 32) then (some (PV.int .i64 4)) else (bif (eqB x0 127) then (some (PV.int .i64 4)) else (some (PV.int .i64 3)))))))) :=
 (zb EE _ _).trans (by kernel_rfl)
theorem zu1  : zbb  =
  (some (PV.int .i64 0)) :=
 (zb EE _ _).trans (by kernel_rfl)
theorem z12n (a0:Bool) (a1_0 a1_1:Int):zs6 a0 a1_0 a1_1 =
  (bif (!(eqB a1_0 0)) then (some (PV.tuple [(PV.int .i64 0),(PV.int .i64 10)])) else (bif a0 then (bif (leB a1_1 9223372036854775808) then (some (PV.tuple [(PV.int .i64 (IntKind.wrap .i64 (IntKind.wrap .u64 (0-a1_1)))),(PV.int .i64 0)])) else (zic a0 [(PV.int .u64 a1_0),(PV.int .u64 a1_1)] 2)) else (zic a0 [(PV.int .u64 a1_0),(PV.int .u64 a1_1)] 2))) :=
 (ze EE zeu _ rfl).trans (by kernel_rfl)
theorem zup (x0:Bool) (x1:List PV) (x2:Nat):zic x0 x1 x2 =
  (bif x0 then (some (PV.tuple [(PV.int .i64 0),(PV.int .i64 10)])) else ((rdT (tiInt IntKind.u64) x1 1 0).bind fun v1=>(bif (ltB 9223372036854775807 (PV.toI v1)) then (some (PV.tuple [(PV.int .i64 0),(PV.int .i64 10)])) else ((rdT (tiInt IntKind.u64) x1 1 0).bind fun v2=>(some (PV.tuple [(PV.int .i64 (IntKind.wrap .i64 (PV.toI v2))),(PV.int .i64 0)])))))) :=
 (zb EE _ _).trans (by kernel_rfl)
theorem zzb (a0 a1:Int):zx3 a0 a1 =
  ((zva a0).bind fun v1=>((zva a1).bind fun v2=>((zna (PV.toI v1) (PV.toI v2)).bind fun v3=>(some (PV.agg [(PV.int .u64 (PV.toI (PV.tnth v3 0))),(PV.int .u64 (PV.toI (PV.tnth v3 1)))]))))) :=
 (ze EE zo5 _ rfl).trans (by kernel_rfl)
theorem zh0 (a0:List UInt8) (a1:List UInt8):zdj a0 a1 =
  ((z4e a0 a1).bind fun v1=>(bif (!(PV.toB v1)) then (some (PV.tuple [(PV.str a0),(PV.bool false)])) else ((dropS a0 (((List.length a1):Nat):Int)).bind fun v2=>(some (PV.tuple [(PV.str v2),(PV.bool true)]))))) :=
 (ze EE zau _ rfl).trans (by kernel_rfl)
theorem zgi (a0:List UInt8) (a1:List UInt8):zcp a0 a1 =
  ((z4e a0 a1).bind fun v1=>(bif (PV.toB v1) then ((dropS a0 (((List.length a1):Nat):Int)).bind fun v2=>(some (PV.str v2))) else (some (PV.str a0)))) :=
 (ze EE za2 _ rfl).trans (by kernel_rfl)
theorem zob (a0:List UInt8) (a1:List UInt8) (a2 a3:Int):ziv a0 a1 a2 a3 =
  (bif (eqB a3 0) then (some (PV.sl 0 [])) else (bif (eqS a1 []) then ((zw8 a0 a3).bind fun v1=>(some (PV.sl 1 (PV.toL v1)))) else (bif (ltB a3 0) then ((zi5 a0 a1).bind fun v2=>(zad a0 a1 a2 (IntKind.wrap .i64 ((PV.toI v2)+1)))) else (zad a0 a1 a2 a3)))) :=
 (ze EE z5k _ rfl).trans (by kernel_rfl)
theorem zj8 (x0:List UInt8) (x1:List UInt8) (x2 x3:Int):zad x0 x1 x2 x3 =
  (bif (decide ((0≤(minI x3 (IntKind.wrap .i64 ((((List.length x0):Nat):Int)+1))))∧(((minI x3 (IntKind.wrap .i64 ((((List.length x0):Nat):Int)+1)))≤(minI x3 (IntKind.wrap .i64 ((((List.length x0):Nat):Int)+1))))∧(((minI x3 (IntKind.wrap .i64 ((((List.length x0):Nat):Int)+1)))*((16:Nat):Int))≤(HPow.hPow (2:Int) 46))))) then (z6w x0 x1 x2 (IntKind.wrap .i64 ((minI x3 (IntKind.wrap .i64 ((((List.length x0):Nat):Int)+1)))-1)) 0 (List.replicate (Int.toNat (minI x3 (IntKind.wrap .i64 ((((List.length x0):Nat):Int)+1)))) (PV.str [])) (Int.toNat (minI x3 (IntKind.wrap .i64 ((((List.length x0):Nat):Int)+1))))) else none) :=
 (zb EE _ _).trans (by kernel_rfl)
theorem zi3 (x0:List UInt8) (x1:List UInt8) (x2 x3 x4:Int) (x5:List PV) (x6:Nat):z6w x0 x1 x2 x3 x4 x5 x6 =
  (bif (ltB x4 x3) then ((zi4 x0 x1).bind fun v1=>(bif (ltB (PV.toI v1) 0) then (bif (inB 0 x4 (((List.length x5):Nat):Int)) then ((stC x5 (Int.toNat x4) 0 [(PV.str x0)]).bind fun v2=>(bif (decide ((0≤(IntKind.wrap .i64 (x4+1)))∧((IntKind.wrap .i64 (x4+1))≤(((List.length v2):Nat):Int)))) then (some (PV.sl 1 (List.take (Int.toNat (IntKind.wrap .i64 (x4+1))) v2))) else none)) else none) else ((takeS x0 (IntKind.wrap .i64 ((PV.toI v1)+x2))).bind fun v3=>(bif (inB 0 x4 (((List.length x5):Nat):Int)) then ((stC x5 (Int.toNat x4) 0 [(PV.str v3)]).bind fun v4=>((dropS x0 (IntKind.wrap .i64 ((PV.toI v1)+(((List.length x1):Nat):Int)))).bind fun v5=>(z6w v5 x1 x2 x3 (IntKind.wrap .i64 (x4+1)) v4 x6))) else none)))) else (bif (inB 0 x4 (((List.length x5):Nat):Int)) then ((stC x5 (Int.toNat x4) 0 [(PV.str x0)]).bind fun v6=>(bif (decide ((0≤(IntKind.wrap .i64 (x4+1)))∧((IntKind.wrap .i64 (x4+1))≤(((List.length v6):Nat):Int)))) then (some (PV.sl 1 (List.take (Int.toNat (IntKind.wrap .i64 (x4+1))) v6))) else none)) else none)) :=
 (zb EE _ _).trans (by kernel_rfl)
theorem zjh (a0:Int):zak a0 =
  ((z95 (IntKind.wrap .i64 (a0-2000)) 400).bind fun v1=>(z3r a0 (IntKind.wrap .i64 ((PV.toI v1)*146097)) 0)) :=
 (ze EE z5n _ rfl).trans (by kernel_rfl)
theorem za7 (x0 x1 x2:Int):z3r x0 x1 x2 =
  ((z49 (IntKind.wrap .i64 (x0-2000)) 400).bind fun v1=>(bif (ltB x2 (PV.toI v1)) then ((z6o (IntKind.wrap .i64 (2000+x2))).bind fun v2=>(bif (PV.toB v2) then (z3r x0 (IntKind.wrap .i64 ((IntKind.wrap .i64 (x1+365))+1)) (IntKind.wrap .i64 (x2+1))) else (z3r x0 (IntKind.wrap .i64 (x1+365)) (IntKind.wrap .i64 (x2+1))))) else (some (PV.int .i64 x1)))) :=
 (zb EE _ _).trans (by kernel_rfl)
theorem znn (a0:Int):zda a0 =
  ((zfd).bind fun v1=>(bif (leB (PV.toI v1) a0) then ((zgc).bind fun v2=>(some (PV.bool (leB a0 (PV.toI v2))))) else (some (PV.bool false)))) :=
 (ze EE zel _ rfl).trans (by kernel_rfl)
theorem znk (a0 a1:Int):z95 a0 a1 =
  (bif (eqB a1 0) then none else (bif (eqB a1 0) then none else (bif (ltB (Int.tmod a0 a1) 0) then (some (PV.int .i64 (IntKind.wrap .i64 ((IntKind.wrap .i64 (Int.tdiv a0 a1))-1)))) else (some (PV.int .i64 (IntKind.wrap .i64 (Int.tdiv a0 a1))))))) :=
 (ze EE zek _ rfl).trans (by kernel_rfl)
theorem znj (a0 a1:Int):z49 a0 a1 =
  (bif (eqB a1 0) then none else (bif (ltB (Int.tmod a0 a1) 0) then (some (PV.int .i64 (IntKind.wrap .i64 ((Int.tmod a0 a1)+a1)))) else (some (PV.int .i64 (Int.tmod a0 a1))))) :=
 (ze EE zej _ rfl).trans (by kernel_rfl)
theorem z11a (a0:List UInt8) (a1:List PV):zre a0 a1 =
  (bif (ltB (((List.length a0):Nat):Int) 3) then (some (PV.int .i64 (-1))) else ((z7g a1 (PV.func (Go.Fn.func z5j) [] [(PV.ref [(PV.str a0)] 0)])).bind fun v1=>(some (PV.int .i64 (PV.toI v1))))) :=
 (ze EE zqi _ rfl).trans (by kernel_rfl)
theorem zzk (a0 a1:Int):zis a0 a1 =
  (bif (eqB a1 0) then none else (bif (eqB a1 0) then none else (bif (ltB (Int.tmod a0 a1) 0) then (some (PV.tuple [(PV.int .i64 (IntKind.wrap .i64 ((IntKind.wrap .i64 (Int.tdiv a0 a1))-1))),(PV.int .i64 (IntKind.wrap .i64 ((Int.tmod a0 a1)+a1)))])) else (some (PV.tuple [(PV.int .i64 (IntKind.wrap .i64 (Int.tdiv a0 a1))),(PV.int .i64 (Int.tmod a0 a1))]))))) :=
 (ze EE zo7 _ rfl).trans (by kernel_rfl)
theorem ziq (a0:List UInt8):z9h a0 =
  (z3f a0 0 0 0) :=
 (ze EE z1q _ rfl).trans (by kernel_rfl)
theorem z64 (x0:List UInt8) (x1 x2 x3:Int):z3f x0 x1 x2 x3 =
  (bif (ltB x3 (((List.length x0):Nat):Int)) then ((atS x0 x3).bind fun v1=>((zai v1).bind fun v2=>(bif (!(PV.toB v2)) then (some (PV.tuple [(PV.int .i64 0),(PV.int .i64 13)])) else ((atS x0 x3).bind fun v3=>(bif (eqB x2 0) then (bif (ltB 922337203685477580 x1) then (z7c x0 x1 x3 (IntKind.wrap .i64 (IntKind.wrap .u8 (v3-48)))) else (bif (ltB (IntKind.wrap .i64 (9223372036854775807-(IntKind.wrap .i64 (IntKind.wrap .u8 (v3-48))))) (IntKind.wrap .i64 (10*x1))) then (z7c x0 x1 x3 (IntKind.wrap .i64 (IntKind.wrap .u8 (v3-48)))) else (z4t x0 x1 x2 x3 (IntKind.wrap .i64 (IntKind.wrap .u8 (v3-48)))))) else (z4t x0 x1 x2 x3 (IntKind.wrap .i64 (IntKind.wrap .u8 (v3-48))))))))) else (bif (eqB (((List.length x0):Nat):Int) 0) then (some (PV.tuple [(PV.int .i64 0),(PV.int .i64 13)])) else (bif (!(eqB x2 0)) then (some (PV.tuple [(PV.int .i64 0),(PV.int .i64 x2)])) else (some (PV.tuple [(PV.int .i64 x1),(PV.int .i64 0)]))))) :=
 (zb EE _ _).trans (by kernel_rfl)
theorem zfc (x0:List UInt8) (x1 x2 x3:Int):z7c x0 x1 x2 x3 =
  (z4t x0 x1 10 x2 x3) :=
 (zb EE _ _).trans (by kernel_rfl)
theorem zfb (x0:List UInt8) (x1 x2 x3 x4:Int):z4t x0 x1 x2 x3 x4 =
  (bif (eqB x2 0) then (z7t x0 (IntKind.wrap .i64 ((IntKind.wrap .i64 (10*x1))+x4)) x2 x3) else (z7t x0 x1 x2 x3)) :=
 (zb EE _ _).trans (by kernel_rfl)
theorem zfs (x0:List UInt8) (x1 x2 x3:Int):z7t x0 x1 x2 x3 =
  (z3f x0 x1 x2 (IntKind.wrap .i64 (x3+1))) :=
 (zb EE _ _).trans (by kernel_rfl)
theorem z16i (a0:Int):zy3 a0 =
  ((zy5).bind fun v1=>(bif (leB (PV.toI v1) a0) then ((z10x).bind fun v2=>(some (PV.bool (leB a0 (PV.toI v2))))) else (some (PV.bool false)))) :=
 (ze EE ztu _ rfl).trans (by kernel_rfl)
theorem zzj (a0:Int):zp4 a0 =
  ((zis (IntKind.wrap .i64 (a0+730425)) 146097).bind fun v1=>(bif (leB 10 (IntKind.wrap .i64 (Int.tdiv (IntKind.wrap .i64 ((IntKind.wrap .i64 (5*(IntKind.wrap .i64 ((IntKind.wrap .i64 ((IntKind.wrap .i64 ((PV.toI (PV.tnth v1 1))-(IntKind.wrap .i64 ((minI (IntKind.wrap .i64 (Int.tdiv (PV.toI (PV.tnth v1 1)) 36524)) 3)*36524))))-(IntKind.wrap .i64 ((IntKind.wrap .i64 (Int.tdiv (IntKind.wrap .i64 ((PV.toI (PV.tnth v1 1))-(IntKind.wrap .i64 ((minI (IntKind.wrap .i64 (Int.tdiv (PV.toI (PV.tnth v1 1)) 36524)) 3)*36524)))) 1461))*1461))))-(IntKind.wrap .i64 ((minI (IntKind.wrap .i64 (Int.tdiv (IntKind.wrap .i64 ((IntKind.wrap .i64 ((PV.toI (PV.tnth v1 1))-(IntKind.wrap .i64 ((minI (IntKind.wrap .i64 (Int.tdiv (PV.toI (PV.tnth v1 1)) 36524)) 3)*36524))))-(IntKind.wrap .i64 ((IntKind.wrap .i64 (Int.tdiv (IntKind.wrap .i64 ((PV.toI (PV.tnth v1 1))-(IntKind.wrap .i64 ((minI (IntKind.wrap .i64 (Int.tdiv (PV.toI (PV.tnth v1 1)) 36524)) 3)*36524)))) 1461))*1461)))) 365)) 3)*365))))))+2)) 153))) then (some (PV.tuple [(PV.int .i64 (IntKind.wrap .i64 ((IntKind.wrap .i64 ((IntKind.wrap .i64 ((IntKind.wrap .i64 ((IntKind.wrap .i64 ((PV.toI (PV.tnth v1 0))*400))+(IntKind.wrap .i64 ((minI (IntKind.wrap .i64 (Int.tdiv (PV.toI (PV.tnth v1 1)) 36524)) 3)*100))))+(IntKind.wrap .i64 ((IntKind.wrap .i64 (Int.tdiv (IntKind.wrap .i64 ((PV.toI (PV.tnth v1 1))-(IntKind.wrap .i64 ((minI (IntKind.wrap .i64 (Int.tdiv (PV.toI (PV.tnth v1 1)) 36524)) 3)*36524)))) 1461))*4))))+(minI (IntKind.wrap .i64 (Int.tdiv (IntKind.wrap .i64 ((IntKind.wrap .i64 ((PV.toI (PV.tnth v1 1))-(IntKind.wrap .i64 ((minI (IntKind.wrap .i64 (Int.tdiv (PV.toI (PV.tnth v1 1)) 36524)) 3)*36524))))-(IntKind.wrap .i64 ((IntKind.wrap .i64 (Int.tdiv (IntKind.wrap .i64 ((PV.toI (PV.tnth v1 1))-(IntKind.wrap .i64 ((minI (IntKind.wrap .i64 (Int.tdiv (PV.toI (PV.tnth v1 1)) 36524)) 3)*36524)))) 1461))*1461)))) 365)) 3)))+1))),(PV.int .i64 (IntKind.wrap .i64 ((IntKind.wrap .i64 (Int.tdiv (IntKind.wrap .i64 ((IntKind.wrap .i64 (5*(IntKind.wrap .i64 ((IntKind.wrap .i64 ((IntKind.wrap .i64 ((PV.toI (PV.tnth v1 1))-(IntKind.wrap .i64 ((minI (IntKind.wrap .i64 (Int.tdiv (PV.toI (PV.tnth v1 1)) 36524)) 3)*36524))))-(IntKind.wrap .i64 ((IntKind.wrap .i64 (Int.tdiv (IntKind.wrap .i64 ((PV.toI (PV.tnth v1 1))-(IntKind.wrap .i64 ((minI (IntKind.wrap .i64 (Int.tdiv (PV.toI (PV.tnth v1 1)) 36524)) 3)*36524)))) 1461))*1461))))-(IntKind.wrap .i64 ((minI (IntKind.wrap .i64 (Int.tdiv (IntKind.wrap .i64 ((IntKind.wrap .i64 ((PV.toI (PV.tnth v1 1))-(IntKind.wrap .i64 ((minI (IntKind.wrap .i64 (Int.tdiv (PV.toI (PV.tnth v1 1)) 36524)) 3)*36524))))-(IntKind.wrap .i64 ((IntKind.wrap .i64 (Int.tdiv (IntKind.wrap .i64 ((PV.toI (PV.tnth v1 1))-(IntKind.wrap .i64 ((minI (IntKind.wrap .i64 (Int.tdiv (PV.toI (PV.tnth v1 1)) 36524)) 3)*36524)))) 1461))*1461)))) 365)) 3)*365))))))+2)) 153))-9))),(PV.int .i64 (IntKind.wrap .i64 ((IntKind.wrap .i64 ((IntKind.wrap .i64 ((IntKind.wrap .i64 ((IntKind.wrap .i64 ((PV.toI (PV.tnth v1 1))-(IntKind.wrap .i64 ((minI (IntKind.wrap .i64 (Int.tdiv (PV.toI (PV.tnth v1 1)) 36524)) 3)*36524))))-(IntKind.wrap .i64 ((IntKind.wrap .i64 (Int.tdiv (IntKind.wrap .i64 ((PV.toI (PV.tnth v1 1))-(IntKind.wrap .i64 ((minI (IntKind.wrap .i64 (Int.tdiv (PV.toI (PV.tnth v1 1)) 36524)) 3)*36524)))) 1461))*1461))))-(IntKind.wrap .i64 ((minI (IntKind.wrap .i64 (Int.tdiv (IntKind.wrap .i64 ((IntKind.wrap .i64 ((PV.toI (PV.tnth v1 1))-(IntKind.wrap .i64 ((minI (IntKind.wrap .i64 (Int.tdiv (PV.toI (PV.tnth v1 1)) 36524)) 3)*36524))))-(IntKind.wrap .i64 ((IntKind.wrap .i64 (Int.tdiv (IntKind.wrap .i64 ((PV.toI (PV.tnth v1 1))-(IntKind.wrap .i64 ((minI (IntKind.wrap .i64 (Int.tdiv (PV.toI (PV.tnth v1 1)) 36524)) 3)*36524)))) 1461))*1461)))) 365)) 3)*365))))-(IntKind.wrap .i64 (Int.tdiv (IntKind.wrap .i64 ((IntKind.wrap .i64 (153*(IntKind.wrap .i64 (Int.tdiv (IntKind.wrap .i64 ((IntKind.wrap .i64 (5*(IntKind.wrap .i64 ((IntKind.wrap .i64 ((IntKind.wrap .i64 ((PV.toI (PV.tnth v1 1))-(IntKind.wrap .i64 ((minI (IntKind.wrap .i64 (Int.tdiv (PV.toI (PV.tnth v1 1)) 36524)) 3)*36524))))-(IntKind.wrap .i64 ((IntKind.wrap .i64 (Int.tdiv (IntKind.wrap .i64 ((PV.toI (PV.tnth v1 1))-(IntKind.wrap .i64 ((minI (IntKind.wrap .i64 (Int.tdiv (PV.toI (PV.tnth v1 1)) 36524)) 3)*36524)))) 1461))*1461))))-(IntKind.wrap .i64 ((minI (IntKind.wrap .i64 (Int.tdiv (IntKind.wrap .i64 ((IntKind.wrap .i64 ((PV.toI (PV.tnth v1 1))-(IntKind.wrap .i64 ((minI (IntKind.wrap .i64 (Int.tdiv (PV.toI (PV.tnth v1 1)) 36524)) 3)*36524))))-(IntKind.wrap .i64 ((IntKind.wrap .i64 (Int.tdiv (IntKind.wrap .i64 ((PV.toI (PV.tnth v1 1))-(IntKind.wrap .i64 ((minI (IntKind.wrap .i64 (Int.tdiv (PV.toI (PV.tnth v1 1)) 36524)) 3)*36524)))) 1461))*1461)))) 365)) 3)*365))))))+2)) 153))))+2)) 5))))+1)))])) else (some (PV.tuple [(PV.int .i64 (IntKind.wrap .i64 ((IntKind.wrap .i64 ((IntKind.wrap .i64 ((IntKind.wrap .i64 ((PV.toI (PV.tnth v1 0))*400))+(IntKind.wrap .i64 ((minI (IntKind.wrap .i64 (Int.tdiv (PV.toI (PV.tnth v1 1)) 36524)) 3)*100))))+(IntKind.wrap .i64 ((IntKind.wrap .i64 (Int.tdiv (IntKind.wrap .i64 ((PV.toI (PV.tnth v1 1))-(IntKind.wrap .i64 ((minI (IntKind.wrap .i64 (Int.tdiv (PV.toI (PV.tnth v1 1)) 36524)) 3)*36524)))) 1461))*4))))+(minI (IntKind.wrap .i64 (Int.tdiv (IntKind.wrap .i64 ((IntKind.wrap .i64 ((PV.toI (PV.tnth v1 1))-(IntKind.wrap .i64 ((minI (IntKind.wrap .i64 (Int.tdiv (PV.toI (PV.tnth v1 1)) 36524)) 3)*36524))))-(IntKind.wrap .i64 ((IntKind.wrap .i64 (Int.tdiv (IntKind.wrap .i64 ((PV.toI (PV.tnth v1 1))-(IntKind.wrap .i64 ((minI (IntKind.wrap .i64 (Int.tdiv (PV.toI (PV.tnth v1 1)) 36524)) 3)*36524)))) 1461))*1461)))) 365)) 3)))),(PV.int .i64 (IntKind.wrap .i64 ((IntKind.wrap .i64 (Int.tdiv (IntKind.wrap .i64 ((IntKind.wrap .i64 (5*(IntKind.wrap .i64 ((IntKind.wrap .i64 ((IntKind.wrap .i64 ((PV.toI (PV.tnth v1 1))-(IntKind.wrap .i64 ((minI (IntKind.wrap .i64 (Int.tdiv (PV.toI (PV.tnth v1 1)) 36524)) 3)*36524))))-(IntKind.wrap .i64 ((IntKind.wrap .i64 (Int.tdiv (IntKind.wrap .i64 ((PV.toI (PV.tnth v1 1))-(IntKind.wrap .i64 ((minI (IntKind.wrap .i64 (Int.tdiv (PV.toI (PV.tnth v1 1)) 36524)) 3)*36524)))) 1461))*1461))))-(IntKind.wrap .i64 ((minI (IntKind.wrap .i64 (Int.tdiv (IntKind.wrap .i64 ((IntKind.wrap .i64 ((PV.toI (PV.tnth v1 1))-(IntKind.wrap .i64 ((minI (IntKind.wrap .i64 (Int.tdiv (PV.toI (PV.tnth v1 1)) 36524)) 3)*36524))))-(IntKind.wrap .i64 ((IntKind.wrap .i64 (Int.tdiv (IntKind.wrap .i64 ((PV.toI (PV.tnth v1 1))-(IntKind.wrap .i64 ((minI (IntKind.wrap .i64 (Int.tdiv (PV.toI (PV.tnth v1 1)) 36524)) 3)*36524)))) 1461))*1461)))) 365)) 3)*365))))))+2)) 153))+3))),(PV.int .i64 (IntKind.wrap .i64 ((IntKind.wrap .i64 ((IntKind.wrap .i64 ((IntKind.wrap .i64 ((IntKind.wrap .i64 ((PV.toI (PV.tnth v1 1))-(IntKind.wrap .i64 ((minI (IntKind.wrap .i64 (Int.tdiv (PV.toI (PV.tnth v1 1)) 36524)) 3)*36524))))-(IntKind.wrap .i64 ((IntKind.wrap .i64 (Int.tdiv (IntKind.wrap .i64 ((PV.toI (PV.tnth v1 1))-(IntKind.wrap .i64 ((minI (IntKind.wrap .i64 (Int.tdiv (PV.toI (PV.tnth v1 1)) 36524)) 3)*36524)))) 1461))*1461))))-(IntKind.wrap .i64 ((minI (IntKind.wrap .i64 (Int.tdiv (IntKind.wrap .i64 ((IntKind.wrap .i64 ((PV.toI (PV.tnth v1 1))-(IntKind.wrap .i64 ((minI (IntKind.wrap .i64 (Int.tdiv (PV.toI (PV.tnth v1 1)) 36524)) 3)*36524))))-(IntKind.wrap .i64 ((IntKind.wrap .i64 (Int.tdiv (IntKind.wrap .i64 ((PV.toI (PV.tnth v1 1))-(IntKind.wrap .i64 ((minI (IntKind.wrap .i64 (Int.tdiv (PV.toI (PV.tnth v1 1)) 36524)) 3)*36524)))) 1461))*1461)))) 365)) 3)*365))))-(IntKind.wrap .i64 (Int.tdiv (IntKind.wrap .i64 ((IntKind.wrap .i64 (153*(IntKind.wrap .i64 (Int.tdiv (IntKind.wrap .i64 ((IntKind.wrap .i64 (5*(IntKind.wrap .i64 ((IntKind.wrap .i64 ((IntKind.wrap .i64 ((PV.toI (PV.tnth v1 1))-(IntKind.wrap .i64 ((minI (IntKind.wrap .i64 (Int.tdiv (PV.toI (PV.tnth v1 1)) 36524)) 3)*36524))))-(IntKind.wrap .i64 ((IntKind.wrap .i64 (Int.tdiv (IntKind.wrap .i64 ((PV.toI (PV.tnth v1 1))-(IntKind.wrap .i64 ((minI (IntKind.wrap .i64 (Int.tdiv (PV.toI (PV.tnth v1 1)) 36524)) 3)*36524)))) 1461))*1461))))-(IntKind.wrap .i64 ((minI (IntKind.wrap .i64 (Int.tdiv (IntKind.wrap .i64 ((IntKind.wrap .i64 ((PV.toI (PV.tnth v1 1))-(IntKind.wrap .i64 ((minI (IntKind.wrap .i64 (Int.tdiv (PV.toI (PV.tnth v1 1)) 36524)) 3)*36524))))-(IntKind.wrap .i64 ((IntKind.wrap .i64 (Int.tdiv (IntKind.wrap .i64 ((PV.toI (PV.tnth v1 1))-(IntKind.wrap .i64 ((minI (IntKind.wrap .i64 (Int.tdiv (PV.toI (PV.tnth v1 1)) 36524)) 3)*36524)))) 1461))*1461)))) 365)) 3)*365))))))+2)) 153))))+2)) 5))))+1)))])))) :=
 (ze EE zo6 _ rfl).trans (by kernel_rfl)
theorem z13m (a0 a1:Int):zna a0 a1 =
  (some (PV.tuple [(PV.int .u64 (IntKind.wrap .u64 ((IntKind.wrap .u64 ((IntKind.wrap .u64 ((shrI IntKind.u64 a0 32)*(shrI IntKind.u64 a1 32)))+(shrI IntKind.u64 (IntKind.wrap .u64 ((IntKind.wrap .u64 ((shrI IntKind.u64 a0 32)*(andI IntKind.u64 a1 4294967295)))+(shrI IntKind.u64 (IntKind.wrap .u64 ((andI IntKind.u64 a0 4294967295)*(andI IntKind.u64 a1 4294967295))) 32))) 32)))+(shrI IntKind.u64 (IntKind.wrap .u64 ((andI IntKind.u64 (IntKind.wrap .u64 ((IntKind.wrap .u64 ((shrI IntKind.u64 a0 32)*(andI IntKind.u64 a1 4294967295)))+(shrI IntKind.u64 (IntKind.wrap .u64 ((andI IntKind.u64 a0 4294967295)*(andI IntKind.u64 a1 4294967295))) 32))) 4294967295)+(IntKind.wrap .u64 ((andI IntKind.u64 a0 4294967295)*(shrI IntKind.u64 a1 32))))) 32)))),(PV.int .u64 (IntKind.wrap .u64 (a0*a1)))])) :=
 (ze EE zqu _ rfl).trans (by kernel_rfl)
theorem z4n (a0:List UInt8) (a1:List UInt8):z4e a0 a1 =
  (bif (leB (((List.length a1):Nat):Int) (((List.length a0):Nat):Int)) then ((takeS a0 (((List.length a1):Nat):Int)).bind fun v1=>(some (PV.bool (eqS v1 a1)))) else (some (PV.bool false))) :=
 (ze EE zat _ rfl).trans (by kernel_rfl)
theorem zao (a0:List UInt8) (a1:Int):z68 a0 a1 =
  ((callW EE ([(tiInt IntKind.i64)]) (PV.func (Go.Fn.func z62) [] []) [(PV.str a0),(PV.int .u8 a1)]).bind fun v1=>(some (PV.int .i64 (PV.toI v1)))) :=
 (ze EE zas _ rfl).trans (by kernel_rfl)
theorem z18b (a0:Int):zva a0 =
  (bif (ltB a0 0) then (some (PV.int .u64 (IntKind.wrap .u64 (0-(IntKind.wrap .u64 a0))))) else (some (PV.int .u64 (IntKind.wrap .u64 a0)))) :=
 (ze EE zxn _ rfl).trans (by kernel_rfl)
theorem zub (a0:List UInt8) (a1:List UInt8):zi5 a0 a1 =
  (bif (eqB (((List.length a1):Nat):Int) 0) then ((zj7 a0).bind fun v1=>(some (PV.int .i64 (IntKind.wrap .i64 ((PV.toI v1)+1))))) else (bif (eqB (((List.length a1):Nat):Int) 1) then ((atS a1 0).bind fun v2=>((callW EE ([(tiInt IntKind.i64)]) (PV.func (Go.Fn.func zcw) [] []) [(PV.str a0),(PV.int .u8 v2)]).bind fun v3=>(some (PV.int .i64 (PV.toI v3))))) else (zuc a0 a1 0))) :=
 (ze EE zaa _ rfl).trans (by kernel_rfl)
theorem zua (a0:List UInt8) (a1:List UInt8):zi4 a0 a1 =
  ((z90 a0 a1).bind fun v1=>(some (PV.int .i64 (PV.toI v1)))) :=
 (ze EE ziy _ rfl).trans (by kernel_rfl)
theorem zjj  : zfd  =
  ((z7d (-4718) 1 1).bind fun v1=>(some (PV.int .i64 (PV.toI v1)))) :=
 (ze EE zcu _ rfl).trans (by kernel_rfl)
theorem zky  : zgc  =
  ((z7d 294282 12 31).bind fun v1=>(some (PV.int .i64 (PV.toI v1)))) :=
 (ze EE zdx _ rfl).trans (by kernel_rfl)
theorem zbm (a0:List PV) (a1:PV):z7g a0 a1 =
  (bif ((okOther a1)&&true) then (z1z a0 a1 (((List.length a0):Nat):Int) 0) else none) :=
 (ze EE z20 _ rfl).trans (by kernel_rfl)
theorem z59 (x0:List PV) (x1:PV) (x2 x3:Int):z1z x0 x1 x2 x3 =
  (bif (ltB x3 x2) then ((rdI tiStr x0 x3).bind fun v1=>((callW EE ([zf0]) x1 [(PV.str (PV.toS v1))]).bind fun v2=>(bif (PV.toB v2) then (some (PV.int .i64 x3)) else (z1z x0 x1 x2 (IntKind.wrap .i64 (x3+1)))))) else (some (PV.int .i64 (-1)))) :=
 (zb EE _ _).trans (by kernel_rfl)
theorem zvw (a0:List UInt8) (q0:PV):zjo a0 q0 =
  (bif (okOther q0) then ((rdP tiStr q0 0).bind fun v1=>(bif (leB (((List.length (PV.toS v1)):Nat):Int) (((List.length a0):Nat):Int)) then ((rdP tiStr q0 0).bind fun v2=>((rdP tiStr q0 0).bind fun v3=>((takeS a0 (((List.length (PV.toS v3)):Nat):Int)).bind fun v4=>((zpf (PV.toS v2) v4).bind fun v5=>(some (PV.bool (PV.toB v5))))))) else (some (PV.bool false)))) else none) :=
 (ze EE z5j _ rfl).trans (by kernel_rfl)
theorem zjd (a0:Int):zai a0 =
  (bif (leB 48 a0) then (some (PV.bool (leB a0 57))) else (some (PV.bool false))) :=
 (ze EE zcr _ rfl).trans (by kernel_rfl)
theorem zzm  : zy5  =
  ((zl2 (-4718) 1 1).bind fun v1=>(some (PV.int .i64 (PV.toI v1)))) :=
 (ze EE zo9 _ rfl).trans (by kernel_rfl)
theorem z13j  : z10x  =
  ((zl2 294282 12 31).bind fun v1=>(some (PV.int .i64 (PV.toI v1)))) :=
 (ze EE zqr _ rfl).trans (by kernel_rfl)
theorem zq7 (a0:List PV):zf6 a0 =
  ((takeS a0 2).bind fun v1=>((z8k v1 (PV.func (Go.Fn.func z2d) [] [])).bind fun v2=>(bif (ltB (PV.toI v2) 0) then (some (PV.tuple [(PV.agg [(PV.int .i64 0),(PV.int .i64 0),(PV.int .i64 0)]),(PV.bool false)])) else (bif (ltN 0 (List.length a0)) then ((appL 16 [] a0).bind fun v3=>(bif (leN (List.length v3) 0) then (bif (decide ((0≤(PV.toI v2))∧(((PV.toI v2)≤(IntKind.wrap .i64 ((PV.toI v2)+1)))∧(((IntKind.wrap .i64 ((PV.toI v2)+1))≤(((List.length v3):Nat):Int))∧((((List.length v3):Nat):Int)≤(((List.length v3):Nat):Int)))))) then (bif (eqB (PV.toI v2) (IntKind.wrap .i64 ((PV.toI v2)+1))) then (zq8 a0 (PV.toI v2) 0 0 0 v3 0) else (bif (decide ((0≤(PV.toI v2))∧((PV.toI v2)≤(((List.length v3):Nat):Int)))) then (bif (decide ((0≤(IntKind.wrap .i64 ((PV.toI v2)+1)))∧((IntKind.wrap .i64 ((PV.toI v2)+1))≤(((List.length v3):Nat):Int)))) then (bif (true&&(leN ((0+(Int.toNat (PV.toI v2)))+(List.length (List.take ((List.length v3)-(Int.toNat (IntKind.wrap .i64 ((PV.toI v2)+1)))) (List.drop (Int.toNat (IntKind.wrap .i64 ((PV.toI v2)+1))) v3)))) (List.length v3))) then (bif (decide ((0≤((((Int.toNat (PV.toI v2))+(List.length (List.take ((List.length v3)-(Int.toNat (IntKind.wrap .i64 ((PV.toI v2)+1)))) (List.drop (Int.toNat (IntKind.wrap .i64 ((PV.toI v2)+1))) v3)))):Nat):Int))∧((((((Int.toNat (PV.toI v2))+(List.length (List.take ((List.length v3)-(Int.toNat (IntKind.wrap .i64 ((PV.toI v2)+1)))) (List.drop (Int.toNat (IntKind.wrap .i64 ((PV.toI v2)+1))) v3)))):Nat):Int)≤(((List.length v3):Nat):Int))∧((((0:Nat):Int)+(((List.length v3):Nat):Int))≤(((List.length ((List.take (0+(Int.toNat (PV.toI v2))) v3)++((List.take ((List.length v3)-(Int.toNat (IntKind.wrap .i64 ((PV.toI v2)+1)))) (List.drop (Int.toNat (IntKind.wrap .i64 ((PV.toI v2)+1))) v3))++(List.drop ((0+(Int.toNat (PV.toI v2)))+(List.length (List.take ((List.length v3)-(Int.toNat (IntKind.wrap .i64 ((PV.toI v2)+1)))) (List.drop (Int.toNat (IntKind.wrap .i64 ((PV.toI v2)+1))) v3)))) v3)))):Nat):Int))))) then (znf a0 (PV.toI v2) 0 ((Int.toNat (PV.toI v2))+(List.length (List.take ((List.length v3)-(Int.toNat (IntKind.wrap .i64 ((PV.toI v2)+1)))) (List.drop (Int.toNat (IntKind.wrap .i64 ((PV.toI v2)+1))) v3)))) 0 0 0 ((List.take (0+(Int.toNat ((((Int.toNat (PV.toI v2))+(List.length (List.take ((List.length v3)-(Int.toNat (IntKind.wrap .i64 ((PV.toI v2)+1)))) (List.drop (Int.toNat (IntKind.wrap .i64 ((PV.toI v2)+1))) v3)))):Nat):Int))) ((List.take (0+(Int.toNat (PV.toI v2))) v3)++((List.take ((List.length v3)-(Int.toNat (IntKind.wrap .i64 ((PV.toI v2)+1)))) (List.drop (Int.toNat (IntKind.wrap .i64 ((PV.toI v2)+1))) v3))++(List.drop ((0+(Int.toNat (PV.toI v2)))+(List.length (List.take ((List.length v3)-(Int.toNat (IntKind.wrap .i64 ((PV.toI v2)+1)))) (List.drop (Int.toNat (IntKind.wrap .i64 ((PV.toI v2)+1))) v3)))) v3))))++((List.replicate ((Int.toNat (((List.length v3):Nat):Int))-(Int.toNat ((((Int.toNat (PV.toI v2))+(List.length (List.take ((List.length v3)-(Int.toNat (IntKind.wrap .i64 ((PV.toI v2)+1)))) (List.drop (Int.toNat (IntKind.wrap .i64 ((PV.toI v2)+1))) v3)))):Nat):Int))) (PV.str []))++(List.drop ((0+(Int.toNat ((((Int.toNat (PV.toI v2))+(List.length (List.take ((List.length v3)-(Int.toNat (IntKind.wrap .i64 ((PV.toI v2)+1)))) (List.drop (Int.toNat (IntKind.wrap .i64 ((PV.toI v2)+1))) v3)))):Nat):Int)))+((Int.toNat (((List.length v3):Nat):Int))-(Int.toNat ((((Int.toNat (PV.toI v2))+(List.length (List.take ((List.length v3)-(Int.toNat (IntKind.wrap .i64 ((PV.toI v2)+1)))) (List.drop (Int.toNat (IntKind.wrap .i64 ((PV.toI v2)+1))) v3)))):Nat):Int)))) ((List.take (0+(Int.toNat (PV.toI v2))) v3)++((List.take ((List.length v3)-(Int.toNat (IntKind.wrap .i64 ((PV.toI v2)+1)))) (List.drop (Int.toNat (IntKind.wrap .i64 ((PV.toI v2)+1))) v3))++(List.drop ((0+(Int.toNat (PV.toI v2)))+(List.length (List.take ((List.length v3)-(Int.toNat (IntKind.wrap .i64 ((PV.toI v2)+1)))) (List.drop (Int.toNat (IntKind.wrap .i64 ((PV.toI v2)+1))) v3)))) v3)))))) 0) else none) else ((appL 16 (List.take (Int.toNat (PV.toI v2)) v3) (List.take ((List.length v3)-(Int.toNat (IntKind.wrap .i64 ((PV.toI v2)+1)))) (List.drop (Int.toNat (IntKind.wrap .i64 ((PV.toI v2)+1))) v3))).bind fun v4=>(bif (decide ((0≤(((List.length v4):Nat):Int))∧(((((List.length v4):Nat):Int)≤(((List.length v3):Nat):Int))∧((((List.length v3):Nat):Int)≤(((List.length v4):Nat):Int))))) then (z9e a0 (PV.toI v2) 0 0 0 ((List.take (Int.toNat (((List.length v4):Nat):Int)) v4)++((List.replicate ((Int.toNat (((List.length v3):Nat):Int))-(Int.toNat (((List.length v4):Nat):Int))) (PV.str []))++(List.drop ((Int.toNat (((List.length v4):Nat):Int))+((Int.toNat (((List.length v3):Nat):Int))-(Int.toNat (((List.length v4):Nat):Int)))) v4)))) else none))) else none) else none)) else none) else (bif (decide ((0≤(PV.toI v2))∧(((PV.toI v2)≤(IntKind.wrap .i64 ((PV.toI v2)+1)))∧(((IntKind.wrap .i64 ((PV.toI v2)+1))≤(((List.length v3):Nat):Int))∧((((List.length v3):Nat):Int)≤(((List.length v3):Nat):Int)))))) then (bif (eqB (PV.toI v2) (IntKind.wrap .i64 ((PV.toI v2)+1))) then (z9e a0 (PV.toI v2) 0 0 0 v3) else (bif (decide ((0≤(PV.toI v2))∧((PV.toI v2)≤(((List.length v3):Nat):Int)))) then (bif (decide ((0≤(IntKind.wrap .i64 ((PV.toI v2)+1)))∧((IntKind.wrap .i64 ((PV.toI v2)+1))≤(((List.length v3):Nat):Int)))) then (bif (true&&(leN ((0+(Int.toNat (PV.toI v2)))+(List.length (List.take ((List.length v3)-(Int.toNat (IntKind.wrap .i64 ((PV.toI v2)+1)))) (List.drop (Int.toNat (IntKind.wrap .i64 ((PV.toI v2)+1))) v3)))) (List.length v3))) then (bif (decide ((0≤((((Int.toNat (PV.toI v2))+(List.length (List.take ((List.length v3)-(Int.toNat (IntKind.wrap .i64 ((PV.toI v2)+1)))) (List.drop (Int.toNat (IntKind.wrap .i64 ((PV.toI v2)+1))) v3)))):Nat):Int))∧((((((Int.toNat (PV.toI v2))+(List.length (List.take ((List.length v3)-(Int.toNat (IntKind.wrap .i64 ((PV.toI v2)+1)))) (List.drop (Int.toNat (IntKind.wrap .i64 ((PV.toI v2)+1))) v3)))):Nat):Int)≤(((List.length v3):Nat):Int))∧((((0:Nat):Int)+(((List.length v3):Nat):Int))≤(((List.length ((List.take (0+(Int.toNat (PV.toI v2))) v3)++((List.take ((List.length v3)-(Int.toNat (IntKind.wrap .i64 ((PV.toI v2)+1)))) (List.drop (Int.toNat (IntKind.wrap .i64 ((PV.toI v2)+1))) v3))++(List.drop ((0+(Int.toNat (PV.toI v2)))+(List.length (List.take ((List.length v3)-(Int.toNat (IntKind.wrap .i64 ((PV.toI v2)+1)))) (List.drop (Int.toNat (IntKind.wrap .i64 ((PV.toI v2)+1))) v3)))) v3)))):Nat):Int))))) then (z4z a0 (PV.toI v2) 0 ((Int.toNat (PV.toI v2))+(List.length (List.take ((List.length v3)-(Int.toNat (IntKind.wrap .i64 ((PV.toI v2)+1)))) (List.drop (Int.toNat (IntKind.wrap .i64 ((PV.toI v2)+1))) v3)))) 0 0 0 ((List.take (0+(Int.toNat ((((Int.toNat (PV.toI v2))+(List.length (List.take ((List.length v3)-(Int.toNat (IntKind.wrap .i64 ((PV.toI v2)+1)))) (List.drop (Int.toNat (IntKind.wrap .i64 ((PV.toI v2)+1))) v3)))):Nat):Int))) ((List.take (0+(Int.toNat (PV.toI v2))) v3)++((List.take ((List.length v3)-(Int.toNat (IntKind.wrap .i64 ((PV.toI v2)+1)))) (List.drop (Int.toNat (IntKind.wrap .i64 ((PV.toI v2)+1))) v3))++(List.drop ((0+(Int.toNat (PV.toI v2)))+(List.length (List.take ((List.length v3)-(Int.toNat (IntKind.wrap .i64 ((PV.toI v2)+1)))) (List.drop (Int.toNat (IntKind.wrap .i64 ((PV.toI v2)+1))) v3)))) v3))))++((List.replicate ((Int.toNat (((List.length v3):Nat):Int))-(Int.toNat ((((Int.toNat (PV.toI v2))+(List.length (List.take ((List.length v3)-(Int.toNat (IntKind.wrap .i64 ((PV.toI v2)+1)))) (List.drop (Int.toNat (IntKind.wrap .i64 ((PV.toI v2)+1))) v3)))):Nat):Int))) (PV.str []))++(List.drop ((0+(Int.toNat ((((Int.toNat (PV.toI v2))+(List.length (List.take ((List.length v3)-(Int.toNat (IntKind.wrap .i64 ((PV.toI v2)+1)))) (List.drop (Int.toNat (IntKind.wrap .i64 ((PV.toI v2)+1))) v3)))):Nat):Int)))+((Int.toNat (((List.length v3):Nat):Int))-(Int.toNat ((((Int.toNat (PV.toI v2))+(List.length (List.take ((List.length v3)-(Int.toNat (IntKind.wrap .i64 ((PV.toI v2)+1)))) (List.drop (Int.toNat (IntKind.wrap .i64 ((PV.toI v2)+1))) v3)))):Nat):Int)))) ((List.take (0+(Int.toNat (PV.toI v2))) v3)++((List.take ((List.length v3)-(Int.toNat (IntKind.wrap .i64 ((PV.toI v2)+1)))) (List.drop (Int.toNat (IntKind.wrap .i64 ((PV.toI v2)+1))) v3))++(List.drop ((0+(Int.toNat (PV.toI v2)))+(List.length (List.take ((List.length v3)-(Int.toNat (IntKind.wrap .i64 ((PV.toI v2)+1)))) (List.drop (Int.toNat (IntKind.wrap .i64 ((PV.toI v2)+1))) v3)))) v3))))))) else none) else ((appL 16 (List.take (Int.toNat (PV.toI v2)) v3) (List.take ((List.length v3)-(Int.toNat (IntKind.wrap .i64 ((PV.toI v2)+1)))) (List.drop (Int.toNat (IntKind.wrap .i64 ((PV.toI v2)+1))) v3))).bind fun v5=>(bif (decide ((0≤(((List.length v5):Nat):Int))∧(((((List.length v5):Nat):Int)≤(((List.length v3):Nat):Int))∧((((List.length v3):Nat):Int)≤(((List.length v5):Nat):Int))))) then (z9e a0 (PV.toI v2) 0 0 0 ((List.take (Int.toNat (((List.length v5):Nat):Int)) v5)++((List.replicate ((Int.toNat (((List.length v3):Nat):Int))-(Int.toNat (((List.length v5):Nat):Int))) (PV.str []))++(List.drop ((Int.toNat (((List.length v5):Nat):Int))+((Int.toNat (((List.length v3):Nat):Int))-(Int.toNat (((List.length v5):Nat):Int)))) v5)))) else none))) else none) else none)) else none))) else none)))) :=
 (ze EE z1l _ rfl).trans (by kernel_rfl)
theorem zbp (x0:List PV) (x1:Int) (x2:Nat) (x3:Nat) (x4 x5 x6:Int) (x7:List PV):z4z x0 x1 x2 x3 x4 x5 x6 x7 =
  (bif (eqB x1 1) then (bif (inB 0 0 ((x3:Nat):Int)) then ((rdT tiStr x7 x2 0).bind fun v1=>((z2r (PV.toS v1) 3 6).bind fun v2=>(bif (PV.toB v2) then (zeh x0 x1 x2 x3 x4 x5 x6 x7) else (z1h x0 x1 x2 x3 x4 x5 x6 x7)))) else none) else (z1h x0 x1 x2 x3 x4 x5 x6 x7)) :=
 (zb EE _ _).trans (by kernel_rfl)
theorem zi9 (x0:List PV) (x1:Int) (x2:Nat) (x3:Nat) (x4 x5 x6:Int) (x7:List PV):zeh x0 x1 x2 x3 x4 x5 x6 x7 =
  (z12 x2 x3 0 (IntKind.wrap .i64 (((x3:Nat):Int)-1)) x7 x4 x5 x6 x0 x1 x2 x3 x2 x3) :=
 (zb EE _ _).trans (by kernel_rfl)
theorem zi8 (x0:List PV) (x1:Int) (x2:Nat) (x3:Nat) (x4 x5 x6:Int) (x7:List PV):z1h x0 x1 x2 x3 x4 x5 x6 x7 =
  (bif (inB 0 1 ((x3:Nat):Int)) then ((rdT tiStr x7 (x2+1) 0).bind fun v1=>((z3s (PV.toS v1)).bind fun v2=>((rdI tiStr x0 x1).bind fun v3=>((zew (PV.toS v3)).bind fun v4=>(bif (inB 0 0 ((x3:Nat):Int)) then ((rdT tiStr x7 x2 0).bind fun v5=>((z3s (PV.toS v5)).bind fun v6=>(bif (inB 0 0 ((x3:Nat):Int)) then ((rdT tiStr x7 x2 0).bind fun v7=>((z2r (PV.toS v7) 1 2).bind fun v8=>(bif (PV.toB v8) then (bif (inB 0 1 ((x3:Nat):Int)) then ((rdT tiStr x7 (x2+1) 0).bind fun v9=>((z2r (PV.toS v9) 3 6).bind fun v10=>(some (PV.tuple [(PV.agg [(PV.int .i64 (PV.toI v2)),(PV.int .i64 (PV.toI v4)),(PV.int .i64 (PV.toI v6))]),(PV.bool (PV.toB v10))])))) else none) else (some (PV.tuple [(PV.agg [(PV.int .i64 (PV.toI v2)),(PV.int .i64 (PV.toI v4)),(PV.int .i64 (PV.toI v6))]),(PV.bool false)]))))) else none))) else none))))) else none) :=
 (zb EE _ _).trans (by kernel_rfl)
theorem z2e (x0:Nat) (x1:Nat) (x2 x3:Int) (x4:List PV) (x5 x6 x7:Int) (x8:List PV) (x9:Int) (xA:Nat) (xB:Nat) (xC:Nat) (xD:Nat):z12 x0 x1 x2 x3 x4 x5 x6 x7 x8 x9 xA xB xC xD =
  (bif (ltB x2 x3) then (bif (inB 0 x3 ((x1:Nat):Int)) then ((rdT tiStr x4 (x0+(Int.toNat x3)) 0).bind fun v1=>(bif (inB 0 x2 ((x1:Nat):Int)) then ((rdT tiStr x4 (x0+(Int.toNat x2)) 0).bind fun v2=>(bif (inB 0 x2 ((x1:Nat):Int)) then ((stC x4 (x0+(Int.toNat x2)) 0 [(PV.str (PV.toS v1))]).bind fun v3=>(bif (inB 0 x3 ((x1:Nat):Int)) then ((stC v3 (x0+(Int.toNat x3)) 0 [(PV.str (PV.toS v2))]).bind fun v4=>(z12 x0 x1 (IntKind.wrap .i64 (x2+1)) (IntKind.wrap .i64 (x3-1)) v4 x5 x6 x7 x8 x9 xA xB xC xD)) else none)) else none)) else none)) else none) else (z1h x8 x9 xA xB x5 x6 x7 x4)) :=
 (zb EE _ _).trans (by kernel_rfl)
theorem zh8 (a0:List PV) (a1:PV):z8k a0 a1 =
  (bif ((okOther a1)&&true) then (z72 a0 a1 (((List.length a0):Nat):Int) 0) else none) :=
 (ze EE z4s _ rfl).trans (by kernel_rfl)
theorem z5f (x0:List PV) (x1:PV) (x2 x3:Int):z72 x0 x1 x2 x3 =
  (bif (ltB x3 x2) then ((rdI tiStr x0 x3).bind fun v1=>((callW EE ([zf0]) x1 [(PV.str (PV.toS v1))]).bind fun v2=>(bif (PV.toB v2) then (some (PV.int .i64 x3)) else (z72 x0 x1 x2 (IntKind.wrap .i64 (x3+1)))))) else (some (PV.int .i64 (-1)))) :=
 (zb EE _ _).trans (by kernel_rfl)
theorem zng (a0:List UInt8):zh9 a0 =
  ((zew a0).bind fun v1=>(some (PV.bool (ltB 0 (PV.toI v1))))) :=
 (ze EE z2d _ rfl).trans (by kernel_rfl)
theorem zq6 (a0:List UInt8):zf5 a0 =
  ((takeS a0 4).bind fun v1=>((z3s v1).bind fun v2=>((subS a0 4 6).bind fun v3=>((z3s v3).bind fun v4=>((dropS a0 6).bind fun v5=>((z3s v5).bind fun v6=>(some (PV.tuple [(PV.agg [(PV.int .i64 (PV.toI v2)),(PV.int .i64 (PV.toI v4)),(PV.int .i64 (PV.toI v6))]),(PV.bool true)])))))))) :=
 (ze EE zg7 _ rfl).trans (by kernel_rfl)
theorem zq5 (a0_0:List PV) (a0_1:Int):zf4 a0_0 a0_1 =
  ((rdI tiStr a0_0 0).bind fun v1=>((rdI tiStr a0_0 1).bind fun v2=>((rdI tiStr a0_0 2).bind fun v3=>((rdI tiStr a0_0 0).bind fun v4=>((z2r (PV.toS v4) 3 6).bind fun v5=>(bif (PV.toB v5) then (z4q (PV.toS v1) (PV.toS v2) (PV.toS v3) 0 0 0) else (bif (eqB a0_1 0) then (z4q (PV.toS v1) (PV.toS v2) (PV.toS v3) 0 0 0) else (zg0 (PV.toS v1) (PV.toS v2) (PV.toS v3) a0_0 a0_1 0 0 0)))))))) :=
 (ze EE z6l _ rfl).trans (by kernel_rfl)
theorem zkc (x0:List UInt8) (x1:List UInt8) (x2:List UInt8) (x3 x4 x5:Int):z4q x0 x1 x2 x3 x4 x5 =
  ((zwm x0).bind fun v1=>((z3s x1).bind fun v2=>((z3s x2).bind fun v3=>((z2r x1 1 2).bind fun v4=>(bif (PV.toB v4) then ((z2r x2 1 2).bind fun v5=>(bif (PV.toB v5) then ((z2r x0 1 6).bind fun v6=>(some (PV.tuple [(PV.agg [(PV.int .i64 (PV.toI v1)),(PV.int .i64 (PV.toI v2)),(PV.int .i64 (PV.toI v3))]),(PV.bool (PV.toB v6))]))) else (some (PV.tuple [(PV.agg [(PV.int .i64 (PV.toI v1)),(PV.int .i64 (PV.toI v2)),(PV.int .i64 (PV.toI v3))]),(PV.bool false)])))) else (some (PV.tuple [(PV.agg [(PV.int .i64 (PV.toI v1)),(PV.int .i64 (PV.toI v2)),(PV.int .i64 (PV.toI v3))]),(PV.bool false)]))))))) :=
 (zb EE _ _).trans (by kernel_rfl)
theorem zkd (x0:List UInt8) (x1:List UInt8) (x2:List UInt8) (x3:List PV) (x4 x5 x6 x7:Int):zg0 x0 x1 x2 x3 x4 x5 x6 x7 =
  (bif (eqB x4 1) then (z4q x2 x1 x0 x5 x6 x7) else ((rdI tiStr x3 2).bind fun v1=>((rdI tiStr x3 0).bind fun v2=>((rdI tiStr x3 1).bind fun v3=>(z4q (PV.toS v1) (PV.toS v2) (PV.toS v3) x5 x6 x7))))) :=
 (zb EE _ _).trans (by kernel_rfl)
theorem z159 (a0:List UInt8):zwm a0 =
  ((z3s a0).bind fun v1=>((z2r a0 3 6).bind fun v2=>(bif (PV.toB v2) then (some (PV.int .i64 (PV.toI v1))) else ((z2r a0 1 2).bind fun v3=>(bif (!(PV.toB v3)) then (some (PV.int .i64 0)) else (bif (ltB (PV.toI v1) 70) then (some (PV.int .i64 (IntKind.wrap .i64 (2000+(PV.toI v1))))) else (some (PV.int .i64 (IntKind.wrap .i64 (1900+(PV.toI v1))))))))))) :=
 (ze EE ztr _ rfl).trans (by kernel_rfl)
end Dv
