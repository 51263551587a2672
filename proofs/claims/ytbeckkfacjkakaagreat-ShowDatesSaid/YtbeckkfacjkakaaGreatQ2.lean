/- The seat's functions, as equations. -/
import Derived.Test.YtbeckkfacjkakaaGreatQ1
import Derived.Test.YtbeckkfacjkakaaGreatL1
set_option linter.unusedVariables false
set_option linter.unusedSimpArgs false
set_option maxRecDepth 100000
set_option linter.unusedVariables false
namespace Dv
open Go
noncomputable abbrev tis_computuslaw19_ShowDates : List TI := funTI EE fn_computuslaw19_ShowDates
noncomputable def computuslaw19_ShowDates (a0_0 : Int) (a0_1 : Int) (a1_0 : Int) (a1_1 : Int) (a2_0 : Int) (a2_1 : Int) (a2_2 : Int) : Option PV := callF EE fn_computuslaw19_ShowDates [(.agg [(.int Go.IntKind.i64 a0_0), (.int Go.IntKind.i64 a0_1)]), (.agg [(.int Go.IntKind.i64 a1_0), (.int Go.IntKind.i64 a1_1)]), (.agg [(.int Go.IntKind.i64 a2_0), (.int Go.IntKind.i64 a2_1), (.int Go.IntKind.i64 a2_2)])]

noncomputable abbrev tis_show_Date : List TI := funTI EE fn_show_Date
noncomputable def show_Date (a0_0 : Int) (a0_1 : Int) (a1_0 : Int) (a1_1 : Int) (a1_2 : Int) : Option PV := callF EE fn_show_Date [(.agg [(.int Go.IntKind.i64 a0_0), (.int Go.IntKind.i64 a0_1)]), (.agg [(.int Go.IntKind.i64 a1_0), (.int Go.IntKind.i64 a1_1), (.int Go.IntKind.i64 a1_2)])]
noncomputable def show_Date_c2  : Option PV :=
  runW EE tis_show_Date (confAt EE fn_show_Date 2 (mkT 34 []) [])
noncomputable def show_Date_c3 (x0 : Int) (x1 : Int) (x2 : Int) (x3 : Int) (x4 : Int) : Option PV :=
  runW EE tis_show_Date (confAt EE fn_show_Date 3 (mkT 34 [(2, (.ptr 0 0)), (3, (.ptr 1 0))]) [(.cells ty_api_Date [(.int Go.IntKind.i64 x0), (.int Go.IntKind.i64 x1)] Bool.false), (.cells ty_api_Style [(.int Go.IntKind.i64 x2), (.int Go.IntKind.i64 x3), (.int Go.IntKind.i64 x4)] Bool.false)])

noncomputable abbrev tis_computusref19_Date : List TI := funTI EE fn_computusref19_Date
noncomputable def computusref19_Date (a0_0 : Int) (a0_1 : Int) (a1_0 : Int) (a1_1 : Int) (a1_2 : Int) : Option PV := callF EE fn_computusref19_Date [(.agg [(.int Go.IntKind.i64 a0_0), (.int Go.IntKind.i64 a0_1)]), (.agg [(.int Go.IntKind.i64 a1_0), (.int Go.IntKind.i64 a1_1), (.int Go.IntKind.i64 a1_2)])]
noncomputable def computusref19_Date_c2  : Option PV :=
  runW EE tis_computusref19_Date (confAt EE fn_computusref19_Date 2 (mkT 31 []) [])
noncomputable def computusref19_Date_c3 (x0 : Int) (x1 : Int) (x2 : Int) (x3 : Int) (x4 : Int) : Option PV :=
  runW EE tis_computusref19_Date (confAt EE fn_computusref19_Date 3 (mkT 31 [(2, (.ptr 0 0)), (3, (.ptr 1 0))]) [(.cells ty_api_Date [(.int Go.IntKind.i64 x0), (.int Go.IntKind.i64 x1)] Bool.false), (.cells ty_api_Style [(.int Go.IntKind.i64 x2), (.int Go.IntKind.i64 x3), (.int Go.IntKind.i64 x4)] Bool.false)])

noncomputable abbrev tis_show_Stamp : List TI := funTI EE fn_show_Stamp
noncomputable def show_Stamp (a0_0 : Int) (a0_1 : Int) (a1_0 : Int) (a1_1 : Int) (a1_2 : Int) : Option PV := callF EE fn_show_Stamp [(.agg [(.int Go.IntKind.i64 a0_0), (.int Go.IntKind.i64 a0_1)]), (.agg [(.int Go.IntKind.i64 a1_0), (.int Go.IntKind.i64 a1_1), (.int Go.IntKind.i64 a1_2)])]
noncomputable def show_Stamp_c2  : Option PV :=
  runW EE tis_show_Stamp (confAt EE fn_show_Stamp 2 (mkT 34 []) [])
noncomputable def show_Stamp_c3 (x0 : Int) (x1 : Int) (x2 : Int) (x3 : Int) (x4 : Int) : Option PV :=
  runW EE tis_show_Stamp (confAt EE fn_show_Stamp 3 (mkT 34 [(2, (.ptr 0 0)), (3, (.ptr 1 0))]) [(.cells ty_api_Stamp [(.int Go.IntKind.i64 x0), (.int Go.IntKind.i64 x1)] Bool.false), (.cells ty_api_Style [(.int Go.IntKind.i64 x2), (.int Go.IntKind.i64 x3), (.int Go.IntKind.i64 x4)] Bool.false)])

noncomputable abbrev tis_computusref19_Stamp : List TI := funTI EE fn_computusref19_Stamp
noncomputable def computusref19_Stamp (a0_0 : Int) (a0_1 : Int) (a1_0 : Int) (a1_1 : Int) (a1_2 : Int) : Option PV := callF EE fn_computusref19_Stamp [(.agg [(.int Go.IntKind.i64 a0_0), (.int Go.IntKind.i64 a0_1)]), (.agg [(.int Go.IntKind.i64 a1_0), (.int Go.IntKind.i64 a1_1), (.int Go.IntKind.i64 a1_2)])]
noncomputable def computusref19_Stamp_c2  : Option PV :=
  runW EE tis_computusref19_Stamp (confAt EE fn_computusref19_Stamp 2 (mkT 31 []) [])
noncomputable def computusref19_Stamp_c3 (x0 : Int) (x1 : Int) (x2 : Int) (x3 : Int) (x4 : Int) : Option PV :=
  runW EE tis_computusref19_Stamp (confAt EE fn_computusref19_Stamp 3 (mkT 31 [(2, (.ptr 0 0)), (3, (.ptr 1 0))]) [(.cells ty_api_Stamp [(.int Go.IntKind.i64 x0), (.int Go.IntKind.i64 x1)] Bool.false), (.cells ty_api_Style [(.int Go.IntKind.i64 x2), (.int Go.IntKind.i64 x3), (.int Go.IntKind.i64 x4)] Bool.false)])

noncomputable abbrev tis_show_Right : List TI := funTI EE fn_show_Right
noncomputable def show_Right (a0_0 : Int) (a0_1 : Int) (a0_2 : Int) : Option PV := callF EE fn_show_Right [(.agg [(.int Go.IntKind.i64 a0_0), (.int Go.IntKind.i64 a0_1), (.int Go.IntKind.i64 a0_2)])]

noncomputable abbrev tis_computusref19_Right : List TI := funTI EE fn_computusref19_Right
noncomputable def computusref19_Right (a0_0 : Int) (a0_1 : Int) (a0_2 : Int) : Option PV := callF EE fn_computusref19_Right [(.agg [(.int Go.IntKind.i64 a0_0), (.int Go.IntKind.i64 a0_1), (.int Go.IntKind.i64 a0_2)])]

noncomputable abbrev tis_computuslaw19_known : List TI := funTI EE fn_computuslaw19_known
noncomputable def computuslaw19_known  : Option PV := callF EE fn_computuslaw19_known []

noncomputable abbrev tis_day_Right : List TI := funTI EE fn_day_Right
noncomputable def day_Right (a0_0 : Int) (a0_1 : Int) : Option PV := callF EE fn_day_Right [(.agg [(.int Go.IntKind.i64 a0_0), (.int Go.IntKind.i64 a0_1)])]

noncomputable abbrev tis_show_infinite : List TI := funTI EE fn_show_infinite
noncomputable def show_infinite (a0 : Int) : Option PV := callF EE fn_show_infinite [(.int Go.IntKind.i64 a0)]

noncomputable abbrev tis_show_date : List TI := funTI EE fn_show_date
noncomputable def show_date (a0_0 : Int) (a0_1 : Int) (a1_0 : Int) (a1_1 : Int) (a1_2 : Int) : Option PV := callF EE fn_show_date [(.agg [(.int Go.IntKind.i64 a0_0), (.int Go.IntKind.i64 a0_1)]), (.agg [(.int Go.IntKind.i64 a1_0), (.int Go.IntKind.i64 a1_1), (.int Go.IntKind.i64 a1_2)])]
noncomputable def show_date_c5 (x0 : Int) (x1 : Int) (x2 : Int) (x3 : List UInt8) (x4 : Int) (x5 : Int) (x6 : Int) : Option PV :=
  runW EE tis_show_date (confAt EE fn_show_date 5 (mkT 75 [(3, (.ptr 0 0)), (6, (.int Go.IntKind.i64 x0)), (7, (.int Go.IntKind.i64 x1)), (8, (.int Go.IntKind.i64 x2)), (10, (.str x3))]) [(.cells ty_api_Style [(.int Go.IntKind.i64 x4), (.int Go.IntKind.i64 x5), (.int Go.IntKind.i64 x6)] Bool.false)])

noncomputable abbrev tis_show_join : List TI := funTI EE fn_show_join
noncomputable def show_join (a0 : List PV) : Option PV := callF EE fn_show_join [(.sl 1 a0)]
noncomputable def show_join_c3 (x0 : List PV) (x1 : Int) (x2 : Int) (x3 : List PV) : Option PV :=
  runW EE tis_show_join (confAt EE fn_show_join 3 (mkT 23 [(3, (.lall 0)), (6, (.sl 1 x0)), (7, (.int Go.IntKind.i64 x1)), (8, (.int Go.IntKind.i64 x2))]) [(.row ty_uint8 1 x3 0 none)])

noncomputable abbrev tis_computusref15_Right : List TI := funTI EE fn_computusref15_Right
noncomputable def computusref15_Right (a0_0 : Int) (a0_1 : Int) : Option PV := callF EE fn_computusref15_Right [(.agg [(.int Go.IntKind.i64 a0_0), (.int Go.IntKind.i64 a0_1)])]

noncomputable abbrev tis_computusref19_inf : List TI := funTI EE fn_computusref19_inf
noncomputable def computusref19_inf (a0 : Int) : Option PV := callF EE fn_computusref19_inf [(.int Go.IntKind.i64 a0)]

noncomputable abbrev tis_computusref19_date : List TI := funTI EE fn_computusref19_date
noncomputable def computusref19_date (a0_0 : Int) (a0_1 : Int) (a1_0 : Int) (a1_1 : Int) (a1_2 : Int) : Option PV := callF EE fn_computusref19_date [(.agg [(.int Go.IntKind.i64 a0_0), (.int Go.IntKind.i64 a0_1)]), (.agg [(.int Go.IntKind.i64 a1_0), (.int Go.IntKind.i64 a1_1), (.int Go.IntKind.i64 a1_2)])]
noncomputable def computusref19_date_c6 (x0 : Int) (x1 : Int) (x2 : Int) (x3 : List UInt8) (x4 : Int) (x5 : Int) (x6 : Int) : Option PV :=
  runW EE tis_computusref19_date (confAt EE fn_computusref19_date 6 (mkT 77 [(3, (.ptr 0 0)), (6, (.int Go.IntKind.i64 x0)), (7, (.int Go.IntKind.i64 x1)), (8, (.int Go.IntKind.i64 x2)), (10, (.str x3))]) [(.cells ty_api_Style [(.int Go.IntKind.i64 x4), (.int Go.IntKind.i64 x5), (.int Go.IntKind.i64 x6)] Bool.false)])
noncomputable def computusref19_date_c7 (x0 : Int) (x1 : Int) (x2 : List UInt8) (x3 : List UInt8) (x4 : Int) (x5 : Int) (x6 : Int) : Option PV :=
  runW EE tis_computusref19_date (confAt EE fn_computusref19_date 7 (mkT 77 [(3, (.ptr 0 0)), (7, (.int Go.IntKind.i64 x0)), (8, (.int Go.IntKind.i64 x1)), (10, (.str x2)), (11, (.str x3))]) [(.cells ty_api_Style [(.int Go.IntKind.i64 x4), (.int Go.IntKind.i64 x5), (.int Go.IntKind.i64 x6)] Bool.false)])

noncomputable abbrev tis_day_RightStamp : List TI := funTI EE fn_day_RightStamp
noncomputable def day_RightStamp (a0_0 : Int) (a0_1 : Int) : Option PV := callF EE fn_day_RightStamp [(.agg [(.int Go.IntKind.i64 a0_0), (.int Go.IntKind.i64 a0_1)])]

noncomputable abbrev tis_show_moment : List TI := funTI EE fn_show_moment
noncomputable def show_moment (a0_0 : Int) (a0_1 : Int) (a1_0 : Int) (a1_1 : Int) (a1_2 : Int) : Option PV := callF EE fn_show_moment [(.agg [(.int Go.IntKind.i64 a0_0), (.int Go.IntKind.i64 a0_1)]), (.agg [(.int Go.IntKind.i64 a1_0), (.int Go.IntKind.i64 a1_1), (.int Go.IntKind.i64 a1_2)])]

noncomputable abbrev tis_computusref15_RightStamp : List TI := funTI EE fn_computusref15_RightStamp
noncomputable def computusref15_RightStamp (a0_0 : Int) (a0_1 : Int) : Option PV := callF EE fn_computusref15_RightStamp [(.agg [(.int Go.IntKind.i64 a0_0), (.int Go.IntKind.i64 a0_1)])]

noncomputable abbrev tis_computusref19_moment : List TI := funTI EE fn_computusref19_moment
noncomputable def computusref19_moment (a0_0 : Int) (a0_1 : Int) (a1_0 : Int) (a1_1 : Int) (a1_2 : Int) : Option PV := callF EE fn_computusref19_moment [(.agg [(.int Go.IntKind.i64 a0_0), (.int Go.IntKind.i64 a0_1)]), (.agg [(.int Go.IntKind.i64 a1_0), (.int Go.IntKind.i64 a1_1), (.int Go.IntKind.i64 a1_2)])]

noncomputable abbrev tis_show_Span : List TI := funTI EE fn_show_Span
noncomputable def show_Span (a0_0 : Int) (a0_1 : Int) (a0_2 : Int) (a0_3 : Int) (a1_0 : Int) (a1_1 : Int) (a1_2 : Int) : Option PV := callF EE fn_show_Span [(.agg [(.int Go.IntKind.i64 a0_0), (.int Go.IntKind.i64 a0_1), (.int Go.IntKind.i64 a0_2), (.int Go.IntKind.i64 a0_3)]), (.agg [(.int Go.IntKind.i64 a1_0), (.int Go.IntKind.i64 a1_1), (.int Go.IntKind.i64 a1_2)])]
noncomputable def show_Span_c3 (x0 : Int) (x1 : Int) (x2 : Int) (x3 : Int) (x4 : Int) (x5 : Int) (x6 : Int) : Option PV :=
  runW EE tis_show_Span (confAt EE fn_show_Span 3 (mkT 36 [(2, (.ptr 0 0)), (3, (.ptr 1 0))]) [(.cells ty_api_Span [(.int Go.IntKind.i64 x0), (.int Go.IntKind.i64 x1), (.int Go.IntKind.i64 x2), (.int Go.IntKind.i64 x3)] Bool.false), (.cells ty_api_Style [(.int Go.IntKind.i64 x4), (.int Go.IntKind.i64 x5), (.int Go.IntKind.i64 x6)] Bool.false)])

noncomputable abbrev tis_computusref03_Digits : List TI := funTI EE fn_computusref03_Digits
noncomputable def computusref03_Digits (a0 : Int) : Option PV := callF EE fn_computusref03_Digits [(.int Go.IntKind.i64 a0)]
noncomputable def computusref03_Digits_c4 (x0 : Int) (x1 : Int) : Option PV :=
  runW EE tis_computusref03_Digits (confAt EE fn_computusref03_Digits 4 (mkT 51 [(0, (.int Go.IntKind.i64 x0)), (3, (.int Go.IntKind.u64 x1))]) [])
noncomputable def computusref03_Digits_c5 (x0 : Int) (x1 : Int) (x2 : List PV) : Option PV :=
  runW EE tis_computusref03_Digits (confAt EE fn_computusref03_Digits 5 (mkT 51 [(0, (.int Go.IntKind.i64 x0)), (3, (.int Go.IntKind.u64 x1)), (4, (.lall 0))]) [(.row ty_uint8 1 x2 0 none)])
noncomputable def computusref03_Digits_c11 (x0 : List PV) : Option PV :=
  runW EE tis_computusref03_Digits (confAt EE fn_computusref03_Digits 11 (mkT 51 [(4, (.lall 0))]) [(.row ty_uint8 1 x0 0 none)])
noncomputable def computusref03_Digits_c13 (x0 : Int) (x1 : List PV) (x2 : List PV) : Option PV :=
  runW EE tis_computusref03_Digits (confAt EE fn_computusref03_Digits 13 (mkT 51 [(4, (.lall 0)), (5, (.lall 1)), (6, (.int Go.IntKind.i64 x0))]) [(.row ty_uint8 1 x1 0 none), (.row ty_uint8 1 x2 0 none)])

noncomputable abbrev tis_computusref19_Span : List TI := funTI EE fn_computusref19_Span
noncomputable def computusref19_Span (a0_0 : Int) (a0_1 : Int) (a0_2 : Int) (a0_3 : Int) (a1_0 : Int) (a1_1 : Int) (a1_2 : Int) : Option PV := callF EE fn_computusref19_Span [(.agg [(.int Go.IntKind.i64 a0_0), (.int Go.IntKind.i64 a0_1), (.int Go.IntKind.i64 a0_2), (.int Go.IntKind.i64 a0_3)]), (.agg [(.int Go.IntKind.i64 a1_0), (.int Go.IntKind.i64 a1_1), (.int Go.IntKind.i64 a1_2)])]
noncomputable def computusref19_Span_c2  : Option PV :=
  runW EE tis_computusref19_Span (confAt EE fn_computusref19_Span 2 (mkT 32 []) [])
noncomputable def computusref19_Span_c3 (x0 : Int) (x1 : Int) (x2 : Int) (x3 : Int) (x4 : Int) (x5 : Int) (x6 : Int) : Option PV :=
  runW EE tis_computusref19_Span (confAt EE fn_computusref19_Span 3 (mkT 32 [(2, (.ptr 0 0)), (3, (.ptr 1 0))]) [(.cells ty_api_Span [(.int Go.IntKind.i64 x0), (.int Go.IntKind.i64 x1), (.int Go.IntKind.i64 x2), (.int Go.IntKind.i64 x3)] Bool.false), (.cells ty_api_Style [(.int Go.IntKind.i64 x4), (.int Go.IntKind.i64 x5), (.int Go.IntKind.i64 x6)] Bool.false)])

noncomputable abbrev tis_span_Right : List TI := funTI EE fn_span_Right
noncomputable def span_Right (a0_0 : Int) (a0_1 : Int) (a0_2 : Int) (a0_3 : Int) : Option PV := callF EE fn_span_Right [(.agg [(.int Go.IntKind.i64 a0_0), (.int Go.IntKind.i64 a0_1), (.int Go.IntKind.i64 a0_2), (.int Go.IntKind.i64 a0_3)])]

noncomputable abbrev tis_computusref16_Right : List TI := funTI EE fn_computusref16_Right
noncomputable def computusref16_Right (a0_0 : Int) (a0_1 : Int) (a0_2 : Int) (a0_3 : Int) : Option PV := callF EE fn_computusref16_Right [(.agg [(.int Go.IntKind.i64 a0_0), (.int Go.IntKind.i64 a0_1), (.int Go.IntKind.i64 a0_2), (.int Go.IntKind.i64 a0_3)])]

noncomputable abbrev tis_day_inside : List TI := funTI EE fn_day_inside
noncomputable def day_inside (a0 : Int) : Option PV := callF EE fn_day_inside [(.int Go.IntKind.i64 a0)]

noncomputable abbrev tis_day_Parts : List TI := funTI EE fn_day_Parts
noncomputable def day_Parts (a0_0 : Int) (a0_1 : Int) : Option PV := callF EE fn_day_Parts [(.agg [(.int Go.IntKind.i64 a0_0), (.int Go.IntKind.i64 a0_1)])]

noncomputable abbrev tis_show_digits : List TI := funTI EE fn_show_digits
noncomputable def show_digits (a0 : Int) : Option PV := callF EE fn_show_digits [(.int Go.IntKind.i64 a0)]

noncomputable abbrev tis_strings_Repeat : List TI := funTI EE fn_strings_Repeat
noncomputable def strings_Repeat (a0 : List UInt8) (a1 : Int) : Option PV := callF EE fn_strings_Repeat [(.str a0), (.int Go.IntKind.i64 a1)]
noncomputable def strings_Repeat_c8 (x0 : List UInt8) (x1 : Int) : Option PV :=
  runW EE tis_strings_Repeat (confAt EE fn_strings_Repeat 8 (mkT 125 [(0, (.str x0)), (1, (.int Go.IntKind.i64 x1))]) [])
noncomputable def strings_Repeat_c10 (x0 : List UInt8) (x1 : Int) : Option PV :=
  runW EE tis_strings_Repeat (confAt EE fn_strings_Repeat 10 (mkT 125 [(0, (.str x0)), (6, (.int Go.IntKind.u64 x1))]) [])
noncomputable def strings_Repeat_c11 (x0 : List UInt8) (x1 : Int) : Option PV :=
  runW EE tis_strings_Repeat (confAt EE fn_strings_Repeat 11 (mkT 125 [(0, (.str x0)), (6, (.int Go.IntKind.u64 x1))]) [])
noncomputable def strings_Repeat_c20 (x0 : List UInt8) (x1 : Int) : Option PV :=
  runW EE tis_strings_Repeat (confAt EE fn_strings_Repeat 20 (mkT 125 [(0, (.str x0)), (7, (.int Go.IntKind.i64 x1))]) [])
noncomputable def strings_Repeat_c30 (x0 : List UInt8) (x1 : Int) : Option PV :=
  runW EE tis_strings_Repeat (confAt EE fn_strings_Repeat 30 (mkT 125 [(0, (.str x0)), (7, (.int Go.IntKind.i64 x1))]) [])
noncomputable def strings_Repeat_c21 (x0 : Int) : Option PV :=
  runW EE tis_strings_Repeat (confAt EE fn_strings_Repeat 21 (mkT 125 [(7, (.int Go.IntKind.i64 x0))]) [])
noncomputable def strings_Repeat_c22 (x0 : List UInt8) (x1 : Int) : Option PV :=
  runW EE tis_strings_Repeat (confAt EE fn_strings_Repeat 22 (mkT 125 [(0, (.str x0)), (7, (.int Go.IntKind.i64 x1))]) [])
noncomputable def strings_Repeat_c35 (x0 : List UInt8) (x1 : Int) (x2 : Int) : Option PV :=
  runW EE tis_strings_Repeat (confAt EE fn_strings_Repeat 35 (mkT 125 [(0, (.str x0)), (7, (.int Go.IntKind.i64 x1)), (8, (.int Go.IntKind.i64 x2))]) [])
noncomputable def strings_Repeat_c23 (x0 : Int) : Option PV :=
  runW EE tis_strings_Repeat (confAt EE fn_strings_Repeat 23 (mkT 125 [(7, (.int Go.IntKind.i64 x0))]) [])
noncomputable def strings_Repeat_c24 (x0 : List UInt8) (x1 : Int) : Option PV :=
  runW EE tis_strings_Repeat (confAt EE fn_strings_Repeat 24 (mkT 125 [(0, (.str x0)), (7, (.int Go.IntKind.i64 x1))]) [])
noncomputable def strings_Repeat_c37 (x0 : List UInt8) (x1 : Int) (x2 : Int) (x3 : List PV) : Option PV :=
  runW EE tis_strings_Repeat (confAt EE fn_strings_Repeat 37 (mkT 125 [(0, (.str x0)), (7, (.int Go.IntKind.i64 x1)), (8, (.int Go.IntKind.i64 x2)), (9, (.ptr 0 0))]) [(.cells ty_strings_Builder [(.ptr 0 0), (.lall 1)] Bool.false), (.row ty_uint8 1 x3 0 none)])
noncomputable def strings_Repeat_c37_1 (x0 : List UInt8) (x1 : Int) (x2 : Int) : Option PV :=
  runW EE tis_strings_Repeat (confAt EE fn_strings_Repeat 37 (mkT 125 [(0, (.str x0)), (7, (.int Go.IntKind.i64 x1)), (8, (.int Go.IntKind.i64 x2)), (9, (.ptr 0 0))]) [(.cells ty_strings_Builder [(.ptr 0 0), .sl0] Bool.false)])
noncomputable def strings_Repeat_c25 (x0 : Int) : Option PV :=
  runW EE tis_strings_Repeat (confAt EE fn_strings_Repeat 25 (mkT 125 [(7, (.int Go.IntKind.i64 x0))]) [])
noncomputable def strings_Repeat_c26 (x0 : List UInt8) (x1 : Int) : Option PV :=
  runW EE tis_strings_Repeat (confAt EE fn_strings_Repeat 26 (mkT 125 [(0, (.str x0)), (7, (.int Go.IntKind.i64 x1))]) [])
noncomputable def strings_Repeat_c38 (x0 : Int) (x1 : Int) (x2 : List PV) : Option PV :=
  runW EE tis_strings_Repeat (confAt EE fn_strings_Repeat 38 (mkT 125 [(7, (.int Go.IntKind.i64 x0)), (8, (.int Go.IntKind.i64 x1)), (9, (.ptr 0 0))]) [(.cells ty_strings_Builder [(.ptr 0 0), (.lall 1)] Bool.false), (.row ty_uint8 1 x2 0 none)])
noncomputable def strings_Repeat_c27 (x0 : Int) : Option PV :=
  runW EE tis_strings_Repeat (confAt EE fn_strings_Repeat 27 (mkT 125 [(7, (.int Go.IntKind.i64 x0))]) [])
noncomputable def strings_Repeat_c28 (x0 : List UInt8) (x1 : Int) : Option PV :=
  runW EE tis_strings_Repeat (confAt EE fn_strings_Repeat 28 (mkT 125 [(0, (.str x0)), (7, (.int Go.IntKind.i64 x1))]) [])
noncomputable def strings_Repeat_c39 (x0 : Int) (x1 : Int) (x2 : List PV) : Option PV :=
  runW EE tis_strings_Repeat (confAt EE fn_strings_Repeat 39 (mkT 125 [(7, (.int Go.IntKind.i64 x0)), (8, (.int Go.IntKind.i64 x1)), (9, (.ptr 0 0))]) [(.cells ty_strings_Builder [(.ptr 0 0), (.lall 1)] Bool.false), (.row ty_uint8 1 x2 0 none)])
noncomputable def strings_Repeat_c29 (x0 : Int) : Option PV :=
  runW EE tis_strings_Repeat (confAt EE fn_strings_Repeat 29 (mkT 125 [(7, (.int Go.IntKind.i64 x0))]) [])

noncomputable abbrev tis_clock_Two : List TI := funTI EE fn_clock_Two
noncomputable def clock_Two (a0 : Int) : Option PV := callF EE fn_clock_Two [(.int Go.IntKind.i64 a0)]

noncomputable abbrev tis_show_between : List TI := funTI EE fn_show_between
noncomputable def show_between (a0 : List UInt8) (a1 : List PV) : Option PV := callF EE fn_show_between [(.str a0), (.sl 1 a1)]
noncomputable def show_between_c3 (x0 : List UInt8) (x1 : List PV) (x2 : Int) (x3 : Int) (x4 : List PV) : Option PV :=
  runW EE tis_show_between (confAt EE fn_show_between 3 (mkT 24 [(0, (.str x0)), (5, (.lall 0)), (8, (.sl 1 x1)), (9, (.int Go.IntKind.i64 x2)), (10, (.int Go.IntKind.i64 x3))]) [(.row ty_string 1 x4 0 none)])

noncomputable abbrev tis_computusref15_inside : List TI := funTI EE fn_computusref15_inside
noncomputable def computusref15_inside (a0 : Int) : Option PV := callF EE fn_computusref15_inside [(.int Go.IntKind.i64 a0)]

noncomputable abbrev tis_computusref15_Parts : List TI := funTI EE fn_computusref15_Parts
noncomputable def computusref15_Parts (a0_0 : Int) (a0_1 : Int) : Option PV := callF EE fn_computusref15_Parts [(.agg [(.int Go.IntKind.i64 a0_0), (.int Go.IntKind.i64 a0_1)])]

noncomputable abbrev tis_computusref03_Two : List TI := funTI EE fn_computusref03_Two
noncomputable def computusref03_Two (a0 : Int) : Option PV := callF EE fn_computusref03_Two [(.int Go.IntKind.i64 a0)]
noncomputable def computusref03_Two_c2 (x0 : Int) : Option PV :=
  runW EE tis_computusref03_Two (confAt EE fn_computusref03_Two 2 (mkT 24 [(0, (.int Go.IntKind.i64 x0))]) [])
noncomputable def computusref03_Two_c3 (x0 : Int) : Option PV :=
  runW EE tis_computusref03_Two (confAt EE fn_computusref03_Two 3 (mkT 24 [(0, (.int Go.IntKind.i64 x0))]) [])

noncomputable abbrev tis_num_Split : List TI := funTI EE fn_num_Split
noncomputable def num_Split (a0 : Int) : Option PV := callF EE fn_num_Split [(.int Go.IntKind.i64 a0)]

noncomputable abbrev tis_day_Of : List TI := funTI EE fn_day_Of
noncomputable def day_Of (a0_0 : Int) (a0_1 : Int) : Option PV := callF EE fn_day_Of [(.agg [(.int Go.IntKind.i64 a0_0), (.int Go.IntKind.i64 a0_1)])]

noncomputable abbrev tis_clock_Text : List TI := funTI EE fn_clock_Text
noncomputable def clock_Text (a0 : Int) : Option PV := callF EE fn_clock_Text [(.int Go.IntKind.i64 a0)]

noncomputable abbrev tis_computusref01_Split : List TI := funTI EE fn_computusref01_Split
noncomputable def computusref01_Split (a0 : Int) : Option PV := callF EE fn_computusref01_Split [(.int Go.IntKind.i64 a0)]

noncomputable abbrev tis_computusref15_Of : List TI := funTI EE fn_computusref15_Of
noncomputable def computusref15_Of (a0_0 : Int) (a0_1 : Int) : Option PV := callF EE fn_computusref15_Of [(.agg [(.int Go.IntKind.i64 a0_0), (.int Go.IntKind.i64 a0_1)])]

noncomputable abbrev tis_computusref03_Text : List TI := funTI EE fn_computusref03_Text
noncomputable def computusref03_Text (a0 : Int) : Option PV := callF EE fn_computusref03_Text [(.int Go.IntKind.i64 a0)]

noncomputable abbrev tis_show_sql : List TI := funTI EE fn_show_sql
noncomputable def show_sql (a0_0 : Int) (a0_1 : Int) (a0_2 : Int) (a0_3 : Int) : Option PV := callF EE fn_show_sql [(.agg [(.int Go.IntKind.i64 a0_0), (.int Go.IntKind.i64 a0_1), (.int Go.IntKind.i64 a0_2), (.int Go.IntKind.i64 a0_3)])]

noncomputable abbrev tis_show_iso : List TI := funTI EE fn_show_iso
noncomputable def show_iso (a0_0 : Int) (a0_1 : Int) (a0_2 : Int) (a0_3 : Int) : Option PV := callF EE fn_show_iso [(.agg [(.int Go.IntKind.i64 a0_0), (.int Go.IntKind.i64 a0_1), (.int Go.IntKind.i64 a0_2), (.int Go.IntKind.i64 a0_3)])]

noncomputable abbrev tis_show_postgres : List TI := funTI EE fn_show_postgres
noncomputable def show_postgres (a0_0 : Int) (a0_1 : Int) (a0_2 : Int) (a0_3 : Int) : Option PV := callF EE fn_show_postgres [(.agg [(.int Go.IntKind.i64 a0_0), (.int Go.IntKind.i64 a0_1), (.int Go.IntKind.i64 a0_2), (.int Go.IntKind.i64 a0_3)])]
noncomputable def show_postgres_c3 (x0 : List UInt8) (x1 : Int) (x2 : Int) (x3 : Int) (x4 : Int) (x5 : Int) : Option PV :=
  runW EE tis_show_postgres (confAt EE fn_show_postgres 3 (mkT 49 [(1, (.ptr 0 0)), (3, (.ptr 1 0)), (4, (.str x0))]) [(.cells ty_api_Span [(.int Go.IntKind.i64 x1), (.int Go.IntKind.i64 x2), (.int Go.IntKind.i64 x3), (.int Go.IntKind.i64 x4)] Bool.false), (.cells ty_int64 [(.int Go.IntKind.i64 x5)] Bool.false)])
noncomputable def show_postgres_c4 (x0 : List UInt8) (x1 : List UInt8) (x2 : Int) (x3 : Int) (x4 : Int) (x5 : Int) (x6 : Int) : Option PV :=
  runW EE tis_show_postgres (confAt EE fn_show_postgres 4 (mkT 49 [(1, (.ptr 0 0)), (3, (.ptr 1 0)), (4, (.str x0)), (5, (.str x1))]) [(.cells ty_api_Span [(.int Go.IntKind.i64 x2), (.int Go.IntKind.i64 x3), (.int Go.IntKind.i64 x4), (.int Go.IntKind.i64 x5)] Bool.false), (.cells ty_int64 [(.int Go.IntKind.i64 x6)] Bool.false)])
noncomputable def show_postgres_c5 (x0 : List UInt8) (x1 : List UInt8) (x2 : List UInt8) (x3 : Int) (x4 : Int) (x5 : Int) (x6 : Int) (x7 : Int) : Option PV :=
  runW EE tis_show_postgres (confAt EE fn_show_postgres 5 (mkT 49 [(1, (.ptr 0 0)), (3, (.ptr 1 0)), (4, (.str x0)), (5, (.str x1)), (6, (.str x2))]) [(.cells ty_api_Span [(.int Go.IntKind.i64 x3), (.int Go.IntKind.i64 x4), (.int Go.IntKind.i64 x5), (.int Go.IntKind.i64 x6)] Bool.false), (.cells ty_int64 [(.int Go.IntKind.i64 x7)] Bool.false)])
noncomputable def show_postgres_c7 (x0 : List UInt8) (x1 : List UInt8) (x2 : List UInt8) (x3 : Int) (x4 : Int) (x5 : Int) (x6 : Int) : Option PV :=
  runW EE tis_show_postgres (confAt EE fn_show_postgres 7 (mkT 49 [(1, (.ptr 0 0)), (4, (.str x0)), (5, (.str x1)), (6, (.str x2))]) [(.cells ty_api_Span [(.int Go.IntKind.i64 x3), (.int Go.IntKind.i64 x4), (.int Go.IntKind.i64 x5), (.int Go.IntKind.i64 x6)] Bool.false)])
noncomputable def show_postgres_c8 (x0 : List UInt8) (x1 : List UInt8) (x2 : List UInt8) (x3 : List UInt8) (x4 : Int) (x5 : Int) (x6 : Int) (x7 : Int) (x8 : Int) : Option PV :=
  runW EE tis_show_postgres (confAt EE fn_show_postgres 8 (mkT 49 [(1, (.ptr 0 0)), (3, (.ptr 1 0)), (4, (.str x0)), (5, (.str x1)), (6, (.str x2)), (7, (.str x3))]) [(.cells ty_api_Span [(.int Go.IntKind.i64 x4), (.int Go.IntKind.i64 x5), (.int Go.IntKind.i64 x6), (.int Go.IntKind.i64 x7)] Bool.false), (.cells ty_int64 [(.int Go.IntKind.i64 x8)] Bool.false)])

noncomputable abbrev tis_computusref19_sql : List TI := funTI EE fn_computusref19_sql
noncomputable def computusref19_sql (a0_0 : Int) (a0_1 : Int) (a0_2 : Int) (a0_3 : Int) : Option PV := callF EE fn_computusref19_sql [(.agg [(.int Go.IntKind.i64 a0_0), (.int Go.IntKind.i64 a0_1), (.int Go.IntKind.i64 a0_2), (.int Go.IntKind.i64 a0_3)])]

noncomputable abbrev tis_computusref19_iso : List TI := funTI EE fn_computusref19_iso
noncomputable def computusref19_iso (a0_0 : Int) (a0_1 : Int) (a0_2 : Int) (a0_3 : Int) : Option PV := callF EE fn_computusref19_iso [(.agg [(.int Go.IntKind.i64 a0_0), (.int Go.IntKind.i64 a0_1), (.int Go.IntKind.i64 a0_2), (.int Go.IntKind.i64 a0_3)])]
noncomputable def computusref19_iso_c8 (x0 : List UInt8) (x1 : Int) : Option PV :=
  runW EE tis_computusref19_iso (confAt EE fn_computusref19_iso 8 (mkT 65 [(3, (.str x0)), (4, (.int Go.IntKind.i64 x1))]) [])

noncomputable abbrev tis_computusref19_postgres : List TI := funTI EE fn_computusref19_postgres
noncomputable def computusref19_postgres (a0_0 : Int) (a0_1 : Int) (a0_2 : Int) (a0_3 : Int) : Option PV := callF EE fn_computusref19_postgres [(.agg [(.int Go.IntKind.i64 a0_0), (.int Go.IntKind.i64 a0_1), (.int Go.IntKind.i64 a0_2), (.int Go.IntKind.i64 a0_3)])]
noncomputable def computusref19_postgres_c6 (x0 : List UInt8) (x1 : Int) (x2 : Int) (x3 : Int) (x4 : Int) (x5 : Int) (x6 : Int) (x7 : List PV) (x8 : Nat) (x9 : List PV) (x10 : Nat) : Option PV :=
  runW EE tis_computusref19_postgres (confAt EE fn_computusref19_postgres 6 (mkT 73 [(1, (.ptr 0 0)), (3, (.lall 1)), (4, (.lall 2)), (5, (.str x0)), (6, (.int Go.IntKind.i64 x1)), (7, (.int Go.IntKind.i64 x2))]) [(.cells ty_api_Span [(.int Go.IntKind.i64 x3), (.int Go.IntKind.i64 x4), (.int Go.IntKind.i64 x5), (.int Go.IntKind.i64 x6)] Bool.false), (.row ty_int64 1 x7 0 (some x8)), (.row ty_string 1 x9 0 (some x10))])
noncomputable def computusref19_postgres_c7 (x0 : List UInt8) (x1 : Int) (x2 : Int) (x3 : Int) (x4 : Int) (x5 : Int) (x6 : Int) (x7 : List PV) (x8 : Nat) (x9 : List PV) (x10 : Nat) : Option PV :=
  runW EE tis_computusref19_postgres (confAt EE fn_computusref19_postgres 7 (mkT 73 [(1, (.ptr 0 0)), (3, (.lall 1)), (4, (.lall 2)), (5, (.str x0)), (6, (.int Go.IntKind.i64 x1)), (7, (.int Go.IntKind.i64 x2))]) [(.cells ty_api_Span [(.int Go.IntKind.i64 x3), (.int Go.IntKind.i64 x4), (.int Go.IntKind.i64 x5), (.int Go.IntKind.i64 x6)] Bool.false), (.row ty_int64 1 x7 0 (some x8)), (.row ty_string 1 x9 0 (some x10))])
noncomputable def computusref19_postgres_c11 (x0 : List UInt8) (x1 : Int) (x2 : Int) (x3 : Int) (x4 : Int) (x5 : Int) (x6 : Int) (x7 : List PV) (x8 : Nat) (x9 : List PV) (x10 : Nat) : Option PV :=
  runW EE tis_computusref19_postgres (confAt EE fn_computusref19_postgres 11 (mkT 73 [(1, (.ptr 0 0)), (3, (.lall 1)), (4, (.lall 2)), (5, (.str x0)), (6, (.int Go.IntKind.i64 x1)), (7, (.int Go.IntKind.i64 x2))]) [(.cells ty_api_Span [(.int Go.IntKind.i64 x3), (.int Go.IntKind.i64 x4), (.int Go.IntKind.i64 x5), (.int Go.IntKind.i64 x6)] Bool.false), (.row ty_int64 1 x7 0 (some x8)), (.row ty_string 1 x9 0 (some x10))])
noncomputable def computusref19_postgres_c14 (x0 : List UInt8) : Option PV :=
  runW EE tis_computusref19_postgres (confAt EE fn_computusref19_postgres 14 (mkT 73 [(5, (.str x0))]) [])
noncomputable def computusref19_postgres_c15 (x0 : List UInt8) (x1 : Int) (x2 : Int) (x3 : Int) (x4 : Int) (x5 : Int) : Option PV :=
  runW EE tis_computusref19_postgres (confAt EE fn_computusref19_postgres 15 (mkT 73 [(1, (.ptr 0 0)), (5, (.str x0)), (6, (.int Go.IntKind.i64 x1))]) [(.cells ty_api_Span [(.int Go.IntKind.i64 x2), (.int Go.IntKind.i64 x3), (.int Go.IntKind.i64 x4), (.int Go.IntKind.i64 x5)] Bool.false)])
noncomputable def computusref19_postgres_c17 (x0 : List UInt8) (x1 : Int) (x2 : Int) (x3 : Int) (x4 : Int) (x5 : Int) : Option PV :=
  runW EE tis_computusref19_postgres (confAt EE fn_computusref19_postgres 17 (mkT 73 [(1, (.ptr 0 0)), (5, (.str x0)), (6, (.int Go.IntKind.i64 x1))]) [(.cells ty_api_Span [(.int Go.IntKind.i64 x2), (.int Go.IntKind.i64 x3), (.int Go.IntKind.i64 x4), (.int Go.IntKind.i64 x5)] Bool.false)])

noncomputable abbrev tis_num_Neg : List TI := funTI EE fn_num_Neg
noncomputable def num_Neg (a0 : Int) : Option PV := callF EE fn_num_Neg [(.int Go.IntKind.i64 a0)]

noncomputable abbrev tis_span_within : List TI := funTI EE fn_span_within
noncomputable def span_within (a0 : Int) : Option PV := callF EE fn_span_within [(.int Go.IntKind.i64 a0)]

noncomputable abbrev tis_computusref16_within : List TI := funTI EE fn_computusref16_within
noncomputable def computusref16_within (a0 : Int) (a1 : Int) : Option PV := callF EE fn_computusref16_within [(.int Go.IntKind.i64 a0), (.int Go.IntKind.i64 a1)]

noncomputable abbrev tis_civil_Date : List TI := funTI EE fn_civil_Date
noncomputable def civil_Date (a0 : Int) : Option PV := callF EE fn_civil_Date [(.int Go.IntKind.i64 a0)]

noncomputable abbrev tis_bits_Mul : List TI := funTI EE fn_bits_Mul
noncomputable def bits_Mul (a0 : Int) (a1 : Int) : Option PV := callF EE fn_bits_Mul [(.int Go.IntKind.u64 a0), (.int Go.IntKind.u64 a1)]

noncomputable abbrev tis_strings_HasPrefix : List TI := funTI EE fn_strings_HasPrefix
noncomputable def strings_HasPrefix (a0 : List UInt8) (a1 : List UInt8) : Option PV := callF EE fn_strings_HasPrefix [(.str a0), (.str a1)]

noncomputable abbrev tis_clock_digits : List TI := funTI EE fn_clock_digits
noncomputable def clock_digits (a0 : Int) (a1 : Int) : Option PV := callF EE fn_clock_digits [(.int Go.IntKind.u64 a0), (.int Go.IntKind.i64 a1)]
noncomputable def clock_digits_c3 (x0 : Int) (x1 : Int) (x2 : Int) (x3 : List PV) (x4 : Nat) : Option PV :=
  runW EE tis_clock_digits (confAt EE fn_clock_digits 3 (mkT 28 [(0, (.int Go.IntKind.u64 x0)), (1, (.int Go.IntKind.i64 x1)), (5, (.ptr 0 0)), (6, (.int Go.IntKind.i64 x2))]) [(.row ty_A20_uint8 1 x3 0 (some x4))])
noncomputable def clock_digits_c5 (x0 : Int) (x1 : Int) (x2 : Int) (x3 : List PV) (x4 : Nat) : Option PV :=
  runW EE tis_clock_digits (confAt EE fn_clock_digits 5 (mkT 28 [(0, (.int Go.IntKind.u64 x0)), (1, (.int Go.IntKind.i64 x1)), (5, (.ptr 0 0)), (6, (.int Go.IntKind.i64 x2))]) [(.row ty_A20_uint8 1 x3 0 (some x4))])

noncomputable abbrev tis_strings_Join : List TI := funTI EE fn_strings_Join
noncomputable def strings_Join (a0 : List PV) (a1 : List UInt8) : Option PV := callF EE fn_strings_Join [(.sl 1 a0), (.str a1)]
noncomputable def strings_Join_c10 (x0 : List PV) (x1 : List UInt8) (x2 : Int) : Option PV :=
  runW EE tis_strings_Join (confAt EE fn_strings_Join 10 (mkT 75 [(0, (.sl 1 x0)), (1, (.str x1)), (5, (.int Go.IntKind.i64 x2))]) [])
noncomputable def strings_Join_c11 (x0 : List PV) (x1 : List UInt8) (x2 : Int) : Option PV :=
  runW EE tis_strings_Join (confAt EE fn_strings_Join 11 (mkT 75 [(0, (.sl 1 x0)), (1, (.str x1)), (5, (.int Go.IntKind.i64 x2))]) [])
noncomputable def strings_Join_c12 (x0 : List PV) (x1 : List UInt8) (x2 : Int) (x3 : List PV) (x4 : Int) (x5 : Int) : Option PV :=
  runW EE tis_strings_Join (confAt EE fn_strings_Join 12 (mkT 75 [(0, (.sl 1 x0)), (1, (.str x1)), (5, (.int Go.IntKind.i64 x2)), (39, (.sl 1 x3)), (40, (.int Go.IntKind.i64 x4)), (41, (.int Go.IntKind.i64 x5))]) [])
noncomputable def strings_Join_c16 (x0 : List PV) (x1 : List UInt8) (x2 : Int) (x3 : List UInt8) (x4 : List PV) (x5 : Int) (x6 : Int) : Option PV :=
  runW EE tis_strings_Join (confAt EE fn_strings_Join 16 (mkT 75 [(0, (.sl 1 x0)), (1, (.str x1)), (5, (.int Go.IntKind.i64 x2)), (7, (.str x3)), (39, (.sl 1 x4)), (40, (.int Go.IntKind.i64 x5)), (41, (.int Go.IntKind.i64 x6))]) [])
noncomputable def strings_Join_c20 (x0 : List PV) (x1 : List UInt8) (x2 : List PV) : Option PV :=
  runW EE tis_strings_Join (confAt EE fn_strings_Join 20 (mkT 75 [(0, (.sl 1 x0)), (1, (.str x1)), (8, (.ptr 0 0))]) [(.cells ty_strings_Builder [(.ptr 0 0), (.lall 1)] Bool.false), (.row ty_uint8 1 x2 0 none)])
noncomputable def strings_Join_c20_1 (x0 : List PV) (x1 : List UInt8) : Option PV :=
  runW EE tis_strings_Join (confAt EE fn_strings_Join 20 (mkT 75 [(0, (.sl 1 x0)), (1, (.str x1)), (8, (.ptr 0 0))]) [(.cells ty_strings_Builder [(.ptr 0 0), .sl0] Bool.false)])
noncomputable def strings_Join_c21 (x0 : List PV) (x1 : List UInt8) (x2 : List PV) : Option PV :=
  runW EE tis_strings_Join (confAt EE fn_strings_Join 21 (mkT 75 [(0, (.sl 1 x0)), (1, (.str x1)), (8, (.ptr 0 0))]) [(.cells ty_strings_Builder [(.ptr 0 0), (.lall 1)] Bool.false), (.row ty_uint8 1 x2 0 none)])
noncomputable def strings_Join_c22 (x0 : List UInt8) (x1 : List PV) (x2 : Int) (x3 : Int) (x4 : List PV) : Option PV :=
  runW EE tis_strings_Join (confAt EE fn_strings_Join 22 (mkT 75 [(1, (.str x0)), (8, (.ptr 0 0)), (63, (.sl 1 x1)), (64, (.int Go.IntKind.i64 x2)), (65, (.int Go.IntKind.i64 x3))]) [(.cells ty_strings_Builder [(.ptr 0 0), (.lall 1)] Bool.false), (.row ty_uint8 1 x4 0 none)])

noncomputable abbrev tis_computusref02_Date : List TI := funTI EE fn_computusref02_Date
noncomputable def computusref02_Date (a0 : Int) : Option PV := callF EE fn_computusref02_Date [(.int Go.IntKind.i64 a0)]
noncomputable def computusref02_Date_c5 (x0 : Int) (x1 : Int) : Option PV :=
  runW EE tis_computusref02_Date (confAt EE fn_computusref02_Date 5 (mkT 45 [(6, (.int Go.IntKind.i64 x0)), (7, (.int Go.IntKind.i64 x1))]) [])
noncomputable def computusref02_Date_c8 (x0 : Int) (x1 : Int) (x2 : Int) : Option PV :=
  runW EE tis_computusref02_Date (confAt EE fn_computusref02_Date 8 (mkT 45 [(6, (.int Go.IntKind.i64 x0)), (7, (.int Go.IntKind.i64 x1)), (8, (.int Go.IntKind.i64 x2))]) [])
noncomputable def computusref02_Date_c12 (x0 : Int) (x1 : Int) (x2 : Int) : Option PV :=
  runW EE tis_computusref02_Date (confAt EE fn_computusref02_Date 12 (mkT 45 [(6, (.int Go.IntKind.i64 x0)), (7, (.int Go.IntKind.i64 x1)), (9, (.int Go.IntKind.i64 x2))]) [])

noncomputable abbrev tis_num_Div : List TI := funTI EE fn_num_Div
noncomputable def num_Div (a0 : Int) (a1 : Int) : Option PV := callF EE fn_num_Div [(.int Go.IntKind.i64 a0), (.int Go.IntKind.i64 a1)]

noncomputable abbrev tis_num_Mod : List TI := funTI EE fn_num_Mod
noncomputable def num_Mod (a0 : Int) (a1 : Int) : Option PV := callF EE fn_num_Mod [(.int Go.IntKind.i64 a0), (.int Go.IntKind.i64 a1)]

noncomputable abbrev tis_clock_within : List TI := funTI EE fn_clock_within
noncomputable def clock_within (a0 : Int) (a1 : Int) : Option PV := callF EE fn_clock_within [(.int Go.IntKind.i64 a0), (.int Go.IntKind.i64 a1)]

noncomputable abbrev tis_clock_text : List TI := funTI EE fn_clock_text
noncomputable def clock_text (a0 : Int) : Option PV := callF EE fn_clock_text [(.int Go.IntKind.u64 a0)]

noncomputable abbrev tis_computusref01_Div : List TI := funTI EE fn_computusref01_Div
noncomputable def computusref01_Div (a0 : Int) (a1 : Int) : Option PV := callF EE fn_computusref01_Div [(.int Go.IntKind.i64 a0), (.int Go.IntKind.i64 a1)]

noncomputable abbrev tis_computusref01_Mod : List TI := funTI EE fn_computusref01_Mod
noncomputable def computusref01_Mod (a0 : Int) (a1 : Int) : Option PV := callF EE fn_computusref01_Mod [(.int Go.IntKind.i64 a0), (.int Go.IntKind.i64 a1)]

noncomputable abbrev tis_computusref03_Parts : List TI := funTI EE fn_computusref03_Parts
noncomputable def computusref03_Parts (a0 : Int) : Option PV := callF EE fn_computusref03_Parts [(.int Go.IntKind.i64 a0)]
noncomputable def computusref03_Parts_c2  : Option PV :=
  runW EE tis_computusref03_Parts (confAt EE fn_computusref03_Parts 2 (mkT 25 []) [])
noncomputable def computusref03_Parts_c3 (x0 : Int) : Option PV :=
  runW EE tis_computusref03_Parts (confAt EE fn_computusref03_Parts 3 (mkT 25 [(0, (.int Go.IntKind.i64 x0))]) [])

noncomputable abbrev tis_computusref03_Fraction : List TI := funTI EE fn_computusref03_Fraction
noncomputable def computusref03_Fraction (a0 : Int) : Option PV := callF EE fn_computusref03_Fraction [(.int Go.IntKind.i64 a0)]
noncomputable def computusref03_Fraction_c2  : Option PV :=
  runW EE tis_computusref03_Fraction (confAt EE fn_computusref03_Fraction 2 (mkT 27 []) [])
noncomputable def computusref03_Fraction_c3 (x0 : Int) : Option PV :=
  runW EE tis_computusref03_Fraction (confAt EE fn_computusref03_Fraction 3 (mkT 27 [(0, (.int Go.IntKind.i64 x0))]) [])
noncomputable def computusref03_Fraction_c4 (x0 : List UInt8) : Option PV :=
  runW EE tis_computusref03_Fraction (confAt EE fn_computusref03_Fraction 4 (mkT 27 [(3, (.str x0))]) [])

noncomputable abbrev tis_show_signed : List TI := funTI EE fn_show_signed
noncomputable def show_signed (a0 : Int) : Option PV := callF EE fn_show_signed [(.int Go.IntKind.i64 a0)]

noncomputable abbrev tis_strings_Cut : List TI := funTI EE fn_strings_Cut
noncomputable def strings_Cut (a0 : List UInt8) (a1 : List UInt8) : Option PV := callF EE fn_strings_Cut [(.str a0), (.str a1)]

noncomputable abbrev tis_clock_Long : List TI := funTI EE fn_clock_Long
noncomputable def clock_Long (a0 : Int) : Option PV := callF EE fn_clock_Long [(.int Go.IntKind.i64 a0)]

noncomputable abbrev tis_show_letter : List TI := funTI EE fn_show_letter
noncomputable def show_letter (a0 : Int) (a1 : List UInt8) : Option PV := callF EE fn_show_letter [(.int Go.IntKind.i64 a0), (.str a1)]

noncomputable abbrev tis_show_seconds : List TI := funTI EE fn_show_seconds
noncomputable def show_seconds (a0 : Int) : Option PV := callF EE fn_show_seconds [(.int Go.IntKind.i64 a0)]

noncomputable abbrev tis_num_Add : List TI := funTI EE fn_num_Add
noncomputable def num_Add (a0 : Int) (a1 : Int) : Option PV := callF EE fn_num_Add [(.int Go.IntKind.i64 a0), (.int Go.IntKind.i64 a1)]

noncomputable abbrev tis_computusref02_First : List TI := funTI EE fn_computusref02_First
noncomputable def computusref02_First  : Option PV := callF EE fn_computusref02_First []

noncomputable abbrev tis_civil_First : List TI := funTI EE fn_civil_First
noncomputable def civil_First  : Option PV := callF EE fn_civil_First []

noncomputable abbrev tis_civil_Last : List TI := funTI EE fn_civil_Last
noncomputable def civil_Last  : Option PV := callF EE fn_civil_Last []

noncomputable abbrev tis_computusref19_size : List TI := funTI EE fn_computusref19_size
noncomputable def computusref19_size (a0 : Int) : Option PV := callF EE fn_computusref19_size [(.int Go.IntKind.i64 a0)]

noncomputable abbrev tis_computusref19_part : List TI := funTI EE fn_computusref19_part
noncomputable def computusref19_part (a0 : Int) (a1 : List UInt8) : Option PV := callF EE fn_computusref19_part [(.int Go.IntKind.i64 a0), (.str a1)]

noncomputable abbrev tis_computusref19_unit : List TI := funTI EE fn_computusref19_unit
noncomputable def computusref19_unit (a0 : Int) (a1 : List UInt8) (a2 : Int) : Option PV := callF EE fn_computusref19_unit [(.int Go.IntKind.i64 a0), (.str a1), (.int Go.IntKind.i64 a2)]
noncomputable def computusref19_unit_c4 (x0 : Int) (x1 : Int) (x2 : List UInt8) : Option PV :=
  runW EE tis_computusref19_unit (confAt EE fn_computusref19_unit 4 (mkT 26 [(0, (.int Go.IntKind.i64 x0)), (2, (.int Go.IntKind.i64 x1)), (7, (.str x2))]) [])

noncomputable abbrev tis_computusref03_Long : List TI := funTI EE fn_computusref03_Long
noncomputable def computusref03_Long (a0 : Int) : Option PV := callF EE fn_computusref03_Long [(.int Go.IntKind.i64 a0)]
noncomputable def computusref03_Long_c6 (x0 : Int) (x1 : List UInt8) : Option PV :=
  runW EE tis_computusref03_Long (confAt EE fn_computusref03_Long 6 (mkT 36 [(3, (.int Go.IntKind.u64 x0)), (4, (.str x1))]) [])

noncomputable abbrev tis_num_Sub : List TI := funTI EE fn_num_Sub
noncomputable def num_Sub (a0 : Int) (a1 : Int) : Option PV := callF EE fn_num_Sub [(.int Go.IntKind.i64 a0), (.int Go.IntKind.i64 a1)]

noncomputable abbrev tis_civil_can : List TI := funTI EE fn_civil_can
noncomputable def civil_can (a0 : Int) : Option PV := callF EE fn_civil_can [(.int Go.IntKind.i64 a0)]

noncomputable abbrev tis_civil_parts : List TI := funTI EE fn_civil_parts
noncomputable def civil_parts (a0 : Int) : Option PV := callF EE fn_civil_parts [(.int Go.IntKind.i64 a0)]

noncomputable abbrev tis_bits_Mul64 : List TI := funTI EE fn_bits_Mul64
noncomputable def bits_Mul64 (a0 : Int) (a1 : Int) : Option PV := callF EE fn_bits_Mul64 [(.int Go.IntKind.u64 a0), (.int Go.IntKind.u64 a1)]

noncomputable abbrev tis_stringslite_HasPrefix : List TI := funTI EE fn_stringslite_HasPrefix
noncomputable def stringslite_HasPrefix (a0 : List UInt8) (a1 : List UInt8) : Option PV := callF EE fn_stringslite_HasPrefix [(.str a0), (.str a1)]

noncomputable abbrev tis_computusref02_Can : List TI := funTI EE fn_computusref02_Can
noncomputable def computusref02_Can (a0 : Int) : Option PV := callF EE fn_computusref02_Can [(.int Go.IntKind.i64 a0)]

noncomputable abbrev tis_computusref02_div : List TI := funTI EE fn_computusref02_div
noncomputable def computusref02_div (a0 : Int) (a1 : Int) : Option PV := callF EE fn_computusref02_div [(.int Go.IntKind.i64 a0), (.int Go.IntKind.i64 a1)]

noncomputable abbrev tis_computusref02_mod : List TI := funTI EE fn_computusref02_mod
noncomputable def computusref02_mod (a0 : Int) (a1 : Int) : Option PV := callF EE fn_computusref02_mod [(.int Go.IntKind.i64 a0), (.int Go.IntKind.i64 a1)]

noncomputable abbrev tis_computusref02_Leap : List TI := funTI EE fn_computusref02_Leap
noncomputable def computusref02_Leap (a0 : Int) : Option PV := callF EE fn_computusref02_Leap [(.int Go.IntKind.i64 a0)]

noncomputable abbrev tis_computusref02_Len : List TI := funTI EE fn_computusref02_Len
noncomputable def computusref02_Len (a0 : Int) (a1 : Int) : Option PV := callF EE fn_computusref02_Len [(.int Go.IntKind.i64 a0), (.int Go.IntKind.i64 a1)]
noncomputable def computusref02_Len_c10 (x0 : Int) (x1 : Int) : Option PV :=
  runW EE tis_computusref02_Len (confAt EE fn_computusref02_Len 10 (mkT 23 [(0, (.int Go.IntKind.i64 x0)), (5, (.int Go.IntKind.i64 x1))]) [])
noncomputable def computusref02_Len_c15 (x0 : Int) (x1 : Int) : Option PV :=
  runW EE tis_computusref02_Len (confAt EE fn_computusref02_Len 15 (mkT 23 [(0, (.int Go.IntKind.i64 x0)), (5, (.int Go.IntKind.i64 x1))]) [])

noncomputable abbrev tis_num_Scale : List TI := funTI EE fn_num_Scale
noncomputable def num_Scale (a0 : Int) (a1 : Int) (a2 : Int) : Option PV := callF EE fn_num_Scale [(.int Go.IntKind.i64 a0), (.int Go.IntKind.i64 a1), (.int Go.IntKind.i64 a2)]
noncomputable def num_Scale_c9 (x0 : Bool) (x1 : Int) : Option PV :=
  runW EE tis_num_Scale (confAt EE fn_num_Scale 9 (mkT 66 [(10, (.bool x0)), (11, (.int Go.IntKind.u64 x1))]) [])
noncomputable def num_Scale_c10 (x0 : Int) : Option PV :=
  runW EE tis_num_Scale (confAt EE fn_num_Scale 10 (mkT 66 [(11, (.int Go.IntKind.u64 x0))]) [])

noncomputable abbrev tis_clock_parts : List TI := funTI EE fn_clock_parts
noncomputable def clock_parts (a0 : Int) : Option PV := callF EE fn_clock_parts [(.int Go.IntKind.u64 a0)]

noncomputable abbrev tis_clock_Fraction : List TI := funTI EE fn_clock_Fraction
noncomputable def clock_Fraction (a0 : Int) : Option PV := callF EE fn_clock_Fraction [(.int Go.IntKind.i64 a0)]
noncomputable def clock_Fraction_c2  : Option PV :=
  runW EE tis_clock_Fraction (confAt EE fn_clock_Fraction 2 (mkT 30 []) [])
noncomputable def clock_Fraction_c3 (x0 : Int) : Option PV :=
  runW EE tis_clock_Fraction (confAt EE fn_clock_Fraction 3 (mkT 30 [(0, (.int Go.IntKind.i64 x0))]) [])
noncomputable def clock_Fraction_c6 (x0 : List UInt8) (x1 : Int) (x2 : List UInt8) (x3 : Nat) : Option PV :=
  runW EE tis_clock_Fraction (confAt EE fn_clock_Fraction 6 (mkT 30 [(3, (.str x0)), (4, (.int Go.IntKind.i64 x1)), (17, (.ptr 0 0))]) [(.iter x2 x3)])

noncomputable abbrev tis_computusref01_Small : List TI := funTI EE fn_computusref01_Small
noncomputable def computusref01_Small (a0_0 : Bool) (a0_1 : List PV) : Option PV := callF EE fn_computusref01_Small [(.agg [(.bool a0_0), (.sl 1 a0_1)])]
noncomputable def computusref01_Small_c2 (x0 : Int) (x1 : Bool) (x2 : List PV) : Option PV :=
  runW EE tis_computusref01_Small (confAt EE fn_computusref01_Small 2 (mkT 43 [(1, (.ptr 0 0)), (4, (.int Go.IntKind.i64 x0))]) [(.cells ty_computusref01_Wide [(.bool x1), (.sl 1 x2)] Bool.false)])
noncomputable def computusref01_Small_c8 (x0 : Int) : Option PV :=
  runW EE tis_computusref01_Small (confAt EE fn_computusref01_Small 8 (mkT 43 [(5, (.int Go.IntKind.u64 x0))]) [])
noncomputable def computusref01_Small_c9 (x0 : Int) (x1 : Bool) (x2 : List PV) : Option PV :=
  runW EE tis_computusref01_Small (confAt EE fn_computusref01_Small 9 (mkT 43 [(1, (.ptr 0 0)), (5, (.int Go.IntKind.u64 x0))]) [(.cells ty_computusref01_Wide [(.bool x1), (.sl 1 x2)] Bool.false)])

noncomputable abbrev tis_computusref01_Over : List TI := funTI EE fn_computusref01_Over
noncomputable def computusref01_Over (a0_0 : Bool) (a0_1 : List PV) (a1_0 : Bool) (a1_1 : List PV) : Option PV := callF EE fn_computusref01_Over [(.agg [(.bool a0_0), (.sl 1 a0_1)]), (.agg [(.bool a1_0), (.sl 1 a1_1)])]
noncomputable def computusref01_Over_c3 (x0 : List PV) (x1 : Bool) (x2 : List PV) (x3 : Bool) (x4 : List PV) (x5 : Bool) : Option PV :=
  runW EE tis_computusref01_Over (confAt EE fn_computusref01_Over 3 (mkT 41 [(2, (.ptr 0 0)), (3, (.ptr 1 0)), (4, (.ptr 2 0)), (5, (.sl 1 x0))]) [(.cells ty_computusref01_Wide [(.bool x1), (.sl 1 x2)] Bool.false), (.cells ty_computusref01_Wide [(.bool x3), (.sl 1 x4)] Bool.false), (.cells ty_computusref01_Wide [(.bool x5), .sl0] Bool.false)])

noncomputable abbrev tis_computusref01_Of : List TI := funTI EE fn_computusref01_Of
noncomputable def computusref01_Of (a0 : Int) : Option PV := callF EE fn_computusref01_Of [(.int Go.IntKind.i64 a0)]
noncomputable def computusref01_Of_c4 (x0 : Int) (x1 : Int) (x2 : Bool) : Option PV :=
  runW EE tis_computusref01_Of (confAt EE fn_computusref01_Of 4 (mkT 24 [(0, (.int Go.IntKind.i64 x0)), (2, (.ptr 0 0)), (3, (.int Go.IntKind.u64 x1))]) [(.cells ty_computusref01_Wide [(.bool x2), .sl0] Bool.false)])

noncomputable abbrev tis_computusref01_Plus : List TI := funTI EE fn_computusref01_Plus
noncomputable def computusref01_Plus (a0_0 : Bool) (a0_1 : List PV) (a1_0 : Bool) (a1_1 : List PV) : Option PV := callF EE fn_computusref01_Plus [(.agg [(.bool a0_0), (.sl 1 a0_1)]), (.agg [(.bool a1_0), (.sl 1 a1_1)])]

noncomputable abbrev tis_computusref01_Minus : List TI := funTI EE fn_computusref01_Minus
noncomputable def computusref01_Minus (a0_0 : Bool) (a0_1 : List PV) : Option PV := callF EE fn_computusref01_Minus [(.agg [(.bool a0_0), (.sl 1 a0_1)])]

noncomputable abbrev tis_computusref01_Times : List TI := funTI EE fn_computusref01_Times
noncomputable def computusref01_Times (a0_0 : Bool) (a0_1 : List PV) (a1_0 : Bool) (a1_1 : List PV) : Option PV := callF EE fn_computusref01_Times [(.agg [(.bool a0_0), (.sl 1 a0_1)]), (.agg [(.bool a1_0), (.sl 1 a1_1)])]
noncomputable def computusref01_Times_c3 (x0 : Int) (x1 : Bool) (x2 : List PV) (x3 : Bool) (x4 : List PV) (x5 : Bool) (x6 : List PV) (x7 : Nat) : Option PV :=
  runW EE tis_computusref01_Times (confAt EE fn_computusref01_Times 3 (mkT 57 [(2, (.ptr 0 0)), (3, (.ptr 1 0)), (4, (.ptr 2 0)), (5, (.lall 3)), (6, (.int Go.IntKind.i64 x0))]) [(.cells ty_computusref01_Wide [(.bool x1), (.sl 1 x2)] Bool.false), (.cells ty_computusref01_Wide [(.bool x3), (.sl 1 x4)] Bool.false), (.cells ty_computusref01_Wide [(.bool x5), .sl0] Bool.false), (.row ty_uint64 1 x6 0 (some x7))])
noncomputable def computusref01_Times_c8 (x0 : Int) (x1 : Int) (x2 : Int) (x3 : Bool) (x4 : List PV) (x5 : Bool) (x6 : List PV) (x7 : Bool) (x8 : List PV) (x9 : Nat) (x10 : List PV) (x11 : Nat) : Option PV :=
  runW EE tis_computusref01_Times (confAt EE fn_computusref01_Times 8 (mkT 57 [(2, (.ptr 0 0)), (3, (.ptr 1 0)), (4, (.ptr 2 0)), (5, (.lall 3)), (6, (.int Go.IntKind.i64 x0)), (7, (.lall 4)), (8, (.int Go.IntKind.u64 x1)), (9, (.int Go.IntKind.i64 x2))]) [(.cells ty_computusref01_Wide [(.bool x3), (.sl 1 x4)] Bool.false), (.cells ty_computusref01_Wide [(.bool x5), (.sl 1 x6)] Bool.false), (.cells ty_computusref01_Wide [(.bool x7), .sl0] Bool.false), (.row ty_uint64 1 x8 0 (some x9)), (.row ty_uint64 1 x10 0 (some x11))])
noncomputable def computusref01_Times_c3_1 (x0 : List PV) (x1 : Int) (x2 : Bool) (x3 : List PV) (x4 : Bool) (x5 : List PV) (x6 : Bool) : Option PV :=
  runW EE tis_computusref01_Times (confAt EE fn_computusref01_Times 3 (mkT 57 [(2, (.ptr 0 0)), (3, (.ptr 1 0)), (4, (.ptr 2 0)), (5, (.sl 1 x0)), (6, (.int Go.IntKind.i64 x1))]) [(.cells ty_computusref01_Wide [(.bool x2), (.sl 1 x3)] Bool.false), (.cells ty_computusref01_Wide [(.bool x4), (.sl 1 x5)] Bool.false), (.cells ty_computusref01_Wide [(.bool x6), .sl0] Bool.false)])
noncomputable def computusref01_Times_c8_1 (x0 : List PV) (x1 : Int) (x2 : Int) (x3 : Int) (x4 : Bool) (x5 : List PV) (x6 : Bool) (x7 : List PV) (x8 : Bool) (x9 : List PV) (x10 : Nat) : Option PV :=
  runW EE tis_computusref01_Times (confAt EE fn_computusref01_Times 8 (mkT 57 [(2, (.ptr 0 0)), (3, (.ptr 1 0)), (4, (.ptr 2 0)), (5, (.sl 1 x0)), (6, (.int Go.IntKind.i64 x1)), (7, (.lall 3)), (8, (.int Go.IntKind.u64 x2)), (9, (.int Go.IntKind.i64 x3))]) [(.cells ty_computusref01_Wide [(.bool x4), (.sl 1 x5)] Bool.false), (.cells ty_computusref01_Wide [(.bool x6), (.sl 1 x7)] Bool.false), (.cells ty_computusref01_Wide [(.bool x8), .sl0] Bool.false), (.row ty_uint64 1 x9 0 (some x10))])

noncomputable abbrev tis_stringslite_Cut : List TI := funTI EE fn_stringslite_Cut
noncomputable def stringslite_Cut (a0 : List UInt8) (a1 : List UInt8) : Option PV := callF EE fn_stringslite_Cut [(.str a0), (.str a1)]

noncomputable abbrev tis_show_number : List TI := funTI EE fn_show_number
noncomputable def show_number (a0 : Int) : Option PV := callF EE fn_show_number [(.int Go.IntKind.i64 a0)]

noncomputable abbrev tis_strings_TrimPrefix : List TI := funTI EE fn_strings_TrimPrefix
noncomputable def strings_TrimPrefix (a0 : List UInt8) (a1 : List UInt8) : Option PV := callF EE fn_strings_TrimPrefix [(.str a0), (.str a1)]

noncomputable abbrev tis_computusref02_day : List TI := funTI EE fn_computusref02_day
noncomputable def computusref02_day (a0 : Int) (a1 : Int) (a2 : Int) : Option PV := callF EE fn_computusref02_day [(.int Go.IntKind.i64 a0), (.int Go.IntKind.i64 a1), (.int Go.IntKind.i64 a2)]
noncomputable def computusref02_day_c3 (x0 : Int) (x1 : Int) (x2 : Int) (x3 : Int) : Option PV :=
  runW EE tis_computusref02_day (confAt EE fn_computusref02_day 3 (mkT 25 [(0, (.int Go.IntKind.i64 x0)), (1, (.int Go.IntKind.i64 x1)), (7, (.int Go.IntKind.i64 x2)), (8, (.int Go.IntKind.i64 x3))]) [])

noncomputable abbrev tis_civil_day : List TI := funTI EE fn_civil_day
noncomputable def civil_day (a0 : Int) (a1 : Int) (a2 : Int) : Option PV := callF EE fn_civil_day [(.int Go.IntKind.i64 a0), (.int Go.IntKind.i64 a1), (.int Go.IntKind.i64 a2)]
noncomputable def civil_day_c3 (x0 : Int) (x1 : Int) (x2 : Int) : Option PV :=
  runW EE tis_civil_day (confAt EE fn_civil_day 3 (mkT 41 [(0, (.int Go.IntKind.i64 x0)), (1, (.int Go.IntKind.i64 x1)), (2, (.int Go.IntKind.i64 x2))]) [])

noncomputable abbrev tis_civil_floor : List TI := funTI EE fn_civil_floor
noncomputable def civil_floor (a0 : Int) (a1 : Int) : Option PV := callF EE fn_civil_floor [(.int Go.IntKind.i64 a0), (.int Go.IntKind.i64 a1)]

noncomputable abbrev tis_computusref02_Last : List TI := funTI EE fn_computusref02_Last
noncomputable def computusref02_Last  : Option PV := callF EE fn_computusref02_Last []

noncomputable abbrev tis_num_product : List TI := funTI EE fn_num_product
noncomputable def num_product (a0 : Int) (a1 : Int) : Option PV := callF EE fn_num_product [(.int Go.IntKind.i64 a0), (.int Go.IntKind.i64 a1)]

noncomputable abbrev tis_num_size : List TI := funTI EE fn_num_size
noncomputable def num_size (a0 : Int) : Option PV := callF EE fn_num_size [(.int Go.IntKind.i64 a0)]

noncomputable abbrev tis_bits_Div64 : List TI := funTI EE fn_bits_Div64
noncomputable def bits_Div64 (a0 : Int) (a1 : Int) (a2 : Int) : Option PV := callF EE fn_bits_Div64 [(.int Go.IntKind.u64 a0), (.int Go.IntKind.u64 a1), (.int Go.IntKind.u64 a2)]
noncomputable def bits_Div64_c3 (x0 : Int) (x1 : Int) (x2 : Int) : Option PV :=
  runW EE tis_bits_Div64 (confAt EE fn_bits_Div64 3 (mkT 135 [(0, (.int Go.IntKind.u64 x0)), (1, (.int Go.IntKind.u64 x1)), (2, (.int Go.IntKind.u64 x2))]) [])
noncomputable def bits_Div64_c5 (x0 : Int) (x1 : Int) (x2 : Int) : Option PV :=
  runW EE tis_bits_Div64 (confAt EE fn_bits_Div64 5 (mkT 135 [(0, (.int Go.IntKind.u64 x0)), (1, (.int Go.IntKind.u64 x1)), (2, (.int Go.IntKind.u64 x2))]) [])
noncomputable def bits_Div64_c17 (x0 : Int) (x1 : Int) (x2 : Int) (x3 : Int) (x4 : Int) (x5 : Int) (x6 : Int) (x7 : Int) (x8 : Int) : Option PV :=
  runW EE tis_bits_Div64 (confAt EE fn_bits_Div64 17 (mkT 135 [(2, (.int Go.IntKind.u64 x0)), (8, (.int Go.IntKind.u64 x1)), (9, (.int Go.IntKind.u64 x2)), (10, (.int Go.IntKind.u64 x3)), (11, (.int Go.IntKind.u64 x4)), (13, (.int Go.IntKind.u64 x5)), (14, (.int Go.IntKind.u64 x6)), (15, (.int Go.IntKind.u64 x7)), (16, (.int Go.IntKind.u64 x8))]) [])
noncomputable def bits_Div64_c18 (x0 : Int) (x1 : Int) (x2 : Int) (x3 : Int) (x4 : Int) (x5 : Int) (x6 : Int) (x7 : Int) (x8 : Int) : Option PV :=
  runW EE tis_bits_Div64 (confAt EE fn_bits_Div64 18 (mkT 135 [(2, (.int Go.IntKind.u64 x0)), (8, (.int Go.IntKind.u64 x1)), (9, (.int Go.IntKind.u64 x2)), (10, (.int Go.IntKind.u64 x3)), (11, (.int Go.IntKind.u64 x4)), (13, (.int Go.IntKind.u64 x5)), (14, (.int Go.IntKind.u64 x6)), (15, (.int Go.IntKind.u64 x7)), (16, (.int Go.IntKind.u64 x8))]) [])
noncomputable def bits_Div64_c21 (x0 : Int) (x1 : Int) (x2 : Int) (x3 : Int) (x4 : Int) (x5 : Int) (x6 : Int) (x7 : Int) : Option PV :=
  runW EE tis_bits_Div64 (confAt EE fn_bits_Div64 21 (mkT 135 [(2, (.int Go.IntKind.u64 x0)), (8, (.int Go.IntKind.u64 x1)), (9, (.int Go.IntKind.u64 x2)), (10, (.int Go.IntKind.u64 x3)), (11, (.int Go.IntKind.u64 x4)), (13, (.int Go.IntKind.u64 x5)), (14, (.int Go.IntKind.u64 x6)), (15, (.int Go.IntKind.u64 x7))]) [])
noncomputable def bits_Div64_c24 (x0 : Int) (x1 : Int) (x2 : Int) (x3 : Int) (x4 : Int) (x5 : Int) (x6 : Int) (x7 : Int) (x8 : Int) : Option PV :=
  runW EE tis_bits_Div64 (confAt EE fn_bits_Div64 24 (mkT 135 [(2, (.int Go.IntKind.u64 x0)), (8, (.int Go.IntKind.u64 x1)), (9, (.int Go.IntKind.u64 x2)), (10, (.int Go.IntKind.u64 x3)), (14, (.int Go.IntKind.u64 x4)), (15, (.int Go.IntKind.u64 x5)), (16, (.int Go.IntKind.u64 x6)), (17, (.int Go.IntKind.u64 x7)), (18, (.int Go.IntKind.u64 x8))]) [])
noncomputable def bits_Div64_c25 (x0 : Int) (x1 : Int) (x2 : Int) (x3 : Int) (x4 : Int) (x5 : Int) (x6 : Int) (x7 : Int) (x8 : Int) : Option PV :=
  runW EE tis_bits_Div64 (confAt EE fn_bits_Div64 25 (mkT 135 [(2, (.int Go.IntKind.u64 x0)), (8, (.int Go.IntKind.u64 x1)), (9, (.int Go.IntKind.u64 x2)), (10, (.int Go.IntKind.u64 x3)), (14, (.int Go.IntKind.u64 x4)), (15, (.int Go.IntKind.u64 x5)), (16, (.int Go.IntKind.u64 x6)), (17, (.int Go.IntKind.u64 x7)), (18, (.int Go.IntKind.u64 x8))]) [])
noncomputable def bits_Div64_c28 (x0 : Int) (x1 : Int) (x2 : Int) (x3 : Int) (x4 : Int) (x5 : Int) : Option PV :=
  runW EE tis_bits_Div64 (confAt EE fn_bits_Div64 28 (mkT 135 [(2, (.int Go.IntKind.u64 x0)), (8, (.int Go.IntKind.u64 x1)), (14, (.int Go.IntKind.u64 x2)), (15, (.int Go.IntKind.u64 x3)), (17, (.int Go.IntKind.u64 x4)), (18, (.int Go.IntKind.u64 x5))]) [])

noncomputable abbrev tis_num_signed : List TI := funTI EE fn_num_signed
noncomputable def num_signed (a0 : Bool) (a1_0 : Int) (a1_1 : Int) : Option PV := callF EE fn_num_signed [(.bool a0), (.agg [(.int Go.IntKind.u64 a1_0), (.int Go.IntKind.u64 a1_1)])]
noncomputable def num_signed_c5 (x0 : Bool) (x1 : List PV) (x2 : Nat) : Option PV :=
  runW EE tis_num_signed (confAt EE fn_num_signed 5 (mkT 31 [(0, (.bool x0)), (3, (.ptr 0 0))]) [(.row ty_A2_uint64 1 x1 0 (some x2))])

noncomputable abbrev tis_computusref01_divide : List TI := funTI EE fn_computusref01_divide
noncomputable def computusref01_divide (a0 : List PV) (a1 : List PV) : Option PV := callF EE fn_computusref01_divide [(.sl 1 a0), (.sl 1 a1)]
noncomputable def computusref01_divide_c4 (x0 : List PV) (x1 : List PV) (x2 : Int) (x3 : List PV) (x4 : Nat) (x5 : List PV) (x6 : Nat) : Option PV :=
  runW EE tis_computusref01_divide (confAt EE fn_computusref01_divide 4 (mkT 57 [(0, (.sl 1 x0)), (1, (.sl 1 x1)), (6, (.lall 0)), (7, (.lall 1)), (8, (.int Go.IntKind.i64 x2))]) [(.row ty_uint64 1 x3 0 (some x4)), (.row ty_uint64 1 x5 0 (some x6))])
noncomputable def computusref01_divide_c7 (x0 : List PV) (x1 : List PV) (x2 : Int) (x3 : List PV) (x4 : Nat) (x5 : List PV) (x6 : Nat) : Option PV :=
  runW EE tis_computusref01_divide (confAt EE fn_computusref01_divide 7 (mkT 57 [(0, (.sl 1 x0)), (1, (.sl 1 x1)), (6, (.lall 0)), (7, (.lall 1)), (8, (.int Go.IntKind.i64 x2))]) [(.row ty_uint64 1 x3 0 (some x4)), (.row ty_uint64 1 x5 0 (some x6))])
noncomputable def computusref01_divide_c4_1 (x0 : List PV) (x1 : List PV) (x2 : List PV) (x3 : Int) (x4 : List PV) (x5 : Nat) : Option PV :=
  runW EE tis_computusref01_divide (confAt EE fn_computusref01_divide 4 (mkT 57 [(0, (.sl 1 x0)), (1, (.sl 1 x1)), (6, (.lall 0)), (7, (.sl 1 x2)), (8, (.int Go.IntKind.i64 x3))]) [(.row ty_uint64 1 x4 0 (some x5))])

noncomputable abbrev tis_computusref01_zero : List TI := funTI EE fn_computusref01_zero
noncomputable def computusref01_zero (a0 : List PV) : Option PV := callF EE fn_computusref01_zero [(.sl 1 a0)]

noncomputable abbrev tis_computusref01_add : List TI := funTI EE fn_computusref01_add
noncomputable def computusref01_add (a0 : List PV) (a1 : List PV) : Option PV := callF EE fn_computusref01_add [(.sl 1 a0), (.sl 1 a1)]
noncomputable def computusref01_add_c4 (x0 : List PV) (x1 : List PV) (x2 : Int) (x3 : Int) (x4 : List PV) (x5 : Nat) : Option PV :=
  runW EE tis_computusref01_add (confAt EE fn_computusref01_add 4 (mkT 32 [(0, (.sl 1 x0)), (1, (.sl 1 x1)), (5, (.lall 0)), (6, (.int Go.IntKind.u64 x2)), (7, (.int Go.IntKind.i64 x3))]) [(.row ty_uint64 1 x4 0 (some x5))])

noncomputable abbrev tis_computusref01_cmp : List TI := funTI EE fn_computusref01_cmp
noncomputable def computusref01_cmp (a0 : List PV) (a1 : List PV) : Option PV := callF EE fn_computusref01_cmp [(.sl 1 a0), (.sl 1 a1)]
noncomputable def computusref01_cmp_c2 (x0 : List PV) (x1 : List PV) (x2 : Int) : Option PV :=
  runW EE tis_computusref01_cmp (confAt EE fn_computusref01_cmp 2 (mkT 28 [(0, (.sl 1 x0)), (1, (.sl 1 x1)), (5, (.int Go.IntKind.i64 x2))]) [])

noncomputable abbrev tis_computusref01_less : List TI := funTI EE fn_computusref01_less
noncomputable def computusref01_less (a0 : List PV) (a1 : List PV) : Option PV := callF EE fn_computusref01_less [(.sl 1 a0), (.sl 1 a1)]
noncomputable def computusref01_less_c4 (x0 : List PV) (x1 : List PV) (x2 : Int) (x3 : Int) (x4 : List PV) (x5 : Nat) : Option PV :=
  runW EE tis_computusref01_less (confAt EE fn_computusref01_less 4 (mkT 35 [(0, (.sl 1 x0)), (1, (.sl 1 x1)), (5, (.lall 0)), (6, (.int Go.IntKind.u64 x2)), (7, (.int Go.IntKind.i64 x3))]) [(.row ty_uint64 1 x4 0 (some x5))])

noncomputable abbrev tis_stringslite_Index : List TI := funTI EE fn_stringslite_Index
noncomputable def stringslite_Index (a0 : List UInt8) (a1 : List UInt8) : Option PV := callF EE fn_stringslite_Index [(.str a0), (.str a1)]
noncomputable def stringslite_Index_c3  : Option PV :=
  runW EE tis_stringslite_Index (confAt EE fn_stringslite_Index 3 (mkT 143 []) [])
noncomputable def stringslite_Index_c4 (x0 : List UInt8) (x1 : List UInt8) (x2 : Int) : Option PV :=
  runW EE tis_stringslite_Index (confAt EE fn_stringslite_Index 4 (mkT 143 [(0, (.str x0)), (1, (.str x1)), (5, (.int Go.IntKind.i64 x2))]) [])

noncomputable abbrev tis_stringslite_TrimPrefix : List TI := funTI EE fn_stringslite_TrimPrefix
noncomputable def stringslite_TrimPrefix (a0 : List UInt8) (a1 : List UInt8) : Option PV := callF EE fn_stringslite_TrimPrefix [(.str a0), (.str a1)]

noncomputable abbrev tis_computusref02_start : List TI := funTI EE fn_computusref02_start
noncomputable def computusref02_start (a0 : Int) : Option PV := callF EE fn_computusref02_start [(.int Go.IntKind.i64 a0)]
noncomputable def computusref02_start_c3 (x0 : Int) (x1 : Int) (x2 : Int) : Option PV :=
  runW EE tis_computusref02_start (confAt EE fn_computusref02_start 3 (mkT 24 [(0, (.int Go.IntKind.i64 x0)), (3, (.int Go.IntKind.i64 x1)), (4, (.int Go.IntKind.i64 x2))]) [])

noncomputable abbrev tis_bits_LeadingZeros64 : List TI := funTI EE fn_bits_LeadingZeros64
noncomputable def bits_LeadingZeros64 (a0 : Int) : Option PV := callF EE fn_bits_LeadingZeros64 [(.int Go.IntKind.u64 a0)]

noncomputable abbrev tis_stringslite_IndexByte : List TI := funTI EE fn_stringslite_IndexByte
noncomputable def stringslite_IndexByte (a0 : List UInt8) (a1 : Int) : Option PV := callF EE fn_stringslite_IndexByte [(.str a0), (.int Go.IntKind.u8 a1)]

noncomputable abbrev tis_civil_Days : List TI := funTI EE fn_civil_Days
noncomputable def civil_Days (a0 : Int) (a1 : Int) (a2 : Int) : Option PV := callF EE fn_civil_Days [(.int Go.IntKind.i64 a0), (.int Go.IntKind.i64 a1), (.int Go.IntKind.i64 a2)]

noncomputable abbrev tis_civil_Len : List TI := funTI EE fn_civil_Len
noncomputable def civil_Len (a0 : Int) (a1 : Int) : Option PV := callF EE fn_civil_Len [(.int Go.IntKind.i64 a0), (.int Go.IntKind.i64 a1)]
noncomputable def civil_Len_c3  : Option PV :=
  runW EE tis_civil_Len (confAt EE fn_civil_Len 3 (mkT 22 []) [])
noncomputable def civil_Len_c4 (x0 : Int) (x1 : Int) (x2 : List PV) (x3 : Nat) : Option PV :=
  runW EE tis_civil_Len (confAt EE fn_civil_Len 4 (mkT 22 [(0, (.int Go.IntKind.i64 x0)), (1, (.int Go.IntKind.i64 x1)), (5, (.ptr 0 0))]) [(.row ty_A13_int64 1 x2 0 (some x3))])

noncomputable abbrev tis_bits_Len64 : List TI := funTI EE fn_bits_Len64
noncomputable def bits_Len64 (a0 : Int) : Option PV := callF EE fn_bits_Len64 [(.int Go.IntKind.u64 a0)]
noncomputable def bits_Len64_c4 (x0 : Int) (x1 : Int) : Option PV :=
  runW EE tis_bits_Len64 (confAt EE fn_bits_Len64 4 (mkT 25 [(0, (.int Go.IntKind.u64 x0)), (2, (.int Go.IntKind.i64 x1))]) [])
noncomputable def bits_Len64_c7 (x0 : Int) (x1 : Int) : Option PV :=
  runW EE tis_bits_Len64 (confAt EE fn_bits_Len64 7 (mkT 25 [(0, (.int Go.IntKind.u64 x0)), (2, (.int Go.IntKind.i64 x1))]) [])

noncomputable abbrev tis_computusref02_Days : List TI := funTI EE fn_computusref02_Days
noncomputable def computusref02_Days (a0 : Int) (a1 : Int) (a2 : Int) : Option PV := callF EE fn_computusref02_Days [(.int Go.IntKind.i64 a0), (.int Go.IntKind.i64 a1), (.int Go.IntKind.i64 a2)]

noncomputable abbrev tis_computusref02_Weekday : List TI := funTI EE fn_computusref02_Weekday
noncomputable def computusref02_Weekday (a0 : Int) : Option PV := callF EE fn_computusref02_Weekday [(.int Go.IntKind.i64 a0)]

noncomputable abbrev tis_civil_Right : List TI := funTI EE fn_civil_Right
noncomputable def civil_Right (a0 : Int) (a1 : Int) (a2 : Int) : Option PV := callF EE fn_civil_Right [(.int Go.IntKind.i64 a0), (.int Go.IntKind.i64 a1), (.int Go.IntKind.i64 a2)]

noncomputable abbrev tis_civil_Weekday : List TI := funTI EE fn_civil_Weekday
noncomputable def civil_Weekday (a0 : Int) : Option PV := callF EE fn_civil_Weekday [(.int Go.IntKind.i64 a0)]

noncomputable abbrev tis_civil_Leap : List TI := funTI EE fn_civil_Leap
noncomputable def civil_Leap (a0 : Int) : Option PV := callF EE fn_civil_Leap [(.int Go.IntKind.i64 a0)]

noncomputable abbrev tis_computusref02_Right : List TI := funTI EE fn_computusref02_Right
noncomputable def computusref02_Right (a0 : Int) (a1 : Int) (a2 : Int) : Option PV := callF EE fn_computusref02_Right [(.int Go.IntKind.i64 a0), (.int Go.IntKind.i64 a1), (.int Go.IntKind.i64 a2)]

theorem computuslaw19_ShowDates_eq (a0_0 : Int) (a0_1 : Int) (a1_0 : Int) (a1_1 : Int) (a2_0 : Int) (a2_1 : Int) (a2_2 : Int) : computuslaw19_ShowDates a0_0 a0_1 a1_0 a1_1 a2_0 a2_1 a2_2 =
    ((show_Date a0_0 a0_1 a2_0 a2_1 a2_2).bind fun v1 => ((computusref19_Date a0_0 a0_1 a2_0 a2_1 a2_2).bind fun v2 => ((show_Stamp a1_0 a1_1 a2_0 a2_1 a2_2).bind fun v3 => ((computusref19_Stamp a1_0 a1_1 a2_0 a2_1 a2_2).bind fun v4 => (bif (Dv.eqS (Dv.PV.toS (Dv.PV.tnth v1 0)) (Dv.PV.toS (Dv.PV.tnth v2 0))) then (bif (Dv.eqB (Dv.PV.toI (Dv.PV.tnth v1 1)) (Dv.PV.toI (Dv.PV.tnth v2 1))) then (bif (Dv.eqS (Dv.PV.toS (Dv.PV.tnth v3 0)) (Dv.PV.toS (Dv.PV.tnth v4 0))) then (bif (Dv.eqB (Dv.PV.toI (Dv.PV.tnth v3 1)) (Dv.PV.toI (Dv.PV.tnth v4 1))) then ((show_Right a2_0 a2_1 a2_2).bind fun v5 => ((computusref19_Right a2_0 a2_1 a2_2).bind fun v6 => (bif ((Dv.PV.toB v5) == (Dv.PV.toB v6)) then ((computuslaw19_known).bind fun v7 => (some (Dv.PV.bool (Dv.PV.toB v7)))) else (some (Dv.PV.bool Bool.false))))) else (some (Dv.PV.bool Bool.false))) else (some (Dv.PV.bool Bool.false))) else (some (Dv.PV.bool Bool.false))) else (some (Dv.PV.bool Bool.false))))))) :=
  (callF_eq EE fn_computuslaw19_ShowDates _ rfl).trans (by kernel_rfl)

theorem show_Date_eq (a0_0 : Int) (a0_1 : Int) (a1_0 : Int) (a1_1 : Int) (a1_2 : Int) : show_Date a0_0 a0_1 a1_0 a1_1 a1_2 =
    ((day_Right a0_0 a0_1).bind fun v1 => (bif (!(Dv.PV.toB v1)) then show_Date_c2 else ((show_Right a1_0 a1_1 a1_2).bind fun v2 => (bif (!(Dv.PV.toB v2)) then show_Date_c2 else (show_Date_c3 a0_0 a0_1 a1_0 a1_1 a1_2))))) :=
  (callF_eq EE fn_show_Date _ rfl).trans (by kernel_rfl)
theorem show_Date_c2_eq  : show_Date_c2  =
    (some (Dv.PV.tuple [(Dv.PV.str []), (Dv.PV.int Go.IntKind.i64 (1 : Int))])) :=
  (runW_eq EE _ _).trans (by kernel_rfl)
theorem show_Date_c3_eq (x0 : Int) (x1 : Int) (x2 : Int) (x3 : Int) (x4 : Int) : show_Date_c3 x0 x1 x2 x3 x4 =
    (bif (!(Dv.eqB x0 (0 : Int))) then ((show_infinite x0).bind fun v3 => (some (Dv.PV.tuple [(Dv.PV.str (Dv.PV.toS v3)), (Dv.PV.int Go.IntKind.i64 (0 : Int))]))) else ((show_date x0 x1 x2 x3 x4).bind fun v4 => ((show_join [(Dv.PV.str (Dv.PV.toS (Dv.PV.tnth v4 0))), (Dv.PV.str (Dv.PV.toS (Dv.PV.tnth v4 1)))]).bind fun v5 => (some (Dv.PV.tuple [(Dv.PV.str (Dv.PV.toS v5)), (Dv.PV.int Go.IntKind.i64 (0 : Int))]))))) :=
  (runW_eq EE _ _).trans (by kernel_rfl)

theorem computusref19_Date_eq (a0_0 : Int) (a0_1 : Int) (a1_0 : Int) (a1_1 : Int) (a1_2 : Int) : computusref19_Date a0_0 a0_1 a1_0 a1_1 a1_2 =
    ((computusref15_Right a0_0 a0_1).bind fun v1 => (bif (!(Dv.PV.toB v1)) then computusref19_Date_c2 else ((computusref19_Right a1_0 a1_1 a1_2).bind fun v2 => (bif (!(Dv.PV.toB v2)) then computusref19_Date_c2 else (computusref19_Date_c3 a0_0 a0_1 a1_0 a1_1 a1_2))))) :=
  (callF_eq EE fn_computusref19_Date _ rfl).trans (by kernel_rfl)
theorem computusref19_Date_c2_eq  : computusref19_Date_c2  =
    (some (Dv.PV.tuple [(Dv.PV.str []), (Dv.PV.int Go.IntKind.i64 (1 : Int))])) :=
  (runW_eq EE _ _).trans (by kernel_rfl)
theorem computusref19_Date_c3_eq (x0 : Int) (x1 : Int) (x2 : Int) (x3 : Int) (x4 : Int) : computusref19_Date_c3 x0 x1 x2 x3 x4 =
    (bif (!(Dv.eqB x0 (0 : Int))) then ((computusref19_inf x0).bind fun v3 => (some (Dv.PV.tuple [(Dv.PV.str (Dv.PV.toS v3)), (Dv.PV.int Go.IntKind.i64 (0 : Int))]))) else ((computusref19_date x0 x1 x2 x3 x4).bind fun v4 => ((Dv.catS (Dv.PV.toS (Dv.PV.tnth v4 0)) (Dv.PV.toS (Dv.PV.tnth v4 1))).bind fun v5 => (some (Dv.PV.tuple [(Dv.PV.str v5), (Dv.PV.int Go.IntKind.i64 (0 : Int))]))))) :=
  (runW_eq EE _ _).trans (by kernel_rfl)

theorem show_Stamp_eq (a0_0 : Int) (a0_1 : Int) (a1_0 : Int) (a1_1 : Int) (a1_2 : Int) : show_Stamp a0_0 a0_1 a1_0 a1_1 a1_2 =
    ((day_RightStamp a0_0 a0_1).bind fun v1 => (bif (!(Dv.PV.toB v1)) then show_Stamp_c2 else ((show_Right a1_0 a1_1 a1_2).bind fun v2 => (bif (!(Dv.PV.toB v2)) then show_Stamp_c2 else (show_Stamp_c3 a0_0 a0_1 a1_0 a1_1 a1_2))))) :=
  (callF_eq EE fn_show_Stamp _ rfl).trans (by kernel_rfl)
theorem show_Stamp_c2_eq  : show_Stamp_c2  =
    (some (Dv.PV.tuple [(Dv.PV.str []), (Dv.PV.int Go.IntKind.i64 (1 : Int))])) :=
  (runW_eq EE _ _).trans (by kernel_rfl)
theorem show_Stamp_c3_eq (x0 : Int) (x1 : Int) (x2 : Int) (x3 : Int) (x4 : Int) : show_Stamp_c3 x0 x1 x2 x3 x4 =
    (bif (!(Dv.eqB x0 (0 : Int))) then ((show_infinite x0).bind fun v3 => (some (Dv.PV.tuple [(Dv.PV.str (Dv.PV.toS v3)), (Dv.PV.int Go.IntKind.i64 (0 : Int))]))) else ((show_moment x0 x1 x2 x3 x4).bind fun v4 => ((show_join [(Dv.PV.str (Dv.PV.toS (Dv.PV.tnth v4 0))), (Dv.PV.str (Dv.PV.toS (Dv.PV.tnth v4 1)))]).bind fun v5 => (some (Dv.PV.tuple [(Dv.PV.str (Dv.PV.toS v5)), (Dv.PV.int Go.IntKind.i64 (0 : Int))]))))) :=
  (runW_eq EE _ _).trans (by kernel_rfl)

theorem computusref19_Stamp_eq (a0_0 : Int) (a0_1 : Int) (a1_0 : Int) (a1_1 : Int) (a1_2 : Int) : computusref19_Stamp a0_0 a0_1 a1_0 a1_1 a1_2 =
    ((computusref15_RightStamp a0_0 a0_1).bind fun v8 => (bif (!(Dv.PV.toB v8)) then computusref19_Stamp_c2 else ((computusref19_Right a1_0 a1_1 a1_2).bind fun v9 => (bif (!(Dv.PV.toB v9)) then computusref19_Stamp_c2 else (computusref19_Stamp_c3 a0_0 a0_1 a1_0 a1_1 a1_2))))) :=
  (callF_eq EE fn_computusref19_Stamp _ rfl).trans (by kernel_rfl)
theorem computusref19_Stamp_c2_eq  : computusref19_Stamp_c2  =
    (some (Dv.PV.tuple [(Dv.PV.str []), (Dv.PV.int Go.IntKind.i64 (1 : Int))])) :=
  (runW_eq EE _ _).trans (by kernel_rfl)
theorem computusref19_Stamp_c3_eq (x0 : Int) (x1 : Int) (x2 : Int) (x3 : Int) (x4 : Int) : computusref19_Stamp_c3 x0 x1 x2 x3 x4 =
    (bif (!(Dv.eqB x0 (0 : Int))) then ((computusref19_inf x0).bind fun v10 => (some (Dv.PV.tuple [(Dv.PV.str (Dv.PV.toS v10)), (Dv.PV.int Go.IntKind.i64 (0 : Int))]))) else ((computusref19_moment x0 x1 x2 x3 x4).bind fun v11 => ((Dv.catS (Dv.PV.toS (Dv.PV.tnth v11 0)) (Dv.PV.toS (Dv.PV.tnth v11 1))).bind fun v12 => (some (Dv.PV.tuple [(Dv.PV.str v12), (Dv.PV.int Go.IntKind.i64 (0 : Int))]))))) :=
  (runW_eq EE _ _).trans (by kernel_rfl)

theorem show_Right_eq (a0_0 : Int) (a0_1 : Int) (a0_2 : Int) : show_Right a0_0 a0_1 a0_2 =
    (bif (Dv.leB (0 : Int) a0_0) then (bif (Dv.leB a0_0 (1 : Int)) then (bif (Dv.leB (0 : Int) a0_1) then (bif (Dv.leB a0_1 (2 : Int)) then (bif (Dv.leB (0 : Int) a0_2) then (some (Dv.PV.bool (Dv.leB a0_2 (2 : Int)))) else (some (Dv.PV.bool Bool.false))) else (some (Dv.PV.bool Bool.false))) else (some (Dv.PV.bool Bool.false))) else (some (Dv.PV.bool Bool.false))) else (some (Dv.PV.bool Bool.false))) :=
  (callF_eq EE fn_show_Right _ rfl).trans (by kernel_rfl)

theorem computusref19_Right_eq (a0_0 : Int) (a0_1 : Int) (a0_2 : Int) : computusref19_Right a0_0 a0_1 a0_2 =
    (bif (Dv.leB (0 : Int) a0_0) then (bif (Dv.leB a0_0 (1 : Int)) then (bif (Dv.leB (0 : Int) a0_1) then (bif (Dv.leB a0_1 (2 : Int)) then (bif (Dv.leB (0 : Int) a0_2) then (some (Dv.PV.bool (Dv.leB a0_2 (2 : Int)))) else (some (Dv.PV.bool Bool.false))) else (some (Dv.PV.bool Bool.false))) else (some (Dv.PV.bool Bool.false))) else (some (Dv.PV.bool Bool.false))) else (some (Dv.PV.bool Bool.false))) :=
  (callF_eq EE fn_computusref19_Right _ rfl).trans (by kernel_rfl)

theorem computuslaw19_known_eq  : computuslaw19_known  =
    ((show_Span (0 : Int) (14 : Int) (3 : Int) (-14706500000 : Int) (0 : Int) (0 : Int) (0 : Int)).bind fun v6 => ((show_Span (0 : Int) (14 : Int) (3 : Int) (-14706500000 : Int) (0 : Int) (0 : Int) (1 : Int)).bind fun v7 => ((show_Span (0 : Int) (14 : Int) (3 : Int) (-14706500000 : Int) (0 : Int) (0 : Int) (2 : Int)).bind fun v8 => ((show_Span (0 : Int) (-1 : Int) (1 : Int) (0 : Int) (0 : Int) (0 : Int) (0 : Int)).bind fun v9 => ((show_Date (0 : Int) (8826 : Int) (1 : Int) (1 : Int) (0 : Int)).bind fun v10 => (bif (Dv.eqS (Dv.PV.toS (Dv.PV.tnth v6 0)) [(49 : UInt8), (32 : UInt8), (121 : UInt8), (101 : UInt8), (97 : UInt8), (114 : UInt8), (32 : UInt8), (50 : UInt8), (32 : UInt8), (109 : UInt8), (111 : UInt8), (110 : UInt8), (115 : UInt8), (32 : UInt8), (51 : UInt8), (32 : UInt8), (100 : UInt8), (97 : UInt8), (121 : UInt8), (115 : UInt8), (32 : UInt8), (45 : UInt8), (48 : UInt8), (52 : UInt8), (58 : UInt8), (48 : UInt8), (53 : UInt8), (58 : UInt8), (48 : UInt8), (54 : UInt8), (46 : UInt8), (53 : UInt8)]) then (bif (Dv.eqB (Dv.PV.toI (Dv.PV.tnth v6 1)) (0 : Int)) then (bif (Dv.eqS (Dv.PV.toS (Dv.PV.tnth v7 0)) [(43 : UInt8), (49 : UInt8), (45 : UInt8), (50 : UInt8), (32 : UInt8), (43 : UInt8), (51 : UInt8), (32 : UInt8), (45 : UInt8), (52 : UInt8), (58 : UInt8), (48 : UInt8), (53 : UInt8), (58 : UInt8), (48 : UInt8), (54 : UInt8), (46 : UInt8), (53 : UInt8)]) then (bif (Dv.eqB (Dv.PV.toI (Dv.PV.tnth v7 1)) (0 : Int)) then (bif (Dv.eqS (Dv.PV.toS (Dv.PV.tnth v8 0)) [(80 : UInt8), (49 : UInt8), (89 : UInt8), (50 : UInt8), (77 : UInt8), (51 : UInt8), (68 : UInt8), (84 : UInt8), (45 : UInt8), (52 : UInt8), (72 : UInt8), (45 : UInt8), (53 : UInt8), (77 : UInt8), (45 : UInt8), (54 : UInt8), (46 : UInt8), (53 : UInt8), (83 : UInt8)]) then (bif (Dv.eqB (Dv.PV.toI (Dv.PV.tnth v8 1)) (0 : Int)) then (bif (Dv.eqS (Dv.PV.toS (Dv.PV.tnth v9 0)) [(45 : UInt8), (49 : UInt8), (32 : UInt8), (109 : UInt8), (111 : UInt8), (110 : UInt8), (115 : UInt8), (32 : UInt8), (43 : UInt8), (49 : UInt8), (32 : UInt8), (100 : UInt8), (97 : UInt8), (121 : UInt8)]) then (bif (Dv.eqB (Dv.PV.toI (Dv.PV.tnth v9 1)) (0 : Int)) then (bif (Dv.eqS (Dv.PV.toS (Dv.PV.tnth v10 0)) [(48 : UInt8), (49 : UInt8), (47 : UInt8), (48 : UInt8), (51 : UInt8), (47 : UInt8), (50 : UInt8), (48 : UInt8), (50 : UInt8), (52 : UInt8)]) then (some (Dv.PV.bool (Dv.eqB (Dv.PV.toI (Dv.PV.tnth v10 1)) (0 : Int)))) else (some (Dv.PV.bool Bool.false))) else (some (Dv.PV.bool Bool.false))) else (some (Dv.PV.bool Bool.false))) else (some (Dv.PV.bool Bool.false))) else (some (Dv.PV.bool Bool.false))) else (some (Dv.PV.bool Bool.false))) else (some (Dv.PV.bool Bool.false))) else (some (Dv.PV.bool Bool.false))) else (some (Dv.PV.bool Bool.false)))))))) :=
  (callF_eq EE fn_computuslaw19_known _ rfl).trans (by kernel_rfl)

theorem day_Right_eq (a0_0 : Int) (a0_1 : Int) : day_Right a0_0 a0_1 =
    (bif ((Dv.eqB a0_0 (-1 : Int)) && ((Dv.eqB a0_1 (0 : Int)) && Bool.true)) then (some (Dv.PV.bool Bool.true)) else (bif ((Dv.eqB a0_0 (1 : Int)) && ((Dv.eqB a0_1 (0 : Int)) && Bool.true)) then (some (Dv.PV.bool Bool.true)) else (bif (Dv.eqB a0_0 (0 : Int)) then ((day_inside a0_1).bind fun v9 => (some (Dv.PV.bool (Dv.PV.toB v9)))) else (some (Dv.PV.bool Bool.false))))) :=
  (callF_eq EE fn_day_Right _ rfl).trans (by kernel_rfl)

theorem show_infinite_eq (a0 : Int) : show_infinite a0 =
    (bif (Dv.ltB a0 (0 : Int)) then (some (Dv.PV.str [(45 : UInt8), (105 : UInt8), (110 : UInt8), (102 : UInt8), (105 : UInt8), (110 : UInt8), (105 : UInt8), (116 : UInt8), (121 : UInt8)])) else (some (Dv.PV.str [(105 : UInt8), (110 : UInt8), (102 : UInt8), (105 : UInt8), (110 : UInt8), (105 : UInt8), (116 : UInt8), (121 : UInt8)]))) :=
  (callF_eq EE fn_show_infinite _ rfl).trans (by kernel_rfl)

theorem show_date_eq (a0_0 : Int) (a0_1 : Int) (a1_0 : Int) (a1_1 : Int) (a1_2 : Int) : show_date a0_0 a0_1 a1_0 a1_1 a1_2 =
    ((day_Parts a0_0 a0_1).bind fun v16 => (bif (Dv.ltB (Dv.PV.toI (Dv.PV.tnth v16 0)) (1 : Int)) then (show_date_c5 (Go.IntKind.wrap Go.IntKind.i64 ((1 : Int) - (Dv.PV.toI (Dv.PV.tnth v16 0)))) (Dv.PV.toI (Dv.PV.tnth v16 1)) (Dv.PV.toI (Dv.PV.tnth v16 2)) [(32 : UInt8), (66 : UInt8), (67 : UInt8)] a1_0 a1_1 a1_2) else (show_date_c5 (Dv.PV.toI (Dv.PV.tnth v16 0)) (Dv.PV.toI (Dv.PV.tnth v16 1)) (Dv.PV.toI (Dv.PV.tnth v16 2)) [] a1_0 a1_1 a1_2))) :=
  (callF_eq EE fn_show_date _ rfl).trans (by kernel_rfl)
theorem show_date_c5_eq (x0 : Int) (x1 : Int) (x2 : Int) (x3 : List UInt8) (x4 : Int) (x5 : Int) (x6 : Int) : show_date_c5 x0 x1 x2 x3 x4 x5 x6 =
    ((show_digits x0).bind fun v17 => ((strings_Repeat [(48 : UInt8)] (Dv.maxI (0 : Int) (Go.IntKind.wrap Go.IntKind.i64 ((4 : Int) - (((List.length (Dv.PV.toS v17)) : Nat) : Int))))).bind fun v18 => ((show_join [(Dv.PV.str (Dv.PV.toS v18)), (Dv.PV.str (Dv.PV.toS v17))]).bind fun v19 => ((clock_Two x1).bind fun v20 => ((clock_Two x2).bind fun v21 => (bif (Dv.eqB x4 (0 : Int)) then ((show_between [(45 : UInt8)] [(Dv.PV.str (Dv.PV.toS v19)), (Dv.PV.str (Dv.PV.toS v20)), (Dv.PV.str (Dv.PV.toS v21))]).bind fun v22 => (some (Dv.PV.tuple [(Dv.PV.str (Dv.PV.toS v22)), (Dv.PV.str x3)]))) else (bif (Dv.eqB x5 (2 : Int)) then ((show_between [(47 : UInt8)] [(Dv.PV.str (Dv.PV.toS v20)), (Dv.PV.str (Dv.PV.toS v21)), (Dv.PV.str (Dv.PV.toS v19))]).bind fun v23 => (some (Dv.PV.tuple [(Dv.PV.str (Dv.PV.toS v23)), (Dv.PV.str x3)]))) else (bif (Dv.eqB x5 (1 : Int)) then ((show_between [(47 : UInt8)] [(Dv.PV.str (Dv.PV.toS v21)), (Dv.PV.str (Dv.PV.toS v20)), (Dv.PV.str (Dv.PV.toS v19))]).bind fun v24 => (some (Dv.PV.tuple [(Dv.PV.str (Dv.PV.toS v24)), (Dv.PV.str x3)]))) else ((show_between [(47 : UInt8)] [(Dv.PV.str (Dv.PV.toS v19)), (Dv.PV.str (Dv.PV.toS v20)), (Dv.PV.str (Dv.PV.toS v21))]).bind fun v25 => (some (Dv.PV.tuple [(Dv.PV.str (Dv.PV.toS v25)), (Dv.PV.str x3)]))))))))))) :=
  (runW_eq EE _ _).trans (by kernel_rfl)

theorem show_join_eq (a0 : List PV) : show_join a0 =
    (show_join_c3 a0 (((List.length a0) : Nat) : Int) (0 : Int) []) :=
  (callF_eq EE fn_show_join _ rfl).trans (by kernel_rfl)
theorem show_join_c3_eq (x0 : List PV) (x1 : Int) (x2 : Int) (x3 : List PV) : show_join_c3 x0 x1 x2 x3 =
    (bif (Dv.ltB x2 x1) then ((Dv.rdI Dv.tiStr x0 x2).bind fun v16 => (bif (decide (((0 : Int) ≤ (((List.length x3) : Nat) : Int)) ∧ (((((List.length x3) : Nat) : Int) ≤ (((List.length x3) : Nat) : Int)) ∧ ((((List.length x3) : Nat) : Int) ≤ (((List.length x3) : Nat) : Int))))) then ((Dv.appL 1 (List.take (Int.toNat (((List.length x3) : Nat) : Int)) x3) (List.map Dv.byteV (Dv.PV.toS v16))).bind fun v17 => (show_join_c3 x0 x1 (Go.IntKind.wrap Go.IntKind.i64 (x2 + (1 : Int))) v17)) else none)) else ((Dv.bytesOf x3).bind fun v18 => (some (Dv.PV.str v18)))) :=
  (runW_eq EE _ _).trans (by kernel_rfl)

theorem computusref15_Right_eq (a0_0 : Int) (a0_1 : Int) : computusref15_Right a0_0 a0_1 =
    (bif (Dv.eqB a0_0 (0 : Int)) then ((computusref15_inside a0_1).bind fun v14 => (some (Dv.PV.bool (Dv.PV.toB v14)))) else (bif (Dv.eqB a0_0 (-1 : Int)) then (some (Dv.PV.bool (Dv.eqB a0_1 (0 : Int)))) else (bif (Dv.eqB a0_0 (1 : Int)) then (some (Dv.PV.bool (Dv.eqB a0_1 (0 : Int)))) else (some (Dv.PV.bool Bool.false))))) :=
  (callF_eq EE fn_computusref15_Right _ rfl).trans (by kernel_rfl)

theorem computusref19_inf_eq (a0 : Int) : computusref19_inf a0 =
    (bif (Dv.ltB a0 (0 : Int)) then (some (Dv.PV.str [(45 : UInt8), (105 : UInt8), (110 : UInt8), (102 : UInt8), (105 : UInt8), (110 : UInt8), (105 : UInt8), (116 : UInt8), (121 : UInt8)])) else (bif (Dv.ltB (0 : Int) a0) then (some (Dv.PV.str [(105 : UInt8), (110 : UInt8), (102 : UInt8), (105 : UInt8), (110 : UInt8), (105 : UInt8), (116 : UInt8), (121 : UInt8)])) else (some (Dv.PV.str [])))) :=
  (callF_eq EE fn_computusref19_inf _ rfl).trans (by kernel_rfl)

theorem computusref19_date_eq (a0_0 : Int) (a0_1 : Int) (a1_0 : Int) (a1_1 : Int) (a1_2 : Int) : computusref19_date a0_0 a0_1 a1_0 a1_1 a1_2 =
    ((computusref15_Parts a0_0 a0_1).bind fun v10 => (bif (Dv.ltB (Dv.PV.toI (Dv.PV.tnth v10 0)) (1 : Int)) then (computusref19_date_c6 (Go.IntKind.wrap Go.IntKind.i64 ((1 : Int) - (Dv.PV.toI (Dv.PV.tnth v10 0)))) (Dv.PV.toI (Dv.PV.tnth v10 1)) (Dv.PV.toI (Dv.PV.tnth v10 2)) [(32 : UInt8), (66 : UInt8), (67 : UInt8)] a1_0 a1_1 a1_2) else (computusref19_date_c6 (Dv.PV.toI (Dv.PV.tnth v10 0)) (Dv.PV.toI (Dv.PV.tnth v10 1)) (Dv.PV.toI (Dv.PV.tnth v10 2)) [] a1_0 a1_1 a1_2))) :=
  (callF_eq EE fn_computusref19_date _ rfl).trans (by kernel_rfl)
theorem computusref19_date_c6_eq (x0 : Int) (x1 : Int) (x2 : Int) (x3 : List UInt8) (x4 : Int) (x5 : Int) (x6 : Int) : computusref19_date_c6 x0 x1 x2 x3 x4 x5 x6 =
    ((computusref03_Digits x0).bind fun v11 => (computusref19_date_c7 x1 x2 x3 (Dv.PV.toS v11) x4 x5 x6)) :=
  (runW_eq EE _ _).trans (by kernel_rfl)
theorem computusref19_date_c7_eq (x0 : Int) (x1 : Int) (x2 : List UInt8) (x3 : List UInt8) (x4 : Int) (x5 : Int) (x6 : Int) : computusref19_date_c7 x0 x1 x2 x3 x4 x5 x6 =
    (bif (Dv.ltB (((List.length x3) : Nat) : Int) (4 : Int)) then ((Dv.catS [(48 : UInt8)] x3).bind fun v12 => (computusref19_date_c7 x0 x1 x2 v12 x4 x5 x6)) else ((computusref03_Two x0).bind fun v13 => ((computusref03_Two x1).bind fun v14 => (bif (Dv.eqB x4 (0 : Int)) then ((Dv.catS x3 [(45 : UInt8)]).bind fun v15 => ((Dv.catS v15 (Dv.PV.toS v13)).bind fun v16 => ((Dv.catS v16 [(45 : UInt8)]).bind fun v17 => ((Dv.catS v17 (Dv.PV.toS v14)).bind fun v18 => (some (Dv.PV.tuple [(Dv.PV.str v18), (Dv.PV.str x2)])))))) else (bif (Dv.eqB x5 (2 : Int)) then ((Dv.catS (Dv.PV.toS v13) [(47 : UInt8)]).bind fun v19 => ((Dv.catS v19 (Dv.PV.toS v14)).bind fun v20 => ((Dv.catS v20 [(47 : UInt8)]).bind fun v21 => ((Dv.catS v21 x3).bind fun v22 => (some (Dv.PV.tuple [(Dv.PV.str v22), (Dv.PV.str x2)])))))) else (bif (Dv.eqB x5 (1 : Int)) then ((Dv.catS (Dv.PV.toS v14) [(47 : UInt8)]).bind fun v23 => ((Dv.catS v23 (Dv.PV.toS v13)).bind fun v24 => ((Dv.catS v24 [(47 : UInt8)]).bind fun v25 => ((Dv.catS v25 x3).bind fun v26 => (some (Dv.PV.tuple [(Dv.PV.str v26), (Dv.PV.str x2)])))))) else ((Dv.catS x3 [(47 : UInt8)]).bind fun v27 => ((Dv.catS v27 (Dv.PV.toS v13)).bind fun v28 => ((Dv.catS v28 [(47 : UInt8)]).bind fun v29 => ((Dv.catS v29 (Dv.PV.toS v14)).bind fun v30 => (some (Dv.PV.tuple [(Dv.PV.str v30), (Dv.PV.str x2)])))))))))))) :=
  (runW_eq EE _ _).trans (by kernel_rfl)

theorem day_RightStamp_eq (a0_0 : Int) (a0_1 : Int) : day_RightStamp a0_0 a0_1 =
    ((num_Split a0_1).bind fun v26 => (bif ((Dv.eqB a0_0 (-1 : Int)) && ((Dv.eqB a0_1 (0 : Int)) && Bool.true)) then (some (Dv.PV.bool Bool.true)) else (bif ((Dv.eqB a0_0 (1 : Int)) && ((Dv.eqB a0_1 (0 : Int)) && Bool.true)) then (some (Dv.PV.bool Bool.true)) else (bif (Dv.eqB a0_0 (0 : Int)) then ((day_inside (Dv.PV.toI (Dv.PV.tnth v26 0))).bind fun v27 => (some (Dv.PV.bool (Dv.PV.toB v27)))) else (some (Dv.PV.bool Bool.false)))))) :=
  (callF_eq EE fn_day_RightStamp _ rfl).trans (by kernel_rfl)

theorem show_moment_eq (a0_0 : Int) (a0_1 : Int) (a1_0 : Int) (a1_1 : Int) (a1_2 : Int) : show_moment a0_0 a0_1 a1_0 a1_1 a1_2 =
    ((day_Of a0_0 a0_1).bind fun v26 => ((show_date (Dv.PV.toI (Dv.PV.nth (Dv.PV.tnth v26 0) 0)) (Dv.PV.toI (Dv.PV.nth (Dv.PV.tnth v26 0) 1)) a1_0 a1_1 a1_2).bind fun v27 => ((clock_Text (Dv.PV.toI (Dv.PV.tnth v26 1))).bind fun v28 => ((show_between [(32 : UInt8)] [(Dv.PV.str (Dv.PV.toS (Dv.PV.tnth v27 0))), (Dv.PV.str (Dv.PV.toS (Dv.PV.tnth v28 0)))]).bind fun v29 => (some (Dv.PV.tuple [(Dv.PV.str (Dv.PV.toS v29)), (Dv.PV.str (Dv.PV.toS (Dv.PV.tnth v27 1)))])))))) :=
  (callF_eq EE fn_show_moment _ rfl).trans (by kernel_rfl)

theorem computusref15_RightStamp_eq (a0_0 : Int) (a0_1 : Int) : computusref15_RightStamp a0_0 a0_1 =
    (bif (Dv.eqB a0_0 (0 : Int)) then ((computusref01_Split a0_1).bind fun v19 => ((computusref15_inside (Dv.PV.toI (Dv.PV.tnth v19 0))).bind fun v20 => (some (Dv.PV.bool (Dv.PV.toB v20))))) else (bif (Dv.eqB a0_0 (-1 : Int)) then (some (Dv.PV.bool (Dv.eqB a0_1 (0 : Int)))) else (bif (Dv.eqB a0_0 (1 : Int)) then (some (Dv.PV.bool (Dv.eqB a0_1 (0 : Int)))) else (some (Dv.PV.bool Bool.false))))) :=
  (callF_eq EE fn_computusref15_RightStamp _ rfl).trans (by kernel_rfl)

theorem computusref19_moment_eq (a0_0 : Int) (a0_1 : Int) (a1_0 : Int) (a1_1 : Int) (a1_2 : Int) : computusref19_moment a0_0 a0_1 a1_0 a1_1 a1_2 =
    ((computusref15_Of a0_0 a0_1).bind fun v15 => ((computusref19_date (Dv.PV.toI (Dv.PV.nth (Dv.PV.tnth v15 0) 0)) (Dv.PV.toI (Dv.PV.nth (Dv.PV.tnth v15 0) 1)) a1_0 a1_1 a1_2).bind fun v16 => ((computusref03_Text (Dv.PV.toI (Dv.PV.tnth v15 1))).bind fun v17 => ((Dv.catS (Dv.PV.toS (Dv.PV.tnth v16 0)) [(32 : UInt8)]).bind fun v18 => ((Dv.catS v18 (Dv.PV.toS (Dv.PV.tnth v17 0))).bind fun v19 => (some (Dv.PV.tuple [(Dv.PV.str v19), (Dv.PV.str (Dv.PV.toS (Dv.PV.tnth v16 1)))]))))))) :=
  (callF_eq EE fn_computusref19_moment _ rfl).trans (by kernel_rfl)

theorem show_Span_eq (a0_0 : Int) (a0_1 : Int) (a0_2 : Int) (a0_3 : Int) (a1_0 : Int) (a1_1 : Int) (a1_2 : Int) : show_Span a0_0 a0_1 a0_2 a0_3 a1_0 a1_1 a1_2 =
    ((span_Right a0_0 a0_1 a0_2 a0_3).bind fun v17 => (bif (!(Dv.PV.toB v17)) then (some (Dv.PV.tuple [(Dv.PV.str []), (Dv.PV.int Go.IntKind.i64 (1 : Int))])) else ((show_Right a1_0 a1_1 a1_2).bind fun v18 => (bif (!(Dv.PV.toB v18)) then (some (Dv.PV.tuple [(Dv.PV.str []), (Dv.PV.int Go.IntKind.i64 (1 : Int))])) else (show_Span_c3 a0_0 a0_1 a0_2 a0_3 a1_0 a1_1 a1_2))))) :=
  (callF_eq EE fn_show_Span _ rfl).trans (by kernel_rfl)
theorem show_Span_c3_eq (x0 : Int) (x1 : Int) (x2 : Int) (x3 : Int) (x4 : Int) (x5 : Int) (x6 : Int) : show_Span_c3 x0 x1 x2 x3 x4 x5 x6 =
    (bif (!(Dv.eqB x0 (0 : Int))) then ((show_infinite x0).bind fun v19 => (some (Dv.PV.tuple [(Dv.PV.str (Dv.PV.toS v19)), (Dv.PV.int Go.IntKind.i64 (0 : Int))]))) else (bif (Dv.eqB x6 (1 : Int)) then ((show_sql x0 x1 x2 x3).bind fun v20 => (some (Dv.PV.tuple [(Dv.PV.str (Dv.PV.toS v20)), (Dv.PV.int Go.IntKind.i64 (0 : Int))]))) else (bif (Dv.eqB x6 (2 : Int)) then ((show_iso x0 x1 x2 x3).bind fun v21 => (some (Dv.PV.tuple [(Dv.PV.str (Dv.PV.toS v21)), (Dv.PV.int Go.IntKind.i64 (0 : Int))]))) else ((show_postgres x0 x1 x2 x3).bind fun v22 => (some (Dv.PV.tuple [(Dv.PV.str (Dv.PV.toS v22)), (Dv.PV.int Go.IntKind.i64 (0 : Int))])))))) :=
  (runW_eq EE _ _).trans (by kernel_rfl)

theorem computusref03_Digits_eq (a0 : Int) : computusref03_Digits a0 =
    (bif (Dv.ltB a0 (0 : Int)) then (computusref03_Digits_c4 a0 (Go.IntKind.wrap Go.IntKind.u64 ((0 : Int) - (Go.IntKind.wrap Go.IntKind.u64 a0)))) else (computusref03_Digits_c4 a0 (Go.IntKind.wrap Go.IntKind.u64 a0))) :=
  (callF_eq EE fn_computusref03_Digits _ rfl).trans (by kernel_rfl)
theorem computusref03_Digits_c4_eq (x0 : Int) (x1 : Int) : computusref03_Digits_c4 x0 x1 =
    (computusref03_Digits_c5 x0 x1 []) :=
  (runW_eq EE _ _).trans (by kernel_rfl)
theorem computusref03_Digits_c5_eq (x0 : Int) (x1 : Int) (x2 : List PV) : computusref03_Digits_c5 x0 x1 x2 =
    (bif (Dv.leB (10 : Int) x1) then ((Dv.appL 1 x2 [(Dv.PV.int Go.IntKind.u8 (Go.IntKind.wrap Go.IntKind.u8 (Go.IntKind.wrap Go.IntKind.u64 ((48 : Int) + (Int.tmod x1 (10 : Int))))))]).bind fun v28 => (computusref03_Digits_c5 x0 (Go.IntKind.wrap Go.IntKind.u64 (Int.tdiv x1 (10 : Int))) v28)) else ((Dv.appL 1 x2 [(Dv.PV.int Go.IntKind.u8 (Go.IntKind.wrap Go.IntKind.u8 (Go.IntKind.wrap Go.IntKind.u64 ((48 : Int) + x1))))]).bind fun v29 => (bif (Dv.ltB x0 (0 : Int)) then ((Dv.appL 1 v29 [(Dv.PV.int Go.IntKind.u8 (45 : Int))]).bind fun v30 => (computusref03_Digits_c11 v30)) else (computusref03_Digits_c11 v29)))) :=
  (runW_eq EE _ _).trans (by kernel_rfl)
theorem computusref03_Digits_c11_eq (x0 : List PV) : computusref03_Digits_c11 x0 =
    (computusref03_Digits_c13 (Go.IntKind.wrap Go.IntKind.i64 ((((List.length x0) : Nat) : Int) - (1 : Int))) x0 []) :=
  (runW_eq EE _ _).trans (by kernel_rfl)
theorem computusref03_Digits_c13_eq (x0 : Int) (x1 : List PV) (x2 : List PV) : computusref03_Digits_c13 x0 x1 x2 =
    (bif (Dv.leB (0 : Int) x0) then (bif (Dv.inB (0 : Int) x0 (((List.length x1) : Nat) : Int)) then ((Dv.rdT (Dv.tiInt Go.IntKind.u8) x1 (Int.toNat x0) 0).bind fun v31 => ((Dv.appL 1 x2 [(Dv.PV.int Go.IntKind.u8 (Dv.PV.toI v31))]).bind fun v32 => (computusref03_Digits_c13 (Go.IntKind.wrap Go.IntKind.i64 (x0 - (1 : Int))) x1 v32))) else none) else ((Dv.bytesOf x2).bind fun v33 => (some (Dv.PV.str v33)))) :=
  (runW_eq EE _ _).trans (by kernel_rfl)

theorem computusref19_Span_eq (a0_0 : Int) (a0_1 : Int) (a0_2 : Int) (a0_3 : Int) (a1_0 : Int) (a1_1 : Int) (a1_2 : Int) : computusref19_Span a0_0 a0_1 a0_2 a0_3 a1_0 a1_1 a1_2 =
    ((computusref16_Right a0_0 a0_1 a0_2 a0_3).bind fun v39 => (bif (!(Dv.PV.toB v39)) then computusref19_Span_c2 else ((computusref19_Right a1_0 a1_1 a1_2).bind fun v40 => (bif (!(Dv.PV.toB v40)) then computusref19_Span_c2 else (computusref19_Span_c3 a0_0 a0_1 a0_2 a0_3 a1_0 a1_1 a1_2))))) :=
  (callF_eq EE fn_computusref19_Span _ rfl).trans (by kernel_rfl)
theorem computusref19_Span_c2_eq  : computusref19_Span_c2  =
    (some (Dv.PV.tuple [(Dv.PV.str []), (Dv.PV.int Go.IntKind.i64 (1 : Int))])) :=
  (runW_eq EE _ _).trans (by kernel_rfl)
theorem computusref19_Span_c3_eq (x0 : Int) (x1 : Int) (x2 : Int) (x3 : Int) (x4 : Int) (x5 : Int) (x6 : Int) : computusref19_Span_c3 x0 x1 x2 x3 x4 x5 x6 =
    (bif (!(Dv.eqB x0 (0 : Int))) then ((computusref19_inf x0).bind fun v41 => (some (Dv.PV.tuple [(Dv.PV.str (Dv.PV.toS v41)), (Dv.PV.int Go.IntKind.i64 (0 : Int))]))) else (bif (Dv.eqB x6 (1 : Int)) then ((computusref19_sql x0 x1 x2 x3).bind fun v42 => (some (Dv.PV.tuple [(Dv.PV.str (Dv.PV.toS v42)), (Dv.PV.int Go.IntKind.i64 (0 : Int))]))) else (bif (Dv.eqB x6 (2 : Int)) then ((computusref19_iso x0 x1 x2 x3).bind fun v43 => (some (Dv.PV.tuple [(Dv.PV.str (Dv.PV.toS v43)), (Dv.PV.int Go.IntKind.i64 (0 : Int))]))) else ((computusref19_postgres x0 x1 x2 x3).bind fun v44 => (some (Dv.PV.tuple [(Dv.PV.str (Dv.PV.toS v44)), (Dv.PV.int Go.IntKind.i64 (0 : Int))])))))) :=
  (runW_eq EE _ _).trans (by kernel_rfl)

theorem span_Right_eq (a0_0 : Int) (a0_1 : Int) (a0_2 : Int) (a0_3 : Int) : span_Right a0_0 a0_1 a0_2 a0_3 =
    (bif (!(Dv.eqB a0_0 (0 : Int))) then (bif ((Dv.eqB a0_0 a0_0) && ((Dv.eqB a0_1 (0 : Int)) && ((Dv.eqB a0_2 (0 : Int)) && ((Dv.eqB a0_3 (0 : Int)) && Bool.true)))) then (bif (Dv.leB (-1 : Int) a0_0) then (some (Dv.PV.bool (Dv.leB a0_0 (1 : Int)))) else (some (Dv.PV.bool Bool.false))) else (some (Dv.PV.bool Bool.false))) else ((num_Neg a0_3).bind fun v49 => ((span_within a0_1).bind fun v50 => (bif (Dv.PV.toB v50) then ((span_within a0_2).bind fun v51 => (bif (Dv.PV.toB v51) then (some (Dv.PV.bool (Dv.eqB (Dv.PV.toI (Dv.PV.tnth v49 1)) (0 : Int)))) else (some (Dv.PV.bool Bool.false)))) else (some (Dv.PV.bool Bool.false)))))) :=
  (callF_eq EE fn_span_Right _ rfl).trans (by kernel_rfl)

theorem computusref16_Right_eq (a0_0 : Int) (a0_1 : Int) (a0_2 : Int) (a0_3 : Int) : computusref16_Right a0_0 a0_1 a0_2 a0_3 =
    (bif (!(Dv.eqB a0_0 (0 : Int))) then (bif (Dv.eqB a0_0 (-1 : Int)) then (bif (Dv.eqB a0_1 (0 : Int)) then (bif (Dv.eqB a0_2 (0 : Int)) then (some (Dv.PV.bool (Dv.eqB a0_3 (0 : Int)))) else (some (Dv.PV.bool Bool.false))) else (some (Dv.PV.bool Bool.false))) else (bif (Dv.eqB a0_0 (1 : Int)) then (bif (Dv.eqB a0_1 (0 : Int)) then (bif (Dv.eqB a0_2 (0 : Int)) then (some (Dv.PV.bool (Dv.eqB a0_3 (0 : Int)))) else (some (Dv.PV.bool Bool.false))) else (some (Dv.PV.bool Bool.false))) else (some (Dv.PV.bool Bool.false)))) else ((computusref16_within a0_1 (2147483647 : Int)).bind fun v21 => (bif (Dv.PV.toB v21) then ((computusref16_within a0_2 (2147483647 : Int)).bind fun v22 => (bif (Dv.PV.toB v22) then ((computusref16_within a0_3 (9223372036854775807 : Int)).bind fun v23 => (some (Dv.PV.bool (Dv.PV.toB v23)))) else (some (Dv.PV.bool Bool.false)))) else (some (Dv.PV.bool Bool.false))))) :=
  (callF_eq EE fn_computusref16_Right _ rfl).trans (by kernel_rfl)

theorem day_inside_eq (a0 : Int) : day_inside a0 =
    ((civil_Date a0).bind fun v30 => (bif (Dv.eqB (Dv.PV.toI (Dv.PV.tnth v30 3)) (0 : Int)) then (bif (Dv.leB (-4712 : Int) (Dv.PV.toI (Dv.PV.tnth v30 0))) then (some (Dv.PV.bool (Dv.leB (Dv.PV.toI (Dv.PV.tnth v30 0)) (294276 : Int)))) else (some (Dv.PV.bool Bool.false))) else (some (Dv.PV.bool Bool.false)))) :=
  (callF_eq EE fn_day_inside _ rfl).trans (by kernel_rfl)

theorem day_Parts_eq (a0_0 : Int) (a0_1 : Int) : day_Parts a0_0 a0_1 =
    ((day_Right a0_0 a0_1).bind fun v34 => (bif (!(Dv.PV.toB v34)) then (some (Dv.PV.tuple [(Dv.PV.int Go.IntKind.i64 (0 : Int)), (Dv.PV.int Go.IntKind.i64 (0 : Int)), (Dv.PV.int Go.IntKind.i64 (0 : Int)), (Dv.PV.int Go.IntKind.i64 (1 : Int))])) else (bif (!(Dv.eqB a0_0 (0 : Int))) then (some (Dv.PV.tuple [(Dv.PV.int Go.IntKind.i64 (0 : Int)), (Dv.PV.int Go.IntKind.i64 (0 : Int)), (Dv.PV.int Go.IntKind.i64 (0 : Int)), (Dv.PV.int Go.IntKind.i64 (10 : Int))])) else ((civil_Date a0_1).bind fun v35 => (some (Dv.PV.tuple [(Dv.PV.int Go.IntKind.i64 (Dv.PV.toI (Dv.PV.tnth v35 0))), (Dv.PV.int Go.IntKind.i64 (Dv.PV.toI (Dv.PV.tnth v35 1))), (Dv.PV.int Go.IntKind.i64 (Dv.PV.toI (Dv.PV.tnth v35 2))), (Dv.PV.int Go.IntKind.i64 (Dv.PV.toI (Dv.PV.tnth v35 3)))])))))) :=
  (callF_eq EE fn_day_Parts _ rfl).trans (by kernel_rfl)

theorem show_digits_eq (a0 : Int) : show_digits a0 =
    (bif (Dv.ltB a0 (10 : Int)) then ((clock_Two a0).bind fun v46 => ((Dv.dropS (Dv.PV.toS v46) (1 : Int)).bind fun v47 => (some (Dv.PV.str v47)))) else ((clock_Two a0).bind fun v48 => (some (Dv.PV.str (Dv.PV.toS v48))))) :=
  (callF_eq EE fn_show_digits _ rfl).trans (by kernel_rfl)

theorem strings_Repeat_eq (a0 : List UInt8) (a1 : Int) : strings_Repeat a0 a1 =
    (bif (Dv.eqB a1 (0 : Int)) then (some (Dv.PV.str [])) else (bif (Dv.eqB a1 (1 : Int)) then (some (Dv.PV.str a0)) else (bif (Dv.ltB a1 (0 : Int)) then none else (strings_Repeat_c8 a0 a1)))) :=
  (callF_eq EE fn_strings_Repeat _ rfl).trans (by kernel_rfl)
theorem strings_Repeat_c8_eq (x0 : List UInt8) (x1 : Int) : strings_Repeat_c8 x0 x1 =
    ((bits_Mul (Go.IntKind.wrap Go.IntKind.u64 (((List.length x0) : Nat) : Int)) (Go.IntKind.wrap Go.IntKind.u64 x1)).bind fun v45 => (bif (Dv.ltB (0 : Int) (Dv.PV.toI (Dv.PV.tnth v45 0))) then (strings_Repeat_c10 x0 (Dv.PV.toI (Dv.PV.tnth v45 1))) else (bif (Dv.ltB (9223372036854775807 : Int) (Dv.PV.toI (Dv.PV.tnth v45 1))) then (strings_Repeat_c10 x0 (Dv.PV.toI (Dv.PV.tnth v45 1))) else (strings_Repeat_c11 x0 (Dv.PV.toI (Dv.PV.tnth v45 1)))))) :=
  (runW_eq EE _ _).trans (by kernel_rfl)
theorem strings_Repeat_c11_eq (x0 : List UInt8) (x1 : Int) : strings_Repeat_c11 x0 x1 =
    (bif (Dv.eqB (((List.length x0) : Nat) : Int) (0 : Int)) then (some (Dv.PV.str [])) else ((Dv.atS x0 (0 : Int)).bind fun v46 => (bif (Dv.eqB v46 (32 : Int)) then (strings_Repeat_c20 x0 (Go.IntKind.wrap Go.IntKind.i64 x1)) else (bif (Dv.eqB v46 (45 : Int)) then (strings_Repeat_c20 x0 (Go.IntKind.wrap Go.IntKind.i64 x1)) else (bif (Dv.eqB v46 (48 : Int)) then (strings_Repeat_c20 x0 (Go.IntKind.wrap Go.IntKind.i64 x1)) else (bif (Dv.eqB v46 (61 : Int)) then (strings_Repeat_c20 x0 (Go.IntKind.wrap Go.IntKind.i64 x1)) else (bif (Dv.eqB v46 (9 : Int)) then (strings_Repeat_c20 x0 (Go.IntKind.wrap Go.IntKind.i64 x1)) else (strings_Repeat_c30 x0 (Go.IntKind.wrap Go.IntKind.i64 x1))))))))) :=
  (runW_eq EE _ _).trans (by kernel_rfl)
theorem strings_Repeat_c20_eq (x0 : List UInt8) (x1 : Int) : strings_Repeat_c20 x0 x1 =
    (bif (Dv.leB x1 (128 : Int)) then ((strings_HasPrefix [(32 : UInt8), (32 : UInt8), (32 : UInt8), (32 : UInt8), (32 : UInt8), (32 : UInt8), (32 : UInt8), (32 : UInt8), (32 : UInt8), (32 : UInt8), (32 : UInt8), (32 : UInt8), (32 : UInt8), (32 : UInt8), (32 : UInt8), (32 : UInt8), (32 : UInt8), (32 : UInt8), (32 : UInt8), (32 : UInt8), (32 : UInt8), (32 : UInt8), (32 : UInt8), (32 : UInt8), (32 : UInt8), (32 : UInt8), (32 : UInt8), (32 : UInt8), (32 : UInt8), (32 : UInt8), (32 : UInt8), (32 : UInt8), (32 : UInt8), (32 : UInt8), (32 : UInt8), (32 : UInt8), (32 : UInt8), (32 : UInt8), (32 : UInt8), (32 : UInt8), (32 : UInt8), (32 : UInt8), (32 : UInt8), (32 : UInt8), (32 : UInt8), (32 : UInt8), (32 : UInt8), (32 : UInt8), (32 : UInt8), (32 : UInt8), (32 : UInt8), (32 : UInt8), (32 : UInt8), (32 : UInt8), (32 : UInt8), (32 : UInt8), (32 : UInt8), (32 : UInt8), (32 : UInt8), (32 : UInt8), (32 : UInt8), (32 : UInt8), (32 : UInt8), (32 : UInt8), (32 : UInt8), (32 : UInt8), (32 : UInt8), (32 : UInt8), (32 : UInt8), (32 : UInt8), (32 : UInt8), (32 : UInt8), (32 : UInt8), (32 : UInt8), (32 : UInt8), (32 : UInt8), (32 : UInt8), (32 : UInt8), (32 : UInt8), (32 : UInt8), (32 : UInt8), (32 : UInt8), (32 : UInt8), (32 : UInt8), (32 : UInt8), (32 : UInt8), (32 : UInt8), (32 : UInt8), (32 : UInt8), (32 : UInt8), (32 : UInt8), (32 : UInt8), (32 : UInt8), (32 : UInt8), (32 : UInt8), (32 : UInt8), (32 : UInt8), (32 : UInt8), (32 : UInt8), (32 : UInt8), (32 : UInt8), (32 : UInt8), (32 : UInt8), (32 : UInt8), (32 : UInt8), (32 : UInt8), (32 : UInt8), (32 : UInt8), (32 : UInt8), (32 : UInt8), (32 : UInt8), (32 : UInt8), (32 : UInt8), (32 : UInt8), (32 : UInt8), (32 : UInt8), (32 : UInt8), (32 : UInt8), (32 : UInt8), (32 : UInt8), (32 : UInt8), (32 : UInt8), (32 : UInt8), (32 : UInt8), (32 : UInt8), (32 : UInt8), (32 : UInt8), (32 : UInt8)] x0).bind fun v47 => (bif (Dv.PV.toB v47) then (strings_Repeat_c21 x1) else (strings_Repeat_c22 x0 x1))) else (strings_Repeat_c22 x0 x1)) :=
  (runW_eq EE _ _).trans (by kernel_rfl)
theorem strings_Repeat_c30_eq (x0 : List UInt8) (x1 : Int) : strings_Repeat_c30 x0 x1 =
    (bif (Dv.ltB (8192 : Int) x1) then (bif (Dv.eqB (((List.length x0) : Nat) : Int) (0 : Int)) then none else (bif (Dv.eqB (Go.IntKind.wrap Go.IntKind.i64 ((Go.IntKind.wrap Go.IntKind.i64 (Int.tdiv (8192 : Int) (((List.length x0) : Nat) : Int))) * (((List.length x0) : Nat) : Int))) (0 : Int)) then (strings_Repeat_c35 x0 x1 (((List.length x0) : Nat) : Int)) else (strings_Repeat_c35 x0 x1 (Go.IntKind.wrap Go.IntKind.i64 ((Go.IntKind.wrap Go.IntKind.i64 (Int.tdiv (8192 : Int) (((List.length x0) : Nat) : Int))) * (((List.length x0) : Nat) : Int)))))) else (strings_Repeat_c35 x0 x1 x1)) :=
  (runW_eq EE _ _).trans (by kernel_rfl)
theorem strings_Repeat_c21_eq (x0 : Int) : strings_Repeat_c21 x0 =
    ((Dv.takeS [(32 : UInt8), (32 : UInt8), (32 : UInt8), (32 : UInt8), (32 : UInt8), (32 : UInt8), (32 : UInt8), (32 : UInt8), (32 : UInt8), (32 : UInt8), (32 : UInt8), (32 : UInt8), (32 : UInt8), (32 : UInt8), (32 : UInt8), (32 : UInt8), (32 : UInt8), (32 : UInt8), (32 : UInt8), (32 : UInt8), (32 : UInt8), (32 : UInt8), (32 : UInt8), (32 : UInt8), (32 : UInt8), (32 : UInt8), (32 : UInt8), (32 : UInt8), (32 : UInt8), (32 : UInt8), (32 : UInt8), (32 : UInt8), (32 : UInt8), (32 : UInt8), (32 : UInt8), (32 : UInt8), (32 : UInt8), (32 : UInt8), (32 : UInt8), (32 : UInt8), (32 : UInt8), (32 : UInt8), (32 : UInt8), (32 : UInt8), (32 : UInt8), (32 : UInt8), (32 : UInt8), (32 : UInt8), (32 : UInt8), (32 : UInt8), (32 : UInt8), (32 : UInt8), (32 : UInt8), (32 : UInt8), (32 : UInt8), (32 : UInt8), (32 : UInt8), (32 : UInt8), (32 : UInt8), (32 : UInt8), (32 : UInt8), (32 : UInt8), (32 : UInt8), (32 : UInt8), (32 : UInt8), (32 : UInt8), (32 : UInt8), (32 : UInt8), (32 : UInt8), (32 : UInt8), (32 : UInt8), (32 : UInt8), (32 : UInt8), (32 : UInt8), (32 : UInt8), (32 : UInt8), (32 : UInt8), (32 : UInt8), (32 : UInt8), (32 : UInt8), (32 : UInt8), (32 : UInt8), (32 : UInt8), (32 : UInt8), (32 : UInt8), (32 : UInt8), (32 : UInt8), (32 : UInt8), (32 : UInt8), (32 : UInt8), (32 : UInt8), (32 : UInt8), (32 : UInt8), (32 : UInt8), (32 : UInt8), (32 : UInt8), (32 : UInt8), (32 : UInt8), (32 : UInt8), (32 : UInt8), (32 : UInt8), (32 : UInt8), (32 : UInt8), (32 : UInt8), (32 : UInt8), (32 : UInt8), (32 : UInt8), (32 : UInt8), (32 : UInt8), (32 : UInt8), (32 : UInt8), (32 : UInt8), (32 : UInt8), (32 : UInt8), (32 : UInt8), (32 : UInt8), (32 : UInt8), (32 : UInt8), (32 : UInt8), (32 : UInt8), (32 : UInt8), (32 : UInt8), (32 : UInt8), (32 : UInt8), (32 : UInt8), (32 : UInt8), (32 : UInt8), (32 : UInt8)] x0).bind fun v48 => (some (Dv.PV.str v48))) :=
  (runW_eq EE _ _).trans (by kernel_rfl)
theorem strings_Repeat_c22_eq (x0 : List UInt8) (x1 : Int) : strings_Repeat_c22 x0 x1 =
    (bif (Dv.leB x1 (128 : Int)) then ((strings_HasPrefix [(45 : UInt8), (45 : UInt8), (45 : UInt8), (45 : UInt8), (45 : UInt8), (45 : UInt8), (45 : UInt8), (45 : UInt8), (45 : UInt8), (45 : UInt8), (45 : UInt8), (45 : UInt8), (45 : UInt8), (45 : UInt8), (45 : UInt8), (45 : UInt8), (45 : UInt8), (45 : UInt8), (45 : UInt8), (45 : UInt8), (45 : UInt8), (45 : UInt8), (45 : UInt8), (45 : UInt8), (45 : UInt8), (45 : UInt8), (45 : UInt8), (45 : UInt8), (45 : UInt8), (45 : UInt8), (45 : UInt8), (45 : UInt8), (45 : UInt8), (45 : UInt8), (45 : UInt8), (45 : UInt8), (45 : UInt8), (45 : UInt8), (45 : UInt8), (45 : UInt8), (45 : UInt8), (45 : UInt8), (45 : UInt8), (45 : UInt8), (45 : UInt8), (45 : UInt8), (45 : UInt8), (45 : UInt8), (45 : UInt8), (45 : UInt8), (45 : UInt8), (45 : UInt8), (45 : UInt8), (45 : UInt8), (45 : UInt8), (45 : UInt8), (45 : UInt8), (45 : UInt8), (45 : UInt8), (45 : UInt8), (45 : UInt8), (45 : UInt8), (45 : UInt8), (45 : UInt8), (45 : UInt8), (45 : UInt8), (45 : UInt8), (45 : UInt8), (45 : UInt8), (45 : UInt8), (45 : UInt8), (45 : UInt8), (45 : UInt8), (45 : UInt8), (45 : UInt8), (45 : UInt8), (45 : UInt8), (45 : UInt8), (45 : UInt8), (45 : UInt8), (45 : UInt8), (45 : UInt8), (45 : UInt8), (45 : UInt8), (45 : UInt8), (45 : UInt8), (45 : UInt8), (45 : UInt8), (45 : UInt8), (45 : UInt8), (45 : UInt8), (45 : UInt8), (45 : UInt8), (45 : UInt8), (45 : UInt8), (45 : UInt8), (45 : UInt8), (45 : UInt8), (45 : UInt8), (45 : UInt8), (45 : UInt8), (45 : UInt8), (45 : UInt8), (45 : UInt8), (45 : UInt8), (45 : UInt8), (45 : UInt8), (45 : UInt8), (45 : UInt8), (45 : UInt8), (45 : UInt8), (45 : UInt8), (45 : UInt8), (45 : UInt8), (45 : UInt8), (45 : UInt8), (45 : UInt8), (45 : UInt8), (45 : UInt8), (45 : UInt8), (45 : UInt8), (45 : UInt8), (45 : UInt8), (45 : UInt8), (45 : UInt8), (45 : UInt8), (45 : UInt8), (45 : UInt8)] x0).bind fun v49 => (bif (Dv.PV.toB v49) then (strings_Repeat_c23 x1) else (strings_Repeat_c24 x0 x1))) else (strings_Repeat_c24 x0 x1)) :=
  (runW_eq EE _ _).trans (by kernel_rfl)
theorem strings_Repeat_c35_eq (x0 : List UInt8) (x1 : Int) (x2 : Int) : strings_Repeat_c35 x0 x1 x2 =
    (bif (Dv.ltB x1 (0 : Int)) then none else (bif (Dv.ltB (Go.IntKind.wrap Go.IntKind.i64 ((0 : Int) - (0 : Int))) x1) then (bif (decide (((0 : Int) ≤ (Go.IntKind.wrap Go.IntKind.i64 ((Go.IntKind.wrap Go.IntKind.i64 ((2 : Int) * (0 : Int))) + x1))) ∧ ((Go.IntKind.wrap Go.IntKind.i64 ((Go.IntKind.wrap Go.IntKind.i64 ((2 : Int) * (0 : Int))) + x1)) ≤ (281474976710656 : Int)))) then (strings_Repeat_c37 x0 x1 x2 []) else none) else (strings_Repeat_c37_1 x0 x1 x2))) :=
  (runW_eq EE _ _).trans (by kernel_rfl)
theorem strings_Repeat_c23_eq (x0 : Int) : strings_Repeat_c23 x0 =
    ((Dv.takeS [(45 : UInt8), (45 : UInt8), (45 : UInt8), (45 : UInt8), (45 : UInt8), (45 : UInt8), (45 : UInt8), (45 : UInt8), (45 : UInt8), (45 : UInt8), (45 : UInt8), (45 : UInt8), (45 : UInt8), (45 : UInt8), (45 : UInt8), (45 : UInt8), (45 : UInt8), (45 : UInt8), (45 : UInt8), (45 : UInt8), (45 : UInt8), (45 : UInt8), (45 : UInt8), (45 : UInt8), (45 : UInt8), (45 : UInt8), (45 : UInt8), (45 : UInt8), (45 : UInt8), (45 : UInt8), (45 : UInt8), (45 : UInt8), (45 : UInt8), (45 : UInt8), (45 : UInt8), (45 : UInt8), (45 : UInt8), (45 : UInt8), (45 : UInt8), (45 : UInt8), (45 : UInt8), (45 : UInt8), (45 : UInt8), (45 : UInt8), (45 : UInt8), (45 : UInt8), (45 : UInt8), (45 : UInt8), (45 : UInt8), (45 : UInt8), (45 : UInt8), (45 : UInt8), (45 : UInt8), (45 : UInt8), (45 : UInt8), (45 : UInt8), (45 : UInt8), (45 : UInt8), (45 : UInt8), (45 : UInt8), (45 : UInt8), (45 : UInt8), (45 : UInt8), (45 : UInt8), (45 : UInt8), (45 : UInt8), (45 : UInt8), (45 : UInt8), (45 : UInt8), (45 : UInt8), (45 : UInt8), (45 : UInt8), (45 : UInt8), (45 : UInt8), (45 : UInt8), (45 : UInt8), (45 : UInt8), (45 : UInt8), (45 : UInt8), (45 : UInt8), (45 : UInt8), (45 : UInt8), (45 : UInt8), (45 : UInt8), (45 : UInt8), (45 : UInt8), (45 : UInt8), (45 : UInt8), (45 : UInt8), (45 : UInt8), (45 : UInt8), (45 : UInt8), (45 : UInt8), (45 : UInt8), (45 : UInt8), (45 : UInt8), (45 : UInt8), (45 : UInt8), (45 : UInt8), (45 : UInt8), (45 : UInt8), (45 : UInt8), (45 : UInt8), (45 : UInt8), (45 : UInt8), (45 : UInt8), (45 : UInt8), (45 : UInt8), (45 : UInt8), (45 : UInt8), (45 : UInt8), (45 : UInt8), (45 : UInt8), (45 : UInt8), (45 : UInt8), (45 : UInt8), (45 : UInt8), (45 : UInt8), (45 : UInt8), (45 : UInt8), (45 : UInt8), (45 : UInt8), (45 : UInt8), (45 : UInt8), (45 : UInt8), (45 : UInt8), (45 : UInt8), (45 : UInt8)] x0).bind fun v50 => (some (Dv.PV.str v50))) :=
  (runW_eq EE _ _).trans (by kernel_rfl)
theorem strings_Repeat_c24_eq (x0 : List UInt8) (x1 : Int) : strings_Repeat_c24 x0 x1 =
    (bif (Dv.leB x1 (64 : Int)) then ((strings_HasPrefix [(48 : UInt8), (48 : UInt8), (48 : UInt8), (48 : UInt8), (48 : UInt8), (48 : UInt8), (48 : UInt8), (48 : UInt8), (48 : UInt8), (48 : UInt8), (48 : UInt8), (48 : UInt8), (48 : UInt8), (48 : UInt8), (48 : UInt8), (48 : UInt8), (48 : UInt8), (48 : UInt8), (48 : UInt8), (48 : UInt8), (48 : UInt8), (48 : UInt8), (48 : UInt8), (48 : UInt8), (48 : UInt8), (48 : UInt8), (48 : UInt8), (48 : UInt8), (48 : UInt8), (48 : UInt8), (48 : UInt8), (48 : UInt8), (48 : UInt8), (48 : UInt8), (48 : UInt8), (48 : UInt8), (48 : UInt8), (48 : UInt8), (48 : UInt8), (48 : UInt8), (48 : UInt8), (48 : UInt8), (48 : UInt8), (48 : UInt8), (48 : UInt8), (48 : UInt8), (48 : UInt8), (48 : UInt8), (48 : UInt8), (48 : UInt8), (48 : UInt8), (48 : UInt8), (48 : UInt8), (48 : UInt8), (48 : UInt8), (48 : UInt8), (48 : UInt8), (48 : UInt8), (48 : UInt8), (48 : UInt8), (48 : UInt8), (48 : UInt8), (48 : UInt8), (48 : UInt8)] x0).bind fun v51 => (bif (Dv.PV.toB v51) then (strings_Repeat_c25 x1) else (strings_Repeat_c26 x0 x1))) else (strings_Repeat_c26 x0 x1)) :=
  (runW_eq EE _ _).trans (by kernel_rfl)
theorem strings_Repeat_c37_eq (x0 : List UInt8) (x1 : Int) (x2 : Int) (x3 : List PV) : strings_Repeat_c37 x0 x1 x2 x3 =
    ((Dv.appL 1 x3 (List.map Dv.byteV x0)).bind fun v52 => (strings_Repeat_c38 x1 x2 v52)) :=
  (runW_eq EE _ _).trans (by kernel_rfl)
theorem strings_Repeat_c37_1_eq (x0 : List UInt8) (x1 : Int) (x2 : Int) : strings_Repeat_c37_1 x0 x1 x2 =
    ((Dv.appL 1 [] (List.map Dv.byteV x0)).bind fun v53 => (strings_Repeat_c38 x1 x2 v53)) :=
  (runW_eq EE _ _).trans (by kernel_rfl)
theorem strings_Repeat_c25_eq (x0 : Int) : strings_Repeat_c25 x0 =
    ((Dv.takeS [(48 : UInt8), (48 : UInt8), (48 : UInt8), (48 : UInt8), (48 : UInt8), (48 : UInt8), (48 : UInt8), (48 : UInt8), (48 : UInt8), (48 : UInt8), (48 : UInt8), (48 : UInt8), (48 : UInt8), (48 : UInt8), (48 : UInt8), (48 : UInt8), (48 : UInt8), (48 : UInt8), (48 : UInt8), (48 : UInt8), (48 : UInt8), (48 : UInt8), (48 : UInt8), (48 : UInt8), (48 : UInt8), (48 : UInt8), (48 : UInt8), (48 : UInt8), (48 : UInt8), (48 : UInt8), (48 : UInt8), (48 : UInt8), (48 : UInt8), (48 : UInt8), (48 : UInt8), (48 : UInt8), (48 : UInt8), (48 : UInt8), (48 : UInt8), (48 : UInt8), (48 : UInt8), (48 : UInt8), (48 : UInt8), (48 : UInt8), (48 : UInt8), (48 : UInt8), (48 : UInt8), (48 : UInt8), (48 : UInt8), (48 : UInt8), (48 : UInt8), (48 : UInt8), (48 : UInt8), (48 : UInt8), (48 : UInt8), (48 : UInt8), (48 : UInt8), (48 : UInt8), (48 : UInt8), (48 : UInt8), (48 : UInt8), (48 : UInt8), (48 : UInt8), (48 : UInt8)] x0).bind fun v54 => (some (Dv.PV.str v54))) :=
  (runW_eq EE _ _).trans (by kernel_rfl)
theorem strings_Repeat_c26_eq (x0 : List UInt8) (x1 : Int) : strings_Repeat_c26 x0 x1 =
    (bif (Dv.leB x1 (128 : Int)) then ((strings_HasPrefix [(61 : UInt8), (61 : UInt8), (61 : UInt8), (61 : UInt8), (61 : UInt8), (61 : UInt8), (61 : UInt8), (61 : UInt8), (61 : UInt8), (61 : UInt8), (61 : UInt8), (61 : UInt8), (61 : UInt8), (61 : UInt8), (61 : UInt8), (61 : UInt8), (61 : UInt8), (61 : UInt8), (61 : UInt8), (61 : UInt8), (61 : UInt8), (61 : UInt8), (61 : UInt8), (61 : UInt8), (61 : UInt8), (61 : UInt8), (61 : UInt8), (61 : UInt8), (61 : UInt8), (61 : UInt8), (61 : UInt8), (61 : UInt8), (61 : UInt8), (61 : UInt8), (61 : UInt8), (61 : UInt8), (61 : UInt8), (61 : UInt8), (61 : UInt8), (61 : UInt8), (61 : UInt8), (61 : UInt8), (61 : UInt8), (61 : UInt8), (61 : UInt8), (61 : UInt8), (61 : UInt8), (61 : UInt8), (61 : UInt8), (61 : UInt8), (61 : UInt8), (61 : UInt8), (61 : UInt8), (61 : UInt8), (61 : UInt8), (61 : UInt8), (61 : UInt8), (61 : UInt8), (61 : UInt8), (61 : UInt8), (61 : UInt8), (61 : UInt8), (61 : UInt8), (61 : UInt8), (61 : UInt8), (61 : UInt8), (61 : UInt8), (61 : UInt8), (61 : UInt8), (61 : UInt8), (61 : UInt8), (61 : UInt8), (61 : UInt8), (61 : UInt8), (61 : UInt8), (61 : UInt8), (61 : UInt8), (61 : UInt8), (61 : UInt8), (61 : UInt8), (61 : UInt8), (61 : UInt8), (61 : UInt8), (61 : UInt8), (61 : UInt8), (61 : UInt8), (61 : UInt8), (61 : UInt8), (61 : UInt8), (61 : UInt8), (61 : UInt8), (61 : UInt8), (61 : UInt8), (61 : UInt8), (61 : UInt8), (61 : UInt8), (61 : UInt8), (61 : UInt8), (61 : UInt8), (61 : UInt8), (61 : UInt8), (61 : UInt8), (61 : UInt8), (61 : UInt8), (61 : UInt8), (61 : UInt8), (61 : UInt8), (61 : UInt8), (61 : UInt8), (61 : UInt8), (61 : UInt8), (61 : UInt8), (61 : UInt8), (61 : UInt8), (61 : UInt8), (61 : UInt8), (61 : UInt8), (61 : UInt8), (61 : UInt8), (61 : UInt8), (61 : UInt8), (61 : UInt8), (61 : UInt8), (61 : UInt8), (61 : UInt8), (61 : UInt8), (61 : UInt8), (61 : UInt8)] x0).bind fun v55 => (bif (Dv.PV.toB v55) then (strings_Repeat_c27 x1) else (strings_Repeat_c28 x0 x1))) else (strings_Repeat_c28 x0 x1)) :=
  (runW_eq EE _ _).trans (by kernel_rfl)
theorem strings_Repeat_c38_eq (x0 : Int) (x1 : Int) (x2 : List PV) : strings_Repeat_c38 x0 x1 x2 =
    (bif (Dv.ltB (((List.length x2) : Nat) : Int) x0) then (strings_Repeat_c39 x0 x1 x2) else (bif (Dv.isNilL x2) then none else (bif (Bool.true && (!(Dv.isNilL x2))) then (bif (decide (((((List.length x2) : Nat) : Int) = (((List.length x2) : Nat) : Int)) ∧ ((((List.length x2) : Nat) : Int) ≤ (9223372036854775807 : Int)))) then ((Dv.bytesOf x2).bind fun v56 => (some (Dv.PV.str v56))) else none) else none))) :=
  (runW_eq EE _ _).trans (by kernel_rfl)
theorem strings_Repeat_c27_eq (x0 : Int) : strings_Repeat_c27 x0 =
    ((Dv.takeS [(61 : UInt8), (61 : UInt8), (61 : UInt8), (61 : UInt8), (61 : UInt8), (61 : UInt8), (61 : UInt8), (61 : UInt8), (61 : UInt8), (61 : UInt8), (61 : UInt8), (61 : UInt8), (61 : UInt8), (61 : UInt8), (61 : UInt8), (61 : UInt8), (61 : UInt8), (61 : UInt8), (61 : UInt8), (61 : UInt8), (61 : UInt8), (61 : UInt8), (61 : UInt8), (61 : UInt8), (61 : UInt8), (61 : UInt8), (61 : UInt8), (61 : UInt8), (61 : UInt8), (61 : UInt8), (61 : UInt8), (61 : UInt8), (61 : UInt8), (61 : UInt8), (61 : UInt8), (61 : UInt8), (61 : UInt8), (61 : UInt8), (61 : UInt8), (61 : UInt8), (61 : UInt8), (61 : UInt8), (61 : UInt8), (61 : UInt8), (61 : UInt8), (61 : UInt8), (61 : UInt8), (61 : UInt8), (61 : UInt8), (61 : UInt8), (61 : UInt8), (61 : UInt8), (61 : UInt8), (61 : UInt8), (61 : UInt8), (61 : UInt8), (61 : UInt8), (61 : UInt8), (61 : UInt8), (61 : UInt8), (61 : UInt8), (61 : UInt8), (61 : UInt8), (61 : UInt8), (61 : UInt8), (61 : UInt8), (61 : UInt8), (61 : UInt8), (61 : UInt8), (61 : UInt8), (61 : UInt8), (61 : UInt8), (61 : UInt8), (61 : UInt8), (61 : UInt8), (61 : UInt8), (61 : UInt8), (61 : UInt8), (61 : UInt8), (61 : UInt8), (61 : UInt8), (61 : UInt8), (61 : UInt8), (61 : UInt8), (61 : UInt8), (61 : UInt8), (61 : UInt8), (61 : UInt8), (61 : UInt8), (61 : UInt8), (61 : UInt8), (61 : UInt8), (61 : UInt8), (61 : UInt8), (61 : UInt8), (61 : UInt8), (61 : UInt8), (61 : UInt8), (61 : UInt8), (61 : UInt8), (61 : UInt8), (61 : UInt8), (61 : UInt8), (61 : UInt8), (61 : UInt8), (61 : UInt8), (61 : UInt8), (61 : UInt8), (61 : UInt8), (61 : UInt8), (61 : UInt8), (61 : UInt8), (61 : UInt8), (61 : UInt8), (61 : UInt8), (61 : UInt8), (61 : UInt8), (61 : UInt8), (61 : UInt8), (61 : UInt8), (61 : UInt8), (61 : UInt8), (61 : UInt8), (61 : UInt8), (61 : UInt8), (61 : UInt8), (61 : UInt8), (61 : UInt8)] x0).bind fun v57 => (some (Dv.PV.str v57))) :=
  (runW_eq EE _ _).trans (by kernel_rfl)
theorem strings_Repeat_c28_eq (x0 : List UInt8) (x1 : Int) : strings_Repeat_c28 x0 x1 =
    (bif (Dv.leB x1 (64 : Int)) then ((strings_HasPrefix [(9 : UInt8), (9 : UInt8), (9 : UInt8), (9 : UInt8), (9 : UInt8), (9 : UInt8), (9 : UInt8), (9 : UInt8), (9 : UInt8), (9 : UInt8), (9 : UInt8), (9 : UInt8), (9 : UInt8), (9 : UInt8), (9 : UInt8), (9 : UInt8), (9 : UInt8), (9 : UInt8), (9 : UInt8), (9 : UInt8), (9 : UInt8), (9 : UInt8), (9 : UInt8), (9 : UInt8), (9 : UInt8), (9 : UInt8), (9 : UInt8), (9 : UInt8), (9 : UInt8), (9 : UInt8), (9 : UInt8), (9 : UInt8), (9 : UInt8), (9 : UInt8), (9 : UInt8), (9 : UInt8), (9 : UInt8), (9 : UInt8), (9 : UInt8), (9 : UInt8), (9 : UInt8), (9 : UInt8), (9 : UInt8), (9 : UInt8), (9 : UInt8), (9 : UInt8), (9 : UInt8), (9 : UInt8), (9 : UInt8), (9 : UInt8), (9 : UInt8), (9 : UInt8), (9 : UInt8), (9 : UInt8), (9 : UInt8), (9 : UInt8), (9 : UInt8), (9 : UInt8), (9 : UInt8), (9 : UInt8), (9 : UInt8), (9 : UInt8), (9 : UInt8), (9 : UInt8)] x0).bind fun v58 => (bif (Dv.PV.toB v58) then (strings_Repeat_c29 x1) else (strings_Repeat_c30 x0 x1))) else (strings_Repeat_c30 x0 x1)) :=
  (runW_eq EE _ _).trans (by kernel_rfl)
theorem strings_Repeat_c39_eq (x0 : Int) (x1 : Int) (x2 : List PV) : strings_Repeat_c39 x0 x1 x2 =
    (bif (Dv.isNilL x2) then none else (bif (Bool.true && (!(Dv.isNilL x2))) then (bif (decide (((((List.length x2) : Nat) : Int) = (((List.length x2) : Nat) : Int)) ∧ ((((List.length x2) : Nat) : Int) ≤ (9223372036854775807 : Int)))) then ((Dv.bytesOf x2).bind fun v59 => ((Dv.takeS v59 (Dv.minI (Dv.minI (Go.IntKind.wrap Go.IntKind.i64 (x0 - (((List.length x2) : Nat) : Int))) (((List.length x2) : Nat) : Int)) x1)).bind fun v60 => none)) else none) else none)) :=
  (runW_eq EE _ _).trans (by kernel_rfl)
theorem strings_Repeat_c29_eq (x0 : Int) : strings_Repeat_c29 x0 =
    ((Dv.takeS [(9 : UInt8), (9 : UInt8), (9 : UInt8), (9 : UInt8), (9 : UInt8), (9 : UInt8), (9 : UInt8), (9 : UInt8), (9 : UInt8), (9 : UInt8), (9 : UInt8), (9 : UInt8), (9 : UInt8), (9 : UInt8), (9 : UInt8), (9 : UInt8), (9 : UInt8), (9 : UInt8), (9 : UInt8), (9 : UInt8), (9 : UInt8), (9 : UInt8), (9 : UInt8), (9 : UInt8), (9 : UInt8), (9 : UInt8), (9 : UInt8), (9 : UInt8), (9 : UInt8), (9 : UInt8), (9 : UInt8), (9 : UInt8), (9 : UInt8), (9 : UInt8), (9 : UInt8), (9 : UInt8), (9 : UInt8), (9 : UInt8), (9 : UInt8), (9 : UInt8), (9 : UInt8), (9 : UInt8), (9 : UInt8), (9 : UInt8), (9 : UInt8), (9 : UInt8), (9 : UInt8), (9 : UInt8), (9 : UInt8), (9 : UInt8), (9 : UInt8), (9 : UInt8), (9 : UInt8), (9 : UInt8), (9 : UInt8), (9 : UInt8), (9 : UInt8), (9 : UInt8), (9 : UInt8), (9 : UInt8), (9 : UInt8), (9 : UInt8), (9 : UInt8), (9 : UInt8)] x0).bind fun v61 => (some (Dv.PV.str v61))) :=
  (runW_eq EE _ _).trans (by kernel_rfl)

theorem clock_Two_eq (a0 : Int) : clock_Two a0 =
    (bif (Dv.leB (0 : Int) a0) then ((clock_digits (Go.IntKind.wrap Go.IntKind.u64 a0) (2 : Int)).bind fun v52 => (some (Dv.PV.str (Dv.PV.toS v52)))) else ((num_Neg a0).bind fun v53 => (bif (Dv.eqB (Dv.PV.toI (Dv.PV.tnth v53 1)) (0 : Int)) then ((clock_digits (Go.IntKind.wrap Go.IntKind.u64 (Dv.PV.toI (Dv.PV.tnth v53 0))) (2 : Int)).bind fun v54 => ((Dv.catS [(45 : UInt8)] (Dv.PV.toS v54)).bind fun v55 => (some (Dv.PV.str v55)))) else ((clock_digits (9223372036854775808 : Int) (2 : Int)).bind fun v56 => ((Dv.catS [(45 : UInt8)] (Dv.PV.toS v56)).bind fun v57 => (some (Dv.PV.str v57))))))) :=
  (callF_eq EE fn_clock_Two _ rfl).trans (by kernel_rfl)

theorem show_between_eq (a0 : List UInt8) (a1 : List PV) : show_between a0 a1 =
    (show_between_c3 a0 a1 (((List.length a1) : Nat) : Int) (0 : Int) []) :=
  (callF_eq EE fn_show_between _ rfl).trans (by kernel_rfl)
theorem show_between_c3_eq (x0 : List UInt8) (x1 : List PV) (x2 : Int) (x3 : Int) (x4 : List PV) : show_between_c3 x0 x1 x2 x3 x4 =
    (bif (Dv.ltB x3 x2) then ((Dv.rdI Dv.tiStr x1 x3).bind fun v24 => (bif (!(Dv.eqS (Dv.PV.toS v24) [])) then ((Dv.appL 16 x4 [(Dv.PV.str (Dv.PV.toS v24))]).bind fun v25 => (show_between_c3 x0 x1 x2 (Go.IntKind.wrap Go.IntKind.i64 (x3 + (1 : Int))) v25)) else (show_between_c3 x0 x1 x2 (Go.IntKind.wrap Go.IntKind.i64 (x3 + (1 : Int))) x4))) else ((strings_Join x4 x0).bind fun v26 => (some (Dv.PV.str (Dv.PV.toS v26))))) :=
  (runW_eq EE _ _).trans (by kernel_rfl)

theorem computusref15_inside_eq (a0 : Int) : computusref15_inside a0 =
    ((computusref02_Date a0).bind fun v31 => (bif (Dv.eqB (Dv.PV.toI (Dv.PV.tnth v31 3)) (0 : Int)) then (bif (Dv.leB (-4712 : Int) (Dv.PV.toI (Dv.PV.tnth v31 0))) then (some (Dv.PV.bool (Dv.leB (Dv.PV.toI (Dv.PV.tnth v31 0)) (294276 : Int)))) else (some (Dv.PV.bool Bool.false))) else (some (Dv.PV.bool Bool.false)))) :=
  (callF_eq EE fn_computusref15_inside _ rfl).trans (by kernel_rfl)

theorem computusref15_Parts_eq (a0_0 : Int) (a0_1 : Int) : computusref15_Parts a0_0 a0_1 =
    ((computusref15_Right a0_0 a0_1).bind fun v36 => (bif (!(Dv.PV.toB v36)) then (some (Dv.PV.tuple [(Dv.PV.int Go.IntKind.i64 (0 : Int)), (Dv.PV.int Go.IntKind.i64 (0 : Int)), (Dv.PV.int Go.IntKind.i64 (0 : Int)), (Dv.PV.int Go.IntKind.i64 (1 : Int))])) else (bif (!(Dv.eqB a0_0 (0 : Int))) then (some (Dv.PV.tuple [(Dv.PV.int Go.IntKind.i64 (0 : Int)), (Dv.PV.int Go.IntKind.i64 (0 : Int)), (Dv.PV.int Go.IntKind.i64 (0 : Int)), (Dv.PV.int Go.IntKind.i64 (10 : Int))])) else ((computusref02_Date a0_1).bind fun v37 => (some (Dv.PV.tuple [(Dv.PV.int Go.IntKind.i64 (Dv.PV.toI (Dv.PV.tnth v37 0))), (Dv.PV.int Go.IntKind.i64 (Dv.PV.toI (Dv.PV.tnth v37 1))), (Dv.PV.int Go.IntKind.i64 (Dv.PV.toI (Dv.PV.tnth v37 2))), (Dv.PV.int Go.IntKind.i64 (Dv.PV.toI (Dv.PV.tnth v37 3)))])))))) :=
  (callF_eq EE fn_computusref15_Parts _ rfl).trans (by kernel_rfl)

theorem computusref03_Two_eq (a0 : Int) : computusref03_Two a0 =
    (bif (Dv.leB (0 : Int) a0) then (bif (Dv.ltB a0 (10 : Int)) then (computusref03_Two_c2 a0) else (computusref03_Two_c3 a0)) else (computusref03_Two_c3 a0)) :=
  (callF_eq EE fn_computusref03_Two _ rfl).trans (by kernel_rfl)
theorem computusref03_Two_c2_eq (x0 : Int) : computusref03_Two_c2 x0 =
    ((computusref03_Digits x0).bind fun v49 => ((Dv.catS [(48 : UInt8)] (Dv.PV.toS v49)).bind fun v50 => (some (Dv.PV.str v50)))) :=
  (runW_eq EE _ _).trans (by kernel_rfl)
theorem computusref03_Two_c3_eq (x0 : Int) : computusref03_Two_c3 x0 =
    (bif (Dv.ltB x0 (0 : Int)) then (bif (Dv.ltB (-10 : Int) x0) then ((computusref03_Digits (Go.IntKind.wrap Go.IntKind.i64 ((0 : Int) - x0))).bind fun v51 => ((Dv.catS [(45 : UInt8), (48 : UInt8)] (Dv.PV.toS v51)).bind fun v52 => (some (Dv.PV.str v52)))) else ((computusref03_Digits x0).bind fun v53 => (some (Dv.PV.str (Dv.PV.toS v53))))) else ((computusref03_Digits x0).bind fun v54 => (some (Dv.PV.str (Dv.PV.toS v54))))) :=
  (runW_eq EE _ _).trans (by kernel_rfl)

theorem num_Split_eq (a0 : Int) : num_Split a0 =
    ((num_Div a0 (86400000000 : Int)).bind fun v62 => ((num_Mod a0 (86400000000 : Int)).bind fun v63 => (some (Dv.PV.tuple [(Dv.PV.int Go.IntKind.i64 (Dv.PV.toI (Dv.PV.tnth v62 0))), (Dv.PV.int Go.IntKind.i64 (Dv.PV.toI (Dv.PV.tnth v63 0)))])))) :=
  (callF_eq EE fn_num_Split _ rfl).trans (by kernel_rfl)

theorem day_Of_eq (a0_0 : Int) (a0_1 : Int) : day_Of a0_0 a0_1 =
    ((day_RightStamp a0_0 a0_1).bind fun v58 => (bif (!(Dv.PV.toB v58)) then (some (Dv.PV.tuple [(Dv.PV.agg [(Dv.PV.int Go.IntKind.i64 (0 : Int)), (Dv.PV.int Go.IntKind.i64 (0 : Int))]), (Dv.PV.int Go.IntKind.i64 (0 : Int)), (Dv.PV.int Go.IntKind.i64 (1 : Int))])) else (bif (!(Dv.eqB a0_0 (0 : Int))) then (some (Dv.PV.tuple [(Dv.PV.agg [(Dv.PV.int Go.IntKind.i64 a0_0), (Dv.PV.int Go.IntKind.i64 (0 : Int))]), (Dv.PV.int Go.IntKind.i64 (0 : Int)), (Dv.PV.int Go.IntKind.i64 (0 : Int))])) else ((num_Split a0_1).bind fun v59 => (some (Dv.PV.tuple [(Dv.PV.agg [(Dv.PV.int Go.IntKind.i64 (0 : Int)), (Dv.PV.int Go.IntKind.i64 (Dv.PV.toI (Dv.PV.tnth v59 0)))]), (Dv.PV.int Go.IntKind.i64 (Dv.PV.toI (Dv.PV.tnth v59 1))), (Dv.PV.int Go.IntKind.i64 (0 : Int))])))))) :=
  (callF_eq EE fn_day_Of _ rfl).trans (by kernel_rfl)

theorem clock_Text_eq (a0 : Int) : clock_Text a0 =
    ((clock_within a0 (86400000000 : Int)).bind fun v27 => (bif (!(Dv.PV.toB v27)) then (some (Dv.PV.tuple [(Dv.PV.str []), (Dv.PV.int Go.IntKind.i64 (10 : Int))])) else ((clock_text (Go.IntKind.wrap Go.IntKind.u64 a0)).bind fun v28 => (some (Dv.PV.tuple [(Dv.PV.str (Dv.PV.toS v28)), (Dv.PV.int Go.IntKind.i64 (0 : Int))]))))) :=
  (callF_eq EE fn_clock_Text _ rfl).trans (by kernel_rfl)

theorem computusref01_Split_eq (a0 : Int) : computusref01_Split a0 =
    ((computusref01_Div a0 (86400000000 : Int)).bind fun v32 => ((computusref01_Mod a0 (86400000000 : Int)).bind fun v33 => (some (Dv.PV.tuple [(Dv.PV.int Go.IntKind.i64 (Dv.PV.toI (Dv.PV.tnth v32 0))), (Dv.PV.int Go.IntKind.i64 (Dv.PV.toI (Dv.PV.tnth v33 0)))])))) :=
  (callF_eq EE fn_computusref01_Split _ rfl).trans (by kernel_rfl)

theorem computusref15_Of_eq (a0_0 : Int) (a0_1 : Int) : computusref15_Of a0_0 a0_1 =
    ((computusref15_RightStamp a0_0 a0_1).bind fun v38 => (bif (!(Dv.PV.toB v38)) then (some (Dv.PV.tuple [(Dv.PV.agg [(Dv.PV.int Go.IntKind.i64 (0 : Int)), (Dv.PV.int Go.IntKind.i64 (0 : Int))]), (Dv.PV.int Go.IntKind.i64 (0 : Int)), (Dv.PV.int Go.IntKind.i64 (1 : Int))])) else (bif (!(Dv.eqB a0_0 (0 : Int))) then (some (Dv.PV.tuple [(Dv.PV.agg [(Dv.PV.int Go.IntKind.i64 a0_0), (Dv.PV.int Go.IntKind.i64 (0 : Int))]), (Dv.PV.int Go.IntKind.i64 (0 : Int)), (Dv.PV.int Go.IntKind.i64 (0 : Int))])) else ((computusref01_Split a0_1).bind fun v39 => (some (Dv.PV.tuple [(Dv.PV.agg [(Dv.PV.int Go.IntKind.i64 (0 : Int)), (Dv.PV.int Go.IntKind.i64 (Dv.PV.toI (Dv.PV.tnth v39 0)))]), (Dv.PV.int Go.IntKind.i64 (Dv.PV.toI (Dv.PV.tnth v39 1))), (Dv.PV.int Go.IntKind.i64 (0 : Int))])))))) :=
  (callF_eq EE fn_computusref15_Of _ rfl).trans (by kernel_rfl)

theorem computusref03_Text_eq (a0 : Int) : computusref03_Text a0 =
    ((computusref03_Parts a0).bind fun v55 => (bif (!(Dv.eqB (Dv.PV.toI (Dv.PV.tnth v55 4)) (0 : Int))) then (some (Dv.PV.tuple [(Dv.PV.str []), (Dv.PV.int Go.IntKind.i64 (Dv.PV.toI (Dv.PV.tnth v55 4)))])) else ((computusref03_Two (Dv.PV.toI (Dv.PV.tnth v55 0))).bind fun v56 => ((Dv.catS (Dv.PV.toS v56) [(58 : UInt8)]).bind fun v57 => ((computusref03_Two (Dv.PV.toI (Dv.PV.tnth v55 1))).bind fun v58 => ((Dv.catS v57 (Dv.PV.toS v58)).bind fun v59 => ((Dv.catS v59 [(58 : UInt8)]).bind fun v60 => ((computusref03_Two (Dv.PV.toI (Dv.PV.tnth v55 2))).bind fun v61 => ((Dv.catS v60 (Dv.PV.toS v61)).bind fun v62 => ((computusref03_Fraction (Dv.PV.toI (Dv.PV.tnth v55 3))).bind fun v63 => ((Dv.catS v62 (Dv.PV.toS v63)).bind fun v64 => (some (Dv.PV.tuple [(Dv.PV.str v64), (Dv.PV.int Go.IntKind.i64 (0 : Int))]))))))))))))) :=
  (callF_eq EE fn_computusref03_Text _ rfl).trans (by kernel_rfl)

theorem show_sql_eq (a0_0 : Int) (a0_1 : Int) (a0_2 : Int) (a0_3 : Int) : show_sql a0_0 a0_1 a0_2 a0_3 =
    ((show_signed a0_1).bind fun v64 => ((show_signed a0_2).bind fun v65 => ((show_signed a0_3).bind fun v66 => ((clock_Long (Int.tmod (Dv.PV.toI (Dv.PV.tnth v66 1)) (3600000000 : Int))).bind fun v67 => ((strings_Cut (Dv.PV.toS v67) [(58 : UInt8)]).bind fun v68 => ((show_digits (Go.IntKind.wrap Go.IntKind.i64 (Int.tdiv (Dv.PV.toI (Dv.PV.tnth v64 1)) (12 : Int)))).bind fun v69 => ((show_digits (Int.tmod (Dv.PV.toI (Dv.PV.tnth v64 1)) (12 : Int))).bind fun v70 => ((show_join [(Dv.PV.str (Dv.PV.toS (Dv.PV.tnth v64 0))), (Dv.PV.str (Dv.PV.toS v69)), (Dv.PV.str [(45 : UInt8)]), (Dv.PV.str (Dv.PV.toS v70))]).bind fun v71 => ((show_digits (Dv.PV.toI (Dv.PV.tnth v65 1))).bind fun v72 => ((show_join [(Dv.PV.str (Dv.PV.toS (Dv.PV.tnth v65 0))), (Dv.PV.str (Dv.PV.toS v72))]).bind fun v73 => ((show_digits (Go.IntKind.wrap Go.IntKind.i64 (Int.tdiv (Dv.PV.toI (Dv.PV.tnth v66 1)) (3600000000 : Int)))).bind fun v74 => ((show_join [(Dv.PV.str (Dv.PV.toS (Dv.PV.tnth v66 0))), (Dv.PV.str (Dv.PV.toS v74)), (Dv.PV.str [(58 : UInt8)]), (Dv.PV.str (Dv.PV.toS (Dv.PV.tnth v68 1)))]).bind fun v75 => ((show_between [(32 : UInt8)] [(Dv.PV.str (Dv.PV.toS v71)), (Dv.PV.str (Dv.PV.toS v73)), (Dv.PV.str (Dv.PV.toS v75))]).bind fun v76 => (some (Dv.PV.str (Dv.PV.toS v76)))))))))))))))) :=
  (callF_eq EE fn_show_sql _ rfl).trans (by kernel_rfl)

theorem show_iso_eq (a0_0 : Int) (a0_1 : Int) (a0_2 : Int) (a0_3 : Int) : show_iso a0_0 a0_1 a0_2 a0_3 =
    ((show_letter (Go.IntKind.wrap Go.IntKind.i64 (Int.tdiv a0_1 (12 : Int))) [(89 : UInt8)]).bind fun v60 => ((show_letter (Int.tmod a0_1 (12 : Int)) [(77 : UInt8)]).bind fun v61 => ((show_letter a0_2 [(68 : UInt8)]).bind fun v62 => ((show_join [(Dv.PV.str [(80 : UInt8)]), (Dv.PV.str (Dv.PV.toS v60)), (Dv.PV.str (Dv.PV.toS v61)), (Dv.PV.str (Dv.PV.toS v62))]).bind fun v63 => (bif (!(Dv.eqB a0_3 (0 : Int))) then ((show_letter (Go.IntKind.wrap Go.IntKind.i64 (Int.tdiv a0_3 (3600000000 : Int))) [(72 : UInt8)]).bind fun v64 => ((show_letter (Go.IntKind.wrap Go.IntKind.i64 (Int.tdiv (Int.tmod a0_3 (3600000000 : Int)) (60000000 : Int))) [(77 : UInt8)]).bind fun v65 => ((show_seconds (Int.tmod a0_3 (60000000 : Int))).bind fun v66 => ((show_join [(Dv.PV.str (Dv.PV.toS v63)), (Dv.PV.str [(84 : UInt8)]), (Dv.PV.str (Dv.PV.toS v64)), (Dv.PV.str (Dv.PV.toS v65)), (Dv.PV.str (Dv.PV.toS v66))]).bind fun v67 => (bif (Dv.eqS (Dv.PV.toS v67) [(80 : UInt8)]) then (some (Dv.PV.str [(80 : UInt8), (84 : UInt8), (48 : UInt8), (83 : UInt8)])) else (some (Dv.PV.str (Dv.PV.toS v67)))))))) else (bif (Dv.eqS (Dv.PV.toS v63) [(80 : UInt8)]) then (some (Dv.PV.str [(80 : UInt8), (84 : UInt8), (48 : UInt8), (83 : UInt8)])) else (some (Dv.PV.str (Dv.PV.toS v63))))))))) :=
  (callF_eq EE fn_show_iso _ rfl).trans (by kernel_rfl)

theorem show_postgres_eq (a0_0 : Int) (a0_1 : Int) (a0_2 : Int) (a0_3 : Int) : show_postgres a0_0 a0_1 a0_2 a0_3 =
    (bif (Dv.eqB (Go.IntKind.wrap Go.IntKind.i64 (Int.tdiv a0_1 (12 : Int))) (0 : Int)) then (show_postgres_c3 [] a0_0 a0_1 a0_2 a0_3 (0 : Int)) else (bif (Dv.eqB (Go.IntKind.wrap Go.IntKind.i64 (Int.tdiv a0_1 (12 : Int))) (1 : Int)) then ((show_number (Go.IntKind.wrap Go.IntKind.i64 (Int.tdiv a0_1 (12 : Int)))).bind fun v29 => ((show_join [(Dv.PV.str []), (Dv.PV.str (Dv.PV.toS v29)), (Dv.PV.str [(32 : UInt8)]), (Dv.PV.str [(121 : UInt8), (101 : UInt8), (97 : UInt8), (114 : UInt8)]), (Dv.PV.str [])]).bind fun v30 => (show_postgres_c3 (Dv.PV.toS v30) a0_0 a0_1 a0_2 a0_3 (Go.IntKind.wrap Go.IntKind.i64 (Int.tdiv a0_1 (12 : Int)))))) else ((show_number (Go.IntKind.wrap Go.IntKind.i64 (Int.tdiv a0_1 (12 : Int)))).bind fun v31 => ((show_join [(Dv.PV.str []), (Dv.PV.str (Dv.PV.toS v31)), (Dv.PV.str [(32 : UInt8)]), (Dv.PV.str [(121 : UInt8), (101 : UInt8), (97 : UInt8), (114 : UInt8)]), (Dv.PV.str [(115 : UInt8)])]).bind fun v32 => (show_postgres_c3 (Dv.PV.toS v32) a0_0 a0_1 a0_2 a0_3 (Go.IntKind.wrap Go.IntKind.i64 (Int.tdiv a0_1 (12 : Int)))))))) :=
  (callF_eq EE fn_show_postgres _ rfl).trans (by kernel_rfl)
theorem show_postgres_c3_eq (x0 : List UInt8) (x1 : Int) (x2 : Int) (x3 : Int) (x4 : Int) (x5 : Int) : show_postgres_c3 x0 x1 x2 x3 x4 x5 =
    (bif (Dv.eqB (Int.tmod x2 (12 : Int)) (0 : Int)) then (show_postgres_c4 x0 [] x1 x2 x3 x4 x5) else (bif (Dv.ltB x5 (0 : Int)) then (bif (Dv.ltB (0 : Int) (Int.tmod x2 (12 : Int))) then (bif (Dv.eqB (Int.tmod x2 (12 : Int)) (1 : Int)) then ((show_number (Int.tmod x2 (12 : Int))).bind fun v33 => ((show_join [(Dv.PV.str [(43 : UInt8)]), (Dv.PV.str (Dv.PV.toS v33)), (Dv.PV.str [(32 : UInt8)]), (Dv.PV.str [(109 : UInt8), (111 : UInt8), (110 : UInt8)]), (Dv.PV.str [])]).bind fun v34 => (show_postgres_c4 x0 (Dv.PV.toS v34) x1 x2 x3 x4 (Int.tmod x2 (12 : Int))))) else ((show_number (Int.tmod x2 (12 : Int))).bind fun v35 => ((show_join [(Dv.PV.str [(43 : UInt8)]), (Dv.PV.str (Dv.PV.toS v35)), (Dv.PV.str [(32 : UInt8)]), (Dv.PV.str [(109 : UInt8), (111 : UInt8), (110 : UInt8)]), (Dv.PV.str [(115 : UInt8)])]).bind fun v36 => (show_postgres_c4 x0 (Dv.PV.toS v36) x1 x2 x3 x4 (Int.tmod x2 (12 : Int)))))) else (bif (Dv.eqB (Int.tmod x2 (12 : Int)) (1 : Int)) then ((show_number (Int.tmod x2 (12 : Int))).bind fun v37 => ((show_join [(Dv.PV.str []), (Dv.PV.str (Dv.PV.toS v37)), (Dv.PV.str [(32 : UInt8)]), (Dv.PV.str [(109 : UInt8), (111 : UInt8), (110 : UInt8)]), (Dv.PV.str [])]).bind fun v38 => (show_postgres_c4 x0 (Dv.PV.toS v38) x1 x2 x3 x4 (Int.tmod x2 (12 : Int))))) else ((show_number (Int.tmod x2 (12 : Int))).bind fun v39 => ((show_join [(Dv.PV.str []), (Dv.PV.str (Dv.PV.toS v39)), (Dv.PV.str [(32 : UInt8)]), (Dv.PV.str [(109 : UInt8), (111 : UInt8), (110 : UInt8)]), (Dv.PV.str [(115 : UInt8)])]).bind fun v40 => (show_postgres_c4 x0 (Dv.PV.toS v40) x1 x2 x3 x4 (Int.tmod x2 (12 : Int))))))) else (bif (Dv.eqB (Int.tmod x2 (12 : Int)) (1 : Int)) then ((show_number (Int.tmod x2 (12 : Int))).bind fun v41 => ((show_join [(Dv.PV.str []), (Dv.PV.str (Dv.PV.toS v41)), (Dv.PV.str [(32 : UInt8)]), (Dv.PV.str [(109 : UInt8), (111 : UInt8), (110 : UInt8)]), (Dv.PV.str [])]).bind fun v42 => (show_postgres_c4 x0 (Dv.PV.toS v42) x1 x2 x3 x4 (Int.tmod x2 (12 : Int))))) else ((show_number (Int.tmod x2 (12 : Int))).bind fun v43 => ((show_join [(Dv.PV.str []), (Dv.PV.str (Dv.PV.toS v43)), (Dv.PV.str [(32 : UInt8)]), (Dv.PV.str [(109 : UInt8), (111 : UInt8), (110 : UInt8)]), (Dv.PV.str [(115 : UInt8)])]).bind fun v44 => (show_postgres_c4 x0 (Dv.PV.toS v44) x1 x2 x3 x4 (Int.tmod x2 (12 : Int)))))))) :=
  (runW_eq EE _ _).trans (by kernel_rfl)
theorem show_postgres_c4_eq (x0 : List UInt8) (x1 : List UInt8) (x2 : Int) (x3 : Int) (x4 : Int) (x5 : Int) (x6 : Int) : show_postgres_c4 x0 x1 x2 x3 x4 x5 x6 =
    (bif (Dv.eqB x4 (0 : Int)) then (show_postgres_c5 x0 x1 [] x2 x3 x4 x5 x6) else (bif (Dv.ltB x6 (0 : Int)) then (bif (Dv.ltB (0 : Int) x4) then (bif (Dv.eqB x4 (1 : Int)) then ((show_number x4).bind fun v45 => ((show_join [(Dv.PV.str [(43 : UInt8)]), (Dv.PV.str (Dv.PV.toS v45)), (Dv.PV.str [(32 : UInt8)]), (Dv.PV.str [(100 : UInt8), (97 : UInt8), (121 : UInt8)]), (Dv.PV.str [])]).bind fun v46 => (show_postgres_c5 x0 x1 (Dv.PV.toS v46) x2 x3 x4 x5 x4))) else ((show_number x4).bind fun v47 => ((show_join [(Dv.PV.str [(43 : UInt8)]), (Dv.PV.str (Dv.PV.toS v47)), (Dv.PV.str [(32 : UInt8)]), (Dv.PV.str [(100 : UInt8), (97 : UInt8), (121 : UInt8)]), (Dv.PV.str [(115 : UInt8)])]).bind fun v48 => (show_postgres_c5 x0 x1 (Dv.PV.toS v48) x2 x3 x4 x5 x4)))) else (bif (Dv.eqB x4 (1 : Int)) then ((show_number x4).bind fun v49 => ((show_join [(Dv.PV.str []), (Dv.PV.str (Dv.PV.toS v49)), (Dv.PV.str [(32 : UInt8)]), (Dv.PV.str [(100 : UInt8), (97 : UInt8), (121 : UInt8)]), (Dv.PV.str [])]).bind fun v50 => (show_postgres_c5 x0 x1 (Dv.PV.toS v50) x2 x3 x4 x5 x4))) else ((show_number x4).bind fun v51 => ((show_join [(Dv.PV.str []), (Dv.PV.str (Dv.PV.toS v51)), (Dv.PV.str [(32 : UInt8)]), (Dv.PV.str [(100 : UInt8), (97 : UInt8), (121 : UInt8)]), (Dv.PV.str [(115 : UInt8)])]).bind fun v52 => (show_postgres_c5 x0 x1 (Dv.PV.toS v52) x2 x3 x4 x5 x4))))) else (bif (Dv.eqB x4 (1 : Int)) then ((show_number x4).bind fun v53 => ((show_join [(Dv.PV.str []), (Dv.PV.str (Dv.PV.toS v53)), (Dv.PV.str [(32 : UInt8)]), (Dv.PV.str [(100 : UInt8), (97 : UInt8), (121 : UInt8)]), (Dv.PV.str [])]).bind fun v54 => (show_postgres_c5 x0 x1 (Dv.PV.toS v54) x2 x3 x4 x5 x4))) else ((show_number x4).bind fun v55 => ((show_join [(Dv.PV.str []), (Dv.PV.str (Dv.PV.toS v55)), (Dv.PV.str [(32 : UInt8)]), (Dv.PV.str [(100 : UInt8), (97 : UInt8), (121 : UInt8)]), (Dv.PV.str [(115 : UInt8)])]).bind fun v56 => (show_postgres_c5 x0 x1 (Dv.PV.toS v56) x2 x3 x4 x5 x4)))))) :=
  (runW_eq EE _ _).trans (by kernel_rfl)
theorem show_postgres_c5_eq (x0 : List UInt8) (x1 : List UInt8) (x2 : List UInt8) (x3 : Int) (x4 : Int) (x5 : Int) (x6 : Int) (x7 : Int) : show_postgres_c5 x0 x1 x2 x3 x4 x5 x6 x7 =
    (bif (Dv.ltB (0 : Int) x6) then (bif (Dv.ltB x7 (0 : Int)) then (show_postgres_c7 x0 x1 x2 x3 x4 x5 x6) else (show_postgres_c8 x0 x1 x2 [] x3 x4 x5 x6 x7)) else (show_postgres_c8 x0 x1 x2 [] x3 x4 x5 x6 x7)) :=
  (runW_eq EE _ _).trans (by kernel_rfl)
theorem show_postgres_c7_eq (x0 : List UInt8) (x1 : List UInt8) (x2 : List UInt8) (x3 : Int) (x4 : Int) (x5 : Int) (x6 : Int) : show_postgres_c7 x0 x1 x2 x3 x4 x5 x6 =
    ((clock_Long x6).bind fun v57 => ((show_join [(Dv.PV.str [(43 : UInt8)]), (Dv.PV.str (Dv.PV.toS v57))]).bind fun v58 => ((show_between [(32 : UInt8)] [(Dv.PV.str x0), (Dv.PV.str x1), (Dv.PV.str x2), (Dv.PV.str (Dv.PV.toS v58))]).bind fun v59 => (some (Dv.PV.str (Dv.PV.toS v59)))))) :=
  (runW_eq EE _ _).trans (by kernel_rfl)
theorem show_postgres_c8_eq (x0 : List UInt8) (x1 : List UInt8) (x2 : List UInt8) (x3 : List UInt8) (x4 : Int) (x5 : Int) (x6 : Int) (x7 : Int) (x8 : Int) : show_postgres_c8 x0 x1 x2 x3 x4 x5 x6 x7 x8 =
    (bif (!(Dv.eqB x7 (0 : Int))) then ((clock_Long x7).bind fun v60 => ((show_between [(32 : UInt8)] [(Dv.PV.str x0), (Dv.PV.str x1), (Dv.PV.str x2), (Dv.PV.str (Dv.PV.toS v60))]).bind fun v61 => (some (Dv.PV.str (Dv.PV.toS v61))))) else (bif (Dv.eqB x8 (0 : Int)) then ((clock_Long x7).bind fun v62 => ((show_between [(32 : UInt8)] [(Dv.PV.str x0), (Dv.PV.str x1), (Dv.PV.str x2), (Dv.PV.str (Dv.PV.toS v62))]).bind fun v63 => (some (Dv.PV.str (Dv.PV.toS v63))))) else ((show_between [(32 : UInt8)] [(Dv.PV.str x0), (Dv.PV.str x1), (Dv.PV.str x2), (Dv.PV.str x3)]).bind fun v64 => (some (Dv.PV.str (Dv.PV.toS v64)))))) :=
  (runW_eq EE _ _).trans (by kernel_rfl)

theorem computusref19_sql_eq (a0_0 : Int) (a0_1 : Int) (a0_2 : Int) (a0_3 : Int) : computusref19_sql a0_0 a0_1 a0_2 a0_3 =
    ((computusref19_size a0_1).bind fun v81 => ((computusref19_size a0_2).bind fun v82 => ((computusref19_size a0_3).bind fun v83 => ((computusref03_Digits (Go.IntKind.wrap Go.IntKind.i64 (Int.tdiv (Dv.PV.toI (Dv.PV.tnth v81 0)) (12 : Int)))).bind fun v84 => ((Dv.catS (Dv.PV.toS (Dv.PV.tnth v81 1)) (Dv.PV.toS v84)).bind fun v85 => ((Dv.catS v85 [(45 : UInt8)]).bind fun v86 => ((computusref03_Digits (Int.tmod (Dv.PV.toI (Dv.PV.tnth v81 0)) (12 : Int))).bind fun v87 => ((Dv.catS v86 (Dv.PV.toS v87)).bind fun v88 => ((Dv.catS v88 [(32 : UInt8)]).bind fun v89 => ((Dv.catS v89 (Dv.PV.toS (Dv.PV.tnth v82 1))).bind fun v90 => ((computusref03_Digits (Dv.PV.toI (Dv.PV.tnth v82 0))).bind fun v91 => ((Dv.catS v90 (Dv.PV.toS v91)).bind fun v92 => ((Dv.catS v92 [(32 : UInt8)]).bind fun v93 => ((Dv.catS v93 (Dv.PV.toS (Dv.PV.tnth v83 1))).bind fun v94 => ((computusref03_Digits (Go.IntKind.wrap Go.IntKind.i64 (Int.tdiv (Go.IntKind.wrap Go.IntKind.i64 (Int.tdiv (Dv.PV.toI (Dv.PV.tnth v83 0)) (1000000 : Int))) (3600 : Int)))).bind fun v95 => ((Dv.catS v94 (Dv.PV.toS v95)).bind fun v96 => ((Dv.catS v96 [(58 : UInt8)]).bind fun v97 => ((computusref03_Two (Int.tmod (Go.IntKind.wrap Go.IntKind.i64 (Int.tdiv (Go.IntKind.wrap Go.IntKind.i64 (Int.tdiv (Dv.PV.toI (Dv.PV.tnth v83 0)) (1000000 : Int))) (60 : Int))) (60 : Int))).bind fun v98 => ((Dv.catS v97 (Dv.PV.toS v98)).bind fun v99 => ((Dv.catS v99 [(58 : UInt8)]).bind fun v100 => ((computusref03_Two (Int.tmod (Go.IntKind.wrap Go.IntKind.i64 (Int.tdiv (Dv.PV.toI (Dv.PV.tnth v83 0)) (1000000 : Int))) (60 : Int))).bind fun v101 => ((Dv.catS v100 (Dv.PV.toS v101)).bind fun v102 => ((computusref03_Fraction (Int.tmod (Dv.PV.toI (Dv.PV.tnth v83 0)) (1000000 : Int))).bind fun v103 => ((Dv.catS v102 (Dv.PV.toS v103)).bind fun v104 => (some (Dv.PV.str v104)))))))))))))))))))))))))) :=
  (callF_eq EE fn_computusref19_sql _ rfl).trans (by kernel_rfl)

theorem computusref19_iso_eq (a0_0 : Int) (a0_1 : Int) (a0_2 : Int) (a0_3 : Int) : computusref19_iso a0_0 a0_1 a0_2 a0_3 =
    ((computusref19_part (Go.IntKind.wrap Go.IntKind.i64 (Int.tdiv a0_1 (12 : Int))) [(89 : UInt8)]).bind fun v68 => ((Dv.catS [(80 : UInt8)] (Dv.PV.toS v68)).bind fun v69 => ((computusref19_part (Int.tmod a0_1 (12 : Int)) [(77 : UInt8)]).bind fun v70 => ((Dv.catS v69 (Dv.PV.toS v70)).bind fun v71 => ((computusref19_part a0_2 [(68 : UInt8)]).bind fun v72 => ((Dv.catS v71 (Dv.PV.toS v72)).bind fun v73 => (bif (!(Dv.eqB a0_3 (0 : Int))) then ((Dv.catS v73 [(84 : UInt8)]).bind fun v74 => ((computusref19_part (Go.IntKind.wrap Go.IntKind.i64 (Int.tdiv (Go.IntKind.wrap Go.IntKind.i64 (Int.tdiv a0_3 (1000000 : Int))) (3600 : Int))) [(72 : UInt8)]).bind fun v75 => ((Dv.catS v74 (Dv.PV.toS v75)).bind fun v76 => ((computusref19_part (Int.tmod (Go.IntKind.wrap Go.IntKind.i64 (Int.tdiv (Go.IntKind.wrap Go.IntKind.i64 (Int.tdiv a0_3 (1000000 : Int))) (60 : Int))) (60 : Int)) [(77 : UInt8)]).bind fun v77 => ((Dv.catS v76 (Dv.PV.toS v77)).bind fun v78 => ((computusref19_size (Int.tmod a0_3 (60000000 : Int))).bind fun v79 => (bif (!(Dv.eqB (Dv.PV.toI (Dv.PV.tnth v79 0)) (0 : Int))) then (bif (Dv.eqS (Dv.PV.toS (Dv.PV.tnth v79 1)) [(45 : UInt8)]) then ((Dv.catS v78 (Dv.PV.toS (Dv.PV.tnth v79 1))).bind fun v80 => (computusref19_iso_c8 v80 (Dv.PV.toI (Dv.PV.tnth v79 0)))) else (computusref19_iso_c8 v78 (Dv.PV.toI (Dv.PV.tnth v79 0)))) else (bif (Dv.eqS v78 [(80 : UInt8)]) then (some (Dv.PV.str [(80 : UInt8), (84 : UInt8), (48 : UInt8), (83 : UInt8)])) else (some (Dv.PV.str v78)))))))))) else (bif (Dv.eqS v73 [(80 : UInt8)]) then (some (Dv.PV.str [(80 : UInt8), (84 : UInt8), (48 : UInt8), (83 : UInt8)])) else (some (Dv.PV.str v73)))))))))) :=
  (callF_eq EE fn_computusref19_iso _ rfl).trans (by kernel_rfl)
theorem computusref19_iso_c8_eq (x0 : List UInt8) (x1 : Int) : computusref19_iso_c8 x0 x1 =
    ((computusref03_Digits (Go.IntKind.wrap Go.IntKind.i64 (Int.tdiv x1 (1000000 : Int)))).bind fun v81 => ((Dv.catS x0 (Dv.PV.toS v81)).bind fun v82 => ((computusref03_Fraction (Int.tmod x1 (1000000 : Int))).bind fun v83 => ((Dv.catS v82 (Dv.PV.toS v83)).bind fun v84 => ((Dv.catS v84 [(83 : UInt8)]).bind fun v85 => (bif (Dv.eqS v85 [(80 : UInt8)]) then (some (Dv.PV.str [(80 : UInt8), (84 : UInt8), (48 : UInt8), (83 : UInt8)])) else (some (Dv.PV.str v85)))))))) :=
  (runW_eq EE _ _).trans (by kernel_rfl)

theorem computusref19_postgres_eq (a0_0 : Int) (a0_1 : Int) (a0_2 : Int) (a0_3 : Int) : computusref19_postgres a0_0 a0_1 a0_2 a0_3 =
    (computusref19_postgres_c6 [] (0 : Int) (0 : Int) a0_0 a0_1 a0_2 a0_3 [(Dv.PV.int Go.IntKind.i64 (Go.IntKind.wrap Go.IntKind.i64 (Int.tdiv a0_1 (12 : Int)))), (Dv.PV.int Go.IntKind.i64 (Int.tmod a0_1 (12 : Int))), (Dv.PV.int Go.IntKind.i64 a0_2)] 3 [(Dv.PV.str [(121 : UInt8), (101 : UInt8), (97 : UInt8), (114 : UInt8)]), (Dv.PV.str [(109 : UInt8), (111 : UInt8), (110 : UInt8)]), (Dv.PV.str [(100 : UInt8), (97 : UInt8), (121 : UInt8)])] 3) :=
  (callF_eq EE fn_computusref19_postgres _ rfl).trans (by kernel_rfl)
theorem computusref19_postgres_c6_eq (x0 : List UInt8) (x1 : Int) (x2 : Int) (x3 : Int) (x4 : Int) (x5 : Int) (x6 : Int) (x7 : List PV) (x8 : Nat) (x9 : List PV) (x10 : Nat) : computusref19_postgres_c6 x0 x1 x2 x3 x4 x5 x6 x7 x8 x9 x10 =
    (bif (Dv.ltB x2 (3 : Int)) then (bif (Dv.inB (0 : Int) x2 (((List.length x7) : Nat) : Int)) then ((Dv.rdT (Dv.tiInt Go.IntKind.i64) x7 (Int.toNat x2) 0).bind fun v71 => (bif (Dv.eqB (Dv.PV.toI v71) (0 : Int)) then (computusref19_postgres_c7 x0 x1 x2 x3 x4 x5 x6 x7 x8 x9 x10) else (bif (!(Dv.eqS x0 [])) then ((Dv.catS x0 [(32 : UInt8)]).bind fun v72 => (computusref19_postgres_c11 v72 x1 x2 x3 x4 x5 x6 x7 x8 x9 x10)) else (computusref19_postgres_c11 x0 x1 x2 x3 x4 x5 x6 x7 x8 x9 x10)))) else none) else (bif (Dv.eqB x6 (0 : Int)) then (bif (!(Dv.eqS x0 [])) then (computusref19_postgres_c14 x0) else (computusref19_postgres_c15 x0 x1 x3 x4 x5 x6)) else (computusref19_postgres_c15 x0 x1 x3 x4 x5 x6))) :=
  (runW_eq EE _ _).trans (by kernel_rfl)
theorem computusref19_postgres_c7_eq (x0 : List UInt8) (x1 : Int) (x2 : Int) (x3 : Int) (x4 : Int) (x5 : Int) (x6 : Int) (x7 : List PV) (x8 : Nat) (x9 : List PV) (x10 : Nat) : computusref19_postgres_c7 x0 x1 x2 x3 x4 x5 x6 x7 x8 x9 x10 =
    (computusref19_postgres_c6 x0 x1 (Go.IntKind.wrap Go.IntKind.i64 (x2 + (1 : Int))) x3 x4 x5 x6 x7 x8 x9 x10) :=
  (runW_eq EE _ _).trans (by kernel_rfl)
theorem computusref19_postgres_c11_eq (x0 : List UInt8) (x1 : Int) (x2 : Int) (x3 : Int) (x4 : Int) (x5 : Int) (x6 : Int) (x7 : List PV) (x8 : Nat) (x9 : List PV) (x10 : Nat) : computusref19_postgres_c11 x0 x1 x2 x3 x4 x5 x6 x7 x8 x9 x10 =
    (bif (Dv.inB (0 : Int) x2 (((List.length x7) : Nat) : Int)) then ((Dv.rdT (Dv.tiInt Go.IntKind.i64) x7 (Int.toNat x2) 0).bind fun v73 => (bif (Dv.inB (0 : Int) x2 (((List.length x9) : Nat) : Int)) then ((Dv.rdT Dv.tiStr x9 (Int.toNat x2) 0).bind fun v74 => ((computusref19_unit (Dv.PV.toI v73) (Dv.PV.toS v74) x1).bind fun v75 => ((Dv.catS x0 (Dv.PV.toS v75)).bind fun v76 => (bif (Dv.inB (0 : Int) x2 (((List.length x7) : Nat) : Int)) then ((Dv.rdT (Dv.tiInt Go.IntKind.i64) x7 (Int.toNat x2) 0).bind fun v77 => (computusref19_postgres_c7 v76 (Dv.PV.toI v77) x2 x3 x4 x5 x6 x7 x8 x9 x10)) else none)))) else none)) else none) :=
  (runW_eq EE _ _).trans (by kernel_rfl)
theorem computusref19_postgres_c14_eq (x0 : List UInt8) : computusref19_postgres_c14 x0 =
    (some (Dv.PV.str x0)) :=
  (runW_eq EE _ _).trans (by kernel_rfl)
theorem computusref19_postgres_c15_eq (x0 : List UInt8) (x1 : Int) (x2 : Int) (x3 : Int) (x4 : Int) (x5 : Int) : computusref19_postgres_c15 x0 x1 x2 x3 x4 x5 =
    (bif (!(Dv.eqS x0 [])) then ((Dv.catS x0 [(32 : UInt8)]).bind fun v78 => (computusref19_postgres_c17 v78 x1 x2 x3 x4 x5)) else (computusref19_postgres_c17 x0 x1 x2 x3 x4 x5)) :=
  (runW_eq EE _ _).trans (by kernel_rfl)
theorem computusref19_postgres_c17_eq (x0 : List UInt8) (x1 : Int) (x2 : Int) (x3 : Int) (x4 : Int) (x5 : Int) : computusref19_postgres_c17 x0 x1 x2 x3 x4 x5 =
    (bif (Dv.ltB x1 (0 : Int)) then (bif (Dv.ltB (0 : Int) x5) then ((Dv.catS x0 [(43 : UInt8)]).bind fun v79 => ((computusref03_Long x5).bind fun v80 => ((Dv.catS v79 (Dv.PV.toS v80)).bind fun v81 => (some (Dv.PV.str v81))))) else ((computusref03_Long x5).bind fun v82 => ((Dv.catS x0 (Dv.PV.toS v82)).bind fun v83 => (some (Dv.PV.str v83))))) else ((computusref03_Long x5).bind fun v84 => ((Dv.catS x0 (Dv.PV.toS v84)).bind fun v85 => (some (Dv.PV.str v85))))) :=
  (runW_eq EE _ _).trans (by kernel_rfl)

theorem num_Neg_eq (a0 : Int) : num_Neg a0 =
    ((num_Sub (0 : Int) a0).bind fun v41 => (some (Dv.PV.tuple [(Dv.PV.int Go.IntKind.i64 (Dv.PV.toI (Dv.PV.tnth v41 0))), (Dv.PV.int Go.IntKind.i64 (Dv.PV.toI (Dv.PV.tnth v41 1)))]))) :=
  (callF_eq EE fn_num_Neg _ rfl).trans (by kernel_rfl)

theorem span_within_eq (a0 : Int) : span_within a0 =
    (bif (Dv.leB (-2147483647 : Int) a0) then (some (Dv.PV.bool (Dv.leB a0 (2147483647 : Int)))) else (some (Dv.PV.bool Bool.false))) :=
  (callF_eq EE fn_span_within _ rfl).trans (by kernel_rfl)

theorem computusref16_within_eq (a0 : Int) (a1 : Int) : computusref16_within a0 a1 =
    (bif (Dv.leB (Go.IntKind.wrap Go.IntKind.i64 ((0 : Int) - a1)) a0) then (some (Dv.PV.bool (Dv.leB a0 a1))) else (some (Dv.PV.bool Bool.false))) :=
  (callF_eq EE fn_computusref16_within _ rfl).trans (by kernel_rfl)

theorem civil_Date_eq (a0 : Int) : civil_Date a0 =
    ((civil_can a0).bind fun v105 => (bif (!(Dv.PV.toB v105)) then (some (Dv.PV.tuple [(Dv.PV.int Go.IntKind.i64 (0 : Int)), (Dv.PV.int Go.IntKind.i64 (0 : Int)), (Dv.PV.int Go.IntKind.i64 (0 : Int)), (Dv.PV.int Go.IntKind.i64 (10 : Int))])) else ((civil_parts a0).bind fun v106 => (some (Dv.PV.tuple [(Dv.PV.int Go.IntKind.i64 (Dv.PV.toI (Dv.PV.tnth v106 0))), (Dv.PV.int Go.IntKind.i64 (Dv.PV.toI (Dv.PV.tnth v106 1))), (Dv.PV.int Go.IntKind.i64 (Dv.PV.toI (Dv.PV.tnth v106 2))), (Dv.PV.int Go.IntKind.i64 (0 : Int))]))))) :=
  (callF_eq EE fn_civil_Date _ rfl).trans (by kernel_rfl)

theorem bits_Mul_eq (a0 : Int) (a1 : Int) : bits_Mul a0 a1 =
    ((bits_Mul64 a0 a1).bind fun v86 => (some (Dv.PV.tuple [(Dv.PV.int Go.IntKind.u64 (Dv.PV.toI (Dv.PV.tnth v86 0))), (Dv.PV.int Go.IntKind.u64 (Dv.PV.toI (Dv.PV.tnth v86 1)))]))) :=
  (callF_eq EE fn_bits_Mul _ rfl).trans (by kernel_rfl)

theorem strings_HasPrefix_eq (a0 : List UInt8) (a1 : List UInt8) : strings_HasPrefix a0 a1 =
    ((stringslite_HasPrefix a0 a1).bind fun v86 => (some (Dv.PV.bool (Dv.PV.toB v86)))) :=
  (callF_eq EE fn_strings_HasPrefix _ rfl).trans (by kernel_rfl)

theorem clock_digits_eq (a0 : Int) (a1 : Int) : clock_digits a0 a1 =
    (clock_digits_c3 a0 a1 (20 : Int) [(Dv.PV.int Go.IntKind.u8 (0 : Int)), (Dv.PV.int Go.IntKind.u8 (0 : Int)), (Dv.PV.int Go.IntKind.u8 (0 : Int)), (Dv.PV.int Go.IntKind.u8 (0 : Int)), (Dv.PV.int Go.IntKind.u8 (0 : Int)), (Dv.PV.int Go.IntKind.u8 (0 : Int)), (Dv.PV.int Go.IntKind.u8 (0 : Int)), (Dv.PV.int Go.IntKind.u8 (0 : Int)), (Dv.PV.int Go.IntKind.u8 (0 : Int)), (Dv.PV.int Go.IntKind.u8 (0 : Int)), (Dv.PV.int Go.IntKind.u8 (0 : Int)), (Dv.PV.int Go.IntKind.u8 (0 : Int)), (Dv.PV.int Go.IntKind.u8 (0 : Int)), (Dv.PV.int Go.IntKind.u8 (0 : Int)), (Dv.PV.int Go.IntKind.u8 (0 : Int)), (Dv.PV.int Go.IntKind.u8 (0 : Int)), (Dv.PV.int Go.IntKind.u8 (0 : Int)), (Dv.PV.int Go.IntKind.u8 (0 : Int)), (Dv.PV.int Go.IntKind.u8 (0 : Int)), (Dv.PV.int Go.IntKind.u8 (0 : Int))] 20) :=
  (callF_eq EE fn_clock_digits _ rfl).trans (by kernel_rfl)
theorem clock_digits_c3_eq (x0 : Int) (x1 : Int) (x2 : Int) (x3 : List PV) (x4 : Nat) : clock_digits_c3 x0 x1 x2 x3 x4 =
    (bif (Dv.ltB (0 : Int) x0) then (clock_digits_c5 x0 x1 x2 x3 x4) else (bif (Dv.ltB (Go.IntKind.wrap Go.IntKind.i64 ((20 : Int) - x1)) x2) then (clock_digits_c5 x0 x1 x2 x3 x4) else (bif (Dv.eqN (List.length x3) 20) then (bif (Dv.eqN x4 20) then (bif (decide (((0 : Int) ≤ x2) ∧ (x2 ≤ ((20 : Nat) : Int)))) then ((Dv.bytesOf (List.take (20 - (Int.toNat x2)) (List.drop (Int.toNat x2) x3))).bind fun v87 => (some (Dv.PV.str v87))) else none) else none) else none))) :=
  (runW_eq EE _ _).trans (by kernel_rfl)
theorem clock_digits_c5_eq (x0 : Int) (x1 : Int) (x2 : Int) (x3 : List PV) (x4 : Nat) : clock_digits_c5 x0 x1 x2 x3 x4 =
    (bif (Dv.inB (0 : Int) (Go.IntKind.wrap Go.IntKind.i64 (x2 - (1 : Int))) ((20 : Nat) : Int)) then ((Dv.stC x3 (Int.toNat (Go.IntKind.wrap Go.IntKind.i64 (x2 - (1 : Int)))) 0 [(Dv.PV.int Go.IntKind.u8 (Go.IntKind.wrap Go.IntKind.u8 (Go.IntKind.wrap Go.IntKind.u64 ((48 : Int) + (Int.tmod x0 (10 : Int))))))]).bind fun v88 => (clock_digits_c3 (Go.IntKind.wrap Go.IntKind.u64 (Int.tdiv x0 (10 : Int))) x1 (Go.IntKind.wrap Go.IntKind.i64 (x2 - (1 : Int))) v88 x4)) else none) :=
  (runW_eq EE _ _).trans (by kernel_rfl)

theorem strings_Join_eq (a0 : List PV) (a1 : List UInt8) : strings_Join a0 a1 =
    (bif (Dv.eqB (((List.length a0) : Nat) : Int) (0 : Int)) then (some (Dv.PV.str [])) else (bif (Dv.eqB (((List.length a0) : Nat) : Int) (1 : Int)) then ((Dv.rdI Dv.tiStr a0 (0 : Int)).bind fun v87 => (some (Dv.PV.str (Dv.PV.toS v87)))) else (bif (Dv.ltB (0 : Int) (((List.length a1) : Nat) : Int)) then (bif (Dv.eqB (Go.IntKind.wrap Go.IntKind.i64 ((((List.length a0) : Nat) : Int) - (1 : Int))) (0 : Int)) then none else (bif (Dv.leB (Go.IntKind.wrap Go.IntKind.i64 (Int.tdiv (9223372036854775807 : Int) (Go.IntKind.wrap Go.IntKind.i64 ((((List.length a0) : Nat) : Int) - (1 : Int))))) (((List.length a1) : Nat) : Int)) then none else (strings_Join_c10 a0 a1 (0 : Int)))) else (strings_Join_c11 a0 a1 (0 : Int))))) :=
  (callF_eq EE fn_strings_Join _ rfl).trans (by kernel_rfl)
theorem strings_Join_c10_eq (x0 : List PV) (x1 : List UInt8) (x2 : Int) : strings_Join_c10 x0 x1 x2 =
    (strings_Join_c11 x0 x1 (Go.IntKind.wrap Go.IntKind.i64 (x2 + (Go.IntKind.wrap Go.IntKind.i64 ((((List.length x1) : Nat) : Int) * (Go.IntKind.wrap Go.IntKind.i64 ((((List.length x0) : Nat) : Int) - (1 : Int)))))))) :=
  (runW_eq EE _ _).trans (by kernel_rfl)
theorem strings_Join_c11_eq (x0 : List PV) (x1 : List UInt8) (x2 : Int) : strings_Join_c11 x0 x1 x2 =
    (strings_Join_c12 x0 x1 x2 x0 (((List.length x0) : Nat) : Int) (0 : Int)) :=
  (runW_eq EE _ _).trans (by kernel_rfl)
theorem strings_Join_c12_eq (x0 : List PV) (x1 : List UInt8) (x2 : Int) (x3 : List PV) (x4 : Int) (x5 : Int) : strings_Join_c12 x0 x1 x2 x3 x4 x5 =
    (bif (Dv.ltB x5 x4) then ((Dv.rdI Dv.tiStr x3 x5).bind fun v88 => (bif (Dv.ltB (Go.IntKind.wrap Go.IntKind.i64 ((9223372036854775807 : Int) - x2)) (((List.length (Dv.PV.toS v88)) : Nat) : Int)) then none else (strings_Join_c16 x0 x1 x2 (Dv.PV.toS v88) x3 x4 x5))) else (bif (Dv.ltB x2 (0 : Int)) then none else (bif (Dv.ltB (Go.IntKind.wrap Go.IntKind.i64 ((0 : Int) - (0 : Int))) x2) then (bif (decide (((0 : Int) ≤ (Go.IntKind.wrap Go.IntKind.i64 ((Go.IntKind.wrap Go.IntKind.i64 ((2 : Int) * (0 : Int))) + x2))) ∧ ((Go.IntKind.wrap Go.IntKind.i64 ((Go.IntKind.wrap Go.IntKind.i64 ((2 : Int) * (0 : Int))) + x2)) ≤ (281474976710656 : Int)))) then (strings_Join_c20 x0 x1 []) else none) else (strings_Join_c20_1 x0 x1)))) :=
  (runW_eq EE _ _).trans (by kernel_rfl)
theorem strings_Join_c16_eq (x0 : List PV) (x1 : List UInt8) (x2 : Int) (x3 : List UInt8) (x4 : List PV) (x5 : Int) (x6 : Int) : strings_Join_c16 x0 x1 x2 x3 x4 x5 x6 =
    (strings_Join_c12 x0 x1 (Go.IntKind.wrap Go.IntKind.i64 (x2 + (((List.length x3) : Nat) : Int))) x4 x5 (Go.IntKind.wrap Go.IntKind.i64 (x6 + (1 : Int)))) :=
  (runW_eq EE _ _).trans (by kernel_rfl)
theorem strings_Join_c20_eq (x0 : List PV) (x1 : List UInt8) (x2 : List PV) : strings_Join_c20 x0 x1 x2 =
    ((Dv.rdI Dv.tiStr x0 (0 : Int)).bind fun v89 => ((Dv.appL 1 x2 (List.map Dv.byteV (Dv.PV.toS v89))).bind fun v90 => (strings_Join_c21 x0 x1 v90))) :=
  (runW_eq EE _ _).trans (by kernel_rfl)
theorem strings_Join_c20_1_eq (x0 : List PV) (x1 : List UInt8) : strings_Join_c20_1 x0 x1 =
    ((Dv.rdI Dv.tiStr x0 (0 : Int)).bind fun v91 => ((Dv.appL 1 [] (List.map Dv.byteV (Dv.PV.toS v91))).bind fun v92 => (strings_Join_c21 x0 x1 v92))) :=
  (runW_eq EE _ _).trans (by kernel_rfl)
theorem strings_Join_c21_eq (x0 : List PV) (x1 : List UInt8) (x2 : List PV) : strings_Join_c21 x0 x1 x2 =
    ((Dv.dropS x0 (1 : Int)).bind fun v93 => (strings_Join_c22 x1 v93 (((List.length v93) : Nat) : Int) (0 : Int) x2)) :=
  (runW_eq EE _ _).trans (by kernel_rfl)
theorem strings_Join_c22_eq (x0 : List UInt8) (x1 : List PV) (x2 : Int) (x3 : Int) (x4 : List PV) : strings_Join_c22 x0 x1 x2 x3 x4 =
    (bif (Dv.ltB x3 x2) then ((Dv.rdI Dv.tiStr x1 x3).bind fun v94 => ((Dv.appL 1 x4 (List.map Dv.byteV x0)).bind fun v95 => ((Dv.appL 1 v95 (List.map Dv.byteV (Dv.PV.toS v94))).bind fun v96 => (strings_Join_c22 x0 x1 x2 (Go.IntKind.wrap Go.IntKind.i64 (x3 + (1 : Int))) v96)))) else (bif (Dv.isNilL x4) then none else (bif (Bool.true && (!(Dv.isNilL x4))) then (bif (decide (((((List.length x4) : Nat) : Int) = (((List.length x4) : Nat) : Int)) ∧ ((((List.length x4) : Nat) : Int) ≤ (9223372036854775807 : Int)))) then ((Dv.bytesOf x4).bind fun v97 => (some (Dv.PV.str v97))) else none) else none))) :=
  (runW_eq EE _ _).trans (by kernel_rfl)

theorem computusref02_Date_eq (a0 : Int) : computusref02_Date a0 =
    ((computusref02_Can a0).bind fun v49 => (bif (!(Dv.PV.toB v49)) then (some (Dv.PV.tuple [(Dv.PV.int Go.IntKind.i64 (0 : Int)), (Dv.PV.int Go.IntKind.i64 (0 : Int)), (Dv.PV.int Go.IntKind.i64 (0 : Int)), (Dv.PV.int Go.IntKind.i64 (10 : Int))])) else ((computusref02_div a0 (146097 : Int)).bind fun v50 => ((computusref02_mod a0 (146097 : Int)).bind fun v51 => (computusref02_Date_c5 (Go.IntKind.wrap Go.IntKind.i64 ((2000 : Int) + (Go.IntKind.wrap Go.IntKind.i64 ((Dv.PV.toI v50) * (400 : Int))))) (Dv.PV.toI v51)))))) :=
  (callF_eq EE fn_computusref02_Date _ rfl).trans (by kernel_rfl)
theorem computusref02_Date_c5_eq (x0 : Int) (x1 : Int) : computusref02_Date_c5 x0 x1 =
    ((computusref02_Leap x0).bind fun v52 => (bif (Dv.PV.toB v52) then (computusref02_Date_c8 x0 x1 (366 : Int)) else (computusref02_Date_c8 x0 x1 (365 : Int)))) :=
  (runW_eq EE _ _).trans (by kernel_rfl)
theorem computusref02_Date_c8_eq (x0 : Int) (x1 : Int) (x2 : Int) : computusref02_Date_c8 x0 x1 x2 =
    (bif (Dv.ltB x1 x2) then (computusref02_Date_c12 x0 x1 (1 : Int)) else (computusref02_Date_c5 (Go.IntKind.wrap Go.IntKind.i64 (x0 + (1 : Int))) (Go.IntKind.wrap Go.IntKind.i64 (x1 - x2)))) :=
  (runW_eq EE _ _).trans (by kernel_rfl)
theorem computusref02_Date_c12_eq (x0 : Int) (x1 : Int) (x2 : Int) : computusref02_Date_c12 x0 x1 x2 =
    ((computusref02_Len x0 x2).bind fun v53 => (bif (Dv.leB (Dv.PV.toI v53) x1) then ((computusref02_Len x0 x2).bind fun v54 => (computusref02_Date_c12 x0 (Go.IntKind.wrap Go.IntKind.i64 (x1 - (Dv.PV.toI v54))) (Go.IntKind.wrap Go.IntKind.i64 (x2 + (1 : Int))))) else (some (Dv.PV.tuple [(Dv.PV.int Go.IntKind.i64 x0), (Dv.PV.int Go.IntKind.i64 x2), (Dv.PV.int Go.IntKind.i64 (Go.IntKind.wrap Go.IntKind.i64 (x1 + (1 : Int)))), (Dv.PV.int Go.IntKind.i64 (0 : Int))])))) :=
  (runW_eq EE _ _).trans (by kernel_rfl)

theorem num_Div_eq (a0 : Int) (a1 : Int) : num_Div a0 a1 =
    ((num_Scale a0 (1 : Int) a1).bind fun v51 => (some (Dv.PV.tuple [(Dv.PV.int Go.IntKind.i64 (Dv.PV.toI (Dv.PV.tnth v51 0))), (Dv.PV.int Go.IntKind.i64 (Dv.PV.toI (Dv.PV.tnth v51 1)))]))) :=
  (callF_eq EE fn_num_Div _ rfl).trans (by kernel_rfl)

theorem num_Mod_eq (a0 : Int) (a1 : Int) : num_Mod a0 a1 =
    (bif (Dv.eqB a1 (0 : Int)) then (some (Dv.PV.tuple [(Dv.PV.int Go.IntKind.i64 (0 : Int)), (Dv.PV.int Go.IntKind.i64 (11 : Int))])) else (bif (Dv.eqB a1 (-1 : Int)) then (some (Dv.PV.tuple [(Dv.PV.int Go.IntKind.i64 (0 : Int)), (Dv.PV.int Go.IntKind.i64 (0 : Int))])) else (bif (Dv.eqB a1 (0 : Int)) then none else (bif (!(Dv.eqB (Int.tmod a0 a1) (0 : Int))) then (bif (!((Dv.ltB (Int.tmod a0 a1) (0 : Int)) == (Dv.ltB a1 (0 : Int)))) then (some (Dv.PV.tuple [(Dv.PV.int Go.IntKind.i64 (Go.IntKind.wrap Go.IntKind.i64 ((Int.tmod a0 a1) + a1))), (Dv.PV.int Go.IntKind.i64 (0 : Int))])) else (some (Dv.PV.tuple [(Dv.PV.int Go.IntKind.i64 (Int.tmod a0 a1)), (Dv.PV.int Go.IntKind.i64 (0 : Int))]))) else (some (Dv.PV.tuple [(Dv.PV.int Go.IntKind.i64 (Int.tmod a0 a1)), (Dv.PV.int Go.IntKind.i64 (0 : Int))])))))) :=
  (callF_eq EE fn_num_Mod _ rfl).trans (by kernel_rfl)

theorem clock_within_eq (a0 : Int) (a1 : Int) : clock_within a0 a1 =
    (bif (Dv.leB (0 : Int) a0) then (some (Dv.PV.bool (Dv.leB a0 a1))) else (some (Dv.PV.bool Bool.false))) :=
  (callF_eq EE fn_clock_within _ rfl).trans (by kernel_rfl)

theorem clock_text_eq (a0 : Int) : clock_text a0 =
    ((clock_parts a0).bind fun v89 => ((clock_Two (Dv.PV.toI (Dv.PV.tnth v89 0))).bind fun v90 => ((Dv.catS (Dv.PV.toS v90) [(58 : UInt8)]).bind fun v91 => ((clock_Two (Dv.PV.toI (Dv.PV.tnth v89 1))).bind fun v92 => ((Dv.catS v91 (Dv.PV.toS v92)).bind fun v93 => ((Dv.catS v93 [(58 : UInt8)]).bind fun v94 => ((clock_Two (Dv.PV.toI (Dv.PV.tnth v89 2))).bind fun v95 => ((Dv.catS v94 (Dv.PV.toS v95)).bind fun v96 => ((clock_Fraction (Dv.PV.toI (Dv.PV.tnth v89 3))).bind fun v97 => ((Dv.catS v96 (Dv.PV.toS v97)).bind fun v98 => (some (Dv.PV.str v98)))))))))))) :=
  (callF_eq EE fn_clock_text _ rfl).trans (by kernel_rfl)

theorem computusref01_Div_eq (a0 : Int) (a1 : Int) : computusref01_Div a0 a1 =
    (bif (Dv.eqB a1 (0 : Int)) then (some (Dv.PV.tuple [(Dv.PV.int Go.IntKind.i64 (0 : Int)), (Dv.PV.int Go.IntKind.i64 (11 : Int))])) else ((computusref01_Of a0).bind fun v98 => ((computusref01_Of a1).bind fun v99 => ((computusref01_Over (Dv.PV.toB (Dv.PV.nth v98 0)) (Dv.PV.toL (Dv.PV.nth v98 1)) (Dv.PV.toB (Dv.PV.nth v99 0)) (Dv.PV.toL (Dv.PV.nth v99 1))).bind fun v100 => ((computusref01_Small (Dv.PV.toB (Dv.PV.nth v100 0)) (Dv.PV.toL (Dv.PV.nth v100 1))).bind fun v101 => (some (Dv.PV.tuple [(Dv.PV.int Go.IntKind.i64 (Dv.PV.toI (Dv.PV.tnth v101 0))), (Dv.PV.int Go.IntKind.i64 (Dv.PV.toI (Dv.PV.tnth v101 1)))]))))))) :=
  (callF_eq EE fn_computusref01_Div _ rfl).trans (by kernel_rfl)

theorem computusref01_Mod_eq (a0 : Int) (a1 : Int) : computusref01_Mod a0 a1 =
    (bif (Dv.eqB a1 (0 : Int)) then (some (Dv.PV.tuple [(Dv.PV.int Go.IntKind.i64 (0 : Int)), (Dv.PV.int Go.IntKind.i64 (11 : Int))])) else ((computusref01_Of a0).bind fun v55 => ((computusref01_Of a1).bind fun v56 => ((computusref01_Of a0).bind fun v57 => ((computusref01_Of a1).bind fun v58 => ((computusref01_Over (Dv.PV.toB (Dv.PV.nth v57 0)) (Dv.PV.toL (Dv.PV.nth v57 1)) (Dv.PV.toB (Dv.PV.nth v58 0)) (Dv.PV.toL (Dv.PV.nth v58 1))).bind fun v59 => ((computusref01_Times (Dv.PV.toB (Dv.PV.nth v56 0)) (Dv.PV.toL (Dv.PV.nth v56 1)) (Dv.PV.toB (Dv.PV.nth v59 0)) (Dv.PV.toL (Dv.PV.nth v59 1))).bind fun v60 => ((computusref01_Minus (Dv.PV.toB (Dv.PV.nth v60 0)) (Dv.PV.toL (Dv.PV.nth v60 1))).bind fun v61 => ((computusref01_Plus (Dv.PV.toB (Dv.PV.nth v55 0)) (Dv.PV.toL (Dv.PV.nth v55 1)) (Dv.PV.toB (Dv.PV.nth v61 0)) (Dv.PV.toL (Dv.PV.nth v61 1))).bind fun v62 => ((computusref01_Small (Dv.PV.toB (Dv.PV.nth v62 0)) (Dv.PV.toL (Dv.PV.nth v62 1))).bind fun v63 => (some (Dv.PV.tuple [(Dv.PV.int Go.IntKind.i64 (Dv.PV.toI (Dv.PV.tnth v63 0))), (Dv.PV.int Go.IntKind.i64 (Dv.PV.toI (Dv.PV.tnth v63 1)))])))))))))))) :=
  (callF_eq EE fn_computusref01_Mod _ rfl).trans (by kernel_rfl)

theorem computusref03_Parts_eq (a0 : Int) : computusref03_Parts a0 =
    (bif (Dv.ltB a0 (0 : Int)) then computusref03_Parts_c2 else (bif (Dv.ltB (86400000000 : Int) a0) then computusref03_Parts_c2 else (computusref03_Parts_c3 a0))) :=
  (callF_eq EE fn_computusref03_Parts _ rfl).trans (by kernel_rfl)
theorem computusref03_Parts_c2_eq  : computusref03_Parts_c2  =
    (some (Dv.PV.tuple [(Dv.PV.int Go.IntKind.i64 (0 : Int)), (Dv.PV.int Go.IntKind.i64 (0 : Int)), (Dv.PV.int Go.IntKind.i64 (0 : Int)), (Dv.PV.int Go.IntKind.i64 (0 : Int)), (Dv.PV.int Go.IntKind.i64 (10 : Int))])) :=
  (runW_eq EE _ _).trans (by kernel_rfl)
theorem computusref03_Parts_c3_eq (x0 : Int) : computusref03_Parts_c3 x0 =
    (some (Dv.PV.tuple [(Dv.PV.int Go.IntKind.i64 (Go.IntKind.wrap Go.IntKind.i64 (Int.tdiv (Go.IntKind.wrap Go.IntKind.i64 (Int.tdiv x0 (1000000 : Int))) (3600 : Int)))), (Dv.PV.int Go.IntKind.i64 (Int.tmod (Go.IntKind.wrap Go.IntKind.i64 (Int.tdiv (Go.IntKind.wrap Go.IntKind.i64 (Int.tdiv x0 (1000000 : Int))) (60 : Int))) (60 : Int))), (Dv.PV.int Go.IntKind.i64 (Int.tmod (Go.IntKind.wrap Go.IntKind.i64 (Int.tdiv x0 (1000000 : Int))) (60 : Int))), (Dv.PV.int Go.IntKind.i64 (Int.tmod x0 (1000000 : Int))), (Dv.PV.int Go.IntKind.i64 (0 : Int))])) :=
  (runW_eq EE _ _).trans (by kernel_rfl)

theorem computusref03_Fraction_eq (a0 : Int) : computusref03_Fraction a0 =
    (bif (Dv.ltB a0 (1 : Int)) then computusref03_Fraction_c2 else (bif (Dv.ltB (999999 : Int) a0) then computusref03_Fraction_c2 else (computusref03_Fraction_c3 a0))) :=
  (callF_eq EE fn_computusref03_Fraction _ rfl).trans (by kernel_rfl)
theorem computusref03_Fraction_c2_eq  : computusref03_Fraction_c2  =
    (some (Dv.PV.str [])) :=
  (runW_eq EE _ _).trans (by kernel_rfl)
theorem computusref03_Fraction_c3_eq (x0 : Int) : computusref03_Fraction_c3 x0 =
    ((computusref03_Digits (Go.IntKind.wrap Go.IntKind.i64 ((1000000 : Int) + x0))).bind fun v75 => ((Dv.dropS (Dv.PV.toS v75) (1 : Int)).bind fun v76 => (computusref03_Fraction_c4 v76))) :=
  (runW_eq EE _ _).trans (by kernel_rfl)
theorem computusref03_Fraction_c4_eq (x0 : List UInt8) : computusref03_Fraction_c4 x0 =
    ((Dv.atS x0 (Go.IntKind.wrap Go.IntKind.i64 ((((List.length x0) : Nat) : Int) - (1 : Int)))).bind fun v77 => (bif (Dv.eqB v77 (48 : Int)) then ((Dv.takeS x0 (Go.IntKind.wrap Go.IntKind.i64 ((((List.length x0) : Nat) : Int) - (1 : Int)))).bind fun v78 => (computusref03_Fraction_c4 v78)) else ((Dv.catS [(46 : UInt8)] x0).bind fun v79 => (some (Dv.PV.str v79))))) :=
  (runW_eq EE _ _).trans (by kernel_rfl)

theorem show_signed_eq (a0 : Int) : show_signed a0 =
    (bif (Dv.ltB a0 (0 : Int)) then (some (Dv.PV.tuple [(Dv.PV.str [(45 : UInt8)]), (Dv.PV.int Go.IntKind.i64 (Go.IntKind.wrap Go.IntKind.i64 ((0 : Int) - a0)))])) else (some (Dv.PV.tuple [(Dv.PV.str [(43 : UInt8)]), (Dv.PV.int Go.IntKind.i64 a0)]))) :=
  (callF_eq EE fn_show_signed _ rfl).trans (by kernel_rfl)

theorem strings_Cut_eq (a0 : List UInt8) (a1 : List UInt8) : strings_Cut a0 a1 =
    ((stringslite_Cut a0 a1).bind fun v99 => (some (Dv.PV.tuple [(Dv.PV.str (Dv.PV.toS (Dv.PV.tnth v99 0))), (Dv.PV.str (Dv.PV.toS (Dv.PV.tnth v99 1))), (Dv.PV.bool (Dv.PV.toB (Dv.PV.tnth v99 2)))]))) :=
  (callF_eq EE fn_strings_Cut _ rfl).trans (by kernel_rfl)

theorem clock_Long_eq (a0 : Int) : clock_Long a0 =
    (bif (Dv.ltB a0 (0 : Int)) then ((clock_text (Go.IntKind.wrap Go.IntKind.u64 ((0 : Int) - (Go.IntKind.wrap Go.IntKind.u64 a0)))).bind fun v102 => ((Dv.catS [(45 : UInt8)] (Dv.PV.toS v102)).bind fun v103 => (some (Dv.PV.str v103)))) else ((clock_text (Go.IntKind.wrap Go.IntKind.u64 a0)).bind fun v104 => (some (Dv.PV.str (Dv.PV.toS v104))))) :=
  (callF_eq EE fn_clock_Long _ rfl).trans (by kernel_rfl)

theorem show_letter_eq (a0 : Int) (a1 : List UInt8) : show_letter a0 a1 =
    (bif (Dv.eqB a0 (0 : Int)) then (some (Dv.PV.str [])) else ((show_number a0).bind fun v64 => ((show_join [(Dv.PV.str (Dv.PV.toS v64)), (Dv.PV.str a1)]).bind fun v65 => (some (Dv.PV.str (Dv.PV.toS v65)))))) :=
  (callF_eq EE fn_show_letter _ rfl).trans (by kernel_rfl)

theorem show_seconds_eq (a0 : Int) : show_seconds a0 =
    (bif (Dv.eqB a0 (0 : Int)) then (some (Dv.PV.str [])) else ((show_signed a0).bind fun v52 => ((strings_TrimPrefix (Dv.PV.toS (Dv.PV.tnth v52 0)) [(43 : UInt8)]).bind fun v53 => ((show_digits (Go.IntKind.wrap Go.IntKind.i64 (Int.tdiv (Dv.PV.toI (Dv.PV.tnth v52 1)) (1000000 : Int)))).bind fun v54 => ((clock_Fraction (Int.tmod (Dv.PV.toI (Dv.PV.tnth v52 1)) (1000000 : Int))).bind fun v55 => ((show_join [(Dv.PV.str (Dv.PV.toS v53)), (Dv.PV.str (Dv.PV.toS v54)), (Dv.PV.str (Dv.PV.toS v55)), (Dv.PV.str [(83 : UInt8)])]).bind fun v56 => (some (Dv.PV.str (Dv.PV.toS v56))))))))) :=
  (callF_eq EE fn_show_seconds _ rfl).trans (by kernel_rfl)

theorem num_Add_eq (a0 : Int) (a1 : Int) : num_Add a0 a1 =
    (bif (!((Dv.ltB a0 (Go.IntKind.wrap Go.IntKind.i64 (a0 + a1))) == (Dv.ltB (0 : Int) a1))) then (some (Dv.PV.tuple [(Dv.PV.int Go.IntKind.i64 (0 : Int)), (Dv.PV.int Go.IntKind.i64 (10 : Int))])) else (some (Dv.PV.tuple [(Dv.PV.int Go.IntKind.i64 (Go.IntKind.wrap Go.IntKind.i64 (a0 + a1))), (Dv.PV.int Go.IntKind.i64 (0 : Int))]))) :=
  (callF_eq EE fn_num_Add _ rfl).trans (by kernel_rfl)

theorem computusref02_First_eq  : computusref02_First  =
    ((computusref02_day (-4718 : Int) (1 : Int) (1 : Int)).bind fun v66 => (some (Dv.PV.int Go.IntKind.i64 (Dv.PV.toI v66)))) :=
  (callF_eq EE fn_computusref02_First _ rfl).trans (by kernel_rfl)

theorem civil_First_eq  : civil_First  =
    ((civil_day (-4718 : Int) (1 : Int) (1 : Int)).bind fun v67 => (some (Dv.PV.int Go.IntKind.i64 (Dv.PV.toI v67)))) :=
  (callF_eq EE fn_civil_First _ rfl).trans (by kernel_rfl)

theorem civil_Last_eq  : civil_Last  =
    ((civil_day (294282 : Int) (12 : Int) (31 : Int)).bind fun v61 => (some (Dv.PV.int Go.IntKind.i64 (Dv.PV.toI v61)))) :=
  (callF_eq EE fn_civil_Last _ rfl).trans (by kernel_rfl)

theorem computusref19_size_eq (a0 : Int) : computusref19_size a0 =
    (bif (Dv.ltB a0 (0 : Int)) then (some (Dv.PV.tuple [(Dv.PV.int Go.IntKind.i64 (Go.IntKind.wrap Go.IntKind.i64 ((0 : Int) - a0))), (Dv.PV.str [(45 : UInt8)])])) else (some (Dv.PV.tuple [(Dv.PV.int Go.IntKind.i64 a0), (Dv.PV.str [(43 : UInt8)])]))) :=
  (callF_eq EE fn_computusref19_size _ rfl).trans (by kernel_rfl)

theorem computusref19_part_eq (a0 : Int) (a1 : List UInt8) : computusref19_part a0 a1 =
    (bif (Dv.eqB a0 (0 : Int)) then (some (Dv.PV.str [])) else ((computusref03_Digits a0).bind fun v108 => ((Dv.catS (Dv.PV.toS v108) a1).bind fun v109 => (some (Dv.PV.str v109))))) :=
  (callF_eq EE fn_computusref19_part _ rfl).trans (by kernel_rfl)

theorem computusref19_unit_eq (a0 : Int) (a1 : List UInt8) (a2 : Int) : computusref19_unit a0 a1 a2 =
    ((computusref03_Digits a0).bind fun v68 => ((Dv.catS (Dv.PV.toS v68) [(32 : UInt8)]).bind fun v69 => ((Dv.catS v69 a1).bind fun v70 => (bif (!(Dv.eqB a0 (1 : Int))) then ((Dv.catS v70 [(115 : UInt8)]).bind fun v71 => (computusref19_unit_c4 a0 a2 v71)) else (computusref19_unit_c4 a0 a2 v70))))) :=
  (callF_eq EE fn_computusref19_unit _ rfl).trans (by kernel_rfl)
theorem computusref19_unit_c4_eq (x0 : Int) (x1 : Int) (x2 : List UInt8) : computusref19_unit_c4 x0 x1 x2 =
    (bif (Dv.ltB x1 (0 : Int)) then (bif (Dv.ltB (0 : Int) x0) then ((Dv.catS [(43 : UInt8)] x2).bind fun v72 => (some (Dv.PV.str v72))) else (some (Dv.PV.str x2))) else (some (Dv.PV.str x2))) :=
  (runW_eq EE _ _).trans (by kernel_rfl)

theorem computusref03_Long_eq (a0 : Int) : computusref03_Long a0 =
    (bif (Dv.ltB a0 (0 : Int)) then (computusref03_Long_c6 (Go.IntKind.wrap Go.IntKind.u64 ((0 : Int) - (Go.IntKind.wrap Go.IntKind.u64 a0))) [(45 : UInt8)]) else (computusref03_Long_c6 (Go.IntKind.wrap Go.IntKind.u64 a0) [])) :=
  (callF_eq EE fn_computusref03_Long _ rfl).trans (by kernel_rfl)
theorem computusref03_Long_c6_eq (x0 : Int) (x1 : List UInt8) : computusref03_Long_c6 x0 x1 =
    ((computusref03_Two (Go.IntKind.wrap Go.IntKind.i64 (Int.tdiv (Go.IntKind.wrap Go.IntKind.i64 (Go.IntKind.wrap Go.IntKind.u64 (Int.tdiv x0 (1000000 : Int)))) (3600 : Int)))).bind fun v62 => ((Dv.catS x1 (Dv.PV.toS v62)).bind fun v63 => ((Dv.catS v63 [(58 : UInt8)]).bind fun v64 => ((computusref03_Two (Int.tmod (Go.IntKind.wrap Go.IntKind.i64 (Int.tdiv (Go.IntKind.wrap Go.IntKind.i64 (Go.IntKind.wrap Go.IntKind.u64 (Int.tdiv x0 (1000000 : Int)))) (60 : Int))) (60 : Int))).bind fun v65 => ((Dv.catS v64 (Dv.PV.toS v65)).bind fun v66 => ((Dv.catS v66 [(58 : UInt8)]).bind fun v67 => ((computusref03_Two (Int.tmod (Go.IntKind.wrap Go.IntKind.i64 (Go.IntKind.wrap Go.IntKind.u64 (Int.tdiv x0 (1000000 : Int)))) (60 : Int))).bind fun v68 => ((Dv.catS v67 (Dv.PV.toS v68)).bind fun v69 => ((computusref03_Fraction (Go.IntKind.wrap Go.IntKind.i64 (Int.tmod x0 (1000000 : Int)))).bind fun v70 => ((Dv.catS v69 (Dv.PV.toS v70)).bind fun v71 => (some (Dv.PV.str v71)))))))))))) :=
  (runW_eq EE _ _).trans (by kernel_rfl)

theorem num_Sub_eq (a0 : Int) (a1 : Int) : num_Sub a0 a1 =
    (bif (!((Dv.ltB (Go.IntKind.wrap Go.IntKind.i64 (a0 - a1)) a0) == (Dv.ltB (0 : Int) a1))) then (some (Dv.PV.tuple [(Dv.PV.int Go.IntKind.i64 (0 : Int)), (Dv.PV.int Go.IntKind.i64 (10 : Int))])) else (some (Dv.PV.tuple [(Dv.PV.int Go.IntKind.i64 (Go.IntKind.wrap Go.IntKind.i64 (a0 - a1))), (Dv.PV.int Go.IntKind.i64 (0 : Int))]))) :=
  (callF_eq EE fn_num_Sub _ rfl).trans (by kernel_rfl)

theorem civil_can_eq (a0 : Int) : civil_can a0 =
    ((civil_First).bind fun v114 => (bif (Dv.leB (Dv.PV.toI v114) a0) then ((civil_Last).bind fun v115 => (some (Dv.PV.bool (Dv.leB a0 (Dv.PV.toI v115))))) else (some (Dv.PV.bool Bool.false)))) :=
  (callF_eq EE fn_civil_can _ rfl).trans (by kernel_rfl)

theorem civil_parts_eq (a0 : Int) : civil_parts a0 =
    ((civil_floor (Go.IntKind.wrap Go.IntKind.i64 (a0 + (730425 : Int))) (146097 : Int)).bind fun v105 => (bif (Dv.leB (10 : Int) (Go.IntKind.wrap Go.IntKind.i64 (Int.tdiv (Go.IntKind.wrap Go.IntKind.i64 ((Go.IntKind.wrap Go.IntKind.i64 ((5 : Int) * (Go.IntKind.wrap Go.IntKind.i64 ((Go.IntKind.wrap Go.IntKind.i64 ((Go.IntKind.wrap Go.IntKind.i64 ((Dv.PV.toI (Dv.PV.tnth v105 1)) - (Go.IntKind.wrap Go.IntKind.i64 ((Dv.minI (Go.IntKind.wrap Go.IntKind.i64 (Int.tdiv (Dv.PV.toI (Dv.PV.tnth v105 1)) (36524 : Int))) (3 : Int)) * (36524 : Int))))) - (Go.IntKind.wrap Go.IntKind.i64 ((Go.IntKind.wrap Go.IntKind.i64 (Int.tdiv (Go.IntKind.wrap Go.IntKind.i64 ((Dv.PV.toI (Dv.PV.tnth v105 1)) - (Go.IntKind.wrap Go.IntKind.i64 ((Dv.minI (Go.IntKind.wrap Go.IntKind.i64 (Int.tdiv (Dv.PV.toI (Dv.PV.tnth v105 1)) (36524 : Int))) (3 : Int)) * (36524 : Int))))) (1461 : Int))) * (1461 : Int))))) - (Go.IntKind.wrap Go.IntKind.i64 ((Dv.minI (Go.IntKind.wrap Go.IntKind.i64 (Int.tdiv (Go.IntKind.wrap Go.IntKind.i64 ((Go.IntKind.wrap Go.IntKind.i64 ((Dv.PV.toI (Dv.PV.tnth v105 1)) - (Go.IntKind.wrap Go.IntKind.i64 ((Dv.minI (Go.IntKind.wrap Go.IntKind.i64 (Int.tdiv (Dv.PV.toI (Dv.PV.tnth v105 1)) (36524 : Int))) (3 : Int)) * (36524 : Int))))) - (Go.IntKind.wrap Go.IntKind.i64 ((Go.IntKind.wrap Go.IntKind.i64 (Int.tdiv (Go.IntKind.wrap Go.IntKind.i64 ((Dv.PV.toI (Dv.PV.tnth v105 1)) - (Go.IntKind.wrap Go.IntKind.i64 ((Dv.minI (Go.IntKind.wrap Go.IntKind.i64 (Int.tdiv (Dv.PV.toI (Dv.PV.tnth v105 1)) (36524 : Int))) (3 : Int)) * (36524 : Int))))) (1461 : Int))) * (1461 : Int))))) (365 : Int))) (3 : Int)) * (365 : Int))))))) + (2 : Int))) (153 : Int)))) then (some (Dv.PV.tuple [(Dv.PV.int Go.IntKind.i64 (Go.IntKind.wrap Go.IntKind.i64 ((Go.IntKind.wrap Go.IntKind.i64 ((Go.IntKind.wrap Go.IntKind.i64 ((Go.IntKind.wrap Go.IntKind.i64 ((Go.IntKind.wrap Go.IntKind.i64 ((Dv.PV.toI (Dv.PV.tnth v105 0)) * (400 : Int))) + (Go.IntKind.wrap Go.IntKind.i64 ((Dv.minI (Go.IntKind.wrap Go.IntKind.i64 (Int.tdiv (Dv.PV.toI (Dv.PV.tnth v105 1)) (36524 : Int))) (3 : Int)) * (100 : Int))))) + (Go.IntKind.wrap Go.IntKind.i64 ((Go.IntKind.wrap Go.IntKind.i64 (Int.tdiv (Go.IntKind.wrap Go.IntKind.i64 ((Dv.PV.toI (Dv.PV.tnth v105 1)) - (Go.IntKind.wrap Go.IntKind.i64 ((Dv.minI (Go.IntKind.wrap Go.IntKind.i64 (Int.tdiv (Dv.PV.toI (Dv.PV.tnth v105 1)) (36524 : Int))) (3 : Int)) * (36524 : Int))))) (1461 : Int))) * (4 : Int))))) + (Dv.minI (Go.IntKind.wrap Go.IntKind.i64 (Int.tdiv (Go.IntKind.wrap Go.IntKind.i64 ((Go.IntKind.wrap Go.IntKind.i64 ((Dv.PV.toI (Dv.PV.tnth v105 1)) - (Go.IntKind.wrap Go.IntKind.i64 ((Dv.minI (Go.IntKind.wrap Go.IntKind.i64 (Int.tdiv (Dv.PV.toI (Dv.PV.tnth v105 1)) (36524 : Int))) (3 : Int)) * (36524 : Int))))) - (Go.IntKind.wrap Go.IntKind.i64 ((Go.IntKind.wrap Go.IntKind.i64 (Int.tdiv (Go.IntKind.wrap Go.IntKind.i64 ((Dv.PV.toI (Dv.PV.tnth v105 1)) - (Go.IntKind.wrap Go.IntKind.i64 ((Dv.minI (Go.IntKind.wrap Go.IntKind.i64 (Int.tdiv (Dv.PV.toI (Dv.PV.tnth v105 1)) (36524 : Int))) (3 : Int)) * (36524 : Int))))) (1461 : Int))) * (1461 : Int))))) (365 : Int))) (3 : Int)))) + (1 : Int)))), (Dv.PV.int Go.IntKind.i64 (Go.IntKind.wrap Go.IntKind.i64 ((Go.IntKind.wrap Go.IntKind.i64 (Int.tdiv (Go.IntKind.wrap Go.IntKind.i64 ((Go.IntKind.wrap Go.IntKind.i64 ((5 : Int) * (Go.IntKind.wrap Go.IntKind.i64 ((Go.IntKind.wrap Go.IntKind.i64 ((Go.IntKind.wrap Go.IntKind.i64 ((Dv.PV.toI (Dv.PV.tnth v105 1)) - (Go.IntKind.wrap Go.IntKind.i64 ((Dv.minI (Go.IntKind.wrap Go.IntKind.i64 (Int.tdiv (Dv.PV.toI (Dv.PV.tnth v105 1)) (36524 : Int))) (3 : Int)) * (36524 : Int))))) - (Go.IntKind.wrap Go.IntKind.i64 ((Go.IntKind.wrap Go.IntKind.i64 (Int.tdiv (Go.IntKind.wrap Go.IntKind.i64 ((Dv.PV.toI (Dv.PV.tnth v105 1)) - (Go.IntKind.wrap Go.IntKind.i64 ((Dv.minI (Go.IntKind.wrap Go.IntKind.i64 (Int.tdiv (Dv.PV.toI (Dv.PV.tnth v105 1)) (36524 : Int))) (3 : Int)) * (36524 : Int))))) (1461 : Int))) * (1461 : Int))))) - (Go.IntKind.wrap Go.IntKind.i64 ((Dv.minI (Go.IntKind.wrap Go.IntKind.i64 (Int.tdiv (Go.IntKind.wrap Go.IntKind.i64 ((Go.IntKind.wrap Go.IntKind.i64 ((Dv.PV.toI (Dv.PV.tnth v105 1)) - (Go.IntKind.wrap Go.IntKind.i64 ((Dv.minI (Go.IntKind.wrap Go.IntKind.i64 (Int.tdiv (Dv.PV.toI (Dv.PV.tnth v105 1)) (36524 : Int))) (3 : Int)) * (36524 : Int))))) - (Go.IntKind.wrap Go.IntKind.i64 ((Go.IntKind.wrap Go.IntKind.i64 (Int.tdiv (Go.IntKind.wrap Go.IntKind.i64 ((Dv.PV.toI (Dv.PV.tnth v105 1)) - (Go.IntKind.wrap Go.IntKind.i64 ((Dv.minI (Go.IntKind.wrap Go.IntKind.i64 (Int.tdiv (Dv.PV.toI (Dv.PV.tnth v105 1)) (36524 : Int))) (3 : Int)) * (36524 : Int))))) (1461 : Int))) * (1461 : Int))))) (365 : Int))) (3 : Int)) * (365 : Int))))))) + (2 : Int))) (153 : Int))) - (9 : Int)))), (Dv.PV.int Go.IntKind.i64 (Go.IntKind.wrap Go.IntKind.i64 ((Go.IntKind.wrap Go.IntKind.i64 ((Go.IntKind.wrap Go.IntKind.i64 ((Go.IntKind.wrap Go.IntKind.i64 ((Go.IntKind.wrap Go.IntKind.i64 ((Dv.PV.toI (Dv.PV.tnth v105 1)) - (Go.IntKind.wrap Go.IntKind.i64 ((Dv.minI (Go.IntKind.wrap Go.IntKind.i64 (Int.tdiv (Dv.PV.toI (Dv.PV.tnth v105 1)) (36524 : Int))) (3 : Int)) * (36524 : Int))))) - (Go.IntKind.wrap Go.IntKind.i64 ((Go.IntKind.wrap Go.IntKind.i64 (Int.tdiv (Go.IntKind.wrap Go.IntKind.i64 ((Dv.PV.toI (Dv.PV.tnth v105 1)) - (Go.IntKind.wrap Go.IntKind.i64 ((Dv.minI (Go.IntKind.wrap Go.IntKind.i64 (Int.tdiv (Dv.PV.toI (Dv.PV.tnth v105 1)) (36524 : Int))) (3 : Int)) * (36524 : Int))))) (1461 : Int))) * (1461 : Int))))) - (Go.IntKind.wrap Go.IntKind.i64 ((Dv.minI (Go.IntKind.wrap Go.IntKind.i64 (Int.tdiv (Go.IntKind.wrap Go.IntKind.i64 ((Go.IntKind.wrap Go.IntKind.i64 ((Dv.PV.toI (Dv.PV.tnth v105 1)) - (Go.IntKind.wrap Go.IntKind.i64 ((Dv.minI (Go.IntKind.wrap Go.IntKind.i64 (Int.tdiv (Dv.PV.toI (Dv.PV.tnth v105 1)) (36524 : Int))) (3 : Int)) * (36524 : Int))))) - (Go.IntKind.wrap Go.IntKind.i64 ((Go.IntKind.wrap Go.IntKind.i64 (Int.tdiv (Go.IntKind.wrap Go.IntKind.i64 ((Dv.PV.toI (Dv.PV.tnth v105 1)) - (Go.IntKind.wrap Go.IntKind.i64 ((Dv.minI (Go.IntKind.wrap Go.IntKind.i64 (Int.tdiv (Dv.PV.toI (Dv.PV.tnth v105 1)) (36524 : Int))) (3 : Int)) * (36524 : Int))))) (1461 : Int))) * (1461 : Int))))) (365 : Int))) (3 : Int)) * (365 : Int))))) - (Go.IntKind.wrap Go.IntKind.i64 (Int.tdiv (Go.IntKind.wrap Go.IntKind.i64 ((Go.IntKind.wrap Go.IntKind.i64 ((153 : Int) * (Go.IntKind.wrap Go.IntKind.i64 (Int.tdiv (Go.IntKind.wrap Go.IntKind.i64 ((Go.IntKind.wrap Go.IntKind.i64 ((5 : Int) * (Go.IntKind.wrap Go.IntKind.i64 ((Go.IntKind.wrap Go.IntKind.i64 ((Go.IntKind.wrap Go.IntKind.i64 ((Dv.PV.toI (Dv.PV.tnth v105 1)) - (Go.IntKind.wrap Go.IntKind.i64 ((Dv.minI (Go.IntKind.wrap Go.IntKind.i64 (Int.tdiv (Dv.PV.toI (Dv.PV.tnth v105 1)) (36524 : Int))) (3 : Int)) * (36524 : Int))))) - (Go.IntKind.wrap Go.IntKind.i64 ((Go.IntKind.wrap Go.IntKind.i64 (Int.tdiv (Go.IntKind.wrap Go.IntKind.i64 ((Dv.PV.toI (Dv.PV.tnth v105 1)) - (Go.IntKind.wrap Go.IntKind.i64 ((Dv.minI (Go.IntKind.wrap Go.IntKind.i64 (Int.tdiv (Dv.PV.toI (Dv.PV.tnth v105 1)) (36524 : Int))) (3 : Int)) * (36524 : Int))))) (1461 : Int))) * (1461 : Int))))) - (Go.IntKind.wrap Go.IntKind.i64 ((Dv.minI (Go.IntKind.wrap Go.IntKind.i64 (Int.tdiv (Go.IntKind.wrap Go.IntKind.i64 ((Go.IntKind.wrap Go.IntKind.i64 ((Dv.PV.toI (Dv.PV.tnth v105 1)) - (Go.IntKind.wrap Go.IntKind.i64 ((Dv.minI (Go.IntKind.wrap Go.IntKind.i64 (Int.tdiv (Dv.PV.toI (Dv.PV.tnth v105 1)) (36524 : Int))) (3 : Int)) * (36524 : Int))))) - (Go.IntKind.wrap Go.IntKind.i64 ((Go.IntKind.wrap Go.IntKind.i64 (Int.tdiv (Go.IntKind.wrap Go.IntKind.i64 ((Dv.PV.toI (Dv.PV.tnth v105 1)) - (Go.IntKind.wrap Go.IntKind.i64 ((Dv.minI (Go.IntKind.wrap Go.IntKind.i64 (Int.tdiv (Dv.PV.toI (Dv.PV.tnth v105 1)) (36524 : Int))) (3 : Int)) * (36524 : Int))))) (1461 : Int))) * (1461 : Int))))) (365 : Int))) (3 : Int)) * (365 : Int))))))) + (2 : Int))) (153 : Int))))) + (2 : Int))) (5 : Int))))) + (1 : Int))))])) else (some (Dv.PV.tuple [(Dv.PV.int Go.IntKind.i64 (Go.IntKind.wrap Go.IntKind.i64 ((Go.IntKind.wrap Go.IntKind.i64 ((Go.IntKind.wrap Go.IntKind.i64 ((Go.IntKind.wrap Go.IntKind.i64 ((Dv.PV.toI (Dv.PV.tnth v105 0)) * (400 : Int))) + (Go.IntKind.wrap Go.IntKind.i64 ((Dv.minI (Go.IntKind.wrap Go.IntKind.i64 (Int.tdiv (Dv.PV.toI (Dv.PV.tnth v105 1)) (36524 : Int))) (3 : Int)) * (100 : Int))))) + (Go.IntKind.wrap Go.IntKind.i64 ((Go.IntKind.wrap Go.IntKind.i64 (Int.tdiv (Go.IntKind.wrap Go.IntKind.i64 ((Dv.PV.toI (Dv.PV.tnth v105 1)) - (Go.IntKind.wrap Go.IntKind.i64 ((Dv.minI (Go.IntKind.wrap Go.IntKind.i64 (Int.tdiv (Dv.PV.toI (Dv.PV.tnth v105 1)) (36524 : Int))) (3 : Int)) * (36524 : Int))))) (1461 : Int))) * (4 : Int))))) + (Dv.minI (Go.IntKind.wrap Go.IntKind.i64 (Int.tdiv (Go.IntKind.wrap Go.IntKind.i64 ((Go.IntKind.wrap Go.IntKind.i64 ((Dv.PV.toI (Dv.PV.tnth v105 1)) - (Go.IntKind.wrap Go.IntKind.i64 ((Dv.minI (Go.IntKind.wrap Go.IntKind.i64 (Int.tdiv (Dv.PV.toI (Dv.PV.tnth v105 1)) (36524 : Int))) (3 : Int)) * (36524 : Int))))) - (Go.IntKind.wrap Go.IntKind.i64 ((Go.IntKind.wrap Go.IntKind.i64 (Int.tdiv (Go.IntKind.wrap Go.IntKind.i64 ((Dv.PV.toI (Dv.PV.tnth v105 1)) - (Go.IntKind.wrap Go.IntKind.i64 ((Dv.minI (Go.IntKind.wrap Go.IntKind.i64 (Int.tdiv (Dv.PV.toI (Dv.PV.tnth v105 1)) (36524 : Int))) (3 : Int)) * (36524 : Int))))) (1461 : Int))) * (1461 : Int))))) (365 : Int))) (3 : Int))))), (Dv.PV.int Go.IntKind.i64 (Go.IntKind.wrap Go.IntKind.i64 ((Go.IntKind.wrap Go.IntKind.i64 (Int.tdiv (Go.IntKind.wrap Go.IntKind.i64 ((Go.IntKind.wrap Go.IntKind.i64 ((5 : Int) * (Go.IntKind.wrap Go.IntKind.i64 ((Go.IntKind.wrap Go.IntKind.i64 ((Go.IntKind.wrap Go.IntKind.i64 ((Dv.PV.toI (Dv.PV.tnth v105 1)) - (Go.IntKind.wrap Go.IntKind.i64 ((Dv.minI (Go.IntKind.wrap Go.IntKind.i64 (Int.tdiv (Dv.PV.toI (Dv.PV.tnth v105 1)) (36524 : Int))) (3 : Int)) * (36524 : Int))))) - (Go.IntKind.wrap Go.IntKind.i64 ((Go.IntKind.wrap Go.IntKind.i64 (Int.tdiv (Go.IntKind.wrap Go.IntKind.i64 ((Dv.PV.toI (Dv.PV.tnth v105 1)) - (Go.IntKind.wrap Go.IntKind.i64 ((Dv.minI (Go.IntKind.wrap Go.IntKind.i64 (Int.tdiv (Dv.PV.toI (Dv.PV.tnth v105 1)) (36524 : Int))) (3 : Int)) * (36524 : Int))))) (1461 : Int))) * (1461 : Int))))) - (Go.IntKind.wrap Go.IntKind.i64 ((Dv.minI (Go.IntKind.wrap Go.IntKind.i64 (Int.tdiv (Go.IntKind.wrap Go.IntKind.i64 ((Go.IntKind.wrap Go.IntKind.i64 ((Dv.PV.toI (Dv.PV.tnth v105 1)) - (Go.IntKind.wrap Go.IntKind.i64 ((Dv.minI (Go.IntKind.wrap Go.IntKind.i64 (Int.tdiv (Dv.PV.toI (Dv.PV.tnth v105 1)) (36524 : Int))) (3 : Int)) * (36524 : Int))))) - (Go.IntKind.wrap Go.IntKind.i64 ((Go.IntKind.wrap Go.IntKind.i64 (Int.tdiv (Go.IntKind.wrap Go.IntKind.i64 ((Dv.PV.toI (Dv.PV.tnth v105 1)) - (Go.IntKind.wrap Go.IntKind.i64 ((Dv.minI (Go.IntKind.wrap Go.IntKind.i64 (Int.tdiv (Dv.PV.toI (Dv.PV.tnth v105 1)) (36524 : Int))) (3 : Int)) * (36524 : Int))))) (1461 : Int))) * (1461 : Int))))) (365 : Int))) (3 : Int)) * (365 : Int))))))) + (2 : Int))) (153 : Int))) + (3 : Int)))), (Dv.PV.int Go.IntKind.i64 (Go.IntKind.wrap Go.IntKind.i64 ((Go.IntKind.wrap Go.IntKind.i64 ((Go.IntKind.wrap Go.IntKind.i64 ((Go.IntKind.wrap Go.IntKind.i64 ((Go.IntKind.wrap Go.IntKind.i64 ((Dv.PV.toI (Dv.PV.tnth v105 1)) - (Go.IntKind.wrap Go.IntKind.i64 ((Dv.minI (Go.IntKind.wrap Go.IntKind.i64 (Int.tdiv (Dv.PV.toI (Dv.PV.tnth v105 1)) (36524 : Int))) (3 : Int)) * (36524 : Int))))) - (Go.IntKind.wrap Go.IntKind.i64 ((Go.IntKind.wrap Go.IntKind.i64 (Int.tdiv (Go.IntKind.wrap Go.IntKind.i64 ((Dv.PV.toI (Dv.PV.tnth v105 1)) - (Go.IntKind.wrap Go.IntKind.i64 ((Dv.minI (Go.IntKind.wrap Go.IntKind.i64 (Int.tdiv (Dv.PV.toI (Dv.PV.tnth v105 1)) (36524 : Int))) (3 : Int)) * (36524 : Int))))) (1461 : Int))) * (1461 : Int))))) - (Go.IntKind.wrap Go.IntKind.i64 ((Dv.minI (Go.IntKind.wrap Go.IntKind.i64 (Int.tdiv (Go.IntKind.wrap Go.IntKind.i64 ((Go.IntKind.wrap Go.IntKind.i64 ((Dv.PV.toI (Dv.PV.tnth v105 1)) - (Go.IntKind.wrap Go.IntKind.i64 ((Dv.minI (Go.IntKind.wrap Go.IntKind.i64 (Int.tdiv (Dv.PV.toI (Dv.PV.tnth v105 1)) (36524 : Int))) (3 : Int)) * (36524 : Int))))) - (Go.IntKind.wrap Go.IntKind.i64 ((Go.IntKind.wrap Go.IntKind.i64 (Int.tdiv (Go.IntKind.wrap Go.IntKind.i64 ((Dv.PV.toI (Dv.PV.tnth v105 1)) - (Go.IntKind.wrap Go.IntKind.i64 ((Dv.minI (Go.IntKind.wrap Go.IntKind.i64 (Int.tdiv (Dv.PV.toI (Dv.PV.tnth v105 1)) (36524 : Int))) (3 : Int)) * (36524 : Int))))) (1461 : Int))) * (1461 : Int))))) (365 : Int))) (3 : Int)) * (365 : Int))))) - (Go.IntKind.wrap Go.IntKind.i64 (Int.tdiv (Go.IntKind.wrap Go.IntKind.i64 ((Go.IntKind.wrap Go.IntKind.i64 ((153 : Int) * (Go.IntKind.wrap Go.IntKind.i64 (Int.tdiv (Go.IntKind.wrap Go.IntKind.i64 ((Go.IntKind.wrap Go.IntKind.i64 ((5 : Int) * (Go.IntKind.wrap Go.IntKind.i64 ((Go.IntKind.wrap Go.IntKind.i64 ((Go.IntKind.wrap Go.IntKind.i64 ((Dv.PV.toI (Dv.PV.tnth v105 1)) - (Go.IntKind.wrap Go.IntKind.i64 ((Dv.minI (Go.IntKind.wrap Go.IntKind.i64 (Int.tdiv (Dv.PV.toI (Dv.PV.tnth v105 1)) (36524 : Int))) (3 : Int)) * (36524 : Int))))) - (Go.IntKind.wrap Go.IntKind.i64 ((Go.IntKind.wrap Go.IntKind.i64 (Int.tdiv (Go.IntKind.wrap Go.IntKind.i64 ((Dv.PV.toI (Dv.PV.tnth v105 1)) - (Go.IntKind.wrap Go.IntKind.i64 ((Dv.minI (Go.IntKind.wrap Go.IntKind.i64 (Int.tdiv (Dv.PV.toI (Dv.PV.tnth v105 1)) (36524 : Int))) (3 : Int)) * (36524 : Int))))) (1461 : Int))) * (1461 : Int))))) - (Go.IntKind.wrap Go.IntKind.i64 ((Dv.minI (Go.IntKind.wrap Go.IntKind.i64 (Int.tdiv (Go.IntKind.wrap Go.IntKind.i64 ((Go.IntKind.wrap Go.IntKind.i64 ((Dv.PV.toI (Dv.PV.tnth v105 1)) - (Go.IntKind.wrap Go.IntKind.i64 ((Dv.minI (Go.IntKind.wrap Go.IntKind.i64 (Int.tdiv (Dv.PV.toI (Dv.PV.tnth v105 1)) (36524 : Int))) (3 : Int)) * (36524 : Int))))) - (Go.IntKind.wrap Go.IntKind.i64 ((Go.IntKind.wrap Go.IntKind.i64 (Int.tdiv (Go.IntKind.wrap Go.IntKind.i64 ((Dv.PV.toI (Dv.PV.tnth v105 1)) - (Go.IntKind.wrap Go.IntKind.i64 ((Dv.minI (Go.IntKind.wrap Go.IntKind.i64 (Int.tdiv (Dv.PV.toI (Dv.PV.tnth v105 1)) (36524 : Int))) (3 : Int)) * (36524 : Int))))) (1461 : Int))) * (1461 : Int))))) (365 : Int))) (3 : Int)) * (365 : Int))))))) + (2 : Int))) (153 : Int))))) + (2 : Int))) (5 : Int))))) + (1 : Int))))])))) :=
  (callF_eq EE fn_civil_parts _ rfl).trans (by kernel_rfl)

theorem bits_Mul64_eq (a0 : Int) (a1 : Int) : bits_Mul64 a0 a1 =
    (some (Dv.PV.tuple [(Dv.PV.int Go.IntKind.u64 (Go.IntKind.wrap Go.IntKind.u64 ((Go.IntKind.wrap Go.IntKind.u64 ((Go.IntKind.wrap Go.IntKind.u64 ((Dv.shrI Go.IntKind.u64 a0 (32 : Int)) * (Dv.shrI Go.IntKind.u64 a1 (32 : Int)))) + (Dv.shrI Go.IntKind.u64 (Go.IntKind.wrap Go.IntKind.u64 ((Go.IntKind.wrap Go.IntKind.u64 ((Dv.shrI Go.IntKind.u64 a0 (32 : Int)) * (Dv.andI Go.IntKind.u64 a1 (4294967295 : Int)))) + (Dv.shrI Go.IntKind.u64 (Go.IntKind.wrap Go.IntKind.u64 ((Dv.andI Go.IntKind.u64 a0 (4294967295 : Int)) * (Dv.andI Go.IntKind.u64 a1 (4294967295 : Int)))) (32 : Int)))) (32 : Int)))) + (Dv.shrI Go.IntKind.u64 (Go.IntKind.wrap Go.IntKind.u64 ((Dv.andI Go.IntKind.u64 (Go.IntKind.wrap Go.IntKind.u64 ((Go.IntKind.wrap Go.IntKind.u64 ((Dv.shrI Go.IntKind.u64 a0 (32 : Int)) * (Dv.andI Go.IntKind.u64 a1 (4294967295 : Int)))) + (Dv.shrI Go.IntKind.u64 (Go.IntKind.wrap Go.IntKind.u64 ((Dv.andI Go.IntKind.u64 a0 (4294967295 : Int)) * (Dv.andI Go.IntKind.u64 a1 (4294967295 : Int)))) (32 : Int)))) (4294967295 : Int)) + (Go.IntKind.wrap Go.IntKind.u64 ((Dv.andI Go.IntKind.u64 a0 (4294967295 : Int)) * (Dv.shrI Go.IntKind.u64 a1 (32 : Int)))))) (32 : Int))))), (Dv.PV.int Go.IntKind.u64 (Go.IntKind.wrap Go.IntKind.u64 (a0 * a1)))])) :=
  (callF_eq EE fn_bits_Mul64 _ rfl).trans (by kernel_rfl)

theorem stringslite_HasPrefix_eq (a0 : List UInt8) (a1 : List UInt8) : stringslite_HasPrefix a0 a1 =
    (bif (Dv.leB (((List.length a1) : Nat) : Int) (((List.length a0) : Nat) : Int)) then ((Dv.takeS a0 (((List.length a1) : Nat) : Int)).bind fun v72 => (some (Dv.PV.bool (Dv.eqS v72 a1)))) else (some (Dv.PV.bool Bool.false))) :=
  (callF_eq EE fn_stringslite_HasPrefix _ rfl).trans (by kernel_rfl)

theorem computusref02_Can_eq (a0 : Int) : computusref02_Can a0 =
    ((computusref02_First).bind fun v106 => (bif (Dv.leB (Dv.PV.toI v106) a0) then ((computusref02_Last).bind fun v107 => (some (Dv.PV.bool (Dv.leB a0 (Dv.PV.toI v107))))) else (some (Dv.PV.bool Bool.false)))) :=
  (callF_eq EE fn_computusref02_Can _ rfl).trans (by kernel_rfl)

theorem computusref02_div_eq (a0 : Int) (a1 : Int) : computusref02_div a0 a1 =
    (bif (Dv.eqB a1 (0 : Int)) then none else (bif (Dv.eqB a1 (0 : Int)) then none else (bif (Dv.ltB (Int.tmod a0 a1) (0 : Int)) then (some (Dv.PV.int Go.IntKind.i64 (Go.IntKind.wrap Go.IntKind.i64 ((Go.IntKind.wrap Go.IntKind.i64 (Int.tdiv a0 a1)) - (1 : Int))))) else (some (Dv.PV.int Go.IntKind.i64 (Go.IntKind.wrap Go.IntKind.i64 (Int.tdiv a0 a1))))))) :=
  (callF_eq EE fn_computusref02_div _ rfl).trans (by kernel_rfl)

theorem computusref02_mod_eq (a0 : Int) (a1 : Int) : computusref02_mod a0 a1 =
    (bif (Dv.eqB a1 (0 : Int)) then none else (bif (Dv.ltB (Int.tmod a0 a1) (0 : Int)) then (some (Dv.PV.int Go.IntKind.i64 (Go.IntKind.wrap Go.IntKind.i64 ((Int.tmod a0 a1) + a1)))) else (some (Dv.PV.int Go.IntKind.i64 (Int.tmod a0 a1))))) :=
  (callF_eq EE fn_computusref02_mod _ rfl).trans (by kernel_rfl)

theorem computusref02_Leap_eq (a0 : Int) : computusref02_Leap a0 =
    ((computusref02_mod a0 (4 : Int)).bind fun v73 => (bif (Dv.eqB (Dv.PV.toI v73) (0 : Int)) then ((computusref02_mod a0 (100 : Int)).bind fun v74 => (bif (!(Dv.eqB (Dv.PV.toI v74) (0 : Int))) then (some (Dv.PV.bool Bool.true)) else ((computusref02_mod a0 (400 : Int)).bind fun v75 => (some (Dv.PV.bool (Dv.eqB (Dv.PV.toI v75) (0 : Int))))))) else (some (Dv.PV.bool Bool.false)))) :=
  (callF_eq EE fn_computusref02_Leap _ rfl).trans (by kernel_rfl)

theorem computusref02_Len_eq (a0 : Int) (a1 : Int) : computusref02_Len a0 a1 =
    (bif (Dv.eqB a1 (1 : Int)) then (some (Dv.PV.int Go.IntKind.i64 (31 : Int))) else (bif (Dv.eqB a1 (3 : Int)) then (some (Dv.PV.int Go.IntKind.i64 (31 : Int))) else (bif (Dv.eqB a1 (5 : Int)) then (some (Dv.PV.int Go.IntKind.i64 (31 : Int))) else (bif (Dv.eqB a1 (7 : Int)) then (some (Dv.PV.int Go.IntKind.i64 (31 : Int))) else (bif (Dv.eqB a1 (8 : Int)) then (some (Dv.PV.int Go.IntKind.i64 (31 : Int))) else (bif (Dv.eqB a1 (10 : Int)) then (some (Dv.PV.int Go.IntKind.i64 (31 : Int))) else (bif (Dv.eqB a1 (12 : Int)) then (some (Dv.PV.int Go.IntKind.i64 (31 : Int))) else (computusref02_Len_c10 a0 a1)))))))) :=
  (callF_eq EE fn_computusref02_Len _ rfl).trans (by kernel_rfl)
theorem computusref02_Len_c10_eq (x0 : Int) (x1 : Int) : computusref02_Len_c10 x0 x1 =
    (bif (Dv.eqB x1 (4 : Int)) then (some (Dv.PV.int Go.IntKind.i64 (30 : Int))) else (bif (Dv.eqB x1 (6 : Int)) then (some (Dv.PV.int Go.IntKind.i64 (30 : Int))) else (bif (Dv.eqB x1 (9 : Int)) then (some (Dv.PV.int Go.IntKind.i64 (30 : Int))) else (bif (Dv.eqB x1 (11 : Int)) then (some (Dv.PV.int Go.IntKind.i64 (30 : Int))) else (computusref02_Len_c15 x0 x1))))) :=
  (runW_eq EE _ _).trans (by kernel_rfl)
theorem computusref02_Len_c15_eq (x0 : Int) (x1 : Int) : computusref02_Len_c15 x0 x1 =
    (bif (Dv.eqB x1 (2 : Int)) then ((computusref02_Leap x0).bind fun v94 => (bif (Dv.PV.toB v94) then (some (Dv.PV.int Go.IntKind.i64 (29 : Int))) else (some (Dv.PV.int Go.IntKind.i64 (28 : Int))))) else (some (Dv.PV.int Go.IntKind.i64 (0 : Int)))) :=
  (runW_eq EE _ _).trans (by kernel_rfl)

theorem num_Scale_eq (a0 : Int) (a1 : Int) (a2 : Int) : num_Scale a0 a1 a2 =
    (bif (Dv.eqB a2 (0 : Int)) then (some (Dv.PV.tuple [(Dv.PV.int Go.IntKind.i64 (0 : Int)), (Dv.PV.int Go.IntKind.i64 (11 : Int))])) else ((num_product a0 a1).bind fun v119 => ((num_size a2).bind fun v120 => (bif (Dv.leB (Dv.PV.toI v120) (Dv.PV.toI (Dv.PV.nth v119 0))) then (some (Dv.PV.tuple [(Dv.PV.int Go.IntKind.i64 (0 : Int)), (Dv.PV.int Go.IntKind.i64 (10 : Int))])) else ((bits_Div64 (Dv.PV.toI (Dv.PV.nth v119 0)) (Dv.PV.toI (Dv.PV.nth v119 1)) (Dv.PV.toI v120)).bind fun v121 => (bif (!(!((!((Dv.ltB a0 (0 : Int)) == (Dv.ltB a1 (0 : Int)))) == (Dv.ltB a2 (0 : Int))))) then (num_Scale_c9 (!((!((Dv.ltB a0 (0 : Int)) == (Dv.ltB a1 (0 : Int)))) == (Dv.ltB a2 (0 : Int)))) (Dv.PV.toI (Dv.PV.tnth v121 0))) else (bif (Dv.eqB (Dv.PV.toI (Dv.PV.tnth v121 1)) (0 : Int)) then (num_Scale_c9 (!((!((Dv.ltB a0 (0 : Int)) == (Dv.ltB a1 (0 : Int)))) == (Dv.ltB a2 (0 : Int)))) (Dv.PV.toI (Dv.PV.tnth v121 0))) else (num_Scale_c10 (Dv.PV.toI (Dv.PV.tnth v121 0)))))))))) :=
  (callF_eq EE fn_num_Scale _ rfl).trans (by kernel_rfl)
theorem num_Scale_c9_eq (x0 : Bool) (x1 : Int) : num_Scale_c9 x0 x1 =
    ((num_signed x0 (0 : Int) x1).bind fun v122 => (some (Dv.PV.tuple [(Dv.PV.int Go.IntKind.i64 (Dv.PV.toI (Dv.PV.tnth v122 0))), (Dv.PV.int Go.IntKind.i64 (Dv.PV.toI (Dv.PV.tnth v122 1)))]))) :=
  (runW_eq EE _ _).trans (by kernel_rfl)
theorem num_Scale_c10_eq (x0 : Int) : num_Scale_c10 x0 =
    ((callW EE ([(Dv.tiInt Go.IntKind.u64), (Dv.tiInt Go.IntKind.u64)]) (Dv.PV.func (Go.Fn.func fn_bits_Add64) [] []) [(Dv.PV.int Go.IntKind.u64 x0), (Dv.PV.int Go.IntKind.u64 (1 : Int)), (Dv.PV.int Go.IntKind.u64 (0 : Int))]).bind fun v123 => ((num_signed Bool.true (Dv.PV.toI (Dv.PV.tnth v123 1)) (Dv.PV.toI (Dv.PV.tnth v123 0))).bind fun v124 => (some (Dv.PV.tuple [(Dv.PV.int Go.IntKind.i64 (Dv.PV.toI (Dv.PV.tnth v124 0))), (Dv.PV.int Go.IntKind.i64 (Dv.PV.toI (Dv.PV.tnth v124 1)))])))) :=
  (runW_eq EE _ _).trans (by kernel_rfl)

theorem clock_parts_eq (a0 : Int) : clock_parts a0 =
    (some (Dv.PV.tuple [(Dv.PV.int Go.IntKind.i64 (Go.IntKind.wrap Go.IntKind.i64 (Go.IntKind.wrap Go.IntKind.u64 (Int.tdiv a0 (3600000000 : Int))))), (Dv.PV.int Go.IntKind.i64 (Go.IntKind.wrap Go.IntKind.i64 (Int.tmod (Go.IntKind.wrap Go.IntKind.u64 (Int.tdiv a0 (60000000 : Int))) (60 : Int)))), (Dv.PV.int Go.IntKind.i64 (Go.IntKind.wrap Go.IntKind.i64 (Int.tmod (Go.IntKind.wrap Go.IntKind.u64 (Int.tdiv a0 (1000000 : Int))) (60 : Int)))), (Dv.PV.int Go.IntKind.i64 (Go.IntKind.wrap Go.IntKind.i64 (Int.tmod a0 (1000000 : Int))))])) :=
  (callF_eq EE fn_clock_parts _ rfl).trans (by kernel_rfl)

theorem clock_Fraction_eq (a0 : Int) : clock_Fraction a0 =
    (bif (Dv.leB a0 (0 : Int)) then clock_Fraction_c2 else (bif (Dv.ltB (999999 : Int) a0) then clock_Fraction_c2 else (clock_Fraction_c3 a0))) :=
  (callF_eq EE fn_clock_Fraction _ rfl).trans (by kernel_rfl)
theorem clock_Fraction_c2_eq  : clock_Fraction_c2  =
    (some (Dv.PV.str [])) :=
  (runW_eq EE _ _).trans (by kernel_rfl)
theorem clock_Fraction_c3_eq (x0 : Int) : clock_Fraction_c3 x0 =
    ((clock_digits (Go.IntKind.wrap Go.IntKind.u64 x0) (6 : Int)).bind fun v110 => (clock_Fraction_c6 (Dv.PV.toS v110) (0 : Int) (Dv.PV.toS v110) 0)) :=
  (runW_eq EE _ _).trans (by kernel_rfl)
theorem clock_Fraction_c6_eq (x0 : List UInt8) (x1 : Int) (x2 : List UInt8) (x3 : Nat) : clock_Fraction_c6 x0 x1 x2 x3 =
    (bif (Dv.ltN x3 (List.length x2)) then (bif (!(Dv.eqB ((((Dv.decR x2 x3).1) : Nat) : Int) (48 : Int))) then (clock_Fraction_c6 x0 (Go.IntKind.wrap Go.IntKind.i64 (((x3 : Nat) : Int) + (1 : Int))) x2 (x3 + ((Dv.decR x2 x3).2))) else (clock_Fraction_c6 x0 x1 x2 (x3 + ((Dv.decR x2 x3).2)))) else ((Dv.takeS x0 x1).bind fun v111 => ((Dv.catS [(46 : UInt8)] v111).bind fun v112 => (some (Dv.PV.str v112))))) :=
  (runW_eq EE _ _).trans (by kernel_rfl)

theorem computusref01_Small_eq (a0_0 : Bool) (a0_1 : List PV) : computusref01_Small a0_0 a0_1 =
    (computusref01_Small_c2 (2 : Int) a0_0 a0_1) :=
  (callF_eq EE fn_computusref01_Small _ rfl).trans (by kernel_rfl)
theorem computusref01_Small_c2_eq (x0 : Int) (x1 : Bool) (x2 : List PV) : computusref01_Small_c2 x0 x1 x2 =
    (bif (Dv.ltB x0 (6 : Int)) then ((Dv.rdI (Dv.tiInt Go.IntKind.u64) x2 x0).bind fun v73 => (bif (!(Dv.eqB (Dv.PV.toI v73) (0 : Int))) then (some (Dv.PV.tuple [(Dv.PV.int Go.IntKind.i64 (0 : Int)), (Dv.PV.int Go.IntKind.i64 (10 : Int))])) else (computusref01_Small_c2 (Go.IntKind.wrap Go.IntKind.i64 (x0 + (1 : Int))) x1 x2))) else ((Dv.rdI (Dv.tiInt Go.IntKind.u64) x2 (1 : Int)).bind fun v74 => ((Dv.rdI (Dv.tiInt Go.IntKind.u64) x2 (0 : Int)).bind fun v75 => (bif x1 then (bif (Dv.leB (Dv.orI Go.IntKind.u64 (Dv.shlI Go.IntKind.u64 (Dv.PV.toI v74) (32 : Int)) (Dv.PV.toI v75)) (9223372036854775808 : Int)) then (computusref01_Small_c8 (Dv.orI Go.IntKind.u64 (Dv.shlI Go.IntKind.u64 (Dv.PV.toI v74) (32 : Int)) (Dv.PV.toI v75))) else (computusref01_Small_c9 (Dv.orI Go.IntKind.u64 (Dv.shlI Go.IntKind.u64 (Dv.PV.toI v74) (32 : Int)) (Dv.PV.toI v75)) x1 x2)) else (computusref01_Small_c9 (Dv.orI Go.IntKind.u64 (Dv.shlI Go.IntKind.u64 (Dv.PV.toI v74) (32 : Int)) (Dv.PV.toI v75)) x1 x2))))) :=
  (runW_eq EE _ _).trans (by kernel_rfl)
theorem computusref01_Small_c8_eq (x0 : Int) : computusref01_Small_c8 x0 =
    (some (Dv.PV.tuple [(Dv.PV.int Go.IntKind.i64 (Go.IntKind.wrap Go.IntKind.i64 (Go.IntKind.wrap Go.IntKind.u64 ((0 : Int) - x0)))), (Dv.PV.int Go.IntKind.i64 (0 : Int))])) :=
  (runW_eq EE _ _).trans (by kernel_rfl)
theorem computusref01_Small_c9_eq (x0 : Int) (x1 : Bool) (x2 : List PV) : computusref01_Small_c9 x0 x1 x2 =
    (bif x1 then (some (Dv.PV.tuple [(Dv.PV.int Go.IntKind.i64 (0 : Int)), (Dv.PV.int Go.IntKind.i64 (10 : Int))])) else (bif (Dv.leB (9223372036854775808 : Int) x0) then (some (Dv.PV.tuple [(Dv.PV.int Go.IntKind.i64 (0 : Int)), (Dv.PV.int Go.IntKind.i64 (10 : Int))])) else (some (Dv.PV.tuple [(Dv.PV.int Go.IntKind.i64 (Go.IntKind.wrap Go.IntKind.i64 x0)), (Dv.PV.int Go.IntKind.i64 (0 : Int))])))) :=
  (runW_eq EE _ _).trans (by kernel_rfl)

theorem computusref01_Over_eq (a0_0 : Bool) (a0_1 : List PV) (a1_0 : Bool) (a1_1 : List PV) : computusref01_Over a0_0 a0_1 a1_0 a1_1 =
    ((computusref01_divide a0_1 a1_1).bind fun v76 => (bif (!(a0_0 == a1_0)) then ((computusref01_zero (Dv.PV.toL (Dv.PV.tnth v76 1))).bind fun v77 => (bif (!(Dv.PV.toB v77)) then (computusref01_Over_c3 (Dv.PV.toL (Dv.PV.tnth v76 0)) a0_0 a0_1 a1_0 a1_1 Bool.false) else (bif (!(a0_0 == a1_0)) then ((computusref01_zero (Dv.PV.toL (Dv.PV.tnth v76 0))).bind fun v78 => (some (Dv.PV.agg [(Dv.PV.bool (!(Dv.PV.toB v78))), (Dv.PV.sl 1 (Dv.PV.toL (Dv.PV.tnth v76 0)))]))) else (some (Dv.PV.agg [(Dv.PV.bool Bool.false), (Dv.PV.sl 1 (Dv.PV.toL (Dv.PV.tnth v76 0)))]))))) else (bif (!(a0_0 == a1_0)) then ((computusref01_zero (Dv.PV.toL (Dv.PV.tnth v76 0))).bind fun v79 => (some (Dv.PV.agg [(Dv.PV.bool (!(Dv.PV.toB v79))), (Dv.PV.sl 1 (Dv.PV.toL (Dv.PV.tnth v76 0)))]))) else (some (Dv.PV.agg [(Dv.PV.bool Bool.false), (Dv.PV.sl 1 (Dv.PV.toL (Dv.PV.tnth v76 0)))]))))) :=
  (callF_eq EE fn_computusref01_Over _ rfl).trans (by kernel_rfl)
theorem computusref01_Over_c3_eq (x0 : List PV) (x1 : Bool) (x2 : List PV) (x3 : Bool) (x4 : List PV) (x5 : Bool) : computusref01_Over_c3 x0 x1 x2 x3 x4 x5 =
    ((computusref01_Of (1 : Int)).bind fun v80 => ((computusref01_add x0 (Dv.PV.toL (Dv.PV.nth v80 1))).bind fun v81 => (bif (!(x1 == x3)) then ((computusref01_zero (Dv.PV.toL v81)).bind fun v82 => (some (Dv.PV.agg [(Dv.PV.bool (!(Dv.PV.toB v82))), (Dv.PV.sl 1 (Dv.PV.toL v81))]))) else (some (Dv.PV.agg [(Dv.PV.bool Bool.false), (Dv.PV.sl 1 (Dv.PV.toL v81))]))))) :=
  (runW_eq EE _ _).trans (by kernel_rfl)

theorem computusref01_Of_eq (a0 : Int) : computusref01_Of a0 =
    (bif (Dv.ltB a0 (0 : Int)) then (computusref01_Of_c4 a0 (Go.IntKind.wrap Go.IntKind.u64 ((0 : Int) - (Go.IntKind.wrap Go.IntKind.u64 a0))) Bool.false) else (computusref01_Of_c4 a0 (Go.IntKind.wrap Go.IntKind.u64 a0) Bool.false)) :=
  (callF_eq EE fn_computusref01_Of _ rfl).trans (by kernel_rfl)
theorem computusref01_Of_c4_eq (x0 : Int) (x1 : Int) (x2 : Bool) : computusref01_Of_c4 x0 x1 x2 =
    (some (Dv.PV.agg [(Dv.PV.bool (Dv.ltB x0 (0 : Int))), (Dv.PV.sl 1 [(Dv.PV.int Go.IntKind.u64 (Dv.andI Go.IntKind.u64 x1 (4294967295 : Int))), (Dv.PV.int Go.IntKind.u64 (Dv.shrI Go.IntKind.u64 x1 (32 : Int))), (Dv.PV.int Go.IntKind.u64 (0 : Int)), (Dv.PV.int Go.IntKind.u64 (0 : Int)), (Dv.PV.int Go.IntKind.u64 (0 : Int)), (Dv.PV.int Go.IntKind.u64 (0 : Int))])])) :=
  (runW_eq EE _ _).trans (by kernel_rfl)

theorem computusref01_Plus_eq (a0_0 : Bool) (a0_1 : List PV) (a1_0 : Bool) (a1_1 : List PV) : computusref01_Plus a0_0 a0_1 a1_0 a1_1 =
    (bif (a0_0 == a1_0) then ((computusref01_add a0_1 a1_1).bind fun v125 => (some (Dv.PV.agg [(Dv.PV.bool a0_0), (Dv.PV.sl 1 (Dv.PV.toL v125))]))) else ((computusref01_cmp a0_1 a1_1).bind fun v126 => (bif (Dv.leB (0 : Int) (Dv.PV.toI v126)) then (bif a0_0 then ((computusref01_cmp a0_1 a1_1).bind fun v127 => ((computusref01_less a0_1 a1_1).bind fun v128 => (some (Dv.PV.agg [(Dv.PV.bool (Dv.ltB (0 : Int) (Dv.PV.toI v127))), (Dv.PV.sl 1 (Dv.PV.toL v128))])))) else ((computusref01_less a0_1 a1_1).bind fun v129 => (some (Dv.PV.agg [(Dv.PV.bool Bool.false), (Dv.PV.sl 1 (Dv.PV.toL v129))])))) else ((computusref01_less a1_1 a0_1).bind fun v130 => (some (Dv.PV.agg [(Dv.PV.bool a1_0), (Dv.PV.sl 1 (Dv.PV.toL v130))])))))) :=
  (callF_eq EE fn_computusref01_Plus _ rfl).trans (by kernel_rfl)

theorem computusref01_Minus_eq (a0_0 : Bool) (a0_1 : List PV) : computusref01_Minus a0_0 a0_1 =
    (bif (!a0_0) then ((computusref01_zero a0_1).bind fun v108 => (some (Dv.PV.agg [(Dv.PV.bool (!(Dv.PV.toB v108))), (Dv.PV.sl 1 a0_1)]))) else (some (Dv.PV.agg [(Dv.PV.bool Bool.false), (Dv.PV.sl 1 a0_1)]))) :=
  (callF_eq EE fn_computusref01_Minus _ rfl).trans (by kernel_rfl)

theorem computusref01_Times_eq (a0_0 : Bool) (a0_1 : List PV) (a1_0 : Bool) (a1_1 : List PV) : computusref01_Times a0_0 a0_1 a1_0 a1_1 =
    (computusref01_Times_c3 (0 : Int) a0_0 a0_1 a1_0 a1_1 Bool.false [(Dv.PV.int Go.IntKind.u64 (0 : Int)), (Dv.PV.int Go.IntKind.u64 (0 : Int)), (Dv.PV.int Go.IntKind.u64 (0 : Int)), (Dv.PV.int Go.IntKind.u64 (0 : Int)), (Dv.PV.int Go.IntKind.u64 (0 : Int)), (Dv.PV.int Go.IntKind.u64 (0 : Int))] 6) :=
  (callF_eq EE fn_computusref01_Times _ rfl).trans (by kernel_rfl)
theorem computusref01_Times_c3_eq (x0 : Int) (x1 : Bool) (x2 : List PV) (x3 : Bool) (x4 : List PV) (x5 : Bool) (x6 : List PV) (x7 : Nat) : computusref01_Times_c3 x0 x1 x2 x3 x4 x5 x6 x7 =
    (bif (Dv.ltB x0 (2 : Int)) then (computusref01_Times_c8 x0 (0 : Int) (0 : Int) x1 x2 x3 x4 x5 x6 x7 [(Dv.PV.int Go.IntKind.u64 (0 : Int)), (Dv.PV.int Go.IntKind.u64 (0 : Int)), (Dv.PV.int Go.IntKind.u64 (0 : Int)), (Dv.PV.int Go.IntKind.u64 (0 : Int)), (Dv.PV.int Go.IntKind.u64 (0 : Int)), (Dv.PV.int Go.IntKind.u64 (0 : Int))] 6) else (bif (!(x1 == x3)) then ((computusref01_zero x6).bind fun v113 => (some (Dv.PV.agg [(Dv.PV.bool (!(Dv.PV.toB v113))), (Dv.PV.sl 1 x6)]))) else (some (Dv.PV.agg [(Dv.PV.bool Bool.false), (Dv.PV.sl 1 x6)])))) :=
  (runW_eq EE _ _).trans (by kernel_rfl)
theorem computusref01_Times_c8_eq (x0 : Int) (x1 : Int) (x2 : Int) (x3 : Bool) (x4 : List PV) (x5 : Bool) (x6 : List PV) (x7 : Bool) (x8 : List PV) (x9 : Nat) (x10 : List PV) (x11 : Nat) : computusref01_Times_c8 x0 x1 x2 x3 x4 x5 x6 x7 x8 x9 x10 x11 =
    (bif (Dv.ltB x2 (3 : Int)) then ((Dv.rdI (Dv.tiInt Go.IntKind.u64) x4 x0).bind fun v114 => ((Dv.rdI (Dv.tiInt Go.IntKind.u64) x6 x2).bind fun v115 => (bif (Dv.inB (0 : Int) (Go.IntKind.wrap Go.IntKind.i64 (x0 + x2)) (((List.length x10) : Nat) : Int)) then ((Dv.stC x10 (Int.toNat (Go.IntKind.wrap Go.IntKind.i64 (x0 + x2))) 0 [(Dv.PV.int Go.IntKind.u64 (Dv.andI Go.IntKind.u64 (Go.IntKind.wrap Go.IntKind.u64 (x1 + (Go.IntKind.wrap Go.IntKind.u64 ((Dv.PV.toI v114) * (Dv.PV.toI v115))))) (4294967295 : Int)))]).bind fun v116 => (computusref01_Times_c8 x0 (Dv.shrI Go.IntKind.u64 (Go.IntKind.wrap Go.IntKind.u64 (x1 + (Go.IntKind.wrap Go.IntKind.u64 ((Dv.PV.toI v114) * (Dv.PV.toI v115))))) (32 : Int)) (Go.IntKind.wrap Go.IntKind.i64 (x2 + (1 : Int))) x3 x4 x5 x6 x7 x8 x9 v116 x11)) else none))) else ((computusref01_add x8 x10).bind fun v117 => (computusref01_Times_c3_1 (Dv.PV.toL v117) (Go.IntKind.wrap Go.IntKind.i64 (x0 + (1 : Int))) x3 x4 x5 x6 x7))) :=
  (runW_eq EE _ _).trans (by kernel_rfl)
theorem computusref01_Times_c3_1_eq (x0 : List PV) (x1 : Int) (x2 : Bool) (x3 : List PV) (x4 : Bool) (x5 : List PV) (x6 : Bool) : computusref01_Times_c3_1 x0 x1 x2 x3 x4 x5 x6 =
    (bif (Dv.ltB x1 (2 : Int)) then (computusref01_Times_c8_1 x0 x1 (0 : Int) (0 : Int) x2 x3 x4 x5 x6 [(Dv.PV.int Go.IntKind.u64 (0 : Int)), (Dv.PV.int Go.IntKind.u64 (0 : Int)), (Dv.PV.int Go.IntKind.u64 (0 : Int)), (Dv.PV.int Go.IntKind.u64 (0 : Int)), (Dv.PV.int Go.IntKind.u64 (0 : Int)), (Dv.PV.int Go.IntKind.u64 (0 : Int))] 6) else (bif (!(x2 == x4)) then ((computusref01_zero x0).bind fun v118 => (some (Dv.PV.agg [(Dv.PV.bool (!(Dv.PV.toB v118))), (Dv.PV.sl 1 x0)]))) else (some (Dv.PV.agg [(Dv.PV.bool Bool.false), (Dv.PV.sl 1 x0)])))) :=
  (runW_eq EE _ _).trans (by kernel_rfl)
theorem computusref01_Times_c8_1_eq (x0 : List PV) (x1 : Int) (x2 : Int) (x3 : Int) (x4 : Bool) (x5 : List PV) (x6 : Bool) (x7 : List PV) (x8 : Bool) (x9 : List PV) (x10 : Nat) : computusref01_Times_c8_1 x0 x1 x2 x3 x4 x5 x6 x7 x8 x9 x10 =
    (bif (Dv.ltB x3 (3 : Int)) then ((Dv.rdI (Dv.tiInt Go.IntKind.u64) x5 x1).bind fun v119 => ((Dv.rdI (Dv.tiInt Go.IntKind.u64) x7 x3).bind fun v120 => (bif (Dv.inB (0 : Int) (Go.IntKind.wrap Go.IntKind.i64 (x1 + x3)) (((List.length x9) : Nat) : Int)) then ((Dv.stC x9 (Int.toNat (Go.IntKind.wrap Go.IntKind.i64 (x1 + x3))) 0 [(Dv.PV.int Go.IntKind.u64 (Dv.andI Go.IntKind.u64 (Go.IntKind.wrap Go.IntKind.u64 (x2 + (Go.IntKind.wrap Go.IntKind.u64 ((Dv.PV.toI v119) * (Dv.PV.toI v120))))) (4294967295 : Int)))]).bind fun v121 => (computusref01_Times_c8_1 x0 x1 (Dv.shrI Go.IntKind.u64 (Go.IntKind.wrap Go.IntKind.u64 (x2 + (Go.IntKind.wrap Go.IntKind.u64 ((Dv.PV.toI v119) * (Dv.PV.toI v120))))) (32 : Int)) (Go.IntKind.wrap Go.IntKind.i64 (x3 + (1 : Int))) x4 x5 x6 x7 x8 v121 x10)) else none))) else ((computusref01_add x0 x9).bind fun v122 => (computusref01_Times_c3_1 (Dv.PV.toL v122) (Go.IntKind.wrap Go.IntKind.i64 (x1 + (1 : Int))) x4 x5 x6 x7 x8))) :=
  (runW_eq EE _ _).trans (by kernel_rfl)

theorem stringslite_Cut_eq (a0 : List UInt8) (a1 : List UInt8) : stringslite_Cut a0 a1 =
    ((stringslite_Index a0 a1).bind fun v76 => (bif (Dv.leB (0 : Int) (Dv.PV.toI v76)) then ((Dv.takeS a0 (Dv.PV.toI v76)).bind fun v77 => ((Dv.dropS a0 (Go.IntKind.wrap Go.IntKind.i64 ((Dv.PV.toI v76) + (((List.length a1) : Nat) : Int)))).bind fun v78 => (some (Dv.PV.tuple [(Dv.PV.str v77), (Dv.PV.str v78), (Dv.PV.bool Bool.true)])))) else (some (Dv.PV.tuple [(Dv.PV.str a0), (Dv.PV.str []), (Dv.PV.bool Bool.false)])))) :=
  (callF_eq EE fn_stringslite_Cut _ rfl).trans (by kernel_rfl)

theorem show_number_eq (a0 : Int) : show_number a0 =
    (bif (Dv.ltB a0 (0 : Int)) then ((show_digits (Go.IntKind.wrap Go.IntKind.i64 ((0 : Int) - a0))).bind fun v83 => ((show_join [(Dv.PV.str [(45 : UInt8)]), (Dv.PV.str (Dv.PV.toS v83))]).bind fun v84 => (some (Dv.PV.str (Dv.PV.toS v84))))) else ((show_digits a0).bind fun v85 => (some (Dv.PV.str (Dv.PV.toS v85))))) :=
  (callF_eq EE fn_show_number _ rfl).trans (by kernel_rfl)

theorem strings_TrimPrefix_eq (a0 : List UInt8) (a1 : List UInt8) : strings_TrimPrefix a0 a1 =
    ((stringslite_TrimPrefix a0 a1).bind fun v95 => (some (Dv.PV.str (Dv.PV.toS v95)))) :=
  (callF_eq EE fn_strings_TrimPrefix _ rfl).trans (by kernel_rfl)

theorem computusref02_day_eq (a0 : Int) (a1 : Int) (a2 : Int) : computusref02_day a0 a1 a2 =
    ((computusref02_start a0).bind fun v79 => (computusref02_day_c3 a0 a1 (Go.IntKind.wrap Go.IntKind.i64 ((Go.IntKind.wrap Go.IntKind.i64 ((Dv.PV.toI v79) + a2)) - (1 : Int))) (1 : Int))) :=
  (callF_eq EE fn_computusref02_day _ rfl).trans (by kernel_rfl)
theorem computusref02_day_c3_eq (x0 : Int) (x1 : Int) (x2 : Int) (x3 : Int) : computusref02_day_c3 x0 x1 x2 x3 =
    (bif (Dv.ltB x3 x1) then ((computusref02_Len x0 x3).bind fun v80 => (computusref02_day_c3 x0 x1 (Go.IntKind.wrap Go.IntKind.i64 (x2 + (Dv.PV.toI v80))) (Go.IntKind.wrap Go.IntKind.i64 (x3 + (1 : Int))))) else (some (Dv.PV.int Go.IntKind.i64 x2))) :=
  (runW_eq EE _ _).trans (by kernel_rfl)

theorem civil_day_eq (a0 : Int) (a1 : Int) (a2 : Int) : civil_day a0 a1 a2 =
    (bif (Dv.leB a1 (2 : Int)) then (civil_day_c3 (Go.IntKind.wrap Go.IntKind.i64 (a0 - (1 : Int))) (Go.IntKind.wrap Go.IntKind.i64 (a1 + (12 : Int))) a2) else (civil_day_c3 a0 a1 a2)) :=
  (callF_eq EE fn_civil_day _ rfl).trans (by kernel_rfl)
theorem civil_day_c3_eq (x0 : Int) (x1 : Int) (x2 : Int) : civil_day_c3 x0 x1 x2 =
    ((civil_floor x0 (400 : Int)).bind fun v110 => (some (Dv.PV.int Go.IntKind.i64 (Go.IntKind.wrap Go.IntKind.i64 ((Go.IntKind.wrap Go.IntKind.i64 ((Go.IntKind.wrap Go.IntKind.i64 ((Go.IntKind.wrap Go.IntKind.i64 ((Go.IntKind.wrap Go.IntKind.i64 ((Go.IntKind.wrap Go.IntKind.i64 ((Go.IntKind.wrap Go.IntKind.i64 ((Go.IntKind.wrap Go.IntKind.i64 ((Dv.PV.toI (Dv.PV.tnth v110 0)) * (146097 : Int))) + (Go.IntKind.wrap Go.IntKind.i64 ((Dv.PV.toI (Dv.PV.tnth v110 1)) * (365 : Int))))) + (Go.IntKind.wrap Go.IntKind.i64 (Int.tdiv (Dv.PV.toI (Dv.PV.tnth v110 1)) (4 : Int))))) - (Go.IntKind.wrap Go.IntKind.i64 (Int.tdiv (Dv.PV.toI (Dv.PV.tnth v110 1)) (100 : Int))))) + (Go.IntKind.wrap Go.IntKind.i64 (Int.tdiv (Go.IntKind.wrap Go.IntKind.i64 ((Go.IntKind.wrap Go.IntKind.i64 ((153 : Int) * (Go.IntKind.wrap Go.IntKind.i64 (x1 - (3 : Int))))) + (2 : Int))) (5 : Int))))) + x2)) - (1 : Int))) - (730425 : Int)))))) :=
  (runW_eq EE _ _).trans (by kernel_rfl)

theorem civil_floor_eq (a0 : Int) (a1 : Int) : civil_floor a0 a1 =
    (bif (Dv.eqB a1 (0 : Int)) then none else (bif (Dv.eqB a1 (0 : Int)) then none else (bif (Dv.ltB (Int.tmod a0 a1) (0 : Int)) then (some (Dv.PV.tuple [(Dv.PV.int Go.IntKind.i64 (Go.IntKind.wrap Go.IntKind.i64 ((Go.IntKind.wrap Go.IntKind.i64 (Int.tdiv a0 a1)) - (1 : Int)))), (Dv.PV.int Go.IntKind.i64 (Go.IntKind.wrap Go.IntKind.i64 ((Int.tmod a0 a1) + a1)))])) else (some (Dv.PV.tuple [(Dv.PV.int Go.IntKind.i64 (Go.IntKind.wrap Go.IntKind.i64 (Int.tdiv a0 a1))), (Dv.PV.int Go.IntKind.i64 (Int.tmod a0 a1))]))))) :=
  (callF_eq EE fn_civil_floor _ rfl).trans (by kernel_rfl)

theorem computusref02_Last_eq  : computusref02_Last  =
    ((computusref02_day (294282 : Int) (12 : Int) (31 : Int)).bind fun v136 => (some (Dv.PV.int Go.IntKind.i64 (Dv.PV.toI v136)))) :=
  (callF_eq EE fn_computusref02_Last _ rfl).trans (by kernel_rfl)

theorem num_product_eq (a0 : Int) (a1 : Int) : num_product a0 a1 =
    ((num_size a0).bind fun v111 => ((num_size a1).bind fun v112 => ((bits_Mul64 (Dv.PV.toI v111) (Dv.PV.toI v112)).bind fun v113 => (some (Dv.PV.agg [(Dv.PV.int Go.IntKind.u64 (Dv.PV.toI (Dv.PV.tnth v113 0))), (Dv.PV.int Go.IntKind.u64 (Dv.PV.toI (Dv.PV.tnth v113 1)))]))))) :=
  (callF_eq EE fn_num_product _ rfl).trans (by kernel_rfl)

theorem num_size_eq (a0 : Int) : num_size a0 =
    (bif (Dv.ltB a0 (0 : Int)) then (some (Dv.PV.int Go.IntKind.u64 (Go.IntKind.wrap Go.IntKind.u64 ((0 : Int) - (Go.IntKind.wrap Go.IntKind.u64 a0))))) else (some (Dv.PV.int Go.IntKind.u64 (Go.IntKind.wrap Go.IntKind.u64 a0)))) :=
  (callF_eq EE fn_num_size _ rfl).trans (by kernel_rfl)

theorem bits_Div64_eq (a0 : Int) (a1 : Int) (a2 : Int) : bits_Div64 a0 a1 a2 =
    (bif (Dv.eqB a2 (0 : Int)) then none else (bits_Div64_c3 a0 a1 a2)) :=
  (callF_eq EE fn_bits_Div64 _ rfl).trans (by kernel_rfl)
theorem bits_Div64_c3_eq (x0 : Int) (x1 : Int) (x2 : Int) : bits_Div64_c3 x0 x1 x2 =
    (bif (Dv.leB x2 x0) then none else (bits_Div64_c5 x0 x1 x2)) :=
  (runW_eq EE _ _).trans (by kernel_rfl)
theorem bits_Div64_c5_eq (x0 : Int) (x1 : Int) (x2 : Int) : bits_Div64_c5 x0 x1 x2 =
    (bif (Dv.eqB x0 (0 : Int)) then (bif (Dv.eqB x2 (0 : Int)) then none else (bif (Dv.eqB x2 (0 : Int)) then none else (some (Dv.PV.tuple [(Dv.PV.int Go.IntKind.u64 (Go.IntKind.wrap Go.IntKind.u64 (Int.tdiv x1 x2))), (Dv.PV.int Go.IntKind.u64 (Int.tmod x1 x2))])))) else ((bits_LeadingZeros64 x2).bind fun v89 => (bif (Dv.ltB (Go.IntKind.wrap Go.IntKind.u64 (Dv.PV.toI v89)) (0 : Int)) then none else (bif (Dv.ltB (Go.IntKind.wrap Go.IntKind.u64 (Dv.PV.toI v89)) (0 : Int)) then none else (bif (Dv.ltB (Go.IntKind.wrap Go.IntKind.u64 ((64 : Int) - (Go.IntKind.wrap Go.IntKind.u64 (Dv.PV.toI v89)))) (0 : Int)) then none else (bif (Dv.ltB (Go.IntKind.wrap Go.IntKind.u64 (Dv.PV.toI v89)) (0 : Int)) then none else (bif (Dv.eqB (Dv.shrI Go.IntKind.u64 (Dv.shlI Go.IntKind.u64 x2 (Go.IntKind.wrap Go.IntKind.u64 (Dv.PV.toI v89))) (32 : Int)) (0 : Int)) then none else (bits_Div64_c17 (Dv.shlI Go.IntKind.u64 x2 (Go.IntKind.wrap Go.IntKind.u64 (Dv.PV.toI v89))) (Go.IntKind.wrap Go.IntKind.u64 (Dv.PV.toI v89)) (Dv.shrI Go.IntKind.u64 (Dv.shlI Go.IntKind.u64 x2 (Go.IntKind.wrap Go.IntKind.u64 (Dv.PV.toI v89))) (32 : Int)) (Dv.andI Go.IntKind.u64 (Dv.shlI Go.IntKind.u64 x2 (Go.IntKind.wrap Go.IntKind.u64 (Dv.PV.toI v89))) (4294967295 : Int)) (Dv.orI Go.IntKind.u64 (Dv.shlI Go.IntKind.u64 x0 (Go.IntKind.wrap Go.IntKind.u64 (Dv.PV.toI v89))) (Dv.shrI Go.IntKind.u64 x1 (Go.IntKind.wrap Go.IntKind.u64 ((64 : Int) - (Go.IntKind.wrap Go.IntKind.u64 (Dv.PV.toI v89)))))) (Dv.shrI Go.IntKind.u64 (Dv.shlI Go.IntKind.u64 x1 (Go.IntKind.wrap Go.IntKind.u64 (Dv.PV.toI v89))) (32 : Int)) (Dv.andI Go.IntKind.u64 (Dv.shlI Go.IntKind.u64 x1 (Go.IntKind.wrap Go.IntKind.u64 (Dv.PV.toI v89))) (4294967295 : Int)) (Go.IntKind.wrap Go.IntKind.u64 (Int.tdiv (Dv.orI Go.IntKind.u64 (Dv.shlI Go.IntKind.u64 x0 (Go.IntKind.wrap Go.IntKind.u64 (Dv.PV.toI v89))) (Dv.shrI Go.IntKind.u64 x1 (Go.IntKind.wrap Go.IntKind.u64 ((64 : Int) - (Go.IntKind.wrap Go.IntKind.u64 (Dv.PV.toI v89)))))) (Dv.shrI Go.IntKind.u64 (Dv.shlI Go.IntKind.u64 x2 (Go.IntKind.wrap Go.IntKind.u64 (Dv.PV.toI v89))) (32 : Int)))) (Go.IntKind.wrap Go.IntKind.u64 ((Dv.orI Go.IntKind.u64 (Dv.shlI Go.IntKind.u64 x0 (Go.IntKind.wrap Go.IntKind.u64 (Dv.PV.toI v89))) (Dv.shrI Go.IntKind.u64 x1 (Go.IntKind.wrap Go.IntKind.u64 ((64 : Int) - (Go.IntKind.wrap Go.IntKind.u64 (Dv.PV.toI v89)))))) - (Go.IntKind.wrap Go.IntKind.u64 ((Go.IntKind.wrap Go.IntKind.u64 (Int.tdiv (Dv.orI Go.IntKind.u64 (Dv.shlI Go.IntKind.u64 x0 (Go.IntKind.wrap Go.IntKind.u64 (Dv.PV.toI v89))) (Dv.shrI Go.IntKind.u64 x1 (Go.IntKind.wrap Go.IntKind.u64 ((64 : Int) - (Go.IntKind.wrap Go.IntKind.u64 (Dv.PV.toI v89)))))) (Dv.shrI Go.IntKind.u64 (Dv.shlI Go.IntKind.u64 x2 (Go.IntKind.wrap Go.IntKind.u64 (Dv.PV.toI v89))) (32 : Int)))) * (Dv.shrI Go.IntKind.u64 (Dv.shlI Go.IntKind.u64 x2 (Go.IntKind.wrap Go.IntKind.u64 (Dv.PV.toI v89))) (32 : Int)))))))))))))) :=
  (runW_eq EE _ _).trans (by kernel_rfl)
theorem bits_Div64_c17_eq (x0 : Int) (x1 : Int) (x2 : Int) (x3 : Int) (x4 : Int) (x5 : Int) (x6 : Int) (x7 : Int) (x8 : Int) : bits_Div64_c17 x0 x1 x2 x3 x4 x5 x6 x7 x8 =
    (bif (Dv.leB (4294967296 : Int) x7) then (bits_Div64_c18 x0 x1 x2 x3 x4 x5 x6 x7 x8) else (bif (Dv.ltB (Go.IntKind.wrap Go.IntKind.u64 ((Go.IntKind.wrap Go.IntKind.u64 ((4294967296 : Int) * x8)) + x5)) (Go.IntKind.wrap Go.IntKind.u64 (x7 * x3))) then (bits_Div64_c18 x0 x1 x2 x3 x4 x5 x6 x7 x8) else (bits_Div64_c21 x0 x1 x2 x3 x4 x5 x6 x7))) :=
  (runW_eq EE _ _).trans (by kernel_rfl)
theorem bits_Div64_c18_eq (x0 : Int) (x1 : Int) (x2 : Int) (x3 : Int) (x4 : Int) (x5 : Int) (x6 : Int) (x7 : Int) (x8 : Int) : bits_Div64_c18 x0 x1 x2 x3 x4 x5 x6 x7 x8 =
    (bif (Dv.leB (4294967296 : Int) (Go.IntKind.wrap Go.IntKind.u64 (x8 + x2))) then (bits_Div64_c21 x0 x1 x2 x3 x4 x5 x6 (Go.IntKind.wrap Go.IntKind.u64 (x7 - (1 : Int)))) else (bits_Div64_c17 x0 x1 x2 x3 x4 x5 x6 (Go.IntKind.wrap Go.IntKind.u64 (x7 - (1 : Int))) (Go.IntKind.wrap Go.IntKind.u64 (x8 + x2)))) :=
  (runW_eq EE _ _).trans (by kernel_rfl)
theorem bits_Div64_c21_eq (x0 : Int) (x1 : Int) (x2 : Int) (x3 : Int) (x4 : Int) (x5 : Int) (x6 : Int) (x7 : Int) : bits_Div64_c21 x0 x1 x2 x3 x4 x5 x6 x7 =
    (bif (Dv.eqB x2 (0 : Int)) then none else (bits_Div64_c24 x0 x1 x2 x3 x6 x7 (Go.IntKind.wrap Go.IntKind.u64 ((Go.IntKind.wrap Go.IntKind.u64 ((Go.IntKind.wrap Go.IntKind.u64 ((Go.IntKind.wrap Go.IntKind.u64 (x4 * (4294967296 : Int))) + x5)) - (Go.IntKind.wrap Go.IntKind.u64 (x7 * x0)))) - (Go.IntKind.wrap Go.IntKind.u64 ((Go.IntKind.wrap Go.IntKind.u64 (Int.tdiv (Go.IntKind.wrap Go.IntKind.u64 ((Go.IntKind.wrap Go.IntKind.u64 ((Go.IntKind.wrap Go.IntKind.u64 (x4 * (4294967296 : Int))) + x5)) - (Go.IntKind.wrap Go.IntKind.u64 (x7 * x0)))) x2)) * x2)))) (Go.IntKind.wrap Go.IntKind.u64 ((Go.IntKind.wrap Go.IntKind.u64 ((Go.IntKind.wrap Go.IntKind.u64 (x4 * (4294967296 : Int))) + x5)) - (Go.IntKind.wrap Go.IntKind.u64 (x7 * x0)))) (Go.IntKind.wrap Go.IntKind.u64 (Int.tdiv (Go.IntKind.wrap Go.IntKind.u64 ((Go.IntKind.wrap Go.IntKind.u64 ((Go.IntKind.wrap Go.IntKind.u64 (x4 * (4294967296 : Int))) + x5)) - (Go.IntKind.wrap Go.IntKind.u64 (x7 * x0)))) x2)))) :=
  (runW_eq EE _ _).trans (by kernel_rfl)
theorem bits_Div64_c24_eq (x0 : Int) (x1 : Int) (x2 : Int) (x3 : Int) (x4 : Int) (x5 : Int) (x6 : Int) (x7 : Int) (x8 : Int) : bits_Div64_c24 x0 x1 x2 x3 x4 x5 x6 x7 x8 =
    (bif (Dv.leB (4294967296 : Int) x8) then (bits_Div64_c25 x0 x1 x2 x3 x4 x5 x6 x7 x8) else (bif (Dv.ltB (Go.IntKind.wrap Go.IntKind.u64 ((Go.IntKind.wrap Go.IntKind.u64 ((4294967296 : Int) * x6)) + x4)) (Go.IntKind.wrap Go.IntKind.u64 (x8 * x3))) then (bits_Div64_c25 x0 x1 x2 x3 x4 x5 x6 x7 x8) else (bits_Div64_c28 x0 x1 x4 x5 x7 x8))) :=
  (runW_eq EE _ _).trans (by kernel_rfl)
theorem bits_Div64_c25_eq (x0 : Int) (x1 : Int) (x2 : Int) (x3 : Int) (x4 : Int) (x5 : Int) (x6 : Int) (x7 : Int) (x8 : Int) : bits_Div64_c25 x0 x1 x2 x3 x4 x5 x6 x7 x8 =
    (bif (Dv.leB (4294967296 : Int) (Go.IntKind.wrap Go.IntKind.u64 (x6 + x2))) then (bits_Div64_c28 x0 x1 x4 x5 x7 (Go.IntKind.wrap Go.IntKind.u64 (x8 - (1 : Int)))) else (bits_Div64_c24 x0 x1 x2 x3 x4 x5 (Go.IntKind.wrap Go.IntKind.u64 (x6 + x2)) x7 (Go.IntKind.wrap Go.IntKind.u64 (x8 - (1 : Int))))) :=
  (runW_eq EE _ _).trans (by kernel_rfl)
theorem bits_Div64_c28_eq (x0 : Int) (x1 : Int) (x2 : Int) (x3 : Int) (x4 : Int) (x5 : Int) : bits_Div64_c28 x0 x1 x2 x3 x4 x5 =
    (bif (Dv.ltB x1 (0 : Int)) then none else (some (Dv.PV.tuple [(Dv.PV.int Go.IntKind.u64 (Go.IntKind.wrap Go.IntKind.u64 ((Go.IntKind.wrap Go.IntKind.u64 (x3 * (4294967296 : Int))) + x5))), (Dv.PV.int Go.IntKind.u64 (Dv.shrI Go.IntKind.u64 (Go.IntKind.wrap Go.IntKind.u64 ((Go.IntKind.wrap Go.IntKind.u64 ((Go.IntKind.wrap Go.IntKind.u64 (x4 * (4294967296 : Int))) + x2)) - (Go.IntKind.wrap Go.IntKind.u64 (x5 * x0)))) x1))]))) :=
  (runW_eq EE _ _).trans (by kernel_rfl)

theorem num_signed_eq (a0 : Bool) (a1_0 : Int) (a1_1 : Int) : num_signed a0 a1_0 a1_1 =
    (bif (!(Dv.eqB a1_0 (0 : Int))) then (some (Dv.PV.tuple [(Dv.PV.int Go.IntKind.i64 (0 : Int)), (Dv.PV.int Go.IntKind.i64 (10 : Int))])) else (bif a0 then (bif (Dv.leB a1_1 (9223372036854775808 : Int)) then (some (Dv.PV.tuple [(Dv.PV.int Go.IntKind.i64 (Go.IntKind.wrap Go.IntKind.i64 (Go.IntKind.wrap Go.IntKind.u64 ((0 : Int) - a1_1)))), (Dv.PV.int Go.IntKind.i64 (0 : Int))])) else (num_signed_c5 a0 [(Dv.PV.int Go.IntKind.u64 a1_0), (Dv.PV.int Go.IntKind.u64 a1_1)] 2)) else (num_signed_c5 a0 [(Dv.PV.int Go.IntKind.u64 a1_0), (Dv.PV.int Go.IntKind.u64 a1_1)] 2))) :=
  (callF_eq EE fn_num_signed _ rfl).trans (by kernel_rfl)
theorem num_signed_c5_eq (x0 : Bool) (x1 : List PV) (x2 : Nat) : num_signed_c5 x0 x1 x2 =
    (bif x0 then (some (Dv.PV.tuple [(Dv.PV.int Go.IntKind.i64 (0 : Int)), (Dv.PV.int Go.IntKind.i64 (10 : Int))])) else ((Dv.rdT (Dv.tiInt Go.IntKind.u64) x1 1 0).bind fun v94 => (bif (Dv.ltB (9223372036854775807 : Int) (Dv.PV.toI v94)) then (some (Dv.PV.tuple [(Dv.PV.int Go.IntKind.i64 (0 : Int)), (Dv.PV.int Go.IntKind.i64 (10 : Int))])) else ((Dv.rdT (Dv.tiInt Go.IntKind.u64) x1 1 0).bind fun v95 => (some (Dv.PV.tuple [(Dv.PV.int Go.IntKind.i64 (Go.IntKind.wrap Go.IntKind.i64 (Dv.PV.toI v95))), (Dv.PV.int Go.IntKind.i64 (0 : Int))])))))) :=
  (runW_eq EE _ _).trans (by kernel_rfl)

theorem computusref01_divide_eq (a0 : List PV) (a1 : List PV) : computusref01_divide a0 a1 =
    (computusref01_divide_c4 a0 a1 (191 : Int) [(Dv.PV.int Go.IntKind.u64 (0 : Int)), (Dv.PV.int Go.IntKind.u64 (0 : Int)), (Dv.PV.int Go.IntKind.u64 (0 : Int)), (Dv.PV.int Go.IntKind.u64 (0 : Int)), (Dv.PV.int Go.IntKind.u64 (0 : Int)), (Dv.PV.int Go.IntKind.u64 (0 : Int))] 6 [(Dv.PV.int Go.IntKind.u64 (0 : Int)), (Dv.PV.int Go.IntKind.u64 (0 : Int)), (Dv.PV.int Go.IntKind.u64 (0 : Int)), (Dv.PV.int Go.IntKind.u64 (0 : Int)), (Dv.PV.int Go.IntKind.u64 (0 : Int)), (Dv.PV.int Go.IntKind.u64 (0 : Int))] 6) :=
  (callF_eq EE fn_computusref01_divide _ rfl).trans (by kernel_rfl)
theorem computusref01_divide_c4_eq (x0 : List PV) (x1 : List PV) (x2 : Int) (x3 : List PV) (x4 : Nat) (x5 : List PV) (x6 : Nat) : computusref01_divide_c4 x0 x1 x2 x3 x4 x5 x6 =
    (bif (Dv.leB (0 : Int) x2) then (bif (Dv.inB (0 : Int) (0 : Int) (((List.length x5) : Nat) : Int)) then ((Dv.rdT (Dv.tiInt Go.IntKind.u64) x5 0 0).bind fun v99 => (bif (Dv.inB (0 : Int) (0 : Int) (((List.length x5) : Nat) : Int)) then ((Dv.rdT (Dv.tiInt Go.IntKind.u64) x5 0 0).bind fun v100 => (bif (Dv.inB (0 : Int) (Go.IntKind.wrap Go.IntKind.i64 ((0 : Int) + (1 : Int))) (((List.length x5) : Nat) : Int)) then ((Dv.rdT (Dv.tiInt Go.IntKind.u64) x5 1 0).bind fun v101 => (bif (Dv.inB (0 : Int) (Go.IntKind.wrap Go.IntKind.i64 ((0 : Int) + (1 : Int))) (((List.length x5) : Nat) : Int)) then ((Dv.rdT (Dv.tiInt Go.IntKind.u64) x5 1 0).bind fun v102 => (bif (Dv.inB (0 : Int) (Go.IntKind.wrap Go.IntKind.i64 ((Go.IntKind.wrap Go.IntKind.i64 ((0 : Int) + (1 : Int))) + (1 : Int))) (((List.length x5) : Nat) : Int)) then ((Dv.rdT (Dv.tiInt Go.IntKind.u64) x5 2 0).bind fun v103 => (bif (Dv.inB (0 : Int) (Go.IntKind.wrap Go.IntKind.i64 ((Go.IntKind.wrap Go.IntKind.i64 ((0 : Int) + (1 : Int))) + (1 : Int))) (((List.length x5) : Nat) : Int)) then ((Dv.rdT (Dv.tiInt Go.IntKind.u64) x5 2 0).bind fun v104 => (bif (Dv.inB (0 : Int) (Go.IntKind.wrap Go.IntKind.i64 ((Go.IntKind.wrap Go.IntKind.i64 ((Go.IntKind.wrap Go.IntKind.i64 ((0 : Int) + (1 : Int))) + (1 : Int))) + (1 : Int))) (((List.length x5) : Nat) : Int)) then ((Dv.rdT (Dv.tiInt Go.IntKind.u64) x5 3 0).bind fun v105 => (bif (Dv.inB (0 : Int) (Go.IntKind.wrap Go.IntKind.i64 ((Go.IntKind.wrap Go.IntKind.i64 ((Go.IntKind.wrap Go.IntKind.i64 ((0 : Int) + (1 : Int))) + (1 : Int))) + (1 : Int))) (((List.length x5) : Nat) : Int)) then ((Dv.rdT (Dv.tiInt Go.IntKind.u64) x5 3 0).bind fun v106 => (bif (Dv.inB (0 : Int) (Go.IntKind.wrap Go.IntKind.i64 ((Go.IntKind.wrap Go.IntKind.i64 ((Go.IntKind.wrap Go.IntKind.i64 ((Go.IntKind.wrap Go.IntKind.i64 ((0 : Int) + (1 : Int))) + (1 : Int))) + (1 : Int))) + (1 : Int))) (((List.length x5) : Nat) : Int)) then ((Dv.rdT (Dv.tiInt Go.IntKind.u64) x5 4 0).bind fun v107 => (bif (Dv.inB (0 : Int) (Go.IntKind.wrap Go.IntKind.i64 ((Go.IntKind.wrap Go.IntKind.i64 ((Go.IntKind.wrap Go.IntKind.i64 ((Go.IntKind.wrap Go.IntKind.i64 ((0 : Int) + (1 : Int))) + (1 : Int))) + (1 : Int))) + (1 : Int))) (((List.length x5) : Nat) : Int)) then ((Dv.rdT (Dv.tiInt Go.IntKind.u64) x5 4 0).bind fun v108 => (bif (Dv.inB (0 : Int) (Go.IntKind.wrap Go.IntKind.i64 ((Go.IntKind.wrap Go.IntKind.i64 ((Go.IntKind.wrap Go.IntKind.i64 ((Go.IntKind.wrap Go.IntKind.i64 ((Go.IntKind.wrap Go.IntKind.i64 ((0 : Int) + (1 : Int))) + (1 : Int))) + (1 : Int))) + (1 : Int))) + (1 : Int))) (((List.length x5) : Nat) : Int)) then ((Dv.rdT (Dv.tiInt Go.IntKind.u64) x5 5 0).bind fun v109 => (bif (Dv.inB (0 : Int) (Go.IntKind.wrap Go.IntKind.i64 ((Go.IntKind.wrap Go.IntKind.i64 ((Go.IntKind.wrap Go.IntKind.i64 ((Go.IntKind.wrap Go.IntKind.i64 ((Go.IntKind.wrap Go.IntKind.i64 ((0 : Int) + (1 : Int))) + (1 : Int))) + (1 : Int))) + (1 : Int))) + (1 : Int))) (((List.length x5) : Nat) : Int)) then ((Dv.rdT (Dv.tiInt Go.IntKind.u64) x5 5 0).bind fun v110 => (computusref01_divide_c7 x0 x1 x2 x3 x4 [(Dv.PV.int Go.IntKind.u64 (Dv.andI Go.IntKind.u64 (Go.IntKind.wrap Go.IntKind.u64 ((Go.IntKind.wrap Go.IntKind.u64 ((0 : Int) + (Dv.PV.toI v99))) + (Dv.PV.toI v100))) (4294967295 : Int))), (Dv.PV.int Go.IntKind.u64 (Dv.andI Go.IntKind.u64 (Go.IntKind.wrap Go.IntKind.u64 ((Go.IntKind.wrap Go.IntKind.u64 ((Dv.shrI Go.IntKind.u64 (Go.IntKind.wrap Go.IntKind.u64 ((Go.IntKind.wrap Go.IntKind.u64 ((0 : Int) + (Dv.PV.toI v99))) + (Dv.PV.toI v100))) (32 : Int)) + (Dv.PV.toI v101))) + (Dv.PV.toI v102))) (4294967295 : Int))), (Dv.PV.int Go.IntKind.u64 (Dv.andI Go.IntKind.u64 (Go.IntKind.wrap Go.IntKind.u64 ((Go.IntKind.wrap Go.IntKind.u64 ((Dv.shrI Go.IntKind.u64 (Go.IntKind.wrap Go.IntKind.u64 ((Go.IntKind.wrap Go.IntKind.u64 ((Dv.shrI Go.IntKind.u64 (Go.IntKind.wrap Go.IntKind.u64 ((Go.IntKind.wrap Go.IntKind.u64 ((0 : Int) + (Dv.PV.toI v99))) + (Dv.PV.toI v100))) (32 : Int)) + (Dv.PV.toI v101))) + (Dv.PV.toI v102))) (32 : Int)) + (Dv.PV.toI v103))) + (Dv.PV.toI v104))) (4294967295 : Int))), (Dv.PV.int Go.IntKind.u64 (Dv.andI Go.IntKind.u64 (Go.IntKind.wrap Go.IntKind.u64 ((Go.IntKind.wrap Go.IntKind.u64 ((Dv.shrI Go.IntKind.u64 (Go.IntKind.wrap Go.IntKind.u64 ((Go.IntKind.wrap Go.IntKind.u64 ((Dv.shrI Go.IntKind.u64 (Go.IntKind.wrap Go.IntKind.u64 ((Go.IntKind.wrap Go.IntKind.u64 ((Dv.shrI Go.IntKind.u64 (Go.IntKind.wrap Go.IntKind.u64 ((Go.IntKind.wrap Go.IntKind.u64 ((0 : Int) + (Dv.PV.toI v99))) + (Dv.PV.toI v100))) (32 : Int)) + (Dv.PV.toI v101))) + (Dv.PV.toI v102))) (32 : Int)) + (Dv.PV.toI v103))) + (Dv.PV.toI v104))) (32 : Int)) + (Dv.PV.toI v105))) + (Dv.PV.toI v106))) (4294967295 : Int))), (Dv.PV.int Go.IntKind.u64 (Dv.andI Go.IntKind.u64 (Go.IntKind.wrap Go.IntKind.u64 ((Go.IntKind.wrap Go.IntKind.u64 ((Dv.shrI Go.IntKind.u64 (Go.IntKind.wrap Go.IntKind.u64 ((Go.IntKind.wrap Go.IntKind.u64 ((Dv.shrI Go.IntKind.u64 (Go.IntKind.wrap Go.IntKind.u64 ((Go.IntKind.wrap Go.IntKind.u64 ((Dv.shrI Go.IntKind.u64 (Go.IntKind.wrap Go.IntKind.u64 ((Go.IntKind.wrap Go.IntKind.u64 ((Dv.shrI Go.IntKind.u64 (Go.IntKind.wrap Go.IntKind.u64 ((Go.IntKind.wrap Go.IntKind.u64 ((0 : Int) + (Dv.PV.toI v99))) + (Dv.PV.toI v100))) (32 : Int)) + (Dv.PV.toI v101))) + (Dv.PV.toI v102))) (32 : Int)) + (Dv.PV.toI v103))) + (Dv.PV.toI v104))) (32 : Int)) + (Dv.PV.toI v105))) + (Dv.PV.toI v106))) (32 : Int)) + (Dv.PV.toI v107))) + (Dv.PV.toI v108))) (4294967295 : Int))), (Dv.PV.int Go.IntKind.u64 (Dv.andI Go.IntKind.u64 (Go.IntKind.wrap Go.IntKind.u64 ((Go.IntKind.wrap Go.IntKind.u64 ((Dv.shrI Go.IntKind.u64 (Go.IntKind.wrap Go.IntKind.u64 ((Go.IntKind.wrap Go.IntKind.u64 ((Dv.shrI Go.IntKind.u64 (Go.IntKind.wrap Go.IntKind.u64 ((Go.IntKind.wrap Go.IntKind.u64 ((Dv.shrI Go.IntKind.u64 (Go.IntKind.wrap Go.IntKind.u64 ((Go.IntKind.wrap Go.IntKind.u64 ((Dv.shrI Go.IntKind.u64 (Go.IntKind.wrap Go.IntKind.u64 ((Go.IntKind.wrap Go.IntKind.u64 ((Dv.shrI Go.IntKind.u64 (Go.IntKind.wrap Go.IntKind.u64 ((Go.IntKind.wrap Go.IntKind.u64 ((0 : Int) + (Dv.PV.toI v99))) + (Dv.PV.toI v100))) (32 : Int)) + (Dv.PV.toI v101))) + (Dv.PV.toI v102))) (32 : Int)) + (Dv.PV.toI v103))) + (Dv.PV.toI v104))) (32 : Int)) + (Dv.PV.toI v105))) + (Dv.PV.toI v106))) (32 : Int)) + (Dv.PV.toI v107))) + (Dv.PV.toI v108))) (32 : Int)) + (Dv.PV.toI v109))) + (Dv.PV.toI v110))) (4294967295 : Int)))] 6)) else none)) else none)) else none)) else none)) else none)) else none)) else none)) else none)) else none)) else none)) else none)) else none) else (some (Dv.PV.tuple [(Dv.PV.sl 1 x3), (Dv.PV.sl 1 x5)]))) :=
  (runW_eq EE _ _).trans (by kernel_rfl)
theorem computusref01_divide_c7_eq (x0 : List PV) (x1 : List PV) (x2 : Int) (x3 : List PV) (x4 : Nat) (x5 : List PV) (x6 : Nat) : computusref01_divide_c7 x0 x1 x2 x3 x4 x5 x6 =
    (bif (Dv.inB (0 : Int) (0 : Int) (((List.length x5) : Nat) : Int)) then ((Dv.rdT (Dv.tiInt Go.IntKind.u64) x5 0 0).bind fun v111 => ((Dv.rdI (Dv.tiInt Go.IntKind.u64) x0 (Go.IntKind.wrap Go.IntKind.i64 (Int.tdiv x2 (32 : Int)))).bind fun v112 => (bif (Dv.ltB (Go.IntKind.wrap Go.IntKind.u64 (Int.tmod x2 (32 : Int))) (0 : Int)) then none else (bif (Dv.inB (0 : Int) (0 : Int) (((List.length x5) : Nat) : Int)) then ((Dv.stC x5 0 0 [(Dv.PV.int Go.IntKind.u64 (Dv.orI Go.IntKind.u64 (Dv.PV.toI v111) (Dv.andI Go.IntKind.u64 (Dv.shrI Go.IntKind.u64 (Dv.PV.toI v112) (Go.IntKind.wrap Go.IntKind.u64 (Int.tmod x2 (32 : Int)))) (1 : Int))))]).bind fun v113 => ((computusref01_cmp v113 x1).bind fun v114 => (bif (Dv.leB (0 : Int) (Dv.PV.toI v114)) then ((computusref01_less v113 x1).bind fun v115 => (bif (Dv.inB (0 : Int) (Go.IntKind.wrap Go.IntKind.i64 (Int.tdiv x2 (32 : Int))) (((List.length x3) : Nat) : Int)) then ((Dv.rdT (Dv.tiInt Go.IntKind.u64) x3 (Int.toNat (Go.IntKind.wrap Go.IntKind.i64 (Int.tdiv x2 (32 : Int)))) 0).bind fun v116 => (bif (Dv.ltB (Go.IntKind.wrap Go.IntKind.u64 (Int.tmod x2 (32 : Int))) (0 : Int)) then none else (bif (Dv.inB (0 : Int) (Go.IntKind.wrap Go.IntKind.i64 (Int.tdiv x2 (32 : Int))) (((List.length x3) : Nat) : Int)) then ((Dv.stC x3 (Int.toNat (Go.IntKind.wrap Go.IntKind.i64 (Int.tdiv x2 (32 : Int)))) 0 [(Dv.PV.int Go.IntKind.u64 (Dv.orI Go.IntKind.u64 (Dv.PV.toI v116) (Dv.shlI Go.IntKind.u64 (1 : Int) (Go.IntKind.wrap Go.IntKind.u64 (Int.tmod x2 (32 : Int))))))]).bind fun v117 => (computusref01_divide_c4_1 x0 x1 (Dv.PV.toL v115) (Go.IntKind.wrap Go.IntKind.i64 (x2 - (1 : Int))) v117 x4)) else none))) else none)) else (computusref01_divide_c4 x0 x1 (Go.IntKind.wrap Go.IntKind.i64 (x2 - (1 : Int))) x3 x4 v113 x6)))) else none)))) else none) :=
  (runW_eq EE _ _).trans (by kernel_rfl)
theorem computusref01_divide_c4_1_eq (x0 : List PV) (x1 : List PV) (x2 : List PV) (x3 : Int) (x4 : List PV) (x5 : Nat) : computusref01_divide_c4_1 x0 x1 x2 x3 x4 x5 =
    (bif (Dv.leB (0 : Int) x3) then ((Dv.rdI (Dv.tiInt Go.IntKind.u64) x2 (0 : Int)).bind fun v118 => ((Dv.rdI (Dv.tiInt Go.IntKind.u64) x2 (0 : Int)).bind fun v119 => ((Dv.rdI (Dv.tiInt Go.IntKind.u64) x2 (Go.IntKind.wrap Go.IntKind.i64 ((0 : Int) + (1 : Int)))).bind fun v120 => ((Dv.rdI (Dv.tiInt Go.IntKind.u64) x2 (Go.IntKind.wrap Go.IntKind.i64 ((0 : Int) + (1 : Int)))).bind fun v121 => ((Dv.rdI (Dv.tiInt Go.IntKind.u64) x2 (Go.IntKind.wrap Go.IntKind.i64 ((Go.IntKind.wrap Go.IntKind.i64 ((0 : Int) + (1 : Int))) + (1 : Int)))).bind fun v122 => ((Dv.rdI (Dv.tiInt Go.IntKind.u64) x2 (Go.IntKind.wrap Go.IntKind.i64 ((Go.IntKind.wrap Go.IntKind.i64 ((0 : Int) + (1 : Int))) + (1 : Int)))).bind fun v123 => ((Dv.rdI (Dv.tiInt Go.IntKind.u64) x2 (Go.IntKind.wrap Go.IntKind.i64 ((Go.IntKind.wrap Go.IntKind.i64 ((Go.IntKind.wrap Go.IntKind.i64 ((0 : Int) + (1 : Int))) + (1 : Int))) + (1 : Int)))).bind fun v124 => ((Dv.rdI (Dv.tiInt Go.IntKind.u64) x2 (Go.IntKind.wrap Go.IntKind.i64 ((Go.IntKind.wrap Go.IntKind.i64 ((Go.IntKind.wrap Go.IntKind.i64 ((0 : Int) + (1 : Int))) + (1 : Int))) + (1 : Int)))).bind fun v125 => ((Dv.rdI (Dv.tiInt Go.IntKind.u64) x2 (Go.IntKind.wrap Go.IntKind.i64 ((Go.IntKind.wrap Go.IntKind.i64 ((Go.IntKind.wrap Go.IntKind.i64 ((Go.IntKind.wrap Go.IntKind.i64 ((0 : Int) + (1 : Int))) + (1 : Int))) + (1 : Int))) + (1 : Int)))).bind fun v126 => ((Dv.rdI (Dv.tiInt Go.IntKind.u64) x2 (Go.IntKind.wrap Go.IntKind.i64 ((Go.IntKind.wrap Go.IntKind.i64 ((Go.IntKind.wrap Go.IntKind.i64 ((Go.IntKind.wrap Go.IntKind.i64 ((0 : Int) + (1 : Int))) + (1 : Int))) + (1 : Int))) + (1 : Int)))).bind fun v127 => ((Dv.rdI (Dv.tiInt Go.IntKind.u64) x2 (Go.IntKind.wrap Go.IntKind.i64 ((Go.IntKind.wrap Go.IntKind.i64 ((Go.IntKind.wrap Go.IntKind.i64 ((Go.IntKind.wrap Go.IntKind.i64 ((Go.IntKind.wrap Go.IntKind.i64 ((0 : Int) + (1 : Int))) + (1 : Int))) + (1 : Int))) + (1 : Int))) + (1 : Int)))).bind fun v128 => ((Dv.rdI (Dv.tiInt Go.IntKind.u64) x2 (Go.IntKind.wrap Go.IntKind.i64 ((Go.IntKind.wrap Go.IntKind.i64 ((Go.IntKind.wrap Go.IntKind.i64 ((Go.IntKind.wrap Go.IntKind.i64 ((Go.IntKind.wrap Go.IntKind.i64 ((0 : Int) + (1 : Int))) + (1 : Int))) + (1 : Int))) + (1 : Int))) + (1 : Int)))).bind fun v129 => (computusref01_divide_c7 x0 x1 x3 x4 x5 [(Dv.PV.int Go.IntKind.u64 (Dv.andI Go.IntKind.u64 (Go.IntKind.wrap Go.IntKind.u64 ((Go.IntKind.wrap Go.IntKind.u64 ((0 : Int) + (Dv.PV.toI v118))) + (Dv.PV.toI v119))) (4294967295 : Int))), (Dv.PV.int Go.IntKind.u64 (Dv.andI Go.IntKind.u64 (Go.IntKind.wrap Go.IntKind.u64 ((Go.IntKind.wrap Go.IntKind.u64 ((Dv.shrI Go.IntKind.u64 (Go.IntKind.wrap Go.IntKind.u64 ((Go.IntKind.wrap Go.IntKind.u64 ((0 : Int) + (Dv.PV.toI v118))) + (Dv.PV.toI v119))) (32 : Int)) + (Dv.PV.toI v120))) + (Dv.PV.toI v121))) (4294967295 : Int))), (Dv.PV.int Go.IntKind.u64 (Dv.andI Go.IntKind.u64 (Go.IntKind.wrap Go.IntKind.u64 ((Go.IntKind.wrap Go.IntKind.u64 ((Dv.shrI Go.IntKind.u64 (Go.IntKind.wrap Go.IntKind.u64 ((Go.IntKind.wrap Go.IntKind.u64 ((Dv.shrI Go.IntKind.u64 (Go.IntKind.wrap Go.IntKind.u64 ((Go.IntKind.wrap Go.IntKind.u64 ((0 : Int) + (Dv.PV.toI v118))) + (Dv.PV.toI v119))) (32 : Int)) + (Dv.PV.toI v120))) + (Dv.PV.toI v121))) (32 : Int)) + (Dv.PV.toI v122))) + (Dv.PV.toI v123))) (4294967295 : Int))), (Dv.PV.int Go.IntKind.u64 (Dv.andI Go.IntKind.u64 (Go.IntKind.wrap Go.IntKind.u64 ((Go.IntKind.wrap Go.IntKind.u64 ((Dv.shrI Go.IntKind.u64 (Go.IntKind.wrap Go.IntKind.u64 ((Go.IntKind.wrap Go.IntKind.u64 ((Dv.shrI Go.IntKind.u64 (Go.IntKind.wrap Go.IntKind.u64 ((Go.IntKind.wrap Go.IntKind.u64 ((Dv.shrI Go.IntKind.u64 (Go.IntKind.wrap Go.IntKind.u64 ((Go.IntKind.wrap Go.IntKind.u64 ((0 : Int) + (Dv.PV.toI v118))) + (Dv.PV.toI v119))) (32 : Int)) + (Dv.PV.toI v120))) + (Dv.PV.toI v121))) (32 : Int)) + (Dv.PV.toI v122))) + (Dv.PV.toI v123))) (32 : Int)) + (Dv.PV.toI v124))) + (Dv.PV.toI v125))) (4294967295 : Int))), (Dv.PV.int Go.IntKind.u64 (Dv.andI Go.IntKind.u64 (Go.IntKind.wrap Go.IntKind.u64 ((Go.IntKind.wrap Go.IntKind.u64 ((Dv.shrI Go.IntKind.u64 (Go.IntKind.wrap Go.IntKind.u64 ((Go.IntKind.wrap Go.IntKind.u64 ((Dv.shrI Go.IntKind.u64 (Go.IntKind.wrap Go.IntKind.u64 ((Go.IntKind.wrap Go.IntKind.u64 ((Dv.shrI Go.IntKind.u64 (Go.IntKind.wrap Go.IntKind.u64 ((Go.IntKind.wrap Go.IntKind.u64 ((Dv.shrI Go.IntKind.u64 (Go.IntKind.wrap Go.IntKind.u64 ((Go.IntKind.wrap Go.IntKind.u64 ((0 : Int) + (Dv.PV.toI v118))) + (Dv.PV.toI v119))) (32 : Int)) + (Dv.PV.toI v120))) + (Dv.PV.toI v121))) (32 : Int)) + (Dv.PV.toI v122))) + (Dv.PV.toI v123))) (32 : Int)) + (Dv.PV.toI v124))) + (Dv.PV.toI v125))) (32 : Int)) + (Dv.PV.toI v126))) + (Dv.PV.toI v127))) (4294967295 : Int))), (Dv.PV.int Go.IntKind.u64 (Dv.andI Go.IntKind.u64 (Go.IntKind.wrap Go.IntKind.u64 ((Go.IntKind.wrap Go.IntKind.u64 ((Dv.shrI Go.IntKind.u64 (Go.IntKind.wrap Go.IntKind.u64 ((Go.IntKind.wrap Go.IntKind.u64 ((Dv.shrI Go.IntKind.u64 (Go.IntKind.wrap Go.IntKind.u64 ((Go.IntKind.wrap Go.IntKind.u64 ((Dv.shrI Go.IntKind.u64 (Go.IntKind.wrap Go.IntKind.u64 ((Go.IntKind.wrap Go.IntKind.u64 ((Dv.shrI Go.IntKind.u64 (Go.IntKind.wrap Go.IntKind.u64 ((Go.IntKind.wrap Go.IntKind.u64 ((Dv.shrI Go.IntKind.u64 (Go.IntKind.wrap Go.IntKind.u64 ((Go.IntKind.wrap Go.IntKind.u64 ((0 : Int) + (Dv.PV.toI v118))) + (Dv.PV.toI v119))) (32 : Int)) + (Dv.PV.toI v120))) + (Dv.PV.toI v121))) (32 : Int)) + (Dv.PV.toI v122))) + (Dv.PV.toI v123))) (32 : Int)) + (Dv.PV.toI v124))) + (Dv.PV.toI v125))) (32 : Int)) + (Dv.PV.toI v126))) + (Dv.PV.toI v127))) (32 : Int)) + (Dv.PV.toI v128))) + (Dv.PV.toI v129))) (4294967295 : Int)))] 6))))))))))))) else (some (Dv.PV.tuple [(Dv.PV.sl 1 x4), (Dv.PV.sl 1 x2)]))) :=
  (runW_eq EE _ _).trans (by kernel_rfl)

theorem computusref01_zero_eq (a0 : List PV) : computusref01_zero a0 =
    ((computusref01_cmp a0 [(Dv.PV.int Go.IntKind.u64 (0 : Int)), (Dv.PV.int Go.IntKind.u64 (0 : Int)), (Dv.PV.int Go.IntKind.u64 (0 : Int)), (Dv.PV.int Go.IntKind.u64 (0 : Int)), (Dv.PV.int Go.IntKind.u64 (0 : Int)), (Dv.PV.int Go.IntKind.u64 (0 : Int))]).bind fun v137 => (some (Dv.PV.bool (Dv.eqB (Dv.PV.toI v137) (0 : Int))))) :=
  (callF_eq EE fn_computusref01_zero _ rfl).trans (by kernel_rfl)

theorem computusref01_add_eq (a0 : List PV) (a1 : List PV) : computusref01_add a0 a1 =
    (computusref01_add_c4 a0 a1 (0 : Int) (0 : Int) [(Dv.PV.int Go.IntKind.u64 (0 : Int)), (Dv.PV.int Go.IntKind.u64 (0 : Int)), (Dv.PV.int Go.IntKind.u64 (0 : Int)), (Dv.PV.int Go.IntKind.u64 (0 : Int)), (Dv.PV.int Go.IntKind.u64 (0 : Int)), (Dv.PV.int Go.IntKind.u64 (0 : Int))] 6) :=
  (callF_eq EE fn_computusref01_add _ rfl).trans (by kernel_rfl)
theorem computusref01_add_c4_eq (x0 : List PV) (x1 : List PV) (x2 : Int) (x3 : Int) (x4 : List PV) (x5 : Nat) : computusref01_add_c4 x0 x1 x2 x3 x4 x5 =
    (bif (Dv.ltB x3 (6 : Int)) then ((Dv.rdI (Dv.tiInt Go.IntKind.u64) x0 x3).bind fun v114 => ((Dv.rdI (Dv.tiInt Go.IntKind.u64) x1 x3).bind fun v115 => (bif (Dv.inB (0 : Int) x3 (((List.length x4) : Nat) : Int)) then ((Dv.stC x4 (Int.toNat x3) 0 [(Dv.PV.int Go.IntKind.u64 (Dv.andI Go.IntKind.u64 (Go.IntKind.wrap Go.IntKind.u64 ((Go.IntKind.wrap Go.IntKind.u64 (x2 + (Dv.PV.toI v114))) + (Dv.PV.toI v115))) (4294967295 : Int)))]).bind fun v116 => (computusref01_add_c4 x0 x1 (Dv.shrI Go.IntKind.u64 (Go.IntKind.wrap Go.IntKind.u64 ((Go.IntKind.wrap Go.IntKind.u64 (x2 + (Dv.PV.toI v114))) + (Dv.PV.toI v115))) (32 : Int)) (Go.IntKind.wrap Go.IntKind.i64 (x3 + (1 : Int))) v116 x5)) else none))) else (some (Dv.PV.sl 1 x4))) :=
  (runW_eq EE _ _).trans (by kernel_rfl)

theorem computusref01_cmp_eq (a0 : List PV) (a1 : List PV) : computusref01_cmp a0 a1 =
    (computusref01_cmp_c2 a0 a1 (5 : Int)) :=
  (callF_eq EE fn_computusref01_cmp _ rfl).trans (by kernel_rfl)
theorem computusref01_cmp_c2_eq (x0 : List PV) (x1 : List PV) (x2 : Int) : computusref01_cmp_c2 x0 x1 x2 =
    (bif (Dv.leB (0 : Int) x2) then ((Dv.rdI (Dv.tiInt Go.IntKind.u64) x0 x2).bind fun v129 => ((Dv.rdI (Dv.tiInt Go.IntKind.u64) x1 x2).bind fun v130 => (bif (Dv.ltB (Dv.PV.toI v129) (Dv.PV.toI v130)) then (some (Dv.PV.int Go.IntKind.i64 (-1 : Int))) else ((Dv.rdI (Dv.tiInt Go.IntKind.u64) x0 x2).bind fun v131 => ((Dv.rdI (Dv.tiInt Go.IntKind.u64) x1 x2).bind fun v132 => (bif (Dv.ltB (Dv.PV.toI v132) (Dv.PV.toI v131)) then (some (Dv.PV.int Go.IntKind.i64 (1 : Int))) else (computusref01_cmp_c2 x0 x1 (Go.IntKind.wrap Go.IntKind.i64 (x2 - (1 : Int)))))))))) else (some (Dv.PV.int Go.IntKind.i64 (0 : Int)))) :=
  (runW_eq EE _ _).trans (by kernel_rfl)

theorem computusref01_less_eq (a0 : List PV) (a1 : List PV) : computusref01_less a0 a1 =
    (computusref01_less_c4 a0 a1 (0 : Int) (0 : Int) [(Dv.PV.int Go.IntKind.u64 (0 : Int)), (Dv.PV.int Go.IntKind.u64 (0 : Int)), (Dv.PV.int Go.IntKind.u64 (0 : Int)), (Dv.PV.int Go.IntKind.u64 (0 : Int)), (Dv.PV.int Go.IntKind.u64 (0 : Int)), (Dv.PV.int Go.IntKind.u64 (0 : Int))] 6) :=
  (callF_eq EE fn_computusref01_less _ rfl).trans (by kernel_rfl)
theorem computusref01_less_c4_eq (x0 : List PV) (x1 : List PV) (x2 : Int) (x3 : Int) (x4 : List PV) (x5 : Nat) : computusref01_less_c4 x0 x1 x2 x3 x4 x5 =
    (bif (Dv.ltB x3 (6 : Int)) then ((Dv.rdI (Dv.tiInt Go.IntKind.u64) x0 x3).bind fun v90 => ((Dv.rdI (Dv.tiInt Go.IntKind.u64) x1 x3).bind fun v91 => (bif (Dv.inB (0 : Int) x3 (((List.length x4) : Nat) : Int)) then ((Dv.stC x4 (Int.toNat x3) 0 [(Dv.PV.int Go.IntKind.u64 (Dv.andI Go.IntKind.u64 (Go.IntKind.wrap Go.IntKind.u64 ((Go.IntKind.wrap Go.IntKind.u64 ((Go.IntKind.wrap Go.IntKind.u64 ((Dv.PV.toI v90) + (4294967296 : Int))) - (Dv.PV.toI v91))) - x2)) (4294967295 : Int)))]).bind fun v92 => (computusref01_less_c4 x0 x1 (Go.IntKind.wrap Go.IntKind.u64 ((1 : Int) - (Dv.shrI Go.IntKind.u64 (Go.IntKind.wrap Go.IntKind.u64 ((Go.IntKind.wrap Go.IntKind.u64 ((Go.IntKind.wrap Go.IntKind.u64 ((Dv.PV.toI v90) + (4294967296 : Int))) - (Dv.PV.toI v91))) - x2)) (32 : Int)))) (Go.IntKind.wrap Go.IntKind.i64 (x3 + (1 : Int))) v92 x5)) else none))) else (some (Dv.PV.sl 1 x4))) :=
  (runW_eq EE _ _).trans (by kernel_rfl)

theorem stringslite_Index_eq (a0 : List UInt8) (a1 : List UInt8) : stringslite_Index a0 a1 =
    (bif (Dv.eqB (((List.length a1) : Nat) : Int) (0 : Int)) then stringslite_Index_c3 else (bif (Dv.eqS a1 a0) then stringslite_Index_c3 else (stringslite_Index_c4 a0 a1 (((List.length a1) : Nat) : Int)))) :=
  (callF_eq EE fn_stringslite_Index _ rfl).trans (by kernel_rfl)
theorem stringslite_Index_c3_eq  : stringslite_Index_c3  =
    (some (Dv.PV.int Go.IntKind.i64 (0 : Int))) :=
  (runW_eq EE _ _).trans (by kernel_rfl)
theorem stringslite_Index_c4_eq (x0 : List UInt8) (x1 : List UInt8) (x2 : Int) : stringslite_Index_c4 x0 x1 x2 =
    (bif (Dv.eqB x2 (1 : Int)) then ((Dv.atS x1 (0 : Int)).bind fun v96 => ((stringslite_IndexByte x0 v96).bind fun v97 => (some (Dv.PV.int Go.IntKind.i64 (Dv.PV.toI v97))))) else (bif (Dv.leB (((List.length x0) : Nat) : Int) x2) then (some (Dv.PV.int Go.IntKind.i64 (-1 : Int))) else none)) :=
  (runW_eq EE _ _).trans (by kernel_rfl)

theorem stringslite_TrimPrefix_eq (a0 : List UInt8) (a1 : List UInt8) : stringslite_TrimPrefix a0 a1 =
    ((stringslite_HasPrefix a0 a1).bind fun v130 => (bif (Dv.PV.toB v130) then ((Dv.dropS a0 (((List.length a1) : Nat) : Int)).bind fun v131 => (some (Dv.PV.str v131))) else (some (Dv.PV.str a0)))) :=
  (callF_eq EE fn_stringslite_TrimPrefix _ rfl).trans (by kernel_rfl)

theorem computusref02_start_eq (a0 : Int) : computusref02_start a0 =
    ((computusref02_div (Go.IntKind.wrap Go.IntKind.i64 (a0 - (2000 : Int))) (400 : Int)).bind fun v138 => (computusref02_start_c3 a0 (Go.IntKind.wrap Go.IntKind.i64 ((Dv.PV.toI v138) * (146097 : Int))) (0 : Int))) :=
  (callF_eq EE fn_computusref02_start _ rfl).trans (by kernel_rfl)
theorem computusref02_start_c3_eq (x0 : Int) (x1 : Int) (x2 : Int) : computusref02_start_c3 x0 x1 x2 =
    ((computusref02_mod (Go.IntKind.wrap Go.IntKind.i64 (x0 - (2000 : Int))) (400 : Int)).bind fun v139 => (bif (Dv.ltB x2 (Dv.PV.toI v139)) then ((computusref02_Leap (Go.IntKind.wrap Go.IntKind.i64 ((2000 : Int) + x2))).bind fun v140 => (bif (Dv.PV.toB v140) then (computusref02_start_c3 x0 (Go.IntKind.wrap Go.IntKind.i64 ((Go.IntKind.wrap Go.IntKind.i64 (x1 + (365 : Int))) + (1 : Int))) (Go.IntKind.wrap Go.IntKind.i64 (x2 + (1 : Int)))) else (computusref02_start_c3 x0 (Go.IntKind.wrap Go.IntKind.i64 (x1 + (365 : Int))) (Go.IntKind.wrap Go.IntKind.i64 (x2 + (1 : Int)))))) else (some (Dv.PV.int Go.IntKind.i64 x1)))) :=
  (runW_eq EE _ _).trans (by kernel_rfl)

theorem bits_LeadingZeros64_eq (a0 : Int) : bits_LeadingZeros64 a0 =
    ((bits_Len64 a0).bind fun v119 => (some (Dv.PV.int Go.IntKind.i64 (Go.IntKind.wrap Go.IntKind.i64 ((64 : Int) - (Dv.PV.toI v119)))))) :=
  (callF_eq EE fn_bits_LeadingZeros64 _ rfl).trans (by kernel_rfl)

theorem stringslite_IndexByte_eq (a0 : List UInt8) (a1 : Int) : stringslite_IndexByte a0 a1 =
    ((callW EE ([(Dv.tiInt Go.IntKind.i64)]) (Dv.PV.func (Go.Fn.func fn_bytealg_IndexByteString) [] []) [(Dv.PV.str a0), (Dv.PV.int Go.IntKind.u8 a1)]).bind fun v135 => (some (Dv.PV.int Go.IntKind.i64 (Dv.PV.toI v135)))) :=
  (callF_eq EE fn_stringslite_IndexByte _ rfl).trans (by kernel_rfl)

theorem civil_Days_eq (a0 : Int) (a1 : Int) (a2 : Int) : civil_Days a0 a1 a2 =
    ((civil_Right a0 a1 a2).bind fun v141 => (bif (!(Dv.PV.toB v141)) then (some (Dv.PV.tuple [(Dv.PV.int Go.IntKind.i64 (0 : Int)), (Dv.PV.int Go.IntKind.i64 (10 : Int))])) else ((civil_day a0 a1 a2).bind fun v142 => (some (Dv.PV.tuple [(Dv.PV.int Go.IntKind.i64 (Dv.PV.toI v142)), (Dv.PV.int Go.IntKind.i64 (0 : Int))]))))) :=
  (callF_eq EE fn_civil_Days _ rfl).trans (by kernel_rfl)

theorem civil_Len_eq (a0 : Int) (a1 : Int) : civil_Len a0 a1 =
    (bif (Dv.ltB a1 (1 : Int)) then civil_Len_c3 else (bif (Dv.ltB (12 : Int) a1) then civil_Len_c3 else (civil_Len_c4 a0 a1 [(Dv.PV.int Go.IntKind.i64 (0 : Int)), (Dv.PV.int Go.IntKind.i64 (31 : Int)), (Dv.PV.int Go.IntKind.i64 (28 : Int)), (Dv.PV.int Go.IntKind.i64 (31 : Int)), (Dv.PV.int Go.IntKind.i64 (30 : Int)), (Dv.PV.int Go.IntKind.i64 (31 : Int)), (Dv.PV.int Go.IntKind.i64 (30 : Int)), (Dv.PV.int Go.IntKind.i64 (31 : Int)), (Dv.PV.int Go.IntKind.i64 (31 : Int)), (Dv.PV.int Go.IntKind.i64 (30 : Int)), (Dv.PV.int Go.IntKind.i64 (31 : Int)), (Dv.PV.int Go.IntKind.i64 (30 : Int)), (Dv.PV.int Go.IntKind.i64 (31 : Int))] 13))) :=
  (callF_eq EE fn_civil_Len _ rfl).trans (by kernel_rfl)
theorem civil_Len_c3_eq  : civil_Len_c3  =
    (some (Dv.PV.int Go.IntKind.i64 (0 : Int))) :=
  (runW_eq EE _ _).trans (by kernel_rfl)
theorem civil_Len_c4_eq (x0 : Int) (x1 : Int) (x2 : List PV) (x3 : Nat) : civil_Len_c4 x0 x1 x2 x3 =
    (bif (Dv.eqB x1 (2 : Int)) then ((civil_Leap x0).bind fun v136 => (bif (Dv.PV.toB v136) then (some (Dv.PV.int Go.IntKind.i64 (29 : Int))) else (bif (Dv.inB (0 : Int) x1 ((13 : Nat) : Int)) then ((Dv.rdT (Dv.tiInt Go.IntKind.i64) x2 (Int.toNat x1) 0).bind fun v137 => (some (Dv.PV.int Go.IntKind.i64 (Dv.PV.toI v137)))) else none))) else (bif (Dv.inB (0 : Int) x1 ((13 : Nat) : Int)) then ((Dv.rdT (Dv.tiInt Go.IntKind.i64) x2 (Int.toNat x1) 0).bind fun v138 => (some (Dv.PV.int Go.IntKind.i64 (Dv.PV.toI v138)))) else none)) :=
  (runW_eq EE _ _).trans (by kernel_rfl)

theorem bits_Len64_eq (a0 : Int) : bits_Len64 a0 =
    (bif (Dv.leB (4294967296 : Int) a0) then (bits_Len64_c4 (Dv.shrI Go.IntKind.u64 a0 (32 : Int)) (32 : Int)) else (bits_Len64_c4 a0 (0 : Int))) :=
  (callF_eq EE fn_bits_Len64 _ rfl).trans (by kernel_rfl)
theorem bits_Len64_c4_eq (x0 : Int) (x1 : Int) : bits_Len64_c4 x0 x1 =
    (bif (Dv.leB (65536 : Int) x0) then (bits_Len64_c7 (Dv.shrI Go.IntKind.u64 x0 (16 : Int)) (Go.IntKind.wrap Go.IntKind.i64 (x1 + (16 : Int)))) else (bits_Len64_c7 x0 x1)) :=
  (runW_eq EE _ _).trans (by kernel_rfl)
theorem bits_Len64_c7_eq (x0 : Int) (x1 : Int) : bits_Len64_c7 x0 x1 =
    (bif (Dv.leB (256 : Int) x0) then ((Dv.atS [(0 : UInt8), (1 : UInt8), (2 : UInt8), (2 : UInt8), (3 : UInt8), (3 : UInt8), (3 : UInt8), (3 : UInt8), (4 : UInt8), (4 : UInt8), (4 : UInt8), (4 : UInt8), (4 : UInt8), (4 : UInt8), (4 : UInt8), (4 : UInt8), (5 : UInt8), (5 : UInt8), (5 : UInt8), (5 : UInt8), (5 : UInt8), (5 : UInt8), (5 : UInt8), (5 : UInt8), (5 : UInt8), (5 : UInt8), (5 : UInt8), (5 : UInt8), (5 : UInt8), (5 : UInt8), (5 : UInt8), (5 : UInt8), (6 : UInt8), (6 : UInt8), (6 : UInt8), (6 : UInt8), (6 : UInt8), (6 : UInt8), (6 : UInt8), (6 : UInt8), (6 : UInt8), (6 : UInt8), (6 : UInt8), (6 : UInt8), (6 : UInt8), (6 : UInt8), (6 : UInt8), (6 : UInt8), (6 : UInt8), (6 : UInt8), (6 : UInt8), (6 : UInt8), (6 : UInt8), (6 : UInt8), (6 : UInt8), (6 : UInt8), (6 : UInt8), (6 : UInt8), (6 : UInt8), (6 : UInt8), (6 : UInt8), (6 : UInt8), (6 : UInt8), (6 : UInt8), (7 : UInt8), (7 : UInt8), (7 : UInt8), (7 : UInt8), (7 : UInt8), (7 : UInt8), (7 : UInt8), (7 : UInt8), (7 : UInt8), (7 : UInt8), (7 : UInt8), (7 : UInt8), (7 : UInt8), (7 : UInt8), (7 : UInt8), (7 : UInt8), (7 : UInt8), (7 : UInt8), (7 : UInt8), (7 : UInt8), (7 : UInt8), (7 : UInt8), (7 : UInt8), (7 : UInt8), (7 : UInt8), (7 : UInt8), (7 : UInt8), (7 : UInt8), (7 : UInt8), (7 : UInt8), (7 : UInt8), (7 : UInt8), (7 : UInt8), (7 : UInt8), (7 : UInt8), (7 : UInt8), (7 : UInt8), (7 : UInt8), (7 : UInt8), (7 : UInt8), (7 : UInt8), (7 : UInt8), (7 : UInt8), (7 : UInt8), (7 : UInt8), (7 : UInt8), (7 : UInt8), (7 : UInt8), (7 : UInt8), (7 : UInt8), (7 : UInt8), (7 : UInt8), (7 : UInt8), (7 : UInt8), (7 : UInt8), (7 : UInt8), (7 : UInt8), (7 : UInt8), (7 : UInt8), (7 : UInt8), (7 : UInt8), (7 : UInt8), (7 : UInt8), (7 : UInt8), (8 : UInt8), (8 : UInt8), (8 : UInt8), (8 : UInt8), (8 : UInt8), (8 : UInt8), (8 : UInt8), (8 : UInt8), (8 : UInt8), (8 : UInt8), (8 : UInt8), (8 : UInt8), (8 : UInt8), (8 : UInt8), (8 : UInt8), (8 : UInt8), (8 : UInt8), (8 : UInt8), (8 : UInt8), (8 : UInt8), (8 : UInt8), (8 : UInt8), (8 : UInt8), (8 : UInt8), (8 : UInt8), (8 : UInt8), (8 : UInt8), (8 : UInt8), (8 : UInt8), (8 : UInt8), (8 : UInt8), (8 : UInt8), (8 : UInt8), (8 : UInt8), (8 : UInt8), (8 : UInt8), (8 : UInt8), (8 : UInt8), (8 : UInt8), (8 : UInt8), (8 : UInt8), (8 : UInt8), (8 : UInt8), (8 : UInt8), (8 : UInt8), (8 : UInt8), (8 : UInt8), (8 : UInt8), (8 : UInt8), (8 : UInt8), (8 : UInt8), (8 : UInt8), (8 : UInt8), (8 : UInt8), (8 : UInt8), (8 : UInt8), (8 : UInt8), (8 : UInt8), (8 : UInt8), (8 : UInt8), (8 : UInt8), (8 : UInt8), (8 : UInt8), (8 : UInt8), (8 : UInt8), (8 : UInt8), (8 : UInt8), (8 : UInt8), (8 : UInt8), (8 : UInt8), (8 : UInt8), (8 : UInt8), (8 : UInt8), (8 : UInt8), (8 : UInt8), (8 : UInt8), (8 : UInt8), (8 : UInt8), (8 : UInt8), (8 : UInt8), (8 : UInt8), (8 : UInt8), (8 : UInt8), (8 : UInt8), (8 : UInt8), (8 : UInt8), (8 : UInt8), (8 : UInt8), (8 : UInt8), (8 : UInt8), (8 : UInt8), (8 : UInt8), (8 : UInt8), (8 : UInt8), (8 : UInt8), (8 : UInt8), (8 : UInt8), (8 : UInt8), (8 : UInt8), (8 : UInt8), (8 : UInt8), (8 : UInt8), (8 : UInt8), (8 : UInt8), (8 : UInt8), (8 : UInt8), (8 : UInt8), (8 : UInt8), (8 : UInt8), (8 : UInt8), (8 : UInt8), (8 : UInt8), (8 : UInt8), (8 : UInt8), (8 : UInt8), (8 : UInt8), (8 : UInt8), (8 : UInt8), (8 : UInt8), (8 : UInt8), (8 : UInt8), (8 : UInt8), (8 : UInt8), (8 : UInt8), (8 : UInt8), (8 : UInt8), (8 : UInt8), (8 : UInt8)] (Go.IntKind.wrap Go.IntKind.u8 (Dv.shrI Go.IntKind.u64 x0 (8 : Int)))).bind fun v105 => (some (Dv.PV.int Go.IntKind.i64 (Go.IntKind.wrap Go.IntKind.i64 ((Go.IntKind.wrap Go.IntKind.i64 (x1 + (8 : Int))) + (Go.IntKind.wrap Go.IntKind.i64 v105)))))) else ((Dv.atS [(0 : UInt8), (1 : UInt8), (2 : UInt8), (2 : UInt8), (3 : UInt8), (3 : UInt8), (3 : UInt8), (3 : UInt8), (4 : UInt8), (4 : UInt8), (4 : UInt8), (4 : UInt8), (4 : UInt8), (4 : UInt8), (4 : UInt8), (4 : UInt8), (5 : UInt8), (5 : UInt8), (5 : UInt8), (5 : UInt8), (5 : UInt8), (5 : UInt8), (5 : UInt8), (5 : UInt8), (5 : UInt8), (5 : UInt8), (5 : UInt8), (5 : UInt8), (5 : UInt8), (5 : UInt8), (5 : UInt8), (5 : UInt8), (6 : UInt8), (6 : UInt8), (6 : UInt8), (6 : UInt8), (6 : UInt8), (6 : UInt8), (6 : UInt8), (6 : UInt8), (6 : UInt8), (6 : UInt8), (6 : UInt8), (6 : UInt8), (6 : UInt8), (6 : UInt8), (6 : UInt8), (6 : UInt8), (6 : UInt8), (6 : UInt8), (6 : UInt8), (6 : UInt8), (6 : UInt8), (6 : UInt8), (6 : UInt8), (6 : UInt8), (6 : UInt8), (6 : UInt8), (6 : UInt8), (6 : UInt8), (6 : UInt8), (6 : UInt8), (6 : UInt8), (6 : UInt8), (7 : UInt8), (7 : UInt8), (7 : UInt8), (7 : UInt8), (7 : UInt8), (7 : UInt8), (7 : UInt8), (7 : UInt8), (7 : UInt8), (7 : UInt8), (7 : UInt8), (7 : UInt8), (7 : UInt8), (7 : UInt8), (7 : UInt8), (7 : UInt8), (7 : UInt8), (7 : UInt8), (7 : UInt8), (7 : UInt8), (7 : UInt8), (7 : UInt8), (7 : UInt8), (7 : UInt8), (7 : UInt8), (7 : UInt8), (7 : UInt8), (7 : UInt8), (7 : UInt8), (7 : UInt8), (7 : UInt8), (7 : UInt8), (7 : UInt8), (7 : UInt8), (7 : UInt8), (7 : UInt8), (7 : UInt8), (7 : UInt8), (7 : UInt8), (7 : UInt8), (7 : UInt8), (7 : UInt8), (7 : UInt8), (7 : UInt8), (7 : UInt8), (7 : UInt8), (7 : UInt8), (7 : UInt8), (7 : UInt8), (7 : UInt8), (7 : UInt8), (7 : UInt8), (7 : UInt8), (7 : UInt8), (7 : UInt8), (7 : UInt8), (7 : UInt8), (7 : UInt8), (7 : UInt8), (7 : UInt8), (7 : UInt8), (7 : UInt8), (7 : UInt8), (7 : UInt8), (8 : UInt8), (8 : UInt8), (8 : UInt8), (8 : UInt8), (8 : UInt8), (8 : UInt8), (8 : UInt8), (8 : UInt8), (8 : UInt8), (8 : UInt8), (8 : UInt8), (8 : UInt8), (8 : UInt8), (8 : UInt8), (8 : UInt8), (8 : UInt8), (8 : UInt8), (8 : UInt8), (8 : UInt8), (8 : UInt8), (8 : UInt8), (8 : UInt8), (8 : UInt8), (8 : UInt8), (8 : UInt8), (8 : UInt8), (8 : UInt8), (8 : UInt8), (8 : UInt8), (8 : UInt8), (8 : UInt8), (8 : UInt8), (8 : UInt8), (8 : UInt8), (8 : UInt8), (8 : UInt8), (8 : UInt8), (8 : UInt8), (8 : UInt8), (8 : UInt8), (8 : UInt8), (8 : UInt8), (8 : UInt8), (8 : UInt8), (8 : UInt8), (8 : UInt8), (8 : UInt8), (8 : UInt8), (8 : UInt8), (8 : UInt8), (8 : UInt8), (8 : UInt8), (8 : UInt8), (8 : UInt8), (8 : UInt8), (8 : UInt8), (8 : UInt8), (8 : UInt8), (8 : UInt8), (8 : UInt8), (8 : UInt8), (8 : UInt8), (8 : UInt8), (8 : UInt8), (8 : UInt8), (8 : UInt8), (8 : UInt8), (8 : UInt8), (8 : UInt8), (8 : UInt8), (8 : UInt8), (8 : UInt8), (8 : UInt8), (8 : UInt8), (8 : UInt8), (8 : UInt8), (8 : UInt8), (8 : UInt8), (8 : UInt8), (8 : UInt8), (8 : UInt8), (8 : UInt8), (8 : UInt8), (8 : UInt8), (8 : UInt8), (8 : UInt8), (8 : UInt8), (8 : UInt8), (8 : UInt8), (8 : UInt8), (8 : UInt8), (8 : UInt8), (8 : UInt8), (8 : UInt8), (8 : UInt8), (8 : UInt8), (8 : UInt8), (8 : UInt8), (8 : UInt8), (8 : UInt8), (8 : UInt8), (8 : UInt8), (8 : UInt8), (8 : UInt8), (8 : UInt8), (8 : UInt8), (8 : UInt8), (8 : UInt8), (8 : UInt8), (8 : UInt8), (8 : UInt8), (8 : UInt8), (8 : UInt8), (8 : UInt8), (8 : UInt8), (8 : UInt8), (8 : UInt8), (8 : UInt8), (8 : UInt8), (8 : UInt8), (8 : UInt8), (8 : UInt8), (8 : UInt8), (8 : UInt8), (8 : UInt8), (8 : UInt8), (8 : UInt8), (8 : UInt8)] (Go.IntKind.wrap Go.IntKind.u8 x0)).bind fun v106 => (some (Dv.PV.int Go.IntKind.i64 (Go.IntKind.wrap Go.IntKind.i64 (x1 + (Go.IntKind.wrap Go.IntKind.i64 v106))))))) :=
  (runW_eq EE _ _).trans (by kernel_rfl)

theorem computusref02_Days_eq (a0 : Int) (a1 : Int) (a2 : Int) : computusref02_Days a0 a1 a2 =
    ((computusref02_Right a0 a1 a2).bind fun v148 => (bif (!(Dv.PV.toB v148)) then (some (Dv.PV.tuple [(Dv.PV.int Go.IntKind.i64 (0 : Int)), (Dv.PV.int Go.IntKind.i64 (10 : Int))])) else ((computusref02_day a0 a1 a2).bind fun v149 => (some (Dv.PV.tuple [(Dv.PV.int Go.IntKind.i64 (Dv.PV.toI v149)), (Dv.PV.int Go.IntKind.i64 (0 : Int))]))))) :=
  (callF_eq EE fn_computusref02_Days _ rfl).trans (by kernel_rfl)

theorem computusref02_Weekday_eq (a0 : Int) : computusref02_Weekday a0 =
    ((computusref02_mod a0 (7 : Int)).bind fun v143 => ((computusref02_mod (Go.IntKind.wrap Go.IntKind.i64 ((Dv.PV.toI v143) + (6 : Int))) (7 : Int)).bind fun v144 => (some (Dv.PV.int Go.IntKind.i64 (Dv.PV.toI v144))))) :=
  (callF_eq EE fn_computusref02_Weekday _ rfl).trans (by kernel_rfl)

theorem civil_Right_eq (a0 : Int) (a1 : Int) (a2 : Int) : civil_Right a0 a1 a2 =
    (bif (Dv.leB (-4718 : Int) a0) then (bif (Dv.leB a0 (294282 : Int)) then (bif (Dv.leB (1 : Int) a2) then ((civil_Len a0 a1).bind fun v139 => (some (Dv.PV.bool (Dv.leB a2 (Dv.PV.toI v139))))) else (some (Dv.PV.bool Bool.false))) else (some (Dv.PV.bool Bool.false))) else (some (Dv.PV.bool Bool.false))) :=
  (callF_eq EE fn_civil_Right _ rfl).trans (by kernel_rfl)

theorem civil_Weekday_eq (a0 : Int) : civil_Weekday a0 =
    ((civil_floor a0 (7 : Int)).bind fun v107 => (some (Dv.PV.int Go.IntKind.i64 (Int.tmod (Go.IntKind.wrap Go.IntKind.i64 ((Dv.PV.toI (Dv.PV.tnth v107 1)) + (6 : Int))) (7 : Int))))) :=
  (callF_eq EE fn_civil_Weekday _ rfl).trans (by kernel_rfl)

theorem civil_Leap_eq (a0 : Int) : civil_Leap a0 =
    (bif (Dv.eqB (Int.tmod a0 (4 : Int)) (0 : Int)) then (bif (!(Dv.eqB (Int.tmod a0 (100 : Int)) (0 : Int))) then (some (Dv.PV.bool Bool.true)) else (some (Dv.PV.bool (Dv.eqB (Int.tmod a0 (400 : Int)) (0 : Int))))) else (some (Dv.PV.bool Bool.false))) :=
  (callF_eq EE fn_civil_Leap _ rfl).trans (by kernel_rfl)

theorem computusref02_Right_eq (a0 : Int) (a1 : Int) (a2 : Int) : computusref02_Right a0 a1 a2 =
    (bif (Dv.leB (-4718 : Int) a0) then (bif (Dv.leB a0 (294282 : Int)) then (bif (Dv.leB (1 : Int) a1) then (bif (Dv.leB a1 (12 : Int)) then (bif (Dv.leB (1 : Int) a2) then ((computusref02_Len a0 a1).bind fun v150 => (some (Dv.PV.bool (Dv.leB a2 (Dv.PV.toI v150))))) else (some (Dv.PV.bool Bool.false))) else (some (Dv.PV.bool Bool.false))) else (some (Dv.PV.bool Bool.false))) else (some (Dv.PV.bool Bool.false))) else (some (Dv.PV.bool Bool.false))) :=
  (callF_eq EE fn_computusref02_Right _ rfl).trans (by kernel_rfl)

end Dv
