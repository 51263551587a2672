/- The seat's functions, as equations. -/
import Derived.Test.YtbeckkfacjkakaaL1
import Derived.Test.YtbeckkfacjkakaaProg
set_option linter.unusedVariables false
set_option linter.unusedSimpArgs false
namespace Dv
open Go Go.Proofs
def tt : List TI := [
  ⟨.tuple [], 1, 0, .undef, [.other]⟩,
  ⟨.func, 1, 8, .nilfn, [.other]⟩,
  ⟨.int .i64, 1, 8, (.int .i64 0), [.int .i64]⟩,
  ⟨.int .i64, 1, 8, (.int .i64 0), [.int .i64]⟩,
  ⟨.bool, 1, 1, (.bool false), [.bool]⟩,
  ⟨.int .u8, 1, 1, (.int .u8 0), [.int .u8]⟩,
  ⟨.int .u8, 1, 1, (.int .u8 0), [.int .u8]⟩,
  ⟨.struct [(0, 2), (1, 3), (2, 4), (3, 6)], 4, 24, (.agg [(.int .i64 0), (.int .i64 0), (.bool false), (.int .u8 0)]), [.int .i64, .int .i64, .bool, .int .u8]⟩,
  ⟨.struct [(0, 2), (1, 3), (2, 4), (3, 6)], 4, 24, (.agg [(.int .i64 0), (.int .i64 0), (.bool false), (.int .u8 0)]), [.int .i64, .int .i64, .bool, .int .u8]⟩,
  ⟨.str, 1, 16, (.str []), [.str]⟩,
  ⟨.str, 1, 16, (.str []), [.str]⟩,
  ⟨.str, 1, 16, (.str []), [.str]⟩,
  ⟨.int .u64, 1, 8, (.int .u64 0), [.int .u64]⟩,
  ⟨.struct [(0, 9), (1, 12)], 2, 24, (.agg [(.str []), (.int .u64 0)]), [.str, .int .u64]⟩,
  ⟨.struct [(0, 9), (1, 12)], 2, 24, (.agg [(.str []), (.int .u64 0)]), [.str, .int .u64]⟩,
  ⟨.ptr 108, 1, 8, .nilp, [.other]⟩,
  ⟨.ptr 111, 1, 8, .nilp, [.other]⟩,
  ⟨.ptr 118, 1, 8, .nilp, [.other]⟩,
  ⟨.struct [(0, 17)], 1, 8, (.agg [.nilp]), [.other]⟩,
  ⟨.struct [(0, 17)], 1, 8, (.agg [.nilp]), [.other]⟩,
  ⟨.iface false, 1, 16, .nili, [.other]⟩,
  ⟨.int .i32, 1, 4, (.int .i32 0), [.int .i32]⟩,
  ⟨.struct [(0, 3), (1, 2), (2, 2), (3, 2)], 4, 32, (.agg [(.int .i64 0), (.int .i64 0), (.int .i64 0), (.int .i64 0)]), [.int .i64, .int .i64, .int .i64, .int .i64]⟩,
  ⟨.struct [(0, 3), (1, 2), (2, 2), (3, 2)], 4, 32, (.agg [(.int .i64 0), (.int .i64 0), (.int .i64 0), (.int .i64 0)]), [.int .i64, .int .i64, .int .i64, .int .i64]⟩,
  ⟨.struct [(0, 3), (1, 3), (2, 3)], 3, 24, (.agg [(.int .i64 0), (.int .i64 0), (.int .i64 0)]), [.int .i64, .int .i64, .int .i64]⟩,
  ⟨.struct [(0, 3), (1, 3), (2, 3)], 3, 24, (.agg [(.int .i64 0), (.int .i64 0), (.int .i64 0)]), [.int .i64, .int .i64, .int .i64]⟩,
  ⟨.int .i64, 1, 8, (.int .i64 0), [.int .i64]⟩,
  ⟨.tuple [9, 26], 1, 0, .undef, [.other]⟩,
  ⟨.func, 1, 8, .nilfn, [.other]⟩,
  ⟨.func, 1, 8, .nilfn, [.other]⟩,
  ⟨.func, 1, 8, .nilfn, [.other]⟩,
  ⟨.func, 1, 8, .nilfn, [.other]⟩,
  ⟨.func, 1, 8, .nilfn, [.other]⟩,
  ⟨.func, 1, 8, .nilfn, [.other]⟩,
  ⟨.func, 1, 8, .nilfn, [.other]⟩,
  ⟨.func, 1, 8, .nilfn, [.other]⟩,
  ⟨.struct [(0, 3), (1, 2)], 2, 16, (.agg [(.int .i64 0), (.int .i64 0)]), [.int .i64, .int .i64]⟩,
  ⟨.struct [(0, 3), (1, 2)], 2, 16, (.agg [(.int .i64 0), (.int .i64 0)]), [.int .i64, .int .i64]⟩,
  ⟨.tuple [2, 26], 1, 0, .undef, [.other]⟩,
  ⟨.func, 1, 8, .nilfn, [.other]⟩,
  ⟨.func, 1, 8, .nilfn, [.other]⟩,
  ⟨.tuple [9, 2], 1, 0, .undef, [.other]⟩,
  ⟨.func, 1, 8, .nilfn, [.other]⟩,
  ⟨.tuple [9, 9, 4], 1, 0, .undef, [.other]⟩,
  ⟨.func, 1, 8, .nilfn, [.other]⟩,
  ⟨.func, 1, 8, .nilfn, [.other]⟩,
  ⟨.func, 1, 8, .nilfn, [.other]⟩,
  ⟨.func, 1, 8, .nilfn, [.other]⟩,
  ⟨.func, 1, 8, .nilfn, [.other]⟩,
  ⟨.func, 1, 8, .nilfn, [.other]⟩,
  ⟨.ptr 2, 1, 8, .nilp, [.other]⟩,
  ⟨.func, 1, 8, .nilfn, [.other]⟩,
  ⟨.tuple [2, 9], 1, 0, .undef, [.other]⟩,
  ⟨.func, 1, 8, .nilfn, [.other]⟩,
  ⟨.slice 2, 1, 24, .sl0, [.slice 1]⟩,
  ⟨.slice 9, 1, 24, .sl0, [.slice 1]⟩,
  ⟨.func, 1, 8, .nilfn, [.other]⟩,
  ⟨.func, 1, 8, .nilfn, [.other]⟩,
  ⟨.tuple [9, 9], 1, 0, .undef, [.other]⟩,
  ⟨.func, 1, 8, .nilfn, [.other]⟩,
  ⟨.func, 1, 8, .nilfn, [.other]⟩,
  ⟨.func, 1, 8, .nilfn, [.other]⟩,
  ⟨.int .u64, 1, 8, (.int .u64 0), [.int .u64]⟩,
  ⟨.func, 1, 8, .nilfn, [.other]⟩,
  ⟨.slice 5, 1, 24, .sl0, [.slice 1]⟩,
  ⟨.func, 1, 8, .nilfn, [.other]⟩,
  ⟨.tuple [2, 2, 2, 26], 1, 0, .undef, [.other]⟩,
  ⟨.func, 1, 8, .nilfn, [.other]⟩,
  ⟨.func, 1, 8, .nilfn, [.other]⟩,
  ⟨.func, 1, 8, .nilfn, [.other]⟩,
  ⟨.tuple [2, 2, 2, 2], 1, 0, .undef, [.other]⟩,
  ⟨.func, 1, 8, .nilfn, [.other]⟩,
  ⟨.ptr 74, 1, 8, .nilp, [.other]⟩,
  ⟨.struct [(0, 72), (1, 64)], 2, 32, (.agg [.nilp, .sl0]), [.other, .slice 1]⟩,
  ⟨.struct [(0, 72), (1, 64)], 2, 32, (.agg [.nilp, .sl0]), [.other, .slice 1]⟩,
  ⟨.func, 1, 8, .nilfn, [.other]⟩,
  ⟨.iface true, 1, 16, .nili, [.other]⟩,
  ⟨.iface true, 1, 16, .nili, [.other]⟩,
  ⟨.tuple [3, 77], 1, 0, .undef, [.other]⟩,
  ⟨.func, 1, 8, .nilfn, [.other]⟩,
  ⟨.func, 1, 8, .nilfn, [.other]⟩,
  ⟨.func, 1, 8, .nilfn, [.other]⟩,
  ⟨.func, 1, 8, .nilfn, [.other]⟩,
  ⟨.int .u64, 1, 8, (.int .u64 0), [.int .u64]⟩,
  ⟨.tuple [83, 83], 1, 0, .undef, [.other]⟩,
  ⟨.func, 1, 8, .nilfn, [.other]⟩,
  ⟨.func, 1, 8, .nilfn, [.other]⟩,
  ⟨.func, 1, 8, .nilfn, [.other]⟩,
  ⟨.func, 1, 8, .nilfn, [.other]⟩,
  ⟨.func, 1, 8, .nilfn, [.other]⟩,
  ⟨.ptr 5, 1, 8, .nilp, [.other]⟩,
  ⟨.arr 20 5, 20, 20, (.agg [(.int .u8 0), (.int .u8 0), (.int .u8 0), (.int .u8 0), (.int .u8 0), (.int .u8 0), (.int .u8 0), (.int .u8 0), (.int .u8 0), (.int .u8 0), (.int .u8 0), (.int .u8 0), (.int .u8 0), (.int .u8 0), (.int .u8 0), (.int .u8 0), (.int .u8 0), (.int .u8 0), (.int .u8 0), (.int .u8 0)]), [.int .u8, .int .u8, .int .u8, .int .u8, .int .u8, .int .u8, .int .u8, .int .u8, .int .u8, .int .u8, .int .u8, .int .u8, .int .u8, .int .u8, .int .u8, .int .u8, .int .u8, .int .u8, .int .u8, .int .u8]⟩,
  ⟨.tuple [2, 2, 2], 1, 0, .undef, [.other]⟩,
  ⟨.func, 1, 8, .nilfn, [.other]⟩,
  ⟨.int .u32, 1, 4, (.int .u32 0), [.int .u32]⟩,
  ⟨.tuple [94, 94], 1, 0, .undef, [.other]⟩,
  ⟨.func, 1, 8, .nilfn, [.other]⟩,
  ⟨.tuple [62, 62], 1, 0, .undef, [.other]⟩,
  ⟨.func, 1, 8, .nilfn, [.other]⟩,
  ⟨.func, 1, 8, .nilfn, [.other]⟩,
  ⟨.uptr, 1, 8, .nilp, [.other]⟩,
  ⟨.func, 1, 8, .nilfn, [.other]⟩,
  ⟨.func, 1, 8, .nilfn, [.other]⟩,
  ⟨.func, 1, 8, .nilfn, [.other]⟩,
  ⟨.tuple [2, 2], 1, 0, .undef, [.other]⟩,
  ⟨.func, 1, 8, .nilfn, [.other]⟩,
  ⟨.func, 1, 8, .nilfn, [.other]⟩,
  ⟨.struct [(0, 17), (1, 17), (2, 17), (3, 9)], 4, 40, (.agg [.nilp, .nilp, .nilp, (.str [])]), [.other, .other, .other, .str]⟩,
  ⟨.struct [(0, 17), (1, 17), (2, 17), (3, 9)], 4, 40, (.agg [.nilp, .nilp, .nilp, (.str [])]), [.other, .other, .other, .str]⟩,
  ⟨.arr 0 16, 0, 0, (.agg []), []⟩,
  ⟨.struct [(0, 109)], 0, 0, (.agg []), []⟩,
  ⟨.struct [(0, 109)], 0, 0, (.agg []), []⟩,
  ⟨.int .u8, 1, 1, (.int .u8 0), [.int .u8]⟩,
  ⟨.int .u8, 1, 1, (.int .u8 0), [.int .u8]⟩,
  ⟨.func, 1, 8, .nilfn, [.other]⟩,
  ⟨.int .i32, 1, 4, (.int .i32 0), [.int .i32]⟩,
  ⟨.int .i32, 1, 4, (.int .i32 0), [.int .i32]⟩,
  ⟨.struct [(0, 12), (1, 12), (2, 94), (3, 112), (4, 5), (5, 5), (6, 113), (7, 114), (8, 90), (9, 115), (10, 116)], 11, 48, (.agg [(.int .u64 0), (.int .u64 0), (.int .u32 0), (.int .u8 0), (.int .u8 0), (.int .u8 0), (.int .u8 0), .nilfn, .nilp, (.int .i32 0), (.int .i32 0)]), [.int .u64, .int .u64, .int .u32, .int .u8, .int .u8, .int .u8, .int .u8, .other, .other, .int .i32, .int .i32]⟩,
  ⟨.struct [(0, 12), (1, 12), (2, 94), (3, 112), (4, 5), (5, 5), (6, 113), (7, 114), (8, 90), (9, 115), (10, 116)], 11, 48, (.agg [(.int .u64 0), (.int .u64 0), (.int .u32 0), (.int .u8 0), (.int .u8 0), (.int .u8 0), (.int .u8 0), .nilfn, .nilp, (.int .i32 0), (.int .i32 0)]), [.int .u64, .int .u64, .int .u32, .int .u8, .int .u8, .int .u8, .int .u8, .other, .other, .int .i32, .int .i32]⟩]
abbrev ty_LJ : Nat := 0
abbrev ty_funcLJ : Nat := 1
abbrev ty_int64 : Nat := 2
abbrev ty_int : Nat := 3
abbrev ty_bool : Nat := 4
abbrev ty_uint8 : Nat := 5
abbrev ty_abi_BoundsErrorCode : Nat := 6
abbrev ty_struct_x_int64_y_int_signed__763d8d : Nat := 7
abbrev ty_runtime_boundsError : Nat := 8
abbrev ty_string : Nat := 9
abbrev ty_runtime_errorString : Nat := 10
abbrev ty_runtime_plainError : Nat := 11
abbrev ty_uintptr : Nat := 12
abbrev ty_struct_msg_string_addr_uintptr_ : Nat := 13
abbrev ty_runtime_errorAddressString : Nat := 14
abbrev ty_P_runtime_TypeAssertionError : Nat := 15
abbrev ty_P_runtime_PanicNilError : Nat := 16
abbrev ty_P_abi_Type : Nat := 17
abbrev ty_struct_typ_P_abi_Type_ : Nat := 18
abbrev ty_maps_unhashableTypeError : Nat := 19
abbrev ty_interface_ : Nat := 20
abbrev ty_int32 : Nat := 21
abbrev ty_struct_Inf_int_M_int64_D_int_966ff1 : Nat := 22
abbrev ty_api_Span : Nat := 23
abbrev ty_struct_Out_int_Order_int_Span_int_ : Nat := 24
abbrev ty_api_Style : Nat := 25
abbrev ty_api_Errno : Nat := 26
abbrev ty_Lstring_api_ErrnoJ : Nat := 27
abbrev ty_funcLapi_Span_api_StyleJ_Lst_7eac46 : Nat := 28
abbrev ty_funcLJ_bool : Nat := 29
abbrev ty_funcLapi_Span_api_StyleJ_bool : Nat := 30
abbrev ty_funcLapi_SpanJ_bool : Nat := 31
abbrev ty_funcLapi_StyleJ_bool : Nat := 32
abbrev ty_funcLintJ_string : Nat := 33
abbrev ty_funcLapi_SpanJ_string : Nat := 34
abbrev ty_funcLapi_Date_api_StyleJ_Lst_c22de4 : Nat := 35
abbrev ty_struct_Inf_int_D_int64_ : Nat := 36
abbrev ty_api_Date : Nat := 37
abbrev ty_Lint64_api_ErrnoJ : Nat := 38
abbrev ty_funcLint64J_Lint64_api_ErrnoJ : Nat := 39
abbrev ty_funcLint64J_bool : Nat := 40
abbrev ty_Lstring_int64J : Nat := 41
abbrev ty_funcLint64J_Lstring_int64J : Nat := 42
abbrev ty_Lstring_string_boolJ : Nat := 43
abbrev ty_funcLstring_stringJ_Lstring__6d81f9 : Nat := 44
abbrev ty_funcLint64J_string : Nat := 45
abbrev ty_funcLstring_stringJ_string : Nat := 46
abbrev ty_funcL_stringJ_string : Nat := 47
abbrev ty_funcLint64_stringJ_string : Nat := 48
abbrev ty_funcLint64_string_P_int64J_string : Nat := 49
abbrev ty_P_int64 : Nat := 50
abbrev ty_funcLint64_int64J_bool : Nat := 51
abbrev ty_Lint64_stringJ : Nat := 52
abbrev ty_funcLint64J_Lint64_stringJ : Nat := 53
abbrev ty_S_int64 : Nat := 54
abbrev ty_S_string : Nat := 55
abbrev ty_funcLint64_string_int64J_string : Nat := 56
abbrev ty_funcLapi_DateJ_bool : Nat := 57
abbrev ty_Lstring_stringJ : Nat := 58
abbrev ty_funcLapi_Date_api_StyleJ_Lst_6a2cfb : Nat := 59
abbrev ty_funcLint64_int64J_Lint64_api_ErrnoJ : Nat := 60
abbrev ty_funcLuint64J_string : Nat := 61
abbrev ty_uint64 : Nat := 62
abbrev ty_funcLS_string_stringJ_string : Nat := 63
abbrev ty_S_uint8 : Nat := 64
abbrev ty_funcLstring_stringJ_string_2 : Nat := 65
abbrev ty_Lint64_int64_int64_api_ErrnoJ : Nat := 66
abbrev ty_funcLapi_DateJ_Lint64_int64__946df7 : Nat := 67
abbrev ty_funcLstring_intJ_string : Nat := 68
abbrev ty_funcLstring_stringJ_int : Nat := 69
abbrev ty_Lint64_int64_int64_int64J : Nat := 70
abbrev ty_funcLuint64J_Lint64_int64_in_8212c4 : Nat := 71
abbrev ty_P_strings_Builder : Nat := 72
abbrev ty_struct_addr_P_strings_Builde_383a00 : Nat := 73
abbrev ty_strings_Builder : Nat := 74
abbrev ty_funcLintJ : Nat := 75
abbrev ty_interface_ErrorLJ_string_ : Nat := 76
abbrev ty_error : Nat := 77
abbrev ty_Lint_errorJ : Nat := 78
abbrev ty_funcLstringJ_Lint_errorJ : Nat := 79
abbrev ty_funcLJ_string : Nat := 80
abbrev ty_funcLuint64_intJ_string : Nat := 81
abbrev ty_funcLint64J_Lint64_int64_int_6f979a : Nat := 82
abbrev ty_uint : Nat := 83
abbrev ty_Luint_uintJ : Nat := 84
abbrev ty_funcLuint_uintJ_Luint_uintJ : Nat := 85
abbrev ty_funcLstring_stringJ_bool : Nat := 86
abbrev ty_funcLJ_int : Nat := 87
abbrev ty_funcLstring_uint8J_int : Nat := 88
abbrev ty_funcLintJ_int : Nat := 89
abbrev ty_P_uint8 : Nat := 90
abbrev ty_A20_uint8 : Nat := 91
abbrev ty_Lint64_int64_int64J : Nat := 92
abbrev ty_funcLint64J_Lint64_int64_int64J : Nat := 93
abbrev ty_uint32 : Nat := 94
abbrev ty_Luint32_uint32J : Nat := 95
abbrev ty_funcLuint32_uint32J_Luint32_uint32J : Nat := 96
abbrev ty_Luint64_uint64J : Nat := 97
abbrev ty_funcLuint64_uint64J_Luint64_uint64J : Nat := 98
abbrev ty_funcLstringJ_Luint32_uint32J : Nat := 99
abbrev ty_unsafe_Pointer : Nat := 100
abbrev ty_funcLunsafe_PointerJ_unsafe_Pointer : Nat := 101
abbrev ty_funcLintJ_S_uint8 : Nat := 102
abbrev ty_funcLJ_int64 : Nat := 103
abbrev ty_Lint64_int64J : Nat := 104
abbrev ty_funcLint64_int64J_Lint64_int64J : Nat := 105
abbrev ty_funcLint64_int64_int64J_int64 : Nat := 106
abbrev ty_struct__interface_P_abi_Type_35d589 : Nat := 107
abbrev ty_runtime_TypeAssertionError : Nat := 108
abbrev ty_A0_P_runtime_PanicNilError : Nat := 109
abbrev ty_struct___A0_P_runtime_PanicNilError_ : Nat := 110
abbrev ty_runtime_PanicNilError : Nat := 111
abbrev ty_abi_TFlag : Nat := 112
abbrev ty_abi_Kind : Nat := 113
abbrev ty_funcLunsafe_Pointer_unsafe_P_727316 : Nat := 114
abbrev ty_abi_NameOff : Nat := 115
abbrev ty_abi_TypeOff : Nat := 116
abbrev ty_struct_Size__uintptr_PtrByte_72b795 : Nat := 117
abbrev ty_abi_Type : Nat := 118
abbrev fn_main_main : Nat := 0
abbrev fn_computuslaw19_ShowSpans : Nat := 3
abbrev fn_show_Span : Nat := 4
abbrev fn_computusref19_Span : Nat := 5
abbrev fn_computuslaw19_known : Nat := 6
abbrev fn_span_Right : Nat := 7
abbrev fn_show_Right : Nat := 8
abbrev fn_show_infinite : Nat := 9
abbrev fn_show_sql : Nat := 10
abbrev fn_show_iso : Nat := 11
abbrev fn_show_postgres : Nat := 12
abbrev fn_computusref16_Right : Nat := 13
abbrev fn_computusref19_Right : Nat := 14
abbrev fn_computusref19_inf : Nat := 15
abbrev fn_computusref19_sql : Nat := 16
abbrev fn_computusref19_iso : Nat := 17
abbrev fn_computusref19_postgres : Nat := 18
abbrev fn_show_Date : Nat := 19
abbrev fn_num_Neg : Nat := 20
abbrev fn_span_within : Nat := 21
abbrev fn_show_signed : Nat := 22
abbrev fn_strings_Cut : Nat := 23
abbrev fn_clock_Long : Nat := 24
abbrev fn_show_between : Nat := 25
abbrev fn_show_join : Nat := 26
abbrev fn_show_digits : Nat := 27
abbrev fn_show_letter : Nat := 28
abbrev fn_show_seconds : Nat := 29
abbrev fn_show_unit : Nat := 30
abbrev fn_computusref16_within : Nat := 31
abbrev fn_computusref19_size : Nat := 32
abbrev fn_computusref03_Digits : Nat := 33
abbrev fn_computusref03_Two : Nat := 34
abbrev fn_computusref03_Fraction : Nat := 35
abbrev fn_computusref19_part : Nat := 36
abbrev fn_computusref19_unit : Nat := 37
abbrev fn_computusref03_Long : Nat := 38
abbrev fn_day_Right : Nat := 39
abbrev fn_show_date : Nat := 40
abbrev fn_num_Sub : Nat := 41
abbrev fn_stringslite_Cut : Nat := 42
abbrev fn_clock_text : Nat := 43
abbrev fn_strings_Join : Nat := 44
abbrev fn_clock_Two : Nat := 45
abbrev fn_show_number : Nat := 46
abbrev fn_strings_TrimPrefix : Nat := 47
abbrev fn_clock_Fraction : Nat := 48
abbrev fn_day_inside : Nat := 49
abbrev fn_day_Parts : Nat := 50
abbrev fn_strings_Repeat : Nat := 51
abbrev fn_stringslite_Index : Nat := 52
abbrev fn_clock_parts : Nat := 53
abbrev fn_strings_Builder_Grow : Nat := 54
abbrev fn_strings_Builder_WriteString : Nat := 55
abbrev fn_strings_Builder_String : Nat := 56
abbrev fn_clock_digits : Nat := 57
abbrev fn_stringslite_TrimPrefix : Nat := 58
abbrev fn_civil_Date : Nat := 59
abbrev fn_bits_Mul : Nat := 60
abbrev fn_strings_HasPrefix : Nat := 61
abbrev fn_strings_Builder_Len : Nat := 62
abbrev fn_stringslite_IndexByte : Nat := 63
abbrev fn_bytealg_IndexString : Nat := 64
abbrev fn_bytealg_Cutover : Nat := 65
abbrev fn_bytealg_IndexRabinKarp_string : Nat := 66
abbrev fn_strings_Builder_copyCheck : Nat := 67
abbrev fn_strings_Builder_grow : Nat := 68
abbrev fn_stringslite_HasPrefix : Nat := 69
abbrev fn_civil_can : Nat := 70
abbrev fn_civil_parts : Nat := 71
abbrev fn_bits_Mul32 : Nat := 72
abbrev fn_bits_Mul64 : Nat := 73
abbrev fn_bytealg_IndexByteString : Nat := 74
abbrev fn_bytealg_hashStr_string : Nat := 75
abbrev fn_abi_NoEscape : Nat := 76
abbrev fn_bytealg_MakeNoZero : Nat := 77
abbrev fn_civil_First : Nat := 78
abbrev fn_civil_Last : Nat := 79
abbrev fn_civil_floor : Nat := 80
abbrev fn_civil_day : Nat := 81
abbrev fn_runtime_boundsError_Error : Nat := 82
abbrev fn_runtime_boundsError_RuntimeError : Nat := 83
abbrev fn_runtime_errorString_Error : Nat := 84
abbrev fn_runtime_errorString_RuntimeError : Nat := 85
abbrev fn_runtime_plainError_Error : Nat := 86
abbrev fn_runtime_plainError_RuntimeError : Nat := 87
abbrev fn_runtime_errorAddressString_Error : Nat := 88
abbrev fn_runtime_errorAddressString_RuntimeError : Nat := 89
abbrev fn_runtime_TypeAssertionError_Error : Nat := 90
abbrev fn_runtime_TypeAssertionError_RuntimeError : Nat := 91
abbrev fn_runtime_PanicNilError_Error : Nat := 92
abbrev fn_runtime_PanicNilError_RuntimeError : Nat := 93
abbrev fn_abi_Type_Align : Nat := 94
abbrev fn_maps_unhashableTypeError_Error : Nat := 95
abbrev fn_maps_unhashableTypeError_RuntimeError : Nat := 96
abbrev fn_strings_Builder_Reset : Nat := 97
abbrev fn_abi_Kind_String : Nat := 98
def ann : List (Nat × List ((List Nat × Nat) × Dir)) := [
  (4, [(([4], 3), ⟨[2, 3], [], []⟩)]),
  (5, [(([5], 2), ⟨[], [], []⟩), (([5], 3), ⟨[2, 3], [], []⟩)]),
  (12, [(([12], 3), ⟨[1, 3, 4], [], []⟩), (([12], 4), ⟨[1, 3, 4, 5], [], []⟩), (([12], 5), ⟨[1, 3, 4, 5, 6], [], []⟩), (([12], 7), ⟨[1, 4, 5, 6], [], []⟩), (([12], 8), ⟨[1, 3, 4, 5, 6, 7], [], []⟩)]),
  (17, [(([17], 8), ⟨[3, 4], [], []⟩)]),
  (18, [(([18], 6), ⟨[1, 3, 4, 5, 6, 7], [], []⟩), (([18], 11), ⟨[1, 3, 4, 5, 6, 7], [], []⟩), (([18], 7), ⟨[1, 3, 4, 5, 6, 7], [], []⟩), (([18], 14), ⟨[5], [], []⟩), (([18], 15), ⟨[1, 5, 6], [], []⟩), (([18], 17), ⟨[1, 5, 6], [], []⟩)]),
  (19, [(([19], 2), ⟨[], [], []⟩), (([19], 3), ⟨[2, 3], [], []⟩)]),
  (25, [(([25], 3), ⟨[0, 5, 8, 9, 10], [], [(5, 9, 1)]⟩)]),
  (26, [(([26], 3), ⟨[3, 6, 7, 8], [], [(3, 5, 1)]⟩)]),
  (30, [(([30], 5), ⟨[0, 1, 2, 8], [], []⟩), (([30], 6), ⟨[0, 1, 2, 7, 8], [], []⟩)]),
  (33, [(([33], 4), ⟨[0, 3], [], []⟩), (([33], 5), ⟨[0, 3, 4], [], [(4, 5, 1)]⟩), (([33], 11), ⟨[4], [], []⟩), (([33], 13), ⟨[4, 5, 6], [], [(5, 5, 1)]⟩)]),
  (34, [(([34], 2), ⟨[0], [], []⟩), (([34], 3), ⟨[0], [], []⟩)]),
  (35, [(([35], 2), ⟨[], [], []⟩), (([35], 3), ⟨[0], [], []⟩), (([35], 4), ⟨[3], [], []⟩)]),
  (37, [(([37], 4), ⟨[0, 2, 7], [], []⟩)]),
  (38, [(([38], 6), ⟨[3, 4], [], []⟩)]),
  (40, [(([40], 5), ⟨[3, 6, 7, 8, 10], [], []⟩)]),
  (44, [(([44], 10), ⟨[0, 1, 5], [], []⟩), (([44], 11), ⟨[0, 1, 5], [], []⟩), (([44], 12), ⟨[0, 1, 5, 39, 40, 41], [], []⟩), (([44], 16), ⟨[0, 1, 5, 7, 39, 40, 41], [], []⟩), (([44], 20), ⟨[0, 1, 8], [], []⟩), (([44], 21), ⟨[0, 1, 8], [], []⟩), (([44], 22), ⟨[1, 8, 63, 64, 65], [], []⟩)]),
  (48, [(([48], 2), ⟨[], [], []⟩), (([48], 3), ⟨[0], [], []⟩), (([48], 6), ⟨[3, 4, 17], [], []⟩)]),
  (51, [(([51], 8), ⟨[0, 1], [], []⟩), (([51], 10), ⟨[0, 6], [], []⟩), (([51], 11), ⟨[0, 6], [], []⟩), (([51], 20), ⟨[0, 7], [], []⟩), (([51], 21), ⟨[7], [], []⟩), (([51], 22), ⟨[0, 7], [], []⟩), (([51], 23), ⟨[7], [], []⟩), (([51], 24), ⟨[0, 7], [], []⟩), (([51], 25), ⟨[7], [], []⟩), (([51], 26), ⟨[0, 7], [], []⟩), (([51], 27), ⟨[7], [], []⟩), (([51], 28), ⟨[0, 7], [], []⟩), (([51], 29), ⟨[7], [], []⟩), (([51], 30), ⟨[0, 7], [], []⟩), (([51], 35), ⟨[0, 7, 8], [], []⟩), (([51], 37), ⟨[0, 7, 8, 9], [], []⟩), (([51], 38), ⟨[7, 8, 9], [], []⟩), (([51], 39), ⟨[7, 8, 9], [], []⟩)]),
  (52, [(([52], 3), ⟨[], [], []⟩), (([52], 4), ⟨[0, 1, 5], [], []⟩), (([52], 9), ⟨[0, 1], [], []⟩), (([52], 10), ⟨[0, 1, 5], [], []⟩), (([52], 15), ⟨[0, 1, 5, 6, 7, 8, 9, 10], [], []⟩), (([52], 21), ⟨[0, 1, 5, 6, 7, 8, 9, 10], [], []⟩), (([52], 22), ⟨[8], [], []⟩), (([52], 23), ⟨[0, 1, 5, 6, 7, 8, 9, 10], [], []⟩), (([52], 26), ⟨[0, 1, 8], [], []⟩), (([52], 30), ⟨[0, 1, 5, 6, 7, 8, 9, 10], [], []⟩), (([52], 31), ⟨[0, 1, 8], [], []⟩)]),
  (54, [(([54], 1), ⟨[0, 1], [], []⟩), (([54], 3), ⟨[0, 1], [], []⟩)]),
  (55, [(([55], 2), ⟨[0, 1], [], []⟩)]),
  (57, [(([57], 3), ⟨[0, 1, 5, 6], [], []⟩), (([57], 5), ⟨[0, 1, 5, 6], [], []⟩)]),
  (66, [(([66], 5), ⟨[0, 1, 5, 6, 7, 8, 9], [], []⟩), (([66], 9), ⟨[], [], []⟩), (([66], 10), ⟨[0, 1, 5, 6, 7, 8], [], []⟩), (([66], 11), ⟨[0, 1, 5, 6, 7, 8, 10], [], []⟩)]),
  (75, [(([75], 3), ⟨[0, 4, 5], [], []⟩), (([75], 8), ⟨[4, 6, 7, 8], [], []⟩)]),
  (81, [(([81], 3), ⟨[0, 1, 2], [], []⟩)])]
noncomputable def EE : Env := { P := Try.prog, tt, ext := [(74, extIndexByte)], ann, inl := [(12, 30), (44, 54), (44, 55), (44, 56), (51, 54), (51, 55), (51, 56), (51, 62), (54, 67), (54, 68), (55, 67)], mt := [((72, "Grow"), 54), ((72, "Len"), 62), ((72, "String"), 56), ((72, "WriteString"), 55), ((72, "strings.copyCheck"), 67), ((72, "strings.grow"), 68)], eqs := [23, 37], same := [76], mnz := [(77, 5)] }
end Dv

set_option maxRecDepth 100000
set_option linter.unusedVariables false
namespace Dv
open Go
noncomputable abbrev tis_computuslaw19_ShowSpans : List TI := funTI EE fn_computuslaw19_ShowSpans
noncomputable def computuslaw19_ShowSpans (a0_0 : Int) (a0_1 : Int) (a0_2 : Int) (a0_3 : Int) (a1_0 : Int) (a1_1 : Int) (a1_2 : Int) : Option PV := callF EE fn_computuslaw19_ShowSpans [(.agg [(.int Go.IntKind.i64 a0_0), (.int Go.IntKind.i64 a0_1), (.int Go.IntKind.i64 a0_2), (.int Go.IntKind.i64 a0_3)]), (.agg [(.int Go.IntKind.i64 a1_0), (.int Go.IntKind.i64 a1_1), (.int Go.IntKind.i64 a1_2)])]

noncomputable abbrev tis_show_Span : List TI := funTI EE fn_show_Span
noncomputable def show_Span (a0_0 : Int) (a0_1 : Int) (a0_2 : Int) (a0_3 : Int) (a1_0 : Int) (a1_1 : Int) (a1_2 : Int) : Option PV := callF EE fn_show_Span [(.agg [(.int Go.IntKind.i64 a0_0), (.int Go.IntKind.i64 a0_1), (.int Go.IntKind.i64 a0_2), (.int Go.IntKind.i64 a0_3)]), (.agg [(.int Go.IntKind.i64 a1_0), (.int Go.IntKind.i64 a1_1), (.int Go.IntKind.i64 a1_2)])]
noncomputable def show_Span_c3 (x0 : Int) (x1 : Int) (x2 : Int) (x3 : Int) (x4 : Int) (x5 : Int) (x6 : Int) : Option PV :=
  runW EE tis_show_Span (confAt EE fn_show_Span 3 (mkT 36 [(2, (.ptr 0 0)), (3, (.ptr 1 0))]) [(.cells ty_api_Span [(.int Go.IntKind.i64 x0), (.int Go.IntKind.i64 x1), (.int Go.IntKind.i64 x2), (.int Go.IntKind.i64 x3)] Bool.false), (.cells ty_api_Style [(.int Go.IntKind.i64 x4), (.int Go.IntKind.i64 x5), (.int Go.IntKind.i64 x6)] Bool.false)])

noncomputable abbrev tis_computusref19_Span : List TI := funTI EE fn_computusref19_Span
noncomputable def computusref19_Span (a0_0 : Int) (a0_1 : Int) (a0_2 : Int) (a0_3 : Int) (a1_0 : Int) (a1_1 : Int) (a1_2 : Int) : Option PV := callF EE fn_computusref19_Span [(.agg [(.int Go.IntKind.i64 a0_0), (.int Go.IntKind.i64 a0_1), (.int Go.IntKind.i64 a0_2), (.int Go.IntKind.i64 a0_3)]), (.agg [(.int Go.IntKind.i64 a1_0), (.int Go.IntKind.i64 a1_1), (.int Go.IntKind.i64 a1_2)])]
noncomputable def computusref19_Span_c2  : Option PV :=
  runW EE tis_computusref19_Span (confAt EE fn_computusref19_Span 2 (mkT 32 []) [])
noncomputable def computusref19_Span_c3 (x0 : Int) (x1 : Int) (x2 : Int) (x3 : Int) (x4 : Int) (x5 : Int) (x6 : Int) : Option PV :=
  runW EE tis_computusref19_Span (confAt EE fn_computusref19_Span 3 (mkT 32 [(2, (.ptr 0 0)), (3, (.ptr 1 0))]) [(.cells ty_api_Span [(.int Go.IntKind.i64 x0), (.int Go.IntKind.i64 x1), (.int Go.IntKind.i64 x2), (.int Go.IntKind.i64 x3)] Bool.false), (.cells ty_api_Style [(.int Go.IntKind.i64 x4), (.int Go.IntKind.i64 x5), (.int Go.IntKind.i64 x6)] Bool.false)])

noncomputable abbrev tis_computuslaw19_known : List TI := funTI EE fn_computuslaw19_known
noncomputable def computuslaw19_known  : Option PV := callF EE fn_computuslaw19_known []

noncomputable abbrev tis_span_Right : List TI := funTI EE fn_span_Right
noncomputable def span_Right (a0_0 : Int) (a0_1 : Int) (a0_2 : Int) (a0_3 : Int) : Option PV := callF EE fn_span_Right [(.agg [(.int Go.IntKind.i64 a0_0), (.int Go.IntKind.i64 a0_1), (.int Go.IntKind.i64 a0_2), (.int Go.IntKind.i64 a0_3)])]

noncomputable abbrev tis_show_Right : List TI := funTI EE fn_show_Right
noncomputable def show_Right (a0_0 : Int) (a0_1 : Int) (a0_2 : Int) : Option PV := callF EE fn_show_Right [(.agg [(.int Go.IntKind.i64 a0_0), (.int Go.IntKind.i64 a0_1), (.int Go.IntKind.i64 a0_2)])]

noncomputable abbrev tis_show_infinite : List TI := funTI EE fn_show_infinite
noncomputable def show_infinite (a0 : Int) : Option PV := callF EE fn_show_infinite [(.int Go.IntKind.i64 a0)]

noncomputable abbrev tis_show_sql : List TI := funTI EE fn_show_sql
noncomputable def show_sql (a0_0 : Int) (a0_1 : Int) (a0_2 : Int) (a0_3 : Int) : Option PV := callF EE fn_show_sql [(.agg [(.int Go.IntKind.i64 a0_0), (.int Go.IntKind.i64 a0_1), (.int Go.IntKind.i64 a0_2), (.int Go.IntKind.i64 a0_3)])]

noncomputable abbrev tis_show_iso : List TI := funTI EE fn_show_iso
noncomputable def show_iso (a0_0 : Int) (a0_1 : Int) (a0_2 : Int) (a0_3 : Int) : Option PV := callF EE fn_show_iso [(.agg [(.int Go.IntKind.i64 a0_0), (.int Go.IntKind.i64 a0_1), (.int Go.IntKind.i64 a0_2), (.int Go.IntKind.i64 a0_3)])]

noncomputable abbrev tis_show_postgres : List TI := funTI EE fn_show_postgres
noncomputable def show_postgres (a0_0 : Int) (a0_1 : Int) (a0_2 : Int) (a0_3 : Int) : Option PV := callF EE fn_show_postgres [(.agg [(.int Go.IntKind.i64 a0_0), (.int Go.IntKind.i64 a0_1), (.int Go.IntKind.i64 a0_2), (.int Go.IntKind.i64 a0_3)])]
noncomputable def show_postgres_c3 (x0 : List UInt8) (x1 : Int) (x2 : Int) (x3 : Int) (x4 : Int) (x5 : Int) : Option PV :=
  runW EE tis_show_postgres (confAt EE fn_show_postgres 3 (mkT 49 [(1, (.ptr 0 0)), (3, (.ptr 1 0)), (4, (.str x0))]) [(.cells ty_api_Span [(.int Go.IntKind.i64 x1), (.int Go.IntKind.i64 x2), (.int Go.IntKind.i64 x3), (.int Go.IntKind.i64 x4)] Bool.false), (.cells ty_int64 [(.int Go.IntKind.i64 x5)] Bool.false)])
noncomputable def show_postgres_c4 (x0 : List UInt8) (x1 : List UInt8) (x2 : Int) (x3 : Int) (x4 : Int) (x5 : Int) (x6 : Int) : Option PV :=
  runW EE tis_show_postgres (confAt EE fn_show_postgres 4 (mkT 49 [(1, (.ptr 0 0)), (3, (.ptr 1 0)), (4, (.str x0)), (5, (.str x1))]) [(.cells ty_api_Span [(.int Go.IntKind.i64 x2), (.int Go.IntKind.i64 x3), (.int Go.IntKind.i64 x4), (.int Go.IntKind.i64 x5)] Bool.false), (.cells ty_int64 [(.int Go.IntKind.i64 x6)] Bool.false)])
noncomputable def show_postgres_c5 (x0 : List UInt8) (x1 : List UInt8) (x2 : List UInt8) (x3 : Int) (x4 : Int) (x5 : Int) (x6 : Int) (x7 : Int) : Option PV :=
  runW EE tis_show_postgres (confAt EE fn_show_postgres 5 (mkT 49 [(1, (.ptr 0 0)), (3, (.ptr 1 0)), (4, (.str x0)), (5, (.str x1)), (6, (.str x2))]) [(.cells ty_api_Span [(.int Go.IntKind.i64 x3), (.int Go.IntKind.i64 x4), (.int Go.IntKind.i64 x5), (.int Go.IntKind.i64 x6)] Bool.false), (.cells ty_int64 [(.int Go.IntKind.i64 x7)] Bool.false)])
noncomputable def show_postgres_c7 (x0 : List UInt8) (x1 : List UInt8) (x2 : List UInt8) (x3 : Int) (x4 : Int) (x5 : Int) (x6 : Int) : Option PV :=
  runW EE tis_show_postgres (confAt EE fn_show_postgres 7 (mkT 49 [(1, (.ptr 0 0)), (4, (.str x0)), (5, (.str x1)), (6, (.str x2))]) [(.cells ty_api_Span [(.int Go.IntKind.i64 x3), (.int Go.IntKind.i64 x4), (.int Go.IntKind.i64 x5), (.int Go.IntKind.i64 x6)] Bool.false)])
noncomputable def show_postgres_c8 (x0 : List UInt8) (x1 : List UInt8) (x2 : List UInt8) (x3 : List UInt8) (x4 : Int) (x5 : Int) (x6 : Int) (x7 : Int) (x8 : Int) : Option PV :=
  runW EE tis_show_postgres (confAt EE fn_show_postgres 8 (mkT 49 [(1, (.ptr 0 0)), (3, (.ptr 1 0)), (4, (.str x0)), (5, (.str x1)), (6, (.str x2)), (7, (.str x3))]) [(.cells ty_api_Span [(.int Go.IntKind.i64 x4), (.int Go.IntKind.i64 x5), (.int Go.IntKind.i64 x6), (.int Go.IntKind.i64 x7)] Bool.false), (.cells ty_int64 [(.int Go.IntKind.i64 x8)] Bool.false)])

noncomputable abbrev tis_computusref16_Right : List TI := funTI EE fn_computusref16_Right
noncomputable def computusref16_Right (a0_0 : Int) (a0_1 : Int) (a0_2 : Int) (a0_3 : Int) : Option PV := callF EE fn_computusref16_Right [(.agg [(.int Go.IntKind.i64 a0_0), (.int Go.IntKind.i64 a0_1), (.int Go.IntKind.i64 a0_2), (.int Go.IntKind.i64 a0_3)])]

noncomputable abbrev tis_computusref19_Right : List TI := funTI EE fn_computusref19_Right
noncomputable def computusref19_Right (a0_0 : Int) (a0_1 : Int) (a0_2 : Int) : Option PV := callF EE fn_computusref19_Right [(.agg [(.int Go.IntKind.i64 a0_0), (.int Go.IntKind.i64 a0_1), (.int Go.IntKind.i64 a0_2)])]

noncomputable abbrev tis_computusref19_inf : List TI := funTI EE fn_computusref19_inf
noncomputable def computusref19_inf (a0 : Int) : Option PV := callF EE fn_computusref19_inf [(.int Go.IntKind.i64 a0)]

noncomputable abbrev tis_computusref19_sql : List TI := funTI EE fn_computusref19_sql
noncomputable def computusref19_sql (a0_0 : Int) (a0_1 : Int) (a0_2 : Int) (a0_3 : Int) : Option PV := callF EE fn_computusref19_sql [(.agg [(.int Go.IntKind.i64 a0_0), (.int Go.IntKind.i64 a0_1), (.int Go.IntKind.i64 a0_2), (.int Go.IntKind.i64 a0_3)])]

noncomputable abbrev tis_computusref19_iso : List TI := funTI EE fn_computusref19_iso
noncomputable def computusref19_iso (a0_0 : Int) (a0_1 : Int) (a0_2 : Int) (a0_3 : Int) : Option PV := callF EE fn_computusref19_iso [(.agg [(.int Go.IntKind.i64 a0_0), (.int Go.IntKind.i64 a0_1), (.int Go.IntKind.i64 a0_2), (.int Go.IntKind.i64 a0_3)])]
noncomputable def computusref19_iso_c8 (x0 : List UInt8) (x1 : Int) : Option PV :=
  runW EE tis_computusref19_iso (confAt EE fn_computusref19_iso 8 (mkT 65 [(3, (.str x0)), (4, (.int Go.IntKind.i64 x1))]) [])

noncomputable abbrev tis_computusref19_postgres : List TI := funTI EE fn_computusref19_postgres
noncomputable def computusref19_postgres (a0_0 : Int) (a0_1 : Int) (a0_2 : Int) (a0_3 : Int) : Option PV := callF EE fn_computusref19_postgres [(.agg [(.int Go.IntKind.i64 a0_0), (.int Go.IntKind.i64 a0_1), (.int Go.IntKind.i64 a0_2), (.int Go.IntKind.i64 a0_3)])]
noncomputable def computusref19_postgres_c6 (x0 : List UInt8) (x1 : Int) (x2 : Int) (x3 : Int) (x4 : Int) (x5 : Int) (x6 : Int) (x7 : List PV) (x8 : Nat) (x9 : List PV) (x10 : Nat) : Option PV :=
  runW EE tis_computusref19_postgres (confAt EE fn_computusref19_postgres 6 (mkT 73 [(1, (.ptr 0 0)), (3, (.lall 1)), (4, (.lall 2)), (5, (.str x0)), (6, (.int Go.IntKind.i64 x1)), (7, (.int Go.IntKind.i64 x2))]) [(.cells ty_api_Span [(.int Go.IntKind.i64 x3), (.int Go.IntKind.i64 x4), (.int Go.IntKind.i64 x5), (.int Go.IntKind.i64 x6)] Bool.false), (.row ty_int64 1 x7 0 (some x8)), (.row ty_string 1 x9 0 (some x10))])
noncomputable def computusref19_postgres_c7 (x0 : List UInt8) (x1 : Int) (x2 : Int) (x3 : Int) (x4 : Int) (x5 : Int) (x6 : Int) (x7 : List PV) (x8 : Nat) (x9 : List PV) (x10 : Nat) : Option PV :=
  runW EE tis_computusref19_postgres (confAt EE fn_computusref19_postgres 7 (mkT 73 [(1, (.ptr 0 0)), (3, (.lall 1)), (4, (.lall 2)), (5, (.str x0)), (6, (.int Go.IntKind.i64 x1)), (7, (.int Go.IntKind.i64 x2))]) [(.cells ty_api_Span [(.int Go.IntKind.i64 x3), (.int Go.IntKind.i64 x4), (.int Go.IntKind.i64 x5), (.int Go.IntKind.i64 x6)] Bool.false), (.row ty_int64 1 x7 0 (some x8)), (.row ty_string 1 x9 0 (some x10))])
noncomputable def computusref19_postgres_c11 (x0 : List UInt8) (x1 : Int) (x2 : Int) (x3 : Int) (x4 : Int) (x5 : Int) (x6 : Int) (x7 : List PV) (x8 : Nat) (x9 : List PV) (x10 : Nat) : Option PV :=
  runW EE tis_computusref19_postgres (confAt EE fn_computusref19_postgres 11 (mkT 73 [(1, (.ptr 0 0)), (3, (.lall 1)), (4, (.lall 2)), (5, (.str x0)), (6, (.int Go.IntKind.i64 x1)), (7, (.int Go.IntKind.i64 x2))]) [(.cells ty_api_Span [(.int Go.IntKind.i64 x3), (.int Go.IntKind.i64 x4), (.int Go.IntKind.i64 x5), (.int Go.IntKind.i64 x6)] Bool.false), (.row ty_int64 1 x7 0 (some x8)), (.row ty_string 1 x9 0 (some x10))])
noncomputable def computusref19_postgres_c14 (x0 : List UInt8) : Option PV :=
  runW EE tis_computusref19_postgres (confAt EE fn_computusref19_postgres 14 (mkT 73 [(5, (.str x0))]) [])
noncomputable def computusref19_postgres_c15 (x0 : List UInt8) (x1 : Int) (x2 : Int) (x3 : Int) (x4 : Int) (x5 : Int) : Option PV :=
  runW EE tis_computusref19_postgres (confAt EE fn_computusref19_postgres 15 (mkT 73 [(1, (.ptr 0 0)), (5, (.str x0)), (6, (.int Go.IntKind.i64 x1))]) [(.cells ty_api_Span [(.int Go.IntKind.i64 x2), (.int Go.IntKind.i64 x3), (.int Go.IntKind.i64 x4), (.int Go.IntKind.i64 x5)] Bool.false)])
noncomputable def computusref19_postgres_c17 (x0 : List UInt8) (x1 : Int) (x2 : Int) (x3 : Int) (x4 : Int) (x5 : Int) : Option PV :=
  runW EE tis_computusref19_postgres (confAt EE fn_computusref19_postgres 17 (mkT 73 [(1, (.ptr 0 0)), (5, (.str x0)), (6, (.int Go.IntKind.i64 x1))]) [(.cells ty_api_Span [(.int Go.IntKind.i64 x2), (.int Go.IntKind.i64 x3), (.int Go.IntKind.i64 x4), (.int Go.IntKind.i64 x5)] Bool.false)])

noncomputable abbrev tis_show_Date : List TI := funTI EE fn_show_Date
noncomputable def show_Date (a0_0 : Int) (a0_1 : Int) (a1_0 : Int) (a1_1 : Int) (a1_2 : Int) : Option PV := callF EE fn_show_Date [(.agg [(.int Go.IntKind.i64 a0_0), (.int Go.IntKind.i64 a0_1)]), (.agg [(.int Go.IntKind.i64 a1_0), (.int Go.IntKind.i64 a1_1), (.int Go.IntKind.i64 a1_2)])]
noncomputable def show_Date_c2  : Option PV :=
  runW EE tis_show_Date (confAt EE fn_show_Date 2 (mkT 34 []) [])
noncomputable def show_Date_c3 (x0 : Int) (x1 : Int) (x2 : Int) (x3 : Int) (x4 : Int) : Option PV :=
  runW EE tis_show_Date (confAt EE fn_show_Date 3 (mkT 34 [(2, (.ptr 0 0)), (3, (.ptr 1 0))]) [(.cells ty_api_Date [(.int Go.IntKind.i64 x0), (.int Go.IntKind.i64 x1)] Bool.false), (.cells ty_api_Style [(.int Go.IntKind.i64 x2), (.int Go.IntKind.i64 x3), (.int Go.IntKind.i64 x4)] Bool.false)])

noncomputable abbrev tis_num_Neg : List TI := funTI EE fn_num_Neg
noncomputable def num_Neg (a0 : Int) : Option PV := callF EE fn_num_Neg [(.int Go.IntKind.i64 a0)]

noncomputable abbrev tis_span_within : List TI := funTI EE fn_span_within
noncomputable def span_within (a0 : Int) : Option PV := callF EE fn_span_within [(.int Go.IntKind.i64 a0)]

noncomputable abbrev tis_show_signed : List TI := funTI EE fn_show_signed
noncomputable def show_signed (a0 : Int) : Option PV := callF EE fn_show_signed [(.int Go.IntKind.i64 a0)]

noncomputable abbrev tis_strings_Cut : List TI := funTI EE fn_strings_Cut
noncomputable def strings_Cut (a0 : List UInt8) (a1 : List UInt8) : Option PV := callF EE fn_strings_Cut [(.str a0), (.str a1)]

noncomputable abbrev tis_clock_Long : List TI := funTI EE fn_clock_Long
noncomputable def clock_Long (a0 : Int) : Option PV := callF EE fn_clock_Long [(.int Go.IntKind.i64 a0)]

noncomputable abbrev tis_show_between : List TI := funTI EE fn_show_between
noncomputable def show_between (a0 : List UInt8) (a1 : List PV) : Option PV := callF EE fn_show_between [(.str a0), (.sl 1 a1)]
noncomputable def show_between_c3 (x0 : List UInt8) (x1 : List PV) (x2 : Int) (x3 : Int) (x4 : List PV) : Option PV :=
  runW EE tis_show_between (confAt EE fn_show_between 3 (mkT 24 [(0, (.str x0)), (5, (.lall 0)), (8, (.sl 1 x1)), (9, (.int Go.IntKind.i64 x2)), (10, (.int Go.IntKind.i64 x3))]) [(.row ty_string 1 x4 0 none)])

noncomputable abbrev tis_show_join : List TI := funTI EE fn_show_join
noncomputable def show_join (a0 : List PV) : Option PV := callF EE fn_show_join [(.sl 1 a0)]
noncomputable def show_join_c3 (x0 : List PV) (x1 : Int) (x2 : Int) (x3 : List PV) : Option PV :=
  runW EE tis_show_join (confAt EE fn_show_join 3 (mkT 23 [(3, (.lall 0)), (6, (.sl 1 x0)), (7, (.int Go.IntKind.i64 x1)), (8, (.int Go.IntKind.i64 x2))]) [(.row ty_uint8 1 x3 0 none)])

noncomputable abbrev tis_show_digits : List TI := funTI EE fn_show_digits
noncomputable def show_digits (a0 : Int) : Option PV := callF EE fn_show_digits [(.int Go.IntKind.i64 a0)]

noncomputable abbrev tis_show_letter : List TI := funTI EE fn_show_letter
noncomputable def show_letter (a0 : Int) (a1 : List UInt8) : Option PV := callF EE fn_show_letter [(.int Go.IntKind.i64 a0), (.str a1)]

noncomputable abbrev tis_show_seconds : List TI := funTI EE fn_show_seconds
noncomputable def show_seconds (a0 : Int) : Option PV := callF EE fn_show_seconds [(.int Go.IntKind.i64 a0)]

noncomputable abbrev tis_show_unit : List TI := funTI EE fn_show_unit
noncomputable def show_unit (a0 : Int) (a1 : List UInt8) (a2 : PV) : Option PV := callF EE fn_show_unit [(.int Go.IntKind.i64 a0), (.str a1), a2]
noncomputable def show_unit_c5 (x0 : Int) (x1 : List UInt8) (x2 : PV) (x3 : List UInt8) : Option PV :=
  runW EE tis_show_unit (confAt EE fn_show_unit 5 (mkT 31 [(0, (.int Go.IntKind.i64 x0)), (1, (.str x1)), (2, (.opq x2 0)), (8, (.str x3))]) [])
noncomputable def show_unit_c6 (x0 : Int) (x1 : List UInt8) (x2 : PV) (x3 : List UInt8) (x4 : List UInt8) : Option PV :=
  runW EE tis_show_unit (confAt EE fn_show_unit 6 (mkT 31 [(0, (.int Go.IntKind.i64 x0)), (1, (.str x1)), (2, (.opq x2 0)), (7, (.str x3)), (8, (.str x4))]) [])

noncomputable abbrev tis_computusref16_within : List TI := funTI EE fn_computusref16_within
noncomputable def computusref16_within (a0 : Int) (a1 : Int) : Option PV := callF EE fn_computusref16_within [(.int Go.IntKind.i64 a0), (.int Go.IntKind.i64 a1)]

noncomputable abbrev tis_computusref19_size : List TI := funTI EE fn_computusref19_size
noncomputable def computusref19_size (a0 : Int) : Option PV := callF EE fn_computusref19_size [(.int Go.IntKind.i64 a0)]

noncomputable abbrev tis_computusref03_Digits : List TI := funTI EE fn_computusref03_Digits
noncomputable def computusref03_Digits (a0 : Int) : Option PV := callF EE fn_computusref03_Digits [(.int Go.IntKind.i64 a0)]
noncomputable def computusref03_Digits_c4 (x0 : Int) (x1 : Int) : Option PV :=
  runW EE tis_computusref03_Digits (confAt EE fn_computusref03_Digits 4 (mkT 51 [(0, (.int Go.IntKind.i64 x0)), (3, (.int Go.IntKind.u64 x1))]) [])
noncomputable def computusref03_Digits_c5 (x0 : Int) (x1 : Int) (x2 : List PV) : Option PV :=
  runW EE tis_computusref03_Digits (confAt EE fn_computusref03_Digits 5 (mkT 51 [(0, (.int Go.IntKind.i64 x0)), (3, (.int Go.IntKind.u64 x1)), (4, (.lall 0))]) [(.row ty_uint8 1 x2 0 none)])
noncomputable def computusref03_Digits_c11 (x0 : List PV) : Option PV :=
  runW EE tis_computusref03_Digits (confAt EE fn_computusref03_Digits 11 (mkT 51 [(4, (.lall 0))]) [(.row ty_uint8 1 x0 0 none)])
noncomputable def computusref03_Digits_c13 (x0 : Int) (x1 : List PV) (x2 : List PV) : Option PV :=
  runW EE tis_computusref03_Digits (confAt EE fn_computusref03_Digits 13 (mkT 51 [(4, (.lall 0)), (5, (.lall 1)), (6, (.int Go.IntKind.i64 x0))]) [(.row ty_uint8 1 x1 0 none), (.row ty_uint8 1 x2 0 none)])

noncomputable abbrev tis_computusref03_Two : List TI := funTI EE fn_computusref03_Two
noncomputable def computusref03_Two (a0 : Int) : Option PV := callF EE fn_computusref03_Two [(.int Go.IntKind.i64 a0)]
noncomputable def computusref03_Two_c2 (x0 : Int) : Option PV :=
  runW EE tis_computusref03_Two (confAt EE fn_computusref03_Two 2 (mkT 24 [(0, (.int Go.IntKind.i64 x0))]) [])
noncomputable def computusref03_Two_c3 (x0 : Int) : Option PV :=
  runW EE tis_computusref03_Two (confAt EE fn_computusref03_Two 3 (mkT 24 [(0, (.int Go.IntKind.i64 x0))]) [])

noncomputable abbrev tis_computusref03_Fraction : List TI := funTI EE fn_computusref03_Fraction
noncomputable def computusref03_Fraction (a0 : Int) : Option PV := callF EE fn_computusref03_Fraction [(.int Go.IntKind.i64 a0)]
noncomputable def computusref03_Fraction_c2  : Option PV :=
  runW EE tis_computusref03_Fraction (confAt EE fn_computusref03_Fraction 2 (mkT 27 []) [])
noncomputable def computusref03_Fraction_c3 (x0 : Int) : Option PV :=
  runW EE tis_computusref03_Fraction (confAt EE fn_computusref03_Fraction 3 (mkT 27 [(0, (.int Go.IntKind.i64 x0))]) [])
noncomputable def computusref03_Fraction_c4 (x0 : List UInt8) : Option PV :=
  runW EE tis_computusref03_Fraction (confAt EE fn_computusref03_Fraction 4 (mkT 27 [(3, (.str x0))]) [])

noncomputable abbrev tis_computusref19_part : List TI := funTI EE fn_computusref19_part
noncomputable def computusref19_part (a0 : Int) (a1 : List UInt8) : Option PV := callF EE fn_computusref19_part [(.int Go.IntKind.i64 a0), (.str a1)]

noncomputable abbrev tis_computusref19_unit : List TI := funTI EE fn_computusref19_unit
noncomputable def computusref19_unit (a0 : Int) (a1 : List UInt8) (a2 : Int) : Option PV := callF EE fn_computusref19_unit [(.int Go.IntKind.i64 a0), (.str a1), (.int Go.IntKind.i64 a2)]
noncomputable def computusref19_unit_c4 (x0 : Int) (x1 : Int) (x2 : List UInt8) : Option PV :=
  runW EE tis_computusref19_unit (confAt EE fn_computusref19_unit 4 (mkT 26 [(0, (.int Go.IntKind.i64 x0)), (2, (.int Go.IntKind.i64 x1)), (7, (.str x2))]) [])

noncomputable abbrev tis_computusref03_Long : List TI := funTI EE fn_computusref03_Long
noncomputable def computusref03_Long (a0 : Int) : Option PV := callF EE fn_computusref03_Long [(.int Go.IntKind.i64 a0)]
noncomputable def computusref03_Long_c6 (x0 : Int) (x1 : List UInt8) : Option PV :=
  runW EE tis_computusref03_Long (confAt EE fn_computusref03_Long 6 (mkT 36 [(3, (.int Go.IntKind.u64 x0)), (4, (.str x1))]) [])

noncomputable abbrev tis_day_Right : List TI := funTI EE fn_day_Right
noncomputable def day_Right (a0_0 : Int) (a0_1 : Int) : Option PV := callF EE fn_day_Right [(.agg [(.int Go.IntKind.i64 a0_0), (.int Go.IntKind.i64 a0_1)])]

noncomputable abbrev tis_show_date : List TI := funTI EE fn_show_date
noncomputable def show_date (a0_0 : Int) (a0_1 : Int) (a1_0 : Int) (a1_1 : Int) (a1_2 : Int) : Option PV := callF EE fn_show_date [(.agg [(.int Go.IntKind.i64 a0_0), (.int Go.IntKind.i64 a0_1)]), (.agg [(.int Go.IntKind.i64 a1_0), (.int Go.IntKind.i64 a1_1), (.int Go.IntKind.i64 a1_2)])]
noncomputable def show_date_c5 (x0 : Int) (x1 : Int) (x2 : Int) (x3 : List UInt8) (x4 : Int) (x5 : Int) (x6 : Int) : Option PV :=
  runW EE tis_show_date (confAt EE fn_show_date 5 (mkT 75 [(3, (.ptr 0 0)), (6, (.int Go.IntKind.i64 x0)), (7, (.int Go.IntKind.i64 x1)), (8, (.int Go.IntKind.i64 x2)), (10, (.str x3))]) [(.cells ty_api_Style [(.int Go.IntKind.i64 x4), (.int Go.IntKind.i64 x5), (.int Go.IntKind.i64 x6)] Bool.false)])

noncomputable abbrev tis_num_Sub : List TI := funTI EE fn_num_Sub
noncomputable def num_Sub (a0 : Int) (a1 : Int) : Option PV := callF EE fn_num_Sub [(.int Go.IntKind.i64 a0), (.int Go.IntKind.i64 a1)]

noncomputable abbrev tis_stringslite_Cut : List TI := funTI EE fn_stringslite_Cut
noncomputable def stringslite_Cut (a0 : List UInt8) (a1 : List UInt8) : Option PV := callF EE fn_stringslite_Cut [(.str a0), (.str a1)]

noncomputable abbrev tis_clock_text : List TI := funTI EE fn_clock_text
noncomputable def clock_text (a0 : Int) : Option PV := callF EE fn_clock_text [(.int Go.IntKind.u64 a0)]

noncomputable abbrev tis_strings_Join : List TI := funTI EE fn_strings_Join
noncomputable def strings_Join (a0 : List PV) (a1 : List UInt8) : Option PV := callF EE fn_strings_Join [(.sl 1 a0), (.str a1)]
noncomputable def strings_Join_c10 (x0 : List PV) (x1 : List UInt8) (x2 : Int) : Option PV :=
  runW EE tis_strings_Join (confAt EE fn_strings_Join 10 (mkT 75 [(0, (.sl 1 x0)), (1, (.str x1)), (5, (.int Go.IntKind.i64 x2))]) [])
noncomputable def strings_Join_c11 (x0 : List PV) (x1 : List UInt8) (x2 : Int) : Option PV :=
  runW EE tis_strings_Join (confAt EE fn_strings_Join 11 (mkT 75 [(0, (.sl 1 x0)), (1, (.str x1)), (5, (.int Go.IntKind.i64 x2))]) [])
noncomputable def strings_Join_c12 (x0 : List PV) (x1 : List UInt8) (x2 : Int) (x3 : List PV) (x4 : Int) (x5 : Int) : Option PV :=
  runW EE tis_strings_Join (confAt EE fn_strings_Join 12 (mkT 75 [(0, (.sl 1 x0)), (1, (.str x1)), (5, (.int Go.IntKind.i64 x2)), (39, (.sl 1 x3)), (40, (.int Go.IntKind.i64 x4)), (41, (.int Go.IntKind.i64 x5))]) [])
noncomputable def strings_Join_c16 (x0 : List PV) (x1 : List UInt8) (x2 : Int) (x3 : List UInt8) (x4 : List PV) (x5 : Int) (x6 : Int) : Option PV :=
  runW EE tis_strings_Join (confAt EE fn_strings_Join 16 (mkT 75 [(0, (.sl 1 x0)), (1, (.str x1)), (5, (.int Go.IntKind.i64 x2)), (7, (.str x3)), (39, (.sl 1 x4)), (40, (.int Go.IntKind.i64 x5)), (41, (.int Go.IntKind.i64 x6))]) [])
noncomputable def strings_Join_c20 (x0 : List PV) (x1 : List UInt8) (x2 : List PV) : Option PV :=
  runW EE tis_strings_Join (confAt EE fn_strings_Join 20 (mkT 75 [(0, (.sl 1 x0)), (1, (.str x1)), (8, (.ptr 0 0))]) [(.cells ty_strings_Builder [(.ptr 0 0), (.lall 1)] Bool.false), (.row ty_uint8 1 x2 0 none)])
noncomputable def strings_Join_c20_1 (x0 : List PV) (x1 : List UInt8) : Option PV :=
  runW EE tis_strings_Join (confAt EE fn_strings_Join 20 (mkT 75 [(0, (.sl 1 x0)), (1, (.str x1)), (8, (.ptr 0 0))]) [(.cells ty_strings_Builder [(.ptr 0 0), .sl0] Bool.false)])
noncomputable def strings_Join_c21 (x0 : List PV) (x1 : List UInt8) (x2 : List PV) : Option PV :=
  runW EE tis_strings_Join (confAt EE fn_strings_Join 21 (mkT 75 [(0, (.sl 1 x0)), (1, (.str x1)), (8, (.ptr 0 0))]) [(.cells ty_strings_Builder [(.ptr 0 0), (.lall 1)] Bool.false), (.row ty_uint8 1 x2 0 none)])
noncomputable def strings_Join_c22 (x0 : List UInt8) (x1 : List PV) (x2 : Int) (x3 : Int) (x4 : List PV) : Option PV :=
  runW EE tis_strings_Join (confAt EE fn_strings_Join 22 (mkT 75 [(1, (.str x0)), (8, (.ptr 0 0)), (63, (.sl 1 x1)), (64, (.int Go.IntKind.i64 x2)), (65, (.int Go.IntKind.i64 x3))]) [(.cells ty_strings_Builder [(.ptr 0 0), (.lall 1)] Bool.false), (.row ty_uint8 1 x4 0 none)])

noncomputable abbrev tis_clock_Two : List TI := funTI EE fn_clock_Two
noncomputable def clock_Two (a0 : Int) : Option PV := callF EE fn_clock_Two [(.int Go.IntKind.i64 a0)]

noncomputable abbrev tis_show_number : List TI := funTI EE fn_show_number
noncomputable def show_number (a0 : Int) : Option PV := callF EE fn_show_number [(.int Go.IntKind.i64 a0)]

noncomputable abbrev tis_strings_TrimPrefix : List TI := funTI EE fn_strings_TrimPrefix
noncomputable def strings_TrimPrefix (a0 : List UInt8) (a1 : List UInt8) : Option PV := callF EE fn_strings_TrimPrefix [(.str a0), (.str a1)]

noncomputable abbrev tis_clock_Fraction : List TI := funTI EE fn_clock_Fraction
noncomputable def clock_Fraction (a0 : Int) : Option PV := callF EE fn_clock_Fraction [(.int Go.IntKind.i64 a0)]
noncomputable def clock_Fraction_c2  : Option PV :=
  runW EE tis_clock_Fraction (confAt EE fn_clock_Fraction 2 (mkT 30 []) [])
noncomputable def clock_Fraction_c3 (x0 : Int) : Option PV :=
  runW EE tis_clock_Fraction (confAt EE fn_clock_Fraction 3 (mkT 30 [(0, (.int Go.IntKind.i64 x0))]) [])
noncomputable def clock_Fraction_c6 (x0 : List UInt8) (x1 : Int) (x2 : List UInt8) (x3 : Nat) : Option PV :=
  runW EE tis_clock_Fraction (confAt EE fn_clock_Fraction 6 (mkT 30 [(3, (.str x0)), (4, (.int Go.IntKind.i64 x1)), (17, (.ptr 0 0))]) [(.iter x2 x3)])

noncomputable abbrev tis_day_inside : List TI := funTI EE fn_day_inside
noncomputable def day_inside (a0 : Int) : Option PV := callF EE fn_day_inside [(.int Go.IntKind.i64 a0)]

noncomputable abbrev tis_day_Parts : List TI := funTI EE fn_day_Parts
noncomputable def day_Parts (a0_0 : Int) (a0_1 : Int) : Option PV := callF EE fn_day_Parts [(.agg [(.int Go.IntKind.i64 a0_0), (.int Go.IntKind.i64 a0_1)])]

noncomputable abbrev tis_strings_Repeat : List TI := funTI EE fn_strings_Repeat
noncomputable def strings_Repeat (a0 : List UInt8) (a1 : Int) : Option PV := callF EE fn_strings_Repeat [(.str a0), (.int Go.IntKind.i64 a1)]
noncomputable def strings_Repeat_c8 (x0 : List UInt8) (x1 : Int) : Option PV :=
  runW EE tis_strings_Repeat (confAt EE fn_strings_Repeat 8 (mkT 125 [(0, (.str x0)), (1, (.int Go.IntKind.i64 x1))]) [])
noncomputable def strings_Repeat_c10 (x0 : List UInt8) (x1 : Int) : Option PV :=
  runW EE tis_strings_Repeat (confAt EE fn_strings_Repeat 10 (mkT 125 [(0, (.str x0)), (6, (.int Go.IntKind.u64 x1))]) [])
noncomputable def strings_Repeat_c11 (x0 : List UInt8) (x1 : Int) : Option PV :=
  runW EE tis_strings_Repeat (confAt EE fn_strings_Repeat 11 (mkT 125 [(0, (.str x0)), (6, (.int Go.IntKind.u64 x1))]) [])
noncomputable def strings_Repeat_c20 (x0 : List UInt8) (x1 : Int) : Option PV :=
  runW EE tis_strings_Repeat (confAt EE fn_strings_Repeat 20 (mkT 125 [(0, (.str x0)), (7, (.int Go.IntKind.i64 x1))]) [])
noncomputable def strings_Repeat_c30 (x0 : List UInt8) (x1 : Int) : Option PV :=
  runW EE tis_strings_Repeat (confAt EE fn_strings_Repeat 30 (mkT 125 [(0, (.str x0)), (7, (.int Go.IntKind.i64 x1))]) [])
noncomputable def strings_Repeat_c21 (x0 : Int) : Option PV :=
  runW EE tis_strings_Repeat (confAt EE fn_strings_Repeat 21 (mkT 125 [(7, (.int Go.IntKind.i64 x0))]) [])
noncomputable def strings_Repeat_c22 (x0 : List UInt8) (x1 : Int) : Option PV :=
  runW EE tis_strings_Repeat (confAt EE fn_strings_Repeat 22 (mkT 125 [(0, (.str x0)), (7, (.int Go.IntKind.i64 x1))]) [])
noncomputable def strings_Repeat_c35 (x0 : List UInt8) (x1 : Int) (x2 : Int) : Option PV :=
  runW EE tis_strings_Repeat (confAt EE fn_strings_Repeat 35 (mkT 125 [(0, (.str x0)), (7, (.int Go.IntKind.i64 x1)), (8, (.int Go.IntKind.i64 x2))]) [])
noncomputable def strings_Repeat_c23 (x0 : Int) : Option PV :=
  runW EE tis_strings_Repeat (confAt EE fn_strings_Repeat 23 (mkT 125 [(7, (.int Go.IntKind.i64 x0))]) [])
noncomputable def strings_Repeat_c24 (x0 : List UInt8) (x1 : Int) : Option PV :=
  runW EE tis_strings_Repeat (confAt EE fn_strings_Repeat 24 (mkT 125 [(0, (.str x0)), (7, (.int Go.IntKind.i64 x1))]) [])
noncomputable def strings_Repeat_c37 (x0 : List UInt8) (x1 : Int) (x2 : Int) (x3 : List PV) : Option PV :=
  runW EE tis_strings_Repeat (confAt EE fn_strings_Repeat 37 (mkT 125 [(0, (.str x0)), (7, (.int Go.IntKind.i64 x1)), (8, (.int Go.IntKind.i64 x2)), (9, (.ptr 0 0))]) [(.cells ty_strings_Builder [(.ptr 0 0), (.lall 1)] Bool.false), (.row ty_uint8 1 x3 0 none)])
noncomputable def strings_Repeat_c37_1 (x0 : List UInt8) (x1 : Int) (x2 : Int) : Option PV :=
  runW EE tis_strings_Repeat (confAt EE fn_strings_Repeat 37 (mkT 125 [(0, (.str x0)), (7, (.int Go.IntKind.i64 x1)), (8, (.int Go.IntKind.i64 x2)), (9, (.ptr 0 0))]) [(.cells ty_strings_Builder [(.ptr 0 0), .sl0] Bool.false)])
noncomputable def strings_Repeat_c25 (x0 : Int) : Option PV :=
  runW EE tis_strings_Repeat (confAt EE fn_strings_Repeat 25 (mkT 125 [(7, (.int Go.IntKind.i64 x0))]) [])
noncomputable def strings_Repeat_c26 (x0 : List UInt8) (x1 : Int) : Option PV :=
  runW EE tis_strings_Repeat (confAt EE fn_strings_Repeat 26 (mkT 125 [(0, (.str x0)), (7, (.int Go.IntKind.i64 x1))]) [])
noncomputable def strings_Repeat_c38 (x0 : Int) (x1 : Int) (x2 : List PV) : Option PV :=
  runW EE tis_strings_Repeat (confAt EE fn_strings_Repeat 38 (mkT 125 [(7, (.int Go.IntKind.i64 x0)), (8, (.int Go.IntKind.i64 x1)), (9, (.ptr 0 0))]) [(.cells ty_strings_Builder [(.ptr 0 0), (.lall 1)] Bool.false), (.row ty_uint8 1 x2 0 none)])
noncomputable def strings_Repeat_c27 (x0 : Int) : Option PV :=
  runW EE tis_strings_Repeat (confAt EE fn_strings_Repeat 27 (mkT 125 [(7, (.int Go.IntKind.i64 x0))]) [])
noncomputable def strings_Repeat_c28 (x0 : List UInt8) (x1 : Int) : Option PV :=
  runW EE tis_strings_Repeat (confAt EE fn_strings_Repeat 28 (mkT 125 [(0, (.str x0)), (7, (.int Go.IntKind.i64 x1))]) [])
noncomputable def strings_Repeat_c39 (x0 : Int) (x1 : Int) (x2 : List PV) : Option PV :=
  runW EE tis_strings_Repeat (confAt EE fn_strings_Repeat 39 (mkT 125 [(7, (.int Go.IntKind.i64 x0)), (8, (.int Go.IntKind.i64 x1)), (9, (.ptr 0 0))]) [(.cells ty_strings_Builder [(.ptr 0 0), (.lall 1)] Bool.false), (.row ty_uint8 1 x2 0 none)])
noncomputable def strings_Repeat_c29 (x0 : Int) : Option PV :=
  runW EE tis_strings_Repeat (confAt EE fn_strings_Repeat 29 (mkT 125 [(7, (.int Go.IntKind.i64 x0))]) [])

noncomputable abbrev tis_stringslite_Index : List TI := funTI EE fn_stringslite_Index
noncomputable def stringslite_Index (a0 : List UInt8) (a1 : List UInt8) : Option PV := callF EE fn_stringslite_Index [(.str a0), (.str a1)]
noncomputable def stringslite_Index_c3  : Option PV :=
  runW EE tis_stringslite_Index (confAt EE fn_stringslite_Index 3 (mkT 143 []) [])
noncomputable def stringslite_Index_c4 (x0 : List UInt8) (x1 : List UInt8) (x2 : Int) : Option PV :=
  runW EE tis_stringslite_Index (confAt EE fn_stringslite_Index 4 (mkT 143 [(0, (.str x0)), (1, (.str x1)), (5, (.int Go.IntKind.i64 x2))]) [])

noncomputable abbrev tis_clock_parts : List TI := funTI EE fn_clock_parts
noncomputable def clock_parts (a0 : Int) : Option PV := callF EE fn_clock_parts [(.int Go.IntKind.u64 a0)]

noncomputable abbrev tis_strings_Builder_Grow : List TI := funTI EE fn_strings_Builder_Grow
noncomputable def strings_Builder_Grow (a0 : PV) (a1 : Int) : Option PV := callF EE fn_strings_Builder_Grow [a0, (.int Go.IntKind.i64 a1)]

noncomputable abbrev tis_strings_Builder_WriteString : List TI := funTI EE fn_strings_Builder_WriteString
noncomputable def strings_Builder_WriteString (a0 : PV) (a1 : List UInt8) : Option PV := callF EE fn_strings_Builder_WriteString [a0, (.str a1)]

noncomputable abbrev tis_strings_Builder_String : List TI := funTI EE fn_strings_Builder_String
noncomputable def strings_Builder_String (a0 : PV) : Option PV := callF EE fn_strings_Builder_String [a0]

noncomputable abbrev tis_clock_digits : List TI := funTI EE fn_clock_digits
noncomputable def clock_digits (a0 : Int) (a1 : Int) : Option PV := callF EE fn_clock_digits [(.int Go.IntKind.u64 a0), (.int Go.IntKind.i64 a1)]
noncomputable def clock_digits_c3 (x0 : Int) (x1 : Int) (x2 : Int) (x3 : List PV) (x4 : Nat) : Option PV :=
  runW EE tis_clock_digits (confAt EE fn_clock_digits 3 (mkT 28 [(0, (.int Go.IntKind.u64 x0)), (1, (.int Go.IntKind.i64 x1)), (5, (.ptr 0 0)), (6, (.int Go.IntKind.i64 x2))]) [(.row ty_A20_uint8 1 x3 0 (some x4))])
noncomputable def clock_digits_c5 (x0 : Int) (x1 : Int) (x2 : Int) (x3 : List PV) (x4 : Nat) : Option PV :=
  runW EE tis_clock_digits (confAt EE fn_clock_digits 5 (mkT 28 [(0, (.int Go.IntKind.u64 x0)), (1, (.int Go.IntKind.i64 x1)), (5, (.ptr 0 0)), (6, (.int Go.IntKind.i64 x2))]) [(.row ty_A20_uint8 1 x3 0 (some x4))])

noncomputable abbrev tis_stringslite_TrimPrefix : List TI := funTI EE fn_stringslite_TrimPrefix
noncomputable def stringslite_TrimPrefix (a0 : List UInt8) (a1 : List UInt8) : Option PV := callF EE fn_stringslite_TrimPrefix [(.str a0), (.str a1)]

noncomputable abbrev tis_civil_Date : List TI := funTI EE fn_civil_Date
noncomputable def civil_Date (a0 : Int) : Option PV := callF EE fn_civil_Date [(.int Go.IntKind.i64 a0)]

noncomputable abbrev tis_bits_Mul : List TI := funTI EE fn_bits_Mul
noncomputable def bits_Mul (a0 : Int) (a1 : Int) : Option PV := callF EE fn_bits_Mul [(.int Go.IntKind.u64 a0), (.int Go.IntKind.u64 a1)]

noncomputable abbrev tis_strings_HasPrefix : List TI := funTI EE fn_strings_HasPrefix
noncomputable def strings_HasPrefix (a0 : List UInt8) (a1 : List UInt8) : Option PV := callF EE fn_strings_HasPrefix [(.str a0), (.str a1)]

noncomputable abbrev tis_strings_Builder_Len : List TI := funTI EE fn_strings_Builder_Len
noncomputable def strings_Builder_Len (a0 : PV) : Option PV := callF EE fn_strings_Builder_Len [a0]

noncomputable abbrev tis_stringslite_IndexByte : List TI := funTI EE fn_stringslite_IndexByte
noncomputable def stringslite_IndexByte (a0 : List UInt8) (a1 : Int) : Option PV := callF EE fn_stringslite_IndexByte [(.str a0), (.int Go.IntKind.u8 a1)]

noncomputable abbrev tis_bytealg_Cutover : List TI := funTI EE fn_bytealg_Cutover
noncomputable def bytealg_Cutover (a0 : Int) : Option PV := callF EE fn_bytealg_Cutover [(.int Go.IntKind.i64 a0)]

noncomputable abbrev tis_bytealg_IndexRabinKarp_string : List TI := funTI EE fn_bytealg_IndexRabinKarp_string
noncomputable def bytealg_IndexRabinKarp_string (a0 : List UInt8) (a1 : List UInt8) : Option PV := callF EE fn_bytealg_IndexRabinKarp_string [(.str a0), (.str a1)]
noncomputable def bytealg_IndexRabinKarp_string_c5 (x0 : List UInt8) (x1 : List UInt8) (x2 : Int) (x3 : Int) (x4 : Int) (x5 : Int) (x6 : Int) : Option PV :=
  runW EE tis_bytealg_IndexRabinKarp_string (confAt EE fn_bytealg_IndexRabinKarp_string 5 (mkT 81 [(0, (.str x0)), (1, (.str x1)), (5, (.int Go.IntKind.u32 x2)), (6, (.int Go.IntKind.u32 x3)), (7, (.int Go.IntKind.i64 x4)), (8, (.int Go.IntKind.u32 x5)), (9, (.int Go.IntKind.i64 x6))]) [])
noncomputable def bytealg_IndexRabinKarp_string_c9  : Option PV :=
  runW EE tis_bytealg_IndexRabinKarp_string (confAt EE fn_bytealg_IndexRabinKarp_string 9 (mkT 81 []) [])
noncomputable def bytealg_IndexRabinKarp_string_c10 (x0 : List UInt8) (x1 : List UInt8) (x2 : Int) (x3 : Int) (x4 : Int) (x5 : Int) : Option PV :=
  runW EE tis_bytealg_IndexRabinKarp_string (confAt EE fn_bytealg_IndexRabinKarp_string 10 (mkT 81 [(0, (.str x0)), (1, (.str x1)), (5, (.int Go.IntKind.u32 x2)), (6, (.int Go.IntKind.u32 x3)), (7, (.int Go.IntKind.i64 x4)), (8, (.int Go.IntKind.u32 x5))]) [])
noncomputable def bytealg_IndexRabinKarp_string_c11 (x0 : List UInt8) (x1 : List UInt8) (x2 : Int) (x3 : Int) (x4 : Int) (x5 : Int) (x6 : Int) : Option PV :=
  runW EE tis_bytealg_IndexRabinKarp_string (confAt EE fn_bytealg_IndexRabinKarp_string 11 (mkT 81 [(0, (.str x0)), (1, (.str x1)), (5, (.int Go.IntKind.u32 x2)), (6, (.int Go.IntKind.u32 x3)), (7, (.int Go.IntKind.i64 x4)), (8, (.int Go.IntKind.u32 x5)), (10, (.int Go.IntKind.i64 x6))]) [])

noncomputable abbrev tis_strings_Builder_copyCheck : List TI := funTI EE fn_strings_Builder_copyCheck
noncomputable def strings_Builder_copyCheck (a0 : PV) : Option PV := callF EE fn_strings_Builder_copyCheck [a0]

noncomputable abbrev tis_strings_Builder_grow : List TI := funTI EE fn_strings_Builder_grow
noncomputable def strings_Builder_grow (a0 : PV) (a1 : Int) : Option PV := callF EE fn_strings_Builder_grow [a0, (.int Go.IntKind.i64 a1)]

noncomputable abbrev tis_stringslite_HasPrefix : List TI := funTI EE fn_stringslite_HasPrefix
noncomputable def stringslite_HasPrefix (a0 : List UInt8) (a1 : List UInt8) : Option PV := callF EE fn_stringslite_HasPrefix [(.str a0), (.str a1)]

noncomputable abbrev tis_civil_can : List TI := funTI EE fn_civil_can
noncomputable def civil_can (a0 : Int) : Option PV := callF EE fn_civil_can [(.int Go.IntKind.i64 a0)]

noncomputable abbrev tis_civil_parts : List TI := funTI EE fn_civil_parts
noncomputable def civil_parts (a0 : Int) : Option PV := callF EE fn_civil_parts [(.int Go.IntKind.i64 a0)]

noncomputable abbrev tis_bits_Mul32 : List TI := funTI EE fn_bits_Mul32
noncomputable def bits_Mul32 (a0 : Int) (a1 : Int) : Option PV := callF EE fn_bits_Mul32 [(.int Go.IntKind.u32 a0), (.int Go.IntKind.u32 a1)]

noncomputable abbrev tis_bits_Mul64 : List TI := funTI EE fn_bits_Mul64
noncomputable def bits_Mul64 (a0 : Int) (a1 : Int) : Option PV := callF EE fn_bits_Mul64 [(.int Go.IntKind.u64 a0), (.int Go.IntKind.u64 a1)]

noncomputable abbrev tis_bytealg_hashStr_string : List TI := funTI EE fn_bytealg_hashStr_string
noncomputable def bytealg_hashStr_string (a0 : List UInt8) : Option PV := callF EE fn_bytealg_hashStr_string [(.str a0)]
noncomputable def bytealg_hashStr_string_c3 (x0 : List UInt8) (x1 : Int) (x2 : Int) : Option PV :=
  runW EE tis_bytealg_hashStr_string (confAt EE fn_bytealg_hashStr_string 3 (mkT 39 [(0, (.str x0)), (4, (.int Go.IntKind.u32 x1)), (5, (.int Go.IntKind.i64 x2))]) [])
noncomputable def bytealg_hashStr_string_c8 (x0 : Int) (x1 : Int) (x2 : Int) (x3 : Int) : Option PV :=
  runW EE tis_bytealg_hashStr_string (confAt EE fn_bytealg_hashStr_string 8 (mkT 39 [(4, (.int Go.IntKind.u32 x0)), (6, (.int Go.IntKind.u32 x1)), (7, (.int Go.IntKind.u32 x2)), (8, (.int Go.IntKind.i64 x3))]) [])

noncomputable abbrev tis_civil_First : List TI := funTI EE fn_civil_First
noncomputable def civil_First  : Option PV := callF EE fn_civil_First []

noncomputable abbrev tis_civil_Last : List TI := funTI EE fn_civil_Last
noncomputable def civil_Last  : Option PV := callF EE fn_civil_Last []

noncomputable abbrev tis_civil_floor : List TI := funTI EE fn_civil_floor
noncomputable def civil_floor (a0 : Int) (a1 : Int) : Option PV := callF EE fn_civil_floor [(.int Go.IntKind.i64 a0), (.int Go.IntKind.i64 a1)]

noncomputable abbrev tis_civil_day : List TI := funTI EE fn_civil_day
noncomputable def civil_day (a0 : Int) (a1 : Int) (a2 : Int) : Option PV := callF EE fn_civil_day [(.int Go.IntKind.i64 a0), (.int Go.IntKind.i64 a1), (.int Go.IntKind.i64 a2)]
noncomputable def civil_day_c3 (x0 : Int) (x1 : Int) (x2 : Int) : Option PV :=
  runW EE tis_civil_day (confAt EE fn_civil_day 3 (mkT 41 [(0, (.int Go.IntKind.i64 x0)), (1, (.int Go.IntKind.i64 x1)), (2, (.int Go.IntKind.i64 x2))]) [])

theorem computuslaw19_ShowSpans_eq (a0_0 : Int) (a0_1 : Int) (a0_2 : Int) (a0_3 : Int) (a1_0 : Int) (a1_1 : Int) (a1_2 : Int) : computuslaw19_ShowSpans a0_0 a0_1 a0_2 a0_3 a1_0 a1_1 a1_2 =
    ((show_Span a0_0 a0_1 a0_2 a0_3 a1_0 a1_1 a1_2).bind fun v1 => ((computusref19_Span a0_0 a0_1 a0_2 a0_3 a1_0 a1_1 a1_2).bind fun v2 => (bif (Dv.eqS (Dv.PV.toS (Dv.PV.tnth v1 0)) (Dv.PV.toS (Dv.PV.tnth v2 0))) then (bif (Dv.eqB (Dv.PV.toI (Dv.PV.tnth v1 1)) (Dv.PV.toI (Dv.PV.tnth v2 1))) then ((computuslaw19_known).bind fun v3 => (some (Dv.PV.bool (Dv.PV.toB v3)))) else (some (Dv.PV.bool Bool.false))) else (some (Dv.PV.bool Bool.false))))) :=
  (callF_eq EE fn_computuslaw19_ShowSpans _ rfl).trans (by kernel_rfl)

theorem show_Span_eq (a0_0 : Int) (a0_1 : Int) (a0_2 : Int) (a0_3 : Int) (a1_0 : Int) (a1_1 : Int) (a1_2 : Int) : show_Span a0_0 a0_1 a0_2 a0_3 a1_0 a1_1 a1_2 =
    ((span_Right a0_0 a0_1 a0_2 a0_3).bind fun v1 => (bif (!(Dv.PV.toB v1)) then (some (Dv.PV.tuple [(Dv.PV.str []), (Dv.PV.int Go.IntKind.i64 (1 : Int))])) else ((show_Right a1_0 a1_1 a1_2).bind fun v2 => (bif (!(Dv.PV.toB v2)) then (some (Dv.PV.tuple [(Dv.PV.str []), (Dv.PV.int Go.IntKind.i64 (1 : Int))])) else (show_Span_c3 a0_0 a0_1 a0_2 a0_3 a1_0 a1_1 a1_2))))) :=
  (callF_eq EE fn_show_Span _ rfl).trans (by kernel_rfl)
theorem show_Span_c3_eq (x0 : Int) (x1 : Int) (x2 : Int) (x3 : Int) (x4 : Int) (x5 : Int) (x6 : Int) : show_Span_c3 x0 x1 x2 x3 x4 x5 x6 =
    (bif (!(Dv.eqB x0 (0 : Int))) then ((show_infinite x0).bind fun v3 => (some (Dv.PV.tuple [(Dv.PV.str (Dv.PV.toS v3)), (Dv.PV.int Go.IntKind.i64 (0 : Int))]))) else (bif (Dv.eqB x6 (1 : Int)) then ((show_sql x0 x1 x2 x3).bind fun v4 => (some (Dv.PV.tuple [(Dv.PV.str (Dv.PV.toS v4)), (Dv.PV.int Go.IntKind.i64 (0 : Int))]))) else (bif (Dv.eqB x6 (2 : Int)) then ((show_iso x0 x1 x2 x3).bind fun v5 => (some (Dv.PV.tuple [(Dv.PV.str (Dv.PV.toS v5)), (Dv.PV.int Go.IntKind.i64 (0 : Int))]))) else ((show_postgres x0 x1 x2 x3).bind fun v6 => (some (Dv.PV.tuple [(Dv.PV.str (Dv.PV.toS v6)), (Dv.PV.int Go.IntKind.i64 (0 : Int))])))))) :=
  (runW_eq EE _ _).trans (by kernel_rfl)

theorem computusref19_Span_eq (a0_0 : Int) (a0_1 : Int) (a0_2 : Int) (a0_3 : Int) (a1_0 : Int) (a1_1 : Int) (a1_2 : Int) : computusref19_Span a0_0 a0_1 a0_2 a0_3 a1_0 a1_1 a1_2 =
    ((computusref16_Right a0_0 a0_1 a0_2 a0_3).bind fun v1 => (bif (!(Dv.PV.toB v1)) then computusref19_Span_c2 else ((computusref19_Right a1_0 a1_1 a1_2).bind fun v2 => (bif (!(Dv.PV.toB v2)) then computusref19_Span_c2 else (computusref19_Span_c3 a0_0 a0_1 a0_2 a0_3 a1_0 a1_1 a1_2))))) :=
  (callF_eq EE fn_computusref19_Span _ rfl).trans (by kernel_rfl)
theorem computusref19_Span_c2_eq  : computusref19_Span_c2  =
    (some (Dv.PV.tuple [(Dv.PV.str []), (Dv.PV.int Go.IntKind.i64 (1 : Int))])) :=
  (runW_eq EE _ _).trans (by kernel_rfl)
theorem computusref19_Span_c3_eq (x0 : Int) (x1 : Int) (x2 : Int) (x3 : Int) (x4 : Int) (x5 : Int) (x6 : Int) : computusref19_Span_c3 x0 x1 x2 x3 x4 x5 x6 =
    (bif (!(Dv.eqB x0 (0 : Int))) then ((computusref19_inf x0).bind fun v3 => (some (Dv.PV.tuple [(Dv.PV.str (Dv.PV.toS v3)), (Dv.PV.int Go.IntKind.i64 (0 : Int))]))) else (bif (Dv.eqB x6 (1 : Int)) then ((computusref19_sql x0 x1 x2 x3).bind fun v4 => (some (Dv.PV.tuple [(Dv.PV.str (Dv.PV.toS v4)), (Dv.PV.int Go.IntKind.i64 (0 : Int))]))) else (bif (Dv.eqB x6 (2 : Int)) then ((computusref19_iso x0 x1 x2 x3).bind fun v5 => (some (Dv.PV.tuple [(Dv.PV.str (Dv.PV.toS v5)), (Dv.PV.int Go.IntKind.i64 (0 : Int))]))) else ((computusref19_postgres x0 x1 x2 x3).bind fun v6 => (some (Dv.PV.tuple [(Dv.PV.str (Dv.PV.toS v6)), (Dv.PV.int Go.IntKind.i64 (0 : Int))])))))) :=
  (runW_eq EE _ _).trans (by kernel_rfl)

theorem computuslaw19_known_eq  : computuslaw19_known  =
    ((show_Span (0 : Int) (14 : Int) (3 : Int) (-14706500000 : Int) (0 : Int) (0 : Int) (0 : Int)).bind fun v1 => ((show_Span (0 : Int) (14 : Int) (3 : Int) (-14706500000 : Int) (0 : Int) (0 : Int) (1 : Int)).bind fun v2 => ((show_Span (0 : Int) (14 : Int) (3 : Int) (-14706500000 : Int) (0 : Int) (0 : Int) (2 : Int)).bind fun v3 => ((show_Span (0 : Int) (-1 : Int) (1 : Int) (0 : Int) (0 : Int) (0 : Int) (0 : Int)).bind fun v4 => ((show_Date (0 : Int) (8826 : Int) (1 : Int) (1 : Int) (0 : Int)).bind fun v5 => (bif (Dv.eqS (Dv.PV.toS (Dv.PV.tnth v1 0)) [(49 : UInt8), (32 : UInt8), (121 : UInt8), (101 : UInt8), (97 : UInt8), (114 : UInt8), (32 : UInt8), (50 : UInt8), (32 : UInt8), (109 : UInt8), (111 : UInt8), (110 : UInt8), (115 : UInt8), (32 : UInt8), (51 : UInt8), (32 : UInt8), (100 : UInt8), (97 : UInt8), (121 : UInt8), (115 : UInt8), (32 : UInt8), (45 : UInt8), (48 : UInt8), (52 : UInt8), (58 : UInt8), (48 : UInt8), (53 : UInt8), (58 : UInt8), (48 : UInt8), (54 : UInt8), (46 : UInt8), (53 : UInt8)]) then (bif (Dv.eqB (Dv.PV.toI (Dv.PV.tnth v1 1)) (0 : Int)) then (bif (Dv.eqS (Dv.PV.toS (Dv.PV.tnth v2 0)) [(43 : UInt8), (49 : UInt8), (45 : UInt8), (50 : UInt8), (32 : UInt8), (43 : UInt8), (51 : UInt8), (32 : UInt8), (45 : UInt8), (52 : UInt8), (58 : UInt8), (48 : UInt8), (53 : UInt8), (58 : UInt8), (48 : UInt8), (54 : UInt8), (46 : UInt8), (53 : UInt8)]) then (bif (Dv.eqB (Dv.PV.toI (Dv.PV.tnth v2 1)) (0 : Int)) then (bif (Dv.eqS (Dv.PV.toS (Dv.PV.tnth v3 0)) [(80 : UInt8), (49 : UInt8), (89 : UInt8), (50 : UInt8), (77 : UInt8), (51 : UInt8), (68 : UInt8), (84 : UInt8), (45 : UInt8), (52 : UInt8), (72 : UInt8), (45 : UInt8), (53 : UInt8), (77 : UInt8), (45 : UInt8), (54 : UInt8), (46 : UInt8), (53 : UInt8), (83 : UInt8)]) then (bif (Dv.eqB (Dv.PV.toI (Dv.PV.tnth v3 1)) (0 : Int)) then (bif (Dv.eqS (Dv.PV.toS (Dv.PV.tnth v4 0)) [(45 : UInt8), (49 : UInt8), (32 : UInt8), (109 : UInt8), (111 : UInt8), (110 : UInt8), (115 : UInt8), (32 : UInt8), (43 : UInt8), (49 : UInt8), (32 : UInt8), (100 : UInt8), (97 : UInt8), (121 : UInt8)]) then (bif (Dv.eqB (Dv.PV.toI (Dv.PV.tnth v4 1)) (0 : Int)) then (bif (Dv.eqS (Dv.PV.toS (Dv.PV.tnth v5 0)) [(48 : UInt8), (49 : UInt8), (47 : UInt8), (48 : UInt8), (51 : UInt8), (47 : UInt8), (50 : UInt8), (48 : UInt8), (50 : UInt8), (52 : UInt8)]) then (some (Dv.PV.bool (Dv.eqB (Dv.PV.toI (Dv.PV.tnth v5 1)) (0 : Int)))) else (some (Dv.PV.bool Bool.false))) else (some (Dv.PV.bool Bool.false))) else (some (Dv.PV.bool Bool.false))) else (some (Dv.PV.bool Bool.false))) else (some (Dv.PV.bool Bool.false))) else (some (Dv.PV.bool Bool.false))) else (some (Dv.PV.bool Bool.false))) else (some (Dv.PV.bool Bool.false))) else (some (Dv.PV.bool Bool.false)))))))) :=
  (callF_eq EE fn_computuslaw19_known _ rfl).trans (by kernel_rfl)

theorem span_Right_eq (a0_0 : Int) (a0_1 : Int) (a0_2 : Int) (a0_3 : Int) : span_Right a0_0 a0_1 a0_2 a0_3 =
    (bif (!(Dv.eqB a0_0 (0 : Int))) then (bif ((Dv.eqB a0_0 a0_0) && ((Dv.eqB a0_1 (0 : Int)) && ((Dv.eqB a0_2 (0 : Int)) && ((Dv.eqB a0_3 (0 : Int)) && Bool.true)))) then (bif (Dv.leB (-1 : Int) a0_0) then (some (Dv.PV.bool (Dv.leB a0_0 (1 : Int)))) else (some (Dv.PV.bool Bool.false))) else (some (Dv.PV.bool Bool.false))) else ((num_Neg a0_3).bind fun v1 => ((span_within a0_1).bind fun v2 => (bif (Dv.PV.toB v2) then ((span_within a0_2).bind fun v3 => (bif (Dv.PV.toB v3) then (some (Dv.PV.bool (Dv.eqB (Dv.PV.toI (Dv.PV.tnth v1 1)) (0 : Int)))) else (some (Dv.PV.bool Bool.false)))) else (some (Dv.PV.bool Bool.false)))))) :=
  (callF_eq EE fn_span_Right _ rfl).trans (by kernel_rfl)

theorem show_Right_eq (a0_0 : Int) (a0_1 : Int) (a0_2 : Int) : show_Right a0_0 a0_1 a0_2 =
    (bif (Dv.leB (0 : Int) a0_0) then (bif (Dv.leB a0_0 (1 : Int)) then (bif (Dv.leB (0 : Int) a0_1) then (bif (Dv.leB a0_1 (2 : Int)) then (bif (Dv.leB (0 : Int) a0_2) then (some (Dv.PV.bool (Dv.leB a0_2 (2 : Int)))) else (some (Dv.PV.bool Bool.false))) else (some (Dv.PV.bool Bool.false))) else (some (Dv.PV.bool Bool.false))) else (some (Dv.PV.bool Bool.false))) else (some (Dv.PV.bool Bool.false))) :=
  (callF_eq EE fn_show_Right _ rfl).trans (by kernel_rfl)

theorem show_infinite_eq (a0 : Int) : show_infinite a0 =
    (bif (Dv.ltB a0 (0 : Int)) then (some (Dv.PV.str [(45 : UInt8), (105 : UInt8), (110 : UInt8), (102 : UInt8), (105 : UInt8), (110 : UInt8), (105 : UInt8), (116 : UInt8), (121 : UInt8)])) else (some (Dv.PV.str [(105 : UInt8), (110 : UInt8), (102 : UInt8), (105 : UInt8), (110 : UInt8), (105 : UInt8), (116 : UInt8), (121 : UInt8)]))) :=
  (callF_eq EE fn_show_infinite _ rfl).trans (by kernel_rfl)

theorem show_sql_eq (a0_0 : Int) (a0_1 : Int) (a0_2 : Int) (a0_3 : Int) : show_sql a0_0 a0_1 a0_2 a0_3 =
    ((show_signed a0_1).bind fun v7 => ((show_signed a0_2).bind fun v8 => ((show_signed a0_3).bind fun v9 => ((clock_Long (Int.tmod (Dv.PV.toI (Dv.PV.tnth v9 1)) (3600000000 : Int))).bind fun v10 => ((strings_Cut (Dv.PV.toS v10) [(58 : UInt8)]).bind fun v11 => ((show_digits (Go.IntKind.wrap Go.IntKind.i64 (Int.tdiv (Dv.PV.toI (Dv.PV.tnth v7 1)) (12 : Int)))).bind fun v12 => ((show_digits (Int.tmod (Dv.PV.toI (Dv.PV.tnth v7 1)) (12 : Int))).bind fun v13 => ((show_join [(Dv.PV.str (Dv.PV.toS (Dv.PV.tnth v7 0))), (Dv.PV.str (Dv.PV.toS v12)), (Dv.PV.str [(45 : UInt8)]), (Dv.PV.str (Dv.PV.toS v13))]).bind fun v14 => ((show_digits (Dv.PV.toI (Dv.PV.tnth v8 1))).bind fun v15 => ((show_join [(Dv.PV.str (Dv.PV.toS (Dv.PV.tnth v8 0))), (Dv.PV.str (Dv.PV.toS v15))]).bind fun v16 => ((show_digits (Go.IntKind.wrap Go.IntKind.i64 (Int.tdiv (Dv.PV.toI (Dv.PV.tnth v9 1)) (3600000000 : Int)))).bind fun v17 => ((show_join [(Dv.PV.str (Dv.PV.toS (Dv.PV.tnth v9 0))), (Dv.PV.str (Dv.PV.toS v17)), (Dv.PV.str [(58 : UInt8)]), (Dv.PV.str (Dv.PV.toS (Dv.PV.tnth v11 1)))]).bind fun v18 => ((show_between [(32 : UInt8)] [(Dv.PV.str (Dv.PV.toS v14)), (Dv.PV.str (Dv.PV.toS v16)), (Dv.PV.str (Dv.PV.toS v18))]).bind fun v19 => (some (Dv.PV.str (Dv.PV.toS v19)))))))))))))))) :=
  (callF_eq EE fn_show_sql _ rfl).trans (by kernel_rfl)

theorem show_iso_eq (a0_0 : Int) (a0_1 : Int) (a0_2 : Int) (a0_3 : Int) : show_iso a0_0 a0_1 a0_2 a0_3 =
    ((show_letter (Go.IntKind.wrap Go.IntKind.i64 (Int.tdiv a0_1 (12 : Int))) [(89 : UInt8)]).bind fun v7 => ((show_letter (Int.tmod a0_1 (12 : Int)) [(77 : UInt8)]).bind fun v8 => ((show_letter a0_2 [(68 : UInt8)]).bind fun v9 => ((show_join [(Dv.PV.str [(80 : UInt8)]), (Dv.PV.str (Dv.PV.toS v7)), (Dv.PV.str (Dv.PV.toS v8)), (Dv.PV.str (Dv.PV.toS v9))]).bind fun v10 => (bif (!(Dv.eqB a0_3 (0 : Int))) then ((show_letter (Go.IntKind.wrap Go.IntKind.i64 (Int.tdiv a0_3 (3600000000 : Int))) [(72 : UInt8)]).bind fun v11 => ((show_letter (Go.IntKind.wrap Go.IntKind.i64 (Int.tdiv (Int.tmod a0_3 (3600000000 : Int)) (60000000 : Int))) [(77 : UInt8)]).bind fun v12 => ((show_seconds (Int.tmod a0_3 (60000000 : Int))).bind fun v13 => ((show_join [(Dv.PV.str (Dv.PV.toS v10)), (Dv.PV.str [(84 : UInt8)]), (Dv.PV.str (Dv.PV.toS v11)), (Dv.PV.str (Dv.PV.toS v12)), (Dv.PV.str (Dv.PV.toS v13))]).bind fun v14 => (bif (Dv.eqS (Dv.PV.toS v14) [(80 : UInt8)]) then (some (Dv.PV.str [(80 : UInt8), (84 : UInt8), (48 : UInt8), (83 : UInt8)])) else (some (Dv.PV.str (Dv.PV.toS v14)))))))) else (bif (Dv.eqS (Dv.PV.toS v10) [(80 : UInt8)]) then (some (Dv.PV.str [(80 : UInt8), (84 : UInt8), (48 : UInt8), (83 : UInt8)])) else (some (Dv.PV.str (Dv.PV.toS v10))))))))) :=
  (callF_eq EE fn_show_iso _ rfl).trans (by kernel_rfl)

theorem show_postgres_eq (a0_0 : Int) (a0_1 : Int) (a0_2 : Int) (a0_3 : Int) : show_postgres a0_0 a0_1 a0_2 a0_3 =
    (bif (Dv.eqB (Go.IntKind.wrap Go.IntKind.i64 (Int.tdiv a0_1 (12 : Int))) (0 : Int)) then (show_postgres_c3 [] a0_0 a0_1 a0_2 a0_3 (0 : Int)) else (bif (Dv.eqB (Go.IntKind.wrap Go.IntKind.i64 (Int.tdiv a0_1 (12 : Int))) (1 : Int)) then ((show_number (Go.IntKind.wrap Go.IntKind.i64 (Int.tdiv a0_1 (12 : Int)))).bind fun v6 => ((show_join [(Dv.PV.str []), (Dv.PV.str (Dv.PV.toS v6)), (Dv.PV.str [(32 : UInt8)]), (Dv.PV.str [(121 : UInt8), (101 : UInt8), (97 : UInt8), (114 : UInt8)]), (Dv.PV.str [])]).bind fun v7 => (show_postgres_c3 (Dv.PV.toS v7) a0_0 a0_1 a0_2 a0_3 (Go.IntKind.wrap Go.IntKind.i64 (Int.tdiv a0_1 (12 : Int)))))) else ((show_number (Go.IntKind.wrap Go.IntKind.i64 (Int.tdiv a0_1 (12 : Int)))).bind fun v8 => ((show_join [(Dv.PV.str []), (Dv.PV.str (Dv.PV.toS v8)), (Dv.PV.str [(32 : UInt8)]), (Dv.PV.str [(121 : UInt8), (101 : UInt8), (97 : UInt8), (114 : UInt8)]), (Dv.PV.str [(115 : UInt8)])]).bind fun v9 => (show_postgres_c3 (Dv.PV.toS v9) a0_0 a0_1 a0_2 a0_3 (Go.IntKind.wrap Go.IntKind.i64 (Int.tdiv a0_1 (12 : Int)))))))) :=
  (callF_eq EE fn_show_postgres _ rfl).trans (by kernel_rfl)
theorem show_postgres_c3_eq (x0 : List UInt8) (x1 : Int) (x2 : Int) (x3 : Int) (x4 : Int) (x5 : Int) : show_postgres_c3 x0 x1 x2 x3 x4 x5 =
    (bif (Dv.eqB (Int.tmod x2 (12 : Int)) (0 : Int)) then (show_postgres_c4 x0 [] x1 x2 x3 x4 x5) else (bif (Dv.ltB x5 (0 : Int)) then (bif (Dv.ltB (0 : Int) (Int.tmod x2 (12 : Int))) then (bif (Dv.eqB (Int.tmod x2 (12 : Int)) (1 : Int)) then ((show_number (Int.tmod x2 (12 : Int))).bind fun v10 => ((show_join [(Dv.PV.str [(43 : UInt8)]), (Dv.PV.str (Dv.PV.toS v10)), (Dv.PV.str [(32 : UInt8)]), (Dv.PV.str [(109 : UInt8), (111 : UInt8), (110 : UInt8)]), (Dv.PV.str [])]).bind fun v11 => (show_postgres_c4 x0 (Dv.PV.toS v11) x1 x2 x3 x4 (Int.tmod x2 (12 : Int))))) else ((show_number (Int.tmod x2 (12 : Int))).bind fun v12 => ((show_join [(Dv.PV.str [(43 : UInt8)]), (Dv.PV.str (Dv.PV.toS v12)), (Dv.PV.str [(32 : UInt8)]), (Dv.PV.str [(109 : UInt8), (111 : UInt8), (110 : UInt8)]), (Dv.PV.str [(115 : UInt8)])]).bind fun v13 => (show_postgres_c4 x0 (Dv.PV.toS v13) x1 x2 x3 x4 (Int.tmod x2 (12 : Int)))))) else (bif (Dv.eqB (Int.tmod x2 (12 : Int)) (1 : Int)) then ((show_number (Int.tmod x2 (12 : Int))).bind fun v14 => ((show_join [(Dv.PV.str []), (Dv.PV.str (Dv.PV.toS v14)), (Dv.PV.str [(32 : UInt8)]), (Dv.PV.str [(109 : UInt8), (111 : UInt8), (110 : UInt8)]), (Dv.PV.str [])]).bind fun v15 => (show_postgres_c4 x0 (Dv.PV.toS v15) x1 x2 x3 x4 (Int.tmod x2 (12 : Int))))) else ((show_number (Int.tmod x2 (12 : Int))).bind fun v16 => ((show_join [(Dv.PV.str []), (Dv.PV.str (Dv.PV.toS v16)), (Dv.PV.str [(32 : UInt8)]), (Dv.PV.str [(109 : UInt8), (111 : UInt8), (110 : UInt8)]), (Dv.PV.str [(115 : UInt8)])]).bind fun v17 => (show_postgres_c4 x0 (Dv.PV.toS v17) x1 x2 x3 x4 (Int.tmod x2 (12 : Int))))))) else (bif (Dv.eqB (Int.tmod x2 (12 : Int)) (1 : Int)) then ((show_number (Int.tmod x2 (12 : Int))).bind fun v18 => ((show_join [(Dv.PV.str []), (Dv.PV.str (Dv.PV.toS v18)), (Dv.PV.str [(32 : UInt8)]), (Dv.PV.str [(109 : UInt8), (111 : UInt8), (110 : UInt8)]), (Dv.PV.str [])]).bind fun v19 => (show_postgres_c4 x0 (Dv.PV.toS v19) x1 x2 x3 x4 (Int.tmod x2 (12 : Int))))) else ((show_number (Int.tmod x2 (12 : Int))).bind fun v20 => ((show_join [(Dv.PV.str []), (Dv.PV.str (Dv.PV.toS v20)), (Dv.PV.str [(32 : UInt8)]), (Dv.PV.str [(109 : UInt8), (111 : UInt8), (110 : UInt8)]), (Dv.PV.str [(115 : UInt8)])]).bind fun v21 => (show_postgres_c4 x0 (Dv.PV.toS v21) x1 x2 x3 x4 (Int.tmod x2 (12 : Int)))))))) :=
  (runW_eq EE _ _).trans (by kernel_rfl)
theorem show_postgres_c4_eq (x0 : List UInt8) (x1 : List UInt8) (x2 : Int) (x3 : Int) (x4 : Int) (x5 : Int) (x6 : Int) : show_postgres_c4 x0 x1 x2 x3 x4 x5 x6 =
    (bif (Dv.eqB x4 (0 : Int)) then (show_postgres_c5 x0 x1 [] x2 x3 x4 x5 x6) else (bif (Dv.ltB x6 (0 : Int)) then (bif (Dv.ltB (0 : Int) x4) then (bif (Dv.eqB x4 (1 : Int)) then ((show_number x4).bind fun v22 => ((show_join [(Dv.PV.str [(43 : UInt8)]), (Dv.PV.str (Dv.PV.toS v22)), (Dv.PV.str [(32 : UInt8)]), (Dv.PV.str [(100 : UInt8), (97 : UInt8), (121 : UInt8)]), (Dv.PV.str [])]).bind fun v23 => (show_postgres_c5 x0 x1 (Dv.PV.toS v23) x2 x3 x4 x5 x4))) else ((show_number x4).bind fun v24 => ((show_join [(Dv.PV.str [(43 : UInt8)]), (Dv.PV.str (Dv.PV.toS v24)), (Dv.PV.str [(32 : UInt8)]), (Dv.PV.str [(100 : UInt8), (97 : UInt8), (121 : UInt8)]), (Dv.PV.str [(115 : UInt8)])]).bind fun v25 => (show_postgres_c5 x0 x1 (Dv.PV.toS v25) x2 x3 x4 x5 x4)))) else (bif (Dv.eqB x4 (1 : Int)) then ((show_number x4).bind fun v26 => ((show_join [(Dv.PV.str []), (Dv.PV.str (Dv.PV.toS v26)), (Dv.PV.str [(32 : UInt8)]), (Dv.PV.str [(100 : UInt8), (97 : UInt8), (121 : UInt8)]), (Dv.PV.str [])]).bind fun v27 => (show_postgres_c5 x0 x1 (Dv.PV.toS v27) x2 x3 x4 x5 x4))) else ((show_number x4).bind fun v28 => ((show_join [(Dv.PV.str []), (Dv.PV.str (Dv.PV.toS v28)), (Dv.PV.str [(32 : UInt8)]), (Dv.PV.str [(100 : UInt8), (97 : UInt8), (121 : UInt8)]), (Dv.PV.str [(115 : UInt8)])]).bind fun v29 => (show_postgres_c5 x0 x1 (Dv.PV.toS v29) x2 x3 x4 x5 x4))))) else (bif (Dv.eqB x4 (1 : Int)) then ((show_number x4).bind fun v30 => ((show_join [(Dv.PV.str []), (Dv.PV.str (Dv.PV.toS v30)), (Dv.PV.str [(32 : UInt8)]), (Dv.PV.str [(100 : UInt8), (97 : UInt8), (121 : UInt8)]), (Dv.PV.str [])]).bind fun v31 => (show_postgres_c5 x0 x1 (Dv.PV.toS v31) x2 x3 x4 x5 x4))) else ((show_number x4).bind fun v32 => ((show_join [(Dv.PV.str []), (Dv.PV.str (Dv.PV.toS v32)), (Dv.PV.str [(32 : UInt8)]), (Dv.PV.str [(100 : UInt8), (97 : UInt8), (121 : UInt8)]), (Dv.PV.str [(115 : UInt8)])]).bind fun v33 => (show_postgres_c5 x0 x1 (Dv.PV.toS v33) x2 x3 x4 x5 x4)))))) :=
  (runW_eq EE _ _).trans (by kernel_rfl)
theorem show_postgres_c5_eq (x0 : List UInt8) (x1 : List UInt8) (x2 : List UInt8) (x3 : Int) (x4 : Int) (x5 : Int) (x6 : Int) (x7 : Int) : show_postgres_c5 x0 x1 x2 x3 x4 x5 x6 x7 =
    (bif (Dv.ltB (0 : Int) x6) then (bif (Dv.ltB x7 (0 : Int)) then (show_postgres_c7 x0 x1 x2 x3 x4 x5 x6) else (show_postgres_c8 x0 x1 x2 [] x3 x4 x5 x6 x7)) else (show_postgres_c8 x0 x1 x2 [] x3 x4 x5 x6 x7)) :=
  (runW_eq EE _ _).trans (by kernel_rfl)
theorem show_postgres_c7_eq (x0 : List UInt8) (x1 : List UInt8) (x2 : List UInt8) (x3 : Int) (x4 : Int) (x5 : Int) (x6 : Int) : show_postgres_c7 x0 x1 x2 x3 x4 x5 x6 =
    ((clock_Long x6).bind fun v34 => ((show_join [(Dv.PV.str [(43 : UInt8)]), (Dv.PV.str (Dv.PV.toS v34))]).bind fun v35 => ((show_between [(32 : UInt8)] [(Dv.PV.str x0), (Dv.PV.str x1), (Dv.PV.str x2), (Dv.PV.str (Dv.PV.toS v35))]).bind fun v36 => (some (Dv.PV.str (Dv.PV.toS v36)))))) :=
  (runW_eq EE _ _).trans (by kernel_rfl)
theorem show_postgres_c8_eq (x0 : List UInt8) (x1 : List UInt8) (x2 : List UInt8) (x3 : List UInt8) (x4 : Int) (x5 : Int) (x6 : Int) (x7 : Int) (x8 : Int) : show_postgres_c8 x0 x1 x2 x3 x4 x5 x6 x7 x8 =
    (bif (!(Dv.eqB x7 (0 : Int))) then ((clock_Long x7).bind fun v37 => ((show_between [(32 : UInt8)] [(Dv.PV.str x0), (Dv.PV.str x1), (Dv.PV.str x2), (Dv.PV.str (Dv.PV.toS v37))]).bind fun v38 => (some (Dv.PV.str (Dv.PV.toS v38))))) else (bif (Dv.eqB x8 (0 : Int)) then ((clock_Long x7).bind fun v39 => ((show_between [(32 : UInt8)] [(Dv.PV.str x0), (Dv.PV.str x1), (Dv.PV.str x2), (Dv.PV.str (Dv.PV.toS v39))]).bind fun v40 => (some (Dv.PV.str (Dv.PV.toS v40))))) else ((show_between [(32 : UInt8)] [(Dv.PV.str x0), (Dv.PV.str x1), (Dv.PV.str x2), (Dv.PV.str x3)]).bind fun v41 => (some (Dv.PV.str (Dv.PV.toS v41)))))) :=
  (runW_eq EE _ _).trans (by kernel_rfl)

theorem computusref16_Right_eq (a0_0 : Int) (a0_1 : Int) (a0_2 : Int) (a0_3 : Int) : computusref16_Right a0_0 a0_1 a0_2 a0_3 =
    (bif (!(Dv.eqB a0_0 (0 : Int))) then (bif (Dv.eqB a0_0 (-1 : Int)) then (bif (Dv.eqB a0_1 (0 : Int)) then (bif (Dv.eqB a0_2 (0 : Int)) then (some (Dv.PV.bool (Dv.eqB a0_3 (0 : Int)))) else (some (Dv.PV.bool Bool.false))) else (some (Dv.PV.bool Bool.false))) else (bif (Dv.eqB a0_0 (1 : Int)) then (bif (Dv.eqB a0_1 (0 : Int)) then (bif (Dv.eqB a0_2 (0 : Int)) then (some (Dv.PV.bool (Dv.eqB a0_3 (0 : Int)))) else (some (Dv.PV.bool Bool.false))) else (some (Dv.PV.bool Bool.false))) else (some (Dv.PV.bool Bool.false)))) else ((computusref16_within a0_1 (2147483647 : Int)).bind fun v4 => (bif (Dv.PV.toB v4) then ((computusref16_within a0_2 (2147483647 : Int)).bind fun v5 => (bif (Dv.PV.toB v5) then ((computusref16_within a0_3 (9223372036854775807 : Int)).bind fun v6 => (some (Dv.PV.bool (Dv.PV.toB v6)))) else (some (Dv.PV.bool Bool.false)))) else (some (Dv.PV.bool Bool.false))))) :=
  (callF_eq EE fn_computusref16_Right _ rfl).trans (by kernel_rfl)

theorem computusref19_Right_eq (a0_0 : Int) (a0_1 : Int) (a0_2 : Int) : computusref19_Right a0_0 a0_1 a0_2 =
    (bif (Dv.leB (0 : Int) a0_0) then (bif (Dv.leB a0_0 (1 : Int)) then (bif (Dv.leB (0 : Int) a0_1) then (bif (Dv.leB a0_1 (2 : Int)) then (bif (Dv.leB (0 : Int) a0_2) then (some (Dv.PV.bool (Dv.leB a0_2 (2 : Int)))) else (some (Dv.PV.bool Bool.false))) else (some (Dv.PV.bool Bool.false))) else (some (Dv.PV.bool Bool.false))) else (some (Dv.PV.bool Bool.false))) else (some (Dv.PV.bool Bool.false))) :=
  (callF_eq EE fn_computusref19_Right _ rfl).trans (by kernel_rfl)

theorem computusref19_inf_eq (a0 : Int) : computusref19_inf a0 =
    (bif (Dv.ltB a0 (0 : Int)) then (some (Dv.PV.str [(45 : UInt8), (105 : UInt8), (110 : UInt8), (102 : UInt8), (105 : UInt8), (110 : UInt8), (105 : UInt8), (116 : UInt8), (121 : UInt8)])) else (bif (Dv.ltB (0 : Int) a0) then (some (Dv.PV.str [(105 : UInt8), (110 : UInt8), (102 : UInt8), (105 : UInt8), (110 : UInt8), (105 : UInt8), (116 : UInt8), (121 : UInt8)])) else (some (Dv.PV.str [])))) :=
  (callF_eq EE fn_computusref19_inf _ rfl).trans (by kernel_rfl)

theorem computusref19_sql_eq (a0_0 : Int) (a0_1 : Int) (a0_2 : Int) (a0_3 : Int) : computusref19_sql a0_0 a0_1 a0_2 a0_3 =
    ((computusref19_size a0_1).bind fun v20 => ((computusref19_size a0_2).bind fun v21 => ((computusref19_size a0_3).bind fun v22 => ((computusref03_Digits (Go.IntKind.wrap Go.IntKind.i64 (Int.tdiv (Dv.PV.toI (Dv.PV.tnth v20 0)) (12 : Int)))).bind fun v23 => ((Dv.catS (Dv.PV.toS (Dv.PV.tnth v20 1)) (Dv.PV.toS v23)).bind fun v24 => ((Dv.catS v24 [(45 : UInt8)]).bind fun v25 => ((computusref03_Digits (Int.tmod (Dv.PV.toI (Dv.PV.tnth v20 0)) (12 : Int))).bind fun v26 => ((Dv.catS v25 (Dv.PV.toS v26)).bind fun v27 => ((Dv.catS v27 [(32 : UInt8)]).bind fun v28 => ((Dv.catS v28 (Dv.PV.toS (Dv.PV.tnth v21 1))).bind fun v29 => ((computusref03_Digits (Dv.PV.toI (Dv.PV.tnth v21 0))).bind fun v30 => ((Dv.catS v29 (Dv.PV.toS v30)).bind fun v31 => ((Dv.catS v31 [(32 : UInt8)]).bind fun v32 => ((Dv.catS v32 (Dv.PV.toS (Dv.PV.tnth v22 1))).bind fun v33 => ((computusref03_Digits (Go.IntKind.wrap Go.IntKind.i64 (Int.tdiv (Go.IntKind.wrap Go.IntKind.i64 (Int.tdiv (Dv.PV.toI (Dv.PV.tnth v22 0)) (1000000 : Int))) (3600 : Int)))).bind fun v34 => ((Dv.catS v33 (Dv.PV.toS v34)).bind fun v35 => ((Dv.catS v35 [(58 : UInt8)]).bind fun v36 => ((computusref03_Two (Int.tmod (Go.IntKind.wrap Go.IntKind.i64 (Int.tdiv (Go.IntKind.wrap Go.IntKind.i64 (Int.tdiv (Dv.PV.toI (Dv.PV.tnth v22 0)) (1000000 : Int))) (60 : Int))) (60 : Int))).bind fun v37 => ((Dv.catS v36 (Dv.PV.toS v37)).bind fun v38 => ((Dv.catS v38 [(58 : UInt8)]).bind fun v39 => ((computusref03_Two (Int.tmod (Go.IntKind.wrap Go.IntKind.i64 (Int.tdiv (Dv.PV.toI (Dv.PV.tnth v22 0)) (1000000 : Int))) (60 : Int))).bind fun v40 => ((Dv.catS v39 (Dv.PV.toS v40)).bind fun v41 => ((computusref03_Fraction (Int.tmod (Dv.PV.toI (Dv.PV.tnth v22 0)) (1000000 : Int))).bind fun v42 => ((Dv.catS v41 (Dv.PV.toS v42)).bind fun v43 => (some (Dv.PV.str v43)))))))))))))))))))))))))) :=
  (callF_eq EE fn_computusref19_sql _ rfl).trans (by kernel_rfl)

theorem computusref19_iso_eq (a0_0 : Int) (a0_1 : Int) (a0_2 : Int) (a0_3 : Int) : computusref19_iso a0_0 a0_1 a0_2 a0_3 =
    ((computusref19_part (Go.IntKind.wrap Go.IntKind.i64 (Int.tdiv a0_1 (12 : Int))) [(89 : UInt8)]).bind fun v15 => ((Dv.catS [(80 : UInt8)] (Dv.PV.toS v15)).bind fun v16 => ((computusref19_part (Int.tmod a0_1 (12 : Int)) [(77 : UInt8)]).bind fun v17 => ((Dv.catS v16 (Dv.PV.toS v17)).bind fun v18 => ((computusref19_part a0_2 [(68 : UInt8)]).bind fun v19 => ((Dv.catS v18 (Dv.PV.toS v19)).bind fun v20 => (bif (!(Dv.eqB a0_3 (0 : Int))) then ((Dv.catS v20 [(84 : UInt8)]).bind fun v21 => ((computusref19_part (Go.IntKind.wrap Go.IntKind.i64 (Int.tdiv (Go.IntKind.wrap Go.IntKind.i64 (Int.tdiv a0_3 (1000000 : Int))) (3600 : Int))) [(72 : UInt8)]).bind fun v22 => ((Dv.catS v21 (Dv.PV.toS v22)).bind fun v23 => ((computusref19_part (Int.tmod (Go.IntKind.wrap Go.IntKind.i64 (Int.tdiv (Go.IntKind.wrap Go.IntKind.i64 (Int.tdiv a0_3 (1000000 : Int))) (60 : Int))) (60 : Int)) [(77 : UInt8)]).bind fun v24 => ((Dv.catS v23 (Dv.PV.toS v24)).bind fun v25 => ((computusref19_size (Int.tmod a0_3 (60000000 : Int))).bind fun v26 => (bif (!(Dv.eqB (Dv.PV.toI (Dv.PV.tnth v26 0)) (0 : Int))) then (bif (Dv.eqS (Dv.PV.toS (Dv.PV.tnth v26 1)) [(45 : UInt8)]) then ((Dv.catS v25 (Dv.PV.toS (Dv.PV.tnth v26 1))).bind fun v27 => (computusref19_iso_c8 v27 (Dv.PV.toI (Dv.PV.tnth v26 0)))) else (computusref19_iso_c8 v25 (Dv.PV.toI (Dv.PV.tnth v26 0)))) else (bif (Dv.eqS v25 [(80 : UInt8)]) then (some (Dv.PV.str [(80 : UInt8), (84 : UInt8), (48 : UInt8), (83 : UInt8)])) else (some (Dv.PV.str v25)))))))))) else (bif (Dv.eqS v20 [(80 : UInt8)]) then (some (Dv.PV.str [(80 : UInt8), (84 : UInt8), (48 : UInt8), (83 : UInt8)])) else (some (Dv.PV.str v20)))))))))) :=
  (callF_eq EE fn_computusref19_iso _ rfl).trans (by kernel_rfl)
theorem computusref19_iso_c8_eq (x0 : List UInt8) (x1 : Int) : computusref19_iso_c8 x0 x1 =
    ((computusref03_Digits (Go.IntKind.wrap Go.IntKind.i64 (Int.tdiv x1 (1000000 : Int)))).bind fun v28 => ((Dv.catS x0 (Dv.PV.toS v28)).bind fun v29 => ((computusref03_Fraction (Int.tmod x1 (1000000 : Int))).bind fun v30 => ((Dv.catS v29 (Dv.PV.toS v30)).bind fun v31 => ((Dv.catS v31 [(83 : UInt8)]).bind fun v32 => (bif (Dv.eqS v32 [(80 : UInt8)]) then (some (Dv.PV.str [(80 : UInt8), (84 : UInt8), (48 : UInt8), (83 : UInt8)])) else (some (Dv.PV.str v32)))))))) :=
  (runW_eq EE _ _).trans (by kernel_rfl)

theorem computusref19_postgres_eq (a0_0 : Int) (a0_1 : Int) (a0_2 : Int) (a0_3 : Int) : computusref19_postgres a0_0 a0_1 a0_2 a0_3 =
    (computusref19_postgres_c6 [] (0 : Int) (0 : Int) a0_0 a0_1 a0_2 a0_3 [(Dv.PV.int Go.IntKind.i64 (Go.IntKind.wrap Go.IntKind.i64 (Int.tdiv a0_1 (12 : Int)))), (Dv.PV.int Go.IntKind.i64 (Int.tmod a0_1 (12 : Int))), (Dv.PV.int Go.IntKind.i64 a0_2)] 3 [(Dv.PV.str [(121 : UInt8), (101 : UInt8), (97 : UInt8), (114 : UInt8)]), (Dv.PV.str [(109 : UInt8), (111 : UInt8), (110 : UInt8)]), (Dv.PV.str [(100 : UInt8), (97 : UInt8), (121 : UInt8)])] 3) :=
  (callF_eq EE fn_computusref19_postgres _ rfl).trans (by kernel_rfl)
theorem computusref19_postgres_c6_eq (x0 : List UInt8) (x1 : Int) (x2 : Int) (x3 : Int) (x4 : Int) (x5 : Int) (x6 : Int) (x7 : List PV) (x8 : Nat) (x9 : List PV) (x10 : Nat) : computusref19_postgres_c6 x0 x1 x2 x3 x4 x5 x6 x7 x8 x9 x10 =
    (bif (Dv.ltB x2 (3 : Int)) then (bif (Dv.inB (0 : Int) x2 (((List.length x7) : Nat) : Int)) then ((Dv.rdT (Dv.tiInt Go.IntKind.i64) x7 (Int.toNat x2) 0).bind fun v42 => (bif (Dv.eqB (Dv.PV.toI v42) (0 : Int)) then (computusref19_postgres_c7 x0 x1 x2 x3 x4 x5 x6 x7 x8 x9 x10) else (bif (!(Dv.eqS x0 [])) then ((Dv.catS x0 [(32 : UInt8)]).bind fun v43 => (computusref19_postgres_c11 v43 x1 x2 x3 x4 x5 x6 x7 x8 x9 x10)) else (computusref19_postgres_c11 x0 x1 x2 x3 x4 x5 x6 x7 x8 x9 x10)))) else none) else (bif (Dv.eqB x6 (0 : Int)) then (bif (!(Dv.eqS x0 [])) then (computusref19_postgres_c14 x0) else (computusref19_postgres_c15 x0 x1 x3 x4 x5 x6)) else (computusref19_postgres_c15 x0 x1 x3 x4 x5 x6))) :=
  (runW_eq EE _ _).trans (by kernel_rfl)
theorem computusref19_postgres_c7_eq (x0 : List UInt8) (x1 : Int) (x2 : Int) (x3 : Int) (x4 : Int) (x5 : Int) (x6 : Int) (x7 : List PV) (x8 : Nat) (x9 : List PV) (x10 : Nat) : computusref19_postgres_c7 x0 x1 x2 x3 x4 x5 x6 x7 x8 x9 x10 =
    (computusref19_postgres_c6 x0 x1 (Go.IntKind.wrap Go.IntKind.i64 (x2 + (1 : Int))) x3 x4 x5 x6 x7 x8 x9 x10) :=
  (runW_eq EE _ _).trans (by kernel_rfl)
theorem computusref19_postgres_c11_eq (x0 : List UInt8) (x1 : Int) (x2 : Int) (x3 : Int) (x4 : Int) (x5 : Int) (x6 : Int) (x7 : List PV) (x8 : Nat) (x9 : List PV) (x10 : Nat) : computusref19_postgres_c11 x0 x1 x2 x3 x4 x5 x6 x7 x8 x9 x10 =
    (bif (Dv.inB (0 : Int) x2 (((List.length x7) : Nat) : Int)) then ((Dv.rdT (Dv.tiInt Go.IntKind.i64) x7 (Int.toNat x2) 0).bind fun v44 => (bif (Dv.inB (0 : Int) x2 (((List.length x9) : Nat) : Int)) then ((Dv.rdT Dv.tiStr x9 (Int.toNat x2) 0).bind fun v45 => ((computusref19_unit (Dv.PV.toI v44) (Dv.PV.toS v45) x1).bind fun v46 => ((Dv.catS x0 (Dv.PV.toS v46)).bind fun v47 => (bif (Dv.inB (0 : Int) x2 (((List.length x7) : Nat) : Int)) then ((Dv.rdT (Dv.tiInt Go.IntKind.i64) x7 (Int.toNat x2) 0).bind fun v48 => (computusref19_postgres_c7 v47 (Dv.PV.toI v48) x2 x3 x4 x5 x6 x7 x8 x9 x10)) else none)))) else none)) else none) :=
  (runW_eq EE _ _).trans (by kernel_rfl)
theorem computusref19_postgres_c14_eq (x0 : List UInt8) : computusref19_postgres_c14 x0 =
    (some (Dv.PV.str x0)) :=
  (runW_eq EE _ _).trans (by kernel_rfl)
theorem computusref19_postgres_c15_eq (x0 : List UInt8) (x1 : Int) (x2 : Int) (x3 : Int) (x4 : Int) (x5 : Int) : computusref19_postgres_c15 x0 x1 x2 x3 x4 x5 =
    (bif (!(Dv.eqS x0 [])) then ((Dv.catS x0 [(32 : UInt8)]).bind fun v49 => (computusref19_postgres_c17 v49 x1 x2 x3 x4 x5)) else (computusref19_postgres_c17 x0 x1 x2 x3 x4 x5)) :=
  (runW_eq EE _ _).trans (by kernel_rfl)
theorem computusref19_postgres_c17_eq (x0 : List UInt8) (x1 : Int) (x2 : Int) (x3 : Int) (x4 : Int) (x5 : Int) : computusref19_postgres_c17 x0 x1 x2 x3 x4 x5 =
    (bif (Dv.ltB x1 (0 : Int)) then (bif (Dv.ltB (0 : Int) x5) then ((Dv.catS x0 [(43 : UInt8)]).bind fun v50 => ((computusref03_Long x5).bind fun v51 => ((Dv.catS v50 (Dv.PV.toS v51)).bind fun v52 => (some (Dv.PV.str v52))))) else ((computusref03_Long x5).bind fun v53 => ((Dv.catS x0 (Dv.PV.toS v53)).bind fun v54 => (some (Dv.PV.str v54))))) else ((computusref03_Long x5).bind fun v55 => ((Dv.catS x0 (Dv.PV.toS v55)).bind fun v56 => (some (Dv.PV.str v56))))) :=
  (runW_eq EE _ _).trans (by kernel_rfl)

theorem show_Date_eq (a0_0 : Int) (a0_1 : Int) (a1_0 : Int) (a1_1 : Int) (a1_2 : Int) : show_Date a0_0 a0_1 a1_0 a1_1 a1_2 =
    ((day_Right a0_0 a0_1).bind fun v7 => (bif (!(Dv.PV.toB v7)) then show_Date_c2 else ((show_Right a1_0 a1_1 a1_2).bind fun v8 => (bif (!(Dv.PV.toB v8)) then show_Date_c2 else (show_Date_c3 a0_0 a0_1 a1_0 a1_1 a1_2))))) :=
  (callF_eq EE fn_show_Date _ rfl).trans (by kernel_rfl)
theorem show_Date_c2_eq  : show_Date_c2  =
    (some (Dv.PV.tuple [(Dv.PV.str []), (Dv.PV.int Go.IntKind.i64 (1 : Int))])) :=
  (runW_eq EE _ _).trans (by kernel_rfl)
theorem show_Date_c3_eq (x0 : Int) (x1 : Int) (x2 : Int) (x3 : Int) (x4 : Int) : show_Date_c3 x0 x1 x2 x3 x4 =
    (bif (!(Dv.eqB x0 (0 : Int))) then ((show_infinite x0).bind fun v9 => (some (Dv.PV.tuple [(Dv.PV.str (Dv.PV.toS v9)), (Dv.PV.int Go.IntKind.i64 (0 : Int))]))) else ((show_date x0 x1 x2 x3 x4).bind fun v10 => ((show_join [(Dv.PV.str (Dv.PV.toS (Dv.PV.tnth v10 0))), (Dv.PV.str (Dv.PV.toS (Dv.PV.tnth v10 1)))]).bind fun v11 => (some (Dv.PV.tuple [(Dv.PV.str (Dv.PV.toS v11)), (Dv.PV.int Go.IntKind.i64 (0 : Int))]))))) :=
  (runW_eq EE _ _).trans (by kernel_rfl)

theorem num_Neg_eq (a0 : Int) : num_Neg a0 =
    ((num_Sub (0 : Int) a0).bind fun v1 => (some (Dv.PV.tuple [(Dv.PV.int Go.IntKind.i64 (Dv.PV.toI (Dv.PV.tnth v1 0))), (Dv.PV.int Go.IntKind.i64 (Dv.PV.toI (Dv.PV.tnth v1 1)))]))) :=
  (callF_eq EE fn_num_Neg _ rfl).trans (by kernel_rfl)

theorem span_within_eq (a0 : Int) : span_within a0 =
    (bif (Dv.leB (-2147483647 : Int) a0) then (some (Dv.PV.bool (Dv.leB a0 (2147483647 : Int)))) else (some (Dv.PV.bool Bool.false))) :=
  (callF_eq EE fn_span_within _ rfl).trans (by kernel_rfl)

theorem show_signed_eq (a0 : Int) : show_signed a0 =
    (bif (Dv.ltB a0 (0 : Int)) then (some (Dv.PV.tuple [(Dv.PV.str [(45 : UInt8)]), (Dv.PV.int Go.IntKind.i64 (Go.IntKind.wrap Go.IntKind.i64 ((0 : Int) - a0)))])) else (some (Dv.PV.tuple [(Dv.PV.str [(43 : UInt8)]), (Dv.PV.int Go.IntKind.i64 a0)]))) :=
  (callF_eq EE fn_show_signed _ rfl).trans (by kernel_rfl)

theorem strings_Cut_eq (a0 : List UInt8) (a1 : List UInt8) : strings_Cut a0 a1 =
    ((stringslite_Cut a0 a1).bind fun v33 => (some (Dv.PV.tuple [(Dv.PV.str (Dv.PV.toS (Dv.PV.tnth v33 0))), (Dv.PV.str (Dv.PV.toS (Dv.PV.tnth v33 1))), (Dv.PV.bool (Dv.PV.toB (Dv.PV.tnth v33 2)))]))) :=
  (callF_eq EE fn_strings_Cut _ rfl).trans (by kernel_rfl)

theorem clock_Long_eq (a0 : Int) : clock_Long a0 =
    (bif (Dv.ltB a0 (0 : Int)) then ((clock_text (Go.IntKind.wrap Go.IntKind.u64 ((0 : Int) - (Go.IntKind.wrap Go.IntKind.u64 a0)))).bind fun v57 => ((Dv.catS [(45 : UInt8)] (Dv.PV.toS v57)).bind fun v58 => (some (Dv.PV.str v58)))) else ((clock_text (Go.IntKind.wrap Go.IntKind.u64 a0)).bind fun v59 => (some (Dv.PV.str (Dv.PV.toS v59))))) :=
  (callF_eq EE fn_clock_Long _ rfl).trans (by kernel_rfl)

theorem show_between_eq (a0 : List UInt8) (a1 : List PV) : show_between a0 a1 =
    (show_between_c3 a0 a1 (((List.length a1) : Nat) : Int) (0 : Int) []) :=
  (callF_eq EE fn_show_between _ rfl).trans (by kernel_rfl)
theorem show_between_c3_eq (x0 : List UInt8) (x1 : List PV) (x2 : Int) (x3 : Int) (x4 : List PV) : show_between_c3 x0 x1 x2 x3 x4 =
    (bif (Dv.ltB x3 x2) then ((Dv.rdI Dv.tiStr x1 x3).bind fun v12 => (bif (!(Dv.eqS (Dv.PV.toS v12) [])) then ((Dv.appL 16 x4 [(Dv.PV.str (Dv.PV.toS v12))]).bind fun v13 => (show_between_c3 x0 x1 x2 (Go.IntKind.wrap Go.IntKind.i64 (x3 + (1 : Int))) v13)) else (show_between_c3 x0 x1 x2 (Go.IntKind.wrap Go.IntKind.i64 (x3 + (1 : Int))) x4))) else ((strings_Join x4 x0).bind fun v14 => (some (Dv.PV.str (Dv.PV.toS v14))))) :=
  (runW_eq EE _ _).trans (by kernel_rfl)

theorem show_join_eq (a0 : List PV) : show_join a0 =
    (show_join_c3 a0 (((List.length a0) : Nat) : Int) (0 : Int) []) :=
  (callF_eq EE fn_show_join _ rfl).trans (by kernel_rfl)
theorem show_join_c3_eq (x0 : List PV) (x1 : Int) (x2 : Int) (x3 : List PV) : show_join_c3 x0 x1 x2 x3 =
    (bif (Dv.ltB x2 x1) then ((Dv.rdI Dv.tiStr x0 x2).bind fun v2 => (bif (decide (((0 : Int) ≤ (((List.length x3) : Nat) : Int)) ∧ (((((List.length x3) : Nat) : Int) ≤ (((List.length x3) : Nat) : Int)) ∧ ((((List.length x3) : Nat) : Int) ≤ (((List.length x3) : Nat) : Int))))) then ((Dv.appL 1 (List.take (Int.toNat (((List.length x3) : Nat) : Int)) x3) (List.map Dv.byteV (Dv.PV.toS v2))).bind fun v3 => (show_join_c3 x0 x1 (Go.IntKind.wrap Go.IntKind.i64 (x2 + (1 : Int))) v3)) else none)) else ((Dv.bytesOf x3).bind fun v4 => (some (Dv.PV.str v4)))) :=
  (runW_eq EE _ _).trans (by kernel_rfl)

theorem show_digits_eq (a0 : Int) : show_digits a0 =
    (bif (Dv.ltB a0 (10 : Int)) then ((clock_Two a0).bind fun v4 => ((Dv.dropS (Dv.PV.toS v4) (1 : Int)).bind fun v5 => (some (Dv.PV.str v5)))) else ((clock_Two a0).bind fun v6 => (some (Dv.PV.str (Dv.PV.toS v6))))) :=
  (callF_eq EE fn_show_digits _ rfl).trans (by kernel_rfl)

theorem show_letter_eq (a0 : Int) (a1 : List UInt8) : show_letter a0 a1 =
    (bif (Dv.eqB a0 (0 : Int)) then (some (Dv.PV.str [])) else ((show_number a0).bind fun v44 => ((show_join [(Dv.PV.str (Dv.PV.toS v44)), (Dv.PV.str a1)]).bind fun v45 => (some (Dv.PV.str (Dv.PV.toS v45)))))) :=
  (callF_eq EE fn_show_letter _ rfl).trans (by kernel_rfl)

theorem show_seconds_eq (a0 : Int) : show_seconds a0 =
    (bif (Dv.eqB a0 (0 : Int)) then (some (Dv.PV.str [])) else ((show_signed a0).bind fun v34 => ((strings_TrimPrefix (Dv.PV.toS (Dv.PV.tnth v34 0)) [(43 : UInt8)]).bind fun v35 => ((show_digits (Go.IntKind.wrap Go.IntKind.i64 (Int.tdiv (Dv.PV.toI (Dv.PV.tnth v34 1)) (1000000 : Int)))).bind fun v36 => ((clock_Fraction (Int.tmod (Dv.PV.toI (Dv.PV.tnth v34 1)) (1000000 : Int))).bind fun v37 => ((show_join [(Dv.PV.str (Dv.PV.toS v35)), (Dv.PV.str (Dv.PV.toS v36)), (Dv.PV.str (Dv.PV.toS v37)), (Dv.PV.str [(83 : UInt8)])]).bind fun v38 => (some (Dv.PV.str (Dv.PV.toS v38))))))))) :=
  (callF_eq EE fn_show_seconds _ rfl).trans (by kernel_rfl)

theorem show_unit_eq (a0 : Int) (a1 : List UInt8) (a2 : PV) : show_unit a0 a1 a2 =
    (bif ((Dv.okOther a2) && Bool.true) then (bif (Dv.eqB a0 (0 : Int)) then (some (Dv.PV.str [])) else ((Dv.PV.refR a2).bind fun v60 => ((Dv.rdP (Dv.tiInt Go.IntKind.i64) a2 0).bind fun v61 => (bif (Dv.ltB (Dv.PV.toI v61) (0 : Int)) then (bif (Dv.ltB (0 : Int) a0) then (show_unit_c5 a0 a1 a2 [(115 : UInt8)]) else (show_unit_c6 a0 a1 a2 [] [(115 : UInt8)])) else (show_unit_c6 a0 a1 a2 [] [(115 : UInt8)]))))) else none) :=
  (callF_eq EE fn_show_unit _ rfl).trans (by kernel_rfl)
theorem show_unit_c5_eq (x0 : Int) (x1 : List UInt8) (x2 : PV) (x3 : List UInt8) : show_unit_c5 x0 x1 x2 x3 =
    (show_unit_c6 x0 x1 x2 [(43 : UInt8)] x3) :=
  (runW_eq EE _ _).trans (by kernel_rfl)
theorem show_unit_c6_eq (x0 : Int) (x1 : List UInt8) (x2 : PV) (x3 : List UInt8) (x4 : List UInt8) : show_unit_c6 x0 x1 x2 x3 x4 =
    (bif (Dv.eqB x0 (1 : Int)) then ((Dv.PV.refR x2).bind fun v62 => none) else ((Dv.PV.refR x2).bind fun v63 => none)) :=
  (runW_eq EE _ _).trans (by kernel_rfl)

theorem computusref16_within_eq (a0 : Int) (a1 : Int) : computusref16_within a0 a1 =
    (bif (Dv.leB (Go.IntKind.wrap Go.IntKind.i64 ((0 : Int) - a1)) a0) then (some (Dv.PV.bool (Dv.leB a0 a1))) else (some (Dv.PV.bool Bool.false))) :=
  (callF_eq EE fn_computusref16_within _ rfl).trans (by kernel_rfl)

theorem computusref19_size_eq (a0 : Int) : computusref19_size a0 =
    (bif (Dv.ltB a0 (0 : Int)) then (some (Dv.PV.tuple [(Dv.PV.int Go.IntKind.i64 (Go.IntKind.wrap Go.IntKind.i64 ((0 : Int) - a0))), (Dv.PV.str [(45 : UInt8)])])) else (some (Dv.PV.tuple [(Dv.PV.int Go.IntKind.i64 a0), (Dv.PV.str [(43 : UInt8)])]))) :=
  (callF_eq EE fn_computusref19_size _ rfl).trans (by kernel_rfl)

theorem computusref03_Digits_eq (a0 : Int) : computusref03_Digits a0 =
    (bif (Dv.ltB a0 (0 : Int)) then (computusref03_Digits_c4 a0 (Go.IntKind.wrap Go.IntKind.u64 ((0 : Int) - (Go.IntKind.wrap Go.IntKind.u64 a0)))) else (computusref03_Digits_c4 a0 (Go.IntKind.wrap Go.IntKind.u64 a0))) :=
  (callF_eq EE fn_computusref03_Digits _ rfl).trans (by kernel_rfl)
theorem computusref03_Digits_c4_eq (x0 : Int) (x1 : Int) : computusref03_Digits_c4 x0 x1 =
    (computusref03_Digits_c5 x0 x1 []) :=
  (runW_eq EE _ _).trans (by kernel_rfl)
theorem computusref03_Digits_c5_eq (x0 : Int) (x1 : Int) (x2 : List PV) : computusref03_Digits_c5 x0 x1 x2 =
    (bif (Dv.leB (10 : Int) x1) then ((Dv.appL 1 x2 [(Dv.PV.int Go.IntKind.u8 (Go.IntKind.wrap Go.IntKind.u8 (Go.IntKind.wrap Go.IntKind.u64 ((48 : Int) + (Int.tmod x1 (10 : Int))))))]).bind fun v7 => (computusref03_Digits_c5 x0 (Go.IntKind.wrap Go.IntKind.u64 (Int.tdiv x1 (10 : Int))) v7)) else ((Dv.appL 1 x2 [(Dv.PV.int Go.IntKind.u8 (Go.IntKind.wrap Go.IntKind.u8 (Go.IntKind.wrap Go.IntKind.u64 ((48 : Int) + x1))))]).bind fun v8 => (bif (Dv.ltB x0 (0 : Int)) then ((Dv.appL 1 v8 [(Dv.PV.int Go.IntKind.u8 (45 : Int))]).bind fun v9 => (computusref03_Digits_c11 v9)) else (computusref03_Digits_c11 v8)))) :=
  (runW_eq EE _ _).trans (by kernel_rfl)
theorem computusref03_Digits_c11_eq (x0 : List PV) : computusref03_Digits_c11 x0 =
    (computusref03_Digits_c13 (Go.IntKind.wrap Go.IntKind.i64 ((((List.length x0) : Nat) : Int) - (1 : Int))) x0 []) :=
  (runW_eq EE _ _).trans (by kernel_rfl)
theorem computusref03_Digits_c13_eq (x0 : Int) (x1 : List PV) (x2 : List PV) : computusref03_Digits_c13 x0 x1 x2 =
    (bif (Dv.leB (0 : Int) x0) then (bif (Dv.inB (0 : Int) x0 (((List.length x1) : Nat) : Int)) then ((Dv.rdT (Dv.tiInt Go.IntKind.u8) x1 (Int.toNat x0) 0).bind fun v10 => ((Dv.appL 1 x2 [(Dv.PV.int Go.IntKind.u8 (Dv.PV.toI v10))]).bind fun v11 => (computusref03_Digits_c13 (Go.IntKind.wrap Go.IntKind.i64 (x0 - (1 : Int))) x1 v11))) else none) else ((Dv.bytesOf x2).bind fun v12 => (some (Dv.PV.str v12)))) :=
  (runW_eq EE _ _).trans (by kernel_rfl)

theorem computusref03_Two_eq (a0 : Int) : computusref03_Two a0 =
    (bif (Dv.leB (0 : Int) a0) then (bif (Dv.ltB a0 (10 : Int)) then (computusref03_Two_c2 a0) else (computusref03_Two_c3 a0)) else (computusref03_Two_c3 a0)) :=
  (callF_eq EE fn_computusref03_Two _ rfl).trans (by kernel_rfl)
theorem computusref03_Two_c2_eq (x0 : Int) : computusref03_Two_c2 x0 =
    ((computusref03_Digits x0).bind fun v46 => ((Dv.catS [(48 : UInt8)] (Dv.PV.toS v46)).bind fun v47 => (some (Dv.PV.str v47)))) :=
  (runW_eq EE _ _).trans (by kernel_rfl)
theorem computusref03_Two_c3_eq (x0 : Int) : computusref03_Two_c3 x0 =
    (bif (Dv.ltB x0 (0 : Int)) then (bif (Dv.ltB (-10 : Int) x0) then ((computusref03_Digits (Go.IntKind.wrap Go.IntKind.i64 ((0 : Int) - x0))).bind fun v48 => ((Dv.catS [(45 : UInt8), (48 : UInt8)] (Dv.PV.toS v48)).bind fun v49 => (some (Dv.PV.str v49)))) else ((computusref03_Digits x0).bind fun v50 => (some (Dv.PV.str (Dv.PV.toS v50))))) else ((computusref03_Digits x0).bind fun v51 => (some (Dv.PV.str (Dv.PV.toS v51))))) :=
  (runW_eq EE _ _).trans (by kernel_rfl)

theorem computusref03_Fraction_eq (a0 : Int) : computusref03_Fraction a0 =
    (bif (Dv.ltB a0 (1 : Int)) then computusref03_Fraction_c2 else (bif (Dv.ltB (999999 : Int) a0) then computusref03_Fraction_c2 else (computusref03_Fraction_c3 a0))) :=
  (callF_eq EE fn_computusref03_Fraction _ rfl).trans (by kernel_rfl)
theorem computusref03_Fraction_c2_eq  : computusref03_Fraction_c2  =
    (some (Dv.PV.str [])) :=
  (runW_eq EE _ _).trans (by kernel_rfl)
theorem computusref03_Fraction_c3_eq (x0 : Int) : computusref03_Fraction_c3 x0 =
    ((computusref03_Digits (Go.IntKind.wrap Go.IntKind.i64 ((1000000 : Int) + x0))).bind fun v39 => ((Dv.dropS (Dv.PV.toS v39) (1 : Int)).bind fun v40 => (computusref03_Fraction_c4 v40))) :=
  (runW_eq EE _ _).trans (by kernel_rfl)
theorem computusref03_Fraction_c4_eq (x0 : List UInt8) : computusref03_Fraction_c4 x0 =
    ((Dv.atS x0 (Go.IntKind.wrap Go.IntKind.i64 ((((List.length x0) : Nat) : Int) - (1 : Int)))).bind fun v41 => (bif (Dv.eqB v41 (48 : Int)) then ((Dv.takeS x0 (Go.IntKind.wrap Go.IntKind.i64 ((((List.length x0) : Nat) : Int) - (1 : Int)))).bind fun v42 => (computusref03_Fraction_c4 v42)) else ((Dv.catS [(46 : UInt8)] x0).bind fun v43 => (some (Dv.PV.str v43))))) :=
  (runW_eq EE _ _).trans (by kernel_rfl)

theorem computusref19_part_eq (a0 : Int) (a1 : List UInt8) : computusref19_part a0 a1 =
    (bif (Dv.eqB a0 (0 : Int)) then (some (Dv.PV.str [])) else ((computusref03_Digits a0).bind fun v64 => ((Dv.catS (Dv.PV.toS v64) a1).bind fun v65 => (some (Dv.PV.str v65))))) :=
  (callF_eq EE fn_computusref19_part _ rfl).trans (by kernel_rfl)

theorem computusref19_unit_eq (a0 : Int) (a1 : List UInt8) (a2 : Int) : computusref19_unit a0 a1 a2 =
    ((computusref03_Digits a0).bind fun v15 => ((Dv.catS (Dv.PV.toS v15) [(32 : UInt8)]).bind fun v16 => ((Dv.catS v16 a1).bind fun v17 => (bif (!(Dv.eqB a0 (1 : Int))) then ((Dv.catS v17 [(115 : UInt8)]).bind fun v18 => (computusref19_unit_c4 a0 a2 v18)) else (computusref19_unit_c4 a0 a2 v17))))) :=
  (callF_eq EE fn_computusref19_unit _ rfl).trans (by kernel_rfl)
theorem computusref19_unit_c4_eq (x0 : Int) (x1 : Int) (x2 : List UInt8) : computusref19_unit_c4 x0 x1 x2 =
    (bif (Dv.ltB x1 (0 : Int)) then (bif (Dv.ltB (0 : Int) x0) then ((Dv.catS [(43 : UInt8)] x2).bind fun v19 => (some (Dv.PV.str v19))) else (some (Dv.PV.str x2))) else (some (Dv.PV.str x2))) :=
  (runW_eq EE _ _).trans (by kernel_rfl)

theorem computusref03_Long_eq (a0 : Int) : computusref03_Long a0 =
    (bif (Dv.ltB a0 (0 : Int)) then (computusref03_Long_c6 (Go.IntKind.wrap Go.IntKind.u64 ((0 : Int) - (Go.IntKind.wrap Go.IntKind.u64 a0))) [(45 : UInt8)]) else (computusref03_Long_c6 (Go.IntKind.wrap Go.IntKind.u64 a0) [])) :=
  (callF_eq EE fn_computusref03_Long _ rfl).trans (by kernel_rfl)
theorem computusref03_Long_c6_eq (x0 : Int) (x1 : List UInt8) : computusref03_Long_c6 x0 x1 =
    ((computusref03_Two (Go.IntKind.wrap Go.IntKind.i64 (Int.tdiv (Go.IntKind.wrap Go.IntKind.i64 (Go.IntKind.wrap Go.IntKind.u64 (Int.tdiv x0 (1000000 : Int)))) (3600 : Int)))).bind fun v5 => ((Dv.catS x1 (Dv.PV.toS v5)).bind fun v6 => ((Dv.catS v6 [(58 : UInt8)]).bind fun v7 => ((computusref03_Two (Int.tmod (Go.IntKind.wrap Go.IntKind.i64 (Int.tdiv (Go.IntKind.wrap Go.IntKind.i64 (Go.IntKind.wrap Go.IntKind.u64 (Int.tdiv x0 (1000000 : Int)))) (60 : Int))) (60 : Int))).bind fun v8 => ((Dv.catS v7 (Dv.PV.toS v8)).bind fun v9 => ((Dv.catS v9 [(58 : UInt8)]).bind fun v10 => ((computusref03_Two (Int.tmod (Go.IntKind.wrap Go.IntKind.i64 (Go.IntKind.wrap Go.IntKind.u64 (Int.tdiv x0 (1000000 : Int)))) (60 : Int))).bind fun v11 => ((Dv.catS v10 (Dv.PV.toS v11)).bind fun v12 => ((computusref03_Fraction (Go.IntKind.wrap Go.IntKind.i64 (Int.tmod x0 (1000000 : Int)))).bind fun v13 => ((Dv.catS v12 (Dv.PV.toS v13)).bind fun v14 => (some (Dv.PV.str v14)))))))))))) :=
  (runW_eq EE _ _).trans (by kernel_rfl)

theorem day_Right_eq (a0_0 : Int) (a0_1 : Int) : day_Right a0_0 a0_1 =
    (bif ((Dv.eqB a0_0 (-1 : Int)) && ((Dv.eqB a0_1 (0 : Int)) && Bool.true)) then (some (Dv.PV.bool Bool.true)) else (bif ((Dv.eqB a0_0 (1 : Int)) && ((Dv.eqB a0_1 (0 : Int)) && Bool.true)) then (some (Dv.PV.bool Bool.true)) else (bif (Dv.eqB a0_0 (0 : Int)) then ((day_inside a0_1).bind fun v13 => (some (Dv.PV.bool (Dv.PV.toB v13)))) else (some (Dv.PV.bool Bool.false))))) :=
  (callF_eq EE fn_day_Right _ rfl).trans (by kernel_rfl)

theorem show_date_eq (a0_0 : Int) (a0_1 : Int) (a1_0 : Int) (a1_1 : Int) (a1_2 : Int) : show_date a0_0 a0_1 a1_0 a1_1 a1_2 =
    ((day_Parts a0_0 a0_1).bind fun v52 => (bif (Dv.ltB (Dv.PV.toI (Dv.PV.tnth v52 0)) (1 : Int)) then (show_date_c5 (Go.IntKind.wrap Go.IntKind.i64 ((1 : Int) - (Dv.PV.toI (Dv.PV.tnth v52 0)))) (Dv.PV.toI (Dv.PV.tnth v52 1)) (Dv.PV.toI (Dv.PV.tnth v52 2)) [(32 : UInt8), (66 : UInt8), (67 : UInt8)] a1_0 a1_1 a1_2) else (show_date_c5 (Dv.PV.toI (Dv.PV.tnth v52 0)) (Dv.PV.toI (Dv.PV.tnth v52 1)) (Dv.PV.toI (Dv.PV.tnth v52 2)) [] a1_0 a1_1 a1_2))) :=
  (callF_eq EE fn_show_date _ rfl).trans (by kernel_rfl)
theorem show_date_c5_eq (x0 : Int) (x1 : Int) (x2 : Int) (x3 : List UInt8) (x4 : Int) (x5 : Int) (x6 : Int) : show_date_c5 x0 x1 x2 x3 x4 x5 x6 =
    ((show_digits x0).bind fun v53 => ((strings_Repeat [(48 : UInt8)] (Dv.maxI (0 : Int) (Go.IntKind.wrap Go.IntKind.i64 ((4 : Int) - (((List.length (Dv.PV.toS v53)) : Nat) : Int))))).bind fun v54 => ((show_join [(Dv.PV.str (Dv.PV.toS v54)), (Dv.PV.str (Dv.PV.toS v53))]).bind fun v55 => ((clock_Two x1).bind fun v56 => ((clock_Two x2).bind fun v57 => (bif (Dv.eqB x4 (0 : Int)) then ((show_between [(45 : UInt8)] [(Dv.PV.str (Dv.PV.toS v55)), (Dv.PV.str (Dv.PV.toS v56)), (Dv.PV.str (Dv.PV.toS v57))]).bind fun v58 => (some (Dv.PV.tuple [(Dv.PV.str (Dv.PV.toS v58)), (Dv.PV.str x3)]))) else (bif (Dv.eqB x5 (2 : Int)) then ((show_between [(47 : UInt8)] [(Dv.PV.str (Dv.PV.toS v56)), (Dv.PV.str (Dv.PV.toS v57)), (Dv.PV.str (Dv.PV.toS v55))]).bind fun v59 => (some (Dv.PV.tuple [(Dv.PV.str (Dv.PV.toS v59)), (Dv.PV.str x3)]))) else (bif (Dv.eqB x5 (1 : Int)) then ((show_between [(47 : UInt8)] [(Dv.PV.str (Dv.PV.toS v57)), (Dv.PV.str (Dv.PV.toS v56)), (Dv.PV.str (Dv.PV.toS v55))]).bind fun v60 => (some (Dv.PV.tuple [(Dv.PV.str (Dv.PV.toS v60)), (Dv.PV.str x3)]))) else ((show_between [(47 : UInt8)] [(Dv.PV.str (Dv.PV.toS v55)), (Dv.PV.str (Dv.PV.toS v56)), (Dv.PV.str (Dv.PV.toS v57))]).bind fun v61 => (some (Dv.PV.tuple [(Dv.PV.str (Dv.PV.toS v61)), (Dv.PV.str x3)]))))))))))) :=
  (runW_eq EE _ _).trans (by kernel_rfl)

theorem num_Sub_eq (a0 : Int) (a1 : Int) : num_Sub a0 a1 =
    (bif (!((Dv.ltB (Go.IntKind.wrap Go.IntKind.i64 (a0 - a1)) a0) == (Dv.ltB (0 : Int) a1))) then (some (Dv.PV.tuple [(Dv.PV.int Go.IntKind.i64 (0 : Int)), (Dv.PV.int Go.IntKind.i64 (10 : Int))])) else (some (Dv.PV.tuple [(Dv.PV.int Go.IntKind.i64 (Go.IntKind.wrap Go.IntKind.i64 (a0 - a1))), (Dv.PV.int Go.IntKind.i64 (0 : Int))]))) :=
  (callF_eq EE fn_num_Sub _ rfl).trans (by kernel_rfl)

theorem stringslite_Cut_eq (a0 : List UInt8) (a1 : List UInt8) : stringslite_Cut a0 a1 =
    ((stringslite_Index a0 a1).bind fun v66 => (bif (Dv.leB (0 : Int) (Dv.PV.toI v66)) then ((Dv.takeS a0 (Dv.PV.toI v66)).bind fun v67 => ((Dv.dropS a0 (Go.IntKind.wrap Go.IntKind.i64 ((Dv.PV.toI v66) + (((List.length a1) : Nat) : Int)))).bind fun v68 => (some (Dv.PV.tuple [(Dv.PV.str v67), (Dv.PV.str v68), (Dv.PV.bool Bool.true)])))) else (some (Dv.PV.tuple [(Dv.PV.str a0), (Dv.PV.str []), (Dv.PV.bool Bool.false)])))) :=
  (callF_eq EE fn_stringslite_Cut _ rfl).trans (by kernel_rfl)

theorem clock_text_eq (a0 : Int) : clock_text a0 =
    ((clock_parts a0).bind fun v20 => ((clock_Two (Dv.PV.toI (Dv.PV.tnth v20 0))).bind fun v21 => ((Dv.catS (Dv.PV.toS v21) [(58 : UInt8)]).bind fun v22 => ((clock_Two (Dv.PV.toI (Dv.PV.tnth v20 1))).bind fun v23 => ((Dv.catS v22 (Dv.PV.toS v23)).bind fun v24 => ((Dv.catS v24 [(58 : UInt8)]).bind fun v25 => ((clock_Two (Dv.PV.toI (Dv.PV.tnth v20 2))).bind fun v26 => ((Dv.catS v25 (Dv.PV.toS v26)).bind fun v27 => ((clock_Fraction (Dv.PV.toI (Dv.PV.tnth v20 3))).bind fun v28 => ((Dv.catS v27 (Dv.PV.toS v28)).bind fun v29 => (some (Dv.PV.str v29)))))))))))) :=
  (callF_eq EE fn_clock_text _ rfl).trans (by kernel_rfl)

theorem strings_Join_eq (a0 : List PV) (a1 : List UInt8) : strings_Join a0 a1 =
    (bif (Dv.eqB (((List.length a0) : Nat) : Int) (0 : Int)) then (some (Dv.PV.str [])) else (bif (Dv.eqB (((List.length a0) : Nat) : Int) (1 : Int)) then ((Dv.rdI Dv.tiStr a0 (0 : Int)).bind fun v15 => (some (Dv.PV.str (Dv.PV.toS v15)))) else (bif (Dv.ltB (0 : Int) (((List.length a1) : Nat) : Int)) then (bif (Dv.eqB (Go.IntKind.wrap Go.IntKind.i64 ((((List.length a0) : Nat) : Int) - (1 : Int))) (0 : Int)) then none else (bif (Dv.leB (Go.IntKind.wrap Go.IntKind.i64 (Int.tdiv (9223372036854775807 : Int) (Go.IntKind.wrap Go.IntKind.i64 ((((List.length a0) : Nat) : Int) - (1 : Int))))) (((List.length a1) : Nat) : Int)) then none else (strings_Join_c10 a0 a1 (0 : Int)))) else (strings_Join_c11 a0 a1 (0 : Int))))) :=
  (callF_eq EE fn_strings_Join _ rfl).trans (by kernel_rfl)
theorem strings_Join_c10_eq (x0 : List PV) (x1 : List UInt8) (x2 : Int) : strings_Join_c10 x0 x1 x2 =
    (strings_Join_c11 x0 x1 (Go.IntKind.wrap Go.IntKind.i64 (x2 + (Go.IntKind.wrap Go.IntKind.i64 ((((List.length x1) : Nat) : Int) * (Go.IntKind.wrap Go.IntKind.i64 ((((List.length x0) : Nat) : Int) - (1 : Int)))))))) :=
  (runW_eq EE _ _).trans (by kernel_rfl)
theorem strings_Join_c11_eq (x0 : List PV) (x1 : List UInt8) (x2 : Int) : strings_Join_c11 x0 x1 x2 =
    (strings_Join_c12 x0 x1 x2 x0 (((List.length x0) : Nat) : Int) (0 : Int)) :=
  (runW_eq EE _ _).trans (by kernel_rfl)
theorem strings_Join_c12_eq (x0 : List PV) (x1 : List UInt8) (x2 : Int) (x3 : List PV) (x4 : Int) (x5 : Int) : strings_Join_c12 x0 x1 x2 x3 x4 x5 =
    (bif (Dv.ltB x5 x4) then ((Dv.rdI Dv.tiStr x3 x5).bind fun v16 => (bif (Dv.ltB (Go.IntKind.wrap Go.IntKind.i64 ((9223372036854775807 : Int) - x2)) (((List.length (Dv.PV.toS v16)) : Nat) : Int)) then none else (strings_Join_c16 x0 x1 x2 (Dv.PV.toS v16) x3 x4 x5))) else (bif (Dv.ltB x2 (0 : Int)) then none else (bif (Dv.ltB (Go.IntKind.wrap Go.IntKind.i64 ((0 : Int) - (0 : Int))) x2) then (bif (decide (((0 : Int) ≤ (Go.IntKind.wrap Go.IntKind.i64 ((Go.IntKind.wrap Go.IntKind.i64 ((2 : Int) * (0 : Int))) + x2))) ∧ ((Go.IntKind.wrap Go.IntKind.i64 ((Go.IntKind.wrap Go.IntKind.i64 ((2 : Int) * (0 : Int))) + x2)) ≤ (281474976710656 : Int)))) then (strings_Join_c20 x0 x1 []) else none) else (strings_Join_c20_1 x0 x1)))) :=
  (runW_eq EE _ _).trans (by kernel_rfl)
theorem strings_Join_c16_eq (x0 : List PV) (x1 : List UInt8) (x2 : Int) (x3 : List UInt8) (x4 : List PV) (x5 : Int) (x6 : Int) : strings_Join_c16 x0 x1 x2 x3 x4 x5 x6 =
    (strings_Join_c12 x0 x1 (Go.IntKind.wrap Go.IntKind.i64 (x2 + (((List.length x3) : Nat) : Int))) x4 x5 (Go.IntKind.wrap Go.IntKind.i64 (x6 + (1 : Int)))) :=
  (runW_eq EE _ _).trans (by kernel_rfl)
theorem strings_Join_c20_eq (x0 : List PV) (x1 : List UInt8) (x2 : List PV) : strings_Join_c20 x0 x1 x2 =
    ((Dv.rdI Dv.tiStr x0 (0 : Int)).bind fun v17 => ((Dv.appL 1 x2 (List.map Dv.byteV (Dv.PV.toS v17))).bind fun v18 => (strings_Join_c21 x0 x1 v18))) :=
  (runW_eq EE _ _).trans (by kernel_rfl)
theorem strings_Join_c20_1_eq (x0 : List PV) (x1 : List UInt8) : strings_Join_c20_1 x0 x1 =
    ((Dv.rdI Dv.tiStr x0 (0 : Int)).bind fun v19 => ((Dv.appL 1 [] (List.map Dv.byteV (Dv.PV.toS v19))).bind fun v20 => (strings_Join_c21 x0 x1 v20))) :=
  (runW_eq EE _ _).trans (by kernel_rfl)
theorem strings_Join_c21_eq (x0 : List PV) (x1 : List UInt8) (x2 : List PV) : strings_Join_c21 x0 x1 x2 =
    ((Dv.dropS x0 (1 : Int)).bind fun v21 => (strings_Join_c22 x1 v21 (((List.length v21) : Nat) : Int) (0 : Int) x2)) :=
  (runW_eq EE _ _).trans (by kernel_rfl)
theorem strings_Join_c22_eq (x0 : List UInt8) (x1 : List PV) (x2 : Int) (x3 : Int) (x4 : List PV) : strings_Join_c22 x0 x1 x2 x3 x4 =
    (bif (Dv.ltB x3 x2) then ((Dv.rdI Dv.tiStr x1 x3).bind fun v22 => ((Dv.appL 1 x4 (List.map Dv.byteV x0)).bind fun v23 => ((Dv.appL 1 v23 (List.map Dv.byteV (Dv.PV.toS v22))).bind fun v24 => (strings_Join_c22 x0 x1 x2 (Go.IntKind.wrap Go.IntKind.i64 (x3 + (1 : Int))) v24)))) else (bif (Dv.isNilL x4) then none else (bif (Bool.true && (!(Dv.isNilL x4))) then (bif (decide (((((List.length x4) : Nat) : Int) = (((List.length x4) : Nat) : Int)) ∧ ((((List.length x4) : Nat) : Int) ≤ (9223372036854775807 : Int)))) then ((Dv.bytesOf x4).bind fun v25 => (some (Dv.PV.str v25))) else none) else none))) :=
  (runW_eq EE _ _).trans (by kernel_rfl)

theorem clock_Two_eq (a0 : Int) : clock_Two a0 =
    (bif (Dv.leB (0 : Int) a0) then ((clock_digits (Go.IntKind.wrap Go.IntKind.u64 a0) (2 : Int)).bind fun v14 => (some (Dv.PV.str (Dv.PV.toS v14)))) else ((num_Neg a0).bind fun v15 => (bif (Dv.eqB (Dv.PV.toI (Dv.PV.tnth v15 1)) (0 : Int)) then ((clock_digits (Go.IntKind.wrap Go.IntKind.u64 (Dv.PV.toI (Dv.PV.tnth v15 0))) (2 : Int)).bind fun v16 => ((Dv.catS [(45 : UInt8)] (Dv.PV.toS v16)).bind fun v17 => (some (Dv.PV.str v17)))) else ((clock_digits (9223372036854775808 : Int) (2 : Int)).bind fun v18 => ((Dv.catS [(45 : UInt8)] (Dv.PV.toS v18)).bind fun v19 => (some (Dv.PV.str v19))))))) :=
  (callF_eq EE fn_clock_Two _ rfl).trans (by kernel_rfl)

theorem show_number_eq (a0 : Int) : show_number a0 =
    (bif (Dv.ltB a0 (0 : Int)) then ((show_digits (Go.IntKind.wrap Go.IntKind.i64 ((0 : Int) - a0))).bind fun v62 => ((show_join [(Dv.PV.str [(45 : UInt8)]), (Dv.PV.str (Dv.PV.toS v62))]).bind fun v63 => (some (Dv.PV.str (Dv.PV.toS v63))))) else ((show_digits a0).bind fun v64 => (some (Dv.PV.str (Dv.PV.toS v64))))) :=
  (callF_eq EE fn_show_number _ rfl).trans (by kernel_rfl)

theorem strings_TrimPrefix_eq (a0 : List UInt8) (a1 : List UInt8) : strings_TrimPrefix a0 a1 =
    ((stringslite_TrimPrefix a0 a1).bind fun v44 => (some (Dv.PV.str (Dv.PV.toS v44)))) :=
  (callF_eq EE fn_strings_TrimPrefix _ rfl).trans (by kernel_rfl)

theorem clock_Fraction_eq (a0 : Int) : clock_Fraction a0 =
    (bif (Dv.leB a0 (0 : Int)) then clock_Fraction_c2 else (bif (Dv.ltB (999999 : Int) a0) then clock_Fraction_c2 else (clock_Fraction_c3 a0))) :=
  (callF_eq EE fn_clock_Fraction _ rfl).trans (by kernel_rfl)
theorem clock_Fraction_c2_eq  : clock_Fraction_c2  =
    (some (Dv.PV.str [])) :=
  (runW_eq EE _ _).trans (by kernel_rfl)
theorem clock_Fraction_c3_eq (x0 : Int) : clock_Fraction_c3 x0 =
    ((clock_digits (Go.IntKind.wrap Go.IntKind.u64 x0) (6 : Int)).bind fun v69 => (clock_Fraction_c6 (Dv.PV.toS v69) (0 : Int) (Dv.PV.toS v69) 0)) :=
  (runW_eq EE _ _).trans (by kernel_rfl)
theorem clock_Fraction_c6_eq (x0 : List UInt8) (x1 : Int) (x2 : List UInt8) (x3 : Nat) : clock_Fraction_c6 x0 x1 x2 x3 =
    (bif (Dv.ltN x3 (List.length x2)) then (bif (!(Dv.eqB ((((Dv.decR x2 x3).1) : Nat) : Int) (48 : Int))) then (clock_Fraction_c6 x0 (Go.IntKind.wrap Go.IntKind.i64 (((x3 : Nat) : Int) + (1 : Int))) x2 (x3 + ((Dv.decR x2 x3).2))) else (clock_Fraction_c6 x0 x1 x2 (x3 + ((Dv.decR x2 x3).2)))) else ((Dv.takeS x0 x1).bind fun v70 => ((Dv.catS [(46 : UInt8)] v70).bind fun v71 => (some (Dv.PV.str v71))))) :=
  (runW_eq EE _ _).trans (by kernel_rfl)

theorem day_inside_eq (a0 : Int) : day_inside a0 =
    ((civil_Date a0).bind fun v30 => (bif (Dv.eqB (Dv.PV.toI (Dv.PV.tnth v30 3)) (0 : Int)) then (bif (Dv.leB (-4712 : Int) (Dv.PV.toI (Dv.PV.tnth v30 0))) then (some (Dv.PV.bool (Dv.leB (Dv.PV.toI (Dv.PV.tnth v30 0)) (294276 : Int)))) else (some (Dv.PV.bool Bool.false))) else (some (Dv.PV.bool Bool.false)))) :=
  (callF_eq EE fn_day_inside _ rfl).trans (by kernel_rfl)

theorem day_Parts_eq (a0_0 : Int) (a0_1 : Int) : day_Parts a0_0 a0_1 =
    ((day_Right a0_0 a0_1).bind fun v26 => (bif (!(Dv.PV.toB v26)) then (some (Dv.PV.tuple [(Dv.PV.int Go.IntKind.i64 (0 : Int)), (Dv.PV.int Go.IntKind.i64 (0 : Int)), (Dv.PV.int Go.IntKind.i64 (0 : Int)), (Dv.PV.int Go.IntKind.i64 (1 : Int))])) else (bif (!(Dv.eqB a0_0 (0 : Int))) then (some (Dv.PV.tuple [(Dv.PV.int Go.IntKind.i64 (0 : Int)), (Dv.PV.int Go.IntKind.i64 (0 : Int)), (Dv.PV.int Go.IntKind.i64 (0 : Int)), (Dv.PV.int Go.IntKind.i64 (10 : Int))])) else ((civil_Date a0_1).bind fun v27 => (some (Dv.PV.tuple [(Dv.PV.int Go.IntKind.i64 (Dv.PV.toI (Dv.PV.tnth v27 0))), (Dv.PV.int Go.IntKind.i64 (Dv.PV.toI (Dv.PV.tnth v27 1))), (Dv.PV.int Go.IntKind.i64 (Dv.PV.toI (Dv.PV.tnth v27 2))), (Dv.PV.int Go.IntKind.i64 (Dv.PV.toI (Dv.PV.tnth v27 3)))])))))) :=
  (callF_eq EE fn_day_Parts _ rfl).trans (by kernel_rfl)

theorem strings_Repeat_eq (a0 : List UInt8) (a1 : Int) : strings_Repeat a0 a1 =
    (bif (Dv.eqB a1 (0 : Int)) then (some (Dv.PV.str [])) else (bif (Dv.eqB a1 (1 : Int)) then (some (Dv.PV.str a0)) else (bif (Dv.ltB a1 (0 : Int)) then none else (strings_Repeat_c8 a0 a1)))) :=
  (callF_eq EE fn_strings_Repeat _ rfl).trans (by kernel_rfl)
theorem strings_Repeat_c8_eq (x0 : List UInt8) (x1 : Int) : strings_Repeat_c8 x0 x1 =
    ((bits_Mul (Go.IntKind.wrap Go.IntKind.u64 (((List.length x0) : Nat) : Int)) (Go.IntKind.wrap Go.IntKind.u64 x1)).bind fun v20 => (bif (Dv.ltB (0 : Int) (Dv.PV.toI (Dv.PV.tnth v20 0))) then (strings_Repeat_c10 x0 (Dv.PV.toI (Dv.PV.tnth v20 1))) else (bif (Dv.ltB (9223372036854775807 : Int) (Dv.PV.toI (Dv.PV.tnth v20 1))) then (strings_Repeat_c10 x0 (Dv.PV.toI (Dv.PV.tnth v20 1))) else (strings_Repeat_c11 x0 (Dv.PV.toI (Dv.PV.tnth v20 1)))))) :=
  (runW_eq EE _ _).trans (by kernel_rfl)
theorem strings_Repeat_c11_eq (x0 : List UInt8) (x1 : Int) : strings_Repeat_c11 x0 x1 =
    (bif (Dv.eqB (((List.length x0) : Nat) : Int) (0 : Int)) then (some (Dv.PV.str [])) else ((Dv.atS x0 (0 : Int)).bind fun v21 => (bif (Dv.eqB v21 (32 : Int)) then (strings_Repeat_c20 x0 (Go.IntKind.wrap Go.IntKind.i64 x1)) else (bif (Dv.eqB v21 (45 : Int)) then (strings_Repeat_c20 x0 (Go.IntKind.wrap Go.IntKind.i64 x1)) else (bif (Dv.eqB v21 (48 : Int)) then (strings_Repeat_c20 x0 (Go.IntKind.wrap Go.IntKind.i64 x1)) else (bif (Dv.eqB v21 (61 : Int)) then (strings_Repeat_c20 x0 (Go.IntKind.wrap Go.IntKind.i64 x1)) else (bif (Dv.eqB v21 (9 : Int)) then (strings_Repeat_c20 x0 (Go.IntKind.wrap Go.IntKind.i64 x1)) else (strings_Repeat_c30 x0 (Go.IntKind.wrap Go.IntKind.i64 x1))))))))) :=
  (runW_eq EE _ _).trans (by kernel_rfl)
theorem strings_Repeat_c20_eq (x0 : List UInt8) (x1 : Int) : strings_Repeat_c20 x0 x1 =
    (bif (Dv.leB x1 (128 : Int)) then ((strings_HasPrefix [(32 : UInt8), (32 : UInt8), (32 : UInt8), (32 : UInt8), (32 : UInt8), (32 : UInt8), (32 : UInt8), (32 : UInt8), (32 : UInt8), (32 : UInt8), (32 : UInt8), (32 : UInt8), (32 : UInt8), (32 : UInt8), (32 : UInt8), (32 : UInt8), (32 : UInt8), (32 : UInt8), (32 : UInt8), (32 : UInt8), (32 : UInt8), (32 : UInt8), (32 : UInt8), (32 : UInt8), (32 : UInt8), (32 : UInt8), (32 : UInt8), (32 : UInt8), (32 : UInt8), (32 : UInt8), (32 : UInt8), (32 : UInt8), (32 : UInt8), (32 : UInt8), (32 : UInt8), (32 : UInt8), (32 : UInt8), (32 : UInt8), (32 : UInt8), (32 : UInt8), (32 : UInt8), (32 : UInt8), (32 : UInt8), (32 : UInt8), (32 : UInt8), (32 : UInt8), (32 : UInt8), (32 : UInt8), (32 : UInt8), (32 : UInt8), (32 : UInt8), (32 : UInt8), (32 : UInt8), (32 : UInt8), (32 : UInt8), (32 : UInt8), (32 : UInt8), (32 : UInt8), (32 : UInt8), (32 : UInt8), (32 : UInt8), (32 : UInt8), (32 : UInt8), (32 : UInt8), (32 : UInt8), (32 : UInt8), (32 : UInt8), (32 : UInt8), (32 : UInt8), (32 : UInt8), (32 : UInt8), (32 : UInt8), (32 : UInt8), (32 : UInt8), (32 : UInt8), (32 : UInt8), (32 : UInt8), (32 : UInt8), (32 : UInt8), (32 : UInt8), (32 : UInt8), (32 : UInt8), (32 : UInt8), (32 : UInt8), (32 : UInt8), (32 : UInt8), (32 : UInt8), (32 : UInt8), (32 : UInt8), (32 : UInt8), (32 : UInt8), (32 : UInt8), (32 : UInt8), (32 : UInt8), (32 : UInt8), (32 : UInt8), (32 : UInt8), (32 : UInt8), (32 : UInt8), (32 : UInt8), (32 : UInt8), (32 : UInt8), (32 : UInt8), (32 : UInt8), (32 : UInt8), (32 : UInt8), (32 : UInt8), (32 : UInt8), (32 : UInt8), (32 : UInt8), (32 : UInt8), (32 : UInt8), (32 : UInt8), (32 : UInt8), (32 : UInt8), (32 : UInt8), (32 : UInt8), (32 : UInt8), (32 : UInt8), (32 : UInt8), (32 : UInt8), (32 : UInt8), (32 : UInt8), (32 : UInt8), (32 : UInt8), (32 : UInt8), (32 : UInt8), (32 : UInt8)] x0).bind fun v22 => (bif (Dv.PV.toB v22) then (strings_Repeat_c21 x1) else (strings_Repeat_c22 x0 x1))) else (strings_Repeat_c22 x0 x1)) :=
  (runW_eq EE _ _).trans (by kernel_rfl)
theorem strings_Repeat_c30_eq (x0 : List UInt8) (x1 : Int) : strings_Repeat_c30 x0 x1 =
    (bif (Dv.ltB (8192 : Int) x1) then (bif (Dv.eqB (((List.length x0) : Nat) : Int) (0 : Int)) then none else (bif (Dv.eqB (Go.IntKind.wrap Go.IntKind.i64 ((Go.IntKind.wrap Go.IntKind.i64 (Int.tdiv (8192 : Int) (((List.length x0) : Nat) : Int))) * (((List.length x0) : Nat) : Int))) (0 : Int)) then (strings_Repeat_c35 x0 x1 (((List.length x0) : Nat) : Int)) else (strings_Repeat_c35 x0 x1 (Go.IntKind.wrap Go.IntKind.i64 ((Go.IntKind.wrap Go.IntKind.i64 (Int.tdiv (8192 : Int) (((List.length x0) : Nat) : Int))) * (((List.length x0) : Nat) : Int)))))) else (strings_Repeat_c35 x0 x1 x1)) :=
  (runW_eq EE _ _).trans (by kernel_rfl)
theorem strings_Repeat_c21_eq (x0 : Int) : strings_Repeat_c21 x0 =
    ((Dv.takeS [(32 : UInt8), (32 : UInt8), (32 : UInt8), (32 : UInt8), (32 : UInt8), (32 : UInt8), (32 : UInt8), (32 : UInt8), (32 : UInt8), (32 : UInt8), (32 : UInt8), (32 : UInt8), (32 : UInt8), (32 : UInt8), (32 : UInt8), (32 : UInt8), (32 : UInt8), (32 : UInt8), (32 : UInt8), (32 : UInt8), (32 : UInt8), (32 : UInt8), (32 : UInt8), (32 : UInt8), (32 : UInt8), (32 : UInt8), (32 : UInt8), (32 : UInt8), (32 : UInt8), (32 : UInt8), (32 : UInt8), (32 : UInt8), (32 : UInt8), (32 : UInt8), (32 : UInt8), (32 : UInt8), (32 : UInt8), (32 : UInt8), (32 : UInt8), (32 : UInt8), (32 : UInt8), (32 : UInt8), (32 : UInt8), (32 : UInt8), (32 : UInt8), (32 : UInt8), (32 : UInt8), (32 : UInt8), (32 : UInt8), (32 : UInt8), (32 : UInt8), (32 : UInt8), (32 : UInt8), (32 : UInt8), (32 : UInt8), (32 : UInt8), (32 : UInt8), (32 : UInt8), (32 : UInt8), (32 : UInt8), (32 : UInt8), (32 : UInt8), (32 : UInt8), (32 : UInt8), (32 : UInt8), (32 : UInt8), (32 : UInt8), (32 : UInt8), (32 : UInt8), (32 : UInt8), (32 : UInt8), (32 : UInt8), (32 : UInt8), (32 : UInt8), (32 : UInt8), (32 : UInt8), (32 : UInt8), (32 : UInt8), (32 : UInt8), (32 : UInt8), (32 : UInt8), (32 : UInt8), (32 : UInt8), (32 : UInt8), (32 : UInt8), (32 : UInt8), (32 : UInt8), (32 : UInt8), (32 : UInt8), (32 : UInt8), (32 : UInt8), (32 : UInt8), (32 : UInt8), (32 : UInt8), (32 : UInt8), (32 : UInt8), (32 : UInt8), (32 : UInt8), (32 : UInt8), (32 : UInt8), (32 : UInt8), (32 : UInt8), (32 : UInt8), (32 : UInt8), (32 : UInt8), (32 : UInt8), (32 : UInt8), (32 : UInt8), (32 : UInt8), (32 : UInt8), (32 : UInt8), (32 : UInt8), (32 : UInt8), (32 : UInt8), (32 : UInt8), (32 : UInt8), (32 : UInt8), (32 : UInt8), (32 : UInt8), (32 : UInt8), (32 : UInt8), (32 : UInt8), (32 : UInt8), (32 : UInt8), (32 : UInt8), (32 : UInt8), (32 : UInt8), (32 : UInt8)] x0).bind fun v23 => (some (Dv.PV.str v23))) :=
  (runW_eq EE _ _).trans (by kernel_rfl)
theorem strings_Repeat_c22_eq (x0 : List UInt8) (x1 : Int) : strings_Repeat_c22 x0 x1 =
    (bif (Dv.leB x1 (128 : Int)) then ((strings_HasPrefix [(45 : UInt8), (45 : UInt8), (45 : UInt8), (45 : UInt8), (45 : UInt8), (45 : UInt8), (45 : UInt8), (45 : UInt8), (45 : UInt8), (45 : UInt8), (45 : UInt8), (45 : UInt8), (45 : UInt8), (45 : UInt8), (45 : UInt8), (45 : UInt8), (45 : UInt8), (45 : UInt8), (45 : UInt8), (45 : UInt8), (45 : UInt8), (45 : UInt8), (45 : UInt8), (45 : UInt8), (45 : UInt8), (45 : UInt8), (45 : UInt8), (45 : UInt8), (45 : UInt8), (45 : UInt8), (45 : UInt8), (45 : UInt8), (45 : UInt8), (45 : UInt8), (45 : UInt8), (45 : UInt8), (45 : UInt8), (45 : UInt8), (45 : UInt8), (45 : UInt8), (45 : UInt8), (45 : UInt8), (45 : UInt8), (45 : UInt8), (45 : UInt8), (45 : UInt8), (45 : UInt8), (45 : UInt8), (45 : UInt8), (45 : UInt8), (45 : UInt8), (45 : UInt8), (45 : UInt8), (45 : UInt8), (45 : UInt8), (45 : UInt8), (45 : UInt8), (45 : UInt8), (45 : UInt8), (45 : UInt8), (45 : UInt8), (45 : UInt8), (45 : UInt8), (45 : UInt8), (45 : UInt8), (45 : UInt8), (45 : UInt8), (45 : UInt8), (45 : UInt8), (45 : UInt8), (45 : UInt8), (45 : UInt8), (45 : UInt8), (45 : UInt8), (45 : UInt8), (45 : UInt8), (45 : UInt8), (45 : UInt8), (45 : UInt8), (45 : UInt8), (45 : UInt8), (45 : UInt8), (45 : UInt8), (45 : UInt8), (45 : UInt8), (45 : UInt8), (45 : UInt8), (45 : UInt8), (45 : UInt8), (45 : UInt8), (45 : UInt8), (45 : UInt8), (45 : UInt8), (45 : UInt8), (45 : UInt8), (45 : UInt8), (45 : UInt8), (45 : UInt8), (45 : UInt8), (45 : UInt8), (45 : UInt8), (45 : UInt8), (45 : UInt8), (45 : UInt8), (45 : UInt8), (45 : UInt8), (45 : UInt8), (45 : UInt8), (45 : UInt8), (45 : UInt8), (45 : UInt8), (45 : UInt8), (45 : UInt8), (45 : UInt8), (45 : UInt8), (45 : UInt8), (45 : UInt8), (45 : UInt8), (45 : UInt8), (45 : UInt8), (45 : UInt8), (45 : UInt8), (45 : UInt8), (45 : UInt8), (45 : UInt8), (45 : UInt8), (45 : UInt8), (45 : UInt8)] x0).bind fun v24 => (bif (Dv.PV.toB v24) then (strings_Repeat_c23 x1) else (strings_Repeat_c24 x0 x1))) else (strings_Repeat_c24 x0 x1)) :=
  (runW_eq EE _ _).trans (by kernel_rfl)
theorem strings_Repeat_c35_eq (x0 : List UInt8) (x1 : Int) (x2 : Int) : strings_Repeat_c35 x0 x1 x2 =
    (bif (Dv.ltB x1 (0 : Int)) then none else (bif (Dv.ltB (Go.IntKind.wrap Go.IntKind.i64 ((0 : Int) - (0 : Int))) x1) then (bif (decide (((0 : Int) ≤ (Go.IntKind.wrap Go.IntKind.i64 ((Go.IntKind.wrap Go.IntKind.i64 ((2 : Int) * (0 : Int))) + x1))) ∧ ((Go.IntKind.wrap Go.IntKind.i64 ((Go.IntKind.wrap Go.IntKind.i64 ((2 : Int) * (0 : Int))) + x1)) ≤ (281474976710656 : Int)))) then (strings_Repeat_c37 x0 x1 x2 []) else none) else (strings_Repeat_c37_1 x0 x1 x2))) :=
  (runW_eq EE _ _).trans (by kernel_rfl)
theorem strings_Repeat_c23_eq (x0 : Int) : strings_Repeat_c23 x0 =
    ((Dv.takeS [(45 : UInt8), (45 : UInt8), (45 : UInt8), (45 : UInt8), (45 : UInt8), (45 : UInt8), (45 : UInt8), (45 : UInt8), (45 : UInt8), (45 : UInt8), (45 : UInt8), (45 : UInt8), (45 : UInt8), (45 : UInt8), (45 : UInt8), (45 : UInt8), (45 : UInt8), (45 : UInt8), (45 : UInt8), (45 : UInt8), (45 : UInt8), (45 : UInt8), (45 : UInt8), (45 : UInt8), (45 : UInt8), (45 : UInt8), (45 : UInt8), (45 : UInt8), (45 : UInt8), (45 : UInt8), (45 : UInt8), (45 : UInt8), (45 : UInt8), (45 : UInt8), (45 : UInt8), (45 : UInt8), (45 : UInt8), (45 : UInt8), (45 : UInt8), (45 : UInt8), (45 : UInt8), (45 : UInt8), (45 : UInt8), (45 : UInt8), (45 : UInt8), (45 : UInt8), (45 : UInt8), (45 : UInt8), (45 : UInt8), (45 : UInt8), (45 : UInt8), (45 : UInt8), (45 : UInt8), (45 : UInt8), (45 : UInt8), (45 : UInt8), (45 : UInt8), (45 : UInt8), (45 : UInt8), (45 : UInt8), (45 : UInt8), (45 : UInt8), (45 : UInt8), (45 : UInt8), (45 : UInt8), (45 : UInt8), (45 : UInt8), (45 : UInt8), (45 : UInt8), (45 : UInt8), (45 : UInt8), (45 : UInt8), (45 : UInt8), (45 : UInt8), (45 : UInt8), (45 : UInt8), (45 : UInt8), (45 : UInt8), (45 : UInt8), (45 : UInt8), (45 : UInt8), (45 : UInt8), (45 : UInt8), (45 : UInt8), (45 : UInt8), (45 : UInt8), (45 : UInt8), (45 : UInt8), (45 : UInt8), (45 : UInt8), (45 : UInt8), (45 : UInt8), (45 : UInt8), (45 : UInt8), (45 : UInt8), (45 : UInt8), (45 : UInt8), (45 : UInt8), (45 : UInt8), (45 : UInt8), (45 : UInt8), (45 : UInt8), (45 : UInt8), (45 : UInt8), (45 : UInt8), (45 : UInt8), (45 : UInt8), (45 : UInt8), (45 : UInt8), (45 : UInt8), (45 : UInt8), (45 : UInt8), (45 : UInt8), (45 : UInt8), (45 : UInt8), (45 : UInt8), (45 : UInt8), (45 : UInt8), (45 : UInt8), (45 : UInt8), (45 : UInt8), (45 : UInt8), (45 : UInt8), (45 : UInt8), (45 : UInt8), (45 : UInt8), (45 : UInt8), (45 : UInt8)] x0).bind fun v25 => (some (Dv.PV.str v25))) :=
  (runW_eq EE _ _).trans (by kernel_rfl)
theorem strings_Repeat_c24_eq (x0 : List UInt8) (x1 : Int) : strings_Repeat_c24 x0 x1 =
    (bif (Dv.leB x1 (64 : Int)) then ((strings_HasPrefix [(48 : UInt8), (48 : UInt8), (48 : UInt8), (48 : UInt8), (48 : UInt8), (48 : UInt8), (48 : UInt8), (48 : UInt8), (48 : UInt8), (48 : UInt8), (48 : UInt8), (48 : UInt8), (48 : UInt8), (48 : UInt8), (48 : UInt8), (48 : UInt8), (48 : UInt8), (48 : UInt8), (48 : UInt8), (48 : UInt8), (48 : UInt8), (48 : UInt8), (48 : UInt8), (48 : UInt8), (48 : UInt8), (48 : UInt8), (48 : UInt8), (48 : UInt8), (48 : UInt8), (48 : UInt8), (48 : UInt8), (48 : UInt8), (48 : UInt8), (48 : UInt8), (48 : UInt8), (48 : UInt8), (48 : UInt8), (48 : UInt8), (48 : UInt8), (48 : UInt8), (48 : UInt8), (48 : UInt8), (48 : UInt8), (48 : UInt8), (48 : UInt8), (48 : UInt8), (48 : UInt8), (48 : UInt8), (48 : UInt8), (48 : UInt8), (48 : UInt8), (48 : UInt8), (48 : UInt8), (48 : UInt8), (48 : UInt8), (48 : UInt8), (48 : UInt8), (48 : UInt8), (48 : UInt8), (48 : UInt8), (48 : UInt8), (48 : UInt8), (48 : UInt8), (48 : UInt8)] x0).bind fun v26 => (bif (Dv.PV.toB v26) then (strings_Repeat_c25 x1) else (strings_Repeat_c26 x0 x1))) else (strings_Repeat_c26 x0 x1)) :=
  (runW_eq EE _ _).trans (by kernel_rfl)
theorem strings_Repeat_c37_eq (x0 : List UInt8) (x1 : Int) (x2 : Int) (x3 : List PV) : strings_Repeat_c37 x0 x1 x2 x3 =
    ((Dv.appL 1 x3 (List.map Dv.byteV x0)).bind fun v27 => (strings_Repeat_c38 x1 x2 v27)) :=
  (runW_eq EE _ _).trans (by kernel_rfl)
theorem strings_Repeat_c37_1_eq (x0 : List UInt8) (x1 : Int) (x2 : Int) : strings_Repeat_c37_1 x0 x1 x2 =
    ((Dv.appL 1 [] (List.map Dv.byteV x0)).bind fun v28 => (strings_Repeat_c38 x1 x2 v28)) :=
  (runW_eq EE _ _).trans (by kernel_rfl)
theorem strings_Repeat_c25_eq (x0 : Int) : strings_Repeat_c25 x0 =
    ((Dv.takeS [(48 : UInt8), (48 : UInt8), (48 : UInt8), (48 : UInt8), (48 : UInt8), (48 : UInt8), (48 : UInt8), (48 : UInt8), (48 : UInt8), (48 : UInt8), (48 : UInt8), (48 : UInt8), (48 : UInt8), (48 : UInt8), (48 : UInt8), (48 : UInt8), (48 : UInt8), (48 : UInt8), (48 : UInt8), (48 : UInt8), (48 : UInt8), (48 : UInt8), (48 : UInt8), (48 : UInt8), (48 : UInt8), (48 : UInt8), (48 : UInt8), (48 : UInt8), (48 : UInt8), (48 : UInt8), (48 : UInt8), (48 : UInt8), (48 : UInt8), (48 : UInt8), (48 : UInt8), (48 : UInt8), (48 : UInt8), (48 : UInt8), (48 : UInt8), (48 : UInt8), (48 : UInt8), (48 : UInt8), (48 : UInt8), (48 : UInt8), (48 : UInt8), (48 : UInt8), (48 : UInt8), (48 : UInt8), (48 : UInt8), (48 : UInt8), (48 : UInt8), (48 : UInt8), (48 : UInt8), (48 : UInt8), (48 : UInt8), (48 : UInt8), (48 : UInt8), (48 : UInt8), (48 : UInt8), (48 : UInt8), (48 : UInt8), (48 : UInt8), (48 : UInt8), (48 : UInt8)] x0).bind fun v29 => (some (Dv.PV.str v29))) :=
  (runW_eq EE _ _).trans (by kernel_rfl)
theorem strings_Repeat_c26_eq (x0 : List UInt8) (x1 : Int) : strings_Repeat_c26 x0 x1 =
    (bif (Dv.leB x1 (128 : Int)) then ((strings_HasPrefix [(61 : UInt8), (61 : UInt8), (61 : UInt8), (61 : UInt8), (61 : UInt8), (61 : UInt8), (61 : UInt8), (61 : UInt8), (61 : UInt8), (61 : UInt8), (61 : UInt8), (61 : UInt8), (61 : UInt8), (61 : UInt8), (61 : UInt8), (61 : UInt8), (61 : UInt8), (61 : UInt8), (61 : UInt8), (61 : UInt8), (61 : UInt8), (61 : UInt8), (61 : UInt8), (61 : UInt8), (61 : UInt8), (61 : UInt8), (61 : UInt8), (61 : UInt8), (61 : UInt8), (61 : UInt8), (61 : UInt8), (61 : UInt8), (61 : UInt8), (61 : UInt8), (61 : UInt8), (61 : UInt8), (61 : UInt8), (61 : UInt8), (61 : UInt8), (61 : UInt8), (61 : UInt8), (61 : UInt8), (61 : UInt8), (61 : UInt8), (61 : UInt8), (61 : UInt8), (61 : UInt8), (61 : UInt8), (61 : UInt8), (61 : UInt8), (61 : UInt8), (61 : UInt8), (61 : UInt8), (61 : UInt8), (61 : UInt8), (61 : UInt8), (61 : UInt8), (61 : UInt8), (61 : UInt8), (61 : UInt8), (61 : UInt8), (61 : UInt8), (61 : UInt8), (61 : UInt8), (61 : UInt8), (61 : UInt8), (61 : UInt8), (61 : UInt8), (61 : UInt8), (61 : UInt8), (61 : UInt8), (61 : UInt8), (61 : UInt8), (61 : UInt8), (61 : UInt8), (61 : UInt8), (61 : UInt8), (61 : UInt8), (61 : UInt8), (61 : UInt8), (61 : UInt8), (61 : UInt8), (61 : UInt8), (61 : UInt8), (61 : UInt8), (61 : UInt8), (61 : UInt8), (61 : UInt8), (61 : UInt8), (61 : UInt8), (61 : UInt8), (61 : UInt8), (61 : UInt8), (61 : UInt8), (61 : UInt8), (61 : UInt8), (61 : UInt8), (61 : UInt8), (61 : UInt8), (61 : UInt8), (61 : UInt8), (61 : UInt8), (61 : UInt8), (61 : UInt8), (61 : UInt8), (61 : UInt8), (61 : UInt8), (61 : UInt8), (61 : UInt8), (61 : UInt8), (61 : UInt8), (61 : UInt8), (61 : UInt8), (61 : UInt8), (61 : UInt8), (61 : UInt8), (61 : UInt8), (61 : UInt8), (61 : UInt8), (61 : UInt8), (61 : UInt8), (61 : UInt8), (61 : UInt8), (61 : UInt8), (61 : UInt8), (61 : UInt8), (61 : UInt8), (61 : UInt8)] x0).bind fun v30 => (bif (Dv.PV.toB v30) then (strings_Repeat_c27 x1) else (strings_Repeat_c28 x0 x1))) else (strings_Repeat_c28 x0 x1)) :=
  (runW_eq EE _ _).trans (by kernel_rfl)
theorem strings_Repeat_c38_eq (x0 : Int) (x1 : Int) (x2 : List PV) : strings_Repeat_c38 x0 x1 x2 =
    (bif (Dv.ltB (((List.length x2) : Nat) : Int) x0) then (strings_Repeat_c39 x0 x1 x2) else (bif (Dv.isNilL x2) then none else (bif (Bool.true && (!(Dv.isNilL x2))) then (bif (decide (((((List.length x2) : Nat) : Int) = (((List.length x2) : Nat) : Int)) ∧ ((((List.length x2) : Nat) : Int) ≤ (9223372036854775807 : Int)))) then ((Dv.bytesOf x2).bind fun v31 => (some (Dv.PV.str v31))) else none) else none))) :=
  (runW_eq EE _ _).trans (by kernel_rfl)
theorem strings_Repeat_c27_eq (x0 : Int) : strings_Repeat_c27 x0 =
    ((Dv.takeS [(61 : UInt8), (61 : UInt8), (61 : UInt8), (61 : UInt8), (61 : UInt8), (61 : UInt8), (61 : UInt8), (61 : UInt8), (61 : UInt8), (61 : UInt8), (61 : UInt8), (61 : UInt8), (61 : UInt8), (61 : UInt8), (61 : UInt8), (61 : UInt8), (61 : UInt8), (61 : UInt8), (61 : UInt8), (61 : UInt8), (61 : UInt8), (61 : UInt8), (61 : UInt8), (61 : UInt8), (61 : UInt8), (61 : UInt8), (61 : UInt8), (61 : UInt8), (61 : UInt8), (61 : UInt8), (61 : UInt8), (61 : UInt8), (61 : UInt8), (61 : UInt8), (61 : UInt8), (61 : UInt8), (61 : UInt8), (61 : UInt8), (61 : UInt8), (61 : UInt8), (61 : UInt8), (61 : UInt8), (61 : UInt8), (61 : UInt8), (61 : UInt8), (61 : UInt8), (61 : UInt8), (61 : UInt8), (61 : UInt8), (61 : UInt8), (61 : UInt8), (61 : UInt8), (61 : UInt8), (61 : UInt8), (61 : UInt8), (61 : UInt8), (61 : UInt8), (61 : UInt8), (61 : UInt8), (61 : UInt8), (61 : UInt8), (61 : UInt8), (61 : UInt8), (61 : UInt8), (61 : UInt8), (61 : UInt8), (61 : UInt8), (61 : UInt8), (61 : UInt8), (61 : UInt8), (61 : UInt8), (61 : UInt8), (61 : UInt8), (61 : UInt8), (61 : UInt8), (61 : UInt8), (61 : UInt8), (61 : UInt8), (61 : UInt8), (61 : UInt8), (61 : UInt8), (61 : UInt8), (61 : UInt8), (61 : UInt8), (61 : UInt8), (61 : UInt8), (61 : UInt8), (61 : UInt8), (61 : UInt8), (61 : UInt8), (61 : UInt8), (61 : UInt8), (61 : UInt8), (61 : UInt8), (61 : UInt8), (61 : UInt8), (61 : UInt8), (61 : UInt8), (61 : UInt8), (61 : UInt8), (61 : UInt8), (61 : UInt8), (61 : UInt8), (61 : UInt8), (61 : UInt8), (61 : UInt8), (61 : UInt8), (61 : UInt8), (61 : UInt8), (61 : UInt8), (61 : UInt8), (61 : UInt8), (61 : UInt8), (61 : UInt8), (61 : UInt8), (61 : UInt8), (61 : UInt8), (61 : UInt8), (61 : UInt8), (61 : UInt8), (61 : UInt8), (61 : UInt8), (61 : UInt8), (61 : UInt8), (61 : UInt8), (61 : UInt8), (61 : UInt8), (61 : UInt8)] x0).bind fun v32 => (some (Dv.PV.str v32))) :=
  (runW_eq EE _ _).trans (by kernel_rfl)
theorem strings_Repeat_c28_eq (x0 : List UInt8) (x1 : Int) : strings_Repeat_c28 x0 x1 =
    (bif (Dv.leB x1 (64 : Int)) then ((strings_HasPrefix [(9 : UInt8), (9 : UInt8), (9 : UInt8), (9 : UInt8), (9 : UInt8), (9 : UInt8), (9 : UInt8), (9 : UInt8), (9 : UInt8), (9 : UInt8), (9 : UInt8), (9 : UInt8), (9 : UInt8), (9 : UInt8), (9 : UInt8), (9 : UInt8), (9 : UInt8), (9 : UInt8), (9 : UInt8), (9 : UInt8), (9 : UInt8), (9 : UInt8), (9 : UInt8), (9 : UInt8), (9 : UInt8), (9 : UInt8), (9 : UInt8), (9 : UInt8), (9 : UInt8), (9 : UInt8), (9 : UInt8), (9 : UInt8), (9 : UInt8), (9 : UInt8), (9 : UInt8), (9 : UInt8), (9 : UInt8), (9 : UInt8), (9 : UInt8), (9 : UInt8), (9 : UInt8), (9 : UInt8), (9 : UInt8), (9 : UInt8), (9 : UInt8), (9 : UInt8), (9 : UInt8), (9 : UInt8), (9 : UInt8), (9 : UInt8), (9 : UInt8), (9 : UInt8), (9 : UInt8), (9 : UInt8), (9 : UInt8), (9 : UInt8), (9 : UInt8), (9 : UInt8), (9 : UInt8), (9 : UInt8), (9 : UInt8), (9 : UInt8), (9 : UInt8), (9 : UInt8)] x0).bind fun v33 => (bif (Dv.PV.toB v33) then (strings_Repeat_c29 x1) else (strings_Repeat_c30 x0 x1))) else (strings_Repeat_c30 x0 x1)) :=
  (runW_eq EE _ _).trans (by kernel_rfl)
theorem strings_Repeat_c39_eq (x0 : Int) (x1 : Int) (x2 : List PV) : strings_Repeat_c39 x0 x1 x2 =
    (bif (Dv.isNilL x2) then none else (bif (Bool.true && (!(Dv.isNilL x2))) then (bif (decide (((((List.length x2) : Nat) : Int) = (((List.length x2) : Nat) : Int)) ∧ ((((List.length x2) : Nat) : Int) ≤ (9223372036854775807 : Int)))) then ((Dv.bytesOf x2).bind fun v34 => ((Dv.takeS v34 (Dv.minI (Dv.minI (Go.IntKind.wrap Go.IntKind.i64 (x0 - (((List.length x2) : Nat) : Int))) (((List.length x2) : Nat) : Int)) x1)).bind fun v35 => none)) else none) else none)) :=
  (runW_eq EE _ _).trans (by kernel_rfl)
theorem strings_Repeat_c29_eq (x0 : Int) : strings_Repeat_c29 x0 =
    ((Dv.takeS [(9 : UInt8), (9 : UInt8), (9 : UInt8), (9 : UInt8), (9 : UInt8), (9 : UInt8), (9 : UInt8), (9 : UInt8), (9 : UInt8), (9 : UInt8), (9 : UInt8), (9 : UInt8), (9 : UInt8), (9 : UInt8), (9 : UInt8), (9 : UInt8), (9 : UInt8), (9 : UInt8), (9 : UInt8), (9 : UInt8), (9 : UInt8), (9 : UInt8), (9 : UInt8), (9 : UInt8), (9 : UInt8), (9 : UInt8), (9 : UInt8), (9 : UInt8), (9 : UInt8), (9 : UInt8), (9 : UInt8), (9 : UInt8), (9 : UInt8), (9 : UInt8), (9 : UInt8), (9 : UInt8), (9 : UInt8), (9 : UInt8), (9 : UInt8), (9 : UInt8), (9 : UInt8), (9 : UInt8), (9 : UInt8), (9 : UInt8), (9 : UInt8), (9 : UInt8), (9 : UInt8), (9 : UInt8), (9 : UInt8), (9 : UInt8), (9 : UInt8), (9 : UInt8), (9 : UInt8), (9 : UInt8), (9 : UInt8), (9 : UInt8), (9 : UInt8), (9 : UInt8), (9 : UInt8), (9 : UInt8), (9 : UInt8), (9 : UInt8), (9 : UInt8), (9 : UInt8)] x0).bind fun v36 => (some (Dv.PV.str v36))) :=
  (runW_eq EE _ _).trans (by kernel_rfl)

theorem stringslite_Index_eq (a0 : List UInt8) (a1 : List UInt8) : stringslite_Index a0 a1 =
    (bif (Dv.eqB (((List.length a1) : Nat) : Int) (0 : Int)) then stringslite_Index_c3 else (bif (Dv.eqS a1 a0) then stringslite_Index_c3 else (stringslite_Index_c4 a0 a1 (((List.length a1) : Nat) : Int)))) :=
  (callF_eq EE fn_stringslite_Index _ rfl).trans (by kernel_rfl)
theorem stringslite_Index_c3_eq  : stringslite_Index_c3  =
    (some (Dv.PV.int Go.IntKind.i64 (0 : Int))) :=
  (runW_eq EE _ _).trans (by kernel_rfl)
theorem stringslite_Index_c4_eq (x0 : List UInt8) (x1 : List UInt8) (x2 : Int) : stringslite_Index_c4 x0 x1 x2 =
    (bif (Dv.eqB x2 (1 : Int)) then ((Dv.atS x1 (0 : Int)).bind fun v65 => ((stringslite_IndexByte x0 v65).bind fun v66 => (some (Dv.PV.int Go.IntKind.i64 (Dv.PV.toI v66))))) else (bif (Dv.leB (((List.length x0) : Nat) : Int) x2) then (some (Dv.PV.int Go.IntKind.i64 (-1 : Int))) else none)) :=
  (runW_eq EE _ _).trans (by kernel_rfl)

theorem clock_parts_eq (a0 : Int) : clock_parts a0 =
    (some (Dv.PV.tuple [(Dv.PV.int Go.IntKind.i64 (Go.IntKind.wrap Go.IntKind.i64 (Go.IntKind.wrap Go.IntKind.u64 (Int.tdiv a0 (3600000000 : Int))))), (Dv.PV.int Go.IntKind.i64 (Go.IntKind.wrap Go.IntKind.i64 (Int.tmod (Go.IntKind.wrap Go.IntKind.u64 (Int.tdiv a0 (60000000 : Int))) (60 : Int)))), (Dv.PV.int Go.IntKind.i64 (Go.IntKind.wrap Go.IntKind.i64 (Int.tmod (Go.IntKind.wrap Go.IntKind.u64 (Int.tdiv a0 (1000000 : Int))) (60 : Int)))), (Dv.PV.int Go.IntKind.i64 (Go.IntKind.wrap Go.IntKind.i64 (Int.tmod a0 (1000000 : Int))))])) :=
  (callF_eq EE fn_clock_parts _ rfl).trans (by kernel_rfl)

theorem strings_Builder_Grow_eq (a0 : PV) (a1 : Int) : strings_Builder_Grow a0 a1 =
    (bif ((Dv.okOther a0) && Bool.true) then ((Dv.PV.refR a0).bind fun v72 => ((Dv.PV.refR a0).bind fun v73 => ((Dv.rdP (EE.ti ty_P_strings_Builder) a0 0).bind fun v74 => ((Dv.PV.nilOf (Dv.TD.ptr 74) (Dv.PV.opq v74 0)).bind fun v75 => (bif v75 then none else ((Dv.PV.refR a0).bind fun v76 => ((Dv.PV.refR a0).bind fun v77 => ((Dv.rdP (EE.ti ty_P_strings_Builder) a0 0).bind fun v78 => none)))))))) else none) :=
  (callF_eq EE fn_strings_Builder_Grow _ rfl).trans (by kernel_rfl)

theorem strings_Builder_WriteString_eq (a0 : PV) (a1 : List UInt8) : strings_Builder_WriteString a0 a1 =
    (bif ((Dv.okOther a0) && Bool.true) then ((Dv.PV.refR a0).bind fun v31 => ((Dv.PV.refR a0).bind fun v32 => ((Dv.rdP (EE.ti ty_P_strings_Builder) a0 0).bind fun v33 => ((Dv.PV.nilOf (Dv.TD.ptr 74) (Dv.PV.opq v33 0)).bind fun v34 => (bif v34 then none else ((Dv.PV.refR a0).bind fun v35 => ((Dv.PV.refR a0).bind fun v36 => ((Dv.rdP (EE.ti ty_P_strings_Builder) a0 0).bind fun v37 => none)))))))) else none) :=
  (callF_eq EE fn_strings_Builder_WriteString _ rfl).trans (by kernel_rfl)

theorem strings_Builder_String_eq (a0 : PV) : strings_Builder_String a0 =
    (bif ((Dv.okOther a0) && Bool.true) then ((Dv.PV.refR a0).bind fun v28 => ((Dv.PV.refR a0).bind fun v29 => ((Dv.rdP (EE.ti ty_S_uint8) a0 1).bind fun v30 => none))) else none) :=
  (callF_eq EE fn_strings_Builder_String _ rfl).trans (by kernel_rfl)

theorem clock_digits_eq (a0 : Int) (a1 : Int) : clock_digits a0 a1 =
    (clock_digits_c3 a0 a1 (20 : Int) [(Dv.PV.int Go.IntKind.u8 (0 : Int)), (Dv.PV.int Go.IntKind.u8 (0 : Int)), (Dv.PV.int Go.IntKind.u8 (0 : Int)), (Dv.PV.int Go.IntKind.u8 (0 : Int)), (Dv.PV.int Go.IntKind.u8 (0 : Int)), (Dv.PV.int Go.IntKind.u8 (0 : Int)), (Dv.PV.int Go.IntKind.u8 (0 : Int)), (Dv.PV.int Go.IntKind.u8 (0 : Int)), (Dv.PV.int Go.IntKind.u8 (0 : Int)), (Dv.PV.int Go.IntKind.u8 (0 : Int)), (Dv.PV.int Go.IntKind.u8 (0 : Int)), (Dv.PV.int Go.IntKind.u8 (0 : Int)), (Dv.PV.int Go.IntKind.u8 (0 : Int)), (Dv.PV.int Go.IntKind.u8 (0 : Int)), (Dv.PV.int Go.IntKind.u8 (0 : Int)), (Dv.PV.int Go.IntKind.u8 (0 : Int)), (Dv.PV.int Go.IntKind.u8 (0 : Int)), (Dv.PV.int Go.IntKind.u8 (0 : Int)), (Dv.PV.int Go.IntKind.u8 (0 : Int)), (Dv.PV.int Go.IntKind.u8 (0 : Int))] 20) :=
  (callF_eq EE fn_clock_digits _ rfl).trans (by kernel_rfl)
theorem clock_digits_c3_eq (x0 : Int) (x1 : Int) (x2 : Int) (x3 : List PV) (x4 : Nat) : clock_digits_c3 x0 x1 x2 x3 x4 =
    (bif (Dv.ltB (0 : Int) x0) then (clock_digits_c5 x0 x1 x2 x3 x4) else (bif (Dv.ltB (Go.IntKind.wrap Go.IntKind.i64 ((20 : Int) - x1)) x2) then (clock_digits_c5 x0 x1 x2 x3 x4) else (bif (Dv.eqN (List.length x3) 20) then (bif (Dv.eqN x4 20) then (bif (decide (((0 : Int) ≤ x2) ∧ (x2 ≤ ((20 : Nat) : Int)))) then ((Dv.bytesOf (List.take (20 - (Int.toNat x2)) (List.drop (Int.toNat x2) x3))).bind fun v37 => (some (Dv.PV.str v37))) else none) else none) else none))) :=
  (runW_eq EE _ _).trans (by kernel_rfl)
theorem clock_digits_c5_eq (x0 : Int) (x1 : Int) (x2 : Int) (x3 : List PV) (x4 : Nat) : clock_digits_c5 x0 x1 x2 x3 x4 =
    (bif (Dv.inB (0 : Int) (Go.IntKind.wrap Go.IntKind.i64 (x2 - (1 : Int))) ((20 : Nat) : Int)) then ((Dv.stC x3 (Int.toNat (Go.IntKind.wrap Go.IntKind.i64 (x2 - (1 : Int)))) 0 [(Dv.PV.int Go.IntKind.u8 (Go.IntKind.wrap Go.IntKind.u8 (Go.IntKind.wrap Go.IntKind.u64 ((48 : Int) + (Int.tmod x0 (10 : Int))))))]).bind fun v38 => (clock_digits_c3 (Go.IntKind.wrap Go.IntKind.u64 (Int.tdiv x0 (10 : Int))) x1 (Go.IntKind.wrap Go.IntKind.i64 (x2 - (1 : Int))) v38 x4)) else none) :=
  (runW_eq EE _ _).trans (by kernel_rfl)

theorem stringslite_TrimPrefix_eq (a0 : List UInt8) (a1 : List UInt8) : stringslite_TrimPrefix a0 a1 =
    ((stringslite_HasPrefix a0 a1).bind fun v67 => (bif (Dv.PV.toB v67) then ((Dv.dropS a0 (((List.length a1) : Nat) : Int)).bind fun v68 => (some (Dv.PV.str v68))) else (some (Dv.PV.str a0)))) :=
  (callF_eq EE fn_stringslite_TrimPrefix _ rfl).trans (by kernel_rfl)

theorem civil_Date_eq (a0 : Int) : civil_Date a0 =
    ((civil_can a0).bind fun v45 => (bif (!(Dv.PV.toB v45)) then (some (Dv.PV.tuple [(Dv.PV.int Go.IntKind.i64 (0 : Int)), (Dv.PV.int Go.IntKind.i64 (0 : Int)), (Dv.PV.int Go.IntKind.i64 (0 : Int)), (Dv.PV.int Go.IntKind.i64 (10 : Int))])) else ((civil_parts a0).bind fun v46 => (some (Dv.PV.tuple [(Dv.PV.int Go.IntKind.i64 (Dv.PV.toI (Dv.PV.tnth v46 0))), (Dv.PV.int Go.IntKind.i64 (Dv.PV.toI (Dv.PV.tnth v46 1))), (Dv.PV.int Go.IntKind.i64 (Dv.PV.toI (Dv.PV.tnth v46 2))), (Dv.PV.int Go.IntKind.i64 (0 : Int))]))))) :=
  (callF_eq EE fn_civil_Date _ rfl).trans (by kernel_rfl)

theorem bits_Mul_eq (a0 : Int) (a1 : Int) : bits_Mul a0 a1 =
    ((bits_Mul64 a0 a1).bind fun v79 => (some (Dv.PV.tuple [(Dv.PV.int Go.IntKind.u64 (Dv.PV.toI (Dv.PV.tnth v79 0))), (Dv.PV.int Go.IntKind.u64 (Dv.PV.toI (Dv.PV.tnth v79 1)))]))) :=
  (callF_eq EE fn_bits_Mul _ rfl).trans (by kernel_rfl)

theorem strings_HasPrefix_eq (a0 : List UInt8) (a1 : List UInt8) : strings_HasPrefix a0 a1 =
    ((stringslite_HasPrefix a0 a1).bind fun v38 => (some (Dv.PV.bool (Dv.PV.toB v38)))) :=
  (callF_eq EE fn_strings_HasPrefix _ rfl).trans (by kernel_rfl)

theorem strings_Builder_Len_eq (a0 : PV) : strings_Builder_Len a0 =
    (bif ((Dv.okOther a0) && Bool.true) then ((Dv.PV.refR a0).bind fun v31 => ((Dv.PV.refR a0).bind fun v32 => ((Dv.rdP (EE.ti ty_S_uint8) a0 1).bind fun v33 => (some (Dv.PV.int Go.IntKind.i64 (((List.length (Dv.PV.toL v33)) : Nat) : Int)))))) else none) :=
  (callF_eq EE fn_strings_Builder_Len _ rfl).trans (by kernel_rfl)

theorem stringslite_IndexByte_eq (a0 : List UInt8) (a1 : Int) : stringslite_IndexByte a0 a1 =
    ((callW EE ([(Dv.tiInt Go.IntKind.i64)]) (Dv.PV.func (Go.Fn.func fn_bytealg_IndexByteString) [] []) [(Dv.PV.str a0), (Dv.PV.int Go.IntKind.u8 a1)]).bind fun v39 => (some (Dv.PV.int Go.IntKind.i64 (Dv.PV.toI v39)))) :=
  (callF_eq EE fn_stringslite_IndexByte _ rfl).trans (by kernel_rfl)

theorem bytealg_Cutover_eq (a0 : Int) : bytealg_Cutover a0 =
    (some (Dv.PV.int Go.IntKind.i64 (Go.IntKind.wrap Go.IntKind.i64 (Int.tdiv (Go.IntKind.wrap Go.IntKind.i64 (a0 + (16 : Int))) (8 : Int))))) :=
  (callF_eq EE fn_bytealg_Cutover _ rfl).trans (by kernel_rfl)

theorem bytealg_IndexRabinKarp_string_eq (a0 : List UInt8) (a1 : List UInt8) : bytealg_IndexRabinKarp_string a0 a1 =
    ((bytealg_hashStr_string a1).bind fun v47 => (bytealg_IndexRabinKarp_string_c5 a0 a1 (Dv.PV.toI (Dv.PV.tnth v47 0)) (Dv.PV.toI (Dv.PV.tnth v47 1)) (((List.length a1) : Nat) : Int) (0 : Int) (0 : Int))) :=
  (callF_eq EE fn_bytealg_IndexRabinKarp_string _ rfl).trans (by kernel_rfl)
theorem bytealg_IndexRabinKarp_string_c5_eq (x0 : List UInt8) (x1 : List UInt8) (x2 : Int) (x3 : Int) (x4 : Int) (x5 : Int) (x6 : Int) : bytealg_IndexRabinKarp_string_c5 x0 x1 x2 x3 x4 x5 x6 =
    (bif (Dv.ltB x6 x4) then ((Dv.atS x0 x6).bind fun v48 => (bytealg_IndexRabinKarp_string_c5 x0 x1 x2 x3 x4 (Go.IntKind.wrap Go.IntKind.u32 ((Go.IntKind.wrap Go.IntKind.u32 (x5 * (16777619 : Int))) + (Go.IntKind.wrap Go.IntKind.u32 v48))) (Go.IntKind.wrap Go.IntKind.i64 (x6 + (1 : Int))))) else (bif (Dv.eqB x5 x2) then ((Dv.takeS x0 x4).bind fun v49 => (bif (Dv.eqS v49 x1) then bytealg_IndexRabinKarp_string_c9 else (bytealg_IndexRabinKarp_string_c10 x0 x1 x2 x3 x4 x5))) else (bytealg_IndexRabinKarp_string_c10 x0 x1 x2 x3 x4 x5))) :=
  (runW_eq EE _ _).trans (by kernel_rfl)
theorem bytealg_IndexRabinKarp_string_c9_eq  : bytealg_IndexRabinKarp_string_c9  =
    (some (Dv.PV.int Go.IntKind.i64 (0 : Int))) :=
  (runW_eq EE _ _).trans (by kernel_rfl)
theorem bytealg_IndexRabinKarp_string_c10_eq (x0 : List UInt8) (x1 : List UInt8) (x2 : Int) (x3 : Int) (x4 : Int) (x5 : Int) : bytealg_IndexRabinKarp_string_c10 x0 x1 x2 x3 x4 x5 =
    (bytealg_IndexRabinKarp_string_c11 x0 x1 x2 x3 x4 x5 x4) :=
  (runW_eq EE _ _).trans (by kernel_rfl)
theorem bytealg_IndexRabinKarp_string_c11_eq (x0 : List UInt8) (x1 : List UInt8) (x2 : Int) (x3 : Int) (x4 : Int) (x5 : Int) (x6 : Int) : bytealg_IndexRabinKarp_string_c11 x0 x1 x2 x3 x4 x5 x6 =
    (bif (Dv.ltB x6 (((List.length x0) : Nat) : Int)) then ((Dv.atS x0 x6).bind fun v50 => ((Dv.atS x0 (Go.IntKind.wrap Go.IntKind.i64 (x6 - x4))).bind fun v51 => (bif (Dv.eqB (Go.IntKind.wrap Go.IntKind.u32 ((Go.IntKind.wrap Go.IntKind.u32 ((Go.IntKind.wrap Go.IntKind.u32 (x5 * (16777619 : Int))) + (Go.IntKind.wrap Go.IntKind.u32 v50))) - (Go.IntKind.wrap Go.IntKind.u32 (x3 * (Go.IntKind.wrap Go.IntKind.u32 v51))))) x2) then ((Dv.subS x0 (Go.IntKind.wrap Go.IntKind.i64 ((Go.IntKind.wrap Go.IntKind.i64 (x6 + (1 : Int))) - x4)) (Go.IntKind.wrap Go.IntKind.i64 (x6 + (1 : Int)))).bind fun v52 => (bif (Dv.eqS v52 x1) then (some (Dv.PV.int Go.IntKind.i64 (Go.IntKind.wrap Go.IntKind.i64 ((Go.IntKind.wrap Go.IntKind.i64 (x6 + (1 : Int))) - x4)))) else (bytealg_IndexRabinKarp_string_c11 x0 x1 x2 x3 x4 (Go.IntKind.wrap Go.IntKind.u32 ((Go.IntKind.wrap Go.IntKind.u32 ((Go.IntKind.wrap Go.IntKind.u32 (x5 * (16777619 : Int))) + (Go.IntKind.wrap Go.IntKind.u32 v50))) - (Go.IntKind.wrap Go.IntKind.u32 (x3 * (Go.IntKind.wrap Go.IntKind.u32 v51))))) (Go.IntKind.wrap Go.IntKind.i64 (x6 + (1 : Int)))))) else (bytealg_IndexRabinKarp_string_c11 x0 x1 x2 x3 x4 (Go.IntKind.wrap Go.IntKind.u32 ((Go.IntKind.wrap Go.IntKind.u32 ((Go.IntKind.wrap Go.IntKind.u32 (x5 * (16777619 : Int))) + (Go.IntKind.wrap Go.IntKind.u32 v50))) - (Go.IntKind.wrap Go.IntKind.u32 (x3 * (Go.IntKind.wrap Go.IntKind.u32 v51))))) (Go.IntKind.wrap Go.IntKind.i64 (x6 + (1 : Int))))))) else (some (Dv.PV.int Go.IntKind.i64 (-1 : Int)))) :=
  (runW_eq EE _ _).trans (by kernel_rfl)

theorem strings_Builder_copyCheck_eq (a0 : PV) : strings_Builder_copyCheck a0 =
    (bif ((Dv.okOther a0) && Bool.true) then ((Dv.PV.refR a0).bind fun v80 => ((Dv.PV.refR a0).bind fun v81 => ((Dv.rdP (EE.ti ty_P_strings_Builder) a0 0).bind fun v82 => ((Dv.PV.nilOf (Dv.TD.ptr 74) (Dv.PV.opq v82 0)).bind fun v83 => (bif v83 then none else ((Dv.PV.refR a0).bind fun v84 => ((Dv.PV.refR a0).bind fun v85 => ((Dv.rdP (EE.ti ty_P_strings_Builder) a0 0).bind fun v86 => none)))))))) else none) :=
  (callF_eq EE fn_strings_Builder_copyCheck _ rfl).trans (by kernel_rfl)

theorem strings_Builder_grow_eq (a0 : PV) (a1 : Int) : strings_Builder_grow a0 a1 =
    (bif ((Dv.okOther a0) && Bool.true) then ((Dv.PV.refR a0).bind fun v39 => ((Dv.PV.refR a0).bind fun v40 => ((Dv.rdP (EE.ti ty_S_uint8) a0 1).bind fun v41 => none))) else none) :=
  (callF_eq EE fn_strings_Builder_grow _ rfl).trans (by kernel_rfl)

theorem stringslite_HasPrefix_eq (a0 : List UInt8) (a1 : List UInt8) : stringslite_HasPrefix a0 a1 =
    (bif (Dv.leB (((List.length a1) : Nat) : Int) (((List.length a0) : Nat) : Int)) then ((Dv.takeS a0 (((List.length a1) : Nat) : Int)).bind fun v34 => (some (Dv.PV.bool (Dv.eqS v34 a1)))) else (some (Dv.PV.bool Bool.false))) :=
  (callF_eq EE fn_stringslite_HasPrefix _ rfl).trans (by kernel_rfl)

theorem civil_can_eq (a0 : Int) : civil_can a0 =
    ((civil_First).bind fun v40 => (bif (Dv.leB (Dv.PV.toI v40) a0) then ((civil_Last).bind fun v41 => (some (Dv.PV.bool (Dv.leB a0 (Dv.PV.toI v41))))) else (some (Dv.PV.bool Bool.false)))) :=
  (callF_eq EE fn_civil_can _ rfl).trans (by kernel_rfl)

theorem civil_parts_eq (a0 : Int) : civil_parts a0 =
    ((civil_floor (Go.IntKind.wrap Go.IntKind.i64 (a0 + (730425 : Int))) (146097 : Int)).bind fun v69 => (bif (Dv.leB (10 : Int) (Go.IntKind.wrap Go.IntKind.i64 (Int.tdiv (Go.IntKind.wrap Go.IntKind.i64 ((Go.IntKind.wrap Go.IntKind.i64 ((5 : Int) * (Go.IntKind.wrap Go.IntKind.i64 ((Go.IntKind.wrap Go.IntKind.i64 ((Go.IntKind.wrap Go.IntKind.i64 ((Dv.PV.toI (Dv.PV.tnth v69 1)) - (Go.IntKind.wrap Go.IntKind.i64 ((Dv.minI (Go.IntKind.wrap Go.IntKind.i64 (Int.tdiv (Dv.PV.toI (Dv.PV.tnth v69 1)) (36524 : Int))) (3 : Int)) * (36524 : Int))))) - (Go.IntKind.wrap Go.IntKind.i64 ((Go.IntKind.wrap Go.IntKind.i64 (Int.tdiv (Go.IntKind.wrap Go.IntKind.i64 ((Dv.PV.toI (Dv.PV.tnth v69 1)) - (Go.IntKind.wrap Go.IntKind.i64 ((Dv.minI (Go.IntKind.wrap Go.IntKind.i64 (Int.tdiv (Dv.PV.toI (Dv.PV.tnth v69 1)) (36524 : Int))) (3 : Int)) * (36524 : Int))))) (1461 : Int))) * (1461 : Int))))) - (Go.IntKind.wrap Go.IntKind.i64 ((Dv.minI (Go.IntKind.wrap Go.IntKind.i64 (Int.tdiv (Go.IntKind.wrap Go.IntKind.i64 ((Go.IntKind.wrap Go.IntKind.i64 ((Dv.PV.toI (Dv.PV.tnth v69 1)) - (Go.IntKind.wrap Go.IntKind.i64 ((Dv.minI (Go.IntKind.wrap Go.IntKind.i64 (Int.tdiv (Dv.PV.toI (Dv.PV.tnth v69 1)) (36524 : Int))) (3 : Int)) * (36524 : Int))))) - (Go.IntKind.wrap Go.IntKind.i64 ((Go.IntKind.wrap Go.IntKind.i64 (Int.tdiv (Go.IntKind.wrap Go.IntKind.i64 ((Dv.PV.toI (Dv.PV.tnth v69 1)) - (Go.IntKind.wrap Go.IntKind.i64 ((Dv.minI (Go.IntKind.wrap Go.IntKind.i64 (Int.tdiv (Dv.PV.toI (Dv.PV.tnth v69 1)) (36524 : Int))) (3 : Int)) * (36524 : Int))))) (1461 : Int))) * (1461 : Int))))) (365 : Int))) (3 : Int)) * (365 : Int))))))) + (2 : Int))) (153 : Int)))) then (some (Dv.PV.tuple [(Dv.PV.int Go.IntKind.i64 (Go.IntKind.wrap Go.IntKind.i64 ((Go.IntKind.wrap Go.IntKind.i64 ((Go.IntKind.wrap Go.IntKind.i64 ((Go.IntKind.wrap Go.IntKind.i64 ((Go.IntKind.wrap Go.IntKind.i64 ((Dv.PV.toI (Dv.PV.tnth v69 0)) * (400 : Int))) + (Go.IntKind.wrap Go.IntKind.i64 ((Dv.minI (Go.IntKind.wrap Go.IntKind.i64 (Int.tdiv (Dv.PV.toI (Dv.PV.tnth v69 1)) (36524 : Int))) (3 : Int)) * (100 : Int))))) + (Go.IntKind.wrap Go.IntKind.i64 ((Go.IntKind.wrap Go.IntKind.i64 (Int.tdiv (Go.IntKind.wrap Go.IntKind.i64 ((Dv.PV.toI (Dv.PV.tnth v69 1)) - (Go.IntKind.wrap Go.IntKind.i64 ((Dv.minI (Go.IntKind.wrap Go.IntKind.i64 (Int.tdiv (Dv.PV.toI (Dv.PV.tnth v69 1)) (36524 : Int))) (3 : Int)) * (36524 : Int))))) (1461 : Int))) * (4 : Int))))) + (Dv.minI (Go.IntKind.wrap Go.IntKind.i64 (Int.tdiv (Go.IntKind.wrap Go.IntKind.i64 ((Go.IntKind.wrap Go.IntKind.i64 ((Dv.PV.toI (Dv.PV.tnth v69 1)) - (Go.IntKind.wrap Go.IntKind.i64 ((Dv.minI (Go.IntKind.wrap Go.IntKind.i64 (Int.tdiv (Dv.PV.toI (Dv.PV.tnth v69 1)) (36524 : Int))) (3 : Int)) * (36524 : Int))))) - (Go.IntKind.wrap Go.IntKind.i64 ((Go.IntKind.wrap Go.IntKind.i64 (Int.tdiv (Go.IntKind.wrap Go.IntKind.i64 ((Dv.PV.toI (Dv.PV.tnth v69 1)) - (Go.IntKind.wrap Go.IntKind.i64 ((Dv.minI (Go.IntKind.wrap Go.IntKind.i64 (Int.tdiv (Dv.PV.toI (Dv.PV.tnth v69 1)) (36524 : Int))) (3 : Int)) * (36524 : Int))))) (1461 : Int))) * (1461 : Int))))) (365 : Int))) (3 : Int)))) + (1 : Int)))), (Dv.PV.int Go.IntKind.i64 (Go.IntKind.wrap Go.IntKind.i64 ((Go.IntKind.wrap Go.IntKind.i64 (Int.tdiv (Go.IntKind.wrap Go.IntKind.i64 ((Go.IntKind.wrap Go.IntKind.i64 ((5 : Int) * (Go.IntKind.wrap Go.IntKind.i64 ((Go.IntKind.wrap Go.IntKind.i64 ((Go.IntKind.wrap Go.IntKind.i64 ((Dv.PV.toI (Dv.PV.tnth v69 1)) - (Go.IntKind.wrap Go.IntKind.i64 ((Dv.minI (Go.IntKind.wrap Go.IntKind.i64 (Int.tdiv (Dv.PV.toI (Dv.PV.tnth v69 1)) (36524 : Int))) (3 : Int)) * (36524 : Int))))) - (Go.IntKind.wrap Go.IntKind.i64 ((Go.IntKind.wrap Go.IntKind.i64 (Int.tdiv (Go.IntKind.wrap Go.IntKind.i64 ((Dv.PV.toI (Dv.PV.tnth v69 1)) - (Go.IntKind.wrap Go.IntKind.i64 ((Dv.minI (Go.IntKind.wrap Go.IntKind.i64 (Int.tdiv (Dv.PV.toI (Dv.PV.tnth v69 1)) (36524 : Int))) (3 : Int)) * (36524 : Int))))) (1461 : Int))) * (1461 : Int))))) - (Go.IntKind.wrap Go.IntKind.i64 ((Dv.minI (Go.IntKind.wrap Go.IntKind.i64 (Int.tdiv (Go.IntKind.wrap Go.IntKind.i64 ((Go.IntKind.wrap Go.IntKind.i64 ((Dv.PV.toI (Dv.PV.tnth v69 1)) - (Go.IntKind.wrap Go.IntKind.i64 ((Dv.minI (Go.IntKind.wrap Go.IntKind.i64 (Int.tdiv (Dv.PV.toI (Dv.PV.tnth v69 1)) (36524 : Int))) (3 : Int)) * (36524 : Int))))) - (Go.IntKind.wrap Go.IntKind.i64 ((Go.IntKind.wrap Go.IntKind.i64 (Int.tdiv (Go.IntKind.wrap Go.IntKind.i64 ((Dv.PV.toI (Dv.PV.tnth v69 1)) - (Go.IntKind.wrap Go.IntKind.i64 ((Dv.minI (Go.IntKind.wrap Go.IntKind.i64 (Int.tdiv (Dv.PV.toI (Dv.PV.tnth v69 1)) (36524 : Int))) (3 : Int)) * (36524 : Int))))) (1461 : Int))) * (1461 : Int))))) (365 : Int))) (3 : Int)) * (365 : Int))))))) + (2 : Int))) (153 : Int))) - (9 : Int)))), (Dv.PV.int Go.IntKind.i64 (Go.IntKind.wrap Go.IntKind.i64 ((Go.IntKind.wrap Go.IntKind.i64 ((Go.IntKind.wrap Go.IntKind.i64 ((Go.IntKind.wrap Go.IntKind.i64 ((Go.IntKind.wrap Go.IntKind.i64 ((Dv.PV.toI (Dv.PV.tnth v69 1)) - (Go.IntKind.wrap Go.IntKind.i64 ((Dv.minI (Go.IntKind.wrap Go.IntKind.i64 (Int.tdiv (Dv.PV.toI (Dv.PV.tnth v69 1)) (36524 : Int))) (3 : Int)) * (36524 : Int))))) - (Go.IntKind.wrap Go.IntKind.i64 ((Go.IntKind.wrap Go.IntKind.i64 (Int.tdiv (Go.IntKind.wrap Go.IntKind.i64 ((Dv.PV.toI (Dv.PV.tnth v69 1)) - (Go.IntKind.wrap Go.IntKind.i64 ((Dv.minI (Go.IntKind.wrap Go.IntKind.i64 (Int.tdiv (Dv.PV.toI (Dv.PV.tnth v69 1)) (36524 : Int))) (3 : Int)) * (36524 : Int))))) (1461 : Int))) * (1461 : Int))))) - (Go.IntKind.wrap Go.IntKind.i64 ((Dv.minI (Go.IntKind.wrap Go.IntKind.i64 (Int.tdiv (Go.IntKind.wrap Go.IntKind.i64 ((Go.IntKind.wrap Go.IntKind.i64 ((Dv.PV.toI (Dv.PV.tnth v69 1)) - (Go.IntKind.wrap Go.IntKind.i64 ((Dv.minI (Go.IntKind.wrap Go.IntKind.i64 (Int.tdiv (Dv.PV.toI (Dv.PV.tnth v69 1)) (36524 : Int))) (3 : Int)) * (36524 : Int))))) - (Go.IntKind.wrap Go.IntKind.i64 ((Go.IntKind.wrap Go.IntKind.i64 (Int.tdiv (Go.IntKind.wrap Go.IntKind.i64 ((Dv.PV.toI (Dv.PV.tnth v69 1)) - (Go.IntKind.wrap Go.IntKind.i64 ((Dv.minI (Go.IntKind.wrap Go.IntKind.i64 (Int.tdiv (Dv.PV.toI (Dv.PV.tnth v69 1)) (36524 : Int))) (3 : Int)) * (36524 : Int))))) (1461 : Int))) * (1461 : Int))))) (365 : Int))) (3 : Int)) * (365 : Int))))) - (Go.IntKind.wrap Go.IntKind.i64 (Int.tdiv (Go.IntKind.wrap Go.IntKind.i64 ((Go.IntKind.wrap Go.IntKind.i64 ((153 : Int) * (Go.IntKind.wrap Go.IntKind.i64 (Int.tdiv (Go.IntKind.wrap Go.IntKind.i64 ((Go.IntKind.wrap Go.IntKind.i64 ((5 : Int) * (Go.IntKind.wrap Go.IntKind.i64 ((Go.IntKind.wrap Go.IntKind.i64 ((Go.IntKind.wrap Go.IntKind.i64 ((Dv.PV.toI (Dv.PV.tnth v69 1)) - (Go.IntKind.wrap Go.IntKind.i64 ((Dv.minI (Go.IntKind.wrap Go.IntKind.i64 (Int.tdiv (Dv.PV.toI (Dv.PV.tnth v69 1)) (36524 : Int))) (3 : Int)) * (36524 : Int))))) - (Go.IntKind.wrap Go.IntKind.i64 ((Go.IntKind.wrap Go.IntKind.i64 (Int.tdiv (Go.IntKind.wrap Go.IntKind.i64 ((Dv.PV.toI (Dv.PV.tnth v69 1)) - (Go.IntKind.wrap Go.IntKind.i64 ((Dv.minI (Go.IntKind.wrap Go.IntKind.i64 (Int.tdiv (Dv.PV.toI (Dv.PV.tnth v69 1)) (36524 : Int))) (3 : Int)) * (36524 : Int))))) (1461 : Int))) * (1461 : Int))))) - (Go.IntKind.wrap Go.IntKind.i64 ((Dv.minI (Go.IntKind.wrap Go.IntKind.i64 (Int.tdiv (Go.IntKind.wrap Go.IntKind.i64 ((Go.IntKind.wrap Go.IntKind.i64 ((Dv.PV.toI (Dv.PV.tnth v69 1)) - (Go.IntKind.wrap Go.IntKind.i64 ((Dv.minI (Go.IntKind.wrap Go.IntKind.i64 (Int.tdiv (Dv.PV.toI (Dv.PV.tnth v69 1)) (36524 : Int))) (3 : Int)) * (36524 : Int))))) - (Go.IntKind.wrap Go.IntKind.i64 ((Go.IntKind.wrap Go.IntKind.i64 (Int.tdiv (Go.IntKind.wrap Go.IntKind.i64 ((Dv.PV.toI (Dv.PV.tnth v69 1)) - (Go.IntKind.wrap Go.IntKind.i64 ((Dv.minI (Go.IntKind.wrap Go.IntKind.i64 (Int.tdiv (Dv.PV.toI (Dv.PV.tnth v69 1)) (36524 : Int))) (3 : Int)) * (36524 : Int))))) (1461 : Int))) * (1461 : Int))))) (365 : Int))) (3 : Int)) * (365 : Int))))))) + (2 : Int))) (153 : Int))))) + (2 : Int))) (5 : Int))))) + (1 : Int))))])) else (some (Dv.PV.tuple [(Dv.PV.int Go.IntKind.i64 (Go.IntKind.wrap Go.IntKind.i64 ((Go.IntKind.wrap Go.IntKind.i64 ((Go.IntKind.wrap Go.IntKind.i64 ((Go.IntKind.wrap Go.IntKind.i64 ((Dv.PV.toI (Dv.PV.tnth v69 0)) * (400 : Int))) + (Go.IntKind.wrap Go.IntKind.i64 ((Dv.minI (Go.IntKind.wrap Go.IntKind.i64 (Int.tdiv (Dv.PV.toI (Dv.PV.tnth v69 1)) (36524 : Int))) (3 : Int)) * (100 : Int))))) + (Go.IntKind.wrap Go.IntKind.i64 ((Go.IntKind.wrap Go.IntKind.i64 (Int.tdiv (Go.IntKind.wrap Go.IntKind.i64 ((Dv.PV.toI (Dv.PV.tnth v69 1)) - (Go.IntKind.wrap Go.IntKind.i64 ((Dv.minI (Go.IntKind.wrap Go.IntKind.i64 (Int.tdiv (Dv.PV.toI (Dv.PV.tnth v69 1)) (36524 : Int))) (3 : Int)) * (36524 : Int))))) (1461 : Int))) * (4 : Int))))) + (Dv.minI (Go.IntKind.wrap Go.IntKind.i64 (Int.tdiv (Go.IntKind.wrap Go.IntKind.i64 ((Go.IntKind.wrap Go.IntKind.i64 ((Dv.PV.toI (Dv.PV.tnth v69 1)) - (Go.IntKind.wrap Go.IntKind.i64 ((Dv.minI (Go.IntKind.wrap Go.IntKind.i64 (Int.tdiv (Dv.PV.toI (Dv.PV.tnth v69 1)) (36524 : Int))) (3 : Int)) * (36524 : Int))))) - (Go.IntKind.wrap Go.IntKind.i64 ((Go.IntKind.wrap Go.IntKind.i64 (Int.tdiv (Go.IntKind.wrap Go.IntKind.i64 ((Dv.PV.toI (Dv.PV.tnth v69 1)) - (Go.IntKind.wrap Go.IntKind.i64 ((Dv.minI (Go.IntKind.wrap Go.IntKind.i64 (Int.tdiv (Dv.PV.toI (Dv.PV.tnth v69 1)) (36524 : Int))) (3 : Int)) * (36524 : Int))))) (1461 : Int))) * (1461 : Int))))) (365 : Int))) (3 : Int))))), (Dv.PV.int Go.IntKind.i64 (Go.IntKind.wrap Go.IntKind.i64 ((Go.IntKind.wrap Go.IntKind.i64 (Int.tdiv (Go.IntKind.wrap Go.IntKind.i64 ((Go.IntKind.wrap Go.IntKind.i64 ((5 : Int) * (Go.IntKind.wrap Go.IntKind.i64 ((Go.IntKind.wrap Go.IntKind.i64 ((Go.IntKind.wrap Go.IntKind.i64 ((Dv.PV.toI (Dv.PV.tnth v69 1)) - (Go.IntKind.wrap Go.IntKind.i64 ((Dv.minI (Go.IntKind.wrap Go.IntKind.i64 (Int.tdiv (Dv.PV.toI (Dv.PV.tnth v69 1)) (36524 : Int))) (3 : Int)) * (36524 : Int))))) - (Go.IntKind.wrap Go.IntKind.i64 ((Go.IntKind.wrap Go.IntKind.i64 (Int.tdiv (Go.IntKind.wrap Go.IntKind.i64 ((Dv.PV.toI (Dv.PV.tnth v69 1)) - (Go.IntKind.wrap Go.IntKind.i64 ((Dv.minI (Go.IntKind.wrap Go.IntKind.i64 (Int.tdiv (Dv.PV.toI (Dv.PV.tnth v69 1)) (36524 : Int))) (3 : Int)) * (36524 : Int))))) (1461 : Int))) * (1461 : Int))))) - (Go.IntKind.wrap Go.IntKind.i64 ((Dv.minI (Go.IntKind.wrap Go.IntKind.i64 (Int.tdiv (Go.IntKind.wrap Go.IntKind.i64 ((Go.IntKind.wrap Go.IntKind.i64 ((Dv.PV.toI (Dv.PV.tnth v69 1)) - (Go.IntKind.wrap Go.IntKind.i64 ((Dv.minI (Go.IntKind.wrap Go.IntKind.i64 (Int.tdiv (Dv.PV.toI (Dv.PV.tnth v69 1)) (36524 : Int))) (3 : Int)) * (36524 : Int))))) - (Go.IntKind.wrap Go.IntKind.i64 ((Go.IntKind.wrap Go.IntKind.i64 (Int.tdiv (Go.IntKind.wrap Go.IntKind.i64 ((Dv.PV.toI (Dv.PV.tnth v69 1)) - (Go.IntKind.wrap Go.IntKind.i64 ((Dv.minI (Go.IntKind.wrap Go.IntKind.i64 (Int.tdiv (Dv.PV.toI (Dv.PV.tnth v69 1)) (36524 : Int))) (3 : Int)) * (36524 : Int))))) (1461 : Int))) * (1461 : Int))))) (365 : Int))) (3 : Int)) * (365 : Int))))))) + (2 : Int))) (153 : Int))) + (3 : Int)))), (Dv.PV.int Go.IntKind.i64 (Go.IntKind.wrap Go.IntKind.i64 ((Go.IntKind.wrap Go.IntKind.i64 ((Go.IntKind.wrap Go.IntKind.i64 ((Go.IntKind.wrap Go.IntKind.i64 ((Go.IntKind.wrap Go.IntKind.i64 ((Dv.PV.toI (Dv.PV.tnth v69 1)) - (Go.IntKind.wrap Go.IntKind.i64 ((Dv.minI (Go.IntKind.wrap Go.IntKind.i64 (Int.tdiv (Dv.PV.toI (Dv.PV.tnth v69 1)) (36524 : Int))) (3 : Int)) * (36524 : Int))))) - (Go.IntKind.wrap Go.IntKind.i64 ((Go.IntKind.wrap Go.IntKind.i64 (Int.tdiv (Go.IntKind.wrap Go.IntKind.i64 ((Dv.PV.toI (Dv.PV.tnth v69 1)) - (Go.IntKind.wrap Go.IntKind.i64 ((Dv.minI (Go.IntKind.wrap Go.IntKind.i64 (Int.tdiv (Dv.PV.toI (Dv.PV.tnth v69 1)) (36524 : Int))) (3 : Int)) * (36524 : Int))))) (1461 : Int))) * (1461 : Int))))) - (Go.IntKind.wrap Go.IntKind.i64 ((Dv.minI (Go.IntKind.wrap Go.IntKind.i64 (Int.tdiv (Go.IntKind.wrap Go.IntKind.i64 ((Go.IntKind.wrap Go.IntKind.i64 ((Dv.PV.toI (Dv.PV.tnth v69 1)) - (Go.IntKind.wrap Go.IntKind.i64 ((Dv.minI (Go.IntKind.wrap Go.IntKind.i64 (Int.tdiv (Dv.PV.toI (Dv.PV.tnth v69 1)) (36524 : Int))) (3 : Int)) * (36524 : Int))))) - (Go.IntKind.wrap Go.IntKind.i64 ((Go.IntKind.wrap Go.IntKind.i64 (Int.tdiv (Go.IntKind.wrap Go.IntKind.i64 ((Dv.PV.toI (Dv.PV.tnth v69 1)) - (Go.IntKind.wrap Go.IntKind.i64 ((Dv.minI (Go.IntKind.wrap Go.IntKind.i64 (Int.tdiv (Dv.PV.toI (Dv.PV.tnth v69 1)) (36524 : Int))) (3 : Int)) * (36524 : Int))))) (1461 : Int))) * (1461 : Int))))) (365 : Int))) (3 : Int)) * (365 : Int))))) - (Go.IntKind.wrap Go.IntKind.i64 (Int.tdiv (Go.IntKind.wrap Go.IntKind.i64 ((Go.IntKind.wrap Go.IntKind.i64 ((153 : Int) * (Go.IntKind.wrap Go.IntKind.i64 (Int.tdiv (Go.IntKind.wrap Go.IntKind.i64 ((Go.IntKind.wrap Go.IntKind.i64 ((5 : Int) * (Go.IntKind.wrap Go.IntKind.i64 ((Go.IntKind.wrap Go.IntKind.i64 ((Go.IntKind.wrap Go.IntKind.i64 ((Dv.PV.toI (Dv.PV.tnth v69 1)) - (Go.IntKind.wrap Go.IntKind.i64 ((Dv.minI (Go.IntKind.wrap Go.IntKind.i64 (Int.tdiv (Dv.PV.toI (Dv.PV.tnth v69 1)) (36524 : Int))) (3 : Int)) * (36524 : Int))))) - (Go.IntKind.wrap Go.IntKind.i64 ((Go.IntKind.wrap Go.IntKind.i64 (Int.tdiv (Go.IntKind.wrap Go.IntKind.i64 ((Dv.PV.toI (Dv.PV.tnth v69 1)) - (Go.IntKind.wrap Go.IntKind.i64 ((Dv.minI (Go.IntKind.wrap Go.IntKind.i64 (Int.tdiv (Dv.PV.toI (Dv.PV.tnth v69 1)) (36524 : Int))) (3 : Int)) * (36524 : Int))))) (1461 : Int))) * (1461 : Int))))) - (Go.IntKind.wrap Go.IntKind.i64 ((Dv.minI (Go.IntKind.wrap Go.IntKind.i64 (Int.tdiv (Go.IntKind.wrap Go.IntKind.i64 ((Go.IntKind.wrap Go.IntKind.i64 ((Dv.PV.toI (Dv.PV.tnth v69 1)) - (Go.IntKind.wrap Go.IntKind.i64 ((Dv.minI (Go.IntKind.wrap Go.IntKind.i64 (Int.tdiv (Dv.PV.toI (Dv.PV.tnth v69 1)) (36524 : Int))) (3 : Int)) * (36524 : Int))))) - (Go.IntKind.wrap Go.IntKind.i64 ((Go.IntKind.wrap Go.IntKind.i64 (Int.tdiv (Go.IntKind.wrap Go.IntKind.i64 ((Dv.PV.toI (Dv.PV.tnth v69 1)) - (Go.IntKind.wrap Go.IntKind.i64 ((Dv.minI (Go.IntKind.wrap Go.IntKind.i64 (Int.tdiv (Dv.PV.toI (Dv.PV.tnth v69 1)) (36524 : Int))) (3 : Int)) * (36524 : Int))))) (1461 : Int))) * (1461 : Int))))) (365 : Int))) (3 : Int)) * (365 : Int))))))) + (2 : Int))) (153 : Int))))) + (2 : Int))) (5 : Int))))) + (1 : Int))))])))) :=
  (callF_eq EE fn_civil_parts _ rfl).trans (by kernel_rfl)

theorem bits_Mul32_eq (a0 : Int) (a1 : Int) : bits_Mul32 a0 a1 =
    (some (Dv.PV.tuple [(Dv.PV.int Go.IntKind.u32 (Go.IntKind.wrap Go.IntKind.u32 (Dv.shrI Go.IntKind.u64 (Go.IntKind.wrap Go.IntKind.u64 ((Go.IntKind.wrap Go.IntKind.u64 a0) * (Go.IntKind.wrap Go.IntKind.u64 a1))) (32 : Int)))), (Dv.PV.int Go.IntKind.u32 (Go.IntKind.wrap Go.IntKind.u32 (Go.IntKind.wrap Go.IntKind.u64 ((Go.IntKind.wrap Go.IntKind.u64 a0) * (Go.IntKind.wrap Go.IntKind.u64 a1)))))])) :=
  (callF_eq EE fn_bits_Mul32 _ rfl).trans (by kernel_rfl)

theorem bits_Mul64_eq (a0 : Int) (a1 : Int) : bits_Mul64 a0 a1 =
    (some (Dv.PV.tuple [(Dv.PV.int Go.IntKind.u64 (Go.IntKind.wrap Go.IntKind.u64 ((Go.IntKind.wrap Go.IntKind.u64 ((Go.IntKind.wrap Go.IntKind.u64 ((Dv.shrI Go.IntKind.u64 a0 (32 : Int)) * (Dv.shrI Go.IntKind.u64 a1 (32 : Int)))) + (Dv.shrI Go.IntKind.u64 (Go.IntKind.wrap Go.IntKind.u64 ((Go.IntKind.wrap Go.IntKind.u64 ((Dv.shrI Go.IntKind.u64 a0 (32 : Int)) * (Dv.andI Go.IntKind.u64 a1 (4294967295 : Int)))) + (Dv.shrI Go.IntKind.u64 (Go.IntKind.wrap Go.IntKind.u64 ((Dv.andI Go.IntKind.u64 a0 (4294967295 : Int)) * (Dv.andI Go.IntKind.u64 a1 (4294967295 : Int)))) (32 : Int)))) (32 : Int)))) + (Dv.shrI Go.IntKind.u64 (Go.IntKind.wrap Go.IntKind.u64 ((Dv.andI Go.IntKind.u64 (Go.IntKind.wrap Go.IntKind.u64 ((Go.IntKind.wrap Go.IntKind.u64 ((Dv.shrI Go.IntKind.u64 a0 (32 : Int)) * (Dv.andI Go.IntKind.u64 a1 (4294967295 : Int)))) + (Dv.shrI Go.IntKind.u64 (Go.IntKind.wrap Go.IntKind.u64 ((Dv.andI Go.IntKind.u64 a0 (4294967295 : Int)) * (Dv.andI Go.IntKind.u64 a1 (4294967295 : Int)))) (32 : Int)))) (4294967295 : Int)) + (Go.IntKind.wrap Go.IntKind.u64 ((Dv.andI Go.IntKind.u64 a0 (4294967295 : Int)) * (Dv.shrI Go.IntKind.u64 a1 (32 : Int)))))) (32 : Int))))), (Dv.PV.int Go.IntKind.u64 (Go.IntKind.wrap Go.IntKind.u64 (a0 * a1)))])) :=
  (callF_eq EE fn_bits_Mul64 _ rfl).trans (by kernel_rfl)

theorem bytealg_hashStr_string_eq (a0 : List UInt8) : bytealg_hashStr_string a0 =
    (bytealg_hashStr_string_c3 a0 (0 : Int) (0 : Int)) :=
  (callF_eq EE fn_bytealg_hashStr_string _ rfl).trans (by kernel_rfl)
theorem bytealg_hashStr_string_c3_eq (x0 : List UInt8) (x1 : Int) (x2 : Int) : bytealg_hashStr_string_c3 x0 x1 x2 =
    (bif (Dv.ltB x2 (((List.length x0) : Nat) : Int)) then ((Dv.atS x0 x2).bind fun v42 => (bytealg_hashStr_string_c3 x0 (Go.IntKind.wrap Go.IntKind.u32 ((Go.IntKind.wrap Go.IntKind.u32 (x1 * (16777619 : Int))) + (Go.IntKind.wrap Go.IntKind.u32 v42))) (Go.IntKind.wrap Go.IntKind.i64 (x2 + (1 : Int))))) else (bytealg_hashStr_string_c8 x1 (1 : Int) (16777619 : Int) (((List.length x0) : Nat) : Int))) :=
  (runW_eq EE _ _).trans (by kernel_rfl)
theorem bytealg_hashStr_string_c8_eq (x0 : Int) (x1 : Int) (x2 : Int) (x3 : Int) : bytealg_hashStr_string_c8 x0 x1 x2 x3 =
    (bif (Dv.ltB (0 : Int) x3) then (bif (!(Dv.eqB (Dv.andI Go.IntKind.i64 x3 (1 : Int)) (0 : Int))) then (bytealg_hashStr_string_c8 x0 (Go.IntKind.wrap Go.IntKind.u32 (x1 * x2)) (Go.IntKind.wrap Go.IntKind.u32 (x2 * x2)) (Dv.shrI Go.IntKind.i64 x3 (1 : Int))) else (bytealg_hashStr_string_c8 x0 x1 (Go.IntKind.wrap Go.IntKind.u32 (x2 * x2)) (Dv.shrI Go.IntKind.i64 x3 (1 : Int)))) else (some (Dv.PV.tuple [(Dv.PV.int Go.IntKind.u32 x0), (Dv.PV.int Go.IntKind.u32 x1)]))) :=
  (runW_eq EE _ _).trans (by kernel_rfl)

theorem civil_First_eq  : civil_First  =
    ((civil_day (-4718 : Int) (1 : Int) (1 : Int)).bind fun v35 => (some (Dv.PV.int Go.IntKind.i64 (Dv.PV.toI v35)))) :=
  (callF_eq EE fn_civil_First _ rfl).trans (by kernel_rfl)

theorem civil_Last_eq  : civil_Last  =
    ((civil_day (294282 : Int) (12 : Int) (31 : Int)).bind fun v42 => (some (Dv.PV.int Go.IntKind.i64 (Dv.PV.toI v42)))) :=
  (callF_eq EE fn_civil_Last _ rfl).trans (by kernel_rfl)

theorem civil_floor_eq (a0 : Int) (a1 : Int) : civil_floor a0 a1 =
    (bif (Dv.eqB a1 (0 : Int)) then none else (bif (Dv.eqB a1 (0 : Int)) then none else (bif (Dv.ltB (Int.tmod a0 a1) (0 : Int)) then (some (Dv.PV.tuple [(Dv.PV.int Go.IntKind.i64 (Go.IntKind.wrap Go.IntKind.i64 ((Go.IntKind.wrap Go.IntKind.i64 (Int.tdiv a0 a1)) - (1 : Int)))), (Dv.PV.int Go.IntKind.i64 (Go.IntKind.wrap Go.IntKind.i64 ((Int.tmod a0 a1) + a1)))])) else (some (Dv.PV.tuple [(Dv.PV.int Go.IntKind.i64 (Go.IntKind.wrap Go.IntKind.i64 (Int.tdiv a0 a1))), (Dv.PV.int Go.IntKind.i64 (Int.tmod a0 a1))]))))) :=
  (callF_eq EE fn_civil_floor _ rfl).trans (by kernel_rfl)

theorem civil_day_eq (a0 : Int) (a1 : Int) (a2 : Int) : civil_day a0 a1 a2 =
    (bif (Dv.leB a1 (2 : Int)) then (civil_day_c3 (Go.IntKind.wrap Go.IntKind.i64 (a0 - (1 : Int))) (Go.IntKind.wrap Go.IntKind.i64 (a1 + (12 : Int))) a2) else (civil_day_c3 a0 a1 a2)) :=
  (callF_eq EE fn_civil_day _ rfl).trans (by kernel_rfl)
theorem civil_day_c3_eq (x0 : Int) (x1 : Int) (x2 : Int) : civil_day_c3 x0 x1 x2 =
    ((civil_floor x0 (400 : Int)).bind fun v53 => (some (Dv.PV.int Go.IntKind.i64 (Go.IntKind.wrap Go.IntKind.i64 ((Go.IntKind.wrap Go.IntKind.i64 ((Go.IntKind.wrap Go.IntKind.i64 ((Go.IntKind.wrap Go.IntKind.i64 ((Go.IntKind.wrap Go.IntKind.i64 ((Go.IntKind.wrap Go.IntKind.i64 ((Go.IntKind.wrap Go.IntKind.i64 ((Go.IntKind.wrap Go.IntKind.i64 ((Dv.PV.toI (Dv.PV.tnth v53 0)) * (146097 : Int))) + (Go.IntKind.wrap Go.IntKind.i64 ((Dv.PV.toI (Dv.PV.tnth v53 1)) * (365 : Int))))) + (Go.IntKind.wrap Go.IntKind.i64 (Int.tdiv (Dv.PV.toI (Dv.PV.tnth v53 1)) (4 : Int))))) - (Go.IntKind.wrap Go.IntKind.i64 (Int.tdiv (Dv.PV.toI (Dv.PV.tnth v53 1)) (100 : Int))))) + (Go.IntKind.wrap Go.IntKind.i64 (Int.tdiv (Go.IntKind.wrap Go.IntKind.i64 ((Go.IntKind.wrap Go.IntKind.i64 ((153 : Int) * (Go.IntKind.wrap Go.IntKind.i64 (x1 - (3 : Int))))) + (2 : Int))) (5 : Int))))) + x2)) - (1 : Int))) - (730425 : Int)))))) :=
  (runW_eq EE _ _).trans (by kernel_rfl)

end Dv
