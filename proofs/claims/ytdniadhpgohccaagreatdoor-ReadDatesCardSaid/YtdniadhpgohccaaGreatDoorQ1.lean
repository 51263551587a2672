/- The seat's functions, as equations. -/
import Derived.Test.YtdniadhpgohccaaGreatDoorL1
import Derived.Test.YtdniadhpgohccaaGreatDoorProg
set_option linter.unusedVariables false
set_option linter.unusedSimpArgs false
namespace Dv
open Go Go.Proofs
def tt : List TI := [
 ⟨.tuple [], 1, 0, .undef, [.other]⟩,
 ⟨.func, 1, 8, .nilfn, [.other]⟩,
 ⟨.int .i64, 1, 8, (.int .i64 0), [.int .i64]⟩,
 ⟨.int .i64, 1, 8, (.int .i64 0), [.int .i64]⟩,
 ⟨.bool, 1, 1, (.bool false), [.bool]⟩,
 ⟨.int .u8, 1, 1, (.int .u8 0), [.int .u8]⟩,
 ⟨.int .u8, 1, 1, (.int .u8 0), [.int .u8]⟩,
 ⟨.struct [(0, 2), (1, 3), (2, 4), (3, 6)], 4, 24, (.agg [(.int .i64 0), (.int .i64 0), (.bool false), (.int .u8 0)]), [.int .i64, .int .i64, .bool, .int .u8]⟩,
 ⟨.struct [(0, 2), (1, 3), (2, 4), (3, 6)], 4, 24, (.agg [(.int .i64 0), (.int .i64 0), (.bool false), (.int .u8 0)]), [.int .i64, .int .i64, .bool, .int .u8]⟩,
 ⟨.str, 1, 16, (.str []), [.str]⟩,
 ⟨.str, 1, 16, (.str []), [.str]⟩,
 ⟨.str, 1, 16, (.str []), [.str]⟩,
 ⟨.int .u64, 1, 8, (.int .u64 0), [.int .u64]⟩,
 ⟨.struct [(0, 9), (1, 12)], 2, 24, (.agg [(.str []), (.int .u64 0)]), [.str, .int .u64]⟩,
 ⟨.struct [(0, 9), (1, 12)], 2, 24, (.agg [(.str []), (.int .u64 0)]), [.str, .int .u64]⟩,
 ⟨.ptr 247, 1, 8, .nilp, [.other]⟩,
 ⟨.ptr 250, 1, 8, .nilp, [.other]⟩,
 ⟨.ptr 257, 1, 8, .nilp, [.other]⟩,
 ⟨.struct [(0, 17)], 1, 8, (.agg [.nilp]), [.other]⟩,
 ⟨.struct [(0, 17)], 1, 8, (.agg [.nilp]), [.other]⟩,
 ⟨.iface false, 1, 16, .nili, [.other]⟩,
 ⟨.int .i32, 1, 4, (.int .i32 0), [.int .i32]⟩,
 ⟨.func, 1, 8, .nilfn, [.other]⟩,
 ⟨.struct [(0, 3), (1, 2), (2, 2), (3, 2)], 4, 32, (.agg [(.int .i64 0), (.int .i64 0), (.int .i64 0), (.int .i64 0)]), [.int .i64, .int .i64, .int .i64, .int .i64]⟩,
 ⟨.struct [(0, 3), (1, 2), (2, 2), (3, 2)], 4, 32, (.agg [(.int .i64 0), (.int .i64 0), (.int .i64 0), (.int .i64 0)]), [.int .i64, .int .i64, .int .i64, .int .i64]⟩,
 ⟨.int .i64, 1, 8, (.int .i64 0), [.int .i64]⟩,
 ⟨.tuple [24, 25], 1, 0, .undef, [.other]⟩,
 ⟨.func, 1, 8, .nilfn, [.other]⟩,
 ⟨.func, 1, 8, .nilfn, [.other]⟩,
 ⟨.func, 1, 8, .nilfn, [.other]⟩,
 ⟨.struct [(0, 3), (1, 3), (2, 3)], 3, 24, (.agg [(.int .i64 0), (.int .i64 0), (.int .i64 0)]), [.int .i64, .int .i64, .int .i64]⟩,
 ⟨.struct [(0, 3), (1, 3), (2, 3)], 3, 24, (.agg [(.int .i64 0), (.int .i64 0), (.int .i64 0)]), [.int .i64, .int .i64, .int .i64]⟩,
 ⟨.struct [(0, 3), (1, 2)], 2, 16, (.agg [(.int .i64 0), (.int .i64 0)]), [.int .i64, .int .i64]⟩,
 ⟨.struct [(0, 3), (1, 2)], 2, 16, (.agg [(.int .i64 0), (.int .i64 0)]), [.int .i64, .int .i64]⟩,
 ⟨.tuple [33, 25], 1, 0, .undef, [.other]⟩,
 ⟨.func, 1, 8, .nilfn, [.other]⟩,
 ⟨.struct [(0, 3), (1, 2)], 2, 16, (.agg [(.int .i64 0), (.int .i64 0)]), [.int .i64, .int .i64]⟩,
 ⟨.struct [(0, 3), (1, 2)], 2, 16, (.agg [(.int .i64 0), (.int .i64 0)]), [.int .i64, .int .i64]⟩,
 ⟨.tuple [37, 25], 1, 0, .undef, [.other]⟩,
 ⟨.func, 1, 8, .nilfn, [.other]⟩,
 ⟨.func, 1, 8, .nilfn, [.other]⟩,
 ⟨.func, 1, 8, .nilfn, [.other]⟩,
 ⟨.tuple [9, 25], 1, 0, .undef, [.other]⟩,
 ⟨.func, 1, 8, .nilfn, [.other]⟩,
 ⟨.func, 1, 8, .nilfn, [.other]⟩,
 ⟨.func, 1, 8, .nilfn, [.other]⟩,
 ⟨.func, 1, 8, .nilfn, [.other]⟩,
 ⟨.func, 1, 8, .nilfn, [.other]⟩,
 ⟨.slice 5, 1, 24, .sl0, [.slice 1]⟩,
 ⟨.slice 9, 1, 24, .sl0, [.slice 1]⟩,
 ⟨.slice 9, 1, 24, .sl0, [.slice 1]⟩,
 ⟨.func, 1, 8, .nilfn, [.other]⟩,
 ⟨.tuple [33, 4], 1, 0, .undef, [.other]⟩,
 ⟨.func, 1, 8, .nilfn, [.other]⟩,
 ⟨.func, 1, 8, .nilfn, [.other]⟩,
 ⟨.ptr 94, 1, 8, .nilp, [.other]⟩,
 ⟨.func, 1, 8, .nilfn, [.other]⟩,
 ⟨.func, 1, 8, .nilfn, [.other]⟩,
 ⟨.func, 1, 8, .nilfn, [.other]⟩,
 ⟨.func, 1, 8, .nilfn, [.other]⟩,
 ⟨.func, 1, 8, .nilfn, [.other]⟩,
 ⟨.func, 1, 8, .nilfn, [.other]⟩,
 ⟨.func, 1, 8, .nilfn, [.other]⟩,
 ⟨.ptr 50, 1, 8, .nilp, [.other]⟩,
 ⟨.struct [(0, 2), (1, 2), (2, 2)], 3, 24, (.agg [(.int .i64 0), (.int .i64 0), (.int .i64 0)]), [.int .i64, .int .i64, .int .i64]⟩,
 ⟨.struct [(0, 2), (1, 2), (2, 2)], 3, 24, (.agg [(.int .i64 0), (.int .i64 0), (.int .i64 0)]), [.int .i64, .int .i64, .int .i64]⟩,
 ⟨.tuple [65, 4], 1, 0, .undef, [.other]⟩,
 ⟨.func, 1, 8, .nilfn, [.other]⟩,
 ⟨.func, 1, 8, .nilfn, [.other]⟩,
 ⟨.func, 1, 8, .nilfn, [.other]⟩,
 ⟨.tuple [49, 4], 1, 0, .undef, [.other]⟩,
 ⟨.func, 1, 8, .nilfn, [.other]⟩,
 ⟨.tuple [2, 2, 2, 49, 4], 1, 0, .undef, [.other]⟩,
 ⟨.func, 1, 8, .nilfn, [.other]⟩,
 ⟨.tuple [37, 4], 1, 0, .undef, [.other]⟩,
 ⟨.func, 1, 8, .nilfn, [.other]⟩,
 ⟨.tuple [37, 9, 25], 1, 0, .undef, [.other]⟩,
 ⟨.func, 1, 8, .nilfn, [.other]⟩,
 ⟨.func, 1, 8, .nilfn, [.other]⟩,
 ⟨.func, 1, 8, .nilfn, [.other]⟩,
 ⟨.func, 1, 8, .nilfn, [.other]⟩,
 ⟨.func, 1, 8, .nilfn, [.other]⟩,
 ⟨.func, 1, 8, .nilfn, [.other]⟩,
 ⟨.func, 1, 8, .nilfn, [.other]⟩,
 ⟨.tuple [9, 9], 1, 0, .undef, [.other]⟩,
 ⟨.func, 1, 8, .nilfn, [.other]⟩,
 ⟨.func, 1, 8, .nilfn, [.other]⟩,
 ⟨.func, 1, 8, .nilfn, [.other]⟩,
 ⟨.func, 1, 8, .nilfn, [.other]⟩,
 ⟨.func, 1, 8, .nilfn, [.other]⟩,
 ⟨.func, 1, 8, .nilfn, [.other]⟩,
 ⟨.struct [], 0, 0, (.agg []), []⟩,
 ⟨.struct [], 0, 0, (.agg []), []⟩,
 ⟨.struct [(0, 24), (4, 4)], 5, 40, (.agg [(.int .i64 0), (.int .i64 0), (.int .i64 0), (.int .i64 0), (.bool false)]), [.int .i64, .int .i64, .int .i64, .int .i64, .bool]⟩,
 ⟨.struct [(0, 24), (4, 4)], 5, 40, (.agg [(.int .i64 0), (.int .i64 0), (.int .i64 0), (.int .i64 0), (.bool false)]), [.int .i64, .int .i64, .int .i64, .int .i64, .bool]⟩,
 ⟨.func, 1, 8, .nilfn, [.other]⟩,
 ⟨.tuple [9, 9, 4], 1, 0, .undef, [.other]⟩,
 ⟨.func, 1, 8, .nilfn, [.other]⟩,
 ⟨.func, 1, 8, .nilfn, [.other]⟩,
 ⟨.func, 1, 8, .nilfn, [.other]⟩,
 ⟨.func, 1, 8, .nilfn, [.other]⟩,
 ⟨.func, 1, 8, .nilfn, [.other]⟩,
 ⟨.ptr 2, 1, 8, .nilp, [.other]⟩,
 ⟨.func, 1, 8, .nilfn, [.other]⟩,
 ⟨.func, 1, 8, .nilfn, [.other]⟩,
 ⟨.func, 1, 8, .nilfn, [.other]⟩,
 ⟨.arr 8 4, 8, 8, (.agg [(.bool false), (.bool false), (.bool false), (.bool false), (.bool false), (.bool false), (.bool false), (.bool false)]), [.bool, .bool, .bool, .bool, .bool, .bool, .bool, .bool]⟩,
 ⟨.tuple [9, 4], 1, 0, .undef, [.other]⟩,
 ⟨.func, 1, 8, .nilfn, [.other]⟩,
 ⟨.tuple [24, 3], 1, 0, .undef, [.other]⟩,
 ⟨.func, 1, 8, .nilfn, [.other]⟩,
 ⟨.func, 1, 8, .nilfn, [.other]⟩,
 ⟨.tuple [2, 25], 1, 0, .undef, [.other]⟩,
 ⟨.func, 1, 8, .nilfn, [.other]⟩,
 ⟨.func, 1, 8, .nilfn, [.other]⟩,
 ⟨.iface true, 1, 16, .nili, [.other]⟩,
 ⟨.iface true, 1, 16, .nili, [.other]⟩,
 ⟨.func, 1, 8, .nilfn, [.other]⟩,
 ⟨.slice 9, 1, 24, .sl0, [.slice 1]⟩,
 ⟨.func, 1, 8, .nilfn, [.other]⟩,
 ⟨.func, 1, 8, .nilfn, [.other]⟩,
 ⟨.func, 1, 8, .nilfn, [.other]⟩,
 ⟨.func, 1, 8, .nilfn, [.other]⟩,
 ⟨.struct [(0, 2), (1, 2), (2, 2), (3, 4)], 4, 32, (.agg [(.int .i64 0), (.int .i64 0), (.int .i64 0), (.bool false)]), [.int .i64, .int .i64, .int .i64, .bool]⟩,
 ⟨.struct [(0, 2), (1, 2), (2, 2), (3, 4)], 4, 32, (.agg [(.int .i64 0), (.int .i64 0), (.int .i64 0), (.bool false)]), [.int .i64, .int .i64, .int .i64, .bool]⟩,
 ⟨.func, 1, 8, .nilfn, [.other]⟩,
 ⟨.func, 1, 8, .nilfn, [.other]⟩,
 ⟨.func, 1, 8, .nilfn, [.other]⟩,
 ⟨.func, 1, 8, .nilfn, [.other]⟩,
 ⟨.func, 1, 8, .nilfn, [.other]⟩,
 ⟨.func, 1, 8, .nilfn, [.other]⟩,
 ⟨.func, 1, 8, .nilfn, [.other]⟩,
 ⟨.func, 1, 8, .nilfn, [.other]⟩,
 ⟨.func, 1, 8, .nilfn, [.other]⟩,
 ⟨.func, 1, 8, .nilfn, [.other]⟩,
 ⟨.tuple [9, 2], 1, 0, .undef, [.other]⟩,
 ⟨.func, 1, 8, .nilfn, [.other]⟩,
 ⟨.func, 1, 8, .nilfn, [.other]⟩,
 ⟨.func, 1, 8, .nilfn, [.other]⟩,
 ⟨.func, 1, 8, .nilfn, [.other]⟩,
 ⟨.tuple [2, 2, 2, 25], 1, 0, .undef, [.other]⟩,
 ⟨.func, 1, 8, .nilfn, [.other]⟩,
 ⟨.func, 1, 8, .nilfn, [.other]⟩,
 ⟨.tuple [2, 2], 1, 0, .undef, [.other]⟩,
 ⟨.func, 1, 8, .nilfn, [.other]⟩,
 ⟨.tuple [33, 2, 25], 1, 0, .undef, [.other]⟩,
 ⟨.func, 1, 8, .nilfn, [.other]⟩,
 ⟨.func, 1, 8, .nilfn, [.other]⟩,
 ⟨.slice 150, 1, 24, .sl0, [.slice 2]⟩,
 ⟨.struct [(0, 3), (1, 3)], 2, 16, (.agg [(.int .i64 0), (.int .i64 0)]), [.int .i64, .int .i64]⟩,
 ⟨.struct [(0, 3), (1, 3)], 2, 16, (.agg [(.int .i64 0), (.int .i64 0)]), [.int .i64, .int .i64]⟩,
 ⟨.func, 1, 8, .nilfn, [.other]⟩,
 ⟨.func, 1, 8, .nilfn, [.other]⟩,
 ⟨.func, 1, 8, .nilfn, [.other]⟩,
 ⟨.func, 1, 8, .nilfn, [.other]⟩,
 ⟨.func, 1, 8, .nilfn, [.other]⟩,
 ⟨.func, 1, 8, .nilfn, [.other]⟩,
 ⟨.func, 1, 8, .nilfn, [.other]⟩,
 ⟨.str, 1, 16, (.str []), [.str]⟩,
 ⟨.struct [(0, 49), (1, 3)], 2, 32, (.agg [.sl0, (.int .i64 0)]), [.slice 1, .int .i64]⟩,
 ⟨.struct [(0, 49), (1, 3)], 2, 32, (.agg [.sl0, (.int .i64 0)]), [.slice 1, .int .i64]⟩,
 ⟨.arr 13 2, 13, 104, (.agg [(.int .i64 0), (.int .i64 0), (.int .i64 0), (.int .i64 0), (.int .i64 0), (.int .i64 0), (.int .i64 0), (.int .i64 0), (.int .i64 0), (.int .i64 0), (.int .i64 0), (.int .i64 0), (.int .i64 0)]), [.int .i64, .int .i64, .int .i64, .int .i64, .int .i64, .int .i64, .int .i64, .int .i64, .int .i64, .int .i64, .int .i64, .int .i64, .int .i64]⟩,
 ⟨.func, 1, 8, .nilfn, [.other]⟩,
 ⟨.func, 1, 8, .nilfn, [.other]⟩,
 ⟨.func, 1, 8, .nilfn, [.other]⟩,
 ⟨.func, 1, 8, .nilfn, [.other]⟩,
 ⟨.func, 1, 8, .nilfn, [.other]⟩,
 ⟨.slice 171, 1, 24, .sl0, [.slice 2]⟩,
 ⟨.tuple [167, 9, 4], 1, 0, .undef, [.other]⟩,
 ⟨.func, 1, 8, .nilfn, [.other]⟩,
 ⟨.struct [(0, 2), (1, 3)], 2, 16, (.agg [(.int .i64 0), (.int .i64 0)]), [.int .i64, .int .i64]⟩,
 ⟨.struct [(0, 2), (1, 3)], 2, 16, (.agg [(.int .i64 0), (.int .i64 0)]), [.int .i64, .int .i64]⟩,
 ⟨.func, 1, 8, .nilfn, [.other]⟩,
 ⟨.ptr 175, 1, 8, .nilp, [.other]⟩,
 ⟨.struct [(0, 9), (1, 4)], 2, 24, (.agg [(.str []), (.bool false)]), [.str, .bool]⟩,
 ⟨.struct [(0, 9), (1, 4)], 2, 24, (.agg [(.str []), (.bool false)]), [.str, .bool]⟩,
 ⟨.func, 1, 8, .nilfn, [.other]⟩,
 ⟨.func, 1, 8, .nilfn, [.other]⟩,
 ⟨.int .u64, 1, 8, (.int .u64 0), [.int .u64]⟩,
 ⟨.func, 1, 8, .nilfn, [.other]⟩,
 ⟨.int .u64, 1, 8, (.int .u64 0), [.int .u64]⟩,
 ⟨.tuple [180, 180], 1, 0, .undef, [.other]⟩,
 ⟨.func, 1, 8, .nilfn, [.other]⟩,
 ⟨.ptr 185, 1, 8, .nilp, [.other]⟩,
 ⟨.struct [(0, 183), (1, 48)], 2, 32, (.agg [.nilp, .sl0]), [.other, .slice 1]⟩,
 ⟨.struct [(0, 183), (1, 48)], 2, 32, (.agg [.nilp, .sl0]), [.other, .slice 1]⟩,
 ⟨.func, 1, 8, .nilfn, [.other]⟩,
 ⟨.iface true, 1, 16, .nili, [.other]⟩,
 ⟨.iface true, 1, 16, .nili, [.other]⟩,
 ⟨.tuple [3, 188], 1, 0, .undef, [.other]⟩,
 ⟨.func, 1, 8, .nilfn, [.other]⟩,
 ⟨.func, 1, 8, .nilfn, [.other]⟩,
 ⟨.func, 1, 8, .nilfn, [.other]⟩,
 ⟨.func, 1, 8, .nilfn, [.other]⟩,
 ⟨.func, 1, 8, .nilfn, [.other]⟩,
 ⟨.func, 1, 8, .nilfn, [.other]⟩,
 ⟨.func, 1, 8, .nilfn, [.other]⟩,
 ⟨.arr 2 178, 2, 16, (.agg [(.int .u64 0), (.int .u64 0)]), [.int .u64, .int .u64]⟩,
 ⟨.func, 1, 8, .nilfn, [.other]⟩,
 ⟨.func, 1, 8, .nilfn, [.other]⟩,
 ⟨.func, 1, 8, .nilfn, [.other]⟩,
 ⟨.func, 1, 8, .nilfn, [.other]⟩,
 ⟨.slice 50, 1, 24, .sl0, [.slice 1]⟩,
 ⟨.func, 1, 8, .nilfn, [.other]⟩,
 ⟨.func, 1, 8, .nilfn, [.other]⟩,
 ⟨.func, 1, 8, .nilfn, [.other]⟩,
 ⟨.arr 256 4, 256, 256, (.agg [(.bool false), (.bool false), (.bool false), (.bool false), (.bool false), (.bool false), (.bool false), (.bool false), (.bool false), (.bool false), (.bool false), (.bool false), (.bool false), (.bool false), (.bool false), (.bool false), (.bool false), (.bool false), (.bool false), (.bool false), (.bool false), (.bool false), (.bool false), (.bool false), (.bool false), (.bool false), (.bool false), (.bool false), (.bool false), (.bool false), (.bool false), (.bool false), (.bool false), (.bool false), (.bool false), (.bool false), (.bool false), (.bool false), (.bool false), (.bool false), (.bool false), (.bool false), (.bool false), (.bool false), (.bool false), (.bool false), (.bool false), (.bool false), (.bool false), (.bool false), (.bool false), (.bool false), (.bool false), (.bool false), (.bool false), (.bool false), (.bool false), (.bool false), (.bool false), (.bool false), (.bool false), (.bool false), (.bool false), (.bool false), (.bool false), (.bool false), (.bool false), (.bool false), (.bool false), (.bool false), (.bool false), (.bool false), (.bool false), (.bool false), (.bool false), (.bool false), (.bool false), (.bool false), (.bool false), (.bool false), (.bool false), (.bool false), (.bool false), (.bool false), (.bool false), (.bool false), (.bool false), (.bool false), (.bool false), (.bool false), (.bool false), (.bool false), (.bool false), (.bool false), (.bool false), (.bool false), (.bool false), (.bool false), (.bool false), (.bool false), (.bool false), (.bool false), (.bool false), (.bool false), (.bool false), (.bool false), (.bool false), (.bool false), (.bool false), (.bool false), (.bool false), (.bool false), (.bool false), (.bool false), (.bool false), (.bool false), (.bool false), (.bool false), (.bool false), (.bool false), (.bool false), (.bool false), (.bool false), (.bool false), (.bool false), (.bool false), (.bool false), (.bool false), (.bool false), (.bool false), (.bool false), (.bool false), (.bool false), (.bool false), (.bool false), (.bool false), (.bool false), (.bool false), (.bool false), (.bool false), (.bool false), (.bool false), (.bool false), (.bool false), (.bool false), (.bool false), (.bool false), (.bool false), (.bool false), (.bool false), (.bool false), (.bool false), (.bool false), (.bool false), (.bool false), (.bool false), (.bool false), (.bool false), (.bool false), (.bool false), (.bool false), (.bool false), (.bool false), (.bool false), (.bool false), (.bool false), (.bool false), (.bool false), (.bool false), (.bool false), (.bool false), (.bool false), (.bool false), (.bool false), (.bool false), (.bool false), (.bool false), (.bool false), (.bool false), (.bool false), (.bool false), (.bool false), (.bool false), (.bool false), (.bool false), (.bool false), (.bool false), (.bool false), (.bool false), (.bool false), (.bool false), (.bool false), (.bool false), (.bool false), (.bool false), (.bool false), (.bool false), (.bool false), (.bool false), (.bool false), (.bool false), (.bool false), (.bool false), (.bool false), (.bool false), (.bool false), (.bool false), (.bool false), (.bool false), (.bool false), (.bool false), (.bool false), (.bool false), (.bool false), (.bool false), (.bool false), (.bool false), (.bool false), (.bool false), (.bool false), (.bool false), (.bool false), (.bool false), (.bool false), (.bool false), (.bool false), (.bool false), (.bool false), (.bool false), (.bool false), (.bool false), (.bool false), (.bool false), (.bool false), (.bool false), (.bool false), (.bool false), (.bool false), (.bool false), (.bool false), (.bool false), (.bool false), (.bool false), (.bool false), (.bool false), (.bool false), (.bool false), (.bool false), (.bool false), (.bool false), (.bool false), (.bool false), (.bool false), (.bool false), (.bool false), (.bool false)]), [.bool, .bool, .bool, .bool, .bool, .bool, .bool, .bool, .bool, .bool, .bool, .bool, .bool, .bool, .bool, .bool, .bool, .bool, .bool, .bool, .bool, .bool, .bool, .bool, .bool, .bool, .bool, .bool, .bool, .bool, .bool, .bool, .bool, .bool, .bool, .bool, .bool, .bool, .bool, .bool, .bool, .bool, .bool, .bool, .bool, .bool, .bool, .bool, .bool, .bool, .bool, .bool, .bool, .bool, .bool, .bool, .bool, .bool, .bool, .bool, .bool, .bool, .bool, .bool, .bool, .bool, .bool, .bool, .bool, .bool, .bool, .bool, .bool, .bool, .bool, .bool, .bool, .bool, .bool, .bool, .bool, .bool, .bool, .bool, .bool, .bool, .bool, .bool, .bool, .bool, .bool, .bool, .bool, .bool, .bool, .bool, .bool, .bool, .bool, .bool, .bool, .bool, .bool, .bool, .bool, .bool, .bool, .bool, .bool, .bool, .bool, .bool, .bool, .bool, .bool, .bool, .bool, .bool, .bool, .bool, .bool, .bool, .bool, .bool, .bool, .bool, .bool, .bool, .bool, .bool, .bool, .bool, .bool, .bool, .bool, .bool, .bool, .bool, .bool, .bool, .bool, .bool, .bool, .bool, .bool, .bool, .bool, .bool, .bool, .bool, .bool, .bool, .bool, .bool, .bool, .bool, .bool, .bool, .bool, .bool, .bool, .bool, .bool, .bool, .bool, .bool, .bool, .bool, .bool, .bool, .bool, .bool, .bool, .bool, .bool, .bool, .bool, .bool, .bool, .bool, .bool, .bool, .bool, .bool, .bool, .bool, .bool, .bool, .bool, .bool, .bool, .bool, .bool, .bool, .bool, .bool, .bool, .bool, .bool, .bool, .bool, .bool, .bool, .bool, .bool, .bool, .bool, .bool, .bool, .bool, .bool, .bool, .bool, .bool, .bool, .bool, .bool, .bool, .bool, .bool, .bool, .bool, .bool, .bool, .bool, .bool, .bool, .bool, .bool, .bool, .bool, .bool, .bool, .bool, .bool, .bool, .bool, .bool, .bool, .bool, .bool, .bool, .bool, .bool, .bool, .bool, .bool, .bool, .bool, .bool, .bool, .bool, .bool, .bool, .bool, .bool]⟩,
 ⟨.arr 256 4, 256, 256, (.agg [(.bool false), (.bool false), (.bool false), (.bool false), (.bool false), (.bool false), (.bool false), (.bool false), (.bool false), (.bool false), (.bool false), (.bool false), (.bool false), (.bool false), (.bool false), (.bool false), (.bool false), (.bool false), (.bool false), (.bool false), (.bool false), (.bool false), (.bool false), (.bool false), (.bool false), (.bool false), (.bool false), (.bool false), (.bool false), (.bool false), (.bool false), (.bool false), (.bool false), (.bool false), (.bool false), (.bool false), (.bool false), (.bool false), (.bool false), (.bool false), (.bool false), (.bool false), (.bool false), (.bool false), (.bool false), (.bool false), (.bool false), (.bool false), (.bool false), (.bool false), (.bool false), (.bool false), (.bool false), (.bool false), (.bool false), (.bool false), (.bool false), (.bool false), (.bool false), (.bool false), (.bool false), (.bool false), (.bool false), (.bool false), (.bool false), (.bool false), (.bool false), (.bool false), (.bool false), (.bool false), (.bool false), (.bool false), (.bool false), (.bool false), (.bool false), (.bool false), (.bool false), (.bool false), (.bool false), (.bool false), (.bool false), (.bool false), (.bool false), (.bool false), (.bool false), (.bool false), (.bool false), (.bool false), (.bool false), (.bool false), (.bool false), (.bool false), (.bool false), (.bool false), (.bool false), (.bool false), (.bool false), (.bool false), (.bool false), (.bool false), (.bool false), (.bool false), (.bool false), (.bool false), (.bool false), (.bool false), (.bool false), (.bool false), (.bool false), (.bool false), (.bool false), (.bool false), (.bool false), (.bool false), (.bool false), (.bool false), (.bool false), (.bool false), (.bool false), (.bool false), (.bool false), (.bool false), (.bool false), (.bool false), (.bool false), (.bool false), (.bool false), (.bool false), (.bool false), (.bool false), (.bool false), (.bool false), (.bool false), (.bool false), (.bool false), (.bool false), (.bool false), (.bool false), (.bool false), (.bool false), (.bool false), (.bool false), (.bool false), (.bool false), (.bool false), (.bool false), (.bool false), (.bool false), (.bool false), (.bool false), (.bool false), (.bool false), (.bool false), (.bool false), (.bool false), (.bool false), (.bool false), (.bool false), (.bool false), (.bool false), (.bool false), (.bool false), (.bool false), (.bool false), (.bool false), (.bool false), (.bool false), (.bool false), (.bool false), (.bool false), (.bool false), (.bool false), (.bool false), (.bool false), (.bool false), (.bool false), (.bool false), (.bool false), (.bool false), (.bool false), (.bool false), (.bool false), (.bool false), (.bool false), (.bool false), (.bool false), (.bool false), (.bool false), (.bool false), (.bool false), (.bool false), (.bool false), (.bool false), (.bool false), (.bool false), (.bool false), (.bool false), (.bool false), (.bool false), (.bool false), (.bool false), (.bool false), (.bool false), (.bool false), (.bool false), (.bool false), (.bool false), (.bool false), (.bool false), (.bool false), (.bool false), (.bool false), (.bool false), (.bool false), (.bool false), (.bool false), (.bool false), (.bool false), (.bool false), (.bool false), (.bool false), (.bool false), (.bool false), (.bool false), (.bool false), (.bool false), (.bool false), (.bool false), (.bool false), (.bool false), (.bool false), (.bool false), (.bool false), (.bool false), (.bool false), (.bool false), (.bool false), (.bool false), (.bool false), (.bool false), (.bool false), (.bool false), (.bool false), (.bool false), (.bool false), (.bool false), (.bool false), (.bool false), (.bool false), (.bool false), (.bool false), (.bool false), (.bool false), (.bool false), (.bool false), (.bool false)]), [.bool, .bool, .bool, .bool, .bool, .bool, .bool, .bool, .bool, .bool, .bool, .bool, .bool, .bool, .bool, .bool, .bool, .bool, .bool, .bool, .bool, .bool, .bool, .bool, .bool, .bool, .bool, .bool, .bool, .bool, .bool, .bool, .bool, .bool, .bool, .bool, .bool, .bool, .bool, .bool, .bool, .bool, .bool, .bool, .bool, .bool, .bool, .bool, .bool, .bool, .bool, .bool, .bool, .bool, .bool, .bool, .bool, .bool, .bool, .bool, .bool, .bool, .bool, .bool, .bool, .bool, .bool, .bool, .bool, .bool, .bool, .bool, .bool, .bool, .bool, .bool, .bool, .bool, .bool, .bool, .bool, .bool, .bool, .bool, .bool, .bool, .bool, .bool, .bool, .bool, .bool, .bool, .bool, .bool, .bool, .bool, .bool, .bool, .bool, .bool, .bool, .bool, .bool, .bool, .bool, .bool, .bool, .bool, .bool, .bool, .bool, .bool, .bool, .bool, .bool, .bool, .bool, .bool, .bool, .bool, .bool, .bool, .bool, .bool, .bool, .bool, .bool, .bool, .bool, .bool, .bool, .bool, .bool, .bool, .bool, .bool, .bool, .bool, .bool, .bool, .bool, .bool, .bool, .bool, .bool, .bool, .bool, .bool, .bool, .bool, .bool, .bool, .bool, .bool, .bool, .bool, .bool, .bool, .bool, .bool, .bool, .bool, .bool, .bool, .bool, .bool, .bool, .bool, .bool, .bool, .bool, .bool, .bool, .bool, .bool, .bool, .bool, .bool, .bool, .bool, .bool, .bool, .bool, .bool, .bool, .bool, .bool, .bool, .bool, .bool, .bool, .bool, .bool, .bool, .bool, .bool, .bool, .bool, .bool, .bool, .bool, .bool, .bool, .bool, .bool, .bool, .bool, .bool, .bool, .bool, .bool, .bool, .bool, .bool, .bool, .bool, .bool, .bool, .bool, .bool, .bool, .bool, .bool, .bool, .bool, .bool, .bool, .bool, .bool, .bool, .bool, .bool, .bool, .bool, .bool, .bool, .bool, .bool, .bool, .bool, .bool, .bool, .bool, .bool, .bool, .bool, .bool, .bool, .bool, .bool, .bool, .bool, .bool, .bool, .bool, .bool]⟩,
 ⟨.tuple [207, 4], 1, 0, .undef, [.other]⟩,
 ⟨.func, 1, 8, .nilfn, [.other]⟩,
 ⟨.func, 1, 8, .nilfn, [.other]⟩,
 ⟨.func, 1, 8, .nilfn, [.other]⟩,
 ⟨.ptr 207, 1, 8, .nilp, [.other]⟩,
 ⟨.ptr 171, 1, 8, .nilp, [.other]⟩,
 ⟨.tuple [2, 2, 2, 2], 1, 0, .undef, [.other]⟩,
 ⟨.func, 1, 8, .nilfn, [.other]⟩,
 ⟨.tuple [2, 2, 2], 1, 0, .undef, [.other]⟩,
 ⟨.func, 1, 8, .nilfn, [.other]⟩,
 ⟨.int .u32, 1, 4, (.int .u32 0), [.int .u32]⟩,
 ⟨.tuple [218, 218], 1, 0, .undef, [.other]⟩,
 ⟨.func, 1, 8, .nilfn, [.other]⟩,
 ⟨.tuple [178, 178], 1, 0, .undef, [.other]⟩,
 ⟨.func, 1, 8, .nilfn, [.other]⟩,
 ⟨.ptr 5, 1, 8, .nilp, [.other]⟩,
 ⟨.arr 20 5, 20, 20, (.agg [(.int .u8 0), (.int .u8 0), (.int .u8 0), (.int .u8 0), (.int .u8 0), (.int .u8 0), (.int .u8 0), (.int .u8 0), (.int .u8 0), (.int .u8 0), (.int .u8 0), (.int .u8 0), (.int .u8 0), (.int .u8 0), (.int .u8 0), (.int .u8 0), (.int .u8 0), (.int .u8 0), (.int .u8 0), (.int .u8 0)]), [.int .u8, .int .u8, .int .u8, .int .u8, .int .u8, .int .u8, .int .u8, .int .u8, .int .u8, .int .u8, .int .u8, .int .u8, .int .u8, .int .u8, .int .u8, .int .u8, .int .u8, .int .u8, .int .u8, .int .u8]⟩,
 ⟨.func, 1, 8, .nilfn, [.other]⟩,
 ⟨.func, 1, 8, .nilfn, [.other]⟩,
 ⟨.func, 1, 8, .nilfn, [.other]⟩,
 ⟨.func, 1, 8, .nilfn, [.other]⟩,
 ⟨.func, 1, 8, .nilfn, [.other]⟩,
 ⟨.func, 1, 8, .nilfn, [.other]⟩,
 ⟨.tuple [21, 3], 1, 0, .undef, [.other]⟩,
 ⟨.func, 1, 8, .nilfn, [.other]⟩,
 ⟨.func, 1, 8, .nilfn, [.other]⟩,
 ⟨.uptr, 1, 8, .nilp, [.other]⟩,
 ⟨.func, 1, 8, .nilfn, [.other]⟩,
 ⟨.func, 1, 8, .nilfn, [.other]⟩,
 ⟨.func, 1, 8, .nilfn, [.other]⟩,
 ⟨.func, 1, 8, .nilfn, [.other]⟩,
 ⟨.func, 1, 8, .nilfn, [.other]⟩,
 ⟨.func, 1, 8, .nilfn, [.other]⟩,
 ⟨.arr 256 5, 256, 256, (.agg [(.int .u8 0), (.int .u8 0), (.int .u8 0), (.int .u8 0), (.int .u8 0), (.int .u8 0), (.int .u8 0), (.int .u8 0), (.int .u8 0), (.int .u8 0), (.int .u8 0), (.int .u8 0), (.int .u8 0), (.int .u8 0), (.int .u8 0), (.int .u8 0), (.int .u8 0), (.int .u8 0), (.int .u8 0), (.int .u8 0), (.int .u8 0), (.int .u8 0), (.int .u8 0), (.int .u8 0), (.int .u8 0), (.int .u8 0), (.int .u8 0), (.int .u8 0), (.int .u8 0), (.int .u8 0), (.int .u8 0), (.int .u8 0), (.int .u8 0), (.int .u8 0), (.int .u8 0), (.int .u8 0), (.int .u8 0), (.int .u8 0), (.int .u8 0), (.int .u8 0), (.int .u8 0), (.int .u8 0), (.int .u8 0), (.int .u8 0), (.int .u8 0), (.int .u8 0), (.int .u8 0), (.int .u8 0), (.int .u8 0), (.int .u8 0), (.int .u8 0), (.int .u8 0), (.int .u8 0), (.int .u8 0), (.int .u8 0), (.int .u8 0), (.int .u8 0), (.int .u8 0), (.int .u8 0), (.int .u8 0), (.int .u8 0), (.int .u8 0), (.int .u8 0), (.int .u8 0), (.int .u8 0), (.int .u8 0), (.int .u8 0), (.int .u8 0), (.int .u8 0), (.int .u8 0), (.int .u8 0), (.int .u8 0), (.int .u8 0), (.int .u8 0), (.int .u8 0), (.int .u8 0), (.int .u8 0), (.int .u8 0), (.int .u8 0), (.int .u8 0), (.int .u8 0), (.int .u8 0), (.int .u8 0), (.int .u8 0), (.int .u8 0), (.int .u8 0), (.int .u8 0), (.int .u8 0), (.int .u8 0), (.int .u8 0), (.int .u8 0), (.int .u8 0), (.int .u8 0), (.int .u8 0), (.int .u8 0), (.int .u8 0), (.int .u8 0), (.int .u8 0), (.int .u8 0), (.int .u8 0), (.int .u8 0), (.int .u8 0), (.int .u8 0), (.int .u8 0), (.int .u8 0), (.int .u8 0), (.int .u8 0), (.int .u8 0), (.int .u8 0), (.int .u8 0), (.int .u8 0), (.int .u8 0), (.int .u8 0), (.int .u8 0), (.int .u8 0), (.int .u8 0), (.int .u8 0), (.int .u8 0), (.int .u8 0), (.int .u8 0), (.int .u8 0), (.int .u8 0), (.int .u8 0), (.int .u8 0), (.int .u8 0), (.int .u8 0), (.int .u8 0), (.int .u8 0), (.int .u8 0), (.int .u8 0), (.int .u8 0), (.int .u8 0), (.int .u8 0), (.int .u8 0), (.int .u8 0), (.int .u8 0), (.int .u8 0), (.int .u8 0), (.int .u8 0), (.int .u8 0), (.int .u8 0), (.int .u8 0), (.int .u8 0), (.int .u8 0), (.int .u8 0), (.int .u8 0), (.int .u8 0), (.int .u8 0), (.int .u8 0), (.int .u8 0), (.int .u8 0), (.int .u8 0), (.int .u8 0), (.int .u8 0), (.int .u8 0), (.int .u8 0), (.int .u8 0), (.int .u8 0), (.int .u8 0), (.int .u8 0), (.int .u8 0), (.int .u8 0), (.int .u8 0), (.int .u8 0), (.int .u8 0), (.int .u8 0), (.int .u8 0), (.int .u8 0), (.int .u8 0), (.int .u8 0), (.int .u8 0), (.int .u8 0), (.int .u8 0), (.int .u8 0), (.int .u8 0), (.int .u8 0), (.int .u8 0), (.int .u8 0), (.int .u8 0), (.int .u8 0), (.int .u8 0), (.int .u8 0), (.int .u8 0), (.int .u8 0), (.int .u8 0), (.int .u8 0), (.int .u8 0), (.int .u8 0), (.int .u8 0), (.int .u8 0), (.int .u8 0), (.int .u8 0), (.int .u8 0), (.int .u8 0), (.int .u8 0), (.int .u8 0), (.int .u8 0), (.int .u8 0), (.int .u8 0), (.int .u8 0), (.int .u8 0), (.int .u8 0), (.int .u8 0), (.int .u8 0), (.int .u8 0), (.int .u8 0), (.int .u8 0), (.int .u8 0), (.int .u8 0), (.int .u8 0), (.int .u8 0), (.int .u8 0), (.int .u8 0), (.int .u8 0), (.int .u8 0), (.int .u8 0), (.int .u8 0), (.int .u8 0), (.int .u8 0), (.int .u8 0), (.int .u8 0), (.int .u8 0), (.int .u8 0), (.int .u8 0), (.int .u8 0), (.int .u8 0), (.int .u8 0), (.int .u8 0), (.int .u8 0), (.int .u8 0), (.int .u8 0), (.int .u8 0), (.int .u8 0), (.int .u8 0), (.int .u8 0), (.int .u8 0), (.int .u8 0), (.int .u8 0), (.int .u8 0), (.int .u8 0), (.int .u8 0), (.int .u8 0), (.int .u8 0), (.int .u8 0), (.int .u8 0), (.int .u8 0), (.int .u8 0), (.int .u8 0), (.int .u8 0), (.int .u8 0), (.int .u8 0), (.int .u8 0), (.int .u8 0), (.int .u8 0), (.int .u8 0), (.int .u8 0)]), [.int .u8, .int .u8, .int .u8, .int .u8, .int .u8, .int .u8, .int .u8, .int .u8, .int .u8, .int .u8, .int .u8, .int .u8, .int .u8, .int .u8, .int .u8, .int .u8, .int .u8, .int .u8, .int .u8, .int .u8, .int .u8, .int .u8, .int .u8, .int .u8, .int .u8, .int .u8, .int .u8, .int .u8, .int .u8, .int .u8, .int .u8, .int .u8, .int .u8, .int .u8, .int .u8, .int .u8, .int .u8, .int .u8, .int .u8, .int .u8, .int .u8, .int .u8, .int .u8, .int .u8, .int .u8, .int .u8, .int .u8, .int .u8, .int .u8, .int .u8, .int .u8, .int .u8, .int .u8, .int .u8, .int .u8, .int .u8, .int .u8, .int .u8, .int .u8, .int .u8, .int .u8, .int .u8, .int .u8, .int .u8, .int .u8, .int .u8, .int .u8, .int .u8, .int .u8, .int .u8, .int .u8, .int .u8, .int .u8, .int .u8, .int .u8, .int .u8, .int .u8, .int .u8, .int .u8, .int .u8, .int .u8, .int .u8, .int .u8, .int .u8, .int .u8, .int .u8, .int .u8, .int .u8, .int .u8, .int .u8, .int .u8, .int .u8, .int .u8, .int .u8, .int .u8, .int .u8, .int .u8, .int .u8, .int .u8, .int .u8, .int .u8, .int .u8, .int .u8, .int .u8, .int .u8, .int .u8, .int .u8, .int .u8, .int .u8, .int .u8, .int .u8, .int .u8, .int .u8, .int .u8, .int .u8, .int .u8, .int .u8, .int .u8, .int .u8, .int .u8, .int .u8, .int .u8, .int .u8, .int .u8, .int .u8, .int .u8, .int .u8, .int .u8, .int .u8, .int .u8, .int .u8, .int .u8, .int .u8, .int .u8, .int .u8, .int .u8, .int .u8, .int .u8, .int .u8, .int .u8, .int .u8, .int .u8, .int .u8, .int .u8, .int .u8, .int .u8, .int .u8, .int .u8, .int .u8, .int .u8, .int .u8, .int .u8, .int .u8, .int .u8, .int .u8, .int .u8, .int .u8, .int .u8, .int .u8, .int .u8, .int .u8, .int .u8, .int .u8, .int .u8, .int .u8, .int .u8, .int .u8, .int .u8, .int .u8, .int .u8, .int .u8, .int .u8, .int .u8, .int .u8, .int .u8, .int .u8, .int .u8, .int .u8, .int .u8, .int .u8, .int .u8, .int .u8, .int .u8, .int .u8, .int .u8, .int .u8, .int .u8, .int .u8, .int .u8, .int .u8, .int .u8, .int .u8, .int .u8, .int .u8, .int .u8, .int .u8, .int .u8, .int .u8, .int .u8, .int .u8, .int .u8, .int .u8, .int .u8, .int .u8, .int .u8, .int .u8, .int .u8, .int .u8, .int .u8, .int .u8, .int .u8, .int .u8, .int .u8, .int .u8, .int .u8, .int .u8, .int .u8, .int .u8, .int .u8, .int .u8, .int .u8, .int .u8, .int .u8, .int .u8, .int .u8, .int .u8, .int .u8, .int .u8, .int .u8, .int .u8, .int .u8, .int .u8, .int .u8, .int .u8, .int .u8, .int .u8, .int .u8, .int .u8, .int .u8, .int .u8, .int .u8, .int .u8, .int .u8, .int .u8, .int .u8, .int .u8, .int .u8, .int .u8, .int .u8, .int .u8, .int .u8, .int .u8, .int .u8, .int .u8, .int .u8, .int .u8]⟩,
 ⟨.struct [(0, 5), (1, 5)], 2, 2, (.agg [(.int .u8 0), (.int .u8 0)]), [.int .u8, .int .u8]⟩,
 ⟨.struct [(0, 5), (1, 5)], 2, 2, (.agg [(.int .u8 0), (.int .u8 0)]), [.int .u8, .int .u8]⟩,
 ⟨.arr 16 243, 32, 32, (.agg [(.int .u8 0), (.int .u8 0), (.int .u8 0), (.int .u8 0), (.int .u8 0), (.int .u8 0), (.int .u8 0), (.int .u8 0), (.int .u8 0), (.int .u8 0), (.int .u8 0), (.int .u8 0), (.int .u8 0), (.int .u8 0), (.int .u8 0), (.int .u8 0), (.int .u8 0), (.int .u8 0), (.int .u8 0), (.int .u8 0), (.int .u8 0), (.int .u8 0), (.int .u8 0), (.int .u8 0), (.int .u8 0), (.int .u8 0), (.int .u8 0), (.int .u8 0), (.int .u8 0), (.int .u8 0), (.int .u8 0), (.int .u8 0)]), [.int .u8, .int .u8, .int .u8, .int .u8, .int .u8, .int .u8, .int .u8, .int .u8, .int .u8, .int .u8, .int .u8, .int .u8, .int .u8, .int .u8, .int .u8, .int .u8, .int .u8, .int .u8, .int .u8, .int .u8, .int .u8, .int .u8, .int .u8, .int .u8, .int .u8, .int .u8, .int .u8, .int .u8, .int .u8, .int .u8, .int .u8, .int .u8]⟩,
 ⟨.ptr 263, 1, 8, .nilp, [.other]⟩,
 ⟨.struct [(0, 17), (1, 17), (2, 17), (3, 9)], 4, 40, (.agg [.nilp, .nilp, .nilp, (.str [])]), [.other, .other, .other, .str]⟩,
 ⟨.struct [(0, 17), (1, 17), (2, 17), (3, 9)], 4, 40, (.agg [.nilp, .nilp, .nilp, (.str [])]), [.other, .other, .other, .str]⟩,
 ⟨.arr 0 16, 0, 0, (.agg []), []⟩,
 ⟨.struct [(0, 248)], 0, 0, (.agg []), []⟩,
 ⟨.struct [(0, 248)], 0, 0, (.agg []), []⟩,
 ⟨.int .u8, 1, 1, (.int .u8 0), [.int .u8]⟩,
 ⟨.int .u8, 1, 1, (.int .u8 0), [.int .u8]⟩,
 ⟨.func, 1, 8, .nilfn, [.other]⟩,
 ⟨.int .i32, 1, 4, (.int .i32 0), [.int .i32]⟩,
 ⟨.int .i32, 1, 4, (.int .i32 0), [.int .i32]⟩,
 ⟨.struct [(0, 12), (1, 12), (2, 218), (3, 251), (4, 5), (5, 5), (6, 252), (7, 253), (8, 223), (9, 254), (10, 255)], 11, 48, (.agg [(.int .u64 0), (.int .u64 0), (.int .u32 0), (.int .u8 0), (.int .u8 0), (.int .u8 0), (.int .u8 0), .nilfn, .nilp, (.int .i32 0), (.int .i32 0)]), [.int .u64, .int .u64, .int .u32, .int .u8, .int .u8, .int .u8, .int .u8, .other, .other, .int .i32, .int .i32]⟩,
 ⟨.struct [(0, 12), (1, 12), (2, 218), (3, 251), (4, 5), (5, 5), (6, 252), (7, 253), (8, 223), (9, 254), (10, 255)], 11, 48, (.agg [(.int .u64 0), (.int .u64 0), (.int .u32 0), (.int .u8 0), (.int .u8 0), (.int .u8 0), (.int .u8 0), .nilfn, .nilp, (.int .i32 0), (.int .i32 0)]), [.int .u64, .int .u64, .int .u32, .int .u8, .int .u8, .int .u8, .int .u8, .other, .other, .int .i32, .int .i32]⟩,
 ⟨.func, 1, 8, .nilfn, [.other]⟩,
 ⟨.func, 1, 8, .nilfn, [.other]⟩,
 ⟨.func, 1, 8, .nilfn, [.other]⟩,
 ⟨.func, 1, 8, .nilfn, [.other]⟩,
 ⟨.struct [(0, 9)], 1, 16, (.agg [(.str [])]), [.str]⟩,
 ⟨.struct [(0, 9)], 1, 16, (.agg [(.str [])]), [.str]⟩]
abbrev ty_LJ : Nat := 0
abbrev ty_funcLJ : Nat := 1
abbrev ty_int64 : Nat := 2
abbrev z12n : Nat := 3
abbrev ty_bool : Nat := 4
abbrev z14i : Nat := 5
abbrev z172 : Nat := 6
abbrev zn3 : Nat := 7
abbrev z16v : Nat := 8
abbrev z4a : Nat := 9
abbrev z16u : Nat := 10
abbrev z17e : Nat := 11
abbrev ty_uintptr : Nat := 12
abbrev zr5 : Nat := 13
abbrev zwo : Nat := 14
abbrev zu7 : Nat := 15
abbrev z11q : Nat := 16
abbrev ty_P_abi_Type : Nat := 17
abbrev z11u : Nat := 18
abbrev zyv : Nat := 19
abbrev ty_interface_ : Nat := 20
abbrev ty_int32 : Nat := 21
abbrev z17h : Nat := 22
abbrev zn7 : Nat := 23
abbrev zdw : Nat := 24
abbrev ty_api_Errno : Nat := 25
abbrev z14q : Nat := 26
abbrev zpc : Nat := 27
abbrev ty_funcLJ_bool : Nat := 28
abbrev zu5 : Nat := 29
abbrev zoy : Nat := 30
abbrev z2u : Nat := 31
abbrev z11f : Nat := 32
abbrev z29 : Nat := 33
abbrev z14r : Nat := 34
abbrev znj : Nat := 35
abbrev z11e : Nat := 36
abbrev zk : Nat := 37
abbrev z12q : Nat := 38
abbrev znk : Nat := 39
abbrev zvd : Nat := 40
abbrev z16x : Nat := 41
abbrev z17l : Nat := 42
abbrev zo4 : Nat := 43
abbrev ztq : Nat := 44
abbrev zo7 : Nat := 45
abbrev zo2 : Nat := 46
abbrev zo9 : Nat := 47
abbrev ty_S_uint8 : Nat := 48
abbrev ty_S_string : Nat := 49
abbrev z6 : Nat := 50
abbrev zrh : Nat := 51
abbrev z1d1 : Nat := 52
abbrev zns : Nat := 53
abbrev znq : Nat := 54
abbrev ty_P_read_sum : Nat := 55
abbrev ty_funcLstringJ : Nat := 56
abbrev zoz : Nat := 57
abbrev zu4 : Nat := 58
abbrev z11m : Nat := 59
abbrev znw : Nat := 60
abbrev zq3 : Nat := 61
abbrev zrl : Nat := 62
abbrev z174 : Nat := 63
abbrev zr4 : Nat := 64
abbrev zh : Nat := 65
abbrev z1ar : Nat := 66
abbrev zof : Nat := 67
abbrev z12o : Nat := 68
abbrev z17i : Nat := 69
abbrev z1d2 : Nat := 70
abbrev zrk : Nat := 71
abbrev zpe : Nat := 72
abbrev zod : Nat := 73
abbrev z1as : Nat := 74
abbrev ztn : Nat := 75
abbrev zu8 : Nat := 76
abbrev zng : Nat := 77
abbrev zoc : Nat := 78
abbrev z16z : Nat := 79
abbrev z14j : Nat := 80
abbrev z1ao : Nat := 81
abbrev z12p : Nat := 82
abbrev z170 : Nat := 83
abbrev z1d0 : Nat := 84
abbrev zo8 : Nat := 85
abbrev z14l : Nat := 86
abbrev z14k : Nat := 87
abbrev zo1 : Nat := 88
abbrev zni : Nat := 89
abbrev z1aq : Nat := 90
abbrev ty_struct_ : Nat := 91
abbrev ty_read_bad : Nat := 92
abbrev ztx : Nat := 93
abbrev ty_read_sum : Nat := 94
abbrev znv : Nat := 95
abbrev z14p : Nat := 96
abbrev znf : Nat := 97
abbrev ztz : Nat := 98
abbrev ty_funcLboolJ : Nat := 99
abbrev zxs : Nat := 100
abbrev zxx : Nat := 101
abbrev ty_P_int64 : Nat := 102
abbrev z11l : Nat := 103
abbrev z1a5 : Nat := 104
abbrev zyw : Nat := 105
abbrev ty_A8_bool : Nat := 106
abbrev z1gy : Nat := 107
abbrev z14m : Nat := 108
abbrev z1fb : Nat := 109
abbrev zve : Nat := 110
abbrev zo5 : Nat := 111
abbrev z1a9 : Nat := 112
abbrev znu : Nat := 113
abbrev z1ap : Nat := 114
abbrev zn8 : Nat := 115
abbrev ty_read_form : Nat := 116
abbrev z171 : Nat := 117
abbrev zrg : Nat := 118
abbrev zwr : Nat := 119
abbrev z11p : Nat := 120
abbrev z11n : Nat := 121
abbrev zny : Nat := 122
abbrev zn2 : Nat := 123
abbrev zj : Nat := 124
abbrev znh : Nat := 125
abbrev z17f : Nat := 126
abbrev zoe : Nat := 127
abbrev zli : Nat := 128
abbrev znr : Nat := 129
abbrev zu3 : Nat := 130
abbrev zri : Nat := 131
abbrev zo6 : Nat := 132
abbrev z11o : Nat := 133
abbrev ztp : Nat := 134
abbrev z1fa : Nat := 135
abbrev zws : Nat := 136
abbrev zwq : Nat := 137
abbrev zxv : Nat := 138
abbrev zpd : Nat := 139
abbrev ztr : Nat := 140
abbrev zoa : Nat := 141
abbrev z11i : Nat := 142
abbrev z1gz : Nat := 143
abbrev zxw : Nat := 144
abbrev zwt : Nat := 145
abbrev zo3 : Nat := 146
abbrev zrj : Nat := 147
abbrev z1f9 : Nat := 148
abbrev zxn : Nat := 149
abbrev z1j : Nat := 150
abbrev z11j : Nat := 151
abbrev znx : Nat := 152
abbrev zpb : Nat := 153
abbrev zu0 : Nat := 154
abbrev zu1 : Nat := 155
abbrev zto : Nat := 156
abbrev znz : Nat := 157
abbrev zrf : Nat := 158
abbrev zty : Nat := 159
abbrev zjn : Nat := 160
abbrev z17n : Nat := 161
abbrev zvc : Nat := 162
abbrev zxu : Nat := 163
abbrev z1ak : Nat := 164
abbrev zob : Nat := 165
abbrev z11h : Nat := 166
abbrev z1gw : Nat := 167
abbrev zvh : Nat := 168
abbrev znm : Nat := 169
abbrev zyu : Nat := 170
abbrev zd : Nat := 171
abbrev znt : Nat := 172
abbrev z14o : Nat := 173
abbrev zxo : Nat := 174
abbrev zc : Nat := 175
abbrev z16y : Nat := 176
abbrev z16w : Nat := 177
abbrev ty_uint64 : Nat := 178
abbrev zu6 : Nat := 179
abbrev ty_uint : Nat := 180
abbrev ty_Luint_uintJ : Nat := 181
abbrev zvb : Nat := 182
abbrev z1a8 : Nat := 183
abbrev zn4 : Nat := 184
abbrev z1cw : Nat := 185
abbrev ty_funcLintJ : Nat := 186
abbrev zxq : Nat := 187
abbrev ty_error : Nat := 188
abbrev ty_Lint_errorJ : Nat := 189
abbrev zyx : Nat := 190
abbrev ty_funcLJ_int : Nat := 191
abbrev z1gv : Nat := 192
abbrev z11g : Nat := 193
abbrev z11x : Nat := 194
abbrev z1cx : Nat := 195
abbrev zo0 : Nat := 196
abbrev z17m : Nat := 197
abbrev zvg : Nat := 198
abbrev zlg : Nat := 199
abbrev z1a7 : Nat := 200
abbrev zr6 : Nat := 201
abbrev z173 : Nat := 202
abbrev znp : Nat := 203
abbrev z11w : Nat := 204
abbrev z1f8 : Nat := 205
abbrev ty_A256_bool : Nat := 206
abbrev z1aj : Nat := 207
abbrev z11r : Nat := 208
abbrev zlh : Nat := 209
abbrev zxr : Nat := 210
abbrev znl : Nat := 211
abbrev z17k : Nat := 212
abbrev z1gx : Nat := 213
abbrev zxy : Nat := 214
abbrev znd : Nat := 215
abbrev z175 : Nat := 216
abbrev zr7 : Nat := 217
abbrev ty_uint32 : Nat := 218
abbrev z1cz : Nat := 219
abbrev zne : Nat := 220
abbrev z1cy : Nat := 221
abbrev znc : Nat := 222
abbrev ty_P_uint8 : Nat := 223
abbrev ty_A20_uint8 : Nat := 224
abbrev z11v : Nat := 225
abbrev z1gu : Nat := 226
abbrev z17g : Nat := 227
abbrev zxt : Nat := 228
abbrev ty_funcLJ_int64 : Nat := 229
abbrev zlj : Nat := 230
abbrev ty_Lint32_intJ : Nat := 231
abbrev zyy : Nat := 232
abbrev z11k : Nat := 233
abbrev z1f7 : Nat := 234
abbrev zna : Nat := 235
abbrev z1a6 : Nat := 236
abbrev znb : Nat := 237
abbrev zu2 : Nat := 238
abbrev z1am : Nat := 239
abbrev z1al : Nat := 240
abbrev ty_A256_uint8 : Nat := 241
abbrev zxp : Nat := 242
abbrev z1ah : Nat := 243
abbrev z14s : Nat := 244
abbrev z14n : Nat := 245
abbrev zn5 : Nat := 246
abbrev zwp : Nat := 247
abbrev zwu : Nat := 248
abbrev zlf : Nat := 249
abbrev z12m : Nat := 250
abbrev ty_abi_TFlag : Nat := 251
abbrev ty_abi_Kind : Nat := 252
abbrev zn9 : Nat := 253
abbrev ty_abi_NameOff : Nat := 254
abbrev ty_abi_TypeOff : Nat := 255
abbrev zn6 : Nat := 256
abbrev ty_abi_Type : Nat := 257
abbrev zno : Nat := 258
abbrev znn : Nat := 259
abbrev zvf : Nat := 260
abbrev z1an : Nat := 261
abbrev z1ai : Nat := 262
abbrev z17j : Nat := 263
abbrev fn_main_main : Nat := 0
abbrev z13r : Nat := 3
abbrev zae : Nat := 4
abbrev z10k : Nat := 5
abbrev zxb : Nat := 6
abbrev z12e : Nat := 7
abbrev z16b : Nat := 8
abbrev z19d : Nat := 9
abbrev zdm : Nat := 10
abbrev z26 : Nat := 11
abbrev z4z : Nat := 12
abbrev zsr : Nat := 13
abbrev z4d : Nat := 14
abbrev z16c : Nat := 15
abbrev z4f : Nat := 16
abbrev fn_show_Span : Nat := 17
abbrev z177 : Nat := 18
abbrev fn_show_Date : Nat := 19
abbrev fn_show_Stamp : Nat := 20
abbrev zft : Nat := 21
abbrev zcm : Nat := 22
abbrev za8 : Nat := 23
abbrev fn_read_try : Nat := 24
abbrev fn_read_Span_1 : Nat := 25
abbrev fn_read_sum_iso : Nat := 26
abbrev zcn : Nat := 27
abbrev fn_read_sum_sql : Nat := 28
abbrev z1gf : Nat := 29
abbrev zew : Nat := 30
abbrev z10g : Nat := 31
abbrev fn_read_era : Nat := 32
abbrev z1i : Nat := 33
abbrev z10j : Nat := 34
abbrev z4b : Nat := 35
abbrev zbp : Nat := 36
abbrev z7w : Nat := 37
abbrev z1m : Nat := 38
abbrev zso : Nat := 39
abbrev zt : Nat := 40
abbrev z2b : Nat := 41
abbrev zsn : Nat := 42
abbrev fn_show_Right : Nat := 43
abbrev z1h1 : Nat := 44
abbrev fn_show_sql : Nat := 45
abbrev fn_show_iso : Nat := 46
abbrev z1h0 : Nat := 47
abbrev zwc : Nat := 48
abbrev fn_show_date : Nat := 49
abbrev fn_show_join : Nat := 50
abbrev zix : Nat := 51
abbrev fn_show_moment : Nat := 52
abbrev z1u : Nat := 53
abbrev z9t : Nat := 54
abbrev fn_read_try_1 : Nat := 55
abbrev zhb : Nat := 56
abbrev z5s : Nat := 57
abbrev z1h4 : Nat := 58
abbrev fn_read_need : Nat := 59
abbrev zi0 : Nat := 60
abbrev z1h3 : Nat := 61
abbrev z1en : Nat := 62
abbrev z1h2 : Nat := 63
abbrev zma : Nat := 64
abbrev z13m : Nat := 65
abbrev z4y : Nat := 66
abbrev zqn : Nat := 67
abbrev zf0 : Nat := 68
abbrev zcp : Nat := 69
abbrev zsp : Nat := 70
abbrev zpv : Nat := 71
abbrev zf1 : Nat := 72
abbrev zsu : Nat := 73
abbrev zsx : Nat := 74
abbrev zex : Nat := 75
abbrev z1p : Nat := 76
abbrev zdj : Nat := 77
abbrev z2l : Nat := 78
abbrev z5h : Nat := 79
abbrev zwb : Nat := 80
abbrev zar : Nat := 81
abbrev z16a : Nat := 82
abbrev z1g : Nat := 83
abbrev zbo : Nat := 84
abbrev z5g : Nat := 85
abbrev zky : Nat := 86
abbrev z9 : Nat := 87
abbrev z3a : Nat := 88
abbrev z13o : Nat := 89
abbrev zpu : Nat := 90
abbrev fn_show_signed : Nat := 91
abbrev fn_clock_Long : Nat := 92
abbrev fn_show_between : Nat := 93
abbrev fn_show_digits : Nat := 94
abbrev fn_show_letter : Nat := 95
abbrev fn_show_seconds : Nat := 96
abbrev fn_show_unit : Nat := 97
abbrev zst : Nat := 98
abbrev fn_day_Parts : Nat := 99
abbrev z1ge : Nat := 100
abbrev fn_clock_Two : Nat := 101
abbrev zwa : Nat := 102
abbrev fn_day_Of : Nat := 103
abbrev fn_clock_Text : Nat := 104
abbrev zha : Nat := 105
abbrev z1eo : Nat := 106
abbrev z2y : Nat := 107
abbrev z75 : Nat := 108
abbrev z84 : Nat := 109
abbrev z21 : Nat := 110
abbrev z7a : Nat := 111
abbrev z91 : Nat := 112
abbrev z1h5 : Nat := 113
abbrev zhz : Nat := 114
abbrev zdk : Nat := 115
abbrev z7x : Nat := 116
abbrev z3k : Nat := 117
abbrev zsl : Nat := 118
abbrev zsv : Nat := 119
abbrev zpz : Nat := 120
abbrev zhf : Nat := 121
abbrev z3z : Nat := 122
abbrev zco : Nat := 123
abbrev z4c : Nat := 124
abbrev zev : Nat := 125
abbrev z4e : Nat := 126
abbrev zey : Nat := 127
abbrev zsq : Nat := 128
abbrev zx : Nat := 129
abbrev z1c8 : Nat := 130
abbrev z1aa : Nat := 131
abbrev z51 : Nat := 132
abbrev zhe : Nat := 133
abbrev zhd : Nat := 134
abbrev zcq : Nat := 135
abbrev zy : Nat := 136
abbrev z70 : Nat := 137
abbrev z50 : Nat := 138
abbrev zdh : Nat := 139
abbrev z13n : Nat := 140
abbrev fn_clock_text : Nat := 141
abbrev fn_strings_Join : Nat := 142
abbrev fn_show_number : Nat := 143
abbrev z1gg : Nat := 144
abbrev zsy : Nat := 145
abbrev fn_bits_Mul : Nat := 146
abbrev z1ad : Nat := 147
abbrev z169 : Nat := 148
abbrev zw7 : Nat := 149
abbrev z176 : Nat := 150
abbrev z12d : Nat := 151
abbrev fn_clock_digits : Nat := 152
abbrev z13q : Nat := 153
abbrev z13p : Nat := 154
abbrev zmb : Nat := 155
abbrev z5f : Nat := 156
abbrev z8m : Nat := 157
abbrev zfu : Nat := 158
abbrev zpw : Nat := 159
abbrev zbn : Nat := 160
abbrev zaq : Nat := 161
abbrev z6c : Nat := 162
abbrev z6k : Nat := 163
abbrev zfn : Nat := 164
abbrev zfm : Nat := 165
abbrev zfl : Nat := 166
abbrev zsk : Nat := 167
abbrev zpy : Nat := 168
abbrev z2c : Nat := 169
abbrev zet : Nat := 170
abbrev z1ab : Nat := 171
abbrev zya : Nat := 172
abbrev z166 : Nat := 173
abbrev zyb : Nat := 174
abbrev z13i : Nat := 175
abbrev z12c : Nat := 176
abbrev z10e : Nat := 177
abbrev fn_clock_parts : Nat := 178
abbrev zwd : Nat := 179
abbrev zpx : Nat := 180
abbrev fn_bits_Mul32 : Nat := 181
abbrev zsz : Nat := 182
abbrev zbm : Nat := 183
abbrev zyc : Nat := 184
abbrev z168 : Nat := 185
abbrev zeu : Nat := 186
abbrev zbl : Nat := 187
abbrev z178 : Nat := 188
abbrev z1ep : Nat := 189
abbrev zts : Nat := 190
abbrev z10h : Nat := 191
abbrev zsm : Nat := 192
abbrev zb2 : Nat := 193
abbrev zkp : Nat := 194
abbrev zdl : Nat := 195
abbrev zez : Nat := 196
abbrev z2r : Nat := 197
abbrev z6b : Nat := 198
abbrev zdi : Nat := 199
abbrev z1ac : Nat := 200
abbrev z1gc : Nat := 201
abbrev zw6 : Nat := 202
abbrev z167 : Nat := 203
abbrev zq0 : Nat := 204
abbrev zsw : Nat := 205
abbrev fn_abi_NoEscape : Nat := 206
abbrev z19e : Nat := 207
abbrev za9 : Nat := 208
abbrev zt0 : Nat := 209
abbrev z71 : Nat := 210
abbrev z12f : Nat := 211
abbrev zhy : Nat := 212
abbrev z11s : Nat := 213
abbrev zdn : Nat := 214
abbrev z1gd : Nat := 215
abbrev zkz : Nat := 216
abbrev zw5 : Nat := 217
abbrev fn_bits_Len64 : Nat := 218
abbrev zye : Nat := 219
abbrev zqq : Nat := 220
abbrev zyd : Nat := 221
abbrev zqo : Nat := 222
abbrev z10f : Nat := 223
abbrev zr8 : Nat := 224
abbrev zqp : Nat := 225
abbrev zkq : Nat := 226
abbrev zqr : Nat := 227
abbrev zkr : Nat := 228
abbrev zw8 : Nat := 229
abbrev zp3 : Nat := 230
abbrev z1gh : Nat := 231
abbrev zss : Nat := 232
abbrev zlc : Nat := 233
abbrev z24 : Nat := 234
abbrev z59 : Nat := 235
abbrev z34 : Nat := 236
abbrev z13l : Nat := 237
abbrev z13k : Nat := 238
abbrev ziw : Nat := 239
abbrev zhc : Nat := 240
abbrev z7b : Nat := 241
abbrev zw9 : Nat := 242
abbrev z13j : Nat := 243
abbrev z10i : Nat := 244
abbrev z1eq : Nat := 245
def ann : List (Nat × List ((List Nat × Nat) × Dir)) := [
 (11, [(([11], 9), ⟨[3, 4, 7, 10], [], []⟩), (([11], 10), ⟨[4, 7, 11, 12], [], []⟩), (([11], 11), ⟨[4], [], []⟩)]),
 (12, [(([12], 2), ⟨[4], [], []⟩), (([12], 3), ⟨[0, 3, 4], [], []⟩)]),
 (14, [(([14], 2), ⟨[4], [], []⟩), (([14], 3), ⟨[0, 3, 4], [], []⟩)]),
 (16, [(([16], 3), ⟨[0, 3, 4], [], [(3, 5, 1)]⟩), (([16], 7), ⟨[0, 3, 4, 5], [], []⟩)]),
 (23, [(([23], 3), ⟨[3, 8, 9, 10], [], []⟩)]),
 (27, [(([27], 2), ⟨[0, 5, 6, 7], [], []⟩)]),
 (33, [(([33], 3), ⟨[0, 1, 6], [], []⟩), (([33, 11], 3), ⟨[0, 1, 6], [[3, 4, 7, 10, 11, 12, 30, 31, 32, 33, 34, 35, 36]], []⟩), (([33, 40], 3), ⟨[0, 1, 6], [[1, 2, 6, 9, 10, 11, 12, 27, 28, 29, 30, 31, 32]], []⟩), (([33], 5), ⟨[0, 1, 2, 6, 8], [], []⟩), (([33, 11], 5), ⟨[0, 1, 2, 6, 8], [[3, 4, 7, 10, 11, 12, 30, 31, 32, 33, 34, 35, 36]], []⟩), (([33, 40], 5), ⟨[0, 1, 2, 6, 8], [[1, 2, 6, 9, 10, 11, 12, 27, 28, 29, 30, 31, 32]], []⟩), (([33], 6), ⟨[1, 2, 6, 8, 9, 10], [], []⟩), (([33, 11], 6), ⟨[1, 2, 6, 8, 9, 10], [[3, 4, 7, 10, 11, 12, 30, 31, 32, 33, 34, 35, 36]], []⟩), (([33, 40], 6), ⟨[1, 2, 6, 8, 9, 10], [[1, 2, 6, 9, 10, 11, 12, 27, 28, 29, 30, 31, 32]], []⟩), (([33], 8), ⟨[1, 6, 8], [], []⟩), (([33, 11], 8), ⟨[1, 6, 8], [[3, 4, 7, 10, 11, 12, 30, 31, 32, 33, 34, 35, 36]], []⟩), (([33, 40], 8), ⟨[1, 6, 8], [[1, 2, 6, 9, 10, 11, 12, 27, 28, 29, 30, 31, 32]], []⟩), (([33], 12), ⟨[6], [], []⟩), (([33, 11], 12), ⟨[6], [[3, 4, 7, 10, 11, 12, 30, 31, 32, 33, 34, 35, 36]], []⟩), (([33, 40], 12), ⟨[6], [[1, 2, 6, 9, 10, 11, 12, 27, 28, 29, 30, 31, 32]], []⟩), (([33], 13), ⟨[1, 6, 11], [], []⟩), (([33, 11], 13), ⟨[1, 6, 11], [[3, 4, 7, 10, 11, 12, 30, 31, 32, 33, 34, 35, 36]], []⟩), (([33, 40], 13), ⟨[1, 6, 11], [[1, 2, 6, 9, 10, 11, 12, 27, 28, 29, 30, 31, 32]], []⟩), (([33], 15), ⟨[6, 11], [], []⟩), (([33, 11], 15), ⟨[6, 11], [[3, 4, 7, 10, 11, 12, 30, 31, 32, 33, 34, 35, 36]], []⟩), (([33, 40], 15), ⟨[6, 11], [[1, 2, 6, 9, 10, 11, 12, 27, 28, 29, 30, 31, 32]], []⟩)]),
 (35, [(([35], 4), ⟨[0, 3, 4, 5], [], [(3, 9, 1)]⟩), (([35], 7), ⟨[0, 3, 4, 5], [], []⟩)]),
 (37, [(([37], 4), ⟨[0, 4], [], []⟩)]),
 (38, [(([38], 6), ⟨[0, 1, 12], [], []⟩), (([38], 8), ⟨[0, 1, 11, 12], [], []⟩), (([38], 9), ⟨[], [], []⟩), (([38], 10), ⟨[0, 1, 11, 12], [], []⟩), (([38], 12), ⟨[0, 11, 12], [], []⟩), (([38], 13), ⟨[], [], []⟩), (([38], 14), ⟨[0, 11, 12], [], []⟩)]),
 (40, [(([40], 3), ⟨[1, 2, 6, 9, 10], [], []⟩), (([40], 4), ⟨[2, 6, 9, 11, 12], [], []⟩), (([40], 6), ⟨[2, 6, 9, 11, 12, 13, 14, 15, 16, 17], [], []⟩), (([40], 7), ⟨[2, 6, 9, 11, 12, 14, 16], [], []⟩), (([40], 9), ⟨[2, 6, 9, 11, 12, 14, 16], [], []⟩), (([40], 10), ⟨[2, 6, 9, 11, 12, 13, 14, 15], [], []⟩), (([40], 11), ⟨[2, 6, 9, 11, 12, 13, 14, 15, 18, 19], [], []⟩), (([40], 13), ⟨[6, 9, 11, 12, 13, 15, 18], [], []⟩), (([40], 14), ⟨[6, 9, 11, 12, 13, 14, 15], [], []⟩), (([40], 15), ⟨[6], [], []⟩), (([40], 16), ⟨[6, 11, 13, 14, 15], [], []⟩), (([40], 18), ⟨[6], [], []⟩), (([40], 19), ⟨[6, 13, 14, 20], [], []⟩)]),
 (41, [(([41], 4), ⟨[6], [], []⟩), (([41], 5), ⟨[2, 6, 10, 11, 12, 13], [], []⟩), (([41], 12), ⟨[6, 10, 11, 12, 13, 16, 18], [], []⟩), (([41], 17), ⟨[6, 10, 11, 12, 15, 16, 17], [], []⟩)]),
 (53, [(([53], 4), ⟨[0, 1, 5, 6, 14], [], [(5, 150, 2)]⟩), (([53], 14), ⟨[0, 5], [], []⟩), (([53], 16), ⟨[0, 9, 47, 48, 49], [], []⟩)]),
 (66, [(([66], 5), ⟨[2, 5], [], []⟩), (([66], 10), ⟨[2, 5], [], []⟩), (([66], 13), ⟨[2, 5], [], []⟩), (([66], 16), ⟨[2, 5], [], []⟩), (([66], 19), ⟨[2, 5], [], []⟩), (([66], 24), ⟨[2, 5], [], []⟩)]),
 (71, [(([71], 4), ⟨[0, 1, 12], [], []⟩), (([71, 33], 4), ⟨[0, 1, 12], [[1, 2, 6, 8, 9, 11, 12, 41, 42, 43, 47, 48, 49, 50, 51]], []⟩), (([71, 33, 11], 4), ⟨[0, 1, 12], [[1, 2, 6, 8, 9, 11, 12, 41, 42, 43, 47, 48, 49, 50, 51], [3, 4, 7, 10, 11, 12, 30, 31, 32, 33, 34, 35, 36]], []⟩), (([71, 33, 40], 4), ⟨[0, 1, 12], [[1, 2, 6, 8, 9, 11, 12, 41, 42, 43, 47, 48, 49, 50, 51], [1, 2, 6, 9, 10, 11, 12, 27, 28, 29, 30, 31, 32]], []⟩)]),
 (72, [(([72], 3), ⟨[], [], []⟩), (([72], 4), ⟨[0, 1, 5], [], []⟩)]),
 (76, [(([76], 5), ⟨[0, 1, 4, 5, 6], [], []⟩), (([76], 10), ⟨[4, 7], [], []⟩), (([76], 11), ⟨[1, 4, 7], [], []⟩), (([76], 23), ⟨[4, 8, 9, 10], [], []⟩), (([76], 24), ⟨[4], [], []⟩), (([76], 25), ⟨[4, 8, 9, 10], [], []⟩)]),
 (78, [(([78], 9), ⟨[0, 2, 3, 4, 5], [], []⟩), (([78], 10), ⟨[2, 3, 4, 5], [], []⟩), (([78], 11), ⟨[2, 3, 4, 5], [], []⟩), (([78], 12), ⟨[2, 4, 5, 6], [], []⟩)]),
 (79, [(([79], 10), ⟨[0, 5], [], []⟩), (([79], 15), ⟨[0, 5], [], []⟩)]),
 (81, [(([81], 4), ⟨[0, 12], [], []⟩), (([81], 7), ⟨[0, 3], [], []⟩)]),
 (83, [(([83], 2), ⟨[4, 5, 6], [], []⟩), (([83], 3), ⟨[], [], []⟩), (([83], 4), ⟨[4, 5], [], []⟩), (([83], 11), ⟨[4, 7, 8], [], []⟩), (([83], 12), ⟨[], [], []⟩), (([83], 13), ⟨[4, 7, 8], [], []⟩)]),
 (84, [(([84], 2), ⟨[4], [], []⟩), (([84], 3), ⟨[1, 2, 4], [], []⟩), (([84], 8), ⟨[4, 6, 7], [], []⟩)]),
 (85, [(([85], 5), ⟨[0, 3, 4], [], []⟩), (([85], 8), ⟨[0, 3, 4], [], []⟩)]),
 (86, [(([86], 2), ⟨[0, 4], [], []⟩), (([86], 5), ⟨[0, 4], [], []⟩), (([86], 3), ⟨[0, 4], [], []⟩)]),
 (87, [(([87], 3), ⟨[4, 5], [], []⟩), (([87], 4), ⟨[4, 5], [], []⟩), (([87], 5), ⟨[4, 5], [], []⟩), (([87], 6), ⟨[4, 5, 6], [], []⟩), (([87], 9), ⟨[4, 5, 6, 8], [], []⟩), (([87], 10), ⟨[4, 5, 6, 7, 8], [], []⟩), (([87], 11), ⟨[4, 5, 6, 7], [], []⟩), (([87], 13), ⟨[4, 5, 6, 7, 8, 9], [], []⟩), (([87], 14), ⟨[4, 5, 6, 7, 8, 10], [], []⟩), (([87], 17), ⟨[4, 5, 6, 7, 8], [], []⟩)]),
 (88, [(([88], 2), ⟨[4], [], []⟩), (([88], 3), ⟨[1, 2, 4], [], []⟩), (([88], 9), ⟨[1, 4, 6], [], []⟩)]),
 (100, [(([100], 8), ⟨[0, 1], [], []⟩), (([100], 10), ⟨[0, 6], [], []⟩), (([100], 11), ⟨[0, 6], [], []⟩), (([100], 20), ⟨[0, 7], [], []⟩), (([100], 21), ⟨[7], [], []⟩), (([100], 22), ⟨[0, 7], [], []⟩), (([100], 23), ⟨[7], [], []⟩), (([100], 24), ⟨[0, 7], [], []⟩), (([100], 25), ⟨[7], [], []⟩), (([100], 26), ⟨[0, 7], [], []⟩), (([100], 27), ⟨[7], [], []⟩), (([100], 28), ⟨[0, 7], [], []⟩), (([100], 29), ⟨[7], [], []⟩), (([100], 30), ⟨[0, 7], [], []⟩), (([100], 35), ⟨[0, 7, 8], [], []⟩), (([100], 37), ⟨[0, 7, 8, 9], [], []⟩), (([100], 38), ⟨[7, 8, 9], [], []⟩), (([100], 39), ⟨[7, 8, 9], [], []⟩)]),
 (107, [(([107], 3), ⟨[0, 4, 5, 9], [], []⟩), (([107], 9), ⟨[0, 4, 5, 7, 9], [], []⟩)]),
 (116, [(([116], 3), ⟨[0, 1, 7, 8], [], []⟩)]),
 (117, [(([117], 5), ⟨[6, 7], [], []⟩), (([117], 8), ⟨[6, 7, 8], [], []⟩), (([117], 12), ⟨[6, 7, 9], [], []⟩)]),
 (121, [(([121], 3), ⟨[0, 1, 2], [], []⟩)]),
 (122, [(([122], 2), ⟨[0, 7], [], []⟩), (([122], 3), ⟨[0, 7, 8], [], []⟩)]),
 (124, [(([124], 3), ⟨[0, 1, 5, 6], [], [(5, 9, 1)]⟩)]),
 (126, [(([126], 2), ⟨[0, 1, 5], [], []⟩), (([126], 4), ⟨[0, 1, 5], [], []⟩)]),
 (129, [(([129], 3), ⟨[0, 3, 9, 10, 11], [], []⟩), (([129], 8), ⟨[0, 3, 9, 10, 11], [], []⟩), (([129], 10), ⟨[0, 6], [], []⟩), (([129], 11), ⟨[6, 25, 26, 27], [], [(6, 9, 1)]⟩)]),
 (130, [(([130], 7), ⟨[0, 5], [], []⟩), (([130], 12), ⟨[0, 6, 8], [], []⟩), (([130], 17), ⟨[0, 1], [], []⟩), (([130], 18), ⟨[1, 45], [], []⟩)]),
 (131, [(([131], 2), ⟨[0], [], []⟩), (([131], 3), ⟨[0, 1], [], []⟩), (([131], 4), ⟨[0, 1], [], []⟩), (([131], 5), ⟨[0, 1], [], []⟩)]),
 (132, [(([132], 3), ⟨[5, 6, 13], [], [(5, 171, 2)]⟩), (([132, 83], 3), ⟨[5, 6, 13], [[0, 4, 5, 6, 9, 10, 11, 12, 13, 14]], [(5, 171, 2)]⟩), (([132], 8), ⟨[5, 6, 8, 9, 13], [], []⟩), (([132, 83], 8), ⟨[5, 6, 8, 9, 13], [[0, 4, 5, 6, 9, 10, 11, 12, 13, 14]], []⟩), (([132], 10), ⟨[5, 6, 8, 13], [], []⟩), (([132, 83], 10), ⟨[5, 6, 8, 13], [[0, 4, 5, 6, 9, 10, 11, 12, 13, 14]], []⟩), (([132], 11), ⟨[5, 6, 8, 13], [], []⟩), (([132, 83], 11), ⟨[5, 6, 8, 13], [[0, 4, 5, 6, 9, 10, 11, 12, 13, 14]], []⟩)]),
 (135, [(([135], 2), ⟨[], [], []⟩), (([135], 3), ⟨[0, 1, 2, 3], [], []⟩)]),
 (136, [(([136], 3), ⟨[0, 1, 2, 7, 8], [], []⟩), (([136, 87], 3), ⟨[0, 1, 2, 7, 8], [[4, 5, 6, 7, 8, 9, 14, 15, 22, 23, 26, 27, 35, 36]], []⟩), (([136], 4), ⟨[0, 1, 2, 7, 8], [], []⟩), (([136, 87], 4), ⟨[0, 1, 2, 7, 8], [[4, 5, 6, 7, 8, 9, 14, 15, 22, 23, 26, 27, 35, 36]], []⟩), (([136], 6), ⟨[0, 1, 7, 8], [], []⟩), (([136, 87], 6), ⟨[0, 1, 7, 8], [[4, 5, 6, 7, 8, 9, 14, 15, 22, 23, 26, 27, 35, 36]], []⟩)]),
 (137, [(([137], 2), ⟨[], [], []⟩), (([137, 87], 2), ⟨[], [[4, 5, 6, 7, 8, 16, 17, 18, 24, 25, 28, 29]], []⟩)]),
 (138, [(([138], 2), ⟨[], [], []⟩), (([138], 3), ⟨[0, 1, 2, 3], [], []⟩)]),
 (142, [(([142], 10), ⟨[0, 1, 5], [], []⟩), (([142], 11), ⟨[0, 1, 5], [], []⟩), (([142], 12), ⟨[0, 1, 5, 39, 40, 41], [], []⟩), (([142], 16), ⟨[0, 1, 5, 7, 39, 40, 41], [], []⟩), (([142], 20), ⟨[0, 1, 8], [], []⟩), (([142], 21), ⟨[0, 1, 8], [], []⟩), (([142], 22), ⟨[1, 8, 63, 64, 65], [], []⟩)]),
 (144, [(([144], 2), ⟨[], [], []⟩), (([144], 3), ⟨[0], [], []⟩), (([144], 6), ⟨[3, 4, 17], [], []⟩)]),
 (148, [(([148], 1), ⟨[0, 1], [], []⟩), (([148], 3), ⟨[0, 1], [], []⟩)]),
 (149, [(([149], 2), ⟨[0, 1], [], []⟩)]),
 (152, [(([152], 3), ⟨[0, 1, 5, 6], [], []⟩), (([152], 5), ⟨[0, 1, 5, 6], [], []⟩)]),
 (156, [(([156], 3), ⟨[], [], []⟩), (([156], 4), ⟨[0, 1, 5], [], []⟩), (([156], 9), ⟨[0, 1], [], []⟩), (([156], 10), ⟨[0, 1, 5], [], []⟩), (([156], 15), ⟨[0, 1, 5, 6, 7, 8, 9, 10], [], []⟩), (([156], 21), ⟨[0, 1, 5, 6, 7, 8, 9, 10], [], []⟩), (([156], 22), ⟨[8], [], []⟩), (([156], 23), ⟨[0, 1, 5, 6, 7, 8, 9, 10], [], []⟩), (([156], 26), ⟨[0, 1, 8], [], []⟩), (([156], 30), ⟨[0, 1, 5, 6, 7, 8, 9, 10], [], []⟩), (([156], 31), ⟨[0, 1, 8], [], []⟩)]),
 (157, [(([157], 2), ⟨[], [], []⟩), (([157], 3), ⟨[0], [], []⟩), (([157], 4), ⟨[], [], []⟩), (([157], 5), ⟨[0], [], []⟩), (([157], 10), ⟨[], [], []⟩)]),
 (158, [(([158], 5), ⟨[0, 3], [], []⟩)]),
 (162, [(([162], 7), ⟨[0, 1, 2, 3], [], []⟩), (([162], 11), ⟨[0, 1, 2, 3, 9, 10], [], []⟩)]),
 (163, [(([163], 3), ⟨[0, 3, 4], [], []⟩)]),
 (169, [(([169], 4), ⟨[0, 4, 5, 6], [], []⟩), (([169], 10), ⟨[0, 4, 6, 7], [], []⟩), (([169], 11), ⟨[0, 4, 5, 6, 7], [], []⟩), (([169], 5), ⟨[0, 4, 5, 6], [], []⟩)]),
 (170, [(([170], 3), ⟨[0, 1], [], []⟩), (([170, 129], 3), ⟨[0, 1], [[0, 3, 6, 23, 24]], []⟩)]),
 (171, [(([171], 36), ⟨[0, 1, 2, 3, 4, 5, 6, 11, 13, 14, 15, 16, 34, 35, 36, 37, 38, 39, 40, 41, 42, 43, 44, 45, 46, 47, 52, 53, 65, 66, 67, 68, 69, 70, 71, 72, 73, 74, 75, 76, 77, 78, 79, 80, 81, 82, 83, 84, 85, 86, 87, 88, 89, 90, 91, 92, 93, 94, 95, 96, 97, 98, 99, 100, 101, 102, 103, 104, 105, 106, 107, 108, 109, 110, 111, 112, 113, 114, 115, 116, 117, 118, 119, 120, 121, 122, 123, 124, 125, 126, 127, 128, 129, 130, 131, 132, 133, 134, 135, 136, 137, 138, 139, 140, 141, 142, 143, 144, 145, 146, 147, 148, 149, 150, 151, 152, 153, 154, 155, 156, 157, 158, 159, 160, 161, 162, 163, 164, 165, 166, 167, 168, 169, 170, 174, 175, 176, 177, 178, 179, 180, 181, 182], [], []⟩), (([171], 38), ⟨[175], [], []⟩), (([171], 5), ⟨[0, 1, 2, 3, 4, 5, 6, 7, 8, 9, 10, 11, 13, 14, 15, 16, 17, 18, 19, 20, 21, 22, 34, 35, 36, 37, 38, 39, 40, 41, 42, 43, 44, 45, 46, 47, 52, 53, 65, 66, 67, 68, 69, 70, 71, 72, 73, 74, 75, 76, 77, 78, 79, 80, 81, 82, 83, 84, 85, 86, 87, 88, 89, 90, 91, 92, 93, 94, 95, 96, 97, 98, 99, 100, 101, 102, 103, 104, 105, 106, 107, 108, 109, 110, 111, 112, 113, 114, 115, 116, 117, 118, 119, 120, 121, 122, 123, 124, 125, 126, 127, 128, 129, 130, 131, 132, 133, 134, 135, 136, 137, 138, 139, 140, 141, 142, 143, 144, 145, 146, 147, 148, 149, 150, 151, 152, 153, 154, 155, 156, 157, 158, 159, 160, 161, 162, 163, 164, 165, 166, 167, 168, 169, 170, 171, 172, 173, 174, 175, 176, 177, 178, 179, 180, 181, 182, 183, 184, 185, 186], [], []⟩), (([171], 11), ⟨[0, 1, 2, 3, 4, 5, 6, 7, 8, 9, 10, 11, 13, 14, 15, 16, 17, 18, 19, 20, 21, 22, 23, 24, 25, 26, 27, 28, 29, 30, 31, 32, 33, 34, 35, 36, 37, 38, 39, 40, 41, 42, 43, 44, 45, 46, 47, 52, 53, 65, 66, 67, 68, 69, 70, 71, 72, 73, 74, 75, 76, 77, 78, 79, 80, 81, 82, 83, 84, 85, 86, 87, 88, 89, 90, 91, 92, 93, 94, 95, 96, 97, 98, 99, 100, 101, 102, 103, 104, 105, 106, 107, 108, 109, 110, 111, 112, 113, 114, 115, 116, 117, 118, 119, 120, 121, 122, 123, 124, 125, 126, 127, 128, 129, 130, 131, 132, 133, 134, 135, 136, 137, 138, 139, 140, 141, 142, 143, 144, 145, 146, 147, 148, 149, 150, 151, 152, 153, 154, 155, 156, 157, 158, 159, 160, 161, 162, 163, 164, 165, 166, 167, 168, 169, 170, 171, 172, 173, 174, 175, 176, 177, 178, 179, 180, 181, 182, 183, 184, 185, 186], [], []⟩), (([171], 12), ⟨[0, 1, 2, 3, 4, 5, 6, 7, 8, 9, 10, 11, 12, 13, 14, 15, 16, 17, 18, 19, 20, 21, 22, 23, 24, 25, 26, 27, 28, 29, 30, 31, 32, 33, 34, 35, 36, 37, 38, 39, 40, 41, 42, 43, 44, 45, 46, 47, 52, 53, 65, 66, 67, 68, 69, 70, 71, 72, 73, 74, 75, 76, 77, 78, 79, 80, 81, 82, 83, 84, 85, 86, 87, 88, 89, 90, 91, 92, 93, 94, 95, 96, 97, 98, 99, 100, 101, 102, 103, 104, 105, 106, 107, 108, 109, 110, 111, 112, 113, 114, 115, 116, 117, 118, 119, 120, 121, 122, 123, 124, 125, 126, 127, 128, 129, 130, 131, 132, 133, 134, 135, 136, 137, 138, 139, 140, 141, 142, 143, 144, 145, 146, 147, 148, 149, 150, 151, 152, 153, 154, 155, 156, 157, 158, 159, 160, 161, 162, 163, 164, 165, 166, 167, 168, 169, 170, 171, 172, 173, 174, 175, 176, 177, 178, 179, 180, 181, 182, 183, 184, 185, 186], [], []⟩)]),
 (173, [(([173], 2), ⟨[0, 2, 4], [], []⟩)]),
 (175, [(([175], 1), ⟨[0, 1], [], []⟩)]),
 (176, [(([176], 1), ⟨[0, 1], [], []⟩)]),
 (177, [(([177], 1), ⟨[0, 1], [], []⟩), (([177], 5), ⟨[0, 1, 5, 6], [], []⟩)]),
 (186, [(([186], 9), ⟨[10, 11], [], []⟩), (([186], 10), ⟨[11], [], []⟩)]),
 (190, [(([190], 5), ⟨[0, 1, 5, 6, 7, 8, 9], [], []⟩), (([190], 9), ⟨[], [], []⟩), (([190], 10), ⟨[0, 1, 5, 6, 7, 8], [], []⟩), (([190], 11), ⟨[0, 1, 5, 6, 7, 8, 10], [], []⟩)]),
 (192, [(([192], 3), ⟨[0, 5], [], []⟩), (([192], 4), ⟨[0, 1], [], []⟩), (([192], 6), ⟨[0, 1, 6, 7], [], []⟩)]),
 (193, [(([193], 6), ⟨[0, 1, 5], [], []⟩)]),
 (197, [(([197], 2), ⟨[0, 1, 7, 8], [], []⟩)]),
 (201, [(([201], 3), ⟨[0], [], []⟩)]),
 (202, [(([202], 10), ⟨[0, 4, 5, 6], [], []⟩), (([202], 13), ⟨[0, 4, 5], [], []⟩), (([202], 15), ⟨[0, 4, 5], [], []⟩)]),
 (208, [(([208], 3), ⟨[0, 1, 2], [], []⟩), (([208], 5), ⟨[0, 1, 2], [], []⟩), (([208], 17), ⟨[2, 8, 9, 10, 11, 13, 14, 15, 16], [], []⟩), (([208], 18), ⟨[2, 8, 9, 10, 11, 13, 14, 15, 16], [], []⟩), (([208], 21), ⟨[2, 8, 9, 10, 11, 13, 14, 15], [], []⟩), (([208], 24), ⟨[2, 8, 9, 10, 14, 15, 16, 17, 18], [], []⟩), (([208], 25), ⟨[2, 8, 9, 10, 14, 15, 16, 17, 18], [], []⟩), (([208], 28), ⟨[2, 8, 14, 15, 17, 18], [], []⟩)]),
 (211, [(([211], 3), ⟨[0, 4, 5], [], []⟩), (([211], 8), ⟨[4, 6, 7, 8], [], []⟩)]),
 (212, [(([212], 2), ⟨[2, 4], [], []⟩)]),
 (217, [(([217], 15), ⟨[], [], []⟩), (([217], 16), ⟨[0, 5, 8, 10], [], []⟩), (([217], 20), ⟨[], [], []⟩), (([217], 21), ⟨[0, 5, 8, 10, 11], [], []⟩), (([217], 25), ⟨[], [], []⟩), (([217], 26), ⟨[5, 10, 11, 12], [], []⟩)]),
 (218, [(([218], 4), ⟨[0, 2], [], []⟩), (([218], 7), ⟨[0, 2], [], []⟩)]),
 (234, [(([234], 5), ⟨[0, 2, 4, 5], [], []⟩), (([234], 6), ⟨[0, 2, 4, 5], [], []⟩), (([234], 7), ⟨[0, 2, 4, 5], [], []⟩)]),
 (235, [(([235], 2), ⟨[0, 1, 7, 8], [], []⟩)]),
 (239, [(([239], 1), ⟨[0, 2, 3], [], []⟩), (([239, 234], 1), ⟨[0, 2, 3], [[0, 2, 4, 5, 26, 27]], []⟩)]),
 (241, [(([241], 4), ⟨[1, 2, 4, 5, 6], [], []⟩), (([241], 6), ⟨[2, 4, 5, 6], [], []⟩)])]
noncomputable def EE : Env := { P := Tryz.prog, tt, ext := [(209, zou), (210, z5t), (214, zk4)], ann, inl := [(9, 24), (11, 32), (11, 33), (24, 25), (24, 28), (24, 29), (24, 55), (25, 26), (26, 58), (26, 59), (28, 59), (28, 61), (28, 62), (28, 63), (29, 59), (29, 61), (29, 62), (29, 63), (29, 65), (33, 65), (33, 71), (40, 32), (40, 33), (40, 65), (47, 97), (58, 59), (58, 106), (62, 59), (63, 59), (63, 61), (63, 62), (63, 113), (83, 132), (87, 136), (87, 137), (100, 148), (100, 149), (100, 150), (100, 151), (106, 61), (106, 62), (106, 113), (113, 59), (129, 170), (142, 148), (142, 149), (142, 151), (148, 184), (148, 185), (149, 184), (234, 237), (234, 238), (234, 239)], mt := [((55, "computus/read.half"), 58), ((55, "computus/read.iso"), 26), ((55, "computus/read.letter"), 106), ((55, "computus/read.more"), 61), ((55, "computus/read.named"), 29), ((55, "computus/read.signed"), 62), ((55, "computus/read.sql"), 28), ((55, "computus/read.time"), 63), ((63, "computus/read.take"), 65), ((118, "computus/read.date"), 234), ((158, "computus/read.date"), 240), ((160, "computus/read.date"), 241), ((171, "computus/clock.one"), 133), ((171, "computus/clock.two"), 134), ((173, "computus/computusref03.num"), 136), ((173, "computus/computusref03.sign"), 137), ((183, "Grow"), 148), ((183, "Len"), 150), ((183, "String"), 151), ((183, "WriteString"), 149), ((183, "strings.copyCheck"), 184), ((183, "strings.grow"), 185), ((212, "strings.contains"), 174)], eqs := [24, 33, 37], same := [206], mnz := [(207, 5)] }
end Dv
