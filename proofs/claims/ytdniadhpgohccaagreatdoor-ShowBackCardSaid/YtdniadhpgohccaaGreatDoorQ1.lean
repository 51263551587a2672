/- The seat's functions, as equations. -/
import Derived.Test.YtdniadhpgohccaaGreatDoorL1
import Derived.Test.YtdniadhpgohccaaGreatDoorProg
set_option linter.unusedVariables false
set_option linter.unusedSimpArgs false
namespace Dv
open Go Go.Proofs
def tt : List TI := [
 ⟨.tuple [], 1, 0, .undef, [.other]⟩,
 ⟨.func, 1, 8, .nilfn, [.other]⟩,
 ⟨.int .i64, 1, 8, (.int .i64 0), [.int .i64]⟩,
 ⟨.int .i64, 1, 8, (.int .i64 0), [.int .i64]⟩,
 ⟨.bool, 1, 1, (.bool false), [.bool]⟩,
 ⟨.int .u8, 1, 1, (.int .u8 0), [.int .u8]⟩,
 ⟨.int .u8, 1, 1, (.int .u8 0), [.int .u8]⟩,
 ⟨.struct [(0, 2), (1, 3), (2, 4), (3, 6)], 4, 24, (.agg [(.int .i64 0), (.int .i64 0), (.bool false), (.int .u8 0)]), [.int .i64, .int .i64, .bool, .int .u8]⟩,
 ⟨.struct [(0, 2), (1, 3), (2, 4), (3, 6)], 4, 24, (.agg [(.int .i64 0), (.int .i64 0), (.bool false), (.int .u8 0)]), [.int .i64, .int .i64, .bool, .int .u8]⟩,
 ⟨.str, 1, 16, (.str []), [.str]⟩,
 ⟨.str, 1, 16, (.str []), [.str]⟩,
 ⟨.str, 1, 16, (.str []), [.str]⟩,
 ⟨.int .u64, 1, 8, (.int .u64 0), [.int .u64]⟩,
 ⟨.struct [(0, 9), (1, 12)], 2, 24, (.agg [(.str []), (.int .u64 0)]), [.str, .int .u64]⟩,
 ⟨.struct [(0, 9), (1, 12)], 2, 24, (.agg [(.str []), (.int .u64 0)]), [.str, .int .u64]⟩,
 ⟨.ptr 247, 1, 8, .nilp, [.other]⟩,
 ⟨.ptr 250, 1, 8, .nilp, [.other]⟩,
 ⟨.ptr 257, 1, 8, .nilp, [.other]⟩,
 ⟨.struct [(0, 17)], 1, 8, (.agg [.nilp]), [.other]⟩,
 ⟨.struct [(0, 17)], 1, 8, (.agg [.nilp]), [.other]⟩,
 ⟨.iface false, 1, 16, .nili, [.other]⟩,
 ⟨.int .i32, 1, 4, (.int .i32 0), [.int .i32]⟩,
 ⟨.func, 1, 8, .nilfn, [.other]⟩,
 ⟨.struct [(0, 3), (1, 2), (2, 2), (3, 2)], 4, 32, (.agg [(.int .i64 0), (.int .i64 0), (.int .i64 0), (.int .i64 0)]), [.int .i64, .int .i64, .int .i64, .int .i64]⟩,
 ⟨.struct [(0, 3), (1, 2), (2, 2), (3, 2)], 4, 32, (.agg [(.int .i64 0), (.int .i64 0), (.int .i64 0), (.int .i64 0)]), [.int .i64, .int .i64, .int .i64, .int .i64]⟩,
 ⟨.int .i64, 1, 8, (.int .i64 0), [.int .i64]⟩,
 ⟨.tuple [24, 25], 1, 0, .undef, [.other]⟩,
 ⟨.func, 1, 8, .nilfn, [.other]⟩,
 ⟨.func, 1, 8, .nilfn, [.other]⟩,
 ⟨.func, 1, 8, .nilfn, [.other]⟩,
 ⟨.struct [(0, 3), (1, 3), (2, 3)], 3, 24, (.agg [(.int .i64 0), (.int .i64 0), (.int .i64 0)]), [.int .i64, .int .i64, .int .i64]⟩,
 ⟨.struct [(0, 3), (1, 3), (2, 3)], 3, 24, (.agg [(.int .i64 0), (.int .i64 0), (.int .i64 0)]), [.int .i64, .int .i64, .int .i64]⟩,
 ⟨.struct [(0, 3), (1, 2)], 2, 16, (.agg [(.int .i64 0), (.int .i64 0)]), [.int .i64, .int .i64]⟩,
 ⟨.struct [(0, 3), (1, 2)], 2, 16, (.agg [(.int .i64 0), (.int .i64 0)]), [.int .i64, .int .i64]⟩,
 ⟨.tuple [33, 25], 1, 0, .undef, [.other]⟩,
 ⟨.func, 1, 8, .nilfn, [.other]⟩,
 ⟨.struct [(0, 3), (1, 2)], 2, 16, (.agg [(.int .i64 0), (.int .i64 0)]), [.int .i64, .int .i64]⟩,
 ⟨.struct [(0, 3), (1, 2)], 2, 16, (.agg [(.int .i64 0), (.int .i64 0)]), [.int .i64, .int .i64]⟩,
 ⟨.tuple [37, 25], 1, 0, .undef, [.other]⟩,
 ⟨.func, 1, 8, .nilfn, [.other]⟩,
 ⟨.func, 1, 8, .nilfn, [.other]⟩,
 ⟨.func, 1, 8, .nilfn, [.other]⟩,
 ⟨.tuple [9, 25], 1, 0, .undef, [.other]⟩,
 ⟨.func, 1, 8, .nilfn, [.other]⟩,
 ⟨.func, 1, 8, .nilfn, [.other]⟩,
 ⟨.func, 1, 8, .nilfn, [.other]⟩,
 ⟨.func, 1, 8, .nilfn, [.other]⟩,
 ⟨.func, 1, 8, .nilfn, [.other]⟩,
 ⟨.slice 5, 1, 24, .sl0, [.slice 1]⟩,
 ⟨.slice 9, 1, 24, .sl0, [.slice 1]⟩,
 ⟨.slice 9, 1, 24, .sl0, [.slice 1]⟩,
 ⟨.func, 1, 8, .nilfn, [.other]⟩,
 ⟨.tuple [33, 4], 1, 0, .undef, [.other]⟩,
 ⟨.func, 1, 8, .nilfn, [.other]⟩,
 ⟨.func, 1, 8, .nilfn, [.other]⟩,
 ⟨.ptr 94, 1, 8, .nilp, [.other]⟩,
 ⟨.func, 1, 8, .nilfn, [.other]⟩,
 ⟨.func, 1, 8, .nilfn, [.other]⟩,
 ⟨.func, 1, 8, .nilfn, [.other]⟩,
 ⟨.func, 1, 8, .nilfn, [.other]⟩,
 ⟨.func, 1, 8, .nilfn, [.other]⟩,
 ⟨.func, 1, 8, .nilfn, [.other]⟩,
 ⟨.func, 1, 8, .nilfn, [.other]⟩,
 ⟨.ptr 50, 1, 8, .nilp, [.other]⟩,
 ⟨.struct [(0, 2), (1, 2), (2, 2)], 3, 24, (.agg [(.int .i64 0), (.int .i64 0), (.int .i64 0)]), [.int .i64, .int .i64, .int .i64]⟩,
 ⟨.struct [(0, 2), (1, 2), (2, 2)], 3, 24, (.agg [(.int .i64 0), (.int .i64 0), (.int .i64 0)]), [.int .i64, .int .i64, .int .i64]⟩,
 ⟨.tuple [65, 4], 1, 0, .undef, [.other]⟩,
 ⟨.func, 1, 8, .nilfn, [.other]⟩,
 ⟨.func, 1, 8, .nilfn, [.other]⟩,
 ⟨.func, 1, 8, .nilfn, [.other]⟩,
 ⟨.tuple [49, 4], 1, 0, .undef, [.other]⟩,
 ⟨.func, 1, 8, .nilfn, [.other]⟩,
 ⟨.tuple [2, 2, 2, 49, 4], 1, 0, .undef, [.other]⟩,
 ⟨.func, 1, 8, .nilfn, [.other]⟩,
 ⟨.tuple [37, 4], 1, 0, .undef, [.other]⟩,
 ⟨.func, 1, 8, .nilfn, [.other]⟩,
 ⟨.tuple [37, 9, 25], 1, 0, .undef, [.other]⟩,
 ⟨.func, 1, 8, .nilfn, [.other]⟩,
 ⟨.func, 1, 8, .nilfn, [.other]⟩,
 ⟨.func, 1, 8, .nilfn, [.other]⟩,
 ⟨.func, 1, 8, .nilfn, [.other]⟩,
 ⟨.func, 1, 8, .nilfn, [.other]⟩,
 ⟨.func, 1, 8, .nilfn, [.other]⟩,
 ⟨.func, 1, 8, .nilfn, [.other]⟩,
 ⟨.tuple [9, 9], 1, 0, .undef, [.other]⟩,
 ⟨.func, 1, 8, .nilfn, [.other]⟩,
 ⟨.func, 1, 8, .nilfn, [.other]⟩,
 ⟨.func, 1, 8, .nilfn, [.other]⟩,
 ⟨.func, 1, 8, .nilfn, [.other]⟩,
 ⟨.func, 1, 8, .nilfn, [.other]⟩,
 ⟨.func, 1, 8, .nilfn, [.other]⟩,
 ⟨.struct [], 0, 0, (.agg []), []⟩,
 ⟨.struct [], 0, 0, (.agg []), []⟩,
 ⟨.struct [(0, 24), (4, 4)], 5, 40, (.agg [(.int .i64 0), (.int .i64 0), (.int .i64 0), (.int .i64 0), (.bool false)]), [.int .i64, .int .i64, .int .i64, .int .i64, .bool]⟩,
 ⟨.struct [(0, 24), (4, 4)], 5, 40, (.agg [(.int .i64 0), (.int .i64 0), (.int .i64 0), (.int .i64 0), (.bool false)]), [.int .i64, .int .i64, .int .i64, .int .i64, .bool]⟩,
 ⟨.func, 1, 8, .nilfn, [.other]⟩,
 ⟨.tuple [9, 9, 4], 1, 0, .undef, [.other]⟩,
 ⟨.func, 1, 8, .nilfn, [.other]⟩,
 ⟨.func, 1, 8, .nilfn, [.other]⟩,
 ⟨.func, 1, 8, .nilfn, [.other]⟩,
 ⟨.func, 1, 8, .nilfn, [.other]⟩,
 ⟨.func, 1, 8, .nilfn, [.other]⟩,
 ⟨.ptr 2, 1, 8, .nilp, [.other]⟩,
 ⟨.func, 1, 8, .nilfn, [.other]⟩,
 ⟨.func, 1, 8, .nilfn, [.other]⟩,
 ⟨.func, 1, 8, .nilfn, [.other]⟩,
 ⟨.arr 8 4, 8, 8, (.agg [(.bool false), (.bool false), (.bool false), (.bool false), (.bool false), (.bool false), (.bool false), (.bool false)]), [.bool, .bool, .bool, .bool, .bool, .bool, .bool, .bool]⟩,
 ⟨.tuple [9, 4], 1, 0, .undef, [.other]⟩,
 ⟨.func, 1, 8, .nilfn, [.other]⟩,
 ⟨.tuple [24, 3], 1, 0, .undef, [.other]⟩,
 ⟨.func, 1, 8, .nilfn, [.other]⟩,
 ⟨.func, 1, 8, .nilfn, [.other]⟩,
 ⟨.tuple [2, 25], 1, 0, .undef, [.other]⟩,
 ⟨.func, 1, 8, .nilfn, [.other]⟩,
 ⟨.func, 1, 8, .nilfn, [.other]⟩,
 ⟨.iface true, 1, 16, .nili, [.other]⟩,
 ⟨.iface true, 1, 16, .nili, [.other]⟩,
 ⟨.func, 1, 8, .nilfn, [.other]⟩,
 ⟨.slice 9, 1, 24, .sl0, [.slice 1]⟩,
 ⟨.func, 1, 8, .nilfn, [.other]⟩,
 ⟨.func, 1, 8, .nilfn, [.other]⟩,
 ⟨.func, 1, 8, .nilfn, [.other]⟩,
 ⟨.func, 1, 8, .nilfn, [.other]⟩,
 ⟨.struct [(0, 2), (1, 2), (2, 2), (3, 4)], 4, 32, (.agg [(.int .i64 0), (.int .i64 0), (.int .i64 0), (.bool false)]), [.int .i64, .int .i64, .int .i64, .bool]⟩,
 ⟨.struct [(0, 2), (1, 2), (2, 2), (3, 4)], 4, 32, (.agg [(.int .i64 0), (.int .i64 0), (.int .i64 0), (.bool false)]), [.int .i64, .int .i64, .int .i64, .bool]⟩,
 ⟨.func, 1, 8, .nilfn, [.other]⟩,
 ⟨.func, 1, 8, .nilfn, [.other]⟩,
 ⟨.func, 1, 8, .nilfn, [.other]⟩,
 ⟨.func, 1, 8, .nilfn, [.other]⟩,
 ⟨.func, 1, 8, .nilfn, [.other]⟩,
 ⟨.func, 1, 8, .nilfn, [.other]⟩,
 ⟨.func, 1, 8, .nilfn, [.other]⟩,
 ⟨.func, 1, 8, .nilfn, [.other]⟩,
 ⟨.func, 1, 8, .nilfn, [.other]⟩,
 ⟨.func, 1, 8, .nilfn, [.other]⟩,
 ⟨.tuple [9, 2], 1, 0, .undef, [.other]⟩,
 ⟨.func, 1, 8, .nilfn, [.other]⟩,
 ⟨.func, 1, 8, .nilfn, [.other]⟩,
 ⟨.func, 1, 8, .nilfn, [.other]⟩,
 ⟨.func, 1, 8, .nilfn, [.other]⟩,
 ⟨.tuple [2, 2, 2, 25], 1, 0, .undef, [.other]⟩,
 ⟨.func, 1, 8, .nilfn, [.other]⟩,
 ⟨.func, 1, 8, .nilfn, [.other]⟩,
 ⟨.tuple [2, 2], 1, 0, .undef, [.other]⟩,
 ⟨.func, 1, 8, .nilfn, [.other]⟩,
 ⟨.tuple [33, 2, 25], 1, 0, .undef, [.other]⟩,
 ⟨.func, 1, 8, .nilfn, [.other]⟩,
 ⟨.func, 1, 8, .nilfn, [.other]⟩,
 ⟨.slice 150, 1, 24, .sl0, [.slice 2]⟩,
 ⟨.struct [(0, 3), (1, 3)], 2, 16, (.agg [(.int .i64 0), (.int .i64 0)]), [.int .i64, .int .i64]⟩,
 ⟨.struct [(0, 3), (1, 3)], 2, 16, (.agg [(.int .i64 0), (.int .i64 0)]), [.int .i64, .int .i64]⟩,
 ⟨.func, 1, 8, .nilfn, [.other]⟩,
 ⟨.func, 1, 8, .nilfn, [.other]⟩,
 ⟨.func, 1, 8, .nilfn, [.other]⟩,
 ⟨.func, 1, 8, .nilfn, [.other]⟩,
 ⟨.func, 1, 8, .nilfn, [.other]⟩,
 ⟨.func, 1, 8, .nilfn, [.other]⟩,
 ⟨.func, 1, 8, .nilfn, [.other]⟩,
 ⟨.str, 1, 16, (.str []), [.str]⟩,
 ⟨.struct [(0, 49), (1, 3)], 2, 32, (.agg [.sl0, (.int .i64 0)]), [.slice 1, .int .i64]⟩,
 ⟨.struct [(0, 49), (1, 3)], 2, 32, (.agg [.sl0, (.int .i64 0)]), [.slice 1, .int .i64]⟩,
 ⟨.arr 13 2, 13, 104, (.agg [(.int .i64 0), (.int .i64 0), (.int .i64 0), (.int .i64 0), (.int .i64 0), (.int .i64 0), (.int .i64 0), (.int .i64 0), (.int .i64 0), (.int .i64 0), (.int .i64 0), (.int .i64 0), (.int .i64 0)]), [.int .i64, .int .i64, .int .i64, .int .i64, .int .i64, .int .i64, .int .i64, .int .i64, .int .i64, .int .i64, .int .i64, .int .i64, .int .i64]⟩,
 ⟨.func, 1, 8, .nilfn, [.other]⟩,
 ⟨.func, 1, 8, .nilfn, [.other]⟩,
 ⟨.func, 1, 8, .nilfn, [.other]⟩,
 ⟨.func, 1, 8, .nilfn, [.other]⟩,
 ⟨.func, 1, 8, .nilfn, [.other]⟩,
 ⟨.slice 171, 1, 24, .sl0, [.slice 2]⟩,
 ⟨.tuple [167, 9, 4], 1, 0, .undef, [.other]⟩,
 ⟨.func, 1, 8, .nilfn, [.other]⟩,
 ⟨.struct [(0, 2), (1, 3)], 2, 16, (.agg [(.int .i64 0), (.int .i64 0)]), [.int .i64, .int .i64]⟩,
 ⟨.struct [(0, 2), (1, 3)], 2, 16, (.agg [(.int .i64 0), (.int .i64 0)]), [.int .i64, .int .i64]⟩,
 ⟨.func, 1, 8, .nilfn, [.other]⟩,
 ⟨.ptr 175, 1, 8, .nilp, [.other]⟩,
 ⟨.struct [(0, 9), (1, 4)], 2, 24, (.agg [(.str []), (.bool false)]), [.str, .bool]⟩,
 ⟨.struct [(0, 9), (1, 4)], 2, 24, (.agg [(.str []), (.bool false)]), [.str, .bool]⟩,
 ⟨.func, 1, 8, .nilfn, [.other]⟩,
 ⟨.func, 1, 8, .nilfn, [.other]⟩,
 ⟨.int .u64, 1, 8, (.int .u64 0), [.int .u64]⟩,
 ⟨.func, 1, 8, .nilfn, [.other]⟩,
 ⟨.int .u64, 1, 8, (.int .u64 0), [.int .u64]⟩,
 ⟨.tuple [180, 180], 1, 0, .undef, [.other]⟩,
 ⟨.func, 1, 8, .nilfn, [.other]⟩,
 ⟨.ptr 185, 1, 8, .nilp, [.other]⟩,
 ⟨.struct [(0, 183), (1, 48)], 2, 32, (.agg [.nilp, .sl0]), [.other, .slice 1]⟩,
 ⟨.struct [(0, 183), (1, 48)], 2, 32, (.agg [.nilp, .sl0]), [.other, .slice 1]⟩,
 ⟨.func, 1, 8, .nilfn, [.other]⟩,
 ⟨.iface true, 1, 16, .nili, [.other]⟩,
 ⟨.iface true, 1, 16, .nili, [.other]⟩,
 ⟨.tuple [3, 188], 1, 0, .undef, [.other]⟩,
 ⟨.func, 1, 8, .nilfn, [.other]⟩,
 ⟨.func, 1, 8, .nilfn, [.other]⟩,
 ⟨.func, 1, 8, .nilfn, [.other]⟩,
 ⟨.func, 1, 8, .nilfn, [.other]⟩,
 ⟨.func, 1, 8, .nilfn, [.other]⟩,
 ⟨.func, 1, 8, .nilfn, [.other]⟩,
 ⟨.func, 1, 8, .nilfn, [.other]⟩,
 ⟨.arr 2 178, 2, 16, (.agg [(.int .u64 0), (.int .u64 0)]), [.int .u64, .int .u64]⟩,
 ⟨.func, 1, 8, .nilfn, [.other]⟩,
 ⟨.func, 1, 8, .nilfn, [.other]⟩,
 ⟨.func, 1, 8, .nilfn, [.other]⟩,
 ⟨.func, 1, 8, .nilfn, [.other]⟩,
 ⟨.slice 50, 1, 24, .sl0, [.slice 1]⟩,
 ⟨.func, 1, 8, .nilfn, [.other]⟩,
 ⟨.func, 1, 8, .nilfn, [.other]⟩,
 ⟨.func, 1, 8, .nilfn, [.other]⟩,
 ⟨.arr 256 4, 256, 256, (.agg [(.bool false), (.bool false), (.bool false), (.bool false), (.bool false), (.bool false), (.bool false), (.bool false), (.bool false), (.bool false), (.bool false), (.bool false), (.bool false), (.bool false), (.bool false), (.bool false), (.bool false), (.bool false), (.bool false), (.bool false), (.bool false), (.bool false), (.bool false), (.bool false), (.bool false), (.bool false), (.bool false), (.bool false), (.bool false), (.bool false), (.bool false), (.bool false), (.bool false), (.bool false), (.bool false), (.bool false), (.bool false), (.bool false), (.bool false), (.bool false), (.bool false), (.bool false), (.bool false), (.bool false), (.bool false), (.bool false), (.bool false), (.bool false), (.bool false), (.bool false), (.bool false), (.bool false), (.bool false), (.bool false), (.bool false), (.bool false), (.bool false), (.bool false), (.bool false), (.bool false), (.bool false), (.bool false), (.bool false), (.bool false), (.bool false), (.bool false), (.bool false), (.bool false), (.bool false), (.bool false), (.bool false), (.bool false), (.bool false), (.bool false), (.bool false), (.bool false), (.bool false), (.bool false), (.bool false), (.bool false), (.bool false), (.bool false), (.bool false), (.bool false), (.bool false), (.bool false), (.bool false), (.bool false), (.bool false), (.bool false), (.bool false), (.bool false), (.bool false), (.bool false), (.bool false), (.bool false), (.bool false), (.bool false), (.bool false), (.bool false), (.bool false), (.bool false), (.bool false), (.bool false), (.bool false), (.bool false), (.bool false), (.bool false), (.bool false), (.bool false), (.bool false), (.bool false), (.bool false), (.bool false), (.bool false), (.bool false), (.bool false), (.bool false), (.bool false), (.bool false), (.bool false), (.bool false), (.bool false), (.bool false), (.bool false), (.bool false), (.bool false), (.bool false), (.bool false), (.bool false), (.bool false), (.bool false), (.bool false), (.bool false), (.bool false), (.bool false), (.bool false), (.bool false), (.bool false), (.bool false), (.bool false), (.bool false), (.bool false), (.bool false), (.bool false), (.bool false), (.bool false), (.bool false), (.bool false), (.bool false), (.bool false), (.bool false), (.bool false), (.bool false), (.bool false), (.bool false), (.bool false), (.bool false), (.bool false), (.bool false), (.bool false), (.bool false), (.bool false), (.bool false), (.bool false), (.bool false), (.bool false), (.bool false), (.bool false), (.bool false), (.bool false), (.bool false), (.bool false), (.bool false), (.bool false), (.bool false), (.bool false), (.bool false), (.bool false), (.bool false), (.bool false), (.bool false), (.bool false), (.bool false), (.bool false), (.bool false), (.bool false), (.bool false), (.bool false), (.bool false), (.bool false), (.bool false), (.bool false), (.bool false), (.bool false), (.bool false), (.bool false), (.bool false), (.bool false), (.bool false), (.bool false), (.bool false), (.bool false), (.bool false), (.bool false), (.bool false), (.bool false), (.bool false), (.bool false), (.bool false), (.bool false), (.bool false), (.bool false), (.bool false), (.bool false), (.bool false), (.bool false), (.bool false), (.bool false), (.bool false), (.bool false), (.bool false), (.bool false), (.bool false), (.bool false), (.bool false), (.bool false), (.bool false), (.bool false), (.bool false), (.bool false), (.bool false), (.bool false), (.bool false), (.bool false), (.bool false), (.bool false), (.bool false), (.bool false), (.bool false), (.bool false), (.bool false), (.bool false), (.bool false), (.bool false), (.bool false), (.bool false), (.bool false), (.bool false), (.bool false), (.bool false), (.bool false), (.bool false), (.bool false), (.bool false), (.bool false)]), [.bool, .bool, .bool, .bool, .bool, .bool, .bool, .bool, .bool, .bool, .bool, .bool, .bool, .bool, .bool, .bool, .bool, .bool, .bool, .bool, .bool, .bool, .bool, .bool, .bool, .bool, .bool, .bool, .bool, .bool, .bool, .bool, .bool, .bool, .bool, .bool, .bool, .bool, .bool, .bool, .bool, .bool, .bool, .bool, .bool, .bool, .bool, .bool, .bool, .bool, .bool, .bool, .bool, .bool, .bool, .bool, .bool, .bool, .bool, .bool, .bool, .bool, .bool, .bool, .bool, .bool, .bool, .bool, .bool, .bool, .bool, .bool, .bool, .bool, .bool, .bool, .bool, .bool, .bool, .bool, .bool, .bool, .bool, .bool, .bool, .bool, .bool, .bool, .bool, .bool, .bool, .bool, .bool, .bool, .bool, .bool, .bool, .bool, .bool, .bool, .bool, .bool, .bool, .bool, .bool, .bool, .bool, .bool, .bool, .bool, .bool, .bool, .bool, .bool, .bool, .bool, .bool, .bool, .bool, .bool, .bool, .bool, .bool, .bool, .bool, .bool, .bool, .bool, .bool, .bool, .bool, .bool, .bool, .bool, .bool, .bool, .bool, .bool, .bool, .bool, .bool, .bool, .bool, .bool, .bool, .bool, .bool, .bool, .bool, .bool, .bool, .bool, .bool, .bool, .bool, .bool, .bool, .bool, .bool, .bool, .bool, .bool, .bool, .bool, .bool, .bool, .bool, .bool, .bool, .bool, .bool, .bool, .bool, .bool, .bool, .bool, .bool, .bool, .bool, .bool, .bool, .bool, .bool, .bool, .bool, .bool, .bool, .bool, .bool, .bool, .bool, .bool, .bool, .bool, .bool, .bool, .bool, .bool, .bool, .bool, .bool, .bool, .bool, .bool, .bool, .bool, .bool, .bool, .bool, .bool, .bool, .bool, .bool, .bool, .bool, .bool, .bool, .bool, .bool, .bool, .bool, .bool, .bool, .bool, .bool, .bool, .bool, .bool, .bool, .bool, .bool, .bool, .bool, .bool, .bool, .bool, .bool, .bool, .bool, .bool, .bool, .bool, .bool, .bool, .bool, .bool, .bool, .bool, .bool, .bool, .bool, .bool, .bool, .bool, .bool, .bool]⟩,
 ⟨.arr 256 4, 256, 256, (.agg [(.bool false), (.bool false), (.bool false), (.bool false), (.bool false), (.bool false), (.bool false), (.bool false), (.bool false), (.bool false), (.bool false), (.bool false), (.bool false), (.bool false), (.bool false), (.bool false), (.bool false), (.bool false), (.bool false), (.bool false), (.bool false), (.bool false), (.bool false), (.bool false), (.bool false), (.bool false), (.bool false), (.bool false), (.bool false), (.bool false), (.bool false), (.bool false), (.bool false), (.bool false), (.bool false), (.bool false), (.bool false), (.bool false), (.bool false), (.bool false), (.bool false), (.bool false), (.bool false), (.bool false), (.bool false), (.bool false), (.bool false), (.bool false), (.bool false), (.bool false), (.bool false), (.bool false), (.bool false), (.bool false), (.bool false), (.bool false), (.bool false), (.bool false), (.bool false), (.bool false), (.bool false), (.bool false), (.bool false), (.bool false), (.bool false), (.bool false), (.bool false), (.bool false), (.bool false), (.bool false), (.bool false), (.bool false), (.bool false), (.bool false), (.bool false), (.bool false), (.bool false), (.bool false), (.bool false), (.bool false), (.bool false), (.bool false), (.bool false), (.bool false), (.bool false), (.bool false), (.bool false), (.bool false), (.bool false), (.bool false), (.bool false), (.bool false), (.bool false), (.bool false), (.bool false), (.bool false), (.bool false), (.bool false), (.bool false), (.bool false), (.bool false), (.bool false), (.bool false), (.bool false), (.bool false), (.bool false), (.bool false), (.bool false), (.bool false), (.bool false), (.bool false), (.bool false), (.bool false), (.bool false), (.bool false), (.bool false), (.bool false), (.bool false), (.bool false), (.bool false), (.bool false), (.bool false), (.bool false), (.bool false), (.bool false), (.bool false), (.bool false), (.bool false), (.bool false), (.bool false), (.bool false), (.bool false), (.bool false), (.bool false), (.bool false), (.bool false), (.bool false), (.bool false), (.bool false), (.bool false), (.bool false), (.bool false), (.bool false), (.bool false), (.bool false), (.bool false), (.bool false), (.bool false), (.bool false), (.bool false), (.bool false), (.bool false), (.bool false), (.bool false), (.bool false), (.bool false), (.bool false), (.bool false), (.bool false), (.bool false), (.bool false), (.bool false), (.bool false), (.bool false), (.bool false), (.bool false), (.bool false), (.bool false), (.bool false), (.bool false), (.bool false), (.bool false), (.bool false), (.bool false), (.bool false), (.bool false), (.bool false), (.bool false), (.bool false), (.bool false), (.bool false), (.bool false), (.bool false), (.bool false), (.bool false), (.bool false), (.bool false), (.bool false), (.bool false), (.bool false), (.bool false), (.bool false), (.bool false), (.bool false), (.bool false), (.bool false), (.bool false), (.bool false), (.bool false), (.bool false), (.bool false), (.bool false), (.bool false), (.bool false), (.bool false), (.bool false), (.bool false), (.bool false), (.bool false), (.bool false), (.bool false), (.bool false), (.bool false), (.bool false), (.bool false), (.bool false), (.bool false), (.bool false), (.bool false), (.bool false), (.bool false), (.bool false), (.bool false), (.bool false), (.bool false), (.bool false), (.bool false), (.bool false), (.bool false), (.bool false), (.bool false), (.bool false), (.bool false), (.bool false), (.bool false), (.bool false), (.bool false), (.bool false), (.bool false), (.bool false), (.bool false), (.bool false), (.bool false), (.bool false), (.bool false), (.bool false), (.bool false), (.bool false), (.bool false), (.bool false), (.bool false), (.bool false), (.bool false), (.bool false), (.bool false), (.bool false)]), [.bool, .bool, .bool, .bool, .bool, .bool, .bool, .bool, .bool, .bool, .bool, .bool, .bool, .bool, .bool, .bool, .bool, .bool, .bool, .bool, .bool, .bool, .bool, .bool, .bool, .bool, .bool, .bool, .bool, .bool, .bool, .bool, .bool, .bool, .bool, .bool, .bool, .bool, .bool, .bool, .bool, .bool, .bool, .bool, .bool, .bool, .bool, .bool, .bool, .bool, .bool, .bool, .bool, .bool, .bool, .bool, .bool, .bool, .bool, .bool, .bool, .bool, .bool, .bool, .bool, .bool, .bool, .bool, .bool, .bool, .bool, .bool, .bool, .bool, .bool, .bool, .bool, .bool, .bool, .bool, .bool, .bool, .bool, .bool, .bool, .bool, .bool, .bool, .bool, .bool, .bool, .bool, .bool, .bool, .bool, .bool, .bool, .bool, .bool, .bool, .bool, .bool, .bool, .bool, .bool, .bool, .bool, .bool, .bool, .bool, .bool, .bool, .bool, .bool, .bool, .bool, .bool, .bool, .bool, .bool, .bool, .bool, .bool, .bool, .bool, .bool, .bool, .bool, .bool, .bool, .bool, .bool, .bool, .bool, .bool, .bool, .bool, .bool, .bool, .bool, .bool, .bool, .bool, .bool, .bool, .bool, .bool, .bool, .bool, .bool, .bool, .bool, .bool, .bool, .bool, .bool, .bool, .bool, .bool, .bool, .bool, .bool, .bool, .bool, .bool, .bool, .bool, .bool, .bool, .bool, .bool, .bool, .bool, .bool, .bool, .bool, .bool, .bool, .bool, .bool, .bool, .bool, .bool, .bool, .bool, .bool, .bool, .bool, .bool, .bool, .bool, .bool, .bool, .bool, .bool, .bool, .bool, .bool, .bool, .bool, .bool, .bool, .bool, .bool, .bool, .bool, .bool, .bool, .bool, .bool, .bool, .bool, .bool, .bool, .bool, .bool, .bool, .bool, .bool, .bool, .bool, .bool, .bool, .bool, .bool, .bool, .bool, .bool, .bool, .bool, .bool, .bool, .bool, .bool, .bool, .bool, .bool, .bool, .bool, .bool, .bool, .bool, .bool, .bool, .bool, .bool, .bool, .bool, .bool, .bool, .bool, .bool, .bool, .bool, .bool, .bool]⟩,
 ⟨.tuple [207, 4], 1, 0, .undef, [.other]⟩,
 ⟨.func, 1, 8, .nilfn, [.other]⟩,
 ⟨.func, 1, 8, .nilfn, [.other]⟩,
 ⟨.func, 1, 8, .nilfn, [.other]⟩,
 ⟨.ptr 207, 1, 8, .nilp, [.other]⟩,
 ⟨.ptr 171, 1, 8, .nilp, [.other]⟩,
 ⟨.tuple [2, 2, 2, 2], 1, 0, .undef, [.other]⟩,
 ⟨.func, 1, 8, .nilfn, [.other]⟩,
 ⟨.tuple [2, 2, 2], 1, 0, .undef, [.other]⟩,
 ⟨.func, 1, 8, .nilfn, [.other]⟩,
 ⟨.int .u32, 1, 4, (.int .u32 0), [.int .u32]⟩,
 ⟨.tuple [218, 218], 1, 0, .undef, [.other]⟩,
 ⟨.func, 1, 8, .nilfn, [.other]⟩,
 ⟨.tuple [178, 178], 1, 0, .undef, [.other]⟩,
 ⟨.func, 1, 8, .nilfn, [.other]⟩,
 ⟨.ptr 5, 1, 8, .nilp, [.other]⟩,
 ⟨.arr 20 5, 20, 20, (.agg [(.int .u8 0), (.int .u8 0), (.int .u8 0), (.int .u8 0), (.int .u8 0), (.int .u8 0), (.int .u8 0), (.int .u8 0), (.int .u8 0), (.int .u8 0), (.int .u8 0), (.int .u8 0), (.int .u8 0), (.int .u8 0), (.int .u8 0), (.int .u8 0), (.int .u8 0), (.int .u8 0), (.int .u8 0), (.int .u8 0)]), [.int .u8, .int .u8, .int .u8, .int .u8, .int .u8, .int .u8, .int .u8, .int .u8, .int .u8, .int .u8, .int .u8, .int .u8, .int .u8, .int .u8, .int .u8, .int .u8, .int .u8, .int .u8, .int .u8, .int .u8]⟩,
 ⟨.func, 1, 8, .nilfn, [.other]⟩,
 ⟨.func, 1, 8, .nilfn, [.other]⟩,
 ⟨.func, 1, 8, .nilfn, [.other]⟩,
 ⟨.func, 1, 8, .nilfn, [.other]⟩,
 ⟨.func, 1, 8, .nilfn, [.other]⟩,
 ⟨.func, 1, 8, .nilfn, [.other]⟩,
 ⟨.tuple [21, 3], 1, 0, .undef, [.other]⟩,
 ⟨.func, 1, 8, .nilfn, [.other]⟩,
 ⟨.func, 1, 8, .nilfn, [.other]⟩,
 ⟨.uptr, 1, 8, .nilp, [.other]⟩,
 ⟨.func, 1, 8, .nilfn, [.other]⟩,
 ⟨.func, 1, 8, .nilfn, [.other]⟩,
 ⟨.func, 1, 8, .nilfn, [.other]⟩,
 ⟨.func, 1, 8, .nilfn, [.other]⟩,
 ⟨.func, 1, 8, .nilfn, [.other]⟩,
 ⟨.func, 1, 8, .nilfn, [.other]⟩,
 ⟨.arr 256 5, 256, 256, (.agg [(.int .u8 0), (.int .u8 0), (.int .u8 0), (.int .u8 0), (.int .u8 0), (.int .u8 0), (.int .u8 0), (.int .u8 0), (.int .u8 0), (.int .u8 0), (.int .u8 0), (.int .u8 0), (.int .u8 0), (.int .u8 0), (.int .u8 0), (.int .u8 0), (.int .u8 0), (.int .u8 0), (.int .u8 0), (.int .u8 0), (.int .u8 0), (.int .u8 0), (.int .u8 0), (.int .u8 0), (.int .u8 0), (.int .u8 0), (.int .u8 0), (.int .u8 0), (.int .u8 0), (.int .u8 0), (.int .u8 0), (.int .u8 0), (.int .u8 0), (.int .u8 0), (.int .u8 0), (.int .u8 0), (.int .u8 0), (.int .u8 0), (.int .u8 0), (.int .u8 0), (.int .u8 0), (.int .u8 0), (.int .u8 0), (.int .u8 0), (.int .u8 0), (.int .u8 0), (.int .u8 0), (.int .u8 0), (.int .u8 0), (.int .u8 0), (.int .u8 0), (.int .u8 0), (.int .u8 0), (.int .u8 0), (.int .u8 0), (.int .u8 0), (.int .u8 0), (.int .u8 0), (.int .u8 0), (.int .u8 0), (.int .u8 0), (.int .u8 0), (.int .u8 0), (.int .u8 0), (.int .u8 0), (.int .u8 0), (.int .u8 0), (.int .u8 0), (.int .u8 0), (.int .u8 0), (.int .u8 0), (.int .u8 0), (.int .u8 0), (.int .u8 0), (.int .u8 0), (.int .u8 0), (.int .u8 0), (.int .u8 0), (.int .u8 0), (.int .u8 0), (.int .u8 0), (.int .u8 0), (.int .u8 0), (.int .u8 0), (.int .u8 0), (.int .u8 0), (.int .u8 0), (.int .u8 0), (.int .u8 0), (.int .u8 0), (.int .u8 0), (.int .u8 0), (.int .u8 0), (.int .u8 0), (.int .u8 0), (.int .u8 0), (.int .u8 0), (.int .u8 0), (.int .u8 0), (.int .u8 0), (.int .u8 0), (.int .u8 0), (.int .u8 0), (.int .u8 0), (.int .u8 0), (.int .u8 0), (.int .u8 0), (.int .u8 0), (.int .u8 0), (.int .u8 0), (.int .u8 0), (.int .u8 0), (.int .u8 0), (.int .u8 0), (.int .u8 0), (.int .u8 0), (.int .u8 0), (.int .u8 0), (.int .u8 0), (.int .u8 0), (.int .u8 0), (.int .u8 0), (.int .u8 0), (.int .u8 0), (.int .u8 0), (.int .u8 0), (.int .u8 0), (.int .u8 0), (.int .u8 0), (.int .u8 0), (.int .u8 0), (.int .u8 0), (.int .u8 0), (.int .u8 0), (.int .u8 0), (.int .u8 0), (.int .u8 0), (.int .u8 0), (.int .u8 0), (.int .u8 0), (.int .u8 0), (.int .u8 0), (.int .u8 0), (.int .u8 0), (.int .u8 0), (.int .u8 0), (.int .u8 0), (.int .u8 0), (.int .u8 0), (.int .u8 0), (.int .u8 0), (.int .u8 0), (.int .u8 0), (.int .u8 0), (.int .u8 0), (.int .u8 0), (.int .u8 0), (.int .u8 0), (.int .u8 0), (.int .u8 0), (.int .u8 0), (.int .u8 0), (.int .u8 0), (.int .u8 0), (.int .u8 0), (.int .u8 0), (.int .u8 0), (.int .u8 0), (.int .u8 0), (.int .u8 0), (.int .u8 0), (.int .u8 0), (.int .u8 0), (.int .u8 0), (.int .u8 0), (.int .u8 0), (.int .u8 0), (.int .u8 0), (.int .u8 0), (.int .u8 0), (.int .u8 0), (.int .u8 0), (.int .u8 0), (.int .u8 0), (.int .u8 0), (.int .u8 0), (.int .u8 0), (.int .u8 0), (.int .u8 0), (.int .u8 0), (.int .u8 0), (.int .u8 0), (.int .u8 0), (.int .u8 0), (.int .u8 0), (.int .u8 0), (.int .u8 0), (.int .u8 0), (.int .u8 0), (.int .u8 0), (.int .u8 0), (.int .u8 0), (.int .u8 0), (.int .u8 0), (.int .u8 0), (.int .u8 0), (.int .u8 0), (.int .u8 0), (.int .u8 0), (.int .u8 0), (.int .u8 0), (.int .u8 0), (.int .u8 0), (.int .u8 0), (.int .u8 0), (.int .u8 0), (.int .u8 0), (.int .u8 0), (.int .u8 0), (.int .u8 0), (.int .u8 0), (.int .u8 0), (.int .u8 0), (.int .u8 0), (.int .u8 0), (.int .u8 0), (.int .u8 0), (.int .u8 0), (.int .u8 0), (.int .u8 0), (.int .u8 0), (.int .u8 0), (.int .u8 0), (.int .u8 0), (.int .u8 0), (.int .u8 0), (.int .u8 0), (.int .u8 0), (.int .u8 0), (.int .u8 0), (.int .u8 0), (.int .u8 0), (.int .u8 0), (.int .u8 0), (.int .u8 0), (.int .u8 0), (.int .u8 0), (.int .u8 0), (.int .u8 0), (.int .u8 0), (.int .u8 0), (.int .u8 0), (.int .u8 0), (.int .u8 0), (.int .u8 0), (.int .u8 0)]), [.int .u8, .int .u8, .int .u8, .int .u8, .int .u8, .int .u8, .int .u8, .int .u8, .int .u8, .int .u8, .int .u8, .int .u8, .int .u8, .int .u8, .int .u8, .int .u8, .int .u8, .int .u8, .int .u8, .int .u8, .int .u8, .int .u8, .int .u8, .int .u8, .int .u8, .int .u8, .int .u8, .int .u8, .int .u8, .int .u8, .int .u8, .int .u8, .int .u8, .int .u8, .int .u8, .int .u8, .int .u8, .int .u8, .int .u8, .int .u8, .int .u8, .int .u8, .int .u8, .int .u8, .int .u8, .int .u8, .int .u8, .int .u8, .int .u8, .int .u8, .int .u8, .int .u8, .int .u8, .int .u8, .int .u8, .int .u8, .int .u8, .int .u8, .int .u8, .int .u8, .int .u8, .int .u8, .int .u8, .int .u8, .int .u8, .int .u8, .int .u8, .int .u8, .int .u8, .int .u8, .int .u8, .int .u8, .int .u8, .int .u8, .int .u8, .int .u8, .int .u8, .int .u8, .int .u8, .int .u8, .int .u8, .int .u8, .int .u8, .int .u8, .int .u8, .int .u8, .int .u8, .int .u8, .int .u8, .int .u8, .int .u8, .int .u8, .int .u8, .int .u8, .int .u8, .int .u8, .int .u8, .int .u8, .int .u8, .int .u8, .int .u8, .int .u8, .int .u8, .int .u8, .int .u8, .int .u8, .int .u8, .int .u8, .int .u8, .int .u8, .int .u8, .int .u8, .int .u8, .int .u8, .int .u8, .int .u8, .int .u8, .int .u8, .int .u8, .int .u8, .int .u8, .int .u8, .int .u8, .int .u8, .int .u8, .int .u8, .int .u8, .int .u8, .int .u8, .int .u8, .int .u8, .int .u8, .int .u8, .int .u8, .int .u8, .int .u8, .int .u8, .int .u8, .int .u8, .int .u8, .int .u8, .int .u8, .int .u8, .int .u8, .int .u8, .int .u8, .int .u8, .int .u8, .int .u8, .int .u8, .int .u8, .int .u8, .int .u8, .int .u8, .int .u8, .int .u8, .int .u8, .int .u8, .int .u8, .int .u8, .int .u8, .int .u8, .int .u8, .int .u8, .int .u8, .int .u8, .int .u8, .int .u8, .int .u8, .int .u8, .int .u8, .int .u8, .int .u8, .int .u8, .int .u8, .int .u8, .int .u8, .int .u8, .int .u8, .int .u8, .int .u8, .int .u8, .int .u8, .int .u8, .int .u8, .int .u8, .int .u8, .int .u8, .int .u8, .int .u8, .int .u8, .int .u8, .int .u8, .int .u8, .int .u8, .int .u8, .int .u8, .int .u8, .int .u8, .int .u8, .int .u8, .int .u8, .int .u8, .int .u8, .int .u8, .int .u8, .int .u8, .int .u8, .int .u8, .int .u8, .int .u8, .int .u8, .int .u8, .int .u8, .int .u8, .int .u8, .int .u8, .int .u8, .int .u8, .int .u8, .int .u8, .int .u8, .int .u8, .int .u8, .int .u8, .int .u8, .int .u8, .int .u8, .int .u8, .int .u8, .int .u8, .int .u8, .int .u8, .int .u8, .int .u8, .int .u8, .int .u8, .int .u8, .int .u8, .int .u8, .int .u8, .int .u8, .int .u8, .int .u8, .int .u8, .int .u8, .int .u8, .int .u8, .int .u8, .int .u8, .int .u8, .int .u8, .int .u8, .int .u8, .int .u8, .int .u8]⟩,
 ⟨.struct [(0, 5), (1, 5)], 2, 2, (.agg [(.int .u8 0), (.int .u8 0)]), [.int .u8, .int .u8]⟩,
 ⟨.struct [(0, 5), (1, 5)], 2, 2, (.agg [(.int .u8 0), (.int .u8 0)]), [.int .u8, .int .u8]⟩,
 ⟨.arr 16 243, 32, 32, (.agg [(.int .u8 0), (.int .u8 0), (.int .u8 0), (.int .u8 0), (.int .u8 0), (.int .u8 0), (.int .u8 0), (.int .u8 0), (.int .u8 0), (.int .u8 0), (.int .u8 0), (.int .u8 0), (.int .u8 0), (.int .u8 0), (.int .u8 0), (.int .u8 0), (.int .u8 0), (.int .u8 0), (.int .u8 0), (.int .u8 0), (.int .u8 0), (.int .u8 0), (.int .u8 0), (.int .u8 0), (.int .u8 0), (.int .u8 0), (.int .u8 0), (.int .u8 0), (.int .u8 0), (.int .u8 0), (.int .u8 0), (.int .u8 0)]), [.int .u8, .int .u8, .int .u8, .int .u8, .int .u8, .int .u8, .int .u8, .int .u8, .int .u8, .int .u8, .int .u8, .int .u8, .int .u8, .int .u8, .int .u8, .int .u8, .int .u8, .int .u8, .int .u8, .int .u8, .int .u8, .int .u8, .int .u8, .int .u8, .int .u8, .int .u8, .int .u8, .int .u8, .int .u8, .int .u8, .int .u8, .int .u8]⟩,
 ⟨.ptr 263, 1, 8, .nilp, [.other]⟩,
 ⟨.struct [(0, 17), (1, 17), (2, 17), (3, 9)], 4, 40, (.agg [.nilp, .nilp, .nilp, (.str [])]), [.other, .other, .other, .str]⟩,
 ⟨.struct [(0, 17), (1, 17), (2, 17), (3, 9)], 4, 40, (.agg [.nilp, .nilp, .nilp, (.str [])]), [.other, .other, .other, .str]⟩,
 ⟨.arr 0 16, 0, 0, (.agg []), []⟩,
 ⟨.struct [(0, 248)], 0, 0, (.agg []), []⟩,
 ⟨.struct [(0, 248)], 0, 0, (.agg []), []⟩,
 ⟨.int .u8, 1, 1, (.int .u8 0), [.int .u8]⟩,
 ⟨.int .u8, 1, 1, (.int .u8 0), [.int .u8]⟩,
 ⟨.func, 1, 8, .nilfn, [.other]⟩,
 ⟨.int .i32, 1, 4, (.int .i32 0), [.int .i32]⟩,
 ⟨.int .i32, 1, 4, (.int .i32 0), [.int .i32]⟩,
 ⟨.struct [(0, 12), (1, 12), (2, 218), (3, 251), (4, 5), (5, 5), (6, 252), (7, 253), (8, 223), (9, 254), (10, 255)], 11, 48, (.agg [(.int .u64 0), (.int .u64 0), (.int .u32 0), (.int .u8 0), (.int .u8 0), (.int .u8 0), (.int .u8 0), .nilfn, .nilp, (.int .i32 0), (.int .i32 0)]), [.int .u64, .int .u64, .int .u32, .int .u8, .int .u8, .int .u8, .int .u8, .other, .other, .int .i32, .int .i32]⟩,
 ⟨.struct [(0, 12), (1, 12), (2, 218), (3, 251), (4, 5), (5, 5), (6, 252), (7, 253), (8, 223), (9, 254), (10, 255)], 11, 48, (.agg [(.int .u64 0), (.int .u64 0), (.int .u32 0), (.int .u8 0), (.int .u8 0), (.int .u8 0), (.int .u8 0), .nilfn, .nilp, (.int .i32 0), (.int .i32 0)]), [.int .u64, .int .u64, .int .u32, .int .u8, .int .u8, .int .u8, .int .u8, .other, .other, .int .i32, .int .i32]⟩,
 ⟨.func, 1, 8, .nilfn, [.other]⟩,
 ⟨.func, 1, 8, .nilfn, [.other]⟩,
 ⟨.func, 1, 8, .nilfn, [.other]⟩,
 ⟨.func, 1, 8, .nilfn, [.other]⟩,
 ⟨.struct [(0, 9)], 1, 16, (.agg [(.str [])]), [.str]⟩,
 ⟨.struct [(0, 9)], 1, 16, (.agg [(.str [])]), [.str]⟩]
abbrev ty_LJ : Nat := 0
abbrev ty_funcLJ : Nat := 1
abbrev zik : Nat := 2
abbrev zs1 : Nat := 3
abbrev ty_bool : Nat := 4
abbrev zlf : Nat := 5
abbrev z1bn : Nat := 6
abbrev zpt : Nat := 7
abbrev z1bg : Nat := 8
abbrev z4e : Nat := 9
abbrev z1bf : Nat := 10
abbrev z1c0 : Nat := 11
abbrev ty_uintptr : Nat := 12
abbrev zud : Nat := 13
abbrev z10h : Nat := 14
abbrev zxo : Nat := 15
abbrev z15u : Nat := 16
abbrev ty_P_abi_Type : Nat := 17
abbrev z15z : Nat := 18
abbrev z12r : Nat := 19
abbrev ty_interface_ : Nat := 20
abbrev ty_int32 : Nat := 21
abbrev z1c3 : Nat := 22
abbrev zpx : Nat := 23
abbrev zev : Nat := 24
abbrev ty_api_Errno : Nat := 25
abbrev z191 : Nat := 26
abbrev zs3 : Nat := 27
abbrev ty_funcLJ_bool : Nat := 28
abbrev zxm : Nat := 29
abbrev zrn : Nat := 30
abbrev z1o : Nat := 31
abbrev z15j : Nat := 32
abbrev z1w : Nat := 33
abbrev z192 : Nat := 34
abbrev zq9 : Nat := 35
abbrev z15i : Nat := 36
abbrev ze : Nat := 37
abbrev z16z : Nat := 38
abbrev zqa : Nat := 39
abbrev zyy : Nat := 40
abbrev z1bi : Nat := 41
abbrev z1c7 : Nat := 42
abbrev zqu : Nat := 43
abbrev zx8 : Nat := 44
abbrev zqx : Nat := 45
abbrev zqs : Nat := 46
abbrev zqz : Nat := 47
abbrev ty_S_uint8 : Nat := 48
abbrev ty_S_string : Nat := 49
abbrev z2 : Nat := 50
abbrev zuo : Nat := 51
abbrev z1hm : Nat := 52
abbrev zqi : Nat := 53
abbrev zqg : Nat := 54
abbrev ty_P_read_sum : Nat := 55
abbrev ty_funcLstringJ : Nat := 56
abbrev zro : Nat := 57
abbrev zxl : Nat := 58
abbrev z15q : Nat := 59
abbrev zqm : Nat := 60
abbrev zt4 : Nat := 61
abbrev zus : Nat := 62
abbrev z1bp : Nat := 63
abbrev zuc : Nat := 64
abbrev za : Nat := 65
abbrev z1fb : Nat := 66
abbrev zr5 : Nat := 67
abbrev z16x : Nat := 68
abbrev z1c4 : Nat := 69
abbrev z1hn : Nat := 70
abbrev zur : Nat := 71
abbrev zs5 : Nat := 72
abbrev zr3 : Nat := 73
abbrev z1fc : Nat := 74
abbrev zx5 : Nat := 75
abbrev zxp : Nat := 76
abbrev zq6 : Nat := 77
abbrev zr2 : Nat := 78
abbrev z1bk : Nat := 79
abbrev z18u : Nat := 80
abbrev z1f8 : Nat := 81
abbrev z16y : Nat := 82
abbrev z1bl : Nat := 83
abbrev z1hl : Nat := 84
abbrev zqy : Nat := 85
abbrev z18w : Nat := 86
abbrev z18v : Nat := 87
abbrev zqr : Nat := 88
abbrev zq8 : Nat := 89
abbrev z1fa : Nat := 90
abbrev ty_struct_ : Nat := 91
abbrev ty_read_bad : Nat := 92
abbrev zxe : Nat := 93
abbrev ty_read_sum : Nat := 94
abbrev zql : Nat := 95
abbrev z190 : Nat := 96
abbrev zq5 : Nat := 97
abbrev zxg : Nat := 98
abbrev ty_funcLboolJ : Nat := 99
abbrev z11i : Nat := 100
abbrev z11n : Nat := 101
abbrev ty_P_int64 : Nat := 102
abbrev z15p : Nat := 103
abbrev z1eo : Nat := 104
abbrev z12s : Nat := 105
abbrev ty_A8_bool : Nat := 106
abbrev z1ly : Nat := 107
abbrev z18x : Nat := 108
abbrev z1k7 : Nat := 109
abbrev zyz : Nat := 110
abbrev zqv : Nat := 111
abbrev z1es : Nat := 112
abbrev zqk : Nat := 113
abbrev z1f9 : Nat := 114
abbrev zpy : Nat := 115
abbrev ty_read_form : Nat := 116
abbrev z1bm : Nat := 117
abbrev zun : Nat := 118
abbrev z10k : Nat := 119
abbrev z15t : Nat := 120
abbrev z15r : Nat := 121
abbrev zqo : Nat := 122
abbrev zps : Nat := 123
abbrev zg : Nat := 124
abbrev zq7 : Nat := 125
abbrev z1c1 : Nat := 126
abbrev zr4 : Nat := 127
abbrev znn : Nat := 128
abbrev zqh : Nat := 129
abbrev zxk : Nat := 130
abbrev zup : Nat := 131
abbrev zqw : Nat := 132
abbrev z15s : Nat := 133
abbrev zx7 : Nat := 134
abbrev z1k6 : Nat := 135
abbrev z10l : Nat := 136
abbrev z10j : Nat := 137
abbrev z11l : Nat := 138
abbrev zs4 : Nat := 139
abbrev zx9 : Nat := 140
abbrev zr0 : Nat := 141
abbrev z15m : Nat := 142
abbrev z1lz : Nat := 143
abbrev z11m : Nat := 144
abbrev z10m : Nat := 145
abbrev zqt : Nat := 146
abbrev zuq : Nat := 147
abbrev z1k5 : Nat := 148
abbrev z11d : Nat := 149
abbrev z1h : Nat := 150
abbrev z15n : Nat := 151
abbrev zqn : Nat := 152
abbrev zs2 : Nat := 153
abbrev zxh : Nat := 154
abbrev zxi : Nat := 155
abbrev zx6 : Nat := 156
abbrev zqp : Nat := 157
abbrev zum : Nat := 158
abbrev zxf : Nat := 159
abbrev zlg : Nat := 160
abbrev z1c9 : Nat := 161
abbrev zyx : Nat := 162
abbrev z11k : Nat := 163
abbrev z1f4 : Nat := 164
abbrev zr1 : Nat := 165
abbrev z15l : Nat := 166
abbrev z1lw : Nat := 167
abbrev zz2 : Nat := 168
abbrev zqc : Nat := 169
abbrev z12q : Nat := 170
abbrev z8 : Nat := 171
abbrev zqj : Nat := 172
abbrev z18z : Nat := 173
abbrev z11e : Nat := 174
abbrev z7 : Nat := 175
abbrev z1bj : Nat := 176
abbrev z1bh : Nat := 177
abbrev ty_uint64 : Nat := 178
abbrev zxn : Nat := 179
abbrev ty_uint : Nat := 180
abbrev ty_Luint_uintJ : Nat := 181
abbrev zyw : Nat := 182
abbrev z1er : Nat := 183
abbrev zpu : Nat := 184
abbrev z9h : Nat := 185
abbrev ty_funcLintJ : Nat := 186
abbrev z11g : Nat := 187
abbrev ty_error : Nat := 188
abbrev ty_Lint_errorJ : Nat := 189
abbrev z12t : Nat := 190
abbrev ty_funcLJ_int : Nat := 191
abbrev z1lv : Nat := 192
abbrev z15k : Nat := 193
abbrev z162 : Nat := 194
abbrev z1hi : Nat := 195
abbrev zqq : Nat := 196
abbrev z1c8 : Nat := 197
abbrev zz1 : Nat := 198
abbrev znl : Nat := 199
abbrev z1eq : Nat := 200
abbrev zue : Nat := 201
abbrev z1bo : Nat := 202
abbrev zqf : Nat := 203
abbrev z161 : Nat := 204
abbrev z1k4 : Nat := 205
abbrev ty_A256_bool : Nat := 206
abbrev z1f3 : Nat := 207
abbrev z15v : Nat := 208
abbrev znm : Nat := 209
abbrev z11h : Nat := 210
abbrev zqb : Nat := 211
abbrev z1c6 : Nat := 212
abbrev z1lx : Nat := 213
abbrev z11o : Nat := 214
abbrev zq3 : Nat := 215
abbrev z1bq : Nat := 216
abbrev zuf : Nat := 217
abbrev ty_uint32 : Nat := 218
abbrev z1hk : Nat := 219
abbrev zq4 : Nat := 220
abbrev z1hj : Nat := 221
abbrev zq2 : Nat := 222
abbrev ty_P_uint8 : Nat := 223
abbrev zz3 : Nat := 224
abbrev z160 : Nat := 225
abbrev z1lu : Nat := 226
abbrev z1c2 : Nat := 227
abbrev z11j : Nat := 228
abbrev ty_funcLJ_int64 : Nat := 229
abbrev zno : Nat := 230
abbrev ty_Lint32_intJ : Nat := 231
abbrev z12u : Nat := 232
abbrev z15o : Nat := 233
abbrev z1k3 : Nat := 234
abbrev zq0 : Nat := 235
abbrev z1ep : Nat := 236
abbrev zq1 : Nat := 237
abbrev zxj : Nat := 238
abbrev z1f6 : Nat := 239
abbrev z1f5 : Nat := 240
abbrev ty_A256_uint8 : Nat := 241
abbrev z11f : Nat := 242
abbrev z1f1 : Nat := 243
abbrev z193 : Nat := 244
abbrev z18y : Nat := 245
abbrev zpv : Nat := 246
abbrev z10i : Nat := 247
abbrev z10n : Nat := 248
abbrev znk : Nat := 249
abbrev z16w : Nat := 250
abbrev ty_abi_TFlag : Nat := 251
abbrev ty_abi_Kind : Nat := 252
abbrev zpz : Nat := 253
abbrev ty_abi_NameOff : Nat := 254
abbrev ty_abi_TypeOff : Nat := 255
abbrev zpw : Nat := 256
abbrev ty_abi_Type : Nat := 257
abbrev zqe : Nat := 258
abbrev zqd : Nat := 259
abbrev zz0 : Nat := 260
abbrev z1f7 : Nat := 261
abbrev z1f2 : Nat := 262
abbrev z1c5 : Nat := 263
abbrev fn_main_main : Nat := 0
abbrev z184 : Nat := 3
abbrev z15x : Nat := 4
abbrev z14n : Nat := 5
abbrev z111 : Nat := 6
abbrev z3e : Nat := 7
abbrev z1av : Nat := 8
abbrev fn_read_Span : Nat := 9
abbrev z1bs : Nat := 10
abbrev z27 : Nat := 11
abbrev z54 : Nat := 12
abbrev zw1 : Nat := 13
abbrev z4h : Nat := 14
abbrev z1aw : Nat := 15
abbrev z4j : Nat := 16
abbrev zj6 : Nat := 17
abbrev zek : Nat := 18
abbrev zfx : Nat := 19
abbrev zdl : Nat := 20
abbrev zvx : Nat := 21
abbrev zox : Nat := 22
abbrev zh5 : Nat := 23
abbrev fn_read_try : Nat := 24
abbrev fn_read_Span_1 : Nat := 25
abbrev fn_read_sum_iso : Nat := 26
abbrev fn_read_signs : Nat := 27
abbrev fn_read_sum_sql : Nat := 28
abbrev z1lf : Nat := 29
abbrev zg1 : Nat := 30
abbrev z14j : Nat := 31
abbrev fn_read_era : Nat := 32
abbrev z1g : Nat := 33
abbrev z14m : Nat := 34
abbrev z4f : Nat := 35
abbrev zck : Nat := 36
abbrev z81 : Nat := 37
abbrev z1k : Nat := 38
abbrev zvy : Nat := 39
abbrev zn : Nat := 40
abbrev z2b : Nat := 41
abbrev zvv : Nat := 42
abbrev zvw : Nat := 43
abbrev zmq : Nat := 44
abbrev z14g : Nat := 45
abbrev z14h : Nat := 46
abbrev z4b : Nat := 47
abbrev z102 : Nat := 48
abbrev zj5 : Nat := 49
abbrev zj4 : Nat := 50
abbrev zkr : Nat := 51
abbrev zsp : Nat := 52
abbrev z1u : Nat := 53
abbrev za6 : Nat := 54
abbrev fn_read_try_1 : Nat := 55
abbrev fn_span_Make : Nat := 56
abbrev zsl : Nat := 57
abbrev z1m2 : Nat := 58
abbrev fn_read_need : Nat := 59
abbrev zsu : Nat := 60
abbrev z1m1 : Nat := 61
abbrev z1jf : Nat := 62
abbrev z1m0 : Nat := 63
abbrev zzu : Nat := 64
abbrev z17x : Nat := 65
abbrev fn_read_unit : Nat := 66
abbrev fn_span_Neg : Nat := 67
abbrev zg5 : Nat := 68
abbrev zdn : Nat := 69
abbrev zvz : Nat := 70
abbrev zst : Nat := 71
abbrev zg6 : Nat := 72
abbrev zw4 : Nat := 73
abbrev zwa : Nat := 74
abbrev zg2 : Nat := 75
abbrev z1n : Nat := 76
abbrev zeh : Nat := 77
abbrev z2k : Nat := 78
abbrev z5n : Nat := 79
abbrev z101 : Nat := 80
abbrev zbc : Nat := 81
abbrev z1au : Nat := 82
abbrev z1e : Nat := 83
abbrev zcj : Nat := 84
abbrev z5m : Nat := 85
abbrev zn2 : Nat := 86
abbrev z5 : Nat := 87
abbrev z3b : Nat := 88
abbrev z17z : Nat := 89
abbrev zsm : Nat := 90
abbrev zsn : Nat := 91
abbrev zw7 : Nat := 92
abbrev zdk : Nat := 93
abbrev zsr : Nat := 94
abbrev zsq : Nat := 95
abbrev zow : Nat := 96
abbrev fn_show_unit : Nat := 97
abbrev zw3 : Nat := 98
abbrev z103 : Nat := 99
abbrev z1d : Nat := 100
abbrev z104 : Nat := 101
abbrev z100 : Nat := 102
abbrev z1du : Nat := 103
abbrev zw6 : Nat := 104
abbrev zj3 : Nat := 105
abbrev z1jg : Nat := 106
abbrev zba : Nat := 107
abbrev z180 : Nat := 108
abbrev z183 : Nat := 109
abbrev z1ew : Nat := 110
abbrev zfw : Nat := 111
abbrev zmo : Nat := 112
abbrev z1m3 : Nat := 113
abbrev zss : Nat := 114
abbrev zei : Nat := 115
abbrev z82 : Nat := 116
abbrev z3n : Nat := 117
abbrev zvt : Nat := 118
abbrev zw8 : Nat := 119
abbrev zsz : Nat := 120
abbrev zja : Nat := 121
abbrev z43 : Nat := 122
abbrev zdm : Nat := 123
abbrev z4g : Nat := 124
abbrev zg0 : Nat := 125
abbrev z4i : Nat := 126
abbrev zg3 : Nat := 127
abbrev zw0 : Nat := 128
abbrev zq : Nat := 129
abbrev z1gr : Nat := 130
abbrev z1et : Nat := 131
abbrev z56 : Nat := 132
abbrev zj9 : Nat := 133
abbrev zj8 : Nat := 134
abbrev zdo : Nat := 135
abbrev zt : Nat := 136
abbrev z73 : Nat := 137
abbrev z55 : Nat := 138
abbrev zef : Nat := 139
abbrev z17y : Nat := 140
abbrev zw5 : Nat := 141
abbrev z2w : Nat := 142
abbrev zso : Nat := 143
abbrev z5z : Nat := 144
abbrev zwb : Nat := 145
abbrev z14o : Nat := 146
abbrev zgw : Nat := 147
abbrev z1at : Nat := 148
abbrev zzx : Nat := 149
abbrev z1br : Nat := 150
abbrev z16n : Nat := 151
abbrev za7 : Nat := 152
abbrev z182 : Nat := 153
abbrev z181 : Nat := 154
abbrev zoy : Nat := 155
abbrev z5l : Nat := 156
abbrev z8s : Nat := 157
abbrev zh6 : Nat := 158
abbrev zsv : Nat := 159
abbrev z17s : Nat := 160
abbrev zbb : Nat := 161
abbrev z6h : Nat := 162
abbrev z6o : Nat := 163
abbrev zgz : Nat := 164
abbrev zgy : Nat := 165
abbrev zgx : Nat := 166
abbrev zvs : Nat := 167
abbrev zsy : Nat := 168
abbrev z2c : Nat := 169
abbrev zfy : Nat := 170
abbrev z1eu : Nat := 171
abbrev z123 : Nat := 172
abbrev z1aq : Nat := 173
abbrev z124 : Nat := 174
abbrev z17t : Nat := 175
abbrev z16m : Nat := 176
abbrev z14f : Nat := 177
abbrev zsw : Nat := 178
abbrev z105 : Nat := 179
abbrev zsx : Nat := 180
abbrev fn_bits_Mul32 : Nat := 181
abbrev zwc : Nat := 182
abbrev zci : Nat := 183
abbrev z125 : Nat := 184
abbrev z1as : Nat := 185
abbrev zfz : Nat := 186
abbrev zch : Nat := 187
abbrev z1bt : Nat := 188
abbrev z1jh : Nat := 189
abbrev zxa : Nat := 190
abbrev z14k : Nat := 191
abbrev zvu : Nat := 192
abbrev zbt : Nat := 193
abbrev zmp : Nat := 194
abbrev zej : Nat := 195
abbrev zg4 : Nat := 196
abbrev z2q : Nat := 197
abbrev z6g : Nat := 198
abbrev zeg : Nat := 199
abbrev z1ev : Nat := 200
abbrev z1ld : Nat := 201
abbrev zzw : Nat := 202
abbrev z1ar : Nat := 203
abbrev zt0 : Nat := 204
abbrev zw9 : Nat := 205
abbrev fn_abi_NoEscape : Nat := 206
abbrev z1dv : Nat := 207
abbrev zas : Nat := 208
abbrev zwd : Nat := 209
abbrev z74 : Nat := 210
abbrev z16o : Nat := 211
abbrev zju : Nat := 212
abbrev z15w : Nat := 213
abbrev zel : Nat := 214
abbrev z1le : Nat := 215
abbrev zn3 : Nat := 216
abbrev zzv : Nat := 217
abbrev fn_bits_Len64 : Nat := 218
abbrev z127 : Nat := 219
abbrev ztz : Nat := 220
abbrev z126 : Nat := 221
abbrev ztx : Nat := 222
abbrev z14i : Nat := 223
abbrev zug : Nat := 224
abbrev zty : Nat := 225
abbrev zmr : Nat := 226
abbrev zu0 : Nat := 227
abbrev zms : Nat := 228
abbrev zzy : Nat := 229
abbrev zrs : Nat := 230
abbrev z1lg : Nat := 231
abbrev zw2 : Nat := 232
abbrev zng : Nat := 233
abbrev z25 : Nat := 234
abbrev z5e : Nat := 235
abbrev z34 : Nat := 236
abbrev z17w : Nat := 237
abbrev z17v : Nat := 238
abbrev zkq : Nat := 239
abbrev zj7 : Nat := 240
abbrev z7e : Nat := 241
abbrev zzz : Nat := 242
abbrev z17u : Nat := 243
abbrev z14l : Nat := 244
abbrev z1ji : Nat := 245
def ann : List (Nat × List ((List Nat × Nat) × Dir)) := [
 (3, [(([3], 5), ⟨[9, 11], [], []⟩), (([3], 6), ⟨[8, 10], [], []⟩)]),
 (7, [(([7], 5), ⟨[], [], []⟩), (([7], 6), ⟨[4, 5], [], []⟩)]),
 (8, [(([8], 3), ⟨[0], [], []⟩), (([8], 4), ⟨[0, 3], [], []⟩)]),
 (9, [(([9], 4), ⟨[2], [], []⟩), (([9], 5), ⟨[2, 4, 5, 6], [], []⟩), (([9], 6), ⟨[2, 5], [], []⟩), (([9], 7), ⟨[2, 4], [], []⟩), (([9], 9), ⟨[2, 4, 7], [], []⟩), (([9], 10), ⟨[2, 4], [], []⟩)]),
 (11, [(([11], 9), ⟨[3, 4, 7, 10], [], []⟩), (([11], 10), ⟨[4, 7, 11, 12], [], []⟩), (([11], 11), ⟨[4], [], []⟩)]),
 (12, [(([12], 2), ⟨[4], [], []⟩), (([12], 3), ⟨[0, 3, 4], [], []⟩)]),
 (14, [(([14], 2), ⟨[4], [], []⟩), (([14], 3), ⟨[0, 3, 4], [], []⟩)]),
 (15, [(([15], 4), ⟨[0, 3, 4], [], [(3, 5, 1)]⟩)]),
 (16, [(([16], 3), ⟨[0, 3, 4], [], [(3, 5, 1)]⟩), (([16], 7), ⟨[0, 3, 4, 5], [], []⟩)]),
 (17, [(([17], 3), ⟨[2, 3], [], []⟩)]),
 (19, [(([19], 2), ⟨[], [], []⟩), (([19], 3), ⟨[2, 3], [], []⟩)]),
 (20, [(([20], 2), ⟨[], [], []⟩), (([20], 3), ⟨[2, 3], [], []⟩)]),
 (23, [(([23], 3), ⟨[3, 8, 9, 10], [], []⟩)]),
 (27, [(([27], 2), ⟨[0, 5, 6, 7], [], []⟩)]),
 (28, [(([28], 3), ⟨[0, 1, 4, 5, 6], [], []⟩)]),
 (29, [(([29], 2), ⟨[0, 3, 4], [], []⟩), (([29], 4), ⟨[0, 3, 4], [], []⟩), (([29], 6), ⟨[0, 3, 4, 5], [], []⟩), (([29], 7), ⟨[0, 3, 4, 5, 6, 7], [], []⟩), (([29], 10), ⟨[0, 3, 4, 5], [], []⟩), (([29], 13), ⟨[0, 3, 4, 5, 7, 8, 9], [], []⟩), (([29], 15), ⟨[0, 3, 4, 5, 8, 10, 11], [], []⟩)]),
 (33, [(([33], 3), ⟨[0, 1, 6], [], []⟩), (([33, 11], 3), ⟨[0, 1, 6], [[3, 4, 7, 10, 11, 12, 30, 31, 32, 33, 34, 35, 36]], []⟩), (([33, 40], 3), ⟨[0, 1, 6], [[1, 2, 6, 9, 10, 11, 12, 27, 28, 29, 30, 31, 32]], []⟩), (([33], 5), ⟨[0, 1, 2, 6, 8], [], []⟩), (([33, 11], 5), ⟨[0, 1, 2, 6, 8], [[3, 4, 7, 10, 11, 12, 30, 31, 32, 33, 34, 35, 36]], []⟩), (([33, 40], 5), ⟨[0, 1, 2, 6, 8], [[1, 2, 6, 9, 10, 11, 12, 27, 28, 29, 30, 31, 32]], []⟩), (([33], 6), ⟨[1, 2, 6, 8, 9, 10], [], []⟩), (([33, 11], 6), ⟨[1, 2, 6, 8, 9, 10], [[3, 4, 7, 10, 11, 12, 30, 31, 32, 33, 34, 35, 36]], []⟩), (([33, 40], 6), ⟨[1, 2, 6, 8, 9, 10], [[1, 2, 6, 9, 10, 11, 12, 27, 28, 29, 30, 31, 32]], []⟩), (([33], 8), ⟨[1, 6, 8], [], []⟩), (([33, 11], 8), ⟨[1, 6, 8], [[3, 4, 7, 10, 11, 12, 30, 31, 32, 33, 34, 35, 36]], []⟩), (([33, 40], 8), ⟨[1, 6, 8], [[1, 2, 6, 9, 10, 11, 12, 27, 28, 29, 30, 31, 32]], []⟩), (([33], 12), ⟨[6], [], []⟩), (([33, 11], 12), ⟨[6], [[3, 4, 7, 10, 11, 12, 30, 31, 32, 33, 34, 35, 36]], []⟩), (([33, 40], 12), ⟨[6], [[1, 2, 6, 9, 10, 11, 12, 27, 28, 29, 30, 31, 32]], []⟩), (([33], 13), ⟨[1, 6, 11], [], []⟩), (([33, 11], 13), ⟨[1, 6, 11], [[3, 4, 7, 10, 11, 12, 30, 31, 32, 33, 34, 35, 36]], []⟩), (([33, 40], 13), ⟨[1, 6, 11], [[1, 2, 6, 9, 10, 11, 12, 27, 28, 29, 30, 31, 32]], []⟩), (([33], 15), ⟨[6, 11], [], []⟩), (([33, 11], 15), ⟨[6, 11], [[3, 4, 7, 10, 11, 12, 30, 31, 32, 33, 34, 35, 36]], []⟩), (([33, 40], 15), ⟨[6, 11], [[1, 2, 6, 9, 10, 11, 12, 27, 28, 29, 30, 31, 32]], []⟩)]),
 (35, [(([35], 4), ⟨[0, 3, 4, 5], [], [(3, 9, 1)]⟩), (([35], 7), ⟨[0, 3, 4, 5], [], []⟩)]),
 (37, [(([37], 4), ⟨[0, 4], [], []⟩)]),
 (38, [(([38], 6), ⟨[0, 1, 12], [], []⟩), (([38], 8), ⟨[0, 1, 11, 12], [], []⟩), (([38], 9), ⟨[], [], []⟩), (([38], 10), ⟨[0, 1, 11, 12], [], []⟩), (([38], 12), ⟨[0, 11, 12], [], []⟩), (([38], 13), ⟨[], [], []⟩), (([38], 14), ⟨[0, 11, 12], [], []⟩)]),
 (40, [(([40], 3), ⟨[1, 2, 6, 9, 10], [], []⟩), (([40], 4), ⟨[2, 6, 9, 11, 12], [], []⟩), (([40], 6), ⟨[2, 6, 9, 11, 12, 13, 14, 15, 16, 17], [], []⟩), (([40], 7), ⟨[2, 6, 9, 11, 12, 14, 16], [], []⟩), (([40], 9), ⟨[2, 6, 9, 11, 12, 14, 16], [], []⟩), (([40], 10), ⟨[2, 6, 9, 11, 12, 13, 14, 15], [], []⟩), (([40], 11), ⟨[2, 6, 9, 11, 12, 13, 14, 15, 18, 19], [], []⟩), (([40], 13), ⟨[6, 9, 11, 12, 13, 15, 18], [], []⟩), (([40], 14), ⟨[6, 9, 11, 12, 13, 14, 15], [], []⟩), (([40], 15), ⟨[6], [], []⟩), (([40], 16), ⟨[6, 11, 13, 14, 15], [], []⟩), (([40], 18), ⟨[6], [], []⟩), (([40], 19), ⟨[6, 13, 14, 20], [], []⟩)]),
 (41, [(([41], 4), ⟨[6], [], []⟩), (([41], 5), ⟨[2, 6, 10, 11, 12, 13], [], []⟩), (([41], 12), ⟨[6, 10, 11, 12, 13, 16, 18], [], []⟩), (([41], 17), ⟨[6, 10, 11, 12, 15, 16, 17], [], []⟩)]),
 (47, [(([47], 3), ⟨[1, 3, 4], [], []⟩), (([47], 4), ⟨[1, 3, 4, 5], [], []⟩), (([47], 5), ⟨[1, 3, 4, 5, 6], [], []⟩), (([47], 7), ⟨[1, 4, 5, 6], [], []⟩), (([47], 8), ⟨[1, 3, 4, 5, 6, 7], [], []⟩)]),
 (49, [(([49], 5), ⟨[3, 6, 7, 8, 10], [], []⟩)]),
 (50, [(([50], 3), ⟨[3, 6, 7, 8], [], [(3, 5, 1)]⟩)]),
 (53, [(([53], 4), ⟨[0, 1, 5, 6, 14], [], [(5, 150, 2)]⟩), (([53], 14), ⟨[0, 5], [], []⟩), (([53], 16), ⟨[0, 9, 47, 48, 49], [], []⟩)]),
 (58, [(([58], 3), ⟨[0, 1, 2, 3, 9, 10, 17], [], []⟩), (([58], 6), ⟨[0, 1, 2, 3, 9, 10, 11, 12, 17], [], []⟩)]),
 (62, [(([62], 3), ⟨[0, 1, 8], [], []⟩), (([62], 4), ⟨[0, 7, 8], [], []⟩)]),
 (63, [(([63], 7), ⟨[0, 1, 5, 6, 7, 8, 9], [], []⟩), (([63], 10), ⟨[0, 1, 5, 6, 7, 10], [], []⟩), (([63], 12), ⟨[0, 1, 6, 10, 11, 12], [], []⟩), (([63], 15), ⟨[0, 6, 10], [], []⟩)]),
 (66, [(([66], 5), ⟨[2, 5], [], []⟩), (([66], 10), ⟨[2, 5], [], []⟩), (([66], 13), ⟨[2, 5], [], []⟩), (([66], 16), ⟨[2, 5], [], []⟩), (([66], 19), ⟨[2, 5], [], []⟩), (([66], 24), ⟨[2, 5], [], []⟩)]),
 (71, [(([71], 4), ⟨[0, 1, 12], [], []⟩), (([71, 33], 4), ⟨[0, 1, 12], [[1, 2, 6, 8, 9, 11, 12, 41, 42, 43, 47, 48, 49, 50, 51]], []⟩), (([71, 33, 11], 4), ⟨[0, 1, 12], [[1, 2, 6, 8, 9, 11, 12, 41, 42, 43, 47, 48, 49, 50, 51], [3, 4, 7, 10, 11, 12, 30, 31, 32, 33, 34, 35, 36]], []⟩), (([71, 33, 40], 4), ⟨[0, 1, 12], [[1, 2, 6, 8, 9, 11, 12, 41, 42, 43, 47, 48, 49, 50, 51], [1, 2, 6, 9, 10, 11, 12, 27, 28, 29, 30, 31, 32]], []⟩)]),
 (72, [(([72], 3), ⟨[], [], []⟩), (([72], 4), ⟨[0, 1, 5], [], []⟩)]),
 (76, [(([76], 5), ⟨[0, 1, 4, 5, 6], [], []⟩), (([76], 10), ⟨[4, 7], [], []⟩), (([76], 11), ⟨[1, 4, 7], [], []⟩), (([76], 23), ⟨[4, 8, 9, 10], [], []⟩), (([76], 24), ⟨[4], [], []⟩), (([76], 25), ⟨[4, 8, 9, 10], [], []⟩)]),
 (78, [(([78], 9), ⟨[0, 2, 3, 4, 5], [], []⟩), (([78], 10), ⟨[2, 3, 4, 5], [], []⟩), (([78], 11), ⟨[2, 3, 4, 5], [], []⟩), (([78], 12), ⟨[2, 4, 5, 6], [], []⟩)]),
 (79, [(([79], 10), ⟨[0, 5], [], []⟩), (([79], 15), ⟨[0, 5], [], []⟩)]),
 (81, [(([81], 4), ⟨[0, 12], [], []⟩), (([81], 7), ⟨[0, 3], [], []⟩)]),
 (83, [(([83], 2), ⟨[4, 5, 6], [], []⟩), (([83], 3), ⟨[], [], []⟩), (([83], 4), ⟨[4, 5], [], []⟩), (([83], 11), ⟨[4, 7, 8], [], []⟩), (([83], 12), ⟨[], [], []⟩), (([83], 13), ⟨[4, 7, 8], [], []⟩)]),
 (84, [(([84], 2), ⟨[4], [], []⟩), (([84], 3), ⟨[1, 2, 4], [], []⟩), (([84], 8), ⟨[4, 6, 7], [], []⟩)]),
 (85, [(([85], 5), ⟨[0, 3, 4], [], []⟩), (([85], 8), ⟨[0, 3, 4], [], []⟩)]),
 (86, [(([86], 2), ⟨[0, 4], [], []⟩), (([86], 5), ⟨[0, 4], [], []⟩), (([86], 3), ⟨[0, 4], [], []⟩)]),
 (87, [(([87], 3), ⟨[4, 5], [], []⟩), (([87], 4), ⟨[4, 5], [], []⟩), (([87], 5), ⟨[4, 5], [], []⟩), (([87], 6), ⟨[4, 5, 6], [], []⟩), (([87], 9), ⟨[4, 5, 6, 8], [], []⟩), (([87], 10), ⟨[4, 5, 6, 7, 8], [], []⟩), (([87], 11), ⟨[4, 5, 6, 7], [], []⟩), (([87], 13), ⟨[4, 5, 6, 7, 8, 9], [], []⟩), (([87], 14), ⟨[4, 5, 6, 7, 8, 10], [], []⟩), (([87], 17), ⟨[4, 5, 6, 7, 8], [], []⟩)]),
 (88, [(([88], 2), ⟨[4], [], []⟩), (([88], 3), ⟨[1, 2, 4], [], []⟩), (([88], 9), ⟨[1, 4, 6], [], []⟩)]),
 (93, [(([93], 3), ⟨[0, 5, 8, 9, 10], [], [(5, 9, 1)]⟩)]),
 (97, [(([97], 5), ⟨[0, 1, 2, 8], [], []⟩), (([97], 6), ⟨[0, 1, 2, 7, 8], [], []⟩)]),
 (100, [(([100], 8), ⟨[0, 1], [], []⟩), (([100], 10), ⟨[0, 6], [], []⟩), (([100], 11), ⟨[0, 6], [], []⟩), (([100], 20), ⟨[0, 7], [], []⟩), (([100], 21), ⟨[7], [], []⟩), (([100], 22), ⟨[0, 7], [], []⟩), (([100], 23), ⟨[7], [], []⟩), (([100], 24), ⟨[0, 7], [], []⟩), (([100], 25), ⟨[7], [], []⟩), (([100], 26), ⟨[0, 7], [], []⟩), (([100], 27), ⟨[7], [], []⟩), (([100], 28), ⟨[0, 7], [], []⟩), (([100], 29), ⟨[7], [], []⟩), (([100], 30), ⟨[0, 7], [], []⟩), (([100], 35), ⟨[0, 7, 8], [], []⟩), (([100], 37), ⟨[0, 7, 8, 9], [], []⟩), (([100], 38), ⟨[7, 8, 9], [], []⟩), (([100], 39), ⟨[7, 8, 9], [], []⟩)]),
 (106, [(([106], 13), ⟨[0, 1, 2], [], []⟩)]),
 (107, [(([107], 3), ⟨[0, 4, 5, 9], [], []⟩), (([107], 9), ⟨[0, 4, 5, 7, 9], [], []⟩)]),
 (116, [(([116], 3), ⟨[0, 1, 7, 8], [], []⟩)]),
 (117, [(([117], 5), ⟨[6, 7], [], []⟩), (([117], 8), ⟨[6, 7, 8], [], []⟩), (([117], 12), ⟨[6, 7, 9], [], []⟩)]),
 (121, [(([121], 3), ⟨[0, 1, 2], [], []⟩)]),
 (122, [(([122], 2), ⟨[0, 7], [], []⟩), (([122], 3), ⟨[0, 7, 8], [], []⟩)]),
 (124, [(([124], 3), ⟨[0, 1, 5, 6], [], [(5, 9, 1)]⟩)]),
 (126, [(([126], 2), ⟨[0, 1, 5], [], []⟩), (([126], 4), ⟨[0, 1, 5], [], []⟩)]),
 (129, [(([129], 3), ⟨[0, 3, 9, 10, 11], [], []⟩), (([129], 8), ⟨[0, 3, 9, 10, 11], [], []⟩), (([129], 10), ⟨[0, 6], [], []⟩), (([129], 11), ⟨[6, 25, 26, 27], [], [(6, 9, 1)]⟩)]),
 (130, [(([130], 7), ⟨[0, 5], [], []⟩), (([130], 12), ⟨[0, 6, 8], [], []⟩), (([130], 17), ⟨[0, 1], [], []⟩), (([130], 18), ⟨[1, 45], [], []⟩)]),
 (131, [(([131], 2), ⟨[0], [], []⟩), (([131], 3), ⟨[0, 1], [], []⟩), (([131], 4), ⟨[0, 1], [], []⟩), (([131], 5), ⟨[0, 1], [], []⟩)]),
 (132, [(([132], 3), ⟨[5, 6, 13], [], [(5, 171, 2)]⟩), (([132, 83], 3), ⟨[5, 6, 13], [[0, 4, 5, 6, 9, 10, 11, 12, 13, 14]], [(5, 171, 2)]⟩), (([132], 8), ⟨[5, 6, 8, 9, 13], [], []⟩), (([132, 83], 8), ⟨[5, 6, 8, 9, 13], [[0, 4, 5, 6, 9, 10, 11, 12, 13, 14]], []⟩), (([132], 10), ⟨[5, 6, 8, 13], [], []⟩), (([132, 83], 10), ⟨[5, 6, 8, 13], [[0, 4, 5, 6, 9, 10, 11, 12, 13, 14]], []⟩), (([132], 11), ⟨[5, 6, 8, 13], [], []⟩), (([132, 83], 11), ⟨[5, 6, 8, 13], [[0, 4, 5, 6, 9, 10, 11, 12, 13, 14]], []⟩)]),
 (135, [(([135], 2), ⟨[], [], []⟩), (([135], 3), ⟨[0, 1, 2, 3], [], []⟩)]),
 (136, [(([136], 3), ⟨[0, 1, 2, 7, 8], [], []⟩), (([136, 87], 3), ⟨[0, 1, 2, 7, 8], [[4, 5, 6, 7, 8, 9, 14, 15, 22, 23, 26, 27, 35, 36]], []⟩), (([136], 4), ⟨[0, 1, 2, 7, 8], [], []⟩), (([136, 87], 4), ⟨[0, 1, 2, 7, 8], [[4, 5, 6, 7, 8, 9, 14, 15, 22, 23, 26, 27, 35, 36]], []⟩), (([136], 6), ⟨[0, 1, 7, 8], [], []⟩), (([136, 87], 6), ⟨[0, 1, 7, 8], [[4, 5, 6, 7, 8, 9, 14, 15, 22, 23, 26, 27, 35, 36]], []⟩)]),
 (137, [(([137], 2), ⟨[], [], []⟩), (([137, 87], 2), ⟨[], [[4, 5, 6, 7, 8, 16, 17, 18, 24, 25, 28, 29]], []⟩)]),
 (138, [(([138], 2), ⟨[], [], []⟩), (([138], 3), ⟨[0, 1, 2, 3], [], []⟩)]),
 (142, [(([142], 10), ⟨[0, 1, 5], [], []⟩), (([142], 11), ⟨[0, 1, 5], [], []⟩), (([142], 12), ⟨[0, 1, 5, 39, 40, 41], [], []⟩), (([142], 16), ⟨[0, 1, 5, 7, 39, 40, 41], [], []⟩), (([142], 20), ⟨[0, 1, 8], [], []⟩), (([142], 21), ⟨[0, 1, 8], [], []⟩), (([142], 22), ⟨[1, 8, 63, 64, 65], [], []⟩)]),
 (144, [(([144], 2), ⟨[], [], []⟩), (([144], 3), ⟨[0], [], []⟩), (([144], 6), ⟨[3, 4, 17], [], []⟩)]),
 (148, [(([148], 1), ⟨[0, 1], [], []⟩), (([148], 3), ⟨[0, 1], [], []⟩)]),
 (149, [(([149], 2), ⟨[0, 1], [], []⟩)]),
 (152, [(([152], 3), ⟨[0, 1, 5, 6], [], []⟩), (([152], 5), ⟨[0, 1, 5, 6], [], []⟩)]),
 (156, [(([156], 3), ⟨[], [], []⟩), (([156], 4), ⟨[0, 1, 5], [], []⟩), (([156], 9), ⟨[0, 1], [], []⟩), (([156], 10), ⟨[0, 1, 5], [], []⟩), (([156], 15), ⟨[0, 1, 5, 6, 7, 8, 9, 10], [], []⟩), (([156], 21), ⟨[0, 1, 5, 6, 7, 8, 9, 10], [], []⟩), (([156], 22), ⟨[8], [], []⟩), (([156], 23), ⟨[0, 1, 5, 6, 7, 8, 9, 10], [], []⟩), (([156], 26), ⟨[0, 1, 8], [], []⟩), (([156], 30), ⟨[0, 1, 5, 6, 7, 8, 9, 10], [], []⟩), (([156], 31), ⟨[0, 1, 8], [], []⟩)]),
 (157, [(([157], 2), ⟨[], [], []⟩), (([157], 3), ⟨[0], [], []⟩), (([157], 4), ⟨[], [], []⟩), (([157], 5), ⟨[0], [], []⟩), (([157], 10), ⟨[], [], []⟩)]),
 (158, [(([158], 5), ⟨[0, 3], [], []⟩)]),
 (162, [(([162], 7), ⟨[0, 1, 2, 3], [], []⟩), (([162], 11), ⟨[0, 1, 2, 3, 9, 10], [], []⟩)]),
 (163, [(([163], 3), ⟨[0, 3, 4], [], []⟩)]),
 (169, [(([169], 4), ⟨[0, 4, 5, 6], [], []⟩), (([169], 10), ⟨[0, 4, 6, 7], [], []⟩), (([169], 11), ⟨[0, 4, 5, 6, 7], [], []⟩), (([169], 5), ⟨[0, 4, 5, 6], [], []⟩)]),
 (170, [(([170], 3), ⟨[0, 1], [], []⟩), (([170, 129], 3), ⟨[0, 1], [[0, 3, 6, 23, 24]], []⟩)]),
 (171, [(([171], 36), ⟨[0, 1, 2, 3, 4, 5, 6, 11, 13, 14, 15, 16, 34, 35, 36, 37, 38, 39, 40, 41, 42, 43, 44, 45, 46, 47, 52, 53, 65, 66, 67, 68, 69, 70, 71, 72, 73, 74, 75, 76, 77, 78, 79, 80, 81, 82, 83, 84, 85, 86, 87, 88, 89, 90, 91, 92, 93, 94, 95, 96, 97, 98, 99, 100, 101, 102, 103, 104, 105, 106, 107, 108, 109, 110, 111, 112, 113, 114, 115, 116, 117, 118, 119, 120, 121, 122, 123, 124, 125, 126, 127, 128, 129, 130, 131, 132, 133, 134, 135, 136, 137, 138, 139, 140, 141, 142, 143, 144, 145, 146, 147, 148, 149, 150, 151, 152, 153, 154, 155, 156, 157, 158, 159, 160, 161, 162, 163, 164, 165, 166, 167, 168, 169, 170, 174, 175, 176, 177, 178, 179, 180, 181, 182], [], []⟩), (([171], 38), ⟨[175], [], []⟩), (([171], 5), ⟨[0, 1, 2, 3, 4, 5, 6, 7, 8, 9, 10, 11, 13, 14, 15, 16, 17, 18, 19, 20, 21, 22, 34, 35, 36, 37, 38, 39, 40, 41, 42, 43, 44, 45, 46, 47, 52, 53, 65, 66, 67, 68, 69, 70, 71, 72, 73, 74, 75, 76, 77, 78, 79, 80, 81, 82, 83, 84, 85, 86, 87, 88, 89, 90, 91, 92, 93, 94, 95, 96, 97, 98, 99, 100, 101, 102, 103, 104, 105, 106, 107, 108, 109, 110, 111, 112, 113, 114, 115, 116, 117, 118, 119, 120, 121, 122, 123, 124, 125, 126, 127, 128, 129, 130, 131, 132, 133, 134, 135, 136, 137, 138, 139, 140, 141, 142, 143, 144, 145, 146, 147, 148, 149, 150, 151, 152, 153, 154, 155, 156, 157, 158, 159, 160, 161, 162, 163, 164, 165, 166, 167, 168, 169, 170, 171, 172, 173, 174, 175, 176, 177, 178, 179, 180, 181, 182, 183, 184, 185, 186], [], []⟩), (([171], 11), ⟨[0, 1, 2, 3, 4, 5, 6, 7, 8, 9, 10, 11, 13, 14, 15, 16, 17, 18, 19, 20, 21, 22, 23, 24, 25, 26, 27, 28, 29, 30, 31, 32, 33, 34, 35, 36, 37, 38, 39, 40, 41, 42, 43, 44, 45, 46, 47, 52, 53, 65, 66, 67, 68, 69, 70, 71, 72, 73, 74, 75, 76, 77, 78, 79, 80, 81, 82, 83, 84, 85, 86, 87, 88, 89, 90, 91, 92, 93, 94, 95, 96, 97, 98, 99, 100, 101, 102, 103, 104, 105, 106, 107, 108, 109, 110, 111, 112, 113, 114, 115, 116, 117, 118, 119, 120, 121, 122, 123, 124, 125, 126, 127, 128, 129, 130, 131, 132, 133, 134, 135, 136, 137, 138, 139, 140, 141, 142, 143, 144, 145, 146, 147, 148, 149, 150, 151, 152, 153, 154, 155, 156, 157, 158, 159, 160, 161, 162, 163, 164, 165, 166, 167, 168, 169, 170, 171, 172, 173, 174, 175, 176, 177, 178, 179, 180, 181, 182, 183, 184, 185, 186], [], []⟩), (([171], 12), ⟨[0, 1, 2, 3, 4, 5, 6, 7, 8, 9, 10, 11, 12, 13, 14, 15, 16, 17, 18, 19, 20, 21, 22, 23, 24, 25, 26, 27, 28, 29, 30, 31, 32, 33, 34, 35, 36, 37, 38, 39, 40, 41, 42, 43, 44, 45, 46, 47, 52, 53, 65, 66, 67, 68, 69, 70, 71, 72, 73, 74, 75, 76, 77, 78, 79, 80, 81, 82, 83, 84, 85, 86, 87, 88, 89, 90, 91, 92, 93, 94, 95, 96, 97, 98, 99, 100, 101, 102, 103, 104, 105, 106, 107, 108, 109, 110, 111, 112, 113, 114, 115, 116, 117, 118, 119, 120, 121, 122, 123, 124, 125, 126, 127, 128, 129, 130, 131, 132, 133, 134, 135, 136, 137, 138, 139, 140, 141, 142, 143, 144, 145, 146, 147, 148, 149, 150, 151, 152, 153, 154, 155, 156, 157, 158, 159, 160, 161, 162, 163, 164, 165, 166, 167, 168, 169, 170, 171, 172, 173, 174, 175, 176, 177, 178, 179, 180, 181, 182, 183, 184, 185, 186], [], []⟩)]),
 (173, [(([173], 2), ⟨[0, 2, 4], [], []⟩)]),
 (175, [(([175], 1), ⟨[0, 1], [], []⟩)]),
 (176, [(([176], 1), ⟨[0, 1], [], []⟩)]),
 (177, [(([177], 1), ⟨[0, 1], [], []⟩), (([177], 5), ⟨[0, 1, 5, 6], [], []⟩)]),
 (186, [(([186], 9), ⟨[10, 11], [], []⟩), (([186], 10), ⟨[11], [], []⟩)]),
 (190, [(([190], 5), ⟨[0, 1, 5, 6, 7, 8, 9], [], []⟩), (([190], 9), ⟨[], [], []⟩), (([190], 10), ⟨[0, 1, 5, 6, 7, 8], [], []⟩), (([190], 11), ⟨[0, 1, 5, 6, 7, 8, 10], [], []⟩)]),
 (192, [(([192], 3), ⟨[0, 5], [], []⟩), (([192], 4), ⟨[0, 1], [], []⟩), (([192], 6), ⟨[0, 1, 6, 7], [], []⟩)]),
 (193, [(([193], 6), ⟨[0, 1, 5], [], []⟩)]),
 (197, [(([197], 2), ⟨[0, 1, 7, 8], [], []⟩)]),
 (201, [(([201], 3), ⟨[0], [], []⟩)]),
 (202, [(([202], 10), ⟨[0, 4, 5, 6], [], []⟩), (([202], 13), ⟨[0, 4, 5], [], []⟩), (([202], 15), ⟨[0, 4, 5], [], []⟩)]),
 (208, [(([208], 3), ⟨[0, 1, 2], [], []⟩), (([208], 5), ⟨[0, 1, 2], [], []⟩), (([208], 17), ⟨[2, 8, 9, 10, 11, 13, 14, 15, 16], [], []⟩), (([208], 18), ⟨[2, 8, 9, 10, 11, 13, 14, 15, 16], [], []⟩), (([208], 21), ⟨[2, 8, 9, 10, 11, 13, 14, 15], [], []⟩), (([208], 24), ⟨[2, 8, 9, 10, 14, 15, 16, 17, 18], [], []⟩), (([208], 25), ⟨[2, 8, 9, 10, 14, 15, 16, 17, 18], [], []⟩), (([208], 28), ⟨[2, 8, 14, 15, 17, 18], [], []⟩)]),
 (211, [(([211], 3), ⟨[0, 4, 5], [], []⟩), (([211], 8), ⟨[4, 6, 7, 8], [], []⟩)]),
 (212, [(([212], 2), ⟨[2, 4], [], []⟩)]),
 (217, [(([217], 15), ⟨[], [], []⟩), (([217], 16), ⟨[0, 5, 8, 10], [], []⟩), (([217], 20), ⟨[], [], []⟩), (([217], 21), ⟨[0, 5, 8, 10, 11], [], []⟩), (([217], 25), ⟨[], [], []⟩), (([217], 26), ⟨[5, 10, 11, 12], [], []⟩)]),
 (218, [(([218], 4), ⟨[0, 2], [], []⟩), (([218], 7), ⟨[0, 2], [], []⟩)]),
 (234, [(([234], 5), ⟨[0, 2, 4, 5], [], []⟩), (([234], 6), ⟨[0, 2, 4, 5], [], []⟩), (([234], 7), ⟨[0, 2, 4, 5], [], []⟩)]),
 (235, [(([235], 2), ⟨[0, 1, 7, 8], [], []⟩)]),
 (239, [(([239], 1), ⟨[0, 2, 3], [], []⟩), (([239, 234], 1), ⟨[0, 2, 3], [[0, 2, 4, 5, 26, 27]], []⟩)]),
 (241, [(([241], 4), ⟨[1, 2, 4, 5, 6], [], []⟩), (([241], 6), ⟨[2, 4, 5, 6], [], []⟩)])]
noncomputable def EE : Env := { P := Tryz.prog, tt, ext := [(209, zri), (210, z5x), (214, zm1)], ann, inl := [(11, 32), (11, 33), (29, 65), (33, 65), (33, 71), (40, 32), (40, 33), (40, 65), (47, 97), (83, 132), (87, 136), (87, 137), (100, 148), (100, 149), (100, 150), (100, 151), (129, 170), (142, 148), (142, 149), (142, 151), (148, 184), (148, 185), (149, 184), (234, 237), (234, 238), (234, 239)], mt := [((55, "computus/read.half"), 58), ((55, "computus/read.iso"), 26), ((55, "computus/read.letter"), 106), ((55, "computus/read.more"), 61), ((55, "computus/read.named"), 29), ((55, "computus/read.signed"), 62), ((55, "computus/read.sql"), 28), ((55, "computus/read.time"), 63), ((63, "computus/read.take"), 65), ((118, "computus/read.date"), 234), ((158, "computus/read.date"), 240), ((160, "computus/read.date"), 241), ((171, "computus/clock.one"), 133), ((171, "computus/clock.two"), 134), ((173, "computus/computusref03.num"), 136), ((173, "computus/computusref03.sign"), 137), ((183, "Grow"), 148), ((183, "Len"), 150), ((183, "String"), 151), ((183, "WriteString"), 149), ((183, "strings.copyCheck"), 184), ((183, "strings.grow"), 185), ((212, "strings.contains"), 174)], eqs := [24, 33, 37], same := [206], mnz := [(207, 5)] }
end Dv
