/- The seat's functions, as equations. -/
import Derived.Test.YtkmaclnhmkncfaaDoorL1
import Derived.Test.YtkmaclnhmkncfaaDoorProg
set_option linter.unusedVariables false
set_option linter.unusedSimpArgs false
namespace Dv
open Go Go.Proofs
def tt : List TI := [
  ⟨.tuple [], 1, 0, .undef, [.other]⟩,
  ⟨.func, 1, 8, .nilfn, [.other]⟩,
  ⟨.int .i64, 1, 8, (.int .i64 0), [.int .i64]⟩,
  ⟨.int .i64, 1, 8, (.int .i64 0), [.int .i64]⟩,
  ⟨.bool, 1, 1, (.bool false), [.bool]⟩,
  ⟨.int .u8, 1, 1, (.int .u8 0), [.int .u8]⟩,
  ⟨.int .u8, 1, 1, (.int .u8 0), [.int .u8]⟩,
  ⟨.struct [(0, 2), (1, 3), (2, 4), (3, 6)], 4, 24, (.agg [(.int .i64 0), (.int .i64 0), (.bool false), (.int .u8 0)]), [.int .i64, .int .i64, .bool, .int .u8]⟩,
  ⟨.struct [(0, 2), (1, 3), (2, 4), (3, 6)], 4, 24, (.agg [(.int .i64 0), (.int .i64 0), (.bool false), (.int .u8 0)]), [.int .i64, .int .i64, .bool, .int .u8]⟩,
  ⟨.str, 1, 16, (.str []), [.str]⟩,
  ⟨.str, 1, 16, (.str []), [.str]⟩,
  ⟨.str, 1, 16, (.str []), [.str]⟩,
  ⟨.int .u64, 1, 8, (.int .u64 0), [.int .u64]⟩,
  ⟨.struct [(0, 9), (1, 12)], 2, 24, (.agg [(.str []), (.int .u64 0)]), [.str, .int .u64]⟩,
  ⟨.struct [(0, 9), (1, 12)], 2, 24, (.agg [(.str []), (.int .u64 0)]), [.str, .int .u64]⟩,
  ⟨.ptr 120, 1, 8, .nilp, [.other]⟩,
  ⟨.ptr 123, 1, 8, .nilp, [.other]⟩,
  ⟨.ptr 132, 1, 8, .nilp, [.other]⟩,
  ⟨.struct [(0, 17)], 1, 8, (.agg [.nilp]), [.other]⟩,
  ⟨.struct [(0, 17)], 1, 8, (.agg [.nilp]), [.other]⟩,
  ⟨.iface false, 1, 16, .nili, [.other]⟩,
  ⟨.int .i32, 1, 4, (.int .i32 0), [.int .i32]⟩,
  ⟨.struct [(0, 3), (1, 2), (2, 2)], 3, 24, (.agg [(.int .i64 0), (.int .i64 0), (.int .i64 0)]), [.int .i64, .int .i64, .int .i64]⟩,
  ⟨.struct [(0, 3), (1, 2), (2, 2)], 3, 24, (.agg [(.int .i64 0), (.int .i64 0), (.int .i64 0)]), [.int .i64, .int .i64, .int .i64]⟩,
  ⟨.int .i64, 1, 8, (.int .i64 0), [.int .i64]⟩,
  ⟨.tuple [23, 24], 1, 0, .undef, [.other]⟩,
  ⟨.func, 1, 8, .nilfn, [.other]⟩,
  ⟨.struct [(0, 3), (1, 2), (2, 2)], 3, 24, (.agg [(.int .i64 0), (.int .i64 0), (.int .i64 0)]), [.int .i64, .int .i64, .int .i64]⟩,
  ⟨.tuple [27, 24], 1, 0, .undef, [.other]⟩,
  ⟨.func, 1, 8, .nilfn, [.other]⟩,
  ⟨.struct [(0, 2), (1, 5)], 2, 16, (.agg [(.int .i64 0), (.int .u8 0)]), [.int .i64, .int .u8]⟩,
  ⟨.struct [(0, 2), (1, 5)], 2, 16, (.agg [(.int .i64 0), (.int .u8 0)]), [.int .i64, .int .u8]⟩,
  ⟨.tuple [31, 24], 1, 0, .undef, [.other]⟩,
  ⟨.func, 1, 8, .nilfn, [.other]⟩,
  ⟨.struct [(0, 2), (1, 5)], 2, 16, (.agg [(.int .i64 0), (.int .u8 0)]), [.int .i64, .int .u8]⟩,
  ⟨.tuple [34, 24], 1, 0, .undef, [.other]⟩,
  ⟨.func, 1, 8, .nilfn, [.other]⟩,
  ⟨.tuple [2, 24], 1, 0, .undef, [.other]⟩,
  ⟨.func, 1, 8, .nilfn, [.other]⟩,
  ⟨.func, 1, 8, .nilfn, [.other]⟩,
  ⟨.func, 1, 8, .nilfn, [.other]⟩,
  ⟨.func, 1, 8, .nilfn, [.other]⟩,
  ⟨.func, 1, 8, .nilfn, [.other]⟩,
  ⟨.func, 1, 8, .nilfn, [.other]⟩,
  ⟨.func, 1, 8, .nilfn, [.other]⟩,
  ⟨.func, 1, 8, .nilfn, [.other]⟩,
  ⟨.func, 1, 8, .nilfn, [.other]⟩,
  ⟨.func, 1, 8, .nilfn, [.other]⟩,
  ⟨.func, 1, 8, .nilfn, [.other]⟩,
  ⟨.tuple [9, 24], 1, 0, .undef, [.other]⟩,
  ⟨.func, 1, 8, .nilfn, [.other]⟩,
  ⟨.func, 1, 8, .nilfn, [.other]⟩,
  ⟨.func, 1, 8, .nilfn, [.other]⟩,
  ⟨.func, 1, 8, .nilfn, [.other]⟩,
  ⟨.func, 1, 8, .nilfn, [.other]⟩,
  ⟨.func, 1, 8, .nilfn, [.other]⟩,
  ⟨.tuple [23, 4], 1, 0, .undef, [.other]⟩,
  ⟨.func, 1, 8, .nilfn, [.other]⟩,
  ⟨.func, 1, 8, .nilfn, [.other]⟩,
  ⟨.func, 1, 8, .nilfn, [.other]⟩,
  ⟨.func, 1, 8, .nilfn, [.other]⟩,
  ⟨.tuple [2, 4], 1, 0, .undef, [.other]⟩,
  ⟨.func, 1, 8, .nilfn, [.other]⟩,
  ⟨.func, 1, 8, .nilfn, [.other]⟩,
  ⟨.tuple [9, 4], 1, 0, .undef, [.other]⟩,
  ⟨.func, 1, 8, .nilfn, [.other]⟩,
  ⟨.iface true, 1, 16, .nili, [.other]⟩,
  ⟨.iface true, 1, 16, .nili, [.other]⟩,
  ⟨.func, 1, 8, .nilfn, [.other]⟩,
  ⟨.int .i64, 1, 8, (.int .i64 0), [.int .i64]⟩,
  ⟨.tuple [69, 4], 1, 0, .undef, [.other]⟩,
  ⟨.int .i64, 1, 8, (.int .i64 0), [.int .i64]⟩,
  ⟨.tuple [71, 4], 1, 0, .undef, [.other]⟩,
  ⟨.func, 1, 8, .nilfn, [.other]⟩,
  ⟨.struct [(0, 2), (1, 2), (2, 2)], 3, 24, (.agg [(.int .i64 0), (.int .i64 0), (.int .i64 0)]), [.int .i64, .int .i64, .int .i64]⟩,
  ⟨.struct [(0, 2), (1, 2), (2, 2)], 3, 24, (.agg [(.int .i64 0), (.int .i64 0), (.int .i64 0)]), [.int .i64, .int .i64, .int .i64]⟩,
  ⟨.func, 1, 8, .nilfn, [.other]⟩,
  ⟨.func, 1, 8, .nilfn, [.other]⟩,
  ⟨.arr 7 9, 7, 112, (.agg [(.str []), (.str []), (.str []), (.str []), (.str []), (.str []), (.str [])]), [.str, .str, .str, .str, .str, .str, .str]⟩,
  ⟨.func, 1, 8, .nilfn, [.other]⟩,
  ⟨.func, 1, 8, .nilfn, [.other]⟩,
  ⟨.slice 9, 1, 24, .sl0, [.slice 1]⟩,
  ⟨.slice 5, 1, 24, .sl0, [.slice 1]⟩,
  ⟨.func, 1, 8, .nilfn, [.other]⟩,
  ⟨.func, 1, 8, .nilfn, [.other]⟩,
  ⟨.func, 1, 8, .nilfn, [.other]⟩,
  ⟨.arr 13 2, 13, 104, (.agg [(.int .i64 0), (.int .i64 0), (.int .i64 0), (.int .i64 0), (.int .i64 0), (.int .i64 0), (.int .i64 0), (.int .i64 0), (.int .i64 0), (.int .i64 0), (.int .i64 0), (.int .i64 0), (.int .i64 0)]), [.int .i64, .int .i64, .int .i64, .int .i64, .int .i64, .int .i64, .int .i64, .int .i64, .int .i64, .int .i64, .int .i64, .int .i64, .int .i64]⟩,
  ⟨.func, 1, 8, .nilfn, [.other]⟩,
  ⟨.int .u64, 1, 8, (.int .u64 0), [.int .u64]⟩,
  ⟨.func, 1, 8, .nilfn, [.other]⟩,
  ⟨.func, 1, 8, .nilfn, [.other]⟩,
  ⟨.func, 1, 8, .nilfn, [.other]⟩,
  ⟨.tuple [2, 2], 1, 0, .undef, [.other]⟩,
  ⟨.func, 1, 8, .nilfn, [.other]⟩,
  ⟨.arr 20 5, 20, 20, (.agg [(.int .u8 0), (.int .u8 0), (.int .u8 0), (.int .u8 0), (.int .u8 0), (.int .u8 0), (.int .u8 0), (.int .u8 0), (.int .u8 0), (.int .u8 0), (.int .u8 0), (.int .u8 0), (.int .u8 0), (.int .u8 0), (.int .u8 0), (.int .u8 0), (.int .u8 0), (.int .u8 0), (.int .u8 0), (.int .u8 0)]), [.int .u8, .int .u8, .int .u8, .int .u8, .int .u8, .int .u8, .int .u8, .int .u8, .int .u8, .int .u8, .int .u8, .int .u8, .int .u8, .int .u8, .int .u8, .int .u8, .int .u8, .int .u8, .int .u8, .int .u8]⟩,
  ⟨.func, 1, 8, .nilfn, [.other]⟩,
  ⟨.func, 1, 8, .nilfn, [.other]⟩,
  ⟨.func, 1, 8, .nilfn, [.other]⟩,
  ⟨.func, 1, 8, .nilfn, [.other]⟩,
  ⟨.func, 1, 8, .nilfn, [.other]⟩,
  ⟨.func, 1, 8, .nilfn, [.other]⟩,
  ⟨.arr 2 88, 2, 16, (.agg [(.int .u64 0), (.int .u64 0)]), [.int .u64, .int .u64]⟩,
  ⟨.func, 1, 8, .nilfn, [.other]⟩,
  ⟨.func, 1, 8, .nilfn, [.other]⟩,
  ⟨.tuple [21, 3], 1, 0, .undef, [.other]⟩,
  ⟨.func, 1, 8, .nilfn, [.other]⟩,
  ⟨.tuple [88, 88], 1, 0, .undef, [.other]⟩,
  ⟨.func, 1, 8, .nilfn, [.other]⟩,
  ⟨.func, 1, 8, .nilfn, [.other]⟩,
  ⟨.func, 1, 8, .nilfn, [.other]⟩,
  ⟨.int .u64, 1, 8, (.int .u64 0), [.int .u64]⟩,
  ⟨.arr 256 5, 256, 256, (.agg [(.int .u8 0), (.int .u8 0), (.int .u8 0), (.int .u8 0), (.int .u8 0), (.int .u8 0), (.int .u8 0), (.int .u8 0), (.int .u8 0), (.int .u8 0), (.int .u8 0), (.int .u8 0), (.int .u8 0), (.int .u8 0), (.int .u8 0), (.int .u8 0), (.int .u8 0), (.int .u8 0), (.int .u8 0), (.int .u8 0), (.int .u8 0), (.int .u8 0), (.int .u8 0), (.int .u8 0), (.int .u8 0), (.int .u8 0), (.int .u8 0), (.int .u8 0), (.int .u8 0), (.int .u8 0), (.int .u8 0), (.int .u8 0), (.int .u8 0), (.int .u8 0), (.int .u8 0), (.int .u8 0), (.int .u8 0), (.int .u8 0), (.int .u8 0), (.int .u8 0), (.int .u8 0), (.int .u8 0), (.int .u8 0), (.int .u8 0), (.int .u8 0), (.int .u8 0), (.int .u8 0), (.int .u8 0), (.int .u8 0), (.int .u8 0), (.int .u8 0), (.int .u8 0), (.int .u8 0), (.int .u8 0), (.int .u8 0), (.int .u8 0), (.int .u8 0), (.int .u8 0), (.int .u8 0), (.int .u8 0), (.int .u8 0), (.int .u8 0), (.int .u8 0), (.int .u8 0), (.int .u8 0), (.int .u8 0), (.int .u8 0), (.int .u8 0), (.int .u8 0), (.int .u8 0), (.int .u8 0), (.int .u8 0), (.int .u8 0), (.int .u8 0), (.int .u8 0), (.int .u8 0), (.int .u8 0), (.int .u8 0), (.int .u8 0), (.int .u8 0), (.int .u8 0), (.int .u8 0), (.int .u8 0), (.int .u8 0), (.int .u8 0), (.int .u8 0), (.int .u8 0), (.int .u8 0), (.int .u8 0), (.int .u8 0), (.int .u8 0), (.int .u8 0), (.int .u8 0), (.int .u8 0), (.int .u8 0), (.int .u8 0), (.int .u8 0), (.int .u8 0), (.int .u8 0), (.int .u8 0), (.int .u8 0), (.int .u8 0), (.int .u8 0), (.int .u8 0), (.int .u8 0), (.int .u8 0), (.int .u8 0), (.int .u8 0), (.int .u8 0), (.int .u8 0), (.int .u8 0), (.int .u8 0), (.int .u8 0), (.int .u8 0), (.int .u8 0), (.int .u8 0), (.int .u8 0), (.int .u8 0), (.int .u8 0), (.int .u8 0), (.int .u8 0), (.int .u8 0), (.int .u8 0), (.int .u8 0), (.int .u8 0), (.int .u8 0), (.int .u8 0), (.int .u8 0), (.int .u8 0), (.int .u8 0), (.int .u8 0), (.int .u8 0), (.int .u8 0), (.int .u8 0), (.int .u8 0), (.int .u8 0), (.int .u8 0), (.int .u8 0), (.int .u8 0), (.int .u8 0), (.int .u8 0), (.int .u8 0), (.int .u8 0), (.int .u8 0), (.int .u8 0), (.int .u8 0), (.int .u8 0), (.int .u8 0), (.int .u8 0), (.int .u8 0), (.int .u8 0), (.int .u8 0), (.int .u8 0), (.int .u8 0), (.int .u8 0), (.int .u8 0), (.int .u8 0), (.int .u8 0), (.int .u8 0), (.int .u8 0), (.int .u8 0), (.int .u8 0), (.int .u8 0), (.int .u8 0), (.int .u8 0), (.int .u8 0), (.int .u8 0), (.int .u8 0), (.int .u8 0), (.int .u8 0), (.int .u8 0), (.int .u8 0), (.int .u8 0), (.int .u8 0), (.int .u8 0), (.int .u8 0), (.int .u8 0), (.int .u8 0), (.int .u8 0), (.int .u8 0), (.int .u8 0), (.int .u8 0), (.int .u8 0), (.int .u8 0), (.int .u8 0), (.int .u8 0), (.int .u8 0), (.int .u8 0), (.int .u8 0), (.int .u8 0), (.int .u8 0), (.int .u8 0), (.int .u8 0), (.int .u8 0), (.int .u8 0), (.int .u8 0), (.int .u8 0), (.int .u8 0), (.int .u8 0), (.int .u8 0), (.int .u8 0), (.int .u8 0), (.int .u8 0), (.int .u8 0), (.int .u8 0), (.int .u8 0), (.int .u8 0), (.int .u8 0), (.int .u8 0), (.int .u8 0), (.int .u8 0), (.int .u8 0), (.int .u8 0), (.int .u8 0), (.int .u8 0), (.int .u8 0), (.int .u8 0), (.int .u8 0), (.int .u8 0), (.int .u8 0), (.int .u8 0), (.int .u8 0), (.int .u8 0), (.int .u8 0), (.int .u8 0), (.int .u8 0), (.int .u8 0), (.int .u8 0), (.int .u8 0), (.int .u8 0), (.int .u8 0), (.int .u8 0), (.int .u8 0), (.int .u8 0), (.int .u8 0), (.int .u8 0), (.int .u8 0), (.int .u8 0), (.int .u8 0), (.int .u8 0), (.int .u8 0), (.int .u8 0), (.int .u8 0), (.int .u8 0), (.int .u8 0), (.int .u8 0), (.int .u8 0), (.int .u8 0), (.int .u8 0), (.int .u8 0), (.int .u8 0), (.int .u8 0), (.int .u8 0), (.int .u8 0), (.int .u8 0), (.int .u8 0)]), [.int .u8, .int .u8, .int .u8, .int .u8, .int .u8, .int .u8, .int .u8, .int .u8, .int .u8, .int .u8, .int .u8, .int .u8, .int .u8, .int .u8, .int .u8, .int .u8, .int .u8, .int .u8, .int .u8, .int .u8, .int .u8, .int .u8, .int .u8, .int .u8, .int .u8, .int .u8, .int .u8, .int .u8, .int .u8, .int .u8, .int .u8, .int .u8, .int .u8, .int .u8, .int .u8, .int .u8, .int .u8, .int .u8, .int .u8, .int .u8, .int .u8, .int .u8, .int .u8, .int .u8, .int .u8, .int .u8, .int .u8, .int .u8, .int .u8, .int .u8, .int .u8, .int .u8, .int .u8, .int .u8, .int .u8, .int .u8, .int .u8, .int .u8, .int .u8, .int .u8, .int .u8, .int .u8, .int .u8, .int .u8, .int .u8, .int .u8, .int .u8, .int .u8, .int .u8, .int .u8, .int .u8, .int .u8, .int .u8, .int .u8, .int .u8, .int .u8, .int .u8, .int .u8, .int .u8, .int .u8, .int .u8, .int .u8, .int .u8, .int .u8, .int .u8, .int .u8, .int .u8, .int .u8, .int .u8, .int .u8, .int .u8, .int .u8, .int .u8, .int .u8, .int .u8, .int .u8, .int .u8, .int .u8, .int .u8, .int .u8, .int .u8, .int .u8, .int .u8, .int .u8, .int .u8, .int .u8, .int .u8, .int .u8, .int .u8, .int .u8, .int .u8, .int .u8, .int .u8, .int .u8, .int .u8, .int .u8, .int .u8, .int .u8, .int .u8, .int .u8, .int .u8, .int .u8, .int .u8, .int .u8, .int .u8, .int .u8, .int .u8, .int .u8, .int .u8, .int .u8, .int .u8, .int .u8, .int .u8, .int .u8, .int .u8, .int .u8, .int .u8, .int .u8, .int .u8, .int .u8, .int .u8, .int .u8, .int .u8, .int .u8, .int .u8, .int .u8, .int .u8, .int .u8, .int .u8, .int .u8, .int .u8, .int .u8, .int .u8, .int .u8, .int .u8, .int .u8, .int .u8, .int .u8, .int .u8, .int .u8, .int .u8, .int .u8, .int .u8, .int .u8, .int .u8, .int .u8, .int .u8, .int .u8, .int .u8, .int .u8, .int .u8, .int .u8, .int .u8, .int .u8, .int .u8, .int .u8, .int .u8, .int .u8, .int .u8, .int .u8, .int .u8, .int .u8, .int .u8, .int .u8, .int .u8, .int .u8, .int .u8, .int .u8, .int .u8, .int .u8, .int .u8, .int .u8, .int .u8, .int .u8, .int .u8, .int .u8, .int .u8, .int .u8, .int .u8, .int .u8, .int .u8, .int .u8, .int .u8, .int .u8, .int .u8, .int .u8, .int .u8, .int .u8, .int .u8, .int .u8, .int .u8, .int .u8, .int .u8, .int .u8, .int .u8, .int .u8, .int .u8, .int .u8, .int .u8, .int .u8, .int .u8, .int .u8, .int .u8, .int .u8, .int .u8, .int .u8, .int .u8, .int .u8, .int .u8, .int .u8, .int .u8, .int .u8, .int .u8, .int .u8, .int .u8, .int .u8, .int .u8, .int .u8, .int .u8, .int .u8, .int .u8, .int .u8, .int .u8, .int .u8, .int .u8, .int .u8, .int .u8, .int .u8, .int .u8, .int .u8, .int .u8, .int .u8, .int .u8, .int .u8, .int .u8, .int .u8]⟩,
  ⟨.struct [(0, 5), (1, 5)], 2, 2, (.agg [(.int .u8 0), (.int .u8 0)]), [.int .u8, .int .u8]⟩,
  ⟨.struct [(0, 5), (1, 5)], 2, 2, (.agg [(.int .u8 0), (.int .u8 0)]), [.int .u8, .int .u8]⟩,
  ⟨.arr 16 113, 32, 32, (.agg [(.int .u8 0), (.int .u8 0), (.int .u8 0), (.int .u8 0), (.int .u8 0), (.int .u8 0), (.int .u8 0), (.int .u8 0), (.int .u8 0), (.int .u8 0), (.int .u8 0), (.int .u8 0), (.int .u8 0), (.int .u8 0), (.int .u8 0), (.int .u8 0), (.int .u8 0), (.int .u8 0), (.int .u8 0), (.int .u8 0), (.int .u8 0), (.int .u8 0), (.int .u8 0), (.int .u8 0), (.int .u8 0), (.int .u8 0), (.int .u8 0), (.int .u8 0), (.int .u8 0), (.int .u8 0), (.int .u8 0), (.int .u8 0)]), [.int .u8, .int .u8, .int .u8, .int .u8, .int .u8, .int .u8, .int .u8, .int .u8, .int .u8, .int .u8, .int .u8, .int .u8, .int .u8, .int .u8, .int .u8, .int .u8, .int .u8, .int .u8, .int .u8, .int .u8, .int .u8, .int .u8, .int .u8, .int .u8, .int .u8, .int .u8, .int .u8, .int .u8, .int .u8, .int .u8, .int .u8, .int .u8]⟩,
  ⟨.int .u32, 1, 4, (.int .u32 0), [.int .u32]⟩,
  ⟨.tuple [115, 115], 1, 0, .undef, [.other]⟩,
  ⟨.func, 1, 8, .nilfn, [.other]⟩,
  ⟨.func, 1, 8, .nilfn, [.other]⟩,
  ⟨.struct [(0, 17), (1, 17), (2, 17), (3, 9)], 4, 40, (.agg [.nilp, .nilp, .nilp, (.str [])]), [.other, .other, .other, .str]⟩,
  ⟨.struct [(0, 17), (1, 17), (2, 17), (3, 9)], 4, 40, (.agg [.nilp, .nilp, .nilp, (.str [])]), [.other, .other, .other, .str]⟩,
  ⟨.arr 0 16, 0, 0, (.agg []), []⟩,
  ⟨.struct [(0, 121)], 0, 0, (.agg []), []⟩,
  ⟨.struct [(0, 121)], 0, 0, (.agg []), []⟩,
  ⟨.func, 1, 8, .nilfn, [.other]⟩,
  ⟨.int .u8, 1, 1, (.int .u8 0), [.int .u8]⟩,
  ⟨.int .u8, 1, 1, (.int .u8 0), [.int .u8]⟩,
  ⟨.func, 1, 8, .nilfn, [.other]⟩,
  ⟨.ptr 5, 1, 8, .nilp, [.other]⟩,
  ⟨.int .i32, 1, 4, (.int .i32 0), [.int .i32]⟩,
  ⟨.int .i32, 1, 4, (.int .i32 0), [.int .i32]⟩,
  ⟨.struct [(0, 12), (1, 12), (2, 115), (3, 125), (4, 5), (5, 5), (6, 126), (7, 127), (8, 128), (9, 129), (10, 130)], 11, 48, (.agg [(.int .u64 0), (.int .u64 0), (.int .u32 0), (.int .u8 0), (.int .u8 0), (.int .u8 0), (.int .u8 0), .nilfn, .nilp, (.int .i32 0), (.int .i32 0)]), [.int .u64, .int .u64, .int .u32, .int .u8, .int .u8, .int .u8, .int .u8, .other, .other, .int .i32, .int .i32]⟩,
  ⟨.struct [(0, 12), (1, 12), (2, 115), (3, 125), (4, 5), (5, 5), (6, 126), (7, 127), (8, 128), (9, 129), (10, 130)], 11, 48, (.agg [(.int .u64 0), (.int .u64 0), (.int .u32 0), (.int .u8 0), (.int .u8 0), (.int .u8 0), (.int .u8 0), .nilfn, .nilp, (.int .i32 0), (.int .i32 0)]), [.int .u64, .int .u64, .int .u32, .int .u8, .int .u8, .int .u8, .int .u8, .other, .other, .int .i32, .int .i32]⟩,
  ⟨.other, 1, 8, .undef, [.other]⟩]
abbrev ty_LJ : Nat := 0
abbrev ty_funcLJ : Nat := 1
abbrev ty_int64 : Nat := 2
abbrev ty_int : Nat := 3
abbrev ty_bool : Nat := 4
abbrev ty_uint8 : Nat := 5
abbrev ty_abi_BoundsErrorCode : Nat := 6
abbrev ty_struct_x_int64_y_int_signed__763d8d : Nat := 7
abbrev ty_runtime_boundsError : Nat := 8
abbrev ty_string : Nat := 9
abbrev ty_runtime_errorString : Nat := 10
abbrev ty_runtime_plainError : Nat := 11
abbrev ty_uintptr : Nat := 12
abbrev ty_struct_msg_string_addr_uintptr_ : Nat := 13
abbrev ty_runtime_errorAddressString : Nat := 14
abbrev ty_P_runtime_TypeAssertionError : Nat := 15
abbrev ty_P_runtime_PanicNilError : Nat := 16
abbrev ty_P_abi_Type : Nat := 17
abbrev ty_struct_typ_P_abi_Type_ : Nat := 18
abbrev ty_maps_unhashableTypeError : Nat := 19
abbrev ty_interface_ : Nat := 20
abbrev ty_int32 : Nat := 21
abbrev ty_struct_Kind_int_Wd_int64_N_int64_ : Nat := 22
abbrev ty_when_On : Nat := 23
abbrev ty_api_Errno : Nat := 24
abbrev ty_Lwhen_On_api_ErrnoJ : Nat := 25
abbrev ty_funcLstringJ_Lwhen_On_api_ErrnoJ : Nat := 26
abbrev ty_computusref07_On : Nat := 27
abbrev ty_Lcomputusref07_On_api_ErrnoJ : Nat := 28
abbrev ty_funcLstringJ_Lcomputusref07__112b8b : Nat := 29
abbrev ty_struct_Sec_int64_Kind_uint8_ : Nat := 30
abbrev ty_when_At : Nat := 31
abbrev ty_Lwhen_At_api_ErrnoJ : Nat := 32
abbrev ty_funcLstringJ_Lwhen_At_api_ErrnoJ : Nat := 33
abbrev ty_computusref07_At : Nat := 34
abbrev ty_Lcomputusref07_At_api_ErrnoJ : Nat := 35
abbrev ty_funcLstringJ_Lcomputusref07__e0c7b7 : Nat := 36
abbrev ty_Lint64_api_ErrnoJ : Nat := 37
abbrev ty_funcLstringJ_Lint64_api_ErrnoJ : Nat := 38
abbrev ty_funcLwhen_OnJ_computusref07_On : Nat := 39
abbrev ty_funcLJ_bool : Nat := 40
abbrev ty_funcLstringJ_bool : Nat := 41
abbrev ty_funcLint64_int64_when_OnJ_Li_8cc633 : Nat := 42
abbrev ty_funcLcomputusref07_OnJ_when_On : Nat := 43
abbrev ty_funcLint64_int64_computusref_ac0d0d : Nat := 44
abbrev ty_funcLint64_int64_computusref_d0d8d2 : Nat := 45
abbrev ty_funcLint64_int64_int64J_Lint_f59986 : Nat := 46
abbrev ty_funcLint64_int64J_int64 : Nat := 47
abbrev ty_funcLint64J_int64 : Nat := 48
abbrev ty_Lstring_api_ErrnoJ : Nat := 49
abbrev ty_funcLwhen_OnJ_Lstring_api_ErrnoJ : Nat := 50
abbrev ty_funcLcomputusref07_OnJ_Lstri_7d6b77 : Nat := 51
abbrev ty_funcLwhen_AtJ_Lstring_api_ErrnoJ : Nat := 52
abbrev ty_funcLcomputusref07_AtJ_Lstri_254ecb : Nat := 53
abbrev ty_funcLcomputusref07_On_comput_fa42ff : Nat := 54
abbrev ty_funcLstring_stringJ_bool : Nat := 55
abbrev ty_Lwhen_On_boolJ : Nat := 56
abbrev ty_funcLint_string_stringJ_Lwhe_286e9d : Nat := 57
abbrev ty_funcLstring_uint8J_int : Nat := 58
abbrev ty_funcLstringJ_int64 : Nat := 59
abbrev ty_funcLcomputusref07_OnJ_bool : Nat := 60
abbrev ty_Lint64_boolJ : Nat := 61
abbrev ty_funcLstringJ_Lint64_boolJ : Nat := 62
abbrev ty_funcLcomputusref07_AtJ_bool : Nat := 63
abbrev ty_Lstring_boolJ : Nat := 64
abbrev ty_funcLstring_stringJ_Lstring_boolJ : Nat := 65
abbrev ty_interface_when_rightLJ_bool_ : Nat := 66
abbrev ty_when_form : Nat := 67
abbrev ty_funcLJ_when_form : Nat := 68
abbrev ty_when_fixed : Nat := 69
abbrev ty_Lwhen_fixed_boolJ : Nat := 70
abbrev ty_when_final : Nat := 71
abbrev ty_Lwhen_final_boolJ : Nat := 72
abbrev ty_funcLint64_int64_int64J_int64 : Nat := 73
abbrev ty_struct_wd_int64_n_int64_step_int64_ : Nat := 74
abbrev ty_when_near : Nat := 75
abbrev ty_funcLint64_int64_int64J_bool : Nat := 76
abbrev ty_funcLint64J_bool : Nat := 77
abbrev ty_A7_string : Nat := 78
abbrev ty_funcLstring_stringJ_string : Nat := 79
abbrev ty_funcLint64J_string : Nat := 80
abbrev ty_S_string : Nat := 81
abbrev ty_S_uint8 : Nat := 82
abbrev ty_funcLstringJ_string : Nat := 83
abbrev ty_funcLstring_S_stringJ_int : Nat := 84
abbrev ty_funcLstring_stringJ_S_string : Nat := 85
abbrev ty_A13_int64 : Nat := 86
abbrev ty_funcLuint64_intJ_string : Nat := 87
abbrev ty_uint64 : Nat := 88
abbrev ty_funcLint64J_Lint64_api_ErrnoJ : Nat := 89
abbrev ty_funcLuint8J_bool : Nat := 90
abbrev ty_funcLstring_string_int_intJ_S_string : Nat := 91
abbrev ty_Lint64_int64J : Nat := 92
abbrev ty_funcLint64_int64J_Lint64_int64J : Nat := 93
abbrev ty_A20_uint8 : Nat := 94
abbrev ty_funcLint64_int64J_Lint64_api_ErrnoJ : Nat := 95
abbrev ty_funcLS_string_funcLstringJ_boolJ_int : Nat := 96
abbrev ty_funcLint32J_int : Nat := 97
abbrev ty_funcLstring_intJ_S_string : Nat := 98
abbrev ty_funcLstring_stringJ_int : Nat := 99
abbrev ty_funcLbool_A2_uint64J_Lint64__e26459 : Nat := 100
abbrev ty_A2_uint64 : Nat := 101
abbrev ty_funcLint64_int64J_A2_uint64 : Nat := 102
abbrev ty_funcLstringJ_int : Nat := 103
abbrev ty_Lint32_intJ : Nat := 104
abbrev ty_funcLstringJ_Lint32_intJ : Nat := 105
abbrev ty_Luint64_uint64J : Nat := 106
abbrev ty_funcLuint64_uint64J_Luint64_uint64J : Nat := 107
abbrev ty_funcLint64J_uint64 : Nat := 108
abbrev ty_funcLintJ_int : Nat := 109
abbrev ty_uint : Nat := 110
abbrev ty_A256_uint8 : Nat := 111
abbrev ty_struct_lo_uint8_hi_uint8_ : Nat := 112
abbrev ty_utf8_acceptRange : Nat := 113
abbrev ty_A16_utf8_acceptRange : Nat := 114
abbrev ty_uint32 : Nat := 115
abbrev ty_Luint32_uint32J : Nat := 116
abbrev ty_funcLstringJ_Luint32_uint32J : Nat := 117
abbrev ty_funcLJ_string : Nat := 118
abbrev ty_struct__interface_P_abi_Type_35d589 : Nat := 119
abbrev ty_runtime_TypeAssertionError : Nat := 120
abbrev ty_A0_P_runtime_PanicNilError : Nat := 121
abbrev ty_struct___A0_P_runtime_PanicNilError_ : Nat := 122
abbrev ty_runtime_PanicNilError : Nat := 123
abbrev ty_funcLJ_int : Nat := 124
abbrev ty_abi_TFlag : Nat := 125
abbrev ty_abi_Kind : Nat := 126
abbrev ty_funcLunsafe_Pointer_unsafe_P_727316 : Nat := 127
abbrev ty_P_uint8 : Nat := 128
abbrev ty_abi_NameOff : Nat := 129
abbrev ty_abi_TypeOff : Nat := 130
abbrev ty_struct_Size__uintptr_PtrByte_72b795 : Nat := 131
abbrev ty_abi_Type : Nat := 132
abbrev ty_unsafe_Pointer : Nat := 133
abbrev fn_main_main : Nat := 0
abbrev fn_computuslaw07_WhenReads : Nat := 3
abbrev fn_computuslaw07_WhenDays : Nat := 4
abbrev fn_computuslaw07_WhenNear : Nat := 5
abbrev fn_computuslaw07_WhenWeek : Nat := 6
abbrev fn_computuslaw07_WhenTexts : Nat := 7
abbrev fn_when_ReadOn : Nat := 8
abbrev fn_computusref07_ReadOn : Nat := 9
abbrev fn_when_ReadAt : Nat := 10
abbrev fn_computusref07_ReadAt : Nat := 11
abbrev fn_when_ReadSave : Nat := 12
abbrev fn_computusref07_ReadSave : Nat := 13
abbrev fn_computuslaw07_taken : Nat := 14
abbrev fn_computuslaw07_known : Nat := 15
abbrev fn_when_Day : Nat := 16
abbrev fn_computuslaw07_given : Nat := 17
abbrev fn_computusref07_Day : Nat := 18
abbrev fn_computusref02_Days : Nat := 19
abbrev fn_computusref02_Len : Nat := 20
abbrev fn_computusref02_Weekday : Nat := 21
abbrev fn_when_TextOn : Nat := 22
abbrev fn_computusref07_TextOn : Nat := 23
abbrev fn_when_TextAt : Nat := 24
abbrev fn_computusref07_TextAt : Nat := 25
abbrev fn_word_Same : Nat := 26
abbrev fn_when_onOf : Nat := 27
abbrev fn_strings_IndexByte : Nat := 28
abbrev fn_when_pair : Nat := 29
abbrev fn_computusref07_short : Nat := 30
abbrev fn_computusref05_Same : Nat := 31
abbrev fn_computusref05_Day : Nat := 32
abbrev fn_computusref07_RightOn : Nat := 33
abbrev fn_when_seconds : Nat := 34
abbrev fn_when_At_right : Nat := 35
abbrev fn_computusref07_sec : Nat := 36
abbrev fn_computusref07_RightAt : Nat := 37
abbrev fn_strings_CutPrefix : Nat := 38
abbrev fn_when_On_form : Nat := 39
abbrev fn_civil_Days : Nat := 40
abbrev fn_when_to : Nat := 41
abbrev fn_civil_Len : Nat := 42
abbrev fn_computusref02_Right : Nat := 43
abbrev fn_computusref02_day : Nat := 44
abbrev fn_computusref02_Leap : Nat := 45
abbrev fn_computusref02_mod : Nat := 46
abbrev fn_strings_TrimPrefix : Nat := 47
abbrev fn_clock_Two : Nat := 48
abbrev fn_computusref03_Digits : Nat := 49
abbrev fn_computusref03_Two : Nat := 50
abbrev fn_word_Lower : Nat := 51
abbrev fn_word_Day : Nat := 52
abbrev fn_when_short : Nat := 53
abbrev fn_stringslite_IndexByte : Nat := 54
abbrev fn_computusref05_Number : Nat := 55
abbrev fn_computusref05_Lower : Nat := 56
abbrev fn_computusref05_Short : Nat := 57
abbrev fn_strings_Split : Nat := 58
abbrev fn_stringslite_CutPrefix : Nat := 59
abbrev fn_civil_Right : Nat := 60
abbrev fn_civil_day : Nat := 61
abbrev fn_civil_Weekday : Nat := 62
abbrev fn_civil_Leap : Nat := 63
abbrev fn_computusref02_start : Nat := 64
abbrev fn_stringslite_TrimPrefix : Nat := 65
abbrev fn_clock_digits : Nat := 66
abbrev fn_num_Neg : Nat := 67
abbrev fn_word_Short : Nat := 68
abbrev fn_word_Number : Nat := 69
abbrev fn_bytealg_IndexByteString : Nat := 70
abbrev fn_computusref05_digit : Nat := 71
abbrev fn_strings_genSplit : Nat := 72
abbrev fn_stringslite_HasPrefix : Nat := 73
abbrev fn_civil_floor : Nat := 74
abbrev fn_computusref02_div : Nat := 75
abbrev fn_num_Sub : Nat := 76
abbrev fn_slices_IndexFunc_string_string : Nat := 77
abbrev fn_word_Short_1 : Nat := 78
abbrev fn_word_kind : Nat := 79
abbrev fn_num_Mul : Nat := 80
abbrev fn_num_Add : Nat := 81
abbrev fn_strings_explode : Nat := 82
abbrev fn_strings_Count : Nat := 83
abbrev fn_strings_Index : Nat := 84
abbrev fn_num_signed : Nat := 85
abbrev fn_num_product : Nat := 86
abbrev fn_utf8_RuneCountInString : Nat := 87
abbrev fn_utf8_DecodeRuneInString : Nat := 88
abbrev fn_bytealg_CountString : Nat := 89
abbrev fn_stringslite_Index : Nat := 90
abbrev fn_bits_Mul64 : Nat := 91
abbrev fn_num_size : Nat := 92
abbrev fn_utf8_decodeRuneInStringSlow : Nat := 93
abbrev fn_bytealg_IndexString : Nat := 94
abbrev fn_bytealg_Cutover : Nat := 95
abbrev fn_bytealg_IndexRabinKarp_string : Nat := 96
abbrev fn_bytealg_hashStr_string : Nat := 97
abbrev fn_runtime_boundsError_Error : Nat := 98
abbrev fn_runtime_boundsError_RuntimeError : Nat := 99
abbrev fn_runtime_errorString_Error : Nat := 100
abbrev fn_runtime_errorString_RuntimeError : Nat := 101
abbrev fn_runtime_plainError_Error : Nat := 102
abbrev fn_runtime_plainError_RuntimeError : Nat := 103
abbrev fn_runtime_errorAddressString_Error : Nat := 104
abbrev fn_runtime_errorAddressString_RuntimeError : Nat := 105
abbrev fn_runtime_TypeAssertionError_Error : Nat := 106
abbrev fn_runtime_TypeAssertionError_RuntimeError : Nat := 107
abbrev fn_runtime_PanicNilError_Error : Nat := 108
abbrev fn_runtime_PanicNilError_RuntimeError : Nat := 109
abbrev fn_abi_Type_Align : Nat := 110
abbrev fn_maps_unhashableTypeError_Error : Nat := 111
abbrev fn_maps_unhashableTypeError_RuntimeError : Nat := 112
abbrev fn_when_fixed_right : Nat := 113
abbrev fn_when_day : Nat := 114
abbrev fn_when_final_right : Nat := 115
abbrev fn_when_weekday : Nat := 116
abbrev fn_when_near_right : Nat := 117
abbrev fn_abi_Kind_String : Nat := 118
def ann : List (Nat × List ((List Nat × Nat) × Dir)) := [
  (6, [(([6], 3), ⟨[], [], []⟩), (([6], 4), ⟨[0, 1, 5, 7], [], []⟩), (([6], 9), ⟨[], [], []⟩), (([6], 10), ⟨[0, 1, 5, 7, 9], [], []⟩), (([6], 12), ⟨[], [], []⟩), (([6], 13), ⟨[0, 1, 7, 9], [], []⟩)]),
  (7, [(([7], 6), ⟨[], [], []⟩), (([7], 7), ⟨[2, 3, 7, 8, 11, 12], [], []⟩), (([7], 10), ⟨[], [], []⟩), (([7], 11), ⟨[3, 11, 12], [], []⟩)]),
  (8, [(([8], 4), ⟨[0, 2, 4], [], []⟩), (([8], 5), ⟨[0, 2, 4], [], []⟩), (([8], 7), ⟨[0, 2, 4, 6], [], []⟩), (([8], 8), ⟨[0, 2, 4, 6], [], []⟩), (([8], 9), ⟨[0, 2, 4, 6], [], []⟩), (([8], 10), ⟨[0, 2, 4], [], []⟩)]),
  (9, [(([9], 5), ⟨[0, 2, 4], [], []⟩), (([9], 6), ⟨[0, 2, 4], [], []⟩), (([9], 7), ⟨[0, 2, 4, 5], [], []⟩), (([9], 10), ⟨[0, 2, 4, 5], [], []⟩), (([9], 8), ⟨[0, 2, 4, 5], [], []⟩), (([9], 13), ⟨[2, 4], [], []⟩)]),
  (10, [(([10], 5), ⟨[0, 2, 4, 14], [], []⟩), (([10], 11), ⟨[0, 2, 4, 5, 6, 14, 24], [], []⟩), (([10], 14), ⟨[0, 2, 4, 5, 14], [], []⟩), (([10], 15), ⟨[0, 2, 4, 5, 6, 14], [], []⟩)]),
  (11, [(([11], 7), ⟨[0, 2, 4, 5], [], []⟩), (([11], 9), ⟨[0, 2, 4], [], []⟩), (([11], 10), ⟨[0, 2, 4], [], []⟩), (([11], 11), ⟨[0, 2, 4], [], []⟩)]),
  (12, [(([12], 7), ⟨[5, 6], [], []⟩)]),
  (13, [(([13], 4), ⟨[0, 4], [], []⟩), (([13], 6), ⟨[0, 4], [], []⟩), (([13], 8), ⟨[], [], []⟩)]),
  (16, [(([16], 3), ⟨[], [], []⟩), (([16], 4), ⟨[0, 1, 8], [], []⟩), (([16], 5), ⟨[], [], []⟩), (([16], 6), ⟨[0, 1, 8], [], []⟩)]),
  (18, [(([18], 2), ⟨[], [], []⟩), (([18], 3), ⟨[0, 1, 5], [], []⟩), (([18], 4), ⟨[], [], []⟩), (([18], 5), ⟨[0, 1, 5], [], []⟩), (([18], 9), ⟨[5, 10], [], []⟩), (([18], 10), ⟨[5, 10, 11], [], []⟩), (([18], 12), ⟨[5, 10, 11], [], []⟩)]),
  (20, [(([20], 10), ⟨[0, 5], [], []⟩), (([20], 15), ⟨[0, 5], [], []⟩)]),
  (24, [(([24], 6), ⟨[1, 4], [], []⟩), (([24], 8), ⟨[1, 4], [], []⟩)]),
  (25, [(([25], 6), ⟨[1, 4], [], []⟩)]),
  (27, [(([27], 5), ⟨[2, 6, 8, 9], [], []⟩)]),
  (30, [(([30], 2), ⟨[], [], []⟩), (([30], 3), ⟨[0], [], []⟩)]),
  (33, [(([33], 2), ⟨[1, 3], [], []⟩), (([33], 3), ⟨[1, 3, 4], [], []⟩)]),
  (34, [(([34], 6), ⟨[4, 5, 6, 7, 24, 25, 26], [], []⟩), (([34], 10), ⟨[4, 5, 6, 7, 10, 24, 25, 26], [], []⟩)]),
  (36, [(([36], 3), ⟨[0, 3, 4], [], [(3, 1)]⟩), (([36], 4), ⟨[0, 3, 4], [], []⟩), (([36], 10), ⟨[], [], []⟩), (([36], 11), ⟨[3, 5], [], []⟩), (([36], 13), ⟨[3, 5, 6], [], []⟩), (([36], 17), ⟨[], [], []⟩), (([36], 18), ⟨[3, 5, 6, 7], [], []⟩)]),
  (39, [(([39], 4), ⟨[1], [], []⟩), (([39], 5), ⟨[1], [], []⟩), (([39], 6), ⟨[1], [], []⟩), (([39], 7), ⟨[1], [], []⟩)]),
  (41, [(([41], 1), ⟨[0, 1, 2], [], []⟩)]),
  (42, [(([42], 3), ⟨[], [], []⟩), (([42], 4), ⟨[0, 1, 5], [], []⟩)]),
  (44, [(([44], 3), ⟨[0, 1, 7, 8], [], []⟩)]),
  (49, [(([49], 4), ⟨[0, 3], [], []⟩), (([49], 5), ⟨[0, 3, 4], [], [(4, 1)]⟩), (([49], 11), ⟨[4], [], []⟩), (([49], 13), ⟨[4, 5, 6], [], [(5, 1)]⟩)]),
  (50, [(([50], 2), ⟨[0], [], []⟩), (([50], 3), ⟨[0], [], []⟩)]),
  (51, [(([51], 3), ⟨[3, 8, 9, 10], [], []⟩)]),
  (55, [(([55], 4), ⟨[0, 4, 5, 6], [], []⟩), (([55], 10), ⟨[0, 4, 6, 7], [], []⟩), (([55], 11), ⟨[0, 4, 5, 6, 7], [], []⟩), (([55], 5), ⟨[0, 4, 5, 6], [], []⟩)]),
  (56, [(([56], 3), ⟨[0, 3, 4], [], [(3, 1)]⟩), (([56], 7), ⟨[0, 3, 4, 5], [], []⟩)]),
  (57, [(([57], 2), ⟨[0, 1, 5], [], []⟩), (([57], 4), ⟨[0, 1, 5], [], []⟩)]),
  (61, [(([61], 3), ⟨[0, 1, 2], [], []⟩)]),
  (64, [(([64], 3), ⟨[0, 3, 4], [], []⟩)]),
  (66, [(([66], 3), ⟨[0, 1, 5, 6], [], []⟩), (([66], 5), ⟨[0, 1, 5, 6], [], []⟩)]),
  (69, [(([69], 3), ⟨[0, 4, 5, 9], [], []⟩), (([69], 9), ⟨[0, 4, 5, 7, 9], [], []⟩)]),
  (72, [(([72], 7), ⟨[0, 1, 2, 3], [], []⟩), (([72], 11), ⟨[0, 1, 2, 3, 9, 10], [], []⟩)]),
  (77, [(([77], 2), ⟨[0, 1, 7, 8], [], []⟩)]),
  (79, [(([79], 2), ⟨[], [], []⟩), (([79], 3), ⟨[0], [], []⟩), (([79], 4), ⟨[], [], []⟩), (([79], 5), ⟨[0], [], []⟩), (([79], 10), ⟨[], [], []⟩)]),
  (82, [(([82], 3), ⟨[0, 5], [], []⟩), (([82], 4), ⟨[0, 1], [], []⟩), (([82], 6), ⟨[0, 1, 6, 7], [], []⟩)]),
  (83, [(([83], 6), ⟨[0, 1, 5], [], []⟩)]),
  (85, [(([85], 5), ⟨[0, 3], [], []⟩)]),
  (87, [(([87], 2), ⟨[2, 4], [], []⟩)]),
  (90, [(([90], 3), ⟨[], [], []⟩), (([90], 4), ⟨[0, 1, 5], [], []⟩), (([90], 9), ⟨[0, 1], [], []⟩), (([90], 10), ⟨[0, 1, 5], [], []⟩), (([90], 15), ⟨[0, 1, 5, 6, 7, 8, 9, 10], [], []⟩), (([90], 21), ⟨[0, 1, 5, 6, 7, 8, 9, 10], [], []⟩), (([90], 22), ⟨[8], [], []⟩), (([90], 23), ⟨[0, 1, 5, 6, 7, 8, 9, 10], [], []⟩), (([90], 26), ⟨[0, 1, 8], [], []⟩), (([90], 30), ⟨[0, 1, 5, 6, 7, 8, 9, 10], [], []⟩), (([90], 31), ⟨[0, 1, 8], [], []⟩)]),
  (93, [(([93], 15), ⟨[], [], []⟩), (([93], 16), ⟨[0, 5, 8, 10], [], []⟩), (([93], 20), ⟨[], [], []⟩), (([93], 21), ⟨[0, 5, 8, 10, 11], [], []⟩), (([93], 25), ⟨[], [], []⟩), (([93], 26), ⟨[5, 10, 11, 12], [], []⟩)]),
  (96, [(([96], 5), ⟨[0, 1, 5, 6, 7, 8, 9], [], []⟩), (([96], 9), ⟨[], [], []⟩), (([96], 10), ⟨[0, 1, 5, 6, 7, 8], [], []⟩), (([96], 11), ⟨[0, 1, 5, 6, 7, 8, 10], [], []⟩)]),
  (97, [(([97], 3), ⟨[0, 4, 5], [], []⟩), (([97], 8), ⟨[4, 6, 7, 8], [], []⟩)])]
noncomputable def EE : Env := { P := Tryd.prog, tt, ext := [(70, extIndexByte), (89, extCount)], ann, inl := [], mt := [((23, "computus/when.form"), 39), ((31, "computus/when.right"), 35), ((69, "computus/when.right"), 113), ((71, "computus/when.right"), 115), ((75, "computus/when.right"), 117)], eqs := [27] }
end Dv

set_option maxRecDepth 100000
set_option linter.unusedVariables false
namespace Dv
open Go
noncomputable abbrev tis_computuslaw07_WhenReads : List TI := funTI EE fn_computuslaw07_WhenReads
noncomputable def computuslaw07_WhenReads (a0 : List UInt8) : Option PV := callF EE fn_computuslaw07_WhenReads [(.str a0)]

noncomputable abbrev tis_computuslaw07_WhenDays : List TI := funTI EE fn_computuslaw07_WhenDays
noncomputable def computuslaw07_WhenDays (a0 : Int) (a1 : Int) (a2_0 : Int) (a2_1 : Int) (a2_2 : Int) : Option PV := callF EE fn_computuslaw07_WhenDays [(.int Go.IntKind.i64 a0), (.int Go.IntKind.i64 a1), (.agg [(.int Go.IntKind.i64 a2_0), (.int Go.IntKind.i64 a2_1), (.int Go.IntKind.i64 a2_2)])]

noncomputable abbrev tis_computuslaw07_WhenNear : List TI := funTI EE fn_computuslaw07_WhenNear
noncomputable def computuslaw07_WhenNear (a0 : Int) (a1 : Int) (a2_0 : Int) (a2_1 : Int) (a2_2 : Int) : Option PV := callF EE fn_computuslaw07_WhenNear [(.int Go.IntKind.i64 a0), (.int Go.IntKind.i64 a1), (.agg [(.int Go.IntKind.i64 a2_0), (.int Go.IntKind.i64 a2_1), (.int Go.IntKind.i64 a2_2)])]

noncomputable abbrev tis_computuslaw07_WhenWeek : List TI := funTI EE fn_computuslaw07_WhenWeek
noncomputable def computuslaw07_WhenWeek (a0 : Int) (a1 : Int) (a2_0 : Int) (a2_1 : Int) (a2_2 : Int) : Option PV := callF EE fn_computuslaw07_WhenWeek [(.int Go.IntKind.i64 a0), (.int Go.IntKind.i64 a1), (.agg [(.int Go.IntKind.i64 a2_0), (.int Go.IntKind.i64 a2_1), (.int Go.IntKind.i64 a2_2)])]
noncomputable def computuslaw07_WhenWeek_c3  : Option PV :=
  runW EE tis_computuslaw07_WhenWeek (confAt EE fn_computuslaw07_WhenWeek 3 (mkT 86 []) [])
noncomputable def computuslaw07_WhenWeek_c4 (x0 : Int) (x1 : Int) (x2 : Int) (x3 : Int) (x4 : Int) (x5 : Int) : Option PV :=
  runW EE tis_computuslaw07_WhenWeek (confAt EE fn_computuslaw07_WhenWeek 4 (mkT 86 [(0, (.int Go.IntKind.i64 x0)), (1, (.int Go.IntKind.i64 x1)), (5, (.ptr 0 0)), (7, (.int Go.IntKind.i64 x2))]) [(.cells [(.int Go.IntKind.i64 x3), (.int Go.IntKind.i64 x4), (.int Go.IntKind.i64 x5)] Bool.false)])
noncomputable def computuslaw07_WhenWeek_c9  : Option PV :=
  runW EE tis_computuslaw07_WhenWeek (confAt EE fn_computuslaw07_WhenWeek 9 (mkT 86 []) [])
noncomputable def computuslaw07_WhenWeek_c10 (x0 : Int) (x1 : Int) (x2 : Int) (x3 : Int) (x4 : Int) (x5 : Int) (x6 : Int) (x7 : Int) (x8 : Int) : Option PV :=
  runW EE tis_computuslaw07_WhenWeek (confAt EE fn_computuslaw07_WhenWeek 10 (mkT 86 [(0, (.int Go.IntKind.i64 x0)), (1, (.int Go.IntKind.i64 x1)), (5, (.ptr 0 0)), (7, (.int Go.IntKind.i64 x2)), (9, (.ptr 1 0))]) [(.cells [(.int Go.IntKind.i64 x3), (.int Go.IntKind.i64 x4), (.int Go.IntKind.i64 x5)] Bool.false), (.cells [(.int Go.IntKind.i64 x6), (.int Go.IntKind.i64 x7), (.int Go.IntKind.i64 x8)] Bool.false)])
noncomputable def computuslaw07_WhenWeek_c12  : Option PV :=
  runW EE tis_computuslaw07_WhenWeek (confAt EE fn_computuslaw07_WhenWeek 12 (mkT 86 []) [])
noncomputable def computuslaw07_WhenWeek_c13 (x0 : Int) (x1 : Int) (x2 : Int) (x3 : Int) (x4 : Int) (x5 : Int) : Option PV :=
  runW EE tis_computuslaw07_WhenWeek (confAt EE fn_computuslaw07_WhenWeek 13 (mkT 86 [(0, (.int Go.IntKind.i64 x0)), (1, (.int Go.IntKind.i64 x1)), (7, (.int Go.IntKind.i64 x2)), (9, (.ptr 0 0))]) [(.cells [(.int Go.IntKind.i64 x3), (.int Go.IntKind.i64 x4), (.int Go.IntKind.i64 x5)] Bool.false)])

noncomputable abbrev tis_computuslaw07_WhenTexts : List TI := funTI EE fn_computuslaw07_WhenTexts
noncomputable def computuslaw07_WhenTexts (a0_0 : Int) (a0_1 : Int) (a0_2 : Int) (a1_0 : Int) (a1_1 : Int) : Option PV := callF EE fn_computuslaw07_WhenTexts [(.agg [(.int Go.IntKind.i64 a0_0), (.int Go.IntKind.i64 a0_1), (.int Go.IntKind.i64 a0_2)]), (.agg [(.int Go.IntKind.i64 a1_0), (.int Go.IntKind.u8 a1_1)])]
noncomputable def computuslaw07_WhenTexts_c6  : Option PV :=
  runW EE tis_computuslaw07_WhenTexts (confAt EE fn_computuslaw07_WhenTexts 6 (mkT 99 []) [])
noncomputable def computuslaw07_WhenTexts_c7 (x0 : List UInt8) (x1 : Int) (x2 : List UInt8) (x3 : Int) (x4 : Int) (x5 : Int) (x6 : Int) (x7 : Int) (x8 : Int) : Option PV :=
  runW EE tis_computuslaw07_WhenTexts (confAt EE fn_computuslaw07_WhenTexts 7 (mkT 99 [(2, (.ptr 0 0)), (3, (.ptr 1 0)), (7, (.str x0)), (8, (.int Go.IntKind.i64 x1)), (11, (.str x2)), (12, (.int Go.IntKind.i64 x3))]) [(.cells [(.int Go.IntKind.i64 x4), (.int Go.IntKind.i64 x5), (.int Go.IntKind.i64 x6)] Bool.false), (.cells [(.int Go.IntKind.i64 x7), (.int Go.IntKind.u8 x8)] Bool.false)])
noncomputable def computuslaw07_WhenTexts_c10  : Option PV :=
  runW EE tis_computuslaw07_WhenTexts (confAt EE fn_computuslaw07_WhenTexts 10 (mkT 99 []) [])
noncomputable def computuslaw07_WhenTexts_c11 (x0 : List UInt8) (x1 : Int) (x2 : Int) (x3 : Int) : Option PV :=
  runW EE tis_computuslaw07_WhenTexts (confAt EE fn_computuslaw07_WhenTexts 11 (mkT 99 [(3, (.ptr 0 0)), (11, (.str x0)), (12, (.int Go.IntKind.i64 x1))]) [(.cells [(.int Go.IntKind.i64 x2), (.int Go.IntKind.u8 x3)] Bool.false)])

noncomputable abbrev tis_when_ReadOn : List TI := funTI EE fn_when_ReadOn
noncomputable def when_ReadOn (a0 : List UInt8) : Option PV := callF EE fn_when_ReadOn [(.str a0)]
noncomputable def when_ReadOn_c4 (x0 : List UInt8) (x1 : Int) (x2 : Int) (x3 : Int) (x4 : Int) (x5 : Int) (x6 : Int) : Option PV :=
  runW EE tis_when_ReadOn (confAt EE fn_when_ReadOn 4 (mkT 74 [(0, (.str x0)), (2, (.ptr 0 0)), (4, (.ptr 1 0))]) [(.cells [(.int Go.IntKind.i64 x1), (.int Go.IntKind.i64 x2), (.int Go.IntKind.i64 x3)] Bool.false), (.cells [(.int Go.IntKind.i64 x4), (.int Go.IntKind.i64 x5), (.int Go.IntKind.i64 x6)] Bool.false)])
noncomputable def when_ReadOn_c5 (x0 : List UInt8) (x1 : Int) (x2 : Int) (x3 : Int) (x4 : Int) (x5 : Int) (x6 : Int) : Option PV :=
  runW EE tis_when_ReadOn (confAt EE fn_when_ReadOn 5 (mkT 74 [(0, (.str x0)), (2, (.ptr 0 0)), (4, (.ptr 1 0))]) [(.cells [(.int Go.IntKind.i64 x1), (.int Go.IntKind.i64 x2), (.int Go.IntKind.i64 x3)] Bool.false), (.cells [(.int Go.IntKind.i64 x4), (.int Go.IntKind.i64 x5), (.int Go.IntKind.i64 x6)] Bool.false)])
noncomputable def when_ReadOn_c7 (x0 : List UInt8) (x1 : Int) (x2 : Int) (x3 : Int) (x4 : Int) (x5 : Int) (x6 : Int) (x7 : Int) : Option PV :=
  runW EE tis_when_ReadOn (confAt EE fn_when_ReadOn 7 (mkT 74 [(0, (.str x0)), (2, (.ptr 0 0)), (4, (.ptr 1 0)), (6, (.int Go.IntKind.i64 x1))]) [(.cells [(.int Go.IntKind.i64 x2), (.int Go.IntKind.i64 x3), (.int Go.IntKind.i64 x4)] Bool.false), (.cells [(.int Go.IntKind.i64 x5), (.int Go.IntKind.i64 x6), (.int Go.IntKind.i64 x7)] Bool.false)])
noncomputable def when_ReadOn_c8 (x0 : List UInt8) (x1 : Int) (x2 : Int) (x3 : Int) (x4 : Int) (x5 : Int) (x6 : Int) (x7 : Int) : Option PV :=
  runW EE tis_when_ReadOn (confAt EE fn_when_ReadOn 8 (mkT 74 [(0, (.str x0)), (2, (.ptr 0 0)), (4, (.ptr 1 0)), (6, (.int Go.IntKind.i64 x1))]) [(.cells [(.int Go.IntKind.i64 x2), (.int Go.IntKind.i64 x3), (.int Go.IntKind.i64 x4)] Bool.false), (.cells [(.int Go.IntKind.i64 x5), (.int Go.IntKind.i64 x6), (.int Go.IntKind.i64 x7)] Bool.false)])
noncomputable def when_ReadOn_c9 (x0 : List UInt8) (x1 : Int) (x2 : Int) (x3 : Int) (x4 : Int) (x5 : Int) (x6 : Int) (x7 : Int) : Option PV :=
  runW EE tis_when_ReadOn (confAt EE fn_when_ReadOn 9 (mkT 74 [(0, (.str x0)), (2, (.ptr 0 0)), (4, (.ptr 1 0)), (6, (.int Go.IntKind.i64 x1))]) [(.cells [(.int Go.IntKind.i64 x2), (.int Go.IntKind.i64 x3), (.int Go.IntKind.i64 x4)] Bool.false), (.cells [(.int Go.IntKind.i64 x5), (.int Go.IntKind.i64 x6), (.int Go.IntKind.i64 x7)] Bool.false)])
noncomputable def when_ReadOn_c10 (x0 : List UInt8) (x1 : Int) (x2 : Int) (x3 : Int) (x4 : Int) (x5 : Int) (x6 : Int) : Option PV :=
  runW EE tis_when_ReadOn (confAt EE fn_when_ReadOn 10 (mkT 74 [(0, (.str x0)), (2, (.ptr 0 0)), (4, (.ptr 1 0))]) [(.cells [(.int Go.IntKind.i64 x1), (.int Go.IntKind.i64 x2), (.int Go.IntKind.i64 x3)] Bool.false), (.cells [(.int Go.IntKind.i64 x4), (.int Go.IntKind.i64 x5), (.int Go.IntKind.i64 x6)] Bool.false)])

noncomputable abbrev tis_computusref07_ReadOn : List TI := funTI EE fn_computusref07_ReadOn
noncomputable def computusref07_ReadOn (a0 : List UInt8) : Option PV := callF EE fn_computusref07_ReadOn [(.str a0)]
noncomputable def computusref07_ReadOn_c5 (x0 : List UInt8) (x1 : Int) (x2 : Int) (x3 : Int) (x4 : Int) (x5 : Int) (x6 : Int) : Option PV :=
  runW EE tis_computusref07_ReadOn (confAt EE fn_computusref07_ReadOn 5 (mkT 69 [(0, (.str x0)), (2, (.ptr 0 0)), (4, (.ptr 1 0))]) [(.cells [(.int Go.IntKind.i64 x1), (.int Go.IntKind.i64 x2), (.int Go.IntKind.i64 x3)] Bool.false), (.cells [(.int Go.IntKind.i64 x4), (.int Go.IntKind.i64 x5), (.int Go.IntKind.i64 x6)] Bool.false)])
noncomputable def computusref07_ReadOn_c6 (x0 : List UInt8) (x1 : Int) (x2 : Int) (x3 : Int) (x4 : Int) (x5 : Int) (x6 : Int) : Option PV :=
  runW EE tis_computusref07_ReadOn (confAt EE fn_computusref07_ReadOn 6 (mkT 69 [(0, (.str x0)), (2, (.ptr 0 0)), (4, (.ptr 1 0))]) [(.cells [(.int Go.IntKind.i64 x1), (.int Go.IntKind.i64 x2), (.int Go.IntKind.i64 x3)] Bool.false), (.cells [(.int Go.IntKind.i64 x4), (.int Go.IntKind.i64 x5), (.int Go.IntKind.i64 x6)] Bool.false)])
noncomputable def computusref07_ReadOn_c13 (x0 : Int) (x1 : Int) (x2 : Int) (x3 : Int) (x4 : Int) (x5 : Int) : Option PV :=
  runW EE tis_computusref07_ReadOn (confAt EE fn_computusref07_ReadOn 13 (mkT 69 [(2, (.ptr 0 0)), (4, (.ptr 1 0))]) [(.cells [(.int Go.IntKind.i64 x0), (.int Go.IntKind.i64 x1), (.int Go.IntKind.i64 x2)] Bool.false), (.cells [(.int Go.IntKind.i64 x3), (.int Go.IntKind.i64 x4), (.int Go.IntKind.i64 x5)] Bool.false)])
noncomputable def computusref07_ReadOn_c7 (x0 : List UInt8) (x1 : Int) (x2 : Int) (x3 : Int) (x4 : Int) (x5 : Int) (x6 : Int) (x7 : Int) : Option PV :=
  runW EE tis_computusref07_ReadOn (confAt EE fn_computusref07_ReadOn 7 (mkT 69 [(0, (.str x0)), (2, (.ptr 0 0)), (4, (.ptr 1 0)), (5, (.int Go.IntKind.i64 x1))]) [(.cells [(.int Go.IntKind.i64 x2), (.int Go.IntKind.i64 x3), (.int Go.IntKind.i64 x4)] Bool.false), (.cells [(.int Go.IntKind.i64 x5), (.int Go.IntKind.i64 x6), (.int Go.IntKind.i64 x7)] Bool.false)])
noncomputable def computusref07_ReadOn_c10 (x0 : List UInt8) (x1 : Int) (x2 : Int) (x3 : Int) (x4 : Int) (x5 : Int) (x6 : Int) (x7 : Int) : Option PV :=
  runW EE tis_computusref07_ReadOn (confAt EE fn_computusref07_ReadOn 10 (mkT 69 [(0, (.str x0)), (2, (.ptr 0 0)), (4, (.ptr 1 0)), (5, (.int Go.IntKind.i64 x1))]) [(.cells [(.int Go.IntKind.i64 x2), (.int Go.IntKind.i64 x3), (.int Go.IntKind.i64 x4)] Bool.false), (.cells [(.int Go.IntKind.i64 x5), (.int Go.IntKind.i64 x6), (.int Go.IntKind.i64 x7)] Bool.false)])
noncomputable def computusref07_ReadOn_c8 (x0 : List UInt8) (x1 : Int) (x2 : Int) (x3 : Int) (x4 : Int) (x5 : Int) (x6 : Int) (x7 : Int) : Option PV :=
  runW EE tis_computusref07_ReadOn (confAt EE fn_computusref07_ReadOn 8 (mkT 69 [(0, (.str x0)), (2, (.ptr 0 0)), (4, (.ptr 1 0)), (5, (.int Go.IntKind.i64 x1))]) [(.cells [(.int Go.IntKind.i64 x2), (.int Go.IntKind.i64 x3), (.int Go.IntKind.i64 x4)] Bool.false), (.cells [(.int Go.IntKind.i64 x5), (.int Go.IntKind.i64 x6), (.int Go.IntKind.i64 x7)] Bool.false)])

noncomputable abbrev tis_when_ReadAt : List TI := funTI EE fn_when_ReadAt
noncomputable def when_ReadAt (a0 : List UInt8) : Option PV := callF EE fn_when_ReadAt [(.str a0)]
noncomputable def when_ReadAt_c5 (x0 : List UInt8) (x1 : Int) (x2 : Int) (x3 : Int) (x4 : Int) (x5 : List UInt8) (x6 : Nat) : Option PV :=
  runW EE tis_when_ReadAt (confAt EE fn_when_ReadAt 5 (mkT 54 [(0, (.str x0)), (2, (.ptr 0 0)), (4, (.ptr 1 0)), (14, (.ptr 2 0))]) [(.cells [(.int Go.IntKind.i64 x1), (.int Go.IntKind.u8 x2)] Bool.false), (.cells [(.int Go.IntKind.i64 x3), (.int Go.IntKind.u8 x4)] Bool.false), (.iter x5 x6)])
noncomputable def when_ReadAt_c14 (x0 : List UInt8) (x1 : Int) (x2 : Int) (x3 : Int) (x4 : Int) (x5 : Int) (x6 : List UInt8) (x7 : Nat) : Option PV :=
  runW EE tis_when_ReadAt (confAt EE fn_when_ReadAt 14 (mkT 54 [(0, (.str x0)), (2, (.ptr 0 0)), (4, (.ptr 1 0)), (5, (.int Go.IntKind.i64 x1)), (14, (.ptr 2 0))]) [(.cells [(.int Go.IntKind.i64 x2), (.int Go.IntKind.u8 x3)] Bool.false), (.cells [(.int Go.IntKind.i64 x4), (.int Go.IntKind.u8 x5)] Bool.false), (.iter x6 x7)])
noncomputable def when_ReadAt_c11 (x0 : List UInt8) (x1 : Int) (x2 : Int) (x3 : Int) (x4 : Int) (x5 : Int) (x6 : Int) (x7 : Int) (x8 : List UInt8) (x9 : Nat) : Option PV :=
  runW EE tis_when_ReadAt (confAt EE fn_when_ReadAt 11 (mkT 54 [(0, (.str x0)), (2, (.ptr 0 0)), (4, (.ptr 1 0)), (5, (.int Go.IntKind.i64 x1)), (6, (.int Go.IntKind.i32 x2)), (14, (.ptr 2 0)), (24, (.int Go.IntKind.i32 x3))]) [(.cells [(.int Go.IntKind.i64 x4), (.int Go.IntKind.u8 x5)] Bool.false), (.cells [(.int Go.IntKind.i64 x6), (.int Go.IntKind.u8 x7)] Bool.false), (.iter x8 x9)])
noncomputable def when_ReadAt_c15 (x0 : List UInt8) (x1 : Int) (x2 : Int) (x3 : Int) (x4 : Int) (x5 : Int) (x6 : Int) (x7 : List UInt8) (x8 : Nat) : Option PV :=
  runW EE tis_when_ReadAt (confAt EE fn_when_ReadAt 15 (mkT 54 [(0, (.str x0)), (2, (.ptr 0 0)), (4, (.ptr 1 0)), (5, (.int Go.IntKind.i64 x1)), (6, (.int Go.IntKind.i32 x2)), (14, (.ptr 2 0))]) [(.cells [(.int Go.IntKind.i64 x3), (.int Go.IntKind.u8 x4)] Bool.false), (.cells [(.int Go.IntKind.i64 x5), (.int Go.IntKind.u8 x6)] Bool.false), (.iter x7 x8)])

noncomputable abbrev tis_computusref07_ReadAt : List TI := funTI EE fn_computusref07_ReadAt
noncomputable def computusref07_ReadAt (a0 : List UInt8) : Option PV := callF EE fn_computusref07_ReadAt [(.str a0)]
noncomputable def computusref07_ReadAt_c7 (x0 : List UInt8) (x1 : Int) (x2 : Int) (x3 : Int) (x4 : Int) (x5 : Int) : Option PV :=
  runW EE tis_computusref07_ReadAt (confAt EE fn_computusref07_ReadAt 7 (mkT 60 [(0, (.str x0)), (2, (.ptr 0 0)), (4, (.ptr 1 0)), (5, (.int Go.IntKind.u8 x1))]) [(.cells [(.int Go.IntKind.i64 x2), (.int Go.IntKind.u8 x3)] Bool.false), (.cells [(.int Go.IntKind.i64 x4), (.int Go.IntKind.u8 x5)] Bool.false)])
noncomputable def computusref07_ReadAt_c9 (x0 : List UInt8) (x1 : Int) (x2 : Int) (x3 : Int) (x4 : Int) : Option PV :=
  runW EE tis_computusref07_ReadAt (confAt EE fn_computusref07_ReadAt 9 (mkT 60 [(0, (.str x0)), (2, (.ptr 0 0)), (4, (.ptr 1 0))]) [(.cells [(.int Go.IntKind.i64 x1), (.int Go.IntKind.u8 x2)] Bool.false), (.cells [(.int Go.IntKind.i64 x3), (.int Go.IntKind.u8 x4)] Bool.false)])
noncomputable def computusref07_ReadAt_c10 (x0 : List UInt8) (x1 : Int) (x2 : Int) (x3 : Int) (x4 : Int) : Option PV :=
  runW EE tis_computusref07_ReadAt (confAt EE fn_computusref07_ReadAt 10 (mkT 60 [(0, (.str x0)), (2, (.ptr 0 0)), (4, (.ptr 1 0))]) [(.cells [(.int Go.IntKind.i64 x1), (.int Go.IntKind.u8 x2)] Bool.false), (.cells [(.int Go.IntKind.i64 x3), (.int Go.IntKind.u8 x4)] Bool.false)])
noncomputable def computusref07_ReadAt_c11 (x0 : List UInt8) (x1 : Int) (x2 : Int) (x3 : Int) (x4 : Int) : Option PV :=
  runW EE tis_computusref07_ReadAt (confAt EE fn_computusref07_ReadAt 11 (mkT 60 [(0, (.str x0)), (2, (.ptr 0 0)), (4, (.ptr 1 0))]) [(.cells [(.int Go.IntKind.i64 x1), (.int Go.IntKind.u8 x2)] Bool.false), (.cells [(.int Go.IntKind.i64 x3), (.int Go.IntKind.u8 x4)] Bool.false)])

noncomputable abbrev tis_when_ReadSave : List TI := funTI EE fn_when_ReadSave
noncomputable def when_ReadSave (a0 : List UInt8) : Option PV := callF EE fn_when_ReadSave [(.str a0)]
noncomputable def when_ReadSave_c7 (x0 : Bool) (x1 : Int) : Option PV :=
  runW EE tis_when_ReadSave (confAt EE fn_when_ReadSave 7 (mkT 32 [(5, (.bool x0)), (6, (.int Go.IntKind.i64 x1))]) [])

noncomputable abbrev tis_computusref07_ReadSave : List TI := funTI EE fn_computusref07_ReadSave
noncomputable def computusref07_ReadSave (a0 : List UInt8) : Option PV := callF EE fn_computusref07_ReadSave [(.str a0)]
noncomputable def computusref07_ReadSave_c4 (x0 : List UInt8) (x1 : Bool) : Option PV :=
  runW EE tis_computusref07_ReadSave (confAt EE fn_computusref07_ReadSave 4 (mkT 31 [(0, (.str x0)), (4, (.bool x1))]) [])
noncomputable def computusref07_ReadSave_c6 (x0 : List UInt8) (x1 : Bool) : Option PV :=
  runW EE tis_computusref07_ReadSave (confAt EE fn_computusref07_ReadSave 6 (mkT 31 [(0, (.str x0)), (4, (.bool x1))]) [])
noncomputable def computusref07_ReadSave_c8  : Option PV :=
  runW EE tis_computusref07_ReadSave (confAt EE fn_computusref07_ReadSave 8 (mkT 31 []) [])

noncomputable abbrev tis_computuslaw07_taken : List TI := funTI EE fn_computuslaw07_taken
noncomputable def computuslaw07_taken (a0_0 : Int) (a0_1 : Int) (a0_2 : Int) : Option PV := callF EE fn_computuslaw07_taken [(.agg [(.int Go.IntKind.i64 a0_0), (.int Go.IntKind.i64 a0_1), (.int Go.IntKind.i64 a0_2)])]

noncomputable abbrev tis_computuslaw07_known : List TI := funTI EE fn_computuslaw07_known
noncomputable def computuslaw07_known  : Option PV := callF EE fn_computuslaw07_known []

noncomputable abbrev tis_when_Day : List TI := funTI EE fn_when_Day
noncomputable def when_Day (a0 : Int) (a1 : Int) (a2_0 : Int) (a2_1 : Int) (a2_2 : Int) : Option PV := callF EE fn_when_Day [(.int Go.IntKind.i64 a0), (.int Go.IntKind.i64 a1), (.agg [(.int Go.IntKind.i64 a2_0), (.int Go.IntKind.i64 a2_1), (.int Go.IntKind.i64 a2_2)])]
noncomputable def when_Day_c3  : Option PV :=
  runW EE tis_when_Day (confAt EE fn_when_Day 3 (mkT 78 []) [])
noncomputable def when_Day_c4 (x0 : Int) (x1 : Int) (x2 : PV) : Option PV :=
  runW EE tis_when_Day (confAt EE fn_when_Day 4 (mkT 78 [(0, (.int Go.IntKind.i64 x0)), (1, (.int Go.IntKind.i64 x1)), (8, (.opq x2 0))]) [])
noncomputable def when_Day_c5  : Option PV :=
  runW EE tis_when_Day (confAt EE fn_when_Day 5 (mkT 78 []) [])
noncomputable def when_Day_c6 (x0 : Int) (x1 : Int) (x2 : PV) : Option PV :=
  runW EE tis_when_Day (confAt EE fn_when_Day 6 (mkT 78 [(0, (.int Go.IntKind.i64 x0)), (1, (.int Go.IntKind.i64 x1)), (8, (.opq x2 0))]) [])

noncomputable abbrev tis_computuslaw07_given : List TI := funTI EE fn_computuslaw07_given
noncomputable def computuslaw07_given (a0_0 : Int) (a0_1 : Int) (a0_2 : Int) : Option PV := callF EE fn_computuslaw07_given [(.agg [(.int Go.IntKind.i64 a0_0), (.int Go.IntKind.i64 a0_1), (.int Go.IntKind.i64 a0_2)])]

noncomputable abbrev tis_computusref07_Day : List TI := funTI EE fn_computusref07_Day
noncomputable def computusref07_Day (a0 : Int) (a1 : Int) (a2_0 : Int) (a2_1 : Int) (a2_2 : Int) : Option PV := callF EE fn_computusref07_Day [(.int Go.IntKind.i64 a0), (.int Go.IntKind.i64 a1), (.agg [(.int Go.IntKind.i64 a2_0), (.int Go.IntKind.i64 a2_1), (.int Go.IntKind.i64 a2_2)])]
noncomputable def computusref07_Day_c2  : Option PV :=
  runW EE tis_computusref07_Day (confAt EE fn_computusref07_Day 2 (mkT 73 []) [])
noncomputable def computusref07_Day_c3 (x0 : Int) (x1 : Int) (x2 : Int) (x3 : Int) (x4 : Int) : Option PV :=
  runW EE tis_computusref07_Day (confAt EE fn_computusref07_Day 3 (mkT 73 [(0, (.int Go.IntKind.i64 x0)), (1, (.int Go.IntKind.i64 x1)), (5, (.ptr 0 0))]) [(.cells [(.int Go.IntKind.i64 x2), (.int Go.IntKind.i64 x3), (.int Go.IntKind.i64 x4)] Bool.false)])
noncomputable def computusref07_Day_c4  : Option PV :=
  runW EE tis_computusref07_Day (confAt EE fn_computusref07_Day 4 (mkT 73 []) [])
noncomputable def computusref07_Day_c5 (x0 : Int) (x1 : Int) (x2 : Int) (x3 : Int) (x4 : Int) : Option PV :=
  runW EE tis_computusref07_Day (confAt EE fn_computusref07_Day 5 (mkT 73 [(0, (.int Go.IntKind.i64 x0)), (1, (.int Go.IntKind.i64 x1)), (5, (.ptr 0 0))]) [(.cells [(.int Go.IntKind.i64 x2), (.int Go.IntKind.i64 x3), (.int Go.IntKind.i64 x4)] Bool.false)])
noncomputable def computusref07_Day_c9 (x0 : Int) (x1 : Int) (x2 : Int) (x3 : Int) : Option PV :=
  runW EE tis_computusref07_Day (confAt EE fn_computusref07_Day 9 (mkT 73 [(5, (.ptr 0 0)), (10, (.int Go.IntKind.i64 x0))]) [(.cells [(.int Go.IntKind.i64 x1), (.int Go.IntKind.i64 x2), (.int Go.IntKind.i64 x3)] Bool.false)])
noncomputable def computusref07_Day_c10 (x0 : Int) (x1 : Int) (x2 : Int) (x3 : Int) (x4 : Int) : Option PV :=
  runW EE tis_computusref07_Day (confAt EE fn_computusref07_Day 10 (mkT 73 [(5, (.ptr 0 0)), (10, (.int Go.IntKind.i64 x0)), (11, (.int Go.IntKind.i64 x1))]) [(.cells [(.int Go.IntKind.i64 x2), (.int Go.IntKind.i64 x3), (.int Go.IntKind.i64 x4)] Bool.false)])
noncomputable def computusref07_Day_c12 (x0 : Int) (x1 : Int) (x2 : Int) (x3 : Int) (x4 : Int) : Option PV :=
  runW EE tis_computusref07_Day (confAt EE fn_computusref07_Day 12 (mkT 73 [(5, (.ptr 0 0)), (10, (.int Go.IntKind.i64 x0)), (11, (.int Go.IntKind.i64 x1))]) [(.cells [(.int Go.IntKind.i64 x2), (.int Go.IntKind.i64 x3), (.int Go.IntKind.i64 x4)] Bool.false)])

noncomputable abbrev tis_computusref02_Days : List TI := funTI EE fn_computusref02_Days
noncomputable def computusref02_Days (a0 : Int) (a1 : Int) (a2 : Int) : Option PV := callF EE fn_computusref02_Days [(.int Go.IntKind.i64 a0), (.int Go.IntKind.i64 a1), (.int Go.IntKind.i64 a2)]

noncomputable abbrev tis_computusref02_Len : List TI := funTI EE fn_computusref02_Len
noncomputable def computusref02_Len (a0 : Int) (a1 : Int) : Option PV := callF EE fn_computusref02_Len [(.int Go.IntKind.i64 a0), (.int Go.IntKind.i64 a1)]
noncomputable def computusref02_Len_c10 (x0 : Int) (x1 : Int) : Option PV :=
  runW EE tis_computusref02_Len (confAt EE fn_computusref02_Len 10 (mkT 23 [(0, (.int Go.IntKind.i64 x0)), (5, (.int Go.IntKind.i64 x1))]) [])
noncomputable def computusref02_Len_c15 (x0 : Int) (x1 : Int) : Option PV :=
  runW EE tis_computusref02_Len (confAt EE fn_computusref02_Len 15 (mkT 23 [(0, (.int Go.IntKind.i64 x0)), (5, (.int Go.IntKind.i64 x1))]) [])

noncomputable abbrev tis_computusref02_Weekday : List TI := funTI EE fn_computusref02_Weekday
noncomputable def computusref02_Weekday (a0 : Int) : Option PV := callF EE fn_computusref02_Weekday [(.int Go.IntKind.i64 a0)]

noncomputable abbrev tis_when_TextOn : List TI := funTI EE fn_when_TextOn
noncomputable def when_TextOn (a0_0 : Int) (a0_1 : Int) (a0_2 : Int) : Option PV := callF EE fn_when_TextOn [(.agg [(.int Go.IntKind.i64 a0_0), (.int Go.IntKind.i64 a0_1), (.int Go.IntKind.i64 a0_2)])]

noncomputable abbrev tis_computusref07_TextOn : List TI := funTI EE fn_computusref07_TextOn
noncomputable def computusref07_TextOn (a0_0 : Int) (a0_1 : Int) (a0_2 : Int) : Option PV := callF EE fn_computusref07_TextOn [(.agg [(.int Go.IntKind.i64 a0_0), (.int Go.IntKind.i64 a0_1), (.int Go.IntKind.i64 a0_2)])]

noncomputable abbrev tis_when_TextAt : List TI := funTI EE fn_when_TextAt
noncomputable def when_TextAt (a0_0 : Int) (a0_1 : Int) : Option PV := callF EE fn_when_TextAt [(.agg [(.int Go.IntKind.i64 a0_0), (.int Go.IntKind.u8 a0_1)])]
noncomputable def when_TextAt_c6 (x0 : List UInt8) (x1 : Int) (x2 : Int) : Option PV :=
  runW EE tis_when_TextAt (confAt EE fn_when_TextAt 6 (mkT 45 [(1, (.ptr 0 0)), (4, (.str x0))]) [(.cells [(.int Go.IntKind.i64 x1), (.int Go.IntKind.u8 x2)] Bool.false)])
noncomputable def when_TextAt_c8 (x0 : List UInt8) (x1 : Int) (x2 : Int) : Option PV :=
  runW EE tis_when_TextAt (confAt EE fn_when_TextAt 8 (mkT 45 [(1, (.ptr 0 0)), (4, (.str x0))]) [(.cells [(.int Go.IntKind.i64 x1), (.int Go.IntKind.u8 x2)] Bool.false)])

noncomputable abbrev tis_computusref07_TextAt : List TI := funTI EE fn_computusref07_TextAt
noncomputable def computusref07_TextAt (a0_0 : Int) (a0_1 : Int) : Option PV := callF EE fn_computusref07_TextAt [(.agg [(.int Go.IntKind.i64 a0_0), (.int Go.IntKind.u8 a0_1)])]
noncomputable def computusref07_TextAt_c6 (x0 : List UInt8) (x1 : Int) (x2 : Int) : Option PV :=
  runW EE tis_computusref07_TextAt (confAt EE fn_computusref07_TextAt 6 (mkT 40 [(1, (.ptr 0 0)), (4, (.str x0))]) [(.cells [(.int Go.IntKind.i64 x1), (.int Go.IntKind.u8 x2)] Bool.false)])

noncomputable abbrev tis_word_Same : List TI := funTI EE fn_word_Same
noncomputable def word_Same (a0 : List UInt8) (a1 : List UInt8) : Option PV := callF EE fn_word_Same [(.str a0), (.str a1)]

noncomputable abbrev tis_when_onOf : List TI := funTI EE fn_when_onOf
noncomputable def when_onOf (a0 : Int) (a1 : List UInt8) (a2 : List UInt8) : Option PV := callF EE fn_when_onOf [(.int Go.IntKind.i64 a0), (.str a1), (.str a2)]
noncomputable def when_onOf_c5 (x0 : List UInt8) (x1 : Bool) (x2 : Int) (x3 : Int) (x4 : Int) (x5 : Int) (x6 : Int) (x7 : Int) : Option PV :=
  runW EE tis_when_onOf (confAt EE fn_when_onOf 5 (mkT 32 [(2, (.str x0)), (6, (.ptr 0 0)), (8, (.ptr 1 0)), (9, (.bool x1))]) [(.cells [(.int Go.IntKind.i64 x2), (.int Go.IntKind.i64 x3), (.int Go.IntKind.i64 x4)] Bool.false), (.cells [(.int Go.IntKind.i64 x5), (.int Go.IntKind.i64 x6), (.int Go.IntKind.i64 x7)] Bool.false)])

noncomputable abbrev tis_strings_IndexByte : List TI := funTI EE fn_strings_IndexByte
noncomputable def strings_IndexByte (a0 : List UInt8) (a1 : Int) : Option PV := callF EE fn_strings_IndexByte [(.str a0), (.int Go.IntKind.u8 a1)]

noncomputable abbrev tis_when_pair : List TI := funTI EE fn_when_pair
noncomputable def when_pair (a0 : Int) (a1 : List UInt8) (a2 : List UInt8) : Option PV := callF EE fn_when_pair [(.int Go.IntKind.i64 a0), (.str a1), (.str a2)]

noncomputable abbrev tis_computusref07_short : List TI := funTI EE fn_computusref07_short
noncomputable def computusref07_short (a0 : List UInt8) : Option PV := callF EE fn_computusref07_short [(.str a0)]
noncomputable def computusref07_short_c2  : Option PV :=
  runW EE tis_computusref07_short (confAt EE fn_computusref07_short 2 (mkT 21 []) [])
noncomputable def computusref07_short_c3 (x0 : List UInt8) : Option PV :=
  runW EE tis_computusref07_short (confAt EE fn_computusref07_short 3 (mkT 21 [(0, (.str x0))]) [])

noncomputable abbrev tis_computusref05_Same : List TI := funTI EE fn_computusref05_Same
noncomputable def computusref05_Same (a0 : List UInt8) (a1 : List UInt8) : Option PV := callF EE fn_computusref05_Same [(.str a0), (.str a1)]

noncomputable abbrev tis_computusref05_Day : List TI := funTI EE fn_computusref05_Day
noncomputable def computusref05_Day (a0 : List UInt8) : Option PV := callF EE fn_computusref05_Day [(.str a0)]

noncomputable abbrev tis_computusref07_RightOn : List TI := funTI EE fn_computusref07_RightOn
noncomputable def computusref07_RightOn (a0_0 : Int) (a0_1 : Int) (a0_2 : Int) : Option PV := callF EE fn_computusref07_RightOn [(.agg [(.int Go.IntKind.i64 a0_0), (.int Go.IntKind.i64 a0_1), (.int Go.IntKind.i64 a0_2)])]
noncomputable def computusref07_RightOn_c2 (x0 : Bool) (x1 : Int) (x2 : Int) (x3 : Int) : Option PV :=
  runW EE tis_computusref07_RightOn (confAt EE fn_computusref07_RightOn 2 (mkT 46 [(1, (.ptr 0 0)), (3, (.bool x0))]) [(.cells [(.int Go.IntKind.i64 x1), (.int Go.IntKind.i64 x2), (.int Go.IntKind.i64 x3)] Bool.false)])
noncomputable def computusref07_RightOn_c3 (x0 : Bool) (x1 : Bool) (x2 : Int) (x3 : Int) (x4 : Int) : Option PV :=
  runW EE tis_computusref07_RightOn (confAt EE fn_computusref07_RightOn 3 (mkT 46 [(1, (.ptr 0 0)), (3, (.bool x0)), (4, (.bool x1))]) [(.cells [(.int Go.IntKind.i64 x2), (.int Go.IntKind.i64 x3), (.int Go.IntKind.i64 x4)] Bool.false)])

noncomputable abbrev tis_when_seconds : List TI := funTI EE fn_when_seconds
noncomputable def when_seconds (a0 : List UInt8) : Option PV := callF EE fn_when_seconds [(.str a0)]
noncomputable def when_seconds_c6 (x0 : List PV) (x1 : Int) (x2 : Bool) (x3 : Int) (x4 : List PV) (x5 : Int) (x6 : Int) : Option PV :=
  runW EE tis_when_seconds (confAt EE fn_when_seconds 6 (mkT 63 [(4, (.sl 1 x0)), (5, (.int Go.IntKind.i64 x1)), (6, (.bool x2)), (7, (.int Go.IntKind.i64 x3)), (24, (.sl 1 x4)), (25, (.int Go.IntKind.i64 x5)), (26, (.int Go.IntKind.i64 x6))]) [])
noncomputable def when_seconds_c10 (x0 : List PV) (x1 : Int) (x2 : Bool) (x3 : Int) (x4 : Int) (x5 : List PV) (x6 : Int) (x7 : Int) : Option PV :=
  runW EE tis_when_seconds (confAt EE fn_when_seconds 10 (mkT 63 [(4, (.sl 1 x0)), (5, (.int Go.IntKind.i64 x1)), (6, (.bool x2)), (7, (.int Go.IntKind.i64 x3)), (10, (.int Go.IntKind.i64 x4)), (24, (.sl 1 x5)), (25, (.int Go.IntKind.i64 x6)), (26, (.int Go.IntKind.i64 x7))]) [])

noncomputable abbrev tis_when_At_right : List TI := funTI EE fn_when_At_right
noncomputable def when_At_right (a0_0 : Int) (a0_1 : Int) : Option PV := callF EE fn_when_At_right [(.agg [(.int Go.IntKind.i64 a0_0), (.int Go.IntKind.u8 a0_1)])]

noncomputable abbrev tis_computusref07_sec : List TI := funTI EE fn_computusref07_sec
noncomputable def computusref07_sec (a0 : List UInt8) : Option PV := callF EE fn_computusref07_sec [(.str a0)]
noncomputable def computusref07_sec_c3 (x0 : List UInt8) (x1 : Int) (x2 : List PV) (x3 : Nat) : Option PV :=
  runW EE tis_computusref07_sec (confAt EE fn_computusref07_sec 3 (mkT 85 [(0, (.str x0)), (3, (.lall 0)), (4, (.int Go.IntKind.i64 x1))]) [(.row 1 x2 0 (some x3))])
noncomputable def computusref07_sec_c4 (x0 : List UInt8) (x1 : Int) (x2 : List PV) (x3 : Nat) : Option PV :=
  runW EE tis_computusref07_sec (confAt EE fn_computusref07_sec 4 (mkT 85 [(0, (.str x0)), (3, (.lall 0)), (4, (.int Go.IntKind.i64 x1))]) [(.row 1 x2 0 (some x3))])
noncomputable def computusref07_sec_c4_1 (x0 : List UInt8) (x1 : Int) (x2 : List PV) : Option PV :=
  runW EE tis_computusref07_sec (confAt EE fn_computusref07_sec 4 (mkT 85 [(0, (.str x0)), (3, (.lall 0)), (4, (.int Go.IntKind.i64 x1))]) [(.row 1 x2 0 none)])
noncomputable def computusref07_sec_c10  : Option PV :=
  runW EE tis_computusref07_sec (confAt EE fn_computusref07_sec 10 (mkT 85 []) [])
noncomputable def computusref07_sec_c11 (x0 : Int) (x1 : List PV) (x2 : Nat) : Option PV :=
  runW EE tis_computusref07_sec (confAt EE fn_computusref07_sec 11 (mkT 85 [(3, (.lall 0)), (5, (.int Go.IntKind.i64 x0))]) [(.row 1 x1 0 (some x2))])
noncomputable def computusref07_sec_c3_1 (x0 : List UInt8) (x1 : Int) (x2 : List PV) : Option PV :=
  runW EE tis_computusref07_sec (confAt EE fn_computusref07_sec 3 (mkT 85 [(0, (.str x0)), (3, (.lall 0)), (4, (.int Go.IntKind.i64 x1))]) [(.row 1 x2 0 none)])
noncomputable def computusref07_sec_c13 (x0 : Int) (x1 : Int) (x2 : List PV) (x3 : Nat) : Option PV :=
  runW EE tis_computusref07_sec (confAt EE fn_computusref07_sec 13 (mkT 85 [(3, (.lall 0)), (5, (.int Go.IntKind.i64 x0)), (6, (.int Go.IntKind.i64 x1))]) [(.row 1 x2 0 (some x3))])
noncomputable def computusref07_sec_c11_1 (x0 : Int) (x1 : List PV) : Option PV :=
  runW EE tis_computusref07_sec (confAt EE fn_computusref07_sec 11 (mkT 85 [(3, (.lall 0)), (5, (.int Go.IntKind.i64 x0))]) [(.row 1 x1 0 none)])
noncomputable def computusref07_sec_c17  : Option PV :=
  runW EE tis_computusref07_sec (confAt EE fn_computusref07_sec 17 (mkT 85 []) [])
noncomputable def computusref07_sec_c18 (x0 : Int) (x1 : Int) (x2 : Int) (x3 : List PV) (x4 : Nat) : Option PV :=
  runW EE tis_computusref07_sec (confAt EE fn_computusref07_sec 18 (mkT 85 [(3, (.lall 0)), (5, (.int Go.IntKind.i64 x0)), (6, (.int Go.IntKind.i64 x1)), (7, (.int Go.IntKind.i64 x2))]) [(.row 1 x3 0 (some x4))])
noncomputable def computusref07_sec_c13_1 (x0 : Int) (x1 : Int) (x2 : List PV) : Option PV :=
  runW EE tis_computusref07_sec (confAt EE fn_computusref07_sec 13 (mkT 85 [(3, (.lall 0)), (5, (.int Go.IntKind.i64 x0)), (6, (.int Go.IntKind.i64 x1))]) [(.row 1 x2 0 none)])
noncomputable def computusref07_sec_c18_1 (x0 : Int) (x1 : Int) (x2 : Int) (x3 : List PV) : Option PV :=
  runW EE tis_computusref07_sec (confAt EE fn_computusref07_sec 18 (mkT 85 [(3, (.lall 0)), (5, (.int Go.IntKind.i64 x0)), (6, (.int Go.IntKind.i64 x1)), (7, (.int Go.IntKind.i64 x2))]) [(.row 1 x3 0 none)])

noncomputable abbrev tis_computusref07_RightAt : List TI := funTI EE fn_computusref07_RightAt
noncomputable def computusref07_RightAt (a0_0 : Int) (a0_1 : Int) : Option PV := callF EE fn_computusref07_RightAt [(.agg [(.int Go.IntKind.i64 a0_0), (.int Go.IntKind.u8 a0_1)])]

noncomputable abbrev tis_strings_CutPrefix : List TI := funTI EE fn_strings_CutPrefix
noncomputable def strings_CutPrefix (a0 : List UInt8) (a1 : List UInt8) : Option PV := callF EE fn_strings_CutPrefix [(.str a0), (.str a1)]

noncomputable abbrev tis_when_On_form : List TI := funTI EE fn_when_On_form
noncomputable def when_On_form (a0_0 : Int) (a0_1 : Int) (a0_2 : Int) : Option PV := callF EE fn_when_On_form [(.agg [(.int Go.IntKind.i64 a0_0), (.int Go.IntKind.i64 a0_1), (.int Go.IntKind.i64 a0_2)])]
noncomputable def when_On_form_c4 (x0 : Int) (x1 : Int) (x2 : Int) : Option PV :=
  runW EE tis_when_On_form (confAt EE fn_when_On_form 4 (mkT 52 [(1, (.ptr 0 0))]) [(.cells [(.int Go.IntKind.i64 x0), (.int Go.IntKind.i64 x1), (.int Go.IntKind.i64 x2)] Bool.false)])
noncomputable def when_On_form_c5 (x0 : Int) (x1 : Int) (x2 : Int) : Option PV :=
  runW EE tis_when_On_form (confAt EE fn_when_On_form 5 (mkT 52 [(1, (.ptr 0 0))]) [(.cells [(.int Go.IntKind.i64 x0), (.int Go.IntKind.i64 x1), (.int Go.IntKind.i64 x2)] Bool.false)])
noncomputable def when_On_form_c6 (x0 : Int) (x1 : Int) (x2 : Int) : Option PV :=
  runW EE tis_when_On_form (confAt EE fn_when_On_form 6 (mkT 52 [(1, (.ptr 0 0))]) [(.cells [(.int Go.IntKind.i64 x0), (.int Go.IntKind.i64 x1), (.int Go.IntKind.i64 x2)] Bool.false)])
noncomputable def when_On_form_c7 (x0 : Int) (x1 : Int) (x2 : Int) : Option PV :=
  runW EE tis_when_On_form (confAt EE fn_when_On_form 7 (mkT 52 [(1, (.ptr 0 0))]) [(.cells [(.int Go.IntKind.i64 x0), (.int Go.IntKind.i64 x1), (.int Go.IntKind.i64 x2)] Bool.false)])

noncomputable abbrev tis_civil_Days : List TI := funTI EE fn_civil_Days
noncomputable def civil_Days (a0 : Int) (a1 : Int) (a2 : Int) : Option PV := callF EE fn_civil_Days [(.int Go.IntKind.i64 a0), (.int Go.IntKind.i64 a1), (.int Go.IntKind.i64 a2)]

noncomputable abbrev tis_when_to : List TI := funTI EE fn_when_to
noncomputable def when_to (a0 : Int) (a1 : Int) (a2 : Int) : Option PV := callF EE fn_when_to [(.int Go.IntKind.i64 a0), (.int Go.IntKind.i64 a1), (.int Go.IntKind.i64 a2)]
noncomputable def when_to_c1 (x0 : Int) (x1 : Int) (x2 : Int) : Option PV :=
  runW EE tis_when_to (confAt EE fn_when_to 1 (mkT 15 [(0, (.int Go.IntKind.i64 x0)), (1, (.int Go.IntKind.i64 x1)), (2, (.int Go.IntKind.i64 x2))]) [])

noncomputable abbrev tis_civil_Len : List TI := funTI EE fn_civil_Len
noncomputable def civil_Len (a0 : Int) (a1 : Int) : Option PV := callF EE fn_civil_Len [(.int Go.IntKind.i64 a0), (.int Go.IntKind.i64 a1)]
noncomputable def civil_Len_c3  : Option PV :=
  runW EE tis_civil_Len (confAt EE fn_civil_Len 3 (mkT 22 []) [])
noncomputable def civil_Len_c4 (x0 : Int) (x1 : Int) (x2 : List PV) (x3 : Nat) : Option PV :=
  runW EE tis_civil_Len (confAt EE fn_civil_Len 4 (mkT 22 [(0, (.int Go.IntKind.i64 x0)), (1, (.int Go.IntKind.i64 x1)), (5, (.ptr 0 0))]) [(.row 1 x2 0 (some x3))])

noncomputable abbrev tis_computusref02_Right : List TI := funTI EE fn_computusref02_Right
noncomputable def computusref02_Right (a0 : Int) (a1 : Int) (a2 : Int) : Option PV := callF EE fn_computusref02_Right [(.int Go.IntKind.i64 a0), (.int Go.IntKind.i64 a1), (.int Go.IntKind.i64 a2)]

noncomputable abbrev tis_computusref02_day : List TI := funTI EE fn_computusref02_day
noncomputable def computusref02_day (a0 : Int) (a1 : Int) (a2 : Int) : Option PV := callF EE fn_computusref02_day [(.int Go.IntKind.i64 a0), (.int Go.IntKind.i64 a1), (.int Go.IntKind.i64 a2)]
noncomputable def computusref02_day_c3 (x0 : Int) (x1 : Int) (x2 : Int) (x3 : Int) : Option PV :=
  runW EE tis_computusref02_day (confAt EE fn_computusref02_day 3 (mkT 25 [(0, (.int Go.IntKind.i64 x0)), (1, (.int Go.IntKind.i64 x1)), (7, (.int Go.IntKind.i64 x2)), (8, (.int Go.IntKind.i64 x3))]) [])

noncomputable abbrev tis_computusref02_Leap : List TI := funTI EE fn_computusref02_Leap
noncomputable def computusref02_Leap (a0 : Int) : Option PV := callF EE fn_computusref02_Leap [(.int Go.IntKind.i64 a0)]

noncomputable abbrev tis_computusref02_mod : List TI := funTI EE fn_computusref02_mod
noncomputable def computusref02_mod (a0 : Int) (a1 : Int) : Option PV := callF EE fn_computusref02_mod [(.int Go.IntKind.i64 a0), (.int Go.IntKind.i64 a1)]

noncomputable abbrev tis_strings_TrimPrefix : List TI := funTI EE fn_strings_TrimPrefix
noncomputable def strings_TrimPrefix (a0 : List UInt8) (a1 : List UInt8) : Option PV := callF EE fn_strings_TrimPrefix [(.str a0), (.str a1)]

noncomputable abbrev tis_clock_Two : List TI := funTI EE fn_clock_Two
noncomputable def clock_Two (a0 : Int) : Option PV := callF EE fn_clock_Two [(.int Go.IntKind.i64 a0)]

noncomputable abbrev tis_computusref03_Digits : List TI := funTI EE fn_computusref03_Digits
noncomputable def computusref03_Digits (a0 : Int) : Option PV := callF EE fn_computusref03_Digits [(.int Go.IntKind.i64 a0)]
noncomputable def computusref03_Digits_c4 (x0 : Int) (x1 : Int) : Option PV :=
  runW EE tis_computusref03_Digits (confAt EE fn_computusref03_Digits 4 (mkT 51 [(0, (.int Go.IntKind.i64 x0)), (3, (.int Go.IntKind.u64 x1))]) [])
noncomputable def computusref03_Digits_c5 (x0 : Int) (x1 : Int) (x2 : List PV) : Option PV :=
  runW EE tis_computusref03_Digits (confAt EE fn_computusref03_Digits 5 (mkT 51 [(0, (.int Go.IntKind.i64 x0)), (3, (.int Go.IntKind.u64 x1)), (4, (.lall 0))]) [(.row 1 x2 0 none)])
noncomputable def computusref03_Digits_c11 (x0 : List PV) : Option PV :=
  runW EE tis_computusref03_Digits (confAt EE fn_computusref03_Digits 11 (mkT 51 [(4, (.lall 0))]) [(.row 1 x0 0 none)])
noncomputable def computusref03_Digits_c13 (x0 : Int) (x1 : List PV) (x2 : List PV) : Option PV :=
  runW EE tis_computusref03_Digits (confAt EE fn_computusref03_Digits 13 (mkT 51 [(4, (.lall 0)), (5, (.lall 1)), (6, (.int Go.IntKind.i64 x0))]) [(.row 1 x1 0 none), (.row 1 x2 0 none)])

noncomputable abbrev tis_computusref03_Two : List TI := funTI EE fn_computusref03_Two
noncomputable def computusref03_Two (a0 : Int) : Option PV := callF EE fn_computusref03_Two [(.int Go.IntKind.i64 a0)]
noncomputable def computusref03_Two_c2 (x0 : Int) : Option PV :=
  runW EE tis_computusref03_Two (confAt EE fn_computusref03_Two 2 (mkT 24 [(0, (.int Go.IntKind.i64 x0))]) [])
noncomputable def computusref03_Two_c3 (x0 : Int) : Option PV :=
  runW EE tis_computusref03_Two (confAt EE fn_computusref03_Two 3 (mkT 24 [(0, (.int Go.IntKind.i64 x0))]) [])

noncomputable abbrev tis_word_Lower : List TI := funTI EE fn_word_Lower
noncomputable def word_Lower (a0 : List UInt8) : Option PV := callF EE fn_word_Lower [(.str a0)]
noncomputable def word_Lower_c3 (x0 : Int) (x1 : Int) (x2 : List PV) : Option PV :=
  runW EE tis_word_Lower (confAt EE fn_word_Lower 3 (mkT 29 [(3, (.lall 0)), (8, (.lall 0)), (9, (.int Go.IntKind.i64 x0)), (10, (.int Go.IntKind.i64 x1))]) [(.row 1 x2 0 none)])

noncomputable abbrev tis_word_Day : List TI := funTI EE fn_word_Day
noncomputable def word_Day (a0 : List UInt8) : Option PV := callF EE fn_word_Day [(.str a0)]

noncomputable abbrev tis_when_short : List TI := funTI EE fn_when_short
noncomputable def when_short (a0 : List UInt8) : Option PV := callF EE fn_when_short [(.str a0)]

noncomputable abbrev tis_stringslite_IndexByte : List TI := funTI EE fn_stringslite_IndexByte
noncomputable def stringslite_IndexByte (a0 : List UInt8) (a1 : Int) : Option PV := callF EE fn_stringslite_IndexByte [(.str a0), (.int Go.IntKind.u8 a1)]

noncomputable abbrev tis_computusref05_Number : List TI := funTI EE fn_computusref05_Number
noncomputable def computusref05_Number (a0 : List UInt8) : Option PV := callF EE fn_computusref05_Number [(.str a0)]
noncomputable def computusref05_Number_c4 (x0 : List UInt8) (x1 : Int) (x2 : Int) (x3 : Int) : Option PV :=
  runW EE tis_computusref05_Number (confAt EE fn_computusref05_Number 4 (mkT 50 [(0, (.str x0)), (4, (.int Go.IntKind.i64 x1)), (5, (.int Go.IntKind.i64 x2)), (6, (.int Go.IntKind.i64 x3))]) [])
noncomputable def computusref05_Number_c10 (x0 : List UInt8) (x1 : Int) (x2 : Int) (x3 : Int) : Option PV :=
  runW EE tis_computusref05_Number (confAt EE fn_computusref05_Number 10 (mkT 50 [(0, (.str x0)), (4, (.int Go.IntKind.i64 x1)), (6, (.int Go.IntKind.i64 x2)), (7, (.int Go.IntKind.i64 x3))]) [])
noncomputable def computusref05_Number_c11 (x0 : List UInt8) (x1 : Int) (x2 : Int) (x3 : Int) (x4 : Int) : Option PV :=
  runW EE tis_computusref05_Number (confAt EE fn_computusref05_Number 11 (mkT 50 [(0, (.str x0)), (4, (.int Go.IntKind.i64 x1)), (5, (.int Go.IntKind.i64 x2)), (6, (.int Go.IntKind.i64 x3)), (7, (.int Go.IntKind.i64 x4))]) [])
noncomputable def computusref05_Number_c5 (x0 : List UInt8) (x1 : Int) (x2 : Int) (x3 : Int) : Option PV :=
  runW EE tis_computusref05_Number (confAt EE fn_computusref05_Number 5 (mkT 50 [(0, (.str x0)), (4, (.int Go.IntKind.i64 x1)), (5, (.int Go.IntKind.i64 x2)), (6, (.int Go.IntKind.i64 x3))]) [])

noncomputable abbrev tis_computusref05_Lower : List TI := funTI EE fn_computusref05_Lower
noncomputable def computusref05_Lower (a0 : List UInt8) : Option PV := callF EE fn_computusref05_Lower [(.str a0)]
noncomputable def computusref05_Lower_c3 (x0 : List UInt8) (x1 : Int) (x2 : List PV) : Option PV :=
  runW EE tis_computusref05_Lower (confAt EE fn_computusref05_Lower 3 (mkT 29 [(0, (.str x0)), (3, (.lall 0)), (4, (.int Go.IntKind.i64 x1))]) [(.row 1 x2 0 none)])
noncomputable def computusref05_Lower_c7 (x0 : List UInt8) (x1 : Int) (x2 : Int) (x3 : List PV) : Option PV :=
  runW EE tis_computusref05_Lower (confAt EE fn_computusref05_Lower 7 (mkT 29 [(0, (.str x0)), (3, (.lall 0)), (4, (.int Go.IntKind.i64 x1)), (5, (.int Go.IntKind.u8 x2))]) [(.row 1 x3 0 none)])

noncomputable abbrev tis_computusref05_Short : List TI := funTI EE fn_computusref05_Short
noncomputable def computusref05_Short (a0 : List UInt8) (a1 : List PV) : Option PV := callF EE fn_computusref05_Short [(.str a0), (.sl 1 a1)]
noncomputable def computusref05_Short_c2 (x0 : List UInt8) (x1 : List PV) (x2 : Int) : Option PV :=
  runW EE tis_computusref05_Short (confAt EE fn_computusref05_Short 2 (mkT 37 [(0, (.str x0)), (1, (.sl 1 x1)), (5, (.int Go.IntKind.i64 x2))]) [])
noncomputable def computusref05_Short_c4 (x0 : List UInt8) (x1 : List PV) (x2 : Int) : Option PV :=
  runW EE tis_computusref05_Short (confAt EE fn_computusref05_Short 4 (mkT 37 [(0, (.str x0)), (1, (.sl 1 x1)), (5, (.int Go.IntKind.i64 x2))]) [])

noncomputable abbrev tis_strings_Split : List TI := funTI EE fn_strings_Split
noncomputable def strings_Split (a0 : List UInt8) (a1 : List UInt8) : Option PV := callF EE fn_strings_Split [(.str a0), (.str a1)]

noncomputable abbrev tis_stringslite_CutPrefix : List TI := funTI EE fn_stringslite_CutPrefix
noncomputable def stringslite_CutPrefix (a0 : List UInt8) (a1 : List UInt8) : Option PV := callF EE fn_stringslite_CutPrefix [(.str a0), (.str a1)]

noncomputable abbrev tis_civil_Right : List TI := funTI EE fn_civil_Right
noncomputable def civil_Right (a0 : Int) (a1 : Int) (a2 : Int) : Option PV := callF EE fn_civil_Right [(.int Go.IntKind.i64 a0), (.int Go.IntKind.i64 a1), (.int Go.IntKind.i64 a2)]

noncomputable abbrev tis_civil_day : List TI := funTI EE fn_civil_day
noncomputable def civil_day (a0 : Int) (a1 : Int) (a2 : Int) : Option PV := callF EE fn_civil_day [(.int Go.IntKind.i64 a0), (.int Go.IntKind.i64 a1), (.int Go.IntKind.i64 a2)]
noncomputable def civil_day_c3 (x0 : Int) (x1 : Int) (x2 : Int) : Option PV :=
  runW EE tis_civil_day (confAt EE fn_civil_day 3 (mkT 41 [(0, (.int Go.IntKind.i64 x0)), (1, (.int Go.IntKind.i64 x1)), (2, (.int Go.IntKind.i64 x2))]) [])

noncomputable abbrev tis_civil_Weekday : List TI := funTI EE fn_civil_Weekday
noncomputable def civil_Weekday (a0 : Int) : Option PV := callF EE fn_civil_Weekday [(.int Go.IntKind.i64 a0)]

noncomputable abbrev tis_civil_Leap : List TI := funTI EE fn_civil_Leap
noncomputable def civil_Leap (a0 : Int) : Option PV := callF EE fn_civil_Leap [(.int Go.IntKind.i64 a0)]

noncomputable abbrev tis_computusref02_start : List TI := funTI EE fn_computusref02_start
noncomputable def computusref02_start (a0 : Int) : Option PV := callF EE fn_computusref02_start [(.int Go.IntKind.i64 a0)]
noncomputable def computusref02_start_c3 (x0 : Int) (x1 : Int) (x2 : Int) : Option PV :=
  runW EE tis_computusref02_start (confAt EE fn_computusref02_start 3 (mkT 24 [(0, (.int Go.IntKind.i64 x0)), (3, (.int Go.IntKind.i64 x1)), (4, (.int Go.IntKind.i64 x2))]) [])

noncomputable abbrev tis_stringslite_TrimPrefix : List TI := funTI EE fn_stringslite_TrimPrefix
noncomputable def stringslite_TrimPrefix (a0 : List UInt8) (a1 : List UInt8) : Option PV := callF EE fn_stringslite_TrimPrefix [(.str a0), (.str a1)]

noncomputable abbrev tis_clock_digits : List TI := funTI EE fn_clock_digits
noncomputable def clock_digits (a0 : Int) (a1 : Int) : Option PV := callF EE fn_clock_digits [(.int Go.IntKind.u64 a0), (.int Go.IntKind.i64 a1)]
noncomputable def clock_digits_c3 (x0 : Int) (x1 : Int) (x2 : Int) (x3 : List PV) (x4 : Nat) : Option PV :=
  runW EE tis_clock_digits (confAt EE fn_clock_digits 3 (mkT 28 [(0, (.int Go.IntKind.u64 x0)), (1, (.int Go.IntKind.i64 x1)), (5, (.ptr 0 0)), (6, (.int Go.IntKind.i64 x2))]) [(.row 1 x3 0 (some x4))])
noncomputable def clock_digits_c5 (x0 : Int) (x1 : Int) (x2 : Int) (x3 : List PV) (x4 : Nat) : Option PV :=
  runW EE tis_clock_digits (confAt EE fn_clock_digits 5 (mkT 28 [(0, (.int Go.IntKind.u64 x0)), (1, (.int Go.IntKind.i64 x1)), (5, (.ptr 0 0)), (6, (.int Go.IntKind.i64 x2))]) [(.row 1 x3 0 (some x4))])

noncomputable abbrev tis_num_Neg : List TI := funTI EE fn_num_Neg
noncomputable def num_Neg (a0 : Int) : Option PV := callF EE fn_num_Neg [(.int Go.IntKind.i64 a0)]

noncomputable abbrev tis_word_Short : List TI := funTI EE fn_word_Short
noncomputable def word_Short (a0 : List UInt8) (a1 : List PV) : Option PV := callF EE fn_word_Short [(.str a0), (.sl 1 a1)]

noncomputable abbrev tis_word_Number : List TI := funTI EE fn_word_Number
noncomputable def word_Number (a0 : List UInt8) : Option PV := callF EE fn_word_Number [(.str a0)]
noncomputable def word_Number_c3 (x0 : List UInt8) (x1 : Int) (x2 : Int) (x3 : List UInt8) (x4 : Nat) : Option PV :=
  runW EE tis_word_Number (confAt EE fn_word_Number 3 (mkT 37 [(0, (.str x0)), (4, (.int Go.IntKind.i64 x1)), (5, (.int Go.IntKind.i64 x2)), (9, (.ptr 0 0))]) [(.iter x3 x4)])
noncomputable def word_Number_c9 (x0 : List UInt8) (x1 : Int) (x2 : Int) (x3 : Int) (x4 : List UInt8) (x5 : Nat) : Option PV :=
  runW EE tis_word_Number (confAt EE fn_word_Number 9 (mkT 37 [(0, (.str x0)), (4, (.int Go.IntKind.i64 x1)), (5, (.int Go.IntKind.i64 x2)), (7, (.int Go.IntKind.i32 x3)), (9, (.ptr 0 0))]) [(.iter x4 x5)])

noncomputable abbrev tis_computusref05_digit : List TI := funTI EE fn_computusref05_digit
noncomputable def computusref05_digit (a0 : Int) : Option PV := callF EE fn_computusref05_digit [(.int Go.IntKind.u8 a0)]

noncomputable abbrev tis_strings_genSplit : List TI := funTI EE fn_strings_genSplit
noncomputable def strings_genSplit (a0 : List UInt8) (a1 : List UInt8) (a2 : Int) (a3 : Int) : Option PV := callF EE fn_strings_genSplit [(.str a0), (.str a1), (.int Go.IntKind.i64 a2), (.int Go.IntKind.i64 a3)]
noncomputable def strings_genSplit_c7 (x0 : List UInt8) (x1 : List UInt8) (x2 : Int) (x3 : Int) : Option PV :=
  runW EE tis_strings_genSplit (confAt EE fn_strings_genSplit 7 (mkT 66 [(0, (.str x0)), (1, (.str x1)), (2, (.int Go.IntKind.i64 x2)), (3, (.int Go.IntKind.i64 x3))]) [])
noncomputable def strings_genSplit_c11 (x0 : List UInt8) (x1 : List UInt8) (x2 : Int) (x3 : Int) (x4 : Int) (x5 : List PV) (x6 : Nat) : Option PV :=
  runW EE tis_strings_genSplit (confAt EE fn_strings_genSplit 11 (mkT 66 [(0, (.str x0)), (1, (.str x1)), (2, (.int Go.IntKind.i64 x2)), (3, (.int Go.IntKind.i64 x3)), (9, (.lall 0)), (10, (.int Go.IntKind.i64 x4))]) [(.row 1 x5 0 (some x6))])

noncomputable abbrev tis_stringslite_HasPrefix : List TI := funTI EE fn_stringslite_HasPrefix
noncomputable def stringslite_HasPrefix (a0 : List UInt8) (a1 : List UInt8) : Option PV := callF EE fn_stringslite_HasPrefix [(.str a0), (.str a1)]

noncomputable abbrev tis_civil_floor : List TI := funTI EE fn_civil_floor
noncomputable def civil_floor (a0 : Int) (a1 : Int) : Option PV := callF EE fn_civil_floor [(.int Go.IntKind.i64 a0), (.int Go.IntKind.i64 a1)]

noncomputable abbrev tis_computusref02_div : List TI := funTI EE fn_computusref02_div
noncomputable def computusref02_div (a0 : Int) (a1 : Int) : Option PV := callF EE fn_computusref02_div [(.int Go.IntKind.i64 a0), (.int Go.IntKind.i64 a1)]

noncomputable abbrev tis_num_Sub : List TI := funTI EE fn_num_Sub
noncomputable def num_Sub (a0 : Int) (a1 : Int) : Option PV := callF EE fn_num_Sub [(.int Go.IntKind.i64 a0), (.int Go.IntKind.i64 a1)]

noncomputable abbrev tis_slices_IndexFunc_string_string : List TI := funTI EE fn_slices_IndexFunc_string_string
noncomputable def slices_IndexFunc_string_string (a0 : List PV) (a1 : PV) : Option PV := callF EE fn_slices_IndexFunc_string_string [(.sl 1 a0), a1]
noncomputable def slices_IndexFunc_string_string_c2 (x0 : List PV) (x1 : PV) (x2 : Int) (x3 : Int) : Option PV :=
  runW EE tis_slices_IndexFunc_string_string (confAt EE fn_slices_IndexFunc_string_string 2 (mkT 19 [(0, (.sl 1 x0)), (1, (.opq x1 0)), (7, (.int Go.IntKind.i64 x2)), (8, (.int Go.IntKind.i64 x3))]) [])

noncomputable abbrev tis_word_Short_1 : List TI := funTI EE fn_word_Short_1
noncomputable def word_Short_1 (a0 : List UInt8) (q0 : PV) : Option PV := callF EE fn_word_Short_1 [(.str a0), q0]

noncomputable abbrev tis_word_kind : List TI := funTI EE fn_word_kind
noncomputable def word_kind (a0 : Int) : Option PV := callF EE fn_word_kind [(.int Go.IntKind.i32 a0)]
noncomputable def word_kind_c2  : Option PV :=
  runW EE tis_word_kind (confAt EE fn_word_kind 2 (mkT 42 []) [])
noncomputable def word_kind_c3 (x0 : Int) : Option PV :=
  runW EE tis_word_kind (confAt EE fn_word_kind 3 (mkT 42 [(0, (.int Go.IntKind.i32 x0))]) [])
noncomputable def word_kind_c4  : Option PV :=
  runW EE tis_word_kind (confAt EE fn_word_kind 4 (mkT 42 []) [])
noncomputable def word_kind_c5 (x0 : Int) : Option PV :=
  runW EE tis_word_kind (confAt EE fn_word_kind 5 (mkT 42 [(0, (.int Go.IntKind.i32 x0))]) [])
noncomputable def word_kind_c10  : Option PV :=
  runW EE tis_word_kind (confAt EE fn_word_kind 10 (mkT 42 []) [])

noncomputable abbrev tis_num_Mul : List TI := funTI EE fn_num_Mul
noncomputable def num_Mul (a0 : Int) (a1 : Int) : Option PV := callF EE fn_num_Mul [(.int Go.IntKind.i64 a0), (.int Go.IntKind.i64 a1)]

noncomputable abbrev tis_num_Add : List TI := funTI EE fn_num_Add
noncomputable def num_Add (a0 : Int) (a1 : Int) : Option PV := callF EE fn_num_Add [(.int Go.IntKind.i64 a0), (.int Go.IntKind.i64 a1)]

noncomputable abbrev tis_strings_explode : List TI := funTI EE fn_strings_explode
noncomputable def strings_explode (a0 : List UInt8) (a1 : Int) : Option PV := callF EE fn_strings_explode [(.str a0), (.int Go.IntKind.i64 a1)]
noncomputable def strings_explode_c3 (x0 : List UInt8) (x1 : Int) : Option PV :=
  runW EE tis_strings_explode (confAt EE fn_strings_explode 3 (mkT 50 [(0, (.str x0)), (5, (.int Go.IntKind.i64 x1))]) [])
noncomputable def strings_explode_c4 (x0 : List UInt8) (x1 : Int) : Option PV :=
  runW EE tis_strings_explode (confAt EE fn_strings_explode 4 (mkT 50 [(0, (.str x0)), (1, (.int Go.IntKind.i64 x1))]) [])
noncomputable def strings_explode_c6 (x0 : List UInt8) (x1 : Int) (x2 : Int) (x3 : List PV) (x4 : Nat) : Option PV :=
  runW EE tis_strings_explode (confAt EE fn_strings_explode 6 (mkT 50 [(0, (.str x0)), (1, (.int Go.IntKind.i64 x1)), (6, (.lall 0)), (7, (.int Go.IntKind.i64 x2))]) [(.row 1 x3 0 (some x4))])

noncomputable abbrev tis_strings_Count : List TI := funTI EE fn_strings_Count
noncomputable def strings_Count (a0 : List UInt8) (a1 : List UInt8) : Option PV := callF EE fn_strings_Count [(.str a0), (.str a1)]
noncomputable def strings_Count_c6 (x0 : List UInt8) (x1 : List UInt8) (x2 : Int) : Option PV :=
  runW EE tis_strings_Count (confAt EE fn_strings_Count 6 (mkT 34 [(0, (.str x0)), (1, (.str x1)), (5, (.int Go.IntKind.i64 x2))]) [])

noncomputable abbrev tis_strings_Index : List TI := funTI EE fn_strings_Index
noncomputable def strings_Index (a0 : List UInt8) (a1 : List UInt8) : Option PV := callF EE fn_strings_Index [(.str a0), (.str a1)]

noncomputable abbrev tis_num_signed : List TI := funTI EE fn_num_signed
noncomputable def num_signed (a0 : Bool) (a1_0 : Int) (a1_1 : Int) : Option PV := callF EE fn_num_signed [(.bool a0), (.agg [(.int Go.IntKind.u64 a1_0), (.int Go.IntKind.u64 a1_1)])]
noncomputable def num_signed_c5 (x0 : Bool) (x1 : List PV) (x2 : Nat) : Option PV :=
  runW EE tis_num_signed (confAt EE fn_num_signed 5 (mkT 31 [(0, (.bool x0)), (3, (.ptr 0 0))]) [(.row 1 x1 0 (some x2))])

noncomputable abbrev tis_num_product : List TI := funTI EE fn_num_product
noncomputable def num_product (a0 : Int) (a1 : Int) : Option PV := callF EE fn_num_product [(.int Go.IntKind.i64 a0), (.int Go.IntKind.i64 a1)]

noncomputable abbrev tis_utf8_RuneCountInString : List TI := funTI EE fn_utf8_RuneCountInString
noncomputable def utf8_RuneCountInString (a0 : List UInt8) : Option PV := callF EE fn_utf8_RuneCountInString [(.str a0)]
noncomputable def utf8_RuneCountInString_c2 (x0 : Int) (x1 : List UInt8) (x2 : Nat) : Option PV :=
  runW EE tis_utf8_RuneCountInString (confAt EE fn_utf8_RuneCountInString 2 (mkT 10 [(2, (.int Go.IntKind.i64 x0)), (4, (.ptr 0 0))]) [(.iter x1 x2)])

noncomputable abbrev tis_utf8_DecodeRuneInString : List TI := funTI EE fn_utf8_DecodeRuneInString
noncomputable def utf8_DecodeRuneInString (a0 : List UInt8) : Option PV := callF EE fn_utf8_DecodeRuneInString [(.str a0)]

noncomputable abbrev tis_stringslite_Index : List TI := funTI EE fn_stringslite_Index
noncomputable def stringslite_Index (a0 : List UInt8) (a1 : List UInt8) : Option PV := callF EE fn_stringslite_Index [(.str a0), (.str a1)]
noncomputable def stringslite_Index_c3  : Option PV :=
  runW EE tis_stringslite_Index (confAt EE fn_stringslite_Index 3 (mkT 143 []) [])
noncomputable def stringslite_Index_c4 (x0 : List UInt8) (x1 : List UInt8) (x2 : Int) : Option PV :=
  runW EE tis_stringslite_Index (confAt EE fn_stringslite_Index 4 (mkT 143 [(0, (.str x0)), (1, (.str x1)), (5, (.int Go.IntKind.i64 x2))]) [])

noncomputable abbrev tis_bits_Mul64 : List TI := funTI EE fn_bits_Mul64
noncomputable def bits_Mul64 (a0 : Int) (a1 : Int) : Option PV := callF EE fn_bits_Mul64 [(.int Go.IntKind.u64 a0), (.int Go.IntKind.u64 a1)]

noncomputable abbrev tis_num_size : List TI := funTI EE fn_num_size
noncomputable def num_size (a0 : Int) : Option PV := callF EE fn_num_size [(.int Go.IntKind.i64 a0)]

noncomputable abbrev tis_utf8_decodeRuneInStringSlow : List TI := funTI EE fn_utf8_decodeRuneInStringSlow
noncomputable def utf8_decodeRuneInStringSlow (a0 : List UInt8) : Option PV := callF EE fn_utf8_decodeRuneInStringSlow [(.str a0)]

noncomputable abbrev tis_bytealg_Cutover : List TI := funTI EE fn_bytealg_Cutover
noncomputable def bytealg_Cutover (a0 : Int) : Option PV := callF EE fn_bytealg_Cutover [(.int Go.IntKind.i64 a0)]

noncomputable abbrev tis_bytealg_IndexRabinKarp_string : List TI := funTI EE fn_bytealg_IndexRabinKarp_string
noncomputable def bytealg_IndexRabinKarp_string (a0 : List UInt8) (a1 : List UInt8) : Option PV := callF EE fn_bytealg_IndexRabinKarp_string [(.str a0), (.str a1)]
noncomputable def bytealg_IndexRabinKarp_string_c5 (x0 : List UInt8) (x1 : List UInt8) (x2 : Int) (x3 : Int) (x4 : Int) (x5 : Int) (x6 : Int) : Option PV :=
  runW EE tis_bytealg_IndexRabinKarp_string (confAt EE fn_bytealg_IndexRabinKarp_string 5 (mkT 81 [(0, (.str x0)), (1, (.str x1)), (5, (.int Go.IntKind.u32 x2)), (6, (.int Go.IntKind.u32 x3)), (7, (.int Go.IntKind.i64 x4)), (8, (.int Go.IntKind.u32 x5)), (9, (.int Go.IntKind.i64 x6))]) [])
noncomputable def bytealg_IndexRabinKarp_string_c9  : Option PV :=
  runW EE tis_bytealg_IndexRabinKarp_string (confAt EE fn_bytealg_IndexRabinKarp_string 9 (mkT 81 []) [])
noncomputable def bytealg_IndexRabinKarp_string_c10 (x0 : List UInt8) (x1 : List UInt8) (x2 : Int) (x3 : Int) (x4 : Int) (x5 : Int) : Option PV :=
  runW EE tis_bytealg_IndexRabinKarp_string (confAt EE fn_bytealg_IndexRabinKarp_string 10 (mkT 81 [(0, (.str x0)), (1, (.str x1)), (5, (.int Go.IntKind.u32 x2)), (6, (.int Go.IntKind.u32 x3)), (7, (.int Go.IntKind.i64 x4)), (8, (.int Go.IntKind.u32 x5))]) [])
noncomputable def bytealg_IndexRabinKarp_string_c11 (x0 : List UInt8) (x1 : List UInt8) (x2 : Int) (x3 : Int) (x4 : Int) (x5 : Int) (x6 : Int) : Option PV :=
  runW EE tis_bytealg_IndexRabinKarp_string (confAt EE fn_bytealg_IndexRabinKarp_string 11 (mkT 81 [(0, (.str x0)), (1, (.str x1)), (5, (.int Go.IntKind.u32 x2)), (6, (.int Go.IntKind.u32 x3)), (7, (.int Go.IntKind.i64 x4)), (8, (.int Go.IntKind.u32 x5)), (10, (.int Go.IntKind.i64 x6))]) [])

noncomputable abbrev tis_bytealg_hashStr_string : List TI := funTI EE fn_bytealg_hashStr_string
noncomputable def bytealg_hashStr_string (a0 : List UInt8) : Option PV := callF EE fn_bytealg_hashStr_string [(.str a0)]
noncomputable def bytealg_hashStr_string_c3 (x0 : List UInt8) (x1 : Int) (x2 : Int) : Option PV :=
  runW EE tis_bytealg_hashStr_string (confAt EE fn_bytealg_hashStr_string 3 (mkT 39 [(0, (.str x0)), (4, (.int Go.IntKind.u32 x1)), (5, (.int Go.IntKind.i64 x2))]) [])
noncomputable def bytealg_hashStr_string_c8 (x0 : Int) (x1 : Int) (x2 : Int) (x3 : Int) : Option PV :=
  runW EE tis_bytealg_hashStr_string (confAt EE fn_bytealg_hashStr_string 8 (mkT 39 [(4, (.int Go.IntKind.u32 x0)), (6, (.int Go.IntKind.u32 x1)), (7, (.int Go.IntKind.u32 x2)), (8, (.int Go.IntKind.i64 x3))]) [])

noncomputable abbrev tis_when_fixed_right : List TI := funTI EE fn_when_fixed_right
noncomputable def when_fixed_right (a0 : Int) : Option PV := callF EE fn_when_fixed_right [(.int Go.IntKind.i64 a0)]

noncomputable abbrev tis_when_day : List TI := funTI EE fn_when_day
noncomputable def when_day (a0 : Int) : Option PV := callF EE fn_when_day [(.int Go.IntKind.i64 a0)]

noncomputable abbrev tis_when_final_right : List TI := funTI EE fn_when_final_right
noncomputable def when_final_right (a0 : Int) : Option PV := callF EE fn_when_final_right [(.int Go.IntKind.i64 a0)]

noncomputable abbrev tis_when_weekday : List TI := funTI EE fn_when_weekday
noncomputable def when_weekday (a0 : Int) : Option PV := callF EE fn_when_weekday [(.int Go.IntKind.i64 a0)]

noncomputable abbrev tis_when_near_right : List TI := funTI EE fn_when_near_right
noncomputable def when_near_right (a0_0 : Int) (a0_1 : Int) (a0_2 : Int) : Option PV := callF EE fn_when_near_right [(.agg [(.int Go.IntKind.i64 a0_0), (.int Go.IntKind.i64 a0_1), (.int Go.IntKind.i64 a0_2)])]

theorem computuslaw07_WhenReads_eq (a0 : List UInt8) : computuslaw07_WhenReads a0 =
    ((when_ReadOn a0).bind fun v1 => ((computusref07_ReadOn a0).bind fun v2 => ((when_ReadAt a0).bind fun v3 => ((computusref07_ReadAt a0).bind fun v4 => ((when_ReadSave a0).bind fun v5 => ((computusref07_ReadSave a0).bind fun v6 => ((computuslaw07_taken (Dv.PV.toI (Dv.PV.nth (Dv.PV.tnth v1 0) 0)) (Dv.PV.toI (Dv.PV.nth (Dv.PV.tnth v1 0) 1)) (Dv.PV.toI (Dv.PV.nth (Dv.PV.tnth v1 0) 2))).bind fun v7 => (bif ((Dv.eqB (Dv.PV.toI (Dv.PV.nth v7 0)) (Dv.PV.toI (Dv.PV.nth (Dv.PV.tnth v2 0) 0))) && ((Dv.eqB (Dv.PV.toI (Dv.PV.nth v7 1)) (Dv.PV.toI (Dv.PV.nth (Dv.PV.tnth v2 0) 1))) && ((Dv.eqB (Dv.PV.toI (Dv.PV.nth v7 2)) (Dv.PV.toI (Dv.PV.nth (Dv.PV.tnth v2 0) 2))) && Bool.true))) then (bif (Dv.eqB (Dv.PV.toI (Dv.PV.tnth v1 1)) (Dv.PV.toI (Dv.PV.tnth v2 1))) then (bif (Dv.eqB (Dv.PV.toI (Dv.PV.nth (Dv.PV.tnth v3 0) 0)) (Dv.PV.toI (Dv.PV.nth (Dv.PV.tnth v4 0) 0))) then (bif (Dv.eqB (Dv.PV.toI (Dv.PV.nth (Dv.PV.tnth v3 0) 1)) (Dv.PV.toI (Dv.PV.nth (Dv.PV.tnth v4 0) 1))) then (bif (Dv.eqB (Dv.PV.toI (Dv.PV.tnth v3 1)) (Dv.PV.toI (Dv.PV.tnth v4 1))) then (bif (Dv.eqB (Dv.PV.toI (Dv.PV.tnth v5 0)) (Dv.PV.toI (Dv.PV.tnth v6 0))) then (bif (Dv.eqB (Dv.PV.toI (Dv.PV.tnth v5 1)) (Dv.PV.toI (Dv.PV.tnth v6 1))) then ((computuslaw07_known).bind fun v8 => (some (Dv.PV.bool (Dv.PV.toB v8)))) else (some (Dv.PV.bool Bool.false))) else (some (Dv.PV.bool Bool.false))) else (some (Dv.PV.bool Bool.false))) else (some (Dv.PV.bool Bool.false))) else (some (Dv.PV.bool Bool.false))) else (some (Dv.PV.bool Bool.false))) else (some (Dv.PV.bool Bool.false)))))))))) :=
  (callF_eq EE fn_computuslaw07_WhenReads _ rfl).trans (by kernel_rfl)

theorem computuslaw07_WhenDays_eq (a0 : Int) (a1 : Int) (a2_0 : Int) (a2_1 : Int) (a2_2 : Int) : computuslaw07_WhenDays a0 a1 a2_0 a2_1 a2_2 =
    ((computuslaw07_given a2_0 a2_1 a2_2).bind fun v1 => ((when_Day a0 a1 (Dv.PV.toI (Dv.PV.nth v1 0)) (Dv.PV.toI (Dv.PV.nth v1 1)) (Dv.PV.toI (Dv.PV.nth v1 2))).bind fun v2 => ((computusref07_Day a0 a1 a2_0 a2_1 a2_2).bind fun v3 => (bif (Dv.eqB (Dv.PV.toI (Dv.PV.tnth v2 0)) (Dv.PV.toI (Dv.PV.tnth v3 0))) then (bif (Dv.eqB (Dv.PV.toI (Dv.PV.tnth v2 1)) (Dv.PV.toI (Dv.PV.tnth v3 1))) then ((computuslaw07_known).bind fun v4 => (some (Dv.PV.bool (Dv.PV.toB v4)))) else (some (Dv.PV.bool Bool.false))) else (some (Dv.PV.bool Bool.false)))))) :=
  (callF_eq EE fn_computuslaw07_WhenDays _ rfl).trans (by kernel_rfl)

theorem computuslaw07_WhenNear_eq (a0 : Int) (a1 : Int) (a2_0 : Int) (a2_1 : Int) (a2_2 : Int) : computuslaw07_WhenNear a0 a1 a2_0 a2_1 a2_2 =
    ((computuslaw07_given a2_0 a2_1 a2_2).bind fun v1 => ((when_Day a0 a1 (Dv.PV.toI (Dv.PV.nth v1 0)) (Dv.PV.toI (Dv.PV.nth v1 1)) (Dv.PV.toI (Dv.PV.nth v1 2))).bind fun v2 => (bif (!(Dv.eqB (Dv.PV.toI (Dv.PV.tnth v2 1)) (0 : Int))) then (bif (Dv.eqB (Dv.PV.toI (Dv.PV.tnth v2 0)) (0 : Int)) then ((computuslaw07_known).bind fun v3 => (some (Dv.PV.bool (Dv.PV.toB v3)))) else (some (Dv.PV.bool Bool.false))) else ((computusref02_Days a0 a1 (1 : Int)).bind fun v4 => (bif (Dv.eqB a2_0 (0 : Int)) then (bif (Dv.eqB (Dv.PV.toI (Dv.PV.tnth v2 0)) (Go.IntKind.wrap Go.IntKind.i64 ((Go.IntKind.wrap Go.IntKind.i64 ((Dv.PV.toI (Dv.PV.tnth v4 0)) + a2_2)) - (1 : Int)))) then ((computuslaw07_known).bind fun v5 => (some (Dv.PV.bool (Dv.PV.toB v5)))) else (some (Dv.PV.bool Bool.false))) else (bif (Dv.eqB a2_0 (1 : Int)) then ((computusref02_Len a0 a1).bind fun v6 => (bif (Dv.leB (Dv.PV.toI (Dv.PV.tnth v2 0)) (Go.IntKind.wrap Go.IntKind.i64 ((Go.IntKind.wrap Go.IntKind.i64 ((Dv.PV.toI (Dv.PV.tnth v4 0)) + (Dv.PV.toI v6))) - (1 : Int)))) then (bif (Dv.ltB (Go.IntKind.wrap Go.IntKind.i64 ((Go.IntKind.wrap Go.IntKind.i64 ((Go.IntKind.wrap Go.IntKind.i64 ((Dv.PV.toI (Dv.PV.tnth v4 0)) + (Dv.PV.toI v6))) - (1 : Int))) - (7 : Int))) (Dv.PV.toI (Dv.PV.tnth v2 0))) then ((computusref02_Weekday (Dv.PV.toI (Dv.PV.tnth v2 0))).bind fun v7 => (bif (Dv.eqB (Dv.PV.toI v7) a2_1) then ((computuslaw07_known).bind fun v8 => (some (Dv.PV.bool (Dv.PV.toB v8)))) else (some (Dv.PV.bool Bool.false)))) else (some (Dv.PV.bool Bool.false))) else (some (Dv.PV.bool Bool.false)))) else (bif (Dv.eqB a2_0 (2 : Int)) then (bif (Dv.leB (Go.IntKind.wrap Go.IntKind.i64 ((Go.IntKind.wrap Go.IntKind.i64 ((Dv.PV.toI (Dv.PV.tnth v4 0)) + a2_2)) - (1 : Int))) (Dv.PV.toI (Dv.PV.tnth v2 0))) then (bif (Dv.ltB (Dv.PV.toI (Dv.PV.tnth v2 0)) (Go.IntKind.wrap Go.IntKind.i64 ((Go.IntKind.wrap Go.IntKind.i64 ((Dv.PV.toI (Dv.PV.tnth v4 0)) + a2_2)) + (6 : Int)))) then ((computusref02_Weekday (Dv.PV.toI (Dv.PV.tnth v2 0))).bind fun v9 => (bif (Dv.eqB (Dv.PV.toI v9) a2_1) then ((computuslaw07_known).bind fun v10 => (some (Dv.PV.bool (Dv.PV.toB v10)))) else (some (Dv.PV.bool Bool.false)))) else (some (Dv.PV.bool Bool.false))) else (some (Dv.PV.bool Bool.false))) else (bif (Dv.leB (Dv.PV.toI (Dv.PV.tnth v2 0)) (Go.IntKind.wrap Go.IntKind.i64 ((Go.IntKind.wrap Go.IntKind.i64 ((Dv.PV.toI (Dv.PV.tnth v4 0)) + a2_2)) - (1 : Int)))) then (bif (Dv.ltB (Go.IntKind.wrap Go.IntKind.i64 ((Go.IntKind.wrap Go.IntKind.i64 ((Dv.PV.toI (Dv.PV.tnth v4 0)) + a2_2)) - (8 : Int))) (Dv.PV.toI (Dv.PV.tnth v2 0))) then ((computusref02_Weekday (Dv.PV.toI (Dv.PV.tnth v2 0))).bind fun v11 => (bif (Dv.eqB (Dv.PV.toI v11) a2_1) then ((computuslaw07_known).bind fun v12 => (some (Dv.PV.bool (Dv.PV.toB v12)))) else (some (Dv.PV.bool Bool.false)))) else (some (Dv.PV.bool Bool.false))) else (some (Dv.PV.bool Bool.false)))))))))) :=
  (callF_eq EE fn_computuslaw07_WhenNear _ rfl).trans (by kernel_rfl)

theorem computuslaw07_WhenWeek_eq (a0 : Int) (a1 : Int) (a2_0 : Int) (a2_1 : Int) (a2_2 : Int) : computuslaw07_WhenWeek a0 a1 a2_0 a2_1 a2_2 =
    ((computuslaw07_given a2_0 a2_1 a2_2).bind fun v9 => ((when_Day a0 a1 (Dv.PV.toI (Dv.PV.nth v9 0)) (Dv.PV.toI (Dv.PV.nth v9 1)) (Dv.PV.toI (Dv.PV.nth v9 2))).bind fun v10 => (bif (!(Dv.eqB (Dv.PV.toI (Dv.PV.tnth v10 1)) (0 : Int))) then computuslaw07_WhenWeek_c3 else (bif (Dv.ltB a2_0 (2 : Int)) then computuslaw07_WhenWeek_c3 else (computuslaw07_WhenWeek_c4 a0 a1 (Dv.PV.toI (Dv.PV.tnth v10 0)) a2_0 a2_1 a2_2))))) :=
  (callF_eq EE fn_computuslaw07_WhenWeek _ rfl).trans (by kernel_rfl)
theorem computuslaw07_WhenWeek_c3_eq  : computuslaw07_WhenWeek_c3  =
    ((computuslaw07_known).bind fun v11 => (some (Dv.PV.bool (Dv.PV.toB v11)))) :=
  (runW_eq EE _ _).trans (by kernel_rfl)
theorem computuslaw07_WhenWeek_c4_eq (x0 : Int) (x1 : Int) (x2 : Int) (x3 : Int) (x4 : Int) (x5 : Int) : computuslaw07_WhenWeek_c4 x0 x1 x2 x3 x4 x5 =
    (bif (Dv.leB (Go.IntKind.wrap Go.IntKind.i64 (x5 + (7 : Int))) (31 : Int)) then ((computuslaw07_given x3 x4 (Go.IntKind.wrap Go.IntKind.i64 (x5 + (7 : Int)))).bind fun v12 => ((when_Day x0 x1 (Dv.PV.toI (Dv.PV.nth v12 0)) (Dv.PV.toI (Dv.PV.nth v12 1)) (Dv.PV.toI (Dv.PV.nth v12 2))).bind fun v13 => (bif (!(Dv.eqB (Dv.PV.toI (Dv.PV.tnth v13 1)) (0 : Int))) then computuslaw07_WhenWeek_c9 else (bif (!(Dv.eqB (Dv.PV.toI (Dv.PV.tnth v13 0)) (Go.IntKind.wrap Go.IntKind.i64 (x2 + (7 : Int))))) then computuslaw07_WhenWeek_c9 else (computuslaw07_WhenWeek_c10 x0 x1 x2 x3 x4 x5 x3 x4 (Go.IntKind.wrap Go.IntKind.i64 (x5 + (7 : Int)))))))) else (computuslaw07_WhenWeek_c10 x0 x1 x2 x3 x4 x5 x3 x4 (Go.IntKind.wrap Go.IntKind.i64 (x5 + (7 : Int))))) :=
  (runW_eq EE _ _).trans (by kernel_rfl)
theorem computuslaw07_WhenWeek_c9_eq  : computuslaw07_WhenWeek_c9  =
    (some (Dv.PV.bool Bool.false)) :=
  (runW_eq EE _ _).trans (by kernel_rfl)
theorem computuslaw07_WhenWeek_c10_eq (x0 : Int) (x1 : Int) (x2 : Int) (x3 : Int) (x4 : Int) (x5 : Int) (x6 : Int) (x7 : Int) (x8 : Int) : computuslaw07_WhenWeek_c10 x0 x1 x2 x3 x4 x5 x6 x7 x8 =
    (bif (!(Dv.eqB x3 (3 : Int))) then computuslaw07_WhenWeek_c12 else (bif (Dv.ltB (Go.IntKind.wrap Go.IntKind.i64 (x5 - (6 : Int))) (1 : Int)) then computuslaw07_WhenWeek_c12 else (computuslaw07_WhenWeek_c13 x0 x1 x2 x6 x7 (Go.IntKind.wrap Go.IntKind.i64 (x5 - (6 : Int)))))) :=
  (runW_eq EE _ _).trans (by kernel_rfl)
theorem computuslaw07_WhenWeek_c12_eq  : computuslaw07_WhenWeek_c12  =
    ((computuslaw07_known).bind fun v14 => (some (Dv.PV.bool (Dv.PV.toB v14)))) :=
  (runW_eq EE _ _).trans (by kernel_rfl)
theorem computuslaw07_WhenWeek_c13_eq (x0 : Int) (x1 : Int) (x2 : Int) (x3 : Int) (x4 : Int) (x5 : Int) : computuslaw07_WhenWeek_c13 x0 x1 x2 x3 x4 x5 =
    ((computuslaw07_given (2 : Int) x4 x5).bind fun v15 => ((when_Day x0 x1 (Dv.PV.toI (Dv.PV.nth v15 0)) (Dv.PV.toI (Dv.PV.nth v15 1)) (Dv.PV.toI (Dv.PV.nth v15 2))).bind fun v16 => (bif (Dv.eqB (Dv.PV.toI (Dv.PV.tnth v16 1)) (0 : Int)) then (bif (Dv.eqB (Dv.PV.toI (Dv.PV.tnth v16 0)) x2) then ((computuslaw07_known).bind fun v17 => (some (Dv.PV.bool (Dv.PV.toB v17)))) else (some (Dv.PV.bool Bool.false))) else (some (Dv.PV.bool Bool.false))))) :=
  (runW_eq EE _ _).trans (by kernel_rfl)

theorem computuslaw07_WhenTexts_eq (a0_0 : Int) (a0_1 : Int) (a0_2 : Int) (a1_0 : Int) (a1_1 : Int) : computuslaw07_WhenTexts a0_0 a0_1 a0_2 a1_0 a1_1 =
    ((computuslaw07_given a0_0 a0_1 a0_2).bind fun v5 => ((when_TextOn (Dv.PV.toI (Dv.PV.nth v5 0)) (Dv.PV.toI (Dv.PV.nth v5 1)) (Dv.PV.toI (Dv.PV.nth v5 2))).bind fun v6 => ((computusref07_TextOn a0_0 a0_1 a0_2).bind fun v7 => ((when_TextAt a1_0 a1_1).bind fun v8 => ((computusref07_TextAt a1_0 a1_1).bind fun v9 => (bif (!(Dv.eqS (Dv.PV.toS (Dv.PV.tnth v6 0)) (Dv.PV.toS (Dv.PV.tnth v7 0)))) then computuslaw07_WhenTexts_c6 else (bif (!(Dv.eqB (Dv.PV.toI (Dv.PV.tnth v6 1)) (Dv.PV.toI (Dv.PV.tnth v7 1)))) then computuslaw07_WhenTexts_c6 else (bif (!(Dv.eqS (Dv.PV.toS (Dv.PV.tnth v8 0)) (Dv.PV.toS (Dv.PV.tnth v9 0)))) then computuslaw07_WhenTexts_c6 else (bif (!(Dv.eqB (Dv.PV.toI (Dv.PV.tnth v8 1)) (Dv.PV.toI (Dv.PV.tnth v9 1)))) then computuslaw07_WhenTexts_c6 else (computuslaw07_WhenTexts_c7 (Dv.PV.toS (Dv.PV.tnth v7 0)) (Dv.PV.toI (Dv.PV.tnth v7 1)) (Dv.PV.toS (Dv.PV.tnth v9 0)) (Dv.PV.toI (Dv.PV.tnth v9 1)) a0_0 a0_1 a0_2 a1_0 a1_1)))))))))) :=
  (callF_eq EE fn_computuslaw07_WhenTexts _ rfl).trans (by kernel_rfl)
theorem computuslaw07_WhenTexts_c6_eq  : computuslaw07_WhenTexts_c6  =
    (some (Dv.PV.bool Bool.false)) :=
  (runW_eq EE _ _).trans (by kernel_rfl)
theorem computuslaw07_WhenTexts_c7_eq (x0 : List UInt8) (x1 : Int) (x2 : List UInt8) (x3 : Int) (x4 : Int) (x5 : Int) (x6 : Int) (x7 : Int) (x8 : Int) : computuslaw07_WhenTexts_c7 x0 x1 x2 x3 x4 x5 x6 x7 x8 =
    (bif (Dv.eqB x1 (0 : Int)) then ((when_ReadOn x0).bind fun v10 => ((computuslaw07_taken (Dv.PV.toI (Dv.PV.nth (Dv.PV.tnth v10 0) 0)) (Dv.PV.toI (Dv.PV.nth (Dv.PV.tnth v10 0) 1)) (Dv.PV.toI (Dv.PV.nth (Dv.PV.tnth v10 0) 2))).bind fun v11 => (bif (!((Dv.eqB (Dv.PV.toI (Dv.PV.nth v11 0)) x4) && ((Dv.eqB (Dv.PV.toI (Dv.PV.nth v11 1)) x5) && ((Dv.eqB (Dv.PV.toI (Dv.PV.nth v11 2)) x6) && Bool.true)))) then computuslaw07_WhenTexts_c10 else (bif (!(Dv.eqB (Dv.PV.toI (Dv.PV.tnth v10 1)) (0 : Int))) then computuslaw07_WhenTexts_c10 else (computuslaw07_WhenTexts_c11 x2 x3 x7 x8))))) else (computuslaw07_WhenTexts_c11 x2 x3 x7 x8)) :=
  (runW_eq EE _ _).trans (by kernel_rfl)
theorem computuslaw07_WhenTexts_c10_eq  : computuslaw07_WhenTexts_c10  =
    (some (Dv.PV.bool Bool.false)) :=
  (runW_eq EE _ _).trans (by kernel_rfl)
theorem computuslaw07_WhenTexts_c11_eq (x0 : List UInt8) (x1 : Int) (x2 : Int) (x3 : Int) : computuslaw07_WhenTexts_c11 x0 x1 x2 x3 =
    (bif (Dv.eqB x1 (0 : Int)) then ((when_ReadAt x0).bind fun v12 => (bif (!(Dv.eqB (Dv.PV.toI (Dv.PV.nth (Dv.PV.tnth v12 0) 0)) x2)) then (some (Dv.PV.bool Bool.false)) else (bif (!(Dv.eqB (Dv.PV.toI (Dv.PV.nth (Dv.PV.tnth v12 0) 1)) x3)) then (some (Dv.PV.bool Bool.false)) else (bif (!(Dv.eqB (Dv.PV.toI (Dv.PV.tnth v12 1)) (0 : Int))) then (some (Dv.PV.bool Bool.false)) else ((computuslaw07_known).bind fun v13 => (some (Dv.PV.bool (Dv.PV.toB v13)))))))) else ((computuslaw07_known).bind fun v14 => (some (Dv.PV.bool (Dv.PV.toB v14))))) :=
  (runW_eq EE _ _).trans (by kernel_rfl)

theorem when_ReadOn_eq (a0 : List UInt8) : when_ReadOn a0 =
    (bif (Dv.ltB (4 : Int) (((List.length a0) : Nat) : Int)) then ((Dv.takeS a0 (4 : Int)).bind fun v13 => ((word_Same v13 [(108 : UInt8), (97 : UInt8), (115 : UInt8), (116 : UInt8)]).bind fun v14 => (bif (Dv.PV.toB v14) then (when_ReadOn_c4 a0 (0 : Int) (0 : Int) (0 : Int) (0 : Int) (0 : Int) (0 : Int)) else (when_ReadOn_c5 a0 (0 : Int) (0 : Int) (0 : Int) (0 : Int) (0 : Int) (0 : Int))))) else (when_ReadOn_c5 a0 (0 : Int) (0 : Int) (0 : Int) (0 : Int) (0 : Int) (0 : Int))) :=
  (callF_eq EE fn_when_ReadOn _ rfl).trans (by kernel_rfl)
theorem when_ReadOn_c4_eq (x0 : List UInt8) (x1 : Int) (x2 : Int) (x3 : Int) (x4 : Int) (x5 : Int) (x6 : Int) : when_ReadOn_c4 x0 x1 x2 x3 x4 x5 x6 =
    ((Dv.dropS x0 (4 : Int)).bind fun v15 => ((when_onOf (1 : Int) v15 []).bind fun v16 => (bif (!(Dv.PV.toB (Dv.PV.tnth v16 1))) then (some (Dv.PV.tuple [(Dv.PV.agg [(Dv.PV.int Go.IntKind.i64 (0 : Int)), (Dv.PV.int Go.IntKind.i64 (0 : Int)), (Dv.PV.int Go.IntKind.i64 (0 : Int))]), (Dv.PV.int Go.IntKind.i64 (21 : Int))])) else (some (Dv.PV.tuple [(Dv.PV.agg [(Dv.PV.int Go.IntKind.i64 (Dv.PV.toI (Dv.PV.nth (Dv.PV.tnth v16 0) 0))), (Dv.PV.int Go.IntKind.i64 (Dv.PV.toI (Dv.PV.nth (Dv.PV.tnth v16 0) 1))), (Dv.PV.int Go.IntKind.i64 (Dv.PV.toI (Dv.PV.nth (Dv.PV.tnth v16 0) 2)))]), (Dv.PV.int Go.IntKind.i64 (0 : Int))]))))) :=
  (runW_eq EE _ _).trans (by kernel_rfl)
theorem when_ReadOn_c5_eq (x0 : List UInt8) (x1 : Int) (x2 : Int) (x3 : Int) (x4 : Int) (x5 : Int) (x6 : Int) : when_ReadOn_c5 x0 x1 x2 x3 x4 x5 x6 =
    ((strings_IndexByte x0 (61 : Int)).bind fun v17 => (bif (Dv.ltB (0 : Int) (Dv.PV.toI v17)) then ((Dv.atS x0 (Go.IntKind.wrap Go.IntKind.i64 ((Dv.PV.toI v17) - (1 : Int)))).bind fun v18 => (bif (Dv.eqB v18 (62 : Int)) then (when_ReadOn_c7 x0 (Dv.PV.toI v17) x1 x2 x3 x4 x5 x6) else (when_ReadOn_c8 x0 (Dv.PV.toI v17) x1 x2 x3 x4 x5 x6))) else (when_ReadOn_c8 x0 (Dv.PV.toI v17) x1 x2 x3 x4 x5 x6))) :=
  (runW_eq EE _ _).trans (by kernel_rfl)
theorem when_ReadOn_c7_eq (x0 : List UInt8) (x1 : Int) (x2 : Int) (x3 : Int) (x4 : Int) (x5 : Int) (x6 : Int) (x7 : Int) : when_ReadOn_c7 x0 x1 x2 x3 x4 x5 x6 x7 =
    ((Dv.takeS x0 (Go.IntKind.wrap Go.IntKind.i64 (x1 - (1 : Int)))).bind fun v19 => ((Dv.dropS x0 (Go.IntKind.wrap Go.IntKind.i64 (x1 + (1 : Int)))).bind fun v20 => ((when_pair (2 : Int) v19 v20).bind fun v21 => (bif (!(Dv.PV.toB (Dv.PV.tnth v21 1))) then (some (Dv.PV.tuple [(Dv.PV.agg [(Dv.PV.int Go.IntKind.i64 (0 : Int)), (Dv.PV.int Go.IntKind.i64 (0 : Int)), (Dv.PV.int Go.IntKind.i64 (0 : Int))]), (Dv.PV.int Go.IntKind.i64 (21 : Int))])) else (some (Dv.PV.tuple [(Dv.PV.agg [(Dv.PV.int Go.IntKind.i64 (Dv.PV.toI (Dv.PV.nth (Dv.PV.tnth v21 0) 0))), (Dv.PV.int Go.IntKind.i64 (Dv.PV.toI (Dv.PV.nth (Dv.PV.tnth v21 0) 1))), (Dv.PV.int Go.IntKind.i64 (Dv.PV.toI (Dv.PV.nth (Dv.PV.tnth v21 0) 2)))]), (Dv.PV.int Go.IntKind.i64 (0 : Int))])))))) :=
  (runW_eq EE _ _).trans (by kernel_rfl)
theorem when_ReadOn_c8_eq (x0 : List UInt8) (x1 : Int) (x2 : Int) (x3 : Int) (x4 : Int) (x5 : Int) (x6 : Int) (x7 : Int) : when_ReadOn_c8 x0 x1 x2 x3 x4 x5 x6 x7 =
    (bif (Dv.ltB (0 : Int) x1) then ((Dv.atS x0 (Go.IntKind.wrap Go.IntKind.i64 (x1 - (1 : Int)))).bind fun v22 => (bif (Dv.eqB v22 (60 : Int)) then (when_ReadOn_c9 x0 x1 x2 x3 x4 x5 x6 x7) else (when_ReadOn_c10 x0 x2 x3 x4 x5 x6 x7))) else (when_ReadOn_c10 x0 x2 x3 x4 x5 x6 x7)) :=
  (runW_eq EE _ _).trans (by kernel_rfl)
theorem when_ReadOn_c9_eq (x0 : List UInt8) (x1 : Int) (x2 : Int) (x3 : Int) (x4 : Int) (x5 : Int) (x6 : Int) (x7 : Int) : when_ReadOn_c9 x0 x1 x2 x3 x4 x5 x6 x7 =
    ((Dv.takeS x0 (Go.IntKind.wrap Go.IntKind.i64 (x1 - (1 : Int)))).bind fun v23 => ((Dv.dropS x0 (Go.IntKind.wrap Go.IntKind.i64 (x1 + (1 : Int)))).bind fun v24 => ((when_pair (3 : Int) v23 v24).bind fun v25 => (bif (!(Dv.PV.toB (Dv.PV.tnth v25 1))) then (some (Dv.PV.tuple [(Dv.PV.agg [(Dv.PV.int Go.IntKind.i64 (0 : Int)), (Dv.PV.int Go.IntKind.i64 (0 : Int)), (Dv.PV.int Go.IntKind.i64 (0 : Int))]), (Dv.PV.int Go.IntKind.i64 (21 : Int))])) else (some (Dv.PV.tuple [(Dv.PV.agg [(Dv.PV.int Go.IntKind.i64 (Dv.PV.toI (Dv.PV.nth (Dv.PV.tnth v25 0) 0))), (Dv.PV.int Go.IntKind.i64 (Dv.PV.toI (Dv.PV.nth (Dv.PV.tnth v25 0) 1))), (Dv.PV.int Go.IntKind.i64 (Dv.PV.toI (Dv.PV.nth (Dv.PV.tnth v25 0) 2)))]), (Dv.PV.int Go.IntKind.i64 (0 : Int))])))))) :=
  (runW_eq EE _ _).trans (by kernel_rfl)
theorem when_ReadOn_c10_eq (x0 : List UInt8) (x1 : Int) (x2 : Int) (x3 : Int) (x4 : Int) (x5 : Int) (x6 : Int) : when_ReadOn_c10 x0 x1 x2 x3 x4 x5 x6 =
    ((when_onOf (0 : Int) [] x0).bind fun v26 => (bif (!(Dv.PV.toB (Dv.PV.tnth v26 1))) then (some (Dv.PV.tuple [(Dv.PV.agg [(Dv.PV.int Go.IntKind.i64 (0 : Int)), (Dv.PV.int Go.IntKind.i64 (0 : Int)), (Dv.PV.int Go.IntKind.i64 (0 : Int))]), (Dv.PV.int Go.IntKind.i64 (21 : Int))])) else (some (Dv.PV.tuple [(Dv.PV.agg [(Dv.PV.int Go.IntKind.i64 (Dv.PV.toI (Dv.PV.nth (Dv.PV.tnth v26 0) 0))), (Dv.PV.int Go.IntKind.i64 (Dv.PV.toI (Dv.PV.nth (Dv.PV.tnth v26 0) 1))), (Dv.PV.int Go.IntKind.i64 (Dv.PV.toI (Dv.PV.nth (Dv.PV.tnth v26 0) 2)))]), (Dv.PV.int Go.IntKind.i64 (0 : Int))])))) :=
  (runW_eq EE _ _).trans (by kernel_rfl)

theorem computusref07_ReadOn_eq (a0 : List UInt8) : computusref07_ReadOn a0 =
    ((computusref07_short a0).bind fun v18 => (bif (Dv.ltB (Dv.PV.toI v18) (0 : Int)) then (bif (Dv.ltB (4 : Int) (((List.length a0) : Nat) : Int)) then ((Dv.takeS a0 (4 : Int)).bind fun v19 => ((computusref05_Same v19 [(108 : UInt8), (97 : UInt8), (115 : UInt8), (116 : UInt8)]).bind fun v20 => (bif (Dv.PV.toB v20) then (computusref07_ReadOn_c5 a0 (0 : Int) (0 : Int) (0 : Int) (-1 : Int) (0 : Int) (0 : Int)) else (computusref07_ReadOn_c6 a0 (0 : Int) (0 : Int) (0 : Int) (-1 : Int) (0 : Int) (0 : Int))))) else (computusref07_ReadOn_c6 a0 (0 : Int) (0 : Int) (0 : Int) (-1 : Int) (0 : Int) (0 : Int))) else (computusref07_ReadOn_c13 (0 : Int) (0 : Int) (0 : Int) (0 : Int) (0 : Int) (Dv.PV.toI v18)))) :=
  (callF_eq EE fn_computusref07_ReadOn _ rfl).trans (by kernel_rfl)
theorem computusref07_ReadOn_c5_eq (x0 : List UInt8) (x1 : Int) (x2 : Int) (x3 : Int) (x4 : Int) (x5 : Int) (x6 : Int) : computusref07_ReadOn_c5 x0 x1 x2 x3 x4 x5 x6 =
    ((Dv.dropS x0 (4 : Int)).bind fun v21 => ((computusref05_Day v21).bind fun v22 => (computusref07_ReadOn_c13 x1 x2 x3 (1 : Int) (Dv.PV.toI v22) (0 : Int)))) :=
  (runW_eq EE _ _).trans (by kernel_rfl)
theorem computusref07_ReadOn_c6_eq (x0 : List UInt8) (x1 : Int) (x2 : Int) (x3 : Int) (x4 : Int) (x5 : Int) (x6 : Int) : computusref07_ReadOn_c6 x0 x1 x2 x3 x4 x5 x6 =
    (computusref07_ReadOn_c7 x0 (0 : Int) x1 x2 x3 x4 x5 x6) :=
  (runW_eq EE _ _).trans (by kernel_rfl)
theorem computusref07_ReadOn_c13_eq (x0 : Int) (x1 : Int) (x2 : Int) (x3 : Int) (x4 : Int) (x5 : Int) : computusref07_ReadOn_c13 x0 x1 x2 x3 x4 x5 =
    ((computusref07_RightOn x3 x4 x5).bind fun v23 => (bif (!(Dv.PV.toB v23)) then (some (Dv.PV.tuple [(Dv.PV.agg [(Dv.PV.int Go.IntKind.i64 (0 : Int)), (Dv.PV.int Go.IntKind.i64 (0 : Int)), (Dv.PV.int Go.IntKind.i64 (0 : Int))]), (Dv.PV.int Go.IntKind.i64 (21 : Int))])) else (some (Dv.PV.tuple [(Dv.PV.agg [(Dv.PV.int Go.IntKind.i64 x3), (Dv.PV.int Go.IntKind.i64 x4), (Dv.PV.int Go.IntKind.i64 x5)]), (Dv.PV.int Go.IntKind.i64 (0 : Int))])))) :=
  (runW_eq EE _ _).trans (by kernel_rfl)
theorem computusref07_ReadOn_c7_eq (x0 : List UInt8) (x1 : Int) (x2 : Int) (x3 : Int) (x4 : Int) (x5 : Int) (x6 : Int) (x7 : Int) : computusref07_ReadOn_c7 x0 x1 x2 x3 x4 x5 x6 x7 =
    (bif (Dv.ltB (Go.IntKind.wrap Go.IntKind.i64 (x1 + (1 : Int))) (((List.length x0) : Nat) : Int)) then ((Dv.atS x0 (Go.IntKind.wrap Go.IntKind.i64 (x1 + (1 : Int)))).bind fun v24 => (bif (Dv.eqB v24 (61 : Int)) then ((Dv.atS x0 x1).bind fun v25 => (bif (Dv.eqB v25 (62 : Int)) then (computusref07_ReadOn_c10 x0 x1 x2 x3 x4 x5 x6 x7) else ((Dv.atS x0 x1).bind fun v26 => (bif (Dv.eqB v26 (60 : Int)) then (computusref07_ReadOn_c10 x0 x1 x2 x3 x4 x5 x6 x7) else (computusref07_ReadOn_c8 x0 x1 x2 x3 x4 x5 x6 x7))))) else (computusref07_ReadOn_c8 x0 x1 x2 x3 x4 x5 x6 x7))) else (computusref07_ReadOn_c13 x2 x3 x4 x5 x6 x7)) :=
  (runW_eq EE _ _).trans (by kernel_rfl)
theorem computusref07_ReadOn_c10_eq (x0 : List UInt8) (x1 : Int) (x2 : Int) (x3 : Int) (x4 : Int) (x5 : Int) (x6 : Int) (x7 : Int) : computusref07_ReadOn_c10 x0 x1 x2 x3 x4 x5 x6 x7 =
    ((Dv.takeS x0 x1).bind fun v27 => ((computusref05_Day v27).bind fun v28 => ((Dv.dropS x0 (Go.IntKind.wrap Go.IntKind.i64 (x1 + (2 : Int)))).bind fun v29 => ((computusref07_short v29).bind fun v30 => ((Dv.atS x0 x1).bind fun v31 => (bif (Dv.eqB v31 (60 : Int)) then (computusref07_ReadOn_c13 x2 x3 x4 (3 : Int) (Dv.PV.toI v28) (Dv.PV.toI v30)) else (computusref07_ReadOn_c13 x2 x3 x4 (2 : Int) (Dv.PV.toI v28) (Dv.PV.toI v30)))))))) :=
  (runW_eq EE _ _).trans (by kernel_rfl)
theorem computusref07_ReadOn_c8_eq (x0 : List UInt8) (x1 : Int) (x2 : Int) (x3 : Int) (x4 : Int) (x5 : Int) (x6 : Int) (x7 : Int) : computusref07_ReadOn_c8 x0 x1 x2 x3 x4 x5 x6 x7 =
    (computusref07_ReadOn_c7 x0 (Go.IntKind.wrap Go.IntKind.i64 (x1 + (1 : Int))) x2 x3 x4 x5 x6 x7) :=
  (runW_eq EE _ _).trans (by kernel_rfl)

theorem when_ReadAt_eq (a0 : List UInt8) : when_ReadAt a0 =
    (bif (Dv.eqS a0 [(45 : UInt8)]) then (some (Dv.PV.tuple [(Dv.PV.agg [(Dv.PV.int Go.IntKind.i64 (0 : Int)), (Dv.PV.int Go.IntKind.u8 (119 : Int))]), (Dv.PV.int Go.IntKind.i64 (0 : Int))])) else (when_ReadAt_c5 a0 (0 : Int) (0 : Int) (0 : Int) (119 : Int) a0 0)) :=
  (callF_eq EE fn_when_ReadAt _ rfl).trans (by kernel_rfl)
theorem when_ReadAt_c5_eq (x0 : List UInt8) (x1 : Int) (x2 : Int) (x3 : Int) (x4 : Int) (x5 : List UInt8) (x6 : Nat) : when_ReadAt_c5 x0 x1 x2 x3 x4 x5 x6 =
    (bif (Dv.ltN x6 (List.length x5)) then (bif (Dv.ltB ((x6 : Nat) : Int) (Go.IntKind.wrap Go.IntKind.i64 ((((List.length x0) : Nat) : Int) - (1 : Int)))) then (when_ReadAt_c5 x0 x1 x2 x3 x4 x5 (x6 + ((Dv.decR x5 x6).2))) else (bif (Dv.eqB ((((Dv.decR x5 x6).1) : Nat) : Int) (103 : Int)) then (when_ReadAt_c14 x0 ((x6 : Nat) : Int) x1 x2 x3 x4 x5 (x6 + ((Dv.decR x5 x6).2))) else (bif (Dv.eqB ((((Dv.decR x5 x6).1) : Nat) : Int) (122 : Int)) then (when_ReadAt_c14 x0 ((x6 : Nat) : Int) x1 x2 x3 x4 x5 (x6 + ((Dv.decR x5 x6).2))) else (when_ReadAt_c11 x0 ((x6 : Nat) : Int) ((((Dv.decR x5 x6).1) : Nat) : Int) ((((Dv.decR x5 x6).1) : Nat) : Int) x1 x2 x3 x4 x5 (x6 + ((Dv.decR x5 x6).2)))))) else ((when_seconds x0).bind fun v15 => (bif (!(Dv.PV.toB (Dv.PV.tnth v15 1))) then (some (Dv.PV.tuple [(Dv.PV.agg [(Dv.PV.int Go.IntKind.i64 (0 : Int)), (Dv.PV.int Go.IntKind.u8 (0 : Int))]), (Dv.PV.int Go.IntKind.i64 (21 : Int))])) else ((when_At_right (Dv.PV.toI (Dv.PV.tnth v15 0)) x4).bind fun v16 => (bif (!(Dv.PV.toB v16)) then (some (Dv.PV.tuple [(Dv.PV.agg [(Dv.PV.int Go.IntKind.i64 (0 : Int)), (Dv.PV.int Go.IntKind.u8 (0 : Int))]), (Dv.PV.int Go.IntKind.i64 (21 : Int))])) else (some (Dv.PV.tuple [(Dv.PV.agg [(Dv.PV.int Go.IntKind.i64 (Dv.PV.toI (Dv.PV.tnth v15 0))), (Dv.PV.int Go.IntKind.u8 x4)]), (Dv.PV.int Go.IntKind.i64 (0 : Int))]))))))) :=
  (runW_eq EE _ _).trans (by kernel_rfl)
theorem when_ReadAt_c14_eq (x0 : List UInt8) (x1 : Int) (x2 : Int) (x3 : Int) (x4 : Int) (x5 : Int) (x6 : List UInt8) (x7 : Nat) : when_ReadAt_c14 x0 x1 x2 x3 x4 x5 x6 x7 =
    (when_ReadAt_c15 x0 x1 (117 : Int) x2 x3 x4 x5 x6 x7) :=
  (runW_eq EE _ _).trans (by kernel_rfl)
theorem when_ReadAt_c11_eq (x0 : List UInt8) (x1 : Int) (x2 : Int) (x3 : Int) (x4 : Int) (x5 : Int) (x6 : Int) (x7 : Int) (x8 : List UInt8) (x9 : Nat) : when_ReadAt_c11 x0 x1 x2 x3 x4 x5 x6 x7 x8 x9 =
    (bif (Dv.eqB x3 (119 : Int)) then (when_ReadAt_c15 x0 x1 x2 x4 x5 x6 x7 x8 x9) else (bif (Dv.eqB x3 (115 : Int)) then (when_ReadAt_c15 x0 x1 x2 x4 x5 x6 x7 x8 x9) else (bif (Dv.eqB x3 (117 : Int)) then (when_ReadAt_c15 x0 x1 x2 x4 x5 x6 x7 x8 x9) else (when_ReadAt_c5 x0 x4 x5 x6 x7 x8 x9)))) :=
  (runW_eq EE _ _).trans (by kernel_rfl)
theorem when_ReadAt_c15_eq (x0 : List UInt8) (x1 : Int) (x2 : Int) (x3 : Int) (x4 : Int) (x5 : Int) (x6 : Int) (x7 : List UInt8) (x8 : Nat) : when_ReadAt_c15 x0 x1 x2 x3 x4 x5 x6 x7 x8 =
    ((Dv.takeS x0 x1).bind fun v17 => (when_ReadAt_c5 v17 x3 x4 x5 (Go.IntKind.wrap Go.IntKind.u8 x2) x7 x8)) :=
  (runW_eq EE _ _).trans (by kernel_rfl)

theorem computusref07_ReadAt_eq (a0 : List UInt8) : computusref07_ReadAt a0 =
    (bif (Dv.eqS a0 [(45 : UInt8)]) then (some (Dv.PV.tuple [(Dv.PV.agg [(Dv.PV.int Go.IntKind.i64 (0 : Int)), (Dv.PV.int Go.IntKind.u8 (119 : Int))]), (Dv.PV.int Go.IntKind.i64 (0 : Int))])) else (bif (Dv.ltB (0 : Int) (((List.length a0) : Nat) : Int)) then ((Dv.atS a0 (Go.IntKind.wrap Go.IntKind.i64 ((((List.length a0) : Nat) : Int) - (1 : Int)))).bind fun v27 => (bif (Dv.eqB v27 (119 : Int)) then (computusref07_ReadAt_c7 a0 v27 (0 : Int) (0 : Int) (0 : Int) (119 : Int)) else (bif (Dv.eqB v27 (115 : Int)) then (computusref07_ReadAt_c7 a0 v27 (0 : Int) (0 : Int) (0 : Int) (119 : Int)) else (bif (Dv.eqB v27 (117 : Int)) then (computusref07_ReadAt_c7 a0 v27 (0 : Int) (0 : Int) (0 : Int) (119 : Int)) else (bif (Dv.eqB v27 (103 : Int)) then (computusref07_ReadAt_c7 a0 v27 (0 : Int) (0 : Int) (0 : Int) (119 : Int)) else (bif (Dv.eqB v27 (122 : Int)) then (computusref07_ReadAt_c7 a0 v27 (0 : Int) (0 : Int) (0 : Int) (119 : Int)) else (computusref07_ReadAt_c9 a0 (0 : Int) (0 : Int) (0 : Int) (119 : Int)))))))) else (computusref07_ReadAt_c9 a0 (0 : Int) (0 : Int) (0 : Int) (119 : Int)))) :=
  (callF_eq EE fn_computusref07_ReadAt _ rfl).trans (by kernel_rfl)
theorem computusref07_ReadAt_c7_eq (x0 : List UInt8) (x1 : Int) (x2 : Int) (x3 : Int) (x4 : Int) (x5 : Int) : computusref07_ReadAt_c7 x0 x1 x2 x3 x4 x5 =
    ((Dv.takeS x0 (Go.IntKind.wrap Go.IntKind.i64 ((((List.length x0) : Nat) : Int) - (1 : Int)))).bind fun v28 => (computusref07_ReadAt_c9 v28 x2 x3 x4 x1)) :=
  (runW_eq EE _ _).trans (by kernel_rfl)
theorem computusref07_ReadAt_c9_eq (x0 : List UInt8) (x1 : Int) (x2 : Int) (x3 : Int) (x4 : Int) : computusref07_ReadAt_c9 x0 x1 x2 x3 x4 =
    (bif (Dv.eqB x4 (103 : Int)) then (computusref07_ReadAt_c10 x0 x1 x2 x3 x4) else (bif (Dv.eqB x4 (122 : Int)) then (computusref07_ReadAt_c10 x0 x1 x2 x3 x4) else (computusref07_ReadAt_c11 x0 x1 x2 x3 x4))) :=
  (runW_eq EE _ _).trans (by kernel_rfl)
theorem computusref07_ReadAt_c10_eq (x0 : List UInt8) (x1 : Int) (x2 : Int) (x3 : Int) (x4 : Int) : computusref07_ReadAt_c10 x0 x1 x2 x3 x4 =
    (computusref07_ReadAt_c11 x0 x1 x2 x3 (117 : Int)) :=
  (runW_eq EE _ _).trans (by kernel_rfl)
theorem computusref07_ReadAt_c11_eq (x0 : List UInt8) (x1 : Int) (x2 : Int) (x3 : Int) (x4 : Int) : computusref07_ReadAt_c11 x0 x1 x2 x3 x4 =
    ((computusref07_sec x0).bind fun v29 => ((computusref07_RightAt (Dv.PV.toI v29) x4).bind fun v30 => (bif (!(Dv.PV.toB v30)) then (some (Dv.PV.tuple [(Dv.PV.agg [(Dv.PV.int Go.IntKind.i64 (0 : Int)), (Dv.PV.int Go.IntKind.u8 (0 : Int))]), (Dv.PV.int Go.IntKind.i64 (21 : Int))])) else (some (Dv.PV.tuple [(Dv.PV.agg [(Dv.PV.int Go.IntKind.i64 (Dv.PV.toI v29)), (Dv.PV.int Go.IntKind.u8 x4)]), (Dv.PV.int Go.IntKind.i64 (0 : Int))]))))) :=
  (runW_eq EE _ _).trans (by kernel_rfl)

theorem when_ReadSave_eq (a0 : List UInt8) : when_ReadSave a0 =
    (bif (Dv.eqS a0 [(45 : UInt8)]) then (some (Dv.PV.tuple [(Dv.PV.int Go.IntKind.i64 (0 : Int)), (Dv.PV.int Go.IntKind.i64 (0 : Int))])) else ((strings_CutPrefix a0 [(45 : UInt8)]).bind fun v32 => ((when_seconds (Dv.PV.toS (Dv.PV.tnth v32 0))).bind fun v33 => (bif (!(Dv.PV.toB (Dv.PV.tnth v33 1))) then (some (Dv.PV.tuple [(Dv.PV.int Go.IntKind.i64 (0 : Int)), (Dv.PV.int Go.IntKind.i64 (21 : Int))])) else (bif (Dv.ltB (86400 : Int) (Dv.PV.toI (Dv.PV.tnth v33 0))) then (some (Dv.PV.tuple [(Dv.PV.int Go.IntKind.i64 (0 : Int)), (Dv.PV.int Go.IntKind.i64 (21 : Int))])) else (when_ReadSave_c7 (Dv.PV.toB (Dv.PV.tnth v32 1)) (Dv.PV.toI (Dv.PV.tnth v33 0)))))))) :=
  (callF_eq EE fn_when_ReadSave _ rfl).trans (by kernel_rfl)
theorem when_ReadSave_c7_eq (x0 : Bool) (x1 : Int) : when_ReadSave_c7 x0 x1 =
    (bif x0 then (some (Dv.PV.tuple [(Dv.PV.int Go.IntKind.i64 (Go.IntKind.wrap Go.IntKind.i64 ((0 : Int) - x1))), (Dv.PV.int Go.IntKind.i64 (0 : Int))])) else (some (Dv.PV.tuple [(Dv.PV.int Go.IntKind.i64 x1), (Dv.PV.int Go.IntKind.i64 (0 : Int))]))) :=
  (runW_eq EE _ _).trans (by kernel_rfl)

theorem computusref07_ReadSave_eq (a0 : List UInt8) : computusref07_ReadSave a0 =
    (bif (Dv.eqS a0 [(45 : UInt8)]) then (some (Dv.PV.tuple [(Dv.PV.int Go.IntKind.i64 (0 : Int)), (Dv.PV.int Go.IntKind.i64 (0 : Int))])) else (bif (Dv.ltB (0 : Int) (((List.length a0) : Nat) : Int)) then ((Dv.atS a0 (0 : Int)).bind fun v18 => (computusref07_ReadSave_c4 a0 (Dv.eqB v18 (45 : Int)))) else (computusref07_ReadSave_c4 a0 Bool.false))) :=
  (callF_eq EE fn_computusref07_ReadSave _ rfl).trans (by kernel_rfl)
theorem computusref07_ReadSave_c4_eq (x0 : List UInt8) (x1 : Bool) : computusref07_ReadSave_c4 x0 x1 =
    (bif x1 then ((Dv.dropS x0 (1 : Int)).bind fun v19 => (computusref07_ReadSave_c6 v19 x1)) else (computusref07_ReadSave_c6 x0 x1)) :=
  (runW_eq EE _ _).trans (by kernel_rfl)
theorem computusref07_ReadSave_c6_eq (x0 : List UInt8) (x1 : Bool) : computusref07_ReadSave_c6 x0 x1 =
    ((computusref07_sec x0).bind fun v20 => (bif (Dv.ltB (Dv.PV.toI v20) (0 : Int)) then computusref07_ReadSave_c8 else (bif (Dv.ltB (86400 : Int) (Dv.PV.toI v20)) then computusref07_ReadSave_c8 else (bif x1 then (some (Dv.PV.tuple [(Dv.PV.int Go.IntKind.i64 (Go.IntKind.wrap Go.IntKind.i64 ((0 : Int) - (Dv.PV.toI v20)))), (Dv.PV.int Go.IntKind.i64 (0 : Int))])) else (some (Dv.PV.tuple [(Dv.PV.int Go.IntKind.i64 (Dv.PV.toI v20)), (Dv.PV.int Go.IntKind.i64 (0 : Int))])))))) :=
  (runW_eq EE _ _).trans (by kernel_rfl)
theorem computusref07_ReadSave_c8_eq  : computusref07_ReadSave_c8  =
    (some (Dv.PV.tuple [(Dv.PV.int Go.IntKind.i64 (0 : Int)), (Dv.PV.int Go.IntKind.i64 (21 : Int))])) :=
  (runW_eq EE _ _).trans (by kernel_rfl)

theorem computuslaw07_taken_eq (a0_0 : Int) (a0_1 : Int) (a0_2 : Int) : computuslaw07_taken a0_0 a0_1 a0_2 =
    (some (Dv.PV.agg [(Dv.PV.int Go.IntKind.i64 a0_0), (Dv.PV.int Go.IntKind.i64 a0_1), (Dv.PV.int Go.IntKind.i64 a0_2)])) :=
  (callF_eq EE fn_computuslaw07_taken _ rfl).trans (by kernel_rfl)

theorem computuslaw07_known_eq  : computuslaw07_known  =
    ((when_ReadOn [(108 : UInt8), (97 : UInt8), (115 : UInt8), (116 : UInt8), (83 : UInt8), (117 : UInt8), (110 : UInt8)]).bind fun v34 => ((when_Day (2024 : Int) (3 : Int) (Dv.PV.toI (Dv.PV.nth (Dv.PV.tnth v34 0) 0)) (Dv.PV.toI (Dv.PV.nth (Dv.PV.tnth v34 0) 1)) (Dv.PV.toI (Dv.PV.nth (Dv.PV.tnth v34 0) 2))).bind fun v35 => ((computusref02_Days (2024 : Int) (3 : Int) (31 : Int)).bind fun v36 => ((when_ReadAt [(50 : UInt8), (58 : UInt8), (48 : UInt8), (48 : UInt8), (115 : UInt8)]).bind fun v37 => ((when_ReadSave [(45 : UInt8), (49 : UInt8), (58 : UInt8), (48 : UInt8), (48 : UInt8)]).bind fun v38 => (bif (Dv.eqB (Dv.PV.toI (Dv.PV.tnth v34 1)) (0 : Int)) then ((computuslaw07_taken (Dv.PV.toI (Dv.PV.nth (Dv.PV.tnth v34 0) 0)) (Dv.PV.toI (Dv.PV.nth (Dv.PV.tnth v34 0) 1)) (Dv.PV.toI (Dv.PV.nth (Dv.PV.tnth v34 0) 2))).bind fun v39 => (bif ((Dv.eqB (Dv.PV.toI (Dv.PV.nth v39 0)) (1 : Int)) && ((Dv.eqB (Dv.PV.toI (Dv.PV.nth v39 1)) (0 : Int)) && ((Dv.eqB (Dv.PV.toI (Dv.PV.nth v39 2)) (0 : Int)) && Bool.true))) then (bif (Dv.eqB (Dv.PV.toI (Dv.PV.tnth v35 0)) (Dv.PV.toI (Dv.PV.tnth v36 0))) then (bif (Dv.eqB (Dv.PV.toI (Dv.PV.tnth v35 1)) (0 : Int)) then (bif (Dv.eqB (Dv.PV.toI (Dv.PV.nth (Dv.PV.tnth v37 0) 0)) (7200 : Int)) then (bif (Dv.eqB (Dv.PV.toI (Dv.PV.nth (Dv.PV.tnth v37 0) 1)) (115 : Int)) then (bif (Dv.eqB (Dv.PV.toI (Dv.PV.tnth v37 1)) (0 : Int)) then (bif (Dv.eqB (Dv.PV.toI (Dv.PV.tnth v38 0)) (-3600 : Int)) then (some (Dv.PV.bool (Dv.eqB (Dv.PV.toI (Dv.PV.tnth v38 1)) (0 : Int)))) else (some (Dv.PV.bool Bool.false))) else (some (Dv.PV.bool Bool.false))) else (some (Dv.PV.bool Bool.false))) else (some (Dv.PV.bool Bool.false))) else (some (Dv.PV.bool Bool.false))) else (some (Dv.PV.bool Bool.false))) else (some (Dv.PV.bool Bool.false)))) else (some (Dv.PV.bool Bool.false)))))))) :=
  (callF_eq EE fn_computuslaw07_known _ rfl).trans (by kernel_rfl)

theorem when_Day_eq (a0 : Int) (a1 : Int) (a2_0 : Int) (a2_1 : Int) (a2_2 : Int) : when_Day a0 a1 a2_0 a2_1 a2_2 =
    ((when_On_form a2_0 a2_1 a2_2).bind fun v1 => ((Dv.PV.nilOf (Dv.TD.iface Bool.true) (Dv.PV.opq v1 0)).bind fun v2 => (bif v2 then when_Day_c3 else (bif (Dv.ltB a1 (1 : Int)) then when_Day_c3 else (bif (Dv.ltB (12 : Int) a1) then when_Day_c3 else (when_Day_c4 a0 a1 v1)))))) :=
  (callF_eq EE fn_when_Day _ rfl).trans (by kernel_rfl)
theorem when_Day_c3_eq  : when_Day_c3  =
    (some (Dv.PV.tuple [(Dv.PV.int Go.IntKind.i64 (0 : Int)), (Dv.PV.int Go.IntKind.i64 (1 : Int))])) :=
  (runW_eq EE _ _).trans (by kernel_rfl)
theorem when_Day_c4_eq (x0 : Int) (x1 : Int) (x2 : PV) : when_Day_c4 x0 x1 x2 =
    (bif (Dv.leB x0 (-4718 : Int)) then when_Day_c5 else (bif (Dv.leB (294282 : Int) x0) then when_Day_c5 else (when_Day_c6 x0 x1 x2))) :=
  (runW_eq EE _ _).trans (by kernel_rfl)
theorem when_Day_c5_eq  : when_Day_c5  =
    (some (Dv.PV.tuple [(Dv.PV.int Go.IntKind.i64 (0 : Int)), (Dv.PV.int Go.IntKind.i64 (10 : Int))])) :=
  (runW_eq EE _ _).trans (by kernel_rfl)
theorem when_Day_c6_eq (x0 : Int) (x1 : Int) (x2 : PV) : when_Day_c6 x0 x1 x2 =
    ((civil_Days x0 x1 (1 : Int)).bind fun v3 => ((Dv.asT (Dv.tiInt Go.IntKind.i64) ty_when_fixed x2).bind fun v4 => (optCase v4 ((Dv.asT (Dv.tiInt Go.IntKind.i64) ty_when_final x2).bind fun v5 => (optCase v5 ((Dv.asT (EE.ti ty_when_near) ty_when_near x2).bind fun v6 => (v6.bind fun v7 => ((when_to (Go.IntKind.wrap Go.IntKind.i64 ((Go.IntKind.wrap Go.IntKind.i64 ((Dv.PV.toI (Dv.PV.tnth v3 0)) + (Dv.PV.toI (Dv.PV.nth v7 1)))) - (1 : Int))) (Dv.PV.toI (Dv.PV.nth v7 0)) (Dv.PV.toI (Dv.PV.nth v7 2))).bind fun v8 => (some (Dv.PV.tuple [(Dv.PV.int Go.IntKind.i64 (Dv.PV.toI v8)), (Dv.PV.int Go.IntKind.i64 (0 : Int))]))))) fun v9 => ((civil_Len x0 x1).bind fun v10 => ((when_to (Go.IntKind.wrap Go.IntKind.i64 ((Go.IntKind.wrap Go.IntKind.i64 ((Dv.PV.toI (Dv.PV.tnth v3 0)) + (Dv.PV.toI v10))) - (1 : Int))) (Dv.PV.toI v9) (-1 : Int)).bind fun v11 => (some (Dv.PV.tuple [(Dv.PV.int Go.IntKind.i64 (Dv.PV.toI v11)), (Dv.PV.int Go.IntKind.i64 (0 : Int))])))))) fun v12 => (some (Dv.PV.tuple [(Dv.PV.int Go.IntKind.i64 (Go.IntKind.wrap Go.IntKind.i64 ((Go.IntKind.wrap Go.IntKind.i64 ((Dv.PV.toI (Dv.PV.tnth v3 0)) + (Dv.PV.toI v12))) - (1 : Int)))), (Dv.PV.int Go.IntKind.i64 (0 : Int))]))))) :=
  (runW_eq EE _ _).trans (by kernel_rfl)

theorem computuslaw07_given_eq (a0_0 : Int) (a0_1 : Int) (a0_2 : Int) : computuslaw07_given a0_0 a0_1 a0_2 =
    (some (Dv.PV.agg [(Dv.PV.int Go.IntKind.i64 a0_0), (Dv.PV.int Go.IntKind.i64 a0_1), (Dv.PV.int Go.IntKind.i64 a0_2)])) :=
  (callF_eq EE fn_computuslaw07_given _ rfl).trans (by kernel_rfl)

theorem computusref07_Day_eq (a0 : Int) (a1 : Int) (a2_0 : Int) (a2_1 : Int) (a2_2 : Int) : computusref07_Day a0 a1 a2_0 a2_1 a2_2 =
    ((computusref07_RightOn a2_0 a2_1 a2_2).bind fun v40 => (bif (!(Dv.PV.toB v40)) then computusref07_Day_c2 else (bif (Dv.ltB a1 (1 : Int)) then computusref07_Day_c2 else (bif (Dv.ltB (12 : Int) a1) then computusref07_Day_c2 else (computusref07_Day_c3 a0 a1 a2_0 a2_1 a2_2))))) :=
  (callF_eq EE fn_computusref07_Day _ rfl).trans (by kernel_rfl)
theorem computusref07_Day_c2_eq  : computusref07_Day_c2  =
    (some (Dv.PV.tuple [(Dv.PV.int Go.IntKind.i64 (0 : Int)), (Dv.PV.int Go.IntKind.i64 (1 : Int))])) :=
  (runW_eq EE _ _).trans (by kernel_rfl)
theorem computusref07_Day_c3_eq (x0 : Int) (x1 : Int) (x2 : Int) (x3 : Int) (x4 : Int) : computusref07_Day_c3 x0 x1 x2 x3 x4 =
    (bif (Dv.leB x0 (-4718 : Int)) then computusref07_Day_c4 else (bif (Dv.leB (294282 : Int) x0) then computusref07_Day_c4 else (computusref07_Day_c5 x0 x1 x2 x3 x4))) :=
  (runW_eq EE _ _).trans (by kernel_rfl)
theorem computusref07_Day_c4_eq  : computusref07_Day_c4  =
    (some (Dv.PV.tuple [(Dv.PV.int Go.IntKind.i64 (0 : Int)), (Dv.PV.int Go.IntKind.i64 (10 : Int))])) :=
  (runW_eq EE _ _).trans (by kernel_rfl)
theorem computusref07_Day_c5_eq (x0 : Int) (x1 : Int) (x2 : Int) (x3 : Int) (x4 : Int) : computusref07_Day_c5 x0 x1 x2 x3 x4 =
    ((computusref02_Days x0 x1 (1 : Int)).bind fun v41 => (bif (Dv.eqB x2 (1 : Int)) then ((computusref02_Len x0 x1).bind fun v42 => (computusref07_Day_c9 (Go.IntKind.wrap Go.IntKind.i64 ((Go.IntKind.wrap Go.IntKind.i64 ((Dv.PV.toI (Dv.PV.tnth v41 0)) + (Dv.PV.toI v42))) - (1 : Int))) x2 x3 x4)) else (computusref07_Day_c9 (Go.IntKind.wrap Go.IntKind.i64 ((Go.IntKind.wrap Go.IntKind.i64 ((Dv.PV.toI (Dv.PV.tnth v41 0)) + x4)) - (1 : Int))) x2 x3 x4))) :=
  (runW_eq EE _ _).trans (by kernel_rfl)
theorem computusref07_Day_c9_eq (x0 : Int) (x1 : Int) (x2 : Int) (x3 : Int) : computusref07_Day_c9 x0 x1 x2 x3 =
    (computusref07_Day_c10 x0 (0 : Int) x1 x2 x3) :=
  (runW_eq EE _ _).trans (by kernel_rfl)
theorem computusref07_Day_c10_eq (x0 : Int) (x1 : Int) (x2 : Int) (x3 : Int) (x4 : Int) : computusref07_Day_c10 x0 x1 x2 x3 x4 =
    (bif (Dv.ltB x1 (7 : Int)) then (bif (Dv.ltB (0 : Int) x2) then ((computusref02_Weekday x0).bind fun v43 => (bif (!(Dv.eqB (Dv.PV.toI v43) x3)) then (computusref07_Day_c12 x0 x1 x2 x3 x4) else (some (Dv.PV.tuple [(Dv.PV.int Go.IntKind.i64 x0), (Dv.PV.int Go.IntKind.i64 (0 : Int))])))) else (some (Dv.PV.tuple [(Dv.PV.int Go.IntKind.i64 x0), (Dv.PV.int Go.IntKind.i64 (0 : Int))]))) else (some (Dv.PV.tuple [(Dv.PV.int Go.IntKind.i64 x0), (Dv.PV.int Go.IntKind.i64 (0 : Int))]))) :=
  (runW_eq EE _ _).trans (by kernel_rfl)
theorem computusref07_Day_c12_eq (x0 : Int) (x1 : Int) (x2 : Int) (x3 : Int) (x4 : Int) : computusref07_Day_c12 x0 x1 x2 x3 x4 =
    (bif (Dv.eqB x2 (2 : Int)) then (computusref07_Day_c10 (Go.IntKind.wrap Go.IntKind.i64 (x0 + (1 : Int))) (Go.IntKind.wrap Go.IntKind.i64 (x1 + (1 : Int))) x2 x3 x4) else (computusref07_Day_c10 (Go.IntKind.wrap Go.IntKind.i64 (x0 - (1 : Int))) (Go.IntKind.wrap Go.IntKind.i64 (x1 + (1 : Int))) x2 x3 x4)) :=
  (runW_eq EE _ _).trans (by kernel_rfl)

theorem computusref02_Days_eq (a0 : Int) (a1 : Int) (a2 : Int) : computusref02_Days a0 a1 a2 =
    ((computusref02_Right a0 a1 a2).bind fun v33 => (bif (!(Dv.PV.toB v33)) then (some (Dv.PV.tuple [(Dv.PV.int Go.IntKind.i64 (0 : Int)), (Dv.PV.int Go.IntKind.i64 (10 : Int))])) else ((computusref02_day a0 a1 a2).bind fun v34 => (some (Dv.PV.tuple [(Dv.PV.int Go.IntKind.i64 (Dv.PV.toI v34)), (Dv.PV.int Go.IntKind.i64 (0 : Int))]))))) :=
  (callF_eq EE fn_computusref02_Days _ rfl).trans (by kernel_rfl)

theorem computusref02_Len_eq (a0 : Int) (a1 : Int) : computusref02_Len a0 a1 =
    (bif (Dv.eqB a1 (1 : Int)) then (some (Dv.PV.int Go.IntKind.i64 (31 : Int))) else (bif (Dv.eqB a1 (3 : Int)) then (some (Dv.PV.int Go.IntKind.i64 (31 : Int))) else (bif (Dv.eqB a1 (5 : Int)) then (some (Dv.PV.int Go.IntKind.i64 (31 : Int))) else (bif (Dv.eqB a1 (7 : Int)) then (some (Dv.PV.int Go.IntKind.i64 (31 : Int))) else (bif (Dv.eqB a1 (8 : Int)) then (some (Dv.PV.int Go.IntKind.i64 (31 : Int))) else (bif (Dv.eqB a1 (10 : Int)) then (some (Dv.PV.int Go.IntKind.i64 (31 : Int))) else (bif (Dv.eqB a1 (12 : Int)) then (some (Dv.PV.int Go.IntKind.i64 (31 : Int))) else (computusref02_Len_c10 a0 a1)))))))) :=
  (callF_eq EE fn_computusref02_Len _ rfl).trans (by kernel_rfl)
theorem computusref02_Len_c10_eq (x0 : Int) (x1 : Int) : computusref02_Len_c10 x0 x1 =
    (bif (Dv.eqB x1 (4 : Int)) then (some (Dv.PV.int Go.IntKind.i64 (30 : Int))) else (bif (Dv.eqB x1 (6 : Int)) then (some (Dv.PV.int Go.IntKind.i64 (30 : Int))) else (bif (Dv.eqB x1 (9 : Int)) then (some (Dv.PV.int Go.IntKind.i64 (30 : Int))) else (bif (Dv.eqB x1 (11 : Int)) then (some (Dv.PV.int Go.IntKind.i64 (30 : Int))) else (computusref02_Len_c15 x0 x1))))) :=
  (runW_eq EE _ _).trans (by kernel_rfl)
theorem computusref02_Len_c15_eq (x0 : Int) (x1 : Int) : computusref02_Len_c15 x0 x1 =
    (bif (Dv.eqB x1 (2 : Int)) then ((computusref02_Leap x0).bind fun v31 => (bif (Dv.PV.toB v31) then (some (Dv.PV.int Go.IntKind.i64 (29 : Int))) else (some (Dv.PV.int Go.IntKind.i64 (28 : Int))))) else (some (Dv.PV.int Go.IntKind.i64 (0 : Int)))) :=
  (runW_eq EE _ _).trans (by kernel_rfl)

theorem computusref02_Weekday_eq (a0 : Int) : computusref02_Weekday a0 =
    ((computusref02_mod a0 (7 : Int)).bind fun v44 => ((computusref02_mod (Go.IntKind.wrap Go.IntKind.i64 ((Dv.PV.toI v44) + (6 : Int))) (7 : Int)).bind fun v45 => (some (Dv.PV.int Go.IntKind.i64 (Dv.PV.toI v45))))) :=
  (callF_eq EE fn_computusref02_Weekday _ rfl).trans (by kernel_rfl)

theorem when_TextOn_eq (a0_0 : Int) (a0_1 : Int) (a0_2 : Int) : when_TextOn a0_0 a0_1 a0_2 =
    ((when_On_form a0_0 a0_1 a0_2).bind fun v35 => ((Dv.PV.nilOf (Dv.TD.iface Bool.true) (Dv.PV.opq v35 0)).bind fun v36 => (bif v36 then (some (Dv.PV.tuple [(Dv.PV.str []), (Dv.PV.int Go.IntKind.i64 (1 : Int))])) else (bif (Dv.inB (0 : Int) a0_1 ((7 : Nat) : Int)) then ((Dv.rdC Dv.tiStr [(Dv.PV.str [(83 : UInt8), (117 : UInt8), (110 : UInt8)]), (Dv.PV.str [(77 : UInt8), (111 : UInt8), (110 : UInt8)]), (Dv.PV.str [(84 : UInt8), (117 : UInt8), (101 : UInt8)]), (Dv.PV.str [(87 : UInt8), (101 : UInt8), (100 : UInt8)]), (Dv.PV.str [(84 : UInt8), (104 : UInt8), (117 : UInt8)]), (Dv.PV.str [(70 : UInt8), (114 : UInt8), (105 : UInt8)]), (Dv.PV.str [(83 : UInt8), (97 : UInt8), (116 : UInt8)])] (Int.toNat a0_1)).bind fun v37 => ((clock_Two a0_2).bind fun v38 => ((strings_TrimPrefix (Dv.PV.toS v38) [(48 : UInt8)]).bind fun v39 => (bif (Dv.eqB a0_0 (1 : Int)) then ((Dv.catS [(108 : UInt8), (97 : UInt8), (115 : UInt8), (116 : UInt8)] (Dv.PV.toS v37)).bind fun v40 => (some (Dv.PV.tuple [(Dv.PV.str v40), (Dv.PV.int Go.IntKind.i64 (0 : Int))]))) else (bif (Dv.eqB a0_0 (2 : Int)) then ((Dv.catS (Dv.PV.toS v37) [(62 : UInt8), (61 : UInt8)]).bind fun v41 => ((Dv.catS v41 (Dv.PV.toS v39)).bind fun v42 => (some (Dv.PV.tuple [(Dv.PV.str v42), (Dv.PV.int Go.IntKind.i64 (0 : Int))])))) else (bif (Dv.eqB a0_0 (3 : Int)) then ((Dv.catS (Dv.PV.toS v37) [(60 : UInt8), (61 : UInt8)]).bind fun v43 => ((Dv.catS v43 (Dv.PV.toS v39)).bind fun v44 => (some (Dv.PV.tuple [(Dv.PV.str v44), (Dv.PV.int Go.IntKind.i64 (0 : Int))])))) else (some (Dv.PV.tuple [(Dv.PV.str (Dv.PV.toS v39)), (Dv.PV.int Go.IntKind.i64 (0 : Int))])))))))) else none)))) :=
  (callF_eq EE fn_when_TextOn _ rfl).trans (by kernel_rfl)

theorem computusref07_TextOn_eq (a0_0 : Int) (a0_1 : Int) (a0_2 : Int) : computusref07_TextOn a0_0 a0_1 a0_2 =
    ((computusref07_RightOn a0_0 a0_1 a0_2).bind fun v32 => (bif (!(Dv.PV.toB v32)) then (some (Dv.PV.tuple [(Dv.PV.str []), (Dv.PV.int Go.IntKind.i64 (1 : Int))])) else (bif (Dv.inB (0 : Int) a0_1 ((7 : Nat) : Int)) then ((Dv.rdT Dv.tiStr [(Dv.PV.str [(83 : UInt8), (117 : UInt8), (110 : UInt8)]), (Dv.PV.str [(77 : UInt8), (111 : UInt8), (110 : UInt8)]), (Dv.PV.str [(84 : UInt8), (117 : UInt8), (101 : UInt8)]), (Dv.PV.str [(87 : UInt8), (101 : UInt8), (100 : UInt8)]), (Dv.PV.str [(84 : UInt8), (104 : UInt8), (117 : UInt8)]), (Dv.PV.str [(70 : UInt8), (114 : UInt8), (105 : UInt8)]), (Dv.PV.str [(83 : UInt8), (97 : UInt8), (116 : UInt8)])] (Int.toNat a0_1) 0).bind fun v33 => (bif (Dv.eqB a0_0 (1 : Int)) then ((Dv.catS [(108 : UInt8), (97 : UInt8), (115 : UInt8), (116 : UInt8)] (Dv.PV.toS v33)).bind fun v34 => (some (Dv.PV.tuple [(Dv.PV.str v34), (Dv.PV.int Go.IntKind.i64 (0 : Int))]))) else (bif (Dv.eqB a0_0 (2 : Int)) then ((Dv.catS (Dv.PV.toS v33) [(62 : UInt8), (61 : UInt8)]).bind fun v35 => ((computusref03_Digits a0_2).bind fun v36 => ((Dv.catS v35 (Dv.PV.toS v36)).bind fun v37 => (some (Dv.PV.tuple [(Dv.PV.str v37), (Dv.PV.int Go.IntKind.i64 (0 : Int))]))))) else (bif (Dv.eqB a0_0 (3 : Int)) then ((Dv.catS (Dv.PV.toS v33) [(60 : UInt8), (61 : UInt8)]).bind fun v38 => ((computusref03_Digits a0_2).bind fun v39 => ((Dv.catS v38 (Dv.PV.toS v39)).bind fun v40 => (some (Dv.PV.tuple [(Dv.PV.str v40), (Dv.PV.int Go.IntKind.i64 (0 : Int))]))))) else ((computusref03_Digits a0_2).bind fun v41 => (some (Dv.PV.tuple [(Dv.PV.str (Dv.PV.toS v41)), (Dv.PV.int Go.IntKind.i64 (0 : Int))]))))))) else none))) :=
  (callF_eq EE fn_computusref07_TextOn _ rfl).trans (by kernel_rfl)

theorem when_TextAt_eq (a0_0 : Int) (a0_1 : Int) : when_TextAt a0_0 a0_1 =
    ((when_At_right a0_0 a0_1).bind fun v46 => (bif (!(Dv.PV.toB v46)) then (some (Dv.PV.tuple [(Dv.PV.str []), (Dv.PV.int Go.IntKind.i64 (1 : Int))])) else ((clock_Two (Go.IntKind.wrap Go.IntKind.i64 (Int.tdiv a0_0 (3600 : Int)))).bind fun v47 => ((Dv.catS (Dv.PV.toS v47) [(58 : UInt8)]).bind fun v48 => ((clock_Two (Int.tmod (Go.IntKind.wrap Go.IntKind.i64 (Int.tdiv a0_0 (60 : Int))) (60 : Int))).bind fun v49 => ((Dv.catS v48 (Dv.PV.toS v49)).bind fun v50 => ((Dv.atS v50 (0 : Int)).bind fun v51 => (bif (Dv.eqB v51 (48 : Int)) then ((Dv.dropS v50 (1 : Int)).bind fun v52 => (when_TextAt_c6 v52 a0_0 a0_1)) else (when_TextAt_c6 v50 a0_0 a0_1))))))))) :=
  (callF_eq EE fn_when_TextAt _ rfl).trans (by kernel_rfl)
theorem when_TextAt_c6_eq (x0 : List UInt8) (x1 : Int) (x2 : Int) : when_TextAt_c6 x0 x1 x2 =
    (bif (!(Dv.eqB (Int.tmod x1 (60 : Int)) (0 : Int))) then ((clock_Two (Int.tmod x1 (60 : Int))).bind fun v53 => ((Dv.catS [(58 : UInt8)] (Dv.PV.toS v53)).bind fun v54 => ((Dv.catS x0 v54).bind fun v55 => (when_TextAt_c8 v55 x1 x2)))) else (when_TextAt_c8 x0 x1 x2)) :=
  (runW_eq EE _ _).trans (by kernel_rfl)
theorem when_TextAt_c8_eq (x0 : List UInt8) (x1 : Int) (x2 : Int) : when_TextAt_c8 x0 x1 x2 =
    (bif (!(Dv.eqB x2 (119 : Int))) then ((Dv.catS x0 (Dv.encR (Go.IntKind.wrap Go.IntKind.i32 x2))).bind fun v56 => (some (Dv.PV.tuple [(Dv.PV.str v56), (Dv.PV.int Go.IntKind.i64 (0 : Int))]))) else (some (Dv.PV.tuple [(Dv.PV.str x0), (Dv.PV.int Go.IntKind.i64 (0 : Int))]))) :=
  (runW_eq EE _ _).trans (by kernel_rfl)

theorem computusref07_TextAt_eq (a0_0 : Int) (a0_1 : Int) : computusref07_TextAt a0_0 a0_1 =
    ((computusref07_RightAt a0_0 a0_1).bind fun v45 => (bif (!(Dv.PV.toB v45)) then (some (Dv.PV.tuple [(Dv.PV.str []), (Dv.PV.int Go.IntKind.i64 (1 : Int))])) else ((computusref03_Digits (Go.IntKind.wrap Go.IntKind.i64 (Int.tdiv a0_0 (3600 : Int)))).bind fun v46 => ((Dv.catS (Dv.PV.toS v46) [(58 : UInt8)]).bind fun v47 => ((computusref03_Two (Int.tmod (Go.IntKind.wrap Go.IntKind.i64 (Int.tdiv a0_0 (60 : Int))) (60 : Int))).bind fun v48 => ((Dv.catS v47 (Dv.PV.toS v48)).bind fun v49 => (bif (!(Dv.eqB (Int.tmod a0_0 (60 : Int)) (0 : Int))) then ((Dv.catS v49 [(58 : UInt8)]).bind fun v50 => ((computusref03_Two (Int.tmod a0_0 (60 : Int))).bind fun v51 => ((Dv.catS v50 (Dv.PV.toS v51)).bind fun v52 => (computusref07_TextAt_c6 v52 a0_0 a0_1)))) else (computusref07_TextAt_c6 v49 a0_0 a0_1)))))))) :=
  (callF_eq EE fn_computusref07_TextAt _ rfl).trans (by kernel_rfl)
theorem computusref07_TextAt_c6_eq (x0 : List UInt8) (x1 : Int) (x2 : Int) : computusref07_TextAt_c6 x0 x1 x2 =
    (bif (!(Dv.eqB x2 (119 : Int))) then ((Dv.catS x0 [(UInt8.ofNat (Int.toNat x2))]).bind fun v53 => (some (Dv.PV.tuple [(Dv.PV.str v53), (Dv.PV.int Go.IntKind.i64 (0 : Int))]))) else (some (Dv.PV.tuple [(Dv.PV.str x0), (Dv.PV.int Go.IntKind.i64 (0 : Int))]))) :=
  (runW_eq EE _ _).trans (by kernel_rfl)

theorem word_Same_eq (a0 : List UInt8) (a1 : List UInt8) : word_Same a0 a1 =
    ((word_Lower a0).bind fun v42 => ((word_Lower a1).bind fun v43 => (some (Dv.PV.bool (Dv.eqS (Dv.PV.toS v42) (Dv.PV.toS v43)))))) :=
  (callF_eq EE fn_word_Same _ rfl).trans (by kernel_rfl)

theorem when_onOf_eq (a0 : Int) (a1 : List UInt8) (a2 : List UInt8) : when_onOf a0 a1 a2 =
    (bif (!(Dv.eqS a1 [])) then ((word_Day a1).bind fun v57 => (when_onOf_c5 a2 Bool.true (0 : Int) (0 : Int) (0 : Int) a0 (Dv.PV.toI v57) (0 : Int))) else (when_onOf_c5 a2 Bool.true (0 : Int) (0 : Int) (0 : Int) a0 (0 : Int) (0 : Int))) :=
  (callF_eq EE fn_when_onOf _ rfl).trans (by kernel_rfl)
theorem when_onOf_c5_eq (x0 : List UInt8) (x1 : Bool) (x2 : Int) (x3 : Int) (x4 : Int) (x5 : Int) (x6 : Int) (x7 : Int) : when_onOf_c5 x0 x1 x2 x3 x4 x5 x6 x7 =
    (bif (!(Dv.eqS x0 [])) then ((when_short x0).bind fun v58 => (bif (Dv.PV.toB (Dv.PV.tnth v58 1)) then ((when_On_form x5 x6 (Dv.PV.toI (Dv.PV.tnth v58 0))).bind fun v59 => ((Dv.PV.nilOf (Dv.TD.iface Bool.true) (Dv.PV.opq v59 0)).bind fun v60 => (some (Dv.PV.tuple [(Dv.PV.agg [(Dv.PV.int Go.IntKind.i64 x5), (Dv.PV.int Go.IntKind.i64 x6), (Dv.PV.int Go.IntKind.i64 (Dv.PV.toI (Dv.PV.tnth v58 0)))]), (Dv.PV.bool (!v60))])))) else (some (Dv.PV.tuple [(Dv.PV.agg [(Dv.PV.int Go.IntKind.i64 x5), (Dv.PV.int Go.IntKind.i64 x6), (Dv.PV.int Go.IntKind.i64 (Dv.PV.toI (Dv.PV.tnth v58 0)))]), (Dv.PV.bool Bool.false)])))) else (bif x1 then ((when_On_form x5 x6 x7).bind fun v61 => ((Dv.PV.nilOf (Dv.TD.iface Bool.true) (Dv.PV.opq v61 0)).bind fun v62 => (some (Dv.PV.tuple [(Dv.PV.agg [(Dv.PV.int Go.IntKind.i64 x5), (Dv.PV.int Go.IntKind.i64 x6), (Dv.PV.int Go.IntKind.i64 x7)]), (Dv.PV.bool (!v62))])))) else (some (Dv.PV.tuple [(Dv.PV.agg [(Dv.PV.int Go.IntKind.i64 x5), (Dv.PV.int Go.IntKind.i64 x6), (Dv.PV.int Go.IntKind.i64 x7)]), (Dv.PV.bool Bool.false)])))) :=
  (runW_eq EE _ _).trans (by kernel_rfl)

theorem strings_IndexByte_eq (a0 : List UInt8) (a1 : Int) : strings_IndexByte a0 a1 =
    ((stringslite_IndexByte a0 a1).bind fun v54 => (some (Dv.PV.int Go.IntKind.i64 (Dv.PV.toI v54)))) :=
  (callF_eq EE fn_strings_IndexByte _ rfl).trans (by kernel_rfl)

theorem when_pair_eq (a0 : Int) (a1 : List UInt8) (a2 : List UInt8) : when_pair a0 a1 a2 =
    (bif (Dv.eqS a1 []) then (some (Dv.PV.tuple [(Dv.PV.agg [(Dv.PV.int Go.IntKind.i64 (0 : Int)), (Dv.PV.int Go.IntKind.i64 (0 : Int)), (Dv.PV.int Go.IntKind.i64 (0 : Int))]), (Dv.PV.bool Bool.false)])) else (bif (Dv.eqS a2 []) then (some (Dv.PV.tuple [(Dv.PV.agg [(Dv.PV.int Go.IntKind.i64 (0 : Int)), (Dv.PV.int Go.IntKind.i64 (0 : Int)), (Dv.PV.int Go.IntKind.i64 (0 : Int))]), (Dv.PV.bool Bool.false)])) else ((when_onOf a0 a1 a2).bind fun v44 => (some (Dv.PV.tuple [(Dv.PV.agg [(Dv.PV.int Go.IntKind.i64 (Dv.PV.toI (Dv.PV.nth (Dv.PV.tnth v44 0) 0))), (Dv.PV.int Go.IntKind.i64 (Dv.PV.toI (Dv.PV.nth (Dv.PV.tnth v44 0) 1))), (Dv.PV.int Go.IntKind.i64 (Dv.PV.toI (Dv.PV.nth (Dv.PV.tnth v44 0) 2)))]), (Dv.PV.bool (Dv.PV.toB (Dv.PV.tnth v44 1)))]))))) :=
  (callF_eq EE fn_when_pair _ rfl).trans (by kernel_rfl)

theorem computusref07_short_eq (a0 : List UInt8) : computusref07_short a0 =
    (bif (Dv.ltB (((List.length a0) : Nat) : Int) (1 : Int)) then computusref07_short_c2 else (bif (Dv.ltB (2 : Int) (((List.length a0) : Nat) : Int)) then computusref07_short_c2 else (computusref07_short_c3 a0))) :=
  (callF_eq EE fn_computusref07_short _ rfl).trans (by kernel_rfl)
theorem computusref07_short_c2_eq  : computusref07_short_c2  =
    (some (Dv.PV.int Go.IntKind.i64 (-1 : Int))) :=
  (runW_eq EE _ _).trans (by kernel_rfl)
theorem computusref07_short_c3_eq (x0 : List UInt8) : computusref07_short_c3 x0 =
    ((computusref05_Number x0).bind fun v63 => (bif (!(Dv.eqB (Dv.PV.toI (Dv.PV.tnth v63 1)) (0 : Int))) then (some (Dv.PV.int Go.IntKind.i64 (-1 : Int))) else (some (Dv.PV.int Go.IntKind.i64 (Dv.PV.toI (Dv.PV.tnth v63 0)))))) :=
  (runW_eq EE _ _).trans (by kernel_rfl)

theorem computusref05_Same_eq (a0 : List UInt8) (a1 : List UInt8) : computusref05_Same a0 a1 =
    ((computusref05_Lower a0).bind fun v55 => ((computusref05_Lower a1).bind fun v56 => (some (Dv.PV.bool (Dv.eqS (Dv.PV.toS v55) (Dv.PV.toS v56)))))) :=
  (callF_eq EE fn_computusref05_Same _ rfl).trans (by kernel_rfl)

theorem computusref05_Day_eq (a0 : List UInt8) : computusref05_Day a0 =
    ((computusref05_Short a0 [(Dv.PV.str [(83 : UInt8), (117 : UInt8), (110 : UInt8), (100 : UInt8), (97 : UInt8), (121 : UInt8)]), (Dv.PV.str [(77 : UInt8), (111 : UInt8), (110 : UInt8), (100 : UInt8), (97 : UInt8), (121 : UInt8)]), (Dv.PV.str [(84 : UInt8), (117 : UInt8), (101 : UInt8), (115 : UInt8), (100 : UInt8), (97 : UInt8), (121 : UInt8)]), (Dv.PV.str [(87 : UInt8), (101 : UInt8), (100 : UInt8), (110 : UInt8), (101 : UInt8), (115 : UInt8), (100 : UInt8), (97 : UInt8), (121 : UInt8)]), (Dv.PV.str [(84 : UInt8), (104 : UInt8), (117 : UInt8), (114 : UInt8), (115 : UInt8), (100 : UInt8), (97 : UInt8), (121 : UInt8)]), (Dv.PV.str [(70 : UInt8), (114 : UInt8), (105 : UInt8), (100 : UInt8), (97 : UInt8), (121 : UInt8)]), (Dv.PV.str [(83 : UInt8), (97 : UInt8), (116 : UInt8), (117 : UInt8), (114 : UInt8), (100 : UInt8), (97 : UInt8), (121 : UInt8)])]).bind fun v45 => (some (Dv.PV.int Go.IntKind.i64 (Dv.PV.toI v45)))) :=
  (callF_eq EE fn_computusref05_Day _ rfl).trans (by kernel_rfl)

theorem computusref07_RightOn_eq (a0_0 : Int) (a0_1 : Int) (a0_2 : Int) : computusref07_RightOn a0_0 a0_1 a0_2 =
    (bif (Dv.leB (0 : Int) a0_1) then (computusref07_RightOn_c2 (Dv.leB a0_1 (6 : Int)) a0_0 a0_1 a0_2) else (computusref07_RightOn_c2 Bool.false a0_0 a0_1 a0_2)) :=
  (callF_eq EE fn_computusref07_RightOn _ rfl).trans (by kernel_rfl)
theorem computusref07_RightOn_c2_eq (x0 : Bool) (x1 : Int) (x2 : Int) (x3 : Int) : computusref07_RightOn_c2 x0 x1 x2 x3 =
    (bif (Dv.leB (1 : Int) x3) then (computusref07_RightOn_c3 x0 (Dv.leB x3 (31 : Int)) x1 x2 x3) else (computusref07_RightOn_c3 x0 Bool.false x1 x2 x3)) :=
  (runW_eq EE _ _).trans (by kernel_rfl)
theorem computusref07_RightOn_c3_eq (x0 : Bool) (x1 : Bool) (x2 : Int) (x3 : Int) (x4 : Int) : computusref07_RightOn_c3 x0 x1 x2 x3 x4 =
    (bif (Dv.eqB x2 (0 : Int)) then (bif x1 then (some (Dv.PV.bool (Dv.eqB x3 (0 : Int)))) else (some (Dv.PV.bool Bool.false))) else (bif (Dv.eqB x2 (1 : Int)) then (bif x0 then (some (Dv.PV.bool (Dv.eqB x4 (0 : Int)))) else (some (Dv.PV.bool Bool.false))) else (bif (Dv.eqB x2 (2 : Int)) then (bif x0 then (some (Dv.PV.bool x1)) else (some (Dv.PV.bool Bool.false))) else (bif (Dv.eqB x2 (3 : Int)) then (bif x0 then (some (Dv.PV.bool x1)) else (some (Dv.PV.bool Bool.false))) else (some (Dv.PV.bool Bool.false)))))) :=
  (runW_eq EE _ _).trans (by kernel_rfl)

theorem when_seconds_eq (a0 : List UInt8) : when_seconds a0 =
    ((strings_Split a0 [(58 : UInt8)]).bind fun v57 => ((Dv.rdI Dv.tiStr (Dv.PV.toL v57) (0 : Int)).bind fun v58 => ((when_short (Dv.PV.toS v58)).bind fun v59 => ((Dv.dropS (Dv.PV.toL v57) (1 : Int)).bind fun v60 => (when_seconds_c6 (Dv.PV.toL v57) (Go.IntKind.wrap Go.IntKind.i64 ((Dv.PV.toI (Dv.PV.tnth v59 0)) * (3600 : Int))) (Dv.PV.toB (Dv.PV.tnth v59 1)) (60 : Int) v60 (((List.length v60) : Nat) : Int) (0 : Int)))))) :=
  (callF_eq EE fn_when_seconds _ rfl).trans (by kernel_rfl)
theorem when_seconds_c6_eq (x0 : List PV) (x1 : Int) (x2 : Bool) (x3 : Int) (x4 : List PV) (x5 : Int) (x6 : Int) : when_seconds_c6 x0 x1 x2 x3 x4 x5 x6 =
    (bif (Dv.ltB x6 x5) then ((Dv.rdI Dv.tiStr x4 x6).bind fun v61 => ((when_short (Dv.PV.toS v61)).bind fun v62 => (bif x2 then (bif (Dv.PV.toB (Dv.PV.tnth v62 1)) then (bif (Dv.eqB (((List.length (Dv.PV.toS v61)) : Nat) : Int) (2 : Int)) then (when_seconds_c10 x0 x1 (Dv.ltB (Dv.PV.toI (Dv.PV.tnth v62 0)) (60 : Int)) x3 (Dv.PV.toI (Dv.PV.tnth v62 0)) x4 x5 x6) else (when_seconds_c10 x0 x1 Bool.false x3 (Dv.PV.toI (Dv.PV.tnth v62 0)) x4 x5 x6)) else (when_seconds_c10 x0 x1 Bool.false x3 (Dv.PV.toI (Dv.PV.tnth v62 0)) x4 x5 x6)) else (when_seconds_c10 x0 x1 Bool.false x3 (Dv.PV.toI (Dv.PV.tnth v62 0)) x4 x5 x6)))) else (bif x2 then (some (Dv.PV.tuple [(Dv.PV.int Go.IntKind.i64 x1), (Dv.PV.bool (Dv.leB (((List.length x0) : Nat) : Int) (3 : Int)))])) else (some (Dv.PV.tuple [(Dv.PV.int Go.IntKind.i64 x1), (Dv.PV.bool Bool.false)])))) :=
  (runW_eq EE _ _).trans (by kernel_rfl)
theorem when_seconds_c10_eq (x0 : List PV) (x1 : Int) (x2 : Bool) (x3 : Int) (x4 : Int) (x5 : List PV) (x6 : Int) (x7 : Int) : when_seconds_c10 x0 x1 x2 x3 x4 x5 x6 x7 =
    (when_seconds_c6 x0 (Go.IntKind.wrap Go.IntKind.i64 (x1 + (Go.IntKind.wrap Go.IntKind.i64 (x4 * x3)))) x2 (Go.IntKind.wrap Go.IntKind.i64 (Int.tdiv x3 (60 : Int))) x5 x6 (Go.IntKind.wrap Go.IntKind.i64 (x7 + (1 : Int)))) :=
  (runW_eq EE _ _).trans (by kernel_rfl)

theorem when_At_right_eq (a0_0 : Int) (a0_1 : Int) : when_At_right a0_0 a0_1 =
    (bif (Dv.leB (0 : Int) a0_0) then (bif (Dv.leB a0_0 (86400 : Int)) then (bif (Dv.eqB a0_1 (119 : Int)) then (some (Dv.PV.bool Bool.true)) else (bif (Dv.eqB a0_1 (115 : Int)) then (some (Dv.PV.bool Bool.true)) else (some (Dv.PV.bool (Dv.eqB a0_1 (117 : Int)))))) else (some (Dv.PV.bool Bool.false))) else (some (Dv.PV.bool Bool.false))) :=
  (callF_eq EE fn_when_At_right _ rfl).trans (by kernel_rfl)

theorem computusref07_sec_eq (a0 : List UInt8) : computusref07_sec a0 =
    (computusref07_sec_c3 a0 (0 : Int) [(Dv.PV.str [])] 1) :=
  (callF_eq EE fn_computusref07_sec _ rfl).trans (by kernel_rfl)
theorem computusref07_sec_c3_eq (x0 : List UInt8) (x1 : Int) (x2 : List PV) (x3 : Nat) : computusref07_sec_c3 x0 x1 x2 x3 =
    (bif (Dv.ltB x1 (((List.length x0) : Nat) : Int)) then ((Dv.atS x0 x1).bind fun v64 => (bif (Dv.eqB v64 (58 : Int)) then ((Dv.appL 16 x2 [(Dv.PV.str [])]).bind fun v65 => (bif (Dv.leN (List.length v65) x3) then (computusref07_sec_c4 x0 x1 v65 x3) else (computusref07_sec_c4_1 x0 x1 v65))) else (bif (Dv.inB (0 : Int) (Go.IntKind.wrap Go.IntKind.i64 ((((List.length x2) : Nat) : Int) - (1 : Int))) (((List.length x2) : Nat) : Int)) then ((Dv.rdT Dv.tiStr x2 (Int.toNat (Go.IntKind.wrap Go.IntKind.i64 ((((List.length x2) : Nat) : Int) - (1 : Int)))) 0).bind fun v66 => ((Dv.subS x0 x1 (Go.IntKind.wrap Go.IntKind.i64 (x1 + (1 : Int)))).bind fun v67 => ((Dv.catS (Dv.PV.toS v66) v67).bind fun v68 => (bif (Dv.inB (0 : Int) (Go.IntKind.wrap Go.IntKind.i64 ((((List.length x2) : Nat) : Int) - (1 : Int))) (((List.length x2) : Nat) : Int)) then ((Dv.stC x2 (Int.toNat (Go.IntKind.wrap Go.IntKind.i64 ((((List.length x2) : Nat) : Int) - (1 : Int)))) 0 [(Dv.PV.str v68)]).bind fun v69 => (computusref07_sec_c4 x0 x1 v69 x3)) else none)))) else none))) else (bif (Dv.inB (0 : Int) (0 : Int) (((List.length x2) : Nat) : Int)) then ((Dv.rdT Dv.tiStr x2 0 0).bind fun v70 => ((computusref07_short (Dv.PV.toS v70)).bind fun v71 => (bif (Dv.ltB (Dv.PV.toI v71) (0 : Int)) then computusref07_sec_c10 else (bif (Dv.ltB (3 : Int) (((List.length x2) : Nat) : Int)) then computusref07_sec_c10 else (computusref07_sec_c11 (Dv.PV.toI v71) x2 x3))))) else none)) :=
  (runW_eq EE _ _).trans (by kernel_rfl)
theorem computusref07_sec_c4_eq (x0 : List UInt8) (x1 : Int) (x2 : List PV) (x3 : Nat) : computusref07_sec_c4 x0 x1 x2 x3 =
    (computusref07_sec_c3 x0 (Go.IntKind.wrap Go.IntKind.i64 (x1 + (1 : Int))) x2 x3) :=
  (runW_eq EE _ _).trans (by kernel_rfl)
theorem computusref07_sec_c4_1_eq (x0 : List UInt8) (x1 : Int) (x2 : List PV) : computusref07_sec_c4_1 x0 x1 x2 =
    (computusref07_sec_c3_1 x0 (Go.IntKind.wrap Go.IntKind.i64 (x1 + (1 : Int))) x2) :=
  (runW_eq EE _ _).trans (by kernel_rfl)
theorem computusref07_sec_c10_eq  : computusref07_sec_c10  =
    (some (Dv.PV.int Go.IntKind.i64 (-1 : Int))) :=
  (runW_eq EE _ _).trans (by kernel_rfl)
theorem computusref07_sec_c11_eq (x0 : Int) (x1 : List PV) (x2 : Nat) : computusref07_sec_c11 x0 x1 x2 =
    (computusref07_sec_c13 (Go.IntKind.wrap Go.IntKind.i64 (x0 * (3600 : Int))) (1 : Int) x1 x2) :=
  (runW_eq EE _ _).trans (by kernel_rfl)
theorem computusref07_sec_c3_1_eq (x0 : List UInt8) (x1 : Int) (x2 : List PV) : computusref07_sec_c3_1 x0 x1 x2 =
    (bif (Dv.ltB x1 (((List.length x0) : Nat) : Int)) then ((Dv.atS x0 x1).bind fun v72 => (bif (Dv.eqB v72 (58 : Int)) then ((Dv.appL 16 x2 [(Dv.PV.str [])]).bind fun v73 => (computusref07_sec_c4_1 x0 x1 v73)) else (bif (Dv.inB (0 : Int) (Go.IntKind.wrap Go.IntKind.i64 ((((List.length x2) : Nat) : Int) - (1 : Int))) (((List.length x2) : Nat) : Int)) then ((Dv.rdT Dv.tiStr x2 (Int.toNat (Go.IntKind.wrap Go.IntKind.i64 ((((List.length x2) : Nat) : Int) - (1 : Int)))) 0).bind fun v74 => ((Dv.subS x0 x1 (Go.IntKind.wrap Go.IntKind.i64 (x1 + (1 : Int)))).bind fun v75 => ((Dv.catS (Dv.PV.toS v74) v75).bind fun v76 => (bif (Dv.inB (0 : Int) (Go.IntKind.wrap Go.IntKind.i64 ((((List.length x2) : Nat) : Int) - (1 : Int))) (((List.length x2) : Nat) : Int)) then ((Dv.stC x2 (Int.toNat (Go.IntKind.wrap Go.IntKind.i64 ((((List.length x2) : Nat) : Int) - (1 : Int)))) 0 [(Dv.PV.str v76)]).bind fun v77 => (computusref07_sec_c4_1 x0 x1 v77)) else none)))) else none))) else (bif (Dv.inB (0 : Int) (0 : Int) (((List.length x2) : Nat) : Int)) then ((Dv.rdT Dv.tiStr x2 0 0).bind fun v78 => ((computusref07_short (Dv.PV.toS v78)).bind fun v79 => (bif (Dv.ltB (Dv.PV.toI v79) (0 : Int)) then computusref07_sec_c10 else (bif (Dv.ltB (3 : Int) (((List.length x2) : Nat) : Int)) then computusref07_sec_c10 else (computusref07_sec_c11_1 (Dv.PV.toI v79) x2))))) else none)) :=
  (runW_eq EE _ _).trans (by kernel_rfl)
theorem computusref07_sec_c13_eq (x0 : Int) (x1 : Int) (x2 : List PV) (x3 : Nat) : computusref07_sec_c13 x0 x1 x2 x3 =
    (bif (Dv.ltB x1 (((List.length x2) : Nat) : Int)) then (bif (Dv.inB (0 : Int) x1 (((List.length x2) : Nat) : Int)) then ((Dv.rdT Dv.tiStr x2 (Int.toNat x1) 0).bind fun v80 => ((computusref07_short (Dv.PV.toS v80)).bind fun v81 => (bif (Dv.inB (0 : Int) x1 (((List.length x2) : Nat) : Int)) then ((Dv.rdT Dv.tiStr x2 (Int.toNat x1) 0).bind fun v82 => (bif (!(Dv.eqB (((List.length (Dv.PV.toS v82)) : Nat) : Int) (2 : Int))) then computusref07_sec_c17 else (bif (Dv.ltB (Dv.PV.toI v81) (0 : Int)) then computusref07_sec_c17 else (bif (Dv.ltB (59 : Int) (Dv.PV.toI v81)) then computusref07_sec_c17 else (computusref07_sec_c18 x0 x1 (Dv.PV.toI v81) x2 x3))))) else none))) else none) else (some (Dv.PV.int Go.IntKind.i64 x0))) :=
  (runW_eq EE _ _).trans (by kernel_rfl)
theorem computusref07_sec_c11_1_eq (x0 : Int) (x1 : List PV) : computusref07_sec_c11_1 x0 x1 =
    (computusref07_sec_c13_1 (Go.IntKind.wrap Go.IntKind.i64 (x0 * (3600 : Int))) (1 : Int) x1) :=
  (runW_eq EE _ _).trans (by kernel_rfl)
theorem computusref07_sec_c17_eq  : computusref07_sec_c17  =
    (some (Dv.PV.int Go.IntKind.i64 (-1 : Int))) :=
  (runW_eq EE _ _).trans (by kernel_rfl)
theorem computusref07_sec_c18_eq (x0 : Int) (x1 : Int) (x2 : Int) (x3 : List PV) (x4 : Nat) : computusref07_sec_c18 x0 x1 x2 x3 x4 =
    (bif (Dv.eqB x1 (1 : Int)) then (computusref07_sec_c13 (Go.IntKind.wrap Go.IntKind.i64 (x0 + (Go.IntKind.wrap Go.IntKind.i64 (x2 * (60 : Int))))) (Go.IntKind.wrap Go.IntKind.i64 (x1 + (1 : Int))) x3 x4) else (computusref07_sec_c13 (Go.IntKind.wrap Go.IntKind.i64 (x0 + x2)) (Go.IntKind.wrap Go.IntKind.i64 (x1 + (1 : Int))) x3 x4)) :=
  (runW_eq EE _ _).trans (by kernel_rfl)
theorem computusref07_sec_c13_1_eq (x0 : Int) (x1 : Int) (x2 : List PV) : computusref07_sec_c13_1 x0 x1 x2 =
    (bif (Dv.ltB x1 (((List.length x2) : Nat) : Int)) then (bif (Dv.inB (0 : Int) x1 (((List.length x2) : Nat) : Int)) then ((Dv.rdT Dv.tiStr x2 (Int.toNat x1) 0).bind fun v83 => ((computusref07_short (Dv.PV.toS v83)).bind fun v84 => (bif (Dv.inB (0 : Int) x1 (((List.length x2) : Nat) : Int)) then ((Dv.rdT Dv.tiStr x2 (Int.toNat x1) 0).bind fun v85 => (bif (!(Dv.eqB (((List.length (Dv.PV.toS v85)) : Nat) : Int) (2 : Int))) then computusref07_sec_c17 else (bif (Dv.ltB (Dv.PV.toI v84) (0 : Int)) then computusref07_sec_c17 else (bif (Dv.ltB (59 : Int) (Dv.PV.toI v84)) then computusref07_sec_c17 else (computusref07_sec_c18_1 x0 x1 (Dv.PV.toI v84) x2))))) else none))) else none) else (some (Dv.PV.int Go.IntKind.i64 x0))) :=
  (runW_eq EE _ _).trans (by kernel_rfl)
theorem computusref07_sec_c18_1_eq (x0 : Int) (x1 : Int) (x2 : Int) (x3 : List PV) : computusref07_sec_c18_1 x0 x1 x2 x3 =
    (bif (Dv.eqB x1 (1 : Int)) then (computusref07_sec_c13_1 (Go.IntKind.wrap Go.IntKind.i64 (x0 + (Go.IntKind.wrap Go.IntKind.i64 (x2 * (60 : Int))))) (Go.IntKind.wrap Go.IntKind.i64 (x1 + (1 : Int))) x3) else (computusref07_sec_c13_1 (Go.IntKind.wrap Go.IntKind.i64 (x0 + x2)) (Go.IntKind.wrap Go.IntKind.i64 (x1 + (1 : Int))) x3)) :=
  (runW_eq EE _ _).trans (by kernel_rfl)

theorem computusref07_RightAt_eq (a0_0 : Int) (a0_1 : Int) : computusref07_RightAt a0_0 a0_1 =
    (bif (Dv.leB (0 : Int) a0_0) then (bif (Dv.leB a0_0 (86400 : Int)) then (bif (Dv.eqB a0_1 (119 : Int)) then (some (Dv.PV.bool Bool.true)) else (bif (Dv.eqB a0_1 (115 : Int)) then (some (Dv.PV.bool Bool.true)) else (some (Dv.PV.bool (Dv.eqB a0_1 (117 : Int)))))) else (some (Dv.PV.bool Bool.false))) else (some (Dv.PV.bool Bool.false))) :=
  (callF_eq EE fn_computusref07_RightAt _ rfl).trans (by kernel_rfl)

theorem strings_CutPrefix_eq (a0 : List UInt8) (a1 : List UInt8) : strings_CutPrefix a0 a1 =
    ((stringslite_CutPrefix a0 a1).bind fun v46 => (some (Dv.PV.tuple [(Dv.PV.str (Dv.PV.toS (Dv.PV.tnth v46 0))), (Dv.PV.bool (Dv.PV.toB (Dv.PV.tnth v46 1)))]))) :=
  (callF_eq EE fn_strings_CutPrefix _ rfl).trans (by kernel_rfl)

theorem when_On_form_eq (a0_0 : Int) (a0_1 : Int) (a0_2 : Int) : when_On_form a0_0 a0_1 a0_2 =
    (bif (Dv.eqB a0_0 (0 : Int)) then (bif (Dv.eqB a0_1 (0 : Int)) then (when_On_form_c4 a0_0 a0_1 a0_2) else (when_On_form_c5 a0_0 a0_1 a0_2)) else (when_On_form_c5 a0_0 a0_1 a0_2)) :=
  (callF_eq EE fn_when_On_form _ rfl).trans (by kernel_rfl)
theorem when_On_form_c4_eq (x0 : Int) (x1 : Int) (x2 : Int) : when_On_form_c4 x0 x1 x2 =
    ((when_fixed_right x2).bind fun v1 => (bif (!(Dv.PV.toB v1)) then (some Dv.PV.nili) else (some (Dv.PV.iface ty_when_fixed (Dv.PV.int Go.IntKind.i64 x2))))) :=
  (runW_eq EE _ _).trans (by kernel_rfl)
theorem when_On_form_c5_eq (x0 : Int) (x1 : Int) (x2 : Int) : when_On_form_c5 x0 x1 x2 =
    (bif (Dv.eqB x0 (1 : Int)) then (bif (Dv.eqB x2 (0 : Int)) then (when_On_form_c6 x0 x1 x2) else (when_On_form_c7 x0 x1 x2)) else (when_On_form_c7 x0 x1 x2)) :=
  (runW_eq EE _ _).trans (by kernel_rfl)
theorem when_On_form_c6_eq (x0 : Int) (x1 : Int) (x2 : Int) : when_On_form_c6 x0 x1 x2 =
    ((when_final_right x1).bind fun v2 => (bif (!(Dv.PV.toB v2)) then (some Dv.PV.nili) else (some (Dv.PV.iface ty_when_final (Dv.PV.int Go.IntKind.i64 x1))))) :=
  (runW_eq EE _ _).trans (by kernel_rfl)
theorem when_On_form_c7_eq (x0 : Int) (x1 : Int) (x2 : Int) : when_On_form_c7 x0 x1 x2 =
    (bif (Dv.eqB x0 (2 : Int)) then ((when_near_right x1 x2 (1 : Int)).bind fun v3 => (bif (!(Dv.PV.toB v3)) then (some Dv.PV.nili) else (some (Dv.PV.iface ty_when_near (Dv.PV.agg [(Dv.PV.int Go.IntKind.i64 x1), (Dv.PV.int Go.IntKind.i64 x2), (Dv.PV.int Go.IntKind.i64 (1 : Int))]))))) else (bif (Dv.eqB x0 (3 : Int)) then ((when_near_right x1 x2 (-1 : Int)).bind fun v4 => (bif (!(Dv.PV.toB v4)) then (some Dv.PV.nili) else (some (Dv.PV.iface ty_when_near (Dv.PV.agg [(Dv.PV.int Go.IntKind.i64 x1), (Dv.PV.int Go.IntKind.i64 x2), (Dv.PV.int Go.IntKind.i64 (-1 : Int))]))))) else (some Dv.PV.nili))) :=
  (runW_eq EE _ _).trans (by kernel_rfl)

theorem civil_Days_eq (a0 : Int) (a1 : Int) (a2 : Int) : civil_Days a0 a1 a2 =
    ((civil_Right a0 a1 a2).bind fun v63 => (bif (!(Dv.PV.toB v63)) then (some (Dv.PV.tuple [(Dv.PV.int Go.IntKind.i64 (0 : Int)), (Dv.PV.int Go.IntKind.i64 (10 : Int))])) else ((civil_day a0 a1 a2).bind fun v64 => (some (Dv.PV.tuple [(Dv.PV.int Go.IntKind.i64 (Dv.PV.toI v64)), (Dv.PV.int Go.IntKind.i64 (0 : Int))]))))) :=
  (callF_eq EE fn_civil_Days _ rfl).trans (by kernel_rfl)

theorem when_to_eq (a0 : Int) (a1 : Int) (a2 : Int) : when_to a0 a1 a2 =
    (when_to_c1 a0 a1 a2) :=
  (callF_eq EE fn_when_to _ rfl).trans (by kernel_rfl)
theorem when_to_c1_eq (x0 : Int) (x1 : Int) (x2 : Int) : when_to_c1 x0 x1 x2 =
    ((civil_Weekday x0).bind fun v47 => (bif (!(Dv.eqB (Dv.PV.toI v47) x1)) then (when_to_c1 (Go.IntKind.wrap Go.IntKind.i64 (x0 + x2)) x1 x2) else (some (Dv.PV.int Go.IntKind.i64 x0)))) :=
  (runW_eq EE _ _).trans (by kernel_rfl)

theorem civil_Len_eq (a0 : Int) (a1 : Int) : civil_Len a0 a1 =
    (bif (Dv.ltB a1 (1 : Int)) then civil_Len_c3 else (bif (Dv.ltB (12 : Int) a1) then civil_Len_c3 else (civil_Len_c4 a0 a1 [(Dv.PV.int Go.IntKind.i64 (0 : Int)), (Dv.PV.int Go.IntKind.i64 (31 : Int)), (Dv.PV.int Go.IntKind.i64 (28 : Int)), (Dv.PV.int Go.IntKind.i64 (31 : Int)), (Dv.PV.int Go.IntKind.i64 (30 : Int)), (Dv.PV.int Go.IntKind.i64 (31 : Int)), (Dv.PV.int Go.IntKind.i64 (30 : Int)), (Dv.PV.int Go.IntKind.i64 (31 : Int)), (Dv.PV.int Go.IntKind.i64 (31 : Int)), (Dv.PV.int Go.IntKind.i64 (30 : Int)), (Dv.PV.int Go.IntKind.i64 (31 : Int)), (Dv.PV.int Go.IntKind.i64 (30 : Int)), (Dv.PV.int Go.IntKind.i64 (31 : Int))] 13))) :=
  (callF_eq EE fn_civil_Len _ rfl).trans (by kernel_rfl)
theorem civil_Len_c3_eq  : civil_Len_c3  =
    (some (Dv.PV.int Go.IntKind.i64 (0 : Int))) :=
  (runW_eq EE _ _).trans (by kernel_rfl)
theorem civil_Len_c4_eq (x0 : Int) (x1 : Int) (x2 : List PV) (x3 : Nat) : civil_Len_c4 x0 x1 x2 x3 =
    (bif (Dv.eqB x1 (2 : Int)) then ((civil_Leap x0).bind fun v90 => (bif (Dv.PV.toB v90) then (some (Dv.PV.int Go.IntKind.i64 (29 : Int))) else (bif (Dv.inB (0 : Int) x1 ((13 : Nat) : Int)) then ((Dv.rdT (Dv.tiInt Go.IntKind.i64) x2 (Int.toNat x1) 0).bind fun v91 => (some (Dv.PV.int Go.IntKind.i64 (Dv.PV.toI v91)))) else none))) else (bif (Dv.inB (0 : Int) x1 ((13 : Nat) : Int)) then ((Dv.rdT (Dv.tiInt Go.IntKind.i64) x2 (Int.toNat x1) 0).bind fun v92 => (some (Dv.PV.int Go.IntKind.i64 (Dv.PV.toI v92)))) else none)) :=
  (runW_eq EE _ _).trans (by kernel_rfl)

theorem computusref02_Right_eq (a0 : Int) (a1 : Int) (a2 : Int) : computusref02_Right a0 a1 a2 =
    (bif (Dv.leB (-4718 : Int) a0) then (bif (Dv.leB a0 (294282 : Int)) then (bif (Dv.leB (1 : Int) a1) then (bif (Dv.leB a1 (12 : Int)) then (bif (Dv.leB (1 : Int) a2) then ((computusref02_Len a0 a1).bind fun v65 => (some (Dv.PV.bool (Dv.leB a2 (Dv.PV.toI v65))))) else (some (Dv.PV.bool Bool.false))) else (some (Dv.PV.bool Bool.false))) else (some (Dv.PV.bool Bool.false))) else (some (Dv.PV.bool Bool.false))) else (some (Dv.PV.bool Bool.false))) :=
  (callF_eq EE fn_computusref02_Right _ rfl).trans (by kernel_rfl)

theorem computusref02_day_eq (a0 : Int) (a1 : Int) (a2 : Int) : computusref02_day a0 a1 a2 =
    ((computusref02_start a0).bind fun v48 => (computusref02_day_c3 a0 a1 (Go.IntKind.wrap Go.IntKind.i64 ((Go.IntKind.wrap Go.IntKind.i64 ((Dv.PV.toI v48) + a2)) - (1 : Int))) (1 : Int))) :=
  (callF_eq EE fn_computusref02_day _ rfl).trans (by kernel_rfl)
theorem computusref02_day_c3_eq (x0 : Int) (x1 : Int) (x2 : Int) (x3 : Int) : computusref02_day_c3 x0 x1 x2 x3 =
    (bif (Dv.ltB x3 x1) then ((computusref02_Len x0 x3).bind fun v49 => (computusref02_day_c3 x0 x1 (Go.IntKind.wrap Go.IntKind.i64 (x2 + (Dv.PV.toI v49))) (Go.IntKind.wrap Go.IntKind.i64 (x3 + (1 : Int))))) else (some (Dv.PV.int Go.IntKind.i64 x2))) :=
  (runW_eq EE _ _).trans (by kernel_rfl)

theorem computusref02_Leap_eq (a0 : Int) : computusref02_Leap a0 =
    ((computusref02_mod a0 (4 : Int)).bind fun v93 => (bif (Dv.eqB (Dv.PV.toI v93) (0 : Int)) then ((computusref02_mod a0 (100 : Int)).bind fun v94 => (bif (!(Dv.eqB (Dv.PV.toI v94) (0 : Int))) then (some (Dv.PV.bool Bool.true)) else ((computusref02_mod a0 (400 : Int)).bind fun v95 => (some (Dv.PV.bool (Dv.eqB (Dv.PV.toI v95) (0 : Int))))))) else (some (Dv.PV.bool Bool.false)))) :=
  (callF_eq EE fn_computusref02_Leap _ rfl).trans (by kernel_rfl)

theorem computusref02_mod_eq (a0 : Int) (a1 : Int) : computusref02_mod a0 a1 =
    (bif (Dv.eqB a1 (0 : Int)) then none else (bif (Dv.ltB (Int.tmod a0 a1) (0 : Int)) then (some (Dv.PV.int Go.IntKind.i64 (Go.IntKind.wrap Go.IntKind.i64 ((Int.tmod a0 a1) + a1)))) else (some (Dv.PV.int Go.IntKind.i64 (Int.tmod a0 a1))))) :=
  (callF_eq EE fn_computusref02_mod _ rfl).trans (by kernel_rfl)

theorem strings_TrimPrefix_eq (a0 : List UInt8) (a1 : List UInt8) : strings_TrimPrefix a0 a1 =
    ((stringslite_TrimPrefix a0 a1).bind fun v50 => (some (Dv.PV.str (Dv.PV.toS v50)))) :=
  (callF_eq EE fn_strings_TrimPrefix _ rfl).trans (by kernel_rfl)

theorem clock_Two_eq (a0 : Int) : clock_Two a0 =
    (bif (Dv.leB (0 : Int) a0) then ((clock_digits (Go.IntKind.wrap Go.IntKind.u64 a0) (2 : Int)).bind fun v96 => (some (Dv.PV.str (Dv.PV.toS v96)))) else ((num_Neg a0).bind fun v97 => (bif (Dv.eqB (Dv.PV.toI (Dv.PV.tnth v97 1)) (0 : Int)) then ((clock_digits (Go.IntKind.wrap Go.IntKind.u64 (Dv.PV.toI (Dv.PV.tnth v97 0))) (2 : Int)).bind fun v98 => ((Dv.catS [(45 : UInt8)] (Dv.PV.toS v98)).bind fun v99 => (some (Dv.PV.str v99)))) else ((clock_digits (9223372036854775808 : Int) (2 : Int)).bind fun v100 => ((Dv.catS [(45 : UInt8)] (Dv.PV.toS v100)).bind fun v101 => (some (Dv.PV.str v101))))))) :=
  (callF_eq EE fn_clock_Two _ rfl).trans (by kernel_rfl)

theorem computusref03_Digits_eq (a0 : Int) : computusref03_Digits a0 =
    (bif (Dv.ltB a0 (0 : Int)) then (computusref03_Digits_c4 a0 (Go.IntKind.wrap Go.IntKind.u64 ((0 : Int) - (Go.IntKind.wrap Go.IntKind.u64 a0)))) else (computusref03_Digits_c4 a0 (Go.IntKind.wrap Go.IntKind.u64 a0))) :=
  (callF_eq EE fn_computusref03_Digits _ rfl).trans (by kernel_rfl)
theorem computusref03_Digits_c4_eq (x0 : Int) (x1 : Int) : computusref03_Digits_c4 x0 x1 =
    (computusref03_Digits_c5 x0 x1 []) :=
  (runW_eq EE _ _).trans (by kernel_rfl)
theorem computusref03_Digits_c5_eq (x0 : Int) (x1 : Int) (x2 : List PV) : computusref03_Digits_c5 x0 x1 x2 =
    (bif (Dv.leB (10 : Int) x1) then ((Dv.appL 1 x2 [(Dv.PV.int Go.IntKind.u8 (Go.IntKind.wrap Go.IntKind.u8 (Go.IntKind.wrap Go.IntKind.u64 ((48 : Int) + (Int.tmod x1 (10 : Int))))))]).bind fun v66 => (computusref03_Digits_c5 x0 (Go.IntKind.wrap Go.IntKind.u64 (Int.tdiv x1 (10 : Int))) v66)) else ((Dv.appL 1 x2 [(Dv.PV.int Go.IntKind.u8 (Go.IntKind.wrap Go.IntKind.u8 (Go.IntKind.wrap Go.IntKind.u64 ((48 : Int) + x1))))]).bind fun v67 => (bif (Dv.ltB x0 (0 : Int)) then ((Dv.appL 1 v67 [(Dv.PV.int Go.IntKind.u8 (45 : Int))]).bind fun v68 => (computusref03_Digits_c11 v68)) else (computusref03_Digits_c11 v67)))) :=
  (runW_eq EE _ _).trans (by kernel_rfl)
theorem computusref03_Digits_c11_eq (x0 : List PV) : computusref03_Digits_c11 x0 =
    (computusref03_Digits_c13 (Go.IntKind.wrap Go.IntKind.i64 ((((List.length x0) : Nat) : Int) - (1 : Int))) x0 []) :=
  (runW_eq EE _ _).trans (by kernel_rfl)
theorem computusref03_Digits_c13_eq (x0 : Int) (x1 : List PV) (x2 : List PV) : computusref03_Digits_c13 x0 x1 x2 =
    (bif (Dv.leB (0 : Int) x0) then (bif (Dv.inB (0 : Int) x0 (((List.length x1) : Nat) : Int)) then ((Dv.rdT (Dv.tiInt Go.IntKind.u8) x1 (Int.toNat x0) 0).bind fun v69 => ((Dv.appL 1 x2 [(Dv.PV.int Go.IntKind.u8 (Dv.PV.toI v69))]).bind fun v70 => (computusref03_Digits_c13 (Go.IntKind.wrap Go.IntKind.i64 (x0 - (1 : Int))) x1 v70))) else none) else ((Dv.bytesOf x2).bind fun v71 => (some (Dv.PV.str v71)))) :=
  (runW_eq EE _ _).trans (by kernel_rfl)

theorem computusref03_Two_eq (a0 : Int) : computusref03_Two a0 =
    (bif (Dv.leB (0 : Int) a0) then (bif (Dv.ltB a0 (10 : Int)) then (computusref03_Two_c2 a0) else (computusref03_Two_c3 a0)) else (computusref03_Two_c3 a0)) :=
  (callF_eq EE fn_computusref03_Two _ rfl).trans (by kernel_rfl)
theorem computusref03_Two_c2_eq (x0 : Int) : computusref03_Two_c2 x0 =
    ((computusref03_Digits x0).bind fun v51 => ((Dv.catS [(48 : UInt8)] (Dv.PV.toS v51)).bind fun v52 => (some (Dv.PV.str v52)))) :=
  (runW_eq EE _ _).trans (by kernel_rfl)
theorem computusref03_Two_c3_eq (x0 : Int) : computusref03_Two_c3 x0 =
    (bif (Dv.ltB x0 (0 : Int)) then (bif (Dv.ltB (-10 : Int) x0) then ((computusref03_Digits (Go.IntKind.wrap Go.IntKind.i64 ((0 : Int) - x0))).bind fun v53 => ((Dv.catS [(45 : UInt8), (48 : UInt8)] (Dv.PV.toS v53)).bind fun v54 => (some (Dv.PV.str v54)))) else ((computusref03_Digits x0).bind fun v55 => (some (Dv.PV.str (Dv.PV.toS v55))))) else ((computusref03_Digits x0).bind fun v56 => (some (Dv.PV.str (Dv.PV.toS v56))))) :=
  (runW_eq EE _ _).trans (by kernel_rfl)

theorem word_Lower_eq (a0 : List UInt8) : word_Lower a0 =
    (word_Lower_c3 (((List.length (List.map Dv.byteV a0)) : Nat) : Int) (0 : Int) (List.map Dv.byteV a0)) :=
  (callF_eq EE fn_word_Lower _ rfl).trans (by kernel_rfl)
theorem word_Lower_c3_eq (x0 : Int) (x1 : Int) (x2 : List PV) : word_Lower_c3 x0 x1 x2 =
    (bif (Dv.ltB x1 x0) then (bif (Dv.inB (0 : Int) x1 (((List.length x2) : Nat) : Int)) then ((Dv.rdT (Dv.tiInt Go.IntKind.u8) x2 (Int.toNat x1) 0).bind fun v102 => (bif (Dv.leB (65 : Int) (Dv.PV.toI v102)) then (bif (Dv.leB (Dv.PV.toI v102) (90 : Int)) then (bif (Dv.inB (0 : Int) x1 (((List.length x2) : Nat) : Int)) then ((Dv.stC x2 (Int.toNat x1) 0 [(Dv.PV.int Go.IntKind.u8 (Dv.orI Go.IntKind.u8 (Dv.PV.toI v102) (32 : Int)))]).bind fun v103 => (word_Lower_c3 x0 (Go.IntKind.wrap Go.IntKind.i64 (x1 + (1 : Int))) v103)) else none) else (word_Lower_c3 x0 (Go.IntKind.wrap Go.IntKind.i64 (x1 + (1 : Int))) x2)) else (word_Lower_c3 x0 (Go.IntKind.wrap Go.IntKind.i64 (x1 + (1 : Int))) x2))) else none) else ((Dv.bytesOf x2).bind fun v104 => (some (Dv.PV.str v104)))) :=
  (runW_eq EE _ _).trans (by kernel_rfl)

theorem word_Day_eq (a0 : List UInt8) : word_Day a0 =
    ((word_Short a0 [(Dv.PV.str [(83 : UInt8), (117 : UInt8), (110 : UInt8), (100 : UInt8), (97 : UInt8), (121 : UInt8)]), (Dv.PV.str [(77 : UInt8), (111 : UInt8), (110 : UInt8), (100 : UInt8), (97 : UInt8), (121 : UInt8)]), (Dv.PV.str [(84 : UInt8), (117 : UInt8), (101 : UInt8), (115 : UInt8), (100 : UInt8), (97 : UInt8), (121 : UInt8)]), (Dv.PV.str [(87 : UInt8), (101 : UInt8), (100 : UInt8), (110 : UInt8), (101 : UInt8), (115 : UInt8), (100 : UInt8), (97 : UInt8), (121 : UInt8)]), (Dv.PV.str [(84 : UInt8), (104 : UInt8), (117 : UInt8), (114 : UInt8), (115 : UInt8), (100 : UInt8), (97 : UInt8), (121 : UInt8)]), (Dv.PV.str [(70 : UInt8), (114 : UInt8), (105 : UInt8), (100 : UInt8), (97 : UInt8), (121 : UInt8)]), (Dv.PV.str [(83 : UInt8), (97 : UInt8), (116 : UInt8), (117 : UInt8), (114 : UInt8), (100 : UInt8), (97 : UInt8), (121 : UInt8)])]).bind fun v72 => (some (Dv.PV.int Go.IntKind.i64 (Dv.PV.toI v72)))) :=
  (callF_eq EE fn_word_Day _ rfl).trans (by kernel_rfl)

theorem when_short_eq (a0 : List UInt8) : when_short a0 =
    ((word_Number a0).bind fun v57 => (bif (Dv.eqB (Dv.PV.toI (Dv.PV.tnth v57 1)) (0 : Int)) then (some (Dv.PV.tuple [(Dv.PV.int Go.IntKind.i64 (Dv.PV.toI (Dv.PV.tnth v57 0))), (Dv.PV.bool (Dv.leB (((List.length a0) : Nat) : Int) (2 : Int)))])) else (some (Dv.PV.tuple [(Dv.PV.int Go.IntKind.i64 (Dv.PV.toI (Dv.PV.tnth v57 0))), (Dv.PV.bool Bool.false)])))) :=
  (callF_eq EE fn_when_short _ rfl).trans (by kernel_rfl)

theorem stringslite_IndexByte_eq (a0 : List UInt8) (a1 : Int) : stringslite_IndexByte a0 a1 =
    ((callW EE ([(Dv.tiInt Go.IntKind.i64)]) (Dv.PV.func (Go.Fn.func fn_bytealg_IndexByteString) [] []) [(Dv.PV.str a0), (Dv.PV.int Go.IntKind.u8 a1)]).bind fun v1 => (some (Dv.PV.int Go.IntKind.i64 (Dv.PV.toI v1)))) :=
  (callF_eq EE fn_stringslite_IndexByte _ rfl).trans (by kernel_rfl)

theorem computusref05_Number_eq (a0 : List UInt8) : computusref05_Number a0 =
    (computusref05_Number_c4 a0 (0 : Int) (0 : Int) (0 : Int)) :=
  (callF_eq EE fn_computusref05_Number _ rfl).trans (by kernel_rfl)
theorem computusref05_Number_c4_eq (x0 : List UInt8) (x1 : Int) (x2 : Int) (x3 : Int) : computusref05_Number_c4 x0 x1 x2 x3 =
    (bif (Dv.ltB x3 (((List.length x0) : Nat) : Int)) then ((Dv.atS x0 x3).bind fun v73 => ((computusref05_digit v73).bind fun v74 => (bif (!(Dv.PV.toB v74)) then (some (Dv.PV.tuple [(Dv.PV.int Go.IntKind.i64 (0 : Int)), (Dv.PV.int Go.IntKind.i64 (13 : Int))])) else ((Dv.atS x0 x3).bind fun v75 => (bif (Dv.eqB x2 (0 : Int)) then (bif (Dv.ltB (922337203685477580 : Int) x1) then (computusref05_Number_c10 x0 x1 x3 (Go.IntKind.wrap Go.IntKind.i64 (Go.IntKind.wrap Go.IntKind.u8 (v75 - (48 : Int))))) else (bif (Dv.ltB (Go.IntKind.wrap Go.IntKind.i64 ((9223372036854775807 : Int) - (Go.IntKind.wrap Go.IntKind.i64 (Go.IntKind.wrap Go.IntKind.u8 (v75 - (48 : Int)))))) (Go.IntKind.wrap Go.IntKind.i64 ((10 : Int) * x1))) then (computusref05_Number_c10 x0 x1 x3 (Go.IntKind.wrap Go.IntKind.i64 (Go.IntKind.wrap Go.IntKind.u8 (v75 - (48 : Int))))) else (computusref05_Number_c11 x0 x1 x2 x3 (Go.IntKind.wrap Go.IntKind.i64 (Go.IntKind.wrap Go.IntKind.u8 (v75 - (48 : Int))))))) else (computusref05_Number_c11 x0 x1 x2 x3 (Go.IntKind.wrap Go.IntKind.i64 (Go.IntKind.wrap Go.IntKind.u8 (v75 - (48 : Int)))))))))) else (bif (Dv.eqB (((List.length x0) : Nat) : Int) (0 : Int)) then (some (Dv.PV.tuple [(Dv.PV.int Go.IntKind.i64 (0 : Int)), (Dv.PV.int Go.IntKind.i64 (13 : Int))])) else (bif (!(Dv.eqB x2 (0 : Int))) then (some (Dv.PV.tuple [(Dv.PV.int Go.IntKind.i64 (0 : Int)), (Dv.PV.int Go.IntKind.i64 x2)])) else (some (Dv.PV.tuple [(Dv.PV.int Go.IntKind.i64 x1), (Dv.PV.int Go.IntKind.i64 (0 : Int))]))))) :=
  (runW_eq EE _ _).trans (by kernel_rfl)
theorem computusref05_Number_c10_eq (x0 : List UInt8) (x1 : Int) (x2 : Int) (x3 : Int) : computusref05_Number_c10 x0 x1 x2 x3 =
    (computusref05_Number_c11 x0 x1 (10 : Int) x2 x3) :=
  (runW_eq EE _ _).trans (by kernel_rfl)
theorem computusref05_Number_c11_eq (x0 : List UInt8) (x1 : Int) (x2 : Int) (x3 : Int) (x4 : Int) : computusref05_Number_c11 x0 x1 x2 x3 x4 =
    (bif (Dv.eqB x2 (0 : Int)) then (computusref05_Number_c5 x0 (Go.IntKind.wrap Go.IntKind.i64 ((Go.IntKind.wrap Go.IntKind.i64 ((10 : Int) * x1)) + x4)) x2 x3) else (computusref05_Number_c5 x0 x1 x2 x3)) :=
  (runW_eq EE _ _).trans (by kernel_rfl)
theorem computusref05_Number_c5_eq (x0 : List UInt8) (x1 : Int) (x2 : Int) (x3 : Int) : computusref05_Number_c5 x0 x1 x2 x3 =
    (computusref05_Number_c4 x0 x1 x2 (Go.IntKind.wrap Go.IntKind.i64 (x3 + (1 : Int)))) :=
  (runW_eq EE _ _).trans (by kernel_rfl)

theorem computusref05_Lower_eq (a0 : List UInt8) : computusref05_Lower a0 =
    (computusref05_Lower_c3 a0 (0 : Int) []) :=
  (callF_eq EE fn_computusref05_Lower _ rfl).trans (by kernel_rfl)
theorem computusref05_Lower_c3_eq (x0 : List UInt8) (x1 : Int) (x2 : List PV) : computusref05_Lower_c3 x0 x1 x2 =
    (bif (Dv.ltB x1 (((List.length x0) : Nat) : Int)) then ((Dv.atS x0 x1).bind fun v58 => (bif (Dv.leB (65 : Int) v58) then (bif (Dv.leB v58 (90 : Int)) then (computusref05_Lower_c7 x0 x1 v58 x2) else ((Dv.appL 1 x2 [(Dv.PV.int Go.IntKind.u8 v58)]).bind fun v59 => (computusref05_Lower_c3 x0 (Go.IntKind.wrap Go.IntKind.i64 (x1 + (1 : Int))) v59))) else ((Dv.appL 1 x2 [(Dv.PV.int Go.IntKind.u8 v58)]).bind fun v60 => (computusref05_Lower_c3 x0 (Go.IntKind.wrap Go.IntKind.i64 (x1 + (1 : Int))) v60)))) else ((Dv.bytesOf x2).bind fun v61 => (some (Dv.PV.str v61)))) :=
  (runW_eq EE _ _).trans (by kernel_rfl)
theorem computusref05_Lower_c7_eq (x0 : List UInt8) (x1 : Int) (x2 : Int) (x3 : List PV) : computusref05_Lower_c7 x0 x1 x2 x3 =
    ((Dv.appL 1 x3 [(Dv.PV.int Go.IntKind.u8 (Go.IntKind.wrap Go.IntKind.u8 (x2 + (32 : Int))))]).bind fun v62 => (computusref05_Lower_c3 x0 (Go.IntKind.wrap Go.IntKind.i64 (x1 + (1 : Int))) v62)) :=
  (runW_eq EE _ _).trans (by kernel_rfl)

theorem computusref05_Short_eq (a0 : List UInt8) (a1 : List PV) : computusref05_Short a0 a1 =
    (computusref05_Short_c2 a0 a1 (0 : Int)) :=
  (callF_eq EE fn_computusref05_Short _ rfl).trans (by kernel_rfl)
theorem computusref05_Short_c2_eq (x0 : List UInt8) (x1 : List PV) (x2 : Int) : computusref05_Short_c2 x0 x1 x2 =
    (bif (Dv.ltB x2 (((List.length x1) : Nat) : Int)) then (bif (Dv.leB (3 : Int) (((List.length x0) : Nat) : Int)) then (computusref05_Short_c4 x0 x1 x2) else (some (Dv.PV.int Go.IntKind.i64 (-1 : Int)))) else (some (Dv.PV.int Go.IntKind.i64 (-1 : Int)))) :=
  (runW_eq EE _ _).trans (by kernel_rfl)
theorem computusref05_Short_c4_eq (x0 : List UInt8) (x1 : List PV) (x2 : Int) : computusref05_Short_c4 x0 x1 x2 =
    ((Dv.rdI Dv.tiStr x1 x2).bind fun v106 => (bif (Dv.leB (((List.length x0) : Nat) : Int) (((List.length (Dv.PV.toS v106)) : Nat) : Int)) then ((Dv.rdI Dv.tiStr x1 x2).bind fun v107 => ((Dv.takeS (Dv.PV.toS v107) (((List.length x0) : Nat) : Int)).bind fun v108 => ((computusref05_Same x0 v108).bind fun v109 => (bif (Dv.PV.toB v109) then (some (Dv.PV.int Go.IntKind.i64 x2)) else (computusref05_Short_c2 x0 x1 (Go.IntKind.wrap Go.IntKind.i64 (x2 + (1 : Int)))))))) else (computusref05_Short_c2 x0 x1 (Go.IntKind.wrap Go.IntKind.i64 (x2 + (1 : Int)))))) :=
  (runW_eq EE _ _).trans (by kernel_rfl)

theorem strings_Split_eq (a0 : List UInt8) (a1 : List UInt8) : strings_Split a0 a1 =
    ((strings_genSplit a0 a1 (0 : Int) (-1 : Int)).bind fun v76 => (some (Dv.PV.sl 1 (Dv.PV.toL v76)))) :=
  (callF_eq EE fn_strings_Split _ rfl).trans (by kernel_rfl)

theorem stringslite_CutPrefix_eq (a0 : List UInt8) (a1 : List UInt8) : stringslite_CutPrefix a0 a1 =
    ((stringslite_HasPrefix a0 a1).bind fun v63 => (bif (!(Dv.PV.toB v63)) then (some (Dv.PV.tuple [(Dv.PV.str a0), (Dv.PV.bool Bool.false)])) else ((Dv.dropS a0 (((List.length a1) : Nat) : Int)).bind fun v64 => (some (Dv.PV.tuple [(Dv.PV.str v64), (Dv.PV.bool Bool.true)]))))) :=
  (callF_eq EE fn_stringslite_CutPrefix _ rfl).trans (by kernel_rfl)

theorem civil_Right_eq (a0 : Int) (a1 : Int) (a2 : Int) : civil_Right a0 a1 a2 =
    (bif (Dv.leB (-4718 : Int) a0) then (bif (Dv.leB a0 (294282 : Int)) then (bif (Dv.leB (1 : Int) a2) then ((civil_Len a0 a1).bind fun v110 => (some (Dv.PV.bool (Dv.leB a2 (Dv.PV.toI v110))))) else (some (Dv.PV.bool Bool.false))) else (some (Dv.PV.bool Bool.false))) else (some (Dv.PV.bool Bool.false))) :=
  (callF_eq EE fn_civil_Right _ rfl).trans (by kernel_rfl)

theorem civil_day_eq (a0 : Int) (a1 : Int) (a2 : Int) : civil_day a0 a1 a2 =
    (bif (Dv.leB a1 (2 : Int)) then (civil_day_c3 (Go.IntKind.wrap Go.IntKind.i64 (a0 - (1 : Int))) (Go.IntKind.wrap Go.IntKind.i64 (a1 + (12 : Int))) a2) else (civil_day_c3 a0 a1 a2)) :=
  (callF_eq EE fn_civil_day _ rfl).trans (by kernel_rfl)
theorem civil_day_c3_eq (x0 : Int) (x1 : Int) (x2 : Int) : civil_day_c3 x0 x1 x2 =
    ((civil_floor x0 (400 : Int)).bind fun v77 => (some (Dv.PV.int Go.IntKind.i64 (Go.IntKind.wrap Go.IntKind.i64 ((Go.IntKind.wrap Go.IntKind.i64 ((Go.IntKind.wrap Go.IntKind.i64 ((Go.IntKind.wrap Go.IntKind.i64 ((Go.IntKind.wrap Go.IntKind.i64 ((Go.IntKind.wrap Go.IntKind.i64 ((Go.IntKind.wrap Go.IntKind.i64 ((Go.IntKind.wrap Go.IntKind.i64 ((Dv.PV.toI (Dv.PV.tnth v77 0)) * (146097 : Int))) + (Go.IntKind.wrap Go.IntKind.i64 ((Dv.PV.toI (Dv.PV.tnth v77 1)) * (365 : Int))))) + (Go.IntKind.wrap Go.IntKind.i64 (Int.tdiv (Dv.PV.toI (Dv.PV.tnth v77 1)) (4 : Int))))) - (Go.IntKind.wrap Go.IntKind.i64 (Int.tdiv (Dv.PV.toI (Dv.PV.tnth v77 1)) (100 : Int))))) + (Go.IntKind.wrap Go.IntKind.i64 (Int.tdiv (Go.IntKind.wrap Go.IntKind.i64 ((Go.IntKind.wrap Go.IntKind.i64 ((153 : Int) * (Go.IntKind.wrap Go.IntKind.i64 (x1 - (3 : Int))))) + (2 : Int))) (5 : Int))))) + x2)) - (1 : Int))) - (730425 : Int)))))) :=
  (runW_eq EE _ _).trans (by kernel_rfl)

theorem civil_Weekday_eq (a0 : Int) : civil_Weekday a0 =
    ((civil_floor a0 (7 : Int)).bind fun v65 => (some (Dv.PV.int Go.IntKind.i64 (Int.tmod (Go.IntKind.wrap Go.IntKind.i64 ((Dv.PV.toI (Dv.PV.tnth v65 1)) + (6 : Int))) (7 : Int))))) :=
  (callF_eq EE fn_civil_Weekday _ rfl).trans (by kernel_rfl)

theorem civil_Leap_eq (a0 : Int) : civil_Leap a0 =
    (bif (Dv.eqB (Int.tmod a0 (4 : Int)) (0 : Int)) then (bif (!(Dv.eqB (Int.tmod a0 (100 : Int)) (0 : Int))) then (some (Dv.PV.bool Bool.true)) else (some (Dv.PV.bool (Dv.eqB (Int.tmod a0 (400 : Int)) (0 : Int))))) else (some (Dv.PV.bool Bool.false))) :=
  (callF_eq EE fn_civil_Leap _ rfl).trans (by kernel_rfl)

theorem computusref02_start_eq (a0 : Int) : computusref02_start a0 =
    ((computusref02_div (Go.IntKind.wrap Go.IntKind.i64 (a0 - (2000 : Int))) (400 : Int)).bind fun v78 => (computusref02_start_c3 a0 (Go.IntKind.wrap Go.IntKind.i64 ((Dv.PV.toI v78) * (146097 : Int))) (0 : Int))) :=
  (callF_eq EE fn_computusref02_start _ rfl).trans (by kernel_rfl)
theorem computusref02_start_c3_eq (x0 : Int) (x1 : Int) (x2 : Int) : computusref02_start_c3 x0 x1 x2 =
    ((computusref02_mod (Go.IntKind.wrap Go.IntKind.i64 (x0 - (2000 : Int))) (400 : Int)).bind fun v79 => (bif (Dv.ltB x2 (Dv.PV.toI v79)) then ((computusref02_Leap (Go.IntKind.wrap Go.IntKind.i64 ((2000 : Int) + x2))).bind fun v80 => (bif (Dv.PV.toB v80) then (computusref02_start_c3 x0 (Go.IntKind.wrap Go.IntKind.i64 ((Go.IntKind.wrap Go.IntKind.i64 (x1 + (365 : Int))) + (1 : Int))) (Go.IntKind.wrap Go.IntKind.i64 (x2 + (1 : Int)))) else (computusref02_start_c3 x0 (Go.IntKind.wrap Go.IntKind.i64 (x1 + (365 : Int))) (Go.IntKind.wrap Go.IntKind.i64 (x2 + (1 : Int)))))) else (some (Dv.PV.int Go.IntKind.i64 x1)))) :=
  (runW_eq EE _ _).trans (by kernel_rfl)

theorem stringslite_TrimPrefix_eq (a0 : List UInt8) (a1 : List UInt8) : stringslite_TrimPrefix a0 a1 =
    ((stringslite_HasPrefix a0 a1).bind fun v66 => (bif (Dv.PV.toB v66) then ((Dv.dropS a0 (((List.length a1) : Nat) : Int)).bind fun v67 => (some (Dv.PV.str v67))) else (some (Dv.PV.str a0)))) :=
  (callF_eq EE fn_stringslite_TrimPrefix _ rfl).trans (by kernel_rfl)

theorem clock_digits_eq (a0 : Int) (a1 : Int) : clock_digits a0 a1 =
    (clock_digits_c3 a0 a1 (20 : Int) [(Dv.PV.int Go.IntKind.u8 (0 : Int)), (Dv.PV.int Go.IntKind.u8 (0 : Int)), (Dv.PV.int Go.IntKind.u8 (0 : Int)), (Dv.PV.int Go.IntKind.u8 (0 : Int)), (Dv.PV.int Go.IntKind.u8 (0 : Int)), (Dv.PV.int Go.IntKind.u8 (0 : Int)), (Dv.PV.int Go.IntKind.u8 (0 : Int)), (Dv.PV.int Go.IntKind.u8 (0 : Int)), (Dv.PV.int Go.IntKind.u8 (0 : Int)), (Dv.PV.int Go.IntKind.u8 (0 : Int)), (Dv.PV.int Go.IntKind.u8 (0 : Int)), (Dv.PV.int Go.IntKind.u8 (0 : Int)), (Dv.PV.int Go.IntKind.u8 (0 : Int)), (Dv.PV.int Go.IntKind.u8 (0 : Int)), (Dv.PV.int Go.IntKind.u8 (0 : Int)), (Dv.PV.int Go.IntKind.u8 (0 : Int)), (Dv.PV.int Go.IntKind.u8 (0 : Int)), (Dv.PV.int Go.IntKind.u8 (0 : Int)), (Dv.PV.int Go.IntKind.u8 (0 : Int)), (Dv.PV.int Go.IntKind.u8 (0 : Int))] 20) :=
  (callF_eq EE fn_clock_digits _ rfl).trans (by kernel_rfl)
theorem clock_digits_c3_eq (x0 : Int) (x1 : Int) (x2 : Int) (x3 : List PV) (x4 : Nat) : clock_digits_c3 x0 x1 x2 x3 x4 =
    (bif (Dv.ltB (0 : Int) x0) then (clock_digits_c5 x0 x1 x2 x3 x4) else (bif (Dv.ltB (Go.IntKind.wrap Go.IntKind.i64 ((20 : Int) - x1)) x2) then (clock_digits_c5 x0 x1 x2 x3 x4) else (bif (Dv.eqN (List.length x3) 20) then (bif (Dv.eqN x4 20) then (bif (decide (((0 : Int) ≤ x2) ∧ (x2 ≤ ((20 : Nat) : Int)))) then ((Dv.bytesOf (List.take (20 - (Int.toNat x2)) (List.drop (Int.toNat x2) x3))).bind fun v111 => (some (Dv.PV.str v111))) else none) else none) else none))) :=
  (runW_eq EE _ _).trans (by kernel_rfl)
theorem clock_digits_c5_eq (x0 : Int) (x1 : Int) (x2 : Int) (x3 : List PV) (x4 : Nat) : clock_digits_c5 x0 x1 x2 x3 x4 =
    (bif (Dv.inB (0 : Int) (Go.IntKind.wrap Go.IntKind.i64 (x2 - (1 : Int))) ((20 : Nat) : Int)) then ((Dv.stC x3 (Int.toNat (Go.IntKind.wrap Go.IntKind.i64 (x2 - (1 : Int)))) 0 [(Dv.PV.int Go.IntKind.u8 (Go.IntKind.wrap Go.IntKind.u8 (Go.IntKind.wrap Go.IntKind.u64 ((48 : Int) + (Int.tmod x0 (10 : Int))))))]).bind fun v112 => (clock_digits_c3 (Go.IntKind.wrap Go.IntKind.u64 (Int.tdiv x0 (10 : Int))) x1 (Go.IntKind.wrap Go.IntKind.i64 (x2 - (1 : Int))) v112 x4)) else none) :=
  (runW_eq EE _ _).trans (by kernel_rfl)

theorem num_Neg_eq (a0 : Int) : num_Neg a0 =
    ((num_Sub (0 : Int) a0).bind fun v81 => (some (Dv.PV.tuple [(Dv.PV.int Go.IntKind.i64 (Dv.PV.toI (Dv.PV.tnth v81 0))), (Dv.PV.int Go.IntKind.i64 (Dv.PV.toI (Dv.PV.tnth v81 1)))]))) :=
  (callF_eq EE fn_num_Neg _ rfl).trans (by kernel_rfl)

theorem word_Short_eq (a0 : List UInt8) (a1 : List PV) : word_Short a0 a1 =
    (bif (Dv.ltB (((List.length a0) : Nat) : Int) (3 : Int)) then (some (Dv.PV.int Go.IntKind.i64 (-1 : Int))) else ((slices_IndexFunc_string_string a1 (Dv.PV.func (Go.Fn.func fn_word_Short_1) [] [(Dv.PV.ref [(Dv.PV.str a0)] 0)])).bind fun v1 => (some (Dv.PV.int Go.IntKind.i64 (Dv.PV.toI v1))))) :=
  (callF_eq EE fn_word_Short _ rfl).trans (by kernel_rfl)

theorem word_Number_eq (a0 : List UInt8) : word_Number a0 =
    (word_Number_c3 a0 (0 : Int) (0 : Int) a0 0) :=
  (callF_eq EE fn_word_Number _ rfl).trans (by kernel_rfl)
theorem word_Number_c3_eq (x0 : List UInt8) (x1 : Int) (x2 : Int) (x3 : List UInt8) (x4 : Nat) : word_Number_c3 x0 x1 x2 x3 x4 =
    (bif (Dv.ltN x4 (List.length x3)) then ((word_kind ((((Dv.decR x3 x4).1) : Nat) : Int)).bind fun v113 => (bif (!(Dv.eqB (Dv.PV.toI v113) (1 : Int))) then (some (Dv.PV.tuple [(Dv.PV.int Go.IntKind.i64 (0 : Int)), (Dv.PV.int Go.IntKind.i64 (13 : Int))])) else (bif (Dv.eqB x2 (0 : Int)) then ((num_Mul x1 (10 : Int)).bind fun v114 => (word_Number_c9 x0 (Dv.PV.toI (Dv.PV.tnth v114 0)) (Dv.PV.toI (Dv.PV.tnth v114 1)) ((((Dv.decR x3 x4).1) : Nat) : Int) x3 (x4 + ((Dv.decR x3 x4).2)))) else (word_Number_c9 x0 x1 x2 ((((Dv.decR x3 x4).1) : Nat) : Int) x3 (x4 + ((Dv.decR x3 x4).2)))))) else (bif (Dv.eqS x0 []) then (some (Dv.PV.tuple [(Dv.PV.int Go.IntKind.i64 (0 : Int)), (Dv.PV.int Go.IntKind.i64 (13 : Int))])) else (some (Dv.PV.tuple [(Dv.PV.int Go.IntKind.i64 x1), (Dv.PV.int Go.IntKind.i64 x2)])))) :=
  (runW_eq EE _ _).trans (by kernel_rfl)
theorem word_Number_c9_eq (x0 : List UInt8) (x1 : Int) (x2 : Int) (x3 : Int) (x4 : List UInt8) (x5 : Nat) : word_Number_c9 x0 x1 x2 x3 x4 x5 =
    (bif (Dv.eqB x2 (0 : Int)) then ((num_Add x1 (Go.IntKind.wrap Go.IntKind.i64 (Go.IntKind.wrap Go.IntKind.i32 (x3 - (48 : Int))))).bind fun v115 => (word_Number_c3 x0 (Dv.PV.toI (Dv.PV.tnth v115 0)) (Dv.PV.toI (Dv.PV.tnth v115 1)) x4 x5)) else (word_Number_c3 x0 x1 x2 x4 x5)) :=
  (runW_eq EE _ _).trans (by kernel_rfl)

theorem computusref05_digit_eq (a0 : Int) : computusref05_digit a0 =
    (bif (Dv.leB (48 : Int) a0) then (some (Dv.PV.bool (Dv.leB a0 (57 : Int)))) else (some (Dv.PV.bool Bool.false))) :=
  (callF_eq EE fn_computusref05_digit _ rfl).trans (by kernel_rfl)

theorem strings_genSplit_eq (a0 : List UInt8) (a1 : List UInt8) (a2 : Int) (a3 : Int) : strings_genSplit a0 a1 a2 a3 =
    (bif (Dv.eqB a3 (0 : Int)) then (some (Dv.PV.sl 0 [])) else (bif (Dv.eqS a1 []) then ((strings_explode a0 a3).bind fun v69 => (some (Dv.PV.sl 1 (Dv.PV.toL v69)))) else (bif (Dv.ltB a3 (0 : Int)) then ((strings_Count a0 a1).bind fun v70 => (strings_genSplit_c7 a0 a1 a2 (Go.IntKind.wrap Go.IntKind.i64 ((Dv.PV.toI v70) + (1 : Int))))) else (strings_genSplit_c7 a0 a1 a2 a3)))) :=
  (callF_eq EE fn_strings_genSplit _ rfl).trans (by kernel_rfl)
theorem strings_genSplit_c7_eq (x0 : List UInt8) (x1 : List UInt8) (x2 : Int) (x3 : Int) : strings_genSplit_c7 x0 x1 x2 x3 =
    (bif (decide (((0 : Int) ≤ (Dv.minI x3 (Go.IntKind.wrap Go.IntKind.i64 ((((List.length x0) : Nat) : Int) + (1 : Int))))) ∧ (((Dv.minI x3 (Go.IntKind.wrap Go.IntKind.i64 ((((List.length x0) : Nat) : Int) + (1 : Int)))) ≤ (Dv.minI x3 (Go.IntKind.wrap Go.IntKind.i64 ((((List.length x0) : Nat) : Int) + (1 : Int))))) ∧ (((Dv.minI x3 (Go.IntKind.wrap Go.IntKind.i64 ((((List.length x0) : Nat) : Int) + (1 : Int)))) * ((16 : Nat) : Int)) ≤ (HPow.hPow (2 : Int) 46))))) then (strings_genSplit_c11 x0 x1 x2 (Go.IntKind.wrap Go.IntKind.i64 ((Dv.minI x3 (Go.IntKind.wrap Go.IntKind.i64 ((((List.length x0) : Nat) : Int) + (1 : Int)))) - (1 : Int))) (0 : Int) (List.replicate (Int.toNat (Dv.minI x3 (Go.IntKind.wrap Go.IntKind.i64 ((((List.length x0) : Nat) : Int) + (1 : Int))))) (Dv.PV.str [])) (Int.toNat (Dv.minI x3 (Go.IntKind.wrap Go.IntKind.i64 ((((List.length x0) : Nat) : Int) + (1 : Int)))))) else none) :=
  (runW_eq EE _ _).trans (by kernel_rfl)
theorem strings_genSplit_c11_eq (x0 : List UInt8) (x1 : List UInt8) (x2 : Int) (x3 : Int) (x4 : Int) (x5 : List PV) (x6 : Nat) : strings_genSplit_c11 x0 x1 x2 x3 x4 x5 x6 =
    (bif (Dv.ltB x4 x3) then ((strings_Index x0 x1).bind fun v71 => (bif (Dv.ltB (Dv.PV.toI v71) (0 : Int)) then (bif (Dv.inB (0 : Int) x4 (((List.length x5) : Nat) : Int)) then ((Dv.stC x5 (Int.toNat x4) 0 [(Dv.PV.str x0)]).bind fun v72 => (bif (decide (((0 : Int) ≤ (Go.IntKind.wrap Go.IntKind.i64 (x4 + (1 : Int)))) ∧ ((Go.IntKind.wrap Go.IntKind.i64 (x4 + (1 : Int))) ≤ (((List.length v72) : Nat) : Int)))) then (some (Dv.PV.sl 1 (List.take (Int.toNat (Go.IntKind.wrap Go.IntKind.i64 (x4 + (1 : Int)))) v72))) else none)) else none) else ((Dv.takeS x0 (Go.IntKind.wrap Go.IntKind.i64 ((Dv.PV.toI v71) + x2))).bind fun v73 => (bif (Dv.inB (0 : Int) x4 (((List.length x5) : Nat) : Int)) then ((Dv.stC x5 (Int.toNat x4) 0 [(Dv.PV.str v73)]).bind fun v74 => ((Dv.dropS x0 (Go.IntKind.wrap Go.IntKind.i64 ((Dv.PV.toI v71) + (((List.length x1) : Nat) : Int)))).bind fun v75 => (strings_genSplit_c11 v75 x1 x2 x3 (Go.IntKind.wrap Go.IntKind.i64 (x4 + (1 : Int))) v74 x6))) else none)))) else (bif (Dv.inB (0 : Int) x4 (((List.length x5) : Nat) : Int)) then ((Dv.stC x5 (Int.toNat x4) 0 [(Dv.PV.str x0)]).bind fun v76 => (bif (decide (((0 : Int) ≤ (Go.IntKind.wrap Go.IntKind.i64 (x4 + (1 : Int)))) ∧ ((Go.IntKind.wrap Go.IntKind.i64 (x4 + (1 : Int))) ≤ (((List.length v76) : Nat) : Int)))) then (some (Dv.PV.sl 1 (List.take (Int.toNat (Go.IntKind.wrap Go.IntKind.i64 (x4 + (1 : Int)))) v76))) else none)) else none)) :=
  (runW_eq EE _ _).trans (by kernel_rfl)

theorem stringslite_HasPrefix_eq (a0 : List UInt8) (a1 : List UInt8) : stringslite_HasPrefix a0 a1 =
    (bif (Dv.leB (((List.length a1) : Nat) : Int) (((List.length a0) : Nat) : Int)) then ((Dv.takeS a0 (((List.length a1) : Nat) : Int)).bind fun v116 => (some (Dv.PV.bool (Dv.eqS v116 a1)))) else (some (Dv.PV.bool Bool.false))) :=
  (callF_eq EE fn_stringslite_HasPrefix _ rfl).trans (by kernel_rfl)

theorem civil_floor_eq (a0 : Int) (a1 : Int) : civil_floor a0 a1 =
    (bif (Dv.eqB a1 (0 : Int)) then none else (bif (Dv.eqB a1 (0 : Int)) then none else (bif (Dv.ltB (Int.tmod a0 a1) (0 : Int)) then (some (Dv.PV.tuple [(Dv.PV.int Go.IntKind.i64 (Go.IntKind.wrap Go.IntKind.i64 ((Go.IntKind.wrap Go.IntKind.i64 (Int.tdiv a0 a1)) - (1 : Int)))), (Dv.PV.int Go.IntKind.i64 (Go.IntKind.wrap Go.IntKind.i64 ((Int.tmod a0 a1) + a1)))])) else (some (Dv.PV.tuple [(Dv.PV.int Go.IntKind.i64 (Go.IntKind.wrap Go.IntKind.i64 (Int.tdiv a0 a1))), (Dv.PV.int Go.IntKind.i64 (Int.tmod a0 a1))]))))) :=
  (callF_eq EE fn_civil_floor _ rfl).trans (by kernel_rfl)

theorem computusref02_div_eq (a0 : Int) (a1 : Int) : computusref02_div a0 a1 =
    (bif (Dv.eqB a1 (0 : Int)) then none else (bif (Dv.eqB a1 (0 : Int)) then none else (bif (Dv.ltB (Int.tmod a0 a1) (0 : Int)) then (some (Dv.PV.int Go.IntKind.i64 (Go.IntKind.wrap Go.IntKind.i64 ((Go.IntKind.wrap Go.IntKind.i64 (Int.tdiv a0 a1)) - (1 : Int))))) else (some (Dv.PV.int Go.IntKind.i64 (Go.IntKind.wrap Go.IntKind.i64 (Int.tdiv a0 a1))))))) :=
  (callF_eq EE fn_computusref02_div _ rfl).trans (by kernel_rfl)

theorem num_Sub_eq (a0 : Int) (a1 : Int) : num_Sub a0 a1 =
    (bif (!((Dv.ltB (Go.IntKind.wrap Go.IntKind.i64 (a0 - a1)) a0) == (Dv.ltB (0 : Int) a1))) then (some (Dv.PV.tuple [(Dv.PV.int Go.IntKind.i64 (0 : Int)), (Dv.PV.int Go.IntKind.i64 (10 : Int))])) else (some (Dv.PV.tuple [(Dv.PV.int Go.IntKind.i64 (Go.IntKind.wrap Go.IntKind.i64 (a0 - a1))), (Dv.PV.int Go.IntKind.i64 (0 : Int))]))) :=
  (callF_eq EE fn_num_Sub _ rfl).trans (by kernel_rfl)

theorem slices_IndexFunc_string_string_eq (a0 : List PV) (a1 : PV) : slices_IndexFunc_string_string a0 a1 =
    (bif ((Dv.okOther a1) && Bool.true) then (slices_IndexFunc_string_string_c2 a0 a1 (((List.length a0) : Nat) : Int) (0 : Int)) else none) :=
  (callF_eq EE fn_slices_IndexFunc_string_string _ rfl).trans (by kernel_rfl)
theorem slices_IndexFunc_string_string_c2_eq (x0 : List PV) (x1 : PV) (x2 : Int) (x3 : Int) : slices_IndexFunc_string_string_c2 x0 x1 x2 x3 =
    (bif (Dv.ltB x3 x2) then ((Dv.rdI Dv.tiStr x0 x3).bind fun v82 => ((callW EE ([Dv.tiBool]) x1 [(Dv.PV.str (Dv.PV.toS v82))]).bind fun v83 => (bif (Dv.PV.toB v83) then (some (Dv.PV.int Go.IntKind.i64 x3)) else (slices_IndexFunc_string_string_c2 x0 x1 x2 (Go.IntKind.wrap Go.IntKind.i64 (x3 + (1 : Int))))))) else (some (Dv.PV.int Go.IntKind.i64 (-1 : Int)))) :=
  (runW_eq EE _ _).trans (by kernel_rfl)

theorem word_Short_1_eq (a0 : List UInt8) (q0 : PV) : word_Short_1 a0 q0 =
    (bif (Dv.okOther q0) then ((Dv.rdP Dv.tiStr q0 0).bind fun v77 => (bif (Dv.leB (((List.length (Dv.PV.toS v77)) : Nat) : Int) (((List.length a0) : Nat) : Int)) then ((Dv.rdP Dv.tiStr q0 0).bind fun v78 => ((Dv.rdP Dv.tiStr q0 0).bind fun v79 => ((Dv.takeS a0 (((List.length (Dv.PV.toS v79)) : Nat) : Int)).bind fun v80 => ((word_Same (Dv.PV.toS v78) v80).bind fun v81 => (some (Dv.PV.bool (Dv.PV.toB v81))))))) else (some (Dv.PV.bool Bool.false)))) else none) :=
  (callF_eq EE fn_word_Short_1 _ rfl).trans (by kernel_rfl)

theorem word_kind_eq (a0 : Int) : word_kind a0 =
    (bif (Dv.leB (48 : Int) a0) then (bif (Dv.leB a0 (57 : Int)) then word_kind_c2 else (word_kind_c3 a0)) else (word_kind_c3 a0)) :=
  (callF_eq EE fn_word_kind _ rfl).trans (by kernel_rfl)
theorem word_kind_c2_eq  : word_kind_c2  =
    (some (Dv.PV.int Go.IntKind.i64 (1 : Int))) :=
  (runW_eq EE _ _).trans (by kernel_rfl)
theorem word_kind_c3_eq (x0 : Int) : word_kind_c3 x0 =
    (bif (Dv.eqB x0 (95 : Int)) then word_kind_c4 else (bif (Dv.ltB (127 : Int) x0) then word_kind_c4 else (bif (Dv.leB (97 : Int) (Dv.orI Go.IntKind.i32 x0 (32 : Int))) then (bif (Dv.leB (Dv.orI Go.IntKind.i32 x0 (32 : Int)) (122 : Int)) then word_kind_c4 else (word_kind_c5 x0)) else (word_kind_c5 x0)))) :=
  (runW_eq EE _ _).trans (by kernel_rfl)
theorem word_kind_c4_eq  : word_kind_c4  =
    (some (Dv.PV.int Go.IntKind.i64 (2 : Int))) :=
  (runW_eq EE _ _).trans (by kernel_rfl)
theorem word_kind_c5_eq (x0 : Int) : word_kind_c5 x0 =
    (bif (Dv.eqB x0 (32 : Int)) then word_kind_c10 else (bif (Dv.eqB x0 (9 : Int)) then word_kind_c10 else (bif (Dv.eqB x0 (10 : Int)) then word_kind_c10 else (bif (Dv.eqB x0 (13 : Int)) then word_kind_c10 else (bif (Dv.ltB x0 (32 : Int)) then (some (Dv.PV.int Go.IntKind.i64 (4 : Int))) else (bif (Dv.eqB x0 (127 : Int)) then (some (Dv.PV.int Go.IntKind.i64 (4 : Int))) else (some (Dv.PV.int Go.IntKind.i64 (3 : Int))))))))) :=
  (runW_eq EE _ _).trans (by kernel_rfl)
theorem word_kind_c10_eq  : word_kind_c10  =
    (some (Dv.PV.int Go.IntKind.i64 (0 : Int))) :=
  (runW_eq EE _ _).trans (by kernel_rfl)

theorem num_Mul_eq (a0 : Int) (a1 : Int) : num_Mul a0 a1 =
    ((num_product a0 a1).bind fun v84 => ((num_signed (!((Dv.ltB a0 (0 : Int)) == (Dv.ltB a1 (0 : Int)))) (Dv.PV.toI (Dv.PV.nth v84 0)) (Dv.PV.toI (Dv.PV.nth v84 1))).bind fun v85 => (some (Dv.PV.tuple [(Dv.PV.int Go.IntKind.i64 (Dv.PV.toI (Dv.PV.tnth v85 0))), (Dv.PV.int Go.IntKind.i64 (Dv.PV.toI (Dv.PV.tnth v85 1)))])))) :=
  (callF_eq EE fn_num_Mul _ rfl).trans (by kernel_rfl)

theorem num_Add_eq (a0 : Int) (a1 : Int) : num_Add a0 a1 =
    (bif (!((Dv.ltB a0 (Go.IntKind.wrap Go.IntKind.i64 (a0 + a1))) == (Dv.ltB (0 : Int) a1))) then (some (Dv.PV.tuple [(Dv.PV.int Go.IntKind.i64 (0 : Int)), (Dv.PV.int Go.IntKind.i64 (10 : Int))])) else (some (Dv.PV.tuple [(Dv.PV.int Go.IntKind.i64 (Go.IntKind.wrap Go.IntKind.i64 (a0 + a1))), (Dv.PV.int Go.IntKind.i64 (0 : Int))]))) :=
  (callF_eq EE fn_num_Add _ rfl).trans (by kernel_rfl)

theorem strings_explode_eq (a0 : List UInt8) (a1 : Int) : strings_explode a0 a1 =
    ((utf8_RuneCountInString a0).bind fun v117 => (bif (Dv.ltB a1 (0 : Int)) then (strings_explode_c3 a0 (Dv.PV.toI v117)) else (bif (Dv.ltB (Dv.PV.toI v117) a1) then (strings_explode_c3 a0 (Dv.PV.toI v117)) else (strings_explode_c4 a0 a1)))) :=
  (callF_eq EE fn_strings_explode _ rfl).trans (by kernel_rfl)
theorem strings_explode_c3_eq (x0 : List UInt8) (x1 : Int) : strings_explode_c3 x0 x1 =
    (strings_explode_c4 x0 x1) :=
  (runW_eq EE _ _).trans (by kernel_rfl)
theorem strings_explode_c4_eq (x0 : List UInt8) (x1 : Int) : strings_explode_c4 x0 x1 =
    (bif (decide (((0 : Int) ≤ x1) ∧ ((x1 ≤ x1) ∧ ((x1 * ((16 : Nat) : Int)) ≤ (HPow.hPow (2 : Int) 46))))) then (strings_explode_c6 x0 x1 (0 : Int) (List.replicate (Int.toNat x1) (Dv.PV.str [])) (Int.toNat x1)) else none) :=
  (runW_eq EE _ _).trans (by kernel_rfl)
theorem strings_explode_c6_eq (x0 : List UInt8) (x1 : Int) (x2 : Int) (x3 : List PV) (x4 : Nat) : strings_explode_c6 x0 x1 x2 x3 x4 =
    (bif (Dv.ltB x2 (Go.IntKind.wrap Go.IntKind.i64 (x1 - (1 : Int)))) then ((utf8_DecodeRuneInString x0).bind fun v118 => ((Dv.takeS x0 (Dv.PV.toI (Dv.PV.tnth v118 1))).bind fun v119 => (bif (Dv.inB (0 : Int) x2 (((List.length x3) : Nat) : Int)) then ((Dv.stC x3 (Int.toNat x2) 0 [(Dv.PV.str v119)]).bind fun v120 => ((Dv.dropS x0 (Dv.PV.toI (Dv.PV.tnth v118 1))).bind fun v121 => (strings_explode_c6 v121 x1 (Go.IntKind.wrap Go.IntKind.i64 (x2 + (1 : Int))) v120 x4))) else none))) else (bif (Dv.ltB (0 : Int) x1) then (bif (Dv.inB (0 : Int) (Go.IntKind.wrap Go.IntKind.i64 (x1 - (1 : Int))) (((List.length x3) : Nat) : Int)) then ((Dv.stC x3 (Int.toNat (Go.IntKind.wrap Go.IntKind.i64 (x1 - (1 : Int)))) 0 [(Dv.PV.str x0)]).bind fun v122 => (some (Dv.PV.sl 1 v122))) else none) else (some (Dv.PV.sl 1 x3)))) :=
  (runW_eq EE _ _).trans (by kernel_rfl)

theorem strings_Count_eq (a0 : List UInt8) (a1 : List UInt8) : strings_Count a0 a1 =
    (bif (Dv.eqB (((List.length a1) : Nat) : Int) (0 : Int)) then ((utf8_RuneCountInString a0).bind fun v1 => (some (Dv.PV.int Go.IntKind.i64 (Go.IntKind.wrap Go.IntKind.i64 ((Dv.PV.toI v1) + (1 : Int)))))) else (bif (Dv.eqB (((List.length a1) : Nat) : Int) (1 : Int)) then ((Dv.atS a1 (0 : Int)).bind fun v2 => ((callW EE ([(Dv.tiInt Go.IntKind.i64)]) (Dv.PV.func (Go.Fn.func fn_bytealg_CountString) [] []) [(Dv.PV.str a0), (Dv.PV.int Go.IntKind.u8 v2)]).bind fun v3 => (some (Dv.PV.int Go.IntKind.i64 (Dv.PV.toI v3))))) else (strings_Count_c6 a0 a1 (0 : Int)))) :=
  (callF_eq EE fn_strings_Count _ rfl).trans (by kernel_rfl)
theorem strings_Count_c6_eq (x0 : List UInt8) (x1 : List UInt8) (x2 : Int) : strings_Count_c6 x0 x1 x2 =
    ((strings_Index x0 x1).bind fun v4 => (bif (Dv.eqB (Dv.PV.toI v4) (-1 : Int)) then (some (Dv.PV.int Go.IntKind.i64 x2)) else ((Dv.dropS x0 (Go.IntKind.wrap Go.IntKind.i64 ((Dv.PV.toI v4) + (((List.length x1) : Nat) : Int)))).bind fun v5 => (strings_Count_c6 v5 x1 (Go.IntKind.wrap Go.IntKind.i64 (x2 + (1 : Int))))))) :=
  (runW_eq EE _ _).trans (by kernel_rfl)

theorem strings_Index_eq (a0 : List UInt8) (a1 : List UInt8) : strings_Index a0 a1 =
    ((stringslite_Index a0 a1).bind fun v82 => (some (Dv.PV.int Go.IntKind.i64 (Dv.PV.toI v82)))) :=
  (callF_eq EE fn_strings_Index _ rfl).trans (by kernel_rfl)

theorem num_signed_eq (a0 : Bool) (a1_0 : Int) (a1_1 : Int) : num_signed a0 a1_0 a1_1 =
    (bif (!(Dv.eqB a1_0 (0 : Int))) then (some (Dv.PV.tuple [(Dv.PV.int Go.IntKind.i64 (0 : Int)), (Dv.PV.int Go.IntKind.i64 (10 : Int))])) else (bif a0 then (bif (Dv.leB a1_1 (9223372036854775808 : Int)) then (some (Dv.PV.tuple [(Dv.PV.int Go.IntKind.i64 (Go.IntKind.wrap Go.IntKind.i64 (Go.IntKind.wrap Go.IntKind.u64 ((0 : Int) - a1_1)))), (Dv.PV.int Go.IntKind.i64 (0 : Int))])) else (num_signed_c5 a0 [(Dv.PV.int Go.IntKind.u64 a1_0), (Dv.PV.int Go.IntKind.u64 a1_1)] 2)) else (num_signed_c5 a0 [(Dv.PV.int Go.IntKind.u64 a1_0), (Dv.PV.int Go.IntKind.u64 a1_1)] 2))) :=
  (callF_eq EE fn_num_signed _ rfl).trans (by kernel_rfl)
theorem num_signed_c5_eq (x0 : Bool) (x1 : List PV) (x2 : Nat) : num_signed_c5 x0 x1 x2 =
    (bif x0 then (some (Dv.PV.tuple [(Dv.PV.int Go.IntKind.i64 (0 : Int)), (Dv.PV.int Go.IntKind.i64 (10 : Int))])) else ((Dv.rdT (Dv.tiInt Go.IntKind.u64) x1 1 0).bind fun v123 => (bif (Dv.ltB (9223372036854775807 : Int) (Dv.PV.toI v123)) then (some (Dv.PV.tuple [(Dv.PV.int Go.IntKind.i64 (0 : Int)), (Dv.PV.int Go.IntKind.i64 (10 : Int))])) else ((Dv.rdT (Dv.tiInt Go.IntKind.u64) x1 1 0).bind fun v124 => (some (Dv.PV.tuple [(Dv.PV.int Go.IntKind.i64 (Go.IntKind.wrap Go.IntKind.i64 (Dv.PV.toI v124))), (Dv.PV.int Go.IntKind.i64 (0 : Int))])))))) :=
  (runW_eq EE _ _).trans (by kernel_rfl)

theorem num_product_eq (a0 : Int) (a1 : Int) : num_product a0 a1 =
    ((num_size a0).bind fun v91 => ((num_size a1).bind fun v92 => ((bits_Mul64 (Dv.PV.toI v91) (Dv.PV.toI v92)).bind fun v93 => (some (Dv.PV.agg [(Dv.PV.int Go.IntKind.u64 (Dv.PV.toI (Dv.PV.tnth v93 0))), (Dv.PV.int Go.IntKind.u64 (Dv.PV.toI (Dv.PV.tnth v93 1)))]))))) :=
  (callF_eq EE fn_num_product _ rfl).trans (by kernel_rfl)

theorem utf8_RuneCountInString_eq (a0 : List UInt8) : utf8_RuneCountInString a0 =
    (utf8_RuneCountInString_c2 (0 : Int) a0 0) :=
  (callF_eq EE fn_utf8_RuneCountInString _ rfl).trans (by kernel_rfl)
theorem utf8_RuneCountInString_c2_eq (x0 : Int) (x1 : List UInt8) (x2 : Nat) : utf8_RuneCountInString_c2 x0 x1 x2 =
    (bif (Dv.ltN x2 (List.length x1)) then (utf8_RuneCountInString_c2 (Go.IntKind.wrap Go.IntKind.i64 (x0 + (1 : Int))) x1 (x2 + ((Dv.decR x1 x2).2))) else (some (Dv.PV.int Go.IntKind.i64 x0))) :=
  (runW_eq EE _ _).trans (by kernel_rfl)

theorem utf8_DecodeRuneInString_eq (a0 : List UInt8) : utf8_DecodeRuneInString a0 =
    (bif (!(Dv.eqS a0 [])) then ((Dv.atS a0 (0 : Int)).bind fun v125 => (bif (Dv.ltB v125 (128 : Int)) then ((Dv.atS a0 (0 : Int)).bind fun v126 => (some (Dv.PV.tuple [(Dv.PV.int Go.IntKind.i32 (Go.IntKind.wrap Go.IntKind.i32 v126)), (Dv.PV.int Go.IntKind.i64 (1 : Int))]))) else ((utf8_decodeRuneInStringSlow a0).bind fun v127 => (some (Dv.PV.tuple [(Dv.PV.int Go.IntKind.i32 (Dv.PV.toI (Dv.PV.tnth v127 0))), (Dv.PV.int Go.IntKind.i64 (Dv.PV.toI (Dv.PV.tnth v127 1)))]))))) else ((utf8_decodeRuneInStringSlow a0).bind fun v128 => (some (Dv.PV.tuple [(Dv.PV.int Go.IntKind.i32 (Dv.PV.toI (Dv.PV.tnth v128 0))), (Dv.PV.int Go.IntKind.i64 (Dv.PV.toI (Dv.PV.tnth v128 1)))])))) :=
  (callF_eq EE fn_utf8_DecodeRuneInString _ rfl).trans (by kernel_rfl)

theorem stringslite_Index_eq (a0 : List UInt8) (a1 : List UInt8) : stringslite_Index a0 a1 =
    (bif (Dv.eqB (((List.length a1) : Nat) : Int) (0 : Int)) then stringslite_Index_c3 else (bif (Dv.eqS a1 a0) then stringslite_Index_c3 else (stringslite_Index_c4 a0 a1 (((List.length a1) : Nat) : Int)))) :=
  (callF_eq EE fn_stringslite_Index _ rfl).trans (by kernel_rfl)
theorem stringslite_Index_c3_eq  : stringslite_Index_c3  =
    (some (Dv.PV.int Go.IntKind.i64 (0 : Int))) :=
  (runW_eq EE _ _).trans (by kernel_rfl)
theorem stringslite_Index_c4_eq (x0 : List UInt8) (x1 : List UInt8) (x2 : Int) : stringslite_Index_c4 x0 x1 x2 =
    (bif (Dv.eqB x2 (1 : Int)) then ((Dv.atS x1 (0 : Int)).bind fun v94 => ((stringslite_IndexByte x0 v94).bind fun v95 => (some (Dv.PV.int Go.IntKind.i64 (Dv.PV.toI v95))))) else (bif (Dv.leB (((List.length x0) : Nat) : Int) x2) then (some (Dv.PV.int Go.IntKind.i64 (-1 : Int))) else none)) :=
  (runW_eq EE _ _).trans (by kernel_rfl)

theorem bits_Mul64_eq (a0 : Int) (a1 : Int) : bits_Mul64 a0 a1 =
    (some (Dv.PV.tuple [(Dv.PV.int Go.IntKind.u64 (Go.IntKind.wrap Go.IntKind.u64 ((Go.IntKind.wrap Go.IntKind.u64 ((Go.IntKind.wrap Go.IntKind.u64 ((Dv.shrI Go.IntKind.u64 a0 (32 : Int)) * (Dv.shrI Go.IntKind.u64 a1 (32 : Int)))) + (Dv.shrI Go.IntKind.u64 (Go.IntKind.wrap Go.IntKind.u64 ((Go.IntKind.wrap Go.IntKind.u64 ((Dv.shrI Go.IntKind.u64 a0 (32 : Int)) * (Dv.andI Go.IntKind.u64 a1 (4294967295 : Int)))) + (Dv.shrI Go.IntKind.u64 (Go.IntKind.wrap Go.IntKind.u64 ((Dv.andI Go.IntKind.u64 a0 (4294967295 : Int)) * (Dv.andI Go.IntKind.u64 a1 (4294967295 : Int)))) (32 : Int)))) (32 : Int)))) + (Dv.shrI Go.IntKind.u64 (Go.IntKind.wrap Go.IntKind.u64 ((Dv.andI Go.IntKind.u64 (Go.IntKind.wrap Go.IntKind.u64 ((Go.IntKind.wrap Go.IntKind.u64 ((Dv.shrI Go.IntKind.u64 a0 (32 : Int)) * (Dv.andI Go.IntKind.u64 a1 (4294967295 : Int)))) + (Dv.shrI Go.IntKind.u64 (Go.IntKind.wrap Go.IntKind.u64 ((Dv.andI Go.IntKind.u64 a0 (4294967295 : Int)) * (Dv.andI Go.IntKind.u64 a1 (4294967295 : Int)))) (32 : Int)))) (4294967295 : Int)) + (Go.IntKind.wrap Go.IntKind.u64 ((Dv.andI Go.IntKind.u64 a0 (4294967295 : Int)) * (Dv.shrI Go.IntKind.u64 a1 (32 : Int)))))) (32 : Int))))), (Dv.PV.int Go.IntKind.u64 (Go.IntKind.wrap Go.IntKind.u64 (a0 * a1)))])) :=
  (callF_eq EE fn_bits_Mul64 _ rfl).trans (by kernel_rfl)

theorem num_size_eq (a0 : Int) : num_size a0 =
    (bif (Dv.ltB a0 (0 : Int)) then (some (Dv.PV.int Go.IntKind.u64 (Go.IntKind.wrap Go.IntKind.u64 ((0 : Int) - (Go.IntKind.wrap Go.IntKind.u64 a0))))) else (some (Dv.PV.int Go.IntKind.u64 (Go.IntKind.wrap Go.IntKind.u64 a0)))) :=
  (callF_eq EE fn_num_size _ rfl).trans (by kernel_rfl)

theorem utf8_decodeRuneInStringSlow_eq (a0 : List UInt8) : utf8_decodeRuneInStringSlow a0 =
    (bif (Dv.ltB (((List.length a0) : Nat) : Int) (1 : Int)) then (some (Dv.PV.tuple [(Dv.PV.int Go.IntKind.i32 (65533 : Int)), (Dv.PV.int Go.IntKind.i64 (0 : Int))])) else ((Dv.atS a0 (0 : Int)).bind fun v96 => none)) :=
  (callF_eq EE fn_utf8_decodeRuneInStringSlow _ rfl).trans (by kernel_rfl)

theorem bytealg_Cutover_eq (a0 : Int) : bytealg_Cutover a0 =
    (some (Dv.PV.int Go.IntKind.i64 (Go.IntKind.wrap Go.IntKind.i64 (Int.tdiv (Go.IntKind.wrap Go.IntKind.i64 (a0 + (16 : Int))) (8 : Int))))) :=
  (callF_eq EE fn_bytealg_Cutover _ rfl).trans (by kernel_rfl)

theorem bytealg_IndexRabinKarp_string_eq (a0 : List UInt8) (a1 : List UInt8) : bytealg_IndexRabinKarp_string a0 a1 =
    ((bytealg_hashStr_string a1).bind fun v129 => (bytealg_IndexRabinKarp_string_c5 a0 a1 (Dv.PV.toI (Dv.PV.tnth v129 0)) (Dv.PV.toI (Dv.PV.tnth v129 1)) (((List.length a1) : Nat) : Int) (0 : Int) (0 : Int))) :=
  (callF_eq EE fn_bytealg_IndexRabinKarp_string _ rfl).trans (by kernel_rfl)
theorem bytealg_IndexRabinKarp_string_c5_eq (x0 : List UInt8) (x1 : List UInt8) (x2 : Int) (x3 : Int) (x4 : Int) (x5 : Int) (x6 : Int) : bytealg_IndexRabinKarp_string_c5 x0 x1 x2 x3 x4 x5 x6 =
    (bif (Dv.ltB x6 x4) then ((Dv.atS x0 x6).bind fun v130 => (bytealg_IndexRabinKarp_string_c5 x0 x1 x2 x3 x4 (Go.IntKind.wrap Go.IntKind.u32 ((Go.IntKind.wrap Go.IntKind.u32 (x5 * (16777619 : Int))) + (Go.IntKind.wrap Go.IntKind.u32 v130))) (Go.IntKind.wrap Go.IntKind.i64 (x6 + (1 : Int))))) else (bif (Dv.eqB x5 x2) then ((Dv.takeS x0 x4).bind fun v131 => (bif (Dv.eqS v131 x1) then bytealg_IndexRabinKarp_string_c9 else (bytealg_IndexRabinKarp_string_c10 x0 x1 x2 x3 x4 x5))) else (bytealg_IndexRabinKarp_string_c10 x0 x1 x2 x3 x4 x5))) :=
  (runW_eq EE _ _).trans (by kernel_rfl)
theorem bytealg_IndexRabinKarp_string_c9_eq  : bytealg_IndexRabinKarp_string_c9  =
    (some (Dv.PV.int Go.IntKind.i64 (0 : Int))) :=
  (runW_eq EE _ _).trans (by kernel_rfl)
theorem bytealg_IndexRabinKarp_string_c10_eq (x0 : List UInt8) (x1 : List UInt8) (x2 : Int) (x3 : Int) (x4 : Int) (x5 : Int) : bytealg_IndexRabinKarp_string_c10 x0 x1 x2 x3 x4 x5 =
    (bytealg_IndexRabinKarp_string_c11 x0 x1 x2 x3 x4 x5 x4) :=
  (runW_eq EE _ _).trans (by kernel_rfl)
theorem bytealg_IndexRabinKarp_string_c11_eq (x0 : List UInt8) (x1 : List UInt8) (x2 : Int) (x3 : Int) (x4 : Int) (x5 : Int) (x6 : Int) : bytealg_IndexRabinKarp_string_c11 x0 x1 x2 x3 x4 x5 x6 =
    (bif (Dv.ltB x6 (((List.length x0) : Nat) : Int)) then ((Dv.atS x0 x6).bind fun v132 => ((Dv.atS x0 (Go.IntKind.wrap Go.IntKind.i64 (x6 - x4))).bind fun v133 => (bif (Dv.eqB (Go.IntKind.wrap Go.IntKind.u32 ((Go.IntKind.wrap Go.IntKind.u32 ((Go.IntKind.wrap Go.IntKind.u32 (x5 * (16777619 : Int))) + (Go.IntKind.wrap Go.IntKind.u32 v132))) - (Go.IntKind.wrap Go.IntKind.u32 (x3 * (Go.IntKind.wrap Go.IntKind.u32 v133))))) x2) then ((Dv.subS x0 (Go.IntKind.wrap Go.IntKind.i64 ((Go.IntKind.wrap Go.IntKind.i64 (x6 + (1 : Int))) - x4)) (Go.IntKind.wrap Go.IntKind.i64 (x6 + (1 : Int)))).bind fun v134 => (bif (Dv.eqS v134 x1) then (some (Dv.PV.int Go.IntKind.i64 (Go.IntKind.wrap Go.IntKind.i64 ((Go.IntKind.wrap Go.IntKind.i64 (x6 + (1 : Int))) - x4)))) else (bytealg_IndexRabinKarp_string_c11 x0 x1 x2 x3 x4 (Go.IntKind.wrap Go.IntKind.u32 ((Go.IntKind.wrap Go.IntKind.u32 ((Go.IntKind.wrap Go.IntKind.u32 (x5 * (16777619 : Int))) + (Go.IntKind.wrap Go.IntKind.u32 v132))) - (Go.IntKind.wrap Go.IntKind.u32 (x3 * (Go.IntKind.wrap Go.IntKind.u32 v133))))) (Go.IntKind.wrap Go.IntKind.i64 (x6 + (1 : Int)))))) else (bytealg_IndexRabinKarp_string_c11 x0 x1 x2 x3 x4 (Go.IntKind.wrap Go.IntKind.u32 ((Go.IntKind.wrap Go.IntKind.u32 ((Go.IntKind.wrap Go.IntKind.u32 (x5 * (16777619 : Int))) + (Go.IntKind.wrap Go.IntKind.u32 v132))) - (Go.IntKind.wrap Go.IntKind.u32 (x3 * (Go.IntKind.wrap Go.IntKind.u32 v133))))) (Go.IntKind.wrap Go.IntKind.i64 (x6 + (1 : Int))))))) else (some (Dv.PV.int Go.IntKind.i64 (-1 : Int)))) :=
  (runW_eq EE _ _).trans (by kernel_rfl)

theorem bytealg_hashStr_string_eq (a0 : List UInt8) : bytealg_hashStr_string a0 =
    (bytealg_hashStr_string_c3 a0 (0 : Int) (0 : Int)) :=
  (callF_eq EE fn_bytealg_hashStr_string _ rfl).trans (by kernel_rfl)
theorem bytealg_hashStr_string_c3_eq (x0 : List UInt8) (x1 : Int) (x2 : Int) : bytealg_hashStr_string_c3 x0 x1 x2 =
    (bif (Dv.ltB x2 (((List.length x0) : Nat) : Int)) then ((Dv.atS x0 x2).bind fun v97 => (bytealg_hashStr_string_c3 x0 (Go.IntKind.wrap Go.IntKind.u32 ((Go.IntKind.wrap Go.IntKind.u32 (x1 * (16777619 : Int))) + (Go.IntKind.wrap Go.IntKind.u32 v97))) (Go.IntKind.wrap Go.IntKind.i64 (x2 + (1 : Int))))) else (bytealg_hashStr_string_c8 x1 (1 : Int) (16777619 : Int) (((List.length x0) : Nat) : Int))) :=
  (runW_eq EE _ _).trans (by kernel_rfl)
theorem bytealg_hashStr_string_c8_eq (x0 : Int) (x1 : Int) (x2 : Int) (x3 : Int) : bytealg_hashStr_string_c8 x0 x1 x2 x3 =
    (bif (Dv.ltB (0 : Int) x3) then (bif (!(Dv.eqB (Dv.andI Go.IntKind.i64 x3 (1 : Int)) (0 : Int))) then (bytealg_hashStr_string_c8 x0 (Go.IntKind.wrap Go.IntKind.u32 (x1 * x2)) (Go.IntKind.wrap Go.IntKind.u32 (x2 * x2)) (Dv.shrI Go.IntKind.i64 x3 (1 : Int))) else (bytealg_hashStr_string_c8 x0 x1 (Go.IntKind.wrap Go.IntKind.u32 (x2 * x2)) (Dv.shrI Go.IntKind.i64 x3 (1 : Int)))) else (some (Dv.PV.tuple [(Dv.PV.int Go.IntKind.u32 x0), (Dv.PV.int Go.IntKind.u32 x1)]))) :=
  (runW_eq EE _ _).trans (by kernel_rfl)

theorem when_fixed_right_eq (a0 : Int) : when_fixed_right a0 =
    ((when_day a0).bind fun v83 => (some (Dv.PV.bool (Dv.PV.toB v83)))) :=
  (callF_eq EE fn_when_fixed_right _ rfl).trans (by kernel_rfl)

theorem when_day_eq (a0 : Int) : when_day a0 =
    (bif (Dv.leB (1 : Int) a0) then (some (Dv.PV.bool (Dv.leB a0 (31 : Int)))) else (some (Dv.PV.bool Bool.false))) :=
  (callF_eq EE fn_when_day _ rfl).trans (by kernel_rfl)

theorem when_final_right_eq (a0 : Int) : when_final_right a0 =
    ((when_weekday a0).bind fun v98 => (some (Dv.PV.bool (Dv.PV.toB v98)))) :=
  (callF_eq EE fn_when_final_right _ rfl).trans (by kernel_rfl)

theorem when_weekday_eq (a0 : Int) : when_weekday a0 =
    (bif (Dv.leB (0 : Int) a0) then (some (Dv.PV.bool (Dv.leB a0 (6 : Int)))) else (some (Dv.PV.bool Bool.false))) :=
  (callF_eq EE fn_when_weekday _ rfl).trans (by kernel_rfl)

theorem when_near_right_eq (a0_0 : Int) (a0_1 : Int) (a0_2 : Int) : when_near_right a0_0 a0_1 a0_2 =
    ((when_weekday a0_0).bind fun v135 => (bif (Dv.PV.toB v135) then ((when_day a0_1).bind fun v136 => (some (Dv.PV.bool (Dv.PV.toB v136)))) else (some (Dv.PV.bool Bool.false)))) :=
  (callF_eq EE fn_when_near_right _ rfl).trans (by kernel_rfl)

end Dv
