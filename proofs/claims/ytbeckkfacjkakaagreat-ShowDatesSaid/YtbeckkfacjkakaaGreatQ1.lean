/- The seat's functions, as equations. -/
import Derived.Test.YtbeckkfacjkakaaGreatL1
import Derived.Test.YtbeckkfacjkakaaGreatProg
set_option linter.unusedVariables false
set_option linter.unusedSimpArgs false
namespace Dv
open Go Go.Proofs
def tt : List TI := [
  ⟨.tuple [], 1, 0, .undef, [.other]⟩,
  ⟨.func, 1, 8, .nilfn, [.other]⟩,
  ⟨.int .i64, 1, 8, (.int .i64 0), [.int .i64]⟩,
  ⟨.int .i64, 1, 8, (.int .i64 0), [.int .i64]⟩,
  ⟨.bool, 1, 1, (.bool false), [.bool]⟩,
  ⟨.int .u8, 1, 1, (.int .u8 0), [.int .u8]⟩,
  ⟨.int .u8, 1, 1, (.int .u8 0), [.int .u8]⟩,
  ⟨.struct [(0, 2), (1, 3), (2, 4), (3, 6)], 4, 24, (.agg [(.int .i64 0), (.int .i64 0), (.bool false), (.int .u8 0)]), [.int .i64, .int .i64, .bool, .int .u8]⟩,
  ⟨.struct [(0, 2), (1, 3), (2, 4), (3, 6)], 4, 24, (.agg [(.int .i64 0), (.int .i64 0), (.bool false), (.int .u8 0)]), [.int .i64, .int .i64, .bool, .int .u8]⟩,
  ⟨.str, 1, 16, (.str []), [.str]⟩,
  ⟨.str, 1, 16, (.str []), [.str]⟩,
  ⟨.str, 1, 16, (.str []), [.str]⟩,
  ⟨.int .u64, 1, 8, (.int .u64 0), [.int .u64]⟩,
  ⟨.struct [(0, 9), (1, 12)], 2, 24, (.agg [(.str []), (.int .u64 0)]), [.str, .int .u64]⟩,
  ⟨.struct [(0, 9), (1, 12)], 2, 24, (.agg [(.str []), (.int .u64 0)]), [.str, .int .u64]⟩,
  ⟨.ptr 238, 1, 8, .nilp, [.other]⟩,
  ⟨.ptr 241, 1, 8, .nilp, [.other]⟩,
  ⟨.ptr 248, 1, 8, .nilp, [.other]⟩,
  ⟨.struct [(0, 17)], 1, 8, (.agg [.nilp]), [.other]⟩,
  ⟨.struct [(0, 17)], 1, 8, (.agg [.nilp]), [.other]⟩,
  ⟨.iface false, 1, 16, .nili, [.other]⟩,
  ⟨.int .i32, 1, 4, (.int .i32 0), [.int .i32]⟩,
  ⟨.struct [(0, 3), (1, 2)], 2, 16, (.agg [(.int .i64 0), (.int .i64 0)]), [.int .i64, .int .i64]⟩,
  ⟨.struct [(0, 3), (1, 2)], 2, 16, (.agg [(.int .i64 0), (.int .i64 0)]), [.int .i64, .int .i64]⟩,
  ⟨.struct [(0, 3), (1, 2)], 2, 16, (.agg [(.int .i64 0), (.int .i64 0)]), [.int .i64, .int .i64]⟩,
  ⟨.struct [(0, 3), (1, 2)], 2, 16, (.agg [(.int .i64 0), (.int .i64 0)]), [.int .i64, .int .i64]⟩,
  ⟨.struct [(0, 3), (1, 3), (2, 3)], 3, 24, (.agg [(.int .i64 0), (.int .i64 0), (.int .i64 0)]), [.int .i64, .int .i64, .int .i64]⟩,
  ⟨.struct [(0, 3), (1, 3), (2, 3)], 3, 24, (.agg [(.int .i64 0), (.int .i64 0), (.int .i64 0)]), [.int .i64, .int .i64, .int .i64]⟩,
  ⟨.int .i64, 1, 8, (.int .i64 0), [.int .i64]⟩,
  ⟨.tuple [9, 28], 1, 0, .undef, [.other]⟩,
  ⟨.func, 1, 8, .nilfn, [.other]⟩,
  ⟨.func, 1, 8, .nilfn, [.other]⟩,
  ⟨.func, 1, 8, .nilfn, [.other]⟩,
  ⟨.func, 1, 8, .nilfn, [.other]⟩,
  ⟨.func, 1, 8, .nilfn, [.other]⟩,
  ⟨.struct [(0, 2), (1, 2), (2, 4), (3, 9)], 4, 40, (.agg [(.int .i64 0), (.int .i64 0), (.bool false), (.str [])]), [.int .i64, .int .i64, .bool, .str]⟩,
  ⟨.struct [(0, 2), (1, 2), (2, 4), (3, 9)], 4, 40, (.agg [(.int .i64 0), (.int .i64 0), (.bool false), (.str [])]), [.int .i64, .int .i64, .bool, .str]⟩,
  ⟨.slice 36, 1, 24, .sl0, [.slice 4]⟩,
  ⟨.struct [(0, 3), (1, 2), (2, 2)], 3, 24, (.agg [(.int .i64 0), (.int .i64 0), (.int .i64 0)]), [.int .i64, .int .i64, .int .i64]⟩,
  ⟨.struct [(0, 3), (1, 2), (2, 2)], 3, 24, (.agg [(.int .i64 0), (.int .i64 0), (.int .i64 0)]), [.int .i64, .int .i64, .int .i64]⟩,
  ⟨.struct [(0, 2), (1, 5)], 2, 16, (.agg [(.int .i64 0), (.int .u8 0)]), [.int .i64, .int .u8]⟩,
  ⟨.struct [(0, 2), (1, 5)], 2, 16, (.agg [(.int .i64 0), (.int .u8 0)]), [.int .i64, .int .u8]⟩,
  ⟨.struct [(0, 2), (1, 39), (4, 41), (6, 2), (7, 9)], 8, 72, (.agg [(.int .i64 0), (.int .i64 0), (.int .i64 0), (.int .i64 0), (.int .i64 0), (.int .u8 0), (.int .i64 0), (.str [])]), [.int .i64, .int .i64, .int .i64, .int .i64, .int .i64, .int .u8, .int .i64, .str]⟩,
  ⟨.struct [(0, 2), (1, 39), (4, 41), (6, 2), (7, 9)], 8, 72, (.agg [(.int .i64 0), (.int .i64 0), (.int .i64 0), (.int .i64 0), (.int .i64 0), (.int .u8 0), (.int .i64 0), (.str [])]), [.int .i64, .int .i64, .int .i64, .int .i64, .int .i64, .int .u8, .int .i64, .str]⟩,
  ⟨.struct [(0, 4), (1, 2), (2, 2), (3, 43), (11, 43)], 19, 168, (.agg [(.bool false), (.int .i64 0), (.int .i64 0), (.int .i64 0), (.int .i64 0), (.int .i64 0), (.int .i64 0), (.int .i64 0), (.int .u8 0), (.int .i64 0), (.str []), (.int .i64 0), (.int .i64 0), (.int .i64 0), (.int .i64 0), (.int .i64 0), (.int .u8 0), (.int .i64 0), (.str [])]), [.bool, .int .i64, .int .i64, .int .i64, .int .i64, .int .i64, .int .i64, .int .i64, .int .u8, .int .i64, .str, .int .i64, .int .i64, .int .i64, .int .i64, .int .i64, .int .u8, .int .i64, .str]⟩,
  ⟨.struct [(0, 4), (1, 2), (2, 2), (3, 43), (11, 43)], 19, 168, (.agg [(.bool false), (.int .i64 0), (.int .i64 0), (.int .i64 0), (.int .i64 0), (.int .i64 0), (.int .i64 0), (.int .i64 0), (.int .u8 0), (.int .i64 0), (.str []), (.int .i64 0), (.int .i64 0), (.int .i64 0), (.int .i64 0), (.int .i64 0), (.int .u8 0), (.int .i64 0), (.str [])]), [.bool, .int .i64, .int .i64, .int .i64, .int .i64, .int .i64, .int .i64, .int .i64, .int .u8, .int .i64, .str, .int .i64, .int .i64, .int .i64, .int .i64, .int .i64, .int .u8, .int .i64, .str]⟩,
  ⟨.struct [(0, 9), (1, 36), (5, 37), (6, 45)], 25, 248, (.agg [(.str []), (.int .i64 0), (.int .i64 0), (.bool false), (.str []), .sl0, (.bool false), (.int .i64 0), (.int .i64 0), (.int .i64 0), (.int .i64 0), (.int .i64 0), (.int .i64 0), (.int .i64 0), (.int .u8 0), (.int .i64 0), (.str []), (.int .i64 0), (.int .i64 0), (.int .i64 0), (.int .i64 0), (.int .i64 0), (.int .u8 0), (.int .i64 0), (.str [])]), [.str, .int .i64, .int .i64, .bool, .str, .slice 4, .bool, .int .i64, .int .i64, .int .i64, .int .i64, .int .i64, .int .i64, .int .i64, .int .u8, .int .i64, .str, .int .i64, .int .i64, .int .i64, .int .i64, .int .i64, .int .u8, .int .i64, .str]⟩,
  ⟨.struct [(0, 9), (1, 36), (5, 37), (6, 45)], 25, 248, (.agg [(.str []), (.int .i64 0), (.int .i64 0), (.bool false), (.str []), .sl0, (.bool false), (.int .i64 0), (.int .i64 0), (.int .i64 0), (.int .i64 0), (.int .i64 0), (.int .i64 0), (.int .i64 0), (.int .u8 0), (.int .i64 0), (.str []), (.int .i64 0), (.int .i64 0), (.int .i64 0), (.int .i64 0), (.int .i64 0), (.int .u8 0), (.int .i64 0), (.str [])]), [.str, .int .i64, .int .i64, .bool, .str, .slice 4, .bool, .int .i64, .int .i64, .int .i64, .int .i64, .int .i64, .int .i64, .int .i64, .int .u8, .int .i64, .str, .int .i64, .int .i64, .int .i64, .int .i64, .int .i64, .int .u8, .int .i64, .str]⟩,
  ⟨.func, 1, 8, .nilfn, [.other]⟩,
  ⟨.struct [(0, 3), (1, 2), (2, 2)], 3, 24, (.agg [(.int .i64 0), (.int .i64 0), (.int .i64 0)]), [.int .i64, .int .i64, .int .i64]⟩,
  ⟨.struct [(0, 2), (1, 5)], 2, 16, (.agg [(.int .i64 0), (.int .u8 0)]), [.int .i64, .int .u8]⟩,
  ⟨.struct [(0, 2), (1, 49), (4, 50), (6, 2), (7, 9)], 8, 72, (.agg [(.int .i64 0), (.int .i64 0), (.int .i64 0), (.int .i64 0), (.int .i64 0), (.int .u8 0), (.int .i64 0), (.str [])]), [.int .i64, .int .i64, .int .i64, .int .i64, .int .i64, .int .u8, .int .i64, .str]⟩,
  ⟨.struct [(0, 2), (1, 49), (4, 50), (6, 2), (7, 9)], 8, 72, (.agg [(.int .i64 0), (.int .i64 0), (.int .i64 0), (.int .i64 0), (.int .i64 0), (.int .u8 0), (.int .i64 0), (.str [])]), [.int .i64, .int .i64, .int .i64, .int .i64, .int .i64, .int .u8, .int .i64, .str]⟩,
  ⟨.struct [(0, 4), (1, 2), (2, 2), (3, 52), (11, 52)], 19, 168, (.agg [(.bool false), (.int .i64 0), (.int .i64 0), (.int .i64 0), (.int .i64 0), (.int .i64 0), (.int .i64 0), (.int .i64 0), (.int .u8 0), (.int .i64 0), (.str []), (.int .i64 0), (.int .i64 0), (.int .i64 0), (.int .i64 0), (.int .i64 0), (.int .u8 0), (.int .i64 0), (.str [])]), [.bool, .int .i64, .int .i64, .int .i64, .int .i64, .int .i64, .int .i64, .int .i64, .int .u8, .int .i64, .str, .int .i64, .int .i64, .int .i64, .int .i64, .int .i64, .int .u8, .int .i64, .str]⟩,
  ⟨.struct [(0, 4), (1, 2), (2, 2), (3, 52), (11, 52)], 19, 168, (.agg [(.bool false), (.int .i64 0), (.int .i64 0), (.int .i64 0), (.int .i64 0), (.int .i64 0), (.int .i64 0), (.int .i64 0), (.int .u8 0), (.int .i64 0), (.str []), (.int .i64 0), (.int .i64 0), (.int .i64 0), (.int .i64 0), (.int .i64 0), (.int .u8 0), (.int .i64 0), (.str [])]), [.bool, .int .i64, .int .i64, .int .i64, .int .i64, .int .i64, .int .i64, .int .i64, .int .u8, .int .i64, .str, .int .i64, .int .i64, .int .i64, .int .i64, .int .i64, .int .u8, .int .i64, .str]⟩,
  ⟨.struct [(0, 9), (1, 36), (5, 37), (6, 54)], 25, 248, (.agg [(.str []), (.int .i64 0), (.int .i64 0), (.bool false), (.str []), .sl0, (.bool false), (.int .i64 0), (.int .i64 0), (.int .i64 0), (.int .i64 0), (.int .i64 0), (.int .i64 0), (.int .i64 0), (.int .u8 0), (.int .i64 0), (.str []), (.int .i64 0), (.int .i64 0), (.int .i64 0), (.int .i64 0), (.int .i64 0), (.int .u8 0), (.int .i64 0), (.str [])]), [.str, .int .i64, .int .i64, .bool, .str, .slice 4, .bool, .int .i64, .int .i64, .int .i64, .int .i64, .int .i64, .int .i64, .int .i64, .int .u8, .int .i64, .str, .int .i64, .int .i64, .int .i64, .int .i64, .int .i64, .int .u8, .int .i64, .str]⟩,
  ⟨.struct [(0, 9), (1, 36), (5, 37), (6, 54)], 25, 248, (.agg [(.str []), (.int .i64 0), (.int .i64 0), (.bool false), (.str []), .sl0, (.bool false), (.int .i64 0), (.int .i64 0), (.int .i64 0), (.int .i64 0), (.int .i64 0), (.int .i64 0), (.int .i64 0), (.int .u8 0), (.int .i64 0), (.str []), (.int .i64 0), (.int .i64 0), (.int .i64 0), (.int .i64 0), (.int .i64 0), (.int .u8 0), (.int .i64 0), (.str [])]), [.str, .int .i64, .int .i64, .bool, .str, .slice 4, .bool, .int .i64, .int .i64, .int .i64, .int .i64, .int .i64, .int .i64, .int .i64, .int .u8, .int .i64, .str, .int .i64, .int .i64, .int .i64, .int .i64, .int .i64, .int .u8, .int .i64, .str]⟩,
  ⟨.func, 1, 8, .nilfn, [.other]⟩,
  ⟨.func, 1, 8, .nilfn, [.other]⟩,
  ⟨.func, 1, 8, .nilfn, [.other]⟩,
  ⟨.struct [(0, 3), (1, 2), (2, 2), (3, 2)], 4, 32, (.agg [(.int .i64 0), (.int .i64 0), (.int .i64 0), (.int .i64 0)]), [.int .i64, .int .i64, .int .i64, .int .i64]⟩,
  ⟨.struct [(0, 3), (1, 2), (2, 2), (3, 2)], 4, 32, (.agg [(.int .i64 0), (.int .i64 0), (.int .i64 0), (.int .i64 0)]), [.int .i64, .int .i64, .int .i64, .int .i64]⟩,
  ⟨.struct [(0, 3), (1, 4), (2, 2), (3, 3), (4, 9), (5, 23), (7, 25), (9, 61)], 13, 112, (.agg [(.int .i64 0), (.bool false), (.int .i64 0), (.int .i64 0), (.str []), (.int .i64 0), (.int .i64 0), (.int .i64 0), (.int .i64 0), (.int .i64 0), (.int .i64 0), (.int .i64 0), (.int .i64 0)]), [.int .i64, .bool, .int .i64, .int .i64, .str, .int .i64, .int .i64, .int .i64, .int .i64, .int .i64, .int .i64, .int .i64, .int .i64]⟩,
  ⟨.struct [(0, 3), (1, 4), (2, 2), (3, 3), (4, 9), (5, 23), (7, 25), (9, 61)], 13, 112, (.agg [(.int .i64 0), (.bool false), (.int .i64 0), (.int .i64 0), (.str []), (.int .i64 0), (.int .i64 0), (.int .i64 0), (.int .i64 0), (.int .i64 0), (.int .i64 0), (.int .i64 0), (.int .i64 0)]), [.int .i64, .bool, .int .i64, .int .i64, .str, .int .i64, .int .i64, .int .i64, .int .i64, .int .i64, .int .i64, .int .i64, .int .i64]⟩,
  ⟨.func, 1, 8, .nilfn, [.other]⟩,
  ⟨.func, 1, 8, .nilfn, [.other]⟩,
  ⟨.func, 1, 8, .nilfn, [.other]⟩,
  ⟨.func, 1, 8, .nilfn, [.other]⟩,
  ⟨.func, 1, 8, .nilfn, [.other]⟩,
  ⟨.func, 1, 8, .nilfn, [.other]⟩,
  ⟨.tuple [9, 9], 1, 0, .undef, [.other]⟩,
  ⟨.func, 1, 8, .nilfn, [.other]⟩,
  ⟨.func, 1, 8, .nilfn, [.other]⟩,
  ⟨.func, 1, 8, .nilfn, [.other]⟩,
  ⟨.func, 1, 8, .nilfn, [.other]⟩,
  ⟨.func, 1, 8, .nilfn, [.other]⟩,
  ⟨.tuple [25, 28], 1, 0, .undef, [.other]⟩,
  ⟨.func, 1, 8, .nilfn, [.other]⟩,
  ⟨.tuple [36, 28], 1, 0, .undef, [.other]⟩,
  ⟨.func, 1, 8, .nilfn, [.other]⟩,
  ⟨.func, 1, 8, .nilfn, [.other]⟩,
  ⟨.func, 1, 8, .nilfn, [.other]⟩,
  ⟨.func, 1, 8, .nilfn, [.other]⟩,
  ⟨.func, 1, 8, .nilfn, [.other]⟩,
  ⟨.func, 1, 8, .nilfn, [.other]⟩,
  ⟨.func, 1, 8, .nilfn, [.other]⟩,
  ⟨.arr 2 9, 2, 32, (.agg [(.str []), (.str [])]), [.str, .str]⟩,
  ⟨.func, 1, 8, .nilfn, [.other]⟩,
  ⟨.func, 1, 8, .nilfn, [.other]⟩,
  ⟨.struct [(0, 2), (1, 3)], 2, 16, (.agg [(.int .i64 0), (.int .i64 0)]), [.int .i64, .int .i64]⟩,
  ⟨.struct [(0, 2), (1, 3)], 2, 16, (.agg [(.int .i64 0), (.int .i64 0)]), [.int .i64, .int .i64]⟩,
  ⟨.func, 1, 8, .nilfn, [.other]⟩,
  ⟨.func, 1, 8, .nilfn, [.other]⟩,
  ⟨.struct [(0, 2), (1, 3)], 2, 16, (.agg [(.int .i64 0), (.int .i64 0)]), [.int .i64, .int .i64]⟩,
  ⟨.func, 1, 8, .nilfn, [.other]⟩,
  ⟨.func, 1, 8, .nilfn, [.other]⟩,
  ⟨.tuple [2, 2, 2, 28], 1, 0, .undef, [.other]⟩,
  ⟨.func, 1, 8, .nilfn, [.other]⟩,
  ⟨.func, 1, 8, .nilfn, [.other]⟩,
  ⟨.func, 1, 8, .nilfn, [.other]⟩,
  ⟨.slice 9, 1, 24, .sl0, [.slice 1]⟩,
  ⟨.slice 5, 1, 24, .sl0, [.slice 1]⟩,
  ⟨.tuple [2, 2], 1, 0, .undef, [.other]⟩,
  ⟨.func, 1, 8, .nilfn, [.other]⟩,
  ⟨.tuple [23, 2, 28], 1, 0, .undef, [.other]⟩,
  ⟨.func, 1, 8, .nilfn, [.other]⟩,
  ⟨.func, 1, 8, .nilfn, [.other]⟩,
  ⟨.func, 1, 8, .nilfn, [.other]⟩,
  ⟨.func, 1, 8, .nilfn, [.other]⟩,
  ⟨.func, 1, 8, .nilfn, [.other]⟩,
  ⟨.func, 1, 8, .nilfn, [.other]⟩,
  ⟨.func, 1, 8, .nilfn, [.other]⟩,
  ⟨.func, 1, 8, .nilfn, [.other]⟩,
  ⟨.func, 1, 8, .nilfn, [.other]⟩,
  ⟨.func, 1, 8, .nilfn, [.other]⟩,
  ⟨.func, 1, 8, .nilfn, [.other]⟩,
  ⟨.func, 1, 8, .nilfn, [.other]⟩,
  ⟨.func, 1, 8, .nilfn, [.other]⟩,
  ⟨.func, 1, 8, .nilfn, [.other]⟩,
  ⟨.int .u64, 1, 8, (.int .u64 0), [.int .u64]⟩,
  ⟨.arr 32 5, 32, 32, (.agg [(.int .u8 0), (.int .u8 0), (.int .u8 0), (.int .u8 0), (.int .u8 0), (.int .u8 0), (.int .u8 0), (.int .u8 0), (.int .u8 0), (.int .u8 0), (.int .u8 0), (.int .u8 0), (.int .u8 0), (.int .u8 0), (.int .u8 0), (.int .u8 0), (.int .u8 0), (.int .u8 0), (.int .u8 0), (.int .u8 0), (.int .u8 0), (.int .u8 0), (.int .u8 0), (.int .u8 0), (.int .u8 0), (.int .u8 0), (.int .u8 0), (.int .u8 0), (.int .u8 0), (.int .u8 0), (.int .u8 0), (.int .u8 0)]), [.int .u8, .int .u8, .int .u8, .int .u8, .int .u8, .int .u8, .int .u8, .int .u8, .int .u8, .int .u8, .int .u8, .int .u8, .int .u8, .int .u8, .int .u8, .int .u8, .int .u8, .int .u8, .int .u8, .int .u8, .int .u8, .int .u8, .int .u8, .int .u8, .int .u8, .int .u8, .int .u8, .int .u8, .int .u8, .int .u8, .int .u8, .int .u8]⟩,
  ⟨.func, 1, 8, .nilfn, [.other]⟩,
  ⟨.tuple [2, 28], 1, 0, .undef, [.other]⟩,
  ⟨.func, 1, 8, .nilfn, [.other]⟩,
  ⟨.func, 1, 8, .nilfn, [.other]⟩,
  ⟨.int .u64, 1, 8, (.int .u64 0), [.int .u64]⟩,
  ⟨.tuple [125, 125], 1, 0, .undef, [.other]⟩,
  ⟨.func, 1, 8, .nilfn, [.other]⟩,
  ⟨.func, 1, 8, .nilfn, [.other]⟩,
  ⟨.ptr 131, 1, 8, .nilp, [.other]⟩,
  ⟨.struct [(0, 129), (1, 101)], 2, 32, (.agg [.nilp, .sl0]), [.other, .slice 1]⟩,
  ⟨.struct [(0, 129), (1, 101)], 2, 32, (.agg [.nilp, .sl0]), [.other, .slice 1]⟩,
  ⟨.func, 1, 8, .nilfn, [.other]⟩,
  ⟨.iface true, 1, 16, .nili, [.other]⟩,
  ⟨.iface true, 1, 16, .nili, [.other]⟩,
  ⟨.tuple [3, 134], 1, 0, .undef, [.other]⟩,
  ⟨.func, 1, 8, .nilfn, [.other]⟩,
  ⟨.func, 1, 8, .nilfn, [.other]⟩,
  ⟨.func, 1, 8, .nilfn, [.other]⟩,
  ⟨.func, 1, 8, .nilfn, [.other]⟩,
  ⟨.func, 1, 8, .nilfn, [.other]⟩,
  ⟨.func, 1, 8, .nilfn, [.other]⟩,
  ⟨.func, 1, 8, .nilfn, [.other]⟩,
  ⟨.tuple [2, 2, 2, 2, 28], 1, 0, .undef, [.other]⟩,
  ⟨.func, 1, 8, .nilfn, [.other]⟩,
  ⟨.tuple [9, 2], 1, 0, .undef, [.other]⟩,
  ⟨.func, 1, 8, .nilfn, [.other]⟩,
  ⟨.tuple [9, 9, 4], 1, 0, .undef, [.other]⟩,
  ⟨.func, 1, 8, .nilfn, [.other]⟩,
  ⟨.func, 1, 8, .nilfn, [.other]⟩,
  ⟨.func, 1, 8, .nilfn, [.other]⟩,
  ⟨.ptr 2, 1, 8, .nilp, [.other]⟩,
  ⟨.func, 1, 8, .nilfn, [.other]⟩,
  ⟨.func, 1, 8, .nilfn, [.other]⟩,
  ⟨.func, 1, 8, .nilfn, [.other]⟩,
  ⟨.tuple [37, 28], 1, 0, .undef, [.other]⟩,
  ⟨.func, 1, 8, .nilfn, [.other]⟩,
  ⟨.func, 1, 8, .nilfn, [.other]⟩,
  ⟨.func, 1, 8, .nilfn, [.other]⟩,
  ⟨.func, 1, 8, .nilfn, [.other]⟩,
  ⟨.func, 1, 8, .nilfn, [.other]⟩,
  ⟨.func, 1, 8, .nilfn, [.other]⟩,
  ⟨.tuple [2, 9], 1, 0, .undef, [.other]⟩,
  ⟨.func, 1, 8, .nilfn, [.other]⟩,
  ⟨.slice 2, 1, 24, .sl0, [.slice 1]⟩,
  ⟨.func, 1, 8, .nilfn, [.other]⟩,
  ⟨.tuple [2, 2, 2], 1, 0, .undef, [.other]⟩,
  ⟨.func, 1, 8, .nilfn, [.other]⟩,
  ⟨.int .u32, 1, 4, (.int .u32 0), [.int .u32]⟩,
  ⟨.tuple [168, 168], 1, 0, .undef, [.other]⟩,
  ⟨.func, 1, 8, .nilfn, [.other]⟩,
  ⟨.tuple [119, 119], 1, 0, .undef, [.other]⟩,
  ⟨.func, 1, 8, .nilfn, [.other]⟩,
  ⟨.ptr 5, 1, 8, .nilp, [.other]⟩,
  ⟨.arr 20 5, 20, 20, (.agg [(.int .u8 0), (.int .u8 0), (.int .u8 0), (.int .u8 0), (.int .u8 0), (.int .u8 0), (.int .u8 0), (.int .u8 0), (.int .u8 0), (.int .u8 0), (.int .u8 0), (.int .u8 0), (.int .u8 0), (.int .u8 0), (.int .u8 0), (.int .u8 0), (.int .u8 0), (.int .u8 0), (.int .u8 0), (.int .u8 0)]), [.int .u8, .int .u8, .int .u8, .int .u8, .int .u8, .int .u8, .int .u8, .int .u8, .int .u8, .int .u8, .int .u8, .int .u8, .int .u8, .int .u8, .int .u8, .int .u8, .int .u8, .int .u8, .int .u8, .int .u8]⟩,
  ⟨.func, 1, 8, .nilfn, [.other]⟩,
  ⟨.func, 1, 8, .nilfn, [.other]⟩,
  ⟨.tuple [2, 2, 2, 2], 1, 0, .undef, [.other]⟩,
  ⟨.func, 1, 8, .nilfn, [.other]⟩,
  ⟨.func, 1, 8, .nilfn, [.other]⟩,
  ⟨.slice 119, 1, 24, .sl0, [.slice 1]⟩,
  ⟨.struct [(0, 4), (1, 180)], 2, 32, (.agg [(.bool false), .sl0]), [.bool, .slice 1]⟩,
  ⟨.struct [(0, 4), (1, 180)], 2, 32, (.agg [(.bool false), .sl0]), [.bool, .slice 1]⟩,
  ⟨.func, 1, 8, .nilfn, [.other]⟩,
  ⟨.func, 1, 8, .nilfn, [.other]⟩,
  ⟨.func, 1, 8, .nilfn, [.other]⟩,
  ⟨.func, 1, 8, .nilfn, [.other]⟩,
  ⟨.func, 1, 8, .nilfn, [.other]⟩,
  ⟨.func, 1, 8, .nilfn, [.other]⟩,
  ⟨.func, 1, 8, .nilfn, [.other]⟩,
  ⟨.func, 1, 8, .nilfn, [.other]⟩,
  ⟨.func, 1, 8, .nilfn, [.other]⟩,
  ⟨.func, 1, 8, .nilfn, [.other]⟩,
  ⟨.func, 1, 8, .nilfn, [.other]⟩,
  ⟨.uptr, 1, 8, .nilp, [.other]⟩,
  ⟨.func, 1, 8, .nilfn, [.other]⟩,
  ⟨.func, 1, 8, .nilfn, [.other]⟩,
  ⟨.arr 2 119, 2, 16, (.agg [(.int .u64 0), (.int .u64 0)]), [.int .u64, .int .u64]⟩,
  ⟨.func, 1, 8, .nilfn, [.other]⟩,
  ⟨.func, 1, 8, .nilfn, [.other]⟩,
  ⟨.func, 1, 8, .nilfn, [.other]⟩,
  ⟨.func, 1, 8, .nilfn, [.other]⟩,
  ⟨.tuple [180, 180], 1, 0, .undef, [.other]⟩,
  ⟨.func, 1, 8, .nilfn, [.other]⟩,
  ⟨.func, 1, 8, .nilfn, [.other]⟩,
  ⟨.func, 1, 8, .nilfn, [.other]⟩,
  ⟨.func, 1, 8, .nilfn, [.other]⟩,
  ⟨.func, 1, 8, .nilfn, [.other]⟩,
  ⟨.func, 1, 8, .nilfn, [.other]⟩,
  ⟨.func, 1, 8, .nilfn, [.other]⟩,
  ⟨.func, 1, 8, .nilfn, [.other]⟩,
  ⟨.map 4 52, 1, 8, .nilm, [.other]⟩,
  ⟨.func, 1, 8, .nilfn, [.other]⟩,
  ⟨.func, 1, 8, .nilfn, [.other]⟩,
  ⟨.func, 1, 8, .nilfn, [.other]⟩,
  ⟨.func, 1, 8, .nilfn, [.other]⟩,
  ⟨.func, 1, 8, .nilfn, [.other]⟩,
  ⟨.func, 1, 8, .nilfn, [.other]⟩,
  ⟨.func, 1, 8, .nilfn, [.other]⟩,
  ⟨.func, 1, 8, .nilfn, [.other]⟩,
  ⟨.func, 1, 8, .nilfn, [.other]⟩,
  ⟨.func, 1, 8, .nilfn, [.other]⟩,
  ⟨.func, 1, 8, .nilfn, [.other]⟩,
  ⟨.iface true, 1, 16, .nili, [.other]⟩,
  ⟨.iface true, 1, 16, .nili, [.other]⟩,
  ⟨.func, 1, 8, .nilfn, [.other]⟩,
  ⟨.int .i64, 1, 8, (.int .i64 0), [.int .i64]⟩,
  ⟨.tuple [226, 4], 1, 0, .undef, [.other]⟩,
  ⟨.int .i64, 1, 8, (.int .i64 0), [.int .i64]⟩,
  ⟨.tuple [228, 4], 1, 0, .undef, [.other]⟩,
  ⟨.struct [(0, 2), (1, 2), (2, 2)], 3, 24, (.agg [(.int .i64 0), (.int .i64 0), (.int .i64 0)]), [.int .i64, .int .i64, .int .i64]⟩,
  ⟨.struct [(0, 2), (1, 2), (2, 2)], 3, 24, (.agg [(.int .i64 0), (.int .i64 0), (.int .i64 0)]), [.int .i64, .int .i64, .int .i64]⟩,
  ⟨.func, 1, 8, .nilfn, [.other]⟩,
  ⟨.arr 7 9, 7, 112, (.agg [(.str []), (.str []), (.str []), (.str []), (.str []), (.str []), (.str [])]), [.str, .str, .str, .str, .str, .str, .str]⟩,
  ⟨.func, 1, 8, .nilfn, [.other]⟩,
  ⟨.arr 13 2, 13, 104, (.agg [(.int .i64 0), (.int .i64 0), (.int .i64 0), (.int .i64 0), (.int .i64 0), (.int .i64 0), (.int .i64 0), (.int .i64 0), (.int .i64 0), (.int .i64 0), (.int .i64 0), (.int .i64 0), (.int .i64 0)]), [.int .i64, .int .i64, .int .i64, .int .i64, .int .i64, .int .i64, .int .i64, .int .i64, .int .i64, .int .i64, .int .i64, .int .i64, .int .i64]⟩,
  ⟨.ptr 251, 1, 8, .nilp, [.other]⟩,
  ⟨.struct [(0, 17), (1, 17), (2, 17), (3, 9)], 4, 40, (.agg [.nilp, .nilp, .nilp, (.str [])]), [.other, .other, .other, .str]⟩,
  ⟨.struct [(0, 17), (1, 17), (2, 17), (3, 9)], 4, 40, (.agg [.nilp, .nilp, .nilp, (.str [])]), [.other, .other, .other, .str]⟩,
  ⟨.arr 0 16, 0, 0, (.agg []), []⟩,
  ⟨.struct [(0, 239)], 0, 0, (.agg []), []⟩,
  ⟨.struct [(0, 239)], 0, 0, (.agg []), []⟩,
  ⟨.int .u8, 1, 1, (.int .u8 0), [.int .u8]⟩,
  ⟨.int .u8, 1, 1, (.int .u8 0), [.int .u8]⟩,
  ⟨.func, 1, 8, .nilfn, [.other]⟩,
  ⟨.int .i32, 1, 4, (.int .i32 0), [.int .i32]⟩,
  ⟨.int .i32, 1, 4, (.int .i32 0), [.int .i32]⟩,
  ⟨.struct [(0, 12), (1, 12), (2, 168), (3, 242), (4, 5), (5, 5), (6, 243), (7, 244), (8, 173), (9, 245), (10, 246)], 11, 48, (.agg [(.int .u64 0), (.int .u64 0), (.int .u32 0), (.int .u8 0), (.int .u8 0), (.int .u8 0), (.int .u8 0), .nilfn, .nilp, (.int .i32 0), (.int .i32 0)]), [.int .u64, .int .u64, .int .u32, .int .u8, .int .u8, .int .u8, .int .u8, .other, .other, .int .i32, .int .i32]⟩,
  ⟨.struct [(0, 12), (1, 12), (2, 168), (3, 242), (4, 5), (5, 5), (6, 243), (7, 244), (8, 173), (9, 245), (10, 246)], 11, 48, (.agg [(.int .u64 0), (.int .u64 0), (.int .u32 0), (.int .u8 0), (.int .u8 0), (.int .u8 0), (.int .u8 0), .nilfn, .nilp, (.int .i32 0), (.int .i32 0)]), [.int .u64, .int .u64, .int .u32, .int .u8, .int .u8, .int .u8, .int .u8, .other, .other, .int .i32, .int .i32]⟩,
  ⟨.func, 1, 8, .nilfn, [.other]⟩,
  ⟨.struct [(0, 9)], 1, 16, (.agg [(.str [])]), [.str]⟩,
  ⟨.struct [(0, 9)], 1, 16, (.agg [(.str [])]), [.str]⟩,
  ⟨.arr 2 2, 2, 16, (.agg [(.int .i64 0), (.int .i64 0)]), [.int .i64, .int .i64]⟩]
abbrev ty_LJ : Nat := 0
abbrev ty_funcLJ : Nat := 1
abbrev ty_int64 : Nat := 2
abbrev ty_int : Nat := 3
abbrev ty_bool : Nat := 4
abbrev ty_uint8 : Nat := 5
abbrev ty_abi_BoundsErrorCode : Nat := 6
abbrev ty_struct_x_int64_y_int_signed__763d8d : Nat := 7
abbrev ty_runtime_boundsError : Nat := 8
abbrev ty_string : Nat := 9
abbrev ty_runtime_errorString : Nat := 10
abbrev ty_runtime_plainError : Nat := 11
abbrev ty_uintptr : Nat := 12
abbrev ty_struct_msg_string_addr_uintptr_ : Nat := 13
abbrev ty_runtime_errorAddressString : Nat := 14
abbrev ty_P_runtime_TypeAssertionError : Nat := 15
abbrev ty_P_runtime_PanicNilError : Nat := 16
abbrev ty_P_abi_Type : Nat := 17
abbrev ty_struct_typ_P_abi_Type_ : Nat := 18
abbrev ty_maps_unhashableTypeError : Nat := 19
abbrev ty_interface_ : Nat := 20
abbrev ty_int32 : Nat := 21
abbrev ty_struct_Inf_int_D_int64_ : Nat := 22
abbrev ty_api_Date : Nat := 23
abbrev ty_struct_Inf_int_U_int64_ : Nat := 24
abbrev ty_api_Stamp : Nat := 25
abbrev ty_struct_Out_int_Order_int_Span_int_ : Nat := 26
abbrev ty_api_Style : Nat := 27
abbrev ty_api_Errno : Nat := 28
abbrev ty_Lstring_api_ErrnoJ : Nat := 29
abbrev ty_funcLapi_Date_api_StyleJ_Lst_c22de4 : Nat := 30
abbrev ty_funcLapi_Stamp_api_StyleJ_Ls_25fb51 : Nat := 31
abbrev ty_funcLapi_StyleJ_bool : Nat := 32
abbrev ty_funcLJ_bool : Nat := 33
abbrev ty_funcLapi_Date_api_Stamp_api__2a5afd : Nat := 34
abbrev ty_struct_At_int64_Off_int64_Ds_7bd521 : Nat := 35
abbrev ty_api_Tran : Nat := 36
abbrev ty_S_api_Tran : Nat := 37
abbrev ty_struct_Kind_int_Wd_int64_N_int64_ : Nat := 38
abbrev ty_computusref07_On : Nat := 39
abbrev ty_struct_Sec_int64_Kind_uint8_ : Nat := 40
abbrev ty_computusref07_At : Nat := 41
abbrev ty_struct_Month_int64_On_comput_523ed0 : Nat := 42
abbrev ty_computusref10_Half : Nat := 43
abbrev ty_struct_Has_bool_From_int64_O_ede63a : Nat := 44
abbrev ty_computusref10_Foot : Nat := 45
abbrev ty_struct_Name_string_First_api_4de172 : Nat := 46
abbrev ty_computusref10_Table : Nat := 47
abbrev ty_funcLapi_Stamp_comp_Table_ap_75e148 : Nat := 48
abbrev ty_when_On : Nat := 49
abbrev ty_when_At : Nat := 50
abbrev ty_struct_Month_int64_On_when_O_77494d : Nat := 51
abbrev ty_comp_Half : Nat := 52
abbrev ty_struct_Has_bool_From_int64_O_ea8a2f : Nat := 53
abbrev ty_comp_Foot : Nat := 54
abbrev ty_struct_Name_string_First_api_dae978 : Nat := 55
abbrev ty_comp_Table : Nat := 56
abbrev ty_funcLcomputusref10_TableJ_comp_Table : Nat := 57
abbrev ty_funcLapi_Stamp_computusref10_114986 : Nat := 58
abbrev ty_funcLcomputusref10_Table_api_be89b3 : Nat := 59
abbrev ty_struct_Inf_int_M_int64_D_int_966ff1 : Nat := 60
abbrev ty_api_Span : Nat := 61
abbrev ty_struct_K_int_Bool_bool_Int_i_06a8e3 : Nat := 62
abbrev ty_api_Value : Nat := 63
abbrev ty_funcLapi_Value_comp_Table_ap_603f97 : Nat := 64
abbrev ty_funcLapi_Value_computusref10_529c40 : Nat := 65
abbrev ty_funcLapi_ValueJ_bool : Nat := 66
abbrev ty_funcLapi_Value_computusref10_d5df59 : Nat := 67
abbrev ty_funcLapi_DateJ_bool : Nat := 68
abbrev ty_funcLintJ_string : Nat := 69
abbrev ty_Lstring_stringJ : Nat := 70
abbrev ty_funcLapi_Date_api_StyleJ_Lst_6a2cfb : Nat := 71
abbrev ty_funcL_stringJ_string : Nat := 72
abbrev ty_funcLapi_StampJ_bool : Nat := 73
abbrev ty_funcLapi_Stamp_api_StyleJ_Ls_bfb219 : Nat := 74
abbrev ty_funcLapi_Span_api_StyleJ_Lst_7eac46 : Nat := 75
abbrev ty_Lapi_Stamp_api_ErrnoJ : Nat := 76
abbrev ty_funcLcomp_Table_api_StampJ_L_70ff66 : Nat := 77
abbrev ty_Lapi_Tran_api_ErrnoJ : Nat := 78
abbrev ty_funcLcomp_Table_api_StampJ_L_43495e : Nat := 79
abbrev ty_funcLint64J_Lstring_api_ErrnoJ : Nat := 80
abbrev ty_funcLcomputusref10_HalfJ_comp_Half : Nat := 81
abbrev ty_funcLcomputusref10_TableJ_bool : Nat := 82
abbrev ty_funcLcomputusref10_Table_api_f736c9 : Nat := 83
abbrev ty_funcLcomputusref10_Table_api_f40ba8 : Nat := 84
abbrev ty_funcLcomp_TableJ_bool : Nat := 85
abbrev ty_A2_string : Nat := 86
abbrev ty_funcLboolJ_int : Nat := 87
abbrev ty_funcLdec_DecJ_string : Nat := 88
abbrev ty_struct_N_int64_Scale_int_ : Nat := 89
abbrev ty_dec_Dec : Nat := 90
abbrev ty_funcLint64J_string : Nat := 91
abbrev ty_funcLcomputusref04_DecJ_string : Nat := 92
abbrev ty_computusref04_Dec : Nat := 93
abbrev ty_funcLapi_SpanJ_bool : Nat := 94
abbrev ty_funcLint64J_bool : Nat := 95
abbrev ty_Lint64_int64_int64_api_ErrnoJ : Nat := 96
abbrev ty_funcLapi_DateJ_Lint64_int64__946df7 : Nat := 97
abbrev ty_funcLstring_intJ_string : Nat := 98
abbrev ty_funcLstring_stringJ_string : Nat := 99
abbrev ty_S_string : Nat := 100
abbrev ty_S_uint8 : Nat := 101
abbrev ty_Lint64_int64J : Nat := 102
abbrev ty_funcLint64J_Lint64_int64J : Nat := 103
abbrev ty_Lapi_Date_int64_api_ErrnoJ : Nat := 104
abbrev ty_funcLapi_StampJ_Lapi_Date_in_02bba5 : Nat := 105
abbrev ty_funcLapi_SpanJ_string : Nat := 106
abbrev ty_funcLapi_Stamp_int64J_Lapi_S_1f4eb0 : Nat := 107
abbrev ty_funcLcomp_Table_api_StampJ_api_Errno : Nat := 108
abbrev ty_funcLapi_StampJ_Lint64_int64J : Nat := 109
abbrev ty_funcLcomp_Table_int64J_Lapi__214f97 : Nat := 110
abbrev ty_funcLapi_TranJ_bool : Nat := 111
abbrev ty_funcLint64J_int64 : Nat := 112
abbrev ty_funcLcomputusref10_Foot_int6_760a6e : Nat := 113
abbrev ty_funcLcomputusref10_Table_int_bad4a7 : Nat := 114
abbrev ty_funcLint64_int64J_Lapi_Stamp_76cd87 : Nat := 115
abbrev ty_funcLint64_int64J_bool : Nat := 116
abbrev ty_funcLcomp_Foot_int64J_Lapi_T_d91a2a : Nat := 117
abbrev ty_funcLdec_DecJ_bool : Nat := 118
abbrev ty_uint64 : Nat := 119
abbrev ty_A32_uint8 : Nat := 120
abbrev ty_funcLcomputusref04_DecJ_bool : Nat := 121
abbrev ty_Lint64_api_ErrnoJ : Nat := 122
abbrev ty_funcLint64J_Lint64_api_ErrnoJ : Nat := 123
abbrev ty_funcLint64J_Lint64_int64_int_6f979a : Nat := 124
abbrev ty_uint : Nat := 125
abbrev ty_Luint_uintJ : Nat := 126
abbrev ty_funcLuint_uintJ_Luint_uintJ : Nat := 127
abbrev ty_funcLstring_stringJ_bool : Nat := 128
abbrev ty_P_strings_Builder : Nat := 129
abbrev ty_struct_addr_P_strings_Builde_383a00 : Nat := 130
abbrev ty_strings_Builder : Nat := 131
abbrev ty_funcLintJ : Nat := 132
abbrev ty_interface_ErrorLJ_string_ : Nat := 133
abbrev ty_error : Nat := 134
abbrev ty_Lint_errorJ : Nat := 135
abbrev ty_funcLstringJ_Lint_errorJ : Nat := 136
abbrev ty_funcLJ_int : Nat := 137
abbrev ty_funcLJ_string : Nat := 138
abbrev ty_funcLuint64_intJ_string : Nat := 139
abbrev ty_funcLS_string_stringJ_string : Nat := 140
abbrev ty_funcLint64_int64J_Lint64_api_ErrnoJ : Nat := 141
abbrev ty_funcLuint64J_string : Nat := 142
abbrev ty_Lint64_int64_int64_int64_api_ErrnoJ : Nat := 143
abbrev ty_funcLint64J_Lint64_int64_int_7b6b6c : Nat := 144
abbrev ty_Lstring_int64J : Nat := 145
abbrev ty_funcLint64J_Lstring_int64J : Nat := 146
abbrev ty_Lstring_string_boolJ : Nat := 147
abbrev ty_funcLstring_stringJ_Lstring__6d81f9 : Nat := 148
abbrev ty_funcLint64_stringJ_string : Nat := 149
abbrev ty_funcLint64_string_P_int64J_string : Nat := 150
abbrev ty_P_int64 : Nat := 151
abbrev ty_funcLcomp_Table_int64J_api_Errno : Nat := 152
abbrev ty_funcLcomp_Table_int64J_api_Tran : Nat := 153
abbrev ty_funcLJ_int64 : Nat := 154
abbrev ty_LS_api_Tran_api_ErrnoJ : Nat := 155
abbrev ty_funcLcomputusref10_Foot_int6_38d308 : Nat := 156
abbrev ty_funcLapi_Stamp_api_Errno_int_669c61 : Nat := 157
abbrev ty_funcLcomp_Foot_int64J_api_Errno : Nat := 158
abbrev ty_funcLfuncLapi_TranJ_boolJ : Nat := 159
abbrev ty_iter_SeqAcomputus_api_Tran_ : Nat := 160
abbrev ty_funcLcomp_Foot_int64J_iter_S_d79efc : Nat := 161
abbrev ty_Lint64_stringJ : Nat := 162
abbrev ty_funcLint64J_Lint64_stringJ : Nat := 163
abbrev ty_S_int64 : Nat := 164
abbrev ty_funcLint64_string_int64J_string : Nat := 165
abbrev ty_Lint64_int64_int64J : Nat := 166
abbrev ty_funcLint64J_Lint64_int64_int64J : Nat := 167
abbrev ty_uint32 : Nat := 168
abbrev ty_Luint32_uint32J : Nat := 169
abbrev ty_funcLuint32_uint32J_Luint32_uint32J : Nat := 170
abbrev ty_Luint64_uint64J : Nat := 171
abbrev ty_funcLuint64_uint64J_Luint64_uint64J : Nat := 172
abbrev ty_P_uint8 : Nat := 173
abbrev ty_A20_uint8 : Nat := 174
abbrev ty_funcLint64_int64J_int64 : Nat := 175
abbrev ty_funcLint64_int64_int64J_Lint_f59986 : Nat := 176
abbrev ty_Lint64_int64_int64_int64J : Nat := 177
abbrev ty_funcLuint64J_Lint64_int64_in_8212c4 : Nat := 178
abbrev ty_funcLcomputusref01_WideJ_Lin_35d35e : Nat := 179
abbrev ty_S_uint64 : Nat := 180
abbrev ty_struct_Neg_bool_W_S_uint64_ : Nat := 181
abbrev ty_computusref01_Wide : Nat := 182
abbrev ty_funcLcomputusref01_Wide_comp_a206f3 : Nat := 183
abbrev ty_funcLint64J_computusref01_Wide : Nat := 184
abbrev ty_funcLcomputusref01_WideJ_com_04b3a6 : Nat := 185
abbrev ty_funcLstring_stringJ_string_2 : Nat := 186
abbrev ty_funcLint_funcLintJ_boolJ_int : Nat := 187
abbrev ty_funcLintJ_bool : Nat := 188
abbrev ty_funcLint64_int64_int64J_int64 : Nat := 189
abbrev ty_funcLcomputusref10_FootJ_bool : Nat := 190
abbrev ty_funcLcomp_FootJ_bool : Nat := 191
abbrev ty_funcLcomp_Foot_int64_boolJ_api_Tran : Nat := 192
abbrev ty_funcLint64_int64J_Lint64_int64J : Nat := 193
abbrev ty_unsafe_Pointer : Nat := 194
abbrev ty_funcLunsafe_PointerJ_unsafe_Pointer : Nat := 195
abbrev ty_funcLintJ_S_uint8 : Nat := 196
abbrev ty_A2_uint64 : Nat := 197
abbrev ty_funcLint64_int64J_A2_uint64 : Nat := 198
abbrev ty_funcLint64J_uint64 : Nat := 199
abbrev ty_funcLuint64_uint64_uint64J_L_60c511 : Nat := 200
abbrev ty_funcLbool_A2_uint64J_Lint64__e26459 : Nat := 201
abbrev ty_LS_uint64_S_uint64J : Nat := 202
abbrev ty_funcLS_uint64_S_uint64J_LS_u_d9114b : Nat := 203
abbrev ty_funcLS_uint64J_bool : Nat := 204
abbrev ty_funcLS_uint64_S_uint64J_S_uint64 : Nat := 205
abbrev ty_funcLS_uint64_S_uint64J_int : Nat := 206
abbrev ty_funcLstring_stringJ_int : Nat := 207
abbrev ty_funcLcomputusref10_HalfJ_bool : Nat := 208
abbrev ty_funcLcomputusref10_Half_comp_a2d38d : Nat := 209
abbrev ty_funcLcomp_HalfJ_bool : Nat := 210
abbrev ty_mapAbool_comp_Half : Nat := 211
abbrev ty_funcLcomp_FootJ_mapAbool_comp_Half : Nat := 212
abbrev ty_funcLint64_int64_when_OnJ_Li_8cc633 : Nat := 213
abbrev ty_funcLint64_int64_uint8_int64_ccd1e4 : Nat := 214
abbrev ty_funcLuint64J_int : Nat := 215
abbrev ty_funcLstring_uint8J_int : Nat := 216
abbrev ty_funcLintJ_int : Nat := 217
abbrev ty_funcLcomputusref07_OnJ_bool : Nat := 218
abbrev ty_funcLcomputusref07_AtJ_bool : Nat := 219
abbrev ty_funcLint64_int64_computusref_ac0d0d : Nat := 220
abbrev ty_funcLwhen_OnJ_Lstring_api_ErrnoJ : Nat := 221
abbrev ty_funcLwhen_AtJ_Lstring_api_ErrnoJ : Nat := 222
abbrev ty_interface_when_rightLJ_bool_ : Nat := 223
abbrev ty_when_form : Nat := 224
abbrev ty_funcLJ_when_form : Nat := 225
abbrev ty_when_fixed : Nat := 226
abbrev ty_Lwhen_fixed_boolJ : Nat := 227
abbrev ty_when_final : Nat := 228
abbrev ty_Lwhen_final_boolJ : Nat := 229
abbrev ty_struct_wd_int64_n_int64_step_int64_ : Nat := 230
abbrev ty_when_near : Nat := 231
abbrev ty_funcLstringJ_Luint32_uint32J : Nat := 232
abbrev ty_A7_string : Nat := 233
abbrev ty_funcLint64_int64_int64J_bool : Nat := 234
abbrev ty_A13_int64 : Nat := 235
abbrev ty_P_errors_errorString : Nat := 236
abbrev ty_struct__interface_P_abi_Type_35d589 : Nat := 237
abbrev ty_runtime_TypeAssertionError : Nat := 238
abbrev ty_A0_P_runtime_PanicNilError : Nat := 239
abbrev ty_struct___A0_P_runtime_PanicNilError_ : Nat := 240
abbrev ty_runtime_PanicNilError : Nat := 241
abbrev ty_abi_TFlag : Nat := 242
abbrev ty_abi_Kind : Nat := 243
abbrev ty_funcLunsafe_Pointer_unsafe_P_727316 : Nat := 244
abbrev ty_abi_NameOff : Nat := 245
abbrev ty_abi_TypeOff : Nat := 246
abbrev ty_struct_Size__uintptr_PtrByte_72b795 : Nat := 247
abbrev ty_abi_Type : Nat := 248
abbrev ty_funcLJ_A2_int64 : Nat := 249
abbrev ty_struct_s_string_ : Nat := 250
abbrev ty_errors_errorString : Nat := 251
abbrev ty_A2_int64 : Nat := 252
abbrev fn_main_main : Nat := 0
abbrev fn_computuslaw19_ShowDates : Nat := 3
abbrev fn_computuslaw19_ShowInstants : Nat := 4
abbrev fn_computuslaw19_ShowValues : Nat := 5
abbrev fn_show_Date : Nat := 6
abbrev fn_computusref19_Date : Nat := 7
abbrev fn_show_Stamp : Nat := 8
abbrev fn_computusref19_Stamp : Nat := 9
abbrev fn_show_Right : Nat := 10
abbrev fn_computusref19_Right : Nat := 11
abbrev fn_computuslaw19_known : Nat := 12
abbrev fn_show_Tz : Nat := 13
abbrev fn_computuslaw19_given : Nat := 14
abbrev fn_computusref19_Tz : Nat := 15
abbrev fn_show_Value : Nat := 16
abbrev fn_computusref19_Value : Nat := 17
abbrev fn_show_RightValue : Nat := 18
abbrev fn_computusref19_RightValue : Nat := 19
abbrev fn_day_Right : Nat := 20
abbrev fn_show_infinite : Nat := 21
abbrev fn_show_date : Nat := 22
abbrev fn_show_join : Nat := 23
abbrev fn_computusref15_Right : Nat := 24
abbrev fn_computusref19_inf : Nat := 25
abbrev fn_computusref19_date : Nat := 26
abbrev fn_day_RightStamp : Nat := 27
abbrev fn_show_moment : Nat := 28
abbrev fn_computusref15_RightStamp : Nat := 29
abbrev fn_computusref19_moment : Nat := 30
abbrev fn_show_Span : Nat := 31
abbrev fn_stamp_Local : Nat := 32
abbrev fn_stamp_Offset : Nat := 33
abbrev fn_clock_Offset : Nat := 34
abbrev fn_computuslaw19_half : Nat := 35
abbrev fn_computusref12_Right : Nat := 36
abbrev fn_computusref17_Local : Nat := 37
abbrev fn_computusref17_Offset : Nat := 38
abbrev fn_computusref03_Offset : Nat := 39
abbrev fn_zone_Right : Nat := 40
abbrev fn_show_truth : Nat := 41
abbrev fn_dec_Text : Nat := 42
abbrev fn_computusref03_Digits : Nat := 43
abbrev fn_computusref04_Text : Nat := 44
abbrev fn_computusref19_Span : Nat := 45
abbrev fn_span_Right : Nat := 46
abbrev fn_computusref16_Right : Nat := 47
abbrev fn_day_inside : Nat := 48
abbrev fn_day_Parts : Nat := 49
abbrev fn_show_digits : Nat := 50
abbrev fn_strings_Repeat : Nat := 51
abbrev fn_clock_Two : Nat := 52
abbrev fn_show_between : Nat := 53
abbrev fn_computusref15_inside : Nat := 54
abbrev fn_computusref15_Parts : Nat := 55
abbrev fn_computusref03_Two : Nat := 56
abbrev fn_num_Split : Nat := 57
abbrev fn_day_Of : Nat := 58
abbrev fn_clock_Text : Nat := 59
abbrev fn_computusref01_Split : Nat := 60
abbrev fn_computusref15_Of : Nat := 61
abbrev fn_computusref03_Text : Nat := 62
abbrev fn_show_sql : Nat := 63
abbrev fn_show_iso : Nat := 64
abbrev fn_show_postgres : Nat := 65
abbrev fn_stamp_on : Nat := 66
abbrev fn_stamp_may : Nat := 67
abbrev fn_stamp_split : Nat := 68
abbrev fn_zone_At : Nat := 69
abbrev fn_computusref12_off : Nat := 70
abbrev fn_computusref09_YearAt : Nat := 71
abbrev fn_computusref11_At : Nat := 72
abbrev fn_computusref17_sec : Nat := 73
abbrev fn_computusref12_At : Nat := 74
abbrev fn_computusref17_back : Nat := 75
abbrev fn_zone_within : Nat := 76
abbrev fn_fire_YearAt : Nat := 77
abbrev fn_foot_At : Nat := 78
abbrev fn_dec_Right : Nat := 79
abbrev fn_computusref04_Right : Nat := 80
abbrev fn_computusref19_sql : Nat := 81
abbrev fn_computusref19_iso : Nat := 82
abbrev fn_computusref19_postgres : Nat := 83
abbrev fn_num_Neg : Nat := 84
abbrev fn_span_within : Nat := 85
abbrev fn_computusref16_within : Nat := 86
abbrev fn_civil_Date : Nat := 87
abbrev fn_bits_Mul : Nat := 88
abbrev fn_strings_HasPrefix : Nat := 89
abbrev fn_strings_Builder_Grow : Nat := 90
abbrev fn_strings_Builder_WriteString : Nat := 91
abbrev fn_strings_Builder_Len : Nat := 92
abbrev fn_strings_Builder_String : Nat := 93
abbrev fn_clock_digits : Nat := 94
abbrev fn_strings_Join : Nat := 95
abbrev fn_computusref02_Date : Nat := 96
abbrev fn_num_Div : Nat := 97
abbrev fn_num_Mod : Nat := 98
abbrev fn_clock_within : Nat := 99
abbrev fn_clock_text : Nat := 100
abbrev fn_computusref01_Div : Nat := 101
abbrev fn_computusref01_Mod : Nat := 102
abbrev fn_computusref03_Parts : Nat := 103
abbrev fn_computusref03_Fraction : Nat := 104
abbrev fn_show_signed : Nat := 105
abbrev fn_strings_Cut : Nat := 106
abbrev fn_clock_Long : Nat := 107
abbrev fn_show_letter : Nat := 108
abbrev fn_show_seconds : Nat := 109
abbrev fn_show_unit : Nat := 110
abbrev fn_num_Add : Nat := 111
abbrev fn_zone_may : Nat := 112
abbrev fn_zone_at : Nat := 113
abbrev fn_computusref02_First : Nat := 114
abbrev fn_computusref11_near : Nat := 115
abbrev fn_computusref12_asked : Nat := 116
abbrev fn_computusref01_Mul : Nat := 117
abbrev fn_computusref17_plus : Nat := 118
abbrev fn_fire_floor : Nat := 119
abbrev fn_civil_First : Nat := 120
abbrev fn_civil_Last : Nat := 121
abbrev fn_foot_asked : Nat := 122
abbrev fn_foot_about : Nat := 123
abbrev fn_computusref19_size : Nat := 124
abbrev fn_computusref19_part : Nat := 125
abbrev fn_computusref19_unit : Nat := 126
abbrev fn_computusref03_Long : Nat := 127
abbrev fn_num_Sub : Nat := 128
abbrev fn_civil_can : Nat := 129
abbrev fn_civil_parts : Nat := 130
abbrev fn_bits_Mul32 : Nat := 131
abbrev fn_bits_Mul64 : Nat := 132
abbrev fn_stringslite_HasPrefix : Nat := 133
abbrev fn_strings_Builder_copyCheck : Nat := 134
abbrev fn_strings_Builder_grow : Nat := 135
abbrev fn_computusref02_Can : Nat := 136
abbrev fn_computusref02_div : Nat := 137
abbrev fn_computusref02_mod : Nat := 138
abbrev fn_computusref02_Leap : Nat := 139
abbrev fn_computusref02_Len : Nat := 140
abbrev fn_num_Scale : Nat := 141
abbrev fn_clock_parts : Nat := 142
abbrev fn_clock_Fraction : Nat := 143
abbrev fn_computusref01_Small : Nat := 144
abbrev fn_computusref01_Over : Nat := 145
abbrev fn_computusref01_Of : Nat := 146
abbrev fn_computusref01_Plus : Nat := 147
abbrev fn_computusref01_Minus : Nat := 148
abbrev fn_computusref01_Times : Nat := 149
abbrev fn_stringslite_Cut : Nat := 150
abbrev fn_show_number : Nat := 151
abbrev fn_strings_TrimPrefix : Nat := 152
abbrev fn_zone_asked : Nat := 153
abbrev fn_sort_Search : Nat := 154
abbrev fn_zone_at_1 : Nat := 155
abbrev fn_computusref02_day : Nat := 156
abbrev fn_computusref11_Right : Nat := 157
abbrev fn_computusref11_Year : Nat := 158
abbrev fn_computusref01_Add : Nat := 159
abbrev fn_civil_day : Nat := 160
abbrev fn_foot_can : Nat := 161
abbrev fn_foot_about_1 : Nat := 162
abbrev fn_foot_shift : Nat := 163
abbrev fn_civil_floor : Nat := 164
abbrev fn_abi_NoEscape : Nat := 165
abbrev fn_bytealg_MakeNoZero : Nat := 166
abbrev fn_computusref02_Last : Nat := 167
abbrev fn_num_product : Nat := 168
abbrev fn_num_size : Nat := 169
abbrev fn_bits_Div64 : Nat := 170
abbrev fn_num_signed : Nat := 171
abbrev fn_bits_Add64 : Nat := 172
abbrev fn_computusref01_divide : Nat := 173
abbrev fn_computusref01_zero : Nat := 174
abbrev fn_computusref01_add : Nat := 175
abbrev fn_computusref01_cmp : Nat := 176
abbrev fn_computusref01_less : Nat := 177
abbrev fn_stringslite_Index : Nat := 178
abbrev fn_stringslite_TrimPrefix : Nat := 179
abbrev fn_computusref02_start : Nat := 180
abbrev fn_computusref11_right : Nat := 181
abbrev fn_computusref11_shift : Nat := 182
abbrev fn_foot_right : Nat := 183
abbrev fn_foot_halves : Nat := 184
abbrev fn_when_Day : Nat := 185
abbrev fn_fire_Instant : Nat := 186
abbrev fn_bits_LeadingZeros64 : Nat := 187
abbrev fn_stringslite_IndexByte : Nat := 188
abbrev fn_bytealg_IndexString : Nat := 189
abbrev fn_bytealg_Cutover : Nat := 190
abbrev fn_bytealg_IndexRabinKarp_string : Nat := 191
abbrev fn_computusref07_RightOn : Nat := 192
abbrev fn_computusref07_RightAt : Nat := 193
abbrev fn_computusref07_Day : Nat := 194
abbrev fn_computusref09_Instant : Nat := 195
abbrev fn_when_TextOn : Nat := 196
abbrev fn_when_TextAt : Nat := 197
abbrev fn_when_On_form : Nat := 198
abbrev fn_civil_Days : Nat := 199
abbrev fn_when_to : Nat := 200
abbrev fn_civil_Len : Nat := 201
abbrev fn_bits_Len64 : Nat := 202
abbrev fn_bytealg_IndexByteString : Nat := 203
abbrev fn_bytealg_hashStr_string : Nat := 204
abbrev fn_computusref02_Days : Nat := 205
abbrev fn_computusref02_Weekday : Nat := 206
abbrev fn_when_At_right : Nat := 207
abbrev fn_civil_Right : Nat := 208
abbrev fn_civil_Weekday : Nat := 209
abbrev fn_civil_Leap : Nat := 210
abbrev fn_computusref02_Right : Nat := 211
abbrev fn_runtime_boundsError_Error : Nat := 212
abbrev fn_runtime_boundsError_RuntimeError : Nat := 213
abbrev fn_runtime_errorString_Error : Nat := 214
abbrev fn_runtime_errorString_RuntimeError : Nat := 215
abbrev fn_runtime_plainError_Error : Nat := 216
abbrev fn_runtime_plainError_RuntimeError : Nat := 217
abbrev fn_runtime_errorAddressString_Error : Nat := 218
abbrev fn_runtime_errorAddressString_RuntimeError : Nat := 219
abbrev fn_runtime_TypeAssertionError_Error : Nat := 220
abbrev fn_runtime_TypeAssertionError_RuntimeError : Nat := 221
abbrev fn_runtime_PanicNilError_Error : Nat := 222
abbrev fn_runtime_PanicNilError_RuntimeError : Nat := 223
abbrev fn_abi_Type_Align : Nat := 224
abbrev fn_maps_unhashableTypeError_Error : Nat := 225
abbrev fn_maps_unhashableTypeError_RuntimeError : Nat := 226
abbrev fn_dec_Dec_split : Nat := 227
abbrev fn_strings_Builder_Reset : Nat := 228
abbrev fn_when_fixed_right : Nat := 229
abbrev fn_when_day : Nat := 230
abbrev fn_when_final_right : Nat := 231
abbrev fn_when_weekday : Nat := 232
abbrev fn_when_near_right : Nat := 233
abbrev fn_errors_errorString_Error : Nat := 234
abbrev fn_abi_Kind_String : Nat := 235
def ann : List (Nat × List ((List Nat × Nat) × Dir)) := [
  (6, [(([6], 2), ⟨[], [], []⟩), (([6], 3), ⟨[2, 3], [], []⟩)]),
  (7, [(([7], 2), ⟨[], [], []⟩), (([7], 3), ⟨[2, 3], [], []⟩)]),
  (8, [(([8], 2), ⟨[], [], []⟩), (([8], 3), ⟨[2, 3], [], []⟩)]),
  (9, [(([9], 2), ⟨[], [], []⟩), (([9], 3), ⟨[2, 3], [], []⟩)]),
  (15, [(([15], 2), ⟨[], [], []⟩), (([15], 3), ⟨[3, 4, 5], [], []⟩)]),
  (16, [(([16], 2), ⟨[], [], []⟩), (([16], 3), ⟨[3, 4, 5], [], []⟩)]),
  (17, [(([17], 2), ⟨[], [], []⟩), (([17], 3), ⟨[3, 4, 5], [], []⟩)]),
  (18, [(([18], 20), ⟨[1, 3], [], []⟩), (([18], 22), ⟨[1, 3, 9], [], []⟩)]),
  (19, [(([19], 16), ⟨[3, 4], [], []⟩), (([19], 26), ⟨[1, 3], [], []⟩), (([19], 28), ⟨[1, 3, 9], [], []⟩)]),
  (22, [(([22], 5), ⟨[3, 6, 7, 8, 10], [], []⟩)]),
  (23, [(([23], 3), ⟨[3, 6, 7, 8], [], [(3, 5, 1)]⟩)]),
  (26, [(([26], 6), ⟨[3, 6, 7, 8, 10], [], []⟩), (([26], 7), ⟨[3, 7, 8, 10, 11], [], []⟩)]),
  (31, [(([31], 3), ⟨[2, 3], [], []⟩)]),
  (34, [(([34], 4), ⟨[0, 4], [], []⟩), (([34], 5), ⟨[], [], []⟩), (([34], 6), ⟨[0, 4], [], []⟩)]),
  (36, [(([36], 2), ⟨[], [], []⟩), (([36], 3), ⟨[1], [], []⟩), (([36], 5), ⟨[1, 3, 4], [], []⟩), (([36], 9), ⟨[], [], []⟩), (([36], 10), ⟨[1, 4, 5], [], []⟩)]),
  (37, [(([37], 2), ⟨[4], [], []⟩), (([37], 3), ⟨[2, 3, 4], [], []⟩)]),
  (38, [(([38], 2), ⟨[4], [], []⟩), (([38], 3), ⟨[2, 3, 4], [], []⟩)]),
  (39, [(([39], 2), ⟨[], [], []⟩), (([39], 3), ⟨[0], [], []⟩), (([39], 7), ⟨[0, 4], [], []⟩), (([39], 10), ⟨[0, 4], [], []⟩)]),
  (40, [(([40], 2), ⟨[], [], []⟩), (([40], 3), ⟨[1], [], []⟩), (([40], 4), ⟨[1, 27, 28, 29], [], []⟩), (([40], 7), ⟨[], [], []⟩), (([40], 8), ⟨[1, 27, 28, 29], [], []⟩)]),
  (42, [(([42], 6), ⟨[1, 3, 4], [], []⟩), (([42], 9), ⟨[1, 3, 4, 5, 6, 7], [], []⟩), (([42], 11), ⟨[1, 3, 4, 5, 6, 7], [], []⟩), (([42], 12), ⟨[1, 3, 4, 5, 6, 7], [], []⟩), (([42], 14), ⟨[1, 3, 4, 5, 6, 7], [], []⟩)]),
  (43, [(([43], 4), ⟨[0, 3], [], []⟩), (([43], 5), ⟨[0, 3, 4], [], [(4, 5, 1)]⟩), (([43], 11), ⟨[4], [], []⟩), (([43], 13), ⟨[4, 5, 6], [], [(5, 5, 1)]⟩)]),
  (44, [(([44], 8), ⟨[1, 3, 4], [], []⟩)]),
  (45, [(([45], 2), ⟨[], [], []⟩), (([45], 3), ⟨[2, 3], [], []⟩)]),
  (51, [(([51], 8), ⟨[0, 1], [], []⟩), (([51], 10), ⟨[0, 6], [], []⟩), (([51], 11), ⟨[0, 6], [], []⟩), (([51], 20), ⟨[0, 7], [], []⟩), (([51], 21), ⟨[7], [], []⟩), (([51], 22), ⟨[0, 7], [], []⟩), (([51], 23), ⟨[7], [], []⟩), (([51], 24), ⟨[0, 7], [], []⟩), (([51], 25), ⟨[7], [], []⟩), (([51], 26), ⟨[0, 7], [], []⟩), (([51], 27), ⟨[7], [], []⟩), (([51], 28), ⟨[0, 7], [], []⟩), (([51], 29), ⟨[7], [], []⟩), (([51], 30), ⟨[0, 7], [], []⟩), (([51], 35), ⟨[0, 7, 8], [], []⟩), (([51], 37), ⟨[0, 7, 8, 9], [], []⟩), (([51], 38), ⟨[7, 8, 9], [], []⟩), (([51], 39), ⟨[7, 8, 9], [], []⟩)]),
  (53, [(([53], 3), ⟨[0, 5, 8, 9, 10], [], [(5, 9, 1)]⟩)]),
  (56, [(([56], 2), ⟨[0], [], []⟩), (([56], 3), ⟨[0], [], []⟩)]),
  (65, [(([65], 3), ⟨[1, 3, 4], [], []⟩), (([65], 4), ⟨[1, 3, 4, 5], [], []⟩), (([65], 5), ⟨[1, 3, 4, 5, 6], [], []⟩), (([65], 7), ⟨[1, 4, 5, 6], [], []⟩), (([65], 8), ⟨[1, 3, 4, 5, 6, 7], [], []⟩)]),
  (71, [(([71], 4), ⟨[3], [], []⟩)]),
  (72, [(([72], 3), ⟨[1, 4, 6, 7, 8], [], []⟩)]),
  (74, [(([74], 6), ⟨[1, 2, 4], [], []⟩), (([74], 7), ⟨[1, 2, 4], [], []⟩), (([74], 9), ⟨[1, 2, 4, 6, 7], [], []⟩)]),
  (82, [(([82], 8), ⟨[3, 4], [], []⟩)]),
  (83, [(([83], 6), ⟨[1, 3, 4, 5, 6, 7], [], []⟩), (([83], 11), ⟨[1, 3, 4, 5, 6, 7], [], []⟩), (([83], 7), ⟨[1, 3, 4, 5, 6, 7], [], []⟩), (([83], 14), ⟨[5], [], []⟩), (([83], 15), ⟨[1, 5, 6], [], []⟩), (([83], 17), ⟨[1, 5, 6], [], []⟩)]),
  (90, [(([90], 1), ⟨[0, 1], [], []⟩), (([90], 3), ⟨[0, 1], [], []⟩)]),
  (91, [(([91], 2), ⟨[0, 1], [], []⟩)]),
  (94, [(([94], 3), ⟨[0, 1, 5, 6], [], []⟩), (([94], 5), ⟨[0, 1, 5, 6], [], []⟩)]),
  (95, [(([95], 10), ⟨[0, 1, 5], [], []⟩), (([95], 11), ⟨[0, 1, 5], [], []⟩), (([95], 12), ⟨[0, 1, 5, 39, 40, 41], [], []⟩), (([95], 16), ⟨[0, 1, 5, 7, 39, 40, 41], [], []⟩), (([95], 20), ⟨[0, 1, 8], [], []⟩), (([95], 21), ⟨[0, 1, 8], [], []⟩), (([95], 22), ⟨[1, 8, 63, 64, 65], [], []⟩)]),
  (96, [(([96], 5), ⟨[6, 7], [], []⟩), (([96], 8), ⟨[6, 7, 8], [], []⟩), (([96], 12), ⟨[6, 7, 9], [], []⟩)]),
  (103, [(([103], 2), ⟨[], [], []⟩), (([103], 3), ⟨[0], [], []⟩)]),
  (104, [(([104], 2), ⟨[], [], []⟩), (([104], 3), ⟨[0], [], []⟩), (([104], 4), ⟨[3], [], []⟩)]),
  (110, [(([110], 5), ⟨[0, 1, 2, 8], [], []⟩), (([110], 6), ⟨[0, 1, 2, 7, 8], [], []⟩)]),
  (112, [(([112], 4), ⟨[10, 11, 12], [], []⟩)]),
  (113, [(([113], 2), ⟨[2, 3, 4], [], []⟩), (([113], 4), ⟨[2, 3, 4], [], []⟩)]),
  (115, [(([115], 5), ⟨[], [], []⟩), (([115], 6), ⟨[2, 6], [], []⟩), (([115], 8), ⟨[2, 6, 7, 8], [], [(7, 36, 4)]⟩)]),
  (126, [(([126], 4), ⟨[0, 2, 7], [], []⟩)]),
  (127, [(([127], 6), ⟨[3, 4], [], []⟩)]),
  (140, [(([140], 10), ⟨[0, 5], [], []⟩), (([140], 15), ⟨[0, 5], [], []⟩)]),
  (141, [(([141], 9), ⟨[10, 11], [], []⟩), (([141], 10), ⟨[11], [], []⟩)]),
  (143, [(([143], 2), ⟨[], [], []⟩), (([143], 3), ⟨[0], [], []⟩), (([143], 6), ⟨[3, 4, 17], [], []⟩)]),
  (144, [(([144], 2), ⟨[1, 4], [], []⟩), (([144], 8), ⟨[5], [], []⟩), (([144], 9), ⟨[1, 5], [], []⟩)]),
  (145, [(([145], 3), ⟨[2, 3, 4, 5], [], []⟩)]),
  (146, [(([146], 4), ⟨[0, 2, 3], [], []⟩)]),
  (149, [(([149], 3), ⟨[2, 3, 4, 5, 6], [], [(5, 119, 1)]⟩), (([149], 8), ⟨[2, 3, 4, 5, 6, 7, 8, 9], [], []⟩)]),
  (154, [(([154], 2), ⟨[1, 5, 6], [], []⟩)]),
  (156, [(([156], 3), ⟨[0, 1, 7, 8], [], []⟩)]),
  (157, [(([157], 2), ⟨[], [], []⟩), (([157], 3), ⟨[1], [], []⟩)]),
  (158, [(([158], 4), ⟨[], [], []⟩), (([158], 5), ⟨[1, 2], [], []⟩)]),
  (160, [(([160], 3), ⟨[0, 1, 2], [], []⟩)]),
  (161, [(([161], 2), ⟨[], [], []⟩), (([161], 3), ⟨[1], [], []⟩)]),
  (162, [(([162], 2), ⟨[0, 2, 4, 5], [], []⟩)]),
  (170, [(([170], 3), ⟨[0, 1, 2], [], []⟩), (([170], 5), ⟨[0, 1, 2], [], []⟩), (([170], 17), ⟨[2, 8, 9, 10, 11, 13, 14, 15, 16], [], []⟩), (([170], 18), ⟨[2, 8, 9, 10, 11, 13, 14, 15, 16], [], []⟩), (([170], 21), ⟨[2, 8, 9, 10, 11, 13, 14, 15], [], []⟩), (([170], 24), ⟨[2, 8, 9, 10, 14, 15, 16, 17, 18], [], []⟩), (([170], 25), ⟨[2, 8, 9, 10, 14, 15, 16, 17, 18], [], []⟩), (([170], 28), ⟨[2, 8, 14, 15, 17, 18], [], []⟩)]),
  (171, [(([171], 5), ⟨[0, 3], [], []⟩)]),
  (173, [(([173], 4), ⟨[0, 1, 6, 7, 8], [], [(7, 119, 1)]⟩), (([173], 7), ⟨[0, 1, 6, 7, 8], [], []⟩)]),
  (175, [(([175], 4), ⟨[0, 1, 5, 6, 7], [], []⟩)]),
  (176, [(([176], 2), ⟨[0, 1, 5], [], []⟩)]),
  (177, [(([177], 4), ⟨[0, 1, 5, 6, 7], [], []⟩)]),
  (178, [(([178], 3), ⟨[], [], []⟩), (([178], 4), ⟨[0, 1, 5], [], []⟩), (([178], 9), ⟨[0, 1], [], []⟩), (([178], 10), ⟨[0, 1, 5], [], []⟩), (([178], 15), ⟨[0, 1, 5, 6, 7, 8, 9, 10], [], []⟩), (([178], 21), ⟨[0, 1, 5, 6, 7, 8, 9, 10], [], []⟩), (([178], 22), ⟨[8], [], []⟩), (([178], 23), ⟨[0, 1, 5, 6, 7, 8, 9, 10], [], []⟩), (([178], 26), ⟨[0, 1, 8], [], []⟩), (([178], 30), ⟨[0, 1, 5, 6, 7, 8, 9, 10], [], []⟩), (([178], 31), ⟨[0, 1, 8], [], []⟩)]),
  (180, [(([180], 3), ⟨[0, 3, 4], [], []⟩)]),
  (185, [(([185], 3), ⟨[], [], []⟩), (([185], 4), ⟨[0, 1, 8], [], []⟩), (([185], 5), ⟨[], [], []⟩), (([185], 6), ⟨[0, 1, 8], [], []⟩)]),
  (191, [(([191], 5), ⟨[0, 1, 5, 6, 7, 8, 9], [], []⟩), (([191], 9), ⟨[], [], []⟩), (([191], 10), ⟨[0, 1, 5, 6, 7, 8], [], []⟩), (([191], 11), ⟨[0, 1, 5, 6, 7, 8, 10], [], []⟩)]),
  (192, [(([192], 2), ⟨[1, 3], [], []⟩), (([192], 3), ⟨[1, 3, 4], [], []⟩)]),
  (194, [(([194], 2), ⟨[], [], []⟩), (([194], 3), ⟨[0, 1, 5], [], []⟩), (([194], 4), ⟨[], [], []⟩), (([194], 5), ⟨[0, 1, 5], [], []⟩), (([194], 9), ⟨[5, 10], [], []⟩), (([194], 10), ⟨[5, 10, 11], [], []⟩), (([194], 12), ⟨[5, 10, 11], [], []⟩)]),
  (197, [(([197], 6), ⟨[1, 4], [], []⟩), (([197], 8), ⟨[1, 4], [], []⟩)]),
  (198, [(([198], 4), ⟨[1], [], []⟩), (([198], 5), ⟨[1], [], []⟩), (([198], 6), ⟨[1], [], []⟩), (([198], 7), ⟨[1], [], []⟩)]),
  (200, [(([200], 1), ⟨[0, 1, 2], [], []⟩)]),
  (201, [(([201], 3), ⟨[], [], []⟩), (([201], 4), ⟨[0, 1, 5], [], []⟩)]),
  (202, [(([202], 4), ⟨[0, 2], [], []⟩), (([202], 7), ⟨[0, 2], [], []⟩)]),
  (204, [(([204], 3), ⟨[0, 4, 5], [], []⟩), (([204], 8), ⟨[4, 6, 7, 8], [], []⟩)])]
noncomputable def EE : Env := { P := Tryz.prog, tt, ext := [(172, extAdd64), (203, extIndexByte)], ann, inl := [(51, 90), (51, 91), (51, 92), (51, 93), (65, 110), (90, 134), (90, 135), (91, 134), (95, 90), (95, 91), (95, 93), (173, 175)], mt := [((49, "computus/when.form"), 198), ((50, "computus/when.right"), 207), ((129, "Grow"), 90), ((129, "Len"), 92), ((129, "String"), 93), ((129, "WriteString"), 91), ((129, "strings.copyCheck"), 134), ((129, "strings.grow"), 135), ((226, "computus/when.right"), 229), ((228, "computus/when.right"), 231), ((231, "computus/when.right"), 233)], eqs := [23, 25, 61], same := [165], mnz := [(166, 5)] }
end Dv
