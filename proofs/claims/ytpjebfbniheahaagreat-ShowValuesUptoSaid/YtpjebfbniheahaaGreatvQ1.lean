/- The seat's functions, as equations. -/
import Derived.Test.YtpjebfbniheahaaGreatvL1
import Derived.Test.YtpjebfbniheahaaGreatProg
set_option linter.unusedVariables false
set_option linter.unusedSimpArgs false
namespace Dv
open Go Go.Proofs
def tt:List TI:=[
 ⟨.tuple [],1,0,.undef,[.other]⟩,
 ⟨.func,1,8,.nilfn,[.other]⟩,
 ⟨.int .i64,1,8,(.int .i64 0),[.int .i64]⟩,
 ⟨.int .i64,1,8,(.int .i64 0),[.int .i64]⟩,
 ⟨.bool,1,1,(.bool false),[.bool]⟩,
 ⟨.int .u8,1,1,(.int .u8 0),[.int .u8]⟩,
 ⟨.int .u8,1,1,(.int .u8 0),[.int .u8]⟩,
 ⟨.struct [(0,2),(1,3),(2,4),(3,6)],4,24,(.agg [(.int .i64 0),(.int .i64 0),(.bool false),(.int .u8 0)]),[.int .i64,.int .i64,.bool,.int .u8]⟩,
 ⟨.struct [(0,2),(1,3),(2,4),(3,6)],4,24,(.agg [(.int .i64 0),(.int .i64 0),(.bool false),(.int .u8 0)]),[.int .i64,.int .i64,.bool,.int .u8]⟩,
 ⟨.str,1,16,(.str []),[.str]⟩,
 ⟨.str,1,16,(.str []),[.str]⟩,
 ⟨.str,1,16,(.str []),[.str]⟩,
 ⟨.int .u64,1,8,(.int .u64 0),[.int .u64]⟩,
 ⟨.struct [(0,9),(1,12)],2,24,(.agg [(.str []),(.int .u64 0)]),[.str,.int .u64]⟩,
 ⟨.struct [(0,9),(1,12)],2,24,(.agg [(.str []),(.int .u64 0)]),[.str,.int .u64]⟩,
 ⟨.ptr 237,1,8,.nilp,[.other]⟩,
 ⟨.ptr 240,1,8,.nilp,[.other]⟩,
 ⟨.ptr 247,1,8,.nilp,[.other]⟩,
 ⟨.struct [(0,17)],1,8,(.agg [.nilp]),[.other]⟩,
 ⟨.struct [(0,17)],1,8,(.agg [.nilp]),[.other]⟩,
 ⟨.iface false,1,16,.nili,[.other]⟩,
 ⟨.int .i32,1,4,(.int .i32 0),[.int .i32]⟩,
 ⟨.struct [(0,2),(1,2),(2,4),(3,9)],4,40,(.agg [(.int .i64 0),(.int .i64 0),(.bool false),(.str [])]),[.int .i64,.int .i64,.bool,.str]⟩,
 ⟨.struct [(0,2),(1,2),(2,4),(3,9)],4,40,(.agg [(.int .i64 0),(.int .i64 0),(.bool false),(.str [])]),[.int .i64,.int .i64,.bool,.str]⟩,
 ⟨.slice 23,1,24,.sl0,[.slice 4]⟩,
 ⟨.struct [(0,3),(1,2),(2,2)],3,24,(.agg [(.int .i64 0),(.int .i64 0),(.int .i64 0)]),[.int .i64,.int .i64,.int .i64]⟩,
 ⟨.struct [(0,3),(1,2),(2,2)],3,24,(.agg [(.int .i64 0),(.int .i64 0),(.int .i64 0)]),[.int .i64,.int .i64,.int .i64]⟩,
 ⟨.struct [(0,2),(1,5)],2,16,(.agg [(.int .i64 0),(.int .u8 0)]),[.int .i64,.int .u8]⟩,
 ⟨.struct [(0,2),(1,5)],2,16,(.agg [(.int .i64 0),(.int .u8 0)]),[.int .i64,.int .u8]⟩,
 ⟨.struct [(0,2),(1,26),(4,28),(6,2),(7,9)],8,72,(.agg [(.int .i64 0),(.int .i64 0),(.int .i64 0),(.int .i64 0),(.int .i64 0),(.int .u8 0),(.int .i64 0),(.str [])]),[.int .i64,.int .i64,.int .i64,.int .i64,.int .i64,.int .u8,.int .i64,.str]⟩,
 ⟨.struct [(0,2),(1,26),(4,28),(6,2),(7,9)],8,72,(.agg [(.int .i64 0),(.int .i64 0),(.int .i64 0),(.int .i64 0),(.int .i64 0),(.int .u8 0),(.int .i64 0),(.str [])]),[.int .i64,.int .i64,.int .i64,.int .i64,.int .i64,.int .u8,.int .i64,.str]⟩,
 ⟨.struct [(0,4),(1,2),(2,2),(3,30),(11,30)],19,168,(.agg [(.bool false),(.int .i64 0),(.int .i64 0),(.int .i64 0),(.int .i64 0),(.int .i64 0),(.int .i64 0),(.int .i64 0),(.int .u8 0),(.int .i64 0),(.str []),(.int .i64 0),(.int .i64 0),(.int .i64 0),(.int .i64 0),(.int .i64 0),(.int .u8 0),(.int .i64 0),(.str [])]),[.bool,.int .i64,.int .i64,.int .i64,.int .i64,.int .i64,.int .i64,.int .i64,.int .u8,.int .i64,.str,.int .i64,.int .i64,.int .i64,.int .i64,.int .i64,.int .u8,.int .i64,.str]⟩,
 ⟨.struct [(0,4),(1,2),(2,2),(3,30),(11,30)],19,168,(.agg [(.bool false),(.int .i64 0),(.int .i64 0),(.int .i64 0),(.int .i64 0),(.int .i64 0),(.int .i64 0),(.int .i64 0),(.int .u8 0),(.int .i64 0),(.str []),(.int .i64 0),(.int .i64 0),(.int .i64 0),(.int .i64 0),(.int .i64 0),(.int .u8 0),(.int .i64 0),(.str [])]),[.bool,.int .i64,.int .i64,.int .i64,.int .i64,.int .i64,.int .i64,.int .i64,.int .u8,.int .i64,.str,.int .i64,.int .i64,.int .i64,.int .i64,.int .i64,.int .u8,.int .i64,.str]⟩,
 ⟨.struct [(0,9),(1,23),(5,24),(6,32)],25,248,(.agg [(.str []),(.int .i64 0),(.int .i64 0),(.bool false),(.str []),.sl0,(.bool false),(.int .i64 0),(.int .i64 0),(.int .i64 0),(.int .i64 0),(.int .i64 0),(.int .i64 0),(.int .i64 0),(.int .u8 0),(.int .i64 0),(.str []),(.int .i64 0),(.int .i64 0),(.int .i64 0),(.int .i64 0),(.int .i64 0),(.int .u8 0),(.int .i64 0),(.str [])]),[.str,.int .i64,.int .i64,.bool,.str,.slice 4,.bool,.int .i64,.int .i64,.int .i64,.int .i64,.int .i64,.int .i64,.int .i64,.int .u8,.int .i64,.str,.int .i64,.int .i64,.int .i64,.int .i64,.int .i64,.int .u8,.int .i64,.str]⟩,
 ⟨.struct [(0,9),(1,23),(5,24),(6,32)],25,248,(.agg [(.str []),(.int .i64 0),(.int .i64 0),(.bool false),(.str []),.sl0,(.bool false),(.int .i64 0),(.int .i64 0),(.int .i64 0),(.int .i64 0),(.int .i64 0),(.int .i64 0),(.int .i64 0),(.int .u8 0),(.int .i64 0),(.str []),(.int .i64 0),(.int .i64 0),(.int .i64 0),(.int .i64 0),(.int .i64 0),(.int .u8 0),(.int .i64 0),(.str [])]),[.str,.int .i64,.int .i64,.bool,.str,.slice 4,.bool,.int .i64,.int .i64,.int .i64,.int .i64,.int .i64,.int .i64,.int .i64,.int .u8,.int .i64,.str,.int .i64,.int .i64,.int .i64,.int .i64,.int .i64,.int .u8,.int .i64,.str]⟩,
 ⟨.struct [(0,3),(1,2)],2,16,(.agg [(.int .i64 0),(.int .i64 0)]),[.int .i64,.int .i64]⟩,
 ⟨.struct [(0,3),(1,2)],2,16,(.agg [(.int .i64 0),(.int .i64 0)]),[.int .i64,.int .i64]⟩,
 ⟨.struct [(0,3),(1,3),(2,3)],3,24,(.agg [(.int .i64 0),(.int .i64 0),(.int .i64 0)]),[.int .i64,.int .i64,.int .i64]⟩,
 ⟨.struct [(0,3),(1,3),(2,3)],3,24,(.agg [(.int .i64 0),(.int .i64 0),(.int .i64 0)]),[.int .i64,.int .i64,.int .i64]⟩,
 ⟨.int .i64,1,8,(.int .i64 0),[.int .i64]⟩,
 ⟨.tuple [9,39],1,0,.undef,[.other]⟩,
 ⟨.func,1,8,.nilfn,[.other]⟩,
 ⟨.struct [(0,3),(1,2),(2,2)],3,24,(.agg [(.int .i64 0),(.int .i64 0),(.int .i64 0)]),[.int .i64,.int .i64,.int .i64]⟩,
 ⟨.struct [(0,2),(1,5)],2,16,(.agg [(.int .i64 0),(.int .u8 0)]),[.int .i64,.int .u8]⟩,
 ⟨.struct [(0,2),(1,42),(4,43),(6,2),(7,9)],8,72,(.agg [(.int .i64 0),(.int .i64 0),(.int .i64 0),(.int .i64 0),(.int .i64 0),(.int .u8 0),(.int .i64 0),(.str [])]),[.int .i64,.int .i64,.int .i64,.int .i64,.int .i64,.int .u8,.int .i64,.str]⟩,
 ⟨.struct [(0,2),(1,42),(4,43),(6,2),(7,9)],8,72,(.agg [(.int .i64 0),(.int .i64 0),(.int .i64 0),(.int .i64 0),(.int .i64 0),(.int .u8 0),(.int .i64 0),(.str [])]),[.int .i64,.int .i64,.int .i64,.int .i64,.int .i64,.int .u8,.int .i64,.str]⟩,
 ⟨.struct [(0,4),(1,2),(2,2),(3,45),(11,45)],19,168,(.agg [(.bool false),(.int .i64 0),(.int .i64 0),(.int .i64 0),(.int .i64 0),(.int .i64 0),(.int .i64 0),(.int .i64 0),(.int .u8 0),(.int .i64 0),(.str []),(.int .i64 0),(.int .i64 0),(.int .i64 0),(.int .i64 0),(.int .i64 0),(.int .u8 0),(.int .i64 0),(.str [])]),[.bool,.int .i64,.int .i64,.int .i64,.int .i64,.int .i64,.int .i64,.int .i64,.int .u8,.int .i64,.str,.int .i64,.int .i64,.int .i64,.int .i64,.int .i64,.int .u8,.int .i64,.str]⟩,
 ⟨.struct [(0,4),(1,2),(2,2),(3,45),(11,45)],19,168,(.agg [(.bool false),(.int .i64 0),(.int .i64 0),(.int .i64 0),(.int .i64 0),(.int .i64 0),(.int .i64 0),(.int .i64 0),(.int .u8 0),(.int .i64 0),(.str []),(.int .i64 0),(.int .i64 0),(.int .i64 0),(.int .i64 0),(.int .i64 0),(.int .u8 0),(.int .i64 0),(.str [])]),[.bool,.int .i64,.int .i64,.int .i64,.int .i64,.int .i64,.int .i64,.int .i64,.int .u8,.int .i64,.str,.int .i64,.int .i64,.int .i64,.int .i64,.int .i64,.int .u8,.int .i64,.str]⟩,
 ⟨.struct [(0,9),(1,23),(5,24),(6,47)],25,248,(.agg [(.str []),(.int .i64 0),(.int .i64 0),(.bool false),(.str []),.sl0,(.bool false),(.int .i64 0),(.int .i64 0),(.int .i64 0),(.int .i64 0),(.int .i64 0),(.int .i64 0),(.int .i64 0),(.int .u8 0),(.int .i64 0),(.str []),(.int .i64 0),(.int .i64 0),(.int .i64 0),(.int .i64 0),(.int .i64 0),(.int .u8 0),(.int .i64 0),(.str [])]),[.str,.int .i64,.int .i64,.bool,.str,.slice 4,.bool,.int .i64,.int .i64,.int .i64,.int .i64,.int .i64,.int .i64,.int .i64,.int .u8,.int .i64,.str,.int .i64,.int .i64,.int .i64,.int .i64,.int .i64,.int .u8,.int .i64,.str]⟩,
 ⟨.struct [(0,9),(1,23),(5,24),(6,47)],25,248,(.agg [(.str []),(.int .i64 0),(.int .i64 0),(.bool false),(.str []),.sl0,(.bool false),(.int .i64 0),(.int .i64 0),(.int .i64 0),(.int .i64 0),(.int .i64 0),(.int .i64 0),(.int .i64 0),(.int .u8 0),(.int .i64 0),(.str []),(.int .i64 0),(.int .i64 0),(.int .i64 0),(.int .i64 0),(.int .i64 0),(.int .u8 0),(.int .i64 0),(.str [])]),[.str,.int .i64,.int .i64,.bool,.str,.slice 4,.bool,.int .i64,.int .i64,.int .i64,.int .i64,.int .i64,.int .i64,.int .i64,.int .u8,.int .i64,.str,.int .i64,.int .i64,.int .i64,.int .i64,.int .i64,.int .u8,.int .i64,.str]⟩,
 ⟨.func,1,8,.nilfn,[.other]⟩,
 ⟨.func,1,8,.nilfn,[.other]⟩,
 ⟨.func,1,8,.nilfn,[.other]⟩,
 ⟨.func,1,8,.nilfn,[.other]⟩,
 ⟨.struct [(0,3),(1,2)],2,16,(.agg [(.int .i64 0),(.int .i64 0)]),[.int .i64,.int .i64]⟩,
 ⟨.struct [(0,3),(1,2)],2,16,(.agg [(.int .i64 0),(.int .i64 0)]),[.int .i64,.int .i64]⟩,
 ⟨.struct [(0,3),(1,2),(2,2),(3,2)],4,32,(.agg [(.int .i64 0),(.int .i64 0),(.int .i64 0),(.int .i64 0)]),[.int .i64,.int .i64,.int .i64,.int .i64]⟩,
 ⟨.struct [(0,3),(1,2),(2,2),(3,2)],4,32,(.agg [(.int .i64 0),(.int .i64 0),(.int .i64 0),(.int .i64 0)]),[.int .i64,.int .i64,.int .i64,.int .i64]⟩,
 ⟨.struct [(0,3),(1,4),(2,2),(3,3),(4,9),(5,55),(7,36),(9,57)],13,112,(.agg [(.int .i64 0),(.bool false),(.int .i64 0),(.int .i64 0),(.str []),(.int .i64 0),(.int .i64 0),(.int .i64 0),(.int .i64 0),(.int .i64 0),(.int .i64 0),(.int .i64 0),(.int .i64 0)]),[.int .i64,.bool,.int .i64,.int .i64,.str,.int .i64,.int .i64,.int .i64,.int .i64,.int .i64,.int .i64,.int .i64,.int .i64]⟩,
 ⟨.struct [(0,3),(1,4),(2,2),(3,3),(4,9),(5,55),(7,36),(9,57)],13,112,(.agg [(.int .i64 0),(.bool false),(.int .i64 0),(.int .i64 0),(.str []),(.int .i64 0),(.int .i64 0),(.int .i64 0),(.int .i64 0),(.int .i64 0),(.int .i64 0),(.int .i64 0),(.int .i64 0)]),[.int .i64,.bool,.int .i64,.int .i64,.str,.int .i64,.int .i64,.int .i64,.int .i64,.int .i64,.int .i64,.int .i64,.int .i64]⟩,
 ⟨.func,1,8,.nilfn,[.other]⟩,
 ⟨.func,1,8,.nilfn,[.other]⟩,
 ⟨.func,1,8,.nilfn,[.other]⟩,
 ⟨.func,1,8,.nilfn,[.other]⟩,
 ⟨.tuple [36,39],1,0,.undef,[.other]⟩,
 ⟨.func,1,8,.nilfn,[.other]⟩,
 ⟨.func,1,8,.nilfn,[.other]⟩,
 ⟨.func,1,8,.nilfn,[.other]⟩,
 ⟨.tuple [23,39],1,0,.undef,[.other]⟩,
 ⟨.func,1,8,.nilfn,[.other]⟩,
 ⟨.tuple [9,9],1,0,.undef,[.other]⟩,
 ⟨.func,1,8,.nilfn,[.other]⟩,
 ⟨.func,1,8,.nilfn,[.other]⟩,
 ⟨.func,1,8,.nilfn,[.other]⟩,
 ⟨.func,1,8,.nilfn,[.other]⟩,
 ⟨.func,1,8,.nilfn,[.other]⟩,
 ⟨.func,1,8,.nilfn,[.other]⟩,
 ⟨.func,1,8,.nilfn,[.other]⟩,
 ⟨.func,1,8,.nilfn,[.other]⟩,
 ⟨.func,1,8,.nilfn,[.other]⟩,
 ⟨.func,1,8,.nilfn,[.other]⟩,
 ⟨.func,1,8,.nilfn,[.other]⟩,
 ⟨.arr 2 9,2,32,(.agg [(.str []),(.str [])]),[.str,.str]⟩,
 ⟨.func,1,8,.nilfn,[.other]⟩,
 ⟨.func,1,8,.nilfn,[.other]⟩,
 ⟨.struct [(0,2),(1,3)],2,16,(.agg [(.int .i64 0),(.int .i64 0)]),[.int .i64,.int .i64]⟩,
 ⟨.struct [(0,2),(1,3)],2,16,(.agg [(.int .i64 0),(.int .i64 0)]),[.int .i64,.int .i64]⟩,
 ⟨.func,1,8,.nilfn,[.other]⟩,
 ⟨.func,1,8,.nilfn,[.other]⟩,
 ⟨.func,1,8,.nilfn,[.other]⟩,
 ⟨.struct [(0,2),(1,3)],2,16,(.agg [(.int .i64 0),(.int .i64 0)]),[.int .i64,.int .i64]⟩,
 ⟨.func,1,8,.nilfn,[.other]⟩,
 ⟨.func,1,8,.nilfn,[.other]⟩,
 ⟨.func,1,8,.nilfn,[.other]⟩,
 ⟨.func,1,8,.nilfn,[.other]⟩,
 ⟨.tuple [2,2],1,0,.undef,[.other]⟩,
 ⟨.func,1,8,.nilfn,[.other]⟩,
 ⟨.func,1,8,.nilfn,[.other]⟩,
 ⟨.tuple [55,2,39],1,0,.undef,[.other]⟩,
 ⟨.func,1,8,.nilfn,[.other]⟩,
 ⟨.func,1,8,.nilfn,[.other]⟩,
 ⟨.func,1,8,.nilfn,[.other]⟩,
 ⟨.slice 9,1,24,.sl0,[.slice 1]⟩,
 ⟨.slice 5,1,24,.sl0,[.slice 1]⟩,
 ⟨.func,1,8,.nilfn,[.other]⟩,
 ⟨.func,1,8,.nilfn,[.other]⟩,
 ⟨.func,1,8,.nilfn,[.other]⟩,
 ⟨.func,1,8,.nilfn,[.other]⟩,
 ⟨.func,1,8,.nilfn,[.other]⟩,
 ⟨.func,1,8,.nilfn,[.other]⟩,
 ⟨.func,1,8,.nilfn,[.other]⟩,
 ⟨.func,1,8,.nilfn,[.other]⟩,
 ⟨.func,1,8,.nilfn,[.other]⟩,
 ⟨.func,1,8,.nilfn,[.other]⟩,
 ⟨.func,1,8,.nilfn,[.other]⟩,
 ⟨.int .u64,1,8,(.int .u64 0),[.int .u64]⟩,
 ⟨.arr 32 5,32,32,(.agg [(.int .u8 0),(.int .u8 0),(.int .u8 0),(.int .u8 0),(.int .u8 0),(.int .u8 0),(.int .u8 0),(.int .u8 0),(.int .u8 0),(.int .u8 0),(.int .u8 0),(.int .u8 0),(.int .u8 0),(.int .u8 0),(.int .u8 0),(.int .u8 0),(.int .u8 0),(.int .u8 0),(.int .u8 0),(.int .u8 0),(.int .u8 0),(.int .u8 0),(.int .u8 0),(.int .u8 0),(.int .u8 0),(.int .u8 0),(.int .u8 0),(.int .u8 0),(.int .u8 0),(.int .u8 0),(.int .u8 0),(.int .u8 0)]),[.int .u8,.int .u8,.int .u8,.int .u8,.int .u8,.int .u8,.int .u8,.int .u8,.int .u8,.int .u8,.int .u8,.int .u8,.int .u8,.int .u8,.int .u8,.int .u8,.int .u8,.int .u8,.int .u8,.int .u8,.int .u8,.int .u8,.int .u8,.int .u8,.int .u8,.int .u8,.int .u8,.int .u8,.int .u8,.int .u8,.int .u8,.int .u8]⟩,
 ⟨.func,1,8,.nilfn,[.other]⟩,
 ⟨.tuple [2,39],1,0,.undef,[.other]⟩,
 ⟨.func,1,8,.nilfn,[.other]⟩,
 ⟨.func,1,8,.nilfn,[.other]⟩,
 ⟨.func,1,8,.nilfn,[.other]⟩,
 ⟨.func,1,8,.nilfn,[.other]⟩,
 ⟨.tuple [2,2,2,39],1,0,.undef,[.other]⟩,
 ⟨.func,1,8,.nilfn,[.other]⟩,
 ⟨.func,1,8,.nilfn,[.other]⟩,
 ⟨.func,1,8,.nilfn,[.other]⟩,
 ⟨.func,1,8,.nilfn,[.other]⟩,
 ⟨.func,1,8,.nilfn,[.other]⟩,
 ⟨.func,1,8,.nilfn,[.other]⟩,
 ⟨.func,1,8,.nilfn,[.other]⟩,
 ⟨.tuple [24,39],1,0,.undef,[.other]⟩,
 ⟨.func,1,8,.nilfn,[.other]⟩,
 ⟨.func,1,8,.nilfn,[.other]⟩,
 ⟨.tuple [2,2,2,2,39],1,0,.undef,[.other]⟩,
 ⟨.func,1,8,.nilfn,[.other]⟩,
 ⟨.tuple [9,2],1,0,.undef,[.other]⟩,
 ⟨.func,1,8,.nilfn,[.other]⟩,
 ⟨.tuple [9,9,4],1,0,.undef,[.other]⟩,
 ⟨.func,1,8,.nilfn,[.other]⟩,
 ⟨.func,1,8,.nilfn,[.other]⟩,
 ⟨.func,1,8,.nilfn,[.other]⟩,
 ⟨.ptr 2,1,8,.nilp,[.other]⟩,
 ⟨.func,1,8,.nilfn,[.other]⟩,
 ⟨.func,1,8,.nilfn,[.other]⟩,
 ⟨.func,1,8,.nilfn,[.other]⟩,
 ⟨.func,1,8,.nilfn,[.other]⟩,
 ⟨.tuple [2,9],1,0,.undef,[.other]⟩,
 ⟨.func,1,8,.nilfn,[.other]⟩,
 ⟨.slice 2,1,24,.sl0,[.slice 1]⟩,
 ⟨.func,1,8,.nilfn,[.other]⟩,
 ⟨.func,1,8,.nilfn,[.other]⟩,
 ⟨.func,1,8,.nilfn,[.other]⟩,
 ⟨.func,1,8,.nilfn,[.other]⟩,
 ⟨.int .u64,1,8,(.int .u64 0),[.int .u64]⟩,
 ⟨.tuple [154,154],1,0,.undef,[.other]⟩,
 ⟨.func,1,8,.nilfn,[.other]⟩,
 ⟨.func,1,8,.nilfn,[.other]⟩,
 ⟨.ptr 160,1,8,.nilp,[.other]⟩,
 ⟨.struct [(0,158),(1,103)],2,32,(.agg [.nilp,.sl0]),[.other,.slice 1]⟩,
 ⟨.struct [(0,158),(1,103)],2,32,(.agg [.nilp,.sl0]),[.other,.slice 1]⟩,
 ⟨.func,1,8,.nilfn,[.other]⟩,
 ⟨.iface true,1,16,.nili,[.other]⟩,
 ⟨.iface true,1,16,.nili,[.other]⟩,
 ⟨.tuple [3,163],1,0,.undef,[.other]⟩,
 ⟨.func,1,8,.nilfn,[.other]⟩,
 ⟨.func,1,8,.nilfn,[.other]⟩,
 ⟨.func,1,8,.nilfn,[.other]⟩,
 ⟨.tuple [2,2,2,2],1,0,.undef,[.other]⟩,
 ⟨.func,1,8,.nilfn,[.other]⟩,
 ⟨.arr 20 5,20,20,(.agg [(.int .u8 0),(.int .u8 0),(.int .u8 0),(.int .u8 0),(.int .u8 0),(.int .u8 0),(.int .u8 0),(.int .u8 0),(.int .u8 0),(.int .u8 0),(.int .u8 0),(.int .u8 0),(.int .u8 0),(.int .u8 0),(.int .u8 0),(.int .u8 0),(.int .u8 0),(.int .u8 0),(.int .u8 0),(.int .u8 0)]),[.int .u8,.int .u8,.int .u8,.int .u8,.int .u8,.int .u8,.int .u8,.int .u8,.int .u8,.int .u8,.int .u8,.int .u8,.int .u8,.int .u8,.int .u8,.int .u8,.int .u8,.int .u8,.int .u8,.int .u8]⟩,
 ⟨.func,1,8,.nilfn,[.other]⟩,
 ⟨.slice 115,1,24,.sl0,[.slice 1]⟩,
 ⟨.struct [(0,4),(1,172)],2,32,(.agg [(.bool false),.sl0]),[.bool,.slice 1]⟩,
 ⟨.struct [(0,4),(1,172)],2,32,(.agg [(.bool false),.sl0]),[.bool,.slice 1]⟩,
 ⟨.func,1,8,.nilfn,[.other]⟩,
 ⟨.func,1,8,.nilfn,[.other]⟩,
 ⟨.func,1,8,.nilfn,[.other]⟩,
 ⟨.func,1,8,.nilfn,[.other]⟩,
 ⟨.func,1,8,.nilfn,[.other]⟩,
 ⟨.func,1,8,.nilfn,[.other]⟩,
 ⟨.func,1,8,.nilfn,[.other]⟩,
 ⟨.tuple [2,2,2],1,0,.undef,[.other]⟩,
 ⟨.func,1,8,.nilfn,[.other]⟩,
 ⟨.func,1,8,.nilfn,[.other]⟩,
 ⟨.func,1,8,.nilfn,[.other]⟩,
 ⟨.arr 2 115,2,16,(.agg [(.int .u64 0),(.int .u64 0)]),[.int .u64,.int .u64]⟩,
 ⟨.func,1,8,.nilfn,[.other]⟩,
 ⟨.func,1,8,.nilfn,[.other]⟩,
 ⟨.tuple [115,115],1,0,.undef,[.other]⟩,
 ⟨.func,1,8,.nilfn,[.other]⟩,
 ⟨.func,1,8,.nilfn,[.other]⟩,
 ⟨.int .u32,1,4,(.int .u32 0),[.int .u32]⟩,
 ⟨.tuple [192,192],1,0,.undef,[.other]⟩,
 ⟨.func,1,8,.nilfn,[.other]⟩,
 ⟨.func,1,8,.nilfn,[.other]⟩,
 ⟨.ptr 5,1,8,.nilp,[.other]⟩,
 ⟨.tuple [172,172],1,0,.undef,[.other]⟩,
 ⟨.func,1,8,.nilfn,[.other]⟩,
 ⟨.func,1,8,.nilfn,[.other]⟩,
 ⟨.func,1,8,.nilfn,[.other]⟩,
 ⟨.func,1,8,.nilfn,[.other]⟩,
 ⟨.func,1,8,.nilfn,[.other]⟩,
 ⟨.func,1,8,.nilfn,[.other]⟩,
 ⟨.func,1,8,.nilfn,[.other]⟩,
 ⟨.func,1,8,.nilfn,[.other]⟩,
 ⟨.func,1,8,.nilfn,[.other]⟩,
 ⟨.map 4 45,1,8,.nilm,[.other]⟩,
 ⟨.func,1,8,.nilfn,[.other]⟩,
 ⟨.func,1,8,.nilfn,[.other]⟩,
 ⟨.func,1,8,.nilfn,[.other]⟩,
 ⟨.func,1,8,.nilfn,[.other]⟩,
 ⟨.uptr,1,8,.nilp,[.other]⟩,
 ⟨.func,1,8,.nilfn,[.other]⟩,
 ⟨.func,1,8,.nilfn,[.other]⟩,
 ⟨.func,1,8,.nilfn,[.other]⟩,
 ⟨.func,1,8,.nilfn,[.other]⟩,
 ⟨.func,1,8,.nilfn,[.other]⟩,
 ⟨.func,1,8,.nilfn,[.other]⟩,
 ⟨.func,1,8,.nilfn,[.other]⟩,
 ⟨.func,1,8,.nilfn,[.other]⟩,
 ⟨.func,1,8,.nilfn,[.other]⟩,
 ⟨.iface true,1,16,.nili,[.other]⟩,
 ⟨.iface true,1,16,.nili,[.other]⟩,
 ⟨.func,1,8,.nilfn,[.other]⟩,
 ⟨.int .i64,1,8,(.int .i64 0),[.int .i64]⟩,
 ⟨.tuple [225,4],1,0,.undef,[.other]⟩,
 ⟨.int .i64,1,8,(.int .i64 0),[.int .i64]⟩,
 ⟨.tuple [227,4],1,0,.undef,[.other]⟩,
 ⟨.struct [(0,2),(1,2),(2,2)],3,24,(.agg [(.int .i64 0),(.int .i64 0),(.int .i64 0)]),[.int .i64,.int .i64,.int .i64]⟩,
 ⟨.struct [(0,2),(1,2),(2,2)],3,24,(.agg [(.int .i64 0),(.int .i64 0),(.int .i64 0)]),[.int .i64,.int .i64,.int .i64]⟩,
 ⟨.func,1,8,.nilfn,[.other]⟩,
 ⟨.arr 7 9,7,112,(.agg [(.str []),(.str []),(.str []),(.str []),(.str []),(.str []),(.str [])]),[.str,.str,.str,.str,.str,.str,.str]⟩,
 ⟨.func,1,8,.nilfn,[.other]⟩,
 ⟨.arr 13 2,13,104,(.agg [(.int .i64 0),(.int .i64 0),(.int .i64 0),(.int .i64 0),(.int .i64 0),(.int .i64 0),(.int .i64 0),(.int .i64 0),(.int .i64 0),(.int .i64 0),(.int .i64 0),(.int .i64 0),(.int .i64 0)]),[.int .i64,.int .i64,.int .i64,.int .i64,.int .i64,.int .i64,.int .i64,.int .i64,.int .i64,.int .i64,.int .i64,.int .i64,.int .i64]⟩,
 ⟨.ptr 250,1,8,.nilp,[.other]⟩,
 ⟨.struct [(0,17),(1,17),(2,17),(3,9)],4,40,(.agg [.nilp,.nilp,.nilp,(.str [])]),[.other,.other,.other,.str]⟩,
 ⟨.struct [(0,17),(1,17),(2,17),(3,9)],4,40,(.agg [.nilp,.nilp,.nilp,(.str [])]),[.other,.other,.other,.str]⟩,
 ⟨.arr 0 16,0,0,(.agg []),[]⟩,
 ⟨.struct [(0,238)],0,0,(.agg []),[]⟩,
 ⟨.struct [(0,238)],0,0,(.agg []),[]⟩,
 ⟨.int .u8,1,1,(.int .u8 0),[.int .u8]⟩,
 ⟨.int .u8,1,1,(.int .u8 0),[.int .u8]⟩,
 ⟨.func,1,8,.nilfn,[.other]⟩,
 ⟨.int .i32,1,4,(.int .i32 0),[.int .i32]⟩,
 ⟨.int .i32,1,4,(.int .i32 0),[.int .i32]⟩,
 ⟨.struct [(0,12),(1,12),(2,192),(3,241),(4,5),(5,5),(6,242),(7,243),(8,196),(9,244),(10,245)],11,48,(.agg [(.int .u64 0),(.int .u64 0),(.int .u32 0),(.int .u8 0),(.int .u8 0),(.int .u8 0),(.int .u8 0),.nilfn,.nilp,(.int .i32 0),(.int .i32 0)]),[.int .u64,.int .u64,.int .u32,.int .u8,.int .u8,.int .u8,.int .u8,.other,.other,.int .i32,.int .i32]⟩,
 ⟨.struct [(0,12),(1,12),(2,192),(3,241),(4,5),(5,5),(6,242),(7,243),(8,196),(9,244),(10,245)],11,48,(.agg [(.int .u64 0),(.int .u64 0),(.int .u32 0),(.int .u8 0),(.int .u8 0),(.int .u8 0),(.int .u8 0),.nilfn,.nilp,(.int .i32 0),(.int .i32 0)]),[.int .u64,.int .u64,.int .u32,.int .u8,.int .u8,.int .u8,.int .u8,.other,.other,.int .i32,.int .i32]⟩,
 ⟨.func,1,8,.nilfn,[.other]⟩,
 ⟨.struct [(0,9)],1,16,(.agg [(.str [])]),[.str]⟩,
 ⟨.struct [(0,9)],1,16,(.agg [(.str [])]),[.str]⟩,
 ⟨.arr 2 2,2,16,(.agg [(.int .i64 0),(.int .i64 0)]),[.int .i64,.int .i64]⟩]
abbrev ty_LJ:Nat:=0
abbrev ty_funcLJ:Nat:=1
abbrev z16:Nat:=2
abbrev zcj:Nat:=3
abbrev zux:Nat:=4
abbrev zie:Nat:=5
abbrev z1bt:Nat:=6
abbrev zqd:Nat:=7
abbrev z1bn:Nat:=8
abbrev z9e:Nat:=9
abbrev z1bm:Nat:=10
abbrev z1c4:Nat:=11
abbrev ty_uintptr:Nat:=12
abbrev zw8:Nat:=13
abbrev z11k:Nat:=14
abbrev zza:Nat:=15
abbrev z15z:Nat:=16
abbrev ty_P_abi_Type:Nat:=17
abbrev z166:Nat:=18
abbrev z137:Nat:=19
abbrev ty_interface_:Nat:=20
abbrev ty_int32:Nat:=21
abbrev zqq:Nat:=22
abbrev zp:Nat:=23
abbrev zgs:Nat:=24
abbrev ztp:Nat:=25
abbrev z4j:Nat:=26
abbrev zz2:Nat:=27
abbrev zha:Nat:=28
abbrev zql:Nat:=29
abbrev z3m:Nat:=30
abbrev zqo:Nat:=31
abbrev z1q:Nat:=32
abbrev zqj:Nat:=33
abbrev zq:Nat:=34
abbrev z15t:Nat:=35
abbrev z5a:Nat:=36
abbrev zsu:Nat:=37
abbrev z2e:Nat:=38
abbrev ty_api_Errno:Nat:=39
abbrev z1ca:Nat:=40
abbrev zrs:Nat:=41
abbrev z1k5:Nat:=42
abbrev z177:Nat:=43
abbrev zqk:Nat:=44
abbrev ty_comp_Half:Nat:=45
abbrev zqp:Nat:=46
abbrev zo3:Nat:=47
abbrev zqi:Nat:=48
abbrev zgr:Nat:=49
abbrev zo1:Nat:=50
abbrev zrr:Nat:=51
abbrev ty_funcLJ_bool:Nat:=52
abbrev zr9:Nat:=53
abbrev z15u:Nat:=54
abbrev zld:Nat:=55
abbrev zqn:Nat:=56
abbrev z6n:Nat:=57
abbrev zqm:Nat:=58
abbrev z59:Nat:=59
abbrev zrp:Nat:=60
abbrev zro:Nat:=61
abbrev z191:Nat:=62
abbrev zrn:Nat:=63
abbrev z17c:Nat:=64
abbrev zrh:Nat:=65
abbrev z192:Nat:=66
abbrev z1fc:Nat:=67
abbrev z197:Nat:=68
abbrev zri:Nat:=69
abbrev z1hd:Nat:=70
abbrev zrt:Nat:=71
abbrev z194:Nat:=72
abbrev zwp:Nat:=73
abbrev zsv:Nat:=74
abbrev z193:Nat:=75
abbrev zwq:Nat:=76
abbrev zr7:Nat:=77
abbrev zr8:Nat:=78
abbrev zrx:Nat:=79
abbrev zry:Nat:=80
abbrev z179:Nat:=81
abbrev ty_A2_string:Nat:=82
abbrev z1k8:Nat:=83
abbrev z18y:Nat:=84
abbrev z12b:Nat:=85
abbrev z17b:Nat:=86
abbrev zru:Nat:=87
abbrev z1c7:Nat:=88
abbrev zwr:Nat:=89
abbrev zsx:Nat:=90
abbrev z1br:Nat:=91
abbrev z1bq:Nat:=92
abbrev zrq:Nat:=93
abbrev zo2:Nat:=94
abbrev z1lz:Nat:=95
abbrev zyt:Nat:=96
abbrev zrg:Nat:=97
abbrev z11p:Nat:=98
abbrev zrw:Nat:=99
abbrev zrz:Nat:=100
abbrev z11m:Nat:=101
abbrev ty_S_string:Nat:=102
abbrev ty_S_uint8:Nat:=103
abbrev z12e:Nat:=104
abbrev z1fd:Nat:=105
abbrev z1bp:Nat:=106
abbrev z1ez:Nat:=107
abbrev zrb:Nat:=108
abbrev zr6:Nat:=109
abbrev zr3:Nat:=110
abbrev z17a:Nat:=111
abbrev z168:Nat:=112
abbrev zrl:Nat:=113
abbrev z1c8:Nat:=114
abbrev z9d:Nat:=115
abbrev z1cb:Nat:=116
abbrev zz8:Nat:=117
abbrev z1f3:Nat:=118
abbrev zyq:Nat:=119
abbrev zr2:Nat:=120
abbrev zuv:Nat:=121
abbrev zwc:Nat:=122
abbrev zyu:Nat:=123
abbrev zs0:Nat:=124
abbrev z15x:Nat:=125
abbrev z1bo:Nat:=126
abbrev zz9:Nat:=127
abbrev z15v:Nat:=128
abbrev zr5:Nat:=129
abbrev ty_funcLJ_int64:Nat:=130
abbrev z169:Nat:=131
abbrev zrc:Nat:=132
abbrev zrv:Nat:=133
abbrev zs2:Nat:=134
abbrev zr4:Nat:=135
abbrev z1k9:Nat:=136
abbrev z11n:Nat:=137
abbrev z196:Nat:=138
abbrev zqx:Nat:=139
abbrev z12d:Nat:=140
abbrev ztq:Nat:=141
abbrev ty_P_int64:Nat:=142
abbrev zwd:Nat:=143
abbrev z12f:Nat:=144
abbrev z102:Nat:=145
abbrev zrk:Nat:=146
abbrev z1ka:Nat:=147
abbrev z11o:Nat:=148
abbrev ty_S_int64:Nat:=149
abbrev zw9:Nat:=150
abbrev zr0:Nat:=151
abbrev zz6:Nat:=152
abbrev z1k7:Nat:=153
abbrev ty_uint:Nat:=154
abbrev ty_Luint_uintJ:Nat:=155
abbrev z103:Nat:=156
abbrev z138:Nat:=157
abbrev z1f0:Nat:=158
abbrev zqf:Nat:=159
abbrev zif:Nat:=160
abbrev ty_funcLintJ:Nat:=161
abbrev z12c:Nat:=162
abbrev ty_error:Nat:=163
abbrev ty_Lint_errorJ:Nat:=164
abbrev z139:Nat:=165
abbrev ty_funcLJ_int:Nat:=166
abbrev z1ly:Nat:=167
abbrev z12g:Nat:=168
abbrev zqv:Nat:=169
abbrev z108:Nat:=170
abbrev zrf:Nat:=171
abbrev ty_S_uint64:Nat:=172
abbrev z101:Nat:=173
abbrev zn:Nat:=174
abbrev zrd:Nat:=175
abbrev zwo:Nat:=176
abbrev zre:Nat:=177
abbrev z15y:Nat:=178
abbrev zyp:Nat:=179
abbrev zys:Nat:=180
abbrev zz4:Nat:=181
abbrev z1bu:Nat:=182
abbrev zwb:Nat:=183
abbrev z190:Nat:=184
abbrev zrj:Nat:=185
abbrev z1cc:Nat:=186
abbrev z104:Nat:=187
abbrev z1c6:Nat:=188
abbrev z1hb:Nat:=189
abbrev zqt:Nat:=190
abbrev zrm:Nat:=191
abbrev ty_uint32:Nat:=192
abbrev z1hc:Nat:=193
abbrev zqw:Nat:=194
abbrev zqu:Nat:=195
abbrev ty_P_uint8:Nat:=196
abbrev z1bv:Nat:=197
abbrev zs1:Nat:=198
abbrev z1bs:Nat:=199
abbrev zuw:Nat:=200
abbrev z107:Nat:=201
abbrev zyr:Nat:=202
abbrev zra:Nat:=203
abbrev z15w:Nat:=204
abbrev zwa:Nat:=205
abbrev z18z:Nat:=206
abbrev z1c5:Nat:=207
abbrev zsw:Nat:=208
abbrev zqy:Nat:=209
abbrev zqz:Nat:=210
abbrev z1fb:Nat:=211
abbrev z1k6:Nat:=212
abbrev zqs:Nat:=213
abbrev z1ey:Nat:=214
abbrev z105:Nat:=215
abbrev z106:Nat:=216
abbrev zr1:Nat:=217
abbrev z167:Nat:=218
abbrev z1lx:Nat:=219
abbrev zut:Nat:=220
abbrev zuu:Nat:=221
abbrev zz3:Nat:=222
abbrev ty_when_form:Nat:=223
abbrev z1fe:Nat:=224
abbrev zba:Nat:=225
abbrev z1f1:Nat:=226
abbrev zbb:Nat:=227
abbrev z1f2:Nat:=228
abbrev zqe:Nat:=229
abbrev z58:Nat:=230
abbrev zz5:Nat:=231
abbrev ty_A7_string:Nat:=232
abbrev zz7:Nat:=233
abbrev z1cd:Nat:=234
abbrev z195:Nat:=235
abbrev zqg:Nat:=236
abbrev z11l:Nat:=237
abbrev z11q:Nat:=238
abbrev zo0:Nat:=239
abbrev z178:Nat:=240
abbrev ty_abi_TFlag:Nat:=241
abbrev ty_abi_Kind:Nat:=242
abbrev zqr:Nat:=243
abbrev ty_abi_NameOff:Nat:=244
abbrev ty_abi_TypeOff:Nat:=245
abbrev zqh:Nat:=246
abbrev ty_abi_Type:Nat:=247
abbrev z1ha:Nat:=248
abbrev z1fa:Nat:=249
abbrev z1c9:Nat:=250
abbrev ty_A2_int64:Nat:=251
abbrev fn_main_main:Nat:=0
abbrev z121:Nat:=3
abbrev z86:Nat:=4
abbrev z184:Nat:=5
abbrev zd4:Nat:=6
abbrev z4p:Nat:=7
abbrev zd3:Nat:=8
abbrev zbu:Nat:=9
abbrev z35:Nat:=10
abbrev z5e:Nat:=11
abbrev z19:Nat:=12
abbrev zu6:Nat:=13
abbrev zxs:Nat:=14
abbrev zmu:Nat:=15
abbrev zp8:Nat:=16
abbrev zua:Nat:=17
abbrev ziz:Nat:=18
abbrev z6d:Nat:=19
abbrev zf4:Nat:=20
abbrev z85:Nat:=21
abbrev zcr:Nat:=22
abbrev z18:Nat:=23
abbrev zg7:Nat:=24
abbrev z37:Nat:=25
abbrev z2s:Nat:=26
abbrev zbw:Nat:=27
abbrev z1b:Nat:=28
abbrev zj1:Nat:=29
abbrev zes:Nat:=30
abbrev z5d:Nat:=31
abbrev zxr:Nat:=32
abbrev z84:Nat:=33
abbrev zbv:Nat:=34
abbrev z1c:Nat:=35
abbrev z5g:Nat:=36
abbrev z3q:Nat:=37
abbrev z36:Nat:=38
abbrev z3p:Nat:=39
abbrev z111:Nat:=40
abbrev zke:Nat:=41
abbrev zxq:Nat:=42
abbrev zct:Nat:=43
abbrev zcs:Nat:=44
abbrev z14s:Nat:=45
abbrev z10x:Nat:=46
abbrev zu5:Nat:=47
abbrev z182:Nat:=48
abbrev z1e4:Nat:=49
abbrev zj0:Nat:=50
abbrev zxz:Nat:=51
abbrev zbt:Nat:=52
abbrev z113:Nat:=53
abbrev zd1:Nat:=54
abbrev zby:Nat:=55
abbrev zg9:Nat:=56
abbrev z4a:Nat:=57
abbrev z6s:Nat:=58
abbrev zg8:Nat:=59
abbrev z3g:Nat:=60
abbrev zex:Nat:=61
abbrev zhn:Nat:=62
abbrev z3o:Nat:=63
abbrev zey:Nat:=64
abbrev z47:Nat:=65
abbrev z14t:Nat:=66
abbrev z14u:Nat:=67
abbrev z2y:Nat:=68
abbrev zu2:Nat:=69
abbrev zue:Nat:=70
abbrev zkd:Nat:=71
abbrev z110:Nat:=72
abbrev zcy:Nat:=73
abbrev zg6:Nat:=74
abbrev z62:Nat:=75
abbrev zx:Nat:=76
abbrev zxx:Nat:=77
abbrev z10z:Nat:=78
abbrev z186:Nat:=79
abbrev zu7:Nat:=80
abbrev zbx:Nat:=81
abbrev z189:Nat:=82
abbrev z188:Nat:=83
abbrev z187:Nat:=84
abbrev zlt:Nat:=85
abbrev zkc:Nat:=86
abbrev z112:Nat:=87
abbrev zuc:Nat:=88
abbrev zz:Nat:=89
abbrev zpb:Nat:=90
abbrev zxy:Nat:=91
abbrev z1u:Nat:=92
abbrev z87:Nat:=93
abbrev zgf:Nat:=94
abbrev zge:Nat:=95
abbrev z2h:Nat:=96
abbrev zd0:Nat:=97
abbrev z2f:Nat:=98
abbrev zcv:Nat:=99
abbrev zgd:Nat:=100
abbrev zew:Nat:=101
abbrev zcu:Nat:=102
abbrev z39:Nat:=103
abbrev z1i:Nat:=104
abbrev zu8:Nat:=105
abbrev zu4:Nat:=106
abbrev zy0:Nat:=107
abbrev zub:Nat:=108
abbrev zp9:Nat:=109
abbrev fn_show_unit:Nat:=110
abbrev zxw:Nat:=111
abbrev zuj:Nat:=112
abbrev zy2:Nat:=113
abbrev zy4:Nat:=114
abbrev zxv:Nat:=115
abbrev fn_foot_about:Nat:=116
abbrev zeu:Nat:=117
abbrev zev:Nat:=118
abbrev z5f:Nat:=119
abbrev z5h:Nat:=120
abbrev z185:Nat:=121
abbrev zet:Nat:=122
abbrev zxp:Nat:=123
abbrev ze9:Nat:=124
abbrev zeq:Nat:=125
abbrev z14z:Nat:=126
abbrev zg5:Nat:=127
abbrev z1az:Nat:=128
abbrev z10w:Nat:=129
abbrev z1bw:Nat:=130
abbrev z16v:Nat:=131
abbrev zuf:Nat:=132
abbrev z4g:Nat:=133
abbrev z22:Nat:=134
abbrev z5j:Nat:=135
abbrev z6t:Nat:=136
abbrev zf3:Nat:=137
abbrev zd2:Nat:=138
abbrev z1l:Nat:=139
abbrev zgc:Nat:=140
abbrev zgb:Nat:=141
abbrev zga:Nat:=142
abbrev zez:Nat:=143
abbrev z48:Nat:=144
abbrev z63:Nat:=145
abbrev z38:Nat:=146
abbrev z3r:Nat:=147
abbrev zgg:Nat:=148
abbrev ziy:Nat:=149
abbrev zu9:Nat:=150
abbrev zer:Nat:=151
abbrev zj2:Nat:=152
abbrev z114:Nat:=153
abbrev zug:Nat:=154
abbrev zhm:Nat:=155
abbrev z14x:Nat:=156
abbrev zgx:Nat:=157
abbrev zud:Nat:=158
abbrev z14w:Nat:=159
abbrev z8p:Nat:=160
abbrev zgw:Nat:=161
abbrev zy6:Nat:=162
abbrev fn_bits_Mul32:Nat:=163
abbrev zy5:Nat:=164
abbrev zat:Nat:=165
abbrev z12s:Nat:=166
abbrev z1ay:Nat:=167
abbrev z1z:Nat:=168
abbrev zf2:Nat:=169
abbrev z65:Nat:=170
abbrev z64:Nat:=171
abbrev z5i:Nat:=172
abbrev zf0:Nat:=173
abbrev z4v:Nat:=174
abbrev zcx:Nat:=175
abbrev zcw:Nat:=176
abbrev z46:Nat:=177
abbrev z9o:Nat:=178
abbrev zuh:Nat:=179
abbrev zxu:Nat:=180
abbrev fn_foot_halves:Nat:=181
abbrev za7:Nat:=182
abbrev zpa:Nat:=183
abbrev zn8:Nat:=184
abbrev fn_abi_NoEscape:Nat:=185
abbrev z1e5:Nat:=186
abbrev z2g:Nat:=187
abbrev zav:Nat:=188
abbrev z15:Nat:=189
abbrev zau:Nat:=190
abbrev zas:Nat:=191
abbrev z1bx:Nat:=192
abbrev z1jb:Nat:=193
abbrev zyv:Nat:=194
abbrev zu3:Nat:=195
abbrev z9n:Nat:=196
abbrev z4o:Nat:=197
abbrev zy3:Nat:=198
abbrev zsk:Nat:=199
abbrev zf5:Nat:=200
abbrev fn_bits_Len64:Nat:=201
abbrev zf1:Nat:=202
abbrev zaw:Nat:=203
abbrev z90:Nat:=204
abbrev z16w:Nat:=205
abbrev zmt:Nat:=206
abbrev zui:Nat:=207
abbrev zmx:Nat:=208
abbrev zy1:Nat:=209
abbrev zcz:Nat:=210
abbrev z12u:Nat:=211
abbrev zvt:Nat:=212
abbrev z12t:Nat:=213
abbrev zvr:Nat:=214
abbrev z14v:Nat:=215
abbrev zwe:Nat:=216
abbrev zvs:Nat:=217
abbrev zmv:Nat:=218
abbrev zvu:Nat:=219
abbrev zmw:Nat:=220
abbrev z10y:Nat:=221
abbrev zt2:Nat:=222
abbrev z1ll:Nat:=223
abbrev zxt:Nat:=224
abbrev znw:Nat:=225
abbrev z1m0:Nat:=226
abbrev z183:Nat:=227
abbrev zhk:Nat:=228
abbrev z14r:Nat:=229
abbrev zhl:Nat:=230
abbrev zp7:Nat:=231
abbrev zix:Nat:=232
abbrev z14y:Nat:=233
abbrev z1jc:Nat:=234
def ann:List (Nat×List ((List Nat×Nat)×Dir)):=[
 (7,[(([7],2),⟨[],[],[]⟩),(([7],3),⟨[3,4,5],[],[]⟩)]),
 (9,[(([9],2),⟨[],[],[]⟩),(([9],3),⟨[3,4,5],[],[]⟩)]),
 (10,[(([10],2),⟨[],[],[]⟩),(([10],3),⟨[3,4,5],[],[]⟩)]),
 (11,[(([11],20),⟨[1,3],[],[]⟩),(([11],22),⟨[1,3,9],[],[]⟩)]),
 (12,[(([12],16),⟨[3,4],[],[]⟩),(([12],26),⟨[1,3],[],[]⟩),(([12],28),⟨[1,3,9],[],[]⟩)]),
 (18,[(([18],3),⟨[3,6,7,8],[],[(3,5,1)]⟩)]),
 (19,[(([19],4),⟨[0,4],[],[]⟩),(([19],5),⟨[],[],[]⟩),(([19],6),⟨[0,4],[],[]⟩)]),
 (23,[(([23],2),⟨[],[],[]⟩),(([23],3),⟨[1],[],[]⟩),(([23],5),⟨[1,3,4],[],[]⟩),(([23],9),⟨[],[],[]⟩),(([23],10),⟨[1,4,5],[],[]⟩)]),
 (25,[(([25],2),⟨[4],[],[]⟩),(([25],3),⟨[2,3,4],[],[]⟩)]),
 (26,[(([26],2),⟨[4],[],[]⟩),(([26],3),⟨[2,3,4],[],[]⟩)]),
 (28,[(([28],2),⟨[],[],[]⟩),(([28],3),⟨[0],[],[]⟩),(([28],7),⟨[0,4],[],[]⟩),(([28],10),⟨[0,4],[],[]⟩)]),
 (29,[(([29],3),⟨[2,3],[],[]⟩)]),
 (30,[(([30],2),⟨[],[],[]⟩),(([30],3),⟨[2,3],[],[]⟩)]),
 (31,[(([31],2),⟨[],[],[]⟩),(([31],3),⟨[1],[],[]⟩),(([31],4),⟨[1,27,28,29],[],[]⟩),(([31],7),⟨[],[],[]⟩),(([31],8),⟨[1,27,28,29],[],[]⟩)]),
 (33,[(([33],6),⟨[1,3,4],[],[]⟩),(([33],9),⟨[1,3,4,5,6,7],[],[]⟩),(([33],11),⟨[1,3,4,5,6,7],[],[]⟩),(([33],12),⟨[1,3,4,5,6,7],[],[]⟩),(([33],14),⟨[1,3,4,5,6,7],[],[]⟩)]),
 (34,[(([34],2),⟨[],[],[]⟩),(([34],3),⟨[2,3],[],[]⟩)]),
 (35,[(([35],4),⟨[0,3],[],[]⟩),(([35],5),⟨[0,3,4],[],[(4,5,1)]⟩),(([35],11),⟨[4],[],[]⟩),(([35],13),⟨[4,5,6],[],[(5,5,1)]⟩)]),
 (36,[(([36],8),⟨[1,3,4],[],[]⟩)]),
 (37,[(([37],2),⟨[],[],[]⟩),(([37],3),⟨[2,3],[],[]⟩)]),
 (38,[(([38],2),⟨[],[],[]⟩),(([38],3),⟨[2,3],[],[]⟩)]),
 (39,[(([39],2),⟨[],[],[]⟩),(([39],3),⟨[2,3],[],[]⟩)]),
 (50,[(([50],5),⟨[3,6,7,8,10],[],[]⟩)]),
 (52,[(([52],3),⟨[0,5,8,9,10],[],[(5,9,1)]⟩)]),
 (57,[(([57],4),⟨[3],[],[]⟩)]),
 (58,[(([58],3),⟨[1,4,6,7,8],[],[]⟩)]),
 (60,[(([60],6),⟨[1,2,4],[],[]⟩),(([60],7),⟨[1,2,4],[],[]⟩),(([60],9),⟨[1,2,4,6,7],[],[]⟩)]),
 (63,[(([63],6),⟨[3,6,7,8,10],[],[]⟩),(([63],7),⟨[3,7,8,10,11],[],[]⟩)]),
 (65,[(([65],2),⟨[0],[],[]⟩),(([65],3),⟨[0],[],[]⟩)]),
 (68,[(([68],3),⟨[1,3,4],[],[]⟩),(([68],4),⟨[1,3,4,5],[],[]⟩),(([68],5),⟨[1,3,4,5,6],[],[]⟩),(([68],7),⟨[1,4,5,6],[],[]⟩),(([68],8),⟨[1,3,4,5,6,7],[],[]⟩)]),
 (75,[(([75],8),⟨[3,4],[],[]⟩)]),
 (76,[(([76],6),⟨[1,3,4,5,6,7],[],[]⟩),(([76],11),⟨[1,3,4,5,6,7],[],[]⟩),(([76],7),⟨[1,3,4,5,6,7],[],[]⟩),(([76],14),⟨[5],[],[]⟩),(([76],15),⟨[1,5,6],[],[]⟩),(([76],17),⟨[1,5,6],[],[]⟩)]),
 (85,[(([85],4),⟨[10,11,12],[],[]⟩)]),
 (86,[(([86],2),⟨[2,3,4],[],[]⟩),(([86],4),⟨[2,3,4],[],[]⟩)]),
 (89,[(([89],8),⟨[0,1],[],[]⟩),(([89],10),⟨[0,6],[],[]⟩),(([89],11),⟨[0,6],[],[]⟩),(([89],20),⟨[0,7],[],[]⟩),(([89],21),⟨[7],[],[]⟩),(([89],22),⟨[0,7],[],[]⟩),(([89],23),⟨[7],[],[]⟩),(([89],24),⟨[0,7],[],[]⟩),(([89],25),⟨[7],[],[]⟩),(([89],26),⟨[0,7],[],[]⟩),(([89],27),⟨[7],[],[]⟩),(([89],28),⟨[0,7],[],[]⟩),(([89],29),⟨[7],[],[]⟩),(([89],30),⟨[0,7],[],[]⟩),(([89],35),⟨[0,7,8],[],[]⟩),(([89],37),⟨[0,7,8,9],[],[]⟩),(([89],38),⟨[7,8,9],[],[]⟩),(([89],39),⟨[7,8,9],[],[]⟩)]),
 (92,[(([92],10),⟨[0,1,5],[],[]⟩),(([92],11),⟨[0,1,5],[],[]⟩),(([92],12),⟨[0,1,5,39,40,41],[],[]⟩),(([92],16),⟨[0,1,5,7,39,40,41],[],[]⟩),(([92],20),⟨[0,1,8],[],[]⟩),(([92],21),⟨[0,1,8],[],[]⟩),(([92],22),⟨[1,8,63,64,65],[],[]⟩)]),
 (93,[(([93],3),⟨[0,1,5,6],[],[]⟩),(([93],5),⟨[0,1,5,6],[],[]⟩)]),
 (96,[(([96],5),⟨[6,7],[],[]⟩),(([96],8),⟨[6,7,8],[],[]⟩),(([96],12),⟨[6,7,9],[],[]⟩)]),
 (98,[(([98],5),⟨[],[],[]⟩),(([98],6),⟨[2,6],[],[]⟩),(([98],8),⟨[2,6,7,8],[],[(7,23,4)]⟩)]),
 (103,[(([103],2),⟨[],[],[]⟩),(([103],3),⟨[0],[],[]⟩)]),
 (104,[(([104],2),⟨[],[],[]⟩),(([104],3),⟨[0],[],[]⟩),(([104],4),⟨[3],[],[]⟩)]),
 (119,[(([119],4),⟨[0,2,7],[],[]⟩)]),
 (120,[(([120],6),⟨[3,4],[],[]⟩)]),
 (122,[(([122],9),⟨[10,11],[],[]⟩),(([122],10),⟨[11],[],[]⟩)]),
 (124,[(([124],2),⟨[1,5,6],[],[]⟩)]),
 (133,[(([133],2),⟨[],[],[]⟩),(([133],3),⟨[0],[],[]⟩),(([133],6),⟨[3,4,17],[],[]⟩)]),
 (134,[(([134],2),⟨[1,4],[],[]⟩),(([134],8),⟨[5],[],[]⟩),(([134],9),⟨[1,5],[],[]⟩)]),
 (135,[(([135],3),⟨[2,3,4,5],[],[]⟩)]),
 (136,[(([136],4),⟨[0,2,3],[],[]⟩)]),
 (139,[(([139],3),⟨[2,3,4,5,6],[],[(5,115,1)]⟩),(([139],8),⟨[2,3,4,5,6,7,8,9],[],[]⟩)]),
 (144,[(([144],10),⟨[0,5],[],[]⟩),(([144],15),⟨[0,5],[],[]⟩)]),
 (145,[(([145],3),⟨[0,1,7,8],[],[]⟩)]),
 (146,[(([146],2),⟨[],[],[]⟩),(([146],3),⟨[1],[],[]⟩)]),
 (147,[(([147],4),⟨[],[],[]⟩),(([147],5),⟨[1,2],[],[]⟩)]),
 (152,[(([152],3),⟨[0,1,2],[],[]⟩)]),
 (155,[(([155],2),⟨[],[],[]⟩),(([155],3),⟨[1],[],[]⟩)]),
 (156,[(([156],2),⟨[0,2,4,5],[],[]⟩),(([156,71],2),⟨[0,2,4,5],[[4,5,7]],[]⟩)]),
 (157,[(([157],2),⟨[1,2,3,6,7],[],[]⟩)]),
 (160,[(([160],3),⟨[0,1,2],[],[]⟩),(([160],5),⟨[0,1,2],[],[]⟩),(([160],17),⟨[2,8,9,10,11,13,14,15,16],[],[]⟩),(([160],18),⟨[2,8,9,10,11,13,14,15,16],[],[]⟩),(([160],21),⟨[2,8,9,10,11,13,14,15],[],[]⟩),(([160],24),⟨[2,8,9,10,14,15,16,17,18],[],[]⟩),(([160],25),⟨[2,8,9,10,14,15,16,17,18],[],[]⟩),(([160],28),⟨[2,8,14,15,17,18],[],[]⟩)]),
 (161,[(([161],5),⟨[0,3],[],[]⟩)]),
 (168,[(([168],4),⟨[0,1,6,7,8],[],[(7,115,1)]⟩),(([168],7),⟨[0,1,6,7,8],[],[]⟩)]),
 (170,[(([170],4),⟨[0,1,5,6,7],[],[]⟩)]),
 (171,[(([171],2),⟨[0,1,5],[],[]⟩)]),
 (172,[(([172],4),⟨[0,1,5,6,7],[],[]⟩)]),
 (174,[(([174],3),⟨[0,3,4],[],[]⟩)]),
 (177,[(([177],3),⟨[],[],[]⟩),(([177],4),⟨[0,1,5],[],[]⟩),(([177],9),⟨[0,1],[],[]⟩),(([177],10),⟨[0,1,5],[],[]⟩),(([177],15),⟨[0,1,5,6,7,8,9,10],[],[]⟩),(([177],21),⟨[0,1,5,6,7,8,9,10],[],[]⟩),(([177],22),⟨[8],[],[]⟩),(([177],23),⟨[0,1,5,6,7,8,9,10],[],[]⟩),(([177],26),⟨[0,1,8],[],[]⟩),(([177],30),⟨[0,1,5,6,7,8,9,10],[],[]⟩),(([177],31),⟨[0,1,8],[],[]⟩)]),
 (182,[(([182],3),⟨[],[],[]⟩),(([182],4),⟨[0,1,8],[],[]⟩),(([182],5),⟨[],[],[]⟩),(([182],6),⟨[0,1,8],[],[]⟩)]),
 (187,[(([187],2),⟨[1,3],[],[]⟩),(([187],3),⟨[1,3,4],[],[]⟩)]),
 (189,[(([189],2),⟨[],[],[]⟩),(([189],3),⟨[0,1,5],[],[]⟩),(([189],4),⟨[],[],[]⟩),(([189],5),⟨[0,1,5],[],[]⟩),(([189],9),⟨[5,10],[],[]⟩),(([189],10),⟨[5,10,11],[],[]⟩),(([189],12),⟨[5,10,11],[],[]⟩)]),
 (196,[(([196],6),⟨[1,4],[],[]⟩),(([196],8),⟨[1,4],[],[]⟩)]),
 (197,[(([197],4),⟨[1],[],[]⟩),(([197],5),⟨[1],[],[]⟩),(([197],6),⟨[1],[],[]⟩),(([197],7),⟨[1],[],[]⟩)]),
 (199,[(([199],1),⟨[0,1,2],[],[]⟩)]),
 (200,[(([200],3),⟨[],[],[]⟩),(([200],4),⟨[0,1,5],[],[]⟩)])]
noncomputable def EE : Env := { P := Tryz.prog, tt, ext := [(162, zsl), (204, z89)], ann, inl := [(68, 110), (71, 116), (71, 156), (89, 128), (89, 129), (89, 130), (89, 131), (92, 128), (92, 129), (92, 131), (128, 166), (128, 167), (129, 166), (156, 71), (157, 181), (168, 170)], mt := [((42, "computus/when.form"), 197), ((43, "computus/when.right"), 206), ((158, "Grow"), 128), ((158, "Len"), 130), ((158, "String"), 131), ((158, "WriteString"), 129), ((158, "strings.copyCheck"), 166), ((158, "strings.grow"), 167), ((225, "computus/when.right"), 228), ((227, "computus/when.right"), 230), ((230, "computus/when.right"), 232)], eqs := [32, 36, 47, 55, 57, 59], same := [185], mnz := [(186, 5)] }
end Dv
