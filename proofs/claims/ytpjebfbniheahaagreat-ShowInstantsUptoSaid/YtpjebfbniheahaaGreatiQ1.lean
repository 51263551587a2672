/- The seat's functions, as equations. -/
import Derived.Test.YtpjebfbniheahaaGreatiL1
import Derived.Test.YtpjebfbniheahaaGreatProg
set_option linter.unusedVariables false
set_option linter.unusedSimpArgs false
namespace Dv
open Go Go.Proofs
def tt:List TI:=[
 ⟨.tuple [],1,0,.undef,[.other]⟩,
 ⟨.func,1,8,.nilfn,[.other]⟩,
 ⟨.int .i64,1,8,(.int .i64 0),[.int .i64]⟩,
 ⟨.int .i64,1,8,(.int .i64 0),[.int .i64]⟩,
 ⟨.bool,1,1,(.bool false),[.bool]⟩,
 ⟨.int .u8,1,1,(.int .u8 0),[.int .u8]⟩,
 ⟨.int .u8,1,1,(.int .u8 0),[.int .u8]⟩,
 ⟨.struct [(0,2),(1,3),(2,4),(3,6)],4,24,(.agg [(.int .i64 0),(.int .i64 0),(.bool false),(.int .u8 0)]),[.int .i64,.int .i64,.bool,.int .u8]⟩,
 ⟨.struct [(0,2),(1,3),(2,4),(3,6)],4,24,(.agg [(.int .i64 0),(.int .i64 0),(.bool false),(.int .u8 0)]),[.int .i64,.int .i64,.bool,.int .u8]⟩,
 ⟨.str,1,16,(.str []),[.str]⟩,
 ⟨.str,1,16,(.str []),[.str]⟩,
 ⟨.str,1,16,(.str []),[.str]⟩,
 ⟨.int .u64,1,8,(.int .u64 0),[.int .u64]⟩,
 ⟨.struct [(0,9),(1,12)],2,24,(.agg [(.str []),(.int .u64 0)]),[.str,.int .u64]⟩,
 ⟨.struct [(0,9),(1,12)],2,24,(.agg [(.str []),(.int .u64 0)]),[.str,.int .u64]⟩,
 ⟨.ptr 237,1,8,.nilp,[.other]⟩,
 ⟨.ptr 240,1,8,.nilp,[.other]⟩,
 ⟨.ptr 247,1,8,.nilp,[.other]⟩,
 ⟨.struct [(0,17)],1,8,(.agg [.nilp]),[.other]⟩,
 ⟨.struct [(0,17)],1,8,(.agg [.nilp]),[.other]⟩,
 ⟨.iface false,1,16,.nili,[.other]⟩,
 ⟨.int .i32,1,4,(.int .i32 0),[.int .i32]⟩,
 ⟨.struct [(0,2),(1,2),(2,4),(3,9)],4,40,(.agg [(.int .i64 0),(.int .i64 0),(.bool false),(.str [])]),[.int .i64,.int .i64,.bool,.str]⟩,
 ⟨.struct [(0,2),(1,2),(2,4),(3,9)],4,40,(.agg [(.int .i64 0),(.int .i64 0),(.bool false),(.str [])]),[.int .i64,.int .i64,.bool,.str]⟩,
 ⟨.slice 23,1,24,.sl0,[.slice 4]⟩,
 ⟨.struct [(0,3),(1,2),(2,2)],3,24,(.agg [(.int .i64 0),(.int .i64 0),(.int .i64 0)]),[.int .i64,.int .i64,.int .i64]⟩,
 ⟨.struct [(0,3),(1,2),(2,2)],3,24,(.agg [(.int .i64 0),(.int .i64 0),(.int .i64 0)]),[.int .i64,.int .i64,.int .i64]⟩,
 ⟨.struct [(0,2),(1,5)],2,16,(.agg [(.int .i64 0),(.int .u8 0)]),[.int .i64,.int .u8]⟩,
 ⟨.struct [(0,2),(1,5)],2,16,(.agg [(.int .i64 0),(.int .u8 0)]),[.int .i64,.int .u8]⟩,
 ⟨.struct [(0,2),(1,26),(4,28),(6,2),(7,9)],8,72,(.agg [(.int .i64 0),(.int .i64 0),(.int .i64 0),(.int .i64 0),(.int .i64 0),(.int .u8 0),(.int .i64 0),(.str [])]),[.int .i64,.int .i64,.int .i64,.int .i64,.int .i64,.int .u8,.int .i64,.str]⟩,
 ⟨.struct [(0,2),(1,26),(4,28),(6,2),(7,9)],8,72,(.agg [(.int .i64 0),(.int .i64 0),(.int .i64 0),(.int .i64 0),(.int .i64 0),(.int .u8 0),(.int .i64 0),(.str [])]),[.int .i64,.int .i64,.int .i64,.int .i64,.int .i64,.int .u8,.int .i64,.str]⟩,
 ⟨.struct [(0,4),(1,2),(2,2),(3,30),(11,30)],19,168,(.agg [(.bool false),(.int .i64 0),(.int .i64 0),(.int .i64 0),(.int .i64 0),(.int .i64 0),(.int .i64 0),(.int .i64 0),(.int .u8 0),(.int .i64 0),(.str []),(.int .i64 0),(.int .i64 0),(.int .i64 0),(.int .i64 0),(.int .i64 0),(.int .u8 0),(.int .i64 0),(.str [])]),[.bool,.int .i64,.int .i64,.int .i64,.int .i64,.int .i64,.int .i64,.int .i64,.int .u8,.int .i64,.str,.int .i64,.int .i64,.int .i64,.int .i64,.int .i64,.int .u8,.int .i64,.str]⟩,
 ⟨.struct [(0,4),(1,2),(2,2),(3,30),(11,30)],19,168,(.agg [(.bool false),(.int .i64 0),(.int .i64 0),(.int .i64 0),(.int .i64 0),(.int .i64 0),(.int .i64 0),(.int .i64 0),(.int .u8 0),(.int .i64 0),(.str []),(.int .i64 0),(.int .i64 0),(.int .i64 0),(.int .i64 0),(.int .i64 0),(.int .u8 0),(.int .i64 0),(.str [])]),[.bool,.int .i64,.int .i64,.int .i64,.int .i64,.int .i64,.int .i64,.int .i64,.int .u8,.int .i64,.str,.int .i64,.int .i64,.int .i64,.int .i64,.int .i64,.int .u8,.int .i64,.str]⟩,
 ⟨.struct [(0,9),(1,23),(5,24),(6,32)],25,248,(.agg [(.str []),(.int .i64 0),(.int .i64 0),(.bool false),(.str []),.sl0,(.bool false),(.int .i64 0),(.int .i64 0),(.int .i64 0),(.int .i64 0),(.int .i64 0),(.int .i64 0),(.int .i64 0),(.int .u8 0),(.int .i64 0),(.str []),(.int .i64 0),(.int .i64 0),(.int .i64 0),(.int .i64 0),(.int .i64 0),(.int .u8 0),(.int .i64 0),(.str [])]),[.str,.int .i64,.int .i64,.bool,.str,.slice 4,.bool,.int .i64,.int .i64,.int .i64,.int .i64,.int .i64,.int .i64,.int .i64,.int .u8,.int .i64,.str,.int .i64,.int .i64,.int .i64,.int .i64,.int .i64,.int .u8,.int .i64,.str]⟩,
 ⟨.struct [(0,9),(1,23),(5,24),(6,32)],25,248,(.agg [(.str []),(.int .i64 0),(.int .i64 0),(.bool false),(.str []),.sl0,(.bool false),(.int .i64 0),(.int .i64 0),(.int .i64 0),(.int .i64 0),(.int .i64 0),(.int .i64 0),(.int .i64 0),(.int .u8 0),(.int .i64 0),(.str []),(.int .i64 0),(.int .i64 0),(.int .i64 0),(.int .i64 0),(.int .i64 0),(.int .u8 0),(.int .i64 0),(.str [])]),[.str,.int .i64,.int .i64,.bool,.str,.slice 4,.bool,.int .i64,.int .i64,.int .i64,.int .i64,.int .i64,.int .i64,.int .i64,.int .u8,.int .i64,.str,.int .i64,.int .i64,.int .i64,.int .i64,.int .i64,.int .u8,.int .i64,.str]⟩,
 ⟨.struct [(0,3),(1,2)],2,16,(.agg [(.int .i64 0),(.int .i64 0)]),[.int .i64,.int .i64]⟩,
 ⟨.struct [(0,3),(1,2)],2,16,(.agg [(.int .i64 0),(.int .i64 0)]),[.int .i64,.int .i64]⟩,
 ⟨.struct [(0,3),(1,3),(2,3)],3,24,(.agg [(.int .i64 0),(.int .i64 0),(.int .i64 0)]),[.int .i64,.int .i64,.int .i64]⟩,
 ⟨.struct [(0,3),(1,3),(2,3)],3,24,(.agg [(.int .i64 0),(.int .i64 0),(.int .i64 0)]),[.int .i64,.int .i64,.int .i64]⟩,
 ⟨.int .i64,1,8,(.int .i64 0),[.int .i64]⟩,
 ⟨.tuple [9,39],1,0,.undef,[.other]⟩,
 ⟨.func,1,8,.nilfn,[.other]⟩,
 ⟨.struct [(0,3),(1,2),(2,2)],3,24,(.agg [(.int .i64 0),(.int .i64 0),(.int .i64 0)]),[.int .i64,.int .i64,.int .i64]⟩,
 ⟨.struct [(0,2),(1,5)],2,16,(.agg [(.int .i64 0),(.int .u8 0)]),[.int .i64,.int .u8]⟩,
 ⟨.struct [(0,2),(1,42),(4,43),(6,2),(7,9)],8,72,(.agg [(.int .i64 0),(.int .i64 0),(.int .i64 0),(.int .i64 0),(.int .i64 0),(.int .u8 0),(.int .i64 0),(.str [])]),[.int .i64,.int .i64,.int .i64,.int .i64,.int .i64,.int .u8,.int .i64,.str]⟩,
 ⟨.struct [(0,2),(1,42),(4,43),(6,2),(7,9)],8,72,(.agg [(.int .i64 0),(.int .i64 0),(.int .i64 0),(.int .i64 0),(.int .i64 0),(.int .u8 0),(.int .i64 0),(.str [])]),[.int .i64,.int .i64,.int .i64,.int .i64,.int .i64,.int .u8,.int .i64,.str]⟩,
 ⟨.struct [(0,4),(1,2),(2,2),(3,45),(11,45)],19,168,(.agg [(.bool false),(.int .i64 0),(.int .i64 0),(.int .i64 0),(.int .i64 0),(.int .i64 0),(.int .i64 0),(.int .i64 0),(.int .u8 0),(.int .i64 0),(.str []),(.int .i64 0),(.int .i64 0),(.int .i64 0),(.int .i64 0),(.int .i64 0),(.int .u8 0),(.int .i64 0),(.str [])]),[.bool,.int .i64,.int .i64,.int .i64,.int .i64,.int .i64,.int .i64,.int .i64,.int .u8,.int .i64,.str,.int .i64,.int .i64,.int .i64,.int .i64,.int .i64,.int .u8,.int .i64,.str]⟩,
 ⟨.struct [(0,4),(1,2),(2,2),(3,45),(11,45)],19,168,(.agg [(.bool false),(.int .i64 0),(.int .i64 0),(.int .i64 0),(.int .i64 0),(.int .i64 0),(.int .i64 0),(.int .i64 0),(.int .u8 0),(.int .i64 0),(.str []),(.int .i64 0),(.int .i64 0),(.int .i64 0),(.int .i64 0),(.int .i64 0),(.int .u8 0),(.int .i64 0),(.str [])]),[.bool,.int .i64,.int .i64,.int .i64,.int .i64,.int .i64,.int .i64,.int .i64,.int .u8,.int .i64,.str,.int .i64,.int .i64,.int .i64,.int .i64,.int .i64,.int .u8,.int .i64,.str]⟩,
 ⟨.struct [(0,9),(1,23),(5,24),(6,47)],25,248,(.agg [(.str []),(.int .i64 0),(.int .i64 0),(.bool false),(.str []),.sl0,(.bool false),(.int .i64 0),(.int .i64 0),(.int .i64 0),(.int .i64 0),(.int .i64 0),(.int .i64 0),(.int .i64 0),(.int .u8 0),(.int .i64 0),(.str []),(.int .i64 0),(.int .i64 0),(.int .i64 0),(.int .i64 0),(.int .i64 0),(.int .u8 0),(.int .i64 0),(.str [])]),[.str,.int .i64,.int .i64,.bool,.str,.slice 4,.bool,.int .i64,.int .i64,.int .i64,.int .i64,.int .i64,.int .i64,.int .i64,.int .u8,.int .i64,.str,.int .i64,.int .i64,.int .i64,.int .i64,.int .i64,.int .u8,.int .i64,.str]⟩,
 ⟨.struct [(0,9),(1,23),(5,24),(6,47)],25,248,(.agg [(.str []),(.int .i64 0),(.int .i64 0),(.bool false),(.str []),.sl0,(.bool false),(.int .i64 0),(.int .i64 0),(.int .i64 0),(.int .i64 0),(.int .i64 0),(.int .i64 0),(.int .i64 0),(.int .u8 0),(.int .i64 0),(.str []),(.int .i64 0),(.int .i64 0),(.int .i64 0),(.int .i64 0),(.int .i64 0),(.int .u8 0),(.int .i64 0),(.str [])]),[.str,.int .i64,.int .i64,.bool,.str,.slice 4,.bool,.int .i64,.int .i64,.int .i64,.int .i64,.int .i64,.int .i64,.int .i64,.int .u8,.int .i64,.str,.int .i64,.int .i64,.int .i64,.int .i64,.int .i64,.int .u8,.int .i64,.str]⟩,
 ⟨.func,1,8,.nilfn,[.other]⟩,
 ⟨.func,1,8,.nilfn,[.other]⟩,
 ⟨.func,1,8,.nilfn,[.other]⟩,
 ⟨.func,1,8,.nilfn,[.other]⟩,
 ⟨.struct [(0,3),(1,2)],2,16,(.agg [(.int .i64 0),(.int .i64 0)]),[.int .i64,.int .i64]⟩,
 ⟨.struct [(0,3),(1,2)],2,16,(.agg [(.int .i64 0),(.int .i64 0)]),[.int .i64,.int .i64]⟩,
 ⟨.struct [(0,3),(1,2),(2,2),(3,2)],4,32,(.agg [(.int .i64 0),(.int .i64 0),(.int .i64 0),(.int .i64 0)]),[.int .i64,.int .i64,.int .i64,.int .i64]⟩,
 ⟨.struct [(0,3),(1,2),(2,2),(3,2)],4,32,(.agg [(.int .i64 0),(.int .i64 0),(.int .i64 0),(.int .i64 0)]),[.int .i64,.int .i64,.int .i64,.int .i64]⟩,
 ⟨.struct [(0,3),(1,4),(2,2),(3,3),(4,9),(5,55),(7,36),(9,57)],13,112,(.agg [(.int .i64 0),(.bool false),(.int .i64 0),(.int .i64 0),(.str []),(.int .i64 0),(.int .i64 0),(.int .i64 0),(.int .i64 0),(.int .i64 0),(.int .i64 0),(.int .i64 0),(.int .i64 0)]),[.int .i64,.bool,.int .i64,.int .i64,.str,.int .i64,.int .i64,.int .i64,.int .i64,.int .i64,.int .i64,.int .i64,.int .i64]⟩,
 ⟨.struct [(0,3),(1,4),(2,2),(3,3),(4,9),(5,55),(7,36),(9,57)],13,112,(.agg [(.int .i64 0),(.bool false),(.int .i64 0),(.int .i64 0),(.str []),(.int .i64 0),(.int .i64 0),(.int .i64 0),(.int .i64 0),(.int .i64 0),(.int .i64 0),(.int .i64 0),(.int .i64 0)]),[.int .i64,.bool,.int .i64,.int .i64,.str,.int .i64,.int .i64,.int .i64,.int .i64,.int .i64,.int .i64,.int .i64,.int .i64]⟩,
 ⟨.func,1,8,.nilfn,[.other]⟩,
 ⟨.func,1,8,.nilfn,[.other]⟩,
 ⟨.func,1,8,.nilfn,[.other]⟩,
 ⟨.func,1,8,.nilfn,[.other]⟩,
 ⟨.tuple [36,39],1,0,.undef,[.other]⟩,
 ⟨.func,1,8,.nilfn,[.other]⟩,
 ⟨.func,1,8,.nilfn,[.other]⟩,
 ⟨.func,1,8,.nilfn,[.other]⟩,
 ⟨.tuple [23,39],1,0,.undef,[.other]⟩,
 ⟨.func,1,8,.nilfn,[.other]⟩,
 ⟨.tuple [9,9],1,0,.undef,[.other]⟩,
 ⟨.func,1,8,.nilfn,[.other]⟩,
 ⟨.func,1,8,.nilfn,[.other]⟩,
 ⟨.func,1,8,.nilfn,[.other]⟩,
 ⟨.func,1,8,.nilfn,[.other]⟩,
 ⟨.func,1,8,.nilfn,[.other]⟩,
 ⟨.func,1,8,.nilfn,[.other]⟩,
 ⟨.func,1,8,.nilfn,[.other]⟩,
 ⟨.func,1,8,.nilfn,[.other]⟩,
 ⟨.func,1,8,.nilfn,[.other]⟩,
 ⟨.func,1,8,.nilfn,[.other]⟩,
 ⟨.func,1,8,.nilfn,[.other]⟩,
 ⟨.arr 2 9,2,32,(.agg [(.str []),(.str [])]),[.str,.str]⟩,
 ⟨.func,1,8,.nilfn,[.other]⟩,
 ⟨.func,1,8,.nilfn,[.other]⟩,
 ⟨.struct [(0,2),(1,3)],2,16,(.agg [(.int .i64 0),(.int .i64 0)]),[.int .i64,.int .i64]⟩,
 ⟨.struct [(0,2),(1,3)],2,16,(.agg [(.int .i64 0),(.int .i64 0)]),[.int .i64,.int .i64]⟩,
 ⟨.func,1,8,.nilfn,[.other]⟩,
 ⟨.func,1,8,.nilfn,[.other]⟩,
 ⟨.func,1,8,.nilfn,[.other]⟩,
 ⟨.struct [(0,2),(1,3)],2,16,(.agg [(.int .i64 0),(.int .i64 0)]),[.int .i64,.int .i64]⟩,
 ⟨.func,1,8,.nilfn,[.other]⟩,
 ⟨.func,1,8,.nilfn,[.other]⟩,
 ⟨.func,1,8,.nilfn,[.other]⟩,
 ⟨.func,1,8,.nilfn,[.other]⟩,
 ⟨.tuple [2,2],1,0,.undef,[.other]⟩,
 ⟨.func,1,8,.nilfn,[.other]⟩,
 ⟨.func,1,8,.nilfn,[.other]⟩,
 ⟨.tuple [55,2,39],1,0,.undef,[.other]⟩,
 ⟨.func,1,8,.nilfn,[.other]⟩,
 ⟨.func,1,8,.nilfn,[.other]⟩,
 ⟨.func,1,8,.nilfn,[.other]⟩,
 ⟨.slice 9,1,24,.sl0,[.slice 1]⟩,
 ⟨.slice 5,1,24,.sl0,[.slice 1]⟩,
 ⟨.func,1,8,.nilfn,[.other]⟩,
 ⟨.func,1,8,.nilfn,[.other]⟩,
 ⟨.func,1,8,.nilfn,[.other]⟩,
 ⟨.func,1,8,.nilfn,[.other]⟩,
 ⟨.func,1,8,.nilfn,[.other]⟩,
 ⟨.func,1,8,.nilfn,[.other]⟩,
 ⟨.func,1,8,.nilfn,[.other]⟩,
 ⟨.func,1,8,.nilfn,[.other]⟩,
 ⟨.func,1,8,.nilfn,[.other]⟩,
 ⟨.func,1,8,.nilfn,[.other]⟩,
 ⟨.func,1,8,.nilfn,[.other]⟩,
 ⟨.int .u64,1,8,(.int .u64 0),[.int .u64]⟩,
 ⟨.arr 32 5,32,32,(.agg [(.int .u8 0),(.int .u8 0),(.int .u8 0),(.int .u8 0),(.int .u8 0),(.int .u8 0),(.int .u8 0),(.int .u8 0),(.int .u8 0),(.int .u8 0),(.int .u8 0),(.int .u8 0),(.int .u8 0),(.int .u8 0),(.int .u8 0),(.int .u8 0),(.int .u8 0),(.int .u8 0),(.int .u8 0),(.int .u8 0),(.int .u8 0),(.int .u8 0),(.int .u8 0),(.int .u8 0),(.int .u8 0),(.int .u8 0),(.int .u8 0),(.int .u8 0),(.int .u8 0),(.int .u8 0),(.int .u8 0),(.int .u8 0)]),[.int .u8,.int .u8,.int .u8,.int .u8,.int .u8,.int .u8,.int .u8,.int .u8,.int .u8,.int .u8,.int .u8,.int .u8,.int .u8,.int .u8,.int .u8,.int .u8,.int .u8,.int .u8,.int .u8,.int .u8,.int .u8,.int .u8,.int .u8,.int .u8,.int .u8,.int .u8,.int .u8,.int .u8,.int .u8,.int .u8,.int .u8,.int .u8]⟩,
 ⟨.func,1,8,.nilfn,[.other]⟩,
 ⟨.tuple [2,39],1,0,.undef,[.other]⟩,
 ⟨.func,1,8,.nilfn,[.other]⟩,
 ⟨.func,1,8,.nilfn,[.other]⟩,
 ⟨.func,1,8,.nilfn,[.other]⟩,
 ⟨.func,1,8,.nilfn,[.other]⟩,
 ⟨.tuple [2,2,2,39],1,0,.undef,[.other]⟩,
 ⟨.func,1,8,.nilfn,[.other]⟩,
 ⟨.func,1,8,.nilfn,[.other]⟩,
 ⟨.func,1,8,.nilfn,[.other]⟩,
 ⟨.func,1,8,.nilfn,[.other]⟩,
 ⟨.func,1,8,.nilfn,[.other]⟩,
 ⟨.func,1,8,.nilfn,[.other]⟩,
 ⟨.func,1,8,.nilfn,[.other]⟩,
 ⟨.tuple [24,39],1,0,.undef,[.other]⟩,
 ⟨.func,1,8,.nilfn,[.other]⟩,
 ⟨.func,1,8,.nilfn,[.other]⟩,
 ⟨.tuple [2,2,2,2,39],1,0,.undef,[.other]⟩,
 ⟨.func,1,8,.nilfn,[.other]⟩,
 ⟨.tuple [9,2],1,0,.undef,[.other]⟩,
 ⟨.func,1,8,.nilfn,[.other]⟩,
 ⟨.tuple [9,9,4],1,0,.undef,[.other]⟩,
 ⟨.func,1,8,.nilfn,[.other]⟩,
 ⟨.func,1,8,.nilfn,[.other]⟩,
 ⟨.func,1,8,.nilfn,[.other]⟩,
 ⟨.ptr 2,1,8,.nilp,[.other]⟩,
 ⟨.func,1,8,.nilfn,[.other]⟩,
 ⟨.func,1,8,.nilfn,[.other]⟩,
 ⟨.func,1,8,.nilfn,[.other]⟩,
 ⟨.func,1,8,.nilfn,[.other]⟩,
 ⟨.tuple [2,9],1,0,.undef,[.other]⟩,
 ⟨.func,1,8,.nilfn,[.other]⟩,
 ⟨.slice 2,1,24,.sl0,[.slice 1]⟩,
 ⟨.func,1,8,.nilfn,[.other]⟩,
 ⟨.func,1,8,.nilfn,[.other]⟩,
 ⟨.func,1,8,.nilfn,[.other]⟩,
 ⟨.func,1,8,.nilfn,[.other]⟩,
 ⟨.int .u64,1,8,(.int .u64 0),[.int .u64]⟩,
 ⟨.tuple [154,154],1,0,.undef,[.other]⟩,
 ⟨.func,1,8,.nilfn,[.other]⟩,
 ⟨.func,1,8,.nilfn,[.other]⟩,
 ⟨.ptr 160,1,8,.nilp,[.other]⟩,
 ⟨.struct [(0,158),(1,103)],2,32,(.agg [.nilp,.sl0]),[.other,.slice 1]⟩,
 ⟨.struct [(0,158),(1,103)],2,32,(.agg [.nilp,.sl0]),[.other,.slice 1]⟩,
 ⟨.func,1,8,.nilfn,[.other]⟩,
 ⟨.iface true,1,16,.nili,[.other]⟩,
 ⟨.iface true,1,16,.nili,[.other]⟩,
 ⟨.tuple [3,163],1,0,.undef,[.other]⟩,
 ⟨.func,1,8,.nilfn,[.other]⟩,
 ⟨.func,1,8,.nilfn,[.other]⟩,
 ⟨.func,1,8,.nilfn,[.other]⟩,
 ⟨.tuple [2,2,2,2],1,0,.undef,[.other]⟩,
 ⟨.func,1,8,.nilfn,[.other]⟩,
 ⟨.arr 20 5,20,20,(.agg [(.int .u8 0),(.int .u8 0),(.int .u8 0),(.int .u8 0),(.int .u8 0),(.int .u8 0),(.int .u8 0),(.int .u8 0),(.int .u8 0),(.int .u8 0),(.int .u8 0),(.int .u8 0),(.int .u8 0),(.int .u8 0),(.int .u8 0),(.int .u8 0),(.int .u8 0),(.int .u8 0),(.int .u8 0),(.int .u8 0)]),[.int .u8,.int .u8,.int .u8,.int .u8,.int .u8,.int .u8,.int .u8,.int .u8,.int .u8,.int .u8,.int .u8,.int .u8,.int .u8,.int .u8,.int .u8,.int .u8,.int .u8,.int .u8,.int .u8,.int .u8]⟩,
 ⟨.func,1,8,.nilfn,[.other]⟩,
 ⟨.slice 115,1,24,.sl0,[.slice 1]⟩,
 ⟨.struct [(0,4),(1,172)],2,32,(.agg [(.bool false),.sl0]),[.bool,.slice 1]⟩,
 ⟨.struct [(0,4),(1,172)],2,32,(.agg [(.bool false),.sl0]),[.bool,.slice 1]⟩,
 ⟨.func,1,8,.nilfn,[.other]⟩,
 ⟨.func,1,8,.nilfn,[.other]⟩,
 ⟨.func,1,8,.nilfn,[.other]⟩,
 ⟨.func,1,8,.nilfn,[.other]⟩,
 ⟨.func,1,8,.nilfn,[.other]⟩,
 ⟨.func,1,8,.nilfn,[.other]⟩,
 ⟨.func,1,8,.nilfn,[.other]⟩,
 ⟨.tuple [2,2,2],1,0,.undef,[.other]⟩,
 ⟨.func,1,8,.nilfn,[.other]⟩,
 ⟨.func,1,8,.nilfn,[.other]⟩,
 ⟨.func,1,8,.nilfn,[.other]⟩,
 ⟨.arr 2 115,2,16,(.agg [(.int .u64 0),(.int .u64 0)]),[.int .u64,.int .u64]⟩,
 ⟨.func,1,8,.nilfn,[.other]⟩,
 ⟨.func,1,8,.nilfn,[.other]⟩,
 ⟨.tuple [115,115],1,0,.undef,[.other]⟩,
 ⟨.func,1,8,.nilfn,[.other]⟩,
 ⟨.func,1,8,.nilfn,[.other]⟩,
 ⟨.int .u32,1,4,(.int .u32 0),[.int .u32]⟩,
 ⟨.tuple [192,192],1,0,.undef,[.other]⟩,
 ⟨.func,1,8,.nilfn,[.other]⟩,
 ⟨.func,1,8,.nilfn,[.other]⟩,
 ⟨.ptr 5,1,8,.nilp,[.other]⟩,
 ⟨.tuple [172,172],1,0,.undef,[.other]⟩,
 ⟨.func,1,8,.nilfn,[.other]⟩,
 ⟨.func,1,8,.nilfn,[.other]⟩,
 ⟨.func,1,8,.nilfn,[.other]⟩,
 ⟨.func,1,8,.nilfn,[.other]⟩,
 ⟨.func,1,8,.nilfn,[.other]⟩,
 ⟨.func,1,8,.nilfn,[.other]⟩,
 ⟨.func,1,8,.nilfn,[.other]⟩,
 ⟨.func,1,8,.nilfn,[.other]⟩,
 ⟨.func,1,8,.nilfn,[.other]⟩,
 ⟨.map 4 45,1,8,.nilm,[.other]⟩,
 ⟨.func,1,8,.nilfn,[.other]⟩,
 ⟨.func,1,8,.nilfn,[.other]⟩,
 ⟨.func,1,8,.nilfn,[.other]⟩,
 ⟨.func,1,8,.nilfn,[.other]⟩,
 ⟨.uptr,1,8,.nilp,[.other]⟩,
 ⟨.func,1,8,.nilfn,[.other]⟩,
 ⟨.func,1,8,.nilfn,[.other]⟩,
 ⟨.func,1,8,.nilfn,[.other]⟩,
 ⟨.func,1,8,.nilfn,[.other]⟩,
 ⟨.func,1,8,.nilfn,[.other]⟩,
 ⟨.func,1,8,.nilfn,[.other]⟩,
 ⟨.func,1,8,.nilfn,[.other]⟩,
 ⟨.func,1,8,.nilfn,[.other]⟩,
 ⟨.func,1,8,.nilfn,[.other]⟩,
 ⟨.iface true,1,16,.nili,[.other]⟩,
 ⟨.iface true,1,16,.nili,[.other]⟩,
 ⟨.func,1,8,.nilfn,[.other]⟩,
 ⟨.int .i64,1,8,(.int .i64 0),[.int .i64]⟩,
 ⟨.tuple [225,4],1,0,.undef,[.other]⟩,
 ⟨.int .i64,1,8,(.int .i64 0),[.int .i64]⟩,
 ⟨.tuple [227,4],1,0,.undef,[.other]⟩,
 ⟨.struct [(0,2),(1,2),(2,2)],3,24,(.agg [(.int .i64 0),(.int .i64 0),(.int .i64 0)]),[.int .i64,.int .i64,.int .i64]⟩,
 ⟨.struct [(0,2),(1,2),(2,2)],3,24,(.agg [(.int .i64 0),(.int .i64 0),(.int .i64 0)]),[.int .i64,.int .i64,.int .i64]⟩,
 ⟨.func,1,8,.nilfn,[.other]⟩,
 ⟨.arr 7 9,7,112,(.agg [(.str []),(.str []),(.str []),(.str []),(.str []),(.str []),(.str [])]),[.str,.str,.str,.str,.str,.str,.str]⟩,
 ⟨.func,1,8,.nilfn,[.other]⟩,
 ⟨.arr 13 2,13,104,(.agg [(.int .i64 0),(.int .i64 0),(.int .i64 0),(.int .i64 0),(.int .i64 0),(.int .i64 0),(.int .i64 0),(.int .i64 0),(.int .i64 0),(.int .i64 0),(.int .i64 0),(.int .i64 0),(.int .i64 0)]),[.int .i64,.int .i64,.int .i64,.int .i64,.int .i64,.int .i64,.int .i64,.int .i64,.int .i64,.int .i64,.int .i64,.int .i64,.int .i64]⟩,
 ⟨.ptr 250,1,8,.nilp,[.other]⟩,
 ⟨.struct [(0,17),(1,17),(2,17),(3,9)],4,40,(.agg [.nilp,.nilp,.nilp,(.str [])]),[.other,.other,.other,.str]⟩,
 ⟨.struct [(0,17),(1,17),(2,17),(3,9)],4,40,(.agg [.nilp,.nilp,.nilp,(.str [])]),[.other,.other,.other,.str]⟩,
 ⟨.arr 0 16,0,0,(.agg []),[]⟩,
 ⟨.struct [(0,238)],0,0,(.agg []),[]⟩,
 ⟨.struct [(0,238)],0,0,(.agg []),[]⟩,
 ⟨.int .u8,1,1,(.int .u8 0),[.int .u8]⟩,
 ⟨.int .u8,1,1,(.int .u8 0),[.int .u8]⟩,
 ⟨.func,1,8,.nilfn,[.other]⟩,
 ⟨.int .i32,1,4,(.int .i32 0),[.int .i32]⟩,
 ⟨.int .i32,1,4,(.int .i32 0),[.int .i32]⟩,
 ⟨.struct [(0,12),(1,12),(2,192),(3,241),(4,5),(5,5),(6,242),(7,243),(8,196),(9,244),(10,245)],11,48,(.agg [(.int .u64 0),(.int .u64 0),(.int .u32 0),(.int .u8 0),(.int .u8 0),(.int .u8 0),(.int .u8 0),.nilfn,.nilp,(.int .i32 0),(.int .i32 0)]),[.int .u64,.int .u64,.int .u32,.int .u8,.int .u8,.int .u8,.int .u8,.other,.other,.int .i32,.int .i32]⟩,
 ⟨.struct [(0,12),(1,12),(2,192),(3,241),(4,5),(5,5),(6,242),(7,243),(8,196),(9,244),(10,245)],11,48,(.agg [(.int .u64 0),(.int .u64 0),(.int .u32 0),(.int .u8 0),(.int .u8 0),(.int .u8 0),(.int .u8 0),.nilfn,.nilp,(.int .i32 0),(.int .i32 0)]),[.int .u64,.int .u64,.int .u32,.int .u8,.int .u8,.int .u8,.int .u8,.other,.other,.int .i32,.int .i32]⟩,
 ⟨.func,1,8,.nilfn,[.other]⟩,
 ⟨.struct [(0,9)],1,16,(.agg [(.str [])]),[.str]⟩,
 ⟨.struct [(0,9)],1,16,(.agg [(.str [])]),[.str]⟩,
 ⟨.arr 2 2,2,16,(.agg [(.int .i64 0),(.int .i64 0)]),[.int .i64,.int .i64]⟩]
abbrev ty_LJ:Nat:=0
abbrev ty_funcLJ:Nat:=1
abbrev z2d:Nat:=2
abbrev zpr:Nat:=3
abbrev zyx:Nat:=4
abbrev zfk:Nat:=5
abbrev z175:Nat:=6
abbrev zml:Nat:=7
abbrev z16z:Nat:=8
abbrev zek:Nat:=9
abbrev z16y:Nat:=10
abbrev z17j:Nat:=11
abbrev ty_uintptr:Nat:=12
abbrev zs7:Nat:=13
abbrev zxc:Nat:=14
abbrev zv8:Nat:=15
abbrev z11h:Nat:=16
abbrev ty_P_abi_Type:Nat:=17
abbrev z11o:Nat:=18
abbrev zyu:Nat:=19
abbrev ty_interface_:Nat:=20
abbrev ty_int32:Nat:=21
abbrev zmy:Nat:=22
abbrev zo:Nat:=23
abbrev ze4:Nat:=24
abbrev zpq:Nat:=25
abbrev z3v:Nat:=26
abbrev zv0:Nat:=27
abbrev zel:Nat:=28
abbrev zmt:Nat:=29
abbrev z33:Nat:=30
abbrev zmw:Nat:=31
abbrev z1m:Nat:=32
abbrev zmr:Nat:=33
abbrev zr:Nat:=34
abbrev z11b:Nat:=35
abbrev z93:Nat:=36
abbrev zoz:Nat:=37
abbrev z6g:Nat:=38
abbrev ty_api_Errno:Nat:=39
abbrev z17p:Nat:=40
abbrev zo0:Nat:=41
abbrev z1fj:Nat:=42
abbrev z12q:Nat:=43
abbrev zms:Nat:=44
abbrev ty_comp_Half:Nat:=45
abbrev zmx:Nat:=46
abbrev zkm:Nat:=47
abbrev zmq:Nat:=48
abbrev zi9:Nat:=49
abbrev zkk:Nat:=50
abbrev znz:Nat:=51
abbrev ty_funcLJ_bool:Nat:=52
abbrev znh:Nat:=53
abbrev z11c:Nat:=54
abbrev z1ay:Nat:=55
abbrev zmv:Nat:=56
abbrev zqw:Nat:=57
abbrev zmu:Nat:=58
abbrev ty_api_Value:Nat:=59
abbrev znx:Nat:=60
abbrev znw:Nat:=61
abbrev z14i:Nat:=62
abbrev znv:Nat:=63
abbrev z12u:Nat:=64
abbrev znp:Nat:=65
abbrev z14j:Nat:=66
abbrev z1av:Nat:=67
abbrev z14o:Nat:=68
abbrev znq:Nat:=69
abbrev z1cy:Nat:=70
abbrev zo1:Nat:=71
abbrev z14l:Nat:=72
abbrev zsp:Nat:=73
abbrev zp0:Nat:=74
abbrev z14k:Nat:=75
abbrev zsq:Nat:=76
abbrev znf:Nat:=77
abbrev zng:Nat:=78
abbrev zo5:Nat:=79
abbrev zo6:Nat:=80
abbrev z12s:Nat:=81
abbrev ty_A2_string:Nat:=82
abbrev z1fm:Nat:=83
abbrev z14f:Nat:=84
abbrev zxz:Nat:=85
abbrev ty_dec_Dec:Nat:=86
abbrev zo2:Nat:=87
abbrev z17m:Nat:=88
abbrev zsr:Nat:=89
abbrev z1ag:Nat:=90
abbrev z173:Nat:=91
abbrev z172:Nat:=92
abbrev zny:Nat:=93
abbrev zkl:Nat:=94
abbrev z1hc:Nat:=95
abbrev zur:Nat:=96
abbrev zno:Nat:=97
abbrev zxh:Nat:=98
abbrev zo4:Nat:=99
abbrev zo7:Nat:=100
abbrev zxe:Nat:=101
abbrev ty_S_string:Nat:=102
abbrev ty_S_uint8:Nat:=103
abbrev zy2:Nat:=104
abbrev z1aw:Nat:=105
abbrev z171:Nat:=106
abbrev z1af:Nat:=107
abbrev znj:Nat:=108
abbrev zne:Nat:=109
abbrev znb:Nat:=110
abbrev z12t:Nat:=111
abbrev z11q:Nat:=112
abbrev znt:Nat:=113
abbrev z17n:Nat:=114
abbrev z7y:Nat:=115
abbrev ty_A32_uint8:Nat:=116
abbrev zv6:Nat:=117
abbrev z1ak:Nat:=118
abbrev zuo:Nat:=119
abbrev zna:Nat:=120
abbrev zqu:Nat:=121
abbrev zsb:Nat:=122
abbrev zus:Nat:=123
abbrev zo8:Nat:=124
abbrev z11f:Nat:=125
abbrev z170:Nat:=126
abbrev zv7:Nat:=127
abbrev z11d:Nat:=128
abbrev znd:Nat:=129
abbrev ty_funcLJ_int64:Nat:=130
abbrev z11r:Nat:=131
abbrev znk:Nat:=132
abbrev zo3:Nat:=133
abbrev zoa:Nat:=134
abbrev znc:Nat:=135
abbrev z1fn:Nat:=136
abbrev zxf:Nat:=137
abbrev z14n:Nat:=138
abbrev zn5:Nat:=139
abbrev zy1:Nat:=140
abbrev zps:Nat:=141
abbrev ty_P_int64:Nat:=142
abbrev zsc:Nat:=143
abbrev zy3:Nat:=144
abbrev zvx:Nat:=145
abbrev zns:Nat:=146
abbrev z1fo:Nat:=147
abbrev zxg:Nat:=148
abbrev ty_S_int64:Nat:=149
abbrev zs8:Nat:=150
abbrev zn8:Nat:=151
abbrev zv4:Nat:=152
abbrev z1fl:Nat:=153
abbrev ty_uint:Nat:=154
abbrev ty_Luint_uintJ:Nat:=155
abbrev zvy:Nat:=156
abbrev zyv:Nat:=157
abbrev z1ah:Nat:=158
abbrev zmn:Nat:=159
abbrev zfl:Nat:=160
abbrev ty_funcLintJ:Nat:=161
abbrev zy0:Nat:=162
abbrev ty_error:Nat:=163
abbrev ty_Lint_errorJ:Nat:=164
abbrev zyw:Nat:=165
abbrev ty_funcLJ_int:Nat:=166
abbrev z1hb:Nat:=167
abbrev zy4:Nat:=168
abbrev zn3:Nat:=169
abbrev zw3:Nat:=170
abbrev znn:Nat:=171
abbrev ty_S_uint64:Nat:=172
abbrev zvw:Nat:=173
abbrev zj:Nat:=174
abbrev znl:Nat:=175
abbrev zso:Nat:=176
abbrev znm:Nat:=177
abbrev z11g:Nat:=178
abbrev zun:Nat:=179
abbrev zuq:Nat:=180
abbrev zv2:Nat:=181
abbrev z176:Nat:=182
abbrev zsa:Nat:=183
abbrev z14h:Nat:=184
abbrev znr:Nat:=185
abbrev z17q:Nat:=186
abbrev zvz:Nat:=187
abbrev z17l:Nat:=188
abbrev z1cw:Nat:=189
abbrev zn1:Nat:=190
abbrev znu:Nat:=191
abbrev ty_uint32:Nat:=192
abbrev z1cx:Nat:=193
abbrev zn4:Nat:=194
abbrev zn2:Nat:=195
abbrev ty_P_uint8:Nat:=196
abbrev z177:Nat:=197
abbrev zo9:Nat:=198
abbrev z174:Nat:=199
abbrev zqv:Nat:=200
abbrev zw2:Nat:=201
abbrev zup:Nat:=202
abbrev zni:Nat:=203
abbrev z11e:Nat:=204
abbrev zs9:Nat:=205
abbrev z14g:Nat:=206
abbrev z17k:Nat:=207
abbrev zp1:Nat:=208
abbrev zn6:Nat:=209
abbrev zn7:Nat:=210
abbrev z1au:Nat:=211
abbrev z1fk:Nat:=212
abbrev zn0:Nat:=213
abbrev z1ae:Nat:=214
abbrev zw0:Nat:=215
abbrev zw1:Nat:=216
abbrev zn9:Nat:=217
abbrev z11p:Nat:=218
abbrev z1ha:Nat:=219
abbrev zqs:Nat:=220
abbrev zqt:Nat:=221
abbrev zv1:Nat:=222
abbrev ty_when_form:Nat:=223
abbrev z1ax:Nat:=224
abbrev z9n:Nat:=225
abbrev z1ai:Nat:=226
abbrev z9o:Nat:=227
abbrev z1aj:Nat:=228
abbrev zmm:Nat:=229
abbrev z4h:Nat:=230
abbrev zv3:Nat:=231
abbrev ty_A7_string:Nat:=232
abbrev zv5:Nat:=233
abbrev z17r:Nat:=234
abbrev z14m:Nat:=235
abbrev zmo:Nat:=236
abbrev zxd:Nat:=237
abbrev zxi:Nat:=238
abbrev zkj:Nat:=239
abbrev z12r:Nat:=240
abbrev ty_abi_TFlag:Nat:=241
abbrev ty_abi_Kind:Nat:=242
abbrev zmz:Nat:=243
abbrev ty_abi_NameOff:Nat:=244
abbrev ty_abi_TypeOff:Nat:=245
abbrev zmp:Nat:=246
abbrev ty_abi_Type:Nat:=247
abbrev z1cv:Nat:=248
abbrev z1at:Nat:=249
abbrev z17o:Nat:=250
abbrev ty_A2_int64:Nat:=251
abbrev fn_main_main:Nat:=0
abbrev z5y:Nat:=3
abbrev z10m:Nat:=4
abbrev z13l:Nat:=5
abbrev zb0:Nat:=6
abbrev z40:Nat:=7
abbrev zaz:Nat:=8
abbrev fn_show_Value:Nat:=9
abbrev z179:Nat:=10
abbrev z1es:Nat:=11
abbrev z10l:Nat:=12
abbrev zq6:Nat:=13
abbrev zto:Nat:=14
abbrev zjk:Nat:=15
abbrev zln:Nat:=16
abbrev zqa:Nat:=17
abbrev zg3:Nat:=18
abbrev z58:Nat:=19
abbrev zcq:Nat:=20
abbrev z6q:Nat:=21
abbrev zap:Nat:=22
abbrev z14:Nat:=23
abbrev zdk:Nat:=24
abbrev z2p:Nat:=25
abbrev z2h:Nat:=26
abbrev za2:Nat:=27
abbrev z16:Nat:=28
abbrev zg5:Nat:=29
abbrev zcg:Nat:=30
abbrev z4i:Nat:=31
abbrev fn_show_truth:Nat:=32
abbrev fn_dec_Text:Nat:=33
abbrev fn_show_Stamp:Nat:=34
abbrev z17:Nat:=35
abbrev z19k:Nat:=36
abbrev z19j:Nat:=37
abbrev z17a:Nat:=38
abbrev z19i:Nat:=39
abbrev zwu:Nat:=40
abbrev zhf:Nat:=41
abbrev ztn:Nat:=42
abbrev zaq:Nat:=43
abbrev z17b:Nat:=44
abbrev z10e:Nat:=45
abbrev zwr:Nat:=46
abbrev zq5:Nat:=47
abbrev z13j:Nat:=48
abbrev z19e:Nat:=49
abbrev zg4:Nat:=50
abbrev ztv:Nat:=51
abbrev za1:Nat:=52
abbrev zww:Nat:=53
abbrev zax:Nat:=54
abbrev za3:Nat:=55
abbrev zdm:Nat:=56
abbrev z3o:Nat:=57
abbrev z5m:Nat:=58
abbrev zdl:Nat:=59
abbrev z2x:Nat:=60
abbrev zcj:Nat:=61
abbrev zew:Nat:=62
abbrev z35:Nat:=63
abbrev zck:Nat:=64
abbrev z3m:Nat:=65
abbrev z10f:Nat:=66
abbrev z10g:Nat:=67
abbrev z2m:Nat:=68
abbrev zq2:Nat:=69
abbrev zqe:Nat:=70
abbrev zhe:Nat:=71
abbrev fn_dec_Right:Nat:=72
abbrev z17c:Nat:=73
abbrev z1al:Nat:=74
abbrev z1am:Nat:=75
abbrev z12f:Nat:=76
abbrev ztt:Nat:=77
abbrev zwt:Nat:=78
abbrev z13n:Nat:=79
abbrev zq7:Nat:=80
abbrev z16g:Nat:=81
abbrev z13q:Nat:=82
abbrev z13p:Nat:=83
abbrev z13o:Nat:=84
abbrev zin:Nat:=85
abbrev zhd:Nat:=86
abbrev zwv:Nat:=87
abbrev zqc:Nat:=88
abbrev zv:Nat:=89
abbrev zlq:Nat:=90
abbrev ztu:Nat:=91
abbrev z1q:Nat:=92
abbrev z6r:Nat:=93
abbrev zds:Nat:=94
abbrev zdr:Nat:=95
abbrev z27:Nat:=96
abbrev zaw:Nat:=97
abbrev z25:Nat:=98
abbrev zas:Nat:=99
abbrev zdq:Nat:=100
abbrev zci:Nat:=101
abbrev zar:Nat:=102
abbrev z2r:Nat:=103
abbrev z1d:Nat:=104
abbrev zq8:Nat:=105
abbrev zq4:Nat:=106
abbrev ztw:Nat:=107
abbrev zqb:Nat:=108
abbrev zlo:Nat:=109
abbrev fn_show_unit:Nat:=110
abbrev zts:Nat:=111
abbrev zqj:Nat:=112
abbrev zty:Nat:=113
abbrev zu0:Nat:=114
abbrev ztr:Nat:=115
abbrev fn_foot_about:Nat:=116
abbrev z19g:Nat:=117
abbrev z19h:Nat:=118
abbrev z19f:Nat:=119
abbrev z19l:Nat:=120
abbrev z13m:Nat:=121
abbrev zch:Nat:=122
abbrev ztm:Nat:=123
abbrev zbx:Nat:=124
abbrev zce:Nat:=125
abbrev z10n:Nat:=126
abbrev zdj:Nat:=127
abbrev z16f:Nat:=128
abbrev zwq:Nat:=129
abbrev z178:Nat:=130
abbrev z12e:Nat:=131
abbrev zqf:Nat:=132
abbrev z3t:Nat:=133
abbrev z1y:Nat:=134
abbrev z4k:Nat:=135
abbrev z5n:Nat:=136
abbrev zcp:Nat:=137
abbrev zay:Nat:=138
abbrev z1h:Nat:=139
abbrev zdp:Nat:=140
abbrev zdo:Nat:=141
abbrev zdn:Nat:=142
abbrev zcl:Nat:=143
abbrev z3n:Nat:=144
abbrev z50:Nat:=145
abbrev z2q:Nat:=146
abbrev z36:Nat:=147
abbrev zdt:Nat:=148
abbrev zg2:Nat:=149
abbrev zq9:Nat:=150
abbrev zcf:Nat:=151
abbrev zg6:Nat:=152
abbrev zwx:Nat:=153
abbrev zqg:Nat:=154
abbrev zev:Nat:=155
abbrev z10j:Nat:=156
abbrev ze9:Nat:=157
abbrev zqd:Nat:=158
abbrev z10i:Nat:=159
abbrev z79:Nat:=160
abbrev ze8:Nat:=161
abbrev zu2:Nat:=162
abbrev fn_bits_Mul32:Nat:=163
abbrev zu1:Nat:=164
abbrev z9b:Nat:=165
abbrev zye:Nat:=166
abbrev z16e:Nat:=167
abbrev z1v:Nat:=168
abbrev zco:Nat:=169
abbrev z52:Nat:=170
abbrev z51:Nat:=171
abbrev z4j:Nat:=172
abbrev zcm:Nat:=173
abbrev z45:Nat:=174
abbrev zau:Nat:=175
abbrev zat:Nat:=176
abbrev z3l:Nat:=177
abbrev z87:Nat:=178
abbrev zqh:Nat:=179
abbrev ztq:Nat:=180
abbrev fn_foot_halves:Nat:=181
abbrev z8p:Nat:=182
abbrev zlp:Nat:=183
abbrev zju:Nat:=184
abbrev fn_abi_NoEscape:Nat:=185
abbrev z19m:Nat:=186
abbrev z26:Nat:=187
abbrev z9d:Nat:=188
abbrev z12:Nat:=189
abbrev z9c:Nat:=190
abbrev z9a:Nat:=191
abbrev z17d:Nat:=192
abbrev z1et:Nat:=193
abbrev zut:Nat:=194
abbrev zq3:Nat:=195
abbrev z86:Nat:=196
abbrev z3z:Nat:=197
abbrev ztz:Nat:=198
abbrev zop:Nat:=199
abbrev zcr:Nat:=200
abbrev fn_bits_Len64:Nat:=201
abbrev zcn:Nat:=202
abbrev z9e:Nat:=203
abbrev z7k:Nat:=204
abbrev z12g:Nat:=205
abbrev zjj:Nat:=206
abbrev zqi:Nat:=207
abbrev zjn:Nat:=208
abbrev ztx:Nat:=209
abbrev zav:Nat:=210
abbrev zyg:Nat:=211
abbrev zrs:Nat:=212
abbrev zyf:Nat:=213
abbrev zrq:Nat:=214
abbrev z10h:Nat:=215
abbrev zsd:Nat:=216
abbrev zrr:Nat:=217
abbrev zjl:Nat:=218
abbrev zrt:Nat:=219
abbrev zjm:Nat:=220
abbrev zws:Nat:=221
abbrev zp6:Nat:=222
abbrev z1gy:Nat:=223
abbrev ztp:Nat:=224
abbrev zkg:Nat:=225
abbrev z1hd:Nat:=226
abbrev z13k:Nat:=227
abbrev zet:Nat:=228
abbrev z10d:Nat:=229
abbrev zeu:Nat:=230
abbrev zlm:Nat:=231
abbrev zg1:Nat:=232
abbrev z10k:Nat:=233
abbrev z1eu:Nat:=234
def ann:List (Nat×List ((List Nat×Nat)×Dir)):=[
 (7,[(([7],2),⟨[],[],[]⟩),(([7],3),⟨[3,4,5],[],[]⟩)]),
 (18,[(([18],3),⟨[3,6,7,8],[],[(3,5,1)]⟩)]),
 (19,[(([19],4),⟨[0,4],[],[]⟩),(([19],5),⟨[],[],[]⟩),(([19],6),⟨[0,4],[],[]⟩)]),
 (23,[(([23],2),⟨[],[],[]⟩),(([23],3),⟨[1],[],[]⟩),(([23],5),⟨[1,3,4],[],[]⟩),(([23],9),⟨[],[],[]⟩),(([23],10),⟨[1,4,5],[],[]⟩)]),
 (25,[(([25],2),⟨[4],[],[]⟩),(([25],3),⟨[2,3,4],[],[]⟩)]),
 (26,[(([26],2),⟨[4],[],[]⟩),(([26],3),⟨[2,3,4],[],[]⟩)]),
 (28,[(([28],2),⟨[],[],[]⟩),(([28],3),⟨[0],[],[]⟩),(([28],7),⟨[0,4],[],[]⟩),(([28],10),⟨[0,4],[],[]⟩)]),
 (29,[(([29],3),⟨[2,3],[],[]⟩)]),
 (30,[(([30],2),⟨[],[],[]⟩),(([30],3),⟨[2,3],[],[]⟩)]),
 (31,[(([31],2),⟨[],[],[]⟩),(([31],3),⟨[1],[],[]⟩),(([31],4),⟨[1,27,28,29],[],[]⟩),(([31],7),⟨[],[],[]⟩),(([31],8),⟨[1,27,28,29],[],[]⟩)]),
 (35,[(([35],4),⟨[0,3],[],[]⟩),(([35],5),⟨[0,3,4],[],[(4,5,1)]⟩),(([35],11),⟨[4],[],[]⟩),(([35],13),⟨[4,5,6],[],[(5,5,1)]⟩)]),
 (50,[(([50],5),⟨[3,6,7,8,10],[],[]⟩)]),
 (52,[(([52],3),⟨[0,5,8,9,10],[],[(5,9,1)]⟩)]),
 (57,[(([57],4),⟨[3],[],[]⟩)]),
 (58,[(([58],3),⟨[1,4,6,7,8],[],[]⟩)]),
 (60,[(([60],6),⟨[1,2,4],[],[]⟩),(([60],7),⟨[1,2,4],[],[]⟩),(([60],9),⟨[1,2,4,6,7],[],[]⟩)]),
 (63,[(([63],6),⟨[3,6,7,8,10],[],[]⟩),(([63],7),⟨[3,7,8,10,11],[],[]⟩)]),
 (65,[(([65],2),⟨[0],[],[]⟩),(([65],3),⟨[0],[],[]⟩)]),
 (68,[(([68],3),⟨[1,3,4],[],[]⟩),(([68],4),⟨[1,3,4,5],[],[]⟩),(([68],5),⟨[1,3,4,5,6],[],[]⟩),(([68],7),⟨[1,4,5,6],[],[]⟩),(([68],8),⟨[1,3,4,5,6,7],[],[]⟩)]),
 (85,[(([85],4),⟨[10,11,12],[],[]⟩)]),
 (86,[(([86],2),⟨[2,3,4],[],[]⟩),(([86],4),⟨[2,3,4],[],[]⟩)]),
 (89,[(([89],8),⟨[0,1],[],[]⟩),(([89],10),⟨[0,6],[],[]⟩),(([89],11),⟨[0,6],[],[]⟩),(([89],20),⟨[0,7],[],[]⟩),(([89],21),⟨[7],[],[]⟩),(([89],22),⟨[0,7],[],[]⟩),(([89],23),⟨[7],[],[]⟩),(([89],24),⟨[0,7],[],[]⟩),(([89],25),⟨[7],[],[]⟩),(([89],26),⟨[0,7],[],[]⟩),(([89],27),⟨[7],[],[]⟩),(([89],28),⟨[0,7],[],[]⟩),(([89],29),⟨[7],[],[]⟩),(([89],30),⟨[0,7],[],[]⟩),(([89],35),⟨[0,7,8],[],[]⟩),(([89],37),⟨[0,7,8,9],[],[]⟩),(([89],38),⟨[7,8,9],[],[]⟩),(([89],39),⟨[7,8,9],[],[]⟩)]),
 (92,[(([92],10),⟨[0,1,5],[],[]⟩),(([92],11),⟨[0,1,5],[],[]⟩),(([92],12),⟨[0,1,5,39,40,41],[],[]⟩),(([92],16),⟨[0,1,5,7,39,40,41],[],[]⟩),(([92],20),⟨[0,1,8],[],[]⟩),(([92],21),⟨[0,1,8],[],[]⟩),(([92],22),⟨[1,8,63,64,65],[],[]⟩)]),
 (93,[(([93],3),⟨[0,1,5,6],[],[]⟩),(([93],5),⟨[0,1,5,6],[],[]⟩)]),
 (96,[(([96],5),⟨[6,7],[],[]⟩),(([96],8),⟨[6,7,8],[],[]⟩),(([96],12),⟨[6,7,9],[],[]⟩)]),
 (98,[(([98],5),⟨[],[],[]⟩),(([98],6),⟨[2,6],[],[]⟩),(([98],8),⟨[2,6,7,8],[],[(7,23,4)]⟩)]),
 (103,[(([103],2),⟨[],[],[]⟩),(([103],3),⟨[0],[],[]⟩)]),
 (104,[(([104],2),⟨[],[],[]⟩),(([104],3),⟨[0],[],[]⟩),(([104],4),⟨[3],[],[]⟩)]),
 (122,[(([122],9),⟨[10,11],[],[]⟩),(([122],10),⟨[11],[],[]⟩)]),
 (124,[(([124],2),⟨[1,5,6],[],[]⟩)]),
 (133,[(([133],2),⟨[],[],[]⟩),(([133],3),⟨[0],[],[]⟩),(([133],6),⟨[3,4,17],[],[]⟩)]),
 (134,[(([134],2),⟨[1,4],[],[]⟩),(([134],8),⟨[5],[],[]⟩),(([134],9),⟨[1,5],[],[]⟩)]),
 (135,[(([135],3),⟨[2,3,4,5],[],[]⟩)]),
 (136,[(([136],4),⟨[0,2,3],[],[]⟩)]),
 (139,[(([139],3),⟨[2,3,4,5,6],[],[(5,115,1)]⟩),(([139],8),⟨[2,3,4,5,6,7,8,9],[],[]⟩)]),
 (144,[(([144],10),⟨[0,5],[],[]⟩),(([144],15),⟨[0,5],[],[]⟩)]),
 (145,[(([145],3),⟨[0,1,7,8],[],[]⟩)]),
 (146,[(([146],2),⟨[],[],[]⟩),(([146],3),⟨[1],[],[]⟩)]),
 (147,[(([147],4),⟨[],[],[]⟩),(([147],5),⟨[1,2],[],[]⟩)]),
 (152,[(([152],3),⟨[0,1,2],[],[]⟩)]),
 (155,[(([155],2),⟨[],[],[]⟩),(([155],3),⟨[1],[],[]⟩)]),
 (156,[(([156],2),⟨[0,2,4,5],[],[]⟩),(([156,71],2),⟨[0,2,4,5],[[4,5,7]],[]⟩)]),
 (157,[(([157],2),⟨[1,2,3,6,7],[],[]⟩)]),
 (160,[(([160],3),⟨[0,1,2],[],[]⟩),(([160],5),⟨[0,1,2],[],[]⟩),(([160],17),⟨[2,8,9,10,11,13,14,15,16],[],[]⟩),(([160],18),⟨[2,8,9,10,11,13,14,15,16],[],[]⟩),(([160],21),⟨[2,8,9,10,11,13,14,15],[],[]⟩),(([160],24),⟨[2,8,9,10,14,15,16,17,18],[],[]⟩),(([160],25),⟨[2,8,9,10,14,15,16,17,18],[],[]⟩),(([160],28),⟨[2,8,14,15,17,18],[],[]⟩)]),
 (161,[(([161],5),⟨[0,3],[],[]⟩)]),
 (168,[(([168],4),⟨[0,1,6,7,8],[],[(7,115,1)]⟩),(([168],7),⟨[0,1,6,7,8],[],[]⟩)]),
 (170,[(([170],4),⟨[0,1,5,6,7],[],[]⟩)]),
 (171,[(([171],2),⟨[0,1,5],[],[]⟩)]),
 (172,[(([172],4),⟨[0,1,5,6,7],[],[]⟩)]),
 (174,[(([174],3),⟨[0,3,4],[],[]⟩)]),
 (177,[(([177],3),⟨[],[],[]⟩),(([177],4),⟨[0,1,5],[],[]⟩),(([177],9),⟨[0,1],[],[]⟩),(([177],10),⟨[0,1,5],[],[]⟩),(([177],15),⟨[0,1,5,6,7,8,9,10],[],[]⟩),(([177],21),⟨[0,1,5,6,7,8,9,10],[],[]⟩),(([177],22),⟨[8],[],[]⟩),(([177],23),⟨[0,1,5,6,7,8,9,10],[],[]⟩),(([177],26),⟨[0,1,8],[],[]⟩),(([177],30),⟨[0,1,5,6,7,8,9,10],[],[]⟩),(([177],31),⟨[0,1,8],[],[]⟩)]),
 (182,[(([182],3),⟨[],[],[]⟩),(([182],4),⟨[0,1,8],[],[]⟩),(([182],5),⟨[],[],[]⟩),(([182],6),⟨[0,1,8],[],[]⟩)]),
 (187,[(([187],2),⟨[1,3],[],[]⟩),(([187],3),⟨[1,3,4],[],[]⟩)]),
 (189,[(([189],2),⟨[],[],[]⟩),(([189],3),⟨[0,1,5],[],[]⟩),(([189],4),⟨[],[],[]⟩),(([189],5),⟨[0,1,5],[],[]⟩),(([189],9),⟨[5,10],[],[]⟩),(([189],10),⟨[5,10,11],[],[]⟩),(([189],12),⟨[5,10,11],[],[]⟩)]),
 (196,[(([196],6),⟨[1,4],[],[]⟩),(([196],8),⟨[1,4],[],[]⟩)]),
 (197,[(([197],4),⟨[1],[],[]⟩),(([197],5),⟨[1],[],[]⟩),(([197],6),⟨[1],[],[]⟩),(([197],7),⟨[1],[],[]⟩)]),
 (199,[(([199],1),⟨[0,1,2],[],[]⟩)]),
 (200,[(([200],3),⟨[],[],[]⟩),(([200],4),⟨[0,1,5],[],[]⟩)])]
noncomputable def EE : Env := { P := Tryz.prog, tt, ext := [(162, zoq), (204, z6t)], ann, inl := [(68, 110), (71, 116), (71, 156), (89, 128), (89, 129), (89, 130), (89, 131), (92, 128), (92, 129), (92, 131), (128, 166), (128, 167), (129, 166), (156, 71), (157, 181), (168, 170)], mt := [((42, "computus/when.form"), 197), ((43, "computus/when.right"), 206), ((158, "Grow"), 128), ((158, "Len"), 130), ((158, "String"), 131), ((158, "WriteString"), 129), ((158, "strings.copyCheck"), 166), ((158, "strings.grow"), 167), ((225, "computus/when.right"), 228), ((227, "computus/when.right"), 230), ((230, "computus/when.right"), 232)], eqs := [32, 36, 47, 55, 57, 59], same := [185], mnz := [(186, 5)] }
end Dv

set_option maxRecDepth 100000
set_option linter.unusedVariables false
namespace Dv
open Go
noncomputable def z7o (a0_0:List UInt8) (a0_1 a0_2:Int) (a0_3:Bool) (a0_4:List UInt8) (a0_5:List PV) (a0_6:Bool) (a0_7 a0_8 a0_9 a0_10 a0_11 a0_12 a0_13 a0_14 a0_15:Int) (a0_16:List UInt8) (a0_17 a0_18 a0_19 a0_20 a0_21 a0_22 a0_23:Int) (a0_24:List UInt8) (a1_0 a1_1 a2_0 a2_1 a2_2:Int):Option PV:=callF EE z5y [(.agg [(.str a0_0),(.int .i64 a0_1),(.int .i64 a0_2),(.bool a0_3),(.str a0_4),(.sl 4 a0_5),(.bool a0_6),(.int .i64 a0_7),(.int .i64 a0_8),(.int .i64 a0_9),(.int .i64 a0_10),(.int .i64 a0_11),(.int .i64 a0_12),(.int .i64 a0_13),(.int .u8 a0_14),(.int .i64 a0_15),(.str a0_16),(.int .i64 a0_17),(.int .i64 a0_18),(.int .i64 a0_19),(.int .i64 a0_20),(.int .i64 a0_21),(.int .u8 a0_22),(.int .i64 a0_23),(.str a0_24)]),(.agg [(.int .i64 a1_0),(.int .i64 a1_1)]),(.agg [(.int .i64 a2_0),(.int .i64 a2_1),(.int .i64 a2_2)])]
noncomputable def z1bc (a0_0 a0_1:Int) (a1_0:List UInt8) (a1_1 a1_2:Int) (a1_3:Bool) (a1_4:List UInt8) (a1_5:List PV) (a1_6:Bool) (a1_7 a1_8 a1_9 a1_10 a1_11 a1_12 a1_13 a1_14 a1_15:Int) (a1_16:List UInt8) (a1_17 a1_18 a1_19 a1_20 a1_21 a1_22 a1_23:Int) (a1_24:List UInt8) (a2_0 a2_1 a2_2:Int):Option PV:=callF EE z13l [(.agg [(.int .i64 a0_0),(.int .i64 a0_1)]),(.agg [(.str a1_0),(.int .i64 a1_1),(.int .i64 a1_2),(.bool a1_3),(.str a1_4),(.sl 4 a1_5),(.bool a1_6),(.int .i64 a1_7),(.int .i64 a1_8),(.int .i64 a1_9),(.int .i64 a1_10),(.int .i64 a1_11),(.int .i64 a1_12),(.int .i64 a1_13),(.int .u8 a1_14),(.int .i64 a1_15),(.str a1_16),(.int .i64 a1_17),(.int .i64 a1_18),(.int .i64 a1_19),(.int .i64 a1_20),(.int .i64 a1_21),(.int .u8 a1_22),(.int .i64 a1_23),(.str a1_24)]),(.agg [(.int .i64 a2_0),(.int .i64 a2_1),(.int .i64 a2_2)])]
noncomputable def z92 (a0_0:List UInt8) (a0_1 a0_2:Int) (a0_3:Bool) (a0_4:List UInt8) (a0_5:List PV) (a0_6:Bool) (a0_7 a0_8 a0_9 a0_10 a0_11 a0_12 a0_13 a0_14 a0_15:Int) (a0_16:List UInt8) (a0_17 a0_18 a0_19 a0_20 a0_21 a0_22 a0_23:Int) (a0_24:List UInt8):Option PV:=callF EE zb0 [(.agg [(.str a0_0),(.int .i64 a0_1),(.int .i64 a0_2),(.bool a0_3),(.str a0_4),(.sl 4 a0_5),(.bool a0_6),(.int .i64 a0_7),(.int .i64 a0_8),(.int .i64 a0_9),(.int .i64 a0_10),(.int .i64 a0_11),(.int .i64 a0_12),(.int .i64 a0_13),(.int .u8 a0_14),(.int .i64 a0_15),(.str a0_16),(.int .i64 a0_17),(.int .i64 a0_18),(.int .i64 a0_19),(.int .i64 a0_20),(.int .i64 a0_21),(.int .u8 a0_22),(.int .i64 a0_23),(.str a0_24)])]
noncomputable abbrev zdf:List TI:=funTI EE z40
noncomputable def zdb (a0_0 a0_1:Int) (a1_0:List UInt8) (a1_1 a1_2:Int) (a1_3:Bool) (a1_4:List UInt8) (a1_5:List PV) (a1_6:Bool) (a1_7 a1_8 a1_9 a1_10 a1_11 a1_12 a1_13 a1_14 a1_15:Int) (a1_16:List UInt8) (a1_17 a1_18 a1_19 a1_20 a1_21 a1_22 a1_23:Int) (a1_24:List UInt8) (a2_0 a2_1 a2_2:Int):Option PV:=callF EE z40 [(.agg [(.int .i64 a0_0),(.int .i64 a0_1)]),(.agg [(.str a1_0),(.int .i64 a1_1),(.int .i64 a1_2),(.bool a1_3),(.str a1_4),(.sl 4 a1_5),(.bool a1_6),(.int .i64 a1_7),(.int .i64 a1_8),(.int .i64 a1_9),(.int .i64 a1_10),(.int .i64 a1_11),(.int .i64 a1_12),(.int .i64 a1_13),(.int .u8 a1_14),(.int .i64 a1_15),(.str a1_16),(.int .i64 a1_17),(.int .i64 a1_18),(.int .i64 a1_19),(.int .i64 a1_20),(.int .i64 a1_21),(.int .u8 a1_22),(.int .i64 a1_23),(.str a1_24)]),(.agg [(.int .i64 a2_0),(.int .i64 a2_1),(.int .i64 a2_2)])]
noncomputable def z41  : Option PV :=
 runW EE zdf (zd EE z40 2 (mkT 80 []) [])
noncomputable def zez (x0 x1:Int) (x2:List UInt8) (x3 x4:Int) (x5:Bool) (x6:List UInt8) (x7:List PV) (x8:Bool) (x9 xA xB xC xD xE xF xG xH:Int) (xI:List UInt8) (xJ xK xL xM xN xO xP:Int) (xQ:List UInt8) (xR xS xT:Int):Option PV :=
 runW EE zdf (zd EE z40 3 (mkT 80 [(3,(.ptr 0 0)),(4,(.ptr 1 0)),(5,(.ptr 2 0))]) [(.cells z93 [(.int .i64 x0),(.int .i64 x1)] false),(.cells zr [(.str x2),(.int .i64 x3),(.int .i64 x4),(.bool x5),(.str x6),(.sl 4 x7),(.bool x8),(.int .i64 x9),(.int .i64 xA),(.int .i64 xB),(.int .i64 xC),(.int .i64 xD),(.int .i64 xE),(.int .i64 xF),(.int .u8 xG),(.int .i64 xH),(.str xI),(.int .i64 xJ),(.int .i64 xK),(.int .i64 xL),(.int .i64 xM),(.int .i64 xN),(.int .u8 xO),(.int .i64 xP),(.str xQ)] false),(.cells z6g [(.int .i64 xR),(.int .i64 xS),(.int .i64 xT)] false)])
noncomputable def z91  : Option PV:=callF EE zaz []
noncomputable def zr6 (a0_0:List UInt8) (a0_1 a0_2:Int) (a0_3:Bool) (a0_4:List UInt8) (a0_5:List PV) (a0_6:Bool) (a0_7 a0_8 a0_9 a0_10 a0_11 a0_12 a0_13 a0_14 a0_15:Int) (a0_16:List UInt8) (a0_17 a0_18 a0_19 a0_20 a0_21 a0_22 a0_23:Int) (a0_24:List UInt8) (a1_0 a1_1:Int):Option PV:=callF EE zq6 [(.agg [(.str a0_0),(.int .i64 a0_1),(.int .i64 a0_2),(.bool a0_3),(.str a0_4),(.sl 4 a0_5),(.bool a0_6),(.int .i64 a0_7),(.int .i64 a0_8),(.int .i64 a0_9),(.int .i64 a0_10),(.int .i64 a0_11),(.int .i64 a0_12),(.int .i64 a0_13),(.int .u8 a0_14),(.int .i64 a0_15),(.str a0_16),(.int .i64 a0_17),(.int .i64 a0_18),(.int .i64 a0_19),(.int .i64 a0_20),(.int .i64 a0_21),(.int .u8 a0_22),(.int .i64 a0_23),(.str a0_24)]),(.agg [(.int .i64 a1_0),(.int .i64 a1_1)])]
noncomputable def zh1 (a0_0 a0_1 a0_2:Int):Option PV:=callF EE zto [(.agg [(.int .i64 a0_0),(.int .i64 a0_1),(.int .i64 a0_2)])]
noncomputable def z5k (a0:Int):Option PV:=callF EE zjk [(.int .i64 a0)]
noncomputable def zfs (a0_0:List UInt8) (a0_1 a0_2:Int) (a0_3:Bool) (a0_4:List UInt8) (a0_5:List PV) (a0_6:Bool) (a0_7 a0_8 a0_9 a0_10 a0_11 a0_12 a0_13 a0_14 a0_15:Int) (a0_16:List UInt8) (a0_17 a0_18 a0_19 a0_20 a0_21 a0_22 a0_23:Int) (a0_24:List UInt8) (a1_0 a1_1:Int):Option PV:=callF EE zln [(.agg [(.str a0_0),(.int .i64 a0_1),(.int .i64 a0_2),(.bool a0_3),(.str a0_4),(.sl 4 a0_5),(.bool a0_6),(.int .i64 a0_7),(.int .i64 a0_8),(.int .i64 a0_9),(.int .i64 a0_10),(.int .i64 a0_11),(.int .i64 a0_12),(.int .i64 a0_13),(.int .u8 a0_14),(.int .i64 a0_15),(.str a0_16),(.int .i64 a0_17),(.int .i64 a0_18),(.int .i64 a0_19),(.int .i64 a0_20),(.int .i64 a0_21),(.int .u8 a0_22),(.int .i64 a0_23),(.str a0_24)]),(.agg [(.int .i64 a1_0),(.int .i64 a1_1)])]
noncomputable def zrc (a0_0 a0_1 a1_0 a1_1 a1_2:Int):Option PV:=callF EE zqa [(.agg [(.int .i64 a0_0),(.int .i64 a0_1)]),(.agg [(.int .i64 a1_0),(.int .i64 a1_1),(.int .i64 a1_2)])]
noncomputable abbrev z14r:List TI:=funTI EE zg3
noncomputable def zt (a0:List PV):Option PV:=callF EE zg3 [(.sl 1 a0)]
noncomputable def zc8 (x0:List PV) (x1 x2:Int) (x3:List PV):Option PV :=
 runW EE z14r (zd EE zg3 3 (mkT 23 [(3,(.lall 0)),(6,(.sl 1 x0)),(7,(.int .i64 x1)),(8,(.int .i64 x2))]) [(.row zfk 1 x3 0 none)])
noncomputable abbrev zd3:List TI:=funTI EE z58
noncomputable def zm6 (a0:Int):Option PV:=callF EE z58 [(.int .i64 a0)]
noncomputable def zf6 (x0:Int) (x1:List UInt8):Option PV :=
 runW EE zd3 (zd EE z58 4 (mkT 52 [(0,(.int .i64 x0)),(4,(.str x1))]) [])
noncomputable def zf5  : Option PV :=
 runW EE zd3 (zd EE z58 5 (mkT 52 []) [])
noncomputable def zf4 (x0:Int) (x1:List UInt8):Option PV :=
 runW EE zd3 (zd EE z58 6 (mkT 52 [(0,(.int .i64 x0)),(4,(.str x1))]) [])
noncomputable def zag (a0_0 a0_1 a0_2 a0_3 a0_4 a0_5 a0_6:Int) (a0_7:List UInt8):Option PV:=callF EE zcq [(.agg [(.int .i64 a0_0),(.int .i64 a0_1),(.int .i64 a0_2),(.int .i64 a0_3),(.int .i64 a0_4),(.int .u8 a0_5),(.int .i64 a0_6),(.str a0_7)])]
noncomputable def z10 (a0_0 a0_1:Int):Option PV:=callF EE z6q [(.agg [(.int .i64 a0_0),(.int .i64 a0_1)])]
noncomputable def z8q (a0_0 a0_1 a0_2:Int):Option PV:=callF EE zap [(.agg [(.int .i64 a0_0),(.int .i64 a0_1),(.int .i64 a0_2)])]
noncomputable abbrev z2f:List TI:=funTI EE z14
noncomputable def z2y (a0_0:List UInt8) (a0_1 a0_2:Int) (a0_3:Bool) (a0_4:List UInt8) (a0_5:List PV) (a0_6:Bool) (a0_7 a0_8 a0_9 a0_10 a0_11 a0_12 a0_13 a0_14 a0_15:Int) (a0_16:List UInt8) (a0_17 a0_18 a0_19 a0_20 a0_21 a0_22 a0_23:Int) (a0_24:List UInt8):Option PV:=callF EE z14 [(.agg [(.str a0_0),(.int .i64 a0_1),(.int .i64 a0_2),(.bool a0_3),(.str a0_4),(.sl 4 a0_5),(.bool a0_6),(.int .i64 a0_7),(.int .i64 a0_8),(.int .i64 a0_9),(.int .i64 a0_10),(.int .i64 a0_11),(.int .i64 a0_12),(.int .i64 a0_13),(.int .u8 a0_14),(.int .i64 a0_15),(.str a0_16),(.int .i64 a0_17),(.int .i64 a0_18),(.int .i64 a0_19),(.int .i64 a0_20),(.int .i64 a0_21),(.int .u8 a0_22),(.int .i64 a0_23),(.str a0_24)])]
noncomputable def z48  : Option PV :=
 runW EE z2f (zd EE z14 2 (mkT 100 []) [])
noncomputable def zb5 (x0:List UInt8) (x1 x2:Int) (x3:Bool) (x4:List UInt8) (x5:List PV) (x6:Bool) (x7 x8 x9 xA xB xC xD xE xF:Int) (xG:List UInt8) (xH xI xJ xK xL xM xN:Int) (xO:List UInt8):Option PV :=
 runW EE z2f (zd EE z14 3 (mkT 100 [(1,(.ptr 0 0))]) [(.cells zr [(.str x0),(.int .i64 x1),(.int .i64 x2),(.bool x3),(.str x4),(.sl 4 x5),(.bool x6),(.int .i64 x7),(.int .i64 x8),(.int .i64 x9),(.int .i64 xA),(.int .i64 xB),(.int .i64 xC),(.int .i64 xD),(.int .u8 xE),(.int .i64 xF),(.str xG),(.int .i64 xH),(.int .i64 xI),(.int .i64 xJ),(.int .i64 xK),(.int .i64 xL),(.int .u8 xM),(.int .i64 xN),(.str xO)] false)])
noncomputable def z47 (x0 x1:Int) (x2:List UInt8) (x3 x4:Int) (x5:Bool) (x6:List UInt8) (x7:List PV) (x8:Bool) (x9 xA xB xC xD xE xF xG xH:Int) (xI:List UInt8) (xJ xK xL xM xN xO xP:Int) (xQ:List UInt8):Option PV :=
 runW EE z2f (zd EE z14 5 (mkT 100 [(1,(.ptr 0 0)),(3,(.int .i64 x0)),(4,(.int .i64 x1))]) [(.cells zr [(.str x2),(.int .i64 x3),(.int .i64 x4),(.bool x5),(.str x6),(.sl 4 x7),(.bool x8),(.int .i64 x9),(.int .i64 xA),(.int .i64 xB),(.int .i64 xC),(.int .i64 xD),(.int .i64 xE),(.int .i64 xF),(.int .u8 xG),(.int .i64 xH),(.str xI),(.int .i64 xJ),(.int .i64 xK),(.int .i64 xL),(.int .i64 xM),(.int .i64 xN),(.int .u8 xO),(.int .i64 xP),(.str xQ)] false)])
noncomputable def z46  : Option PV :=
 runW EE z2f (zd EE z14 9 (mkT 100 []) [])
noncomputable def za9 (x0:Int) (x1:List UInt8) (x2 x3:Int) (x4:Bool) (x5:List UInt8) (x6:List PV) (x7:Bool) (x8 x9 xA xB xC xD xE xF xG:Int) (xH:List UInt8) (xI xJ xK xL xM xN xO:Int) (xP:List UInt8) (xQ xR:Int) (xS:Bool) (xT:List UInt8):Option PV :=
 runW EE z2f (zd EE z14 10 (mkT 100 [(1,(.ptr 0 0)),(4,(.int .i64 x0)),(5,(.ptr 1 0))]) [(.cells zr [(.str x1),(.int .i64 x2),(.int .i64 x3),(.bool x4),(.str x5),(.sl 4 x6),(.bool x7),(.int .i64 x8),(.int .i64 x9),(.int .i64 xA),(.int .i64 xB),(.int .i64 xC),(.int .i64 xD),(.int .i64 xE),(.int .u8 xF),(.int .i64 xG),(.str xH),(.int .i64 xI),(.int .i64 xJ),(.int .i64 xK),(.int .i64 xL),(.int .i64 xM),(.int .u8 xN),(.int .i64 xO),(.str xP)] false),(.cells zo [(.int .i64 xQ),(.int .i64 xR),(.bool xS),(.str xT)] false)])
noncomputable def zbh (a0:Int):Option PV:=callF EE zdk [(.int .i64 a0)]
noncomputable abbrev z9p:List TI:=funTI EE z2p
noncomputable def z8r (a0_0:List UInt8) (a0_1 a0_2:Int) (a0_3:Bool) (a0_4:List UInt8) (a0_5:List PV) (a0_6:Bool) (a0_7 a0_8 a0_9 a0_10 a0_11 a0_12 a0_13 a0_14 a0_15:Int) (a0_16:List UInt8) (a0_17 a0_18 a0_19 a0_20 a0_21 a0_22 a0_23:Int) (a0_24:List UInt8) (a1_0 a1_1:Int):Option PV:=callF EE z2p [(.agg [(.str a0_0),(.int .i64 a0_1),(.int .i64 a0_2),(.bool a0_3),(.str a0_4),(.sl 4 a0_5),(.bool a0_6),(.int .i64 a0_7),(.int .i64 a0_8),(.int .i64 a0_9),(.int .i64 a0_10),(.int .i64 a0_11),(.int .i64 a0_12),(.int .i64 a0_13),(.int .u8 a0_14),(.int .i64 a0_15),(.str a0_16),(.int .i64 a0_17),(.int .i64 a0_18),(.int .i64 a0_19),(.int .i64 a0_20),(.int .i64 a0_21),(.int .u8 a0_22),(.int .i64 a0_23),(.str a0_24)]),(.agg [(.int .i64 a1_0),(.int .i64 a1_1)])]
noncomputable def zb4 (x0 x1:Int):Option PV :=
 runW EE z9p (zd EE z2p 2 (mkT 46 [(4,(.ptr 0 0))]) [(.cells z93 [(.int .i64 x0),(.int .i64 x1)] false)])
noncomputable def zb3 (x0:List UInt8) (x1 x2:Int) (x3:Bool) (x4:List UInt8) (x5:List PV) (x6:Bool) (x7 x8 x9 xA xB xC xD xE xF:Int) (xG:List UInt8) (xH xI xJ xK xL xM xN:Int) (xO:List UInt8) (xP xQ xR xS:Int):Option PV :=
 runW EE z9p (zd EE z2p 3 (mkT 46 [(2,(.ptr 0 0)),(3,(.ptr 1 0)),(4,(.ptr 2 0))]) [(.cells zr [(.str x0),(.int .i64 x1),(.int .i64 x2),(.bool x3),(.str x4),(.sl 4 x5),(.bool x6),(.int .i64 x7),(.int .i64 x8),(.int .i64 x9),(.int .i64 xA),(.int .i64 xB),(.int .i64 xC),(.int .i64 xD),(.int .u8 xE),(.int .i64 xF),(.str xG),(.int .i64 xH),(.int .i64 xI),(.int .i64 xJ),(.int .i64 xK),(.int .i64 xL),(.int .u8 xM),(.int .i64 xN),(.str xO)] false),(.cells z93 [(.int .i64 xP),(.int .i64 xQ)] false),(.cells z93 [(.int .i64 xR),(.int .i64 xS)] false)])
noncomputable abbrev z95:List TI:=funTI EE z2h
noncomputable def z7s (a0_0:List UInt8) (a0_1 a0_2:Int) (a0_3:Bool) (a0_4:List UInt8) (a0_5:List PV) (a0_6:Bool) (a0_7 a0_8 a0_9 a0_10 a0_11 a0_12 a0_13 a0_14 a0_15:Int) (a0_16:List UInt8) (a0_17 a0_18 a0_19 a0_20 a0_21 a0_22 a0_23:Int) (a0_24:List UInt8) (a1_0 a1_1:Int):Option PV:=callF EE z2h [(.agg [(.str a0_0),(.int .i64 a0_1),(.int .i64 a0_2),(.bool a0_3),(.str a0_4),(.sl 4 a0_5),(.bool a0_6),(.int .i64 a0_7),(.int .i64 a0_8),(.int .i64 a0_9),(.int .i64 a0_10),(.int .i64 a0_11),(.int .i64 a0_12),(.int .i64 a0_13),(.int .u8 a0_14),(.int .i64 a0_15),(.str a0_16),(.int .i64 a0_17),(.int .i64 a0_18),(.int .i64 a0_19),(.int .i64 a0_20),(.int .i64 a0_21),(.int .u8 a0_22),(.int .i64 a0_23),(.str a0_24)]),(.agg [(.int .i64 a1_0),(.int .i64 a1_1)])]
noncomputable def za8 (x0 x1:Int) (x2:Bool) (x3:List UInt8):Option PV :=
 runW EE z95 (zd EE z2h 2 (mkT 31 [(4,(.ptr 0 0))]) [(.cells zo [(.int .i64 x0),(.int .i64 x1),(.bool x2),(.str x3)] false)])
noncomputable def za7 (x0:List UInt8) (x1 x2:Int) (x3:Bool) (x4:List UInt8) (x5:List PV) (x6:Bool) (x7 x8 x9 xA xB xC xD xE xF:Int) (xG:List UInt8) (xH xI xJ xK xL xM xN:Int) (xO:List UInt8) (xP xQ xR xS:Int) (xT:Bool) (xU:List UInt8):Option PV :=
 runW EE z95 (zd EE z2h 3 (mkT 31 [(2,(.ptr 0 0)),(3,(.ptr 1 0)),(4,(.ptr 2 0))]) [(.cells zr [(.str x0),(.int .i64 x1),(.int .i64 x2),(.bool x3),(.str x4),(.sl 4 x5),(.bool x6),(.int .i64 x7),(.int .i64 x8),(.int .i64 x9),(.int .i64 xA),(.int .i64 xB),(.int .i64 xC),(.int .i64 xD),(.int .u8 xE),(.int .i64 xF),(.str xG),(.int .i64 xH),(.int .i64 xI),(.int .i64 xJ),(.int .i64 xK),(.int .i64 xL),(.int .u8 xM),(.int .i64 xN),(.str xO)] false),(.cells z93 [(.int .i64 xP),(.int .i64 xQ)] false),(.cells zo [(.int .i64 xR),(.int .i64 xS),(.bool xT),(.str xU)] false)])
noncomputable def z7r (a0_0 a0_1 a1_0 a1_1 a1_2:Int):Option PV:=callF EE za2 [(.agg [(.int .i64 a0_0),(.int .i64 a0_1)]),(.agg [(.int .i64 a1_0),(.int .i64 a1_1),(.int .i64 a1_2)])]
noncomputable abbrev z3a:List TI:=funTI EE z16
noncomputable def z7w (a0:Int):Option PV:=callF EE z16 [(.int .i64 a0)]
noncomputable def z5t  : Option PV :=
 runW EE z3a (zd EE z16 2 (mkT 40 []) [])
noncomputable def zad (x0:Int):Option PV :=
 runW EE z3a (zd EE z16 3 (mkT 40 [(0,(.int .i64 x0))]) [])
noncomputable def z3q (x0:Int) (x1:List UInt8):Option PV :=
 runW EE z3a (zd EE z16 7 (mkT 40 [(0,(.int .i64 x0)),(4,(.str x1))]) [])
noncomputable def z5b (x0:Int) (x1:List UInt8):Option PV :=
 runW EE z3a (zd EE z16 10 (mkT 40 [(0,(.int .i64 x0)),(4,(.str x1))]) [])
noncomputable abbrev z14t:List TI:=funTI EE zg5
noncomputable def zh0 (a0_0 a0_1 a0_2 a0_3 a1_0 a1_1 a1_2:Int):Option PV:=callF EE zg5 [(.agg [(.int .i64 a0_0),(.int .i64 a0_1),(.int .i64 a0_2),(.int .i64 a0_3)]),(.agg [(.int .i64 a1_0),(.int .i64 a1_1),(.int .i64 a1_2)])]
noncomputable def zwd (x0 x1 x2 x3 x4 x5 x6:Int):Option PV :=
 runW EE z14t (zd EE zg5 3 (mkT 36 [(2,(.ptr 0 0)),(3,(.ptr 1 0))]) [(.cells zqw [(.int .i64 x0),(.int .i64 x1),(.int .i64 x2),(.int .i64 x3)] false),(.cells z6g [(.int .i64 x4),(.int .i64 x5),(.int .i64 x6)] false)])
noncomputable abbrev zst:List TI:=funTI EE zcg
noncomputable def zzc (a0_0 a0_1 a1_0 a1_1 a1_2:Int):Option PV:=callF EE zcg [(.agg [(.int .i64 a0_0),(.int .i64 a0_1)]),(.agg [(.int .i64 a1_0),(.int .i64 a1_1),(.int .i64 a1_2)])]
noncomputable def zwf  : Option PV :=
 runW EE zst (zd EE zcg 2 (mkT 34 []) [])
noncomputable def zwe (x0 x1 x2 x3 x4:Int):Option PV :=
 runW EE zst (zd EE zcg 3 (mkT 34 [(2,(.ptr 0 0)),(3,(.ptr 1 0))]) [(.cells z1ay [(.int .i64 x0),(.int .i64 x1)] false),(.cells z6g [(.int .i64 x2),(.int .i64 x3),(.int .i64 x4)] false)])
noncomputable abbrev zgd:List TI:=funTI EE z4i
noncomputable def zmj (a0_0:List UInt8) (a0_1 a0_2:Int) (a0_3:Bool) (a0_4:List UInt8) (a0_5:List PV) (a0_6:Bool) (a0_7 a0_8 a0_9 a0_10 a0_11 a0_12 a0_13 a0_14 a0_15:Int) (a0_16:List UInt8) (a0_17 a0_18 a0_19 a0_20 a0_21 a0_22 a0_23:Int) (a0_24:List UInt8):Option PV:=callF EE z4i [(.agg [(.str a0_0),(.int .i64 a0_1),(.int .i64 a0_2),(.bool a0_3),(.str a0_4),(.sl 4 a0_5),(.bool a0_6),(.int .i64 a0_7),(.int .i64 a0_8),(.int .i64 a0_9),(.int .i64 a0_10),(.int .i64 a0_11),(.int .i64 a0_12),(.int .i64 a0_13),(.int .u8 a0_14),(.int .i64 a0_15),(.str a0_16),(.int .i64 a0_17),(.int .i64 a0_18),(.int .i64 a0_19),(.int .i64 a0_20),(.int .i64 a0_21),(.int .u8 a0_22),(.int .i64 a0_23),(.str a0_24)])]
noncomputable def ze2  : Option PV :=
 runW EE zgd (zd EE z4i 2 (mkT 120 []) [])
noncomputable def qk1 (f p:Nat) (T:List PV) (y0:List UInt8) (y1 y2:Int) (y3:Bool) (y4:List UInt8) (y5:List PV) (y6:Bool) (y7 y8 y9 y10 y11 y12 y13 y14 y15:Int) (y16:List UInt8) (y17 y18 y19 y20 y21 y22 y23:Int) (y24:List UInt8):Option PV:=runW EE zgd (zd EE f p T [(.cells zi9 [(.str y0),(.int .i64 y1),(.int .i64 y2),(.bool y3),(.str y4),(.sl 4 y5),(.bool y6),(.int .i64 y7),(.int .i64 y8),(.int .i64 y9),(.int .i64 y10),(.int .i64 y11),(.int .i64 y12),(.int .i64 y13),(.int .u8 y14),(.int .i64 y15),(.str y16),(.int .i64 y17),(.int .i64 y18),(.int .i64 y19),(.int .i64 y20),(.int .i64 y21),(.int .u8 y22),(.int .i64 y23),(.str y24)] false)])
noncomputable def zse (x0:List UInt8) (x1 x2:Int) (x3:Bool) (x4:List UInt8) (x5:List PV) (x6:Bool) (x7 x8 x9 xA xB xC xD xE xF:Int) (xG:List UInt8) (xH xI xJ xK xL xM xN:Int) (xO:List UInt8):Option PV :=
 qk1 z4i 3 (mkT 120 [(1,(.ptr 0 0))]) x0 x1 x2 x3 x4 x5 x6 x7 x8 x9 xA xB xC xD xE xF xG xH xI xJ xK xL xM xN xO
noncomputable def ze1 (x0:List PV) (x1 x2:Int) (x3:List UInt8) (x4 x5:Int) (x6:Bool) (x7:List UInt8) (x8:List PV) (x9:Bool) (xA xB xC xD xE xF xG xH xI:Int) (xJ:List UInt8) (xK xL xM xN xO xP xQ:Int) (xR:List UInt8):Option PV :=
 qk1 z4i 4 (mkT 120 [(1,(.ptr 0 0)),(27,(.sl 4 x0)),(28,(.int .i64 x1)),(29,(.int .i64 x2))]) x3 x4 x5 x6 x7 x8 x9 xA xB xC xD xE xF xG xH xI xJ xK xL xM xN xO xP xQ xR
noncomputable def ze0  : Option PV :=
 runW EE zgd (zd EE z4i 7 (mkT 120 []) [])
noncomputable def zdz (x0:List PV) (x1 x2:Int) (x3:List UInt8) (x4 x5:Int) (x6:Bool) (x7:List UInt8) (x8:List PV) (x9:Bool) (xA xB xC xD xE xF xG xH xI:Int) (xJ:List UInt8) (xK xL xM xN xO xP xQ:Int) (xR:List UInt8):Option PV :=
 qk1 z4i 8 (mkT 120 [(1,(.ptr 0 0)),(27,(.sl 4 x0)),(28,(.int .i64 x1)),(29,(.int .i64 x2))]) x3 x4 x5 x6 x7 x8 x9 xA xB xC xD xE xF xG xH xI xJ xK xL xM xN xO xP xQ xR
noncomputable abbrev z3b:List TI:=funTI EE z17
noncomputable def z1g (a0:Int):Option PV:=callF EE z17 [(.int .i64 a0)]
noncomputable def z3r (x0 x1:Int):Option PV :=
 runW EE z3b (zd EE z17 4 (mkT 51 [(0,(.int .i64 x0)),(3,(.int .u64 x1))]) [])
noncomputable def z2i (x0 x1:Int) (x2:List PV):Option PV :=
 runW EE z3b (zd EE z17 5 (mkT 51 [(0,(.int .i64 x0)),(3,(.int .u64 x1)),(4,(.lall 0))]) [(.row zfk 1 x2 0 none)])
noncomputable def z11 (x0:List PV):Option PV :=
 runW EE z3b (zd EE z17 11 (mkT 51 [(4,(.lall 0))]) [(.row zfk 1 x0 0 none)])
noncomputable def z3g (x0:Int) (x1:List PV) (x2:List PV):Option PV :=
 runW EE z3b (zd EE z17 13 (mkT 51 [(4,(.lall 0)),(5,(.lall 1)),(6,(.int .i64 x0))]) [(.row zfk 1 x1 0 none),(.row zfk 1 x2 0 none)])
noncomputable def zua (a0_0 a0_1:Int):Option PV:=callF EE zwu [(.agg [(.int .i64 a0_0),(.int .i64 a0_1)])]
noncomputable def z3s (a0_0 a0_1:Int):Option PV:=callF EE zhf [(.agg [(.int .i64 a0_0),(.int .i64 a0_1)])]
noncomputable def zvb (a0_0 a0_1 a0_2 a0_3:Int):Option PV:=callF EE ztn [(.agg [(.int .i64 a0_0),(.int .i64 a0_1),(.int .i64 a0_2),(.int .i64 a0_3)])]
noncomputable def zf0 (a0_0 a0_1:Int):Option PV:=callF EE zaq [(.agg [(.int .i64 a0_0),(.int .i64 a0_1)])]
noncomputable def z150 (a0_0 a0_1 a1:Int):Option PV:=callF EE z10e [(.agg [(.int .i64 a0_0),(.int .i64 a0_1)]),(.int .i64 a1)]
noncomputable def z17z (a0_0:List UInt8) (a0_1 a0_2:Int) (a0_3:Bool) (a0_4:List UInt8) (a0_5:List PV) (a0_6:Bool) (a0_7 a0_8 a0_9 a0_10 a0_11 a0_12 a0_13 a0_14 a0_15:Int) (a0_16:List UInt8) (a0_17 a0_18 a0_19 a0_20 a0_21 a0_22 a0_23:Int) (a0_24:List UInt8) (a1_0 a1_1:Int):Option PV:=callF EE zwr [(.agg [(.str a0_0),(.int .i64 a0_1),(.int .i64 a0_2),(.bool a0_3),(.str a0_4),(.sl 4 a0_5),(.bool a0_6),(.int .i64 a0_7),(.int .i64 a0_8),(.int .i64 a0_9),(.int .i64 a0_10),(.int .i64 a0_11),(.int .i64 a0_12),(.int .i64 a0_13),(.int .u8 a0_14),(.int .i64 a0_15),(.str a0_16),(.int .i64 a0_17),(.int .i64 a0_18),(.int .i64 a0_19),(.int .i64 a0_20),(.int .i64 a0_21),(.int .u8 a0_22),(.int .i64 a0_23),(.str a0_24)]),(.agg [(.int .i64 a1_0),(.int .i64 a1_1)])]
noncomputable def zr5 (a0_0 a0_1:Int):Option PV:=callF EE zq5 [(.agg [(.int .i64 a0_0),(.int .i64 a0_1)])]
noncomputable def z14c (a0_0:List UInt8) (a0_1 a0_2:Int) (a0_3:Bool) (a0_4:List UInt8) (a0_5:List PV) (a0_6:Bool) (a0_7 a0_8 a0_9 a0_10 a0_11 a0_12 a0_13 a0_14 a0_15:Int) (a0_16:List UInt8) (a0_17 a0_18 a0_19 a0_20 a0_21 a0_22 a0_23:Int) (a0_24:List UInt8) (a1:Int):Option PV:=callF EE z13j [(.agg [(.str a0_0),(.int .i64 a0_1),(.int .i64 a0_2),(.bool a0_3),(.str a0_4),(.sl 4 a0_5),(.bool a0_6),(.int .i64 a0_7),(.int .i64 a0_8),(.int .i64 a0_9),(.int .i64 a0_10),(.int .i64 a0_11),(.int .i64 a0_12),(.int .i64 a0_13),(.int .u8 a0_14),(.int .i64 a0_15),(.str a0_16),(.int .i64 a0_17),(.int .i64 a0_18),(.int .i64 a0_19),(.int .i64 a0_20),(.int .i64 a0_21),(.int .u8 a0_22),(.int .i64 a0_23),(.str a0_24)]),(.int .i64 a1)]
noncomputable def day_Of (a0_0 a0_1:Int):Option PV:=callF EE z19e [(.agg [(.int .i64 a0_0),(.int .i64 a0_1)])]
noncomputable abbrev z14s:List TI:=funTI EE zg4
noncomputable def zl6 (a0_0 a0_1 a1_0 a1_1 a1_2:Int):Option PV:=callF EE zg4 [(.agg [(.int .i64 a0_0),(.int .i64 a0_1)]),(.agg [(.int .i64 a1_0),(.int .i64 a1_1),(.int .i64 a1_2)])]
noncomputable def zft (x0 x1 x2:Int) (x3:List UInt8) (x4 x5 x6:Int):Option PV :=
 runW EE z14s (zd EE zg4 5 (mkT 75 [(3,(.ptr 0 0)),(6,(.int .i64 x0)),(7,(.int .i64 x1)),(8,(.int .i64 x2)),(10,(.str x3))]) [(.cells z6g [(.int .i64 x4),(.int .i64 x5),(.int .i64 x6)] false)])
noncomputable def zvp (a0:Int):Option PV:=callF EE ztv [(.int .i64 a0)]
noncomputable abbrev zxk:List TI:=funTI EE za1
noncomputable def z1o (a0:List UInt8) (a1:List PV):Option PV:=callF EE za1 [(.str a0),(.sl 1 a1)]
noncomputable def z6l (x0:List UInt8) (x1:List PV) (x2 x3:Int) (x4:List PV):Option PV :=
 runW EE zxk (zd EE za1 3 (mkT 24 [(0,(.str x0)),(5,(.lall 0)),(8,(.sl 1 x1)),(9,(.int .i64 x2)),(10,(.int .i64 x3))]) [(.row zek 1 x4 0 none)])
noncomputable def z2u (a0:Int):Option PV:=callF EE zww [(.int .i64 a0)]
noncomputable def z5v (a0:Int):Option PV:=callF EE zax [(.int .i64 a0)]
noncomputable def z53 (a0:Int):Option PV:=callF EE za3 [(.int .i64 a0)]
noncomputable def z7d (a0_0 a0_1:Int) (a0_2:Bool) (a0_3:List UInt8):Option PV:=callF EE zdm [(.agg [(.int .i64 a0_0),(.int .i64 a0_1),(.bool a0_2),(.str a0_3)])]
noncomputable abbrev zgt:List TI:=funTI EE z3o
noncomputable def z2l (a0:Int):Option PV:=callF EE z3o [(.int .i64 a0)]
noncomputable def z3p (x0:Int):Option PV :=
 runW EE zgt (zd EE z3o 4 (mkT 30 [(3,(.int .i64 x0))]) [])
noncomputable abbrev zp2:List TI:=funTI EE z5m
noncomputable def z8l (a0_0:Bool) (a0_1 a0_2 a0_3 a0_4 a0_5 a0_6 a0_7 a0_8 a0_9:Int) (a0_10:List UInt8) (a0_11 a0_12 a0_13 a0_14 a0_15 a0_16 a0_17:Int) (a0_18:List UInt8) (a1:Int):Option PV:=callF EE z5m [(.agg [(.bool a0_0),(.int .i64 a0_1),(.int .i64 a0_2),(.int .i64 a0_3),(.int .i64 a0_4),(.int .i64 a0_5),(.int .i64 a0_6),(.int .i64 a0_7),(.int .u8 a0_8),(.int .i64 a0_9),(.str a0_10),(.int .i64 a0_11),(.int .i64 a0_12),(.int .i64 a0_13),(.int .i64 a0_14),(.int .i64 a0_15),(.int .u8 a0_16),(.int .i64 a0_17),(.str a0_18)]),(.int .i64 a1)]
noncomputable def z42 (x0:Int) (x1:List PV) (x2 x3 x4 x5:Int) (x6:Bool) (x7:List UInt8):Option PV :=
 runW EE zp2 (zd EE z5m 3 (mkT 35 [(1,(.int .i64 x0)),(4,(.ptr 0 0)),(6,(.sl 4 x1)),(7,(.int .i64 x2)),(8,(.int .i64 x3))]) [(.cells zo [(.int .i64 x4),(.int .i64 x5),(.bool x6),(.str x7)] false)])
noncomputable def z7c (a0_0 a0_1:Int):Option PV:=callF EE zdl [(.agg [(.int .i64 a0_0),(.int .i64 a0_1)])]
noncomputable abbrev z7p:List TI:=funTI EE z2x
noncomputable def z60 (a0_0:List UInt8) (a0_1 a0_2:Int) (a0_3:Bool) (a0_4:List UInt8) (a0_5:List PV) (a0_6:Bool) (a0_7 a0_8 a0_9 a0_10 a0_11 a0_12 a0_13 a0_14 a0_15:Int) (a0_16:List UInt8) (a0_17 a0_18 a0_19 a0_20 a0_21 a0_22 a0_23:Int) (a0_24:List UInt8) (a1:Int):Option PV:=callF EE z2x [(.agg [(.str a0_0),(.int .i64 a0_1),(.int .i64 a0_2),(.bool a0_3),(.str a0_4),(.sl 4 a0_5),(.bool a0_6),(.int .i64 a0_7),(.int .i64 a0_8),(.int .i64 a0_9),(.int .i64 a0_10),(.int .i64 a0_11),(.int .i64 a0_12),(.int .i64 a0_13),(.int .u8 a0_14),(.int .i64 a0_15),(.str a0_16),(.int .i64 a0_17),(.int .i64 a0_18),(.int .i64 a0_19),(.int .i64 a0_20),(.int .i64 a0_21),(.int .u8 a0_22),(.int .i64 a0_23),(.str a0_24)]),(.int .i64 a1)]
noncomputable def z8w (x0:Int) (x1:List UInt8) (x2 x3:Int) (x4:Bool) (x5:List UInt8) (x6:List PV) (x7:Bool) (x8 x9 xA xB xC xD xE xF xG:Int) (xH:List UInt8) (xI xJ xK xL xM xN xO:Int) (xP:List UInt8) (xQ xR:Int) (xS:Bool) (xT:List UInt8):Option PV :=
 runW EE z7p (zd EE z2x 6 (mkT 57 [(1,(.int .i64 x0)),(2,(.ptr 0 0)),(4,(.ptr 1 0))]) [(.cells zr [(.str x1),(.int .i64 x2),(.int .i64 x3),(.bool x4),(.str x5),(.sl 4 x6),(.bool x7),(.int .i64 x8),(.int .i64 x9),(.int .i64 xA),(.int .i64 xB),(.int .i64 xC),(.int .i64 xD),(.int .i64 xE),(.int .u8 xF),(.int .i64 xG),(.str xH),(.int .i64 xI),(.int .i64 xJ),(.int .i64 xK),(.int .i64 xL),(.int .i64 xM),(.int .u8 xN),(.int .i64 xO),(.str xP)] false),(.cells zo [(.int .i64 xQ),(.int .i64 xR),(.bool xS),(.str xT)] false)])
noncomputable def z8v (x0:Int) (x1:List UInt8) (x2 x3:Int) (x4:Bool) (x5:List UInt8) (x6:List PV) (x7:Bool) (x8 x9 xA xB xC xD xE xF xG:Int) (xH:List UInt8) (xI xJ xK xL xM xN xO:Int) (xP:List UInt8) (xQ xR:Int) (xS:Bool) (xT:List UInt8):Option PV :=
 runW EE z7p (zd EE z2x 7 (mkT 57 [(1,(.int .i64 x0)),(2,(.ptr 0 0)),(4,(.ptr 1 0))]) [(.cells zr [(.str x1),(.int .i64 x2),(.int .i64 x3),(.bool x4),(.str x5),(.sl 4 x6),(.bool x7),(.int .i64 x8),(.int .i64 x9),(.int .i64 xA),(.int .i64 xB),(.int .i64 xC),(.int .i64 xD),(.int .i64 xE),(.int .u8 xF),(.int .i64 xG),(.str xH),(.int .i64 xI),(.int .i64 xJ),(.int .i64 xK),(.int .i64 xL),(.int .i64 xM),(.int .u8 xN),(.int .i64 xO),(.str xP)] false),(.cells zo [(.int .i64 xQ),(.int .i64 xR),(.bool xS),(.str xT)] false)])
noncomputable def z5o (x0 x1:Int) (x2:List UInt8) (x3 x4:Int) (x5:Bool) (x6:List UInt8) (x7:List PV) (x8:Bool) (x9 xA xB xC xD xE xF xG xH:Int) (xI:List UInt8) (xJ xK xL xM xN xO xP:Int) (xQ:List UInt8) (xR xS:Int) (xT:Bool) (xU:List UInt8) (xV xW:Int) (xX:Bool) (xY:List UInt8):Option PV :=
 runW EE z7p (zd EE z2x 9 (mkT 57 [(1,(.int .i64 x0)),(2,(.ptr 0 0)),(4,(.ptr 1 0)),(6,(.ptr 2 0)),(7,(.int .i64 x1))]) [(.cells zr [(.str x2),(.int .i64 x3),(.int .i64 x4),(.bool x5),(.str x6),(.sl 4 x7),(.bool x8),(.int .i64 x9),(.int .i64 xA),(.int .i64 xB),(.int .i64 xC),(.int .i64 xD),(.int .i64 xE),(.int .i64 xF),(.int .u8 xG),(.int .i64 xH),(.str xI),(.int .i64 xJ),(.int .i64 xK),(.int .i64 xL),(.int .i64 xM),(.int .i64 xN),(.int .u8 xO),(.int .i64 xP),(.str xQ)] false),(.cells zo [(.int .i64 xR),(.int .i64 xS),(.bool xT),(.str xU)] false),(.cells zo [(.int .i64 xV),(.int .i64 xW),(.bool xX),(.str xY)] false)])
noncomputable def za6 (a0 a1:Int):Option PV:=callF EE zcj [(.int .i64 a0),(.int .i64 a1)]
noncomputable def zdc (a0_0 a0_1:Int):Option PV:=callF EE zew [(.agg [(.int .i64 a0_0),(.int .i64 a0_1)])]
noncomputable abbrev zal:List TI:=funTI EE z35
noncomputable def za4 (a0_0 a0_1 a1_0 a1_1 a1_2:Int):Option PV:=callF EE z35 [(.agg [(.int .i64 a0_0),(.int .i64 a0_1)]),(.agg [(.int .i64 a1_0),(.int .i64 a1_1),(.int .i64 a1_2)])]
noncomputable def z4l (x0 x1 x2:Int) (x3:List UInt8) (x4 x5 x6:Int):Option PV :=
 runW EE zal (zd EE z35 6 (mkT 77 [(3,(.ptr 0 0)),(6,(.int .i64 x0)),(7,(.int .i64 x1)),(8,(.int .i64 x2)),(10,(.str x3))]) [(.cells z6g [(.int .i64 x4),(.int .i64 x5),(.int .i64 x6)] false)])
noncomputable def z37 (x0 x1:Int) (x2:List UInt8) (x3:List UInt8) (x4 x5 x6:Int):Option PV :=
 runW EE zal (zd EE z35 7 (mkT 77 [(3,(.ptr 0 0)),(7,(.int .i64 x0)),(8,(.int .i64 x1)),(10,(.str x2)),(11,(.str x3))]) [(.cells z6g [(.int .i64 x4),(.int .i64 x5),(.int .i64 x6)] false)])
noncomputable def zac (a0:Int):Option PV:=callF EE zck [(.int .i64 a0)]
noncomputable abbrev zc5:List TI:=funTI EE z3m
noncomputable def z1e (a0:Int):Option PV:=callF EE z3m [(.int .i64 a0)]
noncomputable def zdw (x0:Int):Option PV :=
 runW EE zc5 (zd EE z3m 2 (mkT 24 [(0,(.int .i64 x0))]) [])
noncomputable def z7v (x0:Int):Option PV :=
 runW EE zc5 (zd EE z3m 3 (mkT 24 [(0,(.int .i64 x0))]) [])
noncomputable def z153 (a0_0 a0_1 a0_2 a0_3:Int):Option PV:=callF EE z10f [(.agg [(.int .i64 a0_0),(.int .i64 a0_1),(.int .i64 a0_2),(.int .i64 a0_3)])]
noncomputable def z154 (a0_0 a0_1 a0_2 a0_3:Int):Option PV:=callF EE z10g [(.agg [(.int .i64 a0_0),(.int .i64 a0_1),(.int .i64 a0_2),(.int .i64 a0_3)])]
noncomputable abbrev zgs:List TI:=funTI EE z2m
noncomputable def zie (a0_0 a0_1 a0_2 a0_3:Int):Option PV:=callF EE z2m [(.agg [(.int .i64 a0_0),(.int .i64 a0_1),(.int .i64 a0_2),(.int .i64 a0_3)])]
noncomputable def qk4 (f p:Nat) (T:List PV) (y0 y1 y2 y3 y4:Int):Option PV:=runW EE zgs (zd EE f p T [(.cells zqw [(.int .i64 y0),(.int .i64 y1),(.int .i64 y2),(.int .i64 y3)] false),(.cells z2d [(.int .i64 y4)] false)])
noncomputable def z4e (x0:List UInt8) (x1 x2 x3 x4 x5:Int):Option PV :=
 qk4 z2m 3 (mkT 49 [(1,(.ptr 0 0)),(3,(.ptr 1 0)),(4,(.str x0))]) x1 x2 x3 x4 x5
noncomputable def z1t (x0:List UInt8) (x1:List UInt8) (x2 x3 x4 x5 x6:Int):Option PV :=
 qk4 z2m 4 (mkT 49 [(1,(.ptr 0 0)),(3,(.ptr 1 0)),(4,(.str x0)),(5,(.str x1))]) x2 x3 x4 x5 x6
noncomputable def z1s (x0:List UInt8) (x1:List UInt8) (x2:List UInt8) (x3 x4 x5 x6 x7:Int):Option PV :=
 qk4 z2m 5 (mkT 49 [(1,(.ptr 0 0)),(3,(.ptr 1 0)),(4,(.str x0)),(5,(.str x1)),(6,(.str x2))]) x3 x4 x5 x6 x7
noncomputable def zjg (x0:List UInt8) (x1:List UInt8) (x2:List UInt8) (x3 x4 x5 x6:Int):Option PV :=
 runW EE zgs (zd EE z2m 7 (mkT 49 [(1,(.ptr 0 0)),(4,(.str x0)),(5,(.str x1)),(6,(.str x2))]) [(.cells zqw [(.int .i64 x3),(.int .i64 x4),(.int .i64 x5),(.int .i64 x6)] false)])
noncomputable def z8j (x0:List UInt8) (x1:List UInt8) (x2:List UInt8) (x3:List UInt8) (x4 x5 x6 x7 x8:Int):Option PV :=
 qk4 z2m 8 (mkT 49 [(1,(.ptr 0 0)),(3,(.ptr 1 0)),(4,(.str x0)),(5,(.str x1)),(6,(.str x2)),(7,(.str x3))]) x4 x5 x6 x7 x8
noncomputable def zef (a0 a1:Int):Option PV:=callF EE zq2 [(.int .i64 a0),(.int .i64 a1)]
noncomputable def z6s (a0:Int):Option PV:=callF EE zqe [(.int .i64 a0)]
noncomputable abbrev z1b1:List TI:=funTI EE zhe
noncomputable def z16d (a0_0:Bool) (a0_1 a0_2 a0_3 a0_4 a0_5 a0_6 a0_7 a0_8 a0_9:Int) (a0_10:List UInt8) (a0_11 a0_12 a0_13 a0_14 a0_15 a0_16 a0_17:Int) (a0_18:List UInt8) (a1:Int):Option PV:=callF EE zhe [(.agg [(.bool a0_0),(.int .i64 a0_1),(.int .i64 a0_2),(.int .i64 a0_3),(.int .i64 a0_4),(.int .i64 a0_5),(.int .i64 a0_6),(.int .i64 a0_7),(.int .u8 a0_8),(.int .i64 a0_9),(.str a0_10),(.int .i64 a0_11),(.int .i64 a0_12),(.int .i64 a0_13),(.int .i64 a0_14),(.int .i64 a0_15),(.int .u8 a0_16),(.int .i64 a0_17),(.str a0_18)]),(.int .i64 a1)]
noncomputable def z2o (x0 x1:Int) (x2:Bool) (x3 x4 x5 x6 x7 x8 x9 xA xB:Int) (xC:List UInt8) (xD xE xF xG xH xI xJ:Int) (xK:List UInt8) (xL xM:Int) (xN:Bool) (xO:List UInt8) (xP xQ:Int) (xR:Bool) (xS:List UInt8) (xT xU:Int):Option PV :=
 runW EE z1b1 (confAtS EE z10j 2 (mkT 30 [(0,(.func (Go.Fn.yield 0) [(.mapr 0)] [])),(2,(.ptr 1 0)),(4,(.int .i64 x0)),(5,(.int .i64 x1))]) [(loopAt EE zhe 0 Go.LoopState.ready [.undef,.undef,.undef,(.ptr 5 0),.undef,.undef,.undef,(.ptr 3 0),.undef,.undef,.undef,.undef,.undef,.undef,.undef,.undef,.undef,.undef,.undef,.undef,.undef,.undef,.undef,.undef,.undef,.undef]),(.cells zkm [(.bool x2),(.int .i64 x3),(.int .i64 x4),(.int .i64 x5),(.int .i64 x6),(.int .i64 x7),(.int .i64 x8),(.int .i64 x9),(.int .u8 xA),(.int .i64 xB),(.str xC),(.int .i64 xD),(.int .i64 xE),(.int .i64 xF),(.int .i64 xG),(.int .i64 xH),(.int .u8 xI),(.int .i64 xJ),(.str xK)] false),(.cells zo [(.int .i64 xL),(.int .i64 xM),(.bool xN),(.str xO)] false),(.cells zo [(.int .i64 xP),(.int .i64 xQ),(.bool xR),(.str xS)] false),.dfr,(.cells z2d [(.int .i64 xT)] false)] [frAtL EE zhe 0 (mkT 26 [(4,(.ptr 2 0)),(5,(.int .i64 xU)),(7,(.ptr 3 0))]) [((.mapr 4),[])] (.mapr 0)] [])
noncomputable def z3f (a0:Int):Option PV:=callF EE ztt [(.int .i64 a0)]
noncomputable def ztc (a0:Int):Option PV:=callF EE zwt [(.int .i64 a0)]
noncomputable def z15o (a0:Int):Option PV:=callF EE z13n [(.int .i64 a0)]
noncomputable def zic (a0:Int):Option PV:=callF EE zq7 [(.int .i64 a0)]
noncomputable def z1bt (a0 a1:Int):Option PV:=callF EE z13q [(.int .i64 a0),(.int .i64 a1)]
noncomputable def z15q (a0 a1:Int):Option PV:=callF EE z13p [(.int .i64 a0),(.int .i64 a1)]
noncomputable def z15p (a0 a1:Int):Option PV:=callF EE z13o [(.int .i64 a0),(.int .i64 a1)]
noncomputable abbrev z17s:List TI:=funTI EE zin
noncomputable def z1co (a0_0:List UInt8) (a0_1 a0_2:Int) (a0_3:Bool) (a0_4:List UInt8) (a0_5:List PV) (a0_6:Bool) (a0_7 a0_8 a0_9 a0_10 a0_11 a0_12 a0_13 a0_14 a0_15:Int) (a0_16:List UInt8) (a0_17 a0_18 a0_19 a0_20 a0_21 a0_22 a0_23:Int) (a0_24:List UInt8) (a1:List PV):Option PV:=callF EE zin [(.agg [(.str a0_0),(.int .i64 a0_1),(.int .i64 a0_2),(.bool a0_3),(.str a0_4),(.sl 4 a0_5),(.bool a0_6),(.int .i64 a0_7),(.int .i64 a0_8),(.int .i64 a0_9),(.int .i64 a0_10),(.int .i64 a0_11),(.int .i64 a0_12),(.int .i64 a0_13),(.int .u8 a0_14),(.int .i64 a0_15),(.str a0_16),(.int .i64 a0_17),(.int .i64 a0_18),(.int .i64 a0_19),(.int .i64 a0_20),(.int .i64 a0_21),(.int .u8 a0_22),(.int .i64 a0_23),(.str a0_24)]),(.sl 1 a1)]
noncomputable def zi5 (x0:List PV) (x1 x2:Int):Option PV :=
 runW EE z17s (zd EE zin 4 (mkT 20 [(10,(.sl 1 x0)),(11,(.int .i64 x1)),(12,(.int .i64 x2))]) [])
noncomputable abbrev zyz:List TI:=funTI EE zhd
noncomputable def z1an (a0_0:List UInt8) (a0_1 a0_2:Int) (a0_3:Bool) (a0_4:List UInt8) (a0_5:List PV) (a0_6:Bool) (a0_7 a0_8 a0_9 a0_10 a0_11 a0_12 a0_13 a0_14 a0_15:Int) (a0_16:List UInt8) (a0_17 a0_18 a0_19 a0_20 a0_21 a0_22 a0_23:Int) (a0_24:List UInt8) (a1:Int):Option PV:=callF EE zhd [(.agg [(.str a0_0),(.int .i64 a0_1),(.int .i64 a0_2),(.bool a0_3),(.str a0_4),(.sl 4 a0_5),(.bool a0_6),(.int .i64 a0_7),(.int .i64 a0_8),(.int .i64 a0_9),(.int .i64 a0_10),(.int .i64 a0_11),(.int .i64 a0_12),(.int .i64 a0_13),(.int .u8 a0_14),(.int .i64 a0_15),(.str a0_16),(.int .i64 a0_17),(.int .i64 a0_18),(.int .i64 a0_19),(.int .i64 a0_20),(.int .i64 a0_21),(.int .u8 a0_22),(.int .i64 a0_23),(.str a0_24)]),(.int .i64 a1)]
noncomputable def z12l (x0:List UInt8) (x1 x2:Int) (x3:Bool) (x4:List UInt8) (x5:List PV) (x6:Bool) (x7 x8 x9 xA xB xC xD xE xF:Int) (xG:List UInt8) (xH xI xJ xK xL xM xN:Int) (xO:List UInt8) (xP xQ xR:Int) (xS:Bool) (xT:List UInt8):Option PV :=
 runW EE zyz (zd EE zhd 2 (mkT 41 [(2,(.ptr 0 0)),(3,(.ptr 1 0)),(4,(.ptr 2 0))]) [(.cells zi9 [(.str x0),(.int .i64 x1),(.int .i64 x2),(.bool x3),(.str x4),(.sl 4 x5),(.bool x6),(.int .i64 x7),(.int .i64 x8),(.int .i64 x9),(.int .i64 xA),(.int .i64 xB),(.int .i64 xC),(.int .i64 xD),(.int .u8 xE),(.int .i64 xF),(.str xG),(.int .i64 xH),(.int .i64 xI),(.int .i64 xJ),(.int .i64 xK),(.int .i64 xL),(.int .u8 xM),(.int .i64 xN),(.str xO)] false),(.cells z2d [(.int .i64 xP)] false),(.cells zo [(.int .i64 xQ),(.int .i64 xR),(.bool xS),(.str xT)] false)])
noncomputable def zmi (x0:List UInt8) (x1 x2:Int) (x3:Bool) (x4:List UInt8) (x5:List PV) (x6:Bool) (x7 x8 x9 xA xB xC xD xE xF:Int) (xG:List UInt8) (xH xI xJ xK xL xM xN:Int) (xO:List UInt8) (xP xQ xR:Int) (xS:Bool) (xT:List UInt8):Option PV :=
 runW EE zyz (zd EE zhd 4 (mkT 41 [(2,(.ptr 0 0)),(3,(.ptr 1 0)),(4,(.ptr 2 0))]) [(.cells zi9 [(.str x0),(.int .i64 x1),(.int .i64 x2),(.bool x3),(.str x4),(.sl 4 x5),(.bool x6),(.int .i64 x7),(.int .i64 x8),(.int .i64 x9),(.int .i64 xA),(.int .i64 xB),(.int .i64 xC),(.int .i64 xD),(.int .u8 xE),(.int .i64 xF),(.str xG),(.int .i64 xH),(.int .i64 xI),(.int .i64 xJ),(.int .i64 xK),(.int .i64 xL),(.int .u8 xM),(.int .i64 xN),(.str xO)] false),(.cells z2d [(.int .i64 xP)] false),(.cells zo [(.int .i64 xQ),(.int .i64 xR),(.bool xS),(.str xT)] false)])
noncomputable def zub (a0_0 a0_1:Int):Option PV:=callF EE zwv [(.agg [(.int .i64 a0_0),(.int .i64 a0_1)])]
noncomputable def z4t (a0:Int):Option PV:=callF EE zqc [(.int .i64 a0)]
noncomputable abbrev z13:List TI:=funTI EE zv
noncomputable def z80 (a0:List UInt8) (a1:Int):Option PV:=callF EE zv [(.str a0),(.int .i64 a1)]
noncomputable def zgw (x0:List UInt8) (x1:Int):Option PV :=
 runW EE z13 (zd EE zv 8 (mkT 125 [(0,(.str x0)),(1,(.int .i64 x1))]) [])
noncomputable def zfq (x0:List UInt8) (x1:Int):Option PV :=
 runW EE z13 (zd EE zv 10 (mkT 125 [(0,(.str x0)),(6,(.int .u64 x1))]) [])
noncomputable def zfp (x0:List UInt8) (x1:Int):Option PV :=
 runW EE z13 (zd EE zv 11 (mkT 125 [(0,(.str x0)),(6,(.int .u64 x1))]) [])
noncomputable def z3d (x0:List UInt8) (x1:Int):Option PV :=
 runW EE z13 (zd EE zv 20 (mkT 125 [(0,(.str x0)),(7,(.int .i64 x1))]) [])
noncomputable def zsz (x0:List UInt8) (x1:Int):Option PV :=
 runW EE z13 (zd EE zv 30 (mkT 125 [(0,(.str x0)),(7,(.int .i64 x1))]) [])
noncomputable def zt1 (x0:Int):Option PV :=
 runW EE z13 (zd EE zv 21 (mkT 125 [(7,(.int .i64 x0))]) [])
noncomputable def z69 (x0:List UInt8) (x1:Int):Option PV :=
 runW EE z13 (zd EE zv 22 (mkT 125 [(0,(.str x0)),(7,(.int .i64 x1))]) [])
noncomputable def zt0 (x0:Int):Option PV :=
 runW EE z13 (zd EE zv 23 (mkT 125 [(7,(.int .i64 x0))]) [])
noncomputable def z68 (x0:List UInt8) (x1:Int):Option PV :=
 runW EE z13 (zd EE zv 24 (mkT 125 [(0,(.str x0)),(7,(.int .i64 x1))]) [])
noncomputable def z9t (x0:Int):Option PV :=
 runW EE z13 (zd EE zv 25 (mkT 125 [(7,(.int .i64 x0))]) [])
noncomputable def zfo (x0:List UInt8) (x1:Int):Option PV :=
 runW EE z13 (zd EE zv 26 (mkT 125 [(0,(.str x0)),(7,(.int .i64 x1))]) [])
noncomputable def zx2 (a0 a1:Int):Option PV:=callF EE zlq [(.int .i64 a0),(.int .i64 a1)]
noncomputable def zhw (a0:Int):Option PV:=callF EE ztu [(.int .u64 a0)]
noncomputable abbrev z4d:List TI:=funTI EE z1q
noncomputable def zkx (a0:List PV) (a1:List UInt8):Option PV:=callF EE z1q [(.sl 1 a0),(.str a1)]
noncomputable def zjf (x0:List PV) (x1:List UInt8) (x2:Int):Option PV :=
 runW EE z4d (zd EE z1q 10 (mkT 75 [(0,(.sl 1 x0)),(1,(.str x1)),(5,(.int .i64 x2))]) [])
noncomputable def zd6 (x0:List PV) (x1:List UInt8) (x2:Int):Option PV :=
 runW EE z4d (zd EE z1q 11 (mkT 75 [(0,(.sl 1 x0)),(1,(.str x1)),(5,(.int .i64 x2))]) [])
noncomputable def z8h (x0:List PV) (x1:List UInt8) (x2:Int) (x3:List PV) (x4 x5:Int):Option PV :=
 runW EE z4d (zd EE z1q 12 (mkT 75 [(0,(.sl 1 x0)),(1,(.str x1)),(5,(.int .i64 x2)),(39,(.sl 1 x3)),(40,(.int .i64 x4)),(41,(.int .i64 x5))]) [])
noncomputable def zje (x0:List PV) (x1:List UInt8) (x2:Int) (x3:List UInt8) (x4:List PV) (x5 x6:Int):Option PV :=
 runW EE z4d (zd EE z1q 16 (mkT 75 [(0,(.sl 1 x0)),(1,(.str x1)),(5,(.int .i64 x2)),(7,(.str x3)),(39,(.sl 1 x4)),(40,(.int .i64 x5)),(41,(.int .i64 x6))]) [])
noncomputable def qk6 (f p:Nat) (T:List PV) (y0:List PV):Option PV:=runW EE z4d (zd EE f p T [(.cells zfl [(.ptr 0 0),(.lall 1)] false),(.row zfk 1 y0 0 none)])
noncomputable def zd5 (x0:List PV) (x1:List UInt8) (x2:List PV):Option PV :=
 qk6 z1q 20 (mkT 75 [(0,(.sl 1 x0)),(1,(.str x1)),(8,(.ptr 0 0))]) x2
noncomputable def zfr (x0:List PV) (x1:List UInt8):Option PV :=
 runW EE z4d (zd EE z1q 20 (mkT 75 [(0,(.sl 1 x0)),(1,(.str x1)),(8,(.ptr 0 0))]) [(.cells zfl [(.ptr 0 0),.sl0] false)])
noncomputable def zd4 (x0:List PV) (x1:List UInt8) (x2:List PV):Option PV :=
 qk6 z1q 21 (mkT 75 [(0,(.sl 1 x0)),(1,(.str x1)),(8,(.ptr 0 0))]) x2
noncomputable def z8g (x0:List UInt8) (x1:List PV) (x2 x3:Int) (x4:List PV):Option PV :=
 qk6 z1q 22 (mkT 75 [(1,(.str x0)),(8,(.ptr 0 0)),(63,(.sl 1 x1)),(64,(.int .i64 x2)),(65,(.int .i64 x3))]) x4
noncomputable abbrev zjd:List TI:=funTI EE z6r
noncomputable def z73 (a0 a1:Int):Option PV:=callF EE z6r [(.int .u64 a0),(.int .i64 a1)]
noncomputable def z2k (x0 x1 x2:Int) (x3:List PV) (x4:Nat):Option PV :=
 runW EE zjd (zd EE z6r 3 (mkT 28 [(0,(.int .u64 x0)),(1,(.int .i64 x1)),(5,(.ptr 0 0)),(6,(.int .i64 x2))]) [(.row zw3 1 x3 0 (some x4))])
noncomputable def z38 (x0 x1 x2:Int) (x3:List PV) (x4:Nat):Option PV :=
 runW EE zjd (zd EE z6r 5 (mkT 28 [(0,(.int .u64 x0)),(1,(.int .i64 x1)),(5,(.ptr 0 0)),(6,(.int .i64 x2))]) [(.row zw3 1 x3 0 (some x4))])
noncomputable def z7g (a0 a1:Int):Option PV:=callF EE zds [(.int .i64 a0),(.int .i64 a1)]
noncomputable def z7f (a0 a1:Int):Option PV:=callF EE zdr [(.int .i64 a0),(.int .i64 a1)]
noncomputable abbrev z64:List TI:=funTI EE z27
noncomputable def z3h (a0:Int):Option PV:=callF EE z27 [(.int .i64 a0)]
noncomputable def z4r (x0 x1:Int):Option PV :=
 runW EE z64 (zd EE z27 5 (mkT 45 [(6,(.int .i64 x0)),(7,(.int .i64 x1))]) [])
noncomputable def z4q (x0 x1 x2:Int):Option PV :=
 runW EE z64 (zd EE z27 8 (mkT 45 [(6,(.int .i64 x0)),(7,(.int .i64 x1)),(8,(.int .i64 x2))]) [])
noncomputable def z49 (x0 x1 x2:Int):Option PV :=
 runW EE z64 (zd EE z27 12 (mkT 45 [(6,(.int .i64 x0)),(7,(.int .i64 x1)),(9,(.int .i64 x2))]) [])
noncomputable def z8z  : Option PV:=callF EE zaw []
noncomputable abbrev z63:List TI:=funTI EE z25
noncomputable def zaa (a0_0:Bool) (a0_1 a0_2 a0_3 a0_4 a0_5 a0_6 a0_7 a0_8 a0_9:Int) (a0_10:List UInt8) (a0_11 a0_12 a0_13 a0_14 a0_15 a0_16 a0_17:Int) (a0_18:List UInt8) (a1:Int):Option PV:=callF EE z25 [(.agg [(.bool a0_0),(.int .i64 a0_1),(.int .i64 a0_2),(.int .i64 a0_3),(.int .i64 a0_4),(.int .i64 a0_5),(.int .i64 a0_6),(.int .i64 a0_7),(.int .u8 a0_8),(.int .i64 a0_9),(.str a0_10),(.int .i64 a0_11),(.int .i64 a0_12),(.int .i64 a0_13),(.int .i64 a0_14),(.int .i64 a0_15),(.int .u8 a0_16),(.int .i64 a0_17),(.str a0_18)]),(.int .i64 a1)]
noncomputable def z6w  : Option PV :=
 runW EE z63 (zd EE z25 5 (mkT 40 []) [])
noncomputable def zct (x0:Int) (x1:Bool) (x2 x3 x4 x5 x6 x7 x8 x9 xA:Int) (xB:List UInt8) (xC xD xE xF xG xH xI:Int) (xJ:List UInt8):Option PV :=
 runW EE z63 (zd EE z25 6 (mkT 40 [(2,(.ptr 0 0)),(6,(.int .i64 x0))]) [(.cells z1m [(.bool x1),(.int .i64 x2),(.int .i64 x3),(.int .i64 x4),(.int .i64 x5),(.int .i64 x6),(.int .i64 x7),(.int .i64 x8),(.int .u8 x9),(.int .i64 xA),(.str xB),(.int .i64 xC),(.int .i64 xD),(.int .i64 xE),(.int .i64 xF),(.int .i64 xG),(.int .u8 xH),(.int .i64 xI),(.str xJ)] false)])
noncomputable def z4n (x0 x1:Int) (x2:Bool) (x3 x4 x5 x6 x7 x8 x9 xA xB:Int) (xC:List UInt8) (xD xE xF xG xH xI xJ:Int) (xK:List UInt8) (xL:List PV):Option PV :=
 runW EE z63 (zd EE z25 8 (mkT 40 [(2,(.ptr 0 0)),(6,(.int .i64 x0)),(7,(.lall 1)),(8,(.int .i64 x1))]) [(.cells z1m [(.bool x2),(.int .i64 x3),(.int .i64 x4),(.int .i64 x5),(.int .i64 x6),(.int .i64 x7),(.int .i64 x8),(.int .i64 x9),(.int .u8 xA),(.int .i64 xB),(.str xC),(.int .i64 xD),(.int .i64 xE),(.int .i64 xF),(.int .i64 xG),(.int .i64 xH),(.int .u8 xI),(.int .i64 xJ),(.str xK)] false),(.row zo 4 xL 0 none)])
noncomputable def z8t (a0:Int):Option PV:=callF EE zas [(.int .i64 a0)]
noncomputable def zbk (a0 a1:Int):Option PV:=callF EE zdq [(.int .i64 a0),(.int .i64 a1)]
noncomputable def za5 (a0_0 a0_1 a1 a2:Int):Option PV:=callF EE zci [(.agg [(.int .i64 a0_0),(.int .i64 a0_1)]),(.int .i64 a1),(.int .i64 a2)]
noncomputable def z8s (a0_0 a0_1:Int):Option PV:=callF EE zar [(.agg [(.int .i64 a0_0),(.int .i64 a0_1)])]
noncomputable abbrev z9r:List TI:=funTI EE z2r
noncomputable def zf2 (a0:Int):Option PV:=callF EE z2r [(.int .i64 a0)]
noncomputable def zb9  : Option PV :=
 runW EE z9r (zd EE z2r 2 (mkT 25 []) [])
noncomputable def zb8 (x0:Int):Option PV :=
 runW EE z9r (zd EE z2r 3 (mkT 25 [(0,(.int .i64 x0))]) [])
noncomputable abbrev z4a:List TI:=funTI EE z1d
noncomputable def z66 (a0:Int):Option PV:=callF EE z1d [(.int .i64 a0)]
noncomputable def z4x  : Option PV :=
 runW EE z4a (zd EE z1d 2 (mkT 27 []) [])
noncomputable def z8a (x0:Int):Option PV :=
 runW EE z4a (zd EE z1d 3 (mkT 27 [(0,(.int .i64 x0))]) [])
noncomputable def z31 (x0:List UInt8):Option PV :=
 runW EE z4a (zd EE z1d 4 (mkT 27 [(3,(.str x0))]) [])
noncomputable def zbe (a0:Int):Option PV:=callF EE zq8 [(.int .i64 a0)]
noncomputable def zr2 (a0:List UInt8) (a1:List UInt8):Option PV:=callF EE zq4 [(.str a0),(.str a1)]
noncomputable def zbm (a0:Int):Option PV:=callF EE ztw [(.int .i64 a0)]
noncomputable def z8m (a0:Int) (a1:List UInt8):Option PV:=callF EE zqb [(.int .i64 a0),(.str a1)]
noncomputable def zl4 (a0:Int):Option PV:=callF EE zlo [(.int .i64 a0)]
noncomputable def zvk (a0:Int):Option PV:=callF EE zts [(.int .i64 a0)]
noncomputable def zj8  : Option PV:=callF EE zqj []
noncomputable def zov  : Option PV:=callF EE zty []
noncomputable def z7i (a0:Int):Option PV:=callF EE zu0 [(.int .i64 a0)]
noncomputable def z13i (a0_0:Bool) (a0_1 a0_2 a0_3 a0_4 a0_5 a0_6 a0_7 a0_8 a0_9:Int) (a0_10:List UInt8) (a0_11 a0_12 a0_13 a0_14 a0_15 a0_16 a0_17:Int) (a0_18:List UInt8) (a1:Int):Option PV:=callF EE ztr [(.agg [(.bool a0_0),(.int .i64 a0_1),(.int .i64 a0_2),(.int .i64 a0_3),(.int .i64 a0_4),(.int .i64 a0_5),(.int .i64 a0_6),(.int .i64 a0_7),(.int .u8 a0_8),(.int .i64 a0_9),(.str a0_10),(.int .i64 a0_11),(.int .i64 a0_12),(.int .i64 a0_13),(.int .i64 a0_14),(.int .i64 a0_15),(.int .u8 a0_16),(.int .i64 a0_17),(.str a0_18)]),(.int .i64 a1)]
noncomputable def num_Sub (a0 a1:Int):Option PV:=callF EE z13m [(.int .i64 a0),(.int .i64 a1)]
noncomputable abbrev zsu:List TI:=funTI EE zch
noncomputable def z18s (a0 a1 a2:Int):Option PV:=callF EE zch [(.int .i64 a0),(.int .i64 a1),(.int .i64 a2)]
noncomputable def zfz (x0:Bool) (x1:Int):Option PV :=
 runW EE zsu (zd EE zch 9 (mkT 66 [(10,(.bool x0)),(11,(.int .u64 x1))]) [])
noncomputable def ztd (x0:Int):Option PV :=
 runW EE zsu (zd EE zch 10 (mkT 66 [(11,(.int .u64 x0))]) [])
noncomputable def zuu (a0:Int):Option PV:=callF EE ztm [(.int .i64 a0)]
noncomputable abbrev zz0:List TI:=funTI EE zbx
noncomputable def zz3 (a0:Int) (a1:PV):Option PV:=callF EE zbx [(.int .i64 a0),a1]
noncomputable def z81 (x0:PV) (x1 x2:Int):Option PV :=
 runW EE zz0 (zd EE zbx 2 (mkT 26 [(1,(.opq x0 0)),(5,(.int .i64 x1)),(6,(.int .i64 x2))]) [])
noncomputable def z17f (a0:Int) (q0:PV) (q1:PV):Option PV:=callF EE zce [(.int .i64 a0),q0,q1]
noncomputable def z1f8 (a0 a1:Int):Option PV:=callF EE z10n [(.int .u64 a0),(.int .u64 a1)]
noncomputable def z77 (a0:List UInt8) (a1:List UInt8):Option PV:=callF EE zdj [(.str a0),(.str a1)]
noncomputable def z110 (a0:Int):Option PV:=callF EE zqf [(.int .u64 a0)]
noncomputable abbrev z9s:List TI:=funTI EE z3t
noncomputable def zbz (a0:Int):Option PV:=callF EE z3t [(.int .i64 a0)]
noncomputable def zbn  : Option PV :=
 runW EE z9s (zd EE z3t 2 (mkT 30 []) [])
noncomputable def zhx (x0:Int):Option PV :=
 runW EE z9s (zd EE z3t 3 (mkT 30 [(0,(.int .i64 x0))]) [])
noncomputable def z5d (x0:List UInt8) (x1:Int) (x2:List UInt8) (x3:Nat):Option PV :=
 runW EE z9s (zd EE z3t 6 (mkT 30 [(3,(.str x0)),(4,(.int .i64 x1)),(17,(.ptr 0 0))]) [(.iter x2 x3)])
noncomputable abbrev z5i:List TI:=funTI EE z1y
noncomputable def z24 (a0_0:Bool) (a0_1:List PV):Option PV:=callF EE z1y [(.agg [(.bool a0_0),(.sl 1 a0_1)])]
noncomputable def zp (x0:Int) (x1:Bool) (x2:List PV):Option PV :=
 runW EE z5i (zd EE z1y 2 (mkT 43 [(1,(.ptr 0 0)),(4,(.int .i64 x0))]) [(.cells zj [(.bool x1),(.sl 1 x2)] false)])
noncomputable def z67 (x0:Int):Option PV :=
 runW EE z5i (zd EE z1y 8 (mkT 43 [(5,(.int .u64 x0))]) [])
noncomputable def z2t (x0:Int) (x1:Bool) (x2:List PV):Option PV :=
 runW EE z5i (zd EE z1y 9 (mkT 43 [(1,(.ptr 0 0)),(5,(.int .u64 x0))]) [(.cells zj [(.bool x1),(.sl 1 x2)] false)])
noncomputable abbrev zjt:List TI:=funTI EE z4k
noncomputable def z6e (a0_0:Bool) (a0_1:List PV) (a1_0:Bool) (a1_1:List PV):Option PV:=callF EE z4k [(.agg [(.bool a0_0),(.sl 1 a0_1)]),(.agg [(.bool a1_0),(.sl 1 a1_1)])]
noncomputable def zcz (x0:List PV) (x1:Bool) (x2:List PV) (x3:Bool) (x4:List PV) (x5:Bool):Option PV :=
 runW EE zjt (zd EE z4k 3 (mkT 41 [(2,(.ptr 0 0)),(3,(.ptr 1 0)),(4,(.ptr 2 0)),(5,(.sl 1 x0))]) [(.cells zj [(.bool x1),(.sl 1 x2)] false),(.cells zj [(.bool x3),(.sl 1 x4)] false),(.cells zj [(.bool x5),.sl0] false)])
noncomputable abbrev zp3:List TI:=funTI EE z5n
noncomputable def zz (a0:Int):Option PV:=callF EE z5n [(.int .i64 a0)]
noncomputable def z5w (x0 x1:Int) (x2:Bool):Option PV :=
 runW EE zp3 (zd EE z5n 4 (mkT 24 [(0,(.int .i64 x0)),(2,(.ptr 0 0)),(3,(.int .u64 x1))]) [(.cells zj [(.bool x2),.sl0] false)])
noncomputable def z6d (a0_0:Bool) (a0_1:List PV) (a1_0:Bool) (a1_1:List PV):Option PV:=callF EE zcp [(.agg [(.bool a0_0),(.sl 1 a0_1)]),(.agg [(.bool a1_0),(.sl 1 a1_1)])]
noncomputable def z90 (a0_0:Bool) (a0_1:List PV):Option PV:=callF EE zay [(.agg [(.bool a0_0),(.sl 1 a0_1)])]
noncomputable abbrev z5h:List TI:=funTI EE z1h
noncomputable def z5u (a0_0:Bool) (a0_1:List PV) (a1_0:Bool) (a1_1:List PV):Option PV:=callF EE z1h [(.agg [(.bool a0_0),(.sl 1 a0_1)]),(.agg [(.bool a1_0),(.sl 1 a1_1)])]
noncomputable def qk8 (f p:Nat) (T:List PV) (y0:Bool) (y1:List PV) (y2:Bool) (y3:List PV) (y4:Bool) (y5:List PV) (y6:Nat):Option PV:=runW EE z5h (zd EE f p T [(.cells zj [(.bool y0),(.sl 1 y1)] false),(.cells zj [(.bool y2),(.sl 1 y3)] false),(.cells zj [(.bool y4),.sl0] false),(.row z7y 1 y5 0 (some y6))])
noncomputable def zbb (x0:Int) (x1:Bool) (x2:List PV) (x3:Bool) (x4:List PV) (x5:Bool) (x6:List PV) (x7:Nat):Option PV :=
 qk8 z1h 3 (mkT 57 [(2,(.ptr 0 0)),(3,(.ptr 1 0)),(4,(.ptr 2 0)),(5,(.lall 3)),(6,(.int .i64 x0))]) x1 x2 x3 x4 x5 x6 x7
noncomputable def zw (x0 x1 x2:Int) (x3:Bool) (x4:List PV) (x5:Bool) (x6:List PV) (x7:Bool) (x8:List PV) (x9:Nat) (xA:List PV) (xB:Nat):Option PV :=
 runW EE z5h (zd EE z1h 8 (mkT 57 [(2,(.ptr 0 0)),(3,(.ptr 1 0)),(4,(.ptr 2 0)),(5,(.lall 3)),(6,(.int .i64 x0)),(7,(.lall 4)),(8,(.int .u64 x1)),(9,(.int .i64 x2))]) [(.cells zj [(.bool x3),(.sl 1 x4)] false),(.cells zj [(.bool x5),(.sl 1 x6)] false),(.cells zj [(.bool x7),.sl0] false),(.row z7y 1 x8 0 (some x9)),(.row z7y 1 xA 0 (some xB))])
noncomputable def z2b (x0:List PV) (x1:Int) (x2:Bool) (x3:List PV) (x4:Bool) (x5:List PV) (x6:Bool):Option PV :=
 runW EE z5h (zd EE z1h 3 (mkT 57 [(2,(.ptr 0 0)),(3,(.ptr 1 0)),(4,(.ptr 2 0)),(5,(.sl 1 x0)),(6,(.int .i64 x1))]) [(.cells zj [(.bool x2),(.sl 1 x3)] false),(.cells zj [(.bool x4),(.sl 1 x5)] false),(.cells zj [(.bool x6),.sl0] false)])
noncomputable def zq (x0:List PV) (x1 x2 x3:Int) (x4:Bool) (x5:List PV) (x6:Bool) (x7:List PV) (x8:Bool) (x9:List PV) (xA:Nat):Option PV :=
 qk8 z1h 8 (mkT 57 [(2,(.ptr 0 0)),(3,(.ptr 1 0)),(4,(.ptr 2 0)),(5,(.sl 1 x0)),(6,(.int .i64 x1)),(7,(.lall 3)),(8,(.int .u64 x2)),(9,(.int .i64 x3))]) x4 x5 x6 x7 x8 x9 xA
noncomputable def zbj (a0:Int):Option PV:=callF EE zdp [(.int .i64 a0)]
noncomputable def z7e (a0 a1:Int):Option PV:=callF EE zdo [(.int .i64 a0),(.int .i64 a1)]
noncomputable def z1w (a0 a1:Int):Option PV:=callF EE zdn [(.int .i64 a0),(.int .i64 a1)]
noncomputable def z4p (a0:Int):Option PV:=callF EE zcl [(.int .i64 a0)]
noncomputable abbrev zc6:List TI:=funTI EE z3n
noncomputable def z2z (a0 a1:Int):Option PV:=callF EE z3n [(.int .i64 a0),(.int .i64 a1)]
noncomputable def zcy (x0 x1:Int):Option PV :=
 runW EE zc6 (zd EE z3n 10 (mkT 23 [(0,(.int .i64 x0)),(5,(.int .i64 x1))]) [])
noncomputable def zcx (x0 x1:Int):Option PV :=
 runW EE zc6 (zd EE z3n 15 (mkT 23 [(0,(.int .i64 x0)),(5,(.int .i64 x1))]) [])
noncomputable abbrev zko:List TI:=funTI EE z50
noncomputable def z5c (a0 a1 a2:Int):Option PV:=callF EE z50 [(.int .i64 a0),(.int .i64 a1),(.int .i64 a2)]
noncomputable def z55 (x0 x1 x2 x3:Int):Option PV :=
 runW EE zko (zd EE z50 3 (mkT 25 [(0,(.int .i64 x0)),(1,(.int .i64 x1)),(7,(.int .i64 x2)),(8,(.int .i64 x3))]) [])
noncomputable abbrev z9q:List TI:=funTI EE z2q
noncomputable def z5r (a0_0:Bool) (a0_1 a0_2 a0_3 a0_4 a0_5 a0_6 a0_7 a0_8 a0_9:Int) (a0_10:List UInt8) (a0_11 a0_12 a0_13 a0_14 a0_15 a0_16 a0_17:Int) (a0_18:List UInt8):Option PV:=callF EE z2q [(.agg [(.bool a0_0),(.int .i64 a0_1),(.int .i64 a0_2),(.int .i64 a0_3),(.int .i64 a0_4),(.int .i64 a0_5),(.int .i64 a0_6),(.int .i64 a0_7),(.int .u8 a0_8),(.int .i64 a0_9),(.str a0_10),(.int .i64 a0_11),(.int .i64 a0_12),(.int .i64 a0_13),(.int .i64 a0_14),(.int .i64 a0_15),(.int .u8 a0_16),(.int .i64 a0_17),(.str a0_18)])]
noncomputable def z1z  : Option PV :=
 runW EE z9q (zd EE z2q 2 (mkT 46 []) [])
noncomputable def zb7 (x0:Bool) (x1 x2 x3 x4 x5 x6 x7 x8 x9:Int) (xA:List UInt8) (xB xC xD xE xF xG xH:Int) (xI:List UInt8):Option PV :=
 runW EE z9q (zd EE z2q 3 (mkT 46 [(1,(.ptr 0 0))]) [(.cells z1m [(.bool x0),(.int .i64 x1),(.int .i64 x2),(.int .i64 x3),(.int .i64 x4),(.int .i64 x5),(.int .i64 x6),(.int .i64 x7),(.int .u8 x8),(.int .i64 x9),(.str xA),(.int .i64 xB),(.int .i64 xC),(.int .i64 xD),(.int .i64 xE),(.int .i64 xF),(.int .u8 xG),(.int .i64 xH),(.str xI)] false)])
noncomputable abbrev zam:List TI:=funTI EE z36
noncomputable def zab (a0_0:Bool) (a0_1 a0_2 a0_3 a0_4 a0_5 a0_6 a0_7 a0_8 a0_9:Int) (a0_10:List UInt8) (a0_11 a0_12 a0_13 a0_14 a0_15 a0_16 a0_17:Int) (a0_18:List UInt8) (a1:Int):Option PV:=callF EE z36 [(.agg [(.bool a0_0),(.int .i64 a0_1),(.int .i64 a0_2),(.int .i64 a0_3),(.int .i64 a0_4),(.int .i64 a0_5),(.int .i64 a0_6),(.int .i64 a0_7),(.int .u8 a0_8),(.int .i64 a0_9),(.str a0_10),(.int .i64 a0_11),(.int .i64 a0_12),(.int .i64 a0_13),(.int .i64 a0_14),(.int .i64 a0_15),(.int .u8 a0_16),(.int .i64 a0_17),(.str a0_18)]),(.int .i64 a1)]
noncomputable def zcv  : Option PV :=
 runW EE zam (zd EE z36 4 (mkT 46 []) [])
noncomputable def zcu (x0:Int) (x1:Bool) (x2 x3 x4 x5 x6 x7 x8 x9 xA:Int) (xB:List UInt8) (xC xD xE xF xG xH xI:Int) (xJ:List UInt8):Option PV :=
 runW EE zam (zd EE z36 5 (mkT 46 [(1,(.int .i64 x0)),(2,(.ptr 0 0))]) [(.cells z1m [(.bool x1),(.int .i64 x2),(.int .i64 x3),(.int .i64 x4),(.int .i64 x5),(.int .i64 x6),(.int .i64 x7),(.int .i64 x8),(.int .u8 x9),(.int .i64 xA),(.str xB),(.int .i64 xC),(.int .i64 xD),(.int .i64 xE),(.int .i64 xF),(.int .i64 xG),(.int .u8 xH),(.int .i64 xI),(.str xJ)] false)])
noncomputable def zbl (a0 a1:Int):Option PV:=callF EE zdt [(.int .i64 a0),(.int .i64 a1)]
noncomputable def zkr (a0:List UInt8) (a1:List UInt8):Option PV:=callF EE zg2 [(.str a0),(.str a1)]
noncomputable def z1n (a0:Int):Option PV:=callF EE zq9 [(.int .i64 a0)]
noncomputable def z2g (a0:List UInt8) (a1:List UInt8):Option PV:=callF EE zcf [(.str a0),(.str a1)]
noncomputable abbrev z14u:List TI:=funTI EE zg6
noncomputable def zm8 (a0 a1 a2:Int):Option PV:=callF EE zg6 [(.int .i64 a0),(.int .i64 a1),(.int .i64 a2)]
noncomputable def zga (x0 x1 x2:Int):Option PV :=
 runW EE z14u (zd EE zg6 3 (mkT 41 [(0,(.int .i64 x0)),(1,(.int .i64 x1)),(2,(.int .i64 x2))]) [])
noncomputable def zuf (a0:Int):Option PV:=callF EE zwx [(.int .i64 a0)]
noncomputable def zj5 (a0:Int):Option PV:=callF EE zqg [(.int .i64 a0)]
noncomputable abbrev zw5:List TI:=funTI EE zev
noncomputable def z16c (a0_0:Bool) (a0_1 a0_2 a0_3 a0_4 a0_5 a0_6 a0_7 a0_8 a0_9:Int) (a0_10:List UInt8) (a0_11 a0_12 a0_13 a0_14 a0_15 a0_16 a0_17:Int) (a0_18:List UInt8):Option PV:=callF EE zev [(.agg [(.bool a0_0),(.int .i64 a0_1),(.int .i64 a0_2),(.int .i64 a0_3),(.int .i64 a0_4),(.int .i64 a0_5),(.int .i64 a0_6),(.int .i64 a0_7),(.int .u8 a0_8),(.int .i64 a0_9),(.str a0_10),(.int .i64 a0_11),(.int .i64 a0_12),(.int .i64 a0_13),(.int .i64 a0_14),(.int .i64 a0_15),(.int .u8 a0_16),(.int .i64 a0_17),(.str a0_18)])]
noncomputable def zbg  : Option PV :=
 runW EE zw5 (zd EE zev 2 (mkT 46 []) [])
noncomputable def z10b (x0:Bool) (x1 x2 x3 x4 x5 x6 x7 x8 x9:Int) (xA:List UInt8) (xB xC xD xE xF xG xH:Int) (xI:List UInt8):Option PV :=
 runW EE zw5 (zd EE zev 3 (mkT 46 [(1,(.ptr 0 0))]) [(.cells zkm [(.bool x0),(.int .i64 x1),(.int .i64 x2),(.int .i64 x3),(.int .i64 x4),(.int .i64 x5),(.int .i64 x6),(.int .i64 x7),(.int .u8 x8),(.int .i64 x9),(.str xA),(.int .i64 xB),(.int .i64 xC),(.int .i64 xD),(.int .i64 xE),(.int .i64 xF),(.int .u8 xG),(.int .i64 xH),(.str xI)] false)])
noncomputable abbrev z11t:List TI:=funTI EE ze9
noncomputable def zom (a0_0:Bool) (a0_1 a0_2 a0_3 a0_4 a0_5 a0_6 a0_7 a0_8 a0_9:Int) (a0_10:List UInt8) (a0_11 a0_12 a0_13 a0_14 a0_15 a0_16 a0_17:Int) (a0_18:List UInt8) (a1:Int) (a2:Bool):Option PV:=callF EE ze9 [(.agg [(.bool a0_0),(.int .i64 a0_1),(.int .i64 a0_2),(.int .i64 a0_3),(.int .i64 a0_4),(.int .i64 a0_5),(.int .i64 a0_6),(.int .i64 a0_7),(.int .u8 a0_8),(.int .i64 a0_9),(.str a0_10),(.int .i64 a0_11),(.int .i64 a0_12),(.int .i64 a0_13),(.int .i64 a0_14),(.int .i64 a0_15),(.int .u8 a0_16),(.int .i64 a0_17),(.str a0_18)]),(.int .i64 a1),(.bool a2)]
noncomputable def za0 (x0:Int) (x1:Bool) (x2:Bool) (x3 x4 x5 x6 x7 x8 x9 xA xB:Int) (xC:List UInt8) (xD xE xF xG xH xI xJ:Int) (xK:List UInt8) (xL xM:Int) (xN:Bool) (xO:List UInt8) (xP xQ xR xS xT xU xV:Int) (xW:List UInt8) (xX xY xZ x36 x37 x38 x39:Int) (x40:List UInt8):Option PV :=
 runW EE z11t (zd EE ze9 2 (mkT 51 [(1,(.int .i64 x0)),(2,(.bool x1)),(3,(.ptr 0 0)),(6,(.ptr 1 0)),(7,(.mapr 2))]) [(.cells zkm [(.bool x2),(.int .i64 x3),(.int .i64 x4),(.int .i64 x5),(.int .i64 x6),(.int .i64 x7),(.int .i64 x8),(.int .i64 x9),(.int .u8 xA),(.int .i64 xB),(.str xC),(.int .i64 xD),(.int .i64 xE),(.int .i64 xF),(.int .i64 xG),(.int .i64 xH),(.int .u8 xI),(.int .i64 xJ),(.str xK)] false),(.cells zo [(.int .i64 xL),(.int .i64 xM),(.bool xN),(.str xO)] false),(.bmap (some (.agg [(.int .i64 xP),(.int .i64 xQ),(.int .i64 xR),(.int .i64 xS),(.int .i64 xT),(.int .u8 xU),(.int .i64 xV),(.str xW)])) (some (.agg [(.int .i64 xX),(.int .i64 xY),(.int .i64 xZ),(.int .i64 x36),(.int .i64 x37),(.int .u8 x38),(.int .i64 x39),(.str x40)])))])
noncomputable def zri (a0 a1:Int):Option PV:=callF EE zqd [(.int .i64 a0),(.int .i64 a1)]
noncomputable def ztb (a0:Int):Option PV:=callF EE z10i [(.int .i64 a0)]
noncomputable abbrev zge:List TI:=funTI EE z79
noncomputable def z143 (a0 a1 a2:Int):Option PV:=callF EE z79 [(.int .u64 a0),(.int .u64 a1),(.int .u64 a2)]
noncomputable def zuj (x0 x1 x2:Int):Option PV :=
 runW EE zge (zd EE z79 3 (mkT 135 [(0,(.int .u64 x0)),(1,(.int .u64 x1)),(2,(.int .u64 x2))]) [])
noncomputable def zui (x0 x1 x2:Int):Option PV :=
 runW EE zge (zd EE z79 5 (mkT 135 [(0,(.int .u64 x0)),(1,(.int .u64 x1)),(2,(.int .u64 x2))]) [])
noncomputable def z12k (x0 x1 x2 x3 x4 x5 x6 x7 x8:Int):Option PV :=
 runW EE zge (zd EE z79 17 (mkT 135 [(2,(.int .u64 x0)),(8,(.int .u64 x1)),(9,(.int .u64 x2)),(10,(.int .u64 x3)),(11,(.int .u64 x4)),(13,(.int .u64 x5)),(14,(.int .u64 x6)),(15,(.int .u64 x7)),(16,(.int .u64 x8))]) [])
noncomputable abbrev z11s:List TI:=funTI EE ze8
noncomputable def zh6 (a0:Bool) (a1_0 a1_1:Int):Option PV:=callF EE ze8 [(.bool a0),(.agg [(.int .u64 a1_0),(.int .u64 a1_1)])]
noncomputable def zii (x0:Bool) (x1:List PV) (x2:Nat):Option PV :=
 runW EE z11s (zd EE ze8 5 (mkT 31 [(0,(.bool x0)),(3,(.ptr 0 0))]) [(.row z17q 1 x1 0 (some x2))])
noncomputable def zoy (a0 a1:Int):Option PV:=callF EE zu1 [(.int .u64 a0),(.int .u64 a1)]
noncomputable def z6j (a0:List UInt8) (a1:List UInt8):Option PV:=callF EE z9b [(.str a0),(.str a1)]
noncomputable abbrev z56:List TI:=funTI EE z1v
noncomputable def z7x (a0:List PV) (a1:List PV):Option PV:=callF EE z1v [(.sl 1 a0),(.sl 1 a1)]
noncomputable def z18 (x0:List PV) (x1:List PV) (x2:Int) (x3:List PV) (x4:Nat) (x5:List PV) (x6:Nat):Option PV :=
 runW EE z56 (zd EE z1v 4 (mkT 57 [(0,(.sl 1 x0)),(1,(.sl 1 x1)),(6,(.lall 0)),(7,(.lall 1)),(8,(.int .i64 x2))]) [(.row z7y 1 x3 0 (some x4)),(.row z7y 1 x5 0 (some x6))])
noncomputable def zy (x0:List PV) (x1:List PV) (x2:Int) (x3:List PV) (x4:Nat) (x5:List PV) (x6:Nat):Option PV :=
 runW EE z56 (zd EE z1v 7 (mkT 57 [(0,(.sl 1 x0)),(1,(.sl 1 x1)),(6,(.lall 0)),(7,(.lall 1)),(8,(.int .i64 x2))]) [(.row z7y 1 x3 0 (some x4)),(.row z7y 1 x5 0 (some x6))])
noncomputable def z1f (x0:List PV) (x1:List PV) (x2:List PV) (x3:Int) (x4:List PV) (x5:Nat):Option PV :=
 runW EE z56 (zd EE z1v 4 (mkT 57 [(0,(.sl 1 x0)),(1,(.sl 1 x1)),(6,(.lall 0)),(7,(.sl 1 x2)),(8,(.int .i64 x3))]) [(.row z7y 1 x4 0 (some x5))])
noncomputable def z1i (a0:List PV):Option PV:=callF EE zco [(.sl 1 a0)]
noncomputable abbrev zkq:List TI:=funTI EE z52
noncomputable def z2a (a0:List PV) (a1:List PV):Option PV:=callF EE z52 [(.sl 1 a0),(.sl 1 a1)]
noncomputable def zi (x0:List PV) (x1:List PV) (x2 x3:Int) (x4:List PV) (x5:Nat):Option PV :=
 runW EE zkq (zd EE z52 4 (mkT 32 [(0,(.sl 1 x0)),(1,(.sl 1 x1)),(5,(.lall 0)),(6,(.int .u64 x2)),(7,(.int .i64 x3))]) [(.row z7y 1 x4 0 (some x5))])
noncomputable abbrev zkp:List TI:=funTI EE z51
noncomputable def z3u (a0:List PV) (a1:List PV):Option PV:=callF EE z51 [(.sl 1 a0),(.sl 1 a1)]
noncomputable def zc (x0:List PV) (x1:List PV) (x2:Int):Option PV :=
 runW EE zkp (zd EE z51 2 (mkT 28 [(0,(.sl 1 x0)),(1,(.sl 1 x1)),(5,(.int .i64 x2))]) [])
noncomputable abbrev zjs:List TI:=funTI EE z4j
noncomputable def z3i (a0:List PV) (a1:List PV):Option PV:=callF EE z4j [(.sl 1 a0),(.sl 1 a1)]
noncomputable def zg (x0:List PV) (x1:List PV) (x2 x3:Int) (x4:List PV) (x5:Nat):Option PV :=
 runW EE zjs (zd EE z4j 4 (mkT 35 [(0,(.sl 1 x0)),(1,(.sl 1 x1)),(5,(.lall 0)),(6,(.int .u64 x2)),(7,(.int .i64 x3))]) [(.row z7y 1 x4 0 (some x5))])
noncomputable def zg8  : Option PV:=callF EE zcm []
noncomputable abbrev zia:List TI:=funTI EE z45
noncomputable def z8x (a0:Int):Option PV:=callF EE z45 [(.int .i64 a0)]
noncomputable def z2s (x0 x1 x2:Int):Option PV :=
 runW EE zia (zd EE z45 3 (mkT 24 [(0,(.int .i64 x0)),(3,(.int .i64 x1)),(4,(.int .i64 x2))]) [])
noncomputable def z5q (a0_0 a0_1 a0_2 a0_3 a0_4 a0_5 a0_6:Int) (a0_7:List UInt8):Option PV:=callF EE zau [(.agg [(.int .i64 a0_0),(.int .i64 a0_1),(.int .i64 a0_2),(.int .i64 a0_3),(.int .i64 a0_4),(.int .u8 a0_5),(.int .i64 a0_6),(.str a0_7)])]
noncomputable def z5p (a0_0 a0_1 a0_2 a0_3 a0_4 a0_5 a0_6:Int) (a0_7:List UInt8) (a1_0 a1_1 a1_2 a1_3 a1_4 a1_5 a1_6:Int) (a1_7:List UInt8) (a2 a3:Int):Option PV:=callF EE zat [(.agg [(.int .i64 a0_0),(.int .i64 a0_1),(.int .i64 a0_2),(.int .i64 a0_3),(.int .i64 a0_4),(.int .u8 a0_5),(.int .i64 a0_6),(.str a0_7)]),(.agg [(.int .i64 a1_0),(.int .i64 a1_1),(.int .i64 a1_2),(.int .i64 a1_3),(.int .i64 a1_4),(.int .u8 a1_5),(.int .i64 a1_6),(.str a1_7)]),(.int .i64 a2),(.int .i64 a3)]
noncomputable abbrev zc3:List TI:=funTI EE z3l
noncomputable def zbc (a0:List UInt8) (a1:List UInt8):Option PV:=callF EE z3l [(.str a0),(.str a1)]
noncomputable def zdh  : Option PV :=
 runW EE zc3 (zd EE z3l 3 (mkT 143 []) [])
noncomputable def zdg (x0:List UInt8) (x1:List UInt8) (x2:Int):Option PV :=
 runW EE zc3 (zd EE z3l 4 (mkT 143 [(0,(.str x0)),(1,(.str x1)),(5,(.int .i64 x2))]) [])
noncomputable def zan (a0:List UInt8) (a1:List UInt8):Option PV:=callF EE z87 [(.str a0),(.str a1)]
noncomputable def zf7 (a0 a1:Int):Option PV:=callF EE zqh [(.int .i64 a0),(.int .i64 a1)]
noncomputable def zon (a0_0 a0_1 a0_2 a0_3 a0_4 a0_5 a0_6:Int) (a0_7:List UInt8):Option PV:=callF EE ztq [(.agg [(.int .i64 a0_0),(.int .i64 a0_1),(.int .i64 a0_2),(.int .i64 a0_3),(.int .i64 a0_4),(.int .u8 a0_5),(.int .i64 a0_6),(.str a0_7)])]
noncomputable abbrev zfm:List TI:=funTI EE z8p
noncomputable def zxx (a0 a1 a2_0 a2_1 a2_2:Int):Option PV:=callF EE z8p [(.int .i64 a0),(.int .i64 a1),(.agg [(.int .i64 a2_0),(.int .i64 a2_1),(.int .i64 a2_2)])]
noncomputable def zi7  : Option PV :=
 runW EE zfm (zd EE z8p 3 (mkT 78 []) [])
noncomputable def zyq (x0 x1:Int) (x2:PV):Option PV :=
 runW EE zfm (zd EE z8p 4 (mkT 78 [(0,(.int .i64 x0)),(1,(.int .i64 x1)),(8,(.opq x2 0))]) [])
noncomputable def zqr  : Option PV :=
 runW EE zfm (zd EE z8p 5 (mkT 78 []) [])
noncomputable def zej (x0 x1:Int) (x2:PV):Option PV :=
 runW EE zfm (zd EE z8p 6 (mkT 78 [(0,(.int .i64 x0)),(1,(.int .i64 x1)),(8,(.opq x2 0))]) [])
noncomputable def z9f (a0 a1 a2 a3 a4:Int):Option PV:=callF EE zlp [(.int .i64 a0),(.int .i64 a1),(.int .u8 a2),(.int .i64 a3),(.int .i64 a4)]
noncomputable def zs3 (a0:Int):Option PV:=callF EE zju [(.int .u64 a0)]
noncomputable abbrev z7z:List TI:=funTI EE z26
noncomputable def z4o (a0_0 a0_1 a0_2:Int):Option PV:=callF EE z26 [(.agg [(.int .i64 a0_0),(.int .i64 a0_1),(.int .i64 a0_2)])]
noncomputable def z5a (x0:Bool) (x1 x2 x3:Int):Option PV :=
 runW EE z7z (zd EE z26 2 (mkT 46 [(1,(.ptr 0 0)),(3,(.bool x0))]) [(.cells z3v [(.int .i64 x1),(.int .i64 x2),(.int .i64 x3)] false)])
noncomputable def z59 (x0:Bool) (x1:Bool) (x2 x3 x4:Int):Option PV :=
 runW EE z7z (zd EE z26 3 (mkT 46 [(1,(.ptr 0 0)),(3,(.bool x0)),(4,(.bool x1))]) [(.cells z3v [(.int .i64 x2),(.int .i64 x3),(.int .i64 x4)] false)])
noncomputable def z6z (a0_0 a0_1:Int):Option PV:=callF EE z9d [(.agg [(.int .i64 a0_0),(.int .u8 a0_1)])]
noncomputable abbrev z6h:List TI:=funTI EE z12
noncomputable def zbi (a0 a1 a2_0 a2_1 a2_2:Int):Option PV:=callF EE z12 [(.int .i64 a0),(.int .i64 a1),(.agg [(.int .i64 a2_0),(.int .i64 a2_1),(.int .i64 a2_2)])]
noncomputable def z54  : Option PV :=
 runW EE z6h (zd EE z12 2 (mkT 73 []) [])
noncomputable def qk11 (f p:Nat) (T:List PV) (y0 y1 y2:Int):Option PV:=runW EE z6h (zd EE f p T [(.cells z3v [(.int .i64 y0),(.int .i64 y1),(.int .i64 y2)] false)])
noncomputable def zdv (x0 x1 x2 x3 x4:Int):Option PV :=
 qk11 z12 3 (mkT 73 [(0,(.int .i64 x0)),(1,(.int .i64 x1)),(5,(.ptr 0 0))]) x2 x3 x4
noncomputable def z7u  : Option PV :=
 runW EE z6h (zd EE z12 4 (mkT 73 []) [])
noncomputable def zdu (x0 x1 x2 x3 x4:Int):Option PV :=
 qk11 z12 5 (mkT 73 [(0,(.int .i64 x0)),(1,(.int .i64 x1)),(5,(.ptr 0 0))]) x2 x3 x4
noncomputable def z7t (x0 x1 x2 x3:Int):Option PV :=
 qk11 z12 9 (mkT 73 [(5,(.ptr 0 0)),(10,(.int .i64 x0))]) x1 x2 x3
noncomputable def z29 (x0 x1 x2 x3 x4:Int):Option PV :=
 qk11 z12 10 (mkT 73 [(5,(.ptr 0 0)),(10,(.int .i64 x0)),(11,(.int .i64 x1))]) x2 x3 x4
noncomputable def zcw (x0 x1 x2 x3 x4:Int):Option PV :=
 qk11 z12 12 (mkT 73 [(5,(.ptr 0 0)),(10,(.int .i64 x0)),(11,(.int .i64 x1))]) x2 x3 x4
noncomputable def z6x (a0 a1 a2 a3 a4:Int):Option PV:=callF EE z9c [(.int .i64 a0),(.int .i64 a1),(.int .u8 a2),(.int .i64 a3),(.int .i64 a4)]
noncomputable def z6i (a0:List UInt8) (a1:Int):Option PV:=callF EE z9a [(.str a0),(.int .u8 a1)]
noncomputable def zqp (a0_0 a0_1 a0_2:Int):Option PV:=callF EE zq3 [(.agg [(.int .i64 a0_0),(.int .i64 a0_1),(.int .i64 a0_2)])]
noncomputable abbrev zkn:List TI:=funTI EE z86
noncomputable def zqq (a0_0 a0_1:Int):Option PV:=callF EE z86 [(.agg [(.int .i64 a0_0),(.int .u8 a0_1)])]
noncomputable def zbt (x0:List UInt8) (x1 x2:Int):Option PV :=
 runW EE zkn (zd EE z86 6 (mkT 45 [(1,(.ptr 0 0)),(4,(.str x0))]) [(.cells z12q [(.int .i64 x1),(.int .u8 x2)] false)])
noncomputable def zbs (x0:List UInt8) (x1 x2:Int):Option PV :=
 runW EE zkn (zd EE z86 8 (mkT 45 [(1,(.ptr 0 0)),(4,(.str x0))]) [(.cells z12q [(.int .i64 x1),(.int .u8 x2)] false)])
noncomputable abbrev zxj:List TI:=funTI EE z3z
noncomputable def zfj (a0_0 a0_1 a0_2:Int):Option PV:=callF EE z3z [(.agg [(.int .i64 a0_0),(.int .i64 a0_1),(.int .i64 a0_2)])]
noncomputable def qk12 (f p:Nat) (T:List PV) (y0 y1 y2:Int):Option PV:=runW EE zxj (zd EE f p T [(.cells z1fj [(.int .i64 y0),(.int .i64 y1),(.int .i64 y2)] false)])
noncomputable def zki (x0 x1 x2:Int):Option PV :=
 qk12 z3z 4 (mkT 52 [(1,(.ptr 0 0))]) x0 x1 x2
noncomputable def zei (x0 x1 x2:Int):Option PV :=
 qk12 z3z 5 (mkT 52 [(1,(.ptr 0 0))]) x0 x1 x2
noncomputable def zkh (x0 x1 x2:Int):Option PV :=
 qk12 z3z 6 (mkT 52 [(1,(.ptr 0 0))]) x0 x1 x2
noncomputable def zeh (x0 x1 x2:Int):Option PV :=
 qk12 z3z 7 (mkT 52 [(1,(.ptr 0 0))]) x0 x1 x2
noncomputable def zbo (a0 a1 a2:Int):Option PV:=callF EE ztz [(.int .i64 a0),(.int .i64 a1),(.int .i64 a2)]
noncomputable abbrev z1b0:List TI:=funTI EE zop
noncomputable def zqm (a0 a1 a2:Int):Option PV:=callF EE zop [(.int .i64 a0),(.int .i64 a1),(.int .i64 a2)]
noncomputable def zgq (x0 x1 x2:Int):Option PV :=
 runW EE z1b0 (zd EE zop 1 (mkT 15 [(0,(.int .i64 x0)),(1,(.int .i64 x1)),(2,(.int .i64 x2))]) [])
noncomputable abbrev zsv:List TI:=funTI EE zcr
noncomputable def zhy (a0 a1:Int):Option PV:=callF EE zcr [(.int .i64 a0),(.int .i64 a1)]
noncomputable def zma  : Option PV :=
 runW EE zsv (zd EE zcr 3 (mkT 22 []) [])
noncomputable def zx6 (x0 x1:Int) (x2:List PV) (x3:Nat):Option PV :=
 runW EE zsv (zd EE zcr 4 (mkT 22 [(0,(.int .i64 x0)),(1,(.int .i64 x1)),(5,(.ptr 0 0))]) [(.row z17r 1 x2 0 (some x3))])
noncomputable def zaf (a0 a1 a2:Int):Option PV:=callF EE zcn [(.int .i64 a0),(.int .i64 a1),(.int .i64 a2)]
noncomputable def z71 (a0:Int):Option PV:=callF EE z9e [(.int .i64 a0)]
noncomputable def zi8 (a0_0 a0_1:Int):Option PV:=callF EE zjj [(.agg [(.int .i64 a0_0),(.int .u8 a0_1)])]
noncomputable def zs2 (a0 a1 a2:Int):Option PV:=callF EE zqi [(.int .i64 a0),(.int .i64 a1),(.int .i64 a2)]
noncomputable def zj6 (a0:Int):Option PV:=callF EE zjn [(.int .i64 a0)]
noncomputable def zvr (a0:Int):Option PV:=callF EE ztx [(.int .i64 a0)]
noncomputable def z8y (a0 a1 a2:Int):Option PV:=callF EE zav [(.int .i64 a0),(.int .i64 a1),(.int .i64 a2)]
noncomputable def zjb (a0:Int):Option PV:=callF EE zet [(.int .i64 a0)]
noncomputable def zxw (a0:Int):Option PV:=callF EE z10d [(.int .i64 a0)]
noncomputable def zjc (a0:Int):Option PV:=callF EE zeu [(.int .i64 a0)]
noncomputable def zfi (a0:Int):Option PV:=callF EE zlm [(.int .i64 a0)]
noncomputable def z9m (a0_0 a0_1 a0_2:Int):Option PV:=callF EE zg1 [(.agg [(.int .i64 a0_0),(.int .i64 a0_1),(.int .i64 a0_2)])]
theorem zdd (a0_0:List UInt8) (a0_1 a0_2:Int) (a0_3:Bool) (a0_4:List UInt8) (a0_5:List PV) (a0_6:Bool) (a0_7 a0_8 a0_9 a0_10 a0_11 a0_12 a0_13 a0_14 a0_15:Int) (a0_16:List UInt8) (a0_17 a0_18 a0_19 a0_20 a0_21 a0_22 a0_23:Int) (a0_24:List UInt8) (a1_0 a1_1 a2_0 a2_1 a2_2:Int):z7o a0_0 a0_1 a0_2 a0_3 a0_4 a0_5 a0_6 a0_7 a0_8 a0_9 a0_10 a0_11 a0_12 a0_13 a0_14 a0_15 a0_16 a0_17 a0_18 a0_19 a0_20 a0_21 a0_22 a0_23 a0_24 a1_0 a1_1 a2_0 a2_1 a2_2 =
  ((z92 a0_0 a0_1 a0_2 a0_3 a0_4 a0_5 a0_6 a0_7 a0_8 a0_9 a0_10 a0_11 a0_12 a0_13 a0_14 a0_15 a0_16 a0_17 a0_18 a0_19 a0_20 a0_21 a0_22 a0_23 a0_24).bind fun v1=>((z1bc a1_0 a1_1 (PV.toS (PV.nth v1 0)) (PV.toI (PV.nth v1 1)) (PV.toI (PV.nth v1 2)) (PV.toB (PV.nth v1 3)) (PV.toS (PV.nth v1 4)) (PV.toL (PV.nth v1 5)) (PV.toB (PV.nth v1 6)) (PV.toI (PV.nth v1 7)) (PV.toI (PV.nth v1 8)) (PV.toI (PV.nth v1 9)) (PV.toI (PV.nth v1 10)) (PV.toI (PV.nth v1 11)) (PV.toI (PV.nth v1 12)) (PV.toI (PV.nth v1 13)) (PV.toI (PV.nth v1 14)) (PV.toI (PV.nth v1 15)) (PV.toS (PV.nth v1 16)) (PV.toI (PV.nth v1 17)) (PV.toI (PV.nth v1 18)) (PV.toI (PV.nth v1 19)) (PV.toI (PV.nth v1 20)) (PV.toI (PV.nth v1 21)) (PV.toI (PV.nth v1 22)) (PV.toI (PV.nth v1 23)) (PV.toS (PV.nth v1 24)) a2_0 a2_1 a2_2).bind fun v2=>((zdb a1_0 a1_1 a0_0 a0_1 a0_2 a0_3 a0_4 a0_5 a0_6 a0_7 a0_8 a0_9 a0_10 a0_11 a0_12 a0_13 a0_14 a0_15 a0_16 a0_17 a0_18 a0_19 a0_20 a0_21 a0_22 a0_23 a0_24 a2_0 a2_1 a2_2).bind fun v3=>(bif (eqS (PV.toS (PV.tnth v2 0)) (PV.toS (PV.tnth v3 0))) then (bif (eqB (PV.toI (PV.tnth v2 1)) (PV.toI (PV.tnth v3 1))) then ((z91).bind fun v4=>(some (PV.bool (PV.toB v4)))) else (some (PV.bool false))) else (some (PV.bool false)))))) :=
 (z6 EE z5y _ rfl).trans (by kernel_rfl)
theorem z1g1 (a0_0 a0_1:Int) (a1_0:List UInt8) (a1_1 a1_2:Int) (a1_3:Bool) (a1_4:List UInt8) (a1_5:List PV) (a1_6:Bool) (a1_7 a1_8 a1_9 a1_10 a1_11 a1_12 a1_13 a1_14 a1_15:Int) (a1_16:List UInt8) (a1_17 a1_18 a1_19 a1_20 a1_21 a1_22 a1_23:Int) (a1_24:List UInt8) (a2_0 a2_1 a2_2:Int):z1bc a0_0 a0_1 a1_0 a1_1 a1_2 a1_3 a1_4 a1_5 a1_6 a1_7 a1_8 a1_9 a1_10 a1_11 a1_12 a1_13 a1_14 a1_15 a1_16 a1_17 a1_18 a1_19 a1_20 a1_21 a1_22 a1_23 a1_24 a2_0 a2_1 a2_2 =
  ((zr6 a1_0 a1_1 a1_2 a1_3 a1_4 a1_5 a1_6 a1_7 a1_8 a1_9 a1_10 a1_11 a1_12 a1_13 a1_14 a1_15 a1_16 a1_17 a1_18 a1_19 a1_20 a1_21 a1_22 a1_23 a1_24 a0_0 a0_1).bind fun v1=>((zh1 a2_0 a2_1 a2_2).bind fun v2=>(bif (!(PV.toB v2)) then (some (PV.tuple [(PV.str []),(PV.int .i64 1)])) else (bif (!(eqB (PV.toI (PV.tnth v1 1)) 0)) then (some (PV.tuple [(PV.str []),(PV.int .i64 (PV.toI (PV.tnth v1 1)))])) else (bif (!(eqB a0_0 0)) then ((z5k a0_0).bind fun v3=>(some (PV.tuple [(PV.str (PV.toS v3)),(PV.int .i64 0)]))) else ((zfs a1_0 a1_1 a1_2 a1_3 a1_4 a1_5 a1_6 a1_7 a1_8 a1_9 a1_10 a1_11 a1_12 a1_13 a1_14 a1_15 a1_16 a1_17 a1_18 a1_19 a1_20 a1_21 a1_22 a1_23 a1_24 a0_0 a0_1).bind fun v4=>((zrc (PV.toI (PV.nth (PV.tnth v1 0) 0)) (PV.toI (PV.nth (PV.tnth v1 0) 1)) a2_0 a2_1 a2_2).bind fun v5=>(bif (eqB a2_0 1) then ((zt [(PV.str (PV.toS (PV.tnth v5 0))),(PV.str [32]),(PV.str (PV.toS (PV.nth (PV.tnth v4 0) 3))),(PV.str (PV.toS (PV.tnth v5 1)))]).bind fun v6=>(some (PV.tuple [(PV.str (PV.toS v6)),(PV.int .i64 0)]))) else ((zm6 (PV.toI (PV.nth (PV.tnth v4 0) 1))).bind fun v7=>(bif (!(eqB (PV.toI (PV.tnth v7 1)) 0)) then (some (PV.tuple [(PV.str []),(PV.int .i64 (PV.toI (PV.tnth v7 1)))])) else ((zt [(PV.str (PV.toS (PV.tnth v5 0))),(PV.str (PV.toS (PV.tnth v7 0))),(PV.str (PV.toS (PV.tnth v5 1)))]).bind fun v8=>(some (PV.tuple [(PV.str (PV.toS v8)),(PV.int .i64 0)]))))))))))))) :=
 (z6 EE z13l _ rfl).trans (by kernel_rfl)
theorem zkf (a0_0:List UInt8) (a0_1 a0_2:Int) (a0_3:Bool) (a0_4:List UInt8) (a0_5:List PV) (a0_6:Bool) (a0_7 a0_8 a0_9 a0_10 a0_11 a0_12 a0_13 a0_14 a0_15:Int) (a0_16:List UInt8) (a0_17 a0_18 a0_19 a0_20 a0_21 a0_22 a0_23:Int) (a0_24:List UInt8):z92 a0_0 a0_1 a0_2 a0_3 a0_4 a0_5 a0_6 a0_7 a0_8 a0_9 a0_10 a0_11 a0_12 a0_13 a0_14 a0_15 a0_16 a0_17 a0_18 a0_19 a0_20 a0_21 a0_22 a0_23 a0_24 =
  ((appL 40 [] a0_5).bind fun v1=>((zag a0_9 a0_10 a0_11 a0_12 a0_13 a0_14 a0_15 a0_16).bind fun v2=>((zag a0_17 a0_18 a0_19 a0_20 a0_21 a0_22 a0_23 a0_24).bind fun v3=>(some (PV.agg [(PV.str a0_0),(PV.int .i64 a0_1),(PV.int .i64 a0_2),(PV.bool a0_3),(PV.str a0_4),(PV.sl 4 v1),(PV.bool a0_6),(PV.int .i64 a0_7),(PV.int .i64 a0_8),(PV.int .i64 (PV.toI (PV.nth v2 0))),(PV.int .i64 (PV.toI (PV.nth v2 1))),(PV.int .i64 (PV.toI (PV.nth v2 2))),(PV.int .i64 (PV.toI (PV.nth v2 3))),(PV.int .i64 (PV.toI (PV.nth v2 4))),(PV.int .u8 (PV.toI (PV.nth v2 5))),(PV.int .i64 (PV.toI (PV.nth v2 6))),(PV.str (PV.toS (PV.nth v2 7))),(PV.int .i64 (PV.toI (PV.nth v3 0))),(PV.int .i64 (PV.toI (PV.nth v3 1))),(PV.int .i64 (PV.toI (PV.nth v3 2))),(PV.int .i64 (PV.toI (PV.nth v3 3))),(PV.int .i64 (PV.toI (PV.nth v3 4))),(PV.int .u8 (PV.toI (PV.nth v3 5))),(PV.int .i64 (PV.toI (PV.nth v3 6))),(PV.str (PV.toS (PV.nth v3 7)))]))))) :=
 (z6 EE zb0 _ rfl).trans (by kernel_rfl)
theorem zrx (a0_0 a0_1:Int) (a1_0:List UInt8) (a1_1 a1_2:Int) (a1_3:Bool) (a1_4:List UInt8) (a1_5:List PV) (a1_6:Bool) (a1_7 a1_8 a1_9 a1_10 a1_11 a1_12 a1_13 a1_14 a1_15:Int) (a1_16:List UInt8) (a1_17 a1_18 a1_19 a1_20 a1_21 a1_22 a1_23:Int) (a1_24:List UInt8) (a2_0 a2_1 a2_2:Int):zdb a0_0 a0_1 a1_0 a1_1 a1_2 a1_3 a1_4 a1_5 a1_6 a1_7 a1_8 a1_9 a1_10 a1_11 a1_12 a1_13 a1_14 a1_15 a1_16 a1_17 a1_18 a1_19 a1_20 a1_21 a1_22 a1_23 a1_24 a2_0 a2_1 a2_2 =
  ((z10 a0_0 a0_1).bind fun v1=>(bif (!(PV.toB v1)) then z41 else ((z8q a2_0 a2_1 a2_2).bind fun v2=>(bif (!(PV.toB v2)) then z41 else ((z2y a1_0 a1_1 a1_2 a1_3 a1_4 a1_5 a1_6 a1_7 a1_8 a1_9 a1_10 a1_11 a1_12 a1_13 a1_14 a1_15 a1_16 a1_17 a1_18 a1_19 a1_20 a1_21 a1_22 a1_23 a1_24).bind fun v3=>(bif (!(PV.toB v3)) then z41 else (zez a0_0 a0_1 a1_0 a1_1 a1_2 a1_3 a1_4 a1_5 a1_6 a1_7 a1_8 a1_9 a1_10 a1_11 a1_12 a1_13 a1_14 a1_15 a1_16 a1_17 a1_18 a1_19 a1_20 a1_21 a1_22 a1_23 a1_24 a2_0 a2_1 a2_2))))))) :=
 (z6 EE z40 _ rfl).trans (by kernel_rfl)
theorem zjv  : z41  =
  (some (PV.tuple [(PV.str []),(PV.int .i64 1)])) :=
 (z7 EE _ _).trans (by kernel_rfl)
theorem zb1 (x0 x1:Int) (x2:List UInt8) (x3 x4:Int) (x5:Bool) (x6:List UInt8) (x7:List PV) (x8:Bool) (x9 xA xB xC xD xE xF xG xH:Int) (xI:List UInt8) (xJ xK xL xM xN xO xP:Int) (xQ:List UInt8) (xR xS xT:Int):zez x0 x1 x2 x3 x4 x5 x6 x7 x8 x9 xA xB xC xD xE xF xG xH xI xJ xK xL xM xN xO xP xQ xR xS xT =
  (bif (!(eqB x0 0)) then ((zbh x0).bind fun v1=>(some (PV.tuple [(PV.str (PV.toS v1)),(PV.int .i64 0)]))) else ((z8r x2 x3 x4 x5 x6 x7 x8 x9 xA xB xC xD xE xF xG xH xI xJ xK xL xM xN xO xP xQ x0 x1).bind fun v2=>(bif (!(eqB (PV.toI (PV.tnth v2 1)) 0)) then (some (PV.tuple [(PV.str []),(PV.int .i64 (PV.toI (PV.tnth v2 1)))])) else ((z7s x2 x3 x4 x5 x6 x7 x8 x9 xA xB xC xD xE xF xG xH xI xJ xK xL xM xN xO xP xQ x0 x1).bind fun v3=>((z7r (PV.toI (PV.nth (PV.tnth v2 0) 0)) (PV.toI (PV.nth (PV.tnth v2 0) 1)) xR xS xT).bind fun v4=>(bif (eqB xR 1) then ((catS (PV.toS (PV.tnth v4 0)) [32]).bind fun v5=>((catS v5 (PV.toS (PV.nth (PV.tnth v3 0) 3))).bind fun v6=>((catS v6 (PV.toS (PV.tnth v4 1))).bind fun v7=>(some (PV.tuple [(PV.str v7),(PV.int .i64 0)]))))) else ((z7w (PV.toI (PV.nth (PV.tnth v3 0) 1))).bind fun v8=>(bif (!(eqB (PV.toI (PV.tnth v8 1)) 0)) then (some (PV.tuple [(PV.str []),(PV.int .i64 (PV.toI (PV.tnth v8 1)))])) else ((catS (PV.toS (PV.tnth v4 0)) (PV.toS (PV.tnth v8 0))).bind fun v9=>((catS v9 (PV.toS (PV.tnth v4 1))).bind fun v10=>(some (PV.tuple [(PV.str v10),(PV.int .i64 0)])))))))))))) :=
 (z7 EE _ _).trans (by kernel_rfl)
theorem zke  : z91  =
  ((zh0 0 14 3 (-14706500000) 0 0 0).bind fun v1=>((zh0 0 14 3 (-14706500000) 0 0 1).bind fun v2=>((zh0 0 14 3 (-14706500000) 0 0 2).bind fun v3=>((zh0 0 (-1) 1 0 0 0 0).bind fun v4=>((zzc 0 8826 1 1 0).bind fun v5=>(bif (eqS (PV.toS (PV.tnth v1 0)) [49,32,121,101,97,114,32,50,32,109,111,110,115,32,51,32,100,97,121,115,32,45,48,52,58,48,53,58,48,54,46,53]) then (bif (eqB (PV.toI (PV.tnth v1 1)) 0) then (bif (eqS (PV.toS (PV.tnth v2 0)) [43,49,45,50,32,43,51,32,45,52,58,48,53,58,48,54,46,53]) then (bif (eqB (PV.toI (PV.tnth v2 1)) 0) then (bif (eqS (PV.toS (PV.tnth v3 0)) [80,49,89,50,77,51,68,84,45,52,72,45,53,77,45,54,46,53,83]) then (bif (eqB (PV.toI (PV.tnth v3 1)) 0) then (bif (eqS (PV.toS (PV.tnth v4 0)) [45,49,32,109,111,110,115,32,43,49,32,100,97,121]) then (bif (eqB (PV.toI (PV.tnth v4 1)) 0) then (bif (eqS (PV.toS (PV.tnth v5 0)) [48,49,47,48,51,47,50,48,50,52]) then (some (PV.bool (eqB (PV.toI (PV.tnth v5 1)) 0))) else (some (PV.bool false))) else (some (PV.bool false))) else (some (PV.bool false))) else (some (PV.bool false))) else (some (PV.bool false))) else (some (PV.bool false))) else (some (PV.bool false))) else (some (PV.bool false))) else (some (PV.bool false)))))))) :=
 (z6 EE zaz _ rfl).trans (by kernel_rfl)
theorem zbu (a0_0:List UInt8) (a0_1 a0_2:Int) (a0_3:Bool) (a0_4:List UInt8) (a0_5:List PV) (a0_6:Bool) (a0_7 a0_8 a0_9 a0_10 a0_11 a0_12 a0_13 a0_14 a0_15:Int) (a0_16:List UInt8) (a0_17 a0_18 a0_19 a0_20 a0_21 a0_22 a0_23:Int) (a0_24:List UInt8) (a1_0 a1_1:Int):zr6 a0_0 a0_1 a0_2 a0_3 a0_4 a0_5 a0_6 a0_7 a0_8 a0_9 a0_10 a0_11 a0_12 a0_13 a0_14 a0_15 a0_16 a0_17 a0_18 a0_19 a0_20 a0_21 a0_22 a0_23 a0_24 a1_0 a1_1 =
  ((zfs a0_0 a0_1 a0_2 a0_3 a0_4 a0_5 a0_6 a0_7 a0_8 a0_9 a0_10 a0_11 a0_12 a0_13 a0_14 a0_15 a0_16 a0_17 a0_18 a0_19 a0_20 a0_21 a0_22 a0_23 a0_24 a1_0 a1_1).bind fun v1=>(bif (eqB (PV.toI (PV.tnth v1 1)) 1) then (some (PV.tuple [(PV.agg [(PV.int .i64 0),(PV.int .i64 0)]),(PV.int .i64 (PV.toI (PV.tnth v1 1)))])) else (bif (!(eqB a1_0 0)) then (some (PV.tuple [(PV.agg [(PV.int .i64 a1_0),(PV.int .i64 a1_1)]),(PV.int .i64 0)])) else (bif (!(eqB (PV.toI (PV.tnth v1 1)) 0)) then (some (PV.tuple [(PV.agg [(PV.int .i64 0),(PV.int .i64 0)]),(PV.int .i64 (PV.toI (PV.tnth v1 1)))])) else ((z150 a1_0 a1_1 (IntKind.wrap .i64 ((PV.toI (PV.nth (PV.tnth v1 0) 1))*1000000))).bind fun v2=>(some (PV.tuple [(PV.agg [(PV.int .i64 (PV.toI (PV.nth (PV.tnth v2 0) 0))),(PV.int .i64 (PV.toI (PV.nth (PV.tnth v2 0) 1)))]),(PV.int .i64 (PV.toI (PV.tnth v2 1)))]))))))) :=
 (z6 EE zq6 _ rfl).trans (by kernel_rfl)
theorem z155 (a0_0 a0_1 a0_2:Int):zh1 a0_0 a0_1 a0_2 =
  (bif (leB 0 a0_0) then (bif (leB a0_0 1) then (bif (leB 0 a0_1) then (bif (leB a0_1 2) then (bif (leB 0 a0_2) then (some (PV.bool (leB a0_2 2))) else (some (PV.bool false))) else (some (PV.bool false))) else (some (PV.bool false))) else (some (PV.bool false))) else (some (PV.bool false))) :=
 (z6 EE zto _ rfl).trans (by kernel_rfl)
theorem zd7 (a0:Int):z5k a0 =
  (bif (ltB a0 0) then (some (PV.str [45,105,110,102,105,110,105,116,121])) else (some (PV.str [105,110,102,105,110,105,116,121]))) :=
 (z6 EE zjk _ rfl).trans (by kernel_rfl)
theorem zep (a0_0:List UInt8) (a0_1 a0_2:Int) (a0_3:Bool) (a0_4:List UInt8) (a0_5:List PV) (a0_6:Bool) (a0_7 a0_8 a0_9 a0_10 a0_11 a0_12 a0_13 a0_14 a0_15:Int) (a0_16:List UInt8) (a0_17 a0_18 a0_19 a0_20 a0_21 a0_22 a0_23:Int) (a0_24:List UInt8) (a1_0 a1_1:Int):zfs a0_0 a0_1 a0_2 a0_3 a0_4 a0_5 a0_6 a0_7 a0_8 a0_9 a0_10 a0_11 a0_12 a0_13 a0_14 a0_15 a0_16 a0_17 a0_18 a0_19 a0_20 a0_21 a0_22 a0_23 a0_24 a1_0 a1_1 =
  ((z17z a0_0 a0_1 a0_2 a0_3 a0_4 a0_5 a0_6 a0_7 a0_8 a0_9 a0_10 a0_11 a0_12 a0_13 a0_14 a0_15 a0_16 a0_17 a0_18 a0_19 a0_20 a0_21 a0_22 a0_23 a0_24 a1_0 a1_1).bind fun v1=>(bif (!(eqB (PV.toI v1) 0)) then (some (PV.tuple [(PV.agg [(PV.int .i64 0),(PV.int .i64 0),(PV.bool false),(PV.str [])]),(PV.int .i64 (PV.toI v1))])) else (bif (!(eqB a1_0 0)) then (some (PV.tuple [(PV.agg [(PV.int .i64 0),(PV.int .i64 0),(PV.bool false),(PV.str [])]),(PV.int .i64 10)])) else ((zr5 a1_0 a1_1).bind fun v2=>((z14c a0_0 a0_1 a0_2 a0_3 a0_4 a0_5 a0_6 a0_7 a0_8 a0_9 a0_10 a0_11 a0_12 a0_13 a0_14 a0_15 a0_16 a0_17 a0_18 a0_19 a0_20 a0_21 a0_22 a0_23 a0_24 (PV.toI (PV.tnth v2 0))).bind fun v3=>(some (PV.tuple [(PV.agg [(PV.int .i64 (PV.toI (PV.nth (PV.tnth v3 0) 0))),(PV.int .i64 (PV.toI (PV.nth (PV.tnth v3 0) 1))),(PV.bool (PV.toB (PV.nth (PV.tnth v3 0) 2))),(PV.str (PV.toS (PV.nth (PV.tnth v3 0) 3)))]),(PV.int .i64 (PV.toI (PV.tnth v3 1)))]))))))) :=
 (z6 EE zln _ rfl).trans (by kernel_rfl)
theorem z124 (a0_0 a0_1 a1_0 a1_1 a1_2:Int):zrc a0_0 a0_1 a1_0 a1_1 a1_2 =
  ((day_Of a0_0 a0_1).bind fun v1=>((zl6 (PV.toI (PV.nth (PV.tnth v1 0) 0)) (PV.toI (PV.nth (PV.tnth v1 0) 1)) a1_0 a1_1 a1_2).bind fun v2=>((zvp (PV.toI (PV.tnth v1 1))).bind fun v3=>((z1o [32] [(PV.str (PV.toS (PV.tnth v2 0))),(PV.str (PV.toS (PV.tnth v3 0)))]).bind fun v4=>(some (PV.tuple [(PV.str (PV.toS v4)),(PV.str (PV.toS (PV.tnth v2 1)))])))))) :=
 (z6 EE zqa _ rfl).trans (by kernel_rfl)
theorem zwb (a0:List PV):zt a0 =
  (zc8 a0 (((List.length a0):Nat):Int) 0 []) :=
 (z6 EE zg3 _ rfl).trans (by kernel_rfl)
theorem z9u (x0:List PV) (x1 x2:Int) (x3:List PV):zc8 x0 x1 x2 x3 =
  (bif (ltB x2 x1) then ((rdI tiStr x0 x2).bind fun v1=>(bif (decide ((0≤(((List.length x3):Nat):Int))∧(((((List.length x3):Nat):Int)≤(((List.length x3):Nat):Int))∧((((List.length x3):Nat):Int)≤(((List.length x3):Nat):Int))))) then ((appL 1 (List.take (Int.toNat (((List.length x3):Nat):Int)) x3) (List.map byteV (PV.toS v1))).bind fun v2=>(zc8 x0 x1 (IntKind.wrap .i64 (x2+1)) v2)) else none)) else ((z75 x3).bind fun v3=>(some (PV.str v3)))) :=
 (z7 EE _ _).trans (by kernel_rfl)
theorem z111 (a0:Int):zm6 a0 =
  (bif (ltB a0 0) then (zf6 a0 [45]) else (zf6 a0 [43])) :=
 (z6 EE z58 _ rfl).trans (by kernel_rfl)
theorem z6f (x0:Int) (x1:List UInt8):zf6 x0 x1 =
  (bif (ltB x0 (-57599)) then zf5 else (bif (ltB 57599 x0) then zf5 else (zf4 x0 x1))) :=
 (z7 EE _ _).trans (by kernel_rfl)
theorem zg9  : zf5  =
  (some (PV.tuple [(PV.str []),(PV.int .i64 10)])) :=
 (z7 EE _ _).trans (by kernel_rfl)
theorem zai (x0:Int) (x1:List UInt8):zf4 x0 x1 =
  ((z2u (IntKind.wrap .i64 (Int.tdiv (maxI x0 (IntKind.wrap .i64 (0-x0))) 3600))).bind fun v1=>((catS x1 (PV.toS v1)).bind fun v2=>(bif (!(eqB (Int.tmod (maxI x0 (IntKind.wrap .i64 (0-x0))) 60) 0)) then ((catS v2 [58]).bind fun v3=>((z2u (Int.tmod (IntKind.wrap .i64 (Int.tdiv (maxI x0 (IntKind.wrap .i64 (0-x0))) 60)) 60)).bind fun v4=>((catS v3 (PV.toS v4)).bind fun v5=>((catS v5 [58]).bind fun v6=>((z2u (Int.tmod (maxI x0 (IntKind.wrap .i64 (0-x0))) 60)).bind fun v7=>((catS v6 (PV.toS v7)).bind fun v8=>(some (PV.tuple [(PV.str v8),(PV.int .i64 0)])))))))) else (bif (!(eqB (Int.tmod (maxI x0 (IntKind.wrap .i64 (0-x0))) 3600) 0)) then ((catS v2 [58]).bind fun v9=>((z2u (Int.tmod (IntKind.wrap .i64 (Int.tdiv (maxI x0 (IntKind.wrap .i64 (0-x0))) 60)) 60)).bind fun v10=>((catS v9 (PV.toS v10)).bind fun v11=>(some (PV.tuple [(PV.str v11),(PV.int .i64 0)]))))) else (some (PV.tuple [(PV.str v2),(PV.int .i64 0)])))))) :=
 (z7 EE _ _).trans (by kernel_rfl)
theorem zd0 (a0_0 a0_1 a0_2 a0_3 a0_4 a0_5 a0_6:Int) (a0_7:List UInt8):zag a0_0 a0_1 a0_2 a0_3 a0_4 a0_5 a0_6 a0_7 =
  (some (PV.agg [(PV.int .i64 a0_0),(PV.int .i64 a0_1),(PV.int .i64 a0_2),(PV.int .i64 a0_3),(PV.int .i64 a0_4),(PV.int .u8 a0_5),(PV.int .i64 a0_6),(PV.str a0_7)])) :=
 (z6 EE zcq _ rfl).trans (by kernel_rfl)
theorem z6v (a0_0 a0_1:Int):z10 a0_0 a0_1 =
  (bif (eqB a0_0 0) then ((z5v a0_1).bind fun v1=>((z53 (PV.toI (PV.tnth v1 0))).bind fun v2=>(some (PV.bool (PV.toB v2))))) else (bif (eqB a0_0 (-1)) then (some (PV.bool (eqB a0_1 0))) else (bif (eqB a0_0 1) then (some (PV.bool (eqB a0_1 0))) else (some (PV.bool false))))) :=
 (z6 EE z6q _ rfl).trans (by kernel_rfl)
theorem zjw (a0_0 a0_1 a0_2:Int):z8q a0_0 a0_1 a0_2 =
  (bif (leB 0 a0_0) then (bif (leB a0_0 1) then (bif (leB 0 a0_1) then (bif (leB a0_1 2) then (bif (leB 0 a0_2) then (some (PV.bool (leB a0_2 2))) else (some (PV.bool false))) else (some (PV.bool false))) else (some (PV.bool false))) else (some (PV.bool false))) else (some (PV.bool false))) :=
 (z6 EE zap _ rfl).trans (by kernel_rfl)
theorem zk0 (a0_0:List UInt8) (a0_1 a0_2:Int) (a0_3:Bool) (a0_4:List UInt8) (a0_5:List PV) (a0_6:Bool) (a0_7 a0_8 a0_9 a0_10 a0_11 a0_12 a0_13 a0_14 a0_15:Int) (a0_16:List UInt8) (a0_17 a0_18 a0_19 a0_20 a0_21 a0_22 a0_23:Int) (a0_24:List UInt8):z2y a0_0 a0_1 a0_2 a0_3 a0_4 a0_5 a0_6 a0_7 a0_8 a0_9 a0_10 a0_11 a0_12 a0_13 a0_14 a0_15 a0_16 a0_17 a0_18 a0_19 a0_20 a0_21 a0_22 a0_23 a0_24 =
  ((z7d a0_1 a0_2 a0_3 a0_4).bind fun v1=>(bif (!(PV.toB v1)) then z48 else (bif (!(eqB a0_1 0)) then z48 else (bif (ltB 8192 (((List.length a0_5):Nat):Int)) then z48 else (zb5 a0_0 a0_1 a0_2 a0_3 a0_4 a0_5 a0_6 a0_7 a0_8 a0_9 a0_10 a0_11 a0_12 a0_13 a0_14 a0_15 a0_16 a0_17 a0_18 a0_19 a0_20 a0_21 a0_22 a0_23 a0_24))))) :=
 (z6 EE z14 _ rfl).trans (by kernel_rfl)
theorem z4w  : z48  =
  (some (PV.bool false)) :=
 (z7 EE _ _).trans (by kernel_rfl)
theorem zgh (x0:List UInt8) (x1 x2:Int) (x3:Bool) (x4:List UInt8) (x5:List PV) (x6:Bool) (x7 x8 x9 xA xB xC xD xE xF:Int) (xG:List UInt8) (xH xI xJ xK xL xM xN:Int) (xO:List UInt8):zb5 x0 x1 x2 x3 x4 x5 x6 x7 x8 x9 xA xB xC xD xE xF xG xH xI xJ xK xL xM xN xO =
  (z47 (-1125899906842625) 0 x0 x1 x2 x3 x4 x5 x6 x7 x8 x9 xA xB xC xD xE xF xG xH xI xJ xK xL xM xN xO) :=
 (z7 EE _ _).trans (by kernel_rfl)
theorem z89 (x0 x1:Int) (x2:List UInt8) (x3 x4:Int) (x5:Bool) (x6:List UInt8) (x7:List PV) (x8:Bool) (x9 xA xB xC xD xE xF xG xH:Int) (xI:List UInt8) (xJ xK xL xM xN xO xP:Int) (xQ:List UInt8):z47 x0 x1 x2 x3 x4 x5 x6 x7 x8 x9 xA xB xC xD xE xF xG xH xI xJ xK xL xM xN xO xP xQ =
  (bif (ltB x1 (((List.length x7):Nat):Int)) then ((rdI (EE.ti zo) x7 x1).bind fun v1=>((z7d (PV.toI (PV.nth v1 0)) (PV.toI (PV.nth v1 1)) (PV.toB (PV.nth v1 2)) (PV.toS (PV.nth v1 3))).bind fun v2=>(bif (!(PV.toB v2)) then z46 else (bif (leB (PV.toI (PV.nth v1 0)) x0) then z46 else (bif (ltB 1125899906842624 (PV.toI (PV.nth v1 0))) then z46 else (za9 x1 x2 x3 x4 x5 x6 x7 x8 x9 xA xB xC xD xE xF xG xH xI xJ xK xL xM xN xO xP xQ (PV.toI (PV.nth v1 0)) (PV.toI (PV.nth v1 1)) (PV.toB (PV.nth v1 2)) (PV.toS (PV.nth v1 3)))))))) else (bif (!x8) then (some (PV.bool ((x8 == false)&&((eqB x9 0)&&((eqB xA 0)&&((eqB xB 0)&&((eqB xC 0)&&((eqB xD 0)&&((eqB xE 0)&&((eqB xF 0)&&((eqB xG 0)&&((eqB xH 0)&&((eqS xI [])&&((eqB xJ 0)&&((eqB xK 0)&&((eqB xL 0)&&((eqB xM 0)&&((eqB xN 0)&&((eqB xO 0)&&((eqB xP 0)&&((eqS xQ [])&&true))))))))))))))))))))) else ((z2l x9).bind fun v3=>((z8l x8 x9 xA xB xC xD xE xF xG xH xI xJ xK xL xM xN xO xP xQ x9).bind fun v4=>(bif (eqB (PV.toI (PV.tnth v4 1)) 0) then (bif (eqB (PV.toI (PV.nth (PV.tnth v4 0) 0)) x9) then (bif (ltB x0 x9) then (bif (leB 1800 (PV.toI v3)) then (some (PV.bool (leB (PV.toI v3) 2110))) else (some (PV.bool false))) else (some (PV.bool false))) else (some (PV.bool false))) else (some (PV.bool false))))))) :=
 (z7 EE _ _).trans (by kernel_rfl)
theorem z4v  : z46  =
  (some (PV.bool false)) :=
 (z7 EE _ _).trans (by kernel_rfl)
theorem zfd (x0:Int) (x1:List UInt8) (x2 x3:Int) (x4:Bool) (x5:List UInt8) (x6:List PV) (x7:Bool) (x8 x9 xA xB xC xD xE xF xG:Int) (xH:List UInt8) (xI xJ xK xL xM xN xO:Int) (xP:List UInt8) (xQ xR:Int) (xS:Bool) (xT:List UInt8):za9 x0 x1 x2 x3 x4 x5 x6 x7 x8 x9 xA xB xC xD xE xF xG xH xI xJ xK xL xM xN xO xP xQ xR xS xT =
  (z47 xQ (IntKind.wrap .i64 (x0+1)) x1 x2 x3 x4 x5 x6 x7 x8 x9 xA xB xC xD xE xF xG xH xI xJ xK xL xM xN xO xP) :=
 (z7 EE _ _).trans (by kernel_rfl)
theorem zp7 (a0:Int):zbh a0 =
  (bif (ltB a0 0) then (some (PV.str [45,105,110,102,105,110,105,116,121])) else (bif (ltB 0 a0) then (some (PV.str [105,110,102,105,110,105,116,121])) else (some (PV.str [])))) :=
 (z6 EE zdk _ rfl).trans (by kernel_rfl)
theorem zb2 (a0_0:List UInt8) (a0_1 a0_2:Int) (a0_3:Bool) (a0_4:List UInt8) (a0_5:List PV) (a0_6:Bool) (a0_7 a0_8 a0_9 a0_10 a0_11 a0_12 a0_13 a0_14 a0_15:Int) (a0_16:List UInt8) (a0_17 a0_18 a0_19 a0_20 a0_21 a0_22 a0_23:Int) (a0_24:List UInt8) (a1_0 a1_1:Int):z8r a0_0 a0_1 a0_2 a0_3 a0_4 a0_5 a0_6 a0_7 a0_8 a0_9 a0_10 a0_11 a0_12 a0_13 a0_14 a0_15 a0_16 a0_17 a0_18 a0_19 a0_20 a0_21 a0_22 a0_23 a0_24 a1_0 a1_1 =
  ((z2y a0_0 a0_1 a0_2 a0_3 a0_4 a0_5 a0_6 a0_7 a0_8 a0_9 a0_10 a0_11 a0_12 a0_13 a0_14 a0_15 a0_16 a0_17 a0_18 a0_19 a0_20 a0_21 a0_22 a0_23 a0_24).bind fun v1=>(bif (!(PV.toB v1)) then (zb4 0 0) else ((z10 a1_0 a1_1).bind fun v2=>(bif (!(PV.toB v2)) then (zb4 0 0) else (zb3 a0_0 a0_1 a0_2 a0_3 a0_4 a0_5 a0_6 a0_7 a0_8 a0_9 a0_10 a0_11 a0_12 a0_13 a0_14 a0_15 a0_16 a0_17 a0_18 a0_19 a0_20 a0_21 a0_22 a0_23 a0_24 a1_0 a1_1 0 0))))) :=
 (z6 EE z2p _ rfl).trans (by kernel_rfl)
theorem z88 (x0:List UInt8) (x1 x2:Int) (x3:Bool) (x4:List UInt8) (x5:List PV) (x6:Bool) (x7 x8 x9 xA xB xC xD xE xF:Int) (xG:List UInt8) (xH xI xJ xK xL xM xN:Int) (xO:List UInt8) (xP xQ xR xS:Int):zb3 x0 x1 x2 x3 x4 x5 x6 x7 x8 x9 xA xB xC xD xE xF xG xH xI xJ xK xL xM xN xO xP xQ xR xS =
  (bif (!(eqB xP 0)) then (some (PV.tuple [(PV.agg [(PV.int .i64 xP),(PV.int .i64 xQ)]),(PV.int .i64 0)])) else ((z7c xP xQ).bind fun v1=>((z60 x0 x1 x2 x3 x4 x5 x6 x7 x8 x9 xA xB xC xD xE xF xG xH xI xJ xK xL xM xN xO (PV.toI (PV.tnth v1 0))).bind fun v2=>(bif (!(eqB (PV.toI (PV.tnth v2 1)) 0)) then (some (PV.tuple [(PV.agg [(PV.int .i64 0),(PV.int .i64 0)]),(PV.int .i64 (PV.toI (PV.tnth v2 1)))])) else ((za6 (IntKind.wrap .i64 ((PV.toI (PV.tnth v1 0))+(PV.toI (PV.nth (PV.tnth v2 0) 1)))) (PV.toI (PV.tnth v1 1))).bind fun v3=>(some (PV.tuple [(PV.agg [(PV.int .i64 (PV.toI (PV.nth (PV.tnth v3 0) 0))),(PV.int .i64 (PV.toI (PV.nth (PV.tnth v3 0) 1)))]),(PV.int .i64 (PV.toI (PV.tnth v3 1)))]))))))) :=
 (z7 EE _ _).trans (by kernel_rfl)
theorem zis (a0_0:List UInt8) (a0_1 a0_2:Int) (a0_3:Bool) (a0_4:List UInt8) (a0_5:List PV) (a0_6:Bool) (a0_7 a0_8 a0_9 a0_10 a0_11 a0_12 a0_13 a0_14 a0_15:Int) (a0_16:List UInt8) (a0_17 a0_18 a0_19 a0_20 a0_21 a0_22 a0_23:Int) (a0_24:List UInt8) (a1_0 a1_1:Int):z7s a0_0 a0_1 a0_2 a0_3 a0_4 a0_5 a0_6 a0_7 a0_8 a0_9 a0_10 a0_11 a0_12 a0_13 a0_14 a0_15 a0_16 a0_17 a0_18 a0_19 a0_20 a0_21 a0_22 a0_23 a0_24 a1_0 a1_1 =
  ((z2y a0_0 a0_1 a0_2 a0_3 a0_4 a0_5 a0_6 a0_7 a0_8 a0_9 a0_10 a0_11 a0_12 a0_13 a0_14 a0_15 a0_16 a0_17 a0_18 a0_19 a0_20 a0_21 a0_22 a0_23 a0_24).bind fun v1=>(bif (!(PV.toB v1)) then (za8 0 0 false []) else ((z10 a1_0 a1_1).bind fun v2=>(bif (!(PV.toB v2)) then (za8 0 0 false []) else (za7 a0_0 a0_1 a0_2 a0_3 a0_4 a0_5 a0_6 a0_7 a0_8 a0_9 a0_10 a0_11 a0_12 a0_13 a0_14 a0_15 a0_16 a0_17 a0_18 a0_19 a0_20 a0_21 a0_22 a0_23 a0_24 a1_0 a1_1 0 0 false []))))) :=
 (z6 EE z2h _ rfl).trans (by kernel_rfl)
theorem zfc (x0:List UInt8) (x1 x2:Int) (x3:Bool) (x4:List UInt8) (x5:List PV) (x6:Bool) (x7 x8 x9 xA xB xC xD xE xF:Int) (xG:List UInt8) (xH xI xJ xK xL xM xN:Int) (xO:List UInt8) (xP xQ xR xS:Int) (xT:Bool) (xU:List UInt8):za7 x0 x1 x2 x3 x4 x5 x6 x7 x8 x9 xA xB xC xD xE xF xG xH xI xJ xK xL xM xN xO xP xQ xR xS xT xU =
  (bif (!(eqB xP 0)) then (some (PV.tuple [(PV.agg [(PV.int .i64 0),(PV.int .i64 0),(PV.bool false),(PV.str [])]),(PV.int .i64 10)])) else ((z7c xP xQ).bind fun v1=>((z60 x0 x1 x2 x3 x4 x5 x6 x7 x8 x9 xA xB xC xD xE xF xG xH xI xJ xK xL xM xN xO (PV.toI (PV.tnth v1 0))).bind fun v2=>(some (PV.tuple [(PV.agg [(PV.int .i64 (PV.toI (PV.nth (PV.tnth v2 0) 0))),(PV.int .i64 (PV.toI (PV.nth (PV.tnth v2 0) 1))),(PV.bool (PV.toB (PV.nth (PV.tnth v2 0) 2))),(PV.str (PV.toS (PV.nth (PV.tnth v2 0) 3)))]),(PV.int .i64 (PV.toI (PV.tnth v2 1)))]))))) :=
 (z7 EE _ _).trans (by kernel_rfl)
theorem zir (a0_0 a0_1 a1_0 a1_1 a1_2:Int):z7r a0_0 a0_1 a1_0 a1_1 a1_2 =
  ((zdc a0_0 a0_1).bind fun v1=>((za4 (PV.toI (PV.nth (PV.tnth v1 0) 0)) (PV.toI (PV.nth (PV.tnth v1 0) 1)) a1_0 a1_1 a1_2).bind fun v2=>((zac (PV.toI (PV.tnth v1 1))).bind fun v3=>((catS (PV.toS (PV.tnth v2 0)) [32]).bind fun v4=>((catS v4 (PV.toS (PV.tnth v3 0))).bind fun v5=>(some (PV.tuple [(PV.str v5),(PV.str (PV.toS (PV.tnth v2 1)))]))))))) :=
 (z6 EE za2 _ rfl).trans (by kernel_rfl)
theorem zj2 (a0:Int):z7w a0 =
  (bif (ltB a0 (-57599)) then z5t else (bif (ltB 57599 a0) then z5t else (zad a0))) :=
 (z6 EE z16 _ rfl).trans (by kernel_rfl)
theorem z7l  : z5t  =
  (some (PV.tuple [(PV.str []),(PV.int .i64 10)])) :=
 (z7 EE _ _).trans (by kernel_rfl)
theorem zff (x0:Int):zad x0 =
  (bif (ltB x0 0) then (z3q (IntKind.wrap .i64 (0-x0)) [45]) else (z3q x0 [43])) :=
 (z7 EE _ _).trans (by kernel_rfl)
theorem z4c (x0:Int) (x1:List UInt8):z3q x0 x1 =
  ((z1e (IntKind.wrap .i64 (Int.tdiv x0 3600))).bind fun v1=>((catS x1 (PV.toS v1)).bind fun v2=>(bif (!(eqB (Int.tmod x0 3600) 0)) then ((catS v2 [58]).bind fun v3=>((z1e (Int.tmod (IntKind.wrap .i64 (Int.tdiv x0 60)) 60)).bind fun v4=>((catS v3 (PV.toS v4)).bind fun v5=>(z5b x0 v5)))) else (z5b x0 v2)))) :=
 (z7 EE _ _).trans (by kernel_rfl)
theorem z43 (x0:Int) (x1:List UInt8):z5b x0 x1 =
  (bif (!(eqB (Int.tmod x0 60) 0)) then ((catS x1 [58]).bind fun v1=>((z1e (Int.tmod x0 60)).bind fun v2=>((catS v1 (PV.toS v2)).bind fun v3=>(some (PV.tuple [(PV.str v3),(PV.int .i64 0)]))))) else (some (PV.tuple [(PV.str x1),(PV.int .i64 0)]))) :=
 (z7 EE _ _).trans (by kernel_rfl)
theorem z181 (a0_0 a0_1 a0_2 a0_3 a1_0 a1_1 a1_2:Int):zh0 a0_0 a0_1 a0_2 a0_3 a1_0 a1_1 a1_2 =
  ((zvb a0_0 a0_1 a0_2 a0_3).bind fun v1=>(bif (!(PV.toB v1)) then (some (PV.tuple [(PV.str []),(PV.int .i64 1)])) else ((zh1 a1_0 a1_1 a1_2).bind fun v2=>(bif (!(PV.toB v2)) then (some (PV.tuple [(PV.str []),(PV.int .i64 1)])) else (zwd a0_0 a0_1 a0_2 a0_3 a1_0 a1_1 a1_2))))) :=
 (z6 EE zg5 _ rfl).trans (by kernel_rfl)
theorem zza (x0 x1 x2 x3 x4 x5 x6:Int):zwd x0 x1 x2 x3 x4 x5 x6 =
  (bif (!(eqB x0 0)) then ((z5k x0).bind fun v1=>(some (PV.tuple [(PV.str (PV.toS v1)),(PV.int .i64 0)]))) else (bif (eqB x6 1) then ((z153 x0 x1 x2 x3).bind fun v2=>(some (PV.tuple [(PV.str (PV.toS v2)),(PV.int .i64 0)]))) else (bif (eqB x6 2) then ((z154 x0 x1 x2 x3).bind fun v3=>(some (PV.tuple [(PV.str (PV.toS v3)),(PV.int .i64 0)]))) else ((zie x0 x1 x2 x3).bind fun v4=>(some (PV.tuple [(PV.str (PV.toS v4)),(PV.int .i64 0)])))))) :=
 (z7 EE _ _).trans (by kernel_rfl)
theorem z182 (a0_0 a0_1 a1_0 a1_1 a1_2:Int):zzc a0_0 a0_1 a1_0 a1_1 a1_2 =
  ((zua a0_0 a0_1).bind fun v1=>(bif (!(PV.toB v1)) then zwf else ((zh1 a1_0 a1_1 a1_2).bind fun v2=>(bif (!(PV.toB v2)) then zwf else (zwe a0_0 a0_1 a1_0 a1_1 a1_2))))) :=
 (z6 EE zcg _ rfl).trans (by kernel_rfl)
theorem zzb (x0 x1 x2 x3 x4:Int):zwe x0 x1 x2 x3 x4 =
  (bif (!(eqB x0 0)) then ((z5k x0).bind fun v1=>(some (PV.tuple [(PV.str (PV.toS v1)),(PV.int .i64 0)]))) else ((zl6 x0 x1 x2 x3 x4).bind fun v2=>((zt [(PV.str (PV.toS (PV.tnth v2 0))),(PV.str (PV.toS (PV.tnth v2 1)))]).bind fun v3=>(some (PV.tuple [(PV.str (PV.toS v3)),(PV.int .i64 0)]))))) :=
 (z7 EE _ _).trans (by kernel_rfl)
theorem z14b (a0_0:List UInt8) (a0_1 a0_2:Int) (a0_3:Bool) (a0_4:List UInt8) (a0_5:List PV) (a0_6:Bool) (a0_7 a0_8 a0_9 a0_10 a0_11 a0_12 a0_13 a0_14 a0_15:Int) (a0_16:List UInt8) (a0_17 a0_18 a0_19 a0_20 a0_21 a0_22 a0_23:Int) (a0_24:List UInt8):zmj a0_0 a0_1 a0_2 a0_3 a0_4 a0_5 a0_6 a0_7 a0_8 a0_9 a0_10 a0_11 a0_12 a0_13 a0_14 a0_15 a0_16 a0_17 a0_18 a0_19 a0_20 a0_21 a0_22 a0_23 a0_24 =
  ((zef a0_2 57600).bind fun v1=>(bif (!(PV.toB v1)) then ze2 else (bif (!(eqB a0_1 0)) then ze2 else (bif (ltB 8192 (((List.length a0_5):Nat):Int)) then ze2 else (zse a0_0 a0_1 a0_2 a0_3 a0_4 a0_5 a0_6 a0_7 a0_8 a0_9 a0_10 a0_11 a0_12 a0_13 a0_14 a0_15 a0_16 a0_17 a0_18 a0_19 a0_20 a0_21 a0_22 a0_23 a0_24))))) :=
 (z6 EE z4i _ rfl).trans (by kernel_rfl)
theorem z8f  : ze2  =
  (some (PV.bool false)) :=
 (z7 EE _ _).trans (by kernel_rfl)
theorem zxa (x0:List UInt8) (x1 x2:Int) (x3:Bool) (x4:List UInt8) (x5:List PV) (x6:Bool) (x7 x8 x9 xA xB xC xD xE xF:Int) (xG:List UInt8) (xH xI xJ xK xL xM xN:Int) (xO:List UInt8):zse x0 x1 x2 x3 x4 x5 x6 x7 x8 x9 xA xB xC xD xE xF xG xH xI xJ xK xL xM xN xO =
  (ze1 x5 (((List.length x5):Nat):Int) 0 x0 x1 x2 x3 x4 x5 x6 x7 x8 x9 xA xB xC xD xE xF xG xH xI xJ xK xL xM xN xO) :=
 (z7 EE _ _).trans (by kernel_rfl)
theorem zja (x0:List PV) (x1 x2:Int) (x3:List UInt8) (x4 x5:Int) (x6:Bool) (x7:List UInt8) (x8:List PV) (x9:Bool) (xA xB xC xD xE xF xG xH xI:Int) (xJ:List UInt8) (xK xL xM xN xO xP xQ:Int) (xR:List UInt8):ze1 x0 x1 x2 x3 x4 x5 x6 x7 x8 x9 xA xB xC xD xE xF xG xH xI xJ xK xL xM xN xO xP xQ xR =
  (bif (ltB x2 x1) then ((rdI (EE.ti zo) x0 x2).bind fun v1=>((zef (PV.toI (PV.nth v1 1)) 57600).bind fun v2=>(bif (!(PV.toB v2)) then ze0 else ((zef (PV.toI (PV.nth v1 0)) 1125899906842624).bind fun v3=>(bif (!(PV.toB v3)) then ze0 else (bif (ltB 0 x2) then ((rdI (EE.ti zo) x8 (IntKind.wrap .i64 (x2-1))).bind fun v4=>(bif (leB (PV.toI (PV.nth v1 0)) (PV.toI (PV.nth v4 0))) then ze0 else (zdz x0 x1 x2 x3 x4 x5 x6 x7 x8 x9 xA xB xC xD xE xF xG xH xI xJ xK xL xM xN xO xP xQ xR))) else (zdz x0 x1 x2 x3 x4 x5 x6 x7 x8 x9 xA xB xC xD xE xF xG xH xI xJ xK xL xM xN xO xP xQ xR))))))) else (bif (!x9) then (some (PV.bool ((x9 == false)&&((eqB xA 0)&&((eqB xB 0)&&((eqB xC 0)&&((eqB xD 0)&&((eqB xE 0)&&((eqB xF 0)&&((eqB xG 0)&&((eqB xH 0)&&((eqB xI 0)&&((eqS xJ [])&&((eqB xK 0)&&((eqB xL 0)&&((eqB xM 0)&&((eqB xN 0)&&((eqB xO 0)&&((eqB xP 0)&&((eqB xQ 0)&&((eqS xR [])&&true))))))))))))))))))))) else ((z6s xA).bind fun v5=>((z16d x9 xA xB xC xD xE xF xG xH xI xJ xK xL xM xN xO xP xQ xR xA).bind fun v6=>(bif (eqB (PV.toI (PV.tnth v6 1)) 0) then (bif (eqB (PV.toI (PV.nth (PV.tnth v6 0) 0)) xA) then (bif (leB 1800 (PV.toI v5)) then (bif (leB (PV.toI v5) 2110) then (bif (eqB (((List.length x8):Nat):Int) 0) then (some (PV.bool true)) else ((rdI (EE.ti zo) x8 (IntKind.wrap .i64 ((((List.length x8):Nat):Int)-1))).bind fun v7=>(some (PV.bool (ltB (PV.toI (PV.nth v7 0)) xA))))) else (some (PV.bool false))) else (some (PV.bool false))) else (some (PV.bool false))) else (some (PV.bool false))))))) :=
 (z7 EE _ _).trans (by kernel_rfl)
theorem z8e  : ze0  =
  (some (PV.bool false)) :=
 (z7 EE _ _).trans (by kernel_rfl)
theorem zx9 (x0:List PV) (x1 x2:Int) (x3:List UInt8) (x4 x5:Int) (x6:Bool) (x7:List UInt8) (x8:List PV) (x9:Bool) (xA xB xC xD xE xF xG xH xI:Int) (xJ:List UInt8) (xK xL xM xN xO xP xQ:Int) (xR:List UInt8):zdz x0 x1 x2 x3 x4 x5 x6 x7 x8 x9 xA xB xC xD xE xF xG xH xI xJ xK xL xM xN xO xP xQ xR =
  (ze1 x0 x1 (IntKind.wrap .i64 (x2+1)) x3 x4 x5 x6 x7 x8 x9 xA xB xC xD xE xF xG xH xI xJ xK xL xM xN xO xP xQ xR) :=
 (z7 EE _ _).trans (by kernel_rfl)
theorem zj3 (a0:Int):z1g a0 =
  (bif (ltB a0 0) then (z3r a0 (IntKind.wrap .u64 (0-(IntKind.wrap .u64 a0)))) else (z3r a0 (IntKind.wrap .u64 a0))) :=
 (z6 EE z17 _ rfl).trans (by kernel_rfl)
theorem zfg (x0 x1:Int):z3r x0 x1 =
  (z2i x0 x1 []) :=
 (z7 EE _ _).trans (by kernel_rfl)
theorem z7m (x0 x1:Int) (x2:List PV):z2i x0 x1 x2 =
  (bif (leB 10 x1) then ((appL 1 x2 [(PV.int .u8 (IntKind.wrap .u8 (IntKind.wrap .u64 (48+(Int.tmod x1 10)))))]).bind fun v1=>(z2i x0 (IntKind.wrap .u64 (Int.tdiv x1 10)) v1)) else ((appL 1 x2 [(PV.int .u8 (IntKind.wrap .u8 (IntKind.wrap .u64 (48+x1))))]).bind fun v2=>(bif (ltB x0 0) then ((appL 1 v2 [(PV.int .u8 45)]).bind fun v3=>(z11 v3)) else (z11 v2)))) :=
 (z7 EE _ _).trans (by kernel_rfl)
theorem zf3 (x0:List PV):z11 x0 =
  (z3g (IntKind.wrap .i64 ((((List.length x0):Nat):Int)-1)) x0 []) :=
 (z7 EE _ _).trans (by kernel_rfl)
theorem z70 (x0:Int) (x1:List PV) (x2:List PV):z3g x0 x1 x2 =
  (bif (leB 0 x0) then (bif (inB 0 x0 (((List.length x1):Nat):Int)) then ((rdT (tiInt IntKind.u8) x1 (Int.toNat x0) 0).bind fun v1=>((appL 1 x2 [(PV.int .u8 (PV.toI v1))]).bind fun v2=>(z3g (IntKind.wrap .i64 (x0-1)) x1 v2))) else none) else ((z75 x2).bind fun v3=>(some (PV.str v3)))) :=
 (z7 EE _ _).trans (by kernel_rfl)
theorem zx0 (a0_0 a0_1:Int):zua a0_0 a0_1 =
  (bif ((eqB a0_0 (-1))&&((eqB a0_1 0)&&true)) then (some (PV.bool true)) else (bif ((eqB a0_0 1)&&((eqB a0_1 0)&&true)) then (some (PV.bool true)) else (bif (eqB a0_0 0) then ((z3f a0_1).bind fun v1=>(some (PV.bool (PV.toB v1)))) else (some (PV.bool false))))) :=
 (z6 EE zwu _ rfl).trans (by kernel_rfl)
theorem zhi (a0_0 a0_1:Int):z3s a0_0 a0_1 =
  ((ztc a0_1).bind fun v1=>(bif ((eqB a0_0 (-1))&&((eqB a0_1 0)&&true)) then (some (PV.bool true)) else (bif ((eqB a0_0 1)&&((eqB a0_1 0)&&true)) then (some (PV.bool true)) else (bif (eqB a0_0 0) then ((z3f (PV.toI (PV.tnth v1 0))).bind fun v2=>(some (PV.bool (PV.toB v2)))) else (some (PV.bool false)))))) :=
 (z6 EE zhf _ rfl).trans (by kernel_rfl)
theorem z151 (a0_0 a0_1 a0_2 a0_3:Int):zvb a0_0 a0_1 a0_2 a0_3 =
  (bif (!(eqB a0_0 0)) then (bif ((eqB a0_0 a0_0)&&((eqB a0_1 0)&&((eqB a0_2 0)&&((eqB a0_3 0)&&true)))) then (bif (leB (-1) a0_0) then (some (PV.bool (leB a0_0 1))) else (some (PV.bool false))) else (some (PV.bool false))) else ((z15o a0_3).bind fun v1=>((zic a0_1).bind fun v2=>(bif (PV.toB v2) then ((zic a0_2).bind fun v3=>(bif (PV.toB v3) then (some (PV.bool (eqB (PV.toI (PV.tnth v1 1)) 0))) else (some (PV.bool false)))) else (some (PV.bool false)))))) :=
 (z6 EE ztn _ rfl).trans (by kernel_rfl)
theorem zjx (a0_0 a0_1:Int):zf0 a0_0 a0_1 =
  (bif (eqB a0_0 0) then ((z53 a0_1).bind fun v1=>(some (PV.bool (PV.toB v1)))) else (bif (eqB a0_0 (-1)) then (some (PV.bool (eqB a0_1 0))) else (bif (eqB a0_0 1) then (some (PV.bool (eqB a0_1 0))) else (some (PV.bool false))))) :=
 (z6 EE zaq _ rfl).trans (by kernel_rfl)
theorem z1b7 (a0_0 a0_1 a1:Int):z150 a0_0 a0_1 a1 =
  ((z1bt a0_1 a1).bind fun v1=>(bif (!(eqB (PV.toI (PV.tnth v1 1)) 0)) then (some (PV.tuple [(PV.agg [(PV.int .i64 0),(PV.int .i64 0)]),(PV.int .i64 10)])) else ((z3s 0 (PV.toI (PV.tnth v1 0))).bind fun v2=>(bif (!(PV.toB v2)) then (some (PV.tuple [(PV.agg [(PV.int .i64 0),(PV.int .i64 0)]),(PV.int .i64 10)])) else (some (PV.tuple [(PV.agg [(PV.int .i64 0),(PV.int .i64 (PV.toI (PV.tnth v1 0)))]),(PV.int .i64 0)])))))) :=
 (z6 EE z10e _ rfl).trans (by kernel_rfl)
theorem zl2 (a0_0:List UInt8) (a0_1 a0_2:Int) (a0_3:Bool) (a0_4:List UInt8) (a0_5:List PV) (a0_6:Bool) (a0_7 a0_8 a0_9 a0_10 a0_11 a0_12 a0_13 a0_14 a0_15:Int) (a0_16:List UInt8) (a0_17 a0_18 a0_19 a0_20 a0_21 a0_22 a0_23:Int) (a0_24:List UInt8) (a1_0 a1_1:Int):z17z a0_0 a0_1 a0_2 a0_3 a0_4 a0_5 a0_6 a0_7 a0_8 a0_9 a0_10 a0_11 a0_12 a0_13 a0_14 a0_15 a0_16 a0_17 a0_18 a0_19 a0_20 a0_21 a0_22 a0_23 a0_24 a1_0 a1_1 =
  ((zmj a0_0 a0_1 a0_2 a0_3 a0_4 a0_5 a0_6 a0_7 a0_8 a0_9 a0_10 a0_11 a0_12 a0_13 a0_14 a0_15 a0_16 a0_17 a0_18 a0_19 a0_20 a0_21 a0_22 a0_23 a0_24).bind fun v1=>(bif (!(PV.toB v1)) then (some (PV.int .i64 1)) else ((z3s a1_0 a1_1).bind fun v2=>(bif (!(PV.toB v2)) then (some (PV.int .i64 1)) else (some (PV.int .i64 0)))))) :=
 (z6 EE zwr _ rfl).trans (by kernel_rfl)
theorem z11w (a0_0 a0_1:Int):zr5 a0_0 a0_1 =
  ((z15q a0_1 1000000).bind fun v1=>((z15p a0_1 1000000).bind fun v2=>(some (PV.tuple [(PV.int .i64 (IntKind.wrap .i64 ((PV.toI (PV.tnth v1 0))+946684800))),(PV.int .i64 (PV.toI (PV.tnth v2 0)))])))) :=
 (z6 EE zq5 _ rfl).trans (by kernel_rfl)
theorem zuv (a0_0:List UInt8) (a0_1 a0_2:Int) (a0_3:Bool) (a0_4:List UInt8) (a0_5:List PV) (a0_6:Bool) (a0_7 a0_8 a0_9 a0_10 a0_11 a0_12 a0_13 a0_14 a0_15:Int) (a0_16:List UInt8) (a0_17 a0_18 a0_19 a0_20 a0_21 a0_22 a0_23:Int) (a0_24:List UInt8) (a1:Int):z14c a0_0 a0_1 a0_2 a0_3 a0_4 a0_5 a0_6 a0_7 a0_8 a0_9 a0_10 a0_11 a0_12 a0_13 a0_14 a0_15 a0_16 a0_17 a0_18 a0_19 a0_20 a0_21 a0_22 a0_23 a0_24 a1 =
  ((z1co a0_0 a0_1 a0_2 a0_3 a0_4 a0_5 a0_6 a0_7 a0_8 a0_9 a0_10 a0_11 a0_12 a0_13 a0_14 a0_15 a0_16 a0_17 a0_18 a0_19 a0_20 a0_21 a0_22 a0_23 a0_24 [(PV.int .i64 a1)]).bind fun v1=>(bif (!(eqB (PV.toI v1) 0)) then (some (PV.tuple [(PV.agg [(PV.int .i64 0),(PV.int .i64 0),(PV.bool false),(PV.str [])]),(PV.int .i64 (PV.toI v1))])) else ((z1an a0_0 a0_1 a0_2 a0_3 a0_4 a0_5 a0_6 a0_7 a0_8 a0_9 a0_10 a0_11 a0_12 a0_13 a0_14 a0_15 a0_16 a0_17 a0_18 a0_19 a0_20 a0_21 a0_22 a0_23 a0_24 a1).bind fun v2=>(some (PV.tuple [(PV.agg [(PV.int .i64 (PV.toI (PV.nth v2 0))),(PV.int .i64 (PV.toI (PV.nth v2 1))),(PV.bool (PV.toB (PV.nth v2 2))),(PV.str (PV.toS (PV.nth v2 3)))]),(PV.int .i64 0)]))))) :=
 (z6 EE z13j _ rfl).trans (by kernel_rfl)
theorem day_Of_eq (a0_0 a0_1:Int):day_Of a0_0 a0_1 =
  ((z3s a0_0 a0_1).bind fun v1=>(bif (!(PV.toB v1)) then (some (PV.tuple [(PV.agg [(PV.int .i64 0),(PV.int .i64 0)]),(PV.int .i64 0),(PV.int .i64 1)])) else (bif (!(eqB a0_0 0)) then (some (PV.tuple [(PV.agg [(PV.int .i64 a0_0),(PV.int .i64 0)]),(PV.int .i64 0),(PV.int .i64 0)])) else ((ztc a0_1).bind fun v2=>(some (PV.tuple [(PV.agg [(PV.int .i64 0),(PV.int .i64 (PV.toI (PV.tnth v2 0)))]),(PV.int .i64 (PV.toI (PV.tnth v2 1))),(PV.int .i64 0)])))))) :=
 (z6 EE z19e _ rfl).trans (by kernel_rfl)
theorem zwc (a0_0 a0_1 a1_0 a1_1 a1_2:Int):zl6 a0_0 a0_1 a1_0 a1_1 a1_2 =
  ((zub a0_0 a0_1).bind fun v1=>(bif (ltB (PV.toI (PV.tnth v1 0)) 1) then (zft (IntKind.wrap .i64 (1-(PV.toI (PV.tnth v1 0)))) (PV.toI (PV.tnth v1 1)) (PV.toI (PV.tnth v1 2)) [32,66,67] a1_0 a1_1 a1_2) else (zft (PV.toI (PV.tnth v1 0)) (PV.toI (PV.tnth v1 1)) (PV.toI (PV.tnth v1 2)) [] a1_0 a1_1 a1_2))) :=
 (z6 EE zg4 _ rfl).trans (by kernel_rfl)
theorem zl5 (x0 x1 x2:Int) (x3:List UInt8) (x4 x5 x6:Int):zft x0 x1 x2 x3 x4 x5 x6 =
  ((z4t x0).bind fun v1=>((z80 [48] (maxI 0 (IntKind.wrap .i64 (4-(((List.length (PV.toS v1)):Nat):Int))))).bind fun v2=>((zt [(PV.str (PV.toS v2)),(PV.str (PV.toS v1))]).bind fun v3=>((z2u x1).bind fun v4=>((z2u x2).bind fun v5=>(bif (eqB x4 0) then ((z1o [45] [(PV.str (PV.toS v3)),(PV.str (PV.toS v4)),(PV.str (PV.toS v5))]).bind fun v6=>(some (PV.tuple [(PV.str (PV.toS v6)),(PV.str x3)]))) else (bif (eqB x5 2) then ((z1o [47] [(PV.str (PV.toS v4)),(PV.str (PV.toS v5)),(PV.str (PV.toS v3))]).bind fun v7=>(some (PV.tuple [(PV.str (PV.toS v7)),(PV.str x3)]))) else (bif (eqB x5 1) then ((z1o [47] [(PV.str (PV.toS v5)),(PV.str (PV.toS v4)),(PV.str (PV.toS v3))]).bind fun v8=>(some (PV.tuple [(PV.str (PV.toS v8)),(PV.str x3)]))) else ((z1o [47] [(PV.str (PV.toS v3)),(PV.str (PV.toS v4)),(PV.str (PV.toS v5))]).bind fun v9=>(some (PV.tuple [(PV.str (PV.toS v9)),(PV.str x3)]))))))))))) :=
 (z7 EE _ _).trans (by kernel_rfl)
theorem z16p (a0:Int):zvp a0 =
  ((zx2 a0 86400000000).bind fun v1=>(bif (!(PV.toB v1)) then (some (PV.tuple [(PV.str []),(PV.int .i64 10)])) else ((zhw (IntKind.wrap .u64 a0)).bind fun v2=>(some (PV.tuple [(PV.str (PV.toS v2)),(PV.int .i64 0)]))))) :=
 (z6 EE ztv _ rfl).trans (by kernel_rfl)
theorem zz9 (a0:List UInt8) (a1:List PV):z1o a0 a1 =
  (z6l a0 a1 (((List.length a1):Nat):Int) 0 []) :=
 (z6 EE za1 _ rfl).trans (by kernel_rfl)
theorem zfu (x0:List UInt8) (x1:List PV) (x2 x3:Int) (x4:List PV):z6l x0 x1 x2 x3 x4 =
  (bif (ltB x3 x2) then ((rdI tiStr x1 x3).bind fun v1=>(bif (!(eqS (PV.toS v1) [])) then ((appL 16 x4 [(PV.str (PV.toS v1))]).bind fun v2=>(z6l x0 x1 x2 (IntKind.wrap .i64 (x3+1)) v2)) else (z6l x0 x1 x2 (IntKind.wrap .i64 (x3+1)) x4))) else ((zkx x4 x0).bind fun v3=>(some (PV.str (PV.toS v3))))) :=
 (z7 EE _ _).trans (by kernel_rfl)
theorem zx3 (a0:Int):z2u a0 =
  (bif (leB 0 a0) then ((z73 (IntKind.wrap .u64 a0) 2).bind fun v1=>(some (PV.str (PV.toS v1)))) else ((z15o a0).bind fun v2=>(bif (eqB (PV.toI (PV.tnth v2 1)) 0) then ((z73 (IntKind.wrap .u64 (PV.toI (PV.tnth v2 0))) 2).bind fun v3=>((catS [45] (PV.toS v3)).bind fun v4=>(some (PV.str v4)))) else ((z73 9223372036854775808 2).bind fun v5=>((catS [45] (PV.toS v5)).bind fun v6=>(some (PV.str v6))))))) :=
 (z6 EE zww _ rfl).trans (by kernel_rfl)
theorem zka (a0:Int):z5v a0 =
  ((z7g a0 86400000000).bind fun v1=>((z7f a0 86400000000).bind fun v2=>(some (PV.tuple [(PV.int .i64 (PV.toI (PV.tnth v1 0))),(PV.int .i64 (PV.toI (PV.tnth v2 0)))])))) :=
 (z6 EE zax _ rfl).trans (by kernel_rfl)
theorem zit (a0:Int):z53 a0 =
  ((z3h a0).bind fun v1=>(bif (eqB (PV.toI (PV.tnth v1 3)) 0) then (bif (leB (-4712) (PV.toI (PV.tnth v1 0))) then (some (PV.bool (leB (PV.toI (PV.tnth v1 0)) 294276))) else (some (PV.bool false))) else (some (PV.bool false)))) :=
 (z6 EE za3 _ rfl).trans (by kernel_rfl)
theorem zp9 (a0_0 a0_1:Int) (a0_2:Bool) (a0_3:List UInt8):z7d a0_0 a0_1 a0_2 a0_3 =
  (bif (leB (-57600) a0_1) then (some (PV.bool (leB a0_1 57600))) else (some (PV.bool false))) :=
 (z6 EE zdm _ rfl).trans (by kernel_rfl)
theorem ziu (a0:Int):z2l a0 =
  (bif (ltB (Int.tmod a0 86400) 0) then (z3p (IntKind.wrap .i64 ((IntKind.wrap .i64 (Int.tdiv a0 86400))-1))) else (z3p (IntKind.wrap .i64 (Int.tdiv a0 86400)))) :=
 (z6 EE z3o _ rfl).trans (by kernel_rfl)
theorem zfe (x0:Int):z3p x0 =
  ((z8z).bind fun v1=>(bif (ltB (IntKind.wrap .i64 (x0-10957)) (PV.toI v1)) then (some (PV.int .i64 (-4718))) else ((z3h (IntKind.wrap .i64 (x0-10957))).bind fun v2=>(bif (!(eqB (PV.toI (PV.tnth v2 3)) 0)) then (some (PV.int .i64 294282)) else (some (PV.int .i64 (PV.toI (PV.tnth v2 0)))))))) :=
 (z7 EE _ _).trans (by kernel_rfl)
theorem z5s (a0_0:Bool) (a0_1 a0_2 a0_3 a0_4 a0_5 a0_6 a0_7 a0_8 a0_9:Int) (a0_10:List UInt8) (a0_11 a0_12 a0_13 a0_14 a0_15 a0_16 a0_17:Int) (a0_18:List UInt8) (a1:Int):z8l a0_0 a0_1 a0_2 a0_3 a0_4 a0_5 a0_6 a0_7 a0_8 a0_9 a0_10 a0_11 a0_12 a0_13 a0_14 a0_15 a0_16 a0_17 a0_18 a1 =
  ((zaa a0_0 a0_1 a0_2 a0_3 a0_4 a0_5 a0_6 a0_7 a0_8 a0_9 a0_10 a0_11 a0_12 a0_13 a0_14 a0_15 a0_16 a0_17 a0_18 a1).bind fun v1=>(z42 a1 (PV.toL (PV.tnth v1 0)) (PV.toI (PV.tnth v1 1)) (IntKind.wrap .i64 ((((List.length (PV.toL (PV.tnth v1 0))):Nat):Int)-1)) 0 0 false [])) :=
 (z6 EE z5m _ rfl).trans (by kernel_rfl)
theorem z65 (x0:Int) (x1:List PV) (x2 x3 x4 x5:Int) (x6:Bool) (x7:List UInt8):z42 x0 x1 x2 x3 x4 x5 x6 x7 =
  (bif (leB 0 x3) then ((rdI (EE.ti zo) x1 x3).bind fun v1=>(bif (leB (PV.toI (PV.nth v1 0)) x0) then ((rdI (EE.ti zo) x1 x3).bind fun v2=>(some (PV.tuple [(PV.agg [(PV.int .i64 (PV.toI (PV.nth v2 0))),(PV.int .i64 (PV.toI (PV.nth v2 1))),(PV.bool (PV.toB (PV.nth v2 2))),(PV.str (PV.toS (PV.nth v2 3)))]),(PV.int .i64 0)]))) else (z42 x0 x1 x2 (IntKind.wrap .i64 (x3-1)) x4 x5 x6 x7))) else (some (PV.tuple [(PV.agg [(PV.int .i64 0),(PV.int .i64 0),(PV.bool false),(PV.str [])]),(PV.int .i64 x2)]))) :=
 (z7 EE _ _).trans (by kernel_rfl)
theorem zp8 (a0_0 a0_1:Int):z7c a0_0 a0_1 =
  ((z7g a0_1 1000000).bind fun v1=>((z7f a0_1 1000000).bind fun v2=>(some (PV.tuple [(PV.int .i64 (IntKind.wrap .i64 ((PV.toI (PV.tnth v1 0))+946684800))),(PV.int .i64 (PV.toI (PV.tnth v2 0)))])))) :=
 (z6 EE zdl _ rfl).trans (by kernel_rfl)
theorem z8u (a0_0:List UInt8) (a0_1 a0_2:Int) (a0_3:Bool) (a0_4:List UInt8) (a0_5:List PV) (a0_6:Bool) (a0_7 a0_8 a0_9 a0_10 a0_11 a0_12 a0_13 a0_14 a0_15:Int) (a0_16:List UInt8) (a0_17 a0_18 a0_19 a0_20 a0_21 a0_22 a0_23:Int) (a0_24:List UInt8) (a1:Int):z60 a0_0 a0_1 a0_2 a0_3 a0_4 a0_5 a0_6 a0_7 a0_8 a0_9 a0_10 a0_11 a0_12 a0_13 a0_14 a0_15 a0_16 a0_17 a0_18 a0_19 a0_20 a0_21 a0_22 a0_23 a0_24 a1 =
  ((z2y a0_0 a0_1 a0_2 a0_3 a0_4 a0_5 a0_6 a0_7 a0_8 a0_9 a0_10 a0_11 a0_12 a0_13 a0_14 a0_15 a0_16 a0_17 a0_18 a0_19 a0_20 a0_21 a0_22 a0_23 a0_24).bind fun v1=>(bif (!(PV.toB v1)) then (some (PV.tuple [(PV.agg [(PV.int .i64 0),(PV.int .i64 0),(PV.bool false),(PV.str [])]),(PV.int .i64 1)])) else ((z8t a1).bind fun v2=>(bif (!(PV.toB v2)) then (some (PV.tuple [(PV.agg [(PV.int .i64 0),(PV.int .i64 0),(PV.bool false),(PV.str [])]),(PV.int .i64 10)])) else (bif a0_6 then (bif (leB a0_7 a1) then (z8w a1 a0_0 a0_1 a0_2 a0_3 a0_4 a0_5 a0_6 a0_7 a0_8 a0_9 a0_10 a0_11 a0_12 a0_13 a0_14 a0_15 a0_16 a0_17 a0_18 a0_19 a0_20 a0_21 a0_22 a0_23 a0_24 0 0 false []) else (z8v a1 a0_0 a0_1 a0_2 a0_3 a0_4 a0_5 a0_6 a0_7 a0_8 a0_9 a0_10 a0_11 a0_12 a0_13 a0_14 a0_15 a0_16 a0_17 a0_18 a0_19 a0_20 a0_21 a0_22 a0_23 a0_24 0 0 false [])) else (z8v a1 a0_0 a0_1 a0_2 a0_3 a0_4 a0_5 a0_6 a0_7 a0_8 a0_9 a0_10 a0_11 a0_12 a0_13 a0_14 a0_15 a0_16 a0_17 a0_18 a0_19 a0_20 a0_21 a0_22 a0_23 a0_24 0 0 false [])))))) :=
 (z6 EE z2x _ rfl).trans (by kernel_rfl)
theorem zk2 (x0:Int) (x1:List UInt8) (x2 x3:Int) (x4:Bool) (x5:List UInt8) (x6:List PV) (x7:Bool) (x8 x9 xA xB xC xD xE xF xG:Int) (xH:List UInt8) (xI xJ xK xL xM xN xO:Int) (xP:List UInt8) (xQ xR:Int) (xS:Bool) (xT:List UInt8):z8w x0 x1 x2 x3 x4 x5 x6 x7 x8 x9 xA xB xC xD xE xF xG xH xI xJ xK xL xM xN xO xP xQ xR xS xT =
  ((z8l x7 x8 x9 xA xB xC xD xE xF xG xH xI xJ xK xL xM xN xO xP x0).bind fun v1=>(some (PV.tuple [(PV.agg [(PV.int .i64 (PV.toI (PV.nth (PV.tnth v1 0) 0))),(PV.int .i64 (PV.toI (PV.nth (PV.tnth v1 0) 1))),(PV.bool (PV.toB (PV.nth (PV.tnth v1 0) 2))),(PV.str (PV.toS (PV.nth (PV.tnth v1 0) 3)))]),(PV.int .i64 (PV.toI (PV.tnth v1 1)))]))) :=
 (z7 EE _ _).trans (by kernel_rfl)
theorem zk1 (x0:Int) (x1:List UInt8) (x2 x3:Int) (x4:Bool) (x5:List UInt8) (x6:List PV) (x7:Bool) (x8 x9 xA xB xC xD xE xF xG:Int) (xH:List UInt8) (xI xJ xK xL xM xN xO:Int) (xP:List UInt8) (xQ xR:Int) (xS:Bool) (xT:List UInt8):z8v x0 x1 x2 x3 x4 x5 x6 x7 x8 x9 xA xB xC xD xE xF xG xH xI xJ xK xL xM xN xO xP xQ xR xS xT =
  (z5o x0 0 x1 x2 x3 x4 x5 x6 x7 x8 x9 xA xB xC xD xE xF xG xH xI xJ xK xL xM xN xO xP xQ xR xS xT x2 x3 x4 x5) :=
 (z7 EE _ _).trans (by kernel_rfl)
theorem zb6 (x0 x1:Int) (x2:List UInt8) (x3 x4:Int) (x5:Bool) (x6:List UInt8) (x7:List PV) (x8:Bool) (x9 xA xB xC xD xE xF xG xH:Int) (xI:List UInt8) (xJ xK xL xM xN xO xP:Int) (xQ:List UInt8) (xR xS:Int) (xT:Bool) (xU:List UInt8) (xV xW:Int) (xX:Bool) (xY:List UInt8):z5o x0 x1 x2 x3 x4 x5 x6 x7 x8 x9 xA xB xC xD xE xF xG xH xI xJ xK xL xM xN xO xP xQ xR xS xT xU xV xW xX xY =
  (bif (ltB x1 (((List.length x7):Nat):Int)) then ((rdI (EE.ti zo) x7 x1).bind fun v1=>(bif (leB (PV.toI (PV.nth v1 0)) x0) then ((rdI (EE.ti zo) x7 x1).bind fun v2=>(z5o x0 (IntKind.wrap .i64 (x1+1)) x2 x3 x4 x5 x6 x7 x8 x9 xA xB xC xD xE xF xG xH xI xJ xK xL xM xN xO xP xQ xR xS xT xU (PV.toI (PV.nth v2 0)) (PV.toI (PV.nth v2 1)) (PV.toB (PV.nth v2 2)) (PV.toS (PV.nth v2 3)))) else (some (PV.tuple [(PV.agg [(PV.int .i64 xV),(PV.int .i64 xW),(PV.bool xX),(PV.str xY)]),(PV.int .i64 0)])))) else (some (PV.tuple [(PV.agg [(PV.int .i64 xV),(PV.int .i64 xW),(PV.bool xX),(PV.str xY)]),(PV.int .i64 0)]))) :=
 (z7 EE _ _).trans (by kernel_rfl)
theorem zlt (a0 a1:Int):za6 a0 a1 =
  ((zbk (IntKind.wrap .i64 (a0-946684800)) 1000000).bind fun v1=>((za5 0 (PV.toI (PV.tnth v1 0)) (PV.toI (PV.tnth v1 1)) a1).bind fun v2=>(some (PV.tuple [(PV.agg [(PV.int .i64 (PV.toI (PV.nth (PV.tnth v2 0) 0))),(PV.int .i64 (PV.toI (PV.nth (PV.tnth v2 0) 1)))]),(PV.int .i64 (PV.toI (PV.tnth v2 1)))])))) :=
 (z6 EE zcj _ rfl).trans (by kernel_rfl)
theorem zry (a0_0 a0_1:Int):zdc a0_0 a0_1 =
  ((z10 a0_0 a0_1).bind fun v1=>(bif (!(PV.toB v1)) then (some (PV.tuple [(PV.agg [(PV.int .i64 0),(PV.int .i64 0)]),(PV.int .i64 0),(PV.int .i64 1)])) else (bif (!(eqB a0_0 0)) then (some (PV.tuple [(PV.agg [(PV.int .i64 a0_0),(PV.int .i64 0)]),(PV.int .i64 0),(PV.int .i64 0)])) else ((z5v a0_1).bind fun v2=>(some (PV.tuple [(PV.agg [(PV.int .i64 0),(PV.int .i64 (PV.toI (PV.tnth v2 0)))]),(PV.int .i64 (PV.toI (PV.tnth v2 1))),(PV.int .i64 0)])))))) :=
 (z6 EE zew _ rfl).trans (by kernel_rfl)
theorem zls (a0_0 a0_1 a1_0 a1_1 a1_2:Int):za4 a0_0 a0_1 a1_0 a1_1 a1_2 =
  ((z8s a0_0 a0_1).bind fun v1=>(bif (ltB (PV.toI (PV.tnth v1 0)) 1) then (z4l (IntKind.wrap .i64 (1-(PV.toI (PV.tnth v1 0)))) (PV.toI (PV.tnth v1 1)) (PV.toI (PV.tnth v1 2)) [32,66,67] a1_0 a1_1 a1_2) else (z4l (PV.toI (PV.tnth v1 0)) (PV.toI (PV.tnth v1 1)) (PV.toI (PV.tnth v1 2)) [] a1_0 a1_1 a1_2))) :=
 (z6 EE z35 _ rfl).trans (by kernel_rfl)
theorem zhk (x0 x1 x2:Int) (x3:List UInt8) (x4 x5 x6:Int):z4l x0 x1 x2 x3 x4 x5 x6 =
  ((z1g x0).bind fun v1=>(z37 x1 x2 x3 (PV.toS v1) x4 x5 x6)) :=
 (z7 EE _ _).trans (by kernel_rfl)
theorem z9g (x0 x1:Int) (x2:List UInt8) (x3:List UInt8) (x4 x5 x6:Int):z37 x0 x1 x2 x3 x4 x5 x6 =
  (bif (ltB (((List.length x3):Nat):Int) 4) then ((catS [48] x3).bind fun v1=>(z37 x0 x1 x2 v1 x4 x5 x6)) else ((z1e x0).bind fun v2=>((z1e x1).bind fun v3=>(bif (eqB x4 0) then ((catS x3 [45]).bind fun v4=>((catS v4 (PV.toS v2)).bind fun v5=>((catS v5 [45]).bind fun v6=>((catS v6 (PV.toS v3)).bind fun v7=>(some (PV.tuple [(PV.str v7),(PV.str x2)])))))) else (bif (eqB x5 2) then ((catS (PV.toS v2) [47]).bind fun v8=>((catS v8 (PV.toS v3)).bind fun v9=>((catS v9 [47]).bind fun v10=>((catS v10 x3).bind fun v11=>(some (PV.tuple [(PV.str v11),(PV.str x2)])))))) else (bif (eqB x5 1) then ((catS (PV.toS v3) [47]).bind fun v12=>((catS v12 (PV.toS v2)).bind fun v13=>((catS v13 [47]).bind fun v14=>((catS v14 x3).bind fun v15=>(some (PV.tuple [(PV.str v15),(PV.str x2)])))))) else ((catS x3 [47]).bind fun v16=>((catS v16 (PV.toS v2)).bind fun v17=>((catS v17 [47]).bind fun v18=>((catS v18 (PV.toS v3)).bind fun v19=>(some (PV.tuple [(PV.str v19),(PV.str x2)])))))))))))) :=
 (z7 EE _ _).trans (by kernel_rfl)
theorem zlv (a0:Int):zac a0 =
  ((zf2 a0).bind fun v1=>(bif (!(eqB (PV.toI (PV.tnth v1 4)) 0)) then (some (PV.tuple [(PV.str []),(PV.int .i64 (PV.toI (PV.tnth v1 4)))])) else ((z1e (PV.toI (PV.tnth v1 0))).bind fun v2=>((catS (PV.toS v2) [58]).bind fun v3=>((z1e (PV.toI (PV.tnth v1 1))).bind fun v4=>((catS v3 (PV.toS v4)).bind fun v5=>((catS v5 [58]).bind fun v6=>((z1e (PV.toI (PV.tnth v1 2))).bind fun v7=>((catS v6 (PV.toS v7)).bind fun v8=>((z66 (PV.toI (PV.tnth v1 3))).bind fun v9=>((catS v8 (PV.toS v9)).bind fun v10=>(some (PV.tuple [(PV.str v10),(PV.int .i64 0)]))))))))))))) :=
 (z6 EE zck _ rfl).trans (by kernel_rfl)
theorem zpb (a0:Int):z1e a0 =
  (bif (leB 0 a0) then (bif (ltB a0 10) then (zdw a0) else (z7v a0)) else (z7v a0)) :=
 (z6 EE z3m _ rfl).trans (by kernel_rfl)
theorem zj1 (x0:Int):zdw x0 =
  ((z1g x0).bind fun v1=>((catS [48] (PV.toS v1)).bind fun v2=>(some (PV.str v2)))) :=
 (z7 EE _ _).trans (by kernel_rfl)
theorem zj0 (x0:Int):z7v x0 =
  (bif (ltB x0 0) then (bif (ltB (-10) x0) then ((z1g (IntKind.wrap .i64 (0-x0))).bind fun v1=>((catS [45,48] (PV.toS v1)).bind fun v2=>(some (PV.str v2)))) else ((z1g x0).bind fun v3=>(some (PV.str (PV.toS v3))))) else ((z1g x0).bind fun v4=>(some (PV.str (PV.toS v4))))) :=
 (z7 EE _ _).trans (by kernel_rfl)
theorem z1ba (a0_0 a0_1 a0_2 a0_3:Int):z153 a0_0 a0_1 a0_2 a0_3 =
  ((zbe a0_1).bind fun v1=>((zbe a0_2).bind fun v2=>((zbe a0_3).bind fun v3=>((zbm (Int.tmod (PV.toI (PV.tnth v3 1)) 3600000000)).bind fun v4=>((zr2 (PV.toS v4) [58]).bind fun v5=>((z4t (IntKind.wrap .i64 (Int.tdiv (PV.toI (PV.tnth v1 1)) 12))).bind fun v6=>((z4t (Int.tmod (PV.toI (PV.tnth v1 1)) 12)).bind fun v7=>((zt [(PV.str (PV.toS (PV.tnth v1 0))),(PV.str (PV.toS v6)),(PV.str [45]),(PV.str (PV.toS v7))]).bind fun v8=>((z4t (PV.toI (PV.tnth v2 1))).bind fun v9=>((zt [(PV.str (PV.toS (PV.tnth v2 0))),(PV.str (PV.toS v9))]).bind fun v10=>((z4t (IntKind.wrap .i64 (Int.tdiv (PV.toI (PV.tnth v3 1)) 3600000000))).bind fun v11=>((zt [(PV.str (PV.toS (PV.tnth v3 0))),(PV.str (PV.toS v11)),(PV.str [58]),(PV.str (PV.toS (PV.tnth v5 1)))]).bind fun v12=>((z1o [32] [(PV.str (PV.toS v8)),(PV.str (PV.toS v10)),(PV.str (PV.toS v12))]).bind fun v13=>(some (PV.str (PV.toS v13)))))))))))))))) :=
 (z6 EE z10f _ rfl).trans (by kernel_rfl)
theorem z1bb (a0_0 a0_1 a0_2 a0_3:Int):z154 a0_0 a0_1 a0_2 a0_3 =
  ((z8m (IntKind.wrap .i64 (Int.tdiv a0_1 12)) [89]).bind fun v1=>((z8m (Int.tmod a0_1 12) [77]).bind fun v2=>((z8m a0_2 [68]).bind fun v3=>((zt [(PV.str [80]),(PV.str (PV.toS v1)),(PV.str (PV.toS v2)),(PV.str (PV.toS v3))]).bind fun v4=>(bif (!(eqB a0_3 0)) then ((z8m (IntKind.wrap .i64 (Int.tdiv a0_3 3600000000)) [72]).bind fun v5=>((z8m (IntKind.wrap .i64 (Int.tdiv (Int.tmod a0_3 3600000000) 60000000)) [77]).bind fun v6=>((zl4 (Int.tmod a0_3 60000000)).bind fun v7=>((zt [(PV.str (PV.toS v4)),(PV.str [84]),(PV.str (PV.toS v5)),(PV.str (PV.toS v6)),(PV.str (PV.toS v7))]).bind fun v8=>(bif (eqS (PV.toS v8) [80]) then (some (PV.str [80,84,48,83])) else (some (PV.str (PV.toS v8)))))))) else (bif (eqS (PV.toS v4) [80]) then (some (PV.str [80,84,48,83])) else (some (PV.str (PV.toS v4))))))))) :=
 (z6 EE z10g _ rfl).trans (by kernel_rfl)
theorem zxl (a0_0 a0_1 a0_2 a0_3:Int):zie a0_0 a0_1 a0_2 a0_3 =
  (bif (eqB (IntKind.wrap .i64 (Int.tdiv a0_1 12)) 0) then (z4e [] a0_0 a0_1 a0_2 a0_3 0) else (bif (eqB (IntKind.wrap .i64 (Int.tdiv a0_1 12)) 1) then ((z1n (IntKind.wrap .i64 (Int.tdiv a0_1 12))).bind fun v1=>((zt [(PV.str []),(PV.str (PV.toS v1)),(PV.str [32]),(PV.str [121,101,97,114]),(PV.str [])]).bind fun v2=>(z4e (PV.toS v2) a0_0 a0_1 a0_2 a0_3 (IntKind.wrap .i64 (Int.tdiv a0_1 12))))) else ((z1n (IntKind.wrap .i64 (Int.tdiv a0_1 12))).bind fun v3=>((zt [(PV.str []),(PV.str (PV.toS v3)),(PV.str [32]),(PV.str [121,101,97,114]),(PV.str [115])]).bind fun v4=>(z4e (PV.toS v4) a0_0 a0_1 a0_2 a0_3 (IntKind.wrap .i64 (Int.tdiv a0_1 12))))))) :=
 (z6 EE z2m _ rfl).trans (by kernel_rfl)
theorem zrb (x0:List UInt8) (x1 x2 x3 x4 x5:Int):z4e x0 x1 x2 x3 x4 x5 =
  (bif (eqB (Int.tmod x2 12) 0) then (z1t x0 [] x1 x2 x3 x4 x5) else (bif (ltB x5 0) then (bif (ltB 0 (Int.tmod x2 12)) then (bif (eqB (Int.tmod x2 12) 1) then ((z1n (Int.tmod x2 12)).bind fun v1=>((zt [(PV.str [43]),(PV.str (PV.toS v1)),(PV.str [32]),(PV.str [109,111,110]),(PV.str [])]).bind fun v2=>(z1t x0 (PV.toS v2) x1 x2 x3 x4 (Int.tmod x2 12)))) else ((z1n (Int.tmod x2 12)).bind fun v3=>((zt [(PV.str [43]),(PV.str (PV.toS v3)),(PV.str [32]),(PV.str [109,111,110]),(PV.str [115])]).bind fun v4=>(z1t x0 (PV.toS v4) x1 x2 x3 x4 (Int.tmod x2 12))))) else (bif (eqB (Int.tmod x2 12) 1) then ((z1n (Int.tmod x2 12)).bind fun v5=>((zt [(PV.str []),(PV.str (PV.toS v5)),(PV.str [32]),(PV.str [109,111,110]),(PV.str [])]).bind fun v6=>(z1t x0 (PV.toS v6) x1 x2 x3 x4 (Int.tmod x2 12)))) else ((z1n (Int.tmod x2 12)).bind fun v7=>((zt [(PV.str []),(PV.str (PV.toS v7)),(PV.str [32]),(PV.str [109,111,110]),(PV.str [115])]).bind fun v8=>(z1t x0 (PV.toS v8) x1 x2 x3 x4 (Int.tmod x2 12)))))) else (bif (eqB (Int.tmod x2 12) 1) then ((z1n (Int.tmod x2 12)).bind fun v9=>((zt [(PV.str []),(PV.str (PV.toS v9)),(PV.str [32]),(PV.str [109,111,110]),(PV.str [])]).bind fun v10=>(z1t x0 (PV.toS v10) x1 x2 x3 x4 (Int.tmod x2 12)))) else ((z1n (Int.tmod x2 12)).bind fun v11=>((zt [(PV.str []),(PV.str (PV.toS v11)),(PV.str [32]),(PV.str [109,111,110]),(PV.str [115])]).bind fun v12=>(z1t x0 (PV.toS v12) x1 x2 x3 x4 (Int.tmod x2 12))))))) :=
 (z7 EE _ _).trans (by kernel_rfl)
theorem zra (x0:List UInt8) (x1:List UInt8) (x2 x3 x4 x5 x6:Int):z1t x0 x1 x2 x3 x4 x5 x6 =
  (bif (eqB x4 0) then (z1s x0 x1 [] x2 x3 x4 x5 x6) else (bif (ltB x6 0) then (bif (ltB 0 x4) then (bif (eqB x4 1) then ((z1n x4).bind fun v1=>((zt [(PV.str [43]),(PV.str (PV.toS v1)),(PV.str [32]),(PV.str [100,97,121]),(PV.str [])]).bind fun v2=>(z1s x0 x1 (PV.toS v2) x2 x3 x4 x5 x4))) else ((z1n x4).bind fun v3=>((zt [(PV.str [43]),(PV.str (PV.toS v3)),(PV.str [32]),(PV.str [100,97,121]),(PV.str [115])]).bind fun v4=>(z1s x0 x1 (PV.toS v4) x2 x3 x4 x5 x4)))) else (bif (eqB x4 1) then ((z1n x4).bind fun v5=>((zt [(PV.str []),(PV.str (PV.toS v5)),(PV.str [32]),(PV.str [100,97,121]),(PV.str [])]).bind fun v6=>(z1s x0 x1 (PV.toS v6) x2 x3 x4 x5 x4))) else ((z1n x4).bind fun v7=>((zt [(PV.str []),(PV.str (PV.toS v7)),(PV.str [32]),(PV.str [100,97,121]),(PV.str [115])]).bind fun v8=>(z1s x0 x1 (PV.toS v8) x2 x3 x4 x5 x4))))) else (bif (eqB x4 1) then ((z1n x4).bind fun v9=>((zt [(PV.str []),(PV.str (PV.toS v9)),(PV.str [32]),(PV.str [100,97,121]),(PV.str [])]).bind fun v10=>(z1s x0 x1 (PV.toS v10) x2 x3 x4 x5 x4))) else ((z1n x4).bind fun v11=>((zt [(PV.str []),(PV.str (PV.toS v11)),(PV.str [32]),(PV.str [100,97,121]),(PV.str [115])]).bind fun v12=>(z1s x0 x1 (PV.toS v12) x2 x3 x4 x5 x4)))))) :=
 (z7 EE _ _).trans (by kernel_rfl)
theorem zr9 (x0:List UInt8) (x1:List UInt8) (x2:List UInt8) (x3 x4 x5 x6 x7:Int):z1s x0 x1 x2 x3 x4 x5 x6 x7 =
  (bif (ltB 0 x6) then (bif (ltB x7 0) then (zjg x0 x1 x2 x3 x4 x5 x6) else (z8j x0 x1 x2 [] x3 x4 x5 x6 x7)) else (z8j x0 x1 x2 [] x3 x4 x5 x6 x7)) :=
 (z7 EE _ _).trans (by kernel_rfl)
theorem zr8 (x0:List UInt8) (x1:List UInt8) (x2:List UInt8) (x3 x4 x5 x6:Int):zjg x0 x1 x2 x3 x4 x5 x6 =
  ((zbm x6).bind fun v1=>((zt [(PV.str [43]),(PV.str (PV.toS v1))]).bind fun v2=>((z1o [32] [(PV.str x0),(PV.str x1),(PV.str x2),(PV.str (PV.toS v2))]).bind fun v3=>(some (PV.str (PV.toS v3)))))) :=
 (z7 EE _ _).trans (by kernel_rfl)
theorem zr7 (x0:List UInt8) (x1:List UInt8) (x2:List UInt8) (x3:List UInt8) (x4 x5 x6 x7 x8:Int):z8j x0 x1 x2 x3 x4 x5 x6 x7 x8 =
  (bif (!(eqB x7 0)) then ((zbm x7).bind fun v1=>((z1o [32] [(PV.str x0),(PV.str x1),(PV.str x2),(PV.str (PV.toS v1))]).bind fun v2=>(some (PV.str (PV.toS v2))))) else (bif (eqB x8 0) then ((zbm x7).bind fun v3=>((z1o [32] [(PV.str x0),(PV.str x1),(PV.str x2),(PV.str (PV.toS v3))]).bind fun v4=>(some (PV.str (PV.toS v4))))) else ((z1o [32] [(PV.str x0),(PV.str x1),(PV.str x2),(PV.str x3)]).bind fun v5=>(some (PV.str (PV.toS v5)))))) :=
 (z7 EE _ _).trans (by kernel_rfl)
theorem z11i (a0 a1:Int):zef a0 a1 =
  (bif (leB (IntKind.wrap .i64 (0-a1)) a0) then (some (PV.bool (leB a0 a1))) else (some (PV.bool false))) :=
 (z6 EE zq2 _ rfl).trans (by kernel_rfl)
theorem z12h (a0:Int):z6s a0 =
  ((zvk a0).bind fun v1=>((zj8).bind fun v2=>((zov).bind fun v3=>((z7i (minI (maxI (IntKind.wrap .i64 ((PV.toI v1)-10957)) (PV.toI v2)) (PV.toI v3))).bind fun v4=>(some (PV.int .i64 (PV.toI (PV.tnth v4 0)))))))) :=
 (z6 EE zqe _ rfl).trans (by kernel_rfl)
theorem zoo (a0_0:Bool) (a0_1 a0_2 a0_3 a0_4 a0_5 a0_6 a0_7 a0_8 a0_9:Int) (a0_10:List UInt8) (a0_11 a0_12 a0_13 a0_14 a0_15 a0_16 a0_17:Int) (a0_18:List UInt8) (a1:Int):z16d a0_0 a0_1 a0_2 a0_3 a0_4 a0_5 a0_6 a0_7 a0_8 a0_9 a0_10 a0_11 a0_12 a0_13 a0_14 a0_15 a0_16 a0_17 a0_18 a1 =
  ((z13i a0_0 a0_1 a0_2 a0_3 a0_4 a0_5 a0_6 a0_7 a0_8 a0_9 a0_10 a0_11 a0_12 a0_13 a0_14 a0_15 a0_16 a0_17 a0_18 a1).bind fun v1=>(bif (!(eqB (PV.toI v1) 0)) then (some (PV.tuple [(PV.agg [(PV.int .i64 0),(PV.int .i64 0),(PV.bool false),(PV.str [])]),(PV.int .i64 (PV.toI v1))])) else ((z6s a1).bind fun v2=>(z2o (PV.toI v2) (IntKind.wrap .i64 ((PV.toI v2)-2)) a0_0 a0_1 a0_2 a0_3 a0_4 a0_5 a0_6 a0_7 a0_8 a0_9 a0_10 a0_11 a0_12 a0_13 a0_14 a0_15 a0_16 a0_17 a0_18 0 0 false [] 0 0 false [] a1 0)))) :=
 (z6 EE zhe _ rfl).trans (by kernel_rfl)
theorem z5x (x0 x1:Int) (x2:Bool) (x3 x4 x5 x6 x7 x8 x9 xA xB:Int) (xC:List UInt8) (xD xE xF xG xH xI xJ:Int) (xK:List UInt8) (xL xM:Int) (xN:Bool) (xO:List UInt8) (xP xQ:Int) (xR:Bool) (xS:List UInt8) (xT xU:Int):z2o x0 x1 x2 x3 x4 x5 x6 x7 x8 x9 xA xB xC xD xE xF xG xH xI xJ xK xL xM xN xO xP xQ xR xS xT xU =
  (bif (leB x1 (IntKind.wrap .i64 (x0+2))) then ((zom x2 x3 x4 x5 x6 x7 x8 x9 xA xB xC xD xE xF xG xH xI xJ xK x1 true).bind fun v1=>(bif (ltB xT (PV.toI (PV.nth v1 0))) then (some (PV.tuple [(PV.agg [(PV.int .i64 xP),(PV.int .i64 xQ),(PV.bool xR),(PV.str xS)]),(PV.int .i64 0)])) else ((zom x2 x3 x4 x5 x6 x7 x8 x9 xA xB xC xD xE xF xG xH xI xJ xK x1 false).bind fun v2=>(bif (ltB xT (PV.toI (PV.nth v2 0))) then (some (PV.tuple [(PV.agg [(PV.int .i64 (PV.toI (PV.nth v1 0))),(PV.int .i64 (PV.toI (PV.nth v1 1))),(PV.bool (PV.toB (PV.nth v1 2))),(PV.str (PV.toS (PV.nth v1 3)))]),(PV.int .i64 0)])) else (z2o x0 (IntKind.wrap .i64 (x1+1)) x2 x3 x4 x5 x6 x7 x8 x9 xA xB xC xD xE xF xG xH xI xJ xK xL xM xN xO (PV.toI (PV.nth v2 0)) (PV.toI (PV.nth v2 1)) (PV.toB (PV.nth v2 2)) (PV.toS (PV.nth v2 3)) xT xU))))) else (some (PV.tuple [(PV.agg [(PV.int .i64 xP),(PV.int .i64 xQ),(PV.bool xR),(PV.str xS)]),(PV.int .i64 0)]))) :=
 (z7 EE _ _).trans (by kernel_rfl)
theorem zu9 (a0:Int):z3f a0 =
  ((z7i a0).bind fun v1=>(bif (eqB (PV.toI (PV.tnth v1 3)) 0) then (bif (leB (-4712) (PV.toI (PV.tnth v1 0))) then (some (PV.bool (leB (PV.toI (PV.tnth v1 0)) 294276))) else (some (PV.bool false))) else (some (PV.bool false)))) :=
 (z6 EE ztt _ rfl).trans (by kernel_rfl)
theorem z18q (a0:Int):ztc a0 =
  ((z15q a0 86400000000).bind fun v1=>((z15p a0 86400000000).bind fun v2=>(some (PV.tuple [(PV.int .i64 (PV.toI (PV.tnth v1 0))),(PV.int .i64 (PV.toI (PV.tnth v2 0)))])))) :=
 (z6 EE zwt _ rfl).trans (by kernel_rfl)
theorem z1gb (a0:Int):z15o a0 =
  ((num_Sub 0 a0).bind fun v1=>(some (PV.tuple [(PV.int .i64 (PV.toI (PV.tnth v1 0))),(PV.int .i64 (PV.toI (PV.tnth v1 1)))]))) :=
 (z6 EE z13n _ rfl).trans (by kernel_rfl)
theorem z11x (a0:Int):zic a0 =
  (bif (leB (-2147483647) a0) then (some (PV.bool (leB a0 2147483647))) else (some (PV.bool false))) :=
 (z6 EE zq7 _ rfl).trans (by kernel_rfl)
theorem z1ge (a0 a1:Int):z1bt a0 a1 =
  (bif (!((ltB a0 (IntKind.wrap .i64 (a0+a1))) == (ltB 0 a1))) then (some (PV.tuple [(PV.int .i64 0),(PV.int .i64 10)])) else (some (PV.tuple [(PV.int .i64 (IntKind.wrap .i64 (a0+a1))),(PV.int .i64 0)]))) :=
 (z6 EE z13q _ rfl).trans (by kernel_rfl)
theorem z1gd (a0 a1:Int):z15q a0 a1 =
  ((z18s a0 1 a1).bind fun v1=>(some (PV.tuple [(PV.int .i64 (PV.toI (PV.tnth v1 0))),(PV.int .i64 (PV.toI (PV.tnth v1 1)))]))) :=
 (z6 EE z13p _ rfl).trans (by kernel_rfl)
theorem z1gc (a0 a1:Int):z15p a0 a1 =
  (bif (eqB a1 0) then (some (PV.tuple [(PV.int .i64 0),(PV.int .i64 11)])) else (bif (eqB a1 (-1)) then (some (PV.tuple [(PV.int .i64 0),(PV.int .i64 0)])) else (bif (eqB a1 0) then none else (bif (!(eqB (Int.tmod a0 a1) 0)) then (bif (!((ltB (Int.tmod a0 a1) 0) == (ltB a1 0))) then (some (PV.tuple [(PV.int .i64 (IntKind.wrap .i64 ((Int.tmod a0 a1)+a1))),(PV.int .i64 0)])) else (some (PV.tuple [(PV.int .i64 (Int.tmod a0 a1)),(PV.int .i64 0)]))) else (some (PV.tuple [(PV.int .i64 (Int.tmod a0 a1)),(PV.int .i64 0)])))))) :=
 (z6 EE z13o _ rfl).trans (by kernel_rfl)
theorem zql (a0_0:List UInt8) (a0_1 a0_2:Int) (a0_3:Bool) (a0_4:List UInt8) (a0_5:List PV) (a0_6:Bool) (a0_7 a0_8 a0_9 a0_10 a0_11 a0_12 a0_13 a0_14 a0_15:Int) (a0_16:List UInt8) (a0_17 a0_18 a0_19 a0_20 a0_21 a0_22 a0_23:Int) (a0_24:List UInt8) (a1:List PV):z1co a0_0 a0_1 a0_2 a0_3 a0_4 a0_5 a0_6 a0_7 a0_8 a0_9 a0_10 a0_11 a0_12 a0_13 a0_14 a0_15 a0_16 a0_17 a0_18 a0_19 a0_20 a0_21 a0_22 a0_23 a0_24 a1 =
  ((zmj a0_0 a0_1 a0_2 a0_3 a0_4 a0_5 a0_6 a0_7 a0_8 a0_9 a0_10 a0_11 a0_12 a0_13 a0_14 a0_15 a0_16 a0_17 a0_18 a0_19 a0_20 a0_21 a0_22 a0_23 a0_24).bind fun v1=>(bif (!(PV.toB v1)) then (some (PV.int .i64 1)) else (zi5 a1 (((List.length a1):Nat):Int) 0))) :=
 (z6 EE zin _ rfl).trans (by kernel_rfl)
theorem zpo (x0:List PV) (x1 x2:Int):zi5 x0 x1 x2 =
  (bif (ltB x2 x1) then ((rdI (tiInt IntKind.i64) x0 x2).bind fun v1=>((zuu (PV.toI v1)).bind fun v2=>(bif (!(PV.toB v2)) then (some (PV.int .i64 10)) else (zi5 x0 x1 (IntKind.wrap .i64 (x2+1)))))) else (some (PV.int .i64 0))) :=
 (z7 EE _ _).trans (by kernel_rfl)
theorem z1fd (a0_0:List UInt8) (a0_1 a0_2:Int) (a0_3:Bool) (a0_4:List UInt8) (a0_5:List PV) (a0_6:Bool) (a0_7 a0_8 a0_9 a0_10 a0_11 a0_12 a0_13 a0_14 a0_15:Int) (a0_16:List UInt8) (a0_17 a0_18 a0_19 a0_20 a0_21 a0_22 a0_23:Int) (a0_24:List UInt8) (a1:Int):z1an a0_0 a0_1 a0_2 a0_3 a0_4 a0_5 a0_6 a0_7 a0_8 a0_9 a0_10 a0_11 a0_12 a0_13 a0_14 a0_15 a0_16 a0_17 a0_18 a0_19 a0_20 a0_21 a0_22 a0_23 a0_24 a1 =
  (bif a0_6 then (bif (leB a0_7 a1) then (z12l a0_0 a0_1 a0_2 a0_3 a0_4 a0_5 a0_6 a0_7 a0_8 a0_9 a0_10 a0_11 a0_12 a0_13 a0_14 a0_15 a0_16 a0_17 a0_18 a0_19 a0_20 a0_21 a0_22 a0_23 a0_24 a1 0 0 false []) else (zmi a0_0 a0_1 a0_2 a0_3 a0_4 a0_5 a0_6 a0_7 a0_8 a0_9 a0_10 a0_11 a0_12 a0_13 a0_14 a0_15 a0_16 a0_17 a0_18 a0_19 a0_20 a0_21 a0_22 a0_23 a0_24 a1 0 0 false [])) else (zmi a0_0 a0_1 a0_2 a0_3 a0_4 a0_5 a0_6 a0_7 a0_8 a0_9 a0_10 a0_11 a0_12 a0_13 a0_14 a0_15 a0_16 a0_17 a0_18 a0_19 a0_20 a0_21 a0_22 a0_23 a0_24 a1 0 0 false [])) :=
 (z6 EE zhd _ rfl).trans (by kernel_rfl)
theorem z149 (x0:List UInt8) (x1 x2:Int) (x3:Bool) (x4:List UInt8) (x5:List PV) (x6:Bool) (x7 x8 x9 xA xB xC xD xE xF:Int) (xG:List UInt8) (xH xI xJ xK xL xM xN:Int) (xO:List UInt8) (xP xQ xR:Int) (xS:Bool) (xT:List UInt8):z12l x0 x1 x2 x3 x4 x5 x6 x7 x8 x9 xA xB xC xD xE xF xG xH xI xJ xK xL xM xN xO xP xQ xR xS xT =
  ((z16d x6 x7 x8 x9 xA xB xC xD xE xF xG xH xI xJ xK xL xM xN xO xP).bind fun v1=>(some (PV.agg [(PV.int .i64 (PV.toI (PV.nth (PV.tnth v1 0) 0))),(PV.int .i64 (PV.toI (PV.nth (PV.tnth v1 0) 1))),(PV.bool (PV.toB (PV.nth (PV.tnth v1 0) 2))),(PV.str (PV.toS (PV.nth (PV.tnth v1 0) 3)))]))) :=
 (z7 EE _ _).trans (by kernel_rfl)
theorem z148 (x0:List UInt8) (x1 x2:Int) (x3:Bool) (x4:List UInt8) (x5:List PV) (x6:Bool) (x7 x8 x9 xA xB xC xD xE xF:Int) (xG:List UInt8) (xH xI xJ xK xL xM xN:Int) (xO:List UInt8) (xP xQ xR:Int) (xS:Bool) (xT:List UInt8):zmi x0 x1 x2 x3 x4 x5 x6 x7 x8 x9 xA xB xC xD xE xF xG xH xI xJ xK xL xM xN xO xP xQ xR xS xT =
  ((zz3 (((List.length x5):Nat):Int) (PV.func (Go.Fn.func zce) [] [(PV.ref [(PV.str x0),(PV.int .i64 x1),(PV.int .i64 x2),(PV.bool x3),(PV.str x4),(PV.sl 4 x5),(PV.bool x6),(PV.int .i64 x7),(PV.int .i64 x8),(PV.int .i64 x9),(PV.int .i64 xA),(PV.int .i64 xB),(PV.int .i64 xC),(PV.int .i64 xD),(PV.int .u8 xE),(PV.int .i64 xF),(PV.str xG),(PV.int .i64 xH),(PV.int .i64 xI),(PV.int .i64 xJ),(PV.int .i64 xK),(PV.int .i64 xL),(PV.int .u8 xM),(PV.int .i64 xN),(PV.str xO)] 0),(PV.ref [(PV.int .i64 xP)] 0)])).bind fun v1=>(bif (eqB (PV.toI v1) 0) then (some (PV.agg [(PV.int .i64 x1),(PV.int .i64 x2),(PV.bool x3),(PV.str x4)])) else ((rdI (EE.ti zo) x5 (IntKind.wrap .i64 ((PV.toI v1)-1))).bind fun v2=>(some (PV.agg [(PV.int .i64 (PV.toI (PV.nth v2 0))),(PV.int .i64 (PV.toI (PV.nth v2 1))),(PV.bool (PV.toB (PV.nth v2 2))),(PV.str (PV.toS (PV.nth v2 3)))]))))) :=
 (z7 EE _ _).trans (by kernel_rfl)
theorem zx1 (a0_0 a0_1:Int):zub a0_0 a0_1 =
  ((zua a0_0 a0_1).bind fun v1=>(bif (!(PV.toB v1)) then (some (PV.tuple [(PV.int .i64 0),(PV.int .i64 0),(PV.int .i64 0),(PV.int .i64 1)])) else (bif (!(eqB a0_0 0)) then (some (PV.tuple [(PV.int .i64 0),(PV.int .i64 0),(PV.int .i64 0),(PV.int .i64 10)])) else ((z7i a0_1).bind fun v2=>(some (PV.tuple [(PV.int .i64 (PV.toI (PV.tnth v2 0))),(PV.int .i64 (PV.toI (PV.tnth v2 1))),(PV.int .i64 (PV.toI (PV.tnth v2 2))),(PV.int .i64 (PV.toI (PV.tnth v2 3)))])))))) :=
 (z6 EE zwv _ rfl).trans (by kernel_rfl)
theorem z126 (a0:Int):z4t a0 =
  (bif (ltB a0 10) then ((z2u a0).bind fun v1=>((dropS (PV.toS v1) 1).bind fun v2=>(some (PV.str v2)))) else ((z2u a0).bind fun v3=>(some (PV.str (PV.toS v3))))) :=
 (z6 EE zqc _ rfl).trans (by kernel_rfl)
theorem z76 (a0:List UInt8) (a1:Int):z80 a0 a1 =
  (bif (eqB a1 0) then (some (PV.str [])) else (bif (eqB a1 1) then (some (PV.str a0)) else (bif (ltB a1 0) then none else (zgw a0 a1)))) :=
 (z6 EE zv _ rfl).trans (by kernel_rfl)
theorem zp5 (x0:List UInt8) (x1:Int):zgw x0 x1 =
  ((z1f8 (IntKind.wrap .u64 (((List.length x0):Nat):Int)) (IntKind.wrap .u64 x1)).bind fun v1=>(bif (ltB 0 (PV.toI (PV.tnth v1 0))) then (zfq x0 (PV.toI (PV.tnth v1 1))) else (bif (ltB 9223372036854775807 (PV.toI (PV.tnth v1 1))) then (zfq x0 (PV.toI (PV.tnth v1 1))) else (zfp x0 (PV.toI (PV.tnth v1 1)))))) :=
 (z7 EE _ _).trans (by kernel_rfl)
theorem zkw (x0:List UInt8) (x1:Int):zfp x0 x1 =
  (bif (eqB (((List.length x0):Nat):Int) 0) then (some (PV.str [])) else ((atS x0 0).bind fun v1=>(bif (eqB v1 32) then (z3d x0 (IntKind.wrap .i64 x1)) else (bif (eqB v1 45) then (z3d x0 (IntKind.wrap .i64 x1)) else (bif (eqB v1 48) then (z3d x0 (IntKind.wrap .i64 x1)) else (bif (eqB v1 61) then (z3d x0 (IntKind.wrap .i64 x1)) else (bif (eqB v1 9) then (z3d x0 (IntKind.wrap .i64 x1)) else (zsz x0 (IntKind.wrap .i64 x1))))))))) :=
 (z7 EE _ _).trans (by kernel_rfl)
theorem zkv (x0:List UInt8) (x1:Int):z3d x0 x1 =
  (bif (leB x1 128) then ((z77 [32,32,32,32,32,32,32,32,32,32,32,32,32,32,32,32,32,32,32,32,32,32,32,32,32,32,32,32,32,32,32,32,32,32,32,32,32,32,32,32,32,32,32,32,32,32,32,32,32,32,32,32,32,32,32,32,32,32,32,32,32,32,32,32,32,32,32,32,32,32,32,32,32,32,32,32,32,32,32,32,32,32,32,32,32,32,32,32,32,32,32,32,32,32,32,32,32,32,32,32,32,32,32,32,32,32,32,32,32,32,32,32,32,32,32,32,32,32,32,32,32,32,32,32,32,32,32,32] x0).bind fun v1=>(bif (PV.toB v1) then (zt1 x1) else (z69 x0 x1))) else (z69 x0 x1)) :=
 (z7 EE _ _).trans (by kernel_rfl)
theorem zku (x0:List UInt8) (x1:Int):z69 x0 x1 =
  (bif (leB x1 128) then ((z77 [45,45,45,45,45,45,45,45,45,45,45,45,45,45,45,45,45,45,45,45,45,45,45,45,45,45,45,45,45,45,45,45,45,45,45,45,45,45,45,45,45,45,45,45,45,45,45,45,45,45,45,45,45,45,45,45,45,45,45,45,45,45,45,45,45,45,45,45,45,45,45,45,45,45,45,45,45,45,45,45,45,45,45,45,45,45,45,45,45,45,45,45,45,45,45,45,45,45,45,45,45,45,45,45,45,45,45,45,45,45,45,45,45,45,45,45,45,45,45,45,45,45,45,45,45,45,45,45] x0).bind fun v1=>(bif (PV.toB v1) then (zt0 x1) else (z68 x0 x1))) else (z68 x0 x1)) :=
 (z7 EE _ _).trans (by kernel_rfl)
theorem zkt (x0:List UInt8) (x1:Int):z68 x0 x1 =
  (bif (leB x1 64) then ((z77 [48,48,48,48,48,48,48,48,48,48,48,48,48,48,48,48,48,48,48,48,48,48,48,48,48,48,48,48,48,48,48,48,48,48,48,48,48,48,48,48,48,48,48,48,48,48,48,48,48,48,48,48,48,48,48,48,48,48,48,48,48,48,48,48] x0).bind fun v1=>(bif (PV.toB v1) then (z9t x1) else (zfo x0 x1))) else (zfo x0 x1)) :=
 (z7 EE _ _).trans (by kernel_rfl)
theorem zks (x0:Int):z9t x0 =
  ((takeS [48,48,48,48,48,48,48,48,48,48,48,48,48,48,48,48,48,48,48,48,48,48,48,48,48,48,48,48,48,48,48,48,48,48,48,48,48,48,48,48,48,48,48,48,48,48,48,48,48,48,48,48,48,48,48,48,48,48,48,48,48,48,48,48] x0).bind fun v1=>(some (PV.str v1))) :=
 (z7 EE _ _).trans (by kernel_rfl)
theorem z10z (a0 a1:Int):zx2 a0 a1 =
  (bif (leB 0 a0) then (some (PV.bool (leB a0 a1))) else (some (PV.bool false))) :=
 (z6 EE zlq _ rfl).trans (by kernel_rfl)
theorem z16o (a0:Int):zhw a0 =
  ((z110 a0).bind fun v1=>((z2u (PV.toI (PV.tnth v1 0))).bind fun v2=>((catS (PV.toS v2) [58]).bind fun v3=>((z2u (PV.toI (PV.tnth v1 1))).bind fun v4=>((catS v3 (PV.toS v4)).bind fun v5=>((catS v5 [58]).bind fun v6=>((z2u (PV.toI (PV.tnth v1 2))).bind fun v7=>((catS v6 (PV.toS v7)).bind fun v8=>((zbz (PV.toI (PV.tnth v1 3))).bind fun v9=>((catS v8 (PV.toS v9)).bind fun v10=>(some (PV.str v10)))))))))))) :=
 (z6 EE ztu _ rfl).trans (by kernel_rfl)
theorem zem (a0:List PV) (a1:List UInt8):zkx a0 a1 =
  (bif (eqB (((List.length a0):Nat):Int) 0) then (some (PV.str [])) else (bif (eqB (((List.length a0):Nat):Int) 1) then ((rdI tiStr a0 0).bind fun v1=>(some (PV.str (PV.toS v1)))) else (bif (ltB 0 (((List.length a1):Nat):Int)) then (bif (eqB (IntKind.wrap .i64 ((((List.length a0):Nat):Int)-1)) 0) then none else (bif (leB (IntKind.wrap .i64 (Int.tdiv 9223372036854775807 (IntKind.wrap .i64 ((((List.length a0):Nat):Int)-1)))) (((List.length a1):Nat):Int)) then none else (zjf a0 a1 0))) else (zd6 a0 a1 0)))) :=
 (z6 EE z1q _ rfl).trans (by kernel_rfl)
theorem zr1 (x0:List PV) (x1:List UInt8) (x2:Int):zjf x0 x1 x2 =
  (zd6 x0 x1 (IntKind.wrap .i64 (x2+(IntKind.wrap .i64 ((((List.length x1):Nat):Int)*(IntKind.wrap .i64 ((((List.length x0):Nat):Int)-1))))))) :=
 (z7 EE _ _).trans (by kernel_rfl)
theorem zr0 (x0:List PV) (x1:List UInt8) (x2:Int):zd6 x0 x1 x2 =
  (z8h x0 x1 x2 x0 (((List.length x0):Nat):Int) 0) :=
 (z7 EE _ _).trans (by kernel_rfl)
theorem zeo (x0:List PV) (x1:List UInt8) (x2:Int) (x3:List PV) (x4 x5:Int):z8h x0 x1 x2 x3 x4 x5 =
  (bif (ltB x5 x4) then ((rdI tiStr x3 x5).bind fun v1=>(bif (ltB (IntKind.wrap .i64 (9223372036854775807-x2)) (((List.length (PV.toS v1)):Nat):Int)) then none else (zje x0 x1 x2 (PV.toS v1) x3 x4 x5))) else (bif (ltB x2 0) then none else (bif (ltB (IntKind.wrap .i64 (0-0)) x2) then (bif (decide ((0≤(IntKind.wrap .i64 ((IntKind.wrap .i64 (2*0))+x2)))∧((IntKind.wrap .i64 ((IntKind.wrap .i64 (2*0))+x2))≤281474976710656))) then (zd5 x0 x1 []) else none) else (zfr x0 x1)))) :=
 (z7 EE _ _).trans (by kernel_rfl)
theorem zqz (x0:List PV) (x1:List UInt8) (x2:Int) (x3:List UInt8) (x4:List PV) (x5 x6:Int):zje x0 x1 x2 x3 x4 x5 x6 =
  (z8h x0 x1 (IntKind.wrap .i64 (x2+(((List.length x3):Nat):Int))) x4 x5 (IntKind.wrap .i64 (x6+1))) :=
 (z7 EE _ _).trans (by kernel_rfl)
theorem zqy (x0:List PV) (x1:List UInt8) (x2:List PV):zd5 x0 x1 x2 =
  ((rdI tiStr x0 0).bind fun v1=>((appL 1 x2 (List.map byteV (PV.toS v1))).bind fun v2=>(zd4 x0 x1 v2))) :=
 (z7 EE _ _).trans (by kernel_rfl)
theorem zqx (x0:List PV) (x1:List UInt8) (x2:List PV):zd4 x0 x1 x2 =
  ((dropS x0 1).bind fun v1=>(z8g x1 v1 (((List.length v1):Nat):Int) 0 x2)) :=
 (z7 EE _ _).trans (by kernel_rfl)
theorem zen (x0:List UInt8) (x1:List PV) (x2 x3:Int) (x4:List PV):z8g x0 x1 x2 x3 x4 =
  (bif (ltB x3 x2) then ((rdI tiStr x1 x3).bind fun v1=>((appL 1 x4 (List.map byteV x0)).bind fun v2=>((appL 1 v2 (List.map byteV (PV.toS v1))).bind fun v3=>(z8g x0 x1 x2 (IntKind.wrap .i64 (x3+1)) v3)))) else (bif (isNilL x4) then none else (bif (true&&(!(isNilL x4))) then (bif (decide (((((List.length x4):Nat):Int)=(((List.length x4):Nat):Int))∧((((List.length x4):Nat):Int)≤9223372036854775807))) then ((z75 x4).bind fun v4=>(some (PV.str v4))) else none) else none))) :=
 (z7 EE _ _).trans (by kernel_rfl)
theorem zm5 (a0 a1:Int):z73 a0 a1 =
  (z2k a0 a1 20 [(PV.int .u8 0),(PV.int .u8 0),(PV.int .u8 0),(PV.int .u8 0),(PV.int .u8 0),(PV.int .u8 0),(PV.int .u8 0),(PV.int .u8 0),(PV.int .u8 0),(PV.int .u8 0),(PV.int .u8 0),(PV.int .u8 0),(PV.int .u8 0),(PV.int .u8 0),(PV.int .u8 0),(PV.int .u8 0),(PV.int .u8 0),(PV.int .u8 0),(PV.int .u8 0),(PV.int .u8 0)] 20) :=
 (z6 EE z6r _ rfl).trans (by kernel_rfl)
theorem z3j (x0 x1 x2:Int) (x3:List PV) (x4:Nat):z2k x0 x1 x2 x3 x4 =
  (bif (ltB 0 x0) then (z38 x0 x1 x2 x3 x4) else (bif (ltB (IntKind.wrap .i64 (20-x1)) x2) then (z38 x0 x1 x2 x3 x4) else (bif (eqN (List.length x3) 20) then (bif (eqN x4 20) then (bif (decide ((0≤x2)∧(x2≤((20:Nat):Int)))) then ((z75 (List.take (20-(Int.toNat x2)) (List.drop (Int.toNat x2) x3))).bind fun v1=>(some (PV.str v1))) else none) else none) else none))) :=
 (z7 EE _ _).trans (by kernel_rfl)
theorem zah (x0 x1 x2:Int) (x3:List PV) (x4:Nat):z38 x0 x1 x2 x3 x4 =
  (bif (inB 0 (IntKind.wrap .i64 (x2-1)) ((20:Nat):Int)) then ((stC x3 (Int.toNat (IntKind.wrap .i64 (x2-1))) 0 [(PV.int .u8 (IntKind.wrap .u8 (IntKind.wrap .u64 (48+(Int.tmod x0 10)))))]).bind fun v1=>(z2k (IntKind.wrap .u64 (Int.tdiv x0 10)) x1 (IntKind.wrap .i64 (x2-1)) v1 x4)) else none) :=
 (z7 EE _ _).trans (by kernel_rfl)
theorem zpl (a0 a1:Int):z7g a0 a1 =
  (bif (eqB a1 0) then (some (PV.tuple [(PV.int .i64 0),(PV.int .i64 11)])) else ((zz a0).bind fun v1=>((zz a1).bind fun v2=>((z6e (PV.toB (PV.nth v1 0)) (PV.toL (PV.nth v1 1)) (PV.toB (PV.nth v2 0)) (PV.toL (PV.nth v2 1))).bind fun v3=>((z24 (PV.toB (PV.nth v3 0)) (PV.toL (PV.nth v3 1))).bind fun v4=>(some (PV.tuple [(PV.int .i64 (PV.toI (PV.tnth v4 0))),(PV.int .i64 (PV.toI (PV.tnth v4 1)))]))))))) :=
 (z6 EE zds _ rfl).trans (by kernel_rfl)
theorem zpk (a0 a1:Int):z7f a0 a1 =
  (bif (eqB a1 0) then (some (PV.tuple [(PV.int .i64 0),(PV.int .i64 11)])) else ((zz a0).bind fun v1=>((zz a1).bind fun v2=>((zz a0).bind fun v3=>((zz a1).bind fun v4=>((z6e (PV.toB (PV.nth v3 0)) (PV.toL (PV.nth v3 1)) (PV.toB (PV.nth v4 0)) (PV.toL (PV.nth v4 1))).bind fun v5=>((z5u (PV.toB (PV.nth v2 0)) (PV.toL (PV.nth v2 1)) (PV.toB (PV.nth v5 0)) (PV.toL (PV.nth v5 1))).bind fun v6=>((z90 (PV.toB (PV.nth v6 0)) (PV.toL (PV.nth v6 1))).bind fun v7=>((z6d (PV.toB (PV.nth v1 0)) (PV.toL (PV.nth v1 1)) (PV.toB (PV.nth v7 0)) (PV.toL (PV.nth v7 1))).bind fun v8=>((z24 (PV.toB (PV.nth v8 0)) (PV.toL (PV.nth v8 1))).bind fun v9=>(some (PV.tuple [(PV.int .i64 (PV.toI (PV.tnth v9 0))),(PV.int .i64 (PV.toI (PV.tnth v9 1)))])))))))))))) :=
 (z6 EE zdr _ rfl).trans (by kernel_rfl)
theorem zlz (a0:Int):z3h a0 =
  ((zbj a0).bind fun v1=>(bif (!(PV.toB v1)) then (some (PV.tuple [(PV.int .i64 0),(PV.int .i64 0),(PV.int .i64 0),(PV.int .i64 10)])) else ((z7e a0 146097).bind fun v2=>((z1w a0 146097).bind fun v3=>(z4r (IntKind.wrap .i64 (2000+(IntKind.wrap .i64 ((PV.toI v2)*400)))) (PV.toI v3)))))) :=
 (z6 EE z27 _ rfl).trans (by kernel_rfl)
theorem zht (x0 x1:Int):z4r x0 x1 =
  ((z4p x0).bind fun v1=>(bif (PV.toB v1) then (z4q x0 x1 366) else (z4q x0 x1 365))) :=
 (z7 EE _ _).trans (by kernel_rfl)
theorem zhs (x0 x1 x2:Int):z4q x0 x1 x2 =
  (bif (ltB x1 x2) then (z49 x0 x1 1) else (z4r (IntKind.wrap .i64 (x0+1)) (IntKind.wrap .i64 (x1-x2)))) :=
 (z7 EE _ _).trans (by kernel_rfl)
theorem z8c (x0 x1 x2:Int):z49 x0 x1 x2 =
  ((z2z x0 x2).bind fun v1=>(bif (leB (PV.toI v1) x1) then ((z2z x0 x2).bind fun v2=>(z49 x0 (IntKind.wrap .i64 (x1-(PV.toI v2))) (IntKind.wrap .i64 (x2+1)))) else (some (PV.tuple [(PV.int .i64 x0),(PV.int .i64 x2),(PV.int .i64 (IntKind.wrap .i64 (x1+1))),(PV.int .i64 0)])))) :=
 (z7 EE _ _).trans (by kernel_rfl)
theorem zba  : z8z  =
  ((z5c (-4718) 1 1).bind fun v1=>(some (PV.int .i64 (PV.toI v1)))) :=
 (z6 EE zaw _ rfl).trans (by kernel_rfl)
theorem z4m (a0_0:Bool) (a0_1 a0_2 a0_3 a0_4 a0_5 a0_6 a0_7 a0_8 a0_9:Int) (a0_10:List UInt8) (a0_11 a0_12 a0_13 a0_14 a0_15 a0_16 a0_17:Int) (a0_18:List UInt8) (a1:Int):zaa a0_0 a0_1 a0_2 a0_3 a0_4 a0_5 a0_6 a0_7 a0_8 a0_9 a0_10 a0_11 a0_12 a0_13 a0_14 a0_15 a0_16 a0_17 a0_18 a1 =
  ((z5r a0_0 a0_1 a0_2 a0_3 a0_4 a0_5 a0_6 a0_7 a0_8 a0_9 a0_10 a0_11 a0_12 a0_13 a0_14 a0_15 a0_16 a0_17 a0_18).bind fun v1=>(bif (!(PV.toB v1)) then (some (PV.tuple [(PV.sl 0 []),(PV.int .i64 1)])) else ((z2l a1).bind fun v2=>(bif (ltB (PV.toI v2) (-4714)) then z6w else (bif (ltB 294278 (PV.toI v2)) then z6w else (zct (PV.toI v2) a0_0 a0_1 a0_2 a0_3 a0_4 a0_5 a0_6 a0_7 a0_8 a0_9 a0_10 a0_11 a0_12 a0_13 a0_14 a0_15 a0_16 a0_17 a0_18)))))) :=
 (z6 EE z25 _ rfl).trans (by kernel_rfl)
theorem z9i  : z6w  =
  (some (PV.tuple [(PV.sl 0 []),(PV.int .i64 10)])) :=
 (z7 EE _ _).trans (by kernel_rfl)
theorem zhl (x0:Int) (x1:Bool) (x2 x3 x4 x5 x6 x7 x8 x9 xA:Int) (xB:List UInt8) (xC xD xE xF xG xH xI:Int) (xJ:List UInt8):zct x0 x1 x2 x3 x4 x5 x6 x7 x8 x9 xA xB xC xD xE xF xG xH xI xJ =
  (z4n x0 (IntKind.wrap .i64 (x0-2)) x1 x2 x3 x4 x5 x6 x7 x8 x9 xA xB xC xD xE xF xG xH xI xJ []) :=
 (z7 EE _ _).trans (by kernel_rfl)
theorem z9h (x0 x1:Int) (x2:Bool) (x3 x4 x5 x6 x7 x8 x9 xA xB:Int) (xC:List UInt8) (xD xE xF xG xH xI xJ:Int) (xK:List UInt8) (xL:List PV):z4n x0 x1 x2 x3 x4 x5 x6 x7 x8 x9 xA xB xC xD xE xF xG xH xI xJ xK xL =
  (bif (leB x1 (IntKind.wrap .i64 (x0+2))) then ((zab x2 x3 x4 x5 x6 x7 x8 x9 xA xB xC xD xE xF xG xH xI xJ xK x1).bind fun v1=>((appL 40 xL (PV.toL (PV.tnth v1 0))).bind fun v2=>(z4n x0 (IntKind.wrap .i64 (x1+1)) x2 x3 x4 x5 x6 x7 x8 x9 xA xB xC xD xE xF xG xH xI xJ xK v2))) else (some (PV.tuple [(PV.sl 4 xL),(PV.int .i64 0)]))) :=
 (z7 EE _ _).trans (by kernel_rfl)
theorem zjz (a0:Int):z8t a0 =
  ((z2l a0).bind fun v1=>(bif (leB (-4714) (PV.toI v1)) then (some (PV.bool (leB (PV.toI v1) 294278))) else (some (PV.bool false)))) :=
 (z6 EE zas _ rfl).trans (by kernel_rfl)
theorem zpj (a0 a1:Int):zbk a0 a1 =
  ((zz a0).bind fun v1=>((zz a1).bind fun v2=>((z5u (PV.toB (PV.nth v1 0)) (PV.toL (PV.nth v1 1)) (PV.toB (PV.nth v2 0)) (PV.toL (PV.nth v2 1))).bind fun v3=>((z24 (PV.toB (PV.nth v3 0)) (PV.toL (PV.nth v3 1))).bind fun v4=>(some (PV.tuple [(PV.int .i64 (PV.toI (PV.tnth v4 0))),(PV.int .i64 (PV.toI (PV.tnth v4 1)))])))))) :=
 (z6 EE zdq _ rfl).trans (by kernel_rfl)
theorem zcs (a0_0 a0_1 a1 a2:Int):za5 a0_0 a0_1 a1 a2 =
  ((zbl a0_1 a2).bind fun v1=>(bif (!(eqB a1 0)) then (some (PV.tuple [(PV.agg [(PV.int .i64 0),(PV.int .i64 0)]),(PV.int .i64 10)])) else (bif (!(eqB (PV.toI (PV.tnth v1 1)) 0)) then (some (PV.tuple [(PV.agg [(PV.int .i64 0),(PV.int .i64 0)]),(PV.int .i64 10)])) else ((z10 0 (PV.toI (PV.tnth v1 0))).bind fun v2=>(bif (!(PV.toB v2)) then (some (PV.tuple [(PV.agg [(PV.int .i64 0),(PV.int .i64 0)]),(PV.int .i64 10)])) else (some (PV.tuple [(PV.agg [(PV.int .i64 0),(PV.int .i64 (PV.toI (PV.tnth v1 0)))]),(PV.int .i64 0)]))))))) :=
 (z6 EE zci _ rfl).trans (by kernel_rfl)
theorem zjy (a0_0 a0_1:Int):z8s a0_0 a0_1 =
  ((zf0 a0_0 a0_1).bind fun v1=>(bif (!(PV.toB v1)) then (some (PV.tuple [(PV.int .i64 0),(PV.int .i64 0),(PV.int .i64 0),(PV.int .i64 1)])) else (bif (!(eqB a0_0 0)) then (some (PV.tuple [(PV.int .i64 0),(PV.int .i64 0),(PV.int .i64 0),(PV.int .i64 10)])) else ((z3h a0_1).bind fun v2=>(some (PV.tuple [(PV.int .i64 (PV.toI (PV.tnth v2 0))),(PV.int .i64 (PV.toI (PV.tnth v2 1))),(PV.int .i64 (PV.toI (PV.tnth v2 2))),(PV.int .i64 (PV.toI (PV.tnth v2 3)))])))))) :=
 (z6 EE zar _ rfl).trans (by kernel_rfl)
theorem zk6 (a0:Int):zf2 a0 =
  (bif (ltB a0 0) then zb9 else (bif (ltB 86400000000 a0) then zb9 else (zb8 a0))) :=
 (z6 EE z2r _ rfl).trans (by kernel_rfl)
theorem zgk (x0:Int):zb8 x0 =
  (some (PV.tuple [(PV.int .i64 (IntKind.wrap .i64 (Int.tdiv (IntKind.wrap .i64 (Int.tdiv x0 1000000)) 3600))),(PV.int .i64 (Int.tmod (IntKind.wrap .i64 (Int.tdiv (IntKind.wrap .i64 (Int.tdiv x0 1000000)) 60)) 60)),(PV.int .i64 (Int.tmod (IntKind.wrap .i64 (Int.tdiv x0 1000000)) 60)),(PV.int .i64 (Int.tmod x0 1000000)),(PV.int .i64 0)])) :=
 (z7 EE _ _).trans (by kernel_rfl)
theorem zgl (a0:Int):z66 a0 =
  (bif (ltB a0 1) then z4x else (bif (ltB 999999 a0) then z4x else (z8a a0))) :=
 (z6 EE z1d _ rfl).trans (by kernel_rfl)
theorem z6b  : z4x  =
  (some (PV.str [])) :=
 (z7 EE _ _).trans (by kernel_rfl)
theorem zec (x0:Int):z8a x0 =
  ((z1g (IntKind.wrap .i64 (1000000+x0))).bind fun v1=>((dropS (PV.toS v1) 1).bind fun v2=>(z31 v2))) :=
 (z7 EE _ _).trans (by kernel_rfl)
theorem zeb (x0:List UInt8):z31 x0 =
  ((atS x0 (IntKind.wrap .i64 ((((List.length x0):Nat):Int)-1))).bind fun v1=>(bif (eqB v1 48) then ((takeS x0 (IntKind.wrap .i64 ((((List.length x0):Nat):Int)-1))).bind fun v2=>(z31 v2)) else ((catS [46] x0).bind fun v3=>(some (PV.str v3))))) :=
 (z7 EE _ _).trans (by kernel_rfl)
theorem z122 (a0:Int):zbe a0 =
  (bif (ltB a0 0) then (some (PV.tuple [(PV.str [45]),(PV.int .i64 (IntKind.wrap .i64 (0-a0)))])) else (some (PV.tuple [(PV.str [43]),(PV.int .i64 a0)]))) :=
 (z6 EE zq8 _ rfl).trans (by kernel_rfl)
theorem z11u (a0:List UInt8) (a1:List UInt8):zr2 a0 a1 =
  ((zkr a0 a1).bind fun v1=>(some (PV.tuple [(PV.str (PV.toS (PV.tnth v1 0))),(PV.str (PV.toS (PV.tnth v1 1))),(PV.bool (PV.toB (PV.tnth v1 2)))]))) :=
 (z6 EE zq4 _ rfl).trans (by kernel_rfl)
theorem z16q (a0:Int):zbm a0 =
  (bif (ltB a0 0) then ((zhw (IntKind.wrap .u64 (0-(IntKind.wrap .u64 a0)))).bind fun v1=>((catS [45] (PV.toS v1)).bind fun v2=>(some (PV.str v2)))) else ((zhw (IntKind.wrap .u64 a0)).bind fun v3=>(some (PV.str (PV.toS v3))))) :=
 (z6 EE ztw _ rfl).trans (by kernel_rfl)
theorem z125 (a0:Int) (a1:List UInt8):z8m a0 a1 =
  (bif (eqB a0 0) then (some (PV.str [])) else ((z1n a0).bind fun v1=>((zt [(PV.str (PV.toS v1)),(PV.str a1)]).bind fun v2=>(some (PV.str (PV.toS v2)))))) :=
 (z6 EE zqb _ rfl).trans (by kernel_rfl)
theorem zz8 (a0:Int):zl4 a0 =
  (bif (eqB a0 0) then (some (PV.str [])) else ((zbe a0).bind fun v1=>((z2g (PV.toS (PV.tnth v1 0)) [43]).bind fun v2=>((z4t (IntKind.wrap .i64 (Int.tdiv (PV.toI (PV.tnth v1 1)) 1000000))).bind fun v3=>((zbz (Int.tmod (PV.toI (PV.tnth v1 1)) 1000000)).bind fun v4=>((zt [(PV.str (PV.toS v2)),(PV.str (PV.toS v3)),(PV.str (PV.toS v4)),(PV.str [83])]).bind fun v5=>(some (PV.str (PV.toS v5))))))))) :=
 (z6 EE zlo _ rfl).trans (by kernel_rfl)
theorem z16h (a0:Int):zvk a0 =
  (bif (ltB (Int.tmod a0 86400) 0) then (some (PV.int .i64 (IntKind.wrap .i64 ((IntKind.wrap .i64 (Int.tdiv a0 86400))-1)))) else (some (PV.int .i64 (IntKind.wrap .i64 (Int.tdiv a0 86400))))) :=
 (z6 EE zts _ rfl).trans (by kernel_rfl)
theorem zgp  : zj8  =
  ((zm8 (-4718) 1 1).bind fun v1=>(some (PV.int .i64 (PV.toI v1)))) :=
 (z6 EE zqj _ rfl).trans (by kernel_rfl)
theorem zj7  : zov  =
  ((zm8 294282 12 31).bind fun v1=>(some (PV.int .i64 (PV.toI v1)))) :=
 (z6 EE zty _ rfl).trans (by kernel_rfl)
theorem z7h (a0:Int):z7i a0 =
  ((zuf a0).bind fun v1=>(bif (!(PV.toB v1)) then (some (PV.tuple [(PV.int .i64 0),(PV.int .i64 0),(PV.int .i64 0),(PV.int .i64 10)])) else ((zj5 a0).bind fun v2=>(some (PV.tuple [(PV.int .i64 (PV.toI (PV.tnth v2 0))),(PV.int .i64 (PV.toI (PV.tnth v2 1))),(PV.int .i64 (PV.toI (PV.tnth v2 2))),(PV.int .i64 0)]))))) :=
 (z6 EE zu0 _ rfl).trans (by kernel_rfl)
theorem ze7 (a0_0:Bool) (a0_1 a0_2 a0_3 a0_4 a0_5 a0_6 a0_7 a0_8 a0_9:Int) (a0_10:List UInt8) (a0_11 a0_12 a0_13 a0_14 a0_15 a0_16 a0_17:Int) (a0_18:List UInt8) (a1:Int):z13i a0_0 a0_1 a0_2 a0_3 a0_4 a0_5 a0_6 a0_7 a0_8 a0_9 a0_10 a0_11 a0_12 a0_13 a0_14 a0_15 a0_16 a0_17 a0_18 a1 =
  ((z6s a1).bind fun v1=>((z16c a0_0 a0_1 a0_2 a0_3 a0_4 a0_5 a0_6 a0_7 a0_8 a0_9 a0_10 a0_11 a0_12 a0_13 a0_14 a0_15 a0_16 a0_17 a0_18).bind fun v2=>(bif (!(PV.toB v2)) then (some (PV.int .i64 1)) else (bif (ltB (PV.toI v1) (-4714)) then (some (PV.int .i64 10)) else (bif (ltB 294278 (PV.toI v1)) then (some (PV.int .i64 10)) else (some (PV.int .i64 0))))))) :=
 (z6 EE ztr _ rfl).trans (by kernel_rfl)
theorem z1ga (a0 a1:Int):num_Sub a0 a1 =
  (bif (!((ltB (IntKind.wrap .i64 (a0-a1)) a0) == (ltB 0 a1))) then (some (PV.tuple [(PV.int .i64 0),(PV.int .i64 10)])) else (some (PV.tuple [(PV.int .i64 (IntKind.wrap .i64 (a0-a1))),(PV.int .i64 0)]))) :=
 (z6 EE z13m _ rfl).trans (by kernel_rfl)
theorem z18r (a0 a1 a2:Int):z18s a0 a1 a2 =
  (bif (eqB a2 0) then (some (PV.tuple [(PV.int .i64 0),(PV.int .i64 11)])) else ((zri a0 a1).bind fun v1=>((ztb a2).bind fun v2=>(bif (leB (PV.toI v2) (PV.toI (PV.nth v1 0))) then (some (PV.tuple [(PV.int .i64 0),(PV.int .i64 10)])) else ((z143 (PV.toI (PV.nth v1 0)) (PV.toI (PV.nth v1 1)) (PV.toI v2)).bind fun v3=>(bif (!(!((!((ltB a0 0) == (ltB a1 0))) == (ltB a2 0)))) then (zfz (!((!((ltB a0 0) == (ltB a1 0))) == (ltB a2 0))) (PV.toI (PV.tnth v3 0))) else (bif (eqB (PV.toI (PV.tnth v3 1)) 0) then (zfz (!((!((ltB a0 0) == (ltB a1 0))) == (ltB a2 0))) (PV.toI (PV.tnth v3 0))) else (ztd (PV.toI (PV.tnth v3 0)))))))))) :=
 (z6 EE zch _ rfl).trans (by kernel_rfl)
theorem zzv (x0:Bool) (x1:Int):zfz x0 x1 =
  ((zh6 x0 0 x1).bind fun v1=>(some (PV.tuple [(PV.int .i64 (PV.toI (PV.tnth v1 0))),(PV.int .i64 (PV.toI (PV.tnth v1 1)))]))) :=
 (z7 EE _ _).trans (by kernel_rfl)
theorem zxp (x0:Int):ztd x0 =
  ((callW EE ([(tiInt IntKind.u64),(tiInt IntKind.u64)]) (PV.func (Go.Fn.func zu2) [] []) [(PV.int .u64 x0),(PV.int .u64 1),(PV.int .u64 0)]).bind fun v1=>((zh6 true (PV.toI (PV.tnth v1 1)) (PV.toI (PV.tnth v1 0))).bind fun v2=>(some (PV.tuple [(PV.int .i64 (PV.toI (PV.tnth v2 0))),(PV.int .i64 (PV.toI (PV.tnth v2 1)))])))) :=
 (z7 EE _ _).trans (by kernel_rfl)
theorem z14a (a0:Int):zuu a0 =
  ((z6s a0).bind fun v1=>(bif (leB (-4714) (PV.toI v1)) then (some (PV.bool (leB (PV.toI v1) 294278))) else (some (PV.bool false)))) :=
 (z6 EE ztm _ rfl).trans (by kernel_rfl)
theorem z11y (a0:Int) (a1:PV):zz3 a0 a1 =
  (bif ((okOther a1)&&true) then (z81 a1 0 a0) else none) :=
 (z6 EE zbx _ rfl).trans (by kernel_rfl)
theorem zgx (x0:PV) (x1 x2:Int):z81 x0 x1 x2 =
  (bif (ltB x1 x2) then ((callW EE ([tiBool]) x0 [(PV.int .i64 (IntKind.wrap .i64 (shrI IntKind.u64 (IntKind.wrap .u64 (IntKind.wrap .i64 (x1+x2))) 1)))]).bind fun v1=>(bif (!(PV.toB v1)) then (z81 x0 (IntKind.wrap .i64 ((IntKind.wrap .i64 (shrI IntKind.u64 (IntKind.wrap .u64 (IntKind.wrap .i64 (x1+x2))) 1))+1)) x2) else (z81 x0 x1 (IntKind.wrap .i64 (shrI IntKind.u64 (IntKind.wrap .u64 (IntKind.wrap .i64 (x1+x2))) 1))))) else (some (PV.int .i64 x1))) :=
 (z7 EE _ _).trans (by kernel_rfl)
theorem z17e (a0:Int) (q0:PV) (q1:PV):z17f a0 q0 q1 =
  (bif (okOther q0) then (bif (okOther q1) then ((PV.refR q0).bind fun v1=>((rdP (EE.ti ze4) q0 5).bind fun v2=>((rdI (EE.ti zo) (PV.toL v2) a0).bind fun v3=>((rdP (tiInt IntKind.i64) q1 0).bind fun v4=>(some (PV.bool (ltB (PV.toI v4) (PV.toI (PV.nth v3 0))))))))) else none) else none) :=
 (z6 EE zce _ rfl).trans (by kernel_rfl)
theorem z1cl (a0 a1:Int):z1f8 a0 a1 =
  ((zoy a0 a1).bind fun v1=>(some (PV.tuple [(PV.int .u64 (PV.toI (PV.tnth v1 0))),(PV.int .u64 (PV.toI (PV.tnth v1 1)))]))) :=
 (z6 EE z10n _ rfl).trans (by kernel_rfl)
theorem z7q (a0:List UInt8) (a1:List UInt8):z77 a0 a1 =
  ((z6j a0 a1).bind fun v1=>(some (PV.bool (PV.toB v1)))) :=
 (z6 EE zdj _ rfl).trans (by kernel_rfl)
theorem z12i (a0:Int):z110 a0 =
  (some (PV.tuple [(PV.int .i64 (IntKind.wrap .i64 (IntKind.wrap .u64 (Int.tdiv a0 3600000000)))),(PV.int .i64 (IntKind.wrap .i64 (Int.tmod (IntKind.wrap .u64 (Int.tdiv a0 60000000)) 60))),(PV.int .i64 (IntKind.wrap .i64 (Int.tmod (IntKind.wrap .u64 (Int.tdiv a0 1000000)) 60))),(PV.int .i64 (IntKind.wrap .i64 (Int.tmod a0 1000000)))])) :=
 (z6 EE zqf _ rfl).trans (by kernel_rfl)
theorem zvq (a0:Int):zbz a0 =
  (bif (leB a0 0) then zbn else (bif (ltB 999999 a0) then zbn else (zhx a0))) :=
 (z6 EE z3t _ rfl).trans (by kernel_rfl)
theorem zdy  : zbn  =
  (some (PV.str [])) :=
 (z7 EE _ _).trans (by kernel_rfl)
theorem zpn (x0:Int):zhx x0 =
  ((z73 (IntKind.wrap .u64 x0) 6).bind fun v1=>(z5d (PV.toS v1) 0 (PV.toS v1) 0)) :=
 (z7 EE _ _).trans (by kernel_rfl)
theorem zdx (x0:List UInt8) (x1:Int) (x2:List UInt8) (x3:Nat):z5d x0 x1 x2 x3 =
  (bif (ltN x3 (List.length x2)) then (bif (!(eqB ((((decR x2 x3).1):Nat):Int) 48)) then (z5d x0 (IntKind.wrap .i64 (((x3:Nat):Int)+1)) x2 (x3+((decR x2 x3).2))) else (z5d x0 x1 x2 (x3+((decR x2 x3).2)))) else ((takeS x0 x1).bind fun v1=>((catS [46] v1).bind fun v2=>(some (PV.str v2))))) :=
 (z7 EE _ _).trans (by kernel_rfl)
theorem zkb (a0_0:Bool) (a0_1:List PV):z24 a0_0 a0_1 =
  (zp 2 a0_0 a0_1) :=
 (z6 EE z1y _ rfl).trans (by kernel_rfl)
theorem z22 (x0:Int) (x1:Bool) (x2:List PV):zp x0 x1 x2 =
  (bif (ltB x0 6) then ((rdI (tiInt IntKind.u64) x2 x0).bind fun v1=>(bif (!(eqB (PV.toI v1) 0)) then (some (PV.tuple [(PV.int .i64 0),(PV.int .i64 10)])) else (zp (IntKind.wrap .i64 (x0+1)) x1 x2))) else ((rdI (tiInt IntKind.u64) x2 1).bind fun v2=>((rdI (tiInt IntKind.u64) x2 0).bind fun v3=>(bif x1 then (bif (leB (orI IntKind.u64 (shlI IntKind.u64 (PV.toI v2) 32) (PV.toI v3)) 9223372036854775808) then (z67 (orI IntKind.u64 (shlI IntKind.u64 (PV.toI v2) 32) (PV.toI v3))) else (z2t (orI IntKind.u64 (shlI IntKind.u64 (PV.toI v2) 32) (PV.toI v3)) x1 x2)) else (z2t (orI IntKind.u64 (shlI IntKind.u64 (PV.toI v2) 32) (PV.toI v3)) x1 x2))))) :=
 (z7 EE _ _).trans (by kernel_rfl)
theorem zgo (x0:Int):z67 x0 =
  (some (PV.tuple [(PV.int .i64 (IntKind.wrap .i64 (IntKind.wrap .u64 (0-x0)))),(PV.int .i64 0)])) :=
 (z7 EE _ _).trans (by kernel_rfl)
theorem zgn (x0:Int) (x1:Bool) (x2:List PV):z2t x0 x1 x2 =
  (bif x1 then (some (PV.tuple [(PV.int .i64 0),(PV.int .i64 10)])) else (bif (leB 9223372036854775808 x0) then (some (PV.tuple [(PV.int .i64 0),(PV.int .i64 10)])) else (some (PV.tuple [(PV.int .i64 (IntKind.wrap .i64 x0)),(PV.int .i64 0)])))) :=
 (z7 EE _ _).trans (by kernel_rfl)
theorem zm3 (a0_0:Bool) (a0_1:List PV) (a1_0:Bool) (a1_1:List PV):z6e a0_0 a0_1 a1_0 a1_1 =
  ((z7x a0_1 a1_1).bind fun v1=>(bif (!(a0_0 == a1_0)) then ((z1i (PV.toL (PV.tnth v1 1))).bind fun v2=>(bif (!(PV.toB v2)) then (zcz (PV.toL (PV.tnth v1 0)) a0_0 a0_1 a1_0 a1_1 false) else (bif (!(a0_0 == a1_0)) then ((z1i (PV.toL (PV.tnth v1 0))).bind fun v3=>(some (PV.agg [(PV.bool (!(PV.toB v3))),(PV.sl 1 (PV.toL (PV.tnth v1 0)))]))) else (some (PV.agg [(PV.bool false),(PV.sl 1 (PV.toL (PV.tnth v1 0)))]))))) else (bif (!(a0_0 == a1_0)) then ((z1i (PV.toL (PV.tnth v1 0))).bind fun v4=>(some (PV.agg [(PV.bool (!(PV.toB v4))),(PV.sl 1 (PV.toL (PV.tnth v1 0)))]))) else (some (PV.agg [(PV.bool false),(PV.sl 1 (PV.toL (PV.tnth v1 0)))]))))) :=
 (z6 EE z4k _ rfl).trans (by kernel_rfl)
theorem zhu (x0:List PV) (x1:Bool) (x2:List PV) (x3:Bool) (x4:List PV) (x5:Bool):zcz x0 x1 x2 x3 x4 x5 =
  ((zz 1).bind fun v1=>((z2a x0 (PV.toL (PV.nth v1 1))).bind fun v2=>(bif (!(x1 == x3)) then ((z1i (PV.toL v2)).bind fun v3=>(some (PV.agg [(PV.bool (!(PV.toB v3))),(PV.sl 1 (PV.toL v2))]))) else (some (PV.agg [(PV.bool false),(PV.sl 1 (PV.toL v2))]))))) :=
 (z7 EE _ _).trans (by kernel_rfl)
theorem zrz (a0:Int):zz a0 =
  (bif (ltB a0 0) then (z5w a0 (IntKind.wrap .u64 (0-(IntKind.wrap .u64 a0))) false) else (z5w a0 (IntKind.wrap .u64 a0) false)) :=
 (z6 EE z5n _ rfl).trans (by kernel_rfl)
theorem zkc (x0 x1:Int) (x2:Bool):z5w x0 x1 x2 =
  (some (PV.agg [(PV.bool (ltB x0 0)),(PV.sl 1 [(PV.int .u64 (andI IntKind.u64 x1 4294967295)),(PV.int .u64 (shrI IntKind.u64 x1 32)),(PV.int .u64 0),(PV.int .u64 0),(PV.int .u64 0),(PV.int .u64 0)])])) :=
 (z7 EE _ _).trans (by kernel_rfl)
theorem zm2 (a0_0:Bool) (a0_1:List PV) (a1_0:Bool) (a1_1:List PV):z6d a0_0 a0_1 a1_0 a1_1 =
  (bif (a0_0 == a1_0) then ((z2a a0_1 a1_1).bind fun v1=>(some (PV.agg [(PV.bool a0_0),(PV.sl 1 (PV.toL v1))]))) else ((z3u a0_1 a1_1).bind fun v2=>(bif (leB 0 (PV.toI v2)) then (bif a0_0 then ((z3u a0_1 a1_1).bind fun v3=>((z3i a0_1 a1_1).bind fun v4=>(some (PV.agg [(PV.bool (ltB 0 (PV.toI v3))),(PV.sl 1 (PV.toL v4))])))) else ((z3i a0_1 a1_1).bind fun v5=>(some (PV.agg [(PV.bool false),(PV.sl 1 (PV.toL v5))])))) else ((z3i a1_1 a0_1).bind fun v6=>(some (PV.agg [(PV.bool a1_0),(PV.sl 1 (PV.toL v6))])))))) :=
 (z6 EE zcp _ rfl).trans (by kernel_rfl)
theorem zkd (a0_0:Bool) (a0_1:List PV):z90 a0_0 a0_1 =
  (bif (!a0_0) then ((z1i a0_1).bind fun v1=>(some (PV.agg [(PV.bool (!(PV.toB v1))),(PV.sl 1 a0_1)]))) else (some (PV.agg [(PV.bool false),(PV.sl 1 a0_1)]))) :=
 (z6 EE zay _ rfl).trans (by kernel_rfl)
theorem zk9 (a0_0:Bool) (a0_1:List PV) (a1_0:Bool) (a1_1:List PV):z5u a0_0 a0_1 a1_0 a1_1 =
  (zbb 0 a0_0 a0_1 a1_0 a1_1 false [(PV.int .u64 0),(PV.int .u64 0),(PV.int .u64 0),(PV.int .u64 0),(PV.int .u64 0),(PV.int .u64 0)] 6) :=
 (z6 EE z1h _ rfl).trans (by kernel_rfl)
theorem zgm (x0:Int) (x1:Bool) (x2:List PV) (x3:Bool) (x4:List PV) (x5:Bool) (x6:List PV) (x7:Nat):zbb x0 x1 x2 x3 x4 x5 x6 x7 =
  (bif (ltB x0 2) then (zw x0 0 0 x1 x2 x3 x4 x5 x6 x7 [(PV.int .u64 0),(PV.int .u64 0),(PV.int .u64 0),(PV.int .u64 0),(PV.int .u64 0),(PV.int .u64 0)] 6) else (bif (!(x1 == x3)) then ((z1i x6).bind fun v1=>(some (PV.agg [(PV.bool (!(PV.toB v1))),(PV.sl 1 x6)]))) else (some (PV.agg [(PV.bool false),(PV.sl 1 x6)])))) :=
 (z7 EE _ _).trans (by kernel_rfl)
theorem z32 (x0 x1 x2:Int) (x3:Bool) (x4:List PV) (x5:Bool) (x6:List PV) (x7:Bool) (x8:List PV) (x9:Nat) (xA:List PV) (xB:Nat):zw x0 x1 x2 x3 x4 x5 x6 x7 x8 x9 xA xB =
  (bif (ltB x2 3) then ((rdI (tiInt IntKind.u64) x4 x0).bind fun v1=>((rdI (tiInt IntKind.u64) x6 x2).bind fun v2=>(bif (inB 0 (IntKind.wrap .i64 (x0+x2)) (((List.length xA):Nat):Int)) then ((stC xA (Int.toNat (IntKind.wrap .i64 (x0+x2))) 0 [(PV.int .u64 (andI IntKind.u64 (IntKind.wrap .u64 (x1+(IntKind.wrap .u64 ((PV.toI v1)*(PV.toI v2))))) 4294967295))]).bind fun v3=>(zw x0 (shrI IntKind.u64 (IntKind.wrap .u64 (x1+(IntKind.wrap .u64 ((PV.toI v1)*(PV.toI v2))))) 32) (IntKind.wrap .i64 (x2+1)) x3 x4 x5 x6 x7 x8 x9 v3 xB)) else none))) else ((z2a x8 xA).bind fun v4=>(z2b (PV.toL v4) (IntKind.wrap .i64 (x0+1)) x3 x4 x5 x6 x7))) :=
 (z7 EE _ _).trans (by kernel_rfl)
theorem z72 (x0:List PV) (x1:Int) (x2:Bool) (x3:List PV) (x4:Bool) (x5:List PV) (x6:Bool):z2b x0 x1 x2 x3 x4 x5 x6 =
  (bif (ltB x1 2) then (zq x0 x1 0 0 x2 x3 x4 x5 x6 [(PV.int .u64 0),(PV.int .u64 0),(PV.int .u64 0),(PV.int .u64 0),(PV.int .u64 0),(PV.int .u64 0)] 6) else (bif (!(x2 == x4)) then ((z1i x0).bind fun v1=>(some (PV.agg [(PV.bool (!(PV.toB v1))),(PV.sl 1 x0)]))) else (some (PV.agg [(PV.bool false),(PV.sl 1 x0)])))) :=
 (z7 EE _ _).trans (by kernel_rfl)
theorem z2j (x0:List PV) (x1 x2 x3:Int) (x4:Bool) (x5:List PV) (x6:Bool) (x7:List PV) (x8:Bool) (x9:List PV) (xA:Nat):zq x0 x1 x2 x3 x4 x5 x6 x7 x8 x9 xA =
  (bif (ltB x3 3) then ((rdI (tiInt IntKind.u64) x5 x1).bind fun v1=>((rdI (tiInt IntKind.u64) x7 x3).bind fun v2=>(bif (inB 0 (IntKind.wrap .i64 (x1+x3)) (((List.length x9):Nat):Int)) then ((stC x9 (Int.toNat (IntKind.wrap .i64 (x1+x3))) 0 [(PV.int .u64 (andI IntKind.u64 (IntKind.wrap .u64 (x2+(IntKind.wrap .u64 ((PV.toI v1)*(PV.toI v2))))) 4294967295))]).bind fun v3=>(zq x0 x1 (shrI IntKind.u64 (IntKind.wrap .u64 (x2+(IntKind.wrap .u64 ((PV.toI v1)*(PV.toI v2))))) 32) (IntKind.wrap .i64 (x3+1)) x4 x5 x6 x7 x8 v3 xA)) else none))) else ((z2a x0 x9).bind fun v4=>(z2b (PV.toL v4) (IntKind.wrap .i64 (x1+1)) x4 x5 x6 x7 x8))) :=
 (z7 EE _ _).trans (by kernel_rfl)
theorem zpg (a0:Int):zbj a0 =
  ((z8z).bind fun v1=>(bif (leB (PV.toI v1) a0) then ((zg8).bind fun v2=>(some (PV.bool (leB a0 (PV.toI v2))))) else (some (PV.bool false)))) :=
 (z6 EE zdp _ rfl).trans (by kernel_rfl)
theorem zpd (a0 a1:Int):z7e a0 a1 =
  (bif (eqB a1 0) then none else (bif (eqB a1 0) then none else (bif (ltB (Int.tmod a0 a1) 0) then (some (PV.int .i64 (IntKind.wrap .i64 ((IntKind.wrap .i64 (Int.tdiv a0 a1))-1)))) else (some (PV.int .i64 (IntKind.wrap .i64 (Int.tdiv a0 a1))))))) :=
 (z6 EE zdo _ rfl).trans (by kernel_rfl)
theorem zpc (a0 a1:Int):z1w a0 a1 =
  (bif (eqB a1 0) then none else (bif (ltB (Int.tmod a0 a1) 0) then (some (PV.int .i64 (IntKind.wrap .i64 ((Int.tmod a0 a1)+a1)))) else (some (PV.int .i64 (Int.tmod a0 a1))))) :=
 (z6 EE zdn _ rfl).trans (by kernel_rfl)
theorem zlw (a0:Int):z4p a0 =
  ((z1w a0 4).bind fun v1=>(bif (eqB (PV.toI v1) 0) then ((z1w a0 100).bind fun v2=>(bif (!(eqB (PV.toI v2) 0)) then (some (PV.bool true)) else ((z1w a0 400).bind fun v3=>(some (PV.bool (eqB (PV.toI v3) 0)))))) else (some (PV.bool false)))) :=
 (z6 EE zcl _ rfl).trans (by kernel_rfl)
theorem zpf (a0 a1:Int):z2z a0 a1 =
  (bif (eqB a1 1) then (some (PV.int .i64 31)) else (bif (eqB a1 3) then (some (PV.int .i64 31)) else (bif (eqB a1 5) then (some (PV.int .i64 31)) else (bif (eqB a1 7) then (some (PV.int .i64 31)) else (bif (eqB a1 8) then (some (PV.int .i64 31)) else (bif (eqB a1 10) then (some (PV.int .i64 31)) else (bif (eqB a1 12) then (some (PV.int .i64 31)) else (zcy a0 a1)))))))) :=
 (z6 EE z3n _ rfl).trans (by kernel_rfl)
theorem z9k (x0 x1:Int):zcy x0 x1 =
  (bif (eqB x1 4) then (some (PV.int .i64 30)) else (bif (eqB x1 6) then (some (PV.int .i64 30)) else (bif (eqB x1 9) then (some (PV.int .i64 30)) else (bif (eqB x1 11) then (some (PV.int .i64 30)) else (zcx x0 x1))))) :=
 (z7 EE _ _).trans (by kernel_rfl)
theorem zhr (x0 x1:Int):zcx x0 x1 =
  (bif (eqB x1 2) then ((z4p x0).bind fun v1=>(bif (PV.toB v1) then (some (PV.int .i64 29)) else (some (PV.int .i64 28)))) else (some (PV.int .i64 0))) :=
 (z7 EE _ _).trans (by kernel_rfl)
theorem zpe (a0 a1 a2:Int):z5c a0 a1 a2 =
  ((z8x a0).bind fun v1=>(z55 a0 a1 (IntKind.wrap .i64 ((IntKind.wrap .i64 ((PV.toI v1)+a2))-1)) 1)) :=
 (z6 EE z50 _ rfl).trans (by kernel_rfl)
theorem zae (x0 x1 x2 x3:Int):z55 x0 x1 x2 x3 =
  (bif (ltB x3 x1) then ((z2z x0 x3).bind fun v1=>(z55 x0 x1 (IntKind.wrap .i64 (x2+(PV.toI v1))) (IntKind.wrap .i64 (x3+1)))) else (some (PV.int .i64 x2))) :=
 (z7 EE _ _).trans (by kernel_rfl)
theorem zk5 (a0_0:Bool) (a0_1 a0_2 a0_3 a0_4 a0_5 a0_6 a0_7 a0_8 a0_9:Int) (a0_10:List UInt8) (a0_11 a0_12 a0_13 a0_14 a0_15 a0_16 a0_17:Int) (a0_18:List UInt8):z5r a0_0 a0_1 a0_2 a0_3 a0_4 a0_5 a0_6 a0_7 a0_8 a0_9 a0_10 a0_11 a0_12 a0_13 a0_14 a0_15 a0_16 a0_17 a0_18 =
  (bif (!a0_0) then z1z else ((z5q a0_3 a0_4 a0_5 a0_6 a0_7 a0_8 a0_9 a0_10).bind fun v1=>(bif (!(PV.toB v1)) then z1z else ((z5q a0_11 a0_12 a0_13 a0_14 a0_15 a0_16 a0_17 a0_18).bind fun v2=>(bif (!(PV.toB v2)) then z1z else (bif (ltB a0_2 (-50400)) then z1z else (bif (ltB 50400 a0_2) then z1z else (zb7 a0_0 a0_1 a0_2 a0_3 a0_4 a0_5 a0_6 a0_7 a0_8 a0_9 a0_10 a0_11 a0_12 a0_13 a0_14 a0_15 a0_16 a0_17 a0_18)))))))) :=
 (z6 EE z2q _ rfl).trans (by kernel_rfl)
theorem zgj  : z1z  =
  (some (PV.bool false)) :=
 (z7 EE _ _).trans (by kernel_rfl)
theorem zgi (x0:Bool) (x1 x2 x3 x4 x5 x6 x7 x8 x9:Int) (xA:List UInt8) (xB xC xD xE xF xG xH:Int) (xI:List UInt8):zb7 x0 x1 x2 x3 x4 x5 x6 x7 x8 x9 xA xB xC xD xE xF xG xH xI =
  (bif (ltB (IntKind.wrap .i64 (x3-xB)) 0) then (bif (leB 2 (IntKind.wrap .i64 (0-(IntKind.wrap .i64 (x3-xB))))) then (some (PV.bool (leB (IntKind.wrap .i64 (0-(IntKind.wrap .i64 (x3-xB)))) 10))) else (some (PV.bool false))) else (bif (leB 2 (IntKind.wrap .i64 (x3-xB))) then (some (PV.bool (leB (IntKind.wrap .i64 (x3-xB)) 10))) else (some (PV.bool false)))) :=
 (z7 EE _ _).trans (by kernel_rfl)
theorem zlu (a0_0:Bool) (a0_1 a0_2 a0_3 a0_4 a0_5 a0_6 a0_7 a0_8 a0_9:Int) (a0_10:List UInt8) (a0_11 a0_12 a0_13 a0_14 a0_15 a0_16 a0_17:Int) (a0_18:List UInt8) (a1:Int):zab a0_0 a0_1 a0_2 a0_3 a0_4 a0_5 a0_6 a0_7 a0_8 a0_9 a0_10 a0_11 a0_12 a0_13 a0_14 a0_15 a0_16 a0_17 a0_18 a1 =
  ((z5r a0_0 a0_1 a0_2 a0_3 a0_4 a0_5 a0_6 a0_7 a0_8 a0_9 a0_10 a0_11 a0_12 a0_13 a0_14 a0_15 a0_16 a0_17 a0_18).bind fun v1=>(bif (!(PV.toB v1)) then (some (PV.tuple [(PV.sl 0 []),(PV.int .i64 1)])) else (bif (leB a1 (-4718)) then zcv else (bif (leB 294282 a1) then zcv else (zcu a1 a0_0 a0_1 a0_2 a0_3 a0_4 a0_5 a0_6 a0_7 a0_8 a0_9 a0_10 a0_11 a0_12 a0_13 a0_14 a0_15 a0_16 a0_17 a0_18))))) :=
 (z6 EE z36 _ rfl).trans (by kernel_rfl)
theorem zhm (x0:Int) (x1:Bool) (x2 x3 x4 x5 x6 x7 x8 x9 xA:Int) (xB:List UInt8) (xC xD xE xF xG xH xI:Int) (xJ:List UInt8):zcu x0 x1 x2 x3 x4 x5 x6 x7 x8 x9 xA xB xC xD xE xF xG xH xI xJ =
  ((z5p x4 x5 x6 x7 x8 x9 xA xB xC xD xE xF xG xH xI xJ x3 x0).bind fun v1=>((z5p xC xD xE xF xG xH xI xJ x4 x5 x6 x7 x8 x9 xA xB x3 x0).bind fun v2=>(bif (ltB x4 xC) then (some (PV.tuple [(PV.sl 4 [(PV.agg [(PV.int .i64 (PV.toI (PV.nth v1 0))),(PV.int .i64 (PV.toI (PV.nth v1 1))),(PV.bool (PV.toB (PV.nth v1 2))),(PV.str (PV.toS (PV.nth v1 3)))]),(PV.agg [(PV.int .i64 (PV.toI (PV.nth v2 0))),(PV.int .i64 (PV.toI (PV.nth v2 1))),(PV.bool (PV.toB (PV.nth v2 2))),(PV.str (PV.toS (PV.nth v2 3)))])]),(PV.int .i64 0)])) else (some (PV.tuple [(PV.sl 4 [(PV.agg [(PV.int .i64 (PV.toI (PV.nth v2 0))),(PV.int .i64 (PV.toI (PV.nth v2 1))),(PV.bool (PV.toB (PV.nth v2 2))),(PV.str (PV.toS (PV.nth v2 3)))]),(PV.agg [(PV.int .i64 (PV.toI (PV.nth v1 0))),(PV.int .i64 (PV.toI (PV.nth v1 1))),(PV.bool (PV.toB (PV.nth v1 2))),(PV.str (PV.toS (PV.nth v1 3)))])]),(PV.int .i64 0)]))))) :=
 (z7 EE _ _).trans (by kernel_rfl)
theorem zpm (a0 a1:Int):zbl a0 a1 =
  ((zz a0).bind fun v1=>((zz a1).bind fun v2=>((z6d (PV.toB (PV.nth v1 0)) (PV.toL (PV.nth v1 1)) (PV.toB (PV.nth v2 0)) (PV.toL (PV.nth v2 1))).bind fun v3=>((z24 (PV.toB (PV.nth v3 0)) (PV.toL (PV.nth v3 1))).bind fun v4=>(some (PV.tuple [(PV.int .i64 (PV.toI (PV.tnth v4 0))),(PV.int .i64 (PV.toI (PV.tnth v4 1)))])))))) :=
 (z6 EE zdt _ rfl).trans (by kernel_rfl)
theorem zsy (a0:List UInt8) (a1:List UInt8):zkr a0 a1 =
  ((zbc a0 a1).bind fun v1=>(bif (leB 0 (PV.toI v1)) then ((takeS a0 (PV.toI v1)).bind fun v2=>((dropS a0 (IntKind.wrap .i64 ((PV.toI v1)+(((List.length a1):Nat):Int)))).bind fun v3=>(some (PV.tuple [(PV.str v2),(PV.str v3),(PV.bool true)])))) else (some (PV.tuple [(PV.str a0),(PV.str []),(PV.bool false)])))) :=
 (z6 EE zg2 _ rfl).trans (by kernel_rfl)
theorem z123 (a0:Int):z1n a0 =
  (bif (ltB a0 0) then ((z4t (IntKind.wrap .i64 (0-a0))).bind fun v1=>((zt [(PV.str [45]),(PV.str (PV.toS v1))]).bind fun v2=>(some (PV.str (PV.toS v2))))) else ((z4t a0).bind fun v3=>(some (PV.str (PV.toS v3))))) :=
 (z6 EE zq9 _ rfl).trans (by kernel_rfl)
theorem z6k (a0:List UInt8) (a1:List UInt8):z2g a0 a1 =
  ((zan a0 a1).bind fun v1=>(some (PV.str (PV.toS v1)))) :=
 (z6 EE zcf _ rfl).trans (by kernel_rfl)
theorem zm7 (a0 a1 a2:Int):zm8 a0 a1 a2 =
  (bif (leB a1 2) then (zga (IntKind.wrap .i64 (a0-1)) (IntKind.wrap .i64 (a1+12)) a2) else (zga a0 a1 a2)) :=
 (z6 EE zg6 _ rfl).trans (by kernel_rfl)
theorem zf8 (x0 x1 x2:Int):zga x0 x1 x2 =
  ((zf7 x0 400).bind fun v1=>(some (PV.int .i64 (IntKind.wrap .i64 ((IntKind.wrap .i64 ((IntKind.wrap .i64 ((IntKind.wrap .i64 ((IntKind.wrap .i64 ((IntKind.wrap .i64 ((IntKind.wrap .i64 ((IntKind.wrap .i64 ((PV.toI (PV.tnth v1 0))*146097))+(IntKind.wrap .i64 ((PV.toI (PV.tnth v1 1))*365))))+(IntKind.wrap .i64 (Int.tdiv (PV.toI (PV.tnth v1 1)) 4))))-(IntKind.wrap .i64 (Int.tdiv (PV.toI (PV.tnth v1 1)) 100))))+(IntKind.wrap .i64 (Int.tdiv (IntKind.wrap .i64 ((IntKind.wrap .i64 (153*(IntKind.wrap .i64 (x1-3))))+2)) 5))))+x2))-1))-730425))))) :=
 (z7 EE _ _).trans (by kernel_rfl)
theorem zx4 (a0:Int):zuf a0 =
  ((zj8).bind fun v1=>(bif (leB (PV.toI v1) a0) then ((zov).bind fun v2=>(some (PV.bool (leB a0 (PV.toI v2))))) else (some (PV.bool false)))) :=
 (z6 EE zwx _ rfl).trans (by kernel_rfl)
theorem zqk (a0:Int):zj5 a0 =
  ((zf7 (IntKind.wrap .i64 (a0+730425)) 146097).bind fun v1=>(bif (leB 10 (IntKind.wrap .i64 (Int.tdiv (IntKind.wrap .i64 ((IntKind.wrap .i64 (5*(IntKind.wrap .i64 ((IntKind.wrap .i64 ((IntKind.wrap .i64 ((PV.toI (PV.tnth v1 1))-(IntKind.wrap .i64 ((minI (IntKind.wrap .i64 (Int.tdiv (PV.toI (PV.tnth v1 1)) 36524)) 3)*36524))))-(IntKind.wrap .i64 ((IntKind.wrap .i64 (Int.tdiv (IntKind.wrap .i64 ((PV.toI (PV.tnth v1 1))-(IntKind.wrap .i64 ((minI (IntKind.wrap .i64 (Int.tdiv (PV.toI (PV.tnth v1 1)) 36524)) 3)*36524)))) 1461))*1461))))-(IntKind.wrap .i64 ((minI (IntKind.wrap .i64 (Int.tdiv (IntKind.wrap .i64 ((IntKind.wrap .i64 ((PV.toI (PV.tnth v1 1))-(IntKind.wrap .i64 ((minI (IntKind.wrap .i64 (Int.tdiv (PV.toI (PV.tnth v1 1)) 36524)) 3)*36524))))-(IntKind.wrap .i64 ((IntKind.wrap .i64 (Int.tdiv (IntKind.wrap .i64 ((PV.toI (PV.tnth v1 1))-(IntKind.wrap .i64 ((minI (IntKind.wrap .i64 (Int.tdiv (PV.toI (PV.tnth v1 1)) 36524)) 3)*36524)))) 1461))*1461)))) 365)) 3)*365))))))+2)) 153))) then (some (PV.tuple [(PV.int .i64 (IntKind.wrap .i64 ((IntKind.wrap .i64 ((IntKind.wrap .i64 ((IntKind.wrap .i64 ((IntKind.wrap .i64 ((PV.toI (PV.tnth v1 0))*400))+(IntKind.wrap .i64 ((minI (IntKind.wrap .i64 (Int.tdiv (PV.toI (PV.tnth v1 1)) 36524)) 3)*100))))+(IntKind.wrap .i64 ((IntKind.wrap .i64 (Int.tdiv (IntKind.wrap .i64 ((PV.toI (PV.tnth v1 1))-(IntKind.wrap .i64 ((minI (IntKind.wrap .i64 (Int.tdiv (PV.toI (PV.tnth v1 1)) 36524)) 3)*36524)))) 1461))*4))))+(minI (IntKind.wrap .i64 (Int.tdiv (IntKind.wrap .i64 ((IntKind.wrap .i64 ((PV.toI (PV.tnth v1 1))-(IntKind.wrap .i64 ((minI (IntKind.wrap .i64 (Int.tdiv (PV.toI (PV.tnth v1 1)) 36524)) 3)*36524))))-(IntKind.wrap .i64 ((IntKind.wrap .i64 (Int.tdiv (IntKind.wrap .i64 ((PV.toI (PV.tnth v1 1))-(IntKind.wrap .i64 ((minI (IntKind.wrap .i64 (Int.tdiv (PV.toI (PV.tnth v1 1)) 36524)) 3)*36524)))) 1461))*1461)))) 365)) 3)))+1))),(PV.int .i64 (IntKind.wrap .i64 ((IntKind.wrap .i64 (Int.tdiv (IntKind.wrap .i64 ((IntKind.wrap .i64 (5*(IntKind.wrap .i64 ((IntKind.wrap .i64 ((IntKind.wrap .i64 ((PV.toI (PV.tnth v1 1))-(IntKind.wrap .i64 ((minI (IntKind.wrap .i64 (Int.tdiv (PV.toI (PV.tnth v1 1)) 36524)) 3)*36524))))-(IntKind.wrap .i64 ((IntKind.wrap .i64 (Int.tdiv (IntKind.wrap .i64 ((PV.toI (PV.tnth v1 1))-(IntKind.wrap .i64 ((minI (IntKind.wrap .i64 (Int.tdiv (PV.toI (PV.tnth v1 1)) 36524)) 3)*36524)))) 1461))*1461))))-(IntKind.wrap .i64 ((minI (IntKind.wrap .i64 (Int.tdiv (IntKind.wrap .i64 ((IntKind.wrap .i64 ((PV.toI (PV.tnth v1 1))-(IntKind.wrap .i64 ((minI (IntKind.wrap .i64 (Int.tdiv (PV.toI (PV.tnth v1 1)) 36524)) 3)*36524))))-(IntKind.wrap .i64 ((IntKind.wrap .i64 (Int.tdiv (IntKind.wrap .i64 ((PV.toI (PV.tnth v1 1))-(IntKind.wrap .i64 ((minI (IntKind.wrap .i64 (Int.tdiv (PV.toI (PV.tnth v1 1)) 36524)) 3)*36524)))) 1461))*1461)))) 365)) 3)*365))))))+2)) 153))-9))),(PV.int .i64 (IntKind.wrap .i64 ((IntKind.wrap .i64 ((IntKind.wrap .i64 ((IntKind.wrap .i64 ((IntKind.wrap .i64 ((PV.toI (PV.tnth v1 1))-(IntKind.wrap .i64 ((minI (IntKind.wrap .i64 (Int.tdiv (PV.toI (PV.tnth v1 1)) 36524)) 3)*36524))))-(IntKind.wrap .i64 ((IntKind.wrap .i64 (Int.tdiv (IntKind.wrap .i64 ((PV.toI (PV.tnth v1 1))-(IntKind.wrap .i64 ((minI (IntKind.wrap .i64 (Int.tdiv (PV.toI (PV.tnth v1 1)) 36524)) 3)*36524)))) 1461))*1461))))-(IntKind.wrap .i64 ((minI (IntKind.wrap .i64 (Int.tdiv (IntKind.wrap .i64 ((IntKind.wrap .i64 ((PV.toI (PV.tnth v1 1))-(IntKind.wrap .i64 ((minI (IntKind.wrap .i64 (Int.tdiv (PV.toI (PV.tnth v1 1)) 36524)) 3)*36524))))-(IntKind.wrap .i64 ((IntKind.wrap .i64 (Int.tdiv (IntKind.wrap .i64 ((PV.toI (PV.tnth v1 1))-(IntKind.wrap .i64 ((minI (IntKind.wrap .i64 (Int.tdiv (PV.toI (PV.tnth v1 1)) 36524)) 3)*36524)))) 1461))*1461)))) 365)) 3)*365))))-(IntKind.wrap .i64 (Int.tdiv (IntKind.wrap .i64 ((IntKind.wrap .i64 (153*(IntKind.wrap .i64 (Int.tdiv (IntKind.wrap .i64 ((IntKind.wrap .i64 (5*(IntKind.wrap .i64 ((IntKind.wrap .i64 ((IntKind.wrap .i64 ((PV.toI (PV.tnth v1 1))-(IntKind.wrap .i64 ((minI (IntKind.wrap .i64 (Int.tdiv (PV.toI (PV.tnth v1 1)) 36524)) 3)*36524))))-(IntKind.wrap .i64 ((IntKind.wrap .i64 (Int.tdiv (IntKind.wrap .i64 ((PV.toI (PV.tnth v1 1))-(IntKind.wrap .i64 ((minI (IntKind.wrap .i64 (Int.tdiv (PV.toI (PV.tnth v1 1)) 36524)) 3)*36524)))) 1461))*1461))))-(IntKind.wrap .i64 ((minI (IntKind.wrap .i64 (Int.tdiv (IntKind.wrap .i64 ((IntKind.wrap .i64 ((PV.toI (PV.tnth v1 1))-(IntKind.wrap .i64 ((minI (IntKind.wrap .i64 (Int.tdiv (PV.toI (PV.tnth v1 1)) 36524)) 3)*36524))))-(IntKind.wrap .i64 ((IntKind.wrap .i64 (Int.tdiv (IntKind.wrap .i64 ((PV.toI (PV.tnth v1 1))-(IntKind.wrap .i64 ((minI (IntKind.wrap .i64 (Int.tdiv (PV.toI (PV.tnth v1 1)) 36524)) 3)*36524)))) 1461))*1461)))) 365)) 3)*365))))))+2)) 153))))+2)) 5))))+1)))])) else (some (PV.tuple [(PV.int .i64 (IntKind.wrap .i64 ((IntKind.wrap .i64 ((IntKind.wrap .i64 ((IntKind.wrap .i64 ((PV.toI (PV.tnth v1 0))*400))+(IntKind.wrap .i64 ((minI (IntKind.wrap .i64 (Int.tdiv (PV.toI (PV.tnth v1 1)) 36524)) 3)*100))))+(IntKind.wrap .i64 ((IntKind.wrap .i64 (Int.tdiv (IntKind.wrap .i64 ((PV.toI (PV.tnth v1 1))-(IntKind.wrap .i64 ((minI (IntKind.wrap .i64 (Int.tdiv (PV.toI (PV.tnth v1 1)) 36524)) 3)*36524)))) 1461))*4))))+(minI (IntKind.wrap .i64 (Int.tdiv (IntKind.wrap .i64 ((IntKind.wrap .i64 ((PV.toI (PV.tnth v1 1))-(IntKind.wrap .i64 ((minI (IntKind.wrap .i64 (Int.tdiv (PV.toI (PV.tnth v1 1)) 36524)) 3)*36524))))-(IntKind.wrap .i64 ((IntKind.wrap .i64 (Int.tdiv (IntKind.wrap .i64 ((PV.toI (PV.tnth v1 1))-(IntKind.wrap .i64 ((minI (IntKind.wrap .i64 (Int.tdiv (PV.toI (PV.tnth v1 1)) 36524)) 3)*36524)))) 1461))*1461)))) 365)) 3)))),(PV.int .i64 (IntKind.wrap .i64 ((IntKind.wrap .i64 (Int.tdiv (IntKind.wrap .i64 ((IntKind.wrap .i64 (5*(IntKind.wrap .i64 ((IntKind.wrap .i64 ((IntKind.wrap .i64 ((PV.toI (PV.tnth v1 1))-(IntKind.wrap .i64 ((minI (IntKind.wrap .i64 (Int.tdiv (PV.toI (PV.tnth v1 1)) 36524)) 3)*36524))))-(IntKind.wrap .i64 ((IntKind.wrap .i64 (Int.tdiv (IntKind.wrap .i64 ((PV.toI (PV.tnth v1 1))-(IntKind.wrap .i64 ((minI (IntKind.wrap .i64 (Int.tdiv (PV.toI (PV.tnth v1 1)) 36524)) 3)*36524)))) 1461))*1461))))-(IntKind.wrap .i64 ((minI (IntKind.wrap .i64 (Int.tdiv (IntKind.wrap .i64 ((IntKind.wrap .i64 ((PV.toI (PV.tnth v1 1))-(IntKind.wrap .i64 ((minI (IntKind.wrap .i64 (Int.tdiv (PV.toI (PV.tnth v1 1)) 36524)) 3)*36524))))-(IntKind.wrap .i64 ((IntKind.wrap .i64 (Int.tdiv (IntKind.wrap .i64 ((PV.toI (PV.tnth v1 1))-(IntKind.wrap .i64 ((minI (IntKind.wrap .i64 (Int.tdiv (PV.toI (PV.tnth v1 1)) 36524)) 3)*36524)))) 1461))*1461)))) 365)) 3)*365))))))+2)) 153))+3))),(PV.int .i64 (IntKind.wrap .i64 ((IntKind.wrap .i64 ((IntKind.wrap .i64 ((IntKind.wrap .i64 ((IntKind.wrap .i64 ((PV.toI (PV.tnth v1 1))-(IntKind.wrap .i64 ((minI (IntKind.wrap .i64 (Int.tdiv (PV.toI (PV.tnth v1 1)) 36524)) 3)*36524))))-(IntKind.wrap .i64 ((IntKind.wrap .i64 (Int.tdiv (IntKind.wrap .i64 ((PV.toI (PV.tnth v1 1))-(IntKind.wrap .i64 ((minI (IntKind.wrap .i64 (Int.tdiv (PV.toI (PV.tnth v1 1)) 36524)) 3)*36524)))) 1461))*1461))))-(IntKind.wrap .i64 ((minI (IntKind.wrap .i64 (Int.tdiv (IntKind.wrap .i64 ((IntKind.wrap .i64 ((PV.toI (PV.tnth v1 1))-(IntKind.wrap .i64 ((minI (IntKind.wrap .i64 (Int.tdiv (PV.toI (PV.tnth v1 1)) 36524)) 3)*36524))))-(IntKind.wrap .i64 ((IntKind.wrap .i64 (Int.tdiv (IntKind.wrap .i64 ((PV.toI (PV.tnth v1 1))-(IntKind.wrap .i64 ((minI (IntKind.wrap .i64 (Int.tdiv (PV.toI (PV.tnth v1 1)) 36524)) 3)*36524)))) 1461))*1461)))) 365)) 3)*365))))-(IntKind.wrap .i64 (Int.tdiv (IntKind.wrap .i64 ((IntKind.wrap .i64 (153*(IntKind.wrap .i64 (Int.tdiv (IntKind.wrap .i64 ((IntKind.wrap .i64 (5*(IntKind.wrap .i64 ((IntKind.wrap .i64 ((IntKind.wrap .i64 ((PV.toI (PV.tnth v1 1))-(IntKind.wrap .i64 ((minI (IntKind.wrap .i64 (Int.tdiv (PV.toI (PV.tnth v1 1)) 36524)) 3)*36524))))-(IntKind.wrap .i64 ((IntKind.wrap .i64 (Int.tdiv (IntKind.wrap .i64 ((PV.toI (PV.tnth v1 1))-(IntKind.wrap .i64 ((minI (IntKind.wrap .i64 (Int.tdiv (PV.toI (PV.tnth v1 1)) 36524)) 3)*36524)))) 1461))*1461))))-(IntKind.wrap .i64 ((minI (IntKind.wrap .i64 (Int.tdiv (IntKind.wrap .i64 ((IntKind.wrap .i64 ((PV.toI (PV.tnth v1 1))-(IntKind.wrap .i64 ((minI (IntKind.wrap .i64 (Int.tdiv (PV.toI (PV.tnth v1 1)) 36524)) 3)*36524))))-(IntKind.wrap .i64 ((IntKind.wrap .i64 (Int.tdiv (IntKind.wrap .i64 ((PV.toI (PV.tnth v1 1))-(IntKind.wrap .i64 ((minI (IntKind.wrap .i64 (Int.tdiv (PV.toI (PV.tnth v1 1)) 36524)) 3)*36524)))) 1461))*1461)))) 365)) 3)*365))))))+2)) 153))))+2)) 5))))+1)))])))) :=
 (z6 EE zqg _ rfl).trans (by kernel_rfl)
theorem z1c5 (a0_0:Bool) (a0_1 a0_2 a0_3 a0_4 a0_5 a0_6 a0_7 a0_8 a0_9:Int) (a0_10:List UInt8) (a0_11 a0_12 a0_13 a0_14 a0_15 a0_16 a0_17:Int) (a0_18:List UInt8):z16c a0_0 a0_1 a0_2 a0_3 a0_4 a0_5 a0_6 a0_7 a0_8 a0_9 a0_10 a0_11 a0_12 a0_13 a0_14 a0_15 a0_16 a0_17 a0_18 =
  (bif (!a0_0) then zbg else ((zon a0_3 a0_4 a0_5 a0_6 a0_7 a0_8 a0_9 a0_10).bind fun v1=>(bif (!(PV.toB v1)) then zbg else ((zon a0_11 a0_12 a0_13 a0_14 a0_15 a0_16 a0_17 a0_18).bind fun v2=>(bif (!(PV.toB v2)) then zbg else (bif (ltB a0_2 (-50400)) then zbg else (bif (ltB 50400 a0_2) then zbg else (z10b a0_0 a0_1 a0_2 a0_3 a0_4 a0_5 a0_6 a0_7 a0_8 a0_9 a0_10 a0_11 a0_12 a0_13 a0_14 a0_15 a0_16 a0_17 a0_18)))))))) :=
 (z6 EE zev _ rfl).trans (by kernel_rfl)
theorem z12d  : zbg  =
  (some (PV.bool false)) :=
 (z7 EE _ _).trans (by kernel_rfl)
theorem z12c (x0:Bool) (x1 x2 x3 x4 x5 x6 x7 x8 x9:Int) (xA:List UInt8) (xB xC xD xE xF xG xH:Int) (xI:List UInt8):z10b x0 x1 x2 x3 x4 x5 x6 x7 x8 x9 xA xB xC xD xE xF xG xH xI =
  (bif (leB 2 (maxI (IntKind.wrap .i64 (x3-xB)) (IntKind.wrap .i64 (0-(IntKind.wrap .i64 (x3-xB)))))) then (some (PV.bool (leB (maxI (IntKind.wrap .i64 (x3-xB)) (IntKind.wrap .i64 (0-(IntKind.wrap .i64 (x3-xB))))) 10))) else (some (PV.bool false))) :=
 (z7 EE _ _).trans (by kernel_rfl)
theorem z16a (a0_0:Bool) (a0_1 a0_2 a0_3 a0_4 a0_5 a0_6 a0_7 a0_8 a0_9:Int) (a0_10:List UInt8) (a0_11 a0_12 a0_13 a0_14 a0_15 a0_16 a0_17:Int) (a0_18:List UInt8) (a1:Int) (a2:Bool):zom a0_0 a0_1 a0_2 a0_3 a0_4 a0_5 a0_6 a0_7 a0_8 a0_9 a0_10 a0_11 a0_12 a0_13 a0_14 a0_15 a0_16 a0_17 a0_18 a1 a2 =
  (bif (ltB a0_3 a0_11) then (bif (!(ltB a0_3 a0_11)) then none else (za0 a1 a2 a0_0 a0_1 a0_2 a0_3 a0_4 a0_5 a0_6 a0_7 a0_8 a0_9 a0_10 a0_11 a0_12 a0_13 a0_14 a0_15 a0_16 a0_17 a0_18 0 0 false [] a0_11 a0_12 a0_13 a0_14 a0_15 a0_16 a0_17 a0_18 a0_3 a0_4 a0_5 a0_6 a0_7 a0_8 a0_9 a0_10)) else (bif (!(ltB a0_3 a0_11)) then (za0 a1 a2 a0_0 a0_1 a0_2 a0_3 a0_4 a0_5 a0_6 a0_7 a0_8 a0_9 a0_10 a0_11 a0_12 a0_13 a0_14 a0_15 a0_16 a0_17 a0_18 0 0 false [] a0_3 a0_4 a0_5 a0_6 a0_7 a0_8 a0_9 a0_10 a0_11 a0_12 a0_13 a0_14 a0_15 a0_16 a0_17 a0_18) else none)) :=
 (z6 EE ze9 _ rfl).trans (by kernel_rfl)
theorem zji (x0:Int) (x1:Bool) (x2:Bool) (x3 x4 x5 x6 x7 x8 x9 xA xB:Int) (xC:List UInt8) (xD xE xF xG xH xI xJ:Int) (xK:List UInt8) (xL xM:Int) (xN:Bool) (xO:List UInt8) (xP xQ xR xS xT xU xV:Int) (xW:List UInt8) (xX xY xZ x36 x37 x38 x39:Int) (x40:List UInt8):za0 x0 x1 x2 x3 x4 x5 x6 x7 x8 x9 xA xB xC xD xE xF xG xH xI xJ xK xL xM xN xO xP xQ xR xS xT xU xV xW xX xY xZ x36 x37 x38 x39 x40 =
  (bif x1 then ((zxx x0 xX xY xZ x36).bind fun v1=>(bif (!x1) then ((z9f (PV.toI (PV.tnth v1 0)) x37 x38 x4 x39).bind fun v2=>(some (PV.agg [(PV.int .i64 (PV.toI v2)),(PV.int .i64 (IntKind.wrap .i64 (x4+x39))),(PV.bool (!(eqB x39 0))),(PV.str x40)]))) else ((z9f (PV.toI (PV.tnth v1 0)) x37 x38 x4 xV).bind fun v3=>(some (PV.agg [(PV.int .i64 (PV.toI v3)),(PV.int .i64 (IntKind.wrap .i64 (x4+x39))),(PV.bool (!(eqB x39 0))),(PV.str x40)]))))) else ((zxx x0 xP xQ xR xS).bind fun v4=>(bif (!x1) then ((z9f (PV.toI (PV.tnth v4 0)) xT xU x4 x39).bind fun v5=>(some (PV.agg [(PV.int .i64 (PV.toI v5)),(PV.int .i64 (IntKind.wrap .i64 (x4+xV))),(PV.bool (!(eqB xV 0))),(PV.str xW)]))) else ((z9f (PV.toI (PV.tnth v4 0)) xT xU x4 xV).bind fun v6=>(some (PV.agg [(PV.int .i64 (PV.toI v6)),(PV.int .i64 (IntKind.wrap .i64 (x4+xV))),(PV.bool (!(eqB xV 0))),(PV.str xW)])))))) :=
 (z7 EE _ _).trans (by kernel_rfl)
theorem z12a (a0 a1:Int):zri a0 a1 =
  ((ztb a0).bind fun v1=>((ztb a1).bind fun v2=>((zoy (PV.toI v1) (PV.toI v2)).bind fun v3=>(some (PV.agg [(PV.int .u64 (PV.toI (PV.tnth v3 0))),(PV.int .u64 (PV.toI (PV.tnth v3 1)))]))))) :=
 (z6 EE zqd _ rfl).trans (by kernel_rfl)
theorem z1bs (a0:Int):ztb a0 =
  (bif (ltB a0 0) then (some (PV.int .u64 (IntKind.wrap .u64 (0-(IntKind.wrap .u64 a0))))) else (some (PV.int .u64 (IntKind.wrap .u64 a0)))) :=
 (z6 EE z10i _ rfl).trans (by kernel_rfl)
theorem z16v (a0 a1 a2:Int):z143 a0 a1 a2 =
  (bif (eqB a2 0) then none else (zuj a0 a1 a2)) :=
 (z6 EE z79 _ rfl).trans (by kernel_rfl)
theorem zxu (x0 x1 x2:Int):zuj x0 x1 x2 =
  (bif (leB x2 x0) then none else (zui x0 x1 x2)) :=
 (z7 EE _ _).trans (by kernel_rfl)
theorem zxt (x0 x1 x2:Int):zui x0 x1 x2 =
  (bif (eqB x0 0) then (bif (eqB x2 0) then none else (bif (eqB x2 0) then none else (some (PV.tuple [(PV.int .u64 (IntKind.wrap .u64 (Int.tdiv x1 x2))),(PV.int .u64 (Int.tmod x1 x2))])))) else ((zs3 x2).bind fun v1=>(bif (ltB (IntKind.wrap .u64 (PV.toI v1)) 0) then none else (bif (ltB (IntKind.wrap .u64 (PV.toI v1)) 0) then none else (bif (ltB (IntKind.wrap .u64 (64-(IntKind.wrap .u64 (PV.toI v1)))) 0) then none else (bif (ltB (IntKind.wrap .u64 (PV.toI v1)) 0) then none else (bif (eqB (shrI IntKind.u64 (shlI IntKind.u64 x2 (IntKind.wrap .u64 (PV.toI v1))) 32) 0) then none else (z12k (shlI IntKind.u64 x2 (IntKind.wrap .u64 (PV.toI v1))) (IntKind.wrap .u64 (PV.toI v1)) (shrI IntKind.u64 (shlI IntKind.u64 x2 (IntKind.wrap .u64 (PV.toI v1))) 32) (andI IntKind.u64 (shlI IntKind.u64 x2 (IntKind.wrap .u64 (PV.toI v1))) 4294967295) (orI IntKind.u64 (shlI IntKind.u64 x0 (IntKind.wrap .u64 (PV.toI v1))) (shrI IntKind.u64 x1 (IntKind.wrap .u64 (64-(IntKind.wrap .u64 (PV.toI v1)))))) (shrI IntKind.u64 (shlI IntKind.u64 x1 (IntKind.wrap .u64 (PV.toI v1))) 32) (andI IntKind.u64 (shlI IntKind.u64 x1 (IntKind.wrap .u64 (PV.toI v1))) 4294967295) (IntKind.wrap .u64 (Int.tdiv (orI IntKind.u64 (shlI IntKind.u64 x0 (IntKind.wrap .u64 (PV.toI v1))) (shrI IntKind.u64 x1 (IntKind.wrap .u64 (64-(IntKind.wrap .u64 (PV.toI v1)))))) (shrI IntKind.u64 (shlI IntKind.u64 x2 (IntKind.wrap .u64 (PV.toI v1))) 32))) (IntKind.wrap .u64 ((orI IntKind.u64 (shlI IntKind.u64 x0 (IntKind.wrap .u64 (PV.toI v1))) (shrI IntKind.u64 x1 (IntKind.wrap .u64 (64-(IntKind.wrap .u64 (PV.toI v1))))))-(IntKind.wrap .u64 ((IntKind.wrap .u64 (Int.tdiv (orI IntKind.u64 (shlI IntKind.u64 x0 (IntKind.wrap .u64 (PV.toI v1))) (shrI IntKind.u64 x1 (IntKind.wrap .u64 (64-(IntKind.wrap .u64 (PV.toI v1)))))) (shrI IntKind.u64 (shlI IntKind.u64 x2 (IntKind.wrap .u64 (PV.toI v1))) 32)))*(shrI IntKind.u64 (shlI IntKind.u64 x2 (IntKind.wrap .u64 (PV.toI v1))) 32))))))))))))) :=
 (z7 EE _ _).trans (by kernel_rfl)
theorem z15n (a0:Bool) (a1_0 a1_1:Int):zh6 a0 a1_0 a1_1 =
  (bif (!(eqB a1_0 0)) then (some (PV.tuple [(PV.int .i64 0),(PV.int .i64 10)])) else (bif a0 then (bif (leB a1_1 9223372036854775808) then (some (PV.tuple [(PV.int .i64 (IntKind.wrap .i64 (IntKind.wrap .u64 (0-a1_1)))),(PV.int .i64 0)])) else (zii a0 [(PV.int .u64 a1_0),(PV.int .u64 a1_1)] 2)) else (zii a0 [(PV.int .u64 a1_0),(PV.int .u64 a1_1)] 2))) :=
 (z6 EE ze8 _ rfl).trans (by kernel_rfl)
theorem zxo (x0:Bool) (x1:List PV) (x2:Nat):zii x0 x1 x2 =
  (bif x0 then (some (PV.tuple [(PV.int .i64 0),(PV.int .i64 10)])) else ((rdT (tiInt IntKind.u64) x1 1 0).bind fun v1=>(bif (ltB 9223372036854775807 (PV.toI v1)) then (some (PV.tuple [(PV.int .i64 0),(PV.int .i64 10)])) else ((rdT (tiInt IntKind.u64) x1 1 0).bind fun v2=>(some (PV.tuple [(PV.int .i64 (IntKind.wrap .i64 (PV.toI v2))),(PV.int .i64 0)])))))) :=
 (z7 EE _ _).trans (by kernel_rfl)
theorem z16u (a0 a1:Int):zoy a0 a1 =
  (some (PV.tuple [(PV.int .u64 (IntKind.wrap .u64 ((IntKind.wrap .u64 ((IntKind.wrap .u64 ((shrI IntKind.u64 a0 32)*(shrI IntKind.u64 a1 32)))+(shrI IntKind.u64 (IntKind.wrap .u64 ((IntKind.wrap .u64 ((shrI IntKind.u64 a0 32)*(andI IntKind.u64 a1 4294967295)))+(shrI IntKind.u64 (IntKind.wrap .u64 ((andI IntKind.u64 a0 4294967295)*(andI IntKind.u64 a1 4294967295))) 32))) 32)))+(shrI IntKind.u64 (IntKind.wrap .u64 ((andI IntKind.u64 (IntKind.wrap .u64 ((IntKind.wrap .u64 ((shrI IntKind.u64 a0 32)*(andI IntKind.u64 a1 4294967295)))+(shrI IntKind.u64 (IntKind.wrap .u64 ((andI IntKind.u64 a0 4294967295)*(andI IntKind.u64 a1 4294967295))) 32))) 4294967295)+(IntKind.wrap .u64 ((andI IntKind.u64 a0 4294967295)*(shrI IntKind.u64 a1 32))))) 32)))),(PV.int .u64 (IntKind.wrap .u64 (a0*a1)))])) :=
 (z6 EE zu1 _ rfl).trans (by kernel_rfl)
theorem z1k (a0:List UInt8) (a1:List UInt8):z6j a0 a1 =
  (bif (leB (((List.length a1):Nat):Int) (((List.length a0):Nat):Int)) then ((takeS a0 (((List.length a1):Nat):Int)).bind fun v1=>(some (PV.bool (eqS v1 a1)))) else (some (PV.bool false))) :=
 (z6 EE z9b _ rfl).trans (by kernel_rfl)
theorem zj4 (a0:List PV) (a1:List PV):z7x a0 a1 =
  (z18 a0 a1 191 [(PV.int .u64 0),(PV.int .u64 0),(PV.int .u64 0),(PV.int .u64 0),(PV.int .u64 0),(PV.int .u64 0)] 6 [(PV.int .u64 0),(PV.int .u64 0),(PV.int .u64 0),(PV.int .u64 0),(PV.int .u64 0),(PV.int .u64 0)] 6) :=
 (z6 EE z1v _ rfl).trans (by kernel_rfl)
theorem z7n (x0:List PV) (x1:List PV) (x2:Int) (x3:List PV) (x4:Nat) (x5:List PV) (x6:Nat):z18 x0 x1 x2 x3 x4 x5 x6 =
  (bif (leB 0 x2) then (bif (inB 0 0 (((List.length x5):Nat):Int)) then ((rdT (tiInt IntKind.u64) x5 0 0).bind fun v1=>(bif (inB 0 0 (((List.length x5):Nat):Int)) then ((rdT (tiInt IntKind.u64) x5 0 0).bind fun v2=>(bif (inB 0 (IntKind.wrap .i64 (0+1)) (((List.length x5):Nat):Int)) then ((rdT (tiInt IntKind.u64) x5 1 0).bind fun v3=>(bif (inB 0 (IntKind.wrap .i64 (0+1)) (((List.length x5):Nat):Int)) then ((rdT (tiInt IntKind.u64) x5 1 0).bind fun v4=>(bif (inB 0 (IntKind.wrap .i64 ((IntKind.wrap .i64 (0+1))+1)) (((List.length x5):Nat):Int)) then ((rdT (tiInt IntKind.u64) x5 2 0).bind fun v5=>(bif (inB 0 (IntKind.wrap .i64 ((IntKind.wrap .i64 (0+1))+1)) (((List.length x5):Nat):Int)) then ((rdT (tiInt IntKind.u64) x5 2 0).bind fun v6=>(bif (inB 0 (IntKind.wrap .i64 ((IntKind.wrap .i64 ((IntKind.wrap .i64 (0+1))+1))+1)) (((List.length x5):Nat):Int)) then ((rdT (tiInt IntKind.u64) x5 3 0).bind fun v7=>(bif (inB 0 (IntKind.wrap .i64 ((IntKind.wrap .i64 ((IntKind.wrap .i64 (0+1))+1))+1)) (((List.length x5):Nat):Int)) then ((rdT (tiInt IntKind.u64) x5 3 0).bind fun v8=>(bif (inB 0 (IntKind.wrap .i64 ((IntKind.wrap .i64 ((IntKind.wrap .i64 ((IntKind.wrap .i64 (0+1))+1))+1))+1)) (((List.length x5):Nat):Int)) then ((rdT (tiInt IntKind.u64) x5 4 0).bind fun v9=>(bif (inB 0 (IntKind.wrap .i64 ((IntKind.wrap .i64 ((IntKind.wrap .i64 ((IntKind.wrap .i64 (0+1))+1))+1))+1)) (((List.length x5):Nat):Int)) then ((rdT (tiInt IntKind.u64) x5 4 0).bind fun v10=>(bif (inB 0 (IntKind.wrap .i64 ((IntKind.wrap .i64 ((IntKind.wrap .i64 ((IntKind.wrap .i64 ((IntKind.wrap .i64 (0+1))+1))+1))+1))+1)) (((List.length x5):Nat):Int)) then ((rdT (tiInt IntKind.u64) x5 5 0).bind fun v11=>(bif (inB 0 (IntKind.wrap .i64 ((IntKind.wrap .i64 ((IntKind.wrap .i64 ((IntKind.wrap .i64 ((IntKind.wrap .i64 (0+1))+1))+1))+1))+1)) (((List.length x5):Nat):Int)) then ((rdT (tiInt IntKind.u64) x5 5 0).bind fun v12=>(zy x0 x1 x2 x3 x4 [(PV.int .u64 (andI IntKind.u64 (IntKind.wrap .u64 ((IntKind.wrap .u64 (0+(PV.toI v1)))+(PV.toI v2))) 4294967295)),(PV.int .u64 (andI IntKind.u64 (IntKind.wrap .u64 ((IntKind.wrap .u64 ((shrI IntKind.u64 (IntKind.wrap .u64 ((IntKind.wrap .u64 (0+(PV.toI v1)))+(PV.toI v2))) 32)+(PV.toI v3)))+(PV.toI v4))) 4294967295)),(PV.int .u64 (andI IntKind.u64 (IntKind.wrap .u64 ((IntKind.wrap .u64 ((shrI IntKind.u64 (IntKind.wrap .u64 ((IntKind.wrap .u64 ((shrI IntKind.u64 (IntKind.wrap .u64 ((IntKind.wrap .u64 (0+(PV.toI v1)))+(PV.toI v2))) 32)+(PV.toI v3)))+(PV.toI v4))) 32)+(PV.toI v5)))+(PV.toI v6))) 4294967295)),(PV.int .u64 (andI IntKind.u64 (IntKind.wrap .u64 ((IntKind.wrap .u64 ((shrI IntKind.u64 (IntKind.wrap .u64 ((IntKind.wrap .u64 ((shrI IntKind.u64 (IntKind.wrap .u64 ((IntKind.wrap .u64 ((shrI IntKind.u64 (IntKind.wrap .u64 ((IntKind.wrap .u64 (0+(PV.toI v1)))+(PV.toI v2))) 32)+(PV.toI v3)))+(PV.toI v4))) 32)+(PV.toI v5)))+(PV.toI v6))) 32)+(PV.toI v7)))+(PV.toI v8))) 4294967295)),(PV.int .u64 (andI IntKind.u64 (IntKind.wrap .u64 ((IntKind.wrap .u64 ((shrI IntKind.u64 (IntKind.wrap .u64 ((IntKind.wrap .u64 ((shrI IntKind.u64 (IntKind.wrap .u64 ((IntKind.wrap .u64 ((shrI IntKind.u64 (IntKind.wrap .u64 ((IntKind.wrap .u64 ((shrI IntKind.u64 (IntKind.wrap .u64 ((IntKind.wrap .u64 (0+(PV.toI v1)))+(PV.toI v2))) 32)+(PV.toI v3)))+(PV.toI v4))) 32)+(PV.toI v5)))+(PV.toI v6))) 32)+(PV.toI v7)))+(PV.toI v8))) 32)+(PV.toI v9)))+(PV.toI v10))) 4294967295)),(PV.int .u64 (andI IntKind.u64 (IntKind.wrap .u64 ((IntKind.wrap .u64 ((shrI IntKind.u64 (IntKind.wrap .u64 ((IntKind.wrap .u64 ((shrI IntKind.u64 (IntKind.wrap .u64 ((IntKind.wrap .u64 ((shrI IntKind.u64 (IntKind.wrap .u64 ((IntKind.wrap .u64 ((shrI IntKind.u64 (IntKind.wrap .u64 ((IntKind.wrap .u64 ((shrI IntKind.u64 (IntKind.wrap .u64 ((IntKind.wrap .u64 (0+(PV.toI v1)))+(PV.toI v2))) 32)+(PV.toI v3)))+(PV.toI v4))) 32)+(PV.toI v5)))+(PV.toI v6))) 32)+(PV.toI v7)))+(PV.toI v8))) 32)+(PV.toI v9)))+(PV.toI v10))) 32)+(PV.toI v11)))+(PV.toI v12))) 4294967295))] 6)) else none)) else none)) else none)) else none)) else none)) else none)) else none)) else none)) else none)) else none)) else none)) else none) else (some (PV.tuple [(PV.sl 1 x3),(PV.sl 1 x5)]))) :=
 (z7 EE _ _).trans (by kernel_rfl)
theorem zfh (x0:List PV) (x1:List PV) (x2:Int) (x3:List PV) (x4:Nat) (x5:List PV) (x6:Nat):zy x0 x1 x2 x3 x4 x5 x6 =
  (bif (inB 0 0 (((List.length x5):Nat):Int)) then ((rdT (tiInt IntKind.u64) x5 0 0).bind fun v1=>((rdI (tiInt IntKind.u64) x0 (IntKind.wrap .i64 (Int.tdiv x2 32))).bind fun v2=>(bif (ltB (IntKind.wrap .u64 (Int.tmod x2 32)) 0) then none else (bif (inB 0 0 (((List.length x5):Nat):Int)) then ((stC x5 0 0 [(PV.int .u64 (orI IntKind.u64 (PV.toI v1) (andI IntKind.u64 (shrI IntKind.u64 (PV.toI v2) (IntKind.wrap .u64 (Int.tmod x2 32))) 1)))]).bind fun v3=>((z3u v3 x1).bind fun v4=>(bif (leB 0 (PV.toI v4)) then ((z3i v3 x1).bind fun v5=>(bif (inB 0 (IntKind.wrap .i64 (Int.tdiv x2 32)) (((List.length x3):Nat):Int)) then ((rdT (tiInt IntKind.u64) x3 (Int.toNat (IntKind.wrap .i64 (Int.tdiv x2 32))) 0).bind fun v6=>(bif (ltB (IntKind.wrap .u64 (Int.tmod x2 32)) 0) then none else (bif (inB 0 (IntKind.wrap .i64 (Int.tdiv x2 32)) (((List.length x3):Nat):Int)) then ((stC x3 (Int.toNat (IntKind.wrap .i64 (Int.tdiv x2 32))) 0 [(PV.int .u64 (orI IntKind.u64 (PV.toI v6) (shlI IntKind.u64 1 (IntKind.wrap .u64 (Int.tmod x2 32)))))]).bind fun v7=>(z1f x0 x1 (PV.toL v5) (IntKind.wrap .i64 (x2-1)) v7 x4)) else none))) else none)) else (z18 x0 x1 (IntKind.wrap .i64 (x2-1)) x3 x4 v3 x6)))) else none)))) else none) :=
 (z7 EE _ _).trans (by kernel_rfl)
theorem z6c (x0:List PV) (x1:List PV) (x2:List PV) (x3:Int) (x4:List PV) (x5:Nat):z1f x0 x1 x2 x3 x4 x5 =
  (bif (leB 0 x3) then ((rdI (tiInt IntKind.u64) x2 0).bind fun v1=>((rdI (tiInt IntKind.u64) x2 0).bind fun v2=>((rdI (tiInt IntKind.u64) x2 (IntKind.wrap .i64 (0+1))).bind fun v3=>((rdI (tiInt IntKind.u64) x2 (IntKind.wrap .i64 (0+1))).bind fun v4=>((rdI (tiInt IntKind.u64) x2 (IntKind.wrap .i64 ((IntKind.wrap .i64 (0+1))+1))).bind fun v5=>((rdI (tiInt IntKind.u64) x2 (IntKind.wrap .i64 ((IntKind.wrap .i64 (0+1))+1))).bind fun v6=>((rdI (tiInt IntKind.u64) x2 (IntKind.wrap .i64 ((IntKind.wrap .i64 ((IntKind.wrap .i64 (0+1))+1))+1))).bind fun v7=>((rdI (tiInt IntKind.u64) x2 (IntKind.wrap .i64 ((IntKind.wrap .i64 ((IntKind.wrap .i64 (0+1))+1))+1))).bind fun v8=>((rdI (tiInt IntKind.u64) x2 (IntKind.wrap .i64 ((IntKind.wrap .i64 ((IntKind.wrap .i64 ((IntKind.wrap .i64 (0+1))+1))+1))+1))).bind fun v9=>((rdI (tiInt IntKind.u64) x2 (IntKind.wrap .i64 ((IntKind.wrap .i64 ((IntKind.wrap .i64 ((IntKind.wrap .i64 (0+1))+1))+1))+1))).bind fun v10=>((rdI (tiInt IntKind.u64) x2 (IntKind.wrap .i64 ((IntKind.wrap .i64 ((IntKind.wrap .i64 ((IntKind.wrap .i64 ((IntKind.wrap .i64 (0+1))+1))+1))+1))+1))).bind fun v11=>((rdI (tiInt IntKind.u64) x2 (IntKind.wrap .i64 ((IntKind.wrap .i64 ((IntKind.wrap .i64 ((IntKind.wrap .i64 ((IntKind.wrap .i64 (0+1))+1))+1))+1))+1))).bind fun v12=>(zy x0 x1 x3 x4 x5 [(PV.int .u64 (andI IntKind.u64 (IntKind.wrap .u64 ((IntKind.wrap .u64 (0+(PV.toI v1)))+(PV.toI v2))) 4294967295)),(PV.int .u64 (andI IntKind.u64 (IntKind.wrap .u64 ((IntKind.wrap .u64 ((shrI IntKind.u64 (IntKind.wrap .u64 ((IntKind.wrap .u64 (0+(PV.toI v1)))+(PV.toI v2))) 32)+(PV.toI v3)))+(PV.toI v4))) 4294967295)),(PV.int .u64 (andI IntKind.u64 (IntKind.wrap .u64 ((IntKind.wrap .u64 ((shrI IntKind.u64 (IntKind.wrap .u64 ((IntKind.wrap .u64 ((shrI IntKind.u64 (IntKind.wrap .u64 ((IntKind.wrap .u64 (0+(PV.toI v1)))+(PV.toI v2))) 32)+(PV.toI v3)))+(PV.toI v4))) 32)+(PV.toI v5)))+(PV.toI v6))) 4294967295)),(PV.int .u64 (andI IntKind.u64 (IntKind.wrap .u64 ((IntKind.wrap .u64 ((shrI IntKind.u64 (IntKind.wrap .u64 ((IntKind.wrap .u64 ((shrI IntKind.u64 (IntKind.wrap .u64 ((IntKind.wrap .u64 ((shrI IntKind.u64 (IntKind.wrap .u64 ((IntKind.wrap .u64 (0+(PV.toI v1)))+(PV.toI v2))) 32)+(PV.toI v3)))+(PV.toI v4))) 32)+(PV.toI v5)))+(PV.toI v6))) 32)+(PV.toI v7)))+(PV.toI v8))) 4294967295)),(PV.int .u64 (andI IntKind.u64 (IntKind.wrap .u64 ((IntKind.wrap .u64 ((shrI IntKind.u64 (IntKind.wrap .u64 ((IntKind.wrap .u64 ((shrI IntKind.u64 (IntKind.wrap .u64 ((IntKind.wrap .u64 ((shrI IntKind.u64 (IntKind.wrap .u64 ((IntKind.wrap .u64 ((shrI IntKind.u64 (IntKind.wrap .u64 ((IntKind.wrap .u64 (0+(PV.toI v1)))+(PV.toI v2))) 32)+(PV.toI v3)))+(PV.toI v4))) 32)+(PV.toI v5)))+(PV.toI v6))) 32)+(PV.toI v7)))+(PV.toI v8))) 32)+(PV.toI v9)))+(PV.toI v10))) 4294967295)),(PV.int .u64 (andI IntKind.u64 (IntKind.wrap .u64 ((IntKind.wrap .u64 ((shrI IntKind.u64 (IntKind.wrap .u64 ((IntKind.wrap .u64 ((shrI IntKind.u64 (IntKind.wrap .u64 ((IntKind.wrap .u64 ((shrI IntKind.u64 (IntKind.wrap .u64 ((IntKind.wrap .u64 ((shrI IntKind.u64 (IntKind.wrap .u64 ((IntKind.wrap .u64 ((shrI IntKind.u64 (IntKind.wrap .u64 ((IntKind.wrap .u64 (0+(PV.toI v1)))+(PV.toI v2))) 32)+(PV.toI v3)))+(PV.toI v4))) 32)+(PV.toI v5)))+(PV.toI v6))) 32)+(PV.toI v7)))+(PV.toI v8))) 32)+(PV.toI v9)))+(PV.toI v10))) 32)+(PV.toI v11)))+(PV.toI v12))) 4294967295))] 6))))))))))))) else (some (PV.tuple [(PV.sl 1 x4),(PV.sl 1 x2)]))) :=
 (z7 EE _ _).trans (by kernel_rfl)
theorem zm0 (a0:List PV):z1i a0 =
  ((z3u a0 [(PV.int .u64 0),(PV.int .u64 0),(PV.int .u64 0),(PV.int .u64 0),(PV.int .u64 0),(PV.int .u64 0)]).bind fun v1=>(some (PV.bool (eqB (PV.toI v1) 0)))) :=
 (z6 EE zco _ rfl).trans (by kernel_rfl)
theorem zpi (a0:List PV) (a1:List PV):z2a a0 a1 =
  (zi a0 a1 0 0 [(PV.int .u64 0),(PV.int .u64 0),(PV.int .u64 0),(PV.int .u64 0),(PV.int .u64 0),(PV.int .u64 0)] 6) :=
 (z6 EE z52 _ rfl).trans (by kernel_rfl)
theorem z1a (x0:List PV) (x1:List PV) (x2 x3:Int) (x4:List PV) (x5:Nat):zi x0 x1 x2 x3 x4 x5 =
  (bif (ltB x3 6) then ((rdI (tiInt IntKind.u64) x0 x3).bind fun v1=>((rdI (tiInt IntKind.u64) x1 x3).bind fun v2=>(bif (inB 0 x3 (((List.length x4):Nat):Int)) then ((stC x4 (Int.toNat x3) 0 [(PV.int .u64 (andI IntKind.u64 (IntKind.wrap .u64 ((IntKind.wrap .u64 (x2+(PV.toI v1)))+(PV.toI v2))) 4294967295))]).bind fun v3=>(zi x0 x1 (shrI IntKind.u64 (IntKind.wrap .u64 ((IntKind.wrap .u64 (x2+(PV.toI v1)))+(PV.toI v2))) 32) (IntKind.wrap .i64 (x3+1)) v3 x5)) else none))) else (some (PV.sl 1 x4))) :=
 (z7 EE _ _).trans (by kernel_rfl)
theorem zph (a0:List PV) (a1:List PV):z3u a0 a1 =
  (zc a0 a1 5) :=
 (z6 EE z51 _ rfl).trans (by kernel_rfl)
theorem z19 (x0:List PV) (x1:List PV) (x2:Int):zc x0 x1 x2 =
  (bif (leB 0 x2) then ((rdI (tiInt IntKind.u64) x0 x2).bind fun v1=>((rdI (tiInt IntKind.u64) x1 x2).bind fun v2=>(bif (ltB (PV.toI v1) (PV.toI v2)) then (some (PV.int .i64 (-1))) else ((rdI (tiInt IntKind.u64) x0 x2).bind fun v3=>((rdI (tiInt IntKind.u64) x1 x2).bind fun v4=>(bif (ltB (PV.toI v4) (PV.toI v3)) then (some (PV.int .i64 1)) else (zc x0 x1 (IntKind.wrap .i64 (x2-1))))))))) else (some (PV.int .i64 0))) :=
 (z7 EE _ _).trans (by kernel_rfl)
theorem zm1 (a0:List PV) (a1:List PV):z3i a0 a1 =
  (zg a0 a1 0 0 [(PV.int .u64 0),(PV.int .u64 0),(PV.int .u64 0),(PV.int .u64 0),(PV.int .u64 0),(PV.int .u64 0)] 6) :=
 (z6 EE z4j _ rfl).trans (by kernel_rfl)
theorem z15 (x0:List PV) (x1:List PV) (x2 x3:Int) (x4:List PV) (x5:Nat):zg x0 x1 x2 x3 x4 x5 =
  (bif (ltB x3 6) then ((rdI (tiInt IntKind.u64) x0 x3).bind fun v1=>((rdI (tiInt IntKind.u64) x1 x3).bind fun v2=>(bif (inB 0 x3 (((List.length x4):Nat):Int)) then ((stC x4 (Int.toNat x3) 0 [(PV.int .u64 (andI IntKind.u64 (IntKind.wrap .u64 ((IntKind.wrap .u64 ((IntKind.wrap .u64 ((PV.toI v1)+4294967296))-(PV.toI v2)))-x2)) 4294967295))]).bind fun v3=>(zg x0 x1 (IntKind.wrap .u64 (1-(shrI IntKind.u64 (IntKind.wrap .u64 ((IntKind.wrap .u64 ((IntKind.wrap .u64 ((PV.toI v1)+4294967296))-(PV.toI v2)))-x2)) 32))) (IntKind.wrap .i64 (x3+1)) v3 x5)) else none))) else (some (PV.sl 1 x4))) :=
 (z7 EE _ _).trans (by kernel_rfl)
theorem zlx  : zg8  =
  ((z5c 294282 12 31).bind fun v1=>(some (PV.int .i64 (PV.toI v1)))) :=
 (z6 EE zcm _ rfl).trans (by kernel_rfl)
theorem zk7 (a0:Int):z8x a0 =
  ((z7e (IntKind.wrap .i64 (a0-2000)) 400).bind fun v1=>(z2s a0 (IntKind.wrap .i64 ((PV.toI v1)*146097)) 0)) :=
 (z6 EE z45 _ rfl).trans (by kernel_rfl)
theorem z8b (x0 x1 x2:Int):z2s x0 x1 x2 =
  ((z1w (IntKind.wrap .i64 (x0-2000)) 400).bind fun v1=>(bif (ltB x2 (PV.toI v1)) then ((z4p (IntKind.wrap .i64 (2000+x2))).bind fun v2=>(bif (PV.toB v2) then (z2s x0 (IntKind.wrap .i64 ((IntKind.wrap .i64 (x1+365))+1)) (IntKind.wrap .i64 (x2+1))) else (z2s x0 (IntKind.wrap .i64 (x1+365)) (IntKind.wrap .i64 (x2+1))))) else (some (PV.int .i64 x1)))) :=
 (z7 EE _ _).trans (by kernel_rfl)
theorem zk4 (a0_0 a0_1 a0_2 a0_3 a0_4 a0_5 a0_6:Int) (a0_7:List UInt8):z5q a0_0 a0_1 a0_2 a0_3 a0_4 a0_5 a0_6 a0_7 =
  (bif (leB 1 a0_0) then (bif (leB a0_0 12) then ((z4o a0_1 a0_2 a0_3).bind fun v1=>(bif (PV.toB v1) then ((z6z a0_4 a0_5).bind fun v2=>(bif (PV.toB v2) then (bif (leB 0 a0_6) then (some (PV.bool (leB a0_6 7200))) else (some (PV.bool false))) else (some (PV.bool false)))) else (some (PV.bool false)))) else (some (PV.bool false))) else (some (PV.bool false))) :=
 (z6 EE zau _ rfl).trans (by kernel_rfl)
theorem zk3 (a0_0 a0_1 a0_2 a0_3 a0_4 a0_5 a0_6:Int) (a0_7:List UInt8) (a1_0 a1_1 a1_2 a1_3 a1_4 a1_5 a1_6:Int) (a1_7:List UInt8) (a2 a3:Int):z5p a0_0 a0_1 a0_2 a0_3 a0_4 a0_5 a0_6 a0_7 a1_0 a1_1 a1_2 a1_3 a1_4 a1_5 a1_6 a1_7 a2 a3 =
  ((zbi a3 a0_0 a0_1 a0_2 a0_3).bind fun v1=>((z6x (PV.toI (PV.tnth v1 0)) a0_4 a0_5 a2 a1_6).bind fun v2=>(some (PV.agg [(PV.int .i64 (PV.toI v2)),(PV.int .i64 (IntKind.wrap .i64 (a2+a0_6))),(PV.bool (!(eqB a0_6 0))),(PV.str a0_7)])))) :=
 (z6 EE zat _ rfl).trans (by kernel_rfl)
theorem zp4 (a0:List UInt8) (a1:List UInt8):zbc a0 a1 =
  (bif (eqB (((List.length a1):Nat):Int) 0) then zdh else (bif (eqS a1 a0) then zdh else (zdg a0 a1 (((List.length a1):Nat):Int)))) :=
 (z6 EE z3l _ rfl).trans (by kernel_rfl)
theorem zib (x0:List UInt8) (x1:List UInt8) (x2:Int):zdg x0 x1 x2 =
  (bif (eqB x2 1) then ((atS x1 0).bind fun v1=>((z6i x0 v1).bind fun v2=>(some (PV.int .i64 (PV.toI v2))))) else (bif (leB (((List.length x0):Nat):Int) x2) then (some (PV.int .i64 (-1))) else none)) :=
 (z7 EE _ _).trans (by kernel_rfl)
theorem z4s (a0:List UInt8) (a1:List UInt8):zan a0 a1 =
  ((z6j a0 a1).bind fun v1=>(bif (PV.toB v1) then ((dropS a0 (((List.length a1):Nat):Int)).bind fun v2=>(some (PV.str v2))) else (some (PV.str a0)))) :=
 (z6 EE z87 _ rfl).trans (by kernel_rfl)
theorem zc0 (a0 a1:Int):zf7 a0 a1 =
  (bif (eqB a1 0) then none else (bif (eqB a1 0) then none else (bif (ltB (Int.tmod a0 a1) 0) then (some (PV.tuple [(PV.int .i64 (IntKind.wrap .i64 ((IntKind.wrap .i64 (Int.tdiv a0 a1))-1))),(PV.int .i64 (IntKind.wrap .i64 ((Int.tmod a0 a1)+a1)))])) else (some (PV.tuple [(PV.int .i64 (IntKind.wrap .i64 (Int.tdiv a0 a1))),(PV.int .i64 (Int.tmod a0 a1))]))))) :=
 (z6 EE zqh _ rfl).trans (by kernel_rfl)
theorem z16b (a0_0 a0_1 a0_2 a0_3 a0_4 a0_5 a0_6:Int) (a0_7:List UInt8):zon a0_0 a0_1 a0_2 a0_3 a0_4 a0_5 a0_6 a0_7 =
  ((zqp a0_1 a0_2 a0_3).bind fun v1=>((zqq a0_4 a0_5).bind fun v2=>(bif (leB 1 a0_0) then (bif (leB a0_0 12) then (bif (eqB (PV.toI (PV.tnth v1 1)) 0) then (bif (eqB (PV.toI (PV.tnth v2 1)) 0) then (bif (leB 0 a0_6) then (some (PV.bool (leB a0_6 7200))) else (some (PV.bool false))) else (some (PV.bool false))) else (some (PV.bool false))) else (some (PV.bool false))) else (some (PV.bool false))))) :=
 (z6 EE ztq _ rfl).trans (by kernel_rfl)
theorem z1aq (a0 a1 a2_0 a2_1 a2_2:Int):zxx a0 a1 a2_0 a2_1 a2_2 =
  ((zfj a2_0 a2_1 a2_2).bind fun v1=>((PV.nilOf (TD.iface true) (PV.opq v1 0)).bind fun v2=>(bif v2 then zi7 else (bif (ltB a1 1) then zi7 else (bif (ltB 12 a1) then zi7 else (zyq a0 a1 v1)))))) :=
 (z6 EE z8p _ rfl).trans (by kernel_rfl)
theorem z11n  : zi7  =
  (some (PV.tuple [(PV.int .i64 0),(PV.int .i64 1)])) :=
 (z7 EE _ _).trans (by kernel_rfl)
theorem z11m (x0 x1:Int) (x2:PV):zyq x0 x1 x2 =
  (bif (leB x0 (-4718)) then zqr else (bif (leB 294282 x0) then zqr else (zej x0 x1 x2))) :=
 (z7 EE _ _).trans (by kernel_rfl)
theorem z11l  : zqr  =
  (some (PV.tuple [(PV.int .i64 0),(PV.int .i64 10)])) :=
 (z7 EE _ _).trans (by kernel_rfl)
theorem zgc (x0 x1:Int) (x2:PV):zej x0 x1 x2 =
  ((zbo x0 x1 1).bind fun v1=>((asT (tiInt IntKind.i64) z9n x2).bind fun v2=>(z4b v2 ((asT (tiInt IntKind.i64) z9o x2).bind fun v3=>(z4b v3 ((asT (EE.ti z4h) z4h x2).bind fun v4=>(v4.bind fun v5=>((zqm (IntKind.wrap .i64 ((IntKind.wrap .i64 ((PV.toI (PV.tnth v1 0))+(PV.toI (PV.nth v5 1))))-1)) (PV.toI (PV.nth v5 0)) (PV.toI (PV.nth v5 2))).bind fun v6=>(some (PV.tuple [(PV.int .i64 (PV.toI v6)),(PV.int .i64 0)]))))) fun v7=>((zhy x0 x1).bind fun v8=>((zqm (IntKind.wrap .i64 ((IntKind.wrap .i64 ((PV.toI (PV.tnth v1 0))+(PV.toI v8)))-1)) (PV.toI v7) (-1)).bind fun v9=>(some (PV.tuple [(PV.int .i64 (PV.toI v9)),(PV.int .i64 0)])))))) fun v10=>(some (PV.tuple [(PV.int .i64 (IntKind.wrap .i64 ((IntKind.wrap .i64 ((PV.toI (PV.tnth v1 0))+(PV.toI v10)))-1))),(PV.int .i64 0)]))))) :=
 (z7 EE _ _).trans (by kernel_rfl)
theorem z10p (a0 a1 a2 a3 a4:Int):z9f a0 a1 a2 a3 a4 =
  (bif (eqB a2 117) then (some (PV.int .i64 (IntKind.wrap .i64 ((IntKind.wrap .i64 ((IntKind.wrap .i64 ((IntKind.wrap .i64 ((IntKind.wrap .i64 (a0+10957))*86400))+a1))-0))-0)))) else (bif (eqB a2 115) then (some (PV.int .i64 (IntKind.wrap .i64 ((IntKind.wrap .i64 ((IntKind.wrap .i64 ((IntKind.wrap .i64 ((IntKind.wrap .i64 (a0+10957))*86400))+a1))-a3))-0)))) else (some (PV.int .i64 (IntKind.wrap .i64 ((IntKind.wrap .i64 ((IntKind.wrap .i64 ((IntKind.wrap .i64 ((IntKind.wrap .i64 (a0+10957))*86400))+a1))-a3))-a4)))))) :=
 (z6 EE zlp _ rfl).trans (by kernel_rfl)
theorem zho (a0_0 a0_1 a0_2:Int):z4o a0_0 a0_1 a0_2 =
  (bif (leB 0 a0_1) then (z5a (leB a0_1 6) a0_0 a0_1 a0_2) else (z5a false a0_0 a0_1 a0_2)) :=
 (z6 EE z26 _ rfl).trans (by kernel_rfl)
theorem z6y (x0:Bool) (x1 x2 x3:Int):z5a x0 x1 x2 x3 =
  (bif (leB 1 x3) then (z59 x0 (leB x3 31) x1 x2 x3) else (z59 x0 false x1 x2 x3)) :=
 (z7 EE _ _).trans (by kernel_rfl)
theorem zf1 (x0:Bool) (x1:Bool) (x2 x3 x4:Int):z59 x0 x1 x2 x3 x4 =
  (bif (eqB x2 0) then (bif x1 then (some (PV.bool (eqB x3 0))) else (some (PV.bool false))) else (bif (eqB x2 1) then (bif x0 then (some (PV.bool (eqB x4 0))) else (some (PV.bool false))) else (bif (eqB x2 2) then (bif x0 then (some (PV.bool x1)) else (some (PV.bool false))) else (bif (eqB x2 3) then (bif x0 then (some (PV.bool x1)) else (some (PV.bool false))) else (some (PV.bool false)))))) :=
 (z7 EE _ _).trans (by kernel_rfl)
theorem zhp (a0_0 a0_1:Int):z6z a0_0 a0_1 =
  (bif (leB 0 a0_0) then (bif (leB a0_0 86400) then (bif (eqB a0_1 119) then (some (PV.bool true)) else (bif (eqB a0_1 115) then (some (PV.bool true)) else (some (PV.bool (eqB a0_1 117))))) else (some (PV.bool false))) else (some (PV.bool false))) :=
 (z6 EE z9d _ rfl).trans (by kernel_rfl)
theorem zpa (a0 a1 a2_0 a2_1 a2_2:Int):zbi a0 a1 a2_0 a2_1 a2_2 =
  ((z4o a2_0 a2_1 a2_2).bind fun v1=>(bif (!(PV.toB v1)) then z54 else (bif (ltB a1 1) then z54 else (bif (ltB 12 a1) then z54 else (zdv a0 a1 a2_0 a2_1 a2_2))))) :=
 (z6 EE z12 _ rfl).trans (by kernel_rfl)
theorem ziz  : z54  =
  (some (PV.tuple [(PV.int .i64 0),(PV.int .i64 1)])) :=
 (z7 EE _ _).trans (by kernel_rfl)
theorem ziy (x0 x1 x2 x3 x4:Int):zdv x0 x1 x2 x3 x4 =
  (bif (leB x0 (-4718)) then z7u else (bif (leB 294282 x0) then z7u else (zdu x0 x1 x2 x3 x4))) :=
 (z7 EE _ _).trans (by kernel_rfl)
theorem zix  : z7u  =
  (some (PV.tuple [(PV.int .i64 0),(PV.int .i64 10)])) :=
 (z7 EE _ _).trans (by kernel_rfl)
theorem ziw (x0 x1 x2 x3 x4:Int):zdu x0 x1 x2 x3 x4 =
  ((zaf x0 x1 1).bind fun v1=>(bif (eqB x2 1) then ((z2z x0 x1).bind fun v2=>(z7t (IntKind.wrap .i64 ((IntKind.wrap .i64 ((PV.toI (PV.tnth v1 0))+(PV.toI v2)))-1)) x2 x3 x4)) else (z7t (IntKind.wrap .i64 ((IntKind.wrap .i64 ((PV.toI (PV.tnth v1 0))+x4))-1)) x2 x3 x4))) :=
 (z7 EE _ _).trans (by kernel_rfl)
theorem ziv (x0 x1 x2 x3:Int):z7t x0 x1 x2 x3 =
  (z29 x0 0 x1 x2 x3) :=
 (z7 EE _ _).trans (by kernel_rfl)
theorem z28 (x0 x1 x2 x3 x4:Int):z29 x0 x1 x2 x3 x4 =
  (bif (ltB x1 7) then (bif (ltB 0 x2) then ((z71 x0).bind fun v1=>(bif (!(eqB (PV.toI v1) x3)) then (zcw x0 x1 x2 x3 x4) else (some (PV.tuple [(PV.int .i64 x0),(PV.int .i64 0)])))) else (some (PV.tuple [(PV.int .i64 x0),(PV.int .i64 0)]))) else (some (PV.tuple [(PV.int .i64 x0),(PV.int .i64 0)]))) :=
 (z7 EE _ _).trans (by kernel_rfl)
theorem z9j (x0 x1 x2 x3 x4:Int):zcw x0 x1 x2 x3 x4 =
  (bif (eqB x2 2) then (z29 (IntKind.wrap .i64 (x0+1)) (IntKind.wrap .i64 (x1+1)) x2 x3 x4) else (z29 (IntKind.wrap .i64 (x0-1)) (IntKind.wrap .i64 (x1+1)) x2 x3 x4)) :=
 (z7 EE _ _).trans (by kernel_rfl)
theorem zhn (a0 a1 a2 a3 a4:Int):z6x a0 a1 a2 a3 a4 =
  (bif (eqB a2 117) then (some (PV.int .i64 (IntKind.wrap .i64 ((IntKind.wrap .i64 ((IntKind.wrap .i64 (a0+10957))*86400))+a1)))) else (bif (eqB a2 115) then (some (PV.int .i64 (IntKind.wrap .i64 ((IntKind.wrap .i64 ((IntKind.wrap .i64 ((IntKind.wrap .i64 (a0+10957))*86400))+a1))-a3)))) else (some (PV.int .i64 (IntKind.wrap .i64 ((IntKind.wrap .i64 ((IntKind.wrap .i64 ((IntKind.wrap .i64 ((IntKind.wrap .i64 (a0+10957))*86400))+a1))-a3))-a4)))))) :=
 (z6 EE z9c _ rfl).trans (by kernel_rfl)
theorem zgv (a0:List UInt8) (a1:Int):z6i a0 a1 =
  ((callW EE ([(tiInt IntKind.i64)]) (PV.func (Go.Fn.func z7k) [] []) [(PV.str a0),(PV.int .u8 a1)]).bind fun v1=>(some (PV.int .i64 (PV.toI v1)))) :=
 (z6 EE z9a _ rfl).trans (by kernel_rfl)
theorem z11j (a0_0 a0_1 a0_2:Int):zqp a0_0 a0_1 a0_2 =
  ((zfj a0_0 a0_1 a0_2).bind fun v1=>((PV.nilOf (TD.iface true) (PV.opq v1 0)).bind fun v2=>(bif v2 then (some (PV.tuple [(PV.str []),(PV.int .i64 1)])) else (bif (inB 0 a0_1 ((7:Nat):Int)) then ((rdC tiStr [(PV.str [83,117,110]),(PV.str [77,111,110]),(PV.str [84,117,101]),(PV.str [87,101,100]),(PV.str [84,104,117]),(PV.str [70,114,105]),(PV.str [83,97,116])] (Int.toNat a0_1)).bind fun v3=>((z2u a0_2).bind fun v4=>((z2g (PV.toS v4) [48]).bind fun v5=>(bif (eqB a0_0 1) then ((catS [108,97,115,116] (PV.toS v3)).bind fun v6=>(some (PV.tuple [(PV.str v6),(PV.int .i64 0)]))) else (bif (eqB a0_0 2) then ((catS (PV.toS v3) [62,61]).bind fun v7=>((catS v7 (PV.toS v5)).bind fun v8=>(some (PV.tuple [(PV.str v8),(PV.int .i64 0)])))) else (bif (eqB a0_0 3) then ((catS (PV.toS v3) [60,61]).bind fun v9=>((catS v9 (PV.toS v5)).bind fun v10=>(some (PV.tuple [(PV.str v10),(PV.int .i64 0)])))) else (some (PV.tuple [(PV.str (PV.toS v5)),(PV.int .i64 0)])))))))) else none)))) :=
 (z6 EE zq3 _ rfl).trans (by kernel_rfl)
theorem z11k (a0_0 a0_1:Int):zqq a0_0 a0_1 =
  ((zi8 a0_0 a0_1).bind fun v1=>(bif (!(PV.toB v1)) then (some (PV.tuple [(PV.str []),(PV.int .i64 1)])) else ((z2u (IntKind.wrap .i64 (Int.tdiv a0_0 3600))).bind fun v2=>((catS (PV.toS v2) [58]).bind fun v3=>((z2u (Int.tmod (IntKind.wrap .i64 (Int.tdiv a0_0 60)) 60)).bind fun v4=>((catS v3 (PV.toS v4)).bind fun v5=>((atS v5 0).bind fun v6=>(bif (eqB v6 48) then ((dropS v5 1).bind fun v7=>(zbt v7 a0_0 a0_1)) else (zbt v5 a0_0 a0_1))))))))) :=
 (z6 EE z86 _ rfl).trans (by kernel_rfl)
theorem zux (x0:List UInt8) (x1 x2:Int):zbt x0 x1 x2 =
  (bif (!(eqB (Int.tmod x1 60) 0)) then ((z2u (Int.tmod x1 60)).bind fun v1=>((catS [58] (PV.toS v1)).bind fun v2=>((catS x0 v2).bind fun v3=>(zbs v3 x1 x2)))) else (zbs x0 x1 x2)) :=
 (z7 EE _ _).trans (by kernel_rfl)
theorem zuw (x0:List UInt8) (x1 x2:Int):zbs x0 x1 x2 =
  (bif (!(eqB x2 119)) then ((catS x0 (encR (IntKind.wrap .i32 x2))).bind fun v1=>(some (PV.tuple [(PV.str v1),(PV.int .i64 0)]))) else (some (PV.tuple [(PV.str x0),(PV.int .i64 0)]))) :=
 (z7 EE _ _).trans (by kernel_rfl)
theorem zyp (a0_0 a0_1 a0_2:Int):zfj a0_0 a0_1 a0_2 =
  (bif (eqB a0_0 0) then (bif (eqB a0_1 0) then (zki a0_0 a0_1 a0_2) else (zei a0_0 a0_1 a0_2)) else (zei a0_0 a0_1 a0_2)) :=
 (z6 EE z3z _ rfl).trans (by kernel_rfl)
theorem zsk (x0 x1 x2:Int):zki x0 x1 x2 =
  ((zjb x2).bind fun v1=>(bif (!(PV.toB v1)) then (some PV.nili) else (some (PV.iface z9n (PV.int .i64 x2))))) :=
 (z7 EE _ _).trans (by kernel_rfl)
theorem zsj (x0 x1 x2:Int):zei x0 x1 x2 =
  (bif (eqB x0 1) then (bif (eqB x2 0) then (zkh x0 x1 x2) else (zeh x0 x1 x2)) else (zeh x0 x1 x2)) :=
 (z7 EE _ _).trans (by kernel_rfl)
theorem zsi (x0 x1 x2:Int):zkh x0 x1 x2 =
  ((zjc x1).bind fun v1=>(bif (!(PV.toB v1)) then (some PV.nili) else (some (PV.iface z9o (PV.int .i64 x1))))) :=
 (z7 EE _ _).trans (by kernel_rfl)
theorem zsh (x0 x1 x2:Int):zeh x0 x1 x2 =
  (bif (eqB x0 2) then ((z9m x1 x2 1).bind fun v1=>(bif (!(PV.toB v1)) then (some PV.nili) else (some (PV.iface z4h (PV.agg [(PV.int .i64 x1),(PV.int .i64 x2),(PV.int .i64 1)]))))) else (bif (eqB x0 3) then ((z9m x1 x2 (-1)).bind fun v2=>(bif (!(PV.toB v2)) then (some PV.nili) else (some (PV.iface z4h (PV.agg [(PV.int .i64 x1),(PV.int .i64 x2),(PV.int .i64 (-1))]))))) else (some PV.nili))) :=
 (z7 EE _ _).trans (by kernel_rfl)
theorem z16s (a0 a1 a2:Int):zbo a0 a1 a2 =
  ((zs2 a0 a1 a2).bind fun v1=>(bif (!(PV.toB v1)) then (some (PV.tuple [(PV.int .i64 0),(PV.int .i64 10)])) else ((zm8 a0 a1 a2).bind fun v2=>(some (PV.tuple [(PV.int .i64 (PV.toI v2)),(PV.int .i64 0)]))))) :=
 (z6 EE ztz _ rfl).trans (by kernel_rfl)
theorem z12n (a0 a1 a2:Int):zqm a0 a1 a2 =
  (zgq a0 a1 a2) :=
 (z6 EE zop _ rfl).trans (by kernel_rfl)
theorem ze3 (x0 x1 x2:Int):zgq x0 x1 x2 =
  ((zj6 x0).bind fun v1=>(bif (!(eqB (PV.toI v1) x1)) then (zgq (IntKind.wrap .i64 (x0+x2)) x1 x2) else (some (PV.int .i64 x0)))) :=
 (z7 EE _ _).trans (by kernel_rfl)
theorem zx5 (a0 a1:Int):zhy a0 a1 =
  (bif (ltB a1 1) then zma else (bif (ltB 12 a1) then zma else (zx6 a0 a1 [(PV.int .i64 0),(PV.int .i64 31),(PV.int .i64 28),(PV.int .i64 31),(PV.int .i64 30),(PV.int .i64 31),(PV.int .i64 30),(PV.int .i64 31),(PV.int .i64 31),(PV.int .i64 30),(PV.int .i64 31),(PV.int .i64 30),(PV.int .i64 31)] 13))) :=
 (z6 EE zcr _ rfl).trans (by kernel_rfl)
theorem zm9  : zma  =
  (some (PV.int .i64 0)) :=
 (z7 EE _ _).trans (by kernel_rfl)
theorem z112 (x0 x1:Int) (x2:List PV) (x3:Nat):zx6 x0 x1 x2 x3 =
  (bif (eqB x1 2) then ((zvr x0).bind fun v1=>(bif (PV.toB v1) then (some (PV.int .i64 29)) else (bif (inB 0 x1 ((13:Nat):Int)) then ((rdT (tiInt IntKind.i64) x2 (Int.toNat x1) 0).bind fun v2=>(some (PV.int .i64 (PV.toI v2)))) else none))) else (bif (inB 0 x1 ((13:Nat):Int)) then ((rdT (tiInt IntKind.i64) x2 (Int.toNat x1) 0).bind fun v3=>(some (PV.int .i64 (PV.toI v3)))) else none)) :=
 (z7 EE _ _).trans (by kernel_rfl)
theorem zly (a0 a1 a2:Int):zaf a0 a1 a2 =
  ((z8y a0 a1 a2).bind fun v1=>(bif (!(PV.toB v1)) then (some (PV.tuple [(PV.int .i64 0),(PV.int .i64 10)])) else ((z5c a0 a1 a2).bind fun v2=>(some (PV.tuple [(PV.int .i64 (PV.toI v2)),(PV.int .i64 0)]))))) :=
 (z6 EE zcn _ rfl).trans (by kernel_rfl)
theorem zhq (a0:Int):z71 a0 =
  ((z1w a0 7).bind fun v1=>((z1w (IntKind.wrap .i64 ((PV.toI v1)+6)) 7).bind fun v2=>(some (PV.int .i64 (PV.toI v2))))) :=
 (z6 EE z9e _ rfl).trans (by kernel_rfl)
theorem zxb (a0_0 a0_1:Int):zi8 a0_0 a0_1 =
  (bif (leB 0 a0_0) then (bif (leB a0_0 86400) then (bif (eqB a0_1 119) then (some (PV.bool true)) else (bif (eqB a0_1 115) then (some (PV.bool true)) else (some (PV.bool (eqB a0_1 117))))) else (some (PV.bool false))) else (some (PV.bool false))) :=
 (z6 EE zjj _ rfl).trans (by kernel_rfl)
theorem z12j (a0 a1 a2:Int):zs2 a0 a1 a2 =
  (bif (leB (-4718) a0) then (bif (leB a0 294282) then (bif (leB 1 a2) then ((zhy a0 a1).bind fun v1=>(some (PV.bool (leB a2 (PV.toI v1))))) else (some (PV.bool false))) else (some (PV.bool false))) else (some (PV.bool false))) :=
 (z6 EE zqi _ rfl).trans (by kernel_rfl)
theorem zxq (a0:Int):zj6 a0 =
  ((zf7 a0 7).bind fun v1=>(some (PV.int .i64 (Int.tmod (IntKind.wrap .i64 ((PV.toI (PV.tnth v1 1))+6)) 7)))) :=
 (z6 EE zjn _ rfl).trans (by kernel_rfl)
theorem z16r (a0:Int):zvr a0 =
  (bif (eqB (Int.tmod a0 4) 0) then (bif (!(eqB (Int.tmod a0 100) 0)) then (some (PV.bool true)) else (some (PV.bool (eqB (Int.tmod a0 400) 0)))) else (some (PV.bool false))) :=
 (z6 EE ztx _ rfl).trans (by kernel_rfl)
theorem zk8 (a0 a1 a2:Int):z8y a0 a1 a2 =
  (bif (leB (-4718) a0) then (bif (leB a0 294282) then (bif (leB 1 a1) then (bif (leB a1 12) then (bif (leB 1 a2) then ((z2z a0 a1).bind fun v1=>(some (PV.bool (leB a2 (PV.toI v1))))) else (some (PV.bool false))) else (some (PV.bool false))) else (some (PV.bool false))) else (some (PV.bool false))) else (some (PV.bool false))) :=
 (z6 EE zav _ rfl).trans (by kernel_rfl)
theorem zqn (a0:Int):zjb a0 =
  ((zxw a0).bind fun v1=>(some (PV.bool (PV.toB v1)))) :=
 (z6 EE zet _ rfl).trans (by kernel_rfl)
theorem z1ap (a0:Int):zxw a0 =
  (bif (leB 1 a0) then (some (PV.bool (leB a0 31))) else (some (PV.bool false))) :=
 (z6 EE z10d _ rfl).trans (by kernel_rfl)
theorem zqo (a0:Int):zjc a0 =
  ((zfi a0).bind fun v1=>(some (PV.bool (PV.toB v1)))) :=
 (z6 EE zeu _ rfl).trans (by kernel_rfl)
theorem zyo (a0:Int):zfi a0 =
  (bif (leB 0 a0) then (some (PV.bool (leB a0 6))) else (some (PV.bool false))) :=
 (z6 EE zlm _ rfl).trans (by kernel_rfl)
theorem zsg (a0_0 a0_1 a0_2:Int):z9m a0_0 a0_1 a0_2 =
  ((zfi a0_0).bind fun v1=>(bif (PV.toB v1) then ((zxw a0_1).bind fun v2=>(some (PV.bool (PV.toB v2)))) else (some (PV.bool false)))) :=
 (z6 EE zg1 _ rfl).trans (by kernel_rfl)
end Dv
