/- The seat's functions, as equations. -/
import Derived.Test.YtdniadhpgohccaaGreatDoorVL1
import Derived.Test.YtdniadhpgohccaaGreatDoorProg
set_option linter.unusedVariables false
set_option linter.unusedSimpArgs false
namespace Dv
open Go Go.Proofs
def tt:List TI:=[
 ⟨.tuple [],1,0,.undef,[.other]⟩,
 ⟨.func,1,8,.nilfn,[.other]⟩,
 ⟨.int .i64,1,8,(.int .i64 0),[.int .i64]⟩,
 ⟨.int .i64,1,8,(.int .i64 0),[.int .i64]⟩,
 ⟨.bool,1,1,(.bool false),[.bool]⟩,
 ⟨.int .u8,1,1,(.int .u8 0),[.int .u8]⟩,
 ⟨.int .u8,1,1,(.int .u8 0),[.int .u8]⟩,
 ⟨.struct [(0,2),(1,3),(2,4),(3,6)],4,24,(.agg [(.int .i64 0),(.int .i64 0),(.bool false),(.int .u8 0)]),[.int .i64,.int .i64,.bool,.int .u8]⟩,
 ⟨.struct [(0,2),(1,3),(2,4),(3,6)],4,24,(.agg [(.int .i64 0),(.int .i64 0),(.bool false),(.int .u8 0)]),[.int .i64,.int .i64,.bool,.int .u8]⟩,
 ⟨.str,1,16,(.str []),[.str]⟩,
 ⟨.str,1,16,(.str []),[.str]⟩,
 ⟨.str,1,16,(.str []),[.str]⟩,
 ⟨.int .u64,1,8,(.int .u64 0),[.int .u64]⟩,
 ⟨.struct [(0,9),(1,12)],2,24,(.agg [(.str []),(.int .u64 0)]),[.str,.int .u64]⟩,
 ⟨.struct [(0,9),(1,12)],2,24,(.agg [(.str []),(.int .u64 0)]),[.str,.int .u64]⟩,
 ⟨.ptr 247,1,8,.nilp,[.other]⟩,
 ⟨.ptr 250,1,8,.nilp,[.other]⟩,
 ⟨.ptr 257,1,8,.nilp,[.other]⟩,
 ⟨.struct [(0,17)],1,8,(.agg [.nilp]),[.other]⟩,
 ⟨.struct [(0,17)],1,8,(.agg [.nilp]),[.other]⟩,
 ⟨.iface false,1,16,.nili,[.other]⟩,
 ⟨.int .i32,1,4,(.int .i32 0),[.int .i32]⟩,
 ⟨.func,1,8,.nilfn,[.other]⟩,
 ⟨.struct [(0,3),(1,2),(2,2),(3,2)],4,32,(.agg [(.int .i64 0),(.int .i64 0),(.int .i64 0),(.int .i64 0)]),[.int .i64,.int .i64,.int .i64,.int .i64]⟩,
 ⟨.struct [(0,3),(1,2),(2,2),(3,2)],4,32,(.agg [(.int .i64 0),(.int .i64 0),(.int .i64 0),(.int .i64 0)]),[.int .i64,.int .i64,.int .i64,.int .i64]⟩,
 ⟨.int .i64,1,8,(.int .i64 0),[.int .i64]⟩,
 ⟨.tuple [24,25],1,0,.undef,[.other]⟩,
 ⟨.func,1,8,.nilfn,[.other]⟩,
 ⟨.func,1,8,.nilfn,[.other]⟩,
 ⟨.func,1,8,.nilfn,[.other]⟩,
 ⟨.struct [(0,3),(1,3),(2,3)],3,24,(.agg [(.int .i64 0),(.int .i64 0),(.int .i64 0)]),[.int .i64,.int .i64,.int .i64]⟩,
 ⟨.struct [(0,3),(1,3),(2,3)],3,24,(.agg [(.int .i64 0),(.int .i64 0),(.int .i64 0)]),[.int .i64,.int .i64,.int .i64]⟩,
 ⟨.struct [(0,3),(1,2)],2,16,(.agg [(.int .i64 0),(.int .i64 0)]),[.int .i64,.int .i64]⟩,
 ⟨.struct [(0,3),(1,2)],2,16,(.agg [(.int .i64 0),(.int .i64 0)]),[.int .i64,.int .i64]⟩,
 ⟨.tuple [33,25],1,0,.undef,[.other]⟩,
 ⟨.func,1,8,.nilfn,[.other]⟩,
 ⟨.struct [(0,3),(1,2)],2,16,(.agg [(.int .i64 0),(.int .i64 0)]),[.int .i64,.int .i64]⟩,
 ⟨.struct [(0,3),(1,2)],2,16,(.agg [(.int .i64 0),(.int .i64 0)]),[.int .i64,.int .i64]⟩,
 ⟨.tuple [37,25],1,0,.undef,[.other]⟩,
 ⟨.func,1,8,.nilfn,[.other]⟩,
 ⟨.func,1,8,.nilfn,[.other]⟩,
 ⟨.func,1,8,.nilfn,[.other]⟩,
 ⟨.tuple [9,25],1,0,.undef,[.other]⟩,
 ⟨.func,1,8,.nilfn,[.other]⟩,
 ⟨.func,1,8,.nilfn,[.other]⟩,
 ⟨.func,1,8,.nilfn,[.other]⟩,
 ⟨.func,1,8,.nilfn,[.other]⟩,
 ⟨.func,1,8,.nilfn,[.other]⟩,
 ⟨.slice 5,1,24,.sl0,[.slice 1]⟩,
 ⟨.slice 9,1,24,.sl0,[.slice 1]⟩,
 ⟨.slice 9,1,24,.sl0,[.slice 1]⟩,
 ⟨.func,1,8,.nilfn,[.other]⟩,
 ⟨.tuple [33,4],1,0,.undef,[.other]⟩,
 ⟨.func,1,8,.nilfn,[.other]⟩,
 ⟨.func,1,8,.nilfn,[.other]⟩,
 ⟨.ptr 94,1,8,.nilp,[.other]⟩,
 ⟨.func,1,8,.nilfn,[.other]⟩,
 ⟨.func,1,8,.nilfn,[.other]⟩,
 ⟨.func,1,8,.nilfn,[.other]⟩,
 ⟨.func,1,8,.nilfn,[.other]⟩,
 ⟨.func,1,8,.nilfn,[.other]⟩,
 ⟨.func,1,8,.nilfn,[.other]⟩,
 ⟨.func,1,8,.nilfn,[.other]⟩,
 ⟨.ptr 50,1,8,.nilp,[.other]⟩,
 ⟨.struct [(0,2),(1,2),(2,2)],3,24,(.agg [(.int .i64 0),(.int .i64 0),(.int .i64 0)]),[.int .i64,.int .i64,.int .i64]⟩,
 ⟨.struct [(0,2),(1,2),(2,2)],3,24,(.agg [(.int .i64 0),(.int .i64 0),(.int .i64 0)]),[.int .i64,.int .i64,.int .i64]⟩,
 ⟨.tuple [65,4],1,0,.undef,[.other]⟩,
 ⟨.func,1,8,.nilfn,[.other]⟩,
 ⟨.func,1,8,.nilfn,[.other]⟩,
 ⟨.func,1,8,.nilfn,[.other]⟩,
 ⟨.tuple [49,4],1,0,.undef,[.other]⟩,
 ⟨.func,1,8,.nilfn,[.other]⟩,
 ⟨.tuple [2,2,2,49,4],1,0,.undef,[.other]⟩,
 ⟨.func,1,8,.nilfn,[.other]⟩,
 ⟨.tuple [37,4],1,0,.undef,[.other]⟩,
 ⟨.func,1,8,.nilfn,[.other]⟩,
 ⟨.tuple [37,9,25],1,0,.undef,[.other]⟩,
 ⟨.func,1,8,.nilfn,[.other]⟩,
 ⟨.func,1,8,.nilfn,[.other]⟩,
 ⟨.func,1,8,.nilfn,[.other]⟩,
 ⟨.func,1,8,.nilfn,[.other]⟩,
 ⟨.func,1,8,.nilfn,[.other]⟩,
 ⟨.func,1,8,.nilfn,[.other]⟩,
 ⟨.func,1,8,.nilfn,[.other]⟩,
 ⟨.tuple [9,9],1,0,.undef,[.other]⟩,
 ⟨.func,1,8,.nilfn,[.other]⟩,
 ⟨.func,1,8,.nilfn,[.other]⟩,
 ⟨.func,1,8,.nilfn,[.other]⟩,
 ⟨.func,1,8,.nilfn,[.other]⟩,
 ⟨.func,1,8,.nilfn,[.other]⟩,
 ⟨.func,1,8,.nilfn,[.other]⟩,
 ⟨.struct [],0,0,(.agg []),[]⟩,
 ⟨.struct [],0,0,(.agg []),[]⟩,
 ⟨.struct [(0,24),(4,4)],5,40,(.agg [(.int .i64 0),(.int .i64 0),(.int .i64 0),(.int .i64 0),(.bool false)]),[.int .i64,.int .i64,.int .i64,.int .i64,.bool]⟩,
 ⟨.struct [(0,24),(4,4)],5,40,(.agg [(.int .i64 0),(.int .i64 0),(.int .i64 0),(.int .i64 0),(.bool false)]),[.int .i64,.int .i64,.int .i64,.int .i64,.bool]⟩,
 ⟨.func,1,8,.nilfn,[.other]⟩,
 ⟨.tuple [9,9,4],1,0,.undef,[.other]⟩,
 ⟨.func,1,8,.nilfn,[.other]⟩,
 ⟨.func,1,8,.nilfn,[.other]⟩,
 ⟨.func,1,8,.nilfn,[.other]⟩,
 ⟨.func,1,8,.nilfn,[.other]⟩,
 ⟨.func,1,8,.nilfn,[.other]⟩,
 ⟨.ptr 2,1,8,.nilp,[.other]⟩,
 ⟨.func,1,8,.nilfn,[.other]⟩,
 ⟨.func,1,8,.nilfn,[.other]⟩,
 ⟨.func,1,8,.nilfn,[.other]⟩,
 ⟨.arr 8 4,8,8,(.agg [(.bool false),(.bool false),(.bool false),(.bool false),(.bool false),(.bool false),(.bool false),(.bool false)]),[.bool,.bool,.bool,.bool,.bool,.bool,.bool,.bool]⟩,
 ⟨.tuple [9,4],1,0,.undef,[.other]⟩,
 ⟨.func,1,8,.nilfn,[.other]⟩,
 ⟨.tuple [24,3],1,0,.undef,[.other]⟩,
 ⟨.func,1,8,.nilfn,[.other]⟩,
 ⟨.func,1,8,.nilfn,[.other]⟩,
 ⟨.tuple [2,25],1,0,.undef,[.other]⟩,
 ⟨.func,1,8,.nilfn,[.other]⟩,
 ⟨.func,1,8,.nilfn,[.other]⟩,
 ⟨.iface true,1,16,.nili,[.other]⟩,
 ⟨.iface true,1,16,.nili,[.other]⟩,
 ⟨.func,1,8,.nilfn,[.other]⟩,
 ⟨.slice 9,1,24,.sl0,[.slice 1]⟩,
 ⟨.func,1,8,.nilfn,[.other]⟩,
 ⟨.func,1,8,.nilfn,[.other]⟩,
 ⟨.func,1,8,.nilfn,[.other]⟩,
 ⟨.func,1,8,.nilfn,[.other]⟩,
 ⟨.struct [(0,2),(1,2),(2,2),(3,4)],4,32,(.agg [(.int .i64 0),(.int .i64 0),(.int .i64 0),(.bool false)]),[.int .i64,.int .i64,.int .i64,.bool]⟩,
 ⟨.struct [(0,2),(1,2),(2,2),(3,4)],4,32,(.agg [(.int .i64 0),(.int .i64 0),(.int .i64 0),(.bool false)]),[.int .i64,.int .i64,.int .i64,.bool]⟩,
 ⟨.func,1,8,.nilfn,[.other]⟩,
 ⟨.func,1,8,.nilfn,[.other]⟩,
 ⟨.func,1,8,.nilfn,[.other]⟩,
 ⟨.func,1,8,.nilfn,[.other]⟩,
 ⟨.func,1,8,.nilfn,[.other]⟩,
 ⟨.func,1,8,.nilfn,[.other]⟩,
 ⟨.func,1,8,.nilfn,[.other]⟩,
 ⟨.func,1,8,.nilfn,[.other]⟩,
 ⟨.func,1,8,.nilfn,[.other]⟩,
 ⟨.func,1,8,.nilfn,[.other]⟩,
 ⟨.tuple [9,2],1,0,.undef,[.other]⟩,
 ⟨.func,1,8,.nilfn,[.other]⟩,
 ⟨.func,1,8,.nilfn,[.other]⟩,
 ⟨.func,1,8,.nilfn,[.other]⟩,
 ⟨.func,1,8,.nilfn,[.other]⟩,
 ⟨.tuple [2,2,2,25],1,0,.undef,[.other]⟩,
 ⟨.func,1,8,.nilfn,[.other]⟩,
 ⟨.func,1,8,.nilfn,[.other]⟩,
 ⟨.tuple [2,2],1,0,.undef,[.other]⟩,
 ⟨.func,1,8,.nilfn,[.other]⟩,
 ⟨.tuple [33,2,25],1,0,.undef,[.other]⟩,
 ⟨.func,1,8,.nilfn,[.other]⟩,
 ⟨.func,1,8,.nilfn,[.other]⟩,
 ⟨.slice 150,1,24,.sl0,[.slice 2]⟩,
 ⟨.struct [(0,3),(1,3)],2,16,(.agg [(.int .i64 0),(.int .i64 0)]),[.int .i64,.int .i64]⟩,
 ⟨.struct [(0,3),(1,3)],2,16,(.agg [(.int .i64 0),(.int .i64 0)]),[.int .i64,.int .i64]⟩,
 ⟨.func,1,8,.nilfn,[.other]⟩,
 ⟨.func,1,8,.nilfn,[.other]⟩,
 ⟨.func,1,8,.nilfn,[.other]⟩,
 ⟨.func,1,8,.nilfn,[.other]⟩,
 ⟨.func,1,8,.nilfn,[.other]⟩,
 ⟨.func,1,8,.nilfn,[.other]⟩,
 ⟨.func,1,8,.nilfn,[.other]⟩,
 ⟨.str,1,16,(.str []),[.str]⟩,
 ⟨.struct [(0,49),(1,3)],2,32,(.agg [.sl0,(.int .i64 0)]),[.slice 1,.int .i64]⟩,
 ⟨.struct [(0,49),(1,3)],2,32,(.agg [.sl0,(.int .i64 0)]),[.slice 1,.int .i64]⟩,
 ⟨.arr 13 2,13,104,(.agg [(.int .i64 0),(.int .i64 0),(.int .i64 0),(.int .i64 0),(.int .i64 0),(.int .i64 0),(.int .i64 0),(.int .i64 0),(.int .i64 0),(.int .i64 0),(.int .i64 0),(.int .i64 0),(.int .i64 0)]),[.int .i64,.int .i64,.int .i64,.int .i64,.int .i64,.int .i64,.int .i64,.int .i64,.int .i64,.int .i64,.int .i64,.int .i64,.int .i64]⟩,
 ⟨.func,1,8,.nilfn,[.other]⟩,
 ⟨.func,1,8,.nilfn,[.other]⟩,
 ⟨.func,1,8,.nilfn,[.other]⟩,
 ⟨.func,1,8,.nilfn,[.other]⟩,
 ⟨.func,1,8,.nilfn,[.other]⟩,
 ⟨.slice 171,1,24,.sl0,[.slice 2]⟩,
 ⟨.tuple [167,9,4],1,0,.undef,[.other]⟩,
 ⟨.func,1,8,.nilfn,[.other]⟩,
 ⟨.struct [(0,2),(1,3)],2,16,(.agg [(.int .i64 0),(.int .i64 0)]),[.int .i64,.int .i64]⟩,
 ⟨.struct [(0,2),(1,3)],2,16,(.agg [(.int .i64 0),(.int .i64 0)]),[.int .i64,.int .i64]⟩,
 ⟨.func,1,8,.nilfn,[.other]⟩,
 ⟨.ptr 175,1,8,.nilp,[.other]⟩,
 ⟨.struct [(0,9),(1,4)],2,24,(.agg [(.str []),(.bool false)]),[.str,.bool]⟩,
 ⟨.struct [(0,9),(1,4)],2,24,(.agg [(.str []),(.bool false)]),[.str,.bool]⟩,
 ⟨.func,1,8,.nilfn,[.other]⟩,
 ⟨.func,1,8,.nilfn,[.other]⟩,
 ⟨.int .u64,1,8,(.int .u64 0),[.int .u64]⟩,
 ⟨.func,1,8,.nilfn,[.other]⟩,
 ⟨.int .u64,1,8,(.int .u64 0),[.int .u64]⟩,
 ⟨.tuple [180,180],1,0,.undef,[.other]⟩,
 ⟨.func,1,8,.nilfn,[.other]⟩,
 ⟨.ptr 185,1,8,.nilp,[.other]⟩,
 ⟨.struct [(0,183),(1,48)],2,32,(.agg [.nilp,.sl0]),[.other,.slice 1]⟩,
 ⟨.struct [(0,183),(1,48)],2,32,(.agg [.nilp,.sl0]),[.other,.slice 1]⟩,
 ⟨.func,1,8,.nilfn,[.other]⟩,
 ⟨.iface true,1,16,.nili,[.other]⟩,
 ⟨.iface true,1,16,.nili,[.other]⟩,
 ⟨.tuple [3,188],1,0,.undef,[.other]⟩,
 ⟨.func,1,8,.nilfn,[.other]⟩,
 ⟨.func,1,8,.nilfn,[.other]⟩,
 ⟨.func,1,8,.nilfn,[.other]⟩,
 ⟨.func,1,8,.nilfn,[.other]⟩,
 ⟨.func,1,8,.nilfn,[.other]⟩,
 ⟨.func,1,8,.nilfn,[.other]⟩,
 ⟨.func,1,8,.nilfn,[.other]⟩,
 ⟨.arr 2 178,2,16,(.agg [(.int .u64 0),(.int .u64 0)]),[.int .u64,.int .u64]⟩,
 ⟨.func,1,8,.nilfn,[.other]⟩,
 ⟨.func,1,8,.nilfn,[.other]⟩,
 ⟨.func,1,8,.nilfn,[.other]⟩,
 ⟨.func,1,8,.nilfn,[.other]⟩,
 ⟨.slice 50,1,24,.sl0,[.slice 1]⟩,
 ⟨.func,1,8,.nilfn,[.other]⟩,
 ⟨.func,1,8,.nilfn,[.other]⟩,
 ⟨.func,1,8,.nilfn,[.other]⟩,
 ⟨.arr 256 4,256,256,(.agg [(.bool false),(.bool false),(.bool false),(.bool false),(.bool false),(.bool false),(.bool false),(.bool false),(.bool false),(.bool false),(.bool false),(.bool false),(.bool false),(.bool false),(.bool false),(.bool false),(.bool false),(.bool false),(.bool false),(.bool false),(.bool false),(.bool false),(.bool false),(.bool false),(.bool false),(.bool false),(.bool false),(.bool false),(.bool false),(.bool false),(.bool false),(.bool false),(.bool false),(.bool false),(.bool false),(.bool false),(.bool false),(.bool false),(.bool false),(.bool false),(.bool false),(.bool false),(.bool false),(.bool false),(.bool false),(.bool false),(.bool false),(.bool false),(.bool false),(.bool false),(.bool false),(.bool false),(.bool false),(.bool false),(.bool false),(.bool false),(.bool false),(.bool false),(.bool false),(.bool false),(.bool false),(.bool false),(.bool false),(.bool false),(.bool false),(.bool false),(.bool false),(.bool false),(.bool false),(.bool false),(.bool false),(.bool false),(.bool false),(.bool false),(.bool false),(.bool false),(.bool false),(.bool false),(.bool false),(.bool false),(.bool false),(.bool false),(.bool false),(.bool false),(.bool false),(.bool false),(.bool false),(.bool false),(.bool false),(.bool false),(.bool false),(.bool false),(.bool false),(.bool false),(.bool false),(.bool false),(.bool false),(.bool false),(.bool false),(.bool false),(.bool false),(.bool false),(.bool false),(.bool false),(.bool false),(.bool false),(.bool false),(.bool false),(.bool false),(.bool false),(.bool false),(.bool false),(.bool false),(.bool false),(.bool false),(.bool false),(.bool false),(.bool false),(.bool false),(.bool false),(.bool false),(.bool false),(.bool false),(.bool false),(.bool false),(.bool false),(.bool false),(.bool false),(.bool false),(.bool false),(.bool false),(.bool false),(.bool false),(.bool false),(.bool false),(.bool false),(.bool false),(.bool false),(.bool false),(.bool false),(.bool false),(.bool false),(.bool false),(.bool false),(.bool false),(.bool false),(.bool false),(.bool false),(.bool false),(.bool false),(.bool false),(.bool false),(.bool false),(.bool false),(.bool false),(.bool false),(.bool false),(.bool false),(.bool false),(.bool false),(.bool false),(.bool false),(.bool false),(.bool false),(.bool false),(.bool false),(.bool false),(.bool false),(.bool false),(.bool false),(.bool false),(.bool false),(.bool false),(.bool false),(.bool false),(.bool false),(.bool false),(.bool false),(.bool false),(.bool false),(.bool false),(.bool false),(.bool false),(.bool false),(.bool false),(.bool false),(.bool false),(.bool false),(.bool false),(.bool false),(.bool false),(.bool false),(.bool false),(.bool false),(.bool false),(.bool false),(.bool false),(.bool false),(.bool false),(.bool false),(.bool false),(.bool false),(.bool false),(.bool false),(.bool false),(.bool false),(.bool false),(.bool false),(.bool false),(.bool false),(.bool false),(.bool false),(.bool false),(.bool false),(.bool false),(.bool false),(.bool false),(.bool false),(.bool false),(.bool false),(.bool false),(.bool false),(.bool false),(.bool false),(.bool false),(.bool false),(.bool false),(.bool false),(.bool false),(.bool false),(.bool false),(.bool false),(.bool false),(.bool false),(.bool false),(.bool false),(.bool false),(.bool false),(.bool false),(.bool false),(.bool false),(.bool false),(.bool false),(.bool false),(.bool false),(.bool false),(.bool false),(.bool false),(.bool false),(.bool false),(.bool false),(.bool false),(.bool false),(.bool false),(.bool false),(.bool false)]),[.bool,.bool,.bool,.bool,.bool,.bool,.bool,.bool,.bool,.bool,.bool,.bool,.bool,.bool,.bool,.bool,.bool,.bool,.bool,.bool,.bool,.bool,.bool,.bool,.bool,.bool,.bool,.bool,.bool,.bool,.bool,.bool,.bool,.bool,.bool,.bool,.bool,.bool,.bool,.bool,.bool,.bool,.bool,.bool,.bool,.bool,.bool,.bool,.bool,.bool,.bool,.bool,.bool,.bool,.bool,.bool,.bool,.bool,.bool,.bool,.bool,.bool,.bool,.bool,.bool,.bool,.bool,.bool,.bool,.bool,.bool,.bool,.bool,.bool,.bool,.bool,.bool,.bool,.bool,.bool,.bool,.bool,.bool,.bool,.bool,.bool,.bool,.bool,.bool,.bool,.bool,.bool,.bool,.bool,.bool,.bool,.bool,.bool,.bool,.bool,.bool,.bool,.bool,.bool,.bool,.bool,.bool,.bool,.bool,.bool,.bool,.bool,.bool,.bool,.bool,.bool,.bool,.bool,.bool,.bool,.bool,.bool,.bool,.bool,.bool,.bool,.bool,.bool,.bool,.bool,.bool,.bool,.bool,.bool,.bool,.bool,.bool,.bool,.bool,.bool,.bool,.bool,.bool,.bool,.bool,.bool,.bool,.bool,.bool,.bool,.bool,.bool,.bool,.bool,.bool,.bool,.bool,.bool,.bool,.bool,.bool,.bool,.bool,.bool,.bool,.bool,.bool,.bool,.bool,.bool,.bool,.bool,.bool,.bool,.bool,.bool,.bool,.bool,.bool,.bool,.bool,.bool,.bool,.bool,.bool,.bool,.bool,.bool,.bool,.bool,.bool,.bool,.bool,.bool,.bool,.bool,.bool,.bool,.bool,.bool,.bool,.bool,.bool,.bool,.bool,.bool,.bool,.bool,.bool,.bool,.bool,.bool,.bool,.bool,.bool,.bool,.bool,.bool,.bool,.bool,.bool,.bool,.bool,.bool,.bool,.bool,.bool,.bool,.bool,.bool,.bool,.bool,.bool,.bool,.bool,.bool,.bool,.bool,.bool,.bool,.bool,.bool,.bool,.bool,.bool,.bool,.bool,.bool,.bool,.bool,.bool,.bool,.bool,.bool,.bool,.bool]⟩,
 ⟨.arr 256 4,256,256,(.agg [(.bool false),(.bool false),(.bool false),(.bool false),(.bool false),(.bool false),(.bool false),(.bool false),(.bool false),(.bool false),(.bool false),(.bool false),(.bool false),(.bool false),(.bool false),(.bool false),(.bool false),(.bool false),(.bool false),(.bool false),(.bool false),(.bool false),(.bool false),(.bool false),(.bool false),(.bool false),(.bool false),(.bool false),(.bool false),(.bool false),(.bool false),(.bool false),(.bool false),(.bool false),(.bool false),(.bool false),(.bool false),(.bool false),(.bool false),(.bool false),(.bool false),(.bool false),(.bool false),(.bool false),(.bool false),(.bool false),(.bool false),(.bool false),(.bool false),(.bool false),(.bool false),(.bool false),(.bool false),(.bool false),(.bool false),(.bool false),(.bool false),(.bool false),(.bool false),(.bool false),(.bool false),(.bool false),(.bool false),(.bool false),(.bool false),(.bool false),(.bool false),(.bool false),(.bool false),(.bool false),(.bool false),(.bool false),(.bool false),(.bool false),(.bool false),(.bool false),(.bool false),(.bool false),(.bool false),(.bool false),(.bool false),(.bool false),(.bool false),(.bool false),(.bool false),(.bool false),(.bool false),(.bool false),(.bool false),(.bool false),(.bool false),(.bool false),(.bool false),(.bool false),(.bool false),(.bool false),(.bool false),(.bool false),(.bool false),(.bool false),(.bool false),(.bool false),(.bool false),(.bool false),(.bool false),(.bool false),(.bool false),(.bool false),(.bool false),(.bool false),(.bool false),(.bool false),(.bool false),(.bool false),(.bool false),(.bool false),(.bool false),(.bool false),(.bool false),(.bool false),(.bool false),(.bool false),(.bool false),(.bool false),(.bool false),(.bool false),(.bool false),(.bool false),(.bool false),(.bool false),(.bool false),(.bool false),(.bool false),(.bool false),(.bool false),(.bool false),(.bool false),(.bool false),(.bool false),(.bool false),(.bool false),(.bool false),(.bool false),(.bool false),(.bool false),(.bool false),(.bool false),(.bool false),(.bool false),(.bool false),(.bool false),(.bool false),(.bool false),(.bool false),(.bool false),(.bool false),(.bool false),(.bool false),(.bool false),(.bool false),(.bool false),(.bool false),(.bool false),(.bool false),(.bool false),(.bool false),(.bool false),(.bool false),(.bool false),(.bool false),(.bool false),(.bool false),(.bool false),(.bool false),(.bool false),(.bool false),(.bool false),(.bool false),(.bool false),(.bool false),(.bool false),(.bool false),(.bool false),(.bool false),(.bool false),(.bool false),(.bool false),(.bool false),(.bool false),(.bool false),(.bool false),(.bool false),(.bool false),(.bool false),(.bool false),(.bool false),(.bool false),(.bool false),(.bool false),(.bool false),(.bool false),(.bool false),(.bool false),(.bool false),(.bool false),(.bool false),(.bool false),(.bool false),(.bool false),(.bool false),(.bool false),(.bool false),(.bool false),(.bool false),(.bool false),(.bool false),(.bool false),(.bool false),(.bool false),(.bool false),(.bool false),(.bool false),(.bool false),(.bool false),(.bool false),(.bool false),(.bool false),(.bool false),(.bool false),(.bool false),(.bool false),(.bool false),(.bool false),(.bool false),(.bool false),(.bool false),(.bool false),(.bool false),(.bool false),(.bool false),(.bool false),(.bool false),(.bool false),(.bool false),(.bool false),(.bool false),(.bool false),(.bool false),(.bool false),(.bool false),(.bool false),(.bool false),(.bool false),(.bool false),(.bool false),(.bool false)]),[.bool,.bool,.bool,.bool,.bool,.bool,.bool,.bool,.bool,.bool,.bool,.bool,.bool,.bool,.bool,.bool,.bool,.bool,.bool,.bool,.bool,.bool,.bool,.bool,.bool,.bool,.bool,.bool,.bool,.bool,.bool,.bool,.bool,.bool,.bool,.bool,.bool,.bool,.bool,.bool,.bool,.bool,.bool,.bool,.bool,.bool,.bool,.bool,.bool,.bool,.bool,.bool,.bool,.bool,.bool,.bool,.bool,.bool,.bool,.bool,.bool,.bool,.bool,.bool,.bool,.bool,.bool,.bool,.bool,.bool,.bool,.bool,.bool,.bool,.bool,.bool,.bool,.bool,.bool,.bool,.bool,.bool,.bool,.bool,.bool,.bool,.bool,.bool,.bool,.bool,.bool,.bool,.bool,.bool,.bool,.bool,.bool,.bool,.bool,.bool,.bool,.bool,.bool,.bool,.bool,.bool,.bool,.bool,.bool,.bool,.bool,.bool,.bool,.bool,.bool,.bool,.bool,.bool,.bool,.bool,.bool,.bool,.bool,.bool,.bool,.bool,.bool,.bool,.bool,.bool,.bool,.bool,.bool,.bool,.bool,.bool,.bool,.bool,.bool,.bool,.bool,.bool,.bool,.bool,.bool,.bool,.bool,.bool,.bool,.bool,.bool,.bool,.bool,.bool,.bool,.bool,.bool,.bool,.bool,.bool,.bool,.bool,.bool,.bool,.bool,.bool,.bool,.bool,.bool,.bool,.bool,.bool,.bool,.bool,.bool,.bool,.bool,.bool,.bool,.bool,.bool,.bool,.bool,.bool,.bool,.bool,.bool,.bool,.bool,.bool,.bool,.bool,.bool,.bool,.bool,.bool,.bool,.bool,.bool,.bool,.bool,.bool,.bool,.bool,.bool,.bool,.bool,.bool,.bool,.bool,.bool,.bool,.bool,.bool,.bool,.bool,.bool,.bool,.bool,.bool,.bool,.bool,.bool,.bool,.bool,.bool,.bool,.bool,.bool,.bool,.bool,.bool,.bool,.bool,.bool,.bool,.bool,.bool,.bool,.bool,.bool,.bool,.bool,.bool,.bool,.bool,.bool,.bool,.bool,.bool,.bool,.bool,.bool,.bool,.bool,.bool]⟩,
 ⟨.tuple [207,4],1,0,.undef,[.other]⟩,
 ⟨.func,1,8,.nilfn,[.other]⟩,
 ⟨.func,1,8,.nilfn,[.other]⟩,
 ⟨.func,1,8,.nilfn,[.other]⟩,
 ⟨.ptr 207,1,8,.nilp,[.other]⟩,
 ⟨.ptr 171,1,8,.nilp,[.other]⟩,
 ⟨.tuple [2,2,2,2],1,0,.undef,[.other]⟩,
 ⟨.func,1,8,.nilfn,[.other]⟩,
 ⟨.tuple [2,2,2],1,0,.undef,[.other]⟩,
 ⟨.func,1,8,.nilfn,[.other]⟩,
 ⟨.int .u32,1,4,(.int .u32 0),[.int .u32]⟩,
 ⟨.tuple [218,218],1,0,.undef,[.other]⟩,
 ⟨.func,1,8,.nilfn,[.other]⟩,
 ⟨.tuple [178,178],1,0,.undef,[.other]⟩,
 ⟨.func,1,8,.nilfn,[.other]⟩,
 ⟨.ptr 5,1,8,.nilp,[.other]⟩,
 ⟨.arr 20 5,20,20,(.agg [(.int .u8 0),(.int .u8 0),(.int .u8 0),(.int .u8 0),(.int .u8 0),(.int .u8 0),(.int .u8 0),(.int .u8 0),(.int .u8 0),(.int .u8 0),(.int .u8 0),(.int .u8 0),(.int .u8 0),(.int .u8 0),(.int .u8 0),(.int .u8 0),(.int .u8 0),(.int .u8 0),(.int .u8 0),(.int .u8 0)]),[.int .u8,.int .u8,.int .u8,.int .u8,.int .u8,.int .u8,.int .u8,.int .u8,.int .u8,.int .u8,.int .u8,.int .u8,.int .u8,.int .u8,.int .u8,.int .u8,.int .u8,.int .u8,.int .u8,.int .u8]⟩,
 ⟨.func,1,8,.nilfn,[.other]⟩,
 ⟨.func,1,8,.nilfn,[.other]⟩,
 ⟨.func,1,8,.nilfn,[.other]⟩,
 ⟨.func,1,8,.nilfn,[.other]⟩,
 ⟨.func,1,8,.nilfn,[.other]⟩,
 ⟨.func,1,8,.nilfn,[.other]⟩,
 ⟨.tuple [21,3],1,0,.undef,[.other]⟩,
 ⟨.func,1,8,.nilfn,[.other]⟩,
 ⟨.func,1,8,.nilfn,[.other]⟩,
 ⟨.uptr,1,8,.nilp,[.other]⟩,
 ⟨.func,1,8,.nilfn,[.other]⟩,
 ⟨.func,1,8,.nilfn,[.other]⟩,
 ⟨.func,1,8,.nilfn,[.other]⟩,
 ⟨.func,1,8,.nilfn,[.other]⟩,
 ⟨.func,1,8,.nilfn,[.other]⟩,
 ⟨.func,1,8,.nilfn,[.other]⟩,
 ⟨.arr 256 5,256,256,(.agg [(.int .u8 0),(.int .u8 0),(.int .u8 0),(.int .u8 0),(.int .u8 0),(.int .u8 0),(.int .u8 0),(.int .u8 0),(.int .u8 0),(.int .u8 0),(.int .u8 0),(.int .u8 0),(.int .u8 0),(.int .u8 0),(.int .u8 0),(.int .u8 0),(.int .u8 0),(.int .u8 0),(.int .u8 0),(.int .u8 0),(.int .u8 0),(.int .u8 0),(.int .u8 0),(.int .u8 0),(.int .u8 0),(.int .u8 0),(.int .u8 0),(.int .u8 0),(.int .u8 0),(.int .u8 0),(.int .u8 0),(.int .u8 0),(.int .u8 0),(.int .u8 0),(.int .u8 0),(.int .u8 0),(.int .u8 0),(.int .u8 0),(.int .u8 0),(.int .u8 0),(.int .u8 0),(.int .u8 0),(.int .u8 0),(.int .u8 0),(.int .u8 0),(.int .u8 0),(.int .u8 0),(.int .u8 0),(.int .u8 0),(.int .u8 0),(.int .u8 0),(.int .u8 0),(.int .u8 0),(.int .u8 0),(.int .u8 0),(.int .u8 0),(.int .u8 0),(.int .u8 0),(.int .u8 0),(.int .u8 0),(.int .u8 0),(.int .u8 0),(.int .u8 0),(.int .u8 0),(.int .u8 0),(.int .u8 0),(.int .u8 0),(.int .u8 0),(.int .u8 0),(.int .u8 0),(.int .u8 0),(.int .u8 0),(.int .u8 0),(.int .u8 0),(.int .u8 0),(.int .u8 0),(.int .u8 0),(.int .u8 0),(.int .u8 0),(.int .u8 0),(.int .u8 0),(.int .u8 0),(.int .u8 0),(.int .u8 0),(.int .u8 0),(.int .u8 0),(.int .u8 0),(.int .u8 0),(.int .u8 0),(.int .u8 0),(.int .u8 0),(.int .u8 0),(.int .u8 0),(.int .u8 0),(.int .u8 0),(.int .u8 0),(.int .u8 0),(.int .u8 0),(.int .u8 0),(.int .u8 0),(.int .u8 0),(.int .u8 0),(.int .u8 0),(.int .u8 0),(.int .u8 0),(.int .u8 0),(.int .u8 0),(.int .u8 0),(.int .u8 0),(.int .u8 0),(.int .u8 0),(.int .u8 0),(.int .u8 0),(.int .u8 0),(.int .u8 0),(.int .u8 0),(.int .u8 0),(.int .u8 0),(.int .u8 0),(.int .u8 0),(.int .u8 0),(.int .u8 0),(.int .u8 0),(.int .u8 0),(.int .u8 0),(.int .u8 0),(.int .u8 0),(.int .u8 0),(.int .u8 0),(.int .u8 0),(.int .u8 0),(.int .u8 0),(.int .u8 0),(.int .u8 0),(.int .u8 0),(.int .u8 0),(.int .u8 0),(.int .u8 0),(.int .u8 0),(.int .u8 0),(.int .u8 0),(.int .u8 0),(.int .u8 0),(.int .u8 0),(.int .u8 0),(.int .u8 0),(.int .u8 0),(.int .u8 0),(.int .u8 0),(.int .u8 0),(.int .u8 0),(.int .u8 0),(.int .u8 0),(.int .u8 0),(.int .u8 0),(.int .u8 0),(.int .u8 0),(.int .u8 0),(.int .u8 0),(.int .u8 0),(.int .u8 0),(.int .u8 0),(.int .u8 0),(.int .u8 0),(.int .u8 0),(.int .u8 0),(.int .u8 0),(.int .u8 0),(.int .u8 0),(.int .u8 0),(.int .u8 0),(.int .u8 0),(.int .u8 0),(.int .u8 0),(.int .u8 0),(.int .u8 0),(.int .u8 0),(.int .u8 0),(.int .u8 0),(.int .u8 0),(.int .u8 0),(.int .u8 0),(.int .u8 0),(.int .u8 0),(.int .u8 0),(.int .u8 0),(.int .u8 0),(.int .u8 0),(.int .u8 0),(.int .u8 0),(.int .u8 0),(.int .u8 0),(.int .u8 0),(.int .u8 0),(.int .u8 0),(.int .u8 0),(.int .u8 0),(.int .u8 0),(.int .u8 0),(.int .u8 0),(.int .u8 0),(.int .u8 0),(.int .u8 0),(.int .u8 0),(.int .u8 0),(.int .u8 0),(.int .u8 0),(.int .u8 0),(.int .u8 0),(.int .u8 0),(.int .u8 0),(.int .u8 0),(.int .u8 0),(.int .u8 0),(.int .u8 0),(.int .u8 0),(.int .u8 0),(.int .u8 0),(.int .u8 0),(.int .u8 0),(.int .u8 0),(.int .u8 0),(.int .u8 0),(.int .u8 0),(.int .u8 0),(.int .u8 0),(.int .u8 0),(.int .u8 0),(.int .u8 0),(.int .u8 0),(.int .u8 0),(.int .u8 0),(.int .u8 0),(.int .u8 0),(.int .u8 0),(.int .u8 0),(.int .u8 0),(.int .u8 0),(.int .u8 0),(.int .u8 0),(.int .u8 0),(.int .u8 0),(.int .u8 0),(.int .u8 0),(.int .u8 0),(.int .u8 0),(.int .u8 0),(.int .u8 0),(.int .u8 0),(.int .u8 0),(.int .u8 0),(.int .u8 0),(.int .u8 0),(.int .u8 0),(.int .u8 0),(.int .u8 0)]),[.int .u8,.int .u8,.int .u8,.int .u8,.int .u8,.int .u8,.int .u8,.int .u8,.int .u8,.int .u8,.int .u8,.int .u8,.int .u8,.int .u8,.int .u8,.int .u8,.int .u8,.int .u8,.int .u8,.int .u8,.int .u8,.int .u8,.int .u8,.int .u8,.int .u8,.int .u8,.int .u8,.int .u8,.int .u8,.int .u8,.int .u8,.int .u8,.int .u8,.int .u8,.int .u8,.int .u8,.int .u8,.int .u8,.int .u8,.int .u8,.int .u8,.int .u8,.int .u8,.int .u8,.int .u8,.int .u8,.int .u8,.int .u8,.int .u8,.int .u8,.int .u8,.int .u8,.int .u8,.int .u8,.int .u8,.int .u8,.int .u8,.int .u8,.int .u8,.int .u8,.int .u8,.int .u8,.int .u8,.int .u8,.int .u8,.int .u8,.int .u8,.int .u8,.int .u8,.int .u8,.int .u8,.int .u8,.int .u8,.int .u8,.int .u8,.int .u8,.int .u8,.int .u8,.int .u8,.int .u8,.int .u8,.int .u8,.int .u8,.int .u8,.int .u8,.int .u8,.int .u8,.int .u8,.int .u8,.int .u8,.int .u8,.int .u8,.int .u8,.int .u8,.int .u8,.int .u8,.int .u8,.int .u8,.int .u8,.int .u8,.int .u8,.int .u8,.int .u8,.int .u8,.int .u8,.int .u8,.int .u8,.int .u8,.int .u8,.int .u8,.int .u8,.int .u8,.int .u8,.int .u8,.int .u8,.int .u8,.int .u8,.int .u8,.int .u8,.int .u8,.int .u8,.int .u8,.int .u8,.int .u8,.int .u8,.int .u8,.int .u8,.int .u8,.int .u8,.int .u8,.int .u8,.int .u8,.int .u8,.int .u8,.int .u8,.int .u8,.int .u8,.int .u8,.int .u8,.int .u8,.int .u8,.int .u8,.int .u8,.int .u8,.int .u8,.int .u8,.int .u8,.int .u8,.int .u8,.int .u8,.int .u8,.int .u8,.int .u8,.int .u8,.int .u8,.int .u8,.int .u8,.int .u8,.int .u8,.int .u8,.int .u8,.int .u8,.int .u8,.int .u8,.int .u8,.int .u8,.int .u8,.int .u8,.int .u8,.int .u8,.int .u8,.int .u8,.int .u8,.int .u8,.int .u8,.int .u8,.int .u8,.int .u8,.int .u8,.int .u8,.int .u8,.int .u8,.int .u8,.int .u8,.int .u8,.int .u8,.int .u8,.int .u8,.int .u8,.int .u8,.int .u8,.int .u8,.int .u8,.int .u8,.int .u8,.int .u8,.int .u8,.int .u8,.int .u8,.int .u8,.int .u8,.int .u8,.int .u8,.int .u8,.int .u8,.int .u8,.int .u8,.int .u8,.int .u8,.int .u8,.int .u8,.int .u8,.int .u8,.int .u8,.int .u8,.int .u8,.int .u8,.int .u8,.int .u8,.int .u8,.int .u8,.int .u8,.int .u8,.int .u8,.int .u8,.int .u8,.int .u8,.int .u8,.int .u8,.int .u8,.int .u8,.int .u8,.int .u8,.int .u8,.int .u8,.int .u8,.int .u8,.int .u8,.int .u8,.int .u8,.int .u8,.int .u8,.int .u8,.int .u8,.int .u8,.int .u8,.int .u8,.int .u8,.int .u8,.int .u8,.int .u8,.int .u8,.int .u8,.int .u8,.int .u8,.int .u8]⟩,
 ⟨.struct [(0,5),(1,5)],2,2,(.agg [(.int .u8 0),(.int .u8 0)]),[.int .u8,.int .u8]⟩,
 ⟨.struct [(0,5),(1,5)],2,2,(.agg [(.int .u8 0),(.int .u8 0)]),[.int .u8,.int .u8]⟩,
 ⟨.arr 16 243,32,32,(.agg [(.int .u8 0),(.int .u8 0),(.int .u8 0),(.int .u8 0),(.int .u8 0),(.int .u8 0),(.int .u8 0),(.int .u8 0),(.int .u8 0),(.int .u8 0),(.int .u8 0),(.int .u8 0),(.int .u8 0),(.int .u8 0),(.int .u8 0),(.int .u8 0),(.int .u8 0),(.int .u8 0),(.int .u8 0),(.int .u8 0),(.int .u8 0),(.int .u8 0),(.int .u8 0),(.int .u8 0),(.int .u8 0),(.int .u8 0),(.int .u8 0),(.int .u8 0),(.int .u8 0),(.int .u8 0),(.int .u8 0),(.int .u8 0)]),[.int .u8,.int .u8,.int .u8,.int .u8,.int .u8,.int .u8,.int .u8,.int .u8,.int .u8,.int .u8,.int .u8,.int .u8,.int .u8,.int .u8,.int .u8,.int .u8,.int .u8,.int .u8,.int .u8,.int .u8,.int .u8,.int .u8,.int .u8,.int .u8,.int .u8,.int .u8,.int .u8,.int .u8,.int .u8,.int .u8,.int .u8,.int .u8]⟩,
 ⟨.ptr 263,1,8,.nilp,[.other]⟩,
 ⟨.struct [(0,17),(1,17),(2,17),(3,9)],4,40,(.agg [.nilp,.nilp,.nilp,(.str [])]),[.other,.other,.other,.str]⟩,
 ⟨.struct [(0,17),(1,17),(2,17),(3,9)],4,40,(.agg [.nilp,.nilp,.nilp,(.str [])]),[.other,.other,.other,.str]⟩,
 ⟨.arr 0 16,0,0,(.agg []),[]⟩,
 ⟨.struct [(0,248)],0,0,(.agg []),[]⟩,
 ⟨.struct [(0,248)],0,0,(.agg []),[]⟩,
 ⟨.int .u8,1,1,(.int .u8 0),[.int .u8]⟩,
 ⟨.int .u8,1,1,(.int .u8 0),[.int .u8]⟩,
 ⟨.func,1,8,.nilfn,[.other]⟩,
 ⟨.int .i32,1,4,(.int .i32 0),[.int .i32]⟩,
 ⟨.int .i32,1,4,(.int .i32 0),[.int .i32]⟩,
 ⟨.struct [(0,12),(1,12),(2,218),(3,251),(4,5),(5,5),(6,252),(7,253),(8,223),(9,254),(10,255)],11,48,(.agg [(.int .u64 0),(.int .u64 0),(.int .u32 0),(.int .u8 0),(.int .u8 0),(.int .u8 0),(.int .u8 0),.nilfn,.nilp,(.int .i32 0),(.int .i32 0)]),[.int .u64,.int .u64,.int .u32,.int .u8,.int .u8,.int .u8,.int .u8,.other,.other,.int .i32,.int .i32]⟩,
 ⟨.struct [(0,12),(1,12),(2,218),(3,251),(4,5),(5,5),(6,252),(7,253),(8,223),(9,254),(10,255)],11,48,(.agg [(.int .u64 0),(.int .u64 0),(.int .u32 0),(.int .u8 0),(.int .u8 0),(.int .u8 0),(.int .u8 0),.nilfn,.nilp,(.int .i32 0),(.int .i32 0)]),[.int .u64,.int .u64,.int .u32,.int .u8,.int .u8,.int .u8,.int .u8,.other,.other,.int .i32,.int .i32]⟩,
 ⟨.func,1,8,.nilfn,[.other]⟩,
 ⟨.func,1,8,.nilfn,[.other]⟩,
 ⟨.func,1,8,.nilfn,[.other]⟩,
 ⟨.func,1,8,.nilfn,[.other]⟩,
 ⟨.struct [(0,9)],1,16,(.agg [(.str [])]),[.str]⟩,
 ⟨.struct [(0,9)],1,16,(.agg [(.str [])]),[.str]⟩]
abbrev ty_LJ:Nat:=0
abbrev ty_funcLJ:Nat:=1
abbrev z11h:Nat:=2
abbrev ty_int:Nat:=3
abbrev ty_bool:Nat:=4
abbrev z11e:Nat:=5
abbrev z13y:Nat:=6
abbrev zle:Nat:=7
abbrev z13r:Nat:=8
abbrev z4y:Nat:=9
abbrev z13q:Nat:=10
abbrev z14g:Nat:=11
abbrev ty_uintptr:Nat:=12
abbrev zpa:Nat:=13
abbrev zu2:Nat:=14
abbrev zrs:Nat:=15
abbrev zyq:Nat:=16
abbrev ty_P_abi_Type:Nat:=17
abbrev zyw:Nat:=18
abbrev zw2:Nat:=19
abbrev ty_interface_:Nat:=20
abbrev ty_int32:Nat:=21
abbrev z14j:Nat:=22
abbrev zli:Nat:=23
abbrev z6:Nat:=24
abbrev zd:Nat:=25
abbrev z11p:Nat:=26
abbrev znq:Nat:=27
abbrev ty_funcLJ_bool:Nat:=28
abbrev zrq:Nat:=29
abbrev znb:Nat:=30
abbrev z2s:Nat:=31
abbrev zyf:Nat:=32
abbrev z1o:Nat:=33
abbrev z11q:Nat:=34
abbrev zlu:Nat:=35
abbrev zye:Nat:=36
abbrev ty_api_Stamp:Nat:=37
abbrev zzr:Nat:=38
abbrev zlv:Nat:=39
abbrev zsr:Nat:=40
abbrev z13t:Nat:=41
abbrev z14o:Nat:=42
abbrev zmf:Nat:=43
abbrev zrb:Nat:=44
abbrev zmi:Nat:=45
abbrev zmd:Nat:=46
abbrev zmk:Nat:=47
abbrev ty_S_uint8:Nat:=48
abbrev ty_S_string:Nat:=49
abbrev z7:Nat:=50
abbrev zpj:Nat:=51
abbrev z19m:Nat:=52
abbrev zm3:Nat:=53
abbrev zm1:Nat:=54
abbrev ty_P_read_sum:Nat:=55
abbrev ty_funcLstringJ:Nat:=56
abbrev znc:Nat:=57
abbrev zrp:Nat:=58
abbrev zym:Nat:=59
abbrev zm7:Nat:=60
abbrev zoa:Nat:=61
abbrev zpn:Nat:=62
abbrev z140:Nat:=63
abbrev zp9:Nat:=64
abbrev zz:Nat:=65
abbrev z17m:Nat:=66
abbrev zmq:Nat:=67
abbrev zzp:Nat:=68
abbrev z14k:Nat:=69
abbrev z19n:Nat:=70
abbrev zpm:Nat:=71
abbrev zns:Nat:=72
abbrev zmo:Nat:=73
abbrev z17n:Nat:=74
abbrev zr8:Nat:=75
abbrev zrt:Nat:=76
abbrev zlr:Nat:=77
abbrev zmn:Nat:=78
abbrev z13v:Nat:=79
abbrev z11i:Nat:=80
abbrev z17j:Nat:=81
abbrev zzq:Nat:=82
abbrev z13w:Nat:=83
abbrev z19l:Nat:=84
abbrev zmj:Nat:=85
abbrev z11k:Nat:=86
abbrev z11j:Nat:=87
abbrev zmc:Nat:=88
abbrev zlt:Nat:=89
abbrev z17l:Nat:=90
abbrev ty_struct_:Nat:=91
abbrev ty_read_bad:Nat:=92
abbrev zri:Nat:=93
abbrev zg:Nat:=94
abbrev zm6:Nat:=95
abbrev z11o:Nat:=96
abbrev zlq:Nat:=97
abbrev zrk:Nat:=98
abbrev ty_funcLboolJ:Nat:=99
abbrev zv1:Nat:=100
abbrev zv6:Nat:=101
abbrev ty_P_int64:Nat:=102
abbrev zyl:Nat:=103
abbrev z16z:Nat:=104
abbrev zw3:Nat:=105
abbrev zj:Nat:=106
abbrev z1dh:Nat:=107
abbrev z11l:Nat:=108
abbrev z1bu:Nat:=109
abbrev zss:Nat:=110
abbrev zmg:Nat:=111
abbrev z173:Nat:=112
abbrev zm5:Nat:=113
abbrev z17k:Nat:=114
abbrev zlj:Nat:=115
abbrev ty_read_form:Nat:=116
abbrev z13x:Nat:=117
abbrev z11g:Nat:=118
abbrev zu5:Nat:=119
abbrev zyp:Nat:=120
abbrev zyn:Nat:=121
abbrev zm9:Nat:=122
abbrev zld:Nat:=123
abbrev zm:Nat:=124
abbrev zls:Nat:=125
abbrev z14h:Nat:=126
abbrev zmp:Nat:=127
abbrev zjt:Nat:=128
abbrev zm2:Nat:=129
abbrev zro:Nat:=130
abbrev zpk:Nat:=131
abbrev zmh:Nat:=132
abbrev zyo:Nat:=133
abbrev zra:Nat:=134
abbrev z1bt:Nat:=135
abbrev zu6:Nat:=136
abbrev zu4:Nat:=137
abbrev zv4:Nat:=138
abbrev znr:Nat:=139
abbrev zrc:Nat:=140
abbrev zml:Nat:=141
abbrev zyi:Nat:=142
abbrev z1di:Nat:=143
abbrev zv5:Nat:=144
abbrev zu7:Nat:=145
abbrev zme:Nat:=146
abbrev zpl:Nat:=147
abbrev z1bs:Nat:=148
abbrev zuw:Nat:=149
abbrev z15:Nat:=150
abbrev zyj:Nat:=151
abbrev zm8:Nat:=152
abbrev znp:Nat:=153
abbrev zrl:Nat:=154
abbrev zrm:Nat:=155
abbrev zr9:Nat:=156
abbrev zma:Nat:=157
abbrev z11f:Nat:=158
abbrev zrj:Nat:=159
abbrev zpi:Nat:=160
abbrev z14q:Nat:=161
abbrev zsq:Nat:=162
abbrev zv3:Nat:=163
abbrev z17f:Nat:=164
abbrev zmm:Nat:=165
abbrev zyh:Nat:=166
abbrev z1df:Nat:=167
abbrev zsv:Nat:=168
abbrev zlx:Nat:=169
abbrev zw1:Nat:=170
abbrev ty_clock_group:Nat:=171
abbrev zm4:Nat:=172
abbrev z11n:Nat:=173
abbrev zux:Nat:=174
abbrev z14m:Nat:=175
abbrev z13u:Nat:=176
abbrev z13s:Nat:=177
abbrev ty_uint64:Nat:=178
abbrev zrr:Nat:=179
abbrev ty_uint:Nat:=180
abbrev ty_Luint_uintJ:Nat:=181
abbrev zsp:Nat:=182
abbrev z172:Nat:=183
abbrev zlf:Nat:=184
abbrev z19h:Nat:=185
abbrev ty_funcLintJ:Nat:=186
abbrev zuz:Nat:=187
abbrev ty_error:Nat:=188
abbrev ty_Lint_errorJ:Nat:=189
abbrev zw4:Nat:=190
abbrev ty_funcLJ_int:Nat:=191
abbrev z1de:Nat:=192
abbrev zyg:Nat:=193
abbrev zyz:Nat:=194
abbrev z19i:Nat:=195
abbrev zmb:Nat:=196
abbrev z14p:Nat:=197
abbrev zsu:Nat:=198
abbrev zjr:Nat:=199
abbrev z171:Nat:=200
abbrev zpb:Nat:=201
abbrev z13z:Nat:=202
abbrev zm0:Nat:=203
abbrev zyy:Nat:=204
abbrev z1br:Nat:=205
abbrev ty_A256_bool:Nat:=206
abbrev z17e:Nat:=207
abbrev zyr:Nat:=208
abbrev zjs:Nat:=209
abbrev zv0:Nat:=210
abbrev zlw:Nat:=211
abbrev z14n:Nat:=212
abbrev z1dg:Nat:=213
abbrev zv7:Nat:=214
abbrev zlo:Nat:=215
abbrev z141:Nat:=216
abbrev zpc:Nat:=217
abbrev ty_uint32:Nat:=218
abbrev z19k:Nat:=219
abbrev zlp:Nat:=220
abbrev z19j:Nat:=221
abbrev zln:Nat:=222
abbrev ty_P_uint8:Nat:=223
abbrev ty_A20_uint8:Nat:=224
abbrev zyx:Nat:=225
abbrev z1dd:Nat:=226
abbrev z14i:Nat:=227
abbrev zv2:Nat:=228
abbrev ty_funcLJ_int64:Nat:=229
abbrev zju:Nat:=230
abbrev ty_Lint32_intJ:Nat:=231
abbrev zw5:Nat:=232
abbrev zyk:Nat:=233
abbrev z1bq:Nat:=234
abbrev zll:Nat:=235
abbrev z170:Nat:=236
abbrev zlm:Nat:=237
abbrev zrn:Nat:=238
abbrev z17h:Nat:=239
abbrev z17g:Nat:=240
abbrev ty_A256_uint8:Nat:=241
abbrev zuy:Nat:=242
abbrev z17c:Nat:=243
abbrev z11r:Nat:=244
abbrev z11m:Nat:=245
abbrev zlg:Nat:=246
abbrev zu3:Nat:=247
abbrev zu8:Nat:=248
abbrev zjq:Nat:=249
abbrev zzo:Nat:=250
abbrev ty_abi_TFlag:Nat:=251
abbrev ty_abi_Kind:Nat:=252
abbrev zlk:Nat:=253
abbrev ty_abi_NameOff:Nat:=254
abbrev ty_abi_TypeOff:Nat:=255
abbrev zlh:Nat:=256
abbrev ty_abi_Type:Nat:=257
abbrev zlz:Nat:=258
abbrev zly:Nat:=259
abbrev zst:Nat:=260
abbrev z17i:Nat:=261
abbrev z17d:Nat:=262
abbrev z14l:Nat:=263
abbrev fn_main_main:Nat:=0
abbrev z2v:Nat:=3
abbrev zyu:Nat:=4
abbrev zxq:Nat:=5
abbrev zuq:Nat:=6
abbrev zzh:Nat:=7
abbrev z3d:Nat:=8
abbrev za:Nat:=9
abbrev zcv:Nat:=10
abbrev z1n:Nat:=11
abbrev z4k:Nat:=12
abbrev fn_read_Stamp:Nat:=13
abbrev z144:Nat:=14
abbrev z13b:Nat:=15
abbrev z3o:Nat:=16
abbrev fn_show_Span:Nat:=17
abbrev z147:Nat:=18
abbrev fn_show_Date:Nat:=19
abbrev fn_show_Stamp:Nat:=20
abbrev zet:Nat:=21
abbrev zc2:Nat:=22
abbrev z94:Nat:=23
abbrev zf:Nat:=24
abbrev fn_read_Span_1:Nat:=25
abbrev fn_read_sum_iso:Nat:=26
abbrev zc3:Nat:=27
abbrev fn_read_sum_sql:Nat:=28
abbrev z8:Nat:=29
abbrev zdu:Nat:=30
abbrev zxm:Nat:=31
abbrev fn_read_era:Nat:=32
abbrev z4j:Nat:=33
abbrev zxp:Nat:=34
abbrev z3l:Nat:=35
abbrev zav:Nat:=36
abbrev z6y:Nat:=37
abbrev z17:Nat:=38
abbrev fn_read_whole:Nat:=39
abbrev fn_read_moment:Nat:=40
abbrev z13a:Nat:=41
abbrev zql:Nat:=42
abbrev fn_show_Right:Nat:=43
abbrev z1dk:Nat:=44
abbrev fn_show_sql:Nat:=45
abbrev fn_show_iso:Nat:=46
abbrev z1dj:Nat:=47
abbrev fn_day_Right:Nat:=48
abbrev fn_show_date:Nat:=49
abbrev fn_show_join:Nat:=50
abbrev z1cw:Nat:=51
abbrev fn_show_moment:Nat:=52
abbrev z1f:Nat:=53
abbrev z8s:Nat:=54
abbrev zc:Nat:=55
abbrev zg6:Nat:=56
abbrev z5a:Nat:=57
abbrev z1dl:Nat:=58
abbrev fn_read_need:Nat:=59
abbrev zgr:Nat:=60
abbrev z14:Nat:=61
abbrev zx:Nat:=62
abbrev zk:Nat:=63
abbrev zkp:Nat:=64
abbrev z10m:Nat:=65
abbrev z4i:Nat:=66
abbrev zot:Nat:=67
abbrev zdy:Nat:=68
abbrev zc5:Nat:=69
abbrev zqm:Nat:=70
abbrev zzf:Nat:=71
abbrev zdz:Nat:=72
abbrev zqp:Nat:=73
abbrev zqs:Nat:=74
abbrev zdv:Nat:=75
abbrev z19:Nat:=76
abbrev zcs:Nat:=77
abbrev z1v:Nat:=78
abbrev z51:Nat:=79
abbrev fn_day_Start:Nat:=80
abbrev fn_read_parted:Nat:=81
abbrev fn_read_apart:Nat:=82
abbrev fn_clock_Read:Nat:=83
abbrev fn_day_Stamp:Nat:=84
abbrev z177:Nat:=85
abbrev z143:Nat:=86
abbrev z164:Nat:=87
abbrev z145:Nat:=88
abbrev z10o:Nat:=89
abbrev zo4:Nat:=90
abbrev fn_show_signed:Nat:=91
abbrev fn_clock_Long:Nat:=92
abbrev fn_show_between:Nat:=93
abbrev fn_show_digits:Nat:=94
abbrev fn_show_letter:Nat:=95
abbrev fn_show_seconds:Nat:=96
abbrev fn_show_unit:Nat:=97
abbrev zqo:Nat:=98
abbrev fn_day_Parts:Nat:=99
abbrev z13:Nat:=100
abbrev fn_clock_Two:Nat:=101
abbrev fn_num_Split:Nat:=102
abbrev fn_day_Of:Nat:=103
abbrev fn_clock_Text:Nat:=104
abbrev zg5:Nat:=105
abbrev z1b4:Nat:=106
abbrev z26:Nat:=107
abbrev z66:Nat:=108
abbrev z7b:Nat:=109
abbrev z1i:Nat:=110
abbrev z6k:Nat:=111
abbrev z85:Nat:=112
abbrev zj1:Nat:=113
abbrev zgq:Nat:=114
abbrev zct:Nat:=115
abbrev z6z:Nat:=116
abbrev z2u:Nat:=117
abbrev zqj:Nat:=118
abbrev zqq:Nat:=119
abbrev zo8:Nat:=120
abbrev zg8:Nat:=121
abbrev z3c:Nat:=122
abbrev zc4:Nat:=123
abbrev z3m:Nat:=124
abbrev zdt:Nat:=125
abbrev z3n:Nat:=126
abbrev zdw:Nat:=127
abbrev fn_read_digit:Nat:=128
abbrev ztt:Nat:=129
abbrev z18q:Nat:=130
abbrev z174:Nat:=131
abbrev fn_clock_groups:Nat:=132
abbrev z1b6:Nat:=133
abbrev z1b5:Nat:=134
abbrev z13c:Nat:=135
abbrev zzg:Nat:=136
abbrev zyt:Nat:=137
abbrev zkq:Nat:=138
abbrev z146:Nat:=139
abbrev z10n:Nat:=140
abbrev fn_clock_text:Nat:=141
abbrev fn_strings_Join:Nat:=142
abbrev fn_show_number:Nat:=143
abbrev z1cx:Nat:=144
abbrev zqt:Nat:=145
abbrev zxr:Nat:=146
abbrev zei:Nat:=147
abbrev z139:Nat:=148
abbrev ztp:Nat:=149
abbrev z142:Nat:=150
abbrev zze:Nat:=151
abbrev fn_clock_digits:Nat:=152
abbrev fn_num_Div:Nat:=153
abbrev fn_num_Mod:Nat:=154
abbrev fn_clock_within:Nat:=155
abbrev z50:Nat:=156
abbrev z7o:Nat:=157
abbrev zeu:Nat:=158
abbrev zo5:Nat:=159
abbrev zau:Nat:=160
abbrev za2:Nat:=161
abbrev z5k:Nat:=162
abbrev z5n:Nat:=163
abbrev zel:Nat:=164
abbrev zek:Nat:=165
abbrev zej:Nat:=166
abbrev zqi:Nat:=167
abbrev zo7:Nat:=168
abbrev z1q:Nat:=169
abbrev zts:Nat:=170
abbrev z175:Nat:=171
abbrev zvi:Nat:=172
abbrev z136:Nat:=173
abbrev zvj:Nat:=174
abbrev z10i:Nat:=175
abbrev zzd:Nat:=176
abbrev zxk:Nat:=177
abbrev fn_clock_parts:Nat:=178
abbrev ztu:Nat:=179
abbrev zo6:Nat:=180
abbrev fn_bits_Mul32:Nat:=181
abbrev zqu:Nat:=182
abbrev zat:Nat:=183
abbrev zvk:Nat:=184
abbrev z138:Nat:=185
abbrev fn_num_Scale:Nat:=186
abbrev zas:Nat:=187
abbrev z148:Nat:=188
abbrev z1b7:Nat:=189
abbrev zrd:Nat:=190
abbrev zxn:Nat:=191
abbrev zqk:Nat:=192
abbrev zaa:Nat:=193
abbrev ziy:Nat:=194
abbrev zcu:Nat:=195
abbrev zdx:Nat:=196
abbrev z20:Nat:=197
abbrev z5j:Nat:=198
abbrev zcr:Nat:=199
abbrev z176:Nat:=200
abbrev z1cu:Nat:=201
abbrev zto:Nat:=202
abbrev z137:Nat:=203
abbrev zo9:Nat:=204
abbrev zqr:Nat:=205
abbrev fn_abi_NoEscape:Nat:=206
abbrev z165:Nat:=207
abbrev fn_bits_Div64:Nat:=208
abbrev fn_bits_Add64:Nat:=209
abbrev z62:Nat:=210
abbrev zzi:Nat:=211
abbrev zgp:Nat:=212
abbrev zys:Nat:=213
abbrev zcw:Nat:=214
abbrev z1cv:Nat:=215
abbrev z149:Nat:=216
abbrev ztn:Nat:=217
abbrev fn_bits_Len64:Nat:=218
abbrev zvm:Nat:=219
abbrev zow:Nat:=220
abbrev zvl:Nat:=221
abbrev zou:Nat:=222
abbrev zxl:Nat:=223
abbrev zpd:Nat:=224
abbrev zov:Nat:=225
abbrev ziz:Nat:=226
abbrev zox:Nat:=227
abbrev zj0:Nat:=228
abbrev ztq:Nat:=229
abbrev znh:Nat:=230
abbrev z1cy:Nat:=231
abbrev zqn:Nat:=232
abbrev zjl:Nat:=233
abbrev z1l:Nat:=234
abbrev z4s:Nat:=235
abbrev z2d:Nat:=236
abbrev z10l:Nat:=237
abbrev z10k:Nat:=238
abbrev zhf:Nat:=239
abbrev zg7:Nat:=240
abbrev z6l:Nat:=241
abbrev ztr:Nat:=242
abbrev z10j:Nat:=243
abbrev zxo:Nat:=244
abbrev z1b8:Nat:=245
def ann:List (Nat×List ((List Nat×Nat)×Dir)):=[
 (3,[(([3],5),⟨[9,11],[],[]⟩),(([3],6),⟨[8,10],[],[]⟩)]),
 (8,[(([8],3),⟨[0],[],[]⟩),(([8],4),⟨[0,3],[],[]⟩)]),
 (9,[(([9],0),⟨[0],[],[]⟩),(([9],2),⟨[0,2,4],[],[]⟩),(([9],3),⟨[0,2,4,5,6],[],[]⟩),(([9],4),⟨[2],[],[]⟩),(([9],5),⟨[2,4,5,6],[],[]⟩),(([9],6),⟨[2,5],[],[]⟩),(([9],7),⟨[2,4],[],[]⟩),(([9],8),⟨[2,4,7],[],[]⟩),(([9],9),⟨[2,4,7],[],[]⟩),(([9],10),⟨[2,4],[],[]⟩),(([9],11),⟨[2,4],[],[]⟩),(([9],12),⟨[2,4,8,9],[],[]⟩),(([9],14),⟨[2,4],[],[]⟩)]),
 (11,[(([11],9),⟨[3,4,7,10],[],[]⟩),(([11],10),⟨[4,7,11,12],[],[]⟩),(([11],11),⟨[4],[],[]⟩)]),
 (12,[(([12],2),⟨[4],[],[]⟩),(([12],3),⟨[0,3,4],[],[]⟩)]),
 (14,[(([14],2),⟨[4],[],[]⟩),(([14],3),⟨[0,3,4],[],[]⟩)]),
 (16,[(([16],3),⟨[0,3,4],[],[(3,5,1)]⟩),(([16],7),⟨[0,3,4,5],[],[]⟩)]),
 (23,[(([23],3),⟨[3,8,9,10],[],[]⟩)]),
 (24,[(([24],0),⟨[0,1],[],[]⟩),(([24,9],0),⟨[0,1],[[2,3,4]],[]⟩),(([24],4),⟨[4,5,6],[],[]⟩),(([24,9],4),⟨[4,5,6],[[2,3,4]],[]⟩)]),
 (27,[(([27],2),⟨[0,5,6,7],[],[]⟩)]),
 (29,[(([29],0),⟨[0,1],[],[]⟩),(([29,24],0),⟨[0,1],[[0,1,4,5,6,10,11,12,13]],[]⟩),(([29,24,9],0),⟨[0,1],[[4,5,6],[2,3,4]],[]⟩),(([29],2),⟨[0,3,4],[],[]⟩),(([29,24],2),⟨[0,3,4],[[0,1,4,5,6,10,11,12,13]],[]⟩),(([29,24,9],2),⟨[0,3,4],[[4,5,6],[2,3,4]],[]⟩),(([29],4),⟨[0,3,4],[],[]⟩),(([29,24],4),⟨[0,3,4],[[0,1,4,5,6,10,11,12,13]],[]⟩),(([29,24,9],4),⟨[0,3,4],[[4,5,6],[2,3,4]],[]⟩),(([29],5),⟨[0,3,4],[],[]⟩),(([29,24],5),⟨[0,3,4],[[0,1,4,5,6,10,11,12,13]],[]⟩),(([29,24,9],5),⟨[0,3,4],[[4,5,6],[2,3,4]],[]⟩),(([29],6),⟨[0,3,4,5],[],[]⟩),(([29,24],6),⟨[0,3,4,5],[[0,1,4,5,6,10,11,12,13]],[]⟩),(([29,24,9],6),⟨[0,3,4,5],[[4,5,6],[2,3,4]],[]⟩),(([29],7),⟨[0,3,4,5,6,7],[],[]⟩),(([29,24],7),⟨[0,3,4,5,6,7],[[0,1,4,5,6,10,11,12,13]],[]⟩),(([29,24,9],7),⟨[0,3,4,5,6,7],[[4,5,6],[2,3,4]],[]⟩),(([29],9),⟨[0,3,4,5],[],[]⟩),(([29,24],9),⟨[0,3,4,5],[[0,1,4,5,6,10,11,12,13]],[]⟩),(([29,24,9],9),⟨[0,3,4,5],[[4,5,6],[2,3,4]],[]⟩),(([29],10),⟨[0,3,4,5],[],[]⟩),(([29,24],10),⟨[0,3,4,5],[[0,1,4,5,6,10,11,12,13]],[]⟩),(([29,24,9],10),⟨[0,3,4,5],[[4,5,6],[2,3,4]],[]⟩),(([29],11),⟨[0,3,4,5,6],[],[]⟩),(([29,24],11),⟨[0,3,4,5,6],[[0,1,4,5,6,10,11,12,13]],[]⟩),(([29,24,9],11),⟨[0,3,4,5,6],[[4,5,6],[2,3,4]],[]⟩),(([29],12),⟨[0,3,4,5,8],[],[]⟩),(([29,24],12),⟨[0,3,4,5,8],[[0,1,4,5,6,10,11,12,13]],[]⟩),(([29,24,9],12),⟨[0,3,4,5,8],[[4,5,6],[2,3,4]],[]⟩),(([29],13),⟨[0,3,4,5,7,8,9],[],[]⟩),(([29,24],13),⟨[0,3,4,5,7,8,9],[[0,1,4,5,6,10,11,12,13]],[]⟩),(([29,24,9],13),⟨[0,3,4,5,7,8,9],[[4,5,6],[2,3,4]],[]⟩),(([29],14),⟨[0,3,4,5,7,8,10,11],[],[]⟩),(([29,24],14),⟨[0,3,4,5,7,8,10,11],[[0,1,4,5,6,10,11,12,13]],[]⟩),(([29,24,9],14),⟨[0,3,4,5,7,8,10,11],[[4,5,6],[2,3,4]],[]⟩),(([29],15),⟨[0,3,4,5,8,10,11],[],[]⟩),(([29,24],15),⟨[0,3,4,5,8,10,11],[[0,1,4,5,6,10,11,12,13]],[]⟩),(([29,24,9],15),⟨[0,3,4,5,8,10,11],[[4,5,6],[2,3,4]],[]⟩),(([29],17),⟨[0,3,4,5,8,10],[],[]⟩),(([29,24],17),⟨[0,3,4,5,8,10],[[0,1,4,5,6,10,11,12,13]],[]⟩),(([29,24,9],17),⟨[0,3,4,5,8,10],[[4,5,6],[2,3,4]],[]⟩),(([29],18),⟨[0,3,4,5,8,10],[],[]⟩),(([29,24],18),⟨[0,3,4,5,8,10],[[0,1,4,5,6,10,11,12,13]],[]⟩),(([29,24,9],18),⟨[0,3,4,5,8,10],[[4,5,6],[2,3,4]],[]⟩),(([29],21),⟨[0,12,13],[],[]⟩),(([29,24],21),⟨[0,12,13],[[0,1,4,5,6,10,11,12,13]],[]⟩),(([29,24,9],21),⟨[0,12,13],[[4,5,6],[2,3,4]],[]⟩),(([29],22),⟨[0,12],[],[]⟩),(([29,24],22),⟨[0,12],[[0,1,4,5,6,10,11,12,13]],[]⟩),(([29,24,9],22),⟨[0,12],[[4,5,6],[2,3,4]],[]⟩)]),
 (33,[(([33],3),⟨[0,1,6],[],[]⟩),(([33,11],3),⟨[0,1,6],[[3,4,7,10,11,12,30,31,32,33,34,35,36]],[]⟩),(([33,40],3),⟨[0,1,6],[[1,2,6,9,10,11,12,27,28,29,30,31,32]],[]⟩),(([33],5),⟨[0,1,2,6,8],[],[]⟩),(([33,11],5),⟨[0,1,2,6,8],[[3,4,7,10,11,12,30,31,32,33,34,35,36]],[]⟩),(([33,40],5),⟨[0,1,2,6,8],[[1,2,6,9,10,11,12,27,28,29,30,31,32]],[]⟩),(([33],6),⟨[1,2,6,8,9,10],[],[]⟩),(([33,11],6),⟨[1,2,6,8,9,10],[[3,4,7,10,11,12,30,31,32,33,34,35,36]],[]⟩),(([33,40],6),⟨[1,2,6,8,9,10],[[1,2,6,9,10,11,12,27,28,29,30,31,32]],[]⟩),(([33],8),⟨[1,6,8],[],[]⟩),(([33,11],8),⟨[1,6,8],[[3,4,7,10,11,12,30,31,32,33,34,35,36]],[]⟩),(([33,40],8),⟨[1,6,8],[[1,2,6,9,10,11,12,27,28,29,30,31,32]],[]⟩),(([33],12),⟨[6],[],[]⟩),(([33,11],12),⟨[6],[[3,4,7,10,11,12,30,31,32,33,34,35,36]],[]⟩),(([33,40],12),⟨[6],[[1,2,6,9,10,11,12,27,28,29,30,31,32]],[]⟩),(([33],13),⟨[1,6,11],[],[]⟩),(([33,11],13),⟨[1,6,11],[[3,4,7,10,11,12,30,31,32,33,34,35,36]],[]⟩),(([33,40],13),⟨[1,6,11],[[1,2,6,9,10,11,12,27,28,29,30,31,32]],[]⟩),(([33],15),⟨[6,11],[],[]⟩),(([33,11],15),⟨[6,11],[[3,4,7,10,11,12,30,31,32,33,34,35,36]],[]⟩),(([33,40],15),⟨[6,11],[[1,2,6,9,10,11,12,27,28,29,30,31,32]],[]⟩)]),
 (35,[(([35],4),⟨[0,3,4,5],[],[(3,9,1)]⟩),(([35],7),⟨[0,3,4,5],[],[]⟩)]),
 (37,[(([37],4),⟨[0,4],[],[]⟩)]),
 (38,[(([38],6),⟨[0,1,12],[],[]⟩),(([38],8),⟨[0,1,11,12],[],[]⟩),(([38],9),⟨[],[],[]⟩),(([38],10),⟨[0,1,11,12],[],[]⟩),(([38],12),⟨[0,11,12],[],[]⟩),(([38],13),⟨[],[],[]⟩),(([38],14),⟨[0,11,12],[],[]⟩)]),
 (40,[(([40],3),⟨[1,2,6,9,10],[],[]⟩),(([40],4),⟨[2,6,9,11,12],[],[]⟩),(([40],6),⟨[2,6,9,11,12,13,14,15,16,17],[],[]⟩),(([40],7),⟨[2,6,9,11,12,14,16],[],[]⟩),(([40],9),⟨[2,6,9,11,12,14,16],[],[]⟩),(([40],10),⟨[2,6,9,11,12,13,14,15],[],[]⟩),(([40],11),⟨[2,6,9,11,12,13,14,15,18,19],[],[]⟩),(([40],13),⟨[6,9,11,12,13,15,18],[],[]⟩),(([40],14),⟨[6,9,11,12,13,14,15],[],[]⟩),(([40],15),⟨[6],[],[]⟩),(([40],16),⟨[6,11,13,14,15],[],[]⟩),(([40],18),⟨[6],[],[]⟩),(([40],19),⟨[6,13,14,20],[],[]⟩)]),
 (41,[(([41],4),⟨[6],[],[]⟩),(([41],5),⟨[2,6,10,11,12,13],[],[]⟩),(([41],12),⟨[6,10,11,12,13,16,18],[],[]⟩),(([41],17),⟨[6,10,11,12,15,16,17],[],[]⟩)]),
 (53,[(([53],4),⟨[0,1,5,6,14],[],[(5,150,2)]⟩),(([53],14),⟨[0,5],[],[]⟩),(([53],16),⟨[0,9,47,48,49],[],[]⟩)]),
 (61,[(([61],0),⟨[0,1,2,3],[],[]⟩),(([61,29],0),⟨[0,1,2,3],[[0,3,4,5,8,10,89,90,91,92,93,94,95,96,97,98,99,100,101,102,103,104,105,106,107,108,109,110,111,112,113,114,115]],[]⟩),(([61,29,24],0),⟨[0,1,2,3],[[0,3,4,5,8,10,89,90,91,92,93,94,95,96,97,98,99,100,101,102,103,104,105,106,107,108,109,110,111,112,113,114,115],[0,1,4,5,6,10,11,12,13]],[]⟩),(([61,29,24,9],0),⟨[0,1,2,3],[[0,3,4,5,8,10],[4,5,6],[2,3,4]],[]⟩),(([61,63],0),⟨[0,1,2,3],[[0,6,10,68,69,70,71,72,73,74,75,76,77,78,79,80,81]],[]⟩),(([61,63,29],0),⟨[0,1,2,3],[[0,6,10,68,69,70,71,72,73,74,75,76,77,78,79,80,81],[0,3,4,5,6,43,44,45]],[]⟩),(([61,63,29,24],0),⟨[0,1,2,3],[[0,6,10,68,69,70,71,72,73,74,75,76,77,78,79,80,81],[0,3,4,5,6,43,44,45],[0,1,4,5,6,10,11,12,13]],[]⟩),(([61,63,29,24,9],0),⟨[0,1,2,3],[[0,4,10],[0,3,4,5,6],[4,5,6],[2,3,4]],[]⟩),(([61],1),⟨[0,1,8,9],[],[]⟩),(([61,29],1),⟨[0,1,8,9],[[0,3,4,5,8,10,89,90,91,92,93,94,95,96,97,98,99,100,101,102,103,104,105,106,107,108,109,110,111,112,113,114,115]],[]⟩),(([61,29,24],1),⟨[0,1,8,9],[[0,3,4,5,8,10,89,90,91,92,93,94,95,96,97,98,99,100,101,102,103,104,105,106,107,108,109,110,111,112,113,114,115],[0,1,4,5,6,10,11,12,13]],[]⟩),(([61,29,24,9],1),⟨[0,1,8,9],[[0,3,4,5,8,10],[4,5,6],[2,3,4]],[]⟩),(([61,63],1),⟨[0,1,8,9],[[0,6,10,68,69,70,71,72,73,74,75,76,77,78,79,80,81]],[]⟩),(([61,63,29],1),⟨[0,1,8,9],[[0,6,10,68,69,70,71,72,73,74,75,76,77,78,79,80,81],[0,3,4,5,6,43,44,45]],[]⟩),(([61,63,29,24],1),⟨[0,1,8,9],[[0,6,10,68,69,70,71,72,73,74,75,76,77,78,79,80,81],[0,3,4,5,6,43,44,45],[0,1,4,5,6,10,11,12,13]],[]⟩),(([61,63,29,24,9],1),⟨[0,1,8,9],[[0,4,10],[0,3,4,5,6],[4,5,6],[2,3,4]],[]⟩),(([61],3),⟨[0,1,8,9],[],[]⟩),(([61,29],3),⟨[0,1,8,9],[[0,3,4,5,8,10,89,90,91,92,93,94,95,96,97,98,99,100,101,102,103,104,105,106,107,108,109,110,111,112,113,114,115]],[]⟩),(([61,29,24],3),⟨[0,1,8,9],[[0,3,4,5,8,10,89,90,91,92,93,94,95,96,97,98,99,100,101,102,103,104,105,106,107,108,109,110,111,112,113,114,115],[0,1,4,5,6,10,11,12,13]],[]⟩),(([61,29,24,9],3),⟨[0,1,8,9],[[0,3,4,5,8,10],[4,5,6],[2,3,4]],[]⟩),(([61,63],3),⟨[0,1,8,9],[[0,6,10,68,69,70,71,72,73,74,75,76,77,78,79,80,81]],[]⟩),(([61,63,29],3),⟨[0,1,8,9],[[0,6,10,68,69,70,71,72,73,74,75,76,77,78,79,80,81],[0,3,4,5,6,43,44,45]],[]⟩),(([61,63,29,24],3),⟨[0,1,8,9],[[0,6,10,68,69,70,71,72,73,74,75,76,77,78,79,80,81],[0,3,4,5,6,43,44,45],[0,1,4,5,6,10,11,12,13]],[]⟩),(([61,63,29,24,9],3),⟨[0,1,8,9],[[0,4,10],[0,3,4,5,6],[4,5,6],[2,3,4]],[]⟩)]),
 (62,[(([62],0),⟨[0,1,2],[],[]⟩),(([62,29],0),⟨[0,1,2],[[0,3,4,5,6,8,63,64,65]],[]⟩),(([62,29,24],0),⟨[0,1,2],[[0,3,4,5,6,8,63,64,65],[0,1,4,5,6,10,11,12,13]],[]⟩),(([62,29,24,9],0),⟨[0,1,2],[[0,3,4,5],[4,5,6],[2,3,4]],[]⟩),(([62,63],0),⟨[0,1,2],[[0,1,5,6,18,19,20,21,22]],[]⟩),(([62,63,29],0),⟨[0,1,2],[[0,1,5,6,18,19,20,21,22],[0,3,4,5,6,43,44,45]],[]⟩),(([62,63,29,24],0),⟨[0,1,2],[[0,1,5,6,18,19,20,21,22],[0,3,4,5,6,43,44,45],[0,1,4,5,6,10,11,12,13]],[]⟩),(([62,63,29,24,9],0),⟨[0,1,2],[[0,1,4,5],[0,3,4,5,6],[4,5,6],[2,3,4]],[]⟩),(([62],2),⟨[0,1,2,7,8],[],[]⟩),(([62,29],2),⟨[0,1,2,7,8],[[0,3,4,5,6,8,63,64,65]],[]⟩),(([62,29,24],2),⟨[0,1,2,7,8],[[0,3,4,5,6,8,63,64,65],[0,1,4,5,6,10,11,12,13]],[]⟩),(([62,29,24,9],2),⟨[0,1,2,7,8],[[0,3,4,5],[4,5,6],[2,3,4]],[]⟩),(([62,63],2),⟨[0,1,2,7,8],[[0,1,5,6,18,19,20,21,22]],[]⟩),(([62,63,29],2),⟨[0,1,2,7,8],[[0,1,5,6,18,19,20,21,22],[0,3,4,5,6,43,44,45]],[]⟩),(([62,63,29,24],2),⟨[0,1,2,7,8],[[0,1,5,6,18,19,20,21,22],[0,3,4,5,6,43,44,45],[0,1,4,5,6,10,11,12,13]],[]⟩),(([62,63,29,24,9],2),⟨[0,1,2,7,8],[[0,1,4,5],[0,3,4,5,6],[4,5,6],[2,3,4]],[]⟩),(([62],3),⟨[0,1,8],[],[]⟩),(([62,29],3),⟨[0,1,8],[[0,3,4,5,6,8,63,64,65]],[]⟩),(([62,29,24],3),⟨[0,1,8],[[0,3,4,5,6,8,63,64,65],[0,1,4,5,6,10,11,12,13]],[]⟩),(([62,29,24,9],3),⟨[0,1,8],[[0,3,4,5],[4,5,6],[2,3,4]],[]⟩),(([62,63],3),⟨[0,1,8],[[0,1,5,6,18,19,20,21,22]],[]⟩),(([62,63,29],3),⟨[0,1,8],[[0,1,5,6,18,19,20,21,22],[0,3,4,5,6,43,44,45]],[]⟩),(([62,63,29,24],3),⟨[0,1,8],[[0,1,5,6,18,19,20,21,22],[0,3,4,5,6,43,44,45],[0,1,4,5,6,10,11,12,13]],[]⟩),(([62,63,29,24,9],3),⟨[0,1,8],[[0,1,4,5],[0,3,4,5,6],[4,5,6],[2,3,4]],[]⟩),(([62],4),⟨[0,7,8],[],[]⟩),(([62,29],4),⟨[0,7,8],[[0,3,4,5,6,8,63,64,65]],[]⟩),(([62,29,24],4),⟨[0,7,8],[[0,3,4,5,6,8,63,64,65],[0,1,4,5,6,10,11,12,13]],[]⟩),(([62,29,24,9],4),⟨[0,7,8],[[0,3,4,5],[4,5,6],[2,3,4]],[]⟩),(([62,63],4),⟨[0,7,8],[[0,1,5,6,18,19,20,21,22]],[]⟩),(([62,63,29],4),⟨[0,7,8],[[0,1,5,6,18,19,20,21,22],[0,3,4,5,6,43,44,45]],[]⟩),(([62,63,29,24],4),⟨[0,7,8],[[0,1,5,6,18,19,20,21,22],[0,3,4,5,6,43,44,45],[0,1,4,5,6,10,11,12,13]],[]⟩),(([62,63,29,24,9],4),⟨[0,7,8],[[0,1,4,5],[0,3,4,5,6],[4,5,6],[2,3,4]],[]⟩),(([62],5),⟨[0,8,9,10],[],[]⟩),(([62,29],5),⟨[0,8,9,10],[[0,3,4,5,6,8,63,64,65]],[]⟩),(([62,29,24],5),⟨[0,8,9,10],[[0,3,4,5,6,8,63,64,65],[0,1,4,5,6,10,11,12,13]],[]⟩),(([62,29,24,9],5),⟨[0,8,9,10],[[0,3,4,5],[4,5,6],[2,3,4]],[]⟩),(([62,63],5),⟨[0,8,9,10],[[0,1,5,6,18,19,20,21,22]],[]⟩),(([62,63,29],5),⟨[0,8,9,10],[[0,1,5,6,18,19,20,21,22],[0,3,4,5,6,43,44,45]],[]⟩),(([62,63,29,24],5),⟨[0,8,9,10],[[0,1,5,6,18,19,20,21,22],[0,3,4,5,6,43,44,45],[0,1,4,5,6,10,11,12,13]],[]⟩),(([62,63,29,24,9],5),⟨[0,8,9,10],[[0,1,4,5],[0,3,4,5,6],[4,5,6],[2,3,4]],[]⟩),(([62],6),⟨[0,8,9,10],[],[]⟩),(([62,29],6),⟨[0,8,9,10],[[0,3,4,5,6,8,63,64,65]],[]⟩),(([62,29,24],6),⟨[0,8,9,10],[[0,3,4,5,6,8,63,64,65],[0,1,4,5,6,10,11,12,13]],[]⟩),(([62,29,24,9],6),⟨[0,8,9,10],[[0,3,4,5],[4,5,6],[2,3,4]],[]⟩),(([62,63],6),⟨[0,8,9,10],[[0,1,5,6,18,19,20,21,22]],[]⟩),(([62,63,29],6),⟨[0,8,9,10],[[0,1,5,6,18,19,20,21,22],[0,3,4,5,6,43,44,45]],[]⟩),(([62,63,29,24],6),⟨[0,8,9,10],[[0,1,5,6,18,19,20,21,22],[0,3,4,5,6,43,44,45],[0,1,4,5,6,10,11,12,13]],[]⟩),(([62,63,29,24,9],6),⟨[0,8,9,10],[[0,1,4,5],[0,3,4,5,6],[4,5,6],[2,3,4]],[]⟩),(([62],7),⟨[8,9],[],[]⟩),(([62,29],7),⟨[8,9],[[0,3,4,5,6,8,63,64,65]],[]⟩),(([62,29,24],7),⟨[8,9],[[0,3,4,5,6,8,63,64,65],[0,1,4,5,6,10,11,12,13]],[]⟩),(([62,29,24,9],7),⟨[8,9],[[0,3,4,5],[4,5,6],[2,3,4]],[]⟩),(([62,63],7),⟨[8,9],[[0,1,5,6,18,19,20,21,22]],[]⟩),(([62,63,29],7),⟨[8,9],[[0,1,5,6,18,19,20,21,22],[0,3,4,5,6,43,44,45]],[]⟩),(([62,63,29,24],7),⟨[8,9],[[0,1,5,6,18,19,20,21,22],[0,3,4,5,6,43,44,45],[0,1,4,5,6,10,11,12,13]],[]⟩),(([62,63,29,24,9],7),⟨[8,9],[[0,1,4,5],[0,3,4,5,6],[4,5,6],[2,3,4]],[]⟩)]),
 (63,[(([63],0),⟨[0,1],[],[]⟩),(([63,29],0),⟨[0,1],[[0,3,4,5,6,43,44,45]],[]⟩),(([63,29,24],0),⟨[0,1],[[0,3,4,5,6,43,44,45],[0,1,4,5,6,10,11,12,13]],[]⟩),(([63,29,24,9],0),⟨[0,1],[[0,3,4,5,6],[4,5,6],[2,3,4]],[]⟩),(([63],2),⟨[0,1,5],[],[]⟩),(([63,29],2),⟨[0,1,5],[[0,3,4,5,6,43,44,45]],[]⟩),(([63,29,24],2),⟨[0,1,5],[[0,3,4,5,6,43,44,45],[0,1,4,5,6,10,11,12,13]],[]⟩),(([63,29,24,9],2),⟨[0,1,5],[[0,3,4,5,6],[4,5,6],[2,3,4]],[]⟩),(([63],3),⟨[],[],[]⟩),(([63,29],3),⟨[],[[0,3,4,5,6,43,44,45]],[]⟩),(([63,29,24],3),⟨[],[[0,3,4,5,6,43,44,45],[0,1,4,5,6,10,11,12,13]],[]⟩),(([63,29,24,9],3),⟨[],[[0,3,4,5,6],[4,5,6],[2,3,4]],[]⟩),(([63],4),⟨[0,1,5],[],[]⟩),(([63,29],4),⟨[0,1,5],[[0,3,4,5,6,43,44,45]],[]⟩),(([63,29,24],4),⟨[0,1,5],[[0,3,4,5,6,43,44,45],[0,1,4,5,6,10,11,12,13]],[]⟩),(([63,29,24,9],4),⟨[0,1,5],[[0,3,4,5,6],[4,5,6],[2,3,4]],[]⟩),(([63],5),⟨[0,1,5,6],[],[]⟩),(([63,29],5),⟨[0,1,5,6],[[0,3,4,5,6,43,44,45]],[]⟩),(([63,29,24],5),⟨[0,1,5,6],[[0,3,4,5,6,43,44,45],[0,1,4,5,6,10,11,12,13]],[]⟩),(([63,29,24,9],5),⟨[0,1,5,6],[[0,3,4,5,6],[4,5,6],[2,3,4]],[]⟩),(([63],6),⟨[0,1,5,6,7,8,9],[],[]⟩),(([63,29],6),⟨[0,1,5,6,7,8,9],[[0,3,4,5,6,43,44,45]],[]⟩),(([63,29,24],6),⟨[0,1,5,6,7,8,9],[[0,3,4,5,6,43,44,45],[0,1,4,5,6,10,11,12,13]],[]⟩),(([63,29,24,9],6),⟨[0,1,5,6,7,8,9],[[0,3,4,5,6],[4,5,6],[2,3,4]],[]⟩),(([63],7),⟨[0,1,5,6,7,8,9],[],[]⟩),(([63,29],7),⟨[0,1,5,6,7,8,9],[[0,3,4,5,6,43,44,45]],[]⟩),(([63,29,24],7),⟨[0,1,5,6,7,8,9],[[0,3,4,5,6,43,44,45],[0,1,4,5,6,10,11,12,13]],[]⟩),(([63,29,24,9],7),⟨[0,1,5,6,7,8,9],[[0,3,4,5,6],[4,5,6],[2,3,4]],[]⟩),(([63],10),⟨[0,1,5,6,7,10],[],[]⟩),(([63,29],10),⟨[0,1,5,6,7,10],[[0,3,4,5,6,43,44,45]],[]⟩),(([63,29,24],10),⟨[0,1,5,6,7,10],[[0,3,4,5,6,43,44,45],[0,1,4,5,6,10,11,12,13]],[]⟩),(([63,29,24,9],10),⟨[0,1,5,6,7,10],[[0,3,4,5,6],[4,5,6],[2,3,4]],[]⟩),(([63],11),⟨[0,1,6,10,11,12],[],[]⟩),(([63,29],11),⟨[0,1,6,10,11,12],[[0,3,4,5,6,43,44,45]],[]⟩),(([63,29,24],11),⟨[0,1,6,10,11,12],[[0,3,4,5,6,43,44,45],[0,1,4,5,6,10,11,12,13]],[]⟩),(([63,29,24,9],11),⟨[0,1,6,10,11,12],[[0,3,4,5,6],[4,5,6],[2,3,4]],[]⟩),(([63],12),⟨[0,1,6,10,11,12],[],[]⟩),(([63,29],12),⟨[0,1,6,10,11,12],[[0,3,4,5,6,43,44,45]],[]⟩),(([63,29,24],12),⟨[0,1,6,10,11,12],[[0,3,4,5,6,43,44,45],[0,1,4,5,6,10,11,12,13]],[]⟩),(([63,29,24,9],12),⟨[0,1,6,10,11,12],[[0,3,4,5,6],[4,5,6],[2,3,4]],[]⟩),(([63],15),⟨[0,6,10],[],[]⟩),(([63,29],15),⟨[0,6,10],[[0,3,4,5,6,43,44,45]],[]⟩),(([63,29,24],15),⟨[0,6,10],[[0,3,4,5,6,43,44,45],[0,1,4,5,6,10,11,12,13]],[]⟩),(([63,29,24,9],15),⟨[0,6,10],[[0,3,4,5,6],[4,5,6],[2,3,4]],[]⟩),(([63],16),⟨[0,10],[],[]⟩),(([63,29],16),⟨[0,10],[[0,3,4,5,6,43,44,45]],[]⟩),(([63,29,24],16),⟨[0,10],[[0,3,4,5,6,43,44,45],[0,1,4,5,6,10,11,12,13]],[]⟩),(([63,29,24,9],16),⟨[0,10],[[0,3,4,5,6],[4,5,6],[2,3,4]],[]⟩),(([63],17),⟨[],[],[]⟩),(([63,29],17),⟨[],[[0,3,4,5,6,43,44,45]],[]⟩),(([63,29,24],17),⟨[],[[0,3,4,5,6,43,44,45],[0,1,4,5,6,10,11,12,13]],[]⟩),(([63,29,24,9],17),⟨[],[[0,3,4,5,6],[4,5,6],[2,3,4]],[]⟩)]),
 (66,[(([66],5),⟨[2,5],[],[]⟩),(([66],10),⟨[2,5],[],[]⟩),(([66],13),⟨[2,5],[],[]⟩),(([66],16),⟨[2,5],[],[]⟩),(([66],19),⟨[2,5],[],[]⟩),(([66],24),⟨[2,5],[],[]⟩)]),
 (71,[(([71],4),⟨[0,1,12],[],[]⟩),(([71,33],4),⟨[0,1,12],[[1,2,6,8,9,11,12,41,42,43,47,48,49,50,51]],[]⟩),(([71,33,11],4),⟨[0,1,12],[[1,2,6,8,9,11,12,41,42,43,47,48,49,50,51],[3,4,7,10,11,12,30,31,32,33,34,35,36]],[]⟩),(([71,33,40],4),⟨[0,1,12],[[1,2,6,8,9,11,12,41,42,43,47,48,49,50,51],[1,2,6,9,10,11,12,27,28,29,30,31,32]],[]⟩)]),
 (72,[(([72],3),⟨[],[],[]⟩),(([72],4),⟨[0,1,5],[],[]⟩)]),
 (76,[(([76],5),⟨[0,1,4,5,6],[],[]⟩),(([76],10),⟨[4,7],[],[]⟩),(([76],11),⟨[1,4,7],[],[]⟩),(([76],23),⟨[4,8,9,10],[],[]⟩),(([76],24),⟨[4],[],[]⟩),(([76],25),⟨[4,8,9,10],[],[]⟩)]),
 (78,[(([78],9),⟨[0,2,3,4,5],[],[]⟩),(([78],10),⟨[2,3,4,5],[],[]⟩),(([78],11),⟨[2,3,4,5],[],[]⟩),(([78],12),⟨[2,4,5,6],[],[]⟩)]),
 (79,[(([79],10),⟨[0,5],[],[]⟩),(([79],15),⟨[0,5],[],[]⟩)]),
 (81,[(([81],4),⟨[0,12],[],[]⟩),(([81],7),⟨[0,3],[],[]⟩)]),
 (83,[(([83],2),⟨[4,5,6],[],[]⟩),(([83],3),⟨[],[],[]⟩),(([83],4),⟨[4,5],[],[]⟩),(([83],11),⟨[4,7,8],[],[]⟩),(([83],12),⟨[],[],[]⟩),(([83],13),⟨[4,7,8],[],[]⟩)]),
 (84,[(([84],2),⟨[4],[],[]⟩),(([84],3),⟨[1,2,4],[],[]⟩),(([84],8),⟨[4,6,7],[],[]⟩)]),
 (85,[(([85],5),⟨[0,3,4],[],[]⟩),(([85],8),⟨[0,3,4],[],[]⟩)]),
 (86,[(([86],2),⟨[0,4],[],[]⟩),(([86],5),⟨[0,4],[],[]⟩),(([86],3),⟨[0,4],[],[]⟩)]),
 (87,[(([87],3),⟨[4,5],[],[]⟩),(([87],4),⟨[4,5],[],[]⟩),(([87],5),⟨[4,5],[],[]⟩),(([87],6),⟨[4,5,6],[],[]⟩),(([87],9),⟨[4,5,6,8],[],[]⟩),(([87],10),⟨[4,5,6,7,8],[],[]⟩),(([87],11),⟨[4,5,6,7],[],[]⟩),(([87],13),⟨[4,5,6,7,8,9],[],[]⟩),(([87],14),⟨[4,5,6,7,8,10],[],[]⟩),(([87],17),⟨[4,5,6,7,8],[],[]⟩)]),
 (88,[(([88],2),⟨[4],[],[]⟩),(([88],3),⟨[1,2,4],[],[]⟩),(([88],9),⟨[1,4,6],[],[]⟩)]),
 (100,[(([100],8),⟨[0,1],[],[]⟩),(([100],10),⟨[0,6],[],[]⟩),(([100],11),⟨[0,6],[],[]⟩),(([100],20),⟨[0,7],[],[]⟩),(([100],21),⟨[7],[],[]⟩),(([100],22),⟨[0,7],[],[]⟩),(([100],23),⟨[7],[],[]⟩),(([100],24),⟨[0,7],[],[]⟩),(([100],25),⟨[7],[],[]⟩),(([100],26),⟨[0,7],[],[]⟩),(([100],27),⟨[7],[],[]⟩),(([100],28),⟨[0,7],[],[]⟩),(([100],29),⟨[7],[],[]⟩),(([100],30),⟨[0,7],[],[]⟩),(([100],35),⟨[0,7,8],[],[]⟩),(([100],37),⟨[0,7,8,9],[],[]⟩),(([100],38),⟨[7,8,9],[],[]⟩),(([100],39),⟨[7,8,9],[],[]⟩)]),
 (107,[(([107],3),⟨[0,4,5,9],[],[]⟩),(([107],9),⟨[0,4,5,7,9],[],[]⟩)]),
 (113,[(([113],0),⟨[0],[],[]⟩),(([113,63],0),⟨[0],[[0,1,5,6,7,8,10,41,42]],[]⟩),(([113,63,29],0),⟨[0],[[0,1,5,6,7,8,10,41,42],[0,3,4,5,6,43,44,45]],[]⟩),(([113,63,29,24],0),⟨[0],[[0,1,5,6,7,8,10,41,42],[0,3,4,5,6,43,44,45],[0,1,4,5,6,10,11,12,13]],[]⟩),(([113,63,29,24,9],0),⟨[0],[[0,1,4,5,6,7],[0,3,4,5,6],[4,5,6],[2,3,4]],[]⟩),(([113],2),⟨[0],[],[]⟩),(([113,63],2),⟨[0],[[0,1,5,6,7,8,10,41,42]],[]⟩),(([113,63,29],2),⟨[0],[[0,1,5,6,7,8,10,41,42],[0,3,4,5,6,43,44,45]],[]⟩),(([113,63,29,24],2),⟨[0],[[0,1,5,6,7,8,10,41,42],[0,3,4,5,6,43,44,45],[0,1,4,5,6,10,11,12,13]],[]⟩),(([113,63,29,24,9],2),⟨[0],[[0,1,4,5,6,7],[0,3,4,5,6],[4,5,6],[2,3,4]],[]⟩)]),
 (116,[(([116],3),⟨[0,1,7,8],[],[]⟩)]),
 (117,[(([117],5),⟨[6,7],[],[]⟩),(([117],8),⟨[6,7,8],[],[]⟩),(([117],12),⟨[6,7,9],[],[]⟩)]),
 (121,[(([121],3),⟨[0,1,2],[],[]⟩)]),
 (122,[(([122],2),⟨[0,7],[],[]⟩),(([122],3),⟨[0,7,8],[],[]⟩)]),
 (124,[(([124],3),⟨[0,1,5,6],[],[(5,9,1)]⟩)]),
 (126,[(([126],2),⟨[0,1,5],[],[]⟩),(([126],4),⟨[0,1,5],[],[]⟩)]),
 (129,[(([129],3),⟨[0,3,9,10,11],[],[]⟩),(([129],8),⟨[0,3,9,10,11],[],[]⟩),(([129],10),⟨[0,6],[],[]⟩),(([129],11),⟨[6,25,26,27],[],[(6,9,1)]⟩)]),
 (130,[(([130],7),⟨[0,5],[],[]⟩),(([130],12),⟨[0,6,8],[],[]⟩),(([130],17),⟨[0,1],[],[]⟩),(([130],18),⟨[1,45],[],[]⟩)]),
 (131,[(([131],2),⟨[0],[],[]⟩),(([131],3),⟨[0,1],[],[]⟩),(([131],4),⟨[0,1],[],[]⟩),(([131],5),⟨[0,1],[],[]⟩)]),
 (132,[(([132],3),⟨[5,6,13],[],[(5,171,2)]⟩),(([132,83],3),⟨[5,6,13],[[0,4,5,6,9,10,11,12,13,14]],[(5,171,2)]⟩),(([132],8),⟨[5,6,8,9,13],[],[]⟩),(([132,83],8),⟨[5,6,8,9,13],[[0,4,5,6,9,10,11,12,13,14]],[]⟩),(([132],10),⟨[5,6,8,13],[],[]⟩),(([132,83],10),⟨[5,6,8,13],[[0,4,5,6,9,10,11,12,13,14]],[]⟩),(([132],11),⟨[5,6,8,13],[],[]⟩),(([132,83],11),⟨[5,6,8,13],[[0,4,5,6,9,10,11,12,13,14]],[]⟩)]),
 (135,[(([135],2),⟨[],[],[]⟩),(([135],3),⟨[0,1,2,3],[],[]⟩)]),
 (136,[(([136],3),⟨[0,1,2,7,8],[],[]⟩),(([136,87],3),⟨[0,1,2,7,8],[[4,5,6,7,8,9,14,15,22,23,26,27,35,36]],[]⟩),(([136],4),⟨[0,1,2,7,8],[],[]⟩),(([136,87],4),⟨[0,1,2,7,8],[[4,5,6,7,8,9,14,15,22,23,26,27,35,36]],[]⟩),(([136],6),⟨[0,1,7,8],[],[]⟩),(([136,87],6),⟨[0,1,7,8],[[4,5,6,7,8,9,14,15,22,23,26,27,35,36]],[]⟩)]),
 (137,[(([137],2),⟨[],[],[]⟩),(([137,87],2),⟨[],[[4,5,6,7,8,16,17,18,24,25,28,29]],[]⟩)]),
 (138,[(([138],2),⟨[],[],[]⟩),(([138],3),⟨[0,1,2,3],[],[]⟩)]),
 (142,[(([142],10),⟨[0,1,5],[],[]⟩),(([142],11),⟨[0,1,5],[],[]⟩),(([142],12),⟨[0,1,5,39,40,41],[],[]⟩),(([142],16),⟨[0,1,5,7,39,40,41],[],[]⟩),(([142],20),⟨[0,1,8],[],[]⟩),(([142],21),⟨[0,1,8],[],[]⟩),(([142],22),⟨[1,8,63,64,65],[],[]⟩)]),
 (144,[(([144],2),⟨[],[],[]⟩),(([144],3),⟨[0],[],[]⟩),(([144],6),⟨[3,4,17],[],[]⟩)]),
 (148,[(([148],1),⟨[0,1],[],[]⟩),(([148],3),⟨[0,1],[],[]⟩)]),
 (149,[(([149],2),⟨[0,1],[],[]⟩)]),
 (152,[(([152],3),⟨[0,1,5,6],[],[]⟩),(([152],5),⟨[0,1,5,6],[],[]⟩)]),
 (156,[(([156],3),⟨[],[],[]⟩),(([156],4),⟨[0,1,5],[],[]⟩),(([156],9),⟨[0,1],[],[]⟩),(([156],10),⟨[0,1,5],[],[]⟩),(([156],15),⟨[0,1,5,6,7,8,9,10],[],[]⟩),(([156],21),⟨[0,1,5,6,7,8,9,10],[],[]⟩),(([156],22),⟨[8],[],[]⟩),(([156],23),⟨[0,1,5,6,7,8,9,10],[],[]⟩),(([156],26),⟨[0,1,8],[],[]⟩),(([156],30),⟨[0,1,5,6,7,8,9,10],[],[]⟩),(([156],31),⟨[0,1,8],[],[]⟩)]),
 (157,[(([157],2),⟨[],[],[]⟩),(([157],3),⟨[0],[],[]⟩),(([157],4),⟨[],[],[]⟩),(([157],5),⟨[0],[],[]⟩),(([157],10),⟨[],[],[]⟩)]),
 (158,[(([158],5),⟨[0,3],[],[]⟩)]),
 (162,[(([162],7),⟨[0,1,2,3],[],[]⟩),(([162],11),⟨[0,1,2,3,9,10],[],[]⟩)]),
 (163,[(([163],3),⟨[0,3,4],[],[]⟩)]),
 (169,[(([169],4),⟨[0,4,5,6],[],[]⟩),(([169],10),⟨[0,4,6,7],[],[]⟩),(([169],11),⟨[0,4,5,6,7],[],[]⟩),(([169],5),⟨[0,4,5,6],[],[]⟩)]),
 (170,[(([170],3),⟨[0,1],[],[]⟩),(([170,129],3),⟨[0,1],[[0,3,6,23,24]],[]⟩)]),
 (171,[(([171],36),⟨[0,1,2,3,4,5,6,11,13,14,15,16,34,35,36,37,38,39,40,41,42,43,44,45,46,47,52,53,65,66,67,68,69,70,71,72,73,74,75,76,77,78,79,80,81,82,83,84,85,86,87,88,89,90,91,92,93,94,95,96,97,98,99,100,101,102,103,104,105,106,107,108,109,110,111,112,113,114,115,116,117,118,119,120,121,122,123,124,125,126,127,128,129,130,131,132,133,134,135,136,137,138,139,140,141,142,143,144,145,146,147,148,149,150,151,152,153,154,155,156,157,158,159,160,161,162,163,164,165,166,167,168,169,170,174,175,176,177,178,179,180,181,182],[],[]⟩),(([171],38),⟨[175],[],[]⟩),(([171],5),⟨[0,1,2,3,4,5,6,7,8,9,10,11,13,14,15,16,17,18,19,20,21,22,34,35,36,37,38,39,40,41,42,43,44,45,46,47,52,53,65,66,67,68,69,70,71,72,73,74,75,76,77,78,79,80,81,82,83,84,85,86,87,88,89,90,91,92,93,94,95,96,97,98,99,100,101,102,103,104,105,106,107,108,109,110,111,112,113,114,115,116,117,118,119,120,121,122,123,124,125,126,127,128,129,130,131,132,133,134,135,136,137,138,139,140,141,142,143,144,145,146,147,148,149,150,151,152,153,154,155,156,157,158,159,160,161,162,163,164,165,166,167,168,169,170,171,172,173,174,175,176,177,178,179,180,181,182,183,184,185,186],[],[]⟩),(([171],11),⟨[0,1,2,3,4,5,6,7,8,9,10,11,13,14,15,16,17,18,19,20,21,22,23,24,25,26,27,28,29,30,31,32,33,34,35,36,37,38,39,40,41,42,43,44,45,46,47,52,53,65,66,67,68,69,70,71,72,73,74,75,76,77,78,79,80,81,82,83,84,85,86,87,88,89,90,91,92,93,94,95,96,97,98,99,100,101,102,103,104,105,106,107,108,109,110,111,112,113,114,115,116,117,118,119,120,121,122,123,124,125,126,127,128,129,130,131,132,133,134,135,136,137,138,139,140,141,142,143,144,145,146,147,148,149,150,151,152,153,154,155,156,157,158,159,160,161,162,163,164,165,166,167,168,169,170,171,172,173,174,175,176,177,178,179,180,181,182,183,184,185,186],[],[]⟩),(([171],12),⟨[0,1,2,3,4,5,6,7,8,9,10,11,12,13,14,15,16,17,18,19,20,21,22,23,24,25,26,27,28,29,30,31,32,33,34,35,36,37,38,39,40,41,42,43,44,45,46,47,52,53,65,66,67,68,69,70,71,72,73,74,75,76,77,78,79,80,81,82,83,84,85,86,87,88,89,90,91,92,93,94,95,96,97,98,99,100,101,102,103,104,105,106,107,108,109,110,111,112,113,114,115,116,117,118,119,120,121,122,123,124,125,126,127,128,129,130,131,132,133,134,135,136,137,138,139,140,141,142,143,144,145,146,147,148,149,150,151,152,153,154,155,156,157,158,159,160,161,162,163,164,165,166,167,168,169,170,171,172,173,174,175,176,177,178,179,180,181,182,183,184,185,186],[],[]⟩)]),
 (173,[(([173],2),⟨[0,2,4],[],[]⟩)]),
 (175,[(([175],1),⟨[0,1],[],[]⟩)]),
 (176,[(([176],1),⟨[0,1],[],[]⟩)]),
 (177,[(([177],1),⟨[0,1],[],[]⟩),(([177],5),⟨[0,1,5,6],[],[]⟩)]),
 (186,[(([186],9),⟨[10,11],[],[]⟩),(([186],10),⟨[11],[],[]⟩)]),
 (190,[(([190],5),⟨[0,1,5,6,7,8,9],[],[]⟩),(([190],9),⟨[],[],[]⟩),(([190],10),⟨[0,1,5,6,7,8],[],[]⟩),(([190],11),⟨[0,1,5,6,7,8,10],[],[]⟩)]),
 (192,[(([192],3),⟨[0,5],[],[]⟩),(([192],4),⟨[0,1],[],[]⟩),(([192],6),⟨[0,1,6,7],[],[]⟩)]),
 (193,[(([193],6),⟨[0,1,5],[],[]⟩)]),
 (197,[(([197],2),⟨[0,1,7,8],[],[]⟩)]),
 (201,[(([201],3),⟨[0],[],[]⟩)]),
 (202,[(([202],10),⟨[0,4,5,6],[],[]⟩),(([202],13),⟨[0,4,5],[],[]⟩),(([202],15),⟨[0,4,5],[],[]⟩)]),
 (208,[(([208],3),⟨[0,1,2],[],[]⟩),(([208],5),⟨[0,1,2],[],[]⟩),(([208],17),⟨[2,8,9,10,11,13,14,15,16],[],[]⟩),(([208],18),⟨[2,8,9,10,11,13,14,15,16],[],[]⟩),(([208],21),⟨[2,8,9,10,11,13,14,15],[],[]⟩),(([208],24),⟨[2,8,9,10,14,15,16,17,18],[],[]⟩),(([208],25),⟨[2,8,9,10,14,15,16,17,18],[],[]⟩),(([208],28),⟨[2,8,14,15,17,18],[],[]⟩)]),
 (211,[(([211],3),⟨[0,4,5],[],[]⟩),(([211],8),⟨[4,6,7,8],[],[]⟩)]),
 (212,[(([212],2),⟨[2,4],[],[]⟩)]),
 (217,[(([217],15),⟨[],[],[]⟩),(([217],16),⟨[0,5,8,10],[],[]⟩),(([217],20),⟨[],[],[]⟩),(([217],21),⟨[0,5,8,10,11],[],[]⟩),(([217],25),⟨[],[],[]⟩),(([217],26),⟨[5,10,11,12],[],[]⟩)]),
 (218,[(([218],4),⟨[0,2],[],[]⟩),(([218],7),⟨[0,2],[],[]⟩)]),
 (234,[(([234],5),⟨[0,2,4,5],[],[]⟩),(([234],6),⟨[0,2,4,5],[],[]⟩),(([234],7),⟨[0,2,4,5],[],[]⟩)]),
 (235,[(([235],2),⟨[0,1,7,8],[],[]⟩)]),
 (239,[(([239],1),⟨[0,2,3],[],[]⟩),(([239,234],1),⟨[0,2,3],[[0,2,4,5,26,27]],[]⟩)]),
 (241,[(([241],4),⟨[1,2,4,5,6],[],[]⟩),(([241],6),⟨[2,4,5,6],[],[]⟩)])]
noncomputable def EE : Env := { P := Tryz.prog, tt, ext := [(209, zvn), (210, z5b), (214, zig)], ann, inl := [(9, 24), (11, 32), (11, 33), (24, 25), (24, 28), (24, 29), (24, 55), (25, 26), (26, 58), (26, 59), (28, 59), (28, 61), (28, 62), (28, 63), (29, 59), (29, 61), (29, 62), (29, 63), (29, 65), (33, 65), (33, 71), (40, 32), (40, 33), (40, 65), (47, 97), (58, 59), (58, 106), (62, 59), (63, 59), (63, 61), (63, 62), (63, 113), (83, 132), (87, 136), (87, 137), (100, 148), (100, 149), (100, 150), (100, 151), (106, 61), (106, 62), (106, 113), (113, 59), (129, 170), (142, 148), (142, 149), (142, 151), (148, 184), (148, 185), (149, 184), (234, 237), (234, 238), (234, 239)], mt := [((55, "computus/read.half"), 58), ((55, "computus/read.iso"), 26), ((55, "computus/read.letter"), 106), ((55, "computus/read.more"), 61), ((55, "computus/read.named"), 29), ((55, "computus/read.signed"), 62), ((55, "computus/read.sql"), 28), ((55, "computus/read.time"), 63), ((63, "computus/read.take"), 65), ((118, "computus/read.date"), 234), ((158, "computus/read.date"), 240), ((160, "computus/read.date"), 241), ((171, "computus/clock.one"), 133), ((171, "computus/clock.two"), 134), ((173, "computus/computusref03.num"), 136), ((173, "computus/computusref03.sign"), 137), ((183, "Grow"), 148), ((183, "Len"), 150), ((183, "String"), 151), ((183, "WriteString"), 149), ((183, "strings.copyCheck"), 184), ((183, "strings.grow"), 185), ((212, "strings.contains"), 174)], eqs := [24, 33, 37], same := [206], mnz := [(207, 5)] }
end Dv
