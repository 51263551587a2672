/- The seat's functions, as equations. -/
import Derived.Test.YtdniadhpgohccaaGreatDoorWL1
import Derived.Test.YtdniadhpgohccaaGreatDoorProg
set_option linter.unusedVariables false
set_option linter.unusedSimpArgs false
namespace Dv
open Go Go.Proofs
def tt:List TI:=[
 ⟨.tuple [],1,0,.undef,[.other]⟩,
 ⟨.func,1,8,.nilfn,[.other]⟩,
 ⟨.int .i64,1,8,(.int .i64 0),[.int .i64]⟩,
 ⟨.int .i64,1,8,(.int .i64 0),[.int .i64]⟩,
 ⟨.bool,1,1,(.bool false),[.bool]⟩,
 ⟨.int .u8,1,1,(.int .u8 0),[.int .u8]⟩,
 ⟨.int .u8,1,1,(.int .u8 0),[.int .u8]⟩,
 ⟨.struct [(0,2),(1,3),(2,4),(3,6)],4,24,(.agg [(.int .i64 0),(.int .i64 0),(.bool false),(.int .u8 0)]),[.int .i64,.int .i64,.bool,.int .u8]⟩,
 ⟨.struct [(0,2),(1,3),(2,4),(3,6)],4,24,(.agg [(.int .i64 0),(.int .i64 0),(.bool false),(.int .u8 0)]),[.int .i64,.int .i64,.bool,.int .u8]⟩,
 ⟨.str,1,16,(.str []),[.str]⟩,
 ⟨.str,1,16,(.str []),[.str]⟩,
 ⟨.str,1,16,(.str []),[.str]⟩,
 ⟨.int .u64,1,8,(.int .u64 0),[.int .u64]⟩,
 ⟨.struct [(0,9),(1,12)],2,24,(.agg [(.str []),(.int .u64 0)]),[.str,.int .u64]⟩,
 ⟨.struct [(0,9),(1,12)],2,24,(.agg [(.str []),(.int .u64 0)]),[.str,.int .u64]⟩,
 ⟨.ptr 247,1,8,.nilp,[.other]⟩,
 ⟨.ptr 250,1,8,.nilp,[.other]⟩,
 ⟨.ptr 257,1,8,.nilp,[.other]⟩,
 ⟨.struct [(0,17)],1,8,(.agg [.nilp]),[.other]⟩,
 ⟨.struct [(0,17)],1,8,(.agg [.nilp]),[.other]⟩,
 ⟨.iface false,1,16,.nili,[.other]⟩,
 ⟨.int .i32,1,4,(.int .i32 0),[.int .i32]⟩,
 ⟨.func,1,8,.nilfn,[.other]⟩,
 ⟨.struct [(0,3),(1,2),(2,2),(3,2)],4,32,(.agg [(.int .i64 0),(.int .i64 0),(.int .i64 0),(.int .i64 0)]),[.int .i64,.int .i64,.int .i64,.int .i64]⟩,
 ⟨.struct [(0,3),(1,2),(2,2),(3,2)],4,32,(.agg [(.int .i64 0),(.int .i64 0),(.int .i64 0),(.int .i64 0)]),[.int .i64,.int .i64,.int .i64,.int .i64]⟩,
 ⟨.int .i64,1,8,(.int .i64 0),[.int .i64]⟩,
 ⟨.tuple [24,25],1,0,.undef,[.other]⟩,
 ⟨.func,1,8,.nilfn,[.other]⟩,
 ⟨.func,1,8,.nilfn,[.other]⟩,
 ⟨.func,1,8,.nilfn,[.other]⟩,
 ⟨.struct [(0,3),(1,3),(2,3)],3,24,(.agg [(.int .i64 0),(.int .i64 0),(.int .i64 0)]),[.int .i64,.int .i64,.int .i64]⟩,
 ⟨.struct [(0,3),(1,3),(2,3)],3,24,(.agg [(.int .i64 0),(.int .i64 0),(.int .i64 0)]),[.int .i64,.int .i64,.int .i64]⟩,
 ⟨.struct [(0,3),(1,2)],2,16,(.agg [(.int .i64 0),(.int .i64 0)]),[.int .i64,.int .i64]⟩,
 ⟨.struct [(0,3),(1,2)],2,16,(.agg [(.int .i64 0),(.int .i64 0)]),[.int .i64,.int .i64]⟩,
 ⟨.tuple [33,25],1,0,.undef,[.other]⟩,
 ⟨.func,1,8,.nilfn,[.other]⟩,
 ⟨.struct [(0,3),(1,2)],2,16,(.agg [(.int .i64 0),(.int .i64 0)]),[.int .i64,.int .i64]⟩,
 ⟨.struct [(0,3),(1,2)],2,16,(.agg [(.int .i64 0),(.int .i64 0)]),[.int .i64,.int .i64]⟩,
 ⟨.tuple [37,25],1,0,.undef,[.other]⟩,
 ⟨.func,1,8,.nilfn,[.other]⟩,
 ⟨.func,1,8,.nilfn,[.other]⟩,
 ⟨.func,1,8,.nilfn,[.other]⟩,
 ⟨.tuple [9,25],1,0,.undef,[.other]⟩,
 ⟨.func,1,8,.nilfn,[.other]⟩,
 ⟨.func,1,8,.nilfn,[.other]⟩,
 ⟨.func,1,8,.nilfn,[.other]⟩,
 ⟨.func,1,8,.nilfn,[.other]⟩,
 ⟨.func,1,8,.nilfn,[.other]⟩,
 ⟨.slice 5,1,24,.sl0,[.slice 1]⟩,
 ⟨.slice 9,1,24,.sl0,[.slice 1]⟩,
 ⟨.slice 9,1,24,.sl0,[.slice 1]⟩,
 ⟨.func,1,8,.nilfn,[.other]⟩,
 ⟨.tuple [33,4],1,0,.undef,[.other]⟩,
 ⟨.func,1,8,.nilfn,[.other]⟩,
 ⟨.func,1,8,.nilfn,[.other]⟩,
 ⟨.ptr 94,1,8,.nilp,[.other]⟩,
 ⟨.func,1,8,.nilfn,[.other]⟩,
 ⟨.func,1,8,.nilfn,[.other]⟩,
 ⟨.func,1,8,.nilfn,[.other]⟩,
 ⟨.func,1,8,.nilfn,[.other]⟩,
 ⟨.func,1,8,.nilfn,[.other]⟩,
 ⟨.func,1,8,.nilfn,[.other]⟩,
 ⟨.func,1,8,.nilfn,[.other]⟩,
 ⟨.ptr 50,1,8,.nilp,[.other]⟩,
 ⟨.struct [(0,2),(1,2),(2,2)],3,24,(.agg [(.int .i64 0),(.int .i64 0),(.int .i64 0)]),[.int .i64,.int .i64,.int .i64]⟩,
 ⟨.struct [(0,2),(1,2),(2,2)],3,24,(.agg [(.int .i64 0),(.int .i64 0),(.int .i64 0)]),[.int .i64,.int .i64,.int .i64]⟩,
 ⟨.tuple [65,4],1,0,.undef,[.other]⟩,
 ⟨.func,1,8,.nilfn,[.other]⟩,
 ⟨.func,1,8,.nilfn,[.other]⟩,
 ⟨.func,1,8,.nilfn,[.other]⟩,
 ⟨.tuple [49,4],1,0,.undef,[.other]⟩,
 ⟨.func,1,8,.nilfn,[.other]⟩,
 ⟨.tuple [2,2,2,49,4],1,0,.undef,[.other]⟩,
 ⟨.func,1,8,.nilfn,[.other]⟩,
 ⟨.tuple [37,4],1,0,.undef,[.other]⟩,
 ⟨.func,1,8,.nilfn,[.other]⟩,
 ⟨.tuple [37,9,25],1,0,.undef,[.other]⟩,
 ⟨.func,1,8,.nilfn,[.other]⟩,
 ⟨.func,1,8,.nilfn,[.other]⟩,
 ⟨.func,1,8,.nilfn,[.other]⟩,
 ⟨.func,1,8,.nilfn,[.other]⟩,
 ⟨.func,1,8,.nilfn,[.other]⟩,
 ⟨.func,1,8,.nilfn,[.other]⟩,
 ⟨.func,1,8,.nilfn,[.other]⟩,
 ⟨.tuple [9,9],1,0,.undef,[.other]⟩,
 ⟨.func,1,8,.nilfn,[.other]⟩,
 ⟨.func,1,8,.nilfn,[.other]⟩,
 ⟨.func,1,8,.nilfn,[.other]⟩,
 ⟨.func,1,8,.nilfn,[.other]⟩,
 ⟨.func,1,8,.nilfn,[.other]⟩,
 ⟨.func,1,8,.nilfn,[.other]⟩,
 ⟨.struct [],0,0,(.agg []),[]⟩,
 ⟨.struct [],0,0,(.agg []),[]⟩,
 ⟨.struct [(0,24),(4,4)],5,40,(.agg [(.int .i64 0),(.int .i64 0),(.int .i64 0),(.int .i64 0),(.bool false)]),[.int .i64,.int .i64,.int .i64,.int .i64,.bool]⟩,
 ⟨.struct [(0,24),(4,4)],5,40,(.agg [(.int .i64 0),(.int .i64 0),(.int .i64 0),(.int .i64 0),(.bool false)]),[.int .i64,.int .i64,.int .i64,.int .i64,.bool]⟩,
 ⟨.func,1,8,.nilfn,[.other]⟩,
 ⟨.tuple [9,9,4],1,0,.undef,[.other]⟩,
 ⟨.func,1,8,.nilfn,[.other]⟩,
 ⟨.func,1,8,.nilfn,[.other]⟩,
 ⟨.func,1,8,.nilfn,[.other]⟩,
 ⟨.func,1,8,.nilfn,[.other]⟩,
 ⟨.func,1,8,.nilfn,[.other]⟩,
 ⟨.ptr 2,1,8,.nilp,[.other]⟩,
 ⟨.func,1,8,.nilfn,[.other]⟩,
 ⟨.func,1,8,.nilfn,[.other]⟩,
 ⟨.func,1,8,.nilfn,[.other]⟩,
 ⟨.arr 8 4,8,8,(.agg [(.bool false),(.bool false),(.bool false),(.bool false),(.bool false),(.bool false),(.bool false),(.bool false)]),[.bool,.bool,.bool,.bool,.bool,.bool,.bool,.bool]⟩,
 ⟨.tuple [9,4],1,0,.undef,[.other]⟩,
 ⟨.func,1,8,.nilfn,[.other]⟩,
 ⟨.tuple [24,3],1,0,.undef,[.other]⟩,
 ⟨.func,1,8,.nilfn,[.other]⟩,
 ⟨.func,1,8,.nilfn,[.other]⟩,
 ⟨.tuple [2,25],1,0,.undef,[.other]⟩,
 ⟨.func,1,8,.nilfn,[.other]⟩,
 ⟨.func,1,8,.nilfn,[.other]⟩,
 ⟨.iface true,1,16,.nili,[.other]⟩,
 ⟨.iface true,1,16,.nili,[.other]⟩,
 ⟨.func,1,8,.nilfn,[.other]⟩,
 ⟨.slice 9,1,24,.sl0,[.slice 1]⟩,
 ⟨.func,1,8,.nilfn,[.other]⟩,
 ⟨.func,1,8,.nilfn,[.other]⟩,
 ⟨.func,1,8,.nilfn,[.other]⟩,
 ⟨.func,1,8,.nilfn,[.other]⟩,
 ⟨.struct [(0,2),(1,2),(2,2),(3,4)],4,32,(.agg [(.int .i64 0),(.int .i64 0),(.int .i64 0),(.bool false)]),[.int .i64,.int .i64,.int .i64,.bool]⟩,
 ⟨.struct [(0,2),(1,2),(2,2),(3,4)],4,32,(.agg [(.int .i64 0),(.int .i64 0),(.int .i64 0),(.bool false)]),[.int .i64,.int .i64,.int .i64,.bool]⟩,
 ⟨.func,1,8,.nilfn,[.other]⟩,
 ⟨.func,1,8,.nilfn,[.other]⟩,
 ⟨.func,1,8,.nilfn,[.other]⟩,
 ⟨.func,1,8,.nilfn,[.other]⟩,
 ⟨.func,1,8,.nilfn,[.other]⟩,
 ⟨.func,1,8,.nilfn,[.other]⟩,
 ⟨.func,1,8,.nilfn,[.other]⟩,
 ⟨.func,1,8,.nilfn,[.other]⟩,
 ⟨.func,1,8,.nilfn,[.other]⟩,
 ⟨.func,1,8,.nilfn,[.other]⟩,
 ⟨.tuple [9,2],1,0,.undef,[.other]⟩,
 ⟨.func,1,8,.nilfn,[.other]⟩,
 ⟨.func,1,8,.nilfn,[.other]⟩,
 ⟨.func,1,8,.nilfn,[.other]⟩,
 ⟨.func,1,8,.nilfn,[.other]⟩,
 ⟨.tuple [2,2,2,25],1,0,.undef,[.other]⟩,
 ⟨.func,1,8,.nilfn,[.other]⟩,
 ⟨.func,1,8,.nilfn,[.other]⟩,
 ⟨.tuple [2,2],1,0,.undef,[.other]⟩,
 ⟨.func,1,8,.nilfn,[.other]⟩,
 ⟨.tuple [33,2,25],1,0,.undef,[.other]⟩,
 ⟨.func,1,8,.nilfn,[.other]⟩,
 ⟨.func,1,8,.nilfn,[.other]⟩,
 ⟨.slice 150,1,24,.sl0,[.slice 2]⟩,
 ⟨.struct [(0,3),(1,3)],2,16,(.agg [(.int .i64 0),(.int .i64 0)]),[.int .i64,.int .i64]⟩,
 ⟨.struct [(0,3),(1,3)],2,16,(.agg [(.int .i64 0),(.int .i64 0)]),[.int .i64,.int .i64]⟩,
 ⟨.func,1,8,.nilfn,[.other]⟩,
 ⟨.func,1,8,.nilfn,[.other]⟩,
 ⟨.func,1,8,.nilfn,[.other]⟩,
 ⟨.func,1,8,.nilfn,[.other]⟩,
 ⟨.func,1,8,.nilfn,[.other]⟩,
 ⟨.func,1,8,.nilfn,[.other]⟩,
 ⟨.func,1,8,.nilfn,[.other]⟩,
 ⟨.str,1,16,(.str []),[.str]⟩,
 ⟨.struct [(0,49),(1,3)],2,32,(.agg [.sl0,(.int .i64 0)]),[.slice 1,.int .i64]⟩,
 ⟨.struct [(0,49),(1,3)],2,32,(.agg [.sl0,(.int .i64 0)]),[.slice 1,.int .i64]⟩,
 ⟨.arr 13 2,13,104,(.agg [(.int .i64 0),(.int .i64 0),(.int .i64 0),(.int .i64 0),(.int .i64 0),(.int .i64 0),(.int .i64 0),(.int .i64 0),(.int .i64 0),(.int .i64 0),(.int .i64 0),(.int .i64 0),(.int .i64 0)]),[.int .i64,.int .i64,.int .i64,.int .i64,.int .i64,.int .i64,.int .i64,.int .i64,.int .i64,.int .i64,.int .i64,.int .i64,.int .i64]⟩,
 ⟨.func,1,8,.nilfn,[.other]⟩,
 ⟨.func,1,8,.nilfn,[.other]⟩,
 ⟨.func,1,8,.nilfn,[.other]⟩,
 ⟨.func,1,8,.nilfn,[.other]⟩,
 ⟨.func,1,8,.nilfn,[.other]⟩,
 ⟨.slice 171,1,24,.sl0,[.slice 2]⟩,
 ⟨.tuple [167,9,4],1,0,.undef,[.other]⟩,
 ⟨.func,1,8,.nilfn,[.other]⟩,
 ⟨.struct [(0,2),(1,3)],2,16,(.agg [(.int .i64 0),(.int .i64 0)]),[.int .i64,.int .i64]⟩,
 ⟨.struct [(0,2),(1,3)],2,16,(.agg [(.int .i64 0),(.int .i64 0)]),[.int .i64,.int .i64]⟩,
 ⟨.func,1,8,.nilfn,[.other]⟩,
 ⟨.ptr 175,1,8,.nilp,[.other]⟩,
 ⟨.struct [(0,9),(1,4)],2,24,(.agg [(.str []),(.bool false)]),[.str,.bool]⟩,
 ⟨.struct [(0,9),(1,4)],2,24,(.agg [(.str []),(.bool false)]),[.str,.bool]⟩,
 ⟨.func,1,8,.nilfn,[.other]⟩,
 ⟨.func,1,8,.nilfn,[.other]⟩,
 ⟨.int .u64,1,8,(.int .u64 0),[.int .u64]⟩,
 ⟨.func,1,8,.nilfn,[.other]⟩,
 ⟨.int .u64,1,8,(.int .u64 0),[.int .u64]⟩,
 ⟨.tuple [180,180],1,0,.undef,[.other]⟩,
 ⟨.func,1,8,.nilfn,[.other]⟩,
 ⟨.ptr 185,1,8,.nilp,[.other]⟩,
 ⟨.struct [(0,183),(1,48)],2,32,(.agg [.nilp,.sl0]),[.other,.slice 1]⟩,
 ⟨.struct [(0,183),(1,48)],2,32,(.agg [.nilp,.sl0]),[.other,.slice 1]⟩,
 ⟨.func,1,8,.nilfn,[.other]⟩,
 ⟨.iface true,1,16,.nili,[.other]⟩,
 ⟨.iface true,1,16,.nili,[.other]⟩,
 ⟨.tuple [3,188],1,0,.undef,[.other]⟩,
 ⟨.func,1,8,.nilfn,[.other]⟩,
 ⟨.func,1,8,.nilfn,[.other]⟩,
 ⟨.func,1,8,.nilfn,[.other]⟩,
 ⟨.func,1,8,.nilfn,[.other]⟩,
 ⟨.func,1,8,.nilfn,[.other]⟩,
 ⟨.func,1,8,.nilfn,[.other]⟩,
 ⟨.func,1,8,.nilfn,[.other]⟩,
 ⟨.arr 2 178,2,16,(.agg [(.int .u64 0),(.int .u64 0)]),[.int .u64,.int .u64]⟩,
 ⟨.func,1,8,.nilfn,[.other]⟩,
 ⟨.func,1,8,.nilfn,[.other]⟩,
 ⟨.func,1,8,.nilfn,[.other]⟩,
 ⟨.func,1,8,.nilfn,[.other]⟩,
 ⟨.slice 50,1,24,.sl0,[.slice 1]⟩,
 ⟨.func,1,8,.nilfn,[.other]⟩,
 ⟨.func,1,8,.nilfn,[.other]⟩,
 ⟨.func,1,8,.nilfn,[.other]⟩,
 ⟨.arr 256 4,256,256,(.agg [(.bool false),(.bool false),(.bool false),(.bool false),(.bool false),(.bool false),(.bool false),(.bool false),(.bool false),(.bool false),(.bool false),(.bool false),(.bool false),(.bool false),(.bool false),(.bool false),(.bool false),(.bool false),(.bool false),(.bool false),(.bool false),(.bool false),(.bool false),(.bool false),(.bool false),(.bool false),(.bool false),(.bool false),(.bool false),(.bool false),(.bool false),(.bool false),(.bool false),(.bool false),(.bool false),(.bool false),(.bool false),(.bool false),(.bool false),(.bool false),(.bool false),(.bool false),(.bool false),(.bool false),(.bool false),(.bool false),(.bool false),(.bool false),(.bool false),(.bool false),(.bool false),(.bool false),(.bool false),(.bool false),(.bool false),(.bool false),(.bool false),(.bool false),(.bool false),(.bool false),(.bool false),(.bool false),(.bool false),(.bool false),(.bool false),(.bool false),(.bool false),(.bool false),(.bool false),(.bool false),(.bool false),(.bool false),(.bool false),(.bool false),(.bool false),(.bool false),(.bool false),(.bool false),(.bool false),(.bool false),(.bool false),(.bool false),(.bool false),(.bool false),(.bool false),(.bool false),(.bool false),(.bool false),(.bool false),(.bool false),(.bool false),(.bool false),(.bool false),(.bool false),(.bool false),(.bool false),(.bool false),(.bool false),(.bool false),(.bool false),(.bool false),(.bool false),(.bool false),(.bool false),(.bool false),(.bool false),(.bool false),(.bool false),(.bool false),(.bool false),(.bool false),(.bool false),(.bool false),(.bool false),(.bool false),(.bool false),(.bool false),(.bool false),(.bool false),(.bool false),(.bool false),(.bool false),(.bool false),(.bool false),(.bool false),(.bool false),(.bool false),(.bool false),(.bool false),(.bool false),(.bool false),(.bool false),(.bool false),(.bool false),(.bool false),(.bool false),(.bool false),(.bool false),(.bool false),(.bool false),(.bool false),(.bool false),(.bool false),(.bool false),(.bool false),(.bool false),(.bool false),(.bool false),(.bool false),(.bool false),(.bool false),(.bool false),(.bool false),(.bool false),(.bool false),(.bool false),(.bool false),(.bool false),(.bool false),(.bool false),(.bool false),(.bool false),(.bool false),(.bool false),(.bool false),(.bool false),(.bool false),(.bool false),(.bool false),(.bool false),(.bool false),(.bool false),(.bool false),(.bool false),(.bool false),(.bool false),(.bool false),(.bool false),(.bool false),(.bool false),(.bool false),(.bool false),(.bool false),(.bool false),(.bool false),(.bool false),(.bool false),(.bool false),(.bool false),(.bool false),(.bool false),(.bool false),(.bool false),(.bool false),(.bool false),(.bool false),(.bool false),(.bool false),(.bool false),(.bool false),(.bool false),(.bool false),(.bool false),(.bool false),(.bool false),(.bool false),(.bool false),(.bool false),(.bool false),(.bool false),(.bool false),(.bool false),(.bool false),(.bool false),(.bool false),(.bool false),(.bool false),(.bool false),(.bool false),(.bool false),(.bool false),(.bool false),(.bool false),(.bool false),(.bool false),(.bool false),(.bool false),(.bool false),(.bool false),(.bool false),(.bool false),(.bool false),(.bool false),(.bool false),(.bool false),(.bool false),(.bool false),(.bool false),(.bool false),(.bool false),(.bool false),(.bool false),(.bool false),(.bool false),(.bool false),(.bool false),(.bool false),(.bool false),(.bool false),(.bool false),(.bool false),(.bool false),(.bool false),(.bool false),(.bool false),(.bool false)]),[.bool,.bool,.bool,.bool,.bool,.bool,.bool,.bool,.bool,.bool,.bool,.bool,.bool,.bool,.bool,.bool,.bool,.bool,.bool,.bool,.bool,.bool,.bool,.bool,.bool,.bool,.bool,.bool,.bool,.bool,.bool,.bool,.bool,.bool,.bool,.bool,.bool,.bool,.bool,.bool,.bool,.bool,.bool,.bool,.bool,.bool,.bool,.bool,.bool,.bool,.bool,.bool,.bool,.bool,.bool,.bool,.bool,.bool,.bool,.bool,.bool,.bool,.bool,.bool,.bool,.bool,.bool,.bool,.bool,.bool,.bool,.bool,.bool,.bool,.bool,.bool,.bool,.bool,.bool,.bool,.bool,.bool,.bool,.bool,.bool,.bool,.bool,.bool,.bool,.bool,.bool,.bool,.bool,.bool,.bool,.bool,.bool,.bool,.bool,.bool,.bool,.bool,.bool,.bool,.bool,.bool,.bool,.bool,.bool,.bool,.bool,.bool,.bool,.bool,.bool,.bool,.bool,.bool,.bool,.bool,.bool,.bool,.bool,.bool,.bool,.bool,.bool,.bool,.bool,.bool,.bool,.bool,.bool,.bool,.bool,.bool,.bool,.bool,.bool,.bool,.bool,.bool,.bool,.bool,.bool,.bool,.bool,.bool,.bool,.bool,.bool,.bool,.bool,.bool,.bool,.bool,.bool,.bool,.bool,.bool,.bool,.bool,.bool,.bool,.bool,.bool,.bool,.bool,.bool,.bool,.bool,.bool,.bool,.bool,.bool,.bool,.bool,.bool,.bool,.bool,.bool,.bool,.bool,.bool,.bool,.bool,.bool,.bool,.bool,.bool,.bool,.bool,.bool,.bool,.bool,.bool,.bool,.bool,.bool,.bool,.bool,.bool,.bool,.bool,.bool,.bool,.bool,.bool,.bool,.bool,.bool,.bool,.bool,.bool,.bool,.bool,.bool,.bool,.bool,.bool,.bool,.bool,.bool,.bool,.bool,.bool,.bool,.bool,.bool,.bool,.bool,.bool,.bool,.bool,.bool,.bool,.bool,.bool,.bool,.bool,.bool,.bool,.bool,.bool,.bool,.bool,.bool,.bool,.bool,.bool,.bool,.bool,.bool,.bool,.bool,.bool]⟩,
 ⟨.arr 256 4,256,256,(.agg [(.bool false),(.bool false),(.bool false),(.bool false),(.bool false),(.bool false),(.bool false),(.bool false),(.bool false),(.bool false),(.bool false),(.bool false),(.bool false),(.bool false),(.bool false),(.bool false),(.bool false),(.bool false),(.bool false),(.bool false),(.bool false),(.bool false),(.bool false),(.bool false),(.bool false),(.bool false),(.bool false),(.bool false),(.bool false),(.bool false),(.bool false),(.bool false),(.bool false),(.bool false),(.bool false),(.bool false),(.bool false),(.bool false),(.bool false),(.bool false),(.bool false),(.bool false),(.bool false),(.bool false),(.bool false),(.bool false),(.bool false),(.bool false),(.bool false),(.bool false),(.bool false),(.bool false),(.bool false),(.bool false),(.bool false),(.bool false),(.bool false),(.bool false),(.bool false),(.bool false),(.bool false),(.bool false),(.bool false),(.bool false),(.bool false),(.bool false),(.bool false),(.bool false),(.bool false),(.bool false),(.bool false),(.bool false),(.bool false),(.bool false),(.bool false),(.bool false),(.bool false),(.bool false),(.bool false),(.bool false),(.bool false),(.bool false),(.bool false),(.bool false),(.bool false),(.bool false),(.bool false),(.bool false),(.bool false),(.bool false),(.bool false),(.bool false),(.bool false),(.bool false),(.bool false),(.bool false),(.bool false),(.bool false),(.bool false),(.bool false),(.bool false),(.bool false),(.bool false),(.bool false),(.bool false),(.bool false),(.bool false),(.bool false),(.bool false),(.bool false),(.bool false),(.bool false),(.bool false),(.bool false),(.bool false),(.bool false),(.bool false),(.bool false),(.bool false),(.bool false),(.bool false),(.bool false),(.bool false),(.bool false),(.bool false),(.bool false),(.bool false),(.bool false),(.bool false),(.bool false),(.bool false),(.bool false),(.bool false),(.bool false),(.bool false),(.bool false),(.bool false),(.bool false),(.bool false),(.bool false),(.bool false),(.bool false),(.bool false),(.bool false),(.bool false),(.bool false),(.bool false),(.bool false),(.bool false),(.bool false),(.bool false),(.bool false),(.bool false),(.bool false),(.bool false),(.bool false),(.bool false),(.bool false),(.bool false),(.bool false),(.bool false),(.bool false),(.bool false),(.bool false),(.bool false),(.bool false),(.bool false),(.bool false),(.bool false),(.bool false),(.bool false),(.bool false),(.bool false),(.bool false),(.bool false),(.bool false),(.bool false),(.bool false),(.bool false),(.bool false),(.bool false),(.bool false),(.bool false),(.bool false),(.bool false),(.bool false),(.bool false),(.bool false),(.bool false),(.bool false),(.bool false),(.bool false),(.bool false),(.bool false),(.bool false),(.bool false),(.bool false),(.bool false),(.bool false),(.bool false),(.bool false),(.bool false),(.bool false),(.bool false),(.bool false),(.bool false),(.bool false),(.bool false),(.bool false),(.bool false),(.bool false),(.bool false),(.bool false),(.bool false),(.bool false),(.bool false),(.bool false),(.bool false),(.bool false),(.bool false),(.bool false),(.bool false),(.bool false),(.bool false),(.bool false),(.bool false),(.bool false),(.bool false),(.bool false),(.bool false),(.bool false),(.bool false),(.bool false),(.bool false),(.bool false),(.bool false),(.bool false),(.bool false),(.bool false),(.bool false),(.bool false),(.bool false),(.bool false),(.bool false),(.bool false),(.bool false),(.bool false),(.bool false),(.bool false),(.bool false),(.bool false),(.bool false),(.bool false),(.bool false),(.bool false),(.bool false)]),[.bool,.bool,.bool,.bool,.bool,.bool,.bool,.bool,.bool,.bool,.bool,.bool,.bool,.bool,.bool,.bool,.bool,.bool,.bool,.bool,.bool,.bool,.bool,.bool,.bool,.bool,.bool,.bool,.bool,.bool,.bool,.bool,.bool,.bool,.bool,.bool,.bool,.bool,.bool,.bool,.bool,.bool,.bool,.bool,.bool,.bool,.bool,.bool,.bool,.bool,.bool,.bool,.bool,.bool,.bool,.bool,.bool,.bool,.bool,.bool,.bool,.bool,.bool,.bool,.bool,.bool,.bool,.bool,.bool,.bool,.bool,.bool,.bool,.bool,.bool,.bool,.bool,.bool,.bool,.bool,.bool,.bool,.bool,.bool,.bool,.bool,.bool,.bool,.bool,.bool,.bool,.bool,.bool,.bool,.bool,.bool,.bool,.bool,.bool,.bool,.bool,.bool,.bool,.bool,.bool,.bool,.bool,.bool,.bool,.bool,.bool,.bool,.bool,.bool,.bool,.bool,.bool,.bool,.bool,.bool,.bool,.bool,.bool,.bool,.bool,.bool,.bool,.bool,.bool,.bool,.bool,.bool,.bool,.bool,.bool,.bool,.bool,.bool,.bool,.bool,.bool,.bool,.bool,.bool,.bool,.bool,.bool,.bool,.bool,.bool,.bool,.bool,.bool,.bool,.bool,.bool,.bool,.bool,.bool,.bool,.bool,.bool,.bool,.bool,.bool,.bool,.bool,.bool,.bool,.bool,.bool,.bool,.bool,.bool,.bool,.bool,.bool,.bool,.bool,.bool,.bool,.bool,.bool,.bool,.bool,.bool,.bool,.bool,.bool,.bool,.bool,.bool,.bool,.bool,.bool,.bool,.bool,.bool,.bool,.bool,.bool,.bool,.bool,.bool,.bool,.bool,.bool,.bool,.bool,.bool,.bool,.bool,.bool,.bool,.bool,.bool,.bool,.bool,.bool,.bool,.bool,.bool,.bool,.bool,.bool,.bool,.bool,.bool,.bool,.bool,.bool,.bool,.bool,.bool,.bool,.bool,.bool,.bool,.bool,.bool,.bool,.bool,.bool,.bool,.bool,.bool,.bool,.bool,.bool,.bool,.bool,.bool,.bool,.bool,.bool,.bool]⟩,
 ⟨.tuple [207,4],1,0,.undef,[.other]⟩,
 ⟨.func,1,8,.nilfn,[.other]⟩,
 ⟨.func,1,8,.nilfn,[.other]⟩,
 ⟨.func,1,8,.nilfn,[.other]⟩,
 ⟨.ptr 207,1,8,.nilp,[.other]⟩,
 ⟨.ptr 171,1,8,.nilp,[.other]⟩,
 ⟨.tuple [2,2,2,2],1,0,.undef,[.other]⟩,
 ⟨.func,1,8,.nilfn,[.other]⟩,
 ⟨.tuple [2,2,2],1,0,.undef,[.other]⟩,
 ⟨.func,1,8,.nilfn,[.other]⟩,
 ⟨.int .u32,1,4,(.int .u32 0),[.int .u32]⟩,
 ⟨.tuple [218,218],1,0,.undef,[.other]⟩,
 ⟨.func,1,8,.nilfn,[.other]⟩,
 ⟨.tuple [178,178],1,0,.undef,[.other]⟩,
 ⟨.func,1,8,.nilfn,[.other]⟩,
 ⟨.ptr 5,1,8,.nilp,[.other]⟩,
 ⟨.arr 20 5,20,20,(.agg [(.int .u8 0),(.int .u8 0),(.int .u8 0),(.int .u8 0),(.int .u8 0),(.int .u8 0),(.int .u8 0),(.int .u8 0),(.int .u8 0),(.int .u8 0),(.int .u8 0),(.int .u8 0),(.int .u8 0),(.int .u8 0),(.int .u8 0),(.int .u8 0),(.int .u8 0),(.int .u8 0),(.int .u8 0),(.int .u8 0)]),[.int .u8,.int .u8,.int .u8,.int .u8,.int .u8,.int .u8,.int .u8,.int .u8,.int .u8,.int .u8,.int .u8,.int .u8,.int .u8,.int .u8,.int .u8,.int .u8,.int .u8,.int .u8,.int .u8,.int .u8]⟩,
 ⟨.func,1,8,.nilfn,[.other]⟩,
 ⟨.func,1,8,.nilfn,[.other]⟩,
 ⟨.func,1,8,.nilfn,[.other]⟩,
 ⟨.func,1,8,.nilfn,[.other]⟩,
 ⟨.func,1,8,.nilfn,[.other]⟩,
 ⟨.func,1,8,.nilfn,[.other]⟩,
 ⟨.tuple [21,3],1,0,.undef,[.other]⟩,
 ⟨.func,1,8,.nilfn,[.other]⟩,
 ⟨.func,1,8,.nilfn,[.other]⟩,
 ⟨.uptr,1,8,.nilp,[.other]⟩,
 ⟨.func,1,8,.nilfn,[.other]⟩,
 ⟨.func,1,8,.nilfn,[.other]⟩,
 ⟨.func,1,8,.nilfn,[.other]⟩,
 ⟨.func,1,8,.nilfn,[.other]⟩,
 ⟨.func,1,8,.nilfn,[.other]⟩,
 ⟨.func,1,8,.nilfn,[.other]⟩,
 ⟨.arr 256 5,256,256,(.agg [(.int .u8 0),(.int .u8 0),(.int .u8 0),(.int .u8 0),(.int .u8 0),(.int .u8 0),(.int .u8 0),(.int .u8 0),(.int .u8 0),(.int .u8 0),(.int .u8 0),(.int .u8 0),(.int .u8 0),(.int .u8 0),(.int .u8 0),(.int .u8 0),(.int .u8 0),(.int .u8 0),(.int .u8 0),(.int .u8 0),(.int .u8 0),(.int .u8 0),(.int .u8 0),(.int .u8 0),(.int .u8 0),(.int .u8 0),(.int .u8 0),(.int .u8 0),(.int .u8 0),(.int .u8 0),(.int .u8 0),(.int .u8 0),(.int .u8 0),(.int .u8 0),(.int .u8 0),(.int .u8 0),(.int .u8 0),(.int .u8 0),(.int .u8 0),(.int .u8 0),(.int .u8 0),(.int .u8 0),(.int .u8 0),(.int .u8 0),(.int .u8 0),(.int .u8 0),(.int .u8 0),(.int .u8 0),(.int .u8 0),(.int .u8 0),(.int .u8 0),(.int .u8 0),(.int .u8 0),(.int .u8 0),(.int .u8 0),(.int .u8 0),(.int .u8 0),(.int .u8 0),(.int .u8 0),(.int .u8 0),(.int .u8 0),(.int .u8 0),(.int .u8 0),(.int .u8 0),(.int .u8 0),(.int .u8 0),(.int .u8 0),(.int .u8 0),(.int .u8 0),(.int .u8 0),(.int .u8 0),(.int .u8 0),(.int .u8 0),(.int .u8 0),(.int .u8 0),(.int .u8 0),(.int .u8 0),(.int .u8 0),(.int .u8 0),(.int .u8 0),(.int .u8 0),(.int .u8 0),(.int .u8 0),(.int .u8 0),(.int .u8 0),(.int .u8 0),(.int .u8 0),(.int .u8 0),(.int .u8 0),(.int .u8 0),(.int .u8 0),(.int .u8 0),(.int .u8 0),(.int .u8 0),(.int .u8 0),(.int .u8 0),(.int .u8 0),(.int .u8 0),(.int .u8 0),(.int .u8 0),(.int .u8 0),(.int .u8 0),(.int .u8 0),(.int .u8 0),(.int .u8 0),(.int .u8 0),(.int .u8 0),(.int .u8 0),(.int .u8 0),(.int .u8 0),(.int .u8 0),(.int .u8 0),(.int .u8 0),(.int .u8 0),(.int .u8 0),(.int .u8 0),(.int .u8 0),(.int .u8 0),(.int .u8 0),(.int .u8 0),(.int .u8 0),(.int .u8 0),(.int .u8 0),(.int .u8 0),(.int .u8 0),(.int .u8 0),(.int .u8 0),(.int .u8 0),(.int .u8 0),(.int .u8 0),(.int .u8 0),(.int .u8 0),(.int .u8 0),(.int .u8 0),(.int .u8 0),(.int .u8 0),(.int .u8 0),(.int .u8 0),(.int .u8 0),(.int .u8 0),(.int .u8 0),(.int .u8 0),(.int .u8 0),(.int .u8 0),(.int .u8 0),(.int .u8 0),(.int .u8 0),(.int .u8 0),(.int .u8 0),(.int .u8 0),(.int .u8 0),(.int .u8 0),(.int .u8 0),(.int .u8 0),(.int .u8 0),(.int .u8 0),(.int .u8 0),(.int .u8 0),(.int .u8 0),(.int .u8 0),(.int .u8 0),(.int .u8 0),(.int .u8 0),(.int .u8 0),(.int .u8 0),(.int .u8 0),(.int .u8 0),(.int .u8 0),(.int .u8 0),(.int .u8 0),(.int .u8 0),(.int .u8 0),(.int .u8 0),(.int .u8 0),(.int .u8 0),(.int .u8 0),(.int .u8 0),(.int .u8 0),(.int .u8 0),(.int .u8 0),(.int .u8 0),(.int .u8 0),(.int .u8 0),(.int .u8 0),(.int .u8 0),(.int .u8 0),(.int .u8 0),(.int .u8 0),(.int .u8 0),(.int .u8 0),(.int .u8 0),(.int .u8 0),(.int .u8 0),(.int .u8 0),(.int .u8 0),(.int .u8 0),(.int .u8 0),(.int .u8 0),(.int .u8 0),(.int .u8 0),(.int .u8 0),(.int .u8 0),(.int .u8 0),(.int .u8 0),(.int .u8 0),(.int .u8 0),(.int .u8 0),(.int .u8 0),(.int .u8 0),(.int .u8 0),(.int .u8 0),(.int .u8 0),(.int .u8 0),(.int .u8 0),(.int .u8 0),(.int .u8 0),(.int .u8 0),(.int .u8 0),(.int .u8 0),(.int .u8 0),(.int .u8 0),(.int .u8 0),(.int .u8 0),(.int .u8 0),(.int .u8 0),(.int .u8 0),(.int .u8 0),(.int .u8 0),(.int .u8 0),(.int .u8 0),(.int .u8 0),(.int .u8 0),(.int .u8 0),(.int .u8 0),(.int .u8 0),(.int .u8 0),(.int .u8 0),(.int .u8 0),(.int .u8 0),(.int .u8 0),(.int .u8 0),(.int .u8 0),(.int .u8 0),(.int .u8 0),(.int .u8 0),(.int .u8 0),(.int .u8 0),(.int .u8 0),(.int .u8 0),(.int .u8 0),(.int .u8 0),(.int .u8 0),(.int .u8 0),(.int .u8 0),(.int .u8 0),(.int .u8 0)]),[.int .u8,.int .u8,.int .u8,.int .u8,.int .u8,.int .u8,.int .u8,.int .u8,.int .u8,.int .u8,.int .u8,.int .u8,.int .u8,.int .u8,.int .u8,.int .u8,.int .u8,.int .u8,.int .u8,.int .u8,.int .u8,.int .u8,.int .u8,.int .u8,.int .u8,.int .u8,.int .u8,.int .u8,.int .u8,.int .u8,.int .u8,.int .u8,.int .u8,.int .u8,.int .u8,.int .u8,.int .u8,.int .u8,.int .u8,.int .u8,.int .u8,.int .u8,.int .u8,.int .u8,.int .u8,.int .u8,.int .u8,.int .u8,.int .u8,.int .u8,.int .u8,.int .u8,.int .u8,.int .u8,.int .u8,.int .u8,.int .u8,.int .u8,.int .u8,.int .u8,.int .u8,.int .u8,.int .u8,.int .u8,.int .u8,.int .u8,.int .u8,.int .u8,.int .u8,.int .u8,.int .u8,.int .u8,.int .u8,.int .u8,.int .u8,.int .u8,.int .u8,.int .u8,.int .u8,.int .u8,.int .u8,.int .u8,.int .u8,.int .u8,.int .u8,.int .u8,.int .u8,.int .u8,.int .u8,.int .u8,.int .u8,.int .u8,.int .u8,.int .u8,.int .u8,.int .u8,.int .u8,.int .u8,.int .u8,.int .u8,.int .u8,.int .u8,.int .u8,.int .u8,.int .u8,.int .u8,.int .u8,.int .u8,.int .u8,.int .u8,.int .u8,.int .u8,.int .u8,.int .u8,.int .u8,.int .u8,.int .u8,.int .u8,.int .u8,.int .u8,.int .u8,.int .u8,.int .u8,.int .u8,.int .u8,.int .u8,.int .u8,.int .u8,.int .u8,.int .u8,.int .u8,.int .u8,.int .u8,.int .u8,.int .u8,.int .u8,.int .u8,.int .u8,.int .u8,.int .u8,.int .u8,.int .u8,.int .u8,.int .u8,.int .u8,.int .u8,.int .u8,.int .u8,.int .u8,.int .u8,.int .u8,.int .u8,.int .u8,.int .u8,.int .u8,.int .u8,.int .u8,.int .u8,.int .u8,.int .u8,.int .u8,.int .u8,.int .u8,.int .u8,.int .u8,.int .u8,.int .u8,.int .u8,.int .u8,.int .u8,.int .u8,.int .u8,.int .u8,.int .u8,.int .u8,.int .u8,.int .u8,.int .u8,.int .u8,.int .u8,.int .u8,.int .u8,.int .u8,.int .u8,.int .u8,.int .u8,.int .u8,.int .u8,.int .u8,.int .u8,.int .u8,.int .u8,.int .u8,.int .u8,.int .u8,.int .u8,.int .u8,.int .u8,.int .u8,.int .u8,.int .u8,.int .u8,.int .u8,.int .u8,.int .u8,.int .u8,.int .u8,.int .u8,.int .u8,.int .u8,.int .u8,.int .u8,.int .u8,.int .u8,.int .u8,.int .u8,.int .u8,.int .u8,.int .u8,.int .u8,.int .u8,.int .u8,.int .u8,.int .u8,.int .u8,.int .u8,.int .u8,.int .u8,.int .u8,.int .u8,.int .u8,.int .u8,.int .u8,.int .u8,.int .u8,.int .u8,.int .u8,.int .u8,.int .u8,.int .u8,.int .u8,.int .u8,.int .u8,.int .u8,.int .u8,.int .u8,.int .u8,.int .u8,.int .u8,.int .u8,.int .u8,.int .u8,.int .u8,.int .u8,.int .u8,.int .u8]⟩,
 ⟨.struct [(0,5),(1,5)],2,2,(.agg [(.int .u8 0),(.int .u8 0)]),[.int .u8,.int .u8]⟩,
 ⟨.struct [(0,5),(1,5)],2,2,(.agg [(.int .u8 0),(.int .u8 0)]),[.int .u8,.int .u8]⟩,
 ⟨.arr 16 243,32,32,(.agg [(.int .u8 0),(.int .u8 0),(.int .u8 0),(.int .u8 0),(.int .u8 0),(.int .u8 0),(.int .u8 0),(.int .u8 0),(.int .u8 0),(.int .u8 0),(.int .u8 0),(.int .u8 0),(.int .u8 0),(.int .u8 0),(.int .u8 0),(.int .u8 0),(.int .u8 0),(.int .u8 0),(.int .u8 0),(.int .u8 0),(.int .u8 0),(.int .u8 0),(.int .u8 0),(.int .u8 0),(.int .u8 0),(.int .u8 0),(.int .u8 0),(.int .u8 0),(.int .u8 0),(.int .u8 0),(.int .u8 0),(.int .u8 0)]),[.int .u8,.int .u8,.int .u8,.int .u8,.int .u8,.int .u8,.int .u8,.int .u8,.int .u8,.int .u8,.int .u8,.int .u8,.int .u8,.int .u8,.int .u8,.int .u8,.int .u8,.int .u8,.int .u8,.int .u8,.int .u8,.int .u8,.int .u8,.int .u8,.int .u8,.int .u8,.int .u8,.int .u8,.int .u8,.int .u8,.int .u8,.int .u8]⟩,
 ⟨.ptr 263,1,8,.nilp,[.other]⟩,
 ⟨.struct [(0,17),(1,17),(2,17),(3,9)],4,40,(.agg [.nilp,.nilp,.nilp,(.str [])]),[.other,.other,.other,.str]⟩,
 ⟨.struct [(0,17),(1,17),(2,17),(3,9)],4,40,(.agg [.nilp,.nilp,.nilp,(.str [])]),[.other,.other,.other,.str]⟩,
 ⟨.arr 0 16,0,0,(.agg []),[]⟩,
 ⟨.struct [(0,248)],0,0,(.agg []),[]⟩,
 ⟨.struct [(0,248)],0,0,(.agg []),[]⟩,
 ⟨.int .u8,1,1,(.int .u8 0),[.int .u8]⟩,
 ⟨.int .u8,1,1,(.int .u8 0),[.int .u8]⟩,
 ⟨.func,1,8,.nilfn,[.other]⟩,
 ⟨.int .i32,1,4,(.int .i32 0),[.int .i32]⟩,
 ⟨.int .i32,1,4,(.int .i32 0),[.int .i32]⟩,
 ⟨.struct [(0,12),(1,12),(2,218),(3,251),(4,5),(5,5),(6,252),(7,253),(8,223),(9,254),(10,255)],11,48,(.agg [(.int .u64 0),(.int .u64 0),(.int .u32 0),(.int .u8 0),(.int .u8 0),(.int .u8 0),(.int .u8 0),.nilfn,.nilp,(.int .i32 0),(.int .i32 0)]),[.int .u64,.int .u64,.int .u32,.int .u8,.int .u8,.int .u8,.int .u8,.other,.other,.int .i32,.int .i32]⟩,
 ⟨.struct [(0,12),(1,12),(2,218),(3,251),(4,5),(5,5),(6,252),(7,253),(8,223),(9,254),(10,255)],11,48,(.agg [(.int .u64 0),(.int .u64 0),(.int .u32 0),(.int .u8 0),(.int .u8 0),(.int .u8 0),(.int .u8 0),.nilfn,.nilp,(.int .i32 0),(.int .i32 0)]),[.int .u64,.int .u64,.int .u32,.int .u8,.int .u8,.int .u8,.int .u8,.other,.other,.int .i32,.int .i32]⟩,
 ⟨.func,1,8,.nilfn,[.other]⟩,
 ⟨.func,1,8,.nilfn,[.other]⟩,
 ⟨.func,1,8,.nilfn,[.other]⟩,
 ⟨.func,1,8,.nilfn,[.other]⟩,
 ⟨.struct [(0,9)],1,16,(.agg [(.str [])]),[.str]⟩,
 ⟨.struct [(0,9)],1,16,(.agg [(.str [])]),[.str]⟩]
abbrev ty_LJ:Nat:=0
abbrev ty_funcLJ:Nat:=1
abbrev zj7:Nat:=2
abbrev zt4:Nat:=3
abbrev ty_bool:Nat:=4
abbrev z12g:Nat:=5
abbrev z156:Nat:=6
abbrev zlw:Nat:=7
abbrev z14z:Nat:=8
abbrev zgv:Nat:=9
abbrev z14y:Nat:=10
abbrev z15z:Nat:=11
abbrev ty_uintptr:Nat:=12
abbrev zpm:Nat:=13
abbrev zuo:Nat:=14
abbrev zs8:Nat:=15
abbrev zzl:Nat:=16
abbrev ty_P_abi_Type:Nat:=17
abbrev zzr:Nat:=18
abbrev zwu:Nat:=19
abbrev ty_interface_:Nat:=20
abbrev ty_int32:Nat:=21
abbrev z162:Nat:=22
abbrev zm0:Nat:=23
abbrev zb:Nat:=24
abbrev zp:Nat:=25
abbrev z12p:Nat:=26
abbrev znw:Nat:=27
abbrev ty_funcLJ_bool:Nat:=28
abbrev zs6:Nat:=29
abbrev znp:Nat:=30
abbrev zhh:Nat:=31
abbrev zza:Nat:=32
abbrev zwy:Nat:=33
abbrev z12q:Nat:=34
abbrev zmc:Nat:=35
abbrev zz9:Nat:=36
abbrev ty_api_Stamp:Nat:=37
abbrev z10q:Nat:=38
abbrev zmd:Nat:=39
abbrev zt7:Nat:=40
abbrev z151:Nat:=41
abbrev z167:Nat:=42
abbrev zmx:Nat:=43
abbrev zrq:Nat:=44
abbrev zn0:Nat:=45
abbrev zmv:Nat:=46
abbrev zn2:Nat:=47
abbrev ty_S_uint8:Nat:=48
abbrev ty_S_string:Nat:=49
abbrev z18:Nat:=50
abbrev zpv:Nat:=51
abbrev z1bb:Nat:=52
abbrev zml:Nat:=53
abbrev zmj:Nat:=54
abbrev ty_P_read_sum:Nat:=55
abbrev ty_funcLstringJ:Nat:=56
abbrev znq:Nat:=57
abbrev zs5:Nat:=58
abbrev zzh:Nat:=59
abbrev zmp:Nat:=60
abbrev zoj:Nat:=61
abbrev zpz:Nat:=62
abbrev z158:Nat:=63
abbrev zpl:Nat:=64
abbrev ty_read_date:Nat:=65
abbrev z19j:Nat:=66
abbrev zn8:Nat:=67
abbrev z10o:Nat:=68
abbrev z163:Nat:=69
abbrev z1bc:Nat:=70
abbrev zpy:Nat:=71
abbrev zny:Nat:=72
abbrev zn6:Nat:=73
abbrev z19k:Nat:=74
abbrev zrn:Nat:=75
abbrev zs9:Nat:=76
abbrev zm9:Nat:=77
abbrev zn5:Nat:=78
abbrev z153:Nat:=79
abbrev z12h:Nat:=80
abbrev z19g:Nat:=81
abbrev z10p:Nat:=82
abbrev z154:Nat:=83
abbrev z1ba:Nat:=84
abbrev zn1:Nat:=85
abbrev z12j:Nat:=86
abbrev z12i:Nat:=87
abbrev zmu:Nat:=88
abbrev zmb:Nat:=89
abbrev z19i:Nat:=90
abbrev ty_struct_:Nat:=91
abbrev ty_read_bad:Nat:=92
abbrev zry:Nat:=93
abbrev zx:Nat:=94
abbrev zmo:Nat:=95
abbrev z12o:Nat:=96
abbrev zm8:Nat:=97
abbrev zs0:Nat:=98
abbrev ty_funcLboolJ:Nat:=99
abbrev zvl:Nat:=100
abbrev zvq:Nat:=101
abbrev ty_P_int64:Nat:=102
abbrev zzg:Nat:=103
abbrev z18p:Nat:=104
abbrev zwv:Nat:=105
abbrev z7g:Nat:=106
abbrev z1er:Nat:=107
abbrev z12k:Nat:=108
abbrev z1d8:Nat:=109
abbrev zt8:Nat:=110
abbrev zmy:Nat:=111
abbrev z18t:Nat:=112
abbrev zmn:Nat:=113
abbrev z19h:Nat:=114
abbrev zm1:Nat:=115
abbrev ty_read_form:Nat:=116
abbrev z155:Nat:=117
abbrev ty_read_named:Nat:=118
abbrev zur:Nat:=119
abbrev zzk:Nat:=120
abbrev zzi:Nat:=121
abbrev zmr:Nat:=122
abbrev zlv:Nat:=123
abbrev z12l:Nat:=124
abbrev zma:Nat:=125
abbrev z160:Nat:=126
abbrev zn7:Nat:=127
abbrev zkh:Nat:=128
abbrev zmk:Nat:=129
abbrev zs4:Nat:=130
abbrev zpw:Nat:=131
abbrev zmz:Nat:=132
abbrev zzj:Nat:=133
abbrev zrp:Nat:=134
abbrev z1d7:Nat:=135
abbrev zus:Nat:=136
abbrev zuq:Nat:=137
abbrev zvo:Nat:=138
abbrev znx:Nat:=139
abbrev zrr:Nat:=140
abbrev zn3:Nat:=141
abbrev zzd:Nat:=142
abbrev z1es:Nat:=143
abbrev zvp:Nat:=144
abbrev zut:Nat:=145
abbrev zmw:Nat:=146
abbrev zpx:Nat:=147
abbrev z1d6:Nat:=148
abbrev zvg:Nat:=149
abbrev z1c:Nat:=150
abbrev zze:Nat:=151
abbrev zmq:Nat:=152
abbrev znv:Nat:=153
abbrev zs1:Nat:=154
abbrev zs2:Nat:=155
abbrev zro:Nat:=156
abbrev zms:Nat:=157
abbrev ty_read_solid:Nat:=158
abbrev zrz:Nat:=159
abbrev ty_read_three:Nat:=160
abbrev ty_A13_int64:Nat:=161
abbrev zt6:Nat:=162
abbrev zvn:Nat:=163
abbrev z19c:Nat:=164
abbrev zn4:Nat:=165
abbrev zzc:Nat:=166
abbrev z1ep:Nat:=167
abbrev ztb:Nat:=168
abbrev zmf:Nat:=169
abbrev zwt:Nat:=170
abbrev ty_clock_group:Nat:=171
abbrev zmm:Nat:=172
abbrev z12n:Nat:=173
abbrev zvh:Nat:=174
abbrev z165:Nat:=175
abbrev z152:Nat:=176
abbrev z150:Nat:=177
abbrev ty_uint64:Nat:=178
abbrev zs7:Nat:=179
abbrev ty_uint:Nat:=180
abbrev ty_Luint_uintJ:Nat:=181
abbrev zt5:Nat:=182
abbrev z18s:Nat:=183
abbrev zlx:Nat:=184
abbrev zhg:Nat:=185
abbrev ty_funcLintJ:Nat:=186
abbrev zvj:Nat:=187
abbrev ty_error:Nat:=188
abbrev ty_Lint_errorJ:Nat:=189
abbrev zww:Nat:=190
abbrev ty_funcLJ_int:Nat:=191
abbrev z1eo:Nat:=192
abbrev zzb:Nat:=193
abbrev zzu:Nat:=194
abbrev z1b7:Nat:=195
abbrev zmt:Nat:=196
abbrev z168:Nat:=197
abbrev zta:Nat:=198
abbrev zkf:Nat:=199
abbrev z18r:Nat:=200
abbrev zpn:Nat:=201
abbrev z157:Nat:=202
abbrev zmi:Nat:=203
abbrev zzt:Nat:=204
abbrev z1d5:Nat:=205
abbrev ty_A256_bool:Nat:=206
abbrev z19b:Nat:=207
abbrev zzm:Nat:=208
abbrev zkg:Nat:=209
abbrev zvk:Nat:=210
abbrev zme:Nat:=211
abbrev z166:Nat:=212
abbrev z1eq:Nat:=213
abbrev zvr:Nat:=214
abbrev zm6:Nat:=215
abbrev z159:Nat:=216
abbrev zpo:Nat:=217
abbrev ty_uint32:Nat:=218
abbrev z1b9:Nat:=219
abbrev zm7:Nat:=220
abbrev z1b8:Nat:=221
abbrev zm5:Nat:=222
abbrev ty_P_uint8:Nat:=223
abbrev ztc:Nat:=224
abbrev zzs:Nat:=225
abbrev z1en:Nat:=226
abbrev z161:Nat:=227
abbrev zvm:Nat:=228
abbrev ty_funcLJ_int64:Nat:=229
abbrev zki:Nat:=230
abbrev ty_Lint32_intJ:Nat:=231
abbrev zwx:Nat:=232
abbrev zzf:Nat:=233
abbrev z1d4:Nat:=234
abbrev zm3:Nat:=235
abbrev z18q:Nat:=236
abbrev zm4:Nat:=237
abbrev zs3:Nat:=238
abbrev z19e:Nat:=239
abbrev z19d:Nat:=240
abbrev ty_A256_uint8:Nat:=241
abbrev zvi:Nat:=242
abbrev z199:Nat:=243
abbrev z12r:Nat:=244
abbrev z12m:Nat:=245
abbrev zly:Nat:=246
abbrev zup:Nat:=247
abbrev zuu:Nat:=248
abbrev zke:Nat:=249
abbrev z10n:Nat:=250
abbrev ty_abi_TFlag:Nat:=251
abbrev ty_abi_Kind:Nat:=252
abbrev zm2:Nat:=253
abbrev ty_abi_NameOff:Nat:=254
abbrev ty_abi_TypeOff:Nat:=255
abbrev zlz:Nat:=256
abbrev ty_abi_Type:Nat:=257
abbrev zmh:Nat:=258
abbrev zmg:Nat:=259
abbrev zt9:Nat:=260
abbrev z19f:Nat:=261
abbrev z19a:Nat:=262
abbrev z164:Nat:=263
abbrev fn_main_main:Nat:=0
abbrev z11w:Nat:=3
abbrev zzp:Nat:=4
abbrev zyf:Nat:=5
abbrev z90:Nat:=6
abbrev z10f:Nat:=7
abbrev z14g:Nat:=8
abbrev zf:Nat:=9
abbrev z15q:Nat:=10
abbrev fn_read_Date:Nat:=11
abbrev z17l:Nat:=12
abbrev fn_read_Stamp:Nat:=13
abbrev z15g:Nat:=14
abbrev z14h:Nat:=15
abbrev z15m:Nat:=16
abbrev zhz:Nat:=17
abbrev zer:Nat:=18
abbrev zfz:Nat:=19
abbrev fn_show_Stamp:Nat:=20
abbrev zgn:Nat:=21
abbrev ze3:Nat:=22
abbrev z9r:Nat:=23
abbrev zt:Nat:=24
abbrev z52:Nat:=25
abbrev z23:Nat:=26
abbrev ze4:Nat:=27
abbrev z14:Nat:=28
abbrev zl:Nat:=29
abbrev z17m:Nat:=30
abbrev fn_read_may:Nat:=31
abbrev fn_read_era:Nat:=32
abbrev fn_read_take:Nat:=33
abbrev fn_day_Make:Nat:=34
abbrev z15b:Nat:=35
abbrev z11v:Nat:=36
abbrev z18y:Nat:=37
abbrev z17k:Nat:=38
abbrev fn_read_whole:Nat:=39
abbrev fn_read_moment:Nat:=40
abbrev z14c:Nat:=41
abbrev zqx:Nat:=42
abbrev zqz:Nat:=43
abbrev zk0:Nat:=44
abbrev zya:Nat:=45
abbrev zyb:Nat:=46
abbrev z42:Nat:=47
abbrev zue:Nat:=48
abbrev zhy:Nat:=49
abbrev zhx:Nat:=50
abbrev z1e9:Nat:=51
abbrev fn_show_moment:Nat:=52
abbrev z1r:Nat:=53
abbrev z9k:Nat:=54
abbrev zm:Nat:=55
abbrev zhw:Nat:=56
abbrev z5l:Nat:=57
abbrev z13:Nat:=58
abbrev fn_read_need:Nat:=59
abbrev zie:Nat:=60
abbrev zk:Nat:=61
abbrev zc:Nat:=62
abbrev zh:Nat:=63
abbrev zlg:Nat:=64
abbrev z11s:Nat:=65
abbrev z57:Nat:=66
abbrev zp8:Nat:=67
abbrev z17r:Nat:=68
abbrev z14e:Nat:=69
abbrev fn_read_month:Nat:=70
abbrev fn_read_formOf:Nat:=71
abbrev fn_civil_Len:Nat:=72
abbrev fn_day_finite:Nat:=73
abbrev fn_civil_Days:Nat:=74
abbrev z17n:Nat:=75
abbrev z15d:Nat:=76
abbrev z15l:Nat:=77
abbrev z15e:Nat:=78
abbrev z193:Nat:=79
abbrev fn_day_Start:Nat:=80
abbrev fn_read_parted:Nat:=81
abbrev fn_read_apart:Nat:=82
abbrev fn_clock_Read:Nat:=83
abbrev fn_day_Stamp:Nat:=84
abbrev z18z:Nat:=85
abbrev z15f:Nat:=86
abbrev z17o:Nat:=87
abbrev z15h:Nat:=88
abbrev z11u:Nat:=89
abbrev zo7:Nat:=90
abbrev zo8:Nat:=91
abbrev zr3:Nat:=92
abbrev ze2:Nat:=93
abbrev zob:Nat:=94
abbrev zoa:Nat:=95
abbrev zlh:Nat:=96
abbrev fn_show_unit:Nat:=97
abbrev zr1:Nat:=98
abbrev zuf:Nat:=99
abbrev z1b:Nat:=100
abbrev zug:Nat:=101
abbrev fn_num_Split:Nat:=102
abbrev fn_day_Of:Nat:=103
abbrev fn_clock_Text:Nat:=104
abbrev zhv:Nat:=105
abbrev z17:Nat:=106
abbrev z2o:Nat:=107
abbrev z6e:Nat:=108
abbrev z8a:Nat:=109
abbrev z1u:Nat:=110
abbrev z75:Nat:=111
abbrev z8z:Nat:=112
abbrev zbk:Nat:=113
abbrev zid:Nat:=114
abbrev z15o:Nat:=115
abbrev z192:Nat:=116
abbrev z17s:Nat:=117
abbrev fn_word_Month:Nat:=118
abbrev fn_civil_Leap:Nat:=119
abbrev fn_civil_Right:Nat:=120
abbrev zi0:Nat:=121
abbrev z14d:Nat:=122
abbrev z14b:Nat:=123
abbrev z15c:Nat:=124
abbrev z17j:Nat:=125
abbrev z15k:Nat:=126
abbrev z17p:Nat:=127
abbrev fn_read_digit:Nat:=128
abbrev zud:Nat:=129
abbrev z1an:Nat:=130
abbrev z18u:Nat:=131
abbrev fn_clock_groups:Nat:=132
abbrev z1ck:Nat:=133
abbrev z1cj:Nat:=134
abbrev z14i:Nat:=135
abbrev z10e:Nat:=136
abbrev zzo:Nat:=137
abbrev zli:Nat:=138
abbrev z15i:Nat:=139
abbrev z11t:Nat:=140
abbrev zr2:Nat:=141
abbrev z2j:Nat:=142
abbrev zo9:Nat:=143
abbrev z5n:Nat:=144
abbrev zr5:Nat:=145
abbrev zyg:Nat:=146
abbrev zge:Nat:=147
abbrev z14a:Nat:=148
abbrev zua:Nat:=149
abbrev z15a:Nat:=150
abbrev z10d:Nat:=151
abbrev z9l:Nat:=152
abbrev fn_num_Div:Nat:=153
abbrev fn_num_Mod:Nat:=154
abbrev fn_clock_within:Nat:=155
abbrev z5g:Nat:=156
abbrev z8j:Nat:=157
abbrev zgo:Nat:=158
abbrev zoc:Nat:=159
abbrev zc8:Nat:=160
abbrev zbd:Nat:=161
abbrev z5s:Nat:=162
abbrev z15n:Nat:=163
abbrev z194:Nat:=164
abbrev z191:Nat:=165
abbrev z190:Nat:=166
abbrev fn_word_Short:Nat:=167
abbrev zof:Nat:=168
abbrev z14f:Nat:=169
abbrev zuc:Nat:=170
abbrev z18v:Nat:=171
abbrev zw7:Nat:=172
abbrev z147:Nat:=173
abbrev zw8:Nat:=174
abbrev z11m:Nat:=175
abbrev z10c:Nat:=176
abbrev zy9:Nat:=177
abbrev zod:Nat:=178
abbrev zuh:Nat:=179
abbrev zoe:Nat:=180
abbrev fn_bits_Mul32:Nat:=181
abbrev zr6:Nat:=182
abbrev zc7:Nat:=183
abbrev zw9:Nat:=184
abbrev z149:Nat:=185
abbrev fn_num_Scale:Nat:=186
abbrev zc6:Nat:=187
abbrev z15r:Nat:=188
abbrev z1cl:Nat:=189
abbrev zrs:Nat:=190
abbrev zyd:Nat:=191
abbrev zqw:Nat:=192
abbrev zbj:Nat:=193
abbrev zjz:Nat:=194
abbrev z15p:Nat:=195
abbrev z17q:Nat:=196
abbrev zqy:Nat:=197
abbrev fn_word_Short_1:Nat:=198
abbrev z15j:Nat:=199
abbrev z18w:Nat:=200
abbrev z1e7:Nat:=201
abbrev zu9:Nat:=202
abbrev z148:Nat:=203
abbrev zog:Nat:=204
abbrev zr4:Nat:=205
abbrev fn_abi_NoEscape:Nat:=206
abbrev z17t:Nat:=207
abbrev fn_bits_Div64:Nat:=208
abbrev fn_bits_Add64:Nat:=209
abbrev z6a:Nat:=210
abbrev z10g:Nat:=211
abbrev zic:Nat:=212
abbrev zzn:Nat:=213
abbrev zes:Nat:=214
abbrev z1e8:Nat:=215
abbrev z15s:Nat:=216
abbrev zu8:Nat:=217
abbrev fn_bits_Len64:Nat:=218
abbrev zwb:Nat:=219
abbrev zpb:Nat:=220
abbrev zwa:Nat:=221
abbrev zp9:Nat:=222
abbrev zyc:Nat:=223
abbrev zpp:Nat:=224
abbrev zpa:Nat:=225
abbrev zk1:Nat:=226
abbrev zpc:Nat:=227
abbrev zk2:Nat:=228
abbrev zub:Nat:=229
abbrev znt:Nat:=230
abbrev z1ea:Nat:=231
abbrev zr0:Nat:=232
abbrev zka:Nat:=233
abbrev z1ci:Nat:=234
abbrev z11r:Nat:=235
abbrev z18x:Nat:=236
abbrev z11q:Nat:=237
abbrev z11p:Nat:=238
abbrev z11o:Nat:=239
abbrev z1ch:Nat:=240
abbrev z1cg:Nat:=241
abbrev fn_read_year:Nat:=242
abbrev z11n:Nat:=243
abbrev zye:Nat:=244
abbrev z1cm:Nat:=245
def ql0:List (List Nat):=[[0,1,4,5,6,10,11,12,13]]
def ql1:List (List Nat):=[[4,5,6],[2,3,4]]
def ql2:List (List Nat):=[[],[4,5,6],[2,3,4]]
def ql3:List (List Nat):=[[0,1,72,73,74,75,76,77]]
def ql4:List (List Nat):=[[0,1,72,73,74,75,76,77],[0,1,4,5,6,10,11,12,13]]
def ql5:List (List Nat):=[[0,3,4,5,6,43,44,45]]
def ql6:List (List Nat):=[[0,3,4,5,6,43,44,45],[0,1,4,5,6,10,11,12,13]]
def ql7:List (List Nat):=[[0,3,4,5,6],[4,5,6],[2,3,4]]
def ql8:List (List Nat):=[[0,1,4,5,6,39,40,41,42,43,44,45,46,47,48,49,50,51,52,53,54,55,56,57,58,59,60,61,62,63,64,65,66,67,68,69,70,71]]
def ql9:List (List Nat):=[[0,1,4,5,6,39,40,41,42,43,44,45,46,47,48,49,50,51,52,53,54,55,56,57,58,59,60,61,62,63,64,65,66,67,68,69,70,71],[0,1,4,5,6,10,11,12,13]]
def ql10:List (List Nat):=[[0,4,5,6,7,8,15,16,17,19,20,21]]
def ql11:List (List Nat):=[[0,4,5,6,7,8,15,16,17,19,20,21],[0,2,5,6,7,8]]
def ql12:List (List Nat):=[[0,4,5,6,7,8,15,16,17,19,20,21],[0,2,5,6,7,8],[0,1,4,5,6,10,11,12,13]]
def ql13:List (List Nat):=[[0,5,6,7],[],[4,5,6],[2,3,4]]
def ql14:List (List Nat):=[[0,1,4,6,39,43,50,54,61,65],[4,5,6],[2,3,4]]
def ql15:List (List Nat):=[[0,3,4,5,6,8,63,64,65]]
def ql16:List (List Nat):=[[0,3,4,5,6,8,63,64,65],[0,1,4,5,6,10,11,12,13]]
def ql17:List (List Nat):=[[0,3,4,5],[4,5,6],[2,3,4]]
def ql18:List (List Nat):=[[0,1,5,6,18,19,20,21,22]]
def ql19:List (List Nat):=[[0,1,5,6,18,19,20,21,22],[0,1,72,73,74,75,76,77]]
def ql20:List (List Nat):=[[0,1,5,6,18,19,20,21,22],[0,1,72,73,74,75,76,77],[0,1,4,5,6,10,11,12,13]]
def ql21:List (List Nat):=[[0,1,4,5],[],[4,5,6],[2,3,4]]
def ql22:List (List Nat):=[[0,1,5,6,18,19,20,21,22],[0,3,4,5,6,43,44,45]]
def ql23:List (List Nat):=[[0,1,5,6,18,19,20,21,22],[0,3,4,5,6,43,44,45],[0,1,4,5,6,10,11,12,13]]
def ql24:List (List Nat):=[[0,1,4,5],[0,3,4,5,6],[4,5,6],[2,3,4]]
def ql25:List (List Nat):=[[0,1,8,9,10,12,13,14,15,16,17,18,19,20,30,31,32,33,34,35,36,37,38,57,58,59,60,61,62,63,64,65,73,74,75,76,77,78,79,80,81,85,86,87,88,89,90,91,92,93,97,98,99,100,101,102,103,104,105,109,110,111,112,113,114,115,116,117]]
def ql26:List (List Nat):=[[0,1,8,9,10,12,13,14,15,16,17,18,19,20,30,31,32,33,34,35,36,37,38,57,58,59,60,61,62,63,64,65,73,74,75,76,77,78,79,80,81,85,86,87,88,89,90,91,92,93,97,98,99,100,101,102,103,104,105,109,110,111,112,113,114,115,116,117],[0,1,3,9,10,11,12,14,17,46,47,48,49,50,51,52,53]]
def ql27:List (List Nat):=[[0,1,8,9,10,12,13,14,15,16,17,18,19,20,30,31,32,33,34,35,36,37,38,57,58,59,60,61,62,63,64,65,73,74,75,76,77,78,79,80,81,85,86,87,88,89,90,91,92,93,97,98,99,100,101,102,103,104,105,109,110,111,112,113,114,115,116,117],[0,1,3,9,10,11,12,14,17,46,47,48,49,50,51,52,53],[0,4,5,6,7,8,15,16,17,19,20,21]]
def ql28:List (List Nat):=[[0,1,8,9,10,12,13,14,15,16,17,18,19,20,30,31,32,33,34,35,36,37,38,57,58,59,60,61,62,63,64,65,73,74,75,76,77,78,79,80,81,85,86,87,88,89,90,91,92,93,97,98,99,100,101,102,103,104,105,109,110,111,112,113,114,115,116,117],[0,1,3,9,10,11,12,14,17,46,47,48,49,50,51,52,53],[0,4,5,6,7,8,15,16,17,19,20,21],[0,2,5,6,7,8]]
def ql29:List (List Nat):=[[0,1,8,9,10,12,13,14,15,16,17,18,19,20,30,31,32,33,34,35,36,37,38,57,58,59,60,61,62,63,64,65,73,74,75,76,77,78,79,80,81,85,86,87,88,89,90,91,92,93,97,98,99,100,101,102,103,104,105,109,110,111,112,113,114,115,116,117],[0,1,3,9,10,11,12,14,17,46,47,48,49,50,51,52,53],[0,4,5,6,7,8,15,16,17,19,20,21],[0,2,5,6,7,8],[0,1,4,5,6,10,11,12,13]]
def ql30:List (List Nat):=[[0,1,3,9,10,11,12,14,17,46,47,48,49,50,51,52,53]]
def ql31:List (List Nat):=[[0,1,3,9,10,11,12,14,17,46,47,48,49,50,51,52,53],[0,4,5,6,7,8,15,16,17,19,20,21]]
def ql32:List (List Nat):=[[0,1,3,9,10,11,12,14,17,46,47,48,49,50,51,52,53],[0,4,5,6,7,8,15,16,17,19,20,21],[0,2,5,6,7,8]]
def ql33:List (List Nat):=[[0,1,3,9,10,11,12,14,17,46,47,48,49,50,51,52,53],[0,4,5,6,7,8,15,16,17,19,20,21],[0,2,5,6,7,8],[0,1,4,5,6,10,11,12,13]]
def ql34:List (List Nat):=[[0,1,3,8,9,11,12,14,17],[0,5,6,7],[],[4,5,6],[2,3,4]]
def ql35:List (List Nat):=[[0,2,5,6,7,8]]
def ql36:List (List Nat):=[[0,2,5,6,7,8],[0,1,4,5,6,10,11,12,13]]
def ql37:List (List Nat):=[[0,1,4,6],[4,5,6],[2,3,4]]
def ql38:List (List Nat):=[[0,3,4,5,8,10,89,90,91,92,93,94,95,96,97,98,99,100,101,102,103,104,105,106,107,108,109,110,111,112,113,114,115]]
def ql39:List (List Nat):=[[0,3,4,5,8,10,89,90,91,92,93,94,95,96,97,98,99,100,101,102,103,104,105,106,107,108,109,110,111,112,113,114,115],[0,1,4,5,6,10,11,12,13]]
def ql40:List (List Nat):=[[0,3,4,5,8,10],[4,5,6],[2,3,4]]
def ql41:List (List Nat):=[[0,6,10,68,69,70,71,72,73,74,75,76,77,78,79,80,81]]
def ql42:List (List Nat):=[[0,6,10,68,69,70,71,72,73,74,75,76,77,78,79,80,81],[0,1,72,73,74,75,76,77]]
def ql43:List (List Nat):=[[0,6,10,68,69,70,71,72,73,74,75,76,77,78,79,80,81],[0,1,72,73,74,75,76,77],[0,1,4,5,6,10,11,12,13]]
def ql44:List (List Nat):=[[0,4,10],[],[4,5,6],[2,3,4]]
def ql45:List (List Nat):=[[0,6,10,68,69,70,71,72,73,74,75,76,77,78,79,80,81],[0,3,4,5,6,43,44,45]]
def ql46:List (List Nat):=[[0,6,10,68,69,70,71,72,73,74,75,76,77,78,79,80,81],[0,3,4,5,6,43,44,45],[0,1,4,5,6,10,11,12,13]]
def ql47:List (List Nat):=[[0,4,10],[0,3,4,5,6],[4,5,6],[2,3,4]]
def ql48:List (List Nat):=[[0,1,8,9,10,11,12,13,14,15,16,17,18,19,20,30,31,32,33,34,35,36,37,38,47,48,49,50,51,52,53,57,58,59,60,61,62,63,64,65,73,74,75,76,77,78,79,80,81,85,86,87,88,89,90,91,92,93,97,98,99,100,101,102,103,104,105,109,110,111,112,113,114,115,116,117]]
def ql49:List (List Nat):=[[0,1,8,9,10,11,12,13,14,15,16,17,18,19,20,30,31,32,33,34,35,36,37,38,47,48,49,50,51,52,53,57,58,59,60,61,62,63,64,65,73,74,75,76,77,78,79,80,81,85,86,87,88,89,90,91,92,93,97,98,99,100,101,102,103,104,105,109,110,111,112,113,114,115,116,117],[0,1,3,9,10,11,12,14,17,46,47,48,49,50,51,52,53]]
def ql50:List (List Nat):=[[0,1,8,9,10,11,12,13,14,15,16,17,18,19,20,30,31,32,33,34,35,36,37,38,47,48,49,50,51,52,53,57,58,59,60,61,62,63,64,65,73,74,75,76,77,78,79,80,81,85,86,87,88,89,90,91,92,93,97,98,99,100,101,102,103,104,105,109,110,111,112,113,114,115,116,117],[0,1,3,9,10,11,12,14,17,46,47,48,49,50,51,52,53],[0,4,5,6,7,8,15,16,17,19,20,21]]
def ql51:List (List Nat):=[[0,1,8,9,10,11,12,13,14,15,16,17,18,19,20,30,31,32,33,34,35,36,37,38,47,48,49,50,51,52,53,57,58,59,60,61,62,63,64,65,73,74,75,76,77,78,79,80,81,85,86,87,88,89,90,91,92,93,97,98,99,100,101,102,103,104,105,109,110,111,112,113,114,115,116,117],[0,1,3,9,10,11,12,14,17,46,47,48,49,50,51,52,53],[0,4,5,6,7,8,15,16,17,19,20,21],[0,2,5,6,7,8]]
def ql52:List (List Nat):=[[0,1,8,9,10,11,12,13,14,15,16,17,18,19,20,30,31,32,33,34,35,36,37,38,47,48,49,50,51,52,53,57,58,59,60,61,62,63,64,65,73,74,75,76,77,78,79,80,81,85,86,87,88,89,90,91,92,93,97,98,99,100,101,102,103,104,105,109,110,111,112,113,114,115,116,117],[0,1,3,9,10,11,12,14,17,46,47,48,49,50,51,52,53],[0,4,5,6,7,8,15,16,17,19,20,21],[0,2,5,6,7,8],[0,1,4,5,6,10,11,12,13]]
def ql53:List (List Nat):=[[0,1,5,6,7,8,10,41,42],[0,1,72,73,74,75,76,77]]
def ql54:List (List Nat):=[[0,1,5,6,7,8,10,41,42],[0,1,72,73,74,75,76,77],[0,1,4,5,6,10,11,12,13]]
def ql55:List (List Nat):=[[0,1,5,6,7,8,10,41,42],[0,3,4,5,6,43,44,45],[0,1,4,5,6,10,11,12,13]]
def ql56:List (List Nat):=[[0,8,9,11,40,41],[0,1,3,9,10,11,12,14,17,46,47,48,49,50,51,52,53]]
def ql57:List (List Nat):=[[0,8,9,11,40,41],[0,1,3,9,10,11,12,14,17,46,47,48,49,50,51,52,53],[0,4,5,6,7,8,15,16,17,19,20,21]]
def ql58:List (List Nat):=[[0,8,9,11,40,41],[0,1,3,9,10,11,12,14,17,46,47,48,49,50,51,52,53],[0,4,5,6,7,8,15,16,17,19,20,21],[0,2,5,6,7,8]]
def ql59:List (List Nat):=[[0,8,9,11,40,41],[0,1,3,9,10,11,12,14,17,46,47,48,49,50,51,52,53],[0,4,5,6,7,8,15,16,17,19,20,21],[0,2,5,6,7,8],[0,1,4,5,6,10,11,12,13]]
def ann:List (Nat×List ((List Nat×Nat)×Dir)):=[
 (9,[(([9],0),⟨[0],[],[]⟩),(([9],2),⟨[0,2,4],[],[]⟩),(([9],3),⟨[0,2,4,5,6],[],[]⟩),(([9],4),⟨[2],[],[]⟩),(([9],5),⟨[2,4,5,6],[],[]⟩),(([9],6),⟨[2,5],[],[]⟩),(([9],7),⟨[2,4],[],[]⟩),(([9],8),⟨[2,4,7],[],[]⟩),(([9],9),⟨[2,4,7],[],[]⟩),(([9],10),⟨[2,4],[],[]⟩),(([9],11),⟨[2,4],[],[]⟩),(([9],12),⟨[2,4,8,9],[],[]⟩),(([9],14),⟨[2,4],[],[]⟩)]),
 (17,[(([17],3),⟨[2,3],[],[]⟩)]),
 (19,[(([19],2),⟨[],[],[]⟩),(([19],3),⟨[2,3],[],[]⟩)]),
 (23,[(([23],3),⟨[3,8,9,10],[],[]⟩)]),
 (24,[(([24],0),⟨[0,1],[],[]⟩),(([24,9],0),⟨[0,1],[[2,3,4]],[]⟩),(([24],4),⟨[4,5,6],[],[]⟩),(([24,9],4),⟨[4,5,6],[[2,3,4]],[]⟩)]),
 (26,[(([26],0),⟨[0,1],[],[]⟩),(([26,25],0),⟨[0,1],ql35,[]⟩),(([26,25,24],0),⟨[0,1],ql36,[]⟩),(([26,25,24,9],0),⟨[0,1],ql2,[]⟩),(([26],1),⟨[0,4,5,6],[],[]⟩),(([26,25],1),⟨[0,4,5,6],ql35,[]⟩),(([26,25,24],1),⟨[0,4,5,6],ql36,[]⟩),(([26,25,24,9],1),⟨[0,4,5,6],ql2,[]⟩),(([26],2),⟨[0,5,6,7],[],[]⟩),(([26,25],2),⟨[0,5,6,7],ql35,[]⟩),(([26,25,24],2),⟨[0,5,6,7],ql36,[]⟩),(([26,25,24,9],2),⟨[0,5,6,7],ql2,[]⟩),(([26],4),⟨[7,8],[],[]⟩),(([26,25],4),⟨[7,8],ql35,[]⟩),(([26,25,24],4),⟨[7,8],ql36,[]⟩),(([26,25,24,9],4),⟨[7,8],ql2,[]⟩),(([26],5),⟨[7,8],[],[]⟩),(([26,25],5),⟨[7,8],ql35,[]⟩),(([26,25,24],5),⟨[7,8],ql36,[]⟩),(([26,25,24,9],5),⟨[7,8],ql2,[]⟩),(([26],6),⟨[7],[],[]⟩),(([26,25],6),⟨[7],ql35,[]⟩),(([26,25,24],6),⟨[7],ql36,[]⟩),(([26,25,24,9],6),⟨[7],ql2,[]⟩)]),
 (27,[(([27],2),⟨[0,5,6,7],[],[]⟩)]),
 (28,[(([28],0),⟨[0,1],[],[]⟩),(([28,24],0),⟨[0,1],ql0,[]⟩),(([28,24,9],0),⟨[0,1],ql1,[]⟩),(([28],2),⟨[0,1,4,5,6,7],[],[]⟩),(([28,24],2),⟨[0,1,4,5,6,7],ql0,[]⟩),(([28,24,9],2),⟨[0,1,4,5,6,7],ql1,[]⟩),(([28],3),⟨[0,1,4,5,6],[],[]⟩),(([28,24],3),⟨[0,1,4,5,6],ql0,[]⟩),(([28,24,9],3),⟨[0,1,4,5,6],ql1,[]⟩),(([28],4),⟨[0,1,4,6],[],[]⟩),(([28,24],4),⟨[0,1,4,6],ql0,[]⟩),(([28,24,9],4),⟨[0,1,4,6],ql1,[]⟩),(([28],5),⟨[0,1],[],[]⟩),(([28,24],5),⟨[0,1],ql0,[]⟩),(([28,24,9],5),⟨[0,1],ql1,[]⟩),(([28],6),⟨[0,1],[],[]⟩),(([28,24],6),⟨[0,1],ql0,[]⟩),(([28,24,9],6),⟨[0,1],ql1,[]⟩)]),
 (29,[(([29],0),⟨[0,1],[],[]⟩),(([29,24],0),⟨[0,1],ql0,[]⟩),(([29,24,9],0),⟨[0,1],ql1,[]⟩),(([29],2),⟨[0,3,4],[],[]⟩),(([29,24],2),⟨[0,3,4],ql0,[]⟩),(([29,24,9],2),⟨[0,3,4],ql1,[]⟩),(([29],4),⟨[0,3,4],[],[]⟩),(([29,24],4),⟨[0,3,4],ql0,[]⟩),(([29,24,9],4),⟨[0,3,4],ql1,[]⟩),(([29],5),⟨[0,3,4],[],[]⟩),(([29,24],5),⟨[0,3,4],ql0,[]⟩),(([29,24,9],5),⟨[0,3,4],ql1,[]⟩),(([29],6),⟨[0,3,4,5],[],[]⟩),(([29,24],6),⟨[0,3,4,5],ql0,[]⟩),(([29,24,9],6),⟨[0,3,4,5],ql1,[]⟩),(([29],7),⟨[0,3,4,5,6,7],[],[]⟩),(([29,24],7),⟨[0,3,4,5,6,7],ql0,[]⟩),(([29,24,9],7),⟨[0,3,4,5,6,7],ql1,[]⟩),(([29],9),⟨[0,3,4,5],[],[]⟩),(([29,24],9),⟨[0,3,4,5],ql0,[]⟩),(([29,24,9],9),⟨[0,3,4,5],ql1,[]⟩),(([29],10),⟨[0,3,4,5],[],[]⟩),(([29,24],10),⟨[0,3,4,5],ql0,[]⟩),(([29,24,9],10),⟨[0,3,4,5],ql1,[]⟩),(([29],11),⟨[0,3,4,5,6],[],[]⟩),(([29,24],11),⟨[0,3,4,5,6],ql0,[]⟩),(([29,24,9],11),⟨[0,3,4,5,6],ql1,[]⟩),(([29],12),⟨[0,3,4,5,8],[],[]⟩),(([29,24],12),⟨[0,3,4,5,8],ql0,[]⟩),(([29,24,9],12),⟨[0,3,4,5,8],ql1,[]⟩),(([29],13),⟨[0,3,4,5,7,8,9],[],[]⟩),(([29,24],13),⟨[0,3,4,5,7,8,9],ql0,[]⟩),(([29,24,9],13),⟨[0,3,4,5,7,8,9],ql1,[]⟩),(([29],14),⟨[0,3,4,5,7,8,10,11],[],[]⟩),(([29,24],14),⟨[0,3,4,5,7,8,10,11],ql0,[]⟩),(([29,24,9],14),⟨[0,3,4,5,7,8,10,11],ql1,[]⟩),(([29],15),⟨[0,3,4,5,8,10,11],[],[]⟩),(([29,24],15),⟨[0,3,4,5,8,10,11],ql0,[]⟩),(([29,24,9],15),⟨[0,3,4,5,8,10,11],ql1,[]⟩),(([29],17),⟨[0,3,4,5,8,10],[],[]⟩),(([29,24],17),⟨[0,3,4,5,8,10],ql0,[]⟩),(([29,24,9],17),⟨[0,3,4,5,8,10],ql1,[]⟩),(([29],18),⟨[0,3,4,5,8,10],[],[]⟩),(([29,24],18),⟨[0,3,4,5,8,10],ql0,[]⟩),(([29,24,9],18),⟨[0,3,4,5,8,10],ql1,[]⟩),(([29],21),⟨[0,12,13],[],[]⟩),(([29,24],21),⟨[0,12,13],ql0,[]⟩),(([29,24,9],21),⟨[0,12,13],ql1,[]⟩),(([29],22),⟨[0,12],[],[]⟩),(([29,24],22),⟨[0,12],ql0,[]⟩),(([29,24,9],22),⟨[0,12],ql1,[]⟩)]),
 (47,[(([47],3),⟨[1,3,4],[],[]⟩),(([47],4),⟨[1,3,4,5],[],[]⟩),(([47],5),⟨[1,3,4,5,6],[],[]⟩),(([47],7),⟨[1,4,5,6],[],[]⟩),(([47],8),⟨[1,3,4,5,6,7],[],[]⟩)]),
 (49,[(([49],5),⟨[3,6,7,8,10],[],[]⟩)]),
 (50,[(([50],3),⟨[3,6,7,8],[],[(3,5,1)]⟩)]),
 (53,[(([53],4),⟨[0,1,5,6,14],[],[(5,150,2)]⟩),(([53],14),⟨[0,5],[],[]⟩),(([53],16),⟨[0,9,47,48,49],[],[]⟩)]),
 (58,[(([58],0),⟨[0,1,2,3],[],[]⟩),(([58,26],0),⟨[0,1,2,3],ql10,[]⟩),(([58,26,25],0),⟨[0,1,2,3],ql11,[]⟩),(([58,26,25,24],0),⟨[0,1,2,3],ql12,[]⟩),(([58,26,25,24,9],0),⟨[0,1,2,3],ql13,[]⟩),(([58],3),⟨[0,1,2,3,9,10,17],[],[]⟩),(([58,26],3),⟨[0,1,2,3,9,10,17],ql10,[]⟩),(([58,26,25],3),⟨[0,1,2,3,9,10,17],ql11,[]⟩),(([58,26,25,24],3),⟨[0,1,2,3,9,10,17],ql12,[]⟩),(([58,26,25,24,9],3),⟨[0,1,2,3,9,10,17],ql13,[]⟩),(([58],6),⟨[0,1,2,3,9,10,11,12,17],[],[]⟩),(([58,26],6),⟨[0,1,2,3,9,10,11,12,17],ql10,[]⟩),(([58,26,25],6),⟨[0,1,2,3,9,10,11,12,17],ql11,[]⟩),(([58,26,25,24],6),⟨[0,1,2,3,9,10,11,12,17],ql12,[]⟩),(([58,26,25,24,9],6),⟨[0,1,2,3,9,10,11,12,17],ql13,[]⟩),(([58],7),⟨[0,1,3,9,10,11,12,14,15,17],[],[]⟩),(([58,26],7),⟨[0,1,3,9,10,11,12,14,15,17],ql10,[]⟩),(([58,26,25],7),⟨[0,1,3,9,10,11,12,14,15,17],ql11,[]⟩),(([58,26,25,24],7),⟨[0,1,3,9,10,11,12,14,15,17],ql12,[]⟩),(([58,26,25,24,9],7),⟨[0,1,3,9,10,11,12,14,15,17],ql13,[]⟩),(([58],8),⟨[0,1,3,9,10,11,12,14,17],[],[]⟩),(([58,26],8),⟨[0,1,3,9,10,11,12,14,17],ql10,[]⟩),(([58,26,25],8),⟨[0,1,3,9,10,11,12,14,17],ql11,[]⟩),(([58,26,25,24],8),⟨[0,1,3,9,10,11,12,14,17],ql12,[]⟩),(([58,26,25,24,9],8),⟨[0,1,3,9,10,11,12,14,17],ql13,[]⟩),(([58],9),⟨[0,1,3,9,11,12,14,17],[],[]⟩),(([58,26],9),⟨[0,1,3,9,11,12,14,17],ql10,[]⟩),(([58,26,25],9),⟨[0,1,3,9,11,12,14,17],ql11,[]⟩),(([58,26,25,24],9),⟨[0,1,3,9,11,12,14,17],ql12,[]⟩),(([58,26,25,24,9],9),⟨[0,1,3,9,11,12,14,17],ql13,[]⟩),(([58],10),⟨[0,1,2,3,9,10,17],[],[]⟩),(([58,26],10),⟨[0,1,2,3,9,10,17],ql10,[]⟩),(([58,26,25],10),⟨[0,1,2,3,9,10,17],ql11,[]⟩),(([58,26,25,24],10),⟨[0,1,2,3,9,10,17],ql12,[]⟩),(([58,26,25,24,9],10),⟨[0,1,2,3,9,10,17],ql13,[]⟩),(([58],12),⟨[9],[],[]⟩),(([58,26],12),⟨[9],ql10,[]⟩),(([58,26,25],12),⟨[9],ql11,[]⟩),(([58,26,25,24],12),⟨[9],ql12,[]⟩),(([58,26,25,24,9],12),⟨[9],ql13,[]⟩)]),
 (61,[(([61],0),⟨[0,1,2,3],[],[]⟩),(([61,28],0),⟨[0,1,2,3],ql8,[]⟩),(([61,28,24],0),⟨[0,1,2,3],ql9,[]⟩),(([61,28,24,9],0),⟨[0,1,2,3],ql37,[]⟩),(([61,29],0),⟨[0,1,2,3],ql38,[]⟩),(([61,29,24],0),⟨[0,1,2,3],ql39,[]⟩),(([61,29,24,9],0),⟨[0,1,2,3],ql40,[]⟩),(([61,63],0),⟨[0,1,2,3],ql41,[]⟩),(([61,63,28],0),⟨[0,1,2,3],ql42,[]⟩),(([61,63,28,24],0),⟨[0,1,2,3],ql43,[]⟩),(([61,63,28,24,9],0),⟨[0,1,2,3],ql44,[]⟩),(([61,63,29],0),⟨[0,1,2,3],ql45,[]⟩),(([61,63,29,24],0),⟨[0,1,2,3],ql46,[]⟩),(([61,63,29,24,9],0),⟨[0,1,2,3],ql47,[]⟩),(([61,106],0),⟨[0,1,2,3],ql48,[]⟩),(([61,106,58],0),⟨[0,1,2,3],ql49,[]⟩),(([61,106,58,26],0),⟨[0,1,2,3],ql50,[]⟩),(([61,106,58,26,25],0),⟨[0,1,2,3],ql51,[]⟩),(([61,106,58,26,25,24],0),⟨[0,1,2,3],ql52,[]⟩),(([61],1),⟨[0,1,8,9],[],[]⟩),(([61,28],1),⟨[0,1,8,9],ql8,[]⟩),(([61,28,24],1),⟨[0,1,8,9],ql9,[]⟩),(([61,28,24,9],1),⟨[0,1,8,9],ql37,[]⟩),(([61,29],1),⟨[0,1,8,9],ql38,[]⟩),(([61,29,24],1),⟨[0,1,8,9],ql39,[]⟩),(([61,29,24,9],1),⟨[0,1,8,9],ql40,[]⟩),(([61,63],1),⟨[0,1,8,9],ql41,[]⟩),(([61,63,28],1),⟨[0,1,8,9],ql42,[]⟩),(([61,63,28,24],1),⟨[0,1,8,9],ql43,[]⟩),(([61,63,28,24,9],1),⟨[0,1,8,9],ql44,[]⟩),(([61,63,29],1),⟨[0,1,8,9],ql45,[]⟩),(([61,63,29,24],1),⟨[0,1,8,9],ql46,[]⟩),(([61,63,29,24,9],1),⟨[0,1,8,9],ql47,[]⟩),(([61,106],1),⟨[0,1,8,9],ql48,[]⟩),(([61,106,58],1),⟨[0,1,8,9],ql49,[]⟩),(([61,106,58,26],1),⟨[0,1,8,9],ql50,[]⟩),(([61,106,58,26,25],1),⟨[0,1,8,9],ql51,[]⟩),(([61,106,58,26,25,24],1),⟨[0,1,8,9],ql52,[]⟩),(([61],3),⟨[0,1,8,9],[],[]⟩),(([61,28],3),⟨[0,1,8,9],ql8,[]⟩),(([61,28,24],3),⟨[0,1,8,9],ql9,[]⟩),(([61,28,24,9],3),⟨[0,1,8,9],ql37,[]⟩),(([61,29],3),⟨[0,1,8,9],ql38,[]⟩),(([61,29,24],3),⟨[0,1,8,9],ql39,[]⟩),(([61,29,24,9],3),⟨[0,1,8,9],ql40,[]⟩),(([61,63],3),⟨[0,1,8,9],ql41,[]⟩),(([61,63,28],3),⟨[0,1,8,9],ql42,[]⟩),(([61,63,28,24],3),⟨[0,1,8,9],ql43,[]⟩),(([61,63,28,24,9],3),⟨[0,1,8,9],ql44,[]⟩),(([61,63,29],3),⟨[0,1,8,9],ql45,[]⟩),(([61,63,29,24],3),⟨[0,1,8,9],ql46,[]⟩),(([61,63,29,24,9],3),⟨[0,1,8,9],ql47,[]⟩),(([61,106],3),⟨[0,1,8,9],ql48,[]⟩),(([61,106,58],3),⟨[0,1,8,9],ql49,[]⟩),(([61,106,58,26],3),⟨[0,1,8,9],ql50,[]⟩),(([61,106,58,26,25],3),⟨[0,1,8,9],ql51,[]⟩),(([61,106,58,26,25,24],3),⟨[0,1,8,9],ql52,[]⟩)]),
 (62,[(([62],0),⟨[0,1,2],[],[]⟩),(([62,28],0),⟨[0,1,2],ql8,[]⟩),(([62,28,24],0),⟨[0,1,2],ql9,[]⟩),(([62,28,24,9],0),⟨[0,1,2],ql14,[]⟩),(([62,29],0),⟨[0,1,2],ql15,[]⟩),(([62,29,24],0),⟨[0,1,2],ql16,[]⟩),(([62,29,24,9],0),⟨[0,1,2],ql17,[]⟩),(([62,63],0),⟨[0,1,2],ql18,[]⟩),(([62,63,28],0),⟨[0,1,2],ql19,[]⟩),(([62,63,28,24],0),⟨[0,1,2],ql20,[]⟩),(([62,63,28,24,9],0),⟨[0,1,2],ql21,[]⟩),(([62,63,29],0),⟨[0,1,2],ql22,[]⟩),(([62,63,29,24],0),⟨[0,1,2],ql23,[]⟩),(([62,63,29,24,9],0),⟨[0,1,2],ql24,[]⟩),(([62,106],0),⟨[0,1,2],ql25,[]⟩),(([62,106,58],0),⟨[0,1,2],ql26,[]⟩),(([62,106,58,26],0),⟨[0,1,2],ql27,[]⟩),(([62,106,58,26,25],0),⟨[0,1,2],ql28,[]⟩),(([62,106,58,26,25,24],0),⟨[0,1,2],ql29,[]⟩),(([62],2),⟨[0,1,2,7,8],[],[]⟩),(([62,28],2),⟨[0,1,2,7,8],ql8,[]⟩),(([62,28,24],2),⟨[0,1,2,7,8],ql9,[]⟩),(([62,28,24,9],2),⟨[0,1,2,7,8],ql14,[]⟩),(([62,29],2),⟨[0,1,2,7,8],ql15,[]⟩),(([62,29,24],2),⟨[0,1,2,7,8],ql16,[]⟩),(([62,29,24,9],2),⟨[0,1,2,7,8],ql17,[]⟩),(([62,63],2),⟨[0,1,2,7,8],ql18,[]⟩),(([62,63,28],2),⟨[0,1,2,7,8],ql19,[]⟩),(([62,63,28,24],2),⟨[0,1,2,7,8],ql20,[]⟩),(([62,63,28,24,9],2),⟨[0,1,2,7,8],ql21,[]⟩),(([62,63,29],2),⟨[0,1,2,7,8],ql22,[]⟩),(([62,63,29,24],2),⟨[0,1,2,7,8],ql23,[]⟩),(([62,63,29,24,9],2),⟨[0,1,2,7,8],ql24,[]⟩),(([62,106],2),⟨[0,1,2,7,8],ql25,[]⟩),(([62,106,58],2),⟨[0,1,2,7,8],ql26,[]⟩),(([62,106,58,26],2),⟨[0,1,2,7,8],ql27,[]⟩),(([62,106,58,26,25],2),⟨[0,1,2,7,8],ql28,[]⟩),(([62,106,58,26,25,24],2),⟨[0,1,2,7,8],ql29,[]⟩),(([62],3),⟨[0,1,8],[],[]⟩),(([62,28],3),⟨[0,1,8],ql8,[]⟩),(([62,28,24],3),⟨[0,1,8],ql9,[]⟩),(([62,28,24,9],3),⟨[0,1,8],ql14,[]⟩),(([62,29],3),⟨[0,1,8],ql15,[]⟩),(([62,29,24],3),⟨[0,1,8],ql16,[]⟩),(([62,29,24,9],3),⟨[0,1,8],ql17,[]⟩),(([62,63],3),⟨[0,1,8],ql18,[]⟩),(([62,63,28],3),⟨[0,1,8],ql19,[]⟩),(([62,63,28,24],3),⟨[0,1,8],ql20,[]⟩),(([62,63,28,24,9],3),⟨[0,1,8],ql21,[]⟩),(([62,63,29],3),⟨[0,1,8],ql22,[]⟩),(([62,63,29,24],3),⟨[0,1,8],ql23,[]⟩),(([62,63,29,24,9],3),⟨[0,1,8],ql24,[]⟩),(([62,106],3),⟨[0,1,8],ql25,[]⟩),(([62,106,58],3),⟨[0,1,8],ql26,[]⟩),(([62,106,58,26],3),⟨[0,1,8],ql27,[]⟩),(([62,106,58,26,25],3),⟨[0,1,8],ql28,[]⟩),(([62,106,58,26,25,24],3),⟨[0,1,8],ql29,[]⟩),(([62],4),⟨[0,7,8],[],[]⟩),(([62,28],4),⟨[0,7,8],ql8,[]⟩),(([62,28,24],4),⟨[0,7,8],ql9,[]⟩),(([62,28,24,9],4),⟨[0,7,8],ql14,[]⟩),(([62,29],4),⟨[0,7,8],ql15,[]⟩),(([62,29,24],4),⟨[0,7,8],ql16,[]⟩),(([62,29,24,9],4),⟨[0,7,8],ql17,[]⟩),(([62,63],4),⟨[0,7,8],ql18,[]⟩),(([62,63,28],4),⟨[0,7,8],ql19,[]⟩),(([62,63,28,24],4),⟨[0,7,8],ql20,[]⟩),(([62,63,28,24,9],4),⟨[0,7,8],ql21,[]⟩),(([62,63,29],4),⟨[0,7,8],ql22,[]⟩),(([62,63,29,24],4),⟨[0,7,8],ql23,[]⟩),(([62,63,29,24,9],4),⟨[0,7,8],ql24,[]⟩),(([62,106],4),⟨[0,7,8],ql25,[]⟩),(([62,106,58],4),⟨[0,7,8],ql26,[]⟩),(([62,106,58,26],4),⟨[0,7,8],ql27,[]⟩),(([62,106,58,26,25],4),⟨[0,7,8],ql28,[]⟩),(([62,106,58,26,25,24],4),⟨[0,7,8],ql29,[]⟩),(([62],5),⟨[0,8,9,10],[],[]⟩),(([62,28],5),⟨[0,8,9,10],ql8,[]⟩),(([62,28,24],5),⟨[0,8,9,10],ql9,[]⟩),(([62,28,24,9],5),⟨[0,8,9,10],ql14,[]⟩),(([62,29],5),⟨[0,8,9,10],ql15,[]⟩),(([62,29,24],5),⟨[0,8,9,10],ql16,[]⟩),(([62,29,24,9],5),⟨[0,8,9,10],ql17,[]⟩),(([62,63],5),⟨[0,8,9,10],ql18,[]⟩),(([62,63,28],5),⟨[0,8,9,10],ql19,[]⟩),(([62,63,28,24],5),⟨[0,8,9,10],ql20,[]⟩),(([62,63,28,24,9],5),⟨[0,8,9,10],ql21,[]⟩),(([62,63,29],5),⟨[0,8,9,10],ql22,[]⟩),(([62,63,29,24],5),⟨[0,8,9,10],ql23,[]⟩),(([62,63,29,24,9],5),⟨[0,8,9,10],ql24,[]⟩),(([62,106],5),⟨[0,8,9,10],ql25,[]⟩),(([62,106,58],5),⟨[0,8,9,10],ql26,[]⟩),(([62,106,58,26],5),⟨[0,8,9,10],ql27,[]⟩),(([62,106,58,26,25],5),⟨[0,8,9,10],ql28,[]⟩),(([62,106,58,26,25,24],5),⟨[0,8,9,10],ql29,[]⟩),(([62],6),⟨[0,8,9,10],[],[]⟩),(([62,28],6),⟨[0,8,9,10],ql8,[]⟩),(([62,28,24],6),⟨[0,8,9,10],ql9,[]⟩),(([62,28,24,9],6),⟨[0,8,9,10],ql14,[]⟩),(([62,29],6),⟨[0,8,9,10],ql15,[]⟩),(([62,29,24],6),⟨[0,8,9,10],ql16,[]⟩),(([62,29,24,9],6),⟨[0,8,9,10],ql17,[]⟩),(([62,63],6),⟨[0,8,9,10],ql18,[]⟩),(([62,63,28],6),⟨[0,8,9,10],ql19,[]⟩),(([62,63,28,24],6),⟨[0,8,9,10],ql20,[]⟩),(([62,63,28,24,9],6),⟨[0,8,9,10],ql21,[]⟩),(([62,63,29],6),⟨[0,8,9,10],ql22,[]⟩),(([62,63,29,24],6),⟨[0,8,9,10],ql23,[]⟩),(([62,63,29,24,9],6),⟨[0,8,9,10],ql24,[]⟩),(([62,106],6),⟨[0,8,9,10],ql25,[]⟩),(([62,106,58],6),⟨[0,8,9,10],ql26,[]⟩),(([62,106,58,26],6),⟨[0,8,9,10],ql27,[]⟩),(([62,106,58,26,25],6),⟨[0,8,9,10],ql28,[]⟩),(([62,106,58,26,25,24],6),⟨[0,8,9,10],ql29,[]⟩),(([62],7),⟨[8,9],[],[]⟩),(([62,28],7),⟨[8,9],ql8,[]⟩),(([62,28,24],7),⟨[8,9],ql9,[]⟩),(([62,28,24,9],7),⟨[8,9],ql14,[]⟩),(([62,29],7),⟨[8,9],ql15,[]⟩),(([62,29,24],7),⟨[8,9],ql16,[]⟩),(([62,29,24,9],7),⟨[8,9],ql17,[]⟩),(([62,63],7),⟨[8,9],ql18,[]⟩),(([62,63,28],7),⟨[8,9],ql19,[]⟩),(([62,63,28,24],7),⟨[8,9],ql20,[]⟩),(([62,63,28,24,9],7),⟨[8,9],ql21,[]⟩),(([62,63,29],7),⟨[8,9],ql22,[]⟩),(([62,63,29,24],7),⟨[8,9],ql23,[]⟩),(([62,63,29,24,9],7),⟨[8,9],ql24,[]⟩),(([62,106],7),⟨[8,9],ql25,[]⟩),(([62,106,58],7),⟨[8,9],ql26,[]⟩),(([62,106,58,26],7),⟨[8,9],ql27,[]⟩),(([62,106,58,26,25],7),⟨[8,9],ql28,[]⟩),(([62,106,58,26,25,24],7),⟨[8,9],ql29,[]⟩)]),
 (63,[(([63],0),⟨[0,1],[],[]⟩),(([63,28],0),⟨[0,1],ql3,[]⟩),(([63,28,24],0),⟨[0,1],ql4,[]⟩),(([63,28,24,9],0),⟨[0,1],ql2,[]⟩),(([63,29],0),⟨[0,1],ql5,[]⟩),(([63,29,24],0),⟨[0,1],ql6,[]⟩),(([63,29,24,9],0),⟨[0,1],ql7,[]⟩),(([63],2),⟨[0,1,5],[],[]⟩),(([63,28],2),⟨[0,1,5],ql3,[]⟩),(([63,28,24],2),⟨[0,1,5],ql4,[]⟩),(([63,28,24,9],2),⟨[0,1,5],ql2,[]⟩),(([63,29],2),⟨[0,1,5],ql5,[]⟩),(([63,29,24],2),⟨[0,1,5],ql6,[]⟩),(([63,29,24,9],2),⟨[0,1,5],ql7,[]⟩),(([63],3),⟨[],[],[]⟩),(([63,28],3),⟨[],ql3,[]⟩),(([63,28,24],3),⟨[],ql4,[]⟩),(([63,28,24,9],3),⟨[],ql2,[]⟩),(([63,29],3),⟨[],ql5,[]⟩),(([63,29,24],3),⟨[],ql6,[]⟩),(([63,29,24,9],3),⟨[],ql7,[]⟩),(([63],4),⟨[0,1,5],[],[]⟩),(([63,28],4),⟨[0,1,5],ql3,[]⟩),(([63,28,24],4),⟨[0,1,5],ql4,[]⟩),(([63,28,24,9],4),⟨[0,1,5],ql2,[]⟩),(([63,29],4),⟨[0,1,5],ql5,[]⟩),(([63,29,24],4),⟨[0,1,5],ql6,[]⟩),(([63,29,24,9],4),⟨[0,1,5],ql7,[]⟩),(([63],5),⟨[0,1,5,6],[],[]⟩),(([63,28],5),⟨[0,1,5,6],ql3,[]⟩),(([63,28,24],5),⟨[0,1,5,6],ql4,[]⟩),(([63,28,24,9],5),⟨[0,1,5,6],ql2,[]⟩),(([63,29],5),⟨[0,1,5,6],ql5,[]⟩),(([63,29,24],5),⟨[0,1,5,6],ql6,[]⟩),(([63,29,24,9],5),⟨[0,1,5,6],ql7,[]⟩),(([63],6),⟨[0,1,5,6,7,8,9],[],[]⟩),(([63,28],6),⟨[0,1,5,6,7,8,9],ql3,[]⟩),(([63,28,24],6),⟨[0,1,5,6,7,8,9],ql4,[]⟩),(([63,28,24,9],6),⟨[0,1,5,6,7,8,9],ql2,[]⟩),(([63,29],6),⟨[0,1,5,6,7,8,9],ql5,[]⟩),(([63,29,24],6),⟨[0,1,5,6,7,8,9],ql6,[]⟩),(([63,29,24,9],6),⟨[0,1,5,6,7,8,9],ql7,[]⟩),(([63],7),⟨[0,1,5,6,7,8,9],[],[]⟩),(([63,28],7),⟨[0,1,5,6,7,8,9],ql3,[]⟩),(([63,28,24],7),⟨[0,1,5,6,7,8,9],ql4,[]⟩),(([63,28,24,9],7),⟨[0,1,5,6,7,8,9],ql2,[]⟩),(([63,29],7),⟨[0,1,5,6,7,8,9],ql5,[]⟩),(([63,29,24],7),⟨[0,1,5,6,7,8,9],ql6,[]⟩),(([63,29,24,9],7),⟨[0,1,5,6,7,8,9],ql7,[]⟩),(([63],10),⟨[0,1,5,6,7,10],[],[]⟩),(([63,28],10),⟨[0,1,5,6,7,10],ql3,[]⟩),(([63,28,24],10),⟨[0,1,5,6,7,10],ql4,[]⟩),(([63,28,24,9],10),⟨[0,1,5,6,7,10],ql2,[]⟩),(([63,29],10),⟨[0,1,5,6,7,10],ql5,[]⟩),(([63,29,24],10),⟨[0,1,5,6,7,10],ql6,[]⟩),(([63,29,24,9],10),⟨[0,1,5,6,7,10],ql7,[]⟩),(([63],11),⟨[0,1,6,10,11,12],[],[]⟩),(([63,28],11),⟨[0,1,6,10,11,12],ql3,[]⟩),(([63,28,24],11),⟨[0,1,6,10,11,12],ql4,[]⟩),(([63,28,24,9],11),⟨[0,1,6,10,11,12],ql2,[]⟩),(([63,29],11),⟨[0,1,6,10,11,12],ql5,[]⟩),(([63,29,24],11),⟨[0,1,6,10,11,12],ql6,[]⟩),(([63,29,24,9],11),⟨[0,1,6,10,11,12],ql7,[]⟩),(([63],12),⟨[0,1,6,10,11,12],[],[]⟩),(([63,28],12),⟨[0,1,6,10,11,12],ql3,[]⟩),(([63,28,24],12),⟨[0,1,6,10,11,12],ql4,[]⟩),(([63,28,24,9],12),⟨[0,1,6,10,11,12],ql2,[]⟩),(([63,29],12),⟨[0,1,6,10,11,12],ql5,[]⟩),(([63,29,24],12),⟨[0,1,6,10,11,12],ql6,[]⟩),(([63,29,24,9],12),⟨[0,1,6,10,11,12],ql7,[]⟩),(([63],15),⟨[0,6,10],[],[]⟩),(([63,28],15),⟨[0,6,10],ql3,[]⟩),(([63,28,24],15),⟨[0,6,10],ql4,[]⟩),(([63,28,24,9],15),⟨[0,6,10],ql2,[]⟩),(([63,29],15),⟨[0,6,10],ql5,[]⟩),(([63,29,24],15),⟨[0,6,10],ql6,[]⟩),(([63,29,24,9],15),⟨[0,6,10],ql7,[]⟩),(([63],16),⟨[0,10],[],[]⟩),(([63,28],16),⟨[0,10],ql3,[]⟩),(([63,28,24],16),⟨[0,10],ql4,[]⟩),(([63,28,24,9],16),⟨[0,10],ql2,[]⟩),(([63,29],16),⟨[0,10],ql5,[]⟩),(([63,29,24],16),⟨[0,10],ql6,[]⟩),(([63,29,24,9],16),⟨[0,10],ql7,[]⟩),(([63],17),⟨[],[],[]⟩),(([63,28],17),⟨[],ql3,[]⟩),(([63,28,24],17),⟨[],ql4,[]⟩),(([63,28,24,9],17),⟨[],ql2,[]⟩),(([63,29],17),⟨[],ql5,[]⟩),(([63,29,24],17),⟨[],ql6,[]⟩),(([63,29,24,9],17),⟨[],ql7,[]⟩)]),
 (66,[(([66],5),⟨[2,5],[],[]⟩),(([66],10),⟨[2,5],[],[]⟩),(([66],13),⟨[2,5],[],[]⟩),(([66],16),⟨[2,5],[],[]⟩),(([66],19),⟨[2,5],[],[]⟩),(([66],24),⟨[2,5],[],[]⟩)]),
 (93,[(([93],3),⟨[0,5,8,9,10],[],[(5,9,1)]⟩)]),
 (100,[(([100],8),⟨[0,1],[],[]⟩),(([100],10),⟨[0,6],[],[]⟩),(([100],11),⟨[0,6],[],[]⟩),(([100],20),⟨[0,7],[],[]⟩),(([100],21),⟨[7],[],[]⟩),(([100],22),⟨[0,7],[],[]⟩),(([100],23),⟨[7],[],[]⟩),(([100],24),⟨[0,7],[],[]⟩),(([100],25),⟨[7],[],[]⟩),(([100],26),⟨[0,7],[],[]⟩),(([100],27),⟨[7],[],[]⟩),(([100],28),⟨[0,7],[],[]⟩),(([100],29),⟨[7],[],[]⟩),(([100],30),⟨[0,7],[],[]⟩),(([100],35),⟨[0,7,8],[],[]⟩),(([100],37),⟨[0,7,8,9],[],[]⟩),(([100],38),⟨[7,8,9],[],[]⟩),(([100],39),⟨[7,8,9],[],[]⟩)]),
 (106,[(([106],1),⟨[0,1,2,3],[],[]⟩),(([106,58],1),⟨[0,1,2,3],ql30,[]⟩),(([106,58,26],1),⟨[0,1,2,3],ql31,[]⟩),(([106,58,26,25],1),⟨[0,1,2,3],ql32,[]⟩),(([106,58,26,25,24],1),⟨[0,1,2,3],ql33,[]⟩),(([106,58,26,25,24,9],1),⟨[0,1,2,3],ql34,[]⟩),(([106],3),⟨[0,8,9,10],[],[]⟩),(([106,58],3),⟨[0,8,9,10],ql30,[]⟩),(([106,58,26],3),⟨[0,8,9,10],ql31,[]⟩),(([106,58,26,25],3),⟨[0,8,9,10],ql32,[]⟩),(([106,58,26,25,24],3),⟨[0,8,9,10],ql33,[]⟩),(([106,58,26,25,24,9],3),⟨[0,8,9,10],ql34,[]⟩),(([106],4),⟨[0,8,9,10],[],[]⟩),(([106,58],4),⟨[0,8,9,10],ql30,[]⟩),(([106,58,26],4),⟨[0,8,9,10],ql31,[]⟩),(([106,58,26,25],4),⟨[0,8,9,10],ql32,[]⟩),(([106,58,26,25,24],4),⟨[0,8,9,10],ql33,[]⟩),(([106,58,26,25,24,9],4),⟨[0,8,9,10],ql34,[]⟩),(([106],6),⟨[0,8,11],[],[]⟩),(([106,58],6),⟨[0,8,11],ql30,[]⟩),(([106,58,26],6),⟨[0,8,11],ql31,[]⟩),(([106,58,26,25],6),⟨[0,8,11],ql32,[]⟩),(([106,58,26,25,24],6),⟨[0,8,11],ql33,[]⟩),(([106,58,26,25,24,9],6),⟨[0,8,11],ql34,[]⟩),(([106],8),⟨[0,11],[],[]⟩),(([106,58],8),⟨[0,11],ql30,[]⟩),(([106,58,26],8),⟨[0,11],ql31,[]⟩),(([106,58,26,25],8),⟨[0,11],ql32,[]⟩),(([106,58,26,25,24],8),⟨[0,11],ql33,[]⟩),(([106,58,26,25,24,9],8),⟨[0,11],ql34,[]⟩),(([106],12),⟨[0,1],[],[]⟩),(([106,58],12),⟨[0,1],ql30,[]⟩),(([106,58,26],12),⟨[0,1],ql31,[]⟩),(([106,58,26,25],12),⟨[0,1],ql32,[]⟩),(([106,58,26,25,24],12),⟨[0,1],ql33,[]⟩),(([106,58,26,25,24,9],12),⟨[0,1],ql34,[]⟩),(([106],13),⟨[0,1,2],[],[]⟩),(([106,58],13),⟨[0,1,2],ql30,[]⟩),(([106,58,26],13),⟨[0,1,2],ql31,[]⟩),(([106,58,26,25],13),⟨[0,1,2],ql32,[]⟩),(([106,58,26,25,24],13),⟨[0,1,2],ql33,[]⟩),(([106,58,26,25,24,9],13),⟨[0,1,2],ql34,[]⟩)]),
 (107,[(([107],3),⟨[0,4,5,9],[],[]⟩),(([107],9),⟨[0,4,5,7,9],[],[]⟩)]),
 (113,[(([113],0),⟨[0],[],[]⟩),(([113,63],0),⟨[0],[[0,1,5,6,7,8,10,41,42]],[]⟩),(([113,63,28],0),⟨[0],ql53,[]⟩),(([113,63,28,24],0),⟨[0],ql54,[]⟩),(([113,63,28,24,9],0),⟨[0],[[0,1,4,5,6,7],[],[4,5,6],[2,3,4]],[]⟩),(([113,63,29],0),⟨[0],[[0,1,5,6,7,8,10,41,42],[0,3,4,5,6,43,44,45]],[]⟩),(([113,63,29,24],0),⟨[0],ql55,[]⟩),(([113,63,29,24,9],0),⟨[0],[[0,1,4,5,6,7],[0,3,4,5,6],[4,5,6],[2,3,4]],[]⟩),(([113,106],0),⟨[0],[[0,8,9,11,40,41]],[]⟩),(([113,106,58],0),⟨[0],ql56,[]⟩),(([113,106,58,26],0),⟨[0],ql57,[]⟩),(([113,106,58,26,25],0),⟨[0],ql58,[]⟩),(([113,106,58,26,25,24],0),⟨[0],ql59,[]⟩),(([113],2),⟨[0],[],[]⟩),(([113,63],2),⟨[0],[[0,1,5,6,7,8,10,41,42]],[]⟩),(([113,63,28],2),⟨[0],ql53,[]⟩),(([113,63,28,24],2),⟨[0],ql54,[]⟩),(([113,63,28,24,9],2),⟨[0],[[0,1,4,5,6,7],[],[4,5,6],[2,3,4]],[]⟩),(([113,63,29],2),⟨[0],[[0,1,5,6,7,8,10,41,42],[0,3,4,5,6,43,44,45]],[]⟩),(([113,63,29,24],2),⟨[0],ql55,[]⟩),(([113,63,29,24,9],2),⟨[0],[[0,1,4,5,6,7],[0,3,4,5,6],[4,5,6],[2,3,4]],[]⟩),(([113,106],2),⟨[0],[[0,8,9,11,40,41]],[]⟩),(([113,106,58],2),⟨[0],ql56,[]⟩),(([113,106,58,26],2),⟨[0],ql57,[]⟩),(([113,106,58,26,25],2),⟨[0],ql58,[]⟩),(([113,106,58,26,25,24],2),⟨[0],ql59,[]⟩)]),
 (121,[(([121],3),⟨[0,1,2],[],[]⟩)]),
 (135,[(([135],2),⟨[],[],[]⟩),(([135],3),⟨[0,1,2,3],[],[]⟩)]),
 (138,[(([138],2),⟨[],[],[]⟩),(([138],3),⟨[0,1,2,3],[],[]⟩)]),
 (142,[(([142],10),⟨[0,1,5],[],[]⟩),(([142],11),⟨[0,1,5],[],[]⟩),(([142],12),⟨[0,1,5,39,40,41],[],[]⟩),(([142],16),⟨[0,1,5,7,39,40,41],[],[]⟩),(([142],20),⟨[0,1,8],[],[]⟩),(([142],21),⟨[0,1,8],[],[]⟩),(([142],22),⟨[1,8,63,64,65],[],[]⟩)]),
 (144,[(([144],2),⟨[],[],[]⟩),(([144],3),⟨[0],[],[]⟩),(([144],6),⟨[3,4,17],[],[]⟩)]),
 (152,[(([152],3),⟨[0,1,5,6],[],[]⟩),(([152],5),⟨[0,1,5,6],[],[]⟩)]),
 (156,[(([156],3),⟨[],[],[]⟩),(([156],4),⟨[0,1,5],[],[]⟩),(([156],9),⟨[0,1],[],[]⟩),(([156],10),⟨[0,1,5],[],[]⟩),(([156],15),⟨[0,1,5,6,7,8,9,10],[],[]⟩),(([156],21),⟨[0,1,5,6,7,8,9,10],[],[]⟩),(([156],22),⟨[8],[],[]⟩),(([156],23),⟨[0,1,5,6,7,8,9,10],[],[]⟩),(([156],26),⟨[0,1,8],[],[]⟩),(([156],30),⟨[0,1,5,6,7,8,9,10],[],[]⟩),(([156],31),⟨[0,1,8],[],[]⟩)]),
 (157,[(([157],2),⟨[],[],[]⟩),(([157],3),⟨[0],[],[]⟩),(([157],4),⟨[],[],[]⟩),(([157],5),⟨[0],[],[]⟩),(([157],10),⟨[],[],[]⟩)]),
 (158,[(([158],5),⟨[0,3],[],[]⟩)]),
 (162,[(([162],7),⟨[0,1,2,3],[],[]⟩),(([162],11),⟨[0,1,2,3,9,10],[],[]⟩)]),
 (192,[(([192],3),⟨[0,5],[],[]⟩),(([192],4),⟨[0,1],[],[]⟩),(([192],6),⟨[0,1,6,7],[],[]⟩)]),
 (193,[(([193],6),⟨[0,1,5],[],[]⟩)]),
 (212,[(([212],2),⟨[2,4],[],[]⟩)])]
noncomputable def EE : Env := { P := Tryz.prog, tt, ext := [(209, zwc), (210, z5m), (214, zjk)], ann, inl := [(9, 24), (11, 32), (11, 33), (24, 25), (24, 28), (24, 29), (24, 55), (25, 26), (26, 58), (26, 59), (28, 59), (28, 61), (28, 62), (28, 63), (29, 59), (29, 61), (29, 62), (29, 63), (29, 65), (33, 65), (33, 71), (40, 32), (40, 33), (40, 65), (47, 97), (58, 59), (58, 106), (62, 59), (63, 59), (63, 61), (63, 62), (63, 113), (83, 132), (87, 136), (87, 137), (100, 148), (100, 149), (100, 150), (100, 151), (106, 61), (106, 62), (106, 113), (113, 59), (129, 170), (142, 148), (142, 149), (142, 151), (148, 184), (148, 185), (149, 184), (234, 237), (234, 238), (234, 239)], mt := [((55, "computus/read.half"), 58), ((55, "computus/read.iso"), 26), ((55, "computus/read.letter"), 106), ((55, "computus/read.more"), 61), ((55, "computus/read.named"), 29), ((55, "computus/read.signed"), 62), ((55, "computus/read.sql"), 28), ((55, "computus/read.time"), 63), ((63, "computus/read.take"), 65), ((118, "computus/read.date"), 234), ((158, "computus/read.date"), 240), ((160, "computus/read.date"), 241), ((171, "computus/clock.one"), 133), ((171, "computus/clock.two"), 134), ((173, "computus/computusref03.num"), 136), ((173, "computus/computusref03.sign"), 137), ((183, "Grow"), 148), ((183, "Len"), 150), ((183, "String"), 151), ((183, "WriteString"), 149), ((183, "strings.copyCheck"), 184), ((183, "strings.grow"), 185), ((212, "strings.contains"), 174)], eqs := [24, 33, 37], same := [206], mnz := [(207, 5)] }
end Dv

set_option maxRecDepth 100000
set_option linter.unusedVariables false
namespace Dv
open Go
noncomputable def z9v (a0_0 a0_1 a0_2 a0_3 a1_0 a1_1 a1_2:Int):Option PV:=callF EE z90 [(.agg [(.int .i64 a0_0),(.int .i64 a0_1),(.int .i64 a0_2),(.int .i64 a0_3)]),(.agg [(.int .i64 a1_0),(.int .i64 a1_1),(.int .i64 a1_2)])]
noncomputable abbrev zg:List TI:=funTI EE zf
noncomputable def z8y (a0:List UInt8):Option PV:=callF EE zf [(.str a0)]
noncomputable def zu0 (x0:List UInt8):Option PV :=
 runW EE zg (z1s EE zf 0 (mkT 69 [(0,(.str x0))]) [])
noncomputable def qk0 (f p:Nat) (T:List PV) (y0 y1 y2 y3:Int):Option PV:=runW EE zg (z1s EE f p T [(.cells zb [(.int .i64 y0),(.int .i64 y1),(.int .i64 y2),(.int .i64 y3)] false)])
noncomputable def ztz (x0:List UInt8) (x1:List PV) (x2 x3 x4 x5:Int):Option PV :=
 qk0 zf 2 (mkT 69 [(0,(.str x0)),(2,(.ptr 0 0)),(4,(.sl 1 x1))]) x2 x3 x4 x5
noncomputable def qk1 (f p:Nat) (T:List PV) (y0 y1 y2 y3 y4 y5:Int):Option PV:=runW EE zg (z1s EE f p T [(.cells zb [(.int .i64 y0),(.int .i64 y1),(.int .i64 y2),(.int .i64 y3)] false),(.cells zwy [(.int .i64 y4),(.int .i64 y5)] false)])
noncomputable def zty (x0:List UInt8) (x1:List PV) (x2:Bool) (x3 x4 x5 x6 x7 x8:Int):Option PV :=
 qk1 zf 3 (mkT 69 [(0,(.str x0)),(2,(.ptr 0 0)),(4,(.sl 1 x1)),(5,(.ptr 1 0)),(6,(.bool x2))]) x3 x4 x5 x6 x7 x8
noncomputable def ztx (x0 x1 x2 x3:Int):Option PV :=
 qk0 zf 4 (mkT 69 [(2,(.ptr 0 0))]) x0 x1 x2 x3
noncomputable def ztw (x0:List PV) (x1:Bool) (x2 x3 x4 x5 x6 x7:Int):Option PV :=
 qk1 zf 5 (mkT 69 [(2,(.ptr 0 0)),(4,(.sl 1 x0)),(5,(.ptr 1 0)),(6,(.bool x1))]) x2 x3 x4 x5 x6 x7
noncomputable def ztv (x0 x1 x2 x3 x4 x5:Int):Option PV :=
 qk1 zf 6 (mkT 69 [(2,(.ptr 0 0)),(5,(.ptr 1 0))]) x0 x1 x2 x3 x4 x5
noncomputable def zhs (x0:List PV) (x1 x2 x3 x4:Int):Option PV :=
 qk0 zf 7 (mkT 69 [(2,(.ptr 0 0)),(4,(.sl 1 x0))]) x1 x2 x3 x4
noncomputable def ztu (x0:List PV) (x1 x2 x3 x4:Int) (x5:List UInt8):Option PV :=
 runW EE zg (z1s EE zf 8 (mkT 69 [(2,(.ptr 0 0)),(4,(.sl 1 x0)),(7,(.ptr 1 0))]) [(.cells zb [(.int .i64 x1),(.int .i64 x2),(.int .i64 x3),(.int .i64 x4)] false),(.cells zgv [(.str x5)] false)])
noncomputable def ztt (x0:List PV) (x1 x2 x3 x4:Int) (x5:List UInt8):Option PV :=
 runW EE zg (z1s EE zf 9 (mkT 69 [(2,(.ptr 0 0)),(4,(.sl 1 x0)),(7,(.ptr 1 0))]) [(.cells zb [(.int .i64 x1),(.int .i64 x2),(.int .i64 x3),(.int .i64 x4)] false),(.cells zgv [(.str x5)] false)])
noncomputable def zgl (x0:List PV) (x1 x2 x3 x4:Int):Option PV :=
 qk0 zf 10 (mkT 69 [(2,(.ptr 0 0)),(4,(.sl 1 x0))]) x1 x2 x3 x4
noncomputable def zc3 (x0:List PV) (x1:List UInt8) (x2 x3 x4 x5:Int) (x6:List PV):Option PV :=
 runW EE zg (z1y EE zt 0 (mkT 37 [(0,(.sl 1 x0)),(1,(.func (Go.Fn.func z52) [] [(.ptr 0 0)]))]) [(.cells zgv [(.str x1)] false),(.cells zb [(.int .i64 x2),(.int .i64 x3),(.int .i64 x4),(.int .i64 x5)] false)] [frAt EE zf 9 2 (mkT 69 [(2,(.ptr 1 0)),(4,(.sl 1 x6))]) []] [])
noncomputable def zjf (x0:List PV) (x1 x2 x3 x4:Int):Option PV :=
 qk0 zf 11 (mkT 69 [(2,(.ptr 0 0)),(4,(.sl 1 x0))]) x1 x2 x3 x4
noncomputable def zgk (x0:List PV) (x1 x2 x3 x4:Int):Option PV :=
 qk0 zf 14 (mkT 69 [(2,(.ptr 0 0)),(4,(.sl 1 x0))]) x1 x2 x3 x4
noncomputable def qk3 (f p:Nat) (T:List PV) (y0 y1 y2 y3:Int) (y4:Bool) (y5 y6 y7 y8 y9 y10 y11 y12 y13:Int) (y14:List PV):Option PV:=runW EE zg (z1y EE f p T [(.cells zx [(.int .i64 y0),(.int .i64 y1),(.int .i64 y2),(.int .i64 y3),(.bool y4)] false),(.cells zb [(.int .i64 y5),(.int .i64 y6),(.int .i64 y7),(.int .i64 y8)] false),(.cells zp [(.int .i64 y9)] false),(.cells zb [(.int .i64 y10),(.int .i64 y11),(.int .i64 y12),(.int .i64 y13)] false)] [frAt EE z52 0 3 (mkT 9 []) [],frAt EE zt 3 3 (mkT 37 [(4,(.ptr 1 0)),(5,(.ptr 2 0)),(6,(.ptr 0 0))]) [((.func (Go.Fn.func zm) [] [(.ptr 1 0),(.ptr 2 0)]),[])],frAt EE zf 9 2 (mkT 69 [(2,(.ptr 3 0)),(4,(.sl 1 y14))]) []] [])
noncomputable def z5i (x0:List UInt8) (x1 x2 x3 x4:Int) (x5:Bool) (x6 x7 x8 x9 xA xB xC xD xE:Int) (xF:List PV):Option PV :=
 qk3 z23 0 (mkT 31 [(0,(.ptr 0 0)),(1,(.str x0))]) x1 x2 x3 x4 x5 x6 x7 x8 x9 xA xB xC xD xE xF
noncomputable def z9u (x0:List PV) (x1 x2 x3 x4:Int) (x5:List PV):Option PV :=
 runW EE zg (z1y EE zt 0 (mkT 37 [(0,(.sl 1 x0)),(1,(.func (Go.Fn.func z14) [] []))]) [(.cells zb [(.int .i64 x1),(.int .i64 x2),(.int .i64 x3),(.int .i64 x4)] false)] [frAt EE zf 11 1 (mkT 69 [(2,(.ptr 0 0)),(4,(.sl 1 x5))]) []] [])
noncomputable def z9t (x0:List PV) (x1 x2 x3 x4:Int) (x5:List PV):Option PV :=
 runW EE zg (z1y EE zt 0 (mkT 37 [(0,(.sl 1 x0)),(1,(.func (Go.Fn.func zl) [] []))]) [(.cells zb [(.int .i64 x1),(.int .i64 x2),(.int .i64 x3),(.int .i64 x4)] false)] [frAt EE zf 14 1 (mkT 69 [(2,(.ptr 0 0)),(4,(.sl 1 x5))]) []] [])
noncomputable def z9c (x0:List UInt8) (x1:List UInt8) (x2:Bool) (x3 x4 x5 x6:Int) (x7:Bool) (x8 x9 xA xB xC xD xE xF xG:Int) (xH:List PV):Option PV :=
 qk3 z23 1 (mkT 31 [(0,(.ptr 0 0)),(4,(.str x0)),(5,(.str x1)),(6,(.bool x2))]) x3 x4 x5 x6 x7 x8 x9 xA xB xC xD xE xF xG xH
noncomputable def qk4 (f p:Nat) (T:List PV) (y0 y1 y2 y3:Int) (y4:Bool) (y5 y6 y7 y8 y9 y10 y11 y12 y13:Int) (y14:List PV):Option PV:=runW EE zg (z1y EE f p T [(.cells zx [(.int .i64 y0),(.int .i64 y1),(.int .i64 y2),(.int .i64 y3),(.bool y4)] false),(.cells zb [(.int .i64 y5),(.int .i64 y6),(.int .i64 y7),(.int .i64 y8)] false),(.cells zp [(.int .i64 y9)] false),(.cells zb [(.int .i64 y10),(.int .i64 y11),(.int .i64 y12),(.int .i64 y13)] false)] [frAt EE zt 3 3 (mkT 37 [(4,(.ptr 1 0)),(5,(.ptr 2 0)),(6,(.ptr 0 0))]) [((.func (Go.Fn.func zm) [] [(.ptr 1 0),(.ptr 2 0)]),[])],frAt EE zf 11 1 (mkT 69 [(2,(.ptr 3 0)),(4,(.sl 1 y14))]) []] [])
noncomputable def z98 (x0:List PV) (x1 x2 x3 x4:Int) (x5:Bool) (x6 x7 x8 x9 xA xB xC xD xE:Int) (xF:List PV):Option PV :=
 qk4 z14 0 (mkT 78 [(0,(.ptr 0 0)),(1,(.sl 1 x0))]) x1 x2 x3 x4 x5 x6 x7 x8 x9 xA xB xC xD xE xF
noncomputable def z8g (x0:List PV) (x1 x2 x3 x4:Int) (x5:Bool) (x6 x7 x8 x9 xA xB xC xD xE:Int) (xF:List PV):Option PV :=
 runW EE zg (z1y EE zl 0 (mkT 140 [(0,(.ptr 0 0)),(1,(.sl 1 x0))]) [(.cells zx [(.int .i64 x1),(.int .i64 x2),(.int .i64 x3),(.int .i64 x4),(.bool x5)] false),(.cells zb [(.int .i64 x6),(.int .i64 x7),(.int .i64 x8),(.int .i64 x9)] false),(.cells zp [(.int .i64 xA)] false),(.cells zb [(.int .i64 xB),(.int .i64 xC),(.int .i64 xD),(.int .i64 xE)] false)] [frAt EE zt 3 3 (mkT 37 [(4,(.ptr 1 0)),(5,(.ptr 2 0)),(6,(.ptr 0 0))]) [((.func (Go.Fn.func zm) [] [(.ptr 1 0),(.ptr 2 0)]),[])],frAt EE zf 14 1 (mkT 69 [(2,(.ptr 3 0)),(4,(.sl 1 xF))]) []] [])
noncomputable def qk5 (f p:Nat) (T:List PV) (y0 y1 y2 y3:Int) (y4:Bool) (y5 y6 y7 y8 y9 y10 y11 y12 y13:Int) (y14:List UInt8) (y15:Bool) (y16:List PV):Option PV:=runW EE zg (z1y EE f p T [(.cells zx [(.int .i64 y0),(.int .i64 y1),(.int .i64 y2),(.int .i64 y3),(.bool y4)] false),(.cells zb [(.int .i64 y5),(.int .i64 y6),(.int .i64 y7),(.int .i64 y8)] false),(.cells zp [(.int .i64 y9)] false),(.cells zb [(.int .i64 y10),(.int .i64 y11),(.int .i64 y12),(.int .i64 y13)] false)] [frAt EE z23 1 2 (mkT 31 [(0,(.ptr 0 0)),(5,(.str y14)),(6,(.bool y15))]) [],frAt EE z52 0 3 (mkT 9 []) [],frAt EE zt 3 3 (mkT 37 [(4,(.ptr 1 0)),(5,(.ptr 2 0)),(6,(.ptr 0 0))]) [((.func (Go.Fn.func zm) [] [(.ptr 1 0),(.ptr 2 0)]),[])],frAt EE zf 9 2 (mkT 69 [(2,(.ptr 3 0)),(4,(.sl 1 y16))]) []] [])
noncomputable def z8v (x0:List UInt8) (x1:List UInt8) (x2:Bool) (x3 x4 x5 x6:Int) (x7:Bool) (x8 x9 xA xB xC xD xE xF xG:Int) (xH:List UInt8) (xI:Bool) (xJ:List PV):Option PV :=
 qk5 z13 0 (mkT 68 [(0,(.ptr 0 0)),(1,(.str x0)),(2,(.str x1)),(3,(.bool x2))]) x3 x4 x5 x6 x7 x8 x9 xA xB xC xD xE xF xG xH xI xJ
noncomputable def z97 (x0:List PV) (x1:List UInt8) (x2:List UInt8) (x3:List UInt8) (x4:Bool) (x5 x6 x7 x8:Int) (x9:Bool) (xA xB xC xD xE xF xG xH xI:Int) (xJ:List PV):Option PV :=
 qk4 z14 2 (mkT 78 [(0,(.ptr 0 0)),(1,(.sl 1 x0)),(4,(.str x1)),(5,(.str x2)),(6,(.str x3)),(7,(.bool x4))]) x5 x6 x7 x8 x9 xA xB xC xD xE xF xG xH xI xJ
noncomputable def qk6 (f p:Nat) (T:List PV) (y0 y1 y2 y3:Int) (y4:Bool) (y5:List PV) (y6 y7 y8 y9 y10 y11 y12 y13 y14:Int) (y15:List PV):Option PV:=runW EE zg (z1y EE f p T [(.cells zx [(.int .i64 y0),(.int .i64 y1),(.int .i64 y2),(.int .i64 y3),(.bool y4)] false),(.cells z18 [(.sl 1 y5)] false),(.cells zb [(.int .i64 y6),(.int .i64 y7),(.int .i64 y8),(.int .i64 y9)] false),(.cells zp [(.int .i64 y10)] false),(.cells zb [(.int .i64 y11),(.int .i64 y12),(.int .i64 y13),(.int .i64 y14)] false)] [frAt EE zt 3 3 (mkT 37 [(4,(.ptr 2 0)),(5,(.ptr 3 0)),(6,(.ptr 0 0))]) [((.func (Go.Fn.func zm) [] [(.ptr 2 0),(.ptr 3 0)]),[])],frAt EE zf 14 1 (mkT 69 [(2,(.ptr 4 0)),(4,(.sl 1 y15))]) []] [])
noncomputable def z55 (x0:Bool) (x1 x2 x3 x4:Int) (x5:Bool) (x6:List PV) (x7 x8 x9 xA xB xC xD xE xF:Int) (xG:List PV):Option PV :=
 qk6 zl 2 (mkT 140 [(0,(.ptr 0 0)),(3,(.ptr 1 0)),(4,(.bool x0))]) x1 x2 x3 x4 x5 x6 x7 x8 x9 xA xB xC xD xE xF xG
noncomputable def qk7 (f p:Nat) (T:List PV) (y0 y1 y2 y3:Int) (y4:Bool) (y5:List UInt8) (y6:Nat) (y7 y8 y9 y10 y11 y12 y13 y14 y15:Int) (y16:List UInt8) (y17:Bool) (y18:List PV):Option PV:=runW EE zg (z1y EE f p T [(.cells zx [(.int .i64 y0),(.int .i64 y1),(.int .i64 y2),(.int .i64 y3),(.bool y4)] false),(.iter y5 y6),(.cells zb [(.int .i64 y7),(.int .i64 y8),(.int .i64 y9),(.int .i64 y10)] false),(.cells zp [(.int .i64 y11)] false),(.cells zb [(.int .i64 y12),(.int .i64 y13),(.int .i64 y14),(.int .i64 y15)] false)] [frAt EE z23 1 2 (mkT 31 [(0,(.ptr 0 0)),(5,(.str y16)),(6,(.bool y17))]) [],frAt EE z52 0 3 (mkT 9 []) [],frAt EE zt 3 3 (mkT 37 [(4,(.ptr 2 0)),(5,(.ptr 3 0)),(6,(.ptr 0 0))]) [((.func (Go.Fn.func zm) [] [(.ptr 2 0),(.ptr 3 0)]),[])],frAt EE zf 9 2 (mkT 69 [(2,(.ptr 4 0)),(4,(.sl 1 y18))]) []] [])
noncomputable def z15 (x0:List UInt8) (x1:List UInt8) (x2:Bool) (x3 x4 x5 x6 x7 x8:Int) (x9:Bool) (xA:List UInt8) (xB:Nat) (xC xD xE xF xG xH xI xJ xK:Int) (xL:List UInt8) (xM:Bool) (xN:List PV):Option PV :=
 qk7 z13 3 (mkT 68 [(0,(.ptr 0 0)),(1,(.str x0)),(2,(.str x1)),(3,(.bool x2)),(9,(.int .i64 x3)),(10,(.int .i64 x4)),(17,(.ptr 1 0))]) x5 x6 x7 x8 x9 xA xB xC xD xE xF xG xH xI xJ xK xL xM xN
noncomputable def z10 (x0:List PV) (x1 x2 x3 x4 x5 x6 x7 x8 x9:Int):Option PV :=
 runW EE zg (z1s EE zf 12 (mkT 69 [(2,(.ptr 0 0)),(4,(.sl 1 x0)),(8,(.ptr 1 0)),(9,(.int .i64 x1))]) [(.cells zb [(.int .i64 x2),(.int .i64 x3),(.int .i64 x4),(.int .i64 x5)] false),(.cells zb [(.int .i64 x6),(.int .i64 x7),(.int .i64 x8),(.int .i64 x9)] false)])
noncomputable def z96 (x0:List PV) (x1:List UInt8) (x2:List UInt8) (x3:List UInt8) (x4 x5 x6 x7:Int) (x8:Bool) (x9 xA xB xC xD xE xF xG xH:Int) (xI:List PV):Option PV :=
 qk4 z14 3 (mkT 78 [(0,(.ptr 0 0)),(1,(.sl 1 x0)),(4,(.str x1)),(5,(.str x2)),(6,(.str x3))]) x4 x5 x6 x7 x8 x9 xA xB xC xD xE xF xG xH xI
noncomputable def z2y (x0:Bool) (x1 x2 x3 x4:Int) (x5:Bool) (x6:List PV) (x7 x8 x9 xA xB xC xD xE xF:Int) (xG:List PV):Option PV :=
 qk6 zl 4 (mkT 140 [(0,(.ptr 0 0)),(3,(.ptr 1 0)),(4,(.bool x0))]) x1 x2 x3 x4 x5 x6 x7 x8 x9 xA xB xC xD xE xF xG
noncomputable def z32 (x0:List UInt8) (x1:List UInt8) (x2:Bool) (x3 x4 x5 x6 x7 x8 x9 xA:Int) (xB:Bool) (xC:List UInt8) (xD:Nat) (xE xF xG xH xI xJ xK xL xM:Int) (xN:List UInt8) (xO:Bool) (xP:List PV):Option PV :=
 qk7 z13 6 (mkT 68 [(0,(.ptr 0 0)),(1,(.str x0)),(2,(.str x1)),(3,(.bool x2)),(9,(.int .i64 x3)),(10,(.int .i64 x4)),(11,(.int .i64 x5)),(12,(.int .i32 x6)),(17,(.ptr 1 0))]) x7 x8 x9 xA xB xC xD xE xF xG xH xI xJ xK xL xM xN xO xP
noncomputable def z20 (x0 x1 x2 x3 x4:Int) (x5:Bool) (x6 x7 x8 x9 xA xB xC xD xE:Int) (xF:List UInt8) (xG:Bool) (xH:List PV):Option PV :=
 qk5 z13 12 (mkT 68 [(9,(.int .i64 x0))]) x1 x2 x3 x4 x5 x6 x7 x8 x9 xA xB xC xD xE xF xG xH
noncomputable def qk8 (f p:Nat) (T:List PV) (y0 y1 y2 y3:Int) (y4:Bool) (y5 y6 y7 y8 y9 y10 y11 y12 y13:Int) (y14:List PV) (y15 y16:List UInt8) (y17:List PV):Option PV:=runW EE zg (z1y EE f p T [(.cells zx [(.int .i64 y0),(.int .i64 y1),(.int .i64 y2),(.int .i64 y3),(.bool y4)] false),(.cells zb [(.int .i64 y5),(.int .i64 y6),(.int .i64 y7),(.int .i64 y8)] false),(.cells zp [(.int .i64 y9)] false),(.cells zb [(.int .i64 y10),(.int .i64 y11),(.int .i64 y12),(.int .i64 y13)] false)] [frAt EE z14 3 9 (mkT 78 [(0,(.ptr 0 0)),(1,(.sl 1 y14)),(4,(.str y15)),(6,(.str y16)),(39,(.ptr 0 0)),(43,(.ptr 0 1))]) [],frAt EE zt 3 3 (mkT 37 [(4,(.ptr 1 0)),(5,(.ptr 2 0)),(6,(.ptr 0 0))]) [((.func (Go.Fn.func zm) [] [(.ptr 1 0),(.ptr 2 0)]),[])],frAt EE zf 11 1 (mkT 69 [(2,(.ptr 3 0)),(4,(.sl 1 y17))]) []] [])
noncomputable def z4a (x0:List UInt8) (x1:Bool) (x2 x3 x4 x5:Int) (x6:Bool) (x7 x8 x9 xA xB xC xD xE xF:Int) (xG:List PV) (xH:List UInt8) (xI:List UInt8) (xJ:List PV):Option PV :=
 qk8 zc 0 (mkT 46 [(0,(.ptr 0 0)),(1,(.str x0)),(2,(.bool x1))]) x2 x3 x4 x5 x6 x7 x8 x9 xA xB xC xD xE xF xG xH xI xJ
noncomputable def z8f (x0:Bool) (x1 x2 x3 x4:Int) (x5:Bool) (x6:List PV) (x7 x8 x9 xA xB xC xD xE xF:Int) (xG:List PV):Option PV :=
 qk6 zl 5 (mkT 140 [(0,(.ptr 0 0)),(3,(.ptr 1 0)),(4,(.bool x0))]) x1 x2 x3 x4 x5 x6 x7 x8 x9 xA xB xC xD xE xF xG
noncomputable def z8u (x0:List UInt8) (x1:Bool) (x2 x3 x4 x5:Int) (x6:List UInt8) (x7:Bool) (x8 x9 xA xB:Int) (xC:Bool) (xD:List UInt8) (xE:Nat) (xF xG xH xI xJ xK xL xM xN:Int) (xO:List UInt8) (xP:Bool) (xQ:List PV):Option PV :=
 qk7 z13 7 (mkT 68 [(0,(.ptr 0 0)),(1,(.str x0)),(3,(.bool x1)),(9,(.int .i64 x2)),(10,(.int .i64 x3)),(11,(.int .i64 x4)),(12,(.int .i32 x5)),(14,(.str x6)),(15,(.bool x7)),(17,(.ptr 1 0))]) x8 x9 xA xB xC xD xE xF xG xH xI xJ xK xL xM xN xO xP xQ
noncomputable def z9b (x0:List UInt8) (x1:Bool) (x2 x3 x4 x5 x6:Int) (x7:Bool) (x8 x9 xA xB xC xD xE xF xG:Int) (xH:List PV):Option PV :=
 qk3 z23 2 (mkT 31 [(0,(.ptr 0 0)),(5,(.str x0)),(6,(.bool x1)),(7,(.int .i64 x2))]) x3 x4 x5 x6 x7 x8 x9 xA xB xC xD xE xF xG xH
noncomputable def z7r (x0:List UInt8) (x1:Bool) (x2:List UInt8) (x3:Bool) (x4 x5 x6 x7:Int) (x8:Bool) (x9 xA xB xC xD xE xF xG xH:Int) (xI:List PV) (xJ:List UInt8) (xK:List UInt8) (xL:List PV):Option PV :=
 qk8 zc 2 (mkT 46 [(0,(.ptr 0 0)),(1,(.str x0)),(2,(.bool x1)),(7,(.str x2)),(8,(.bool x3))]) x4 x5 x6 x7 x8 x9 xA xB xC xD xE xF xG xH xI xJ xK xL
noncomputable def qk9 (f p:Nat) (T:List PV) (y0 y1 y2 y3:Int) (y4:Bool) (y5 y6:List PV) (y7:Nat) (y8 y9 y10 y11 y12 y13 y14 y15 y16:Int) (y17:List PV):Option PV:=runW EE zg (z1y EE f p T [(.cells zx [(.int .i64 y0),(.int .i64 y1),(.int .i64 y2),(.int .i64 y3),(.bool y4)] false),(.cells z18 [(.sl 1 y5)] false),(.row z7g 1 y6 0 (some y7)),(.cells zb [(.int .i64 y8),(.int .i64 y9),(.int .i64 y10),(.int .i64 y11)] false),(.cells zp [(.int .i64 y12)] false),(.cells zb [(.int .i64 y13),(.int .i64 y14),(.int .i64 y15),(.int .i64 y16)] false)] [frAt EE zt 3 3 (mkT 37 [(4,(.ptr 3 0)),(5,(.ptr 4 0)),(6,(.ptr 0 0))]) [((.func (Go.Fn.func zm) [] [(.ptr 3 0),(.ptr 4 0)]),[])],frAt EE zf 14 1 (mkT 69 [(2,(.ptr 5 0)),(4,(.sl 1 y17))]) []] [])
noncomputable def z19 (x0:Bool) (x1 x2 x3 x4:Int) (x5:Bool) (x6:List PV) (x7:List PV) (x8:Nat) (x9 xA xB xC xD xE xF xG xH:Int) (xI:List PV):Option PV :=
 qk9 zl 6 (mkT 140 [(0,(.ptr 0 0)),(3,(.ptr 1 0)),(4,(.bool x0)),(5,(.ptr 2 0))]) x1 x2 x3 x4 x5 x6 x7 x8 x9 xA xB xC xD xE xF xG xH xI
noncomputable def z8t (x0:List UInt8) (x1:Bool) (x2 x3 x4 x5:Int) (x6:List UInt8) (x7 x8 x9 xA:Int) (xB:Bool) (xC:List UInt8) (xD:Nat) (xE xF xG xH xI xJ xK xL xM:Int) (xN:List UInt8) (xO:Bool) (xP:List PV):Option PV :=
 qk7 z13 8 (mkT 68 [(0,(.ptr 0 0)),(1,(.str x0)),(3,(.bool x1)),(9,(.int .i64 x2)),(10,(.int .i64 x3)),(11,(.int .i64 x4)),(12,(.int .i32 x5)),(14,(.str x6)),(17,(.ptr 1 0))]) x7 x8 x9 xA xB xC xD xE xF xG xH xI xJ xK xL xM xN xO xP
noncomputable def qk10 (f p:Nat) (T:List PV) (y0 y1 y2 y3:Int) (y4:Bool) (y5 y6 y7 y8 y9 y10 y11 y12 y13:Int) (y14:List UInt8) (y15:Bool) (y16:Int) (y17:List PV):Option PV:=runW EE zg (z1y EE f p T [(.cells zx [(.int .i64 y0),(.int .i64 y1),(.int .i64 y2),(.int .i64 y3),(.bool y4)] false),(.cells zb [(.int .i64 y5),(.int .i64 y6),(.int .i64 y7),(.int .i64 y8)] false),(.cells zp [(.int .i64 y9)] false),(.cells zb [(.int .i64 y10),(.int .i64 y11),(.int .i64 y12),(.int .i64 y13)] false)] [frAt EE z23 3 2 (mkT 31 [(0,(.ptr 0 0)),(5,(.str y14)),(6,(.bool y15)),(7,(.int .i64 y16))]) [],frAt EE z52 0 3 (mkT 9 []) [],frAt EE zt 3 3 (mkT 37 [(4,(.ptr 1 0)),(5,(.ptr 2 0)),(6,(.ptr 0 0))]) [((.func (Go.Fn.func zm) [] [(.ptr 1 0),(.ptr 2 0)]),[])],frAt EE zf 9 2 (mkT 69 [(2,(.ptr 3 0)),(4,(.sl 1 y17))]) []] [])
noncomputable def z87 (x0:List UInt8) (x1:List UInt8) (x2:Bool) (x3 x4 x5 x6:Int) (x7:Bool) (x8 x9 xA xB xC xD xE xF xG:Int) (xH:List UInt8) (xI:Bool) (xJ:Int) (xK:List PV):Option PV :=
 qk10 z13 0 (mkT 68 [(0,(.ptr 0 0)),(1,(.str x0)),(2,(.str x1)),(3,(.bool x2))]) x3 x4 x5 x6 x7 x8 x9 xA xB xC xD xE xF xG xH xI xJ xK
noncomputable def qk11 (f p:Nat) (T:List PV) (y0 y1 y2 y3 y4 y5 y6 y7 y8:Int) (y9:Bool) (y10 y11 y12 y13:Int) (y14:List PV):Option PV:=runW EE zg (z1y EE f p T [(.cells zb [(.int .i64 y0),(.int .i64 y1),(.int .i64 y2),(.int .i64 y3)] false),(.cells zp [(.int .i64 y4)] false),(.cells zx [(.int .i64 y5),(.int .i64 y6),(.int .i64 y7),(.int .i64 y8),(.bool y9)] false),(.cells zb [(.int .i64 y10),(.int .i64 y11),(.int .i64 y12),(.int .i64 y13)] false)] [frAt EE z52 0 3 (mkT 9 []) [],frAt EE zt 3 3 (mkT 37 [(4,(.ptr 0 0)),(5,(.ptr 1 0)),(6,(.ptr 2 0))]) [((.func (Go.Fn.func zm) [] [(.ptr 0 0),(.ptr 1 0)]),[])],frAt EE zf 9 2 (mkT 69 [(2,(.ptr 3 0)),(4,(.sl 1 y14))]) []] [])
noncomputable def z39 (x0 x1 x2 x3 x4 x5 x6 x7 x8 x9:Int) (xA:Bool) (xB xC xD xE:Int) (xF:List PV):Option PV :=
 qk11 z23 6 (mkT 31 [(7,(.int .i64 x0))]) x1 x2 x3 x4 x5 x6 x7 x8 x9 xA xB xC xD xE xF
noncomputable def z7q (x0:List UInt8) (x1:Bool) (x2 x3 x4 x5:Int) (x6:Bool) (x7 x8 x9 xA xB xC xD xE xF:Int) (xG:List PV) (xH:List UInt8) (xI:List UInt8) (xJ:List PV):Option PV :=
 qk8 zc 3 (mkT 46 [(0,(.ptr 0 0)),(1,(.str x0)),(8,(.bool x1))]) x2 x3 x4 x5 x6 x7 x8 x9 xA xB xC xD xE xF xG xH xI xJ
noncomputable def z1w (x0:List UInt8) (x1:Bool) (x2 x3 x4 x5:Int) (x6:Bool) (x7 x8 x9 xA xB xC xD xE xF:Int) (xG:List PV) (xH:List UInt8) (xI:List UInt8) (xJ:List PV):Option PV :=
 qk8 zc 4 (mkT 46 [(0,(.ptr 0 0)),(7,(.str x0)),(8,(.bool x1))]) x2 x3 x4 x5 x6 x7 x8 x9 xA xB xC xD xE xF xG xH xI xJ
noncomputable def z2x (x0:Bool) (x1:List UInt8) (x2:Bool) (x3 x4 x5 x6:Int) (x7:Bool) (x8:List PV) (x9:List PV) (xA:Nat) (xB xC xD xE xF xG xH xI xJ:Int) (xK:List PV):Option PV :=
 qk9 zl 7 (mkT 140 [(0,(.ptr 0 0)),(3,(.ptr 1 0)),(4,(.bool x0)),(5,(.ptr 2 0)),(6,(.str x1)),(7,(.bool x2))]) x3 x4 x5 x6 x7 x8 x9 xA xB xC xD xE xF xG xH xI xJ xK
noncomputable def qk12 (f p:Nat) (T:List PV) (y0 y1 y2 y3:Int) (y4:Bool) (y5:List UInt8) (y6:Nat) (y7 y8 y9 y10 y11 y12 y13 y14 y15:Int) (y16:List UInt8) (y17:Bool) (y18 y19 y20:Int) (y21 y22:List UInt8) (y23:Bool) (y24:List PV):Option PV:=runW EE zg (z1y EE f p T [(.cells zx [(.int .i64 y0),(.int .i64 y1),(.int .i64 y2),(.int .i64 y3),(.bool y4)] false),(.iter y5 y6),(.cells zb [(.int .i64 y7),(.int .i64 y8),(.int .i64 y9),(.int .i64 y10)] false),(.cells zp [(.int .i64 y11)] false),(.cells zb [(.int .i64 y12),(.int .i64 y13),(.int .i64 y14),(.int .i64 y15)] false)] [frAt EE z13 8 7 (mkT 68 [(0,(.ptr 0 0)),(1,(.str y16)),(3,(.bool y17)),(9,(.int .i64 y18)),(11,(.int .i64 y19)),(12,(.int .i32 y20)),(14,(.str y21)),(17,(.ptr 1 0))]) [],frAt EE z23 1 2 (mkT 31 [(0,(.ptr 0 0)),(5,(.str y22)),(6,(.bool y23))]) [],frAt EE z52 0 3 (mkT 9 []) [],frAt EE zt 3 3 (mkT 37 [(4,(.ptr 2 0)),(5,(.ptr 3 0)),(6,(.ptr 0 0))]) [((.func (Go.Fn.func zm) [] [(.ptr 2 0),(.ptr 3 0)]),[])],frAt EE zf 9 2 (mkT 69 [(2,(.ptr 4 0)),(4,(.sl 1 y24))]) []] [])
noncomputable def z4w (x0:List UInt8) (x1:Int) (x2:Bool) (x3 x4 x5 x6:Int) (x7:Bool) (x8:List UInt8) (x9:Nat) (xA xB xC xD xE xF xG xH xI:Int) (xJ:List UInt8) (xK:Bool) (xL xM xN:Int) (xO:List UInt8) (xP:List UInt8) (xQ:Bool) (xR:List PV):Option PV :=
 qk12 z17 1 (mkT 118 [(0,(.ptr 0 0)),(1,(.str x0)),(2,(.int .i32 x1)),(3,(.bool x2))]) x3 x4 x5 x6 x7 x8 x9 xA xB xC xD xE xF xG xH xI xJ xK xL xM xN xO xP xQ xR
noncomputable def qk13 (f p:Nat) (T:List PV) (y0 y1 y2 y3:Int) (y4:Bool) (y5:List UInt8) (y6:Nat) (y7 y8 y9 y10 y11 y12 y13 y14 y15:Int) (y16:List UInt8) (y17:Bool) (y18:Int) (y19:List PV):Option PV:=runW EE zg (z1y EE f p T [(.cells zx [(.int .i64 y0),(.int .i64 y1),(.int .i64 y2),(.int .i64 y3),(.bool y4)] false),(.iter y5 y6),(.cells zb [(.int .i64 y7),(.int .i64 y8),(.int .i64 y9),(.int .i64 y10)] false),(.cells zp [(.int .i64 y11)] false),(.cells zb [(.int .i64 y12),(.int .i64 y13),(.int .i64 y14),(.int .i64 y15)] false)] [frAt EE z23 3 2 (mkT 31 [(0,(.ptr 0 0)),(5,(.str y16)),(6,(.bool y17)),(7,(.int .i64 y18))]) [],frAt EE z52 0 3 (mkT 9 []) [],frAt EE zt 3 3 (mkT 37 [(4,(.ptr 2 0)),(5,(.ptr 3 0)),(6,(.ptr 0 0))]) [((.func (Go.Fn.func zm) [] [(.ptr 2 0),(.ptr 3 0)]),[])],frAt EE zf 9 2 (mkT 69 [(2,(.ptr 4 0)),(4,(.sl 1 y19))]) []] [])
noncomputable def z12 (x0:List UInt8) (x1:List UInt8) (x2:Bool) (x3 x4 x5 x6 x7 x8:Int) (x9:Bool) (xA:List UInt8) (xB:Nat) (xC xD xE xF xG xH xI xJ xK:Int) (xL:List UInt8) (xM:Bool) (xN:Int) (xO:List PV):Option PV :=
 qk13 z13 3 (mkT 68 [(0,(.ptr 0 0)),(1,(.str x0)),(2,(.str x1)),(3,(.bool x2)),(9,(.int .i64 x3)),(10,(.int .i64 x4)),(17,(.ptr 1 0))]) x5 x6 x7 x8 x9 xA xB xC xD xE xF xG xH xI xJ xK xL xM xN xO
noncomputable def z7i (x0 x1 x2 x3 x4 x5 x6 x7 x8:Int) (x9:Bool) (xA xB xC xD:Int) (xE:List PV):Option PV :=
 runW EE zg (z1y EE zt 4 (mkT 37 [(4,(.ptr 0 0)),(5,(.ptr 1 0)),(6,(.ptr 2 0))]) [(.cells zb [(.int .i64 x0),(.int .i64 x1),(.int .i64 x2),(.int .i64 x3)] false),(.cells zp [(.int .i64 x4)] false),(.cells zx [(.int .i64 x5),(.int .i64 x6),(.int .i64 x7),(.int .i64 x8),(.bool x9)] false),(.cells zb [(.int .i64 xA),(.int .i64 xB),(.int .i64 xC),(.int .i64 xD)] false)] [frAt EE zf 9 2 (mkT 69 [(2,(.ptr 3 0)),(4,(.sl 1 xE))]) []] [((.func (Go.Fn.func zm) [] [(.ptr 0 0),(.ptr 1 0)]),[])])
noncomputable def z7p (x0:Bool) (x1 x2 x3 x4 x5 x6:Int) (x7:Bool) (x8 x9 xA xB xC xD xE xF xG:Int) (xH:List PV) (xI:List UInt8) (xJ:List UInt8) (xK:List PV):Option PV :=
 qk8 zc 5 (mkT 46 [(0,(.ptr 0 0)),(8,(.bool x0)),(9,(.int .i64 x1)),(10,(.int .i64 x2))]) x3 x4 x5 x6 x7 x8 x9 xA xB xC xD xE xF xG xH xI xJ xK
noncomputable def qk14 (f p:Nat) (T:List PV) (y0 y1 y2 y3:Int) (y4:Bool) (y5 y6 y7 y8 y9 y10 y11 y12 y13 y14 y15 y16 y17:Int) (y18:List PV):Option PV:=runW EE zg (z1y EE f p T [(.cells zx [(.int .i64 y0),(.int .i64 y1),(.int .i64 y2),(.int .i64 y3),(.bool y4)] false),(.cells zb [(.int .i64 y5),(.int .i64 y6),(.int .i64 y7),(.int .i64 y8)] false),(.cells zb [(.int .i64 y9),(.int .i64 y10),(.int .i64 y11),(.int .i64 y12)] false),(.cells zp [(.int .i64 y13)] false),(.cells zb [(.int .i64 y14),(.int .i64 y15),(.int .i64 y16),(.int .i64 y17)] false)] [frAt EE zt 3 3 (mkT 37 [(4,(.ptr 2 0)),(5,(.ptr 3 0)),(6,(.ptr 0 0))]) [((.func (Go.Fn.func zm) [] [(.ptr 2 0),(.ptr 3 0)]),[])],frAt EE zf 14 1 (mkT 69 [(2,(.ptr 4 0)),(4,(.sl 1 y18))]) []] [])
noncomputable def z7s (x0 x1 x2 x3 x4:Int) (x5:Bool) (x6 x7 x8 x9 xA xB xC xD xE xF xG xH xI:Int) (xJ:List PV):Option PV :=
 qk14 zl 21 (mkT 140 [(0,(.ptr 0 0)),(12,(.ptr 1 0)),(13,(.int .i64 x0))]) x1 x2 x3 x4 x5 x6 x7 x8 x9 xA xB xC xD xE xF xG xH xI xJ
noncomputable def z46 (x0 x1 x2 x3 x4 x5 x6 x7 x8:Int) (x9:Bool) (xA xB xC xD:Int) (xE:List PV):Option PV :=
 runW EE zg (z1y EE zt 4 (mkT 37 [(4,(.ptr 0 0)),(5,(.ptr 1 0)),(6,(.ptr 2 0))]) [(.cells zb [(.int .i64 x0),(.int .i64 x1),(.int .i64 x2),(.int .i64 x3)] false),(.cells zp [(.int .i64 x4)] false),(.cells zx [(.int .i64 x5),(.int .i64 x6),(.int .i64 x7),(.int .i64 x8),(.bool x9)] false),(.cells zb [(.int .i64 xA),(.int .i64 xB),(.int .i64 xC),(.int .i64 xD)] false)] [frAt EE zf 14 1 (mkT 69 [(2,(.ptr 3 0)),(4,(.sl 1 xE))]) []] [((.func (Go.Fn.func zm) [] [(.ptr 0 0),(.ptr 1 0)]),[])])
noncomputable def qk15 (f p:Nat) (T:List PV) (y0 y1 y2 y3:Int) (y4:Bool) (y5 y6:List PV) (y7:Nat) (y8 y9 y10 y11 y12 y13 y14 y15 y16:Int) (y17:Bool) (y18:List UInt8) (y19:List PV):Option PV:=runW EE zg (z1y EE f p T [(.cells zx [(.int .i64 y0),(.int .i64 y1),(.int .i64 y2),(.int .i64 y3),(.bool y4)] false),(.cells z18 [(.sl 1 y5)] false),(.row z7g 1 y6 0 (some y7)),(.cells zb [(.int .i64 y8),(.int .i64 y9),(.int .i64 y10),(.int .i64 y11)] false),(.cells zp [(.int .i64 y12)] false),(.cells zb [(.int .i64 y13),(.int .i64 y14),(.int .i64 y15),(.int .i64 y16)] false)] [frAt EE zl 8 2 (mkT 140 [(0,(.ptr 0 0)),(3,(.ptr 1 0)),(4,(.bool y17)),(5,(.ptr 2 0)),(6,(.str y18))]) [],frAt EE zt 3 3 (mkT 37 [(4,(.ptr 3 0)),(5,(.ptr 4 0)),(6,(.ptr 0 0))]) [((.func (Go.Fn.func zm) [] [(.ptr 3 0),(.ptr 4 0)]),[])],frAt EE zf 14 1 (mkT 69 [(2,(.ptr 5 0)),(4,(.sl 1 y19))]) []] [])
noncomputable def z5d (x0:List UInt8) (x1 x2 x3 x4:Int) (x5:Bool) (x6:List PV) (x7:List PV) (x8:Nat) (x9 xA xB xC xD xE xF xG xH:Int) (xI:Bool) (xJ:List UInt8) (xK:List PV):Option PV :=
 qk15 zh 0 (mkT 82 [(0,(.ptr 0 0)),(1,(.str x0))]) x1 x2 x3 x4 x5 x6 x7 x8 x9 xA xB xC xD xE xF xG xH xI xJ xK
noncomputable def z4v (x0:List UInt8) (x1:List UInt8) (x2:Bool) (x3 x4 x5 x6:Int) (x7:Bool) (x8:List UInt8) (x9:Nat) (xA xB xC xD xE xF xG xH xI:Int) (xJ:List UInt8) (xK:Bool) (xL xM xN:Int) (xO:List UInt8) (xP:List UInt8) (xQ:Bool) (xR:List PV):Option PV :=
 qk12 z17 3 (mkT 118 [(0,(.ptr 0 0)),(8,(.str x0)),(9,(.str x1)),(10,(.bool x2))]) x3 x4 x5 x6 x7 x8 x9 xA xB xC xD xE xF xG xH xI xJ xK xL xM xN xO xP xQ xR
noncomputable def z7 (x0:List UInt8) (x1:Bool) (x2 x3 x4:Int) (x5:List UInt8) (x6 x7 x8 x9:Int) (xA:Bool) (xB:List UInt8) (xC:Nat) (xD xE xF xG xH xI xJ xK xL:Int) (xM:List UInt8) (xN:Bool) (xO:List PV):Option PV :=
 qk7 z13 9 (mkT 68 [(0,(.ptr 0 0)),(1,(.str x0)),(3,(.bool x1)),(9,(.int .i64 x2)),(11,(.int .i64 x3)),(12,(.int .i32 x4)),(14,(.str x5)),(17,(.ptr 1 0))]) x6 x7 x8 x9 xA xB xC xD xE xF xG xH xI xJ xK xL xM xN xO
noncomputable def z45 (x0:List UInt8) (x1 x2 x3 x4:Int) (x5:Bool) (x6:List UInt8) (x7:Nat) (x8 x9 xA xB xC xD xE xF xG:Int) (xH:List UInt8) (xI:Bool) (xJ xK xL:Int) (xM:List UInt8) (xN:List UInt8) (xO:Bool) (xP:List PV):Option PV :=
 qk12 z17 12 (mkT 118 [(0,(.ptr 0 0)),(1,(.str x0))]) x1 x2 x3 x4 x5 x6 x7 x8 x9 xA xB xC xD xE xF xG xH xI xJ xK xL xM xN xO xP
noncomputable def z2g (x0:List UInt8) (x1 x2 x3 x4 x5:Int) (x6:Bool) (x7:List UInt8) (x8:Nat) (x9 xA xB xC xD xE xF xG xH:Int) (xI:List UInt8) (xJ:Bool) (xK xL xM:Int) (xN:List UInt8) (xO:List UInt8) (xP:Bool) (xQ:List PV):Option PV :=
 qk12 z17 13 (mkT 118 [(0,(.ptr 0 0)),(1,(.str x0)),(2,(.int .i32 x1))]) x2 x3 x4 x5 x6 x7 x8 x9 xA xB xC xD xE xF xG xH xI xJ xK xL xM xN xO xP xQ
noncomputable def z2s (x0:List UInt8) (x1:List UInt8) (x2:Bool) (x3 x4 x5 x6 x7 x8 x9 xA:Int) (xB:Bool) (xC:List UInt8) (xD:Nat) (xE xF xG xH xI xJ xK xL xM:Int) (xN:List UInt8) (xO:Bool) (xP:Int) (xQ:List PV):Option PV :=
 qk13 z13 6 (mkT 68 [(0,(.ptr 0 0)),(1,(.str x0)),(2,(.str x1)),(3,(.bool x2)),(9,(.int .i64 x3)),(10,(.int .i64 x4)),(11,(.int .i64 x5)),(12,(.int .i32 x6)),(17,(.ptr 1 0))]) x7 x8 x9 xA xB xC xD xE xF xG xH xI xJ xK xL xM xN xO xP xQ
noncomputable def z1t (x0 x1 x2 x3 x4:Int) (x5:Bool) (x6 x7 x8 x9 xA xB xC xD xE:Int) (xF:List UInt8) (xG:Bool) (xH:Int) (xI:List PV):Option PV :=
 qk10 z13 12 (mkT 68 [(9,(.int .i64 x0))]) x1 x2 x3 x4 x5 x6 x7 x8 x9 xA xB xC xD xE xF xG xH xI
noncomputable def z7o (x0:Bool) (x1 x2 x3 x4 x5 x6:Int) (x7:Bool) (x8 x9 xA xB xC xD xE xF xG:Int) (xH:List PV) (xI:List UInt8) (xJ:List UInt8) (xK:List PV):Option PV :=
 qk8 zc 6 (mkT 46 [(0,(.ptr 0 0)),(8,(.bool x0)),(9,(.int .i64 x1)),(10,(.int .i64 x2))]) x3 x4 x5 x6 x7 x8 x9 xA xB xC xD xE xF xG xH xI xJ xK
noncomputable def z4b (x0 x1 x2 x3:Int) (x4:Bool) (x5 x6 x7 x8 x9 xA xB xC xD xE xF xG xH:Int) (xI:List PV):Option PV :=
 qk14 zl 22 (mkT 140 [(0,(.ptr 0 0)),(12,(.ptr 1 0))]) x0 x1 x2 x3 x4 x5 x6 x7 x8 x9 xA xB xC xD xE xF xG xH xI
noncomputable def z8r (x0:List UInt8) (x1:List PV) (x2 x3 x4 x5:Int) (x6:Bool) (x7:List PV) (x8:List PV) (x9:Nat) (xA xB xC xD xE xF xG xH xI:Int) (xJ:Bool) (xK:List UInt8) (xL:List PV):Option PV :=
 qk15 zh 2 (mkT 82 [(0,(.ptr 0 0)),(1,(.str x0)),(5,(.sl 1 x1))]) x2 x3 x4 x5 x6 x7 x8 x9 xA xB xC xD xE xF xG xH xI xJ xK xL
noncomputable def z9 (x0:List UInt8) (x1:List UInt8) (x2:Bool) (x3 x4 x5 x6:Int) (x7:Bool) (x8:List UInt8) (x9:Nat) (xA xB xC xD xE xF xG xH xI:Int) (xJ:List UInt8) (xK:Bool) (xL xM xN:Int) (xO:List UInt8) (xP:List UInt8) (xQ:Bool) (xR:List PV):Option PV :=
 qk12 z17 4 (mkT 118 [(0,(.ptr 0 0)),(8,(.str x0)),(9,(.str x1)),(10,(.bool x2))]) x3 x4 x5 x6 x7 x8 x9 xA xB xC xD xE xF xG xH xI xJ xK xL xM xN xO xP xQ xR
noncomputable def z8h (x0:List UInt8) (x1:List UInt8) (x2:Bool) (x3 x4 x5 x6 x7 x8:Int) (x9:Bool) (xA:List UInt8) (xB:Nat) (xC xD xE xF xG xH xI xJ xK:Int) (xL:List UInt8) (xM:Bool) (xN:List PV):Option PV :=
 qk7 z13 10 (mkT 68 [(0,(.ptr 0 0)),(1,(.str x0)),(2,(.str x1)),(3,(.bool x2)),(9,(.int .i64 x3)),(10,(.int .i64 x4)),(17,(.ptr 1 0))]) x5 x6 x7 x8 x9 xA xB xC xD xE xF xG xH xI xJ xK xL xM xN
noncomputable def z86 (x0:List UInt8) (x1:Bool) (x2 x3 x4 x5:Int) (x6:List UInt8) (x7:Bool) (x8 x9 xA xB:Int) (xC:Bool) (xD:List UInt8) (xE:Nat) (xF xG xH xI xJ xK xL xM xN:Int) (xO:List UInt8) (xP:Bool) (xQ:Int) (xR:List PV):Option PV :=
 qk13 z13 7 (mkT 68 [(0,(.ptr 0 0)),(1,(.str x0)),(3,(.bool x1)),(9,(.int .i64 x2)),(10,(.int .i64 x3)),(11,(.int .i64 x4)),(12,(.int .i32 x5)),(14,(.str x6)),(15,(.bool x7)),(17,(.ptr 1 0))]) x8 x9 xA xB xC xD xE xF xG xH xI xJ xK xL xM xN xO xP xQ xR
noncomputable def z9a (x0 x1 x2 x3 x4 x5 x6 x7 x8 x9 xA:Int) (xB:Bool) (xC xD xE xF:Int) (xG:List PV):Option PV :=
 qk11 z23 4 (mkT 31 [(7,(.int .i64 x0)),(8,(.int .i64 x1))]) x2 x3 x4 x5 x6 x7 x8 x9 xA xB xC xD xE xF xG
noncomputable def z49 (x0:Bool) (x1 x2 x3 x4 x5:Int) (x6:Bool) (x7 x8 x9 xA xB xC xD xE xF:Int) (xG:List PV) (xH:List UInt8) (xI:List UInt8) (xJ:List PV):Option PV :=
 qk8 zc 7 (mkT 46 [(8,(.bool x0)),(9,(.int .i64 x1))]) x2 x3 x4 x5 x6 x7 x8 x9 xA xB xC xD xE xF xG xH xI xJ
noncomputable def z8q (x0 x1 x2 x3:Int) (x4:Bool) (x5:List PV) (x6:List PV) (x7:Nat) (x8 x9 xA xB xC xD xE xF xG:Int) (xH:Bool) (xI:List UInt8) (xJ:List PV):Option PV :=
 qk15 zh 3 (mkT 82 []) x0 x1 x2 x3 x4 x5 x6 x7 x8 x9 xA xB xC xD xE xF xG xH xI xJ
noncomputable def z8p (x0:List UInt8) (x1:List PV) (x2 x3 x4 x5:Int) (x6:Bool) (x7:List PV) (x8:List PV) (x9:Nat) (xA xB xC xD xE xF xG xH xI:Int) (xJ:Bool) (xK:List UInt8) (xL:List PV):Option PV :=
 qk15 zh 4 (mkT 82 [(0,(.ptr 0 0)),(1,(.str x0)),(5,(.sl 1 x1))]) x2 x3 x4 x5 x6 x7 x8 x9 xA xB xC xD xE xF xG xH xI xJ xK xL
noncomputable def z84 (x0:List UInt8) (x1 x2 x3 x4 x5:Int) (x6:Bool) (x7:List UInt8) (x8:Nat) (x9 xA xB xC xD xE xF xG xH:Int) (xI:List UInt8) (xJ:Bool) (xK xL xM:Int) (xN:List UInt8) (xO:List UInt8) (xP:Bool) (xQ:List PV):Option PV :=
 qk12 z17 6 (mkT 118 [(0,(.ptr 0 0)),(8,(.str x0)),(11,(.int .i64 x1))]) x2 x3 x4 x5 x6 x7 x8 x9 xA xB xC xD xE xF xG xH xI xJ xK xL xM xN xO xP xQ
noncomputable def z85 (x0:List UInt8) (x1:Bool) (x2 x3 x4 x5:Int) (x6:List UInt8) (x7 x8 x9 xA:Int) (xB:Bool) (xC:List UInt8) (xD:Nat) (xE xF xG xH xI xJ xK xL xM:Int) (xN:List UInt8) (xO:Bool) (xP:Int) (xQ:List PV):Option PV :=
 qk13 z13 8 (mkT 68 [(0,(.ptr 0 0)),(1,(.str x0)),(3,(.bool x1)),(9,(.int .i64 x2)),(10,(.int .i64 x3)),(11,(.int .i64 x4)),(12,(.int .i32 x5)),(14,(.str x6)),(17,(.ptr 1 0))]) x7 x8 x9 xA xB xC xD xE xF xG xH xI xJ xK xL xM xN xO xP xQ
noncomputable def z99 (x0 x1 x2 x3 x4 x5 x6 x7 x8 x9 xA:Int) (xB:Bool) (xC xD xE xF:Int) (xG:List PV):Option PV :=
 qk11 z23 5 (mkT 31 [(7,(.int .i64 x0)),(8,(.int .i64 x1))]) x2 x3 x4 x5 x6 x7 x8 x9 xA xB xC xD xE xF xG
noncomputable def qk16 (f p:Nat) (T:List PV) (y0 y1 y2 y3:Int) (y4:Bool) (y5 y6 y7 y8 y9 y10 y11 y12 y13:Int) (y14:List PV) (y15 y16:List UInt8) (y17:List PV):Option PV:=runW EE zg (z1y EE f p T [(.cells zx [(.int .i64 y0),(.int .i64 y1),(.int .i64 y2),(.int .i64 y3),(.bool y4)] false),(.cells zb [(.int .i64 y5),(.int .i64 y6),(.int .i64 y7),(.int .i64 y8)] false),(.cells zp [(.int .i64 y9)] false),(.cells zb [(.int .i64 y10),(.int .i64 y11),(.int .i64 y12),(.int .i64 y13)] false)] [frAt EE z14 3 10 (mkT 78 [(0,(.ptr 0 0)),(1,(.sl 1 y14)),(4,(.str y15)),(6,(.str y16))]) [],frAt EE zt 3 3 (mkT 37 [(4,(.ptr 1 0)),(5,(.ptr 2 0)),(6,(.ptr 0 0))]) [((.func (Go.Fn.func zm) [] [(.ptr 1 0),(.ptr 2 0)]),[])],frAt EE zf 11 1 (mkT 69 [(2,(.ptr 3 0)),(4,(.sl 1 y17))]) []] [])
noncomputable def z1j (x0 x1 x2 x3 x4 x5:Int) (x6:Bool) (x7 x8 x9 xA xB xC xD xE xF:Int) (xG:List PV) (xH:List UInt8) (xI:List UInt8) (xJ:List PV):Option PV :=
 qk16 zk 0 (mkT 34 [(0,(.ptr 0 0)),(1,(.ptr 0 1)),(2,(.int .i64 x0)),(3,(.int .i64 x1))]) x2 x3 x4 x5 x6 x7 x8 x9 xA xB xC xD xE xF xG xH xI xJ
noncomputable def z4e (x0:Bool) (x1:List UInt8) (x2 x3 x4 x5:Int) (x6:Bool) (x7:List PV) (x8:List PV) (x9:Nat) (xA xB xC xD xE xF xG xH xI:Int) (xJ:List PV):Option PV :=
 qk9 zl 11 (mkT 140 [(0,(.ptr 0 0)),(3,(.ptr 1 0)),(4,(.bool x0)),(5,(.ptr 2 0)),(6,(.str x1))]) x2 x3 x4 x5 x6 x7 x8 x9 xA xB xC xD xE xF xG xH xI xJ
noncomputable def qk17 (f p:Nat) (T:List PV) (y0 y1 y2 y3:Int) (y4:Bool) (y5 y6:List PV) (y7:Nat) (y8 y9 y10 y11 y12 y13 y14 y15 y16:Int) (y17:List UInt8) (y18:List PV) (y19:Bool) (y20:List UInt8) (y21:List PV):Option PV:=runW EE zg (z1y EE f p T [(.cells zx [(.int .i64 y0),(.int .i64 y1),(.int .i64 y2),(.int .i64 y3),(.bool y4)] false),(.cells z18 [(.sl 1 y5)] false),(.row z7g 1 y6 0 (some y7)),(.cells zb [(.int .i64 y8),(.int .i64 y9),(.int .i64 y10),(.int .i64 y11)] false),(.cells zp [(.int .i64 y12)] false),(.cells zb [(.int .i64 y13),(.int .i64 y14),(.int .i64 y15),(.int .i64 y16)] false)] [frAt EE zh 4 4 (mkT 82 [(0,(.ptr 0 0)),(1,(.str y17)),(5,(.sl 1 y18))]) [],frAt EE zl 8 2 (mkT 140 [(0,(.ptr 0 0)),(3,(.ptr 1 0)),(4,(.bool y19)),(5,(.ptr 2 0)),(6,(.str y20))]) [],frAt EE zt 3 3 (mkT 37 [(4,(.ptr 3 0)),(5,(.ptr 4 0)),(6,(.ptr 0 0))]) [((.func (Go.Fn.func zm) [] [(.ptr 3 0),(.ptr 4 0)]),[])],frAt EE zf 14 1 (mkT 69 [(2,(.ptr 5 0)),(4,(.sl 1 y21))]) []] [])
noncomputable def z3u (x0:List UInt8) (x1:Bool) (x2 x3 x4 x5:Int) (x6:Bool) (x7:List PV) (x8:List PV) (x9:Nat) (xA xB xC xD xE xF xG xH xI:Int) (xJ:List UInt8) (xK:List PV) (xL:Bool) (xM:List UInt8) (xN:List PV):Option PV :=
 qk17 zc 0 (mkT 46 [(0,(.ptr 0 0)),(1,(.str x0)),(2,(.bool x1))]) x2 x3 x4 x5 x6 x7 x8 x9 xA xB xC xD xE xF xG xH xI xJ xK xL xM xN
noncomputable def z2r (x0 x1 x2 x3 x4:Int) (x5:Bool) (x6:List UInt8) (x7:Nat) (x8 x9 xA xB xC xD xE xF xG:Int) (xH:List UInt8) (xI:Bool) (xJ xK xL:Int) (xM:List UInt8) (xN:List UInt8) (xO:Bool) (xP:List PV):Option PV :=
 qk12 z17 8 (mkT 118 [(0,(.ptr 0 0)),(11,(.int .i64 x0))]) x1 x2 x3 x4 x5 x6 x7 x8 x9 xA xB xC xD xE xF xG xH xI xJ xK xL xM xN xO xP
noncomputable def qk18 (f p:Nat) (T:List PV) (y0 y1 y2 y3:Int) (y4:Bool) (y5:List UInt8) (y6:Nat) (y7 y8 y9 y10 y11 y12 y13 y14 y15:Int) (y16:List UInt8) (y17:Bool) (y18 y19 y20:Int) (y21 y22:List UInt8) (y23:Bool) (y24:Int) (y25:List PV):Option PV:=runW EE zg (z1y EE f p T [(.cells zx [(.int .i64 y0),(.int .i64 y1),(.int .i64 y2),(.int .i64 y3),(.bool y4)] false),(.iter y5 y6),(.cells zb [(.int .i64 y7),(.int .i64 y8),(.int .i64 y9),(.int .i64 y10)] false),(.cells zp [(.int .i64 y11)] false),(.cells zb [(.int .i64 y12),(.int .i64 y13),(.int .i64 y14),(.int .i64 y15)] false)] [frAt EE z13 8 7 (mkT 68 [(0,(.ptr 0 0)),(1,(.str y16)),(3,(.bool y17)),(9,(.int .i64 y18)),(11,(.int .i64 y19)),(12,(.int .i32 y20)),(14,(.str y21)),(17,(.ptr 1 0))]) [],frAt EE z23 3 2 (mkT 31 [(0,(.ptr 0 0)),(5,(.str y22)),(6,(.bool y23)),(7,(.int .i64 y24))]) [],frAt EE z52 0 3 (mkT 9 []) [],frAt EE zt 3 3 (mkT 37 [(4,(.ptr 2 0)),(5,(.ptr 3 0)),(6,(.ptr 0 0))]) [((.func (Go.Fn.func zm) [] [(.ptr 2 0),(.ptr 3 0)]),[])],frAt EE zf 9 2 (mkT 69 [(2,(.ptr 4 0)),(4,(.sl 1 y25))]) []] [])
noncomputable def z3w (x0:List UInt8) (x1:Int) (x2:Bool) (x3 x4 x5 x6:Int) (x7:Bool) (x8:List UInt8) (x9:Nat) (xA xB xC xD xE xF xG xH xI:Int) (xJ:List UInt8) (xK:Bool) (xL xM xN:Int) (xO:List UInt8) (xP:List UInt8) (xQ:Bool) (xR:Int) (xS:List PV):Option PV :=
 qk18 z17 1 (mkT 118 [(0,(.ptr 0 0)),(1,(.str x0)),(2,(.int .i32 x1)),(3,(.bool x2))]) x3 x4 x5 x6 x7 x8 x9 xA xB xC xD xE xF xG xH xI xJ xK xL xM xN xO xP xQ xR xS
noncomputable def z8s (x0 x1 x2 x3 x4 x5:Int) (x6:Bool) (x7 x8 x9 xA xB xC xD xE xF:Int) (xG:List PV) (xH:List UInt8) (xI:List UInt8) (xJ:List PV):Option PV :=
 qk16 zk 1 (mkT 34 [(0,(.ptr 0 0)),(1,(.ptr 0 1)),(8,(.int .i64 x0)),(9,(.int .i64 x1))]) x2 x3 x4 x5 x6 x7 x8 x9 xA xB xC xD xE xF xG xH xI xJ
noncomputable def qk19 (f p:Nat) (T:List PV) (y0 y1 y2 y3:Int) (y4:Bool) (y5 y6:List PV) (y7:Nat) (y8 y9 y10 y11 y12 y13 y14 y15 y16:Int) (y17:Bool) (y18:List PV):Option PV:=runW EE zg (z1y EE f p T [(.cells zx [(.int .i64 y0),(.int .i64 y1),(.int .i64 y2),(.int .i64 y3),(.bool y4)] false),(.cells z18 [(.sl 1 y5)] false),(.row z7g 1 y6 0 (some y7)),(.cells zb [(.int .i64 y8),(.int .i64 y9),(.int .i64 y10),(.int .i64 y11)] false),(.cells zp [(.int .i64 y12)] false),(.cells zb [(.int .i64 y13),(.int .i64 y14),(.int .i64 y15),(.int .i64 y16)] false)] [frAt EE zl 11 2 (mkT 140 [(0,(.ptr 0 0)),(3,(.ptr 1 0)),(4,(.bool y17)),(5,(.ptr 2 0))]) [],frAt EE zt 3 3 (mkT 37 [(4,(.ptr 3 0)),(5,(.ptr 4 0)),(6,(.ptr 0 0))]) [((.func (Go.Fn.func zm) [] [(.ptr 3 0),(.ptr 4 0)]),[])],frAt EE zf 14 1 (mkT 69 [(2,(.ptr 5 0)),(4,(.sl 1 y18))]) []] [])
noncomputable def z3t (x0:List UInt8) (x1:Bool) (x2 x3 x4 x5:Int) (x6:Bool) (x7:List PV) (x8:List PV) (x9:Nat) (xA xB xC xD xE xF xG xH xI:Int) (xJ:Bool) (xK:List PV):Option PV :=
 qk19 zc 0 (mkT 46 [(0,(.ptr 0 0)),(1,(.str x0)),(2,(.bool x1))]) x2 x3 x4 x5 x6 x7 x8 x9 xA xB xC xD xE xF xG xH xI xJ xK
noncomputable def z70 (x0:List UInt8) (x1:Bool) (x2:List UInt8) (x3:Bool) (x4 x5 x6 x7:Int) (x8:Bool) (x9:List PV) (xA:List PV) (xB:Nat) (xC xD xE xF xG xH xI xJ xK:Int) (xL:List UInt8) (xM:List PV) (xN:Bool) (xO:List UInt8) (xP:List PV):Option PV :=
 qk17 zc 2 (mkT 46 [(0,(.ptr 0 0)),(1,(.str x0)),(2,(.bool x1)),(7,(.str x2)),(8,(.bool x3))]) x4 x5 x6 x7 x8 x9 xA xB xC xD xE xF xG xH xI xJ xK xL xM xN xO xP
noncomputable def z3v (x0:List UInt8) (x1:List UInt8) (x2:Bool) (x3 x4 x5 x6:Int) (x7:Bool) (x8:List UInt8) (x9:Nat) (xA xB xC xD xE xF xG xH xI:Int) (xJ:List UInt8) (xK:Bool) (xL xM xN:Int) (xO:List UInt8) (xP:List UInt8) (xQ:Bool) (xR:Int) (xS:List PV):Option PV :=
 qk18 z17 3 (mkT 118 [(0,(.ptr 0 0)),(8,(.str x0)),(9,(.str x1)),(10,(.bool x2))]) x3 x4 x5 x6 x7 x8 x9 xA xB xC xD xE xF xG xH xI xJ xK xL xM xN xO xP xQ xR xS
noncomputable def z6 (x0:List UInt8) (x1:Bool) (x2 x3 x4:Int) (x5:List UInt8) (x6 x7 x8 x9:Int) (xA:Bool) (xB:List UInt8) (xC:Nat) (xD xE xF xG xH xI xJ xK xL:Int) (xM:List UInt8) (xN:Bool) (xO:Int) (xP:List PV):Option PV :=
 qk13 z13 9 (mkT 68 [(0,(.ptr 0 0)),(1,(.str x0)),(3,(.bool x1)),(9,(.int .i64 x2)),(11,(.int .i64 x3)),(12,(.int .i32 x4)),(14,(.str x5)),(17,(.ptr 1 0))]) x6 x7 x8 x9 xA xB xC xD xE xF xG xH xI xJ xK xL xM xN xO xP
noncomputable def z3j (x0:List UInt8) (x1 x2 x3 x4:Int) (x5:Bool) (x6:List UInt8) (x7:Nat) (x8 x9 xA xB xC xD xE xF xG:Int) (xH:List UInt8) (xI:Bool) (xJ xK xL:Int) (xM:List UInt8) (xN:List UInt8) (xO:Bool) (xP:Int) (xQ:List PV):Option PV :=
 qk18 z17 12 (mkT 118 [(0,(.ptr 0 0)),(1,(.str x0))]) x1 x2 x3 x4 x5 x6 x7 x8 x9 xA xB xC xD xE xF xG xH xI xJ xK xL xM xN xO xP xQ
noncomputable def z26 (x0:List UInt8) (x1 x2 x3 x4 x5:Int) (x6:Bool) (x7:List UInt8) (x8:Nat) (x9 xA xB xC xD xE xF xG xH:Int) (xI:List UInt8) (xJ:Bool) (xK xL xM:Int) (xN:List UInt8) (xO:List UInt8) (xP:Bool) (xQ:Int) (xR:List PV):Option PV :=
 qk18 z17 13 (mkT 118 [(0,(.ptr 0 0)),(1,(.str x0)),(2,(.int .i32 x1))]) x2 x3 x4 x5 x6 x7 x8 x9 xA xB xC xD xE xF xG xH xI xJ xK xL xM xN xO xP xQ xR
noncomputable def z5e (x0 x1 x2 x3 x4 x5:Int) (x6:Bool) (x7 x8 x9 xA xB xC xD xE xF:Int) (xG:List PV) (xH:List UInt8) (xI:List UInt8) (xJ:List PV):Option PV :=
 qk16 zk 3 (mkT 34 [(0,(.ptr 0 0)),(1,(.ptr 0 1)),(8,(.int .i64 x0)),(9,(.int .i64 x1))]) x2 x3 x4 x5 x6 x7 x8 x9 xA xB xC xD xE xF xG xH xI xJ
noncomputable def z6z (x0:List UInt8) (x1:Bool) (x2:List UInt8) (x3:Bool) (x4 x5 x6 x7:Int) (x8:Bool) (x9:List PV) (xA:List PV) (xB:Nat) (xC xD xE xF xG xH xI xJ xK:Int) (xL:Bool) (xM:List PV):Option PV :=
 qk19 zc 2 (mkT 46 [(0,(.ptr 0 0)),(1,(.str x0)),(2,(.bool x1)),(7,(.str x2)),(8,(.bool x3))]) x4 x5 x6 x7 x8 x9 xA xB xC xD xE xF xG xH xI xJ xK xL xM
noncomputable def z6v (x0:List UInt8) (x1:Bool) (x2 x3 x4 x5:Int) (x6:Bool) (x7:List PV) (x8:List PV) (x9:Nat) (xA xB xC xD xE xF xG xH xI:Int) (xJ:List UInt8) (xK:List PV) (xL:Bool) (xM:List UInt8) (xN:List PV):Option PV :=
 qk17 zc 3 (mkT 46 [(0,(.ptr 0 0)),(1,(.str x0)),(8,(.bool x1))]) x2 x3 x4 x5 x6 x7 x8 x9 xA xB xC xD xE xF xG xH xI xJ xK xL xM xN
noncomputable def z1q (x0:List UInt8) (x1:Bool) (x2 x3 x4 x5:Int) (x6:Bool) (x7:List PV) (x8:List PV) (x9:Nat) (xA xB xC xD xE xF xG xH xI:Int) (xJ:List UInt8) (xK:List PV) (xL:Bool) (xM:List UInt8) (xN:List PV):Option PV :=
 qk17 zc 4 (mkT 46 [(0,(.ptr 0 0)),(7,(.str x0)),(8,(.bool x1))]) x2 x3 x4 x5 x6 x7 x8 x9 xA xB xC xD xE xF xG xH xI xJ xK xL xM xN
noncomputable def z8 (x0:List UInt8) (x1:List UInt8) (x2:Bool) (x3 x4 x5 x6:Int) (x7:Bool) (x8:List UInt8) (x9:Nat) (xA xB xC xD xE xF xG xH xI:Int) (xJ:List UInt8) (xK:Bool) (xL xM xN:Int) (xO:List UInt8) (xP:List UInt8) (xQ:Bool) (xR:Int) (xS:List PV):Option PV :=
 qk18 z17 4 (mkT 118 [(0,(.ptr 0 0)),(8,(.str x0)),(9,(.str x1)),(10,(.bool x2))]) x3 x4 x5 x6 x7 x8 x9 xA xB xC xD xE xF xG xH xI xJ xK xL xM xN xO xP xQ xR xS
noncomputable def z7e (x0:List UInt8) (x1:List UInt8) (x2:Bool) (x3 x4 x5 x6 x7 x8:Int) (x9:Bool) (xA:List UInt8) (xB:Nat) (xC xD xE xF xG xH xI xJ xK:Int) (xL:List UInt8) (xM:Bool) (xN:Int) (xO:List PV):Option PV :=
 qk13 z13 10 (mkT 68 [(0,(.ptr 0 0)),(1,(.str x0)),(2,(.str x1)),(3,(.bool x2)),(9,(.int .i64 x3)),(10,(.int .i64 x4)),(17,(.ptr 1 0))]) x5 x6 x7 x8 x9 xA xB xC xD xE xF xG xH xI xJ xK xL xM xN xO
noncomputable def z38 (x0:List PV) (x1:List UInt8) (x2:List UInt8) (x3 x4 x5 x6:Int) (x7:Bool) (x8 x9 xA xB xC xD xE xF xG:Int) (xH:List PV):Option PV :=
 qk4 z14 4 (mkT 78 [(0,(.ptr 0 0)),(1,(.sl 1 x0)),(4,(.str x1)),(6,(.str x2))]) x3 x4 x5 x6 x7 x8 x9 xA xB xC xD xE xF xG xH
noncomputable def z6u (x0:List UInt8) (x1:Bool) (x2 x3 x4 x5:Int) (x6:Bool) (x7:List PV) (x8:List PV) (x9:Nat) (xA xB xC xD xE xF xG xH xI:Int) (xJ:Bool) (xK:List PV):Option PV :=
 qk19 zc 3 (mkT 46 [(0,(.ptr 0 0)),(1,(.str x0)),(8,(.bool x1))]) x2 x3 x4 x5 x6 x7 x8 x9 xA xB xC xD xE xF xG xH xI xJ xK
noncomputable def z1p (x0:List UInt8) (x1:Bool) (x2 x3 x4 x5:Int) (x6:Bool) (x7:List PV) (x8:List PV) (x9:Nat) (xA xB xC xD xE xF xG xH xI:Int) (xJ:Bool) (xK:List PV):Option PV :=
 qk19 zc 4 (mkT 46 [(0,(.ptr 0 0)),(7,(.str x0)),(8,(.bool x1))]) x2 x3 x4 x5 x6 x7 x8 x9 xA xB xC xD xE xF xG xH xI xJ xK
noncomputable def z6q (x0:Bool) (x1 x2 x3 x4 x5 x6:Int) (x7:Bool) (x8:List PV) (x9:List PV) (xA:Nat) (xB xC xD xE xF xG xH xI xJ:Int) (xK:List UInt8) (xL:List PV) (xM:Bool) (xN:List UInt8) (xO:List PV):Option PV :=
 qk17 zc 5 (mkT 46 [(0,(.ptr 0 0)),(8,(.bool x0)),(9,(.int .i64 x1)),(10,(.int .i64 x2))]) x3 x4 x5 x6 x7 x8 x9 xA xB xC xD xE xF xG xH xI xJ xK xL xM xN xO
noncomputable def z74 (x0:List UInt8) (x1 x2 x3 x4 x5:Int) (x6:Bool) (x7:List UInt8) (x8:Nat) (x9 xA xB xC xD xE xF xG xH:Int) (xI:List UInt8) (xJ:Bool) (xK xL xM:Int) (xN:List UInt8) (xO:List UInt8) (xP:Bool) (xQ:Int) (xR:List PV):Option PV :=
 qk18 z17 6 (mkT 118 [(0,(.ptr 0 0)),(8,(.str x0)),(11,(.int .i64 x1))]) x2 x3 x4 x5 x6 x7 x8 x9 xA xB xC xD xE xF xG xH xI xJ xK xL xM xN xO xP xQ xR
noncomputable def qk20 (f p:Nat) (T:List PV) (y0 y1 y2 y3:Int) (y4:Bool) (y5 y6 y7 y8 y9 y10 y11 y12 y13:Int) (y14:List PV) (y15 y16:List UInt8) (y17:List PV):Option PV:=runW EE zg (z1y EE f p T [(.cells zx [(.int .i64 y0),(.int .i64 y1),(.int .i64 y2),(.int .i64 y3),(.bool y4)] false),(.cells zb [(.int .i64 y5),(.int .i64 y6),(.int .i64 y7),(.int .i64 y8)] false),(.cells zp [(.int .i64 y9)] false),(.cells zb [(.int .i64 y10),(.int .i64 y11),(.int .i64 y12),(.int .i64 y13)] false)] [frAt EE z14 4 9 (mkT 78 [(0,(.ptr 0 0)),(1,(.sl 1 y14)),(4,(.str y15)),(6,(.str y16)),(50,(.ptr 0 0)),(54,(.ptr 0 1))]) [],frAt EE zt 3 3 (mkT 37 [(4,(.ptr 1 0)),(5,(.ptr 2 0)),(6,(.ptr 0 0))]) [((.func (Go.Fn.func zm) [] [(.ptr 1 0),(.ptr 2 0)]),[])],frAt EE zf 11 1 (mkT 69 [(2,(.ptr 3 0)),(4,(.sl 1 y17))]) []] [])
noncomputable def z3s (x0:List UInt8) (x1:Bool) (x2 x3 x4 x5:Int) (x6:Bool) (x7 x8 x9 xA xB xC xD xE xF:Int) (xG:List PV) (xH:List UInt8) (xI:List UInt8) (xJ:List PV):Option PV :=
 qk20 zc 0 (mkT 46 [(0,(.ptr 0 0)),(1,(.str x0)),(2,(.bool x1))]) x2 x3 x4 x5 x6 x7 x8 x9 xA xB xC xD xE xF xG xH xI xJ
noncomputable def z6p (x0:Bool) (x1 x2 x3 x4 x5 x6:Int) (x7:Bool) (x8:List PV) (x9:List PV) (xA:Nat) (xB xC xD xE xF xG xH xI xJ:Int) (xK:Bool) (xL:List PV):Option PV :=
 qk19 zc 5 (mkT 46 [(0,(.ptr 0 0)),(8,(.bool x0)),(9,(.int .i64 x1)),(10,(.int .i64 x2))]) x3 x4 x5 x6 x7 x8 x9 xA xB xC xD xE xF xG xH xI xJ xK xL
noncomputable def z6l (x0:Bool) (x1 x2 x3 x4 x5 x6:Int) (x7:Bool) (x8:List PV) (x9:List PV) (xA:Nat) (xB xC xD xE xF xG xH xI xJ:Int) (xK:List UInt8) (xL:List PV) (xM:Bool) (xN:List UInt8) (xO:List PV):Option PV :=
 qk17 zc 6 (mkT 46 [(0,(.ptr 0 0)),(8,(.bool x0)),(9,(.int .i64 x1)),(10,(.int .i64 x2))]) x3 x4 x5 x6 x7 x8 x9 xA xB xC xD xE xF xG xH xI xJ xK xL xM xN xO
noncomputable def z27 (x0 x1 x2 x3 x4:Int) (x5:Bool) (x6:List UInt8) (x7:Nat) (x8 x9 xA xB xC xD xE xF xG:Int) (xH:List UInt8) (xI:Bool) (xJ xK xL:Int) (xM:List UInt8) (xN:List UInt8) (xO:Bool) (xP:Int) (xQ:List PV):Option PV :=
 qk18 z17 8 (mkT 118 [(0,(.ptr 0 0)),(11,(.int .i64 x0))]) x1 x2 x3 x4 x5 x6 x7 x8 x9 xA xB xC xD xE xF xG xH xI xJ xK xL xM xN xO xP xQ
noncomputable def z6y (x0:List UInt8) (x1:Bool) (x2:List UInt8) (x3:Bool) (x4 x5 x6 x7:Int) (x8:Bool) (x9 xA xB xC xD xE xF xG xH:Int) (xI:List PV) (xJ:List UInt8) (xK:List UInt8) (xL:List PV):Option PV :=
 qk20 zc 2 (mkT 46 [(0,(.ptr 0 0)),(1,(.str x0)),(2,(.bool x1)),(7,(.str x2)),(8,(.bool x3))]) x4 x5 x6 x7 x8 x9 xA xB xC xD xE xF xG xH xI xJ xK xL
noncomputable def z6k (x0:Bool) (x1 x2 x3 x4 x5 x6:Int) (x7:Bool) (x8:List PV) (x9:List PV) (xA:Nat) (xB xC xD xE xF xG xH xI xJ:Int) (xK:Bool) (xL:List PV):Option PV :=
 qk19 zc 6 (mkT 46 [(0,(.ptr 0 0)),(8,(.bool x0)),(9,(.int .i64 x1)),(10,(.int .i64 x2))]) x3 x4 x5 x6 x7 x8 x9 xA xB xC xD xE xF xG xH xI xJ xK xL
noncomputable def z3p (x0:Bool) (x1 x2 x3 x4 x5:Int) (x6:Bool) (x7:List PV) (x8:List PV) (x9:Nat) (xA xB xC xD xE xF xG xH xI:Int) (xJ:List UInt8) (xK:List PV) (xL:Bool) (xM:List UInt8) (xN:List PV):Option PV :=
 qk17 zc 7 (mkT 46 [(8,(.bool x0)),(9,(.int .i64 x1))]) x2 x3 x4 x5 x6 x7 x8 x9 xA xB xC xD xE xF xG xH xI xJ xK xL xM xN
noncomputable def z6t (x0:List UInt8) (x1:Bool) (x2 x3 x4 x5:Int) (x6:Bool) (x7 x8 x9 xA xB xC xD xE xF:Int) (xG:List PV) (xH:List UInt8) (xI:List UInt8) (xJ:List PV):Option PV :=
 qk20 zc 3 (mkT 46 [(0,(.ptr 0 0)),(1,(.str x0)),(8,(.bool x1))]) x2 x3 x4 x5 x6 x7 x8 x9 xA xB xC xD xE xF xG xH xI xJ
noncomputable def z1o (x0:List UInt8) (x1:Bool) (x2 x3 x4 x5:Int) (x6:Bool) (x7 x8 x9 xA xB xC xD xE xF:Int) (xG:List PV) (xH:List UInt8) (xI:List UInt8) (xJ:List PV):Option PV :=
 qk20 zc 4 (mkT 46 [(0,(.ptr 0 0)),(7,(.str x0)),(8,(.bool x1))]) x2 x3 x4 x5 x6 x7 x8 x9 xA xB xC xD xE xF xG xH xI xJ
noncomputable def z3o (x0:Bool) (x1 x2 x3 x4 x5:Int) (x6:Bool) (x7:List PV) (x8:List PV) (x9:Nat) (xA xB xC xD xE xF xG xH xI:Int) (xJ:Bool) (xK:List PV):Option PV :=
 qk19 zc 7 (mkT 46 [(8,(.bool x0)),(9,(.int .i64 x1))]) x2 x3 x4 x5 x6 x7 x8 x9 xA xB xC xD xE xF xG xH xI xJ xK
noncomputable def z22 (x0:List UInt8) (x1:List PV) (x2 x3 x4 x5 x6:Int) (x7:Bool) (x8:List PV) (x9:List PV) (xA:Nat) (xB xC xD xE xF xG xH xI xJ:Int) (xK:Bool) (xL:List UInt8) (xM:List PV):Option PV :=
 qk15 zh 5 (mkT 82 [(0,(.ptr 0 0)),(1,(.str x0)),(5,(.sl 1 x1)),(6,(.int .i64 x2))]) x3 x4 x5 x6 x7 x8 x9 xA xB xC xD xE xF xG xH xI xJ xK xL xM
noncomputable def z6o (x0:Bool) (x1 x2 x3 x4 x5 x6:Int) (x7:Bool) (x8 x9 xA xB xC xD xE xF xG:Int) (xH:List PV) (xI:List UInt8) (xJ:List UInt8) (xK:List PV):Option PV :=
 qk20 zc 5 (mkT 46 [(0,(.ptr 0 0)),(8,(.bool x0)),(9,(.int .i64 x1)),(10,(.int .i64 x2))]) x3 x4 x5 x6 x7 x8 x9 xA xB xC xD xE xF xG xH xI xJ xK
noncomputable def z1x (x0:Bool) (x1 x2 x3 x4 x5:Int) (x6:Bool) (x7:List PV) (x8:List PV) (x9:Nat) (xA xB xC xD xE xF xG xH xI:Int) (xJ:List PV):Option PV :=
 qk9 zl 12 (mkT 140 [(0,(.ptr 0 0)),(3,(.ptr 1 0)),(4,(.bool x0)),(5,(.ptr 2 0)),(8,(.int .i64 x1))]) x2 x3 x4 x5 x6 x7 x8 x9 xA xB xC xD xE xF xG xH xI xJ
noncomputable def z8o (x0:List UInt8) (x1:List PV) (x2:Int) (x3:List UInt8) (x4:List UInt8) (x5:Bool) (x6 x7 x8 x9:Int) (xA:Bool) (xB:List PV) (xC:List PV) (xD:Nat) (xE xF xG xH xI xJ xK xL xM:Int) (xN:Bool) (xO:List UInt8) (xP:List PV):Option PV :=
 qk15 zh 6 (mkT 82 [(0,(.ptr 0 0)),(1,(.str x0)),(5,(.sl 1 x1)),(6,(.int .i64 x2)),(7,(.str x3)),(8,(.str x4)),(9,(.bool x5))]) x6 x7 x8 x9 xA xB xC xD xE xF xG xH xI xJ xK xL xM xN xO xP
noncomputable def z6j (x0:Bool) (x1 x2 x3 x4 x5 x6:Int) (x7:Bool) (x8 x9 xA xB xC xD xE xF xG:Int) (xH:List PV) (xI:List UInt8) (xJ:List UInt8) (xK:List PV):Option PV :=
 qk20 zc 6 (mkT 46 [(0,(.ptr 0 0)),(8,(.bool x0)),(9,(.int .i64 x1)),(10,(.int .i64 x2))]) x3 x4 x5 x6 x7 x8 x9 xA xB xC xD xE xF xG xH xI xJ xK
noncomputable def z4d (x0:Bool) (x1:Bool) (x2:Int) (x3:List UInt8) (x4 x5 x6 x7:Int) (x8:Bool) (x9:List PV) (xA:List PV) (xB:Nat) (xC xD xE xF xG xH xI xJ xK:Int) (xL:List PV):Option PV :=
 qk9 zl 13 (mkT 140 [(0,(.ptr 0 0)),(3,(.ptr 1 0)),(4,(.bool x0)),(5,(.ptr 2 0)),(7,(.bool x1)),(8,(.int .i64 x2)),(9,(.str x3))]) x4 x5 x6 x7 x8 x9 xA xB xC xD xE xF xG xH xI xJ xK xL
noncomputable def z8n (x0:List UInt8) (x1:List PV) (x2:Int) (x3:List UInt8) (x4:List UInt8) (x5:Bool) (x6 x7 x8 x9:Int) (xA:Bool) (xB:List PV) (xC:List PV) (xD:Nat) (xE xF xG xH xI xJ xK xL xM:Int) (xN:Bool) (xO:List UInt8) (xP:List PV):Option PV :=
 qk15 zh 7 (mkT 82 [(0,(.ptr 0 0)),(1,(.str x0)),(5,(.sl 1 x1)),(6,(.int .i64 x2)),(7,(.str x3)),(8,(.str x4)),(9,(.bool x5))]) x6 x7 x8 x9 xA xB xC xD xE xF xG xH xI xJ xK xL xM xN xO xP
noncomputable def z3n (x0:Bool) (x1 x2 x3 x4 x5:Int) (x6:Bool) (x7 x8 x9 xA xB xC xD xE xF:Int) (xG:List PV) (xH:List UInt8) (xI:List UInt8) (xJ:List PV):Option PV :=
 qk20 zc 7 (mkT 46 [(8,(.bool x0)),(9,(.int .i64 x1))]) x2 x3 x4 x5 x6 x7 x8 x9 xA xB xC xD xE xF xG xH xI xJ
noncomputable def qk21 (f p:Nat) (T:List PV) (y0 y1 y2 y3:Int) (y4:Bool) (y5 y6:List PV) (y7:Nat) (y8 y9 y10 y11 y12 y13 y14 y15 y16 y17 y18 y19 y20:Int) (y21:List PV):Option PV:=runW EE zg (z1y EE f p T [(.cells zx [(.int .i64 y0),(.int .i64 y1),(.int .i64 y2),(.int .i64 y3),(.bool y4)] false),(.cells z18 [(.sl 1 y5)] false),(.row z7g 1 y6 0 (some y7)),(.cells zb [(.int .i64 y8),(.int .i64 y9),(.int .i64 y10),(.int .i64 y11)] false),(.cells zb [(.int .i64 y12),(.int .i64 y13),(.int .i64 y14),(.int .i64 y15)] false),(.cells zp [(.int .i64 y16)] false),(.cells zb [(.int .i64 y17),(.int .i64 y18),(.int .i64 y19),(.int .i64 y20)] false)] [frAt EE zt 3 3 (mkT 37 [(4,(.ptr 4 0)),(5,(.ptr 5 0)),(6,(.ptr 0 0))]) [((.func (Go.Fn.func zm) [] [(.ptr 4 0),(.ptr 5 0)]),[])],frAt EE zf 14 1 (mkT 69 [(2,(.ptr 6 0)),(4,(.sl 1 y21))]) []] [])
noncomputable def z4c (x0:Bool) (x1:Bool) (x2 x3 x4 x5 x6 x7:Int) (x8:Bool) (x9:List PV) (xA:List PV) (xB:Nat) (xC xD xE xF xG xH xI xJ xK xL xM xN xO:Int) (xP:List PV):Option PV :=
 qk21 zl 14 (mkT 140 [(0,(.ptr 0 0)),(3,(.ptr 1 0)),(4,(.bool x0)),(5,(.ptr 2 0)),(7,(.bool x1)),(8,(.int .i64 x2)),(10,(.ptr 3 0)),(11,(.int .i64 x3))]) x4 x5 x6 x7 x8 x9 xA xB xC xD xE xF xG xH xI xJ xK xL xM xN xO xP
noncomputable def qk22 (f p:Nat) (T:List PV) (y0 y1 y2 y3:Int) (y4:Bool) (y5 y6:List PV) (y7:Nat) (y8 y9 y10 y11 y12 y13 y14 y15 y16:Int) (y17:List UInt8) (y18:List PV) (y19:Int) (y20:List UInt8) (y21:Bool) (y22:List UInt8) (y23:List PV):Option PV:=runW EE zg (z1y EE f p T [(.cells zx [(.int .i64 y0),(.int .i64 y1),(.int .i64 y2),(.int .i64 y3),(.bool y4)] false),(.cells z18 [(.sl 1 y5)] false),(.row z7g 1 y6 0 (some y7)),(.cells zb [(.int .i64 y8),(.int .i64 y9),(.int .i64 y10),(.int .i64 y11)] false),(.cells zp [(.int .i64 y12)] false),(.cells zb [(.int .i64 y13),(.int .i64 y14),(.int .i64 y15),(.int .i64 y16)] false)] [frAt EE zh 9 1 (mkT 82 [(0,(.ptr 0 0)),(1,(.str y17)),(5,(.sl 1 y18)),(6,(.int .i64 y19)),(7,(.str y20))]) [],frAt EE zl 8 2 (mkT 140 [(0,(.ptr 0 0)),(3,(.ptr 1 0)),(4,(.bool y21)),(5,(.ptr 2 0)),(6,(.str y22))]) [],frAt EE zt 3 3 (mkT 37 [(4,(.ptr 3 0)),(5,(.ptr 4 0)),(6,(.ptr 0 0))]) [((.func (Go.Fn.func zm) [] [(.ptr 3 0),(.ptr 4 0)]),[])],frAt EE zf 14 1 (mkT 69 [(2,(.ptr 5 0)),(4,(.sl 1 y23))]) []] [])
noncomputable def z8x (x0:List UInt8) (x1 x2 x3 x4:Int) (x5:Bool) (x6:List PV) (x7:List PV) (x8:Nat) (x9 xA xB xC xD xE xF xG xH:Int) (xI:List UInt8) (xJ:List PV) (xK:Int) (xL:List UInt8) (xM:Bool) (xN:List UInt8) (xO:List PV):Option PV :=
 qk22 zbk 0 (mkT 13 [(0,(.str x0))]) x1 x2 x3 x4 x5 x6 x7 x8 x9 xA xB xC xD xE xF xG xH xI xJ xK xL xM xN xO
noncomputable def z2w (x0:List UInt8) (x1:List PV) (x2:Int) (x3:List UInt8) (x4 x5 x6 x7 x8:Int) (x9:Bool) (xA:List PV) (xB:List PV) (xC:Nat) (xD xE xF xG xH xI xJ xK xL:Int) (xM:Bool) (xN:List UInt8) (xO:List PV):Option PV :=
 qk15 zh 10 (mkT 82 [(0,(.ptr 0 0)),(1,(.str x0)),(5,(.sl 1 x1)),(6,(.int .i64 x2)),(7,(.str x3)),(10,(.int .i64 x4))]) x5 x6 x7 x8 x9 xA xB xC xD xE xF xG xH xI xJ xK xL xM xN xO
noncomputable def qk23 (f p:Nat) (T:List PV) (y0 y1 y2 y3:Int) (y4:Bool) (y5 y6 y7 y8 y9 y10 y11 y12 y13:Int) (y14:List PV) (y15 y16:List UInt8) (y17:List PV):Option PV:=runW EE zg (z1y EE f p T [(.cells zx [(.int .i64 y0),(.int .i64 y1),(.int .i64 y2),(.int .i64 y3),(.bool y4)] false),(.cells zb [(.int .i64 y5),(.int .i64 y6),(.int .i64 y7),(.int .i64 y8)] false),(.cells zp [(.int .i64 y9)] false),(.cells zb [(.int .i64 y10),(.int .i64 y11),(.int .i64 y12),(.int .i64 y13)] false)] [frAt EE z14 4 10 (mkT 78 [(0,(.ptr 0 0)),(1,(.sl 1 y14)),(4,(.str y15)),(6,(.str y16))]) [],frAt EE zt 3 3 (mkT 37 [(4,(.ptr 1 0)),(5,(.ptr 2 0)),(6,(.ptr 0 0))]) [((.func (Go.Fn.func zm) [] [(.ptr 1 0),(.ptr 2 0)]),[])],frAt EE zf 11 1 (mkT 69 [(2,(.ptr 3 0)),(4,(.sl 1 y17))]) []] [])
noncomputable def z1e (x0 x1 x2 x3 x4 x5:Int) (x6:Bool) (x7 x8 x9 xA xB xC xD xE xF:Int) (xG:List PV) (xH:List UInt8) (xI:List UInt8) (xJ:List PV):Option PV :=
 qk23 zk 0 (mkT 34 [(0,(.ptr 0 0)),(1,(.ptr 0 1)),(2,(.int .i64 x0)),(3,(.int .i64 x1))]) x2 x3 x4 x5 x6 x7 x8 x9 xA xB xC xD xE xF xG xH xI xJ
noncomputable def z7t (x0:Bool) (x1 x2 x3 x4 x5 x6:Int) (x7:Bool) (x8:List PV) (x9:List PV) (xA:Nat) (xB xC xD xE xF xG xH xI xJ xK xL xM xN:Int) (xO:List PV):Option PV :=
 qk21 zl 15 (mkT 140 [(0,(.ptr 0 0)),(3,(.ptr 1 0)),(4,(.bool x0)),(5,(.ptr 2 0)),(8,(.int .i64 x1)),(10,(.ptr 3 0)),(11,(.int .i64 x2))]) x3 x4 x5 x6 x7 x8 x9 xA xB xC xD xE xF xG xH xI xJ xK xL xM xN xO
noncomputable def z8w (x0:List UInt8) (x1 x2 x3 x4:Int) (x5:Bool) (x6:List PV) (x7:List PV) (x8:Nat) (x9 xA xB xC xD xE xF xG xH:Int) (xI:List UInt8) (xJ:List PV) (xK:Int) (xL:List UInt8) (xM:Bool) (xN:List UInt8) (xO:List PV):Option PV :=
 qk22 zbk 2 (mkT 13 [(0,(.str x0))]) x1 x2 x3 x4 x5 x6 x7 x8 x9 xA xB xC xD xE xF xG xH xI xJ xK xL xM xN xO
noncomputable def z8e (x0:List UInt8) (x1 x2 x3 x4 x5 x6 x7 x8:Int) (x9:Bool) (xA:List PV) (xB:List PV) (xC:Nat) (xD xE xF xG xH xI xJ xK xL:Int) (xM:Bool) (xN:List UInt8) (xO:List PV):Option PV :=
 qk15 zh 11 (mkT 82 [(0,(.ptr 0 0)),(1,(.str x0)),(6,(.int .i64 x1)),(10,(.int .i64 x2)),(11,(.int .i64 x3)),(12,(.int .i64 x4))]) x5 x6 x7 x8 x9 xA xB xC xD xE xF xG xH xI xJ xK xL xM xN xO
noncomputable def z83 (x0 x1 x2 x3 x4 x5:Int) (x6:Bool) (x7 x8 x9 xA xB xC xD xE xF:Int) (xG:List PV) (xH:List UInt8) (xI:List UInt8) (xJ:List PV):Option PV :=
 qk23 zk 1 (mkT 34 [(0,(.ptr 0 0)),(1,(.ptr 0 1)),(8,(.int .i64 x0)),(9,(.int .i64 x1))]) x2 x3 x4 x5 x6 x7 x8 x9 xA xB xC xD xE xF xG xH xI xJ
noncomputable def qk24 (f p:Nat) (T:List PV) (y0 y1 y2 y3:Int) (y4:Bool) (y5 y6:List PV) (y7:Nat) (y8 y9 y10 y11 y12 y13 y14 y15 y16 y17 y18 y19 y20:Int) (y21:Bool) (y22:Int) (y23:List PV):Option PV:=runW EE zg (z1y EE f p T [(.cells zx [(.int .i64 y0),(.int .i64 y1),(.int .i64 y2),(.int .i64 y3),(.bool y4)] false),(.cells z18 [(.sl 1 y5)] false),(.row z7g 1 y6 0 (some y7)),(.cells zb [(.int .i64 y8),(.int .i64 y9),(.int .i64 y10),(.int .i64 y11)] false),(.cells zb [(.int .i64 y12),(.int .i64 y13),(.int .i64 y14),(.int .i64 y15)] false),(.cells zp [(.int .i64 y16)] false),(.cells zb [(.int .i64 y17),(.int .i64 y18),(.int .i64 y19),(.int .i64 y20)] false)] [frAt EE zl 16 8 (mkT 140 [(0,(.ptr 0 0)),(3,(.ptr 1 0)),(4,(.bool y21)),(5,(.ptr 2 0)),(8,(.int .i64 y22)),(10,(.ptr 3 0))]) [],frAt EE zt 3 3 (mkT 37 [(4,(.ptr 4 0)),(5,(.ptr 5 0)),(6,(.ptr 0 0))]) [((.func (Go.Fn.func zm) [] [(.ptr 4 0),(.ptr 5 0)]),[])],frAt EE zf 14 1 (mkT 69 [(2,(.ptr 6 0)),(4,(.sl 1 y23))]) []] [])
noncomputable def z4u (x0 x1 x2 x3 x4 x5:Int) (x6:Bool) (x7:List PV) (x8:List PV) (x9:Nat) (xA xB xC xD xE xF xG xH xI xJ xK xL xM:Int) (xN:Bool) (xO:Int) (xP:List PV):Option PV :=
 qk24 zk 0 (mkT 34 [(0,(.ptr 0 0)),(1,(.ptr 0 1)),(2,(.int .i64 x0)),(3,(.int .i64 x1))]) x2 x3 x4 x5 x6 x7 x8 x9 xA xB xC xD xE xF xG xH xI xJ xK xL xM xN xO xP
noncomputable def z54 (x0:List UInt8) (x1 x2 x3 x4 x5 x6 x7 x8:Int) (x9:Bool) (xA:List PV) (xB:List PV) (xC:Nat) (xD xE xF xG xH xI xJ xK xL:Int) (xM:Bool) (xN:List UInt8) (xO:List PV):Option PV :=
 qk15 zh 12 (mkT 82 [(0,(.ptr 0 0)),(1,(.str x0)),(6,(.int .i64 x1)),(10,(.int .i64 x2)),(11,(.int .i64 x3)),(12,(.int .i64 x4))]) x5 x6 x7 x8 x9 xA xB xC xD xE xF xG xH xI xJ xK xL xM xN xO
noncomputable def z4n (x0 x1 x2 x3 x4 x5:Int) (x6:Bool) (x7 x8 x9 xA xB xC xD xE xF:Int) (xG:List PV) (xH:List UInt8) (xI:List UInt8) (xJ:List PV):Option PV :=
 qk23 zk 3 (mkT 34 [(0,(.ptr 0 0)),(1,(.ptr 0 1)),(8,(.int .i64 x0)),(9,(.int .i64 x1))]) x2 x3 x4 x5 x6 x7 x8 x9 xA xB xC xD xE xF xG xH xI xJ
noncomputable def z82 (x0 x1 x2 x3 x4 x5:Int) (x6:Bool) (x7:List PV) (x8:List PV) (x9:Nat) (xA xB xC xD xE xF xG xH xI xJ xK xL xM:Int) (xN:Bool) (xO:Int) (xP:List PV):Option PV :=
 qk24 zk 1 (mkT 34 [(0,(.ptr 0 0)),(1,(.ptr 0 1)),(8,(.int .i64 x0)),(9,(.int .i64 x1))]) x2 x3 x4 x5 x6 x7 x8 x9 xA xB xC xD xE xF xG xH xI xJ xK xL xM xN xO xP
noncomputable def z2v (x0 x1 x2 x3 x4 x5:Int) (x6:Bool) (x7:List PV) (x8:List PV) (x9:Nat) (xA xB xC xD xE xF xG xH xI:Int) (xJ:Bool) (xK:List UInt8) (xL:List PV):Option PV :=
 qk15 zh 15 (mkT 82 [(0,(.ptr 0 0)),(6,(.int .i64 x0)),(10,(.int .i64 x1))]) x2 x3 x4 x5 x6 x7 x8 x9 xA xB xC xD xE xF xG xH xI xJ xK xL
noncomputable def z37 (x0:List PV) (x1 x2 x3 x4:Int) (x5:Bool) (x6 x7 x8 x9 xA xB xC xD xE:Int) (xF:List PV):Option PV :=
 qk4 z14 5 (mkT 78 [(0,(.ptr 0 0)),(1,(.sl 1 x0))]) x1 x2 x3 x4 x5 x6 x7 x8 x9 xA xB xC xD xE xF
noncomputable def z4m (x0 x1 x2 x3 x4 x5:Int) (x6:Bool) (x7:List PV) (x8:List PV) (x9:Nat) (xA xB xC xD xE xF xG xH xI xJ xK xL xM:Int) (xN:Bool) (xO:Int) (xP:List PV):Option PV :=
 qk24 zk 3 (mkT 34 [(0,(.ptr 0 0)),(1,(.ptr 0 1)),(8,(.int .i64 x0)),(9,(.int .i64 x1))]) x2 x3 x4 x5 x6 x7 x8 x9 xA xB xC xD xE xF xG xH xI xJ xK xL xM xN xO xP
noncomputable def qk25 (f p:Nat) (T:List PV) (y0 y1 y2 y3:Int) (y4:Bool) (y5 y6:List PV) (y7:Nat) (y8 y9 y10 y11 y12 y13 y14 y15 y16 y17:Int) (y18:Bool) (y19:List UInt8) (y20:List PV):Option PV:=runW EE zg (z1y EE f p T [(.cells zx [(.int .i64 y0),(.int .i64 y1),(.int .i64 y2),(.int .i64 y3),(.bool y4)] false),(.cells z18 [(.sl 1 y5)] false),(.row z7g 1 y6 0 (some y7)),(.cells zb [(.int .i64 y8),(.int .i64 y9),(.int .i64 y10),(.int .i64 y11)] false),(.cells zp [(.int .i64 y12)] false),(.cells zb [(.int .i64 y13),(.int .i64 y14),(.int .i64 y15),(.int .i64 y16)] false)] [frAt EE zh 15 6 (mkT 82 [(0,(.ptr 0 0)),(10,(.int .i64 y17))]) [],frAt EE zl 8 2 (mkT 140 [(0,(.ptr 0 0)),(3,(.ptr 1 0)),(4,(.bool y18)),(5,(.ptr 2 0)),(6,(.str y19))]) [],frAt EE zt 3 3 (mkT 37 [(4,(.ptr 3 0)),(5,(.ptr 4 0)),(6,(.ptr 0 0))]) [((.func (Go.Fn.func zm) [] [(.ptr 3 0),(.ptr 4 0)]),[])],frAt EE zf 14 1 (mkT 69 [(2,(.ptr 5 0)),(4,(.sl 1 y20))]) []] [])
noncomputable def z4t (x0 x1 x2 x3 x4 x5:Int) (x6:Bool) (x7:List PV) (x8:List PV) (x9:Nat) (xA xB xC xD xE xF xG xH xI xJ:Int) (xK:Bool) (xL:List UInt8) (xM:List PV):Option PV :=
 qk25 zk 0 (mkT 34 [(0,(.ptr 0 0)),(1,(.ptr 0 3)),(2,(.int .i64 x0)),(3,(.int .i64 x1))]) x2 x3 x4 x5 x6 x7 x8 x9 xA xB xC xD xE xF xG xH xI xJ xK xL xM
noncomputable def qk26 (f p:Nat) (T:List PV) (y0 y1 y2 y3:Int) (y4:Bool) (y5 y6 y7 y8 y9 y10 y11 y12 y13:Int) (y14 y15:List PV):Option PV:=runW EE zg (z1y EE f p T [(.cells zx [(.int .i64 y0),(.int .i64 y1),(.int .i64 y2),(.int .i64 y3),(.bool y4)] false),(.cells zb [(.int .i64 y5),(.int .i64 y6),(.int .i64 y7),(.int .i64 y8)] false),(.cells zp [(.int .i64 y9)] false),(.cells zb [(.int .i64 y10),(.int .i64 y11),(.int .i64 y12),(.int .i64 y13)] false)] [frAt EE z14 5 9 (mkT 78 [(0,(.ptr 0 0)),(1,(.sl 1 y14)),(61,(.ptr 0 0)),(65,(.ptr 0 2))]) [],frAt EE zt 3 3 (mkT 37 [(4,(.ptr 1 0)),(5,(.ptr 2 0)),(6,(.ptr 0 0))]) [((.func (Go.Fn.func zm) [] [(.ptr 1 0),(.ptr 2 0)]),[])],frAt EE zf 11 1 (mkT 69 [(2,(.ptr 3 0)),(4,(.sl 1 y15))]) []] [])
noncomputable def z3r (x0:List UInt8) (x1:Bool) (x2 x3 x4 x5:Int) (x6:Bool) (x7 x8 x9 xA xB xC xD xE xF:Int) (xG:List PV) (xH:List PV):Option PV :=
 qk26 zc 0 (mkT 46 [(0,(.ptr 0 0)),(1,(.str x0)),(2,(.bool x1))]) x2 x3 x4 x5 x6 x7 x8 x9 xA xB xC xD xE xF xG xH
noncomputable def z2q (x0:Bool) (x1 x2 x3 x4 x5:Int) (x6:Bool) (x7:List PV) (x8:List PV) (x9:Nat) (xA xB xC xD xE xF xG xH xI xJ xK xL xM:Int) (xN:List PV):Option PV :=
 qk21 zl 17 (mkT 140 [(0,(.ptr 0 0)),(3,(.ptr 1 0)),(4,(.bool x0)),(5,(.ptr 2 0)),(8,(.int .i64 x1)),(10,(.ptr 3 0))]) x2 x3 x4 x5 x6 x7 x8 x9 xA xB xC xD xE xF xG xH xI xJ xK xL xM xN
noncomputable def z81 (x0 x1 x2 x3 x4 x5:Int) (x6:Bool) (x7:List PV) (x8:List PV) (x9:Nat) (xA xB xC xD xE xF xG xH xI xJ:Int) (xK:Bool) (xL:List UInt8) (xM:List PV):Option PV :=
 qk25 zk 1 (mkT 34 [(0,(.ptr 0 0)),(1,(.ptr 0 3)),(8,(.int .i64 x0)),(9,(.int .i64 x1))]) x2 x3 x4 x5 x6 x7 x8 x9 xA xB xC xD xE xF xG xH xI xJ xK xL xM
noncomputable def z6x (x0:List UInt8) (x1:Bool) (x2:List UInt8) (x3:Bool) (x4 x5 x6 x7:Int) (x8:Bool) (x9 xA xB xC xD xE xF xG xH:Int) (xI:List PV) (xJ:List PV):Option PV :=
 qk26 zc 2 (mkT 46 [(0,(.ptr 0 0)),(1,(.str x0)),(2,(.bool x1)),(7,(.str x2)),(8,(.bool x3))]) x4 x5 x6 x7 x8 x9 xA xB xC xD xE xF xG xH xI xJ
noncomputable def qk27 (f p:Nat) (T:List PV) (y0 y1 y2 y3:Int) (y4:Bool) (y5 y6:List PV) (y7:Nat) (y8 y9 y10 y11 y12 y13 y14 y15 y16 y17 y18 y19 y20:Int) (y21:Bool) (y22:Int) (y23:List PV):Option PV:=runW EE zg (z1y EE f p T [(.cells zx [(.int .i64 y0),(.int .i64 y1),(.int .i64 y2),(.int .i64 y3),(.bool y4)] false),(.cells z18 [(.sl 1 y5)] false),(.row z7g 1 y6 0 (some y7)),(.cells zb [(.int .i64 y8),(.int .i64 y9),(.int .i64 y10),(.int .i64 y11)] false),(.cells zb [(.int .i64 y12),(.int .i64 y13),(.int .i64 y14),(.int .i64 y15)] false),(.cells zp [(.int .i64 y16)] false),(.cells zb [(.int .i64 y17),(.int .i64 y18),(.int .i64 y19),(.int .i64 y20)] false)] [frAt EE zl 17 8 (mkT 140 [(0,(.ptr 0 0)),(3,(.ptr 1 0)),(4,(.bool y21)),(5,(.ptr 2 0)),(8,(.int .i64 y22)),(10,(.ptr 3 0))]) [],frAt EE zt 3 3 (mkT 37 [(4,(.ptr 4 0)),(5,(.ptr 5 0)),(6,(.ptr 0 0))]) [((.func (Go.Fn.func zm) [] [(.ptr 4 0),(.ptr 5 0)]),[])],frAt EE zf 14 1 (mkT 69 [(2,(.ptr 6 0)),(4,(.sl 1 y23))]) []] [])
noncomputable def z4s (x0 x1 x2 x3 x4 x5:Int) (x6:Bool) (x7:List PV) (x8:List PV) (x9:Nat) (xA xB xC xD xE xF xG xH xI xJ xK xL xM:Int) (xN:Bool) (xO:Int) (xP:List PV):Option PV :=
 qk27 zk 0 (mkT 34 [(0,(.ptr 0 0)),(1,(.ptr 0 2)),(2,(.int .i64 x0)),(3,(.int .i64 x1))]) x2 x3 x4 x5 x6 x7 x8 x9 xA xB xC xD xE xF xG xH xI xJ xK xL xM xN xO xP
noncomputable def z4l (x0 x1 x2 x3 x4 x5:Int) (x6:Bool) (x7:List PV) (x8:List PV) (x9:Nat) (xA xB xC xD xE xF xG xH xI xJ:Int) (xK:Bool) (xL:List UInt8) (xM:List PV):Option PV :=
 qk25 zk 3 (mkT 34 [(0,(.ptr 0 0)),(1,(.ptr 0 3)),(8,(.int .i64 x0)),(9,(.int .i64 x1))]) x2 x3 x4 x5 x6 x7 x8 x9 xA xB xC xD xE xF xG xH xI xJ xK xL xM
noncomputable def z6s (x0:List UInt8) (x1:Bool) (x2 x3 x4 x5:Int) (x6:Bool) (x7 x8 x9 xA xB xC xD xE xF:Int) (xG:List PV) (xH:List PV):Option PV :=
 qk26 zc 3 (mkT 46 [(0,(.ptr 0 0)),(1,(.str x0)),(8,(.bool x1))]) x2 x3 x4 x5 x6 x7 x8 x9 xA xB xC xD xE xF xG xH
noncomputable def z1n (x0:List UInt8) (x1:Bool) (x2 x3 x4 x5:Int) (x6:Bool) (x7 x8 x9 xA xB xC xD xE xF:Int) (xG:List PV) (xH:List PV):Option PV :=
 qk26 zc 4 (mkT 46 [(0,(.ptr 0 0)),(7,(.str x0)),(8,(.bool x1))]) x2 x3 x4 x5 x6 x7 x8 x9 xA xB xC xD xE xF xG xH
noncomputable def z80 (x0 x1 x2 x3 x4 x5:Int) (x6:Bool) (x7:List PV) (x8:List PV) (x9:Nat) (xA xB xC xD xE xF xG xH xI xJ xK xL xM:Int) (xN:Bool) (xO:Int) (xP:List PV):Option PV :=
 qk27 zk 1 (mkT 34 [(0,(.ptr 0 0)),(1,(.ptr 0 2)),(8,(.int .i64 x0)),(9,(.int .i64 x1))]) x2 x3 x4 x5 x6 x7 x8 x9 xA xB xC xD xE xF xG xH xI xJ xK xL xM xN xO xP
noncomputable def z2u (x0 x1 x2 x3 x4:Int) (x5:Bool) (x6:List PV) (x7:List PV) (x8:Nat) (x9 xA xB xC xD xE xF xG xH:Int) (xI:Bool) (xJ:List UInt8) (xK:List PV):Option PV :=
 qk15 zh 16 (mkT 82 [(0,(.ptr 0 0)),(10,(.int .i64 x0))]) x1 x2 x3 x4 x5 x6 x7 x8 x9 xA xB xC xD xE xF xG xH xI xJ xK
noncomputable def z6n (x0:Bool) (x1 x2 x3 x4 x5 x6:Int) (x7:Bool) (x8 x9 xA xB xC xD xE xF xG:Int) (xH:List PV) (xI:List PV):Option PV :=
 qk26 zc 5 (mkT 46 [(0,(.ptr 0 0)),(8,(.bool x0)),(9,(.int .i64 x1)),(10,(.int .i64 x2))]) x3 x4 x5 x6 x7 x8 x9 xA xB xC xD xE xF xG xH xI
noncomputable def z4k (x0 x1 x2 x3 x4 x5:Int) (x6:Bool) (x7:List PV) (x8:List PV) (x9:Nat) (xA xB xC xD xE xF xG xH xI xJ xK xL xM:Int) (xN:Bool) (xO:Int) (xP:List PV):Option PV :=
 qk27 zk 3 (mkT 34 [(0,(.ptr 0 0)),(1,(.ptr 0 2)),(8,(.int .i64 x0)),(9,(.int .i64 x1))]) x2 x3 x4 x5 x6 x7 x8 x9 xA xB xC xD xE xF xG xH xI xJ xK xL xM xN xO xP
noncomputable def qk28 (f p:Nat) (T:List PV) (y0 y1 y2 y3:Int) (y4:Bool) (y5 y6:List PV) (y7:Nat) (y8 y9 y10 y11 y12 y13 y14 y15 y16 y17:Int) (y18:Bool) (y19:List UInt8) (y20:List PV):Option PV:=runW EE zg (z1y EE f p T [(.cells zx [(.int .i64 y0),(.int .i64 y1),(.int .i64 y2),(.int .i64 y3),(.bool y4)] false),(.cells z18 [(.sl 1 y5)] false),(.row z7g 1 y6 0 (some y7)),(.cells zb [(.int .i64 y8),(.int .i64 y9),(.int .i64 y10),(.int .i64 y11)] false),(.cells zp [(.int .i64 y12)] false),(.cells zb [(.int .i64 y13),(.int .i64 y14),(.int .i64 y15),(.int .i64 y16)] false)] [frAt EE zh 16 6 (mkT 82 [(0,(.ptr 0 0)),(10,(.int .i64 y17))]) [],frAt EE zl 8 2 (mkT 140 [(0,(.ptr 0 0)),(3,(.ptr 1 0)),(4,(.bool y18)),(5,(.ptr 2 0)),(6,(.str y19))]) [],frAt EE zt 3 3 (mkT 37 [(4,(.ptr 3 0)),(5,(.ptr 4 0)),(6,(.ptr 0 0))]) [((.func (Go.Fn.func zm) [] [(.ptr 3 0),(.ptr 4 0)]),[])],frAt EE zf 14 1 (mkT 69 [(2,(.ptr 5 0)),(4,(.sl 1 y20))]) []] [])
noncomputable def z4r (x0 x1 x2 x3 x4 x5:Int) (x6:Bool) (x7:List PV) (x8:List PV) (x9:Nat) (xA xB xC xD xE xF xG xH xI xJ:Int) (xK:Bool) (xL:List UInt8) (xM:List PV):Option PV :=
 qk28 zk 0 (mkT 34 [(0,(.ptr 0 0)),(1,(.ptr 0 3)),(2,(.int .i64 x0)),(3,(.int .i64 x1))]) x2 x3 x4 x5 x6 x7 x8 x9 xA xB xC xD xE xF xG xH xI xJ xK xL xM
noncomputable def z6i (x0:Bool) (x1 x2 x3 x4 x5 x6:Int) (x7:Bool) (x8 x9 xA xB xC xD xE xF xG:Int) (xH:List PV) (xI:List PV):Option PV :=
 qk26 zc 6 (mkT 46 [(0,(.ptr 0 0)),(8,(.bool x0)),(9,(.int .i64 x1)),(10,(.int .i64 x2))]) x3 x4 x5 x6 x7 x8 x9 xA xB xC xD xE xF xG xH xI
noncomputable def z2p (x0:Bool) (x1 x2 x3 x4 x5:Int) (x6:Bool) (x7:List PV) (x8:List PV) (x9:Nat) (xA xB xC xD xE xF xG xH xI xJ xK xL xM:Int) (xN:List PV):Option PV :=
 qk21 zl 18 (mkT 140 [(0,(.ptr 0 0)),(3,(.ptr 1 0)),(4,(.bool x0)),(5,(.ptr 2 0)),(8,(.int .i64 x1)),(10,(.ptr 3 0))]) x2 x3 x4 x5 x6 x7 x8 x9 xA xB xC xD xE xF xG xH xI xJ xK xL xM xN
noncomputable def z7z (x0 x1 x2 x3 x4 x5:Int) (x6:Bool) (x7:List PV) (x8:List PV) (x9:Nat) (xA xB xC xD xE xF xG xH xI xJ:Int) (xK:Bool) (xL:List UInt8) (xM:List PV):Option PV :=
 qk28 zk 1 (mkT 34 [(0,(.ptr 0 0)),(1,(.ptr 0 3)),(8,(.int .i64 x0)),(9,(.int .i64 x1))]) x2 x3 x4 x5 x6 x7 x8 x9 xA xB xC xD xE xF xG xH xI xJ xK xL xM
noncomputable def z3m (x0:Bool) (x1 x2 x3 x4 x5:Int) (x6:Bool) (x7 x8 x9 xA xB xC xD xE xF:Int) (xG:List PV) (xH:List PV):Option PV :=
 qk26 zc 7 (mkT 46 [(8,(.bool x0)),(9,(.int .i64 x1))]) x2 x3 x4 x5 x6 x7 x8 x9 xA xB xC xD xE xF xG xH
noncomputable def qk29 (f p:Nat) (T:List PV) (y0 y1 y2 y3:Int) (y4:Bool) (y5 y6:List PV) (y7:Nat) (y8 y9 y10 y11 y12 y13 y14 y15 y16 y17 y18 y19 y20:Int) (y21:Bool) (y22:Int) (y23:List PV):Option PV:=runW EE zg (z1y EE f p T [(.cells zx [(.int .i64 y0),(.int .i64 y1),(.int .i64 y2),(.int .i64 y3),(.bool y4)] false),(.cells z18 [(.sl 1 y5)] false),(.row z7g 1 y6 0 (some y7)),(.cells zb [(.int .i64 y8),(.int .i64 y9),(.int .i64 y10),(.int .i64 y11)] false),(.cells zb [(.int .i64 y12),(.int .i64 y13),(.int .i64 y14),(.int .i64 y15)] false),(.cells zp [(.int .i64 y16)] false),(.cells zb [(.int .i64 y17),(.int .i64 y18),(.int .i64 y19),(.int .i64 y20)] false)] [frAt EE zl 18 8 (mkT 140 [(0,(.ptr 0 0)),(3,(.ptr 1 0)),(4,(.bool y21)),(5,(.ptr 2 0)),(8,(.int .i64 y22)),(10,(.ptr 3 0))]) [],frAt EE zt 3 3 (mkT 37 [(4,(.ptr 4 0)),(5,(.ptr 5 0)),(6,(.ptr 0 0))]) [((.func (Go.Fn.func zm) [] [(.ptr 4 0),(.ptr 5 0)]),[])],frAt EE zf 14 1 (mkT 69 [(2,(.ptr 6 0)),(4,(.sl 1 y23))]) []] [])
noncomputable def z4q (x0 x1 x2 x3 x4 x5:Int) (x6:Bool) (x7:List PV) (x8:List PV) (x9:Nat) (xA xB xC xD xE xF xG xH xI xJ xK xL xM:Int) (xN:Bool) (xO:Int) (xP:List PV):Option PV :=
 qk29 zk 0 (mkT 34 [(0,(.ptr 0 0)),(1,(.ptr 0 3)),(2,(.int .i64 x0)),(3,(.int .i64 x1))]) x2 x3 x4 x5 x6 x7 x8 x9 xA xB xC xD xE xF xG xH xI xJ xK xL xM xN xO xP
noncomputable def z4j (x0 x1 x2 x3 x4 x5:Int) (x6:Bool) (x7:List PV) (x8:List PV) (x9:Nat) (xA xB xC xD xE xF xG xH xI xJ:Int) (xK:Bool) (xL:List UInt8) (xM:List PV):Option PV :=
 qk28 zk 3 (mkT 34 [(0,(.ptr 0 0)),(1,(.ptr 0 3)),(8,(.int .i64 x0)),(9,(.int .i64 x1))]) x2 x3 x4 x5 x6 x7 x8 x9 xA xB xC xD xE xF xG xH xI xJ xK xL xM
noncomputable def qk30 (f p:Nat) (T:List PV) (y0 y1 y2 y3:Int) (y4:Bool) (y5 y6 y7 y8 y9 y10 y11 y12 y13:Int) (y14 y15:List PV):Option PV:=runW EE zg (z1y EE f p T [(.cells zx [(.int .i64 y0),(.int .i64 y1),(.int .i64 y2),(.int .i64 y3),(.bool y4)] false),(.cells zb [(.int .i64 y5),(.int .i64 y6),(.int .i64 y7),(.int .i64 y8)] false),(.cells zp [(.int .i64 y9)] false),(.cells zb [(.int .i64 y10),(.int .i64 y11),(.int .i64 y12),(.int .i64 y13)] false)] [frAt EE z14 5 10 (mkT 78 [(0,(.ptr 0 0)),(1,(.sl 1 y14))]) [],frAt EE zt 3 3 (mkT 37 [(4,(.ptr 1 0)),(5,(.ptr 2 0)),(6,(.ptr 0 0))]) [((.func (Go.Fn.func zm) [] [(.ptr 1 0),(.ptr 2 0)]),[])],frAt EE zf 11 1 (mkT 69 [(2,(.ptr 3 0)),(4,(.sl 1 y15))]) []] [])
noncomputable def z1d (x0 x1 x2 x3 x4 x5:Int) (x6:Bool) (x7 x8 x9 xA xB xC xD xE xF:Int) (xG:List PV) (xH:List PV):Option PV :=
 qk30 zk 0 (mkT 34 [(0,(.ptr 0 0)),(1,(.ptr 0 2)),(2,(.int .i64 x0)),(3,(.int .i64 x1))]) x2 x3 x4 x5 x6 x7 x8 x9 xA xB xC xD xE xF xG xH
noncomputable def z7y (x0 x1 x2 x3 x4 x5:Int) (x6:Bool) (x7:List PV) (x8:List PV) (x9:Nat) (xA xB xC xD xE xF xG xH xI xJ xK xL xM:Int) (xN:Bool) (xO:Int) (xP:List PV):Option PV :=
 qk29 zk 1 (mkT 34 [(0,(.ptr 0 0)),(1,(.ptr 0 3)),(8,(.int .i64 x0)),(9,(.int .i64 x1))]) x2 x3 x4 x5 x6 x7 x8 x9 xA xB xC xD xE xF xG xH xI xJ xK xL xM xN xO xP
noncomputable def z2t (x0 x1 x2 x3:Int) (x4:Bool) (x5:List PV) (x6:List PV) (x7:Nat) (x8 x9 xA xB xC xD xE xF xG:Int) (xH:Bool) (xI:List UInt8) (xJ:List PV):Option PV :=
 qk15 zh 17 (mkT 82 []) x0 x1 x2 x3 x4 x5 x6 x7 x8 x9 xA xB xC xD xE xF xG xH xI xJ
noncomputable def z7x (x0 x1 x2 x3 x4 x5:Int) (x6:Bool) (x7 x8 x9 xA xB xC xD xE xF:Int) (xG:List PV) (xH:List PV):Option PV :=
 qk30 zk 1 (mkT 34 [(0,(.ptr 0 0)),(1,(.ptr 0 2)),(8,(.int .i64 x0)),(9,(.int .i64 x1))]) x2 x3 x4 x5 x6 x7 x8 x9 xA xB xC xD xE xF xG xH
noncomputable def z4i (x0 x1 x2 x3 x4 x5:Int) (x6:Bool) (x7:List PV) (x8:List PV) (x9:Nat) (xA xB xC xD xE xF xG xH xI xJ xK xL xM:Int) (xN:Bool) (xO:Int) (xP:List PV):Option PV :=
 qk29 zk 3 (mkT 34 [(0,(.ptr 0 0)),(1,(.ptr 0 3)),(8,(.int .i64 x0)),(9,(.int .i64 x1))]) x2 x3 x4 x5 x6 x7 x8 x9 xA xB xC xD xE xF xG xH xI xJ xK xL xM xN xO xP
noncomputable def z1h (x0:Bool) (x1 x2 x3 x4:Int) (x5:Bool) (x6:List PV) (x7:List PV) (x8:Nat) (x9 xA xB xC xD xE xF xG xH:Int) (xI:List PV):Option PV :=
 qk9 zl 9 (mkT 140 [(0,(.ptr 0 0)),(3,(.ptr 1 0)),(4,(.bool x0)),(5,(.ptr 2 0))]) x1 x2 x3 x4 x5 x6 x7 x8 x9 xA xB xC xD xE xF xG xH xI
noncomputable def z4h (x0 x1 x2 x3 x4 x5:Int) (x6:Bool) (x7 x8 x9 xA xB xC xD xE xF:Int) (xG:List PV) (xH:List PV):Option PV :=
 qk30 zk 3 (mkT 34 [(0,(.ptr 0 0)),(1,(.ptr 0 2)),(8,(.int .i64 x0)),(9,(.int .i64 x1))]) x2 x3 x4 x5 x6 x7 x8 x9 xA xB xC xD xE xF xG xH
noncomputable def z7u (x0:Bool) (x1 x2 x3 x4:Int) (x5:Bool) (x6:List PV) (x7:List PV) (x8:Nat) (x9 xA xB xC xD xE xF xG xH:Int) (xI:List PV):Option PV :=
 qk9 zl 10 (mkT 140 [(0,(.ptr 0 0)),(3,(.ptr 1 0)),(4,(.bool x0)),(5,(.ptr 2 0))]) x1 x2 x3 x4 x5 x6 x7 x8 x9 xA xB xC xD xE xF xG xH xI
noncomputable def z36 (x0:List PV) (x1 x2 x3 x4:Int) (x5:Bool) (x6 x7 x8 x9 xA xB xC xD xE:Int) (xF:List PV):Option PV :=
 qk4 z14 6 (mkT 78 [(0,(.ptr 0 0)),(1,(.sl 1 x0))]) x1 x2 x3 x4 x5 x6 x7 x8 x9 xA xB xC xD xE xF
noncomputable def qk31 (f p:Nat) (T:List PV) (y0 y1 y2 y3:Int) (y4:Bool) (y5 y6 y7 y8 y9 y10 y11 y12 y13:Int) (y14:List PV):Option PV:=runW EE zg (z1y EE f p T [(.cells zx [(.int .i64 y0),(.int .i64 y1),(.int .i64 y2),(.int .i64 y3),(.bool y4)] false),(.cells zb [(.int .i64 y5),(.int .i64 y6),(.int .i64 y7),(.int .i64 y8)] false),(.cells zp [(.int .i64 y9)] false),(.cells zb [(.int .i64 y10),(.int .i64 y11),(.int .i64 y12),(.int .i64 y13)] false)] [frAt EE z14 6 4 (mkT 78 []) [],frAt EE zt 3 3 (mkT 37 [(4,(.ptr 1 0)),(5,(.ptr 2 0)),(6,(.ptr 0 0))]) [((.func (Go.Fn.func zm) [] [(.ptr 1 0),(.ptr 2 0)]),[])],frAt EE zf 11 1 (mkT 69 [(2,(.ptr 3 0)),(4,(.sl 1 y14))]) []] [])
noncomputable def z48 (x0:List UInt8) (x1 x2 x3 x4:Int) (x5:Bool) (x6 x7 x8 x9 xA xB xC xD xE:Int) (xF:List PV):Option PV :=
 qk31 zh 0 (mkT 82 [(0,(.ptr 0 0)),(1,(.str x0))]) x1 x2 x3 x4 x5 x6 x7 x8 x9 xA xB xC xD xE xF
noncomputable def z7n (x0:List UInt8) (x1:List PV) (x2 x3 x4 x5:Int) (x6:Bool) (x7 x8 x9 xA xB xC xD xE xF:Int) (xG:List PV):Option PV :=
 qk31 zh 2 (mkT 82 [(0,(.ptr 0 0)),(1,(.str x0)),(5,(.sl 1 x1))]) x2 x3 x4 x5 x6 x7 x8 x9 xA xB xC xD xE xF xG
noncomputable def qk32 (f p:Nat) (T:List PV) (y0 y1 y2 y3 y4 y5 y6 y7 y8:Int) (y9:Bool) (y10 y11 y12 y13:Int) (y14:List PV):Option PV:=runW EE zg (z1y EE f p T [(.cells zb [(.int .i64 y0),(.int .i64 y1),(.int .i64 y2),(.int .i64 y3)] false),(.cells zp [(.int .i64 y4)] false),(.cells zx [(.int .i64 y5),(.int .i64 y6),(.int .i64 y7),(.int .i64 y8),(.bool y9)] false),(.cells zb [(.int .i64 y10),(.int .i64 y11),(.int .i64 y12),(.int .i64 y13)] false)] [frAt EE z14 6 4 (mkT 78 []) [],frAt EE zt 3 3 (mkT 37 [(4,(.ptr 0 0)),(5,(.ptr 1 0)),(6,(.ptr 2 0))]) [((.func (Go.Fn.func zm) [] [(.ptr 0 0),(.ptr 1 0)]),[])],frAt EE zf 11 1 (mkT 69 [(2,(.ptr 3 0)),(4,(.sl 1 y14))]) []] [])
noncomputable def z7m (x0 x1 x2 x3 x4 x5 x6 x7 x8:Int) (x9:Bool) (xA xB xC xD:Int) (xE:List PV):Option PV :=
 qk32 zh 3 (mkT 82 []) x0 x1 x2 x3 x4 x5 x6 x7 x8 x9 xA xB xC xD xE
noncomputable def z7l (x0:List UInt8) (x1:List PV) (x2 x3 x4 x5:Int) (x6:Bool) (x7 x8 x9 xA xB xC xD xE xF:Int) (xG:List PV):Option PV :=
 qk31 zh 4 (mkT 82 [(0,(.ptr 0 0)),(1,(.str x0)),(5,(.sl 1 x1))]) x2 x3 x4 x5 x6 x7 x8 x9 xA xB xC xD xE xF xG
noncomputable def qk33 (f p:Nat) (T:List PV) (y0 y1 y2 y3:Int) (y4:Bool) (y5 y6 y7 y8 y9 y10 y11 y12 y13:Int) (y14:List UInt8) (y15 y16:List PV):Option PV:=runW EE zg (z1y EE f p T [(.cells zx [(.int .i64 y0),(.int .i64 y1),(.int .i64 y2),(.int .i64 y3),(.bool y4)] false),(.cells zb [(.int .i64 y5),(.int .i64 y6),(.int .i64 y7),(.int .i64 y8)] false),(.cells zp [(.int .i64 y9)] false),(.cells zb [(.int .i64 y10),(.int .i64 y11),(.int .i64 y12),(.int .i64 y13)] false)] [frAt EE zh 4 4 (mkT 82 [(0,(.ptr 0 0)),(1,(.str y14)),(5,(.sl 1 y15))]) [],frAt EE z14 6 4 (mkT 78 []) [],frAt EE zt 3 3 (mkT 37 [(4,(.ptr 1 0)),(5,(.ptr 2 0)),(6,(.ptr 0 0))]) [((.func (Go.Fn.func zm) [] [(.ptr 1 0),(.ptr 2 0)]),[])],frAt EE zf 11 1 (mkT 69 [(2,(.ptr 3 0)),(4,(.sl 1 y16))]) []] [])
noncomputable def z3q (x0:List UInt8) (x1:Bool) (x2 x3 x4 x5:Int) (x6:Bool) (x7 x8 x9 xA xB xC xD xE xF:Int) (xG:List UInt8) (xH:List PV) (xI:List PV):Option PV :=
 qk33 zc 0 (mkT 46 [(0,(.ptr 0 0)),(1,(.str x0)),(2,(.bool x1))]) x2 x3 x4 x5 x6 x7 x8 x9 xA xB xC xD xE xF xG xH xI
noncomputable def z6w (x0:List UInt8) (x1:Bool) (x2:List UInt8) (x3:Bool) (x4 x5 x6 x7:Int) (x8:Bool) (x9 xA xB xC xD xE xF xG xH:Int) (xI:List UInt8) (xJ:List PV) (xK:List PV):Option PV :=
 qk33 zc 2 (mkT 46 [(0,(.ptr 0 0)),(1,(.str x0)),(2,(.bool x1)),(7,(.str x2)),(8,(.bool x3))]) x4 x5 x6 x7 x8 x9 xA xB xC xD xE xF xG xH xI xJ xK
noncomputable def z6r (x0:List UInt8) (x1:Bool) (x2 x3 x4 x5:Int) (x6:Bool) (x7 x8 x9 xA xB xC xD xE xF:Int) (xG:List UInt8) (xH:List PV) (xI:List PV):Option PV :=
 qk33 zc 3 (mkT 46 [(0,(.ptr 0 0)),(1,(.str x0)),(8,(.bool x1))]) x2 x3 x4 x5 x6 x7 x8 x9 xA xB xC xD xE xF xG xH xI
noncomputable def z1m (x0:List UInt8) (x1:Bool) (x2 x3 x4 x5:Int) (x6:Bool) (x7 x8 x9 xA xB xC xD xE xF:Int) (xG:List UInt8) (xH:List PV) (xI:List PV):Option PV :=
 qk33 zc 4 (mkT 46 [(0,(.ptr 0 0)),(7,(.str x0)),(8,(.bool x1))]) x2 x3 x4 x5 x6 x7 x8 x9 xA xB xC xD xE xF xG xH xI
noncomputable def z6m (x0:Bool) (x1 x2 x3 x4 x5 x6:Int) (x7:Bool) (x8 x9 xA xB xC xD xE xF xG:Int) (xH:List UInt8) (xI:List PV) (xJ:List PV):Option PV :=
 qk33 zc 5 (mkT 46 [(0,(.ptr 0 0)),(8,(.bool x0)),(9,(.int .i64 x1)),(10,(.int .i64 x2))]) x3 x4 x5 x6 x7 x8 x9 xA xB xC xD xE xF xG xH xI xJ
noncomputable def z6h (x0:Bool) (x1 x2 x3 x4 x5 x6:Int) (x7:Bool) (x8 x9 xA xB xC xD xE xF xG:Int) (xH:List UInt8) (xI:List PV) (xJ:List PV):Option PV :=
 qk33 zc 6 (mkT 46 [(0,(.ptr 0 0)),(8,(.bool x0)),(9,(.int .i64 x1)),(10,(.int .i64 x2))]) x3 x4 x5 x6 x7 x8 x9 xA xB xC xD xE xF xG xH xI xJ
noncomputable def z3l (x0:Bool) (x1 x2 x3 x4 x5:Int) (x6:Bool) (x7 x8 x9 xA xB xC xD xE xF:Int) (xG:List UInt8) (xH:List PV) (xI:List PV):Option PV :=
 qk33 zc 7 (mkT 46 [(8,(.bool x0)),(9,(.int .i64 x1))]) x2 x3 x4 x5 x6 x7 x8 x9 xA xB xC xD xE xF xG xH xI
noncomputable def z1v (x0:List UInt8) (x1:List PV) (x2 x3 x4 x5 x6:Int) (x7:Bool) (x8 x9 xA xB xC xD xE xF xG:Int) (xH:List PV):Option PV :=
 qk31 zh 5 (mkT 82 [(0,(.ptr 0 0)),(1,(.str x0)),(5,(.sl 1 x1)),(6,(.int .i64 x2))]) x3 x4 x5 x6 x7 x8 x9 xA xB xC xD xE xF xG xH
noncomputable def z7k (x0:List UInt8) (x1:List PV) (x2:Int) (x3:List UInt8) (x4:List UInt8) (x5:Bool) (x6 x7 x8 x9:Int) (xA:Bool) (xB xC xD xE xF xG xH xI xJ:Int) (xK:List PV):Option PV :=
 qk31 zh 6 (mkT 82 [(0,(.ptr 0 0)),(1,(.str x0)),(5,(.sl 1 x1)),(6,(.int .i64 x2)),(7,(.str x3)),(8,(.str x4)),(9,(.bool x5))]) x6 x7 x8 x9 xA xB xC xD xE xF xG xH xI xJ xK
noncomputable def z7j (x0:List UInt8) (x1:List PV) (x2:Int) (x3:List UInt8) (x4:List UInt8) (x5:Bool) (x6 x7 x8 x9:Int) (xA:Bool) (xB xC xD xE xF xG xH xI xJ:Int) (xK:List PV):Option PV :=
 qk31 zh 7 (mkT 82 [(0,(.ptr 0 0)),(1,(.str x0)),(5,(.sl 1 x1)),(6,(.int .i64 x2)),(7,(.str x3)),(8,(.str x4)),(9,(.bool x5))]) x6 x7 x8 x9 xA xB xC xD xE xF xG xH xI xJ xK
noncomputable def qk34 (f p:Nat) (T:List PV) (y0 y1 y2 y3:Int) (y4:Bool) (y5 y6 y7 y8 y9 y10 y11 y12 y13:Int) (y14:List UInt8) (y15:List PV) (y16:Int) (y17:List UInt8) (y18:List PV):Option PV:=runW EE zg (z1y EE f p T [(.cells zx [(.int .i64 y0),(.int .i64 y1),(.int .i64 y2),(.int .i64 y3),(.bool y4)] false),(.cells zb [(.int .i64 y5),(.int .i64 y6),(.int .i64 y7),(.int .i64 y8)] false),(.cells zp [(.int .i64 y9)] false),(.cells zb [(.int .i64 y10),(.int .i64 y11),(.int .i64 y12),(.int .i64 y13)] false)] [frAt EE zh 9 1 (mkT 82 [(0,(.ptr 0 0)),(1,(.str y14)),(5,(.sl 1 y15)),(6,(.int .i64 y16)),(7,(.str y17))]) [],frAt EE z14 6 4 (mkT 78 []) [],frAt EE zt 3 3 (mkT 37 [(4,(.ptr 1 0)),(5,(.ptr 2 0)),(6,(.ptr 0 0))]) [((.func (Go.Fn.func zm) [] [(.ptr 1 0),(.ptr 2 0)]),[])],frAt EE zf 11 1 (mkT 69 [(2,(.ptr 3 0)),(4,(.sl 1 y18))]) []] [])
noncomputable def z89 (x0:List UInt8) (x1 x2 x3 x4:Int) (x5:Bool) (x6 x7 x8 x9 xA xB xC xD xE:Int) (xF:List UInt8) (xG:List PV) (xH:Int) (xI:List UInt8) (xJ:List PV):Option PV :=
 qk34 zbk 0 (mkT 13 [(0,(.str x0))]) x1 x2 x3 x4 x5 x6 x7 x8 x9 xA xB xC xD xE xF xG xH xI xJ
noncomputable def z2f (x0:List UInt8) (x1:List PV) (x2:Int) (x3:List UInt8) (x4 x5 x6 x7 x8:Int) (x9:Bool) (xA xB xC xD xE xF xG xH xI:Int) (xJ:List PV):Option PV :=
 qk31 zh 10 (mkT 82 [(0,(.ptr 0 0)),(1,(.str x0)),(5,(.sl 1 x1)),(6,(.int .i64 x2)),(7,(.str x3)),(10,(.int .i64 x4))]) x5 x6 x7 x8 x9 xA xB xC xD xE xF xG xH xI xJ
noncomputable def z88 (x0:List UInt8) (x1 x2 x3 x4:Int) (x5:Bool) (x6 x7 x8 x9 xA xB xC xD xE:Int) (xF:List UInt8) (xG:List PV) (xH:Int) (xI:List UInt8) (xJ:List PV):Option PV :=
 qk34 zbk 2 (mkT 13 [(0,(.str x0))]) x1 x2 x3 x4 x5 x6 x7 x8 x9 xA xB xC xD xE xF xG xH xI xJ
noncomputable def z7b (x0:List UInt8) (x1 x2 x3 x4 x5 x6 x7 x8:Int) (x9:Bool) (xA xB xC xD xE xF xG xH xI:Int) (xJ:List PV):Option PV :=
 qk31 zh 11 (mkT 82 [(0,(.ptr 0 0)),(1,(.str x0)),(6,(.int .i64 x1)),(10,(.int .i64 x2)),(11,(.int .i64 x3)),(12,(.int .i64 x4))]) x5 x6 x7 x8 x9 xA xB xC xD xE xF xG xH xI xJ
noncomputable def z43 (x0:List UInt8) (x1 x2 x3 x4 x5 x6 x7 x8:Int) (x9:Bool) (xA xB xC xD xE xF xG xH xI:Int) (xJ:List PV):Option PV :=
 qk31 zh 12 (mkT 82 [(0,(.ptr 0 0)),(1,(.str x0)),(6,(.int .i64 x1)),(10,(.int .i64 x2)),(11,(.int .i64 x3)),(12,(.int .i64 x4))]) x5 x6 x7 x8 x9 xA xB xC xD xE xF xG xH xI xJ
noncomputable def z2e (x0 x1 x2 x3 x4 x5:Int) (x6:Bool) (x7 x8 x9 xA xB xC xD xE xF:Int) (xG:List PV):Option PV :=
 qk31 zh 15 (mkT 82 [(0,(.ptr 0 0)),(6,(.int .i64 x0)),(10,(.int .i64 x1))]) x2 x3 x4 x5 x6 x7 x8 x9 xA xB xC xD xE xF xG
noncomputable def qk35 (f p:Nat) (T:List PV) (y0 y1 y2 y3:Int) (y4:Bool) (y5 y6 y7 y8 y9 y10 y11 y12 y13 y14:Int) (y15:List PV):Option PV:=runW EE zg (z1y EE f p T [(.cells zx [(.int .i64 y0),(.int .i64 y1),(.int .i64 y2),(.int .i64 y3),(.bool y4)] false),(.cells zb [(.int .i64 y5),(.int .i64 y6),(.int .i64 y7),(.int .i64 y8)] false),(.cells zp [(.int .i64 y9)] false),(.cells zb [(.int .i64 y10),(.int .i64 y11),(.int .i64 y12),(.int .i64 y13)] false)] [frAt EE zh 15 6 (mkT 82 [(0,(.ptr 0 0)),(10,(.int .i64 y14))]) [],frAt EE z14 6 4 (mkT 78 []) [],frAt EE zt 3 3 (mkT 37 [(4,(.ptr 1 0)),(5,(.ptr 2 0)),(6,(.ptr 0 0))]) [((.func (Go.Fn.func zm) [] [(.ptr 1 0),(.ptr 2 0)]),[])],frAt EE zf 11 1 (mkT 69 [(2,(.ptr 3 0)),(4,(.sl 1 y15))]) []] [])
noncomputable def z4p (x0 x1 x2 x3 x4 x5:Int) (x6:Bool) (x7 x8 x9 xA xB xC xD xE xF xG:Int) (xH:List PV):Option PV :=
 qk35 zk 0 (mkT 34 [(0,(.ptr 0 0)),(1,(.ptr 0 3)),(2,(.int .i64 x0)),(3,(.int .i64 x1))]) x2 x3 x4 x5 x6 x7 x8 x9 xA xB xC xD xE xF xG xH
noncomputable def z7w (x0 x1 x2 x3 x4 x5:Int) (x6:Bool) (x7 x8 x9 xA xB xC xD xE xF xG:Int) (xH:List PV):Option PV :=
 qk35 zk 1 (mkT 34 [(0,(.ptr 0 0)),(1,(.ptr 0 3)),(8,(.int .i64 x0)),(9,(.int .i64 x1))]) x2 x3 x4 x5 x6 x7 x8 x9 xA xB xC xD xE xF xG xH
noncomputable def z4g (x0 x1 x2 x3 x4 x5:Int) (x6:Bool) (x7 x8 x9 xA xB xC xD xE xF xG:Int) (xH:List PV):Option PV :=
 qk35 zk 3 (mkT 34 [(0,(.ptr 0 0)),(1,(.ptr 0 3)),(8,(.int .i64 x0)),(9,(.int .i64 x1))]) x2 x3 x4 x5 x6 x7 x8 x9 xA xB xC xD xE xF xG xH
noncomputable def z2d (x0 x1 x2 x3 x4:Int) (x5:Bool) (x6 x7 x8 x9 xA xB xC xD xE:Int) (xF:List PV):Option PV :=
 qk31 zh 16 (mkT 82 [(0,(.ptr 0 0)),(10,(.int .i64 x0))]) x1 x2 x3 x4 x5 x6 x7 x8 x9 xA xB xC xD xE xF
noncomputable def qk36 (f p:Nat) (T:List PV) (y0 y1 y2 y3:Int) (y4:Bool) (y5 y6 y7 y8 y9 y10 y11 y12 y13 y14:Int) (y15:List PV):Option PV:=runW EE zg (z1y EE f p T [(.cells zx [(.int .i64 y0),(.int .i64 y1),(.int .i64 y2),(.int .i64 y3),(.bool y4)] false),(.cells zb [(.int .i64 y5),(.int .i64 y6),(.int .i64 y7),(.int .i64 y8)] false),(.cells zp [(.int .i64 y9)] false),(.cells zb [(.int .i64 y10),(.int .i64 y11),(.int .i64 y12),(.int .i64 y13)] false)] [frAt EE zh 16 6 (mkT 82 [(0,(.ptr 0 0)),(10,(.int .i64 y14))]) [],frAt EE z14 6 4 (mkT 78 []) [],frAt EE zt 3 3 (mkT 37 [(4,(.ptr 1 0)),(5,(.ptr 2 0)),(6,(.ptr 0 0))]) [((.func (Go.Fn.func zm) [] [(.ptr 1 0),(.ptr 2 0)]),[])],frAt EE zf 11 1 (mkT 69 [(2,(.ptr 3 0)),(4,(.sl 1 y15))]) []] [])
noncomputable def z4o (x0 x1 x2 x3 x4 x5:Int) (x6:Bool) (x7 x8 x9 xA xB xC xD xE xF xG:Int) (xH:List PV):Option PV :=
 qk36 zk 0 (mkT 34 [(0,(.ptr 0 0)),(1,(.ptr 0 3)),(2,(.int .i64 x0)),(3,(.int .i64 x1))]) x2 x3 x4 x5 x6 x7 x8 x9 xA xB xC xD xE xF xG xH
noncomputable def z7v (x0 x1 x2 x3 x4 x5:Int) (x6:Bool) (x7 x8 x9 xA xB xC xD xE xF xG:Int) (xH:List PV):Option PV :=
 qk36 zk 1 (mkT 34 [(0,(.ptr 0 0)),(1,(.ptr 0 3)),(8,(.int .i64 x0)),(9,(.int .i64 x1))]) x2 x3 x4 x5 x6 x7 x8 x9 xA xB xC xD xE xF xG xH
noncomputable def z4f (x0 x1 x2 x3 x4 x5:Int) (x6:Bool) (x7 x8 x9 xA xB xC xD xE xF xG:Int) (xH:List PV):Option PV :=
 qk36 zk 3 (mkT 34 [(0,(.ptr 0 0)),(1,(.ptr 0 3)),(8,(.int .i64 x0)),(9,(.int .i64 x1))]) x2 x3 x4 x5 x6 x7 x8 x9 xA xB xC xD xE xF xG xH
noncomputable def z2c (x0 x1 x2 x3 x4 x5 x6 x7 x8:Int) (x9:Bool) (xA xB xC xD:Int) (xE:List PV):Option PV :=
 qk32 zh 17 (mkT 82 []) x0 x1 x2 x3 x4 x5 x6 x7 x8 x9 xA xB xC xD xE
noncomputable def z1i (x0 x1 x2 x3 x4 x5 x6 x7 x8:Int) (x9:Bool) (xA xB xC xD:Int) (xE:List PV):Option PV :=
 runW EE zg (z1y EE zt 4 (mkT 37 [(4,(.ptr 0 0)),(5,(.ptr 1 0)),(6,(.ptr 2 0))]) [(.cells zb [(.int .i64 x0),(.int .i64 x1),(.int .i64 x2),(.int .i64 x3)] false),(.cells zp [(.int .i64 x4)] false),(.cells zx [(.int .i64 x5),(.int .i64 x6),(.int .i64 x7),(.int .i64 x8),(.bool x9)] false),(.cells zb [(.int .i64 xA),(.int .i64 xB),(.int .i64 xC),(.int .i64 xD)] false)] [frAt EE zf 11 1 (mkT 69 [(2,(.ptr 3 0)),(4,(.sl 1 xE))]) []] [((.func (Go.Fn.func zm) [] [(.ptr 0 0),(.ptr 1 0)]),[])])
noncomputable abbrev z12w:List TI:=funTI EE zhz
noncomputable def zh1 (a0_0 a0_1 a0_2 a0_3 a1_0 a1_1 a1_2:Int):Option PV:=callF EE zhz [(.agg [(.int .i64 a0_0),(.int .i64 a0_1),(.int .i64 a0_2),(.int .i64 a0_3)]),(.agg [(.int .i64 a1_0),(.int .i64 a1_1),(.int .i64 a1_2)])]
noncomputable def ztj (x0 x1 x2 x3 x4 x5 x6:Int):Option PV :=
 runW EE z12w (z1s EE zhz 3 (mkT 36 [(2,(.ptr 0 0)),(3,(.ptr 1 0))]) [(.cells zb [(.int .i64 x0),(.int .i64 x1),(.int .i64 x2),(.int .i64 x3)] false),(.cells zhh [(.int .i64 x4),(.int .i64 x5),(.int .i64 x6)] false)])
noncomputable def z4z  : Option PV:=callF EE zer []
noncomputable abbrev zq2:List TI:=funTI EE zfz
noncomputable def zxa (a0_0 a0_1 a1_0 a1_1 a1_2:Int):Option PV:=callF EE zfz [(.agg [(.int .i64 a0_0),(.int .i64 a0_1)]),(.agg [(.int .i64 a1_0),(.int .i64 a1_1),(.int .i64 a1_2)])]
noncomputable def ztl  : Option PV :=
 runW EE zq2 (z1s EE zfz 2 (mkT 34 []) [])
noncomputable def ztk (x0 x1 x2 x3 x4:Int):Option PV :=
 runW EE zq2 (z1s EE zfz 3 (mkT 34 [(2,(.ptr 0 0)),(3,(.ptr 1 0))]) [(.cells zwy [(.int .i64 x0),(.int .i64 x1)] false),(.cells zhh [(.int .i64 x2),(.int .i64 x3),(.int .i64 x4)] false)])
noncomputable def zsi (a0:List UInt8):Option PV:=callF EE zgn [(.str a0)]
noncomputable def zl2 (a0:List PV):Option PV:=callF EE ze3 [(.sl 1 a0)]
noncomputable abbrev zzv:List TI:=funTI EE z9r
noncomputable def zeu (a0:List UInt8):Option PV:=callF EE z9r [(.str a0)]
noncomputable def z9o (x0 x1:Int) (x2:List PV):Option PV :=
 runW EE zzv (z1s EE z9r 3 (mkT 29 [(3,(.lall 0)),(8,(.lall 0)),(9,(.int .i64 x0)),(10,(.int .i64 x1))]) [(.row z12g 1 x2 0 none)])
noncomputable abbrev zzw:List TI:=funTI EE ze4
noncomputable def zez (a0:List PV):Option PV:=callF EE ze4 [(.sl 1 a0)]
noncomputable def zdn (x0:List PV) (x1:List PV) (x2 x3:Int):Option PV :=
 runW EE zzw (z1s EE ze4 2 (mkT 23 [(0,(.sl 1 x0)),(5,(.sl 1 x1)),(6,(.int .i64 x2)),(7,(.int .i64 x3))]) [])
noncomputable def zio (a0_0 a0_1 a0_2 a0_3:Int):Option PV:=callF EE zqx [(.agg [(.int .i64 a0_0),(.int .i64 a0_1),(.int .i64 a0_2),(.int .i64 a0_3)])]
noncomputable def zna (a0_0 a0_1 a0_2:Int):Option PV:=callF EE zqz [(.agg [(.int .i64 a0_0),(.int .i64 a0_1),(.int .i64 a0_2)])]
noncomputable def zgj (a0:Int):Option PV:=callF EE zk0 [(.int .i64 a0)]
noncomputable def z135 (a0_0 a0_1 a0_2 a0_3:Int):Option PV:=callF EE zya [(.agg [(.int .i64 a0_0),(.int .i64 a0_1),(.int .i64 a0_2),(.int .i64 a0_3)])]
noncomputable def z136 (a0_0 a0_1 a0_2 a0_3:Int):Option PV:=callF EE zyb [(.agg [(.int .i64 a0_0),(.int .i64 a0_1),(.int .i64 a0_2),(.int .i64 a0_3)])]
noncomputable abbrev zik:List TI:=funTI EE z42
noncomputable def zjc (a0_0 a0_1 a0_2 a0_3:Int):Option PV:=callF EE z42 [(.agg [(.int .i64 a0_0),(.int .i64 a0_1),(.int .i64 a0_2),(.int .i64 a0_3)])]
noncomputable def qk37 (f p:Nat) (T:List PV) (y0 y1 y2 y3 y4:Int):Option PV:=runW EE zik (z1s EE f p T [(.cells zb [(.int .i64 y0),(.int .i64 y1),(.int .i64 y2),(.int .i64 y3)] false),(.cells zj7 [(.int .i64 y4)] false)])
noncomputable def z6c (x0:List UInt8) (x1 x2 x3 x4 x5:Int):Option PV :=
 qk37 z42 3 (mkT 49 [(1,(.ptr 0 0)),(3,(.ptr 1 0)),(4,(.str x0))]) x1 x2 x3 x4 x5
noncomputable def z2m (x0:List UInt8) (x1:List UInt8) (x2 x3 x4 x5 x6:Int):Option PV :=
 qk37 z42 4 (mkT 49 [(1,(.ptr 0 0)),(3,(.ptr 1 0)),(4,(.str x0)),(5,(.str x1))]) x2 x3 x4 x5 x6
noncomputable def z2l (x0:List UInt8) (x1:List UInt8) (x2:List UInt8) (x3 x4 x5 x6 x7:Int):Option PV :=
 qk37 z42 5 (mkT 49 [(1,(.ptr 0 0)),(3,(.ptr 1 0)),(4,(.str x0)),(5,(.str x1)),(6,(.str x2))]) x3 x4 x5 x6 x7
noncomputable def zju (x0:List UInt8) (x1:List UInt8) (x2:List UInt8) (x3 x4 x5 x6:Int):Option PV :=
 runW EE zik (z1s EE z42 7 (mkT 49 [(1,(.ptr 0 0)),(4,(.str x0)),(5,(.str x1)),(6,(.str x2))]) [(.cells zb [(.int .i64 x3),(.int .i64 x4),(.int .i64 x5),(.int .i64 x6)] false)])
noncomputable def zbh (x0:List UInt8) (x1:List UInt8) (x2:List UInt8) (x3:List UInt8) (x4 x5 x6 x7 x8:Int):Option PV :=
 qk37 z42 8 (mkT 49 [(1,(.ptr 0 0)),(3,(.ptr 1 0)),(4,(.str x0)),(5,(.str x1)),(6,(.str x2)),(7,(.str x3))]) x4 x5 x6 x7 x8
noncomputable def zrc (a0_0 a0_1:Int):Option PV:=callF EE zue [(.agg [(.int .i64 a0_0),(.int .i64 a0_1)])]
noncomputable abbrev z12v:List TI:=funTI EE zhy
noncomputable def zx6 (a0_0 a0_1 a1_0 a1_1 a1_2:Int):Option PV:=callF EE zhy [(.agg [(.int .i64 a0_0),(.int .i64 a0_1)]),(.agg [(.int .i64 a1_0),(.int .i64 a1_1),(.int .i64 a1_2)])]
noncomputable def zky (x0 x1 x2:Int) (x3:List UInt8) (x4 x5 x6:Int):Option PV :=
 runW EE z12v (z1s EE zhy 5 (mkT 75 [(3,(.ptr 0 0)),(6,(.int .i64 x0)),(7,(.int .i64 x1)),(8,(.int .i64 x2)),(10,(.str x3))]) [(.cells zhh [(.int .i64 x4),(.int .i64 x5),(.int .i64 x6)] false)])
noncomputable abbrev z12u:List TI:=funTI EE zhx
noncomputable def z1g (a0:List PV):Option PV:=callF EE zhx [(.sl 1 a0)]
noncomputable def zhp (x0:List PV) (x1 x2:Int) (x3:List PV):Option PV :=
 runW EE z12u (z1s EE zhx 3 (mkT 23 [(3,(.lall 0)),(6,(.sl 1 x0)),(7,(.int .i64 x1)),(8,(.int .i64 x2))]) [(.row z12g 1 x3 0 none)])
noncomputable abbrev z30:List TI:=funTI EE z1r
noncomputable def zho (a0:List UInt8) (a1:PV):Option PV:=callF EE z1r [(.str a0),a1]
noncomputable def z1z (x0:List UInt8) (x1:PV) (x2:Int) (x3:List PV) (x4:Nat) (x5:List UInt8) (x6:Nat):Option PV :=
 runW EE z30 (z1s EE z1r 4 (mkT 65 [(0,(.str x0)),(1,(.opq x1 0)),(5,(.lall 0)),(6,(.int .i64 x2)),(14,(.ptr 1 0))]) [(.row z1c 2 x3 0 (some x4)),(.iter x5 x6)])
noncomputable def z21 (x0:List UInt8) (x1:PV) (x2:Int) (x3:List PV) (x4:List UInt8) (x5:Nat):Option PV :=
 runW EE z30 (z1s EE z1r 4 (mkT 65 [(0,(.str x0)),(1,(.opq x1 0)),(5,(.lall 0)),(6,(.int .i64 x2)),(14,(.ptr 1 0))]) [(.row z1c 2 x3 0 none),(.iter x4 x5)])
noncomputable def z5u (x0:List UInt8) (x1:List PV) (x2:Nat):Option PV :=
 runW EE z30 (z1s EE z1r 14 (mkT 65 [(0,(.str x0)),(5,(.lall 0))]) [(.row z1c 2 x1 0 (some x2))])
noncomputable def z33 (x0:List UInt8) (x1:List PV):Option PV :=
 runW EE z30 (z1s EE z1r 14 (mkT 65 [(0,(.str x0)),(5,(.lall 0))]) [(.row z1c 2 x1 0 none)])
noncomputable def z5t (x0:List UInt8) (x1 x2:Int) (x3:List PV) (x4:Nat) (x5:List PV) (x6:Nat):Option PV :=
 runW EE z30 (z1s EE z1r 16 (mkT 65 [(0,(.str x0)),(9,(.lall 0)),(47,(.lall 1)),(48,(.int .i64 x1)),(49,(.int .i64 x2))]) [(.row zgv 1 x3 0 (some x4)),(.row z1c 2 x5 0 (some x6))])
noncomputable def z59 (x0:List UInt8) (x1 x2:Int) (x3:List PV) (x4:Nat) (x5:List PV):Option PV :=
 runW EE z30 (z1s EE z1r 16 (mkT 65 [(0,(.str x0)),(9,(.lall 0)),(47,(.lall 1)),(48,(.int .i64 x1)),(49,(.int .i64 x2))]) [(.row zgv 1 x3 0 (some x4)),(.row z1c 2 x5 0 none)])
noncomputable def zl1 (a0:Int):Option PV:=callF EE z9k [(.int .i32 a0)]
noncomputable def zqb (a0 a1 a2:Int):Option PV:=callF EE zhw [(.int .i64 a0),(.int .i64 a1),(.int .i64 a2)]
noncomputable def z5b (a0:List UInt8) (a1:List UInt8):Option PV:=callF EE z5l [(.str a0),(.str a1)]
noncomputable def z5c (a0:List UInt8) (a1 a2:Int):Option PV:=callF EE zie [(.str a0),(.int .i64 a1),(.int .i64 a2)]
noncomputable def zwo (a0:List UInt8) (a1:List UInt8):Option PV:=callF EE zlg [(.str a0),(.str a1)]
noncomputable abbrev z12x:List TI:=funTI EE z57
noncomputable def zxk (a0:List UInt8):Option PV:=callF EE z57 [(.str a0)]
noncomputable def qk38 (f p:Nat) (T:List PV) (y0 y1 y2 y3:Int):Option PV:=runW EE z12x (z1s EE f p T [(.cells zb [(.int .i64 y0),(.int .i64 y1),(.int .i64 y2),(.int .i64 y3)] false)])
noncomputable def ztr (x0:List UInt8) (x1 x2 x3 x4:Int):Option PV :=
 qk38 z57 5 (mkT 41 [(2,(.ptr 0 0)),(5,(.str x0))]) x1 x2 x3 x4
noncomputable def zql (x0:List UInt8) (x1 x2 x3 x4:Int):Option PV :=
 qk38 z57 10 (mkT 41 [(2,(.ptr 0 0)),(5,(.str x0))]) x1 x2 x3 x4
noncomputable def zqk (x0:List UInt8) (x1 x2 x3 x4:Int):Option PV :=
 qk38 z57 13 (mkT 41 [(2,(.ptr 0 0)),(5,(.str x0))]) x1 x2 x3 x4
noncomputable def zqj (x0:List UInt8) (x1 x2 x3 x4:Int):Option PV :=
 qk38 z57 16 (mkT 41 [(2,(.ptr 0 0)),(5,(.str x0))]) x1 x2 x3 x4
noncomputable def zqi (x0:List UInt8) (x1 x2 x3 x4:Int):Option PV :=
 qk38 z57 19 (mkT 41 [(2,(.ptr 0 0)),(5,(.str x0))]) x1 x2 x3 x4
noncomputable def zqh (x0:List UInt8) (x1 x2 x3 x4:Int):Option PV :=
 qk38 z57 24 (mkT 41 [(2,(.ptr 0 0)),(5,(.str x0))]) x1 x2 x3 x4
noncomputable def z1bf (a0_0 a0_1 a0_2 a0_3:Int):Option PV:=callF EE zp8 [(.agg [(.int .i64 a0_0),(.int .i64 a0_1),(.int .i64 a0_2),(.int .i64 a0_3)])]
noncomputable def z13q (a0:Int):Option PV:=callF EE z11u [(.int .i64 a0)]
noncomputable def zjb (a0:Int):Option PV:=callF EE zo7 [(.int .i64 a0)]
noncomputable def zew (a0:Int):Option PV:=callF EE zo8 [(.int .i64 a0)]
noncomputable def zff (a0:Int):Option PV:=callF EE zr3 [(.int .i64 a0)]
noncomputable abbrev zuv:List TI:=funTI EE ze2
noncomputable def z41 (a0:List UInt8) (a1:List PV):Option PV:=callF EE ze2 [(.str a0),(.sl 1 a1)]
noncomputable def z9g (x0:List UInt8) (x1:List PV) (x2 x3:Int) (x4:List PV):Option PV :=
 runW EE zuv (z1s EE ze2 3 (mkT 24 [(0,(.str x0)),(5,(.lall 0)),(8,(.sl 1 x1)),(9,(.int .i64 x2)),(10,(.int .i64 x3))]) [(.row zgv 1 x4 0 none)])
noncomputable def z78 (a0:Int):Option PV:=callF EE zob [(.int .i64 a0)]
noncomputable def zbo (a0:Int) (a1:List UInt8):Option PV:=callF EE zoa [(.int .i64 a0),(.str a1)]
noncomputable def zkw (a0:Int):Option PV:=callF EE zlh [(.int .i64 a0)]
noncomputable def zst (a0:Int):Option PV:=callF EE zr1 [(.int .i64 a0)]
noncomputable def zys (a0_0 a0_1:Int):Option PV:=callF EE zuf [(.agg [(.int .i64 a0_0),(.int .i64 a0_1)])]
noncomputable abbrev z1l:List TI:=funTI EE z1b
noncomputable def z51 (a0:List UInt8) (a1:Int):Option PV:=callF EE z1b [(.str a0),(.int .i64 a1)]
noncomputable def zim (x0:List UInt8) (x1:Int):Option PV :=
 runW EE z1l (z1s EE z1b 8 (mkT 125 [(0,(.str x0)),(1,(.int .i64 x1))]) [])
noncomputable def zhm (x0:List UInt8) (x1:Int):Option PV :=
 runW EE z1l (z1s EE z1b 10 (mkT 125 [(0,(.str x0)),(6,(.int .u64 x1))]) [])
noncomputable def zhl (x0:List UInt8) (x1:Int):Option PV :=
 runW EE z1l (z1s EE z1b 11 (mkT 125 [(0,(.str x0)),(6,(.int .u64 x1))]) [])
noncomputable def z58 (x0:List UInt8) (x1:Int):Option PV :=
 runW EE z1l (z1s EE z1b 20 (mkT 125 [(0,(.str x0)),(7,(.int .i64 x1))]) [])
noncomputable def zq4 (x0:List UInt8) (x1:Int):Option PV :=
 runW EE z1l (z1s EE z1b 30 (mkT 125 [(0,(.str x0)),(7,(.int .i64 x1))]) [])
noncomputable def zq6 (x0:Int):Option PV :=
 runW EE z1l (z1s EE z1b 21 (mkT 125 [(7,(.int .i64 x0))]) [])
noncomputable def z94 (x0:List UInt8) (x1:Int):Option PV :=
 runW EE z1l (z1s EE z1b 22 (mkT 125 [(0,(.str x0)),(7,(.int .i64 x1))]) [])
noncomputable def zq5 (x0:Int):Option PV :=
 runW EE z1l (z1s EE z1b 23 (mkT 125 [(7,(.int .i64 x0))]) [])
noncomputable def z93 (x0:List UInt8) (x1:Int):Option PV :=
 runW EE z1l (z1s EE z1b 24 (mkT 125 [(0,(.str x0)),(7,(.int .i64 x1))]) [])
noncomputable def zdk (x0:Int):Option PV :=
 runW EE z1l (z1s EE z1b 25 (mkT 125 [(7,(.int .i64 x0))]) [])
noncomputable def zhk (x0:List UInt8) (x1:Int):Option PV :=
 runW EE z1l (z1s EE z1b 26 (mkT 125 [(0,(.str x0)),(7,(.int .i64 x1))]) [])
noncomputable def ze8 (a0:Int):Option PV:=callF EE zug [(.int .i64 a0)]
noncomputable def zkk (a0:List UInt8) (a1:List UInt8):Option PV:=callF EE zhv [(.str a0),(.str a1)]
noncomputable abbrev zkj:List TI:=funTI EE z2o
noncomputable def zu (a0:List UInt8):Option PV:=callF EE z2o [(.str a0)]
noncomputable def z76 (x0:List UInt8) (x1 x2:Int) (x3:List UInt8) (x4:Nat):Option PV :=
 runW EE zkj (z1s EE z2o 3 (mkT 37 [(0,(.str x0)),(4,(.int .i64 x1)),(5,(.int .i64 x2)),(9,(.ptr 0 0))]) [(.iter x3 x4)])
noncomputable def zi5 (x0:List UInt8) (x1 x2 x3:Int) (x4:List UInt8) (x5:Nat):Option PV :=
 runW EE zkj (z1s EE z2o 9 (mkT 37 [(0,(.str x0)),(4,(.int .i64 x1)),(5,(.int .i64 x2)),(7,(.int .i32 x3)),(9,(.ptr 0 0))]) [(.iter x4 x5)])
noncomputable def zd (a0 a1:Int):Option PV:=callF EE z6e [(.int .i64 a0),(.int .i64 a1)]
noncomputable def ze (a0 a1:Int):Option PV:=callF EE z8a [(.int .i64 a0),(.int .i64 a1)]
noncomputable def zr (a0:List UInt8) (a1:List UInt8):Option PV:=callF EE z1u [(.str a0),(.str a1)]
noncomputable def z1f (a0:List UInt8) (a1:List UInt8):Option PV:=callF EE z75 [(.str a0),(.str a1)]
noncomputable def zgh (a0:List UInt8) (a1:List UInt8):Option PV:=callF EE z8z [(.str a0),(.str a1)]
noncomputable def z79 (a0:List UInt8):Option PV:=callF EE zid [(.str a0)]
noncomputable abbrev z12y:List TI:=funTI EE zi0
noncomputable def zyx (a0 a1 a2:Int):Option PV:=callF EE zi0 [(.int .i64 a0),(.int .i64 a1),(.int .i64 a2)]
noncomputable def zln (x0 x1 x2:Int):Option PV :=
 runW EE z12y (z1s EE zi0 3 (mkT 41 [(0,(.int .i64 x0)),(1,(.int .i64 x1)),(2,(.int .i64 x2))]) [])
noncomputable def z1ei (a0 a1 a2 a3:Int):Option PV:=callF EE z14i [(.int .i64 a0),(.int .i64 a1),(.int .i64 a2),(.int .i64 a3)]
noncomputable def zre (a0 a1 a2 a3:Int):Option PV:=callF EE zli [(.int .i64 a0),(.int .i64 a1),(.int .i64 a2),(.int .i64 a3)]
noncomputable def num_Sub (a0 a1:Int):Option PV:=callF EE z11t [(.int .i64 a0),(.int .i64 a1)]
noncomputable def znm (a0:Int):Option PV:=callF EE zr2 [(.int .u64 a0)]
noncomputable abbrev z6b:List TI:=funTI EE z2j
noncomputable def zkq (a0:List PV) (a1:List UInt8):Option PV:=callF EE z2j [(.sl 1 a0),(.str a1)]
noncomputable def zjt (x0:List PV) (x1:List UInt8) (x2:Int):Option PV :=
 runW EE z6b (z1s EE z2j 10 (mkT 75 [(0,(.sl 1 x0)),(1,(.str x1)),(5,(.int .i64 x2))]) [])
noncomputable def zg4 (x0:List PV) (x1:List UInt8) (x2:Int):Option PV :=
 runW EE z6b (z1s EE z2j 11 (mkT 75 [(0,(.sl 1 x0)),(1,(.str x1)),(5,(.int .i64 x2))]) [])
noncomputable def zbf (x0:List PV) (x1:List UInt8) (x2:Int) (x3:List PV) (x4 x5:Int):Option PV :=
 runW EE z6b (z1s EE z2j 12 (mkT 75 [(0,(.sl 1 x0)),(1,(.str x1)),(5,(.int .i64 x2)),(39,(.sl 1 x3)),(40,(.int .i64 x4)),(41,(.int .i64 x5))]) [])
noncomputable def zjs (x0:List PV) (x1:List UInt8) (x2:Int) (x3:List UInt8) (x4:List PV) (x5 x6:Int):Option PV :=
 runW EE z6b (z1s EE z2j 16 (mkT 75 [(0,(.sl 1 x0)),(1,(.str x1)),(5,(.int .i64 x2)),(7,(.str x3)),(39,(.sl 1 x4)),(40,(.int .i64 x5)),(41,(.int .i64 x6))]) [])
noncomputable def qk39 (f p:Nat) (T:List PV) (y0:List PV):Option PV:=runW EE z6b (z1s EE f p T [(.cells zhg [(.ptr 0 0),(.lall 1)] false),(.row z12g 1 y0 0 none)])
noncomputable def zg3 (x0:List PV) (x1:List UInt8) (x2:List PV):Option PV :=
 qk39 z2j 20 (mkT 75 [(0,(.sl 1 x0)),(1,(.str x1)),(8,(.ptr 0 0))]) x2
noncomputable def zhn (x0:List PV) (x1:List UInt8):Option PV :=
 runW EE z6b (z1s EE z2j 20 (mkT 75 [(0,(.sl 1 x0)),(1,(.str x1)),(8,(.ptr 0 0))]) [(.cells zhg [(.ptr 0 0),.sl0] false)])
noncomputable def zg2 (x0:List PV) (x1:List UInt8) (x2:List PV):Option PV :=
 qk39 z2j 21 (mkT 75 [(0,(.sl 1 x0)),(1,(.str x1)),(8,(.ptr 0 0))]) x2
noncomputable def zbe (x0:List UInt8) (x1:List PV) (x2 x3:Int) (x4:List PV):Option PV :=
 qk39 z2j 22 (mkT 75 [(1,(.str x0)),(8,(.ptr 0 0)),(63,(.sl 1 x1)),(64,(.int .i64 x2)),(65,(.int .i64 x3))]) x4
noncomputable def z2h (a0:Int):Option PV:=callF EE zo9 [(.int .i64 a0)]
noncomputable abbrev zdh:List TI:=funTI EE z5n
noncomputable def zfo (a0:Int):Option PV:=callF EE z5n [(.int .i64 a0)]
noncomputable def zfg  : Option PV :=
 runW EE zdh (z1s EE z5n 2 (mkT 30 []) [])
noncomputable def zj0 (x0:Int):Option PV :=
 runW EE zdh (z1s EE z5n 3 (mkT 30 [(0,(.int .i64 x0))]) [])
noncomputable def z8b (x0:List UInt8) (x1:Int) (x2:List UInt8) (x3:Nat):Option PV :=
 runW EE zdh (z1s EE z5n 6 (mkT 30 [(3,(.str x0)),(4,(.int .i64 x1)),(17,(.ptr 0 0))]) [(.iter x2 x3)])
noncomputable def znn (a0:Int):Option PV:=callF EE zr5 [(.int .i64 a0)]
noncomputable def z1cw (a0 a1:Int):Option PV:=callF EE zyg [(.int .u64 a0),(.int .u64 a1)]
noncomputable def z9q (a0:List UInt8) (a1:List UInt8):Option PV:=callF EE zge [(.str a0),(.str a1)]
noncomputable abbrev zjq:List TI:=funTI EE z9l
noncomputable def zc9 (a0 a1:Int):Option PV:=callF EE z9l [(.int .u64 a0),(.int .i64 a1)]
noncomputable def z9m (x0 x1 x2:Int) (x3:List PV) (x4:Nat):Option PV :=
 runW EE zjq (z1s EE z9l 3 (mkT 28 [(0,(.int .u64 x0)),(1,(.int .i64 x1)),(5,(.ptr 0 0)),(6,(.int .i64 x2))]) [(.row ztc 1 x3 0 (some x4))])
noncomputable def ze6 (x0 x1 x2:Int) (x3:List PV) (x4:Nat):Option PV :=
 runW EE zjq (z1s EE z9l 5 (mkT 28 [(0,(.int .u64 x0)),(1,(.int .i64 x1)),(5,(.ptr 0 0)),(6,(.int .i64 x2))]) [(.row ztc 1 x3 0 (some x4))])
noncomputable abbrev zfp:List TI:=funTI EE z5g
noncomputable def z7h (a0:List UInt8) (a1:List UInt8):Option PV:=callF EE z5g [(.str a0),(.str a1)]
noncomputable def z9y  : Option PV :=
 runW EE zfp (z1s EE z5g 3 (mkT 143 []) [])
noncomputable def zgd (x0:List UInt8) (x1:List UInt8) (x2:Int):Option PV :=
 runW EE zfp (z1s EE z5g 4 (mkT 143 [(0,(.str x0)),(1,(.str x1)),(5,(.int .i64 x2))]) [])
noncomputable abbrev zdg:List TI:=funTI EE z8j
noncomputable def zii (a0:Int):Option PV:=callF EE z8j [(.int .i32 a0)]
noncomputable def zt3  : Option PV :=
 runW EE zdg (z1s EE z8j 2 (mkT 42 []) [])
noncomputable def zhf (x0:Int):Option PV :=
 runW EE zdg (z1s EE z8j 3 (mkT 42 [(0,(.int .i32 x0))]) [])
noncomputable def zhe  : Option PV :=
 runW EE zdg (z1s EE z8j 4 (mkT 42 []) [])
noncomputable def zkc (x0:Int):Option PV :=
 runW EE zdg (z1s EE z8j 5 (mkT 42 [(0,(.int .i32 x0))]) [])
noncomputable def zdf  : Option PV :=
 runW EE zdg (z1s EE z8j 10 (mkT 42 []) [])
noncomputable abbrev zzx:List TI:=funTI EE zgo
noncomputable def zsm (a0:Bool) (a1_0 a1_1:Int):Option PV:=callF EE zgo [(.bool a0),(.agg [(.int .u64 a1_0),(.int .u64 a1_1)])]
noncomputable def zjg (x0:Bool) (x1:List PV) (x2:Nat):Option PV :=
 runW EE zzx (z1s EE zgo 5 (mkT 31 [(0,(.bool x0)),(3,(.ptr 0 0))]) [(.row z168 1 x1 0 (some x2))])
noncomputable def zxu (a0 a1:Int):Option PV:=callF EE zoc [(.int .i64 a0),(.int .i64 a1)]
noncomputable def zfq (a0:List UInt8) (a1:List UInt8):Option PV:=callF EE zc8 [(.str a0),(.str a1)]
noncomputable def zep (a0:List UInt8) (a1:List UInt8):Option PV:=callF EE zbd [(.str a0),(.str a1)]
noncomputable abbrev zgc:List TI:=funTI EE z5s
noncomputable def zjr (a0:List UInt8) (a1:List UInt8) (a2 a3:Int):Option PV:=callF EE z5s [(.str a0),(.str a1),(.int .i64 a2),(.int .i64 a3)]
noncomputable def zbn (x0:List UInt8) (x1:List UInt8) (x2 x3:Int):Option PV :=
 runW EE zgc (z1s EE z5s 7 (mkT 66 [(0,(.str x0)),(1,(.str x1)),(2,(.int .i64 x2)),(3,(.int .i64 x3))]) [])
noncomputable def z7f (x0:List UInt8) (x1:List UInt8) (x2 x3 x4:Int) (x5:List PV) (x6:Nat):Option PV :=
 runW EE zgc (z1s EE z5s 11 (mkT 66 [(0,(.str x0)),(1,(.str x1)),(2,(.int .i64 x2)),(3,(.int .i64 x3)),(9,(.lall 0)),(10,(.int .i64 x4))]) [(.row zgv 1 x5 0 (some x6))])
noncomputable def zpi (a0 a1:Int):Option PV:=callF EE zof [(.int .i64 a0),(.int .i64 a1)]
noncomputable def zyv (a0:Int):Option PV:=callF EE zod [(.int .u64 a0)]
noncomputable def zyy (a0:Int):Option PV:=callF EE zuh [(.int .i64 a0)]
noncomputable def zph (a0:Int):Option PV:=callF EE zoe [(.int .i64 a0)]
noncomputable def zno (a0 a1:Int):Option PV:=callF EE zr6 [(.int .u64 a0),(.int .u64 a1)]
noncomputable def z53 (a0:List UInt8) (a1:List UInt8):Option PV:=callF EE zc7 [(.str a0),(.str a1)]
noncomputable def z6g (a0:List UInt8) (a1:Int):Option PV:=callF EE zc6 [(.str a0),(.int .u8 a1)]
noncomputable def zvx (a0:Int):Option PV:=callF EE zyd [(.int .i64 a0)]
noncomputable def zx1 (a0:List UInt8) (a1:Int):Option PV:=callF EE zqw [(.str a0),(.int .i64 a1)]
noncomputable abbrev zsc:List TI:=funTI EE zbj
noncomputable def zja (a0:List UInt8) (a1:List UInt8):Option PV:=callF EE zbj [(.str a0),(.str a1)]
noncomputable def zuz (x0:List UInt8) (x1:List UInt8) (x2:Int):Option PV :=
 runW EE zsc (z1s EE zbj 6 (mkT 34 [(0,(.str x0)),(1,(.str x1)),(5,(.int .i64 x2))]) [])
noncomputable def zj9 (a0:List UInt8) (a1:List UInt8):Option PV:=callF EE zjz [(.str a0),(.str a1)]
noncomputable def zpj  : Option PV:=callF EE zog []
noncomputable def zsw  : Option PV:=callF EE zr4 []
noncomputable def zk7 (a0:List UInt8):Option PV:=callF EE zic [(.str a0)]
theorem zgb (a0_0 a0_1 a0_2 a0_3 a1_0 a1_1 a1_2:Int):z9v a0_0 a0_1 a0_2 a0_3 a1_0 a1_1 a1_2 =
  ((zh1 a0_0 a0_1 a0_2 a0_3 a1_0 a1_1 a1_2).bind fun v1=>(bif (!(eqB (PV.toI (PV.tnth v1 1)) 0)) then (bif (eqS (PV.toS (PV.tnth v1 0)) []) then ((z4z).bind fun v2=>(some (PV.bool (PV.toB v2)))) else (some (PV.bool false))) else ((z8y (PV.toS (PV.tnth v1 0))).bind fun v3=>(bif ((eqB (PV.toI (PV.nth (PV.tnth v3 0) 0)) a0_0)&&((eqB (PV.toI (PV.nth (PV.tnth v3 0) 1)) a0_1)&&((eqB (PV.toI (PV.nth (PV.tnth v3 0) 2)) a0_2)&&((eqB (PV.toI (PV.nth (PV.tnth v3 0) 3)) a0_3)&&true)))) then (bif (eqB (PV.toI (PV.tnth v3 1)) 0) then ((z4z).bind fun v4=>(some (PV.bool (PV.toB v4)))) else (some (PV.bool false))) else (some (PV.bool false)))))) :=
 (zn EE z90 _ rfl).trans (by kernel_rfl)
theorem zts (a0:List UInt8):z8y a0 =
  (zu0 a0) :=
 (zn EE zf _ rfl).trans (by kernel_rfl)
theorem zl6 (x0:List UInt8):zu0 x0 =
  ((zsi x0).bind fun v1=>(ztz x0 (PV.toL v1) 0 0 0 0)) :=
 (za EE _ _).trans (by kernel_rfl)
theorem zl5 (x0:List UInt8) (x1:List PV) (x2 x3 x4 x5:Int):ztz x0 x1 x2 x3 x4 x5 =
  ((zl2 x1).bind fun v1=>(zty x0 x1 (PV.toB (PV.tnth v1 1)) x2 x3 x4 x5 (PV.toI (PV.nth (PV.tnth v1 0) 0)) (PV.toI (PV.nth (PV.tnth v1 0) 1)))) :=
 (za EE _ _).trans (by kernel_rfl)
theorem zl4 (x0:List UInt8) (x1:List PV) (x2:Bool) (x3 x4 x5 x6 x7 x8:Int):zty x0 x1 x2 x3 x4 x5 x6 x7 x8 =
  (bif (ltB 2048 (((List.length x0):Nat):Int)) then (ztx x3 x4 x5 x6) else (bif (eqB (((List.length x1):Nat):Int) 0) then (ztx x3 x4 x5 x6) else (ztw x1 x2 x3 x4 x5 x6 x7 x8))) :=
 (za EE _ _).trans (by kernel_rfl)
theorem zl3 (x0:List PV) (x1:Bool) (x2 x3 x4 x5 x6 x7:Int):ztw x0 x1 x2 x3 x4 x5 x6 x7 =
  (bif x1 then (bif (!(eqB x6 0)) then (ztv x2 x3 x4 x5 x6 x7) else (zhs x0 x2 x3 x4 x5)) else (zhs x0 x2 x3 x4 x5)) :=
 (za EE _ _).trans (by kernel_rfl)
theorem zxn (x0 x1 x2 x3 x4 x5:Int):ztv x0 x1 x2 x3 x4 x5 =
  (some (PV.tuple [(PV.agg [(PV.int .i64 x4),(PV.int .i64 0),(PV.int .i64 0),(PV.int .i64 0)]),(PV.int .i64 0)])) :=
 (za EE _ _).trans (by kernel_rfl)
theorem zh6 (x0:List PV) (x1 x2 x3 x4:Int):zhs x0 x1 x2 x3 x4 =
  ((rdI tiStr x0 0).bind fun v1=>((zeu (PV.toS v1)).bind fun v2=>(ztu x0 x1 x2 x3 x4 (PV.toS v2)))) :=
 (za EE _ _).trans (by kernel_rfl)
theorem zh5 (x0:List PV) (x1 x2 x3 x4:Int) (x5:List UInt8):ztu x0 x1 x2 x3 x4 x5 =
  (bif (eqB (((List.length x0):Nat):Int) 1) then ((atS x5 0).bind fun v1=>(bif (eqB v1 112) then (ztt x0 x1 x2 x3 x4 x5) else (zgl x0 x1 x2 x3 x4))) else (zgl x0 x1 x2 x3 x4)) :=
 (za EE _ _).trans (by kernel_rfl)
theorem zxm (x0:List PV) (x1 x2 x3 x4:Int) (x5:List UInt8):ztt x0 x1 x2 x3 x4 x5 =
  (zc3 x0 x5 x1 x2 x3 x4 x0) :=
 (za EE _ _).trans (by kernel_rfl)
theorem zjw (x0:List PV) (x1 x2 x3 x4:Int):zgl x0 x1 x2 x3 x4 =
  ((zez x0).bind fun v1=>(bif (PV.toB v1) then (zjf x0 x1 x2 x3 x4) else (zgk x0 x1 x2 x3 x4))) :=
 (za EE _ _).trans (by kernel_rfl)
theorem zh4 (x0:List PV) (x1:List UInt8) (x2 x3 x4 x5:Int) (x6:List PV):zc3 x0 x1 x2 x3 x4 x5 x6 =
  ((dropS x1 1).bind fun v1=>(z5i v1 0 0 0 0 false 0 0 0 0 0 x2 x3 x4 x5 x6)) :=
 (za EE _ _).trans (by kernel_rfl)
theorem zva (x0:List PV) (x1 x2 x3 x4:Int):zjf x0 x1 x2 x3 x4 =
  (z9u x0 x1 x2 x3 x4 x0) :=
 (za EE _ _).trans (by kernel_rfl)
theorem zv9 (x0:List PV) (x1 x2 x3 x4:Int):zgk x0 x1 x2 x3 x4 =
  (z9t x0 x1 x2 x3 x4 x0) :=
 (za EE _ _).trans (by kernel_rfl)
theorem zfb (x0:List UInt8) (x1 x2 x3 x4:Int) (x5:Bool) (x6 x7 x8 x9 xA xB xC xD xE:Int) (xF:List PV):z5i x0 x1 x2 x3 x4 x5 x6 x7 x8 x9 xA xB xC xD xE xF =
  ((z5b x0 [116]).bind fun v1=>(z9c (PV.toS (PV.tnth v1 0)) (PV.toS (PV.tnth v1 1)) (PV.toB (PV.tnth v1 2)) x1 x2 x3 x4 x5 x6 x7 x8 x9 xA xB xC xD xE xF)) :=
 (za EE _ _).trans (by kernel_rfl)
theorem zg8 (x0:List PV) (x1 x2 x3 x4:Int) (x5:List PV):z9u x0 x1 x2 x3 x4 x5 =
  (z98 x0 0 0 0 0 false 0 0 0 0 0 x1 x2 x3 x4 x5) :=
 (za EE _ _).trans (by kernel_rfl)
theorem zg7 (x0:List PV) (x1 x2 x3 x4:Int) (x5:List PV):z9t x0 x1 x2 x3 x4 x5 =
  (z8g x0 0 0 0 0 false 0 0 0 0 0 x1 x2 x3 x4 x5) :=
 (za EE _ _).trans (by kernel_rfl)
theorem zfa (x0:List UInt8) (x1:List UInt8) (x2:Bool) (x3 x4 x5 x6:Int) (x7:Bool) (x8 x9 xA xB xC xD xE xF xG:Int) (xH:List PV):z9c x0 x1 x2 x3 x4 x5 x6 x7 x8 x9 xA xB xC xD xE xF xG xH =
  (z8v x0 [121,109,119,100] false x3 x4 x5 x6 x7 x8 x9 xA xB xC xD xE xF xG x1 x2 xH) :=
 (za EE _ _).trans (by kernel_rfl)
theorem zf5 (x0:List PV) (x1 x2 x3 x4:Int) (x5:Bool) (x6 x7 x8 x9 xA xB xC xD xE:Int) (xF:List PV):z98 x0 x1 x2 x3 x4 x5 x6 x7 x8 x9 xA xB xC xD xE xF =
  ((rdI tiStr x0 0).bind fun v1=>((takeS (PV.toS v1) 1).bind fun v2=>((rdI tiStr x0 0).bind fun v3=>((dropS (PV.toS v3) 1).bind fun v4=>((z5b v4 [45]).bind fun v5=>(z97 x0 v2 (PV.toS (PV.tnth v5 0)) (PV.toS (PV.tnth v5 1)) (PV.toB (PV.tnth v5 2)) x1 x2 x3 x4 x5 x6 x7 x8 x9 xA xB xC xD xE xF)))))) :=
 (za EE _ _).trans (by kernel_rfl)
theorem zdx (x0:List PV) (x1 x2 x3 x4:Int) (x5:Bool) (x6 x7 x8 x9 xA xB xC xD xE:Int) (xF:List PV):z8g x0 x1 x2 x3 x4 x5 x6 x7 x8 x9 xA xB xC xD xE xF =
  (bif (ltB 1 (((List.length x0):Nat):Int)) then ((rdI tiStr x0 (IntKind.wrap .i64 ((((List.length x0):Nat):Int)-1))).bind fun v1=>((zwo (PV.toS v1) [97,103,111]).bind fun v2=>(z55 (PV.toB v2) x1 x2 x3 x4 x5 x0 x6 x7 x8 x9 xA xB xC xD xE xF))) else (z55 false x1 x2 x3 x4 x5 x0 x6 x7 x8 x9 xA xB xC xD xE xF)) :=
 (za EE _ _).trans (by kernel_rfl)
theorem zem (x0:List UInt8) (x1:List UInt8) (x2:Bool) (x3 x4 x5 x6:Int) (x7:Bool) (x8 x9 xA xB xC xD xE xF xG:Int) (xH:List UInt8) (xI:Bool) (xJ:List PV):z8v x0 x1 x2 x3 x4 x5 x6 x7 x8 x9 xA xB xC xD xE xF xG xH xI xJ =
  (z15 x0 x1 x2 0 0 x3 x4 x5 x6 x7 x0 0 x8 x9 xA xB xC xD xE xF xG xH xI xJ) :=
 (za EE _ _).trans (by kernel_rfl)
theorem zf4 (x0:List PV) (x1:List UInt8) (x2:List UInt8) (x3:List UInt8) (x4:Bool) (x5 x6 x7 x8:Int) (x9:Bool) (xA xB xC xD xE xF xG xH xI:Int) (xJ:List PV):z97 x0 x1 x2 x3 x4 x5 x6 x7 x8 x9 xA xB xC xD xE xF xG xH xI xJ =
  (bif x4 then ((rdI tiStr x0 0).bind fun v1=>((z5c x2 1 (((List.length (PV.toS v1)):Nat):Int)).bind fun v2=>(bif (PV.toB v2) then ((rdI tiStr x0 0).bind fun v3=>((z5c x3 1 (((List.length (PV.toS v3)):Nat):Int)).bind fun v4=>(bif (!(PV.toB v4)) then (z10 xJ 13 xF xG xH xI 0 0 0 0) else (z96 x0 x1 x2 x3 x5 x6 x7 x8 x9 xA xB xC xD xE xF xG xH xI xJ)))) else (z10 xJ 13 xF xG xH xI 0 0 0 0)))) else (z10 xJ 13 xF xG xH xI 0 0 0 0)) :=
 (za EE _ _).trans (by kernel_rfl)
theorem z73 (x0:Bool) (x1 x2 x3 x4:Int) (x5:Bool) (x6:List PV) (x7 x8 x9 xA xB xC xD xE xF:Int) (xG:List PV):z55 x0 x1 x2 x3 x4 x5 x6 x7 x8 x9 xA xB xC xD xE xF xG =
  (bif x0 then ((takeS x6 (IntKind.wrap .i64 ((((List.length x6):Nat):Int)-1))).bind fun v1=>(z2y x0 x1 x2 x3 x4 x5 v1 x7 x8 x9 xA xB xC xD xE xF xG)) else (z2y x0 x1 x2 x3 x4 x5 x6 x7 x8 x9 xA xB xC xD xE xF xG)) :=
 (za EE _ _).trans (by kernel_rfl)
theorem z7d (x0:List UInt8) (x1:List UInt8) (x2:Bool) (x3 x4 x5 x6 x7 x8:Int) (x9:Bool) (xA:List UInt8) (xB:Nat) (xC xD xE xF xG xH xI xJ xK:Int) (xL:List UInt8) (xM:Bool) (xN:List PV):z15 x0 x1 x2 x3 x4 x5 x6 x7 x8 x9 xA xB xC xD xE xF xG xH xI xJ xK xL xM xN =
  (bif (ltN xB (List.length xA)) then (bif (eqB ((((decR xA xB).1):Nat):Int) 45) then (z15 x0 x1 x2 x3 x4 x5 x6 x7 x8 x9 xA (xB+((decR xA xB).2)) xC xD xE xF xG xH xI xJ xK xL xM xN) else (bif (eqB ((((decR xA xB).1):Nat):Int) 46) then (z15 x0 x1 x2 x3 x4 x5 x6 x7 x8 x9 xA (xB+((decR xA xB).2)) xC xD xE xF xG xH xI xJ xK xL xM xN) else (bif (leB 48 ((((decR xA xB).1):Nat):Int)) then (bif (leB ((((decR xA xB).1):Nat):Int) 57) then (z15 x0 x1 x2 x3 x4 x5 x6 x7 x8 x9 xA (xB+((decR xA xB).2)) xC xD xE xF xG xH xI xJ xK xL xM xN) else (z32 x0 x1 x2 x3 x4 ((xB:Nat):Int) ((((decR xA xB).1):Nat):Int) x5 x6 x7 x8 x9 xA (xB+((decR xA xB).2)) xC xD xE xF xG xH xI xJ xK xL xM xN)) else (z32 x0 x1 x2 x3 x4 ((xB:Nat):Int) ((((decR xA xB).1):Nat):Int) x5 x6 x7 x8 x9 xA (xB+((decR xA xB).2)) xC xD xE xF xG xH xI xJ xK xL xM xN)))) else (bif (!(eqB x4 (((List.length x0):Nat):Int))) then (some (PV.tuple [(PV.agg [(PV.int .i64 0),(PV.int .i64 0),(PV.int .i64 0),(PV.int .i64 0)]),(PV.int .i64 13)])) else (z20 x3 x5 x6 x7 x8 x9 xC xD xE xF xG xH xI xJ xK xL xM xN))) :=
 (za EE _ _).trans (by kernel_rfl)
theorem zbi (x0:List PV) (x1 x2 x3 x4 x5 x6 x7 x8 x9:Int):z10 x0 x1 x2 x3 x4 x5 x6 x7 x8 x9 =
  (bif (!(eqB x1 13)) then (some (PV.tuple [(PV.agg [(PV.int .i64 x6),(PV.int .i64 x7),(PV.int .i64 x8),(PV.int .i64 x9)]),(PV.int .i64 x1)])) else (zgk x0 x2 x3 x4 x5)) :=
 (za EE _ _).trans (by kernel_rfl)
theorem zf3 (x0:List PV) (x1:List UInt8) (x2:List UInt8) (x3:List UInt8) (x4 x5 x6 x7:Int) (x8:Bool) (x9 xA xB xC xD xE xF xG xH:Int) (xI:List PV):z96 x0 x1 x2 x3 x4 x5 x6 x7 x8 x9 xA xB xC xD xE xF xG xH xI =
  ((catS x1 x2).bind fun v1=>(z4a v1 true x4 x5 x6 x7 x8 x9 xA xB xC xD xE xF xG xH x0 x1 x3 xI)) :=
 (za EE _ _).trans (by kernel_rfl)
theorem zdw (x0:Bool) (x1 x2 x3 x4:Int) (x5:Bool) (x6:List PV) (x7 x8 x9 xA xB xC xD xE xF:Int) (xG:List PV):z2y x0 x1 x2 x3 x4 x5 x6 x7 x8 x9 xA xB xC xD xE xF xG =
  (bif (!(ltB 0 (((List.length x6):Nat):Int))) then (some (PV.tuple [(PV.agg [(PV.int .i64 0),(PV.int .i64 0),(PV.int .i64 0),(PV.int .i64 0)]),(PV.int .i64 13)])) else (z8f x0 x1 x2 x3 x4 x5 x6 x7 x8 x9 xA xB xC xD xE xF xG)) :=
 (za EE _ _).trans (by kernel_rfl)
theorem zel (x0:List UInt8) (x1:List UInt8) (x2:Bool) (x3 x4 x5 x6 x7 x8 x9 xA:Int) (xB:Bool) (xC:List UInt8) (xD:Nat) (xE xF xG xH xI xJ xK xL xM:Int) (xN:List UInt8) (xO:Bool) (xP:List PV):z32 x0 x1 x2 x3 x4 x5 x6 x7 x8 x9 xA xB xC xD xE xF xG xH xI xJ xK xL xM xN xO xP =
  ((z5b x1 (encR x6)).bind fun v1=>(z8u x0 x2 x3 x4 x5 x6 (PV.toS (PV.tnth v1 1)) (PV.toB (PV.tnth v1 2)) x7 x8 x9 xA xB xC xD xE xF xG xH xI xJ xK xL xM xN xO xP)) :=
 (za EE _ _).trans (by kernel_rfl)
theorem zdy (x0 x1 x2 x3 x4:Int) (x5:Bool) (x6 x7 x8 x9 xA xB xC xD xE:Int) (xF:List UInt8) (xG:Bool) (xH:List PV):z20 x0 x1 x2 x3 x4 x5 x6 x7 x8 x9 xA xB xC xD xE xF xG xH =
  (z9b xF xG x0 x1 x2 x3 x4 x5 x6 x7 x8 x9 xA xB xC xD xE xH) :=
 (za EE _ _).trans (by kernel_rfl)
theorem zcn (x0:List UInt8) (x1:Bool) (x2 x3 x4 x5:Int) (x6:Bool) (x7 x8 x9 xA xB xC xD xE xF:Int) (xG:List PV) (xH:List UInt8) (xI:List UInt8) (xJ:List PV):z4a x0 x1 x2 x3 x4 x5 x6 x7 x8 x9 xA xB xC xD xE xF xG xH xI xJ =
  ((zr x0 [45]).bind fun v1=>(z7r x0 x1 (PV.toS (PV.tnth v1 0)) (PV.toB (PV.tnth v1 1)) x2 x3 x4 x5 x6 x7 x8 x9 xA xB xC xD xE xF xG xH xI xJ)) :=
 (za EE _ _).trans (by kernel_rfl)
theorem zdv (x0:Bool) (x1 x2 x3 x4:Int) (x5:Bool) (x6:List PV) (x7 x8 x9 xA xB xC xD xE xF:Int) (xG:List PV):z8f x0 x1 x2 x3 x4 x5 x6 x7 x8 x9 xA xB xC xD xE xF xG =
  (z19 x0 x1 x2 x3 x4 x5 x6 [(PV.bool false),(PV.bool false),(PV.bool false),(PV.bool false),(PV.bool false),(PV.bool false),(PV.bool false),(PV.bool false)] 8 x7 x8 x9 xA xB xC xD xE xF xG) :=
 (za EE _ _).trans (by kernel_rfl)
theorem zek (x0:List UInt8) (x1:Bool) (x2 x3 x4 x5:Int) (x6:List UInt8) (x7:Bool) (x8 x9 xA xB:Int) (xC:Bool) (xD:List UInt8) (xE:Nat) (xF xG xH xI xJ xK xL xM xN:Int) (xO:List UInt8) (xP:Bool) (xQ:List PV):z8u x0 x1 x2 x3 x4 x5 x6 x7 x8 x9 xA xB xC xD xE xF xG xH xI xJ xK xL xM xN xO xP xQ =
  (bif (!x7) then (some (PV.tuple [(PV.agg [(PV.int .i64 0),(PV.int .i64 0),(PV.int .i64 0),(PV.int .i64 0)]),(PV.int .i64 13)])) else (z8t x0 x1 x2 x3 x4 x5 x6 x8 x9 xA xB xC xD xE xF xG xH xI xJ xK xL xM xN xO xP xQ)) :=
 (za EE _ _).trans (by kernel_rfl)
theorem zf9 (x0:List UInt8) (x1:Bool) (x2 x3 x4 x5 x6:Int) (x7:Bool) (x8 x9 xA xB xC xD xE xF xG:Int) (xH:List PV):z9b x0 x1 x2 x3 x4 x5 x6 x7 x8 x9 xA xB xC xD xE xF xG xH =
  (bif x1 then (z87 x0 [104,109,115] true x3 x4 x5 x6 x7 x8 x9 xA xB xC xD xE xF xG x0 x1 x2 xH) else (z39 x2 x8 x9 xA xB xC x3 x4 x5 x6 x7 xD xE xF xG xH)) :=
 (za EE _ _).trans (by kernel_rfl)
theorem zcm (x0:List UInt8) (x1:Bool) (x2:List UInt8) (x3:Bool) (x4 x5 x6 x7:Int) (x8:Bool) (x9 xA xB xC xD xE xF xG xH:Int) (xI:List PV) (xJ:List UInt8) (xK:List UInt8) (xL:List PV):z7r x0 x1 x2 x3 x4 x5 x6 x7 x8 x9 xA xB xC xD xE xF xG xH xI xJ xK xL =
  (bif (!x3) then (bif x1 then (z7q x0 x3 x4 x5 x6 x7 x8 x9 xA xB xC xD xE xF xG xH xI xJ xK xL) else (z1w x2 x3 x4 x5 x6 x7 x8 x9 xA xB xC xD xE xF xG xH xI xJ xK xL)) else (z1w x2 x3 x4 x5 x6 x7 x8 x9 xA xB xC xD xE xF xG xH xI xJ xK xL)) :=
 (za EE _ _).trans (by kernel_rfl)
theorem z72 (x0:Bool) (x1 x2 x3 x4:Int) (x5:Bool) (x6:List PV) (x7:List PV) (x8:Nat) (x9 xA xB xC xD xE xF xG xH:Int) (xI:List PV):z19 x0 x1 x2 x3 x4 x5 x6 x7 x8 x9 xA xB xC xD xE xF xG xH xI =
  (bif (eqB (((List.length x6):Nat):Int) 0) then (z2x x0 [] false x1 x2 x3 x4 x5 x6 x7 x8 x9 xA xB xC xD xE xF xG xH xI) else ((rdI tiStr x6 0).bind fun v1=>((dropS x6 1).bind fun v2=>(z2x x0 (PV.toS v1) true x1 x2 x3 x4 x5 v2 x7 x8 x9 xA xB xC xD xE xF xG xH xI)))) :=
 (za EE _ _).trans (by kernel_rfl)
theorem zej (x0:List UInt8) (x1:Bool) (x2 x3 x4 x5:Int) (x6:List UInt8) (x7 x8 x9 xA:Int) (xB:Bool) (xC:List UInt8) (xD:Nat) (xE xF xG xH xI xJ xK xL xM:Int) (xN:List UInt8) (xO:Bool) (xP:List PV):z8t x0 x1 x2 x3 x4 x5 x6 x7 x8 x9 xA xB xC xD xE xF xG xH xI xJ xK xL xM xN xO xP =
  ((subS x0 x3 x4).bind fun v1=>(z4w v1 x5 x1 x7 x8 x9 xA xB xC xD xE xF xG xH xI xJ xK xL xM x0 x1 x2 x4 x5 x6 xN xO xP)) :=
 (za EE _ _).trans (by kernel_rfl)
theorem zdc (x0:List UInt8) (x1:List UInt8) (x2:Bool) (x3 x4 x5 x6:Int) (x7:Bool) (x8 x9 xA xB xC xD xE xF xG:Int) (xH:List UInt8) (xI:Bool) (xJ:Int) (xK:List PV):z87 x0 x1 x2 x3 x4 x5 x6 x7 x8 x9 xA xB xC xD xE xF xG xH xI xJ xK =
  (z12 x0 x1 x2 0 0 x3 x4 x5 x6 x7 x0 0 x8 x9 xA xB xC xD xE xF xG xH xI xJ xK) :=
 (za EE _ _).trans (by kernel_rfl)
theorem zf6 (x0 x1 x2 x3 x4 x5 x6 x7 x8 x9:Int) (xA:Bool) (xB xC xD xE:Int) (xF:List PV):z39 x0 x1 x2 x3 x4 x5 x6 x7 x8 x9 xA xB xC xD xE xF =
  (bif (!(ltB 0 x0)) then (some (PV.tuple [(PV.agg [(PV.int .i64 0),(PV.int .i64 0),(PV.int .i64 0),(PV.int .i64 0)]),(PV.int .i64 13)])) else (z7i x1 x2 x3 x4 x5 x6 x7 x8 x9 xA xB xC xD xE xF)) :=
 (za EE _ _).trans (by kernel_rfl)
theorem zcl (x0:List UInt8) (x1:Bool) (x2 x3 x4 x5:Int) (x6:Bool) (x7 x8 x9 xA xB xC xD xE xF:Int) (xG:List PV) (xH:List UInt8) (xI:List UInt8) (xJ:List PV):z7q x0 x1 x2 x3 x4 x5 x6 x7 x8 x9 xA xB xC xD xE xF xG xH xI xJ =
  ((z1f x0 [43]).bind fun v1=>(z1w (PV.toS v1) x1 x2 x3 x4 x5 x6 x7 x8 x9 xA xB xC xD xE xF xG xH xI xJ)) :=
 (za EE _ _).trans (by kernel_rfl)
theorem zck (x0:List UInt8) (x1:Bool) (x2 x3 x4 x5:Int) (x6:Bool) (x7 x8 x9 xA xB xC xD xE xF:Int) (xG:List PV) (xH:List UInt8) (xI:List UInt8) (xJ:List PV):z1w x0 x1 x2 x3 x4 x5 x6 x7 x8 x9 xA xB xC xD xE xF xG xH xI xJ =
  ((zu x0).bind fun v1=>(z7p x1 (PV.toI (PV.tnth v1 0)) (PV.toI (PV.tnth v1 1)) x2 x3 x4 x5 x6 x7 x8 x9 xA xB xC xD xE xF xG xH xI xJ)) :=
 (za EE _ _).trans (by kernel_rfl)
theorem z71 (x0:Bool) (x1:List UInt8) (x2:Bool) (x3 x4 x5 x6:Int) (x7:Bool) (x8:List PV) (x9:List PV) (xA:Nat) (xB xC xD xE xF xG xH xI xJ:Int) (xK:List PV):z2x x0 x1 x2 x3 x4 x5 x6 x7 x8 x9 xA xB xC xD xE xF xG xH xI xJ xK =
  (bif (!x2) then (bif x0 then ((z1bf x3 x4 x5 x6).bind fun v1=>(z7s (PV.toI (PV.tnth v1 1)) x3 x4 x5 x6 x7 (PV.toI (PV.nth (PV.tnth v1 0) 0)) (PV.toI (PV.nth (PV.tnth v1 0) 1)) (PV.toI (PV.nth (PV.tnth v1 0) 2)) (PV.toI (PV.nth (PV.tnth v1 0) 3)) xB xC xD xE xF xG xH xI xJ xK)) else (z46 xB xC xD xE xF x3 x4 x5 x6 x7 xG xH xI xJ xK)) else (z5d x1 x3 x4 x5 x6 x7 x8 x9 xA xB xC xD xE xF xG xH xI xJ x0 x1 xK)) :=
 (za EE _ _).trans (by kernel_rfl)
theorem zd7 (x0:List UInt8) (x1:Int) (x2:Bool) (x3 x4 x5 x6:Int) (x7:Bool) (x8:List UInt8) (x9:Nat) (xA xB xC xD xE xF xG xH xI:Int) (xJ:List UInt8) (xK:Bool) (xL xM xN:Int) (xO:List UInt8) (xP:List UInt8) (xQ:Bool) (xR:List PV):z4w x0 x1 x2 x3 x4 x5 x6 x7 x8 x9 xA xB xC xD xE xF xG xH xI xJ xK xL xM xN xO xP xQ xR =
  (bif (eqB x1 115) then ((z5b x0 [46]).bind fun v1=>(z4v (PV.toS (PV.tnth v1 0)) (PV.toS (PV.tnth v1 1)) (PV.toB (PV.tnth v1 2)) x3 x4 x5 x6 x7 x8 x9 xA xB xC xD xE xF xG xH xI xJ xK xL xM xN xO xP xQ xR)) else (bif (eqB x1 121) then ((zr x0 [45]).bind fun v2=>(bif (!(PV.toB (PV.tnth v2 1))) then ((zu (PV.toS (PV.tnth v2 0))).bind fun v3=>(bif (!(!(eqB (PV.toI (PV.tnth v3 1)) 13))) then (some (PV.tuple [(PV.agg [(PV.int .i64 0),(PV.int .i64 0),(PV.int .i64 0),(PV.int .i64 0)]),(PV.int .i64 13)])) else (bif x7 then (bif (PV.toB (PV.tnth v2 1)) then ((zd (IntKind.wrap .i64 (0-(PV.toI (PV.tnth v3 0)))) 12).bind fun v4=>(bif (eqB (PV.toI (PV.tnth v4 1)) 0) then ((ze x4 (PV.toI (PV.tnth v4 0))).bind fun v5=>(bif (!(eqB (PV.toI (PV.tnth v5 1)) 0)) then (z7 xJ xK xL xM xN xO x3 x4 x5 x6 true x8 x9 xA xB xC xD xE xF xG xH xI xP xQ xR) else (z7 xJ xK xL xM xN xO x3 (PV.toI (PV.tnth v5 0)) x5 x6 true x8 x9 xA xB xC xD xE xF xG xH xI xP xQ xR))) else (bif (!(eqB (PV.toI (PV.tnth v4 1)) 0)) then (z7 xJ xK xL xM xN xO x3 x4 x5 x6 true x8 x9 xA xB xC xD xE xF xG xH xI xP xQ xR) else (z7 xJ xK xL xM xN xO x3 (PV.toI (PV.tnth v4 0)) x5 x6 true x8 x9 xA xB xC xD xE xF xG xH xI xP xQ xR)))) else ((zd (PV.toI (PV.tnth v3 0)) 12).bind fun v6=>(bif (eqB (PV.toI (PV.tnth v6 1)) 0) then ((ze x4 (PV.toI (PV.tnth v6 0))).bind fun v7=>(bif (!(eqB (PV.toI (PV.tnth v7 1)) 0)) then (z7 xJ xK xL xM xN xO x3 x4 x5 x6 true x8 x9 xA xB xC xD xE xF xG xH xI xP xQ xR) else (z7 xJ xK xL xM xN xO x3 (PV.toI (PV.tnth v7 0)) x5 x6 true x8 x9 xA xB xC xD xE xF xG xH xI xP xQ xR))) else (bif (!(eqB (PV.toI (PV.tnth v6 1)) 0)) then (z7 xJ xK xL xM xN xO x3 x4 x5 x6 true x8 x9 xA xB xC xD xE xF xG xH xI xP xQ xR) else (z7 xJ xK xL xM xN xO x3 (PV.toI (PV.tnth v6 0)) x5 x6 true x8 x9 xA xB xC xD xE xF xG xH xI xP xQ xR))))) else (bif (PV.toB (PV.tnth v2 1)) then ((zd (IntKind.wrap .i64 (0-(PV.toI (PV.tnth v3 0)))) 12).bind fun v8=>(bif (eqB (PV.toI (PV.tnth v8 1)) 0) then ((ze x4 (PV.toI (PV.tnth v8 0))).bind fun v9=>(bif (!(eqB (PV.toI (PV.tnth v9 1)) 0)) then (z7 xJ xK xL xM xN xO x3 x4 x5 x6 true x8 x9 xA xB xC xD xE xF xG xH xI xP xQ xR) else (z7 xJ xK xL xM xN xO x3 (PV.toI (PV.tnth v9 0)) x5 x6 (!(eqB (PV.toI (PV.tnth v3 1)) 0)) x8 x9 xA xB xC xD xE xF xG xH xI xP xQ xR))) else (bif (!(eqB (PV.toI (PV.tnth v8 1)) 0)) then (z7 xJ xK xL xM xN xO x3 x4 x5 x6 true x8 x9 xA xB xC xD xE xF xG xH xI xP xQ xR) else (z7 xJ xK xL xM xN xO x3 (PV.toI (PV.tnth v8 0)) x5 x6 (!(eqB (PV.toI (PV.tnth v3 1)) 0)) x8 x9 xA xB xC xD xE xF xG xH xI xP xQ xR)))) else ((zd (PV.toI (PV.tnth v3 0)) 12).bind fun v10=>(bif (eqB (PV.toI (PV.tnth v10 1)) 0) then ((ze x4 (PV.toI (PV.tnth v10 0))).bind fun v11=>(bif (!(eqB (PV.toI (PV.tnth v11 1)) 0)) then (z7 xJ xK xL xM xN xO x3 x4 x5 x6 true x8 x9 xA xB xC xD xE xF xG xH xI xP xQ xR) else (z7 xJ xK xL xM xN xO x3 (PV.toI (PV.tnth v11 0)) x5 x6 (!(eqB (PV.toI (PV.tnth v3 1)) 0)) x8 x9 xA xB xC xD xE xF xG xH xI xP xQ xR))) else (bif (!(eqB (PV.toI (PV.tnth v10 1)) 0)) then (z7 xJ xK xL xM xN xO x3 x4 x5 x6 true x8 x9 xA xB xC xD xE xF xG xH xI xP xQ xR) else (z7 xJ xK xL xM xN xO x3 (PV.toI (PV.tnth v10 0)) x5 x6 (!(eqB (PV.toI (PV.tnth v3 1)) 0)) x8 x9 xA xB xC xD xE xF xG xH xI xP xQ xR)))))))) else ((zu (PV.toS (PV.tnth v2 0))).bind fun v12=>(bif (!(!(eqB (PV.toI (PV.tnth v12 1)) 13))) then (some (PV.tuple [(PV.agg [(PV.int .i64 0),(PV.int .i64 0),(PV.int .i64 0),(PV.int .i64 0)]),(PV.int .i64 13)])) else (bif x7 then (bif (PV.toB (PV.tnth v2 1)) then ((zd (IntKind.wrap .i64 (0-(PV.toI (PV.tnth v12 0)))) 12).bind fun v13=>(bif (eqB (PV.toI (PV.tnth v13 1)) 0) then ((ze x4 (PV.toI (PV.tnth v13 0))).bind fun v14=>(bif (!(eqB (PV.toI (PV.tnth v14 1)) 0)) then (z7 xJ xK xL xM xN xO x3 x4 x5 x6 true x8 x9 xA xB xC xD xE xF xG xH xI xP xQ xR) else (z7 xJ xK xL xM xN xO x3 (PV.toI (PV.tnth v14 0)) x5 x6 true x8 x9 xA xB xC xD xE xF xG xH xI xP xQ xR))) else (bif (!(eqB (PV.toI (PV.tnth v13 1)) 0)) then (z7 xJ xK xL xM xN xO x3 x4 x5 x6 true x8 x9 xA xB xC xD xE xF xG xH xI xP xQ xR) else (z7 xJ xK xL xM xN xO x3 (PV.toI (PV.tnth v13 0)) x5 x6 true x8 x9 xA xB xC xD xE xF xG xH xI xP xQ xR)))) else ((zd (PV.toI (PV.tnth v12 0)) 12).bind fun v15=>(bif (eqB (PV.toI (PV.tnth v15 1)) 0) then ((ze x4 (PV.toI (PV.tnth v15 0))).bind fun v16=>(bif (!(eqB (PV.toI (PV.tnth v16 1)) 0)) then (z7 xJ xK xL xM xN xO x3 x4 x5 x6 true x8 x9 xA xB xC xD xE xF xG xH xI xP xQ xR) else (z7 xJ xK xL xM xN xO x3 (PV.toI (PV.tnth v16 0)) x5 x6 true x8 x9 xA xB xC xD xE xF xG xH xI xP xQ xR))) else (bif (!(eqB (PV.toI (PV.tnth v15 1)) 0)) then (z7 xJ xK xL xM xN xO x3 x4 x5 x6 true x8 x9 xA xB xC xD xE xF xG xH xI xP xQ xR) else (z7 xJ xK xL xM xN xO x3 (PV.toI (PV.tnth v15 0)) x5 x6 true x8 x9 xA xB xC xD xE xF xG xH xI xP xQ xR))))) else (bif (PV.toB (PV.tnth v2 1)) then ((zd (IntKind.wrap .i64 (0-(PV.toI (PV.tnth v12 0)))) 12).bind fun v17=>(bif (eqB (PV.toI (PV.tnth v17 1)) 0) then ((ze x4 (PV.toI (PV.tnth v17 0))).bind fun v18=>(bif (!(eqB (PV.toI (PV.tnth v18 1)) 0)) then (z7 xJ xK xL xM xN xO x3 x4 x5 x6 true x8 x9 xA xB xC xD xE xF xG xH xI xP xQ xR) else (z7 xJ xK xL xM xN xO x3 (PV.toI (PV.tnth v18 0)) x5 x6 (!(eqB (PV.toI (PV.tnth v12 1)) 0)) x8 x9 xA xB xC xD xE xF xG xH xI xP xQ xR))) else (bif (!(eqB (PV.toI (PV.tnth v17 1)) 0)) then (z7 xJ xK xL xM xN xO x3 x4 x5 x6 true x8 x9 xA xB xC xD xE xF xG xH xI xP xQ xR) else (z7 xJ xK xL xM xN xO x3 (PV.toI (PV.tnth v17 0)) x5 x6 (!(eqB (PV.toI (PV.tnth v12 1)) 0)) x8 x9 xA xB xC xD xE xF xG xH xI xP xQ xR)))) else ((zd (PV.toI (PV.tnth v12 0)) 12).bind fun v19=>(bif (eqB (PV.toI (PV.tnth v19 1)) 0) then ((ze x4 (PV.toI (PV.tnth v19 0))).bind fun v20=>(bif (!(eqB (PV.toI (PV.tnth v20 1)) 0)) then (z7 xJ xK xL xM xN xO x3 x4 x5 x6 true x8 x9 xA xB xC xD xE xF xG xH xI xP xQ xR) else (z7 xJ xK xL xM xN xO x3 (PV.toI (PV.tnth v20 0)) x5 x6 (!(eqB (PV.toI (PV.tnth v12 1)) 0)) x8 x9 xA xB xC xD xE xF xG xH xI xP xQ xR))) else (bif (!(eqB (PV.toI (PV.tnth v19 1)) 0)) then (z7 xJ xK xL xM xN xO x3 x4 x5 x6 true x8 x9 xA xB xC xD xE xF xG xH xI xP xQ xR) else (z7 xJ xK xL xM xN xO x3 (PV.toI (PV.tnth v19 0)) x5 x6 (!(eqB (PV.toI (PV.tnth v12 1)) 0)) x8 x9 xA xB xC xD xE xF xG xH xI xP xQ xR)))))))))) else (bif (eqB x1 109) then (bif (!x2) then (z45 x0 x3 x4 x5 x6 x7 x8 x9 xA xB xC xD xE xF xG xH xI xJ xK xL xM xN xO xP xQ xR) else (z2g x0 x1 x3 x4 x5 x6 x7 x8 x9 xA xB xC xD xE xF xG xH xI xJ xK xL xM xN xO xP xQ xR)) else (z2g x0 x1 x3 x4 x5 x6 x7 x8 x9 xA xB xC xD xE xF xG xH xI xJ xK xL xM xN xO xP xQ xR)))) :=
 (za EE _ _).trans (by kernel_rfl)
theorem z68 (x0:List UInt8) (x1:List UInt8) (x2:Bool) (x3 x4 x5 x6 x7 x8:Int) (x9:Bool) (xA:List UInt8) (xB:Nat) (xC xD xE xF xG xH xI xJ xK:Int) (xL:List UInt8) (xM:Bool) (xN:Int) (xO:List PV):z12 x0 x1 x2 x3 x4 x5 x6 x7 x8 x9 xA xB xC xD xE xF xG xH xI xJ xK xL xM xN xO =
  (bif (ltN xB (List.length xA)) then (bif (eqB ((((decR xA xB).1):Nat):Int) 45) then (z12 x0 x1 x2 x3 x4 x5 x6 x7 x8 x9 xA (xB+((decR xA xB).2)) xC xD xE xF xG xH xI xJ xK xL xM xN xO) else (bif (eqB ((((decR xA xB).1):Nat):Int) 46) then (z12 x0 x1 x2 x3 x4 x5 x6 x7 x8 x9 xA (xB+((decR xA xB).2)) xC xD xE xF xG xH xI xJ xK xL xM xN xO) else (bif (leB 48 ((((decR xA xB).1):Nat):Int)) then (bif (leB ((((decR xA xB).1):Nat):Int) 57) then (z12 x0 x1 x2 x3 x4 x5 x6 x7 x8 x9 xA (xB+((decR xA xB).2)) xC xD xE xF xG xH xI xJ xK xL xM xN xO) else (z2s x0 x1 x2 x3 x4 ((xB:Nat):Int) ((((decR xA xB).1):Nat):Int) x5 x6 x7 x8 x9 xA (xB+((decR xA xB).2)) xC xD xE xF xG xH xI xJ xK xL xM xN xO)) else (z2s x0 x1 x2 x3 x4 ((xB:Nat):Int) ((((decR xA xB).1):Nat):Int) x5 x6 x7 x8 x9 xA (xB+((decR xA xB).2)) xC xD xE xF xG xH xI xJ xK xL xM xN xO)))) else (bif (!(eqB x4 (((List.length x0):Nat):Int))) then (some (PV.tuple [(PV.agg [(PV.int .i64 0),(PV.int .i64 0),(PV.int .i64 0),(PV.int .i64 0)]),(PV.int .i64 13)])) else (z1t x3 x5 x6 x7 x8 x9 xC xD xE xF xG xH xI xJ xK xL xM xN xO))) :=
 (za EE _ _).trans (by kernel_rfl)
theorem zh3 (x0 x1 x2 x3 x4 x5 x6 x7 x8:Int) (x9:Bool) (xA xB xC xD:Int) (xE:List PV):z7i x0 x1 x2 x3 x4 x5 x6 x7 x8 x9 xA xB xC xD xE =
  (bif x9 then (some (PV.tuple [(PV.agg [(PV.int .i64 0),(PV.int .i64 0),(PV.int .i64 0),(PV.int .i64 0)]),(PV.int .i64 10)])) else ((zqb x6 x7 x8).bind fun v1=>(some (PV.tuple [(PV.agg [(PV.int .i64 (PV.toI (PV.nth (PV.tnth v1 0) 0))),(PV.int .i64 (PV.toI (PV.nth (PV.tnth v1 0) 1))),(PV.int .i64 (PV.toI (PV.nth (PV.tnth v1 0) 2))),(PV.int .i64 (PV.toI (PV.nth (PV.tnth v1 0) 3)))]),(PV.int .i64 (PV.toI (PV.tnth v1 1)))])))) :=
 (za EE _ _).trans (by kernel_rfl)
theorem zcj (x0:Bool) (x1 x2 x3 x4 x5 x6:Int) (x7:Bool) (x8 x9 xA xB xC xD xE xF xG:Int) (xH:List PV) (xI:List UInt8) (xJ:List UInt8) (xK:List PV):z7p x0 x1 x2 x3 x4 x5 x6 x7 x8 x9 xA xB xC xD xE xF xG xH xI xJ xK =
  (bif (!(!(eqB x2 13))) then (z10 xK 13 xD xE xF xG 0 0 0 0) else (z7o x0 x1 x2 x3 x4 x5 x6 x7 x8 x9 xA xB xC xD xE xF xG xH xI xJ xK)) :=
 (za EE _ _).trans (by kernel_rfl)
theorem z5w (x0 x1 x2 x3 x4:Int) (x5:Bool) (x6 x7 x8 x9 xA xB xC xD xE xF xG xH xI:Int) (xJ:List PV):z7s x0 x1 x2 x3 x4 x5 x6 x7 x8 x9 xA xB xC xD xE xF xG xH xI xJ =
  (bif x5 then (z4b x1 x2 x3 x4 true x6 x7 x8 x9 xA xB xC xD xE xF xG xH xI xJ) else (z4b x1 x2 x3 x4 (!(eqB x0 0)) x6 x7 x8 x9 xA xB xC xD xE xF xG xH xI xJ)) :=
 (za EE _ _).trans (by kernel_rfl)
theorem zg6 (x0 x1 x2 x3 x4 x5 x6 x7 x8:Int) (x9:Bool) (xA xB xC xD:Int) (xE:List PV):z46 x0 x1 x2 x3 x4 x5 x6 x7 x8 x9 xA xB xC xD xE =
  (bif x9 then (some (PV.tuple [(PV.agg [(PV.int .i64 0),(PV.int .i64 0),(PV.int .i64 0),(PV.int .i64 0)]),(PV.int .i64 10)])) else ((zqb x6 x7 x8).bind fun v1=>(some (PV.tuple [(PV.agg [(PV.int .i64 (PV.toI (PV.nth (PV.tnth v1 0) 0))),(PV.int .i64 (PV.toI (PV.nth (PV.tnth v1 0) 1))),(PV.int .i64 (PV.toI (PV.nth (PV.tnth v1 0) 2))),(PV.int .i64 (PV.toI (PV.nth (PV.tnth v1 0) 3)))]),(PV.int .i64 (PV.toI (PV.tnth v1 1)))])))) :=
 (za EE _ _).trans (by kernel_rfl)
theorem zeg (x0:List UInt8) (x1 x2 x3 x4:Int) (x5:Bool) (x6:List PV) (x7:List PV) (x8:Nat) (x9 xA xB xC xD xE xF xG xH:Int) (xI:Bool) (xJ:List UInt8) (xK:List PV):z5d x0 x1 x2 x3 x4 x5 x6 x7 x8 x9 xA xB xC xD xE xF xG xH xI xJ xK =
  ((zgh x0 [58]).bind fun v1=>(z8r x0 (PV.toL v1) x1 x2 x3 x4 x5 x6 x7 x8 x9 xA xB xC xD xE xF xG xH xI xJ xK)) :=
 (za EE _ _).trans (by kernel_rfl)
theorem zd6 (x0:List UInt8) (x1:List UInt8) (x2:Bool) (x3 x4 x5 x6:Int) (x7:Bool) (x8:List UInt8) (x9:Nat) (xA xB xC xD xE xF xG xH xI:Int) (xJ:List UInt8) (xK:Bool) (xL xM xN:Int) (xO:List UInt8) (xP:List UInt8) (xQ:Bool) (xR:List PV):z4v x0 x1 x2 x3 x4 x5 x6 x7 x8 x9 xA xB xC xD xE xF xG xH xI xJ xK xL xM xN xO xP xQ xR =
  ((zr x0 [45]).bind fun v1=>(bif (!(PV.toB (PV.tnth v1 1))) then ((zu (PV.toS (PV.tnth v1 0))).bind fun v2=>(bif (!(!(eqB (PV.toI (PV.tnth v2 1)) 13))) then (some (PV.tuple [(PV.agg [(PV.int .i64 0),(PV.int .i64 0),(PV.int .i64 0),(PV.int .i64 0)]),(PV.int .i64 13)])) else (bif x7 then (bif (PV.toB (PV.tnth v1 1)) then ((zd (IntKind.wrap .i64 (0-(PV.toI (PV.tnth v2 0)))) 1000000).bind fun v3=>(bif (eqB (PV.toI (PV.tnth v3 1)) 0) then ((ze x6 (PV.toI (PV.tnth v3 0))).bind fun v4=>(bif (!(eqB (PV.toI (PV.tnth v4 1)) 0)) then (z9 x0 x1 x2 x3 x4 x5 x6 true x8 x9 xA xB xC xD xE xF xG xH xI xJ xK xL xM xN xO xP xQ xR) else (z9 x0 x1 x2 x3 x4 x5 (PV.toI (PV.tnth v4 0)) true x8 x9 xA xB xC xD xE xF xG xH xI xJ xK xL xM xN xO xP xQ xR))) else (bif (!(eqB (PV.toI (PV.tnth v3 1)) 0)) then (z9 x0 x1 x2 x3 x4 x5 x6 true x8 x9 xA xB xC xD xE xF xG xH xI xJ xK xL xM xN xO xP xQ xR) else (z9 x0 x1 x2 x3 x4 x5 (PV.toI (PV.tnth v3 0)) true x8 x9 xA xB xC xD xE xF xG xH xI xJ xK xL xM xN xO xP xQ xR)))) else ((zd (PV.toI (PV.tnth v2 0)) 1000000).bind fun v5=>(bif (eqB (PV.toI (PV.tnth v5 1)) 0) then ((ze x6 (PV.toI (PV.tnth v5 0))).bind fun v6=>(bif (!(eqB (PV.toI (PV.tnth v6 1)) 0)) then (z9 x0 x1 x2 x3 x4 x5 x6 true x8 x9 xA xB xC xD xE xF xG xH xI xJ xK xL xM xN xO xP xQ xR) else (z9 x0 x1 x2 x3 x4 x5 (PV.toI (PV.tnth v6 0)) true x8 x9 xA xB xC xD xE xF xG xH xI xJ xK xL xM xN xO xP xQ xR))) else (bif (!(eqB (PV.toI (PV.tnth v5 1)) 0)) then (z9 x0 x1 x2 x3 x4 x5 x6 true x8 x9 xA xB xC xD xE xF xG xH xI xJ xK xL xM xN xO xP xQ xR) else (z9 x0 x1 x2 x3 x4 x5 (PV.toI (PV.tnth v5 0)) true x8 x9 xA xB xC xD xE xF xG xH xI xJ xK xL xM xN xO xP xQ xR))))) else (bif (PV.toB (PV.tnth v1 1)) then ((zd (IntKind.wrap .i64 (0-(PV.toI (PV.tnth v2 0)))) 1000000).bind fun v7=>(bif (eqB (PV.toI (PV.tnth v7 1)) 0) then ((ze x6 (PV.toI (PV.tnth v7 0))).bind fun v8=>(bif (!(eqB (PV.toI (PV.tnth v8 1)) 0)) then (z9 x0 x1 x2 x3 x4 x5 x6 true x8 x9 xA xB xC xD xE xF xG xH xI xJ xK xL xM xN xO xP xQ xR) else (z9 x0 x1 x2 x3 x4 x5 (PV.toI (PV.tnth v8 0)) (!(eqB (PV.toI (PV.tnth v2 1)) 0)) x8 x9 xA xB xC xD xE xF xG xH xI xJ xK xL xM xN xO xP xQ xR))) else (bif (!(eqB (PV.toI (PV.tnth v7 1)) 0)) then (z9 x0 x1 x2 x3 x4 x5 x6 true x8 x9 xA xB xC xD xE xF xG xH xI xJ xK xL xM xN xO xP xQ xR) else (z9 x0 x1 x2 x3 x4 x5 (PV.toI (PV.tnth v7 0)) (!(eqB (PV.toI (PV.tnth v2 1)) 0)) x8 x9 xA xB xC xD xE xF xG xH xI xJ xK xL xM xN xO xP xQ xR)))) else ((zd (PV.toI (PV.tnth v2 0)) 1000000).bind fun v9=>(bif (eqB (PV.toI (PV.tnth v9 1)) 0) then ((ze x6 (PV.toI (PV.tnth v9 0))).bind fun v10=>(bif (!(eqB (PV.toI (PV.tnth v10 1)) 0)) then (z9 x0 x1 x2 x3 x4 x5 x6 true x8 x9 xA xB xC xD xE xF xG xH xI xJ xK xL xM xN xO xP xQ xR) else (z9 x0 x1 x2 x3 x4 x5 (PV.toI (PV.tnth v10 0)) (!(eqB (PV.toI (PV.tnth v2 1)) 0)) x8 x9 xA xB xC xD xE xF xG xH xI xJ xK xL xM xN xO xP xQ xR))) else (bif (!(eqB (PV.toI (PV.tnth v9 1)) 0)) then (z9 x0 x1 x2 x3 x4 x5 x6 true x8 x9 xA xB xC xD xE xF xG xH xI xJ xK xL xM xN xO xP xQ xR) else (z9 x0 x1 x2 x3 x4 x5 (PV.toI (PV.tnth v9 0)) (!(eqB (PV.toI (PV.tnth v2 1)) 0)) x8 x9 xA xB xC xD xE xF xG xH xI xJ xK xL xM xN xO xP xQ xR)))))))) else ((zu (PV.toS (PV.tnth v1 0))).bind fun v11=>(bif (!(!(eqB (PV.toI (PV.tnth v11 1)) 13))) then (some (PV.tuple [(PV.agg [(PV.int .i64 0),(PV.int .i64 0),(PV.int .i64 0),(PV.int .i64 0)]),(PV.int .i64 13)])) else (bif x7 then (bif (PV.toB (PV.tnth v1 1)) then ((zd (IntKind.wrap .i64 (0-(PV.toI (PV.tnth v11 0)))) 1000000).bind fun v12=>(bif (eqB (PV.toI (PV.tnth v12 1)) 0) then ((ze x6 (PV.toI (PV.tnth v12 0))).bind fun v13=>(bif (!(eqB (PV.toI (PV.tnth v13 1)) 0)) then (z9 x0 x1 x2 x3 x4 x5 x6 true x8 x9 xA xB xC xD xE xF xG xH xI xJ xK xL xM xN xO xP xQ xR) else (z9 x0 x1 x2 x3 x4 x5 (PV.toI (PV.tnth v13 0)) true x8 x9 xA xB xC xD xE xF xG xH xI xJ xK xL xM xN xO xP xQ xR))) else (bif (!(eqB (PV.toI (PV.tnth v12 1)) 0)) then (z9 x0 x1 x2 x3 x4 x5 x6 true x8 x9 xA xB xC xD xE xF xG xH xI xJ xK xL xM xN xO xP xQ xR) else (z9 x0 x1 x2 x3 x4 x5 (PV.toI (PV.tnth v12 0)) true x8 x9 xA xB xC xD xE xF xG xH xI xJ xK xL xM xN xO xP xQ xR)))) else ((zd (PV.toI (PV.tnth v11 0)) 1000000).bind fun v14=>(bif (eqB (PV.toI (PV.tnth v14 1)) 0) then ((ze x6 (PV.toI (PV.tnth v14 0))).bind fun v15=>(bif (!(eqB (PV.toI (PV.tnth v15 1)) 0)) then (z9 x0 x1 x2 x3 x4 x5 x6 true x8 x9 xA xB xC xD xE xF xG xH xI xJ xK xL xM xN xO xP xQ xR) else (z9 x0 x1 x2 x3 x4 x5 (PV.toI (PV.tnth v15 0)) true x8 x9 xA xB xC xD xE xF xG xH xI xJ xK xL xM xN xO xP xQ xR))) else (bif (!(eqB (PV.toI (PV.tnth v14 1)) 0)) then (z9 x0 x1 x2 x3 x4 x5 x6 true x8 x9 xA xB xC xD xE xF xG xH xI xJ xK xL xM xN xO xP xQ xR) else (z9 x0 x1 x2 x3 x4 x5 (PV.toI (PV.tnth v14 0)) true x8 x9 xA xB xC xD xE xF xG xH xI xJ xK xL xM xN xO xP xQ xR))))) else (bif (PV.toB (PV.tnth v1 1)) then ((zd (IntKind.wrap .i64 (0-(PV.toI (PV.tnth v11 0)))) 1000000).bind fun v16=>(bif (eqB (PV.toI (PV.tnth v16 1)) 0) then ((ze x6 (PV.toI (PV.tnth v16 0))).bind fun v17=>(bif (!(eqB (PV.toI (PV.tnth v17 1)) 0)) then (z9 x0 x1 x2 x3 x4 x5 x6 true x8 x9 xA xB xC xD xE xF xG xH xI xJ xK xL xM xN xO xP xQ xR) else (z9 x0 x1 x2 x3 x4 x5 (PV.toI (PV.tnth v17 0)) (!(eqB (PV.toI (PV.tnth v11 1)) 0)) x8 x9 xA xB xC xD xE xF xG xH xI xJ xK xL xM xN xO xP xQ xR))) else (bif (!(eqB (PV.toI (PV.tnth v16 1)) 0)) then (z9 x0 x1 x2 x3 x4 x5 x6 true x8 x9 xA xB xC xD xE xF xG xH xI xJ xK xL xM xN xO xP xQ xR) else (z9 x0 x1 x2 x3 x4 x5 (PV.toI (PV.tnth v16 0)) (!(eqB (PV.toI (PV.tnth v11 1)) 0)) x8 x9 xA xB xC xD xE xF xG xH xI xJ xK xL xM xN xO xP xQ xR)))) else ((zd (PV.toI (PV.tnth v11 0)) 1000000).bind fun v18=>(bif (eqB (PV.toI (PV.tnth v18 1)) 0) then ((ze x6 (PV.toI (PV.tnth v18 0))).bind fun v19=>(bif (!(eqB (PV.toI (PV.tnth v19 1)) 0)) then (z9 x0 x1 x2 x3 x4 x5 x6 true x8 x9 xA xB xC xD xE xF xG xH xI xJ xK xL xM xN xO xP xQ xR) else (z9 x0 x1 x2 x3 x4 x5 (PV.toI (PV.tnth v19 0)) (!(eqB (PV.toI (PV.tnth v11 1)) 0)) x8 x9 xA xB xC xD xE xF xG xH xI xJ xK xL xM xN xO xP xQ xR))) else (bif (!(eqB (PV.toI (PV.tnth v18 1)) 0)) then (z9 x0 x1 x2 x3 x4 x5 x6 true x8 x9 xA xB xC xD xE xF xG xH xI xJ xK xL xM xN xO xP xQ xR) else (z9 x0 x1 x2 x3 x4 x5 (PV.toI (PV.tnth v18 0)) (!(eqB (PV.toI (PV.tnth v11 1)) 0)) x8 x9 xA xB xC xD xE xF xG xH xI xJ xK xL xM xN xO xP xQ xR)))))))))) :=
 (za EE _ _).trans (by kernel_rfl)
theorem zei (x0:List UInt8) (x1:Bool) (x2 x3 x4:Int) (x5:List UInt8) (x6 x7 x8 x9:Int) (xA:Bool) (xB:List UInt8) (xC:Nat) (xD xE xF xG xH xI xJ xK xL:Int) (xM:List UInt8) (xN:Bool) (xO:List PV):z7 x0 x1 x2 x3 x4 x5 x6 x7 x8 x9 xA xB xC xD xE xF xG xH xI xJ xK xL xM xN xO =
  (z8h x0 x5 x1 x2 (IntKind.wrap .i64 (x3+(((List.length (encR x4)):Nat):Int))) x6 x7 x8 x9 xA xB xC xD xE xF xG xH xI xJ xK xL xM xN xO) :=
 (za EE _ _).trans (by kernel_rfl)
theorem zbx (x0:List UInt8) (x1 x2 x3 x4:Int) (x5:Bool) (x6:List UInt8) (x7:Nat) (x8 x9 xA xB xC xD xE xF xG:Int) (xH:List UInt8) (xI:Bool) (xJ xK xL:Int) (xM:List UInt8) (xN:List UInt8) (xO:Bool) (xP:List PV):z45 x0 x1 x2 x3 x4 x5 x6 x7 x8 x9 xA xB xC xD xE xF xG xH xI xJ xK xL xM xN xO xP =
  ((zr x0 [45]).bind fun v1=>(bif (!(PV.toB (PV.tnth v1 1))) then ((zu (PV.toS (PV.tnth v1 0))).bind fun v2=>(bif (!(!(eqB (PV.toI (PV.tnth v2 1)) 13))) then (some (PV.tuple [(PV.agg [(PV.int .i64 0),(PV.int .i64 0),(PV.int .i64 0),(PV.int .i64 0)]),(PV.int .i64 13)])) else (bif x5 then (bif (PV.toB (PV.tnth v1 1)) then ((zd (IntKind.wrap .i64 (0-(PV.toI (PV.tnth v2 0)))) 1).bind fun v3=>(bif (eqB (PV.toI (PV.tnth v3 1)) 0) then ((ze x2 (PV.toI (PV.tnth v3 0))).bind fun v4=>(bif (!(eqB (PV.toI (PV.tnth v4 1)) 0)) then (z7 xH xI xJ xK xL xM x1 x2 x3 x4 true x6 x7 x8 x9 xA xB xC xD xE xF xG xN xO xP) else (z7 xH xI xJ xK xL xM x1 (PV.toI (PV.tnth v4 0)) x3 x4 true x6 x7 x8 x9 xA xB xC xD xE xF xG xN xO xP))) else (bif (!(eqB (PV.toI (PV.tnth v3 1)) 0)) then (z7 xH xI xJ xK xL xM x1 x2 x3 x4 true x6 x7 x8 x9 xA xB xC xD xE xF xG xN xO xP) else (z7 xH xI xJ xK xL xM x1 (PV.toI (PV.tnth v3 0)) x3 x4 true x6 x7 x8 x9 xA xB xC xD xE xF xG xN xO xP)))) else ((zd (PV.toI (PV.tnth v2 0)) 1).bind fun v5=>(bif (eqB (PV.toI (PV.tnth v5 1)) 0) then ((ze x2 (PV.toI (PV.tnth v5 0))).bind fun v6=>(bif (!(eqB (PV.toI (PV.tnth v6 1)) 0)) then (z7 xH xI xJ xK xL xM x1 x2 x3 x4 true x6 x7 x8 x9 xA xB xC xD xE xF xG xN xO xP) else (z7 xH xI xJ xK xL xM x1 (PV.toI (PV.tnth v6 0)) x3 x4 true x6 x7 x8 x9 xA xB xC xD xE xF xG xN xO xP))) else (bif (!(eqB (PV.toI (PV.tnth v5 1)) 0)) then (z7 xH xI xJ xK xL xM x1 x2 x3 x4 true x6 x7 x8 x9 xA xB xC xD xE xF xG xN xO xP) else (z7 xH xI xJ xK xL xM x1 (PV.toI (PV.tnth v5 0)) x3 x4 true x6 x7 x8 x9 xA xB xC xD xE xF xG xN xO xP))))) else (bif (PV.toB (PV.tnth v1 1)) then ((zd (IntKind.wrap .i64 (0-(PV.toI (PV.tnth v2 0)))) 1).bind fun v7=>(bif (eqB (PV.toI (PV.tnth v7 1)) 0) then ((ze x2 (PV.toI (PV.tnth v7 0))).bind fun v8=>(bif (!(eqB (PV.toI (PV.tnth v8 1)) 0)) then (z7 xH xI xJ xK xL xM x1 x2 x3 x4 true x6 x7 x8 x9 xA xB xC xD xE xF xG xN xO xP) else (z7 xH xI xJ xK xL xM x1 (PV.toI (PV.tnth v8 0)) x3 x4 (!(eqB (PV.toI (PV.tnth v2 1)) 0)) x6 x7 x8 x9 xA xB xC xD xE xF xG xN xO xP))) else (bif (!(eqB (PV.toI (PV.tnth v7 1)) 0)) then (z7 xH xI xJ xK xL xM x1 x2 x3 x4 true x6 x7 x8 x9 xA xB xC xD xE xF xG xN xO xP) else (z7 xH xI xJ xK xL xM x1 (PV.toI (PV.tnth v7 0)) x3 x4 (!(eqB (PV.toI (PV.tnth v2 1)) 0)) x6 x7 x8 x9 xA xB xC xD xE xF xG xN xO xP)))) else ((zd (PV.toI (PV.tnth v2 0)) 1).bind fun v9=>(bif (eqB (PV.toI (PV.tnth v9 1)) 0) then ((ze x2 (PV.toI (PV.tnth v9 0))).bind fun v10=>(bif (!(eqB (PV.toI (PV.tnth v10 1)) 0)) then (z7 xH xI xJ xK xL xM x1 x2 x3 x4 true x6 x7 x8 x9 xA xB xC xD xE xF xG xN xO xP) else (z7 xH xI xJ xK xL xM x1 (PV.toI (PV.tnth v10 0)) x3 x4 (!(eqB (PV.toI (PV.tnth v2 1)) 0)) x6 x7 x8 x9 xA xB xC xD xE xF xG xN xO xP))) else (bif (!(eqB (PV.toI (PV.tnth v9 1)) 0)) then (z7 xH xI xJ xK xL xM x1 x2 x3 x4 true x6 x7 x8 x9 xA xB xC xD xE xF xG xN xO xP) else (z7 xH xI xJ xK xL xM x1 (PV.toI (PV.tnth v9 0)) x3 x4 (!(eqB (PV.toI (PV.tnth v2 1)) 0)) x6 x7 x8 x9 xA xB xC xD xE xF xG xN xO xP)))))))) else ((zu (PV.toS (PV.tnth v1 0))).bind fun v11=>(bif (!(!(eqB (PV.toI (PV.tnth v11 1)) 13))) then (some (PV.tuple [(PV.agg [(PV.int .i64 0),(PV.int .i64 0),(PV.int .i64 0),(PV.int .i64 0)]),(PV.int .i64 13)])) else (bif x5 then (bif (PV.toB (PV.tnth v1 1)) then ((zd (IntKind.wrap .i64 (0-(PV.toI (PV.tnth v11 0)))) 1).bind fun v12=>(bif (eqB (PV.toI (PV.tnth v12 1)) 0) then ((ze x2 (PV.toI (PV.tnth v12 0))).bind fun v13=>(bif (!(eqB (PV.toI (PV.tnth v13 1)) 0)) then (z7 xH xI xJ xK xL xM x1 x2 x3 x4 true x6 x7 x8 x9 xA xB xC xD xE xF xG xN xO xP) else (z7 xH xI xJ xK xL xM x1 (PV.toI (PV.tnth v13 0)) x3 x4 true x6 x7 x8 x9 xA xB xC xD xE xF xG xN xO xP))) else (bif (!(eqB (PV.toI (PV.tnth v12 1)) 0)) then (z7 xH xI xJ xK xL xM x1 x2 x3 x4 true x6 x7 x8 x9 xA xB xC xD xE xF xG xN xO xP) else (z7 xH xI xJ xK xL xM x1 (PV.toI (PV.tnth v12 0)) x3 x4 true x6 x7 x8 x9 xA xB xC xD xE xF xG xN xO xP)))) else ((zd (PV.toI (PV.tnth v11 0)) 1).bind fun v14=>(bif (eqB (PV.toI (PV.tnth v14 1)) 0) then ((ze x2 (PV.toI (PV.tnth v14 0))).bind fun v15=>(bif (!(eqB (PV.toI (PV.tnth v15 1)) 0)) then (z7 xH xI xJ xK xL xM x1 x2 x3 x4 true x6 x7 x8 x9 xA xB xC xD xE xF xG xN xO xP) else (z7 xH xI xJ xK xL xM x1 (PV.toI (PV.tnth v15 0)) x3 x4 true x6 x7 x8 x9 xA xB xC xD xE xF xG xN xO xP))) else (bif (!(eqB (PV.toI (PV.tnth v14 1)) 0)) then (z7 xH xI xJ xK xL xM x1 x2 x3 x4 true x6 x7 x8 x9 xA xB xC xD xE xF xG xN xO xP) else (z7 xH xI xJ xK xL xM x1 (PV.toI (PV.tnth v14 0)) x3 x4 true x6 x7 x8 x9 xA xB xC xD xE xF xG xN xO xP))))) else (bif (PV.toB (PV.tnth v1 1)) then ((zd (IntKind.wrap .i64 (0-(PV.toI (PV.tnth v11 0)))) 1).bind fun v16=>(bif (eqB (PV.toI (PV.tnth v16 1)) 0) then ((ze x2 (PV.toI (PV.tnth v16 0))).bind fun v17=>(bif (!(eqB (PV.toI (PV.tnth v17 1)) 0)) then (z7 xH xI xJ xK xL xM x1 x2 x3 x4 true x6 x7 x8 x9 xA xB xC xD xE xF xG xN xO xP) else (z7 xH xI xJ xK xL xM x1 (PV.toI (PV.tnth v17 0)) x3 x4 (!(eqB (PV.toI (PV.tnth v11 1)) 0)) x6 x7 x8 x9 xA xB xC xD xE xF xG xN xO xP))) else (bif (!(eqB (PV.toI (PV.tnth v16 1)) 0)) then (z7 xH xI xJ xK xL xM x1 x2 x3 x4 true x6 x7 x8 x9 xA xB xC xD xE xF xG xN xO xP) else (z7 xH xI xJ xK xL xM x1 (PV.toI (PV.tnth v16 0)) x3 x4 (!(eqB (PV.toI (PV.tnth v11 1)) 0)) x6 x7 x8 x9 xA xB xC xD xE xF xG xN xO xP)))) else ((zd (PV.toI (PV.tnth v11 0)) 1).bind fun v18=>(bif (eqB (PV.toI (PV.tnth v18 1)) 0) then ((ze x2 (PV.toI (PV.tnth v18 0))).bind fun v19=>(bif (!(eqB (PV.toI (PV.tnth v19 1)) 0)) then (z7 xH xI xJ xK xL xM x1 x2 x3 x4 true x6 x7 x8 x9 xA xB xC xD xE xF xG xN xO xP) else (z7 xH xI xJ xK xL xM x1 (PV.toI (PV.tnth v19 0)) x3 x4 (!(eqB (PV.toI (PV.tnth v11 1)) 0)) x6 x7 x8 x9 xA xB xC xD xE xF xG xN xO xP))) else (bif (!(eqB (PV.toI (PV.tnth v18 1)) 0)) then (z7 xH xI xJ xK xL xM x1 x2 x3 x4 true x6 x7 x8 x9 xA xB xC xD xE xF xG xN xO xP) else (z7 xH xI xJ xK xL xM x1 (PV.toI (PV.tnth v18 0)) x3 x4 (!(eqB (PV.toI (PV.tnth v11 1)) 0)) x6 x7 x8 x9 xA xB xC xD xE xF xG xN xO xP)))))))))) :=
 (za EE _ _).trans (by kernel_rfl)
theorem zbw (x0:List UInt8) (x1 x2 x3 x4 x5:Int) (x6:Bool) (x7:List UInt8) (x8:Nat) (x9 xA xB xC xD xE xF xG xH:Int) (xI:List UInt8) (xJ:Bool) (xK xL xM:Int) (xN:List UInt8) (xO:List UInt8) (xP:Bool) (xQ:List PV):z2g x0 x1 x2 x3 x4 x5 x6 x7 x8 x9 xA xB xC xD xE xF xG xH xI xJ xK xL xM xN xO xP xQ =
  (bif (eqB x1 119) then ((zr x0 [45]).bind fun v1=>(bif (!(PV.toB (PV.tnth v1 1))) then ((zu (PV.toS (PV.tnth v1 0))).bind fun v2=>(bif (!(!(eqB (PV.toI (PV.tnth v2 1)) 13))) then (some (PV.tuple [(PV.agg [(PV.int .i64 0),(PV.int .i64 0),(PV.int .i64 0),(PV.int .i64 0)]),(PV.int .i64 13)])) else (bif x6 then (bif (PV.toB (PV.tnth v1 1)) then ((zd (IntKind.wrap .i64 (0-(PV.toI (PV.tnth v2 0)))) 7).bind fun v3=>(bif (eqB (PV.toI (PV.tnth v3 1)) 0) then ((ze x4 (PV.toI (PV.tnth v3 0))).bind fun v4=>(bif (!(eqB (PV.toI (PV.tnth v4 1)) 0)) then (z7 xI xJ xK xL xM xN x2 x3 x4 x5 true x7 x8 x9 xA xB xC xD xE xF xG xH xO xP xQ) else (z7 xI xJ xK xL xM xN x2 x3 (PV.toI (PV.tnth v4 0)) x5 true x7 x8 x9 xA xB xC xD xE xF xG xH xO xP xQ))) else (bif (!(eqB (PV.toI (PV.tnth v3 1)) 0)) then (z7 xI xJ xK xL xM xN x2 x3 x4 x5 true x7 x8 x9 xA xB xC xD xE xF xG xH xO xP xQ) else (z7 xI xJ xK xL xM xN x2 x3 (PV.toI (PV.tnth v3 0)) x5 true x7 x8 x9 xA xB xC xD xE xF xG xH xO xP xQ)))) else ((zd (PV.toI (PV.tnth v2 0)) 7).bind fun v5=>(bif (eqB (PV.toI (PV.tnth v5 1)) 0) then ((ze x4 (PV.toI (PV.tnth v5 0))).bind fun v6=>(bif (!(eqB (PV.toI (PV.tnth v6 1)) 0)) then (z7 xI xJ xK xL xM xN x2 x3 x4 x5 true x7 x8 x9 xA xB xC xD xE xF xG xH xO xP xQ) else (z7 xI xJ xK xL xM xN x2 x3 (PV.toI (PV.tnth v6 0)) x5 true x7 x8 x9 xA xB xC xD xE xF xG xH xO xP xQ))) else (bif (!(eqB (PV.toI (PV.tnth v5 1)) 0)) then (z7 xI xJ xK xL xM xN x2 x3 x4 x5 true x7 x8 x9 xA xB xC xD xE xF xG xH xO xP xQ) else (z7 xI xJ xK xL xM xN x2 x3 (PV.toI (PV.tnth v5 0)) x5 true x7 x8 x9 xA xB xC xD xE xF xG xH xO xP xQ))))) else (bif (PV.toB (PV.tnth v1 1)) then ((zd (IntKind.wrap .i64 (0-(PV.toI (PV.tnth v2 0)))) 7).bind fun v7=>(bif (eqB (PV.toI (PV.tnth v7 1)) 0) then ((ze x4 (PV.toI (PV.tnth v7 0))).bind fun v8=>(bif (!(eqB (PV.toI (PV.tnth v8 1)) 0)) then (z7 xI xJ xK xL xM xN x2 x3 x4 x5 true x7 x8 x9 xA xB xC xD xE xF xG xH xO xP xQ) else (z7 xI xJ xK xL xM xN x2 x3 (PV.toI (PV.tnth v8 0)) x5 (!(eqB (PV.toI (PV.tnth v2 1)) 0)) x7 x8 x9 xA xB xC xD xE xF xG xH xO xP xQ))) else (bif (!(eqB (PV.toI (PV.tnth v7 1)) 0)) then (z7 xI xJ xK xL xM xN x2 x3 x4 x5 true x7 x8 x9 xA xB xC xD xE xF xG xH xO xP xQ) else (z7 xI xJ xK xL xM xN x2 x3 (PV.toI (PV.tnth v7 0)) x5 (!(eqB (PV.toI (PV.tnth v2 1)) 0)) x7 x8 x9 xA xB xC xD xE xF xG xH xO xP xQ)))) else ((zd (PV.toI (PV.tnth v2 0)) 7).bind fun v9=>(bif (eqB (PV.toI (PV.tnth v9 1)) 0) then ((ze x4 (PV.toI (PV.tnth v9 0))).bind fun v10=>(bif (!(eqB (PV.toI (PV.tnth v10 1)) 0)) then (z7 xI xJ xK xL xM xN x2 x3 x4 x5 true x7 x8 x9 xA xB xC xD xE xF xG xH xO xP xQ) else (z7 xI xJ xK xL xM xN x2 x3 (PV.toI (PV.tnth v10 0)) x5 (!(eqB (PV.toI (PV.tnth v2 1)) 0)) x7 x8 x9 xA xB xC xD xE xF xG xH xO xP xQ))) else (bif (!(eqB (PV.toI (PV.tnth v9 1)) 0)) then (z7 xI xJ xK xL xM xN x2 x3 x4 x5 true x7 x8 x9 xA xB xC xD xE xF xG xH xO xP xQ) else (z7 xI xJ xK xL xM xN x2 x3 (PV.toI (PV.tnth v9 0)) x5 (!(eqB (PV.toI (PV.tnth v2 1)) 0)) x7 x8 x9 xA xB xC xD xE xF xG xH xO xP xQ)))))))) else ((zu (PV.toS (PV.tnth v1 0))).bind fun v11=>(bif (!(!(eqB (PV.toI (PV.tnth v11 1)) 13))) then (some (PV.tuple [(PV.agg [(PV.int .i64 0),(PV.int .i64 0),(PV.int .i64 0),(PV.int .i64 0)]),(PV.int .i64 13)])) else (bif x6 then (bif (PV.toB (PV.tnth v1 1)) then ((zd (IntKind.wrap .i64 (0-(PV.toI (PV.tnth v11 0)))) 7).bind fun v12=>(bif (eqB (PV.toI (PV.tnth v12 1)) 0) then ((ze x4 (PV.toI (PV.tnth v12 0))).bind fun v13=>(bif (!(eqB (PV.toI (PV.tnth v13 1)) 0)) then (z7 xI xJ xK xL xM xN x2 x3 x4 x5 true x7 x8 x9 xA xB xC xD xE xF xG xH xO xP xQ) else (z7 xI xJ xK xL xM xN x2 x3 (PV.toI (PV.tnth v13 0)) x5 true x7 x8 x9 xA xB xC xD xE xF xG xH xO xP xQ))) else (bif (!(eqB (PV.toI (PV.tnth v12 1)) 0)) then (z7 xI xJ xK xL xM xN x2 x3 x4 x5 true x7 x8 x9 xA xB xC xD xE xF xG xH xO xP xQ) else (z7 xI xJ xK xL xM xN x2 x3 (PV.toI (PV.tnth v12 0)) x5 true x7 x8 x9 xA xB xC xD xE xF xG xH xO xP xQ)))) else ((zd (PV.toI (PV.tnth v11 0)) 7).bind fun v14=>(bif (eqB (PV.toI (PV.tnth v14 1)) 0) then ((ze x4 (PV.toI (PV.tnth v14 0))).bind fun v15=>(bif (!(eqB (PV.toI (PV.tnth v15 1)) 0)) then (z7 xI xJ xK xL xM xN x2 x3 x4 x5 true x7 x8 x9 xA xB xC xD xE xF xG xH xO xP xQ) else (z7 xI xJ xK xL xM xN x2 x3 (PV.toI (PV.tnth v15 0)) x5 true x7 x8 x9 xA xB xC xD xE xF xG xH xO xP xQ))) else (bif (!(eqB (PV.toI (PV.tnth v14 1)) 0)) then (z7 xI xJ xK xL xM xN x2 x3 x4 x5 true x7 x8 x9 xA xB xC xD xE xF xG xH xO xP xQ) else (z7 xI xJ xK xL xM xN x2 x3 (PV.toI (PV.tnth v14 0)) x5 true x7 x8 x9 xA xB xC xD xE xF xG xH xO xP xQ))))) else (bif (PV.toB (PV.tnth v1 1)) then ((zd (IntKind.wrap .i64 (0-(PV.toI (PV.tnth v11 0)))) 7).bind fun v16=>(bif (eqB (PV.toI (PV.tnth v16 1)) 0) then ((ze x4 (PV.toI (PV.tnth v16 0))).bind fun v17=>(bif (!(eqB (PV.toI (PV.tnth v17 1)) 0)) then (z7 xI xJ xK xL xM xN x2 x3 x4 x5 true x7 x8 x9 xA xB xC xD xE xF xG xH xO xP xQ) else (z7 xI xJ xK xL xM xN x2 x3 (PV.toI (PV.tnth v17 0)) x5 (!(eqB (PV.toI (PV.tnth v11 1)) 0)) x7 x8 x9 xA xB xC xD xE xF xG xH xO xP xQ))) else (bif (!(eqB (PV.toI (PV.tnth v16 1)) 0)) then (z7 xI xJ xK xL xM xN x2 x3 x4 x5 true x7 x8 x9 xA xB xC xD xE xF xG xH xO xP xQ) else (z7 xI xJ xK xL xM xN x2 x3 (PV.toI (PV.tnth v16 0)) x5 (!(eqB (PV.toI (PV.tnth v11 1)) 0)) x7 x8 x9 xA xB xC xD xE xF xG xH xO xP xQ)))) else ((zd (PV.toI (PV.tnth v11 0)) 7).bind fun v18=>(bif (eqB (PV.toI (PV.tnth v18 1)) 0) then ((ze x4 (PV.toI (PV.tnth v18 0))).bind fun v19=>(bif (!(eqB (PV.toI (PV.tnth v19 1)) 0)) then (z7 xI xJ xK xL xM xN x2 x3 x4 x5 true x7 x8 x9 xA xB xC xD xE xF xG xH xO xP xQ) else (z7 xI xJ xK xL xM xN x2 x3 (PV.toI (PV.tnth v19 0)) x5 (!(eqB (PV.toI (PV.tnth v11 1)) 0)) x7 x8 x9 xA xB xC xD xE xF xG xH xO xP xQ))) else (bif (!(eqB (PV.toI (PV.tnth v18 1)) 0)) then (z7 xI xJ xK xL xM xN x2 x3 x4 x5 true x7 x8 x9 xA xB xC xD xE xF xG xH xO xP xQ) else (z7 xI xJ xK xL xM xN x2 x3 (PV.toI (PV.tnth v18 0)) x5 (!(eqB (PV.toI (PV.tnth v11 1)) 0)) x7 x8 x9 xA xB xC xD xE xF xG xH xO xP xQ)))))))))) else (bif (eqB x1 100) then ((zr x0 [45]).bind fun v20=>(bif (!(PV.toB (PV.tnth v20 1))) then ((zu (PV.toS (PV.tnth v20 0))).bind fun v21=>(bif (!(!(eqB (PV.toI (PV.tnth v21 1)) 13))) then (some (PV.tuple [(PV.agg [(PV.int .i64 0),(PV.int .i64 0),(PV.int .i64 0),(PV.int .i64 0)]),(PV.int .i64 13)])) else (bif x6 then (bif (PV.toB (PV.tnth v20 1)) then ((zd (IntKind.wrap .i64 (0-(PV.toI (PV.tnth v21 0)))) 1).bind fun v22=>(bif (eqB (PV.toI (PV.tnth v22 1)) 0) then ((ze x4 (PV.toI (PV.tnth v22 0))).bind fun v23=>(bif (!(eqB (PV.toI (PV.tnth v23 1)) 0)) then (z7 xI xJ xK xL xM xN x2 x3 x4 x5 true x7 x8 x9 xA xB xC xD xE xF xG xH xO xP xQ) else (z7 xI xJ xK xL xM xN x2 x3 (PV.toI (PV.tnth v23 0)) x5 true x7 x8 x9 xA xB xC xD xE xF xG xH xO xP xQ))) else (bif (!(eqB (PV.toI (PV.tnth v22 1)) 0)) then (z7 xI xJ xK xL xM xN x2 x3 x4 x5 true x7 x8 x9 xA xB xC xD xE xF xG xH xO xP xQ) else (z7 xI xJ xK xL xM xN x2 x3 (PV.toI (PV.tnth v22 0)) x5 true x7 x8 x9 xA xB xC xD xE xF xG xH xO xP xQ)))) else ((zd (PV.toI (PV.tnth v21 0)) 1).bind fun v24=>(bif (eqB (PV.toI (PV.tnth v24 1)) 0) then ((ze x4 (PV.toI (PV.tnth v24 0))).bind fun v25=>(bif (!(eqB (PV.toI (PV.tnth v25 1)) 0)) then (z7 xI xJ xK xL xM xN x2 x3 x4 x5 true x7 x8 x9 xA xB xC xD xE xF xG xH xO xP xQ) else (z7 xI xJ xK xL xM xN x2 x3 (PV.toI (PV.tnth v25 0)) x5 true x7 x8 x9 xA xB xC xD xE xF xG xH xO xP xQ))) else (bif (!(eqB (PV.toI (PV.tnth v24 1)) 0)) then (z7 xI xJ xK xL xM xN x2 x3 x4 x5 true x7 x8 x9 xA xB xC xD xE xF xG xH xO xP xQ) else (z7 xI xJ xK xL xM xN x2 x3 (PV.toI (PV.tnth v24 0)) x5 true x7 x8 x9 xA xB xC xD xE xF xG xH xO xP xQ))))) else (bif (PV.toB (PV.tnth v20 1)) then ((zd (IntKind.wrap .i64 (0-(PV.toI (PV.tnth v21 0)))) 1).bind fun v26=>(bif (eqB (PV.toI (PV.tnth v26 1)) 0) then ((ze x4 (PV.toI (PV.tnth v26 0))).bind fun v27=>(bif (!(eqB (PV.toI (PV.tnth v27 1)) 0)) then (z7 xI xJ xK xL xM xN x2 x3 x4 x5 true x7 x8 x9 xA xB xC xD xE xF xG xH xO xP xQ) else (z7 xI xJ xK xL xM xN x2 x3 (PV.toI (PV.tnth v27 0)) x5 (!(eqB (PV.toI (PV.tnth v21 1)) 0)) x7 x8 x9 xA xB xC xD xE xF xG xH xO xP xQ))) else (bif (!(eqB (PV.toI (PV.tnth v26 1)) 0)) then (z7 xI xJ xK xL xM xN x2 x3 x4 x5 true x7 x8 x9 xA xB xC xD xE xF xG xH xO xP xQ) else (z7 xI xJ xK xL xM xN x2 x3 (PV.toI (PV.tnth v26 0)) x5 (!(eqB (PV.toI (PV.tnth v21 1)) 0)) x7 x8 x9 xA xB xC xD xE xF xG xH xO xP xQ)))) else ((zd (PV.toI (PV.tnth v21 0)) 1).bind fun v28=>(bif (eqB (PV.toI (PV.tnth v28 1)) 0) then ((ze x4 (PV.toI (PV.tnth v28 0))).bind fun v29=>(bif (!(eqB (PV.toI (PV.tnth v29 1)) 0)) then (z7 xI xJ xK xL xM xN x2 x3 x4 x5 true x7 x8 x9 xA xB xC xD xE xF xG xH xO xP xQ) else (z7 xI xJ xK xL xM xN x2 x3 (PV.toI (PV.tnth v29 0)) x5 (!(eqB (PV.toI (PV.tnth v21 1)) 0)) x7 x8 x9 xA xB xC xD xE xF xG xH xO xP xQ))) else (bif (!(eqB (PV.toI (PV.tnth v28 1)) 0)) then (z7 xI xJ xK xL xM xN x2 x3 x4 x5 true x7 x8 x9 xA xB xC xD xE xF xG xH xO xP xQ) else (z7 xI xJ xK xL xM xN x2 x3 (PV.toI (PV.tnth v28 0)) x5 (!(eqB (PV.toI (PV.tnth v21 1)) 0)) x7 x8 x9 xA xB xC xD xE xF xG xH xO xP xQ)))))))) else ((zu (PV.toS (PV.tnth v20 0))).bind fun v30=>(bif (!(!(eqB (PV.toI (PV.tnth v30 1)) 13))) then (some (PV.tuple [(PV.agg [(PV.int .i64 0),(PV.int .i64 0),(PV.int .i64 0),(PV.int .i64 0)]),(PV.int .i64 13)])) else (bif x6 then (bif (PV.toB (PV.tnth v20 1)) then ((zd (IntKind.wrap .i64 (0-(PV.toI (PV.tnth v30 0)))) 1).bind fun v31=>(bif (eqB (PV.toI (PV.tnth v31 1)) 0) then ((ze x4 (PV.toI (PV.tnth v31 0))).bind fun v32=>(bif (!(eqB (PV.toI (PV.tnth v32 1)) 0)) then (z7 xI xJ xK xL xM xN x2 x3 x4 x5 true x7 x8 x9 xA xB xC xD xE xF xG xH xO xP xQ) else (z7 xI xJ xK xL xM xN x2 x3 (PV.toI (PV.tnth v32 0)) x5 true x7 x8 x9 xA xB xC xD xE xF xG xH xO xP xQ))) else (bif (!(eqB (PV.toI (PV.tnth v31 1)) 0)) then (z7 xI xJ xK xL xM xN x2 x3 x4 x5 true x7 x8 x9 xA xB xC xD xE xF xG xH xO xP xQ) else (z7 xI xJ xK xL xM xN x2 x3 (PV.toI (PV.tnth v31 0)) x5 true x7 x8 x9 xA xB xC xD xE xF xG xH xO xP xQ)))) else ((zd (PV.toI (PV.tnth v30 0)) 1).bind fun v33=>(bif (eqB (PV.toI (PV.tnth v33 1)) 0) then ((ze x4 (PV.toI (PV.tnth v33 0))).bind fun v34=>(bif (!(eqB (PV.toI (PV.tnth v34 1)) 0)) then (z7 xI xJ xK xL xM xN x2 x3 x4 x5 true x7 x8 x9 xA xB xC xD xE xF xG xH xO xP xQ) else (z7 xI xJ xK xL xM xN x2 x3 (PV.toI (PV.tnth v34 0)) x5 true x7 x8 x9 xA xB xC xD xE xF xG xH xO xP xQ))) else (bif (!(eqB (PV.toI (PV.tnth v33 1)) 0)) then (z7 xI xJ xK xL xM xN x2 x3 x4 x5 true x7 x8 x9 xA xB xC xD xE xF xG xH xO xP xQ) else (z7 xI xJ xK xL xM xN x2 x3 (PV.toI (PV.tnth v33 0)) x5 true x7 x8 x9 xA xB xC xD xE xF xG xH xO xP xQ))))) else (bif (PV.toB (PV.tnth v20 1)) then ((zd (IntKind.wrap .i64 (0-(PV.toI (PV.tnth v30 0)))) 1).bind fun v35=>(bif (eqB (PV.toI (PV.tnth v35 1)) 0) then ((ze x4 (PV.toI (PV.tnth v35 0))).bind fun v36=>(bif (!(eqB (PV.toI (PV.tnth v36 1)) 0)) then (z7 xI xJ xK xL xM xN x2 x3 x4 x5 true x7 x8 x9 xA xB xC xD xE xF xG xH xO xP xQ) else (z7 xI xJ xK xL xM xN x2 x3 (PV.toI (PV.tnth v36 0)) x5 (!(eqB (PV.toI (PV.tnth v30 1)) 0)) x7 x8 x9 xA xB xC xD xE xF xG xH xO xP xQ))) else (bif (!(eqB (PV.toI (PV.tnth v35 1)) 0)) then (z7 xI xJ xK xL xM xN x2 x3 x4 x5 true x7 x8 x9 xA xB xC xD xE xF xG xH xO xP xQ) else (z7 xI xJ xK xL xM xN x2 x3 (PV.toI (PV.tnth v35 0)) x5 (!(eqB (PV.toI (PV.tnth v30 1)) 0)) x7 x8 x9 xA xB xC xD xE xF xG xH xO xP xQ)))) else ((zd (PV.toI (PV.tnth v30 0)) 1).bind fun v37=>(bif (eqB (PV.toI (PV.tnth v37 1)) 0) then ((ze x4 (PV.toI (PV.tnth v37 0))).bind fun v38=>(bif (!(eqB (PV.toI (PV.tnth v38 1)) 0)) then (z7 xI xJ xK xL xM xN x2 x3 x4 x5 true x7 x8 x9 xA xB xC xD xE xF xG xH xO xP xQ) else (z7 xI xJ xK xL xM xN x2 x3 (PV.toI (PV.tnth v38 0)) x5 (!(eqB (PV.toI (PV.tnth v30 1)) 0)) x7 x8 x9 xA xB xC xD xE xF xG xH xO xP xQ))) else (bif (!(eqB (PV.toI (PV.tnth v37 1)) 0)) then (z7 xI xJ xK xL xM xN x2 x3 x4 x5 true x7 x8 x9 xA xB xC xD xE xF xG xH xO xP xQ) else (z7 xI xJ xK xL xM xN x2 x3 (PV.toI (PV.tnth v37 0)) x5 (!(eqB (PV.toI (PV.tnth v30 1)) 0)) x7 x8 x9 xA xB xC xD xE xF xG xH xO xP xQ)))))))))) else (bif (eqB x1 104) then ((zr x0 [45]).bind fun v39=>(bif (!(PV.toB (PV.tnth v39 1))) then ((zu (PV.toS (PV.tnth v39 0))).bind fun v40=>(bif (!(!(eqB (PV.toI (PV.tnth v40 1)) 13))) then (some (PV.tuple [(PV.agg [(PV.int .i64 0),(PV.int .i64 0),(PV.int .i64 0),(PV.int .i64 0)]),(PV.int .i64 13)])) else (bif x6 then (bif (PV.toB (PV.tnth v39 1)) then ((zd (IntKind.wrap .i64 (0-(PV.toI (PV.tnth v40 0)))) 3600000000).bind fun v41=>(bif (eqB (PV.toI (PV.tnth v41 1)) 0) then ((ze x5 (PV.toI (PV.tnth v41 0))).bind fun v42=>(bif (!(eqB (PV.toI (PV.tnth v42 1)) 0)) then (z7 xI xJ xK xL xM xN x2 x3 x4 x5 true x7 x8 x9 xA xB xC xD xE xF xG xH xO xP xQ) else (z7 xI xJ xK xL xM xN x2 x3 x4 (PV.toI (PV.tnth v42 0)) true x7 x8 x9 xA xB xC xD xE xF xG xH xO xP xQ))) else (bif (!(eqB (PV.toI (PV.tnth v41 1)) 0)) then (z7 xI xJ xK xL xM xN x2 x3 x4 x5 true x7 x8 x9 xA xB xC xD xE xF xG xH xO xP xQ) else (z7 xI xJ xK xL xM xN x2 x3 x4 (PV.toI (PV.tnth v41 0)) true x7 x8 x9 xA xB xC xD xE xF xG xH xO xP xQ)))) else ((zd (PV.toI (PV.tnth v40 0)) 3600000000).bind fun v43=>(bif (eqB (PV.toI (PV.tnth v43 1)) 0) then ((ze x5 (PV.toI (PV.tnth v43 0))).bind fun v44=>(bif (!(eqB (PV.toI (PV.tnth v44 1)) 0)) then (z7 xI xJ xK xL xM xN x2 x3 x4 x5 true x7 x8 x9 xA xB xC xD xE xF xG xH xO xP xQ) else (z7 xI xJ xK xL xM xN x2 x3 x4 (PV.toI (PV.tnth v44 0)) true x7 x8 x9 xA xB xC xD xE xF xG xH xO xP xQ))) else (bif (!(eqB (PV.toI (PV.tnth v43 1)) 0)) then (z7 xI xJ xK xL xM xN x2 x3 x4 x5 true x7 x8 x9 xA xB xC xD xE xF xG xH xO xP xQ) else (z7 xI xJ xK xL xM xN x2 x3 x4 (PV.toI (PV.tnth v43 0)) true x7 x8 x9 xA xB xC xD xE xF xG xH xO xP xQ))))) else (bif (PV.toB (PV.tnth v39 1)) then ((zd (IntKind.wrap .i64 (0-(PV.toI (PV.tnth v40 0)))) 3600000000).bind fun v45=>(bif (eqB (PV.toI (PV.tnth v45 1)) 0) then ((ze x5 (PV.toI (PV.tnth v45 0))).bind fun v46=>(bif (!(eqB (PV.toI (PV.tnth v46 1)) 0)) then (z7 xI xJ xK xL xM xN x2 x3 x4 x5 true x7 x8 x9 xA xB xC xD xE xF xG xH xO xP xQ) else (z7 xI xJ xK xL xM xN x2 x3 x4 (PV.toI (PV.tnth v46 0)) (!(eqB (PV.toI (PV.tnth v40 1)) 0)) x7 x8 x9 xA xB xC xD xE xF xG xH xO xP xQ))) else (bif (!(eqB (PV.toI (PV.tnth v45 1)) 0)) then (z7 xI xJ xK xL xM xN x2 x3 x4 x5 true x7 x8 x9 xA xB xC xD xE xF xG xH xO xP xQ) else (z7 xI xJ xK xL xM xN x2 x3 x4 (PV.toI (PV.tnth v45 0)) (!(eqB (PV.toI (PV.tnth v40 1)) 0)) x7 x8 x9 xA xB xC xD xE xF xG xH xO xP xQ)))) else ((zd (PV.toI (PV.tnth v40 0)) 3600000000).bind fun v47=>(bif (eqB (PV.toI (PV.tnth v47 1)) 0) then ((ze x5 (PV.toI (PV.tnth v47 0))).bind fun v48=>(bif (!(eqB (PV.toI (PV.tnth v48 1)) 0)) then (z7 xI xJ xK xL xM xN x2 x3 x4 x5 true x7 x8 x9 xA xB xC xD xE xF xG xH xO xP xQ) else (z7 xI xJ xK xL xM xN x2 x3 x4 (PV.toI (PV.tnth v48 0)) (!(eqB (PV.toI (PV.tnth v40 1)) 0)) x7 x8 x9 xA xB xC xD xE xF xG xH xO xP xQ))) else (bif (!(eqB (PV.toI (PV.tnth v47 1)) 0)) then (z7 xI xJ xK xL xM xN x2 x3 x4 x5 true x7 x8 x9 xA xB xC xD xE xF xG xH xO xP xQ) else (z7 xI xJ xK xL xM xN x2 x3 x4 (PV.toI (PV.tnth v47 0)) (!(eqB (PV.toI (PV.tnth v40 1)) 0)) x7 x8 x9 xA xB xC xD xE xF xG xH xO xP xQ)))))))) else ((zu (PV.toS (PV.tnth v39 0))).bind fun v49=>(bif (!(!(eqB (PV.toI (PV.tnth v49 1)) 13))) then (some (PV.tuple [(PV.agg [(PV.int .i64 0),(PV.int .i64 0),(PV.int .i64 0),(PV.int .i64 0)]),(PV.int .i64 13)])) else (bif x6 then (bif (PV.toB (PV.tnth v39 1)) then ((zd (IntKind.wrap .i64 (0-(PV.toI (PV.tnth v49 0)))) 3600000000).bind fun v50=>(bif (eqB (PV.toI (PV.tnth v50 1)) 0) then ((ze x5 (PV.toI (PV.tnth v50 0))).bind fun v51=>(bif (!(eqB (PV.toI (PV.tnth v51 1)) 0)) then (z7 xI xJ xK xL xM xN x2 x3 x4 x5 true x7 x8 x9 xA xB xC xD xE xF xG xH xO xP xQ) else (z7 xI xJ xK xL xM xN x2 x3 x4 (PV.toI (PV.tnth v51 0)) true x7 x8 x9 xA xB xC xD xE xF xG xH xO xP xQ))) else (bif (!(eqB (PV.toI (PV.tnth v50 1)) 0)) then (z7 xI xJ xK xL xM xN x2 x3 x4 x5 true x7 x8 x9 xA xB xC xD xE xF xG xH xO xP xQ) else (z7 xI xJ xK xL xM xN x2 x3 x4 (PV.toI (PV.tnth v50 0)) true x7 x8 x9 xA xB xC xD xE xF xG xH xO xP xQ)))) else ((zd (PV.toI (PV.tnth v49 0)) 3600000000).bind fun v52=>(bif (eqB (PV.toI (PV.tnth v52 1)) 0) then ((ze x5 (PV.toI (PV.tnth v52 0))).bind fun v53=>(bif (!(eqB (PV.toI (PV.tnth v53 1)) 0)) then (z7 xI xJ xK xL xM xN x2 x3 x4 x5 true x7 x8 x9 xA xB xC xD xE xF xG xH xO xP xQ) else (z7 xI xJ xK xL xM xN x2 x3 x4 (PV.toI (PV.tnth v53 0)) true x7 x8 x9 xA xB xC xD xE xF xG xH xO xP xQ))) else (bif (!(eqB (PV.toI (PV.tnth v52 1)) 0)) then (z7 xI xJ xK xL xM xN x2 x3 x4 x5 true x7 x8 x9 xA xB xC xD xE xF xG xH xO xP xQ) else (z7 xI xJ xK xL xM xN x2 x3 x4 (PV.toI (PV.tnth v52 0)) true x7 x8 x9 xA xB xC xD xE xF xG xH xO xP xQ))))) else (bif (PV.toB (PV.tnth v39 1)) then ((zd (IntKind.wrap .i64 (0-(PV.toI (PV.tnth v49 0)))) 3600000000).bind fun v54=>(bif (eqB (PV.toI (PV.tnth v54 1)) 0) then ((ze x5 (PV.toI (PV.tnth v54 0))).bind fun v55=>(bif (!(eqB (PV.toI (PV.tnth v55 1)) 0)) then (z7 xI xJ xK xL xM xN x2 x3 x4 x5 true x7 x8 x9 xA xB xC xD xE xF xG xH xO xP xQ) else (z7 xI xJ xK xL xM xN x2 x3 x4 (PV.toI (PV.tnth v55 0)) (!(eqB (PV.toI (PV.tnth v49 1)) 0)) x7 x8 x9 xA xB xC xD xE xF xG xH xO xP xQ))) else (bif (!(eqB (PV.toI (PV.tnth v54 1)) 0)) then (z7 xI xJ xK xL xM xN x2 x3 x4 x5 true x7 x8 x9 xA xB xC xD xE xF xG xH xO xP xQ) else (z7 xI xJ xK xL xM xN x2 x3 x4 (PV.toI (PV.tnth v54 0)) (!(eqB (PV.toI (PV.tnth v49 1)) 0)) x7 x8 x9 xA xB xC xD xE xF xG xH xO xP xQ)))) else ((zd (PV.toI (PV.tnth v49 0)) 3600000000).bind fun v56=>(bif (eqB (PV.toI (PV.tnth v56 1)) 0) then ((ze x5 (PV.toI (PV.tnth v56 0))).bind fun v57=>(bif (!(eqB (PV.toI (PV.tnth v57 1)) 0)) then (z7 xI xJ xK xL xM xN x2 x3 x4 x5 true x7 x8 x9 xA xB xC xD xE xF xG xH xO xP xQ) else (z7 xI xJ xK xL xM xN x2 x3 x4 (PV.toI (PV.tnth v57 0)) (!(eqB (PV.toI (PV.tnth v49 1)) 0)) x7 x8 x9 xA xB xC xD xE xF xG xH xO xP xQ))) else (bif (!(eqB (PV.toI (PV.tnth v56 1)) 0)) then (z7 xI xJ xK xL xM xN x2 x3 x4 x5 true x7 x8 x9 xA xB xC xD xE xF xG xH xO xP xQ) else (z7 xI xJ xK xL xM xN x2 x3 x4 (PV.toI (PV.tnth v56 0)) (!(eqB (PV.toI (PV.tnth v49 1)) 0)) x7 x8 x9 xA xB xC xD xE xF xG xH xO xP xQ)))))))))) else ((zr x0 [45]).bind fun v58=>(bif (!(PV.toB (PV.tnth v58 1))) then ((zu (PV.toS (PV.tnth v58 0))).bind fun v59=>(bif (!(!(eqB (PV.toI (PV.tnth v59 1)) 13))) then (some (PV.tuple [(PV.agg [(PV.int .i64 0),(PV.int .i64 0),(PV.int .i64 0),(PV.int .i64 0)]),(PV.int .i64 13)])) else (bif x6 then (bif (PV.toB (PV.tnth v58 1)) then ((zd (IntKind.wrap .i64 (0-(PV.toI (PV.tnth v59 0)))) 60000000).bind fun v60=>(bif (eqB (PV.toI (PV.tnth v60 1)) 0) then ((ze x5 (PV.toI (PV.tnth v60 0))).bind fun v61=>(bif (!(eqB (PV.toI (PV.tnth v61 1)) 0)) then (z7 xI xJ xK xL xM xN x2 x3 x4 x5 true x7 x8 x9 xA xB xC xD xE xF xG xH xO xP xQ) else (z7 xI xJ xK xL xM xN x2 x3 x4 (PV.toI (PV.tnth v61 0)) true x7 x8 x9 xA xB xC xD xE xF xG xH xO xP xQ))) else (bif (!(eqB (PV.toI (PV.tnth v60 1)) 0)) then (z7 xI xJ xK xL xM xN x2 x3 x4 x5 true x7 x8 x9 xA xB xC xD xE xF xG xH xO xP xQ) else (z7 xI xJ xK xL xM xN x2 x3 x4 (PV.toI (PV.tnth v60 0)) true x7 x8 x9 xA xB xC xD xE xF xG xH xO xP xQ)))) else ((zd (PV.toI (PV.tnth v59 0)) 60000000).bind fun v62=>(bif (eqB (PV.toI (PV.tnth v62 1)) 0) then ((ze x5 (PV.toI (PV.tnth v62 0))).bind fun v63=>(bif (!(eqB (PV.toI (PV.tnth v63 1)) 0)) then (z7 xI xJ xK xL xM xN x2 x3 x4 x5 true x7 x8 x9 xA xB xC xD xE xF xG xH xO xP xQ) else (z7 xI xJ xK xL xM xN x2 x3 x4 (PV.toI (PV.tnth v63 0)) true x7 x8 x9 xA xB xC xD xE xF xG xH xO xP xQ))) else (bif (!(eqB (PV.toI (PV.tnth v62 1)) 0)) then (z7 xI xJ xK xL xM xN x2 x3 x4 x5 true x7 x8 x9 xA xB xC xD xE xF xG xH xO xP xQ) else (z7 xI xJ xK xL xM xN x2 x3 x4 (PV.toI (PV.tnth v62 0)) true x7 x8 x9 xA xB xC xD xE xF xG xH xO xP xQ))))) else (bif (PV.toB (PV.tnth v58 1)) then ((zd (IntKind.wrap .i64 (0-(PV.toI (PV.tnth v59 0)))) 60000000).bind fun v64=>(bif (eqB (PV.toI (PV.tnth v64 1)) 0) then ((ze x5 (PV.toI (PV.tnth v64 0))).bind fun v65=>(bif (!(eqB (PV.toI (PV.tnth v65 1)) 0)) then (z7 xI xJ xK xL xM xN x2 x3 x4 x5 true x7 x8 x9 xA xB xC xD xE xF xG xH xO xP xQ) else (z7 xI xJ xK xL xM xN x2 x3 x4 (PV.toI (PV.tnth v65 0)) (!(eqB (PV.toI (PV.tnth v59 1)) 0)) x7 x8 x9 xA xB xC xD xE xF xG xH xO xP xQ))) else (bif (!(eqB (PV.toI (PV.tnth v64 1)) 0)) then (z7 xI xJ xK xL xM xN x2 x3 x4 x5 true x7 x8 x9 xA xB xC xD xE xF xG xH xO xP xQ) else (z7 xI xJ xK xL xM xN x2 x3 x4 (PV.toI (PV.tnth v64 0)) (!(eqB (PV.toI (PV.tnth v59 1)) 0)) x7 x8 x9 xA xB xC xD xE xF xG xH xO xP xQ)))) else ((zd (PV.toI (PV.tnth v59 0)) 60000000).bind fun v66=>(bif (eqB (PV.toI (PV.tnth v66 1)) 0) then ((ze x5 (PV.toI (PV.tnth v66 0))).bind fun v67=>(bif (!(eqB (PV.toI (PV.tnth v67 1)) 0)) then (z7 xI xJ xK xL xM xN x2 x3 x4 x5 true x7 x8 x9 xA xB xC xD xE xF xG xH xO xP xQ) else (z7 xI xJ xK xL xM xN x2 x3 x4 (PV.toI (PV.tnth v67 0)) (!(eqB (PV.toI (PV.tnth v59 1)) 0)) x7 x8 x9 xA xB xC xD xE xF xG xH xO xP xQ))) else (bif (!(eqB (PV.toI (PV.tnth v66 1)) 0)) then (z7 xI xJ xK xL xM xN x2 x3 x4 x5 true x7 x8 x9 xA xB xC xD xE xF xG xH xO xP xQ) else (z7 xI xJ xK xL xM xN x2 x3 x4 (PV.toI (PV.tnth v66 0)) (!(eqB (PV.toI (PV.tnth v59 1)) 0)) x7 x8 x9 xA xB xC xD xE xF xG xH xO xP xQ)))))))) else ((zu (PV.toS (PV.tnth v58 0))).bind fun v68=>(bif (!(!(eqB (PV.toI (PV.tnth v68 1)) 13))) then (some (PV.tuple [(PV.agg [(PV.int .i64 0),(PV.int .i64 0),(PV.int .i64 0),(PV.int .i64 0)]),(PV.int .i64 13)])) else (bif x6 then (bif (PV.toB (PV.tnth v58 1)) then ((zd (IntKind.wrap .i64 (0-(PV.toI (PV.tnth v68 0)))) 60000000).bind fun v69=>(bif (eqB (PV.toI (PV.tnth v69 1)) 0) then ((ze x5 (PV.toI (PV.tnth v69 0))).bind fun v70=>(bif (!(eqB (PV.toI (PV.tnth v70 1)) 0)) then (z7 xI xJ xK xL xM xN x2 x3 x4 x5 true x7 x8 x9 xA xB xC xD xE xF xG xH xO xP xQ) else (z7 xI xJ xK xL xM xN x2 x3 x4 (PV.toI (PV.tnth v70 0)) true x7 x8 x9 xA xB xC xD xE xF xG xH xO xP xQ))) else (bif (!(eqB (PV.toI (PV.tnth v69 1)) 0)) then (z7 xI xJ xK xL xM xN x2 x3 x4 x5 true x7 x8 x9 xA xB xC xD xE xF xG xH xO xP xQ) else (z7 xI xJ xK xL xM xN x2 x3 x4 (PV.toI (PV.tnth v69 0)) true x7 x8 x9 xA xB xC xD xE xF xG xH xO xP xQ)))) else ((zd (PV.toI (PV.tnth v68 0)) 60000000).bind fun v71=>(bif (eqB (PV.toI (PV.tnth v71 1)) 0) then ((ze x5 (PV.toI (PV.tnth v71 0))).bind fun v72=>(bif (!(eqB (PV.toI (PV.tnth v72 1)) 0)) then (z7 xI xJ xK xL xM xN x2 x3 x4 x5 true x7 x8 x9 xA xB xC xD xE xF xG xH xO xP xQ) else (z7 xI xJ xK xL xM xN x2 x3 x4 (PV.toI (PV.tnth v72 0)) true x7 x8 x9 xA xB xC xD xE xF xG xH xO xP xQ))) else (bif (!(eqB (PV.toI (PV.tnth v71 1)) 0)) then (z7 xI xJ xK xL xM xN x2 x3 x4 x5 true x7 x8 x9 xA xB xC xD xE xF xG xH xO xP xQ) else (z7 xI xJ xK xL xM xN x2 x3 x4 (PV.toI (PV.tnth v71 0)) true x7 x8 x9 xA xB xC xD xE xF xG xH xO xP xQ))))) else (bif (PV.toB (PV.tnth v58 1)) then ((zd (IntKind.wrap .i64 (0-(PV.toI (PV.tnth v68 0)))) 60000000).bind fun v73=>(bif (eqB (PV.toI (PV.tnth v73 1)) 0) then ((ze x5 (PV.toI (PV.tnth v73 0))).bind fun v74=>(bif (!(eqB (PV.toI (PV.tnth v74 1)) 0)) then (z7 xI xJ xK xL xM xN x2 x3 x4 x5 true x7 x8 x9 xA xB xC xD xE xF xG xH xO xP xQ) else (z7 xI xJ xK xL xM xN x2 x3 x4 (PV.toI (PV.tnth v74 0)) (!(eqB (PV.toI (PV.tnth v68 1)) 0)) x7 x8 x9 xA xB xC xD xE xF xG xH xO xP xQ))) else (bif (!(eqB (PV.toI (PV.tnth v73 1)) 0)) then (z7 xI xJ xK xL xM xN x2 x3 x4 x5 true x7 x8 x9 xA xB xC xD xE xF xG xH xO xP xQ) else (z7 xI xJ xK xL xM xN x2 x3 x4 (PV.toI (PV.tnth v73 0)) (!(eqB (PV.toI (PV.tnth v68 1)) 0)) x7 x8 x9 xA xB xC xD xE xF xG xH xO xP xQ)))) else ((zd (PV.toI (PV.tnth v68 0)) 60000000).bind fun v75=>(bif (eqB (PV.toI (PV.tnth v75 1)) 0) then ((ze x5 (PV.toI (PV.tnth v75 0))).bind fun v76=>(bif (!(eqB (PV.toI (PV.tnth v76 1)) 0)) then (z7 xI xJ xK xL xM xN x2 x3 x4 x5 true x7 x8 x9 xA xB xC xD xE xF xG xH xO xP xQ) else (z7 xI xJ xK xL xM xN x2 x3 x4 (PV.toI (PV.tnth v76 0)) (!(eqB (PV.toI (PV.tnth v68 1)) 0)) x7 x8 x9 xA xB xC xD xE xF xG xH xO xP xQ))) else (bif (!(eqB (PV.toI (PV.tnth v75 1)) 0)) then (z7 xI xJ xK xL xM xN x2 x3 x4 x5 true x7 x8 x9 xA xB xC xD xE xF xG xH xO xP xQ) else (z7 xI xJ xK xL xM xN x2 x3 x4 (PV.toI (PV.tnth v75 0)) (!(eqB (PV.toI (PV.tnth v68 1)) 0)) x7 x8 x9 xA xB xC xD xE xF xG xH xO xP xQ))))))))))))) :=
 (za EE _ _).trans (by kernel_rfl)
end Dv
