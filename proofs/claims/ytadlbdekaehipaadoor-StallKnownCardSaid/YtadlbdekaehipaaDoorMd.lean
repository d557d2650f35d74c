/- The types of the seat, and short rules. -/
import Derived.Test.YtadlbdekaehipaaDoorMb
import Derived.Test.YtadlbdekaehipaaDoorProg
import Derived.KernelRfl
import Derived.Test.YtadlbdekaehipaaDoorMc
set_option linter.all false
set_option linter.unusedVariables false
set_option linter.unusedSimpArgs false
set_option maxRecDepth 100000
namespace Go.Sim
noncomputable def pkgOf (t k : Nat) : String := match Go.Proofs.Tryd.prog.underlying t with | some (.struct fs) => (match fs[k]? with | some f => f.pkgPath | none => "") | _ => ""
def ti1:TI:=⟨1,8,.nilFunc,(TypeDesc.func #[] #[] false),false,false⟩
def ti2:TI:=⟨1,8,.int .i64 0,(TypeDesc.int IntKind.i64),false,false⟩
def ti3:TI:=⟨1,8,.int .i64 0,(TypeDesc.int IntKind.i64),false,false⟩
def ti4:TI:=⟨1,1,.bool false,TypeDesc.bool,false,false⟩
def ti5:TI:=⟨1,1,.int .u8 0,(TypeDesc.int IntKind.u8),false,false⟩
def ti6:TI:=⟨1,1,.int .u8 0,(TypeDesc.int IntKind.u8),false,false⟩
def ti7 : TI := ⟨4, 24, .agg #[.int .i64 0, .int .i64 0, .bool false, .int .u8 0], (TypeDesc.struct #[{ name := "x", type := 2, offset := 0, embedded := false, tag := "", pkgPath := "runtime", byteOffset := 0 }, { name := "y", type := 3, offset := 1, embedded := false, tag := "", pkgPath := "runtime", byteOffset := 8 }, { name := "signed", type := 4, offset := 2, embedded := false, tag := "", pkgPath := "runtime", byteOffset := 16 }, { name := "code", type := 6, offset := 3, embedded := false, tag := "", pkgPath := "runtime", byteOffset := 17 }]), false, false⟩
def ti8 : TI := ⟨4, 24, .agg #[.int .i64 0, .int .i64 0, .bool false, .int .u8 0], (TypeDesc.struct #[{ name := "x", type := 2, offset := 0, embedded := false, tag := "", pkgPath := "runtime", byteOffset := 0 }, { name := "y", type := 3, offset := 1, embedded := false, tag := "", pkgPath := "runtime", byteOffset := 8 }, { name := "signed", type := 4, offset := 2, embedded := false, tag := "", pkgPath := "runtime", byteOffset := 16 }, { name := "code", type := 6, offset := 3, embedded := false, tag := "", pkgPath := "runtime", byteOffset := 17 }]), false, false⟩
def ti9:TI:=⟨1,16,.string ByteArray.empty,TypeDesc.string,false,false⟩
def ti10:TI:=⟨1,16,.string ByteArray.empty,TypeDesc.string,false,false⟩
def ti11:TI:=⟨1,16,.string ByteArray.empty,TypeDesc.string,false,false⟩
def ti12:TI:=⟨1,8,.int .u64 0,(TypeDesc.int IntKind.u64),false,false⟩
def ti13 : TI := ⟨2, 24, .agg #[.string ByteArray.empty, .int .u64 0], (TypeDesc.struct #[{ name := "msg", type := 9, offset := 0, embedded := false, tag := "", pkgPath := "runtime", byteOffset := 0 }, { name := "addr", type := 12, offset := 1, embedded := false, tag := "", pkgPath := "runtime", byteOffset := 16 }]), false, false⟩
def ti14 : TI := ⟨2, 24, .agg #[.string ByteArray.empty, .int .u64 0], (TypeDesc.struct #[{ name := "msg", type := 9, offset := 0, embedded := false, tag := "", pkgPath := "runtime", byteOffset := 0 }, { name := "addr", type := 12, offset := 1, embedded := false, tag := "", pkgPath := "runtime", byteOffset := 16 }]), false, false⟩
def ti15:TI:=⟨1,8,.pointer none,(TypeDesc.pointer 138),false,false⟩
def ti16:TI:=⟨1,8,.pointer none,(TypeDesc.pointer 141),false,false⟩
def ti17:TI:=⟨1,8,.pointer none,(TypeDesc.pointer 149),false,false⟩
noncomputable def ti18 : TI := ⟨1, 8, .agg #[.pointer none], (TypeDesc.struct #[{ name := "typ", type := 17, offset := 0, embedded := false, tag := "", pkgPath := pkgOf 18 0, byteOffset := 0 }]), false, false⟩
noncomputable def ti19 : TI := ⟨1, 8, .agg #[.pointer none], (TypeDesc.struct #[{ name := "typ", type := 17, offset := 0, embedded := false, tag := "", pkgPath := pkgOf 19 0, byteOffset := 0 }]), false, false⟩
noncomputable def ti20:TI:=⟨1,16,.nilIface,(TypeDesc.interface #[]),false,false⟩
def ti21:TI:=⟨1,4,.int .i32 0,(TypeDesc.int IntKind.i32),false,false⟩
def ti22:TI:=⟨1,24,.slice none 0 0,(TypeDesc.slice 29),false,false⟩
def ti23:TI:=⟨1,24,.slice none 0 0,(TypeDesc.slice 31),false,false⟩
def ti24 : TI := ⟨2, 48, .agg #[.slice none 0 0, .slice none 0 0], (TypeDesc.struct #[{ name := "Stalls", type := 22, offset := 0, embedded := false, tag := "", pkgPath := "", byteOffset := 0 }, { name := "Applicants", type := 23, offset := 1, embedded := false, tag := "", pkgPath := "", byteOffset := 24 }]), false, false⟩
def ti25 : TI := ⟨2, 48, .agg #[.slice none 0 0, .slice none 0 0], (TypeDesc.struct #[{ name := "Stalls", type := 22, offset := 0, embedded := false, tag := "", pkgPath := "", byteOffset := 0 }, { name := "Applicants", type := 23, offset := 1, embedded := false, tag := "", pkgPath := "", byteOffset := 24 }]), false, false⟩
def ti26:TI:=⟨1,8,.nilFunc,(TypeDesc.func #[] #[25] false),false,false⟩
def ti27:TI:=⟨1,24,.slice none 0 0,(TypeDesc.slice 3),false,false⟩
def ti28 : TI := ⟨3, 24, .agg #[.int .i64 0, .int .i64 0, .int .i64 0], (TypeDesc.struct #[{ name := "Rule", type := 3, offset := 0, embedded := false, tag := "", pkgPath := "", byteOffset := 0 }, { name := "Least", type := 3, offset := 1, embedded := false, tag := "", pkgPath := "", byteOffset := 8 }, { name := "Heir", type := 3, offset := 2, embedded := false, tag := "", pkgPath := "", byteOffset := 16 }]), true, true⟩
def ti29 : TI := ⟨3, 24, .agg #[.int .i64 0, .int .i64 0, .int .i64 0], (TypeDesc.struct #[{ name := "Rule", type := 3, offset := 0, embedded := false, tag := "", pkgPath := "", byteOffset := 0 }, { name := "Least", type := 3, offset := 1, embedded := false, tag := "", pkgPath := "", byteOffset := 8 }, { name := "Heir", type := 3, offset := 2, embedded := false, tag := "", pkgPath := "", byteOffset := 16 }]), true, true⟩
def ti30 : TI := ⟨4, 64, .agg #[.int .i64 0, .int .i64 0, .slice none 0 0, .slice none 0 0], (TypeDesc.struct #[{ name := "Years", type := 3, offset := 0, embedded := false, tag := "", pkgPath := "", byteOffset := 0 }, { name := "Token", type := 3, offset := 1, embedded := false, tag := "", pkgPath := "", byteOffset := 8 }, { name := "Wishes", type := 27, offset := 2, embedded := false, tag := "", pkgPath := "", byteOffset := 16 }, { name := "Bids", type := 27, offset := 3, embedded := false, tag := "", pkgPath := "", byteOffset := 40 }]), false, false⟩
def ti31 : TI := ⟨4, 64, .agg #[.int .i64 0, .int .i64 0, .slice none 0 0, .slice none 0 0], (TypeDesc.struct #[{ name := "Years", type := 3, offset := 0, embedded := false, tag := "", pkgPath := "", byteOffset := 0 }, { name := "Token", type := 3, offset := 1, embedded := false, tag := "", pkgPath := "", byteOffset := 8 }, { name := "Wishes", type := 27, offset := 2, embedded := false, tag := "", pkgPath := "", byteOffset := 16 }, { name := "Bids", type := 27, offset := 3, embedded := false, tag := "", pkgPath := "", byteOffset := 40 }]), false, false⟩
def ti32:TI:=⟨1,8,.nilFunc,(TypeDesc.func #[] #[4] false),false,false⟩
def ti33:TI:=⟨1,8,.int .i64 0,(TypeDesc.int IntKind.i64),false,false⟩
def ti34:TI:=⟨1,8,.nilFunc,(TypeDesc.func #[25] #[33] false),false,false⟩
def ti36:TI:=⟨1,8,.nilFunc,(TypeDesc.func #[25] #[27,33] false),false,false⟩
def ti37:TI:=⟨1,8,.nilFunc,(TypeDesc.func #[27,27] #[4] false),false,false⟩
def ti38:TI:=⟨1,24,.slice none 0 0,(TypeDesc.slice 25),false,false⟩
def ti39:TI:=⟨1,24,.slice none 0 0,(TypeDesc.slice 27),false,false⟩
def ti40:TI:=⟨1,8,.nilFunc,(TypeDesc.func #[25,3] #[27,33] false),false,false⟩
def ti41:TI:=⟨1,8,.nilFunc,(TypeDesc.func #[25,27] #[33] false),false,false⟩
def ti42:TI:=⟨1,24,.slice none 0 0,(TypeDesc.slice 50),false,false⟩
def ti44:TI:=⟨1,8,.nilFunc,(TypeDesc.func #[25,27] #[42,33] false),false,false⟩
def ti45:TI:=⟨1,8,.nilFunc,(TypeDesc.func #[25,27] #[27,33] false),false,false⟩
def ti47:TI:=⟨1,8,.nilFunc,(TypeDesc.func #[25] #[9,33] false),false,false⟩
def ti48:TI:=⟨1,8,.nilFunc,(TypeDesc.func #[42,42] #[4] false),false,false⟩
def ti49 : TI := ⟨2, 16, .agg #[.int .i64 0, .int .i64 0], (TypeDesc.struct #[{ name := "Applicant", type := 3, offset := 0, embedded := false, tag := "", pkgPath := "", byteOffset := 0 }, { name := "Stall", type := 3, offset := 1, embedded := false, tag := "", pkgPath := "", byteOffset := 8 }]), true, true⟩
def ti50 : TI := ⟨2, 16, .agg #[.int .i64 0, .int .i64 0], (TypeDesc.struct #[{ name := "Applicant", type := 3, offset := 0, embedded := false, tag := "", pkgPath := "", byteOffset := 0 }, { name := "Stall", type := 3, offset := 1, embedded := false, tag := "", pkgPath := "", byteOffset := 8 }]), true, true⟩
def ti51:TI:=⟨1,8,.nilFunc,(TypeDesc.func #[3,3,3] #[4] false),false,false⟩
def ti52:TI:=⟨1,8,.nilFunc,(TypeDesc.func #[25,31] #[33] false),false,false⟩
def ti53:TI:=⟨1,8,.nilFunc,(TypeDesc.func #[25] #[27] false),false,false⟩
def ti54:TI:=⟨1,8,.nilFunc,(TypeDesc.func #[25,3,3] #[3] false),false,false⟩
def ti55:TI:=⟨1,8,.nilFunc,(TypeDesc.func #[27,56] #[27] false),false,false⟩
def ti56:TI:=⟨1,8,.nilFunc,(TypeDesc.func #[3,3] #[3] false),false,false⟩
def ti57:TI:=⟨1,8,.map none,(TypeDesc.map 3 3),false,false⟩
noncomputable def ti58 : TI := ⟨4, 64, .agg #[.slice none 0 0, .slice none 0 0, .int .i64 0, .map none], (TypeDesc.struct #[{ name := "l", type := 25, offset := 0, embedded := false, tag := "", pkgPath := pkgOf 58 0, byteOffset := 0 }, { name := "stall", type := 3, offset := 2, embedded := false, tag := "", pkgPath := pkgOf 58 1, byteOffset := 48 }, { name := "place", type := 57, offset := 3, embedded := false, tag := "", pkgPath := pkgOf 58 2, byteOffset := 56 }]), false, false⟩
noncomputable def ti59 : TI := ⟨4, 64, .agg #[.slice none 0 0, .slice none 0 0, .int .i64 0, .map none], (TypeDesc.struct #[{ name := "l", type := 25, offset := 0, embedded := false, tag := "", pkgPath := pkgOf 59 0, byteOffset := 0 }, { name := "stall", type := 3, offset := 2, embedded := false, tag := "", pkgPath := pkgOf 59 1, byteOffset := 48 }, { name := "place", type := 57, offset := 3, embedded := false, tag := "", pkgPath := pkgOf 59 2, byteOffset := 56 }]), false, false⟩
def ti60:TI:=⟨1,8,.nilFunc,(TypeDesc.func #[25,3] #[59] false),false,false⟩
def ti61:TI:=⟨1,8,.nilFunc,(TypeDesc.func #[27,3] #[27] false),false,false⟩
def ti62:TI:=⟨1,8,.nilFunc,(TypeDesc.func #[90] #[] false),false,false⟩
def ti63:TI:=⟨1,8,.nilFunc,(TypeDesc.func #[90] #[] false),false,false⟩
def ti64:TI:=⟨1,8,.nilFunc,(TypeDesc.func #[25,3] #[63] false),false,false⟩
def ti65:TI:=⟨1,8,.nilFunc,(TypeDesc.func #[27,3] #[4] false),false,false⟩
def ti66:TI:=⟨1,8,.nilFunc,(TypeDesc.func #[27,3] #[3] false),false,false⟩
def ti67:TI:=⟨1,8,.pointer none,(TypeDesc.pointer 70),false,false⟩
def ti68:TI:=⟨1,24,.slice none 0 0,(TypeDesc.slice 5),false,false⟩
def ti69 : TI := ⟨2, 32, .agg #[.pointer none, .slice none 0 0], (TypeDesc.struct #[{ name := "addr", type := 67, offset := 0, embedded := false, tag := "", pkgPath := "strings", byteOffset := 0 }, { name := "buf", type := 68, offset := 1, embedded := false, tag := "", pkgPath := "strings", byteOffset := 8 }]), false, false⟩
def ti70 : TI := ⟨2, 32, .agg #[.pointer none, .slice none 0 0], (TypeDesc.struct #[{ name := "addr", type := 67, offset := 0, embedded := false, tag := "", pkgPath := "strings", byteOffset := 0 }, { name := "buf", type := 68, offset := 1, embedded := false, tag := "", pkgPath := "strings", byteOffset := 8 }]), false, false⟩
def ti71:TI:=⟨1,8,.nilFunc,(TypeDesc.func #[3] #[9] false),false,false⟩
noncomputable def ti72 : TI := ⟨1, 16, .nilIface, (TypeDesc.interface #[("Error", 78)]), false, false⟩
def ti73 : TI := ⟨1, 16, .nilIface, (TypeDesc.interface #[("Error", 78)]), false, false⟩
def ti75:TI:=⟨1,8,.nilFunc,(TypeDesc.func #[9] #[3,73] false),false,false⟩
def ti76:TI:=⟨1,8,.nilFunc,(TypeDesc.func #[91] #[9] true),false,false⟩
def ti77:TI:=⟨4,64,.agg #[.string ByteArray.empty,.string ByteArray.empty,.string ByteArray.empty,.string ByteArray.empty],(TypeDesc.array 4 9),false,false⟩
def ti78:TI:=⟨1,8,.nilFunc,(TypeDesc.func #[] #[9] false),false,false⟩
def ti79:TI:=⟨1,8,.nilFunc,(TypeDesc.func #[27,80] #[4] false),false,false⟩
def ti80:TI:=⟨1,8,.nilFunc,(TypeDesc.func #[3] #[4] false),false,false⟩
def ti81:TI:=⟨8,64,.agg #[.int .i64 0,.int .i64 0,.int .i64 0,.int .i64 0,.int .i64 0,.int .i64 0,.int .i64 0,.int .i64 0],(TypeDesc.array 8 3),false,false⟩
noncomputable def ti82 : TI := ⟨9, 72, .agg #[.int .i64 0, .int .i64 0, .int .i64 0, .int .i64 0, .int .i64 0, .int .i64 0, .int .i64 0, .int .i64 0, .int .i64 0], (TypeDesc.struct #[{ name := "l", type := 81, offset := 0, embedded := false, tag := "", pkgPath := pkgOf 82 0, byteOffset := 0 }, { name := "many", type := 3, offset := 8, embedded := false, tag := "", pkgPath := pkgOf 82 1, byteOffset := 64 }]), false, true⟩
noncomputable def ti83 : TI := ⟨9, 72, .agg #[.int .i64 0, .int .i64 0, .int .i64 0, .int .i64 0, .int .i64 0, .int .i64 0, .int .i64 0, .int .i64 0, .int .i64 0], (TypeDesc.struct #[{ name := "l", type := 81, offset := 0, embedded := false, tag := "", pkgPath := pkgOf 83 0, byteOffset := 0 }, { name := "many", type := 3, offset := 8, embedded := false, tag := "", pkgPath := pkgOf 83 1, byteOffset := 64 }]), false, true⟩
def ti84:TI:=⟨1,8,.nilFunc,(TypeDesc.func #[3] #[83] false),false,false⟩
def ti85:TI:=⟨1,8,.nilFunc,(TypeDesc.func #[27] #[27] false),false,false⟩
def ti86:TI:=⟨1,8,.nilFunc,(TypeDesc.func #[27,56] #[] false),false,false⟩
def ti87:TI:=⟨1,8,.int .u64 0,(TypeDesc.int IntKind.u64),false,false⟩
def ti89:TI:=⟨1,8,.nilFunc,(TypeDesc.func #[87,87] #[87,87] false),false,false⟩
def ti90:TI:=⟨1,8,.nilFunc,(TypeDesc.func #[3,3] #[4] false),false,false⟩
def ti91:TI:=⟨1,24,.slice none 0 0,(TypeDesc.slice 9),false,false⟩
def ti92:TI:=⟨1,8,.nilFunc,(TypeDesc.func #[91,9] #[9] false),false,false⟩
def ti93:TI:=⟨1,8,.pointer none,(TypeDesc.pointer 5),false,false⟩
def ti94:TI:=⟨1,8,.nilFunc,(TypeDesc.func #[27,80] #[3] false),false,false⟩
def ti95:TI:=⟨1,8,.nilFunc,(TypeDesc.func #[27,3,3,3,56] #[] false),false,false⟩
def ti96:TI:=⟨1,8,.nilFunc,(TypeDesc.func #[87] #[3] false),false,false⟩
def ti97:TI:=⟨1,4,.int .u32 0,(TypeDesc.int IntKind.u32),false,false⟩
def ti99:TI:=⟨1,8,.nilFunc,(TypeDesc.func #[97,97] #[97,97] false),false,false⟩
def ti100:TI:=⟨1,8,.int .u64 0,(TypeDesc.int IntKind.u64),false,false⟩
def ti102:TI:=⟨1,8,.nilFunc,(TypeDesc.func #[100,100] #[100,100] false),false,false⟩
def ti103:TI:=⟨1,8,.nilFunc,(TypeDesc.func #[2,3] #[9] false),false,false⟩
def ti105:TI:=⟨1,8,.nilFunc,(TypeDesc.func #[104] #[104] false),false,false⟩
def ti106:TI:=⟨1,8,.nilFunc,(TypeDesc.func #[3] #[] false),false,false⟩
def ti107:TI:=⟨1,8,.nilFunc,(TypeDesc.func #[27,3,3,56] #[] false),false,false⟩
def ti108:TI:=⟨1,8,.int .i64 0,(TypeDesc.int IntKind.i64),false,false⟩
def ti110:TI:=⟨1,8,.nilFunc,(TypeDesc.func #[27,3,3,56] #[3,108] false),false,false⟩
def ti111:TI:=⟨1,8,.nilFunc,(TypeDesc.func #[27,3,3,56] #[4] false),false,false⟩
def ti112:TI:=⟨1,8,.nilFunc,(TypeDesc.func #[27,3,3,3,56] #[3] false),false,false⟩
def ti114:TI:=⟨1,8,.nilFunc,(TypeDesc.func #[27,3,3,3,56] #[3,4] false),false,false⟩
def ti115:TI:=⟨1,8,.nilFunc,(TypeDesc.func #[97] #[3] false),false,false⟩
def ti116:TI:=⟨1,8,.nilFunc,(TypeDesc.func #[100] #[3] false),false,false⟩
def ti117:TI:=⟨24,24,.agg #[.int .u8 0,.int .u8 0,.int .u8 0,.int .u8 0,.int .u8 0,.int .u8 0,.int .u8 0,.int .u8 0,.int .u8 0,.int .u8 0,.int .u8 0,.int .u8 0,.int .u8 0,.int .u8 0,.int .u8 0,.int .u8 0,.int .u8 0,.int .u8 0,.int .u8 0,.int .u8 0,.int .u8 0,.int .u8 0,.int .u8 0,.int .u8 0],(TypeDesc.array 24 5),false,false⟩
def ti118:TI:=⟨1,8,.nilFunc,(TypeDesc.func #[68,100] #[] false),false,false⟩
def ti120:TI:=⟨1,8,.nilFunc,(TypeDesc.func #[68,100,3,4,4] #[68,9] false),false,false⟩
def ti121:TI:=⟨1,8,.int .u64 0,(TypeDesc.int IntKind.u64),false,false⟩
def ti122:TI:=⟨1,8,.nilFunc,(TypeDesc.func #[3] #[87] false),false,false⟩
def ti123:TI:=⟨1,8,.nilFunc,(TypeDesc.func #[] #[100] false),false,false⟩
def ti124:TI:=⟨1,8,.nilFunc,(TypeDesc.func #[27,3,125,56] #[3] false),false,false⟩
def ti125:TI:=⟨1,8,.pointer none,(TypeDesc.pointer 3),false,false⟩
def ti126:TI:=⟨1,8,.nilFunc,(TypeDesc.func #[27,3,3,3,125,56] #[3] false),false,false⟩
def ti127:TI:=⟨1,8,.nilFunc,(TypeDesc.func #[3] #[3] false),false,false⟩
def ti128:TI:=⟨1,8,.nilFunc,(TypeDesc.func #[4] #[3] false),false,false⟩
def ti129:TI:=⟨20,160,.agg #[.int .u64 0,.int .u64 0,.int .u64 0,.int .u64 0,.int .u64 0,.int .u64 0,.int .u64 0,.int .u64 0,.int .u64 0,.int .u64 0,.int .u64 0,.int .u64 0,.int .u64 0,.int .u64 0,.int .u64 0,.int .u64 0,.int .u64 0,.int .u64 0,.int .u64 0,.int .u64 0],(TypeDesc.array 20 100),false,false⟩
def ti130:TI:=⟨65,65,.agg #[.int .u8 0,.int .u8 0,.int .u8 0,.int .u8 0,.int .u8 0,.int .u8 0,.int .u8 0,.int .u8 0,.int .u8 0,.int .u8 0,.int .u8 0,.int .u8 0,.int .u8 0,.int .u8 0,.int .u8 0,.int .u8 0,.int .u8 0,.int .u8 0,.int .u8 0,.int .u8 0,.int .u8 0,.int .u8 0,.int .u8 0,.int .u8 0,.int .u8 0,.int .u8 0,.int .u8 0,.int .u8 0,.int .u8 0,.int .u8 0,.int .u8 0,.int .u8 0,.int .u8 0,.int .u8 0,.int .u8 0,.int .u8 0,.int .u8 0,.int .u8 0,.int .u8 0,.int .u8 0,.int .u8 0,.int .u8 0,.int .u8 0,.int .u8 0,.int .u8 0,.int .u8 0,.int .u8 0,.int .u8 0,.int .u8 0,.int .u8 0,.int .u8 0,.int .u8 0,.int .u8 0,.int .u8 0,.int .u8 0,.int .u8 0,.int .u8 0,.int .u8 0,.int .u8 0,.int .u8 0,.int .u8 0,.int .u8 0,.int .u8 0,.int .u8 0,.int .u8 0],(TypeDesc.array 65 5),false,false⟩
def ti131:TI:=⟨1,8,.nilFunc,(TypeDesc.func #[3] #[68] false),false,false⟩
def ti132:TI:=⟨1,8,.pointer none,(TypeDesc.pointer 121),false,false⟩
def ti134:TI:=⟨1,8,.nilFunc,(TypeDesc.func #[27,3,3,125,56] #[3,3] false),false,false⟩
def ti135:TI:=⟨32,32,.agg #[.int .u8 0,.int .u8 0,.int .u8 0,.int .u8 0,.int .u8 0,.int .u8 0,.int .u8 0,.int .u8 0,.int .u8 0,.int .u8 0,.int .u8 0,.int .u8 0,.int .u8 0,.int .u8 0,.int .u8 0,.int .u8 0,.int .u8 0,.int .u8 0,.int .u8 0,.int .u8 0,.int .u8 0,.int .u8 0,.int .u8 0,.int .u8 0,.int .u8 0,.int .u8 0,.int .u8 0,.int .u8 0,.int .u8 0,.int .u8 0,.int .u8 0,.int .u8 0],(TypeDesc.array 32 5),false,false⟩
def ti136:TI:=⟨64,64,.agg #[.int .u8 0,.int .u8 0,.int .u8 0,.int .u8 0,.int .u8 0,.int .u8 0,.int .u8 0,.int .u8 0,.int .u8 0,.int .u8 0,.int .u8 0,.int .u8 0,.int .u8 0,.int .u8 0,.int .u8 0,.int .u8 0,.int .u8 0,.int .u8 0,.int .u8 0,.int .u8 0,.int .u8 0,.int .u8 0,.int .u8 0,.int .u8 0,.int .u8 0,.int .u8 0,.int .u8 0,.int .u8 0,.int .u8 0,.int .u8 0,.int .u8 0,.int .u8 0,.int .u8 0,.int .u8 0,.int .u8 0,.int .u8 0,.int .u8 0,.int .u8 0,.int .u8 0,.int .u8 0,.int .u8 0,.int .u8 0,.int .u8 0,.int .u8 0,.int .u8 0,.int .u8 0,.int .u8 0,.int .u8 0,.int .u8 0,.int .u8 0,.int .u8 0,.int .u8 0,.int .u8 0,.int .u8 0,.int .u8 0,.int .u8 0,.int .u8 0,.int .u8 0,.int .u8 0,.int .u8 0,.int .u8 0,.int .u8 0,.int .u8 0,.int .u8 0],(TypeDesc.array 64 5),false,false⟩
def ti137 : TI := ⟨4, 40, .agg #[.pointer none, .pointer none, .pointer none, .string ByteArray.empty], (TypeDesc.struct #[{ name := "_interface", type := 17, offset := 0, embedded := false, tag := "", pkgPath := "runtime", byteOffset := 0 }, { name := "concrete", type := 17, offset := 1, embedded := false, tag := "", pkgPath := "runtime", byteOffset := 8 }, { name := "asserted", type := 17, offset := 2, embedded := false, tag := "", pkgPath := "runtime", byteOffset := 16 }, { name := "missingMethod", type := 9, offset := 3, embedded := false, tag := "", pkgPath := "runtime", byteOffset := 24 }]), false, false⟩
def ti138 : TI := ⟨4, 40, .agg #[.pointer none, .pointer none, .pointer none, .string ByteArray.empty], (TypeDesc.struct #[{ name := "_interface", type := 17, offset := 0, embedded := false, tag := "", pkgPath := "runtime", byteOffset := 0 }, { name := "concrete", type := 17, offset := 1, embedded := false, tag := "", pkgPath := "runtime", byteOffset := 8 }, { name := "asserted", type := 17, offset := 2, embedded := false, tag := "", pkgPath := "runtime", byteOffset := 16 }, { name := "missingMethod", type := 9, offset := 3, embedded := false, tag := "", pkgPath := "runtime", byteOffset := 24 }]), false, false⟩
def ti139:TI:=⟨0,0,.agg #[],(TypeDesc.array 0 16),false,false⟩
def ti140 : TI := ⟨0, 0, .agg #[], (TypeDesc.struct #[{ name := "_", type := 139, offset := 0, embedded := false, tag := "", pkgPath := "runtime", byteOffset := 0 }]), false, false⟩
def ti141 : TI := ⟨0, 0, .agg #[], (TypeDesc.struct #[{ name := "_", type := 139, offset := 0, embedded := false, tag := "", pkgPath := "runtime", byteOffset := 0 }]), false, false⟩
def ti142:TI:=⟨1,8,.nilFunc,(TypeDesc.func #[] #[3] false),false,false⟩
def ti143:TI:=⟨1,1,.int .u8 0,(TypeDesc.int IntKind.u8),false,false⟩
def ti144:TI:=⟨1,1,.int .u8 0,(TypeDesc.int IntKind.u8),false,false⟩
def ti145:TI:=⟨1,8,.nilFunc,(TypeDesc.func #[104,104] #[4] false),false,false⟩
def ti146:TI:=⟨1,4,.int .i32 0,(TypeDesc.int IntKind.i32),false,false⟩
def ti147:TI:=⟨1,4,.int .i32 0,(TypeDesc.int IntKind.i32),false,false⟩
def ti148 : TI := ⟨11, 48, .agg #[.int .u64 0, .int .u64 0, .int .u32 0, .int .u8 0, .int .u8 0, .int .u8 0, .int .u8 0, .nilFunc, .pointer none, .int .i32 0, .int .i32 0], (TypeDesc.struct #[{ name := "Size_", type := 12, offset := 0, embedded := false, tag := "", pkgPath := "", byteOffset := 0 }, { name := "PtrBytes", type := 12, offset := 1, embedded := false, tag := "", pkgPath := "", byteOffset := 8 }, { name := "Hash", type := 97, offset := 2, embedded := false, tag := "", pkgPath := "", byteOffset := 16 }, { name := "TFlag", type := 143, offset := 3, embedded := false, tag := "", pkgPath := "", byteOffset := 20 }, { name := "Align_", type := 5, offset := 4, embedded := false, tag := "", pkgPath := "", byteOffset := 21 }, { name := "FieldAlign_", type := 5, offset := 5, embedded := false, tag := "", pkgPath := "", byteOffset := 22 }, { name := "Kind_", type := 144, offset := 6, embedded := false, tag := "", pkgPath := "", byteOffset := 23 }, { name := "Equal", type := 145, offset := 7, embedded := false, tag := "", pkgPath := "", byteOffset := 24 }, { name := "GCData", type := 93, offset := 8, embedded := false, tag := "", pkgPath := "", byteOffset := 32 }, { name := "Str", type := 146, offset := 9, embedded := false, tag := "", pkgPath := "", byteOffset := 40 }, { name := "PtrToThis", type := 147, offset := 10, embedded := false, tag := "", pkgPath := "", byteOffset := 44 }]), false, false⟩
def ti149 : TI := ⟨11, 48, .agg #[.int .u64 0, .int .u64 0, .int .u32 0, .int .u8 0, .int .u8 0, .int .u8 0, .int .u8 0, .nilFunc, .pointer none, .int .i32 0, .int .i32 0], (TypeDesc.struct #[{ name := "Size_", type := 12, offset := 0, embedded := false, tag := "", pkgPath := "", byteOffset := 0 }, { name := "PtrBytes", type := 12, offset := 1, embedded := false, tag := "", pkgPath := "", byteOffset := 8 }, { name := "Hash", type := 97, offset := 2, embedded := false, tag := "", pkgPath := "", byteOffset := 16 }, { name := "TFlag", type := 143, offset := 3, embedded := false, tag := "", pkgPath := "", byteOffset := 20 }, { name := "Align_", type := 5, offset := 4, embedded := false, tag := "", pkgPath := "", byteOffset := 21 }, { name := "FieldAlign_", type := 5, offset := 5, embedded := false, tag := "", pkgPath := "", byteOffset := 22 }, { name := "Kind_", type := 144, offset := 6, embedded := false, tag := "", pkgPath := "", byteOffset := 23 }, { name := "Equal", type := 145, offset := 7, embedded := false, tag := "", pkgPath := "", byteOffset := 24 }, { name := "GCData", type := 93, offset := 8, embedded := false, tag := "", pkgPath := "", byteOffset := 32 }, { name := "Str", type := 146, offset := 9, embedded := false, tag := "", pkgPath := "", byteOffset := 40 }, { name := "PtrToThis", type := 147, offset := 10, embedded := false, tag := "", pkgPath := "", byteOffset := 44 }]), false, false⟩
noncomputable def tyTab:List (Nat×TI):=[(1,ti1),(2,ti2),(3,ti3),(4,ti4),(5,ti5),(6,ti6),(7,ti7),(8,ti8),(9,ti9),(10,ti10),(11,ti11),(12,ti12),(13,ti13),(14,ti14),(15,ti15),(16,ti16),(17,ti17),(18,ti18),(19,ti19),(20,ti20),(21,ti21),(22,ti22),(23,ti23),(24,ti24),(25,ti25),(26,ti26),(27,ti27),(28,ti28),(29,ti29),(30,ti30),(31,ti31),(32,ti32),(33,ti33),(34,ti34),(36,ti36),(37,ti37),(38,ti38),(39,ti39),(40,ti40),(41,ti41),(42,ti42),(44,ti44),(45,ti45),(47,ti47),(48,ti48),(49,ti49),(50,ti50),(51,ti51),(52,ti52),(53,ti53),(54,ti54),(55,ti55),(56,ti56),(57,ti57),(58,ti58),(59,ti59),(60,ti60),(61,ti61),(62,ti62),(63,ti63),(64,ti64),(65,ti65),(66,ti66),(67,ti67),(68,ti68),(69,ti69),(70,ti70),(71,ti71),(72,ti72),(73,ti73),(75,ti75),(76,ti76),(77,ti77),(78,ti78),(79,ti79),(80,ti80),(81,ti81),(82,ti82),(83,ti83),(84,ti84),(85,ti85),(86,ti86),(87,ti87),(89,ti89),(90,ti90),(91,ti91),(92,ti92),(93,ti93),(94,ti94),(95,ti95),(96,ti96),(97,ti97),(99,ti99),(100,ti100),(102,ti102),(103,ti103),(105,ti105),(106,ti106),(107,ti107),(108,ti108),(110,ti110),(111,ti111),(112,ti112),(114,ti114),(115,ti115),(116,ti116),(117,ti117),(118,ti118),(120,ti120),(121,ti121),(122,ti122),(123,ti123),(124,ti124),(125,ti125),(126,ti126),(127,ti127),(128,ti128),(129,ti129),(130,ti130),(131,ti131),(132,ti132),(134,ti134),(135,ti135),(136,ti136),(137,ti137),(138,ti138),(139,ti139),(140,ti140),(141,ti141),(142,ti142),(143,ti143),(144,ti144),(145,ti145),(146,ti146),(147,ti147),(148,ti148),(149,ti149)]
noncomputable def Γ (t:TypeId):Option TI:=look t tyTab
theorem laidOut0:laidOutB Go.Proofs.Tryd.prog=true:=by kernel_rfl
theorem tysz2:Go.Proofs.Tryd.prog.types.size=(Go.Proofs.Tryd.prog.types.size - 2) + 2:=by kernel_rfl
theorem tysz:Go.Proofs.Tryd.prog.types.size=(Go.Proofs.Tryd.prog.types.size - 1) + 1:=by kernel_rfl
@[simp] theorem G1:Γ 1=some ti1:=rfl
@[simp] theorem G2:Γ 2=some ti2:=rfl
@[simp] theorem G3:Γ 3=some ti3:=rfl
@[simp] theorem G4:Γ 4=some ti4:=rfl
@[simp] theorem G5:Γ 5=some ti5:=rfl
@[simp] theorem G6:Γ 6=some ti6:=rfl
@[simp] theorem G7:Γ 7=some ti7:=rfl
@[simp] theorem G8:Γ 8=some ti8:=rfl
@[simp] theorem G9:Γ 9=some ti9:=rfl
@[simp] theorem G10:Γ 10=some ti10:=rfl
@[simp] theorem G11:Γ 11=some ti11:=rfl
@[simp] theorem G12:Γ 12=some ti12:=rfl
@[simp] theorem G13:Γ 13=some ti13:=rfl
@[simp] theorem G14:Γ 14=some ti14:=rfl
@[simp] theorem G15:Γ 15=some ti15:=rfl
@[simp] theorem G16:Γ 16=some ti16:=rfl
@[simp] theorem G17:Γ 17=some ti17:=rfl
@[simp] theorem G18:Γ 18=some ti18:=rfl
@[simp] theorem G19:Γ 19=some ti19:=rfl
@[simp] theorem G20:Γ 20=some ti20:=rfl
@[simp] theorem G21:Γ 21=some ti21:=rfl
@[simp] theorem G22:Γ 22=some ti22:=rfl
@[simp] theorem G23:Γ 23=some ti23:=rfl
@[simp] theorem G24:Γ 24=some ti24:=rfl
@[simp] theorem G25:Γ 25=some ti25:=rfl
@[simp] theorem G26:Γ 26=some ti26:=rfl
@[simp] theorem G27:Γ 27=some ti27:=rfl
@[simp] theorem G28:Γ 28=some ti28:=rfl
@[simp] theorem G29:Γ 29=some ti29:=rfl
@[simp] theorem G30:Γ 30=some ti30:=rfl
@[simp] theorem G31:Γ 31=some ti31:=rfl
@[simp] theorem G32:Γ 32=some ti32:=rfl
@[simp] theorem G33:Γ 33=some ti33:=rfl
@[simp] theorem G34:Γ 34=some ti34:=rfl
@[simp] theorem G36:Γ 36=some ti36:=rfl
@[simp] theorem G37:Γ 37=some ti37:=rfl
@[simp] theorem G38:Γ 38=some ti38:=rfl
@[simp] theorem G39:Γ 39=some ti39:=rfl
@[simp] theorem G40:Γ 40=some ti40:=rfl
@[simp] theorem G41:Γ 41=some ti41:=rfl
@[simp] theorem G42:Γ 42=some ti42:=rfl
@[simp] theorem G44:Γ 44=some ti44:=rfl
@[simp] theorem G45:Γ 45=some ti45:=rfl
@[simp] theorem G47:Γ 47=some ti47:=rfl
@[simp] theorem G48:Γ 48=some ti48:=rfl
@[simp] theorem G49:Γ 49=some ti49:=rfl
@[simp] theorem G50:Γ 50=some ti50:=rfl
@[simp] theorem G51:Γ 51=some ti51:=rfl
@[simp] theorem G52:Γ 52=some ti52:=rfl
@[simp] theorem G53:Γ 53=some ti53:=rfl
@[simp] theorem G54:Γ 54=some ti54:=rfl
@[simp] theorem G55:Γ 55=some ti55:=rfl
@[simp] theorem G56:Γ 56=some ti56:=rfl
@[simp] theorem G57:Γ 57=some ti57:=rfl
@[simp] theorem G58:Γ 58=some ti58:=rfl
@[simp] theorem G59:Γ 59=some ti59:=rfl
@[simp] theorem G60:Γ 60=some ti60:=rfl
@[simp] theorem G61:Γ 61=some ti61:=rfl
@[simp] theorem G62:Γ 62=some ti62:=rfl
@[simp] theorem G63:Γ 63=some ti63:=rfl
@[simp] theorem G64:Γ 64=some ti64:=rfl
@[simp] theorem G65:Γ 65=some ti65:=rfl
@[simp] theorem G66:Γ 66=some ti66:=rfl
@[simp] theorem G67:Γ 67=some ti67:=rfl
@[simp] theorem G68:Γ 68=some ti68:=rfl
@[simp] theorem G69:Γ 69=some ti69:=rfl
@[simp] theorem G70:Γ 70=some ti70:=rfl
@[simp] theorem G71:Γ 71=some ti71:=rfl
@[simp] theorem G72:Γ 72=some ti72:=rfl
@[simp] theorem G73:Γ 73=some ti73:=rfl
@[simp] theorem G75:Γ 75=some ti75:=rfl
@[simp] theorem G76:Γ 76=some ti76:=rfl
@[simp] theorem G77:Γ 77=some ti77:=rfl
@[simp] theorem G78:Γ 78=some ti78:=rfl
@[simp] theorem G79:Γ 79=some ti79:=rfl
@[simp] theorem G80:Γ 80=some ti80:=rfl
@[simp] theorem G81:Γ 81=some ti81:=rfl
@[simp] theorem G82:Γ 82=some ti82:=rfl
@[simp] theorem G83:Γ 83=some ti83:=rfl
@[simp] theorem G84:Γ 84=some ti84:=rfl
@[simp] theorem G85:Γ 85=some ti85:=rfl
@[simp] theorem G86:Γ 86=some ti86:=rfl
@[simp] theorem G87:Γ 87=some ti87:=rfl
@[simp] theorem G89:Γ 89=some ti89:=rfl
@[simp] theorem G90:Γ 90=some ti90:=rfl
@[simp] theorem G91:Γ 91=some ti91:=rfl
@[simp] theorem G92:Γ 92=some ti92:=rfl
@[simp] theorem G93:Γ 93=some ti93:=rfl
@[simp] theorem G94:Γ 94=some ti94:=rfl
@[simp] theorem G95:Γ 95=some ti95:=rfl
@[simp] theorem G96:Γ 96=some ti96:=rfl
@[simp] theorem G97:Γ 97=some ti97:=rfl
@[simp] theorem G99:Γ 99=some ti99:=rfl
@[simp] theorem G100:Γ 100=some ti100:=rfl
@[simp] theorem G102:Γ 102=some ti102:=rfl
@[simp] theorem G103:Γ 103=some ti103:=rfl
@[simp] theorem G105:Γ 105=some ti105:=rfl
@[simp] theorem G106:Γ 106=some ti106:=rfl
@[simp] theorem G107:Γ 107=some ti107:=rfl
@[simp] theorem G108:Γ 108=some ti108:=rfl
@[simp] theorem G110:Γ 110=some ti110:=rfl
@[simp] theorem G111:Γ 111=some ti111:=rfl
@[simp] theorem G112:Γ 112=some ti112:=rfl
@[simp] theorem G114:Γ 114=some ti114:=rfl
@[simp] theorem G115:Γ 115=some ti115:=rfl
@[simp] theorem G116:Γ 116=some ti116:=rfl
@[simp] theorem G117:Γ 117=some ti117:=rfl
@[simp] theorem G118:Γ 118=some ti118:=rfl
@[simp] theorem G120:Γ 120=some ti120:=rfl
@[simp] theorem G121:Γ 121=some ti121:=rfl
@[simp] theorem G122:Γ 122=some ti122:=rfl
@[simp] theorem G123:Γ 123=some ti123:=rfl
@[simp] theorem G124:Γ 124=some ti124:=rfl
@[simp] theorem G125:Γ 125=some ti125:=rfl
@[simp] theorem G126:Γ 126=some ti126:=rfl
@[simp] theorem G127:Γ 127=some ti127:=rfl
@[simp] theorem G128:Γ 128=some ti128:=rfl
@[simp] theorem G129:Γ 129=some ti129:=rfl
@[simp] theorem G130:Γ 130=some ti130:=rfl
@[simp] theorem G131:Γ 131=some ti131:=rfl
@[simp] theorem G132:Γ 132=some ti132:=rfl
@[simp] theorem G134:Γ 134=some ti134:=rfl
@[simp] theorem G135:Γ 135=some ti135:=rfl
@[simp] theorem G136:Γ 136=some ti136:=rfl
@[simp] theorem G137:Γ 137=some ti137:=rfl
@[simp] theorem G138:Γ 138=some ti138:=rfl
@[simp] theorem G139:Γ 139=some ti139:=rfl
@[simp] theorem G140:Γ 140=some ti140:=rfl
@[simp] theorem G141:Γ 141=some ti141:=rfl
@[simp] theorem G142:Γ 142=some ti142:=rfl
@[simp] theorem G143:Γ 143=some ti143:=rfl
@[simp] theorem G144:Γ 144=some ti144:=rfl
@[simp] theorem G145:Γ 145=some ti145:=rfl
@[simp] theorem G146:Γ 146=some ti146:=rfl
@[simp] theorem G147:Γ 147=some ti147:=rfl
@[simp] theorem G148:Γ 148=some ti148:=rfl
@[simp] theorem G149:Γ 149=some ti149:=rfl
attribute [simp] ti1
attribute [simp] ti2
attribute [simp] ti3
attribute [simp] ti4
attribute [simp] ti5
attribute [simp] ti6
attribute [simp] ti7
attribute [simp] ti8
attribute [simp] ti9
attribute [simp] ti10
attribute [simp] ti11
attribute [simp] ti12
attribute [simp] ti13
attribute [simp] ti14
attribute [simp] ti15
attribute [simp] ti16
attribute [simp] ti17
attribute [simp] ti18
attribute [simp] ti19
attribute [simp] ti20
attribute [simp] ti21
attribute [simp] ti22
attribute [simp] ti23
attribute [simp] ti24
attribute [simp] ti25
attribute [simp] ti26
attribute [simp] ti27
attribute [simp] ti28
attribute [simp] ti29
attribute [simp] ti30
attribute [simp] ti31
attribute [simp] ti32
attribute [simp] ti33
attribute [simp] ti34
attribute [simp] ti36
attribute [simp] ti37
attribute [simp] ti38
attribute [simp] ti39
attribute [simp] ti40
attribute [simp] ti41
attribute [simp] ti42
attribute [simp] ti44
attribute [simp] ti45
attribute [simp] ti47
attribute [simp] ti48
attribute [simp] ti49
attribute [simp] ti50
attribute [simp] ti51
attribute [simp] ti52
attribute [simp] ti53
attribute [simp] ti54
attribute [simp] ti55
attribute [simp] ti56
attribute [simp] ti57
attribute [simp] ti58
attribute [simp] ti59
attribute [simp] ti60
attribute [simp] ti61
attribute [simp] ti62
attribute [simp] ti63
attribute [simp] ti64
attribute [simp] ti65
attribute [simp] ti66
attribute [simp] ti67
attribute [simp] ti68
attribute [simp] ti69
attribute [simp] ti70
attribute [simp] ti71
attribute [simp] ti72
attribute [simp] ti73
attribute [simp] ti75
attribute [simp] ti76
attribute [simp] ti77
attribute [simp] ti78
attribute [simp] ti79
attribute [simp] ti80
attribute [simp] ti81
attribute [simp] ti82
attribute [simp] ti83
attribute [simp] ti84
attribute [simp] ti85
attribute [simp] ti86
attribute [simp] ti87
attribute [simp] ti89
attribute [simp] ti90
attribute [simp] ti91
attribute [simp] ti92
attribute [simp] ti93
attribute [simp] ti94
attribute [simp] ti95
attribute [simp] ti96
attribute [simp] ti97
attribute [simp] ti99
attribute [simp] ti100
attribute [simp] ti102
attribute [simp] ti103
attribute [simp] ti105
attribute [simp] ti106
attribute [simp] ti107
attribute [simp] ti108
attribute [simp] ti110
attribute [simp] ti111
attribute [simp] ti112
attribute [simp] ti114
attribute [simp] ti115
attribute [simp] ti116
attribute [simp] ti117
attribute [simp] ti118
attribute [simp] ti120
attribute [simp] ti121
attribute [simp] ti122
attribute [simp] ti123
attribute [simp] ti124
attribute [simp] ti125
attribute [simp] ti126
attribute [simp] ti127
attribute [simp] ti128
attribute [simp] ti129
attribute [simp] ti130
attribute [simp] ti131
attribute [simp] ti132
attribute [simp] ti134
attribute [simp] ti135
attribute [simp] ti136
attribute [simp] ti137
attribute [simp] ti138
attribute [simp] ti139
attribute [simp] ti140
attribute [simp] ti141
attribute [simp] ti142
attribute [simp] ti143
attribute [simp] ti144
attribute [simp] ti145
attribute [simp] ti146
attribute [simp] ti147
attribute [simp] ti148
attribute [simp] ti149
theorem fi28:FlatI Go.Proofs.Tryd.prog 0 (fieldsD ti28.desc).toList:=⟨by decide,rfl,Go.Proofs.Tryd.underlying3,by kernel_rfl,⟨by decide,rfl,Go.Proofs.Tryd.underlying3,by kernel_rfl,⟨by decide,rfl,Go.Proofs.Tryd.underlying3,by kernel_rfl,trivial⟩⟩⟩
theorem kl28:Maps.Keyed Go.Proofs.Tryd.prog 28:=Maps.Keyed.of_law (deep_law_laid laidOut0 (m:=2) (by decide) (by decide +kernel) (by kernel_rfl) (by rw [Go.Proofs.Tryd.underlying28]))
theorem fl28:EqFlat Go.Proofs.Tryd.prog 28:=eqFlat_ints Go.Proofs.Tryd.underlying28 (by kernel_rfl) (by kernel_rfl) (by kernel_rfl) fi28.flatF
theorem kt28:KeyTI Go.Proofs.Tryd.prog 28 ti28.zero:=keyTI_struct Go.Proofs.Tryd.underlying28 kl28 (by kernel_rfl) (by kernel_rfl) (by decide +kernel) tysz fi28 rfl
theorem fi29:FlatI Go.Proofs.Tryd.prog 0 (fieldsD ti29.desc).toList:=⟨by decide,rfl,Go.Proofs.Tryd.underlying3,by kernel_rfl,⟨by decide,rfl,Go.Proofs.Tryd.underlying3,by kernel_rfl,⟨by decide,rfl,Go.Proofs.Tryd.underlying3,by kernel_rfl,trivial⟩⟩⟩
theorem kl29:Maps.Keyed Go.Proofs.Tryd.prog 29:=Maps.Keyed.of_law (deep_law_laid laidOut0 (m:=2) (by decide) (by decide +kernel) (by kernel_rfl) (by rw [Go.Proofs.Tryd.underlying29]))
theorem fl29:EqFlat Go.Proofs.Tryd.prog 29:=eqFlat_ints Go.Proofs.Tryd.underlying29 (by kernel_rfl) (by kernel_rfl) (by kernel_rfl) fi29.flatF
theorem kt29:KeyTI Go.Proofs.Tryd.prog 29 ti29.zero:=keyTI_struct Go.Proofs.Tryd.underlying29 kl29 (by kernel_rfl) (by kernel_rfl) (by decide +kernel) tysz fi29 rfl
theorem fi49:FlatI Go.Proofs.Tryd.prog 0 (fieldsD ti49.desc).toList:=⟨by decide,rfl,Go.Proofs.Tryd.underlying3,by kernel_rfl,⟨by decide,rfl,Go.Proofs.Tryd.underlying3,by kernel_rfl,trivial⟩⟩
theorem kl49:Maps.Keyed Go.Proofs.Tryd.prog 49:=Maps.Keyed.of_law (deep_law_laid laidOut0 (m:=2) (by decide) (by decide +kernel) (by kernel_rfl) (by rw [Go.Proofs.Tryd.underlying49]))
theorem fl49:EqFlat Go.Proofs.Tryd.prog 49:=eqFlat_ints Go.Proofs.Tryd.underlying49 (by kernel_rfl) (by kernel_rfl) (by kernel_rfl) fi49.flatF
theorem kt49:KeyTI Go.Proofs.Tryd.prog 49 ti49.zero:=keyTI_struct Go.Proofs.Tryd.underlying49 kl49 (by kernel_rfl) (by kernel_rfl) (by decide +kernel) tysz fi49 rfl
theorem fi50:FlatI Go.Proofs.Tryd.prog 0 (fieldsD ti50.desc).toList:=⟨by decide,rfl,Go.Proofs.Tryd.underlying3,by kernel_rfl,⟨by decide,rfl,Go.Proofs.Tryd.underlying3,by kernel_rfl,trivial⟩⟩
theorem kl50:Maps.Keyed Go.Proofs.Tryd.prog 50:=Maps.Keyed.of_law (deep_law_laid laidOut0 (m:=2) (by decide) (by decide +kernel) (by kernel_rfl) (by rw [Go.Proofs.Tryd.underlying50]))
theorem fl50:EqFlat Go.Proofs.Tryd.prog 50:=eqFlat_ints Go.Proofs.Tryd.underlying50 (by kernel_rfl) (by kernel_rfl) (by kernel_rfl) fi50.flatF
theorem kt50:KeyTI Go.Proofs.Tryd.prog 50 ti50.zero:=keyTI_struct Go.Proofs.Tryd.underlying50 kl50 (by kernel_rfl) (by kernel_rfl) (by decide +kernel) tysz fi50 rfl
theorem ca82:CellsI Go.Proofs.Tryd.prog 0 9 (fieldsD ti82.desc).toList:=⟨by decide,rfl,.inr ⟨8,3,Go.Proofs.Tryd.underlying81,Go.Proofs.Tryd.underlying3,by kernel_rfl,by kernel_rfl,⟨by decide,rfl,.inl ⟨Go.Proofs.Tryd.underlying3,by kernel_rfl,rfl⟩⟩⟩⟩
theorem ku82:Go.Proofs.Tryd.prog.underlying 82=some (.struct (fieldsD ti82.desc)):=by kernel_rfl
theorem kl82:Maps.Keyed Go.Proofs.Tryd.prog 82:=Maps.Keyed.of_law (deep_law_laid laidOut0 (m:=3) (by decide) (by decide +kernel) (by kernel_rfl) (by rw [ku82]))
theorem kt82:KeyTI Go.Proofs.Tryd.prog 82 ti82.zero:=keyTI_cells ku82 kl82 (by kernel_rfl) (by kernel_rfl) (by decide +kernel) tysz2 ca82 rfl
theorem ca83:CellsI Go.Proofs.Tryd.prog 0 9 (fieldsD ti83.desc).toList:=⟨by decide,rfl,.inr ⟨8,3,Go.Proofs.Tryd.underlying81,Go.Proofs.Tryd.underlying3,by kernel_rfl,by kernel_rfl,⟨by decide,rfl,.inl ⟨Go.Proofs.Tryd.underlying3,by kernel_rfl,rfl⟩⟩⟩⟩
theorem ku83:Go.Proofs.Tryd.prog.underlying 83=some (.struct (fieldsD ti83.desc)):=by kernel_rfl
theorem kl83:Maps.Keyed Go.Proofs.Tryd.prog 83:=Maps.Keyed.of_law (deep_law_laid laidOut0 (m:=3) (by decide) (by decide +kernel) (by kernel_rfl) (by rw [ku83]))
theorem kt83:KeyTI Go.Proofs.Tryd.prog 83 ti83.zero:=keyTI_cells ku83 kl83 (by kernel_rfl) (by kernel_rfl) (by decide +kernel) tysz2 ca83 rfl
theorem tk1:TIOk Go.Proofs.Tryd.prog 1 ti1:=⟨by kernel_rfl,Go.Proofs.Tryd.underlying1,(fun h=>by cases h),(fun h=>by cases h),by rfl,by kernel_rfl⟩
theorem tk2:TIOk Go.Proofs.Tryd.prog 2 ti2:=⟨by kernel_rfl,Go.Proofs.Tryd.underlying2,(fun h=>by cases h),(fun h=>by cases h),by rfl,by kernel_rfl⟩
theorem tk3:TIOk Go.Proofs.Tryd.prog 3 ti3:=⟨by kernel_rfl,Go.Proofs.Tryd.underlying3,(fun h=>by cases h),(fun h=>by cases h),by rfl,by kernel_rfl⟩
theorem tk4:TIOk Go.Proofs.Tryd.prog 4 ti4:=⟨by kernel_rfl,Go.Proofs.Tryd.underlying4,(fun h=>by cases h),(fun h=>by cases h),by rfl,by kernel_rfl⟩
theorem tk5:TIOk Go.Proofs.Tryd.prog 5 ti5:=⟨by kernel_rfl,Go.Proofs.Tryd.underlying5,(fun h=>by cases h),(fun h=>by cases h),by rfl,by kernel_rfl⟩
theorem tk6:TIOk Go.Proofs.Tryd.prog 6 ti6:=⟨by kernel_rfl,Go.Proofs.Tryd.underlying6,(fun h=>by cases h),(fun h=>by cases h),by rfl,by kernel_rfl⟩
theorem tk7:TIOk Go.Proofs.Tryd.prog 7 ti7:=⟨by kernel_rfl,Go.Proofs.Tryd.underlying7,(fun h=>by cases h),(fun h=>by cases h),by rfl,by kernel_rfl⟩
theorem tk8:TIOk Go.Proofs.Tryd.prog 8 ti8:=⟨by kernel_rfl,Go.Proofs.Tryd.underlying8,(fun h=>by cases h),(fun h=>by cases h),by rfl,by kernel_rfl⟩
theorem tk9:TIOk Go.Proofs.Tryd.prog 9 ti9:=⟨by kernel_rfl,Go.Proofs.Tryd.underlying9,(fun h=>by cases h),(fun h=>by cases h),by rfl,by kernel_rfl⟩
theorem tk10:TIOk Go.Proofs.Tryd.prog 10 ti10:=⟨by kernel_rfl,Go.Proofs.Tryd.underlying10,(fun h=>by cases h),(fun h=>by cases h),by rfl,by kernel_rfl⟩
theorem tk11:TIOk Go.Proofs.Tryd.prog 11 ti11:=⟨by kernel_rfl,Go.Proofs.Tryd.underlying11,(fun h=>by cases h),(fun h=>by cases h),by rfl,by kernel_rfl⟩
theorem tk12:TIOk Go.Proofs.Tryd.prog 12 ti12:=⟨by kernel_rfl,Go.Proofs.Tryd.underlying12,(fun h=>by cases h),(fun h=>by cases h),by rfl,by kernel_rfl⟩
theorem tk13:TIOk Go.Proofs.Tryd.prog 13 ti13:=⟨by kernel_rfl,Go.Proofs.Tryd.underlying13,(fun h=>by cases h),(fun h=>by cases h),by rfl,by kernel_rfl⟩
theorem tk14:TIOk Go.Proofs.Tryd.prog 14 ti14:=⟨by kernel_rfl,Go.Proofs.Tryd.underlying14,(fun h=>by cases h),(fun h=>by cases h),by rfl,by kernel_rfl⟩
theorem tk15:TIOk Go.Proofs.Tryd.prog 15 ti15:=⟨by kernel_rfl,Go.Proofs.Tryd.underlying15,(fun h=>by cases h),(fun h=>by cases h),by rfl,by kernel_rfl⟩
theorem tk16:TIOk Go.Proofs.Tryd.prog 16 ti16:=⟨by kernel_rfl,Go.Proofs.Tryd.underlying16,(fun h=>by cases h),(fun h=>by cases h),by rfl,by kernel_rfl⟩
theorem tk17:TIOk Go.Proofs.Tryd.prog 17 ti17:=⟨by kernel_rfl,Go.Proofs.Tryd.underlying17,(fun h=>by cases h),(fun h=>by cases h),by rfl,by kernel_rfl⟩
theorem tk18:TIOk Go.Proofs.Tryd.prog 18 ti18:=⟨by kernel_rfl,by kernel_rfl,(fun h=>by cases h),(fun h=>by cases h),by rfl,by kernel_rfl⟩
theorem tk19:TIOk Go.Proofs.Tryd.prog 19 ti19:=⟨by kernel_rfl,by kernel_rfl,(fun h=>by cases h),(fun h=>by cases h),by rfl,by kernel_rfl⟩
theorem tk20:TIOk Go.Proofs.Tryd.prog 20 ti20:=⟨by kernel_rfl,Go.Proofs.Tryd.underlying20,(fun h=>by cases h),(fun h=>by cases h),by rfl,by kernel_rfl⟩
theorem tk21:TIOk Go.Proofs.Tryd.prog 21 ti21:=⟨by kernel_rfl,Go.Proofs.Tryd.underlying21,(fun h=>by cases h),(fun h=>by cases h),by rfl,by kernel_rfl⟩
theorem tk22:TIOk Go.Proofs.Tryd.prog 22 ti22:=⟨by kernel_rfl,Go.Proofs.Tryd.underlying22,(fun h=>by cases h),(fun h=>by cases h),by rfl,by kernel_rfl⟩
theorem tk23:TIOk Go.Proofs.Tryd.prog 23 ti23:=⟨by kernel_rfl,Go.Proofs.Tryd.underlying23,(fun h=>by cases h),(fun h=>by cases h),by rfl,by kernel_rfl⟩
theorem tk24:TIOk Go.Proofs.Tryd.prog 24 ti24:=⟨by kernel_rfl,Go.Proofs.Tryd.underlying24,(fun h=>by cases h),(fun h=>by cases h),by rfl,by kernel_rfl⟩
theorem tk25:TIOk Go.Proofs.Tryd.prog 25 ti25:=⟨by kernel_rfl,Go.Proofs.Tryd.underlying25,(fun h=>by cases h),(fun h=>by cases h),by rfl,by kernel_rfl⟩
theorem tk26:TIOk Go.Proofs.Tryd.prog 26 ti26:=⟨by kernel_rfl,Go.Proofs.Tryd.underlying26,(fun h=>by cases h),(fun h=>by cases h),by rfl,by kernel_rfl⟩
theorem tk27:TIOk Go.Proofs.Tryd.prog 27 ti27:=⟨by kernel_rfl,Go.Proofs.Tryd.underlying27,(fun h=>by cases h),(fun h=>by cases h),by rfl,by kernel_rfl⟩
theorem tk28:TIOk Go.Proofs.Tryd.prog 28 ti28:=⟨by kernel_rfl,Go.Proofs.Tryd.underlying28,fun _=>fl28,fun _=>kt28,by rfl,by kernel_rfl⟩
theorem tk29:TIOk Go.Proofs.Tryd.prog 29 ti29:=⟨by kernel_rfl,Go.Proofs.Tryd.underlying29,fun _=>fl29,fun _=>kt29,by rfl,by kernel_rfl⟩
theorem tk30:TIOk Go.Proofs.Tryd.prog 30 ti30:=⟨by kernel_rfl,Go.Proofs.Tryd.underlying30,(fun h=>by cases h),(fun h=>by cases h),by rfl,by kernel_rfl⟩
theorem tk31:TIOk Go.Proofs.Tryd.prog 31 ti31:=⟨by kernel_rfl,Go.Proofs.Tryd.underlying31,(fun h=>by cases h),(fun h=>by cases h),by rfl,by kernel_rfl⟩
theorem tk32:TIOk Go.Proofs.Tryd.prog 32 ti32:=⟨by kernel_rfl,Go.Proofs.Tryd.underlying32,(fun h=>by cases h),(fun h=>by cases h),by rfl,by kernel_rfl⟩
theorem tk33:TIOk Go.Proofs.Tryd.prog 33 ti33:=⟨by kernel_rfl,Go.Proofs.Tryd.underlying33,(fun h=>by cases h),(fun h=>by cases h),by rfl,by kernel_rfl⟩
theorem tk34:TIOk Go.Proofs.Tryd.prog 34 ti34:=⟨by kernel_rfl,Go.Proofs.Tryd.underlying34,(fun h=>by cases h),(fun h=>by cases h),by rfl,by kernel_rfl⟩
theorem tk36:TIOk Go.Proofs.Tryd.prog 36 ti36:=⟨by kernel_rfl,Go.Proofs.Tryd.underlying36,(fun h=>by cases h),(fun h=>by cases h),by rfl,by kernel_rfl⟩
theorem tk37:TIOk Go.Proofs.Tryd.prog 37 ti37:=⟨by kernel_rfl,Go.Proofs.Tryd.underlying37,(fun h=>by cases h),(fun h=>by cases h),by rfl,by kernel_rfl⟩
theorem tk38:TIOk Go.Proofs.Tryd.prog 38 ti38:=⟨by kernel_rfl,Go.Proofs.Tryd.underlying38,(fun h=>by cases h),(fun h=>by cases h),by rfl,by kernel_rfl⟩
theorem tk39:TIOk Go.Proofs.Tryd.prog 39 ti39:=⟨by kernel_rfl,Go.Proofs.Tryd.underlying39,(fun h=>by cases h),(fun h=>by cases h),by rfl,by kernel_rfl⟩
theorem tk40:TIOk Go.Proofs.Tryd.prog 40 ti40:=⟨by kernel_rfl,Go.Proofs.Tryd.underlying40,(fun h=>by cases h),(fun h=>by cases h),by rfl,by kernel_rfl⟩
theorem tk41:TIOk Go.Proofs.Tryd.prog 41 ti41:=⟨by kernel_rfl,Go.Proofs.Tryd.underlying41,(fun h=>by cases h),(fun h=>by cases h),by rfl,by kernel_rfl⟩
theorem tk42:TIOk Go.Proofs.Tryd.prog 42 ti42:=⟨by kernel_rfl,Go.Proofs.Tryd.underlying42,(fun h=>by cases h),(fun h=>by cases h),by rfl,by kernel_rfl⟩
theorem tk44:TIOk Go.Proofs.Tryd.prog 44 ti44:=⟨by kernel_rfl,Go.Proofs.Tryd.underlying44,(fun h=>by cases h),(fun h=>by cases h),by rfl,by kernel_rfl⟩
theorem tk45:TIOk Go.Proofs.Tryd.prog 45 ti45:=⟨by kernel_rfl,Go.Proofs.Tryd.underlying45,(fun h=>by cases h),(fun h=>by cases h),by rfl,by kernel_rfl⟩
theorem tk47:TIOk Go.Proofs.Tryd.prog 47 ti47:=⟨by kernel_rfl,Go.Proofs.Tryd.underlying47,(fun h=>by cases h),(fun h=>by cases h),by rfl,by kernel_rfl⟩
theorem tk48:TIOk Go.Proofs.Tryd.prog 48 ti48:=⟨by kernel_rfl,Go.Proofs.Tryd.underlying48,(fun h=>by cases h),(fun h=>by cases h),by rfl,by kernel_rfl⟩
theorem tk49:TIOk Go.Proofs.Tryd.prog 49 ti49:=⟨by kernel_rfl,Go.Proofs.Tryd.underlying49,fun _=>fl49,fun _=>kt49,by rfl,by kernel_rfl⟩
theorem tk50:TIOk Go.Proofs.Tryd.prog 50 ti50:=⟨by kernel_rfl,Go.Proofs.Tryd.underlying50,fun _=>fl50,fun _=>kt50,by rfl,by kernel_rfl⟩
theorem tk51:TIOk Go.Proofs.Tryd.prog 51 ti51:=⟨by kernel_rfl,Go.Proofs.Tryd.underlying51,(fun h=>by cases h),(fun h=>by cases h),by rfl,by kernel_rfl⟩
theorem tk52:TIOk Go.Proofs.Tryd.prog 52 ti52:=⟨by kernel_rfl,Go.Proofs.Tryd.underlying52,(fun h=>by cases h),(fun h=>by cases h),by rfl,by kernel_rfl⟩
theorem tk53:TIOk Go.Proofs.Tryd.prog 53 ti53:=⟨by kernel_rfl,Go.Proofs.Tryd.underlying53,(fun h=>by cases h),(fun h=>by cases h),by rfl,by kernel_rfl⟩
theorem tk54:TIOk Go.Proofs.Tryd.prog 54 ti54:=⟨by kernel_rfl,Go.Proofs.Tryd.underlying54,(fun h=>by cases h),(fun h=>by cases h),by rfl,by kernel_rfl⟩
theorem tk55:TIOk Go.Proofs.Tryd.prog 55 ti55:=⟨by kernel_rfl,Go.Proofs.Tryd.underlying55,(fun h=>by cases h),(fun h=>by cases h),by rfl,by kernel_rfl⟩
theorem tk56:TIOk Go.Proofs.Tryd.prog 56 ti56:=⟨by kernel_rfl,Go.Proofs.Tryd.underlying56,(fun h=>by cases h),(fun h=>by cases h),by rfl,by kernel_rfl⟩
theorem tk57:TIOk Go.Proofs.Tryd.prog 57 ti57:=⟨by kernel_rfl,Go.Proofs.Tryd.underlying57,(fun h=>by cases h),(fun h=>by cases h),by rfl,by kernel_rfl⟩
theorem tk58:TIOk Go.Proofs.Tryd.prog 58 ti58:=⟨by kernel_rfl,by kernel_rfl,(fun h=>by cases h),(fun h=>by cases h),by rfl,by kernel_rfl⟩
theorem tk59:TIOk Go.Proofs.Tryd.prog 59 ti59:=⟨by kernel_rfl,by kernel_rfl,(fun h=>by cases h),(fun h=>by cases h),by rfl,by kernel_rfl⟩
theorem tk60:TIOk Go.Proofs.Tryd.prog 60 ti60:=⟨by kernel_rfl,Go.Proofs.Tryd.underlying60,(fun h=>by cases h),(fun h=>by cases h),by rfl,by kernel_rfl⟩
theorem tk61:TIOk Go.Proofs.Tryd.prog 61 ti61:=⟨by kernel_rfl,Go.Proofs.Tryd.underlying61,(fun h=>by cases h),(fun h=>by cases h),by rfl,by kernel_rfl⟩
theorem tk62:TIOk Go.Proofs.Tryd.prog 62 ti62:=⟨by kernel_rfl,Go.Proofs.Tryd.underlying62,(fun h=>by cases h),(fun h=>by cases h),by rfl,by kernel_rfl⟩
theorem tk63:TIOk Go.Proofs.Tryd.prog 63 ti63:=⟨by kernel_rfl,Go.Proofs.Tryd.underlying63,(fun h=>by cases h),(fun h=>by cases h),by rfl,by kernel_rfl⟩
theorem tk64:TIOk Go.Proofs.Tryd.prog 64 ti64:=⟨by kernel_rfl,Go.Proofs.Tryd.underlying64,(fun h=>by cases h),(fun h=>by cases h),by rfl,by kernel_rfl⟩
theorem tk65:TIOk Go.Proofs.Tryd.prog 65 ti65:=⟨by kernel_rfl,Go.Proofs.Tryd.underlying65,(fun h=>by cases h),(fun h=>by cases h),by rfl,by kernel_rfl⟩
theorem tk66:TIOk Go.Proofs.Tryd.prog 66 ti66:=⟨by kernel_rfl,Go.Proofs.Tryd.underlying66,(fun h=>by cases h),(fun h=>by cases h),by rfl,by kernel_rfl⟩
theorem tk67:TIOk Go.Proofs.Tryd.prog 67 ti67:=⟨by kernel_rfl,Go.Proofs.Tryd.underlying67,(fun h=>by cases h),(fun h=>by cases h),by rfl,by kernel_rfl⟩
theorem tk68:TIOk Go.Proofs.Tryd.prog 68 ti68:=⟨by kernel_rfl,Go.Proofs.Tryd.underlying68,(fun h=>by cases h),(fun h=>by cases h),by rfl,by kernel_rfl⟩
theorem tk69:TIOk Go.Proofs.Tryd.prog 69 ti69:=⟨by kernel_rfl,Go.Proofs.Tryd.underlying69,(fun h=>by cases h),(fun h=>by cases h),by rfl,by kernel_rfl⟩
theorem tk70:TIOk Go.Proofs.Tryd.prog 70 ti70:=⟨by kernel_rfl,Go.Proofs.Tryd.underlying70,(fun h=>by cases h),(fun h=>by cases h),by rfl,by kernel_rfl⟩
theorem tk71:TIOk Go.Proofs.Tryd.prog 71 ti71:=⟨by kernel_rfl,Go.Proofs.Tryd.underlying71,(fun h=>by cases h),(fun h=>by cases h),by rfl,by kernel_rfl⟩
theorem tk72:TIOk Go.Proofs.Tryd.prog 72 ti72:=⟨by kernel_rfl,Go.Proofs.Tryd.underlying72,(fun h=>by cases h),(fun h=>by cases h),by rfl,by kernel_rfl⟩
theorem tk73:TIOk Go.Proofs.Tryd.prog 73 ti73:=⟨by kernel_rfl,Go.Proofs.Tryd.underlying73,(fun h=>by cases h),(fun h=>by cases h),by rfl,by kernel_rfl⟩
theorem tk75:TIOk Go.Proofs.Tryd.prog 75 ti75:=⟨by kernel_rfl,Go.Proofs.Tryd.underlying75,(fun h=>by cases h),(fun h=>by cases h),by rfl,by kernel_rfl⟩
theorem tk76:TIOk Go.Proofs.Tryd.prog 76 ti76:=⟨by kernel_rfl,Go.Proofs.Tryd.underlying76,(fun h=>by cases h),(fun h=>by cases h),by rfl,by kernel_rfl⟩
theorem tk77:TIOk Go.Proofs.Tryd.prog 77 ti77:=⟨by kernel_rfl,Go.Proofs.Tryd.underlying77,(fun h=>by cases h),(fun h=>by cases h),by rfl,by kernel_rfl⟩
theorem tk78:TIOk Go.Proofs.Tryd.prog 78 ti78:=⟨by kernel_rfl,Go.Proofs.Tryd.underlying78,(fun h=>by cases h),(fun h=>by cases h),by rfl,by kernel_rfl⟩
theorem tk79:TIOk Go.Proofs.Tryd.prog 79 ti79:=⟨by kernel_rfl,Go.Proofs.Tryd.underlying79,(fun h=>by cases h),(fun h=>by cases h),by rfl,by kernel_rfl⟩
theorem tk80:TIOk Go.Proofs.Tryd.prog 80 ti80:=⟨by kernel_rfl,Go.Proofs.Tryd.underlying80,(fun h=>by cases h),(fun h=>by cases h),by rfl,by kernel_rfl⟩
theorem tk81:TIOk Go.Proofs.Tryd.prog 81 ti81:=⟨by kernel_rfl,Go.Proofs.Tryd.underlying81,(fun h=>by cases h),(fun h=>by cases h),by rfl,by kernel_rfl⟩
theorem tk82:TIOk Go.Proofs.Tryd.prog 82 ti82:=⟨by kernel_rfl,by kernel_rfl,(fun h=>by cases h),fun _=>kt82,by rfl,by kernel_rfl⟩
theorem tk83:TIOk Go.Proofs.Tryd.prog 83 ti83:=⟨by kernel_rfl,by kernel_rfl,(fun h=>by cases h),fun _=>kt83,by rfl,by kernel_rfl⟩
theorem tk84:TIOk Go.Proofs.Tryd.prog 84 ti84:=⟨by kernel_rfl,Go.Proofs.Tryd.underlying84,(fun h=>by cases h),(fun h=>by cases h),by rfl,by kernel_rfl⟩
theorem tk85:TIOk Go.Proofs.Tryd.prog 85 ti85:=⟨by kernel_rfl,Go.Proofs.Tryd.underlying85,(fun h=>by cases h),(fun h=>by cases h),by rfl,by kernel_rfl⟩
theorem tk86:TIOk Go.Proofs.Tryd.prog 86 ti86:=⟨by kernel_rfl,Go.Proofs.Tryd.underlying86,(fun h=>by cases h),(fun h=>by cases h),by rfl,by kernel_rfl⟩
theorem tk87:TIOk Go.Proofs.Tryd.prog 87 ti87:=⟨by kernel_rfl,Go.Proofs.Tryd.underlying87,(fun h=>by cases h),(fun h=>by cases h),by rfl,by kernel_rfl⟩
theorem tk89:TIOk Go.Proofs.Tryd.prog 89 ti89:=⟨by kernel_rfl,Go.Proofs.Tryd.underlying89,(fun h=>by cases h),(fun h=>by cases h),by rfl,by kernel_rfl⟩
theorem tk90:TIOk Go.Proofs.Tryd.prog 90 ti90:=⟨by kernel_rfl,Go.Proofs.Tryd.underlying90,(fun h=>by cases h),(fun h=>by cases h),by rfl,by kernel_rfl⟩
theorem tk91:TIOk Go.Proofs.Tryd.prog 91 ti91:=⟨by kernel_rfl,Go.Proofs.Tryd.underlying91,(fun h=>by cases h),(fun h=>by cases h),by rfl,by kernel_rfl⟩
theorem tk92:TIOk Go.Proofs.Tryd.prog 92 ti92:=⟨by kernel_rfl,Go.Proofs.Tryd.underlying92,(fun h=>by cases h),(fun h=>by cases h),by rfl,by kernel_rfl⟩
theorem tk93:TIOk Go.Proofs.Tryd.prog 93 ti93:=⟨by kernel_rfl,Go.Proofs.Tryd.underlying93,(fun h=>by cases h),(fun h=>by cases h),by rfl,by kernel_rfl⟩
theorem tk94:TIOk Go.Proofs.Tryd.prog 94 ti94:=⟨by kernel_rfl,Go.Proofs.Tryd.underlying94,(fun h=>by cases h),(fun h=>by cases h),by rfl,by kernel_rfl⟩
theorem tk95:TIOk Go.Proofs.Tryd.prog 95 ti95:=⟨by kernel_rfl,Go.Proofs.Tryd.underlying95,(fun h=>by cases h),(fun h=>by cases h),by rfl,by kernel_rfl⟩
theorem tk96:TIOk Go.Proofs.Tryd.prog 96 ti96:=⟨by kernel_rfl,Go.Proofs.Tryd.underlying96,(fun h=>by cases h),(fun h=>by cases h),by rfl,by kernel_rfl⟩
theorem tk97:TIOk Go.Proofs.Tryd.prog 97 ti97:=⟨by kernel_rfl,Go.Proofs.Tryd.underlying97,(fun h=>by cases h),(fun h=>by cases h),by rfl,by kernel_rfl⟩
theorem tk99:TIOk Go.Proofs.Tryd.prog 99 ti99:=⟨by kernel_rfl,Go.Proofs.Tryd.underlying99,(fun h=>by cases h),(fun h=>by cases h),by rfl,by kernel_rfl⟩
theorem tk100:TIOk Go.Proofs.Tryd.prog 100 ti100:=⟨by kernel_rfl,Go.Proofs.Tryd.underlying100,(fun h=>by cases h),(fun h=>by cases h),by rfl,by kernel_rfl⟩
theorem tk102:TIOk Go.Proofs.Tryd.prog 102 ti102:=⟨by kernel_rfl,Go.Proofs.Tryd.underlying102,(fun h=>by cases h),(fun h=>by cases h),by rfl,by kernel_rfl⟩
theorem tk103:TIOk Go.Proofs.Tryd.prog 103 ti103:=⟨by kernel_rfl,Go.Proofs.Tryd.underlying103,(fun h=>by cases h),(fun h=>by cases h),by rfl,by kernel_rfl⟩
theorem tk105:TIOk Go.Proofs.Tryd.prog 105 ti105:=⟨by kernel_rfl,Go.Proofs.Tryd.underlying105,(fun h=>by cases h),(fun h=>by cases h),by rfl,by kernel_rfl⟩
theorem tk106:TIOk Go.Proofs.Tryd.prog 106 ti106:=⟨by kernel_rfl,Go.Proofs.Tryd.underlying106,(fun h=>by cases h),(fun h=>by cases h),by rfl,by kernel_rfl⟩
theorem tk107:TIOk Go.Proofs.Tryd.prog 107 ti107:=⟨by kernel_rfl,Go.Proofs.Tryd.underlying107,(fun h=>by cases h),(fun h=>by cases h),by rfl,by kernel_rfl⟩
theorem tk108:TIOk Go.Proofs.Tryd.prog 108 ti108:=⟨by kernel_rfl,Go.Proofs.Tryd.underlying108,(fun h=>by cases h),(fun h=>by cases h),by rfl,by kernel_rfl⟩
theorem tk110:TIOk Go.Proofs.Tryd.prog 110 ti110:=⟨by kernel_rfl,Go.Proofs.Tryd.underlying110,(fun h=>by cases h),(fun h=>by cases h),by rfl,by kernel_rfl⟩
theorem tk111:TIOk Go.Proofs.Tryd.prog 111 ti111:=⟨by kernel_rfl,Go.Proofs.Tryd.underlying111,(fun h=>by cases h),(fun h=>by cases h),by rfl,by kernel_rfl⟩
theorem tk112:TIOk Go.Proofs.Tryd.prog 112 ti112:=⟨by kernel_rfl,Go.Proofs.Tryd.underlying112,(fun h=>by cases h),(fun h=>by cases h),by rfl,by kernel_rfl⟩
theorem tk114:TIOk Go.Proofs.Tryd.prog 114 ti114:=⟨by kernel_rfl,Go.Proofs.Tryd.underlying114,(fun h=>by cases h),(fun h=>by cases h),by rfl,by kernel_rfl⟩
theorem tk115:TIOk Go.Proofs.Tryd.prog 115 ti115:=⟨by kernel_rfl,Go.Proofs.Tryd.underlying115,(fun h=>by cases h),(fun h=>by cases h),by rfl,by kernel_rfl⟩
theorem tk116:TIOk Go.Proofs.Tryd.prog 116 ti116:=⟨by kernel_rfl,Go.Proofs.Tryd.underlying116,(fun h=>by cases h),(fun h=>by cases h),by rfl,by kernel_rfl⟩
theorem tk117:TIOk Go.Proofs.Tryd.prog 117 ti117:=⟨by kernel_rfl,Go.Proofs.Tryd.underlying117,(fun h=>by cases h),(fun h=>by cases h),by rfl,by kernel_rfl⟩
theorem tk118:TIOk Go.Proofs.Tryd.prog 118 ti118:=⟨by kernel_rfl,Go.Proofs.Tryd.underlying118,(fun h=>by cases h),(fun h=>by cases h),by rfl,by kernel_rfl⟩
theorem tk120:TIOk Go.Proofs.Tryd.prog 120 ti120:=⟨by kernel_rfl,Go.Proofs.Tryd.underlying120,(fun h=>by cases h),(fun h=>by cases h),by rfl,by kernel_rfl⟩
theorem tk121:TIOk Go.Proofs.Tryd.prog 121 ti121:=⟨by kernel_rfl,Go.Proofs.Tryd.underlying121,(fun h=>by cases h),(fun h=>by cases h),by rfl,by kernel_rfl⟩
theorem tk122:TIOk Go.Proofs.Tryd.prog 122 ti122:=⟨by kernel_rfl,Go.Proofs.Tryd.underlying122,(fun h=>by cases h),(fun h=>by cases h),by rfl,by kernel_rfl⟩
theorem tk123:TIOk Go.Proofs.Tryd.prog 123 ti123:=⟨by kernel_rfl,Go.Proofs.Tryd.underlying123,(fun h=>by cases h),(fun h=>by cases h),by rfl,by kernel_rfl⟩
theorem tk124:TIOk Go.Proofs.Tryd.prog 124 ti124:=⟨by kernel_rfl,Go.Proofs.Tryd.underlying124,(fun h=>by cases h),(fun h=>by cases h),by rfl,by kernel_rfl⟩
theorem tk125:TIOk Go.Proofs.Tryd.prog 125 ti125:=⟨by kernel_rfl,Go.Proofs.Tryd.underlying125,(fun h=>by cases h),(fun h=>by cases h),by rfl,by kernel_rfl⟩
theorem tk126:TIOk Go.Proofs.Tryd.prog 126 ti126:=⟨by kernel_rfl,Go.Proofs.Tryd.underlying126,(fun h=>by cases h),(fun h=>by cases h),by rfl,by kernel_rfl⟩
theorem tk127:TIOk Go.Proofs.Tryd.prog 127 ti127:=⟨by kernel_rfl,Go.Proofs.Tryd.underlying127,(fun h=>by cases h),(fun h=>by cases h),by rfl,by kernel_rfl⟩
theorem tk128:TIOk Go.Proofs.Tryd.prog 128 ti128:=⟨by kernel_rfl,Go.Proofs.Tryd.underlying128,(fun h=>by cases h),(fun h=>by cases h),by rfl,by kernel_rfl⟩
theorem tk129:TIOk Go.Proofs.Tryd.prog 129 ti129:=⟨by kernel_rfl,Go.Proofs.Tryd.underlying129,(fun h=>by cases h),(fun h=>by cases h),by rfl,by kernel_rfl⟩
theorem tk130:TIOk Go.Proofs.Tryd.prog 130 ti130:=⟨by kernel_rfl,Go.Proofs.Tryd.underlying130,(fun h=>by cases h),(fun h=>by cases h),by rfl,by kernel_rfl⟩
theorem tk131:TIOk Go.Proofs.Tryd.prog 131 ti131:=⟨by kernel_rfl,Go.Proofs.Tryd.underlying131,(fun h=>by cases h),(fun h=>by cases h),by rfl,by kernel_rfl⟩
theorem tk132:TIOk Go.Proofs.Tryd.prog 132 ti132:=⟨by kernel_rfl,Go.Proofs.Tryd.underlying132,(fun h=>by cases h),(fun h=>by cases h),by rfl,by kernel_rfl⟩
theorem tk134:TIOk Go.Proofs.Tryd.prog 134 ti134:=⟨by kernel_rfl,Go.Proofs.Tryd.underlying134,(fun h=>by cases h),(fun h=>by cases h),by rfl,by kernel_rfl⟩
theorem tk135:TIOk Go.Proofs.Tryd.prog 135 ti135:=⟨by kernel_rfl,Go.Proofs.Tryd.underlying135,(fun h=>by cases h),(fun h=>by cases h),by rfl,by kernel_rfl⟩
theorem tk136:TIOk Go.Proofs.Tryd.prog 136 ti136:=⟨by kernel_rfl,Go.Proofs.Tryd.underlying136,(fun h=>by cases h),(fun h=>by cases h),by rfl,by kernel_rfl⟩
theorem tk137:TIOk Go.Proofs.Tryd.prog 137 ti137:=⟨by kernel_rfl,Go.Proofs.Tryd.underlying137,(fun h=>by cases h),(fun h=>by cases h),by rfl,by kernel_rfl⟩
theorem tk138:TIOk Go.Proofs.Tryd.prog 138 ti138:=⟨by kernel_rfl,Go.Proofs.Tryd.underlying138,(fun h=>by cases h),(fun h=>by cases h),by rfl,by kernel_rfl⟩
theorem tk139:TIOk Go.Proofs.Tryd.prog 139 ti139:=⟨by kernel_rfl,Go.Proofs.Tryd.underlying139,(fun h=>by cases h),(fun h=>by cases h),by rfl,by kernel_rfl⟩
theorem tk140:TIOk Go.Proofs.Tryd.prog 140 ti140:=⟨by kernel_rfl,Go.Proofs.Tryd.underlying140,(fun h=>by cases h),(fun h=>by cases h),by rfl,by kernel_rfl⟩
theorem tk141:TIOk Go.Proofs.Tryd.prog 141 ti141:=⟨by kernel_rfl,Go.Proofs.Tryd.underlying141,(fun h=>by cases h),(fun h=>by cases h),by rfl,by kernel_rfl⟩
theorem tk142:TIOk Go.Proofs.Tryd.prog 142 ti142:=⟨by kernel_rfl,Go.Proofs.Tryd.underlying142,(fun h=>by cases h),(fun h=>by cases h),by rfl,by kernel_rfl⟩
theorem tk143:TIOk Go.Proofs.Tryd.prog 143 ti143:=⟨by kernel_rfl,Go.Proofs.Tryd.underlying143,(fun h=>by cases h),(fun h=>by cases h),by rfl,by kernel_rfl⟩
theorem tk144:TIOk Go.Proofs.Tryd.prog 144 ti144:=⟨by kernel_rfl,Go.Proofs.Tryd.underlying144,(fun h=>by cases h),(fun h=>by cases h),by rfl,by kernel_rfl⟩
theorem tk145:TIOk Go.Proofs.Tryd.prog 145 ti145:=⟨by kernel_rfl,Go.Proofs.Tryd.underlying145,(fun h=>by cases h),(fun h=>by cases h),by rfl,by kernel_rfl⟩
theorem tk146:TIOk Go.Proofs.Tryd.prog 146 ti146:=⟨by kernel_rfl,Go.Proofs.Tryd.underlying146,(fun h=>by cases h),(fun h=>by cases h),by rfl,by kernel_rfl⟩
theorem tk147:TIOk Go.Proofs.Tryd.prog 147 ti147:=⟨by kernel_rfl,Go.Proofs.Tryd.underlying147,(fun h=>by cases h),(fun h=>by cases h),by rfl,by kernel_rfl⟩
theorem tk148:TIOk Go.Proofs.Tryd.prog 148 ti148:=⟨by kernel_rfl,Go.Proofs.Tryd.underlying148,(fun h=>by cases h),(fun h=>by cases h),by rfl,by kernel_rfl⟩
theorem tk149:TIOk Go.Proofs.Tryd.prog 149 ti149:=⟨by kernel_rfl,Go.Proofs.Tryd.underlying149,(fun h=>by cases h),(fun h=>by cases h),by rfl,by kernel_rfl⟩
theorem tok_all:∀ x∈tyTab,TIOk Go.Proofs.Tryd.prog x.1 x.2:=by
  intro x hx
  simp only [tyTab,List.mem_cons,List.not_mem_nil,or_false] at hx
  rcases hx with rfl | rfl | rfl | rfl | rfl | rfl | rfl | rfl | rfl | rfl | rfl | rfl | rfl | rfl | rfl | rfl | rfl | rfl | rfl | rfl | rfl | rfl | rfl | rfl | rfl | rfl | rfl | rfl | rfl | rfl | rfl | rfl | rfl | rfl | rfl | rfl | rfl | rfl | rfl | rfl | rfl | rfl | rfl | rfl | rfl | rfl | rfl | rfl | rfl | rfl | rfl | rfl | rfl | rfl | rfl | rfl | rfl | rfl | rfl | rfl | rfl | rfl | rfl | rfl | rfl | rfl | rfl | rfl | rfl | rfl | rfl | rfl | rfl | rfl | rfl | rfl | rfl | rfl | rfl | rfl | rfl | rfl | rfl | rfl | rfl | rfl | rfl | rfl | rfl | rfl | rfl | rfl | rfl | rfl | rfl | rfl | rfl | rfl | rfl | rfl | rfl | rfl | rfl | rfl | rfl | rfl | rfl | rfl | rfl | rfl | rfl | rfl | rfl | rfl | rfl | rfl | rfl | rfl | rfl | rfl | rfl | rfl | rfl | rfl | rfl | rfl | rfl | rfl | rfl | rfl | rfl | rfl | rfl | rfl | rfl | rfl | rfl
  · exact tk1
  · exact tk2
  · exact tk3
  · exact tk4
  · exact tk5
  · exact tk6
  · exact tk7
  · exact tk8
  · exact tk9
  · exact tk10
  · exact tk11
  · exact tk12
  · exact tk13
  · exact tk14
  · exact tk15
  · exact tk16
  · exact tk17
  · exact tk18
  · exact tk19
  · exact tk20
  · exact tk21
  · exact tk22
  · exact tk23
  · exact tk24
  · exact tk25
  · exact tk26
  · exact tk27
  · exact tk28
  · exact tk29
  · exact tk30
  · exact tk31
  · exact tk32
  · exact tk33
  · exact tk34
  · exact tk36
  · exact tk37
  · exact tk38
  · exact tk39
  · exact tk40
  · exact tk41
  · exact tk42
  · exact tk44
  · exact tk45
  · exact tk47
  · exact tk48
  · exact tk49
  · exact tk50
  · exact tk51
  · exact tk52
  · exact tk53
  · exact tk54
  · exact tk55
  · exact tk56
  · exact tk57
  · exact tk58
  · exact tk59
  · exact tk60
  · exact tk61
  · exact tk62
  · exact tk63
  · exact tk64
  · exact tk65
  · exact tk66
  · exact tk67
  · exact tk68
  · exact tk69
  · exact tk70
  · exact tk71
  · exact tk72
  · exact tk73
  · exact tk75
  · exact tk76
  · exact tk77
  · exact tk78
  · exact tk79
  · exact tk80
  · exact tk81
  · exact tk82
  · exact tk83
  · exact tk84
  · exact tk85
  · exact tk86
  · exact tk87
  · exact tk89
  · exact tk90
  · exact tk91
  · exact tk92
  · exact tk93
  · exact tk94
  · exact tk95
  · exact tk96
  · exact tk97
  · exact tk99
  · exact tk100
  · exact tk102
  · exact tk103
  · exact tk105
  · exact tk106
  · exact tk107
  · exact tk108
  · exact tk110
  · exact tk111
  · exact tk112
  · exact tk114
  · exact tk115
  · exact tk116
  · exact tk117
  · exact tk118
  · exact tk120
  · exact tk121
  · exact tk122
  · exact tk123
  · exact tk124
  · exact tk125
  · exact tk126
  · exact tk127
  · exact tk128
  · exact tk129
  · exact tk130
  · exact tk131
  · exact tk132
  · exact tk134
  · exact tk135
  · exact tk136
  · exact tk137
  · exact tk138
  · exact tk139
  · exact tk140
  · exact tk141
  · exact tk142
  · exact tk143
  · exact tk144
  · exact tk145
  · exact tk146
  · exact tk147
  · exact tk148
  · exact tk149
theorem hΓ:TOk Go.Proofs.Tryd.prog Γ:=fun t i h=>tok_all (t,i) (look_mem h)
end Go.Sim
namespace Go.Sim
open Go.RowKit
def Fx (p:Prop):Prop:=p
theorem Fx.nil:Fx True:=trivial
theorem Fx.add {p q:Prop} (h:Fx p) (k:q):Fx (p∧q):=⟨h,k⟩
theorem Fx.get {p:Prop} (h:Fx p):p:=h
section
open Go.Proofs
theorem rK [M:Mode] {id:Nat} {ops:Array Oper} {y:Code} {st st' : St} {Q:Exit→St→Prop} (L:List Nat) (h:W Tryd.prog y st' Q) (hr:runK Γ L ops.toList st=some st':=by simp [Fx.get F]; rfl):W Tryd.prog (.seq (.region id ops false) y) st Q:=W.regK hΓ L hr h
theorem rKw [M:Mode] {id:Nat} {ops:Array Oper} {y:Code} {st st' : St} {Q:Exit→St→Prop} (L:List Nat) (h:W Tryd.prog y st' Q) (hr:runK Γ L ops.toList st=some st':=by simp [Fx.get F]; (try (simp (disch:=omega) only [wrap_i64,mul_i64,capOk_of]; (try simp [Fx.get F]))); rfl):W Tryd.prog (.seq (.region id ops false) y) st Q:=W.regK hΓ L hr h
theorem rE [M:Mode] {id:Nat} {ops:Array Oper} {st st' : St} {Q:Exit→St→Prop} (h:Q .normal st') (hr:runL Γ ops.toList st=some st':=by simp [Fx.get F]; rfl):W Tryd.prog (.region id ops false) st Q:=W.regE hΓ hr h
theorem rEw [M:Mode] {id:Nat} {ops:Array Oper} {st st' : St} {Q:Exit→St→Prop} (h:Q .normal st') (hr:runL Γ ops.toList st=some st':=by simp [Fx.get F]; (try (simp (disch:=omega) only [wrap_i64,mul_i64,capOk_of]; (try simp [Fx.get F]))); rfl):W Tryd.prog (.region id ops false) st Q:=W.regE hΓ hr h
theorem oK [M:Mode] {ops:List Oper} {c:Code} {st st' : St} {Q:Exit→St→Prop} (L:List Nat) (k:W Tryd.prog c st' Q) (h:st.keep L=st':=by simp [Fx.get F]; rfl):WOps Tryd.prog ops (fun s=>W Tryd.prog c s Q) [] st:=WOps.endK (W.keep L h k)
theorem oN {ops:List Oper} {K:St→Prop} {st s2:St} (n:Nat) {l l' : List Oper} (h:WOps Tryd.prog ops K l' s2) (hr:runN Γ ops n l st=some (l',s2):=by simp [Fx.get F]; first | rfl | exact ⟨rfl,rfl⟩):WOps Tryd.prog ops K l st:=WOps.n hΓ n hr rfl h
theorem oNw {ops:List Oper} {K:St→Prop} {st s2:St} (n:Nat) {l l' : List Oper} (h:WOps Tryd.prog ops K l' s2) (hr:runN Γ ops n l st=some (l',s2):=by simp [Fx.get F]; (try (simp (disch:=omega) only [wrap_i64,mul_i64,capOk_of]; (try simp [Fx.get F]))); first | rfl | exact ⟨rfl,rfl⟩):WOps Tryd.prog ops K l st:=WOps.n hΓ n hr rfl h
theorem gF {ops rest:List Oper} {K:St→Prop} {o:Oper} {st s2:St} {d:Nat} {b:Bool} {u:Value} (h:WOps Tryd.prog ops K rest s2) (h1:guardD ops o=some (d,b):=by rfl) (h2:st.at d = .val u:=by rfl) (hx:isB b u=false:=by simp [Fx.get F]; first | done | rfl | exact (Bool.not_not _).symm) (hd:dstOk o st=true:=by rfl) (hs:st.put o.dst (.val undef)=s2:=by simp [Fx.get F]; rfl):WOps Tryd.prog ops K (o :: rest) st:=WOps.gd h1 h2 hx (WG.isF (WGf.mk hd hs h))
theorem gT {ops rest:List Oper} {K:St→Prop} {o:Oper} {st s1 s2:St} {d:Nat} {b:Bool} {u:Value} {r:AV} (h:WOps Tryd.prog ops K rest s2) (h1:guardD ops o=some (d,b):=by rfl) (h2:st.at d = .val u:=by rfl) (hx:isB b u=true:=by simp [Fx.get F]; first | done | rfl | exact (Bool.not_not _).symm) (hd:dstOk o st=true:=by rfl) (hev:evalAll Γ o st=some (r,s1):=by simp [Fx.get F]; first | rfl | exact ⟨rfl,rfl⟩) (hs:s1.put o.dst r=s2:=by simp [Fx.get F]; rfl):WOps Tryd.prog ops K (o :: rest) st:=WOps.gd h1 h2 hx (WG.isT (WGt.mk hΓ hd hev hs h))
theorem gX {ops rest:List Oper} {K:St→Prop} {o:Oper} {st s2:St} {d:Nat} {b:Bool} {u:Value} {x:Bool} {r:AV} (h:WOps Tryd.prog ops K rest s2) (h1:guardD ops o=some (d,b):=by rfl) (h2:st.at d = .val u:=by rfl) (hx:isB b u=x:=by simp [Fx.get F]; first | rfl | exact (Bool.not_not _).symm) (hn:isWrite o=false:=by rfl) (hd:dstOk o st=true:=by rfl) (hp:x=true→evalP Γ o st=some r:=by intro hg; (try simp at hg); simp [Fx.get F,hg,nth_eq, -getElem?_pos]; rfl) (hs:st.put o.dst (if x=true then r else .dead)=s2:=by simp [Fx.get F]; rfl):WOps Tryd.prog ops K (o :: rest) st:=WOps.gd h1 h2 hx (WG.isX (WGx.mk hΓ hn hd hp hs h))
theorem oC {ops rest:List Oper} {K:St→Prop} {o:Oper} {st:St} {f:Operand} {args:Array Operand} {tys:Array TypeId} {g:FuncId} {caps:List AV} {d:Nat} {ys:List AV} {b:Bool} {os:List (Nat×Obj)} (ps:List (Nat×Nat)) (h:CallT Tryd.prog g ys os b ps d (fun r n=>WOps Tryd.prog ops K rest ((st.adopt ps d n).put o.dst (r.ren (outName ps d))))) (ho:o.op = .call { callee:=.value f,args,argTypes:=tys }:=by rfl) (hw:wantedA ops o st=some true:=by rfl) (hd0:dstOk o st=true:=by rfl) (hf:st.callee f=some (g,caps):=by rfl) (hps:psOk ps=true:=by rfl) (hd:o.dst.getD 1249=d:=by rfl) (hd2:d < 1250:=by decide) (hsn:st.snaps ps (st.bound f ++ args.toList.map st.ev ++ caps)=some (ys,b):=by simp [Fx.get F]; first | rfl | exact ⟨rfl,rfl⟩) (hos:st.objsFor ps ps=some os:=by simp [Fx.get F]; rfl):WOps Tryd.prog ops K (o :: rest) st:=WOps.call ho hw hd0 hf ps hps hd hd2 hsn hos h
theorem gC {ops rest:List Oper} {K:St→Prop} {o:Oper} {st:St} {f:Operand} {args:Array Operand} {tys:Array TypeId} {g:FuncId} {caps:List AV} {d:Nat} {ys:List AV} {b:Bool} {os:List (Nat×Obj)} (ps:List (Nat×Nat)) {d2:Nat} {b2:Bool} {u:Value} (h:CallT Tryd.prog g ys os b ps d (fun r n=>WOps Tryd.prog ops K rest ((st.adopt ps d n).put o.dst (r.ren (outName ps d))))) (h1:guardD ops o=some (d2,b2):=by rfl) (h2:st.at d2 = .val u:=by rfl) (hx:isB b2 u=true:=by simp [Fx.get F]; first | done | rfl | exact (Bool.not_not _).symm) (ho:o.op = .call { callee:=.value f,args,argTypes:=tys }:=by rfl) (hd0:dstOk o st=true:=by rfl) (hf:st.callee f=some (g,caps):=by rfl) (hps:psOk ps=true:=by rfl) (hd:o.dst.getD 1249=d:=by rfl) (hd2:d < 1250:=by decide) (hsn:st.snaps ps (st.bound f ++ args.toList.map st.ev ++ caps)=some (ys,b):=by simp [Fx.get F]; first | rfl | exact ⟨rfl,rfl⟩) (hos:st.objsFor ps ps=some os:=by simp [Fx.get F]; rfl):WOps Tryd.prog ops K (o :: rest) st:=WOps.gd h1 h2 hx (WG.isT (WGt.call ho hd0 hf ps hps hd hd2 hsn hos h))
theorem ct {ops rest:List Oper} {K:St→Prop} {st s2:St} {dd:Option Tmp} {g:FuncId} {ys:List AV} {os:List (Nat×Obj)} {b:Bool} {ps:List (Nat×Nat)} {d:Nat} {r0:AV} {n0:List (Nat×Obj)} (hc:ACalls Tryd.prog g ys os (fun r o=>r=r0∧o=n0)) (h:WOps Tryd.prog ops K rest s2) (hb:(backOk ps d n0 && freeNews b r0 n0)=true:=by simp [Fx.get F]) (hn:(st.adopt ps d n0).put dd (r0.ren (outName ps d))=s2:=by simp [Fx.get F]; rfl):CallT Tryd.prog g ys os b ps d (fun r n=>WOps Tryd.prog ops K rest ((st.adopt ps d n).put dd (r.ren (outName ps d)))):=CallT.mk hc hb (WOps.norm hn h)
theorem dF (ds:List (Option Nat)) (g d:Nat) (b:Bool) (n:Nat) {ops rest rest' : List Oper} {deps:List (List Nat)} {eff:List (Nat×List Nat)} {s0:St} {K:DrawK} {k:Nat} {u:Value} {ents:List REnt} {N:Nat} (h:WDraw Tryd.prog ops deps eff s0 K n rest' (k + ds.length) (ents ++ ds.map fun t=>⟨t,.val undef,[]⟩)) (hN:N=n + ds.length:=by kernel_rfl) (ho:(ops[g]?).bind (fun x=>x.dst)=some d:=by kernel_rfl) (hr:chkR d g b ds rest=true:=by kernel_rfl) (hd:chkD deps g k ds.length=true:=by kernel_rfl) (hu:uniqD d g 0 ents=true:=by kernel_rfl) (hE:entD ents g=some d:=by kernel_rfl) (hv:entR ents g = .val u:=by first | rfl | (simp [Fx.get F]; rfl)) (hx:isB b u=false:=by simp [Fx.get F]; first | done | rfl | exact (Bool.not_not _).symm) (hrest:rest.drop ds.length=rest':=by rfl):WDraw Tryd.prog ops deps eff s0 K N rest k ents:=WDraw.off ds hN ho hr hd hu hE hv hx hrest h
theorem dT (L:List Nat) (S:List Bool) (O:List Nat) {ops rest:List Oper} {deps:List (List Nat)} {eff:List (Nat×List Nat)} {s0 v:St} {K:DrawK} {n k:Nat} {ents ents' : List REnt} {o:Oper} {d:Nat} {b:Bool} {u:Value} {r:AV} {new:List (Nat×Obj)} (h:WDraw Tryd.prog ops deps eff s0 K n rest (k + 1) ents') (hcv:chkV ops deps eff k L S O=true:=by kernel_rfl) (hnv:ents.length=k:=by kernel_rfl) (hv:viewB L S O ents s0=v:=by simp [Fx.get F]; first | rfl | exact (Bool.not_not _).symm) (h1:guardD ops o=some (d,b):=by rfl) (h2:v.at d = .val u:=by rfl) (hx:isB b u=true:=by simp [Fx.get F]; first | done | rfl | exact (Bool.not_not _).symm) (he:evalQ Γ o v=some (r,new):=by simp [Fx.get F]; first | rfl | exact ⟨rfl,rfl⟩) (hn:newIn o v new=true:=by simp [Fx.get F]) (hs:ents ++ [⟨o.dst,r,new⟩]=ents':=by simp [Fx.get F]; rfl):WDraw Tryd.prog ops deps eff s0 K (n + 1) (o :: rest) k ents:=WDraw.gd (viewB_eq hcv hnv hv) h1 h2 hx (DG.isT (DGt.mk hΓ he hn hs h))
theorem dTw (L:List Nat) (S:List Bool) (O:List Nat) {ops rest:List Oper} {deps:List (List Nat)} {eff:List (Nat×List Nat)} {s0 v:St} {K:DrawK} {n k:Nat} {ents ents' : List REnt} {o:Oper} {d:Nat} {b:Bool} {u:Value} {r:AV} {new:List (Nat×Obj)} (h:WDraw Tryd.prog ops deps eff s0 K n rest (k + 1) ents') (hcv:chkV ops deps eff k L S O=true:=by kernel_rfl) (hnv:ents.length=k:=by kernel_rfl) (hv:viewB L S O ents s0=v:=by simp [Fx.get F]; (try (simp (disch:=omega) only [wrap_i64,mul_i64,capOk_of]; (try simp [Fx.get F]))); first | rfl | exact (Bool.not_not _).symm) (h1:guardD ops o=some (d,b):=by rfl) (h2:v.at d = .val u:=by rfl) (hx:isB b u=true:=by simp [Fx.get F]; (try (simp (disch:=omega) only [wrap_i64,mul_i64,capOk_of]; (try simp [Fx.get F]))); first | done | rfl | exact (Bool.not_not _).symm) (he:evalQ Γ o v=some (r,new):=by simp [Fx.get F]; (try (simp (disch:=omega) only [wrap_i64,mul_i64,capOk_of]; (try simp [Fx.get F]))); first | rfl | exact ⟨rfl,rfl⟩) (hn:newIn o v new=true:=by simp [Fx.get F]; (try (simp (disch:=omega) only [wrap_i64,mul_i64,capOk_of]; (try simp [Fx.get F])))) (hs:ents ++ [⟨o.dst,r,new⟩]=ents':=by simp [Fx.get F]; (try (simp (disch:=omega) only [wrap_i64,mul_i64,capOk_of]; (try simp [Fx.get F]))); rfl):WDraw Tryd.prog ops deps eff s0 K (n + 1) (o :: rest) k ents:=WDraw.gd (viewB_eq hcv hnv hv) h1 h2 hx (DG.isT (DGt.mk hΓ he hn hs h))
theorem dX (L:List Nat) (S:List Bool) (O:List Nat) {ops rest:List Oper} {deps:List (List Nat)} {eff:List (Nat×List Nat)} {s0 v:St} {K:DrawK} {n k:Nat} {ents ents' : List REnt} {o:Oper} {d:Nat} {b:Bool} {u:Value} {x:Bool} {r:AV} (h:WDraw Tryd.prog ops deps eff s0 K n rest (k + 1) ents') (hcv:chkV ops deps eff k L S O=true:=by kernel_rfl) (hnv:ents.length=k:=by kernel_rfl) (hv:viewB L S O ents s0=v:=by simp [Fx.get F]; first | rfl | exact (Bool.not_not _).symm) (h1:guardD ops o=some (d,b):=by rfl) (h2:v.at d = .val u:=by rfl) (hx:isB b u=x:=by simp [Fx.get F]; rfl) (hp:x=true→evalP Γ o v=some r:=by intro hg; (try simp at hg); simp [Fx.get F,hg,nth_eq, -getElem?_pos]; rfl) (he:ents ++ [⟨o.dst,if x=true then r else .dead,[]⟩]=ents':=by simp [Fx.get F]; rfl):WDraw Tryd.prog ops deps eff s0 K (n + 1) (o :: rest) k ents:=WDraw.gd (viewB_eq hcv hnv hv) h1 h2 hx (DG.isX (DGx.mk hΓ hp he h))
theorem dB (T:List (List Nat×List Bool×List Nat)) (m k' : Nat) {ops rest rest' : List Oper} {deps:List (List Nat)} {eff:List (Nat×List Nat)} {s0:St} {K:DrawK} {k:Nat} {ents ents' : List REnt} {N:Nat} (h:WDraw Tryd.prog ops deps eff s0 K m rest' k' ents') (hN:N=m + T.length:=by kernel_rfl) (hk:k'=k + T.length:=by kernel_rfl) (hc:chkT ops deps eff k T=true:=by kernel_rfl) (hn:ents.length=k:=by kernel_rfl) (hr:drawB Γ s0 T rest ents=some (rest',ents'):=by simp [Fx.get F]; first | rfl | exact ⟨rfl,rfl⟩):WDraw Tryd.prog ops deps eff s0 K N rest k ents:=WDraw.nB hΓ T hN hk hc hn hr h
theorem dBw (T:List (List Nat×List Bool×List Nat)) (m k' : Nat) {ops rest rest' : List Oper} {deps:List (List Nat)} {eff:List (Nat×List Nat)} {s0:St} {K:DrawK} {k:Nat} {ents ents' : List REnt} {N:Nat} (h:WDraw Tryd.prog ops deps eff s0 K m rest' k' ents') (hN:N=m + T.length:=by kernel_rfl) (hk:k'=k + T.length:=by kernel_rfl) (hc:chkT ops deps eff k T=true:=by kernel_rfl) (hn:ents.length=k:=by kernel_rfl) (hr:drawB Γ s0 T rest ents=some (rest',ents'):=by simp [Fx.get F]; (try (simp (disch:=omega) only [wrap_i64,mul_i64,capOk_of]; (try simp [Fx.get F]))); first | rfl | exact ⟨rfl,rfl⟩):WDraw Tryd.prog ops deps eff s0 K N rest k ents:=WDraw.nB hΓ T hN hk hc hn hr h
theorem dC (L:List Nat) (S:List Bool) (O:List Nat) {ops rest:List Oper} {deps:List (List Nat)} {eff:List (Nat×List Nat)} {s0 v:St} {K:DrawK} {n k:Nat} {ents:List REnt} {o:Oper} {f:Operand} {args:Array Operand} {tys:Array TypeId} {g:FuncId} {caps:List AV} {ys:List AV} {b:Bool} {os:List (Nat×Obj)} {d:Nat} (ps:List (Nat×Nat)) (h:CallD Tryd.prog g ys os b ps d fun r0 n0=>((ps.all fun x=>(look x.1 n0).isSome) && ((newIds d n0).all fun id=>(look id v.objs).isNone) && outIn (ps.map (·.2)) o v (n0.map fun x=>(outName ps d x.1,x.2.ren (outName ps d))))=true∧∃ ents',ents ++ [⟨o.dst,r0.ren (outName ps d),n0.map fun x=>(outName ps d x.1,x.2.ren (outName ps d))⟩]=ents'∧WDraw Tryd.prog ops deps eff s0 K n rest (k + 1) ents') (hcv:chkV ops deps eff k L S O=true:=by kernel_rfl) (hnv:ents.length=k:=by kernel_rfl) (hv:viewB L S O ents s0=v:=by simp [Fx.get F]; rfl) (hw:wantedA ops o v=some true:=by rfl) (ho:o.op = .call { callee:=.value f,args,argTypes:=tys }:=by rfl) (hf:v.callee f=some (g,caps):=by rfl) (hps:psOk ps=true:=by rfl) (hsn:v.snaps ps (v.bound f ++ args.toList.map v.ev ++ caps)=some (ys,b):=by simp [Fx.get F]; first | rfl | exact ⟨rfl,rfl⟩) (hos:v.objsFor ps ps=some os:=by simp [Fx.get F]; rfl) (hd:o.dst=some d:=by rfl) (hd1:decide (d < 1250)=true:=by rfl) (hk:ps.map (·.2)=[]∨(k,ps.map (·.2))∈eff:=by first | exact .inl rfl | exact .inr (by simp)):WDraw Tryd.prog ops deps eff s0 K (n + 1) (o :: rest) k ents:=WDraw.callD (viewB_eq hcv hnv hv) hw ho hf ps hps hsn hos hd hd1 hk h
theorem dG (L:List Nat) (S:List Bool) (O:List Nat) {ops rest:List Oper} {deps:List (List Nat)} {eff:List (Nat×List Nat)} {s0 v:St} {K:DrawK} {n k:Nat} {ents:List REnt} {o:Oper} {f:Operand} {args:Array Operand} {tys:Array TypeId} {g:FuncId} {caps:List AV} {ys:List AV} {b:Bool} {os:List (Nat×Obj)} {d:Nat} (ps:List (Nat×Nat)) {d2:Nat} {b2:Bool} {u:Value} (h:CallD Tryd.prog g ys os b ps d fun r0 n0=>((ps.all fun x=>(look x.1 n0).isSome) && ((newIds d n0).all fun id=>(look id v.objs).isNone) && outIn (ps.map (·.2)) o v (n0.map fun x=>(outName ps d x.1,x.2.ren (outName ps d))))=true∧∃ ents',ents ++ [⟨o.dst,r0.ren (outName ps d),n0.map fun x=>(outName ps d x.1,x.2.ren (outName ps d))⟩]=ents'∧WDraw Tryd.prog ops deps eff s0 K n rest (k + 1) ents') (hcv:chkV ops deps eff k L S O=true:=by kernel_rfl) (hnv:ents.length=k:=by kernel_rfl) (hv:viewB L S O ents s0=v:=by simp [Fx.get F]; first | rfl | exact (Bool.not_not _).symm) (h1:guardD ops o=some (d2,b2):=by rfl) (h2:v.at d2 = .val u:=by rfl) (hx:isB b2 u=true:=by simp [Fx.get F]; first | done | rfl | exact (Bool.not_not _).symm) (ho:o.op = .call { callee:=.value f,args,argTypes:=tys }:=by rfl) (hf:v.callee f=some (g,caps):=by rfl) (hps:psOk ps=true:=by rfl) (hsn:v.snaps ps (v.bound f ++ args.toList.map v.ev ++ caps)=some (ys,b):=by simp [Fx.get F]; first | rfl | exact ⟨rfl,rfl⟩) (hos:v.objsFor ps ps=some os:=by simp [Fx.get F]; rfl) (hd:o.dst=some d:=by rfl) (hd1:decide (d < 1250)=true:=by rfl) (hk:ps.map (·.2)=[]∨(k,ps.map (·.2))∈eff:=by first | exact .inl rfl | exact .inr (by simp)):WDraw Tryd.prog ops deps eff s0 K (n + 1) (o :: rest) k ents:=WDraw.gd (viewB_eq hcv hnv hv) h1 h2 hx (DG.isT (DGt.call ho hf ps hps hsn hos hd hd1 hk h))
theorem cd {ops rest:List Oper} {deps:List (List Nat)} {eff:List (Nat×List Nat)} {s0 v:St} {K:DrawK} {n k:Nat} {ents ents' : List REnt} {o:Oper} {dd:Option Tmp} {g:FuncId} {ys:List AV} {os:List (Nat×Obj)} {b:Bool} {ps:List (Nat×Nat)} {d:Nat} {r0:AV} {n0:List (Nat×Obj)} (hc:ACalls Tryd.prog g ys os (fun r o=>r=r0∧o=n0)) (h:WDraw Tryd.prog ops deps eff s0 K n rest (k + 1) ents') (hb:(backOk ps d n0 && freeNews b r0 n0)=true:=by simp [Fx.get F]) (ha:((ps.all fun x=>(look x.1 n0).isSome) && ((newIds d n0).all fun id=>(look id v.objs).isNone) && outIn (ps.map (·.2)) o v (n0.map fun x=>(outName ps d x.1,x.2.ren (outName ps d))))=true:=by simp [Fx.get F]) (he:ents ++ [⟨dd,r0.ren (outName ps d),n0.map fun x=>(outName ps d x.1,x.2.ren (outName ps d))⟩]=ents':=by simp [Fx.get F]; rfl):CallD Tryd.prog g ys os b ps d fun r0 n0=>((ps.all fun x=>(look x.1 n0).isSome) && ((newIds d n0).all fun id=>(look id v.objs).isNone) && outIn (ps.map (·.2)) o v (n0.map fun x=>(outName ps d x.1,x.2.ren (outName ps d))))=true∧∃ ents',ents ++ [⟨dd,r0.ren (outName ps d),n0.map fun x=>(outName ps d x.1,x.2.ren (outName ps d))⟩]=ents'∧WDraw Tryd.prog ops deps eff s0 K n rest (k + 1) ents':=CallD.mk hc hb ⟨ha,_,he,h⟩
theorem dD {ops rest:List Oper} {deps:List (List Nat)} {eff:List (Nat×List Nat)} {s0 s1:St} {K:St→Prop} {k:Nat} {ents:List REnt} (h:WOps Tryd.prog ops K rest s1) (hs:mkSt (fun _=>true) 0 ents s0=s1:=by simp [Fx.get F]; rfl):WDraw Tryd.prog ops deps eff s0 (drawK Tryd.prog ops s0 K) 0 rest k ents:=WDraw.done hs h
theorem wD [M:Mode] {id:Nat} {ops:Array Oper} {y:Code} {st:St} {Q:Exit→St→Prop} (n:Nat) (eff:List (Nat×List Nat)) (deps:List (List Nat)) (h:WDraw Tryd.prog ops.toList deps eff st (drawK Tryd.prog ops.toList st (fun s=>W Tryd.prog y s Q)) n ops.toList 0 []) (hdeps:allDeps ops.toList []=deps:=by rfl) (hok:(drawOk ops.toList deps n st.nt && freshOk ops.toList st.objs && decide (n≤ops.size) && effOk ops.toList deps eff st.objs)=true:=by rfl):W Tryd.prog (.seq (.region id ops true) y) st Q:=W.drawT (by kernel_rfl) n eff hdeps hok h
theorem wDe [M:Mode] {id:Nat} {ops:Array Oper} {st:St} {Q:Exit→St→Prop} (n:Nat) (eff:List (Nat×List Nat)) (deps:List (List Nat)) (h:WDraw Tryd.prog ops.toList deps eff st (drawK Tryd.prog ops.toList st (Q .normal)) n ops.toList 0 []) (hdeps:allDeps ops.toList []=deps:=by rfl) (hok:(drawOk ops.toList deps n st.nt && freshOk ops.toList st.objs && decide (n≤ops.size) && effOk ops.toList deps eff st.objs)=true:=by rfl):W Tryd.prog (.region id ops true) st Q:=W.drawE (by kernel_rfl) n eff hdeps hok h
theorem it [M:Mode] {c:Operand} {x y:Code} {st:St} {Q:Exit→St→Prop} {t:Bool} (h1:t=true→W Tryd.prog x st Q) (h2:t=false→W Tryd.prog y st Q) (hv:st.ev c = .val (.bool t):=by simp [Fx.get F]; first | rfl | exact (Bool.not_not _).symm):W Tryd.prog (.cond c x y) st Q:=W.ite hv h1 h2
theorem cT [M:Mode] {c:Operand} {x y:Code} {st:St} {Q:Exit→St→Prop} (h:W Tryd.prog x st Q) (hv:st.ev c = .val (.bool true):=by simp [Fx.get F]):W Tryd.prog (.cond c x y) st Q:=W.cond hv h
theorem cF [M:Mode] {c:Operand} {x y:Code} {st:St} {Q:Exit→St→Prop} (h:W Tryd.prog y st Q) (hv:st.ev c = .val (.bool false):=by simp [Fx.get F]):W Tryd.prog (.cond c x y) st Q:=W.cond hv h
theorem er {rs:List ResultVar} {R:AV→List (Nat×Obj)→Prop} {st:St} (dn:Bool) (fz:List Nat) (ex:List (Nat×Nat)) {r:AV} {o:List (Nat×Obj)} (hR:R r o) (h:endA Γ rs dn fz ex st=some (r,o):=by simp [Fx.get F]; first | rfl | exact ⟨rfl,rfl⟩):EndQ Γ rs R .ret st:=EndQ.r dn fz ex h hR
theorem en {rs:List ResultVar} {R:AV→List (Nat×Obj)→Prop} {st:St} (dn:Bool) (fz:List Nat) (ex:List (Nat×Nat)) {r:AV} {o:List (Nat×Obj)} (hR:R r o) (h:endA Γ rs dn fz ex st=some (r,o):=by simp [Fx.get F]; first | rfl | exact ⟨rfl,rfl⟩):EndQ Γ rs R .normal st:=EndQ.n dn fz ex h hR
theorem er0 {rs:List ResultVar} {R:AV→List (Nat×Obj)→Prop} {st:St} (dn:Bool) (fz:List Nat) (ex:List (Nat×Nat)) {r:AV} {o:List (Nat×Obj)} (h:endA Γ rs dn fz ex st=some (r,o):=by simp [Fx.get F]; first | rfl | exact ⟨rfl,rfl⟩) (hR:R r o:=by first | done | omega | (clear F; simp_all; done) | (clear F; simp_all; omega)):EndQ Γ rs R .ret st:=EndQ.r dn fz ex h hR
theorem en0 {rs:List ResultVar} {R:AV→List (Nat×Obj)→Prop} {st:St} (dn:Bool) (fz:List Nat) (ex:List (Nat×Nat)) {r:AV} {o:List (Nat×Obj)} (h:endA Γ rs dn fz ex st=some (r,o):=by simp [Fx.get F]; first | rfl | exact ⟨rfl,rfl⟩) (hR:R r o:=by first | done | omega | (clear F; simp_all; done) | (clear F; simp_all; omega)):EndQ Γ rs R .normal st:=EndQ.n dn fz ex h hR
theorem fz {ops rest:List Oper} {K:St→Prop} {o:Oper} {st s2:St} (id:Nat) (k:WOps Tryd.prog ops K (o :: rest) s2) (h:st.freeze id=some s2:=by simp [Fx.get F]; rfl) (hg:o.guard=none:=by rfl) (hd:dstOk o st=true:=by rfl):WOps Tryd.prog ops K (o :: rest) st:=WOps.le (Le.freeze h) hg hd k
theorem v0 {p:Prop} (h:p:=by first | done | omega | (clear F; simp_all; done) | (clear F; simp_all; omega)):p:=h
theorem v1 {p:Prop} (h:p:=by (try (simp [Fx.get F])); all_goals (first | done | omega | (clear F; simp_all; done) | (clear F; simp_all; omega))):p:=h
theorem lf0 {s s' : St} {nt:Nat} {tm:List (Nat×AV)} {objs:List (Nat×Obj)} (hs:(s.keep (tm.map (·.1))).killIds (spare s.objs objs)=s':=by simp [Fx.get F]; rfl) (hn:s'.nt=nt:=by rfl) (hu:(spare s.objs objs).all unp=true:=by rfl) (hk:keysIn s'.objs objs=true:=by rfl) (hT:holdsT s'.tmps tm:=by (try (simp [Fx.get F])); all_goals (first | done | omega | (clear F; simp_all; done) | (clear F; simp_all; omega))) (hO:holdsO s'.objs objs:=by (try (simp [Fx.get F])); all_goals (first | done | omega | (clear F; simp_all; done) | (clear F; simp_all; omega))):Le s ⟨nt,tm,objs⟩:=Le.fit hs hn hu hk hT hO
theorem lf {s s' : St} {nt:Nat} {tm:List (Nat×AV)} {objs:List (Nat×Obj)} (hT:holdsT s'.tmps tm) (hO:holdsO s'.objs objs) (hs:(s.keep (tm.map (·.1))).killIds (spare s.objs objs)=s':=by simp [Fx.get F]; rfl) (hn:s'.nt=nt:=by rfl) (hu:(spare s.objs objs).all unp=true:=by rfl) (hk:keysIn s'.objs objs=true:=by rfl):Le s ⟨nt,tm,objs⟩:=Le.fit hs hn hu hk hT hO
theorem lpa [M:Mode] {α:Type} (L ds ids:List Nat) {c:Code} {st:St} {Q:Exit→St→Prop} (vt:α→List (Nat×AV)) (vo:α→List (Nat×Obj)) (I:α→Prop) (μ:α→Nat) (x0:α) {nt:Nat} {tm0:List (Nat×AV)} {ob0:List (Nat×Obj)} (hI:I x0) (round:∀ x,I x→W Tryd.prog c ⟨nt,vt x ++ tm0,vo x ++ ob0⟩ (thenQ (fun s'=>∃ y,Le s' ⟨nt,vt y ++ tm0,vo y ++ ob0⟩∧I y∧μ y < μ x) Q)) (hn:st.nt=nt:=by rfl) (h1:selT st.tmps L=tm0:=by simp [Fx.get F]; rfl) (h2:dropO ds ids st.objs=ob0:=by simp [Fx.get F]; rfl) (h0:Le st ⟨nt,vt x0 ++ tm0,vo x0 ++ ob0⟩:=by exact lf0):W Tryd.prog (.loop c) st Q:=W.loopU L ds ids vt vo I μ x0 hn h1 h2 h0 hI round
theorem lp [M:Mode] {α:Type} (L ds ids:List Nat) {c:Code} {st:St} {Q:Exit→St→Prop} (vt:α→List (Nat×AV)) (vo:α→List (Nat×Obj)) (I:α→Prop) (μ:α→Nat) (x0:α) {nt:Nat} {tm0:List (Nat×AV)} {ob0:List (Nat×Obj)} {s' : St} (hT:holdsT s'.tmps (vt x0 ++ tm0)) (hO:holdsO s'.objs (vo x0 ++ ob0)) (hI:I x0) (round:∀ x,I x→W Tryd.prog c ⟨nt,vt x ++ tm0,vo x ++ ob0⟩ (thenQ (fun s'=>∃ y,Le s' ⟨nt,vt y ++ tm0,vo y ++ ob0⟩∧I y∧μ y < μ x) Q)) (hn:st.nt=nt:=by rfl) (h1:selT st.tmps L=tm0:=by simp [Fx.get F]; rfl) (h2:dropO ds ids st.objs=ob0:=by simp [Fx.get F]; rfl) (hs:(st.keep ((vt x0 ++ tm0).map (·.1))).killIds (spare st.objs (vo x0 ++ ob0))=s':=by simp [Fx.get F]; rfl) (hn2:s'.nt=nt:=by rfl) (hu:(spare st.objs (vo x0 ++ ob0)).all unp=true:=by rfl) (hk:keysIn s'.objs (vo x0 ++ ob0)=true:=by rfl):W Tryd.prog (.loop c) st Q:=W.loopU L ds ids vt vo I μ x0 hn h1 h2 (Le.fit hs hn2 hu hk hT hO) hI round
theorem sn [M:Mode] {c:Code} {st s2:St} {Q:Exit→St→Prop} (t i:Nat) (ty:TypeId) (sz:Nat) (k:W Tryd.prog c s2 Q) (hu:unp i=true:=by rfl) (h:look t st.tmps=some (.val (.slice none 0 0)):=by simp [Fx.get F]) (hs:st.ownNil t i ty sz=s2:=by simp [Fx.get F,St.ownNil]; rfl):W Tryd.prog c st Q:=W.weaken (Le.ownNil hu h) (W.norm hs k)
theorem ent [M : Mode] {f : FuncId} {c : Code} {rs : List ResultVar} {rr : Array ResultVar} {fn : Func} {nt : Nat} {args : List AV} {objs : List (Nat × Obj)} {R : AV → List (Nat × Obj) → Prop} (hf : Tryd.prog.funcs[f]? = some fn) (hnt : fn.ntmps = nt) (hr : fn.results = rr) {st : St} (h : W Tryd.prog c st (EndQ Γ rs R)) (hrs : rr.toList = rs := by rfl) (hb : fn.body = some c := by rfl) (hnm : (fn.name == "runtime.NumGoroutine") = false := by kernel_rfl) (hn : args.length ≤ nt := by simp) (hst : St.enter nt args objs = st := by simp [Fx.get F]; rfl) : ACalls Tryd.prog f args objs R := ACalls.enter hΓ hf hb hnm hnt (by rw [hr]; exact hrs) hn hst h
theorem te {K:St→Prop} {Q:Exit→St→Prop} {st:St} {id:Nat} (h:Q (.exit id) st):thenQ K Q (.exit id) st:=thenQ_e h
theorem tr {K:St→Prop} {Q:Exit→St→Prop} {st:St} (h:Q .ret st):thenQ K Q .ret st:=thenQ_r h
theorem bn {Q:Exit→St→Prop} {st:St} {id:Nat} (h:Q .normal st):blockQ id Q .normal st:=blockQ_n h
theorem br {Q:Exit→St→Prop} {st:St} {id:Nat} (h:Q .ret st):blockQ id Q .ret st:=blockQ_r h
theorem bs {Q:Exit→St→Prop} {st:St} {id:Nat} (h:Q .normal st):blockQ id Q (.exit id) st:=blockQ_s h
theorem bd {Q:Exit→St→Prop} {st:St} {id l:Nat} (h:Q (.exit l) st) (hd:(l == id)=false:=by rfl):blockQ id Q (.exit l) st:=blockQ_d hd h
theorem ngr {Q:Exit→St→Prop} {st:St} (h:Q .ret st):noGotoQ Q .ret st:=noGotoQ_r h
end
end Go.Sim
