/- Closed facts on the program; the structs of the models. Conditions: none. -/
import Derived.Test.YtihapemckcdicaaGreatDoorQXLgC
import Derived.Test.YtihapemckcdicaaGreatDoorQXLgE
import Derived.Test.YtihapemckcdicaaGreatDoorProg
import Derived.KernelRfl
namespace Go.Proofs.YtihapemckcdicaaGreatDoor
open Go.Lg Go.Proofs Tryz
theorem bd:gN prog 3:=⟨vK λ _=>by kernel_rfl,vK λ _=>by kernel_rfl⟩
theorem ju:gN prog 4:=⟨vK λ _=>by kernel_rfl,vK λ _=>by kernel_rfl⟩
theorem FJ:gN prog 9:=⟨vK λ _=>by kernel_rfl,vK λ _=>by kernel_rfl⟩
theorem Iz:gN prog 21:=⟨vK λ _=>by kernel_rfl,vK λ _=>by kernel_rfl⟩
theorem lP:gN prog 22:=⟨vK λ _=>by kernel_rfl,vK λ _=>by kernel_rfl⟩
theorem mh:gN prog 23:=⟨vK λ _=>by kernel_rfl,vK λ _=>by kernel_rfl⟩
theorem jr:gN prog 24:=⟨vK λ _=>by kernel_rfl,vK λ _=>by kernel_rfl⟩
theorem iK:gN prog 25:=⟨vK λ _=>by kernel_rfl,vK λ _=>by kernel_rfl⟩
theorem kR:gN prog 26:=⟨vK λ _=>by kernel_rfl,vK λ _=>by kernel_rfl⟩
theorem FI:gN prog 29:=⟨vK λ _=>by kernel_rfl,vK λ _=>by kernel_rfl⟩
theorem zX:gN prog 33:=⟨vK λ _=>by kernel_rfl,vK λ _=>by kernel_rfl⟩
theorem abd:gN prog 36:=⟨vK λ _=>by kernel_rfl,vK λ _=>by kernel_rfl⟩
theorem s8:gN prog 111:=⟨vK λ _=>by kernel_rfl,vK λ _=>by kernel_rfl⟩
theorem Iy:gN prog 125:=⟨vK λ _=>by kernel_rfl,vK λ _=>by kernel_rfl⟩
theorem aKO:gN prog 140:=⟨vK λ _=>by kernel_rfl,vK λ _=>by kernel_rfl⟩
theorem RV:gN prog 148:=⟨vK λ _=>by kernel_rfl,vK λ _=>by kernel_rfl⟩
theorem aba:gN prog 157:=⟨vK λ _=>by kernel_rfl,vK λ _=>by kernel_rfl⟩
theorem abb:gN prog 166:=⟨vK λ _=>by kernel_rfl,vK λ _=>by kernel_rfl⟩
theorem aKP:gN prog 186:=⟨vK λ _=>by kernel_rfl,vK λ _=>by kernel_rfl⟩
theorem abc:gN prog 187:=⟨vK λ _=>by kernel_rfl,vK λ _=>by kernel_rfl⟩
theorem wm:gN prog 261:=⟨vK λ _=>by kernel_rfl,vK λ _=>by kernel_rfl⟩
theorem bS:nu prog 28 6:=⟨vK λ _=>by kernel_rfl,vK λ _=>by kernel_rfl⟩
theorem oC:nu prog 41 2:=⟨vK λ _=>by kernel_rfl,vK λ _=>by kernel_rfl⟩
theorem xa:nu prog 59 3:=⟨vK λ _=>by kernel_rfl,vK λ _=>by kernel_rfl⟩
theorem ri:nu prog 64 2:=⟨vK λ _=>by kernel_rfl,vK λ _=>by kernel_rfl⟩
theorem J4:nu prog 93 2:=⟨vK λ _=>by kernel_rfl,vK λ _=>by kernel_rfl⟩
theorem po:nu prog 96 4:=⟨vK λ _=>by kernel_rfl,vK λ _=>by kernel_rfl⟩
theorem rh:nu prog 116 3:=⟨vK λ _=>by kernel_rfl,vK λ _=>by kernel_rfl⟩
theorem iu:nu prog 119 6:=⟨vK λ _=>by kernel_rfl,vK λ _=>by kernel_rfl⟩
theorem eB:nu prog 122 7:=⟨vK λ _=>by kernel_rfl,vK λ _=>by kernel_rfl⟩
theorem fU:nu prog 143 4:=⟨vK λ _=>by kernel_rfl,vK λ _=>by kernel_rfl⟩
theorem db:nu prog 145 16:=⟨vK λ _=>by kernel_rfl,vK λ _=>by kernel_rfl⟩
theorem an4:nu prog 180 6:=⟨vK λ _=>by kernel_rfl,vK λ _=>by kernel_rfl⟩
theorem GJ:jF prog 3 #[.int .i64 0]:=⟨.int .i64 0,vK λ _=>by kernel_rfl,rfl⟩
theorem acY:jF prog 4 #[.bool false]:=⟨.bool false,vK λ _=>by kernel_rfl,rfl⟩
theorem AT:jF prog 28 #[.int .i64 0,.slice none 0 0,.slice none 0 0,.slice none 0 0,.slice none 0 0,.slice none 0 0]:=⟨.agg #[.int .i64 0,.slice none 0 0,.slice none 0 0,.slice none 0 0,.slice none 0 0,.slice none 0 0],vK λ _=>by kernel_rfl,rfl⟩
theorem aOI:jF prog 29 #[.slice none 0 0]:=⟨.slice none 0 0,vK λ _=>by kernel_rfl,rfl⟩
theorem aOJ:jF prog 33 #[.int .i64 0]:=⟨.int .i64 0,vK λ _=>by kernel_rfl,rfl⟩
theorem NR:jF prog 41 #[.int .i64 0,.int .i64 0]:=⟨.agg #[.int .i64 0,.int .i64 0],vK λ _=>by kernel_rfl,rfl⟩
theorem aOK:jF prog 59 #[.int .i64 0,.int .i64 0,.bool false]:=⟨.agg #[.int .i64 0,.int .i64 0,.bool false],vK λ _=>by kernel_rfl,rfl⟩
theorem TM:jF prog 64 #[.int .i64 0,.int .i64 0]:=⟨.agg #[.int .i64 0,.int .i64 0],vK λ _=>by kernel_rfl,rfl⟩
theorem aOL:jF prog 93 #[.string ⟨#[]⟩,.int .i64 0]:=⟨.agg #[.string ⟨#[]⟩,.int .i64 0],vK λ _=>by kernel_rfl,rfl⟩
theorem Dp:jF prog 96 #[.int .i64 0,.int .i64 0,.int .i64 0,.int .i64 0]:=⟨.agg #[.int .i64 0,.int .i64 0,.int .i64 0,.int .i64 0],vK λ _=>by kernel_rfl,rfl⟩
theorem TL:jF prog 116 #[.int .i64 0,.int .i64 0,.int .i64 0]:=⟨.agg #[.int .i64 0,.int .i64 0,.int .i64 0],vK λ _=>by kernel_rfl,rfl⟩
theorem alU:jF prog 119 #[.int .i64 0,.slice none 0 0,.slice none 0 0,.slice none 0 0,.slice none 0 0,.slice none 0 0]:=⟨.agg #[.int .i64 0,.slice none 0 0,.slice none 0 0,.slice none 0 0,.slice none 0 0,.slice none 0 0],vK λ _=>by kernel_rfl,rfl⟩
theorem nR:jF prog 122 #[.int .i64 0,.slice none 0 0,.slice none 0 0,.slice none 0 0,.slice none 0 0,.slice none 0 0,.slice none 0 0]:=⟨.agg #[.int .i64 0,.slice none 0 0,.slice none 0 0,.slice none 0 0,.slice none 0 0,.slice none 0 0,.slice none 0 0],vK λ _=>by kernel_rfl,rfl⟩
theorem l5:jF prog 143 #[.bool false,.bool false,.bool false,.bool false]:=⟨.agg #[.bool false,.bool false,.bool false,.bool false],vK λ _=>by kernel_rfl,rfl⟩
theorem je:jF prog 145 #[.bool false,.bool false,.bool false,.bool false,.bool false,.bool false,.bool false,.bool false,.bool false,.bool false,.bool false,.bool false,.bool false,.bool false,.bool false,.bool false]:=⟨.agg #[.bool false,.bool false,.bool false,.bool false,.bool false,.bool false,.bool false,.bool false,.bool false,.bool false,.bool false,.bool false,.bool false,.bool false,.bool false,.bool false],vK λ _=>by kernel_rfl,rfl⟩
theorem aOC:jF prog 148 #[.nilFunc]:=⟨.nilFunc,vK λ _=>by kernel_rfl,rfl⟩
theorem aOD:jF prog 166 #[.nilFunc]:=⟨.nilFunc,vK λ _=>by kernel_rfl,rfl⟩
theorem aOE:jF prog 187 #[.nilFunc]:=⟨.nilFunc,vK λ _=>by kernel_rfl,rfl⟩
theorem aOF:jF prog 194 #[.int .i32 0,.int .u32 0]:=⟨.agg #[.int .i32 0,.int .u32 0],vK λ _=>by kernel_rfl,rfl⟩
theorem aOG:jF prog 201 #[.int .u64 0,.int .u32 0]:=⟨.agg #[.int .u64 0,.int .u32 0],vK λ _=>by kernel_rfl,rfl⟩
theorem aOH:jF prog 261 #[.int .u64 0]:=⟨.int .u64 0,vK λ _=>by kernel_rfl,rfl⟩
theorem asl:gU prog 28 0 0:=λ _ _=>vK λ _=>by kernel_rfl
theorem asn:gU prog 28 1 1:=λ _ _=>vK λ _=>by kernel_rfl
theorem aso:gU prog 28 2 2:=λ _ _=>vK λ _=>by kernel_rfl
theorem asp:gU prog 28 3 3:=λ _ _=>vK λ _=>by kernel_rfl
theorem asq:gU prog 28 4 4:=λ _ _=>vK λ _=>by kernel_rfl
theorem asr:gU prog 28 5 5:=λ _ _=>vK λ _=>by kernel_rfl
theorem ass:gU prog 41 0 0:=λ _ _=>vK λ _=>by kernel_rfl
theorem ast:gU prog 41 1 1:=λ _ _=>vK λ _=>by kernel_rfl
theorem asu:gU prog 59 0 0:=λ _ _=>vK λ _=>by kernel_rfl
theorem asv:gU prog 59 1 1:=λ _ _=>vK λ _=>by kernel_rfl
theorem asw:gU prog 59 2 2:=λ _ _=>vK λ _=>by kernel_rfl
theorem asx:gU prog 64 0 0:=λ _ _=>vK λ _=>by kernel_rfl
theorem asy:gU prog 64 1 1:=λ _ _=>vK λ _=>by kernel_rfl
theorem asz:gU prog 93 0 0:=λ _ _=>vK λ _=>by kernel_rfl
theorem asA:gU prog 93 1 1:=λ _ _=>vK λ _=>by kernel_rfl
theorem asB:gU prog 96 0 0:=λ _ _=>vK λ _=>by kernel_rfl
theorem asC:gU prog 96 1 1:=λ _ _=>vK λ _=>by kernel_rfl
theorem asD:gU prog 96 2 2:=λ _ _=>vK λ _=>by kernel_rfl
theorem asE:gU prog 96 3 3:=λ _ _=>vK λ _=>by kernel_rfl
theorem asa:gU prog 116 0 0:=λ _ _=>vK λ _=>by kernel_rfl
theorem asb:gU prog 119 0 0:=λ _ _=>vK λ _=>by kernel_rfl
theorem asc:gU prog 122 0 0:=λ _ _=>vK λ _=>by kernel_rfl
theorem asd:gU prog 122 1 6:=λ _ _=>vK λ _=>by kernel_rfl
theorem ase:gU prog 192 0 0:=λ _ _=>vK λ _=>by kernel_rfl
theorem asf:gU prog 192 1 1:=λ _ _=>vK λ _=>by kernel_rfl
theorem asg:gU prog 194 1 0:=λ _ _=>vK λ _=>by kernel_rfl
theorem ash:gU prog 199 2 0:=λ _ _=>vK λ _=>by kernel_rfl
theorem asi:gU prog 201 1 0:=λ _ _=>vK λ _=>by kernel_rfl
theorem asj:gU prog 201 2 1:=λ _ _=>vK λ _=>by kernel_rfl
theorem qR:nU prog 22 64 2:=⟨underlying22,vK λ _=>by kernel_rfl⟩
theorem I1:nU prog 23 41 2:=⟨underlying23,vK λ _=>by kernel_rfl⟩
theorem uK:nU prog 24 93 2:=⟨underlying24,vK λ _=>by kernel_rfl⟩
theorem yw:nU prog 25 96 4:=⟨underlying25,vK λ _=>by kernel_rfl⟩
theorem F4:nU prog 26 59 3:=⟨underlying26,vK λ _=>by kernel_rfl⟩
theorem abM:nU prog 29 36 1:=⟨underlying29,vK λ _=>by kernel_rfl⟩
theorem bT:nU prog 36 3 1:=⟨underlying36,vK λ _=>by kernel_rfl⟩
theorem ajX:nU prog 111 116 3:=⟨underlying111,vK λ _=>by kernel_rfl⟩
theorem abL:nU prog 157 145 16:=⟨underlying157,vK λ _=>by kernel_rfl⟩
theorem GZ:w6 prog 114 3 3 1:=⟨underlying114,vK λ _=>by kernel_rfl⟩
theorem rX:w6 prog 143 4 4 1:=⟨underlying143,vK λ _=>by kernel_rfl⟩
theorem xe:w6 prog 145 4 143 4:=⟨underlying145,vK λ _=>by kernel_rfl⟩
theorem G0:w6 prog 180 6 125 1:=⟨underlying180,vK λ _=>by kernel_rfl⟩
theorem C7:w8 prog 28 [(0,1),(1,1),(2,1),(3,1),(4,1),(5,1)] #[.int .i64 0,.slice none 0 0,.slice none 0 0,.slice none 0 0,.slice none 0 0,.slice none 0 0]:=⟨⟨.agg #[.int .i64 0,.slice none 0 0,.slice none 0 0,.slice none 0 0,.slice none 0 0,.slice none 0 0],vK λ _=>by kernel_rfl,rfl⟩,_,underlying28,vK λ _=>by kernel_rfl⟩
theorem SE:w8 prog 41 [(0,1),(1,1)] #[.int .i64 0,.int .i64 0]:=⟨⟨.agg #[.int .i64 0,.int .i64 0],vK λ _=>by kernel_rfl,rfl⟩,_,underlying41,vK λ _=>by kernel_rfl⟩
theorem aki:w8 prog 59 [(0,1),(1,1),(2,1)] #[.int .i64 0,.int .i64 0,.bool false]:=⟨⟨.agg #[.int .i64 0,.int .i64 0,.bool false],vK λ _=>by kernel_rfl,rfl⟩,_,underlying59,vK λ _=>by kernel_rfl⟩
theorem I4:w8 prog 64 [(0,1),(1,1)] #[.int .i64 0,.int .i64 0]:=⟨⟨.agg #[.int .i64 0,.int .i64 0],vK λ _=>by kernel_rfl,rfl⟩,_,underlying64,vK λ _=>by kernel_rfl⟩
theorem akj:w8 prog 93 [(0,1),(1,1)] #[.string ⟨#[]⟩,.int .i64 0]:=⟨⟨.agg #[.string ⟨#[]⟩,.int .i64 0],vK λ _=>by kernel_rfl,rfl⟩,_,underlying93,vK λ _=>by kernel_rfl⟩
theorem abU:w8 prog 96 [(0,1),(1,1),(2,1),(3,1)] #[.int .i64 0,.int .i64 0,.int .i64 0,.int .i64 0]:=⟨⟨.agg #[.int .i64 0,.int .i64 0,.int .i64 0,.int .i64 0],vK λ _=>by kernel_rfl,rfl⟩,_,underlying96,vK λ _=>by kernel_rfl⟩
theorem tq:w8 prog 119 [(0,6)] #[.int .i64 0,.slice none 0 0,.slice none 0 0,.slice none 0 0,.slice none 0 0,.slice none 0 0]:=⟨⟨.agg #[.int .i64 0,.slice none 0 0,.slice none 0 0,.slice none 0 0,.slice none 0 0,.slice none 0 0],vK λ _=>by kernel_rfl,rfl⟩,_,underlying119,vK λ _=>by kernel_rfl⟩
theorem C6:w8 prog 122 [(0,6),(6,1)] #[.int .i64 0,.slice none 0 0,.slice none 0 0,.slice none 0 0,.slice none 0 0,.slice none 0 0,.slice none 0 0]:=⟨⟨.agg #[.int .i64 0,.slice none 0 0,.slice none 0 0,.slice none 0 0,.slice none 0 0,.slice none 0 0,.slice none 0 0],vK λ _=>by kernel_rfl,rfl⟩,_,underlying122,vK λ _=>by kernel_rfl⟩
theorem Ow:acZ prog 145 #[.bool false,.bool false,.bool false,.bool false,.bool false,.bool false,.bool false,.bool false,.bool false,.bool false,.bool false,.bool false,.bool false,.bool false,.bool false,.bool false]:=⟨⟨.agg #[.bool false,.bool false,.bool false,.bool false,.bool false,.bool false,.bool false,.bool false,.bool false,.bool false,.bool false,.bool false,.bool false,.bool false,.bool false,.bool false],vK λ _=>by kernel_rfl,rfl⟩,_,_,4,underlying145,vK λ _=>by kernel_rfl⟩
theorem iB:ai prog (sizeOf 3) 1:=vK λ _=>by kernel_rfl
theorem O5:uW prog 22 64 2 #[.int .i64 0,.int .i64 0]:=⟨underlying22,vK λ _=>by kernel_rfl,⟨.agg #[.int .i64 0,.int .i64 0],vK λ _=>by kernel_rfl,rfl⟩,rfl,by decide⟩
theorem aeZ:uW prog 23 41 2 #[.int .i64 0,.int .i64 0]:=⟨underlying23,vK λ _=>by kernel_rfl,⟨.agg #[.int .i64 0,.int .i64 0],vK λ _=>by kernel_rfl,rfl⟩,rfl,by decide⟩
theorem ae0:uW prog 24 93 2 #[.string ⟨#[]⟩,.int .i64 0]:=⟨underlying24,vK λ _=>by kernel_rfl,⟨.agg #[.string ⟨#[]⟩,.int .i64 0],vK λ _=>by kernel_rfl,rfl⟩,rfl,by decide⟩
theorem ae1:uW prog 25 96 4 #[.int .i64 0,.int .i64 0,.int .i64 0,.int .i64 0]:=⟨underlying25,vK λ _=>by kernel_rfl,⟨.agg #[.int .i64 0,.int .i64 0,.int .i64 0,.int .i64 0],vK λ _=>by kernel_rfl,rfl⟩,rfl,by decide⟩
theorem yV:uW prog 26 59 3 #[.int .i64 0,.int .i64 0,.bool false]:=⟨underlying26,vK λ _=>by kernel_rfl,⟨.agg #[.int .i64 0,.int .i64 0,.bool false],vK λ _=>by kernel_rfl,rfl⟩,rfl,by decide⟩
theorem O6:uW prog 29 36 1 #[.slice none 0 0]:=⟨underlying29,vK λ _=>by kernel_rfl,⟨.slice none 0 0,vK λ _=>by kernel_rfl,rfl⟩,rfl,by decide⟩
theorem py:uW prog 36 3 1 #[.int .i64 0]:=⟨underlying36,vK λ _=>by kernel_rfl,⟨.int .i64 0,vK λ _=>by kernel_rfl,rfl⟩,rfl,by decide⟩
theorem apz:uW prog 111 116 3 #[.int .i64 0,.int .i64 0,.int .i64 0]:=⟨underlying111,vK λ _=>by kernel_rfl,⟨.agg #[.int .i64 0,.int .i64 0,.int .i64 0],vK λ _=>by kernel_rfl,rfl⟩,rfl,by decide⟩
theorem apA:uW prog 157 145 16 #[.bool false,.bool false,.bool false,.bool false,.bool false,.bool false,.bool false,.bool false,.bool false,.bool false,.bool false,.bool false,.bool false,.bool false,.bool false,.bool false]:=⟨underlying157,vK λ _=>by kernel_rfl,⟨.agg #[.bool false,.bool false,.bool false,.bool false,.bool false,.bool false,.bool false,.bool false,.bool false,.bool false,.bool false,.bool false,.bool false,.bool false,.bool false,.bool false],vK λ _=>by kernel_rfl,rfl⟩,rfl,by decide⟩
theorem aqf:bq prog 20:=⟨⟨Tryz.f20,func20,by decide +kernel,rfl⟩⟩
theorem Vu:bq prog 22:=⟨⟨Tryz.f22,func22,by decide +kernel,rfl⟩⟩
theorem Vv:bq prog 23:=⟨⟨Tryz.f23,func23,by decide +kernel,rfl⟩⟩
theorem Vz:bq prog 25:=⟨⟨Tryz.f25,func25,by decide +kernel,rfl⟩⟩
theorem afj:bq prog 27:=⟨⟨Tryz.f27,func27,by decide +kernel,rfl⟩⟩
theorem aqL:bq prog 28:=⟨⟨Tryz.f28,func28,by decide +kernel,rfl⟩⟩
theorem Kx:bq prog 30:=⟨⟨Tryz.f30,func30,by decide +kernel,rfl⟩⟩
theorem afk:bq prog 32:=⟨⟨Tryz.f32,func32,by decide +kernel,rfl⟩⟩
theorem Pe:bq prog 34:=⟨⟨Tryz.f34,func34,by decide +kernel,rfl⟩⟩
theorem aqM:bq prog 36:=⟨⟨Tryz.f36,func36,by decide +kernel,rfl⟩⟩
theorem aqN:bq prog 38:=⟨⟨Tryz.f38,func38,by decide +kernel,rfl⟩⟩
theorem VA:bq prog 39:=⟨⟨Tryz.f39,func39,by decide +kernel,rfl⟩⟩
theorem VC:bq prog 41:=⟨⟨Tryz.f41,func41,by decide +kernel,rfl⟩⟩
theorem Pf:bq prog 43:=⟨⟨Tryz.f43,func43,by decide +kernel,rfl⟩⟩
theorem aqO:bq prog 45:=⟨⟨Tryz.f45,func45,by decide +kernel,rfl⟩⟩
theorem VD:bq prog 46:=⟨⟨Tryz.f46,func46,by decide +kernel,rfl⟩⟩
theorem aqP:bq prog 47:=⟨⟨Tryz.f47,func47,by decide +kernel,rfl⟩⟩
theorem afl:bq prog 48:=⟨⟨Tryz.f48,func48,by decide +kernel,rfl⟩⟩
theorem afm:bq prog 49:=⟨⟨Tryz.f49,func49,by decide +kernel,rfl⟩⟩
theorem aqQ:bq prog 50:=⟨⟨Tryz.f50,func50,by decide +kernel,rfl⟩⟩
theorem afn:bq prog 51:=⟨⟨Tryz.f51,func51,by decide +kernel,rfl⟩⟩
theorem afo:bq prog 52:=⟨⟨Tryz.f52,func52,by decide +kernel,rfl⟩⟩
theorem aqR:bq prog 54:=⟨⟨Tryz.f54,func54,by decide +kernel,rfl⟩⟩
theorem aqS:bq prog 59:=⟨⟨Tryz.f59,func59,by decide +kernel,rfl⟩⟩
theorem oG:bq prog 60:=⟨⟨Tryz.f60,func60,by decide +kernel,rfl⟩⟩
theorem aqT:bq prog 66:=⟨⟨Tryz.f66,func66,by decide +kernel,rfl⟩⟩
theorem aqU:bq prog 74:=⟨⟨Tryz.f74,func74,by decide +kernel,rfl⟩⟩
theorem aqV:bq prog 77:=⟨⟨Tryz.f77,func77,by decide +kernel,rfl⟩⟩
theorem Bp:bq prog 82:=⟨⟨Tryz.f82,func82,by decide +kernel,rfl⟩⟩
theorem aqW:bq prog 88:=⟨⟨Tryz.f88,func88,by decide +kernel,rfl⟩⟩
theorem Pg:bq prog 89:=⟨⟨Tryz.f89,func89,by decide +kernel,rfl⟩⟩
theorem afp:bq prog 90:=⟨⟨Tryz.f90,func90,by decide +kernel,rfl⟩⟩
theorem VE:bq prog 91:=⟨⟨Tryz.f91,func91,by decide +kernel,rfl⟩⟩
theorem Ph:bq prog 92:=⟨⟨Tryz.f92,func92,by decide +kernel,rfl⟩⟩
theorem ql:bq prog 94:=⟨⟨Tryz.f94,func94,by decide +kernel,rfl⟩⟩
theorem Pj:bq prog 95:=⟨⟨Tryz.f95,func95,by decide +kernel,rfl⟩⟩
theorem afq:bq prog 96:=⟨⟨Tryz.f96,func96,by decide +kernel,rfl⟩⟩
theorem aqX:bq prog 97:=⟨⟨Tryz.f97,func97,by decide +kernel,rfl⟩⟩
theorem ae3:bq prog 100:=⟨⟨Tryz.f100,func100,by decide +kernel,rfl⟩⟩
theorem ae4:bq prog 102:=⟨⟨Tryz.f102,func102,by decide +kernel,rfl⟩⟩
theorem apF:bq prog 103:=⟨⟨Tryz.f103,func103,by decide +kernel,rfl⟩⟩
theorem O8:bq prog 104:=⟨⟨Tryz.f104,func104,by decide +kernel,rfl⟩⟩
theorem apG:bq prog 106:=⟨⟨Tryz.f106,func106,by decide +kernel,rfl⟩⟩
theorem Bo:bq prog 107:=⟨⟨Tryz.f107,func107,by decide +kernel,rfl⟩⟩
theorem ae5:bq prog 108:=⟨⟨Tryz.f108,func108,by decide +kernel,rfl⟩⟩
theorem O9:bq prog 109:=⟨⟨Tryz.f109,func109,by decide +kernel,rfl⟩⟩
theorem apH:bq prog 110:=⟨⟨Tryz.f110,func110,by decide +kernel,rfl⟩⟩
theorem Vm:bq prog 111:=⟨⟨Tryz.f111,func111,by decide +kernel,rfl⟩⟩
theorem apI:bq prog 115:=⟨⟨Tryz.f115,func115,by decide +kernel,rfl⟩⟩
theorem apJ:bq prog 116:=⟨⟨Tryz.f116,func116,by decide +kernel,rfl⟩⟩
theorem Vn:bq prog 117:=⟨⟨Tryz.f117,func117,by decide +kernel,rfl⟩⟩
theorem apK:bq prog 118:=⟨⟨Tryz.f118,func118,by decide +kernel,rfl⟩⟩
theorem DL:bq prog 121:=⟨⟨Tryz.f121,func121,by decide +kernel,rfl⟩⟩
theorem Pa:bq prog 122:=⟨⟨Tryz.f122,func122,by decide +kernel,rfl⟩⟩
theorem sa:bq prog 123:=⟨⟨Tryz.f123,func123,by decide +kernel,rfl⟩⟩
theorem kD:bq prog 124:=⟨⟨Tryz.f124,func124,by decide +kernel,rfl⟩⟩
theorem ae6:bq prog 126:=⟨⟨Tryz.f126,func126,by decide +kernel,rfl⟩⟩
theorem apL:bq prog 127:=⟨⟨Tryz.f127,func127,by decide +kernel,rfl⟩⟩
theorem apM:bq prog 128:=⟨⟨Tryz.f128,func128,by decide +kernel,rfl⟩⟩
theorem ae7:bq prog 129:=⟨⟨Tryz.f129,func129,by decide +kernel,rfl⟩⟩
theorem Vo:bq prog 130:=⟨⟨Tryz.f130,func130,by decide +kernel,rfl⟩⟩
theorem apN:bq prog 131:=⟨⟨Tryz.f131,func131,by decide +kernel,rfl⟩⟩
theorem ae8:bq prog 132:=⟨⟨Tryz.f132,func132,by decide +kernel,rfl⟩⟩
theorem Vp:bq prog 133:=⟨⟨Tryz.f133,func133,by decide +kernel,rfl⟩⟩
theorem Vq:bq prog 134:=⟨⟨Tryz.f134,func134,by decide +kernel,rfl⟩⟩
theorem apO:bq prog 138:=⟨⟨Tryz.f138,func138,by decide +kernel,rfl⟩⟩
theorem nA:bq prog 139:=⟨⟨Tryz.f139,func139,by decide +kernel,rfl⟩⟩
theorem ae9:bq prog 140:=⟨⟨Tryz.f140,func140,by decide +kernel,rfl⟩⟩
theorem apP:bq prog 141:=⟨⟨Tryz.f141,func141,by decide +kernel,rfl⟩⟩
theorem apQ:bq prog 142:=⟨⟨Tryz.f142,func142,by decide +kernel,rfl⟩⟩
theorem apR:bq prog 143:=⟨⟨Tryz.f143,func143,by decide +kernel,rfl⟩⟩
theorem apS:bq prog 144:=⟨⟨Tryz.f144,func144,by decide +kernel,rfl⟩⟩
theorem apT:bq prog 145:=⟨⟨Tryz.f145,func145,by decide +kernel,rfl⟩⟩
theorem apU:bq prog 146:=⟨⟨Tryz.f146,func146,by decide +kernel,rfl⟩⟩
theorem afa:bq prog 149:=⟨⟨Tryz.f149,func149,by decide +kernel,rfl⟩⟩
theorem Vr:bq prog 151:=⟨⟨Tryz.f151,func151,by decide +kernel,rfl⟩⟩
theorem apV:bq prog 152:=⟨⟨Tryz.f152,func152,by decide +kernel,rfl⟩⟩
theorem apW:bq prog 159:=⟨⟨Tryz.f159,func159,by decide +kernel,rfl⟩⟩
theorem apX:bq prog 160:=⟨⟨Tryz.f160,func160,by decide +kernel,rfl⟩⟩
theorem afb:bq prog 161:=⟨⟨Tryz.f161,func161,by decide +kernel,rfl⟩⟩
theorem afc:bq prog 162:=⟨⟨Tryz.f162,func162,by decide +kernel,rfl⟩⟩
theorem Hd:bq prog 163:=⟨⟨Tryz.f163,func163,by decide +kernel,rfl⟩⟩
theorem apY:bq prog 164:=⟨⟨Tryz.f164,func164,by decide +kernel,rfl⟩⟩
theorem apZ:bq prog 165:=⟨⟨Tryz.f165,func165,by decide +kernel,rfl⟩⟩
theorem Pb:bq prog 166:=⟨⟨Tryz.f166,func166,by decide +kernel,rfl⟩⟩
theorem Vs:bq prog 167:=⟨⟨Tryz.f167,func167,by decide +kernel,rfl⟩⟩
theorem afd:bq prog 168:=⟨⟨Tryz.f168,func168,by decide +kernel,rfl⟩⟩
theorem afe:bq prog 169:=⟨⟨Tryz.f169,func169,by decide +kernel,rfl⟩⟩
theorem ap0:bq prog 170:=⟨⟨Tryz.f170,func170,by decide +kernel,rfl⟩⟩
theorem ap1:bq prog 172:=⟨⟨Tryz.f172,func172,by decide +kernel,rfl⟩⟩
theorem ap2:bq prog 173:=⟨⟨Tryz.f173,func173,by decide +kernel,rfl⟩⟩
theorem ap3:bq prog 174:=⟨⟨Tryz.f174,func174,by decide +kernel,rfl⟩⟩
theorem ap4:bq prog 175:=⟨⟨Tryz.f175,func175,by decide +kernel,rfl⟩⟩
theorem ap5:bq prog 177:=⟨⟨Tryz.f177,func177,by decide +kernel,rfl⟩⟩
theorem ap6:bq prog 178:=⟨⟨Tryz.f178,func178,by decide +kernel,rfl⟩⟩
theorem ap7:bq prog 179:=⟨⟨Tryz.f179,func179,by decide +kernel,rfl⟩⟩
theorem ap8:bq prog 180:=⟨⟨Tryz.f180,func180,by decide +kernel,rfl⟩⟩
theorem ap9:bq prog 181:=⟨⟨Tryz.f181,func181,by decide +kernel,rfl⟩⟩
theorem aqa:bq prog 182:=⟨⟨Tryz.f182,func182,by decide +kernel,rfl⟩⟩
theorem aqb:bq prog 183:=⟨⟨Tryz.f183,func183,by decide +kernel,rfl⟩⟩
theorem aqc:bq prog 184:=⟨⟨Tryz.f184,func184,by decide +kernel,rfl⟩⟩
theorem aqd:bq prog 186:=⟨⟨Tryz.f186,func186,by decide +kernel,rfl⟩⟩
theorem aqe:bq prog 187:=⟨⟨Tryz.f187,func187,by decide +kernel,rfl⟩⟩
theorem Vt:bq prog 188:=⟨⟨Tryz.f188,func188,by decide +kernel,rfl⟩⟩
theorem aff:bq prog 189:=⟨⟨Tryz.f189,func189,by decide +kernel,rfl⟩⟩
theorem aqg:bq prog 203:=⟨⟨Tryz.f203,func203,by decide +kernel,rfl⟩⟩
theorem aqh:bq prog 204:=⟨⟨Tryz.f204,func204,by decide +kernel,rfl⟩⟩
theorem aqi:bq prog 211:=⟨⟨Tryz.f211,func211,by decide +kernel,rfl⟩⟩
theorem afg:bq prog 212:=⟨⟨Tryz.f212,func212,by decide +kernel,rfl⟩⟩
theorem aqj:bq prog 213:=⟨⟨Tryz.f213,func213,by decide +kernel,rfl⟩⟩
theorem aqk:bq prog 214:=⟨⟨Tryz.f214,func214,by decide +kernel,rfl⟩⟩
theorem aql:bq prog 215:=⟨⟨Tryz.f215,func215,by decide +kernel,rfl⟩⟩
theorem aqm:bq prog 216:=⟨⟨Tryz.f216,func216,by decide +kernel,rfl⟩⟩
theorem aqn:bq prog 217:=⟨⟨Tryz.f217,func217,by decide +kernel,rfl⟩⟩
theorem aqo:bq prog 218:=⟨⟨Tryz.f218,func218,by decide +kernel,rfl⟩⟩
theorem aqp:bq prog 219:=⟨⟨Tryz.f219,func219,by decide +kernel,rfl⟩⟩
theorem aqq:bq prog 220:=⟨⟨Tryz.f220,func220,by decide +kernel,rfl⟩⟩
theorem rq:bq prog 221:=⟨⟨Tryz.f221,func221,by decide +kernel,rfl⟩⟩
theorem aqr:bq prog 222:=⟨⟨Tryz.f222,func222,by decide +kernel,rfl⟩⟩
theorem aqs:bq prog 223:=⟨⟨Tryz.f223,func223,by decide +kernel,rfl⟩⟩
theorem aqt:bq prog 225:=⟨⟨Tryz.f225,func225,by decide +kernel,rfl⟩⟩
theorem aqu:bq prog 231:=⟨⟨Tryz.f231,func231,by decide +kernel,rfl⟩⟩
theorem afh:bq prog 233:=⟨⟨Tryz.f233,func233,by decide +kernel,rfl⟩⟩
theorem Pd:bq prog 235:=⟨⟨Tryz.f235,func235,by decide +kernel,rfl⟩⟩
theorem afi:bq prog 236:=⟨⟨Tryz.f236,func236,by decide +kernel,rfl⟩⟩
theorem aqv:bq prog 237:=⟨⟨Tryz.f237,func237,by decide +kernel,rfl⟩⟩
theorem aqw:bq prog 238:=⟨⟨Tryz.f238,func238,by decide +kernel,rfl⟩⟩
theorem Vw:bq prog 239:=⟨⟨Tryz.f239,func239,by decide +kernel,rfl⟩⟩
theorem Vx:bq prog 240:=⟨⟨Tryz.f240,func240,by decide +kernel,rfl⟩⟩
theorem Vy:bq prog 248:=⟨⟨Tryz.f248,func248,by decide +kernel,rfl⟩⟩
theorem aqx:bq prog 265:=⟨⟨Tryz.f265,func265,by decide +kernel,rfl⟩⟩
theorem aqy:bq prog 266:=⟨⟨Tryz.f266,func266,by decide +kernel,rfl⟩⟩
theorem aqz:bq prog 267:=⟨⟨Tryz.f267,func267,by decide +kernel,rfl⟩⟩
theorem aqA:bq prog 268:=⟨⟨Tryz.f268,func268,by decide +kernel,rfl⟩⟩
theorem aqB:bq prog 269:=⟨⟨Tryz.f269,func269,by decide +kernel,rfl⟩⟩
theorem aqC:bq prog 270:=⟨⟨Tryz.f270,func270,by decide +kernel,rfl⟩⟩
theorem aqD:bq prog 271:=⟨⟨Tryz.f271,func271,by decide +kernel,rfl⟩⟩
theorem aqE:bq prog 272:=⟨⟨Tryz.f272,func272,by decide +kernel,rfl⟩⟩
theorem aqF:bq prog 273:=⟨⟨Tryz.f273,func273,by decide +kernel,rfl⟩⟩
theorem aqG:bq prog 274:=⟨⟨Tryz.f274,func274,by decide +kernel,rfl⟩⟩
theorem aqH:bq prog 275:=⟨⟨Tryz.f275,func275,by decide +kernel,rfl⟩⟩
theorem aqI:bq prog 276:=⟨⟨Tryz.f276,func276,by decide +kernel,rfl⟩⟩
theorem aqJ:bq prog 277:=⟨⟨Tryz.f277,func277,by decide +kernel,rfl⟩⟩
theorem aqK:bq prog 278:=⟨⟨Tryz.f278,func278,by decide +kernel,rfl⟩⟩
def aa9:Nat→Nat→Option Nat
 | 28,0=>some 0
 | 28,1=>some 1
 | 28,2=>some 2
 | 28,3=>some 3
 | 28,4=>some 4
 | 28,5=>some 5
 | 41,0=>some 0
 | 41,1=>some 1
 | 59,0=>some 0
 | 59,1=>some 1
 | 59,2=>some 2
 | 64,0=>some 0
 | 64,1=>some 1
 | 93,0=>some 0
 | 93,1=>some 1
 | 96,0=>some 0
 | 96,1=>some 1
 | 96,2=>some 2
 | 96,3=>some 3
 | 116,0=>some 0
 | 119,0=>some 0
 | 122,0=>some 0
 | 122,1=>some 6
 | 192,0=>some 0
 | 192,1=>some 1
 | 194,1=>some 0
 | 199,2=>some 0
 | 201,1=>some 0
 | 201,2=>some 1
 | _,_=>none
theorem aKK(s f n:Nat)(h:aa9 s f=some n):gU prog s f n:=by
 unfold aa9 at h
 split at h
 ·cases h; exact asl
 ·cases h; exact asn
 ·cases h; exact aso
 ·cases h; exact asp
 ·cases h; exact asq
 ·cases h; exact asr
 ·cases h; exact ass
 ·cases h; exact ast
 ·cases h; exact asu
 ·cases h; exact asv
 ·cases h; exact asw
 ·cases h; exact asx
 ·cases h; exact asy
 ·cases h; exact asz
 ·cases h; exact asA
 ·cases h; exact asB
 ·cases h; exact asC
 ·cases h; exact asD
 ·cases h; exact asE
 ·cases h; exact asa
 ·cases h; exact asb
 ·cases h; exact asc
 ·cases h; exact asd
 ·cases h; exact ase
 ·cases h; exact asf
 ·cases h; exact asg
 ·cases h; exact ash
 ·cases h; exact asi
 ·cases h; exact asj
 ·cases h
instance:nz prog:=⟨aa9,aKK⟩
set_option maxRecDepth 100000
abbrev iv(z:Int):Value:=.int .i64 z
theorem zB{P:Program}{e:Nat}(h:(P.info? e).any (λ i=>decide (i.bytes≤65536))=true):∃ i,P.info? e=some i∧i.bytes≤65536:=by
 cases hi:P.info? e with
 | none=>rw [hi] at h; cases h
 | some i=>rw [hi] at h; exact ⟨i,rfl,by simpa using h⟩
structure gm where
 fA:Int
 fT:Int
def cq:cQ gm:=λ _ x es=>es=[iv x.fA,iv x.fT]
instance:CM cq:=⟨λ hR h=>by obtain rfl:=h; exact rfl,λ h=>by obtain rfl:=h; simp [Value.oneCell']⟩
structure Reach where
 c6:Int
 eA:Int
def cj:cQ Reach:=λ _ x es=>es=[iv x.c6,iv x.eA]
instance:CM cj:=⟨λ hR h=>by obtain rfl:=h; exact rfl,λ h=>by obtain rfl:=h; simp [Value.oneCell']⟩
structure fG where
 Name:ByteArray
 nv:Int
def cb:cQ fG:=λ _ x es=>es=[.string x.Name,iv x.nv]
instance:CM cb:=⟨λ hR h=>by obtain rfl:=h; exact rfl,λ h=>by obtain rfl:=h; simp [Value.oneCell']⟩
structure mB where
 Place:Int
 jC:Int
 gW:Int
 ax:Int
def cp:cQ mB:=λ _ x es=>es=[iv x.Place,iv x.jC,iv x.gW,iv x.ax]
instance:CM cp:=⟨λ hR h=>by obtain rfl:=h; exact rfl,λ h=>by obtain rfl:=h; simp [Value.oneCell']⟩
structure dp where
 Place:Int
 iQ:Int
 mO:Bool
def bU:cQ dp:=λ _ x es=>es=[iv x.Place,iv x.iQ,.bool x.mO]
instance:CM bU:=⟨λ hR h=>by obtain rfl:=h; exact rfl,λ h=>by obtain rfl:=h; simp [Value.oneCell']⟩
structure aj where
 Rest:Int
 Rows:(List gm)
 aK:(List Reach)
 ax:(List fG)
 ay:(List mB)
 bg:(List dp)
def TN:cQ aj:=λ R x es=>∃ SV SW SX SY SZ,aa cq 2 R SV x.Rows∧aa cj 2 R SW x.aK∧aa cb 2 R SX x.ax∧aa cp 4 R SY x.ay∧aa bU 3 R SZ x.bg∧es=[iv x.Rest,SV,SW,SX,SY,SZ]
instance:CM TN:=⟨λ hR h=>by obtain ⟨SV,SW,SX,SY,SZ,XO,XP,XQ,XR,XS,rfl⟩:=h; exact ⟨_,_,_,_,_,XO.mono hR,XP.mono hR,XQ.mono hR,XR.mono hR,XS.mono hR,rfl⟩,λ h=>by obtain ⟨SV,SW,SX,SY,SZ,XO,XP,XQ,XR,XS,rfl⟩:=h; intro u hu; simp only [fy,List.not_mem_nil,or_false] at hu; rcases hu with rfl | rfl | rfl | rfl | rfl | rfl <;> first | rfl | exact XO.one | exact XP.one | exact XQ.one | exact XR.one | exact XS.one⟩
structure bz where
 deep:(List Int)
def gl:cQ bz:=λ _ x es=>x.deep.length=3∧es=([]++(x.deep.map (Value.int .i64)++[]))
instance:CM gl:=⟨λ hR h=>by obtain ⟨ahV,rfl⟩:=h; exact ⟨ahV,rfl⟩,λ h=>by obtain ⟨ahV,rfl⟩:=h; simp [Value.oneCell']⟩
structure cD where
 book:aj
 fH:(List bz)
theorem four{α:Type}{l:List α}(h:l.length=4):∃ a b c d,l=[a,b,c,d]:=by
 match l,h with
 | [a,b,c,d],_=>exact ⟨a,b,c,d,rfl⟩
theorem aNI{P:Program}{d:Nat}{t:TypeId}{a b:ByteArray}(hu:P.underlying t=some .string):ai P (Op.equalIn (d+1) t (.string a) (.string b)) (a == b):=by
 rw [Op.equalIn]
 exact ai.bL (ai.underlying hu) (ai.bF _)
theorem agj:prog.eqGuardType prog.depth 41=false:=by decide +kernel
def KA(x y:Reach):Bool:=(x.c6 == y.c6 && (x.eA == y.eA && true))
theorem aft(x y:Reach):ai prog (Op.equal 41 (.agg #[iv x.c6,iv x.eA]) (.agg #[iv y.c6,iv y.eA])) (KA x y):=Ns (d:=9999) underlying41 (by decide +kernel) (.cons rfl (vK λ _=>by kernel_rfl) (vK λ _=>by kernel_rfl) (wH underlying3) (.cons rfl (vK λ _=>by kernel_rfl) (vK λ _=>by kernel_rfl) (wH underlying3) .nil))
theorem Pw:prog.eqGuardType prog.depth 64=false:=by decide +kernel
def DO(x y:gm):Bool:=(x.fA == y.fA && (x.fT == y.fT && true))
theorem Pl(x y:gm):ai prog (Op.equal 64 (.agg #[iv x.fA,iv x.fT]) (.agg #[iv y.fA,iv y.fT])) (DO x y):=Ns (d:=9999) underlying64 (by decide +kernel) (.cons rfl (vK λ _=>by kernel_rfl) (vK λ _=>by kernel_rfl) (wH underlying3) (.cons rfl (vK λ _=>by kernel_rfl) (vK λ _=>by kernel_rfl) (wH underlying3) .nil))
theorem asW:prog.eqGuardType prog.depth 93=false:=by decide +kernel
def VK(x y:fG):Bool:=(x.Name == y.Name && (x.nv == y.nv && true))
theorem aq4(x y:fG):ai prog (Op.equal 93 (.agg #[.string x.Name,iv x.nv]) (.agg #[.string y.Name,iv y.nv])) (VK x y):=Ns (d:=9999) underlying93 (by decide +kernel) (.cons rfl (vK λ _=>by kernel_rfl) (vK λ _=>by kernel_rfl) (aNI underlying9) (.cons rfl (vK λ _=>by kernel_rfl) (vK λ _=>by kernel_rfl) (wH underlying3) .nil))
theorem asX:prog.eqGuardType prog.depth 96=false:=by decide +kernel
def VJ(x y:mB):Bool:=(x.Place == y.Place && (x.jC == y.jC && (x.gW == y.gW && (x.ax == y.ax && true))))
theorem aq5(x y:mB):ai prog (Op.equal 96 (.agg #[iv x.Place,iv x.jC,iv x.gW,iv x.ax]) (.agg #[iv y.Place,iv y.jC,iv y.gW,iv y.ax])) (VJ x y):=Ns (d:=9999) underlying96 (by decide +kernel) (.cons rfl (vK λ _=>by kernel_rfl) (vK λ _=>by kernel_rfl) (wH underlying3) (.cons rfl (vK λ _=>by kernel_rfl) (vK λ _=>by kernel_rfl) (wH underlying3) (.cons rfl (vK λ _=>by kernel_rfl) (vK λ _=>by kernel_rfl) (wH underlying3) (.cons rfl (vK λ _=>by kernel_rfl) (vK λ _=>by kernel_rfl) (wH underlying3) .nil))))
theorem asV:prog.eqGuardType prog.depth 59=false:=by decide +kernel
def VL(x y:dp):Bool:=(x.Place == y.Place && (x.iQ == y.iQ && (x.mO == y.mO && true)))
theorem aq3(x y:dp):ai prog (Op.equal 59 (.agg #[iv x.Place,iv x.iQ,.bool x.mO]) (.agg #[iv y.Place,iv y.iQ,.bool y.mO])) (VL x y):=Ns (d:=9999) underlying59 (by decide +kernel) (.cons rfl (vK λ _=>by kernel_rfl) (vK λ _=>by kernel_rfl) (wH underlying3) (.cons rfl (vK λ _=>by kernel_rfl) (vK λ _=>by kernel_rfl) (wH underlying3) (.cons rfl (vK λ _=>by kernel_rfl) (vK λ _=>by kernel_rfl) (Nr underlying4) .nil)))
theorem asU:prog.eqGuardType prog.depth 143=false:=by decide +kernel
def Kz(x y:List Bool):Bool:=x == y
theorem aq2{x y:List Bool}(hx:x.length=4)(hy:y.length=4):ai prog (Op.equal 143 (.agg (List.toArray ([]++(x.map Value.bool++[])))) (.agg (List.toArray ([]++(y.map Value.bool++[]))))) (Kz x y):=by
 obtain ⟨a0,a1,a2,a3,rfl⟩:=four hx
 obtain ⟨b0,b1,b2,b3,rfl⟩:=four hy
 have hw:([a0,a1,a2,a3] == [b0,b1,b2,b3])=((a0 == b0) && ((a1 == b1) && ((a2 == b2) && ((a3 == b3) && true)))):=by simp
 unfold Kz
 rw [hw]
 refine aNH (d:=9999) (n:=1) underlying143 (vK λ _=>by kernel_rfl) ?_
 refine .cons (i:=0) (rest:=[1,2,3]) (vK λ _=>by kernel_rfl) (vK λ _=>by kernel_rfl) (Nr underlying4) ?_
 refine .cons (i:=1) (rest:=[2,3]) (vK λ _=>by kernel_rfl) (vK λ _=>by kernel_rfl) (Nr underlying4) ?_
 refine .cons (i:=2) (rest:=[3]) (vK λ _=>by kernel_rfl) (vK λ _=>by kernel_rfl) (Nr underlying4) ?_
 refine .cons (i:=3) (rest:=[]) (vK λ _=>by kernel_rfl) (vK λ _=>by kernel_rfl) (Nr underlying4) ?_
 exact .nil
theorem Um:uV prog 22 64 2:=⟨underlying22,vK λ _=>by kernel_rfl,zB (by decide +kernel),⟨.agg #[.int .i64 0,.int .i64 0],vK λ _=>by kernel_rfl,rfl⟩⟩
theorem aod:uV prog 23 41 2:=⟨underlying23,vK λ _=>by kernel_rfl,zB (by decide +kernel),⟨.agg #[.int .i64 0,.int .i64 0],vK λ _=>by kernel_rfl,rfl⟩⟩
theorem aoe:uV prog 24 93 2:=⟨underlying24,vK λ _=>by kernel_rfl,zB (by decide +kernel),⟨.agg #[.string ⟨#[]⟩,.int .i64 0],vK λ _=>by kernel_rfl,rfl⟩⟩
theorem aof:uV prog 25 96 4:=⟨underlying25,vK λ _=>by kernel_rfl,zB (by decide +kernel),⟨.agg #[.int .i64 0,.int .i64 0,.int .i64 0,.int .i64 0],vK λ _=>by kernel_rfl,rfl⟩⟩
theorem xc:uV prog 26 59 3:=⟨underlying26,vK λ _=>by kernel_rfl,zB (by decide +kernel),⟨.agg #[.int .i64 0,.int .i64 0,.bool false],vK λ _=>by kernel_rfl,rfl⟩⟩
theorem aog:uV prog 29 36 1:=⟨underlying29,vK λ _=>by kernel_rfl,zB (by decide +kernel),⟨.slice none 0 0,vK λ _=>by kernel_rfl,rfl⟩⟩
theorem Un:uV prog 36 3 1:=⟨underlying36,vK λ _=>by kernel_rfl,zB (by decide +kernel),⟨.int .i64 0,vK λ _=>by kernel_rfl,rfl⟩⟩
theorem aob:uV prog 111 116 3:=⟨underlying111,vK λ _=>by kernel_rfl,zB (by decide +kernel),⟨.agg #[.int .i64 0,.int .i64 0,.int .i64 0],vK λ _=>by kernel_rfl,rfl⟩⟩
theorem aoc:uV prog 157 145 16:=⟨underlying157,vK λ _=>by kernel_rfl,zB (by decide +kernel),⟨.agg #[.bool false,.bool false,.bool false,.bool false,.bool false,.bool false,.bool false,.bool false,.bool false,.bool false,.bool false,.bool false,.bool false,.bool false,.bool false,.bool false],vK λ _=>by kernel_rfl,rfl⟩⟩
theorem aow:(Array.range (0 * 2)).map ((#[.int .i64 0,.int .i64 0]:Array Value)[· % (#[.int .i64 0,.int .i64 0]:Array Value).size]!)=#[]:=by kernel_rfl
theorem adX:(Array.range (1 * 2)).map ((#[.int .i64 0,.int .i64 0]:Array Value)[· % (#[.int .i64 0,.int .i64 0]:Array Value).size]!)=#[.int .i64 0,.int .i64 0]:=by kernel_rfl
theorem aox:(Array.range (2 * 2)).map ((#[.int .i64 0,.int .i64 0]:Array Value)[· % (#[.int .i64 0,.int .i64 0]:Array Value).size]!)=#[.int .i64 0,.int .i64 0,.int .i64 0,.int .i64 0]:=by kernel_rfl
theorem aoy:(Array.range (0 * 2)).map ((#[.int .i64 0,.int .i64 0]:Array Value)[· % (#[.int .i64 0,.int .i64 0]:Array Value).size]!)=#[]:=by kernel_rfl
theorem aoz:(Array.range (2 * 2)).map ((#[.int .i64 0,.int .i64 0]:Array Value)[· % (#[.int .i64 0,.int .i64 0]:Array Value).size]!)=#[.int .i64 0,.int .i64 0,.int .i64 0,.int .i64 0]:=by kernel_rfl
theorem aoA:(Array.range (0 * 2)).map ((#[.string ⟨#[]⟩,.int .i64 0]:Array Value)[· % (#[.string ⟨#[]⟩,.int .i64 0]:Array Value).size]!)=#[]:=by kernel_rfl
theorem aoB:(Array.range (2 * 2)).map ((#[.string ⟨#[]⟩,.int .i64 0]:Array Value)[· % (#[.string ⟨#[]⟩,.int .i64 0]:Array Value).size]!)=#[.string ⟨#[]⟩,.int .i64 0,.string ⟨#[]⟩,.int .i64 0]:=by kernel_rfl
theorem aoC:(Array.range (0 * 4)).map ((#[.int .i64 0,.int .i64 0,.int .i64 0,.int .i64 0]:Array Value)[· % (#[.int .i64 0,.int .i64 0,.int .i64 0,.int .i64 0]:Array Value).size]!)=#[]:=by kernel_rfl
theorem aoD:(Array.range (3 * 4)).map ((#[.int .i64 0,.int .i64 0,.int .i64 0,.int .i64 0]:Array Value)[· % (#[.int .i64 0,.int .i64 0,.int .i64 0,.int .i64 0]:Array Value).size]!)=#[.int .i64 0,.int .i64 0,.int .i64 0,.int .i64 0,.int .i64 0,.int .i64 0,.int .i64 0,.int .i64 0,.int .i64 0,.int .i64 0,.int .i64 0,.int .i64 0]:=by kernel_rfl
theorem UA:(Array.range (0 * 3)).map ((#[.int .i64 0,.int .i64 0,.bool false]:Array Value)[· % (#[.int .i64 0,.int .i64 0,.bool false]:Array Value).size]!)=#[]:=by kernel_rfl
theorem G7:(Array.range (1 * 3)).map ((#[.int .i64 0,.int .i64 0,.bool false]:Array Value)[· % (#[.int .i64 0,.int .i64 0,.bool false]:Array Value).size]!)=#[.int .i64 0,.int .i64 0,.bool false]:=by kernel_rfl
theorem aoE:(Array.range (1 * 1)).map ((#[.slice none 0 0]:Array Value)[· % (#[.slice none 0 0]:Array Value).size]!)=#[.slice none 0 0]:=by kernel_rfl
theorem UB:(Array.range (3 * 1)).map ((#[.slice none 0 0]:Array Value)[· % (#[.slice none 0 0]:Array Value).size]!)=#[.slice none 0 0,.slice none 0 0,.slice none 0 0]:=by kernel_rfl
theorem vf:(Array.range (1 * 1)).map ((#[.int .i64 0]:Array Value)[· % (#[.int .i64 0]:Array Value).size]!)=#[.int .i64 0]:=by kernel_rfl
theorem Kd:(Array.range (2 * 1)).map ((#[.int .i64 0]:Array Value)[· % (#[.int .i64 0]:Array Value).size]!)=#[.int .i64 0,.int .i64 0]:=by kernel_rfl
theorem aou:(Array.range (1 * 3)).map ((#[.int .i64 0,.int .i64 0,.int .i64 0]:Array Value)[· % (#[.int .i64 0,.int .i64 0,.int .i64 0]:Array Value).size]!)=#[.int .i64 0,.int .i64 0,.int .i64 0]:=by kernel_rfl
theorem aov:(Array.range (1 * 16)).map ((#[.bool false,.bool false,.bool false,.bool false,.bool false,.bool false,.bool false,.bool false,.bool false,.bool false,.bool false,.bool false,.bool false,.bool false,.bool false,.bool false]:Array Value)[· % (#[.bool false,.bool false,.bool false,.bool false,.bool false,.bool false,.bool false,.bool false,.bool false,.bool false,.bool false,.bool false,.bool false,.bool false,.bool false,.bool false]:Array Value).size]!)=#[.bool false,.bool false,.bool false,.bool false,.bool false,.bool false,.bool false,.bool false,.bool false,.bool false,.bool false,.bool false,.bool false,.bool false,.bool false,.bool false]:=by kernel_rfl
theorem aa3:Oi prog 206 3 3:=⟨underlying206,underlying3,λ e a=>vK λ _=>by kernel_rfl,vK λ _=>by kernel_rfl⟩
abbrev jf(R:az):Prop:=aT R [] 0 0 [.func (.func 265) #[] #[],.func (.func 266) #[] #[],.func (.func 267) #[] #[],.func (.func 268) #[] #[],.func (.func 269) #[] #[],.func (.func 270) #[] #[]]
theorem jf.mono{R R':az}(h:jf R)(hR:aS R R'):jf R':=aT.up (H:=[]) h hR
theorem jf.any{R:az}{H:ah}(h:jf R):aT R H 0 0 [.func (.func 265) #[] #[],.func (.func 266) #[] #[],.func (.func 267) #[] #[],.func (.func 268) #[] #[],.func (.func 269) #[] #[],.func (.func 270) #[] #[]]:=aT.any h
theorem mixed:prog.follows .mixedOrders=true:=by kernel_rfl
end Go.Proofs.YtihapemckcdicaaGreatDoor
