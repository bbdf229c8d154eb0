/- Closed facts on the program; the structs of the models. Conditions: none. -/
import Derived.Test.YtihapemckcdicaaGreatDoorQHLgC
import Derived.Test.YtihapemckcdicaaGreatDoorQHLgE
import Derived.Test.YtihapemckcdicaaGreatDoorProg
import Derived.KernelRfl
namespace Go.Proofs.YtihapemckcdicaaGreatDoor
open Go.Lg Go.Proofs Tryz
theorem bq:gP prog 3:=⟨vK λ _=>by kernel_rfl,vK λ _=>by kernel_rfl⟩
theorem iK:gP prog 4:=⟨vK λ _=>by kernel_rfl,vK λ _=>by kernel_rfl⟩
theorem Ey:gP prog 9:=⟨vK λ _=>by kernel_rfl,vK λ _=>by kernel_rfl⟩
theorem Hj:gP prog 21:=⟨vK λ _=>by kernel_rfl,vK λ _=>by kernel_rfl⟩
theorem mb:gP prog 22:=⟨vK λ _=>by kernel_rfl,vK λ _=>by kernel_rfl⟩
theorem nu:gP prog 23:=⟨vK λ _=>by kernel_rfl,vK λ _=>by kernel_rfl⟩
theorem iJ:gP prog 24:=⟨vK λ _=>by kernel_rfl,vK λ _=>by kernel_rfl⟩
theorem ib:gP prog 25:=⟨vK λ _=>by kernel_rfl,vK λ _=>by kernel_rfl⟩
theorem nv:gP prog 26:=⟨vK λ _=>by kernel_rfl,vK λ _=>by kernel_rfl⟩
theorem rj:gP prog 29:=⟨vK λ _=>by kernel_rfl,vK λ _=>by kernel_rfl⟩
theorem zv:gP prog 33:=⟨vK λ _=>by kernel_rfl,vK λ _=>by kernel_rfl⟩
theorem gZ:gP prog 36:=⟨vK λ _=>by kernel_rfl,vK λ _=>by kernel_rfl⟩
theorem sA:gP prog 111:=⟨vK λ _=>by kernel_rfl,vK λ _=>by kernel_rfl⟩
theorem Hi:gP prog 125:=⟨vK λ _=>by kernel_rfl,vK λ _=>by kernel_rfl⟩
theorem aG9:gP prog 140:=⟨vK λ _=>by kernel_rfl,vK λ _=>by kernel_rfl⟩
theorem QY:gP prog 148:=⟨vK λ _=>by kernel_rfl,vK λ _=>by kernel_rfl⟩
theorem aaP:gP prog 157:=⟨vK λ _=>by kernel_rfl,vK λ _=>by kernel_rfl⟩
theorem aaQ:gP prog 166:=⟨vK λ _=>by kernel_rfl,vK λ _=>by kernel_rfl⟩
theorem aHa:gP prog 186:=⟨vK λ _=>by kernel_rfl,vK λ _=>by kernel_rfl⟩
theorem aaR:gP prog 187:=⟨vK λ _=>by kernel_rfl,vK λ _=>by kernel_rfl⟩
theorem bN:mX prog 28 6:=⟨vK λ _=>by kernel_rfl,vK λ _=>by kernel_rfl⟩
theorem pS:mX prog 41 2:=⟨vK λ _=>by kernel_rfl,vK λ _=>by kernel_rfl⟩
theorem Cu:mX prog 59 3:=⟨vK λ _=>by kernel_rfl,vK λ _=>by kernel_rfl⟩
theorem s8:mX prog 64 2:=⟨vK λ _=>by kernel_rfl,vK λ _=>by kernel_rfl⟩
theorem TL:mX prog 93 2:=⟨vK λ _=>by kernel_rfl,vK λ _=>by kernel_rfl⟩
theorem lI:mX prog 96 4:=⟨vK λ _=>by kernel_rfl,vK λ _=>by kernel_rfl⟩
theorem qK:mX prog 116 3:=⟨vK λ _=>by kernel_rfl,vK λ _=>by kernel_rfl⟩
theorem hU:mX prog 119 6:=⟨vK λ _=>by kernel_rfl,vK λ _=>by kernel_rfl⟩
theorem dQ:mX prog 122 7:=⟨vK λ _=>by kernel_rfl,vK λ _=>by kernel_rfl⟩
theorem fB:mX prog 143 4:=⟨vK λ _=>by kernel_rfl,vK λ _=>by kernel_rfl⟩
theorem cT:mX prog 145 16:=⟨vK λ _=>by kernel_rfl,vK λ _=>by kernel_rfl⟩
theorem anh:mX prog 180 6:=⟨vK λ _=>by kernel_rfl,vK λ _=>by kernel_rfl⟩
theorem Iq:jF prog 3 #[.int .i64 0]:=⟨.int .i64 0,vK λ _=>by kernel_rfl,rfl⟩
theorem acr:jF prog 4 #[.bool false]:=⟨.bool false,vK λ _=>by kernel_rfl,rfl⟩
theorem Fj:jF prog 28 #[.int .i64 0,.slice none 0 0,.slice none 0 0,.slice none 0 0,.slice none 0 0,.slice none 0 0]:=⟨.agg #[.int .i64 0,.slice none 0 0,.slice none 0 0,.slice none 0 0,.slice none 0 0,.slice none 0 0],vK λ _=>by kernel_rfl,rfl⟩
theorem aLj:jF prog 29 #[.slice none 0 0]:=⟨.slice none 0 0,vK λ _=>by kernel_rfl,rfl⟩
theorem aLk:jF prog 33 #[.int .i64 0]:=⟨.int .i64 0,vK λ _=>by kernel_rfl,rfl⟩
theorem No:jF prog 41 #[.int .i64 0,.int .i64 0]:=⟨.agg #[.int .i64 0,.int .i64 0],vK λ _=>by kernel_rfl,rfl⟩
theorem alm:jF prog 59 #[.int .i64 0,.int .i64 0,.bool false]:=⟨.agg #[.int .i64 0,.int .i64 0,.bool false],vK λ _=>by kernel_rfl,rfl⟩
theorem S1:jF prog 64 #[.int .i64 0,.int .i64 0]:=⟨.agg #[.int .i64 0,.int .i64 0],vK λ _=>by kernel_rfl,rfl⟩
theorem aLl:jF prog 93 #[.string ⟨#[]⟩,.int .i64 0]:=⟨.agg #[.string ⟨#[]⟩,.int .i64 0],vK λ _=>by kernel_rfl,rfl⟩
theorem sX:jF prog 96 #[.int .i64 0,.int .i64 0,.int .i64 0,.int .i64 0]:=⟨.agg #[.int .i64 0,.int .i64 0,.int .i64 0,.int .i64 0],vK λ _=>by kernel_rfl,rfl⟩
theorem S0:jF prog 116 #[.int .i64 0,.int .i64 0,.int .i64 0]:=⟨.agg #[.int .i64 0,.int .i64 0,.int .i64 0],vK λ _=>by kernel_rfl,rfl⟩
theorem alk:jF prog 119 #[.int .i64 0,.slice none 0 0,.slice none 0 0,.slice none 0 0,.slice none 0 0,.slice none 0 0]:=⟨.agg #[.int .i64 0,.slice none 0 0,.slice none 0 0,.slice none 0 0,.slice none 0 0,.slice none 0 0],vK λ _=>by kernel_rfl,rfl⟩
theorem n8:jF prog 122 #[.int .i64 0,.slice none 0 0,.slice none 0 0,.slice none 0 0,.slice none 0 0,.slice none 0 0,.slice none 0 0]:=⟨.agg #[.int .i64 0,.slice none 0 0,.slice none 0 0,.slice none 0 0,.slice none 0 0,.slice none 0 0,.slice none 0 0],vK λ _=>by kernel_rfl,rfl⟩
theorem lD:jF prog 143 #[.bool false,.bool false,.bool false,.bool false]:=⟨.agg #[.bool false,.bool false,.bool false,.bool false],vK λ _=>by kernel_rfl,rfl⟩
theorem iR:jF prog 145 #[.bool false,.bool false,.bool false,.bool false,.bool false,.bool false,.bool false,.bool false,.bool false,.bool false,.bool false,.bool false,.bool false,.bool false,.bool false,.bool false]:=⟨.agg #[.bool false,.bool false,.bool false,.bool false,.bool false,.bool false,.bool false,.bool false,.bool false,.bool false,.bool false,.bool false,.bool false,.bool false,.bool false,.bool false],vK λ _=>by kernel_rfl,rfl⟩
theorem aLe:jF prog 148 #[.nilFunc]:=⟨.nilFunc,vK λ _=>by kernel_rfl,rfl⟩
theorem aLf:jF prog 166 #[.nilFunc]:=⟨.nilFunc,vK λ _=>by kernel_rfl,rfl⟩
theorem aLg:jF prog 187 #[.nilFunc]:=⟨.nilFunc,vK λ _=>by kernel_rfl,rfl⟩
theorem aLh:jF prog 194 #[.int .i32 0,.int .u32 0]:=⟨.agg #[.int .i32 0,.int .u32 0],vK λ _=>by kernel_rfl,rfl⟩
theorem aLi:jF prog 201 #[.int .u64 0,.int .u32 0]:=⟨.agg #[.int .u64 0,.int .u32 0],vK λ _=>by kernel_rfl,rfl⟩
theorem arH:gN prog 28 0 0:=λ _ _=>vK λ _=>by kernel_rfl
theorem arJ:gN prog 28 1 1:=λ _ _=>vK λ _=>by kernel_rfl
theorem arK:gN prog 28 2 2:=λ _ _=>vK λ _=>by kernel_rfl
theorem arL:gN prog 28 3 3:=λ _ _=>vK λ _=>by kernel_rfl
theorem arM:gN prog 28 4 4:=λ _ _=>vK λ _=>by kernel_rfl
theorem arN:gN prog 28 5 5:=λ _ _=>vK λ _=>by kernel_rfl
theorem arO:gN prog 41 0 0:=λ _ _=>vK λ _=>by kernel_rfl
theorem arP:gN prog 41 1 1:=λ _ _=>vK λ _=>by kernel_rfl
theorem arQ:gN prog 59 0 0:=λ _ _=>vK λ _=>by kernel_rfl
theorem arR:gN prog 59 1 1:=λ _ _=>vK λ _=>by kernel_rfl
theorem arS:gN prog 59 2 2:=λ _ _=>vK λ _=>by kernel_rfl
theorem arT:gN prog 64 0 0:=λ _ _=>vK λ _=>by kernel_rfl
theorem arU:gN prog 64 1 1:=λ _ _=>vK λ _=>by kernel_rfl
theorem arV:gN prog 93 0 0:=λ _ _=>vK λ _=>by kernel_rfl
theorem arW:gN prog 93 1 1:=λ _ _=>vK λ _=>by kernel_rfl
theorem arX:gN prog 96 0 0:=λ _ _=>vK λ _=>by kernel_rfl
theorem arY:gN prog 96 1 1:=λ _ _=>vK λ _=>by kernel_rfl
theorem arZ:gN prog 96 2 2:=λ _ _=>vK λ _=>by kernel_rfl
theorem ar0:gN prog 96 3 3:=λ _ _=>vK λ _=>by kernel_rfl
theorem arx:gN prog 116 0 0:=λ _ _=>vK λ _=>by kernel_rfl
theorem ary:gN prog 119 0 0:=λ _ _=>vK λ _=>by kernel_rfl
theorem arz:gN prog 122 0 0:=λ _ _=>vK λ _=>by kernel_rfl
theorem arA:gN prog 122 1 6:=λ _ _=>vK λ _=>by kernel_rfl
theorem arB:gN prog 192 0 0:=λ _ _=>vK λ _=>by kernel_rfl
theorem arC:gN prog 192 1 1:=λ _ _=>vK λ _=>by kernel_rfl
theorem arD:gN prog 194 1 0:=λ _ _=>vK λ _=>by kernel_rfl
theorem arE:gN prog 199 2 0:=λ _ _=>vK λ _=>by kernel_rfl
theorem arF:gN prog 201 1 0:=λ _ _=>vK λ _=>by kernel_rfl
theorem arG:gN prog 201 2 1:=λ _ _=>vK λ _=>by kernel_rfl
theorem qy:mZ prog 22 64 2:=⟨underlying22,vK λ _=>by kernel_rfl⟩
theorem HO:mZ prog 23 41 2:=⟨underlying23,vK λ _=>by kernel_rfl⟩
theorem uf:mZ prog 24 93 2:=⟨underlying24,vK λ _=>by kernel_rfl⟩
theorem sK:mZ prog 25 96 4:=⟨underlying25,vK λ _=>by kernel_rfl⟩
theorem HP:mZ prog 26 59 3:=⟨underlying26,vK λ _=>by kernel_rfl⟩
theorem gF:mZ prog 29 36 1:=⟨underlying29,vK λ _=>by kernel_rfl⟩
theorem fZ:mZ prog 36 3 1:=⟨underlying36,vK λ _=>by kernel_rfl⟩
theorem aiZ:mZ prog 111 116 3:=⟨underlying111,vK λ _=>by kernel_rfl⟩
theorem EL:mZ prog 154 29 1:=⟨underlying154,vK λ _=>by kernel_rfl⟩
theorem abm:mZ prog 157 145 16:=⟨underlying157,vK λ _=>by kernel_rfl⟩
theorem Fz:wG prog 114 3 3 1:=⟨underlying114,vK λ _=>by kernel_rfl⟩
theorem rC:wG prog 143 4 4 1:=⟨underlying143,vK λ _=>by kernel_rfl⟩
theorem wL:wG prog 145 4 143 4:=⟨underlying145,vK λ _=>by kernel_rfl⟩
theorem FA:wG prog 180 6 125 1:=⟨underlying180,vK λ _=>by kernel_rfl⟩
theorem MU:wJ prog 28 [(0,1),(1,1),(2,1),(3,1),(4,1),(5,1)] #[.int .i64 0,.slice none 0 0,.slice none 0 0,.slice none 0 0,.slice none 0 0,.slice none 0 0]:=⟨⟨.agg #[.int .i64 0,.slice none 0 0,.slice none 0 0,.slice none 0 0,.slice none 0 0,.slice none 0 0],vK λ _=>by kernel_rfl,rfl⟩,_,underlying28,vK λ _=>by kernel_rfl⟩
theorem RH:wJ prog 41 [(0,1),(1,1)] #[.int .i64 0,.int .i64 0]:=⟨⟨.agg #[.int .i64 0,.int .i64 0],vK λ _=>by kernel_rfl,rfl⟩,_,underlying41,vK λ _=>by kernel_rfl⟩
theorem ajj:wJ prog 59 [(0,1),(1,1),(2,1)] #[.int .i64 0,.int .i64 0,.bool false]:=⟨⟨.agg #[.int .i64 0,.int .i64 0,.bool false],vK λ _=>by kernel_rfl,rfl⟩,_,underlying59,vK λ _=>by kernel_rfl⟩
theorem HR:wJ prog 64 [(0,1),(1,1)] #[.int .i64 0,.int .i64 0]:=⟨⟨.agg #[.int .i64 0,.int .i64 0],vK λ _=>by kernel_rfl,rfl⟩,_,underlying64,vK λ _=>by kernel_rfl⟩
theorem ajk:wJ prog 93 [(0,1),(1,1)] #[.string ⟨#[]⟩,.int .i64 0]:=⟨⟨.agg #[.string ⟨#[]⟩,.int .i64 0],vK λ _=>by kernel_rfl,rfl⟩,_,underlying93,vK λ _=>by kernel_rfl⟩
theorem abx:wJ prog 96 [(0,1),(1,1),(2,1),(3,1)] #[.int .i64 0,.int .i64 0,.int .i64 0,.int .i64 0]:=⟨⟨.agg #[.int .i64 0,.int .i64 0,.int .i64 0,.int .i64 0],vK λ _=>by kernel_rfl,rfl⟩,_,underlying96,vK λ _=>by kernel_rfl⟩
theorem sL:wJ prog 119 [(0,6)] #[.int .i64 0,.slice none 0 0,.slice none 0 0,.slice none 0 0,.slice none 0 0,.slice none 0 0]:=⟨⟨.agg #[.int .i64 0,.slice none 0 0,.slice none 0 0,.slice none 0 0,.slice none 0 0,.slice none 0 0],vK λ _=>by kernel_rfl,rfl⟩,_,underlying119,vK λ _=>by kernel_rfl⟩
theorem BZ:wJ prog 122 [(0,6),(6,1)] #[.int .i64 0,.slice none 0 0,.slice none 0 0,.slice none 0 0,.slice none 0 0,.slice none 0 0,.slice none 0 0]:=⟨⟨.agg #[.int .i64 0,.slice none 0 0,.slice none 0 0,.slice none 0 0,.slice none 0 0,.slice none 0 0,.slice none 0 0],vK λ _=>by kernel_rfl,rfl⟩,_,underlying122,vK λ _=>by kernel_rfl⟩
theorem NN:acs prog 145 #[.bool false,.bool false,.bool false,.bool false,.bool false,.bool false,.bool false,.bool false,.bool false,.bool false,.bool false,.bool false,.bool false,.bool false,.bool false,.bool false]:=⟨⟨.agg #[.bool false,.bool false,.bool false,.bool false,.bool false,.bool false,.bool false,.bool false,.bool false,.bool false,.bool false,.bool false,.bool false,.bool false,.bool false,.bool false],vK λ _=>by kernel_rfl,rfl⟩,_,_,4,underlying145,vK λ _=>by kernel_rfl⟩
theorem abk:ai prog (sizeOf 3) 1:=vK λ _=>by kernel_rfl
theorem Om:s5 prog 22 64 2 #[.int .i64 0,.int .i64 0]:=⟨underlying22,vK λ _=>by kernel_rfl,⟨.agg #[.int .i64 0,.int .i64 0],vK λ _=>by kernel_rfl,rfl⟩,rfl,by decide⟩
theorem aez:s5 prog 23 41 2 #[.int .i64 0,.int .i64 0]:=⟨underlying23,vK λ _=>by kernel_rfl,⟨.agg #[.int .i64 0,.int .i64 0],vK λ _=>by kernel_rfl,rfl⟩,rfl,by decide⟩
theorem aeA:s5 prog 24 93 2 #[.string ⟨#[]⟩,.int .i64 0]:=⟨underlying24,vK λ _=>by kernel_rfl,⟨.agg #[.string ⟨#[]⟩,.int .i64 0],vK λ _=>by kernel_rfl,rfl⟩,rfl,by decide⟩
theorem aeB:s5 prog 25 96 4 #[.int .i64 0,.int .i64 0,.int .i64 0,.int .i64 0]:=⟨underlying25,vK λ _=>by kernel_rfl,⟨.agg #[.int .i64 0,.int .i64 0,.int .i64 0,.int .i64 0],vK λ _=>by kernel_rfl,rfl⟩,rfl,by decide⟩
theorem CG:s5 prog 26 59 3 #[.int .i64 0,.int .i64 0,.bool false]:=⟨underlying26,vK λ _=>by kernel_rfl,⟨.agg #[.int .i64 0,.int .i64 0,.bool false],vK λ _=>by kernel_rfl,rfl⟩,rfl,by decide⟩
theorem mx:s5 prog 29 36 1 #[.slice none 0 0]:=⟨underlying29,vK λ _=>by kernel_rfl,⟨.slice none 0 0,vK λ _=>by kernel_rfl,rfl⟩,rfl,by decide⟩
theorem lY:s5 prog 36 3 1 #[.int .i64 0]:=⟨underlying36,vK λ _=>by kernel_rfl,⟨.int .i64 0,vK λ _=>by kernel_rfl,rfl⟩,rfl,by decide⟩
theorem aoM:s5 prog 111 116 3 #[.int .i64 0,.int .i64 0,.int .i64 0]:=⟨underlying111,vK λ _=>by kernel_rfl,⟨.agg #[.int .i64 0,.int .i64 0,.int .i64 0],vK λ _=>by kernel_rfl,rfl⟩,rfl,by decide⟩
theorem aey:s5 prog 154 29 1 #[.slice none 0 0]:=⟨underlying154,vK λ _=>by kernel_rfl,⟨.slice none 0 0,vK λ _=>by kernel_rfl,rfl⟩,rfl,by decide⟩
theorem aoN:s5 prog 157 145 16 #[.bool false,.bool false,.bool false,.bool false,.bool false,.bool false,.bool false,.bool false,.bool false,.bool false,.bool false,.bool false,.bool false,.bool false,.bool false,.bool false]:=⟨underlying157,vK λ _=>by kernel_rfl,⟨.agg #[.bool false,.bool false,.bool false,.bool false,.bool false,.bool false,.bool false,.bool false,.bool false,.bool false,.bool false,.bool false,.bool false,.bool false,.bool false,.bool false],vK λ _=>by kernel_rfl,rfl⟩,rfl,by decide⟩
theorem apC:bn prog 20:=⟨⟨Tryz.f20,func20,by decide +kernel,rfl⟩⟩
theorem aeQ:bn prog 22:=⟨⟨Tryz.f22,func22,by decide +kernel,rfl⟩⟩
theorem apM:bn prog 23:=⟨⟨Tryz.f23,func23,by decide +kernel,rfl⟩⟩
theorem apO:bn prog 25:=⟨⟨Tryz.f25,func25,by decide +kernel,rfl⟩⟩
theorem Oz:bn prog 27:=⟨⟨Tryz.f27,func27,by decide +kernel,rfl⟩⟩
theorem ap3:bn prog 28:=⟨⟨Tryz.f28,func28,by decide +kernel,rfl⟩⟩
theorem UO:bn prog 30:=⟨⟨Tryz.f30,func30,by decide +kernel,rfl⟩⟩
theorem aeS:bn prog 32:=⟨⟨Tryz.f32,func32,by decide +kernel,rfl⟩⟩
theorem UP:bn prog 34:=⟨⟨Tryz.f34,func34,by decide +kernel,rfl⟩⟩
theorem ap4:bn prog 35:=⟨⟨Tryz.f35,func35,by decide +kernel,rfl⟩⟩
theorem aeT:bn prog 36:=⟨⟨Tryz.f36,func36,by decide +kernel,rfl⟩⟩
theorem ap5:bn prog 37:=⟨⟨Tryz.f37,func37,by decide +kernel,rfl⟩⟩
theorem UQ:bn prog 38:=⟨⟨Tryz.f38,func38,by decide +kernel,rfl⟩⟩
theorem aeU:bn prog 39:=⟨⟨Tryz.f39,func39,by decide +kernel,rfl⟩⟩
theorem ap6:bn prog 40:=⟨⟨Tryz.f40,func40,by decide +kernel,rfl⟩⟩
theorem aeV:bn prog 41:=⟨⟨Tryz.f41,func41,by decide +kernel,rfl⟩⟩
theorem ap7:bn prog 42:=⟨⟨Tryz.f42,func42,by decide +kernel,rfl⟩⟩
theorem UR:bn prog 43:=⟨⟨Tryz.f43,func43,by decide +kernel,rfl⟩⟩
theorem ap8:bn prog 44:=⟨⟨Tryz.f44,func44,by decide +kernel,rfl⟩⟩
theorem aeW:bn prog 46:=⟨⟨Tryz.f46,func46,by decide +kernel,rfl⟩⟩
theorem Jj:bn prog 47:=⟨⟨Tryz.f47,func47,by decide +kernel,rfl⟩⟩
theorem aeX:bn prog 48:=⟨⟨Tryz.f48,func48,by decide +kernel,rfl⟩⟩
theorem aeY:bn prog 49:=⟨⟨Tryz.f49,func49,by decide +kernel,rfl⟩⟩
theorem ap9:bn prog 50:=⟨⟨Tryz.f50,func50,by decide +kernel,rfl⟩⟩
theorem aqa:bn prog 52:=⟨⟨Tryz.f52,func52,by decide +kernel,rfl⟩⟩
theorem aqb:bn prog 54:=⟨⟨Tryz.f54,func54,by decide +kernel,rfl⟩⟩
theorem US:bn prog 58:=⟨⟨Tryz.f58,func58,by decide +kernel,rfl⟩⟩
theorem aqc:bn prog 59:=⟨⟨Tryz.f59,func59,by decide +kernel,rfl⟩⟩
theorem o5:bn prog 60:=⟨⟨Tryz.f60,func60,by decide +kernel,rfl⟩⟩
theorem UT:bn prog 64:=⟨⟨Tryz.f64,func64,by decide +kernel,rfl⟩⟩
theorem aqd:bn prog 66:=⟨⟨Tryz.f66,func66,by decide +kernel,rfl⟩⟩
theorem CH:bn prog 82:=⟨⟨Tryz.f82,func82,by decide +kernel,rfl⟩⟩
theorem aqe:bn prog 86:=⟨⟨Tryz.f86,func86,by decide +kernel,rfl⟩⟩
theorem aqf:bn prog 88:=⟨⟨Tryz.f88,func88,by decide +kernel,rfl⟩⟩
theorem OA:bn prog 89:=⟨⟨Tryz.f89,func89,by decide +kernel,rfl⟩⟩
theorem aeZ:bn prog 90:=⟨⟨Tryz.f90,func90,by decide +kernel,rfl⟩⟩
theorem UU:bn prog 91:=⟨⟨Tryz.f91,func91,by decide +kernel,rfl⟩⟩
theorem OB:bn prog 92:=⟨⟨Tryz.f92,func92,by decide +kernel,rfl⟩⟩
theorem aqg:bn prog 93:=⟨⟨Tryz.f93,func93,by decide +kernel,rfl⟩⟩
theorem qR:bn prog 94:=⟨⟨Tryz.f94,func94,by decide +kernel,rfl⟩⟩
theorem OC:bn prog 95:=⟨⟨Tryz.f95,func95,by decide +kernel,rfl⟩⟩
theorem ae0:bn prog 96:=⟨⟨Tryz.f96,func96,by decide +kernel,rfl⟩⟩
theorem aqh:bn prog 97:=⟨⟨Tryz.f97,func97,by decide +kernel,rfl⟩⟩
theorem Jk:bn prog 98:=⟨⟨Tryz.f98,func98,by decide +kernel,rfl⟩⟩
theorem aeD:bn prog 100:=⟨⟨Tryz.f100,func100,by decide +kernel,rfl⟩⟩
theorem Oq:bn prog 102:=⟨⟨Tryz.f102,func102,by decide +kernel,rfl⟩⟩
theorem aoR:bn prog 103:=⟨⟨Tryz.f103,func103,by decide +kernel,rfl⟩⟩
theorem Ot:bn prog 104:=⟨⟨Tryz.f104,func104,by decide +kernel,rfl⟩⟩
theorem aoS:bn prog 105:=⟨⟨Tryz.f105,func105,by decide +kernel,rfl⟩⟩
theorem aoT:bn prog 106:=⟨⟨Tryz.f106,func106,by decide +kernel,rfl⟩⟩
theorem AQ:bn prog 107:=⟨⟨Tryz.f107,func107,by decide +kernel,rfl⟩⟩
theorem aeE:bn prog 108:=⟨⟨Tryz.f108,func108,by decide +kernel,rfl⟩⟩
theorem Ou:bn prog 109:=⟨⟨Tryz.f109,func109,by decide +kernel,rfl⟩⟩
theorem aoU:bn prog 110:=⟨⟨Tryz.f110,func110,by decide +kernel,rfl⟩⟩
theorem UH:bn prog 111:=⟨⟨Tryz.f111,func111,by decide +kernel,rfl⟩⟩
theorem aoV:bn prog 115:=⟨⟨Tryz.f115,func115,by decide +kernel,rfl⟩⟩
theorem aoW:bn prog 116:=⟨⟨Tryz.f116,func116,by decide +kernel,rfl⟩⟩
theorem UI:bn prog 117:=⟨⟨Tryz.f117,func117,by decide +kernel,rfl⟩⟩
theorem aoX:bn prog 118:=⟨⟨Tryz.f118,func118,by decide +kernel,rfl⟩⟩
theorem aoY:bn prog 119:=⟨⟨Tryz.f119,func119,by decide +kernel,rfl⟩⟩
theorem FN:bn prog 121:=⟨⟨Tryz.f121,func121,by decide +kernel,rfl⟩⟩
theorem Ov:bn prog 122:=⟨⟨Tryz.f122,func122,by decide +kernel,rfl⟩⟩
theorem rI:bn prog 123:=⟨⟨Tryz.f123,func123,by decide +kernel,rfl⟩⟩
theorem jX:bn prog 124:=⟨⟨Tryz.f124,func124,by decide +kernel,rfl⟩⟩
theorem Ji:bn prog 125:=⟨⟨Tryz.f125,func125,by decide +kernel,rfl⟩⟩
theorem aeF:bn prog 126:=⟨⟨Tryz.f126,func126,by decide +kernel,rfl⟩⟩
theorem aoZ:bn prog 127:=⟨⟨Tryz.f127,func127,by decide +kernel,rfl⟩⟩
theorem ao0:bn prog 128:=⟨⟨Tryz.f128,func128,by decide +kernel,rfl⟩⟩
theorem aeG:bn prog 129:=⟨⟨Tryz.f129,func129,by decide +kernel,rfl⟩⟩
theorem UJ:bn prog 130:=⟨⟨Tryz.f130,func130,by decide +kernel,rfl⟩⟩
theorem ao1:bn prog 131:=⟨⟨Tryz.f131,func131,by decide +kernel,rfl⟩⟩
theorem aeH:bn prog 132:=⟨⟨Tryz.f132,func132,by decide +kernel,rfl⟩⟩
theorem UK:bn prog 133:=⟨⟨Tryz.f133,func133,by decide +kernel,rfl⟩⟩
theorem UL:bn prog 134:=⟨⟨Tryz.f134,func134,by decide +kernel,rfl⟩⟩
theorem UM:bn prog 135:=⟨⟨Tryz.f135,func135,by decide +kernel,rfl⟩⟩
theorem aeI:bn prog 136:=⟨⟨Tryz.f136,func136,by decide +kernel,rfl⟩⟩
theorem aeJ:bn prog 137:=⟨⟨Tryz.f137,func137,by decide +kernel,rfl⟩⟩
theorem ao2:bn prog 138:=⟨⟨Tryz.f138,func138,by decide +kernel,rfl⟩⟩
theorem m7:bn prog 139:=⟨⟨Tryz.f139,func139,by decide +kernel,rfl⟩⟩
theorem ao3:bn prog 140:=⟨⟨Tryz.f140,func140,by decide +kernel,rfl⟩⟩
theorem ao4:bn prog 141:=⟨⟨Tryz.f141,func141,by decide +kernel,rfl⟩⟩
theorem ao5:bn prog 142:=⟨⟨Tryz.f142,func142,by decide +kernel,rfl⟩⟩
theorem ao6:bn prog 143:=⟨⟨Tryz.f143,func143,by decide +kernel,rfl⟩⟩
theorem ao7:bn prog 144:=⟨⟨Tryz.f144,func144,by decide +kernel,rfl⟩⟩
theorem ao8:bn prog 145:=⟨⟨Tryz.f145,func145,by decide +kernel,rfl⟩⟩
theorem ao9:bn prog 146:=⟨⟨Tryz.f146,func146,by decide +kernel,rfl⟩⟩
theorem apa:bn prog 148:=⟨⟨Tryz.f148,func148,by decide +kernel,rfl⟩⟩
theorem aeK:bn prog 149:=⟨⟨Tryz.f149,func149,by decide +kernel,rfl⟩⟩
theorem apb:bn prog 151:=⟨⟨Tryz.f151,func151,by decide +kernel,rfl⟩⟩
theorem apc:bn prog 156:=⟨⟨Tryz.f156,func156,by decide +kernel,rfl⟩⟩
theorem apd:bn prog 157:=⟨⟨Tryz.f157,func157,by decide +kernel,rfl⟩⟩
theorem ape:bn prog 159:=⟨⟨Tryz.f159,func159,by decide +kernel,rfl⟩⟩
theorem apf:bn prog 160:=⟨⟨Tryz.f160,func160,by decide +kernel,rfl⟩⟩
theorem aeL:bn prog 161:=⟨⟨Tryz.f161,func161,by decide +kernel,rfl⟩⟩
theorem aeM:bn prog 162:=⟨⟨Tryz.f162,func162,by decide +kernel,rfl⟩⟩
theorem FO:bn prog 163:=⟨⟨Tryz.f163,func163,by decide +kernel,rfl⟩⟩
theorem apg:bn prog 164:=⟨⟨Tryz.f164,func164,by decide +kernel,rfl⟩⟩
theorem aph:bn prog 165:=⟨⟨Tryz.f165,func165,by decide +kernel,rfl⟩⟩
theorem Ow:bn prog 166:=⟨⟨Tryz.f166,func166,by decide +kernel,rfl⟩⟩
theorem UN:bn prog 167:=⟨⟨Tryz.f167,func167,by decide +kernel,rfl⟩⟩
theorem aeN:bn prog 168:=⟨⟨Tryz.f168,func168,by decide +kernel,rfl⟩⟩
theorem aeO:bn prog 169:=⟨⟨Tryz.f169,func169,by decide +kernel,rfl⟩⟩
theorem api:bn prog 170:=⟨⟨Tryz.f170,func170,by decide +kernel,rfl⟩⟩
theorem apj:bn prog 172:=⟨⟨Tryz.f172,func172,by decide +kernel,rfl⟩⟩
theorem apk:bn prog 173:=⟨⟨Tryz.f173,func173,by decide +kernel,rfl⟩⟩
theorem apl:bn prog 174:=⟨⟨Tryz.f174,func174,by decide +kernel,rfl⟩⟩
theorem apm:bn prog 175:=⟨⟨Tryz.f175,func175,by decide +kernel,rfl⟩⟩
theorem apn:bn prog 176:=⟨⟨Tryz.f176,func176,by decide +kernel,rfl⟩⟩
theorem apo:bn prog 177:=⟨⟨Tryz.f177,func177,by decide +kernel,rfl⟩⟩
theorem apq:bn prog 178:=⟨⟨Tryz.f178,func178,by decide +kernel,rfl⟩⟩
theorem apr:bn prog 179:=⟨⟨Tryz.f179,func179,by decide +kernel,rfl⟩⟩
theorem aps:bn prog 180:=⟨⟨Tryz.f180,func180,by decide +kernel,rfl⟩⟩
theorem apt:bn prog 181:=⟨⟨Tryz.f181,func181,by decide +kernel,rfl⟩⟩
theorem apu:bn prog 182:=⟨⟨Tryz.f182,func182,by decide +kernel,rfl⟩⟩
theorem apv:bn prog 183:=⟨⟨Tryz.f183,func183,by decide +kernel,rfl⟩⟩
theorem apw:bn prog 184:=⟨⟨Tryz.f184,func184,by decide +kernel,rfl⟩⟩
theorem apx:bn prog 186:=⟨⟨Tryz.f186,func186,by decide +kernel,rfl⟩⟩
theorem apy:bn prog 187:=⟨⟨Tryz.f187,func187,by decide +kernel,rfl⟩⟩
theorem apz:bn prog 188:=⟨⟨Tryz.f188,func188,by decide +kernel,rfl⟩⟩
theorem apA:bn prog 189:=⟨⟨Tryz.f189,func189,by decide +kernel,rfl⟩⟩
theorem apD:bn prog 203:=⟨⟨Tryz.f203,func203,by decide +kernel,rfl⟩⟩
theorem apE:bn prog 204:=⟨⟨Tryz.f204,func204,by decide +kernel,rfl⟩⟩
theorem apF:bn prog 210:=⟨⟨Tryz.f210,func210,by decide +kernel,rfl⟩⟩
theorem apG:bn prog 211:=⟨⟨Tryz.f211,func211,by decide +kernel,rfl⟩⟩
theorem aeP:bn prog 212:=⟨⟨Tryz.f212,func212,by decide +kernel,rfl⟩⟩
theorem apH:bn prog 213:=⟨⟨Tryz.f213,func213,by decide +kernel,rfl⟩⟩
theorem apI:bn prog 214:=⟨⟨Tryz.f214,func214,by decide +kernel,rfl⟩⟩
theorem apJ:bn prog 215:=⟨⟨Tryz.f215,func215,by decide +kernel,rfl⟩⟩
theorem apK:bn prog 221:=⟨⟨Tryz.f221,func221,by decide +kernel,rfl⟩⟩
theorem apL:bn prog 225:=⟨⟨Tryz.f225,func225,by decide +kernel,rfl⟩⟩
theorem apN:bn prog 231:=⟨⟨Tryz.f231,func231,by decide +kernel,rfl⟩⟩
theorem aeR:bn prog 233:=⟨⟨Tryz.f233,func233,by decide +kernel,rfl⟩⟩
theorem Oy:bn prog 235:=⟨⟨Tryz.f235,func235,by decide +kernel,rfl⟩⟩
theorem apP:bn prog 265:=⟨⟨Tryz.f265,func265,by decide +kernel,rfl⟩⟩
theorem apQ:bn prog 266:=⟨⟨Tryz.f266,func266,by decide +kernel,rfl⟩⟩
theorem apR:bn prog 267:=⟨⟨Tryz.f267,func267,by decide +kernel,rfl⟩⟩
theorem apS:bn prog 268:=⟨⟨Tryz.f268,func268,by decide +kernel,rfl⟩⟩
theorem apT:bn prog 269:=⟨⟨Tryz.f269,func269,by decide +kernel,rfl⟩⟩
theorem apU:bn prog 270:=⟨⟨Tryz.f270,func270,by decide +kernel,rfl⟩⟩
theorem apV:bn prog 271:=⟨⟨Tryz.f271,func271,by decide +kernel,rfl⟩⟩
theorem apW:bn prog 272:=⟨⟨Tryz.f272,func272,by decide +kernel,rfl⟩⟩
theorem apX:bn prog 273:=⟨⟨Tryz.f273,func273,by decide +kernel,rfl⟩⟩
theorem apY:bn prog 274:=⟨⟨Tryz.f274,func274,by decide +kernel,rfl⟩⟩
theorem apZ:bn prog 275:=⟨⟨Tryz.f275,func275,by decide +kernel,rfl⟩⟩
theorem ap0:bn prog 276:=⟨⟨Tryz.f276,func276,by decide +kernel,rfl⟩⟩
theorem ap1:bn prog 277:=⟨⟨Tryz.f277,func277,by decide +kernel,rfl⟩⟩
theorem ap2:bn prog 278:=⟨⟨Tryz.f278,func278,by decide +kernel,rfl⟩⟩
def aaO:Nat→Nat→Option Nat
 | 28,0=>some 0
 | 28,1=>some 1
 | 28,2=>some 2
 | 28,3=>some 3
 | 28,4=>some 4
 | 28,5=>some 5
 | 41,0=>some 0
 | 41,1=>some 1
 | 59,0=>some 0
 | 59,1=>some 1
 | 59,2=>some 2
 | 64,0=>some 0
 | 64,1=>some 1
 | 93,0=>some 0
 | 93,1=>some 1
 | 96,0=>some 0
 | 96,1=>some 1
 | 96,2=>some 2
 | 96,3=>some 3
 | 116,0=>some 0
 | 119,0=>some 0
 | 122,0=>some 0
 | 122,1=>some 6
 | 192,0=>some 0
 | 192,1=>some 1
 | 194,1=>some 0
 | 199,2=>some 0
 | 201,1=>some 0
 | 201,2=>some 1
 | _,_=>none
theorem aG5(s f n:Nat)(h:aaO s f=some n):gN prog s f n:=by
 unfold aaO at h
 split at h
 ·cases h; exact arH
 ·cases h; exact arJ
 ·cases h; exact arK
 ·cases h; exact arL
 ·cases h; exact arM
 ·cases h; exact arN
 ·cases h; exact arO
 ·cases h; exact arP
 ·cases h; exact arQ
 ·cases h; exact arR
 ·cases h; exact arS
 ·cases h; exact arT
 ·cases h; exact arU
 ·cases h; exact arV
 ·cases h; exact arW
 ·cases h; exact arX
 ·cases h; exact arY
 ·cases h; exact arZ
 ·cases h; exact ar0
 ·cases h; exact arx
 ·cases h; exact ary
 ·cases h; exact arz
 ·cases h; exact arA
 ·cases h; exact arB
 ·cases h; exact arC
 ·cases h; exact arD
 ·cases h; exact arE
 ·cases h; exact arF
 ·cases h; exact arG
 ·cases h
instance:mY prog:=⟨aaO,aG5⟩
set_option maxRecDepth 100000
abbrev iv(z:Int):Value:=.int .i64 z
theorem xE{P:Program}{e:Nat}(h:(P.info? e).any (λ i=>decide (i.bytes≤65536))=true):∃ i,P.info? e=some i∧i.bytes≤65536:=by
 cases hi:P.info? e with
 | none=>rw [hi] at h; cases h
 | some i=>rw [hi] at h; exact ⟨i,rfl,by simpa using h⟩
structure fW where
 eI:Int
 fp:Int
def bS:cG fW:=λ _ x es=>es=[iv x.eI,iv x.fp]
instance:CM bS:=⟨λ hR h=>by obtain rfl:=h; exact rfl,λ h=>by obtain rfl:=h; simp [Value.oneCell']⟩
structure Reach where
 cz:Int
 dt:Int
def bU:cG Reach:=λ _ x es=>es=[iv x.cz,iv x.dt]
instance:CM bU:=⟨λ hR h=>by obtain rfl:=h; exact rfl,λ h=>by obtain rfl:=h; simp [Value.oneCell']⟩
structure ft where
 Name:ByteArray
 oc:Int
def bL:cG ft:=λ _ x es=>es=[.string x.Name,iv x.oc]
instance:CM bL:=⟨λ hR h=>by obtain rfl:=h; exact rfl,λ h=>by obtain rfl:=h; simp [Value.oneCell']⟩
structure m5 where
 Place:Int
 gL:Int
 fH:Int
 an:Int
def bV:cG m5:=λ _ x es=>es=[iv x.Place,iv x.gL,iv x.fH,iv x.an]
instance:CM bV:=⟨λ hR h=>by obtain rfl:=h; exact rfl,λ h=>by obtain rfl:=h; simp [Value.oneCell']⟩
structure eS where
 Place:Int
 lW:Int
 sZ:Bool
def bI:cG eS:=λ _ x es=>es=[iv x.Place,iv x.lW,.bool x.sZ]
instance:CM bI:=⟨λ hR h=>by obtain rfl:=h; exact rfl,λ h=>by obtain rfl:=h; simp [Value.oneCell']⟩
structure aj where
 Rest:Int
 Rows:(List fW)
 aR:(List Reach)
 an:(List ft)
 ao:(List m5)
 bd:(List eS)
def S2:cG aj:=λ R x es=>∃ Sm Sn So Sp Sq,aa bS 2 R Sm x.Rows∧aa bU 2 R Sn x.aR∧aa bL 2 R So x.an∧aa bV 4 R Sp x.ao∧aa bI 3 R Sq x.bd∧es=[iv x.Rest,Sm,Sn,So,Sp,Sq]
instance:CM S2:=⟨λ hR h=>by obtain ⟨Sm,Sn,So,Sp,Sq,Xh,Xi,Xj,Xk,Xl,rfl⟩:=h; exact ⟨_,_,_,_,_,Xh.mono hR,Xi.mono hR,Xj.mono hR,Xk.mono hR,Xl.mono hR,rfl⟩,λ h=>by obtain ⟨Sm,Sn,So,Sp,Sq,Xh,Xi,Xj,Xk,Xl,rfl⟩:=h; intro u hu; simp only [fa,List.not_mem_nil,or_false] at hu; rcases hu with rfl | rfl | rfl | rfl | rfl | rfl <;> first | rfl | exact Xh.one | exact Xi.one | exact Xj.one | exact Xk.one | exact Xl.one⟩
structure bt where
 deep:(List Int)
def fV:cG bt:=λ _ x es=>x.deep.length=3∧es=([]++(x.deep.map (Value.int .i64)++[]))
instance:CM fV:=⟨λ hR h=>by obtain ⟨ahe,rfl⟩:=h; exact ⟨ahe,rfl⟩,λ h=>by obtain ⟨ahe,rfl⟩:=h; simp [Value.oneCell']⟩
structure cy where
 book:aj
 fq:(List bt)
theorem four{α:Type}{l:List α}(h:l.length=4):∃ a b c d,l=[a,b,c,d]:=by
 match l,h with
 | [a,b,c,d],_=>exact ⟨a,b,c,d,rfl⟩
theorem asg:prog.eqGuardType prog.depth 41=false:=by decide +kernel
def UY(x y:Reach):Bool:=(x.cz == y.cz && (x.dt == y.dt && true))
theorem aqn(x y:Reach):ai prog (Op.equal 41 (.agg #[iv x.cz,iv x.dt]) (.agg #[iv y.cz,iv y.dt])) (UY x y):=ajC (d:=9999) underlying41 (by decide +kernel) (.cons rfl (vK λ _=>by kernel_rfl) (vK λ _=>by kernel_rfl) (Sl underlying3) (.cons rfl (vK λ _=>by kernel_rfl) (vK λ _=>by kernel_rfl) (Sl underlying3) .nil))
theorem Vb:prog.eqGuardType prog.depth 64=false:=by decide +kernel
def Jo(x y:fW):Bool:=(x.eI == y.eI && (x.fp == y.fp && true))
theorem UZ(x y:fW):ai prog (Op.equal 64 (.agg #[iv x.eI,iv x.fp]) (.agg #[iv y.eI,iv y.fp])) (Jo x y):=ajC (d:=9999) underlying64 (by decide +kernel) (.cons rfl (vK λ _=>by kernel_rfl) (vK λ _=>by kernel_rfl) (Sl underlying3) (.cons rfl (vK λ _=>by kernel_rfl) (vK λ _=>by kernel_rfl) (Sl underlying3) .nil))
theorem asf:prog.eqGuardType prog.depth 143=false:=by decide +kernel
def Jm(x y:List Bool):Bool:=x == y
theorem aqm{x y:List Bool}(hx:x.length=4)(hy:y.length=4):ai prog (Op.equal 143 (.agg (List.toArray ([]++(x.map Value.bool++[])))) (.agg (List.toArray ([]++(y.map Value.bool++[]))))) (Jm x y):=by
 obtain ⟨a0,a1,a2,a3,rfl⟩:=four hx
 obtain ⟨b0,b1,b2,b3,rfl⟩:=four hy
 have hw:([a0,a1,a2,a3] == [b0,b1,b2,b3])=((a0 == b0) && ((a1 == b1) && ((a2 == b2) && ((a3 == b3) && true)))):=by simp
 unfold Jm
 rw [hw]
 refine aJ6 (d:=9999) (n:=1) underlying143 (vK λ _=>by kernel_rfl) ?_
 refine .cons (i:=0) (rest:=[1,2,3]) (vK λ _=>by kernel_rfl) (vK λ _=>by kernel_rfl) (Sk underlying4) ?_
 refine .cons (i:=1) (rest:=[2,3]) (vK λ _=>by kernel_rfl) (vK λ _=>by kernel_rfl) (Sk underlying4) ?_
 refine .cons (i:=2) (rest:=[3]) (vK λ _=>by kernel_rfl) (vK λ _=>by kernel_rfl) (Sk underlying4) ?_
 refine .cons (i:=3) (rest:=[]) (vK λ _=>by kernel_rfl) (vK λ _=>by kernel_rfl) (Sk underlying4) ?_
 exact .nil
theorem TP:sY prog 22 64 2:=⟨underlying22,vK λ _=>by kernel_rfl,xE (by decide +kernel),⟨.agg #[.int .i64 0,.int .i64 0],vK λ _=>by kernel_rfl,rfl⟩⟩
theorem ano:sY prog 23 41 2:=⟨underlying23,vK λ _=>by kernel_rfl,xE (by decide +kernel),⟨.agg #[.int .i64 0,.int .i64 0],vK λ _=>by kernel_rfl,rfl⟩⟩
theorem anp:sY prog 24 93 2:=⟨underlying24,vK λ _=>by kernel_rfl,xE (by decide +kernel),⟨.agg #[.string ⟨#[]⟩,.int .i64 0],vK λ _=>by kernel_rfl,rfl⟩⟩
theorem anq:sY prog 25 96 4:=⟨underlying25,vK λ _=>by kernel_rfl,xE (by decide +kernel),⟨.agg #[.int .i64 0,.int .i64 0,.int .i64 0,.int .i64 0],vK λ _=>by kernel_rfl,rfl⟩⟩
theorem AE:sY prog 26 59 3:=⟨underlying26,vK λ _=>by kernel_rfl,xE (by decide +kernel),⟨.agg #[.int .i64 0,.int .i64 0,.bool false],vK λ _=>by kernel_rfl,rfl⟩⟩
theorem m6:sY prog 29 36 1:=⟨underlying29,vK λ _=>by kernel_rfl,xE (by decide +kernel),⟨.slice none 0 0,vK λ _=>by kernel_rfl,rfl⟩⟩
theorem AF:sY prog 36 3 1:=⟨underlying36,vK λ _=>by kernel_rfl,xE (by decide +kernel),⟨.int .i64 0,vK λ _=>by kernel_rfl,rfl⟩⟩
theorem anl:sY prog 111 116 3:=⟨underlying111,vK λ _=>by kernel_rfl,xE (by decide +kernel),⟨.agg #[.int .i64 0,.int .i64 0,.int .i64 0],vK λ _=>by kernel_rfl,rfl⟩⟩
theorem anm:sY prog 154 29 1:=⟨underlying154,vK λ _=>by kernel_rfl,xE (by decide +kernel),⟨.slice none 0 0,vK λ _=>by kernel_rfl,rfl⟩⟩
theorem ann:sY prog 157 145 16:=⟨underlying157,vK λ _=>by kernel_rfl,xE (by decide +kernel),⟨.agg #[.bool false,.bool false,.bool false,.bool false,.bool false,.bool false,.bool false,.bool false,.bool false,.bool false,.bool false,.bool false,.bool false,.bool false,.bool false,.bool false],vK λ _=>by kernel_rfl,rfl⟩⟩
theorem anL:(Array.range (0 * 2)).map ((#[.int .i64 0,.int .i64 0]:Array Value)[· % (#[.int .i64 0,.int .i64 0]:Array Value).size]!)=#[]:=by kernel_rfl
theorem adG:(Array.range (1 * 2)).map ((#[.int .i64 0,.int .i64 0]:Array Value)[· % (#[.int .i64 0,.int .i64 0]:Array Value).size]!)=#[.int .i64 0,.int .i64 0]:=by kernel_rfl
theorem anM:(Array.range (2 * 2)).map ((#[.int .i64 0,.int .i64 0]:Array Value)[· % (#[.int .i64 0,.int .i64 0]:Array Value).size]!)=#[.int .i64 0,.int .i64 0,.int .i64 0,.int .i64 0]:=by kernel_rfl
theorem anN:(Array.range (0 * 2)).map ((#[.int .i64 0,.int .i64 0]:Array Value)[· % (#[.int .i64 0,.int .i64 0]:Array Value).size]!)=#[]:=by kernel_rfl
theorem anO:(Array.range (2 * 2)).map ((#[.int .i64 0,.int .i64 0]:Array Value)[· % (#[.int .i64 0,.int .i64 0]:Array Value).size]!)=#[.int .i64 0,.int .i64 0,.int .i64 0,.int .i64 0]:=by kernel_rfl
theorem anP:(Array.range (0 * 2)).map ((#[.string ⟨#[]⟩,.int .i64 0]:Array Value)[· % (#[.string ⟨#[]⟩,.int .i64 0]:Array Value).size]!)=#[]:=by kernel_rfl
theorem anQ:(Array.range (2 * 2)).map ((#[.string ⟨#[]⟩,.int .i64 0]:Array Value)[· % (#[.string ⟨#[]⟩,.int .i64 0]:Array Value).size]!)=#[.string ⟨#[]⟩,.int .i64 0,.string ⟨#[]⟩,.int .i64 0]:=by kernel_rfl
theorem anR:(Array.range (0 * 4)).map ((#[.int .i64 0,.int .i64 0,.int .i64 0,.int .i64 0]:Array Value)[· % (#[.int .i64 0,.int .i64 0,.int .i64 0,.int .i64 0]:Array Value).size]!)=#[]:=by kernel_rfl
theorem anS:(Array.range (3 * 4)).map ((#[.int .i64 0,.int .i64 0,.int .i64 0,.int .i64 0]:Array Value)[· % (#[.int .i64 0,.int .i64 0,.int .i64 0,.int .i64 0]:Array Value).size]!)=#[.int .i64 0,.int .i64 0,.int .i64 0,.int .i64 0,.int .i64 0,.int .i64 0,.int .i64 0,.int .i64 0,.int .i64 0,.int .i64 0,.int .i64 0,.int .i64 0]:=by kernel_rfl
theorem T4:(Array.range (0 * 3)).map ((#[.int .i64 0,.int .i64 0,.bool false]:Array Value)[· % (#[.int .i64 0,.int .i64 0,.bool false]:Array Value).size]!)=#[]:=by kernel_rfl
theorem N2:(Array.range (1 * 3)).map ((#[.int .i64 0,.int .i64 0,.bool false]:Array Value)[· % (#[.int .i64 0,.int .i64 0,.bool false]:Array Value).size]!)=#[.int .i64 0,.int .i64 0,.bool false]:=by kernel_rfl
theorem N3:(Array.range (0 * 1)).map ((#[.slice none 0 0]:Array Value)[· % (#[.slice none 0 0]:Array Value).size]!)=#[]:=by kernel_rfl
theorem rG:(Array.range (1 * 1)).map ((#[.slice none 0 0]:Array Value)[· % (#[.slice none 0 0]:Array Value).size]!)=#[.slice none 0 0]:=by kernel_rfl
theorem T5:(Array.range (3 * 1)).map ((#[.slice none 0 0]:Array Value)[· % (#[.slice none 0 0]:Array Value).size]!)=#[.slice none 0 0,.slice none 0 0,.slice none 0 0]:=by kernel_rfl
theorem adH:(Array.range (0 * 1)).map ((#[.int .i64 0]:Array Value)[· % (#[.int .i64 0]:Array Value).size]!)=#[]:=by kernel_rfl
theorem qO:(Array.range (1 * 1)).map ((#[.int .i64 0]:Array Value)[· % (#[.int .i64 0]:Array Value).size]!)=#[.int .i64 0]:=by kernel_rfl
theorem I0:(Array.range (2 * 1)).map ((#[.int .i64 0]:Array Value)[· % (#[.int .i64 0]:Array Value).size]!)=#[.int .i64 0,.int .i64 0]:=by kernel_rfl
theorem anJ:(Array.range (1 * 3)).map ((#[.int .i64 0,.int .i64 0,.int .i64 0]:Array Value)[· % (#[.int .i64 0,.int .i64 0,.int .i64 0]:Array Value).size]!)=#[.int .i64 0,.int .i64 0,.int .i64 0]:=by kernel_rfl
theorem adF:(Array.range (1 * 1)).map ((#[.slice none 0 0]:Array Value)[· % (#[.slice none 0 0]:Array Value).size]!)=#[.slice none 0 0]:=by kernel_rfl
theorem anK:(Array.range (1 * 16)).map ((#[.bool false,.bool false,.bool false,.bool false,.bool false,.bool false,.bool false,.bool false,.bool false,.bool false,.bool false,.bool false,.bool false,.bool false,.bool false,.bool false]:Array Value)[· % (#[.bool false,.bool false,.bool false,.bool false,.bool false,.bool false,.bool false,.bool false,.bool false,.bool false,.bool false,.bool false,.bool false,.bool false,.bool false,.bool false]:Array Value).size]!)=#[.bool false,.bool false,.bool false,.bool false,.bool false,.bool false,.bool false,.bool false,.bool false,.bool false,.bool false,.bool false,.bool false,.bool false,.bool false,.bool false]:=by kernel_rfl
theorem aaF:NG prog 206 3 3:=⟨underlying206,underlying3,λ e a=>vK λ _=>by kernel_rfl,vK λ _=>by kernel_rfl⟩
abbrev jE(R:az):Prop:=aS R [] 0 0 [.func (.func 265) #[] #[],.func (.func 266) #[] #[],.func (.func 267) #[] #[],.func (.func 268) #[] #[],.func (.func 269) #[] #[],.func (.func 270) #[] #[]]
theorem jE.mono{R R':az}(h:jE R)(hR:aO R R'):jE R':=aS.up (H:=[]) h hR
theorem jE.any{R:az}{H:ah}(h:jE R):aS R H 0 0 [.func (.func 265) #[] #[],.func (.func 266) #[] #[],.func (.func 267) #[] #[],.func (.func 268) #[] #[],.func (.func 269) #[] #[],.func (.func 270) #[] #[]]:=aS.any h
theorem mixed:prog.follows .mixedOrders=true:=by kernel_rfl
end Go.Proofs.YtihapemckcdicaaGreatDoor
