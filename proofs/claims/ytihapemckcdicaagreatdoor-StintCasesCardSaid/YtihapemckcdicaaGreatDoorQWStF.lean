/- Closed facts on the program; the structs of the models. Conditions: none. -/
import Derived.Test.YtihapemckcdicaaGreatDoorQWLgC
import Derived.Test.YtihapemckcdicaaGreatDoorQWLgE
import Derived.Test.YtihapemckcdicaaGreatDoorProg
import Derived.KernelRfl
namespace Go.Proofs.YtihapemckcdicaaGreatDoor
open Go.Lg Go.Proofs Tryz
theorem aW:gG prog 3:=⟨vK λ _=>by kernel_rfl,vK λ _=>by kernel_rfl⟩
theorem iM:gG prog 4:=⟨vK λ _=>by kernel_rfl,vK λ _=>by kernel_rfl⟩
theorem FB:gG prog 9:=⟨vK λ _=>by kernel_rfl,vK λ _=>by kernel_rfl⟩
theorem IH:gG prog 21:=⟨vK λ _=>by kernel_rfl,vK λ _=>by kernel_rfl⟩
theorem mA:gG prog 22:=⟨vK λ _=>by kernel_rfl,vK λ _=>by kernel_rfl⟩
theorem nL:gG prog 23:=⟨vK λ _=>by kernel_rfl,vK λ _=>by kernel_rfl⟩
theorem jV:gG prog 24:=⟨vK λ _=>by kernel_rfl,vK λ _=>by kernel_rfl⟩
theorem iA:gG prog 25:=⟨vK λ _=>by kernel_rfl,vK λ _=>by kernel_rfl⟩
theorem nM:gG prog 26:=⟨vK λ _=>by kernel_rfl,vK λ _=>by kernel_rfl⟩
theorem FA:gG prog 29:=⟨vK λ _=>by kernel_rfl,vK λ _=>by kernel_rfl⟩
theorem Ac:gG prog 33:=⟨vK λ _=>by kernel_rfl,vK λ _=>by kernel_rfl⟩
theorem mB:gG prog 36:=⟨vK λ _=>by kernel_rfl,vK λ _=>by kernel_rfl⟩
theorem sZ:gG prog 111:=⟨vK λ _=>by kernel_rfl,vK λ _=>by kernel_rfl⟩
theorem IG:gG prog 125:=⟨vK λ _=>by kernel_rfl,vK λ _=>by kernel_rfl⟩
theorem aN2:gG prog 140:=⟨vK λ _=>by kernel_rfl,vK λ _=>by kernel_rfl⟩
theorem Sv:gG prog 148:=⟨vK λ _=>by kernel_rfl,vK λ _=>by kernel_rfl⟩
theorem acb:gG prog 157:=⟨vK λ _=>by kernel_rfl,vK λ _=>by kernel_rfl⟩
theorem acd:gG prog 166:=⟨vK λ _=>by kernel_rfl,vK λ _=>by kernel_rfl⟩
theorem aN3:gG prog 186:=⟨vK λ _=>by kernel_rfl,vK λ _=>by kernel_rfl⟩
theorem ace:gG prog 187:=⟨vK λ _=>by kernel_rfl,vK λ _=>by kernel_rfl⟩
theorem wD:gG prog 261:=⟨vK λ _=>by kernel_rfl,vK λ _=>by kernel_rfl⟩
theorem b9:np prog 28 6:=⟨vK λ _=>by kernel_rfl,vK λ _=>by kernel_rfl⟩
theorem jR:np prog 41 2:=⟨vK λ _=>by kernel_rfl,vK λ _=>by kernel_rfl⟩
theorem Dw:np prog 59 3:=⟨vK λ _=>by kernel_rfl,vK λ _=>by kernel_rfl⟩
theorem tF:np prog 64 2:=⟨vK λ _=>by kernel_rfl,vK λ _=>by kernel_rfl⟩
theorem U5:np prog 93 2:=⟨vK λ _=>by kernel_rfl,vK λ _=>by kernel_rfl⟩
theorem lZ:np prog 96 4:=⟨vK λ _=>by kernel_rfl,vK λ _=>by kernel_rfl⟩
theorem qX:np prog 116 3:=⟨vK λ _=>by kernel_rfl,vK λ _=>by kernel_rfl⟩
theorem ik:np prog 119 6:=⟨vK λ _=>by kernel_rfl,vK λ _=>by kernel_rfl⟩
theorem eo:np prog 122 7:=⟨vK λ _=>by kernel_rfl,vK λ _=>by kernel_rfl⟩
theorem fP:np prog 143 4:=⟨vK λ _=>by kernel_rfl,vK λ _=>by kernel_rfl⟩
theorem db:np prog 145 16:=⟨vK λ _=>by kernel_rfl,vK λ _=>by kernel_rfl⟩
theorem apL:np prog 180 6:=⟨vK λ _=>by kernel_rfl,vK λ _=>by kernel_rfl⟩
theorem Gz:jv prog 3 #[.int .i64 0]:=⟨.int .i64 0,vK λ _=>by kernel_rfl,rfl⟩
theorem ad0:jv prog 4 #[.bool false]:=⟨.bool false,vK λ _=>by kernel_rfl,rfl⟩
theorem Gy:jv prog 28 #[.int .i64 0,.slice none 0 0,.slice none 0 0,.slice none 0 0,.slice none 0 0,.slice none 0 0]:=⟨.agg #[.int .i64 0,.slice none 0 0,.slice none 0 0,.slice none 0 0,.slice none 0 0,.slice none 0 0],vK λ _=>by kernel_rfl,rfl⟩
theorem aR2:jv prog 29 #[.slice none 0 0]:=⟨.slice none 0 0,vK λ _=>by kernel_rfl,rfl⟩
theorem aR3:jv prog 33 #[.int .i64 0]:=⟨.int .i64 0,vK λ _=>by kernel_rfl,rfl⟩
theorem Bd:jv prog 41 #[.int .i64 0,.int .i64 0]:=⟨.agg #[.int .i64 0,.int .i64 0],vK λ _=>by kernel_rfl,rfl⟩
theorem anw:jv prog 59 #[.int .i64 0,.int .i64 0,.bool false]:=⟨.agg #[.int .i64 0,.int .i64 0,.bool false],vK λ _=>by kernel_rfl,rfl⟩
theorem Up:jv prog 64 #[.int .i64 0,.int .i64 0]:=⟨.agg #[.int .i64 0,.int .i64 0],vK λ _=>by kernel_rfl,rfl⟩
theorem aR4:jv prog 93 #[.string ⟨#[]⟩,.int .i64 0]:=⟨.agg #[.string ⟨#[]⟩,.int .i64 0],vK λ _=>by kernel_rfl,rfl⟩
theorem tB:jv prog 96 #[.int .i64 0,.int .i64 0,.int .i64 0,.int .i64 0]:=⟨.agg #[.int .i64 0,.int .i64 0,.int .i64 0,.int .i64 0],vK λ _=>by kernel_rfl,rfl⟩
theorem Uo:jv prog 116 #[.int .i64 0,.int .i64 0,.int .i64 0]:=⟨.agg #[.int .i64 0,.int .i64 0,.int .i64 0],vK λ _=>by kernel_rfl,rfl⟩
theorem anv:jv prog 119 #[.int .i64 0,.slice none 0 0,.slice none 0 0,.slice none 0 0,.slice none 0 0,.slice none 0 0]:=⟨.agg #[.int .i64 0,.slice none 0 0,.slice none 0 0,.slice none 0 0,.slice none 0 0,.slice none 0 0],vK λ _=>by kernel_rfl,rfl⟩
theorem oy:jv prog 122 #[.int .i64 0,.slice none 0 0,.slice none 0 0,.slice none 0 0,.slice none 0 0,.slice none 0 0,.slice none 0 0]:=⟨.agg #[.int .i64 0,.slice none 0 0,.slice none 0 0,.slice none 0 0,.slice none 0 0,.slice none 0 0,.slice none 0 0],vK λ _=>by kernel_rfl,rfl⟩
theorem lV:jv prog 143 #[.bool false,.bool false,.bool false,.bool false]:=⟨.agg #[.bool false,.bool false,.bool false,.bool false],vK λ _=>by kernel_rfl,rfl⟩
theorem iT:jv prog 145 #[.bool false,.bool false,.bool false,.bool false,.bool false,.bool false,.bool false,.bool false,.bool false,.bool false,.bool false,.bool false,.bool false,.bool false,.bool false,.bool false]:=⟨.agg #[.bool false,.bool false,.bool false,.bool false,.bool false,.bool false,.bool false,.bool false,.bool false,.bool false,.bool false,.bool false,.bool false,.bool false,.bool false,.bool false],vK λ _=>by kernel_rfl,rfl⟩
theorem aRW:jv prog 148 #[.nilFunc]:=⟨.nilFunc,vK λ _=>by kernel_rfl,rfl⟩
theorem aRX:jv prog 166 #[.nilFunc]:=⟨.nilFunc,vK λ _=>by kernel_rfl,rfl⟩
theorem aRY:jv prog 187 #[.nilFunc]:=⟨.nilFunc,vK λ _=>by kernel_rfl,rfl⟩
theorem aRZ:jv prog 194 #[.int .i32 0,.int .u32 0]:=⟨.agg #[.int .i32 0,.int .u32 0],vK λ _=>by kernel_rfl,rfl⟩
theorem aR0:jv prog 201 #[.int .u64 0,.int .u32 0]:=⟨.agg #[.int .u64 0,.int .u32 0],vK λ _=>by kernel_rfl,rfl⟩
theorem aR1:jv prog 261 #[.int .u64 0]:=⟨.int .u64 0,vK λ _=>by kernel_rfl,rfl⟩
theorem aus:gO prog 28 0 0:=λ _ _=>vK λ _=>by kernel_rfl
theorem aut:gO prog 28 1 1:=λ _ _=>vK λ _=>by kernel_rfl
theorem auu:gO prog 28 2 2:=λ _ _=>vK λ _=>by kernel_rfl
theorem auv:gO prog 28 3 3:=λ _ _=>vK λ _=>by kernel_rfl
theorem auw:gO prog 28 4 4:=λ _ _=>vK λ _=>by kernel_rfl
theorem auy:gO prog 28 5 5:=λ _ _=>vK λ _=>by kernel_rfl
theorem auz:gO prog 41 0 0:=λ _ _=>vK λ _=>by kernel_rfl
theorem auA:gO prog 41 1 1:=λ _ _=>vK λ _=>by kernel_rfl
theorem auB:gO prog 59 0 0:=λ _ _=>vK λ _=>by kernel_rfl
theorem auC:gO prog 59 1 1:=λ _ _=>vK λ _=>by kernel_rfl
theorem auD:gO prog 59 2 2:=λ _ _=>vK λ _=>by kernel_rfl
theorem auE:gO prog 64 0 0:=λ _ _=>vK λ _=>by kernel_rfl
theorem auF:gO prog 64 1 1:=λ _ _=>vK λ _=>by kernel_rfl
theorem auG:gO prog 93 0 0:=λ _ _=>vK λ _=>by kernel_rfl
theorem auH:gO prog 93 1 1:=λ _ _=>vK λ _=>by kernel_rfl
theorem auI:gO prog 96 0 0:=λ _ _=>vK λ _=>by kernel_rfl
theorem auJ:gO prog 96 1 1:=λ _ _=>vK λ _=>by kernel_rfl
theorem auK:gO prog 96 2 2:=λ _ _=>vK λ _=>by kernel_rfl
theorem auL:gO prog 96 3 3:=λ _ _=>vK λ _=>by kernel_rfl
theorem aui:gO prog 116 0 0:=λ _ _=>vK λ _=>by kernel_rfl
theorem auj:gO prog 119 0 0:=λ _ _=>vK λ _=>by kernel_rfl
theorem auk:gO prog 122 0 0:=λ _ _=>vK λ _=>by kernel_rfl
theorem aul:gO prog 122 1 6:=λ _ _=>vK λ _=>by kernel_rfl
theorem aum:gO prog 192 0 0:=λ _ _=>vK λ _=>by kernel_rfl
theorem aun:gO prog 192 1 1:=λ _ _=>vK λ _=>by kernel_rfl
theorem auo:gO prog 194 1 0:=λ _ _=>vK λ _=>by kernel_rfl
theorem aup:gO prog 199 2 0:=λ _ _=>vK λ _=>by kernel_rfl
theorem auq:gO prog 201 1 0:=λ _ _=>vK λ _=>by kernel_rfl
theorem aur:gO prog 201 2 1:=λ _ _=>vK λ _=>by kernel_rfl
theorem qM:nW prog 22 64 2:=⟨underlying22,vK λ _=>by kernel_rfl⟩
theorem Jc:nW prog 23 41 2:=⟨underlying23,vK λ _=>by kernel_rfl⟩
theorem uH:nW prog 24 93 2:=⟨underlying24,vK λ _=>by kernel_rfl⟩
theorem uI:nW prog 25 96 4:=⟨underlying25,vK λ _=>by kernel_rfl⟩
theorem Je:nW prog 26 59 3:=⟨underlying26,vK λ _=>by kernel_rfl⟩
theorem mE:nW prog 29 36 1:=⟨underlying29,vK λ _=>by kernel_rfl⟩
theorem bJ:nW prog 36 3 1:=⟨underlying36,vK λ _=>by kernel_rfl⟩
theorem alh:nW prog 111 116 3:=⟨underlying111,vK λ _=>by kernel_rfl⟩
theorem acL:nW prog 157 145 16:=⟨underlying157,vK λ _=>by kernel_rfl⟩
theorem GM:xd prog 114 3 3 1:=⟨underlying114,vK λ _=>by kernel_rfl⟩
theorem rV:xd prog 143 4 4 1:=⟨underlying143,vK λ _=>by kernel_rfl⟩
theorem xj:xd prog 145 4 143 4:=⟨underlying145,vK λ _=>by kernel_rfl⟩
theorem GN:xd prog 180 6 125 1:=⟨underlying180,vK λ _=>by kernel_rfl⟩
theorem N7:xg prog 28 [(0,1),(1,1),(2,1),(3,1),(4,1),(5,1)] #[.int .i64 0,.slice none 0 0,.slice none 0 0,.slice none 0 0,.slice none 0 0,.slice none 0 0]:=⟨⟨.agg #[.int .i64 0,.slice none 0 0,.slice none 0 0,.slice none 0 0,.slice none 0 0,.slice none 0 0],vK λ _=>by kernel_rfl,rfl⟩,_,underlying28,vK λ _=>by kernel_rfl⟩
theorem FO:xg prog 41 [(0,1),(1,1)] #[.int .i64 0,.int .i64 0]:=⟨⟨.agg #[.int .i64 0,.int .i64 0],vK λ _=>by kernel_rfl,rfl⟩,_,underlying41,vK λ _=>by kernel_rfl⟩
theorem alE:xg prog 59 [(0,1),(1,1),(2,1)] #[.int .i64 0,.int .i64 0,.bool false]:=⟨⟨.agg #[.int .i64 0,.int .i64 0,.bool false],vK λ _=>by kernel_rfl,rfl⟩,_,underlying59,vK λ _=>by kernel_rfl⟩
theorem Jg:xg prog 64 [(0,1),(1,1)] #[.int .i64 0,.int .i64 0]:=⟨⟨.agg #[.int .i64 0,.int .i64 0],vK λ _=>by kernel_rfl,rfl⟩,_,underlying64,vK λ _=>by kernel_rfl⟩
theorem alF:xg prog 93 [(0,1),(1,1)] #[.string ⟨#[]⟩,.int .i64 0]:=⟨⟨.agg #[.string ⟨#[]⟩,.int .i64 0],vK λ _=>by kernel_rfl,rfl⟩,_,underlying93,vK λ _=>by kernel_rfl⟩
theorem acU:xg prog 96 [(0,1),(1,1),(2,1),(3,1)] #[.int .i64 0,.int .i64 0,.int .i64 0,.int .i64 0]:=⟨⟨.agg #[.int .i64 0,.int .i64 0,.int .i64 0,.int .i64 0],vK λ _=>by kernel_rfl,rfl⟩,_,underlying96,vK λ _=>by kernel_rfl⟩
theorem tj:xg prog 119 [(0,6)] #[.int .i64 0,.slice none 0 0,.slice none 0 0,.slice none 0 0,.slice none 0 0,.slice none 0 0]:=⟨⟨.agg #[.int .i64 0,.slice none 0 0,.slice none 0 0,.slice none 0 0,.slice none 0 0,.slice none 0 0],vK λ _=>by kernel_rfl,rfl⟩,_,underlying119,vK λ _=>by kernel_rfl⟩
theorem C8:xg prog 122 [(0,6),(6,1)] #[.int .i64 0,.slice none 0 0,.slice none 0 0,.slice none 0 0,.slice none 0 0,.slice none 0 0,.slice none 0 0]:=⟨⟨.agg #[.int .i64 0,.slice none 0 0,.slice none 0 0,.slice none 0 0,.slice none 0 0,.slice none 0 0,.slice none 0 0],vK λ _=>by kernel_rfl,rfl⟩,_,underlying122,vK λ _=>by kernel_rfl⟩
theorem Pj:ad1 prog 145 #[.bool false,.bool false,.bool false,.bool false,.bool false,.bool false,.bool false,.bool false,.bool false,.bool false,.bool false,.bool false,.bool false,.bool false,.bool false,.bool false]:=⟨⟨.agg #[.bool false,.bool false,.bool false,.bool false,.bool false,.bool false,.bool false,.bool false,.bool false,.bool false,.bool false,.bool false,.bool false,.bool false,.bool false,.bool false],vK λ _=>by kernel_rfl,rfl⟩,_,_,4,underlying145,vK λ _=>by kernel_rfl⟩
theorem ir:ai prog (sizeOf 3) 1:=vK λ _=>by kernel_rfl
theorem PQ:u9 prog 22 64 2 #[.int .i64 0,.int .i64 0]:=⟨underlying22,vK λ _=>by kernel_rfl,⟨.agg #[.int .i64 0,.int .i64 0],vK λ _=>by kernel_rfl,rfl⟩,rfl,by decide⟩
theorem agf:u9 prog 23 41 2 #[.int .i64 0,.int .i64 0]:=⟨underlying23,vK λ _=>by kernel_rfl,⟨.agg #[.int .i64 0,.int .i64 0],vK λ _=>by kernel_rfl,rfl⟩,rfl,by decide⟩
theorem agh:u9 prog 24 93 2 #[.string ⟨#[]⟩,.int .i64 0]:=⟨underlying24,vK λ _=>by kernel_rfl,⟨.agg #[.string ⟨#[]⟩,.int .i64 0],vK λ _=>by kernel_rfl,rfl⟩,rfl,by decide⟩
theorem agi:u9 prog 25 96 4 #[.int .i64 0,.int .i64 0,.int .i64 0,.int .i64 0]:=⟨underlying25,vK λ _=>by kernel_rfl,⟨.agg #[.int .i64 0,.int .i64 0,.int .i64 0,.int .i64 0],vK λ _=>by kernel_rfl,rfl⟩,rfl,by decide⟩
theorem DJ:u9 prog 26 59 3 #[.int .i64 0,.int .i64 0,.bool false]:=⟨underlying26,vK λ _=>by kernel_rfl,⟨.agg #[.int .i64 0,.int .i64 0,.bool false],vK λ _=>by kernel_rfl,rfl⟩,rfl,by decide⟩
theorem DK:u9 prog 29 36 1 #[.slice none 0 0]:=⟨underlying29,vK λ _=>by kernel_rfl,⟨.slice none 0 0,vK λ _=>by kernel_rfl,rfl⟩,rfl,by decide⟩
theorem kR:u9 prog 36 3 1 #[.int .i64 0]:=⟨underlying36,vK λ _=>by kernel_rfl,⟨.int .i64 0,vK λ _=>by kernel_rfl,rfl⟩,rfl,by decide⟩
theorem ari:u9 prog 111 116 3 #[.int .i64 0,.int .i64 0,.int .i64 0]:=⟨underlying111,vK λ _=>by kernel_rfl,⟨.agg #[.int .i64 0,.int .i64 0,.int .i64 0],vK λ _=>by kernel_rfl,rfl⟩,rfl,by decide⟩
theorem arj:u9 prog 157 145 16 #[.bool false,.bool false,.bool false,.bool false,.bool false,.bool false,.bool false,.bool false,.bool false,.bool false,.bool false,.bool false,.bool false,.bool false,.bool false,.bool false]:=⟨underlying157,vK λ _=>by kernel_rfl,⟨.agg #[.bool false,.bool false,.bool false,.bool false,.bool false,.bool false,.bool false,.bool false,.bool false,.bool false,.bool false,.bool false,.bool false,.bool false,.bool false,.bool false],vK λ _=>by kernel_rfl,rfl⟩,rfl,by decide⟩
theorem ar8:bj prog 20:=⟨⟨Tryz.f20,func20,by decide +kernel,rfl⟩⟩
theorem asb:bj prog 21:=⟨⟨Tryz.f21,func21,by decide +kernel,rfl⟩⟩
theorem agx:bj prog 22:=⟨⟨Tryz.f22,func22,by decide +kernel,rfl⟩⟩
theorem agy:bj prog 23:=⟨⟨Tryz.f23,func23,by decide +kernel,rfl⟩⟩
theorem ast:bj prog 24:=⟨⟨Tryz.f24,func24,by decide +kernel,rfl⟩⟩
theorem agB:bj prog 25:=⟨⟨Tryz.f25,func25,by decide +kernel,rfl⟩⟩
theorem asu:bj prog 26:=⟨⟨Tryz.f26,func26,by decide +kernel,rfl⟩⟩
theorem Wf:bj prog 27:=⟨⟨Tryz.f27,func27,by decide +kernel,rfl⟩⟩
theorem agC:bj prog 28:=⟨⟨Tryz.f28,func28,by decide +kernel,rfl⟩⟩
theorem asJ:bj prog 29:=⟨⟨Tryz.f29,func29,by decide +kernel,rfl⟩⟩
theorem PZ:bj prog 30:=⟨⟨Tryz.f30,func30,by decide +kernel,rfl⟩⟩
theorem asK:bj prog 31:=⟨⟨Tryz.f31,func31,by decide +kernel,rfl⟩⟩
theorem Wg:bj prog 32:=⟨⟨Tryz.f32,func32,by decide +kernel,rfl⟩⟩
theorem asL:bj prog 33:=⟨⟨Tryz.f33,func33,by decide +kernel,rfl⟩⟩
theorem agD:bj prog 34:=⟨⟨Tryz.f34,func34,by decide +kernel,rfl⟩⟩
theorem asM:bj prog 36:=⟨⟨Tryz.f36,func36,by decide +kernel,rfl⟩⟩
theorem asN:bj prog 38:=⟨⟨Tryz.f38,func38,by decide +kernel,rfl⟩⟩
theorem asO:bj prog 39:=⟨⟨Tryz.f39,func39,by decide +kernel,rfl⟩⟩
theorem asP:bj prog 41:=⟨⟨Tryz.f41,func41,by decide +kernel,rfl⟩⟩
theorem agE:bj prog 43:=⟨⟨Tryz.f43,func43,by decide +kernel,rfl⟩⟩
theorem agF:bj prog 46:=⟨⟨Tryz.f46,func46,by decide +kernel,rfl⟩⟩
theorem agG:bj prog 47:=⟨⟨Tryz.f47,func47,by decide +kernel,rfl⟩⟩
theorem agH:bj prog 48:=⟨⟨Tryz.f48,func48,by decide +kernel,rfl⟩⟩
theorem agI:bj prog 49:=⟨⟨Tryz.f49,func49,by decide +kernel,rfl⟩⟩
theorem asQ:bj prog 50:=⟨⟨Tryz.f50,func50,by decide +kernel,rfl⟩⟩
theorem Wh:bj prog 52:=⟨⟨Tryz.f52,func52,by decide +kernel,rfl⟩⟩
theorem asR:bj prog 54:=⟨⟨Tryz.f54,func54,by decide +kernel,rfl⟩⟩
theorem asS:bj prog 55:=⟨⟨Tryz.f55,func55,by decide +kernel,rfl⟩⟩
theorem asT:bj prog 59:=⟨⟨Tryz.f59,func59,by decide +kernel,rfl⟩⟩
theorem ny:bj prog 60:=⟨⟨Tryz.f60,func60,by decide +kernel,rfl⟩⟩
theorem asU:bj prog 63:=⟨⟨Tryz.f63,func63,by decide +kernel,rfl⟩⟩
theorem asV:bj prog 66:=⟨⟨Tryz.f66,func66,by decide +kernel,rfl⟩⟩
theorem DL:bj prog 82:=⟨⟨Tryz.f82,func82,by decide +kernel,rfl⟩⟩
theorem agJ:bj prog 86:=⟨⟨Tryz.f86,func86,by decide +kernel,rfl⟩⟩
theorem asW:bj prog 88:=⟨⟨Tryz.f88,func88,by decide +kernel,rfl⟩⟩
theorem P1:bj prog 89:=⟨⟨Tryz.f89,func89,by decide +kernel,rfl⟩⟩
theorem agK:bj prog 90:=⟨⟨Tryz.f90,func90,by decide +kernel,rfl⟩⟩
theorem Wi:bj prog 91:=⟨⟨Tryz.f91,func91,by decide +kernel,rfl⟩⟩
theorem P2:bj prog 92:=⟨⟨Tryz.f92,func92,by decide +kernel,rfl⟩⟩
theorem agL:bj prog 93:=⟨⟨Tryz.f93,func93,by decide +kernel,rfl⟩⟩
theorem re:bj prog 94:=⟨⟨Tryz.f94,func94,by decide +kernel,rfl⟩⟩
theorem P3:bj prog 95:=⟨⟨Tryz.f95,func95,by decide +kernel,rfl⟩⟩
theorem agM:bj prog 96:=⟨⟨Tryz.f96,func96,by decide +kernel,rfl⟩⟩
theorem asX:bj prog 97:=⟨⟨Tryz.f97,func97,by decide +kernel,rfl⟩⟩
theorem KD:bj prog 98:=⟨⟨Tryz.f98,func98,by decide +kernel,rfl⟩⟩
theorem P4:bj prog 99:=⟨⟨Tryz.f99,func99,by decide +kernel,rfl⟩⟩
theorem PS:bj prog 100:=⟨⟨Tryz.f100,func100,by decide +kernel,rfl⟩⟩
theorem aro:bj prog 101:=⟨⟨Tryz.f101,func101,by decide +kernel,rfl⟩⟩
theorem agk:bj prog 102:=⟨⟨Tryz.f102,func102,by decide +kernel,rfl⟩⟩
theorem arp:bj prog 103:=⟨⟨Tryz.f103,func103,by decide +kernel,rfl⟩⟩
theorem PT:bj prog 104:=⟨⟨Tryz.f104,func104,by decide +kernel,rfl⟩⟩
theorem V3:bj prog 105:=⟨⟨Tryz.f105,func105,by decide +kernel,rfl⟩⟩
theorem arq:bj prog 106:=⟨⟨Tryz.f106,func106,by decide +kernel,rfl⟩⟩
theorem By:bj prog 107:=⟨⟨Tryz.f107,func107,by decide +kernel,rfl⟩⟩
theorem agl:bj prog 108:=⟨⟨Tryz.f108,func108,by decide +kernel,rfl⟩⟩
theorem PU:bj prog 109:=⟨⟨Tryz.f109,func109,by decide +kernel,rfl⟩⟩
theorem ars:bj prog 110:=⟨⟨Tryz.f110,func110,by decide +kernel,rfl⟩⟩
theorem V4:bj prog 111:=⟨⟨Tryz.f111,func111,by decide +kernel,rfl⟩⟩
theorem art:bj prog 112:=⟨⟨Tryz.f112,func112,by decide +kernel,rfl⟩⟩
theorem aru:bj prog 113:=⟨⟨Tryz.f113,func113,by decide +kernel,rfl⟩⟩
theorem agm:bj prog 114:=⟨⟨Tryz.f114,func114,by decide +kernel,rfl⟩⟩
theorem arv:bj prog 115:=⟨⟨Tryz.f115,func115,by decide +kernel,rfl⟩⟩
theorem arw:bj prog 116:=⟨⟨Tryz.f116,func116,by decide +kernel,rfl⟩⟩
theorem V5:bj prog 117:=⟨⟨Tryz.f117,func117,by decide +kernel,rfl⟩⟩
theorem arx:bj prog 118:=⟨⟨Tryz.f118,func118,by decide +kernel,rfl⟩⟩
theorem ary:bj prog 119:=⟨⟨Tryz.f119,func119,by decide +kernel,rfl⟩⟩
theorem arz:bj prog 120:=⟨⟨Tryz.f120,func120,by decide +kernel,rfl⟩⟩
theorem G9:bj prog 121:=⟨⟨Tryz.f121,func121,by decide +kernel,rfl⟩⟩
theorem PV:bj prog 122:=⟨⟨Tryz.f122,func122,by decide +kernel,rfl⟩⟩
theorem r6:bj prog 123:=⟨⟨Tryz.f123,func123,by decide +kernel,rfl⟩⟩
theorem kg:bj prog 124:=⟨⟨Tryz.f124,func124,by decide +kernel,rfl⟩⟩
theorem agn:bj prog 126:=⟨⟨Tryz.f126,func126,by decide +kernel,rfl⟩⟩
theorem arA:bj prog 127:=⟨⟨Tryz.f127,func127,by decide +kernel,rfl⟩⟩
theorem arB:bj prog 128:=⟨⟨Tryz.f128,func128,by decide +kernel,rfl⟩⟩
theorem ago:bj prog 129:=⟨⟨Tryz.f129,func129,by decide +kernel,rfl⟩⟩
theorem V6:bj prog 130:=⟨⟨Tryz.f130,func130,by decide +kernel,rfl⟩⟩
theorem arC:bj prog 131:=⟨⟨Tryz.f131,func131,by decide +kernel,rfl⟩⟩
theorem agp:bj prog 132:=⟨⟨Tryz.f132,func132,by decide +kernel,rfl⟩⟩
theorem V7:bj prog 133:=⟨⟨Tryz.f133,func133,by decide +kernel,rfl⟩⟩
theorem V8:bj prog 134:=⟨⟨Tryz.f134,func134,by decide +kernel,rfl⟩⟩
theorem arD:bj prog 138:=⟨⟨Tryz.f138,func138,by decide +kernel,rfl⟩⟩
theorem nv:bj prog 139:=⟨⟨Tryz.f139,func139,by decide +kernel,rfl⟩⟩
theorem arE:bj prog 140:=⟨⟨Tryz.f140,func140,by decide +kernel,rfl⟩⟩
theorem arF:bj prog 141:=⟨⟨Tryz.f141,func141,by decide +kernel,rfl⟩⟩
theorem arG:bj prog 142:=⟨⟨Tryz.f142,func142,by decide +kernel,rfl⟩⟩
theorem arH:bj prog 143:=⟨⟨Tryz.f143,func143,by decide +kernel,rfl⟩⟩
theorem arJ:bj prog 144:=⟨⟨Tryz.f144,func144,by decide +kernel,rfl⟩⟩
theorem arK:bj prog 145:=⟨⟨Tryz.f145,func145,by decide +kernel,rfl⟩⟩
theorem arL:bj prog 146:=⟨⟨Tryz.f146,func146,by decide +kernel,rfl⟩⟩
theorem agq:bj prog 149:=⟨⟨Tryz.f149,func149,by decide +kernel,rfl⟩⟩
theorem arM:bj prog 151:=⟨⟨Tryz.f151,func151,by decide +kernel,rfl⟩⟩
theorem arN:bj prog 156:=⟨⟨Tryz.f156,func156,by decide +kernel,rfl⟩⟩
theorem arO:bj prog 157:=⟨⟨Tryz.f157,func157,by decide +kernel,rfl⟩⟩
theorem arP:bj prog 159:=⟨⟨Tryz.f159,func159,by decide +kernel,rfl⟩⟩
theorem arQ:bj prog 160:=⟨⟨Tryz.f160,func160,by decide +kernel,rfl⟩⟩
theorem agr:bj prog 161:=⟨⟨Tryz.f161,func161,by decide +kernel,rfl⟩⟩
theorem ags:bj prog 162:=⟨⟨Tryz.f162,func162,by decide +kernel,rfl⟩⟩
theorem Ha:bj prog 163:=⟨⟨Tryz.f163,func163,by decide +kernel,rfl⟩⟩
theorem arR:bj prog 164:=⟨⟨Tryz.f164,func164,by decide +kernel,rfl⟩⟩
theorem arS:bj prog 165:=⟨⟨Tryz.f165,func165,by decide +kernel,rfl⟩⟩
theorem PX:bj prog 166:=⟨⟨Tryz.f166,func166,by decide +kernel,rfl⟩⟩
theorem V9:bj prog 167:=⟨⟨Tryz.f167,func167,by decide +kernel,rfl⟩⟩
theorem agt:bj prog 168:=⟨⟨Tryz.f168,func168,by decide +kernel,rfl⟩⟩
theorem agu:bj prog 169:=⟨⟨Tryz.f169,func169,by decide +kernel,rfl⟩⟩
theorem arT:bj prog 170:=⟨⟨Tryz.f170,func170,by decide +kernel,rfl⟩⟩
theorem arU:bj prog 172:=⟨⟨Tryz.f172,func172,by decide +kernel,rfl⟩⟩
theorem arV:bj prog 173:=⟨⟨Tryz.f173,func173,by decide +kernel,rfl⟩⟩
theorem arW:bj prog 174:=⟨⟨Tryz.f174,func174,by decide +kernel,rfl⟩⟩
theorem arX:bj prog 175:=⟨⟨Tryz.f175,func175,by decide +kernel,rfl⟩⟩
theorem arY:bj prog 177:=⟨⟨Tryz.f177,func177,by decide +kernel,rfl⟩⟩
theorem arZ:bj prog 178:=⟨⟨Tryz.f178,func178,by decide +kernel,rfl⟩⟩
theorem ar0:bj prog 179:=⟨⟨Tryz.f179,func179,by decide +kernel,rfl⟩⟩
theorem ar1:bj prog 180:=⟨⟨Tryz.f180,func180,by decide +kernel,rfl⟩⟩
theorem ar2:bj prog 181:=⟨⟨Tryz.f181,func181,by decide +kernel,rfl⟩⟩
theorem ar3:bj prog 182:=⟨⟨Tryz.f182,func182,by decide +kernel,rfl⟩⟩
theorem ar4:bj prog 183:=⟨⟨Tryz.f183,func183,by decide +kernel,rfl⟩⟩
theorem ar5:bj prog 184:=⟨⟨Tryz.f184,func184,by decide +kernel,rfl⟩⟩
theorem ar6:bj prog 186:=⟨⟨Tryz.f186,func186,by decide +kernel,rfl⟩⟩
theorem ar7:bj prog 187:=⟨⟨Tryz.f187,func187,by decide +kernel,rfl⟩⟩
theorem Wa:bj prog 188:=⟨⟨Tryz.f188,func188,by decide +kernel,rfl⟩⟩
theorem agv:bj prog 189:=⟨⟨Tryz.f189,func189,by decide +kernel,rfl⟩⟩
theorem ar9:bj prog 203:=⟨⟨Tryz.f203,func203,by decide +kernel,rfl⟩⟩
theorem asa:bj prog 204:=⟨⟨Tryz.f204,func204,by decide +kernel,rfl⟩⟩
theorem asc:bj prog 211:=⟨⟨Tryz.f211,func211,by decide +kernel,rfl⟩⟩
theorem agw:bj prog 212:=⟨⟨Tryz.f212,func212,by decide +kernel,rfl⟩⟩
theorem asd:bj prog 213:=⟨⟨Tryz.f213,func213,by decide +kernel,rfl⟩⟩
theorem ase:bj prog 214:=⟨⟨Tryz.f214,func214,by decide +kernel,rfl⟩⟩
theorem asf:bj prog 215:=⟨⟨Tryz.f215,func215,by decide +kernel,rfl⟩⟩
theorem asg:bj prog 216:=⟨⟨Tryz.f216,func216,by decide +kernel,rfl⟩⟩
theorem ash:bj prog 217:=⟨⟨Tryz.f217,func217,by decide +kernel,rfl⟩⟩
theorem asi:bj prog 218:=⟨⟨Tryz.f218,func218,by decide +kernel,rfl⟩⟩
theorem asj:bj prog 219:=⟨⟨Tryz.f219,func219,by decide +kernel,rfl⟩⟩
theorem asl:bj prog 220:=⟨⟨Tryz.f220,func220,by decide +kernel,rfl⟩⟩
theorem q9:bj prog 221:=⟨⟨Tryz.f221,func221,by decide +kernel,rfl⟩⟩
theorem asn:bj prog 222:=⟨⟨Tryz.f222,func222,by decide +kernel,rfl⟩⟩
theorem aso:bj prog 223:=⟨⟨Tryz.f223,func223,by decide +kernel,rfl⟩⟩
theorem asp:bj prog 225:=⟨⟨Tryz.f225,func225,by decide +kernel,rfl⟩⟩
theorem asq:bj prog 231:=⟨⟨Tryz.f231,func231,by decide +kernel,rfl⟩⟩
theorem agz:bj prog 233:=⟨⟨Tryz.f233,func233,by decide +kernel,rfl⟩⟩
theorem PY:bj prog 235:=⟨⟨Tryz.f235,func235,by decide +kernel,rfl⟩⟩
theorem agA:bj prog 236:=⟨⟨Tryz.f236,func236,by decide +kernel,rfl⟩⟩
theorem asr:bj prog 237:=⟨⟨Tryz.f237,func237,by decide +kernel,rfl⟩⟩
theorem ass:bj prog 238:=⟨⟨Tryz.f238,func238,by decide +kernel,rfl⟩⟩
theorem Wb:bj prog 239:=⟨⟨Tryz.f239,func239,by decide +kernel,rfl⟩⟩
theorem Wc:bj prog 240:=⟨⟨Tryz.f240,func240,by decide +kernel,rfl⟩⟩
theorem We:bj prog 248:=⟨⟨Tryz.f248,func248,by decide +kernel,rfl⟩⟩
theorem asv:bj prog 265:=⟨⟨Tryz.f265,func265,by decide +kernel,rfl⟩⟩
theorem asw:bj prog 266:=⟨⟨Tryz.f266,func266,by decide +kernel,rfl⟩⟩
theorem asx:bj prog 267:=⟨⟨Tryz.f267,func267,by decide +kernel,rfl⟩⟩
theorem asy:bj prog 268:=⟨⟨Tryz.f268,func268,by decide +kernel,rfl⟩⟩
theorem asz:bj prog 269:=⟨⟨Tryz.f269,func269,by decide +kernel,rfl⟩⟩
theorem asA:bj prog 270:=⟨⟨Tryz.f270,func270,by decide +kernel,rfl⟩⟩
theorem asB:bj prog 271:=⟨⟨Tryz.f271,func271,by decide +kernel,rfl⟩⟩
theorem asC:bj prog 272:=⟨⟨Tryz.f272,func272,by decide +kernel,rfl⟩⟩
theorem asD:bj prog 273:=⟨⟨Tryz.f273,func273,by decide +kernel,rfl⟩⟩
theorem asE:bj prog 274:=⟨⟨Tryz.f274,func274,by decide +kernel,rfl⟩⟩
theorem asF:bj prog 275:=⟨⟨Tryz.f275,func275,by decide +kernel,rfl⟩⟩
theorem asG:bj prog 276:=⟨⟨Tryz.f276,func276,by decide +kernel,rfl⟩⟩
theorem asH:bj prog 277:=⟨⟨Tryz.f277,func277,by decide +kernel,rfl⟩⟩
theorem asI:bj prog 278:=⟨⟨Tryz.f278,func278,by decide +kernel,rfl⟩⟩
def aca:Nat→Nat→Option Nat
 | 28,0=>some 0
 | 28,1=>some 1
 | 28,2=>some 2
 | 28,3=>some 3
 | 28,4=>some 4
 | 28,5=>some 5
 | 41,0=>some 0
 | 41,1=>some 1
 | 59,0=>some 0
 | 59,1=>some 1
 | 59,2=>some 2
 | 64,0=>some 0
 | 64,1=>some 1
 | 93,0=>some 0
 | 93,1=>some 1
 | 96,0=>some 0
 | 96,1=>some 1
 | 96,2=>some 2
 | 96,3=>some 3
 | 116,0=>some 0
 | 119,0=>some 0
 | 122,0=>some 0
 | 122,1=>some 6
 | 192,0=>some 0
 | 192,1=>some 1
 | 194,1=>some 0
 | 199,2=>some 0
 | 201,1=>some 0
 | 201,2=>some 1
 | _,_=>none
theorem aNY(s f n:Nat)(h:aca s f=some n):gO prog s f n:=by
 unfold aca at h
 split at h
 ·cases h; exact aus
 ·cases h; exact aut
 ·cases h; exact auu
 ·cases h; exact auv
 ·cases h; exact auw
 ·cases h; exact auy
 ·cases h; exact auz
 ·cases h; exact auA
 ·cases h; exact auB
 ·cases h; exact auC
 ·cases h; exact auD
 ·cases h; exact auE
 ·cases h; exact auF
 ·cases h; exact auG
 ·cases h; exact auH
 ·cases h; exact auI
 ·cases h; exact auJ
 ·cases h; exact auK
 ·cases h; exact auL
 ·cases h; exact aui
 ·cases h; exact auj
 ·cases h; exact auk
 ·cases h; exact aul
 ·cases h; exact aum
 ·cases h; exact aun
 ·cases h; exact auo
 ·cases h; exact aup
 ·cases h; exact auq
 ·cases h; exact aur
 ·cases h
instance:ns prog:=⟨aca,aNY⟩
set_option maxRecDepth 100000
abbrev iv(z:Int):Value:=.int .i64 z
theorem zH{P:Program}{e:Nat}(h:(P.info? e).any (λ i=>decide (i.bytes≤65536))=true):∃ i,P.info? e=some i∧i.bytes≤65536:=by
 cases hi:P.info? e with
 | none=>rw [hi] at h; cases h
 | some i=>rw [hi] at h; exact ⟨i,rfl,by simpa using h⟩
structure gj where
 eX:Int
 fG:Int
def cc:cM gj:=λ _ x es=>es=[iv x.eX,iv x.fG]
instance:CM cc:=⟨λ hR h=>by obtain rfl:=h; exact rfl,λ h=>by obtain rfl:=h; simp [Value.oneCell']⟩
structure Reach where
 cQ:Int
 dE:Int
def cj:cM Reach:=λ _ x es=>es=[iv x.cQ,iv x.dE]
instance:CM cj:=⟨λ hR h=>by obtain rfl:=h; exact rfl,λ h=>by obtain rfl:=h; simp [Value.oneCell']⟩
structure fK where
 Name:ByteArray
 oC:Int
def cb:cM fK:=λ _ x es=>es=[.string x.Name,iv x.oC]
instance:CM cb:=⟨λ hR h=>by obtain rfl:=h; exact rfl,λ h=>by obtain rfl:=h; simp [Value.oneCell']⟩
structure nu where
 Place:Int
 gM:Int
 gZ:Int
 aB:Int
def cp:cM nu:=λ _ x es=>es=[iv x.Place,iv x.gM,iv x.gZ,iv x.aB]
instance:CM cp:=⟨λ hR h=>by obtain rfl:=h; exact rfl,λ h=>by obtain rfl:=h; simp [Value.oneCell']⟩
structure fg where
 Place:Int
 mg:Int
 tC:Bool
def bV:cM fg:=λ _ x es=>es=[iv x.Place,iv x.mg,.bool x.tC]
instance:CM bV:=⟨λ hR h=>by obtain rfl:=h; exact rfl,λ h=>by obtain rfl:=h; simp [Value.oneCell']⟩
structure an where
 Rest:Int
 Rows:(List gj)
 aQ:(List Reach)
 aB:(List fK)
 aA:(List nu)
 bh:(List fg)
def Ur:cM an:=λ R x es=>∃ Tz TA TB TC TD,aa cc 2 R Tz x.Rows∧aa cj 2 R TA x.aQ∧aa cb 2 R TB x.aB∧aa cp 4 R TC x.aA∧aa bV 3 R TD x.bh∧es=[iv x.Rest,Tz,TA,TB,TC,TD]
instance:CM Ur:=⟨λ hR h=>by obtain ⟨Tz,TA,TB,TC,TD,YO,YP,YQ,YR,YS,rfl⟩:=h; exact ⟨_,_,_,_,_,YO.mono hR,YP.mono hR,YQ.mono hR,YR.mono hR,YS.mono hR,rfl⟩,λ h=>by obtain ⟨Tz,TA,TB,TC,TD,YO,YP,YQ,YR,YS,rfl⟩:=h; intro u hu; simp only [fR,List.not_mem_nil,or_false] at hu; rcases hu with rfl | rfl | rfl | rfl | rfl | rfl <;> first | rfl | exact YO.one | exact YP.one | exact YQ.one | exact YR.one | exact YS.one⟩
structure bH where
 deep:(List Int)
def gi:cM bH:=λ _ x es=>x.deep.length=3∧es=([]++(x.deep.map (Value.int .i64)++[]))
instance:CM gi:=⟨λ hR h=>by obtain ⟨ajk,rfl⟩:=h; exact ⟨ajk,rfl⟩,λ h=>by obtain ⟨ajk,rfl⟩:=h; simp [Value.oneCell']⟩
structure cI where
 book:an
 fH:(List bH)
theorem four{α:Type}{l:List α}(h:l.length=4):∃ a b c d,l=[a,b,c,d]:=by
 match l,h with
 | [a,b,c,d],_=>exact ⟨a,b,c,d,rfl⟩
theorem ahB:prog.eqGuardType prog.depth 41=false:=by decide +kernel
def KF(x y:Reach):Bool:=(x.cQ == y.cQ && (x.dE == y.dE && true))
theorem agP(x y:Reach):ai prog (Op.equal 41 (.agg #[iv x.cQ,iv x.dE]) (.agg #[iv y.cQ,iv y.dE])) (KF x y):=alT (d:=9999) underlying41 (by decide +kernel) (.cons rfl (vK λ _=>by kernel_rfl) (vK λ _=>by kernel_rfl) (Ty underlying3) (.cons rfl (vK λ _=>by kernel_rfl) (vK λ _=>by kernel_rfl) (Ty underlying3) .nil))
theorem Wy:prog.eqGuardType prog.depth 64=false:=by decide +kernel
def KG(x y:gj):Bool:=(x.eX == y.eX && (x.fG == y.fG && true))
theorem Wn(x y:gj):ai prog (Op.equal 64 (.agg #[iv x.eX,iv x.fG]) (.agg #[iv y.eX,iv y.fG])) (KG x y):=alT (d:=9999) underlying64 (by decide +kernel) (.cons rfl (vK λ _=>by kernel_rfl) (vK λ _=>by kernel_rfl) (Ty underlying3) (.cons rfl (vK λ _=>by kernel_rfl) (vK λ _=>by kernel_rfl) (Ty underlying3) .nil))
theorem auY:prog.eqGuardType prog.depth 143=false:=by decide +kernel
def Wm(x y:List Bool):Bool:=x == y
theorem as2{x y:List Bool}(hx:x.length=4)(hy:y.length=4):ai prog (Op.equal 143 (.agg (List.toArray ([]++(x.map Value.bool++[])))) (.agg (List.toArray ([]++(y.map Value.bool++[]))))) (Wm x y):=by
 obtain ⟨a0,a1,a2,a3,rfl⟩:=four hx
 obtain ⟨b0,b1,b2,b3,rfl⟩:=four hy
 have hw:([a0,a1,a2,a3] == [b0,b1,b2,b3])=((a0 == b0) && ((a1 == b1) && ((a2 == b2) && ((a3 == b3) && true)))):=by simp
 unfold Wm
 rw [hw]
 refine aQX (d:=9999) (n:=1) underlying143 (vK λ _=>by kernel_rfl) ?_
 refine .cons (i:=0) (rest:=[1,2,3]) (vK λ _=>by kernel_rfl) (vK λ _=>by kernel_rfl) (Tx underlying4) ?_
 refine .cons (i:=1) (rest:=[2,3]) (vK λ _=>by kernel_rfl) (vK λ _=>by kernel_rfl) (Tx underlying4) ?_
 refine .cons (i:=2) (rest:=[3]) (vK λ _=>by kernel_rfl) (vK λ _=>by kernel_rfl) (Tx underlying4) ?_
 refine .cons (i:=3) (rest:=[]) (vK λ _=>by kernel_rfl) (vK λ _=>by kernel_rfl) (Tx underlying4) ?_
 exact .nil
theorem U9:u7 prog 22 64 2:=⟨underlying22,vK λ _=>by kernel_rfl,zH (by decide +kernel),⟨.agg #[.int .i64 0,.int .i64 0],vK λ _=>by kernel_rfl,rfl⟩⟩
theorem apS:u7 prog 23 41 2:=⟨underlying23,vK λ _=>by kernel_rfl,zH (by decide +kernel),⟨.agg #[.int .i64 0,.int .i64 0],vK λ _=>by kernel_rfl,rfl⟩⟩
theorem apT:u7 prog 24 93 2:=⟨underlying24,vK λ _=>by kernel_rfl,zH (by decide +kernel),⟨.agg #[.string ⟨#[]⟩,.int .i64 0],vK λ _=>by kernel_rfl,rfl⟩⟩
theorem apU:u7 prog 25 96 4:=⟨underlying25,vK λ _=>by kernel_rfl,zH (by decide +kernel),⟨.agg #[.int .i64 0,.int .i64 0,.int .i64 0,.int .i64 0],vK λ _=>by kernel_rfl,rfl⟩⟩
theorem Bo:u7 prog 26 59 3:=⟨underlying26,vK λ _=>by kernel_rfl,zH (by decide +kernel),⟨.agg #[.int .i64 0,.int .i64 0,.bool false],vK λ _=>by kernel_rfl,rfl⟩⟩
theorem Va:u7 prog 29 36 1:=⟨underlying29,vK λ _=>by kernel_rfl,zH (by decide +kernel),⟨.slice none 0 0,vK λ _=>by kernel_rfl,rfl⟩⟩
theorem qe:u7 prog 36 3 1:=⟨underlying36,vK λ _=>by kernel_rfl,zH (by decide +kernel),⟨.int .i64 0,vK λ _=>by kernel_rfl,rfl⟩⟩
theorem apQ:u7 prog 111 116 3:=⟨underlying111,vK λ _=>by kernel_rfl,zH (by decide +kernel),⟨.agg #[.int .i64 0,.int .i64 0,.int .i64 0],vK λ _=>by kernel_rfl,rfl⟩⟩
theorem apR:u7 prog 157 145 16:=⟨underlying157,vK λ _=>by kernel_rfl,zH (by decide +kernel),⟨.agg #[.bool false,.bool false,.bool false,.bool false,.bool false,.bool false,.bool false,.bool false,.bool false,.bool false,.bool false,.bool false,.bool false,.bool false,.bool false,.bool false],vK λ _=>by kernel_rfl,rfl⟩⟩
theorem aqb:(Array.range (0 * 2)).map ((#[.int .i64 0,.int .i64 0]:Array Value)[· % (#[.int .i64 0,.int .i64 0]:Array Value).size]!)=#[]:=by kernel_rfl
theorem aff:(Array.range (1 * 2)).map ((#[.int .i64 0,.int .i64 0]:Array Value)[· % (#[.int .i64 0,.int .i64 0]:Array Value).size]!)=#[.int .i64 0,.int .i64 0]:=by kernel_rfl
theorem aqc:(Array.range (2 * 2)).map ((#[.int .i64 0,.int .i64 0]:Array Value)[· % (#[.int .i64 0,.int .i64 0]:Array Value).size]!)=#[.int .i64 0,.int .i64 0,.int .i64 0,.int .i64 0]:=by kernel_rfl
theorem aqd:(Array.range (0 * 2)).map ((#[.int .i64 0,.int .i64 0]:Array Value)[· % (#[.int .i64 0,.int .i64 0]:Array Value).size]!)=#[]:=by kernel_rfl
theorem aqe:(Array.range (2 * 2)).map ((#[.int .i64 0,.int .i64 0]:Array Value)[· % (#[.int .i64 0,.int .i64 0]:Array Value).size]!)=#[.int .i64 0,.int .i64 0,.int .i64 0,.int .i64 0]:=by kernel_rfl
theorem aqf:(Array.range (0 * 2)).map ((#[.string ⟨#[]⟩,.int .i64 0]:Array Value)[· % (#[.string ⟨#[]⟩,.int .i64 0]:Array Value).size]!)=#[]:=by kernel_rfl
theorem aqg:(Array.range (2 * 2)).map ((#[.string ⟨#[]⟩,.int .i64 0]:Array Value)[· % (#[.string ⟨#[]⟩,.int .i64 0]:Array Value).size]!)=#[.string ⟨#[]⟩,.int .i64 0,.string ⟨#[]⟩,.int .i64 0]:=by kernel_rfl
theorem aqh:(Array.range (0 * 4)).map ((#[.int .i64 0,.int .i64 0,.int .i64 0,.int .i64 0]:Array Value)[· % (#[.int .i64 0,.int .i64 0,.int .i64 0,.int .i64 0]:Array Value).size]!)=#[]:=by kernel_rfl
theorem aqi:(Array.range (3 * 4)).map ((#[.int .i64 0,.int .i64 0,.int .i64 0,.int .i64 0]:Array Value)[· % (#[.int .i64 0,.int .i64 0,.int .i64 0,.int .i64 0]:Array Value).size]!)=#[.int .i64 0,.int .i64 0,.int .i64 0,.int .i64 0,.int .i64 0,.int .i64 0,.int .i64 0,.int .i64 0,.int .i64 0,.int .i64 0,.int .i64 0,.int .i64 0]:=by kernel_rfl
theorem Vo:(Array.range (0 * 3)).map ((#[.int .i64 0,.int .i64 0,.bool false]:Array Value)[· % (#[.int .i64 0,.int .i64 0,.bool false]:Array Value).size]!)=#[]:=by kernel_rfl
theorem Pu:(Array.range (1 * 3)).map ((#[.int .i64 0,.int .i64 0,.bool false]:Array Value)[· % (#[.int .i64 0,.int .i64 0,.bool false]:Array Value).size]!)=#[.int .i64 0,.int .i64 0,.bool false]:=by kernel_rfl
theorem Pv:(Array.range (1 * 1)).map ((#[.slice none 0 0]:Array Value)[· % (#[.slice none 0 0]:Array Value).size]!)=#[.slice none 0 0]:=by kernel_rfl
theorem Vp:(Array.range (3 * 1)).map ((#[.slice none 0 0]:Array Value)[· % (#[.slice none 0 0]:Array Value).size]!)=#[.slice none 0 0,.slice none 0 0,.slice none 0 0]:=by kernel_rfl
theorem Vq:(Array.range (0 * 1)).map ((#[.int .i64 0]:Array Value)[· % (#[.int .i64 0]:Array Value).size]!)=#[]:=by kernel_rfl
theorem px:(Array.range (1 * 1)).map ((#[.int .i64 0]:Array Value)[· % (#[.int .i64 0]:Array Value).size]!)=#[.int .i64 0]:=by kernel_rfl
theorem Km:(Array.range (2 * 1)).map ((#[.int .i64 0]:Array Value)[· % (#[.int .i64 0]:Array Value).size]!)=#[.int .i64 0,.int .i64 0]:=by kernel_rfl
theorem ap9:(Array.range (1 * 3)).map ((#[.int .i64 0,.int .i64 0,.int .i64 0]:Array Value)[· % (#[.int .i64 0,.int .i64 0,.int .i64 0]:Array Value).size]!)=#[.int .i64 0,.int .i64 0,.int .i64 0]:=by kernel_rfl
theorem aqa:(Array.range (1 * 16)).map ((#[.bool false,.bool false,.bool false,.bool false,.bool false,.bool false,.bool false,.bool false,.bool false,.bool false,.bool false,.bool false,.bool false,.bool false,.bool false,.bool false]:Array Value)[· % (#[.bool false,.bool false,.bool false,.bool false,.bool false,.bool false,.bool false,.bool false,.bool false,.bool false,.bool false,.bool false,.bool false,.bool false,.bool false,.bool false]:Array Value).size]!)=#[.bool false,.bool false,.bool false,.bool false,.bool false,.bool false,.bool false,.bool false,.bool false,.bool false,.bool false,.bool false,.bool false,.bool false,.bool false,.bool false]:=by kernel_rfl
theorem ab4:Pa prog 206 3 3:=⟨underlying206,underlying3,λ e a=>vK λ _=>by kernel_rfl,vK λ _=>by kernel_rfl⟩
abbrev jQ(R:az):Prop:=aU R [] 0 0 [.func (.func 265) #[] #[],.func (.func 266) #[] #[],.func (.func 267) #[] #[],.func (.func 268) #[] #[],.func (.func 269) #[] #[],.func (.func 270) #[] #[]]
theorem jQ.mono{R R':az}(h:jQ R)(hR:aR R R'):jQ R':=aU.up (H:=[]) h hR
theorem jQ.any{R:az}{H:ah}(h:jQ R):aU R H 0 0 [.func (.func 265) #[] #[],.func (.func 266) #[] #[],.func (.func 267) #[] #[],.func (.func 268) #[] #[],.func (.func 269) #[] #[],.func (.func 270) #[] #[]]:=aU.any h
theorem mixed:prog.follows .mixedOrders=true:=by kernel_rfl
end Go.Proofs.YtihapemckcdicaaGreatDoor
