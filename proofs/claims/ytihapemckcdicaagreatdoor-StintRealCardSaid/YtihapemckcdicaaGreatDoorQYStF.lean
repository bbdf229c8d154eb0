/- Closed facts on the program; the structs of the models. Conditions: none. -/
import Derived.Test.YtihapemckcdicaaGreatDoorQYLgC
import Derived.Test.YtihapemckcdicaaGreatDoorQYLgE
import Derived.Test.YtihapemckcdicaaGreatDoorProg
import Derived.KernelRfl
namespace Go.Proofs.YtihapemckcdicaaGreatDoor
open Go.Lg Go.Proofs Tryz
theorem aL:dn prog 3:=⟨vK λ _=>by kernel_rfl,vK λ _=>by kernel_rfl⟩
theorem c6:dn prog 4:=⟨vK λ _=>by kernel_rfl,vK λ _=>by kernel_rfl⟩
theorem n0:dn prog 9:=⟨vK λ _=>by kernel_rfl,vK λ _=>by kernel_rfl⟩
theorem pn:dn prog 21:=⟨vK λ _=>by kernel_rfl,vK λ _=>by kernel_rfl⟩
theorem fx:dn prog 22:=⟨vK λ _=>by kernel_rfl,vK λ _=>by kernel_rfl⟩
theorem fI:dn prog 23:=⟨vK λ _=>by kernel_rfl,vK λ _=>by kernel_rfl⟩
theorem eD:dn prog 24:=⟨vK λ _=>by kernel_rfl,vK λ _=>by kernel_rfl⟩
theorem dS:dn prog 25:=⟨vK λ _=>by kernel_rfl,vK λ _=>by kernel_rfl⟩
theorem fu:dn prog 26:=⟨vK λ _=>by kernel_rfl,vK λ _=>by kernel_rfl⟩
theorem nZ:dn prog 29:=⟨vK λ _=>by kernel_rfl,vK λ _=>by kernel_rfl⟩
theorem fY:dn prog 33:=⟨vK λ _=>by kernel_rfl,vK λ _=>by kernel_rfl⟩
theorem iO:dn prog 36:=⟨vK λ _=>by kernel_rfl,vK λ _=>by kernel_rfl⟩
theorem ij:dn prog 111:=⟨vK λ _=>by kernel_rfl,vK λ _=>by kernel_rfl⟩
theorem pk:dn prog 125:=⟨vK λ _=>by kernel_rfl,vK λ _=>by kernel_rfl⟩
theorem Nj:dn prog 140:=⟨vK λ _=>by kernel_rfl,vK λ _=>by kernel_rfl⟩
theorem tL:dn prog 148:=⟨vK λ _=>by kernel_rfl,vK λ _=>by kernel_rfl⟩
theorem xi:dn prog 157:=⟨vK λ _=>by kernel_rfl,vK λ _=>by kernel_rfl⟩
theorem xj:dn prog 166:=⟨vK λ _=>by kernel_rfl,vK λ _=>by kernel_rfl⟩
theorem Nk:dn prog 186:=⟨vK λ _=>by kernel_rfl,vK λ _=>by kernel_rfl⟩
theorem xk:dn prog 187:=⟨vK λ _=>by kernel_rfl,vK λ _=>by kernel_rfl⟩
theorem Nl:dn prog 214:=⟨vK λ _=>by kernel_rfl,vK λ _=>by kernel_rfl⟩
theorem jH:dn prog 261:=⟨vK λ _=>by kernel_rfl,vK λ _=>by kernel_rfl⟩
theorem bl:fO prog 28 6:=⟨vK λ _=>by kernel_rfl,vK λ _=>by kernel_rfl⟩
theorem gm:fO prog 41 2:=⟨vK λ _=>by kernel_rfl,vK λ _=>by kernel_rfl⟩
theorem lR:fO prog 59 3:=⟨vK λ _=>by kernel_rfl,vK λ _=>by kernel_rfl⟩
theorem iy:fO prog 64 2:=⟨vK λ _=>by kernel_rfl,vK λ _=>by kernel_rfl⟩
theorem uE:fO prog 93 2:=⟨vK λ _=>by kernel_rfl,vK λ _=>by kernel_rfl⟩
theorem fp:fO prog 96 4:=⟨vK λ _=>by kernel_rfl,vK λ _=>by kernel_rfl⟩
theorem fv:fO prog 116 3:=⟨vK λ _=>by kernel_rfl,vK λ _=>by kernel_rfl⟩
theorem dK:fO prog 119 6:=⟨vK λ _=>by kernel_rfl,vK λ _=>by kernel_rfl⟩
theorem ck:fO prog 122 7:=⟨vK λ _=>by kernel_rfl,vK λ _=>by kernel_rfl⟩
theorem cS:fO prog 143 4:=⟨vK λ _=>by kernel_rfl,vK λ _=>by kernel_rfl⟩
theorem bU:fO prog 145 16:=⟨vK λ _=>by kernel_rfl,vK λ _=>by kernel_rfl⟩
theorem D9:fO prog 180 6:=⟨vK λ _=>by kernel_rfl,vK λ _=>by kernel_rfl⟩
theorem oc:eu prog 3 #[.int .i64 0]:=⟨.int .i64 0,vK λ _=>by kernel_rfl,rfl⟩
theorem uy:eu prog 4 #[.bool false]:=⟨.bool false,vK λ _=>by kernel_rfl,rfl⟩
theorem lJ:eu prog 28 #[.int .i64 0,.slice none 0 0,.slice none 0 0,.slice none 0 0,.slice none 0 0,.slice none 0 0]:=⟨.agg #[.int .i64 0,.slice none 0 0,.slice none 0 0,.slice none 0 0,.slice none 0 0,.slice none 0 0],vK λ _=>by kernel_rfl,rfl⟩
theorem Qj:eu prog 29 #[.slice none 0 0]:=⟨.slice none 0 0,vK λ _=>by kernel_rfl,rfl⟩
theorem DT:eu prog 33 #[.int .i64 0]:=⟨.int .i64 0,vK λ _=>by kernel_rfl,rfl⟩
theorem pD:eu prog 41 #[.int .i64 0,.int .i64 0]:=⟨.agg #[.int .i64 0,.int .i64 0],vK λ _=>by kernel_rfl,rfl⟩
theorem DU:eu prog 59 #[.int .i64 0,.int .i64 0,.bool false]:=⟨.agg #[.int .i64 0,.int .i64 0,.bool false],vK λ _=>by kernel_rfl,rfl⟩
theorem uz:eu prog 64 #[.int .i64 0,.int .i64 0]:=⟨.agg #[.int .i64 0,.int .i64 0],vK λ _=>by kernel_rfl,rfl⟩
theorem Qk:eu prog 93 #[.string ⟨#[]⟩,.int .i64 0]:=⟨.agg #[.string ⟨#[]⟩,.int .i64 0],vK λ _=>by kernel_rfl,rfl⟩
theorem ix:eu prog 96 #[.int .i64 0,.int .i64 0,.int .i64 0,.int .i64 0]:=⟨.agg #[.int .i64 0,.int .i64 0,.int .i64 0,.int .i64 0],vK λ _=>by kernel_rfl,rfl⟩
theorem mS:eu prog 116 #[.int .i64 0,.int .i64 0,.int .i64 0]:=⟨.agg #[.int .i64 0,.int .i64 0,.int .i64 0],vK λ _=>by kernel_rfl,rfl⟩
theorem DS:eu prog 119 #[.int .i64 0,.slice none 0 0,.slice none 0 0,.slice none 0 0,.slice none 0 0,.slice none 0 0]:=⟨.agg #[.int .i64 0,.slice none 0 0,.slice none 0 0,.slice none 0 0,.slice none 0 0,.slice none 0 0],vK λ _=>by kernel_rfl,rfl⟩
theorem gf:eu prog 122 #[.int .i64 0,.slice none 0 0,.slice none 0 0,.slice none 0 0,.slice none 0 0,.slice none 0 0,.slice none 0 0]:=⟨.agg #[.int .i64 0,.slice none 0 0,.slice none 0 0,.slice none 0 0,.slice none 0 0,.slice none 0 0,.slice none 0 0],vK λ _=>by kernel_rfl,rfl⟩
theorem fe:eu prog 143 #[.bool false,.bool false,.bool false,.bool false]:=⟨.agg #[.bool false,.bool false,.bool false,.bool false],vK λ _=>by kernel_rfl,rfl⟩
theorem ec:eu prog 145 #[.bool false,.bool false,.bool false,.bool false,.bool false,.bool false,.bool false,.bool false,.bool false,.bool false,.bool false,.bool false,.bool false,.bool false,.bool false,.bool false]:=⟨.agg #[.bool false,.bool false,.bool false,.bool false,.bool false,.bool false,.bool false,.bool false,.bool false,.bool false,.bool false,.bool false,.bool false,.bool false,.bool false,.bool false],vK λ _=>by kernel_rfl,rfl⟩
theorem Qd:eu prog 148 #[.nilFunc]:=⟨.nilFunc,vK λ _=>by kernel_rfl,rfl⟩
theorem Qe:eu prog 166 #[.nilFunc]:=⟨.nilFunc,vK λ _=>by kernel_rfl,rfl⟩
theorem Qf:eu prog 187 #[.nilFunc]:=⟨.nilFunc,vK λ _=>by kernel_rfl,rfl⟩
theorem Qg:eu prog 194 #[.int .i32 0,.int .u32 0]:=⟨.agg #[.int .i32 0,.int .u32 0],vK λ _=>by kernel_rfl,rfl⟩
theorem Qh:eu prog 201 #[.int .u64 0,.int .u32 0]:=⟨.agg #[.int .u64 0,.int .u32 0],vK λ _=>by kernel_rfl,rfl⟩
theorem Qi:eu prog 261 #[.int .u64 0]:=⟨.int .u64 0,vK λ _=>by kernel_rfl,rfl⟩
theorem HH:dB prog 28 0 0:=λ _ _=>vK λ _=>by kernel_rfl
theorem HI:dB prog 28 1 1:=λ _ _=>vK λ _=>by kernel_rfl
theorem HJ:dB prog 28 2 2:=λ _ _=>vK λ _=>by kernel_rfl
theorem HK:dB prog 28 3 3:=λ _ _=>vK λ _=>by kernel_rfl
theorem HL:dB prog 28 4 4:=λ _ _=>vK λ _=>by kernel_rfl
theorem HM:dB prog 28 5 5:=λ _ _=>vK λ _=>by kernel_rfl
theorem HN:dB prog 41 0 0:=λ _ _=>vK λ _=>by kernel_rfl
theorem HO:dB prog 41 1 1:=λ _ _=>vK λ _=>by kernel_rfl
theorem HP:dB prog 59 0 0:=λ _ _=>vK λ _=>by kernel_rfl
theorem HQ:dB prog 59 1 1:=λ _ _=>vK λ _=>by kernel_rfl
theorem HR:dB prog 59 2 2:=λ _ _=>vK λ _=>by kernel_rfl
theorem HS:dB prog 64 0 0:=λ _ _=>vK λ _=>by kernel_rfl
theorem HT:dB prog 64 1 1:=λ _ _=>vK λ _=>by kernel_rfl
theorem HU:dB prog 93 0 0:=λ _ _=>vK λ _=>by kernel_rfl
theorem HV:dB prog 93 1 1:=λ _ _=>vK λ _=>by kernel_rfl
theorem HW:dB prog 96 0 0:=λ _ _=>vK λ _=>by kernel_rfl
theorem HX:dB prog 96 1 1:=λ _ _=>vK λ _=>by kernel_rfl
theorem HY:dB prog 96 2 2:=λ _ _=>vK λ _=>by kernel_rfl
theorem HZ:dB prog 96 3 3:=λ _ _=>vK λ _=>by kernel_rfl
theorem Hw:dB prog 116 0 0:=λ _ _=>vK λ _=>by kernel_rfl
theorem Hx:dB prog 119 0 0:=λ _ _=>vK λ _=>by kernel_rfl
theorem Hz:dB prog 122 0 0:=λ _ _=>vK λ _=>by kernel_rfl
theorem HA:dB prog 122 1 6:=λ _ _=>vK λ _=>by kernel_rfl
theorem HB:dB prog 192 0 0:=λ _ _=>vK λ _=>by kernel_rfl
theorem HC:dB prog 192 1 1:=λ _ _=>vK λ _=>by kernel_rfl
theorem HD:dB prog 194 1 0:=λ _ _=>vK λ _=>by kernel_rfl
theorem HE:dB prog 199 2 0:=λ _ _=>vK λ _=>by kernel_rfl
theorem HF:dB prog 201 1 0:=λ _ _=>vK λ _=>by kernel_rfl
theorem HG:dB prog 201 2 1:=λ _ _=>vK λ _=>by kernel_rfl
theorem g6:fB prog 22 64 2:=⟨underlying22,vK λ _=>by kernel_rfl⟩
theorem ri:fB prog 23 41 2:=⟨underlying23,vK λ _=>by kernel_rfl⟩
theorem iR:fB prog 24 93 2:=⟨underlying24,vK λ _=>by kernel_rfl⟩
theorem iS:fB prog 25 96 4:=⟨underlying25,vK λ _=>by kernel_rfl⟩
theorem px:fB prog 26 59 3:=⟨underlying26,vK λ _=>by kernel_rfl⟩
theorem iT:fB prog 29 36 1:=⟨underlying29,vK λ _=>by kernel_rfl⟩
theorem a8:fB prog 36 3 1:=⟨underlying36,vK λ _=>by kernel_rfl⟩
theorem OZ:fB prog 81 214 1:=⟨underlying81,vK λ _=>by kernel_rfl⟩
theorem CX:fB prog 111 116 3:=⟨underlying111,vK λ _=>by kernel_rfl⟩
theorem xC:fB prog 157 145 16:=⟨underlying157,vK λ _=>by kernel_rfl⟩
theorem m3:jb prog 114 3 3 1:=⟨underlying114,vK λ _=>by kernel_rfl⟩
theorem hU:jb prog 143 4 4 1:=⟨underlying143,vK λ _=>by kernel_rfl⟩
theorem jR:jb prog 145 4 143 4:=⟨underlying145,vK λ _=>by kernel_rfl⟩
theorem oj:jb prog 180 6 125 1:=⟨underlying180,vK λ _=>by kernel_rfl⟩
theorem rn:jQ prog 28 [(0,1),(1,1),(2,1),(3,1),(4,1),(5,1)] #[.int .i64 0,.slice none 0 0,.slice none 0 0,.slice none 0 0,.slice none 0 0,.slice none 0 0]:=⟨⟨.agg #[.int .i64 0,.slice none 0 0,.slice none 0 0,.slice none 0 0,.slice none 0 0,.slice none 0 0],vK λ _=>by kernel_rfl,rfl⟩,_,underlying28,vK λ _=>by kernel_rfl⟩
theorem ug:jQ prog 41 [(0,1),(1,1)] #[.int .i64 0,.int .i64 0]:=⟨⟨.agg #[.int .i64 0,.int .i64 0],vK λ _=>by kernel_rfl,rfl⟩,_,underlying41,vK λ _=>by kernel_rfl⟩
theorem Df:jQ prog 59 [(0,1),(1,1),(2,1)] #[.int .i64 0,.int .i64 0,.bool false]:=⟨⟨.agg #[.int .i64 0,.int .i64 0,.bool false],vK λ _=>by kernel_rfl,rfl⟩,_,underlying59,vK λ _=>by kernel_rfl⟩
theorem pz:jQ prog 64 [(0,1),(1,1)] #[.int .i64 0,.int .i64 0]:=⟨⟨.agg #[.int .i64 0,.int .i64 0],vK λ _=>by kernel_rfl,rfl⟩,_,underlying64,vK λ _=>by kernel_rfl⟩
theorem Dg:jQ prog 93 [(0,1),(1,1)] #[.string ⟨#[]⟩,.int .i64 0]:=⟨⟨.agg #[.string ⟨#[]⟩,.int .i64 0],vK λ _=>by kernel_rfl,rfl⟩,_,underlying93,vK λ _=>by kernel_rfl⟩
theorem xK:jQ prog 96 [(0,1),(1,1),(2,1),(3,1)] #[.int .i64 0,.int .i64 0,.int .i64 0,.int .i64 0]:=⟨⟨.agg #[.int .i64 0,.int .i64 0,.int .i64 0,.int .i64 0],vK λ _=>by kernel_rfl,rfl⟩,_,underlying96,vK λ _=>by kernel_rfl⟩
theorem hO:jQ prog 119 [(0,6)] #[.int .i64 0,.slice none 0 0,.slice none 0 0,.slice none 0 0,.slice none 0 0,.slice none 0 0]:=⟨⟨.agg #[.int .i64 0,.slice none 0 0,.slice none 0 0,.slice none 0 0,.slice none 0 0,.slice none 0 0],vK λ _=>by kernel_rfl,rfl⟩,_,underlying119,vK λ _=>by kernel_rfl⟩
theorem mO:jQ prog 122 [(0,6),(6,1)] #[.int .i64 0,.slice none 0 0,.slice none 0 0,.slice none 0 0,.slice none 0 0,.slice none 0 0,.slice none 0 0]:=⟨⟨.agg #[.int .i64 0,.slice none 0 0,.slice none 0 0,.slice none 0 0,.slice none 0 0,.slice none 0 0,.slice none 0 0],vK λ _=>by kernel_rfl,rfl⟩,_,underlying122,vK λ _=>by kernel_rfl⟩
theorem rE:yd prog 145 #[.bool false,.bool false,.bool false,.bool false,.bool false,.bool false,.bool false,.bool false,.bool false,.bool false,.bool false,.bool false,.bool false,.bool false,.bool false,.bool false]:=⟨⟨.agg #[.bool false,.bool false,.bool false,.bool false,.bool false,.bool false,.bool false,.bool false,.bool false,.bool false,.bool false,.bool false,.bool false,.bool false,.bool false,.bool false],vK λ _=>by kernel_rfl,rfl⟩,_,_,4,underlying145,vK λ _=>by kernel_rfl⟩
theorem dP:ah prog (sizeOf 3) 1:=vK λ _=>by kernel_rfl
theorem sf:jd prog 22 64 2 #[.int .i64 0,.int .i64 0]:=⟨underlying22,vK λ _=>by kernel_rfl,⟨.agg #[.int .i64 0,.int .i64 0],vK λ _=>by kernel_rfl,rfl⟩,rfl,by decide⟩
theorem zy:jd prog 23 41 2 #[.int .i64 0,.int .i64 0]:=⟨underlying23,vK λ _=>by kernel_rfl,⟨.agg #[.int .i64 0,.int .i64 0],vK λ _=>by kernel_rfl,rfl⟩,rfl,by decide⟩
theorem zz:jd prog 24 93 2 #[.string ⟨#[]⟩,.int .i64 0]:=⟨underlying24,vK λ _=>by kernel_rfl,⟨.agg #[.string ⟨#[]⟩,.int .i64 0],vK λ _=>by kernel_rfl,rfl⟩,rfl,by decide⟩
theorem zA:jd prog 25 96 4 #[.int .i64 0,.int .i64 0,.int .i64 0,.int .i64 0]:=⟨underlying25,vK λ _=>by kernel_rfl,⟨.agg #[.int .i64 0,.int .i64 0,.int .i64 0,.int .i64 0],vK λ _=>by kernel_rfl,rfl⟩,rfl,by decide⟩
theorem lY:jd prog 26 59 3 #[.int .i64 0,.int .i64 0,.bool false]:=⟨underlying26,vK λ _=>by kernel_rfl,⟨.agg #[.int .i64 0,.int .i64 0,.bool false],vK λ _=>by kernel_rfl,rfl⟩,rfl,by decide⟩
theorem si:jd prog 29 36 1 #[.slice none 0 0]:=⟨underlying29,vK λ _=>by kernel_rfl,⟨.slice none 0 0,vK λ _=>by kernel_rfl,rfl⟩,rfl,by decide⟩
theorem gp:jd prog 36 3 1 #[.int .i64 0]:=⟨underlying36,vK λ _=>by kernel_rfl,⟨.int .i64 0,vK λ _=>by kernel_rfl,rfl⟩,rfl,by decide⟩
theorem Fi:jd prog 111 116 3 #[.int .i64 0,.int .i64 0,.int .i64 0]:=⟨underlying111,vK λ _=>by kernel_rfl,⟨.agg #[.int .i64 0,.int .i64 0,.int .i64 0],vK λ _=>by kernel_rfl,rfl⟩,rfl,by decide⟩
theorem Fj:jd prog 157 145 16 #[.bool false,.bool false,.bool false,.bool false,.bool false,.bool false,.bool false,.bool false,.bool false,.bool false,.bool false,.bool false,.bool false,.bool false,.bool false,.bool false]:=⟨underlying157,vK λ _=>by kernel_rfl,⟨.agg #[.bool false,.bool false,.bool false,.bool false,.bool false,.bool false,.bool false,.bool false,.bool false,.bool false,.bool false,.bool false,.bool false,.bool false,.bool false,.bool false],vK λ _=>by kernel_rfl,rfl⟩,rfl,by decide⟩
theorem Ge:aV prog 20:=⟨⟨Tryz.f20,func20,by decide +kernel,rfl⟩⟩
theorem vG:aV prog 22:=⟨⟨Tryz.f22,func22,by decide +kernel,rfl⟩⟩
theorem zP:aV prog 23:=⟨⟨Tryz.f23,func23,by decide +kernel,rfl⟩⟩
theorem zS:aV prog 25:=⟨⟨Tryz.f25,func25,by decide +kernel,rfl⟩⟩
theorem zT:aV prog 27:=⟨⟨Tryz.f27,func27,by decide +kernel,rfl⟩⟩
theorem zU:aV prog 28:=⟨⟨Tryz.f28,func28,by decide +kernel,rfl⟩⟩
theorem sA:aV prog 30:=⟨⟨Tryz.f30,func30,by decide +kernel,rfl⟩⟩
theorem zV:aV prog 32:=⟨⟨Tryz.f32,func32,by decide +kernel,rfl⟩⟩
theorem vL:aV prog 34:=⟨⟨Tryz.f34,func34,by decide +kernel,rfl⟩⟩
theorem zW:aV prog 36:=⟨⟨Tryz.f36,func36,by decide +kernel,rfl⟩⟩
theorem GM:aV prog 38:=⟨⟨Tryz.f38,func38,by decide +kernel,rfl⟩⟩
theorem zX:aV prog 39:=⟨⟨Tryz.f39,func39,by decide +kernel,rfl⟩⟩
theorem GN:aV prog 41:=⟨⟨Tryz.f41,func41,by decide +kernel,rfl⟩⟩
theorem zY:aV prog 43:=⟨⟨Tryz.f43,func43,by decide +kernel,rfl⟩⟩
theorem GO:aV prog 45:=⟨⟨Tryz.f45,func45,by decide +kernel,rfl⟩⟩
theorem zZ:aV prog 46:=⟨⟨Tryz.f46,func46,by decide +kernel,rfl⟩⟩
theorem qg:aV prog 47:=⟨⟨Tryz.f47,func47,by decide +kernel,rfl⟩⟩
theorem vM:aV prog 48:=⟨⟨Tryz.f48,func48,by decide +kernel,rfl⟩⟩
theorem z6:aV prog 49:=⟨⟨Tryz.f49,func49,by decide +kernel,rfl⟩⟩
theorem GQ:aV prog 50:=⟨⟨Tryz.f50,func50,by decide +kernel,rfl⟩⟩
theorem GR:aV prog 52:=⟨⟨Tryz.f52,func52,by decide +kernel,rfl⟩⟩
theorem z7:aV prog 54:=⟨⟨Tryz.f54,func54,by decide +kernel,rfl⟩⟩
theorem GU:aV prog 55:=⟨⟨Tryz.f55,func55,by decide +kernel,rfl⟩⟩
theorem GV:aV prog 59:=⟨⟨Tryz.f59,func59,by decide +kernel,rfl⟩⟩
theorem fE:aV prog 60:=⟨⟨Tryz.f60,func60,by decide +kernel,rfl⟩⟩
theorem GX:aV prog 63:=⟨⟨Tryz.f63,func63,by decide +kernel,rfl⟩⟩
theorem GY:aV prog 66:=⟨⟨Tryz.f66,func66,by decide +kernel,rfl⟩⟩
theorem GZ:aV prog 79:=⟨⟨Tryz.f79,func79,by decide +kernel,rfl⟩⟩
theorem l2:aV prog 82:=⟨⟨Tryz.f82,func82,by decide +kernel,rfl⟩⟩
theorem G0:aV prog 83:=⟨⟨Tryz.f83,func83,by decide +kernel,rfl⟩⟩
theorem G1:aV prog 84:=⟨⟨Tryz.f84,func84,by decide +kernel,rfl⟩⟩
theorem G2:aV prog 85:=⟨⟨Tryz.f85,func85,by decide +kernel,rfl⟩⟩
theorem z8:aV prog 86:=⟨⟨Tryz.f86,func86,by decide +kernel,rfl⟩⟩
theorem z9:aV prog 87:=⟨⟨Tryz.f87,func87,by decide +kernel,rfl⟩⟩
theorem G3:aV prog 88:=⟨⟨Tryz.f88,func88,by decide +kernel,rfl⟩⟩
theorem sB:aV prog 89:=⟨⟨Tryz.f89,func89,by decide +kernel,rfl⟩⟩
theorem Aa:aV prog 90:=⟨⟨Tryz.f90,func90,by decide +kernel,rfl⟩⟩
theorem vN:aV prog 91:=⟨⟨Tryz.f91,func91,by decide +kernel,rfl⟩⟩
theorem qh:aV prog 92:=⟨⟨Tryz.f92,func92,by decide +kernel,rfl⟩⟩
theorem hs:aV prog 94:=⟨⟨Tryz.f94,func94,by decide +kernel,rfl⟩⟩
theorem sC:aV prog 95:=⟨⟨Tryz.f95,func95,by decide +kernel,rfl⟩⟩
theorem Ac:aV prog 96:=⟨⟨Tryz.f96,func96,by decide +kernel,rfl⟩⟩
theorem G4:aV prog 97:=⟨⟨Tryz.f97,func97,by decide +kernel,rfl⟩⟩
theorem zC:aV prog 100:=⟨⟨Tryz.f100,func100,by decide +kernel,rfl⟩⟩
theorem zD:aV prog 102:=⟨⟨Tryz.f102,func102,by decide +kernel,rfl⟩⟩
theorem Fq:aV prog 103:=⟨⟨Tryz.f103,func103,by decide +kernel,rfl⟩⟩
theorem ss:aV prog 104:=⟨⟨Tryz.f104,func104,by decide +kernel,rfl⟩⟩
theorem Fs:aV prog 105:=⟨⟨Tryz.f105,func105,by decide +kernel,rfl⟩⟩
theorem Ft:aV prog 106:=⟨⟨Tryz.f106,func106,by decide +kernel,rfl⟩⟩
theorem lZ:aV prog 107:=⟨⟨Tryz.f107,func107,by decide +kernel,rfl⟩⟩
theorem zE:aV prog 108:=⟨⟨Tryz.f108,func108,by decide +kernel,rfl⟩⟩
theorem sw:aV prog 109:=⟨⟨Tryz.f109,func109,by decide +kernel,rfl⟩⟩
theorem Fu:aV prog 110:=⟨⟨Tryz.f110,func110,by decide +kernel,rfl⟩⟩
theorem vz:aV prog 111:=⟨⟨Tryz.f111,func111,by decide +kernel,rfl⟩⟩
theorem Fv:aV prog 115:=⟨⟨Tryz.f115,func115,by decide +kernel,rfl⟩⟩
theorem Fw:aV prog 116:=⟨⟨Tryz.f116,func116,by decide +kernel,rfl⟩⟩
theorem vA:aV prog 117:=⟨⟨Tryz.f117,func117,by decide +kernel,rfl⟩⟩
theorem Fy:aV prog 118:=⟨⟨Tryz.f118,func118,by decide +kernel,rfl⟩⟩
theorem Fz:aV prog 119:=⟨⟨Tryz.f119,func119,by decide +kernel,rfl⟩⟩
theorem ox:aV prog 121:=⟨⟨Tryz.f121,func121,by decide +kernel,rfl⟩⟩
theorem sx:aV prog 122:=⟨⟨Tryz.f122,func122,by decide +kernel,rfl⟩⟩
theorem h0:aV prog 123:=⟨⟨Tryz.f123,func123,by decide +kernel,rfl⟩⟩
theorem eM:aV prog 124:=⟨⟨Tryz.f124,func124,by decide +kernel,rfl⟩⟩
theorem zF:aV prog 126:=⟨⟨Tryz.f126,func126,by decide +kernel,rfl⟩⟩
theorem FA:aV prog 127:=⟨⟨Tryz.f127,func127,by decide +kernel,rfl⟩⟩
theorem FB:aV prog 128:=⟨⟨Tryz.f128,func128,by decide +kernel,rfl⟩⟩
theorem zG:aV prog 129:=⟨⟨Tryz.f129,func129,by decide +kernel,rfl⟩⟩
theorem vB:aV prog 130:=⟨⟨Tryz.f130,func130,by decide +kernel,rfl⟩⟩
theorem FC:aV prog 131:=⟨⟨Tryz.f131,func131,by decide +kernel,rfl⟩⟩
theorem zH:aV prog 132:=⟨⟨Tryz.f132,func132,by decide +kernel,rfl⟩⟩
theorem vC:aV prog 133:=⟨⟨Tryz.f133,func133,by decide +kernel,rfl⟩⟩
theorem vD:aV prog 134:=⟨⟨Tryz.f134,func134,by decide +kernel,rfl⟩⟩
theorem FD:aV prog 138:=⟨⟨Tryz.f138,func138,by decide +kernel,rfl⟩⟩
theorem fD:aV prog 139:=⟨⟨Tryz.f139,func139,by decide +kernel,rfl⟩⟩
theorem FE:aV prog 140:=⟨⟨Tryz.f140,func140,by decide +kernel,rfl⟩⟩
theorem FF:aV prog 141:=⟨⟨Tryz.f141,func141,by decide +kernel,rfl⟩⟩
theorem FG:aV prog 142:=⟨⟨Tryz.f142,func142,by decide +kernel,rfl⟩⟩
theorem FH:aV prog 143:=⟨⟨Tryz.f143,func143,by decide +kernel,rfl⟩⟩
theorem FI:aV prog 144:=⟨⟨Tryz.f144,func144,by decide +kernel,rfl⟩⟩
theorem FJ:aV prog 145:=⟨⟨Tryz.f145,func145,by decide +kernel,rfl⟩⟩
theorem FK:aV prog 146:=⟨⟨Tryz.f146,func146,by decide +kernel,rfl⟩⟩
theorem FL:aV prog 147:=⟨⟨Tryz.f147,func147,by decide +kernel,rfl⟩⟩
theorem zI:aV prog 149:=⟨⟨Tryz.f149,func149,by decide +kernel,rfl⟩⟩
theorem FM:aV prog 151:=⟨⟨Tryz.f151,func151,by decide +kernel,rfl⟩⟩
theorem FN:aV prog 153:=⟨⟨Tryz.f153,func153,by decide +kernel,rfl⟩⟩
theorem FO:aV prog 154:=⟨⟨Tryz.f154,func154,by decide +kernel,rfl⟩⟩
theorem FP:aV prog 155:=⟨⟨Tryz.f155,func155,by decide +kernel,rfl⟩⟩
theorem FQ:aV prog 157:=⟨⟨Tryz.f157,func157,by decide +kernel,rfl⟩⟩
theorem FR:aV prog 158:=⟨⟨Tryz.f158,func158,by decide +kernel,rfl⟩⟩
theorem FU:aV prog 159:=⟨⟨Tryz.f159,func159,by decide +kernel,rfl⟩⟩
theorem FV:aV prog 160:=⟨⟨Tryz.f160,func160,by decide +kernel,rfl⟩⟩
theorem zJ:aV prog 161:=⟨⟨Tryz.f161,func161,by decide +kernel,rfl⟩⟩
theorem zK:aV prog 162:=⟨⟨Tryz.f162,func162,by decide +kernel,rfl⟩⟩
theorem oy:aV prog 163:=⟨⟨Tryz.f163,func163,by decide +kernel,rfl⟩⟩
theorem FW:aV prog 164:=⟨⟨Tryz.f164,func164,by decide +kernel,rfl⟩⟩
theorem FX:aV prog 165:=⟨⟨Tryz.f165,func165,by decide +kernel,rfl⟩⟩
theorem sy:aV prog 166:=⟨⟨Tryz.f166,func166,by decide +kernel,rfl⟩⟩
theorem vE:aV prog 167:=⟨⟨Tryz.f167,func167,by decide +kernel,rfl⟩⟩
theorem zL:aV prog 168:=⟨⟨Tryz.f168,func168,by decide +kernel,rfl⟩⟩
theorem zM:aV prog 169:=⟨⟨Tryz.f169,func169,by decide +kernel,rfl⟩⟩
theorem FY:aV prog 170:=⟨⟨Tryz.f170,func170,by decide +kernel,rfl⟩⟩
theorem FZ:aV prog 172:=⟨⟨Tryz.f172,func172,by decide +kernel,rfl⟩⟩
theorem F0:aV prog 173:=⟨⟨Tryz.f173,func173,by decide +kernel,rfl⟩⟩
theorem F1:aV prog 174:=⟨⟨Tryz.f174,func174,by decide +kernel,rfl⟩⟩
theorem F2:aV prog 175:=⟨⟨Tryz.f175,func175,by decide +kernel,rfl⟩⟩
theorem F3:aV prog 177:=⟨⟨Tryz.f177,func177,by decide +kernel,rfl⟩⟩
theorem F4:aV prog 178:=⟨⟨Tryz.f178,func178,by decide +kernel,rfl⟩⟩
theorem F5:aV prog 179:=⟨⟨Tryz.f179,func179,by decide +kernel,rfl⟩⟩
theorem F6:aV prog 180:=⟨⟨Tryz.f180,func180,by decide +kernel,rfl⟩⟩
theorem F7:aV prog 181:=⟨⟨Tryz.f181,func181,by decide +kernel,rfl⟩⟩
theorem F8:aV prog 182:=⟨⟨Tryz.f182,func182,by decide +kernel,rfl⟩⟩
theorem F9:aV prog 183:=⟨⟨Tryz.f183,func183,by decide +kernel,rfl⟩⟩
theorem Ga:aV prog 184:=⟨⟨Tryz.f184,func184,by decide +kernel,rfl⟩⟩
theorem Gb:aV prog 185:=⟨⟨Tryz.f185,func185,by decide +kernel,rfl⟩⟩
theorem Gc:aV prog 186:=⟨⟨Tryz.f186,func186,by decide +kernel,rfl⟩⟩
theorem Gd:aV prog 187:=⟨⟨Tryz.f187,func187,by decide +kernel,rfl⟩⟩
theorem vF:aV prog 188:=⟨⟨Tryz.f188,func188,by decide +kernel,rfl⟩⟩
theorem zN:aV prog 189:=⟨⟨Tryz.f189,func189,by decide +kernel,rfl⟩⟩
theorem Gf:aV prog 203:=⟨⟨Tryz.f203,func203,by decide +kernel,rfl⟩⟩
theorem Gg:aV prog 204:=⟨⟨Tryz.f204,func204,by decide +kernel,rfl⟩⟩
theorem Gh:aV prog 211:=⟨⟨Tryz.f211,func211,by decide +kernel,rfl⟩⟩
theorem zO:aV prog 212:=⟨⟨Tryz.f212,func212,by decide +kernel,rfl⟩⟩
theorem Gi:aV prog 213:=⟨⟨Tryz.f213,func213,by decide +kernel,rfl⟩⟩
theorem Gj:aV prog 214:=⟨⟨Tryz.f214,func214,by decide +kernel,rfl⟩⟩
theorem Gk:aV prog 215:=⟨⟨Tryz.f215,func215,by decide +kernel,rfl⟩⟩
theorem Gl:aV prog 216:=⟨⟨Tryz.f216,func216,by decide +kernel,rfl⟩⟩
theorem Gm:aV prog 217:=⟨⟨Tryz.f217,func217,by decide +kernel,rfl⟩⟩
theorem Gn:aV prog 218:=⟨⟨Tryz.f218,func218,by decide +kernel,rfl⟩⟩
theorem Gp:aV prog 219:=⟨⟨Tryz.f219,func219,by decide +kernel,rfl⟩⟩
theorem Gq:aV prog 220:=⟨⟨Tryz.f220,func220,by decide +kernel,rfl⟩⟩
theorem hr:aV prog 221:=⟨⟨Tryz.f221,func221,by decide +kernel,rfl⟩⟩
theorem Gr:aV prog 222:=⟨⟨Tryz.f222,func222,by decide +kernel,rfl⟩⟩
theorem Gs:aV prog 223:=⟨⟨Tryz.f223,func223,by decide +kernel,rfl⟩⟩
theorem Gt:aV prog 225:=⟨⟨Tryz.f225,func225,by decide +kernel,rfl⟩⟩
theorem Gu:aV prog 231:=⟨⟨Tryz.f231,func231,by decide +kernel,rfl⟩⟩
theorem zQ:aV prog 233:=⟨⟨Tryz.f233,func233,by decide +kernel,rfl⟩⟩
theorem sz:aV prog 235:=⟨⟨Tryz.f235,func235,by decide +kernel,rfl⟩⟩
theorem zR:aV prog 236:=⟨⟨Tryz.f236,func236,by decide +kernel,rfl⟩⟩
theorem Gv:aV prog 237:=⟨⟨Tryz.f237,func237,by decide +kernel,rfl⟩⟩
theorem Gw:aV prog 238:=⟨⟨Tryz.f238,func238,by decide +kernel,rfl⟩⟩
theorem vH:aV prog 239:=⟨⟨Tryz.f239,func239,by decide +kernel,rfl⟩⟩
theorem vI:aV prog 240:=⟨⟨Tryz.f240,func240,by decide +kernel,rfl⟩⟩
theorem vJ:aV prog 248:=⟨⟨Tryz.f248,func248,by decide +kernel,rfl⟩⟩
theorem Gx:aV prog 265:=⟨⟨Tryz.f265,func265,by decide +kernel,rfl⟩⟩
theorem Gy:aV prog 266:=⟨⟨Tryz.f266,func266,by decide +kernel,rfl⟩⟩
theorem Gz:aV prog 267:=⟨⟨Tryz.f267,func267,by decide +kernel,rfl⟩⟩
theorem GA:aV prog 268:=⟨⟨Tryz.f268,func268,by decide +kernel,rfl⟩⟩
theorem GB:aV prog 269:=⟨⟨Tryz.f269,func269,by decide +kernel,rfl⟩⟩
theorem GC:aV prog 270:=⟨⟨Tryz.f270,func270,by decide +kernel,rfl⟩⟩
theorem GD:aV prog 271:=⟨⟨Tryz.f271,func271,by decide +kernel,rfl⟩⟩
theorem GF:aV prog 272:=⟨⟨Tryz.f272,func272,by decide +kernel,rfl⟩⟩
theorem GG:aV prog 273:=⟨⟨Tryz.f273,func273,by decide +kernel,rfl⟩⟩
theorem GH:aV prog 274:=⟨⟨Tryz.f274,func274,by decide +kernel,rfl⟩⟩
theorem GI:aV prog 275:=⟨⟨Tryz.f275,func275,by decide +kernel,rfl⟩⟩
theorem GJ:aV prog 276:=⟨⟨Tryz.f276,func276,by decide +kernel,rfl⟩⟩
theorem GK:aV prog 277:=⟨⟨Tryz.f277,func277,by decide +kernel,rfl⟩⟩
theorem GL:aV prog 278:=⟨⟨Tryz.f278,func278,by decide +kernel,rfl⟩⟩
def xh:Nat→Nat→Option Nat
 | 28,0=>some 0
 | 28,1=>some 1
 | 28,2=>some 2
 | 28,3=>some 3
 | 28,4=>some 4
 | 28,5=>some 5
 | 41,0=>some 0
 | 41,1=>some 1
 | 59,0=>some 0
 | 59,1=>some 1
 | 59,2=>some 2
 | 64,0=>some 0
 | 64,1=>some 1
 | 93,0=>some 0
 | 93,1=>some 1
 | 96,0=>some 0
 | 96,1=>some 1
 | 96,2=>some 2
 | 96,3=>some 3
 | 116,0=>some 0
 | 119,0=>some 0
 | 122,0=>some 0
 | 122,1=>some 6
 | 192,0=>some 0
 | 192,1=>some 1
 | 194,1=>some 0
 | 199,2=>some 0
 | 201,1=>some 0
 | 201,2=>some 1
 | _,_=>none
theorem Nf(s f n:Nat)(h:xh s f=some n):dB prog s f n:=by
 unfold xh at h
 split at h
 ·cases h; exact HH
 ·cases h; exact HI
 ·cases h; exact HJ
 ·cases h; exact HK
 ·cases h; exact HL
 ·cases h; exact HM
 ·cases h; exact HN
 ·cases h; exact HO
 ·cases h; exact HP
 ·cases h; exact HQ
 ·cases h; exact HR
 ·cases h; exact HS
 ·cases h; exact HT
 ·cases h; exact HU
 ·cases h; exact HV
 ·cases h; exact HW
 ·cases h; exact HX
 ·cases h; exact HY
 ·cases h; exact HZ
 ·cases h; exact Hw
 ·cases h; exact Hx
 ·cases h; exact Hz
 ·cases h; exact HA
 ·cases h; exact HB
 ·cases h; exact HC
 ·cases h; exact HD
 ·cases h; exact HE
 ·cases h; exact HF
 ·cases h; exact HG
 ·cases h
instance:fQ prog:=⟨xh,Nf⟩
set_option maxRecDepth 100000
abbrev iv(z:Int):Value:=.int .i64 z
theorem kE{P:Program}{e:Nat}(h:(P.info? e).any (λ i=>decide (i.bytes≤65536))=true):∃ i,P.info? e=some i∧i.bytes≤65536:=by
 cases hi:P.info? e with
 | none=>rw [hi] at h; cases h
 | some i=>rw [hi] at h; exact ⟨i,rfl,by simpa using h⟩
structure da where
 cB:Int
 cK:Int
def bt:bH da:=λ _ x es=>es=[iv x.cB,iv x.cK]
instance:CM bt:=⟨λ a h=>by obtain rfl:=h; exact rfl,λ h=>by obtain rfl:=h; simp [Value.oneCell']⟩
structure Reach where
 bJ:Int
 bT:Int
def bq:bH Reach:=λ _ x es=>es=[iv x.bJ,iv x.bT]
instance:CM bq:=⟨λ a h=>by obtain rfl:=h; exact rfl,λ h=>by obtain rfl:=h; simp [Value.oneCell']⟩
structure cN where
 Name:ByteArray
 gj:Int
def bp:bH cN:=λ _ x es=>es=[.string x.Name,iv x.gj]
instance:CM bp:=⟨λ a h=>by obtain rfl:=h; exact rfl,λ h=>by obtain rfl:=h; simp [Value.oneCell']⟩
structure fR where
 Place:Int
 dy:Int
 db:Int
 az:Int
def br:bH fR:=λ _ x es=>es=[iv x.Place,iv x.dy,iv x.db,iv x.az]
instance:CM br:=⟨λ a h=>by obtain rfl:=h; exact rfl,λ h=>by obtain rfl:=h; simp [Value.oneCell']⟩
structure b7 where
 Place:Int
 dJ:Int
 jO:Bool
def bg:bH b7:=λ _ x es=>es=[iv x.Place,iv x.dJ,.bool x.jO]
instance:CM bg:=⟨λ a h=>by obtain rfl:=h; exact rfl,λ h=>by obtain rfl:=h; simp [Value.oneCell']⟩
structure aj where
 Rest:Int
 Rows:(List da)
 aD:(List Reach)
 az:(List cN)
 av:(List fR)
 aQ:(List b7)
def uA:bH aj:=λ R x es=>∃ a b c d e,aa bt 2 R a x.Rows∧aa bq 2 R b x.aD∧aa bp 2 R c x.az∧aa br 4 R d x.av∧aa bg 3 R e x.aQ∧es=[iv x.Rest,a,b,c,d,e]
instance:CM uA:=⟨λ a h=>by obtain ⟨g,i,j,k,l,b,c,d,e,f,rfl⟩:=h; exact ⟨_,_,_,_,_,b.mono a,c.mono a,d.mono a,e.mono a,f.mono a,rfl⟩,λ h=>by obtain ⟨g,i,j,k,l,b,c,d,e,f,rfl⟩:=h; intro u hu; simp only [cJ,List.not_mem_nil,or_false] at hu; rcases hu with rfl | rfl | rfl | rfl | rfl | rfl <;> first | rfl | exact b.one | exact c.one | exact d.one | exact e.one | exact f.one⟩
structure aY where
 deep:(List Int)
def c9:bH aY:=λ _ x es=>x.deep.length=3∧es=([]++(x.deep.map (Value.int .i64)++[]))
instance:CM c9:=⟨λ b h=>by obtain ⟨a,rfl⟩:=h; exact ⟨a,rfl⟩,λ h=>by obtain ⟨a,rfl⟩:=h; simp [Value.oneCell']⟩
structure bF where
 book:aj
 cG:(List aY)
theorem three{α:Type}{l:List α}(h:l.length=3):∃ a b c,l=[a,b,c]:=by
 match l,h with
 | [a,b,c],_=>exact ⟨a,b,c,rfl⟩
theorem four{α:Type}{l:List α}(h:l.length=4):∃ a b c d,l=[a,b,c,d]:=by
 match l,h with
 | [a,b,c,d],_=>exact ⟨a,b,c,d,rfl⟩
theorem Ip:prog.eqGuardType prog.depth 41=false:=by decide +kernel
def vR(x y:Reach):Bool:=(x.bJ == y.bJ && (x.bT == y.bT && true))
theorem Hb(x y:Reach):ah prog (Op.equal 41 (.agg #[iv x.bJ,iv x.bT]) (.agg #[iv y.bJ,iv y.bT])) (vR x y):=xU (d:=9999) underlying41 (by decide +kernel) (.cons rfl (vK λ _=>by kernel_rfl) (vK λ _=>by kernel_rfl) (oa underlying3) (.cons rfl (vK λ _=>by kernel_rfl) (vK λ _=>by kernel_rfl) (oa underlying3) .nil))
theorem wb:prog.eqGuardType prog.depth 64=false:=by decide +kernel
def qj(x y:da):Bool:=(x.cB == y.cB && (x.cK == y.cK && true))
theorem vS(x y:da):ah prog (Op.equal 64 (.agg #[iv x.cB,iv x.cK]) (.agg #[iv y.cB,iv y.cK])) (qj x y):=xU (d:=9999) underlying64 (by decide +kernel) (.cons rfl (vK λ _=>by kernel_rfl) (vK λ _=>by kernel_rfl) (oa underlying3) (.cons rfl (vK λ _=>by kernel_rfl) (vK λ _=>by kernel_rfl) (oa underlying3) .nil))
theorem Io:prog.eqGuardType prog.depth 143=false:=by decide +kernel
def vQ(x y:List Bool):Bool:=x == y
theorem Ha{x y:List Bool}(f:x.length=4)(g:y.length=4):ah prog (Op.equal 143 (.agg (List.toArray ([]++(x.map Value.bool++[])))) (.agg (List.toArray ([]++(y.map Value.bool++[]))))) (vQ x y):=by
 obtain ⟨a,a1,b,c,rfl⟩:=four f
 obtain ⟨b0,b1,b2,e,rfl⟩:=four g
 have hw:([a,a1,b,c] == [b0,b1,b2,e])=((a == b0) && ((a1 == b1) && ((b == b2) && ((c == e) && true)))):=by simp
 unfold vQ
 rw [hw]
 refine Dq (d:=9999) (n:=1) underlying143 (vK λ _=>by kernel_rfl) ?_
 refine .cons (i:=0) (rest:=[1,2,3]) (vK λ _=>by kernel_rfl) (vK λ _=>by kernel_rfl) (uw underlying4) ?_
 refine .cons (i:=1) (rest:=[2,3]) (vK λ _=>by kernel_rfl) (vK λ _=>by kernel_rfl) (uw underlying4) ?_
 refine .cons (i:=2) (rest:=[3]) (vK λ _=>by kernel_rfl) (vK λ _=>by kernel_rfl) (uw underlying4) ?_
 refine .cons (i:=3) (rest:=[]) (vK λ _=>by kernel_rfl) (vK λ _=>by kernel_rfl) (uw underlying4) ?_
 exact .nil
theorem Im:prog.eqGuardType prog.depth 116=false:=by decide +kernel
def l4(x y:aY):Bool:=x.deep == y.deep && true
theorem G9{x y:aY}(f:x.deep.length=3)(g:y.deep.length=3):ah prog (Op.equal 116 (.agg (List.toArray ([]++(x.deep.map (Value.int .i64)++[])))) (.agg (List.toArray ([]++(y.deep.map (Value.int .i64)++[]))))) (l4 x y):=by
 obtain ⟨x⟩:=x
 obtain ⟨y⟩:=y
 simp only at f g
 obtain ⟨c,a1,e,rfl⟩:=three f
 obtain ⟨b0,b1,b2,rfl⟩:=three g
 have hw:([c,a1,e] == [b0,b1,b2])=((c == b0) && ((a1 == b1) && ((e == b2) && true))):=by simp
 unfold l4
 simp only [hw]
 refine xU (d:=9999) underlying116 (by decide +kernel) ?_
 refine .cons rfl (a:=.agg #[iv c,iv a1,iv e]) (b:=.agg #[iv b0,iv b1,iv b2]) (vK λ _=>by kernel_rfl) (vK λ _=>by kernel_rfl) ?_ .nil
 refine Dq (d:=9998) (n:=1) underlying114 (vK λ _=>by kernel_rfl) ?_
 refine .cons (i:=0) (rest:=[1,2]) (vK λ _=>by kernel_rfl) (vK λ _=>by kernel_rfl) (oa underlying3) ?_
 refine .cons (i:=1) (rest:=[2]) (vK λ _=>by kernel_rfl) (vK λ _=>by kernel_rfl) (oa underlying3) ?_
 refine .cons (i:=2) (rest:=[]) (vK λ _=>by kernel_rfl) (vK λ _=>by kernel_rfl) (oa underlying3) ?_
 exact .nil
theorem uH:ja prog 22 64 2:=⟨underlying22,vK λ _=>by kernel_rfl,kE (by decide +kernel),⟨.agg #[.int .i64 0,.int .i64 0],vK λ _=>by kernel_rfl,rfl⟩⟩
theorem Eh:ja prog 23 41 2:=⟨underlying23,vK λ _=>by kernel_rfl,kE (by decide +kernel),⟨.agg #[.int .i64 0,.int .i64 0],vK λ _=>by kernel_rfl,rfl⟩⟩
theorem Ei:ja prog 24 93 2:=⟨underlying24,vK λ _=>by kernel_rfl,kE (by decide +kernel),⟨.agg #[.string ⟨#[]⟩,.int .i64 0],vK λ _=>by kernel_rfl,rfl⟩⟩
theorem Ej:ja prog 25 96 4:=⟨underlying25,vK λ _=>by kernel_rfl,kE (by decide +kernel),⟨.agg #[.int .i64 0,.int .i64 0,.int .i64 0,.int .i64 0],vK λ _=>by kernel_rfl,rfl⟩⟩
theorem ky:ja prog 26 59 3:=⟨underlying26,vK λ _=>by kernel_rfl,kE (by decide +kernel),⟨.agg #[.int .i64 0,.int .i64 0,.bool false],vK λ _=>by kernel_rfl,rfl⟩⟩
theorem Ek:ja prog 29 36 1:=⟨underlying29,vK λ _=>by kernel_rfl,kE (by decide +kernel),⟨.slice none 0 0,vK λ _=>by kernel_rfl,rfl⟩⟩
theorem rD:ja prog 36 3 1:=⟨underlying36,vK λ _=>by kernel_rfl,kE (by decide +kernel),⟨.int .i64 0,vK λ _=>by kernel_rfl,rfl⟩⟩
theorem Ef:ja prog 111 116 3:=⟨underlying111,vK λ _=>by kernel_rfl,kE (by decide +kernel),⟨.agg #[.int .i64 0,.int .i64 0,.int .i64 0],vK λ _=>by kernel_rfl,rfl⟩⟩
theorem Eg:ja prog 157 145 16:=⟨underlying157,vK λ _=>by kernel_rfl,kE (by decide +kernel),⟨.agg #[.bool false,.bool false,.bool false,.bool false,.bool false,.bool false,.bool false,.bool false,.bool false,.bool false,.bool false,.bool false,.bool false,.bool false,.bool false,.bool false],vK λ _=>by kernel_rfl,rfl⟩⟩
theorem Ev:(Array.range (0 * 2)).map ((#[.int .i64 0,.int .i64 0]:Array Value)[· % (#[.int .i64 0,.int .i64 0]:Array Value).size]!)=#[]:=by kernel_rfl
theorem yw:(Array.range (1 * 2)).map ((#[.int .i64 0,.int .i64 0]:Array Value)[· % (#[.int .i64 0,.int .i64 0]:Array Value).size]!)=#[.int .i64 0,.int .i64 0]:=by kernel_rfl
theorem Ew:(Array.range (2 * 2)).map ((#[.int .i64 0,.int .i64 0]:Array Value)[· % (#[.int .i64 0,.int .i64 0]:Array Value).size]!)=#[.int .i64 0,.int .i64 0,.int .i64 0,.int .i64 0]:=by kernel_rfl
theorem Ex:(Array.range (0 * 2)).map ((#[.int .i64 0,.int .i64 0]:Array Value)[· % (#[.int .i64 0,.int .i64 0]:Array Value).size]!)=#[]:=by kernel_rfl
theorem Ey:(Array.range (2 * 2)).map ((#[.int .i64 0,.int .i64 0]:Array Value)[· % (#[.int .i64 0,.int .i64 0]:Array Value).size]!)=#[.int .i64 0,.int .i64 0,.int .i64 0,.int .i64 0]:=by kernel_rfl
theorem Ez:(Array.range (0 * 2)).map ((#[.string ⟨#[]⟩,.int .i64 0]:Array Value)[· % (#[.string ⟨#[]⟩,.int .i64 0]:Array Value).size]!)=#[]:=by kernel_rfl
theorem EA:(Array.range (2 * 2)).map ((#[.string ⟨#[]⟩,.int .i64 0]:Array Value)[· % (#[.string ⟨#[]⟩,.int .i64 0]:Array Value).size]!)=#[.string ⟨#[]⟩,.int .i64 0,.string ⟨#[]⟩,.int .i64 0]:=by kernel_rfl
theorem EB:(Array.range (0 * 4)).map ((#[.int .i64 0,.int .i64 0,.int .i64 0,.int .i64 0]:Array Value)[· % (#[.int .i64 0,.int .i64 0,.int .i64 0,.int .i64 0]:Array Value).size]!)=#[]:=by kernel_rfl
theorem EC:(Array.range (3 * 4)).map ((#[.int .i64 0,.int .i64 0,.int .i64 0,.int .i64 0]:Array Value)[· % (#[.int .i64 0,.int .i64 0,.int .i64 0,.int .i64 0]:Array Value).size]!)=#[.int .i64 0,.int .i64 0,.int .i64 0,.int .i64 0,.int .i64 0,.int .i64 0,.int .i64 0,.int .i64 0,.int .i64 0,.int .i64 0,.int .i64 0,.int .i64 0]:=by kernel_rfl
theorem uQ:(Array.range (0 * 3)).map ((#[.int .i64 0,.int .i64 0,.bool false]:Array Value)[· % (#[.int .i64 0,.int .i64 0,.bool false]:Array Value).size]!)=#[]:=by kernel_rfl
theorem pW:(Array.range (1 * 3)).map ((#[.int .i64 0,.int .i64 0,.bool false]:Array Value)[· % (#[.int .i64 0,.int .i64 0,.bool false]:Array Value).size]!)=#[.int .i64 0,.int .i64 0,.bool false]:=by kernel_rfl
theorem ED:(Array.range (1 * 1)).map ((#[.slice none 0 0]:Array Value)[· % (#[.slice none 0 0]:Array Value).size]!)=#[.slice none 0 0]:=by kernel_rfl
theorem uR:(Array.range (3 * 1)).map ((#[.slice none 0 0]:Array Value)[· % (#[.slice none 0 0]:Array Value).size]!)=#[.slice none 0 0,.slice none 0 0,.slice none 0 0]:=by kernel_rfl
theorem iA:(Array.range (1 * 1)).map ((#[.int .i64 0]:Array Value)[· % (#[.int .i64 0]:Array Value).size]!)=#[.int .i64 0]:=by kernel_rfl
theorem pX:(Array.range (2 * 1)).map ((#[.int .i64 0]:Array Value)[· % (#[.int .i64 0]:Array Value).size]!)=#[.int .i64 0,.int .i64 0]:=by kernel_rfl
theorem Et:(Array.range (1 * 3)).map ((#[.int .i64 0,.int .i64 0,.int .i64 0]:Array Value)[· % (#[.int .i64 0,.int .i64 0,.int .i64 0]:Array Value).size]!)=#[.int .i64 0,.int .i64 0,.int .i64 0]:=by kernel_rfl
theorem Eu:(Array.range (1 * 16)).map ((#[.bool false,.bool false,.bool false,.bool false,.bool false,.bool false,.bool false,.bool false,.bool false,.bool false,.bool false,.bool false,.bool false,.bool false,.bool false,.bool false]:Array Value)[· % (#[.bool false,.bool false,.bool false,.bool false,.bool false,.bool false,.bool false,.bool false,.bool false,.bool false,.bool false,.bool false,.bool false,.bool false,.bool false,.bool false]:Array Value).size]!)=#[.bool false,.bool false,.bool false,.bool false,.bool false,.bool false,.bool false,.bool false,.bool false,.bool false,.bool false,.bool false,.bool false,.bool false,.bool false,.bool false]:=by kernel_rfl
theorem w7:rA prog 206 3 3:=⟨underlying206,underlying3,λ e a=>vK λ _=>by kernel_rfl,vK λ _=>by kernel_rfl⟩
abbrev ek(R:ax):Prop:=aH R [] 0 0 [.func (.func 265) #[] #[],.func (.func 266) #[] #[],.func (.func 267) #[] #[],.func (.func 268) #[] #[],.func (.func 269) #[] #[],.func (.func 270) #[] #[]]
theorem ek.mono{R R':ax}(h:ek R)(a:aJ R R'):ek R':=aH.up (H:=[]) h a
theorem ek.any{R:ax}{H:ai}(h:ek R):aH R H 0 0 [.func (.func 265) #[] #[],.func (.func 266) #[] #[],.func (.func 267) #[] #[],.func (.func 268) #[] #[],.func (.func 269) #[] #[],.func (.func 270) #[] #[]]:=aH.any h
theorem mixed:prog.follows .mixedOrders=true:=by kernel_rfl
end Go.Proofs.YtihapemckcdicaaGreatDoor
