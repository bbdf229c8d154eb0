/- Closed facts on the program; the structs of the models. Conditions: none. -/
import Derived.Test.YtihapemckcdicaaGreatDoorQVLgC
import Derived.Test.YtihapemckcdicaaGreatDoorQVLgE
import Derived.Test.YtihapemckcdicaaGreatDoorProg
import Derived.KernelRfl
namespace Go.Proofs.YtihapemckcdicaaGreatDoor
open Go.Lg Go.Proofs Tryz
theorem ba:gG prog 3:=⟨λ _=>⟨by kernel_rfl,by kernel_rfl⟩,λ _=>⟨by kernel_rfl,by kernel_rfl⟩⟩
theorem im:gG prog 4:=⟨λ _=>⟨by kernel_rfl,by kernel_rfl⟩,λ _=>⟨by kernel_rfl,by kernel_rfl⟩⟩
theorem CY:gG prog 9:=⟨λ _=>⟨by kernel_rfl,by kernel_rfl⟩,λ _=>⟨by kernel_rfl,by kernel_rfl⟩⟩
theorem FO:gG prog 21:=⟨λ _=>⟨by kernel_rfl,by kernel_rfl⟩,λ _=>⟨by kernel_rfl,by kernel_rfl⟩⟩
theorem lU:gG prog 22:=⟨λ _=>⟨by kernel_rfl,by kernel_rfl⟩,λ _=>⟨by kernel_rfl,by kernel_rfl⟩⟩
theorem mZ:gG prog 23:=⟨λ _=>⟨by kernel_rfl,by kernel_rfl⟩,λ _=>⟨by kernel_rfl,by kernel_rfl⟩⟩
theorem k7:gG prog 24:=⟨λ _=>⟨by kernel_rfl,by kernel_rfl⟩,λ _=>⟨by kernel_rfl,by kernel_rfl⟩⟩
theorem kh:gG prog 25:=⟨λ _=>⟨by kernel_rfl,by kernel_rfl⟩,λ _=>⟨by kernel_rfl,by kernel_rfl⟩⟩
theorem m9:gG prog 26:=⟨λ _=>⟨by kernel_rfl,by kernel_rfl⟩,λ _=>⟨by kernel_rfl,by kernel_rfl⟩⟩
theorem CX:gG prog 29:=⟨λ _=>⟨by kernel_rfl,by kernel_rfl⟩,λ _=>⟨by kernel_rfl,by kernel_rfl⟩⟩
theorem xK:gG prog 33:=⟨λ _=>⟨by kernel_rfl,by kernel_rfl⟩,λ _=>⟨by kernel_rfl,by kernel_rfl⟩⟩
theorem Xi:gG prog 36:=⟨λ _=>⟨by kernel_rfl,by kernel_rfl⟩,λ _=>⟨by kernel_rfl,by kernel_rfl⟩⟩
theorem qY:gG prog 111:=⟨λ _=>⟨by kernel_rfl,by kernel_rfl⟩,λ _=>⟨by kernel_rfl,by kernel_rfl⟩⟩
theorem FN:gG prog 125:=⟨λ _=>⟨by kernel_rfl,by kernel_rfl⟩,λ _=>⟨by kernel_rfl,by kernel_rfl⟩⟩
theorem aFC:gG prog 140:=⟨λ _=>⟨by kernel_rfl,by kernel_rfl⟩,λ _=>⟨by kernel_rfl,by kernel_rfl⟩⟩
theorem N8:gG prog 148:=⟨λ _=>⟨by kernel_rfl,by kernel_rfl⟩,λ _=>⟨by kernel_rfl,by kernel_rfl⟩⟩
theorem Xf:gG prog 157:=⟨λ _=>⟨by kernel_rfl,by kernel_rfl⟩,λ _=>⟨by kernel_rfl,by kernel_rfl⟩⟩
theorem Xg:gG prog 166:=⟨λ _=>⟨by kernel_rfl,by kernel_rfl⟩,λ _=>⟨by kernel_rfl,by kernel_rfl⟩⟩
theorem aFD:gG prog 186:=⟨λ _=>⟨by kernel_rfl,by kernel_rfl⟩,λ _=>⟨by kernel_rfl,by kernel_rfl⟩⟩
theorem Xh:gG prog 187:=⟨λ _=>⟨by kernel_rfl,by kernel_rfl⟩,λ _=>⟨by kernel_rfl,by kernel_rfl⟩⟩
theorem uf:gG prog 261:=⟨λ _=>⟨by kernel_rfl,by kernel_rfl⟩,λ _=>⟨by kernel_rfl,by kernel_rfl⟩⟩
theorem cx:mR prog 28 6:=⟨λ _=>⟨by kernel_rfl,by kernel_rfl⟩,λ _=>⟨by kernel_rfl,by kernel_rfl⟩⟩
theorem nV:mR prog 41 2:=⟨λ _=>⟨by kernel_rfl,by kernel_rfl⟩,λ _=>⟨by kernel_rfl,by kernel_rfl⟩⟩
theorem Hh:mR prog 59 3:=⟨λ _=>⟨by kernel_rfl,by kernel_rfl⟩,λ _=>⟨by kernel_rfl,by kernel_rfl⟩⟩
theorem rz:mR prog 64 2:=⟨λ _=>⟨by kernel_rfl,by kernel_rfl⟩,λ _=>⟨by kernel_rfl,by kernel_rfl⟩⟩
theorem Qx:mR prog 93 2:=⟨λ _=>⟨by kernel_rfl,by kernel_rfl⟩,λ _=>⟨by kernel_rfl,by kernel_rfl⟩⟩
theorem pJ:mR prog 96 4:=⟨λ _=>⟨by kernel_rfl,by kernel_rfl⟩,λ _=>⟨by kernel_rfl,by kernel_rfl⟩⟩
theorem pI:mR prog 116 3:=⟨λ _=>⟨by kernel_rfl,by kernel_rfl⟩,λ _=>⟨by kernel_rfl,by kernel_rfl⟩⟩
theorem gv:mR prog 119 6:=⟨λ _=>⟨by kernel_rfl,by kernel_rfl⟩,λ _=>⟨by kernel_rfl,by kernel_rfl⟩⟩
theorem dN:mR prog 122 7:=⟨λ _=>⟨by kernel_rfl,by kernel_rfl⟩,λ _=>⟨by kernel_rfl,by kernel_rfl⟩⟩
theorem fp:mR prog 143 4:=⟨λ _=>⟨by kernel_rfl,by kernel_rfl⟩,λ _=>⟨by kernel_rfl,by kernel_rfl⟩⟩
theorem cO:mR prog 145 16:=⟨λ _=>⟨by kernel_rfl,by kernel_rfl⟩,λ _=>⟨by kernel_rfl,by kernel_rfl⟩⟩
theorem ajJ:mR prog 180 6:=⟨λ _=>⟨by kernel_rfl,by kernel_rfl⟩,λ _=>⟨by kernel_rfl,by kernel_rfl⟩⟩
theorem DU:iF prog 3 #[.int .i64 0]:=⟨.int .i64 0,λ _=>⟨by kernel_rfl,by kernel_rfl⟩,rfl⟩
theorem YT:iF prog 4 #[.bool false]:=⟨.bool false,λ _=>⟨by kernel_rfl,by kernel_rfl⟩,rfl⟩
theorem AU:iF prog 28 #[.int .i64 0,.slice none 0 0,.slice none 0 0,.slice none 0 0,.slice none 0 0,.slice none 0 0]:=⟨.agg #[.int .i64 0,.slice none 0 0,.slice none 0 0,.slice none 0 0,.slice none 0 0,.slice none 0 0],λ _=>⟨by kernel_rfl,by kernel_rfl⟩,rfl⟩
theorem aI0:iF prog 29 #[.slice none 0 0]:=⟨.slice none 0 0,λ _=>⟨by kernel_rfl,by kernel_rfl⟩,rfl⟩
theorem aI1:iF prog 33 #[.int .i64 0]:=⟨.int .i64 0,λ _=>⟨by kernel_rfl,by kernel_rfl⟩,rfl⟩
theorem GR:iF prog 41 #[.int .i64 0,.int .i64 0]:=⟨.agg #[.int .i64 0,.int .i64 0],λ _=>⟨by kernel_rfl,by kernel_rfl⟩,rfl⟩
theorem aI2:iF prog 59 #[.int .i64 0,.int .i64 0,.bool false]:=⟨.agg #[.int .i64 0,.int .i64 0,.bool false],λ _=>⟨by kernel_rfl,by kernel_rfl⟩,rfl⟩
theorem PN:iF prog 64 #[.int .i64 0,.int .i64 0]:=⟨.agg #[.int .i64 0,.int .i64 0],λ _=>⟨by kernel_rfl,by kernel_rfl⟩,rfl⟩
theorem aI3:iF prog 93 #[.string ⟨#[]⟩,.int .i64 0]:=⟨.agg #[.string ⟨#[]⟩,.int .i64 0],λ _=>⟨by kernel_rfl,by kernel_rfl⟩,rfl⟩
theorem AM:iF prog 96 #[.int .i64 0,.int .i64 0,.int .i64 0,.int .i64 0]:=⟨.agg #[.int .i64 0,.int .i64 0,.int .i64 0,.int .i64 0],λ _=>⟨by kernel_rfl,by kernel_rfl⟩,rfl⟩
theorem PM:iF prog 116 #[.int .i64 0,.int .i64 0,.int .i64 0]:=⟨.agg #[.int .i64 0,.int .i64 0,.int .i64 0],λ _=>⟨by kernel_rfl,by kernel_rfl⟩,rfl⟩
theorem ahm:iF prog 119 #[.int .i64 0,.slice none 0 0,.slice none 0 0,.slice none 0 0,.slice none 0 0,.slice none 0 0]:=⟨.agg #[.int .i64 0,.slice none 0 0,.slice none 0 0,.slice none 0 0,.slice none 0 0,.slice none 0 0],λ _=>⟨by kernel_rfl,by kernel_rfl⟩,rfl⟩
theorem m8:iF prog 122 #[.int .i64 0,.slice none 0 0,.slice none 0 0,.slice none 0 0,.slice none 0 0,.slice none 0 0,.slice none 0 0]:=⟨.agg #[.int .i64 0,.slice none 0 0,.slice none 0 0,.slice none 0 0,.slice none 0 0,.slice none 0 0,.slice none 0 0],λ _=>⟨by kernel_rfl,by kernel_rfl⟩,rfl⟩
theorem kN:iF prog 143 #[.bool false,.bool false,.bool false,.bool false]:=⟨.agg #[.bool false,.bool false,.bool false,.bool false],λ _=>⟨by kernel_rfl,by kernel_rfl⟩,rfl⟩
theorem ia:iF prog 145 #[.bool false,.bool false,.bool false,.bool false,.bool false,.bool false,.bool false,.bool false,.bool false,.bool false,.bool false,.bool false,.bool false,.bool false,.bool false,.bool false]:=⟨.agg #[.bool false,.bool false,.bool false,.bool false,.bool false,.bool false,.bool false,.bool false,.bool false,.bool false,.bool false,.bool false,.bool false,.bool false,.bool false,.bool false],λ _=>⟨by kernel_rfl,by kernel_rfl⟩,rfl⟩
theorem aIU:iF prog 148 #[.nilFunc]:=⟨.nilFunc,λ _=>⟨by kernel_rfl,by kernel_rfl⟩,rfl⟩
theorem aIV:iF prog 166 #[.nilFunc]:=⟨.nilFunc,λ _=>⟨by kernel_rfl,by kernel_rfl⟩,rfl⟩
theorem aIW:iF prog 187 #[.nilFunc]:=⟨.nilFunc,λ _=>⟨by kernel_rfl,by kernel_rfl⟩,rfl⟩
theorem aIX:iF prog 194 #[.int .i32 0,.int .u32 0]:=⟨.agg #[.int .i32 0,.int .u32 0],λ _=>⟨by kernel_rfl,by kernel_rfl⟩,rfl⟩
theorem aIY:iF prog 201 #[.int .u64 0,.int .u32 0]:=⟨.agg #[.int .u64 0,.int .u32 0],λ _=>⟨by kernel_rfl,by kernel_rfl⟩,rfl⟩
theorem aIZ:iF prog 261 #[.int .u64 0]:=⟨.int .u64 0,λ _=>⟨by kernel_rfl,by kernel_rfl⟩,rfl⟩
theorem anA:gf prog 28 0 0:=λ _ _ _=>⟨by kernel_rfl,by kernel_rfl⟩
theorem anB:gf prog 28 1 1:=λ _ _ _=>⟨by kernel_rfl,by kernel_rfl⟩
theorem anC:gf prog 28 2 2:=λ _ _ _=>⟨by kernel_rfl,by kernel_rfl⟩
theorem anD:gf prog 28 3 3:=λ _ _ _=>⟨by kernel_rfl,by kernel_rfl⟩
theorem anE:gf prog 28 4 4:=λ _ _ _=>⟨by kernel_rfl,by kernel_rfl⟩
theorem anF:gf prog 28 5 5:=λ _ _ _=>⟨by kernel_rfl,by kernel_rfl⟩
theorem anG:gf prog 41 0 0:=λ _ _ _=>⟨by kernel_rfl,by kernel_rfl⟩
theorem anH:gf prog 41 1 1:=λ _ _ _=>⟨by kernel_rfl,by kernel_rfl⟩
theorem anI:gf prog 59 0 0:=λ _ _ _=>⟨by kernel_rfl,by kernel_rfl⟩
theorem anJ:gf prog 59 1 1:=λ _ _ _=>⟨by kernel_rfl,by kernel_rfl⟩
theorem anK:gf prog 59 2 2:=λ _ _ _=>⟨by kernel_rfl,by kernel_rfl⟩
theorem anL:gf prog 64 0 0:=λ _ _ _=>⟨by kernel_rfl,by kernel_rfl⟩
theorem anM:gf prog 64 1 1:=λ _ _ _=>⟨by kernel_rfl,by kernel_rfl⟩
theorem anN:gf prog 93 0 0:=λ _ _ _=>⟨by kernel_rfl,by kernel_rfl⟩
theorem anO:gf prog 93 1 1:=λ _ _ _=>⟨by kernel_rfl,by kernel_rfl⟩
theorem anP:gf prog 96 0 0:=λ _ _ _=>⟨by kernel_rfl,by kernel_rfl⟩
theorem anQ:gf prog 96 1 1:=λ _ _ _=>⟨by kernel_rfl,by kernel_rfl⟩
theorem anR:gf prog 96 2 2:=λ _ _ _=>⟨by kernel_rfl,by kernel_rfl⟩
theorem anS:gf prog 96 3 3:=λ _ _ _=>⟨by kernel_rfl,by kernel_rfl⟩
theorem anp:gf prog 116 0 0:=λ _ _ _=>⟨by kernel_rfl,by kernel_rfl⟩
theorem anq:gf prog 119 0 0:=λ _ _ _=>⟨by kernel_rfl,by kernel_rfl⟩
theorem anr:gf prog 122 0 0:=λ _ _ _=>⟨by kernel_rfl,by kernel_rfl⟩
theorem ans:gf prog 122 1 6:=λ _ _ _=>⟨by kernel_rfl,by kernel_rfl⟩
theorem ant:gf prog 192 0 0:=λ _ _ _=>⟨by kernel_rfl,by kernel_rfl⟩
theorem anu:gf prog 192 1 1:=λ _ _ _=>⟨by kernel_rfl,by kernel_rfl⟩
theorem anv:gf prog 194 1 0:=λ _ _ _=>⟨by kernel_rfl,by kernel_rfl⟩
theorem anw:gf prog 199 2 0:=λ _ _ _=>⟨by kernel_rfl,by kernel_rfl⟩
theorem anx:gf prog 201 1 0:=λ _ _ _=>⟨by kernel_rfl,by kernel_rfl⟩
theorem anz:gf prog 201 2 1:=λ _ _ _=>⟨by kernel_rfl,by kernel_rfl⟩
theorem qg:mU prog 22 64 2:=⟨underlying22,λ _=>⟨by kernel_rfl,by kernel_rfl⟩⟩
theorem Kr:mU prog 23 41 2:=⟨underlying23,λ _=>⟨by kernel_rfl,by kernel_rfl⟩⟩
theorem vU:mU prog 24 93 2:=⟨underlying24,λ _=>⟨by kernel_rfl,by kernel_rfl⟩⟩
theorem Ar:mU prog 25 96 4:=⟨underlying25,λ _=>⟨by kernel_rfl,by kernel_rfl⟩⟩
theorem Kt:mU prog 26 59 3:=⟨underlying26,λ _=>⟨by kernel_rfl,by kernel_rfl⟩⟩
theorem XK:mU prog 29 36 1:=⟨underlying29,λ _=>⟨by kernel_rfl,by kernel_rfl⟩⟩
theorem bJ:mU prog 36 3 1:=⟨underlying36,λ _=>⟨by kernel_rfl,by kernel_rfl⟩⟩
theorem afw:mU prog 111 116 3:=⟨underlying111,λ _=>⟨by kernel_rfl,by kernel_rfl⟩⟩
theorem XJ:mU prog 157 145 16:=⟨underlying157,λ _=>⟨by kernel_rfl,by kernel_rfl⟩⟩
theorem D9:uO prog 114 3 3 1:=⟨underlying114,λ _=>⟨by kernel_rfl,by kernel_rfl⟩⟩
theorem qs:uO prog 143 4 4 1:=⟨underlying143,λ _=>⟨by kernel_rfl,by kernel_rfl⟩⟩
theorem uS:uO prog 145 4 143 4:=⟨underlying145,λ _=>⟨by kernel_rfl,by kernel_rfl⟩⟩
theorem Ea:uO prog 180 6 125 1:=⟨underlying180,λ _=>⟨by kernel_rfl,by kernel_rfl⟩⟩
theorem Kw:uQ prog 28 [(0,1),(1,1),(2,1),(3,1),(4,1),(5,1)] #[.int .i64 0,.slice none 0 0,.slice none 0 0,.slice none 0 0,.slice none 0 0,.slice none 0 0]:=⟨⟨.agg #[.int .i64 0,.slice none 0 0,.slice none 0 0,.slice none 0 0,.slice none 0 0,.slice none 0 0],λ _=>⟨by kernel_rfl,by kernel_rfl⟩,rfl⟩,_,underlying28,λ _=>⟨by kernel_rfl,by kernel_rfl⟩⟩
theorem OH:uQ prog 41 [(0,1),(1,1)] #[.int .i64 0,.int .i64 0]:=⟨⟨.agg #[.int .i64 0,.int .i64 0],λ _=>⟨by kernel_rfl,by kernel_rfl⟩,rfl⟩,_,underlying41,λ _=>⟨by kernel_rfl,by kernel_rfl⟩⟩
theorem XT:uQ prog 59 [(0,1),(1,1),(2,1)] #[.int .i64 0,.int .i64 0,.bool false]:=⟨⟨.agg #[.int .i64 0,.int .i64 0,.bool false],λ _=>⟨by kernel_rfl,by kernel_rfl⟩,rfl⟩,_,underlying59,λ _=>⟨by kernel_rfl,by kernel_rfl⟩⟩
theorem Gg:uQ prog 64 [(0,1),(1,1)] #[.int .i64 0,.int .i64 0]:=⟨⟨.agg #[.int .i64 0,.int .i64 0],λ _=>⟨by kernel_rfl,by kernel_rfl⟩,rfl⟩,_,underlying64,λ _=>⟨by kernel_rfl,by kernel_rfl⟩⟩
theorem afP:uQ prog 93 [(0,1),(1,1)] #[.string ⟨#[]⟩,.int .i64 0]:=⟨⟨.agg #[.string ⟨#[]⟩,.int .i64 0],λ _=>⟨by kernel_rfl,by kernel_rfl⟩,rfl⟩,_,underlying93,λ _=>⟨by kernel_rfl,by kernel_rfl⟩⟩
theorem XU:uQ prog 96 [(0,1),(1,1),(2,1),(3,1)] #[.int .i64 0,.int .i64 0,.int .i64 0,.int .i64 0]:=⟨⟨.agg #[.int .i64 0,.int .i64 0,.int .i64 0,.int .i64 0],λ _=>⟨by kernel_rfl,by kernel_rfl⟩,rfl⟩,_,underlying96,λ _=>⟨by kernel_rfl,by kernel_rfl⟩⟩
theorem ri:uQ prog 119 [(0,6)] #[.int .i64 0,.slice none 0 0,.slice none 0 0,.slice none 0 0,.slice none 0 0,.slice none 0 0]:=⟨⟨.agg #[.int .i64 0,.slice none 0 0,.slice none 0 0,.slice none 0 0,.slice none 0 0,.slice none 0 0],λ _=>⟨by kernel_rfl,by kernel_rfl⟩,rfl⟩,_,underlying119,λ _=>⟨by kernel_rfl,by kernel_rfl⟩⟩
theorem Aw:uQ prog 122 [(0,6),(6,1)] #[.int .i64 0,.slice none 0 0,.slice none 0 0,.slice none 0 0,.slice none 0 0,.slice none 0 0,.slice none 0 0]:=⟨⟨.agg #[.int .i64 0,.slice none 0 0,.slice none 0 0,.slice none 0 0,.slice none 0 0,.slice none 0 0,.slice none 0 0],λ _=>⟨by kernel_rfl,by kernel_rfl⟩,rfl⟩,_,underlying122,λ _=>⟨by kernel_rfl,by kernel_rfl⟩⟩
theorem LL:Zc prog 145 #[.bool false,.bool false,.bool false,.bool false,.bool false,.bool false,.bool false,.bool false,.bool false,.bool false,.bool false,.bool false,.bool false,.bool false,.bool false,.bool false]:=⟨⟨.agg #[.bool false,.bool false,.bool false,.bool false,.bool false,.bool false,.bool false,.bool false,.bool false,.bool false,.bool false,.bool false,.bool false,.bool false,.bool false,.bool false],λ _=>⟨by kernel_rfl,by kernel_rfl⟩,rfl⟩,_,_,4,underlying145,λ _=>⟨by kernel_rfl,by kernel_rfl⟩⟩
theorem gC:ai prog (sizeOf 3) 1:=λ _=>⟨by kernel_rfl,by kernel_rfl⟩
theorem Mf:sS prog 22 64 2 #[.int .i64 0,.int .i64 0]:=⟨underlying22,λ _=>⟨by kernel_rfl,by kernel_rfl⟩,⟨.agg #[.int .i64 0,.int .i64 0],λ _=>⟨by kernel_rfl,by kernel_rfl⟩,rfl⟩,rfl,by decide⟩
theorem abe:sS prog 23 41 2 #[.int .i64 0,.int .i64 0]:=⟨underlying23,λ _=>⟨by kernel_rfl,by kernel_rfl⟩,⟨.agg #[.int .i64 0,.int .i64 0],λ _=>⟨by kernel_rfl,by kernel_rfl⟩,rfl⟩,rfl,by decide⟩
theorem abf:sS prog 24 93 2 #[.string ⟨#[]⟩,.int .i64 0]:=⟨underlying24,λ _=>⟨by kernel_rfl,by kernel_rfl⟩,⟨.agg #[.string ⟨#[]⟩,.int .i64 0],λ _=>⟨by kernel_rfl,by kernel_rfl⟩,rfl⟩,rfl,by decide⟩
theorem abg:sS prog 25 96 4 #[.int .i64 0,.int .i64 0,.int .i64 0,.int .i64 0]:=⟨underlying25,λ _=>⟨by kernel_rfl,by kernel_rfl⟩,⟨.agg #[.int .i64 0,.int .i64 0,.int .i64 0,.int .i64 0],λ _=>⟨by kernel_rfl,by kernel_rfl⟩,rfl⟩,rfl,by decide⟩
theorem Bd:sS prog 26 59 3 #[.int .i64 0,.int .i64 0,.bool false]:=⟨underlying26,λ _=>⟨by kernel_rfl,by kernel_rfl⟩,⟨.agg #[.int .i64 0,.int .i64 0,.bool false],λ _=>⟨by kernel_rfl,by kernel_rfl⟩,rfl⟩,rfl,by decide⟩
theorem Mg:sS prog 29 36 1 #[.slice none 0 0]:=⟨underlying29,λ _=>⟨by kernel_rfl,by kernel_rfl⟩,⟨.slice none 0 0,λ _=>⟨by kernel_rfl,by kernel_rfl⟩,rfl⟩,rfl,by decide⟩
theorem n6:sS prog 36 3 1 #[.int .i64 0]:=⟨underlying36,λ _=>⟨by kernel_rfl,by kernel_rfl⟩,⟨.int .i64 0,λ _=>⟨by kernel_rfl,by kernel_rfl⟩,rfl⟩,rfl,by decide⟩
theorem akZ:sS prog 111 116 3 #[.int .i64 0,.int .i64 0,.int .i64 0]:=⟨underlying111,λ _=>⟨by kernel_rfl,by kernel_rfl⟩,⟨.agg #[.int .i64 0,.int .i64 0,.int .i64 0],λ _=>⟨by kernel_rfl,by kernel_rfl⟩,rfl⟩,rfl,by decide⟩
theorem ak0:sS prog 157 145 16 #[.bool false,.bool false,.bool false,.bool false,.bool false,.bool false,.bool false,.bool false,.bool false,.bool false,.bool false,.bool false,.bool false,.bool false,.bool false,.bool false]:=⟨underlying157,λ _=>⟨by kernel_rfl,by kernel_rfl⟩,⟨.agg #[.bool false,.bool false,.bool false,.bool false,.bool false,.bool false,.bool false,.bool false,.bool false,.bool false,.bool false,.bool false,.bool false,.bool false,.bool false,.bool false],λ _=>⟨by kernel_rfl,by kernel_rfl⟩,rfl⟩,rfl,by decide⟩
theorem alI:bp prog 20:=⟨⟨Tryz.f20,func20,by decide +kernel,rfl⟩⟩
theorem YW:bp prog 22:=⟨⟨Tryz.f22,func22,by decide +kernel,rfl⟩⟩
theorem abw:bp prog 23:=⟨⟨Tryz.f23,func23,by decide +kernel,rfl⟩⟩
theorem abz:bp prog 25:=⟨⟨Tryz.f25,func25,by decide +kernel,rfl⟩⟩
theorem abA:bp prog 27:=⟨⟨Tryz.f27,func27,by decide +kernel,rfl⟩⟩
theorem ahr:bp prog 28:=⟨⟨Tryz.f28,func28,by decide +kernel,rfl⟩⟩
theorem RE:bp prog 30:=⟨⟨Tryz.f30,func30,by decide +kernel,rfl⟩⟩
theorem abB:bp prog 32:=⟨⟨Tryz.f32,func32,by decide +kernel,rfl⟩⟩
theorem abC:bp prog 34:=⟨⟨Tryz.f34,func34,by decide +kernel,rfl⟩⟩
theorem ame:bp prog 36:=⟨⟨Tryz.f36,func36,by decide +kernel,rfl⟩⟩
theorem amf:bp prog 38:=⟨⟨Tryz.f38,func38,by decide +kernel,rfl⟩⟩
theorem amg:bp prog 39:=⟨⟨Tryz.f39,func39,by decide +kernel,rfl⟩⟩
theorem amh:bp prog 41:=⟨⟨Tryz.f41,func41,by decide +kernel,rfl⟩⟩
theorem abD:bp prog 43:=⟨⟨Tryz.f43,func43,by decide +kernel,rfl⟩⟩
theorem ami:bp prog 45:=⟨⟨Tryz.f45,func45,by decide +kernel,rfl⟩⟩
theorem RF:bp prog 46:=⟨⟨Tryz.f46,func46,by decide +kernel,rfl⟩⟩
theorem aJf:bp prog 47:=⟨⟨Tryz.f47,func47,by decide +kernel,rfl⟩⟩
theorem Mn:bp prog 48:=⟨⟨Tryz.f48,func48,by decide +kernel,rfl⟩⟩
theorem YX:bp prog 49:=⟨⟨Tryz.f49,func49,by decide +kernel,rfl⟩⟩
theorem amj:bp prog 50:=⟨⟨Tryz.f50,func50,by decide +kernel,rfl⟩⟩
theorem amk:bp prog 52:=⟨⟨Tryz.f52,func52,by decide +kernel,rfl⟩⟩
theorem aml:bp prog 54:=⟨⟨Tryz.f54,func54,by decide +kernel,rfl⟩⟩
theorem amm:bp prog 59:=⟨⟨Tryz.f59,func59,by decide +kernel,rfl⟩⟩
theorem n7:bp prog 60:=⟨⟨Tryz.f60,func60,by decide +kernel,rfl⟩⟩
theorem amn:bp prog 66:=⟨⟨Tryz.f66,func66,by decide +kernel,rfl⟩⟩
theorem Be:bp prog 82:=⟨⟨Tryz.f82,func82,by decide +kernel,rfl⟩⟩
theorem amo:bp prog 88:=⟨⟨Tryz.f88,func88,by decide +kernel,rfl⟩⟩
theorem Mo:bp prog 89:=⟨⟨Tryz.f89,func89,by decide +kernel,rfl⟩⟩
theorem abE:bp prog 90:=⟨⟨Tryz.f90,func90,by decide +kernel,rfl⟩⟩
theorem RG:bp prog 91:=⟨⟨Tryz.f91,func91,by decide +kernel,rfl⟩⟩
theorem Mq:bp prog 92:=⟨⟨Tryz.f92,func92,by decide +kernel,rfl⟩⟩
theorem pQ:bp prog 94:=⟨⟨Tryz.f94,func94,by decide +kernel,rfl⟩⟩
theorem Mr:bp prog 95:=⟨⟨Tryz.f95,func95,by decide +kernel,rfl⟩⟩
theorem abF:bp prog 96:=⟨⟨Tryz.f96,func96,by decide +kernel,rfl⟩⟩
theorem amp:bp prog 97:=⟨⟨Tryz.f97,func97,by decide +kernel,rfl⟩⟩
theorem abi:bp prog 100:=⟨⟨Tryz.f100,func100,by decide +kernel,rfl⟩⟩
theorem abj:bp prog 102:=⟨⟨Tryz.f102,func102,by decide +kernel,rfl⟩⟩
theorem ak4:bp prog 103:=⟨⟨Tryz.f103,func103,by decide +kernel,rfl⟩⟩
theorem Mi:bp prog 104:=⟨⟨Tryz.f104,func104,by decide +kernel,rfl⟩⟩
theorem ak5:bp prog 106:=⟨⟨Tryz.f106,func106,by decide +kernel,rfl⟩⟩
theorem yZ:bp prog 107:=⟨⟨Tryz.f107,func107,by decide +kernel,rfl⟩⟩
theorem abk:bp prog 108:=⟨⟨Tryz.f108,func108,by decide +kernel,rfl⟩⟩
theorem Mj:bp prog 109:=⟨⟨Tryz.f109,func109,by decide +kernel,rfl⟩⟩
theorem ak6:bp prog 110:=⟨⟨Tryz.f110,func110,by decide +kernel,rfl⟩⟩
theorem Rt:bp prog 111:=⟨⟨Tryz.f111,func111,by decide +kernel,rfl⟩⟩
theorem ak7:bp prog 115:=⟨⟨Tryz.f115,func115,by decide +kernel,rfl⟩⟩
theorem ak8:bp prog 116:=⟨⟨Tryz.f116,func116,by decide +kernel,rfl⟩⟩
theorem Ru:bp prog 117:=⟨⟨Tryz.f117,func117,by decide +kernel,rfl⟩⟩
theorem ak9:bp prog 118:=⟨⟨Tryz.f118,func118,by decide +kernel,rfl⟩⟩
theorem Em:bp prog 121:=⟨⟨Tryz.f121,func121,by decide +kernel,rfl⟩⟩
theorem Mk:bp prog 122:=⟨⟨Tryz.f122,func122,by decide +kernel,rfl⟩⟩
theorem qz:bp prog 123:=⟨⟨Tryz.f123,func123,by decide +kernel,rfl⟩⟩
theorem jz:bp prog 124:=⟨⟨Tryz.f124,func124,by decide +kernel,rfl⟩⟩
theorem abl:bp prog 126:=⟨⟨Tryz.f126,func126,by decide +kernel,rfl⟩⟩
theorem ala:bp prog 127:=⟨⟨Tryz.f127,func127,by decide +kernel,rfl⟩⟩
theorem alb:bp prog 128:=⟨⟨Tryz.f128,func128,by decide +kernel,rfl⟩⟩
theorem abm:bp prog 129:=⟨⟨Tryz.f129,func129,by decide +kernel,rfl⟩⟩
theorem Rv:bp prog 130:=⟨⟨Tryz.f130,func130,by decide +kernel,rfl⟩⟩
theorem ald:bp prog 131:=⟨⟨Tryz.f131,func131,by decide +kernel,rfl⟩⟩
theorem abn:bp prog 132:=⟨⟨Tryz.f132,func132,by decide +kernel,rfl⟩⟩
theorem Rw:bp prog 133:=⟨⟨Tryz.f133,func133,by decide +kernel,rfl⟩⟩
theorem Rx:bp prog 134:=⟨⟨Tryz.f134,func134,by decide +kernel,rfl⟩⟩
theorem ale:bp prog 138:=⟨⟨Tryz.f138,func138,by decide +kernel,rfl⟩⟩
theorem my:bp prog 139:=⟨⟨Tryz.f139,func139,by decide +kernel,rfl⟩⟩
theorem alf:bp prog 140:=⟨⟨Tryz.f140,func140,by decide +kernel,rfl⟩⟩
theorem alg:bp prog 141:=⟨⟨Tryz.f141,func141,by decide +kernel,rfl⟩⟩
theorem alh:bp prog 142:=⟨⟨Tryz.f142,func142,by decide +kernel,rfl⟩⟩
theorem ali:bp prog 143:=⟨⟨Tryz.f143,func143,by decide +kernel,rfl⟩⟩
theorem alj:bp prog 144:=⟨⟨Tryz.f144,func144,by decide +kernel,rfl⟩⟩
theorem alk:bp prog 145:=⟨⟨Tryz.f145,func145,by decide +kernel,rfl⟩⟩
theorem alm:bp prog 146:=⟨⟨Tryz.f146,func146,by decide +kernel,rfl⟩⟩
theorem abo:bp prog 149:=⟨⟨Tryz.f149,func149,by decide +kernel,rfl⟩⟩
theorem aln:bp prog 151:=⟨⟨Tryz.f151,func151,by decide +kernel,rfl⟩⟩
theorem alo:bp prog 159:=⟨⟨Tryz.f159,func159,by decide +kernel,rfl⟩⟩
theorem alp:bp prog 160:=⟨⟨Tryz.f160,func160,by decide +kernel,rfl⟩⟩
theorem abp:bp prog 161:=⟨⟨Tryz.f161,func161,by decide +kernel,rfl⟩⟩
theorem abq:bp prog 162:=⟨⟨Tryz.f162,func162,by decide +kernel,rfl⟩⟩
theorem En:bp prog 163:=⟨⟨Tryz.f163,func163,by decide +kernel,rfl⟩⟩
theorem alq:bp prog 164:=⟨⟨Tryz.f164,func164,by decide +kernel,rfl⟩⟩
theorem alr:bp prog 165:=⟨⟨Tryz.f165,func165,by decide +kernel,rfl⟩⟩
theorem Ml:bp prog 166:=⟨⟨Tryz.f166,func166,by decide +kernel,rfl⟩⟩
theorem Ry:bp prog 167:=⟨⟨Tryz.f167,func167,by decide +kernel,rfl⟩⟩
theorem abr:bp prog 168:=⟨⟨Tryz.f168,func168,by decide +kernel,rfl⟩⟩
theorem abt:bp prog 169:=⟨⟨Tryz.f169,func169,by decide +kernel,rfl⟩⟩
theorem als:bp prog 170:=⟨⟨Tryz.f170,func170,by decide +kernel,rfl⟩⟩
theorem alu:bp prog 172:=⟨⟨Tryz.f172,func172,by decide +kernel,rfl⟩⟩
theorem alv:bp prog 173:=⟨⟨Tryz.f173,func173,by decide +kernel,rfl⟩⟩
theorem alw:bp prog 174:=⟨⟨Tryz.f174,func174,by decide +kernel,rfl⟩⟩
theorem alx:bp prog 175:=⟨⟨Tryz.f175,func175,by decide +kernel,rfl⟩⟩
theorem aly:bp prog 177:=⟨⟨Tryz.f177,func177,by decide +kernel,rfl⟩⟩
theorem alz:bp prog 178:=⟨⟨Tryz.f178,func178,by decide +kernel,rfl⟩⟩
theorem alA:bp prog 179:=⟨⟨Tryz.f179,func179,by decide +kernel,rfl⟩⟩
theorem alB:bp prog 180:=⟨⟨Tryz.f180,func180,by decide +kernel,rfl⟩⟩
theorem alC:bp prog 181:=⟨⟨Tryz.f181,func181,by decide +kernel,rfl⟩⟩
theorem alD:bp prog 182:=⟨⟨Tryz.f182,func182,by decide +kernel,rfl⟩⟩
theorem alE:bp prog 183:=⟨⟨Tryz.f183,func183,by decide +kernel,rfl⟩⟩
theorem alF:bp prog 184:=⟨⟨Tryz.f184,func184,by decide +kernel,rfl⟩⟩
theorem alG:bp prog 186:=⟨⟨Tryz.f186,func186,by decide +kernel,rfl⟩⟩
theorem alH:bp prog 187:=⟨⟨Tryz.f187,func187,by decide +kernel,rfl⟩⟩
theorem Rz:bp prog 188:=⟨⟨Tryz.f188,func188,by decide +kernel,rfl⟩⟩
theorem abu:bp prog 189:=⟨⟨Tryz.f189,func189,by decide +kernel,rfl⟩⟩
theorem alJ:bp prog 203:=⟨⟨Tryz.f203,func203,by decide +kernel,rfl⟩⟩
theorem alK:bp prog 204:=⟨⟨Tryz.f204,func204,by decide +kernel,rfl⟩⟩
theorem alL:bp prog 211:=⟨⟨Tryz.f211,func211,by decide +kernel,rfl⟩⟩
theorem abv:bp prog 212:=⟨⟨Tryz.f212,func212,by decide +kernel,rfl⟩⟩
theorem alM:bp prog 213:=⟨⟨Tryz.f213,func213,by decide +kernel,rfl⟩⟩
theorem alN:bp prog 214:=⟨⟨Tryz.f214,func214,by decide +kernel,rfl⟩⟩
theorem alO:bp prog 215:=⟨⟨Tryz.f215,func215,by decide +kernel,rfl⟩⟩
theorem alP:bp prog 216:=⟨⟨Tryz.f216,func216,by decide +kernel,rfl⟩⟩
theorem alQ:bp prog 217:=⟨⟨Tryz.f217,func217,by decide +kernel,rfl⟩⟩
theorem alR:bp prog 218:=⟨⟨Tryz.f218,func218,by decide +kernel,rfl⟩⟩
theorem alS:bp prog 219:=⟨⟨Tryz.f219,func219,by decide +kernel,rfl⟩⟩
theorem alT:bp prog 220:=⟨⟨Tryz.f220,func220,by decide +kernel,rfl⟩⟩
theorem pP:bp prog 221:=⟨⟨Tryz.f221,func221,by decide +kernel,rfl⟩⟩
theorem alU:bp prog 222:=⟨⟨Tryz.f222,func222,by decide +kernel,rfl⟩⟩
theorem alV:bp prog 223:=⟨⟨Tryz.f223,func223,by decide +kernel,rfl⟩⟩
theorem alW:bp prog 225:=⟨⟨Tryz.f225,func225,by decide +kernel,rfl⟩⟩
theorem alX:bp prog 231:=⟨⟨Tryz.f231,func231,by decide +kernel,rfl⟩⟩
theorem abx:bp prog 233:=⟨⟨Tryz.f233,func233,by decide +kernel,rfl⟩⟩
theorem Mm:bp prog 235:=⟨⟨Tryz.f235,func235,by decide +kernel,rfl⟩⟩
theorem aby:bp prog 236:=⟨⟨Tryz.f236,func236,by decide +kernel,rfl⟩⟩
theorem alY:bp prog 237:=⟨⟨Tryz.f237,func237,by decide +kernel,rfl⟩⟩
theorem alZ:bp prog 238:=⟨⟨Tryz.f238,func238,by decide +kernel,rfl⟩⟩
theorem RA:bp prog 239:=⟨⟨Tryz.f239,func239,by decide +kernel,rfl⟩⟩
theorem RB:bp prog 240:=⟨⟨Tryz.f240,func240,by decide +kernel,rfl⟩⟩
theorem RD:bp prog 248:=⟨⟨Tryz.f248,func248,by decide +kernel,rfl⟩⟩
theorem al0:bp prog 265:=⟨⟨Tryz.f265,func265,by decide +kernel,rfl⟩⟩
theorem al1:bp prog 266:=⟨⟨Tryz.f266,func266,by decide +kernel,rfl⟩⟩
theorem al2:bp prog 267:=⟨⟨Tryz.f267,func267,by decide +kernel,rfl⟩⟩
theorem al3:bp prog 268:=⟨⟨Tryz.f268,func268,by decide +kernel,rfl⟩⟩
theorem al4:bp prog 269:=⟨⟨Tryz.f269,func269,by decide +kernel,rfl⟩⟩
theorem al5:bp prog 270:=⟨⟨Tryz.f270,func270,by decide +kernel,rfl⟩⟩
theorem al6:bp prog 271:=⟨⟨Tryz.f271,func271,by decide +kernel,rfl⟩⟩
theorem al7:bp prog 272:=⟨⟨Tryz.f272,func272,by decide +kernel,rfl⟩⟩
theorem al8:bp prog 273:=⟨⟨Tryz.f273,func273,by decide +kernel,rfl⟩⟩
theorem al9:bp prog 274:=⟨⟨Tryz.f274,func274,by decide +kernel,rfl⟩⟩
theorem ama:bp prog 275:=⟨⟨Tryz.f275,func275,by decide +kernel,rfl⟩⟩
theorem amb:bp prog 276:=⟨⟨Tryz.f276,func276,by decide +kernel,rfl⟩⟩
theorem amc:bp prog 277:=⟨⟨Tryz.f277,func277,by decide +kernel,rfl⟩⟩
theorem amd:bp prog 278:=⟨⟨Tryz.f278,func278,by decide +kernel,rfl⟩⟩
end Go.Proofs.YtihapemckcdicaaGreatDoor
namespace Go.Proofs.YtihapemckcdicaaGreatDoor
open Go.Lg Go.Proofs Tryz
def Xe:Nat→Nat→Option Nat
 | 28,0=>some 0
 | 28,1=>some 1
 | 28,2=>some 2
 | 28,3=>some 3
 | 28,4=>some 4
 | 28,5=>some 5
 | 41,0=>some 0
 | 41,1=>some 1
 | 59,0=>some 0
 | 59,1=>some 1
 | 59,2=>some 2
 | 64,0=>some 0
 | 64,1=>some 1
 | 93,0=>some 0
 | 93,1=>some 1
 | 96,0=>some 0
 | 96,1=>some 1
 | 96,2=>some 2
 | 96,3=>some 3
 | 116,0=>some 0
 | 119,0=>some 0
 | 122,0=>some 0
 | 122,1=>some 6
 | 192,0=>some 0
 | 192,1=>some 1
 | 194,1=>some 0
 | 199,2=>some 0
 | 201,1=>some 0
 | 201,2=>some 1
 | _,_=>none
theorem aFy(s f n:Nat)(h:Xe s f=some n):gf prog s f n:=by
 unfold Xe at h
 split at h
 ·cases h; exact anA
 ·cases h; exact anB
 ·cases h; exact anC
 ·cases h; exact anD
 ·cases h; exact anE
 ·cases h; exact anF
 ·cases h; exact anG
 ·cases h; exact anH
 ·cases h; exact anI
 ·cases h; exact anJ
 ·cases h; exact anK
 ·cases h; exact anL
 ·cases h; exact anM
 ·cases h; exact anN
 ·cases h; exact anO
 ·cases h; exact anP
 ·cases h; exact anQ
 ·cases h; exact anR
 ·cases h; exact anS
 ·cases h; exact anp
 ·cases h; exact anq
 ·cases h; exact anr
 ·cases h; exact ans
 ·cases h; exact ant
 ·cases h; exact anu
 ·cases h; exact anv
 ·cases h; exact anw
 ·cases h; exact anx
 ·cases h; exact anz
 ·cases h
instance:mi prog:=⟨Xe,aFy⟩
end Go.Proofs.YtihapemckcdicaaGreatDoor
namespace Go.Proofs.YtihapemckcdicaaGreatDoor
open Go.Lg Go.Proofs Tryz
set_option maxRecDepth 100000
abbrev iv(z:Int):Value:=.int .i64 z
theorem xu{P:Program}{e:Nat}(h:(P.info? e).any (λ i=>decide (i.bytes≤65536))=true):∃ i,P.info? e=some i∧i.bytes≤65536:=by
 cases hi:P.info? e with
 | none=>rw [hi] at h; cases h
 | some i=>rw [hi] at h; exact ⟨i,rfl,by simpa using h⟩
structure fh where
 dU:Int
 eQ:Int
def b8:cH fh:=λ _ x es=>es=[iv x.dU,iv x.eQ]
instance:CM b8:=⟨λ hR h=>by obtain rfl:=h; exact rfl,λ h=>by obtain rfl:=h; simp [Value.oneCell']⟩
structure Reach where
 cF:Int
 dq:Int
def cb:cH Reach:=λ _ x es=>es=[iv x.cF,iv x.dq]
instance:CM cb:=⟨λ hR h=>by obtain rfl:=h; exact rfl,λ h=>by obtain rfl:=h; simp [Value.oneCell']⟩
structure fe where
 Name:ByteArray
 qo:Int
def bW:cH fe:=λ _ x es=>es=[.string x.Name,iv x.qo]
instance:CM bW:=⟨λ hR h=>by obtain rfl:=h; exact rfl,λ h=>by obtain rfl:=h; simp [Value.oneCell']⟩
structure mq where
 Place:Int
 na:Int
 mr:Int
 aD:Int
def cc:cH mq:=λ _ x es=>es=[iv x.Place,iv x.na,iv x.mr,iv x.aD]
instance:CM cc:=⟨λ hR h=>by obtain rfl:=h; exact rfl,λ h=>by obtain rfl:=h; simp [Value.oneCell']⟩
structure dD where
 Place:Int
 mT:Int
 wD:Bool
def bP:cH dD:=λ _ x es=>es=[iv x.Place,iv x.mT,.bool x.wD]
instance:CM bP:=⟨λ hR h=>by obtain rfl:=h; exact rfl,λ h=>by obtain rfl:=h; simp [Value.oneCell']⟩
structure ay where
 Rest:Int
 Rows:(List fh)
 aE:(List Reach)
 aD:(List fe)
 aT:(List mq)
 bj:(List dD)
def PY:cH ay:=λ R x es=>∃ OZ O0 O1 O2 O3,ag b8 2 R OZ x.Rows∧ag cb 2 R O0 x.aE∧ag bW 2 R O1 x.aD∧ag cc 4 R O2 x.aT∧ag bP 3 R O3 x.bj∧es=[iv x.Rest,OZ,O0,O1,O2,O3]
instance:CM PY:=⟨λ hR h=>by obtain ⟨OZ,O0,O1,O2,O3,TI,TJ,TK,TL,TM,rfl⟩:=h; exact ⟨_,_,_,_,_,TI.mono hR,TJ.mono hR,TK.mono hR,TL.mono hR,TM.mono hR,rfl⟩,λ h=>by obtain ⟨OZ,O0,O1,O2,O3,TI,TJ,TK,TL,TM,rfl⟩:=h; intro u hu; simp only [List.mem_cons,List.not_mem_nil,or_false] at hu; rcases hu with rfl | rfl | rfl | rfl | rfl | rfl <;> first | rfl | exact TI.one | exact TJ.one | exact TK.one | exact TL.one | exact TM.one⟩
structure bz where
 deep:(List Int)
def fF:cH bz:=λ _ x es=>x.deep.length=3∧es=([]++(x.deep.map (Value.int .i64)++[]))
instance:CM fF:=⟨λ hR h=>by obtain ⟨ad6,rfl⟩:=h; exact ⟨ad6,rfl⟩,λ h=>by obtain ⟨ad6,rfl⟩:=h; simp [Value.oneCell']⟩
structure cq where
 book:ay
 fb:(List bz)
theorem four{α:Type}{l:List α}(h:l.length=4):∃ a b c d,l=[a,b,c,d]:=by
 match l,h with
 | [a,b,c,d],_=>exact ⟨a,b,c,d,rfl⟩
theorem ahu:prog.eqGuardType prog.depth 41=false:=by decide +kernel
def K5(x y:Reach):Bool:=(x.cF == y.cF && (x.dq == y.dq && true))
theorem ahs(x y:Reach):ai prog (Op.equal 41 (.agg #[iv x.cF,iv x.dq]) (.agg #[iv y.cF,iv y.dq])) (K5 x y):=af3 (d:=9999) underlying41 (by decide +kernel) (.cons rfl (λ _=>⟨by kernel_rfl,by kernel_rfl⟩) (λ _=>⟨by kernel_rfl,by kernel_rfl⟩) (OY underlying3) (.cons rfl (λ _=>⟨by kernel_rfl,by kernel_rfl⟩) (λ _=>⟨by kernel_rfl,by kernel_rfl⟩) (OY underlying3) .nil))
theorem RX:prog.eqGuardType prog.depth 64=false:=by decide +kernel
def HI(x y:fh):Bool:=(x.dU == y.dU && (x.eQ == y.eQ && true))
theorem RL(x y:fh):ai prog (Op.equal 64 (.agg #[iv x.dU,iv x.eQ]) (.agg #[iv y.dU,iv y.eQ])) (HI x y):=af3 (d:=9999) underlying64 (by decide +kernel) (.cons rfl (λ _=>⟨by kernel_rfl,by kernel_rfl⟩) (λ _=>⟨by kernel_rfl,by kernel_rfl⟩) (OY underlying3) (.cons rfl (λ _=>⟨by kernel_rfl,by kernel_rfl⟩) (λ _=>⟨by kernel_rfl,by kernel_rfl⟩) (OY underlying3) .nil))
theorem an4:prog.eqGuardType prog.depth 143=false:=by decide +kernel
def RK(x y:List Bool):Bool:=x == y
theorem amu{x y:List Bool}(hx:x.length=4)(hy:y.length=4):ai prog (Op.equal 143 (.agg (List.toArray ([]++(x.map Value.bool++[])))) (.agg (List.toArray ([]++(y.map Value.bool++[]))))) (RK x y):=by
 obtain ⟨a0,a1,a2,a3,rfl⟩:=four hx
 obtain ⟨b0,b1,b2,b3,rfl⟩:=four hy
 have hw:([a0,a1,a2,a3] == [b0,b1,b2,b3])=((a0 == b0) && ((a1 == b1) && ((a2 == b2) && ((a3 == b3) && true)))):=by simp
 unfold RK
 rw [hw]
 refine aH6 (d:=9999) (n:=1) underlying143 (λ _=>⟨by kernel_rfl,by kernel_rfl⟩) ?_
 refine .cons (i:=0) (rest:=[1,2,3]) (λ _=>⟨by kernel_rfl,by kernel_rfl⟩) (λ _=>⟨by kernel_rfl,by kernel_rfl⟩) (OX underlying4) ?_
 refine .cons (i:=1) (rest:=[2,3]) (λ _=>⟨by kernel_rfl,by kernel_rfl⟩) (λ _=>⟨by kernel_rfl,by kernel_rfl⟩) (OX underlying4) ?_
 refine .cons (i:=2) (rest:=[3]) (λ _=>⟨by kernel_rfl,by kernel_rfl⟩) (λ _=>⟨by kernel_rfl,by kernel_rfl⟩) (OX underlying4) ?_
 refine .cons (i:=3) (rest:=[]) (λ _=>⟨by kernel_rfl,by kernel_rfl⟩) (λ _=>⟨by kernel_rfl,by kernel_rfl⟩) (OX underlying4) ?_
 exact .nil
theorem QB:sR prog 22 64 2:=⟨underlying22,λ _=>⟨by kernel_rfl,by kernel_rfl⟩,xu (by decide +kernel),⟨.agg #[.int .i64 0,.int .i64 0],λ _=>⟨by kernel_rfl,by kernel_rfl⟩,rfl⟩⟩
theorem ajP:sR prog 23 41 2:=⟨underlying23,λ _=>⟨by kernel_rfl,by kernel_rfl⟩,xu (by decide +kernel),⟨.agg #[.int .i64 0,.int .i64 0],λ _=>⟨by kernel_rfl,by kernel_rfl⟩,rfl⟩⟩
theorem ajQ:sR prog 24 93 2:=⟨underlying24,λ _=>⟨by kernel_rfl,by kernel_rfl⟩,xu (by decide +kernel),⟨.agg #[.string ⟨#[]⟩,.int .i64 0],λ _=>⟨by kernel_rfl,by kernel_rfl⟩,rfl⟩⟩
theorem ajR:sR prog 25 96 4:=⟨underlying25,λ _=>⟨by kernel_rfl,by kernel_rfl⟩,xu (by decide +kernel),⟨.agg #[.int .i64 0,.int .i64 0,.int .i64 0,.int .i64 0],λ _=>⟨by kernel_rfl,by kernel_rfl⟩,rfl⟩⟩
theorem yP:sR prog 26 59 3:=⟨underlying26,λ _=>⟨by kernel_rfl,by kernel_rfl⟩,xu (by decide +kernel),⟨.agg #[.int .i64 0,.int .i64 0,.bool false],λ _=>⟨by kernel_rfl,by kernel_rfl⟩,rfl⟩⟩
theorem ajS:sR prog 29 36 1:=⟨underlying29,λ _=>⟨by kernel_rfl,by kernel_rfl⟩,xu (by decide +kernel),⟨.slice none 0 0,λ _=>⟨by kernel_rfl,by kernel_rfl⟩,rfl⟩⟩
theorem QC:sR prog 36 3 1:=⟨underlying36,λ _=>⟨by kernel_rfl,by kernel_rfl⟩,xu (by decide +kernel),⟨.int .i64 0,λ _=>⟨by kernel_rfl,by kernel_rfl⟩,rfl⟩⟩
theorem ajN:sR prog 111 116 3:=⟨underlying111,λ _=>⟨by kernel_rfl,by kernel_rfl⟩,xu (by decide +kernel),⟨.agg #[.int .i64 0,.int .i64 0,.int .i64 0],λ _=>⟨by kernel_rfl,by kernel_rfl⟩,rfl⟩⟩
theorem ajO:sR prog 157 145 16:=⟨underlying157,λ _=>⟨by kernel_rfl,by kernel_rfl⟩,xu (by decide +kernel),⟨.agg #[.bool false,.bool false,.bool false,.bool false,.bool false,.bool false,.bool false,.bool false,.bool false,.bool false,.bool false,.bool false,.bool false,.bool false,.bool false,.bool false],λ _=>⟨by kernel_rfl,by kernel_rfl⟩,rfl⟩⟩
theorem aj7:(Array.range (0 * 2)).map ((#[.int .i64 0,.int .i64 0]:Array Value)[· % (#[.int .i64 0,.int .i64 0]:Array Value).size]!)=#[]:=by kernel_rfl
theorem aah:(Array.range (1 * 2)).map ((#[.int .i64 0,.int .i64 0]:Array Value)[· % (#[.int .i64 0,.int .i64 0]:Array Value).size]!)=#[.int .i64 0,.int .i64 0]:=by kernel_rfl
theorem aj8:(Array.range (2 * 2)).map ((#[.int .i64 0,.int .i64 0]:Array Value)[· % (#[.int .i64 0,.int .i64 0]:Array Value).size]!)=#[.int .i64 0,.int .i64 0,.int .i64 0,.int .i64 0]:=by kernel_rfl
theorem aj9:(Array.range (0 * 2)).map ((#[.int .i64 0,.int .i64 0]:Array Value)[· % (#[.int .i64 0,.int .i64 0]:Array Value).size]!)=#[]:=by kernel_rfl
theorem aka:(Array.range (2 * 2)).map ((#[.int .i64 0,.int .i64 0]:Array Value)[· % (#[.int .i64 0,.int .i64 0]:Array Value).size]!)=#[.int .i64 0,.int .i64 0,.int .i64 0,.int .i64 0]:=by kernel_rfl
theorem akb:(Array.range (0 * 2)).map ((#[.string ⟨#[]⟩,.int .i64 0]:Array Value)[· % (#[.string ⟨#[]⟩,.int .i64 0]:Array Value).size]!)=#[]:=by kernel_rfl
theorem akc:(Array.range (2 * 2)).map ((#[.string ⟨#[]⟩,.int .i64 0]:Array Value)[· % (#[.string ⟨#[]⟩,.int .i64 0]:Array Value).size]!)=#[.string ⟨#[]⟩,.int .i64 0,.string ⟨#[]⟩,.int .i64 0]:=by kernel_rfl
theorem akd:(Array.range (0 * 4)).map ((#[.int .i64 0,.int .i64 0,.int .i64 0,.int .i64 0]:Array Value)[· % (#[.int .i64 0,.int .i64 0,.int .i64 0,.int .i64 0]:Array Value).size]!)=#[]:=by kernel_rfl
theorem ake:(Array.range (3 * 4)).map ((#[.int .i64 0,.int .i64 0,.int .i64 0,.int .i64 0]:Array Value)[· % (#[.int .i64 0,.int .i64 0,.int .i64 0,.int .i64 0]:Array Value).size]!)=#[.int .i64 0,.int .i64 0,.int .i64 0,.int .i64 0,.int .i64 0,.int .i64 0,.int .i64 0,.int .i64 0,.int .i64 0,.int .i64 0,.int .i64 0,.int .i64 0]:=by kernel_rfl
theorem QP:(Array.range (0 * 3)).map ((#[.int .i64 0,.int .i64 0,.bool false]:Array Value)[· % (#[.int .i64 0,.int .i64 0,.bool false]:Array Value).size]!)=#[]:=by kernel_rfl
theorem LV:(Array.range (1 * 3)).map ((#[.int .i64 0,.int .i64 0,.bool false]:Array Value)[· % (#[.int .i64 0,.int .i64 0,.bool false]:Array Value).size]!)=#[.int .i64 0,.int .i64 0,.bool false]:=by kernel_rfl
theorem akf:(Array.range (1 * 1)).map ((#[.slice none 0 0]:Array Value)[· % (#[.slice none 0 0]:Array Value).size]!)=#[.slice none 0 0]:=by kernel_rfl
theorem QQ:(Array.range (3 * 1)).map ((#[.slice none 0 0]:Array Value)[· % (#[.slice none 0 0]:Array Value).size]!)=#[.slice none 0 0,.slice none 0 0,.slice none 0 0]:=by kernel_rfl
theorem s7:(Array.range (1 * 1)).map ((#[.int .i64 0]:Array Value)[· % (#[.int .i64 0]:Array Value).size]!)=#[.int .i64 0]:=by kernel_rfl
theorem Hr:(Array.range (2 * 1)).map ((#[.int .i64 0]:Array Value)[· % (#[.int .i64 0]:Array Value).size]!)=#[.int .i64 0,.int .i64 0]:=by kernel_rfl
theorem aj5:(Array.range (1 * 3)).map ((#[.int .i64 0,.int .i64 0,.int .i64 0]:Array Value)[· % (#[.int .i64 0,.int .i64 0,.int .i64 0]:Array Value).size]!)=#[.int .i64 0,.int .i64 0,.int .i64 0]:=by kernel_rfl
theorem aj6:(Array.range (1 * 16)).map ((#[.bool false,.bool false,.bool false,.bool false,.bool false,.bool false,.bool false,.bool false,.bool false,.bool false,.bool false,.bool false,.bool false,.bool false,.bool false,.bool false]:Array Value)[· % (#[.bool false,.bool false,.bool false,.bool false,.bool false,.bool false,.bool false,.bool false,.bool false,.bool false,.bool false,.bool false,.bool false,.bool false,.bool false,.bool false]:Array Value).size]!)=#[.bool false,.bool false,.bool false,.bool false,.bool false,.bool false,.bool false,.bool false,.bool false,.bool false,.bool false,.bool false,.bool false,.bool false,.bool false,.bool false]:=by kernel_rfl
theorem W6:LG prog 206 3 3:=⟨underlying206,underlying3,λ e a=>λ _=>⟨by kernel_rfl,by kernel_rfl⟩,λ _=>⟨by kernel_rfl,by kernel_rfl⟩⟩
abbrev jd(R:ax):Prop:=aH R [] 0 0 [.func (.func 265) #[] #[],.func (.func 266) #[] #[],.func (.func 267) #[] #[],.func (.func 268) #[] #[],.func (.func 269) #[] #[],.func (.func 270) #[] #[]]
theorem jd.mono{R R':ax}(h:jd R)(hR:aQ R R'):jd R':=aH.up (H:=[]) h hR
theorem jd.any{R:ax}{H:aj}(h:jd R):aH R H 0 0 [.func (.func 265) #[] #[],.func (.func 266) #[] #[],.func (.func 267) #[] #[],.func (.func 268) #[] #[],.func (.func 269) #[] #[],.func (.func 270) #[] #[]]:=aH.any h
theorem mixed:prog.follows .mixedOrders=true:=by kernel_rfl
end Go.Proofs.YtihapemckcdicaaGreatDoor
