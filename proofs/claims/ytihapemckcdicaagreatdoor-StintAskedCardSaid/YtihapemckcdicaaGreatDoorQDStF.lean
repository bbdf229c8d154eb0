/- Closed facts on the program; the structs of the models. Conditions: none. -/
import Derived.Test.YtihapemckcdicaaGreatDoorQDLgC
import Derived.Test.YtihapemckcdicaaGreatDoorQDLgE
import Derived.Test.YtihapemckcdicaaGreatDoorProg
import Derived.KernelRfl
namespace Go.Proofs.YtihapemckcdicaaGreatDoor
open Go.Lg Go.Proofs Tryz
theorem bq:gB prog 3:=⟨λ _=>⟨by kernel_rfl,by kernel_rfl⟩,λ _=>⟨by kernel_rfl,by kernel_rfl⟩⟩
theorem ff:gB prog 4:=⟨λ _=>⟨by kernel_rfl,by kernel_rfl⟩,λ _=>⟨by kernel_rfl,by kernel_rfl⟩⟩
theorem Bc:gB prog 9:=⟨λ _=>⟨by kernel_rfl,by kernel_rfl⟩,λ _=>⟨by kernel_rfl,by kernel_rfl⟩⟩
theorem DL:gB prog 21:=⟨λ _=>⟨by kernel_rfl,by kernel_rfl⟩,λ _=>⟨by kernel_rfl,by kernel_rfl⟩⟩
theorem ll:gB prog 22:=⟨λ _=>⟨by kernel_rfl,by kernel_rfl⟩,λ _=>⟨by kernel_rfl,by kernel_rfl⟩⟩
theorem ln:gB prog 23:=⟨λ _=>⟨by kernel_rfl,by kernel_rfl⟩,λ _=>⟨by kernel_rfl,by kernel_rfl⟩⟩
theorem kQ:gB prog 24:=⟨λ _=>⟨by kernel_rfl,by kernel_rfl⟩,λ _=>⟨by kernel_rfl,by kernel_rfl⟩⟩
theorem iB:gB prog 25:=⟨λ _=>⟨by kernel_rfl,by kernel_rfl⟩,λ _=>⟨by kernel_rfl,by kernel_rfl⟩⟩
theorem jW:gB prog 26:=⟨λ _=>⟨by kernel_rfl,by kernel_rfl⟩,λ _=>⟨by kernel_rfl,by kernel_rfl⟩⟩
theorem Bb:gB prog 29:=⟨λ _=>⟨by kernel_rfl,by kernel_rfl⟩,λ _=>⟨by kernel_rfl,by kernel_rfl⟩⟩
theorem mg:gB prog 33:=⟨λ _=>⟨by kernel_rfl,by kernel_rfl⟩,λ _=>⟨by kernel_rfl,by kernel_rfl⟩⟩
theorem Tx:gB prog 36:=⟨λ _=>⟨by kernel_rfl,by kernel_rfl⟩,λ _=>⟨by kernel_rfl,by kernel_rfl⟩⟩
theorem qh:gB prog 111:=⟨λ _=>⟨by kernel_rfl,by kernel_rfl⟩,λ _=>⟨by kernel_rfl,by kernel_rfl⟩⟩
theorem DK:gB prog 125:=⟨λ _=>⟨by kernel_rfl,by kernel_rfl⟩,λ _=>⟨by kernel_rfl,by kernel_rfl⟩⟩
theorem avx:gB prog 140:=⟨λ _=>⟨by kernel_rfl,by kernel_rfl⟩,λ _=>⟨by kernel_rfl,by kernel_rfl⟩⟩
theorem LA:gB prog 148:=⟨λ _=>⟨by kernel_rfl,by kernel_rfl⟩,λ _=>⟨by kernel_rfl,by kernel_rfl⟩⟩
theorem Tu:gB prog 157:=⟨λ _=>⟨by kernel_rfl,by kernel_rfl⟩,λ _=>⟨by kernel_rfl,by kernel_rfl⟩⟩
theorem Tv:gB prog 166:=⟨λ _=>⟨by kernel_rfl,by kernel_rfl⟩,λ _=>⟨by kernel_rfl,by kernel_rfl⟩⟩
theorem avy:gB prog 186:=⟨λ _=>⟨by kernel_rfl,by kernel_rfl⟩,λ _=>⟨by kernel_rfl,by kernel_rfl⟩⟩
theorem Tw:gB prog 187:=⟨λ _=>⟨by kernel_rfl,by kernel_rfl⟩,λ _=>⟨by kernel_rfl,by kernel_rfl⟩⟩
theorem bF:mB prog 28 6:=⟨λ _=>⟨by kernel_rfl,by kernel_rfl⟩,λ _=>⟨by kernel_rfl,by kernel_rfl⟩⟩
theorem ob:mB prog 41 2:=⟨λ _=>⟨by kernel_rfl,by kernel_rfl⟩,λ _=>⟨by kernel_rfl,by kernel_rfl⟩⟩
theorem xI:mB prog 59 3:=⟨λ _=>⟨by kernel_rfl,by kernel_rfl⟩,λ _=>⟨by kernel_rfl,by kernel_rfl⟩⟩
theorem qF:mB prog 64 2:=⟨λ _=>⟨by kernel_rfl,by kernel_rfl⟩,λ _=>⟨by kernel_rfl,by kernel_rfl⟩⟩
theorem NV:mB prog 93 2:=⟨λ _=>⟨by kernel_rfl,by kernel_rfl⟩,λ _=>⟨by kernel_rfl,by kernel_rfl⟩⟩
theorem lx:mB prog 96 4:=⟨λ _=>⟨by kernel_rfl,by kernel_rfl⟩,λ _=>⟨by kernel_rfl,by kernel_rfl⟩⟩
theorem kW:mB prog 116 3:=⟨λ _=>⟨by kernel_rfl,by kernel_rfl⟩,λ _=>⟨by kernel_rfl,by kernel_rfl⟩⟩
theorem gj:mB prog 119 6:=⟨λ _=>⟨by kernel_rfl,by kernel_rfl⟩,λ _=>⟨by kernel_rfl,by kernel_rfl⟩⟩
theorem dB:mB prog 122 7:=⟨λ _=>⟨by kernel_rfl,by kernel_rfl⟩,λ _=>⟨by kernel_rfl,by kernel_rfl⟩⟩
theorem eV:mB prog 143 4:=⟨λ _=>⟨by kernel_rfl,by kernel_rfl⟩,λ _=>⟨by kernel_rfl,by kernel_rfl⟩⟩
theorem cI:mB prog 145 16:=⟨λ _=>⟨by kernel_rfl,by kernel_rfl⟩,λ _=>⟨by kernel_rfl,by kernel_rfl⟩⟩
theorem afA:mB prog 180 6:=⟨λ _=>⟨by kernel_rfl,by kernel_rfl⟩,λ _=>⟨by kernel_rfl,by kernel_rfl⟩⟩
theorem En:iK prog 3 #[.int .i64 0]:=⟨.int .i64 0,λ _=>⟨by kernel_rfl,by kernel_rfl⟩,rfl⟩
theorem MX:iK prog 4 #[.bool false]:=⟨.bool false,λ _=>⟨by kernel_rfl,by kernel_rfl⟩,rfl⟩
theorem xh:iK prog 28 #[.int .i64 0,.slice none 0 0,.slice none 0 0,.slice none 0 0,.slice none 0 0,.slice none 0 0]:=⟨.agg #[.int .i64 0,.slice none 0 0,.slice none 0 0,.slice none 0 0,.slice none 0 0,.slice none 0 0],λ _=>⟨by kernel_rfl,by kernel_rfl⟩,rfl⟩
theorem ayO:iK prog 29 #[.slice none 0 0]:=⟨.slice none 0 0,λ _=>⟨by kernel_rfl,by kernel_rfl⟩,rfl⟩
theorem ada:iK prog 33 #[.int .i64 0]:=⟨.int .i64 0,λ _=>⟨by kernel_rfl,by kernel_rfl⟩,rfl⟩
theorem Ix:iK prog 41 #[.int .i64 0,.int .i64 0]:=⟨.agg #[.int .i64 0,.int .i64 0],λ _=>⟨by kernel_rfl,by kernel_rfl⟩,rfl⟩
theorem adb:iK prog 59 #[.int .i64 0,.int .i64 0,.bool false]:=⟨.agg #[.int .i64 0,.int .i64 0,.bool false],λ _=>⟨by kernel_rfl,by kernel_rfl⟩,rfl⟩
theorem MY:iK prog 64 #[.int .i64 0,.int .i64 0]:=⟨.agg #[.int .i64 0,.int .i64 0],λ _=>⟨by kernel_rfl,by kernel_rfl⟩,rfl⟩
theorem ayP:iK prog 93 #[.string ⟨#[]⟩,.int .i64 0]:=⟨.agg #[.string ⟨#[]⟩,.int .i64 0],λ _=>⟨by kernel_rfl,by kernel_rfl⟩,rfl⟩
theorem rI:iK prog 96 #[.int .i64 0,.int .i64 0,.int .i64 0,.int .i64 0]:=⟨.agg #[.int .i64 0,.int .i64 0,.int .i64 0,.int .i64 0],λ _=>⟨by kernel_rfl,by kernel_rfl⟩,rfl⟩
theorem y5:iK prog 116 #[.int .i64 0,.int .i64 0,.int .i64 0]:=⟨.agg #[.int .i64 0,.int .i64 0,.int .i64 0],λ _=>⟨by kernel_rfl,by kernel_rfl⟩,rfl⟩
theorem ac9:iK prog 119 #[.int .i64 0,.slice none 0 0,.slice none 0 0,.slice none 0 0,.slice none 0 0,.slice none 0 0]:=⟨.agg #[.int .i64 0,.slice none 0 0,.slice none 0 0,.slice none 0 0,.slice none 0 0,.slice none 0 0],λ _=>⟨by kernel_rfl,by kernel_rfl⟩,rfl⟩
theorem mK:iK prog 122 #[.int .i64 0,.slice none 0 0,.slice none 0 0,.slice none 0 0,.slice none 0 0,.slice none 0 0,.slice none 0 0]:=⟨.agg #[.int .i64 0,.slice none 0 0,.slice none 0 0,.slice none 0 0,.slice none 0 0,.slice none 0 0,.slice none 0 0],λ _=>⟨by kernel_rfl,by kernel_rfl⟩,rfl⟩
theorem kI:iK prog 143 #[.bool false,.bool false,.bool false,.bool false]:=⟨.agg #[.bool false,.bool false,.bool false,.bool false],λ _=>⟨by kernel_rfl,by kernel_rfl⟩,rfl⟩
theorem gJ:iK prog 145 #[.bool false,.bool false,.bool false,.bool false,.bool false,.bool false,.bool false,.bool false,.bool false,.bool false,.bool false,.bool false,.bool false,.bool false,.bool false,.bool false]:=⟨.agg #[.bool false,.bool false,.bool false,.bool false,.bool false,.bool false,.bool false,.bool false,.bool false,.bool false,.bool false,.bool false,.bool false,.bool false,.bool false,.bool false],λ _=>⟨by kernel_rfl,by kernel_rfl⟩,rfl⟩
theorem ayJ:iK prog 148 #[.nilFunc]:=⟨.nilFunc,λ _=>⟨by kernel_rfl,by kernel_rfl⟩,rfl⟩
theorem ayK:iK prog 166 #[.nilFunc]:=⟨.nilFunc,λ _=>⟨by kernel_rfl,by kernel_rfl⟩,rfl⟩
theorem ayL:iK prog 187 #[.nilFunc]:=⟨.nilFunc,λ _=>⟨by kernel_rfl,by kernel_rfl⟩,rfl⟩
theorem ayM:iK prog 194 #[.int .i32 0,.int .u32 0]:=⟨.agg #[.int .i32 0,.int .u32 0],λ _=>⟨by kernel_rfl,by kernel_rfl⟩,rfl⟩
theorem ayN:iK prog 201 #[.int .u64 0,.int .u32 0]:=⟨.agg #[.int .u64 0,.int .u32 0],λ _=>⟨by kernel_rfl,by kernel_rfl⟩,rfl⟩
theorem ajd:fU prog 28 0 0:=λ _ _ _=>⟨by kernel_rfl,by kernel_rfl⟩
theorem aje:fU prog 28 1 1:=λ _ _ _=>⟨by kernel_rfl,by kernel_rfl⟩
theorem ajf:fU prog 28 2 2:=λ _ _ _=>⟨by kernel_rfl,by kernel_rfl⟩
theorem ajg:fU prog 28 3 3:=λ _ _ _=>⟨by kernel_rfl,by kernel_rfl⟩
theorem ajh:fU prog 28 4 4:=λ _ _ _=>⟨by kernel_rfl,by kernel_rfl⟩
theorem aji:fU prog 28 5 5:=λ _ _ _=>⟨by kernel_rfl,by kernel_rfl⟩
theorem ajj:fU prog 41 0 0:=λ _ _ _=>⟨by kernel_rfl,by kernel_rfl⟩
theorem ajk:fU prog 41 1 1:=λ _ _ _=>⟨by kernel_rfl,by kernel_rfl⟩
theorem ajl:fU prog 59 0 0:=λ _ _ _=>⟨by kernel_rfl,by kernel_rfl⟩
theorem ajm:fU prog 59 1 1:=λ _ _ _=>⟨by kernel_rfl,by kernel_rfl⟩
theorem ajn:fU prog 59 2 2:=λ _ _ _=>⟨by kernel_rfl,by kernel_rfl⟩
theorem ajo:fU prog 64 0 0:=λ _ _ _=>⟨by kernel_rfl,by kernel_rfl⟩
theorem ajp:fU prog 64 1 1:=λ _ _ _=>⟨by kernel_rfl,by kernel_rfl⟩
theorem ajq:fU prog 93 0 0:=λ _ _ _=>⟨by kernel_rfl,by kernel_rfl⟩
theorem ajr:fU prog 93 1 1:=λ _ _ _=>⟨by kernel_rfl,by kernel_rfl⟩
theorem ajs:fU prog 96 0 0:=λ _ _ _=>⟨by kernel_rfl,by kernel_rfl⟩
theorem ajt:fU prog 96 1 1:=λ _ _ _=>⟨by kernel_rfl,by kernel_rfl⟩
theorem aju:fU prog 96 2 2:=λ _ _ _=>⟨by kernel_rfl,by kernel_rfl⟩
theorem ajv:fU prog 96 3 3:=λ _ _ _=>⟨by kernel_rfl,by kernel_rfl⟩
theorem ai3:fU prog 116 0 0:=λ _ _ _=>⟨by kernel_rfl,by kernel_rfl⟩
theorem ai4:fU prog 119 0 0:=λ _ _ _=>⟨by kernel_rfl,by kernel_rfl⟩
theorem ai5:fU prog 122 0 0:=λ _ _ _=>⟨by kernel_rfl,by kernel_rfl⟩
theorem ai6:fU prog 122 1 6:=λ _ _ _=>⟨by kernel_rfl,by kernel_rfl⟩
theorem ai7:fU prog 192 0 0:=λ _ _ _=>⟨by kernel_rfl,by kernel_rfl⟩
theorem ai8:fU prog 192 1 1:=λ _ _ _=>⟨by kernel_rfl,by kernel_rfl⟩
theorem ai9:fU prog 194 1 0:=λ _ _ _=>⟨by kernel_rfl,by kernel_rfl⟩
theorem aja:fU prog 199 2 0:=λ _ _ _=>⟨by kernel_rfl,by kernel_rfl⟩
theorem ajb:fU prog 201 1 0:=λ _ _ _=>⟨by kernel_rfl,by kernel_rfl⟩
theorem ajc:fU prog 201 2 1:=λ _ _ _=>⟨by kernel_rfl,by kernel_rfl⟩
theorem oM:lV prog 22 64 2:=⟨underlying22,λ _=>⟨by kernel_rfl,by kernel_rfl⟩⟩
theorem D9:lV prog 23 41 2:=⟨underlying23,λ _=>⟨by kernel_rfl,by kernel_rfl⟩⟩
theorem uS:lV prog 24 93 2:=⟨underlying24,λ _=>⟨by kernel_rfl,by kernel_rfl⟩⟩
theorem uT:lV prog 25 96 4:=⟨underlying25,λ _=>⟨by kernel_rfl,by kernel_rfl⟩⟩
theorem Bn:lV prog 26 59 3:=⟨underlying26,λ _=>⟨by kernel_rfl,by kernel_rfl⟩⟩
theorem TZ:lV prog 29 36 1:=⟨underlying29,λ _=>⟨by kernel_rfl,by kernel_rfl⟩⟩
theorem fj:lV prog 36 3 1:=⟨underlying36,λ _=>⟨by kernel_rfl,by kernel_rfl⟩⟩
theorem abq:lV prog 111 116 3:=⟨underlying111,λ _=>⟨by kernel_rfl,by kernel_rfl⟩⟩
theorem TY:lV prog 157 145 16:=⟨underlying157,λ _=>⟨by kernel_rfl,by kernel_rfl⟩⟩
theorem zD:rK prog 114 3 3 1:=⟨underlying114,λ _=>⟨by kernel_rfl,by kernel_rfl⟩⟩
theorem pL:rK prog 143 4 4 1:=⟨underlying143,λ _=>⟨by kernel_rfl,by kernel_rfl⟩⟩
theorem tC:rK prog 145 4 143 4:=⟨underlying145,λ _=>⟨by kernel_rfl,by kernel_rfl⟩⟩
theorem Cc:rK prog 180 6 125 1:=⟨underlying180,λ _=>⟨by kernel_rfl,by kernel_rfl⟩⟩
theorem Ih:tA prog 28 [(0,1),(1,1),(2,1),(3,1),(4,1),(5,1)] #[.int .i64 0,.slice none 0 0,.slice none 0 0,.slice none 0 0,.slice none 0 0,.slice none 0 0]:=⟨⟨.agg #[.int .i64 0,.slice none 0 0,.slice none 0 0,.slice none 0 0,.slice none 0 0,.slice none 0 0],λ _=>⟨by kernel_rfl,by kernel_rfl⟩,rfl⟩,_,underlying28,λ _=>⟨by kernel_rfl,by kernel_rfl⟩⟩
theorem L3:tA prog 41 [(0,1),(1,1)] #[.int .i64 0,.int .i64 0]:=⟨⟨.agg #[.int .i64 0,.int .i64 0],λ _=>⟨by kernel_rfl,by kernel_rfl⟩,rfl⟩,_,underlying41,λ _=>⟨by kernel_rfl,by kernel_rfl⟩⟩
theorem L4:tA prog 59 [(0,1),(1,1),(2,1)] #[.int .i64 0,.int .i64 0,.bool false]:=⟨⟨.agg #[.int .i64 0,.int .i64 0,.bool false],λ _=>⟨by kernel_rfl,by kernel_rfl⟩,rfl⟩,_,underlying59,λ _=>⟨by kernel_rfl,by kernel_rfl⟩⟩
theorem Ea:tA prog 64 [(0,1),(1,1)] #[.int .i64 0,.int .i64 0]:=⟨⟨.agg #[.int .i64 0,.int .i64 0],λ _=>⟨by kernel_rfl,by kernel_rfl⟩,rfl⟩,_,underlying64,λ _=>⟨by kernel_rfl,by kernel_rfl⟩⟩
theorem abH:tA prog 93 [(0,1),(1,1)] #[.string ⟨#[]⟩,.int .i64 0]:=⟨⟨.agg #[.string ⟨#[]⟩,.int .i64 0],λ _=>⟨by kernel_rfl,by kernel_rfl⟩,rfl⟩,_,underlying93,λ _=>⟨by kernel_rfl,by kernel_rfl⟩⟩
theorem T8:tA prog 96 [(0,1),(1,1),(2,1),(3,1)] #[.int .i64 0,.int .i64 0,.int .i64 0,.int .i64 0]:=⟨⟨.agg #[.int .i64 0,.int .i64 0,.int .i64 0,.int .i64 0],λ _=>⟨by kernel_rfl,by kernel_rfl⟩,rfl⟩,_,underlying96,λ _=>⟨by kernel_rfl,by kernel_rfl⟩⟩
theorem pz:tA prog 119 [(0,6)] #[.int .i64 0,.slice none 0 0,.slice none 0 0,.slice none 0 0,.slice none 0 0,.slice none 0 0]:=⟨⟨.agg #[.int .i64 0,.slice none 0 0,.slice none 0 0,.slice none 0 0,.slice none 0 0,.slice none 0 0],λ _=>⟨by kernel_rfl,by kernel_rfl⟩,rfl⟩,_,underlying119,λ _=>⟨by kernel_rfl,by kernel_rfl⟩⟩
theorem yU:tA prog 122 [(0,6),(6,1)] #[.int .i64 0,.slice none 0 0,.slice none 0 0,.slice none 0 0,.slice none 0 0,.slice none 0 0,.slice none 0 0]:=⟨⟨.agg #[.int .i64 0,.slice none 0 0,.slice none 0 0,.slice none 0 0,.slice none 0 0,.slice none 0 0,.slice none 0 0],λ _=>⟨by kernel_rfl,by kernel_rfl⟩,rfl⟩,_,underlying122,λ _=>⟨by kernel_rfl,by kernel_rfl⟩⟩
theorem Jk:VD prog 145 #[.bool false,.bool false,.bool false,.bool false,.bool false,.bool false,.bool false,.bool false,.bool false,.bool false,.bool false,.bool false,.bool false,.bool false,.bool false,.bool false]:=⟨⟨.agg #[.bool false,.bool false,.bool false,.bool false,.bool false,.bool false,.bool false,.bool false,.bool false,.bool false,.bool false,.bool false,.bool false,.bool false,.bool false,.bool false],λ _=>⟨by kernel_rfl,by kernel_rfl⟩,rfl⟩,_,_,4,underlying145,λ _=>⟨by kernel_rfl,by kernel_rfl⟩⟩
theorem TW:ah prog (sizeOf 3) 1:=λ _=>⟨by kernel_rfl,by kernel_rfl⟩
theorem JM:rM prog 22 64 2 #[.int .i64 0,.int .i64 0]:=⟨underlying22,λ _=>⟨by kernel_rfl,by kernel_rfl⟩,⟨.agg #[.int .i64 0,.int .i64 0],λ _=>⟨by kernel_rfl,by kernel_rfl⟩,rfl⟩,rfl,by decide⟩
theorem XJ:rM prog 23 41 2 #[.int .i64 0,.int .i64 0]:=⟨underlying23,λ _=>⟨by kernel_rfl,by kernel_rfl⟩,⟨.agg #[.int .i64 0,.int .i64 0],λ _=>⟨by kernel_rfl,by kernel_rfl⟩,rfl⟩,rfl,by decide⟩
theorem XK:rM prog 24 93 2 #[.string ⟨#[]⟩,.int .i64 0]:=⟨underlying24,λ _=>⟨by kernel_rfl,by kernel_rfl⟩,⟨.agg #[.string ⟨#[]⟩,.int .i64 0],λ _=>⟨by kernel_rfl,by kernel_rfl⟩,rfl⟩,rfl,by decide⟩
theorem XL:rM prog 25 96 4 #[.int .i64 0,.int .i64 0,.int .i64 0,.int .i64 0]:=⟨underlying25,λ _=>⟨by kernel_rfl,by kernel_rfl⟩,⟨.agg #[.int .i64 0,.int .i64 0,.int .i64 0,.int .i64 0],λ _=>⟨by kernel_rfl,by kernel_rfl⟩,rfl⟩,rfl,by decide⟩
theorem xR:rM prog 26 59 3 #[.int .i64 0,.int .i64 0,.bool false]:=⟨underlying26,λ _=>⟨by kernel_rfl,by kernel_rfl⟩,⟨.agg #[.int .i64 0,.int .i64 0,.bool false],λ _=>⟨by kernel_rfl,by kernel_rfl⟩,rfl⟩,rfl,by decide⟩
theorem JN:rM prog 29 36 1 #[.slice none 0 0]:=⟨underlying29,λ _=>⟨by kernel_rfl,by kernel_rfl⟩,⟨.slice none 0 0,λ _=>⟨by kernel_rfl,by kernel_rfl⟩,rfl⟩,rfl,by decide⟩
theorem mM:rM prog 36 3 1 #[.int .i64 0]:=⟨underlying36,λ _=>⟨by kernel_rfl,by kernel_rfl⟩,⟨.int .i64 0,λ _=>⟨by kernel_rfl,by kernel_rfl⟩,rfl⟩,rfl,by decide⟩
theorem agJ:rM prog 111 116 3 #[.int .i64 0,.int .i64 0,.int .i64 0]:=⟨underlying111,λ _=>⟨by kernel_rfl,by kernel_rfl⟩,⟨.agg #[.int .i64 0,.int .i64 0,.int .i64 0],λ _=>⟨by kernel_rfl,by kernel_rfl⟩,rfl⟩,rfl,by decide⟩
theorem agK:rM prog 157 145 16 #[.bool false,.bool false,.bool false,.bool false,.bool false,.bool false,.bool false,.bool false,.bool false,.bool false,.bool false,.bool false,.bool false,.bool false,.bool false,.bool false]:=⟨underlying157,λ _=>⟨by kernel_rfl,by kernel_rfl⟩,⟨.agg #[.bool false,.bool false,.bool false,.bool false,.bool false,.bool false,.bool false,.bool false,.bool false,.bool false,.bool false,.bool false,.bool false,.bool false,.bool false,.bool false],λ _=>⟨by kernel_rfl,by kernel_rfl⟩,rfl⟩,rfl,by decide⟩
theorem adR:bj prog 20:=⟨⟨Tryz.f20,func20,by decide +kernel,rfl⟩⟩
theorem Nf:bj prog 22:=⟨⟨Tryz.f22,func22,by decide +kernel,rfl⟩⟩
theorem Iz:bj prog 23:=⟨⟨Tryz.f23,func23,by decide +kernel,rfl⟩⟩
theorem ahH:bj prog 25:=⟨⟨Tryz.f25,func25,by decide +kernel,rfl⟩⟩
theorem X0:bj prog 27:=⟨⟨Tryz.f27,func27,by decide +kernel,rfl⟩⟩
theorem ahW:bj prog 28:=⟨⟨Tryz.f28,func28,by decide +kernel,rfl⟩⟩
theorem OY:bj prog 30:=⟨⟨Tryz.f30,func30,by decide +kernel,rfl⟩⟩
theorem X1:bj prog 32:=⟨⟨Tryz.f32,func32,by decide +kernel,rfl⟩⟩
theorem X2:bj prog 34:=⟨⟨Tryz.f34,func34,by decide +kernel,rfl⟩⟩
theorem ahX:bj prog 36:=⟨⟨Tryz.f36,func36,by decide +kernel,rfl⟩⟩
theorem ahY:bj prog 38:=⟨⟨Tryz.f38,func38,by decide +kernel,rfl⟩⟩
theorem ahZ:bj prog 39:=⟨⟨Tryz.f39,func39,by decide +kernel,rfl⟩⟩
theorem ah0:bj prog 41:=⟨⟨Tryz.f41,func41,by decide +kernel,rfl⟩⟩
theorem X3:bj prog 43:=⟨⟨Tryz.f43,func43,by decide +kernel,rfl⟩⟩
theorem ayT:bj prog 45:=⟨⟨Tryz.f45,func45,by decide +kernel,rfl⟩⟩
theorem JW:bj prog 46:=⟨⟨Tryz.f46,func46,by decide +kernel,rfl⟩⟩
theorem U8:bj prog 48:=⟨⟨Tryz.f48,func48,by decide +kernel,rfl⟩⟩
theorem X4:bj prog 49:=⟨⟨Tryz.f49,func49,by decide +kernel,rfl⟩⟩
theorem ah1:bj prog 50:=⟨⟨Tryz.f50,func50,by decide +kernel,rfl⟩⟩
theorem II:bj prog 52:=⟨⟨Tryz.f52,func52,by decide +kernel,rfl⟩⟩
theorem adS:bj prog 54:=⟨⟨Tryz.f54,func54,by decide +kernel,rfl⟩⟩
theorem azr:bj prog 55:=⟨⟨Tryz.f55,func55,by decide +kernel,rfl⟩⟩
theorem ah2:bj prog 56:=⟨⟨Tryz.f56,func56,by decide +kernel,rfl⟩⟩
theorem azs:bj prog 57:=⟨⟨Tryz.f57,func57,by decide +kernel,rfl⟩⟩
theorem azt:bj prog 58:=⟨⟨Tryz.f58,func58,by decide +kernel,rfl⟩⟩
theorem adT:bj prog 59:=⟨⟨Tryz.f59,func59,by decide +kernel,rfl⟩⟩
theorem kT:bj prog 60:=⟨⟨Tryz.f60,func60,by decide +kernel,rfl⟩⟩
theorem ayU:bj prog 61:=⟨⟨Tryz.f61,func61,by decide +kernel,rfl⟩⟩
theorem adU:bj prog 66:=⟨⟨Tryz.f66,func66,by decide +kernel,rfl⟩⟩
theorem azu:bj prog 78:=⟨⟨Tryz.f78,func78,by decide +kernel,rfl⟩⟩
theorem azv:bj prog 79:=⟨⟨Tryz.f79,func79,by decide +kernel,rfl⟩⟩
theorem azw:bj prog 80:=⟨⟨Tryz.f80,func80,by decide +kernel,rfl⟩⟩
theorem azx:bj prog 81:=⟨⟨Tryz.f81,func81,by decide +kernel,rfl⟩⟩
theorem xp:bj prog 82:=⟨⟨Tryz.f82,func82,by decide +kernel,rfl⟩⟩
theorem ah3:bj prog 88:=⟨⟨Tryz.f88,func88,by decide +kernel,rfl⟩⟩
theorem JX:bj prog 89:=⟨⟨Tryz.f89,func89,by decide +kernel,rfl⟩⟩
theorem X5:bj prog 90:=⟨⟨Tryz.f90,func90,by decide +kernel,rfl⟩⟩
theorem OZ:bj prog 91:=⟨⟨Tryz.f91,func91,by decide +kernel,rfl⟩⟩
theorem FB:bj prog 92:=⟨⟨Tryz.f92,func92,by decide +kernel,rfl⟩⟩
theorem o8:bj prog 94:=⟨⟨Tryz.f94,func94,by decide +kernel,rfl⟩⟩
theorem JY:bj prog 95:=⟨⟨Tryz.f95,func95,by decide +kernel,rfl⟩⟩
theorem X6:bj prog 96:=⟨⟨Tryz.f96,func96,by decide +kernel,rfl⟩⟩
theorem ah4:bj prog 97:=⟨⟨Tryz.f97,func97,by decide +kernel,rfl⟩⟩
theorem XN:bj prog 100:=⟨⟨Tryz.f100,func100,by decide +kernel,rfl⟩⟩
theorem OQ:bj prog 102:=⟨⟨Tryz.f102,func102,by decide +kernel,rfl⟩⟩
theorem agO:bj prog 103:=⟨⟨Tryz.f103,func103,by decide +kernel,rfl⟩⟩
theorem JQ:bj prog 104:=⟨⟨Tryz.f104,func104,by decide +kernel,rfl⟩⟩
theorem agP:bj prog 105:=⟨⟨Tryz.f105,func105,by decide +kernel,rfl⟩⟩
theorem agQ:bj prog 106:=⟨⟨Tryz.f106,func106,by decide +kernel,rfl⟩⟩
theorem xS:bj prog 107:=⟨⟨Tryz.f107,func107,by decide +kernel,rfl⟩⟩
theorem XO:bj prog 108:=⟨⟨Tryz.f108,func108,by decide +kernel,rfl⟩⟩
theorem JR:bj prog 109:=⟨⟨Tryz.f109,func109,by decide +kernel,rfl⟩⟩
theorem agR:bj prog 110:=⟨⟨Tryz.f110,func110,by decide +kernel,rfl⟩⟩
theorem OR:bj prog 111:=⟨⟨Tryz.f111,func111,by decide +kernel,rfl⟩⟩
theorem XP:bj prog 113:=⟨⟨Tryz.f113,func113,by decide +kernel,rfl⟩⟩
theorem agS:bj prog 115:=⟨⟨Tryz.f115,func115,by decide +kernel,rfl⟩⟩
theorem agT:bj prog 116:=⟨⟨Tryz.f116,func116,by decide +kernel,rfl⟩⟩
theorem OS:bj prog 117:=⟨⟨Tryz.f117,func117,by decide +kernel,rfl⟩⟩
theorem agU:bj prog 118:=⟨⟨Tryz.f118,func118,by decide +kernel,rfl⟩⟩
theorem Cm:bj prog 121:=⟨⟨Tryz.f121,func121,by decide +kernel,rfl⟩⟩
theorem JS:bj prog 122:=⟨⟨Tryz.f122,func122,by decide +kernel,rfl⟩⟩
theorem pP:bj prog 123:=⟨⟨Tryz.f123,func123,by decide +kernel,rfl⟩⟩
theorem ji:bj prog 124:=⟨⟨Tryz.f124,func124,by decide +kernel,rfl⟩⟩
theorem XQ:bj prog 126:=⟨⟨Tryz.f126,func126,by decide +kernel,rfl⟩⟩
theorem agV:bj prog 127:=⟨⟨Tryz.f127,func127,by decide +kernel,rfl⟩⟩
theorem agW:bj prog 128:=⟨⟨Tryz.f128,func128,by decide +kernel,rfl⟩⟩
theorem XR:bj prog 129:=⟨⟨Tryz.f129,func129,by decide +kernel,rfl⟩⟩
theorem OT:bj prog 130:=⟨⟨Tryz.f130,func130,by decide +kernel,rfl⟩⟩
theorem agX:bj prog 131:=⟨⟨Tryz.f131,func131,by decide +kernel,rfl⟩⟩
theorem XS:bj prog 132:=⟨⟨Tryz.f132,func132,by decide +kernel,rfl⟩⟩
theorem OU:bj prog 133:=⟨⟨Tryz.f133,func133,by decide +kernel,rfl⟩⟩
theorem OW:bj prog 134:=⟨⟨Tryz.f134,func134,by decide +kernel,rfl⟩⟩
theorem agY:bj prog 138:=⟨⟨Tryz.f138,func138,by decide +kernel,rfl⟩⟩
theorem lB:bj prog 139:=⟨⟨Tryz.f139,func139,by decide +kernel,rfl⟩⟩
theorem agZ:bj prog 140:=⟨⟨Tryz.f140,func140,by decide +kernel,rfl⟩⟩
theorem ag0:bj prog 141:=⟨⟨Tryz.f141,func141,by decide +kernel,rfl⟩⟩
theorem ag1:bj prog 142:=⟨⟨Tryz.f142,func142,by decide +kernel,rfl⟩⟩
theorem ag2:bj prog 143:=⟨⟨Tryz.f143,func143,by decide +kernel,rfl⟩⟩
theorem ag3:bj prog 144:=⟨⟨Tryz.f144,func144,by decide +kernel,rfl⟩⟩
theorem ag4:bj prog 145:=⟨⟨Tryz.f145,func145,by decide +kernel,rfl⟩⟩
theorem ag5:bj prog 146:=⟨⟨Tryz.f146,func146,by decide +kernel,rfl⟩⟩
theorem XT:bj prog 149:=⟨⟨Tryz.f149,func149,by decide +kernel,rfl⟩⟩
theorem ag6:bj prog 151:=⟨⟨Tryz.f151,func151,by decide +kernel,rfl⟩⟩
theorem ag7:bj prog 153:=⟨⟨Tryz.f153,func153,by decide +kernel,rfl⟩⟩
theorem ag8:bj prog 154:=⟨⟨Tryz.f154,func154,by decide +kernel,rfl⟩⟩
theorem ag9:bj prog 155:=⟨⟨Tryz.f155,func155,by decide +kernel,rfl⟩⟩
theorem aha:bj prog 156:=⟨⟨Tryz.f156,func156,by decide +kernel,rfl⟩⟩
theorem ahb:bj prog 157:=⟨⟨Tryz.f157,func157,by decide +kernel,rfl⟩⟩
theorem ahc:bj prog 159:=⟨⟨Tryz.f159,func159,by decide +kernel,rfl⟩⟩
theorem ahd:bj prog 160:=⟨⟨Tryz.f160,func160,by decide +kernel,rfl⟩⟩
theorem XU:bj prog 161:=⟨⟨Tryz.f161,func161,by decide +kernel,rfl⟩⟩
theorem XV:bj prog 162:=⟨⟨Tryz.f162,func162,by decide +kernel,rfl⟩⟩
theorem Co:bj prog 163:=⟨⟨Tryz.f163,func163,by decide +kernel,rfl⟩⟩
theorem ahe:bj prog 164:=⟨⟨Tryz.f164,func164,by decide +kernel,rfl⟩⟩
theorem ahf:bj prog 165:=⟨⟨Tryz.f165,func165,by decide +kernel,rfl⟩⟩
theorem JU:bj prog 166:=⟨⟨Tryz.f166,func166,by decide +kernel,rfl⟩⟩
theorem OX:bj prog 167:=⟨⟨Tryz.f167,func167,by decide +kernel,rfl⟩⟩
theorem XW:bj prog 168:=⟨⟨Tryz.f168,func168,by decide +kernel,rfl⟩⟩
theorem XX:bj prog 169:=⟨⟨Tryz.f169,func169,by decide +kernel,rfl⟩⟩
theorem ahg:bj prog 170:=⟨⟨Tryz.f170,func170,by decide +kernel,rfl⟩⟩
theorem ahh:bj prog 172:=⟨⟨Tryz.f172,func172,by decide +kernel,rfl⟩⟩
theorem ahi:bj prog 173:=⟨⟨Tryz.f173,func173,by decide +kernel,rfl⟩⟩
theorem ahj:bj prog 174:=⟨⟨Tryz.f174,func174,by decide +kernel,rfl⟩⟩
theorem ahk:bj prog 175:=⟨⟨Tryz.f175,func175,by decide +kernel,rfl⟩⟩
theorem ahl:bj prog 177:=⟨⟨Tryz.f177,func177,by decide +kernel,rfl⟩⟩
theorem ahm:bj prog 178:=⟨⟨Tryz.f178,func178,by decide +kernel,rfl⟩⟩
theorem ahn:bj prog 179:=⟨⟨Tryz.f179,func179,by decide +kernel,rfl⟩⟩
theorem aho:bj prog 180:=⟨⟨Tryz.f180,func180,by decide +kernel,rfl⟩⟩
theorem ahp:bj prog 181:=⟨⟨Tryz.f181,func181,by decide +kernel,rfl⟩⟩
theorem ahq:bj prog 182:=⟨⟨Tryz.f182,func182,by decide +kernel,rfl⟩⟩
theorem ahr:bj prog 183:=⟨⟨Tryz.f183,func183,by decide +kernel,rfl⟩⟩
theorem ahs:bj prog 184:=⟨⟨Tryz.f184,func184,by decide +kernel,rfl⟩⟩
theorem aht:bj prog 185:=⟨⟨Tryz.f185,func185,by decide +kernel,rfl⟩⟩
theorem ahu:bj prog 186:=⟨⟨Tryz.f186,func186,by decide +kernel,rfl⟩⟩
theorem ahv:bj prog 187:=⟨⟨Tryz.f187,func187,by decide +kernel,rfl⟩⟩
theorem ahw:bj prog 188:=⟨⟨Tryz.f188,func188,by decide +kernel,rfl⟩⟩
theorem ahx:bj prog 189:=⟨⟨Tryz.f189,func189,by decide +kernel,rfl⟩⟩
theorem ahy:bj prog 203:=⟨⟨Tryz.f203,func203,by decide +kernel,rfl⟩⟩
theorem ahz:bj prog 204:=⟨⟨Tryz.f204,func204,by decide +kernel,rfl⟩⟩
theorem ahA:bj prog 211:=⟨⟨Tryz.f211,func211,by decide +kernel,rfl⟩⟩
theorem XY:bj prog 212:=⟨⟨Tryz.f212,func212,by decide +kernel,rfl⟩⟩
theorem ahB:bj prog 213:=⟨⟨Tryz.f213,func213,by decide +kernel,rfl⟩⟩
theorem ahC:bj prog 214:=⟨⟨Tryz.f214,func214,by decide +kernel,rfl⟩⟩
theorem ahD:bj prog 215:=⟨⟨Tryz.f215,func215,by decide +kernel,rfl⟩⟩
theorem ahE:bj prog 221:=⟨⟨Tryz.f221,func221,by decide +kernel,rfl⟩⟩
theorem ahF:bj prog 225:=⟨⟨Tryz.f225,func225,by decide +kernel,rfl⟩⟩
theorem ahG:bj prog 231:=⟨⟨Tryz.f231,func231,by decide +kernel,rfl⟩⟩
theorem XZ:bj prog 233:=⟨⟨Tryz.f233,func233,by decide +kernel,rfl⟩⟩
theorem JV:bj prog 235:=⟨⟨Tryz.f235,func235,by decide +kernel,rfl⟩⟩
theorem ahI:bj prog 265:=⟨⟨Tryz.f265,func265,by decide +kernel,rfl⟩⟩
theorem ahJ:bj prog 266:=⟨⟨Tryz.f266,func266,by decide +kernel,rfl⟩⟩
theorem ahK:bj prog 267:=⟨⟨Tryz.f267,func267,by decide +kernel,rfl⟩⟩
theorem ahL:bj prog 268:=⟨⟨Tryz.f268,func268,by decide +kernel,rfl⟩⟩
theorem ahM:bj prog 269:=⟨⟨Tryz.f269,func269,by decide +kernel,rfl⟩⟩
theorem ahN:bj prog 270:=⟨⟨Tryz.f270,func270,by decide +kernel,rfl⟩⟩
theorem ahO:bj prog 271:=⟨⟨Tryz.f271,func271,by decide +kernel,rfl⟩⟩
theorem ahP:bj prog 272:=⟨⟨Tryz.f272,func272,by decide +kernel,rfl⟩⟩
theorem ahQ:bj prog 273:=⟨⟨Tryz.f273,func273,by decide +kernel,rfl⟩⟩
theorem ahR:bj prog 274:=⟨⟨Tryz.f274,func274,by decide +kernel,rfl⟩⟩
theorem ahS:bj prog 275:=⟨⟨Tryz.f275,func275,by decide +kernel,rfl⟩⟩
theorem ahT:bj prog 276:=⟨⟨Tryz.f276,func276,by decide +kernel,rfl⟩⟩
theorem ahU:bj prog 277:=⟨⟨Tryz.f277,func277,by decide +kernel,rfl⟩⟩
theorem ahV:bj prog 278:=⟨⟨Tryz.f278,func278,by decide +kernel,rfl⟩⟩
end Go.Proofs.YtihapemckcdicaaGreatDoor
namespace Go.Proofs.YtihapemckcdicaaGreatDoor
open Go.Lg Go.Proofs Tryz
def Tt:Nat→Nat→Option Nat
 | 28,0=>some 0
 | 28,1=>some 1
 | 28,2=>some 2
 | 28,3=>some 3
 | 28,4=>some 4
 | 28,5=>some 5
 | 41,0=>some 0
 | 41,1=>some 1
 | 59,0=>some 0
 | 59,1=>some 1
 | 59,2=>some 2
 | 64,0=>some 0
 | 64,1=>some 1
 | 93,0=>some 0
 | 93,1=>some 1
 | 96,0=>some 0
 | 96,1=>some 1
 | 96,2=>some 2
 | 96,3=>some 3
 | 116,0=>some 0
 | 119,0=>some 0
 | 122,0=>some 0
 | 122,1=>some 6
 | 192,0=>some 0
 | 192,1=>some 1
 | 194,1=>some 0
 | 199,2=>some 0
 | 201,1=>some 0
 | 201,2=>some 1
 | _,_=>none
theorem avt(s f n:Nat)(h:Tt s f=some n):fU prog s f n:=by
 unfold Tt at h
 split at h
 ·cases h; exact ajd
 ·cases h; exact aje
 ·cases h; exact ajf
 ·cases h; exact ajg
 ·cases h; exact ajh
 ·cases h; exact aji
 ·cases h; exact ajj
 ·cases h; exact ajk
 ·cases h; exact ajl
 ·cases h; exact ajm
 ·cases h; exact ajn
 ·cases h; exact ajo
 ·cases h; exact ajp
 ·cases h; exact ajq
 ·cases h; exact ajr
 ·cases h; exact ajs
 ·cases h; exact ajt
 ·cases h; exact aju
 ·cases h; exact ajv
 ·cases h; exact ai3
 ·cases h; exact ai4
 ·cases h; exact ai5
 ·cases h; exact ai6
 ·cases h; exact ai7
 ·cases h; exact ai8
 ·cases h; exact ai9
 ·cases h; exact aja
 ·cases h; exact ajb
 ·cases h; exact ajc
 ·cases h
instance:lU prog:=⟨Tt,avt⟩
end Go.Proofs.YtihapemckcdicaaGreatDoor
namespace Go.Proofs.YtihapemckcdicaaGreatDoor
open Go.Lg Go.Proofs Tryz
set_option maxRecDepth 100000
abbrev iv(z:Int):Value:=.int .i64 z
theorem v7{P:Program}{e:Nat}(h:(P.info? e).any (λ i=>decide (i.bytes≤65536))=true):∃ i,P.info? e=some i∧i.bytes≤65536:=by
 cases hi:P.info? e with
 | none=>rw [hi] at h; cases h
 | some i=>rw [hi] at h; exact ⟨i,rfl,by simpa using h⟩
structure fl where
 eI:Int
 eU:Int
def bE:cx fl:=λ _ x es=>es=[iv x.eI,iv x.eU]
instance:CM bE:=⟨λ hR h=>by obtain rfl:=h; exact rfl,λ h=>by obtain rfl:=h; simp [Value.oneCell']⟩
structure Reach where
 cH:Int
 dm:Int
def bH:cx Reach:=λ _ x es=>es=[iv x.cH,iv x.dm]
instance:CM bH:=⟨λ hR h=>by obtain rfl:=h; exact rfl,λ h=>by obtain rfl:=h; simp [Value.oneCell']⟩
structure eQ where
 Name:ByteArray
 pI:Int
def bD:cx eQ:=λ _ x es=>es=[.string x.Name,iv x.pI]
instance:CM bD:=⟨λ hR h=>by obtain rfl:=h; exact rfl,λ h=>by obtain rfl:=h; simp [Value.oneCell']⟩
structure lW where
 Place:Int
 iI:Int
 jf:Int
 aH:Int
def bI:cx lW:=λ _ x es=>es=[iv x.Place,iv x.iI,iv x.jf,iv x.aH]
instance:CM bI:=⟨λ hR h=>by obtain rfl:=h; exact rfl,λ h=>by obtain rfl:=h; simp [Value.oneCell']⟩
structure c9 where
 Place:Int
 lu:Int
 rL:Bool
def bu:cx c9:=λ _ x es=>es=[iv x.Place,iv x.lu,.bool x.rL]
instance:CM bu:=⟨λ hR h=>by obtain rfl:=h; exact rfl,λ h=>by obtain rfl:=h; simp [Value.oneCell']⟩
structure au where
 Rest:Int
 Rows:(List fl)
 aQ:(List Reach)
 aH:(List eQ)
 aN:(List lW)
 aY:(List c9)
def No:cx au:=λ R x es=>∃ Ml Mm Mn Mo Mq,ae bE 2 R Ml x.Rows∧ae bH 2 R Mm x.aQ∧ae bD 2 R Mn x.aH∧ae bI 4 R Mo x.aN∧ae bu 3 R Mq x.aY∧es=[iv x.Rest,Ml,Mm,Mn,Mo,Mq]
instance:CM No:=⟨λ hR h=>by obtain ⟨Ml,Mm,Mn,Mo,Mq,Qw,Qx,Qy,Qz,QA,rfl⟩:=h; exact ⟨_,_,_,_,_,Qw.mono hR,Qx.mono hR,Qy.mono hR,Qz.mono hR,QA.mono hR,rfl⟩,λ h=>by obtain ⟨Ml,Mm,Mn,Mo,Mq,Qw,Qx,Qy,Qz,QA,rfl⟩:=h; intro u hu; simp only [List.mem_cons,List.not_mem_nil,or_false] at hu; rcases hu with rfl | rfl | rfl | rfl | rfl | rfl <;> first | rfl | exact Qw.one | exact Qx.one | exact Qy.one | exact Qz.one | exact QA.one⟩
structure br where
 deep:(List Int)
def fi:cx br:=λ _ x es=>x.deep.length=3∧es=([]++(x.deep.map (Value.int .i64)++[]))
instance:CM fi:=⟨λ hR h=>by obtain ⟨Z6,rfl⟩:=h; exact ⟨Z6,rfl⟩,λ h=>by obtain ⟨Z6,rfl⟩:=h; simp [Value.oneCell']⟩
structure b9 where
 book:au
 eS:(List br)
theorem three{α:Type}{l:List α}(h:l.length=3):∃ a b c,l=[a,b,c]:=by
 match l,h with
 | [a,b,c],_=>exact ⟨a,b,c,rfl⟩
theorem four{α:Type}{l:List α}(h:l.length=4):∃ a b c d,l=[a,b,c,d]:=by
 match l,h with
 | [a,b,c,d],_=>exact ⟨a,b,c,d,rfl⟩
theorem ajJ:prog.eqGuardType prog.depth 41=false:=by decide +kernel
def O3(x y:Reach):Bool:=(x.cH == y.cH && (x.dm == y.dm && true))
theorem aib(x y:Reach):ah prog (Op.equal 41 (.agg #[iv x.cH,iv x.dm]) (.agg #[iv y.cH,iv y.dm])) (O3 x y):=Ul (d:=9999) underlying41 (by decide +kernel) (.cons rfl (λ _=>⟨by kernel_rfl,by kernel_rfl⟩) (λ _=>⟨by kernel_rfl,by kernel_rfl⟩) (Bt underlying3) (.cons rfl (λ _=>⟨by kernel_rfl,by kernel_rfl⟩) (λ _=>⟨by kernel_rfl,by kernel_rfl⟩) (Bt underlying3) .nil))
theorem Pe:prog.eqGuardType prog.depth 64=false:=by decide +kernel
def FD(x y:fl):Bool:=(x.eI == y.eI && (x.eU == y.eU && true))
theorem O4(x y:fl):ah prog (Op.equal 64 (.agg #[iv x.eI,iv x.eU]) (.agg #[iv y.eI,iv y.eU])) (FD x y):=Ul (d:=9999) underlying64 (by decide +kernel) (.cons rfl (λ _=>⟨by kernel_rfl,by kernel_rfl⟩) (λ _=>⟨by kernel_rfl,by kernel_rfl⟩) (Bt underlying3) (.cons rfl (λ _=>⟨by kernel_rfl,by kernel_rfl⟩) (λ _=>⟨by kernel_rfl,by kernel_rfl⟩) (Bt underlying3) .nil))
theorem ajI:prog.eqGuardType prog.depth 143=false:=by decide +kernel
def O2(x y:List Bool):Bool:=x == y
theorem aia{x y:List Bool}(hx:x.length=4)(hy:y.length=4):ah prog (Op.equal 143 (.agg (List.toArray ([]++(x.map Value.bool++[])))) (.agg (List.toArray ([]++(y.map Value.bool++[]))))) (O2 x y):=by
 obtain ⟨a0,a1,a2,a3,rfl⟩:=four hx
 obtain ⟨b0,b1,b2,b3,rfl⟩:=four hy
 have hw:([a0,a1,a2,a3] == [b0,b1,b2,b3])=((a0 == b0) && ((a1 == b1) && ((a2 == b2) && ((a3 == b3) && true)))):=by simp
 unfold O2
 rw [hw]
 refine abV (d:=9999) (n:=1) underlying143 (λ _=>⟨by kernel_rfl,by kernel_rfl⟩) ?_
 refine .cons (i:=0) (rest:=[1,2,3]) (λ _=>⟨by kernel_rfl,by kernel_rfl⟩) (λ _=>⟨by kernel_rfl,by kernel_rfl⟩) (Mk underlying4) ?_
 refine .cons (i:=1) (rest:=[2,3]) (λ _=>⟨by kernel_rfl,by kernel_rfl⟩) (λ _=>⟨by kernel_rfl,by kernel_rfl⟩) (Mk underlying4) ?_
 refine .cons (i:=2) (rest:=[3]) (λ _=>⟨by kernel_rfl,by kernel_rfl⟩) (λ _=>⟨by kernel_rfl,by kernel_rfl⟩) (Mk underlying4) ?_
 refine .cons (i:=3) (rest:=[]) (λ _=>⟨by kernel_rfl,by kernel_rfl⟩) (λ _=>⟨by kernel_rfl,by kernel_rfl⟩) (Mk underlying4) ?_
 exact .nil
theorem ajH:prog.eqGuardType prog.depth 116=false:=by decide +kernel
def IA(x y:br):Bool:=x.deep == y.deep && true
theorem ah9{x y:br}(hx:x.deep.length=3)(hy:y.deep.length=3):ah prog (Op.equal 116 (.agg (List.toArray ([]++(x.deep.map (Value.int .i64)++[])))) (.agg (List.toArray ([]++(y.deep.map (Value.int .i64)++[]))))) (IA x y):=by
 obtain ⟨x⟩:=x
 obtain ⟨y⟩:=y
 simp only at hx hy
 obtain ⟨a0,a1,a2,rfl⟩:=three hx
 obtain ⟨b0,b1,b2,rfl⟩:=three hy
 have hw:([a0,a1,a2] == [b0,b1,b2])=((a0 == b0) && ((a1 == b1) && ((a2 == b2) && true))):=by simp
 unfold IA
 simp only [hw]
 refine Ul (d:=9999) underlying116 (by decide +kernel) ?_
 refine .cons rfl (a:=.agg #[iv a0,iv a1,iv a2]) (b:=.agg #[iv b0,iv b1,iv b2]) (λ _=>⟨by kernel_rfl,by kernel_rfl⟩) (λ _=>⟨by kernel_rfl,by kernel_rfl⟩) ?_ .nil
 refine abV (d:=9998) (n:=1) underlying114 (λ _=>⟨by kernel_rfl,by kernel_rfl⟩) ?_
 refine .cons (i:=0) (rest:=[1,2]) (λ _=>⟨by kernel_rfl,by kernel_rfl⟩) (λ _=>⟨by kernel_rfl,by kernel_rfl⟩) (Bt underlying3) ?_
 refine .cons (i:=1) (rest:=[2]) (λ _=>⟨by kernel_rfl,by kernel_rfl⟩) (λ _=>⟨by kernel_rfl,by kernel_rfl⟩) (Bt underlying3) ?_
 refine .cons (i:=2) (rest:=[]) (λ _=>⟨by kernel_rfl,by kernel_rfl⟩) (λ _=>⟨by kernel_rfl,by kernel_rfl⟩) (Bt underlying3) ?_
 exact .nil
theorem N0:rJ prog 22 64 2:=⟨underlying22,λ _=>⟨by kernel_rfl,by kernel_rfl⟩,v7 (by decide +kernel),⟨.agg #[.int .i64 0,.int .i64 0],λ _=>⟨by kernel_rfl,by kernel_rfl⟩,rfl⟩⟩
theorem afD:rJ prog 23 41 2:=⟨underlying23,λ _=>⟨by kernel_rfl,by kernel_rfl⟩,v7 (by decide +kernel),⟨.agg #[.int .i64 0,.int .i64 0],λ _=>⟨by kernel_rfl,by kernel_rfl⟩,rfl⟩⟩
theorem afE:rJ prog 24 93 2:=⟨underlying24,λ _=>⟨by kernel_rfl,by kernel_rfl⟩,v7 (by decide +kernel),⟨.agg #[.string ⟨#[]⟩,.int .i64 0],λ _=>⟨by kernel_rfl,by kernel_rfl⟩,rfl⟩⟩
theorem afF:rJ prog 25 96 4:=⟨underlying25,λ _=>⟨by kernel_rfl,by kernel_rfl⟩,v7 (by decide +kernel),⟨.agg #[.int .i64 0,.int .i64 0,.int .i64 0,.int .i64 0],λ _=>⟨by kernel_rfl,by kernel_rfl⟩,rfl⟩⟩
theorem vn:rJ prog 26 59 3:=⟨underlying26,λ _=>⟨by kernel_rfl,by kernel_rfl⟩,v7 (by decide +kernel),⟨.agg #[.int .i64 0,.int .i64 0,.bool false],λ _=>⟨by kernel_rfl,by kernel_rfl⟩,rfl⟩⟩
theorem afG:rJ prog 29 36 1:=⟨underlying29,λ _=>⟨by kernel_rfl,by kernel_rfl⟩,v7 (by decide +kernel),⟨.slice none 0 0,λ _=>⟨by kernel_rfl,by kernel_rfl⟩,rfl⟩⟩
theorem IH:rJ prog 36 3 1:=⟨underlying36,λ _=>⟨by kernel_rfl,by kernel_rfl⟩,v7 (by decide +kernel),⟨.int .i64 0,λ _=>⟨by kernel_rfl,by kernel_rfl⟩,rfl⟩⟩
theorem afB:rJ prog 111 116 3:=⟨underlying111,λ _=>⟨by kernel_rfl,by kernel_rfl⟩,v7 (by decide +kernel),⟨.agg #[.int .i64 0,.int .i64 0,.int .i64 0],λ _=>⟨by kernel_rfl,by kernel_rfl⟩,rfl⟩⟩
theorem afC:rJ prog 157 145 16:=⟨underlying157,λ _=>⟨by kernel_rfl,by kernel_rfl⟩,v7 (by decide +kernel),⟨.agg #[.bool false,.bool false,.bool false,.bool false,.bool false,.bool false,.bool false,.bool false,.bool false,.bool false,.bool false,.bool false,.bool false,.bool false,.bool false,.bool false],λ _=>⟨by kernel_rfl,by kernel_rfl⟩,rfl⟩⟩
theorem afW:(Array.range (0 * 2)).map ((#[.int .i64 0,.int .i64 0]:Array Value)[· % (#[.int .i64 0,.int .i64 0]:Array Value).size]!)=#[]:=by kernel_rfl
theorem WN:(Array.range (1 * 2)).map ((#[.int .i64 0,.int .i64 0]:Array Value)[· % (#[.int .i64 0,.int .i64 0]:Array Value).size]!)=#[.int .i64 0,.int .i64 0]:=by kernel_rfl
theorem afX:(Array.range (2 * 2)).map ((#[.int .i64 0,.int .i64 0]:Array Value)[· % (#[.int .i64 0,.int .i64 0]:Array Value).size]!)=#[.int .i64 0,.int .i64 0,.int .i64 0,.int .i64 0]:=by kernel_rfl
theorem afY:(Array.range (0 * 2)).map ((#[.int .i64 0,.int .i64 0]:Array Value)[· % (#[.int .i64 0,.int .i64 0]:Array Value).size]!)=#[]:=by kernel_rfl
theorem afZ:(Array.range (2 * 2)).map ((#[.int .i64 0,.int .i64 0]:Array Value)[· % (#[.int .i64 0,.int .i64 0]:Array Value).size]!)=#[.int .i64 0,.int .i64 0,.int .i64 0,.int .i64 0]:=by kernel_rfl
theorem af0:(Array.range (0 * 2)).map ((#[.string ⟨#[]⟩,.int .i64 0]:Array Value)[· % (#[.string ⟨#[]⟩,.int .i64 0]:Array Value).size]!)=#[]:=by kernel_rfl
theorem af1:(Array.range (2 * 2)).map ((#[.string ⟨#[]⟩,.int .i64 0]:Array Value)[· % (#[.string ⟨#[]⟩,.int .i64 0]:Array Value).size]!)=#[.string ⟨#[]⟩,.int .i64 0,.string ⟨#[]⟩,.int .i64 0]:=by kernel_rfl
theorem af2:(Array.range (0 * 4)).map ((#[.int .i64 0,.int .i64 0,.int .i64 0,.int .i64 0]:Array Value)[· % (#[.int .i64 0,.int .i64 0,.int .i64 0,.int .i64 0]:Array Value).size]!)=#[]:=by kernel_rfl
theorem af3:(Array.range (3 * 4)).map ((#[.int .i64 0,.int .i64 0,.int .i64 0,.int .i64 0]:Array Value)[· % (#[.int .i64 0,.int .i64 0,.int .i64 0,.int .i64 0]:Array Value).size]!)=#[.int .i64 0,.int .i64 0,.int .i64 0,.int .i64 0,.int .i64 0,.int .i64 0,.int .i64 0,.int .i64 0,.int .i64 0,.int .i64 0,.int .i64 0,.int .i64 0]:=by kernel_rfl
theorem Oc:(Array.range (0 * 3)).map ((#[.int .i64 0,.int .i64 0,.bool false]:Array Value)[· % (#[.int .i64 0,.int .i64 0,.bool false]:Array Value).size]!)=#[]:=by kernel_rfl
theorem Fi:(Array.range (1 * 3)).map ((#[.int .i64 0,.int .i64 0,.bool false]:Array Value)[· % (#[.int .i64 0,.int .i64 0,.bool false]:Array Value).size]!)=#[.int .i64 0,.int .i64 0,.bool false]:=by kernel_rfl
theorem af4:(Array.range (1 * 1)).map ((#[.slice none 0 0]:Array Value)[· % (#[.slice none 0 0]:Array Value).size]!)=#[.slice none 0 0]:=by kernel_rfl
theorem Od:(Array.range (3 * 1)).map ((#[.slice none 0 0]:Array Value)[· % (#[.slice none 0 0]:Array Value).size]!)=#[.slice none 0 0,.slice none 0 0,.slice none 0 0]:=by kernel_rfl
theorem qC:(Array.range (1 * 1)).map ((#[.int .i64 0]:Array Value)[· % (#[.int .i64 0]:Array Value).size]!)=#[.int .i64 0]:=by kernel_rfl
theorem Fj:(Array.range (2 * 1)).map ((#[.int .i64 0]:Array Value)[· % (#[.int .i64 0]:Array Value).size]!)=#[.int .i64 0,.int .i64 0]:=by kernel_rfl
theorem afU:(Array.range (1 * 3)).map ((#[.int .i64 0,.int .i64 0,.int .i64 0]:Array Value)[· % (#[.int .i64 0,.int .i64 0,.int .i64 0]:Array Value).size]!)=#[.int .i64 0,.int .i64 0,.int .i64 0]:=by kernel_rfl
theorem afV:(Array.range (1 * 16)).map ((#[.bool false,.bool false,.bool false,.bool false,.bool false,.bool false,.bool false,.bool false,.bool false,.bool false,.bool false,.bool false,.bool false,.bool false,.bool false,.bool false]:Array Value)[· % (#[.bool false,.bool false,.bool false,.bool false,.bool false,.bool false,.bool false,.bool false,.bool false,.bool false,.bool false,.bool false,.bool false,.bool false,.bool false,.bool false]:Array Value).size]!)=#[.bool false,.bool false,.bool false,.bool false,.bool false,.bool false,.bool false,.bool false,.bool false,.bool false,.bool false,.bool false,.bool false,.bool false,.bool false,.bool false]:=by kernel_rfl
theorem Tk:Jc prog 206 3 3:=⟨underlying206,underlying3,λ e a=>λ _=>⟨by kernel_rfl,by kernel_rfl⟩,λ _=>⟨by kernel_rfl,by kernel_rfl⟩⟩
abbrev gK(R:av):Prop:=aM R [] 0 0 [.func (.func 265) #[] #[],.func (.func 266) #[] #[],.func (.func 267) #[] #[],.func (.func 268) #[] #[],.func (.func 269) #[] #[],.func (.func 270) #[] #[]]
theorem gK.mono{R R':av}(h:gK R)(hR:aT R R'):gK R':=aM.up (H:=[]) h hR
theorem gK.any{R:av}{H:ai}(h:gK R):aM R H 0 0 [.func (.func 265) #[] #[],.func (.func 266) #[] #[],.func (.func 267) #[] #[],.func (.func 268) #[] #[],.func (.func 269) #[] #[],.func (.func 270) #[] #[]]:=aM.any h
theorem mixed:prog.follows .mixedOrders=true:=by kernel_rfl
end Go.Proofs.YtihapemckcdicaaGreatDoor
