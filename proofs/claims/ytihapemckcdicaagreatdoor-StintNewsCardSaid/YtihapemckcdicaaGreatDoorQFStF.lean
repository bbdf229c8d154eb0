/- Closed facts on the program; the structs of the models. Conditions: none. -/
import Derived.Test.YtihapemckcdicaaGreatDoorQFLgC
import Derived.Test.YtihapemckcdicaaGreatDoorQFLgE
import Derived.Test.YtihapemckcdicaaGreatDoorProg
import Derived.KernelRfl
namespace Go.Proofs.YtihapemckcdicaaGreatDoor
open Go.Lg Go.Proofs Tryz
theorem bu:gS prog 3:=⟨λ _=>⟨by kernel_rfl,by kernel_rfl⟩,λ _=>⟨by kernel_rfl,by kernel_rfl⟩⟩
theorem gY:gS prog 4:=⟨λ _=>⟨by kernel_rfl,by kernel_rfl⟩,λ _=>⟨by kernel_rfl,by kernel_rfl⟩⟩
theorem CD:gS prog 9:=⟨λ _=>⟨by kernel_rfl,by kernel_rfl⟩,λ _=>⟨by kernel_rfl,by kernel_rfl⟩⟩
theorem Fv:gS prog 21:=⟨λ _=>⟨by kernel_rfl,by kernel_rfl⟩,λ _=>⟨by kernel_rfl,by kernel_rfl⟩⟩
theorem fK:gS prog 22:=⟨λ _=>⟨by kernel_rfl,by kernel_rfl⟩,λ _=>⟨by kernel_rfl,by kernel_rfl⟩⟩
theorem jV:gS prog 23:=⟨λ _=>⟨by kernel_rfl,by kernel_rfl⟩,λ _=>⟨by kernel_rfl,by kernel_rfl⟩⟩
theorem iY:gS prog 24:=⟨λ _=>⟨by kernel_rfl,by kernel_rfl⟩,λ _=>⟨by kernel_rfl,by kernel_rfl⟩⟩
theorem gX:gS prog 25:=⟨λ _=>⟨by kernel_rfl,by kernel_rfl⟩,λ _=>⟨by kernel_rfl,by kernel_rfl⟩⟩
theorem gx:gS prog 26:=⟨λ _=>⟨by kernel_rfl,by kernel_rfl⟩,λ _=>⟨by kernel_rfl,by kernel_rfl⟩⟩
theorem CC:gS prog 29:=⟨λ _=>⟨by kernel_rfl,by kernel_rfl⟩,λ _=>⟨by kernel_rfl,by kernel_rfl⟩⟩
theorem xC:gS prog 33:=⟨λ _=>⟨by kernel_rfl,by kernel_rfl⟩,λ _=>⟨by kernel_rfl,by kernel_rfl⟩⟩
theorem qQ:gS prog 36:=⟨λ _=>⟨by kernel_rfl,by kernel_rfl⟩,λ _=>⟨by kernel_rfl,by kernel_rfl⟩⟩
theorem qP:gS prog 111:=⟨λ _=>⟨by kernel_rfl,by kernel_rfl⟩,λ _=>⟨by kernel_rfl,by kernel_rfl⟩⟩
theorem Fu:gS prog 125:=⟨λ _=>⟨by kernel_rfl,by kernel_rfl⟩,λ _=>⟨by kernel_rfl,by kernel_rfl⟩⟩
theorem aBO:gS prog 140:=⟨λ _=>⟨by kernel_rfl,by kernel_rfl⟩,λ _=>⟨by kernel_rfl,by kernel_rfl⟩⟩
theorem NF:gS prog 148:=⟨λ _=>⟨by kernel_rfl,by kernel_rfl⟩,λ _=>⟨by kernel_rfl,by kernel_rfl⟩⟩
theorem WO:gS prog 157:=⟨λ _=>⟨by kernel_rfl,by kernel_rfl⟩,λ _=>⟨by kernel_rfl,by kernel_rfl⟩⟩
theorem WQ:gS prog 166:=⟨λ _=>⟨by kernel_rfl,by kernel_rfl⟩,λ _=>⟨by kernel_rfl,by kernel_rfl⟩⟩
theorem aBP:gS prog 186:=⟨λ _=>⟨by kernel_rfl,by kernel_rfl⟩,λ _=>⟨by kernel_rfl,by kernel_rfl⟩⟩
theorem WR:gS prog 187:=⟨λ _=>⟨by kernel_rfl,by kernel_rfl⟩,λ _=>⟨by kernel_rfl,by kernel_rfl⟩⟩
theorem bp:mT prog 28 6:=⟨λ _=>⟨by kernel_rfl,by kernel_rfl⟩,λ _=>⟨by kernel_rfl,by kernel_rfl⟩⟩
theorem ns:mT prog 41 2:=⟨λ _=>⟨by kernel_rfl,by kernel_rfl⟩,λ _=>⟨by kernel_rfl,by kernel_rfl⟩⟩
theorem pE:mT prog 59 3:=⟨λ _=>⟨by kernel_rfl,by kernel_rfl⟩,λ _=>⟨by kernel_rfl,by kernel_rfl⟩⟩
theorem nu:mT prog 64 2:=⟨λ _=>⟨by kernel_rfl,by kernel_rfl⟩,λ _=>⟨by kernel_rfl,by kernel_rfl⟩⟩
theorem GM:mT prog 93 2:=⟨λ _=>⟨by kernel_rfl,by kernel_rfl⟩,λ _=>⟨by kernel_rfl,by kernel_rfl⟩⟩
theorem nY:mT prog 96 4:=⟨λ _=>⟨by kernel_rfl,by kernel_rfl⟩,λ _=>⟨by kernel_rfl,by kernel_rfl⟩⟩
theorem pD:mT prog 116 3:=⟨λ _=>⟨by kernel_rfl,by kernel_rfl⟩,λ _=>⟨by kernel_rfl,by kernel_rfl⟩⟩
theorem gA:mT prog 119 6:=⟨λ _=>⟨by kernel_rfl,by kernel_rfl⟩,λ _=>⟨by kernel_rfl,by kernel_rfl⟩⟩
theorem dF:mT prog 122 7:=⟨λ _=>⟨by kernel_rfl,by kernel_rfl⟩,λ _=>⟨by kernel_rfl,by kernel_rfl⟩⟩
theorem fc:mT prog 143 4:=⟨λ _=>⟨by kernel_rfl,by kernel_rfl⟩,λ _=>⟨by kernel_rfl,by kernel_rfl⟩⟩
theorem cK:mT prog 145 16:=⟨λ _=>⟨by kernel_rfl,by kernel_rfl⟩,λ _=>⟨by kernel_rfl,by kernel_rfl⟩⟩
theorem aix:mT prog 180 6:=⟨λ _=>⟨by kernel_rfl,by kernel_rfl⟩,λ _=>⟨by kernel_rfl,by kernel_rfl⟩⟩
theorem Gi:jf prog 3 #[.int .i64 0]:=⟨.int .i64 0,λ _=>⟨by kernel_rfl,by kernel_rfl⟩,rfl⟩
theorem Ym:jf prog 4 #[.bool false]:=⟨.bool false,λ _=>⟨by kernel_rfl,by kernel_rfl⟩,rfl⟩
theorem nk:jf prog 28 #[.int .i64 0,.slice none 0 0,.slice none 0 0,.slice none 0 0,.slice none 0 0,.slice none 0 0]:=⟨.agg #[.int .i64 0,.slice none 0 0,.slice none 0 0,.slice none 0 0,.slice none 0 0,.slice none 0 0],λ _=>⟨by kernel_rfl,by kernel_rfl⟩,rfl⟩
theorem aFV:jf prog 29 #[.slice none 0 0]:=⟨.slice none 0 0,λ _=>⟨by kernel_rfl,by kernel_rfl⟩,rfl⟩
theorem aFW:jf prog 33 #[.int .i64 0]:=⟨.int .i64 0,λ _=>⟨by kernel_rfl,by kernel_rfl⟩,rfl⟩
theorem KA:jf prog 41 #[.int .i64 0,.int .i64 0]:=⟨.agg #[.int .i64 0,.int .i64 0],λ _=>⟨by kernel_rfl,by kernel_rfl⟩,rfl⟩
theorem agG:jf prog 59 #[.int .i64 0,.int .i64 0,.bool false]:=⟨.agg #[.int .i64 0,.int .i64 0,.bool false],λ _=>⟨by kernel_rfl,by kernel_rfl⟩,rfl⟩
theorem KB:jf prog 64 #[.int .i64 0,.int .i64 0]:=⟨.agg #[.int .i64 0,.int .i64 0],λ _=>⟨by kernel_rfl,by kernel_rfl⟩,rfl⟩
theorem aFX:jf prog 93 #[.string ⟨#[]⟩,.int .i64 0]:=⟨.agg #[.string ⟨#[]⟩,.int .i64 0],λ _=>⟨by kernel_rfl,by kernel_rfl⟩,rfl⟩
theorem Ar:jf prog 96 #[.int .i64 0,.int .i64 0,.int .i64 0,.int .i64 0]:=⟨.agg #[.int .i64 0,.int .i64 0,.int .i64 0,.int .i64 0],λ _=>⟨by kernel_rfl,by kernel_rfl⟩,rfl⟩
theorem Pu:jf prog 116 #[.int .i64 0,.int .i64 0,.int .i64 0]:=⟨.agg #[.int .i64 0,.int .i64 0,.int .i64 0],λ _=>⟨by kernel_rfl,by kernel_rfl⟩,rfl⟩
theorem agF:jf prog 119 #[.int .i64 0,.slice none 0 0,.slice none 0 0,.slice none 0 0,.slice none 0 0,.slice none 0 0]:=⟨.agg #[.int .i64 0,.slice none 0 0,.slice none 0 0,.slice none 0 0,.slice none 0 0,.slice none 0 0],λ _=>⟨by kernel_rfl,by kernel_rfl⟩,rfl⟩
theorem mS:jf prog 122 #[.int .i64 0,.slice none 0 0,.slice none 0 0,.slice none 0 0,.slice none 0 0,.slice none 0 0,.slice none 0 0]:=⟨.agg #[.int .i64 0,.slice none 0 0,.slice none 0 0,.slice none 0 0,.slice none 0 0,.slice none 0 0,.slice none 0 0],λ _=>⟨by kernel_rfl,by kernel_rfl⟩,rfl⟩
theorem kU:jf prog 143 #[.bool false,.bool false,.bool false,.bool false]:=⟨.agg #[.bool false,.bool false,.bool false,.bool false],λ _=>⟨by kernel_rfl,by kernel_rfl⟩,rfl⟩
theorem ie:jf prog 145 #[.bool false,.bool false,.bool false,.bool false,.bool false,.bool false,.bool false,.bool false,.bool false,.bool false,.bool false,.bool false,.bool false,.bool false,.bool false,.bool false]:=⟨.agg #[.bool false,.bool false,.bool false,.bool false,.bool false,.bool false,.bool false,.bool false,.bool false,.bool false,.bool false,.bool false,.bool false,.bool false,.bool false,.bool false],λ _=>⟨by kernel_rfl,by kernel_rfl⟩,rfl⟩
theorem aFQ:jf prog 148 #[.nilFunc]:=⟨.nilFunc,λ _=>⟨by kernel_rfl,by kernel_rfl⟩,rfl⟩
theorem aFR:jf prog 166 #[.nilFunc]:=⟨.nilFunc,λ _=>⟨by kernel_rfl,by kernel_rfl⟩,rfl⟩
theorem aFS:jf prog 187 #[.nilFunc]:=⟨.nilFunc,λ _=>⟨by kernel_rfl,by kernel_rfl⟩,rfl⟩
theorem aFT:jf prog 194 #[.int .i32 0,.int .u32 0]:=⟨.agg #[.int .i32 0,.int .u32 0],λ _=>⟨by kernel_rfl,by kernel_rfl⟩,rfl⟩
theorem aFU:jf prog 201 #[.int .u64 0,.int .u32 0]:=⟨.agg #[.int .u64 0,.int .u32 0],λ _=>⟨by kernel_rfl,by kernel_rfl⟩,rfl⟩
theorem amz:gf prog 28 0 0:=λ _ _ _=>⟨by kernel_rfl,by kernel_rfl⟩
theorem amA:gf prog 28 1 1:=λ _ _ _=>⟨by kernel_rfl,by kernel_rfl⟩
theorem amB:gf prog 28 2 2:=λ _ _ _=>⟨by kernel_rfl,by kernel_rfl⟩
theorem amC:gf prog 28 3 3:=λ _ _ _=>⟨by kernel_rfl,by kernel_rfl⟩
theorem amD:gf prog 28 4 4:=λ _ _ _=>⟨by kernel_rfl,by kernel_rfl⟩
theorem amE:gf prog 28 5 5:=λ _ _ _=>⟨by kernel_rfl,by kernel_rfl⟩
theorem amF:gf prog 41 0 0:=λ _ _ _=>⟨by kernel_rfl,by kernel_rfl⟩
theorem amG:gf prog 41 1 1:=λ _ _ _=>⟨by kernel_rfl,by kernel_rfl⟩
theorem amH:gf prog 59 0 0:=λ _ _ _=>⟨by kernel_rfl,by kernel_rfl⟩
theorem amI:gf prog 59 1 1:=λ _ _ _=>⟨by kernel_rfl,by kernel_rfl⟩
theorem amJ:gf prog 59 2 2:=λ _ _ _=>⟨by kernel_rfl,by kernel_rfl⟩
theorem amK:gf prog 64 0 0:=λ _ _ _=>⟨by kernel_rfl,by kernel_rfl⟩
theorem amL:gf prog 64 1 1:=λ _ _ _=>⟨by kernel_rfl,by kernel_rfl⟩
theorem amM:gf prog 93 0 0:=λ _ _ _=>⟨by kernel_rfl,by kernel_rfl⟩
theorem amN:gf prog 93 1 1:=λ _ _ _=>⟨by kernel_rfl,by kernel_rfl⟩
theorem amO:gf prog 96 0 0:=λ _ _ _=>⟨by kernel_rfl,by kernel_rfl⟩
theorem amP:gf prog 96 1 1:=λ _ _ _=>⟨by kernel_rfl,by kernel_rfl⟩
theorem amQ:gf prog 96 2 2:=λ _ _ _=>⟨by kernel_rfl,by kernel_rfl⟩
theorem amR:gf prog 96 3 3:=λ _ _ _=>⟨by kernel_rfl,by kernel_rfl⟩
theorem amp:gf prog 116 0 0:=λ _ _ _=>⟨by kernel_rfl,by kernel_rfl⟩
theorem amq:gf prog 119 0 0:=λ _ _ _=>⟨by kernel_rfl,by kernel_rfl⟩
theorem amr:gf prog 122 0 0:=λ _ _ _=>⟨by kernel_rfl,by kernel_rfl⟩
theorem ams:gf prog 122 1 6:=λ _ _ _=>⟨by kernel_rfl,by kernel_rfl⟩
theorem amt:gf prog 192 0 0:=λ _ _ _=>⟨by kernel_rfl,by kernel_rfl⟩
theorem amu:gf prog 192 1 1:=λ _ _ _=>⟨by kernel_rfl,by kernel_rfl⟩
theorem amv:gf prog 194 1 0:=λ _ _ _=>⟨by kernel_rfl,by kernel_rfl⟩
theorem amw:gf prog 199 2 0:=λ _ _ _=>⟨by kernel_rfl,by kernel_rfl⟩
theorem amx:gf prog 201 1 0:=λ _ _ _=>⟨by kernel_rfl,by kernel_rfl⟩
theorem amy:gf prog 201 2 1:=λ _ _ _=>⟨by kernel_rfl,by kernel_rfl⟩
theorem ni:mW prog 22 64 2:=⟨underlying22,λ _=>⟨by kernel_rfl,by kernel_rfl⟩⟩
theorem z8:mW prog 23 41 2:=⟨underlying23,λ _=>⟨by kernel_rfl,by kernel_rfl⟩⟩
theorem sz:mW prog 24 93 2:=⟨underlying24,λ _=>⟨by kernel_rfl,by kernel_rfl⟩⟩
theorem vR:mW prog 25 96 4:=⟨underlying25,λ _=>⟨by kernel_rfl,by kernel_rfl⟩⟩
theorem xY:mW prog 26 59 3:=⟨underlying26,λ _=>⟨by kernel_rfl,by kernel_rfl⟩⟩
theorem q6:mW prog 29 36 1:=⟨underlying29,λ _=>⟨by kernel_rfl,by kernel_rfl⟩⟩
theorem gG:mW prog 36 3 1:=⟨underlying36,λ _=>⟨by kernel_rfl,by kernel_rfl⟩⟩
theorem aeG:mW prog 111 116 3:=⟨underlying111,λ _=>⟨by kernel_rfl,by kernel_rfl⟩⟩
theorem Xj:mW prog 157 145 16:=⟨underlying157,λ _=>⟨by kernel_rfl,by kernel_rfl⟩⟩
theorem DH:uD prog 114 3 3 1:=⟨underlying114,λ _=>⟨by kernel_rfl,by kernel_rfl⟩⟩
theorem qf:uD prog 143 4 4 1:=⟨underlying143,λ _=>⟨by kernel_rfl,by kernel_rfl⟩⟩
theorem uI:uD prog 145 4 143 4:=⟨underlying145,λ _=>⟨by kernel_rfl,by kernel_rfl⟩⟩
theorem DI:uD prog 180 6 125 1:=⟨underlying180,λ _=>⟨by kernel_rfl,by kernel_rfl⟩⟩
theorem q8:uF prog 28 [(0,1),(1,1),(2,1),(3,1),(4,1),(5,1)] #[.int .i64 0,.slice none 0 0,.slice none 0 0,.slice none 0 0,.slice none 0 0,.slice none 0 0]:=⟨⟨.agg #[.int .i64 0,.slice none 0 0,.slice none 0 0,.slice none 0 0,.slice none 0 0,.slice none 0 0],λ _=>⟨by kernel_rfl,by kernel_rfl⟩,rfl⟩,_,underlying28,λ _=>⟨by kernel_rfl,by kernel_rfl⟩⟩
theorem Oh:uF prog 41 [(0,1),(1,1)] #[.int .i64 0,.int .i64 0]:=⟨⟨.agg #[.int .i64 0,.int .i64 0],λ _=>⟨by kernel_rfl,by kernel_rfl⟩,rfl⟩,_,underlying41,λ _=>⟨by kernel_rfl,by kernel_rfl⟩⟩
theorem aeX:uF prog 59 [(0,1),(1,1),(2,1)] #[.int .i64 0,.int .i64 0,.bool false]:=⟨⟨.agg #[.int .i64 0,.int .i64 0,.bool false],λ _=>⟨by kernel_rfl,by kernel_rfl⟩,rfl⟩,_,underlying59,λ _=>⟨by kernel_rfl,by kernel_rfl⟩⟩
theorem Af:uF prog 64 [(0,1),(1,1)] #[.int .i64 0,.int .i64 0]:=⟨⟨.agg #[.int .i64 0,.int .i64 0],λ _=>⟨by kernel_rfl,by kernel_rfl⟩,rfl⟩,_,underlying64,λ _=>⟨by kernel_rfl,by kernel_rfl⟩⟩
theorem aeY:uF prog 93 [(0,1),(1,1)] #[.string ⟨#[]⟩,.int .i64 0]:=⟨⟨.agg #[.string ⟨#[]⟩,.int .i64 0],λ _=>⟨by kernel_rfl,by kernel_rfl⟩,rfl⟩,_,underlying93,λ _=>⟨by kernel_rfl,by kernel_rfl⟩⟩
theorem Xp:uF prog 96 [(0,1),(1,1),(2,1),(3,1)] #[.int .i64 0,.int .i64 0,.int .i64 0,.int .i64 0]:=⟨⟨.agg #[.int .i64 0,.int .i64 0,.int .i64 0,.int .i64 0],λ _=>⟨by kernel_rfl,by kernel_rfl⟩,rfl⟩,_,underlying96,λ _=>⟨by kernel_rfl,by kernel_rfl⟩⟩
theorem q7:uF prog 119 [(0,6)] #[.int .i64 0,.slice none 0 0,.slice none 0 0,.slice none 0 0,.slice none 0 0,.slice none 0 0]:=⟨⟨.agg #[.int .i64 0,.slice none 0 0,.slice none 0 0,.slice none 0 0,.slice none 0 0,.slice none 0 0],λ _=>⟨by kernel_rfl,by kernel_rfl⟩,rfl⟩,_,underlying119,λ _=>⟨by kernel_rfl,by kernel_rfl⟩⟩
theorem Ae:uF prog 122 [(0,6),(6,1)] #[.int .i64 0,.slice none 0 0,.slice none 0 0,.slice none 0 0,.slice none 0 0,.slice none 0 0,.slice none 0 0]:=⟨⟨.agg #[.int .i64 0,.slice none 0 0,.slice none 0 0,.slice none 0 0,.slice none 0 0,.slice none 0 0,.slice none 0 0],λ _=>⟨by kernel_rfl,by kernel_rfl⟩,rfl⟩,_,underlying122,λ _=>⟨by kernel_rfl,by kernel_rfl⟩⟩
theorem K8:Yo prog 145 #[.bool false,.bool false,.bool false,.bool false,.bool false,.bool false,.bool false,.bool false,.bool false,.bool false,.bool false,.bool false,.bool false,.bool false,.bool false,.bool false]:=⟨⟨.agg #[.bool false,.bool false,.bool false,.bool false,.bool false,.bool false,.bool false,.bool false,.bool false,.bool false,.bool false,.bool false,.bool false,.bool false,.bool false,.bool false],λ _=>⟨by kernel_rfl,by kernel_rfl⟩,rfl⟩,_,_,4,underlying145,λ _=>⟨by kernel_rfl,by kernel_rfl⟩⟩
theorem Xh:ai prog (sizeOf 3) 1:=λ _=>⟨by kernel_rfl,by kernel_rfl⟩
theorem AQ:sJ prog 22 64 2 #[.int .i64 0,.int .i64 0]:=⟨underlying22,λ _=>⟨by kernel_rfl,by kernel_rfl⟩,⟨.agg #[.int .i64 0,.int .i64 0],λ _=>⟨by kernel_rfl,by kernel_rfl⟩,rfl⟩,rfl,by decide⟩
theorem aav:sJ prog 23 41 2 #[.int .i64 0,.int .i64 0]:=⟨underlying23,λ _=>⟨by kernel_rfl,by kernel_rfl⟩,⟨.agg #[.int .i64 0,.int .i64 0],λ _=>⟨by kernel_rfl,by kernel_rfl⟩,rfl⟩,rfl,by decide⟩
theorem aaw:sJ prog 24 93 2 #[.string ⟨#[]⟩,.int .i64 0]:=⟨underlying24,λ _=>⟨by kernel_rfl,by kernel_rfl⟩,⟨.agg #[.string ⟨#[]⟩,.int .i64 0],λ _=>⟨by kernel_rfl,by kernel_rfl⟩,rfl⟩,rfl,by decide⟩
theorem aax:sJ prog 25 96 4 #[.int .i64 0,.int .i64 0,.int .i64 0,.int .i64 0]:=⟨underlying25,λ _=>⟨by kernel_rfl,by kernel_rfl⟩,⟨.agg #[.int .i64 0,.int .i64 0,.int .i64 0,.int .i64 0],λ _=>⟨by kernel_rfl,by kernel_rfl⟩,rfl⟩,rfl,by decide⟩
theorem uP:sJ prog 26 59 3 #[.int .i64 0,.int .i64 0,.bool false]:=⟨underlying26,λ _=>⟨by kernel_rfl,by kernel_rfl⟩,⟨.agg #[.int .i64 0,.int .i64 0,.bool false],λ _=>⟨by kernel_rfl,by kernel_rfl⟩,rfl⟩,rfl,by decide⟩
theorem wy:sJ prog 29 36 1 #[.slice none 0 0]:=⟨underlying29,λ _=>⟨by kernel_rfl,by kernel_rfl⟩,⟨.slice none 0 0,λ _=>⟨by kernel_rfl,by kernel_rfl⟩,rfl⟩,rfl,by decide⟩
theorem lp:sJ prog 36 3 1 #[.int .i64 0]:=⟨underlying36,λ _=>⟨by kernel_rfl,by kernel_rfl⟩,⟨.int .i64 0,λ _=>⟨by kernel_rfl,by kernel_rfl⟩,rfl⟩,rfl,by decide⟩
theorem ajM:sJ prog 111 116 3 #[.int .i64 0,.int .i64 0,.int .i64 0]:=⟨underlying111,λ _=>⟨by kernel_rfl,by kernel_rfl⟩,⟨.agg #[.int .i64 0,.int .i64 0,.int .i64 0],λ _=>⟨by kernel_rfl,by kernel_rfl⟩,rfl⟩,rfl,by decide⟩
theorem ajN:sJ prog 157 145 16 #[.bool false,.bool false,.bool false,.bool false,.bool false,.bool false,.bool false,.bool false,.bool false,.bool false,.bool false,.bool false,.bool false,.bool false,.bool false,.bool false]:=⟨underlying157,λ _=>⟨by kernel_rfl,by kernel_rfl⟩,⟨.agg #[.bool false,.bool false,.bool false,.bool false,.bool false,.bool false,.bool false,.bool false,.bool false,.bool false,.bool false,.bool false,.bool false,.bool false,.bool false,.bool false],λ _=>⟨by kernel_rfl,by kernel_rfl⟩,rfl⟩,rfl,by decide⟩
theorem akx:bl prog 20:=⟨⟨Tryz.f20,func20,by decide +kernel,rfl⟩⟩
theorem aaL:bl prog 22:=⟨⟨Tryz.f22,func22,by decide +kernel,rfl⟩⟩
theorem akG:bl prog 23:=⟨⟨Tryz.f23,func23,by decide +kernel,rfl⟩⟩
theorem akI:bl prog 25:=⟨⟨Tryz.f25,func25,by decide +kernel,rfl⟩⟩
theorem Q3:bl prog 27:=⟨⟨Tryz.f27,func27,by decide +kernel,rfl⟩⟩
theorem akX:bl prog 28:=⟨⟨Tryz.f28,func28,by decide +kernel,rfl⟩⟩
theorem Q4:bl prog 30:=⟨⟨Tryz.f30,func30,by decide +kernel,rfl⟩⟩
theorem aaN:bl prog 32:=⟨⟨Tryz.f32,func32,by decide +kernel,rfl⟩⟩
theorem aaO:bl prog 34:=⟨⟨Tryz.f34,func34,by decide +kernel,rfl⟩⟩
theorem akY:bl prog 36:=⟨⟨Tryz.f36,func36,by decide +kernel,rfl⟩⟩
theorem akZ:bl prog 38:=⟨⟨Tryz.f38,func38,by decide +kernel,rfl⟩⟩
theorem ak0:bl prog 39:=⟨⟨Tryz.f39,func39,by decide +kernel,rfl⟩⟩
theorem ak1:bl prog 41:=⟨⟨Tryz.f41,func41,by decide +kernel,rfl⟩⟩
theorem aaP:bl prog 43:=⟨⟨Tryz.f43,func43,by decide +kernel,rfl⟩⟩
theorem Q5:bl prog 46:=⟨⟨Tryz.f46,func46,by decide +kernel,rfl⟩⟩
theorem aaQ:bl prog 48:=⟨⟨Tryz.f48,func48,by decide +kernel,rfl⟩⟩
theorem aaR:bl prog 49:=⟨⟨Tryz.f49,func49,by decide +kernel,rfl⟩⟩
theorem aaS:bl prog 50:=⟨⟨Tryz.f50,func50,by decide +kernel,rfl⟩⟩
theorem aaT:bl prog 51:=⟨⟨Tryz.f51,func51,by decide +kernel,rfl⟩⟩
theorem LS:bl prog 52:=⟨⟨Tryz.f52,func52,by decide +kernel,rfl⟩⟩
theorem ak2:bl prog 53:=⟨⟨Tryz.f53,func53,by decide +kernel,rfl⟩⟩
theorem aaU:bl prog 54:=⟨⟨Tryz.f54,func54,by decide +kernel,rfl⟩⟩
theorem ak3:bl prog 56:=⟨⟨Tryz.f56,func56,by decide +kernel,rfl⟩⟩
theorem aaV:bl prog 58:=⟨⟨Tryz.f58,func58,by decide +kernel,rfl⟩⟩
theorem aaW:bl prog 59:=⟨⟨Tryz.f59,func59,by decide +kernel,rfl⟩⟩
theorem mY:bl prog 60:=⟨⟨Tryz.f60,func60,by decide +kernel,rfl⟩⟩
theorem ak4:bl prog 66:=⟨⟨Tryz.f66,func66,by decide +kernel,rfl⟩⟩
theorem ak5:bl prog 72:=⟨⟨Tryz.f72,func72,by decide +kernel,rfl⟩⟩
theorem ak6:bl prog 73:=⟨⟨Tryz.f73,func73,by decide +kernel,rfl⟩⟩
theorem ak7:bl prog 74:=⟨⟨Tryz.f74,func74,by decide +kernel,rfl⟩⟩
theorem ak8:bl prog 75:=⟨⟨Tryz.f75,func75,by decide +kernel,rfl⟩⟩
theorem ak9:bl prog 76:=⟨⟨Tryz.f76,func76,by decide +kernel,rfl⟩⟩
theorem yX:bl prog 82:=⟨⟨Tryz.f82,func82,by decide +kernel,rfl⟩⟩
theorem ala:bl prog 88:=⟨⟨Tryz.f88,func88,by decide +kernel,rfl⟩⟩
theorem LU:bl prog 89:=⟨⟨Tryz.f89,func89,by decide +kernel,rfl⟩⟩
theorem aaX:bl prog 90:=⟨⟨Tryz.f90,func90,by decide +kernel,rfl⟩⟩
theorem Q6:bl prog 91:=⟨⟨Tryz.f91,func91,by decide +kernel,rfl⟩⟩
theorem LV:bl prog 92:=⟨⟨Tryz.f92,func92,by decide +kernel,rfl⟩⟩
theorem Q7:bl prog 93:=⟨⟨Tryz.f93,func93,by decide +kernel,rfl⟩⟩
theorem oP:bl prog 94:=⟨⟨Tryz.f94,func94,by decide +kernel,rfl⟩⟩
theorem LW:bl prog 95:=⟨⟨Tryz.f95,func95,by decide +kernel,rfl⟩⟩
theorem aaY:bl prog 96:=⟨⟨Tryz.f96,func96,by decide +kernel,rfl⟩⟩
theorem alb:bl prog 97:=⟨⟨Tryz.f97,func97,by decide +kernel,rfl⟩⟩
theorem aaZ:bl prog 98:=⟨⟨Tryz.f98,func98,by decide +kernel,rfl⟩⟩
theorem aaz:bl prog 100:=⟨⟨Tryz.f100,func100,by decide +kernel,rfl⟩⟩
theorem QV:bl prog 102:=⟨⟨Tryz.f102,func102,by decide +kernel,rfl⟩⟩
theorem ajR:bl prog 103:=⟨⟨Tryz.f103,func103,by decide +kernel,rfl⟩⟩
theorem LN:bl prog 104:=⟨⟨Tryz.f104,func104,by decide +kernel,rfl⟩⟩
theorem ajS:bl prog 105:=⟨⟨Tryz.f105,func105,by decide +kernel,rfl⟩⟩
theorem ajT:bl prog 106:=⟨⟨Tryz.f106,func106,by decide +kernel,rfl⟩⟩
theorem yW:bl prog 107:=⟨⟨Tryz.f107,func107,by decide +kernel,rfl⟩⟩
theorem aaA:bl prog 108:=⟨⟨Tryz.f108,func108,by decide +kernel,rfl⟩⟩
theorem LO:bl prog 109:=⟨⟨Tryz.f109,func109,by decide +kernel,rfl⟩⟩
theorem ajU:bl prog 110:=⟨⟨Tryz.f110,func110,by decide +kernel,rfl⟩⟩
theorem QW:bl prog 111:=⟨⟨Tryz.f111,func111,by decide +kernel,rfl⟩⟩
theorem ajV:bl prog 115:=⟨⟨Tryz.f115,func115,by decide +kernel,rfl⟩⟩
theorem ajW:bl prog 116:=⟨⟨Tryz.f116,func116,by decide +kernel,rfl⟩⟩
theorem QX:bl prog 117:=⟨⟨Tryz.f117,func117,by decide +kernel,rfl⟩⟩
theorem ajX:bl prog 118:=⟨⟨Tryz.f118,func118,by decide +kernel,rfl⟩⟩
theorem AR:bl prog 121:=⟨⟨Tryz.f121,func121,by decide +kernel,rfl⟩⟩
theorem LP:bl prog 122:=⟨⟨Tryz.f122,func122,by decide +kernel,rfl⟩⟩
theorem qj:bl prog 123:=⟨⟨Tryz.f123,func123,by decide +kernel,rfl⟩⟩
theorem jF:bl prog 124:=⟨⟨Tryz.f124,func124,by decide +kernel,rfl⟩⟩
theorem aaB:bl prog 126:=⟨⟨Tryz.f126,func126,by decide +kernel,rfl⟩⟩
theorem ajY:bl prog 127:=⟨⟨Tryz.f127,func127,by decide +kernel,rfl⟩⟩
theorem ajZ:bl prog 128:=⟨⟨Tryz.f128,func128,by decide +kernel,rfl⟩⟩
theorem aaC:bl prog 129:=⟨⟨Tryz.f129,func129,by decide +kernel,rfl⟩⟩
theorem QY:bl prog 130:=⟨⟨Tryz.f130,func130,by decide +kernel,rfl⟩⟩
theorem aj0:bl prog 131:=⟨⟨Tryz.f131,func131,by decide +kernel,rfl⟩⟩
theorem aaD:bl prog 132:=⟨⟨Tryz.f132,func132,by decide +kernel,rfl⟩⟩
theorem QZ:bl prog 133:=⟨⟨Tryz.f133,func133,by decide +kernel,rfl⟩⟩
theorem Q0:bl prog 134:=⟨⟨Tryz.f134,func134,by decide +kernel,rfl⟩⟩
theorem aj1:bl prog 135:=⟨⟨Tryz.f135,func135,by decide +kernel,rfl⟩⟩
theorem aj2:bl prog 136:=⟨⟨Tryz.f136,func136,by decide +kernel,rfl⟩⟩
theorem aj3:bl prog 138:=⟨⟨Tryz.f138,func138,by decide +kernel,rfl⟩⟩
theorem mi:bl prog 139:=⟨⟨Tryz.f139,func139,by decide +kernel,rfl⟩⟩
theorem aaE:bl prog 140:=⟨⟨Tryz.f140,func140,by decide +kernel,rfl⟩⟩
theorem aj4:bl prog 141:=⟨⟨Tryz.f141,func141,by decide +kernel,rfl⟩⟩
theorem aj5:bl prog 142:=⟨⟨Tryz.f142,func142,by decide +kernel,rfl⟩⟩
theorem aj6:bl prog 143:=⟨⟨Tryz.f143,func143,by decide +kernel,rfl⟩⟩
theorem aj7:bl prog 144:=⟨⟨Tryz.f144,func144,by decide +kernel,rfl⟩⟩
theorem aj8:bl prog 145:=⟨⟨Tryz.f145,func145,by decide +kernel,rfl⟩⟩
theorem aj9:bl prog 146:=⟨⟨Tryz.f146,func146,by decide +kernel,rfl⟩⟩
theorem aaF:bl prog 149:=⟨⟨Tryz.f149,func149,by decide +kernel,rfl⟩⟩
theorem aka:bl prog 150:=⟨⟨Tryz.f150,func150,by decide +kernel,rfl⟩⟩
theorem Q1:bl prog 151:=⟨⟨Tryz.f151,func151,by decide +kernel,rfl⟩⟩
theorem akb:bl prog 156:=⟨⟨Tryz.f156,func156,by decide +kernel,rfl⟩⟩
theorem akc:bl prog 159:=⟨⟨Tryz.f159,func159,by decide +kernel,rfl⟩⟩
theorem akd:bl prog 160:=⟨⟨Tryz.f160,func160,by decide +kernel,rfl⟩⟩
theorem aaG:bl prog 161:=⟨⟨Tryz.f161,func161,by decide +kernel,rfl⟩⟩
theorem aaH:bl prog 162:=⟨⟨Tryz.f162,func162,by decide +kernel,rfl⟩⟩
theorem DY:bl prog 163:=⟨⟨Tryz.f163,func163,by decide +kernel,rfl⟩⟩
theorem ake:bl prog 164:=⟨⟨Tryz.f164,func164,by decide +kernel,rfl⟩⟩
theorem akf:bl prog 165:=⟨⟨Tryz.f165,func165,by decide +kernel,rfl⟩⟩
theorem LQ:bl prog 166:=⟨⟨Tryz.f166,func166,by decide +kernel,rfl⟩⟩
theorem Q2:bl prog 167:=⟨⟨Tryz.f167,func167,by decide +kernel,rfl⟩⟩
theorem aaI:bl prog 168:=⟨⟨Tryz.f168,func168,by decide +kernel,rfl⟩⟩
theorem aaJ:bl prog 169:=⟨⟨Tryz.f169,func169,by decide +kernel,rfl⟩⟩
theorem akg:bl prog 170:=⟨⟨Tryz.f170,func170,by decide +kernel,rfl⟩⟩
theorem akh:bl prog 172:=⟨⟨Tryz.f172,func172,by decide +kernel,rfl⟩⟩
theorem aki:bl prog 173:=⟨⟨Tryz.f173,func173,by decide +kernel,rfl⟩⟩
theorem akj:bl prog 174:=⟨⟨Tryz.f174,func174,by decide +kernel,rfl⟩⟩
theorem akk:bl prog 175:=⟨⟨Tryz.f175,func175,by decide +kernel,rfl⟩⟩
theorem akl:bl prog 177:=⟨⟨Tryz.f177,func177,by decide +kernel,rfl⟩⟩
theorem akm:bl prog 178:=⟨⟨Tryz.f178,func178,by decide +kernel,rfl⟩⟩
theorem akn:bl prog 179:=⟨⟨Tryz.f179,func179,by decide +kernel,rfl⟩⟩
theorem ako:bl prog 180:=⟨⟨Tryz.f180,func180,by decide +kernel,rfl⟩⟩
theorem akp:bl prog 181:=⟨⟨Tryz.f181,func181,by decide +kernel,rfl⟩⟩
theorem akq:bl prog 182:=⟨⟨Tryz.f182,func182,by decide +kernel,rfl⟩⟩
theorem akr:bl prog 183:=⟨⟨Tryz.f183,func183,by decide +kernel,rfl⟩⟩
theorem aks:bl prog 184:=⟨⟨Tryz.f184,func184,by decide +kernel,rfl⟩⟩
theorem akt:bl prog 186:=⟨⟨Tryz.f186,func186,by decide +kernel,rfl⟩⟩
theorem aku:bl prog 187:=⟨⟨Tryz.f187,func187,by decide +kernel,rfl⟩⟩
theorem akv:bl prog 188:=⟨⟨Tryz.f188,func188,by decide +kernel,rfl⟩⟩
theorem akw:bl prog 189:=⟨⟨Tryz.f189,func189,by decide +kernel,rfl⟩⟩
theorem aky:bl prog 203:=⟨⟨Tryz.f203,func203,by decide +kernel,rfl⟩⟩
theorem akz:bl prog 204:=⟨⟨Tryz.f204,func204,by decide +kernel,rfl⟩⟩
theorem akA:bl prog 211:=⟨⟨Tryz.f211,func211,by decide +kernel,rfl⟩⟩
theorem aaK:bl prog 212:=⟨⟨Tryz.f212,func212,by decide +kernel,rfl⟩⟩
theorem akB:bl prog 213:=⟨⟨Tryz.f213,func213,by decide +kernel,rfl⟩⟩
theorem akC:bl prog 214:=⟨⟨Tryz.f214,func214,by decide +kernel,rfl⟩⟩
theorem akD:bl prog 215:=⟨⟨Tryz.f215,func215,by decide +kernel,rfl⟩⟩
theorem akE:bl prog 221:=⟨⟨Tryz.f221,func221,by decide +kernel,rfl⟩⟩
theorem akF:bl prog 225:=⟨⟨Tryz.f225,func225,by decide +kernel,rfl⟩⟩
theorem akH:bl prog 231:=⟨⟨Tryz.f231,func231,by decide +kernel,rfl⟩⟩
theorem aaM:bl prog 233:=⟨⟨Tryz.f233,func233,by decide +kernel,rfl⟩⟩
theorem LR:bl prog 235:=⟨⟨Tryz.f235,func235,by decide +kernel,rfl⟩⟩
theorem akJ:bl prog 265:=⟨⟨Tryz.f265,func265,by decide +kernel,rfl⟩⟩
theorem akK:bl prog 266:=⟨⟨Tryz.f266,func266,by decide +kernel,rfl⟩⟩
theorem akL:bl prog 267:=⟨⟨Tryz.f267,func267,by decide +kernel,rfl⟩⟩
theorem akM:bl prog 268:=⟨⟨Tryz.f268,func268,by decide +kernel,rfl⟩⟩
theorem akN:bl prog 269:=⟨⟨Tryz.f269,func269,by decide +kernel,rfl⟩⟩
theorem akO:bl prog 270:=⟨⟨Tryz.f270,func270,by decide +kernel,rfl⟩⟩
theorem akP:bl prog 271:=⟨⟨Tryz.f271,func271,by decide +kernel,rfl⟩⟩
theorem akQ:bl prog 272:=⟨⟨Tryz.f272,func272,by decide +kernel,rfl⟩⟩
theorem akR:bl prog 273:=⟨⟨Tryz.f273,func273,by decide +kernel,rfl⟩⟩
theorem akS:bl prog 274:=⟨⟨Tryz.f274,func274,by decide +kernel,rfl⟩⟩
theorem akT:bl prog 275:=⟨⟨Tryz.f275,func275,by decide +kernel,rfl⟩⟩
theorem akU:bl prog 276:=⟨⟨Tryz.f276,func276,by decide +kernel,rfl⟩⟩
theorem akV:bl prog 277:=⟨⟨Tryz.f277,func277,by decide +kernel,rfl⟩⟩
theorem akW:bl prog 278:=⟨⟨Tryz.f278,func278,by decide +kernel,rfl⟩⟩
end Go.Proofs.YtihapemckcdicaaGreatDoor
namespace Go.Proofs.YtihapemckcdicaaGreatDoor
open Go.Lg Go.Proofs Tryz
def WN:Nat→Nat→Option Nat
 | 28,0=>some 0
 | 28,1=>some 1
 | 28,2=>some 2
 | 28,3=>some 3
 | 28,4=>some 4
 | 28,5=>some 5
 | 41,0=>some 0
 | 41,1=>some 1
 | 59,0=>some 0
 | 59,1=>some 1
 | 59,2=>some 2
 | 64,0=>some 0
 | 64,1=>some 1
 | 93,0=>some 0
 | 93,1=>some 1
 | 96,0=>some 0
 | 96,1=>some 1
 | 96,2=>some 2
 | 96,3=>some 3
 | 116,0=>some 0
 | 119,0=>some 0
 | 122,0=>some 0
 | 122,1=>some 6
 | 192,0=>some 0
 | 192,1=>some 1
 | 194,1=>some 0
 | 199,2=>some 0
 | 201,1=>some 0
 | 201,2=>some 1
 | _,_=>none
theorem aBK(s f n:Nat)(h:WN s f=some n):gf prog s f n:=by
 unfold WN at h
 split at h
 ·cases h; exact amz
 ·cases h; exact amA
 ·cases h; exact amB
 ·cases h; exact amC
 ·cases h; exact amD
 ·cases h; exact amE
 ·cases h; exact amF
 ·cases h; exact amG
 ·cases h; exact amH
 ·cases h; exact amI
 ·cases h; exact amJ
 ·cases h; exact amK
 ·cases h; exact amL
 ·cases h; exact amM
 ·cases h; exact amN
 ·cases h; exact amO
 ·cases h; exact amP
 ·cases h; exact amQ
 ·cases h; exact amR
 ·cases h; exact amp
 ·cases h; exact amq
 ·cases h; exact amr
 ·cases h; exact ams
 ·cases h; exact amt
 ·cases h; exact amu
 ·cases h; exact amv
 ·cases h; exact amw
 ·cases h; exact amx
 ·cases h; exact amy
 ·cases h
instance:mg prog:=⟨WN,aBK⟩
end Go.Proofs.YtihapemckcdicaaGreatDoor
namespace Go.Proofs.YtihapemckcdicaaGreatDoor
open Go.Lg Go.Proofs Tryz
set_option maxRecDepth 100000
abbrev iv(z:Int):Value:=.int .i64 z
theorem xo{P:Program}{e:Nat}(h:(P.info? e).any (λ i=>decide (i.bytes≤65536))=true):∃ i,P.info? e=some i∧i.bytes≤65536:=by
 cases hi:P.info? e with
 | none=>rw [hi] at h; cases h
 | some i=>rw [hi] at h; exact ⟨i,rfl,by simpa using h⟩
structure da where
 cF:Int
 dS:Int
def bC:cB da:=λ _ x es=>es=[iv x.cF,iv x.dS]
instance:CM bC:=⟨λ hR h=>by obtain rfl:=h; exact rfl,λ h=>by obtain rfl:=h; simp [Value.oneCell']⟩
structure Reach where
 cj:Int
 dh:Int
def bJ:cB Reach:=λ _ x es=>es=[iv x.cj,iv x.dh]
instance:CM bJ:=⟨λ hR h=>by obtain rfl:=h; exact rfl,λ h=>by obtain rfl:=h; simp [Value.oneCell']⟩
structure eQ where
 Name:ByteArray
 np:Int
def bF:cB eQ:=λ _ x es=>es=[.string x.Name,iv x.np]
instance:CM bF:=⟨λ hR h=>by obtain rfl:=h; exact rfl,λ h=>by obtain rfl:=h; simp [Value.oneCell']⟩
structure ll where
 Place:Int
 lj:Int
 kD:Int
 aH:Int
def bK:cB ll:=λ _ x es=>es=[iv x.Place,iv x.lj,iv x.kD,iv x.aH]
instance:CM bK:=⟨λ hR h=>by obtain rfl:=h; exact rfl,λ h=>by obtain rfl:=h; simp [Value.oneCell']⟩
structure cz where
 Place:Int
 fW:Int
 jC:Bool
def bz:cB cz:=λ _ x es=>es=[iv x.Place,iv x.fW,.bool x.jC]
instance:CM bz:=⟨λ hR h=>by obtain rfl:=h; exact rfl,λ h=>by obtain rfl:=h; simp [Value.oneCell']⟩
structure ao where
 Rest:Int
 Rows:(List da)
 aO:(List Reach)
 aH:(List eQ)
 aR:(List ll)
 aN:(List cz)
def Pv:cB ao:=λ R x es=>∃ OM ON OO OP OQ,aa bC 2 R OM x.Rows∧aa bJ 2 R ON x.aO∧aa bF 2 R OO x.aH∧aa bK 4 R OP x.aR∧aa bz 3 R OQ x.aN∧es=[iv x.Rest,OM,ON,OO,OP,OQ]
instance:CM Pv:=⟨λ hR h=>by obtain ⟨OM,ON,OO,OP,OQ,SZ,S0,S1,S2,S3,rfl⟩:=h; exact ⟨_,_,_,_,_,SZ.mono hR,S0.mono hR,S1.mono hR,S2.mono hR,S3.mono hR,rfl⟩,λ h=>by obtain ⟨OM,ON,OO,OP,OQ,SZ,S0,S1,S2,S3,rfl⟩:=h; intro u hu; simp only [List.mem_cons,List.not_mem_nil,or_false] at hu; rcases hu with rfl | rfl | rfl | rfl | rfl | rfl <;> first | rfl | exact SZ.one | exact S0.one | exact S1.one | exact S2.one | exact S3.one⟩
structure bt where
 deep:(List Int)
def fA:cB bt:=λ _ x es=>x.deep.length=3∧es=([]++(x.deep.map (Value.int .i64)++[]))
instance:CM fA:=⟨λ hR h=>by obtain ⟨ac5,rfl⟩:=h; exact ⟨ac5,rfl⟩,λ h=>by obtain ⟨ac5,rfl⟩:=h; simp [Value.oneCell']⟩
structure b8 where
 book:ao
 eV:(List bt)
theorem four{α:Type}{l:List α}(h:l.length=4):∃ a b c d,l=[a,b,c,d]:=by
 match l,h with
 | [a,b,c,d],_=>exact ⟨a,b,c,d,rfl⟩
theorem aEx{P:Program}{d:Nat}{t:TypeId}{a b:ByteArray}(hu:P.underlying t=some .string):ai P (Op.equalIn (d+1) t (.string a) (.string b)) (a == b):=by
 rw [Op.equalIn]
 exact ai.bind (ai.underlying hu) (ai.pure _)
theorem abF:prog.eqGuardType prog.depth 41=false:=by decide +kernel
def Hi(x y:Reach):Bool:=(x.cj == y.cj && (x.dh == y.dh && true))
theorem aa2(x y:Reach):ai prog (Op.equal 41 (.agg #[iv x.cj,iv x.dh]) (.agg #[iv y.cj,iv y.dh])) (Hi x y):=Kj (d:=9999) underlying41 (by decide +kernel) (.cons rfl (λ _=>⟨by kernel_rfl,by kernel_rfl⟩) (λ _=>⟨by kernel_rfl,by kernel_rfl⟩) (um underlying3) (.cons rfl (λ _=>⟨by kernel_rfl,by kernel_rfl⟩) (λ _=>⟨by kernel_rfl,by kernel_rfl⟩) (um underlying3) .nil))
theorem L6:prog.eqGuardType prog.depth 64=false:=by decide +kernel
def AT(x y:da):Bool:=(x.cF == y.cF && (x.dS == y.dS && true))
theorem LY(x y:da):ai prog (Op.equal 64 (.agg #[iv x.cF,iv x.dS]) (.agg #[iv y.cF,iv y.dS])) (AT x y):=Kj (d:=9999) underlying64 (by decide +kernel) (.cons rfl (λ _=>⟨by kernel_rfl,by kernel_rfl⟩) (λ _=>⟨by kernel_rfl,by kernel_rfl⟩) (um underlying3) (.cons rfl (λ _=>⟨by kernel_rfl,by kernel_rfl⟩) (λ _=>⟨by kernel_rfl,by kernel_rfl⟩) (um underlying3) .nil))
theorem am5:prog.eqGuardType prog.depth 93=false:=by decide +kernel
def Rc(x y:eQ):Bool:=(x.Name == y.Name && (x.np == y.np && true))
theorem alj(x y:eQ):ai prog (Op.equal 93 (.agg #[.string x.Name,iv x.np]) (.agg #[.string y.Name,iv y.np])) (Rc x y):=Kj (d:=9999) underlying93 (by decide +kernel) (.cons rfl (λ _=>⟨by kernel_rfl,by kernel_rfl⟩) (λ _=>⟨by kernel_rfl,by kernel_rfl⟩) (aEx underlying9) (.cons rfl (λ _=>⟨by kernel_rfl,by kernel_rfl⟩) (λ _=>⟨by kernel_rfl,by kernel_rfl⟩) (um underlying3) .nil))
theorem am6:prog.eqGuardType prog.depth 96=false:=by decide +kernel
def Rb(x y:ll):Bool:=(x.Place == y.Place && (x.lj == y.lj && (x.kD == y.kD && (x.aH == y.aH && true))))
theorem alk(x y:ll):ai prog (Op.equal 96 (.agg #[iv x.Place,iv x.lj,iv x.kD,iv x.aH]) (.agg #[iv y.Place,iv y.lj,iv y.kD,iv y.aH])) (Rb x y):=Kj (d:=9999) underlying96 (by decide +kernel) (.cons rfl (λ _=>⟨by kernel_rfl,by kernel_rfl⟩) (λ _=>⟨by kernel_rfl,by kernel_rfl⟩) (um underlying3) (.cons rfl (λ _=>⟨by kernel_rfl,by kernel_rfl⟩) (λ _=>⟨by kernel_rfl,by kernel_rfl⟩) (um underlying3) (.cons rfl (λ _=>⟨by kernel_rfl,by kernel_rfl⟩) (λ _=>⟨by kernel_rfl,by kernel_rfl⟩) (um underlying3) (.cons rfl (λ _=>⟨by kernel_rfl,by kernel_rfl⟩) (λ _=>⟨by kernel_rfl,by kernel_rfl⟩) (um underlying3) .nil))))
theorem am4:prog.eqGuardType prog.depth 59=false:=by decide +kernel
def Rd(x y:cz):Bool:=(x.Place == y.Place && (x.fW == y.fW && (x.jC == y.jC && true)))
theorem ali(x y:cz):ai prog (Op.equal 59 (.agg #[iv x.Place,iv x.fW,.bool x.jC]) (.agg #[iv y.Place,iv y.fW,.bool y.jC])) (Rd x y):=Kj (d:=9999) underlying59 (by decide +kernel) (.cons rfl (λ _=>⟨by kernel_rfl,by kernel_rfl⟩) (λ _=>⟨by kernel_rfl,by kernel_rfl⟩) (um underlying3) (.cons rfl (λ _=>⟨by kernel_rfl,by kernel_rfl⟩) (λ _=>⟨by kernel_rfl,by kernel_rfl⟩) (um underlying3) (.cons rfl (λ _=>⟨by kernel_rfl,by kernel_rfl⟩) (λ _=>⟨by kernel_rfl,by kernel_rfl⟩) (Ki underlying4) .nil)))
theorem am3:prog.eqGuardType prog.depth 143=false:=by decide +kernel
def Ra(x y:List Bool):Bool:=x == y
theorem alh{x y:List Bool}(hx:x.length=4)(hy:y.length=4):ai prog (Op.equal 143 (.agg (List.toArray ([]++(x.map Value.bool++[])))) (.agg (List.toArray ([]++(y.map Value.bool++[]))))) (Ra x y):=by
 obtain ⟨a0,a1,a2,a3,rfl⟩:=four hx
 obtain ⟨b0,b1,b2,b3,rfl⟩:=four hy
 have hw:([a0,a1,a2,a3] == [b0,b1,b2,b3])=((a0 == b0) && ((a1 == b1) && ((a2 == b2) && ((a3 == b3) && true)))):=by simp
 unfold Ra
 rw [hw]
 refine aEw (d:=9999) (n:=1) underlying143 (λ _=>⟨by kernel_rfl,by kernel_rfl⟩) ?_
 refine .cons (i:=0) (rest:=[1,2,3]) (λ _=>⟨by kernel_rfl,by kernel_rfl⟩) (λ _=>⟨by kernel_rfl,by kernel_rfl⟩) (Ki underlying4) ?_
 refine .cons (i:=1) (rest:=[2,3]) (λ _=>⟨by kernel_rfl,by kernel_rfl⟩) (λ _=>⟨by kernel_rfl,by kernel_rfl⟩) (Ki underlying4) ?_
 refine .cons (i:=2) (rest:=[3]) (λ _=>⟨by kernel_rfl,by kernel_rfl⟩) (λ _=>⟨by kernel_rfl,by kernel_rfl⟩) (Ki underlying4) ?_
 refine .cons (i:=3) (rest:=[]) (λ _=>⟨by kernel_rfl,by kernel_rfl⟩) (λ _=>⟨by kernel_rfl,by kernel_rfl⟩) (Ki underlying4) ?_
 exact .nil
theorem DG:sI prog 22 64 2:=⟨underlying22,λ _=>⟨by kernel_rfl,by kernel_rfl⟩,xo (by decide +kernel),⟨.agg #[.int .i64 0,.int .i64 0],λ _=>⟨by kernel_rfl,by kernel_rfl⟩,rfl⟩⟩
theorem aiA:sI prog 23 41 2:=⟨underlying23,λ _=>⟨by kernel_rfl,by kernel_rfl⟩,xo (by decide +kernel),⟨.agg #[.int .i64 0,.int .i64 0],λ _=>⟨by kernel_rfl,by kernel_rfl⟩,rfl⟩⟩
theorem aiB:sI prog 24 93 2:=⟨underlying24,λ _=>⟨by kernel_rfl,by kernel_rfl⟩,xo (by decide +kernel),⟨.agg #[.string ⟨#[]⟩,.int .i64 0],λ _=>⟨by kernel_rfl,by kernel_rfl⟩,rfl⟩⟩
theorem aiC:sI prog 25 96 4:=⟨underlying25,λ _=>⟨by kernel_rfl,by kernel_rfl⟩,xo (by decide +kernel),⟨.agg #[.int .i64 0,.int .i64 0,.int .i64 0,.int .i64 0],λ _=>⟨by kernel_rfl,by kernel_rfl⟩,rfl⟩⟩
theorem sR:sI prog 26 59 3:=⟨underlying26,λ _=>⟨by kernel_rfl,by kernel_rfl⟩,xo (by decide +kernel),⟨.agg #[.int .i64 0,.int .i64 0,.bool false],λ _=>⟨by kernel_rfl,by kernel_rfl⟩,rfl⟩⟩
theorem K7:sI prog 29 36 1:=⟨underlying29,λ _=>⟨by kernel_rfl,by kernel_rfl⟩,xo (by decide +kernel),⟨.slice none 0 0,λ _=>⟨by kernel_rfl,by kernel_rfl⟩,rfl⟩⟩
theorem yK:sI prog 36 3 1:=⟨underlying36,λ _=>⟨by kernel_rfl,by kernel_rfl⟩,xo (by decide +kernel),⟨.int .i64 0,λ _=>⟨by kernel_rfl,by kernel_rfl⟩,rfl⟩⟩
theorem aiy:sI prog 111 116 3:=⟨underlying111,λ _=>⟨by kernel_rfl,by kernel_rfl⟩,xo (by decide +kernel),⟨.agg #[.int .i64 0,.int .i64 0,.int .i64 0],λ _=>⟨by kernel_rfl,by kernel_rfl⟩,rfl⟩⟩
theorem aiz:sI prog 157 145 16:=⟨underlying157,λ _=>⟨by kernel_rfl,by kernel_rfl⟩,xo (by decide +kernel),⟨.agg #[.bool false,.bool false,.bool false,.bool false,.bool false,.bool false,.bool false,.bool false,.bool false,.bool false,.bool false,.bool false,.bool false,.bool false,.bool false,.bool false],λ _=>⟨by kernel_rfl,by kernel_rfl⟩,rfl⟩⟩
theorem aiY:(Array.range (0 * 2)).map ((#[.int .i64 0,.int .i64 0]:Array Value)[· % (#[.int .i64 0,.int .i64 0]:Array Value).size]!)=#[]:=by kernel_rfl
theorem G0:(Array.range (1 * 2)).map ((#[.int .i64 0,.int .i64 0]:Array Value)[· % (#[.int .i64 0,.int .i64 0]:Array Value).size]!)=#[.int .i64 0,.int .i64 0]:=by kernel_rfl
theorem aiZ:(Array.range (2 * 2)).map ((#[.int .i64 0,.int .i64 0]:Array Value)[· % (#[.int .i64 0,.int .i64 0]:Array Value).size]!)=#[.int .i64 0,.int .i64 0,.int .i64 0,.int .i64 0]:=by kernel_rfl
theorem ai0:(Array.range (0 * 2)).map ((#[.int .i64 0,.int .i64 0]:Array Value)[· % (#[.int .i64 0,.int .i64 0]:Array Value).size]!)=#[]:=by kernel_rfl
theorem ai1:(Array.range (2 * 2)).map ((#[.int .i64 0,.int .i64 0]:Array Value)[· % (#[.int .i64 0,.int .i64 0]:Array Value).size]!)=#[.int .i64 0,.int .i64 0,.int .i64 0,.int .i64 0]:=by kernel_rfl
theorem ai2:(Array.range (0 * 2)).map ((#[.string ⟨#[]⟩,.int .i64 0]:Array Value)[· % (#[.string ⟨#[]⟩,.int .i64 0]:Array Value).size]!)=#[]:=by kernel_rfl
theorem ai3:(Array.range (2 * 2)).map ((#[.string ⟨#[]⟩,.int .i64 0]:Array Value)[· % (#[.string ⟨#[]⟩,.int .i64 0]:Array Value).size]!)=#[.string ⟨#[]⟩,.int .i64 0,.string ⟨#[]⟩,.int .i64 0]:=by kernel_rfl
theorem ai4:(Array.range (0 * 4)).map ((#[.int .i64 0,.int .i64 0,.int .i64 0,.int .i64 0]:Array Value)[· % (#[.int .i64 0,.int .i64 0,.int .i64 0,.int .i64 0]:Array Value).size]!)=#[]:=by kernel_rfl
theorem ai5:(Array.range (3 * 4)).map ((#[.int .i64 0,.int .i64 0,.int .i64 0,.int .i64 0]:Array Value)[· % (#[.int .i64 0,.int .i64 0,.int .i64 0,.int .i64 0]:Array Value).size]!)=#[.int .i64 0,.int .i64 0,.int .i64 0,.int .i64 0,.int .i64 0,.int .i64 0,.int .i64 0,.int .i64 0,.int .i64 0,.int .i64 0,.int .i64 0,.int .i64 0]:=by kernel_rfl
theorem Qk:(Array.range (0 * 3)).map ((#[.int .i64 0,.int .i64 0,.bool false]:Array Value)[· % (#[.int .i64 0,.int .i64 0,.bool false]:Array Value).size]!)=#[]:=by kernel_rfl
theorem AN:(Array.range (1 * 3)).map ((#[.int .i64 0,.int .i64 0,.bool false]:Array Value)[· % (#[.int .i64 0,.int .i64 0,.bool false]:Array Value).size]!)=#[.int .i64 0,.int .i64 0,.bool false]:=by kernel_rfl
theorem DS:(Array.range (1 * 1)).map ((#[.slice none 0 0]:Array Value)[· % (#[.slice none 0 0]:Array Value).size]!)=#[.slice none 0 0]:=by kernel_rfl
theorem Ql:(Array.range (3 * 1)).map ((#[.slice none 0 0]:Array Value)[· % (#[.slice none 0 0]:Array Value).size]!)=#[.slice none 0 0,.slice none 0 0,.slice none 0 0]:=by kernel_rfl
theorem Zw:(Array.range (0 * 1)).map ((#[.int .i64 0]:Array Value)[· % (#[.int .i64 0]:Array Value).size]!)=#[]:=by kernel_rfl
theorem pI:(Array.range (1 * 1)).map ((#[.int .i64 0]:Array Value)[· % (#[.int .i64 0]:Array Value).size]!)=#[.int .i64 0]:=by kernel_rfl
theorem G1:(Array.range (2 * 1)).map ((#[.int .i64 0]:Array Value)[· % (#[.int .i64 0]:Array Value).size]!)=#[.int .i64 0,.int .i64 0]:=by kernel_rfl
theorem aiW:(Array.range (1 * 3)).map ((#[.int .i64 0,.int .i64 0,.int .i64 0]:Array Value)[· % (#[.int .i64 0,.int .i64 0,.int .i64 0]:Array Value).size]!)=#[.int .i64 0,.int .i64 0,.int .i64 0]:=by kernel_rfl
theorem aiX:(Array.range (1 * 16)).map ((#[.bool false,.bool false,.bool false,.bool false,.bool false,.bool false,.bool false,.bool false,.bool false,.bool false,.bool false,.bool false,.bool false,.bool false,.bool false,.bool false]:Array Value)[· % (#[.bool false,.bool false,.bool false,.bool false,.bool false,.bool false,.bool false,.bool false,.bool false,.bool false,.bool false,.bool false,.bool false,.bool false,.bool false,.bool false]:Array Value).size]!)=#[.bool false,.bool false,.bool false,.bool false,.bool false,.bool false,.bool false,.bool false,.bool false,.bool false,.bool false,.bool false,.bool false,.bool false,.bool false,.bool false]:=by kernel_rfl
theorem WC:KU prog 206 3 3:=⟨underlying206,underlying3,λ e a=>λ _=>⟨by kernel_rfl,by kernel_rfl⟩,λ _=>⟨by kernel_rfl,by kernel_rfl⟩⟩
abbrev iA(R:ax):Prop:=aQ R [] 0 0 [.func (.func 265) #[] #[],.func (.func 266) #[] #[],.func (.func 267) #[] #[],.func (.func 268) #[] #[],.func (.func 269) #[] #[],.func (.func 270) #[] #[]]
theorem iA.mono{R R':ax}(h:iA R)(hR:aS R R'):iA R':=aQ.up (H:=[]) h hR
theorem iA.any{R:ax}{H:an}(h:iA R):aQ R H 0 0 [.func (.func 265) #[] #[],.func (.func 266) #[] #[],.func (.func 267) #[] #[],.func (.func 268) #[] #[],.func (.func 269) #[] #[],.func (.func 270) #[] #[]]:=aQ.any h
theorem mixed:prog.follows .mixedOrders=true:=by kernel_rfl
end Go.Proofs.YtihapemckcdicaaGreatDoor
