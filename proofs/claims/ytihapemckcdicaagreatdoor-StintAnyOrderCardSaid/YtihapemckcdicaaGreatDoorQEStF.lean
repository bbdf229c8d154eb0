/- Closed facts on the program; the structs of the models. Conditions: none. -/
import Derived.Test.YtihapemckcdicaaGreatDoorQELgC
import Derived.Test.YtihapemckcdicaaGreatDoorQELgE
import Derived.Test.YtihapemckcdicaaGreatDoorProg
import Derived.KernelRfl
namespace Go.Proofs.YtihapemckcdicaaGreatDoor
open Go.Lg Go.Proofs Tryz
theorem bt:ic prog 3:=⟨λ _=>⟨by kernel_rfl,by kernel_rfl⟩,λ _=>⟨by kernel_rfl,by kernel_rfl⟩⟩
theorem iW:ic prog 4:=⟨λ _=>⟨by kernel_rfl,by kernel_rfl⟩,λ _=>⟨by kernel_rfl,by kernel_rfl⟩⟩
theorem Df:ic prog 9:=⟨λ _=>⟨by kernel_rfl,by kernel_rfl⟩,λ _=>⟨by kernel_rfl,by kernel_rfl⟩⟩
theorem Gd:ic prog 21:=⟨λ _=>⟨by kernel_rfl,by kernel_rfl⟩,λ _=>⟨by kernel_rfl,by kernel_rfl⟩⟩
theorem gF:ic prog 22:=⟨λ _=>⟨by kernel_rfl,by kernel_rfl⟩,λ _=>⟨by kernel_rfl,by kernel_rfl⟩⟩
theorem mc:ic prog 23:=⟨λ _=>⟨by kernel_rfl,by kernel_rfl⟩,λ _=>⟨by kernel_rfl,by kernel_rfl⟩⟩
theorem fI:ic prog 24:=⟨λ _=>⟨by kernel_rfl,by kernel_rfl⟩,λ _=>⟨by kernel_rfl,by kernel_rfl⟩⟩
theorem fx:ic prog 25:=⟨λ _=>⟨by kernel_rfl,by kernel_rfl⟩,λ _=>⟨by kernel_rfl,by kernel_rfl⟩⟩
theorem ll:ic prog 26:=⟨λ _=>⟨by kernel_rfl,by kernel_rfl⟩,λ _=>⟨by kernel_rfl,by kernel_rfl⟩⟩
theorem De:ic prog 29:=⟨λ _=>⟨by kernel_rfl,by kernel_rfl⟩,λ _=>⟨by kernel_rfl,by kernel_rfl⟩⟩
theorem yw:ic prog 33:=⟨λ _=>⟨by kernel_rfl,by kernel_rfl⟩,λ _=>⟨by kernel_rfl,by kernel_rfl⟩⟩
theorem vF:ic prog 36:=⟨λ _=>⟨by kernel_rfl,by kernel_rfl⟩,λ _=>⟨by kernel_rfl,by kernel_rfl⟩⟩
theorem rN:ic prog 111:=⟨λ _=>⟨by kernel_rfl,by kernel_rfl⟩,λ _=>⟨by kernel_rfl,by kernel_rfl⟩⟩
theorem Gc:ic prog 125:=⟨λ _=>⟨by kernel_rfl,by kernel_rfl⟩,λ _=>⟨by kernel_rfl,by kernel_rfl⟩⟩
theorem aBL:ic prog 140:=⟨λ _=>⟨by kernel_rfl,by kernel_rfl⟩,λ _=>⟨by kernel_rfl,by kernel_rfl⟩⟩
theorem OE:ic prog 148:=⟨λ _=>⟨by kernel_rfl,by kernel_rfl⟩,λ _=>⟨by kernel_rfl,by kernel_rfl⟩⟩
theorem Xn:ic prog 157:=⟨λ _=>⟨by kernel_rfl,by kernel_rfl⟩,λ _=>⟨by kernel_rfl,by kernel_rfl⟩⟩
theorem Xo:ic prog 166:=⟨λ _=>⟨by kernel_rfl,by kernel_rfl⟩,λ _=>⟨by kernel_rfl,by kernel_rfl⟩⟩
theorem aBM:ic prog 186:=⟨λ _=>⟨by kernel_rfl,by kernel_rfl⟩,λ _=>⟨by kernel_rfl,by kernel_rfl⟩⟩
theorem Xp:ic prog 187:=⟨λ _=>⟨by kernel_rfl,by kernel_rfl⟩,λ _=>⟨by kernel_rfl,by kernel_rfl⟩⟩
theorem aBN:ic prog 214:=⟨λ _=>⟨by kernel_rfl,by kernel_rfl⟩,λ _=>⟨by kernel_rfl,by kernel_rfl⟩⟩
theorem bH:nA prog 28 6:=⟨λ _=>⟨by kernel_rfl,by kernel_rfl⟩,λ _=>⟨by kernel_rfl,by kernel_rfl⟩⟩
theorem nZ:nA prog 41 2:=⟨λ _=>⟨by kernel_rfl,by kernel_rfl⟩,λ _=>⟨by kernel_rfl,by kernel_rfl⟩⟩
theorem Bn:nA prog 59 3:=⟨λ _=>⟨by kernel_rfl,by kernel_rfl⟩,λ _=>⟨by kernel_rfl,by kernel_rfl⟩⟩
theorem n6:nA prog 64 2:=⟨λ _=>⟨by kernel_rfl,by kernel_rfl⟩,λ _=>⟨by kernel_rfl,by kernel_rfl⟩⟩
theorem Ee:nA prog 93 2:=⟨λ _=>⟨by kernel_rfl,by kernel_rfl⟩,λ _=>⟨by kernel_rfl,by kernel_rfl⟩⟩
theorem nR:nA prog 96 4:=⟨λ _=>⟨by kernel_rfl,by kernel_rfl⟩,λ _=>⟨by kernel_rfl,by kernel_rfl⟩⟩
theorem qs:nA prog 116 3:=⟨λ _=>⟨by kernel_rfl,by kernel_rfl⟩,λ _=>⟨by kernel_rfl,by kernel_rfl⟩⟩
theorem gT:nA prog 119 6:=⟨λ _=>⟨by kernel_rfl,by kernel_rfl⟩,λ _=>⟨by kernel_rfl,by kernel_rfl⟩⟩
theorem dL:nA prog 122 7:=⟨λ _=>⟨by kernel_rfl,by kernel_rfl⟩,λ _=>⟨by kernel_rfl,by kernel_rfl⟩⟩
theorem ft:nA prog 143 4:=⟨λ _=>⟨by kernel_rfl,by kernel_rfl⟩,λ _=>⟨by kernel_rfl,by kernel_rfl⟩⟩
theorem cF:nA prog 145 16:=⟨λ _=>⟨by kernel_rfl,by kernel_rfl⟩,λ _=>⟨by kernel_rfl,by kernel_rfl⟩⟩
theorem alR:nA prog 180 6:=⟨λ _=>⟨by kernel_rfl,by kernel_rfl⟩,λ _=>⟨by kernel_rfl,by kernel_rfl⟩⟩
theorem GL:jC prog 3 #[.int .i64 0]:=⟨.int .i64 0,λ _=>⟨by kernel_rfl,by kernel_rfl⟩,rfl⟩
theorem YF:jC prog 4 #[.bool false]:=⟨.bool false,λ _=>⟨by kernel_rfl,by kernel_rfl⟩,rfl⟩
theorem qQ:jC prog 28 #[.int .i64 0,.slice none 0 0,.slice none 0 0,.slice none 0 0,.slice none 0 0,.slice none 0 0]:=⟨.agg #[.int .i64 0,.slice none 0 0,.slice none 0 0,.slice none 0 0,.slice none 0 0,.slice none 0 0],λ _=>⟨by kernel_rfl,by kernel_rfl⟩,rfl⟩
theorem aFn:jC prog 29 #[.slice none 0 0]:=⟨.slice none 0 0,λ _=>⟨by kernel_rfl,by kernel_rfl⟩,rfl⟩
theorem aFo:jC prog 33 #[.int .i64 0]:=⟨.int .i64 0,λ _=>⟨by kernel_rfl,by kernel_rfl⟩,rfl⟩
theorem Lq:jC prog 41 #[.int .i64 0,.int .i64 0]:=⟨.agg #[.int .i64 0,.int .i64 0],λ _=>⟨by kernel_rfl,by kernel_rfl⟩,rfl⟩
theorem aFp:jC prog 59 #[.int .i64 0,.int .i64 0,.bool false]:=⟨.agg #[.int .i64 0,.int .i64 0,.bool false],λ _=>⟨by kernel_rfl,by kernel_rfl⟩,rfl⟩
theorem Lr:jC prog 64 #[.int .i64 0,.int .i64 0]:=⟨.agg #[.int .i64 0,.int .i64 0],λ _=>⟨by kernel_rfl,by kernel_rfl⟩,rfl⟩
theorem aFq:jC prog 93 #[.string ⟨#[]⟩,.int .i64 0]:=⟨.agg #[.string ⟨#[]⟩,.int .i64 0],λ _=>⟨by kernel_rfl,by kernel_rfl⟩,rfl⟩
theorem A3:jC prog 96 #[.int .i64 0,.int .i64 0,.int .i64 0,.int .i64 0]:=⟨.agg #[.int .i64 0,.int .i64 0,.int .i64 0,.int .i64 0],λ _=>⟨by kernel_rfl,by kernel_rfl⟩,rfl⟩
theorem PY:jC prog 116 #[.int .i64 0,.int .i64 0,.int .i64 0]:=⟨.agg #[.int .i64 0,.int .i64 0,.int .i64 0],λ _=>⟨by kernel_rfl,by kernel_rfl⟩,rfl⟩
theorem agI:jC prog 119 #[.int .i64 0,.slice none 0 0,.slice none 0 0,.slice none 0 0,.slice none 0 0,.slice none 0 0]:=⟨.agg #[.int .i64 0,.slice none 0 0,.slice none 0 0,.slice none 0 0,.slice none 0 0,.slice none 0 0],λ _=>⟨by kernel_rfl,by kernel_rfl⟩,rfl⟩
theorem nJ:jC prog 122 #[.int .i64 0,.slice none 0 0,.slice none 0 0,.slice none 0 0,.slice none 0 0,.slice none 0 0,.slice none 0 0]:=⟨.agg #[.int .i64 0,.slice none 0 0,.slice none 0 0,.slice none 0 0,.slice none 0 0,.slice none 0 0,.slice none 0 0],λ _=>⟨by kernel_rfl,by kernel_rfl⟩,rfl⟩
theorem lj:jC prog 143 #[.bool false,.bool false,.bool false,.bool false]:=⟨.agg #[.bool false,.bool false,.bool false,.bool false],λ _=>⟨by kernel_rfl,by kernel_rfl⟩,rfl⟩
theorem iM:jC prog 145 #[.bool false,.bool false,.bool false,.bool false,.bool false,.bool false,.bool false,.bool false,.bool false,.bool false,.bool false,.bool false,.bool false,.bool false,.bool false,.bool false]:=⟨.agg #[.bool false,.bool false,.bool false,.bool false,.bool false,.bool false,.bool false,.bool false,.bool false,.bool false,.bool false,.bool false,.bool false,.bool false,.bool false,.bool false],λ _=>⟨by kernel_rfl,by kernel_rfl⟩,rfl⟩
theorem aFi:jC prog 148 #[.nilFunc]:=⟨.nilFunc,λ _=>⟨by kernel_rfl,by kernel_rfl⟩,rfl⟩
theorem aFj:jC prog 166 #[.nilFunc]:=⟨.nilFunc,λ _=>⟨by kernel_rfl,by kernel_rfl⟩,rfl⟩
theorem aFk:jC prog 187 #[.nilFunc]:=⟨.nilFunc,λ _=>⟨by kernel_rfl,by kernel_rfl⟩,rfl⟩
theorem aFl:jC prog 194 #[.int .i32 0,.int .u32 0]:=⟨.agg #[.int .i32 0,.int .u32 0],λ _=>⟨by kernel_rfl,by kernel_rfl⟩,rfl⟩
theorem aFm:jC prog 201 #[.int .u64 0,.int .u32 0]:=⟨.agg #[.int .u64 0,.int .u32 0],λ _=>⟨by kernel_rfl,by kernel_rfl⟩,rfl⟩
theorem apo:gy prog 28 0 0:=λ _ _ _=>⟨by kernel_rfl,by kernel_rfl⟩
theorem apq:gy prog 28 1 1:=λ _ _ _=>⟨by kernel_rfl,by kernel_rfl⟩
theorem apr:gy prog 28 2 2:=λ _ _ _=>⟨by kernel_rfl,by kernel_rfl⟩
theorem aps:gy prog 28 3 3:=λ _ _ _=>⟨by kernel_rfl,by kernel_rfl⟩
theorem apt:gy prog 28 4 4:=λ _ _ _=>⟨by kernel_rfl,by kernel_rfl⟩
theorem apu:gy prog 28 5 5:=λ _ _ _=>⟨by kernel_rfl,by kernel_rfl⟩
theorem apv:gy prog 41 0 0:=λ _ _ _=>⟨by kernel_rfl,by kernel_rfl⟩
theorem apw:gy prog 41 1 1:=λ _ _ _=>⟨by kernel_rfl,by kernel_rfl⟩
theorem apx:gy prog 59 0 0:=λ _ _ _=>⟨by kernel_rfl,by kernel_rfl⟩
theorem apy:gy prog 59 1 1:=λ _ _ _=>⟨by kernel_rfl,by kernel_rfl⟩
theorem apz:gy prog 59 2 2:=λ _ _ _=>⟨by kernel_rfl,by kernel_rfl⟩
theorem apA:gy prog 64 0 0:=λ _ _ _=>⟨by kernel_rfl,by kernel_rfl⟩
theorem apC:gy prog 64 1 1:=λ _ _ _=>⟨by kernel_rfl,by kernel_rfl⟩
theorem apD:gy prog 93 0 0:=λ _ _ _=>⟨by kernel_rfl,by kernel_rfl⟩
theorem apE:gy prog 93 1 1:=λ _ _ _=>⟨by kernel_rfl,by kernel_rfl⟩
theorem apF:gy prog 96 0 0:=λ _ _ _=>⟨by kernel_rfl,by kernel_rfl⟩
theorem apG:gy prog 96 1 1:=λ _ _ _=>⟨by kernel_rfl,by kernel_rfl⟩
theorem apH:gy prog 96 2 2:=λ _ _ _=>⟨by kernel_rfl,by kernel_rfl⟩
theorem apI:gy prog 96 3 3:=λ _ _ _=>⟨by kernel_rfl,by kernel_rfl⟩
theorem ape:gy prog 116 0 0:=λ _ _ _=>⟨by kernel_rfl,by kernel_rfl⟩
theorem apf:gy prog 119 0 0:=λ _ _ _=>⟨by kernel_rfl,by kernel_rfl⟩
theorem apg:gy prog 122 0 0:=λ _ _ _=>⟨by kernel_rfl,by kernel_rfl⟩
theorem aph:gy prog 122 1 6:=λ _ _ _=>⟨by kernel_rfl,by kernel_rfl⟩
theorem api:gy prog 192 0 0:=λ _ _ _=>⟨by kernel_rfl,by kernel_rfl⟩
theorem apj:gy prog 192 1 1:=λ _ _ _=>⟨by kernel_rfl,by kernel_rfl⟩
theorem apk:gy prog 194 1 0:=λ _ _ _=>⟨by kernel_rfl,by kernel_rfl⟩
theorem apl:gy prog 199 2 0:=λ _ _ _=>⟨by kernel_rfl,by kernel_rfl⟩
theorem apm:gy prog 201 1 0:=λ _ _ _=>⟨by kernel_rfl,by kernel_rfl⟩
theorem apn:gy prog 201 2 1:=λ _ _ _=>⟨by kernel_rfl,by kernel_rfl⟩
theorem oI:mR prog 22 64 2:=⟨underlying22,λ _=>⟨by kernel_rfl,by kernel_rfl⟩⟩
theorem Gv:mR prog 23 41 2:=⟨underlying23,λ _=>⟨by kernel_rfl,by kernel_rfl⟩⟩
theorem qZ:mR prog 24 93 2:=⟨underlying24,λ _=>⟨by kernel_rfl,by kernel_rfl⟩⟩
theorem ql:mR prog 25 96 4:=⟨underlying25,λ _=>⟨by kernel_rfl,by kernel_rfl⟩⟩
theorem Bs:mR prog 26 59 3:=⟨underlying26,λ _=>⟨by kernel_rfl,by kernel_rfl⟩⟩
theorem vG:mR prog 29 36 1:=⟨underlying29,λ _=>⟨by kernel_rfl,by kernel_rfl⟩⟩
theorem gj:mR prog 36 3 1:=⟨underlying36,λ _=>⟨by kernel_rfl,by kernel_rfl⟩⟩
theorem aDv:mR prog 81 214 1:=⟨underlying81,λ _=>⟨by kernel_rfl,by kernel_rfl⟩⟩
theorem afd:mR prog 111 116 3:=⟨underlying111,λ _=>⟨by kernel_rfl,by kernel_rfl⟩⟩
theorem XO:mR prog 157 145 16:=⟨underlying157,λ _=>⟨by kernel_rfl,by kernel_rfl⟩⟩
theorem EL:vN prog 114 3 3 1:=⟨underlying114,λ _=>⟨by kernel_rfl,by kernel_rfl⟩⟩
theorem rf:vN prog 143 4 4 1:=⟨underlying143,λ _=>⟨by kernel_rfl,by kernel_rfl⟩⟩
theorem vS:vN prog 145 4 143 4:=⟨underlying145,λ _=>⟨by kernel_rfl,by kernel_rfl⟩⟩
theorem EM:vN prog 180 6 125 1:=⟨underlying180,λ _=>⟨by kernel_rfl,by kernel_rfl⟩⟩
theorem HK:vQ prog 28 [(0,1),(1,1),(2,1),(3,1),(4,1),(5,1)] #[.int .i64 0,.slice none 0 0,.slice none 0 0,.slice none 0 0,.slice none 0 0,.slice none 0 0]:=⟨⟨.agg #[.int .i64 0,.slice none 0 0,.slice none 0 0,.slice none 0 0,.slice none 0 0,.slice none 0 0],λ _=>⟨by kernel_rfl,by kernel_rfl⟩,rfl⟩,_,underlying28,λ _=>⟨by kernel_rfl,by kernel_rfl⟩⟩
theorem O8:vQ prog 41 [(0,1),(1,1)] #[.int .i64 0,.int .i64 0]:=⟨⟨.agg #[.int .i64 0,.int .i64 0],λ _=>⟨by kernel_rfl,by kernel_rfl⟩,rfl⟩,_,underlying41,λ _=>⟨by kernel_rfl,by kernel_rfl⟩⟩
theorem afv:vQ prog 59 [(0,1),(1,1),(2,1)] #[.int .i64 0,.int .i64 0,.bool false]:=⟨⟨.agg #[.int .i64 0,.int .i64 0,.bool false],λ _=>⟨by kernel_rfl,by kernel_rfl⟩,rfl⟩,_,underlying59,λ _=>⟨by kernel_rfl,by kernel_rfl⟩⟩
theorem AU:vQ prog 64 [(0,1),(1,1)] #[.int .i64 0,.int .i64 0]:=⟨⟨.agg #[.int .i64 0,.int .i64 0],λ _=>⟨by kernel_rfl,by kernel_rfl⟩,rfl⟩,_,underlying64,λ _=>⟨by kernel_rfl,by kernel_rfl⟩⟩
theorem afw:vQ prog 93 [(0,1),(1,1)] #[.string ⟨#[]⟩,.int .i64 0]:=⟨⟨.agg #[.string ⟨#[]⟩,.int .i64 0],λ _=>⟨by kernel_rfl,by kernel_rfl⟩,rfl⟩,_,underlying93,λ _=>⟨by kernel_rfl,by kernel_rfl⟩⟩
theorem XW:vQ prog 96 [(0,1),(1,1),(2,1),(3,1)] #[.int .i64 0,.int .i64 0,.int .i64 0,.int .i64 0]:=⟨⟨.agg #[.int .i64 0,.int .i64 0,.int .i64 0,.int .i64 0],λ _=>⟨by kernel_rfl,by kernel_rfl⟩,rfl⟩,_,underlying96,λ _=>⟨by kernel_rfl,by kernel_rfl⟩⟩
theorem rT:vQ prog 119 [(0,6)] #[.int .i64 0,.slice none 0 0,.slice none 0 0,.slice none 0 0,.slice none 0 0,.slice none 0 0]:=⟨⟨.agg #[.int .i64 0,.slice none 0 0,.slice none 0 0,.slice none 0 0,.slice none 0 0,.slice none 0 0],λ _=>⟨by kernel_rfl,by kernel_rfl⟩,rfl⟩,_,underlying119,λ _=>⟨by kernel_rfl,by kernel_rfl⟩⟩
theorem AT:vQ prog 122 [(0,6),(6,1)] #[.int .i64 0,.slice none 0 0,.slice none 0 0,.slice none 0 0,.slice none 0 0,.slice none 0 0,.slice none 0 0]:=⟨⟨.agg #[.int .i64 0,.slice none 0 0,.slice none 0 0,.slice none 0 0,.slice none 0 0,.slice none 0 0,.slice none 0 0],λ _=>⟨by kernel_rfl,by kernel_rfl⟩,rfl⟩,_,underlying122,λ _=>⟨by kernel_rfl,by kernel_rfl⟩⟩
theorem Mq:aaj prog 145 #[.bool false,.bool false,.bool false,.bool false,.bool false,.bool false,.bool false,.bool false,.bool false,.bool false,.bool false,.bool false,.bool false,.bool false,.bool false,.bool false]:=⟨⟨.agg #[.bool false,.bool false,.bool false,.bool false,.bool false,.bool false,.bool false,.bool false,.bool false,.bool false,.bool false,.bool false,.bool false,.bool false,.bool false,.bool false],λ _=>⟨by kernel_rfl,by kernel_rfl⟩,rfl⟩,_,_,4,underlying145,λ _=>⟨by kernel_rfl,by kernel_rfl⟩⟩
theorem XM:ai prog (sizeOf 3) 1:=λ _=>⟨by kernel_rfl,by kernel_rfl⟩
theorem BQ:tQ prog 22 64 2 #[.int .i64 0,.int .i64 0]:=⟨underlying22,λ _=>⟨by kernel_rfl,by kernel_rfl⟩,⟨.agg #[.int .i64 0,.int .i64 0],λ _=>⟨by kernel_rfl,by kernel_rfl⟩,rfl⟩,rfl,by decide⟩
theorem ab1:tQ prog 23 41 2 #[.int .i64 0,.int .i64 0]:=⟨underlying23,λ _=>⟨by kernel_rfl,by kernel_rfl⟩,⟨.agg #[.int .i64 0,.int .i64 0],λ _=>⟨by kernel_rfl,by kernel_rfl⟩,rfl⟩,rfl,by decide⟩
theorem P1:tQ prog 24 93 2 #[.string ⟨#[]⟩,.int .i64 0]:=⟨underlying24,λ _=>⟨by kernel_rfl,by kernel_rfl⟩,⟨.agg #[.string ⟨#[]⟩,.int .i64 0],λ _=>⟨by kernel_rfl,by kernel_rfl⟩,rfl⟩,rfl,by decide⟩
theorem Ra:tQ prog 25 96 4 #[.int .i64 0,.int .i64 0,.int .i64 0,.int .i64 0]:=⟨underlying25,λ _=>⟨by kernel_rfl,by kernel_rfl⟩,⟨.agg #[.int .i64 0,.int .i64 0,.int .i64 0,.int .i64 0],λ _=>⟨by kernel_rfl,by kernel_rfl⟩,rfl⟩,rfl,by decide⟩
theorem Bo:tQ prog 26 59 3 #[.int .i64 0,.int .i64 0,.bool false]:=⟨underlying26,λ _=>⟨by kernel_rfl,by kernel_rfl⟩,⟨.agg #[.int .i64 0,.int .i64 0,.bool false],λ _=>⟨by kernel_rfl,by kernel_rfl⟩,rfl⟩,rfl,by decide⟩
theorem IE:tQ prog 29 36 1 #[.slice none 0 0]:=⟨underlying29,λ _=>⟨by kernel_rfl,by kernel_rfl⟩,⟨.slice none 0 0,λ _=>⟨by kernel_rfl,by kernel_rfl⟩,rfl⟩,rfl,by decide⟩
theorem mT:tQ prog 36 3 1 #[.int .i64 0]:=⟨underlying36,λ _=>⟨by kernel_rfl,by kernel_rfl⟩,⟨.int .i64 0,λ _=>⟨by kernel_rfl,by kernel_rfl⟩,rfl⟩,rfl,by decide⟩
theorem amX:tQ prog 111 116 3 #[.int .i64 0,.int .i64 0,.int .i64 0]:=⟨underlying111,λ _=>⟨by kernel_rfl,by kernel_rfl⟩,⟨.agg #[.int .i64 0,.int .i64 0,.int .i64 0],λ _=>⟨by kernel_rfl,by kernel_rfl⟩,rfl⟩,rfl,by decide⟩
theorem amY:tQ prog 157 145 16 #[.bool false,.bool false,.bool false,.bool false,.bool false,.bool false,.bool false,.bool false,.bool false,.bool false,.bool false,.bool false,.bool false,.bool false,.bool false,.bool false]:=⟨underlying157,λ _=>⟨by kernel_rfl,by kernel_rfl⟩,⟨.agg #[.bool false,.bool false,.bool false,.bool false,.bool false,.bool false,.bool false,.bool false,.bool false,.bool false,.bool false,.bool false,.bool false,.bool false,.bool false,.bool false],λ _=>⟨by kernel_rfl,by kernel_rfl⟩,rfl⟩,rfl,by decide⟩
theorem ajC:bj prog 20:=⟨⟨Tryz.f20,func20,by decide +kernel,rfl⟩⟩
theorem Lt:bj prog 22:=⟨⟨Tryz.f22,func22,by decide +kernel,rfl⟩⟩
theorem aiu:bj prog 23:=⟨⟨Tryz.f23,func23,by decide +kernel,rfl⟩⟩
theorem anS:bj prog 25:=⟨⟨Tryz.f25,func25,by decide +kernel,rfl⟩⟩
theorem S2:bj prog 27:=⟨⟨Tryz.f27,func27,by decide +kernel,rfl⟩⟩
theorem an7:bj prog 28:=⟨⟨Tryz.f28,func28,by decide +kernel,rfl⟩⟩
theorem QB:bj prog 30:=⟨⟨Tryz.f30,func30,by decide +kernel,rfl⟩⟩
theorem Y4:bj prog 32:=⟨⟨Tryz.f32,func32,by decide +kernel,rfl⟩⟩
theorem EZ:bj prog 34:=⟨⟨Tryz.f34,func34,by decide +kernel,rfl⟩⟩
theorem ajD:bj prog 36:=⟨⟨Tryz.f36,func36,by decide +kernel,rfl⟩⟩
theorem an8:bj prog 38:=⟨⟨Tryz.f38,func38,by decide +kernel,rfl⟩⟩
theorem QC:bj prog 39:=⟨⟨Tryz.f39,func39,by decide +kernel,rfl⟩⟩
theorem ahL:bj prog 41:=⟨⟨Tryz.f41,func41,by decide +kernel,rfl⟩⟩
theorem Lv:bj prog 43:=⟨⟨Tryz.f43,func43,by decide +kernel,rfl⟩⟩
theorem an9:bj prog 45:=⟨⟨Tryz.f45,func45,by decide +kernel,rfl⟩⟩
theorem acg:bj prog 46:=⟨⟨Tryz.f46,func46,by decide +kernel,rfl⟩⟩
theorem ZO:bj prog 47:=⟨⟨Tryz.f47,func47,by decide +kernel,rfl⟩⟩
theorem Y5:bj prog 48:=⟨⟨Tryz.f48,func48,by decide +kernel,rfl⟩⟩
theorem ach:bj prog 49:=⟨⟨Tryz.f49,func49,by decide +kernel,rfl⟩⟩
theorem ajE:bj prog 50:=⟨⟨Tryz.f50,func50,by decide +kernel,rfl⟩⟩
theorem aGA:bj prog 51:=⟨⟨Tryz.f51,func51,by decide +kernel,rfl⟩⟩
theorem aiv:bj prog 52:=⟨⟨Tryz.f52,func52,by decide +kernel,rfl⟩⟩
theorem aH6:bj prog 53:=⟨⟨Tryz.f53,func53,by decide +kernel,rfl⟩⟩
theorem aoa:bj prog 54:=⟨⟨Tryz.f54,func54,by decide +kernel,rfl⟩⟩
theorem aiw:bj prog 55:=⟨⟨Tryz.f55,func55,by decide +kernel,rfl⟩⟩
theorem aG8:bj prog 57:=⟨⟨Tryz.f57,func57,by decide +kernel,rfl⟩⟩
theorem aG9:bj prog 58:=⟨⟨Tryz.f58,func58,by decide +kernel,rfl⟩⟩
theorem aob:bj prog 59:=⟨⟨Tryz.f59,func59,by decide +kernel,rfl⟩⟩
theorem nD:bj prog 60:=⟨⟨Tryz.f60,func60,by decide +kernel,rfl⟩⟩
theorem aHa:bj prog 62:=⟨⟨Tryz.f62,func62,by decide +kernel,rfl⟩⟩
theorem aHb:bj prog 63:=⟨⟨Tryz.f63,func63,by decide +kernel,rfl⟩⟩
theorem aGB:bj prog 64:=⟨⟨Tryz.f64,func64,by decide +kernel,rfl⟩⟩
theorem aGC:bj prog 65:=⟨⟨Tryz.f65,func65,by decide +kernel,rfl⟩⟩
theorem aix:bj prog 66:=⟨⟨Tryz.f66,func66,by decide +kernel,rfl⟩⟩
theorem aFu:bj prog 67:=⟨⟨Tryz.f67,func67,by decide +kernel,rfl⟩⟩
theorem aGD:bj prog 68:=⟨⟨Tryz.f68,func68,by decide +kernel,rfl⟩⟩
theorem aHc:bj prog 69:=⟨⟨Tryz.f69,func69,by decide +kernel,rfl⟩⟩
theorem aGE:bj prog 70:=⟨⟨Tryz.f70,func70,by decide +kernel,rfl⟩⟩
theorem aHd:bj prog 71:=⟨⟨Tryz.f71,func71,by decide +kernel,rfl⟩⟩
theorem BR:bj prog 82:=⟨⟨Tryz.f82,func82,by decide +kernel,rfl⟩⟩
theorem aoc:bj prog 88:=⟨⟨Tryz.f88,func88,by decide +kernel,rfl⟩⟩
theorem M3:bj prog 89:=⟨⟨Tryz.f89,func89,by decide +kernel,rfl⟩⟩
theorem aci:bj prog 90:=⟨⟨Tryz.f90,func90,by decide +kernel,rfl⟩⟩
theorem S3:bj prog 91:=⟨⟨Tryz.f91,func91,by decide +kernel,rfl⟩⟩
theorem M4:bj prog 92:=⟨⟨Tryz.f92,func92,by decide +kernel,rfl⟩⟩
theorem qy:bj prog 94:=⟨⟨Tryz.f94,func94,by decide +kernel,rfl⟩⟩
theorem M5:bj prog 95:=⟨⟨Tryz.f95,func95,by decide +kernel,rfl⟩⟩
theorem acj:bj prog 96:=⟨⟨Tryz.f96,func96,by decide +kernel,rfl⟩⟩
theorem aod:bj prog 97:=⟨⟨Tryz.f97,func97,by decide +kernel,rfl⟩⟩
theorem ab3:bj prog 100:=⟨⟨Tryz.f100,func100,by decide +kernel,rfl⟩⟩
theorem MV:bj prog 102:=⟨⟨Tryz.f102,func102,by decide +kernel,rfl⟩⟩
theorem am2:bj prog 103:=⟨⟨Tryz.f103,func103,by decide +kernel,rfl⟩⟩
theorem MW:bj prog 104:=⟨⟨Tryz.f104,func104,by decide +kernel,rfl⟩⟩
theorem am3:bj prog 106:=⟨⟨Tryz.f106,func106,by decide +kernel,rfl⟩⟩
theorem zV:bj prog 107:=⟨⟨Tryz.f107,func107,by decide +kernel,rfl⟩⟩
theorem ab4:bj prog 108:=⟨⟨Tryz.f108,func108,by decide +kernel,rfl⟩⟩
theorem MX:bj prog 109:=⟨⟨Tryz.f109,func109,by decide +kernel,rfl⟩⟩
theorem am4:bj prog 110:=⟨⟨Tryz.f110,func110,by decide +kernel,rfl⟩⟩
theorem SU:bj prog 111:=⟨⟨Tryz.f111,func111,by decide +kernel,rfl⟩⟩
theorem am5:bj prog 115:=⟨⟨Tryz.f115,func115,by decide +kernel,rfl⟩⟩
theorem am6:bj prog 116:=⟨⟨Tryz.f116,func116,by decide +kernel,rfl⟩⟩
theorem SV:bj prog 117:=⟨⟨Tryz.f117,func117,by decide +kernel,rfl⟩⟩
theorem am7:bj prog 118:=⟨⟨Tryz.f118,func118,by decide +kernel,rfl⟩⟩
theorem EX:bj prog 121:=⟨⟨Tryz.f121,func121,by decide +kernel,rfl⟩⟩
theorem MY:bj prog 122:=⟨⟨Tryz.f122,func122,by decide +kernel,rfl⟩⟩
theorem rn:bj prog 123:=⟨⟨Tryz.f123,func123,by decide +kernel,rfl⟩⟩
theorem jU:bj prog 124:=⟨⟨Tryz.f124,func124,by decide +kernel,rfl⟩⟩
theorem ab5:bj prog 126:=⟨⟨Tryz.f126,func126,by decide +kernel,rfl⟩⟩
theorem am8:bj prog 127:=⟨⟨Tryz.f127,func127,by decide +kernel,rfl⟩⟩
theorem am9:bj prog 128:=⟨⟨Tryz.f128,func128,by decide +kernel,rfl⟩⟩
theorem ab6:bj prog 129:=⟨⟨Tryz.f129,func129,by decide +kernel,rfl⟩⟩
theorem SW:bj prog 130:=⟨⟨Tryz.f130,func130,by decide +kernel,rfl⟩⟩
theorem ana:bj prog 131:=⟨⟨Tryz.f131,func131,by decide +kernel,rfl⟩⟩
theorem ab7:bj prog 132:=⟨⟨Tryz.f132,func132,by decide +kernel,rfl⟩⟩
theorem SX:bj prog 133:=⟨⟨Tryz.f133,func133,by decide +kernel,rfl⟩⟩
theorem SY:bj prog 134:=⟨⟨Tryz.f134,func134,by decide +kernel,rfl⟩⟩
theorem anb:bj prog 138:=⟨⟨Tryz.f138,func138,by decide +kernel,rfl⟩⟩
theorem mU:bj prog 139:=⟨⟨Tryz.f139,func139,by decide +kernel,rfl⟩⟩
theorem anc:bj prog 140:=⟨⟨Tryz.f140,func140,by decide +kernel,rfl⟩⟩
theorem ane:bj prog 141:=⟨⟨Tryz.f141,func141,by decide +kernel,rfl⟩⟩
theorem anf:bj prog 142:=⟨⟨Tryz.f142,func142,by decide +kernel,rfl⟩⟩
theorem ang:bj prog 143:=⟨⟨Tryz.f143,func143,by decide +kernel,rfl⟩⟩
theorem anh:bj prog 144:=⟨⟨Tryz.f144,func144,by decide +kernel,rfl⟩⟩
theorem ani:bj prog 145:=⟨⟨Tryz.f145,func145,by decide +kernel,rfl⟩⟩
theorem anj:bj prog 146:=⟨⟨Tryz.f146,func146,by decide +kernel,rfl⟩⟩
theorem ank:bj prog 147:=⟨⟨Tryz.f147,func147,by decide +kernel,rfl⟩⟩
theorem anl:bj prog 148:=⟨⟨Tryz.f148,func148,by decide +kernel,rfl⟩⟩
theorem ab8:bj prog 149:=⟨⟨Tryz.f149,func149,by decide +kernel,rfl⟩⟩
theorem anm:bj prog 151:=⟨⟨Tryz.f151,func151,by decide +kernel,rfl⟩⟩
theorem ann:bj prog 159:=⟨⟨Tryz.f159,func159,by decide +kernel,rfl⟩⟩
theorem ano:bj prog 160:=⟨⟨Tryz.f160,func160,by decide +kernel,rfl⟩⟩
theorem ab9:bj prog 161:=⟨⟨Tryz.f161,func161,by decide +kernel,rfl⟩⟩
theorem aca:bj prog 162:=⟨⟨Tryz.f162,func162,by decide +kernel,rfl⟩⟩
theorem EY:bj prog 163:=⟨⟨Tryz.f163,func163,by decide +kernel,rfl⟩⟩
theorem anp:bj prog 164:=⟨⟨Tryz.f164,func164,by decide +kernel,rfl⟩⟩
theorem anq:bj prog 165:=⟨⟨Tryz.f165,func165,by decide +kernel,rfl⟩⟩
theorem MZ:bj prog 166:=⟨⟨Tryz.f166,func166,by decide +kernel,rfl⟩⟩
theorem SZ:bj prog 167:=⟨⟨Tryz.f167,func167,by decide +kernel,rfl⟩⟩
theorem acb:bj prog 168:=⟨⟨Tryz.f168,func168,by decide +kernel,rfl⟩⟩
theorem acd:bj prog 169:=⟨⟨Tryz.f169,func169,by decide +kernel,rfl⟩⟩
theorem anr:bj prog 170:=⟨⟨Tryz.f170,func170,by decide +kernel,rfl⟩⟩
theorem ans:bj prog 172:=⟨⟨Tryz.f172,func172,by decide +kernel,rfl⟩⟩
theorem ant:bj prog 173:=⟨⟨Tryz.f173,func173,by decide +kernel,rfl⟩⟩
theorem anu:bj prog 174:=⟨⟨Tryz.f174,func174,by decide +kernel,rfl⟩⟩
theorem anv:bj prog 175:=⟨⟨Tryz.f175,func175,by decide +kernel,rfl⟩⟩
theorem anw:bj prog 177:=⟨⟨Tryz.f177,func177,by decide +kernel,rfl⟩⟩
theorem anx:bj prog 178:=⟨⟨Tryz.f178,func178,by decide +kernel,rfl⟩⟩
theorem anz:bj prog 179:=⟨⟨Tryz.f179,func179,by decide +kernel,rfl⟩⟩
theorem anA:bj prog 180:=⟨⟨Tryz.f180,func180,by decide +kernel,rfl⟩⟩
theorem anB:bj prog 181:=⟨⟨Tryz.f181,func181,by decide +kernel,rfl⟩⟩
theorem anC:bj prog 182:=⟨⟨Tryz.f182,func182,by decide +kernel,rfl⟩⟩
theorem anD:bj prog 183:=⟨⟨Tryz.f183,func183,by decide +kernel,rfl⟩⟩
theorem anE:bj prog 184:=⟨⟨Tryz.f184,func184,by decide +kernel,rfl⟩⟩
theorem anF:bj prog 186:=⟨⟨Tryz.f186,func186,by decide +kernel,rfl⟩⟩
theorem anG:bj prog 187:=⟨⟨Tryz.f187,func187,by decide +kernel,rfl⟩⟩
theorem anH:bj prog 188:=⟨⟨Tryz.f188,func188,by decide +kernel,rfl⟩⟩
theorem anI:bj prog 189:=⟨⟨Tryz.f189,func189,by decide +kernel,rfl⟩⟩
theorem anJ:bj prog 203:=⟨⟨Tryz.f203,func203,by decide +kernel,rfl⟩⟩
theorem anK:bj prog 204:=⟨⟨Tryz.f204,func204,by decide +kernel,rfl⟩⟩
theorem anL:bj prog 211:=⟨⟨Tryz.f211,func211,by decide +kernel,rfl⟩⟩
theorem ace:bj prog 212:=⟨⟨Tryz.f212,func212,by decide +kernel,rfl⟩⟩
theorem anM:bj prog 213:=⟨⟨Tryz.f213,func213,by decide +kernel,rfl⟩⟩
theorem anN:bj prog 214:=⟨⟨Tryz.f214,func214,by decide +kernel,rfl⟩⟩
theorem anO:bj prog 215:=⟨⟨Tryz.f215,func215,by decide +kernel,rfl⟩⟩
theorem anP:bj prog 221:=⟨⟨Tryz.f221,func221,by decide +kernel,rfl⟩⟩
theorem anQ:bj prog 225:=⟨⟨Tryz.f225,func225,by decide +kernel,rfl⟩⟩
theorem anR:bj prog 231:=⟨⟨Tryz.f231,func231,by decide +kernel,rfl⟩⟩
theorem acf:bj prog 233:=⟨⟨Tryz.f233,func233,by decide +kernel,rfl⟩⟩
theorem M0:bj prog 235:=⟨⟨Tryz.f235,func235,by decide +kernel,rfl⟩⟩
theorem anT:bj prog 265:=⟨⟨Tryz.f265,func265,by decide +kernel,rfl⟩⟩
theorem anU:bj prog 266:=⟨⟨Tryz.f266,func266,by decide +kernel,rfl⟩⟩
theorem anV:bj prog 267:=⟨⟨Tryz.f267,func267,by decide +kernel,rfl⟩⟩
theorem anW:bj prog 268:=⟨⟨Tryz.f268,func268,by decide +kernel,rfl⟩⟩
theorem anX:bj prog 269:=⟨⟨Tryz.f269,func269,by decide +kernel,rfl⟩⟩
theorem anY:bj prog 270:=⟨⟨Tryz.f270,func270,by decide +kernel,rfl⟩⟩
theorem anZ:bj prog 271:=⟨⟨Tryz.f271,func271,by decide +kernel,rfl⟩⟩
theorem an0:bj prog 272:=⟨⟨Tryz.f272,func272,by decide +kernel,rfl⟩⟩
theorem an1:bj prog 273:=⟨⟨Tryz.f273,func273,by decide +kernel,rfl⟩⟩
theorem an2:bj prog 274:=⟨⟨Tryz.f274,func274,by decide +kernel,rfl⟩⟩
theorem an3:bj prog 275:=⟨⟨Tryz.f275,func275,by decide +kernel,rfl⟩⟩
theorem an4:bj prog 276:=⟨⟨Tryz.f276,func276,by decide +kernel,rfl⟩⟩
theorem an5:bj prog 277:=⟨⟨Tryz.f277,func277,by decide +kernel,rfl⟩⟩
theorem an6:bj prog 278:=⟨⟨Tryz.f278,func278,by decide +kernel,rfl⟩⟩
end Go.Proofs.YtihapemckcdicaaGreatDoor
namespace Go.Proofs.YtihapemckcdicaaGreatDoor
open Go.Lg Go.Proofs Tryz
def Xm:Nat→Nat→Option Nat
 | 28,0=>some 0
 | 28,1=>some 1
 | 28,2=>some 2
 | 28,3=>some 3
 | 28,4=>some 4
 | 28,5=>some 5
 | 41,0=>some 0
 | 41,1=>some 1
 | 59,0=>some 0
 | 59,1=>some 1
 | 59,2=>some 2
 | 64,0=>some 0
 | 64,1=>some 1
 | 93,0=>some 0
 | 93,1=>some 1
 | 96,0=>some 0
 | 96,1=>some 1
 | 96,2=>some 2
 | 96,3=>some 3
 | 116,0=>some 0
 | 119,0=>some 0
 | 122,0=>some 0
 | 122,1=>some 6
 | 192,0=>some 0
 | 192,1=>some 1
 | 194,1=>some 0
 | 199,2=>some 0
 | 201,1=>some 0
 | 201,2=>some 1
 | _,_=>none
theorem aBH(s f n:Nat)(h:Xm s f=some n):gy prog s f n:=by
 unfold Xm at h
 split at h
 ·cases h; exact apo
 ·cases h; exact apq
 ·cases h; exact apr
 ·cases h; exact aps
 ·cases h; exact apt
 ·cases h; exact apu
 ·cases h; exact apv
 ·cases h; exact apw
 ·cases h; exact apx
 ·cases h; exact apy
 ·cases h; exact apz
 ·cases h; exact apA
 ·cases h; exact apC
 ·cases h; exact apD
 ·cases h; exact apE
 ·cases h; exact apF
 ·cases h; exact apG
 ·cases h; exact apH
 ·cases h; exact apI
 ·cases h; exact ape
 ·cases h; exact apf
 ·cases h; exact apg
 ·cases h; exact aph
 ·cases h; exact api
 ·cases h; exact apj
 ·cases h; exact apk
 ·cases h; exact apl
 ·cases h; exact apm
 ·cases h; exact apn
 ·cases h
instance:mQ prog:=⟨Xm,aBH⟩
end Go.Proofs.YtihapemckcdicaaGreatDoor
namespace Go.Proofs.YtihapemckcdicaaGreatDoor
open Go.Lg Go.Proofs Tryz
set_option maxRecDepth 100000
abbrev iv(z:Int):Value:=.int .i64 z
theorem yn{P:Program}{e:Nat}(h:(P.info? e).any (λ i=>decide (i.bytes≤65536))=true):∃ i,P.info? e=some i∧i.bytes≤65536:=by
 cases hi:P.info? e with
 | none=>rw [hi] at h; cases h
 | some i=>rw [hi] at h; exact ⟨i,rfl,by simpa using h⟩
structure dJ where
 dh:Int
 eE:Int
def bE:cu dJ:=λ _ x es=>es=[iv x.dh,iv x.eE]
instance:CM bE:=⟨λ hR h=>by obtain rfl:=h; exact rfl,λ h=>by obtain rfl:=h; simp [Value.oneCell']⟩
structure Reach where
 cI:Int
 dK:Int
def bN:cu Reach:=λ _ x es=>es=[iv x.cI,iv x.dK]
instance:CM bN:=⟨λ hR h=>by obtain rfl:=h; exact rfl,λ h=>by obtain rfl:=h; simp [Value.oneCell']⟩
structure dI where
 Name:ByteArray
 mg:Int
def bD:cu dI:=λ _ x es=>es=[.string x.Name,iv x.mg]
instance:CM bD:=⟨λ hR h=>by obtain rfl:=h; exact rfl,λ h=>by obtain rfl:=h; simp [Value.oneCell']⟩
structure iy where
 Place:Int
 jf:Int
 gR:Int
 ax:Int
def bL:cu iy:=λ _ x es=>es=[iv x.Place,iv x.jf,iv x.gR,iv x.ax]
instance:CM bL:=⟨λ hR h=>by obtain rfl:=h; exact rfl,λ h=>by obtain rfl:=h; simp [Value.oneCell']⟩
structure dO where
 Place:Int
 lU:Int
 sx:Bool
def bB:cu dO:=λ _ x es=>es=[iv x.Place,iv x.lU,.bool x.sx]
instance:CM bB:=⟨λ hR h=>by obtain rfl:=h; exact rfl,λ h=>by obtain rfl:=h; simp [Value.oneCell']⟩
structure ao where
 Rest:Int
 Rows:(List dJ)
 aM:(List Reach)
 ax:(List dI)
 av:(List iy)
 ba:(List dO)
def Rk:cu ao:=λ R x es=>∃ Ps Pt Pu Pv Pw,ae bE 2 R Ps x.Rows∧ae bN 2 R Pt x.aM∧ae bD 2 R Pu x.ax∧ae bL 4 R Pv x.av∧ae bB 3 R Pw x.ba∧es=[iv x.Rest,Ps,Pt,Pu,Pv,Pw]
instance:CM Rk:=⟨λ hR h=>by obtain ⟨Ps,Pt,Pu,Pv,Pw,UD,UE,UF,UG,UH,rfl⟩:=h; exact ⟨_,_,_,_,_,UD.mono hR,UE.mono hR,UF.mono hR,UG.mono hR,UH.mono hR,rfl⟩,λ h=>by obtain ⟨Ps,Pt,Pu,Pv,Pw,UD,UE,UF,UG,UH,rfl⟩:=h; intro u hu; simp only [List.mem_cons,List.not_mem_nil,or_false] at hu; rcases hu with rfl | rfl | rfl | rfl | rfl | rfl <;> first | rfl | exact UD.one | exact UE.one | exact UF.one | exact UG.one | exact UH.one⟩
structure br where
 deep:(List Int)
def fL:cu br:=λ _ x es=>x.deep.length=3∧es=([]++(x.deep.map (Value.int .i64)++[]))
instance:CM fL:=⟨λ hR h=>by obtain ⟨ad0,rfl⟩:=h; exact ⟨ad0,rfl⟩,λ h=>by obtain ⟨ad0,rfl⟩:=h; simp [Value.oneCell']⟩
structure bW where
 book:ao
 fi:(List br)
theorem four{α:Type}{l:List α}(h:l.length=4):∃ a b c d,l=[a,b,c,d]:=by
 match l,h with
 | [a,b,c,d],_=>exact ⟨a,b,c,d,rfl⟩
theorem aEo{P:Program}{d:Nat}{t:TypeId}{a b:ByteArray}(hu:P.underlying t=some .string):ai P (Op.equalIn (d+1) t (.string a) (.string b)) (a == b):=by
 rw [Op.equalIn]
 exact ai.bind (ai.underlying hu) (ai.pure _)
theorem acT:prog.eqGuardType prog.depth 41=false:=by decide +kernel
def LZ(x y:Reach):Bool:=(x.cI == y.cI && (x.dK == y.dK && true))
theorem acn(x y:Reach):ai prog (Op.equal 41 (.agg #[iv x.cI,iv x.dK]) (.agg #[iv y.cI,iv y.dK])) (LZ x y):=Lb (d:=9999) underlying41 (by decide +kernel) (.cons rfl (λ _=>⟨by kernel_rfl,by kernel_rfl⟩) (λ _=>⟨by kernel_rfl,by kernel_rfl⟩) (vq underlying3) (.cons rfl (λ _=>⟨by kernel_rfl,by kernel_rfl⟩) (λ _=>⟨by kernel_rfl,by kernel_rfl⟩) (vq underlying3) .nil))
theorem Nh:prog.eqGuardType prog.depth 64=false:=by decide +kernel
def El(x y:dJ):Bool:=(x.dh == y.dh && (x.eE == y.eE && true))
theorem M7(x y:dJ):ai prog (Op.equal 64 (.agg #[iv x.dh,iv x.eE]) (.agg #[iv y.dh,iv y.eE])) (El x y):=Lb (d:=9999) underlying64 (by decide +kernel) (.cons rfl (λ _=>⟨by kernel_rfl,by kernel_rfl⟩) (λ _=>⟨by kernel_rfl,by kernel_rfl⟩) (vq underlying3) (.cons rfl (λ _=>⟨by kernel_rfl,by kernel_rfl⟩) (λ _=>⟨by kernel_rfl,by kernel_rfl⟩) (vq underlying3) .nil))
theorem apY:prog.eqGuardType prog.depth 93=false:=by decide +kernel
def ZQ(x y:dI):Bool:=(x.Name == y.Name && (x.mg == y.mg && true))
theorem aok(x y:dI):ai prog (Op.equal 93 (.agg #[.string x.Name,iv x.mg]) (.agg #[.string y.Name,iv y.mg])) (ZQ x y):=Lb (d:=9999) underlying93 (by decide +kernel) (.cons rfl (λ _=>⟨by kernel_rfl,by kernel_rfl⟩) (λ _=>⟨by kernel_rfl,by kernel_rfl⟩) (aEo underlying9) (.cons rfl (λ _=>⟨by kernel_rfl,by kernel_rfl⟩) (λ _=>⟨by kernel_rfl,by kernel_rfl⟩) (vq underlying3) .nil))
theorem apZ:prog.eqGuardType prog.depth 96=false:=by decide +kernel
def ZP(x y:iy):Bool:=(x.Place == y.Place && (x.jf == y.jf && (x.gR == y.gR && (x.ax == y.ax && true))))
theorem aol(x y:iy):ai prog (Op.equal 96 (.agg #[iv x.Place,iv x.jf,iv x.gR,iv x.ax]) (.agg #[iv y.Place,iv y.jf,iv y.gR,iv y.ax])) (ZP x y):=Lb (d:=9999) underlying96 (by decide +kernel) (.cons rfl (λ _=>⟨by kernel_rfl,by kernel_rfl⟩) (λ _=>⟨by kernel_rfl,by kernel_rfl⟩) (vq underlying3) (.cons rfl (λ _=>⟨by kernel_rfl,by kernel_rfl⟩) (λ _=>⟨by kernel_rfl,by kernel_rfl⟩) (vq underlying3) (.cons rfl (λ _=>⟨by kernel_rfl,by kernel_rfl⟩) (λ _=>⟨by kernel_rfl,by kernel_rfl⟩) (vq underlying3) (.cons rfl (λ _=>⟨by kernel_rfl,by kernel_rfl⟩) (λ _=>⟨by kernel_rfl,by kernel_rfl⟩) (vq underlying3) .nil))))
theorem apX:prog.eqGuardType prog.depth 59=false:=by decide +kernel
def ZR(x y:dO):Bool:=(x.Place == y.Place && (x.lU == y.lU && (x.sx == y.sx && true)))
theorem aoj(x y:dO):ai prog (Op.equal 59 (.agg #[iv x.Place,iv x.lU,.bool x.sx]) (.agg #[iv y.Place,iv y.lU,.bool y.sx])) (ZR x y):=Lb (d:=9999) underlying59 (by decide +kernel) (.cons rfl (λ _=>⟨by kernel_rfl,by kernel_rfl⟩) (λ _=>⟨by kernel_rfl,by kernel_rfl⟩) (vq underlying3) (.cons rfl (λ _=>⟨by kernel_rfl,by kernel_rfl⟩) (λ _=>⟨by kernel_rfl,by kernel_rfl⟩) (vq underlying3) (.cons rfl (λ _=>⟨by kernel_rfl,by kernel_rfl⟩) (λ _=>⟨by kernel_rfl,by kernel_rfl⟩) (La underlying4) .nil)))
theorem apW:prog.eqGuardType prog.depth 143=false:=by decide +kernel
def Qg(x y:List Bool):Bool:=x == y
theorem aoi{x y:List Bool}(hx:x.length=4)(hy:y.length=4):ai prog (Op.equal 143 (.agg (List.toArray ([]++(x.map Value.bool++[])))) (.agg (List.toArray ([]++(y.map Value.bool++[]))))) (Qg x y):=by
 obtain ⟨a0,a1,a2,a3,rfl⟩:=four hx
 obtain ⟨b0,b1,b2,b3,rfl⟩:=four hy
 have hw:([a0,a1,a2,a3] == [b0,b1,b2,b3])=((a0 == b0) && ((a1 == b1) && ((a2 == b2) && ((a3 == b3) && true)))):=by simp
 unfold Qg
 rw [hw]
 refine aEn (d:=9999) (n:=1) underlying143 (λ _=>⟨by kernel_rfl,by kernel_rfl⟩) ?_
 refine .cons (i:=0) (rest:=[1,2,3]) (λ _=>⟨by kernel_rfl,by kernel_rfl⟩) (λ _=>⟨by kernel_rfl,by kernel_rfl⟩) (La underlying4) ?_
 refine .cons (i:=1) (rest:=[2,3]) (λ _=>⟨by kernel_rfl,by kernel_rfl⟩) (λ _=>⟨by kernel_rfl,by kernel_rfl⟩) (La underlying4) ?_
 refine .cons (i:=2) (rest:=[3]) (λ _=>⟨by kernel_rfl,by kernel_rfl⟩) (λ _=>⟨by kernel_rfl,by kernel_rfl⟩) (La underlying4) ?_
 refine .cons (i:=3) (rest:=[]) (λ _=>⟨by kernel_rfl,by kernel_rfl⟩) (λ _=>⟨by kernel_rfl,by kernel_rfl⟩) (La underlying4) ?_
 exact .nil
theorem EJ:tP prog 22 64 2:=⟨underlying22,λ _=>⟨by kernel_rfl,by kernel_rfl⟩,yn (by decide +kernel),⟨.agg #[.int .i64 0,.int .i64 0],λ _=>⟨by kernel_rfl,by kernel_rfl⟩,rfl⟩⟩
theorem alW:tP prog 23 41 2:=⟨underlying23,λ _=>⟨by kernel_rfl,by kernel_rfl⟩,yn (by decide +kernel),⟨.agg #[.int .i64 0,.int .i64 0],λ _=>⟨by kernel_rfl,by kernel_rfl⟩,rfl⟩⟩
theorem R8:tP prog 24 93 2:=⟨underlying24,λ _=>⟨by kernel_rfl,by kernel_rfl⟩,yn (by decide +kernel),⟨.agg #[.string ⟨#[]⟩,.int .i64 0],λ _=>⟨by kernel_rfl,by kernel_rfl⟩,rfl⟩⟩
theorem ZM:tP prog 25 96 4:=⟨underlying25,λ _=>⟨by kernel_rfl,by kernel_rfl⟩,yn (by decide +kernel),⟨.agg #[.int .i64 0,.int .i64 0,.int .i64 0,.int .i64 0],λ _=>⟨by kernel_rfl,by kernel_rfl⟩,rfl⟩⟩
theorem zB:tP prog 26 59 3:=⟨underlying26,λ _=>⟨by kernel_rfl,by kernel_rfl⟩,yn (by decide +kernel),⟨.agg #[.int .i64 0,.int .i64 0,.bool false],λ _=>⟨by kernel_rfl,by kernel_rfl⟩,rfl⟩⟩
theorem aa6:tP prog 29 36 1:=⟨underlying29,λ _=>⟨by kernel_rfl,by kernel_rfl⟩,yn (by decide +kernel),⟨.slice none 0 0,λ _=>⟨by kernel_rfl,by kernel_rfl⟩,rfl⟩⟩
theorem EK:tP prog 36 3 1:=⟨underlying36,λ _=>⟨by kernel_rfl,by kernel_rfl⟩,yn (by decide +kernel),⟨.int .i64 0,λ _=>⟨by kernel_rfl,by kernel_rfl⟩,rfl⟩⟩
theorem alU:tP prog 111 116 3:=⟨underlying111,λ _=>⟨by kernel_rfl,by kernel_rfl⟩,yn (by decide +kernel),⟨.agg #[.int .i64 0,.int .i64 0,.int .i64 0],λ _=>⟨by kernel_rfl,by kernel_rfl⟩,rfl⟩⟩
theorem alV:tP prog 157 145 16:=⟨underlying157,λ _=>⟨by kernel_rfl,by kernel_rfl⟩,yn (by decide +kernel),⟨.agg #[.bool false,.bool false,.bool false,.bool false,.bool false,.bool false,.bool false,.bool false,.bool false,.bool false,.bool false,.bool false,.bool false,.bool false,.bool false,.bool false],λ _=>⟨by kernel_rfl,by kernel_rfl⟩,rfl⟩⟩
theorem amf:(Array.range (0 * 2)).map ((#[.int .i64 0,.int .i64 0]:Array Value)[· % (#[.int .i64 0,.int .i64 0]:Array Value).size]!)=#[]:=by kernel_rfl
theorem Iq:(Array.range (1 * 2)).map ((#[.int .i64 0,.int .i64 0]:Array Value)[· % (#[.int .i64 0,.int .i64 0]:Array Value).size]!)=#[.int .i64 0,.int .i64 0]:=by kernel_rfl
theorem amg:(Array.range (2 * 2)).map ((#[.int .i64 0,.int .i64 0]:Array Value)[· % (#[.int .i64 0,.int .i64 0]:Array Value).size]!)=#[.int .i64 0,.int .i64 0,.int .i64 0,.int .i64 0]:=by kernel_rfl
theorem amh:(Array.range (0 * 2)).map ((#[.int .i64 0,.int .i64 0]:Array Value)[· % (#[.int .i64 0,.int .i64 0]:Array Value).size]!)=#[]:=by kernel_rfl
theorem ami:(Array.range (2 * 2)).map ((#[.int .i64 0,.int .i64 0]:Array Value)[· % (#[.int .i64 0,.int .i64 0]:Array Value).size]!)=#[.int .i64 0,.int .i64 0,.int .i64 0,.int .i64 0]:=by kernel_rfl
theorem ais:(Array.range (0 * 2)).map ((#[.string ⟨#[]⟩,.int .i64 0]:Array Value)[· % (#[.string ⟨#[]⟩,.int .i64 0]:Array Value).size]!)=#[]:=by kernel_rfl
theorem ag3:(Array.range (1 * 2)).map ((#[.string ⟨#[]⟩,.int .i64 0]:Array Value)[· % (#[.string ⟨#[]⟩,.int .i64 0]:Array Value).size]!)=#[.string ⟨#[]⟩,.int .i64 0]:=by kernel_rfl
theorem amj:(Array.range (2 * 2)).map ((#[.string ⟨#[]⟩,.int .i64 0]:Array Value)[· % (#[.string ⟨#[]⟩,.int .i64 0]:Array Value).size]!)=#[.string ⟨#[]⟩,.int .i64 0,.string ⟨#[]⟩,.int .i64 0]:=by kernel_rfl
theorem amk:(Array.range (0 * 4)).map ((#[.int .i64 0,.int .i64 0,.int .i64 0,.int .i64 0]:Array Value)[· % (#[.int .i64 0,.int .i64 0,.int .i64 0,.int .i64 0]:Array Value).size]!)=#[]:=by kernel_rfl
theorem ajz:(Array.range (1 * 4)).map ((#[.int .i64 0,.int .i64 0,.int .i64 0,.int .i64 0]:Array Value)[· % (#[.int .i64 0,.int .i64 0,.int .i64 0,.int .i64 0]:Array Value).size]!)=#[.int .i64 0,.int .i64 0,.int .i64 0,.int .i64 0]:=by kernel_rfl
theorem aml:(Array.range (3 * 4)).map ((#[.int .i64 0,.int .i64 0,.int .i64 0,.int .i64 0]:Array Value)[· % (#[.int .i64 0,.int .i64 0,.int .i64 0,.int .i64 0]:Array Value).size]!)=#[.int .i64 0,.int .i64 0,.int .i64 0,.int .i64 0,.int .i64 0,.int .i64 0,.int .i64 0,.int .i64 0,.int .i64 0,.int .i64 0,.int .i64 0,.int .i64 0]:=by kernel_rfl
theorem Sj:(Array.range (0 * 3)).map ((#[.int .i64 0,.int .i64 0,.bool false]:Array Value)[· % (#[.int .i64 0,.int .i64 0,.bool false]:Array Value).size]!)=#[]:=by kernel_rfl
theorem LY:(Array.range (1 * 3)).map ((#[.int .i64 0,.int .i64 0,.bool false]:Array Value)[· % (#[.int .i64 0,.int .i64 0,.bool false]:Array Value).size]!)=#[.int .i64 0,.int .i64 0,.bool false]:=by kernel_rfl
theorem abf:(Array.range (1 * 1)).map ((#[.slice none 0 0]:Array Value)[· % (#[.slice none 0 0]:Array Value).size]!)=#[.slice none 0 0]:=by kernel_rfl
theorem Sk:(Array.range (3 * 1)).map ((#[.slice none 0 0]:Array Value)[· % (#[.slice none 0 0]:Array Value).size]!)=#[.slice none 0 0,.slice none 0 0,.slice none 0 0]:=by kernel_rfl
theorem qw:(Array.range (1 * 1)).map ((#[.int .i64 0]:Array Value)[· % (#[.int .i64 0]:Array Value).size]!)=#[.int .i64 0]:=by kernel_rfl
theorem Ir:(Array.range (2 * 1)).map ((#[.int .i64 0]:Array Value)[· % (#[.int .i64 0]:Array Value).size]!)=#[.int .i64 0,.int .i64 0]:=by kernel_rfl
theorem amd:(Array.range (1 * 3)).map ((#[.int .i64 0,.int .i64 0,.int .i64 0]:Array Value)[· % (#[.int .i64 0,.int .i64 0,.int .i64 0]:Array Value).size]!)=#[.int .i64 0,.int .i64 0,.int .i64 0]:=by kernel_rfl
theorem ame:(Array.range (1 * 16)).map ((#[.bool false,.bool false,.bool false,.bool false,.bool false,.bool false,.bool false,.bool false,.bool false,.bool false,.bool false,.bool false,.bool false,.bool false,.bool false,.bool false]:Array Value)[· % (#[.bool false,.bool false,.bool false,.bool false,.bool false,.bool false,.bool false,.bool false,.bool false,.bool false,.bool false,.bool false,.bool false,.bool false,.bool false,.bool false]:Array Value).size]!)=#[.bool false,.bool false,.bool false,.bool false,.bool false,.bool false,.bool false,.bool false,.bool false,.bool false,.bool false,.bool false,.bool false,.bool false,.bool false,.bool false]:=by kernel_rfl
theorem Xe:Mi prog 206 3 3:=⟨underlying206,underlying3,λ e a=>λ _=>⟨by kernel_rfl,by kernel_rfl⟩,λ _=>⟨by kernel_rfl,by kernel_rfl⟩⟩
abbrev iP(R:az):Prop:=aQ R [] 0 0 [.func (.func 265) #[] #[],.func (.func 266) #[] #[],.func (.func 267) #[] #[],.func (.func 268) #[] #[],.func (.func 269) #[] #[],.func (.func 270) #[] #[]]
theorem iP.mono{R R':az}(h:iP R)(hR:aT R R'):iP R':=aQ.up (H:=[]) h hR
theorem iP.any{R:az}{H:an}(h:iP R):aQ R H 0 0 [.func (.func 265) #[] #[],.func (.func 266) #[] #[],.func (.func 267) #[] #[],.func (.func 268) #[] #[],.func (.func 269) #[] #[],.func (.func 270) #[] #[]]:=aQ.any h
theorem mixed:prog.follows .mixedOrders=true:=by kernel_rfl
end Go.Proofs.YtihapemckcdicaaGreatDoor
