/- Closed facts on the program; the structs of the models. Conditions: none. -/
import Derived.Test.YtabamagholjdcaaGreatDoorQHLgC
import Derived.Test.YtabamagholjdcaaGreatDoorProg
import Derived.KernelRfl
namespace Go.Proofs.YtabamagholjdcaaGreatDoor
open Go.Lg Go.Proofs Tryz
theorem aS:gG prog 3:=⟨λ _=>⟨by kernel_rfl,by kernel_rfl⟩,λ _=>⟨by kernel_rfl,by kernel_rfl⟩⟩
theorem jZ:gG prog 4:=⟨λ _=>⟨by kernel_rfl,by kernel_rfl⟩,λ _=>⟨by kernel_rfl,by kernel_rfl⟩⟩
theorem aJZ:gG prog 5:=⟨λ _=>⟨by kernel_rfl,by kernel_rfl⟩,λ _=>⟨by kernel_rfl,by kernel_rfl⟩⟩
theorem vA:gG prog 9:=⟨λ _=>⟨by kernel_rfl,by kernel_rfl⟩,λ _=>⟨by kernel_rfl,by kernel_rfl⟩⟩
theorem cL:gG prog 24:=⟨λ _=>⟨by kernel_rfl,by kernel_rfl⟩,λ _=>⟨by kernel_rfl,by kernel_rfl⟩⟩
theorem cA:gG prog 25:=⟨λ _=>⟨by kernel_rfl,by kernel_rfl⟩,λ _=>⟨by kernel_rfl,by kernel_rfl⟩⟩
theorem dZ:gG prog 26:=⟨λ _=>⟨by kernel_rfl,by kernel_rfl⟩,λ _=>⟨by kernel_rfl,by kernel_rfl⟩⟩
theorem xM:gG prog 31:=⟨λ _=>⟨by kernel_rfl,by kernel_rfl⟩,λ _=>⟨by kernel_rfl,by kernel_rfl⟩⟩
theorem An:gG prog 45:=⟨λ _=>⟨by kernel_rfl,by kernel_rfl⟩,λ _=>⟨by kernel_rfl,by kernel_rfl⟩⟩
theorem tI:gG prog 103:=⟨λ _=>⟨by kernel_rfl,by kernel_rfl⟩,λ _=>⟨by kernel_rfl,by kernel_rfl⟩⟩
theorem Z4:gG prog 104:=⟨λ _=>⟨by kernel_rfl,by kernel_rfl⟩,λ _=>⟨by kernel_rfl,by kernel_rfl⟩⟩
theorem Pu:gG prog 109:=⟨λ _=>⟨by kernel_rfl,by kernel_rfl⟩,λ _=>⟨by kernel_rfl,by kernel_rfl⟩⟩
theorem aJW:gG prog 130:=⟨λ _=>⟨by kernel_rfl,by kernel_rfl⟩,λ _=>⟨by kernel_rfl,by kernel_rfl⟩⟩
theorem aJX:gG prog 157:=⟨λ _=>⟨by kernel_rfl,by kernel_rfl⟩,λ _=>⟨by kernel_rfl,by kernel_rfl⟩⟩
theorem Pv:gG prog 167:=⟨λ _=>⟨by kernel_rfl,by kernel_rfl⟩,λ _=>⟨by kernel_rfl,by kernel_rfl⟩⟩
theorem Z6:gG prog 168:=⟨λ _=>⟨by kernel_rfl,by kernel_rfl⟩,λ _=>⟨by kernel_rfl,by kernel_rfl⟩⟩
theorem aJY:gG prog 174:=⟨λ _=>⟨by kernel_rfl,by kernel_rfl⟩,λ _=>⟨by kernel_rfl,by kernel_rfl⟩⟩
theorem Z7:gG prog 175:=⟨λ _=>⟨by kernel_rfl,by kernel_rfl⟩,λ _=>⟨by kernel_rfl,by kernel_rfl⟩⟩
theorem Z8:gG prog 179:=⟨λ _=>⟨by kernel_rfl,by kernel_rfl⟩,λ _=>⟨by kernel_rfl,by kernel_rfl⟩⟩
theorem tJ:gG prog 206:=⟨λ _=>⟨by kernel_rfl,by kernel_rfl⟩,λ _=>⟨by kernel_rfl,by kernel_rfl⟩⟩
theorem dN:kS prog 23 2:=⟨λ _=>⟨by kernel_rfl,by kernel_rfl⟩,λ _=>⟨by kernel_rfl,by kernel_rfl⟩⟩
theorem aW:kS prog 28 6:=⟨λ _=>⟨by kernel_rfl,by kernel_rfl⟩,λ _=>⟨by kernel_rfl,by kernel_rfl⟩⟩
theorem lu:kS prog 47 2:=⟨λ _=>⟨by kernel_rfl,by kernel_rfl⟩,λ _=>⟨by kernel_rfl,by kernel_rfl⟩⟩
theorem jy:kS prog 58 5:=⟨λ _=>⟨by kernel_rfl,by kernel_rfl⟩,λ _=>⟨by kernel_rfl,by kernel_rfl⟩⟩
theorem lF:kS prog 66 2:=⟨λ _=>⟨by kernel_rfl,by kernel_rfl⟩,λ _=>⟨by kernel_rfl,by kernel_rfl⟩⟩
theorem eA:kS prog 102 6:=⟨λ _=>⟨by kernel_rfl,by kernel_rfl⟩,λ _=>⟨by kernel_rfl,by kernel_rfl⟩⟩
theorem eV:kS prog 106 8:=⟨λ _=>⟨by kernel_rfl,by kernel_rfl⟩,λ _=>⟨by kernel_rfl,by kernel_rfl⟩⟩
theorem dC:kS prog 112 5:=⟨λ _=>⟨by kernel_rfl,by kernel_rfl⟩,λ _=>⟨by kernel_rfl,by kernel_rfl⟩⟩
theorem eG:kS prog 125 6:=⟨λ _=>⟨by kernel_rfl,by kernel_rfl⟩,λ _=>⟨by kernel_rfl,by kernel_rfl⟩⟩
theorem aon:kS prog 138 3:=⟨λ _=>⟨by kernel_rfl,by kernel_rfl⟩,λ _=>⟨by kernel_rfl,by kernel_rfl⟩⟩
theorem Tw:kS prog 145 2:=⟨λ _=>⟨by kernel_rfl,by kernel_rfl⟩,λ _=>⟨by kernel_rfl,by kernel_rfl⟩⟩
theorem aoo:kS prog 164 4:=⟨λ _=>⟨by kernel_rfl,by kernel_rfl⟩,λ _=>⟨by kernel_rfl,by kernel_rfl⟩⟩
theorem aop:kS prog 170 6:=⟨λ _=>⟨by kernel_rfl,by kernel_rfl⟩,λ _=>⟨by kernel_rfl,by kernel_rfl⟩⟩
theorem uk:gH prog 3 #[.int .i64 0]:=⟨.int .i64 0,λ _=>⟨by kernel_rfl,by kernel_rfl⟩,rfl⟩
theorem abu:gH prog 4 #[.bool false]:=⟨.bool false,λ _=>⟨by kernel_rfl,by kernel_rfl⟩,rfl⟩
theorem oD:gH prog 23 #[.int .i64 0,.int .i64 0]:=⟨.agg #[.int .i64 0,.int .i64 0],λ _=>⟨by kernel_rfl,by kernel_rfl⟩,rfl⟩
theorem aNm:gH prog 25 #[.slice none 0 0]:=⟨.slice none 0 0,λ _=>⟨by kernel_rfl,by kernel_rfl⟩,rfl⟩
theorem mR:gH prog 28 #[.int .i64 0,.int .i64 0,.int .i64 0,.slice none 0 0,.slice none 0 0,.slice none 0 0]:=⟨.agg #[.int .i64 0,.int .i64 0,.int .i64 0,.slice none 0 0,.slice none 0 0,.slice none 0 0],λ _=>⟨by kernel_rfl,by kernel_rfl⟩,rfl⟩
theorem aNn:gH prog 31 #[.int .i64 0]:=⟨.int .i64 0,λ _=>⟨by kernel_rfl,by kernel_rfl⟩,rfl⟩
theorem LS:gH prog 47 #[.int .i64 0,.int .i64 0]:=⟨.agg #[.int .i64 0,.int .i64 0],λ _=>⟨by kernel_rfl,by kernel_rfl⟩,rfl⟩
theorem um:gH prog 58 #[.string ⟨#[]⟩,.int .i64 0,.int .i64 0,.int .i64 0,.slice none 0 0]:=⟨.agg #[.string ⟨#[]⟩,.int .i64 0,.int .i64 0,.int .i64 0,.slice none 0 0],λ _=>⟨by kernel_rfl,by kernel_rfl⟩,rfl⟩
theorem MB:gH prog 66 #[.int .i64 0,.slice none 0 0]:=⟨.agg #[.int .i64 0,.slice none 0 0],λ _=>⟨by kernel_rfl,by kernel_rfl⟩,rfl⟩
theorem Q7:gH prog 102 #[.int .i64 0,.int .i64 0,.int .i64 0,.slice none 0 0,.slice none 0 0,.slice none 0 0]:=⟨.agg #[.int .i64 0,.int .i64 0,.int .i64 0,.slice none 0 0,.slice none 0 0,.slice none 0 0],λ _=>⟨by kernel_rfl,by kernel_rfl⟩,rfl⟩
theorem nL:gH prog 106 #[.int .i64 0,.int .i64 0,.int .i64 0,.slice none 0 0,.slice none 0 0,.slice none 0 0,.slice none 0 0,.map none]:=⟨.agg #[.int .i64 0,.int .i64 0,.int .i64 0,.slice none 0 0,.slice none 0 0,.slice none 0 0,.slice none 0 0,.map none],λ _=>⟨by kernel_rfl,by kernel_rfl⟩,rfl⟩
theorem lX:gH prog 112 #[.bool false,.bool false,.bool false,.bool false,.bool false]:=⟨.agg #[.bool false,.bool false,.bool false,.bool false,.bool false],λ _=>⟨by kernel_rfl,by kernel_rfl⟩,rfl⟩
theorem vZ:gH prog 125 #[.int .i64 0,.int .i64 0,.int .i64 0,.int .i64 0,.int .i64 0,.int .i64 0]:=⟨.agg #[.int .i64 0,.int .i64 0,.int .i64 0,.int .i64 0,.int .i64 0,.int .i64 0],λ _=>⟨by kernel_rfl,by kernel_rfl⟩,rfl⟩
theorem aNe:gH prog 138 #[.slice none 0 0,.int .i64 0,.bool false]:=⟨.agg #[.slice none 0 0,.int .i64 0,.bool false],λ _=>⟨by kernel_rfl,by kernel_rfl⟩,rfl⟩
theorem aNf:gH prog 145 #[.int .i64 0,.int .i64 0]:=⟨.agg #[.int .i64 0,.int .i64 0],λ _=>⟨by kernel_rfl,by kernel_rfl⟩,rfl⟩
theorem aNg:gH prog 167 #[.chan none]:=⟨.chan none,λ _=>⟨by kernel_rfl,by kernel_rfl⟩,rfl⟩
theorem aNh:gH prog 168 #[.chan none]:=⟨.chan none,λ _=>⟨by kernel_rfl,by kernel_rfl⟩,rfl⟩
theorem aNi:gH prog 170 #[.bool false,.bool false,.bool false,.bool false,.bool false,.int .i64 0]:=⟨.agg #[.bool false,.bool false,.bool false,.bool false,.bool false,.int .i64 0],λ _=>⟨by kernel_rfl,by kernel_rfl⟩,rfl⟩
theorem aNj:gH prog 175 #[.nilFunc]:=⟨.nilFunc,λ _=>⟨by kernel_rfl,by kernel_rfl⟩,rfl⟩
theorem aNk:gH prog 179 #[.nilFunc]:=⟨.nilFunc,λ _=>⟨by kernel_rfl,by kernel_rfl⟩,rfl⟩
theorem aNl:gH prog 206 #[.int .u64 0]:=⟨.int .u64 0,λ _=>⟨by kernel_rfl,by kernel_rfl⟩,rfl⟩
theorem ari:gb prog 23 0 0:=λ _ _ _=>⟨by kernel_rfl,by kernel_rfl⟩
theorem arj:gb prog 23 1 1:=λ _ _ _=>⟨by kernel_rfl,by kernel_rfl⟩
theorem ark:gb prog 28 0 0:=λ _ _ _=>⟨by kernel_rfl,by kernel_rfl⟩
theorem arl:gb prog 28 1 1:=λ _ _ _=>⟨by kernel_rfl,by kernel_rfl⟩
theorem aeU:gb prog 28 2 3:=λ _ _ _=>⟨by kernel_rfl,by kernel_rfl⟩
theorem arn:gb prog 28 3 4:=λ _ _ _=>⟨by kernel_rfl,by kernel_rfl⟩
theorem aro:gb prog 28 4 5:=λ _ _ _=>⟨by kernel_rfl,by kernel_rfl⟩
theorem arp:gb prog 47 0 0:=λ _ _ _=>⟨by kernel_rfl,by kernel_rfl⟩
theorem arq:gb prog 47 1 1:=λ _ _ _=>⟨by kernel_rfl,by kernel_rfl⟩
theorem ars:gb prog 58 0 0:=λ _ _ _=>⟨by kernel_rfl,by kernel_rfl⟩
theorem art:gb prog 58 1 1:=λ _ _ _=>⟨by kernel_rfl,by kernel_rfl⟩
theorem aru:gb prog 58 2 2:=λ _ _ _=>⟨by kernel_rfl,by kernel_rfl⟩
theorem arv:gb prog 58 3 4:=λ _ _ _=>⟨by kernel_rfl,by kernel_rfl⟩
theorem arw:gb prog 66 0 0:=λ _ _ _=>⟨by kernel_rfl,by kernel_rfl⟩
theorem arx:gb prog 66 1 1:=λ _ _ _=>⟨by kernel_rfl,by kernel_rfl⟩
theorem aeP:gb prog 102 0 0:=λ _ _ _=>⟨by kernel_rfl,by kernel_rfl⟩
theorem aeQ:gb prog 106 0 0:=λ _ _ _=>⟨by kernel_rfl,by kernel_rfl⟩
theorem arb:gb prog 106 1 6:=λ _ _ _=>⟨by kernel_rfl,by kernel_rfl⟩
theorem aeR:gb prog 106 2 7:=λ _ _ _=>⟨by kernel_rfl,by kernel_rfl⟩
theorem arc:gb prog 125 0 0:=λ _ _ _=>⟨by kernel_rfl,by kernel_rfl⟩
theorem ard:gb prog 125 1 1:=λ _ _ _=>⟨by kernel_rfl,by kernel_rfl⟩
theorem are:gb prog 138 0 0:=λ _ _ _=>⟨by kernel_rfl,by kernel_rfl⟩
theorem arf:gb prog 138 1 1:=λ _ _ _=>⟨by kernel_rfl,by kernel_rfl⟩
theorem arh:gb prog 138 2 2:=λ _ _ _=>⟨by kernel_rfl,by kernel_rfl⟩
theorem aeS:gb prog 170 0 0:=λ _ _ _=>⟨by kernel_rfl,by kernel_rfl⟩
theorem aeT:gb prog 170 1 5:=λ _ _ _=>⟨by kernel_rfl,by kernel_rfl⟩
theorem g8:lC prog 24 58 5:=⟨underlying24,λ _=>⟨by kernel_rfl,by kernel_rfl⟩⟩
theorem bf:lC prog 25 3 1:=⟨underlying25,λ _=>⟨by kernel_rfl,by kernel_rfl⟩⟩
theorem vJ:lC prog 26 47 2:=⟨underlying26,λ _=>⟨by kernel_rfl,by kernel_rfl⟩⟩
theorem aLh:lC prog 63 157 1:=⟨underlying63,λ _=>⟨by kernel_rfl,by kernel_rfl⟩⟩
theorem P6:lC prog 103 125 6:=⟨underlying103,λ _=>⟨by kernel_rfl,by kernel_rfl⟩⟩
theorem Lh:lC prog 115 66 2:=⟨underlying115,λ _=>⟨by kernel_rfl,by kernel_rfl⟩⟩
theorem P7:lC prog 135 25 1:=⟨underlying135,λ _=>⟨by kernel_rfl,by kernel_rfl⟩⟩
theorem aLg:lC prog 234 5 1:=⟨underlying234,λ _=>⟨by kernel_rfl,by kernel_rfl⟩⟩
theorem Fq:yY prog 112 5 4 1:=⟨underlying112,λ _=>⟨by kernel_rfl,by kernel_rfl⟩⟩
theorem BR:yY prog 123 5 3 1:=⟨underlying123,λ _=>⟨by kernel_rfl,by kernel_rfl⟩⟩
theorem Nu:yY prog 164 4 109 1:=⟨underlying164,λ _=>⟨by kernel_rfl,by kernel_rfl⟩⟩
theorem AH:pY prog 23 [(0,1),(1,1)] #[.int .i64 0,.int .i64 0]:=⟨⟨.agg #[.int .i64 0,.int .i64 0],λ _=>⟨by kernel_rfl,by kernel_rfl⟩,rfl⟩,_,underlying23,λ _=>⟨by kernel_rfl,by kernel_rfl⟩⟩
theorem uq:pY prog 28 [(0,1),(1,2),(3,1),(4,1),(5,1)] #[.int .i64 0,.int .i64 0,.int .i64 0,.slice none 0 0,.slice none 0 0,.slice none 0 0]:=⟨⟨.agg #[.int .i64 0,.int .i64 0,.int .i64 0,.slice none 0 0,.slice none 0 0,.slice none 0 0],λ _=>⟨by kernel_rfl,by kernel_rfl⟩,rfl⟩,_,underlying28,λ _=>⟨by kernel_rfl,by kernel_rfl⟩⟩
theorem Qa:pY prog 47 [(0,1),(1,1)] #[.int .i64 0,.int .i64 0]:=⟨⟨.agg #[.int .i64 0,.int .i64 0],λ _=>⟨by kernel_rfl,by kernel_rfl⟩,rfl⟩,_,underlying47,λ _=>⟨by kernel_rfl,by kernel_rfl⟩⟩
theorem aaG:pY prog 58 [(0,1),(1,1),(2,2),(4,1)] #[.string ⟨#[]⟩,.int .i64 0,.int .i64 0,.int .i64 0,.slice none 0 0]:=⟨⟨.agg #[.string ⟨#[]⟩,.int .i64 0,.int .i64 0,.int .i64 0,.slice none 0 0],λ _=>⟨by kernel_rfl,by kernel_rfl⟩,rfl⟩,_,underlying58,λ _=>⟨by kernel_rfl,by kernel_rfl⟩⟩
theorem Qb:pY prog 66 [(0,1),(1,1)] #[.int .i64 0,.slice none 0 0]:=⟨⟨.agg #[.int .i64 0,.slice none 0 0],λ _=>⟨by kernel_rfl,by kernel_rfl⟩,rfl⟩,_,underlying66,λ _=>⟨by kernel_rfl,by kernel_rfl⟩⟩
theorem qI:pY prog 102 [(0,6)] #[.int .i64 0,.int .i64 0,.int .i64 0,.slice none 0 0,.slice none 0 0,.slice none 0 0]:=⟨⟨.agg #[.int .i64 0,.int .i64 0,.int .i64 0,.slice none 0 0,.slice none 0 0,.slice none 0 0],λ _=>⟨by kernel_rfl,by kernel_rfl⟩,rfl⟩,_,underlying102,λ _=>⟨by kernel_rfl,by kernel_rfl⟩⟩
theorem P9:pY prog 106 [(0,6),(6,1),(7,1)] #[.int .i64 0,.int .i64 0,.int .i64 0,.slice none 0 0,.slice none 0 0,.slice none 0 0,.slice none 0 0,.map none]:=⟨⟨.agg #[.int .i64 0,.int .i64 0,.int .i64 0,.slice none 0 0,.slice none 0 0,.slice none 0 0,.slice none 0 0,.map none],λ _=>⟨by kernel_rfl,by kernel_rfl⟩,rfl⟩,_,underlying106,λ _=>⟨by kernel_rfl,by kernel_rfl⟩⟩
theorem GU:pY prog 125 [(0,1),(1,5)] #[.int .i64 0,.int .i64 0,.int .i64 0,.int .i64 0,.int .i64 0,.int .i64 0]:=⟨⟨.agg #[.int .i64 0,.int .i64 0,.int .i64 0,.int .i64 0,.int .i64 0,.int .i64 0],λ _=>⟨by kernel_rfl,by kernel_rfl⟩,rfl⟩,_,underlying125,λ _=>⟨by kernel_rfl,by kernel_rfl⟩⟩
theorem aLK:pY prog 138 [(0,1),(1,1),(2,1)] #[.slice none 0 0,.int .i64 0,.bool false]:=⟨⟨.agg #[.slice none 0 0,.int .i64 0,.bool false],λ _=>⟨by kernel_rfl,by kernel_rfl⟩,rfl⟩,_,underlying138,λ _=>⟨by kernel_rfl,by kernel_rfl⟩⟩
theorem aLL:pY prog 145 [(0,1),(1,1)] #[.int .i64 0,.int .i64 0]:=⟨⟨.agg #[.int .i64 0,.int .i64 0],λ _=>⟨by kernel_rfl,by kernel_rfl⟩,rfl⟩,_,underlying145,λ _=>⟨by kernel_rfl,by kernel_rfl⟩⟩
theorem aLM:pY prog 170 [(0,5),(5,1)] #[.bool false,.bool false,.bool false,.bool false,.bool false,.int .i64 0]:=⟨⟨.agg #[.bool false,.bool false,.bool false,.bool false,.bool false,.int .i64 0],λ _=>⟨by kernel_rfl,by kernel_rfl⟩,rfl⟩,_,underlying170,λ _=>⟨by kernel_rfl,by kernel_rfl⟩⟩
theorem sC:acy prog 112 #[.bool false,.bool false,.bool false,.bool false,.bool false]:=⟨⟨.agg #[.bool false,.bool false,.bool false,.bool false,.bool false],λ _=>⟨by kernel_rfl,by kernel_rfl⟩,rfl⟩,_,_,1,underlying112,λ _=>⟨by kernel_rfl,by kernel_rfl⟩⟩
theorem fT:aq prog (sizeOf 3) 1:=λ _=>⟨by kernel_rfl,by kernel_rfl⟩
theorem ahJ:aq prog (sizeOf 23) 2:=λ _=>⟨by kernel_rfl,by kernel_rfl⟩
theorem aLf:aq prog (sizeOf 25) 1:=λ _=>⟨by kernel_rfl,by kernel_rfl⟩
theorem N1:y3 prog 24 58 5 #[.string ⟨#[]⟩,.int .i64 0,.int .i64 0,.int .i64 0,.slice none 0 0]:=⟨underlying24,λ _=>⟨by kernel_rfl,by kernel_rfl⟩,⟨.agg #[.string ⟨#[]⟩,.int .i64 0,.int .i64 0,.int .i64 0,.slice none 0 0],λ _=>⟨by kernel_rfl,by kernel_rfl⟩,rfl⟩,rfl,by decide⟩
theorem cy:y3 prog 25 3 1 #[.int .i64 0]:=⟨underlying25,λ _=>⟨by kernel_rfl,by kernel_rfl⟩,⟨.int .i64 0,λ _=>⟨by kernel_rfl,by kernel_rfl⟩,rfl⟩,rfl,by decide⟩
theorem qd:y3 prog 26 47 2 #[.int .i64 0,.int .i64 0]:=⟨underlying26,λ _=>⟨by kernel_rfl,by kernel_rfl⟩,⟨.agg #[.int .i64 0,.int .i64 0],λ _=>⟨by kernel_rfl,by kernel_rfl⟩,rfl⟩,rfl,by decide⟩
theorem apj:y3 prog 103 125 6 #[.int .i64 0,.int .i64 0,.int .i64 0,.int .i64 0,.int .i64 0,.int .i64 0]:=⟨underlying103,λ _=>⟨by kernel_rfl,by kernel_rfl⟩,⟨.agg #[.int .i64 0,.int .i64 0,.int .i64 0,.int .i64 0,.int .i64 0,.int .i64 0],λ _=>⟨by kernel_rfl,by kernel_rfl⟩,rfl⟩,rfl,by decide⟩
theorem apk:y3 prog 115 66 2 #[.int .i64 0,.slice none 0 0]:=⟨underlying115,λ _=>⟨by kernel_rfl,by kernel_rfl⟩,⟨.agg #[.int .i64 0,.slice none 0 0],λ _=>⟨by kernel_rfl,by kernel_rfl⟩,rfl⟩,rfl,by decide⟩
theorem T8:y3 prog 135 25 1 #[.slice none 0 0]:=⟨underlying135,λ _=>⟨by kernel_rfl,by kernel_rfl⟩,⟨.slice none 0 0,λ _=>⟨by kernel_rfl,by kernel_rfl⟩,rfl⟩,rfl,by decide⟩
theorem alo:aV prog 18:=⟨⟨Tryz.f18,func18,by decide +kernel,rfl⟩⟩
theorem abw:aV prog 19:=⟨⟨Tryz.f19,func19,by decide +kernel,rfl⟩⟩
theorem ap7:aV prog 20:=⟨⟨Tryz.f20,func20,by decide +kernel,rfl⟩⟩
theorem N5:aV prog 22:=⟨⟨Tryz.f22,func22,by decide +kernel,rfl⟩⟩
theorem HD:aV prog 23:=⟨⟨Tryz.f23,func23,by decide +kernel,rfl⟩⟩
theorem HM:aV prog 25:=⟨⟨Tryz.f25,func25,by decide +kernel,rfl⟩⟩
theorem akk:aV prog 27:=⟨⟨Tryz.f27,func27,by decide +kernel,rfl⟩⟩
theorem ajM:aV prog 29:=⟨⟨Tryz.f29,func29,by decide +kernel,rfl⟩⟩
theorem alp:aV prog 31:=⟨⟨Tryz.f31,func31,by decide +kernel,rfl⟩⟩
theorem aqg:aV prog 33:=⟨⟨Tryz.f33,func33,by decide +kernel,rfl⟩⟩
theorem alq:aV prog 35:=⟨⟨Tryz.f35,func35,by decide +kernel,rfl⟩⟩
theorem aje:aV prog 37:=⟨⟨Tryz.f37,func37,by decide +kernel,rfl⟩⟩
theorem alr:aV prog 38:=⟨⟨Tryz.f38,func38,by decide +kernel,rfl⟩⟩
theorem aep:aV prog 40:=⟨⟨Tryz.f40,func40,by decide +kernel,rfl⟩⟩
theorem aNs:aV prog 42:=⟨⟨Tryz.f42,func42,by decide +kernel,rfl⟩⟩
theorem Q9:aV prog 43:=⟨⟨Tryz.f43,func43,by decide +kernel,rfl⟩⟩
theorem LV:aV prog 44:=⟨⟨Tryz.f44,func44,by decide +kernel,rfl⟩⟩
theorem Uq:aV prog 45:=⟨⟨Tryz.f45,func45,by decide +kernel,rfl⟩⟩
theorem aNt:aV prog 46:=⟨⟨Tryz.f46,func46,by decide +kernel,rfl⟩⟩
theorem zm:aV prog 47:=⟨⟨Tryz.f47,func47,by decide +kernel,rfl⟩⟩
theorem N6:aV prog 48:=⟨⟨Tryz.f48,func48,by decide +kernel,rfl⟩⟩
theorem aqh:aV prog 49:=⟨⟨Tryz.f49,func49,by decide +kernel,rfl⟩⟩
theorem akl:aV prog 50:=⟨⟨Tryz.f50,func50,by decide +kernel,rfl⟩⟩
theorem EE:aV prog 51:=⟨⟨Tryz.f51,func51,by decide +kernel,rfl⟩⟩
theorem aqi:aV prog 53:=⟨⟨Tryz.f53,func53,by decide +kernel,rfl⟩⟩
theorem akm:aV prog 54:=⟨⟨Tryz.f54,func54,by decide +kernel,rfl⟩⟩
theorem ach:aV prog 55:=⟨⟨Tryz.f55,func55,by decide +kernel,rfl⟩⟩
theorem abZ:aV prog 56:=⟨⟨Tryz.f56,func56,by decide +kernel,rfl⟩⟩
theorem aOR:aV prog 57:=⟨⟨Tryz.f57,func57,by decide +kernel,rfl⟩⟩
theorem sa:aV prog 58:=⟨⟨Tryz.f58,func58,by decide +kernel,rfl⟩⟩
theorem aOp:aV prog 59:=⟨⟨Tryz.f59,func59,by decide +kernel,rfl⟩⟩
theorem Sm:aV prog 60:=⟨⟨Tryz.f60,func60,by decide +kernel,rfl⟩⟩
theorem N7:aV prog 61:=⟨⟨Tryz.f61,func61,by decide +kernel,rfl⟩⟩
theorem aNT:aV prog 62:=⟨⟨Tryz.f62,func62,by decide +kernel,rfl⟩⟩
theorem aNu:aV prog 63:=⟨⟨Tryz.f63,func63,by decide +kernel,rfl⟩⟩
theorem aqj:aV prog 64:=⟨⟨Tryz.f64,func64,by decide +kernel,rfl⟩⟩
theorem Ur:aV prog 66:=⟨⟨Tryz.f66,func66,by decide +kernel,rfl⟩⟩
theorem aOq:aV prog 70:=⟨⟨Tryz.f70,func70,by decide +kernel,rfl⟩⟩
theorem LW:aV prog 71:=⟨⟨Tryz.f71,func71,by decide +kernel,rfl⟩⟩
theorem Mv:aV prog 72:=⟨⟨Tryz.f72,func72,by decide +kernel,rfl⟩⟩
theorem aOS:aV prog 73:=⟨⟨Tryz.f73,func73,by decide +kernel,rfl⟩⟩
theorem aOT:aV prog 74:=⟨⟨Tryz.f74,func74,by decide +kernel,rfl⟩⟩
theorem aOr:aV prog 75:=⟨⟨Tryz.f75,func75,by decide +kernel,rfl⟩⟩
theorem aOU:aV prog 76:=⟨⟨Tryz.f76,func76,by decide +kernel,rfl⟩⟩
theorem aOV:aV prog 77:=⟨⟨Tryz.f77,func77,by decide +kernel,rfl⟩⟩
theorem aOW:aV prog 78:=⟨⟨Tryz.f78,func78,by decide +kernel,rfl⟩⟩
theorem aOX:aV prog 80:=⟨⟨Tryz.f80,func80,by decide +kernel,rfl⟩⟩
theorem uX:aV prog 83:=⟨⟨Tryz.f83,func83,by decide +kernel,rfl⟩⟩
theorem aOY:aV prog 84:=⟨⟨Tryz.f84,func84,by decide +kernel,rfl⟩⟩
theorem aOZ:aV prog 85:=⟨⟨Tryz.f85,func85,by decide +kernel,rfl⟩⟩
theorem aNU:aV prog 86:=⟨⟨Tryz.f86,func86,by decide +kernel,rfl⟩⟩
theorem aqk:aV prog 87:=⟨⟨Tryz.f87,func87,by decide +kernel,rfl⟩⟩
theorem FF:aV prog 88:=⟨⟨Tryz.f88,func88,by decide +kernel,rfl⟩⟩
theorem o0:aV prog 89:=⟨⟨Tryz.f89,func89,by decide +kernel,rfl⟩⟩
theorem FG:aV prog 90:=⟨⟨Tryz.f90,func90,by decide +kernel,rfl⟩⟩
theorem N8:aV prog 91:=⟨⟨Tryz.f91,func91,by decide +kernel,rfl⟩⟩
theorem Us:aV prog 92:=⟨⟨Tryz.f92,func92,by decide +kernel,rfl⟩⟩
theorem gT:aV prog 93:=⟨⟨Tryz.f93,func93,by decide +kernel,rfl⟩⟩
theorem Ut:aV prog 94:=⟨⟨Tryz.f94,func94,by decide +kernel,rfl⟩⟩
theorem N9:aV prog 95:=⟨⟨Tryz.f95,func95,by decide +kernel,rfl⟩⟩
theorem aql:aV prog 96:=⟨⟨Tryz.f96,func96,by decide +kernel,rfl⟩⟩
theorem aqm:aV prog 98:=⟨⟨Tryz.f98,func98,by decide +kernel,rfl⟩⟩
theorem rq:aV prog 99:=⟨⟨Tryz.f99,func99,by decide +kernel,rfl⟩⟩
theorem ad9:aV prog 100:=⟨⟨Tryz.f100,func100,by decide +kernel,rfl⟩⟩
theorem apn:aV prog 101:=⟨⟨Tryz.f101,func101,by decide +kernel,rfl⟩⟩
theorem T9:aV prog 102:=⟨⟨Tryz.f102,func102,by decide +kernel,rfl⟩⟩
theorem Ua:aV prog 103:=⟨⟨Tryz.f103,func103,by decide +kernel,rfl⟩⟩
theorem zk:aV prog 104:=⟨⟨Tryz.f104,func104,by decide +kernel,rfl⟩⟩
theorem apo:aV prog 105:=⟨⟨Tryz.f105,func105,by decide +kernel,rfl⟩⟩
theorem apq:aV prog 107:=⟨⟨Tryz.f107,func107,by decide +kernel,rfl⟩⟩
theorem Ub:aV prog 108:=⟨⟨Tryz.f108,func108,by decide +kernel,rfl⟩⟩
theorem apr:aV prog 110:=⟨⟨Tryz.f110,func110,by decide +kernel,rfl⟩⟩
theorem Uc:aV prog 112:=⟨⟨Tryz.f112,func112,by decide +kernel,rfl⟩⟩
theorem aps:aV prog 113:=⟨⟨Tryz.f113,func113,by decide +kernel,rfl⟩⟩
theorem aea:aV prog 114:=⟨⟨Tryz.f114,func114,by decide +kernel,rfl⟩⟩
theorem Ud:aV prog 117:=⟨⟨Tryz.f117,func117,by decide +kernel,rfl⟩⟩
theorem Ue:aV prog 118:=⟨⟨Tryz.f118,func118,by decide +kernel,rfl⟩⟩
theorem Uf:aV prog 120:=⟨⟨Tryz.f120,func120,by decide +kernel,rfl⟩⟩
theorem Ug:aV prog 121:=⟨⟨Tryz.f121,func121,by decide +kernel,rfl⟩⟩
theorem aeb:aV prog 122:=⟨⟨Tryz.f122,func122,by decide +kernel,rfl⟩⟩
theorem aec:aV prog 123:=⟨⟨Tryz.f123,func123,by decide +kernel,rfl⟩⟩
theorem aed:aV prog 124:=⟨⟨Tryz.f124,func124,by decide +kernel,rfl⟩⟩
theorem zl:aV prog 125:=⟨⟨Tryz.f125,func125,by decide +kernel,rfl⟩⟩
theorem aee:aV prog 126:=⟨⟨Tryz.f126,func126,by decide +kernel,rfl⟩⟩
theorem apt:aV prog 127:=⟨⟨Tryz.f127,func127,by decide +kernel,rfl⟩⟩
theorem Uh:aV prog 128:=⟨⟨Tryz.f128,func128,by decide +kernel,rfl⟩⟩
theorem apu:aV prog 129:=⟨⟨Tryz.f129,func129,by decide +kernel,rfl⟩⟩
theorem Ui:aV prog 130:=⟨⟨Tryz.f130,func130,by decide +kernel,rfl⟩⟩
theorem aef:aV prog 131:=⟨⟨Tryz.f131,func131,by decide +kernel,rfl⟩⟩
theorem Uj:aV prog 132:=⟨⟨Tryz.f132,func132,by decide +kernel,rfl⟩⟩
theorem N3:aV prog 133:=⟨⟨Tryz.f133,func133,by decide +kernel,rfl⟩⟩
theorem apv:aV prog 134:=⟨⟨Tryz.f134,func134,by decide +kernel,rfl⟩⟩
theorem apw:aV prog 135:=⟨⟨Tryz.f135,func135,by decide +kernel,rfl⟩⟩
theorem apx:aV prog 136:=⟨⟨Tryz.f136,func136,by decide +kernel,rfl⟩⟩
theorem apy:aV prog 137:=⟨⟨Tryz.f137,func137,by decide +kernel,rfl⟩⟩
theorem apz:aV prog 138:=⟨⟨Tryz.f138,func138,by decide +kernel,rfl⟩⟩
theorem apA:aV prog 139:=⟨⟨Tryz.f139,func139,by decide +kernel,rfl⟩⟩
theorem B0:aV prog 140:=⟨⟨Tryz.f140,func140,by decide +kernel,rfl⟩⟩
theorem aeg:aV prog 141:=⟨⟨Tryz.f141,func141,by decide +kernel,rfl⟩⟩
theorem Uk:aV prog 143:=⟨⟨Tryz.f143,func143,by decide +kernel,rfl⟩⟩
theorem apB:aV prog 144:=⟨⟨Tryz.f144,func144,by decide +kernel,rfl⟩⟩
theorem aeh:aV prog 145:=⟨⟨Tryz.f145,func145,by decide +kernel,rfl⟩⟩
theorem apC:aV prog 146:=⟨⟨Tryz.f146,func146,by decide +kernel,rfl⟩⟩
theorem apD:aV prog 147:=⟨⟨Tryz.f147,func147,by decide +kernel,rfl⟩⟩
theorem apE:aV prog 148:=⟨⟨Tryz.f148,func148,by decide +kernel,rfl⟩⟩
theorem aei:aV prog 149:=⟨⟨Tryz.f149,func149,by decide +kernel,rfl⟩⟩
theorem aej:aV prog 150:=⟨⟨Tryz.f150,func150,by decide +kernel,rfl⟩⟩
theorem Ul:aV prog 151:=⟨⟨Tryz.f151,func151,by decide +kernel,rfl⟩⟩
theorem wU:aV prog 152:=⟨⟨Tryz.f152,func152,by decide +kernel,rfl⟩⟩
theorem apF:aV prog 153:=⟨⟨Tryz.f153,func153,by decide +kernel,rfl⟩⟩
theorem sH:aV prog 154:=⟨⟨Tryz.f154,func154,by decide +kernel,rfl⟩⟩
theorem apG:aV prog 155:=⟨⟨Tryz.f155,func155,by decide +kernel,rfl⟩⟩
theorem apH:aV prog 156:=⟨⟨Tryz.f156,func156,by decide +kernel,rfl⟩⟩
theorem aek:aV prog 157:=⟨⟨Tryz.f157,func157,by decide +kernel,rfl⟩⟩
theorem ael:aV prog 158:=⟨⟨Tryz.f158,func158,by decide +kernel,rfl⟩⟩
theorem apI:aV prog 159:=⟨⟨Tryz.f159,func159,by decide +kernel,rfl⟩⟩
theorem FE:aV prog 160:=⟨⟨Tryz.f160,func160,by decide +kernel,rfl⟩⟩
theorem apJ:aV prog 161:=⟨⟨Tryz.f161,func161,by decide +kernel,rfl⟩⟩
theorem apK:aV prog 162:=⟨⟨Tryz.f162,func162,by decide +kernel,rfl⟩⟩
theorem apL:aV prog 163:=⟨⟨Tryz.f163,func163,by decide +kernel,rfl⟩⟩
theorem apM:aV prog 164:=⟨⟨Tryz.f164,func164,by decide +kernel,rfl⟩⟩
theorem apN:aV prog 165:=⟨⟨Tryz.f165,func165,by decide +kernel,rfl⟩⟩
theorem apO:aV prog 166:=⟨⟨Tryz.f166,func166,by decide +kernel,rfl⟩⟩
theorem apP:aV prog 167:=⟨⟨Tryz.f167,func167,by decide +kernel,rfl⟩⟩
theorem apQ:aV prog 168:=⟨⟨Tryz.f168,func168,by decide +kernel,rfl⟩⟩
theorem Um:aV prog 169:=⟨⟨Tryz.f169,func169,by decide +kernel,rfl⟩⟩
theorem aem:aV prog 170:=⟨⟨Tryz.f170,func170,by decide +kernel,rfl⟩⟩
theorem apR:aV prog 171:=⟨⟨Tryz.f171,func171,by decide +kernel,rfl⟩⟩
theorem aen:aV prog 172:=⟨⟨Tryz.f172,func172,by decide +kernel,rfl⟩⟩
theorem apS:aV prog 173:=⟨⟨Tryz.f173,func173,by decide +kernel,rfl⟩⟩
theorem apT:aV prog 174:=⟨⟨Tryz.f174,func174,by decide +kernel,rfl⟩⟩
theorem apU:aV prog 175:=⟨⟨Tryz.f175,func175,by decide +kernel,rfl⟩⟩
theorem N4:aV prog 176:=⟨⟨Tryz.f176,func176,by decide +kernel,rfl⟩⟩
theorem apV:aV prog 177:=⟨⟨Tryz.f177,func177,by decide +kernel,rfl⟩⟩
theorem apW:aV prog 178:=⟨⟨Tryz.f178,func178,by decide +kernel,rfl⟩⟩
theorem apX:aV prog 179:=⟨⟨Tryz.f179,func179,by decide +kernel,rfl⟩⟩
theorem apY:aV prog 180:=⟨⟨Tryz.f180,func180,by decide +kernel,rfl⟩⟩
theorem apZ:aV prog 181:=⟨⟨Tryz.f181,func181,by decide +kernel,rfl⟩⟩
theorem ap0:aV prog 182:=⟨⟨Tryz.f182,func182,by decide +kernel,rfl⟩⟩
theorem oZ:aV prog 183:=⟨⟨Tryz.f183,func183,by decide +kernel,rfl⟩⟩
theorem ap1:aV prog 184:=⟨⟨Tryz.f184,func184,by decide +kernel,rfl⟩⟩
theorem ap2:aV prog 185:=⟨⟨Tryz.f185,func185,by decide +kernel,rfl⟩⟩
theorem ap3:aV prog 187:=⟨⟨Tryz.f187,func187,by decide +kernel,rfl⟩⟩
theorem ap4:aV prog 188:=⟨⟨Tryz.f188,func188,by decide +kernel,rfl⟩⟩
theorem aeo:aV prog 189:=⟨⟨Tryz.f189,func189,by decide +kernel,rfl⟩⟩
theorem ap5:aV prog 190:=⟨⟨Tryz.f190,func190,by decide +kernel,rfl⟩⟩
theorem ap6:aV prog 191:=⟨⟨Tryz.f191,func191,by decide +kernel,rfl⟩⟩
theorem Un:aV prog 192:=⟨⟨Tryz.f192,func192,by decide +kernel,rfl⟩⟩
theorem Uo:aV prog 193:=⟨⟨Tryz.f193,func193,by decide +kernel,rfl⟩⟩
theorem Up:aV prog 194:=⟨⟨Tryz.f194,func194,by decide +kernel,rfl⟩⟩
theorem ap8:aV prog 211:=⟨⟨Tryz.f211,func211,by decide +kernel,rfl⟩⟩
theorem ap9:aV prog 212:=⟨⟨Tryz.f212,func212,by decide +kernel,rfl⟩⟩
theorem aqa:aV prog 213:=⟨⟨Tryz.f213,func213,by decide +kernel,rfl⟩⟩
theorem aqb:aV prog 214:=⟨⟨Tryz.f214,func214,by decide +kernel,rfl⟩⟩
theorem aqc:aV prog 215:=⟨⟨Tryz.f215,func215,by decide +kernel,rfl⟩⟩
theorem aqd:aV prog 216:=⟨⟨Tryz.f216,func216,by decide +kernel,rfl⟩⟩
theorem aqe:aV prog 217:=⟨⟨Tryz.f217,func217,by decide +kernel,rfl⟩⟩
theorem aqf:aV prog 218:=⟨⟨Tryz.f218,func218,by decide +kernel,rfl⟩⟩
end Go.Proofs.YtabamagholjdcaaGreatDoor
namespace Go.Proofs.YtabamagholjdcaaGreatDoor
open Go.Lg Go.Proofs Tryz
abbrev iv(z:Int):Value:=.int .i64 z
theorem zW{P:Program}{e:Nat}(h:(P.info? e).any (λ i=>decide (i.bytes≤65536))=true):∃ i,P.info? e=some i∧i.bytes≤65536:=by
 cases hi:P.info? e with
 | none=>rw [hi] at h; cases h
 | some i=>rw [hi] at h; exact ⟨i,rfl,by simpa using h⟩
structure Reach where
 ai:Int
 ak:Int
def acz:b9 Reach:=λ _ x es=>es=[iv x.ai,iv x.ak]
instance:CM acz:=⟨λ hR h=>by obtain rfl:=h; exact rfl,λ h=>by obtain rfl:=h; simp [Value.oneCell']⟩
structure cE where
 Name:ByteArray
 dJ:Int
 Weight:Reach
 On:(List Int)
def bn:b9 cE:=λ R x es=>∃ x8,au (CI .i64) 1 R x8 x.On∧es=[.string x.Name,iv x.dJ,iv x.Weight.ai,iv x.Weight.ak,x8]
instance:CM bn:=⟨λ hR h=>by obtain ⟨x8,CG,rfl⟩:=h; exact ⟨_,CG.mono hR,rfl⟩,λ h=>by obtain ⟨x8,CG,rfl⟩:=h; intro u hu; simp only [List.mem_cons,List.not_mem_nil,or_false] at hu; rcases hu with rfl | rfl | rfl | rfl | rfl <;> first | rfl | exact CG.one⟩
structure bV where
 dd:Int
 dM:Int
def bh:b9 bV:=λ _ x es=>es=[iv x.dd,iv x.dM]
instance:CM bh:=⟨λ hR h=>by obtain rfl:=h; exact rfl,λ h=>by obtain rfl:=h; simp [Value.oneCell']⟩
structure aj where
 aB:Int
 aa:Reach
 ao:(List cE)
 Out:(List Int)
 aT:(List bV)
def SA:b9 aj:=λ R x es=>∃ QB x8 QC,au bn 5 R QB x.ao∧au (CI .i64) 1 R x8 x.Out∧au bh 2 R QC x.aT∧es=[iv x.aB,iv x.aa.ai,iv x.aa.ak,QB,x8,QC]
instance:CM SA:=⟨λ hR h=>by obtain ⟨QB,x8,QC,WD,CG,WE,rfl⟩:=h; exact ⟨_,_,_,WD.mono hR,CG.mono hR,WE.mono hR,rfl⟩,λ h=>by obtain ⟨QB,x8,QC,WD,CG,WE,rfl⟩:=h; intro u hu; simp only [List.mem_cons,List.not_mem_nil,or_false] at hu; rcases hu with rfl | rfl | rfl | rfl | rfl | rfl <;> first | rfl | exact WD.one | exact CG.one | exact WE.one⟩
structure bt where
 df:Int
 weights:(List Int)
def gE:b9 bt:=λ _ x es=>x.weights.length=5∧es=([iv x.df]++(x.weights.map (Value.int .i64)++[]))
instance:CM gE:=⟨λ hR h=>by obtain ⟨agE,rfl⟩:=h; exact ⟨agE,rfl⟩,λ h=>by obtain ⟨agE,rfl⟩:=h; simp [Value.oneCell']⟩
structure di where
 book:aj
 eB:(List bt)
 pB:gB
structure ai where
 Rt:(List Int)
 number:Int
 some_:Bool
structure cR where
 aa:Int
 eU:(List Int)
def yZ:b9 cR:=λ R x es=>∃ QA,au (CI .i64) 1 R QA x.eU∧es=[iv x.aa,QA]
instance:CM yZ:=⟨λ hR h=>by obtain ⟨QA,WC,rfl⟩:=h; exact ⟨_,WC.mono hR,rfl⟩,λ h=>by obtain ⟨QA,WC,rfl⟩:=h; intro u hu; simp only [List.mem_cons,List.not_mem_nil,or_false] at hu; rcases hu with rfl | rfl <;> first | rfl | exact WC.one⟩
theorem B5{α:Type}{l:List α}(h:l.length=5):∃ a b c d e,l=[a,b,c,d,e]:=by
 match l,h with
 | [a,b,c,d,e],_=>exact ⟨a,b,c,d,e,rfl⟩
theorem RJ:prog.eqGuardType prog.depth 23=false:=by decide +kernel
def yM(x y:Reach):Bool:=(x.ai == y.ai && (x.ak == y.ak && true))
theorem RH(x y:Reach):aq prog (Op.equal 23 (.agg #[iv x.ai,iv x.ak]) (.agg #[iv y.ai,iv y.ak])) (yM x y):=Qz (d:=9999) underlying23 (by decide +kernel) (.cons rfl (λ _=>⟨by kernel_rfl,by kernel_rfl⟩) (λ _=>⟨by kernel_rfl,by kernel_rfl⟩) (rW underlying3) (.cons rfl (λ _=>⟨by kernel_rfl,by kernel_rfl⟩) (λ _=>⟨by kernel_rfl,by kernel_rfl⟩) (rW underlying3) .nil))
theorem arG:prog.eqGuardType prog.depth 47=false:=by decide +kernel
def ab0(x y:bV):Bool:=(x.dd == y.dd && (x.dM == y.dM && true))
theorem aqp(x y:bV):aq prog (Op.equal 47 (.agg #[iv x.dd,iv x.dM]) (.agg #[iv y.dd,iv y.dM])) (ab0 x y):=Qz (d:=9999) underlying47 (by decide +kernel) (.cons rfl (λ _=>⟨by kernel_rfl,by kernel_rfl⟩) (λ _=>⟨by kernel_rfl,by kernel_rfl⟩) (rW underlying3) (.cons rfl (λ _=>⟨by kernel_rfl,by kernel_rfl⟩) (λ _=>⟨by kernel_rfl,by kernel_rfl⟩) (rW underlying45) .nil))
theorem arF:prog.eqGuardType prog.depth 125=false:=by decide +kernel
def RG(x y:bt):Bool:=x.df == y.df && (x.weights == y.weights && true)
theorem aqo{x y:bt}(hx:x.weights.length=5)(hy:y.weights.length=5):aq prog (Op.equal 125 (.agg (List.toArray ([iv x.df]++(x.weights.map (Value.int .i64)++[])))) (.agg (List.toArray ([iv y.df]++(y.weights.map (Value.int .i64)++[]))))) (RG x y):=by
 obtain ⟨xb,xw⟩:=x
 obtain ⟨yb,yw⟩:=y
 simp only at hx hy
 obtain ⟨a0,a1,a2,a3,a4,rfl⟩:=B5 hx
 obtain ⟨b0,b1,b2,b3,b4,rfl⟩:=B5 hy
 have hw:([a0,a1,a2,a3,a4] == [b0,b1,b2,b3,b4])=((a0 == b0) && ((a1 == b1) && ((a2 == b2) && ((a3 == b3) && ((a4 == b4) && true))))):=by simp
 unfold RG
 simp only [hw]
 refine Qz (d:=9999) underlying125 (by decide +kernel) ?_
 refine .cons rfl (λ _=>⟨by kernel_rfl,by kernel_rfl⟩) (λ _=>⟨by kernel_rfl,by kernel_rfl⟩) (rW underlying3) (.cons rfl (a:=.agg #[iv a0,iv a1,iv a2,iv a3,iv a4]) (b:=.agg #[iv b0,iv b1,iv b2,iv b3,iv b4]) (λ _=>⟨by kernel_rfl,by kernel_rfl⟩) (λ _=>⟨by kernel_rfl,by kernel_rfl⟩) ?_ .nil)
 refine ah1 (d:=9998) (n:=1) underlying123 (λ _=>⟨by kernel_rfl,by kernel_rfl⟩) ?_
 refine .cons (i:=0) (rest:=[1,2,3,4]) (λ _=>⟨by kernel_rfl,by kernel_rfl⟩) (λ _=>⟨by kernel_rfl,by kernel_rfl⟩) (rW underlying3) ?_
 refine .cons (i:=1) (rest:=[2,3,4]) (λ _=>⟨by kernel_rfl,by kernel_rfl⟩) (λ _=>⟨by kernel_rfl,by kernel_rfl⟩) (rW underlying3) ?_
 refine .cons (i:=2) (rest:=[3,4]) (λ _=>⟨by kernel_rfl,by kernel_rfl⟩) (λ _=>⟨by kernel_rfl,by kernel_rfl⟩) (rW underlying3) ?_
 refine .cons (i:=3) (rest:=[4]) (λ _=>⟨by kernel_rfl,by kernel_rfl⟩) (λ _=>⟨by kernel_rfl,by kernel_rfl⟩) (rW underlying3) ?_
 exact .cons (i:=4) (rest:=[]) (λ _=>⟨by kernel_rfl,by kernel_rfl⟩) (λ _=>⟨by kernel_rfl,by kernel_rfl⟩) (rW underlying3) .nil
theorem Tx:yX prog 24 58 5:=⟨underlying24,λ _=>⟨by kernel_rfl,by kernel_rfl⟩,zW (by decide +kernel),⟨.agg #[.string ⟨#[]⟩,.int .i64 0,.int .i64 0,.int .i64 0,.slice none 0 0],λ _=>⟨by kernel_rfl,by kernel_rfl⟩,rfl⟩⟩
theorem dv:yX prog 25 3 1:=⟨underlying25,λ _=>⟨by kernel_rfl,by kernel_rfl⟩,zW (by decide +kernel),⟨.int .i64 0,λ _=>⟨by kernel_rfl,by kernel_rfl⟩,rfl⟩⟩
theorem oR:yX prog 26 47 2:=⟨underlying26,λ _=>⟨by kernel_rfl,by kernel_rfl⟩,zW (by decide +kernel),⟨.agg #[.int .i64 0,.int .i64 0],λ _=>⟨by kernel_rfl,by kernel_rfl⟩,rfl⟩⟩
theorem aou:yX prog 103 125 6:=⟨underlying103,λ _=>⟨by kernel_rfl,by kernel_rfl⟩,zW (by decide +kernel),⟨.agg #[.int .i64 0,.int .i64 0,.int .i64 0,.int .i64 0,.int .i64 0,.int .i64 0],λ _=>⟨by kernel_rfl,by kernel_rfl⟩,rfl⟩⟩
theorem aov:yX prog 115 66 2:=⟨underlying115,λ _=>⟨by kernel_rfl,by kernel_rfl⟩,zW (by decide +kernel),⟨.agg #[.int .i64 0,.slice none 0 0],λ _=>⟨by kernel_rfl,by kernel_rfl⟩,rfl⟩⟩
theorem adt:yX prog 135 25 1:=⟨underlying135,λ _=>⟨by kernel_rfl,by kernel_rfl⟩,zW (by decide +kernel),⟨.slice none 0 0,λ _=>⟨by kernel_rfl,by kernel_rfl⟩,rfl⟩⟩
theorem adC:(Array.range (0 * 5)).map ((#[.string ⟨#[]⟩,.int .i64 0,.int .i64 0,.int .i64 0,.slice none 0 0]:Array Value)[· % (#[.string ⟨#[]⟩,.int .i64 0,.int .i64 0,.int .i64 0,.slice none 0 0]:Array Value).size]!)=#[]:=by kernel_rfl
theorem aoM:(Array.range (1 * 5)).map ((#[.string ⟨#[]⟩,.int .i64 0,.int .i64 0,.int .i64 0,.slice none 0 0]:Array Value)[· % (#[.string ⟨#[]⟩,.int .i64 0,.int .i64 0,.int .i64 0,.slice none 0 0]:Array Value).size]!)=#[.string ⟨#[]⟩,.int .i64 0,.int .i64 0,.int .i64 0,.slice none 0 0]:=by kernel_rfl
theorem aoN:(Array.range (3 * 5)).map ((#[.string ⟨#[]⟩,.int .i64 0,.int .i64 0,.int .i64 0,.slice none 0 0]:Array Value)[· % (#[.string ⟨#[]⟩,.int .i64 0,.int .i64 0,.int .i64 0,.slice none 0 0]:Array Value).size]!)=#[.string ⟨#[]⟩,.int .i64 0,.int .i64 0,.int .i64 0,.slice none 0 0,.string ⟨#[]⟩,.int .i64 0,.int .i64 0,.int .i64 0,.slice none 0 0,.string ⟨#[]⟩,.int .i64 0,.int .i64 0,.int .i64 0,.slice none 0 0]:=by kernel_rfl
theorem wm:(Array.range (0 * 1)).map ((#[.int .i64 0]:Array Value)[· % (#[.int .i64 0]:Array Value).size]!)=#[]:=by kernel_rfl
theorem dp:(Array.range (1 * 1)).map ((#[.int .i64 0]:Array Value)[· % (#[.int .i64 0]:Array Value).size]!)=#[.int .i64 0]:=by kernel_rfl
theorem NF:(Array.range (2 * 1)).map ((#[.int .i64 0]:Array Value)[· % (#[.int .i64 0]:Array Value).size]!)=#[.int .i64 0,.int .i64 0]:=by kernel_rfl
theorem Fx:(Array.range (3 * 1)).map ((#[.int .i64 0]:Array Value)[· % (#[.int .i64 0]:Array Value).size]!)=#[.int .i64 0,.int .i64 0,.int .i64 0]:=by kernel_rfl
theorem TE:(Array.range (0 * 2)).map ((#[.int .i64 0,.int .i64 0]:Array Value)[· % (#[.int .i64 0,.int .i64 0]:Array Value).size]!)=#[]:=by kernel_rfl
theorem uW:(Array.range (1 * 2)).map ((#[.int .i64 0,.int .i64 0]:Array Value)[· % (#[.int .i64 0,.int .i64 0]:Array Value).size]!)=#[.int .i64 0,.int .i64 0]:=by kernel_rfl
theorem aoK:(Array.range (1 * 6)).map ((#[.int .i64 0,.int .i64 0,.int .i64 0,.int .i64 0,.int .i64 0,.int .i64 0]:Array Value)[· % (#[.int .i64 0,.int .i64 0,.int .i64 0,.int .i64 0,.int .i64 0,.int .i64 0]:Array Value).size]!)=#[.int .i64 0,.int .i64 0,.int .i64 0,.int .i64 0,.int .i64 0,.int .i64 0]:=by kernel_rfl
theorem aoL:(Array.range (1 * 2)).map ((#[.int .i64 0,.slice none 0 0]:Array Value)[· % (#[.int .i64 0,.slice none 0 0]:Array Value).size]!)=#[.int .i64 0,.slice none 0 0]:=by kernel_rfl
theorem TD:(Array.range (1 * 1)).map ((#[.slice none 0 0]:Array Value)[· % (#[.slice none 0 0]:Array Value).size]!)=#[.slice none 0 0]:=by kernel_rfl
abbrev fN(R:aE):Prop:=aR R [] 0 0 [.func (.func 211) #[] #[],.func (.func 212) #[] #[],.func (.func 213) #[] #[],.func (.func 214) #[] #[]]
theorem fN.mono{R R':aE}(h:fN R)(hR:aN R R'):fN R':=aR.up (H:=[]) h hR
theorem fN.any{R:aE}{H:an}(h:fN R):aR R H 0 0 [.func (.func 211) #[] #[],.func (.func 212) #[] #[],.func (.func 213) #[] #[],.func (.func 214) #[] #[]]:=aR.any h
set_option maxRecDepth 100000
def Z3:Nat→Nat→Option Nat
 | 23,0=>some 0
 | 23,1=>some 1
 | 28,0=>some 0
 | 28,1=>some 1
 | 28,2=>some 3
 | 28,3=>some 4
 | 28,4=>some 5
 | 47,0=>some 0
 | 47,1=>some 1
 | 58,0=>some 0
 | 58,1=>some 1
 | 58,2=>some 2
 | 58,3=>some 4
 | 66,0=>some 0
 | 66,1=>some 1
 | 102,0=>some 0
 | 106,0=>some 0
 | 106,1=>some 6
 | 106,2=>some 7
 | 125,0=>some 0
 | 125,1=>some 1
 | 138,0=>some 0
 | 138,1=>some 1
 | 138,2=>some 2
 | 170,0=>some 0
 | 170,1=>some 5
 | _,_=>none
theorem aJU:∀ s f n,Z3 s f=some n→gb prog s f n:=by
 intro s f n h
 unfold Z3 at h
 split at h
 ·cases h; exact ari
 ·cases h; exact arj
 ·cases h; exact ark
 ·cases h; exact arl
 ·cases h; exact aeU
 ·cases h; exact arn
 ·cases h; exact aro
 ·cases h; exact arp
 ·cases h; exact arq
 ·cases h; exact ars
 ·cases h; exact art
 ·cases h; exact aru
 ·cases h; exact arv
 ·cases h; exact arw
 ·cases h; exact arx
 ·cases h; exact aeP
 ·cases h; exact aeQ
 ·cases h; exact arb
 ·cases h; exact aeR
 ·cases h; exact arc
 ·cases h; exact ard
 ·cases h; exact are
 ·cases h; exact arf
 ·cases h; exact arh
 ·cases h; exact aeS
 ·cases h; exact aeT
 ·cases h
instance:uH prog:=⟨Z3,aJU⟩
theorem aqn(a b c d:Int):aq prog (Op.equal 145 (ff a b) (ff c d)) (a == c && (b == d && true)) :=
 Qz (d:=9999) underlying145 (by decide +kernel) (.cons rfl (λ _=>⟨by kernel_rfl,by kernel_rfl⟩) (λ _=>⟨by kernel_rfl,by kernel_rfl⟩) (rW underlying3) (.cons rfl (λ _=>⟨by kernel_rfl,by kernel_rfl⟩) (λ _=>⟨by kernel_rfl,by kernel_rfl⟩) (rW underlying3) .nil))
theorem K4:ID prog 143 145 3:=⟨underlying143,⟨_,underlying145,λ a b=>by cases a <;> rfl⟩,aqn,λ e a b _=>⟨by kernel_rfl,by kernel_rfl⟩,λ _=>⟨by kernel_rfl,by kernel_rfl⟩⟩
theorem aG4{a b:List Bool}(hx:a.length=5)(hy:b.length=5):aq prog (Op.equal 112 (nu a) (nu b)) (a == b):=by
 obtain ⟨a0,a1,a2,a3,a4,rfl⟩:=B5 hx
 obtain ⟨b0,b1,b2,b3,b4,rfl⟩:=B5 hy
 have hw:([a0,a1,a2,a3,a4] == [b0,b1,b2,b3,b4])=((a0 == b0) && ((a1 == b1) && ((a2 == b2) && ((a3 == b3) && ((a4 == b4) && true))))):=by simp
 rw [hw]
 refine ah1 (d:=9999) (n:=1) underlying112 (λ _=>⟨by kernel_rfl,by kernel_rfl⟩) ?_
 refine .cons (i:=0) (rest:=[1,2,3,4]) (λ _=>⟨by kernel_rfl,by kernel_rfl⟩) (λ _=>⟨by kernel_rfl,by kernel_rfl⟩) (Ly underlying4) ?_
 refine .cons (i:=1) (rest:=[2,3,4]) (λ _=>⟨by kernel_rfl,by kernel_rfl⟩) (λ _=>⟨by kernel_rfl,by kernel_rfl⟩) (Ly underlying4) ?_
 refine .cons (i:=2) (rest:=[3,4]) (λ _=>⟨by kernel_rfl,by kernel_rfl⟩) (λ _=>⟨by kernel_rfl,by kernel_rfl⟩) (Ly underlying4) ?_
 refine .cons (i:=3) (rest:=[4]) (λ _=>⟨by kernel_rfl,by kernel_rfl⟩) (λ _=>⟨by kernel_rfl,by kernel_rfl⟩) (Ly underlying4) ?_
 exact .cons (i:=4) (rest:=[]) (λ _=>⟨by kernel_rfl,by kernel_rfl⟩) (λ _=>⟨by kernel_rfl,by kernel_rfl⟩) (Ly underlying4) .nil
theorem aG3(e:Bool){a:List Bool}(hx:a.length=5):aq prog (Instr.checkKey e 10000 112 (nu a)) ():=by
 obtain ⟨a0,a1,a2,a3,a4,rfl⟩:=B5 hx
 exact λ _=>⟨by kernel_rfl,by kernel_rfl⟩
theorem ZY:Fi prog 104 112 3:=⟨underlying104,⟨_,underlying112,λ a b=>by cases a <;> rfl⟩,λ _ _=>aG4,λ e _=>aG3 e,λ _=>⟨by kernel_rfl,by kernel_rfl⟩⟩
theorem mixed:prog.follows .mixedOrders=true:=by kernel_rfl
end Go.Proofs.YtabamagholjdcaaGreatDoor
