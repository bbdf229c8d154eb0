/- Closed facts on the program; the structs of the models. Conditions: none. -/
import Derived.Test.YtoaoffinglajbaaGreatDoorQBLgC
import Derived.Test.YtoaoffinglajbaaGreatDoorProg
import Derived.KernelRfl
namespace Go.Proofs.YtoaoffinglajbaaGreatDoor
open Go.Lg Go.Proofs Tryz
theorem aI:dr prog 3:=⟨vK λ _=>by kernel_rfl,vK λ _=>by kernel_rfl⟩
theorem eN:dr prog 4:=⟨vK λ _=>by kernel_rfl,vK λ _=>by kernel_rfl⟩
theorem Kb:dr prog 5:=⟨vK λ _=>by kernel_rfl,vK λ _=>by kernel_rfl⟩
theorem lB:dr prog 9:=⟨vK λ _=>by kernel_rfl,vK λ _=>by kernel_rfl⟩
theorem cZ:dr prog 24:=⟨vK λ _=>by kernel_rfl,vK λ _=>by kernel_rfl⟩
theorem cb:dr prog 25:=⟨vK λ _=>by kernel_rfl,vK λ _=>by kernel_rfl⟩
theorem ei:dr prog 26:=⟨vK λ _=>by kernel_rfl,vK λ _=>by kernel_rfl⟩
theorem gU:dr prog 29:=⟨vK λ _=>by kernel_rfl,vK λ _=>by kernel_rfl⟩
theorem eM:dr prog 30:=⟨vK λ _=>by kernel_rfl,vK λ _=>by kernel_rfl⟩
theorem ki:dr prog 43:=⟨vK λ _=>by kernel_rfl,vK λ _=>by kernel_rfl⟩
theorem rU:dr prog 65:=⟨vK λ _=>by kernel_rfl,vK λ _=>by kernel_rfl⟩
theorem iY:dr prog 127:=⟨vK λ _=>by kernel_rfl,vK λ _=>by kernel_rfl⟩
theorem u3:dr prog 128:=⟨vK λ _=>by kernel_rfl,vK λ _=>by kernel_rfl⟩
theorem u4:dr prog 133:=⟨vK λ _=>by kernel_rfl,vK λ _=>by kernel_rfl⟩
theorem rR:dr prog 134:=⟨vK λ _=>by kernel_rfl,vK λ _=>by kernel_rfl⟩
theorem J7:dr prog 139:=⟨vK λ _=>by kernel_rfl,vK λ _=>by kernel_rfl⟩
theorem zP:dr prog 159:=⟨vK λ _=>by kernel_rfl,vK λ _=>by kernel_rfl⟩
theorem rS:dr prog 160:=⟨vK λ _=>by kernel_rfl,vK λ _=>by kernel_rfl⟩
theorem u5:dr prog 165:=⟨vK λ _=>by kernel_rfl,vK λ _=>by kernel_rfl⟩
theorem u6:dr prog 181:=⟨vK λ _=>by kernel_rfl,vK λ _=>by kernel_rfl⟩
theorem rT:dr prog 185:=⟨vK λ _=>by kernel_rfl,vK λ _=>by kernel_rfl⟩
theorem u7:dr prog 186:=⟨vK λ _=>by kernel_rfl,vK λ _=>by kernel_rfl⟩
theorem J8:dr prog 190:=⟨vK λ _=>by kernel_rfl,vK λ _=>by kernel_rfl⟩
theorem u9:dr prog 191:=⟨vK λ _=>by kernel_rfl,vK λ _=>by kernel_rfl⟩
theorem J9:dr prog 205:=⟨vK λ _=>by kernel_rfl,vK λ _=>by kernel_rfl⟩
theorem Ka:dr prog 223:=⟨vK λ _=>by kernel_rfl,vK λ _=>by kernel_rfl⟩
theorem iZ:dr prog 225:=⟨vK λ _=>by kernel_rfl,vK λ _=>by kernel_rfl⟩
theorem cB:ek prog 23 2:=⟨vK λ _=>by kernel_rfl,vK λ _=>by kernel_rfl⟩
theorem a7:ek prog 28 6:=⟨vK λ _=>by kernel_rfl,vK λ _=>by kernel_rfl⟩
theorem df:ek prog 32 5:=⟨vK λ _=>by kernel_rfl,vK λ _=>by kernel_rfl⟩
theorem gw:ek prog 38 2:=⟨vK λ _=>by kernel_rfl,vK λ _=>by kernel_rfl⟩
theorem lT:ek prog 40 4:=⟨vK λ _=>by kernel_rfl,vK λ _=>by kernel_rfl⟩
theorem iB:ek prog 48 5:=⟨vK λ _=>by kernel_rfl,vK λ _=>by kernel_rfl⟩
theorem jl:ek prog 53 2:=⟨vK λ _=>by kernel_rfl,vK λ _=>by kernel_rfl⟩
theorem iC:ek prog 67 2:=⟨vK λ _=>by kernel_rfl,vK λ _=>by kernel_rfl⟩
theorem lS:ek prog 100 5:=⟨vK λ _=>by kernel_rfl,vK λ _=>by kernel_rfl⟩
theorem iA:ek prog 105 5:=⟨vK λ _=>by kernel_rfl,vK λ _=>by kernel_rfl⟩
theorem dA:ek prog 115 6:=⟨vK λ _=>by kernel_rfl,vK λ _=>by kernel_rfl⟩
theorem dT:ek prog 118 6:=⟨vK λ _=>by kernel_rfl,vK λ _=>by kernel_rfl⟩
theorem cR:ek prog 124 5:=⟨vK λ _=>by kernel_rfl,vK λ _=>by kernel_rfl⟩
theorem dM:ek prog 130 8:=⟨vK λ _=>by kernel_rfl,vK λ _=>by kernel_rfl⟩
theorem BH:ek prog 148 3:=⟨vK λ _=>by kernel_rfl,vK λ _=>by kernel_rfl⟩
theorem sB:ek prog 152 2:=⟨vK λ _=>by kernel_rfl,vK λ _=>by kernel_rfl⟩
theorem h1:ek prog 162 6:=⟨vK λ _=>by kernel_rfl,vK λ _=>by kernel_rfl⟩
theorem oQ:ek prog 170 5:=⟨vK λ _=>by kernel_rfl,vK λ _=>by kernel_rfl⟩
theorem qA:ek prog 172 6:=⟨vK λ _=>by kernel_rfl,vK λ _=>by kernel_rfl⟩
theorem BI:ek prog 173 3:=⟨vK λ _=>by kernel_rfl,vK λ _=>by kernel_rfl⟩
theorem BJ:ek prog 179 4:=⟨vK λ _=>by kernel_rfl,vK λ _=>by kernel_rfl⟩
theorem BK:ek prog 188 6:=⟨vK λ _=>by kernel_rfl,vK λ _=>by kernel_rfl⟩
theorem iw:dH prog 3 #[.int .i64 0]:=⟨.int .i64 0,vK λ _=>by kernel_rfl,rfl⟩
theorem vL:dH prog 4 #[.bool false]:=⟨.bool false,vK λ _=>by kernel_rfl,rfl⟩
theorem fT:dH prog 23 #[.int .i64 0,.int .i64 0]:=⟨.agg #[.int .i64 0,.int .i64 0],vK λ _=>by kernel_rfl,rfl⟩
theorem MB:dH prog 25 #[.slice none 0 0]:=⟨.slice none 0 0,vK λ _=>by kernel_rfl,rfl⟩
theorem gp:dH prog 28 #[.int .i64 0,.int .i64 0,.int .i64 0,.slice none 0 0,.slice none 0 0,.slice none 0 0]:=⟨.agg #[.int .i64 0,.int .i64 0,.int .i64 0,.slice none 0 0,.slice none 0 0,.slice none 0 0],vK λ _=>by kernel_rfl,rfl⟩
theorem qq:dH prog 32 #[.int .i64 0,.int .i64 0,.int .i64 0,.slice none 0 0,.slice none 0 0]:=⟨.agg #[.int .i64 0,.int .i64 0,.int .i64 0,.slice none 0 0,.slice none 0 0],vK λ _=>by kernel_rfl,rfl⟩
theorem By:dH prog 38 #[.int .i64 0,.int .i64 0]:=⟨.agg #[.int .i64 0,.int .i64 0],vK λ _=>by kernel_rfl,rfl⟩
theorem sj:dH prog 40 #[.int .i64 0,.int .i64 0,.slice none 0 0,.slice none 0 0]:=⟨.agg #[.int .i64 0,.int .i64 0,.slice none 0 0,.slice none 0 0],vK λ _=>by kernel_rfl,rfl⟩
theorem MC:dH prog 43 #[.int .i64 0]:=⟨.int .i64 0,vK λ _=>by kernel_rfl,rfl⟩
theorem qs:dH prog 48 #[.int .i64 0,.int .i64 0,.int .i64 0,.int .i64 0,.bool false]:=⟨.agg #[.int .i64 0,.int .i64 0,.int .i64 0,.int .i64 0,.bool false],vK λ _=>by kernel_rfl,rfl⟩
theorem sm:dH prog 53 #[.int .i64 0,.slice none 0 0]:=⟨.agg #[.int .i64 0,.slice none 0 0],vK λ _=>by kernel_rfl,rfl⟩
theorem vM:dH prog 67 #[.int .i64 0,.int .i64 0]:=⟨.agg #[.int .i64 0,.int .i64 0],vK λ _=>by kernel_rfl,rfl⟩
theorem qp:dH prog 105 #[.string ⟨#[]⟩,.int .i64 0,.int .i64 0,.int .i64 0,.slice none 0 0]:=⟨.agg #[.string ⟨#[]⟩,.int .i64 0,.int .i64 0,.int .i64 0,.slice none 0 0],vK λ _=>by kernel_rfl,rfl⟩
theorem vJ:dH prog 115 #[.int .i64 0,.int .i64 0,.int .i64 0,.slice none 0 0,.slice none 0 0,.slice none 0 0]:=⟨.agg #[.int .i64 0,.int .i64 0,.int .i64 0,.slice none 0 0,.slice none 0 0,.slice none 0 0],vK λ _=>by kernel_rfl,rfl⟩
theorem lM:dH prog 118 #[.int .i64 0,.int .i64 0,.int .i64 0,.int .i64 0,.int .i64 0,.int .i64 0]:=⟨.agg #[.int .i64 0,.int .i64 0,.int .i64 0,.int .i64 0,.int .i64 0,.int .i64 0],vK λ _=>by kernel_rfl,rfl⟩
theorem fS:dH prog 124 #[.bool false,.bool false,.bool false,.bool false,.bool false]:=⟨.agg #[.bool false,.bool false,.bool false,.bool false,.bool false],vK λ _=>by kernel_rfl,rfl⟩
theorem g1:dH prog 130 #[.int .i64 0,.int .i64 0,.int .i64 0,.slice none 0 0,.slice none 0 0,.slice none 0 0,.slice none 0 0,.map none]:=⟨.agg #[.int .i64 0,.int .i64 0,.int .i64 0,.slice none 0 0,.slice none 0 0,.slice none 0 0,.slice none 0 0,.map none],vK λ _=>by kernel_rfl,rfl⟩
theorem Mr:dH prog 133 #[.nilFunc]:=⟨.nilFunc,vK λ _=>by kernel_rfl,rfl⟩
theorem Mt:dH prog 148 #[.slice none 0 0,.int .i64 0,.bool false]:=⟨.agg #[.slice none 0 0,.int .i64 0,.bool false],vK λ _=>by kernel_rfl,rfl⟩
theorem Mu:dH prog 152 #[.int .i64 0,.int .i64 0]:=⟨.agg #[.int .i64 0,.int .i64 0],vK λ _=>by kernel_rfl,rfl⟩
theorem si:dH prog 162 #[.int .i64 0,.int .i64 0,.int .i64 0,.slice none 0 0,.slice none 0 0,.slice none 0 0]:=⟨.agg #[.int .i64 0,.int .i64 0,.int .i64 0,.slice none 0 0,.slice none 0 0,.slice none 0 0],vK λ _=>by kernel_rfl,rfl⟩
theorem Bw:dH prog 170 #[.int .i64 0,.int .i64 0,.int .i64 0,.int .i64 0,.int .i64 0]:=⟨.agg #[.int .i64 0,.int .i64 0,.int .i64 0,.int .i64 0,.int .i64 0],vK λ _=>by kernel_rfl,rfl⟩
theorem Bx:dH prog 172 #[.int .i64 0,.int .i64 0,.int .i64 0,.int .i64 0,.int .i64 0,.int .i64 0]:=⟨.agg #[.int .i64 0,.int .i64 0,.int .i64 0,.int .i64 0,.int .i64 0,.int .i64 0],vK λ _=>by kernel_rfl,rfl⟩
theorem Mv:dH prog 181 #[.nilFunc]:=⟨.nilFunc,vK λ _=>by kernel_rfl,rfl⟩
theorem Mw:dH prog 185 #[.chan none]:=⟨.chan none,vK λ _=>by kernel_rfl,rfl⟩
theorem Mx:dH prog 186 #[.chan none]:=⟨.chan none,vK λ _=>by kernel_rfl,rfl⟩
theorem My:dH prog 188 #[.bool false,.bool false,.bool false,.bool false,.bool false,.int .i64 0]:=⟨.agg #[.bool false,.bool false,.bool false,.bool false,.bool false,.int .i64 0],vK λ _=>by kernel_rfl,rfl⟩
theorem Mz:dH prog 191 #[.nilFunc]:=⟨.nilFunc,vK λ _=>by kernel_rfl,rfl⟩
theorem MA:dH prog 225 #[.int .u64 0]:=⟨.int .u64 0,vK λ _=>by kernel_rfl,rfl⟩
theorem EU:cM prog 23 0 0:=λ _ _=>vK λ _=>by kernel_rfl
theorem EV:cM prog 23 1 1:=λ _ _=>vK λ _=>by kernel_rfl
theorem EW:cM prog 28 0 0:=λ _ _=>vK λ _=>by kernel_rfl
theorem EX:cM prog 28 1 1:=λ _ _=>vK λ _=>by kernel_rfl
theorem xX:cM prog 28 2 3:=λ _ _=>vK λ _=>by kernel_rfl
theorem EY:cM prog 28 3 4:=λ _ _=>vK λ _=>by kernel_rfl
theorem EZ:cM prog 28 4 5:=λ _ _=>vK λ _=>by kernel_rfl
theorem E0:cM prog 32 0 0:=λ _ _=>vK λ _=>by kernel_rfl
theorem E1:cM prog 32 1 1:=λ _ _=>vK λ _=>by kernel_rfl
theorem E2:cM prog 32 2 2:=λ _ _=>vK λ _=>by kernel_rfl
theorem E3:cM prog 32 3 3:=λ _ _=>vK λ _=>by kernel_rfl
theorem E4:cM prog 32 4 4:=λ _ _=>vK λ _=>by kernel_rfl
theorem E5:cM prog 38 0 0:=λ _ _=>vK λ _=>by kernel_rfl
theorem E6:cM prog 38 1 1:=λ _ _=>vK λ _=>by kernel_rfl
theorem E7:cM prog 40 0 0:=λ _ _=>vK λ _=>by kernel_rfl
theorem E8:cM prog 40 1 2:=λ _ _=>vK λ _=>by kernel_rfl
theorem E9:cM prog 40 2 3:=λ _ _=>vK λ _=>by kernel_rfl
theorem Fa:cM prog 48 0 0:=λ _ _=>vK λ _=>by kernel_rfl
theorem Fb:cM prog 48 1 2:=λ _ _=>vK λ _=>by kernel_rfl
theorem Fc:cM prog 48 2 3:=λ _ _=>vK λ _=>by kernel_rfl
theorem Fe:cM prog 48 3 4:=λ _ _=>vK λ _=>by kernel_rfl
theorem Ff:cM prog 53 0 0:=λ _ _=>vK λ _=>by kernel_rfl
theorem Fg:cM prog 53 1 1:=λ _ _=>vK λ _=>by kernel_rfl
theorem Fh:cM prog 67 0 0:=λ _ _=>vK λ _=>by kernel_rfl
theorem Fi:cM prog 67 1 1:=λ _ _=>vK λ _=>by kernel_rfl
theorem ED:cM prog 100 0 0:=λ _ _=>vK λ _=>by kernel_rfl
theorem EE:cM prog 105 0 0:=λ _ _=>vK λ _=>by kernel_rfl
theorem EF:cM prog 105 1 1:=λ _ _=>vK λ _=>by kernel_rfl
theorem EG:cM prog 105 2 2:=λ _ _=>vK λ _=>by kernel_rfl
theorem EH:cM prog 105 3 4:=λ _ _=>vK λ _=>by kernel_rfl
theorem xS:cM prog 115 0 0:=λ _ _=>vK λ _=>by kernel_rfl
theorem EI:cM prog 118 0 0:=λ _ _=>vK λ _=>by kernel_rfl
theorem EJ:cM prog 118 1 1:=λ _ _=>vK λ _=>by kernel_rfl
theorem xT:cM prog 130 0 0:=λ _ _=>vK λ _=>by kernel_rfl
theorem EK:cM prog 130 1 6:=λ _ _=>vK λ _=>by kernel_rfl
theorem xU:cM prog 130 2 7:=λ _ _=>vK λ _=>by kernel_rfl
theorem EL:cM prog 148 0 0:=λ _ _=>vK λ _=>by kernel_rfl
theorem EM:cM prog 148 1 1:=λ _ _=>vK λ _=>by kernel_rfl
theorem EN:cM prog 148 2 2:=λ _ _=>vK λ _=>by kernel_rfl
theorem EO:cM prog 162 0 0:=λ _ _=>vK λ _=>by kernel_rfl
theorem EP:cM prog 162 1 5:=λ _ _=>vK λ _=>by kernel_rfl
theorem ER:cM prog 170 0 0:=λ _ _=>vK λ _=>by kernel_rfl
theorem ES:cM prog 170 1 2:=λ _ _=>vK λ _=>by kernel_rfl
theorem ET:cM prog 172 0 0:=λ _ _=>vK λ _=>by kernel_rfl
theorem xV:cM prog 188 0 0:=λ _ _=>vK λ _=>by kernel_rfl
theorem xW:cM prog 188 1 5:=λ _ _=>vK λ _=>by kernel_rfl
theorem fQ:fs prog 24 105 5:=⟨underlying24,vK λ _=>by kernel_rfl⟩
theorem bd:fs prog 25 3 1:=⟨underlying25,vK λ _=>by kernel_rfl⟩
theorem ow:fs prog 26 67 2:=⟨underlying26,vK λ _=>by kernel_rfl⟩
theorem qe:fs prog 29 23 2:=⟨underlying29,vK λ _=>by kernel_rfl⟩
theorem je:fs prog 30 48 5:=⟨underlying30,vK λ _=>by kernel_rfl⟩
theorem AD:fs prog 33 159 1:=⟨underlying33,vK λ _=>by kernel_rfl⟩
theorem qf:fs prog 96 38 2:=⟨underlying96,vK λ _=>by kernel_rfl⟩
theorem r3:fs prog 127 118 6:=⟨underlying127,vK λ _=>by kernel_rfl⟩
theorem AB:fs prog 156 25 1:=⟨underlying156,vK λ _=>by kernel_rfl⟩
theorem Lz:fs prog 160 172 6:=⟨underlying160,vK λ _=>by kernel_rfl⟩
theorem LA:fs prog 255 5 1:=⟨underlying255,vK λ _=>by kernel_rfl⟩
theorem oU:jj prog 116 5 3 1:=⟨underlying116,vK λ _=>by kernel_rfl⟩
theorem nf:jj prog 124 5 4 1:=⟨underlying124,vK λ _=>by kernel_rfl⟩
theorem wh:jj prog 168 3 3 1:=⟨underlying168,vK λ _=>by kernel_rfl⟩
theorem sI:jj prog 173 3 165 1:=⟨underlying173,vK λ _=>by kernel_rfl⟩
theorem qE:jj prog 179 4 134 1:=⟨underlying179,vK λ _=>by kernel_rfl⟩
theorem jI:fE prog 23 [(0,1),(1,1)] #[.int .i64 0,.int .i64 0]:=⟨⟨.agg #[.int .i64 0,.int .i64 0],vK λ _=>by kernel_rfl,rfl⟩,_,underlying23,vK λ _=>by kernel_rfl⟩
theorem jJ:fE prog 28 [(0,1),(1,2),(3,1),(4,1),(5,1)] #[.int .i64 0,.int .i64 0,.int .i64 0,.slice none 0 0,.slice none 0 0,.slice none 0 0]:=⟨⟨.agg #[.int .i64 0,.int .i64 0,.int .i64 0,.slice none 0 0,.slice none 0 0,.slice none 0 0],vK λ _=>by kernel_rfl,rfl⟩,_,underlying28,vK λ _=>by kernel_rfl⟩
theorem r8:fE prog 32 [(0,1),(1,1),(2,1),(3,1),(4,1)] #[.int .i64 0,.int .i64 0,.int .i64 0,.slice none 0 0,.slice none 0 0]:=⟨⟨.agg #[.int .i64 0,.int .i64 0,.int .i64 0,.slice none 0 0,.slice none 0 0],vK λ _=>by kernel_rfl,rfl⟩,_,underlying32,vK λ _=>by kernel_rfl⟩
theorem AM:fE prog 38 [(0,1),(1,1)] #[.int .i64 0,.int .i64 0]:=⟨⟨.agg #[.int .i64 0,.int .i64 0],vK λ _=>by kernel_rfl,rfl⟩,_,underlying38,vK λ _=>by kernel_rfl⟩
theorem AN:fE prog 40 [(0,2),(2,1),(3,1)] #[.int .i64 0,.int .i64 0,.slice none 0 0,.slice none 0 0]:=⟨⟨.agg #[.int .i64 0,.int .i64 0,.slice none 0 0,.slice none 0 0],vK λ _=>by kernel_rfl,rfl⟩,_,underlying40,vK λ _=>by kernel_rfl⟩
theorem vw:fE prog 53 [(0,1),(1,1)] #[.int .i64 0,.slice none 0 0]:=⟨⟨.agg #[.int .i64 0,.slice none 0 0],vK λ _=>by kernel_rfl,rfl⟩,_,underlying53,vK λ _=>by kernel_rfl⟩
theorem r9:fE prog 67 [(0,1),(1,1)] #[.int .i64 0,.int .i64 0]:=⟨⟨.agg #[.int .i64 0,.int .i64 0],vK λ _=>by kernel_rfl,rfl⟩,_,underlying67,vK λ _=>by kernel_rfl⟩
theorem qi:fE prog 100 [(0,5)] #[.int .i64 0,.int .i64 0,.int .i64 0,.slice none 0 0,.slice none 0 0]:=⟨⟨.agg #[.int .i64 0,.int .i64 0,.int .i64 0,.slice none 0 0,.slice none 0 0],vK λ _=>by kernel_rfl,rfl⟩,_,underlying100,vK λ _=>by kernel_rfl⟩
theorem vv:fE prog 105 [(0,1),(1,1),(2,2),(4,1)] #[.string ⟨#[]⟩,.int .i64 0,.int .i64 0,.int .i64 0,.slice none 0 0]:=⟨⟨.agg #[.string ⟨#[]⟩,.int .i64 0,.int .i64 0,.int .i64 0,.slice none 0 0],vK λ _=>by kernel_rfl,rfl⟩,_,underlying105,vK λ _=>by kernel_rfl⟩
theorem im:fE prog 115 [(0,6)] #[.int .i64 0,.int .i64 0,.int .i64 0,.slice none 0 0,.slice none 0 0,.slice none 0 0]:=⟨⟨.agg #[.int .i64 0,.int .i64 0,.int .i64 0,.slice none 0 0,.slice none 0 0,.slice none 0 0],vK λ _=>by kernel_rfl,rfl⟩,_,underlying115,vK λ _=>by kernel_rfl⟩
theorem qj:fE prog 118 [(0,1),(1,5)] #[.int .i64 0,.int .i64 0,.int .i64 0,.int .i64 0,.int .i64 0,.int .i64 0]:=⟨⟨.agg #[.int .i64 0,.int .i64 0,.int .i64 0,.int .i64 0,.int .i64 0,.int .i64 0],vK λ _=>by kernel_rfl,rfl⟩,_,underlying118,vK λ _=>by kernel_rfl⟩
theorem r6:fE prog 130 [(0,6),(6,1),(7,1)] #[.int .i64 0,.int .i64 0,.int .i64 0,.slice none 0 0,.slice none 0 0,.slice none 0 0,.slice none 0 0,.map none]:=⟨⟨.agg #[.int .i64 0,.int .i64 0,.int .i64 0,.slice none 0 0,.slice none 0 0,.slice none 0 0,.slice none 0 0,.map none],vK λ _=>by kernel_rfl,rfl⟩,_,underlying130,vK λ _=>by kernel_rfl⟩
theorem LS:fE prog 148 [(0,1),(1,1),(2,1)] #[.slice none 0 0,.int .i64 0,.bool false]:=⟨⟨.agg #[.slice none 0 0,.int .i64 0,.bool false],vK λ _=>by kernel_rfl,rfl⟩,_,underlying148,vK λ _=>by kernel_rfl⟩
theorem LU:fE prog 152 [(0,1),(1,1)] #[.int .i64 0,.int .i64 0]:=⟨⟨.agg #[.int .i64 0,.int .i64 0],vK λ _=>by kernel_rfl,rfl⟩,_,underlying152,vK λ _=>by kernel_rfl⟩
theorem r7:fE prog 162 [(0,5),(5,1)] #[.int .i64 0,.int .i64 0,.int .i64 0,.slice none 0 0,.slice none 0 0,.slice none 0 0]:=⟨⟨.agg #[.int .i64 0,.int .i64 0,.int .i64 0,.slice none 0 0,.slice none 0 0,.slice none 0 0],vK λ _=>by kernel_rfl,rfl⟩,_,underlying162,vK λ _=>by kernel_rfl⟩
theorem LV:fE prog 172 [(0,5),(5,1)] #[.int .i64 0,.int .i64 0,.int .i64 0,.int .i64 0,.int .i64 0,.int .i64 0]:=⟨⟨.agg #[.int .i64 0,.int .i64 0,.int .i64 0,.int .i64 0,.int .i64 0,.int .i64 0],vK λ _=>by kernel_rfl,rfl⟩,_,underlying172,vK λ _=>by kernel_rfl⟩
theorem LW:fE prog 188 [(0,5),(5,1)] #[.bool false,.bool false,.bool false,.bool false,.bool false,.int .i64 0]:=⟨⟨.agg #[.bool false,.bool false,.bool false,.bool false,.bool false,.int .i64 0],vK λ _=>by kernel_rfl,rfl⟩,_,underlying188,vK λ _=>by kernel_rfl⟩
theorem iE:vO prog 124 #[.bool false,.bool false,.bool false,.bool false,.bool false]:=⟨⟨.agg #[.bool false,.bool false,.bool false,.bool false,.bool false],vK λ _=>by kernel_rfl,rfl⟩,_,_,1,underlying124,vK λ _=>by kernel_rfl⟩
theorem ed:al prog (sizeOf 3) 1:=vK λ _=>by kernel_rfl
theorem Ly:al prog (sizeOf 4) 1:=vK λ _=>by kernel_rfl
theorem Lw:al prog (sizeOf 23) 2:=vK λ _=>by kernel_rfl
theorem Lx:al prog (sizeOf 25) 1:=vK λ _=>by kernel_rfl
theorem xo:iz prog 24 105 5 #[.string ⟨#[]⟩,.int .i64 0,.int .i64 0,.int .i64 0,.slice none 0 0]:=⟨underlying24,vK λ _=>by kernel_rfl,⟨.agg #[.string ⟨#[]⟩,.int .i64 0,.int .i64 0,.int .i64 0,.slice none 0 0],vK λ _=>by kernel_rfl,rfl⟩,rfl,by decide⟩
theorem cw:iz prog 25 3 1 #[.int .i64 0]:=⟨underlying25,vK λ _=>by kernel_rfl,⟨.int .i64 0,vK λ _=>by kernel_rfl,rfl⟩,rfl,by decide⟩
theorem h3:iz prog 26 67 2 #[.int .i64 0,.int .i64 0]:=⟨underlying26,vK λ _=>by kernel_rfl,⟨.agg #[.int .i64 0,.int .i64 0],vK λ _=>by kernel_rfl,rfl⟩,rfl,by decide⟩
theorem CA:iz prog 29 23 2 #[.int .i64 0,.int .i64 0]:=⟨underlying29,vK λ _=>by kernel_rfl,⟨.agg #[.int .i64 0,.int .i64 0],vK λ _=>by kernel_rfl,rfl⟩,rfl,by decide⟩
theorem xp:iz prog 30 48 5 #[.int .i64 0,.int .i64 0,.int .i64 0,.int .i64 0,.bool false]:=⟨underlying30,vK λ _=>by kernel_rfl,⟨.agg #[.int .i64 0,.int .i64 0,.int .i64 0,.int .i64 0,.bool false],vK λ _=>by kernel_rfl,rfl⟩,rfl,by decide⟩
theorem CC:iz prog 96 38 2 #[.int .i64 0,.int .i64 0]:=⟨underlying96,vK λ _=>by kernel_rfl,⟨.agg #[.int .i64 0,.int .i64 0],vK λ _=>by kernel_rfl,rfl⟩,rfl,by decide⟩
theorem Cx:iz prog 127 118 6 #[.int .i64 0,.int .i64 0,.int .i64 0,.int .i64 0,.int .i64 0,.int .i64 0]:=⟨underlying127,vK λ _=>by kernel_rfl,⟨.agg #[.int .i64 0,.int .i64 0,.int .i64 0,.int .i64 0,.int .i64 0,.int .i64 0],vK λ _=>by kernel_rfl,rfl⟩,rfl,by decide⟩
theorem Cy:iz prog 156 25 1 #[.slice none 0 0]:=⟨underlying156,vK λ _=>by kernel_rfl,⟨.slice none 0 0,vK λ _=>by kernel_rfl,rfl⟩,rfl,by decide⟩
theorem Cz:iz prog 160 172 6 #[.int .i64 0,.int .i64 0,.int .i64 0,.int .i64 0,.int .i64 0,.int .i64 0]:=⟨underlying160,vK λ _=>by kernel_rfl,⟨.agg #[.int .i64 0,.int .i64 0,.int .i64 0,.int .i64 0,.int .i64 0,.int .i64 0],vK λ _=>by kernel_rfl,rfl⟩,rfl,by decide⟩
theorem D3:aT prog 4:=⟨⟨Tryz.f4,func4,by decide +kernel,rfl⟩⟩
theorem Ea:aT prog 5:=⟨⟨Tryz.f5,func5,by decide +kernel,rfl⟩⟩
theorem o4:aT prog 6:=⟨⟨Tryz.f6,func6,by decide +kernel,rfl⟩⟩
theorem El:aT prog 7:=⟨⟨Tryz.f7,func7,by decide +kernel,rfl⟩⟩
theorem Er:aT prog 8:=⟨⟨Tryz.f8,func8,by decide +kernel,rfl⟩⟩
theorem xK:aT prog 9:=⟨⟨Tryz.f9,func9,by decide +kernel,rfl⟩⟩
theorem e6:aT prog 10:=⟨⟨Tryz.f10,func10,by decide +kernel,rfl⟩⟩
theorem kF:aT prog 11:=⟨⟨Tryz.f11,func11,by decide +kernel,rfl⟩⟩
theorem CU:aT prog 12:=⟨⟨Tryz.f12,func12,by decide +kernel,rfl⟩⟩
theorem C5:aT prog 13:=⟨⟨Tryz.f13,func13,by decide +kernel,rfl⟩⟩
theorem De:aT prog 14:=⟨⟨Tryz.f14,func14,by decide +kernel,rfl⟩⟩
theorem tm:aT prog 15:=⟨⟨Tryz.f15,func15,by decide +kernel,rfl⟩⟩
theorem Du:aT prog 16:=⟨⟨Tryz.f16,func16,by decide +kernel,rfl⟩⟩
theorem Dy:aT prog 17:=⟨⟨Tryz.f17,func17,by decide +kernel,rfl⟩⟩
theorem Dz:aT prog 18:=⟨⟨Tryz.f18,func18,by decide +kernel,rfl⟩⟩
theorem DL:aT prog 19:=⟨⟨Tryz.f19,func19,by decide +kernel,rfl⟩⟩
theorem DS:aT prog 20:=⟨⟨Tryz.f20,func20,by decide +kernel,rfl⟩⟩
theorem DT:aT prog 21:=⟨⟨Tryz.f21,func21,by decide +kernel,rfl⟩⟩
theorem DU:aT prog 22:=⟨⟨Tryz.f22,func22,by decide +kernel,rfl⟩⟩
theorem tt:aT prog 23:=⟨⟨Tryz.f23,func23,by decide +kernel,rfl⟩⟩
theorem DV:aT prog 24:=⟨⟨Tryz.f24,func24,by decide +kernel,rfl⟩⟩
theorem DW:aT prog 25:=⟨⟨Tryz.f25,func25,by decide +kernel,rfl⟩⟩
theorem q2:aT prog 26:=⟨⟨Tryz.f26,func26,by decide +kernel,rfl⟩⟩
theorem tu:aT prog 27:=⟨⟨Tryz.f27,func27,by decide +kernel,rfl⟩⟩
theorem tv:aT prog 28:=⟨⟨Tryz.f28,func28,by decide +kernel,rfl⟩⟩
theorem xB:aT prog 29:=⟨⟨Tryz.f29,func29,by decide +kernel,rfl⟩⟩
theorem DX:aT prog 30:=⟨⟨Tryz.f30,func30,by decide +kernel,rfl⟩⟩
theorem DY:aT prog 31:=⟨⟨Tryz.f31,func31,by decide +kernel,rfl⟩⟩
theorem nt:aT prog 32:=⟨⟨Tryz.f32,func32,by decide +kernel,rfl⟩⟩
theorem tx:aT prog 33:=⟨⟨Tryz.f33,func33,by decide +kernel,rfl⟩⟩
theorem o2:aT prog 34:=⟨⟨Tryz.f34,func34,by decide +kernel,rfl⟩⟩
theorem o3:aT prog 35:=⟨⟨Tryz.f35,func35,by decide +kernel,rfl⟩⟩
theorem DZ:aT prog 36:=⟨⟨Tryz.f36,func36,by decide +kernel,rfl⟩⟩
theorem D1:aT prog 37:=⟨⟨Tryz.f37,func37,by decide +kernel,rfl⟩⟩
theorem D2:aT prog 38:=⟨⟨Tryz.f38,func38,by decide +kernel,rfl⟩⟩
theorem xC:aT prog 39:=⟨⟨Tryz.f39,func39,by decide +kernel,rfl⟩⟩
theorem D4:aT prog 40:=⟨⟨Tryz.f40,func40,by decide +kernel,rfl⟩⟩
theorem D5:aT prog 41:=⟨⟨Tryz.f41,func41,by decide +kernel,rfl⟩⟩
theorem D6:aT prog 42:=⟨⟨Tryz.f42,func42,by decide +kernel,rfl⟩⟩
theorem tz:aT prog 43:=⟨⟨Tryz.f43,func43,by decide +kernel,rfl⟩⟩
theorem xD:aT prog 44:=⟨⟨Tryz.f44,func44,by decide +kernel,rfl⟩⟩
theorem xE:aT prog 45:=⟨⟨Tryz.f45,func45,by decide +kernel,rfl⟩⟩
theorem D7:aT prog 46:=⟨⟨Tryz.f46,func46,by decide +kernel,rfl⟩⟩
theorem D8:aT prog 47:=⟨⟨Tryz.f47,func47,by decide +kernel,rfl⟩⟩
theorem D9:aT prog 48:=⟨⟨Tryz.f48,func48,by decide +kernel,rfl⟩⟩
theorem xF:aT prog 49:=⟨⟨Tryz.f49,func49,by decide +kernel,rfl⟩⟩
theorem Eb:aT prog 50:=⟨⟨Tryz.f50,func50,by decide +kernel,rfl⟩⟩
theorem xG:aT prog 51:=⟨⟨Tryz.f51,func51,by decide +kernel,rfl⟩⟩
theorem Ec:aT prog 52:=⟨⟨Tryz.f52,func52,by decide +kernel,rfl⟩⟩
theorem q3:aT prog 53:=⟨⟨Tryz.f53,func53,by decide +kernel,rfl⟩⟩
theorem xH:aT prog 54:=⟨⟨Tryz.f54,func54,by decide +kernel,rfl⟩⟩
theorem Ed:aT prog 55:=⟨⟨Tryz.f55,func55,by decide +kernel,rfl⟩⟩
theorem tA:aT prog 56:=⟨⟨Tryz.f56,func56,by decide +kernel,rfl⟩⟩
theorem Ee:aT prog 57:=⟨⟨Tryz.f57,func57,by decide +kernel,rfl⟩⟩
theorem Ef:aT prog 58:=⟨⟨Tryz.f58,func58,by decide +kernel,rfl⟩⟩
theorem Eg:aT prog 59:=⟨⟨Tryz.f59,func59,by decide +kernel,rfl⟩⟩
theorem Eh:aT prog 60:=⟨⟨Tryz.f60,func60,by decide +kernel,rfl⟩⟩
theorem Ei:aT prog 61:=⟨⟨Tryz.f61,func61,by decide +kernel,rfl⟩⟩
theorem Ej:aT prog 62:=⟨⟨Tryz.f62,func62,by decide +kernel,rfl⟩⟩
theorem jT:aT prog 63:=⟨⟨Tryz.f63,func63,by decide +kernel,rfl⟩⟩
theorem Ek:aT prog 64:=⟨⟨Tryz.f64,func64,by decide +kernel,rfl⟩⟩
theorem tB:aT prog 65:=⟨⟨Tryz.f65,func65,by decide +kernel,rfl⟩⟩
theorem kG:aT prog 66:=⟨⟨Tryz.f66,func66,by decide +kernel,rfl⟩⟩
theorem eK:aT prog 67:=⟨⟨Tryz.f67,func67,by decide +kernel,rfl⟩⟩
theorem tC:aT prog 68:=⟨⟨Tryz.f68,func68,by decide +kernel,rfl⟩⟩
theorem hE:aT prog 69:=⟨⟨Tryz.f69,func69,by decide +kernel,rfl⟩⟩
theorem Em:aT prog 70:=⟨⟨Tryz.f70,func70,by decide +kernel,rfl⟩⟩
theorem tD:aT prog 71:=⟨⟨Tryz.f71,func71,by decide +kernel,rfl⟩⟩
theorem xI:aT prog 72:=⟨⟨Tryz.f72,func72,by decide +kernel,rfl⟩⟩
theorem En:aT prog 73:=⟨⟨Tryz.f73,func73,by decide +kernel,rfl⟩⟩
theorem q4:aT prog 74:=⟨⟨Tryz.f74,func74,by decide +kernel,rfl⟩⟩
theorem Eo:aT prog 75:=⟨⟨Tryz.f75,func75,by decide +kernel,rfl⟩⟩
theorem xJ:aT prog 76:=⟨⟨Tryz.f76,func76,by decide +kernel,rfl⟩⟩
theorem Ep:aT prog 77:=⟨⟨Tryz.f77,func77,by decide +kernel,rfl⟩⟩
theorem tE:aT prog 78:=⟨⟨Tryz.f78,func78,by decide +kernel,rfl⟩⟩
theorem tF:aT prog 79:=⟨⟨Tryz.f79,func79,by decide +kernel,rfl⟩⟩
theorem o5:aT prog 80:=⟨⟨Tryz.f80,func80,by decide +kernel,rfl⟩⟩
theorem q5:aT prog 81:=⟨⟨Tryz.f81,func81,by decide +kernel,rfl⟩⟩
theorem tG:aT prog 82:=⟨⟨Tryz.f82,func82,by decide +kernel,rfl⟩⟩
theorem Es:aT prog 83:=⟨⟨Tryz.f83,func83,by decide +kernel,rfl⟩⟩
theorem Et:aT prog 84:=⟨⟨Tryz.f84,func84,by decide +kernel,rfl⟩⟩
theorem h4:aT prog 85:=⟨⟨Tryz.f85,func85,by decide +kernel,rfl⟩⟩
theorem Eu:aT prog 86:=⟨⟨Tryz.f86,func86,by decide +kernel,rfl⟩⟩
theorem tH:aT prog 87:=⟨⟨Tryz.f87,func87,by decide +kernel,rfl⟩⟩
theorem tI:aT prog 88:=⟨⟨Tryz.f88,func88,by decide +kernel,rfl⟩⟩
theorem Ev:aT prog 89:=⟨⟨Tryz.f89,func89,by decide +kernel,rfl⟩⟩
theorem kH:aT prog 90:=⟨⟨Tryz.f90,func90,by decide +kernel,rfl⟩⟩
theorem tJ:aT prog 91:=⟨⟨Tryz.f91,func91,by decide +kernel,rfl⟩⟩
theorem tK:aT prog 92:=⟨⟨Tryz.f92,func92,by decide +kernel,rfl⟩⟩
theorem tL:aT prog 93:=⟨⟨Tryz.f93,func93,by decide +kernel,rfl⟩⟩
theorem Ew:aT prog 94:=⟨⟨Tryz.f94,func94,by decide +kernel,rfl⟩⟩
theorem tM:aT prog 95:=⟨⟨Tryz.f95,func95,by decide +kernel,rfl⟩⟩
theorem xL:aT prog 96:=⟨⟨Tryz.f96,func96,by decide +kernel,rfl⟩⟩
theorem xM:aT prog 97:=⟨⟨Tryz.f97,func97,by decide +kernel,rfl⟩⟩
theorem xN:aT prog 98:=⟨⟨Tryz.f98,func98,by decide +kernel,rfl⟩⟩
theorem xO:aT prog 99:=⟨⟨Tryz.f99,func99,by decide +kernel,rfl⟩⟩
theorem jR:aT prog 100:=⟨⟨Tryz.f100,func100,by decide +kernel,rfl⟩⟩
theorem CF:aT prog 101:=⟨⟨Tryz.f101,func101,by decide +kernel,rfl⟩⟩
theorem CG:aT prog 102:=⟨⟨Tryz.f102,func102,by decide +kernel,rfl⟩⟩
theorem CH:aT prog 103:=⟨⟨Tryz.f103,func103,by decide +kernel,rfl⟩⟩
theorem CJ:aT prog 104:=⟨⟨Tryz.f104,func104,by decide +kernel,rfl⟩⟩
theorem xq:aT prog 105:=⟨⟨Tryz.f105,func105,by decide +kernel,rfl⟩⟩
theorem iI:aT prog 106:=⟨⟨Tryz.f106,func106,by decide +kernel,rfl⟩⟩
theorem xr:aT prog 107:=⟨⟨Tryz.f107,func107,by decide +kernel,rfl⟩⟩
theorem CL:aT prog 108:=⟨⟨Tryz.f108,func108,by decide +kernel,rfl⟩⟩
theorem xt:aT prog 109:=⟨⟨Tryz.f109,func109,by decide +kernel,rfl⟩⟩
theorem xu:aT prog 110:=⟨⟨Tryz.f110,func110,by decide +kernel,rfl⟩⟩
theorem CN:aT prog 111:=⟨⟨Tryz.f111,func111,by decide +kernel,rfl⟩⟩
theorem CO:aT prog 112:=⟨⟨Tryz.f112,func112,by decide +kernel,rfl⟩⟩
theorem CP:aT prog 113:=⟨⟨Tryz.f113,func113,by decide +kernel,rfl⟩⟩
theorem ns:aT prog 114:=⟨⟨Tryz.f114,func114,by decide +kernel,rfl⟩⟩
theorem xv:aT prog 115:=⟨⟨Tryz.f115,func115,by decide +kernel,rfl⟩⟩
theorem CQ:aT prog 116:=⟨⟨Tryz.f116,func116,by decide +kernel,rfl⟩⟩
theorem CR:aT prog 117:=⟨⟨Tryz.f117,func117,by decide +kernel,rfl⟩⟩
theorem xw:aT prog 118:=⟨⟨Tryz.f118,func118,by decide +kernel,rfl⟩⟩
theorem ti:aT prog 119:=⟨⟨Tryz.f119,func119,by decide +kernel,rfl⟩⟩
theorem jS:aT prog 120:=⟨⟨Tryz.f120,func120,by decide +kernel,rfl⟩⟩
theorem CV:aT prog 121:=⟨⟨Tryz.f121,func121,by decide +kernel,rfl⟩⟩
theorem CX:aT prog 122:=⟨⟨Tryz.f122,func122,by decide +kernel,rfl⟩⟩
theorem xx:aT prog 123:=⟨⟨Tryz.f123,func123,by decide +kernel,rfl⟩⟩
theorem CY:aT prog 124:=⟨⟨Tryz.f124,func124,by decide +kernel,rfl⟩⟩
theorem C0:aT prog 125:=⟨⟨Tryz.f125,func125,by decide +kernel,rfl⟩⟩
theorem C1:aT prog 126:=⟨⟨Tryz.f126,func126,by decide +kernel,rfl⟩⟩
theorem C2:aT prog 127:=⟨⟨Tryz.f127,func127,by decide +kernel,rfl⟩⟩
theorem C3:aT prog 128:=⟨⟨Tryz.f128,func128,by decide +kernel,rfl⟩⟩
theorem C4:aT prog 129:=⟨⟨Tryz.f129,func129,by decide +kernel,rfl⟩⟩
theorem tj:aT prog 130:=⟨⟨Tryz.f130,func130,by decide +kernel,rfl⟩⟩
theorem xy:aT prog 131:=⟨⟨Tryz.f131,func131,by decide +kernel,rfl⟩⟩
theorem C6:aT prog 132:=⟨⟨Tryz.f132,func132,by decide +kernel,rfl⟩⟩
theorem C7:aT prog 133:=⟨⟨Tryz.f133,func133,by decide +kernel,rfl⟩⟩
theorem C8:aT prog 134:=⟨⟨Tryz.f134,func134,by decide +kernel,rfl⟩⟩
theorem C9:aT prog 135:=⟨⟨Tryz.f135,func135,by decide +kernel,rfl⟩⟩
theorem Da:aT prog 136:=⟨⟨Tryz.f136,func136,by decide +kernel,rfl⟩⟩
theorem Db:aT prog 137:=⟨⟨Tryz.f137,func137,by decide +kernel,rfl⟩⟩
theorem Dc:aT prog 138:=⟨⟨Tryz.f138,func138,by decide +kernel,rfl⟩⟩
theorem Dd:aT prog 139:=⟨⟨Tryz.f139,func139,by decide +kernel,rfl⟩⟩
theorem Df:aT prog 140:=⟨⟨Tryz.f140,func140,by decide +kernel,rfl⟩⟩
theorem Dg:aT prog 141:=⟨⟨Tryz.f141,func141,by decide +kernel,rfl⟩⟩
theorem Dh:aT prog 142:=⟨⟨Tryz.f142,func142,by decide +kernel,rfl⟩⟩
theorem Di:aT prog 143:=⟨⟨Tryz.f143,func143,by decide +kernel,rfl⟩⟩
theorem Dj:aT prog 144:=⟨⟨Tryz.f144,func144,by decide +kernel,rfl⟩⟩
theorem Dk:aT prog 145:=⟨⟨Tryz.f145,func145,by decide +kernel,rfl⟩⟩
theorem g8:aT prog 146:=⟨⟨Tryz.f146,func146,by decide +kernel,rfl⟩⟩
theorem Dl:aT prog 147:=⟨⟨Tryz.f147,func147,by decide +kernel,rfl⟩⟩
theorem Dm:aT prog 148:=⟨⟨Tryz.f148,func148,by decide +kernel,rfl⟩⟩
theorem Dn:aT prog 150:=⟨⟨Tryz.f150,func150,by decide +kernel,rfl⟩⟩
theorem Dp:aT prog 151:=⟨⟨Tryz.f151,func151,by decide +kernel,rfl⟩⟩
theorem q1:aT prog 152:=⟨⟨Tryz.f152,func152,by decide +kernel,rfl⟩⟩
theorem xz:aT prog 153:=⟨⟨Tryz.f153,func153,by decide +kernel,rfl⟩⟩
theorem Dq:aT prog 154:=⟨⟨Tryz.f154,func154,by decide +kernel,rfl⟩⟩
theorem xA:aT prog 155:=⟨⟨Tryz.f155,func155,by decide +kernel,rfl⟩⟩
theorem Dr:aT prog 156:=⟨⟨Tryz.f156,func156,by decide +kernel,rfl⟩⟩
theorem Ds:aT prog 157:=⟨⟨Tryz.f157,func157,by decide +kernel,rfl⟩⟩
theorem tn:aT prog 158:=⟨⟨Tryz.f158,func158,by decide +kernel,rfl⟩⟩
theorem tp:aT prog 159:=⟨⟨Tryz.f159,func159,by decide +kernel,rfl⟩⟩
theorem Dv:aT prog 160:=⟨⟨Tryz.f160,func160,by decide +kernel,rfl⟩⟩
theorem Dw:aT prog 161:=⟨⟨Tryz.f161,func161,by decide +kernel,rfl⟩⟩
theorem tq:aT prog 162:=⟨⟨Tryz.f162,func162,by decide +kernel,rfl⟩⟩
theorem Dx:aT prog 163:=⟨⟨Tryz.f163,func163,by decide +kernel,rfl⟩⟩
theorem DC:aT prog 181:=⟨⟨Tryz.f181,func181,by decide +kernel,rfl⟩⟩
theorem DD:aT prog 182:=⟨⟨Tryz.f182,func182,by decide +kernel,rfl⟩⟩
theorem DE:aT prog 183:=⟨⟨Tryz.f183,func183,by decide +kernel,rfl⟩⟩
theorem DF:aT prog 184:=⟨⟨Tryz.f184,func184,by decide +kernel,rfl⟩⟩
theorem DG:aT prog 185:=⟨⟨Tryz.f185,func185,by decide +kernel,rfl⟩⟩
theorem DH:aT prog 186:=⟨⟨Tryz.f186,func186,by decide +kernel,rfl⟩⟩
theorem DI:aT prog 187:=⟨⟨Tryz.f187,func187,by decide +kernel,rfl⟩⟩
theorem DJ:aT prog 188:=⟨⟨Tryz.f188,func188,by decide +kernel,rfl⟩⟩
theorem DK:aT prog 189:=⟨⟨Tryz.f189,func189,by decide +kernel,rfl⟩⟩
theorem DM:aT prog 190:=⟨⟨Tryz.f190,func190,by decide +kernel,rfl⟩⟩
theorem DN:aT prog 191:=⟨⟨Tryz.f191,func191,by decide +kernel,rfl⟩⟩
theorem DO:aT prog 192:=⟨⟨Tryz.f192,func192,by decide +kernel,rfl⟩⟩
theorem DQ:aT prog 193:=⟨⟨Tryz.f193,func193,by decide +kernel,rfl⟩⟩
theorem DR:aT prog 194:=⟨⟨Tryz.f194,func194,by decide +kernel,rfl⟩⟩
abbrev iv(z:Int):Value:=.int .i64 z
theorem iK{P:Program}{e:Nat}(h:(P.info? e).any (λ i=>decide (i.bytes≤65536))=true):∃ i,P.info? e=some i∧i.bytes≤65536:=by
 cases hi:P.info? e with
 | none=>rw [hi] at h; cases h
 | some i=>rw [hi] at h; exact ⟨i,rfl,by simpa using h⟩
structure Reach where
 ai:Int
 ak:Int
def dx:bF Reach:=λ _ x es=>es=[iv x.ai,iv x.ak]
instance:CM dx:=⟨λ d h=>by obtain rfl:=h; exact rfl,λ h=>by obtain rfl:=h; simp [Value.oneCell']⟩
structure cA where
 Name:ByteArray
 dR:Int
 Weight:Reach
 On:(List Int)
def bz:bF cA:=λ R x es=>∃ d,ah (CI .i64) 1 R d x.On∧es=[.string x.Name,iv x.dR,iv x.Weight.ai,iv x.Weight.ak,d]
instance:CM bz:=⟨λ f h=>by obtain ⟨g,d,rfl⟩:=h; exact ⟨_,d.mono f,rfl⟩,λ h=>by obtain ⟨g,d,rfl⟩:=h; intro u hu; simp only [cO,List.not_mem_nil,or_false] at hu; rcases hu with rfl | rfl | rfl | rfl | rfl <;> first | rfl | exact d.one⟩
structure bU where
 cT:Int
 dZ:Int
def bq:bF bU:=λ _ x es=>es=[iv x.cT,iv x.dZ]
instance:CM bq:=⟨λ d h=>by obtain rfl:=h; exact rfl,λ h=>by obtain rfl:=h; simp [Value.oneCell']⟩
structure an where
 ax:Int
 ad:Reach
 ao:(List cA)
 Out:(List Int)
 aV:(List bU)
def sw:bF an:=λ R x es=>∃ d f g,ah bz 5 R d x.ao∧ah (CI .i64) 1 R f x.Out∧ah bq 2 R g x.aV∧es=[iv x.ax,iv x.ad.ai,iv x.ad.ak,d,f,g]
instance:CM sw:=⟨λ d h=>by obtain ⟨s,y,z,f,g,m,rfl⟩:=h; exact ⟨_,_,_,f.mono d,g.mono d,m.mono d,rfl⟩,λ h=>by obtain ⟨s,y,z,f,g,m,rfl⟩:=h; intro u hu; simp only [cO,List.not_mem_nil,or_false] at hu; rcases hu with rfl | rfl | rfl | rfl | rfl | rfl <;> first | rfl | exact f.one | exact g.one | exact m.one⟩
structure de where
 aQ:Int
 aZ:Int
def m1:bF de:=λ _ x es=>es=[iv x.aQ,iv x.aZ]
instance:CM m1:=⟨λ d h=>by obtain rfl:=h; exact rfl,λ h=>by obtain rfl:=h; simp [Value.oneCell']⟩
structure eH where
 U:de
 dS:Int
 cz:Int
 dG:Bool
def c0:bF eH:=λ _ x es=>es=[iv x.U.aQ,iv x.U.aZ,iv x.dS,iv x.cz,.bool x.dG]
instance:CM c0:=⟨λ d h=>by obtain rfl:=h; exact rfl,λ h=>by obtain rfl:=h; simp [Value.oneCell']⟩
structure bg where
 a9:Int
 bh:Int
 a5:Int
 a4:(List Reach)
 aN:(List eH)
def ss:bF bg:=λ R x es=>∃ d f,ah dx 2 R d x.a4∧ah c0 5 R f x.aN∧es=[iv x.a9,iv x.bh,iv x.a5,d,f]
instance:CM ss:=⟨λ g h=>by obtain ⟨m,s,d,f,rfl⟩:=h; exact ⟨_,_,d.mono g,f.mono g,rfl⟩,λ h=>by obtain ⟨m,s,d,f,rfl⟩:=h; intro u hu; simp only [cO,List.not_mem_nil,or_false] at hu; rcases hu with rfl | rfl | rfl | rfl | rfl <;> first | rfl | exact d.one | exact f.one⟩
structure dq where
 ad:Int
 eJ:(List Int)
structure bm where
 eb:Int
 weights:(List Int)
def eA:bF bm:=λ _ x es=>x.weights.length=5∧es=([iv x.eb]++(x.weights.map (Value.int .i64)++[]))
instance:CM eA:=⟨λ f h=>by obtain ⟨d,rfl⟩:=h; exact ⟨d,rfl⟩,λ h=>by obtain ⟨d,rfl⟩:=h; exact (cj (aW rfl bl) (cj (ej λ _=>rfl) bl))⟩
structure cN where
 book:an
 cW:(List bm)
 hq:ev
structure ai where
 vA:(List Int)
 number:Int
 some_:Bool
structure ht where
 U:de
 fV:(List Int)
 a5:(List Int)
structure cL where
 at_:de
 off:(List Int)
def qt:bF cL:=λ _ x es=>x.off.length=3∧es=([iv x.at_.aQ,iv x.at_.aZ]++(x.off.map (Value.int .i64)++[]))
instance:CM qt:=⟨λ f h=>by obtain ⟨d,rfl⟩:=h; exact ⟨d,rfl⟩,λ h=>by obtain ⟨d,rfl⟩:=h; exact (cj (aW rfl (aW rfl bl)) (cj (ej λ _=>rfl) bl))⟩
structure eY where
 ea:cL
 yF:Int
def m2:bF eY:=λ _ x es=>x.ea.off.length=3∧es=([iv x.ea.at_.aQ,iv x.ea.at_.aZ]++(x.ea.off.map (Value.int .i64)++[iv x.yF]))
instance:CM m2:=⟨λ f h=>by obtain ⟨d,rfl⟩:=h; exact ⟨d,rfl⟩,λ h=>by obtain ⟨d,rfl⟩:=h; exact (cj (aW rfl (aW rfl bl)) (cj (ej λ _=>rfl) (aW rfl bl)))⟩
structure lO where
 book:bg
 cW:(List eY)
theorem q8{α:Type}{l:List α}(h:l.length=5):∃ a b c d e,l=[a,b,c,d,e]:=by
 match l,h with
 | [a,b,c,d,e],_=>exact ⟨a,b,c,d,e,rfl⟩
theorem GJ{α:Type}{l:List α}(h:l.length=3):∃ d f g,l=[d,f,g]:=by
 match l,h with
 | [d,f,g],_=>exact ⟨d,f,g,rfl⟩
theorem GK{α:Type}{l:List α}(h:l.length=5):∃ d f g m s,l=[d,f,g,m,s]:=by
 match l,h with
 | [d,f,g,m,s],_=>exact ⟨d,f,g,m,s,rfl⟩
theorem Fy:prog.eqGuardType prog.depth 23=false:=by decide +kernel
def tO(x y:Reach):Bool:=(x.ai == y.ai && (x.ak == y.ak && true))
theorem Ey(x y:Reach):al prog (Op.equal 23 (.agg #[iv x.ai,iv x.ak]) (.agg #[iv y.ai,iv y.ak])) (tO x y):=vE (d:=9999) underlying23 (by decide +kernel) (.cons rfl (vK λ _=>by kernel_rfl) (vK λ _=>by kernel_rfl) (oz underlying3) (.cons rfl (vK λ _=>by kernel_rfl) (vK λ _=>by kernel_rfl) (oz underlying3) .nil))
theorem yg:prog.eqGuardType prog.depth 38=false:=by decide +kernel
def g9(x y:de):Bool:=(x.aQ == y.aQ && (x.aZ == y.aZ && true))
theorem tP(x y:de):al prog (Op.equal 38 (.agg #[iv x.aQ,iv x.aZ]) (.agg #[iv y.aQ,iv y.aZ])) (g9 x y):=vE (d:=9999) underlying38 (by decide +kernel) (.cons rfl (vK λ _=>by kernel_rfl) (vK λ _=>by kernel_rfl) (oz underlying3) (.cons rfl (vK λ _=>by kernel_rfl) (vK λ _=>by kernel_rfl) (oz underlying3) .nil))
theorem BT:ix prog 24 105 5:=⟨underlying24,vK λ _=>by kernel_rfl,iK (by decide +kernel),⟨.agg #[.string ⟨#[]⟩,.int .i64 0,.int .i64 0,.int .i64 0,.slice none 0 0],vK λ _=>by kernel_rfl,rfl⟩⟩
theorem eh:ix prog 25 3 1:=⟨underlying25,vK λ _=>by kernel_rfl,iK (by decide +kernel),⟨.int .i64 0,vK λ _=>by kernel_rfl,rfl⟩⟩
theorem hA:ix prog 26 67 2:=⟨underlying26,vK λ _=>by kernel_rfl,iK (by decide +kernel),⟨.agg #[.int .i64 0,.int .i64 0],vK λ _=>by kernel_rfl,rfl⟩⟩
theorem BU:ix prog 29 23 2:=⟨underlying29,vK λ _=>by kernel_rfl,iK (by decide +kernel),⟨.agg #[.int .i64 0,.int .i64 0],vK λ _=>by kernel_rfl,rfl⟩⟩
theorem wb:ix prog 30 48 5:=⟨underlying30,vK λ _=>by kernel_rfl,iK (by decide +kernel),⟨.agg #[.int .i64 0,.int .i64 0,.int .i64 0,.int .i64 0,.bool false],vK λ _=>by kernel_rfl,rfl⟩⟩
theorem BV:ix prog 96 38 2:=⟨underlying96,vK λ _=>by kernel_rfl,iK (by decide +kernel),⟨.agg #[.int .i64 0,.int .i64 0],vK λ _=>by kernel_rfl,rfl⟩⟩
theorem BQ:ix prog 127 118 6:=⟨underlying127,vK λ _=>by kernel_rfl,iK (by decide +kernel),⟨.agg #[.int .i64 0,.int .i64 0,.int .i64 0,.int .i64 0,.int .i64 0,.int .i64 0],vK λ _=>by kernel_rfl,rfl⟩⟩
theorem BR:ix prog 156 25 1:=⟨underlying156,vK λ _=>by kernel_rfl,iK (by decide +kernel),⟨.slice none 0 0,vK λ _=>by kernel_rfl,rfl⟩⟩
theorem BS:ix prog 160 172 6:=⟨underlying160,vK λ _=>by kernel_rfl,iK (by decide +kernel),⟨.agg #[.int .i64 0,.int .i64 0,.int .i64 0,.int .i64 0,.int .i64 0,.int .i64 0],vK λ _=>by kernel_rfl,rfl⟩⟩
theorem Cc:(Array.range (0 * 5)).map ((#[.string ⟨#[]⟩,.int .i64 0,.int .i64 0,.int .i64 0,.slice none 0 0]:Array Value)[· % (#[.string ⟨#[]⟩,.int .i64 0,.int .i64 0,.int .i64 0,.slice none 0 0]:Array Value).size]!)=#[]:=by kernel_rfl
theorem Cd:(Array.range (3 * 5)).map ((#[.string ⟨#[]⟩,.int .i64 0,.int .i64 0,.int .i64 0,.slice none 0 0]:Array Value)[· % (#[.string ⟨#[]⟩,.int .i64 0,.int .i64 0,.int .i64 0,.slice none 0 0]:Array Value).size]!)=#[.string ⟨#[]⟩,.int .i64 0,.int .i64 0,.int .i64 0,.slice none 0 0,.string ⟨#[]⟩,.int .i64 0,.int .i64 0,.int .i64 0,.slice none 0 0,.string ⟨#[]⟩,.int .i64 0,.int .i64 0,.int .i64 0,.slice none 0 0]:=by kernel_rfl
theorem qG:(Array.range (0 * 1)).map ((#[.int .i64 0]:Array Value)[· % (#[.int .i64 0]:Array Value).size]!)=#[]:=by kernel_rfl
theorem c7:(Array.range (1 * 1)).map ((#[.int .i64 0]:Array Value)[· % (#[.int .i64 0]:Array Value).size]!)=#[.int .i64 0]:=by kernel_rfl
theorem qH:(Array.range (2 * 1)).map ((#[.int .i64 0]:Array Value)[· % (#[.int .i64 0]:Array Value).size]!)=#[.int .i64 0,.int .i64 0]:=by kernel_rfl
theorem ni:(Array.range (3 * 1)).map ((#[.int .i64 0]:Array Value)[· % (#[.int .i64 0]:Array Value).size]!)=#[.int .i64 0,.int .i64 0,.int .i64 0]:=by kernel_rfl
theorem sK:(Array.range (0 * 2)).map ((#[.int .i64 0,.int .i64 0]:Array Value)[· % (#[.int .i64 0,.int .i64 0]:Array Value).size]!)=#[]:=by kernel_rfl
theorem jP:(Array.range (1 * 2)).map ((#[.int .i64 0,.int .i64 0]:Array Value)[· % (#[.int .i64 0,.int .i64 0]:Array Value).size]!)=#[.int .i64 0,.int .i64 0]:=by kernel_rfl
theorem Ce:(Array.range (0 * 2)).map ((#[.int .i64 0,.int .i64 0]:Array Value)[· % (#[.int .i64 0,.int .i64 0]:Array Value).size]!)=#[]:=by kernel_rfl
theorem wm:(Array.range (0 * 5)).map ((#[.int .i64 0,.int .i64 0,.int .i64 0,.int .i64 0,.bool false]:Array Value)[· % (#[.int .i64 0,.int .i64 0,.int .i64 0,.int .i64 0,.bool false]:Array Value).size]!)=#[]:=by kernel_rfl
theorem Cf:(Array.range (1 * 2)).map ((#[.int .i64 0,.int .i64 0]:Array Value)[· % (#[.int .i64 0,.int .i64 0]:Array Value).size]!)=#[.int .i64 0,.int .i64 0]:=by kernel_rfl
theorem B9:(Array.range (1 * 6)).map ((#[.int .i64 0,.int .i64 0,.int .i64 0,.int .i64 0,.int .i64 0,.int .i64 0]:Array Value)[· % (#[.int .i64 0,.int .i64 0,.int .i64 0,.int .i64 0,.int .i64 0,.int .i64 0]:Array Value).size]!)=#[.int .i64 0,.int .i64 0,.int .i64 0,.int .i64 0,.int .i64 0,.int .i64 0]:=by kernel_rfl
theorem Ca:(Array.range (1 * 1)).map ((#[.slice none 0 0]:Array Value)[· % (#[.slice none 0 0]:Array Value).size]!)=#[.slice none 0 0]:=by kernel_rfl
theorem Cb:(Array.range (1 * 6)).map ((#[.int .i64 0,.int .i64 0,.int .i64 0,.int .i64 0,.int .i64 0,.int .i64 0]:Array Value)[· % (#[.int .i64 0,.int .i64 0,.int .i64 0,.int .i64 0,.int .i64 0,.int .i64 0]:Array Value).size]!)=#[.int .i64 0,.int .i64 0,.int .i64 0,.int .i64 0,.int .i64 0,.int .i64 0]:=by kernel_rfl
abbrev dX(R:ay):Prop:=aK R [] 0 0 [.func (.func 181) #[] #[],.func (.func 182) #[] #[],.func (.func 183) #[] #[]]∧aK R [] 1 0 [.func (.func 187) #[] #[],.func (.func 188) #[] #[],.func (.func 189) #[] #[],.func (.func 190) #[] #[]]
theorem dX.mono{R R':ay}(h:dX R)(d:aH R R'):dX R':=⟨aK.up (H:=[]) h.1 d,aK.up (H:=[]) h.2 d⟩
set_option maxRecDepth 100000
def u2:Nat→Nat→Option Nat
 | 23,0=>some 0
 | 23,1=>some 1
 | 28,0=>some 0
 | 28,1=>some 1
 | 28,2=>some 3
 | 28,3=>some 4
 | 28,4=>some 5
 | 32,0=>some 0
 | 32,1=>some 1
 | 32,2=>some 2
 | 32,3=>some 3
 | 32,4=>some 4
 | 38,0=>some 0
 | 38,1=>some 1
 | 40,0=>some 0
 | 40,1=>some 2
 | 40,2=>some 3
 | 48,0=>some 0
 | 48,1=>some 2
 | 48,2=>some 3
 | 48,3=>some 4
 | 53,0=>some 0
 | 53,1=>some 1
 | 67,0=>some 0
 | 67,1=>some 1
 | 100,0=>some 0
 | 105,0=>some 0
 | 105,1=>some 1
 | 105,2=>some 2
 | 105,3=>some 4
 | 115,0=>some 0
 | 118,0=>some 0
 | 118,1=>some 1
 | 130,0=>some 0
 | 130,1=>some 6
 | 130,2=>some 7
 | 148,0=>some 0
 | 148,1=>some 1
 | 148,2=>some 2
 | 162,0=>some 0
 | 162,1=>some 5
 | 170,0=>some 0
 | 170,1=>some 2
 | 172,0=>some 0
 | 188,0=>some 0
 | 188,1=>some 5
 | _,_=>none
theorem J5:∀ s f n,u2 s f=some n→cM prog s f n:=by
 intro s f n h
 unfold u2 at h
 split at h
 ·cases h; exact EU
 ·cases h; exact EV
 ·cases h; exact EW
 ·cases h; exact EX
 ·cases h; exact xX
 ·cases h; exact EY
 ·cases h; exact EZ
 ·cases h; exact E0
 ·cases h; exact E1
 ·cases h; exact E2
 ·cases h; exact E3
 ·cases h; exact E4
 ·cases h; exact E5
 ·cases h; exact E6
 ·cases h; exact E7
 ·cases h; exact E8
 ·cases h; exact E9
 ·cases h; exact Fa
 ·cases h; exact Fb
 ·cases h; exact Fc
 ·cases h; exact Fe
 ·cases h; exact Ff
 ·cases h; exact Fg
 ·cases h; exact Fh
 ·cases h; exact Fi
 ·cases h; exact ED
 ·cases h; exact EE
 ·cases h; exact EF
 ·cases h; exact EG
 ·cases h; exact EH
 ·cases h; exact xS
 ·cases h; exact EI
 ·cases h; exact EJ
 ·cases h; exact xT
 ·cases h; exact EK
 ·cases h; exact xU
 ·cases h; exact EL
 ·cases h; exact EM
 ·cases h; exact EN
 ·cases h; exact EO
 ·cases h; exact EP
 ·cases h; exact ER
 ·cases h; exact ES
 ·cases h; exact ET
 ·cases h; exact xV
 ·cases h; exact xW
 ·cases h
instance:jk prog:=⟨u2,J5⟩
theorem Ex(a b c d:Int):al prog (Op.equal 152 (dL a b) (dL c d)) (a == c && (b == d && true)) :=
 vE (d:=9999) underlying152 (by decide +kernel) (.cons rfl (vK λ _=>by kernel_rfl) (vK λ _=>by kernel_rfl) (oz underlying3) (.cons rfl (vK λ _=>by kernel_rfl) (vK λ _=>by kernel_rfl) (oz underlying3) .nil))
theorem pX:oI prog 150 152 3:=⟨underlying150,⟨_,underlying152,λ a b=>by cases a <;> rfl⟩,Ex,λ e a b _=>⟨by kernel_rfl,by kernel_rfl⟩,vK λ _=>by kernel_rfl⟩
theorem FO{a b:List Bool}(D:a.length=5)(E:b.length=5):al prog (Op.equal 124 (gB a) (gB b)) (a == b):=by
 obtain ⟨f,g,m,s,y,rfl⟩:=q8 D
 obtain ⟨b0,z,A,B,C,rfl⟩:=q8 E
 have hw:([f,g,m,s,y] == [b0,z,A,B,C])=((f == b0) && ((g == z) && ((m == A) && ((s == B) && ((y == C) && true))))):=by simp
 rw [hw]
 refine Mc (d:=9999) (n:=1) underlying124 (vK λ _=>by kernel_rfl) ?_
 refine .cons (i:=0) (rest:=[1,2,3,4]) (vK λ _=>by kernel_rfl) (vK λ _=>by kernel_rfl) (qm underlying4) ?_
 refine .cons (i:=1) (rest:=[2,3,4]) (vK λ _=>by kernel_rfl) (vK λ _=>by kernel_rfl) (qm underlying4) ?_
 refine .cons (i:=2) (rest:=[3,4]) (vK λ _=>by kernel_rfl) (vK λ _=>by kernel_rfl) (qm underlying4) ?_
 refine .cons (i:=3) (rest:=[4]) (vK λ _=>by kernel_rfl) (vK λ _=>by kernel_rfl) (qm underlying4) ?_
 exact .cons (i:=4) (rest:=[]) (vK λ _=>by kernel_rfl) (vK λ _=>by kernel_rfl) (qm underlying4) .nil
theorem FN(e:Bool){a:List Bool}(d:a.length=5):al prog (Instr.checkKey e 10000 124 (gB a)) ():=by
 obtain ⟨f,g,m,s,y,rfl⟩:=q8 d
 exact vK λ _=>by kernel_rfl
theorem uT:nc prog 128 124 3:=⟨underlying128,⟨_,underlying124,λ a b=>by cases a <;> rfl⟩,λ _ _=>FO,λ e _=>FN e,vK λ _=>by kernel_rfl⟩
instance:DecidableEq de:=λ a b=>decidable_of_iff (a.aQ=b.aQ∧a.aZ=b.aZ) (by cases a; cases b; simp)
def pd(s:de):Value:=.agg #[iv s.aQ,iv s.aZ]
abbrev BE(v:Value)(m:de→Bool)(Hs:aj):Prop:=oJ pd Value.bool false (λ _=>True) v m Hs
theorem zy:oH pd Value.bool false (λ _=>True) prog 166 38 4:=⟨underlying166,⟨_,underlying38,λ a b _ _=>rfl⟩,λ a b _ _ h=>by cases a; cases b; simpa [pd] using h,λ a b _ _=>⟨_,tP a b,λ h=>by cases a; cases b; simpa [g9] using h,λ h=>by cases a; cases b; simpa [g9] using h⟩,λ e a _ _=>⟨by kernel_rfl,by kernel_rfl⟩,λ a _=>by simp [Instr.sameBits,pd],vK λ _=>by kernel_rfl⟩
theorem mixed:prog.follows .mixedOrders=true:=by kernel_rfl
end Go.Proofs.YtoaoffinglajbaaGreatDoor
