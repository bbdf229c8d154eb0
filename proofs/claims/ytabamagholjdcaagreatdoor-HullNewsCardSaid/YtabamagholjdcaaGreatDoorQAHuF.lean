/- Closed facts on the program; the structs of the models. Conditions: none. -/
import Derived.Test.YtabamagholjdcaaGreatDoorQALgC
import Derived.Test.YtabamagholjdcaaGreatDoorProg
import Derived.KernelRfl
namespace Go.Proofs.YtabamagholjdcaaGreatDoor
open Go.Lg Go.Proofs
theorem bg : gk Tryz.prog 3 := ⟨λ _ => ⟨by kernel_rfl, by kernel_rfl⟩, λ _ => ⟨by kernel_rfl, by kernel_rfl⟩⟩
theorem iS : gk Tryz.prog 4 := ⟨λ _ => ⟨by kernel_rfl, by kernel_rfl⟩, λ _ => ⟨by kernel_rfl, by kernel_rfl⟩⟩
theorem ayh : gk Tryz.prog 5 := ⟨λ _ => ⟨by kernel_rfl, by kernel_rfl⟩, λ _ => ⟨by kernel_rfl, by kernel_rfl⟩⟩
theorem s6 : gk Tryz.prog 9 := ⟨λ _ => ⟨by kernel_rfl, by kernel_rfl⟩, λ _ => ⟨by kernel_rfl, by kernel_rfl⟩⟩
theorem cK : gk Tryz.prog 24 := ⟨λ _ => ⟨by kernel_rfl, by kernel_rfl⟩, λ _ => ⟨by kernel_rfl, by kernel_rfl⟩⟩
theorem bL : gk Tryz.prog 25 := ⟨λ _ => ⟨by kernel_rfl, by kernel_rfl⟩, λ _ => ⟨by kernel_rfl, by kernel_rfl⟩⟩
theorem eu : gk Tryz.prog 26 := ⟨λ _ => ⟨by kernel_rfl, by kernel_rfl⟩, λ _ => ⟨by kernel_rfl, by kernel_rfl⟩⟩
theorem vh : gk Tryz.prog 31 := ⟨λ _ => ⟨by kernel_rfl, by kernel_rfl⟩, λ _ => ⟨by kernel_rfl, by kernel_rfl⟩⟩
theorem Ls : gk Tryz.prog 45 := ⟨λ _ => ⟨by kernel_rfl, by kernel_rfl⟩, λ _ => ⟨by kernel_rfl, by kernel_rfl⟩⟩
theorem qT : gk Tryz.prog 103 := ⟨λ _ => ⟨by kernel_rfl, by kernel_rfl⟩, λ _ => ⟨by kernel_rfl, by kernel_rfl⟩⟩
theorem Ut : gk Tryz.prog 104 := ⟨λ _ => ⟨by kernel_rfl, by kernel_rfl⟩, λ _ => ⟨by kernel_rfl, by kernel_rfl⟩⟩
theorem Lq : gk Tryz.prog 109 := ⟨λ _ => ⟨by kernel_rfl, by kernel_rfl⟩, λ _ => ⟨by kernel_rfl, by kernel_rfl⟩⟩
theorem aye : gk Tryz.prog 130 := ⟨λ _ => ⟨by kernel_rfl, by kernel_rfl⟩, λ _ => ⟨by kernel_rfl, by kernel_rfl⟩⟩
theorem ayf : gk Tryz.prog 157 := ⟨λ _ => ⟨by kernel_rfl, by kernel_rfl⟩, λ _ => ⟨by kernel_rfl, by kernel_rfl⟩⟩
theorem Lr : gk Tryz.prog 167 := ⟨λ _ => ⟨by kernel_rfl, by kernel_rfl⟩, λ _ => ⟨by kernel_rfl, by kernel_rfl⟩⟩
theorem Uu : gk Tryz.prog 168 := ⟨λ _ => ⟨by kernel_rfl, by kernel_rfl⟩, λ _ => ⟨by kernel_rfl, by kernel_rfl⟩⟩
theorem ayg : gk Tryz.prog 174 := ⟨λ _ => ⟨by kernel_rfl, by kernel_rfl⟩, λ _ => ⟨by kernel_rfl, by kernel_rfl⟩⟩
theorem Uv : gk Tryz.prog 175 := ⟨λ _ => ⟨by kernel_rfl, by kernel_rfl⟩, λ _ => ⟨by kernel_rfl, by kernel_rfl⟩⟩
theorem Uw : gk Tryz.prog 179 := ⟨λ _ => ⟨by kernel_rfl, by kernel_rfl⟩, λ _ => ⟨by kernel_rfl, by kernel_rfl⟩⟩
theorem eJ : jQ Tryz.prog 23 2 := ⟨λ _ => ⟨by kernel_rfl, by kernel_rfl⟩, λ _ => ⟨by kernel_rfl, by kernel_rfl⟩⟩
theorem aU : jQ Tryz.prog 28 6 := ⟨λ _ => ⟨by kernel_rfl, by kernel_rfl⟩, λ _ => ⟨by kernel_rfl, by kernel_rfl⟩⟩
theorem mW : jQ Tryz.prog 47 2 := ⟨λ _ => ⟨by kernel_rfl, by kernel_rfl⟩, λ _ => ⟨by kernel_rfl, by kernel_rfl⟩⟩
theorem ko : jQ Tryz.prog 58 5 := ⟨λ _ => ⟨by kernel_rfl, by kernel_rfl⟩, λ _ => ⟨by kernel_rfl, by kernel_rfl⟩⟩
theorem rP : jQ Tryz.prog 66 2 := ⟨λ _ => ⟨by kernel_rfl, by kernel_rfl⟩, λ _ => ⟨by kernel_rfl, by kernel_rfl⟩⟩
theorem ew : jQ Tryz.prog 102 6 := ⟨λ _ => ⟨by kernel_rfl, by kernel_rfl⟩, λ _ => ⟨by kernel_rfl, by kernel_rfl⟩⟩
theorem eK : jQ Tryz.prog 106 8 := ⟨λ _ => ⟨by kernel_rfl, by kernel_rfl⟩, λ _ => ⟨by kernel_rfl, by kernel_rfl⟩⟩
theorem dc : jQ Tryz.prog 112 5 := ⟨λ _ => ⟨by kernel_rfl, by kernel_rfl⟩, λ _ => ⟨by kernel_rfl, by kernel_rfl⟩⟩
theorem eP : jQ Tryz.prog 125 6 := ⟨λ _ => ⟨by kernel_rfl, by kernel_rfl⟩, λ _ => ⟨by kernel_rfl, by kernel_rfl⟩⟩
theorem ahq : jQ Tryz.prog 138 3 := ⟨λ _ => ⟨by kernel_rfl, by kernel_rfl⟩, λ _ => ⟨by kernel_rfl, by kernel_rfl⟩⟩
theorem OU : jQ Tryz.prog 145 2 := ⟨λ _ => ⟨by kernel_rfl, by kernel_rfl⟩, λ _ => ⟨by kernel_rfl, by kernel_rfl⟩⟩
theorem ahr : jQ Tryz.prog 164 4 := ⟨λ _ => ⟨by kernel_rfl, by kernel_rfl⟩, λ _ => ⟨by kernel_rfl, by kernel_rfl⟩⟩
theorem ahs : jQ Tryz.prog 170 6 := ⟨λ _ => ⟨by kernel_rfl, by kernel_rfl⟩, λ _ => ⟨by kernel_rfl, by kernel_rfl⟩⟩
theorem vN : gF Tryz.prog 3 #[.int .i64 0] := ⟨.int .i64 0, λ _ => ⟨by kernel_rfl, by kernel_rfl⟩, rfl⟩
theorem Vy : gF Tryz.prog 4 #[.bool false] := ⟨.bool false, λ _ => ⟨by kernel_rfl, by kernel_rfl⟩, rfl⟩
theorem tK : gF Tryz.prog 23 #[.int .i64 0, .int .i64 0] := ⟨.agg #[.int .i64 0, .int .i64 0], λ _ => ⟨by kernel_rfl, by kernel_rfl⟩, rfl⟩
theorem aBH : gF Tryz.prog 25 #[.slice none 0 0] := ⟨.slice none 0 0, λ _ => ⟨by kernel_rfl, by kernel_rfl⟩, rfl⟩
theorem jP : gF Tryz.prog 28 #[.int .i64 0, .int .i64 0, .int .i64 0, .slice none 0 0, .slice none 0 0, .slice none 0 0] := ⟨.agg #[.int .i64 0, .int .i64 0, .int .i64 0, .slice none 0 0, .slice none 0 0, .slice none 0 0], λ _ => ⟨by kernel_rfl, by kernel_rfl⟩, rfl⟩
theorem aBI : gF Tryz.prog 31 #[.int .i64 0] := ⟨.int .i64 0, λ _ => ⟨by kernel_rfl, by kernel_rfl⟩, rfl⟩
theorem Vz : gF Tryz.prog 47 #[.int .i64 0, .int .i64 0] := ⟨.agg #[.int .i64 0, .int .i64 0], λ _ => ⟨by kernel_rfl, by kernel_rfl⟩, rfl⟩
theorem vO : gF Tryz.prog 58 #[.string ⟨#[]⟩, .int .i64 0, .int .i64 0, .int .i64 0, .slice none 0 0] := ⟨.agg #[.string ⟨#[]⟩, .int .i64 0, .int .i64 0, .int .i64 0, .slice none 0 0], λ _ => ⟨by kernel_rfl, by kernel_rfl⟩, rfl⟩
theorem afP : gF Tryz.prog 66 #[.int .i64 0, .slice none 0 0] := ⟨.agg #[.int .i64 0, .slice none 0 0], λ _ => ⟨by kernel_rfl, by kernel_rfl⟩, rfl⟩
theorem Vx : gF Tryz.prog 102 #[.int .i64 0, .int .i64 0, .int .i64 0, .slice none 0 0, .slice none 0 0, .slice none 0 0] := ⟨.agg #[.int .i64 0, .int .i64 0, .int .i64 0, .slice none 0 0, .slice none 0 0, .slice none 0 0], λ _ => ⟨by kernel_rfl, by kernel_rfl⟩, rfl⟩
theorem mT : gF Tryz.prog 106 #[.int .i64 0, .int .i64 0, .int .i64 0, .slice none 0 0, .slice none 0 0, .slice none 0 0, .slice none 0 0, .map none] := ⟨.agg #[.int .i64 0, .int .i64 0, .int .i64 0, .slice none 0 0, .slice none 0 0, .slice none 0 0, .slice none 0 0, .map none], λ _ => ⟨by kernel_rfl, by kernel_rfl⟩, rfl⟩
theorem j7 : gF Tryz.prog 112 #[.bool false, .bool false, .bool false, .bool false, .bool false] := ⟨.agg #[.bool false, .bool false, .bool false, .bool false, .bool false], λ _ => ⟨by kernel_rfl, by kernel_rfl⟩, rfl⟩
theorem yo : gF Tryz.prog 125 #[.int .i64 0, .int .i64 0, .int .i64 0, .int .i64 0, .int .i64 0, .int .i64 0] := ⟨.agg #[.int .i64 0, .int .i64 0, .int .i64 0, .int .i64 0, .int .i64 0, .int .i64 0], λ _ => ⟨by kernel_rfl, by kernel_rfl⟩, rfl⟩
theorem aBA : gF Tryz.prog 138 #[.slice none 0 0, .int .i64 0, .bool false] := ⟨.agg #[.slice none 0 0, .int .i64 0, .bool false], λ _ => ⟨by kernel_rfl, by kernel_rfl⟩, rfl⟩
theorem aBB : gF Tryz.prog 145 #[.int .i64 0, .int .i64 0] := ⟨.agg #[.int .i64 0, .int .i64 0], λ _ => ⟨by kernel_rfl, by kernel_rfl⟩, rfl⟩
theorem aBC : gF Tryz.prog 167 #[.chan none] := ⟨.chan none, λ _ => ⟨by kernel_rfl, by kernel_rfl⟩, rfl⟩
theorem aBD : gF Tryz.prog 168 #[.chan none] := ⟨.chan none, λ _ => ⟨by kernel_rfl, by kernel_rfl⟩, rfl⟩
theorem aBE : gF Tryz.prog 170 #[.bool false, .bool false, .bool false, .bool false, .bool false, .int .i64 0] := ⟨.agg #[.bool false, .bool false, .bool false, .bool false, .bool false, .int .i64 0], λ _ => ⟨by kernel_rfl, by kernel_rfl⟩, rfl⟩
theorem aBF : gF Tryz.prog 175 #[.nilFunc] := ⟨.nilFunc, λ _ => ⟨by kernel_rfl, by kernel_rfl⟩, rfl⟩
theorem aBG : gF Tryz.prog 179 #[.nilFunc] := ⟨.nilFunc, λ _ => ⟨by kernel_rfl, by kernel_rfl⟩, rfl⟩
theorem aj0 : fq Tryz.prog 23 0 0 := λ _ _ _ => ⟨by kernel_rfl, by kernel_rfl⟩
theorem aj1 : fq Tryz.prog 23 1 1 := λ _ _ _ => ⟨by kernel_rfl, by kernel_rfl⟩
theorem aj2 : fq Tryz.prog 28 0 0 := λ _ _ _ => ⟨by kernel_rfl, by kernel_rfl⟩
theorem aj3 : fq Tryz.prog 28 1 1 := λ _ _ _ => ⟨by kernel_rfl, by kernel_rfl⟩
theorem Zd : fq Tryz.prog 28 2 3 := λ _ _ _ => ⟨by kernel_rfl, by kernel_rfl⟩
theorem aj4 : fq Tryz.prog 28 3 4 := λ _ _ _ => ⟨by kernel_rfl, by kernel_rfl⟩
theorem aj5 : fq Tryz.prog 28 4 5 := λ _ _ _ => ⟨by kernel_rfl, by kernel_rfl⟩
theorem aj6 : fq Tryz.prog 47 0 0 := λ _ _ _ => ⟨by kernel_rfl, by kernel_rfl⟩
theorem aj7 : fq Tryz.prog 47 1 1 := λ _ _ _ => ⟨by kernel_rfl, by kernel_rfl⟩
theorem aj8 : fq Tryz.prog 58 0 0 := λ _ _ _ => ⟨by kernel_rfl, by kernel_rfl⟩
theorem aj9 : fq Tryz.prog 58 1 1 := λ _ _ _ => ⟨by kernel_rfl, by kernel_rfl⟩
theorem aka : fq Tryz.prog 58 2 2 := λ _ _ _ => ⟨by kernel_rfl, by kernel_rfl⟩
theorem akb : fq Tryz.prog 58 3 4 := λ _ _ _ => ⟨by kernel_rfl, by kernel_rfl⟩
theorem akc : fq Tryz.prog 66 0 0 := λ _ _ _ => ⟨by kernel_rfl, by kernel_rfl⟩
theorem akd : fq Tryz.prog 66 1 1 := λ _ _ _ => ⟨by kernel_rfl, by kernel_rfl⟩
theorem Y8 : fq Tryz.prog 102 0 0 := λ _ _ _ => ⟨by kernel_rfl, by kernel_rfl⟩
theorem Y9 : fq Tryz.prog 106 0 0 := λ _ _ _ => ⟨by kernel_rfl, by kernel_rfl⟩
theorem ajU : fq Tryz.prog 106 1 6 := λ _ _ _ => ⟨by kernel_rfl, by kernel_rfl⟩
theorem Za : fq Tryz.prog 106 2 7 := λ _ _ _ => ⟨by kernel_rfl, by kernel_rfl⟩
theorem ajV : fq Tryz.prog 125 0 0 := λ _ _ _ => ⟨by kernel_rfl, by kernel_rfl⟩
theorem ajW : fq Tryz.prog 125 1 1 := λ _ _ _ => ⟨by kernel_rfl, by kernel_rfl⟩
theorem ajX : fq Tryz.prog 138 0 0 := λ _ _ _ => ⟨by kernel_rfl, by kernel_rfl⟩
theorem ajY : fq Tryz.prog 138 1 1 := λ _ _ _ => ⟨by kernel_rfl, by kernel_rfl⟩
theorem ajZ : fq Tryz.prog 138 2 2 := λ _ _ _ => ⟨by kernel_rfl, by kernel_rfl⟩
theorem Zb : fq Tryz.prog 170 0 0 := λ _ _ _ => ⟨by kernel_rfl, by kernel_rfl⟩
theorem Zc : fq Tryz.prog 170 1 5 := λ _ _ _ => ⟨by kernel_rfl, by kernel_rfl⟩
theorem gN : lV Tryz.prog 24 58 5 := ⟨Tryz.underlying24, λ _ => ⟨by kernel_rfl, by kernel_rfl⟩⟩
theorem cL : lV Tryz.prog 25 3 1 := ⟨Tryz.underlying25, λ _ => ⟨by kernel_rfl, by kernel_rfl⟩⟩
theorem vr : lV Tryz.prog 26 47 2 := ⟨Tryz.underlying26, λ _ => ⟨by kernel_rfl, by kernel_rfl⟩⟩
theorem azy : lV Tryz.prog 63 157 1 := ⟨Tryz.underlying63, λ _ => ⟨by kernel_rfl, by kernel_rfl⟩⟩
theorem L7 : lV Tryz.prog 103 125 6 := ⟨Tryz.underlying103, λ _ => ⟨by kernel_rfl, by kernel_rfl⟩⟩
theorem L8 : lV Tryz.prog 115 66 2 := ⟨Tryz.underlying115, λ _ => ⟨by kernel_rfl, by kernel_rfl⟩⟩
theorem jL : lV Tryz.prog 135 25 1 := ⟨Tryz.underlying135, λ _ => ⟨by kernel_rfl, by kernel_rfl⟩⟩
theorem azx : lV Tryz.prog 234 5 1 := ⟨Tryz.underlying234, λ _ => ⟨by kernel_rfl, by kernel_rfl⟩⟩
theorem BW : wv Tryz.prog 112 5 4 1 := ⟨Tryz.underlying112, λ _ => ⟨by kernel_rfl, by kernel_rfl⟩⟩
theorem EX : wv Tryz.prog 123 5 3 1 := ⟨Tryz.underlying123, λ _ => ⟨by kernel_rfl, by kernel_rfl⟩⟩
theorem Jt : wv Tryz.prog 164 4 109 1 := ⟨Tryz.underlying164, λ _ => ⟨by kernel_rfl, by kernel_rfl⟩⟩
theorem HN : o5 Tryz.prog 23 [(0, 1), (1, 1)] #[.int .i64 0, .int .i64 0] := ⟨⟨.agg #[.int .i64 0, .int .i64 0], λ _ => ⟨by kernel_rfl, by kernel_rfl⟩, rfl⟩, _, Tryz.underlying23, λ _ => ⟨by kernel_rfl, by kernel_rfl⟩⟩
theorem j5 : o5 Tryz.prog 28 [(0, 1), (1, 2), (3, 1), (4, 1), (5, 1)] #[.int .i64 0, .int .i64 0, .int .i64 0, .slice none 0 0, .slice none 0 0, .slice none 0 0] := ⟨⟨.agg #[.int .i64 0, .int .i64 0, .int .i64 0, .slice none 0 0, .slice none 0 0, .slice none 0 0], λ _ => ⟨by kernel_rfl, by kernel_rfl⟩, rfl⟩, _, Tryz.underlying28, λ _ => ⟨by kernel_rfl, by kernel_rfl⟩⟩
theorem Md : o5 Tryz.prog 47 [(0, 1), (1, 1)] #[.int .i64 0, .int .i64 0] := ⟨⟨.agg #[.int .i64 0, .int .i64 0], λ _ => ⟨by kernel_rfl, by kernel_rfl⟩, rfl⟩, _, Tryz.underlying47, λ _ => ⟨by kernel_rfl, by kernel_rfl⟩⟩
theorem UU : o5 Tryz.prog 58 [(0, 1), (1, 1), (2, 2), (4, 1)] #[.string ⟨#[]⟩, .int .i64 0, .int .i64 0, .int .i64 0, .slice none 0 0] := ⟨⟨.agg #[.string ⟨#[]⟩, .int .i64 0, .int .i64 0, .int .i64 0, .slice none 0 0], λ _ => ⟨by kernel_rfl, by kernel_rfl⟩, rfl⟩, _, Tryz.underlying58, λ _ => ⟨by kernel_rfl, by kernel_rfl⟩⟩
theorem Wr : o5 Tryz.prog 66 [(0, 1), (1, 1)] #[.int .i64 0, .slice none 0 0] := ⟨⟨.agg #[.int .i64 0, .slice none 0 0], λ _ => ⟨by kernel_rfl, by kernel_rfl⟩, rfl⟩, _, Tryz.underlying66, λ _ => ⟨by kernel_rfl, by kernel_rfl⟩⟩
theorem pV : o5 Tryz.prog 102 [(0, 6)] #[.int .i64 0, .int .i64 0, .int .i64 0, .slice none 0 0, .slice none 0 0, .slice none 0 0] := ⟨⟨.agg #[.int .i64 0, .int .i64 0, .int .i64 0, .slice none 0 0, .slice none 0 0, .slice none 0 0], λ _ => ⟨by kernel_rfl, by kernel_rfl⟩, rfl⟩, _, Tryz.underlying102, λ _ => ⟨by kernel_rfl, by kernel_rfl⟩⟩
theorem Mc : o5 Tryz.prog 106 [(0, 6), (6, 1), (7, 1)] #[.int .i64 0, .int .i64 0, .int .i64 0, .slice none 0 0, .slice none 0 0, .slice none 0 0, .slice none 0 0, .map none] := ⟨⟨.agg #[.int .i64 0, .int .i64 0, .int .i64 0, .slice none 0 0, .slice none 0 0, .slice none 0 0, .slice none 0 0, .map none], λ _ => ⟨by kernel_rfl, by kernel_rfl⟩, rfl⟩, _, Tryz.underlying106, λ _ => ⟨by kernel_rfl, by kernel_rfl⟩⟩
theorem HM : o5 Tryz.prog 125 [(0, 1), (1, 5)] #[.int .i64 0, .int .i64 0, .int .i64 0, .int .i64 0, .int .i64 0, .int .i64 0] := ⟨⟨.agg #[.int .i64 0, .int .i64 0, .int .i64 0, .int .i64 0, .int .i64 0, .int .i64 0], λ _ => ⟨by kernel_rfl, by kernel_rfl⟩, rfl⟩, _, Tryz.underlying125, λ _ => ⟨by kernel_rfl, by kernel_rfl⟩⟩
theorem azZ : o5 Tryz.prog 138 [(0, 1), (1, 1), (2, 1)] #[.slice none 0 0, .int .i64 0, .bool false] := ⟨⟨.agg #[.slice none 0 0, .int .i64 0, .bool false], λ _ => ⟨by kernel_rfl, by kernel_rfl⟩, rfl⟩, _, Tryz.underlying138, λ _ => ⟨by kernel_rfl, by kernel_rfl⟩⟩
theorem az0 : o5 Tryz.prog 145 [(0, 1), (1, 1)] #[.int .i64 0, .int .i64 0] := ⟨⟨.agg #[.int .i64 0, .int .i64 0], λ _ => ⟨by kernel_rfl, by kernel_rfl⟩, rfl⟩, _, Tryz.underlying145, λ _ => ⟨by kernel_rfl, by kernel_rfl⟩⟩
theorem az1 : o5 Tryz.prog 170 [(0, 5), (5, 1)] #[.bool false, .bool false, .bool false, .bool false, .bool false, .int .i64 0] := ⟨⟨.agg #[.bool false, .bool false, .bool false, .bool false, .bool false, .int .i64 0], λ _ => ⟨by kernel_rfl, by kernel_rfl⟩, rfl⟩, _, Tryz.underlying170, λ _ => ⟨by kernel_rfl, by kernel_rfl⟩⟩
theorem qg : Wx Tryz.prog 112 #[.bool false, .bool false, .bool false, .bool false, .bool false] := ⟨⟨.agg #[.bool false, .bool false, .bool false, .bool false, .bool false], λ _ => ⟨by kernel_rfl, by kernel_rfl⟩, rfl⟩, _, _, 1, Tryz.underlying112, λ _ => ⟨by kernel_rfl, by kernel_rfl⟩⟩
theorem acu : av Tryz.prog (sizeOf 3) 1 := λ _ => ⟨by kernel_rfl, by kernel_rfl⟩
theorem acs : av Tryz.prog (sizeOf 23) 2 := λ _ => ⟨by kernel_rfl, by kernel_rfl⟩
theorem azw : av Tryz.prog (sizeOf 25) 1 := λ _ => ⟨by kernel_rfl, by kernel_rfl⟩
theorem Po : yU Tryz.prog 24 58 5 #[.string ⟨#[]⟩, .int .i64 0, .int .i64 0, .int .i64 0, .slice none 0 0] := ⟨Tryz.underlying24, λ _ => ⟨by kernel_rfl, by kernel_rfl⟩, ⟨.agg #[.string ⟨#[]⟩, .int .i64 0, .int .i64 0, .int .i64 0, .slice none 0 0], λ _ => ⟨by kernel_rfl, by kernel_rfl⟩, rfl⟩, rfl, by decide⟩
theorem ck : yU Tryz.prog 25 3 1 #[.int .i64 0] := ⟨Tryz.underlying25, λ _ => ⟨by kernel_rfl, by kernel_rfl⟩, ⟨.int .i64 0, λ _ => ⟨by kernel_rfl, by kernel_rfl⟩, rfl⟩, rfl, by decide⟩
theorem o9 : yU Tryz.prog 26 47 2 #[.int .i64 0, .int .i64 0] := ⟨Tryz.underlying26, λ _ => ⟨by kernel_rfl, by kernel_rfl⟩, ⟨.agg #[.int .i64 0, .int .i64 0], λ _ => ⟨by kernel_rfl, by kernel_rfl⟩, rfl⟩, rfl, by decide⟩
theorem ah7 : yU Tryz.prog 103 125 6 #[.int .i64 0, .int .i64 0, .int .i64 0, .int .i64 0, .int .i64 0, .int .i64 0] := ⟨Tryz.underlying103, λ _ => ⟨by kernel_rfl, by kernel_rfl⟩, ⟨.agg #[.int .i64 0, .int .i64 0, .int .i64 0, .int .i64 0, .int .i64 0, .int .i64 0], λ _ => ⟨by kernel_rfl, by kernel_rfl⟩, rfl⟩, rfl, by decide⟩
theorem ah8 : yU Tryz.prog 115 66 2 #[.int .i64 0, .slice none 0 0] := ⟨Tryz.underlying115, λ _ => ⟨by kernel_rfl, by kernel_rfl⟩, ⟨.agg #[.int .i64 0, .slice none 0 0], λ _ => ⟨by kernel_rfl, by kernel_rfl⟩, rfl⟩, rfl, by decide⟩
theorem si : yU Tryz.prog 135 25 1 #[.slice none 0 0] := ⟨Tryz.underlying135, λ _ => ⟨by kernel_rfl, by kernel_rfl⟩, ⟨.slice none 0 0, λ _ => ⟨by kernel_rfl, by kernel_rfl⟩, rfl⟩, rfl, by decide⟩
theorem aej : aV Tryz.prog 18 := ⟨⟨Tryz.f18, Tryz.func18, by decide +kernel, rfl⟩⟩
theorem V9 : aV Tryz.prog 19 := ⟨⟨Tryz.f19, Tryz.func19, by decide +kernel, rfl⟩⟩
theorem ae9 : aV Tryz.prog 20 := ⟨⟨Tryz.f20, Tryz.func20, by decide +kernel, rfl⟩⟩
theorem aDe : aV Tryz.prog 21 := ⟨⟨Tryz.f21, Tryz.func21, by decide +kernel, rfl⟩⟩
theorem JY : aV Tryz.prog 22 := ⟨⟨Tryz.f22, Tryz.func22, by decide +kernel, rfl⟩⟩
theorem NT : aV Tryz.prog 23 := ⟨⟨Tryz.f23, Tryz.func23, by decide +kernel, rfl⟩⟩
theorem aDf : aV Tryz.prog 24 := ⟨⟨Tryz.f24, Tryz.func24, by decide +kernel, rfl⟩⟩
theorem NU : aV Tryz.prog 25 := ⟨⟨Tryz.f25, Tryz.func25, by decide +kernel, rfl⟩⟩
theorem aDg : aV Tryz.prog 26 := ⟨⟨Tryz.f26, Tryz.func26, by decide +kernel, rfl⟩⟩
theorem afa : aV Tryz.prog 27 := ⟨⟨Tryz.f27, Tryz.func27, by decide +kernel, rfl⟩⟩
theorem aDh : aV Tryz.prog 28 := ⟨⟨Tryz.f28, Tryz.func28, by decide +kernel, rfl⟩⟩
theorem afb : aV Tryz.prog 29 := ⟨⟨Tryz.f29, Tryz.func29, by decide +kernel, rfl⟩⟩
theorem aDi : aV Tryz.prog 30 := ⟨⟨Tryz.f30, Tryz.func30, by decide +kernel, rfl⟩⟩
theorem aek : aV Tryz.prog 31 := ⟨⟨Tryz.f31, Tryz.func31, by decide +kernel, rfl⟩⟩
theorem aDj : aV Tryz.prog 32 := ⟨⟨Tryz.f32, Tryz.func32, by decide +kernel, rfl⟩⟩
theorem afc : aV Tryz.prog 33 := ⟨⟨Tryz.f33, Tryz.func33, by decide +kernel, rfl⟩⟩
theorem aDk : aV Tryz.prog 34 := ⟨⟨Tryz.f34, Tryz.func34, by decide +kernel, rfl⟩⟩
theorem afd : aV Tryz.prog 35 := ⟨⟨Tryz.f35, Tryz.func35, by decide +kernel, rfl⟩⟩
theorem aDl : aV Tryz.prog 36 := ⟨⟨Tryz.f36, Tryz.func36, by decide +kernel, rfl⟩⟩
theorem aBM : aV Tryz.prog 37 := ⟨⟨Tryz.f37, Tryz.func37, by decide +kernel, rfl⟩⟩
theorem afe : aV Tryz.prog 38 := ⟨⟨Tryz.f38, Tryz.func38, by decide +kernel, rfl⟩⟩
theorem aDm : aV Tryz.prog 39 := ⟨⟨Tryz.f39, Tryz.func39, by decide +kernel, rfl⟩⟩
theorem Wa : aV Tryz.prog 40 := ⟨⟨Tryz.f40, Tryz.func40, by decide +kernel, rfl⟩⟩
theorem aDn : aV Tryz.prog 41 := ⟨⟨Tryz.f41, Tryz.func41, by decide +kernel, rfl⟩⟩
theorem aCk : aV Tryz.prog 42 := ⟨⟨Tryz.f42, Tryz.func42, by decide +kernel, rfl⟩⟩
theorem aiZ : aV Tryz.prog 43 := ⟨⟨Tryz.f43, Tryz.func43, by decide +kernel, rfl⟩⟩
theorem NV : aV Tryz.prog 44 := ⟨⟨Tryz.f44, Tryz.func44, by decide +kernel, rfl⟩⟩
theorem PF : aV Tryz.prog 45 := ⟨⟨Tryz.f45, Tryz.func45, by decide +kernel, rfl⟩⟩
theorem ai0 : aV Tryz.prog 46 := ⟨⟨Tryz.f46, Tryz.func46, by decide +kernel, rfl⟩⟩
theorem E7 : aV Tryz.prog 47 := ⟨⟨Tryz.f47, Tryz.func47, by decide +kernel, rfl⟩⟩
theorem aCl : aV Tryz.prog 48 := ⟨⟨Tryz.f48, Tryz.func48, by decide +kernel, rfl⟩⟩
theorem aCm : aV Tryz.prog 49 := ⟨⟨Tryz.f49, Tryz.func49, by decide +kernel, rfl⟩⟩
theorem VP : aV Tryz.prog 50 := ⟨⟨Tryz.f50, Tryz.func50, by decide +kernel, rfl⟩⟩
theorem aBN : aV Tryz.prog 51 := ⟨⟨Tryz.f51, Tryz.func51, by decide +kernel, rfl⟩⟩
theorem aff : aV Tryz.prog 52 := ⟨⟨Tryz.f52, Tryz.func52, by decide +kernel, rfl⟩⟩
theorem ai1 : aV Tryz.prog 53 := ⟨⟨Tryz.f53, Tryz.func53, by decide +kernel, rfl⟩⟩
theorem PG : aV Tryz.prog 55 := ⟨⟨Tryz.f55, Tryz.func55, by decide +kernel, rfl⟩⟩
theorem YU : aV Tryz.prog 56 := ⟨⟨Tryz.f56, Tryz.func56, by decide +kernel, rfl⟩⟩
theorem sj : aV Tryz.prog 58 := ⟨⟨Tryz.f58, Tryz.func58, by decide +kernel, rfl⟩⟩
theorem JZ : aV Tryz.prog 60 := ⟨⟨Tryz.f60, Tryz.func60, by decide +kernel, rfl⟩⟩
theorem zn : aV Tryz.prog 61 := ⟨⟨Tryz.f61, Tryz.func61, by decide +kernel, rfl⟩⟩
theorem YV : aV Tryz.prog 63 := ⟨⟨Tryz.f63, Tryz.func63, by decide +kernel, rfl⟩⟩
theorem YW : aV Tryz.prog 64 := ⟨⟨Tryz.f64, Tryz.func64, by decide +kernel, rfl⟩⟩
theorem PJ : aV Tryz.prog 65 := ⟨⟨Tryz.f65, Tryz.func65, by decide +kernel, rfl⟩⟩
theorem ael : aV Tryz.prog 66 := ⟨⟨Tryz.f66, Tryz.func66, by decide +kernel, rfl⟩⟩
theorem Wb : aV Tryz.prog 67 := ⟨⟨Tryz.f67, Tryz.func67, by decide +kernel, rfl⟩⟩
theorem aDo : aV Tryz.prog 68 := ⟨⟨Tryz.f68, Tryz.func68, by decide +kernel, rfl⟩⟩
theorem ai2 : aV Tryz.prog 71 := ⟨⟨Tryz.f71, Tryz.func71, by decide +kernel, rfl⟩⟩
theorem PK : aV Tryz.prog 72 := ⟨⟨Tryz.f72, Tryz.func72, by decide +kernel, rfl⟩⟩
theorem uo : aV Tryz.prog 83 := ⟨⟨Tryz.f83, Tryz.func83, by decide +kernel, rfl⟩⟩
theorem ai3 : aV Tryz.prog 87 := ⟨⟨Tryz.f87, Tryz.func87, by decide +kernel, rfl⟩⟩
theorem B8 : aV Tryz.prog 88 := ⟨⟨Tryz.f88, Tryz.func88, by decide +kernel, rfl⟩⟩
theorem oe : aV Tryz.prog 89 := ⟨⟨Tryz.f89, Tryz.func89, by decide +kernel, rfl⟩⟩
theorem E8 : aV Tryz.prog 90 := ⟨⟨Tryz.f90, Tryz.func90, by decide +kernel, rfl⟩⟩
theorem J0 : aV Tryz.prog 91 := ⟨⟨Tryz.f91, Tryz.func91, by decide +kernel, rfl⟩⟩
theorem PL : aV Tryz.prog 92 := ⟨⟨Tryz.f92, Tryz.func92, by decide +kernel, rfl⟩⟩
theorem fU : aV Tryz.prog 93 := ⟨⟨Tryz.f93, Tryz.func93, by decide +kernel, rfl⟩⟩
theorem PM : aV Tryz.prog 94 := ⟨⟨Tryz.f94, Tryz.func94, by decide +kernel, rfl⟩⟩
theorem zo : aV Tryz.prog 95 := ⟨⟨Tryz.f95, Tryz.func95, by decide +kernel, rfl⟩⟩
theorem YX : aV Tryz.prog 96 := ⟨⟨Tryz.f96, Tryz.func96, by decide +kernel, rfl⟩⟩
theorem J1 : aV Tryz.prog 97 := ⟨⟨Tryz.f97, Tryz.func97, by decide +kernel, rfl⟩⟩
theorem ai4 : aV Tryz.prog 98 := ⟨⟨Tryz.f98, Tryz.func98, by decide +kernel, rfl⟩⟩
theorem pe : aV Tryz.prog 99 := ⟨⟨Tryz.f99, Tryz.func99, by decide +kernel, rfl⟩⟩
theorem YH : aV Tryz.prog 100 := ⟨⟨Tryz.f100, Tryz.func100, by decide +kernel, rfl⟩⟩
theorem aib : aV Tryz.prog 101 := ⟨⟨Tryz.f101, Tryz.func101, by decide +kernel, rfl⟩⟩
theorem Pp : aV Tryz.prog 102 := ⟨⟨Tryz.f102, Tryz.func102, by decide +kernel, rfl⟩⟩
theorem Pq : aV Tryz.prog 103 := ⟨⟨Tryz.f103, Tryz.func103, by decide +kernel, rfl⟩⟩
theorem wO : aV Tryz.prog 104 := ⟨⟨Tryz.f104, Tryz.func104, by decide +kernel, rfl⟩⟩
theorem aic : aV Tryz.prog 105 := ⟨⟨Tryz.f105, Tryz.func105, by decide +kernel, rfl⟩⟩
theorem YI : aV Tryz.prog 106 := ⟨⟨Tryz.f106, Tryz.func106, by decide +kernel, rfl⟩⟩
theorem aid : aV Tryz.prog 107 := ⟨⟨Tryz.f107, Tryz.func107, by decide +kernel, rfl⟩⟩
theorem Pr : aV Tryz.prog 108 := ⟨⟨Tryz.f108, Tryz.func108, by decide +kernel, rfl⟩⟩
theorem YJ : aV Tryz.prog 109 := ⟨⟨Tryz.f109, Tryz.func109, by decide +kernel, rfl⟩⟩
theorem aie : aV Tryz.prog 110 := ⟨⟨Tryz.f110, Tryz.func110, by decide +kernel, rfl⟩⟩
theorem YK : aV Tryz.prog 111 := ⟨⟨Tryz.f111, Tryz.func111, by decide +kernel, rfl⟩⟩
theorem Pt : aV Tryz.prog 112 := ⟨⟨Tryz.f112, Tryz.func112, by decide +kernel, rfl⟩⟩
theorem aif : aV Tryz.prog 113 := ⟨⟨Tryz.f113, Tryz.func113, by decide +kernel, rfl⟩⟩
theorem JV : aV Tryz.prog 114 := ⟨⟨Tryz.f114, Tryz.func114, by decide +kernel, rfl⟩⟩
theorem aih : aV Tryz.prog 115 := ⟨⟨Tryz.f115, Tryz.func115, by decide +kernel, rfl⟩⟩
theorem aii : aV Tryz.prog 116 := ⟨⟨Tryz.f116, Tryz.func116, by decide +kernel, rfl⟩⟩
theorem Pu : aV Tryz.prog 117 := ⟨⟨Tryz.f117, Tryz.func117, by decide +kernel, rfl⟩⟩
theorem Pv : aV Tryz.prog 118 := ⟨⟨Tryz.f118, Tryz.func118, by decide +kernel, rfl⟩⟩
theorem Pw : aV Tryz.prog 119 := ⟨⟨Tryz.f119, Tryz.func119, by decide +kernel, rfl⟩⟩
theorem Px : aV Tryz.prog 120 := ⟨⟨Tryz.f120, Tryz.func120, by decide +kernel, rfl⟩⟩
theorem Py : aV Tryz.prog 121 := ⟨⟨Tryz.f121, Tryz.func121, by decide +kernel, rfl⟩⟩
theorem YL : aV Tryz.prog 122 := ⟨⟨Tryz.f122, Tryz.func122, by decide +kernel, rfl⟩⟩
theorem YM : aV Tryz.prog 123 := ⟨⟨Tryz.f123, Tryz.func123, by decide +kernel, rfl⟩⟩
theorem Pz : aV Tryz.prog 124 := ⟨⟨Tryz.f124, Tryz.func124, by decide +kernel, rfl⟩⟩
theorem wP : aV Tryz.prog 125 := ⟨⟨Tryz.f125, Tryz.func125, by decide +kernel, rfl⟩⟩
theorem PA : aV Tryz.prog 126 := ⟨⟨Tryz.f126, Tryz.func126, by decide +kernel, rfl⟩⟩
theorem aij : aV Tryz.prog 127 := ⟨⟨Tryz.f127, Tryz.func127, by decide +kernel, rfl⟩⟩
theorem YN : aV Tryz.prog 128 := ⟨⟨Tryz.f128, Tryz.func128, by decide +kernel, rfl⟩⟩
theorem aik : aV Tryz.prog 129 := ⟨⟨Tryz.f129, Tryz.func129, by decide +kernel, rfl⟩⟩
theorem PB : aV Tryz.prog 130 := ⟨⟨Tryz.f130, Tryz.func130, by decide +kernel, rfl⟩⟩
theorem ail : aV Tryz.prog 131 := ⟨⟨Tryz.f131, Tryz.func131, by decide +kernel, rfl⟩⟩
theorem PC : aV Tryz.prog 132 := ⟨⟨Tryz.f132, Tryz.func132, by decide +kernel, rfl⟩⟩
theorem JW : aV Tryz.prog 133 := ⟨⟨Tryz.f133, Tryz.func133, by decide +kernel, rfl⟩⟩
theorem aim : aV Tryz.prog 134 := ⟨⟨Tryz.f134, Tryz.func134, by decide +kernel, rfl⟩⟩
theorem ain : aV Tryz.prog 135 := ⟨⟨Tryz.f135, Tryz.func135, by decide +kernel, rfl⟩⟩
theorem aio : aV Tryz.prog 137 := ⟨⟨Tryz.f137, Tryz.func137, by decide +kernel, rfl⟩⟩
theorem PD : aV Tryz.prog 140 := ⟨⟨Tryz.f140, Tryz.func140, by decide +kernel, rfl⟩⟩
theorem aip : aV Tryz.prog 141 := ⟨⟨Tryz.f141, Tryz.func141, by decide +kernel, rfl⟩⟩
theorem YO : aV Tryz.prog 143 := ⟨⟨Tryz.f143, Tryz.func143, by decide +kernel, rfl⟩⟩
theorem aiq : aV Tryz.prog 144 := ⟨⟨Tryz.f144, Tryz.func144, by decide +kernel, rfl⟩⟩
theorem air : aV Tryz.prog 145 := ⟨⟨Tryz.f145, Tryz.func145, by decide +kernel, rfl⟩⟩
theorem ais : aV Tryz.prog 146 := ⟨⟨Tryz.f146, Tryz.func146, by decide +kernel, rfl⟩⟩
theorem ait : aV Tryz.prog 147 := ⟨⟨Tryz.f147, Tryz.func147, by decide +kernel, rfl⟩⟩
theorem aiu : aV Tryz.prog 148 := ⟨⟨Tryz.f148, Tryz.func148, by decide +kernel, rfl⟩⟩
theorem YP : aV Tryz.prog 149 := ⟨⟨Tryz.f149, Tryz.func149, by decide +kernel, rfl⟩⟩
theorem YQ : aV Tryz.prog 150 := ⟨⟨Tryz.f150, Tryz.func150, by decide +kernel, rfl⟩⟩
theorem PE : aV Tryz.prog 151 := ⟨⟨Tryz.f151, Tryz.func151, by decide +kernel, rfl⟩⟩
theorem um : aV Tryz.prog 152 := ⟨⟨Tryz.f152, Tryz.func152, by decide +kernel, rfl⟩⟩
theorem aiv : aV Tryz.prog 153 := ⟨⟨Tryz.f153, Tryz.func153, by decide +kernel, rfl⟩⟩
theorem qk : aV Tryz.prog 154 := ⟨⟨Tryz.f154, Tryz.func154, by decide +kernel, rfl⟩⟩
theorem aiw : aV Tryz.prog 155 := ⟨⟨Tryz.f155, Tryz.func155, by decide +kernel, rfl⟩⟩
theorem aix : aV Tryz.prog 156 := ⟨⟨Tryz.f156, Tryz.func156, by decide +kernel, rfl⟩⟩
theorem YR : aV Tryz.prog 157 := ⟨⟨Tryz.f157, Tryz.func157, by decide +kernel, rfl⟩⟩
theorem YS : aV Tryz.prog 158 := ⟨⟨Tryz.f158, Tryz.func158, by decide +kernel, rfl⟩⟩
theorem aiy : aV Tryz.prog 159 := ⟨⟨Tryz.f159, Tryz.func159, by decide +kernel, rfl⟩⟩
theorem B7 : aV Tryz.prog 160 := ⟨⟨Tryz.f160, Tryz.func160, by decide +kernel, rfl⟩⟩
theorem aiz : aV Tryz.prog 161 := ⟨⟨Tryz.f161, Tryz.func161, by decide +kernel, rfl⟩⟩
theorem aiA : aV Tryz.prog 162 := ⟨⟨Tryz.f162, Tryz.func162, by decide +kernel, rfl⟩⟩
theorem aiB : aV Tryz.prog 163 := ⟨⟨Tryz.f163, Tryz.func163, by decide +kernel, rfl⟩⟩
theorem aiC : aV Tryz.prog 164 := ⟨⟨Tryz.f164, Tryz.func164, by decide +kernel, rfl⟩⟩
theorem aiD : aV Tryz.prog 165 := ⟨⟨Tryz.f165, Tryz.func165, by decide +kernel, rfl⟩⟩
theorem aiE : aV Tryz.prog 166 := ⟨⟨Tryz.f166, Tryz.func166, by decide +kernel, rfl⟩⟩
theorem aiF : aV Tryz.prog 167 := ⟨⟨Tryz.f167, Tryz.func167, by decide +kernel, rfl⟩⟩
theorem aiG : aV Tryz.prog 168 := ⟨⟨Tryz.f168, Tryz.func168, by decide +kernel, rfl⟩⟩
theorem aiH : aV Tryz.prog 169 := ⟨⟨Tryz.f169, Tryz.func169, by decide +kernel, rfl⟩⟩
theorem aiI : aV Tryz.prog 170 := ⟨⟨Tryz.f170, Tryz.func170, by decide +kernel, rfl⟩⟩
theorem aiJ : aV Tryz.prog 171 := ⟨⟨Tryz.f171, Tryz.func171, by decide +kernel, rfl⟩⟩
theorem YT : aV Tryz.prog 172 := ⟨⟨Tryz.f172, Tryz.func172, by decide +kernel, rfl⟩⟩
theorem aiK : aV Tryz.prog 173 := ⟨⟨Tryz.f173, Tryz.func173, by decide +kernel, rfl⟩⟩
theorem aiL : aV Tryz.prog 174 := ⟨⟨Tryz.f174, Tryz.func174, by decide +kernel, rfl⟩⟩
theorem aiM : aV Tryz.prog 175 := ⟨⟨Tryz.f175, Tryz.func175, by decide +kernel, rfl⟩⟩
theorem JX : aV Tryz.prog 176 := ⟨⟨Tryz.f176, Tryz.func176, by decide +kernel, rfl⟩⟩
theorem aiN : aV Tryz.prog 177 := ⟨⟨Tryz.f177, Tryz.func177, by decide +kernel, rfl⟩⟩
theorem aiO : aV Tryz.prog 183 := ⟨⟨Tryz.f183, Tryz.func183, by decide +kernel, rfl⟩⟩
theorem aiP : aV Tryz.prog 187 := ⟨⟨Tryz.f187, Tryz.func187, by decide +kernel, rfl⟩⟩
theorem aiQ : aV Tryz.prog 188 := ⟨⟨Tryz.f188, Tryz.func188, by decide +kernel, rfl⟩⟩
theorem aiR : aV Tryz.prog 211 := ⟨⟨Tryz.f211, Tryz.func211, by decide +kernel, rfl⟩⟩
theorem aiS : aV Tryz.prog 212 := ⟨⟨Tryz.f212, Tryz.func212, by decide +kernel, rfl⟩⟩
theorem aiT : aV Tryz.prog 213 := ⟨⟨Tryz.f213, Tryz.func213, by decide +kernel, rfl⟩⟩
theorem aiU : aV Tryz.prog 214 := ⟨⟨Tryz.f214, Tryz.func214, by decide +kernel, rfl⟩⟩
theorem aiV : aV Tryz.prog 215 := ⟨⟨Tryz.f215, Tryz.func215, by decide +kernel, rfl⟩⟩
theorem aiW : aV Tryz.prog 216 := ⟨⟨Tryz.f216, Tryz.func216, by decide +kernel, rfl⟩⟩
theorem aiX : aV Tryz.prog 217 := ⟨⟨Tryz.f217, Tryz.func217, by decide +kernel, rfl⟩⟩
theorem aiY : aV Tryz.prog 218 := ⟨⟨Tryz.f218, Tryz.func218, by decide +kernel, rfl⟩⟩
end Go.Proofs.YtabamagholjdcaaGreatDoor
namespace Go.Proofs.YtabamagholjdcaaGreatDoor
open Go.Lg Go.Proofs
abbrev iv (z : Int) : Value := .int .i64 z
theorem xD {P : Program} {e : Nat} (h : (P.info? e).any (λ i => decide (i.bytes ≤ 65536)) = true) : ∃ i, P.info? e = some i ∧ i.bytes ≤ 65536 := by
 cases hi : P.info? e with
 | none => rw [hi] at h; cases h
 | some i => rw [hi] at h; exact ⟨i, rfl, by simpa using h⟩
structure Reach where
 an : Int
 ax : Int
def Wz : b7 Reach := λ _ x es => es = [iv x.an, iv x.ax]
instance : CM Wz := ⟨λ hR h => by obtain rfl := h; exact rfl, λ h => by obtain rfl := h; simp [Value.oneCell']⟩
structure cG where
 Name : ByteArray
 dz : Int
 Weight : Reach
 On : (List Int)
def bm : b7 cG := λ R x es => ∃ vA, aj (CI .i64) 1 R vA x.On ∧ es = [.string x.Name, iv x.dz, iv x.Weight.an, iv x.Weight.ax, vA]
instance : CM bm := ⟨λ hR h => by obtain ⟨vA, zW, rfl⟩ := h; exact ⟨_, zW.mono hR, rfl⟩, λ h => by obtain ⟨vA, zW, rfl⟩ := h; intro u hu; simp only [List.mem_cons, List.not_mem_nil, or_false] at hu; rcases hu with rfl | rfl | rfl | rfl | rfl <;> first | rfl | exact zW.one⟩
structure bW where
 dr : Int
 dQ : Int
def bh : b7 bW := λ _ x es => es = [iv x.dr, iv x.dQ]
instance : CM bh := ⟨λ hR h => by obtain rfl := h; exact rfl, λ h => by obtain rfl := h; simp [Value.oneCell']⟩
structure aq where
 aE : Int
 aa : Reach
 az : (List cG)
 Out : (List Int)
 aO : (List bW)
def N5 : b7 aq := λ R x es => ∃ MN vA MO, aj bm 5 R MN x.az ∧ aj (CI .i64) 1 R vA x.Out ∧ aj bh 2 R MO x.aO ∧ es = [iv x.aE, iv x.aa.an, iv x.aa.ax, MN, vA, MO]
instance : CM N5 := ⟨λ hR h => by obtain ⟨MN, vA, MO, RA, zW, RB, rfl⟩ := h; exact ⟨_, _, _, RA.mono hR, zW.mono hR, RB.mono hR, rfl⟩, λ h => by obtain ⟨MN, vA, MO, RA, zW, RB, rfl⟩ := h; intro u hu; simp only [List.mem_cons, List.not_mem_nil, or_false] at hu; rcases hu with rfl | rfl | rfl | rfl | rfl | rfl <;> first | rfl | exact RA.one | exact zW.one | exact RB.one⟩
structure bu where
 fB : Int
 weights : (List Int)
def fL : b7 bu := λ _ x es => x.weights.length = 5 ∧ es = ([iv x.fB] ++ (x.weights.map (Value.int .i64) ++ []))
instance : CM fL := ⟨λ hR h => by obtain ⟨abq, rfl⟩ := h; exact ⟨abq, rfl⟩, λ h => by obtain ⟨abq, rfl⟩ := h; simp [Value.oneCell']⟩
structure cW where
 book : aq
 dR : (List bu)
 nL : fK
structure an where
 NM : (List Int)
 number : Int
 some_ : Bool
structure cB where
 aa : Int
 fD : (List Int)
def oY : b7 cB := λ R x es => ∃ MM, aj (CI .i64) 1 R MM x.fD ∧ es = [iv x.aa, MM]
instance : CM oY := ⟨λ hR h => by obtain ⟨MM, Ry, rfl⟩ := h; exact ⟨_, Ry.mono hR, rfl⟩, λ h => by obtain ⟨MM, Ry, rfl⟩ := h; intro u hu; simp only [List.mem_cons, List.not_mem_nil, or_false] at hu; rcases hu with rfl | rfl <;> first | rfl | exact Ry.one⟩
theorem Ff {α : Type} {l : List α} (h : l.length = 5) : ∃ a b c d e, l = [a, b, c, d, e] := by
 match l, h with
 | [a, b, c, d, e], _ => exact ⟨a, b, c, d, e, rfl⟩
theorem PZ : Tryz.prog.eqGuardType Tryz.prog.depth 23 = false := by decide +kernel
def Ea (x y : Reach) : Bool := (x.an == y.an && (x.ax == y.ax && true))
theorem PN (x y : Reach) : av Tryz.prog (Op.equal 23 (.agg #[iv x.an, iv x.ax]) (.agg #[iv y.an, iv y.ax])) (Ea x y) := U3 (d := 9999) Tryz.underlying23 (by decide +kernel) (.cons rfl (λ _ => ⟨by kernel_rfl, by kernel_rfl⟩) (λ _ => ⟨by kernel_rfl, by kernel_rfl⟩) (Dr Tryz.underlying3) (.cons rfl (λ _ => ⟨by kernel_rfl, by kernel_rfl⟩) (λ _ => ⟨by kernel_rfl, by kernel_rfl⟩) (Dr Tryz.underlying3) .nil))
theorem akk : Tryz.prog.eqGuardType Tryz.prog.depth 47 = false := by decide +kernel
def VQ (x y : bW) : Bool := (x.dr == y.dr && (x.dQ == y.dQ && true))
theorem ai6 (x y : bW) : av Tryz.prog (Op.equal 47 (.agg #[iv x.dr, iv x.dQ]) (.agg #[iv y.dr, iv y.dQ])) (VQ x y) := U3 (d := 9999) Tryz.underlying47 (by decide +kernel) (.cons rfl (λ _ => ⟨by kernel_rfl, by kernel_rfl⟩) (λ _ => ⟨by kernel_rfl, by kernel_rfl⟩) (Dr Tryz.underlying3) (.cons rfl (λ _ => ⟨by kernel_rfl, by kernel_rfl⟩) (λ _ => ⟨by kernel_rfl, by kernel_rfl⟩) (Dr Tryz.underlying45) .nil))
theorem XR : wu Tryz.prog 24 58 5 := ⟨Tryz.underlying24, λ _ => ⟨by kernel_rfl, by kernel_rfl⟩, xD (by decide +kernel), ⟨.agg #[.string ⟨#[]⟩, .int .i64 0, .int .i64 0, .int .i64 0, .slice none 0 0], λ _ => ⟨by kernel_rfl, by kernel_rfl⟩, rfl⟩⟩
theorem cR : wu Tryz.prog 25 3 1 := ⟨Tryz.underlying25, λ _ => ⟨by kernel_rfl, by kernel_rfl⟩, xD (by decide +kernel), ⟨.int .i64 0, λ _ => ⟨by kernel_rfl, by kernel_rfl⟩, rfl⟩⟩
theorem n8 : wu Tryz.prog 26 47 2 := ⟨Tryz.underlying26, λ _ => ⟨by kernel_rfl, by kernel_rfl⟩, xD (by decide +kernel), ⟨.agg #[.int .i64 0, .int .i64 0], λ _ => ⟨by kernel_rfl, by kernel_rfl⟩, rfl⟩⟩
theorem ahv : wu Tryz.prog 103 125 6 := ⟨Tryz.underlying103, λ _ => ⟨by kernel_rfl, by kernel_rfl⟩, xD (by decide +kernel), ⟨.agg #[.int .i64 0, .int .i64 0, .int .i64 0, .int .i64 0, .int .i64 0, .int .i64 0], λ _ => ⟨by kernel_rfl, by kernel_rfl⟩, rfl⟩⟩
theorem ahw : wu Tryz.prog 115 66 2 := ⟨Tryz.underlying115, λ _ => ⟨by kernel_rfl, by kernel_rfl⟩, xD (by decide +kernel), ⟨.agg #[.int .i64 0, .slice none 0 0], λ _ => ⟨by kernel_rfl, by kernel_rfl⟩, rfl⟩⟩
theorem zd : wu Tryz.prog 135 25 1 := ⟨Tryz.underlying135, λ _ => ⟨by kernel_rfl, by kernel_rfl⟩, xD (by decide +kernel), ⟨.slice none 0 0, λ _ => ⟨by kernel_rfl, by kernel_rfl⟩, rfl⟩⟩
theorem X0 : (Array.range (0 * 5)).map ((#[.string ⟨#[]⟩, .int .i64 0, .int .i64 0, .int .i64 0, .slice none 0 0] : Array Value)[· % (#[.string ⟨#[]⟩, .int .i64 0, .int .i64 0, .int .i64 0, .slice none 0 0] : Array Value).size]!) = #[] := by kernel_rfl
theorem ahL : (Array.range (3 * 5)).map ((#[.string ⟨#[]⟩, .int .i64 0, .int .i64 0, .int .i64 0, .slice none 0 0] : Array Value)[· % (#[.string ⟨#[]⟩, .int .i64 0, .int .i64 0, .int .i64 0, .slice none 0 0] : Array Value).size]!) = #[.string ⟨#[]⟩, .int .i64 0, .int .i64 0, .int .i64 0, .slice none 0 0, .string ⟨#[]⟩, .int .i64 0, .int .i64 0, .int .i64 0, .slice none 0 0, .string ⟨#[]⟩, .int .i64 0, .int .i64 0, .int .i64 0, .slice none 0 0] := by kernel_rfl
theorem p7 : (Array.range (0 * 1)).map ((#[.int .i64 0] : Array Value)[· % (#[.int .i64 0] : Array Value).size]!) = #[] := by kernel_rfl
theorem cS : (Array.range (1 * 1)).map ((#[.int .i64 0] : Array Value)[· % (#[.int .i64 0] : Array Value).size]!) = #[.int .i64 0] := by kernel_rfl
theorem JD : (Array.range (2 * 1)).map ((#[.int .i64 0] : Array Value)[· % (#[.int .i64 0] : Array Value).size]!) = #[.int .i64 0, .int .i64 0] := by kernel_rfl
theorem B1 : (Array.range (3 * 1)).map ((#[.int .i64 0] : Array Value)[· % (#[.int .i64 0] : Array Value).size]!) = #[.int .i64 0, .int .i64 0, .int .i64 0] := by kernel_rfl
theorem O1 : (Array.range (0 * 2)).map ((#[.int .i64 0, .int .i64 0] : Array Value)[· % (#[.int .i64 0, .int .i64 0] : Array Value).size]!) = #[] := by kernel_rfl
theorem uj : (Array.range (1 * 2)).map ((#[.int .i64 0, .int .i64 0] : Array Value)[· % (#[.int .i64 0, .int .i64 0] : Array Value).size]!) = #[.int .i64 0, .int .i64 0] := by kernel_rfl
theorem ahJ : (Array.range (1 * 6)).map ((#[.int .i64 0, .int .i64 0, .int .i64 0, .int .i64 0, .int .i64 0, .int .i64 0] : Array Value)[· % (#[.int .i64 0, .int .i64 0, .int .i64 0, .int .i64 0, .int .i64 0, .int .i64 0] : Array Value).size]!) = #[.int .i64 0, .int .i64 0, .int .i64 0, .int .i64 0, .int .i64 0, .int .i64 0] := by kernel_rfl
theorem ahK : (Array.range (1 * 2)).map ((#[.int .i64 0, .slice none 0 0] : Array Value)[· % (#[.int .i64 0, .slice none 0 0] : Array Value).size]!) = #[.int .i64 0, .slice none 0 0] := by kernel_rfl
theorem r9 : (Array.range (1 * 1)).map ((#[.slice none 0 0] : Array Value)[· % (#[.slice none 0 0] : Array Value).size]!) = #[.slice none 0 0] := by kernel_rfl
abbrev fM (R : aI) : Prop := aT R [] 0 0 [.func (.func 211) #[] #[], .func (.func 212) #[] #[], .func (.func 213) #[] #[], .func (.func 214) #[] #[]]
theorem fM.mono {R R' : aI} (h : fM R) (hR : aN R R') : fM R' := aT.up (H := []) h hR
theorem fM.any {R : aI} {H : au} (h : fM R) : aT R H 0 0 [.func (.func 211) #[] #[], .func (.func 212) #[] #[], .func (.func 213) #[] #[], .func (.func 214) #[] #[]] := aT.any h
set_option maxRecDepth 100000
def Us : Nat → Nat → Option Nat
 | 23, 0 => some 0
 | 23, 1 => some 1
 | 28, 0 => some 0
 | 28, 1 => some 1
 | 28, 2 => some 3
 | 28, 3 => some 4
 | 28, 4 => some 5
 | 47, 0 => some 0
 | 47, 1 => some 1
 | 58, 0 => some 0
 | 58, 1 => some 1
 | 58, 2 => some 2
 | 58, 3 => some 4
 | 66, 0 => some 0
 | 66, 1 => some 1
 | 102, 0 => some 0
 | 106, 0 => some 0
 | 106, 1 => some 6
 | 106, 2 => some 7
 | 125, 0 => some 0
 | 125, 1 => some 1
 | 138, 0 => some 0
 | 138, 1 => some 1
 | 138, 2 => some 2
 | 170, 0 => some 0
 | 170, 1 => some 5
 | _, _ => none
theorem ayc : ∀ s f n, Us s f = some n → fq Tryz.prog s f n := by
 intro s f n h
 unfold Us at h
 split at h
 ·cases h; exact aj0
 ·cases h; exact aj1
 ·cases h; exact aj2
 ·cases h; exact aj3
 ·cases h; exact Zd
 ·cases h; exact aj4
 ·cases h; exact aj5
 ·cases h; exact aj6
 ·cases h; exact aj7
 ·cases h; exact aj8
 ·cases h; exact aj9
 ·cases h; exact aka
 ·cases h; exact akb
 ·cases h; exact akc
 ·cases h; exact akd
 ·cases h; exact Y8
 ·cases h; exact Y9
 ·cases h; exact ajU
 ·cases h; exact Za
 ·cases h; exact ajV
 ·cases h; exact ajW
 ·cases h; exact ajX
 ·cases h; exact ajY
 ·cases h; exact ajZ
 ·cases h; exact Zb
 ·cases h; exact Zc
 ·cases h
instance : rT Tryz.prog := ⟨Us, ayc⟩
theorem ai5 (a b c d : Int) : av Tryz.prog (Op.equal 145 (eG a b) (eG c d)) (a == c && (b == d && true)) :=
 U3 (d := 9999) Tryz.underlying145 (by decide +kernel) (.cons rfl (λ _ => ⟨by kernel_rfl, by kernel_rfl⟩) (λ _ => ⟨by kernel_rfl, by kernel_rfl⟩) (Dr Tryz.underlying3) (.cons rfl (λ _ => ⟨by kernel_rfl, by kernel_rfl⟩) (λ _ => ⟨by kernel_rfl, by kernel_rfl⟩) (Dr Tryz.underlying3) .nil))
theorem Hx : EJ Tryz.prog 143 145 3 := ⟨Tryz.underlying143, ⟨_, Tryz.underlying145, λ a b => by cases a <;> rfl⟩, ai5, λ e a b _ => ⟨by kernel_rfl, by kernel_rfl⟩, λ _ => ⟨by kernel_rfl, by kernel_rfl⟩⟩
theorem avT {a b : List Bool} (hx : a.length = 5) (hy : b.length = 5) : av Tryz.prog (Op.equal 112 (lu a) (lu b)) (a == b) := by
 obtain ⟨a0, a1, a2, a3, a4, rfl⟩ := Ff hx
 obtain ⟨b0, b1, b2, b3, b4, rfl⟩ := Ff hy
 have hw : ([a0, a1, a2, a3, a4] == [b0, b1, b2, b3, b4]) = ((a0 == b0) && ((a1 == b1) && ((a2 == b2) && ((a3 == b3) && ((a4 == b4) && true))))) := by simp
 rw [hw]
 refine aAd (d := 9999) (n := 1) Tryz.underlying112 (λ _ => ⟨by kernel_rfl, by kernel_rfl⟩) ?_
 refine .cons (i := 0) (rest := [1, 2, 3, 4]) (λ _ => ⟨by kernel_rfl, by kernel_rfl⟩) (λ _ => ⟨by kernel_rfl, by kernel_rfl⟩) (Ic Tryz.underlying4) ?_
 refine .cons (i := 1) (rest := [2, 3, 4]) (λ _ => ⟨by kernel_rfl, by kernel_rfl⟩) (λ _ => ⟨by kernel_rfl, by kernel_rfl⟩) (Ic Tryz.underlying4) ?_
 refine .cons (i := 2) (rest := [3, 4]) (λ _ => ⟨by kernel_rfl, by kernel_rfl⟩) (λ _ => ⟨by kernel_rfl, by kernel_rfl⟩) (Ic Tryz.underlying4) ?_
 refine .cons (i := 3) (rest := [4]) (λ _ => ⟨by kernel_rfl, by kernel_rfl⟩) (λ _ => ⟨by kernel_rfl, by kernel_rfl⟩) (Ic Tryz.underlying4) ?_
 exact .cons (i := 4) (rest := []) (λ _ => ⟨by kernel_rfl, by kernel_rfl⟩) (λ _ => ⟨by kernel_rfl, by kernel_rfl⟩) (Ic Tryz.underlying4) .nil
theorem avS (e : Bool) {a : List Bool} (hx : a.length = 5) : av Tryz.prog (Instr.checkKey e 10000 112 (lu a)) () := by
 obtain ⟨a0, a1, a2, a3, a4, rfl⟩ := Ff hx
 exact λ _ => ⟨by kernel_rfl, by kernel_rfl⟩
theorem Up : BS Tryz.prog 104 112 3 := ⟨Tryz.underlying104, ⟨_, Tryz.underlying112, λ a b => by cases a <;> rfl⟩, λ _ _ => avT, λ e _ => avS e, λ _ => ⟨by kernel_rfl, by kernel_rfl⟩⟩
theorem mixed : Tryz.prog.follows .mixedOrders = true := by kernel_rfl
end Go.Proofs.YtabamagholjdcaaGreatDoor
