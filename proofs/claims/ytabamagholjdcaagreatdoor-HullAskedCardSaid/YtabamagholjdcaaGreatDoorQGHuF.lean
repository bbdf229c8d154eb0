/- Closed facts on the program; the structs of the models. Conditions: none. -/
import Derived.Test.YtabamagholjdcaaGreatDoorQGLgC
import Derived.Test.YtabamagholjdcaaGreatDoorProg
import Derived.KernelRfl
namespace Go.Proofs.YtabamagholjdcaaGreatDoor
open Go.Lg Go.Proofs
theorem aV : gr Tryz.prog 3 := ⟨λ _ => ⟨by kernel_rfl, by kernel_rfl⟩, λ _ => ⟨by kernel_rfl, by kernel_rfl⟩⟩
theorem jg : gr Tryz.prog 4 := ⟨λ _ => ⟨by kernel_rfl, by kernel_rfl⟩, λ _ => ⟨by kernel_rfl, by kernel_rfl⟩⟩
theorem azJ : gr Tryz.prog 5 := ⟨λ _ => ⟨by kernel_rfl, by kernel_rfl⟩, λ _ => ⟨by kernel_rfl, by kernel_rfl⟩⟩
theorem sU : gr Tryz.prog 9 := ⟨λ _ => ⟨by kernel_rfl, by kernel_rfl⟩, λ _ => ⟨by kernel_rfl, by kernel_rfl⟩⟩
theorem dc : gr Tryz.prog 24 := ⟨λ _ => ⟨by kernel_rfl, by kernel_rfl⟩, λ _ => ⟨by kernel_rfl, by kernel_rfl⟩⟩
theorem cO : gr Tryz.prog 25 := ⟨λ _ => ⟨by kernel_rfl, by kernel_rfl⟩, λ _ => ⟨by kernel_rfl, by kernel_rfl⟩⟩
theorem fu : gr Tryz.prog 26 := ⟨λ _ => ⟨by kernel_rfl, by kernel_rfl⟩, λ _ => ⟨by kernel_rfl, by kernel_rfl⟩⟩
theorem uW : gr Tryz.prog 31 := ⟨λ _ => ⟨by kernel_rfl, by kernel_rfl⟩, λ _ => ⟨by kernel_rfl, by kernel_rfl⟩⟩
theorem TO : gr Tryz.prog 45 := ⟨λ _ => ⟨by kernel_rfl, by kernel_rfl⟩, λ _ => ⟨by kernel_rfl, by kernel_rfl⟩⟩
theorem qK : gr Tryz.prog 103 := ⟨λ _ => ⟨by kernel_rfl, by kernel_rfl⟩, λ _ => ⟨by kernel_rfl, by kernel_rfl⟩⟩
theorem TK : gr Tryz.prog 104 := ⟨λ _ => ⟨by kernel_rfl, by kernel_rfl⟩, λ _ => ⟨by kernel_rfl, by kernel_rfl⟩⟩
theorem KF : gr Tryz.prog 109 := ⟨λ _ => ⟨by kernel_rfl, by kernel_rfl⟩, λ _ => ⟨by kernel_rfl, by kernel_rfl⟩⟩
theorem azH : gr Tryz.prog 130 := ⟨λ _ => ⟨by kernel_rfl, by kernel_rfl⟩, λ _ => ⟨by kernel_rfl, by kernel_rfl⟩⟩
theorem KG : gr Tryz.prog 167 := ⟨λ _ => ⟨by kernel_rfl, by kernel_rfl⟩, λ _ => ⟨by kernel_rfl, by kernel_rfl⟩⟩
theorem TL : gr Tryz.prog 168 := ⟨λ _ => ⟨by kernel_rfl, by kernel_rfl⟩, λ _ => ⟨by kernel_rfl, by kernel_rfl⟩⟩
theorem azI : gr Tryz.prog 174 := ⟨λ _ => ⟨by kernel_rfl, by kernel_rfl⟩, λ _ => ⟨by kernel_rfl, by kernel_rfl⟩⟩
theorem TM : gr Tryz.prog 175 := ⟨λ _ => ⟨by kernel_rfl, by kernel_rfl⟩, λ _ => ⟨by kernel_rfl, by kernel_rfl⟩⟩
theorem TN : gr Tryz.prog 179 := ⟨λ _ => ⟨by kernel_rfl, by kernel_rfl⟩, λ _ => ⟨by kernel_rfl, by kernel_rfl⟩⟩
theorem qL : gr Tryz.prog 206 := ⟨λ _ => ⟨by kernel_rfl, by kernel_rfl⟩, λ _ => ⟨by kernel_rfl, by kernel_rfl⟩⟩
theorem fW : j4 Tryz.prog 23 2 := ⟨λ _ => ⟨by kernel_rfl, by kernel_rfl⟩, λ _ => ⟨by kernel_rfl, by kernel_rfl⟩⟩
theorem bp : j4 Tryz.prog 28 6 := ⟨λ _ => ⟨by kernel_rfl, by kernel_rfl⟩, λ _ => ⟨by kernel_rfl, by kernel_rfl⟩⟩
theorem rM : j4 Tryz.prog 47 2 := ⟨λ _ => ⟨by kernel_rfl, by kernel_rfl⟩, λ _ => ⟨by kernel_rfl, by kernel_rfl⟩⟩
theorem kE : j4 Tryz.prog 58 5 := ⟨λ _ => ⟨by kernel_rfl, by kernel_rfl⟩, λ _ => ⟨by kernel_rfl, by kernel_rfl⟩⟩
theorem afz : j4 Tryz.prog 66 2 := ⟨λ _ => ⟨by kernel_rfl, by kernel_rfl⟩, λ _ => ⟨by kernel_rfl, by kernel_rfl⟩⟩
theorem dS : j4 Tryz.prog 102 6 := ⟨λ _ => ⟨by kernel_rfl, by kernel_rfl⟩, λ _ => ⟨by kernel_rfl, by kernel_rfl⟩⟩
theorem ej : j4 Tryz.prog 106 8 := ⟨λ _ => ⟨by kernel_rfl, by kernel_rfl⟩, λ _ => ⟨by kernel_rfl, by kernel_rfl⟩⟩
theorem c8 : j4 Tryz.prog 112 5 := ⟨λ _ => ⟨by kernel_rfl, by kernel_rfl⟩, λ _ => ⟨by kernel_rfl, by kernel_rfl⟩⟩
theorem eG : j4 Tryz.prog 125 6 := ⟨λ _ => ⟨by kernel_rfl, by kernel_rfl⟩, λ _ => ⟨by kernel_rfl, by kernel_rfl⟩⟩
theorem afw : j4 Tryz.prog 138 3 := ⟨λ _ => ⟨by kernel_rfl, by kernel_rfl⟩, λ _ => ⟨by kernel_rfl, by kernel_rfl⟩⟩
theorem M1 : j4 Tryz.prog 145 2 := ⟨λ _ => ⟨by kernel_rfl, by kernel_rfl⟩, λ _ => ⟨by kernel_rfl, by kernel_rfl⟩⟩
theorem afx : j4 Tryz.prog 164 4 := ⟨λ _ => ⟨by kernel_rfl, by kernel_rfl⟩, λ _ => ⟨by kernel_rfl, by kernel_rfl⟩⟩
theorem afy : j4 Tryz.prog 170 6 := ⟨λ _ => ⟨by kernel_rfl, by kernel_rfl⟩, λ _ => ⟨by kernel_rfl, by kernel_rfl⟩⟩
theorem rC : gv Tryz.prog 3 #[.int .i64 0] := ⟨.int .i64 0, λ _ => ⟨by kernel_rfl, by kernel_rfl⟩, rfl⟩
theorem Vd : gv Tryz.prog 4 #[.bool false] := ⟨.bool false, λ _ => ⟨by kernel_rfl, by kernel_rfl⟩, rfl⟩
theorem Bq : gv Tryz.prog 23 #[.int .i64 0, .int .i64 0] := ⟨.agg #[.int .i64 0, .int .i64 0], λ _ => ⟨by kernel_rfl, by kernel_rfl⟩, rfl⟩
theorem aCX : gv Tryz.prog 25 #[.slice none 0 0] := ⟨.slice none 0 0, λ _ => ⟨by kernel_rfl, by kernel_rfl⟩, rfl⟩
theorem nY : gv Tryz.prog 28 #[.int .i64 0, .int .i64 0, .int .i64 0, .slice none 0 0, .slice none 0 0, .slice none 0 0] := ⟨.agg #[.int .i64 0, .int .i64 0, .int .i64 0, .slice none 0 0, .slice none 0 0, .slice none 0 0], λ _ => ⟨by kernel_rfl, by kernel_rfl⟩, rfl⟩
theorem aCY : gv Tryz.prog 31 #[.int .i64 0] := ⟨.int .i64 0, λ _ => ⟨by kernel_rfl, by kernel_rfl⟩, rfl⟩
theorem adh : gv Tryz.prog 47 #[.int .i64 0, .int .i64 0] := ⟨.agg #[.int .i64 0, .int .i64 0], λ _ => ⟨by kernel_rfl, by kernel_rfl⟩, rfl⟩
theorem vD : gv Tryz.prog 58 #[.string ⟨#[]⟩, .int .i64 0, .int .i64 0, .int .i64 0, .slice none 0 0] := ⟨.agg #[.string ⟨#[]⟩, .int .i64 0, .int .i64 0, .int .i64 0, .slice none 0 0], λ _ => ⟨by kernel_rfl, by kernel_rfl⟩, rfl⟩
theorem Vc : gv Tryz.prog 102 #[.int .i64 0, .int .i64 0, .int .i64 0, .slice none 0 0, .slice none 0 0, .slice none 0 0] := ⟨.agg #[.int .i64 0, .int .i64 0, .int .i64 0, .slice none 0 0, .slice none 0 0, .slice none 0 0], λ _ => ⟨by kernel_rfl, by kernel_rfl⟩, rfl⟩
theorem m4 : gv Tryz.prog 106 #[.int .i64 0, .int .i64 0, .int .i64 0, .slice none 0 0, .slice none 0 0, .slice none 0 0, .slice none 0 0, .map none] := ⟨.agg #[.int .i64 0, .int .i64 0, .int .i64 0, .slice none 0 0, .slice none 0 0, .slice none 0 0, .slice none 0 0, .map none], λ _ => ⟨by kernel_rfl, by kernel_rfl⟩, rfl⟩
theorem kB : gv Tryz.prog 112 #[.bool false, .bool false, .bool false, .bool false, .bool false] := ⟨.agg #[.bool false, .bool false, .bool false, .bool false, .bool false], λ _ => ⟨by kernel_rfl, by kernel_rfl⟩, rfl⟩
theorem yp : gv Tryz.prog 125 #[.int .i64 0, .int .i64 0, .int .i64 0, .int .i64 0, .int .i64 0, .int .i64 0] := ⟨.agg #[.int .i64 0, .int .i64 0, .int .i64 0, .int .i64 0, .int .i64 0, .int .i64 0], λ _ => ⟨by kernel_rfl, by kernel_rfl⟩, rfl⟩
theorem aCP : gv Tryz.prog 138 #[.slice none 0 0, .int .i64 0, .bool false] := ⟨.agg #[.slice none 0 0, .int .i64 0, .bool false], λ _ => ⟨by kernel_rfl, by kernel_rfl⟩, rfl⟩
theorem aCQ : gv Tryz.prog 145 #[.int .i64 0, .int .i64 0] := ⟨.agg #[.int .i64 0, .int .i64 0], λ _ => ⟨by kernel_rfl, by kernel_rfl⟩, rfl⟩
theorem aCR : gv Tryz.prog 167 #[.chan none] := ⟨.chan none, λ _ => ⟨by kernel_rfl, by kernel_rfl⟩, rfl⟩
theorem aCS : gv Tryz.prog 168 #[.chan none] := ⟨.chan none, λ _ => ⟨by kernel_rfl, by kernel_rfl⟩, rfl⟩
theorem aCT : gv Tryz.prog 170 #[.bool false, .bool false, .bool false, .bool false, .bool false, .int .i64 0] := ⟨.agg #[.bool false, .bool false, .bool false, .bool false, .bool false, .int .i64 0], λ _ => ⟨by kernel_rfl, by kernel_rfl⟩, rfl⟩
theorem aCU : gv Tryz.prog 175 #[.nilFunc] := ⟨.nilFunc, λ _ => ⟨by kernel_rfl, by kernel_rfl⟩, rfl⟩
theorem aCV : gv Tryz.prog 179 #[.nilFunc] := ⟨.nilFunc, λ _ => ⟨by kernel_rfl, by kernel_rfl⟩, rfl⟩
theorem aCW : gv Tryz.prog 206 #[.int .u64 0] := ⟨.int .u64 0, λ _ => ⟨by kernel_rfl, by kernel_rfl⟩, rfl⟩
theorem aik : ff Tryz.prog 23 0 0 := λ _ _ _ => ⟨by kernel_rfl, by kernel_rfl⟩
theorem ail : ff Tryz.prog 23 1 1 := λ _ _ _ => ⟨by kernel_rfl, by kernel_rfl⟩
theorem aim : ff Tryz.prog 28 0 0 := λ _ _ _ => ⟨by kernel_rfl, by kernel_rfl⟩
theorem ain : ff Tryz.prog 28 1 1 := λ _ _ _ => ⟨by kernel_rfl, by kernel_rfl⟩
theorem Yl : ff Tryz.prog 28 2 3 := λ _ _ _ => ⟨by kernel_rfl, by kernel_rfl⟩
theorem aio : ff Tryz.prog 28 3 4 := λ _ _ _ => ⟨by kernel_rfl, by kernel_rfl⟩
theorem aip : ff Tryz.prog 28 4 5 := λ _ _ _ => ⟨by kernel_rfl, by kernel_rfl⟩
theorem aiq : ff Tryz.prog 47 0 0 := λ _ _ _ => ⟨by kernel_rfl, by kernel_rfl⟩
theorem air : ff Tryz.prog 47 1 1 := λ _ _ _ => ⟨by kernel_rfl, by kernel_rfl⟩
theorem ais : ff Tryz.prog 58 0 0 := λ _ _ _ => ⟨by kernel_rfl, by kernel_rfl⟩
theorem ait : ff Tryz.prog 58 1 1 := λ _ _ _ => ⟨by kernel_rfl, by kernel_rfl⟩
theorem aiu : ff Tryz.prog 58 2 2 := λ _ _ _ => ⟨by kernel_rfl, by kernel_rfl⟩
theorem aiv : ff Tryz.prog 58 3 4 := λ _ _ _ => ⟨by kernel_rfl, by kernel_rfl⟩
theorem aiw : ff Tryz.prog 66 0 0 := λ _ _ _ => ⟨by kernel_rfl, by kernel_rfl⟩
theorem aix : ff Tryz.prog 66 1 1 := λ _ _ _ => ⟨by kernel_rfl, by kernel_rfl⟩
theorem Yg : ff Tryz.prog 102 0 0 := λ _ _ _ => ⟨by kernel_rfl, by kernel_rfl⟩
theorem Yh : ff Tryz.prog 106 0 0 := λ _ _ _ => ⟨by kernel_rfl, by kernel_rfl⟩
theorem aid : ff Tryz.prog 106 1 6 := λ _ _ _ => ⟨by kernel_rfl, by kernel_rfl⟩
theorem Yi : ff Tryz.prog 106 2 7 := λ _ _ _ => ⟨by kernel_rfl, by kernel_rfl⟩
theorem aie : ff Tryz.prog 125 0 0 := λ _ _ _ => ⟨by kernel_rfl, by kernel_rfl⟩
theorem aif : ff Tryz.prog 125 1 1 := λ _ _ _ => ⟨by kernel_rfl, by kernel_rfl⟩
theorem aih : ff Tryz.prog 138 0 0 := λ _ _ _ => ⟨by kernel_rfl, by kernel_rfl⟩
theorem aii : ff Tryz.prog 138 1 1 := λ _ _ _ => ⟨by kernel_rfl, by kernel_rfl⟩
theorem aij : ff Tryz.prog 138 2 2 := λ _ _ _ => ⟨by kernel_rfl, by kernel_rfl⟩
theorem Yj : ff Tryz.prog 170 0 0 := λ _ _ _ => ⟨by kernel_rfl, by kernel_rfl⟩
theorem Yk : ff Tryz.prog 170 1 5 := λ _ _ _ => ⟨by kernel_rfl, by kernel_rfl⟩
theorem jD : lp Tryz.prog 24 58 5 := ⟨Tryz.underlying24, λ _ => ⟨by kernel_rfl, by kernel_rfl⟩⟩
theorem bm : lp Tryz.prog 25 3 1 := ⟨Tryz.underlying25, λ _ => ⟨by kernel_rfl, by kernel_rfl⟩⟩
theorem AP : lp Tryz.prog 26 47 2 := ⟨Tryz.underlying26, λ _ => ⟨by kernel_rfl, by kernel_rfl⟩⟩
theorem Lb : lp Tryz.prog 103 125 6 := ⟨Tryz.underlying103, λ _ => ⟨by kernel_rfl, by kernel_rfl⟩⟩
theorem abV : lp Tryz.prog 135 25 1 := ⟨Tryz.underlying135, λ _ => ⟨by kernel_rfl, by kernel_rfl⟩⟩
theorem aA7 : lp Tryz.prog 234 5 1 := ⟨Tryz.underlying234, λ _ => ⟨by kernel_rfl, by kernel_rfl⟩⟩
theorem BJ : vG Tryz.prog 112 5 4 1 := ⟨Tryz.underlying112, λ _ => ⟨by kernel_rfl, by kernel_rfl⟩⟩
theorem Er : vG Tryz.prog 123 5 3 1 := ⟨Tryz.underlying123, λ _ => ⟨by kernel_rfl, by kernel_rfl⟩⟩
theorem IP : vG Tryz.prog 164 4 109 1 := ⟨Tryz.underlying164, λ _ => ⟨by kernel_rfl, by kernel_rfl⟩⟩
theorem Le : oX Tryz.prog 23 [(0, 1), (1, 1)] #[.int .i64 0, .int .i64 0] := ⟨⟨.agg #[.int .i64 0, .int .i64 0], λ _ => ⟨by kernel_rfl, by kernel_rfl⟩, rfl⟩, _, Tryz.underlying23, λ _ => ⟨by kernel_rfl, by kernel_rfl⟩⟩
theorem rI : oX Tryz.prog 28 [(0, 1), (1, 2), (3, 1), (4, 1), (5, 1)] #[.int .i64 0, .int .i64 0, .int .i64 0, .slice none 0 0, .slice none 0 0, .slice none 0 0] := ⟨⟨.agg #[.int .i64 0, .int .i64 0, .int .i64 0, .slice none 0 0, .slice none 0 0, .slice none 0 0], λ _ => ⟨by kernel_rfl, by kernel_rfl⟩, rfl⟩, _, Tryz.underlying28, λ _ => ⟨by kernel_rfl, by kernel_rfl⟩⟩
theorem Lf : oX Tryz.prog 47 [(0, 1), (1, 1)] #[.int .i64 0, .int .i64 0] := ⟨⟨.agg #[.int .i64 0, .int .i64 0], λ _ => ⟨by kernel_rfl, by kernel_rfl⟩, rfl⟩, _, Tryz.underlying47, λ _ => ⟨by kernel_rfl, by kernel_rfl⟩⟩
theorem Uh : oX Tryz.prog 58 [(0, 1), (1, 1), (2, 2), (4, 1)] #[.string ⟨#[]⟩, .int .i64 0, .int .i64 0, .int .i64 0, .slice none 0 0] := ⟨⟨.agg #[.string ⟨#[]⟩, .int .i64 0, .int .i64 0, .int .i64 0, .slice none 0 0], λ _ => ⟨by kernel_rfl, by kernel_rfl⟩, rfl⟩, _, Tryz.underlying58, λ _ => ⟨by kernel_rfl, by kernel_rfl⟩⟩
theorem aBD : oX Tryz.prog 66 [(0, 1), (1, 1)] #[.int .i64 0, .slice none 0 0] := ⟨⟨.agg #[.int .i64 0, .slice none 0 0], λ _ => ⟨by kernel_rfl, by kernel_rfl⟩, rfl⟩, _, Tryz.underlying66, λ _ => ⟨by kernel_rfl, by kernel_rfl⟩⟩
theorem pK : oX Tryz.prog 102 [(0, 6)] #[.int .i64 0, .int .i64 0, .int .i64 0, .slice none 0 0, .slice none 0 0, .slice none 0 0] := ⟨⟨.agg #[.int .i64 0, .int .i64 0, .int .i64 0, .slice none 0 0, .slice none 0 0, .slice none 0 0], λ _ => ⟨by kernel_rfl, by kernel_rfl⟩, rfl⟩, _, Tryz.underlying102, λ _ => ⟨by kernel_rfl, by kernel_rfl⟩⟩
theorem Ld : oX Tryz.prog 106 [(0, 6), (6, 1), (7, 1)] #[.int .i64 0, .int .i64 0, .int .i64 0, .slice none 0 0, .slice none 0 0, .slice none 0 0, .slice none 0 0, .map none] := ⟨⟨.agg #[.int .i64 0, .int .i64 0, .int .i64 0, .slice none 0 0, .slice none 0 0, .slice none 0 0, .slice none 0 0, .map none], λ _ => ⟨by kernel_rfl, by kernel_rfl⟩, rfl⟩, _, Tryz.underlying106, λ _ => ⟨by kernel_rfl, by kernel_rfl⟩⟩
theorem Hh : oX Tryz.prog 125 [(0, 1), (1, 5)] #[.int .i64 0, .int .i64 0, .int .i64 0, .int .i64 0, .int .i64 0, .int .i64 0] := ⟨⟨.agg #[.int .i64 0, .int .i64 0, .int .i64 0, .int .i64 0, .int .i64 0, .int .i64 0], λ _ => ⟨by kernel_rfl, by kernel_rfl⟩, rfl⟩, _, Tryz.underlying125, λ _ => ⟨by kernel_rfl, by kernel_rfl⟩⟩
theorem aBA : oX Tryz.prog 138 [(0, 1), (1, 1), (2, 1)] #[.slice none 0 0, .int .i64 0, .bool false] := ⟨⟨.agg #[.slice none 0 0, .int .i64 0, .bool false], λ _ => ⟨by kernel_rfl, by kernel_rfl⟩, rfl⟩, _, Tryz.underlying138, λ _ => ⟨by kernel_rfl, by kernel_rfl⟩⟩
theorem aBB : oX Tryz.prog 145 [(0, 1), (1, 1)] #[.int .i64 0, .int .i64 0] := ⟨⟨.agg #[.int .i64 0, .int .i64 0], λ _ => ⟨by kernel_rfl, by kernel_rfl⟩, rfl⟩, _, Tryz.underlying145, λ _ => ⟨by kernel_rfl, by kernel_rfl⟩⟩
theorem aBC : oX Tryz.prog 170 [(0, 5), (5, 1)] #[.bool false, .bool false, .bool false, .bool false, .bool false, .int .i64 0] := ⟨⟨.agg #[.bool false, .bool false, .bool false, .bool false, .bool false, .int .i64 0], λ _ => ⟨by kernel_rfl, by kernel_rfl⟩, rfl⟩, _, Tryz.underlying170, λ _ => ⟨by kernel_rfl, by kernel_rfl⟩⟩
theorem pZ : Vy Tryz.prog 112 #[.bool false, .bool false, .bool false, .bool false, .bool false] := ⟨⟨.agg #[.bool false, .bool false, .bool false, .bool false, .bool false], λ _ => ⟨by kernel_rfl, by kernel_rfl⟩, rfl⟩, _, _, 1, Tryz.underlying112, λ _ => ⟨by kernel_rfl, by kernel_rfl⟩⟩
theorem eV : an Tryz.prog (sizeOf 3) 1 := λ _ => ⟨by kernel_rfl, by kernel_rfl⟩
theorem abU : an Tryz.prog (sizeOf 23) 2 := λ _ => ⟨by kernel_rfl, by kernel_rfl⟩
theorem aA6 : an Tryz.prog (sizeOf 25) 1 := λ _ => ⟨by kernel_rfl, by kernel_rfl⟩
theorem ND : By Tryz.prog 24 58 5 #[.string ⟨#[]⟩, .int .i64 0, .int .i64 0, .int .i64 0, .slice none 0 0] := ⟨Tryz.underlying24, λ _ => ⟨by kernel_rfl, by kernel_rfl⟩, ⟨.agg #[.string ⟨#[]⟩, .int .i64 0, .int .i64 0, .int .i64 0, .slice none 0 0], λ _ => ⟨by kernel_rfl, by kernel_rfl⟩, rfl⟩, rfl, by decide⟩
theorem cW : By Tryz.prog 25 3 1 #[.int .i64 0] := ⟨Tryz.underlying25, λ _ => ⟨by kernel_rfl, by kernel_rfl⟩, ⟨.int .i64 0, λ _ => ⟨by kernel_rfl, by kernel_rfl⟩, rfl⟩, rfl, by decide⟩
theorem qb : By Tryz.prog 26 47 2 #[.int .i64 0, .int .i64 0] := ⟨Tryz.underlying26, λ _ => ⟨by kernel_rfl, by kernel_rfl⟩, ⟨.agg #[.int .i64 0, .int .i64 0], λ _ => ⟨by kernel_rfl, by kernel_rfl⟩, rfl⟩, rfl, by decide⟩
theorem agt : By Tryz.prog 103 125 6 #[.int .i64 0, .int .i64 0, .int .i64 0, .int .i64 0, .int .i64 0, .int .i64 0] := ⟨Tryz.underlying103, λ _ => ⟨by kernel_rfl, by kernel_rfl⟩, ⟨.agg #[.int .i64 0, .int .i64 0, .int .i64 0, .int .i64 0, .int .i64 0, .int .i64 0], λ _ => ⟨by kernel_rfl, by kernel_rfl⟩, rfl⟩, rfl, by decide⟩
theorem agu : By Tryz.prog 135 25 1 #[.slice none 0 0] := ⟨Tryz.underlying135, λ _ => ⟨by kernel_rfl, by kernel_rfl⟩, ⟨.slice none 0 0, λ _ => ⟨by kernel_rfl, by kernel_rfl⟩, rfl⟩, rfl, by decide⟩
theorem ag5 : aZ Tryz.prog 18 := ⟨⟨Tryz.f18, Tryz.func18, by decide +kernel, rfl⟩⟩
theorem NR : aZ Tryz.prog 19 := ⟨⟨Tryz.f19, Tryz.func19, by decide +kernel, rfl⟩⟩
theorem ahf : aZ Tryz.prog 20 := ⟨⟨Tryz.f20, Tryz.func20, by decide +kernel, rfl⟩⟩
theorem NV : aZ Tryz.prog 22 := ⟨⟨Tryz.f22, Tryz.func22, by decide +kernel, rfl⟩⟩
theorem NW : aZ Tryz.prog 23 := ⟨⟨Tryz.f23, Tryz.func23, by decide +kernel, rfl⟩⟩
theorem NY : aZ Tryz.prog 25 := ⟨⟨Tryz.f25, Tryz.func25, by decide +kernel, rfl⟩⟩
theorem aho : aZ Tryz.prog 27 := ⟨⟨Tryz.f27, Tryz.func27, by decide +kernel, rfl⟩⟩
theorem ahp : aZ Tryz.prog 29 := ⟨⟨Tryz.f29, Tryz.func29, by decide +kernel, rfl⟩⟩
theorem ahq : aZ Tryz.prog 31 := ⟨⟨Tryz.f31, Tryz.func31, by decide +kernel, rfl⟩⟩
theorem adk : aZ Tryz.prog 33 := ⟨⟨Tryz.f33, Tryz.func33, by decide +kernel, rfl⟩⟩
theorem ahr : aZ Tryz.prog 35 := ⟨⟨Tryz.f35, Tryz.func35, by decide +kernel, rfl⟩⟩
theorem aC8 : aZ Tryz.prog 37 := ⟨⟨Tryz.f37, Tryz.func37, by decide +kernel, rfl⟩⟩
theorem Vh : aZ Tryz.prog 38 := ⟨⟨Tryz.f38, Tryz.func38, by decide +kernel, rfl⟩⟩
theorem XL : aZ Tryz.prog 40 := ⟨⟨Tryz.f40, Tryz.func40, by decide +kernel, rfl⟩⟩
theorem ahs : aZ Tryz.prog 42 := ⟨⟨Tryz.f42, Tryz.func42, by decide +kernel, rfl⟩⟩
theorem Vi : aZ Tryz.prog 43 := ⟨⟨Tryz.f43, Tryz.func43, by decide +kernel, rfl⟩⟩
theorem HS : aZ Tryz.prog 44 := ⟨⟨Tryz.f44, Tryz.func44, by decide +kernel, rfl⟩⟩
theorem DQ : aZ Tryz.prog 45 := ⟨⟨Tryz.f45, Tryz.func45, by decide +kernel, rfl⟩⟩
theorem adl : aZ Tryz.prog 46 := ⟨⟨Tryz.f46, Tryz.func46, by decide +kernel, rfl⟩⟩
theorem HT : aZ Tryz.prog 47 := ⟨⟨Tryz.f47, Tryz.func47, by decide +kernel, rfl⟩⟩
theorem aht : aZ Tryz.prog 50 := ⟨⟨Tryz.f50, Tryz.func50, by decide +kernel, rfl⟩⟩
theorem ahu : aZ Tryz.prog 53 := ⟨⟨Tryz.f53, Tryz.func53, by decide +kernel, rfl⟩⟩
theorem XM : aZ Tryz.prog 55 := ⟨⟨Tryz.f55, Tryz.func55, by decide +kernel, rfl⟩⟩
theorem XN : aZ Tryz.prog 56 := ⟨⟨Tryz.f56, Tryz.func56, by decide +kernel, rfl⟩⟩
theorem rD : aZ Tryz.prog 58 := ⟨⟨Tryz.f58, Tryz.func58, by decide +kernel, rfl⟩⟩
theorem NZ : aZ Tryz.prog 60 := ⟨⟨Tryz.f60, Tryz.func60, by decide +kernel, rfl⟩⟩
theorem ahv : aZ Tryz.prog 61 := ⟨⟨Tryz.f61, Tryz.func61, by decide +kernel, rfl⟩⟩
theorem ahw : aZ Tryz.prog 64 := ⟨⟨Tryz.f64, Tryz.func64, by decide +kernel, rfl⟩⟩
theorem ahx : aZ Tryz.prog 66 := ⟨⟨Tryz.f66, Tryz.func66, by decide +kernel, rfl⟩⟩
theorem ahy : aZ Tryz.prog 69 := ⟨⟨Tryz.f69, Tryz.func69, by decide +kernel, rfl⟩⟩
theorem ahz : aZ Tryz.prog 71 := ⟨⟨Tryz.f71, Tryz.func71, by decide +kernel, rfl⟩⟩
theorem N0 : aZ Tryz.prog 72 := ⟨⟨Tryz.f72, Tryz.func72, by decide +kernel, rfl⟩⟩
theorem tZ : aZ Tryz.prog 83 := ⟨⟨Tryz.f83, Tryz.func83, by decide +kernel, rfl⟩⟩
theorem ahA : aZ Tryz.prog 87 := ⟨⟨Tryz.f87, Tryz.func87, by decide +kernel, rfl⟩⟩
theorem BU : aZ Tryz.prog 88 := ⟨⟨Tryz.f88, Tryz.func88, by decide +kernel, rfl⟩⟩
theorem od : aZ Tryz.prog 89 := ⟨⟨Tryz.f89, Tryz.func89, by decide +kernel, rfl⟩⟩
theorem EE : aZ Tryz.prog 90 := ⟨⟨Tryz.f90, Tryz.func90, by decide +kernel, rfl⟩⟩
theorem Jj : aZ Tryz.prog 91 := ⟨⟨Tryz.f91, Tryz.func91, by decide +kernel, rfl⟩⟩
theorem N1 : aZ Tryz.prog 92 := ⟨⟨Tryz.f92, Tryz.func92, by decide +kernel, rfl⟩⟩
theorem fX : aZ Tryz.prog 93 := ⟨⟨Tryz.f93, Tryz.func93, by decide +kernel, rfl⟩⟩
theorem N2 : aZ Tryz.prog 94 := ⟨⟨Tryz.f94, Tryz.func94, by decide +kernel, rfl⟩⟩
theorem ahB : aZ Tryz.prog 98 := ⟨⟨Tryz.f98, Tryz.func98, by decide +kernel, rfl⟩⟩
theorem o5 : aZ Tryz.prog 99 := ⟨⟨Tryz.f99, Tryz.func99, by decide +kernel, rfl⟩⟩
theorem XA : aZ Tryz.prog 100 := ⟨⟨Tryz.f100, Tryz.func100, by decide +kernel, rfl⟩⟩
theorem agx : aZ Tryz.prog 101 := ⟨⟨Tryz.f101, Tryz.func101, by decide +kernel, rfl⟩⟩
theorem NF : aZ Tryz.prog 102 := ⟨⟨Tryz.f102, Tryz.func102, by decide +kernel, rfl⟩⟩
theorem NG : aZ Tryz.prog 103 := ⟨⟨Tryz.f103, Tryz.func103, by decide +kernel, rfl⟩⟩
theorem vU : aZ Tryz.prog 104 := ⟨⟨Tryz.f104, Tryz.func104, by decide +kernel, rfl⟩⟩
theorem NH : aZ Tryz.prog 108 := ⟨⟨Tryz.f108, Tryz.func108, by decide +kernel, rfl⟩⟩
theorem agy : aZ Tryz.prog 110 := ⟨⟨Tryz.f110, Tryz.func110, by decide +kernel, rfl⟩⟩
theorem NI : aZ Tryz.prog 112 := ⟨⟨Tryz.f112, Tryz.func112, by decide +kernel, rfl⟩⟩
theorem agz : aZ Tryz.prog 113 := ⟨⟨Tryz.f113, Tryz.func113, by decide +kernel, rfl⟩⟩
theorem NJ : aZ Tryz.prog 117 := ⟨⟨Tryz.f117, Tryz.func117, by decide +kernel, rfl⟩⟩
theorem NK : aZ Tryz.prog 118 := ⟨⟨Tryz.f118, Tryz.func118, by decide +kernel, rfl⟩⟩
theorem NL : aZ Tryz.prog 120 := ⟨⟨Tryz.f120, Tryz.func120, by decide +kernel, rfl⟩⟩
theorem NM : aZ Tryz.prog 121 := ⟨⟨Tryz.f121, Tryz.func121, by decide +kernel, rfl⟩⟩
theorem XB : aZ Tryz.prog 122 := ⟨⟨Tryz.f122, Tryz.func122, by decide +kernel, rfl⟩⟩
theorem agA : aZ Tryz.prog 123 := ⟨⟨Tryz.f123, Tryz.func123, by decide +kernel, rfl⟩⟩
theorem XC : aZ Tryz.prog 124 := ⟨⟨Tryz.f124, Tryz.func124, by decide +kernel, rfl⟩⟩
theorem vV : aZ Tryz.prog 125 := ⟨⟨Tryz.f125, Tryz.func125, by decide +kernel, rfl⟩⟩
theorem agB : aZ Tryz.prog 126 := ⟨⟨Tryz.f126, Tryz.func126, by decide +kernel, rfl⟩⟩
theorem agC : aZ Tryz.prog 127 := ⟨⟨Tryz.f127, Tryz.func127, by decide +kernel, rfl⟩⟩
theorem XD : aZ Tryz.prog 128 := ⟨⟨Tryz.f128, Tryz.func128, by decide +kernel, rfl⟩⟩
theorem agD : aZ Tryz.prog 129 := ⟨⟨Tryz.f129, Tryz.func129, by decide +kernel, rfl⟩⟩
theorem NN : aZ Tryz.prog 130 := ⟨⟨Tryz.f130, Tryz.func130, by decide +kernel, rfl⟩⟩
theorem agE : aZ Tryz.prog 131 := ⟨⟨Tryz.f131, Tryz.func131, by decide +kernel, rfl⟩⟩
theorem NO : aZ Tryz.prog 132 := ⟨⟨Tryz.f132, Tryz.func132, by decide +kernel, rfl⟩⟩
theorem Jh : aZ Tryz.prog 133 := ⟨⟨Tryz.f133, Tryz.func133, by decide +kernel, rfl⟩⟩
theorem agF : aZ Tryz.prog 134 := ⟨⟨Tryz.f134, Tryz.func134, by decide +kernel, rfl⟩⟩
theorem agG : aZ Tryz.prog 135 := ⟨⟨Tryz.f135, Tryz.func135, by decide +kernel, rfl⟩⟩
theorem agH : aZ Tryz.prog 137 := ⟨⟨Tryz.f137, Tryz.func137, by decide +kernel, rfl⟩⟩
theorem XE : aZ Tryz.prog 143 := ⟨⟨Tryz.f143, Tryz.func143, by decide +kernel, rfl⟩⟩
theorem agI : aZ Tryz.prog 146 := ⟨⟨Tryz.f146, Tryz.func146, by decide +kernel, rfl⟩⟩
theorem agJ : aZ Tryz.prog 147 := ⟨⟨Tryz.f147, Tryz.func147, by decide +kernel, rfl⟩⟩
theorem agK : aZ Tryz.prog 148 := ⟨⟨Tryz.f148, Tryz.func148, by decide +kernel, rfl⟩⟩
theorem XF : aZ Tryz.prog 149 := ⟨⟨Tryz.f149, Tryz.func149, by decide +kernel, rfl⟩⟩
theorem agL : aZ Tryz.prog 150 := ⟨⟨Tryz.f150, Tryz.func150, by decide +kernel, rfl⟩⟩
theorem NP : aZ Tryz.prog 151 := ⟨⟨Tryz.f151, Tryz.func151, by decide +kernel, rfl⟩⟩
theorem tY : aZ Tryz.prog 152 := ⟨⟨Tryz.f152, Tryz.func152, by decide +kernel, rfl⟩⟩
theorem agM : aZ Tryz.prog 153 := ⟨⟨Tryz.f153, Tryz.func153, by decide +kernel, rfl⟩⟩
theorem qc : aZ Tryz.prog 154 := ⟨⟨Tryz.f154, Tryz.func154, by decide +kernel, rfl⟩⟩
theorem agN : aZ Tryz.prog 155 := ⟨⟨Tryz.f155, Tryz.func155, by decide +kernel, rfl⟩⟩
theorem agO : aZ Tryz.prog 156 := ⟨⟨Tryz.f156, Tryz.func156, by decide +kernel, rfl⟩⟩
theorem XG : aZ Tryz.prog 157 := ⟨⟨Tryz.f157, Tryz.func157, by decide +kernel, rfl⟩⟩
theorem XH : aZ Tryz.prog 158 := ⟨⟨Tryz.f158, Tryz.func158, by decide +kernel, rfl⟩⟩
theorem agP : aZ Tryz.prog 159 := ⟨⟨Tryz.f159, Tryz.func159, by decide +kernel, rfl⟩⟩
theorem BT : aZ Tryz.prog 160 := ⟨⟨Tryz.f160, Tryz.func160, by decide +kernel, rfl⟩⟩
theorem agQ : aZ Tryz.prog 161 := ⟨⟨Tryz.f161, Tryz.func161, by decide +kernel, rfl⟩⟩
theorem agR : aZ Tryz.prog 162 := ⟨⟨Tryz.f162, Tryz.func162, by decide +kernel, rfl⟩⟩
theorem agS : aZ Tryz.prog 163 := ⟨⟨Tryz.f163, Tryz.func163, by decide +kernel, rfl⟩⟩
theorem agT : aZ Tryz.prog 164 := ⟨⟨Tryz.f164, Tryz.func164, by decide +kernel, rfl⟩⟩
theorem agU : aZ Tryz.prog 165 := ⟨⟨Tryz.f165, Tryz.func165, by decide +kernel, rfl⟩⟩
theorem agV : aZ Tryz.prog 166 := ⟨⟨Tryz.f166, Tryz.func166, by decide +kernel, rfl⟩⟩
theorem agW : aZ Tryz.prog 167 := ⟨⟨Tryz.f167, Tryz.func167, by decide +kernel, rfl⟩⟩
theorem agX : aZ Tryz.prog 168 := ⟨⟨Tryz.f168, Tryz.func168, by decide +kernel, rfl⟩⟩
theorem NQ : aZ Tryz.prog 169 := ⟨⟨Tryz.f169, Tryz.func169, by decide +kernel, rfl⟩⟩
theorem XI : aZ Tryz.prog 170 := ⟨⟨Tryz.f170, Tryz.func170, by decide +kernel, rfl⟩⟩
theorem agY : aZ Tryz.prog 171 := ⟨⟨Tryz.f171, Tryz.func171, by decide +kernel, rfl⟩⟩
theorem XJ : aZ Tryz.prog 172 := ⟨⟨Tryz.f172, Tryz.func172, by decide +kernel, rfl⟩⟩
theorem agZ : aZ Tryz.prog 173 := ⟨⟨Tryz.f173, Tryz.func173, by decide +kernel, rfl⟩⟩
theorem ag0 : aZ Tryz.prog 174 := ⟨⟨Tryz.f174, Tryz.func174, by decide +kernel, rfl⟩⟩
theorem ag1 : aZ Tryz.prog 175 := ⟨⟨Tryz.f175, Tryz.func175, by decide +kernel, rfl⟩⟩
theorem Ji : aZ Tryz.prog 176 := ⟨⟨Tryz.f176, Tryz.func176, by decide +kernel, rfl⟩⟩
theorem ag2 : aZ Tryz.prog 177 := ⟨⟨Tryz.f177, Tryz.func177, by decide +kernel, rfl⟩⟩
theorem ag3 : aZ Tryz.prog 178 := ⟨⟨Tryz.f178, Tryz.func178, by decide +kernel, rfl⟩⟩
theorem ag4 : aZ Tryz.prog 179 := ⟨⟨Tryz.f179, Tryz.func179, by decide +kernel, rfl⟩⟩
theorem ag6 : aZ Tryz.prog 180 := ⟨⟨Tryz.f180, Tryz.func180, by decide +kernel, rfl⟩⟩
theorem ag7 : aZ Tryz.prog 181 := ⟨⟨Tryz.f181, Tryz.func181, by decide +kernel, rfl⟩⟩
theorem ag8 : aZ Tryz.prog 182 := ⟨⟨Tryz.f182, Tryz.func182, by decide +kernel, rfl⟩⟩
theorem nu : aZ Tryz.prog 183 := ⟨⟨Tryz.f183, Tryz.func183, by decide +kernel, rfl⟩⟩
theorem ag9 : aZ Tryz.prog 184 := ⟨⟨Tryz.f184, Tryz.func184, by decide +kernel, rfl⟩⟩
theorem aha : aZ Tryz.prog 185 := ⟨⟨Tryz.f185, Tryz.func185, by decide +kernel, rfl⟩⟩
theorem ahb : aZ Tryz.prog 187 := ⟨⟨Tryz.f187, Tryz.func187, by decide +kernel, rfl⟩⟩
theorem ahc : aZ Tryz.prog 188 := ⟨⟨Tryz.f188, Tryz.func188, by decide +kernel, rfl⟩⟩
theorem XK : aZ Tryz.prog 189 := ⟨⟨Tryz.f189, Tryz.func189, by decide +kernel, rfl⟩⟩
theorem ahd : aZ Tryz.prog 190 := ⟨⟨Tryz.f190, Tryz.func190, by decide +kernel, rfl⟩⟩
theorem ahe : aZ Tryz.prog 191 := ⟨⟨Tryz.f191, Tryz.func191, by decide +kernel, rfl⟩⟩
theorem NS : aZ Tryz.prog 192 := ⟨⟨Tryz.f192, Tryz.func192, by decide +kernel, rfl⟩⟩
theorem NT : aZ Tryz.prog 193 := ⟨⟨Tryz.f193, Tryz.func193, by decide +kernel, rfl⟩⟩
theorem NU : aZ Tryz.prog 194 := ⟨⟨Tryz.f194, Tryz.func194, by decide +kernel, rfl⟩⟩
theorem ahg : aZ Tryz.prog 211 := ⟨⟨Tryz.f211, Tryz.func211, by decide +kernel, rfl⟩⟩
theorem ahh : aZ Tryz.prog 212 := ⟨⟨Tryz.f212, Tryz.func212, by decide +kernel, rfl⟩⟩
theorem ahi : aZ Tryz.prog 213 := ⟨⟨Tryz.f213, Tryz.func213, by decide +kernel, rfl⟩⟩
theorem ahj : aZ Tryz.prog 214 := ⟨⟨Tryz.f214, Tryz.func214, by decide +kernel, rfl⟩⟩
theorem ahk : aZ Tryz.prog 215 := ⟨⟨Tryz.f215, Tryz.func215, by decide +kernel, rfl⟩⟩
theorem ahl : aZ Tryz.prog 216 := ⟨⟨Tryz.f216, Tryz.func216, by decide +kernel, rfl⟩⟩
theorem ahm : aZ Tryz.prog 217 := ⟨⟨Tryz.f217, Tryz.func217, by decide +kernel, rfl⟩⟩
theorem ahn : aZ Tryz.prog 218 := ⟨⟨Tryz.f218, Tryz.func218, by decide +kernel, rfl⟩⟩
end Go.Proofs.YtabamagholjdcaaGreatDoor
namespace Go.Proofs.YtabamagholjdcaaGreatDoor
open Go.Lg Go.Proofs
abbrev iv (z : Int) : Value := .int .i64 z
theorem zW {P : Program} {e : Nat} (h : (P.info? e).any (λ i => decide (i.bytes ≤ 65536)) = true) : ∃ i, P.info? e = some i ∧ i.bytes ≤ 65536 := by
 cases hi : P.info? e with
 | none => rw [hi] at h; cases h
 | some i => rw [hi] at h; exact ⟨i, rfl, by simpa using h⟩
structure Reach where
 ao : Int
 ax : Int
def VA : cn Reach := λ _ x es => es = [iv x.ao, iv x.ax]
instance : CM VA := ⟨λ hR h => by obtain rfl := h; exact rfl, λ h => by obtain rfl := h; simp [Value.oneCell']⟩
structure cG where
 Name : ByteArray
 dg : Int
 Weight : Reach
 On : (List Int)
def bI : cn cG := λ R x es => ∃ vi, az (CI .i64) 1 R vi x.On ∧ es = [.string x.Name, iv x.dg, iv x.Weight.ao, iv x.Weight.ax, vi]
instance : CM bI := ⟨λ hR h => by obtain ⟨vi, zp, rfl⟩ := h; exact ⟨_, zp.mono hR, rfl⟩, λ h => by obtain ⟨vi, zp, rfl⟩ := h; intro u hu; simp only [List.mem_cons, List.not_mem_nil, or_false] at hu; rcases hu with rfl | rfl | rfl | rfl | rfl <;> first | rfl | exact zp.one⟩
structure cF where
 dN : Int
 dX : Int
def bB : cn cF := λ _ x es => es = [iv x.dN, iv x.dX]
instance : CM bB := ⟨λ hR h => by obtain rfl := h; exact rfl, λ h => by obtain rfl := h; simp [Value.oneCell']⟩
structure av where
 aD : Int
 af : Reach
 au : (List cG)
 Out : (List Int)
 aU : (List cF)
def Mq : cn av := λ R x es => ∃ Lt vi Lu, az bI 5 R Lt x.au ∧ az (CI .i64) 1 R vi x.Out ∧ az bB 2 R Lu x.aU ∧ es = [iv x.aD, iv x.af.ao, iv x.af.ax, Lt, vi, Lu]
instance : CM Mq := ⟨λ hR h => by obtain ⟨Lt, vi, Lu, Qb, zp, Qc, rfl⟩ := h; exact ⟨_, _, _, Qb.mono hR, zp.mono hR, Qc.mono hR, rfl⟩, λ h => by obtain ⟨Lt, vi, Lu, Qb, zp, Qc, rfl⟩ := h; intro u hu; simp only [List.mem_cons, List.not_mem_nil, or_false] at hu; rcases hu with rfl | rfl | rfl | rfl | rfl | rfl <;> first | rfl | exact Qb.one | exact zp.one | exact Qc.one⟩
structure bn where
 fq : Int
 weights : (List Int)
def fM : cn bn := λ _ x es => x.weights.length = 5 ∧ es = ([iv x.fq] ++ (x.weights.map (Value.int .i64) ++ []))
instance : CM fM := ⟨λ hR h => by obtain ⟨aaJ, rfl⟩ := h; exact ⟨aaJ, rfl⟩, λ h => by obtain ⟨aaJ, rfl⟩ := h; simp [Value.oneCell']⟩
structure cR where
 book : av
 dI : (List bn)
 nR : fO
structure ao where
 Uj : (List Int)
 number : Int
 some_ : Bool
structure gM where
 af : Int
 eX : (List Int)
theorem EL {α : Type} {l : List α} (h : l.length = 5) : ∃ a b c d e, l = [a, b, c, d, e] := by
 match l, h with
 | [a, b, c, d, e], _ => exact ⟨a, b, c, d, e, rfl⟩
theorem Oh : Tryz.prog.eqGuardType Tryz.prog.depth 23 = false := by decide +kernel
def BW (x y : Reach) : Bool := (x.ao == y.ao && (x.ax == y.ax && true))
theorem N5 (x y : Reach) : an Tryz.prog (Op.equal 23 (.agg #[iv x.ao, iv x.ax]) (.agg #[iv y.ao, iv y.ax])) (BW x y) := Uq (d := 9999) Tryz.underlying23 (by decide +kernel) (.cons rfl (λ _ => ⟨by kernel_rfl, by kernel_rfl⟩) (λ _ => ⟨by kernel_rfl, by kernel_rfl⟩) (Dg Tryz.underlying3) (.cons rfl (λ _ => ⟨by kernel_rfl, by kernel_rfl⟩) (λ _ => ⟨by kernel_rfl, by kernel_rfl⟩) (Dg Tryz.underlying3) .nil))
theorem aiG : Tryz.prog.eqGuardType Tryz.prog.depth 47 = false := by decide +kernel
def N4 (x y : cF) : Bool := (x.dN == y.dN && (x.dX == y.dX && true))
theorem ahD (x y : cF) : an Tryz.prog (Op.equal 47 (.agg #[iv x.dN, iv x.dX]) (.agg #[iv y.dN, iv y.dX])) (N4 x y) := Uq (d := 9999) Tryz.underlying47 (by decide +kernel) (.cons rfl (λ _ => ⟨by kernel_rfl, by kernel_rfl⟩) (λ _ => ⟨by kernel_rfl, by kernel_rfl⟩) (Dg Tryz.underlying3) (.cons rfl (λ _ => ⟨by kernel_rfl, by kernel_rfl⟩) (λ _ => ⟨by kernel_rfl, by kernel_rfl⟩) (Dg Tryz.underlying45) .nil))
theorem Wy : yw Tryz.prog 24 58 5 := ⟨Tryz.underlying24, λ _ => ⟨by kernel_rfl, by kernel_rfl⟩, zW (by decide +kernel), ⟨.agg #[.string ⟨#[]⟩, .int .i64 0, .int .i64 0, .int .i64 0, .slice none 0 0], λ _ => ⟨by kernel_rfl, by kernel_rfl⟩, rfl⟩⟩
theorem iZ : yw Tryz.prog 25 3 1 := ⟨Tryz.underlying25, λ _ => ⟨by kernel_rfl, by kernel_rfl⟩, zW (by decide +kernel), ⟨.int .i64 0, λ _ => ⟨by kernel_rfl, by kernel_rfl⟩, rfl⟩⟩
theorem oY : yw Tryz.prog 26 47 2 := ⟨Tryz.underlying26, λ _ => ⟨by kernel_rfl, by kernel_rfl⟩, zW (by decide +kernel), ⟨.agg #[.int .i64 0, .int .i64 0], λ _ => ⟨by kernel_rfl, by kernel_rfl⟩, rfl⟩⟩
theorem afE : yw Tryz.prog 103 125 6 := ⟨Tryz.underlying103, λ _ => ⟨by kernel_rfl, by kernel_rfl⟩, zW (by decide +kernel), ⟨.agg #[.int .i64 0, .int .i64 0, .int .i64 0, .int .i64 0, .int .i64 0, .int .i64 0], λ _ => ⟨by kernel_rfl, by kernel_rfl⟩, rfl⟩⟩
theorem afF : yw Tryz.prog 135 25 1 := ⟨Tryz.underlying135, λ _ => ⟨by kernel_rfl, by kernel_rfl⟩, zW (by decide +kernel), ⟨.slice none 0 0, λ _ => ⟨by kernel_rfl, by kernel_rfl⟩, rfl⟩⟩
theorem WG : (Array.range (0 * 5)).map ((#[.string ⟨#[]⟩, .int .i64 0, .int .i64 0, .int .i64 0, .slice none 0 0] : Array Value)[· % (#[.string ⟨#[]⟩, .int .i64 0, .int .i64 0, .int .i64 0, .slice none 0 0] : Array Value).size]!) = #[] := by kernel_rfl
theorem afP : (Array.range (3 * 5)).map ((#[.string ⟨#[]⟩, .int .i64 0, .int .i64 0, .int .i64 0, .slice none 0 0] : Array Value)[· % (#[.string ⟨#[]⟩, .int .i64 0, .int .i64 0, .int .i64 0, .slice none 0 0] : Array Value).size]!) = #[.string ⟨#[]⟩, .int .i64 0, .int .i64 0, .int .i64 0, .slice none 0 0, .string ⟨#[]⟩, .int .i64 0, .int .i64 0, .int .i64 0, .slice none 0 0, .string ⟨#[]⟩, .int .i64 0, .int .i64 0, .int .i64 0, .slice none 0 0] := by kernel_rfl
theorem M9 : (Array.range (0 * 1)).map ((#[.int .i64 0] : Array Value)[· % (#[.int .i64 0] : Array Value).size]!) = #[] := by kernel_rfl
theorem en : (Array.range (1 * 1)).map ((#[.int .i64 0] : Array Value)[· % (#[.int .i64 0] : Array Value).size]!) = #[.int .i64 0] := by kernel_rfl
theorem IY : (Array.range (2 * 1)).map ((#[.int .i64 0] : Array Value)[· % (#[.int .i64 0] : Array Value).size]!) = #[.int .i64 0, .int .i64 0] := by kernel_rfl
theorem BM : (Array.range (3 * 1)).map ((#[.int .i64 0] : Array Value)[· % (#[.int .i64 0] : Array Value).size]!) = #[.int .i64 0, .int .i64 0, .int .i64 0] := by kernel_rfl
theorem Na : (Array.range (0 * 2)).map ((#[.int .i64 0, .int .i64 0] : Array Value)[· % (#[.int .i64 0, .int .i64 0] : Array Value).size]!) = #[] := by kernel_rfl
theorem vT : (Array.range (1 * 2)).map ((#[.int .i64 0, .int .i64 0] : Array Value)[· % (#[.int .i64 0, .int .i64 0] : Array Value).size]!) = #[.int .i64 0, .int .i64 0] := by kernel_rfl
theorem afN : (Array.range (1 * 6)).map ((#[.int .i64 0, .int .i64 0, .int .i64 0, .int .i64 0, .int .i64 0, .int .i64 0] : Array Value)[· % (#[.int .i64 0, .int .i64 0, .int .i64 0, .int .i64 0, .int .i64 0, .int .i64 0] : Array Value).size]!) = #[.int .i64 0, .int .i64 0, .int .i64 0, .int .i64 0, .int .i64 0, .int .i64 0] := by kernel_rfl
theorem afO : (Array.range (1 * 1)).map ((#[.slice none 0 0] : Array Value)[· % (#[.slice none 0 0] : Array Value).size]!) = #[.slice none 0 0] := by kernel_rfl
abbrev fG (R : aA) : Prop := aS R [] 0 0 [.func (.func 211) #[] #[], .func (.func 212) #[] #[], .func (.func 213) #[] #[], .func (.func 214) #[] #[]]
theorem fG.mono {R R' : aA} (h : fG R) (hR : aO R R') : fG R' := aS.up (H := []) h hR
theorem fG.any {R : aA} {H : ak} (h : fG R) : aS R H 0 0 [.func (.func 211) #[] #[], .func (.func 212) #[] #[], .func (.func 213) #[] #[], .func (.func 214) #[] #[]] := aS.any h
set_option maxRecDepth 100000
def TJ : Nat → Nat → Option Nat
 | 23, 0 => some 0
 | 23, 1 => some 1
 | 28, 0 => some 0
 | 28, 1 => some 1
 | 28, 2 => some 3
 | 28, 3 => some 4
 | 28, 4 => some 5
 | 47, 0 => some 0
 | 47, 1 => some 1
 | 58, 0 => some 0
 | 58, 1 => some 1
 | 58, 2 => some 2
 | 58, 3 => some 4
 | 66, 0 => some 0
 | 66, 1 => some 1
 | 102, 0 => some 0
 | 106, 0 => some 0
 | 106, 1 => some 6
 | 106, 2 => some 7
 | 125, 0 => some 0
 | 125, 1 => some 1
 | 138, 0 => some 0
 | 138, 1 => some 1
 | 138, 2 => some 2
 | 170, 0 => some 0
 | 170, 1 => some 5
 | _, _ => none
theorem azF : ∀ s f n, TJ s f = some n → ff Tryz.prog s f n := by
 intro s f n h
 unfold TJ at h
 split at h
 ·cases h; exact aik
 ·cases h; exact ail
 ·cases h; exact aim
 ·cases h; exact ain
 ·cases h; exact Yl
 ·cases h; exact aio
 ·cases h; exact aip
 ·cases h; exact aiq
 ·cases h; exact air
 ·cases h; exact ais
 ·cases h; exact ait
 ·cases h; exact aiu
 ·cases h; exact aiv
 ·cases h; exact aiw
 ·cases h; exact aix
 ·cases h; exact Yg
 ·cases h; exact Yh
 ·cases h; exact aid
 ·cases h; exact Yi
 ·cases h; exact aie
 ·cases h; exact aif
 ·cases h; exact aih
 ·cases h; exact aii
 ·cases h; exact aij
 ·cases h; exact Yj
 ·cases h; exact Yk
 ·cases h
instance : rJ Tryz.prog := ⟨TJ, azF⟩
theorem ahC (a b c d : Int) : an Tryz.prog (Op.equal 145 (eg a b) (eg c d)) (a == c && (b == d && true)) :=
 Uq (d := 9999) Tryz.underlying145 (by decide +kernel) (.cons rfl (λ _ => ⟨by kernel_rfl, by kernel_rfl⟩) (λ _ => ⟨by kernel_rfl, by kernel_rfl⟩) (Dg Tryz.underlying3) (.cons rfl (λ _ => ⟨by kernel_rfl, by kernel_rfl⟩) (λ _ => ⟨by kernel_rfl, by kernel_rfl⟩) (Dg Tryz.underlying3) .nil))
theorem G0 : Ee Tryz.prog 143 145 3 := ⟨Tryz.underlying143, ⟨_, Tryz.underlying145, λ a b => by cases a <;> rfl⟩, ahC, λ e a b _ => ⟨by kernel_rfl, by kernel_rfl⟩, λ _ => ⟨by kernel_rfl, by kernel_rfl⟩⟩
theorem awp {a b : List Bool} (hx : a.length = 5) (hy : b.length = 5) : an Tryz.prog (Op.equal 112 (lJ a) (lJ b)) (a == b) := by
 obtain ⟨a0, a1, a2, a3, a4, rfl⟩ := EL hx
 obtain ⟨b0, b1, b2, b3, b4, rfl⟩ := EL hy
 have hw : ([a0, a1, a2, a3, a4] == [b0, b1, b2, b3, b4]) = ((a0 == b0) && ((a1 == b1) && ((a2 == b2) && ((a3 == b3) && ((a4 == b4) && true))))) := by simp
 rw [hw]
 refine aBP (d := 9999) (n := 1) Tryz.underlying112 (λ _ => ⟨by kernel_rfl, by kernel_rfl⟩) ?_
 refine .cons (i := 0) (rest := [1, 2, 3, 4]) (λ _ => ⟨by kernel_rfl, by kernel_rfl⟩) (λ _ => ⟨by kernel_rfl, by kernel_rfl⟩) (Ht Tryz.underlying4) ?_
 refine .cons (i := 1) (rest := [2, 3, 4]) (λ _ => ⟨by kernel_rfl, by kernel_rfl⟩) (λ _ => ⟨by kernel_rfl, by kernel_rfl⟩) (Ht Tryz.underlying4) ?_
 refine .cons (i := 2) (rest := [3, 4]) (λ _ => ⟨by kernel_rfl, by kernel_rfl⟩) (λ _ => ⟨by kernel_rfl, by kernel_rfl⟩) (Ht Tryz.underlying4) ?_
 refine .cons (i := 3) (rest := [4]) (λ _ => ⟨by kernel_rfl, by kernel_rfl⟩) (λ _ => ⟨by kernel_rfl, by kernel_rfl⟩) (Ht Tryz.underlying4) ?_
 exact .cons (i := 4) (rest := []) (λ _ => ⟨by kernel_rfl, by kernel_rfl⟩) (λ _ => ⟨by kernel_rfl, by kernel_rfl⟩) (Ht Tryz.underlying4) .nil
theorem awo (e : Bool) {a : List Bool} (hx : a.length = 5) : an Tryz.prog (Instr.checkKey e 10000 112 (lJ a)) () := by
 obtain ⟨a0, a1, a2, a3, a4, rfl⟩ := EL hx
 exact λ _ => ⟨by kernel_rfl, by kernel_rfl⟩
theorem TD : BG Tryz.prog 104 112 3 := ⟨Tryz.underlying104, ⟨_, Tryz.underlying112, λ a b => by cases a <;> rfl⟩, λ _ _ => awp, λ e _ => awo e, λ _ => ⟨by kernel_rfl, by kernel_rfl⟩⟩
theorem mixed : Tryz.prog.follows .mixedOrders = true := by kernel_rfl
end Go.Proofs.YtabamagholjdcaaGreatDoor
