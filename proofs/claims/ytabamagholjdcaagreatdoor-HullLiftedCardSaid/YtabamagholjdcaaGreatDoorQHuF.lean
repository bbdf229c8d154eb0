/- Closed facts on the program; the structs of the models. Conditions: none. -/
import Derived.Test.YtabamagholjdcaaGreatDoorQLgC
import Derived.Test.YtabamagholjdcaaGreatDoorProg
import Derived.KernelRfl
namespace Go.Proofs.YtabamagholjdcaaGreatDoor
open Go.Lg Go.Proofs
theorem one3 : OneTy Tryz.prog 3 := ⟨fun _ => ⟨by kernel_rfl, by kernel_rfl⟩, fun _ => ⟨by kernel_rfl, by kernel_rfl⟩⟩
theorem one4 : OneTy Tryz.prog 4 := ⟨fun _ => ⟨by kernel_rfl, by kernel_rfl⟩, fun _ => ⟨by kernel_rfl, by kernel_rfl⟩⟩
theorem one5 : OneTy Tryz.prog 5 := ⟨fun _ => ⟨by kernel_rfl, by kernel_rfl⟩, fun _ => ⟨by kernel_rfl, by kernel_rfl⟩⟩
theorem one9 : OneTy Tryz.prog 9 := ⟨fun _ => ⟨by kernel_rfl, by kernel_rfl⟩, fun _ => ⟨by kernel_rfl, by kernel_rfl⟩⟩
theorem one24 : OneTy Tryz.prog 24 := ⟨fun _ => ⟨by kernel_rfl, by kernel_rfl⟩, fun _ => ⟨by kernel_rfl, by kernel_rfl⟩⟩
theorem one25 : OneTy Tryz.prog 25 := ⟨fun _ => ⟨by kernel_rfl, by kernel_rfl⟩, fun _ => ⟨by kernel_rfl, by kernel_rfl⟩⟩
theorem one26 : OneTy Tryz.prog 26 := ⟨fun _ => ⟨by kernel_rfl, by kernel_rfl⟩, fun _ => ⟨by kernel_rfl, by kernel_rfl⟩⟩
theorem one31 : OneTy Tryz.prog 31 := ⟨fun _ => ⟨by kernel_rfl, by kernel_rfl⟩, fun _ => ⟨by kernel_rfl, by kernel_rfl⟩⟩
theorem one45 : OneTy Tryz.prog 45 := ⟨fun _ => ⟨by kernel_rfl, by kernel_rfl⟩, fun _ => ⟨by kernel_rfl, by kernel_rfl⟩⟩
theorem one103 : OneTy Tryz.prog 103 := ⟨fun _ => ⟨by kernel_rfl, by kernel_rfl⟩, fun _ => ⟨by kernel_rfl, by kernel_rfl⟩⟩
theorem one104 : OneTy Tryz.prog 104 := ⟨fun _ => ⟨by kernel_rfl, by kernel_rfl⟩, fun _ => ⟨by kernel_rfl, by kernel_rfl⟩⟩
theorem one109 : OneTy Tryz.prog 109 := ⟨fun _ => ⟨by kernel_rfl, by kernel_rfl⟩, fun _ => ⟨by kernel_rfl, by kernel_rfl⟩⟩
theorem one130 : OneTy Tryz.prog 130 := ⟨fun _ => ⟨by kernel_rfl, by kernel_rfl⟩, fun _ => ⟨by kernel_rfl, by kernel_rfl⟩⟩
theorem one157 : OneTy Tryz.prog 157 := ⟨fun _ => ⟨by kernel_rfl, by kernel_rfl⟩, fun _ => ⟨by kernel_rfl, by kernel_rfl⟩⟩
theorem one167 : OneTy Tryz.prog 167 := ⟨fun _ => ⟨by kernel_rfl, by kernel_rfl⟩, fun _ => ⟨by kernel_rfl, by kernel_rfl⟩⟩
theorem one168 : OneTy Tryz.prog 168 := ⟨fun _ => ⟨by kernel_rfl, by kernel_rfl⟩, fun _ => ⟨by kernel_rfl, by kernel_rfl⟩⟩
theorem one174 : OneTy Tryz.prog 174 := ⟨fun _ => ⟨by kernel_rfl, by kernel_rfl⟩, fun _ => ⟨by kernel_rfl, by kernel_rfl⟩⟩
theorem one175 : OneTy Tryz.prog 175 := ⟨fun _ => ⟨by kernel_rfl, by kernel_rfl⟩, fun _ => ⟨by kernel_rfl, by kernel_rfl⟩⟩
theorem one179 : OneTy Tryz.prog 179 := ⟨fun _ => ⟨by kernel_rfl, by kernel_rfl⟩, fun _ => ⟨by kernel_rfl, by kernel_rfl⟩⟩
theorem agg23 : AggTy Tryz.prog 23 2 := ⟨fun _ => ⟨by kernel_rfl, by kernel_rfl⟩, fun _ => ⟨by kernel_rfl, by kernel_rfl⟩⟩
theorem agg28 : AggTy Tryz.prog 28 6 := ⟨fun _ => ⟨by kernel_rfl, by kernel_rfl⟩, fun _ => ⟨by kernel_rfl, by kernel_rfl⟩⟩
theorem agg47 : AggTy Tryz.prog 47 2 := ⟨fun _ => ⟨by kernel_rfl, by kernel_rfl⟩, fun _ => ⟨by kernel_rfl, by kernel_rfl⟩⟩
theorem agg58 : AggTy Tryz.prog 58 5 := ⟨fun _ => ⟨by kernel_rfl, by kernel_rfl⟩, fun _ => ⟨by kernel_rfl, by kernel_rfl⟩⟩
theorem agg66 : AggTy Tryz.prog 66 2 := ⟨fun _ => ⟨by kernel_rfl, by kernel_rfl⟩, fun _ => ⟨by kernel_rfl, by kernel_rfl⟩⟩
theorem agg102 : AggTy Tryz.prog 102 6 := ⟨fun _ => ⟨by kernel_rfl, by kernel_rfl⟩, fun _ => ⟨by kernel_rfl, by kernel_rfl⟩⟩
theorem agg106 : AggTy Tryz.prog 106 8 := ⟨fun _ => ⟨by kernel_rfl, by kernel_rfl⟩, fun _ => ⟨by kernel_rfl, by kernel_rfl⟩⟩
theorem agg112 : AggTy Tryz.prog 112 5 := ⟨fun _ => ⟨by kernel_rfl, by kernel_rfl⟩, fun _ => ⟨by kernel_rfl, by kernel_rfl⟩⟩
theorem agg125 : AggTy Tryz.prog 125 6 := ⟨fun _ => ⟨by kernel_rfl, by kernel_rfl⟩, fun _ => ⟨by kernel_rfl, by kernel_rfl⟩⟩
theorem agg138 : AggTy Tryz.prog 138 3 := ⟨fun _ => ⟨by kernel_rfl, by kernel_rfl⟩, fun _ => ⟨by kernel_rfl, by kernel_rfl⟩⟩
theorem agg145 : AggTy Tryz.prog 145 2 := ⟨fun _ => ⟨by kernel_rfl, by kernel_rfl⟩, fun _ => ⟨by kernel_rfl, by kernel_rfl⟩⟩
theorem agg164 : AggTy Tryz.prog 164 4 := ⟨fun _ => ⟨by kernel_rfl, by kernel_rfl⟩, fun _ => ⟨by kernel_rfl, by kernel_rfl⟩⟩
theorem agg170 : AggTy Tryz.prog 170 6 := ⟨fun _ => ⟨by kernel_rfl, by kernel_rfl⟩, fun _ => ⟨by kernel_rfl, by kernel_rfl⟩⟩
theorem zero3 : ZeroTy Tryz.prog 3 #[.int .i64 0] := ⟨.int .i64 0, fun _ => ⟨by kernel_rfl, by kernel_rfl⟩, rfl⟩
theorem zero4 : ZeroTy Tryz.prog 4 #[.bool false] := ⟨.bool false, fun _ => ⟨by kernel_rfl, by kernel_rfl⟩, rfl⟩
theorem zero23 : ZeroTy Tryz.prog 23 #[.int .i64 0, .int .i64 0] := ⟨.agg #[.int .i64 0, .int .i64 0], fun _ => ⟨by kernel_rfl, by kernel_rfl⟩, rfl⟩
theorem zero25 : ZeroTy Tryz.prog 25 #[.slice none 0 0] := ⟨.slice none 0 0, fun _ => ⟨by kernel_rfl, by kernel_rfl⟩, rfl⟩
theorem zero28 : ZeroTy Tryz.prog 28 #[.int .i64 0, .int .i64 0, .int .i64 0, .slice none 0 0, .slice none 0 0, .slice none 0 0] := ⟨.agg #[.int .i64 0, .int .i64 0, .int .i64 0, .slice none 0 0, .slice none 0 0, .slice none 0 0], fun _ => ⟨by kernel_rfl, by kernel_rfl⟩, rfl⟩
theorem zero31 : ZeroTy Tryz.prog 31 #[.int .i64 0] := ⟨.int .i64 0, fun _ => ⟨by kernel_rfl, by kernel_rfl⟩, rfl⟩
theorem zero47 : ZeroTy Tryz.prog 47 #[.int .i64 0, .int .i64 0] := ⟨.agg #[.int .i64 0, .int .i64 0], fun _ => ⟨by kernel_rfl, by kernel_rfl⟩, rfl⟩
theorem zero58 : ZeroTy Tryz.prog 58 #[.string ⟨#[]⟩, .int .i64 0, .int .i64 0, .int .i64 0, .slice none 0 0] := ⟨.agg #[.string ⟨#[]⟩, .int .i64 0, .int .i64 0, .int .i64 0, .slice none 0 0], fun _ => ⟨by kernel_rfl, by kernel_rfl⟩, rfl⟩
theorem zero102 : ZeroTy Tryz.prog 102 #[.int .i64 0, .int .i64 0, .int .i64 0, .slice none 0 0, .slice none 0 0, .slice none 0 0] := ⟨.agg #[.int .i64 0, .int .i64 0, .int .i64 0, .slice none 0 0, .slice none 0 0, .slice none 0 0], fun _ => ⟨by kernel_rfl, by kernel_rfl⟩, rfl⟩
theorem zero106 : ZeroTy Tryz.prog 106 #[.int .i64 0, .int .i64 0, .int .i64 0, .slice none 0 0, .slice none 0 0, .slice none 0 0, .slice none 0 0, .map none] := ⟨.agg #[.int .i64 0, .int .i64 0, .int .i64 0, .slice none 0 0, .slice none 0 0, .slice none 0 0, .slice none 0 0, .map none], fun _ => ⟨by kernel_rfl, by kernel_rfl⟩, rfl⟩
theorem zero112 : ZeroTy Tryz.prog 112 #[.bool false, .bool false, .bool false, .bool false, .bool false] := ⟨.agg #[.bool false, .bool false, .bool false, .bool false, .bool false], fun _ => ⟨by kernel_rfl, by kernel_rfl⟩, rfl⟩
theorem zero125 : ZeroTy Tryz.prog 125 #[.int .i64 0, .int .i64 0, .int .i64 0, .int .i64 0, .int .i64 0, .int .i64 0] := ⟨.agg #[.int .i64 0, .int .i64 0, .int .i64 0, .int .i64 0, .int .i64 0, .int .i64 0], fun _ => ⟨by kernel_rfl, by kernel_rfl⟩, rfl⟩
theorem zero138 : ZeroTy Tryz.prog 138 #[.slice none 0 0, .int .i64 0, .bool false] := ⟨.agg #[.slice none 0 0, .int .i64 0, .bool false], fun _ => ⟨by kernel_rfl, by kernel_rfl⟩, rfl⟩
theorem zero145 : ZeroTy Tryz.prog 145 #[.int .i64 0, .int .i64 0] := ⟨.agg #[.int .i64 0, .int .i64 0], fun _ => ⟨by kernel_rfl, by kernel_rfl⟩, rfl⟩
theorem zero167 : ZeroTy Tryz.prog 167 #[.chan none] := ⟨.chan none, fun _ => ⟨by kernel_rfl, by kernel_rfl⟩, rfl⟩
theorem zero168 : ZeroTy Tryz.prog 168 #[.chan none] := ⟨.chan none, fun _ => ⟨by kernel_rfl, by kernel_rfl⟩, rfl⟩
theorem zero170 : ZeroTy Tryz.prog 170 #[.bool false, .bool false, .bool false, .bool false, .bool false, .int .i64 0] := ⟨.agg #[.bool false, .bool false, .bool false, .bool false, .bool false, .int .i64 0], fun _ => ⟨by kernel_rfl, by kernel_rfl⟩, rfl⟩
theorem zero175 : ZeroTy Tryz.prog 175 #[.nilFunc] := ⟨.nilFunc, fun _ => ⟨by kernel_rfl, by kernel_rfl⟩, rfl⟩
theorem zero179 : ZeroTy Tryz.prog 179 #[.nilFunc] := ⟨.nilFunc, fun _ => ⟨by kernel_rfl, by kernel_rfl⟩, rfl⟩
theorem field23_0 : FieldAt Tryz.prog 23 0 0 := fun _ _ _ => ⟨by kernel_rfl, by kernel_rfl⟩
theorem field23_1 : FieldAt Tryz.prog 23 1 1 := fun _ _ _ => ⟨by kernel_rfl, by kernel_rfl⟩
theorem field28_0 : FieldAt Tryz.prog 28 0 0 := fun _ _ _ => ⟨by kernel_rfl, by kernel_rfl⟩
theorem field28_1 : FieldAt Tryz.prog 28 1 1 := fun _ _ _ => ⟨by kernel_rfl, by kernel_rfl⟩
theorem field28_2 : FieldAt Tryz.prog 28 2 3 := fun _ _ _ => ⟨by kernel_rfl, by kernel_rfl⟩
theorem field28_3 : FieldAt Tryz.prog 28 3 4 := fun _ _ _ => ⟨by kernel_rfl, by kernel_rfl⟩
theorem field28_4 : FieldAt Tryz.prog 28 4 5 := fun _ _ _ => ⟨by kernel_rfl, by kernel_rfl⟩
theorem field47_0 : FieldAt Tryz.prog 47 0 0 := fun _ _ _ => ⟨by kernel_rfl, by kernel_rfl⟩
theorem field47_1 : FieldAt Tryz.prog 47 1 1 := fun _ _ _ => ⟨by kernel_rfl, by kernel_rfl⟩
theorem field58_0 : FieldAt Tryz.prog 58 0 0 := fun _ _ _ => ⟨by kernel_rfl, by kernel_rfl⟩
theorem field58_1 : FieldAt Tryz.prog 58 1 1 := fun _ _ _ => ⟨by kernel_rfl, by kernel_rfl⟩
theorem field58_2 : FieldAt Tryz.prog 58 2 2 := fun _ _ _ => ⟨by kernel_rfl, by kernel_rfl⟩
theorem field58_3 : FieldAt Tryz.prog 58 3 4 := fun _ _ _ => ⟨by kernel_rfl, by kernel_rfl⟩
theorem field66_0 : FieldAt Tryz.prog 66 0 0 := fun _ _ _ => ⟨by kernel_rfl, by kernel_rfl⟩
theorem field66_1 : FieldAt Tryz.prog 66 1 1 := fun _ _ _ => ⟨by kernel_rfl, by kernel_rfl⟩
theorem field102_0 : FieldAt Tryz.prog 102 0 0 := fun _ _ _ => ⟨by kernel_rfl, by kernel_rfl⟩
theorem field106_0 : FieldAt Tryz.prog 106 0 0 := fun _ _ _ => ⟨by kernel_rfl, by kernel_rfl⟩
theorem field106_1 : FieldAt Tryz.prog 106 1 6 := fun _ _ _ => ⟨by kernel_rfl, by kernel_rfl⟩
theorem field106_2 : FieldAt Tryz.prog 106 2 7 := fun _ _ _ => ⟨by kernel_rfl, by kernel_rfl⟩
theorem field125_0 : FieldAt Tryz.prog 125 0 0 := fun _ _ _ => ⟨by kernel_rfl, by kernel_rfl⟩
theorem field125_1 : FieldAt Tryz.prog 125 1 1 := fun _ _ _ => ⟨by kernel_rfl, by kernel_rfl⟩
theorem field138_0 : FieldAt Tryz.prog 138 0 0 := fun _ _ _ => ⟨by kernel_rfl, by kernel_rfl⟩
theorem field138_1 : FieldAt Tryz.prog 138 1 1 := fun _ _ _ => ⟨by kernel_rfl, by kernel_rfl⟩
theorem field138_2 : FieldAt Tryz.prog 138 2 2 := fun _ _ _ => ⟨by kernel_rfl, by kernel_rfl⟩
theorem field170_0 : FieldAt Tryz.prog 170 0 0 := fun _ _ _ => ⟨by kernel_rfl, by kernel_rfl⟩
theorem field170_1 : FieldAt Tryz.prog 170 1 5 := fun _ _ _ => ⟨by kernel_rfl, by kernel_rfl⟩
theorem slice24 : SliceTy Tryz.prog 24 58 5 := ⟨Tryz.underlying24, fun _ => ⟨by kernel_rfl, by kernel_rfl⟩⟩
theorem slice25 : SliceTy Tryz.prog 25 3 1 := ⟨Tryz.underlying25, fun _ => ⟨by kernel_rfl, by kernel_rfl⟩⟩
theorem slice26 : SliceTy Tryz.prog 26 47 2 := ⟨Tryz.underlying26, fun _ => ⟨by kernel_rfl, by kernel_rfl⟩⟩
theorem slice63 : SliceTy Tryz.prog 63 157 1 := ⟨Tryz.underlying63, fun _ => ⟨by kernel_rfl, by kernel_rfl⟩⟩
theorem slice103 : SliceTy Tryz.prog 103 125 6 := ⟨Tryz.underlying103, fun _ => ⟨by kernel_rfl, by kernel_rfl⟩⟩
theorem slice135 : SliceTy Tryz.prog 135 25 1 := ⟨Tryz.underlying135, fun _ => ⟨by kernel_rfl, by kernel_rfl⟩⟩
theorem slice234 : SliceTy Tryz.prog 234 5 1 := ⟨Tryz.underlying234, fun _ => ⟨by kernel_rfl, by kernel_rfl⟩⟩
theorem array112 : ArrayTy Tryz.prog 112 5 4 1 := ⟨Tryz.underlying112, fun _ => ⟨by kernel_rfl, by kernel_rfl⟩⟩
theorem array123 : ArrayTy Tryz.prog 123 5 3 1 := ⟨Tryz.underlying123, fun _ => ⟨by kernel_rfl, by kernel_rfl⟩⟩
theorem array164 : ArrayTy Tryz.prog 164 4 109 1 := ⟨Tryz.underlying164, fun _ => ⟨by kernel_rfl, by kernel_rfl⟩⟩
theorem struct23 : StructTy Tryz.prog 23 [(0, 1), (1, 1)] #[.int .i64 0, .int .i64 0] := ⟨⟨.agg #[.int .i64 0, .int .i64 0], fun _ => ⟨by kernel_rfl, by kernel_rfl⟩, rfl⟩, _, Tryz.underlying23, fun _ => ⟨by kernel_rfl, by kernel_rfl⟩⟩
theorem struct28 : StructTy Tryz.prog 28 [(0, 1), (1, 2), (3, 1), (4, 1), (5, 1)] #[.int .i64 0, .int .i64 0, .int .i64 0, .slice none 0 0, .slice none 0 0, .slice none 0 0] := ⟨⟨.agg #[.int .i64 0, .int .i64 0, .int .i64 0, .slice none 0 0, .slice none 0 0, .slice none 0 0], fun _ => ⟨by kernel_rfl, by kernel_rfl⟩, rfl⟩, _, Tryz.underlying28, fun _ => ⟨by kernel_rfl, by kernel_rfl⟩⟩
theorem struct47 : StructTy Tryz.prog 47 [(0, 1), (1, 1)] #[.int .i64 0, .int .i64 0] := ⟨⟨.agg #[.int .i64 0, .int .i64 0], fun _ => ⟨by kernel_rfl, by kernel_rfl⟩, rfl⟩, _, Tryz.underlying47, fun _ => ⟨by kernel_rfl, by kernel_rfl⟩⟩
theorem struct58 : StructTy Tryz.prog 58 [(0, 1), (1, 1), (2, 2), (4, 1)] #[.string ⟨#[]⟩, .int .i64 0, .int .i64 0, .int .i64 0, .slice none 0 0] := ⟨⟨.agg #[.string ⟨#[]⟩, .int .i64 0, .int .i64 0, .int .i64 0, .slice none 0 0], fun _ => ⟨by kernel_rfl, by kernel_rfl⟩, rfl⟩, _, Tryz.underlying58, fun _ => ⟨by kernel_rfl, by kernel_rfl⟩⟩
theorem struct66 : StructTy Tryz.prog 66 [(0, 1), (1, 1)] #[.int .i64 0, .slice none 0 0] := ⟨⟨.agg #[.int .i64 0, .slice none 0 0], fun _ => ⟨by kernel_rfl, by kernel_rfl⟩, rfl⟩, _, Tryz.underlying66, fun _ => ⟨by kernel_rfl, by kernel_rfl⟩⟩
theorem struct102 : StructTy Tryz.prog 102 [(0, 6)] #[.int .i64 0, .int .i64 0, .int .i64 0, .slice none 0 0, .slice none 0 0, .slice none 0 0] := ⟨⟨.agg #[.int .i64 0, .int .i64 0, .int .i64 0, .slice none 0 0, .slice none 0 0, .slice none 0 0], fun _ => ⟨by kernel_rfl, by kernel_rfl⟩, rfl⟩, _, Tryz.underlying102, fun _ => ⟨by kernel_rfl, by kernel_rfl⟩⟩
theorem struct106 : StructTy Tryz.prog 106 [(0, 6), (6, 1), (7, 1)] #[.int .i64 0, .int .i64 0, .int .i64 0, .slice none 0 0, .slice none 0 0, .slice none 0 0, .slice none 0 0, .map none] := ⟨⟨.agg #[.int .i64 0, .int .i64 0, .int .i64 0, .slice none 0 0, .slice none 0 0, .slice none 0 0, .slice none 0 0, .map none], fun _ => ⟨by kernel_rfl, by kernel_rfl⟩, rfl⟩, _, Tryz.underlying106, fun _ => ⟨by kernel_rfl, by kernel_rfl⟩⟩
theorem struct125 : StructTy Tryz.prog 125 [(0, 1), (1, 5)] #[.int .i64 0, .int .i64 0, .int .i64 0, .int .i64 0, .int .i64 0, .int .i64 0] := ⟨⟨.agg #[.int .i64 0, .int .i64 0, .int .i64 0, .int .i64 0, .int .i64 0, .int .i64 0], fun _ => ⟨by kernel_rfl, by kernel_rfl⟩, rfl⟩, _, Tryz.underlying125, fun _ => ⟨by kernel_rfl, by kernel_rfl⟩⟩
theorem struct138 : StructTy Tryz.prog 138 [(0, 1), (1, 1), (2, 1)] #[.slice none 0 0, .int .i64 0, .bool false] := ⟨⟨.agg #[.slice none 0 0, .int .i64 0, .bool false], fun _ => ⟨by kernel_rfl, by kernel_rfl⟩, rfl⟩, _, Tryz.underlying138, fun _ => ⟨by kernel_rfl, by kernel_rfl⟩⟩
theorem struct145 : StructTy Tryz.prog 145 [(0, 1), (1, 1)] #[.int .i64 0, .int .i64 0] := ⟨⟨.agg #[.int .i64 0, .int .i64 0], fun _ => ⟨by kernel_rfl, by kernel_rfl⟩, rfl⟩, _, Tryz.underlying145, fun _ => ⟨by kernel_rfl, by kernel_rfl⟩⟩
theorem struct170 : StructTy Tryz.prog 170 [(0, 5), (5, 1)] #[.bool false, .bool false, .bool false, .bool false, .bool false, .int .i64 0] := ⟨⟨.agg #[.bool false, .bool false, .bool false, .bool false, .bool false, .int .i64 0], fun _ => ⟨by kernel_rfl, by kernel_rfl⟩, rfl⟩, _, Tryz.underlying170, fun _ => ⟨by kernel_rfl, by kernel_rfl⟩⟩
theorem arrz112 : ArrZ Tryz.prog 112 #[.bool false, .bool false, .bool false, .bool false, .bool false] := ⟨⟨.agg #[.bool false, .bool false, .bool false, .bool false, .bool false], fun _ => ⟨by kernel_rfl, by kernel_rfl⟩, rfl⟩, _, _, 1, Tryz.underlying112, fun _ => ⟨by kernel_rfl, by kernel_rfl⟩⟩
theorem size3 : Val Tryz.prog (sizeOf 3) 1 := fun _ => ⟨by kernel_rfl, by kernel_rfl⟩
theorem size23 : Val Tryz.prog (sizeOf 23) 2 := fun _ => ⟨by kernel_rfl, by kernel_rfl⟩
theorem size25 : Val Tryz.prog (sizeOf 25) 1 := fun _ => ⟨by kernel_rfl, by kernel_rfl⟩
theorem elem24 : ElemTy Tryz.prog 24 58 5 #[.string ⟨#[]⟩, .int .i64 0, .int .i64 0, .int .i64 0, .slice none 0 0] := ⟨Tryz.underlying24, fun _ => ⟨by kernel_rfl, by kernel_rfl⟩, ⟨.agg #[.string ⟨#[]⟩, .int .i64 0, .int .i64 0, .int .i64 0, .slice none 0 0], fun _ => ⟨by kernel_rfl, by kernel_rfl⟩, rfl⟩, rfl, by decide⟩
theorem elem25 : ElemTy Tryz.prog 25 3 1 #[.int .i64 0] := ⟨Tryz.underlying25, fun _ => ⟨by kernel_rfl, by kernel_rfl⟩, ⟨.int .i64 0, fun _ => ⟨by kernel_rfl, by kernel_rfl⟩, rfl⟩, rfl, by decide⟩
theorem elem26 : ElemTy Tryz.prog 26 47 2 #[.int .i64 0, .int .i64 0] := ⟨Tryz.underlying26, fun _ => ⟨by kernel_rfl, by kernel_rfl⟩, ⟨.agg #[.int .i64 0, .int .i64 0], fun _ => ⟨by kernel_rfl, by kernel_rfl⟩, rfl⟩, rfl, by decide⟩
theorem elem103 : ElemTy Tryz.prog 103 125 6 #[.int .i64 0, .int .i64 0, .int .i64 0, .int .i64 0, .int .i64 0, .int .i64 0] := ⟨Tryz.underlying103, fun _ => ⟨by kernel_rfl, by kernel_rfl⟩, ⟨.agg #[.int .i64 0, .int .i64 0, .int .i64 0, .int .i64 0, .int .i64 0, .int .i64 0], fun _ => ⟨by kernel_rfl, by kernel_rfl⟩, rfl⟩, rfl, by decide⟩
theorem elem135 : ElemTy Tryz.prog 135 25 1 #[.slice none 0 0] := ⟨Tryz.underlying135, fun _ => ⟨by kernel_rfl, by kernel_rfl⟩, ⟨.slice none 0 0, fun _ => ⟨by kernel_rfl, by kernel_rfl⟩, rfl⟩, rfl, by decide⟩
theorem ent18 : Enters Tryz.prog 18 := ⟨⟨Tryz.f18, Tryz.func18, by decide +kernel, rfl⟩⟩
theorem ent19 : Enters Tryz.prog 19 := ⟨⟨Tryz.f19, Tryz.func19, by decide +kernel, rfl⟩⟩
theorem ent20 : Enters Tryz.prog 20 := ⟨⟨Tryz.f20, Tryz.func20, by decide +kernel, rfl⟩⟩
theorem ent22 : Enters Tryz.prog 22 := ⟨⟨Tryz.f22, Tryz.func22, by decide +kernel, rfl⟩⟩
theorem ent23 : Enters Tryz.prog 23 := ⟨⟨Tryz.f23, Tryz.func23, by decide +kernel, rfl⟩⟩
theorem ent25 : Enters Tryz.prog 25 := ⟨⟨Tryz.f25, Tryz.func25, by decide +kernel, rfl⟩⟩
theorem ent27 : Enters Tryz.prog 27 := ⟨⟨Tryz.f27, Tryz.func27, by decide +kernel, rfl⟩⟩
theorem ent29 : Enters Tryz.prog 29 := ⟨⟨Tryz.f29, Tryz.func29, by decide +kernel, rfl⟩⟩
theorem ent31 : Enters Tryz.prog 31 := ⟨⟨Tryz.f31, Tryz.func31, by decide +kernel, rfl⟩⟩
theorem ent33 : Enters Tryz.prog 33 := ⟨⟨Tryz.f33, Tryz.func33, by decide +kernel, rfl⟩⟩
theorem ent35 : Enters Tryz.prog 35 := ⟨⟨Tryz.f35, Tryz.func35, by decide +kernel, rfl⟩⟩
theorem ent37 : Enters Tryz.prog 37 := ⟨⟨Tryz.f37, Tryz.func37, by decide +kernel, rfl⟩⟩
theorem ent38 : Enters Tryz.prog 38 := ⟨⟨Tryz.f38, Tryz.func38, by decide +kernel, rfl⟩⟩
theorem ent40 : Enters Tryz.prog 40 := ⟨⟨Tryz.f40, Tryz.func40, by decide +kernel, rfl⟩⟩
theorem ent42 : Enters Tryz.prog 42 := ⟨⟨Tryz.f42, Tryz.func42, by decide +kernel, rfl⟩⟩
theorem ent43 : Enters Tryz.prog 43 := ⟨⟨Tryz.f43, Tryz.func43, by decide +kernel, rfl⟩⟩
theorem ent44 : Enters Tryz.prog 44 := ⟨⟨Tryz.f44, Tryz.func44, by decide +kernel, rfl⟩⟩
theorem ent45 : Enters Tryz.prog 45 := ⟨⟨Tryz.f45, Tryz.func45, by decide +kernel, rfl⟩⟩
theorem ent47 : Enters Tryz.prog 47 := ⟨⟨Tryz.f47, Tryz.func47, by decide +kernel, rfl⟩⟩
theorem ent48 : Enters Tryz.prog 48 := ⟨⟨Tryz.f48, Tryz.func48, by decide +kernel, rfl⟩⟩
theorem ent50 : Enters Tryz.prog 50 := ⟨⟨Tryz.f50, Tryz.func50, by decide +kernel, rfl⟩⟩
theorem ent51 : Enters Tryz.prog 51 := ⟨⟨Tryz.f51, Tryz.func51, by decide +kernel, rfl⟩⟩
theorem ent53 : Enters Tryz.prog 53 := ⟨⟨Tryz.f53, Tryz.func53, by decide +kernel, rfl⟩⟩
theorem ent54 : Enters Tryz.prog 54 := ⟨⟨Tryz.f54, Tryz.func54, by decide +kernel, rfl⟩⟩
theorem ent55 : Enters Tryz.prog 55 := ⟨⟨Tryz.f55, Tryz.func55, by decide +kernel, rfl⟩⟩
theorem ent56 : Enters Tryz.prog 56 := ⟨⟨Tryz.f56, Tryz.func56, by decide +kernel, rfl⟩⟩
theorem ent57 : Enters Tryz.prog 57 := ⟨⟨Tryz.f57, Tryz.func57, by decide +kernel, rfl⟩⟩
theorem ent58 : Enters Tryz.prog 58 := ⟨⟨Tryz.f58, Tryz.func58, by decide +kernel, rfl⟩⟩
theorem ent60 : Enters Tryz.prog 60 := ⟨⟨Tryz.f60, Tryz.func60, by decide +kernel, rfl⟩⟩
theorem ent61 : Enters Tryz.prog 61 := ⟨⟨Tryz.f61, Tryz.func61, by decide +kernel, rfl⟩⟩
theorem ent64 : Enters Tryz.prog 64 := ⟨⟨Tryz.f64, Tryz.func64, by decide +kernel, rfl⟩⟩
theorem ent66 : Enters Tryz.prog 66 := ⟨⟨Tryz.f66, Tryz.func66, by decide +kernel, rfl⟩⟩
theorem ent71 : Enters Tryz.prog 71 := ⟨⟨Tryz.f71, Tryz.func71, by decide +kernel, rfl⟩⟩
theorem ent72 : Enters Tryz.prog 72 := ⟨⟨Tryz.f72, Tryz.func72, by decide +kernel, rfl⟩⟩
theorem ent83 : Enters Tryz.prog 83 := ⟨⟨Tryz.f83, Tryz.func83, by decide +kernel, rfl⟩⟩
theorem ent87 : Enters Tryz.prog 87 := ⟨⟨Tryz.f87, Tryz.func87, by decide +kernel, rfl⟩⟩
theorem ent88 : Enters Tryz.prog 88 := ⟨⟨Tryz.f88, Tryz.func88, by decide +kernel, rfl⟩⟩
theorem ent89 : Enters Tryz.prog 89 := ⟨⟨Tryz.f89, Tryz.func89, by decide +kernel, rfl⟩⟩
theorem ent90 : Enters Tryz.prog 90 := ⟨⟨Tryz.f90, Tryz.func90, by decide +kernel, rfl⟩⟩
theorem ent91 : Enters Tryz.prog 91 := ⟨⟨Tryz.f91, Tryz.func91, by decide +kernel, rfl⟩⟩
theorem ent92 : Enters Tryz.prog 92 := ⟨⟨Tryz.f92, Tryz.func92, by decide +kernel, rfl⟩⟩
theorem ent93 : Enters Tryz.prog 93 := ⟨⟨Tryz.f93, Tryz.func93, by decide +kernel, rfl⟩⟩
theorem ent94 : Enters Tryz.prog 94 := ⟨⟨Tryz.f94, Tryz.func94, by decide +kernel, rfl⟩⟩
theorem ent96 : Enters Tryz.prog 96 := ⟨⟨Tryz.f96, Tryz.func96, by decide +kernel, rfl⟩⟩
theorem ent98 : Enters Tryz.prog 98 := ⟨⟨Tryz.f98, Tryz.func98, by decide +kernel, rfl⟩⟩
theorem ent99 : Enters Tryz.prog 99 := ⟨⟨Tryz.f99, Tryz.func99, by decide +kernel, rfl⟩⟩
theorem ent100 : Enters Tryz.prog 100 := ⟨⟨Tryz.f100, Tryz.func100, by decide +kernel, rfl⟩⟩
theorem ent101 : Enters Tryz.prog 101 := ⟨⟨Tryz.f101, Tryz.func101, by decide +kernel, rfl⟩⟩
theorem ent102 : Enters Tryz.prog 102 := ⟨⟨Tryz.f102, Tryz.func102, by decide +kernel, rfl⟩⟩
theorem ent103 : Enters Tryz.prog 103 := ⟨⟨Tryz.f103, Tryz.func103, by decide +kernel, rfl⟩⟩
theorem ent104 : Enters Tryz.prog 104 := ⟨⟨Tryz.f104, Tryz.func104, by decide +kernel, rfl⟩⟩
theorem ent105 : Enters Tryz.prog 105 := ⟨⟨Tryz.f105, Tryz.func105, by decide +kernel, rfl⟩⟩
theorem ent108 : Enters Tryz.prog 108 := ⟨⟨Tryz.f108, Tryz.func108, by decide +kernel, rfl⟩⟩
theorem ent110 : Enters Tryz.prog 110 := ⟨⟨Tryz.f110, Tryz.func110, by decide +kernel, rfl⟩⟩
theorem ent112 : Enters Tryz.prog 112 := ⟨⟨Tryz.f112, Tryz.func112, by decide +kernel, rfl⟩⟩
theorem ent113 : Enters Tryz.prog 113 := ⟨⟨Tryz.f113, Tryz.func113, by decide +kernel, rfl⟩⟩
theorem ent117 : Enters Tryz.prog 117 := ⟨⟨Tryz.f117, Tryz.func117, by decide +kernel, rfl⟩⟩
theorem ent118 : Enters Tryz.prog 118 := ⟨⟨Tryz.f118, Tryz.func118, by decide +kernel, rfl⟩⟩
theorem ent120 : Enters Tryz.prog 120 := ⟨⟨Tryz.f120, Tryz.func120, by decide +kernel, rfl⟩⟩
theorem ent121 : Enters Tryz.prog 121 := ⟨⟨Tryz.f121, Tryz.func121, by decide +kernel, rfl⟩⟩
theorem ent122 : Enters Tryz.prog 122 := ⟨⟨Tryz.f122, Tryz.func122, by decide +kernel, rfl⟩⟩
theorem ent123 : Enters Tryz.prog 123 := ⟨⟨Tryz.f123, Tryz.func123, by decide +kernel, rfl⟩⟩
theorem ent124 : Enters Tryz.prog 124 := ⟨⟨Tryz.f124, Tryz.func124, by decide +kernel, rfl⟩⟩
theorem ent125 : Enters Tryz.prog 125 := ⟨⟨Tryz.f125, Tryz.func125, by decide +kernel, rfl⟩⟩
theorem ent126 : Enters Tryz.prog 126 := ⟨⟨Tryz.f126, Tryz.func126, by decide +kernel, rfl⟩⟩
theorem ent127 : Enters Tryz.prog 127 := ⟨⟨Tryz.f127, Tryz.func127, by decide +kernel, rfl⟩⟩
theorem ent128 : Enters Tryz.prog 128 := ⟨⟨Tryz.f128, Tryz.func128, by decide +kernel, rfl⟩⟩
theorem ent129 : Enters Tryz.prog 129 := ⟨⟨Tryz.f129, Tryz.func129, by decide +kernel, rfl⟩⟩
theorem ent130 : Enters Tryz.prog 130 := ⟨⟨Tryz.f130, Tryz.func130, by decide +kernel, rfl⟩⟩
theorem ent131 : Enters Tryz.prog 131 := ⟨⟨Tryz.f131, Tryz.func131, by decide +kernel, rfl⟩⟩
theorem ent132 : Enters Tryz.prog 132 := ⟨⟨Tryz.f132, Tryz.func132, by decide +kernel, rfl⟩⟩
theorem ent133 : Enters Tryz.prog 133 := ⟨⟨Tryz.f133, Tryz.func133, by decide +kernel, rfl⟩⟩
theorem ent134 : Enters Tryz.prog 134 := ⟨⟨Tryz.f134, Tryz.func134, by decide +kernel, rfl⟩⟩
theorem ent135 : Enters Tryz.prog 135 := ⟨⟨Tryz.f135, Tryz.func135, by decide +kernel, rfl⟩⟩
theorem ent137 : Enters Tryz.prog 137 := ⟨⟨Tryz.f137, Tryz.func137, by decide +kernel, rfl⟩⟩
theorem ent143 : Enters Tryz.prog 143 := ⟨⟨Tryz.f143, Tryz.func143, by decide +kernel, rfl⟩⟩
theorem ent146 : Enters Tryz.prog 146 := ⟨⟨Tryz.f146, Tryz.func146, by decide +kernel, rfl⟩⟩
theorem ent147 : Enters Tryz.prog 147 := ⟨⟨Tryz.f147, Tryz.func147, by decide +kernel, rfl⟩⟩
theorem ent148 : Enters Tryz.prog 148 := ⟨⟨Tryz.f148, Tryz.func148, by decide +kernel, rfl⟩⟩
theorem ent149 : Enters Tryz.prog 149 := ⟨⟨Tryz.f149, Tryz.func149, by decide +kernel, rfl⟩⟩
theorem ent150 : Enters Tryz.prog 150 := ⟨⟨Tryz.f150, Tryz.func150, by decide +kernel, rfl⟩⟩
theorem ent151 : Enters Tryz.prog 151 := ⟨⟨Tryz.f151, Tryz.func151, by decide +kernel, rfl⟩⟩
theorem ent152 : Enters Tryz.prog 152 := ⟨⟨Tryz.f152, Tryz.func152, by decide +kernel, rfl⟩⟩
theorem ent153 : Enters Tryz.prog 153 := ⟨⟨Tryz.f153, Tryz.func153, by decide +kernel, rfl⟩⟩
theorem ent154 : Enters Tryz.prog 154 := ⟨⟨Tryz.f154, Tryz.func154, by decide +kernel, rfl⟩⟩
theorem ent155 : Enters Tryz.prog 155 := ⟨⟨Tryz.f155, Tryz.func155, by decide +kernel, rfl⟩⟩
theorem ent156 : Enters Tryz.prog 156 := ⟨⟨Tryz.f156, Tryz.func156, by decide +kernel, rfl⟩⟩
theorem ent157 : Enters Tryz.prog 157 := ⟨⟨Tryz.f157, Tryz.func157, by decide +kernel, rfl⟩⟩
theorem ent158 : Enters Tryz.prog 158 := ⟨⟨Tryz.f158, Tryz.func158, by decide +kernel, rfl⟩⟩
theorem ent159 : Enters Tryz.prog 159 := ⟨⟨Tryz.f159, Tryz.func159, by decide +kernel, rfl⟩⟩
theorem ent160 : Enters Tryz.prog 160 := ⟨⟨Tryz.f160, Tryz.func160, by decide +kernel, rfl⟩⟩
theorem ent161 : Enters Tryz.prog 161 := ⟨⟨Tryz.f161, Tryz.func161, by decide +kernel, rfl⟩⟩
theorem ent162 : Enters Tryz.prog 162 := ⟨⟨Tryz.f162, Tryz.func162, by decide +kernel, rfl⟩⟩
theorem ent163 : Enters Tryz.prog 163 := ⟨⟨Tryz.f163, Tryz.func163, by decide +kernel, rfl⟩⟩
theorem ent164 : Enters Tryz.prog 164 := ⟨⟨Tryz.f164, Tryz.func164, by decide +kernel, rfl⟩⟩
theorem ent165 : Enters Tryz.prog 165 := ⟨⟨Tryz.f165, Tryz.func165, by decide +kernel, rfl⟩⟩
theorem ent166 : Enters Tryz.prog 166 := ⟨⟨Tryz.f166, Tryz.func166, by decide +kernel, rfl⟩⟩
theorem ent167 : Enters Tryz.prog 167 := ⟨⟨Tryz.f167, Tryz.func167, by decide +kernel, rfl⟩⟩
theorem ent168 : Enters Tryz.prog 168 := ⟨⟨Tryz.f168, Tryz.func168, by decide +kernel, rfl⟩⟩
theorem ent169 : Enters Tryz.prog 169 := ⟨⟨Tryz.f169, Tryz.func169, by decide +kernel, rfl⟩⟩
theorem ent170 : Enters Tryz.prog 170 := ⟨⟨Tryz.f170, Tryz.func170, by decide +kernel, rfl⟩⟩
theorem ent171 : Enters Tryz.prog 171 := ⟨⟨Tryz.f171, Tryz.func171, by decide +kernel, rfl⟩⟩
theorem ent172 : Enters Tryz.prog 172 := ⟨⟨Tryz.f172, Tryz.func172, by decide +kernel, rfl⟩⟩
theorem ent173 : Enters Tryz.prog 173 := ⟨⟨Tryz.f173, Tryz.func173, by decide +kernel, rfl⟩⟩
theorem ent174 : Enters Tryz.prog 174 := ⟨⟨Tryz.f174, Tryz.func174, by decide +kernel, rfl⟩⟩
theorem ent175 : Enters Tryz.prog 175 := ⟨⟨Tryz.f175, Tryz.func175, by decide +kernel, rfl⟩⟩
theorem ent176 : Enters Tryz.prog 176 := ⟨⟨Tryz.f176, Tryz.func176, by decide +kernel, rfl⟩⟩
theorem ent177 : Enters Tryz.prog 177 := ⟨⟨Tryz.f177, Tryz.func177, by decide +kernel, rfl⟩⟩
theorem ent183 : Enters Tryz.prog 183 := ⟨⟨Tryz.f183, Tryz.func183, by decide +kernel, rfl⟩⟩
theorem ent187 : Enters Tryz.prog 187 := ⟨⟨Tryz.f187, Tryz.func187, by decide +kernel, rfl⟩⟩
theorem ent188 : Enters Tryz.prog 188 := ⟨⟨Tryz.f188, Tryz.func188, by decide +kernel, rfl⟩⟩
theorem ent211 : Enters Tryz.prog 211 := ⟨⟨Tryz.f211, Tryz.func211, by decide +kernel, rfl⟩⟩
theorem ent212 : Enters Tryz.prog 212 := ⟨⟨Tryz.f212, Tryz.func212, by decide +kernel, rfl⟩⟩
theorem ent213 : Enters Tryz.prog 213 := ⟨⟨Tryz.f213, Tryz.func213, by decide +kernel, rfl⟩⟩
theorem ent214 : Enters Tryz.prog 214 := ⟨⟨Tryz.f214, Tryz.func214, by decide +kernel, rfl⟩⟩
theorem ent215 : Enters Tryz.prog 215 := ⟨⟨Tryz.f215, Tryz.func215, by decide +kernel, rfl⟩⟩
theorem ent216 : Enters Tryz.prog 216 := ⟨⟨Tryz.f216, Tryz.func216, by decide +kernel, rfl⟩⟩
theorem ent217 : Enters Tryz.prog 217 := ⟨⟨Tryz.f217, Tryz.func217, by decide +kernel, rfl⟩⟩
theorem ent218 : Enters Tryz.prog 218 := ⟨⟨Tryz.f218, Tryz.func218, by decide +kernel, rfl⟩⟩
end Go.Proofs.YtabamagholjdcaaGreatDoor
namespace Go.Proofs.YtabamagholjdcaaGreatDoor
open Go.Lg Go.Proofs
abbrev iv (z : Int) : Value := .int .i64 z
theorem infoOk {P : Program} {e : Nat} (h : (P.info? e).any (fun i => decide (i.bytes ≤ 65536)) = true) : ∃ i, P.info? e = some i ∧ i.bytes ≤ 65536 := by
 cases hi : P.info? e with
 | none => rw [hi] at h; cases h
 | some i => rw [hi] at h; exact ⟨i, rfl, by simpa using h⟩
structure Reach where
 Least : Int
 Most : Int
def CReach : CRel Reach := fun _ x es => es = [iv x.Least, iv x.Most]
instance : CM CReach := ⟨fun hR h => by obtain rfl := h; exact rfl, fun h => by obtain rfl := h; simp [Value.oneCell']⟩
structure HullPiece where
 Name : ByteArray
 Arm : Int
 Weight : Reach
 On : (List Int)
def CHullPiece : CRel HullPiece := fun R x es => ∃ vq_4, SlR (CI .i64) 1 R vq_4 x.On ∧ es = [.string x.Name, iv x.Arm, iv x.Weight.Least, iv x.Weight.Most, vq_4]
instance : CM CHullPiece := ⟨fun hR h => by obtain ⟨vq_4, hq_4, rfl⟩ := h; exact ⟨_, hq_4.mono hR, rfl⟩, fun h => by obtain ⟨vq_4, hq_4, rfl⟩ := h; intro u hu; simp only [List.mem_cons, List.not_mem_nil, or_false] at hu; rcases hu with rfl | rfl | rfl | rfl | rfl <;> first | rfl | exact hq_4.one⟩
structure HullHeel where
 After : Int
 Side : Int
def CHullHeel : CRel HullHeel := fun _ x es => es = [iv x.After, iv x.Side]
instance : CM CHullHeel := ⟨fun hR h => by obtain rfl := h; exact rfl, fun h => by obtain rfl := h; simp [Value.oneCell']⟩
structure HullBook where
 Limit : Int
 Ballast : Reach
 Pieces : (List HullPiece)
 Out : (List Int)
 Heels : (List HullHeel)
def CHullBook : CRel HullBook := fun R x es => ∃ vq_3 vq_4 vq_5, SlR CHullPiece 5 R vq_3 x.Pieces ∧ SlR (CI .i64) 1 R vq_4 x.Out ∧ SlR CHullHeel 2 R vq_5 x.Heels ∧ es = [iv x.Limit, iv x.Ballast.Least, iv x.Ballast.Most, vq_3, vq_4, vq_5]
instance : CM CHullBook := ⟨fun hR h => by obtain ⟨vq_3, vq_4, vq_5, hq_3, hq_4, hq_5, rfl⟩ := h; exact ⟨_, _, _, hq_3.mono hR, hq_4.mono hR, hq_5.mono hR, rfl⟩, fun h => by obtain ⟨vq_3, vq_4, vq_5, hq_3, hq_4, hq_5, rfl⟩ := h; intro u hu; simp only [List.mem_cons, List.not_mem_nil, or_false] at hu; rcases hu with rfl | rfl | rfl | rfl | rfl | rfl <;> first | rfl | exact hq_3.one | exact hq_4.one | exact hq_5.one⟩
structure Cargo where
 ballast : Int
 weights : (List Int)
def CCargo : CRel Cargo := fun _ x es => x.weights.length = 5 ∧ es = ([iv x.ballast] ++ (x.weights.map (Value.int .i64) ++ []))
instance : CM CCargo := ⟨fun hR h => by obtain ⟨lq_1, rfl⟩ := h; exact ⟨lq_1, rfl⟩, fun h => by obtain ⟨lq_1, rfl⟩ := h; simp [Value.oneCell']⟩
structure Opened where
 book : HullBook
 alls : (List Cargo)
 worsts : Tab
structure Least where
 thing : (List Int)
 number : Int
 some_ : Bool
structure HullCase where
 Ballast : Int
 Weights : (List Int)
theorem five {α : Type} {l : List α} (h : l.length = 5) : ∃ a b c d e, l = [a, b, c, d, e] := by
 match l, h with
 | [a, b, c, d, e], _ => exact ⟨a, b, c, d, e, rfl⟩
theorem grd23 : Tryz.prog.eqGuardType Tryz.prog.depth 23 = false := by decide +kernel
def eqReach (x y : Reach) : Bool := (x.Least == y.Least && (x.Most == y.Most && true))
theorem eqv23 (x y : Reach) : Val Tryz.prog (Op.equal 23 (.agg #[iv x.Least, iv x.Most]) (.agg #[iv y.Least, iv y.Most])) (eqReach x y) := val_eqStruct (d := 9999) Tryz.underlying23 (by decide +kernel) (.cons rfl (fun _ => ⟨by kernel_rfl, by kernel_rfl⟩) (fun _ => ⟨by kernel_rfl, by kernel_rfl⟩) (val_eqInt Tryz.underlying3) (.cons rfl (fun _ => ⟨by kernel_rfl, by kernel_rfl⟩) (fun _ => ⟨by kernel_rfl, by kernel_rfl⟩) (val_eqInt Tryz.underlying3) .nil))
theorem grd47 : Tryz.prog.eqGuardType Tryz.prog.depth 47 = false := by decide +kernel
def eqHullHeel (x y : HullHeel) : Bool := (x.After == y.After && (x.Side == y.Side && true))
theorem eqv47 (x y : HullHeel) : Val Tryz.prog (Op.equal 47 (.agg #[iv x.After, iv x.Side]) (.agg #[iv y.After, iv y.Side])) (eqHullHeel x y) := val_eqStruct (d := 9999) Tryz.underlying47 (by decide +kernel) (.cons rfl (fun _ => ⟨by kernel_rfl, by kernel_rfl⟩) (fun _ => ⟨by kernel_rfl, by kernel_rfl⟩) (val_eqInt Tryz.underlying3) (.cons rfl (fun _ => ⟨by kernel_rfl, by kernel_rfl⟩) (fun _ => ⟨by kernel_rfl, by kernel_rfl⟩) (val_eqInt Tryz.underlying45) .nil))
theorem app24 : AppTy Tryz.prog 24 58 5 := ⟨Tryz.underlying24, fun _ => ⟨by kernel_rfl, by kernel_rfl⟩, infoOk (by decide +kernel), ⟨.agg #[.string ⟨#[]⟩, .int .i64 0, .int .i64 0, .int .i64 0, .slice none 0 0], fun _ => ⟨by kernel_rfl, by kernel_rfl⟩, rfl⟩⟩
theorem app25 : AppTy Tryz.prog 25 3 1 := ⟨Tryz.underlying25, fun _ => ⟨by kernel_rfl, by kernel_rfl⟩, infoOk (by decide +kernel), ⟨.int .i64 0, fun _ => ⟨by kernel_rfl, by kernel_rfl⟩, rfl⟩⟩
theorem app26 : AppTy Tryz.prog 26 47 2 := ⟨Tryz.underlying26, fun _ => ⟨by kernel_rfl, by kernel_rfl⟩, infoOk (by decide +kernel), ⟨.agg #[.int .i64 0, .int .i64 0], fun _ => ⟨by kernel_rfl, by kernel_rfl⟩, rfl⟩⟩
theorem app103 : AppTy Tryz.prog 103 125 6 := ⟨Tryz.underlying103, fun _ => ⟨by kernel_rfl, by kernel_rfl⟩, infoOk (by decide +kernel), ⟨.agg #[.int .i64 0, .int .i64 0, .int .i64 0, .int .i64 0, .int .i64 0, .int .i64 0], fun _ => ⟨by kernel_rfl, by kernel_rfl⟩, rfl⟩⟩
theorem app135 : AppTy Tryz.prog 135 25 1 := ⟨Tryz.underlying135, fun _ => ⟨by kernel_rfl, by kernel_rfl⟩, infoOk (by decide +kernel), ⟨.slice none 0 0, fun _ => ⟨by kernel_rfl, by kernel_rfl⟩, rfl⟩⟩
theorem base24_0 : (Array.range (0 * 5)).map ((#[.string ⟨#[]⟩, .int .i64 0, .int .i64 0, .int .i64 0, .slice none 0 0] : Array Value)[· % (#[.string ⟨#[]⟩, .int .i64 0, .int .i64 0, .int .i64 0, .slice none 0 0] : Array Value).size]!) = #[] := by kernel_rfl
theorem base24_3 : (Array.range (3 * 5)).map ((#[.string ⟨#[]⟩, .int .i64 0, .int .i64 0, .int .i64 0, .slice none 0 0] : Array Value)[· % (#[.string ⟨#[]⟩, .int .i64 0, .int .i64 0, .int .i64 0, .slice none 0 0] : Array Value).size]!) = #[.string ⟨#[]⟩, .int .i64 0, .int .i64 0, .int .i64 0, .slice none 0 0, .string ⟨#[]⟩, .int .i64 0, .int .i64 0, .int .i64 0, .slice none 0 0, .string ⟨#[]⟩, .int .i64 0, .int .i64 0, .int .i64 0, .slice none 0 0] := by kernel_rfl
theorem base25_0 : (Array.range (0 * 1)).map ((#[.int .i64 0] : Array Value)[· % (#[.int .i64 0] : Array Value).size]!) = #[] := by kernel_rfl
theorem base25_1 : (Array.range (1 * 1)).map ((#[.int .i64 0] : Array Value)[· % (#[.int .i64 0] : Array Value).size]!) = #[.int .i64 0] := by kernel_rfl
theorem base25_2 : (Array.range (2 * 1)).map ((#[.int .i64 0] : Array Value)[· % (#[.int .i64 0] : Array Value).size]!) = #[.int .i64 0, .int .i64 0] := by kernel_rfl
theorem base25_3 : (Array.range (3 * 1)).map ((#[.int .i64 0] : Array Value)[· % (#[.int .i64 0] : Array Value).size]!) = #[.int .i64 0, .int .i64 0, .int .i64 0] := by kernel_rfl
theorem base26_0 : (Array.range (0 * 2)).map ((#[.int .i64 0, .int .i64 0] : Array Value)[· % (#[.int .i64 0, .int .i64 0] : Array Value).size]!) = #[] := by kernel_rfl
theorem base26_1 : (Array.range (1 * 2)).map ((#[.int .i64 0, .int .i64 0] : Array Value)[· % (#[.int .i64 0, .int .i64 0] : Array Value).size]!) = #[.int .i64 0, .int .i64 0] := by kernel_rfl
theorem base103_1 : (Array.range (1 * 6)).map ((#[.int .i64 0, .int .i64 0, .int .i64 0, .int .i64 0, .int .i64 0, .int .i64 0] : Array Value)[· % (#[.int .i64 0, .int .i64 0, .int .i64 0, .int .i64 0, .int .i64 0, .int .i64 0] : Array Value).size]!) = #[.int .i64 0, .int .i64 0, .int .i64 0, .int .i64 0, .int .i64 0, .int .i64 0] := by kernel_rfl
theorem base135_1 : (Array.range (1 * 1)).map ((#[.slice none 0 0] : Array Value)[· % (#[.slice none 0 0] : Array Value).size]!) = #[.slice none 0 0] := by kernel_rfl
abbrev GOk (R : RMap) : Prop := CellsAt R [] 0 0 [.func (.func 211) #[] #[], .func (.func 212) #[] #[], .func (.func 213) #[] #[], .func (.func 214) #[] #[]]
theorem GOk.mono {R R' : RMap} (h : GOk R) (hR : RLe R R') : GOk R' := CellsAt.up (H := []) h hR
theorem GOk.any {R : RMap} {H : HList} (h : GOk R) : CellsAt R H 0 0 [.func (.func 211) #[] #[], .func (.func 212) #[] #[], .func (.func 213) #[] #[], .func (.func 214) #[] #[]] := CellsAt.any h
set_option maxRecDepth 100000
def offT : Nat → Nat → Option Nat
 | 23, 0 => some 0
 | 23, 1 => some 1
 | 28, 0 => some 0
 | 28, 1 => some 1
 | 28, 2 => some 3
 | 28, 3 => some 4
 | 28, 4 => some 5
 | 47, 0 => some 0
 | 47, 1 => some 1
 | 58, 0 => some 0
 | 58, 1 => some 1
 | 58, 2 => some 2
 | 58, 3 => some 4
 | 66, 0 => some 0
 | 66, 1 => some 1
 | 102, 0 => some 0
 | 106, 0 => some 0
 | 106, 1 => some 6
 | 106, 2 => some 7
 | 125, 0 => some 0
 | 125, 1 => some 1
 | 138, 0 => some 0
 | 138, 1 => some 1
 | 138, 2 => some 2
 | 170, 0 => some 0
 | 170, 1 => some 5
 | _, _ => none
theorem offT_ok : ∀ s f n, offT s f = some n → FieldAt Tryz.prog s f n := by
 intro s f n h
 unfold offT at h
 split at h
 ·cases h; exact field23_0
 ·cases h; exact field23_1
 ·cases h; exact field28_0
 ·cases h; exact field28_1
 ·cases h; exact field28_2
 ·cases h; exact field28_3
 ·cases h; exact field28_4
 ·cases h; exact field47_0
 ·cases h; exact field47_1
 ·cases h; exact field58_0
 ·cases h; exact field58_1
 ·cases h; exact field58_2
 ·cases h; exact field58_3
 ·cases h; exact field66_0
 ·cases h; exact field66_1
 ·cases h; exact field102_0
 ·cases h; exact field106_0
 ·cases h; exact field106_1
 ·cases h; exact field106_2
 ·cases h; exact field125_0
 ·cases h; exact field125_1
 ·cases h; exact field138_0
 ·cases h; exact field138_1
 ·cases h; exact field138_2
 ·cases h; exact field170_0
 ·cases h; exact field170_1
 ·cases h
instance : Fields Tryz.prog := ⟨offT, offT_ok⟩
theorem eqW145 (a b c d : Int) : Val Tryz.prog (Op.equal 145 (wKey a b) (wKey c d)) (a == c && (b == d && true)) :=
 val_eqStruct (d := 9999) Tryz.underlying145 (by decide +kernel) (.cons rfl (fun _ => ⟨by kernel_rfl, by kernel_rfl⟩) (fun _ => ⟨by kernel_rfl, by kernel_rfl⟩) (val_eqInt Tryz.underlying3) (.cons rfl (fun _ => ⟨by kernel_rfl, by kernel_rfl⟩) (fun _ => ⟨by kernel_rfl, by kernel_rfl⟩) (val_eqInt Tryz.underlying3) .nil))
theorem map143 : MapTyW Tryz.prog 143 145 3 := ⟨Tryz.underlying143, ⟨_, Tryz.underlying145, fun a b => by cases a <;> rfl⟩, eqW145, fun e a b _ => ⟨by kernel_rfl, by kernel_rfl⟩, fun _ => ⟨by kernel_rfl, by kernel_rfl⟩⟩
theorem keq112 {a b : List Bool} (hx : a.length = 5) (hy : b.length = 5) : Val Tryz.prog (Op.equal 112 (keyV a) (keyV b)) (a == b) := by
 obtain ⟨a0, a1, a2, a3, a4, rfl⟩ := five hx
 obtain ⟨b0, b1, b2, b3, b4, rfl⟩ := five hy
 have hw : ([a0, a1, a2, a3, a4] == [b0, b1, b2, b3, b4]) = ((a0 == b0) && ((a1 == b1) && ((a2 == b2) && ((a3 == b3) && ((a4 == b4) && true))))) := by simp
 rw [hw]
 refine val_eqArr (d := 9999) (n := 1) Tryz.underlying112 (fun _ => ⟨by kernel_rfl, by kernel_rfl⟩) ?_
 refine .cons (i := 0) (rest := [1, 2, 3, 4]) (fun _ => ⟨by kernel_rfl, by kernel_rfl⟩) (fun _ => ⟨by kernel_rfl, by kernel_rfl⟩) (val_eqBool Tryz.underlying4) ?_
 refine .cons (i := 1) (rest := [2, 3, 4]) (fun _ => ⟨by kernel_rfl, by kernel_rfl⟩) (fun _ => ⟨by kernel_rfl, by kernel_rfl⟩) (val_eqBool Tryz.underlying4) ?_
 refine .cons (i := 2) (rest := [3, 4]) (fun _ => ⟨by kernel_rfl, by kernel_rfl⟩) (fun _ => ⟨by kernel_rfl, by kernel_rfl⟩) (val_eqBool Tryz.underlying4) ?_
 refine .cons (i := 3) (rest := [4]) (fun _ => ⟨by kernel_rfl, by kernel_rfl⟩) (fun _ => ⟨by kernel_rfl, by kernel_rfl⟩) (val_eqBool Tryz.underlying4) ?_
 exact .cons (i := 4) (rest := []) (fun _ => ⟨by kernel_rfl, by kernel_rfl⟩) (fun _ => ⟨by kernel_rfl, by kernel_rfl⟩) (val_eqBool Tryz.underlying4) .nil
theorem kchk112 (e : Bool) {a : List Bool} (hx : a.length = 5) : Val Tryz.prog (Instr.checkKey e 10000 112 (keyV a)) () := by
 obtain ⟨a0, a1, a2, a3, a4, rfl⟩ := five hx
 exact fun _ => ⟨by kernel_rfl, by kernel_rfl⟩
theorem map104 : MapTy Tryz.prog 104 112 3 := ⟨Tryz.underlying104, ⟨_, Tryz.underlying112, fun a b => by cases a <;> rfl⟩, fun _ _ => keq112, fun e _ => kchk112 e, fun _ => ⟨by kernel_rfl, by kernel_rfl⟩⟩
theorem mixed : Tryz.prog.follows .mixedOrders = true := by kernel_rfl
end Go.Proofs.YtabamagholjdcaaGreatDoor
