/- Contracts of functions of the program. No conditions beyond those that each states. -/
import Derived.Test.YtldefnpobjabpaaGreatVmD
import Derived.Test.YtldefnpobjabpaaGreatProg
set_option linter.all false
set_option maxHeartbeats 8000000
set_option maxRecDepth 10000
namespace Go.Proofs.YtldefnpobjabpaaGreat.VM
open Go Go.RowKit Go.Proofs
theorem sz3 : Sz Tryz.prog 3 1 := Tryz.sizeOf3
instance : SzI Tryz.prog 3 1 := ⟨sz3⟩
theorem ag3 : Ag Tryz.prog 3 false := Tryz.isAgg3
instance : AgI Tryz.prog 3 false := ⟨ag3⟩
instance : TyI Tryz.prog 3 [.v (.int .i64 0)] := TyI.mk' (i := Tryz.t3) (by kernel_rfl) (by decide) (by decide) rfl (by decide) ⟨⟨rfl, rfl⟩, trivial⟩
theorem sz4 : Sz Tryz.prog 4 1 := Tryz.sizeOf4
instance : SzI Tryz.prog 4 1 := ⟨sz4⟩
theorem ag4 : Ag Tryz.prog 4 false := Tryz.isAgg4
instance : AgI Tryz.prog 4 false := ⟨ag4⟩
instance : TyI Tryz.prog 4 [.v (.bool false)] := TyI.mk' (i := Tryz.t4) (by kernel_rfl) (by decide) (by decide) rfl (by decide) ⟨⟨rfl, rfl⟩, trivial⟩
theorem sz219 : Sz Tryz.prog 219 4 := Tryz.sizeOf219
instance : SzI Tryz.prog 219 4 := ⟨sz219⟩
theorem ag219 : Ag Tryz.prog 219 true := Tryz.isAgg219
instance : AgI Tryz.prog 219 true := ⟨ag219⟩
instance : TyI Tryz.prog 219 [.v (.int .i64 0), .v (.int .i64 0), .v (.int .i64 0), .v (.int .i64 0)] := TyI.mk' (i := Tryz.t219) (by kernel_rfl) (by decide) (by decide) rfl (by decide) ⟨⟨rfl, rfl⟩, ⟨rfl, rfl⟩, ⟨rfl, rfl⟩, ⟨rfl, rfl⟩, trivial⟩
theorem fl219_0 : Fld Tryz.prog 219 0 0 := Fld.mk' 0 _ Tryz.underlying219 rfl sz3
instance : FlI Tryz.prog 219 0 0 := ⟨fl219_0⟩
theorem fl219_1 : Fld Tryz.prog 219 1 1 := Fld.mk' 1 _ Tryz.underlying219 rfl sz3
instance : FlI Tryz.prog 219 1 1 := ⟨fl219_1⟩
theorem fl219_2 : Fld Tryz.prog 219 2 2 := Fld.mk' 2 _ Tryz.underlying219 rfl sz3
instance : FlI Tryz.prog 219 2 2 := ⟨fl219_2⟩
theorem fl219_3 : Fld Tryz.prog 219 3 3 := Fld.mk' 3 _ Tryz.underlying219 rfl sz3
instance : FlI Tryz.prog 219 3 3 := ⟨fl219_3⟩
instance : SlI Tryz.prog 145 219 := ⟨Tryz.underlying145⟩
theorem sz145 : Sz Tryz.prog 145 1 := Tryz.sizeOf145
instance : SzI Tryz.prog 145 1 := ⟨sz145⟩
theorem ag145 : Ag Tryz.prog 145 false := Tryz.isAgg145
instance : AgI Tryz.prog 145 false := ⟨ag145⟩
instance : SlI Tryz.prog 22 145 := ⟨Tryz.underlying22⟩
theorem sz22 : Sz Tryz.prog 22 1 := Tryz.sizeOf22
theorem ag22 : Ag Tryz.prog 22 false := Tryz.isAgg22
instance : AgI Tryz.prog 22 false := ⟨ag22⟩
theorem sl24 : Sl Tryz.prog 24 3 := Tryz.underlying24
instance : SlI Tryz.prog 24 3 := ⟨Tryz.underlying24⟩
theorem sz24 : Sz Tryz.prog 24 1 := Tryz.sizeOf24
theorem ag24 : Ag Tryz.prog 24 false := Tryz.isAgg24
instance : AgI Tryz.prog 24 false := ⟨ag24⟩
instance : TyI Tryz.prog 24 [.s 1 0 fun _ _ => .j] := TyI.mk' (i := Tryz.t24) (by kernel_rfl) (by decide) (by decide) rfl (by decide) ⟨⟨by decide, rfl, rfl⟩, trivial⟩
theorem sz147 : Sz Tryz.prog 147 11 := Tryz.sizeOf147
instance : SzI Tryz.prog 147 11 := ⟨sz147⟩
theorem ag147 : Ag Tryz.prog 147 true := Tryz.isAgg147
instance : AgI Tryz.prog 147 true := ⟨ag147⟩
instance : TyI Tryz.prog 147 [.v (.bool false), .v (.int .i64 0), .v (.int .i64 0), .v (.int .i64 0), .v (.int .i64 0), .v (.int .i64 0), .v (.int .i64 0), .v (.int .i64 0), .s 1 0 fun _ _ => .j, .s 1 0 fun _ _ => .j, .s 1 0 fun _ _ => .j] := TyI.mk' (i := Tryz.t147) (by kernel_rfl) (by decide) (by decide) rfl (by decide) ⟨⟨rfl, rfl⟩, ⟨rfl, rfl⟩, ⟨rfl, rfl⟩, ⟨rfl, rfl⟩, ⟨rfl, rfl⟩, ⟨rfl, rfl⟩, ⟨rfl, rfl⟩, ⟨rfl, rfl⟩, ⟨by decide, rfl, rfl⟩, ⟨by decide, rfl, rfl⟩, ⟨by decide, rfl, rfl⟩, trivial⟩
theorem fl147_0 : Fld Tryz.prog 147 0 0 := Fld.mk' 0 _ Tryz.underlying147 rfl sz4
instance : FlI Tryz.prog 147 0 0 := ⟨fl147_0⟩
theorem fl147_1 : Fld Tryz.prog 147 1 1 := Fld.mk' 1 _ Tryz.underlying147 rfl sz3
instance : FlI Tryz.prog 147 1 1 := ⟨fl147_1⟩
theorem fl147_2 : Fld Tryz.prog 147 2 2 := Fld.mk' 2 _ Tryz.underlying147 rfl sz3
instance : FlI Tryz.prog 147 2 2 := ⟨fl147_2⟩
theorem fl147_3 : Fld Tryz.prog 147 3 3 := Fld.mk' 3 _ Tryz.underlying147 rfl sz3
instance : FlI Tryz.prog 147 3 3 := ⟨fl147_3⟩
theorem fl147_4 : Fld Tryz.prog 147 4 4 := Fld.mk' 4 _ Tryz.underlying147 rfl sz3
instance : FlI Tryz.prog 147 4 4 := ⟨fl147_4⟩
theorem fl147_5 : Fld Tryz.prog 147 5 5 := Fld.mk' 5 _ Tryz.underlying147 rfl sz3
instance : FlI Tryz.prog 147 5 5 := ⟨fl147_5⟩
theorem fl147_6 : Fld Tryz.prog 147 6 6 := Fld.mk' 6 _ Tryz.underlying147 rfl sz3
instance : FlI Tryz.prog 147 6 6 := ⟨fl147_6⟩
theorem fl147_7 : Fld Tryz.prog 147 7 7 := Fld.mk' 7 _ Tryz.underlying147 rfl sz3
instance : FlI Tryz.prog 147 7 7 := ⟨fl147_7⟩
theorem fl147_8 : Fld Tryz.prog 147 8 8 := Fld.mk' 8 _ Tryz.underlying147 rfl sz24
instance : FlI Tryz.prog 147 8 8 := ⟨fl147_8⟩
theorem fl147_9 : Fld Tryz.prog 147 9 9 := Fld.mk' 9 _ Tryz.underlying147 rfl sz24
instance : FlI Tryz.prog 147 9 9 := ⟨fl147_9⟩
theorem fl147_10 : Fld Tryz.prog 147 10 10 := Fld.mk' 10 _ Tryz.underlying147 rfl sz24
instance : FlI Tryz.prog 147 10 10 := ⟨fl147_10⟩
instance : SlI Tryz.prog 23 147 := ⟨Tryz.underlying23⟩
theorem sz23 : Sz Tryz.prog 23 1 := Tryz.sizeOf23
theorem ag23 : Ag Tryz.prog 23 false := Tryz.isAgg23
instance : AgI Tryz.prog 23 false := ⟨ag23⟩
theorem sl25 : Sl Tryz.prog 25 4 := Tryz.underlying25
instance : SlI Tryz.prog 25 4 := ⟨Tryz.underlying25⟩
theorem sz25 : Sz Tryz.prog 25 1 := Tryz.sizeOf25
theorem ag25 : Ag Tryz.prog 25 false := Tryz.isAgg25
instance : AgI Tryz.prog 25 false := ⟨ag25⟩
instance : TyI Tryz.prog 25 [.s 1 0 fun _ _ => .j] := TyI.mk' (i := Tryz.t25) (by kernel_rfl) (by decide) (by decide) rfl (by decide) ⟨⟨by decide, rfl, rfl⟩, trivial⟩
theorem sz159 : Sz Tryz.prog 159 5 := Tryz.sizeOf159
instance : SzI Tryz.prog 159 5 := ⟨sz159⟩
theorem ag159 : Ag Tryz.prog 159 true := Tryz.isAgg159
instance : AgI Tryz.prog 159 true := ⟨ag159⟩
instance : TyI Tryz.prog 159 [.v (.bool false), .v (.int .i64 0), .v (.int .i64 0), .v (.int .i64 0), .v (.int .i64 0)] := TyI.mk' (i := Tryz.t159) (by kernel_rfl) (by decide) (by decide) rfl (by decide) ⟨⟨rfl, rfl⟩, ⟨rfl, rfl⟩, ⟨rfl, rfl⟩, ⟨rfl, rfl⟩, ⟨rfl, rfl⟩, trivial⟩
theorem fl159_0 : Fld Tryz.prog 159 0 0 := Fld.mk' 0 _ Tryz.underlying159 rfl sz4
instance : FlI Tryz.prog 159 0 0 := ⟨fl159_0⟩
theorem fl159_1 : Fld Tryz.prog 159 1 1 := Fld.mk' 1 _ Tryz.underlying159 rfl sz3
instance : FlI Tryz.prog 159 1 1 := ⟨fl159_1⟩
theorem fl159_2 : Fld Tryz.prog 159 2 2 := Fld.mk' 2 _ Tryz.underlying159 rfl sz3
instance : FlI Tryz.prog 159 2 2 := ⟨fl159_2⟩
theorem fl159_3 : Fld Tryz.prog 159 3 3 := Fld.mk' 3 _ Tryz.underlying159 rfl sz3
instance : FlI Tryz.prog 159 3 3 := ⟨fl159_3⟩
theorem fl159_4 : Fld Tryz.prog 159 4 4 := Fld.mk' 4 _ Tryz.underlying159 rfl sz3
instance : FlI Tryz.prog 159 4 4 := ⟨fl159_4⟩
instance : SlI Tryz.prog 26 159 := ⟨Tryz.underlying26⟩
theorem sz26 : Sz Tryz.prog 26 1 := Tryz.sizeOf26
theorem ag26 : Ag Tryz.prog 26 false := Tryz.isAgg26
instance : AgI Tryz.prog 26 false := ⟨ag26⟩
theorem sz30 : Sz Tryz.prog 30 4 := Tryz.sizeOf30
instance : SzI Tryz.prog 30 4 := ⟨sz30⟩
theorem ag30 : Ag Tryz.prog 30 true := Tryz.isAgg30
instance : AgI Tryz.prog 30 true := ⟨ag30⟩
instance : TyI Tryz.prog 30 [.v (.bool false), .s 1 0 fun _ _ => .j, .v (.int .i64 0), .v (.int .i64 0)] := TyI.mk' (i := Tryz.t30) (by kernel_rfl) (by decide) (by decide) rfl (by decide) ⟨⟨rfl, rfl⟩, ⟨by decide, rfl, rfl⟩, ⟨rfl, rfl⟩, ⟨rfl, rfl⟩, trivial⟩
theorem fl30_0 : Fld Tryz.prog 30 0 0 := Fld.mk' 0 _ Tryz.underlying30 rfl sz4
instance : FlI Tryz.prog 30 0 0 := ⟨fl30_0⟩
theorem fl30_1 : Fld Tryz.prog 30 1 1 := Fld.mk' 1 _ Tryz.underlying30 rfl sz24
instance : FlI Tryz.prog 30 1 1 := ⟨fl30_1⟩
theorem fl30_2 : Fld Tryz.prog 30 2 2 := Fld.mk' 2 _ Tryz.underlying30 rfl sz3
instance : FlI Tryz.prog 30 2 2 := ⟨fl30_2⟩
theorem fl30_3 : Fld Tryz.prog 30 3 3 := Fld.mk' 3 _ Tryz.underlying30 rfl sz3
instance : FlI Tryz.prog 30 3 3 := ⟨fl30_3⟩
instance : SlI Tryz.prog 27 30 := ⟨Tryz.underlying27⟩
theorem sz27 : Sz Tryz.prog 27 1 := Tryz.sizeOf27
theorem ag27 : Ag Tryz.prog 27 false := Tryz.isAgg27
instance : AgI Tryz.prog 27 false := ⟨ag27⟩
theorem sz149 : Sz Tryz.prog 149 2 := Tryz.sizeOf149
instance : SzI Tryz.prog 149 2 := ⟨sz149⟩
theorem ag149 : Ag Tryz.prog 149 true := Tryz.isAgg149
instance : AgI Tryz.prog 149 true := ⟨ag149⟩
instance : TyI Tryz.prog 149 [.v (.bool false), .s 1 0 fun _ _ => .j] := TyI.mk' (i := Tryz.t149) (by kernel_rfl) (by decide) (by decide) rfl (by decide) ⟨⟨rfl, rfl⟩, ⟨by decide, rfl, rfl⟩, trivial⟩
theorem fl149_0 : Fld Tryz.prog 149 0 0 := Fld.mk' 0 _ Tryz.underlying149 rfl sz4
instance : FlI Tryz.prog 149 0 0 := ⟨fl149_0⟩
theorem fl149_1 : Fld Tryz.prog 149 1 1 := Fld.mk' 1 _ Tryz.underlying149 rfl sz24
instance : FlI Tryz.prog 149 1 1 := ⟨fl149_1⟩
instance : SlI Tryz.prog 28 149 := ⟨Tryz.underlying28⟩
theorem sz28 : Sz Tryz.prog 28 1 := Tryz.sizeOf28
theorem ag28 : Ag Tryz.prog 28 false := Tryz.isAgg28
instance : AgI Tryz.prog 28 false := ⟨ag28⟩
theorem sz32 : Sz Tryz.prog 32 14 := Tryz.sizeOf32
theorem ag32 : Ag Tryz.prog 32 true := Tryz.isAgg32
instance : TyI Tryz.prog 32 [.v (.int .i64 0), .v (.int .i64 0), .s 1 0 fun _ _ => .j, .s 11 0 fun _ _ => .j, .s 1 0 fun _ _ => .j, .s 1 0 fun _ _ => .j, .s 5 0 fun _ _ => .j, .s 4 0 fun _ _ => .j, .s 2 0 fun _ _ => .j, .v (.bool false), .s 1 0 fun _ _ => .j, .v (.int .i64 0), .v (.int .i64 0), .s 1 0 fun _ _ => .j] := TyI.mk' (i := Tryz.t32) (by kernel_rfl) (by decide) (by decide) rfl (by decide) ⟨⟨rfl, rfl⟩, ⟨rfl, rfl⟩, ⟨by decide, rfl, rfl⟩, ⟨by decide, rfl, rfl⟩, ⟨by decide, rfl, rfl⟩, ⟨by decide, rfl, rfl⟩, ⟨by decide, rfl, rfl⟩, ⟨by decide, rfl, rfl⟩, ⟨by decide, rfl, rfl⟩, ⟨rfl, rfl⟩, ⟨by decide, rfl, rfl⟩, ⟨rfl, rfl⟩, ⟨rfl, rfl⟩, ⟨by decide, rfl, rfl⟩, trivial⟩
theorem fl32_0 : Fld Tryz.prog 32 0 0 := Fld.mk' 0 _ Tryz.underlying32 rfl sz3
instance : FlI Tryz.prog 32 0 0 := ⟨fl32_0⟩
theorem fl32_1 : Fld Tryz.prog 32 1 1 := Fld.mk' 1 _ Tryz.underlying32 rfl sz3
instance : FlI Tryz.prog 32 1 1 := ⟨fl32_1⟩
theorem fl32_2 : Fld Tryz.prog 32 2 2 := Fld.mk' 2 _ Tryz.underlying32 rfl sz22
instance : FlI Tryz.prog 32 2 2 := ⟨fl32_2⟩
theorem fl32_3 : Fld Tryz.prog 32 3 3 := Fld.mk' 3 _ Tryz.underlying32 rfl sz23
instance : FlI Tryz.prog 32 3 3 := ⟨fl32_3⟩
theorem fl32_4 : Fld Tryz.prog 32 4 4 := Fld.mk' 4 _ Tryz.underlying32 rfl sz24
instance : FlI Tryz.prog 32 4 4 := ⟨fl32_4⟩
theorem fl32_5 : Fld Tryz.prog 32 5 5 := Fld.mk' 5 _ Tryz.underlying32 rfl sz25
instance : FlI Tryz.prog 32 5 5 := ⟨fl32_5⟩
theorem fl32_6 : Fld Tryz.prog 32 6 6 := Fld.mk' 6 _ Tryz.underlying32 rfl sz26
instance : FlI Tryz.prog 32 6 6 := ⟨fl32_6⟩
theorem fl32_7 : Fld Tryz.prog 32 7 7 := Fld.mk' 7 _ Tryz.underlying32 rfl sz27
instance : FlI Tryz.prog 32 7 7 := ⟨fl32_7⟩
theorem fl32_8 : Fld Tryz.prog 32 8 8 := Fld.mk' 8 _ Tryz.underlying32 rfl sz28
instance : FlI Tryz.prog 32 8 8 := ⟨fl32_8⟩
theorem fl32_9 : Fld Tryz.prog 32 9 9 := Fld.mk' 9 _ Tryz.underlying32 rfl sz30
instance : FlI Tryz.prog 32 9 9 := ⟨fl32_9⟩
theorem fl32_10 : Fld Tryz.prog 32 10 13 := Fld.mk' 10 _ Tryz.underlying32 rfl sz24
instance : FlI Tryz.prog 32 10 13 := ⟨fl32_10⟩
theorem sz170 : Sz Tryz.prog 170 4 := Tryz.sizeOf170
instance : SzI Tryz.prog 170 4 := ⟨sz170⟩
theorem ag170 : Ag Tryz.prog 170 true := Tryz.isAgg170
instance : AgI Tryz.prog 170 true := ⟨ag170⟩
instance : TyI Tryz.prog 170 [.v (.int .i64 0), .v (.int .i64 0), .v (.int .i64 0), .v (.int .i64 0)] := TyI.mk' (i := Tryz.t170) (by kernel_rfl) (by decide) (by decide) rfl (by decide) ⟨⟨rfl, rfl⟩, ⟨rfl, rfl⟩, ⟨rfl, rfl⟩, ⟨rfl, rfl⟩, trivial⟩
theorem fl170_0 : Fld Tryz.prog 170 0 0 := Fld.mk' 0 _ Tryz.underlying170 rfl sz3
instance : FlI Tryz.prog 170 0 0 := ⟨fl170_0⟩
theorem fl170_1 : Fld Tryz.prog 170 1 1 := Fld.mk' 1 _ Tryz.underlying170 rfl sz3
instance : FlI Tryz.prog 170 1 1 := ⟨fl170_1⟩
theorem fl170_2 : Fld Tryz.prog 170 2 2 := Fld.mk' 2 _ Tryz.underlying170 rfl sz3
instance : FlI Tryz.prog 170 2 2 := ⟨fl170_2⟩
theorem fl170_3 : Fld Tryz.prog 170 3 3 := Fld.mk' 3 _ Tryz.underlying170 rfl sz3
instance : FlI Tryz.prog 170 3 3 := ⟨fl170_3⟩
instance : BdI Tryz.prog 170 [(0, 1), (1, 1), (2, 1), (3, 1)] := ⟨⟨_, Tryz.underlying170, fun w => by simp [Tryz.sizeOf3]⟩⟩
theorem sl155 : Sl Tryz.prog 155 170 := Tryz.underlying155
instance : SlI Tryz.prog 155 170 := ⟨Tryz.underlying155⟩
theorem sz155 : Sz Tryz.prog 155 1 := Tryz.sizeOf155
instance : SzI Tryz.prog 155 1 := ⟨sz155⟩
theorem ag155 : Ag Tryz.prog 155 false := Tryz.isAgg155
instance : AgI Tryz.prog 155 false := ⟨ag155⟩
instance : TyI Tryz.prog 155 [.s 4 0 fun _ _ => .j] := TyI.mk' (i := Tryz.t155) (by kernel_rfl) (by decide) (by decide) rfl (by decide) ⟨⟨by decide, rfl, rfl⟩, trivial⟩
theorem sl34 : Sl Tryz.prog 34 155 := Tryz.underlying34
instance : SlI Tryz.prog 34 155 := ⟨Tryz.underlying34⟩
theorem sz34 : Sz Tryz.prog 34 1 := Tryz.sizeOf34
theorem ag34 : Ag Tryz.prog 34 false := Tryz.isAgg34
instance : AgI Tryz.prog 34 false := ⟨ag34⟩
instance : TyI Tryz.prog 34 [.s 1 0 fun _ _ => .j] := TyI.mk' (i := Tryz.t34) (by kernel_rfl) (by decide) (by decide) rfl (by decide) ⟨⟨by decide, rfl, rfl⟩, trivial⟩
theorem sz89 : Sz Tryz.prog 89 2 := Tryz.sizeOf89
instance : SzI Tryz.prog 89 2 := ⟨sz89⟩
theorem ag89 : Ag Tryz.prog 89 true := Tryz.isAgg89
instance : AgI Tryz.prog 89 true := ⟨ag89⟩
instance : TyI Tryz.prog 89 [.v (.int .i64 0), .s 1 0 fun _ _ => .j] := TyI.mk' (i := Tryz.t89) (by kernel_rfl) (by decide) (by decide) rfl (by decide) ⟨⟨rfl, rfl⟩, ⟨by decide, rfl, rfl⟩, trivial⟩
theorem fl89_0 : Fld Tryz.prog 89 0 0 := Fld.mk' 0 _ Tryz.underlying89 rfl sz3
instance : FlI Tryz.prog 89 0 0 := ⟨fl89_0⟩
theorem fl89_1 : Fld Tryz.prog 89 1 1 := Fld.mk' 1 _ Tryz.underlying89 rfl sz24
instance : FlI Tryz.prog 89 1 1 := ⟨fl89_1⟩
instance : BdI Tryz.prog 89 [(0, 1), (1, 1)] := ⟨⟨_, Tryz.underlying89, fun w => by simp [Tryz.sizeOf24, Tryz.sizeOf3]⟩⟩
theorem sz92 : Sz Tryz.prog 92 10 := Tryz.sizeOf92
instance : SzI Tryz.prog 92 10 := ⟨sz92⟩
theorem ag92 : Ag Tryz.prog 92 true := Tryz.isAgg92
instance : AgI Tryz.prog 92 true := ⟨ag92⟩
instance : TyI Tryz.prog 92 [.v (.int .i64 0), .v (.int .i64 0), .v (.int .i64 0), .v (.int .i64 0), .v (.int .i64 0), .s 1 0 fun _ _ => .j, .s 1 0 fun _ _ => .j, .s 1 0 fun _ _ => .j, .v (.int .i64 0), .v (.int .i64 0)] := TyI.mk' (i := Tryz.t92) (by kernel_rfl) (by decide) (by decide) rfl (by decide) ⟨⟨rfl, rfl⟩, ⟨rfl, rfl⟩, ⟨rfl, rfl⟩, ⟨rfl, rfl⟩, ⟨rfl, rfl⟩, ⟨by decide, rfl, rfl⟩, ⟨by decide, rfl, rfl⟩, ⟨by decide, rfl, rfl⟩, ⟨rfl, rfl⟩, ⟨rfl, rfl⟩, trivial⟩
theorem fl92_0 : Fld Tryz.prog 92 0 0 := Fld.mk' 0 _ Tryz.underlying92 rfl sz3
instance : FlI Tryz.prog 92 0 0 := ⟨fl92_0⟩
theorem fl92_1 : Fld Tryz.prog 92 1 1 := Fld.mk' 1 _ Tryz.underlying92 rfl sz3
instance : FlI Tryz.prog 92 1 1 := ⟨fl92_1⟩
theorem fl92_2 : Fld Tryz.prog 92 2 2 := Fld.mk' 2 _ Tryz.underlying92 rfl sz3
instance : FlI Tryz.prog 92 2 2 := ⟨fl92_2⟩
theorem fl92_3 : Fld Tryz.prog 92 3 3 := Fld.mk' 3 _ Tryz.underlying92 rfl sz3
instance : FlI Tryz.prog 92 3 3 := ⟨fl92_3⟩
theorem fl92_4 : Fld Tryz.prog 92 4 4 := Fld.mk' 4 _ Tryz.underlying92 rfl sz89
instance : FlI Tryz.prog 92 4 4 := ⟨fl92_4⟩
theorem fl92_5 : Fld Tryz.prog 92 5 6 := Fld.mk' 5 _ Tryz.underlying92 rfl sz24
instance : FlI Tryz.prog 92 5 6 := ⟨fl92_5⟩
theorem fl92_6 : Fld Tryz.prog 92 6 7 := Fld.mk' 6 _ Tryz.underlying92 rfl sz24
instance : FlI Tryz.prog 92 6 7 := ⟨fl92_6⟩
theorem fl92_7 : Fld Tryz.prog 92 7 8 := Fld.mk' 7 _ Tryz.underlying92 rfl sz3
instance : FlI Tryz.prog 92 7 8 := ⟨fl92_7⟩
theorem fl92_8 : Fld Tryz.prog 92 8 9 := Fld.mk' 8 _ Tryz.underlying92 rfl sz3
instance : FlI Tryz.prog 92 8 9 := ⟨fl92_8⟩
instance : BdI Tryz.prog 92 [(0, 1), (1, 1), (2, 1), (3, 1), (4, 2), (6, 1), (7, 1), (8, 1), (9, 1)] := ⟨⟨_, Tryz.underlying92, fun w => by simp [Tryz.sizeOf24, Tryz.sizeOf3, Tryz.sizeOf89]⟩⟩
theorem sl35 : Sl Tryz.prog 35 92 := Tryz.underlying35
instance : SlI Tryz.prog 35 92 := ⟨Tryz.underlying35⟩
theorem sz35 : Sz Tryz.prog 35 1 := Tryz.sizeOf35
theorem ag35 : Ag Tryz.prog 35 false := Tryz.isAgg35
instance : AgI Tryz.prog 35 false := ⟨ag35⟩
instance : TyI Tryz.prog 35 [.s 10 0 fun _ _ => .j] := TyI.mk' (i := Tryz.t35) (by kernel_rfl) (by decide) (by decide) rfl (by decide) ⟨⟨by decide, rfl, rfl⟩, trivial⟩
theorem sz98 : Sz Tryz.prog 98 5 := Tryz.sizeOf98
instance : SzI Tryz.prog 98 5 := ⟨sz98⟩
theorem ag98 : Ag Tryz.prog 98 true := Tryz.isAgg98
instance : AgI Tryz.prog 98 true := ⟨ag98⟩
instance : TyI Tryz.prog 98 [.v (.int .i64 0), .v (.int .i64 0), .v (.int .i64 0), .v (.int .i64 0), .v (.int .i64 0)] := TyI.mk' (i := Tryz.t98) (by kernel_rfl) (by decide) (by decide) rfl (by decide) ⟨⟨rfl, rfl⟩, ⟨rfl, rfl⟩, ⟨rfl, rfl⟩, ⟨rfl, rfl⟩, ⟨rfl, rfl⟩, trivial⟩
theorem fl98_0 : Fld Tryz.prog 98 0 0 := Fld.mk' 0 _ Tryz.underlying98 rfl sz3
instance : FlI Tryz.prog 98 0 0 := ⟨fl98_0⟩
theorem fl98_1 : Fld Tryz.prog 98 1 1 := Fld.mk' 1 _ Tryz.underlying98 rfl sz3
instance : FlI Tryz.prog 98 1 1 := ⟨fl98_1⟩
theorem fl98_2 : Fld Tryz.prog 98 2 2 := Fld.mk' 2 _ Tryz.underlying98 rfl sz3
instance : FlI Tryz.prog 98 2 2 := ⟨fl98_2⟩
theorem fl98_3 : Fld Tryz.prog 98 3 3 := Fld.mk' 3 _ Tryz.underlying98 rfl sz3
instance : FlI Tryz.prog 98 3 3 := ⟨fl98_3⟩
theorem fl98_4 : Fld Tryz.prog 98 4 4 := Fld.mk' 4 _ Tryz.underlying98 rfl sz3
instance : FlI Tryz.prog 98 4 4 := ⟨fl98_4⟩
instance : BdI Tryz.prog 98 [(0, 1), (1, 1), (2, 1), (3, 1), (4, 1)] := ⟨⟨_, Tryz.underlying98, fun w => by simp [Tryz.sizeOf3]⟩⟩
instance : SlI Tryz.prog 36 98 := ⟨Tryz.underlying36⟩
theorem sz36 : Sz Tryz.prog 36 1 := Tryz.sizeOf36
theorem ag36 : Ag Tryz.prog 36 false := Tryz.isAgg36
instance : AgI Tryz.prog 36 false := ⟨ag36⟩
instance : TyI Tryz.prog 36 [.s 5 0 fun _ _ => .j] := TyI.mk' (i := Tryz.t36) (by kernel_rfl) (by decide) (by decide) rfl (by decide) ⟨⟨by decide, rfl, rfl⟩, trivial⟩
theorem sz100 : Sz Tryz.prog 100 2 := Tryz.sizeOf100
instance : SzI Tryz.prog 100 2 := ⟨sz100⟩
theorem ag100 : Ag Tryz.prog 100 true := Tryz.isAgg100
instance : AgI Tryz.prog 100 true := ⟨ag100⟩
instance : TyI Tryz.prog 100 [.v (.int .i64 0), .s 1 0 fun _ _ => .j] := TyI.mk' (i := Tryz.t100) (by kernel_rfl) (by decide) (by decide) rfl (by decide) ⟨⟨rfl, rfl⟩, ⟨by decide, rfl, rfl⟩, trivial⟩
theorem fl100_0 : Fld Tryz.prog 100 0 0 := Fld.mk' 0 _ Tryz.underlying100 rfl sz3
instance : FlI Tryz.prog 100 0 0 := ⟨fl100_0⟩
theorem fl100_1 : Fld Tryz.prog 100 1 1 := Fld.mk' 1 _ Tryz.underlying100 rfl sz24
instance : FlI Tryz.prog 100 1 1 := ⟨fl100_1⟩
instance : BdI Tryz.prog 100 [(0, 1), (1, 1)] := ⟨⟨_, Tryz.underlying100, fun w => by simp [Tryz.sizeOf24, Tryz.sizeOf3]⟩⟩
instance : SlI Tryz.prog 37 100 := ⟨Tryz.underlying37⟩
theorem sz37 : Sz Tryz.prog 37 1 := Tryz.sizeOf37
theorem ag37 : Ag Tryz.prog 37 false := Tryz.isAgg37
instance : AgI Tryz.prog 37 false := ⟨ag37⟩
instance : TyI Tryz.prog 37 [.s 2 0 fun _ _ => .j] := TyI.mk' (i := Tryz.t37) (by kernel_rfl) (by decide) (by decide) rfl (by decide) ⟨⟨by decide, rfl, rfl⟩, trivial⟩
theorem sz104 : Sz Tryz.prog 104 2 := Tryz.sizeOf104
instance : SzI Tryz.prog 104 2 := ⟨sz104⟩
theorem ag104 : Ag Tryz.prog 104 true := Tryz.isAgg104
instance : AgI Tryz.prog 104 true := ⟨ag104⟩
instance : TyI Tryz.prog 104 [.v (.int .i64 0), .s 1 0 fun _ _ => .j] := TyI.mk' (i := Tryz.t104) (by kernel_rfl) (by decide) (by decide) rfl (by decide) ⟨⟨rfl, rfl⟩, ⟨by decide, rfl, rfl⟩, trivial⟩
theorem fl104_0 : Fld Tryz.prog 104 0 0 := Fld.mk' 0 _ Tryz.underlying104 rfl sz3
instance : FlI Tryz.prog 104 0 0 := ⟨fl104_0⟩
theorem fl104_1 : Fld Tryz.prog 104 1 1 := Fld.mk' 1 _ Tryz.underlying104 rfl sz24
instance : FlI Tryz.prog 104 1 1 := ⟨fl104_1⟩
instance : BdI Tryz.prog 104 [(0, 1), (1, 1)] := ⟨⟨_, Tryz.underlying104, fun w => by simp [Tryz.sizeOf24, Tryz.sizeOf3]⟩⟩
theorem sl38 : Sl Tryz.prog 38 104 := Tryz.underlying38
instance : SlI Tryz.prog 38 104 := ⟨Tryz.underlying38⟩
theorem sz38 : Sz Tryz.prog 38 1 := Tryz.sizeOf38
theorem ag38 : Ag Tryz.prog 38 false := Tryz.isAgg38
instance : AgI Tryz.prog 38 false := ⟨ag38⟩
instance : TyI Tryz.prog 38 [.s 2 0 fun _ _ => .j] := TyI.mk' (i := Tryz.t38) (by kernel_rfl) (by decide) (by decide) rfl (by decide) ⟨⟨by decide, rfl, rfl⟩, trivial⟩
theorem sz40 : Sz Tryz.prog 40 9 := Tryz.sizeOf40
instance : SzI Tryz.prog 40 9 := ⟨sz40⟩
theorem ag40 : Ag Tryz.prog 40 true := Tryz.isAgg40
instance : AgI Tryz.prog 40 true := ⟨ag40⟩
instance : TyI Tryz.prog 40 [.v (.int .i64 0), .v (.int .i64 0), .s 1 0 fun _ _ => .j, .s 10 0 fun _ _ => .j, .s 5 0 fun _ _ => .j, .s 2 0 fun _ _ => .j, .s 2 0 fun _ _ => .j, .s 1 0 fun _ _ => .j, .s 1 0 fun _ _ => .j] := TyI.mk' (i := Tryz.t40) (by kernel_rfl) (by decide) (by decide) rfl (by decide) ⟨⟨rfl, rfl⟩, ⟨rfl, rfl⟩, ⟨by decide, rfl, rfl⟩, ⟨by decide, rfl, rfl⟩, ⟨by decide, rfl, rfl⟩, ⟨by decide, rfl, rfl⟩, ⟨by decide, rfl, rfl⟩, ⟨by decide, rfl, rfl⟩, ⟨by decide, rfl, rfl⟩, trivial⟩
theorem fl40_0 : Fld Tryz.prog 40 0 0 := Fld.mk' 0 _ Tryz.underlying40 rfl sz3
instance : FlI Tryz.prog 40 0 0 := ⟨fl40_0⟩
theorem fl40_1 : Fld Tryz.prog 40 1 1 := Fld.mk' 1 _ Tryz.underlying40 rfl sz3
instance : FlI Tryz.prog 40 1 1 := ⟨fl40_1⟩
theorem fl40_2 : Fld Tryz.prog 40 2 2 := Fld.mk' 2 _ Tryz.underlying40 rfl sz34
instance : FlI Tryz.prog 40 2 2 := ⟨fl40_2⟩
theorem fl40_3 : Fld Tryz.prog 40 3 3 := Fld.mk' 3 _ Tryz.underlying40 rfl sz35
instance : FlI Tryz.prog 40 3 3 := ⟨fl40_3⟩
theorem fl40_4 : Fld Tryz.prog 40 4 4 := Fld.mk' 4 _ Tryz.underlying40 rfl sz36
instance : FlI Tryz.prog 40 4 4 := ⟨fl40_4⟩
theorem fl40_5 : Fld Tryz.prog 40 5 5 := Fld.mk' 5 _ Tryz.underlying40 rfl sz37
instance : FlI Tryz.prog 40 5 5 := ⟨fl40_5⟩
theorem fl40_6 : Fld Tryz.prog 40 6 6 := Fld.mk' 6 _ Tryz.underlying40 rfl sz38
instance : FlI Tryz.prog 40 6 6 := ⟨fl40_6⟩
theorem fl40_7 : Fld Tryz.prog 40 7 7 := Fld.mk' 7 _ Tryz.underlying40 rfl sz24
instance : FlI Tryz.prog 40 7 7 := ⟨fl40_7⟩
theorem fl40_8 : Fld Tryz.prog 40 8 8 := Fld.mk' 8 _ Tryz.underlying40 rfl sz24
instance : FlI Tryz.prog 40 8 8 := ⟨fl40_8⟩
instance : BdI Tryz.prog 40 [(0, 1), (1, 1), (2, 1), (3, 1), (4, 1), (5, 1), (6, 1), (7, 1), (8, 1)] := ⟨⟨_, Tryz.underlying40, fun w => by simp [Tryz.sizeOf24, Tryz.sizeOf3, Tryz.sizeOf34, Tryz.sizeOf35, Tryz.sizeOf36, Tryz.sizeOf37, Tryz.sizeOf38]⟩⟩
theorem sz87 : Sz Tryz.prog 87 11 := Tryz.sizeOf87
instance : SzI Tryz.prog 87 11 := ⟨sz87⟩
theorem ag87 : Ag Tryz.prog 87 true := Tryz.isAgg87
instance : AgI Tryz.prog 87 true := ⟨ag87⟩
instance : TyI Tryz.prog 87 [.v (.bool false), .v (.int .i64 0), .v (.int .i64 0), .v (.int .i64 0), .v (.int .i64 0), .v (.int .i64 0), .v (.int .i64 0), .v (.int .i64 0), .s 1 0 fun _ _ => .j, .s 1 0 fun _ _ => .j, .s 1 0 fun _ _ => .j] := TyI.mk' (i := Tryz.t87) (by kernel_rfl) (by decide) (by decide) rfl (by decide) ⟨⟨rfl, rfl⟩, ⟨rfl, rfl⟩, ⟨rfl, rfl⟩, ⟨rfl, rfl⟩, ⟨rfl, rfl⟩, ⟨rfl, rfl⟩, ⟨rfl, rfl⟩, ⟨rfl, rfl⟩, ⟨by decide, rfl, rfl⟩, ⟨by decide, rfl, rfl⟩, ⟨by decide, rfl, rfl⟩, trivial⟩
theorem fl87_0 : Fld Tryz.prog 87 0 0 := Fld.mk' 0 _ Tryz.underlying87 rfl sz4
instance : FlI Tryz.prog 87 0 0 := ⟨fl87_0⟩
theorem fl87_1 : Fld Tryz.prog 87 1 1 := Fld.mk' 1 _ Tryz.underlying87 rfl sz3
instance : FlI Tryz.prog 87 1 1 := ⟨fl87_1⟩
theorem fl87_2 : Fld Tryz.prog 87 2 2 := Fld.mk' 2 _ Tryz.underlying87 rfl sz3
instance : FlI Tryz.prog 87 2 2 := ⟨fl87_2⟩
theorem fl87_3 : Fld Tryz.prog 87 3 3 := Fld.mk' 3 _ Tryz.underlying87 rfl sz3
instance : FlI Tryz.prog 87 3 3 := ⟨fl87_3⟩
theorem fl87_4 : Fld Tryz.prog 87 4 4 := Fld.mk' 4 _ Tryz.underlying87 rfl sz3
instance : FlI Tryz.prog 87 4 4 := ⟨fl87_4⟩
theorem fl87_5 : Fld Tryz.prog 87 5 5 := Fld.mk' 5 _ Tryz.underlying87 rfl sz3
instance : FlI Tryz.prog 87 5 5 := ⟨fl87_5⟩
theorem fl87_6 : Fld Tryz.prog 87 6 6 := Fld.mk' 6 _ Tryz.underlying87 rfl sz3
instance : FlI Tryz.prog 87 6 6 := ⟨fl87_6⟩
theorem fl87_7 : Fld Tryz.prog 87 7 7 := Fld.mk' 7 _ Tryz.underlying87 rfl sz3
instance : FlI Tryz.prog 87 7 7 := ⟨fl87_7⟩
theorem fl87_8 : Fld Tryz.prog 87 8 8 := Fld.mk' 8 _ Tryz.underlying87 rfl sz24
instance : FlI Tryz.prog 87 8 8 := ⟨fl87_8⟩
theorem fl87_9 : Fld Tryz.prog 87 9 9 := Fld.mk' 9 _ Tryz.underlying87 rfl sz24
instance : FlI Tryz.prog 87 9 9 := ⟨fl87_9⟩
theorem fl87_10 : Fld Tryz.prog 87 10 10 := Fld.mk' 10 _ Tryz.underlying87 rfl sz24
instance : FlI Tryz.prog 87 10 10 := ⟨fl87_10⟩
theorem sl42 : Sl Tryz.prog 42 87 := Tryz.underlying42
instance : SlI Tryz.prog 42 87 := ⟨Tryz.underlying42⟩
theorem sz42 : Sz Tryz.prog 42 1 := Tryz.sizeOf42
theorem ag42 : Ag Tryz.prog 42 false := Tryz.isAgg42
instance : AgI Tryz.prog 42 false := ⟨ag42⟩
instance : TyI Tryz.prog 42 [.s 11 0 fun _ _ => .j] := TyI.mk' (i := Tryz.t42) (by kernel_rfl) (by decide) (by decide) rfl (by decide) ⟨⟨by decide, rfl, rfl⟩, trivial⟩
theorem sz96 : Sz Tryz.prog 96 5 := Tryz.sizeOf96
instance : SzI Tryz.prog 96 5 := ⟨sz96⟩
theorem ag96 : Ag Tryz.prog 96 true := Tryz.isAgg96
instance : AgI Tryz.prog 96 true := ⟨ag96⟩
instance : TyI Tryz.prog 96 [.v (.bool false), .v (.int .i64 0), .v (.int .i64 0), .v (.int .i64 0), .v (.int .i64 0)] := TyI.mk' (i := Tryz.t96) (by kernel_rfl) (by decide) (by decide) rfl (by decide) ⟨⟨rfl, rfl⟩, ⟨rfl, rfl⟩, ⟨rfl, rfl⟩, ⟨rfl, rfl⟩, ⟨rfl, rfl⟩, trivial⟩
theorem fl96_0 : Fld Tryz.prog 96 0 0 := Fld.mk' 0 _ Tryz.underlying96 rfl sz4
instance : FlI Tryz.prog 96 0 0 := ⟨fl96_0⟩
theorem fl96_1 : Fld Tryz.prog 96 1 1 := Fld.mk' 1 _ Tryz.underlying96 rfl sz3
instance : FlI Tryz.prog 96 1 1 := ⟨fl96_1⟩
theorem fl96_2 : Fld Tryz.prog 96 2 2 := Fld.mk' 2 _ Tryz.underlying96 rfl sz3
instance : FlI Tryz.prog 96 2 2 := ⟨fl96_2⟩
theorem fl96_3 : Fld Tryz.prog 96 3 3 := Fld.mk' 3 _ Tryz.underlying96 rfl sz3
instance : FlI Tryz.prog 96 3 3 := ⟨fl96_3⟩
theorem fl96_4 : Fld Tryz.prog 96 4 4 := Fld.mk' 4 _ Tryz.underlying96 rfl sz3
instance : FlI Tryz.prog 96 4 4 := ⟨fl96_4⟩
instance : BdI Tryz.prog 96 [(0, 1), (1, 1), (2, 1), (3, 1), (4, 1)] := ⟨⟨_, Tryz.underlying96, fun w => by simp [Tryz.sizeOf3, Tryz.sizeOf4]⟩⟩
theorem sl43 : Sl Tryz.prog 43 96 := Tryz.underlying43
instance : SlI Tryz.prog 43 96 := ⟨Tryz.underlying43⟩
theorem sz43 : Sz Tryz.prog 43 1 := Tryz.sizeOf43
theorem ag43 : Ag Tryz.prog 43 false := Tryz.isAgg43
instance : AgI Tryz.prog 43 false := ⟨ag43⟩
instance : TyI Tryz.prog 43 [.s 5 0 fun _ _ => .j] := TyI.mk' (i := Tryz.t43) (by kernel_rfl) (by decide) (by decide) rfl (by decide) ⟨⟨by decide, rfl, rfl⟩, trivial⟩
theorem sz46 : Sz Tryz.prog 46 4 := Tryz.sizeOf46
instance : SzI Tryz.prog 46 4 := ⟨sz46⟩
theorem ag46 : Ag Tryz.prog 46 true := Tryz.isAgg46
instance : AgI Tryz.prog 46 true := ⟨ag46⟩
instance : TyI Tryz.prog 46 [.v (.bool false), .s 1 0 fun _ _ => .j, .v (.int .i64 0), .v (.int .i64 0)] := TyI.mk' (i := Tryz.t46) (by kernel_rfl) (by decide) (by decide) rfl (by decide) ⟨⟨rfl, rfl⟩, ⟨by decide, rfl, rfl⟩, ⟨rfl, rfl⟩, ⟨rfl, rfl⟩, trivial⟩
theorem fl46_0 : Fld Tryz.prog 46 0 0 := Fld.mk' 0 _ Tryz.underlying46 rfl sz4
instance : FlI Tryz.prog 46 0 0 := ⟨fl46_0⟩
theorem fl46_1 : Fld Tryz.prog 46 1 1 := Fld.mk' 1 _ Tryz.underlying46 rfl sz24
instance : FlI Tryz.prog 46 1 1 := ⟨fl46_1⟩
theorem fl46_2 : Fld Tryz.prog 46 2 2 := Fld.mk' 2 _ Tryz.underlying46 rfl sz3
instance : FlI Tryz.prog 46 2 2 := ⟨fl46_2⟩
theorem fl46_3 : Fld Tryz.prog 46 3 3 := Fld.mk' 3 _ Tryz.underlying46 rfl sz3
instance : FlI Tryz.prog 46 3 3 := ⟨fl46_3⟩
theorem sl44 : Sl Tryz.prog 44 46 := Tryz.underlying44
instance : SlI Tryz.prog 44 46 := ⟨Tryz.underlying44⟩
theorem sz44 : Sz Tryz.prog 44 1 := Tryz.sizeOf44
theorem ag44 : Ag Tryz.prog 44 false := Tryz.isAgg44
instance : AgI Tryz.prog 44 false := ⟨ag44⟩
instance : TyI Tryz.prog 44 [.s 4 0 fun _ _ => .j] := TyI.mk' (i := Tryz.t44) (by kernel_rfl) (by decide) (by decide) rfl (by decide) ⟨⟨by decide, rfl, rfl⟩, trivial⟩
theorem sz102 : Sz Tryz.prog 102 2 := Tryz.sizeOf102
instance : SzI Tryz.prog 102 2 := ⟨sz102⟩
theorem ag102 : Ag Tryz.prog 102 true := Tryz.isAgg102
instance : AgI Tryz.prog 102 true := ⟨ag102⟩
instance : TyI Tryz.prog 102 [.v (.bool false), .s 1 0 fun _ _ => .j] := TyI.mk' (i := Tryz.t102) (by kernel_rfl) (by decide) (by decide) rfl (by decide) ⟨⟨rfl, rfl⟩, ⟨by decide, rfl, rfl⟩, trivial⟩
theorem fl102_0 : Fld Tryz.prog 102 0 0 := Fld.mk' 0 _ Tryz.underlying102 rfl sz4
instance : FlI Tryz.prog 102 0 0 := ⟨fl102_0⟩
theorem fl102_1 : Fld Tryz.prog 102 1 1 := Fld.mk' 1 _ Tryz.underlying102 rfl sz24
instance : FlI Tryz.prog 102 1 1 := ⟨fl102_1⟩
theorem sl45 : Sl Tryz.prog 45 102 := Tryz.underlying45
instance : SlI Tryz.prog 45 102 := ⟨Tryz.underlying45⟩
theorem sz45 : Sz Tryz.prog 45 1 := Tryz.sizeOf45
theorem ag45 : Ag Tryz.prog 45 false := Tryz.isAgg45
instance : AgI Tryz.prog 45 false := ⟨ag45⟩
instance : TyI Tryz.prog 45 [.s 2 0 fun _ _ => .j] := TyI.mk' (i := Tryz.t45) (by kernel_rfl) (by decide) (by decide) rfl (by decide) ⟨⟨by decide, rfl, rfl⟩, trivial⟩
theorem sz48 : Sz Tryz.prog 48 14 := Tryz.sizeOf48
instance : SzI Tryz.prog 48 14 := ⟨sz48⟩
theorem ag48 : Ag Tryz.prog 48 true := Tryz.isAgg48
instance : AgI Tryz.prog 48 true := ⟨ag48⟩
instance : TyI Tryz.prog 48 [.v (.int .i64 0), .v (.int .i64 0), .s 1 0 fun _ _ => .j, .s 11 0 fun _ _ => .j, .s 1 0 fun _ _ => .j, .s 1 0 fun _ _ => .j, .s 5 0 fun _ _ => .j, .s 4 0 fun _ _ => .j, .s 2 0 fun _ _ => .j, .v (.bool false), .s 1 0 fun _ _ => .j, .v (.int .i64 0), .v (.int .i64 0), .s 1 0 fun _ _ => .j] := TyI.mk' (i := Tryz.t48) (by kernel_rfl) (by decide) (by decide) rfl (by decide) ⟨⟨rfl, rfl⟩, ⟨rfl, rfl⟩, ⟨by decide, rfl, rfl⟩, ⟨by decide, rfl, rfl⟩, ⟨by decide, rfl, rfl⟩, ⟨by decide, rfl, rfl⟩, ⟨by decide, rfl, rfl⟩, ⟨by decide, rfl, rfl⟩, ⟨by decide, rfl, rfl⟩, ⟨rfl, rfl⟩, ⟨by decide, rfl, rfl⟩, ⟨rfl, rfl⟩, ⟨rfl, rfl⟩, ⟨by decide, rfl, rfl⟩, trivial⟩
theorem fl48_0 : Fld Tryz.prog 48 0 0 := Fld.mk' 0 _ Tryz.underlying48 rfl sz3
instance : FlI Tryz.prog 48 0 0 := ⟨fl48_0⟩
theorem fl48_1 : Fld Tryz.prog 48 1 1 := Fld.mk' 1 _ Tryz.underlying48 rfl sz3
instance : FlI Tryz.prog 48 1 1 := ⟨fl48_1⟩
theorem fl48_2 : Fld Tryz.prog 48 2 2 := Fld.mk' 2 _ Tryz.underlying48 rfl sz34
instance : FlI Tryz.prog 48 2 2 := ⟨fl48_2⟩
theorem fl48_3 : Fld Tryz.prog 48 3 3 := Fld.mk' 3 _ Tryz.underlying48 rfl sz42
instance : FlI Tryz.prog 48 3 3 := ⟨fl48_3⟩
theorem fl48_4 : Fld Tryz.prog 48 4 4 := Fld.mk' 4 _ Tryz.underlying48 rfl sz24
instance : FlI Tryz.prog 48 4 4 := ⟨fl48_4⟩
theorem fl48_5 : Fld Tryz.prog 48 5 5 := Fld.mk' 5 _ Tryz.underlying48 rfl sz25
instance : FlI Tryz.prog 48 5 5 := ⟨fl48_5⟩
theorem fl48_6 : Fld Tryz.prog 48 6 6 := Fld.mk' 6 _ Tryz.underlying48 rfl sz43
instance : FlI Tryz.prog 48 6 6 := ⟨fl48_6⟩
theorem fl48_7 : Fld Tryz.prog 48 7 7 := Fld.mk' 7 _ Tryz.underlying48 rfl sz44
instance : FlI Tryz.prog 48 7 7 := ⟨fl48_7⟩
theorem fl48_8 : Fld Tryz.prog 48 8 8 := Fld.mk' 8 _ Tryz.underlying48 rfl sz45
instance : FlI Tryz.prog 48 8 8 := ⟨fl48_8⟩
theorem fl48_9 : Fld Tryz.prog 48 9 9 := Fld.mk' 9 _ Tryz.underlying48 rfl sz46
instance : FlI Tryz.prog 48 9 9 := ⟨fl48_9⟩
theorem fl48_10 : Fld Tryz.prog 48 10 13 := Fld.mk' 10 _ Tryz.underlying48 rfl sz24
instance : FlI Tryz.prog 48 10 13 := ⟨fl48_10⟩
theorem eq170 (x0 : Int) (x1 : Int) (x2 : Int) (x3 : Int) (y0 : Int) (y1 : Int) (y2 : Int) (y3 : Int) (x y : Operand) (w : World) : (do eqGuard .eql 170 x y (.agg [iv x0, iv x1, iv x2, iv x3].toArray) (.agg [iv y0, iv y1, iv y2, iv y3].toArray); binOp .eql 170 (.agg [iv x0, iv x1, iv x2, iv x3].toArray) (.agg [iv y0, iv y1, iv y2, iv y3].toArray)).run Tryz.prog w = .ok (.bool (decide (x0 = y0 ∧ x1 = y1 ∧ x2 = y2 ∧ x3 = y3))) w := by
 have hg : ∀ w, (eqGuard .eql 170 x y (.agg [iv x0, iv x1, iv x2, iv x3].toArray) (.agg [iv y0, iv y1, iv y2, iv y3].toArray)).run Tryz.prog w = .ok () w := by
  intro w
  have : Tryz.prog.eqGuardType Tryz.prog.depth 170 = false := by kernel_rfl
  simp [eqGuard, this]
 have u3 := Tryz.underlying3
 have a3 := Tryz.isAgg3
 have z3 := Tryz.sizeOf3
 have hS : Tryz.prog.underlying 170 = some (.struct (Tryz.prog.fieldsOf 170)) := by kernel_rfl
 have hp : Tryz.prog.stoodInHeld 170 = false := by kernel_rfl
 simp only [Sem.run_bind, hg, Result.andThen]
 rw [run_eql_struct, show (10000 : Nat) = 9999 + 1 from rfl, run_equalIn_agg w 9999 170 _ _ hS hp]
 simp only [Program.fieldsOf, Tryz.underlying170]
 go_simp
 by_cases h0 : x0 = y0 <;> by_cases h1 : x1 = y1 <;> by_cases h2 : x2 = y2 <;> by_cases h3 : x3 = y3 <;> simp [h0, h1, h2, h3]
theorem ne96 (x0 : Bool) (x1 : Int) (x2 : Int) (x3 : Int) (x4 : Int) (y0 : Bool) (y1 : Int) (y2 : Int) (y3 : Int) (y4 : Int) (x y : Operand) (w : World) : (do eqGuard .neq 96 x y (.agg [Value.bool x0, iv x1, iv x2, iv x3, iv x4].toArray) (.agg [Value.bool y0, iv y1, iv y2, iv y3, iv y4].toArray); binOp .neq 96 (.agg [Value.bool x0, iv x1, iv x2, iv x3, iv x4].toArray) (.agg [Value.bool y0, iv y1, iv y2, iv y3, iv y4].toArray)).run Tryz.prog w = .ok (.bool (!decide (x0 = y0 ∧ x1 = y1 ∧ x2 = y2 ∧ x3 = y3 ∧ x4 = y4))) w := by
 have hg : ∀ w, (eqGuard .neq 96 x y (.agg [Value.bool x0, iv x1, iv x2, iv x3, iv x4].toArray) (.agg [Value.bool y0, iv y1, iv y2, iv y3, iv y4].toArray)).run Tryz.prog w = .ok () w := by
  intro w
  have : Tryz.prog.eqGuardType Tryz.prog.depth 96 = false := by kernel_rfl
  simp [eqGuard, this]
 have u3 := Tryz.underlying3
 have a3 := Tryz.isAgg3
 have z3 := Tryz.sizeOf3
 have u4 := Tryz.underlying4
 have a4 := Tryz.isAgg4
 have z4 := Tryz.sizeOf4
 have hS : Tryz.prog.underlying 96 = some (.struct (Tryz.prog.fieldsOf 96)) := by kernel_rfl
 have hp : Tryz.prog.stoodInHeld 96 = false := by kernel_rfl
 simp only [Sem.run_bind, hg, Result.andThen]
 rw [run_neq_struct, show (10000 : Nat) = 9999 + 1 from rfl, run_equalIn_agg w 9999 96 _ _ hS hp]
 simp only [Program.fieldsOf, Tryz.underlying96]
 go_simp
 by_cases h0 : x0 = y0 <;> by_cases h1 : x1 = y1 <;> by_cases h2 : x2 = y2 <;> by_cases h3 : x3 = y3 <;> by_cases h4 : x4 = y4 <;> simp [h0, h1, h2, h3, h4]
end Go.Proofs.YtldefnpobjabpaaGreat.VM
