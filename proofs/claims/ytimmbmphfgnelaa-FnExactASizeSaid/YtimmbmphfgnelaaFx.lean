/- Contracts of functions of the program. No conditions beyond those that each states. -/
import Derived.Test.YtimmbmphfgnelaaVmE
import Derived.Test.YtimmbmphfgnelaaProg
set_option linter.all false
namespace Go.Proofs.Ytimmbmphfgnelaa.VM
open Go Go.RowKit Go.Proofs
theorem sz3 : Sz Try.prog 3 1 := Try.sizeOf3
theorem ag3 : Ag Try.prog 3 false := Try.isAgg3
instance : TyI Try.prog 3 [.v (.int .i64 0)] := TyI.mk' (i := Try.t3) (by kernel_rfl) (by decide) (by decide) rfl (by decide) ⟨⟨rfl, rfl⟩, trivial⟩
theorem sz4 : Sz Try.prog 4 1 := Try.sizeOf4
theorem ag4 : Ag Try.prog 4 false := Try.isAgg4
instance : TyI Try.prog 4 [.v (.bool false)] := TyI.mk' (i := Try.t4) (by kernel_rfl) (by decide) (by decide) rfl (by decide) ⟨⟨rfl, rfl⟩, trivial⟩
theorem sz220 : Sz Try.prog 220 4 := Try.sizeOf220
theorem ag220 : Ag Try.prog 220 true := Try.isAgg220
instance : TyI Try.prog 220 [.v (.int .i64 0), .v (.int .i64 0), .v (.int .i64 0), .v (.int .i64 0)] := TyI.mk' (i := Try.t220) (by kernel_rfl) (by decide) (by decide) rfl (by decide) ⟨⟨rfl, rfl⟩, ⟨rfl, rfl⟩, ⟨rfl, rfl⟩, ⟨rfl, rfl⟩, trivial⟩
theorem fl220_0 : Fld Try.prog 220 0 0 := Fld.mk' 0 _ Try.underlying220 rfl sz3
theorem fl220_1 : Fld Try.prog 220 1 1 := Fld.mk' 1 _ Try.underlying220 rfl sz3
theorem fl220_2 : Fld Try.prog 220 2 2 := Fld.mk' 2 _ Try.underlying220 rfl sz3
theorem fl220_3 : Fld Try.prog 220 3 3 := Fld.mk' 3 _ Try.underlying220 rfl sz3
instance : BdI Try.prog 220 [(0, 1), (1, 1), (2, 1), (3, 1)] := ⟨⟨_, Try.underlying220, fun w => by simp [Try.sizeOf3]⟩⟩
theorem sl134 : Sl Try.prog 134 220 := Try.underlying134
instance : SlI Try.prog 134 220 := ⟨Try.underlying134⟩
theorem sz134 : Sz Try.prog 134 1 := Try.sizeOf134
theorem ag134 : Ag Try.prog 134 false := Try.isAgg134
instance : TyI Try.prog 134 [.s 4 0 fun _ _ => .j] := TyI.mk' (i := Try.t134) (by kernel_rfl) (by decide) (by decide) rfl (by decide) ⟨⟨by decide, rfl, rfl⟩, trivial⟩
theorem sl22 : Sl Try.prog 22 134 := Try.underlying22
instance : SlI Try.prog 22 134 := ⟨Try.underlying22⟩
theorem sz22 : Sz Try.prog 22 1 := Try.sizeOf22
theorem ag22 : Ag Try.prog 22 false := Try.isAgg22
instance : TyI Try.prog 22 [.s 1 0 fun _ _ => .j] := TyI.mk' (i := Try.t22) (by kernel_rfl) (by decide) (by decide) rfl (by decide) ⟨⟨by decide, rfl, rfl⟩, trivial⟩
theorem sl24 : Sl Try.prog 24 3 := Try.underlying24
instance : SlI Try.prog 24 3 := ⟨Try.underlying24⟩
theorem sz24 : Sz Try.prog 24 1 := Try.sizeOf24
theorem ag24 : Ag Try.prog 24 false := Try.isAgg24
instance : TyI Try.prog 24 [.s 1 0 fun _ _ => .j] := TyI.mk' (i := Try.t24) (by kernel_rfl) (by decide) (by decide) rfl (by decide) ⟨⟨by decide, rfl, rfl⟩, trivial⟩
theorem sz168 : Sz Try.prog 168 2 := Try.sizeOf168
theorem ag168 : Ag Try.prog 168 true := Try.isAgg168
instance : TyI Try.prog 168 [.v (.int .i64 0), .s 1 0 fun _ _ => .j] := TyI.mk' (i := Try.t168) (by kernel_rfl) (by decide) (by decide) rfl (by decide) ⟨⟨rfl, rfl⟩, ⟨by decide, rfl, rfl⟩, trivial⟩
theorem fl168_0 : Fld Try.prog 168 0 0 := Fld.mk' 0 _ Try.underlying168 rfl sz3
theorem fl168_1 : Fld Try.prog 168 1 1 := Fld.mk' 1 _ Try.underlying168 rfl sz24
instance : BdI Try.prog 168 [(0, 1), (1, 1)] := ⟨⟨_, Try.underlying168, fun w => by simp [Try.sizeOf24, Try.sizeOf3]⟩⟩
theorem sz170 : Sz Try.prog 170 10 := Try.sizeOf170
theorem ag170 : Ag Try.prog 170 true := Try.isAgg170
instance : TyI Try.prog 170 [.v (.int .i64 0), .v (.int .i64 0), .v (.int .i64 0), .v (.int .i64 0), .v (.int .i64 0), .s 1 0 fun _ _ => .j, .s 1 0 fun _ _ => .j, .s 1 0 fun _ _ => .j, .v (.int .i64 0), .v (.int .i64 0)] := TyI.mk' (i := Try.t170) (by kernel_rfl) (by decide) (by decide) rfl (by decide) ⟨⟨rfl, rfl⟩, ⟨rfl, rfl⟩, ⟨rfl, rfl⟩, ⟨rfl, rfl⟩, ⟨rfl, rfl⟩, ⟨by decide, rfl, rfl⟩, ⟨by decide, rfl, rfl⟩, ⟨by decide, rfl, rfl⟩, ⟨rfl, rfl⟩, ⟨rfl, rfl⟩, trivial⟩
theorem fl170_0 : Fld Try.prog 170 0 0 := Fld.mk' 0 _ Try.underlying170 rfl sz3
theorem fl170_1 : Fld Try.prog 170 1 1 := Fld.mk' 1 _ Try.underlying170 rfl sz3
theorem fl170_2 : Fld Try.prog 170 2 2 := Fld.mk' 2 _ Try.underlying170 rfl sz3
theorem fl170_3 : Fld Try.prog 170 3 3 := Fld.mk' 3 _ Try.underlying170 rfl sz3
theorem fl170_4 : Fld Try.prog 170 4 4 := Fld.mk' 4 _ Try.underlying170 rfl sz168
theorem fl170_5 : Fld Try.prog 170 5 6 := Fld.mk' 5 _ Try.underlying170 rfl sz24
theorem fl170_6 : Fld Try.prog 170 6 7 := Fld.mk' 6 _ Try.underlying170 rfl sz24
theorem fl170_7 : Fld Try.prog 170 7 8 := Fld.mk' 7 _ Try.underlying170 rfl sz3
theorem fl170_8 : Fld Try.prog 170 8 9 := Fld.mk' 8 _ Try.underlying170 rfl sz3
instance : BdI Try.prog 170 [(0, 1), (1, 1), (2, 1), (3, 1), (4, 2), (6, 1), (7, 1), (8, 1), (9, 1)] := ⟨⟨_, Try.underlying170, fun w => by simp [Try.sizeOf168, Try.sizeOf24, Try.sizeOf3]⟩⟩
theorem sl23 : Sl Try.prog 23 170 := Try.underlying23
instance : SlI Try.prog 23 170 := ⟨Try.underlying23⟩
theorem sz23 : Sz Try.prog 23 1 := Try.sizeOf23
theorem ag23 : Ag Try.prog 23 false := Try.isAgg23
instance : TyI Try.prog 23 [.s 10 0 fun _ _ => .j] := TyI.mk' (i := Try.t23) (by kernel_rfl) (by decide) (by decide) rfl (by decide) ⟨⟨by decide, rfl, rfl⟩, trivial⟩
theorem sl25 : Sl Try.prog 25 24 := Try.underlying25
instance : SlI Try.prog 25 24 := ⟨Try.underlying25⟩
theorem sz25 : Sz Try.prog 25 1 := Try.sizeOf25
theorem ag25 : Ag Try.prog 25 false := Try.isAgg25
instance : TyI Try.prog 25 [.s 1 0 fun _ _ => .j] := TyI.mk' (i := Try.t25) (by kernel_rfl) (by decide) (by decide) rfl (by decide) ⟨⟨by decide, rfl, rfl⟩, trivial⟩
theorem sz27 : Sz Try.prog 27 1 := Try.sizeOf27
theorem ag27 : Ag Try.prog 27 true := Try.isAgg27
instance : TyI Try.prog 27 [.s 1 0 fun _ _ => .j] := TyI.mk' (i := Try.t27) (by kernel_rfl) (by decide) (by decide) rfl (by decide) ⟨⟨by decide, rfl, rfl⟩, trivial⟩
theorem fl27_0 : Fld Try.prog 27 0 0 := Fld.mk' 0 _ Try.underlying27 rfl sz25
instance : BdI Try.prog 27 [(0, 1)] := ⟨⟨_, Try.underlying27, fun w => by simp [Try.sizeOf25]⟩⟩
theorem sz178 : Sz Try.prog 178 5 := Try.sizeOf178
theorem ag178 : Ag Try.prog 178 true := Try.isAgg178
instance : TyI Try.prog 178 [.v (.int .i64 0), .v (.int .i64 0), .v (.int .i64 0), .v (.int .i64 0), .v (.int .i64 0)] := TyI.mk' (i := Try.t178) (by kernel_rfl) (by decide) (by decide) rfl (by decide) ⟨⟨rfl, rfl⟩, ⟨rfl, rfl⟩, ⟨rfl, rfl⟩, ⟨rfl, rfl⟩, ⟨rfl, rfl⟩, trivial⟩
theorem fl178_0 : Fld Try.prog 178 0 0 := Fld.mk' 0 _ Try.underlying178 rfl sz3
theorem fl178_1 : Fld Try.prog 178 1 1 := Fld.mk' 1 _ Try.underlying178 rfl sz3
theorem fl178_2 : Fld Try.prog 178 2 2 := Fld.mk' 2 _ Try.underlying178 rfl sz3
theorem fl178_3 : Fld Try.prog 178 3 3 := Fld.mk' 3 _ Try.underlying178 rfl sz3
theorem fl178_4 : Fld Try.prog 178 4 4 := Fld.mk' 4 _ Try.underlying178 rfl sz3
instance : BdI Try.prog 178 [(0, 1), (1, 1), (2, 1), (3, 1), (4, 1)] := ⟨⟨_, Try.underlying178, fun w => by simp [Try.sizeOf3]⟩⟩
theorem sl28 : Sl Try.prog 28 178 := Try.underlying28
instance : SlI Try.prog 28 178 := ⟨Try.underlying28⟩
theorem sz28 : Sz Try.prog 28 1 := Try.sizeOf28
theorem ag28 : Ag Try.prog 28 false := Try.isAgg28
instance : TyI Try.prog 28 [.s 5 0 fun _ _ => .j] := TyI.mk' (i := Try.t28) (by kernel_rfl) (by decide) (by decide) rfl (by decide) ⟨⟨by decide, rfl, rfl⟩, trivial⟩
theorem sz172 : Sz Try.prog 172 2 := Try.sizeOf172
theorem ag172 : Ag Try.prog 172 true := Try.isAgg172
instance : TyI Try.prog 172 [.v (.int .i64 0), .s 1 0 fun _ _ => .j] := TyI.mk' (i := Try.t172) (by kernel_rfl) (by decide) (by decide) rfl (by decide) ⟨⟨rfl, rfl⟩, ⟨by decide, rfl, rfl⟩, trivial⟩
theorem fl172_0 : Fld Try.prog 172 0 0 := Fld.mk' 0 _ Try.underlying172 rfl sz3
theorem fl172_1 : Fld Try.prog 172 1 1 := Fld.mk' 1 _ Try.underlying172 rfl sz25
instance : BdI Try.prog 172 [(0, 1), (1, 1)] := ⟨⟨_, Try.underlying172, fun w => by simp [Try.sizeOf25, Try.sizeOf3]⟩⟩
theorem sl29 : Sl Try.prog 29 172 := Try.underlying29
instance : SlI Try.prog 29 172 := ⟨Try.underlying29⟩
theorem sz29 : Sz Try.prog 29 1 := Try.sizeOf29
theorem ag29 : Ag Try.prog 29 false := Try.isAgg29
instance : TyI Try.prog 29 [.s 2 0 fun _ _ => .j] := TyI.mk' (i := Try.t29) (by kernel_rfl) (by decide) (by decide) rfl (by decide) ⟨⟨by decide, rfl, rfl⟩, trivial⟩
theorem sz175 : Sz Try.prog 175 2 := Try.sizeOf175
theorem ag175 : Ag Try.prog 175 true := Try.isAgg175
instance : TyI Try.prog 175 [.v (.int .i64 0), .s 1 0 fun _ _ => .j] := TyI.mk' (i := Try.t175) (by kernel_rfl) (by decide) (by decide) rfl (by decide) ⟨⟨rfl, rfl⟩, ⟨by decide, rfl, rfl⟩, trivial⟩
theorem fl175_0 : Fld Try.prog 175 0 0 := Fld.mk' 0 _ Try.underlying175 rfl sz3
theorem fl175_1 : Fld Try.prog 175 1 1 := Fld.mk' 1 _ Try.underlying175 rfl sz24
instance : BdI Try.prog 175 [(0, 1), (1, 1)] := ⟨⟨_, Try.underlying175, fun w => by simp [Try.sizeOf24, Try.sizeOf3]⟩⟩
theorem sl30 : Sl Try.prog 30 175 := Try.underlying30
instance : SlI Try.prog 30 175 := ⟨Try.underlying30⟩
theorem sz30 : Sz Try.prog 30 1 := Try.sizeOf30
theorem ag30 : Ag Try.prog 30 false := Try.isAgg30
instance : TyI Try.prog 30 [.s 2 0 fun _ _ => .j] := TyI.mk' (i := Try.t30) (by kernel_rfl) (by decide) (by decide) rfl (by decide) ⟨⟨by decide, rfl, rfl⟩, trivial⟩
theorem sz32 : Sz Try.prog 32 11 := Try.sizeOf32
theorem ag32 : Ag Try.prog 32 true := Try.isAgg32
instance : TyI Try.prog 32 [.v (.int .i64 0), .v (.int .i64 0), .s 1 0 fun _ _ => .j, .s 10 0 fun _ _ => .j, .s 1 0 fun _ _ => .j, .s 1 0 fun _ _ => .j, .s 5 0 fun _ _ => .j, .s 2 0 fun _ _ => .j, .s 2 0 fun _ _ => .j, .s 1 0 fun _ _ => .j, .s 1 0 fun _ _ => .j] := TyI.mk' (i := Try.t32) (by kernel_rfl) (by decide) (by decide) rfl (by decide) ⟨⟨rfl, rfl⟩, ⟨rfl, rfl⟩, ⟨by decide, rfl, rfl⟩, ⟨by decide, rfl, rfl⟩, ⟨by decide, rfl, rfl⟩, ⟨by decide, rfl, rfl⟩, ⟨by decide, rfl, rfl⟩, ⟨by decide, rfl, rfl⟩, ⟨by decide, rfl, rfl⟩, ⟨by decide, rfl, rfl⟩, ⟨by decide, rfl, rfl⟩, trivial⟩
theorem fl32_0 : Fld Try.prog 32 0 0 := Fld.mk' 0 _ Try.underlying32 rfl sz3
theorem fl32_1 : Fld Try.prog 32 1 1 := Fld.mk' 1 _ Try.underlying32 rfl sz3
theorem fl32_2 : Fld Try.prog 32 2 2 := Fld.mk' 2 _ Try.underlying32 rfl sz22
theorem fl32_3 : Fld Try.prog 32 3 3 := Fld.mk' 3 _ Try.underlying32 rfl sz23
theorem fl32_4 : Fld Try.prog 32 4 4 := Fld.mk' 4 _ Try.underlying32 rfl sz24
theorem fl32_5 : Fld Try.prog 32 5 5 := Fld.mk' 5 _ Try.underlying32 rfl sz27
theorem fl32_6 : Fld Try.prog 32 6 6 := Fld.mk' 6 _ Try.underlying32 rfl sz28
theorem fl32_7 : Fld Try.prog 32 7 7 := Fld.mk' 7 _ Try.underlying32 rfl sz29
theorem fl32_8 : Fld Try.prog 32 8 8 := Fld.mk' 8 _ Try.underlying32 rfl sz30
theorem fl32_9 : Fld Try.prog 32 9 9 := Fld.mk' 9 _ Try.underlying32 rfl sz24
theorem fl32_10 : Fld Try.prog 32 10 10 := Fld.mk' 10 _ Try.underlying32 rfl sz24
instance : BdI Try.prog 32 [(0, 1), (1, 1), (2, 1), (3, 1), (4, 1), (5, 1), (6, 1), (7, 1), (8, 1), (9, 1), (10, 1)] := ⟨⟨_, Try.underlying32, fun w => by simp [Try.sizeOf22, Try.sizeOf23, Try.sizeOf24, Try.sizeOf27, Try.sizeOf28, Try.sizeOf29, Try.sizeOf3, Try.sizeOf30]⟩⟩
theorem sz218 : Sz Try.prog 218 4 := Try.sizeOf218
theorem ag218 : Ag Try.prog 218 true := Try.isAgg218
instance : TyI Try.prog 218 [.v (.int .i64 0), .v (.int .i64 0), .v (.int .i64 0), .v (.int .i64 0)] := TyI.mk' (i := Try.t218) (by kernel_rfl) (by decide) (by decide) rfl (by decide) ⟨⟨rfl, rfl⟩, ⟨rfl, rfl⟩, ⟨rfl, rfl⟩, ⟨rfl, rfl⟩, trivial⟩
theorem fl218_0 : Fld Try.prog 218 0 0 := Fld.mk' 0 _ Try.underlying218 rfl sz3
theorem fl218_1 : Fld Try.prog 218 1 1 := Fld.mk' 1 _ Try.underlying218 rfl sz3
theorem fl218_2 : Fld Try.prog 218 2 2 := Fld.mk' 2 _ Try.underlying218 rfl sz3
theorem fl218_3 : Fld Try.prog 218 3 3 := Fld.mk' 3 _ Try.underlying218 rfl sz3
instance : BdI Try.prog 218 [(0, 1), (1, 1), (2, 1), (3, 1)] := ⟨⟨_, Try.underlying218, fun w => by simp [Try.sizeOf3]⟩⟩
theorem sl138 : Sl Try.prog 138 218 := Try.underlying138
instance : SlI Try.prog 138 218 := ⟨Try.underlying138⟩
theorem sz138 : Sz Try.prog 138 1 := Try.sizeOf138
theorem ag138 : Ag Try.prog 138 false := Try.isAgg138
instance : TyI Try.prog 138 [.s 4 0 fun _ _ => .j] := TyI.mk' (i := Try.t138) (by kernel_rfl) (by decide) (by decide) rfl (by decide) ⟨⟨by decide, rfl, rfl⟩, trivial⟩
theorem sl35 : Sl Try.prog 35 138 := Try.underlying35
instance : SlI Try.prog 35 138 := ⟨Try.underlying35⟩
theorem sz35 : Sz Try.prog 35 1 := Try.sizeOf35
theorem ag35 : Ag Try.prog 35 false := Try.isAgg35
instance : TyI Try.prog 35 [.s 1 0 fun _ _ => .j] := TyI.mk' (i := Try.t35) (by kernel_rfl) (by decide) (by decide) rfl (by decide) ⟨⟨by decide, rfl, rfl⟩, trivial⟩
theorem sz97 : Sz Try.prog 97 2 := Try.sizeOf97
theorem ag97 : Ag Try.prog 97 true := Try.isAgg97
instance : TyI Try.prog 97 [.v (.int .i64 0), .s 1 0 fun _ _ => .j] := TyI.mk' (i := Try.t97) (by kernel_rfl) (by decide) (by decide) rfl (by decide) ⟨⟨rfl, rfl⟩, ⟨by decide, rfl, rfl⟩, trivial⟩
theorem fl97_0 : Fld Try.prog 97 0 0 := Fld.mk' 0 _ Try.underlying97 rfl sz3
theorem fl97_1 : Fld Try.prog 97 1 1 := Fld.mk' 1 _ Try.underlying97 rfl sz24
instance : BdI Try.prog 97 [(0, 1), (1, 1)] := ⟨⟨_, Try.underlying97, fun w => by simp [Try.sizeOf24, Try.sizeOf3]⟩⟩
theorem sz99 : Sz Try.prog 99 10 := Try.sizeOf99
theorem ag99 : Ag Try.prog 99 true := Try.isAgg99
instance : TyI Try.prog 99 [.v (.int .i64 0), .v (.int .i64 0), .v (.int .i64 0), .v (.int .i64 0), .v (.int .i64 0), .s 1 0 fun _ _ => .j, .s 1 0 fun _ _ => .j, .s 1 0 fun _ _ => .j, .v (.int .i64 0), .v (.int .i64 0)] := TyI.mk' (i := Try.t99) (by kernel_rfl) (by decide) (by decide) rfl (by decide) ⟨⟨rfl, rfl⟩, ⟨rfl, rfl⟩, ⟨rfl, rfl⟩, ⟨rfl, rfl⟩, ⟨rfl, rfl⟩, ⟨by decide, rfl, rfl⟩, ⟨by decide, rfl, rfl⟩, ⟨by decide, rfl, rfl⟩, ⟨rfl, rfl⟩, ⟨rfl, rfl⟩, trivial⟩
theorem fl99_0 : Fld Try.prog 99 0 0 := Fld.mk' 0 _ Try.underlying99 rfl sz3
theorem fl99_1 : Fld Try.prog 99 1 1 := Fld.mk' 1 _ Try.underlying99 rfl sz3
theorem fl99_2 : Fld Try.prog 99 2 2 := Fld.mk' 2 _ Try.underlying99 rfl sz3
theorem fl99_3 : Fld Try.prog 99 3 3 := Fld.mk' 3 _ Try.underlying99 rfl sz3
theorem fl99_4 : Fld Try.prog 99 4 4 := Fld.mk' 4 _ Try.underlying99 rfl sz97
theorem fl99_5 : Fld Try.prog 99 5 6 := Fld.mk' 5 _ Try.underlying99 rfl sz24
theorem fl99_6 : Fld Try.prog 99 6 7 := Fld.mk' 6 _ Try.underlying99 rfl sz24
theorem fl99_7 : Fld Try.prog 99 7 8 := Fld.mk' 7 _ Try.underlying99 rfl sz3
theorem fl99_8 : Fld Try.prog 99 8 9 := Fld.mk' 8 _ Try.underlying99 rfl sz3
instance : BdI Try.prog 99 [(0, 1), (1, 1), (2, 1), (3, 1), (4, 2), (6, 1), (7, 1), (8, 1), (9, 1)] := ⟨⟨_, Try.underlying99, fun w => by simp [Try.sizeOf24, Try.sizeOf3, Try.sizeOf97]⟩⟩
theorem sl36 : Sl Try.prog 36 99 := Try.underlying36
instance : SlI Try.prog 36 99 := ⟨Try.underlying36⟩
theorem sz36 : Sz Try.prog 36 1 := Try.sizeOf36
theorem ag36 : Ag Try.prog 36 false := Try.isAgg36
instance : TyI Try.prog 36 [.s 10 0 fun _ _ => .j] := TyI.mk' (i := Try.t36) (by kernel_rfl) (by decide) (by decide) rfl (by decide) ⟨⟨by decide, rfl, rfl⟩, trivial⟩
theorem sz37 : Sz Try.prog 37 1 := Try.sizeOf37
theorem ag37 : Ag Try.prog 37 true := Try.isAgg37
instance : TyI Try.prog 37 [.s 1 0 fun _ _ => .j] := TyI.mk' (i := Try.t37) (by kernel_rfl) (by decide) (by decide) rfl (by decide) ⟨⟨by decide, rfl, rfl⟩, trivial⟩
theorem fl37_0 : Fld Try.prog 37 0 0 := Fld.mk' 0 _ Try.underlying37 rfl sz25
instance : BdI Try.prog 37 [(0, 1)] := ⟨⟨_, Try.underlying37, fun w => by simp [Try.sizeOf25]⟩⟩
theorem sz137 : Sz Try.prog 137 5 := Try.sizeOf137
theorem ag137 : Ag Try.prog 137 true := Try.isAgg137
instance : TyI Try.prog 137 [.v (.int .i64 0), .v (.int .i64 0), .v (.int .i64 0), .v (.int .i64 0), .v (.int .i64 0)] := TyI.mk' (i := Try.t137) (by kernel_rfl) (by decide) (by decide) rfl (by decide) ⟨⟨rfl, rfl⟩, ⟨rfl, rfl⟩, ⟨rfl, rfl⟩, ⟨rfl, rfl⟩, ⟨rfl, rfl⟩, trivial⟩
theorem fl137_0 : Fld Try.prog 137 0 0 := Fld.mk' 0 _ Try.underlying137 rfl sz3
theorem fl137_1 : Fld Try.prog 137 1 1 := Fld.mk' 1 _ Try.underlying137 rfl sz3
theorem fl137_2 : Fld Try.prog 137 2 2 := Fld.mk' 2 _ Try.underlying137 rfl sz3
theorem fl137_3 : Fld Try.prog 137 3 3 := Fld.mk' 3 _ Try.underlying137 rfl sz3
theorem fl137_4 : Fld Try.prog 137 4 4 := Fld.mk' 4 _ Try.underlying137 rfl sz3
instance : BdI Try.prog 137 [(0, 1), (1, 1), (2, 1), (3, 1), (4, 1)] := ⟨⟨_, Try.underlying137, fun w => by simp [Try.sizeOf3]⟩⟩
theorem sl38 : Sl Try.prog 38 137 := Try.underlying38
instance : SlI Try.prog 38 137 := ⟨Try.underlying38⟩
theorem sz38 : Sz Try.prog 38 1 := Try.sizeOf38
theorem ag38 : Ag Try.prog 38 false := Try.isAgg38
instance : TyI Try.prog 38 [.s 5 0 fun _ _ => .j] := TyI.mk' (i := Try.t38) (by kernel_rfl) (by decide) (by decide) rfl (by decide) ⟨⟨by decide, rfl, rfl⟩, trivial⟩
theorem sz101 : Sz Try.prog 101 2 := Try.sizeOf101
theorem ag101 : Ag Try.prog 101 true := Try.isAgg101
instance : TyI Try.prog 101 [.v (.int .i64 0), .s 1 0 fun _ _ => .j] := TyI.mk' (i := Try.t101) (by kernel_rfl) (by decide) (by decide) rfl (by decide) ⟨⟨rfl, rfl⟩, ⟨by decide, rfl, rfl⟩, trivial⟩
theorem fl101_0 : Fld Try.prog 101 0 0 := Fld.mk' 0 _ Try.underlying101 rfl sz3
theorem fl101_1 : Fld Try.prog 101 1 1 := Fld.mk' 1 _ Try.underlying101 rfl sz25
instance : BdI Try.prog 101 [(0, 1), (1, 1)] := ⟨⟨_, Try.underlying101, fun w => by simp [Try.sizeOf25, Try.sizeOf3]⟩⟩
theorem sl39 : Sl Try.prog 39 101 := Try.underlying39
instance : SlI Try.prog 39 101 := ⟨Try.underlying39⟩
theorem sz39 : Sz Try.prog 39 1 := Try.sizeOf39
theorem ag39 : Ag Try.prog 39 false := Try.isAgg39
instance : TyI Try.prog 39 [.s 2 0 fun _ _ => .j] := TyI.mk' (i := Try.t39) (by kernel_rfl) (by decide) (by decide) rfl (by decide) ⟨⟨by decide, rfl, rfl⟩, trivial⟩
theorem sz180 : Sz Try.prog 180 2 := Try.sizeOf180
theorem ag180 : Ag Try.prog 180 true := Try.isAgg180
instance : TyI Try.prog 180 [.v (.int .i64 0), .s 1 0 fun _ _ => .j] := TyI.mk' (i := Try.t180) (by kernel_rfl) (by decide) (by decide) rfl (by decide) ⟨⟨rfl, rfl⟩, ⟨by decide, rfl, rfl⟩, trivial⟩
theorem fl180_0 : Fld Try.prog 180 0 0 := Fld.mk' 0 _ Try.underlying180 rfl sz3
theorem fl180_1 : Fld Try.prog 180 1 1 := Fld.mk' 1 _ Try.underlying180 rfl sz24
instance : BdI Try.prog 180 [(0, 1), (1, 1)] := ⟨⟨_, Try.underlying180, fun w => by simp [Try.sizeOf24, Try.sizeOf3]⟩⟩
theorem sl40 : Sl Try.prog 40 180 := Try.underlying40
instance : SlI Try.prog 40 180 := ⟨Try.underlying40⟩
theorem sz40 : Sz Try.prog 40 1 := Try.sizeOf40
theorem ag40 : Ag Try.prog 40 false := Try.isAgg40
instance : TyI Try.prog 40 [.s 2 0 fun _ _ => .j] := TyI.mk' (i := Try.t40) (by kernel_rfl) (by decide) (by decide) rfl (by decide) ⟨⟨by decide, rfl, rfl⟩, trivial⟩
theorem sz42 : Sz Try.prog 42 11 := Try.sizeOf42
theorem ag42 : Ag Try.prog 42 true := Try.isAgg42
instance : TyI Try.prog 42 [.v (.int .i64 0), .v (.int .i64 0), .s 1 0 fun _ _ => .j, .s 10 0 fun _ _ => .j, .s 1 0 fun _ _ => .j, .s 1 0 fun _ _ => .j, .s 5 0 fun _ _ => .j, .s 2 0 fun _ _ => .j, .s 2 0 fun _ _ => .j, .s 1 0 fun _ _ => .j, .s 1 0 fun _ _ => .j] := TyI.mk' (i := Try.t42) (by kernel_rfl) (by decide) (by decide) rfl (by decide) ⟨⟨rfl, rfl⟩, ⟨rfl, rfl⟩, ⟨by decide, rfl, rfl⟩, ⟨by decide, rfl, rfl⟩, ⟨by decide, rfl, rfl⟩, ⟨by decide, rfl, rfl⟩, ⟨by decide, rfl, rfl⟩, ⟨by decide, rfl, rfl⟩, ⟨by decide, rfl, rfl⟩, ⟨by decide, rfl, rfl⟩, ⟨by decide, rfl, rfl⟩, trivial⟩
theorem fl42_0 : Fld Try.prog 42 0 0 := Fld.mk' 0 _ Try.underlying42 rfl sz3
theorem fl42_1 : Fld Try.prog 42 1 1 := Fld.mk' 1 _ Try.underlying42 rfl sz3
theorem fl42_2 : Fld Try.prog 42 2 2 := Fld.mk' 2 _ Try.underlying42 rfl sz35
theorem fl42_3 : Fld Try.prog 42 3 3 := Fld.mk' 3 _ Try.underlying42 rfl sz36
theorem fl42_4 : Fld Try.prog 42 4 4 := Fld.mk' 4 _ Try.underlying42 rfl sz24
theorem fl42_5 : Fld Try.prog 42 5 5 := Fld.mk' 5 _ Try.underlying42 rfl sz37
theorem fl42_6 : Fld Try.prog 42 6 6 := Fld.mk' 6 _ Try.underlying42 rfl sz38
theorem fl42_7 : Fld Try.prog 42 7 7 := Fld.mk' 7 _ Try.underlying42 rfl sz39
theorem fl42_8 : Fld Try.prog 42 8 8 := Fld.mk' 8 _ Try.underlying42 rfl sz40
theorem fl42_9 : Fld Try.prog 42 9 9 := Fld.mk' 9 _ Try.underlying42 rfl sz24
theorem fl42_10 : Fld Try.prog 42 10 10 := Fld.mk' 10 _ Try.underlying42 rfl sz24
instance : BdI Try.prog 42 [(0, 1), (1, 1), (2, 1), (3, 1), (4, 1), (5, 1), (6, 1), (7, 1), (8, 1), (9, 1), (10, 1)] := ⟨⟨_, Try.underlying42, fun w => by simp [Try.sizeOf24, Try.sizeOf3, Try.sizeOf35, Try.sizeOf36, Try.sizeOf37, Try.sizeOf38, Try.sizeOf39, Try.sizeOf40]⟩⟩
theorem sz193 : Sz Try.prog 193 11 := Try.sizeOf193
theorem ag193 : Ag Try.prog 193 true := Try.isAgg193
instance : TyI Try.prog 193 [.v (.bool false), .v (.int .i64 0), .v (.int .i64 0), .v (.int .i64 0), .v (.int .i64 0), .v (.int .i64 0), .v (.int .i64 0), .v (.int .i64 0), .s 1 0 fun _ _ => .j, .s 1 0 fun _ _ => .j, .s 1 0 fun _ _ => .j] := TyI.mk' (i := Try.t193) (by kernel_rfl) (by decide) (by decide) rfl (by decide) ⟨⟨rfl, rfl⟩, ⟨rfl, rfl⟩, ⟨rfl, rfl⟩, ⟨rfl, rfl⟩, ⟨rfl, rfl⟩, ⟨rfl, rfl⟩, ⟨rfl, rfl⟩, ⟨rfl, rfl⟩, ⟨by decide, rfl, rfl⟩, ⟨by decide, rfl, rfl⟩, ⟨by decide, rfl, rfl⟩, trivial⟩
theorem fl193_0 : Fld Try.prog 193 0 0 := Fld.mk' 0 _ Try.underlying193 rfl sz4
theorem fl193_1 : Fld Try.prog 193 1 1 := Fld.mk' 1 _ Try.underlying193 rfl sz3
theorem fl193_2 : Fld Try.prog 193 2 2 := Fld.mk' 2 _ Try.underlying193 rfl sz3
theorem fl193_3 : Fld Try.prog 193 3 3 := Fld.mk' 3 _ Try.underlying193 rfl sz3
theorem fl193_4 : Fld Try.prog 193 4 4 := Fld.mk' 4 _ Try.underlying193 rfl sz3
theorem fl193_5 : Fld Try.prog 193 5 5 := Fld.mk' 5 _ Try.underlying193 rfl sz3
theorem fl193_6 : Fld Try.prog 193 6 6 := Fld.mk' 6 _ Try.underlying193 rfl sz3
theorem fl193_7 : Fld Try.prog 193 7 7 := Fld.mk' 7 _ Try.underlying193 rfl sz3
theorem fl193_8 : Fld Try.prog 193 8 8 := Fld.mk' 8 _ Try.underlying193 rfl sz24
theorem fl193_9 : Fld Try.prog 193 9 9 := Fld.mk' 9 _ Try.underlying193 rfl sz24
theorem fl193_10 : Fld Try.prog 193 10 10 := Fld.mk' 10 _ Try.underlying193 rfl sz24
instance : BdI Try.prog 193 [(0, 1), (1, 1), (2, 1), (3, 1), (4, 1), (5, 1), (6, 1), (7, 1), (8, 1), (9, 1), (10, 1)] := ⟨⟨_, Try.underlying193, fun w => by simp [Try.sizeOf24, Try.sizeOf3, Try.sizeOf4]⟩⟩
theorem sl46 : Sl Try.prog 46 193 := Try.underlying46
instance : SlI Try.prog 46 193 := ⟨Try.underlying46⟩
theorem sz46 : Sz Try.prog 46 1 := Try.sizeOf46
theorem ag46 : Ag Try.prog 46 false := Try.isAgg46
instance : TyI Try.prog 46 [.s 11 0 fun _ _ => .j] := TyI.mk' (i := Try.t46) (by kernel_rfl) (by decide) (by decide) rfl (by decide) ⟨⟨by decide, rfl, rfl⟩, trivial⟩
theorem sl47 : Sl Try.prog 47 4 := Try.underlying47
instance : SlI Try.prog 47 4 := ⟨Try.underlying47⟩
theorem sz47 : Sz Try.prog 47 1 := Try.sizeOf47
theorem ag47 : Ag Try.prog 47 false := Try.isAgg47
instance : TyI Try.prog 47 [.s 1 0 fun _ _ => .j] := TyI.mk' (i := Try.t47) (by kernel_rfl) (by decide) (by decide) rfl (by decide) ⟨⟨by decide, rfl, rfl⟩, trivial⟩
theorem sz205 : Sz Try.prog 205 5 := Try.sizeOf205
theorem ag205 : Ag Try.prog 205 true := Try.isAgg205
instance : TyI Try.prog 205 [.v (.bool false), .v (.int .i64 0), .v (.int .i64 0), .v (.int .i64 0), .v (.int .i64 0)] := TyI.mk' (i := Try.t205) (by kernel_rfl) (by decide) (by decide) rfl (by decide) ⟨⟨rfl, rfl⟩, ⟨rfl, rfl⟩, ⟨rfl, rfl⟩, ⟨rfl, rfl⟩, ⟨rfl, rfl⟩, trivial⟩
theorem fl205_0 : Fld Try.prog 205 0 0 := Fld.mk' 0 _ Try.underlying205 rfl sz4
theorem fl205_1 : Fld Try.prog 205 1 1 := Fld.mk' 1 _ Try.underlying205 rfl sz3
theorem fl205_2 : Fld Try.prog 205 2 2 := Fld.mk' 2 _ Try.underlying205 rfl sz3
theorem fl205_3 : Fld Try.prog 205 3 3 := Fld.mk' 3 _ Try.underlying205 rfl sz3
theorem fl205_4 : Fld Try.prog 205 4 4 := Fld.mk' 4 _ Try.underlying205 rfl sz3
instance : BdI Try.prog 205 [(0, 1), (1, 1), (2, 1), (3, 1), (4, 1)] := ⟨⟨_, Try.underlying205, fun w => by simp [Try.sizeOf3, Try.sizeOf4]⟩⟩
theorem sl48 : Sl Try.prog 48 205 := Try.underlying48
instance : SlI Try.prog 48 205 := ⟨Try.underlying48⟩
theorem sz48 : Sz Try.prog 48 1 := Try.sizeOf48
theorem ag48 : Ag Try.prog 48 false := Try.isAgg48
instance : TyI Try.prog 48 [.s 5 0 fun _ _ => .j] := TyI.mk' (i := Try.t48) (by kernel_rfl) (by decide) (by decide) rfl (by decide) ⟨⟨by decide, rfl, rfl⟩, trivial⟩
theorem sz52 : Sz Try.prog 52 4 := Try.sizeOf52
theorem ag52 : Ag Try.prog 52 true := Try.isAgg52
instance : TyI Try.prog 52 [.v (.bool false), .s 1 0 fun _ _ => .j, .v (.int .i64 0), .v (.int .i64 0)] := TyI.mk' (i := Try.t52) (by kernel_rfl) (by decide) (by decide) rfl (by decide) ⟨⟨rfl, rfl⟩, ⟨by decide, rfl, rfl⟩, ⟨rfl, rfl⟩, ⟨rfl, rfl⟩, trivial⟩
theorem fl52_0 : Fld Try.prog 52 0 0 := Fld.mk' 0 _ Try.underlying52 rfl sz4
theorem fl52_1 : Fld Try.prog 52 1 1 := Fld.mk' 1 _ Try.underlying52 rfl sz24
theorem fl52_2 : Fld Try.prog 52 2 2 := Fld.mk' 2 _ Try.underlying52 rfl sz3
theorem fl52_3 : Fld Try.prog 52 3 3 := Fld.mk' 3 _ Try.underlying52 rfl sz3
instance : BdI Try.prog 52 [(0, 1), (1, 1), (2, 1), (3, 1)] := ⟨⟨_, Try.underlying52, fun w => by simp [Try.sizeOf24, Try.sizeOf3, Try.sizeOf4]⟩⟩
theorem sl49 : Sl Try.prog 49 52 := Try.underlying49
instance : SlI Try.prog 49 52 := ⟨Try.underlying49⟩
theorem sz49 : Sz Try.prog 49 1 := Try.sizeOf49
theorem ag49 : Ag Try.prog 49 false := Try.isAgg49
instance : TyI Try.prog 49 [.s 4 0 fun _ _ => .j] := TyI.mk' (i := Try.t49) (by kernel_rfl) (by decide) (by decide) rfl (by decide) ⟨⟨by decide, rfl, rfl⟩, trivial⟩
theorem sz196 : Sz Try.prog 196 2 := Try.sizeOf196
theorem ag196 : Ag Try.prog 196 true := Try.isAgg196
instance : TyI Try.prog 196 [.v (.bool false), .s 1 0 fun _ _ => .j] := TyI.mk' (i := Try.t196) (by kernel_rfl) (by decide) (by decide) rfl (by decide) ⟨⟨rfl, rfl⟩, ⟨by decide, rfl, rfl⟩, trivial⟩
theorem fl196_0 : Fld Try.prog 196 0 0 := Fld.mk' 0 _ Try.underlying196 rfl sz4
theorem fl196_1 : Fld Try.prog 196 1 1 := Fld.mk' 1 _ Try.underlying196 rfl sz24
instance : BdI Try.prog 196 [(0, 1), (1, 1)] := ⟨⟨_, Try.underlying196, fun w => by simp [Try.sizeOf24, Try.sizeOf4]⟩⟩
theorem sl50 : Sl Try.prog 50 196 := Try.underlying50
instance : SlI Try.prog 50 196 := ⟨Try.underlying50⟩
theorem sz50 : Sz Try.prog 50 1 := Try.sizeOf50
theorem ag50 : Ag Try.prog 50 false := Try.isAgg50
instance : TyI Try.prog 50 [.s 2 0 fun _ _ => .j] := TyI.mk' (i := Try.t50) (by kernel_rfl) (by decide) (by decide) rfl (by decide) ⟨⟨by decide, rfl, rfl⟩, trivial⟩
theorem sz54 : Sz Try.prog 54 14 := Try.sizeOf54
theorem ag54 : Ag Try.prog 54 true := Try.isAgg54
instance : TyI Try.prog 54 [.v (.int .i64 0), .v (.int .i64 0), .s 1 0 fun _ _ => .j, .s 11 0 fun _ _ => .j, .s 1 0 fun _ _ => .j, .s 1 0 fun _ _ => .j, .s 5 0 fun _ _ => .j, .s 4 0 fun _ _ => .j, .s 2 0 fun _ _ => .j, .v (.bool false), .s 1 0 fun _ _ => .j, .v (.int .i64 0), .v (.int .i64 0), .s 1 0 fun _ _ => .j] := TyI.mk' (i := Try.t54) (by kernel_rfl) (by decide) (by decide) rfl (by decide) ⟨⟨rfl, rfl⟩, ⟨rfl, rfl⟩, ⟨by decide, rfl, rfl⟩, ⟨by decide, rfl, rfl⟩, ⟨by decide, rfl, rfl⟩, ⟨by decide, rfl, rfl⟩, ⟨by decide, rfl, rfl⟩, ⟨by decide, rfl, rfl⟩, ⟨by decide, rfl, rfl⟩, ⟨rfl, rfl⟩, ⟨by decide, rfl, rfl⟩, ⟨rfl, rfl⟩, ⟨rfl, rfl⟩, ⟨by decide, rfl, rfl⟩, trivial⟩
theorem fl54_0 : Fld Try.prog 54 0 0 := Fld.mk' 0 _ Try.underlying54 rfl sz3
theorem fl54_1 : Fld Try.prog 54 1 1 := Fld.mk' 1 _ Try.underlying54 rfl sz3
theorem fl54_2 : Fld Try.prog 54 2 2 := Fld.mk' 2 _ Try.underlying54 rfl sz22
theorem fl54_3 : Fld Try.prog 54 3 3 := Fld.mk' 3 _ Try.underlying54 rfl sz46
theorem fl54_4 : Fld Try.prog 54 4 4 := Fld.mk' 4 _ Try.underlying54 rfl sz24
theorem fl54_5 : Fld Try.prog 54 5 5 := Fld.mk' 5 _ Try.underlying54 rfl sz47
theorem fl54_6 : Fld Try.prog 54 6 6 := Fld.mk' 6 _ Try.underlying54 rfl sz48
theorem fl54_7 : Fld Try.prog 54 7 7 := Fld.mk' 7 _ Try.underlying54 rfl sz49
theorem fl54_8 : Fld Try.prog 54 8 8 := Fld.mk' 8 _ Try.underlying54 rfl sz50
theorem fl54_9 : Fld Try.prog 54 9 9 := Fld.mk' 9 _ Try.underlying54 rfl sz52
theorem fl54_10 : Fld Try.prog 54 10 13 := Fld.mk' 10 _ Try.underlying54 rfl sz24
instance : BdI Try.prog 54 [(0, 1), (1, 1), (2, 1), (3, 1), (4, 1), (5, 1), (6, 1), (7, 1), (8, 1), (9, 4), (13, 1)] := ⟨⟨_, Try.underlying54, fun w => by simp [Try.sizeOf22, Try.sizeOf24, Try.sizeOf3, Try.sizeOf46, Try.sizeOf47, Try.sizeOf48, Try.sizeOf49, Try.sizeOf50, Try.sizeOf52]⟩⟩
theorem sz120 : Sz Try.prog 120 11 := Try.sizeOf120
theorem ag120 : Ag Try.prog 120 true := Try.isAgg120
instance : TyI Try.prog 120 [.v (.bool false), .v (.int .i64 0), .v (.int .i64 0), .v (.int .i64 0), .v (.int .i64 0), .v (.int .i64 0), .v (.int .i64 0), .v (.int .i64 0), .s 1 0 fun _ _ => .j, .s 1 0 fun _ _ => .j, .s 1 0 fun _ _ => .j] := TyI.mk' (i := Try.t120) (by kernel_rfl) (by decide) (by decide) rfl (by decide) ⟨⟨rfl, rfl⟩, ⟨rfl, rfl⟩, ⟨rfl, rfl⟩, ⟨rfl, rfl⟩, ⟨rfl, rfl⟩, ⟨rfl, rfl⟩, ⟨rfl, rfl⟩, ⟨rfl, rfl⟩, ⟨by decide, rfl, rfl⟩, ⟨by decide, rfl, rfl⟩, ⟨by decide, rfl, rfl⟩, trivial⟩
theorem fl120_0 : Fld Try.prog 120 0 0 := Fld.mk' 0 _ Try.underlying120 rfl sz4
theorem fl120_1 : Fld Try.prog 120 1 1 := Fld.mk' 1 _ Try.underlying120 rfl sz3
theorem fl120_2 : Fld Try.prog 120 2 2 := Fld.mk' 2 _ Try.underlying120 rfl sz3
theorem fl120_3 : Fld Try.prog 120 3 3 := Fld.mk' 3 _ Try.underlying120 rfl sz3
theorem fl120_4 : Fld Try.prog 120 4 4 := Fld.mk' 4 _ Try.underlying120 rfl sz3
theorem fl120_5 : Fld Try.prog 120 5 5 := Fld.mk' 5 _ Try.underlying120 rfl sz3
theorem fl120_6 : Fld Try.prog 120 6 6 := Fld.mk' 6 _ Try.underlying120 rfl sz3
theorem fl120_7 : Fld Try.prog 120 7 7 := Fld.mk' 7 _ Try.underlying120 rfl sz3
theorem fl120_8 : Fld Try.prog 120 8 8 := Fld.mk' 8 _ Try.underlying120 rfl sz24
theorem fl120_9 : Fld Try.prog 120 9 9 := Fld.mk' 9 _ Try.underlying120 rfl sz24
theorem fl120_10 : Fld Try.prog 120 10 10 := Fld.mk' 10 _ Try.underlying120 rfl sz24
instance : BdI Try.prog 120 [(0, 1), (1, 1), (2, 1), (3, 1), (4, 1), (5, 1), (6, 1), (7, 1), (8, 1), (9, 1), (10, 1)] := ⟨⟨_, Try.underlying120, fun w => by simp [Try.sizeOf24, Try.sizeOf3, Try.sizeOf4]⟩⟩
theorem sl57 : Sl Try.prog 57 120 := Try.underlying57
instance : SlI Try.prog 57 120 := ⟨Try.underlying57⟩
theorem sz57 : Sz Try.prog 57 1 := Try.sizeOf57
theorem ag57 : Ag Try.prog 57 false := Try.isAgg57
instance : TyI Try.prog 57 [.s 11 0 fun _ _ => .j] := TyI.mk' (i := Try.t57) (by kernel_rfl) (by decide) (by decide) rfl (by decide) ⟨⟨by decide, rfl, rfl⟩, trivial⟩
theorem sz201 : Sz Try.prog 201 5 := Try.sizeOf201
theorem ag201 : Ag Try.prog 201 true := Try.isAgg201
instance : TyI Try.prog 201 [.v (.bool false), .v (.int .i64 0), .v (.int .i64 0), .v (.int .i64 0), .v (.int .i64 0)] := TyI.mk' (i := Try.t201) (by kernel_rfl) (by decide) (by decide) rfl (by decide) ⟨⟨rfl, rfl⟩, ⟨rfl, rfl⟩, ⟨rfl, rfl⟩, ⟨rfl, rfl⟩, ⟨rfl, rfl⟩, trivial⟩
theorem fl201_0 : Fld Try.prog 201 0 0 := Fld.mk' 0 _ Try.underlying201 rfl sz4
theorem fl201_1 : Fld Try.prog 201 1 1 := Fld.mk' 1 _ Try.underlying201 rfl sz3
theorem fl201_2 : Fld Try.prog 201 2 2 := Fld.mk' 2 _ Try.underlying201 rfl sz3
theorem fl201_3 : Fld Try.prog 201 3 3 := Fld.mk' 3 _ Try.underlying201 rfl sz3
theorem fl201_4 : Fld Try.prog 201 4 4 := Fld.mk' 4 _ Try.underlying201 rfl sz3
instance : BdI Try.prog 201 [(0, 1), (1, 1), (2, 1), (3, 1), (4, 1)] := ⟨⟨_, Try.underlying201, fun w => by simp [Try.sizeOf3, Try.sizeOf4]⟩⟩
theorem sl58 : Sl Try.prog 58 201 := Try.underlying58
instance : SlI Try.prog 58 201 := ⟨Try.underlying58⟩
theorem sz58 : Sz Try.prog 58 1 := Try.sizeOf58
theorem ag58 : Ag Try.prog 58 false := Try.isAgg58
instance : TyI Try.prog 58 [.s 5 0 fun _ _ => .j] := TyI.mk' (i := Try.t58) (by kernel_rfl) (by decide) (by decide) rfl (by decide) ⟨⟨by decide, rfl, rfl⟩, trivial⟩
theorem sz61 : Sz Try.prog 61 4 := Try.sizeOf61
theorem ag61 : Ag Try.prog 61 true := Try.isAgg61
instance : TyI Try.prog 61 [.v (.bool false), .s 1 0 fun _ _ => .j, .v (.int .i64 0), .v (.int .i64 0)] := TyI.mk' (i := Try.t61) (by kernel_rfl) (by decide) (by decide) rfl (by decide) ⟨⟨rfl, rfl⟩, ⟨by decide, rfl, rfl⟩, ⟨rfl, rfl⟩, ⟨rfl, rfl⟩, trivial⟩
theorem fl61_0 : Fld Try.prog 61 0 0 := Fld.mk' 0 _ Try.underlying61 rfl sz4
theorem fl61_1 : Fld Try.prog 61 1 1 := Fld.mk' 1 _ Try.underlying61 rfl sz24
theorem fl61_2 : Fld Try.prog 61 2 2 := Fld.mk' 2 _ Try.underlying61 rfl sz3
theorem fl61_3 : Fld Try.prog 61 3 3 := Fld.mk' 3 _ Try.underlying61 rfl sz3
instance : BdI Try.prog 61 [(0, 1), (1, 1), (2, 1), (3, 1)] := ⟨⟨_, Try.underlying61, fun w => by simp [Try.sizeOf24, Try.sizeOf3, Try.sizeOf4]⟩⟩
theorem sl59 : Sl Try.prog 59 61 := Try.underlying59
instance : SlI Try.prog 59 61 := ⟨Try.underlying59⟩
theorem sz59 : Sz Try.prog 59 1 := Try.sizeOf59
theorem ag59 : Ag Try.prog 59 false := Try.isAgg59
instance : TyI Try.prog 59 [.s 4 0 fun _ _ => .j] := TyI.mk' (i := Try.t59) (by kernel_rfl) (by decide) (by decide) rfl (by decide) ⟨⟨by decide, rfl, rfl⟩, trivial⟩
theorem sz202 : Sz Try.prog 202 2 := Try.sizeOf202
theorem ag202 : Ag Try.prog 202 true := Try.isAgg202
instance : TyI Try.prog 202 [.v (.bool false), .s 1 0 fun _ _ => .j] := TyI.mk' (i := Try.t202) (by kernel_rfl) (by decide) (by decide) rfl (by decide) ⟨⟨rfl, rfl⟩, ⟨by decide, rfl, rfl⟩, trivial⟩
theorem fl202_0 : Fld Try.prog 202 0 0 := Fld.mk' 0 _ Try.underlying202 rfl sz4
theorem fl202_1 : Fld Try.prog 202 1 1 := Fld.mk' 1 _ Try.underlying202 rfl sz24
instance : BdI Try.prog 202 [(0, 1), (1, 1)] := ⟨⟨_, Try.underlying202, fun w => by simp [Try.sizeOf24, Try.sizeOf4]⟩⟩
theorem sl60 : Sl Try.prog 60 202 := Try.underlying60
instance : SlI Try.prog 60 202 := ⟨Try.underlying60⟩
theorem sz60 : Sz Try.prog 60 1 := Try.sizeOf60
theorem ag60 : Ag Try.prog 60 false := Try.isAgg60
instance : TyI Try.prog 60 [.s 2 0 fun _ _ => .j] := TyI.mk' (i := Try.t60) (by kernel_rfl) (by decide) (by decide) rfl (by decide) ⟨⟨by decide, rfl, rfl⟩, trivial⟩
theorem sz63 : Sz Try.prog 63 14 := Try.sizeOf63
theorem ag63 : Ag Try.prog 63 true := Try.isAgg63
instance : TyI Try.prog 63 [.v (.int .i64 0), .v (.int .i64 0), .s 1 0 fun _ _ => .j, .s 11 0 fun _ _ => .j, .s 1 0 fun _ _ => .j, .s 1 0 fun _ _ => .j, .s 5 0 fun _ _ => .j, .s 4 0 fun _ _ => .j, .s 2 0 fun _ _ => .j, .v (.bool false), .s 1 0 fun _ _ => .j, .v (.int .i64 0), .v (.int .i64 0), .s 1 0 fun _ _ => .j] := TyI.mk' (i := Try.t63) (by kernel_rfl) (by decide) (by decide) rfl (by decide) ⟨⟨rfl, rfl⟩, ⟨rfl, rfl⟩, ⟨by decide, rfl, rfl⟩, ⟨by decide, rfl, rfl⟩, ⟨by decide, rfl, rfl⟩, ⟨by decide, rfl, rfl⟩, ⟨by decide, rfl, rfl⟩, ⟨by decide, rfl, rfl⟩, ⟨by decide, rfl, rfl⟩, ⟨rfl, rfl⟩, ⟨by decide, rfl, rfl⟩, ⟨rfl, rfl⟩, ⟨rfl, rfl⟩, ⟨by decide, rfl, rfl⟩, trivial⟩
theorem fl63_0 : Fld Try.prog 63 0 0 := Fld.mk' 0 _ Try.underlying63 rfl sz3
theorem fl63_1 : Fld Try.prog 63 1 1 := Fld.mk' 1 _ Try.underlying63 rfl sz3
theorem fl63_2 : Fld Try.prog 63 2 2 := Fld.mk' 2 _ Try.underlying63 rfl sz35
theorem fl63_3 : Fld Try.prog 63 3 3 := Fld.mk' 3 _ Try.underlying63 rfl sz57
theorem fl63_4 : Fld Try.prog 63 4 4 := Fld.mk' 4 _ Try.underlying63 rfl sz24
theorem fl63_5 : Fld Try.prog 63 5 5 := Fld.mk' 5 _ Try.underlying63 rfl sz47
theorem fl63_6 : Fld Try.prog 63 6 6 := Fld.mk' 6 _ Try.underlying63 rfl sz58
theorem fl63_7 : Fld Try.prog 63 7 7 := Fld.mk' 7 _ Try.underlying63 rfl sz59
theorem fl63_8 : Fld Try.prog 63 8 8 := Fld.mk' 8 _ Try.underlying63 rfl sz60
theorem fl63_9 : Fld Try.prog 63 9 9 := Fld.mk' 9 _ Try.underlying63 rfl sz61
theorem fl63_10 : Fld Try.prog 63 10 13 := Fld.mk' 10 _ Try.underlying63 rfl sz24
instance : BdI Try.prog 63 [(0, 1), (1, 1), (2, 1), (3, 1), (4, 1), (5, 1), (6, 1), (7, 1), (8, 1), (9, 4), (13, 1)] := ⟨⟨_, Try.underlying63, fun w => by simp [Try.sizeOf24, Try.sizeOf3, Try.sizeOf35, Try.sizeOf47, Try.sizeOf57, Try.sizeOf58, Try.sizeOf59, Try.sizeOf60, Try.sizeOf61]⟩⟩
theorem sz141 : Sz Try.prog 141 10 := Try.sizeOf141
theorem ag141 : Ag Try.prog 141 true := Try.isAgg141
instance : TyI Try.prog 141 [.v (.int .i64 0), .v (.int .i64 0), .v (.int .i64 0), .v (.int .i64 0), .v (.int .i64 0), .s 1 0 fun _ _ => .j, .s 1 0 fun _ _ => .j, .s 1 0 fun _ _ => .j, .v (.int .i64 0), .v (.int .i64 0)] := TyI.mk' (i := Try.t141) (by kernel_rfl) (by decide) (by decide) rfl (by decide) ⟨⟨rfl, rfl⟩, ⟨rfl, rfl⟩, ⟨rfl, rfl⟩, ⟨rfl, rfl⟩, ⟨rfl, rfl⟩, ⟨by decide, rfl, rfl⟩, ⟨by decide, rfl, rfl⟩, ⟨by decide, rfl, rfl⟩, ⟨rfl, rfl⟩, ⟨rfl, rfl⟩, trivial⟩
theorem fl141_0 : Fld Try.prog 141 0 0 := Fld.mk' 0 _ Try.underlying141 rfl sz3
theorem fl141_1 : Fld Try.prog 141 1 1 := Fld.mk' 1 _ Try.underlying141 rfl sz3
theorem fl141_2 : Fld Try.prog 141 2 2 := Fld.mk' 2 _ Try.underlying141 rfl sz3
theorem fl141_3 : Fld Try.prog 141 3 3 := Fld.mk' 3 _ Try.underlying141 rfl sz3
theorem fl141_4 : Fld Try.prog 141 4 4 := Fld.mk' 4 _ Try.underlying141 rfl sz97
theorem fl141_5 : Fld Try.prog 141 5 6 := Fld.mk' 5 _ Try.underlying141 rfl sz24
theorem fl141_6 : Fld Try.prog 141 6 7 := Fld.mk' 6 _ Try.underlying141 rfl sz24
theorem fl141_7 : Fld Try.prog 141 7 8 := Fld.mk' 7 _ Try.underlying141 rfl sz3
theorem fl141_8 : Fld Try.prog 141 8 9 := Fld.mk' 8 _ Try.underlying141 rfl sz3
instance : BdI Try.prog 141 [(0, 1), (1, 1), (2, 1), (3, 1), (4, 2), (6, 1), (7, 1), (8, 1), (9, 1)] := ⟨⟨_, Try.underlying141, fun w => by simp [Try.sizeOf24, Try.sizeOf3, Try.sizeOf97]⟩⟩
theorem sl68 : Sl Try.prog 68 141 := Try.underlying68
instance : SlI Try.prog 68 141 := ⟨Try.underlying68⟩
theorem sz68 : Sz Try.prog 68 1 := Try.sizeOf68
theorem ag68 : Ag Try.prog 68 false := Try.isAgg68
instance : TyI Try.prog 68 [.s 10 0 fun _ _ => .j] := TyI.mk' (i := Try.t68) (by kernel_rfl) (by decide) (by decide) rfl (by decide) ⟨⟨by decide, rfl, rfl⟩, trivial⟩
theorem sz229 : Sz Try.prog 229 2 := Try.sizeOf229
theorem ag229 : Ag Try.prog 229 true := Try.isAgg229
instance : TyI Try.prog 229 [.v (.int .i64 0), .s 1 0 fun _ _ => .j] := TyI.mk' (i := Try.t229) (by kernel_rfl) (by decide) (by decide) rfl (by decide) ⟨⟨rfl, rfl⟩, ⟨by decide, rfl, rfl⟩, trivial⟩
theorem fl229_0 : Fld Try.prog 229 0 0 := Fld.mk' 0 _ Try.underlying229 rfl sz3
theorem fl229_1 : Fld Try.prog 229 1 1 := Fld.mk' 1 _ Try.underlying229 rfl sz24
instance : BdI Try.prog 229 [(0, 1), (1, 1)] := ⟨⟨_, Try.underlying229, fun w => by simp [Try.sizeOf24, Try.sizeOf3]⟩⟩
theorem sl69 : Sl Try.prog 69 229 := Try.underlying69
instance : SlI Try.prog 69 229 := ⟨Try.underlying69⟩
theorem sz69 : Sz Try.prog 69 1 := Try.sizeOf69
theorem ag69 : Ag Try.prog 69 false := Try.isAgg69
instance : TyI Try.prog 69 [.s 2 0 fun _ _ => .j] := TyI.mk' (i := Try.t69) (by kernel_rfl) (by decide) (by decide) rfl (by decide) ⟨⟨by decide, rfl, rfl⟩, trivial⟩
theorem sz71 : Sz Try.prog 71 9 := Try.sizeOf71
theorem ag71 : Ag Try.prog 71 true := Try.isAgg71
instance : TyI Try.prog 71 [.v (.int .i64 0), .v (.int .i64 0), .s 1 0 fun _ _ => .j, .s 10 0 fun _ _ => .j, .s 5 0 fun _ _ => .j, .s 2 0 fun _ _ => .j, .s 2 0 fun _ _ => .j, .s 1 0 fun _ _ => .j, .s 1 0 fun _ _ => .j] := TyI.mk' (i := Try.t71) (by kernel_rfl) (by decide) (by decide) rfl (by decide) ⟨⟨rfl, rfl⟩, ⟨rfl, rfl⟩, ⟨by decide, rfl, rfl⟩, ⟨by decide, rfl, rfl⟩, ⟨by decide, rfl, rfl⟩, ⟨by decide, rfl, rfl⟩, ⟨by decide, rfl, rfl⟩, ⟨by decide, rfl, rfl⟩, ⟨by decide, rfl, rfl⟩, trivial⟩
theorem fl71_0 : Fld Try.prog 71 0 0 := Fld.mk' 0 _ Try.underlying71 rfl sz3
theorem fl71_1 : Fld Try.prog 71 1 1 := Fld.mk' 1 _ Try.underlying71 rfl sz3
theorem fl71_2 : Fld Try.prog 71 2 2 := Fld.mk' 2 _ Try.underlying71 rfl sz35
theorem fl71_3 : Fld Try.prog 71 3 3 := Fld.mk' 3 _ Try.underlying71 rfl sz68
theorem fl71_4 : Fld Try.prog 71 4 4 := Fld.mk' 4 _ Try.underlying71 rfl sz38
theorem fl71_5 : Fld Try.prog 71 5 5 := Fld.mk' 5 _ Try.underlying71 rfl sz69
theorem fl71_6 : Fld Try.prog 71 6 6 := Fld.mk' 6 _ Try.underlying71 rfl sz40
theorem fl71_7 : Fld Try.prog 71 7 7 := Fld.mk' 7 _ Try.underlying71 rfl sz24
theorem fl71_8 : Fld Try.prog 71 8 8 := Fld.mk' 8 _ Try.underlying71 rfl sz24
instance : BdI Try.prog 71 [(0, 1), (1, 1), (2, 1), (3, 1), (4, 1), (5, 1), (6, 1), (7, 1), (8, 1)] := ⟨⟨_, Try.underlying71, fun w => by simp [Try.sizeOf24, Try.sizeOf3, Try.sizeOf35, Try.sizeOf38, Try.sizeOf40, Try.sizeOf68, Try.sizeOf69]⟩⟩
theorem eq218 (x0 : Int) (x1 : Int) (x2 : Int) (x3 : Int) (y0 : Int) (y1 : Int) (y2 : Int) (y3 : Int) (x y : Operand) (w : World) : (do eqGuard .eql 218 x y (.agg [iv x0, iv x1, iv x2, iv x3].toArray) (.agg [iv y0, iv y1, iv y2, iv y3].toArray); binOp .eql 218 (.agg [iv x0, iv x1, iv x2, iv x3].toArray) (.agg [iv y0, iv y1, iv y2, iv y3].toArray)).run Try.prog w = .ok (.bool (decide (x0 = y0 ∧ x1 = y1 ∧ x2 = y2 ∧ x3 = y3))) w := by
  have hg : ∀ w, (eqGuard .eql 218 x y (.agg [iv x0, iv x1, iv x2, iv x3].toArray) (.agg [iv y0, iv y1, iv y2, iv y3].toArray)).run Try.prog w = .ok () w := by
    intro w
    have : Try.prog.eqGuardType Try.prog.depth 218 = false := by kernel_rfl
    simp [eqGuard, this]
  have u3 := Try.underlying3
  have a3 := Try.isAgg3
  have z3 := Try.sizeOf3
  have hS : Try.prog.underlying 218 = some (.struct (Try.prog.fieldsOf 218)) := by kernel_rfl
  have hp : Try.prog.stoodInHeld 218 = false := by kernel_rfl
  simp only [Sem.run_bind, hg, Result.andThen]
  rw [run_eql_struct, show (10000 : Nat) = 9999 + 1 from rfl, run_equalIn_agg w 9999 218 _ _ hS hp]
  simp only [Program.fieldsOf, Try.underlying218]
  go_simp
  by_cases h0 : x0 = y0 <;> by_cases h1 : x1 = y1 <;> by_cases h2 : x2 = y2 <;> by_cases h3 : x3 = y3 <;> simp [h0, h1, h2, h3]
theorem ne201 (x0 : Bool) (x1 : Int) (x2 : Int) (x3 : Int) (x4 : Int) (y0 : Bool) (y1 : Int) (y2 : Int) (y3 : Int) (y4 : Int) (x y : Operand) (w : World) : (do eqGuard .neq 201 x y (.agg [Value.bool x0, iv x1, iv x2, iv x3, iv x4].toArray) (.agg [Value.bool y0, iv y1, iv y2, iv y3, iv y4].toArray); binOp .neq 201 (.agg [Value.bool x0, iv x1, iv x2, iv x3, iv x4].toArray) (.agg [Value.bool y0, iv y1, iv y2, iv y3, iv y4].toArray)).run Try.prog w = .ok (.bool (!decide (x0 = y0 ∧ x1 = y1 ∧ x2 = y2 ∧ x3 = y3 ∧ x4 = y4))) w := by
  have hg : ∀ w, (eqGuard .neq 201 x y (.agg [Value.bool x0, iv x1, iv x2, iv x3, iv x4].toArray) (.agg [Value.bool y0, iv y1, iv y2, iv y3, iv y4].toArray)).run Try.prog w = .ok () w := by
    intro w
    have : Try.prog.eqGuardType Try.prog.depth 201 = false := by kernel_rfl
    simp [eqGuard, this]
  have u3 := Try.underlying3
  have a3 := Try.isAgg3
  have z3 := Try.sizeOf3
  have u4 := Try.underlying4
  have a4 := Try.isAgg4
  have z4 := Try.sizeOf4
  have hS : Try.prog.underlying 201 = some (.struct (Try.prog.fieldsOf 201)) := by kernel_rfl
  have hp : Try.prog.stoodInHeld 201 = false := by kernel_rfl
  simp only [Sem.run_bind, hg, Result.andThen]
  rw [run_neq_struct, show (10000 : Nat) = 9999 + 1 from rfl, run_equalIn_agg w 9999 201 _ _ hS hp]
  simp only [Program.fieldsOf, Try.underlying201]
  go_simp
  by_cases h0 : x0 = y0 <;> by_cases h1 : x1 = y1 <;> by_cases h2 : x2 = y2 <;> by_cases h3 : x3 = y3 <;> by_cases h4 : x4 = y4 <;> simp [h0, h1, h2, h3, h4]
end Go.Proofs.Ytimmbmphfgnelaa.VM
