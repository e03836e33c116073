/- Contracts. No conditions. -/
import Derived.Test.YtldefnpobjabpaaGreatVmD
import Derived.Test.YtldefnpobjabpaaGreatProg
set_option linter.all false
set_option maxHeartbeats 8000000
set_option maxRecDepth 10000
namespace Go.Proofs.YtldefnpobjabpaaGreat.VM
open Go Go.RowKit Go.Proofs
theorem sz3 : Sz Tryz.prog 3 1 := Tryz.sizeOf3
instance : SzI Tryz.prog 3 1 := ⟨sz3⟩
theorem ag3 : Ag Tryz.prog 3 false := Tryz.isAgg3
instance : AgI Tryz.prog 3 false := ⟨ag3⟩
instance : TyI Tryz.prog 3 [.v (.int .i64 0)] := TyI.mk' (i := Tryz.t3) (by kernel_rfl) (by decide) (by decide) rfl (by decide) ⟨⟨rfl, rfl⟩, trivial⟩
theorem sz4 : Sz Tryz.prog 4 1 := Tryz.sizeOf4
instance : SzI Tryz.prog 4 1 := ⟨sz4⟩
instance : AgI Tryz.prog 4 false := ⟨Tryz.isAgg4⟩
instance : TyI Tryz.prog 4 [.v (.bool false)] := TyI.mk' (i := Tryz.t4) (by kernel_rfl) (by decide) (by decide) rfl (by decide) ⟨⟨rfl, rfl⟩, trivial⟩
theorem sz5 : Sz Tryz.prog 5 1 := Tryz.sizeOf5
instance : TyI Tryz.prog 5 [.v (.int .u8 0)] := TyI.mk' (i := Tryz.t5) (by kernel_rfl) (by decide) (by decide) rfl (by decide) ⟨⟨rfl, rfl⟩, trivial⟩
instance : TyI Tryz.prog 9 [.v (.string ⟨#[]⟩)] := TyI.mk' (i := Tryz.t9) (by kernel_rfl) (by decide) (by decide) rfl (by decide) ⟨⟨rfl, rfl⟩, trivial⟩
instance : SzI Tryz.prog 219 4 := ⟨Tryz.sizeOf219⟩
instance : AgI Tryz.prog 219 true := ⟨Tryz.isAgg219⟩
instance : TyI Tryz.prog 219 [.v (.int .i64 0), .v (.int .i64 0), .v (.int .i64 0), .v (.int .i64 0)] := TyI.mk' (i := Tryz.t219) (by kernel_rfl) (by decide) (by decide) rfl (by decide) ⟨⟨rfl, rfl⟩, ⟨rfl, rfl⟩, ⟨rfl, rfl⟩, ⟨rfl, rfl⟩, trivial⟩
instance : FlI Tryz.prog 219 0 0 := ⟨Fld.mk' 0 _ Tryz.underlying219 rfl sz3⟩
instance : FlI Tryz.prog 219 1 1 := ⟨Fld.mk' 1 _ Tryz.underlying219 rfl sz3⟩
instance : FlI Tryz.prog 219 2 2 := ⟨Fld.mk' 2 _ Tryz.underlying219 rfl sz3⟩
instance : FlI Tryz.prog 219 3 3 := ⟨Fld.mk' 3 _ Tryz.underlying219 rfl sz3⟩
instance : SlI Tryz.prog 145 219 := ⟨Tryz.underlying145⟩
instance : SzI Tryz.prog 145 1 := ⟨Tryz.sizeOf145⟩
instance : AgI Tryz.prog 145 false := ⟨Tryz.isAgg145⟩
instance : SlI Tryz.prog 22 145 := ⟨Tryz.underlying22⟩
theorem sz22 : Sz Tryz.prog 22 1 := Tryz.sizeOf22
instance : AgI Tryz.prog 22 false := ⟨Tryz.isAgg22⟩
theorem sl24 : Sl Tryz.prog 24 3 := Tryz.underlying24
instance : SlI Tryz.prog 24 3 := ⟨Tryz.underlying24⟩
theorem sz24 : Sz Tryz.prog 24 1 := Tryz.sizeOf24
instance : AgI Tryz.prog 24 false := ⟨Tryz.isAgg24⟩
instance : TyI Tryz.prog 24 [.s 1 0 fun _ _ => .j] := TyI.mk' (i := Tryz.t24) (by kernel_rfl) (by decide) (by decide) rfl (by decide) ⟨⟨by decide, rfl, rfl⟩, trivial⟩
instance : SzI Tryz.prog 147 11 := ⟨Tryz.sizeOf147⟩
instance : AgI Tryz.prog 147 true := ⟨Tryz.isAgg147⟩
instance : TyI Tryz.prog 147 [.v (.bool false), .v (.int .i64 0), .v (.int .i64 0), .v (.int .i64 0), .v (.int .i64 0), .v (.int .i64 0), .v (.int .i64 0), .v (.int .i64 0), .s 1 0 fun _ _ => .j, .s 1 0 fun _ _ => .j, .s 1 0 fun _ _ => .j] := TyI.mk' (i := Tryz.t147) (by kernel_rfl) (by decide) (by decide) rfl (by decide) ⟨⟨rfl, rfl⟩, ⟨rfl, rfl⟩, ⟨rfl, rfl⟩, ⟨rfl, rfl⟩, ⟨rfl, rfl⟩, ⟨rfl, rfl⟩, ⟨rfl, rfl⟩, ⟨rfl, rfl⟩, ⟨by decide, rfl, rfl⟩, ⟨by decide, rfl, rfl⟩, ⟨by decide, rfl, rfl⟩, trivial⟩
instance : FlI Tryz.prog 147 0 0 := ⟨Fld.mk' 0 _ Tryz.underlying147 rfl sz4⟩
instance : FlI Tryz.prog 147 1 1 := ⟨Fld.mk' 1 _ Tryz.underlying147 rfl sz3⟩
instance : FlI Tryz.prog 147 2 2 := ⟨Fld.mk' 2 _ Tryz.underlying147 rfl sz3⟩
instance : FlI Tryz.prog 147 3 3 := ⟨Fld.mk' 3 _ Tryz.underlying147 rfl sz3⟩
instance : FlI Tryz.prog 147 4 4 := ⟨Fld.mk' 4 _ Tryz.underlying147 rfl sz3⟩
instance : FlI Tryz.prog 147 5 5 := ⟨Fld.mk' 5 _ Tryz.underlying147 rfl sz3⟩
instance : FlI Tryz.prog 147 6 6 := ⟨Fld.mk' 6 _ Tryz.underlying147 rfl sz3⟩
instance : FlI Tryz.prog 147 7 7 := ⟨Fld.mk' 7 _ Tryz.underlying147 rfl sz3⟩
instance : FlI Tryz.prog 147 8 8 := ⟨Fld.mk' 8 _ Tryz.underlying147 rfl sz24⟩
instance : FlI Tryz.prog 147 9 9 := ⟨Fld.mk' 9 _ Tryz.underlying147 rfl sz24⟩
instance : FlI Tryz.prog 147 10 10 := ⟨Fld.mk' 10 _ Tryz.underlying147 rfl sz24⟩
instance : SlI Tryz.prog 23 147 := ⟨Tryz.underlying23⟩
theorem sz23 : Sz Tryz.prog 23 1 := Tryz.sizeOf23
instance : AgI Tryz.prog 23 false := ⟨Tryz.isAgg23⟩
theorem sl25 : Sl Tryz.prog 25 4 := Tryz.underlying25
instance : SlI Tryz.prog 25 4 := ⟨Tryz.underlying25⟩
theorem sz25 : Sz Tryz.prog 25 1 := Tryz.sizeOf25
instance : AgI Tryz.prog 25 false := ⟨Tryz.isAgg25⟩
instance : TyI Tryz.prog 25 [.s 1 0 fun _ _ => .j] := TyI.mk' (i := Tryz.t25) (by kernel_rfl) (by decide) (by decide) rfl (by decide) ⟨⟨by decide, rfl, rfl⟩, trivial⟩
instance : SzI Tryz.prog 159 5 := ⟨Tryz.sizeOf159⟩
instance : AgI Tryz.prog 159 true := ⟨Tryz.isAgg159⟩
instance : TyI Tryz.prog 159 [.v (.bool false), .v (.int .i64 0), .v (.int .i64 0), .v (.int .i64 0), .v (.int .i64 0)] := TyI.mk' (i := Tryz.t159) (by kernel_rfl) (by decide) (by decide) rfl (by decide) ⟨⟨rfl, rfl⟩, ⟨rfl, rfl⟩, ⟨rfl, rfl⟩, ⟨rfl, rfl⟩, ⟨rfl, rfl⟩, trivial⟩
instance : FlI Tryz.prog 159 0 0 := ⟨Fld.mk' 0 _ Tryz.underlying159 rfl sz4⟩
instance : FlI Tryz.prog 159 1 1 := ⟨Fld.mk' 1 _ Tryz.underlying159 rfl sz3⟩
instance : FlI Tryz.prog 159 2 2 := ⟨Fld.mk' 2 _ Tryz.underlying159 rfl sz3⟩
instance : FlI Tryz.prog 159 3 3 := ⟨Fld.mk' 3 _ Tryz.underlying159 rfl sz3⟩
instance : FlI Tryz.prog 159 4 4 := ⟨Fld.mk' 4 _ Tryz.underlying159 rfl sz3⟩
instance : SlI Tryz.prog 26 159 := ⟨Tryz.underlying26⟩
theorem sz26 : Sz Tryz.prog 26 1 := Tryz.sizeOf26
instance : AgI Tryz.prog 26 false := ⟨Tryz.isAgg26⟩
theorem sz30 : Sz Tryz.prog 30 4 := Tryz.sizeOf30
instance : SzI Tryz.prog 30 4 := ⟨sz30⟩
instance : AgI Tryz.prog 30 true := ⟨Tryz.isAgg30⟩
instance : TyI Tryz.prog 30 [.v (.bool false), .s 1 0 fun _ _ => .j, .v (.int .i64 0), .v (.int .i64 0)] := TyI.mk' (i := Tryz.t30) (by kernel_rfl) (by decide) (by decide) rfl (by decide) ⟨⟨rfl, rfl⟩, ⟨by decide, rfl, rfl⟩, ⟨rfl, rfl⟩, ⟨rfl, rfl⟩, trivial⟩
instance : FlI Tryz.prog 30 0 0 := ⟨Fld.mk' 0 _ Tryz.underlying30 rfl sz4⟩
instance : FlI Tryz.prog 30 1 1 := ⟨Fld.mk' 1 _ Tryz.underlying30 rfl sz24⟩
instance : FlI Tryz.prog 30 2 2 := ⟨Fld.mk' 2 _ Tryz.underlying30 rfl sz3⟩
instance : FlI Tryz.prog 30 3 3 := ⟨Fld.mk' 3 _ Tryz.underlying30 rfl sz3⟩
instance : SlI Tryz.prog 27 30 := ⟨Tryz.underlying27⟩
theorem sz27 : Sz Tryz.prog 27 1 := Tryz.sizeOf27
instance : AgI Tryz.prog 27 false := ⟨Tryz.isAgg27⟩
instance : SzI Tryz.prog 149 2 := ⟨Tryz.sizeOf149⟩
instance : AgI Tryz.prog 149 true := ⟨Tryz.isAgg149⟩
instance : TyI Tryz.prog 149 [.v (.bool false), .s 1 0 fun _ _ => .j] := TyI.mk' (i := Tryz.t149) (by kernel_rfl) (by decide) (by decide) rfl (by decide) ⟨⟨rfl, rfl⟩, ⟨by decide, rfl, rfl⟩, trivial⟩
instance : FlI Tryz.prog 149 0 0 := ⟨Fld.mk' 0 _ Tryz.underlying149 rfl sz4⟩
instance : FlI Tryz.prog 149 1 1 := ⟨Fld.mk' 1 _ Tryz.underlying149 rfl sz24⟩
instance : SlI Tryz.prog 28 149 := ⟨Tryz.underlying28⟩
theorem sz28 : Sz Tryz.prog 28 1 := Tryz.sizeOf28
instance : AgI Tryz.prog 28 false := ⟨Tryz.isAgg28⟩
instance : SzI Tryz.prog 32 14 := ⟨Tryz.sizeOf32⟩
instance : AgI Tryz.prog 32 true := ⟨Tryz.isAgg32⟩
instance : TyI Tryz.prog 32 [.v (.int .i64 0), .v (.int .i64 0), .s 1 0 fun _ _ => .j, .s 11 0 fun _ _ => .j, .s 1 0 fun _ _ => .j, .s 1 0 fun _ _ => .j, .s 5 0 fun _ _ => .j, .s 4 0 fun _ _ => .j, .s 2 0 fun _ _ => .j, .v (.bool false), .s 1 0 fun _ _ => .j, .v (.int .i64 0), .v (.int .i64 0), .s 1 0 fun _ _ => .j] := TyI.mk' (i := Tryz.t32) (by kernel_rfl) (by decide) (by decide) rfl (by decide) ⟨⟨rfl, rfl⟩, ⟨rfl, rfl⟩, ⟨by decide, rfl, rfl⟩, ⟨by decide, rfl, rfl⟩, ⟨by decide, rfl, rfl⟩, ⟨by decide, rfl, rfl⟩, ⟨by decide, rfl, rfl⟩, ⟨by decide, rfl, rfl⟩, ⟨by decide, rfl, rfl⟩, ⟨rfl, rfl⟩, ⟨by decide, rfl, rfl⟩, ⟨rfl, rfl⟩, ⟨rfl, rfl⟩, ⟨by decide, rfl, rfl⟩, trivial⟩
instance : FlI Tryz.prog 32 0 0 := ⟨Fld.mk' 0 _ Tryz.underlying32 rfl sz3⟩
instance : FlI Tryz.prog 32 1 1 := ⟨Fld.mk' 1 _ Tryz.underlying32 rfl sz3⟩
instance : FlI Tryz.prog 32 2 2 := ⟨Fld.mk' 2 _ Tryz.underlying32 rfl sz22⟩
instance : FlI Tryz.prog 32 3 3 := ⟨Fld.mk' 3 _ Tryz.underlying32 rfl sz23⟩
instance : FlI Tryz.prog 32 4 4 := ⟨Fld.mk' 4 _ Tryz.underlying32 rfl sz24⟩
instance : FlI Tryz.prog 32 5 5 := ⟨Fld.mk' 5 _ Tryz.underlying32 rfl sz25⟩
instance : FlI Tryz.prog 32 6 6 := ⟨Fld.mk' 6 _ Tryz.underlying32 rfl sz26⟩
instance : FlI Tryz.prog 32 7 7 := ⟨Fld.mk' 7 _ Tryz.underlying32 rfl sz27⟩
instance : FlI Tryz.prog 32 8 8 := ⟨Fld.mk' 8 _ Tryz.underlying32 rfl sz28⟩
instance : FlI Tryz.prog 32 9 9 := ⟨Fld.mk' 9 _ Tryz.underlying32 rfl sz30⟩
instance : FlI Tryz.prog 32 10 13 := ⟨Fld.mk' 10 _ Tryz.underlying32 rfl sz24⟩
theorem sz170 : Sz Tryz.prog 170 4 := Tryz.sizeOf170
instance : SzI Tryz.prog 170 4 := ⟨sz170⟩
theorem ag170 : Ag Tryz.prog 170 true := Tryz.isAgg170
instance : AgI Tryz.prog 170 true := ⟨ag170⟩
instance : TyI Tryz.prog 170 [.v (.int .i64 0), .v (.int .i64 0), .v (.int .i64 0), .v (.int .i64 0)] := TyI.mk' (i := Tryz.t170) (by kernel_rfl) (by decide) (by decide) rfl (by decide) ⟨⟨rfl, rfl⟩, ⟨rfl, rfl⟩, ⟨rfl, rfl⟩, ⟨rfl, rfl⟩, trivial⟩
instance : FlI Tryz.prog 170 0 0 := ⟨Fld.mk' 0 _ Tryz.underlying170 rfl sz3⟩
instance : FlI Tryz.prog 170 1 1 := ⟨Fld.mk' 1 _ Tryz.underlying170 rfl sz3⟩
instance : FlI Tryz.prog 170 2 2 := ⟨Fld.mk' 2 _ Tryz.underlying170 rfl sz3⟩
instance : FlI Tryz.prog 170 3 3 := ⟨Fld.mk' 3 _ Tryz.underlying170 rfl sz3⟩
instance : BdI Tryz.prog 170 [(0, 1), (1, 1), (2, 1), (3, 1)] := ⟨⟨_, Tryz.underlying170, fun w => by simp [Tryz.sizeOf3]⟩⟩
theorem sl155 : Sl Tryz.prog 155 170 := Tryz.underlying155
instance : SlI Tryz.prog 155 170 := ⟨Tryz.underlying155⟩
instance : SzI Tryz.prog 155 1 := ⟨Tryz.sizeOf155⟩
instance : AgI Tryz.prog 155 false := ⟨Tryz.isAgg155⟩
instance : TyI Tryz.prog 155 [.s 4 0 fun _ _ => .j] := TyI.mk' (i := Tryz.t155) (by kernel_rfl) (by decide) (by decide) rfl (by decide) ⟨⟨by decide, rfl, rfl⟩, trivial⟩
instance : SlI Tryz.prog 34 155 := ⟨Tryz.underlying34⟩
theorem sz34 : Sz Tryz.prog 34 1 := Tryz.sizeOf34
instance : AgI Tryz.prog 34 false := ⟨Tryz.isAgg34⟩
instance : TyI Tryz.prog 34 [.s 1 0 fun _ _ => .j] := TyI.mk' (i := Tryz.t34) (by kernel_rfl) (by decide) (by decide) rfl (by decide) ⟨⟨by decide, rfl, rfl⟩, trivial⟩
theorem sz89 : Sz Tryz.prog 89 2 := Tryz.sizeOf89
instance : SzI Tryz.prog 89 2 := ⟨sz89⟩
instance : AgI Tryz.prog 89 true := ⟨Tryz.isAgg89⟩
instance : TyI Tryz.prog 89 [.v (.int .i64 0), .s 1 0 fun _ _ => .j] := TyI.mk' (i := Tryz.t89) (by kernel_rfl) (by decide) (by decide) rfl (by decide) ⟨⟨rfl, rfl⟩, ⟨by decide, rfl, rfl⟩, trivial⟩
instance : FlI Tryz.prog 89 0 0 := ⟨Fld.mk' 0 _ Tryz.underlying89 rfl sz3⟩
instance : FlI Tryz.prog 89 1 1 := ⟨Fld.mk' 1 _ Tryz.underlying89 rfl sz24⟩
instance : BdI Tryz.prog 89 [(0, 1), (1, 1)] := ⟨⟨_, Tryz.underlying89, fun w => by simp [Tryz.sizeOf24, Tryz.sizeOf3]⟩⟩
theorem sz92 : Sz Tryz.prog 92 10 := Tryz.sizeOf92
instance : SzI Tryz.prog 92 10 := ⟨sz92⟩
theorem ag92 : Ag Tryz.prog 92 true := Tryz.isAgg92
instance : AgI Tryz.prog 92 true := ⟨ag92⟩
instance : TyI Tryz.prog 92 [.v (.int .i64 0), .v (.int .i64 0), .v (.int .i64 0), .v (.int .i64 0), .v (.int .i64 0), .s 1 0 fun _ _ => .j, .s 1 0 fun _ _ => .j, .s 1 0 fun _ _ => .j, .v (.int .i64 0), .v (.int .i64 0)] := TyI.mk' (i := Tryz.t92) (by kernel_rfl) (by decide) (by decide) rfl (by decide) ⟨⟨rfl, rfl⟩, ⟨rfl, rfl⟩, ⟨rfl, rfl⟩, ⟨rfl, rfl⟩, ⟨rfl, rfl⟩, ⟨by decide, rfl, rfl⟩, ⟨by decide, rfl, rfl⟩, ⟨by decide, rfl, rfl⟩, ⟨rfl, rfl⟩, ⟨rfl, rfl⟩, trivial⟩
theorem fl92_0 : Fld Tryz.prog 92 0 0 := Fld.mk' 0 _ Tryz.underlying92 rfl sz3
instance : FlI Tryz.prog 92 0 0 := ⟨fl92_0⟩
instance : FlI Tryz.prog 92 1 1 := ⟨Fld.mk' 1 _ Tryz.underlying92 rfl sz3⟩
instance : FlI Tryz.prog 92 2 2 := ⟨Fld.mk' 2 _ Tryz.underlying92 rfl sz3⟩
instance : FlI Tryz.prog 92 3 3 := ⟨Fld.mk' 3 _ Tryz.underlying92 rfl sz3⟩
instance : FlI Tryz.prog 92 4 4 := ⟨Fld.mk' 4 _ Tryz.underlying92 rfl sz89⟩
instance : FlI Tryz.prog 92 5 6 := ⟨Fld.mk' 5 _ Tryz.underlying92 rfl sz24⟩
instance : FlI Tryz.prog 92 6 7 := ⟨Fld.mk' 6 _ Tryz.underlying92 rfl sz24⟩
instance : FlI Tryz.prog 92 7 8 := ⟨Fld.mk' 7 _ Tryz.underlying92 rfl sz3⟩
instance : FlI Tryz.prog 92 8 9 := ⟨Fld.mk' 8 _ Tryz.underlying92 rfl sz3⟩
instance : BdI Tryz.prog 92 [(0, 1), (1, 1), (2, 1), (3, 1), (4, 2), (6, 1), (7, 1), (8, 1), (9, 1)] := ⟨⟨_, Tryz.underlying92, fun w => by simp [Tryz.sizeOf24, Tryz.sizeOf3, Tryz.sizeOf89]⟩⟩
theorem sl35 : Sl Tryz.prog 35 92 := Tryz.underlying35
instance : SlI Tryz.prog 35 92 := ⟨Tryz.underlying35⟩
theorem sz35 : Sz Tryz.prog 35 1 := Tryz.sizeOf35
instance : AgI Tryz.prog 35 false := ⟨Tryz.isAgg35⟩
instance : TyI Tryz.prog 35 [.s 10 0 fun _ _ => .j] := TyI.mk' (i := Tryz.t35) (by kernel_rfl) (by decide) (by decide) rfl (by decide) ⟨⟨by decide, rfl, rfl⟩, trivial⟩
instance : SzI Tryz.prog 98 5 := ⟨Tryz.sizeOf98⟩
instance : AgI Tryz.prog 98 true := ⟨Tryz.isAgg98⟩
instance : TyI Tryz.prog 98 [.v (.int .i64 0), .v (.int .i64 0), .v (.int .i64 0), .v (.int .i64 0), .v (.int .i64 0)] := TyI.mk' (i := Tryz.t98) (by kernel_rfl) (by decide) (by decide) rfl (by decide) ⟨⟨rfl, rfl⟩, ⟨rfl, rfl⟩, ⟨rfl, rfl⟩, ⟨rfl, rfl⟩, ⟨rfl, rfl⟩, trivial⟩
instance : FlI Tryz.prog 98 0 0 := ⟨Fld.mk' 0 _ Tryz.underlying98 rfl sz3⟩
instance : FlI Tryz.prog 98 1 1 := ⟨Fld.mk' 1 _ Tryz.underlying98 rfl sz3⟩
instance : FlI Tryz.prog 98 2 2 := ⟨Fld.mk' 2 _ Tryz.underlying98 rfl sz3⟩
instance : FlI Tryz.prog 98 3 3 := ⟨Fld.mk' 3 _ Tryz.underlying98 rfl sz3⟩
instance : FlI Tryz.prog 98 4 4 := ⟨Fld.mk' 4 _ Tryz.underlying98 rfl sz3⟩
instance : BdI Tryz.prog 98 [(0, 1), (1, 1), (2, 1), (3, 1), (4, 1)] := ⟨⟨_, Tryz.underlying98, fun w => by simp [Tryz.sizeOf3]⟩⟩
instance : SlI Tryz.prog 36 98 := ⟨Tryz.underlying36⟩
theorem sz36 : Sz Tryz.prog 36 1 := Tryz.sizeOf36
instance : AgI Tryz.prog 36 false := ⟨Tryz.isAgg36⟩
instance : TyI Tryz.prog 36 [.s 5 0 fun _ _ => .j] := TyI.mk' (i := Tryz.t36) (by kernel_rfl) (by decide) (by decide) rfl (by decide) ⟨⟨by decide, rfl, rfl⟩, trivial⟩
instance : SzI Tryz.prog 100 2 := ⟨Tryz.sizeOf100⟩
instance : AgI Tryz.prog 100 true := ⟨Tryz.isAgg100⟩
instance : TyI Tryz.prog 100 [.v (.int .i64 0), .s 1 0 fun _ _ => .j] := TyI.mk' (i := Tryz.t100) (by kernel_rfl) (by decide) (by decide) rfl (by decide) ⟨⟨rfl, rfl⟩, ⟨by decide, rfl, rfl⟩, trivial⟩
instance : FlI Tryz.prog 100 0 0 := ⟨Fld.mk' 0 _ Tryz.underlying100 rfl sz3⟩
instance : FlI Tryz.prog 100 1 1 := ⟨Fld.mk' 1 _ Tryz.underlying100 rfl sz24⟩
instance : BdI Tryz.prog 100 [(0, 1), (1, 1)] := ⟨⟨_, Tryz.underlying100, fun w => by simp [Tryz.sizeOf24, Tryz.sizeOf3]⟩⟩
instance : SlI Tryz.prog 37 100 := ⟨Tryz.underlying37⟩
theorem sz37 : Sz Tryz.prog 37 1 := Tryz.sizeOf37
instance : AgI Tryz.prog 37 false := ⟨Tryz.isAgg37⟩
instance : TyI Tryz.prog 37 [.s 2 0 fun _ _ => .j] := TyI.mk' (i := Tryz.t37) (by kernel_rfl) (by decide) (by decide) rfl (by decide) ⟨⟨by decide, rfl, rfl⟩, trivial⟩
theorem sz104 : Sz Tryz.prog 104 2 := Tryz.sizeOf104
instance : SzI Tryz.prog 104 2 := ⟨sz104⟩
instance : AgI Tryz.prog 104 true := ⟨Tryz.isAgg104⟩
instance : TyI Tryz.prog 104 [.v (.int .i64 0), .s 1 0 fun _ _ => .j] := TyI.mk' (i := Tryz.t104) (by kernel_rfl) (by decide) (by decide) rfl (by decide) ⟨⟨rfl, rfl⟩, ⟨by decide, rfl, rfl⟩, trivial⟩
instance : FlI Tryz.prog 104 0 0 := ⟨Fld.mk' 0 _ Tryz.underlying104 rfl sz3⟩
instance : FlI Tryz.prog 104 1 1 := ⟨Fld.mk' 1 _ Tryz.underlying104 rfl sz24⟩
instance : BdI Tryz.prog 104 [(0, 1), (1, 1)] := ⟨⟨_, Tryz.underlying104, fun w => by simp [Tryz.sizeOf24, Tryz.sizeOf3]⟩⟩
theorem sl38 : Sl Tryz.prog 38 104 := Tryz.underlying38
instance : SlI Tryz.prog 38 104 := ⟨Tryz.underlying38⟩
theorem sz38 : Sz Tryz.prog 38 1 := Tryz.sizeOf38
instance : AgI Tryz.prog 38 false := ⟨Tryz.isAgg38⟩
instance : TyI Tryz.prog 38 [.s 2 0 fun _ _ => .j] := TyI.mk' (i := Tryz.t38) (by kernel_rfl) (by decide) (by decide) rfl (by decide) ⟨⟨by decide, rfl, rfl⟩, trivial⟩
theorem sz40 : Sz Tryz.prog 40 9 := Tryz.sizeOf40
instance : SzI Tryz.prog 40 9 := ⟨sz40⟩
theorem ag40 : Ag Tryz.prog 40 true := Tryz.isAgg40
instance : AgI Tryz.prog 40 true := ⟨ag40⟩
instance : TyI Tryz.prog 40 [.v (.int .i64 0), .v (.int .i64 0), .s 1 0 fun _ _ => .j, .s 10 0 fun _ _ => .j, .s 5 0 fun _ _ => .j, .s 2 0 fun _ _ => .j, .s 2 0 fun _ _ => .j, .s 1 0 fun _ _ => .j, .s 1 0 fun _ _ => .j] := TyI.mk' (i := Tryz.t40) (by kernel_rfl) (by decide) (by decide) rfl (by decide) ⟨⟨rfl, rfl⟩, ⟨rfl, rfl⟩, ⟨by decide, rfl, rfl⟩, ⟨by decide, rfl, rfl⟩, ⟨by decide, rfl, rfl⟩, ⟨by decide, rfl, rfl⟩, ⟨by decide, rfl, rfl⟩, ⟨by decide, rfl, rfl⟩, ⟨by decide, rfl, rfl⟩, trivial⟩
instance : FlI Tryz.prog 40 0 0 := ⟨Fld.mk' 0 _ Tryz.underlying40 rfl sz3⟩
instance : FlI Tryz.prog 40 1 1 := ⟨Fld.mk' 1 _ Tryz.underlying40 rfl sz3⟩
instance : FlI Tryz.prog 40 2 2 := ⟨Fld.mk' 2 _ Tryz.underlying40 rfl sz34⟩
instance : FlI Tryz.prog 40 3 3 := ⟨Fld.mk' 3 _ Tryz.underlying40 rfl sz35⟩
instance : FlI Tryz.prog 40 4 4 := ⟨Fld.mk' 4 _ Tryz.underlying40 rfl sz36⟩
instance : FlI Tryz.prog 40 5 5 := ⟨Fld.mk' 5 _ Tryz.underlying40 rfl sz37⟩
instance : FlI Tryz.prog 40 6 6 := ⟨Fld.mk' 6 _ Tryz.underlying40 rfl sz38⟩
instance : FlI Tryz.prog 40 7 7 := ⟨Fld.mk' 7 _ Tryz.underlying40 rfl sz24⟩
instance : FlI Tryz.prog 40 8 8 := ⟨Fld.mk' 8 _ Tryz.underlying40 rfl sz24⟩
instance : BdI Tryz.prog 40 [(0, 1), (1, 1), (2, 1), (3, 1), (4, 1), (5, 1), (6, 1), (7, 1), (8, 1)] := ⟨⟨_, Tryz.underlying40, fun w => by simp [Tryz.sizeOf24, Tryz.sizeOf3, Tryz.sizeOf34, Tryz.sizeOf35, Tryz.sizeOf36, Tryz.sizeOf37, Tryz.sizeOf38]⟩⟩
theorem sz87 : Sz Tryz.prog 87 11 := Tryz.sizeOf87
instance : SzI Tryz.prog 87 11 := ⟨sz87⟩
theorem ag87 : Ag Tryz.prog 87 true := Tryz.isAgg87
instance : AgI Tryz.prog 87 true := ⟨ag87⟩
instance : TyI Tryz.prog 87 [.v (.bool false), .v (.int .i64 0), .v (.int .i64 0), .v (.int .i64 0), .v (.int .i64 0), .v (.int .i64 0), .v (.int .i64 0), .v (.int .i64 0), .s 1 0 fun _ _ => .j, .s 1 0 fun _ _ => .j, .s 1 0 fun _ _ => .j] := TyI.mk' (i := Tryz.t87) (by kernel_rfl) (by decide) (by decide) rfl (by decide) ⟨⟨rfl, rfl⟩, ⟨rfl, rfl⟩, ⟨rfl, rfl⟩, ⟨rfl, rfl⟩, ⟨rfl, rfl⟩, ⟨rfl, rfl⟩, ⟨rfl, rfl⟩, ⟨rfl, rfl⟩, ⟨by decide, rfl, rfl⟩, ⟨by decide, rfl, rfl⟩, ⟨by decide, rfl, rfl⟩, trivial⟩
instance : FlI Tryz.prog 87 0 0 := ⟨Fld.mk' 0 _ Tryz.underlying87 rfl sz4⟩
instance : FlI Tryz.prog 87 1 1 := ⟨Fld.mk' 1 _ Tryz.underlying87 rfl sz3⟩
instance : FlI Tryz.prog 87 2 2 := ⟨Fld.mk' 2 _ Tryz.underlying87 rfl sz3⟩
instance : FlI Tryz.prog 87 3 3 := ⟨Fld.mk' 3 _ Tryz.underlying87 rfl sz3⟩
instance : FlI Tryz.prog 87 4 4 := ⟨Fld.mk' 4 _ Tryz.underlying87 rfl sz3⟩
instance : FlI Tryz.prog 87 5 5 := ⟨Fld.mk' 5 _ Tryz.underlying87 rfl sz3⟩
instance : FlI Tryz.prog 87 6 6 := ⟨Fld.mk' 6 _ Tryz.underlying87 rfl sz3⟩
instance : FlI Tryz.prog 87 7 7 := ⟨Fld.mk' 7 _ Tryz.underlying87 rfl sz3⟩
instance : FlI Tryz.prog 87 8 8 := ⟨Fld.mk' 8 _ Tryz.underlying87 rfl sz24⟩
instance : FlI Tryz.prog 87 9 9 := ⟨Fld.mk' 9 _ Tryz.underlying87 rfl sz24⟩
instance : FlI Tryz.prog 87 10 10 := ⟨Fld.mk' 10 _ Tryz.underlying87 rfl sz24⟩
instance : SlI Tryz.prog 42 87 := ⟨Tryz.underlying42⟩
theorem sz42 : Sz Tryz.prog 42 1 := Tryz.sizeOf42
instance : AgI Tryz.prog 42 false := ⟨Tryz.isAgg42⟩
instance : TyI Tryz.prog 42 [.s 11 0 fun _ _ => .j] := TyI.mk' (i := Tryz.t42) (by kernel_rfl) (by decide) (by decide) rfl (by decide) ⟨⟨by decide, rfl, rfl⟩, trivial⟩
theorem sz96 : Sz Tryz.prog 96 5 := Tryz.sizeOf96
instance : SzI Tryz.prog 96 5 := ⟨sz96⟩
theorem ag96 : Ag Tryz.prog 96 true := Tryz.isAgg96
instance : AgI Tryz.prog 96 true := ⟨ag96⟩
instance : TyI Tryz.prog 96 [.v (.bool false), .v (.int .i64 0), .v (.int .i64 0), .v (.int .i64 0), .v (.int .i64 0)] := TyI.mk' (i := Tryz.t96) (by kernel_rfl) (by decide) (by decide) rfl (by decide) ⟨⟨rfl, rfl⟩, ⟨rfl, rfl⟩, ⟨rfl, rfl⟩, ⟨rfl, rfl⟩, ⟨rfl, rfl⟩, trivial⟩
instance : FlI Tryz.prog 96 0 0 := ⟨Fld.mk' 0 _ Tryz.underlying96 rfl sz4⟩
instance : FlI Tryz.prog 96 1 1 := ⟨Fld.mk' 1 _ Tryz.underlying96 rfl sz3⟩
instance : FlI Tryz.prog 96 2 2 := ⟨Fld.mk' 2 _ Tryz.underlying96 rfl sz3⟩
instance : FlI Tryz.prog 96 3 3 := ⟨Fld.mk' 3 _ Tryz.underlying96 rfl sz3⟩
instance : FlI Tryz.prog 96 4 4 := ⟨Fld.mk' 4 _ Tryz.underlying96 rfl sz3⟩
instance : BdI Tryz.prog 96 [(0, 1), (1, 1), (2, 1), (3, 1), (4, 1)] := ⟨⟨_, Tryz.underlying96, fun w => by simp [Tryz.sizeOf3, Tryz.sizeOf4]⟩⟩
instance : SlI Tryz.prog 43 96 := ⟨Tryz.underlying43⟩
theorem sz43 : Sz Tryz.prog 43 1 := Tryz.sizeOf43
instance : AgI Tryz.prog 43 false := ⟨Tryz.isAgg43⟩
instance : TyI Tryz.prog 43 [.s 5 0 fun _ _ => .j] := TyI.mk' (i := Tryz.t43) (by kernel_rfl) (by decide) (by decide) rfl (by decide) ⟨⟨by decide, rfl, rfl⟩, trivial⟩
theorem sz46 : Sz Tryz.prog 46 4 := Tryz.sizeOf46
instance : SzI Tryz.prog 46 4 := ⟨sz46⟩
theorem ag46 : Ag Tryz.prog 46 true := Tryz.isAgg46
instance : AgI Tryz.prog 46 true := ⟨ag46⟩
instance : TyI Tryz.prog 46 [.v (.bool false), .s 1 0 fun _ _ => .j, .v (.int .i64 0), .v (.int .i64 0)] := TyI.mk' (i := Tryz.t46) (by kernel_rfl) (by decide) (by decide) rfl (by decide) ⟨⟨rfl, rfl⟩, ⟨by decide, rfl, rfl⟩, ⟨rfl, rfl⟩, ⟨rfl, rfl⟩, trivial⟩
instance : FlI Tryz.prog 46 0 0 := ⟨Fld.mk' 0 _ Tryz.underlying46 rfl sz4⟩
instance : FlI Tryz.prog 46 1 1 := ⟨Fld.mk' 1 _ Tryz.underlying46 rfl sz24⟩
instance : FlI Tryz.prog 46 2 2 := ⟨Fld.mk' 2 _ Tryz.underlying46 rfl sz3⟩
instance : FlI Tryz.prog 46 3 3 := ⟨Fld.mk' 3 _ Tryz.underlying46 rfl sz3⟩
instance : SlI Tryz.prog 44 46 := ⟨Tryz.underlying44⟩
theorem sz44 : Sz Tryz.prog 44 1 := Tryz.sizeOf44
instance : AgI Tryz.prog 44 false := ⟨Tryz.isAgg44⟩
instance : TyI Tryz.prog 44 [.s 4 0 fun _ _ => .j] := TyI.mk' (i := Tryz.t44) (by kernel_rfl) (by decide) (by decide) rfl (by decide) ⟨⟨by decide, rfl, rfl⟩, trivial⟩
theorem sz102 : Sz Tryz.prog 102 2 := Tryz.sizeOf102
instance : SzI Tryz.prog 102 2 := ⟨sz102⟩
theorem ag102 : Ag Tryz.prog 102 true := Tryz.isAgg102
instance : AgI Tryz.prog 102 true := ⟨ag102⟩
instance : TyI Tryz.prog 102 [.v (.bool false), .s 1 0 fun _ _ => .j] := TyI.mk' (i := Tryz.t102) (by kernel_rfl) (by decide) (by decide) rfl (by decide) ⟨⟨rfl, rfl⟩, ⟨by decide, rfl, rfl⟩, trivial⟩
instance : FlI Tryz.prog 102 0 0 := ⟨Fld.mk' 0 _ Tryz.underlying102 rfl sz4⟩
instance : FlI Tryz.prog 102 1 1 := ⟨Fld.mk' 1 _ Tryz.underlying102 rfl sz24⟩
instance : SlI Tryz.prog 45 102 := ⟨Tryz.underlying45⟩
theorem sz45 : Sz Tryz.prog 45 1 := Tryz.sizeOf45
instance : AgI Tryz.prog 45 false := ⟨Tryz.isAgg45⟩
instance : TyI Tryz.prog 45 [.s 2 0 fun _ _ => .j] := TyI.mk' (i := Tryz.t45) (by kernel_rfl) (by decide) (by decide) rfl (by decide) ⟨⟨by decide, rfl, rfl⟩, trivial⟩
theorem sz48 : Sz Tryz.prog 48 14 := Tryz.sizeOf48
instance : SzI Tryz.prog 48 14 := ⟨sz48⟩
theorem ag48 : Ag Tryz.prog 48 true := Tryz.isAgg48
instance : AgI Tryz.prog 48 true := ⟨ag48⟩
instance : TyI Tryz.prog 48 [.v (.int .i64 0), .v (.int .i64 0), .s 1 0 fun _ _ => .j, .s 11 0 fun _ _ => .j, .s 1 0 fun _ _ => .j, .s 1 0 fun _ _ => .j, .s 5 0 fun _ _ => .j, .s 4 0 fun _ _ => .j, .s 2 0 fun _ _ => .j, .v (.bool false), .s 1 0 fun _ _ => .j, .v (.int .i64 0), .v (.int .i64 0), .s 1 0 fun _ _ => .j] := TyI.mk' (i := Tryz.t48) (by kernel_rfl) (by decide) (by decide) rfl (by decide) ⟨⟨rfl, rfl⟩, ⟨rfl, rfl⟩, ⟨by decide, rfl, rfl⟩, ⟨by decide, rfl, rfl⟩, ⟨by decide, rfl, rfl⟩, ⟨by decide, rfl, rfl⟩, ⟨by decide, rfl, rfl⟩, ⟨by decide, rfl, rfl⟩, ⟨by decide, rfl, rfl⟩, ⟨rfl, rfl⟩, ⟨by decide, rfl, rfl⟩, ⟨rfl, rfl⟩, ⟨rfl, rfl⟩, ⟨by decide, rfl, rfl⟩, trivial⟩
instance : FlI Tryz.prog 48 0 0 := ⟨Fld.mk' 0 _ Tryz.underlying48 rfl sz3⟩
instance : FlI Tryz.prog 48 1 1 := ⟨Fld.mk' 1 _ Tryz.underlying48 rfl sz3⟩
instance : FlI Tryz.prog 48 2 2 := ⟨Fld.mk' 2 _ Tryz.underlying48 rfl sz34⟩
instance : FlI Tryz.prog 48 3 3 := ⟨Fld.mk' 3 _ Tryz.underlying48 rfl sz42⟩
instance : FlI Tryz.prog 48 4 4 := ⟨Fld.mk' 4 _ Tryz.underlying48 rfl sz24⟩
instance : FlI Tryz.prog 48 5 5 := ⟨Fld.mk' 5 _ Tryz.underlying48 rfl sz25⟩
instance : FlI Tryz.prog 48 6 6 := ⟨Fld.mk' 6 _ Tryz.underlying48 rfl sz43⟩
instance : FlI Tryz.prog 48 7 7 := ⟨Fld.mk' 7 _ Tryz.underlying48 rfl sz44⟩
instance : FlI Tryz.prog 48 8 8 := ⟨Fld.mk' 8 _ Tryz.underlying48 rfl sz45⟩
instance : FlI Tryz.prog 48 9 9 := ⟨Fld.mk' 9 _ Tryz.underlying48 rfl sz46⟩
instance : FlI Tryz.prog 48 10 13 := ⟨Fld.mk' 10 _ Tryz.underlying48 rfl sz24⟩
theorem sl241 : Sl Tryz.prog 241 5 := Tryz.underlying241
instance : SlI Tryz.prog 241 5 := ⟨Tryz.underlying241⟩
instance : SlI Tryz.prog 243 9 := ⟨Tryz.underlying243⟩
theorem eq170 (x0 : Int) (x1 : Int) (x2 : Int) (x3 : Int) (y0 : Int) (y1 : Int) (y2 : Int) (y3 : Int) (x y : Operand) (w : World) : (do eqGuard .eql 170 x y (.agg [iv x0, iv x1, iv x2, iv x3].toArray) (.agg [iv y0, iv y1, iv y2, iv y3].toArray); binOp .eql 170 (.agg [iv x0, iv x1, iv x2, iv x3].toArray) (.agg [iv y0, iv y1, iv y2, iv y3].toArray)).run Tryz.prog w = .ok (.bool (decide (x0 = y0 ∧ x1 = y1 ∧ x2 = y2 ∧ x3 = y3))) w := by
 have hg : ∀ w, (eqGuard .eql 170 x y (.agg [iv x0, iv x1, iv x2, iv x3].toArray) (.agg [iv y0, iv y1, iv y2, iv y3].toArray)).run Tryz.prog w = .ok () w := by
  intro w
  have : Tryz.prog.eqGuardType Tryz.prog.depth 170 = false := by kernel_rfl
  simp [eqGuard, this]
 have u3 := Tryz.underlying3
 have a3 := Tryz.isAgg3
 have z3 := Tryz.sizeOf3
 have hS : Tryz.prog.underlying 170 = some (.struct (Tryz.prog.fieldsOf 170)) := by kernel_rfl
 have hp : Tryz.prog.stoodInHeld 170 = false := by kernel_rfl
 simp only [Sem.run_bind, hg, Result.andThen]
 rw [run_eql_struct, show (10000 : Nat) = 9999 + 1 from rfl, run_equalIn_agg w 9999 170 _ _ hS hp]
 simp only [Program.fieldsOf, Tryz.underlying170]
 go_simp
 by_cases h0 : x0 = y0 <;> by_cases h1 : x1 = y1 <;> by_cases h2 : x2 = y2 <;> by_cases h3 : x3 = y3 <;> simp [h0, h1, h2, h3]
theorem ne96 (x0 : Bool) (x1 : Int) (x2 : Int) (x3 : Int) (x4 : Int) (y0 : Bool) (y1 : Int) (y2 : Int) (y3 : Int) (y4 : Int) (x y : Operand) (w : World) : (do eqGuard .neq 96 x y (.agg [Value.bool x0, iv x1, iv x2, iv x3, iv x4].toArray) (.agg [Value.bool y0, iv y1, iv y2, iv y3, iv y4].toArray); binOp .neq 96 (.agg [Value.bool x0, iv x1, iv x2, iv x3, iv x4].toArray) (.agg [Value.bool y0, iv y1, iv y2, iv y3, iv y4].toArray)).run Tryz.prog w = .ok (.bool (!decide (x0 = y0 ∧ x1 = y1 ∧ x2 = y2 ∧ x3 = y3 ∧ x4 = y4))) w := by
 have hg : ∀ w, (eqGuard .neq 96 x y (.agg [Value.bool x0, iv x1, iv x2, iv x3, iv x4].toArray) (.agg [Value.bool y0, iv y1, iv y2, iv y3, iv y4].toArray)).run Tryz.prog w = .ok () w := by
  intro w
  have : Tryz.prog.eqGuardType Tryz.prog.depth 96 = false := by kernel_rfl
  simp [eqGuard, this]
 have u3 := Tryz.underlying3
 have a3 := Tryz.isAgg3
 have z3 := Tryz.sizeOf3
 have u4 := Tryz.underlying4
 have a4 := Tryz.isAgg4
 have z4 := Tryz.sizeOf4
 have hS : Tryz.prog.underlying 96 = some (.struct (Tryz.prog.fieldsOf 96)) := by kernel_rfl
 have hp : Tryz.prog.stoodInHeld 96 = false := by kernel_rfl
 simp only [Sem.run_bind, hg, Result.andThen]
 rw [run_neq_struct, show (10000 : Nat) = 9999 + 1 from rfl, run_equalIn_agg w 9999 96 _ _ hS hp]
 simp only [Program.fieldsOf, Tryz.underlying96]
 go_simp
 by_cases h0 : x0 = y0 <;> by_cases h1 : x1 = y1 <;> by_cases h2 : x2 = y2 <;> by_cases h3 : x3 = y3 <;> by_cases h4 : x4 = y4 <;> simp [h0, h1, h2, h3, h4]
end Go.Proofs.YtldefnpobjabpaaGreat.VM
